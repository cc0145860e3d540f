/- Walks and rules. Conditions: none. -/
import Derived.Test.YtbgjkfbeofbngaaGreatEvA
set_option linter.unusedVariables false
set_option linter.unusedSectionVars false
namespace Go.Ev
noncomputable section
structure T4 (α:Type)where
 a:α
 b:α
 c:α
 d:α
abbrev Le (α:Type):=T4 (T4 α)
abbrev az (α:Type):=T4 (T4 (T4 α))
structure R (α:Type)where
 a:T4 α
 b:T4 (T4 α)
 c:T4 (T4 (T4 α))
 d:T4 (T4 (T4 (T4 (T4 (T4 α)))))
def rp {α:Type}(x:α):T4 α:=⟨x,x,x,x⟩
def FA {α:Type}(x:α):Le α:=rp (rp x)
def fV {α:Type}(x:α):az α:=rp (FA x)
def rpR {α:Type}(x:α):R α:=⟨rp x,FA x,fV x,fV (fV x)⟩
structure Len (F:Type->Type)where
 g:(α:Type)->F α->α
 p:(α:Type)->α->F α->F α
abbrev Acc:=Len az
abbrev bZ:=Len R
def lnA:Len T4:=by
 refine(?f:(aM:Len T4)->aM=(
  ⟨λ_ t=>t.a,λ_ v t=>⟨v,t.b,t.c,t.d⟩⟩)->Len T4) ?x ?p
 case p=>(try delta R.a R.b R.c R.d T4.a T4.b T4.c T4.d);exact rfl
 case f=>exactλx _=>x
def lnB:Len T4:=by
 refine(?f:(aM:Len T4)->aM=(
  ⟨λ_ t=>t.b,λ_ v t=>⟨t.a,v,t.c,t.d⟩⟩)->Len T4) ?x ?p
 case p=>(try delta R.a R.b R.c R.d T4.a T4.b T4.c T4.d);exact rfl
 case f=>exactλx _=>x
def lnC:Len T4:=by
 refine(?f:(aM:Len T4)->aM=(
  ⟨λ_ t=>t.c,λ_ v t=>⟨t.a,t.b,v,t.d⟩⟩)->Len T4) ?x ?p
 case p=>(try delta R.a R.b R.c R.d T4.a T4.b T4.c T4.d);exact rfl
 case f=>exactλx _=>x
def lnD:Len T4:=by
 refine(?f:(aM:Len T4)->aM=(
  ⟨λ_ t=>t.d,λ_ v t=>⟨t.a,t.b,t.c,v⟩⟩)->Len T4) ?x ?p
 case p=>(try delta R.a R.b R.c R.d T4.a T4.b T4.c T4.d);exact rfl
 case f=>exactλx _=>x
def abD {G:Type->Type}(F:Type->Type)(x:Len F)(y:Len G):Len (λα=>F (G α)):=by
 refine(?f:(aM:Len (λα=>F (G α)))->aM=(
  ⟨λα t=>y.g α (x.g (G α) t),λα v t=>x.p (G α) (y.p α v (x.g (G α) t)) t⟩)->Len (λα=>F (G α))) ?x ?p
 case p=>(try delta Len.g Len.p);exact rfl
 case f=>exactλx _=>x
def agx (x:Len T4):bZ:=by
 refine(?f:(aM:bZ)->aM=(
  ⟨λα t=>x.g α t.a,λα v t=>⟨x.p α v t.a,t.b,t.c,t.d⟩⟩)->bZ) ?x ?p
 case p=>(try delta Len.g Len.p R.a R.b R.c R.d T4.a T4.b T4.c T4.d);exact rfl
 case f=>exactλx _=>x
def ae5 (x:Len Le):bZ:=by
 refine(?f:(aM:bZ)->aM=(
  ⟨λα t=>x.g α t.b,λα v t=>⟨t.a,x.p α v t.b,t.c,t.d⟩⟩)->bZ) ?x ?p
 case p=>(try delta Len.g Len.p R.a R.b R.c R.d T4.a T4.b T4.c T4.d);exact rfl
 case f=>exactλx _=>x
def agy (x:Acc):bZ:=by
 refine(?f:(aM:bZ)->aM=(
  ⟨λα t=>x.g α t.c,λα v t=>⟨t.a,t.b,x.p α v t.c,t.d⟩⟩)->bZ) ?x ?p
 case p=>(try delta Len.g Len.p R.a R.b R.c R.d T4.a T4.b T4.c T4.d);exact rfl
 case f=>exactλx _=>x
def agz (x:Len (λα=>az (az α))):bZ:=by
 refine(?f:(aM:bZ)->aM=(
  ⟨λα t=>x.g α t.d,λα v t=>⟨t.a,t.b,t.c,x.p α v t.d⟩⟩)->bZ) ?x ?p
 case p=>(try delta Len.g Len.p R.a R.b R.c R.d T4.a T4.b T4.c T4.d);exact rfl
 case f=>exactλx _=>x
def aiH {β:Type 1}(n:Nat)(a b c d:β):β:=Nat.rec (motive:=λ_=>β) a (λm _=>Nat.rec (motive:=λ_=>β) b (λm _=>Nat.rec (motive:=λ_=>β) c (λ_ _=>d) m) m) n
def lnK (n:Nat):Len T4:=aiH (Nat.mod n 4) lnA lnB lnC lnD
def yC (n:Nat):Acc:=abD T4 (lnK (Nat.div n 16)) (abD T4 (lnK (Nat.div n 4)) (lnK n))
def Vc (n:Nat):Acc:=by
 refine(?f:(aM:Acc)->aM=(
  ⟨(yC n).g,(yC n).p⟩)->Acc) ?x ?p
 case p=>(try delta Len.g Len.p);exact rfl
 case f=>exactλx _=>x
def dE (n:Nat):Acc:=Nat.rec (motive:=λ_=>Acc) (Vc 0) (λm _=>Vc (Nat.succ m)) (Nat.mod n 64)
def da (n:Nat):bZ:=Bool.rec (motive:=λ_=>bZ) (Bool.rec (motive:=λ_=>bZ) (Bool.rec (motive:=λ_=>bZ) (agz (abD az (dE (Nat.div (Nat.sub n 84) 64)) (dE (Nat.sub n 84)))) (agy (yC (Nat.sub n 20))) (Nat.blt n 84)) (ae5 (abD T4 (lnK (Nat.div (Nat.sub n 4) 4)) (lnK (Nat.sub n 4)))) (Nat.blt n 20)) (agx (lnK n)) (Nat.blt n 4)
def rg {α:Type}(i:Nat)(t:R α):α:=by
 refine(?f:(aM:α)->aM=(
  (da i).g α t)->α) ?x ?p
 case p=>(try delta Len.g);exact rfl
 case f=>exactλx _=>x
def jh {α:Type}(i:Nat)(x:α)(t:R α):R α:=by
 refine(?f:(aM:R α)->aM=(
  (da i).p α x t)->R α) ?x ?p
 case p=>(try delta Len.p);exact rfl
 case f=>exactλx _=>x
def J0 {α:Type}(i:Nat)(f:α->α)(t:R α):R α:=by
 refine(?f:(aM:R α)->aM=(
  (da i).p α (f ((da i).g α t)) t)->R α) ?x ?p
 case p=>(try delta Len.g Len.p);exact rfl
 case f=>exactλx _=>x
structure V where
 r:List (R V)
 x:AV
 t:Nat
 f:Nat
 e:Nat
 d:Nat
 c:Nat
 b:Nat
 a:Nat
def cH (x:AV):V:=⟨[],x,0,0,0,0,0,0,0⟩
def mZ (x:AV):V:=⟨[],x,11,0,0,0,0,0,0⟩
def vI:Nat->V:=V.mk [] .undef 1 0 0 0 0 0
def vT:V:=⟨[],.undef,2,0,0,0,0,0,0⟩
def vF:V:=⟨[],.undef,3,0,0,0,0,0,0⟩
def vP:Nat->Nat->Nat->V:=V.mk [] .undef 4 0 0 0
def vS:Nat->Nat->Nat->Nat->Nat->Nat->V:=V.mk [] .undef 5
def vN:V:=⟨[],.undef,6,0,0,0,0,0,0⟩
def vM:Nat->V:=V.mk [] .undef 7 0 0 0 0 0
def R1 (f:Nat)(n m:Nat)(r:R V):V:=⟨[r],.undef,8,0,0,0,n,m,f⟩
def vAgg (r:R V)(off n:Nat):V:=⟨[r],.undef,9,0,0,0,0,n,off⟩
def oU (r:R V)(n:Nat):V:=⟨[r],.undef,10,0,0,0,0,n,0⟩
def vU:V:=oU (rpR (cH .nilFunc)) 0
def cT:R V:=rpR vU
def vB (b:Bool):V:=Bool.rec (motive:=λ_=>V) vF vT b
def ae:Nat:=4611686018427387904
structure LP where
 e:R V
 nt:Nat
 ps:List Nat
 asg:Code
 body:Code
 st:Nat
 pend:Nat
 D:Nat
structure FO where
 lp:LP
 rs:R (R V)
 m:List (AV × AV)
 t:Nat
 n:Nat
 sz:Nat
structure sw where
 ds:List Nat
 rd:Nat
structure FH where
 h:az (az (az FO))
 next:Nat
 fr:sw
def mW:R (R V):=rpR cT
def pU:LP:=⟨cT,0,[],.skip,.skip,0,0,0⟩
def l9:FO:=⟨pU,mW,[],0,0,0⟩
def Kz:sw:=⟨[],0⟩
def fh0:FH:=⟨fV (fV (fV l9)),0,Kz⟩
def hget (b:Nat)(h:FH):FO:=by
 refine(?f:(aM:FO)->aM=(
  (dE b).g FO ((dE (Nat.div b 64)).g (az FO) ((dE (Nat.div b 4096)).g (az (az FO)) h.h)))->FO) ?x ?p
 case p=>(try delta FH.h Len.g);exact rfl
 case f=>exactλx _=>x
def mf (b:Nat)(f:FO->FO)(h:FH):FH:=by
 refine(?f:(aM:FH)->aM=(
  ⟨(dE (Nat.div b 4096)).p (az (az FO)) ((dE (Nat.div b 64)).p (az FO) ((dE b).p FO (f (hget b h)) ((dE (Nat.div b 64)).g (az FO) ((dE (Nat.div b 4096)).g (az (az FO)) h.h))) ((dE (Nat.div b 4096)).g (az (az FO)) h.h)) h.h,h.next,h.fr⟩)->FH) ?x ?p
 case p=>(try delta FH.h FH.next FH.fr Len.g Len.p);exact rfl
 case f=>exactλx _=>x
def hput (b:Nat)(o:FO)(h:FH):FH:=mf b (λ_=>o) h
def af (b:Bool)(y n:Bool):Bool:=Bool.rec (motive:=λ_=>Bool) n y b
def j8 (n:Nat)(k:Nat->Bool):Bool:=Nat.rec (motive:=λ_=>Bool) (k 0) (λm _=>k (Nat.succ m)) n
def aU (a b:Bool):Bool:=Bool.rec (motive:=λ_=>Bool) false b a
def aE {α:Type}(x:Option α)(f:α->Bool):Bool:=Option.rec (motive:=λ_=>Bool) false (λp=>f p) x
def Ba (vs:List V):Nat->R V->R V:=List.rec (motive:=λ_=>Nat->R V->R V) (λ_ r=>r) (λv _ ih o r=>ih (Nat.succ o) (jh o v r)) vs
def rowV (vs:List V):R V:=Ba vs 0 cT
def uy (src:R V)(n:Nat):Nat->Nat->R V->R V:=Nat.rec (motive:=λ_=>Nat->Nat->R V->R V) (λ_ _ r=>r) (λ_ ih i o r=>ih (Nat.succ i) (Nat.succ o) (jh o (rg i src) r)) n
def bJ (row:R V)(n:Nat):Nat->List V:=Nat.rec (motive:=λ_=>Nat->List V) (λ_=>[]) (λ_ ih o=>rg o row::ih (Nat.succ o)) n
def eZ (a:Nat):Int:=Bool.rec (motive:=λ_=>Int) (Int.negSucc (Nat.pred (Nat.sub ae a))) (Int.ofNat (Nat.sub a ae)) (Nat.ble ae a)
def Kq (n:Nat):V->Option AV:=by
 refine(?f:(aM:V->Option AV)->aM=(
  Nat.rec (motive:=λ_=>V->Option AV) (λ_=>none) (λ_ ih v=>match v.t with
   | 0=>some v.x
   | 1=>some (.int .i64 (eZ v.a))
   | 2=>some (.bool true)
   | 3=>some (.bool false)
   | 4=>some (.ptr (some ⟨v.c,v.b,v.a⟩))
   | 5=>some (.slice (some ⟨v.f,v.e,v.d⟩) v.c v.b (Nat.beq (Nat.mod v.a 2) 1) (Nat.div v.a 2))
   | 6=>some (.ptr none)
   | 7=>some (.map (some v.a))
   | 8=>match v.r with
    | [r]=>match aI ih (bJ r v.c 0),aI ih (bJ r v.b v.c) with
     | some x,some y=>some (.func v.a x y)
     | _,_=>none
    | _=>none
   | 9=>match v.r with
    | [r]=>match aI ih (bJ r v.b v.a)with | some x=>some (.agg x) | none=>none
    | _=>none
   | 10=>match v.r with
    | [r]=>match aI ih (bJ r v.b 0)with | some x=>some (.tuple x) | none=>none
    | _=>none
   | 11=>some v.x
   | _=>none) n)->V->Option AV) ?x ?p
 case p=>(try delta V.r V.x V.t V.f V.e V.d V.c V.b V.a FO.t LP.e R.a R.b R.c R.d T4.a T4.b T4.c T4.d);exact rfl
 case f=>exactλx _=>x
def av (v:V):Option AV:=Kq 6 v
def mkInt (k:IntKind)(n:Int):V:=match k with
 | .i64=>match n with
  | .ofNat m=>match Nat.blt m ae with | true=>vI (Nat.add m ae) | false=>cH (.int .i64 (.ofNat m))
  | .negSucc m=>match Nat.blt m ae with | true=>vI (Nat.sub ae (Nat.succ m)) | false=>cH (.int .i64 (.negSucc m))
 | k=>cH (.int k n)
def mkV (a:AV):V:=by
 refine(?f:(aM:V)->aM=(
  AV.rec (motive_1:=λ_=>V) (motive_2:=λ_=>Nat->R V->R V)
   (λb=>vB b) (λk n=>mkInt k n) (λs=>cH (.str s)) (λp=>Option.rec (motive:=λ_=>V) vN (λp=>Bool.rec (motive:=λ_=>V) (cH (.ptr (some p))) (vP p.b p.r p.o) (Nat.blt p.b 262144)) p)
   (λp l c s w=>Option.rec (motive:=λ_=>V) (cH (.slice none l c s w)) (λp=>Bool.rec (motive:=λ_=>V) (cH (.slice (some p) l c s w)) (vS p.b p.r p.o l c (Nat.add (Nat.mul w 2) (Bool.rec (motive:=λ_=>Nat) 0 1 s))) (Nat.blt p.b 262144)) p)
   (cH .empty) (λp=>Option.rec (motive:=λ_=>V) (cH (.map none)) (λp=>Bool.rec (motive:=λ_=>V) (cH (.map (some p))) (vM p) (Nat.blt p 262144)) p)
   (λf x y ix iy=>Bool.rec (motive:=λ_=>V) (cH (.func f x y)) (R1 f (aK x) (aK y) (iy (aK x) (ix 0 cT))) (Nat.ble (Nat.add (aK x) (aK y)) 4180))
   (λn v _=>cH (.mfunc n v)) (λl=>cH (.yield l)) (cH .nilFunc) (λt v _=>cH (.iface t v)) (cH .nilIface)
   (λcs ih=>Bool.rec (motive:=λ_=>V) (mZ (.agg cs)) (vAgg (ih 0 cT) 0 (aK cs)) (Nat.ble (aK cs) 4180))
   (λcs ih=>Bool.rec (motive:=λ_=>V) (mZ (.tuple cs)) (oU (ih 0 cT) (aK cs)) (Nat.ble (aK cs) 4180))
   (λ_ r=>r) (λ_ _ v ih o r=>ih (Nat.succ o) (jh o v r)) a)->V) ?x ?p
 case p=>(try delta V.r V.b R.b T4.b);exact rfl
 case f=>exactλx _=>x
def c9 {α:Type}(x:List α)(f:α->Bool):Bool:=List.rec (motive:=λ_=>Bool) false (λp _ _=>f p) x
end
end Go.Ev
namespace Go.Ev
noncomputable section
section
variable (P:Program)(I:TypeId->Option TypeInfo)
def eH (t:TypeId):Option TypeDesc:=match I t with
 | some { desc:=.named _ u,.. }=>(I u).map (·.desc)
 | some i=>some i.desc
 | none=>none
def sizeG (t:TypeId):Option Nat:=match I t with | some i=>some i.size | none=>none
def BF (t:TypeId):Option Nat:=match I t with | some i=>some i.bytes | none=>none
def i8 (t:TypeId):Option Bool:=match eH I t with | some (.struct _)=>some true | some (.array _ _)=>some true | some _=>some false | none=>none
def Ge (t:TypeId):Option AV:=match I t with | some i=>(match i.zero with | some v=>ofVal v | none=>none) | none=>none
def jR (t:TypeId)(n:Nat):Option (List AV):=match Ge I t with | some z=>partCells n z | none=>none
def eqPlanG (cst:Bool):Nat->TypeId->Option dC
 | 0,_=>none
 | d+1,t=>
  match eH I t with
  | some .bool=>some .pb
  | some (.int _)=>some .pi
  | some .string=>some .ps
  | some (.pointer e)=>match sizeG I e with | some (Nat.succ _)=>some .ptr | _=>none
  | some (.slice _)=>some .DB
  | some (.map _ _)=>some .Zp
  | some (.func _ _ _)=>some .V9
  | some (.interface _)=>some (.iface cst)
  | some (.struct fs)=>
   match P.stoodInHeld t with
   | true=>none
   | false=>match aI (λf:Field=>match f.name != "_",sizeG I f.type,i8 I f.type,eqPlanG false d f.type with
     | true,some n,some g,some p=>some (f.offset,n,g,p)
     | _,_,_,_=>none) fs.toList with
    | some l=>some (.agg l)
    | none=>none
  | some (.array len elem)=>
   match sizeG I elem,i8 I elem,eqPlanG false d elem with
   | some n,some g,some p=>some (.agg ((List.range len).map λi=>(i*n,n,g,p)))
   | _,_,_=>none
  | _=>none
def sY (t:TypeId)(i:Nat):Option Field:=
 match eH I t with
 | some (.struct fs)=>fs[i]?
 | _=>none
def rn (t:TypeId):Option dC:=
 match eH I t with
 | some (.int _)=>some .pi
 | some .string=>some .ps
 | some .bool=>some .pb
 | _=>none
def cBuildG (t:TypeId)(parts:List (Nat × Operand)):Option AOp:=
 match eH I t,Ge I t with
 | some (.struct fs),some (.agg z)=>
  match aI (λp:Nat × Operand=>match fs[p.1]? with
    | some f=>match sizeG I f.type with | some n=>some (f.offset,n,p.2) | none=>none
    | none=>none) parts with
  | some l=>match d9 (λf:Field=>(sizeG I f.type).isSome) fs.toList with | true=>some (.build z l) | false=>none
  | none=>none
 | some (.array _ elem),some (.agg z)=>
  match sizeG I elem with
  | some n=>some (.build z (parts.map λp=>(p.1*n,n,p.2)))
  | none=>none
 | _,_=>none
def cBinG (op:BinOp)(t:TypeId)(x y:Operand):Option AOp:=
 match op with
 | .eql=>match P.eqGuardType P.depth t,eH I t with
  | true,some (.interface _)=>match eqPlanG P I (isConst x||isConst y) 20 t with | some p=>some (.eql false p x y) | none=>none
  | true,_=>none
  | false,_=>match eqPlanG P I (isConst x||isConst y) 20 t with | some p=>some (.eql false p x y) | none=>none
 | .neq=>match P.eqGuardType P.depth t,eH I t with
  | true,some (.interface _)=>match eqPlanG P I (isConst x||isConst y) 20 t with | some p=>some (.eql true p x y) | none=>none
  | true,_=>none
  | false,_=>match eqPlanG P I (isConst x||isConst y) 20 t with | some p=>some (.eql true p x y) | none=>none
 | _=>some (.arith op x y)
def yU (b:Builtin)(ts:List TypeId)(args:List Operand):Option AOp:=
 match b,ts,args with
 | .len,[t],[x]=>match eH I t with
  | some .string=>some (.lenT x)
  | some (.slice _)=>some (.lenS x)
  | some (.map _ _)=>some (.lenM x)
  | some (.array n _)=>some (.lenC n)
  | some (.pointer a)=>match eH I a with | some (.array n _)=>some (.lenC n) | _=>none
  | _=>none
 | .cap,[t],[x]=>match eH I t with
  | some (.slice _)=>some (.cap x)
  | _=>none
 | .min,_,l=>some (.minmax false l)
 | .max,_,l=>some (.minmax true l)
 | .append,[t,u],[s,x]=>match eH I t with
  | some (.slice e)=>match sizeG I e,BF I e,eH I u with
   | some (Nat.succ n),some bs,some (.int _)=>match jR I e (Nat.succ n) with
    | some z=>some (.appendZ (Nat.succ n) bs z s x)
    | none=>none
   | some (Nat.succ n),some bs,some (.slice _)=>match jR I e (Nat.succ n) with
    | some _=>some (.append (Nat.succ n) bs s x)
    | none=>none
   | _,_,_=>none
  | _=>none
 | .copy,[t,_],[d,s]=>match eH I t with
  | some (.slice e)=>match sizeG I e with
   | some (Nat.succ n)=>some (.copy (Nat.succ n) d s)
   | _=>none
  | _=>none
 | .clear,[t],[x]=>match eH I t with
  | some (.slice e)=>match sizeG I e with
   | some (Nat.succ n)=>match jR I e (Nat.succ n) with
    | some z=>some (.clear (Nat.succ n) z x)
    | none=>none
   | _=>none
  | _=>none
 | .delete,[t,_],[m,k]=>match eH I t with
  | some (.map kt _)=>match rn I kt with | some kk=>some (.delete kk m k) | none=>none
  | _=>none
 | _,_,_=>none
end
def cq1 (P:Program)(I:TypeId->Option TypeInfo)(t:TypeId):Option AOp:=match sizeG I t with
  | some (Nat.succ n)=>match jR I t (Nat.succ n) with
   | some z=>some (.alloc (Nat.succ n) z)
   | none=>none
  | _=>none
def cq2 (P:Program)(I:TypeId->Option TypeInfo)(t:TypeId)(x:Operand):Option AOp:=match sizeG I t with | some (Nat.succ n)=>some (.box (Nat.succ n) x) | _=>none
def cq3 (P:Program)(I:TypeId->Option TypeInfo)(t:TypeId)(len:Nat)(parts:Array (Nat × Operand)):Option AOp:=match eH I t with
  | some (.slice e)=>match sizeG I e with
   | some (Nat.succ n)=>match jR I e (Nat.succ n) with
    | some z=>match Nat.ble (len*Nat.succ n) 16777216 with
     | true=>some (.bslice (Nat.succ n) len z parts.toList)
     | false=>none
    | none=>none
   | _=>none
  | _=>none
def cq4 (P:Program)(I:TypeId->Option TypeInfo)(t:TypeId)(x:Operand):Option AOp:=match i8 I t,sizeG I t with
  | some g,some (Nat.succ n)=>match g,n with
   | false,Nat.succ _=>none
   | _,_=>some (.load g (Nat.succ n) x)
  | _,_=>none
def cq5 (P:Program)(I:TypeId->Option TypeInfo)(t:TypeId)(a:Operand)(x:Operand):Option AOp:=match sizeG I t with | some (Nat.succ n)=>some (.store (Nat.succ n) a x) | _=>none
def cq6 (P:Program)(I:TypeId->Option TypeInfo)(s:TypeId)(d:TypeId)(x:Operand):Option AOp:=match eH I s,eH I d with
  | some (.int _),some (.int k)=>some (.convI k x)
  | some .string,some .string=>some (.convS x)
  | some (.slice e),some .string=>match eH I e,sizeG I e with
   | some (.int .u8),some 1=>some (.b2s x)
   | _,_=>none
  | _,_=>none
def cq7 (P:Program)(I:TypeId->Option TypeInfo)(t:TypeId)(x:Operand):Option AOp:=match eH I t with
  | some (.interface _)=>none
  | some _=>some (.mkif t x)
  | none=>none
def cq8 (P:Program)(I:TypeId->Option TypeInfo)(n:String)(first:Array Operand)(cap:Array Operand):Option AOp:=match first.toList,cap.toList with
  | [x],[]=>some (.mkmf n x)
  | _,_=>none
def cq9 (P:Program)(I:TypeId->Option TypeInfo)(t:TypeId)(m:Operand)(k:Operand)(v:Operand):Option AOp:=by
 refine(?f:(aM:Option AOp)->aM=(
  match eH I t with
    | some (.map kt _)=>match rn I kt with | some kk=>some (.ins false kk m k v) | none=>none
    | _=>none)->Option AOp) ?x ?p
 case p=>exact rfl
 case f=>exactλx _=>x
def Xi (P:Program)(I:TypeId->Option TypeInfo)(t:TypeId)(m:Operand)(k:Operand)(v:Operand):Option AOp:=by
 refine(?f:(aM:Option AOp)->aM=(
  match eH I t with
    | some (.map kt _)=>match rn I kt with | some kk=>some (.ins true kk m k v) | none=>none
    | _=>none)->Option AOp) ?x ?p
 case p=>exact rfl
 case f=>exactλx _=>x
def Xj (P:Program)(I:TypeId->Option TypeInfo)(t:TypeId)(l:Operand)(c:Operand):Option AOp:=match eH I t with
  | some (.slice e)=>match sizeG I e,BF I e with
   | some (Nat.succ n),some bs=>match jR I e (Nat.succ n) with
    | some z=>some (.mkslice (Nat.succ n) bs z l c)
    | none=>none
   | _,_=>none
  | _=>none
def Xk (P:Program)(I:TypeId->Option TypeInfo)(t:TypeId)(x:Operand)(lo:Option Operand)(hi:Option Operand)(mx:Option Operand):Option AOp:=match eH I t with
  | some (.slice e)=>match sizeG I e with | some (Nat.succ n)=>some (.slc (Nat.succ n) x lo hi mx) | _=>none
  | some (.array n e)=>match sizeG I e with | some (Nat.succ k)=>some (.slcA n (Nat.succ k) x lo hi mx) | _=>none
  | some .string=>match mx with | none=>some (.slcS x lo hi) | some _=>none
  | _=>none
def Xl (P:Program)(I:TypeId->Option TypeInfo)(t:TypeId)(x:Operand)(i:Nat):Option AOp:=match sY I t i with
  | some f=>match sizeG I f.type with | some (Nat.succ _)=>some (.faddr f.offset x) | _=>none
  | none=>none
def Xm (P:Program)(I:TypeId->Option TypeInfo)(t:TypeId)(x:Operand)(i:Nat):Option AOp:=match sY I t i with
  | some f=>match sizeG I f.type,i8 I f.type with
   | some (Nat.succ n),some g=>match g,n with
    | false,Nat.succ _=>none
    | _,_=>some (.fld f.offset (Nat.succ n) g x)
   | _,_=>none
  | none=>none
def Xn (P:Program)(I:TypeId->Option TypeInfo)(t:TypeId)(x:Operand)(i:Operand):Option AOp:=match eH I t with
  | some (.slice e)=>match sizeG I e with | some (Nat.succ n)=>some (.iaddrS (Nat.succ n) x i) | _=>none
  | some (.array n e)=>match sizeG I e with | some (Nat.succ k)=>some (.iaddrA n (Nat.succ k) x i) | _=>none
  | _=>none
def Xo (P:Program)(I:TypeId->Option TypeInfo)(t:TypeId)(x:Operand)(i:Operand):Option AOp:=match eH I t with
  | some (.array n e)=>match sizeG I e,i8 I e with
   | some (Nat.succ k),some g=>match g,k with
    | false,Nat.succ _=>none
    | _,_=>some (.idxA n (Nat.succ k) g x i)
   | _,_=>none
  | some .string=>some (.idxS x i)
  | _=>none
def Xp (P:Program)(I:TypeId->Option TypeInfo)(t:TypeId)(m:Operand)(k:Operand)(ok:Bool):Option AOp:=match eH I t with
  | some (.map kt e)=>match rn I kt,Ge I e with
   | some kk,some z=>some (.look kk z ok m k)
   | _,_=>none
  | _=>none
def Xq (P:Program)(I:TypeId->Option TypeInfo)(c:Call):Option AOp:=by
 refine(?f:(aM:Option AOp)->aM=(
  match c.callee with
    | .value f=>some (.call f c.args.toList)
    | .invoke r n=>some (.invoke r n c.args.toList)
    | .builtin b=>yU I b c.argTypes.toList c.args.toList)->Option AOp) ?x ?p
 case p=>exact rfl
 case f=>exactλx _=>x
def Xr (P:Program)(I:TypeId->Option TypeInfo)(c:Call):Option AOp:=match c.callee with
  | .value f=>some (.defr f c.args.toList)
  | _=>none
def Xs (P:Program)(I:TypeId->Option TypeInfo)(f:Go.Fn)(first cap:Array Operand):Option AOp:=match f with
 | .func f=>some (.mkfn f first.toList cap.toList)
 | .method n=>cq8 P I n first cap
 | _=>none
def Xt (r:Option Operand):Option AOp:=match r with | none=>some .mkmap | some _=>none
def Ts (P:Program)(I:TypeId->Option TypeInfo)(op:Op):Option AOp:=Op.rec (motive:=λ_=>Program->(TypeId->Option TypeInfo)->Option AOp)
 (λy0 P I=>some (.mv y0)) (λy0 P I=>some (.mv y0)) (λy0 y1 y2 P I=>some (.pick y0 y1 y2)) (λy0 P I=>cq1 P I y0) (λy0 y1 P I=>cq2 P I y0 y1) (λy0 y1 P I=>cBuildG I y0 y1.toList) (λy0 y1 y2 P I=>cq3 P I y0 y1 y2) (λy0 y1 y2 y3 P I=>Xi P I y0 y1 y2 y3) (λy0 y1 P I=>cq4 P I y0 y1) (λy0 y1 y2 P I=>cq5 P I y0 y1 y2) (λy0 P I=>none) (λy0 P I=>none) (λy0 P I=>some (.nilchk y0)) (λy0 y1 y2 y3 y4 P I=>cBinG P I y0 y1 y2 y3) (λy0 y1 y2 P I=>some (.un y0 y2)) (λy0 y1 y2 P I=>cq6 P I y0 y1 y2) (λy0 y1 P I=>none) (λy0 y1 P I=>cq7 P I y0 y1) (λy0 y1 y2 P I=>Xs P I y0 y1 y2) (λy0 y1 P I=>Xt y1) (λy0 y1 P I=>none) (λy0 y1 y2 P I=>Xj P I y0 y1 y2) (λy0 y1 y2 y3 y4 P I=>Xk P I y0 y1 y2 y3 y4) (λy0 y1 y2 P I=>Xl P I y0 y1 y2) (λy0 y1 y2 P I=>Xm P I y0 y1 y2) (λy0 y1 y2 P I=>Xn P I y0 y1 y2) (λy0 y1 y2 P I=>Xo P I y0 y1 y2) (λy0 y1 y2 y3 P I=>Xp P I y0 y1 y2 y3) (λy0 y1 y2 y3 P I=>cq9 P I y0 y1 y2 y3) (λy0 y1 y2 P I=>none) (λy0 y1 y2 y3 P I=>none) (λy0 y1 P I=>none) (λy0 y1 P I=>none) (λy0 P I=>none) (λy0 y1 y2 y3 P I=>none) (λy0 y1 P I=>some (.extract y0 y1)) (λy0 P I=>Xq P I y0) (λy0 P I=>none) (λy0 P I=>Xr P I y0) (λy0 P I=>none) (λy0 y1 P I=>none) (λy0 y1 y2 P I=>none) (λy0 y1 P I=>none) op P I
def ri (P:Program)(t:TypeId):Option TypeInfo:=match dJ P.types.toList t with | some i=>some i | none=>P.info? t
def BJ (P:Program)(op:Op):Option AOp:=Ts P (ri P) op
theorem vc (P:Program):∀(n:Nat)(cst:Bool)(t:TypeId),eqPlanG P P.info? cst n t=eqPlan P cst n t:=by
 intro n
 induction n with
 | zero=>intro cst t;rfl
 | succ n ih=>
  intro cst t
  unfold eqPlanG eqPlan
  simp only[ih]
  rfl
theorem BH (P:Program)(op:BinOp)(t:TypeId)(x y:Operand):cBinG P P.info? op t x y=cBin P op t x y:=by
 unfold cBinG cBin
 simp only[vc]
 rfl
theorem Id (P:Program)(op:Op):Ts P P.info? op=cOp P op:=by
 cases op with
 | binOp op t x y z=>exact BH P op t x y
 | _=>first | rfl | (rename_i fn a b;cases fn<;>rfl) | (rename_i fn a b;cases fn<;>cases a<;>cases b<;>rfl) | (rename_i t r;cases r<;>rfl)
theorem rj (P:Program):ri P=P.info?:=by
 funext t
 unfold ri
 have hl:∀(l:List TypeInfo)(n:Nat),dJ l n=l[n]?:=by
  intro l
  induction l with
  | nil=>intro n;rfl
  | cons a l ih=>intro n;cases n with | zero=>rfl | succ n=>rw[List.getElem?_cons_succ];exact ih n
 rw[hl,Array.getElem?_toList]
 split
 ·rename_i i hi
  have hlt:t<P.types.size:=(Array.getElem?_eq_some_iff.1 hi).1
  have:P.info? t=P.types[t]?:=if_pos hlt
  rw[this,hi]
 ·rfl
theorem Ic (P:Program)(op:Op):BJ P op=cOp P op:=by
 unfold BJ
 rw[rj,Id]
def iV (P:Program)(nt:Nat)(o:Oper):bS:=match o.dst with
 | none=>⟨none,(BJ P o.op).getD .bad,o.guard⟩
 | some d=>match Nat.blt d nt with
  | true=>⟨some d,(BJ P o.op).getD .bad,o.guard⟩
  | false=>⟨none,(BJ P o.op).getD .bad,o.guard⟩
theorem jy (P:Program)(nt:Nat)(o:Oper):iV P nt o=cOper P nt o:=by
 unfold iV cOper
 rw[Ic]
 rfl
def Xz (i:Nat):FO:=⟨⟨cT,i,[],.skip,.skip,0,0,0⟩,mW,[],5,0,0⟩
def fhP:FH:=by
 refine(?f:(aM:FH)->aM=(
  ⟨(hput 0 (Xz 0) fh0).h,1,Kz⟩)->FH) ?x ?p
 case p=>(try delta FH.h);exact rfl
 case f=>exactλx _=>x
abbrev Env:=R V
def AP (sz:Nat):Bool:=Nat.ble 1 sz&&Nat.ble sz 4180
structure bT where
 call:FuncId->List V->FH->(V->FH->Bool)->Bool
 WG:Nat->List V->FH->(V->FH->Bool)->Bool
def dw:bT:=⟨λ_ _ _ _=>false,λ_ _ _ _=>false⟩
structure Fx where
 get:Env->V
def ez (nt:Nat)(x:Operand):Bool:=
 match x with
 | .tmp t=>Nat.blt t nt
 | .const v=>(ofVal v).isSome
 | .global _=>false
 | .func _=>true
def gG (nt:Nat)(l:List Operand):Bool:=d9 (ez nt) l
def fx (x:Operand):Fx:=by
 refine(?f:(aM:Fx)->aM=(
  match x with
   | .tmp t=>⟨(da t).g V⟩
   | .const v=>⟨λ_=>mkV ((ofVal v).getD .undef)⟩
   | .global _=>⟨λ_=>vU⟩
   | .func f=>⟨λ_=>mkV (.func f [] [])⟩)->Fx) ?x ?p
 case p=>(try delta Len.g);exact rfl
 case f=>exactλx _=>x
def iG (l:List Operand)(e:Env):List V:=by
 refine(?f:(aM:List V)->aM=(
  List.rec (motive:=λ_=>List V) [] (λx _ ih=>(fx x).get e::ih) l)->List V) ?x ?p
 case p=>(try delta Fx.get);exact rfl
 case f=>exactλx _=>x
structure Fs where
 put:V->Env->Env
def fs (d:Option Nat):Fs:=by
 refine(?f:(aM:Fs)->aM=(
  match d with | none=>⟨λ_ e=>e⟩ | some d=>⟨(da d).p V⟩)->Fs) ?x ?p
 case p=>(try delta Len.p);exact rfl
 case f=>exactλx _=>x
def qI (a:List UInt8):List UInt8->Bool:=List.rec (motive:=λ_=>List UInt8->Bool) (λb=>List.rec (motive:=λ_=>Bool) true (λ_ _ _=>false) b)
 (λx _ ih b=>List.rec (motive:=λ_=>Bool) false (λy t _=>af (Nat.beq x.toNat y.toNat) (ih t) false) b) a
def NS (a b:ByteArray):Bool:=qI a.data.toList b.data.toList
def primEqF (p:dC)(x y:AV):Option Bool:=by
 refine(?f:(aM:Option Bool)->aM=(
  match p with
   | .ps=>match x with
    | .str a=>match y with | .str b=>some (NS a b) | _=>none
    | _=>none
   | p=>primEq p x y)->Option Bool) ?x ?p
 case p=>(try delta LP.ps);exact rfl
 case f=>exactλx _=>x
def lookInF (p:dC)(k:AV)(es:List (AV × AV)):Option (Option AV):=
 aw (λ(r:Option AV)(e:AV × AV)=>match primEqF p k e.1 with | some true=>some (some e.2) | some false=>some r | none=>none) es none
def putInF (p:dC)(k v:AV)(es:List (AV × AV)):Option (List (AV × AV)):=
 match primEqF p k k with
 | some true=>match lookInF p k es with
  | some none=>some (bI es [(k,v)])
  | some (some _)=>aI (λe:AV × AV=>match primEqF p k e.1 with | some true=>some (e.1,v) | some false=>some e | none=>none) es
  | none=>none
 | _=>none
def qL (p:dC)(k:AV)(es:List (AV × AV)):Option (List (AV × AV)):=
 match lookInF p k es with
 | some none=>some es
 | some (some _)=>some (es.filter λe=>match primEqF p k e.1 with | some true=>false | _=>true)
 | none=>none
def eqByF (n:Nat)(p:dC)(x y:AV):Option Bool:=by
 refine(?f:(aM:Option Bool)->aM=(
  match p with
   | .ps=>primEqF .ps x y
   | .agg ps=>match x,y with
    | .agg xs,.agg ys=>match n with
     | 0=>none
     | d+1=>aw (λ(b:Bool)q=>match b with
       | false=>some false
       | true=>match part q.2.2.1 xs q.1 q.2.1,part q.2.2.1 ys q.1 q.2.1 with
        | some u,some v=>(match q.2.2.2 with | .ps=>(match d with | 0=>none | _+1=>primEqF .ps u v) | r=>eqBy d r u v)
        | _,_=>none) ps true
    | _,_=>none
   | p=>eqBy n p x y)->Option Bool) ?x ?p
 case p=>(try delta LP.ps);exact rfl
 case f=>exactλx _=>x
def gj (v:V)(y n:Bool):Bool:=by
 refine(?f:(aM:Bool)->aM=(
  af (Nat.beq v.t 2) y (af (Nat.beq v.t 3) n false))->Bool) ?x ?p
 case p=>(try delta V.t FO.t);exact rfl
 case f=>exactλx _=>x
def dk (v:V)(f:Nat->Bool):Bool:=by
 refine(?f:(aM:Bool)->aM=(
  af (aU (Nat.beq v.t 1) (Nat.ble ae v.a)) (f (Nat.sub v.a ae)) false)->Bool) ?x ?p
 case p=>(try delta V.t V.a FO.t R.a T4.a);exact rfl
 case f=>exactλx _=>x
def zk (x:AV):List AV:=match x with | .agg cs=>cs | _=>[]
def po (v:V):Bool:=Nat.beq v.t 1||((Nat.beq v.t 12||Nat.beq v.t 14)&&Nat.beq v.f 0)
def Gx (v:V):Nat:=match Nat.beq v.t 12 with | true=>v.d | false=>(match Nat.beq v.t 14 with | true=>Nat.add ae ae | false=>Nat.add v.a ae)
def Gq (v:V):Nat:=match Nat.beq v.t 12 with | true=>v.e | false=>(match Nat.beq v.t 14 with | true=>Nat.add v.b (Nat.add ae ae) | false=>Nat.add v.a ae)
def neSy (m:Int)(c:AV):Bool:=match c with | .int .i64 n=>!(ieq n m) | _=>true
def xy (u v:V):Bool:=match Nat.beq u.t 12&&Nat.beq v.t 1 with
 | true=>!(d9 (neSy (eZ v.a)) (zk u.x))
 | false=>false
def F3 (u v:V):Bool:=Nat.blt (Gq u) (Gx v)||(Nat.blt (Gq v) (Gx u)||(xy u v||xy v u))
def FJ (u v:V):Bool:=Nat.beq u.t v.t&&(Nat.beq u.a v.a&&(Nat.beq u.t 1||(Nat.beq u.t 12&&(Nat.beq u.b v.b&&Nat.beq u.c v.c))))
def yr (u v:V):Option Bool:=match po u&&po v with
 | true=>match F3 u v with
  | true=>some false
  | false=>match FJ u v with | true=>some true | false=>none
 | false=>none
def qh (v:V):R V:=match v.r with | [r]=>r | _=>cT
def symE (p:dC)(x y:V):Option Bool:=match p with
 | .pi=>yr x y
 | .agg ps=>match Nat.beq x.t 9&&Nat.beq y.t 9 with
  | true=>aw (λ(b:Bool)q=>match b with
    | false=>some false
    | true=>match q.2.2.2 with
     | .pi=>match !q.2.2.1&&(Nat.blt q.1 x.b&&Nat.blt q.1 y.b) with
      | true=>yr (rg (Nat.add x.a q.1) (qh x)) (rg (Nat.add y.a q.1) (qh y))
      | false=>none
     | _=>none) ps true
  | false=>none
 | _=>none
def ql (x y:V)(s:Bool):Option V:=match po x&&po y with
 | true=>match Nat.blt (Gq x) (Gx y) with
  | true=>some (vB s)
  | false=>match Nat.ble (Gq y) (Gx x)with | true=>some (vB (!s)) | false=>none
 | false=>none
def u8K (v:V):Option Nat:=match Nat.beq v.t 0 with
 | true=>(match v.x with | .int .u8 (.ofNat n)=>(match Nat.ble n 255 with | true=>some n | false=>none) | _=>none)
 | false=>none
def I1 (v:V):Option Nat:=match Nat.beq v.t 1&&Nat.ble ae v.a with | true=>some (Nat.sub v.a ae) | false=>none
def Vh (f:Nat)(v:V):Option Nat:=match f with | 0=>I1 v | _=>u8K v
def oy (f n:Nat):V:=match f with | 0=>vI (Nat.add n ae) | _=>cH (.int .u8 (.ofNat n))
def dec (c:Nat)(n:Int):Int:=match c with
 | 0=>n
 | c=>match Nat.blt c 16 with
  | true=>n%(c:Int)
  | false=>match Nat.blt c 32 with
   | true=>n/((c-16:Nat):Int)
   | false=>(n/(((c-32)/16:Nat):Int))%(((c-32)%16:Nat):Int)
def sI (x:V):Bool:=Nat.beq x.t 12&&(Nat.beq x.f 1&&(Nat.beq x.c 0&&(Nat.beq x.b ae&&(Nat.ble (Nat.add ae ae) x.d&&Nat.ble x.e (Nat.add 255 (Nat.add ae ae))))))
def iC (hi a:Nat):V:=⟨[],.undef,12,1,Nat.add hi (Nat.add ae ae),Nat.add ae ae,0,ae,a⟩
def pB (lo hi a:Nat):V:=⟨[],.undef,12,1,Nat.add hi (Nat.add ae ae),Nat.add lo (Nat.add ae ae),0,ae,a⟩
def qg (x:AV):Option (Nat × Nat × Nat):=match x with | .tuple [.int .u8 (.ofNat m),.int .u8 (.ofNat lo),.int .u8 (.ofNat hi)]=>some (m,lo,hi) | _=>none
def symRes (x:AV)(c a:Nat):V:=match qg x with
 | some (m,lo,hi)=>match Nat.beq m c&&Nat.ble hi 255 with
  | true=>match Nat.beq lo hi with | true=>oy 1 lo | false=>pB lo hi (Nat.add a (Nat.mul 1000 c))
  | false=>iC (Nat.pred c) (Nat.add a (Nat.mul 1000 c))
 | none=>iC (Nat.pred c) (Nat.add a (Nat.mul 1000 c))
def sa (x y:V):Option V:=match Nat.beq x.t 12&&(Nat.beq x.f 0&&Nat.ble (Nat.add ae ae) x.d) with
 | true=>match qg x.x with
  | some (m,lo,hi)=>match I1 y with
   | some c=>match Nat.beq m c&&(Nat.beq lo hi&&(Nat.ble 1 c&&Nat.ble lo 255)) with
    | true=>some (oy 0 lo)
    | false=>none
   | none=>none
  | none=>none
 | false=>none
def r9 (x:V)(c:Nat):Option V:=match qg x.x with
 | some (m,lo,hi)=>match Nat.beq m c&&(Nat.beq lo hi&&(Nat.ble 1 c&&Nat.ble lo 255)) with
  | true=>some (oy 1 lo)
  | false=>none
 | none=>none
def wR (x y:V):Option V:=match sI x with
 | true=>match u8K y with
  | some c=>match Nat.ble 1 c&&Nat.ble c 15 with
   | true=>match Nat.blt x.a 1000 with
    | true=>some (symRes x.x c x.a)
    | false=>match Nat.ble 16000 x.a&&Nat.blt x.a 32000 with
     | true=>some (iC (Nat.pred c) (Nat.add (Nat.mod x.a 1000) (Nat.mul 1000 (Nat.add 32 (Nat.add (Nat.mul 16 (Nat.sub (Nat.div x.a 1000) 16)) c)))))
     | false=>none
   | false=>r9 x c
  | none=>none
 | false=>sa x y
def wQ (x y:V):Option V:=match sI x with
 | true=>match u8K y with
  | some c=>match Nat.ble 1 c&&(Nat.ble c 15&&Nat.blt x.a 1000) with
   | true=>some (iC (Nat.div 255 c) (Nat.add x.a (Nat.mul 1000 (Nat.add 16 c))))
   | false=>none
  | none=>none
 | false=>none
def BA (f e d b a:Nat):V:=⟨[],.undef,14,f,e,d,0,b,a⟩
def nz (neg:Bool)(x y:V):Option V:=match Nat.beq x.t 14 with
 | true=>match Vh x.f y with
  | some m=>match !neg||Nat.ble m 255 with
   | true=>match (match neg with | true=>Nat.land x.b (Nat.sub 255 m) | false=>Nat.land x.b m) with
    | b=>match Nat.beq (Nat.land b x.d) b with
     | true=>some (oy x.f (Nat.land x.e b))
     | false=>some (BA x.f x.e x.d b x.a)
   | false=>none
  | none=>none
 | false=>none
def jQ (x:V)(n:Nat):Option V:=match Nat.beq x.t 12&&(Nat.beq x.f 0&&(Nat.ble ae (Nat.add x.b n)&&(Nat.ble ae (Nat.add x.d n)&&(Nat.ble ae (Nat.add x.e n)&&Nat.blt (Nat.sub (Nat.add x.e n) ae) 18446744073709551616)))) with
 | true=>some ⟨[],.undef,12,0,Nat.sub (Nat.add x.e n) ae,Nat.sub (Nat.add x.d n) ae,x.c,Nat.sub (Nat.add x.b n) ae,x.a⟩
 | false=>none
def oS (x:V):Option V:=match Nat.beq x.t 12&&(Nat.beq x.f 0&&(Nat.ble x.c 1&&(Nat.ble x.b (Nat.add ae ae)&&(Nat.ble 1 x.d&&(Nat.ble x.d 18446744073709551616&&Nat.ble x.e 18446744073709551616))))) with
 | true=>some ⟨[],.undef,12,0,Nat.sub 18446744073709551616 x.d,Nat.sub 18446744073709551616 x.e,Nat.sub 1 x.c,Nat.sub (Nat.add ae ae) x.b,x.a⟩
 | false=>none
def wO (x y:V):Option V:=match Nat.beq y.t 1 with
 | true=>jQ x y.a
 | false=>match Nat.beq x.t 1 with | true=>jQ y x.a | false=>none
def symSub (x y:V):Option V:=match Nat.beq y.t 1 with
 | true=>match Nat.ble y.a (Nat.add ae ae)with | true=>jQ x (Nat.sub (Nat.add ae ae) y.a) | false=>none
 | false=>match Nat.beq x.t 1 with
  | true=>match oS y with | some z=>jQ z x.a | none=>none
  | false=>none
def symB (op:BinOp)(x y:V):Option V:=match op with
 | .lss=>ql x y true
 | .gtr=>ql y x true
 | .leq=>ql y x false
 | .geq=>ql x y false
 | .add=>wO x y
 | .sub=>symSub x y
 | .rem=>wR x y
 | .quo=>wQ x y
 | .and=>nz false x y
 | .andNot=>nz true x y
 | _=>none
def symConv (k:IntKind)(x:V):Option V:=match k with
 | .i64=>match Nat.beq x.t 12||Nat.beq x.t 14 with
  | true=>match Nat.ble x.f 1 with
   | true=>some ⟨[],x.x,x.t,0,x.e,x.d,x.c,x.b,x.a⟩
   | false=>none
  | false=>none
 | _=>none
def R2 (mx:Bool)(x y:V):Option V:=match po x&&po y with
 | true=>match Nat.ble (Gq x) (Gx y) with
  | true=>some (match mx with | true=>y | false=>x)
  | false=>match Nat.ble (Gq y) (Gx x) with
   | true=>some (match mx with | true=>x | false=>y)
   | false=>none
 | false=>none
def Kn (l:List V):Bool:=!(d9 (λv:V=>Nat.ble v.t 11) l)
def symV (i lo hi:Nat)(ex:List AV):V:=⟨[],.agg ex,12,0,hi,lo,0,ae,i⟩
structure Bn where
 run:V->V->(V->Bool)->Bool
def eO (x y:V):Bool:=Nat.beq (Nat.add (Nat.mul x.t 32) y.t) 33
def aab (op:BinOp)(x y:V)(f:V->Bool):Bool:=af (Nat.blt 11 (Nat.max x.t y.t)) (aE (symB op x y) f) (aE (av x) λa=>aE (av y) λb=>aE (binV op a b) λv=>f (mkV v))
def RS (s:Nat)(f:V->Bool)(g:Bool):Bool:=af (Nat.beq (Nat.div s ae) 2) (f (vI (Nat.sub s ae))) (af (Nat.beq (Nat.div s ae) 1) (f (vI (Nat.sub s ae))) g)
def Tn (op:BinOp):Bn:=
 match op with
 | .add=>⟨λx y f=>af (eO x y) (RS (Nat.add x.a y.a) f (aab .add x y f)) (aab .add x y f)⟩
 | .sub=>⟨λx y f=>af (eO x y) (af (Nat.beq (Nat.div (Nat.sub (Nat.add x.a ae) y.a) ae) 1) (f (vI (Nat.sub (Nat.add x.a ae) y.a))) (aab .sub x y f)) (aab .sub x y f)⟩
 | .lss=>⟨λx y f=>af (eO x y) (f (vB (Nat.blt x.a y.a))) (aab .lss x y f)⟩
 | .leq=>⟨λx y f=>af (eO x y) (f (vB (Nat.ble x.a y.a))) (aab .leq x y f)⟩
 | .gtr=>⟨λx y f=>af (eO x y) (f (vB (Nat.blt y.a x.a))) (aab .gtr x y f)⟩
 | .geq=>⟨λx y f=>af (eO x y) (f (vB (Nat.ble y.a x.a))) (aab .geq x y f)⟩
 | op=>⟨aab op⟩
def vi (neg:Bool)(p:dC)(x y:V)(f:V->Bool):Bool:=Option.rec (motive:=λ_=>Bool) (aE (symE p x y) λb=>f (vB (af neg (af b false true) b))) (λa=>Option.rec (motive:=λ_=>Bool) (aE (symE p x y) λb=>f (vB (af neg (af b false true) b))) (λb=>aE (eqByF 20 p a b) λb=>f (vB (af neg (af b false true) b))) (av y)) (av x)
def TD (neg:Bool)(p:dC):Bn:=
 match p with
 | .pi=>match neg with
  | true=>⟨λx y f=>af (eO x y) (f (vB (af (Nat.beq x.a y.a) false true))) (vi true .pi x y f)⟩
  | false=>⟨λx y f=>af (eO x y) (f (vB (Nat.beq x.a y.a))) (vi false .pi x y f)⟩
 | p=>⟨vi neg p⟩
def Ae (v:V)(f:V->Bool):Bool:=af (Nat.blt v.t 9) (f v) (af (aU (Nat.beq v.t 9) (Nat.beq v.b 1)) (c9 v.r λs=>j8 v.a λi=>f (rg i s)) (af (Nat.blt 11 v.t) (f v) false))
structure Pc where
 run:V->R V->(R V->Bool)->Bool
def Zy (n o:Nat):Pc:=
 match n with
 | 1=>⟨λv r f=>Ae v λv=>f ((da o).p V v r)⟩
 | n=>⟨λv r f=>af (aU (Nat.beq v.t 9) (Nat.beq v.b n)) (c9 v.r λs=>j8 v.a λi=>f (uy s n i o r)) false⟩
structure Pr where
 run:V->(R V->Bool)->Bool
def VE (n:Nat):Pr:=
 match n with
 | 1=>⟨λv f=>Ae v λv=>f ((da 0).p V v cT)⟩
 | n=>⟨λv f=>af (aU (Nat.beq v.t 9) (Nat.beq v.b n)) (c9 v.r λs=>j8 v.a λi=>af (Nat.beq i 0) (f s) (f (uy s n i 0 cT))) false⟩
structure Fa where
 run:Env->(FO->(Nat->V)->Bool)->Bool
def TI (r:R V)(sz:Nat):FO:=⟨pU,jh 0 r mW,[],1,1,sz⟩
def Kw (rs:R (R V))(n sz:Nat):FO:=⟨pU,rs,[],1,n,sz⟩
def rowA (cs:List AV):R V:=rowV (cs.map mkV)
def rM (sz len:Nat)(parts:List (Nat × Operand))(e:Env)(f:R (R V)->Bool):R (R V)->Bool:=
 List.rec (motive:=λ_=>R (R V)->Bool) (λrs=>f rs) (λp _ ih rs=>(VE sz).run ((fx p.2).get e) λr=>ih (jh p.1 r rs)) parts
def cO:Fa:=⟨λ_ _=>false⟩
def qR (nt:Nat)(n:Nat)(cs:List AV):Fa:=match Nat.beq (aK cs) n&&Nat.ble n 4180&&d9 AV.one cs with
  | true=>⟨λ_ f=>f (TI (rowA cs) n) λb=>vP b 0 0⟩
  | false=>⟨λ_ _=>false⟩
def Cb (nt:Nat)(n:Nat)(x:Operand):Fa:=match ez nt x&&Nat.ble n 4180 with
  | true=>⟨λe f=>(VE n).run ((fx x).get e) λr=>f (TI r n) λb=>vP b 0 0⟩
  | false=>⟨λ_ _=>false⟩
def nW (nt:Nat)(sz:Nat)(len:Nat)(z:List AV)(parts:List (Nat × Operand)):Fa:=match Nat.beq (aK z) sz&&Nat.ble sz 4180&&Nat.ble len 4180&&d9 AV.one z&&d9 (λp:Nat × Operand=>ez nt p.2&&Nat.blt p.1 len) parts with
  | true=>⟨λe f=>rM sz len parts e (λrs=>f (Kw rs len sz) λb=>vS b 0 0 len len (Nat.mul sz 2)) (rpR (rowA z))⟩
  | false=>⟨λ_ _=>false⟩
def lY (nt:Nat)(sz:Nat)(bytes:Nat)(z:List AV)(l:Operand)(c:Operand):Fa:=match Nat.beq (aK z) sz&&Nat.ble sz 4180&&d9 AV.one z&&ez nt l&&ez nt c with
  | true=>⟨λe f=>dk ((fx l).get e) λln=>dk ((fx c).get e) λcn=>
    af (aU (Nat.ble ln cn) (aU (Nat.ble cn 4180) (Nat.ble (Nat.mul bytes cn) 281474976710656))) (f (Kw (rpR (rowA z)) cn sz) λb=>vS b 0 0 ln cn (Nat.mul sz 2)) false⟩
  | false=>⟨λ_ _=>false⟩
def Iq (nt:Nat) :Fa:=⟨λ_ f=>f ⟨pU,mW,[],2,0,0⟩ vM⟩
def nI (nt:Nat)(op:AOp):Fa:=AOp.rec (motive:=λ_=>Nat->Fa)
 (λ_ _=>cO) (λ_ _ _ _=>cO) (λy0 y1 nt=>qR nt y0 y1) (λy0 y1 nt=>Cb nt y0 y1) (λ_ _ _=>cO) (λy0 y1 y2 y3 nt=>nW nt y0 y1 y2 y3) (λ_ _ _ _=>cO) (λ_ _ _ _=>cO) (λ_ _=>cO) (λ_ _ _ _=>cO) (λ_ _ _ _ _=>cO) (λ_ _ _=>cO) (λ_ _ _=>cO) (λ_ _=>cO) (λ_ _=>cO) (λ_ _ _=>cO) (λ_ _ _ _=>cO) (λ_ _ _=>cO) (λnt=>Iq nt ) (λ_ _ _ _ _ _=>cO) (λy0 y1 y2 y3 y4 nt=>lY nt y0 y1 y2 y3 y4) (λ_ _ _ _ _ _=>cO) (λ_ _ _ _ _ _ _=>cO) (λ_ _ _ _=>cO) (λ_ _ _=>cO) (λ_ _ _ _ _=>cO) (λ_ _ _ _=>cO) (λ_ _ _ _ _=>cO) (λ_ _ _ _ _ _=>cO) (λ_ _ _=>cO) (λ_ _ _ _ _ _=>cO) (λ_ _ _=>cO) (λ_ _=>cO) (λ_ _=>cO) (λ_ _=>cO) (λ_ _=>cO) (λ_ _=>cO) (λ_ _ _=>cO) (λ_ _ _ _ _=>cO) (λ_ _ _ _ _ _=>cO) (λ_ _ _ _=>cO) (λ_ _ _ _=>cO) (λ_ _ _ _=>cO) (λ_ _ _=>cO) (λ_ _ _ _=>cO) (λ_ _ _=>cO) (λ_=>cO) op nt
structure Fo where
 run:bT->Env->FH->(V->FH->Bool)->Bool
def jd:Fo:=⟨λ_ _ _ _=>false⟩
def rowAt (h:FH)(b r o n:Nat)(k:R V->Bool):Bool:=j8 b λb=>j8 r λr=>af (aU (Nat.blt r (hget b h).n) (Nat.ble (Nat.add o n) (hget b h).sz)) (k (rg r (hget b h).rs)) false
def gu (r:Nat)(f:R V->R V)(o:FO):FO:=⟨pU,J0 r f o.rs,o.m,o.t,o.n,o.sz⟩
def nX (h:FH)(o:FO)(k:Nat->FH->Bool):Bool:=j8 h.next λb=>af (Nat.blt b 262144) (k b ⟨(hput b o h).h,Nat.succ b,h.fr⟩) false
def mL (b r o rw sz i:Nat)(f:Nat->Nat->Bool):Bool:=
 af (Nat.beq (Nat.add (Nat.mul o 8192) rw) sz) (f (Nat.add r i) 0) (af (Nat.beq rw 0) (f r (Nat.add o (Nat.mul i sz))) false)
def lh (h:FH)(b r o rw sz n:Nat)(f:List (R V)->Bool):Bool:=
 Nat.rec (motive:=λ_=>Nat->(List (R V)->Bool)->Bool) (λ_ f=>f [])
  (λ_ ih i f=>mL b r o rw sz i λr o=>j8 o λo=>rowAt h b r o sz λrow=>ih (Nat.succ i) λl=>f (Bool.rec (motive:=λ_=>R V) (uy row sz o 0 cT) row (Nat.beq o 0)::l)) n 0 f
def gR (h:FH)(b r o rw sz i:Nat)(l:List (R V))(f:FH->Bool):Bool:=
 List.rec (motive:=λ_=>Nat->FH->(FH->Bool)->Bool) (λ_ h f=>f h)
  (λrow _ ih i h f=>mL b r o rw sz i λr o=>j8 b λb=>j8 r λr=>j8 o λo=>af (aU (Nat.blt r (hget b h).n) (Nat.ble (Nat.add o sz) (hget b h).sz)) (ih (Nat.succ i) (mf b (gu r (uy row sz 0 o)) h) f) false) l i h f
def dL (l:List (R V))(i:Nat)(rs:R (R V)):R (R V):=List.rec (motive:=λ_=>Nat->R (R V)->R (R V)) (λ_ rs=>rs) (λr _ ih i rs=>ih (Nat.succ i) (jh i r rs)) l i rs
def aay (h:FH)(bytes need sz:Nat)(rs:R (R V))(k:V->FH->Bool):Bool:=
 af (aU (fits need bytes) (Nat.ble need 4180)) (nX h (Kw rs need sz) λb h=>k (vS b 0 0 need need (Nat.succ (Nat.mul sz 2))) h) false
def DA (x:AV)(f:Bool):Bool:=AV.rec (motive_1:=λ_=>Bool->Bool) (motive_2:=λ_=>Unit)
 (λ_ _=>false) (λ_ _ _=>false) (λ_ _=>false) (λ_ _=>false) (λp l c s _ f=>Option.rec (motive:=λ_=>Bool) (af (Nat.beq (Nat.add l c) 0) (af s false f) false) (λ_=>false) p) (λ_=>false) (λ_ _=>false)
 (λ_ _ _ _ _ _=>false) (λ_ _ _ _=>false) (λ_ _=>false) (λ_=>false) (λ_ _ _ _=>false) (λ_=>false) (λ_ _ _=>false) (λ_ _ _=>false) () (λ_ _ _ _=>()) x f
def iD (v:V)(f:Bool):Bool:=af (Nat.beq v.t 0) (DA v.x f) false
def xu (x:AV)(f:Bool):Bool:=AV.rec (motive_1:=λ_=>Bool->Bool) (motive_2:=λ_=>Unit)
 (λ_ _=>false) (λ_ _ _=>false) (λ_ _=>false) (λ_ _=>false) (λp l c s _ f=>Option.rec (motive:=λ_=>Bool) (af (Nat.beq (Nat.add l c) 0) (af s false f) false) (λ_=>false) p) (λf=>f) (λ_ _=>false)
 (λ_ _ _ _ _ _=>false) (λ_ _ _ _=>false) (λ_ _=>false) (λ_=>false) (λ_ _ _ _=>false) (λ_=>false) (λ_ _ _=>false) (λ_ _ _=>false) () (λ_ _ _ _=>()) x f
def lX (v:V)(f:Bool):Bool:=af (Nat.beq v.t 0) (xu v.x f) false
def XA (i m n sz:Nat)(rs:R (R V)):FO:=⟨⟨cT,i,[],.skip,.skip,n,m,sz⟩,rs,[],6,0,0⟩
def vX (f a b c d e:Nat):V:=⟨[],.undef,17,f,e,d,c,b,a⟩
def HZ (h:FH)(sz bytes:Nat)(s:V)(new:List (R V))(k:V->FH->Bool):Bool:=
 af (aU (aU (Nat.beq (hget s.f h).t 6) (Nat.beq (hget s.f h).lp.pend s.a)) (aU (aU (Nat.beq (hget s.f h).lp.st s.b) (Nat.beq (hget s.f h).lp.D sz)) (aU (Nat.beq s.e sz) (aU (Nat.ble (Nat.add s.b (aK new)) 1000) (Nat.ble bytes 100000)))))
  (j8 s.f λb=>j8 (Nat.add s.b (aK new)) λc=>nX (hput b l9 h) (XA (hget b h).lp.nt s.a c sz (dL new s.b (hget b h).rs)) λb' h=>k (vX b' s.a c s.c s.d sz) h) false
def jt (h:FH)(sz bytes:Nat)(s:V)(new:List (R V))(k:V->FH->Bool):Bool:=
 af (Nat.beq s.t 5)
  (af (Nat.ble (Nat.add s.c (aK new)) s.b)
   (gR h s.f s.e s.d (Nat.div s.a 2) sz s.c new λh=>k (vS s.f s.e s.d (Nat.add s.c (aK new)) s.b s.a) h)
   (af (Nat.beq (Nat.mod s.a 2) 1)
    (af (aU (aU (Nat.beq (hget s.f h).t 1) (Nat.beq sz (hget s.f h).sz)) (aU (Nat.beq (Nat.div s.a 2) sz) (aU (Nat.beq (Nat.add s.d s.e) 0) (aU (Nat.beq s.b (hget s.f h).n) (Nat.beq s.c s.b)))))
     (j8 s.f λb=>j8 s.c λc=>aay (hput b l9 h) bytes (Nat.add c (aK new)) sz (dL new c (hget b h).rs) k) false)
    (lh h s.f s.e s.d (Nat.div s.a 2) sz s.c λold=>aay h bytes (Nat.add s.c (aK new)) sz (dL (bI old new) 0 mW) k)))
  (List.rec (motive:=λ_=>Bool) (lX s (k s h)) (λ_ _ _=>af (Nat.beq s.t 17) (HZ h sz bytes s new k) (iD s (aay h bytes (aK new) sz (dL new 0 mW) k))) new)
def aaw (h:FH)(sz:Nat)(x:V)(f:List (R V)->Bool):Bool:=
 af (Nat.beq x.t 5) (lh h x.f x.e x.d (Nat.div x.a 2) sz x.c f) (lX x (f []))
def gZ (e:Env)(x:Operand):Option AV:=av ((fx x).get e)
def bW:Heap:=⟨.lf,0⟩
def qH (parts:List (Nat × Nat × Operand))(e:Env)(f:R V->Bool):R V->Bool:=
 List.rec (motive:=λ_=>R V->Bool) (λr=>f r) (λp _ ih r=>(Zy p.2.1 p.1).run ((fx p.2.2).get e) r ih) parts
def x9 (len:Nat)(parts:List (Nat × Nat × Operand)):Bool:=d9 (λp:Nat × Nat × Operand=>Nat.ble (Nat.add p.1 p.2.1) len) parts
def li (P:Program)(op:AOp):Fo:=⟨λ_ e h k=>aE (aval P bW (gZ e) op) λr=>k (mkV r.1) h⟩
def mapVal (z:V)(ok:Bool)(o:Option AV):V:=match ok with
 | true=>Option.rec (motive:=λ_=>V) (oU (rowV [z,vF]) 2) (λv=>oU (rowV [mkV v,vT]) 2) o
 | false=>Option.rec (motive:=λ_=>V) z (λv=>mkV v) o
def we (v:V)(h:FH)(n:Nat)(f:R V->Nat->Bool):Bool:=af (aU (aU (Nat.beq v.t 16) (Nat.beq (hget v.c h).t 5)) (aU (Nat.beq (hget v.c h).lp.nt v.d) (Nat.ble (Nat.add v.b n) v.f))) (c9 v.r λr=>f r (Nat.add v.a v.b)) false
def mS (n:Nat)(g:Bool)(x:Fx):Fo:=
 match g with
 | true=>⟨λ_ e h k=>af (Nat.beq (x.get e).t 4) (rowAt h (x.get e).c (x.get e).b (x.get e).a n λrow=>k (vAgg row (x.get e).a n) h) (we (x.get e) h n λr o=>k (vAgg r o n) h)⟩
 | false=>match n with
  | 1=>⟨λ_ e h k=>af (Nat.beq (x.get e).t 4) (rowAt h (x.get e).c (x.get e).b (x.get e).a 1 λrow=>j8 (x.get e).a λo=>k (rg o row) h) (we (x.get e) h 1 λr o=>j8 o λo=>k (rg o r) h)⟩
  | _=>jd
def RP (n:Nat)(x:Fx)(y:Fx):Fo:=
 match n with
 | 1=>⟨λ_ e h k=>af (Nat.beq (x.get e).t 4) (j8 (x.get e).c λb=>j8 (x.get e).b λr=>j8 (x.get e).a λo=>af (aU (Nat.blt r (hget b h).n) (Nat.blt o (hget b h).sz))
   (Ae (y.get e) λv=>k vU (mf b (gu r ((da o).p V v)) h)) false) false⟩
 | n=>⟨λ_ e h k=>af (aU (Nat.beq (x.get e).t 4) (aU (Nat.beq (y.get e).t 9) (Nat.beq (y.get e).b n)))
   (j8 (x.get e).c λb=>j8 (x.get e).b λr=>j8 (x.get e).a λo=>af (aU (Nat.blt r (hget b h).n) (Nat.ble (Nat.add o n) (hget b h).sz))
    (c9 (y.get e).r λs=>j8 (y.get e).a λi=>af (Nat.beq (Nat.add (Nat.add o i) (Nat.sub (hget b h).sz n)) 0)
     (k vU (mf b (gu r λ_=>s) h))
     (k vU (mf b (gu r (uy s n i o)) h))) false) false⟩
def aiE (x:Operand):Fo:=⟨λ_ e h k=>k ((fx x).get e) h⟩
def DW (c:Operand)(a:Operand)(b:Operand):Fo:=⟨λ_ e h k=>gj ((fx c).get e) (k ((fx a).get e) h) (k ((fx b).get e) h)⟩
def rK (z:List AV)(parts:List (Nat × Nat × Operand)):Fo:=match Nat.ble (aK z) 4180&&d9 AV.one z&&x9 (aK z) parts with
   | true=>⟨λ_ e h k=>qH parts e (λr=>k (vAgg r 0 (aK z)) h) (rowA z)⟩
   | false=>jd
def DU (g:Bool)(n:Nat)(x:Operand):Fo:=mS n g (fx x)
def xZ (n:Nat)(a:Operand)(x:Operand):Fo:=RP n (fx a) (fx x)
def tR (P:Program)(x:Operand):Fo:=⟨λ_ e h k=>af (Nat.beq ((fx x).get e).t 4) (k ((fx x).get e) h) (af (Nat.beq ((fx x).get e).t 8) (k ((fx x).get e) h) (aE (aval P bW (gZ e) (.nilchk x)) λ_=>k ((fx x).get e) h))⟩
def xW (op:BinOp)(x:Operand)(y:Operand):Fo:=⟨λ_ e h k=>(Tn op).run ((fx x).get e) ((fx y).get e) λv=>k v h⟩
def KX (neg:Bool)(p:dC)(x:Operand)(y:Operand):Fo:=⟨λ_ e h k=>(TD neg p).run ((fx x).get e) ((fx y).get e) λv=>k v h⟩
def Vl (P:Program)(op:UnOp)(x:Operand):Fo:=match op with
   | .not=>⟨λ_ e h k=>gj ((fx x).get e) (k vF h) (k vT h)⟩
   | .neg=>⟨λih e h k=>af (Nat.beq ((fx x).get e).t 12) (aE (oS ((fx x).get e)) λv=>k v h) ((li P (.un .neg x)).run ih e h k)⟩
   | op=>li P (.un op x)
def xX (P:Program)(q:IntKind)(x:Operand):Fo:=⟨λih e h k=>af (Nat.blt 11 ((fx x).get e).t) (aE (symConv q ((fx x).get e)) λv=>k v h) ((li P (.convI q x)).run ih e h k)⟩
def Qm (mx:Bool)(l:List V):Option V:=match l with
 | []=>none
 | v::l=>aw (λu w=>R2 mx u w) l v
def Vj (P:Program)(mx:Bool)(args:List Operand):Fo:=⟨λih e h k=>af (Kn (iG args e)) (aE (Qm mx (iG args e)) λv=>k v h) ((li P (.minmax mx args)).run ih e h k)⟩
def wm (f:FuncId)(a:List Operand)(b:List Operand):Fo:=match Nat.ble (Nat.add (aK a) (aK b)) 4180 with
   | true=>⟨λ_ e h k=>k (R1 f (aK a) (aK b) (rowV (bI (iG a e) (iG b e)))) h⟩
   | false=>jd
def Cj (v:V)(off:Nat):V:=⟨v.r,.undef,16,v.f,v.e,v.d,v.c,Nat.add v.b off,v.a⟩
def Oa (v:V)(sz n:Nat):V:=⟨v.r,.undef,16,sz,n,v.d,v.f,0,Nat.mul n sz⟩
def Kx (v:V):V:=⟨[],.undef,12,0,Bool.rec (motive:=λ_=>Nat) 18446744073709551615 (Nat.add v.b (Nat.add ae ae)) (Nat.beq (Nat.mod v.e 2) 1),Nat.add v.b (Nat.add ae ae),0,ae,v.a⟩
def Ky (v:V):V:=⟨[],.undef,12,0,Nat.add (Nat.add v.d v.b) (Nat.add ae ae),Nat.add (Nat.add v.c v.b) (Nat.add ae ae),0,Nat.add ae v.b,v.a⟩
def xY (off:Nat)(x:Operand):Fo:=⟨λ_ e h k=>af (Nat.beq ((fx x).get e).t 4) (k (vP ((fx x).get e).c ((fx x).get e).b (Nat.add ((fx x).get e).a off)) h) (af (Nat.beq ((fx x).get e).t 16) (k (Cj ((fx x).get e) off) h) false)⟩
def KY (off:Nat)(n:Nat)(g:Bool)(x:Operand):Fo:=match g with
   | true=>⟨λ_ e h k=>af (aU (Nat.beq ((fx x).get e).t 9) (Nat.ble (Nat.add off n) ((fx x).get e).b)) (c9 ((fx x).get e).r λr=>k (vAgg r (Nat.add ((fx x).get e).a off) n) h) false⟩
   | false=>⟨λ_ e h k=>af (aU (Nat.beq ((fx x).get e).t 9) (Nat.blt off ((fx x).get e).b)) (c9 ((fx x).get e).r λr=>j8 (Nat.add ((fx x).get e).a off) λo=>k (rg o r) h) false⟩
def oG (sz:Nat)(x:Operand)(i:Operand):Fo:=match AP sz with
  | true=>⟨λ_ e h k=>af (Nat.beq ((fx x).get e).t 5) (dk ((fx i).get e) λn=>af (Nat.blt n ((fx x).get e).c)
    (mL ((fx x).get e).f ((fx x).get e).e ((fx x).get e).d (Nat.div ((fx x).get e).a 2) sz n λr o=>k (vP ((fx x).get e).f r o) h) false)
    (af (aU (Nat.beq ((fx x).get e).t 15) (Nat.beq (Nat.div ((fx x).get e).e 2) sz)) (dk ((fx i).get e) λn=>af (Nat.blt n ((fx x).get e).c) (k (Oa ((fx x).get e) sz n) h) false) false)⟩
  | false=>jd
def tQ (len:Nat)(sz:Nat)(x:Operand)(i:Operand):Fo:=⟨λ_ e h k=>af (Nat.beq ((fx x).get e).t 4) (dk ((fx i).get e) λn=>af (Nat.blt n len) (k (vP ((fx x).get e).c ((fx x).get e).b (Nat.add ((fx x).get e).a (Nat.mul n sz))) h) false) false⟩
def DN (len:Nat)(sz:Nat)(g:Bool)(x:Operand)(i:Operand):Fo:=match g with
   | true=>⟨λ_ e h k=>af (Nat.beq ((fx x).get e).t 9) (dk ((fx i).get e) λn=>af (aU (Nat.blt n len) (Nat.ble (Nat.add (Nat.mul n sz) sz) ((fx x).get e).b)) (c9 ((fx x).get e).r λr=>k (vAgg r (Nat.add ((fx x).get e).a (Nat.mul n sz)) sz) h) false) false⟩
   | false=>⟨λ_ e h k=>af (Nat.beq ((fx x).get e).t 9) (dk ((fx i).get e) λn=>af (aU (Nat.blt n len) (Nat.blt (Nat.mul n sz) ((fx x).get e).b)) (c9 ((fx x).get e).r λr=>j8 (Nat.add ((fx x).get e).a (Nat.mul n sz)) λo=>k (rg o r) h) false) false⟩
def DV (P:Program)(kk:dC)(z:AV)(ok:Bool)(m:Operand)(q:Operand):Fo:=⟨λ_ e h k=>af (Nat.beq ((fx m).get e).t 7)
    (j8 ((fx m).get e).a λb=>af (Nat.beq (hget b h).t 2) (aE (av ((fx q).get e)) λkv=>aE (lookInF kk kv (hget b h).m) λo=>k (mapVal (mkV z) ok o) h) false)
    (af (Nat.beq ((fx m).get e).t 0) (aE (aval P bW (gZ e) (.look kk z ok m q)) λr=>k (mkV r.1) h) false)⟩
def qe (x:Operand)(i:Nat):Fo:=⟨λ_ e h k=>af (aU (Nat.beq ((fx x).get e).t 10) (Nat.blt i ((fx x).get e).b)) (c9 ((fx x).get e).r λr=>k ((da i).g V r) h) false⟩
def DT (P:Program)(x:Operand):Fo:=⟨λ_ e h k=>af (aU (Nat.beq ((fx x).get e).t 5) (Nat.blt ((fx x).get e).c ae)) (k (vI (Nat.add ((fx x).get e).c ae)) h) (af (Nat.beq ((fx x).get e).t 15) (k (Kx ((fx x).get e)) h) (af (Nat.beq ((fx x).get e).t 17) (k (Ky ((fx x).get e)) h) (aE (aval P bW (gZ e) (.lenS x)) λr=>k (mkV r.1) h)))⟩
def DQ (P:Program)(x:Operand):Fo:=⟨λ_ e h k=>af (Nat.beq ((fx x).get e).t 7) (j8 ((fx x).get e).a λb=>af (Nat.beq (hget b h).t 2) (k (mkV (.int .i64 (.ofNat (aK (hget b h).m)))) h) false) (af (Nat.beq ((fx x).get e).t 0) (aE (aval P bW (gZ e) (.lenM x)) λr=>k (mkV r.1) h) false)⟩
def K0 (P:Program)(sz:Nat)(x:Operand)(lo:Option Operand)(hi:Option Operand)(mx:Option Operand):Fo:=match mx with
   | none=>⟨λ_ e h k=>af (Nat.beq ((fx x).get e).t 5) (aE (aval P bW (gZ e) (.slc sz x lo hi none)) λr=>k (mkV r.1) h) (aE (aval P bW (gZ e) (.slc sz x lo hi none)) λr=>k (mkV r.1) h)⟩
   | some m=>li P (.slc sz x lo hi (some m))
def KZ (kk:dC)(m:Operand)(q:Operand)(v:Operand):Fo:=⟨λ_ e h k=>af (Nat.beq ((fx m).get e).t 7) (j8 ((fx m).get e).a λb=>af (Nat.beq (hget b h).t 2) (aE (av ((fx q).get e)) λkv=>aE (av ((fx v).get e)) λvv=>aE (putInF kk kv vv (hget b h).m) λes=>k vU (hput b ⟨pU,mW,es,2,0,0⟩ h)) false) false⟩
def oE (sz:Nat)(bytes:Nat)(s:Operand)(x:Operand):Fo:=match AP sz with
   | true=>⟨λ_ e h k=>aaw h sz ((fx x).get e) λnew=>jt h sz bytes ((fx s).get e) new k⟩
   | false=>jd
def mq (sz:Nat)(bytes:Nat)(z:List AV)(s:Operand)(x:Operand):Fo:=match Nat.beq (aK z) sz&&AP sz&&d9 AV.one z with
   | true=>⟨λ_ e h k=>dk ((fx x).get e) λn=>af (aU (Nat.ble n 4180) (Nat.ble (Nat.mul n bytes) 281474976710656)) (jt h sz bytes ((fx s).get e) (ep n (rowA z)) k) false⟩
   | false=>jd
def ac7 (sz:Nat)(d:Operand)(s:Operand):Fo:=match AP sz with
   | true=>⟨λ_ e h k=>af (aU (Nat.beq ((fx d).get e).t 5) (Nat.beq ((fx s).get e).t 5))
     (lh h ((fx s).get e).f ((fx s).get e).e ((fx s).get e).d (Nat.div ((fx s).get e).a 2) sz (Nat.min ((fx s).get e).c ((fx d).get e).c) λl=>
      gR h ((fx d).get e).f ((fx d).get e).e ((fx d).get e).d (Nat.div ((fx d).get e).a 2) sz 0 l λh=>k (mkV (.int .i64 (.ofNat (Nat.min ((fx s).get e).c ((fx d).get e).c)))) h)
     (af (Nat.beq ((fx d).get e).t 5) (iD ((fx s).get e) (k (vI ae) h)) (af (Nat.beq ((fx s).get e).t 5) (iD ((fx d).get e) (k (vI ae) h)) (iD ((fx d).get e) (iD ((fx s).get e) (k (vI ae) h)))))⟩
   | false=>jd
def rL (sz:Nat)(z:List AV)(x:Operand):Fo:=match Nat.beq (aK z) sz&&AP sz&&d9 AV.one z with
   | true=>⟨λ_ e h k=>af (Nat.beq ((fx x).get e).t 5) (gR h ((fx x).get e).f ((fx x).get e).e ((fx x).get e).d (Nat.div ((fx x).get e).a 2) sz 0 (ep ((fx x).get e).c (rowA z)) λh=>k vU h) (lX ((fx x).get e) (k vU h))⟩
   | false=>jd
def tP (kk:dC)(m:Operand)(q:Operand):Fo:=⟨λ_ e h k=>af (Nat.beq ((fx m).get e).t 7) (j8 ((fx m).get e).a λb=>af (Nat.beq (hget b h).t 2) (aE (av ((fx q).get e)) λkv=>aE (qL kk kv (hget b h).m) λes=>k vU (hput b ⟨pU,mW,es,2,0,0⟩ h)) false) false⟩
def BP (P:Program)(ih:bT)(x:AV)(args:List V)(h:FH)(k:V->FH->Bool):Bool:=AV.rec (motive_1:=λ_=>Program->bT->List V->FH->(V->FH->Bool)->Bool) (motive_2:=λ_=>Unit)
 (λ_ _ _ _ _ _=>false) (λ_ _ _ _ _ _ _=>false) (λ_ _ _ _ _ _=>false) (λ_ _ _ _ _ _=>false) (λ_ _ _ _ _ _ _ _ _ _=>false) (λ_ _ _ _ _=>false) (λ_ _ _ _ _ _=>false)
 (λ_ _ _ _ _ _ _ _ _ _=>false) (λname r _ P ih args h k=>AV.rec (motive_1:=λ_=>Bool) (motive_2:=λ_=>Unit)
  (λ_=>false) (λ_ _=>false) (λ_=>false) (λ_=>false) (λ_ _ _ _ _=>false) false (λ_=>false) (λ_ _ _ _ _=>false) (λ_ _ _=>false) (λ_=>false) false (λt v _=>aE (meth P t name) λf=>ih.call f (mkV v::args) h k) false (λ_ _=>false) (λ_ _=>false) () (λ_ _ _ _=>()) r)
 (λl P ih args h k=>ih.WG l args h k) (λ_ _ _ _ _=>false) (λ_ _ _ _ _ _ _ _=>false) (λ_ _ _ _ _=>false) (λ_ _ _ _ _ _ _=>false) (λ_ _ _ _ _ _ _=>false) () (λ_ _ _ _=>()) x P ih args h k
def Qx (P:Program)(f:Operand)(args:List Operand):Fo:=match f with
   | .func g=>⟨λih e h k=>ih.call g (iG args e) h k⟩
   | f=>⟨λih e h k=>af (Nat.beq ((fx f).get e).t 8) (c9 ((fx f).get e).r λr=>j8 ((fx f).get e).a λg=>ih.call g (bI (bJ r ((fx f).get e).c 0) (bI (iG args e) (bJ r ((fx f).get e).b ((fx f).get e).c))) h k)
     (af (Nat.beq ((fx f).get e).t 0) (BP P ih ((fx f).get e).x (iG args e) h k) false)⟩
def Qh (P:Program)(name:String)(x:AV)(args:List V)(k:FuncId->List V->Bool):Bool:=AV.rec (motive_1:=λ_=>(FuncId->List V->Bool)->Bool) (motive_2:=λ_=>Unit)
    (λ_ _=>false) (λ_ _ _=>false) (λ_ _=>false) (λ_ _=>false) (λ_ _ _ _ _ _=>false) (λ_=>false) (λ_ _=>false) (λ_ _ _ _ _ _=>false) (λ_ _ _ _=>false) (λ_ _=>false) (λ_=>false)
    (λt v _ k=>aE (meth P t name) λf=>k f (mkV v::args)) (λ_=>false) (λ_ _ _=>false) (λ_ _ _=>false) () (λ_ _ _ _=>()) x k
def DP (P:Program)(r:Operand)(name:String)(args:List Operand):Fo:=⟨λih e h k=>af (Nat.beq ((fx r).get e).t 0) (Qh P name ((fx r).get e).x (iG args e) λf args=>ih.call f args h k) false⟩
def KW (x:Operand):Fo:=⟨λ_ e h k=>aaw h 1 ((fx x).get e) λl=>aE (aw (λ(s:ByteArray)(r:R V)=>match av (rg 0 r) with
 | some (.int .u8 (.ofNat b))=>some (s.push (UInt8.ofNat b))
 | _=>none) l ByteArray.empty) λs=>k (cH (.str s)) h⟩
def DL (op:AOp):List Operand:=AOp.rec (motive:=λ_=>List Operand)
 (λx=>[x]) (λc a b=>[c,a,b]) (λ_ _=>[]) (λ_ x=>[x]) (λ_ parts=>parts.map λp=>p.2.2) (λ_ _ _ parts=>parts.map λp=>p.2) (λ_ _ x=>[x]) (λ_ a x=>[a,x]) (λx=>[x]) (λ_ x y=>[x,y]) (λ_ _ x y=>[x,y]) (λ_ x=>[x]) (λ_ x=>[x]) (λx=>[x]) (λx=>[x]) (λ_ x=>[x]) (λ_ a b=>bI a b) (λ_ x=>[x]) ([]) (λ_ _ m k v=>[m,k,v]) (λ_ _ _ l c=>[l,c]) (λ_ x lo hi mx=>x::bI (oopt lo) (bI (oopt hi) (oopt mx))) (λ_ _ x lo hi mx=>x::bI (oopt lo) (bI (oopt hi) (oopt mx))) (λx lo hi=>x::bI (oopt lo) (oopt hi)) (λ_ x=>[x]) (λ_ _ _ x=>[x]) (λ_ x i=>[x,i]) (λ_ _ x i=>[x,i]) (λ_ _ _ x i=>[x,i]) (λx i=>[x,i]) (λ_ _ _ m k=>[m,k]) (λx _=>[x]) (λx=>[x]) (λx=>[x]) (λx=>[x]) (λ_=>[]) (λx=>[x]) (λ_ args=>args) (λ_ _ s x=>[s,x]) (λ_ _ _ s x=>[s,x]) (λ_ d s=>[d,s]) (λ_ _ x=>[x]) (λ_ m k=>[m,k]) (λf args=>f::args) (λr _ args=>r::args) (λf args=>f::args) ([]) op
theorem Ag (op:AOp):DL op=op.opers:=by cases op<;>rfl
def wk (nt:Nat)(op:AOp):Fo:=⟨λ_ e h k=>(nI nt op).run e λo f=>nX h o λb h=>k (f b) h⟩
def Zr (P:Program)(nt:Nat)(op:AOp):Fo:=AOp.rec (motive:=λ_=>Program->Nat->Fo)
 (λx P nt=>aiE x) (λc a b P nt=>DW c a b) (λy0 y1 P nt=>wk nt (.alloc y0 y1)) (λy0 y1 P nt=>wk nt (.box y0 y1)) (λz parts P nt=>rK z parts) (λy0 y1 y2 y3 P nt=>wk nt (.bslice y0 y1 y2 y3)) (λg n x P nt=>DU g n x) (λn a x P nt=>xZ n a x) (λx P nt=>tR P x) (λop x y P nt=>xW op x y) (λneg p x y P nt=>KX neg p x y) (λop x P nt=>Vl P op x) (λy0 y1 P nt=>xX P y0 y1) (λy0 P nt=>li P (.convS y0)) (λx P nt=>KW x) (λy0 y1 P nt=>li P (.mkif y0 y1)) (λf a b P nt=>wm f a b) (λy0 y1 P nt=>li P (.mkmf y0 y1)) (λP nt=>wk nt .mkmap) (λ_ kk m q v P nt=>KZ kk m q v) (λy0 y1 y2 y3 y4 P nt=>wk nt (.mkslice y0 y1 y2 y3 y4)) (λsz x lo hi mx P nt=>K0 P sz x lo hi mx) (λy0 y1 y2 y3 y4 y5 P nt=>li P (.slcA y0 y1 y2 y3 y4 y5)) (λy0 y1 y2 P nt=>li P (.slcS y0 y1 y2)) (λoff x P nt=>xY off x) (λoff n g x P nt=>KY off n g x) (λsz x i P nt=>oG sz x i) (λlen sz x i P nt=>tQ len sz x i) (λlen sz g x i P nt=>DN len sz g x i) (λy0 y1 P nt=>li P (.idxS y0 y1)) (λkk z ok m q P nt=>DV P kk z ok m q) (λx i P nt=>qe x i) (λx P nt=>DT P x) (λy0 P nt=>li P (.lenT y0)) (λx P nt=>DQ P x) (λy0 P nt=>li P (.lenC y0)) (λy0 P nt=>li P (.cap y0)) (λy0 y1 P nt=>Vj P y0 y1) (λsz bytes s x P nt=>oE sz bytes s x) (λsz bytes z s x P nt=>mq sz bytes z s x) (λsz d s P nt=>ac7 sz d s) (λsz z x P nt=>rL sz z x) (λkk m q P nt=>tP kk m q) (λf args P nt=>Qx P f args) (λr name args P nt=>DP P r name args) (λy0 y1 P nt=>jd) (λP nt=>jd) op P nt
def B8 (P:Program)(nt:Nat)(op:AOp):Fo:=Bool.rec (motive:=λ_=>Fo) jd (Zr P nt op) (gG nt (DL op))
end
end Go.Ev
namespace Go.Ev
noncomputable section
abbrev Kt:=Env->FH->Bool
structure Fr where
 run:bT->Env->FH->Kt->Bool
variable (P:Program)
structure Fg where
 run:Env->Bool->Bool->Bool
def guardF (nt:Nat)(ops:Array Oper)(g:Option (Nat × Bool)):Fg:=by
 refine(?f:(aM:Fg)->aM=(
  match g with
   | none=>⟨λ_ y _=>y⟩
   | some (j,w)=>match dJ ops.toList j with
    | some o=>match o.dst with
     | some d=>match Nat.blt d nt,w with
      | true,true=>⟨λe y n=>af (Nat.beq ((da d).g V e).t 2) y (af (Nat.beq ((da d).g V e).t 0) false n)⟩
      | true,false=>⟨λe y n=>af (Nat.beq ((da d).g V e).t 3) y (af (Nat.beq ((da d).g V e).t 0) false n)⟩
      | _,_=>⟨λ_ _ _=>false⟩
     | none=>⟨λ_ _ _=>false⟩
    | none=>⟨λ_ _ _=>false⟩)->Fg) ?x ?p
 case p=>(try delta V.t FO.t Len.g);exact rfl
 case f=>exactλx _=>x
def oneF (nt:Nat)(ops:Array Oper)(o:Oper):Fr:=by
 refine(?f:(aM:Fr)->aM=(
  match iV P nt o with
   | ⟨d,op,g⟩=>match g with
    | none=>⟨λih e h k=>(B8 P nt op).run ih e h λv h=>k ((fs d).put v e) h⟩
    | some g=>⟨λih e h k=>(guardF nt ops (some g)).run e ((B8 P nt op).run ih e h λv h=>k ((fs d).put v e) h) (k ((fs d).put vU e) h)⟩)->Fr) ?x ?p
 case p=>(try delta Fo.run Fs.put Pc.run Pr.run Fa.run Bn.run Fr.run Fg.run);exact rfl
 case f=>exactλx _=>x
def Jr (nt:Nat)(ops:Array Oper)(o:Oper)(r:Fr):Fr:=by
 refine(?f:(aM:Fr)->aM=(
  match iV P nt o with
   | ⟨d,op,g⟩=>match g with
    | none=>⟨λih e h k=>(B8 P nt op).run ih e h λv h=>r.run ih ((fs d).put v e) h k⟩
    | some g=>⟨λih e h k=>(guardF nt ops (some g)).run e ((B8 P nt op).run ih e h λv h=>r.run ih ((fs d).put v e) h k) (r.run ih ((fs d).put vU e) h k)⟩)->Fr) ?x ?p
 case p=>(try delta Fo.run Fs.put Pc.run Pr.run Fa.run Bn.run Fr.run Fg.run);exact rfl
 case f=>exactλx _=>x
def Qw (nt:Nat)(ops:Array Oper)(l:List Oper):Fr:=
 List.rec (motive:=λ_=>Fr) ⟨λ_ e h k=>k e h⟩ (λo _ r=>Jr P nt ops o r) l
def slotsOkF (nt:Nat)(aC W:Tr Nat)(ops:Array Oper):Bool:=
 match aw (λ(j:Nat)(o:Oper)=>
  match d9 (λx:Operand=>match x with | .tmp t=>slotOk aC W j t | _=>true) (iV P nt o).op.opers with
  | false=>none
  | true=>match o.guard with
   | none=>some (Nat.succ j)
   | some (k,_)=>match dJ ops.toList k,aC.get j with
    | some ok,some a=>match ok.dst with
     | some d=>match bit a k&&Nat.blt k j with | true=>some (Nat.succ j) | false=>none
     | none=>none
    | _,_=>none) ops.toList 0 with
 | some _=>true
 | none=>false
def chainOfF (nt:Nat)(aC:Tr Nat)(ops:Array Oper):Option Nat:=
 match aw (λ(s:Nat × Nat)(o:Oper)=>match clsOf (iV P nt o).op with
  | .chain=>match aC.get s.2 with
   | some a=>match Nat.beq (Nat.land s.1 a) s.1 with
    | true=>force (Nat.lor s.1 (Nat.shiftLeft 1 s.2)) λm=>some (m,Nat.succ s.2)
    | false=>none
   | none=>none
  | _=>some (s.1,Nat.succ s.2)) ops.toList (0,0) with
 | some s=>some s.1
 | none=>none
def dinfoF (nt:Nat)(ops:Array Oper):Option iM:=
 match ancs ops with
 | none=>none
 | some aC=>match writers ops with
  | none=>none
  | some W=>match slotsOkF P nt aC W ops with
   | false=>none
   | true=>match chainOfF P nt aC ops with
    | none=>none
    | some chain=>
     match aw (λ(s:List qr × Nat × Nat)(o:Oper)=>match iV P nt o with
      | ao=>match clsOf ao.op with
       | .read=>match r7 aC chain s.2.1 (aK ops.toList) with
        | some (lo,hi)=>some (⟨ao,.read,lo,hi⟩::s.1,Nat.succ s.2.1,s.2.2)
        | none=>none
       | .dalloc=>some (⟨ao,.dalloc,0,0⟩::s.1,Nat.succ s.2.1,Nat.succ s.2.2)
       | .dmap=>some (⟨ao,.dmap,0,0⟩::s.1,Nat.succ s.2.1,Nat.succ s.2.2)
       | c=>some (⟨ao,c,0,0⟩::s.1,Nat.succ s.2.1,s.2.2)) ops.toList ([],0,0) with
     | some s=>some ⟨s.1.reverse,aC,s.2.2⟩
     | none=>none
theorem uf (P:Program)(nt:Nat)(aC W:Tr Nat)(ops:Array Oper):slotsOkF P nt aC W ops=slotsOk P nt aC W ops:=by
 unfold slotsOkF slotsOk
 simp only[jy]
 rfl
theorem sK (P:Program)(nt:Nat)(aC:Tr Nat)(ops:Array Oper):chainOfF P nt aC ops=chainOf P nt aC ops:=by
 unfold chainOfF chainOf
 simp only[jy]
 rfl
theorem y8 (P:Program)(nt:Nat)(ops:Array Oper):dinfoF P nt ops=dinfo P nt ops:=by
 unfold dinfoF dinfo
 simp only[jy,uf,sK]
 rfl
structure FP where
 i:Nat
 id:Nat
 o:FO
 ins:Nat
structure FL where
 e:Env
 d:qr
 aC:Nat
 v:V
structure FD where
 e:Env
 h:FH
 Hs:List FH
 cG:Nat
 pend:List FP
 mats:List (FP × Nat)
 aO:List FL
 c:Nat
structure Fd where
 run:bT->FD->(FD->Bool)->Bool
def eY (a:Nat)(pend:List FP)(h:FH):FH:=by
 refine(?f:(aM:FH)->aM=(
  List.rec (motive:=λ_=>FH->FH) (λh=>h) (λp _ ih h=>ih (Bool.rec (motive:=λ_=>FH) h (hput p.id p.o h) (aU (bit a p.i) (Nat.beq p.o.t 1)))) pend h)->FH) ?x ?p
 case p=>(try delta V.t FO.t FP.i FP.id FP.o);exact rfl
 case f=>exactλx _=>x
def jo (a k:Nat)(mats:List (FP × Nat))(h:FH):FH:=by
 refine(?f:(aM:FH)->aM=(
  List.rec (motive:=λ_=>FH->FH) (λh=>h) (λp _ ih h=>ih (Bool.rec (motive:=λ_=>FH) h (hput p.1.id p.1.o h) (aU (bit a p.1.i) (aU (Nat.beq p.1.o.t 1) (Nat.blt k p.2))))) mats h)->FH) ?x ?p
 case p=>(try delta V.t FO.t FP.i FP.id FP.o);exact rfl
 case f=>exactλx _=>x
def dQ (a b:Nat)(pend:List FP)(h:FH):FH:=by
 refine(?f:(aM:FH)->aM=(
  List.rec (motive:=λ_=>FH->FH) (λh=>h) (λp _ ih h=>ih (Bool.rec (motive:=λ_=>FH) h (hput p.id p.o h) (aU (Nat.beq p.id b) (aU (bit a p.i) (Nat.beq p.o.t 1))))) pend h)->FH) ?x ?p
 case p=>(try delta V.t FO.t FP.i FP.id FP.o);exact rfl
 case f=>exactλx _=>x
def D1 (a b k:Nat)(mats:List (FP × Nat))(h:FH):FH:=by
 refine(?f:(aM:FH)->aM=(
  List.rec (motive:=λ_=>FH->FH) (λh=>h) (λp _ ih h=>ih (Bool.rec (motive:=λ_=>FH) h (hput p.1.id p.1.o h) (aU (Nat.beq p.1.id b) (aU (bit a p.1.i) (aU (Nat.beq p.1.o.t 1) (Nat.blt k p.2)))))) mats h)->FH) ?x ?p
 case p=>(try delta V.t FO.t FP.i FP.id FP.o);exact rfl
 case f=>exactλx _=>x
def tI (b:Nat)(pend:List FP):Bool:=by
 refine(?f:(aM:Bool)->aM=(
  d9 (λp:FP=>af (Nat.beq p.id b) false true) pend)->Bool) ?x ?p
 case p=>(try delta FP.id);exact rfl
 case f=>exactλx _=>x
def tJ (b:Nat)(mats:List (FP × Nat)):Bool:=by
 refine(?f:(aM:Bool)->aM=(
  d9 (λp:FP × Nat=>af (Nat.beq p.1.id b) false true) mats)->Bool) ?x ?p
 case p=>(try delta FP.id);exact rfl
 case f=>exactλx _=>x
def nP (op:AOp):Option Operand:=match op with | .load _ _ x=>some x | _=>none
def yo (a n:Nat)(pend:List FP)(mats:List (FP × Nat))(h:FH)(k:List FP->List (FP × Nat)->FH->Bool):Bool:=by
 refine(?f:(aM:Bool)->aM=(
  List.rec (motive:=λ_=>List FP->List (FP × Nat)->FH->Bool) (λr m h=>k r m h)
    (λp _ ih r m h=>af (bit a p.i) (af (Nat.beq (Nat.land p.ins a) p.ins) (ih r ((p,n)::m) (hput p.id p.o h)) false) (ih (p::r) m h)) pend [] mats h)->Bool) ?x ?p
 case p=>(try delta FP.i FP.id FP.o FP.ins);exact rfl
 case f=>exactλx _=>x
def Qd (kk:dC)(kv vv:AV)(b j a:Nat)(pend:List FP)(k:List FP->Bool):Bool:=by
 refine(?f:(aM:Bool)->aM=(
  List.rec (motive:=λ_=>Bool->List FP->Bool) (λf r=>af f (k r) false)
    (λp _ ih f r=>af (Nat.beq p.id b)
     (af (aU (bit a p.i) (Nat.beq p.o.t 2)) (aE (lookInF kk kv p.o.m) λo=>Option.rec (motive:=λ_=>Bool)
      (aE (primEqF kk kv kv) λt=>af t (ih true (⟨p.i,p.id,⟨pU,mW,bI p.o.m [(kv,vv)],2,0,0⟩,Nat.lor p.ins (Nat.shiftLeft 1 j)⟩::r)) false) (λ_=>false) o) false)
     (ih f (p::r))) pend false [])->Bool) ?x ?p
 case p=>(try delta V.t FO.m FO.t FP.i FP.id FP.o FP.ins);exact rfl
 case f=>exactλx _=>x
def dN (aC:Tr Nat)(j:Nat)(k:Nat->Bool):Bool:=by
 refine(?f:(aM:Bool)->aM=(
  aE (aC.get j) k)->Bool) ?x ?p
 case p=>(try delta Fx.get);exact rfl
 case f=>exactλx _=>x
def cA (s:FD)(d:Option Nat)(v:V):FD:=by
 refine(?f:(aM:FD)->aM=(
  ⟨(fs d).put v s.e,s.h,s.Hs,s.cG,s.pend,s.mats,s.aO,s.c⟩)->FD) ?x ?p
 case p=>(try delta V.e V.c FH.h LP.e LP.pend Fs.put FD.e FD.h FD.Hs FD.cG FD.pend FD.mats FD.aO FD.c FL.e R.c T4.c);exact rfl
 case f=>exactλx _=>x
def sQ (nt:Nat)(ops:Array Oper)(aC:Tr Nat)(j:Nat)(dst:Option Nat)(op:AOp)(g:Option (Nat × Bool))(lo hi:Nat):Fd:=by
 refine(?f:(aM:Fd)->aM=(
  match nP op with
    | none=>match Nat.beq lo hi with
     | true=>⟨λih s k=>(guardF nt ops g).run s.e (dN aC j λa=>(B8 P nt op).run ih s.e (eY a s.pend s.h) λv _=>k (cA s dst v)) (k (cA s dst vU))⟩
     | false=>⟨λih s k=>(guardF nt ops g).run s.e (dN aC j λa=>(B8 P nt op).run ih s.e (eY a s.pend s.h) λv _=>
      k ⟨(fs dst).put v s.e,s.h,s.Hs,s.cG,s.pend,s.mats,⟨s.e,⟨⟨dst,op,g⟩,.read,lo,hi⟩,a,v⟩::s.aO,s.c⟩) (k (cA s dst vU))⟩
    | some x=>match Nat.beq lo hi with
     | true=>⟨λih s k=>(guardF nt ops g).run s.e (dN aC j λa=>j8 ((fx x).get s.e).c λb=>(B8 P nt op).run ih s.e (dQ a b s.pend s.h) λv _=>k (cA s dst v)) (k (cA s dst vU))⟩
     | false=>⟨λih s k=>(guardF nt ops g).run s.e (dN aC j λa=>j8 ((fx x).get s.e).c λb=>(B8 P nt op).run ih s.e (dQ a b s.pend s.h) λv _=>
      k ⟨(fs dst).put v s.e,s.h,s.Hs,s.cG,s.pend,s.mats,⟨s.e,⟨⟨dst,op,g⟩,.read,lo,hi⟩,a,v⟩::s.aO,s.c⟩) (k (cA s dst vU))⟩)->Fd) ?x ?p
 case p=>(try delta V.e V.c FH.h LP.e LP.pend Fx.get Fo.run Fs.put Pc.run Pr.run Fa.run Bn.run Fr.run Fg.run Fd.run FD.e FD.h FD.Hs FD.cG FD.pend FD.mats FD.aO FD.c FL.e R.c T4.c);exact rfl
 case f=>exactλx _=>x
def jX (nt:Nat)(ops:Array Oper)(aC:Tr Nat)(j:Nat)(d:qr):Fd:=by
 refine(?f:(aM:Fd)->aM=(
  match d.cls with
   | .pure=>⟨λih s k=>(guardF nt ops d.o.guard).run s.e ((B8 P nt d.o.op).run ih s.e s.h λv _=>k (cA s d.o.dst v)) (k (cA s d.o.dst vU))⟩
   | .read=>sQ P nt ops aC j d.o.dst d.o.op d.o.guard d.lo d.hi
   | .chain=>⟨λih s k=>(guardF nt ops d.o.guard).run s.e
     (dN aC j λa=>yo a (Nat.succ s.c) s.pend s.mats s.h λpend mats h=>(B8 P nt d.o.op).run ih s.e h λv h=>k ⟨(fs d.o.dst).put v s.e,h,h::s.Hs,s.cG,pend,mats,s.aO,Nat.succ s.c⟩)
     (k ⟨(fs d.o.dst).put vU s.e,s.h,s.h::s.Hs,s.cG,s.pend,s.mats,s.aO,Nat.succ s.c⟩)⟩
   | .abl=>match d.o.op with
    | .ins _ kk m q v=>match ez nt m&&ez nt q&&ez nt v with
     | true=>⟨λih s k=>(guardF nt ops d.o.guard).run s.e
       (dN aC j λa=>af (Nat.beq ((fx m).get s.e).t 7) (aE (av ((fx q).get s.e)) λkv=>aE (av ((fx v).get s.e)) λvv=>Qd kk kv vv ((fx m).get s.e).a j a s.pend λpend=>k ⟨(fs d.o.dst).put vU s.e,s.h,s.Hs,s.cG,pend,s.mats,s.aO,s.c⟩) false)
       (k (cA s d.o.dst vU))⟩
     | false=>⟨λ_ _ _=>false⟩
    | _=>⟨λ_ _ _=>false⟩
   | _=>⟨λih s k=>(guardF nt ops d.o.guard).run s.e
     ((nI nt d.o.op).run s.e λo f=>j8 s.cG λb=>af (Nat.blt b 262144) (k ⟨(fs d.o.dst).put (f b) s.e,s.h,s.Hs,Nat.succ b,⟨j,b,o,0⟩::s.pend,s.mats,s.aO,s.c⟩) false)
     (k ⟨(fs d.o.dst).put vU s.e,s.h,s.Hs,Nat.succ s.cG,s.pend,s.mats,s.aO,s.c⟩)⟩)->Fd) ?x ?p
 case p=>(try delta V.t V.e V.c V.a FO.t FH.h LP.e LP.pend Fx.get Fo.run Fs.put Pc.run Pr.run Fa.run Bn.run Fr.run Fg.run Fd.run FD.e FD.h FD.Hs FD.cG FD.pend FD.mats FD.aO FD.c FP.o FP.ins FL.e R.a R.c T4.a T4.c);exact rfl
 case f=>exactλx _=>x
def sR (nt:Nat)(ops:Array Oper)(aC:Tr Nat)(l:List qr):Nat->Fd:=by
 refine(?f:(aM:Nat->Fd)->aM=(
  List.rec (motive:=λ_=>Nat->Fd) (λ_=>⟨λ_ s k=>k s⟩) (λd _ r j=>⟨λih s k=>(jX P nt ops aC j d).run ih s λs=>(r (Nat.succ j)).run ih s k⟩) l)->Nat->Fd) ?x ?p
 case p=>(try delta Fo.run Pc.run Pr.run Fa.run Bn.run Fr.run Fg.run Fd.run);exact rfl
 case f=>exactλx _=>x
def mX (n:Nat)(u v:V):Bool:=aE (av u) λa=>aE (av v) λb=>sameN n a b
def VI (u v:V):Bool:=by
 refine(?f:(aM:Bool)->aM=(
  af (Nat.beq u.b v.b) (af (Nat.beq u.c v.c) (af (Nat.beq u.d v.d) (af (Nat.beq u.e v.e) (Nat.beq u.f v.f) false) false) false) false)->Bool) ?x ?p
 case p=>(try delta V.f V.e V.d V.c V.b LP.e FD.e FD.c FL.e FL.d R.b R.c R.d T4.b T4.c T4.d);exact rfl
 case f=>exactλx _=>x
def yn (u v:V):Bool:=by
 refine(?f:(aM:Bool)->aM=(
  af (Nat.beq u.a v.a) (af (Nat.blt u.t 4) true (VI u v)) false)->Bool) ?x ?p
 case p=>(try delta V.t V.a FO.t R.a T4.a);exact rfl
 case f=>exactλx _=>x
def FE (f:V->V->Bool)(r s:R V)(n i j:Nat):Bool:=
 Nat.rec (motive:=λ_=>Nat->Nat->Bool) (λ_ _=>true) (λ_ ih i j=>j8 i λi=>j8 j λj=>af (f (rg i r) (rg j s)) (ih (Nat.succ i) (Nat.succ j)) false) n i j
def VH (n:Nat)(f:V->V->Bool)(u v:V):Bool:=by
 refine(?f:(aM:Bool)->aM=(
  af (Nat.beq u.t 9) (af (Nat.beq u.b v.b) (c9 u.r λr=>c9 v.r λs=>FE f r s u.b u.a v.a) false) (mX n u v))->Bool) ?x ?p
 case p=>(try delta V.r V.t V.b V.a FO.t R.a R.b T4.a T4.b);exact rfl
 case f=>exactλx _=>x
def ym (n:Nat)(f:V->V->Bool)(u v:V):Bool:=by
 refine(?f:(aM:Bool)->aM=(
  af (Nat.beq u.t v.t) (af (Nat.blt u.t 8) (af (Nat.blt 0 u.t) (yn u v) (mX n u v)) (af (Nat.blt 11 u.t) (yn u v) (VH n f u v))) false)->Bool) ?x ?p
 case p=>(try delta V.t FO.t);exact rfl
 case f=>exactλx _=>x
def gQ (u v:V):Bool:=ym 6 (ym 5 (mX 4)) u v
def KU (nt:Nat)(Hs:List FH)(l:FL):Bool:=by
 refine(?f:(aM:Bool)->aM=(
  Nat.rec (motive:=λ_=>Nat->Bool) (λ_=>true) (λ_ ih k=>aE (dJ Hs k) λh=>
     (B8 P nt l.d.o.op).run dw l.e h λv _=>af (gQ v l.v) (ih (Nat.succ k)) false) (Nat.succ (Nat.sub l.d.hi l.d.lo)) l.d.lo)->Bool) ?x ?p
 case p=>(try delta V.e V.d LP.e Fo.run Pc.run Pr.run Fa.run Bn.run Fr.run Fg.run Fd.run FD.e FP.o FL.e FL.d FL.v R.d T4.d);exact rfl
 case f=>exactλx _=>x
def pT (nt:Nat)(Hs:List FH)(pend:List FP)(mats:List (FP × Nat))(l:FL):Bool:=by
 refine(?f:(aM:Bool)->aM=(
  match nP l.d.o.op with
   | none=>Nat.rec (motive:=λ_=>Nat->Bool) (λ_=>true) (λ_ ih k=>aE (dJ Hs k) λh=>
    (B8 P nt l.d.o.op).run dw l.e (eY l.aC pend (jo l.aC k mats h)) λv _=>af (gQ v l.v) (ih (Nat.succ k)) false) (Nat.succ (Nat.sub l.d.hi l.d.lo)) l.d.lo
   | some x=>j8 ((fx x).get l.e).c λb=>
    Nat.rec (motive:=λ_=>Nat->Bool) (λ_=>true) (λ_ ih k=>aE (dJ Hs k) λh=>
     (B8 P nt l.d.o.op).run dw l.e (dQ l.aC b pend (D1 l.aC b k mats h)) λv _=>af (gQ v l.v) (ih (Nat.succ k)) false) (Nat.succ (Nat.sub l.d.hi l.d.lo)) l.d.lo)->Bool) ?x ?p
 case p=>(try delta V.e V.d V.c LP.e Fx.get Fo.run Pc.run Pr.run Fa.run Bn.run Fr.run Fg.run Fd.run FD.e FD.c FP.o FL.e FL.d FL.aC FL.v R.c R.d T4.c T4.d);exact rfl
 case f=>exactλx _=>x
structure Dn where
 c:Nat
 b:Nat
 r:Nat
 o:Nat
 lo:Nat
 en:Nat
 v:V
def Ja (op:AOp):Option (Nat × Operand):=match op with | .load g n x=>some (Nat.add (Nat.mul n 2) (Bool.rec (motive:=λ_=>Nat) 0 1 g),x) | _=>none
def Ig (c b r o lo en:Nat)(v:V)(done:List Dn):Bool:=by
 refine(?f:(aM:Bool)->aM=(
  List.rec (motive:=λ_=>Bool) false
   (λd _ ih=>af (aU (Nat.beq d.b b) (aU (Nat.beq d.o o) (aU (Nat.beq d.r r) (aU (Nat.beq d.c c) (aU (Nat.ble d.lo lo) (Nat.ble en d.en)))))) (gQ d.v v) ih) done)->Bool) ?x ?p
 case p=>(try delta Dn.c Dn.b Dn.r Dn.o Dn.lo Dn.en Dn.v V.r V.c V.b FD.c FP.o FL.v R.b R.c T4.b T4.c);exact rfl
 case f=>exactλx _=>x
def Di (nt:Nat)(Hs:List FH)(pend:List FP)(mats:List (FP × Nat))(l:FL)(ih:List Dn->Bool)(done:List Dn)(c en:Nat)(p:V):Bool:=by
 refine(?f:(aM:Bool)->aM=(
  j8 p.c λb=>af (aU (Nat.beq p.t 4) (aU (tI b pend) (tJ b mats)))
    (af (Ig c b p.b p.a l.d.lo en l.v done) (ih done) (af (KU P nt Hs l) (ih (⟨c,b,p.b,p.a,l.d.lo,en,l.v⟩::done)) false))
    (af (pT P nt Hs pend mats l) (ih done) false))->Bool) ?x ?p
 case p=>(try delta Dn.c Dn.b Dn.lo Dn.v V.t V.d V.c V.b V.a FO.t FD.c FL.d FL.v R.a R.b R.c R.d T4.a T4.b T4.c T4.d);exact rfl
 case f=>exactλx _=>x
def jb (nt:Nat)(Hs:List FH)(pend:List FP)(mats:List (FP × Nat))(l:List FL):List Dn->Bool:=by
 refine(?f:(aM:List Dn->Bool)->aM=(
  List.rec (motive:=λ_=>List Dn->Bool) (λ_=>true) (λl _ ih done=>match Ja l.d.o.op with
    | none=>af (pT P nt Hs pend mats l) (ih done) false
    | some p=>Di P nt Hs pend mats l ih done p.1 (Nat.add l.d.lo (Nat.sub l.d.hi l.d.lo)) ((fx p.2).get l.e)) l)->List Dn->Bool) ?x ?p
 case p=>(try delta Dn.o Dn.lo V.e V.d LP.e Fx.get FD.e FP.o FL.e FL.d R.d T4.d);exact rfl
 case f=>exactλx _=>x
def N7 (nt:Nat)(s:FD)(k:Kt):Bool:=by
 refine(?f:(aM:Bool)->aM=(
  af (jb P nt s.Hs.reverse s.pend s.mats s.aO []) (k s.e (List.rec (motive:=λ_=>FH->FH) (λh=>h) (λp _ ih h=>ih (hput p.id p.o h)) s.pend s.h)) false)->Bool) ?x ?p
 case p=>(try delta Dn.o V.e FH.h LP.e LP.pend FD.e FD.h FD.Hs FD.pend FD.mats FD.aO FP.id FP.o FL.e);exact rfl
 case f=>exactλx _=>x
def drawF (nt:Nat)(ops:Array Oper):Fr:=by
 refine(?f:(aM:Fr)->aM=(
  match dinfoF P nt ops with
   | none=>⟨λ_ _ _ _=>false⟩
   | some I=>⟨λih e h k=>j8 h.next λb=>af (Nat.ble (Nat.add b I.nd) 262144)
     ((sR P nt ops I.aC I.ops 0).run ih ⟨e,⟨h.h,Nat.add b I.nd,h.fr⟩,[⟨h.h,Nat.add b I.nd,h.fr⟩],b,[],[],[],0⟩ λs=>N7 P nt s k) false⟩)->Fr) ?x ?p
 case p=>(try delta FH.h FH.next FH.fr Fo.run Pc.run Pr.run Fa.run Bn.run Fr.run Fg.run Fd.run FD.h FL.aC);exact rfl
 case f=>exactλx _=>x
structure Fc where
 run:bT->(Nat->Kt)->Kt->Env->FH->Kt->Bool
def xN (ih:bT)(kx:Nat->Kt)(kr kn:Kt)(b:Fc)(n:Nat):Kt:=by
 refine(?f:(aM:Kt)->aM=(
  Nat.rec (motive:=λ_=>Kt) (λ_ _=>false) (λ_ r e h=>b.run ih kx kr e h r) n)->Kt) ?x ?p
 case p=>(try delta Fo.run Pc.run Pr.run Fa.run Bn.run Fr.run Fg.run Fd.run Fc.run);exact rfl
 case f=>exactλx _=>x
def yb (kx:Nat->Kt)(kr:Kt)(k:Kt)(p:Nat):Kt:=Nat.rec (motive:=λ_=>Kt) k (λm _=>Nat.rec (motive:=λ_=>Kt) kr (λi _=>kx i) m) p
def ml (e:Env)(nt:Nat)(ps:List Nat)(asg body:Code)(st pend D:Nat):FO:=⟨⟨e,nt,ps,asg,body,st,pend,D⟩,mW,[],3,0,0⟩
def tX (l:Nat)(e:Env)(kx:Nat->Kt)(kr:Kt)(k:Kt)(h:FH):Bool:=by
 refine(?f:(aM:Bool)->aM=(
  af (aU (Nat.beq (hget l h).t 3) (af (Nat.beq (hget l h).lp.st 1) false true)) (yb kx kr k (hget l h).lp.pend e (hput l l9 h)) false)->Bool) ?x ?p
 case p=>(try delta V.t FO.t FO.lp LP.st LP.pend FD.pend);exact rfl
 case f=>exactλx _=>x
def gk (nt:Nat)(ps:List Nat)(asg body:Code)(ih:bT)(kx:Nat->Kt)(kr:Kt)(e:Env)(k:Kt)(v:V)(D:Nat)(h:FH):Bool:=by
 refine(?f:(aM:Bool)->aM=(
  c9 v.r λr=>j8 v.a λf=>nX h (ml e nt ps asg body 0 0 D) λl h=>ih.call f (bI (bJ r v.c 0) (cH (.yield l)::bJ r v.b v.c)) h λ_ h=>tX l e kx kr k h)->Bool) ?x ?p
 case p=>(try delta Dn.c Dn.b Dn.r V.r V.c V.b V.a bT.call FD.c R.a R.b R.c T4.a T4.b T4.c);exact rfl
 case f=>exactλx _=>x
def rT (nt:Nat)(g:Operand)(ps:List Nat)(asg body:Code)(ih:bT)(kx:Nat->Kt)(kr:Kt)(e:Env)(h:FH)(k:Kt):Bool:=by
 refine(?f:(aM:Bool)->aM=(
  af (Nat.beq ((fx g).get e).t 8)
    (Nat.rec (motive:=λ_=>Bool) (nX h ⟨pU,mW,[],4,0,0⟩ λD h=>gk nt ps asg body ih kx kr e k ((fx g).get e) D ⟨h.h,h.next,⟨D::h.fr.ds,h.fr.rd⟩⟩)
     (λl _=>af (Nat.beq (hget l h).t 3) (gk nt ps asg body ih kx kr e k ((fx g).get e) (hget l h).lp.D h) false) h.fr.rd) false)->Bool) ?x ?p
 case p=>(try delta V.t FO.t FH.h FH.next FH.fr sw.ds sw.rd FO.lp LP.D Fx.get FD.h);exact rfl
 case f=>exactλx _=>x
def fk (nt:Nat)(n:Nat):Code->Fc:=by
 refine(?f:(aM:Code->Fc)->aM=(
  Nat.rec (motive:=λ_=>Code->Fc) (λ_=>⟨λ_ _ _ _ _ _=>false⟩) (λ_ rec c=>match c with
    | .skip=>⟨λ_ _ _ e h k=>k e h⟩
    | .label _=>⟨λ_ _ _ e h k=>k e h⟩
    | .region _ ops d=>match d with
     | false=>⟨λih _ _ e h k=>(Qw P nt ops ops.toList).run ih e h k⟩
     | true=>⟨λih _ _ e h k=>(drawF P nt ops).run ih e h k⟩
    | .seq a b=>⟨λih kx kr e h k=>(rec a).run ih kx kr e h λe h=>(rec b).run ih kx kr e h k⟩
    | .cond c a b=>match ez nt c with
     | true=>⟨λih kx kr e h k=>gj ((fx c).get e) ((rec a).run ih kx kr e h k) ((rec b).run ih kx kr e h k)⟩
     | false=>⟨λ_ _ _ _ _ _=>false⟩
    | .block id b=>⟨λih kx kr e h k=>(rec b).run ih (λi e h=>af (Nat.beq i id) (k e h) (kx i e h)) kr e h k⟩
    | .loop b=>⟨λih kx kr e h k=>xN ih kx kr k (rec b) 100000 e h⟩
    | .exit id=>⟨λ_ kx _ e h _=>kx id e h⟩
    | .ret=>⟨λ_ _ kr e h _=>kr e h⟩
    | .rangeFunc g ps asg body=>match ez nt g with
     | true=>⟨λih kx kr e h k=>rT nt g ps.toList asg body ih kx kr e h k⟩
     | false=>⟨λ_ _ _ _ _ _=>false⟩
    | _=>⟨λ_ _ _ _ _ _=>false⟩) n)->Code->Fc) ?x ?p
 case p=>(try delta Fx.get Fo.run Pc.run Pr.run Fa.run Bn.run Fr.run Fg.run Fd.run Fc.run);exact rfl
 case f=>exactλx _=>x
structure Ff where
 run:bT->List V->FH->(V->FH->Bool)->Bool
def rE (ds:List Nat)(h:FH)(k:FH->Bool):Bool:=by
 refine(?f:(aM:Bool)->aM=(
  List.rec (motive:=λ_=>FH->Bool) (λh=>k h) (λD _ ih h=>af (Nat.beq (hget D h).t 4) (ih (hput D l9 h)) false) ds h)->Bool) ?x ?p
 case p=>(try delta V.t FO.t);exact rfl
 case f=>exactλx _=>x
def VJ (nt:Nat)(ps:List Nat)(args:List V)(e:Env)(k:Env->Bool):Bool:=
 List.rec (motive:=λ_=>List V->Env->Bool) (λargs e=>List.rec (motive:=λ_=>Bool) (k e) (λ_ _ _=>false) args)
  (λp _ ih args e=>List.rec (motive:=λ_=>Bool) false (λa t _=>af (Nat.blt p nt) (ih t (jh p a e)) false) args) ps args e
def zi (l:Nat)(fr:sw)(st pend:Nat)(v:V)(h:FH)(k:V->FH->Bool):Bool:=by
 refine(?f:(aM:Bool)->aM=(
  af (Nat.beq (hget l h).t 3) (k v ⟨(hput l (ml (hget l h).lp.e (hget l h).lp.nt (hget l h).lp.ps (hget l h).lp.asg (hget l h).lp.body st pend (hget l h).lp.D) h).h,h.next,fr⟩) false)->Bool) ?x ?p
 case p=>(try delta V.t V.e FO.t FH.h FH.next FO.lp LP.e LP.nt LP.ps LP.asg LP.body LP.D FD.e FD.h FL.e);exact rfl
 case f=>exactλx _=>x
def wu (ih:bT)(l:Nat)(args:List V)(h:FH)(k:V->FH->Bool):Bool:=by
 refine(?f:(aM:Bool)->aM=(
  j8 l λl=>af (aU (aU (Nat.blt l 262144) (Nat.ble (aK (hget l h).lp.ps) 2)) (aU (Nat.beq (hget l h).t 3) (Nat.beq (hget l h).lp.st 0)))
    (VJ (hget l h).lp.nt (hget l h).lp.ps args (hget l h).lp.e λe=>
     (fk P (hget l h).lp.nt 1000 (hget l h).lp.asg).run ih (λ_ _ _=>false) (λ_ _=>false) e ⟨h.h,h.next,⟨[],Nat.succ l⟩⟩ λe2 h2=>
      af (aU (Nat.beq (hget l h2).t 3) (Nat.beq (hget l h2).lp.st 0))
       ((fk P (hget l h).lp.nt 1000 (hget l h).lp.body).run ih (λi e3 h3=>zi l h.fr 2 (Nat.succ (Nat.succ i)) vF h3 k) (λe3 h3=>zi l h.fr 2 1 vF h3 k) e2
        ⟨(hput l (ml (hget l h2).lp.e (hget l h2).lp.nt (hget l h2).lp.ps (hget l h2).lp.asg (hget l h2).lp.body 1 (hget l h2).lp.pend (hget l h2).lp.D) h2).h,h2.next,h2.fr⟩ λe3 h3=>zi l h.fr 0 0 vT h3 k) false) false)->Bool) ?x ?p
 case p=>(try delta V.t V.e FO.t FH.h FH.next FH.fr FO.lp LP.e LP.nt LP.ps LP.asg LP.body LP.st LP.pend LP.D Fo.run Pc.run Pr.run Fa.run Bn.run Fr.run Fg.run Fd.run FD.e FD.h FD.pend FL.e Fc.run Ff.run);exact rfl
 case f=>exactλx _=>x
structure Fz where
 run:Env->FH->(List V->Bool)->Bool
def Ft (nt:Nat)(r:ResultVar):Fo:=by
 refine(?f:(aM:Fo)->aM=(
  match r with
   | .tmp t=>match Nat.blt t nt with | true=>⟨λ_ e h k=>k ((da t).g V e) h⟩ | false=>jd
   | .cell a t=>match Nat.blt a nt with
    | false=>jd
    | true=>match i8 (ri P) t,sizeG (ri P) t with
     | some true,some n=>mS n true ⟨(da a).g V⟩
     | some false,some 1=>mS 1 false ⟨(da a).g V⟩
     | _,_=>jd)->Fo) ?x ?p
 case p=>(try delta Len.g);exact rfl
 case f=>exactλx _=>x
def yk (nt:Nat)(l:List ResultVar):Fz:=by
 refine(?f:(aM:Fz)->aM=(
  List.rec (motive:=λ_=>Fz) ⟨λ_ _ k=>k []⟩ (λr _ z=>⟨λe h k=>(Ft P nt r).run dw e h λv _=>z.run e h λvs=>k (v::vs)⟩) l)->Fz) ?x ?p
 case p=>(try delta Fo.run Pc.run Pr.run Fa.run Bn.run Fr.run Fg.run Fd.run Fc.run Ff.run Fz.run);exact rfl
 case f=>exactλx _=>x
def DY (vs:List V):V:=List.rec (motive:=λ_=>V) (oU cT 0) (λv l _=>List.rec (motive:=λ_=>V) v (λ_ _ _=>oU (rowV vs) (aK vs)) l) vs
def Ay (nt:Nat)(l:List ResultVar)(fr:sw)(k:V->FH->Bool)(e:Env)(h:FH):Bool:=by
 refine(?f:(aM:Bool)->aM=(
  rE h.fr.ds h λh=>(yk P nt l).run e h λvs=>k (DY vs) ⟨h.h,h.next,fr⟩)->Bool) ?x ?p
 case p=>(try delta FH.h FH.next FH.fr sw.ds Fo.run Pc.run Pr.run Fa.run Bn.run Fr.run Fg.run Fd.run FD.h Fc.run Ff.run Fz.run);exact rfl
 case f=>exactλx _=>x
def fnF (f:FuncId):Ff:=by
 refine(?f:(aM:Ff)->aM=(
  match dJ P.funcs.toList f with
   | some fn=>match fn.body with
    | some c=>match Nat.ble fn.ntmps 4180&&(Nat.ble (aK fn.results.toList) 4180 && !(fn.name == "runtime.NumGoroutine")) with
     | true=>⟨λih args h k=>af (Nat.ble (aK args) fn.ntmps) ((fk P fn.ntmps 1000 c).run ih (λ_ _ _=>false) (Ay P fn.ntmps fn.results.toList h.fr k) (Ba args 0 cT) ⟨h.h,h.next,Kz⟩
       (Ay P fn.ntmps fn.results.toList h.fr k)) false⟩
     | false=>⟨λ_ _ _ _=>false⟩
    | none=>⟨λ_ _ _ _=>false⟩
   | none=>⟨λ_ _ _ _=>false⟩)->Ff) ?x ?p
 case p=>(try delta FH.h FH.next FH.fr LP.body Fo.run Pc.run Pr.run Fa.run Bn.run Fr.run Fg.run Fd.run FD.h Fc.run Ff.run Fz.run);exact rfl
 case f=>exactλx _=>x
abbrev iB:=FuncId->List V->FH->Option (Option (V × FH))
def BM (K:iB)(f:FuncId)(args:List V)(h:FH)(k:V->FH->Bool)(r:Bool):Bool:=
 Option.rec (motive:=λ_=>Bool) r (λo=>Option.rec (motive:=λ_=>Bool) false (λp=>Prod.rec (motive:=λ_=>Bool) (λv h=>k v h) p) o) (K f args h)
def callF (K:iB)(n:Nat):bT:=by
 refine(?f:(aM:bT)->aM=(
  Nat.rec (motive:=λ_=>bT) dw (λ_ ih=>⟨λf args h k=>BM K f args h k ((fnF P f).run ih args h k),λl args h k=>wu P ih l args h k⟩) n)->bT) ?x ?p
 case p=>(try delta Fo.run Pc.run Pr.run Fa.run Bn.run Fr.run Fg.run Fd.run Fc.run Ff.run Fz.run);exact rfl
 case f=>exactλx _=>x
def fastTrue (K:iB)(n:Nat)(f:FuncId):Bool:=by
 refine(?f:(aM:Bool)->aM=(
  (callF P K n).call f [] fh0 λv _=>Nat.beq v.t 2)->Bool) ?x ?p
 case p=>(try delta V.t FO.t bT.call);exact rfl
 case f=>exactλx _=>x
def noneKnown:iB:=λ_ _ _=>none
end
end Go.Ev
