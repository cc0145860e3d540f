/- Walks and rules. Conditions: none. -/
import Derived.RangeFuncIn
import Derived.OrdersIn
import Derived.DefersIn
set_option linter.unusedVariables false
set_option linter.unusedSectionVars false
namespace Go.Ev
@[reducible] def Rw {α:Sort _}(b:α):=(x:α)->x=b->α
theorem fS {p:Prop}(h:false=true):p:=Bool.noConfusion h
theorem Dz {p:Prop}(h:true=false):p:=Bool.noConfusion h
noncomputable section
def dJ {α:Type}(l:List α):Nat->Option α:=
 List.rec (motive:=λ_=>Nat->Option α) (λ_=>none) (λa _ ih n=>Nat.rec (some a) (λm _=>ih m) n) l
def cu {α:Type}(n:Nat):List α->List α:=
 Nat.rec (motive:=λ_=>List α->List α) (λl=>l) (λ_ ih l=>List.rec [] (λ_ t _=>ih t) l) n
def bV {α:Type}(n:Nat):List α->Option (List α):=
 Nat.rec (motive:=λ_=>List α->Option (List α)) (λ_=>some [])
  (λ_ ih l=>List.rec none (λa t _=>Option.rec none (λr=>some (a::r)) (ih t)) l) n
def bI {α:Type}(l m:List α):List α:=List.rec (motive:=λ_=>List α) m (λa _ ih=>a::ih) l
def aK {α:Type}(l:List α):Nat:=List.rec (motive:=λ_=>Nat) 0 (λ_ _ ih=>Nat.succ ih) l
def aI {α β:Type}(f:α->Option β)(l:List α):Option (List β):=
 List.rec (motive:=λ_=>Option (List β)) (some []) (λa _ ih=>Option.rec none (λb=>Option.rec none (λbs=>some (b::bs)) ih) (f a)) l
def aw {α β:Type}(f:β->α->Option β)(l:List α):β->Option β:=
 List.rec (motive:=λ_=>β->Option β) (λb=>some b) (λa _ ih b=>Option.rec none ih (f b a)) l
def d9 {α:Type}(f:α->Bool)(l:List α):Bool:=List.rec (motive:=λ_=>Bool) true (λa _ ih=>Bool.rec false ih (f a)) l
def eh {β:Type}(f:Nat->β->Option β)(n:Nat):Nat->β->Option β:=
 Nat.rec (motive:=λ_=>Nat->β->Option β) (λ_ b=>some b) (λ_ ih i b=>Option.rec none (λb'=>ih (Nat.succ i) b') (f i b)) n
def force {α:Type}(n:Nat)(k:Nat->α):α:=Nat.rec (motive:=λ_=>α) (k 0) (λm _=>k (Nat.succ m)) n
inductive qv where
 | z | c0 (p:qv) | c1 (p:qv) | c2 (p:qv) | c3 (p:qv)
inductive Tr (α:Type)where
 | lf
 | nd (v:Option α) (a b c d:Tr α)
def Tr.lH {α:Type}(p:qv):Tr α->Option α:=
 qv.rec (motive:=λ_=>Tr α->Option α) (λt=>Tr.rec none (λv _ _ _ _ _ _ _ _=>v) t)
  (λ_ ih t=>Tr.rec none (λ_ a _ _ _ _ _ _ _=>ih a) t) (λ_ ih t=>Tr.rec none (λ_ _ b _ _ _ _ _ _=>ih b) t)
  (λ_ ih t=>Tr.rec none (λ_ _ _ c _ _ _ _ _=>ih c) t) (λ_ ih t=>Tr.rec none (λ_ _ _ _ d _ _ _ _=>ih d) t) p
def Tr.fU {α:Type}(x:Option α)(p:qv):Tr α->Tr α:=
 qv.rec (motive:=λ_=>Tr α->Tr α)
  (λt=>Tr.rec (.nd x .lf .lf .lf .lf) (λ_ a b c d _ _ _ _=>.nd x a b c d) t)
  (λ_ ih t=>Tr.rec (.nd none (ih .lf) .lf .lf .lf) (λv a b c d _ _ _ _=>.nd v (ih a) b c d) t)
  (λ_ ih t=>Tr.rec (.nd none .lf (ih .lf) .lf .lf) (λv a b c d _ _ _ _=>.nd v a (ih b) c d) t)
  (λ_ ih t=>Tr.rec (.nd none .lf .lf (ih .lf) .lf) (λv a b c d _ _ _ _=>.nd v a b (ih c) d) t)
  (λ_ ih t=>Tr.rec (.nd none .lf .lf .lf (ih .lf)) (λv a b c d _ _ _ _=>.nd v a b c (ih d)) t) p
def fm (f:Nat):Nat->qv:=
 Nat.rec (motive:=λ_=>Nat->qv) (λ_=>.z)
  (λ_ ih n=>Nat.rec .z (λm _=>Nat.rec (.c0 (ih (Nat.div m 4))) (λr1 _=>Nat.rec (.c1 (ih (Nat.div m 4))) (λr2 _=>Nat.rec (.c2 (ih (Nat.div m 4))) (λ_ _=>.c3 (ih (Nat.div m 4))) r2) r1) (Nat.mod m 4)) n) f
def So (n:Nat):qv:=fm n n
def Tr.get {α:Type}(t:Tr α)(n:Nat):Option α:=t.lH (So n)
def Tr.put {α:Type}(t:Tr α)(n:Nat)(x:α):Tr α:=t.fU (some x) (So n)
def Tr.del {α:Type}(t:Tr α)(n:Nat):Tr α:=t.fU none (So n)
structure Pl where
 b:Nat
 r:Nat
 o:Nat
inductive AV where
 | bool (b:Bool)
 | int (k:IntKind) (n:Int)
 | str (s:ByteArray)
 | ptr (a:Option Pl)
 /-- 'rw': elements are rows (else cells of one row);'slack': the capacity is not less acX 'cap'. -/
 | slice (a:Option Pl) (len cap:Nat) (slack:Bool) (rw:Nat)
 /-- A slice of length 0 that is not nil,aa1 place and capacity are not known. -/
 | empty
 | map (r:Option Nat)
 | func (f:FuncId) (first captured:List AV)
 /-- A method bound to a value of an interface. -/
 | mfunc (name:String) (recv:AV)
 | yield (l:Nat)
 | nilFunc
 | iface (t:TypeId) (v:AV)
 | nilIface
 | agg (cells:List AV)
 | tuple (vs:List AV)
inductive AX where
 | normal | exit (id:Nat) | ret
inductive bv where
 /-- Rows of 'sz' cells,'n' of acY known;'ro': never written. -/
 | rows (t:Tr (List AV)) (n sz:Nat) (ro:Bool)
 | map (es:List (AV × AV))
 | deferred
 | loop (e:Tr AV) (nt:Nat) (ps:List Nat) (asg body:Code) (st:LoopState) (pend:Option AX) (D:Nat)
structure Heap where
 t:Tr bv
 next:Nat
def Heap.get (H:Heap)(b:Nat):Option bv:=H.t.get b
def Heap.put (H:Heap)(b:Nat)(o:bv):Heap:=⟨H.t.put b o,H.next⟩
def Heap.del (H:Heap)(b:Nat):Heap:=⟨H.t.del b,H.next⟩
def AV.one:AV->Bool
 | .agg _=>false
 | .tuple _=>false
 | _=>true
def AV.undef:AV:=.tuple []
def ofCell:Value->Option AV
 | .bool b=>some (.bool b)
 | .int k n=>some (.int k n)
 | .string s=>some (.str s)
 | .pointer none=>some (.ptr none)
 | .slice none l c=>some (.slice none l c false 0)
 | .map none=>some (.map none)
 | .nilFunc=>some .nilFunc
 | .nilIface=>some .nilIface
 | _=>none
def ofIface:Value->Option AV
 | .iface t v=>match ofCell v with | some a=>some (.iface t a) | none=>none
 | v=>ofCell v
def ofVal:Value->Option AV
 | .agg cs=>match aI ofIface cs.toList with | some l=>some (.agg l) | none=>none
 | .tuple cs=>match aI ofIface cs.toList with | some l=>some (.tuple l) | none=>none
 | v=>ofIface v
def bL (e:Tr AV):Operand->Option AV
 | .tmp t=>e.get t
 | .const v=>ofVal v
 | .global _=>none
 | .func f=>some (.func f [] [])
def Heap.read (H:Heap)(p:Pl)(n:Nat):Option (List AV):=
 match H.get p.b with
 | some (.rows t m _ _)=>
  match Nat.blt p.r m with
  | true=>match t.get p.r with
   | some row=>bV n (cu p.o row)
   | none=>none
  | false=>none
 | _=>none
def fK (row:List AV)(o:Nat)(vs:List AV):Option (List AV):=
 match bV o row with
 | some a=>match bV (aK vs) (cu o row) with
  | some _=>some (bI a (bI vs (cu (aK vs) (cu o row))))
  | none=>none
 | none=>none
def Heap.write (H:Heap)(p:Pl)(vs:List AV):Option Heap:=
 match H.get p.b with
 | some (.rows t m sz false)=>
  match Nat.blt p.r m with
  | true=>match t.get p.r with
   | some row=>match fK row p.o vs with
    | some row'=>some (H.put p.b (.rows (t.put p.r row') m sz false))
    | none=>none
   | none=>none
  | false=>none
 | _=>none
def Heap.new (H:Heap)(o:bv):Nat × Heap:=(H.next,⟨H.t.put H.next o,Nat.succ H.next⟩)
def rowsOf (l:List (List AV)):Option (Tr (List AV)):=
 match aw (λ(s:Tr (List AV) × Nat)row=>some (s.1.put s.2 row,Nat.succ s.2)) l (.lf,0) with
 | some s=>some s.1
 | none=>none
def elemAt (p:Pl)(rw sz i:Nat):Option Pl:=
 match rw with
 | 0=>some ⟨p.b,p.r,Nat.add p.o (Nat.mul i sz)⟩
 | _=>match Nat.beq rw sz with
  | true=>match Nat.beq p.o 0 with
   | true=>some ⟨p.b,Nat.add p.r i,0⟩
   | false=>none
  | false=>none
def Heap.gather (H:Heap)(p:Pl)(rw sz n:Nat):Option (List (List AV)):=
 match eh (λi(acc:List (List AV))=>match elemAt p rw sz i with
  | some q=>match H.read q sz with
   | some c=>some (c::acc)
   | none=>none
  | none=>none) n 0 [] with
 | some l=>some l.reverse
 | none=>none
def Heap.scatter (H:Heap)(p:Pl)(rw sz:Nat)(i:Nat)(l:List (List AV)):Option Heap:=
 match aw (λ(s:Heap × Nat)row=>match elemAt p rw sz s.2 with
  | some q=>match s.1.write q row with
   | some H'=>some (H',Nat.succ s.2)
   | none=>none
  | none=>none) l (H,i) with
 | some s=>some s.1
 | none=>none
inductive dC where
 | pb | pi | ps | DB | Zp | V9 | ptr | iface (cst:Bool)
 | agg (parts:List (Nat × Nat × Bool × dC))
inductive AOp where
 | mv (x:Operand)
 | pick (c a b:Operand)
 | alloc (n:Nat) (cells:List AV)
 | box (n:Nat) (x:Operand)
 | build (zero:List AV) (parts:List (Nat × Nat × Operand))
 | bslice (sz len:Nat) (zero:List AV) (parts:List (Nat × Operand))
 | load (agg:Bool) (n:Nat) (x:Operand)
 | store (n:Nat) (a x:Operand)
 | nilchk (x:Operand)
 | arith (op:BinOp) (x y:Operand)
 | eql (neg:Bool) (p:dC) (x y:Operand)
 | un (op:UnOp) (x:Operand)
 | convI (k:IntKind) (x:Operand)
 | convS (x:Operand)
 | b2s (x:Operand)
 | mkif (t:TypeId) (x:Operand)
 | mkfn (f:FuncId) (first captured:List Operand)
 | mkmf (name:String) (x:Operand)
 | mkmap
 | ins (lit:Bool) (kk:dC) (m k v:Operand)
 | mkslice (sz bytes:Nat) (zero:List AV) (l c:Operand)
 | slc (sz:Nat) (x:Operand) (lo hi mx:Option Operand)
 | slcA (n sz:Nat) (x:Operand) (lo hi mx:Option Operand)
 | slcS (x:Operand) (lo hi:Option Operand)
 | faddr (off:Nat) (x:Operand)
 | fld (off n:Nat) (agg:Bool) (x:Operand)
 | iaddrS (sz:Nat) (x i:Operand)
 | iaddrA (n sz:Nat) (x i:Operand)
 | idxA (n sz:Nat) (agg:Bool) (x i:Operand)
 | idxS (x i:Operand)
 | look (kk:dC) (zero:AV) (ok:Bool) (m k:Operand)
 | extract (x:Operand) (i:Nat)
 | lenS (x:Operand)
 | lenT (x:Operand)
 | lenM (x:Operand)
 | lenC (n:Nat)
 | cap (x:Operand)
 | minmax (mx:Bool) (args:List Operand)
 | append (sz bytes:Nat) (s x:Operand)
 | appendZ (sz bytes:Nat) (zero:List AV) (s x:Operand)
 | copy (sz:Nat) (d s:Operand)
 | clear (sz:Nat) (zero:List AV) (x:Operand)
 | delete (kk:dC) (m k:Operand)
 | call (f:Operand) (args:List Operand)
 | invoke (recv:Operand) (name:String) (args:List Operand)
 | defr (f:Operand) (args:List Operand)
 | bad
def oopt (x:Option Operand):List Operand:=match x with | some x=>[x] | none=>[]
def AOp.opers:AOp->List Operand
 | .mv x=>[x]
 | .pick c a b=>[c,a,b]
 | .alloc _ _=>[]
 | .box _ x=>[x]
 | .build _ parts=>parts.map λp=>p.2.2
 | .bslice _ _ _ parts=>parts.map λp=>p.2
 | .load _ _ x=>[x]
 | .store _ a x=>[a,x]
 | .nilchk x=>[x]
 | .arith _ x y=>[x,y]
 | .eql _ _ x y=>[x,y]
 | .un _ x=>[x]
 | .convI _ x=>[x]
 | .convS x=>[x]
 | .b2s x=>[x]
 | .mkif _ x=>[x]
 | .mkfn _ a b=>bI a b
 | .mkmf _ x=>[x]
 | .mkmap=>[]
 | .ins _ _ m k v=>[m,k,v]
 | .mkslice _ _ _ l c=>[l,c]
 | .slc _ x lo hi mx=>x::bI (oopt lo) (bI (oopt hi) (oopt mx))
 | .slcA _ _ x lo hi mx=>x::bI (oopt lo) (bI (oopt hi) (oopt mx))
 | .slcS x lo hi=>x::bI (oopt lo) (oopt hi)
 | .faddr _ x=>[x]
 | .fld _ _ _ x=>[x]
 | .iaddrS _ x i=>[x,i]
 | .iaddrA _ _ x i=>[x,i]
 | .idxA _ _ _ x i=>[x,i]
 | .idxS x i=>[x,i]
 | .look _ _ _ m k=>[m,k]
 | .extract x _=>[x]
 | .lenS x=>[x]
 | .lenT x=>[x]
 | .lenM x=>[x]
 | .lenC _=>[]
 | .cap x=>[x]
 | .minmax _ args=>args
 | .append _ _ s x=>[s,x]
 | .appendZ _ _ _ s x=>[s,x]
 | .copy _ d s=>[d,s]
 | .clear _ _ x=>[x]
 | .delete _ m k=>[m,k]
 | .call f args=>f::args
 | .invoke r _ args=>r::args
 | .defr f args=>f::args
 | .bad=>[]
structure bS where
 dst:Option Nat
 op:AOp
 guard:Option (Nat × Bool)
def partCells (n:Nat)(v:AV):Option (List AV):=
 match v with
 | .agg cs=>match Nat.beq (aK cs) n with | true=>some cs | false=>none
 | .tuple _=>none
 | v=>match n with | 1=>some [v] | _=>none
section compile
variable (P:Program)
def size? (t:TypeId):Option Nat:=match P.info? t with | some i=>some i.size | none=>none
def bytes? (t:TypeId):Option Nat:=match P.info? t with | some i=>some i.bytes | none=>none
def isAggT (t:TypeId):Option Bool:=match P.underlying t with | some (.struct _)=>some true | some (.array _ _)=>some true | some _=>some false | none=>none
def zero? (t:TypeId):Option AV:=match P.info? t with | some i=>(match i.zero with | some v=>ofVal v | none=>none) | none=>none
def jq (t:TypeId)(n:Nat):Option (List AV):=match zero? P t with | some z=>partCells n z | none=>none
def isConst:Operand->Bool
 | .const _=>true
 | _=>false
def eqPlan (cst:Bool):Nat->TypeId->Option dC
 | 0,_=>none
 | d+1,t=>
  match P.underlying t with
  | some .bool=>some .pb
  | some (.int _)=>some .pi
  | some .string=>some .ps
  | some (.pointer e)=>match size? P e with | some (Nat.succ _)=>some .ptr | _=>none
  | some (.slice _)=>some .DB
  | some (.map _ _)=>some .Zp
  | some (.func _ _ _)=>some .V9
  | some (.interface _)=>some (.iface cst)
  | some (.struct fs)=>
   match P.stoodInHeld t with
   | true=>none
   | false=>match aI (λf:Field=>match f.name != "_",size? P f.type,isAggT P f.type,eqPlan false d f.type with
     | true,some n,some g,some p=>some (f.offset,n,g,p)
     | _,_,_,_=>none) fs.toList with
    | some l=>some (.agg l)
    | none=>none
  | some (.array len elem)=>
   match size? P elem,isAggT P elem,eqPlan false d elem with
   | some n,some g,some p=>some (.agg ((List.range len).map λi=>(i*n,n,g,p)))
   | _,_,_=>none
  | _=>none
def fieldOf (t:TypeId)(i:Nat):Option Field:=
 match P.underlying t with
 | some (.struct fs)=>fs[i]?
 | _=>none
def keyOk (t:TypeId):Option dC:=
 match P.underlying t with
 | some (.int _)=>some .pi
 | some .string=>some .ps
 | some .bool=>some .pb
 | _=>none
def cBuild (t:TypeId)(parts:List (Nat × Operand)):Option AOp:=
 match P.underlying t,zero? P t with
 | some (.struct fs),some (.agg z)=>
  match aI (λp:Nat × Operand=>match fs[p.1]? with
    | some f=>match size? P f.type with | some n=>some (f.offset,n,p.2) | none=>none
    | none=>none) parts with
  | some l=>match d9 (λf:Field=>(size? P f.type).isSome) fs.toList with | true=>some (.build z l) | false=>none
  | none=>none
 | some (.array _ elem),some (.agg z)=>
  match size? P elem with
  | some n=>some (.build z (parts.map λp=>(p.1*n,n,p.2)))
  | none=>none
 | _,_=>none
def cBin (op:BinOp)(t:TypeId)(x y:Operand):Option AOp:=
 match op with
 | .eql=>match P.eqGuardType P.depth t,P.underlying t with
  | true,some (.interface _)=>match eqPlan P (isConst x||isConst y) 20 t with | some p=>some (.eql false p x y) | none=>none
  | true,_=>none
  | false,_=>match eqPlan P (isConst x||isConst y) 20 t with | some p=>some (.eql false p x y) | none=>none
 | .neq=>match P.eqGuardType P.depth t,P.underlying t with
  | true,some (.interface _)=>match eqPlan P (isConst x||isConst y) 20 t with | some p=>some (.eql true p x y) | none=>none
  | true,_=>none
  | false,_=>match eqPlan P (isConst x||isConst y) 20 t with | some p=>some (.eql true p x y) | none=>none
 | _=>some (.arith op x y)
def cBuiltin (b:Builtin)(ts:List TypeId)(args:List Operand):Option AOp:=
 match b,ts,args with
 | .len,[t],[x]=>match P.underlying t with
  | some .string=>some (.lenT x)
  | some (.slice _)=>some (.lenS x)
  | some (.map _ _)=>some (.lenM x)
  | some (.array n _)=>some (.lenC n)
  | some (.pointer a)=>match P.underlying a with | some (.array n _)=>some (.lenC n) | _=>none
  | _=>none
 | .cap,[t],[x]=>match P.underlying t with
  | some (.slice _)=>some (.cap x)
  | _=>none
 | .min,_,l=>some (.minmax false l)
 | .max,_,l=>some (.minmax true l)
 | .append,[t,u],[s,x]=>match P.underlying t with
  | some (.slice e)=>match size? P e,bytes? P e,P.underlying u with
   | some (Nat.succ n),some bs,some (.int _)=>match jq P e (Nat.succ n) with
    | some z=>some (.appendZ (Nat.succ n) bs z s x)
    | none=>none
   | some (Nat.succ n),some bs,some (.slice _)=>match jq P e (Nat.succ n) with
    | some _=>some (.append (Nat.succ n) bs s x)
    | none=>none
   | _,_,_=>none
  | _=>none
 | .copy,[t,_],[d,s]=>match P.underlying t with
  | some (.slice e)=>match size? P e with
   | some (Nat.succ n)=>some (.copy (Nat.succ n) d s)
   | _=>none
  | _=>none
 | .clear,[t],[x]=>match P.underlying t with
  | some (.slice e)=>match size? P e with
   | some (Nat.succ n)=>match jq P e (Nat.succ n) with
    | some z=>some (.clear (Nat.succ n) z x)
    | none=>none
   | _=>none
  | _=>none
 | .delete,[t,_],[m,k]=>match P.underlying t with
  | some (.map kt _)=>match keyOk P kt with | some kk=>some (.delete kk m k) | none=>none
  | _=>none
 | _,_,_=>none
def cOp:Op->Option AOp
 | .move x=>some (.mv x)
 | .assign x=>some (.mv x)
 | .pick c a b=>some (.pick c a b)
 | .alloc t=>match size? P t with
  | some (Nat.succ n)=>match jq P t (Nat.succ n) with
   | some z=>some (.alloc (Nat.succ n) z)
   | none=>none
  | _=>none
 | .box t x=>match size? P t with | some (Nat.succ n)=>some (.box (Nat.succ n) x) | _=>none
 | .build t parts=>cBuild P t parts.toList
 | .buildSlice t len parts=>match P.underlying t with
  | some (.slice e)=>match size? P e with
   | some (Nat.succ n)=>match jq P e (Nat.succ n) with
    | some z=>match Nat.ble (len*Nat.succ n) 16777216 with
     | true=>some (.bslice (Nat.succ n) len z parts.toList)
     | false=>none
    | none=>none
   | _=>none
  | _=>none
 | .load t x=>match isAggT P t,size? P t with
  | some g,some (Nat.succ n)=>match g,n with
   | false,Nat.succ _=>none
   | _,_=>some (.load g (Nat.succ n) x)
  | _,_=>none
 | .store t a x=>match size? P t with | some (Nat.succ n)=>some (.store (Nat.succ n) a x) | _=>none
 | .nilCheck x=>some (.nilchk x)
 | .binOp op t x y _=>cBin P op t x y
 | .unOp op _ x=>some (.un op x)
 | .convert s d x=>match P.underlying s,P.underlying d with
  | some (.int _),some (.int k)=>some (.convI k x)
  | some .string,some .string=>some (.convS x)
  | some (.slice e),some .string=>match P.underlying e,size? P e with
   | some (.int .u8),some 1=>some (.b2s x)
   | _,_=>none
  | _,_=>none
 | .makeInterface t x=>match P.underlying t with
  | some (.interface _)=>none
  | some _=>some (.mkif t x)
  | none=>none
 | .makeFunc (.func f) first cap=>some (.mkfn f first.toList cap.toList)
 | .makeFunc (.method n) first cap=>match first.toList,cap.toList with
  | [x],[]=>some (.mkmf n x)
  | _,_=>none
 | .makeMap t none=>some .mkmap
 | .makeMap t (some _)=>none
 | .mapUpdate t m k v=>match P.underlying t with
  | some (.map kt _)=>match keyOk P kt with | some kk=>some (.ins false kk m k v) | none=>none
  | _=>none
 | .insert t m k v=>match P.underlying t with
  | some (.map kt _)=>match keyOk P kt with | some kk=>some (.ins true kk m k v) | none=>none
  | _=>none
 | .makeSlice t l c=>match P.underlying t with
  | some (.slice e)=>match size? P e,bytes? P e with
   | some (Nat.succ n),some bs=>match jq P e (Nat.succ n) with
    | some z=>some (.mkslice (Nat.succ n) bs z l c)
    | none=>none
   | _,_=>none
  | _=>none
 | .slice t x lo hi mx=>match P.underlying t with
  | some (.slice e)=>match size? P e with | some (Nat.succ n)=>some (.slc (Nat.succ n) x lo hi mx) | _=>none
  | some (.array n e)=>match size? P e with | some (Nat.succ k)=>some (.slcA n (Nat.succ k) x lo hi mx) | _=>none
  | some .string=>match mx with | none=>some (.slcS x lo hi) | some _=>none
  | _=>none
 | .fieldAddr t x i=>match fieldOf P t i with
  | some f=>match size? P f.type with | some (Nat.succ _)=>some (.faddr f.offset x) | _=>none
  | none=>none
 | .field t x i=>match fieldOf P t i with
  | some f=>match size? P f.type,isAggT P f.type with
   | some (Nat.succ n),some g=>match g,n with
    | false,Nat.succ _=>none
    | _,_=>some (.fld f.offset (Nat.succ n) g x)
   | _,_=>none
  | none=>none
 | .indexAddr t x i=>match P.underlying t with
  | some (.slice e)=>match size? P e with | some (Nat.succ n)=>some (.iaddrS (Nat.succ n) x i) | _=>none
  | some (.array n e)=>match size? P e with | some (Nat.succ k)=>some (.iaddrA n (Nat.succ k) x i) | _=>none
  | _=>none
 | .index t x i=>match P.underlying t with
  | some (.array n e)=>match size? P e,isAggT P e with
   | some (Nat.succ k),some g=>match g,k with
    | false,Nat.succ _=>none
    | _,_=>some (.idxA n (Nat.succ k) g x i)
   | _,_=>none
  | some .string=>some (.idxS x i)
  | _=>none
 | .lookup t m k ok=>match P.underlying t with
  | some (.map kt e)=>match keyOk P kt,zero? P e with
   | some kk,some z=>some (.look kk z ok m k)
   | _,_=>none
  | _=>none
 | .extract x i=>some (.extract x i)
 | .call c=>match c.callee with
  | .value f=>some (.call f c.args.toList)
  | .invoke r n=>some (.invoke r n c.args.toList)
  | .builtin b=>cBuiltin P b c.argTypes.toList c.args.toList
 | .defer c=>match c.callee with
  | .value f=>some (.defr f c.args.toList)
  | _=>none
 | _=>none
def cOper (nt:Nat)(o:Oper):bS:=
 match o.dst with
 | none=>⟨none,(cOp P o.op).getD .bad,o.guard⟩
 | some d=>match Nat.blt d nt with
  | true=>⟨some d,(cOp P o.op).getD .bad,o.guard⟩
  | false=>⟨none,(cOp P o.op).getD .bad,o.guard⟩
def meth (t:TypeId)(name:String):Option FuncId:=
 match P.info? t with
 | some i=>match i.methods.find? (·.name==name) with
  | some m=>match m.path.toList,m.func,P.underlying t with
   | [],some (f,true),some (.pointer _)=>some f
   | _,_,_=>none
  | none=>none
 | none=>none
end compile
def iadd (a b:Int):Int:=match a,b with | .ofNat a,.ofNat b=>.ofNat (Nat.add a b) | a,b=>a+b
def vH (a b:Int):Int:=match a,b with
 | .ofNat a,.ofNat b=>match Nat.ble b a with | true=>.ofNat (Nat.sub a b) | false=>.negSucc (Nat.pred (Nat.sub b a))
 | a,b=>a-b
def U5 (a b:Int):Int:=match a,b with | .ofNat a,.ofNat b=>.ofNat (Nat.mul a b) | a,b=>a*b
def ilt (a b:Int):Bool:=match a,b with
 | .ofNat a,.ofNat b=>Nat.blt a b
 | .ofNat _,.negSucc _=>false
 | .negSucc _,.ofNat _=>true
 | .negSucc a,.negSucc b=>Nat.blt b a
def ieq (a b:Int):Bool:=match a,b with
 | .ofNat a,.ofNat b=>Nat.beq a b
 | .negSucc a,.negSucc b=>Nat.beq a b
 | _,_=>false
def keq (a b:IntKind):Bool:=match a,b with | .i64,.i64=>true | .u8,.u8=>true | a,b=>decide (a=b)
def primEq (p:dC)(x y:AV):Option Bool:=
 match p with
 | .pb=>match x with
  | .bool a=>match y with | .bool b=>some (a==b) | _=>none
  | _=>none
 | .pi=>match x with
  | .int j a=>match y with
   | .int k b=>match keq j k with | true=>some (ieq a b) | false=>none
   | _=>none
  | _=>none
 | .ps=>match x with
  | .str a=>match y with | .str b=>some (a.toList==b.toList) | _=>none
  | _=>none
 | _=>none
def part (agg:Bool)(cs:List AV)(off n:Nat):Option AV:=
 match agg with
 | true=>match bV n (cu off cs)with | some l=>some (.agg l) | none=>none
 | false=>dJ cs off
def eqBy:Nat->dC->AV->AV->Option Bool
 | 0,_,_,_=>none
 | d+1,p,x,y=>
  match p with
  | .pb=>primEq .pb x y
  | .pi=>primEq .pi x y
  | .ps=>primEq .ps x y
  | .DB=>match x,y with
   | .slice none _ _ _ _,.slice b _ _ _ _=>some b.isNone
   | .slice (some _) _ _ _ _,.slice none _ _ _ _=>some false
   | .slice none _ _ _ _,.empty=>some false
   | .empty,.slice none _ _ _ _=>some false
   | _,_=>none
  | .Zp=>match x,y with
   | .map none,.map b=>some b.isNone
   | .map (some _),.map none=>some false
   | _,_=>none
  | .V9=>match x,y with
   | .nilFunc,.nilFunc=>some true
   | .nilFunc,.func _ _ _=>some false
   | .func _ _ _,.nilFunc=>some false
   | _,_=>none
  | .ptr=>match x,y with
   | .ptr none,.ptr b=>some b.isNone
   | .ptr (some _),.ptr none=>some false
   | .ptr (some a),.ptr (some b)=>match Nat.beq a.b b.b with
    | true=>match Nat.beq a.r b.r with
     | true=>match Nat.beq a.o b.o with | true=>some true | false=>none
     | false=>none
    | false=>none
   | _,_=>none
  | .iface cst=>match x,y with
   | .nilIface,.nilIface=>match cst with | true=>some true | false=>none
   | .nilIface,.iface _ _=>some false
   | .iface _ _,.nilIface=>some false
   | _,_=>none
  | .agg ps=>match x,y with
   | .agg xs,.agg ys=>aw (λ(b:Bool)q=>match b with
     | false=>some false
     | true=>match part q.2.2.1 xs q.1 q.2.1,part q.2.2.1 ys q.1 q.2.1 with
      | some u,some v=>eqBy d q.2.2.2 u v
      | _,_=>none) ps true
   | _,_=>none
def mkI (k:IntKind)(n:Int):Option AV:=
 match n with
 | .ofNat m=>match k with
  | .i64=>match Nat.ble m 9223372036854775807 with
   | true=>force m λm=>some (.int .i64 (.ofNat m))
   | false=>some (.int .i64 (IntKind.wrap .i64 (.ofNat m)))
  | .u8=>force (Nat.mod m 256) λm=>some (.int .u8 (.ofNat m))
  | .u64=>force (Nat.mod m 18446744073709551616) λm=>some (.int .u64 (.ofNat m))
  | k=>some (.int k (IntKind.wrap k (.ofNat m)))
 | .negSucc m=>match k with
  | .i64=>match Nat.ble m 9223372036854775807 with
   | true=>force m λm=>some (.int .i64 (.negSucc m))
   | false=>some (.int .i64 (IntKind.wrap .i64 (.negSucc m)))
  | k=>some (.int k (IntKind.wrap k (.negSucc m)))
def bitsOp (op:BinOp)(k:IntKind)(a b:Int):Option AV:=
 match op with
 | .and=>some (.int k (k.wrap (BitVec.ofInt k.bits a &&& BitVec.ofInt k.bits b).toNat))
 | .or=>some (.int k (k.wrap (BitVec.ofInt k.bits a ||| BitVec.ofInt k.bits b).toNat))
 | .xor=>some (.int k (k.wrap (BitVec.ofInt k.bits a ^^^ BitVec.ofInt k.bits b).toNat))
 | .andNot=>some (.int k (k.wrap (BitVec.ofInt k.bits a &&& ~~~BitVec.ofInt k.bits b).toNat))
 | _=>none
def bits (op:BinOp)(k:IntKind)(a b:Int):Option AV:=
 match k,a,b with
 | .i64,.ofNat x,.ofNat y=>match Nat.ble x 9223372036854775807&&Nat.ble y 9223372036854775807 with
  | true=>match op with
   | .and=>force (Nat.land x y) λr=>some (.int .i64 (.ofNat r))
   | .or=>force (Nat.lor x y) λr=>some (.int .i64 (.ofNat r))
   | _=>bitsOp op .i64 (.ofNat x) (.ofNat y)
  | false=>bitsOp op .i64 (.ofNat x) (.ofNat y)
 | k,a,b=>bitsOp op k a b
def binV (op:BinOp)(x y:AV):Option AV:=
 match x,y with
 | .int k a,.int k' b=>
  match op with
  | .shl=>match a,b with
   | .ofNat a,.ofNat b=>mkI k (.ofNat (Nat.mul a (Nat.pow 2 (Nat.min b k.bits))))
   | a,.ofNat b=>mkI k (a*2 ^ (Nat.min b k.bits))
   | _,_=>none
  | .shr=>match a,b with
   | .ofNat a,.ofNat b=>force (Nat.div a (Nat.pow 2 (Nat.min b k.bits))) λr=>some (.int k (.ofNat r))
   | _,_=>none
  | _=>match keq k k' with
   | false=>none
   | true=>match op with
    | .add=>mkI k (iadd a b)
    | .sub=>mkI k (vH a b)
    | .mul=>mkI k (U5 a b)
    | .quo=>match a,b with
     | _,.ofNat 0=>none
     | .ofNat a,.ofNat b=>mkI k (.ofNat (Nat.div a b))
     | a,b=>mkI k (a.tdiv b)
    | .rem=>match a,b with
     | _,.ofNat 0=>none
     | .ofNat a,.ofNat b=>force (Nat.mod a b) λr=>some (.int k (.ofNat r))
     | a,b=>some (.int k (a.tmod b))
    | .lss=>some (.bool (ilt a b))
    | .leq=>some (.bool (!ilt b a))
    | .gtr=>some (.bool (ilt b a))
    | .geq=>some (.bool (!ilt a b))
    | op=>bits op k a b
 | .str a,.str b=>match op with
  | .add=>match Nat.ble (a.size+b.size) 4294967296 with | true=>some (.str (a++b)) | false=>none
  | .lss=>some (.bool (Op.bytesLess a.toList b.toList))
  | .leq=>some (.bool (Op.bytesLess a.toList b.toList||a.toList==b.toList))
  | .gtr=>some (.bool !(Op.bytesLess a.toList b.toList||a.toList==b.toList))
  | .geq=>some (.bool !(Op.bytesLess a.toList b.toList))
  | _=>none
 | _,_=>none
def unV (op:UnOp)(x:AV):Option AV:=
 match op,x with
 | .neg,.int k n=>mkI k (0-n)
 | .not,.bool b=>some (.bool !b)
 | _,_=>none
def mm (mx:Bool)(x y:AV):Option AV:=
 match x,y with
 | .int k a,.int _ b=>match mx with
  | true=>some (.int k (match ilt a b with | true=>b | false=>a))
  | false=>some (.int k (match ilt b a with | true=>b | false=>a))
 | _,_=>none
def bnd (y:Nat)(x:AV):Option Nat:=
 match x with
 | .int _ (.ofNat n)=>match Nat.ble n y with | true=>some n | false=>none
 | _=>none
def cL (ρ:Operand->Option AV)(y d:Nat):Option Operand->Option Nat
 | none=>some d
 | some x=>match ρ x with | some v=>bnd y v | none=>none
def mM (cs:List AV):List (Nat × List AV)->Option (List AV):=
 λl=>aw (λcs(p:Nat × List AV)=>fK cs p.1 p.2) l cs
def lookIn (p:dC)(k:AV)(es:List (AV × AV)):Option (Option AV):=
 aw (λ(r:Option AV)(e:AV × AV)=>match primEq p k e.1 with | some true=>some (some e.2) | some false=>some r | none=>none) es none
def putIn (p:dC)(k v:AV)(es:List (AV × AV)):Option (List (AV × AV)):=
 match primEq p k k with
 | some true=>match lookIn p k es with
  | some none=>some (bI es [(k,v)])
  | some (some _)=>aI (λe:AV × AV=>match primEq p k e.1 with | some true=>some (e.1,v) | some false=>some e | none=>none) es
  | none=>none
 | _=>none
def sN (p:dC)(k:AV)(es:List (AV × AV)):Option (List (AV × AV)):=
 match lookIn p k es with
 | some none=>some es
 | some (some _)=>some (es.filter λe=>match primEq p k e.1 with | some true=>false | _=>true)
 | none=>none
def ep {α:Type}(n:Nat)(x:α):List α:=List.replicate n x
def fits (need bytes:Nat):Bool:=Nat.ble ((2*need+2000)*bytes) 281474976710656&&Nat.ble need 1000000000
def grown (H:Heap)(bytes need sz:Nat)(rows:Tr (List AV)):Option (AV × Heap):=
 match fits need bytes with
 | true=>match H.new (.rows rows need sz false) with
  | (b,H')=>some (.slice (some ⟨b,0,0⟩) need need true sz,H')
 | false=>none
def appendV (H:Heap)(sz bytes:Nat)(s:AV)(new:List (List AV)):Option (AV × Heap):=
 match s with
 | .slice base len cap slack rw=>
  force (Nat.add len (aK new)) λneed=>
  match Nat.ble need cap with
  | true=>match new with
   | []=>some (.slice base need cap slack rw,H)
   | _=>match base with
    | some p=>match H.scatter p rw sz len new with
     | some H'=>some (.slice base need cap slack rw,H')
     | none=>none
    | none=>none
  | false=>
   match base with
   | none=>match slack || !(Nat.beq len 0) with
    | false=>match rowsOf new with
     | some t=>grown H bytes need sz t
     | none=>none
    | true=>none
   | some p=>
    match slack with
    | false=>match H.gather p rw sz len with
     | some old=>match rowsOf (bI old new) with
      | some t=>grown H bytes need sz t
      | none=>none
     | none=>none
    | true=>match H.get p.b with
     | some (.rows t n sz' false)=>
      match Nat.beq sz sz'&&Nat.beq rw sz&&Nat.beq p.o 0&&Nat.beq (Nat.add p.r cap) n&&Nat.beq len cap with
      | true=>match p.r with
       | 0=>match aw (λ(s:Tr (List AV) × Nat)row=>some (s.1.put s.2 row,Nat.succ s.2)) new (t,len) with
        | some s=>grown (H.del p.b) bytes need sz s.1
        | none=>none
       | _=>none
      | false=>none
     | _=>none
 | .empty=>match new with
  | []=>some (.empty,H)
  | _=>none
 | _=>none
def allocOf (ρ:Operand->Option AV)(op:AOp):Option (bv × (Nat->AV)):=
 match op with
 | .alloc n cs=>some (.rows (Tr.lf.put 0 cs) 1 n false,λb=>.ptr (some ⟨b,0,0⟩))
 | .box n x=>match ρ x with
  | some v=>match partCells n v with
   | some cs=>some (.rows (Tr.lf.put 0 cs) 1 n false,λb=>.ptr (some ⟨b,0,0⟩))
   | none=>none
  | none=>none
 | .bslice sz len z parts=>match aI (λp:Nat × Operand=>match ρ p.2 with
    | some v=>match partCells sz v with
     | some cs=>match Nat.blt p.1 len with | true=>some (p.1,cs) | false=>none
     | none=>none
    | none=>none) parts with
  | some l=>match rowsOf (ep len z) with
   | some t=>match aw (λ(t:Tr (List AV))(p:Nat × List AV)=>some (t.put p.1 p.2)) l t with
    | some t'=>some (.rows t' len sz false,λb=>.slice (some ⟨b,0,0⟩) len len false sz)
    | none=>none
   | none=>none
  | none=>none
 | .mkslice sz bytes z l c=>match ρ l with
  | some (.int .i64 (.ofNat ln))=>match ρ c with
   | some (.int .i64 (.ofNat cn))=>match Nat.ble ln cn&&Nat.ble cn 1000000&&Nat.ble (bytes*cn) 281474976710656 with
    | true=>match rowsOf (ep cn z) with
     | some t=>some (.rows t cn sz false,λb=>.slice (some ⟨b,0,0⟩) ln cn false sz)
     | none=>none
    | false=>none
   | _=>none
  | _=>none
 | .mkmap=>some (.map [],λb=>.map (some b))
 | _=>none
def jp (ok:Bool)(v:AV)(is:Bool):AV:=match ok with | true=>.tuple [v,.bool is] | false=>v
def aval (P:Program)(H:Heap)(ρ:Operand->Option AV)(op:AOp):Option (AV × Heap):=
 match op with
 | .mv x=>match ρ x with | some v=>some (v,H) | none=>none
 | .pick c a b=>match ρ c with
  | some (.bool true)=>(match ρ a with | some v=>some (v,H) | none=>none)
  | some (.bool false)=>(match ρ b with | some v=>some (v,H) | none=>none)
  | _=>none
 | .build z parts=>match aI (λp:Nat × Nat × Operand=>match ρ p.2.2 with
    | some v=>match partCells p.2.1 v with | some cs=>some (p.1,cs) | none=>none
    | none=>none) parts with
  | some l=>match mM z l with | some cs=>some (.agg cs,H) | none=>none
  | none=>none
 | .load g n x=>match ρ x with
  | some (.ptr (some p))=>match H.read p n with
   | some l=>match g with
    | true=>some (.agg l,H)
    | false=>match l with | [v]=>some (v,H) | _=>none
   | none=>none
  | _=>none
 | .store n a x=>match ρ a with
  | some (.ptr (some p))=>match ρ x with
   | some v=>match partCells n v with
    | some cs=>match H.write p cs with | some H'=>some (.undef,H') | none=>none
    | none=>none
   | none=>none
  | _=>none
 | .nilchk x=>match ρ x with
  | some (.ptr none)=>none
  | some .nilIface=>none
  | some .nilFunc=>none
  | some (.mfunc name r)=>match r with
   | .iface t _=>match meth P t name with
    | some _=>some (.mfunc name r,H)
    | none=>none
   | _=>none
  | some v=>some (v,H)
  | none=>none
 | .arith op x y=>match ρ x with
  | some u=>match ρ y with
   | some v=>match binV op u v with | some r=>some (r,H) | none=>none
   | none=>none
  | none=>none
 | .eql neg p x y=>match ρ x with
  | some u=>match ρ y with
   | some v=>match eqBy 20 p u v with
    | some b=>some (.bool (match neg with | true=>!b | false=>b),H)
    | none=>none
   | none=>none
  | none=>none
 | .un op x=>match ρ x with
  | some v=>match unV op v with | some r=>some (r,H) | none=>none
  | none=>none
 | .convI k x=>match ρ x with
  | some (.int _ n)=>match mkI k n with | some v=>some (v,H) | none=>none
  | _=>none
 | .convS x=>match ρ x with
  | some (.str s)=>some (.str s,H)
  | _=>none
 | .b2s x=>match ρ x with
  | some (.slice none _ _ _ _)=>some (.str .empty,H)
  | some .empty=>some (.str .empty,H)
  | some (.slice (some p) n _ _ rw)=>match H.gather p rw 1 n with
   | some rows=>match aw (λ(s:ByteArray)(r:List AV)=>match r with
     | [.int .u8 (.ofNat b)]=>some (s.push (UInt8.ofNat b))
     | _=>none) rows ByteArray.empty with
    | some s=>some (.str s,H)
    | none=>none
   | none=>none
  | _=>none
 | .mkif t x=>match ρ x with
  | some (.tuple _)=>none
  | some v=>some (.iface t v,H)
  | none=>none
 | .mkfn f first cap=>match aI ρ first with
  | some a=>match aI ρ cap with
   | some b=>some (.func f a b,H)
   | none=>none
  | none=>none
 | .ins _ kk m k v=>match ρ m with
  | some (.map (some b))=>match ρ k with
   | some kv=>match ρ v with
    | some vv=>match H.get b with
     | some (.map es)=>match putIn kk kv vv es with | some es'=>some (.undef,H.put b (.map es')) | none=>none
     | _=>none
    | none=>none
   | none=>none
  | _=>none
 | .slc sz x lo hi mx=>match ρ x with
  | some (.slice a len cap slack rw)=>
   match mx with
   | none=>match cL ρ cap len hi with
    | some h=>match cL ρ h 0 lo with
     | some l=>force (Nat.sub h l) λn=>force (Nat.sub cap l) λc=>
      match Nat.beq l 0 with
      | true=>some (.slice a n c slack rw,H)
      | false=>match a with
       | none=>none
       | some p=>match Nat.blt l cap with
        | true=>match elemAt p rw sz l with
         | some q=>some (.slice (some q) n c slack rw,H)
         | none=>none
        | false=>match Nat.beq l cap with
         | true=>match slack with
          | false=>some (.slice (some p) n c false rw,H)
          | true=>match Nat.beq n 0 with | true=>some (.empty,H) | false=>none
         | false=>none
     | none=>none
    | none=>none
   | some m=>match cL ρ cap cap (some m) with
    | some m'=>match hi with
     | none=>none
     | some _=>match cL ρ m' 0 hi with
      | some h=>match cL ρ h 0 lo with
       | some l=>force (Nat.sub h l) λn=>force (Nat.sub m' l) λc=>
        match Nat.beq l 0||Nat.beq l m' with
        | true=>some (.slice a n c false rw,H)
        | false=>match a with
         | none=>none
         | some p=>match elemAt p rw sz l with
          | some q=>some (.slice (some q) n c false rw,H)
          | none=>none
       | none=>none
      | none=>none
    | none=>none
  | some .empty=>match mx with
   | none=>match cL ρ 0 0 hi with
    | some h=>match cL ρ h 0 lo with
     | some l=>some (.empty,H)
     | none=>none
    | none=>none
   | some _=>none
  | _=>none
 | .slcA n sz x lo hi mx=>match ρ x with
  | some (.ptr (some p))=>match mx with
   | some _=>none
   | none=>match cL ρ n n hi with
    | some h=>match cL ρ h 0 lo with
     | some l=>match Nat.beq l n with
      | true=>some (.slice (some p) (Nat.sub h l) (Nat.sub n l) false 0,H)
      | false=>match elemAt p 0 sz l with
       | some q=>some (.slice (some q) (Nat.sub h l) (Nat.sub n l) false 0,H)
       | none=>none
     | none=>none
    | none=>none
  | _=>none
 | .slcS x lo hi=>match ρ x with
  | some (.str s)=>match cL ρ s.size s.size hi with
   | some h=>match cL ρ h 0 lo with
    | some l=>some (.str (s.extract l h),H)
    | none=>none
   | none=>none
  | _=>none
 | .faddr off x=>match ρ x with
  | some (.ptr (some p))=>some (.ptr (some ⟨p.b,p.r,Nat.add p.o off⟩),H)
  | _=>none
 | .fld off n g x=>match ρ x with
  | some (.agg cs)=>match part g cs off n with | some v=>some (v,H) | none=>none
  | _=>none
 | .iaddrS sz x i=>match ρ x with
  | some (.slice (some p) len _ _ rw)=>match ρ i with
   | some (.int _ (.ofNat n))=>match Nat.blt n len with
    | true=>match elemAt p rw sz n with | some q=>some (.ptr (some q),H) | none=>none
    | false=>none
   | _=>none
  | _=>none
 | .iaddrA len sz x i=>match ρ x with
  | some (.ptr (some p))=>match ρ i with
   | some (.int _ (.ofNat n))=>match Nat.blt n len with
    | true=>match elemAt p 0 sz n with | some q=>some (.ptr (some q),H) | none=>none
    | false=>none
   | _=>none
  | _=>none
 | .idxA len sz g x i=>match ρ x with
  | some (.agg cs)=>match ρ i with
   | some (.int _ (.ofNat n))=>match Nat.blt n len with
    | true=>match part g cs (Nat.mul n sz) sz with | some v=>some (v,H) | none=>none
    | false=>none
   | _=>none
  | _=>none
 | .idxS x i=>match ρ x with
  | some (.str s)=>match ρ i with
   | some (.int _ (.ofNat n))=>match s[n]? with
    | some b=>some (.int .u8 b.toNat,H)
    | none=>none
   | _=>none
  | _=>none
 | .look kk z ok m k=>match ρ m with
  | some (.map r)=>match ρ k with
   | some kv=>match (match r with
     | none=>some []
     | some b=>match H.get b with | some (.map es)=>some es | _=>none) with
    | some es=>match lookIn kk kv es with
     | some (some v)=>some (jp ok v true,H)
     | some none=>some (jp ok z false,H)
     | none=>none
    | none=>none
   | none=>none
  | _=>none
 | .extract x i=>match ρ x with
  | some (.tuple vs)=>match dJ vs i with | some v=>some (v,H) | none=>none
  | _=>none
 | .lenS x=>match ρ x with
  | some (.slice _ n _ _ _)=>some (.int .i64 (.ofNat n),H)
  | some .empty=>some (.int .i64 0,H)
  | _=>none
 | .lenT x=>match ρ x with
  | some (.str s)=>some (.int .i64 (.ofNat s.size),H)
  | _=>none
 | .lenM x=>match ρ x with
  | some (.map none)=>some (.int .i64 0,H)
  | some (.map (some b))=>match H.get b with
   | some (.map es)=>some (.int .i64 (.ofNat (aK es)),H)
   | _=>none
  | _=>none
 | .lenC n=>some (.int .i64 (.ofNat n),H)
 | .cap x=>match ρ x with
  | some (.slice _ _ c false _)=>some (.int .i64 (.ofNat c),H)
  | _=>none
 | .minmax mx args=>match aI ρ args with
  | some (v::vs)=>match aw (mm mx) vs v with | some r=>some (r,H) | none=>none
  | _=>none
 | .append sz bytes s x=>match ρ s with
  | some sv=>match ρ x with
   | some (.slice base n _ _ rw)=>match (match base with
     | none=>(match n with | 0=>some [] | _=>none)
     | some p=>H.gather p rw sz n) with
    | some new=>appendV H sz bytes sv new
    | none=>none
   | some .empty=>appendV H sz bytes sv []
   | _=>none
  | none=>none
 | .appendZ sz bytes z s x=>match ρ s with
  | some sv=>match ρ x with
   | some (.int .i64 (.ofNat n))=>match Nat.ble n 1000000&&Nat.ble (n*bytes) 281474976710656 with
    | true=>appendV H sz bytes sv (ep n z)
    | false=>none
   | _=>none
  | none=>none
 | .copy sz d s=>match ρ d with
  | some (.slice base dl _ _ rw)=>match ρ s with
   | some (.slice b2 sl _ _ rw2)=>force (Nat.min sl dl) λn=>match (match b2 with
     | none=>some []
     | some p=>H.gather p rw2 sz n) with
    | some l=>match base,l with
     | some p,_::_=>match H.scatter p rw sz 0 l with | some H'=>some (.int .i64 (.ofNat n),H') | none=>none
     | _,[]=>some (.int .i64 (.ofNat n),H)
     | none,_=>none
    | none=>none
   | _=>none
  | _=>none
 | .clear sz z x=>match ρ x with
  | some (.slice _ 0 _ _ _)=>some (.undef,H)
  | some .empty=>some (.undef,H)
  | some (.slice none _ _ _ _)=>some (.undef,H)
  | some (.slice (some p) n _ _ rw)=>match H.scatter p rw sz 0 (ep n z)with | some H'=>some (.undef,H') | none=>none
  | _=>none
 | .delete kk m k=>match ρ m with
  | some (.map (some b))=>match ρ k with
   | some kv=>match H.get b with
    | some (.map es)=>match sN kk kv es with | some es'=>some (.undef,H.put b (.map es')) | none=>none
    | _=>none
   | none=>none
  | _=>none
 | .mkmf name x=>match ρ x with
  | some (.iface t v)=>some (.mfunc name (.iface t v),H)
  | _=>none
 | op=>match allocOf ρ op with
  | some (o,f)=>match H.new o with | (b,H')=>some (f b,H')
  | none=>none
end
end Go.Ev
namespace Go.Ev
noncomputable section
inductive cD where
 | mark (D:Nat)
inductive CR where
 | mk (x:AX) (e:Tr AV) (ds:List cD) (H:Heap)
inductive OR where
 | mk (v:AV) (ds:List cD) (H:Heap)
structure fP where
 code:Option Nat->Nat->Code->Tr AV->List cD->Heap->Option CR
 call:FuncId->List AV->Heap->Option (AV × Heap)
variable (P:Program)
def putO (e:Tr AV)(d:Option Nat)(v:AV):Tr AV:=match d with | some d=>e.put d v | none=>e
def wanted (e:Tr AV)(ops:Array Oper)(g:Option (Nat × Bool)):Option Bool:=
 match g with
 | none=>some true
 | some (j,w)=>match dJ ops.toList j with
  | some o=>match o.dst with
   | some d=>match e.get d with
    | some (.bool b)=>some (b==w)
    | some _=>some false
    | none=>none
   | none=>none
  | none=>none
def setAll (ps:List Nat)(args:List AV)(nt:Nat)(e:Tr AV):Option (Tr AV):=
 match ps,args with
 | [],[]=>some e
 | [p],[a]=>match Nat.blt p nt with | true=>some (e.put p a) | false=>none
 | [p,q],[a,b]=>match Nat.blt p nt&&Nat.blt q nt with | true=>some ((e.put p a).put q b) | false=>none
 | _,_=>none
def roundOf (ih:fP)(l:Nat)(args:List AV)(H:Heap):Option (AV × Heap):=
 match H.get l with
 | some (.loop e nt ps asg body .ready pend D)=>
  match setAll ps args nt e with
  | some e1=>match ih.code (some l) nt asg e1 [] H with
   | some (.mk .normal e2 ds2 H2)=>match H2.get l with
    | some (.loop e' nt' ps' asg' body' .ready pend' D')=>
     match ih.code (some l) nt body e2 ds2 (H2.put l (.loop e' nt' ps' asg' body' .busy pend' D')) with
     | some (.mk x e3 ds3 H3)=>match H3.get l with
      | some (.loop e' nt' ps' asg' body' st' pend' D')=>match x with
       | .normal=>some (.bool true,H3.put l (.loop e' nt' ps' asg' body' .ready none D'))
       | x=>some (.bool false,H3.put l (.loop e' nt' ps' asg' body' .done (some x) D'))
      | _=>none
     | none=>none
    | _=>none
   | _=>none
  | none=>none
 | _=>none
def callV (ih:fP)(fv:AV)(args:List AV)(H:Heap):Option (AV × Heap):=
 match fv with
 | .func f first cap=>ih.call f (bI first (bI args cap)) H
 | .yield l=>roundOf ih l args H
 | .mfunc name r=>match r with
  | .iface t v=>match meth P t name with
   | some f=>ih.call f (v::args) H
   | none=>none
  | _=>none
 | _=>none
def oper (ih:fP)(ρ:Operand->Option AV)(op:AOp)(ds:List cD)(H:Heap):Option OR:=
 match op with
 | .call f args=>match ρ f with
  | some fv=>match aI ρ args with
   | some vs=>match callV P ih fv vs H with
    | some (v,H')=>some (.mk v ds H')
    | none=>none
   | none=>none
  | none=>none
 | .invoke r name args=>match ρ r with
  | some (.iface t v)=>match meth P t name with
   | some f=>match aI ρ args with
    | some vs=>match ih.call f (v::vs) H with
     | some (v,H')=>some (.mk v ds H')
     | none=>none
    | none=>none
   | none=>none
  | _=>none
 | op=>match aval P H ρ op with
  | some (v,H')=>some (.mk v ds H')
  | none=>none
def runOps (ih:fP)(rd:Option Nat)(nt:Nat)(ops:Array Oper)(e:Tr AV)(ds:List cD)(H:Heap):Option CR:=
 aw (λ(s:CR)(o:Oper)=>match s with
  | .mk _ e ds H=>match cOper P nt o with
   | ⟨d,op,g⟩=>match wanted e ops g with
    | some true=>match oper P ih (bL e) op ds H with
     | some (.mk v ds' H')=>some (.mk .normal (putO e d v) ds' H')
     | none=>none
    | some false=>some (.mk .normal (putO e d .undef) ds H)
    | none=>none) ops.toList (.mk .normal e ds H)
inductive Ki where
 | pure | read | chain | dalloc | dmap | abl
def clsOf:AOp->Ki
 | .load ..=>.read
 | .look ..=>.read
 | .lenM _=>.read
 | .b2s _=>.read
 | .alloc ..=>.dalloc
 | .box ..=>.dalloc
 | .bslice ..=>.dalloc
 | .mkslice ..=>.dalloc
 | .mkmap=>.dmap
 | .ins true _ _ _ _=>.abl
 | .ins false _ _ _ _=>.chain
 | .store ..=>.chain
 | .append ..=>.chain
 | .appendZ ..=>.chain
 | .copy ..=>.chain
 | .clear ..=>.chain
 | .delete ..=>.chain
 | .call ..=>.chain
 | .invoke ..=>.chain
 | .defr ..=>.chain
 | .bad=>.chain
 | _=>.pure
structure qr where
 o:bS
 cls:Ki
 lo:Nat
 hi:Nat
def bit (m i:Nat):Bool:=Nat.beq (Nat.mod (Nat.shiftRight m i) 2) 1
def ancs (ops:Array Oper):Option (Tr Nat):=
 match aw (λ(s:Tr Nat × Nat)(o:Oper)=>
  match aw (λ(m:Nat)(e:Edge)=>match Region.binds .any e with
    | false=>some m
    | true=>match s.1.get e.on with
     | some a=>some (Nat.lor m (Nat.lor a (Nat.shiftLeft 1 e.on)))
     | none=>none) o.after.toList 0 with
  | some m=>force m λm=>force (Nat.succ s.2) λn=>some (s.1.put s.2 m,n)
  | none=>none) ops.toList (.lf,0) with
 | some s=>some s.1
 | none=>none
def writers (ops:Array Oper):Option (Tr Nat):=
 match aw (λ(s:Tr Nat × Nat)(o:Oper)=>match o.dst with
  | none=>some (s.1,Nat.succ s.2)
  | some d=>match s.1.get d with
   | some _=>none
   | none=>some (s.1.put d s.2,Nat.succ s.2)) ops.toList (.lf,0) with
 | some s=>some s.1
 | none=>none
def slotOk (aC W:Tr Nat)(j t:Nat):Bool:=
 match W.get t with
 | none=>true
 | some i=>match Nat.beq i j with
  | true=>true
  | false=>match aC.get j,aC.get i with
   | some a,some b=>bit a i||bit b j
   | _,_=>false
def slotsOk (nt:Nat)(aC W:Tr Nat)(ops:Array Oper):Bool:=
 match aw (λ(j:Nat)(o:Oper)=>
  match d9 (λx:Operand=>match x with | .tmp t=>slotOk aC W j t | _=>true) (cOper P nt o).op.opers with
  | false=>none
  | true=>match o.guard with
   | none=>some (Nat.succ j)
   | some (k,_)=>match dJ ops.toList k,aC.get j with
    | some ok,some a=>match ok.dst with
     | some d=>match bit a k&&Nat.blt k j with | true=>some (Nat.succ j) | false=>none
     | none=>none
    | _,_=>none) ops.toList 0 with
 | some _=>true
 | none=>false
def chainOf (nt:Nat)(aC:Tr Nat)(ops:Array Oper):Option Nat:=
 match aw (λ(s:Nat × Nat)(o:Oper)=>match clsOf (cOper P nt o).op with
  | .chain=>match aC.get s.2 with
   | some a=>match Nat.beq (Nat.land s.1 a) s.1 with
    | true=>force (Nat.lor s.1 (Nat.shiftLeft 1 s.2)) λm=>some (m,Nat.succ s.2)
    | false=>none
   | none=>none
  | _=>some (s.1,Nat.succ s.2)) ops.toList (0,0) with
 | some s=>some s.1
 | none=>none
def r7 (aC:Tr Nat)(chain i:Nat)(n:Nat):Option (Nat × Nat):=
 match aC.get i with
 | none=>none
 | some a=>eh (λj(s:Nat × Nat)=>match bit chain j with
   | false=>some s
   | true=>match aC.get j with
    | none=>none
    | some b=>force (match bit a j with | true=>Nat.succ s.1 | false=>s.1) λlo=>
     force (match bit b i with | true=>s.2 | false=>Nat.succ s.2) λhi=>some (lo,hi)) n 0 (0,0)
structure iM where
 ops:List qr
 aC:Tr Nat
 nd:Nat
def dinfo (nt:Nat)(ops:Array Oper):Option iM:=
 match ancs ops with
 | none=>none
 | some aC=>match writers ops with
  | none=>none
  | some W=>match slotsOk P nt aC W ops with
   | false=>none
   | true=>match chainOf P nt aC ops with
    | none=>none
    | some chain=>
     match aw (λ(s:List qr × Nat × Nat)(o:Oper)=>match cOper P nt o with
      | ao=>match clsOf ao.op with
       | .read=>match r7 aC chain s.2.1 (aK ops.toList) with
        | some (lo,hi)=>some (⟨ao,.read,lo,hi⟩::s.1,Nat.succ s.2.1,s.2.2)
        | none=>none
       | .dalloc=>some (⟨ao,.dalloc,0,0⟩::s.1,Nat.succ s.2.1,Nat.succ s.2.2)
       | .dmap=>some (⟨ao,.dmap,0,0⟩::s.1,Nat.succ s.2.1,Nat.succ s.2.2)
       | c=>some (⟨ao,c,0,0⟩::s.1,Nat.succ s.2.1,s.2.2)) ops.toList ([],0,0) with
     | some s=>some ⟨s.1.reverse,aC,s.2.2⟩
     | none=>none
structure aF where
 i:Nat
 id:Nat
 o:bv
 ins:Nat
 kP:List (Nat × AV × AV)
structure lP where
 e:Tr AV
 op:AOp
 aC:Nat
 lo:Nat
 hi:Nat
 v:AV
structure DS where
 e:Tr AV
 ds:List cD
 H:Heap
 Hs:List Heap
 j:Nat
 cG:Nat
 pend:List aF
 mats:List (aF × Nat)
 aO:List lP
def settle (a n:Nat)(pend:List aF)(mats:List (aF × Nat))(H:Heap):Option (List aF × List (aF × Nat) × Heap):=
 aw (λ(s:List aF × List (aF × Nat) × Heap)(p:aF)=>match bit a p.i with
  | false=>some (p::s.1,s.2.1,s.2.2)
  | true=>match Nat.beq (Nat.land p.ins a) p.ins with
   | true=>some (s.1,(p,n)::s.2.1,s.2.2.put p.id p.o)
   | false=>none) pend ([],mats,H)
def bv.a9:bv->Bool
 | .rows _ _ _ _=>true
 | _=>false
def bH (a:Nat)(pend:List aF)(H:Heap):Option Heap:=
 aw (λ(H:Heap)(p:aF)=>match bit a p.i&&p.o.a9 with
  | true=>some (H.put p.id p.o)
  | false=>some H) pend H
def bP (a k:Nat)(mats:List (aF × Nat))(H:Heap):Option Heap:=
 aw (λ(H:Heap)(p:aF × Nat)=>match bit a p.1.i&&p.1.o.a9&&Nat.blt k p.2 with
  | true=>some (H.put p.1.id p.1.o)
  | false=>some H) mats H
def same0:AV->AV->Bool
 | .bool a,.bool b=>a==b
 | .int j a,.int k b=>keq j k&&ieq a b
 | .str a,.str b=>a.toList==b.toList
 | .ptr none,.ptr none=>true
 | .ptr (some a),.ptr (some b)=>Nat.beq a.b b.b&&Nat.beq a.r b.r&&Nat.beq a.o b.o
 | .slice none l c s r,.slice none l' c' s' r'=>Nat.beq l l'&&Nat.beq c c'&&(s==s')&&Nat.beq r r'
 | .slice (some a) l c s r,.slice (some b) l' c' s' r'=>Nat.beq a.b b.b&&Nat.beq a.r b.r&&Nat.beq a.o b.o&&Nat.beq l l'&&Nat.beq c c'&&(s==s')&&Nat.beq r r'
 | .map none,.map none=>true
 | .map (some a),.map (some b)=>Nat.beq a b
 | .nilFunc,.nilFunc=>true
 | .nilIface,.nilIface=>true
 | .empty,.empty=>true
 | _,_=>false
def sameL (f:AV->AV->Bool):List AV->List AV->Bool
 | [],[]=>true
 | a::l,b::m=>f a b&&sameL f l m
 | _,_=>false
def sameN:Nat->AV->AV->Bool
 | 0,_,_=>false
 | n+1,x,y=>match x,y with
  | .agg l,.agg m=>sameL (sameN n) l m
  | .tuple l,.tuple m=>sameL (sameN n) l m
  | .iface t v,.iface u w=>Nat.beq t u&&sameN n v w
  | .func f a b,.func g c d=>Nat.beq f g&&sameL (sameN n) a c&&sameL (sameN n) b d
  | a,b=>same0 a b
def dz (x y:AV):Bool:=sameN 6 x y
def ib (kk:dC)(k v:AV)(b j a:Nat)(pend:List aF):Option (Bool × List aF):=
 aw (λ(s:Bool × List aF)(p:aF)=>match Nat.beq p.id b with
  | false=>some (s.1,p::s.2)
  | true=>match bit a p.i with
   | false=>none
   | true=>match p.o with
    | .map es=>match lookIn kk k es with
     | some none=>match primEq kk k k with
      | some true=>some (true,⟨p.i,p.id,.map (bI es [(k,v)]),Nat.lor p.ins (Nat.shiftLeft 1 j),bI p.kP [(j,k,v)]⟩::s.2)
      | _=>none
     | _=>none
    | _=>none) pend (false,[])
def dstep (ih:fP)(rd:Option Nat)(ops:Array Oper)(aC:Tr Nat)(s:DS)(d:qr):Option DS:=
 match wanted s.e ops d.o.guard with
 | none=>none
 | some false=>match d.cls with
  | .chain=>some { s with e:=putO s.e d.o.dst .undef,Hs:=s.H::s.Hs,j:=Nat.succ s.j }
  | .dalloc=>some { s with e:=putO s.e d.o.dst .undef,j:=Nat.succ s.j,cG:=Nat.succ s.cG }
  | .dmap=>some { s with e:=putO s.e d.o.dst .undef,j:=Nat.succ s.j,cG:=Nat.succ s.cG }
  | _=>some { s with e:=putO s.e d.o.dst .undef,j:=Nat.succ s.j }
 | some true=>match d.cls with
  | .pure=>match aval P s.H (bL s.e) d.o.op with
   | some (v,_)=>some { s with e:=putO s.e d.o.dst v,j:=Nat.succ s.j }
   | none=>none
  | .read=>match aC.get s.j with
   | none=>none
   | some a=>match bH a s.pend s.H with
    | none=>none
    | some H=>match aval P H (bL s.e) d.o.op with
     | some (v,_)=>match Nat.beq d.lo d.hi with
      | true=>some { s with e:=putO s.e d.o.dst v,j:=Nat.succ s.j }
      | false=>some { s with e:=putO s.e d.o.dst v,j:=Nat.succ s.j,aO:=⟨s.e,d.o.op,a,d.lo,d.hi,v⟩::s.aO }
     | none=>none
  | .chain=>match aC.get s.j with
   | none=>none
   | some a=>match settle a (aK s.Hs) s.pend s.mats s.H with
    | none=>none
    | some (pend,mats,H)=>match oper P ih (bL s.e) d.o.op s.ds H with
     | some (.mk v ds' H')=>some { s with e:=putO s.e d.o.dst v,ds:=ds',H:=H',Hs:=H'::s.Hs,j:=Nat.succ s.j,pend:=pend,mats:=mats }
     | none=>none
  | .dalloc=>match allocOf (bL s.e) d.o.op with
   | some (o,f)=>some { s with e:=putO s.e d.o.dst (f s.cG),j:=Nat.succ s.j,cG:=Nat.succ s.cG,pend:=⟨s.j,s.cG,o,0,[]⟩::s.pend }
   | none=>none
  | .dmap=>match allocOf (bL s.e) d.o.op with
   | some (o,f)=>some { s with e:=putO s.e d.o.dst (f s.cG),j:=Nat.succ s.j,cG:=Nat.succ s.cG,pend:=⟨s.j,s.cG,o,0,[]⟩::s.pend }
   | none=>none
  | .abl=>match aC.get s.j with
   | none=>none
   | some a=>match d.o.op with
    | .ins _ kk m k v=>match bL s.e m with
     | some (.map (some b))=>match bL s.e k with
      | some kv=>match bL s.e v with
       | some vv=>match ib kk kv vv b s.j a s.pend with
        | some (true,pend)=>some { s with e:=putO s.e d.o.dst .undef,j:=Nat.succ s.j,pend:=pend }
        | _=>none
       | none=>none
      | none=>none
     | _=>none
    | _=>none
def looksOk (Hs:List Heap)(pend:List aF)(mats:List (aF × Nat))(l:lP):Bool:=
 match eh (λk(u:Unit)=>match dJ Hs k with
  | some H=>match bP l.aC k mats H with
   | some H=>match bH l.aC pend H with
    | some H=>match aval P H (bL l.e) l.op with
     | some (v,_)=>match dz v l.v with | true=>some u | false=>none
     | none=>none
    | none=>none
   | none=>none
  | none=>none) (Nat.succ (Nat.sub l.hi l.lo)) l.lo () with
 | some _=>true
 | none=>false
def runDraw (ih:fP)(rd:Option Nat)(nt:Nat)(ops:Array Oper)(e:Tr AV)(ds:List cD)(H:Heap):Option CR:=
 match dinfo P nt ops with
 | none=>none
 | some I=>
  match aw (dstep P ih rd ops I.aC) I.ops (⟨e,ds,⟨H.t,Nat.add H.next I.nd⟩,[⟨H.t,Nat.add H.next I.nd⟩],0,H.next,[],[],[]⟩:DS) with
  | none=>none
  | some s=>match d9 (looksOk P s.Hs.reverse s.pend s.mats) s.aO with
   | false=>none
   | true=>match aw (λ(H:Heap)(p:aF)=>some (H.put p.id p.o)) s.pend s.H with
    | some H'=>some (.mk .normal s.e s.ds H')
    | none=>none
def runDefers (ih:fP):List cD->Heap->Option Heap
 | [],H=>some H
 | .mark D::l,H=>match H.get D with
  | some .deferred=>runDefers ih l (H.del D)
  | _=>none
def resultOf (e:Tr AV)(H:Heap)(r:ResultVar):Option AV:=
 match r with
 | .tmp t=>e.get t
 | .cell a t=>match e.get a with
  | some (.ptr (some p))=>match isAggT P t,size? P t with
   | some true,some n=>match H.read p n with | some l=>some (.agg l) | none=>none
   | some false,some 1=>match H.read p 1 with | some [v]=>some v | _=>none
   | _,_=>none
  | _=>none
def my (nt:Nat):Tr AV:=match eh (λi(t:Tr AV)=>some (t.put i .undef)) nt 0 .lf with | some t=>t | none=>.lf
def argsEnv (nt:Nat)(args:List AV):Option (Tr AV):=
 match aw (λ(s:Tr AV × Nat)(v:AV)=>some (s.1.put s.2 v,Nat.succ s.2)) args (my nt,0) with
 | some s=>some s.1
 | none=>none
def stepCode (ih:fP)(rd:Option Nat)(nt:Nat)(c:Code)(e:Tr AV)(ds:List cD)(H:Heap):Option CR:=
 match c with
 | .skip=>some (.mk .normal e ds H)
 | .label _=>some (.mk .normal e ds H)
 | .region _ ops d=>match d with
  | false=>runOps P ih rd nt ops e ds H
  | true=>runDraw P ih rd nt ops e ds H
 | .seq a b=>match ih.code rd nt a e ds H with
  | some (.mk x e1 ds1 H1)=>match x with
   | .normal=>ih.code rd nt b e1 ds1 H1
   | x=>some (.mk x e1 ds1 H1)
  | none=>none
 | .cond c a b=>match bL e c with
  | some (.bool t)=>match t with
   | true=>ih.code rd nt a e ds H
   | false=>ih.code rd nt b e ds H
  | _=>none
 | .block id b=>match ih.code rd nt b e ds H with
  | some (.mk x e1 ds1 H1)=>match x with
   | .exit i=>match Nat.beq i id with
    | true=>some (.mk .normal e1 ds1 H1)
    | false=>some (.mk (.exit i) e1 ds1 H1)
   | x=>some (.mk x e1 ds1 H1)
  | none=>none
 | .loop b=>match ih.code rd nt b e ds H with
  | some (.mk x e1 ds1 H1)=>match x with
   | .normal=>ih.code rd nt (.loop b) e1 ds1 H1
   | x=>some (.mk x e1 ds1 H1)
  | none=>none
 | .exit id=>some (.mk (.exit id) e ds H)
 | .ret=>some (.mk .ret e ds H)
 | .rangeFunc g ps asg body=>match bL e g with
  | some (.func f first cap)=>
   match (match rd with
    | none=>match H.new .deferred with | (D,H1)=>some (D,H1,cD.mark D::ds)
    | some l=>match H.get l with
     | some (.loop _ _ _ _ _ _ _ D)=>some (D,H,ds)
     | _=>none) with
   | some (D,H1,ds1)=>match H1.new (.loop e nt ps.toList asg body .ready none D) with
    | (l,H2)=>match ih.call f (bI first (.yield l::cap)) H2 with
     | some (_,H3)=>match H3.get l with
      | some (.loop _ _ _ _ _ st pend D')=>match st with
       | .busy=>none
       | _=>match pend with
        | none=>some (.mk .normal e ds1 (H3.del l))
        | some x=>some (.mk x e ds1 (H3.del l))
      | _=>none
     | none=>none
   | none=>none
  | _=>none
 | _=>none
def stepCall (ih:fP)(f:FuncId)(args:List AV)(H:Heap):Option (AV × Heap):=
 match P.funcs[f]? with
 | some fn=>match fn.body with
  | some c=>match Nat.ble (aK args) fn.ntmps && !(fn.name == "runtime.NumGoroutine") with
   | false=>none
   | true=>match argsEnv fn.ntmps args with
    | none=>none
    | some e0=>match ih.code none fn.ntmps c e0 [] H with
     | some (.mk x e ds H1)=>match x with
      | .exit _=>none
      | _=>match runDefers ih ds H1 with
       | some H2=>match aI (resultOf P e H2) fn.results.toList with
        | some [v]=>some (v,H2)
        | some vs=>some (.tuple vs,H2)
        | none=>none
       | none=>none
     | none=>none
  | none=>none
 | none=>none
abbrev Orc:=FuncId->List AV->Heap->Option (AV × Heap)
def knownCall (K:Orc)(f:FuncId)(args:List AV)(H:Heap)(r:Option (AV × Heap)):Option (AV × Heap):=match K f args H with
 | some x=>some x
 | none=>r
variable (K:Orc)
def qN (ih:fP):fP:=⟨λrd nt c e ds H=>stepCode P ih rd nt c e ds H,λf args H=>knownCall K f args H (stepCall P ih f args H)⟩
def ev (n:Nat):fP:=Nat.rec (motive:=λ_=>fP) ⟨λ_ _ _ _ _ _=>none,λ_ _ _=>none⟩ (λ_ ih=>qN P K ih) n
end
end Go.Ev
