/- Walks and rules. Conditions: none. -/
import Derived.Test.YtbgjkfbeofbngaaGreatEvE
set_option linter.unusedVariables false
set_option linter.unusedSectionVars false
namespace Go.Ev
theorem lfold_seq {α β:Type}{f:β->α->Option β}:∀{l:List α}{b c:β},aw f l b=some c->∃S:Nat->β,S 0=b/\S l.length=c/\∀(i:Nat)(a:α),l[i]?=some a->f (S i) a=some (S (i+1)):=by
 intro l
 induction l with
 | nil=>intro b c h;cases h;exact⟨λ_=>b,rfl,rfl,by simp⟩
 | cons x l ih=>
  intro b c h
  rw[ah]at h
  obtain⟨b',h1,h2⟩:=h
  obtain⟨S,s0,sn,hs⟩:=ih h2
  refine⟨λi=>match i with | 0=>b | i+1=>S i,rfl,sn,?_⟩
  grind
def cf (p:Nat->Bool):Nat->Nat->Nat
 | _,0=>0
 | i,n+1=>(if p i then 1 else 0)+cf p (i+1) n
section cf
variable {p q:Nat->Bool}
theorem lU (p:Nat->Bool):∀(n m i:Nat),cf p i (n+m)=cf p i n+cf p (i+n) m:=by
 intro n
 induction n with
 | zero=>intro m i;simp[cf]
 | succ n ih=>
  intro m i
  rw[show n+1+m=(n+m)+1 by omega]
  simp only[cf]
  grind
theorem jz (p:Nat->Bool)(n:Nat):cf p 0 (n+1)=cf p 0 n+if p n then 1 else 0:=by
 rw[lU];simp[cf]
theorem dG:∀(n i:Nat),(∀j,i<=j->j<i+n->p j=true->q j=true)->cf p i n<=cf q i n:=by
 intro n
 induction n with
 | zero=>intro i _;simp[cf]
 | succ n ih=>
  intro i h
  simp only[cf]
  grind
theorem kY (n i:Nat)(h:∀j,i<=j->j<i+n->p j=q j):cf p i n=cf q i n:=
 Nat.le_antisymm (dG n i λj a b c=>by grind) (dG n i λj a b c=>by grind)
theorem pD (j:Nat)(hp:p j=false)(hq:q j=true)(hne:∀m,m≠j->q m=p m):∀(n i:Nat),i<=j->j<i+n->cf q i n=cf p i n+1:=by
 intro n
 induction n with
 | zero=>grind
 | succ n ih=>
  intro i h1 h2
  simp only[cf]
  by_cases hij:i=j
  ·subst hij
   rw[hp,hq,kY n (i+1)<|λm a _=>hne m<|by omega]
   simp;omega
  grind
theorem xl {i j:Nat}(hij:i<j)(hi:p i=true):cf p 0 i<cf p 0 j:=by
 obtain⟨m,rfl⟩:∃m,j=i+1+m:=⟨j-(i+1),by omega⟩
 rw[lU,jz,hi]
 simp;omega
theorem uX {i j:Nat}(hi:p i=true)(hj:p j=true)(h:cf p 0 i=cf p 0 j):i=j:=by
 rcases Nat.lt_trichotomy i j with hlt|he|hlt
 ·have:=xl hlt hi;omega
 ·exact he
 ·have:=xl hlt hj;omega
theorem Tt {i j:Nat}(hij:i<=j):cf p 0 i<=cf p 0 j:=by
 obtain⟨m,rfl⟩:∃m,j=i+m:=⟨j-i,by omega⟩
 rw[lU];omega
end cf
def abi (e:Edge):Prop:=Region.binds .any e=true
structure Kh (ops:Array Oper)(aC:Tr Nat):Prop where
 all:∀j,j<ops.size->∃a,aC.get j=some a
 lt:∀j a,aC.get j=some a->j<ops.size
 TC:∀j a o,aC.get j=some a->ops[j]?=some o->∀e∈o.after.toList,abi e->e.on<j/\bit a e.on=true/\∃b,aC.get e.on=some b/\∀k,bit b k=true->bit a k=true
 back:∀j a o,aC.get j=some a->ops[j]?=some o->∀k,bit a k=true->∃e∈o.after.toList,abi e/\(e.on=k\/∃b,aC.get e.on=some b/\bit b k=true)
theorem edges_fold {t:Tr Nat}:∀{es:List Edge}{m0 m:Nat},aw (λ(m:Nat)(e:Edge)=>match Region.binds .any e with
    | false=>some m
    | true=>match t.get e.on with
     | some a=>some<|Nat.lor m<|Nat.lor a<|Nat.shiftLeft 1 e.on
     | none=>none) es m0=some m ->
  (∀e∈es,abi e->∃a,t.get e.on=some a/\bit m e.on=true/\∀k,bit a k=true->bit m k=true)/\(∀k,bit m0 k=true->bit m k=true) /\
  (∀k,bit m k=true->bit m0 k=true\/∃e∈es,abi e/\(e.on=k\/∃a,t.get e.on=some a/\bit a k=true)):=by
 intro es
 induction es with
 | nil=>intro m0 m h;rw[dI]at h;grind
 | cons e es ih=>
  intro m0 m h
  rw[ah]at h
  obtain⟨m1,h1,h2⟩:=h
  obtain⟨i1,i2,i3⟩:=ih h2
  split at h1
  ·rename_i hb
   cases h1
   refine⟨λe' he' Pz=>?_,i2,λk hk=>?_⟩
   ·rcases List.mem_cons.1 he' with rfl | he'
    ·rw[abi,hb]at Pz;cases Pz
    grind
   grind
  ·rename_i hb
   split at h1
   ·rename_i a ha
    cases h1
    refine⟨λe' he' Pz=>?_,λk hk=>i2 k (by rw[fp,hk];rfl),λk hk=>?_⟩
    ·rcases List.mem_cons.1 he' with rfl | he'
     ·exact⟨a,ha,i2 _ (by rw[fp,fp,ni];simp),λk hk=>i2 k (by rw[fp,fp,hk];simp)⟩
     grind
    ·rcases i3 k hk with h | ⟨e',he',h⟩
     ·rw[fp,fp,ni]at h
      simp only[Bool.or_eq_true,decide_eq_true_eq]at h
      rcases h with h|h|h
      ·exact .inl h
      ·exact .inr ⟨e,by simp,hb,.inr ⟨a,ha,h⟩⟩
      ·exact .inr ⟨e,by simp,hb,.inl h⟩
     ·exact .inr ⟨e',List.mem_cons_of_mem _ he',h⟩
   ·cases h1
theorem HX {ops:Array Oper}{aC:Tr Nat}(h:ancs ops=some aC):Kh ops aC:=by
 unfold ancs at h
 split at h
 ·rename_i s hs
  cases h
  obtain⟨S,s0,sn,hstep⟩:=lfold_seq hs
  simp only[aL]at hstep
  have Y1:∀i,i<=ops.toList.length->(S i).2=i:=by
   intro i
   induction i with
   | zero=>grind
   | succ i ih=>
    intro hi
    have:=hstep i ops.toList[i] (List.getElem?_eq_getElem<|by omega)
    split at this
    ·have hS:=Option.some.inj this
     rw[<- hS]
     simp[ih (by omega)]
    ·cases this
  have hget:∀i,i<=ops.toList.length->(∀j a,(S i).1.get j=some a->j<i)/\(∀j,j<i->∃a o,(S i).1.get j=some a/\ops[j]?=some o /\
    (∀e∈o.after.toList,abi e->e.on<j/\bit a e.on=true/\∃b,(S i).1.get e.on=some b/\∀k,bit b k=true->bit a k=true) /\
    (∀k,bit a k=true->∃e∈o.after.toList,abi e/\(e.on=k\/∃b,(S i).1.get e.on=some b/\bit b k=true))):=by
   intro i
   induction i with
   | zero=>
    intro _
    rw[s0]
    exact⟨λj a h=>by simp[Tr.get]at h,λj h=>by omega⟩
   | succ i ih=>
    intro hi
    obtain⟨ih1,ih2⟩:=ih<|by omega
    have xG:ops.toList[i]?=some ops.toList[i]:=List.getElem?_eq_getElem<|by omega
    have hst:=hstep i ops.toList[i] xG
    have h2:=Y1 i<|by omega
    split at hst
    ·rename_i m hm
     obtain⟨f1,f2,f3⟩:=edges_fold hm
     have hS:(S<|i+1).1=(S i).1.put i m:=by
      have:=Option.some.inj hst
      rw[<- this,h2]
     rw[hS]
     have keep:∀j b,(S i).1.get j=some b->((S i).1.put i m).get j=some b:=λj b hj=>by
      have:=ih1 j b hj
      rw[Tr.bi _ _ (by omega)];exact hj
     refine⟨λj a hj=>?_,λj hj=>?_⟩
     ·by_cases hij:i=j
      ·omega
      ·rw[Tr.bi _ _ hij]at hj
       have:=ih1 j a hj;omega
     ·by_cases hij:i=j
      ·subst hij
       refine⟨m,ops.toList[i],Tr.a8 _ _ _,by simp,?_,?_⟩
       ·intro e he hb
        obtain⟨a,ha,hm1,hm2⟩:=f1 e he hb
        exact⟨ih1 _ _ ha,hm1,a,keep _ _ ha,hm2⟩
       ·intro k hk
        rcases f3 k hk with h|⟨e,he,hb,h⟩
        ·rw[nM]at h;cases h
        ·refine⟨e,he,hb,?_⟩
         rcases h with h|⟨a,ha,h⟩
         ·exact .inl h
         ·exact .inr ⟨a,keep _ _ ha,h⟩
      ·obtain⟨a,o,ha,ho,h1,h2⟩:=ih2 j (by omega)
       refine⟨a,o,keep _ _ ha,ho,?_,?_⟩
       ·intro e he hb
        obtain⟨g1,g2,b,hb',g3⟩:=h1 e he hb
        exact⟨g1,g2,b,keep _ _ hb',g3⟩
       ·intro k hk
        obtain⟨e,he,hb,h⟩:=h2 k hk
        refine⟨e,he,hb,?_⟩
        rcases h with h|⟨b,hb',h⟩
        ·exact .inl h
        ·exact .inr ⟨b,keep _ _ hb',h⟩
    ·cases hst
  obtain⟨g1,g2⟩:=hget _<|Nat.le_refl _
  rw[sn]at g1 g2
  have hlen:ops.toList.length=ops.size:=by simp
  refine⟨λj hj=>let⟨a,o,ha,_⟩:=g2 j (by omega);⟨a,ha⟩,λj a hj=>by have:=g1 j a hj;omega,?_,?_⟩
  ·intro j a o ha ho
   obtain⟨a',o',Gn,ho',h1,_⟩:=g2 j<|g1 j a ha
   rw[ha]at Gn;cases Gn
   rw[ho]at ho';cases ho'
   exact h1
  grind
 ·cases h
theorem xd {ops:Array Oper}{W:Tr Nat}(h:writers ops=some W)(d j:Nat):W.get d=some j↔∃o,ops[j]?=some o/\o.dst=some d:=by
 unfold writers at h
 split at h
 ·rename_i s hs
  obtain⟨S,s0,sn,hstep⟩:=lfold_seq hs
  have key:∀i,i<=ops.toList.length->(S i).2=i/\∀d j,(S i).1.get d=some j↔j<i/\∃o,ops[j]?=some o/\o.dst=some d:=by
   intro i
   induction i with
   | zero=>intro _;rw[s0];exact⟨rfl,λd j=>by simp[Tr.get]⟩
   | succ i ih=>
    intro hi
    obtain⟨h2,ih⟩:=ih<|by omega
    have xG:ops.toList[i]?=some ops.toList[i]:=List.getElem?_eq_getElem<|by omega
    have abq:ops[i]?=some ops.toList[i]:=by simp
    have hst:=hstep i ops.toList[i] xG
    split at hst
    ·rename_i hd
     have hS:=Option.some.inj hst
     rw[<- hS]
     refine⟨by simp[h2],λd j=>?_⟩
     grind
    ·rename_i d' hd
     split at hst
     ·cases hst
     ·rename_i lr
      have hS:=Option.some.inj hst
      rw[<- hS]
      refine⟨by simp[h2],λd j=>?_⟩
      simp only[h2]
      by_cases Up:d'=d
      ·subst Up
       rw[Tr.a8]
       constructor
       ·intro h;cases h;exact⟨by omega,_,abq,hd⟩
       ·rintro⟨h1,o,ho,A2⟩
        by_cases hji:j=i
        ·rw[hji]
        ·have:=(ih d' j).2 ⟨by omega,o,ho,A2⟩
         rw[lr]at this;cases this
      ·rw[Tr.bi _ _ Up,ih d j]
       constructor
       ·rintro⟨h1,h2⟩;exact⟨by omega,h2⟩
       ·rintro⟨h1,o,ho,A2⟩
        by_cases hji:j=i
        ·subst hji;rw[abq]at ho;cases ho;rw[hd]at A2;cases A2;exact absurd rfl Up
        ·exact⟨by omega,o,ho,A2⟩
  grind
 ·cases h
section
variable {P:Program}{nt:Nat}{ops:Array Oper}{aC W:Tr Nat}
theorem wJ (h:slotsOk P nt aC W ops=true){j:Nat}{o:Oper}(ho:ops[j]?=some o) :
  (∀t,Operand.tmp t∈(cOper P nt o).op.opers->slotOk aC W j t=true) /\
  (∀k w,o.guard=some (k,w)->∃ok a d,ops[k]?=some ok/\aC.get j=some a/\ok.dst=some d/\bit a k=true/\k<j):=by
 unfold slotsOk at h
 split at h
 ·rename_i s hs
  obtain⟨S,s0,sn,hstep⟩:=lfold_seq hs
  have hS:∀i,i<=ops.toList.length->S i=i:=by
   intro i
   induction i with
   | zero=>grind
   | succ i ih=>
    intro hi
    have hst:=hstep i ops.toList[i] (List.getElem?_eq_getElem<|by omega)
    have:=ih<|by omega
    split at hst
    ·cases hst
    ·(repeat' split at hst)<;>first | (cases hst;done) | grind
  have hj:=(Array.getElem?_eq_some_iff.1 ho).1
  have hst:=hstep j o<|by simpa using ho
  rw[hS j (by simp;omega)]at hst
  split at hst
  ·cases hst
  ·rename_i hall
   rw[gI]at hall
   refine⟨λt ht=>hall _ ht,?_⟩
   intro k w hg
   rw[hg]at hst
   simp only at hst
   split at hst
   ·rename_i ok a hok ha
    split at hst
    ·rename_i d hd
     split at hst
     ·rename_i hb
      simp only[Bool.and_eq_true]at hb
      rw[cY]at hok
      exact⟨ok,a,d,by grind,ha,hd,hb.1,Nat.le_of_ble_eq_true hb.2⟩
     ·cases hst
    ·cases hst
   ·cases hst
 ·cases h
noncomputable def isChain (P:Program)(nt:Nat)(ops:Array Oper)(j:Nat):Bool:=match ops[j]? with | some o=>(match clsOf (cOper P nt o).op with | .chain=>true | _=>false) | none=>false
noncomputable def isD (P:Program)(nt:Nat)(ops:Array Oper)(j:Nat):Bool:=match ops[j]? with | some o=>(match clsOf (cOper P nt o).op with | .dalloc=>true | .dmap=>true | _=>false) | none=>false
theorem cJ {j:Nat}{o:Oper}(ho:ops[j]?=some o):isChain P nt ops j=(match clsOf (cOper P nt o).op with | .chain=>true | _=>false):=by
 unfold isChain;rw[ho]
theorem F8 {j:Nat}{o:Oper}(ho:ops[j]?=some o):isD P nt ops j=(match clsOf (cOper P nt o).op with | .dalloc=>true | .dmap=>true | _=>false):=by
 unfold isD;rw[ho]
theorem uZ {chain:Nat}(h:chainOf P nt aC ops=some chain):(∀j,bit chain j=isChain P nt ops j)/\∀j,isChain P nt ops j=true->∃a,aC.get j=some a/\∀i,i<j->isChain P nt ops i=true->bit a i=true:=by
 unfold chainOf at h
 split at h
 ·rename_i s hs
  cases h
  obtain⟨S,s0,sn,hstep⟩:=lfold_seq hs
  simp only[aL]at hstep
  have key:∀i,i<=ops.toList.length->(S i).2=i/\(∀j,bit (S i).1 j=(decide (j<i)&&isChain P nt ops j))/\∀j,j<i->isChain P nt ops j=true->∃a,aC.get j=some a/\∀i,i<j->isChain P nt ops i=true->bit a i=true:=by
   intro i
   induction i with
   | zero=>intro _;rw[s0];exact⟨rfl,λj=>by simp[nM],λj h=>by omega⟩
   | succ i ih=>
    intro hi
    obtain⟨h2,ih1,ih2⟩:=ih<|by omega
    have xG:ops.toList[i]?=some ops.toList[i]:=List.getElem?_eq_getElem<|by omega
    have abq:ops[i]?=some ops.toList[i]:=by simp
    have hst:=hstep i ops.toList[i] xG
    split at hst
    ·rename_i hc
     have hci:isChain P nt ops i=true:=by rw[cJ abq,hc]
     split at hst
     ·rename_i a ha
      split at hst
      ·rename_i hb
       have hS:=Option.some.inj hst
       rw[<- hS]
       rw[h2]at ha
       refine⟨by simp[h2],λj=>?_,λj hj vp=>?_⟩
       ·simp only[fp,ih1,ni,h2]
        by_cases hij:i=j
        ·subst hij;simp[hci]
        grind
       ·by_cases hij:j=i
        ·subst hij
         exact⟨a,ha,λi hi hci=>tz hb (by rw[ih1];simp[hi,hci])⟩
        ·exact ih2 j (by omega) vp
      ·cases hst
     ·cases hst
    ·rename_i hc
     have hci:isChain P nt ops i=false:=by
      rw[cJ abq]
      cases dP:clsOf (cOper P nt ops.toList[i]).op<;>first | rfl | exact absurd dP hc
     have hS:=Option.some.inj hst
     rw[<- hS]
     refine⟨by simp[h2],λj=>?_,λj hj vp=>?_⟩
     ·simp only[ih1]
      by_cases hij:j=i
      ·subst hij;simp[hci]
      ·have:decide (j<i+1)=decide (j<i):=by congr 1;simp;omega
       rw[this]
     ·by_cases hij:j=i
      ·subst hij;rw[hci]at vp;cases vp
      ·exact ih2 j (by omega) vp
  have out:∀j,isChain P nt ops j=true->j<ops.toList.length:=by
   intro j hj
   unfold isChain at hj
   split at hj
   ·rename_i o ho;simpa using (Array.getElem?_eq_some_iff.1 ho).1
   ·cases hj
  grind
 ·cases h
theorem stages_ok {chain i a:Nat}(ha:aC.get i=some a)(hn:∀j,j<ops.size->∃b,aC.get j=some b)(vo:∀j,bit chain j=isChain P nt ops j){lo hi:Nat}(h:r7 aC chain i ops.size=some (lo,hi)) :
  lo=cf (λj=>isChain P nt ops j&&bit a j) 0 ops.size/\hi=cf (λj=>isChain P nt ops j && !(match aC.get j with | some b=>bit b i | none=>false)) 0 ops.size:=by
 unfold r7 at h
 rw[ha]at h
 simp only[aL]at h
 have key:∀(n k:Nat)(s r:Nat × Nat),eh (λj(s:Nat × Nat)=>match bit chain j with
   | false=>some s
   | true=>match aC.get j with
    | none=>none
    | some b=>some ((match bit a j with | true=>Nat.succ s.1 | false=>s.1),(match bit b i with | true=>s.2 | false=>Nat.succ s.2))) n k s=some r ->
   r.1=s.1+cf (λj=>isChain P nt ops j&&bit a j) k n/\r.2=s.2+cf (λj=>isChain P nt ops j && !(match aC.get j with | some b=>bit b i | none=>false)) k n:=by
  intro n
  induction n with
  | zero=>intro k s r h;cases h;simp[cf]
  | succ n ih=>
   intro k s r h
   rw[cZ]at h
   obtain⟨s',h1,h2⟩:=h
   obtain⟨r1,r2⟩:=ih _ _ _ h2
   rw[vo k]at h1
   split at h1
   ·rename_i hc
    cases h1
    simp only[cf,hc,Bool.false_and]
    simp[r1,r2]
   ·rename_i hc
    split at h1
    ·cases h1
    ·rename_i b hb
     simp only[cf,hc,hb,Bool.true_and]
     grind
 have:=key _ _ _ _ h
 grind
structure Ss (P:Program)(nt:Nat)(ops:Array Oper)(I:iM)(W:Tr Nat):Prop where
 aC:Kh ops I.aC
 wr:∀d j,W.get d=some j↔∃o,ops[j]?=some o/\o.dst=some d
 FS:∀{j:Nat}{o:Oper},ops[j]?=some o->(∀t,Operand.tmp t∈(cOper P nt o).op.opers->slotOk I.aC W j t=true) /\
  (∀k w,o.guard=some (k,w)->∃ok a d,ops[k]?=some ok/\I.aC.get j=some a/\ok.dst=some d/\bit a k=true/\k<j)
 chain:∀j,isChain P nt ops j=true->∃a,I.aC.get j=some a/\∀i,i<j->isChain P nt ops i=true->bit a i=true
 TA:∀j o,ops[j]?=some o->∃d,I.ops[j]?=some d/\d.o=cOper P nt o/\d.cls=clsOf (cOper P nt o).op /\
  (d.cls=.read->∃a,I.aC.get j=some a/\d.lo=cf (λi=>isChain P nt ops i&&bit a i) 0 ops.size/\d.hi=cf (λi=>isChain P nt ops i && !(match I.aC.get i with | some b=>bit b j | none=>false)) 0 ops.size)
 len:I.ops.length=ops.size
 nd:I.nd=cf (isD P nt ops) 0 ops.size
theorem sO {I:iM}(h:dinfo P nt ops=some I):∃W,Ss P nt ops I W:=by
 unfold dinfo at h
 split at h
 ·cases h
 ·rename_i aC bG
  have ha:=HX bG
  split at h
  ·cases h
  ·rename_i W hW
   split at h
   ·cases h
   ·rename_i ng
    split at h
    ·cases h
    ·rename_i chain hchain
     obtain⟨Ya,Yb⟩:=uZ hchain
     split at h
     ·rename_i s hs
      cases h
      obtain⟨S,s0,sn,hstep⟩:=lfold_seq hs
      have key:∀i,i<=ops.toList.length->(S i).2.1=i/\(S i).1.length=i/\(S i).2.2=cf (isD P nt ops) 0 i/\∀j o,j<i->ops[j]?=some o->∃d,(S i).1.reverse[j]?=some d/\d.o=cOper P nt o/\d.cls=clsOf (cOper P nt o).op /\
        (d.cls=.read->∃a,aC.get j=some a/\d.lo=cf (λi=>isChain P nt ops i&&bit a i) 0 ops.size/\d.hi=cf (λi=>isChain P nt ops i && !(match aC.get i with | some b=>bit b j | none=>false)) 0 ops.size):=by
       intro i
       induction i with
       | zero=>intro _;rw[s0];exact⟨rfl,rfl,rfl,λj o h=>by omega⟩
       | succ i ih=>
        intro hi
        obtain⟨h2,h3,h4,ih⟩:=ih<|by omega
        have xG:ops.toList[i]?=some ops.toList[i]:=List.getElem?_eq_getElem<|by omega
        have abq:ops[i]?=some ops.toList[i]:=by simp
        have hst:=hstep i ops.toList[i] xG
        simp only at hst
        have fin:∀(d:qr)(k:Nat),S (i+1)=(d::(S i).1,Nat.succ (S i).2.1,k)->k=(S i).2.2+(if isD P nt ops i then 1 else 0)->d.o=cOper P nt ops.toList[i]->d.cls=clsOf (cOper P nt ops.toList[i]).op ->
          (d.cls=.read->∃a,aC.get i=some a/\d.lo=cf (λj=>isChain P nt ops j&&bit a j) 0 ops.size/\d.hi=cf (λj=>isChain P nt ops j && !(match aC.get j with | some b=>bit b i | none=>false)) 0 ops.size) ->
          (S<|i+1).2.1=i+1/\(S<|i+1).1.length=i+1/\(S<|i+1).2.2=cf (isD P nt ops) 0 (i+1)/\∀j o,j<i+1->ops[j]?=some o->∃d,(S<|i+1).1.reverse[j]?=some d/\d.o=cOper P nt o/\d.cls=clsOf (cOper P nt o).op /\
           (d.cls=.read->∃a,aC.get j=some a/\d.lo=cf (λi=>isChain P nt ops i&&bit a i) 0 ops.size/\d.hi=cf (λi=>isChain P nt ops i && !(match aC.get i with | some b=>bit b j | none=>false)) 0 ops.size):=by
         intro d k hS hk hd1 hd2 hd3
         rw[hS]
         refine⟨by simp[h2],by simp[h3],by simp only[hk,h4,jz],?_⟩
         intro j o hj ho
         by_cases hji:j=i
         ·subst hji
          rw[abq]at ho;cases ho
          exact⟨d,by simp[h3],hd1,hd2,hd3⟩
         ·obtain⟨d',hd',rest⟩:=ih j o (by omega) ho
          exact⟨d',by simp only[List.reverse_cons];grind,rest⟩
        split at hst
        ·rename_i hc
         split at hst
         ·rename_i lo hi' IY
          refine fin _ _ (Option.some.inj hst).symm ?_ rfl hc.symm ?_
          ·rw[F8 abq,hc];rfl
          ·intro _
           obtain⟨a,haa⟩:=ha.all i (by have:=hi;simp at this;omega)
           rw[h2,ar]at IY
           obtain⟨e1,e2⟩:=stages_ok (P:=P) (nt:=nt) haa ha.all Ya<|by simpa using IY
           exact⟨a,haa,e1,e2⟩
         ·cases hst
        ·rename_i hc
         refine fin _ _ (Option.some.inj hst).symm ?_ rfl hc.symm (by simp)
         rw[F8 abq,hc];rfl
        ·rename_i hc
         refine fin _ _ (Option.some.inj hst).symm ?_ rfl hc.symm (by simp)
         rw[F8 abq,hc];rfl
        ·rename_i c hc1 Uj X9
         refine fin _ _ (Option.some.inj hst).symm ?_ rfl rfl ?_
         ·have:isD P nt ops i=false:=by
           rw[F8 abq]
           cases dP:clsOf (cOper P nt ops.toList[i]).op<;>first | rfl | exact absurd dP Uj | exact absurd dP X9
          simp[this]
         ·intro h;exact absurd h hc1
      obtain⟨_,k2,k3,k4⟩:=key _<|Nat.le_refl _
      rw[sn]at k2 k3 k4
      have hlen:ops.toList.length=ops.size:=by simp
      refine⟨W,ha,xd hW,λho=>wJ ng ho,Yb,?_,by simp[k2],by rw[k3,hlen]⟩
      intro j o ho
      exact k4 j o (by have:=(Array.getElem?_eq_some_iff.1 ho).1;omega) ho
     ·cases h
end
end Go.Ev
namespace Go.Ev
section
variable {P:Program}{ih:fP}{rd:Option Nat}{nt:Nat}{ops:Array Oper}{aC:Tr Nat}
inductive Stp (P:Program)(ih:fP)(nt:Nat)(ops:Array Oper)(aC:Tr Nat)(s:DS)(o:Oper)(d:qr):DS->Prop
 | skip (hw:wanted s.e ops o.guard=some false) (hc:clsOf (cOper P nt o).op≠.chain) (k:Nat) (hk:k=s.cG+(match clsOf (cOper P nt o).op with | .dalloc=>1 | .dmap=>1 | _=>0)) :
   Stp P ih nt ops aC s o d { s with e:=putO s.e (effDst nt o.dst) .undef,j:=Nat.succ s.j,cG:=k }
 | jm (hw:wanted s.e ops o.guard=some false) (hc:clsOf (cOper P nt o).op=.chain) :
   Stp P ih nt ops aC s o d { s with e:=putO s.e (effDst nt o.dst) .undef,Hs:=s.H::s.Hs,j:=Nat.succ s.j }
 | pure (hw:wanted s.e ops o.guard=some true) (hc:clsOf (cOper P nt o).op=.pure) (v:AV) (H1:Heap) (ha:aval P s.H (bL s.e) (cOper P nt o).op=some (v,H1)) :
   Stp P ih nt ops aC s o d { s with e:=putO s.e (effDst nt o.dst) v,j:=Nat.succ s.j }
 | read (hw:wanted s.e ops o.guard=some true) (hc:clsOf (cOper P nt o).op=.read) (a:Nat) (bG:aC.get s.j=some a) (Hx:Heap) (hx:bH a s.pend s.H=some Hx) (v:AV) (H1:Heap)
   (ha:aval P Hx (bL s.e) (cOper P nt o).op=some (v,H1)) (aO:List lP) (hl:(d.lo=d.hi/\aO=s.aO)\/aO=⟨s.e,(cOper P nt o).op,a,d.lo,d.hi,v⟩::s.aO) :
   Stp P ih nt ops aC s o d { s with e:=putO s.e (effDst nt o.dst) v,j:=Nat.succ s.j,aO:=aO }
 | chain (hw:wanted s.e ops o.guard=some true) (hc:clsOf (cOper P nt o).op=.chain) (a:Nat) (bG:aC.get s.j=some a) (pend:List aF) (mats:List (aF × Nat)) (H1:Heap)
   (d8:settle a (aK s.Hs) s.pend s.mats s.H=some (pend,mats,H1)) (v:AV) (H2:Heap) (ho:oper P ih (bL s.e) (cOper P nt o).op s.ds H1=some (.mk v s.ds H2)) :
   Stp P ih nt ops aC s o d { s with e:=putO s.e (effDst nt o.dst) v,H:=H2,Hs:=H2::s.Hs,j:=Nat.succ s.j,pend:=pend,mats:=mats }
 | alloc (hw:wanted s.e ops o.guard=some true) (hc:clsOf (cOper P nt o).op=.dalloc\/clsOf (cOper P nt o).op=.dmap) (ob:bv) (f:Nat->AV) (ha:allocOf (bL s.e) (cOper P nt o).op=some (ob,f)) :
   Stp P ih nt ops aC s o d { s with e:=putO s.e (effDst nt o.dst)<|f s.cG,j:=Nat.succ s.j,cG:=Nat.succ s.cG,pend:=⟨s.j,s.cG,ob,0,[]⟩::s.pend }
 | ins (hw:wanted s.e ops o.guard=some true) (hc:clsOf (cOper P nt o).op=.abl) (a:Nat) (bG:aC.get s.j=some a) (l:Bool) (kk:dC) (m k v:Operand) (hop:(cOper P nt o).op=.ins l kk m k v) (b:Nat) (kv vv:AV)
   (hm:bL s.e m=some (.map<|some b)) (hk:bL s.e k=some kv) (hv:bL s.e v=some vv) (pend:List aF) (hi:ib kk kv vv b s.j a s.pend=some (true,pend)) :
   Stp P ih nt ops aC s o d { s with e:=putO s.e (effDst nt o.dst) .undef,j:=Nat.succ s.j,pend:=pend }
theorem zd {s s':DS}{o:Oper}{d:qr}(ho:d.o=cOper P nt o)(hc:d.cls=clsOf (cOper P nt o).op)(h:dstep P ih rd ops aC s d=some s'):Stp P ih nt ops aC s o d s':=by
 unfold dstep at h
 have hg:d.o.guard=o.guard:=by rw[ho,iW]
 have hd:d.o.dst=effDst nt o.dst:=by rw[ho,iW]
 rw[hg,hd]at h
 have hop:d.o.op=(cOper P nt o).op:=by rw[ho]
 rw[hop]at h
 split at h
 ·cases h
 ·rename_i hw
  split at h
  ·rename_i dP
   cases h
   exact .jm hw<|hc▸dP
  ·rename_i dP
   cases h
   exact .skip hw (by grind) _<|by grind
  ·rename_i dP
   cases h
   exact .skip hw (by grind) _<|by grind
  ·rename_i h1 h2 h3
   cases h
   refine .skip hw (by grind) _ ?_
   grind
 ·rename_i hw
  split at h
  ·rename_i dP
   split at h
   ·rename_i v H1 ha
    cases h
    exact .pure hw (hc▸dP) v H1 ha
   ·cases h
  ·rename_i dP
   split at h
   ·cases h
   ·rename_i a bG
    split at h
    ·cases h
    ·rename_i Hx hx
     split at h
     ·rename_i v H1 ha
      split at h
      ·rename_i hlo
       cases h
       exact .read hw (hc▸dP) a bG Hx hx v H1 ha _<|.inl ⟨Nat.eq_of_beq_eq_true hlo,rfl⟩
      ·cases h
       exact .read hw (hc▸dP) a bG Hx hx v H1 ha _<|.inr rfl
     ·cases h
  ·rename_i dP
   split at h
   ·cases h
   ·rename_i a bG
    split at h
    ·cases h
    ·rename_i pend mats H1 d8
     split at h
     ·rename_i v ds' H2 UK
      have:=Js UK
      subst this
      cases h
      exact .chain hw (hc▸dP) a bG pend mats H1 d8 v H2 UK
     ·cases h
  ·rename_i dP
   split at h
   ·rename_i ob f ha
    cases h
    exact .alloc hw (.inl<|hc▸dP) ob f ha
   ·cases h
  ·rename_i dP
   split at h
   ·rename_i ob f ha
    cases h
    exact .alloc hw (.inr<|hc▸dP) ob f ha
   ·cases h
  ·rename_i dP
   split at h
   ·cases h
   ·rename_i a bG
    split at h
    ·rename_i l kk m k v YN
     split at h
     ·rename_i b hm
      split at h
      ·rename_i kv hk
       split at h
       ·rename_i vv hv
        split at h
        ·rename_i pend hi
         cases h
         exact .ins hw (hc▸dP) a bG l kk m k v YN b kv vv hm hk hv pend hi
        ·cases h
       ·cases h
      ·cases h
     ·cases h
    ·cases h
end
structure TR (P:Program)(ih:fP)(nt:Nat)(ops:Array Oper)(e0:Tr AV)(ds:List cD)(H:Heap)(I:iM)(W:Tr Nat)(S:Nat->DS):Prop where
 di:Ss P nt ops I W
 s0:S 0=⟨e0,ds,⟨H.t,Nat.add H.next I.nd⟩,[⟨H.t,Nat.add H.next I.nd⟩],0,H.next,[],[],[]⟩
 step:∀j o,ops[j]?=some o->∃d,d.o=cOper P nt o/\Stp P ih nt ops I.aC (S j) o d (S<|j+1) /\
  (d.cls=.read->∃a,I.aC.get j=some a/\d.lo=cf (λi=>isChain P nt ops i&&bit a i) 0 ops.size/\d.hi=cf (λi=>isChain P nt ops i && !(match I.aC.get i with | some b=>bit b j | none=>false)) 0 ops.size)/\d.cls=clsOf (cOper P nt o).op
section
variable {P:Program}{ih:fP}{rd:Option Nat}{nt:Nat}{ops:Array Oper}{e0:Tr AV}{ds:List cD}{H:Heap}{I:iM}{W:Tr Nat}{S:Nat->DS}
theorem F7 {R:CR}(h:runDraw P ih rd nt ops e0 ds H=some R):∃I W S,TR P ih nt ops e0 ds H I W S/\(∀l∈(S ops.size).aO,looksOk P (S ops.size).Hs.reverse (S ops.size).pend (S ops.size).mats l=true) /\
  ∃H',aw (λ(H:Heap)(p:aF)=>some<|H.put p.id p.o) (S ops.size).pend (S ops.size).H=some H'/\R=.mk .normal (S ops.size).e (S ops.size).ds H':=by
 unfold runDraw at h
 split at h
 ·cases h
 ·rename_i I hI
  obtain⟨W,hW⟩:=sO hI
  split at h
  ·cases h
  ·rename_i s hs
   obtain⟨S,s0,sn,hstep⟩:=lfold_seq hs
   rw[hW.len]at sn
   split at h
   ·cases h
   ·rename_i hl
    split at h
    ·rename_i H' Cq
     cases h
     refine⟨I,W,S,⟨hW,s0,?_⟩,?_,H',by grind,by rw[sn]⟩
     ·intro j o ho
      obtain⟨d,hd,h1,h2,h3⟩:=hW.TA j o ho
      exact⟨d,h1,zd h1 h2<|hstep j d hd,h3,h2⟩
     ·rw[sn];exact(gI _ _).1 hl
    ·cases h
variable (T:TR P ih nt ops e0 ds H I W S)
include T
theorem TR.op {j:Nat}(hj:j<ops.size):∃o,ops[j]?=some o:=by
 have _:=T
 exact⟨ops[j],by simp[hj]⟩
theorem TR.j {j:Nat}(hj:j<=ops.size):(S j).j=j:=by
 induction j with
 | zero=>rw[T.s0]
 | succ j vA=>
  obtain⟨o,ho⟩:=T.op hj
  obtain⟨d,_,hs,_⟩:=T.step j o ho
  have:=vA<|by omega
  generalize S (j+1)=s' at hs |-
  cases hs<;>simp[this]
theorem TR.NZ {j:Nat}(hj:j<=ops.size):(S j).ds=ds:=by
 induction j with
 | zero=>rw[T.s0]
 | succ j vA=>
  obtain⟨o,ho⟩:=T.op hj
  obtain⟨d,_,hs,_⟩:=T.step j o ho
  have:=vA<|by omega
  generalize S (j+1)=s' at hs |-
  cases hs<;>simp[this]
theorem TR.Xx {j:Nat}{o:Oper}(ho:ops[j]?=some o):∃v,(S (j+1)).e=putO (S j).e (effDst nt o.dst) v:=by
 obtain⟨d,_,hs,_⟩:=T.step j o ho
 generalize S (j+1)=s' at hs |-
 cases hs<;>exact⟨_,rfl⟩
theorem TR.cG {j:Nat}(hj:j<=ops.size):(S j).cG=H.next+cf (isD P nt ops) 0 j:=by
 induction j with
 | zero=>rw[T.s0];rfl
 | succ j vA=>
  obtain⟨o,ho⟩:=T.op hj
  obtain⟨d,_,hs,_⟩:=T.step j o ho
  have:=vA<|by omega
  rw[jz,F8 ho,<- Nat.add_assoc,<- this]
  generalize S (j+1)=s' at hs |-
  cases hs
  case skip hw hc k hk=>
   grind
  case jm hw hc=>simp[hc]
  case pure hw hc v H1 ha=>simp[hc]
  case read hw hc a bG Hx hx v H1 ha aO hl=>simp[hc]
  case chain hw hc a bG pend mats H1 d8 v H2 ho=>simp[hc]
  case alloc hw hc ob f ha=>grind
  grind
theorem TR.Hs {j:Nat}(hj:j<=ops.size):∃t,(S j).Hs=(S j).H::t/\t.length=cf (isChain P nt ops) 0 j:=by
 induction j with
 | zero=>rw[T.s0];exact⟨[],rfl,rfl⟩
 | succ j vA=>
  obtain⟨o,ho⟩:=T.op hj
  obtain⟨d,_,hs,_⟩:=T.step j o ho
  rw[jz,cJ ho]
  generalize S (j+1)=s' at hs |-
  cases hs
  case skip hw hc k hk=>
   grind
  case jm hw hc=>grind
  case pure hw hc v H1 ha=>grind
  case read hw hc a bG Hx hx v H1 ha aO hl=>grind
  case chain hw hc a bG pend mats H1 d8 v H2 ho=>grind
  case alloc hw hc ob f ha=>grind
  grind
def R4 (S:Nat->DS)(n k:Nat):Option Heap:=(S n).Hs.reverse[k]?
theorem TR.K8 {j:Nat}(hj:j<ops.size):∃t,(S (j+1)).Hs=t++(S j).Hs:=by
 obtain⟨o,ho⟩:=T.op hj
 obtain⟨d,_,hs,_⟩:=T.step j o ho
 generalize S (j+1)=s' at hs |-
 cases hs<;>first | exact⟨[],rfl⟩ | exact⟨[_],rfl⟩
theorem TR.Sv {i j:Nat}(hij:i<=j)(hj:j<=ops.size):∃t,(S j).Hs=t++(S i).Hs:=by
 induction j with
 | zero=>simp_all
 | succ j vA=>
  by_cases h:i=j+1
  ·subst h;exact⟨[],rfl⟩
  ·obtain⟨t',ht'⟩:=T.K8 hj
   grind
theorem TR.HH {j:Nat}(hj:j<=ops.size):R4 S ops.size (cf (isChain P nt ops) 0 j)=some (S j).H:=by
 obtain⟨t,ht⟩:=T.Sv hj<|Nat.le_refl _
 obtain⟨u,hu,hl⟩:=T.Hs hj
 unfold R4
 rw[ht,hu]
 simp[<- hl]
theorem TR.vR {j:Nat}(hj:j<=ops.size):aK (S j).Hs=cf (isChain P nt ops) 0 j+1:=by
 obtain⟨u,hu,hl⟩:=T.Hs hj
 rw[ar,hu];simp[hl]
theorem TR.AI {j t:Nat}(hj:j<ops.size)(h:W.get t≠some j):(S (j+1)).e.get t=(S j).e.get t:=by
 obtain⟨o,ho⟩:=T.op hj
 obtain⟨v,hv⟩:=T.Xx ho
 rw[hv]
 cases hd:effDst nt o.dst with
 | none=>rfl
 | some d=>
  have:=(lW hd).2
  have hw:=(T.di.wr d j).2 ⟨o,ho,this⟩
  by_cases hdt:d=t
  ·grind
  ·exact Tr.bi _ _ hdt
theorem TR.mu {i j t:Nat}(hij:i<=j)(hj:j<=ops.size)(h:∀k,i<=k->k<j->W.get t≠some k):(S j).e.get t=(S i).e.get t:=by
 induction j with
 | zero=>grind
 | succ j vA=>
  by_cases he:i=j+1
  ·subst he;rfl
  ·rw[T.AI hj (h j (by omega)<|by omega)]
   grind
theorem TR.qk {j t:Nat}(hj:j<=ops.size)(h:W.get t=none):(S j).e.get t=e0.get t:=by
 rw[T.mu (Nat.zero_le j) hj (λk _ _=>by rw[h];simp),T.s0]
theorem TR.jn {i j t:Nat}(hj:j<=i)(hi:i<=ops.size)(h:W.get t=some i):(S j).e.get t=e0.get t:=by
 rw[T.mu (Nat.zero_le j) (by omega) (λk _ hk=>by grind),T.s0]
theorem TR.kK {i j t:Nat}(hij:i<j)(hj:j<=ops.size)(h:W.get t=some i):(S ops.size).e.get t=(S j).e.get t:=
 T.mu hj (Nat.le_refl _) (λk hk _=>by grind)
end
end Go.Ev
namespace Go.Ev
theorem settle_ok {a n:Nat}:∀{pend:List aF}{r0:List aF}{m0:List (aF × Nat)}{H0:Heap}{r:List aF × List (aF × Nat) × Heap},
  aw (λ(s:List aF × List (aF × Nat) × Heap)(p:aF)=>match bit a p.i with
  | false=>some (p::s.1,s.2.1,s.2.2)
  | true=>match Nat.beq (Nat.land p.ins a) p.ins with
   | true=>some (s.1,(p,n)::s.2.1,s.2.2.put p.id p.o)
   | false=>none) pend (r0,m0,H0)=some r ->
  (∀p,p∈r.1↔p∈r0\/(p∈pend/\bit a p.i=false))/\(∀x,x∈r.2.1↔x∈m0\/∃p∈pend,bit a p.i=true/\x=(p,n)) /\
  (∀p∈pend,bit a p.i=true->∀q,bit p.ins q=true->bit a q=true)/\r.2.2.next=H0.next /\
  (∀b o,r.2.2.get b=some o->H0.get b=some o\/∃p∈pend,bit a p.i=true/\p.id=b/\p.o=o) /\
  (r.1.map (·.i)++r.2.1.map (·.1.i)).Perm (pend.map (·.i)++(r0.map (·.i)++m0.map (·.1.i))):=by
 intro pend
 induction pend with
 | nil=>
  intro r0 m0 H0 r h
  rw[dI]at h;grind
 | cons p pend ih=>
  intro r0 m0 H0 r h
  rw[ah]at h
  obtain⟨s',h1,h2⟩:=h
  split at h1
  ·rename_i hb
   cases h1
   obtain⟨i1,i2,i3,i4,i5,i6⟩:=ih h2
   refine⟨λx=>?_,λx=>?_,λx hx PA=>?_,i4,λb o h=>?_,?_⟩
   ·rw[i1 x]
    simp only[List.mem_cons]
    constructor
    ·rintro((rfl | h) | ⟨h,h'⟩)
     ·exact .inr ⟨.inl rfl,hb⟩
     ·exact .inl h
     ·exact .inr ⟨.inr h,h'⟩
    ·rintro(h | ⟨rfl | h,h'⟩)
     ·exact .inl<|.inr h
     ·exact .inl<|.inl rfl
     ·exact .inr ⟨h,h'⟩
   ·rw[i2 x]
    simp only[List.mem_cons]
    constructor
    ·rintro(h | ⟨p',h,h',h''⟩)
     ·exact .inl h
     ·exact .inr ⟨p',.inr h,h',h''⟩
    ·rintro(h | ⟨p',rfl | h,h',h''⟩)
     ·exact .inl h
     ·rw[hb]at h';cases h'
     ·exact .inr ⟨p',h,h',h''⟩
   ·rcases List.mem_cons.1 hx with rfl | hx
    ·rw[hb]at PA;cases PA
    ·exact i3 x hx PA
   ·rcases i5 b o h with h | ⟨p',h,h'⟩
    ·exact .inl h
    ·exact .inr ⟨p',List.mem_cons_of_mem _ h,h'⟩
   ·refine i6.trans ?_
    simp only[List.map_cons,List.cons_append]
    exact List.perm_middle
  ·rename_i hb
   split at h1
   ·rename_i hl
    cases h1
    obtain⟨i1,i2,i3,i4,i5,i6⟩:=ih h2
    refine⟨λx=>?_,λx=>?_,λx hx PA=>?_,i4,λb o h=>?_,?_⟩
    ·rw[i1 x]
     simp only[List.mem_cons]
     constructor
     ·rintro(h | ⟨h,h'⟩)
      ·exact .inl h
      ·exact .inr ⟨.inr h,h'⟩
     ·rintro(h | ⟨rfl | h,h'⟩)
      ·exact .inl h
      ·rw[hb]at h';cases h'
      ·exact .inr ⟨h,h'⟩
    ·rw[i2 x]
     simp only[List.mem_cons]
     constructor
     ·rintro((rfl | h) | ⟨p',h,h',h''⟩)
      ·exact .inr ⟨p,.inl rfl,hb,rfl⟩
      ·exact .inl h
      ·exact .inr ⟨p',.inr h,h',h''⟩
     ·rintro(h | ⟨p',rfl | h,h',h''⟩)
      ·exact .inl<|.inr h
      ·exact .inl<|.inl h''
      ·exact .inr ⟨p',h,h',h''⟩
    ·rcases List.mem_cons.1 hx with rfl | hx
     ·intro q hq
      exact tz hl hq
     ·exact i3 x hx PA
    ·rcases i5 b o h with h | ⟨p',h,h'⟩
     ·rw[Heap.aR]at h
      split at h
      ·rename_i e;cases h;exact .inr ⟨p,by simp,hb,e,rfl⟩
      ·exact .inl h
     ·exact .inr ⟨p',List.mem_cons_of_mem _ h,h'⟩
    ·refine i6.trans ?_
     simp only[List.map_cons,List.cons_append]
     refine(List.Perm.append_left _ List.perm_middle).trans ?_
     exact List.perm_middle
   ·cases h1
theorem lookIn_none {p:dC}{k:AV}{es:List (AV × AV)}(h:lookIn p k es=some none):∀e∈es,primEq p k e.1=some false:=by
 have key:∀(es:List (AV × AV))(r0:Option AV),aw (λ(r:Option AV)(e:AV × AV)=>match primEq p k e.1 with | some true=>some (some e.2) | some false=>some r | none=>none) es r0=some none ->
   r0=none/\∀e∈es,primEq p k e.1=some false:=by
  intro es
  induction es with
  | nil=>intro r0 h;rw[dI]at h;grind
  | cons e es ih=>
   intro r0 h
   rw[ah]at h
   grind
 exact(key es none h).2
theorem zX {p:dC}{k:AV}{es:List (AV × AV)}(h:∀e∈es,primEq p k e.1=some false):lookIn p k es=some none:=by
 have key:∀(es:List (AV × AV)),(∀e∈es,primEq p k e.1=some false)->aw (λ(r:Option AV)(e:AV × AV)=>match primEq p k e.1 with | some true=>some (some e.2) | some false=>some r | none=>none) es none=some none:=by
  intro es
  induction es with
  | nil=>intro _;rfl
  | cons e es ih=>
   intro h
   rw[ah]
   grind
 exact key es h
noncomputable def oT (kv vv:AV)(j:Nat)(p:aF)(es:List (AV × AV)):aF:=⟨p.i,p.id,.map (bI es [(kv,vv)]),Nat.lor p.ins (Nat.shiftLeft 1 j),bI p.kP [(j,kv,vv)]⟩
theorem insPend_ok {kk:dC}{kv vv:AV}{b j a:Nat}:∀{pend:List aF}{f0:Bool}{r0:List aF}{r:Bool × List aF},
  aw (λ(s:Bool × List aF)(p:aF)=>match Nat.beq p.id b with
  | false=>some (s.1,p::s.2)
  | true=>match bit a p.i with
   | false=>none
   | true=>match p.o with
    | .map es=>match lookIn kk kv es with
     | some none=>match primEq kk kv kv with
      | some true=>some (true,⟨p.i,p.id,.map<|bI es [(kv,vv)],Nat.lor p.ins<|Nat.shiftLeft 1 j,bI p.kP [(j,kv,vv)]⟩::s.2)
      | _=>none
     | _=>none
    | _=>none) pend (f0,r0)=some r ->
  (r.1=true->f0=true\/∃p∈pend,p.id=b) /\
  (∀p∈pend,(p.id≠b/\p∈r.2)\/(p.id=b/\bit a p.i=true/\∃es,p.o=.map es/\lookIn kk kv es=some none/\primEq kk kv kv=some true/\oT kv vv j p es∈r.2)) /\
  (∀p'∈r.2,p'∈r0\/∃p∈pend,(p.id≠b/\p'=p)\/(p.id=b/\bit a p.i=true/\∃es,p.o=.map es/\lookIn kk kv es=some none/\primEq kk kv kv=some true/\p'=oT kv vv j p es)) /\
  (∀p∈r0,p∈r.2)/\r.2.map (·.i)=(pend.map (·.i)).reverse++r0.map (·.i):=by
 intro pend
 induction pend with
 | nil=>
  intro f0 r0 r h
  rw[dI]at h;grind
 | cons p pend ih=>
  intro f0 r0 r h
  rw[ah]at h
  obtain⟨s',h1,h2⟩:=h
  split at h1
  ·rename_i hb
   have hb:p.id≠b:=Nat.ne_of_beq_eq_false hb
   cases h1
   obtain⟨i1,i2,i3,i4,i5⟩:=ih h2
   refine⟨λh=>?_,λx hx=>?_,λx hx=>?_,λx hx=>i4 x<|by simp[hx],by simp[i5]⟩
   ·rcases i1 h with h | ⟨p',h,h'⟩
    ·exact .inl h
    ·exact .inr ⟨p',by simp[h],h'⟩
   ·rcases List.mem_cons.1 hx with rfl | hx
    ·exact .inl ⟨hb,i4 _<|by simp⟩
    ·exact i2 x hx
   ·rcases i3 x hx with h | ⟨p',h,h'⟩
    ·rcases List.mem_cons.1 h with rfl | h
     ·exact .inr ⟨x,by simp,.inl ⟨hb,rfl⟩⟩
     ·exact .inl h
    ·exact .inr ⟨p',by simp[h],h'⟩
  ·rename_i hb
   have hb:p.id=b:=Nat.eq_of_beq_eq_true hb
   split at h1
   ·cases h1
   ·rename_i ha
    split at h1
    ·rename_i es ho
     split at h1
     ·rename_i hlk
      split at h1
      ·rename_i Gv
       cases h1
       obtain⟨i1,i2,i3,i4,i5⟩:=ih h2
       refine⟨λ_=>.inr ⟨p,by simp,hb⟩,λx hx=>?_,λx hx=>?_,λx hx=>i4 x<|by simp[hx],by simp[i5]⟩
       ·rcases List.mem_cons.1 hx with rfl | hx
        ·exact .inr ⟨hb,ha,es,ho,hlk,Gv,i4 _<|by simp[oT]⟩
        ·exact i2 x hx
       ·rcases i3 x hx with h | ⟨p',h,h'⟩
        ·rcases List.mem_cons.1 h with rfl | h
         ·exact .inr ⟨p,by simp,.inr ⟨hb,ha,es,ho,hlk,Gv,rfl⟩⟩
         ·exact .inl h
        ·exact .inr ⟨p',by simp[h],h'⟩
      ·cases h1
     ·cases h1
    ·cases h1
theorem oK {p p':dC}{k k':AV}(h:primEq p k k=some true)(h':primEq p' k k'=some false):primEq p k k'=some false:=by
 cases p'<;>simp only[primEq]at h'<;>cases k<;>simp only[reduceCtorEq]at h'<;>cases k'<;>simp only[reduceCtorEq]at h'<;>cases p<;>simp only[primEq,reduceCtorEq]at h |-<;>exact h'
theorem tW {p p':dC}{k k':AV}(h:primEq p k k=some true)(h':primEq p' k' k=some false):primEq p k k'=some false:=by
 refine oK (p':=p') h ?_
 cases p'<;>simp only[primEq]at h' |-<;>cases k<;>cases k'<;>simp only[reduceCtorEq]at h' |-
 ·simp only[Option.some.injEq,beq_eq_false_iff_ne]at h' |-;exactλe=>h' e.symm
 ·split at h'
  ·rename_i hk
   simp only[Option.some.injEq,et,beq_eq_false_iff_ne]at h'
   rw[ic]at hk |-
   have hk:=of_decide_eq_true hk
   simp only[hk,decide_true,Option.some.injEq,et,beq_eq_false_iff_ne]
   exactλe=>h' e.symm
  ·cases h'
 ·simp only[Option.some.injEq,beq_eq_false_iff_ne]at h' |-;exactλe=>h' e.symm
section
variable {P:Program}{ih:fP}{rd:Option Nat}{nt:Nat}{ops:Array Oper}{e0:Tr AV}{ds:List cD}{H:Heap}{I:iM}{W:Tr Nat}{S:Nat->DS}
def Sw (P:Program)(nt:Nat)(ops:Array Oper)(S:Nat->DS)(q b:Nat)(kv vv:AV):Prop:=
 ∃o l kk m k v,ops[q]?=some o/\wanted (S q).e ops o.guard=some true/\(cOper P nt o).op=.ins l kk m k v/\clsOf (cOper P nt o).op=.abl/\bL (S q).e m=some (.map<|some b)/\bL (S q).e k=some kv/\bL (S q).e v=some vv
structure BI (P:Program)(nt:Nat)(ops:Array Oper)(H:Heap)(aC:Tr Nat)(S:Nat->DS)(j:Nat)(p:aF):Prop where
 lt:p.i<j
 d:isD P nt ops p.i=true
 id:p.id=H.next+cf (isD P nt ops) 0 p.i
 al:∃o ob f,ops[p.i]?=some o/\wanted (S p.i).e ops o.guard=some true/\allocOf (bL (S p.i).e) (cOper P nt o).op=some (ob,f) /\
  ((ob.a9=true/\p.o=ob/\p.kP=[])\/(ob=.map []/\p.o=.map (p.kP.map (·.2))))
 ins:∀q,bit p.ins q=true↔∃kv,(q,kv)∈p.kP
 pw:p.kP.Pairwise (λx y=>x.1<y.1/\∃kk,primEq kk y.2.1 y.2.1=some true/\primEq kk y.2.1 x.2.1=some false)
 at_:∀x∈p.kP,x.1<j/\Sw P nt ops S x.1 p.id x.2.1 x.2.2/\∃a,aC.get x.1=some a/\bit a p.i=true
theorem BI.mono {aC:Tr Nat}{j j':Nat}{p:aF}(h:BI P nt ops H aC S j p)(hj:j<=j'):BI P nt ops H aC S j' p:=
 ⟨Nat.lt_of_lt_of_le h.lt hj,h.d,h.id,h.al,h.ins,h.pw,λx hx=>⟨Nat.lt_of_lt_of_le (h.at_ x hx).1 hj,(h.at_ x hx).2⟩⟩
def MI (P:Program)(nt:Nat)(ops:Array Oper)(aC:Tr Nat)(p:aF)(m:Nat):Prop:=
 ∃c a,isChain P nt ops c=true/\c<ops.size/\m=cf (isChain P nt ops) 0 c+1/\aC.get c=some a/\bit a p.i=true/\∀q,bit p.ins q=true->bit a q=true
structure PI (P:Program)(nt:Nat)(ops:Array Oper)(H:Heap)(aC:Tr Nat)(S:Nat->DS)(j:Nat):Prop where
 nd:((S j).pend.map (·.i)++(S j).mats.map (·.1.i)).Nodup
 bp:∀p∈(S j).pend,BI P nt ops H aC S j p
 bm:∀x∈(S j).mats,BI P nt ops H aC S j x.1/\MI P nt ops aC x.1 x.2
theorem uJ {ρ:Operand->Option AV}{op:AOp}{ob:bv}{f:Nat->AV}(h:allocOf ρ op=some (ob,f)):(ob.a9=true/\clsOf op=.dalloc)\/(ob=.map []/\clsOf op=.dmap):=by
 unfold allocOf at h
 (repeat' split at h)<;>first | (cases h;exact .inl ⟨rfl,rfl⟩) | (cases h;exact .inr ⟨rfl,rfl⟩) | cases h
variable (T:TR P ih nt ops e0 ds H I W S)
include T
theorem TR.pi {j:Nat}(hj:j<=ops.size):PI P nt ops H I.aC S j:=by
 induction j with
 | zero=>exact⟨by rw[T.s0];simp,by rw[T.s0];simp,by rw[T.s0];simp⟩
 | succ j vA=>
  obtain⟨o,ho⟩:=T.op hj
  obtain⟨d,_,hs,_⟩:=T.step j o ho
  have ip:=vA<|by omega
  have lq:=T.j<|show j<=ops.size by omega
  have PQ:=T.cG<|show j<=ops.size by omega
  have same:∀s',(S<|j+1)=s'->s'.pend=(S j).pend->s'.mats=(S j).mats->PI P nt ops H I.aC S (j+1):=by
   intro s' hs h1 h2
   refine⟨by rw[hs,h1,h2];exact ip.nd,?_,?_⟩
   ·rw[hs,h1];exactλp hp=>(ip.bp p hp).mono (by omega)
   ·rw[hs,h2];exactλx hx=>⟨(ip.bm x hx).1.mono (by omega),(ip.bm x hx).2⟩
  generalize hS:S (j+1)=s' at hs
  cases hs
  case skip hw hc k hk=>grind
  case jm hw hc=>grind
  case pure hw hc v H1 ha=>grind
  case read hw hc a bG Hx hx v H1 ha aO hl=>grind
  case chain hw hc a bG pend mats H1 d8 v H2 hop=>
   obtain⟨f1,f2,f3,f4,f5,f6⟩:=settle_ok d8
   refine⟨?_,?_,?_⟩
   ·rw[hS]
    refine f6.nodup_iff.2 ?_
    simpa using ip.nd
   ·rw[hS]
    intro p hp
    have:=(f1 p).1 hp
    simp at this
    exact(ip.bp p this.1).mono (by omega)
   ·rw[hS]
    intro x hx
    rcases(f2 x).1 hx with h|⟨p,hp,hb,rfl⟩
    ·exact⟨(ip.bm x h).1.mono (by omega),(ip.bm x h).2⟩
    ·refine⟨(ip.bp p hp).mono (by omega),j,a,?_,hj,?_,by grind,hb,f3 p hp hb⟩
     ·rw[cJ ho,hc]
     ·exact T.vR<|by omega
  case alloc hw hc ob f ha=>
   have aeg:=uJ ha
   refine⟨?_,?_,?_⟩
   ·rw[hS]
    simp only[List.map_cons,List.cons_append,List.nodup_cons]
    refine⟨?_,ip.nd⟩
    rw[lq]
    intro hm
    rcases List.mem_append.1 hm with hm|hm
    ·obtain⟨p,hp,he⟩:=List.mem_map.1 hm
     have:=(ip.bp p hp).lt;omega
    ·obtain⟨p,hp,he⟩:=List.mem_map.1 hm
     have:=(ip.bm p hp).1.lt;omega
   ·rw[hS]
    intro p hp
    rcases List.mem_cons.1 hp with rfl|hp
    ·refine⟨by simp[lq],?_,?_,⟨o,ob,f,by grind,by simp only[lq];exact hw,by simp only[lq];exact ha,?_⟩,?_,List.Pairwise.nil,by simp⟩
     ·simp only[lq]
      rw[F8 ho]
      rcases hc with hc|hc<;>rw[hc]
     ·simp only[lq];exact PQ
     ·rcases aeg with⟨h1,_⟩ | ⟨h1,_⟩
      ·exact .inl ⟨h1,rfl,rfl⟩
      ·exact .inr ⟨h1,h1⟩
     ·intro q
      simp only[nM]
      simp
    ·exact(ip.bp p hp).mono (by omega)
   ·rw[hS]
    exactλx hx=>⟨(ip.bm x hx).1.mono (by omega),(ip.bm x hx).2⟩
  case ins hw hc a bG l kk m k v hop b kv vv hm hk hv pend hi=>
   obtain⟨f1,f2,f3,f4,f5⟩:=insPend_ok hi
   refine⟨?_,?_,?_⟩
   ·rw[hS]
    simp only[f5]
    have hp:(((S j).pend.map (·.i)).reverse++List.map (λx=>x.i) ([]:List aF)++(S j).mats.map (·.1.i)).Perm ((S j).pend.map (·.i)++(S j).mats.map (·.1.i)):=by
     simp only[List.map_nil,List.append_nil]
     exact List.Perm.append_right _<|List.reverse_perm _
    exact hp.nodup_iff.2 ip.nd
   ·rw[hS]
    intro p' CL
    rcases f3 p' CL with h|⟨p,hp,⟨hb,rfl⟩|⟨hb,hba,es,Sd,hlk,Gv,rfl⟩⟩
    ·cases h
    ·exact(ip.bp p' hp).mono (by omega)
    ·have lN:=ip.bp p hp
     obtain⟨o',ob,f,ho',hw',Gn,pJ⟩:=lN.al
     rw[lq]
     have hmap:ob=.map []/\p.o=.map (p.kP.map (·.2)):=by
      rcases pJ with⟨h1,h2,h3⟩|h
      ·rw[Sd]at h2;rw[<- h2]at h1;cases h1
      ·exact h
     have Us:es=p.kP.map (·.2):=by have:=hmap.2;rw[Sd]at this;exact bv.map.inj this
     have hold:=lookIn_none hlk
     refine⟨Nat.lt_of_lt_of_le lN.lt<|by omega,lN.d,lN.id,⟨o',ob,f,ho',hw',Gn,.inr ⟨hmap.1,?_⟩⟩,?_,?_,?_⟩
     ·simp only[oT,aN,Us,List.map_append,List.map_cons,List.map_nil]
     ·intro q
      simp only[oT,aN,fp,ni,Bool.or_eq_true,decide_eq_true_eq,List.mem_append,List.mem_singleton]
      rw[lN.ins q]
      constructor
      ·rintro(⟨kv',h⟩ | rfl)
       ·exact⟨kv',.inl h⟩
       ·exact⟨(kv,vv),.inr rfl⟩
      ·rintro⟨kv',h | h⟩
       ·exact .inl ⟨kv',h⟩
       ·cases h;exact .inr rfl
     ·simp only[oT,aN]
      rw[List.pairwise_append]
      refine⟨lN.pw,List.pairwise_singleton _ _,?_⟩
      intro x hx y hy
      rw[List.mem_singleton]at hy
      subst hy
      refine⟨(lN.at_ x hx).1,kk,Gv,hold x.2 ?_⟩
      rw[Us]
      exact List.mem_map_of_mem hx
     ·intro x hx
      simp only[oT,aN,List.mem_append,List.mem_singleton]at hx |-
      rcases hx with hx|rfl
      ·have:=lN.at_ x hx
       exact⟨by omega,this.2⟩
      ·refine⟨by omega,⟨o,l,kk,m,k,v,ho,hw,hop,hc,by rw[hb];exact hm,hk,hv⟩,a,by rw[<- lq];exact bG,hba⟩
   ·rw[hS]
    exactλx hx=>⟨(ip.bm x hx).1.mono (by omega),(ip.bm x hx).2⟩
end
end Go.Ev
namespace Go.Ev
section
variable {X X':Pt}{w0:World}{g:G}{H H':Heap}{w:World}
theorem HR.newAt (h:HR X w0 g H w){id:Nat}(hid:X.ids id)(hX:X'.iK=X.iK)(CB:∀b,X'.ids b->X.ids b/\b≠id)(o:bv)(ob:Obj)(d:Gd)(hd:d.b=w.heap.size)
  (hn:∀g',G.le g g'->g' id=some d->BR g' (some ob) o d) (hr:d.ro=none:=by rfl):G.le g (g.put id d)/\HR X' w0 (g.put id d) (H.put id o) (w.alloc ob):=by
 obtain⟨hlt,lr⟩:=h.hole id hid
 have hle:=G.vO g id d lr
 have hHn:H.get id=none:=by
  cases hg:H.get id with
  | none=>rfl
  | some o=>obtain⟨d',hd',_⟩:=h.obj id o hg;grind
 refine⟨hle,⟨?_,?_,?_,?_,?_,?_,?_,?_,λk t=>by rw[show X'.iK=X.iK from hX];exact h.down k t,?_⟩⟩
 ·intro b o' hb
  rw[Heap.aR]at hb
  split at hb
  ·rename_i e;subst e;cases hb
   exact⟨d,G.bz _ _ _,by rw[hd,heap_alloc_new];exact hn _ hle<|G.bz _ _ _⟩
  ·rename_i e
   obtain⟨d',hd',ho⟩:=h.obj b o' hb
   refine⟨d',hle _ _ hd',?_⟩
   rw[heap_alloc_old w ob d'.b (h.lt hb hd')]
   exact ho.mono hle
 ·intro b b' o1 o2 d1 d2 hb hb' h1 h2 e
  rw[Heap.aR]at hb hb'
  split at hb
  ·rename_i e1
   split at hb'
   ·grind
   ·rename_i e2
    rw[G.cM _ _ e2]at h2
    subst e1
    rw[G.bz]at h1;cases h1
    have:=h.lt hb' h2
    have:=e.1
    omega
  ·rename_i e1
   rw[G.cM _ _ e1]at h1
   split at hb'
   ·rename_i e2
    subst e2
    rw[G.bz]at h2;cases h2
    have:=h.lt hb h1
    have:=e.1
    omega
   ·rename_i e2
    rw[G.cM _ _ e2]at h2
    exact h.inj _ _ _ _ _ _ hb hb' h1 h2 e
 ·intro b hb
  have hb:H.next<=b:=hb
  rw[G.cM _ _ (by omega)]
  exact h.fresh b hb
 ·intro b o' d' hb hw hg hx
  rw[show X'.iK=X.iK from hX]at hx
  rw[Heap.aR]at hb
  split at hb
  ·rename_i e;subst e
   rw[G.bz]at hg;cases hg
   have:=(h.keep _ _ hx).1
   have:=h.size
   omega
  ·rename_i e
   rw[G.cM _ _ e]at hg
   exact h.eV b o' d' hb hw hg hx
 ·intro k t hk
  rw[show X'.iK=X.iK from hX]at hk
  obtain⟨h1,h2⟩:=h.keep k t hk
  exact⟨h1,by rw[heap_alloc_old w ob k (Nat.lt_of_lt_of_le h1 h.size)];exact h2⟩
 ·simp;have:=h.size;omega
 ·exact h.os
 ·intro b hb
  obtain⟨h1,h2⟩:=CB b hb
  obtain⟨h3,h4⟩:=h.hole b h1
  exact⟨h3,by rw[G.cM _ _ (Ne.symm h2)];exact h4⟩
 ·intro b o' d' hb hw hg
  rw[Heap.aR]at hb
  split at hb
  ·rename_i e;subst e
   rw[G.bz]at hg;cases hg
   exact hr
  ·rename_i e
   rw[G.cM _ _ e]at hg
   exact h.ot b o' d' hb hw hg
theorem HR.weaken (h:HR X w0 g H w)(hX:X'.iK=X.iK)(CB:∀b,X'.ids b->X.ids b):HR X' w0 g H w:=
 ⟨h.obj,h.inj,h.fresh,λb o d hb hw hg hx=>h.eV b o d hb hw hg<|by rwa [hX]at hx,λk t hk=>h.keep k t<|by rwa [hX]at hk,h.size,h.os,λb hb=>h.hole b<|CB b hb,λk t=>by rw[hX];exact h.down k t,h.ot⟩
theorem MR.perm {es es':List (AV × AV)}{cs:List MapEntry}(h:MR g es cs)(hp:es'.Perm es):MR g es' cs:=by
 have idx:∀(i:Nat)(x:AV × AV),es'[i]?=some x->∃j,es[j]?=some x:=λi x hi=>by
  have:=hp.subset<|List.mem_of_getElem? hi
  exact List.getElem?_of_mem this
 have idx':∀(i:Nat)(x:AV × AV),es[i]?=some x->∃j,es'[j]?=some x:=λi x hi=>by
  have:=hp.symm.subset<|List.mem_of_getElem? hi
  exact List.getElem?_of_mem this
 have pw:es.Pairwise (λx y=>keyV x.1≠keyV y.1):=by
  rw[List.pairwise_iff_getElem]
  intro i j hi hj hij
  exact h.keys i j es[i].1 es[j].1 es[i].2 es[j].2 (List.getElem?_eq_getElem hi) (List.getElem?_eq_getElem hj) (by omega)
 have ZB:es'.Pairwise (λx y=>keyV x.1≠keyV y.1):=(hp.pairwise_iff<|λh=>Ne.symm h).2 pw
 refine⟨by rw[h.len,hp.length_eq],?_,?_,h.ck,?_⟩
 ·intro i k v hi
  obtain⟨j,hj⟩:=idx i _ hi
  exact h.get j k v hj
 ·intro j c hj
  obtain⟨i,k,v,hi,h1,h2⟩:=h.back j c hj
  grind
 ·intro i j k k' v v' hi hj hne
  rw[List.pairwise_iff_getElem]at ZB
  grind
def Alike (o o':bv):Prop:=o'=o\/∃es es',o=.map es/\o'=.map es'/\es.Perm es'
theorem BR.alike {ob:Option Obj}{o o':bv}{d:Gd}(h:BR g ob o' d)(ha:Alike o o'):BR g ob o d:=by
 rcases ha with rfl|⟨es,es',rfl,rfl,hp⟩
 ·exact h
 ·obtain⟨cs,cl,h1,h2⟩:=h
  exact⟨cs,cl,h1,h2.perm hp⟩
theorem HR.RQ (h:HR X w0 g H w)(hs:∀i o,H'.get i=some o->∃o',H.get i=some o'/\Alike o o')(hn:H'.next=H.next):HR X w0 g H' w:=by
 refine⟨?_,?_,λb hb=>h.fresh b<|hn▸hb,?_,h.keep,h.size,h.os,λb hb=>by rw[hn];exact h.hole b hb,h.down,?_⟩
 ·intro i o hi
  obtain⟨o',h1,h2⟩:=hs i o hi
  obtain⟨d,hd,hb⟩:=h.obj i o' h1
  exact⟨d,hd,hb.alike h2⟩
 ·intro i j o o' d d' hi hj
  obtain⟨u,h1,_⟩:=hs i o hi
  obtain⟨u',h2,_⟩:=hs j o' hj
  exact h.inj i j u u' d d' h1 h2
 ·intro i o d hi hw
  obtain⟨u,h1,_⟩:=hs i o hi
  exact h.eV i u d h1 rfl
 ·intro i o d hi hw
  obtain⟨u,h1,h2⟩:=hs i o hi
  refine h.ot i u d h1 ?_
  rcases h2 with rfl|⟨es,es',rfl,rfl,_⟩
  ·exact hw
  ·rfl
noncomputable def aside (H:Heap)(l:List (Nat × bv)):Heap:=l.foldl (λH x=>H.put x.1 x.2) H
theorem ko:∀(l:List (Nat × bv))(H:Heap),(aside H l).next=H.next:=by
 intro l
 induction l with
 | nil=>intro H;rfl
 | cons x l ih=>intro H;exact ih<|H.put x.1 x.2
theorem mH:∀(l:List (Nat × bv))(H:Heap)(b:Nat),(∀x∈l,x.1≠b)->(aside H l).get b=H.get b:=by
 intro l
 induction l with
 | nil=>intro H b _;rfl
 | cons x l ih=>
  intro H b h
  have:=ih (H.put x.1 x.2) b<|λy hy=>h y<|by simp[hy]
  show(aside (H.put x.1 x.2) l).get b=_
  rw[this,Heap.aR,if_neg<|h x<|by simp]
theorem yK:∀(l:List (Nat × bv))(H:Heap)(b:Nat)(o:bv),(aside H l).get b=some o->(b,o)∈l\/H.get b=some o:=by
 intro l
 induction l with
 | nil=>intro H b o h;exact .inr h
 | cons x l ih=>
  intro H b o h
  rcases ih (H.put x.1 x.2) b o h with h|h
  ·grind
  ·rw[Heap.aR]at h
   split at h
   ·grind
   grind
theorem yL:∀(l:List (Nat × bv))(H:Heap)(b:Nat)(o:bv),(∀o',(b,o')∈l->o'=o)->(b,o)∈l->(aside H l).get b=some o:=by
 intro l
 induction l with
 | nil=>grind
 | cons x l ih=>
  intro H b o hu h
  show(aside (H.put x.1 x.2) l).get b=_
  by_cases hin:(b,o)∈l
  ·grind
  ·rcases List.mem_cons.1 h with rfl | h
   ·rw[mH l _ b (λy hy e=>hin (by
     grind)),Heap.aR,if_pos rfl]
   grind
theorem HR.beside {K:Heap}{w1:World}{g':G}(hK:HR X w0 g K w){l:List (Nat × bv)}(hl:∀x∈l,K.get x.1=some x.2)(hu:∀b o o',(b,o)∈l->(b,o')∈l->o=o')(hg:G.le g g')
  (h:HR ⟨λb t=>X.iK b t\/∃x∈l,∃d,g x.1=some d/\d.b=b/\(t=0\/d.tag=0\/d.tag=t),X.ids⟩ w g' H w1):HR X w0 g' (aside H l) w1/\(∀b o,H.get b=some o->(aside H l).get b=some o)/\∀x∈l,(aside H l).get x.1=some x.2:=by
 have hmem:∀x∈l,(aside H l).get x.1=some x.2:=λx hx=>yL l H x.1 x.2 (λo' ho'=>(hu _ _ _ hx ho').symm) hx
 have hH:∀x∈l,H.get x.1=none:=by
  intro x hx
  cases hg':H.get x.1 with
  | none=>rfl
  | some o=>
   obtain⟨d,hd,_⟩:=hK.obj _ _<|hl x hx
   exact absurd (.inr ⟨x,hx,d,hd,rfl,.inr<|.inr rfl⟩)<|h.eV _ _ d hg' rfl<|hg _ _ hd
 have hold:∀b o,H.get b=some o->(aside H l).get b=some o:=by
  intro b o hb
  rw[mH l H b (λx hx e=>by grind)]
  exact hb
 have zA:∀x∈l,∃d,g x.1=some d/\g' x.1=some d/\w1.heap[d.b]?=w.heap[d.b]?/\BR g' w1.heap[d.b]? x.2 d:=by
  intro x hx
  obtain⟨d,hd,hb⟩:=hK.obj _ _<|hl x hx
  have:=(h.keep d.b d.tag<|.inr ⟨x,hx,d,hd,rfl,.inr<|.inr rfl⟩).2
  exact⟨d,hd,hg _ _ hd,this,by rw[this];exact hb.mono hg⟩
 have pJ:∀b o,(aside H l).get b=some o->(b,o)∈l\/H.get b=some o:=λb o hb=>yK l H b o hb
 refine⟨⟨?_,?_,?_,?_,?_,?_,?_,?_,hK.down,?_⟩,hold,hmem⟩
 ·intro b o hb
  rcases pJ b o hb with hb|hb
  ·grind
  ·exact h.obj b o hb
 ·intro b b' o o' d d' hb hb' hd hd' he
  rcases pJ b o hb with h1|h1<;>rcases pJ b' o' hb' with h2|h2
  ·obtain⟨e,e1,e2,_⟩:=zA _ h1
   obtain⟨f,f1,f2,_⟩:=zA _ h2
   rw[hd]at e2;cases e2
   rw[hd']at f2;cases f2
   exact hK.inj b b' o o' d d' (hl _ h1) (hl _ h2) e1 f1 he
  ·obtain⟨e,e1,e2,_⟩:=zA _ h1
   rw[hd]at e2;cases e2
   exact absurd (.inr ⟨(b,o),h1,d,e1,he.1,or_left_comm.1 he.2⟩)<|h.eV b' o' d' h2 rfl hd'
  ·obtain⟨e,e1,e2,_⟩:=zA _ h2
   rw[hd']at e2;cases e2
   exact absurd (.inr ⟨(b',o'),h2,d',e1,he.1.symm,he.2.imp id<|Or.imp id Eq.symm⟩)<|h.eV b o d h1 rfl hd
  ·exact h.inj b b' o o' d d' h1 h2 hd hd' he
 ·intro b hb
  rw[ko]at hb
  exact h.fresh b hb
 ·intro b o d hb hw hd hx
  rcases pJ b o hb with h1|h1
  ·obtain⟨e,e1,e2,_⟩:=zA _ h1
   rw[hd]at e2;cases e2
   exact hK.eV b o d (hl _ h1) rfl e1 hx
  ·exact h.eV b o d h1 rfl hd<|.inl hx
 ·intro k t hk
  obtain⟨h1,h2⟩:=h.keep k t<|.inl hk
  obtain⟨h3,h4⟩:=hK.keep k t hk
  grind
 ·exact Nat.le_trans hK.size h.size
 ·obtain⟨h1,h2⟩:=h.os
  obtain⟨h3,h4⟩:=hK.os
  grind
 ·intro b hb
  rw[ko]
  exact h.hole b hb
 ·intro b o d hb hw hd
  rcases pJ b o hb with h1|h1
  ·obtain⟨e,e1,e2,_⟩:=zA _ h1
   rw[hd]at e2;cases e2
   exact hK.ot b o d (hl _ h1) hw e1
  ·exact h.ot b o d h1 hw hd
theorem HR.part {K:Heap}(hK:HR X w0 g K w)(hs:∀i o,H.get i=some o->∃o',K.get i=some o'/\Alike o o')(hn:H.next=K.next){l:List (Nat × bv)}(hl:∀x∈l,K.get x.1=some x.2)(hd:∀x∈l,H.get x.1=none) :
  HR ⟨λb t=>X.iK b t\/∃x∈l,∃d,g x.1=some d/\d.b=b/\(t=0\/d.tag=0\/d.tag=t),X.ids⟩ w g H w:=by
 have h1:=hK.RQ hs hn
 refine⟨h1.obj,h1.inj,h1.fresh,?_,?_,Nat.le_refl _,⟨rfl,rfl⟩,h1.hole,λk t hk=>hk.elim (λh=>.inl<|hK.down k t h)<|λ⟨x,hx,d,hd,he,_⟩=>.inr ⟨x,hx,d,hd,he,.inl rfl⟩,h1.ot⟩
 ·intro b o d hb hw hgd hx
  rcases hx with hx|⟨x,hx,d',hd',he,ht⟩
  ·exact h1.eV b o d hb hw hgd hx
  ·obtain⟨o',ho',_⟩:=hs b o hb
   have:=hK.inj b x.1 o' x.2 d d' ho' (hl x hx) hgd hd' ⟨he.symm,ht.imp id<|Or.imp id Eq.symm⟩
   grind
 ·intro k t hk
  refine⟨?_,rfl⟩
  rcases hk with hk|⟨x,hx,d,hd',he,_⟩
  ·exact Nat.lt_of_lt_of_le (hK.keep k t hk).1 hK.size
  ·have:=hK.lt (hl x hx) hd'
   omega
end
end Go.Ev
namespace Go.Ev
def Ext (p p':aF):Prop:=p'.i=p.i/\p'.id=p.id/\(p.o.a9=true->p'.o=p.o)/\p.kP <+: p'.kP
theorem Ext.refl (p:aF):Ext p p:=⟨rfl,rfl,λ_=>rfl,List.prefix_refl _⟩
theorem Ext.trans {p q r:aF}(h:Ext p q)(h':Ext q r):Ext p r:=
 ⟨h'.1.trans h.1,h'.2.1.trans h.2.1,λhr=>by rw[h'.2.2.1 (by rw[h.2.2.1 hr];exact hr),h.2.2.1 hr],h.2.2.2.trans h'.2.2.2⟩
theorem pm {α β:Type}{f:α->β}:∀{l:List α},(l.map f).Nodup->∀{x y:α},x∈l->y∈l->f x=f y->x=y:=by
 intro l
 induction l with
 | nil=>grind
 | cons a l ih=>
  grind
section
variable {P:Program}{ih:fP}{rd:Option Nat}{nt:Nat}{ops:Array Oper}{e0:Tr AV}{ds:List cD}{H:Heap}{I:iM}{W:Tr Nat}{S:Nat->DS}
def fG (P:Program)(nt:Nat)(ops:Array Oper)(S:Nat->DS)(p:aF)(m:Nat):Prop:=
 (p∈(S ops.size).pend/\m=cf (isChain P nt ops) 0 ops.size+1)\/(p,m)∈(S ops.size).mats
noncomputable def jF (P:Program)(nt:Nat)(ops:Array Oper)(L:Array Bool):Nat:=cf (λi=>isChain P nt ops i&&L.getD i false) 0 ops.size
noncomputable def envL (ops:Array Oper)(W:Tr Nat)(S:Nat->DS)(e0:Tr AV)(L:Array Bool)(t:Nat):Option AV:=
 match W.get t with
 | some i=>if L.getD i false=true then(S ops.size).e.get t else e0.get t
 | none=>e0.get t
def XL (P:Program)(nt:Nat)(ops:Array Oper)(H:Heap)(X:Pt)(L:Array Bool):Pt:=
 ⟨X.iK,λb=>X.ids b\/∃i,i<ops.size/\isD P nt ops i=true/\L.getD i false=false/\b=H.next+cf (isD P nt ops) 0 i⟩
def aax (L:Array Bool)(p:aF):List (AV × AV):=(p.kP.filter (λx=>L.getD x.1 false)).map (·.2)
def Cont (L:Array Bool)(p:aF)(o:bv):Prop:=
 (p.o.a9=true/\o=p.o)\/(p.o=.map (p.kP.map (·.2))/\∃es,o=.map es/\es.Perm (aax L p))
variable (T:TR P ih nt ops e0 ds H I W S)
include T
theorem TR.z7 {j:Nat}(hj:j<ops.size){x:aF × Nat}(hx:x∈(S j).mats):x∈(S (j+1)).mats:=by
 obtain⟨o,ho⟩:=T.op hj
 obtain⟨d,_,hs,_⟩:=T.step j o ho
 generalize S (j+1)=s' at hs |-
 cases hs
 case chain hw hc a bG pend mats H1 d8 v H2 hop=>
  obtain⟨f1,f2,_⟩:=settle_ok d8
  grind
 all_goals exact hx
theorem TR.Ak {j:Nat}(hj:j<ops.size){p:aF}(hp:p∈(S j).pend):(∃p'∈(S (j+1)).pend,Ext p p')\/(p,cf (isChain P nt ops) 0 j+1)∈(S (j+1)).mats:=by
 obtain⟨o,ho⟩:=T.op hj
 obtain⟨d,_,hs,_⟩:=T.step j o ho
 generalize S (j+1)=s' at hs |-
 cases hs
 case chain hw hc a bG pend mats H1 d8 v H2 hop=>
  obtain⟨f1,f2,_⟩:=settle_ok d8
  cases hb:bit a p.i with
  | false=>exact .inl ⟨p,(f1 p).2 (.inr ⟨hp,hb⟩),Ext.refl p⟩
  | true=>
   refine .inr<|(f2 _).2 (.inr ⟨p,hp,hb,?_⟩)
   rw[T.vR (by omega)]
 case alloc hw hc ob f ha=>exact .inl ⟨p,by simp[hp],Ext.refl p⟩
 case ins hw hc a bG l kk m k v hop b kv vv hm hk hv pend hi=>
  obtain⟨f1,f2,f3,f4,f5⟩:=insPend_ok hi
  rcases f2 p hp with⟨h1,h2⟩|⟨h1,h2,es,h3,h4,h5,h6⟩
  ·exact .inl ⟨p,h2,Ext.refl p⟩
  ·exact .inl ⟨_,h6,show Ext p (oT kv vv (S j).j p es) from⟨rfl,rfl,(λhr=>by rw[h3]at hr;cases hr),by simp[oT,aN]⟩⟩
 all_goals exact .inl ⟨p,hp,Ext.refl p⟩
theorem TR.rF {i j:Nat}(hij:i<=j)(hj:j<=ops.size){x:aF × Nat}(hx:x∈(S i).mats):x∈(S j).mats:=by
 induction j with
 | zero=>grind
 | succ j vA=>
  by_cases h:i=j+1
  ·grind
  ·exact T.z7 hj<|vA (by omega)<|by omega
theorem TR.yc {j:Nat}(hj:j<=ops.size){p:aF}(hp:p∈(S j).pend):∃p' m,fG P nt ops S p' m/\Ext p p'/\cf (isChain P nt ops) 0 j<m:=by
 obtain⟨k,hk⟩:∃k,ops.size=j+k:=⟨ops.size-j,by omega⟩
 induction k generalizing j p with
 | zero=>
  have:j=ops.size:=by omega
  subst this
  exact⟨p,_,.inl ⟨hp,rfl⟩,Ext.refl p,by omega⟩
 | succ k Zh=>
  rcases T.Ak (show j<ops.size by omega) hp with⟨p1,hp1,he⟩|hm
  ·obtain⟨p',m,h1,h2,h3⟩:=Zh (show j+1<=ops.size by omega) hp1 (by omega)
   have:cf (isChain P nt ops) 0 j<=cf (isChain P nt ops) 0 (j+1):=Tt<|by omega
   exact⟨p',m,h1,he.trans h2,by omega⟩
  ·exact⟨p,_,.inr<|T.rF (by omega) (Nat.le_refl _) hm,Ext.refl p,by omega⟩
theorem TR.bl {p:aF}{m:Nat}(h:fG P nt ops S p m):BI P nt ops H I.aC S ops.size p:=by
 have:=T.pi<|Nat.le_refl _
 rcases h with⟨h,_⟩|h
 ·exact this.bp p h
 ·exact(this.bm _ h).1
theorem TR.uniq {p p':aF}{m m':Nat}(h:fG P nt ops S p m)(h':fG P nt ops S p' m')(he:p.i=p'.i):p=p'/\m=m':=by
 have tj:=(T.pi<|Nat.le_refl _).nd
 have hl:((((S ops.size).pend.map λp=>(p,cf (isChain P nt ops) 0 ops.size+1))++(S ops.size).mats).map (λx:aF × Nat=>x.1.i)).Nodup:=by
  grind
 have mem:∀{p m},fG P nt ops S p m->(p,m)∈((S ops.size).pend.map λp=>(p,cf (isChain P nt ops) 0 ops.size+1))++(S ops.size).mats:=by
  intro p m h
  rcases h with⟨h,rfl⟩|h
  ·grind
  grind
 have:=pm hl (mem h) (mem h') he
 grind
theorem TR.yy {p p':aF}{m m':Nat}(h:fG P nt ops S p m)(h':fG P nt ops S p' m')(he:p.id=p'.id):p=p'/\m=m':=by
 refine T.uniq h h' ?_
 have h1:=T.bl h
 have h2:=T.bl h'
 rw[h1.id,h2.id]at he
 exact uX h1.d h2.d<|by omega
theorem TR.qz {j a k:Nat}(ha:I.aC.get j=some a)(hk:bit a k=true):k<j:=by
 induction j using Nat.strongRecOn generalizing a k with
 | _ j Zg=>
  obtain⟨o,ho⟩:=T.op<|T.di.aC.lt j a ha
  obtain⟨e,he,hb,hc⟩:=T.di.aC.back j a o ha ho k hk
  obtain⟨h1,h2,b,h3,h4⟩:=T.di.aC.TC j a o ha ho e he hb
  grind
structure qt (ops:Array Oper)(aC:Tr Nat)(L:Array Bool):Prop where
 size:L.size=ops.size
 closed:∀i,L.getD i false=true->∀a,aC.get i=some a->∀k,bit a k=true->L.getD k false=true
omit T in
theorem bU {L:Array Bool}{i j:Nat}(hj:j<L.size):(L.setIfInBounds j true).getD i false=if j=i then true else L.getD i false:=by
 simp only[Array.getD_eq_getD_getElem?,Array.getElem?_setIfInBounds]
 split
 ·rename_i h;subst h;simp
 ·rfl
theorem TR.ready {L:Array Bool}(hL:qt ops I.aC L){j:Nat}(hj:j∈Region.ready .any ops L) :
  ∃o a,ops[j]?=some o/\j<ops.size/\L.getD j false=false/\I.aC.get j=some a/\(∀k,bit a k=true->L.getD k false=true)/\(∀i b,L.getD i false=true->I.aC.get i=some b->bit b j=false)/\qt ops I.aC (L.setIfInBounds j true):=by
 obtain⟨hun,o,ho,hall⟩:=mem_ready.1 hj
 have PM:=(Array.getElem?_eq_some_iff.1 ho).1
 obtain⟨a,ha⟩:=T.di.aC.all j PM
 have er:L.getD j false=false:=by
  grind
 have bG:∀k,bit a k=true->L.getD k false=true:=by
  intro k hk
  obtain⟨e,he,hb,hc⟩:=T.di.aC.back j a o ha ho k hk
  have sj:=hall e (by simpa using he) hb
  rcases hc with rfl|⟨b,hb',hk'⟩
  ·exact sj
  ·exact hL.closed e.on sj b hb' k hk'
 refine⟨o,a,ho,PM,er,ha,bG,?_,by simpa using hL.size,?_⟩
 ·intro i b hi hb
  cases hbj:bit b j with
  | false=>rfl
  | true=>rw[hL.closed i hi b hb j hbj]at er;cases er
 ·intro i hi b hb k hk
  have PL:j<L.size:=by grind
  rw[bU PL]at hi |-
  split at hi
  ·grind
  ·rw[hL.closed i hi b hb k hk];simp
theorem TR.uI {L:Array Bool}(hL:qt ops I.aC L)(h:Region.ready .any ops L=[]):∀j,j<ops.size->L.getD j false=true:=by
 intro j
 induction j using Nat.strongRecOn with
 | _ j Zg=>
  intro hj
  cases hl:L.getD j false with
  | true=>rfl
  | false=>
   exfalso
   obtain⟨o,ho⟩:=T.op hj
   obtain⟨a,ha⟩:=T.di.aC.all j hj
   have:j∈Region.ready .any ops L:=by
    refine mem_ready.2 ⟨?_,o,ho,?_⟩
    ·have PL:j<L.size:=by rw[hL.size];exact hj
     grind
    ·intro e he hb
     obtain⟨h1,_⟩:=T.di.aC.TC j a o ha ho e (by simpa using he) hb
     grind
   grind
theorem TR.pP {L:Array Bool}(hL:qt ops I.aC L){j:Nat}(hj:j<ops.size)(er:L.getD j false=false)(hc:isChain P nt ops j=true):jF P nt ops L<=cf (isChain P nt ops) 0 j:=by
 have:jF P nt ops L<=cf (λi=>isChain P nt ops i&&decide (i<j)) 0 ops.size:=by
  refine dG _ _ ?_
  intro i _ hi hp
  simp only[Bool.and_eq_true,decide_eq_true_eq]at hp |-
  refine⟨hp.1,?_⟩
  rcases Nat.lt_trichotomy i j with h|h|h
  ·exact h
  ·grind
  ·obtain⟨a,ha,hall⟩:=T.di.chain i hp.1
   have:=hL.closed i hp.2 a ha j<|hall j h hc
   grind
 refine Nat.le_trans this ?_
 obtain⟨k,hk⟩:∃k,ops.size=j+k:=⟨ops.size-j,by omega⟩
 rw[hk,lU]
 have h1:cf (λi=>isChain P nt ops i&&decide (i<j)) (0+j) k=0:=by
  have:cf (λi=>isChain P nt ops i&&decide (i<j)) (0+j) k<=cf (λ_=>false) (0+j) k:=dG _ _<|λi h1 _ h=>by grind
  have z:∀n i,cf (λ_=>false) i n=0:=by
   intro n
   induction n with
   | zero=>intro i;rfl
   | succ n ih=>intro i;simp[cf,ih]
  grind
 rw[h1]
 exact dG _ _<|λi _ _ h=>by grind
theorem TR.pQ {L:Array Bool}(hL:qt ops I.aC L){j a:Nat}(hj:j<ops.size)(er:L.getD j false=false)(hc:isChain P nt ops j=true)(ha:I.aC.get j=some a)(bG:∀k,bit a k=true->L.getD k false=true) :
  jF P nt ops L=cf (isChain P nt ops) 0 j:=by
 refine Nat.le_antisymm (T.pP hL hj er hc) ?_
 obtain⟨k,hk⟩:∃k,ops.size=j+k:=⟨ops.size-j,by omega⟩
 unfold jF
 rw[hk,lU]
 have:cf (isChain P nt ops) 0 j<=cf (λi=>isChain P nt ops i&&L.getD i false) 0 j:=by
  refine dG _ _ ?_
  intro i _ hi hci
  obtain⟨a',Gn,hall⟩:=T.di.chain j hc
  grind
 omega
omit T in
theorem gf {L:Array Bool}{j:Nat}(hs:L.size=ops.size)(hj:j<ops.size)(er:L.getD j false=false):jF P nt ops (L.setIfInBounds j true)=jF P nt ops L+if isChain P nt ops j then 1 else 0:=by
 unfold jF
 cases hc:isChain P nt ops j with
 | true=>
  simp only[if_true]
  refine pD j (by simp[er]) (by rw[bU (by omega)];simp[hc]) ?_ _ _ (Nat.zero_le _)<|by omega
  intro m hm
  rw[bU (by omega),if_neg<|Ne.symm hm]
 | false=>
  simp only[Bool.false_eq_true,if_false,Nat.add_zero]
  refine kY _ _ ?_
  intro i _ _
  rw[bU (by omega)]
  split
  ·rename_i e;subst e;simp[hc]
  ·rfl
theorem TR.C6 {L:Array Bool}:jF P nt ops L<=cf (isChain P nt ops) 0 ops.size:=by
 have _:=T
 exact dG _ _<|λi _ _ h=>by grind
theorem TR.I8 {L:Array Bool}(h:∀j,j<ops.size->L.getD j false=true):jF P nt ops L=cf (isChain P nt ops) 0 ops.size:=
 by
  have _:=T
  exact kY _ _<|λi _ hi=>by grind
theorem TR.FV {L:Array Bool}(hL:qt ops I.aC L){p:aF}{m j:Nat}(h:fG P nt ops S p m)(hp:p.i=j\/bit p.ins j=true)(er:L.getD j false=false):jF P nt ops L<m:=by
 rcases h with⟨h,rfl⟩|h
 ·have:jF P nt ops L<=_:=T.C6
  omega
 ·obtain⟨c,a,hc,hcs,rfl,ha,hb,hi⟩:=((T.pi<|Nat.le_refl _).bm _ h).2
  have hLc:L.getD c false=false:=by
   cases hl:L.getD c false with
   | false=>rfl
   | true=>
    have:L.getD j false=true:=hL.closed c hl a ha j (by
     grind)
    grind
  have:=T.pP hL hcs hLc hc
  omega
end
end Go.Ev
namespace Go.Ev
section
variable {P:Program}{ih:fP}{rd r:Option Nat}{nt:Nat}{ops:Array Oper}{e0:Tr AV}{ds:List cD}{H:Heap}{I:iM}{W:Tr Nat}{S:Nat->DS}
variable {X:Pt}{w0:World}{g0 g:G}{K:Heap}{w:World}{a:Act}{L:Array Bool}
def su (nt:Nat)(ops:Array Oper)(W:Tr Nat)(S:Nat->DS)(e0:Tr AV)(g:G)(L:Array Bool)(tm:Array Value):Prop:=
 tm.size=nt/\∀t v,envL ops W S e0 L t=some v->∃x,tm[t]?=some x/\VR g v x
structure uF (P:Program)(nt:Nat)(ops:Array Oper)(e0:Tr AV)(ds:List cD)(H:Heap)(W:Tr Nat)(S:Nat->DS)(X:Pt)(w0:World)(g0:G)(L:Array Bool)(g:G)(K:Heap)(a:Act)(w:World):Prop where
 le:G.le g0 g
 env:su nt ops W S e0 g L a.tmps
 defs:DR g ds a.defers
 heap:HR (XL P nt ops H X L) w0 g K w
 at_:∃Hk,R4 S ops.size (jF P nt ops L)=some Hk/\K.next=Hk.next/\(∀b o,Hk.get b=some o->K.get b=some o)/\∀p m,fG P nt ops S p m->jF P nt ops L<m->Hk.get p.id=none
 pend:∀p m,fG P nt ops S p m->L.getD p.i false=true->jF P nt ops L<m->∃o,K.get p.id=some o/\Cont L p o
def Inv (P:Program)(nt:Nat)(ops:Array Oper)(e0:Tr AV)(ds:List cD)(H:Heap)(aC W:Tr Nat)(S:Nat->DS)(X:Pt)(w0:World)(g0:G)(L:Array Bool)(a:Act)(w:World):Prop:=
 qt ops aC L/\∃g K,uF P nt ops e0 ds H W S X w0 g0 L g K a w
variable (T:TR P ih nt ops e0 ds H I W S)
noncomputable def RL (ops:Array Oper)(W:Tr Nat)(S:Nat->DS)(e0:Tr AV)(L:Array Bool)(x:Operand):Option AV:=
 match x with
 | .tmp t=>envL ops W S e0 L t
 | x=>bL .lf x
theorem rV (h:su nt ops W S e0 g L a.tmps):cm g (RL ops W S e0 L) a.eval:=by
 intro x v hx
 cases x with
 | tmp t=>
  obtain⟨y,hy,hv⟩:=h.2 t v hx
  simpa[Act.eval,Array.getD_eq_getD_getElem?,hy]using hv
 | const c=>exact mo (e:=.lf) (λt v h=>by simp[Tr.get]at h) (.const c) v hx
 | global i=>exact mo (e:=.lf) (λt v h=>by simp[Tr.get]at h) (.global i) v hx
 | func f=>exact mo (e:=.lf) (λt v h=>by simp[Tr.get]at h) (.func f) v hx
include T
theorem lI {j x:Nat}{o:Oper}(ho:ops[j]?=some o)(er:L.getD j false=false)(ha:I.aC.get j=some x)(bG:∀k,bit x k=true->L.getD k false=true)
  (hno:∀i b,L.getD i false=true->I.aC.get i=some b->bit b j=false):∀y∈(cOper P nt o).op.opers,RL ops W S e0 L y=bL (S j).e y:=by
 intro y hy
 have hj:=(Array.getElem?_eq_some_iff.1 ho).1
 cases y with
 | tmp t=>
  have ng:=(T.di.FS ho).1 t hy
  show envL ops W S e0 L t=(S j).e.get t
  unfold envL
  unfold slotOk at ng
  cases hw:W.get t with
  | none=>simp only;rw[T.qk (by omega) hw]
  | some i=>
   rw[hw]at ng
   simp only at ng |-
   split at ng
   ·rename_i he
    have he:=Nat.eq_of_beq_eq_true he
    subst he
    rw[er]
    simp only[Bool.false_eq_true,if_false]
    rw[T.jn (Nat.le_refl _) (by omega) hw]
   ·rw[ha]at ng
    split at ng
    ·rename_i x' b hx' hb
     cases hx'
     simp only[Bool.or_eq_true]at ng
     rcases ng with ng|ng
     ·rw[if_pos (bG i ng)]
      exact T.kK (T.qz ha ng) (by omega) hw
     ·have T7:L.getD i false=false:=by
       grind
      rw[T7]
      simp only[Bool.false_eq_true,if_false]
      have:=T.qz hb ng
      have:=T.di.aC.lt i b hb
      rw[T.jn (j:=j) (by omega) (by omega) hw]
    ·cases ng
 | const c=>rfl
 | global i=>rfl
 | func f=>rfl
theorem ur {j x:Nat}{o:Oper}{b:Bool}(ho:ops[j]?=some o)(ha:I.aC.get j=some x)(bG:∀k,bit x k=true->L.getD k false=true)(abU:su nt ops W S e0 g L a.tmps)(h:wanted (S j).e ops o.guard=some b) :
  Region.wanted o (yielded ops a.tmps)=b:=by
 have hj:=(Array.getElem?_eq_some_iff.1 ho).1
 have hg:=(T.di.FS ho).2
 unfold wanted at h
 unfold Region.wanted
 split at h
 ·grind
 ·rename_i k want hgd
  obtain⟨ok,x',d,hok,hx',hd,Cs,KH⟩:=hg k want hgd
  rw[ha]at hx';cases hx'
  simp only[hgd]
  rw[cY]at h
  have YK:ops.toList[k]?=some ok:=by grind
  rw[YK]at h
  simp only[hd]at h
  have hw:=(T.di.wr d k).2 ⟨ok,hok,hd⟩
  have hsame:envL ops W S e0 L d=(S j).e.get d:=by
   unfold envL
   rw[hw]
   simp only
   rw[if_pos (bG k Cs)]
   exact T.kK KH (by omega) hw
  split at h
  ·rename_i c hc
   obtain⟨y,hy,hv⟩:=abU.2 d _<|hsame.trans hc
   cases h
   have:y=.bool c:=hv
   subst this
   simp[yielded,hok,hd,hy]
  ·rename_i u hu hc
   obtain⟨y,hy,hv⟩:=abU.2 d _<|hsame.trans hc
   cases h
   have:yielded ops a.tmps k=none:=by
    unfold yielded
    simp only[hok,Option.bind_some,hd,hy]
    split
    ·rename_i c hx'
     cases hx'
     exact absurd (VR.xj hv)<|λh=>hu c h
    ·rfl
   simp[this]
  ·cases h
theorem lc {j:Nat}{o:Oper}{u:AV}{y:Value}{g':G}(hL:L.size=ops.size)(ho:ops[j]?=some o)(er:L.getD j false=false)(iL:∀t v,e0.get t=some v->t<nt)(abU:su nt ops W S e0 g L a.tmps)
  (hput:(S<|j+1).e=putO (S j).e (effDst nt o.dst) u) (hg:G.le g g') (hv:VR g' u y):su nt ops W S e0 g' (L.setIfInBounds j true) (a.put o.dst y).tmps:=by
 have hj:=(Array.getElem?_eq_some_iff.1 ho).1
 have hsz:(a.put o.dst y).tmps.size=nt:=by cases o.dst<;>simp[Act.put,abU.1]
 refine⟨hsz,λt v ht=>?_⟩
 by_cases hw:W.get t=some j
 ·obtain⟨o',ho',hd⟩:=(T.di.wr t j).1 hw
  rw[ho]at ho';cases ho'
  unfold envL at ht
  rw[hw]at ht
  simp only at ht
  rw[if_pos (by rw[bU (by omega)];simp),T.kK (j:=j+1) (by omega) (by omega) hw,hput]at ht
  rw[hd]at ht
  cases PF:effDst nt (some t) with
  | none=>
   rw[PF]at ht
   simp only[putO]at ht
   rw[T.jn (Nat.le_refl _) (by omega) hw]at ht
   have:=iL t v ht
   unfold effDst at PF
   simp only at PF
   split at PF
   ·cases PF
   ·rename_i hb
    have hb':Nat.blt t nt=true:=Nat.ble_eq_true_of_le this
    grind
  | some d=>
   obtain⟨h1,h2⟩:=lW PF
   cases h2
   rw[PF]at ht
   simp only[putO,Tr.a8]at ht
   cases ht
   refine⟨y,?_,hv⟩
   rw[hd]
   have:t<a.tmps.size:=by rw[abU.1];exact h1
   simp[Act.put,this]
 ·have hsame:envL ops W S e0 (L.setIfInBounds j true) t=envL ops W S e0 L t:=by
   unfold envL
   cases hwt:W.get t with
   | none=>rfl
   | some i=>
    simp only
    have:j≠i:=λe=>hw<|by rw[hwt,e]
    rw[bU (by omega),if_neg this]
  rw[hsame]at ht
  obtain⟨z,hz,U1⟩:=abU.2 t v ht
  refine⟨z,?_,VR.mono hg _ _ U1⟩
  cases hd:o.dst with
  | none=>simpa[Act.put]using hz
  | some d=>
   have:d≠t:=λe=>hw<|(T.di.wr t j).2 ⟨o,ho,by rw[hd,e]⟩
   simp only[Act.put]
   grind
omit T in
theorem qx {j:Nat}(hL:L.size=ops.size)(hj:j<ops.size):∀b,(XL P nt ops H X (L.setIfInBounds j true)).ids b->(XL P nt ops H X L).ids b:=by
 rintro b (h|⟨i,h1,h2,h3,h4⟩)
 ·exact .inl h
 ·refine .inr ⟨i,h1,h2,?_,h4⟩
  rw[bU (by omega)]at h3
  split at h3
  ·cases h3
  ·exact h3
omit T in
theorem jB {p:aF}{j:Nat}{o:bv}(hL:L.size=ops.size)(hj:j<ops.size)(h:∀x∈p.kP,x.1≠j)(hc:Cont L p o):Cont (L.setIfInBounds j true) p o:=by
 have he:aax (L.setIfInBounds j true) p=aax L p:=by
  unfold aax
  congr 1
  refine List.filter_congr ?_
  intro x hx
  rw[bU (by omega),if_neg<|Ne.symm<|h x hx]
 rcases hc with h|⟨h1,es,h2,h3⟩
 ·exact .inl h
 ·exact .inr ⟨h1,es,h2,by rw[he];exact h3⟩
theorem oa {j:Nat}{o:Oper}{u:AV}{y:Value}(hL:qt ops I.aC L)(hL':qt ops I.aC (L.setIfInBounds j true))(ho:ops[j]?=some o)(er:L.getD j false=false)(iL:∀t v,e0.get t=some v->t<nt)
  (hi:uF P nt ops e0 ds H W S X w0 g0 L g K a w) (hput:(S<|j+1).e=putO (S j).e (effDst nt o.dst) u) (hv:VR g u y)
  (hk:R4 S ops.size (jF P nt ops<|L.setIfInBounds j true)=R4 S ops.size (jF P nt ops L)) (hnot:∀p m,fG P nt ops S p m->p.i≠j/\∀x∈p.kP,x.1≠j) :
  Inv P nt ops e0 ds H I.aC W S X w0 g0 (L.setIfInBounds j true) (a.put o.dst y) w:=by
 have hj:=(Array.getElem?_eq_some_iff.1 ho).1
 refine⟨hL',g,K,hi.le,lc T hL.size ho er iL hi.env hput (G.le.refl g) hv,?_,hi.heap.weaken rfl<|qx hL.size hj,?_,?_⟩
 ·cases o.dst<;>exact hi.defs
 ·obtain⟨Hk,h1,h2,h3,h4⟩:=hi.at_
  refine⟨Hk,by grind,h2,h3,λp m hp hm=>h4 p m hp ?_⟩
  have hkk:=gf (P:=P) (nt:=nt) hL.size hj er
  grind
 ·intro p m hp vm hm
  obtain⟨h1,h2⟩:=hnot p m hp
  rw[bU (by rw[hL.size];omega),if_neg<|Ne.symm h1]at vm
  have hkk:=gf (P:=P) (nt:=nt) hL.size hj er
  obtain⟨ob,h3,h4⟩:=hi.pend p m hp vm<|by grind
  exact⟨ob,h3,jB hL.size hj h2 h4⟩
end
end Go.Ev
namespace Go.Ev
theorem wb {β:Type}{f:Nat->β->Option β}:∀(n i:Nat)(b c:β),eh f n i b=some c->∀k,i<=k->k<i+n->∃b1 b2,f k b1=some b2:=by
 intro n
 induction n with
 | zero=>grind
 | succ n ih=>
  intro i b c h k h1 h2
  rw[cZ]at h
  obtain⟨b',hb,hn⟩:=h
  by_cases hk:k=i
  ·grind
  ·exact ih (i+1) b' c hn k (by omega)<|by omega
theorem oW {a:Nat}:∀{pend:List aF}{H0 H1:Heap},bH a pend H0=some H1->H1.next=H0.next/\∀b o,H1.get b=some o->H0.get b=some o\/∃p∈pend,bit a p.i=true/\p.o.a9=true/\p.id=b/\p.o=o:=by
 intro pend
 induction pend with
 | nil=>intro H0 H1 h;cases h;grind
 | cons p pend ih=>
  intro H0 H1 h
  unfold bH at h
  rw[ah]at h
  obtain⟨H',h1,h2⟩:=h
  obtain⟨i1,i2⟩:=ih h2
  split at h1
  ·rename_i hc
   cases h1
   refine⟨i1,λb o hb=>?_⟩
   rcases i2 b o hb with h|⟨p',h,h'⟩
   ·rw[Heap.aR]at h
    split at h
    ·grind
    grind
   grind
  grind
theorem uu {a k:Nat}:∀{mats:List (aF × Nat)}{H0 H1:Heap},bP a k mats H0=some H1->H1.next=H0.next/\∀b o,H1.get b=some o->H0.get b=some o\/∃x∈mats,bit a x.1.i=true/\x.1.o.a9=true/\k<x.2/\x.1.id=b/\x.1.o=o:=by
 intro mats
 induction mats with
 | nil=>intro H0 H1 h;cases h;grind
 | cons p pend ih=>
  intro H0 H1 h
  unfold bP at h
  rw[ah]at h
  obtain⟨H',h1,h2⟩:=h
  obtain⟨i1,i2⟩:=ih h2
  split at h1
  ·rename_i hc
   cases h1
   refine⟨i1,λb o hb=>?_⟩
   rcases i2 b o hb with h|⟨p',h,h'⟩
   ·rw[Heap.aR]at h
    split at h
    ·rename_i e;cases h;simp_all
    grind
   grind
  grind
theorem aaK (p:Nat->Bool){j n:Nat}(h:j<=n):cf (λi=>p i&&decide (i<j)) 0 n=cf p 0 j:=by
 obtain⟨k,rfl⟩:∃k,n=j+k:=⟨n-j,by omega⟩
 rw[lU]
 have h1:cf (λi=>p i&&decide (i<j)) (0+j) k=0:=by
  have:cf (λi=>p i&&decide (i<j)) (0+j) k<=cf (λ_=>false) (0+j) k:=dG _ _<|λi h1 _ h=>by grind
  have z:∀n i,cf (λ_=>false) i n=0:=by
   intro n
   induction n with
   | zero=>intro i;rfl
   | succ n ih=>intro i;simp[cf,ih]
  grind
 rw[h1]
 exact kY _ _<|λi _ hi=>by grind
section
variable {P:Program}{ih:fP}{rd r:Option Nat}{nt:Nat}{ops:Array Oper}{e0:Tr AV}{ds:List cD}{H:Heap}{I:iM}{W:Tr Nat}{S:Nat->DS}
variable {X:Pt}{w0:World}{g0 g:G}{K:Heap}{w:World}{a:Act}{L:Array Bool}
theorem uU {o:Oper}(h:clsOf (cOper P nt o).op≠.chain):cOp P o.op=some (cOper P nt o).op/\∀c,o.op≠.defer c:=by
 rw[iW]at h |-
 simp only at h |-
 cases hc:cOp P o.op with
 | none=>rw[hc]at h;exact absurd rfl h
 | some op=>
  refine⟨rfl,λc ho=>?_⟩
  rw[hc]at h
  simp only[Option.getD_some]at h
  rw[ho]at hc
  simp only[cOp]at hc
  split at hc
  ·cases hc;exact h rfl
  ·cases hc
variable (T:TR P ih nt ops e0 ds H I W S)
include T
theorem nN {p:aF}{m j:Nat}{o:Oper}(h:fG P nt ops S p m)(ho:ops[j]?=some o)(he:p.i=j):wanted (S j).e ops o.guard=some true/\isD P nt ops j=true:=by
 have hb:=T.bl h
 obtain⟨o',ob,f,h1,h2,_⟩:=hb.al
 rw[he]at h1 h2
 rw[ho]at h1;cases h1
 exact⟨h2,by rw[<- he];exact hb.d⟩
theorem qG {p:aF}{m j:Nat}{o:Oper}(h:fG P nt ops S p m)(ho:ops[j]?=some o){x:Nat × AV × AV}(hx:x∈p.kP)(he:x.1=j):wanted (S j).e ops o.guard=some true/\clsOf (cOper P nt o).op=.abl:=by
 obtain⟨_,⟨o',l,kk,mm,k,v,h1,h2,h3,h4,_⟩,_⟩:=(T.bl h).at_ x hx
 grind
theorem uQ {j:Nat}{o:Oper}(ho:ops[j]?=some o)(h1:isD P nt ops j=false\/wanted (S j).e ops o.guard≠some true)(h2:clsOf (cOper P nt o).op≠.abl\/wanted (S j).e ops o.guard≠some true) :
  ∀p m,fG P nt ops S p m->p.i≠j/\∀x∈p.kP,x.1≠j:=by
 intro p m hp
 refine⟨λe=>?_,λx hx e=>?_⟩
 ·obtain⟨h3,h4⟩:=nN T hp ho e
  rcases h1 with h1|h1
  ·grind
  ·exact h1 h3
 ·obtain⟨h3,h4⟩:=qG T hp ho hx e
  rcases h2 with h2|h2
  ·exact h2 h4
  ·exact h2 h3
theorem uk {Hk Hx:Heap}{x:Nat}(hk:∀b o,Hk.get b=some o->K.get b=some o)
  (bG:∀k,bit x k=true->L.getD k false=true) (hp:∀p m,fG P nt ops S p m->L.getD p.i false=true->jF P nt ops L<m->∃o,K.get p.id=some o/\Cont L p o)
  (hx:∀b o,Hx.get b=some o->Hk.get b=some o\/∃p m,fG P nt ops S p m/\jF P nt ops L<m/\bit x p.i=true/\p.o.a9=true/\p.id=b/\p.o=o) :
  ∀b o,Hx.get b=some o->∃o',K.get b=some o'/\Alike o o':=by
 have _:=T
 intro b o hb
 rcases hx b o hb with h|⟨p,m,h1,h2,h3,h4,h5,h6⟩
 ·exact⟨o,hk b o h,.inl rfl⟩
 ·obtain⟨o',h7,h8⟩:=hp p m h1 (bG _ h3) h2
  subst h5 h6
  refine⟨o',h7,?_⟩
  rcases h8 with⟨_,h⟩|⟨h,_⟩
  ·exact .inl h
  ·rw[h]at h4;cases h4
theorem Dj {j:Nat}(hj:j<=ops.size){l:lP}(h:l∈(S j).aO):l∈(S ops.size).aO:=by
 obtain⟨k,hk⟩:∃k,ops.size=j+k:=⟨ops.size-j,by omega⟩
 induction k generalizing j with
 | zero=>grind
 | succ k Zh=>
  refine Zh (j:=j+1) (by omega) ?_<|by omega
  obtain⟨o,ho⟩:=T.op<|show j<ops.size by omega
  obtain⟨d,_,hs,_⟩:=T.step j o ho
  generalize S (j+1)=s' at hs |-
  cases hs
  case read hw hc a bG Hx hx v H1 ha aO hl=>
   grind
  all_goals exact h
theorem kO {Q:Exit->Act->World->Prop}{j x:Nat}{o:Oper}{v:AV}{Hx Hy:Heap}(hL:qt ops I.aC L)(hL':qt ops I.aC (L.setIfInBounds j true))(ho:ops[j]?=some o)(er:L.getD j false=false)(ha:I.aC.get j=some x)
  (bG:∀k,bit x k=true->L.getD k false=true) (hno:∀i b,L.getD i false=true->I.aC.get i=some b->bit b j=false) (iL:∀t v,e0.get t=some v->t<nt) (hi:uF P nt ops e0 ds H W S X w0 g0 L g K a w)
  (hw:wanted (S j).e ops o.guard=some true) (hq:(clsOf (cOper P nt o).op).quiet=true) (hput:(S<|j+1).e=putO (S j).e (effDst nt o.dst) v)
  (hsub:∀b o,Hx.get b=some o->∃o',K.get b=some o'/\Alike o o') (hn:Hx.next=K.next) (xD:aval P Hx (bL (S j).e) (cOper P nt o).op=some (v,Hy)) :
  o.wpIn (Fn r) 0 P a w (λa' w'=>Inv P nt ops e0 ds H I.aC W S X w0 g0 (L.setIfInBounds j true) a' w') Q:=by
 have hne:clsOf (cOper P nt o).op≠.chain:=by intro h;rw[h]at hq;cases hq
 obtain⟨hc,hnd⟩:=uU hne
 rw[<- nK (lI T ho er ha bG hno)]at xD
 obtain⟨_,y,hrun,hv⟩:=mU (rV hi.env) (hi.heap.RQ hsub hn) hc hq xD
 refine⟨λ_ _=>trivial,?_⟩
 rw[ir hnd,hrun]
 have vo:isChain P nt ops j=false:=by
  rw[cJ ho]
  grind
 have hj:=(Array.getElem?_eq_some_iff.1 ho).1
 refine oa T hL hL' ho er iL hi hput hv ?_<|uQ T ho (.inl ?_)<|.inl ?_
 ·rw[gf hL.size hj er,vo];rfl
 ·rw[F8 ho]
  cases dP:clsOf (cOper P nt o).op<;>first | rfl | (rw[dP]at hq;cases hq)
 ·intro h;rw[h]at hq;cases hq
theorem step_read {Q:Exit->Act->World->Prop}{j x:Nat}{o:Oper}{d:qr}{v:AV}{Hx Hy:Heap}(hL:qt ops I.aC L)(hL':qt ops I.aC (L.setIfInBounds j true))(ho:ops[j]?=some o)(er:L.getD j false=false)(ha:I.aC.get j=some x)
  (bG:∀k,bit x k=true->L.getD k false=true) (hno:∀i b,L.getD i false=true->I.aC.get i=some b->bit b j=false) (iL:∀t v,e0.get t=some v->t<nt) (hi:uF P nt ops e0 ds H W S X w0 g0 L g K a w)
  (hw:wanted (S j).e ops o.guard=some true) (hc:clsOf (cOper P nt o).op=.read) (hput:(S<|j+1).e=putO (S j).e (effDst nt o.dst) v)
  (hx:bH x (S j).pend (S j).H=some Hx) (xD:aval P Hx (bL (S j).e) (cOper P nt o).op=some (v,Hy))
  (hl:d.lo=d.hi\/(⟨(S j).e,(cOper P nt o).op,x,d.lo,d.hi,v⟩:lP)∈(S ops.size).aO)
  (hd:d.lo=cf (λi=>isChain P nt ops i&&bit x i) 0 ops.size/\d.hi=cf (λi=>isChain P nt ops i && !(match I.aC.get i with | some b=>bit b j | none=>false)) 0 ops.size)
  (kA:∀l∈(S ops.size).aO,looksOk P (S ops.size).Hs.reverse (S ops.size).pend (S ops.size).mats l=true) :
  o.wpIn (Fn r) 0 P a w (λa' w'=>Inv P nt ops e0 ds H I.aC W S X w0 g0 (L.setIfInBounds j true) a' w') Q:=by
 have hj:=(Array.getElem?_eq_some_iff.1 ho).1
 obtain⟨Hk,q7,hk2,A4,Gs⟩:=hi.at_
 have hlo:d.lo<=jF P nt ops L:=by
  rw[hd.1]
  refine dG _ _<|λi _ _ h=>?_
  grind
 have hhi:jF P nt ops L<=d.hi:=by
  rw[hd.2]
  refine dG _ _<|λi _ _ h=>?_
  grind
 by_cases heq:d.lo=d.hi
 ·have h1:d.lo<=cf (isChain P nt ops) 0 j:=by
   rw[hd.1,<- aaK _ (show j<=ops.size by omega)]
   refine dG _ _<|λi _ _ h=>?_
   simp only[Bool.and_eq_true,decide_eq_true_eq]at h |-
   exact⟨h.1,T.qz ha h.2⟩
  have h2:cf (isChain P nt ops) 0 j<=d.hi:=by
   rw[hd.2,<- aaK _ (show j<=ops.size by omega)]
   refine dG _ _<|λi _ _ h=>?_
   simp only[Bool.and_eq_true,decide_eq_true_eq]at h |-
   refine⟨h.1,?_⟩
   split
   ·rename_i b hb
    cases X6:bit b j with
    | false=>rfl
    | true=>have:=T.qz hb X6;omega
   ·rfl
  have KH:jF P nt ops L=cf (isChain P nt ops) 0 j:=by omega
  rw[KH,T.HH<|by omega]at q7
  cases q7
  obtain⟨fe,iI⟩:=oW hx
  refine kO T (Hx:=Hx) hL hL' ho er ha bG hno iL hi hw (by rw[hc];rfl) hput ?_ (by rw[fe,hk2]) xD
  refine uk T A4 bG hi.pend ?_
  intro b ob hb
  rcases iI b ob hb with h|⟨p,h3,h4,h5,h6,h7⟩
  ·exact .inl h
  ·obtain⟨p',m,q1,q2,q3⟩:=T.yc (by omega) h3
   obtain⟨e1,e2,e3,_⟩:=q2
   grind
 ·have hl:=hl.resolve_left heq
  have hok:=kA _ hl
  unfold looksOk at hok
  split at hok
  ·rename_i u hu
   obtain⟨_,_,hf⟩:=wb _ _ _ _ hu (jF P nt ops L) hlo (by simp only[Nat.succ_eq_add_one];have:Nat.sub d.hi d.lo=d.hi-d.lo:=rfl;omega)
   split at hf
   ·rename_i Hk' hk'
    have:Hk'=Hk:=by
     rw[cY]at hk'
     unfold R4 at q7
     rw[q7]at hk'
     exact(Option.some.inj hk').symm
    subst this
    split at hf
    ·rename_i H2 xC
     split at hf
     ·rename_i H3 hH3
      split at hf
      ·rename_i v' H4 KN
       split at hf
       ·rename_i hsame
        have P8:=oM hsame
        simp only at P8
        subst P8
        obtain⟨m1,m2⟩:=uu xC
        obtain⟨n1,n2⟩:=oW hH3
        refine kO T (Hx:=H3) hL hL' ho er ha bG hno iL hi hw (by rw[hc];rfl) hput ?_ (by rw[n1,m1,hk2]) KN
        refine uk T A4 bG hi.pend ?_
        intro b ob hb
        rcases n2 b ob hb with h|⟨p,h3,h4,h5,h6,h7⟩
        ·rcases m2 b ob h with h | ⟨y,h3,h4,h5,h6,h7,h8⟩
         ·exact .inl h
         ·exact .inr ⟨y.1,y.2,.inr h3,h6,h4,h5,h7,h8⟩
        ·have:jF P nt ops L<=_:=T.C6
         exact .inr ⟨p,_,.inl ⟨h3,rfl⟩,by omega,h4,h5,h6,h7⟩
       ·cases hf
      ·cases hf
     ·cases hf
    ·cases hf
   ·cases hf
  ·cases hok
end
end Go.Ev
namespace Go.Ev
section
variable {P:Program}{ih:fP}{rd r:Option Nat}{nt:Nat}{ops:Array Oper}{e0:Tr AV}{ds:List cD}{H:Heap}{I:iM}{W:Tr Nat}{S:Nat->DS}
variable {X:Pt}{w0:World}{g0 g:G}{K:Heap}{w:World}{a:Act}{L:Array Bool}
variable (T:TR P ih nt ops e0 ds H I W S)
include T
theorem wL {Q:Exit->Act->World->Prop}{j x:Nat}{o:Oper}{ob:bv}{f:Nat->AV}(hX:∀b,X.ids b->b<H.next)(hL:qt ops I.aC L)(hL':qt ops I.aC (L.setIfInBounds j true))(ho:ops[j]?=some o)(er:L.getD j false=false)(ha:I.aC.get j=some x)
  (bG:∀k,bit x k=true->L.getD k false=true) (hno:∀i b,L.getD i false=true->I.aC.get i=some b->bit b j=false) (iL:∀t v,e0.get t=some v->t<nt) (hi:uF P nt ops e0 ds H W S X w0 g0 L g K a w)
  (hw:wanted (S j).e ops o.guard=some true) (hc:clsOf (cOper P nt o).op=.dalloc\/clsOf (cOper P nt o).op=.dmap) (hput:(S<|j+1).e=putO (S j).e (effDst nt o.dst) (f (S j).cG))
  (Sb:allocOf (bL (S j).e) (cOper P nt o).op=some (ob,f)) :
  o.wpIn (Fn r) 0 P a w (λa' w'=>Inv P nt ops e0 ds H I.aC W S X w0 g0 (L.setIfInBounds j true) a' w') Q:=by
 have hj:=(Array.getElem?_eq_some_iff.1 ho).1
 have hne:clsOf (cOper P nt o).op≠.chain:=by grind
 obtain⟨Cu,hnd⟩:=uU hne
 have Ym:isD P nt ops j=true:=by rw[F8 ho];grind
 have PQ:=T.cG<|show j<=ops.size by omega
 have Ud:=Sb
 rw[<- jW (lI T ho er ha bG hno)]at Ud
 obtain⟨R7,y,d,hrun,hdb,hdr,hv⟩:=mE (P:=P) (w:=w) (rV hi.env) Cu Ud
 have hid:(XL P nt ops H X L).ids (H.next+cf (isD P nt ops) 0 j):=.inr ⟨j,hj,Ym,er,rfl⟩
 obtain⟨aat,Yw⟩:=hi.heap.hole _ hid
 have sg:=hL.size
 have hnew:=hi.heap.newAt (X':=XL P nt ops H X<|L.setIfInBounds j true) hid rfl (λb hb=>by
  refine⟨qx sg hj b hb,?_⟩
  rcases hb with hb|⟨i,h1,h2,h3,h4⟩
  ·grind
  ·intro e
   rw[h4]at e
   have:i=j:=uX h2 Ym<|by omega
   subst this
   rw[bU (by omega)]at h3
   simp at h3) ob R7 d hdb (λg' hle hg'=>(hv g' _ hle hg').2) hdr
 obtain⟨hle,Cy⟩:=hnew
 have XU:K.get (H.next+cf (isD P nt ops) 0 j)=none:=by
  cases hg:K.get (H.next+cf (isD P nt ops) 0 j) with
  | none=>rfl
  | some o'=>obtain⟨d',hd',_⟩:=hi.heap.obj _ _ hg;grind
 refine⟨λ_ _=>trivial,?_⟩
 rw[ir hnd,hrun]
 have vo:isChain P nt ops j=false:=by
  rw[cJ ho]
  cases dP:clsOf (cOper P nt o).op<;>first | rfl | exact absurd dP hne
 have hkk:jF P nt ops (L.setIfInBounds j true)=jF P nt ops L:=by rw[gf sg hj er,vo];rfl
 obtain⟨Hk,q7,hk2,A4,Gs⟩:=hi.at_
 refine⟨hL',g.put (H.next+cf (isD P nt ops) 0 j) d,K.put (H.next+cf (isD P nt ops) 0 j) ob,hi.le.trans hle,?_,?_,Cy,?_,?_⟩
 ·refine lc T sg ho er iL hi.env hput hle ?_
  rw[PQ]
  exact(hv _ _ hle<|G.bz _ _ _).1
 ·have:=hi.defs.mono hle
  cases o.dst<;>exact this
 ·rw[hkk]
  refine⟨Hk,q7,hk2,λb o' hb=>?_,Gs⟩
  rw[Heap.aR]
  split
  ·rename_i e
   rw[<- e]at hb
   have:=A4 _ _ hb
   rw[XU]at this;cases this
  ·exact A4 b o' hb
 ·intro p m hp vm hm
  rw[hkk]at hm
  have lN:=T.bl hp
  by_cases nf:p.i=j
  ·obtain⟨o',ob',f',h1,h2,h3,h4⟩:=lN.al
   rw[nf]at h1 h2 h3
   rw[ho]at h1;cases h1
   rw[Sb]at h3;cases h3
   refine⟨ob,?_,?_⟩
   ·rw[lN.id,nf,Heap.aR,if_pos rfl]
   ·rcases h4 with⟨h4,h5,_⟩ | ⟨h4,h5⟩
    ·exact .inl ⟨by rw[h5];exact h4,h5.symm⟩
    ·refine .inr ⟨h5,[],h4,?_⟩
     have:aax (L.setIfInBounds j true) p=[]:=by
      unfold aax
      rw[List.filter_eq_nil_iff.2 ?_];rfl
      intro z hz hlz
      obtain⟨h6,h7,b,h8,h9⟩:=lN.at_ z hz
      rw[bU (by omega)]at hlz
      split at hlz
      ·rename_i e
       have:=(qG T hp ho hz e.symm).2
       rcases hc with hc|hc<;>rw[this]at hc<;>cases hc
      ·have:=hno z.1 b hlz h8
       rw[nf]at h9
       rw[h9]at this;cases this
     rw[this]
  ·rw[bU (by omega),if_neg<|Ne.symm nf]at vm
   obtain⟨o',h1,h2⟩:=hi.pend p m hp vm hm
   refine⟨o',?_,jB sg hj (λz hz e=>?_) h2⟩
   ·rw[Heap.aR,if_neg ?_]
    ·exact h1
    ·rw[lN.id]
     intro e
     exact nf<|uX lN.d Ym<|by omega
   ·have:=(qG T hp ho hz e).2
    rcases hc with hc|hc<;>rw[this]at hc<;>cases hc
theorem FX {Q:Exit->Act->World->Prop}{j x:Nat}{o:Oper}{l:Bool}{kk:dC}{m k v:Operand}{b:Nat}{kv vv:AV}{pend:List aF}(hL:qt ops I.aC L)(hL':qt ops I.aC (L.setIfInBounds j true))(ho:ops[j]?=some o)(er:L.getD j false=false)(ha:I.aC.get j=some x)
  (bG:∀k,bit x k=true->L.getD k false=true) (hno:∀i b,L.getD i false=true->I.aC.get i=some b->bit b j=false) (iL:∀t v,e0.get t=some v->t<nt) (hi:uF P nt ops e0 ds H W S X w0 g0 L g K a w)
  (hw:wanted (S j).e ops o.guard=some true) (hc:clsOf (cOper P nt o).op=.abl) (hop:(cOper P nt o).op=.ins l kk m k v) (hm:bL (S j).e m=some (.map<|some b)) (hk:bL (S j).e k=some kv) (hv:bL (S j).e v=some vv)
  (hin:ib kk kv vv b j x (S j).pend=some (true,pend)) (hput:(S<|j+1).e=putO (S j).e (effDst nt o.dst) .undef) (UP:(S<|j+1).pend=pend) :
  o.wpIn (Fn r) 0 P a w (λa' w'=>Inv P nt ops e0 ds H I.aC W S X w0 g0 (L.setIfInBounds j true) a' w') Q:=by
 have hj:=(Array.getElem?_eq_some_iff.1 ho).1
 have hne:clsOf (cOper P nt o).op≠.chain:=by rw[hc];simp
 obtain⟨Cu,hnd⟩:=uU hne
 have sg:=hL.size
 obtain⟨f1,f2,f3,f4,f5⟩:=insPend_ok hin
 obtain⟨p0,hp0,UN⟩:=(f1 rfl).resolve_left (by simp)
 obtain⟨_,PA,es0,ab3,hlk,Gv,UY⟩:=(f2 p0 hp0).resolve_left (λh=>h.1 UN)
 obtain⟨p',mm,oZ,Yr,_⟩:=T.yc (j:=j+1) (by omega) (p:=oT kv vv j p0 es0)<|by grind
 obtain⟨fe,iI,_,P9⟩:=Yr
 obtain⟨l2,nY⟩:=P9
 have nY:p'.kP=p0.kP++(j,kv,vv)::l2:=by rw[<- nY];simp[oT,aN]
 have CM:p'.id=b:=by rw[iI];exact UN
 have YQ:p'.i=p0.i:=fe
 have lN:=T.bl oZ
 have CE:bit p'.ins j=true:=(lN.ins j).2 ⟨(kv,vv),by rw[nY];simp⟩
 have hkm:=T.FV hL oZ (.inr CE) er
 have vm:L.getD p'.i false=true:=by rw[YQ];exact bG _ PA
 obtain⟨ob,hKb,Um⟩:=hi.pend p' mm oZ vm hkm
 have hmap:∃es,p'.o=.map (p'.kP.map (·.2))/\ob=.map es/\es.Perm (aax L p'):=by
  rcases Um with⟨h1,h2⟩|⟨h1,es,h2,h3⟩
  ·obtain⟨o',ob',f',h3,h4,h5,h6⟩:=lN.al
   rcases h6 with⟨_,_,h7⟩|⟨_,h7⟩
   ·rw[nY]at h7;simp at h7
   ·rw[h7]at h1;cases h1
  ·exact⟨es,h1,h2,h3⟩
 obtain⟨es,Sh,rfl,CO⟩:=hmap
 have hpw:=lN.pw
 rw[nY,List.pairwise_append]at hpw
 obtain⟨_,PX,UQ⟩:=hpw
 rw[List.pairwise_cons]at PX
 have hnew:∀e∈es,primEq kk kv e.1=some false:=by
  intro e he
  have:=CO.subset he
  obtain⟨z,hz,rfl⟩:=List.mem_map.1 this
  obtain⟨mO,pN⟩:=List.mem_filter.1 hz
  rw[nY]at mO
  rcases List.mem_append.1 mO with mO|mO
  ·obtain⟨_,kk',h1,h2⟩:=UQ z mO (j,kv,vv) (by simp)
   exact oK Gv h2
  ·rcases List.mem_cons.1 mO with rfl | mO
   ·simp only at pN;rw[er]at pN;cases pN
   ·obtain⟨_,kk',h1,h2⟩:=PX.1 z mO
    exact tW Gv h2
 have hρ:=lI T ho er ha bG hno
 rw[hop]at hρ
 have xD:aval P K (RL ops W S e0 L) (cOper P nt o).op=some (.undef,K.put b<|.map<|es++[(kv,vv)]):=by
  rw[hop]
  simp only[aval]
  rw[hρ m (by simp[AOp.opers]),hρ k<|by simp[AOp.opers],hρ v<|by simp[AOp.opers],hm,hk,hv]
  rw[CM]at hKb
  simp only[hKb,putIn,Gv,zX hnew,aN]
 obtain⟨g',w',n,y,hle,hrun,hN,uC,Cy⟩:=pF (rV hi.env) hi.heap Cu xD
 have vo:isChain P nt ops j=false:=by rw[cJ ho,hc]
 have hkk:jF P nt ops (L.setIfInBounds j true)=jF P nt ops L:=by rw[gf sg hj er,vo];rfl
 obtain⟨Hk,q7,hk2,A4,Gs⟩:=hi.at_
 have fin:Inv P nt ops e0 ds H I.aC W S X w0 g0 (L.setIfInBounds j true) (a.put o.dst y) w':=by
  refine⟨hL',g',K.put b<|.map<|es++[(kv,vv)],hi.le.trans hle,lc T sg ho er iL hi.env hput hle uC,?_,Cy.weaken rfl<|qx sg hj,?_,?_⟩
  ·have:=hi.defs.mono hle
   cases o.dst<;>exact this
  ·rw[hkk]
   refine⟨Hk,q7,hk2,λb' o' hb'=>?_,Gs⟩
   rw[Heap.aR]
   split
   ·rename_i e
    rw[<- e,<- CM,Gs p' mm oZ hkm]at hb';cases hb'
   ·exact A4 b' o' hb'
  ·intro p m' hp T8 hm'
   rw[hkk]at hm'
   have tj:p.i≠j:=λe=>by
    have:=(nN T hp ho e).2
    rw[F8 ho,hc]at this;cases this
   rw[bU (by omega),if_neg<|Ne.symm tj]at T8
   by_cases Sf:p.id=b
   ·obtain⟨rfl,rfl⟩:=T.yy hp oZ (by rw[Sf,CM])
    refine⟨_,by rw[Sf,Heap.aR,if_pos rfl],.inr ⟨Sh,_,rfl,?_⟩⟩
    have hsame:∀(ll:List (Nat × AV × AV)),(∀z∈ll,z.1≠j)->ll.filter (λz=>(L.setIfInBounds j true).getD z.1 false)=ll.filter (λz=>L.getD z.1 false):=by
     intro ll h
     refine List.filter_congr ?_
     intro z hz
     rw[bU (by omega),if_neg<|Ne.symm<|h z hz]
    have e1:aax (L.setIfInBounds j true) p=(p0.kP.filter<|λz=>L.getD z.1 false).map (·.2)++(kv,vv)::(l2.filter<|λz=>L.getD z.1 false).map (·.2):=by
     unfold aax
     rw[nY,List.filter_append,List.filter_cons,hsame p0.kP (λz hz e=>by have:=(UQ z hz (j,kv,vv)<|by simp).1;simp at this;omega),hsame l2 (λz hz e=>by have:=(PX.1 z hz).1;simp at this;omega)]
     rw[if_pos (by rw[bU (by omega)];simp)]
     simp
    have e2:aax L p=(p0.kP.filter<|λz=>L.getD z.1 false).map (·.2)++(l2.filter<|λz=>L.getD z.1 false).map (·.2):=by
     unfold aax
     rw[nY,List.filter_append,List.filter_cons,if_neg<|by simp[er]]
     simp
    rw[e1]
    rw[e2]at CO
    refine(CO.append_right [(kv,vv)]).trans ?_
    refine List.perm_append_comm.trans ?_
    simp only[List.cons_append,List.nil_append]
    exact List.perm_middle.symm
   ·obtain⟨o',h1,h2⟩:=hi.pend p m' hp T8 hm'
    refine⟨o',by rw[Heap.aR,if_neg<|Ne.symm Sf];exact h1,jB sg hj (λz hz e=>?_) h2⟩
    obtain⟨_,⟨o'',l',kk',m'',k',v',g1,g2,g3,g4,g5,g6,g7⟩,_⟩:=(T.bl hp).at_ z hz
    rw[e]at g1 g5
    rw[ho]at g1;cases g1
    rw[hop]at g3;cases g3
    rw[hm]at g5;cases g5
    exact Sf rfl
 refine⟨λ_ _=>trivial,?_⟩
 rw[ir hnd,hrun]
 cases n with
 | value z=>cases hN;exact fin
 | skip=>cases hN;exact fin
 | _=>cases hN
theorem wM (hS:SoundF P ih){Q:Exit->Act->World->Prop}{j x:Nat}{o:Oper}{pend:List aF}{mats:List (aF × Nat)}{H1 H2:Heap}{v:AV}(hL:qt ops I.aC L)(hL':qt ops I.aC (L.setIfInBounds j true))(ho:ops[j]?=some o)(er:L.getD j false=false)(ha:I.aC.get j=some x)
  (bG:∀k,bit x k=true->L.getD k false=true) (hno:∀i b,L.getD i false=true->I.aC.get i=some b->bit b j=false) (iL:∀t v,e0.get t=some v->t<nt) (hi:uF P nt ops e0 ds H W S X w0 g0 L g K a w)
  (hw:wanted (S j).e ops o.guard=some true) (hc:clsOf (cOper P nt o).op=.chain) (d8:settle x (aK (S j).Hs) (S j).pend (S j).mats (S j).H=some (pend,mats,H1))
  (hop:oper P ih (bL (S j).e) (cOper P nt o).op (S j).ds H1=some (.mk v (S j).ds H2)) (hput:(S<|j+1).e=putO (S j).e (effDst nt o.dst) v) (KJ:(S<|j+1).mats=mats) (hH:(S<|j+1).H=H2) :
  o.wpIn (Fn r) 0 P a w (λa' w'=>Inv P nt ops e0 ds H I.aC W S X w0 g0 (L.setIfInBounds j true) a' w') Q:=by
 have hj:=(Array.getElem?_eq_some_iff.1 ho).1
 have sg:=hL.size
 have vo:isChain P nt ops j=true:=by rw[cJ ho,hc]
 have V3:=T.pQ hL hj er vo ha bG
 have hkk:jF P nt ops (L.setIfInBounds j true)=jF P nt ops L+1:=by rw[gf sg hj er,vo];rfl
 obtain⟨Hk,q7,hk2,A4,Gs⟩:=hi.at_
 rw[V3,T.HH<|by omega]at q7
 cases q7
 obtain⟨f1,f2,f3,f4,f5,f6⟩:=settle_ok d8
 rw[T.vR (by omega)]at f2
 have Cu:cOp P o.op=some (cOper P nt o).op:=by
  have IL:(cOper P nt o).op≠.bad:=by intro h;rw[h]at hop;simp[oper,aval,allocOf]at hop
  rw[iW]at IL |-
  simp only at IL |-
  cases hc:cOp P o.op with
  | none=>rw[hc]at IL;exact absurd rfl IL
  | some op=>rfl
 -- blocks that stay aside
 let BL:List (aF × Nat):=((S ops.size).pend.map λp=>(p,cf (isChain P nt ops) 0 ops.size+1))++(S ops.size).mats
 have hBL:∀p m,(p,m)∈BL↔fG P nt ops S p m:=by
  intro p m
  simp only[BL,List.mem_append,List.mem_map,fG]
  constructor
  ·rintro(⟨p',h1,h2⟩ | h)
   ·cases h2;exact .inl ⟨h1,rfl⟩
   grind
  ·rintro(⟨h1,h2⟩ | h)
   ·exact .inl ⟨p,h1,by rw[h2]⟩
   ·exact .inr h
 let l:List (Nat × bv):=(BL.filter<|λz=>L.getD z.1.i false&&decide (jF P nt ops L+1<z.2)).map (λz=>(z.1.id,(K.get z.1.id).getD .deferred))
 have KI:∀z∈l,∃p m,fG P nt ops S p m/\L.getD p.i false=true/\jF P nt ops L+1<m/\z.1=p.id/\K.get p.id=some z.2:=by
  intro z hz
  obtain⟨⟨p,m⟩,h1,rfl⟩:=List.mem_map.1 hz
  obtain⟨h2,h3⟩:=List.mem_filter.1 h1
  simp only[Bool.and_eq_true,decide_eq_true_eq]at h3
  have oZ:=(hBL p m).1 h2
  obtain⟨ob,h4,_⟩:=hi.pend p m oZ h3.1<|by omega
  exact⟨p,m,oZ,h3.1,h3.2,rfl,by simp[h4]⟩
 have UB:∀p m,fG P nt ops S p m->L.getD p.i false=true->jF P nt ops L+1<m->∀ob,K.get p.id=some ob->(p.id,ob)∈l:=by
  intro p m hp h1 h2 ob h3
  refine List.mem_map.2 ⟨(p,m),List.mem_filter.2 ⟨(hBL p m).2 hp,by simp[h1,h2]⟩,by simp[h3]⟩
 have hl:∀z∈l,K.get z.1=some z.2:=λz hz=>by
  obtain⟨p,m,_,_,_,h1,h2⟩:=KI z hz
  rw[h1];exact h2
 have hu:∀b o o',(b,o)∈l->(b,o')∈l->o=o':=by
  intro b o o' h1 h2
  have e1:=hl _ h1
  have e2:=hl _ h2
  simp only at e1 e2
  rw[e1]at e2
  exact Option.some.inj e2
 have hsub:∀b ob,H1.get b=some ob->∃o',K.get b=some o'/\Alike ob o':=by
  intro b ob hb
  rcases f5 b ob hb with h|⟨p,h1,h2,h3,h4⟩
  ·exact⟨ob,A4 b ob h,.inl rfl⟩
  ·have oZ:fG P nt ops S p (cf (isChain P nt ops) 0 j+1):=.inr (T.rF (i:=j+1) (by omega) (Nat.le_refl _) (by rw[KJ];exact(f2 _).2 (.inr ⟨p,h1,h2,rfl⟩)))
   obtain⟨o',h5,h6⟩:=hi.pend p _ oZ (bG _ h2)<|by omega
   subst h3 h4
   refine⟨o',h5,?_⟩
   rcases h6 with⟨_,h⟩|⟨h7,es,h8,h9⟩
   ·exact .inl h
   ·refine .inr ⟨_,es,h7,h8,?_⟩
    have hall:aax L p=p.kP.map (·.2):=by
     unfold aax
     rw[List.filter_eq_self.2 ?_]
     intro z hz
     exact bG _<|f3 p h1 h2 z.1<|((T.bl oZ).ins z.1).2 ⟨z.2,hz⟩
    rw[hall]at h9
    exact h9.symm
 have Yl:∀z∈l,H1.get z.1=none:=by
  intro z hz
  obtain⟨p,m,h1,h2,h3,h4,h5⟩:=KI z hz
  cases hg:H1.get z.1 with
  | none=>rfl
  | some ob=>
   exfalso
   rcases f5 _ _ hg with h|⟨p2,h6,h7,h8,h9⟩
   ·rw[h4,Gs p m h1<|by omega]at h;cases h
   ·have oZ:fG P nt ops S p2 (cf (isChain P nt ops) 0 j+1):=.inr (T.rF (i:=j+1) (by omega) (Nat.le_refl _) (by rw[KJ];exact(f2 _).2 (.inr ⟨p2,h6,h7,rfl⟩)))
    obtain⟨_,h10⟩:=T.yy oZ h1<|by rw[h8,h4]
    omega
 have hpart:=hi.heap.part hsub (by rw[f4,hk2]) hl Yl
 rw[<- wg (lI T ho er ha bG hno)]at hop
 refine oD hS (rV hi.env) (by rw[T.NZ (by omega)];exact hi.defs) hpart Cu hop ?_
 intro y g' w' hle uC Uq hh
 obtain⟨vn,zB,hb3⟩:=hi.heap.beside hl hu hle hh
 refine⟨hL',g',aside H2 l,hi.le.trans hle,lc T sg ho er iL hi.env hput hle uC,?_,vn.weaken rfl<|qx sg hj,?_,?_⟩
 ·rw[T.NZ (by omega)]at Uq
  cases o.dst<;>exact Uq
 ·rw[hkk,V3]
  refine⟨H2,?_,ko _ _,zB,?_⟩
  ·have:=T.HH (j:=j+1) (by omega)
   rw[jz,vo,hH]at this
   simpa using this
  ·intro p m hp hm
   cases hg:H2.get p.id with
   | none=>rfl
   | some ob=>
    exfalso
    obtain⟨d,hd,_⟩:=hh.obj _ _ hg
    cases vm:L.getD p.i false with
    | true=>
     obtain⟨o',h1,_⟩:=hi.pend p m hp vm<|by omega
     have hz:=UB p m hp vm (by omega) o' h1
     obtain⟨d',hd',_⟩:=hi.heap.obj _ _ h1
     have:=hle _ _ hd'
     rw[hd]at this;cases this
     exact hh.eV _ _ d hg rfl hd<|.inr ⟨_,hz,d,hd',rfl,.inr<|.inr rfl⟩
    | false=>
     have lN:=T.bl hp
     have:=(hh.hole p.id<|.inr ⟨p.i,by have:=lN.lt;omega,lN.d,vm,lN.id⟩).2
     rw[hd]at this;cases this
 ·intro p m hp vm hm
  rw[hkk]at hm
  have tj:p.i≠j:=λe=>by
   have:=(nN T hp ho e).2
   rw[F8 ho,hc]at this;cases this
  rw[bU (by omega),if_neg<|Ne.symm tj]at vm
  obtain⟨ob,h1,h2⟩:=hi.pend p m hp vm<|by omega
  refine⟨ob,hb3 _<|UB p m hp vm hm ob h1,jB sg hj (λz hz e=>?_) h2⟩
  have:=(qG T hp ho hz e).2
  rw[hc]at this;cases this
theorem FW (hS:SoundF P ih){j:Nat}(hX:∀b,X.ids b->b<H.next)(iL:∀t v,e0.get t=some v->t<nt)(kA:∀l∈(S ops.size).aO,looksOk P (S ops.size).Hs.reverse (S ops.size).pend (S ops.size).mats l=true)
  (hI:Inv P nt ops e0 ds H I.aC W S X w0 g0 L a w) (hr:j∈Region.ready .any ops L) {Q:Exit->Act->World->Prop} :
  wpOpIn (Fn r) 0 P ops Q j (λa' w'=>Inv P nt ops e0 ds H I.aC W S X w0 g0 (L.setIfInBounds j true) a' w') a w:=by
 obtain⟨hL,g,K,hi⟩:=hI
 obtain⟨o,x,ho,hj,er,ha,bG,hno,hL'⟩:=T.ready hL hr
 unfold wpOpIn
 rw[ho]
 obtain⟨d,A2,hs,hd,hdc⟩:=T.step j o ho
 have lq:=T.j<|show j<=ops.size by omega
 have sg:=hL.size
 have yes:wanted (S j).e ops o.guard=some true->∀{K':Act->World->Prop},o.wpIn (Fn r) 0 P a w K' Q->(if Region.wanted o (yielded ops a.tmps)=true then o.wpIn (Fn r) 0 P a w K' Q else(∀f,o.about P w a.eval=some f->(Fn r).fn f)/\K' (a.put o.dst undef) w):=by
  intro hw K' h
  rw[if_pos (ur T ho ha bG hi.env hw)]
  exact h
 have no:wanted (S j).e ops o.guard=some false->∀{K':Act->World->Prop},K' (a.put o.dst undef) w->(if Region.wanted o (yielded ops a.tmps)=true then o.wpIn (Fn r) 0 P a w K' Q else(∀f,o.about P w a.eval=some f->(Fn r).fn f)/\K' (a.put o.dst undef) w):=by
  intro hw K' h
  rw[if_neg (by rw[ur T ho ha bG hi.env hw];simp)]
  exact⟨λ_ _=>trivial,h⟩
 generalize A1:S (j+1)=s' at hs
 cases hs
 case skip hw hc k hk=>
  refine no hw<|oa T hL hL' ho er iL hi (u:=.undef) (by rw[A1]) (cS g) ?_<|uQ T ho (.inr (by rw[hw];simp))<|.inr (by rw[hw];simp)
  rw[gf sg hj er]
  have:isChain P nt ops j=false:=by
   rw[cJ ho]
   grind
  rw[this];rfl
 case jm hw hc=>
  refine no hw<|oa T hL hL' ho er iL hi (u:=.undef) (by rw[A1]) (cS g) ?_<|uQ T ho (.inr (by rw[hw];simp))<|.inr (by rw[hw];simp)
  have vo:isChain P nt ops j=true:=by rw[cJ ho,hc]
  have V3:=T.pQ hL hj er vo ha bG
  have h1:=T.HH (j:=j)<|by omega
  have h2:=T.HH (j:=j+1)<|by omega
  rw[jz,vo,A1]at h2
  rw[gf sg hj er,vo,V3,h1]
  simpa using h2
 case pure hw hc v H1 xD=>
  refine yes hw<|kO T (Hx:=K) (Hy:=K) hL hL' ho er ha bG hno iL hi hw (by rw[hc];rfl) (by rw[A1]) (λb ob hb=>⟨ob,hb,.inl rfl⟩) rfl ?_
  exact(Av hc xD).2
 case read hw hc x' hx' Hx hx v H1 xD aO hl=>
  rw[lq,ha]at hx';cases hx'
  obtain⟨x'',U2,hd1,hd2⟩:=hd<|by rw[hdc,hc]
  rw[ha]at U2;cases U2
  refine yes hw<|step_read T hL hL' ho er ha bG hno iL hi hw hc (by rw[A1]) hx xD ?_ ⟨hd1,hd2⟩ kA
  rcases hl with⟨h,_⟩|h
  ·exact .inl h
  ·refine .inr (Dj T (j:=j+1) (by omega) ?_)
   grind
 case chain hw hc x' hx' pend mats H1 d8 v H2 hop=>
  rw[lq,ha]at hx';cases hx'
  exact yes hw<|wM T hS hL hL' ho er ha bG hno iL hi hw hc d8 hop (by rw[A1]) (by rw[A1])<|by rw[A1]
 case alloc hw hc ob f Sb=>
  exact yes hw<|wL T hX hL hL' ho er ha bG hno iL hi hw hc (by rw[A1]) Sb
 case ins hw hc x' hx' l kk m k v hop b kv vv hm hk hv pend hin=>
  rw[lq]at hin hx'
  rw[ha]at hx';cases hx'
  exact yes hw<|FX T hL hL' ho er ha bG hno iL hi hw hc hop hm hk hv hin (by rw[A1])<|by rw[A1]
theorem yE (hS:SoundF P ih)(hX:∀b,X.ids b->b<H.next)(iL:∀t v,e0.get t=some v->t<nt)(kA:∀l∈(S ops.size).aO,looksOk P (S ops.size).Hs.reverse (S ops.size).pend (S ops.size).mats l=true)
  {Q:Exit->Act->World->Prop} (hQ:∀L a w,Inv P nt ops e0 ds H I.aC W S X w0 g0 L a w->(∀j,j<ops.size->L.getD j false=true)->Q .normal a w) :
  ∀(fuel:Nat)(L:Array Bool)(a:Act)(w:World),cf (λi=>!L.getD i false) 0 ops.size<=fuel->Inv P nt ops e0 ds H I.aC W S X w0 g0 L a w->wpAnyIn (Fn r) 0 P .any ops Q fuel L a w:=by
 intro fuel
 induction fuel with
 | zero=>
  intro L a w hf hI
  have hall:∀j,j<ops.size->L.getD j false=true:=by
   intro j hj
   cases h:L.getD j false with
   | true=>rfl
   | false=>
    have h1:=xl (p:=λi=>!L.getD i false) hj<|by simp[h]
    omega
  refine⟨?_,hQ L a w hI hall⟩
  cases hr:Region.ready .any ops L with
  | nil=>rfl
  | cons j js=>
   obtain⟨o,x,ho,hj,er,_⟩:=T.ready hI.1 (show j∈Region.ready .any ops L by rw[hr];simp)
   grind
 | succ fuel ihf=>
  intro L a w hf hI
  refine⟨λhr=>hQ L a w hI<|T.uI hI.1 hr,λj hj=>?_⟩
  obtain⟨o,x,ho,PM,er,_⟩:=T.ready hI.1 hj
  refine wpOpIn_mono (λa' w' XS=>ihf _ a' w' ?_ XS)<|FW T hS hX iL kA hI hj
  have sg:=hI.1.size
  have:cf (λi=>!L.getD i false) 0 ops.size=cf (λi=>!(L.setIfInBounds j true).getD i false) 0 ops.size+1:=by
   refine pD j (by rw[bU (by omega)];simp) (by simp[er]) ?_ _ _ (Nat.zero_le _)<|by omega
   intro m hm
   rw[bU (by omega),if_neg<|Ne.symm hm]
  omega
theorem zN (hst:St X w0 g0 nt e0 ds H a w)(hX:∀b,X.ids b->b<H.next):Inv P nt ops e0 ds H I.aC W S X w0 g0 (Array.replicate ops.size false) a { w with drawn:=w.drawn+1 }:=by
 have hf:∀i,(Array.replicate ops.size false).getD i false=false:=by
  intro i
  simp only[Array.getD_eq_getD_getElem?,Array.getElem?_replicate]
  split<;>rfl
 have hkk:jF P nt ops (Array.replicate ops.size false)=0:=by
  have:jF P nt ops (Array.replicate ops.size false)<=cf (isChain P nt ops) 0 0:=by
   rw[<- aaK (isChain P nt ops) (Nat.zero_le ops.size)]
   exact dG _ _<|λi _ _ h=>by grind
  simpa[cf]using this
 have h0:=T.HH (j:=0)<|Nat.zero_le _
 refine⟨⟨by simp,λi hi=>by grind⟩,g0,(S 0).H,G.le.refl g0,⟨hst.size,?_⟩,hst.defs,?_,?_,?_⟩
 ·intro t v ht
  unfold envL at ht
  split at ht
  ·rw[hf]at ht;exact hst.env t v ht
  ·exact hst.env t v ht
 ·have hh:=hst.heap
  rw[T.s0]
  refine HR.congr (w:=w) (H:=⟨H.t,Nat.add H.next I.nd⟩) (X:=XL P nt ops H X<|Array.replicate ops.size false) ⟨hh.obj,hh.inj,λb hb=>hh.fresh b<|Nat.le_trans (Nat.le_add_right _ _) hb,hh.eV,hh.keep,hh.size,hh.os,?_,hh.down,hh.ot⟩ rfl rfl rfl
  rintro b (hb|⟨i,h1,h2,_,rfl⟩)
  ·obtain⟨h1,h2⟩:=hh.hole b hb
   grind
  ·refine⟨?_,hh.fresh _<|Nat.le_add_right _ _⟩
   have:=xl (p:=isD P nt ops) h1 h2
   show _<H.next+I.nd
   rw[T.di.nd]
   omega
 ·rw[hkk]
  refine⟨(S 0).H,by simpa[cf]using h0,rfl,λb o h=>h,λp m hp _=>?_⟩
  rw[T.s0]
  exact hst.heap.lC (by rw[(T.bl hp).id];grind)
 grind
theorem I6 {R:CR}{H':Heap}(Cq:aw (λ(H:Heap)(p:aF)=>some (H.put p.id p.o)) (S ops.size).pend (S ops.size).H=some H')(hI:Inv P nt ops e0 ds H I.aC W S X w0 g0 L a w)(hall:∀j,j<ops.size->L.getD j false=true) :
  bC X w0 g0 nt (.mk .normal (S ops.size).e (S ops.size).ds H') .normal a w:=by
 obtain⟨hL,g,K,hi⟩:=hI
 refine⟨rfl,g,hi.le,hi.env.1,?_,by rw[T.NZ (Nat.le_refl _)];exact hi.defs,?_⟩
 ·intro t v ht
  refine hi.env.2 t v ?_
  unfold envL
  cases hw:W.get t with
  | none=>rw[<- T.qk (Nat.le_refl _) hw];exact ht
  | some i=>
   obtain⟨o,ho,_⟩:=(T.di.wr t i).1 hw
   grind
 ·have hput:∀(pend:List aF)(H0 H1:Heap),aw (λ(H:Heap)(p:aF)=>some<|H.put p.id p.o) pend H0=some H1->H1.next=H0.next/\∀b o,H1.get b=some o->H0.get b=some o\/∃p∈pend,p.id=b/\p.o=o:=by
   intro pend
   induction pend with
   | nil=>intro H0 H1 h;rw[dI]at h;grind
   | cons p pend ih=>
    intro H0 H1 h
    rw[ah]at h
    obtain⟨H2,h1,h2⟩:=h
    cases h1
    obtain⟨i1,i2⟩:=ih _ _ h2
    refine⟨i1,λb o hb=>?_⟩
    rcases i2 b o hb with h|⟨p',h,h'⟩
    ·rw[Heap.aR]at h
     split at h
     ·grind
     grind
    grind
  obtain⟨h1,h2⟩:=hput _ _ _ Cq
  obtain⟨Hk,q7,hk2,A4,Gs⟩:=hi.at_
  have hkk:=T.I8 (L:=L) hall
  rw[hkk,T.HH<|Nat.le_refl _]at q7
  cases q7
  refine((hi.heap.RQ (H':=H') ?_<|by rw[h1,hk2])).weaken rfl (λb hb=>.inl hb)
  intro b o hb
  rcases h2 b o hb with h|⟨p,h3,h4,h5⟩
  ·exact⟨o,A4 b o h,.inl rfl⟩
  ·have oZ:fG P nt ops S p _:=.inl ⟨h3,rfl⟩
   have lN:=T.bl oZ
   obtain⟨o',h6,h7⟩:=hi.pend p _ oZ (hall _ (by have:=lN.lt;omega))<|by grind
   subst h4 h5
   refine⟨o',h6,?_⟩
   rcases h7 with⟨_,h⟩|⟨h7,es,h8,h9⟩
   ·exact .inl h
   ·refine .inr ⟨_,es,h7,h8,?_⟩
    have hen:aax L p=p.kP.map (·.2):=by
     unfold aax
     rw[List.filter_eq_self.2 ?_]
     intro z hz
     exact hall _ (lN.at_ z hz).1
    rw[hen]at h9
    exact h9.symm
end
theorem Il {P:Program}{ih:fP}(hm:P.follows .mixedOrders=true)(hS:SoundF P ih):uE P ih:=by
 intro X w0 g rd r id nt ops e ds H a w R hrd hst h
 obtain⟨I,W,S,T,kA,H',Cq,rfl⟩:=F7 h
 refine wpIn_region_any hm ?_
 have hX:∀b,X.ids b->b<H.next:=λb hb=>(hst.heap.hole b hb).1
 refine yE T hS hX ?_ kA (λL a w hI hall=>I6 (R:=.mk .normal e ds H) T Cq hI hall) _ _ _ _ ?_<|zN T hst hX
 ·intro t v ht
  obtain⟨x,hx,_⟩:=hst.env t v ht
  rw[<- hst.size]
  grind
 ·have z:∀(p:Nat->Bool)n i,cf p i n<=n:=by
   intro p n
   induction n with
   | zero=>intro i;simp[cf]
   | succ n ih=>intro i;have:=ih (i+1);simp only[cf];grind
  exact z _ _ _
theorem qO {P:Program}(hm:P.follows .mixedOrders=true){K:Orc}(hK:OrcOk P K){n:Nat}{X:Pt}{w0:World}{g:G}{H H':Heap}{w:World}{f:FuncId}{args:List AV}{xs:List Value}{v:AV}(hH:HR X w0 g H w)(hv:VRs g args xs)
  (h:(ev P K n).call f args H=some (v,H')):(∀(as:Array Value)(w:World),(callFunc f as).run P w=.ok (.enter f as) w)/\CallsIn Fence.wide 0 P f xs.toArray w (dR X w0 g v H'):=
 (Ca hK (λih hS=>Il hm hS) n).call hH hv h
end Go.Ev
