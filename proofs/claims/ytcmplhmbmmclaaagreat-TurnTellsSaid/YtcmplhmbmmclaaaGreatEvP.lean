/- Walks and rules. Conditions: none. -/
import Derived.Test.YtcmplhmbmmclaaaGreatEvO
set_option linter.unusedVariables false
set_option linter.unusedSectionVars false
namespace Go.Ev
section
variable {P:Program}{K:Orc}{rd:Option Nat}{nt:Nat}{l:Sl}{ds:List aD}{s:SH}{Q Qn Qr:Po}{Qe:Nat->Po}{F:Nat->FuncId}{T:Nat->TypeId}{bf bl:Nat}{aZ bE:AV}{c0 c1 c2 c3 c4:Int}{EL:List (List AV)}{d:SD}{t:SH}{tF:TypeId}{g:ED->CH->CH}{C:List CD}{tl:AD->List Nat}
theorem dN (a b:Nat):decide (Int.ofNat a=Int.ofNat b)=decide (a=b):=decide_eq_decide.2 ⟨λh=>Int.ofNat.inj h,λh=>by rw[h]⟩
structure ael (d:SD)(C:List CD)(ac ph:Nat)(b0 b1:Bool):Prop where
 small:d.Small
 even:d.kQ
 pl:∀p,p<3->∃lp,d.pl[p]?=some lp/\lp.f1=(decide (p=ac)&&b0)
 hd:∀p,p<3->∃bX,d.hd[p]?=some bX/\bX.length<=20/\∀id∈bX,∃o k c,d.obj id=some o/\o.gE=.ofNat k/\C[k]?=some c
 fi:d.fi.length<=20/\∀id∈d.fi,∃o k c,d.obj id=some o/\o.gE=.ofNat k/\C[k]?=some c
 ac:d.ac=.ofNat ac
 ph:d.ph=.ofNat ph
 st:decide (d.st.length=0)=!b1
structure LawU (P:Program)(K:Orc)(F:Nat->FuncId)(T:Nat->TypeId):Prop where
 hB:Base P K F T
 hC:BaseC P K F T
 hG:BaseG P K F T
 hT:TyC P T
 hM:gA P F (T 26)
 hU:BaseU P K F T
 hI:BaseB P K F T
 info:meth P (T 26) "Info"=some (F 58)
 t128:Ty P (T 128) 13
 hS:BaseT P K F T
 hL:BaseL P K F T
 hV:BaseV P K F T
 hJ:BaseI P K F T
theorem LawU.ge {P:Program}{K:Orc}{F:Nat->FuncId}{T:Nat->TypeId}{g:ED->CH->CH}{C:List CD}{d:SD}(h:LawU P K F T)(hd:d.Small)(he:d.kQ)(hO:nG P K F g d C):GE P K F T (T 26) g C d:=
 ⟨h.hB,h.hC,h.hG,h.hT,h.hM,h.hU,h.hI,h.info,h.t128,hd,he,hO⟩
structure abd (C:List CD):Prop where
 len:C.length=6
 no:∀c∈C,∀x∈c.ab,x.kind≠4
 one:∀(k:Nat)(c:CD),C[k]?=some c->(c.kind=1↔k=0)
 ab:∀c∈C,c.ab.length<=4
theorem aaf.ids {d:SD}{n:Nat}{C:List CD}(h:aaf d n)(hC:abd C){id:Int}(hid:∃o∈d.ob,o.id=id):∃o k c,d.obj id=some o/\o.gE=.ofNat k/\C[k]?=some c:=by
 obtain⟨o,ho,hi⟩:=hid
 obtain⟨o',ho',zF⟩:=ab2 ho hi
 obtain⟨k,hk,hk6⟩:=h.gE o' ho'
 exact⟨o',k,_,zF,hk,List.getElem?_eq_getElem (by rw[hC.len];exact hk6)⟩
theorem aaf.fin {d:SD}{n ac ph:Nat}{C:List CD}(h:aaf d n)(hC:abd C)(hn:n<=20):ael { d with tu:=d.tu+1,ac:=.ofNat ac,ph:=.ofNat ph } C ac ph false false:=by
 have hsm:=h.small hn
 have hhd:d.hd.length=3:=by rw[h.even.hd,h.pl];rfl
 refine⟨⟨hsm.n1,hsm.n2⟩,⟨h.even.lb,h.even.hd,h.even.gr,h.even.ex⟩,λp hp=>⟨Zz,?_,by rw[Bool.and_false];rfl⟩,λp hp=>?_,?_,rfl,rfl,?_⟩
 ·show d.pl[p]?=_
  rw[h.pl]
  rcases(by omega:p=0\/p=1\/p=2)with rfl|rfl|rfl<;>rfl
 ·have hl:d.hd[p]?=some d.hd[p]:=List.getElem?_eq_getElem (by omega)
  have hlm:d.hd[p]∈d.hd:=List.getElem_mem _
  obtain⟨h1,h2⟩:=h.hd _ hlm
  exact⟨_,hl,by omega,λid hid=>h.ids hC<|h2 id hid⟩
 ·exact⟨by have:=h.fi.1;show d.fi.length<=20;omega,λid hid=>h.ids hC<|h.fi.2 id hid⟩
 ·show decide (d.st.length=0)=_
  rw[h.st];rfl
theorem ace {g:ED->CH->CH}{d:SD}{C:List CD}{tl:AD->List Nat}{p:Nat}{lp:LD}{bX:List Int}(h1:bX.length<=20)(h2:d.fi.length<=20)(hab:∀c∈C,c.ab.length<=4):(vj g d C tl p lp bX).length<=1000:=by
 have hu:∀l:List Int,(usesT g d C tl p l).length<=4*l.length:=by
  intro l
  induction l with
  | nil=>exact Nat.le_refl _
  | cons id l ih=>
   have:(usesT g d C tl p<|id::l).length<=4+(usesT g d C tl p l).length:=by
    unfold usesT
    rw[List.flatMap_cons,List.length_append]
    refine Nat.add_le_add_right ?_ _
    split
    ·split
     ·split
      ·rename_i c hc
       exact Nat.le_trans (aaE ..)<|hab c<|List.mem_of_getElem? hc
      ·exact Nat.zero_le _
     ·exact Nat.zero_le _
    ·exact Nat.zero_le _
   rw[List.length_cons]
   omega
 have:=hu d.fi
 have h3:=List.length_filterMap_le (qb g d C tl p (ec d<|.ofNat p) lp) bX
 unfold vj
 rw[List.length_append,List.length_append]
 show 1+_<=_
 omega
def WOy (P:Program)(K:Orc)(ol:List bS)(l:Sl)(Q:Sl->Prop):Prop:=
 ∀(nt:Nat)(ops:Array Oper)(l0:List Oper)(e:Tr AV)(ds:List aD)(H:Heap),aI (co P nt ops.toList) l0=some ol->En l e->∃e' l',fj P K nt ops l0 e ds H (.mk .normal e' ds H)/\En l' e'/\Q l'
theorem WOy.nil {l:Sl}{Q:Sl->Prop}(h:Q l):WOy P K [] l Q:=by
 intro nt ops l0 e ds H hl he
 cases l0 with
 | nil=>exact⟨e,l,fj.nil,he,h⟩
 | cons a l0=>
  obtain⟨b,bs,h1,h2,h3⟩:=(aV _ a l0 _).1 hl
  cases h3
theorem WOy.r {d:Option Nat}{op:AOp}{rest:List bS}{v:AV}{l:Sl}{Q:Sl->Prop}(h:WR P op l [] v)(k:WOy P K rest (pl d v l) Q):WOy P K (⟨d,op,none⟩::rest) l Q:=by
 intro nt ops l0 e ds H hl he
 cases l0 with
 | nil=>cases hl
 | cons a l0=>
  obtain⟨b,bs,h1,h2,h3⟩:=(aV _ a l0 _).1 hl
  cases h3
  have hc:cOper P nt a=⟨d,op,none⟩:=by
   unfold co at h1
   generalize cOper P nt a=z at h1 |-
   obtain⟨d',op',g'⟩:=z
   dsimp only at h1
   cases g' with
   | none=>cases h1;rfl
   | some jw=>
    obtain⟨j,w⟩:=jw
    unfold cg at h1
    dsimp only at h1
    split at h1
    ·rename_i hq;split at hq
     ·split at hq
      ·cases hq;cases h1
      ·cases hq
     ·cases hq
    ·cases h1
  have hp:Hp ⟨.lf,0⟩ [] H:=⟨Nat.zero_le _,(λb o hb=>nomatch hb),List.Pairwise.nil,λb hb=>absurd hb<|Nat.not_lt_zero _⟩
  obtain⟨e',l',j1,j2,j3⟩:=k nt ops l0 (putO e d v) ds H h2<|he.putO d v
  exact⟨e',l',fj.cons hc rfl ⟨0,(h.q P _ (bL e) ds H).trans (by rw[h.h _ e H he hp])⟩ j1,j2,j3⟩
theorem WOy.seq2 {o1 o2:List bS}{b:AC}{l1:Sl}{Q1:Sl->Prop}{e:Tr AV}{ds:List aD}{H H0:Heap}{Qn Qr:Po}{Qe:Nat->Po}(h1:WOy P K o1 l1 Q1)(he:En l1 e)(h2:∀l' e',Q1 l'->En l' e'->WOa P K o2 e' ds H H0 (λl ds s=>WP P K none nt b l ds s Qn Qe Qr)){c0:Code}(hc:cc P nt c0=.seq (.ops o1) (.seq (.ops o2) b)) :
  ∃x e' ds' H' l' s',bt P K none nt c0 e ds H (.mk x e' ds' H')/\En l' e'/\Hp H0 s' H'/\(match x with | .normal=>Qn l' ds' s' | .exit i=>Qe i l' ds' s' | .ret=>Qr l' ds' s'):=by
 cases c0 with
 | seq a0 b0=>
  simp only[cc,AC.seq.injEq]at hc
  obtain⟨ha,hb⟩:=hc
  cases a0 with
  | region i ops d=>
   cases d with
   | true=>
    exfalso
    have hc:cdr P nt ops=.ops o1:=ha
    unfold cdr at hc
    split at hc
    ·split at hc<;>cases hc
    ·cases hc
   | false=>
    have hc:(match aI (co P nt ops.toList) ops.toList with | some l=>AC.ops l | none=>.bad)=.ops o1:=ha
    split at hc
    ·rename_i l' hl'
     cases hc
     obtain⟨e1,l2,k1,k2,k3⟩:=h1 nt ops ops.toList e ds H hl' he
     obtain⟨x,e2,ds2,H2,l2,s2,j1,j2,j3,j4⟩:=(h2 l2 e1 k3 k2).seq hb
     exact⟨x,e2,ds2,H2,l2,s2,bt.seq (bt.region k1) j1,j2,j3,j4⟩
    ·cases hc
  | _=>simp[cc]at ha
 | region i ops d=>exact(db hc).elim
 | _=>simp[cc]at hc
def aSp (k:Nat):AD:=⟨1,0,0,0,0,0,0,false,.slice (some ⟨1+k,0,0⟩) 1 1 false 1,.slice (some ⟨2+k,0,0⟩) 2 2 false 3,0,0,0⟩
def aQu (k:Nat):AD:=⟨1,0,0,0,0,0,0,false,nilS,.slice (some ⟨4+k,0,0⟩) 2 2 false 3,0,0,0⟩
def aMo (k:Nat):AD:=⟨2,0,0,0,0,0,0,true,nilS,.slice (some ⟨6+k,0,0⟩) 2 2 false 3,0,0,0⟩
def aHo (k:Nat):AD:=⟨3,3,1,0,0,0,0,false,nilS,.slice (some ⟨8+k,0,0⟩) 2 2 false 3,0,0,0⟩
def aHp (k:Nat):AD:=⟨2,0,0,0,0,0,0,false,nilS,.slice (some ⟨9+k,0,0⟩) 2 2 false 3,0,0,0⟩
def C22 (k:Nat):List CD:=[⟨⟨#[108,97,110,100]⟩,1,0,0,0,0,0,0,0,0,nilS,[]⟩,⟨⟨#[98,101,97,115,116]⟩,2,0,0,0,0,0,1,1,0,nilS,[]⟩,⟨⟨#[115,112,101,108,108]⟩,3,0,0,0,0,0,0,0,0,.slice (some ⟨3+k,0,0⟩) 1 1 false 13,[aSp k]⟩,⟨⟨#[113,117,105,99,107]⟩,3,0,0,0,0,0,0,0,64,.slice (some ⟨5+k,0,0⟩) 1 1 false 13,[aQu k]⟩,⟨⟨#[109,111,110,107]⟩,2,0,0,0,0,0,0,1,0,.slice (some ⟨7+k,0,0⟩) 1 1 false 13,[aMo k]⟩,⟨⟨#[104,111,114,110]⟩,4,0,0,0,0,0,0,0,0,.slice (some ⟨10+k,0,0⟩) 2 2 false 13,[aHo k,aHp k]⟩]
theorem aaw {k:Nat}{Q:CD->Prop}(h0:∀c∈C22 k,c.ab=[]->c.av=nilS->Q c)(h1:∀c∈C22 k,c.ab=[aSp k]->c.av=.slice (some ⟨3+k,0,0⟩) 1 1 false 13->Q c)(h2:∀c∈C22 k,c.ab=[aQu k]->c.av=.slice (some ⟨5+k,0,0⟩) 1 1 false 13->Q c)
  (h3:∀c∈C22 k,c.ab=[aMo k]->c.av=.slice (some ⟨7+k,0,0⟩) 1 1 false 13->Q c) (h4:∀c∈C22 k,c.ab=[aHo k,aHp k]->c.av=.slice (some ⟨10+k,0,0⟩) 2 2 false 13->Q c):∀c∈C22 k,Q c:=by
 intro c hc
 have uz:=hc
 simp only[C22,List.mem_cons,List.not_mem_nil,or_false]at uz
 rcases uz with h|h|h|h|h|h
 ·exact h0 c hc (by rw[h])<|by rw[h]
 ·exact h0 c hc (by rw[h])<|by rw[h]
 ·exact h1 c hc (by rw[h])<|by rw[h]
 ·exact h2 c hc (by rw[h])<|by rw[h]
 ·exact h3 c hc (by rw[h])<|by rw[h]
 ·exact h4 c hc (by rw[h])<|by rw[h]
theorem ab1 (k:Nat):abd (C22 k) where
 len:=rfl
 no:=aaw (λc _ h _ x hx=>by rw[h]at hx;cases hx) (λc _ h _ x hx=>by rw[h]at hx;rw[List.mem_singleton.1 hx];exact(by decide:¬(1:Int)=4)) (λc _ h _ x hx=>by rw[h]at hx;rw[List.mem_singleton.1 hx];exact(by decide:¬(1:Int)=4)) (λc _ h _ x hx=>by rw[h]at hx;rw[List.mem_singleton.1 hx];exact(by decide:¬(2:Int)=4)) (λc _ h _ x hx=>by
  rw[h]at hx
  rcases List.mem_cons.1 hx with rfl|hx
  ·exact(by decide:¬(3:Int)=4)
  ·rw[List.mem_singleton.1 hx];exact(by decide:¬(2:Int)=4))
 one:=by
  intro j c hj
  match j,hj with
  | 0,hj=>cases hj;exact⟨λ_=>rfl,λ_=>rfl⟩
  | 1,hj=>cases hj;exact⟨λh=>absurd h (by decide:¬(2:Int)=1),λh=>absurd h<|by decide⟩
  | 2,hj=>cases hj;exact⟨λh=>absurd h (by decide:¬(3:Int)=1),λh=>absurd h<|by decide⟩
  | 3,hj=>cases hj;exact⟨λh=>absurd h (by decide:¬(3:Int)=1),λh=>absurd h<|by decide⟩
  | 4,hj=>cases hj;exact⟨λh=>absurd h (by decide:¬(2:Int)=1),λh=>absurd h<|by decide⟩
  | 5,hj=>cases hj;exact⟨λh=>absurd h (by decide:¬(4:Int)=1),λh=>absurd h<|by decide⟩
  | j+6,hj=>cases hj
 ab:=aaw (λc _ h _=>by rw[h];decide) (λc _ h _=>by rw[h];exact(by decide:1<=4)) (λc _ h _=>by rw[h];exact(by decide:1<=4)) (λc _ h _=>by rw[h];exact(by decide:1<=4)) (λc _ h _=>by rw[h];exact(by decide:2<=4))
def abX (a:AD):List Nat:=match a.tg with | .slice (some _) _ _ _ _=>[1] | _=>[]
@[reducible] def ab9 (k:Nat):List AV:=d22.cells (pn (479+k) 3 8) (pn (509+k) 6 14) (pn (521+k) 3 1) (pn (527+k) 3 1) (pn (533+k) 3 1) (pn (539+k) 3 1) nilS nilS nilS++([nilS]++(d22.cells (pn (543+k) 3 8) (pn (573+k) 6 14) (pn (585+k) 3 1) (pn (591+k) 3 1) (pn (597+k) 3 1) (pn (603+k) 3 1) nilS nilS nilS++[]))
@[reducible] def ad0 (k:Nat):List (List AV):=[[pn (575+k) 3 1],[pn (579+k) 2 1],[pn (583+k) 1 1]]
@[reducible] def acW (k:Nat):List AV:=bu (475+k) (pn (605+k) 6 11) 60 8 80 20 20 nilS
def stL (k:Nat):List (Nat × Nat × List (List AV)):=[(543+k,8,Am d22.pl),(573+k,14,fy d22.ob),(585+k,1,ad0 k),(591+k,1,n3),(597+k,1,n3),(603+k,1,n3),(575+k,1,nR [1,2,3]),(579+k,1,nR [4,5]),(583+k,1,nR [6])]
def tL (k:Nat):List (Nat × Nat × List (List AV)):=[(473+k,8,[acW k]),(605+k,11,(C22 k).map CD.row),(3+k,13,[(aSp k).row]),(5+k,13,[(aQu k).row]),(7+k,13,[(aMo k).row]),(10+k,13,[(aHo k).row,(aHp k).row]),(1+k,1,nR [1])]
def V0 (k:Nat):List (Nat × Nat × List (List AV)):=(475+k,51,[ab9 k])::(stL k++tL k)
theorem acy (k:Nat):mD (Dw (stL k)) (pn (543+k) 3 8) (pn (573+k) 6 14) (pn (585+k) 3 1) (pn (591+k) 3 1) (pn (597+k) 3 1) (pn (603+k) 3 1) nilS nilS nilS d22 where
 pl:=Src.all (L:=Am d22.pl) .here
 ob:=Src.all (L:=fy d22.ob)<|.there .here
 lb:=⟨_,Src.all (L:=ad0 k)<|.there<|.there .here,.cons (Src.all (L:=nR [1,2,3])<|.there<|.there<|.there<|.there<|.there<|.there .here)<|.cons (Src.all (L:=nR [4,5])<|.there<|.there<|.there<|.there<|.there<|.there<|.there .here)<|.cons (Src.all (L:=nR [6])<|.there<|.there<|.there<|.there<|.there<|.there<|.there<|.there .here) .nil⟩
 hd:=⟨_,Src.all (L:=n3)<|.there<|.there<|.there .here,.cons .nil<|.cons .nil<|.cons .nil .nil⟩
 gr:=⟨_,Src.all (L:=n3)<|.there<|.there<|.there<|.there .here,.cons .nil<|.cons .nil<|.cons .nil .nil⟩
 ex:=⟨_,Src.all (L:=n3)<|.there<|.there<|.there<|.there<|.there .here,.cons .nil<|.cons .nil<|.cons .nil .nil⟩
 fi:=.nil
 st:=.nil
 wa:=.nil
theorem aca (k:Nat)(t:SH):aH (475+k) [] d22 t ((475+k,.r false [ab9 k] 51)::([]++(Dw (stL k)++t))):=
 ⟨_,nilS,pn (543+k) 3 8,pn (573+k) 6 14,pn (585+k) 3 1,pn (591+k) 3 1,pn (597+k) 3 1,pn (603+k) 3 1,nilS,nilS,nilS,[],Dw<|stL k,.refl _,rfl,.nil,acy k⟩
theorem adJ (k:Nat)(z:SH):qc (473+k) (475+k) (pn (605+k) 6 11) nilS 60 8 80 20 20 (C22 k) abX (Dw (tL k)++z) where
 hf:=.here
 eQ:={
  src:=Src.all (L:=(C22 k).map CD.row)<|.there .here
  ab:=aaw (λc _ h h'=>by rw[h,h'];exact .nil) (λc _ h h'=>by rw[h,h'];exact Src.all (L:=[_])<|.there<|.there .here) (λc _ h h'=>by rw[h,h'];exact Src.all (L:=[_])<|.there<|.there<|.there .here) (λc _ h h'=>by rw[h,h'];exact Src.all (L:=[_])<|.there<|.there<|.there<|.there .here) (λc _ h h'=>by rw[h,h'];exact Src.all (L:=[_,_])<|.there<|.there<|.there<|.there<|.there .here)
  n:=Nat.le_of_ble_eq_true rfl
  nb:=λc hc=>Nat.le_trans ((ab1 k).ab c hc) (by decide) }
 htg:=by
  have zE:∀a:AD,a.tg=nilS->dz a.cd a.cd=true->Src (Dw (tL k)++z) 1 a.tg (nR<|(abX a).map Int.ofNat)/\(∀j∈abX a,j<8)/\(abX a).length<=1000/\dz a.cd a.cd=true:=by
   intro a h hs
   have htl:abX a=[]:=by unfold abX;rw[h]
   rw[htl,h]
   exact⟨.nil,(λj hj=>nomatch hj),Nat.zero_le _,hs⟩
  have ng:∀b:Nat,dz (.slice (some ⟨b,0,0⟩) 2 2 false 3) (.slice (some ⟨b,0,0⟩) 2 2 false 3)=true:=λb=>by simp[dz,sameN,same0]
  refine aaw (λc _ h _ a ha=>by rw[h]at ha;cases ha) (λc _ h _ a ha=>?_) (λc _ h _ a ha=>?_) (λc _ h _ a ha=>?_)<|λc _ h _ a ha=>?_
  ·rw[h]at ha
   rw[List.mem_singleton.1 ha]
   refine⟨Src.all (L:=nR [1])<|.there<|.there<|.there<|.there<|.there<|.there .here,λj hj=>?_,Nat.le_of_ble_eq_true rfl,ng _⟩
   rw[List.mem_singleton.1 (show j∈[1]from hj)]
   decide
  ·rw[h]at ha
   rw[List.mem_singleton.1 ha]
   exact zE _ rfl<|ng _
  ·rw[h]at ha
   rw[List.mem_singleton.1 ha]
   exact zE _ rfl<|ng _
  ·rw[h]at ha
   rcases List.mem_cons.1 ha with rfl|ha
   ·exact zE _ rfl<|ng _
   ·rw[List.mem_singleton.1 ha]
    exact zE _ rfl<|ng _
noncomputable def abp:V:={ vU with t:=13,a:=2 }
noncomputable def abq:V:={ vU with t:=13,a:=3 }
noncomputable def abm (v:V)(i:Nat):Bool:=Nat.beq v.t 13&&Nat.beq v.a i
noncomputable def acP (P:Program)(ih:bT)(c:Code)(k:Nat)(ex:List (Nat × Nat × List (List AV)))(z:Nat):FH->Bool:=
 RE P 82 ih (spine 4 c).1 (λe h=>Du h (V0 k++ex)&&(wI e [(0,.bool false),(10,.ptr<|some ⟨473+k,0,0⟩),(12,nilS)]&&(abm (atR 1 e) 2&&(abm (atR 2 e) 3&&(abm (atR 3 e) 0&&(Nat.beq (ap 0 h).t z&&(Nat.beq (ap 0 h).lp.nt 0&&(match h.fr.ds with | []=>true | _=>false))))))))
  (Ba [vB false,abp,abq,rJ] 0 kj)
end
section
variable [Sg]{P:Program}{K:Orc}{F:Nat->FuncId}{T:Nat->TypeId}
theorem P0 {v w:V}{i:Nat}{a b:AV}(h:abm v i=true)(hv:VA v a)(hw:VA w b)(h1:w.t=13)(h2:w.a=i):a=b:=by
 obtain⟨k1,k2⟩:=Bool.and_eq_true_iff.1 h
 have e1:=(hv.mP<|Nat.eq_of_beq_eq_true k1).1
 rw[Nat.eq_of_beq_eq_true k2]at e1
 have e2:=(hw.mP h1).1
 rw[h2]at e2
 rw[e1,e2]
theorem acd (a b:List (Nat × Nat × List (List AV))):Dw (a++b)=Dw a++Dw b:=by unfold Dw;rw[List.map_append]
theorem abP (hB:Base P K F T) (hT2:FnK P K (F 271) 19 [] (abM F T)) (abh:FnK P K (F 280) 9 [] (abN F T)) (hS:aaV P K F) {ih:bT} (hC:eL P K ih) {fn:Func} {c:Code} (hf:P.funcs[F 35]?=some fn) (hb:fn.body=some c) (hnt:fn.ntmps=82) (hres:fn.results.toList=[.tmp 8,.tmp 9]) (hname:(fn.name == "runtime.NumGoroutine")=false)
  (j5:cc P 82 (spine 4 c).2=ab0 F T) (hK:∀args H,K (F 35) args H=none) {h0:FH} {H0:Heap} (hH:cj h0 H0) (hfr:xe h0.fr [] none) {z k:Nat} {ex:List (Nat × Nat × List (List AV))} (Yl:(Dw<|V0 k++ex).Pairwise λp q=>p.1≠q.1) (adM:∀p∈Dw (V0 k++ex),p.1≠0) (hpre:acP P ih c k ex z h0=true) {ac ph:Nat} (hac:ac<3) (hph:ph<10) {lv:AV} (Gw:VA abp (iv<|.ofNat ac)) (hv3:VA abq (iv<|.ofNat ph)) (hlv:VA rJ lv) {L:List (List AV)} {ps cs zs:Nat->Nat} (XV:lenOf lv=some L.length)
  (XW:∀i,i<L.length->∃x z y:Nat,x<=255/\z<=255/\y<=255/\L[i]?=some [.int .u8 (.ofNat x),.int .u8<|.ofNat z,.int .u8<|.ofNat y]/\x%6=cs i/\z%2=zs i/\y%3=ps i) (XX:0<L.length->z=5/\(∃cap sl,lv=.slice (some ⟨0,0,0⟩) L.length cap sl 3)/\(HO.r true L 3).ok (some<|Sg.iK 0)) :
  ∃H' s' z0 ids EL,cD P K (F 35) [.bool false,iv<|.ofNat ac,iv<|.ofNat ph,lv] H0 (.tuple [.ptr (some ⟨473+k,0,0⟩),ids]) H'/\Hp ⟨.lf,0⟩ s' H'/\aH (475+k) EL (dF ps cs zs (min L.length 20) ac ph) (Dw (tL k)++(Dw ex++z0)) s'/\EL.length<=22/\(0<L.length->Has 0 (.r true L 3) z0):=by
 obtain⟨e0,iL,XN⟩:=sU (nt:=82) (.cons (VA.bool false)<|.cons Gw<|.cons hv3<|.cons hlv .nil) (by omega)<|by simp
 obtain⟨E',H',ds',e',h',q1,q2,q3,q4,q5⟩:=ye (rd:=none) (ds:=[]) hC (spine 4 c).1 XN hH hfr hpre
 obtain⟨k1,q4⟩:=Bool.and_eq_true_iff.1 q4
 obtain⟨k2,q4⟩:=Bool.and_eq_true_iff.1 q4
 obtain⟨k3,q4⟩:=Bool.and_eq_true_iff.1 q4
 obtain⟨k3b,q4⟩:=Bool.and_eq_true_iff.1 q4
 obtain⟨k3c,q4⟩:=Bool.and_eq_true_iff.1 q4
 obtain⟨k5,q4⟩:=Bool.and_eq_true_iff.1 q4
 obtain⟨k6,k7⟩:=Bool.and_eq_true_iff.1 q4
 have hds:=Cl q3 k7
 subst hds
 have hmem:=Dv q2 k1
 have ng:=AH q1 k2 (λp hp=>by
  simp only[List.mem_cons,List.not_mem_nil,or_false]at hp
  rcases hp with rfl|rfl|rfl<;>exact Nat.le_of_ble_eq_true rfl)
 obtain⟨a1,Xv,v1⟩:=q1.slot 1<|by omega
 obtain⟨a2,e2',v2⟩:=q1.slot 2<|by omega
 obtain⟨a3,e3',v3⟩:=q1.slot 3<|by omega
 have Xw:=P0 k3 v1 Gw rfl rfl
 have ea2:=P0 k3b v2 hv3 rfl rfl
 have ea3:=P0 k3c v3 hlv rfl rfl
 subst Xw ea2 ea3
 have main:∀z0:SH,(∀b o,(b,o)∈z0->b=0/\b<H'.next/\o.ok (H'.get b))->z0.Pairwise (λp q=>p.1≠q.1)->(0<L.length->∃cap sl,a3=.slice (some ⟨0,0,0⟩) L.length cap sl 3/\Has 0 (.r true L 3) z0) ->
   ∃H3 s' z0 ids EL,cD P K (F 35) [.bool false,iv<|.ofNat ac,iv<|.ofNat ph,a3] H0 (.tuple [.ptr (some ⟨473+k,0,0⟩),ids]) H3/\Hp ⟨.lf,0⟩ s' H3/\aH (475+k) EL (dF ps cs zs (min L.length 20) ac ph) (Dw (tL k)++(Dw ex++z0)) s'/\EL.length<=22/\(0<L.length->Has 0 (.r true L 3) z0):=by
  intro z0 hz0 hzp mO
  have hp:Hp ⟨.lf,0⟩ (Dw (V0 k++ex)++z0) H':=by
   refine⟨Nat.zero_le _,?_,?_,λb hb=>absurd hb<|Nat.not_lt_zero _⟩
   ·intro b o hb
    rcases List.mem_append.1 hb with hb|hb
    ·exact hmem b o hb
    ·exact(hz0 b o hb).2
   ·refine List.pairwise_append.2 ⟨Yl,hzp,?_⟩
    intro p hp q hq
    rw[(hz0 q.1 q.2 hq).1]
    exact adM p hp
  have hs:aH (475+k) [] d22 (Dw (tL k)++(Dw ex++z0)) (Dw (V0 k++ex)++z0):=by
   have:=aca k<|Dw (tL k)++(Dw ex++z0)
   rw[acd,List.append_assoc,show Dw (V0 k)=(475+k,.r false [ab9 k] 51)::(Dw (stL k)++Dw (tL k))from rfl,List.cons_append,List.append_assoc]
   exact this
  have XO:En [(0,.bool false),(1,iv<|.ofNat ac),(2,iv<|.ofNat ph),(3,a3),(10,.ptr<|some ⟨473+k,0,0⟩),(12,nilS)] E':=by
   intro i v hi
   simp only[lu]at hi
   split at hi
   ·rename_i h;cases hi;rw[<- h];exact ng 0 _<|by simp
   ·split at hi
    ·rename_i h;cases hi;rw[<- h];exact Xv
    ·split at hi
     ·rename_i h;cases hi;rw[<- h];exact e2'
     ·split at hi
      ·rename_i h;cases hi;rw[<- h];exact e3'
      ·split at hi
       ·rename_i h;cases hi;rw[<- h];exact ng 10 _<|by simp
       ·split at hi
        ·rename_i h;cases hi;rw[<- h];exact ng 12 _<|by simp
        ·cases hi
  obtain⟨xx,e'',Xu,H2,l',s',r1,r2,r3,r4⟩:=acV hB hT2 abh hS hac hph (T:=T) (Qn:=Kj) (Qe:=λ_=>Kj) (Qr:=λl ds s=>ds=[]/\∃ids EL,aH (475+k) EL (dF ps cs zs (min L.length 20) ac ph) (Dw (tL k)++(Dw ex++z0)) s/\EL.length<=22/\lk l 8=some (.ptr<|some ⟨473+k,0,0⟩)/\lk l 9=some ids)
   ⟨XV,λh=>by
    obtain⟨cap,sl,w1,w2⟩:=mO h
    exact⟨0,cap,sl,w1,.app (.app w2)⟩,XW⟩ hs (adJ k _).hf rfl rfl rfl rfl rfl rfl (λl2 s2 ids Gg hE2 dt h8 h9=>⟨rfl,ids,Gg,dt,hE2,h8,h9⟩) (spine 4 c).2 j5 ⟨.lf,0⟩ E' H' XO hp
  have run:=q5 (spine 4 c).2 _ r1
  rw[ug]at run
  cases xx with
  | normal=>exact r4.elim
  | exit i=>exact r4.elim
  | ret=>
   obtain⟨rfl,ids,EL,w1,w3,w4,w5⟩:=r4
   refine⟨H2,s',z0,ids,EL,cD.enter (hK _ _) hf hb (by rw[hnt,hname];rfl) (by rw[hnt];exact iL) (by rw[hnt];exact run) (.inl rfl) ?_,r3,w1,w3,λh=>(mO h).choose_spec.choose_spec.2⟩
   have e8:resultOf P e'' H2 (.tmp 8)=some _:=r2 8 _ w4
   have e9:resultOf P e'' H2 (.tmp 9)=some _:=r2 9 _ w5
   rw[hres]
   show(match aI (resultOf P e'' H2) [.tmp 8,.tmp 9]with | some [v]=>some v | some vs=>some (.tuple vs) | none=>none)=_
   simp only[aI,e8,e9]
 rcases Nat.eq_zero_or_pos L.length with h|h
 ·exact main [] (λb o hb=>nomatch hb) .nil<|λk=>by omega
 ·obtain⟨rfl,⟨cap,sl,hl⟩,hok⟩:=XX h
  have g0:=(q2.block 0<|by omega).DM (Nat.eq_of_beq_eq_true k5)
  rw[Nat.eq_of_beq_eq_true k6]at g0
  have hn:0<H'.next:=Nat.lt_of_le_of_lt (Nat.zero_le _) (hmem (475+k) _<|List.mem_cons_self ..).1
  refine main [(0,.r true L 3)] ?_ (List.pairwise_singleton ..)<|λ_=>⟨cap,sl,hl,.here⟩
  intro b o hb
  rw[List.mem_singleton]at hb
  cases hb
  exact⟨rfl,hn,by rw[g0];exact hok⟩
end
section
variable {P:Program}{K:Orc}
theorem WOa.r {d:Option Nat}{op:AOp}{rest:List bS}{v:AV}{l:Sl}{e:Tr AV}{ds:List aD}{H H0:Heap}{Q:Po}(h:WR P op l [] v)(he:En l e)(k:WOa P K rest (putO e d v) ds H H0 Q):WOa P K (⟨d,op,none⟩::rest) e ds H H0 Q:=by
 have hp:Hp ⟨.lf,0⟩ [] H:=⟨Nat.zero_le _,(λb o hb=>nomatch hb),List.Pairwise.nil,λb hb=>absurd hb<|Nat.not_lt_zero _⟩
 exact WOa.cons ⟨0,(h.q P _ (bL e) ds H).trans (by rw[h.h _ e H he hp])⟩ k
end
section
variable [Sg]{P:Program}{K:Orc}{F:Nat->FuncId}{T:Nat->TypeId}
end
inductive C8 (F:Nat->FuncId):FuncId->List AV->Heap->AV->Heap->Prop
 | w (H:Heap):C8 F (F 34) [] H (.bool true) H
 | cN (H:Heap) (p c z:Int):0<=p/\p<=2->0<=c/\c<=5->1<=z/\z<=2->C8 F (F 201) [.agg (evRow 1 p c z 0 it0)] H (iv 0) H
 | cT (H:Heap) (a:Int):0<=a/\a<=2->C8 F (F 201) [.agg (evRow 20 a 0 0 0 it0)] H (iv 0) H
 | cP (H:Heap) (a:Int):0<=a/\a<=9->C8 F (F 201) [.agg (evRow 19 a 0 0 0 it0)] H (iv 0) H
 | cL (H:Heap) (a:Int):0<=a/\a<=2->C8 F (F 201) [.agg (evRow 9 a 0 1 0 it0)] H (iv 0) H
 | cU (H:Heap):C8 F (F 201) [.agg (evRow 15 0 0 0 0 it1)] H (iv 0) H
theorem C8.uniq {F:Nat->FuncId}(hne:F 34≠F 201){f:FuncId}{args:List AV}{H:Heap}{v u:AV}{H' I:Heap}(h:C8 F f args H v H')(h2:C8 F f args H u I):u=v/\I=H':=by
 have key:∀{f:FuncId}{args:List AV}{H:Heap}{v:AV}{H':Heap},C8 F f args H v H'->H'=H/\((f=F 34/\v=.bool true)\/(f=F 201/\v=iv 0)):=by
  intro f args H v H' h
  cases h<;>first | exact⟨rfl,.inl ⟨rfl,rfl⟩⟩ | exact⟨rfl,.inr ⟨rfl,rfl⟩⟩
 have q1:=key h
 have q2:=key h2
 refine⟨?_,by rw[q2.1,q1.1]⟩
 rcases q1.2 with⟨e1,w1⟩|⟨e1,w1⟩<;>rcases q2.2 with⟨e2,w2⟩|⟨e2,w2⟩<;>first|(rw[w1,w2];done)|exact absurd (e1.symm.trans e2) hne|exact absurd (e2.symm.trans e1) hne
theorem aaC {a m:Nat}(h:a<=m):(0:Int)<=.ofNat a/\(.ofNat a:Int)<=.ofNat m:=⟨Int.natCast_nonneg a,Int.ofNat_le.2 h⟩
theorem says8 {P:Program}{F:Nat->FuncId}(hne:F 34≠F 201):aaV P (orcOf (C8 F)) F:=by
 have known:∀{f:FuncId}{args:List AV},(∀H,C8 F f args H (iv 0) H)->∀s,bB P (orcOf<|C8 F) f args s (λv s'=>v=iv 0/\s'=s):=λh s=>
  bB.known (λH=>kG (h H) λu I h2=>C8.uniq hne (h H) h2) ⟨rfl,rfl⟩
 refine⟨λp c z hp hc hz=>known λH=>?_,λa ha=>known λH=>?_,λa ha=>known λH=>?_,λa ha=>known λH=>?_,known λH=>.cU H⟩
 ·exact .cN H _ _ _ (aaC (m:=2)<|by omega) (aaC (m:=5)<|by omega) ⟨Int.ofNat_le.2 (by omega:1<=1+z),Int.ofNat_le.2 (by omega:1+z<=2)⟩
 ·exact .cT H _<|aaC (m:=2)<|by omega
 ·exact .cP H _<|aaC (m:=9)<|by omega
 ·exact .cL H _<|aaC (m:=2)<|by omega
theorem orc8_w {F:Nat->FuncId}(hne:F 34≠F 201)(H:Heap):orcOf (C8 F) (F 34) [] H=some (.bool true,H):=kG (.w H) λu I h=>C8.uniq hne (.w H) h
theorem orc8_none {F:Nat->FuncId}{f:FuncId}(h1:f≠F 34)(h2:f≠F 201)(args:List AV)(H:Heap):orcOf (C8 F) f args H=none:=
 wn λu I h=>by cases h<;>first | exact h1 rfl | exact h2 rfl
theorem orc8_ok {P:Program}{F:Nat->FuncId}(kw:gW P (F 34) [] vu (.bool true) vu)(kN:∀p c z:Int,0<=p/\p<=2->0<=c/\c<=5->1<=z/\z<=2->gW P (F 201) [.agg (evRow 1 p c z 0 it0)] vu (iv 0) vu)
  (kT:∀a:Int,0<=a/\a<=2->gW P (F 201) [.agg (evRow 20 a 0 0 0 it0)] vu (iv 0) vu) (kP:∀a:Int,0<=a/\a<=9->gW P (F 201) [.agg (evRow 19 a 0 0 0 it0)] vu (iv 0) vu) (kL:∀a:Int,0<=a/\a<=2->gW P (F 201) [.agg (evRow 9 a 0 1 0 it0)] vu (iv 0) vu) (kU:gW P (F 201) [.agg (evRow 15 0 0 0 0 it1)] vu (iv 0) vu):OrcOk P (orcOf<|C8 F):=by
 refine DX λf args H v H' h=>?_
 cases h with
 | w=>exact kw.anywhere (λ_=>rfl) (λ_=>rfl) _
 | cN _ p c z h1 h2 h3=>exact(kN p c z h1 h2 h3).anywhere (λ_=>rfl) (λ_=>rfl) _
 | cT _ a h1=>exact(kT a h1).anywhere (λ_=>rfl) (λ_=>rfl) _
 | cP _ a h1=>exact(kP a h1).anywhere (λ_=>rfl) (λ_=>rfl) _
 | cL _ a h1=>exact(kL a h1).anywhere (λ_=>rfl) (λ_=>rfl) _
 | cU=>exact kU.anywhere (λ_=>rfl) (λ_=>rfl) _
theorem abF [Sg]{lv:AV}(h:Sg.val 2=lv)(ho:Opq lv):VA abp lv:=by
 subst h
 exact VA.DM (v:=abp) rfl ho.one ho.nb ho.same
theorem abG [Sg]{lv:AV}(h:Sg.val 3=lv)(ho:Opq lv):VA abq lv:=by
 subst h
 exact VA.DM (v:=abq) rfl ho.one ho.nb ho.same
section
variable {P:Program}{K:Orc}{F:Nat->FuncId}{T:Nat->TypeId}{f:FuncId}{fn:Func}{c:Code}{aaM:Func}{c35:Code}{R:iB}{n:Nat}
def a39 (F:Nat->FuncId)(T:Nat->TypeId):AC:=(oN [zo 6 (.alloc 3 [(za 0),(za 0),(za 0)])] (oN [zm 7 0,zm 8 1,zm 9 2,zo 10 (.build [(za 0),(za 0),(za 0)] [⟨0,⟨1,7⟩⟩,⟨1,⟨1,8⟩⟩,⟨2,⟨1,9⟩⟩]),zn (.store 3 6 10)] .ret))
def a40 (F:Nat->FuncId)(T:Nat->TypeId):AC:=(oN [zo 0 (.mv (.const (.slice none 0 0)))] (oN [zo 1 (.build yz [⟨0,⟨1,(.const (.string ⟨#[108,97,110,100]⟩))⟩⟩,⟨1,⟨1,(zc 1)⟩⟩]),zo 2 (.build yz [⟨0,⟨1,(.const (.string ⟨#[98,101,97,115,116]⟩))⟩⟩,⟨1,⟨1,(zc 2)⟩⟩,⟨7,⟨1,(zc 1)⟩⟩,⟨8,⟨1,(zc 1)⟩⟩]),zo 3 (.bslice 1 1 [(za 0)] [⟨0,(zc 1)⟩]),oF F 4 96 [],zo 5 (.build [(za 0),(za 0),(za 0),(za 0),(za 0),(za 0),(za 0),(.bool false),(.slice none 0 0 false 0),(.slice none 0 0 false 0),(za 0),(za 0),(za 0)] [⟨0,⟨1,(zc 1)⟩⟩,⟨8,⟨1,3⟩⟩,⟨9,⟨1,4⟩⟩]),zo 6 (.bslice 13 1 [(za 0),(za 0),(za 0),(za 0),(za 0),(za 0),(za 0),(.bool false),(.slice none 0 0 false 0),(.slice none 0 0 false 0),(za 0),(za 0),(za 0)] [⟨0,5⟩]),zo 7 (.build yz [⟨0,⟨1,(.const (.string ⟨#[115,112,101,108,108]⟩))⟩⟩,⟨1,⟨1,(zc 3)⟩⟩,⟨10,⟨1,6⟩⟩]),oF F 8 96 [],zo 9 (.build [(za 0),(za 0),(za 0),(za 0),(za 0),(za 0),(za 0),(.bool false),(.slice none 0 0 false 0),(.slice none 0 0 false 0),(za 0),(za 0),(za 0)] [⟨0,⟨1,(zc 1)⟩⟩,⟨9,⟨1,8⟩⟩]),zo 10 (.bslice 13 1 [(za 0),(za 0),(za 0),(za 0),(za 0),(za 0),(za 0),(.bool false),(.slice none 0 0 false 0),(.slice none 0 0 false 0),(za 0),(za 0),(za 0)] [⟨0,9⟩]),zo 11 (.build yz [⟨0,⟨1,(.const (.string ⟨#[113,117,105,99,107]⟩))⟩⟩,⟨1,⟨1,(zc 3)⟩⟩,⟨9,⟨1,(zc 64)⟩⟩,⟨10,⟨1,10⟩⟩]),oF F 12 96 [],zo 13 (.build [(za 0),(za 0),(za 0),(za 0),(za 0),(za 0),(za 0),(.bool false),(.slice none 0 0 false 0),(.slice none 0 0 false 0),(za 0),(za 0),(za 0)] [⟨0,⟨1,(zc 2)⟩⟩,⟨7,⟨1,(.const (.bool true))⟩⟩,⟨9,⟨1,12⟩⟩]),zo 14 (.bslice 13 1 [(za 0),(za 0),(za 0),(za 0),(za 0),(za 0),(za 0),(.bool false),(.slice none 0 0 false 0),(.slice none 0 0 false 0),(za 0),(za 0),(za 0)] [⟨0,13⟩]),zo 15 (.build yz [⟨0,⟨1,(.const (.string ⟨#[109,111,110,107]⟩))⟩⟩,⟨1,⟨1,(zc 2)⟩⟩,⟨8,⟨1,(zc 1)⟩⟩,⟨10,⟨1,14⟩⟩]),oF F 16 96 [],zo 17 (.build [(za 0),(za 0),(za 0),(za 0),(za 0),(za 0),(za 0),(.bool false),(.slice none 0 0 false 0),(.slice none 0 0 false 0),(za 0),(za 0),(za 0)] [⟨0,⟨1,(zc 3)⟩⟩,⟨1,⟨1,(zc 3)⟩⟩,⟨2,⟨1,(zc 1)⟩⟩,⟨9,⟨1,16⟩⟩]),oF F 18 96 [],zo 19 (.build [(za 0),(za 0),(za 0),(za 0),(za 0),(za 0),(za 0),(.bool false),(.slice none 0 0 false 0),(.slice none 0 0 false 0),(za 0),(za 0),(za 0)] [⟨0,⟨1,(zc 2)⟩⟩,⟨9,⟨1,18⟩⟩]),zo 20 (.bslice 13 2 [(za 0),(za 0),(za 0),(za 0),(za 0),(za 0),(za 0),(.bool false),(.slice none 0 0 false 0),(.slice none 0 0 false 0),(za 0),(za 0),(za 0)] [⟨0,17⟩,⟨1,19⟩]),zo 21 (.build yz [⟨0,⟨1,(.const (.string ⟨#[104,111,114,110]⟩))⟩⟩,⟨1,⟨1,(zc 4)⟩⟩,⟨10,⟨1,20⟩⟩]),zo 22 (.bslice 11 6 yz [⟨0,1⟩,⟨1,2⟩,⟨2,7⟩,⟨3,11⟩,⟨4,15⟩,⟨5,21⟩]),zm 0 22] .ret))
def a96 (F:Nat->FuncId)(T:Nat->TypeId):AC:=(oN [zo 0 (.mv (.const (.slice none 0 0)))] (oN [zo 1 (.build [(za 0),(za 0),(za 0)] [⟨0,⟨1,(zc 1)⟩⟩,⟨1,⟨1,(zc 1)⟩⟩]),zo 2 (.build [(za 0),(za 0),(za 0)] [⟨0,⟨1,(zc 11)⟩⟩,⟨1,⟨1,(zc 3)⟩⟩]),zo 3 (.bslice 3 2 [(za 0),(za 0),(za 0)] [⟨0,1⟩,⟨1,2⟩]),zm 0 3] .ret))
structure BaseW (P:Program)(K:Orc)(F:Nat->FuncId)(T:Nat->TypeId):Prop where
 f39:FnK P K (F 39) 11 [(.cell 6<|T 85)] (a39 F T)
 f40:FnK P K (F 40) 23 [(.tmp 0)] (a40 F T)
 f96:FnK P K (F 96) 4 [(.tmp 0)] (a96 F T)
def aaq (c:CD):Int × Int × List (Int × Bool):=(c.kind,c.keys,c.ab.map λa=>(a.kind,a.tap))
@[reducible] def adE:List (List AV):=[[iv 1,iv 1,iv 0],[iv 11,iv 3,iv 0]]
@[reducible] def sl2 (b:Nat):AV:=.slice (some ⟨b,0,0⟩) 2 2 false 3
@[reducible] def sa1 (b:Nat):AV:=.slice (some ⟨b,0,0⟩) 1 1 false 13
@[reducible] def aaa (k e w:Int)(tp:Bool)(tg:AV)(b:Nat):AD:=⟨k,e,w,0,0,0,0,tp,tg,sl2 b,0,0,0⟩
@[reducible] def CP (b3 b4 b6 b8 sf NQ b14 b16 H6 b20:Nat):List CD:=[⟨⟨#[108,97,110,100]⟩,1,0,0,0,0,0,0,0,0,nilS,[]⟩,⟨⟨#[98,101,97,115,116]⟩,2,0,0,0,0,0,1,1,0,nilS,[]⟩,⟨⟨#[115,112,101,108,108]⟩,3,0,0,0,0,0,0,0,0,sa1 b6,[aaa 1 0 0 false (.slice (some ⟨b3,0,0⟩) 1 1 false 1) b4]⟩,⟨⟨#[113,117,105,99,107]⟩,3,0,0,0,0,0,0,0,64,sa1 sf,[aaa 1 0 0 false nilS b8]⟩,⟨⟨#[109,111,110,107]⟩,2,0,0,0,0,0,0,1,0,sa1 b14,[aaa 2 0 0 true nilS NQ]⟩,⟨⟨#[104,111,114,110]⟩,4,0,0,0,0,0,0,0,0,.slice (some ⟨b20,0,0⟩) 2 2 false 13,[aaa 3 3 1 false nilS b16,aaa 2 0 0 false nilS H6]⟩]
variable {rd:Option Nat}{nt:Nat}{l:Sl}{ds:List aD}{s:SH}{Q:Po}{Qn:Po}{Qr:Po}{Qe:Nat->Po}{bf:Nat}{bl:Nat}{aZ:AV}{bE:AV}{c0:Int}{c1:Int}{c2:Int}{c3:Int}{c4:Int}{EL:List (List AV)}{d:SD}{t:SH}
theorem acB (hW:BaseW P K F T)(hT:Ty P (T 85) 3){k a b:Int}:bB P K (F 39) [iv k,iv a,iv b] s (λv s'=>v=.agg [iv k,iv a,iv b]/\∃m,s'=m++s):=by
 refine hW.f39.cF (by simp) ?_
 unfold a39
 refine Wq<|Wa (.alloc rfl) λb6=>Wn ?_
 refine Wq<|Wv rfl<|Wv rfl<|Wv rfl<|Wr (.build (cs:=[iv k,iv a,iv b]) rfl rfl)<|Ww<|Wt (s':=(b6,.r false [[iv k,iv a,iv b]] 3)::s) rfl rfl rfl .here rfl rfl<|Wn ?_
 exact We<|Wm (.cell rfl hT.1 hT.2 (.inl rfl) .here rfl rfl rfl .nil) ⟨rfl,[_],rfl⟩
theorem sq (hW:BaseW P K F T):bB P K (F 96) [] s (λv s'=>∃b,v=sl2 b/\s'=(b,.r false adE 3)::s):=by
 refine hW.f96.cF (by simp) ?_
 unfold a96
 refine Wq<|Wv rfl<|Wn ?_
 exact Wq<|Wr (.build (cs:=[iv 1,iv 1,iv 0]) rfl rfl)<|Wr (.build (cs:=[iv 11,iv 3,iv 0]) rfl rfl)<|Wa (.bslice (L:=adE) rfl rfl) λb3=>Wv rfl<|Wn<|We<|Wm (.tmp rfl .nil) ⟨b3,rfl,rfl⟩
theorem abW (hW:BaseW P K F T):bB P K (F 40) [] s (λv s'=>∃(m:SH)(C':List CD),s'=m++s/\Src m 11 v (C'.map CD.row)/\(∀c∈C',Src m 13 c.av (c.ab.map AD.row))/\C'.map aaq=(C22 0).map aaq):=by
 refine hW.f40.cF (by simp) ?_
 unfold a40
 refine Wq<|Wv rfl<|Wn ?_
 refine Wq<|Wr (.build rfl rfl)<|Wr (.build rfl rfl)<|Wa (.bslice (L:=[[iv 1]]) rfl rfl) λb3=>Ww<|Wz [] rfl rfl (sq hW) ?_
 rintro _ _ ⟨b4,rfl,rfl⟩
 refine Wr (.build (cs:=(aaa 1 0 0 false (.slice (some ⟨b3,0,0⟩) 1 1 false 1) b4).row) rfl rfl)<|Wa (.bslice (L:=[(aaa 1 0 0 false (.slice (some ⟨b3,0,0⟩) 1 1 false 1) b4).row]) rfl rfl) λb6=>Wr (.build rfl rfl)<|Ww<|Wz [] rfl rfl (sq hW) ?_
 rintro _ _ ⟨b8,rfl,rfl⟩
 refine Wr (.build (cs:=(aaa 1 0 0 false nilS b8).row) rfl rfl)<|Wa (.bslice (L:=[(aaa 1 0 0 false nilS b8).row]) rfl rfl) λsf=>Wr (.build rfl rfl)<|Ww<|Wz [] rfl rfl (sq hW) ?_
 rintro _ _ ⟨NQ,rfl,rfl⟩
 refine Wr (.build (cs:=(aaa 2 0 0 true nilS NQ).row) rfl rfl)<|Wa (.bslice (L:=[(aaa 2 0 0 true nilS NQ).row]) rfl rfl) λb14=>Wr (.build rfl rfl)<|Ww<|Wz [] rfl rfl (sq hW) ?_
 rintro _ _ ⟨b16,rfl,rfl⟩
 refine Wr (.build (cs:=(aaa 3 3 1 false nilS b16).row) rfl rfl)<|Ww<|Wz [] rfl rfl (sq hW) ?_
 rintro _ _ ⟨H6,rfl,rfl⟩
 refine Wr (.build (cs:=(aaa 2 0 0 false nilS H6).row) rfl rfl)<|Wa (.bslice (L:=[(aaa 3 3 1 false nilS b16).row,(aaa 2 0 0 false nilS H6).row]) rfl rfl) λb20=>Wr (.build rfl rfl)<|Wa (.bslice (L:=(CP b3 b4 b6 b8 sf NQ b14 b16 H6 b20).map CD.row) rfl rfl) λb22=>Wv rfl<|Wn<|We<|Wm (.tmp rfl .nil) ?_
 refine⟨[_,_,_,_,_,_,_,_,_,_,_],CP b3 b4 b6 b8 sf NQ b14 b16 H6 b20,rfl,Src.all (L:=(CP b3 b4 b6 b8 sf NQ b14 b16 H6 b20).map CD.row) .here,λc hc=>?_,rfl⟩
 simp only[CP,List.mem_cons,List.not_mem_nil,or_false]at hc
 rcases hc with rfl|rfl|rfl|rfl|rfl|rfl
 ·exact .nil
 ·exact .nil
 ·exact Src.all (L:=[_])<|.there<|.there<|.there<|.there<|.there<|.there<|.there<|.there .here
 ·exact Src.all (L:=[_])<|.there<|.there<|.there<|.there<|.there<|.there .here
 ·exact Src.all (L:=[_])<|.there<|.there<|.there<|.there .here
 ·exact Src.all (L:=[_,_])<|.there .here
theorem aaj (d:SD)(id:Int):d.obj id=d.ob.find? λo=>decide (o.id=id):=by
 unfold SD.obj SD.find
 generalize d.ob=l
 induction l with
 | nil=>rfl
 | cons o l ih=>
  rw[List.findIdx?_cons,List.find?_cons]
  cases decide (o.id=id) with
  | true=>rfl
  | false=>
   rw[<- ih]
   cases l.findIdx? λo=>decide (o.id=id)<;>rfl
theorem adc {d:SD}{id:Int}{o:OD}(h:d.obj id=some o):o.id=id/\o∈d.ob:=by
 rw[aaj]at h
 exact⟨by simpa using List.find?_some h,List.mem_of_find?_eq_some h⟩
structure aal (d:SD):Prop where
 lt:∀o∈d.ob,o.id<d.nx
 hd:∀(p:Nat)bX,d.hd[p]?=some bX->bX.Nodup/\∀id∈bX,id<d.nx/\∃o,d.obj id=some o/\o.aQ=.ofNat p/\o.ci=1
 fi:d.fi.Nodup/\∀id∈d.fi,id<d.nx/\∃o,d.obj id=some o/\o.ci=2
theorem adF:aal d22 where
 lt:=by decide
 hd:=by
  intro p bX h
  match p,h with
  | 0,h=>cases h;exact⟨.nil,λid h=>nomatch h⟩
  | 1,h=>cases h;exact⟨.nil,λid h=>nomatch h⟩
  | 2,h=>cases h;exact⟨.nil,λid h=>nomatch h⟩
 fi:=⟨.nil,λid h=>nomatch h⟩
theorem aaD {l:List Int}{n:Int}(h:l.Nodup)(hn:∀x∈l,x<n):(l++[n]).Nodup:=by
 rw[List.nodup_append]
 refine⟨h,List.nodup_cons.2 ⟨λh=>(nomatch h),.nil⟩,λa ha b hb=>?_⟩
 rw[List.mem_singleton.1 hb]
 have:=hn a ha
 omega
theorem aal.add {d:SD}{n p c z:Nat}(h:aal d)(hU:aaf d n)(hp:p<3)(hz:z<2):aal (d.add (pY p (.ofNat c) (.ofNat (z+1)) 0) p):=by
 have hhd:d.hd.length=3:=by rw[hU.even.hd,hU.pl];rfl
 have key:∀(d':SD)(o':OD),d'.ob=d.ob++[o']->o'.id=d.nx->(∀id,id<d.nx->d'.obj id=d.obj id)/\d'.obj d.nx=some o'/\∀o∈d'.ob,o.id<d.nx+1:=by
  intro d' o' e1 e2
  refine⟨λid hid=>?_,?_,λo ho=>?_⟩
  ·rw[aaj,aaj,e1,List.find?_append,List.find?_cons,decide_eq_false (by omega:¬o'.id=id)]
   cases d.ob.find? λo=>decide (o.id=id)<;>rfl
  ·rw[aaj,e1,List.find?_append,List.find?_eq_none.2 λo ho=>by have:=h.lt o ho;simp;omega,List.find?_cons,decide_eq_true e2]
   rfl
  ·rw[e1]at ho
   rcases List.mem_append.1 ho with ho|ho
   ·have:=h.lt o ho;omega
   ·rw[List.mem_singleton.1 ho];omega
 rcases(by omega:z=0\/z=1)with rfl|rfl
 ·have hl:d.hd[p]?=some d.hd[p]:=List.getElem?_eq_getElem (by omega)
  generalize d.hd[p]=bX at hl
  rw[add_one (bX:=bX) rfl hl]
  obtain⟨k1,k2,k3⟩:=key { d with nx:=d.nx+1,ob:=d.ob++[(pY p (.ofNat c) (.ofNat<|0+1) 0).new1 d.nx],hd:=d.hd.set p (bX++[d.nx]) } _ rfl rfl
  obtain⟨g1,g2⟩:=h.hd p bX hl
  refine⟨k3,λq l' hq=>?_,h.fi.1,λid hid=>?_⟩
  ·replace hq:(d.hd.set p<|bX++[d.nx])[q]?=some l':=hq
   rw[List.getElem?_set]at hq
   split at hq
   ·rename_i e
    subst e
    split at hq
    ·cases hq
     refine⟨aaD g1 λx hx=>(g2 x hx).1,λid hid=>?_⟩
     rcases List.mem_append.1 hid with hid|hid
     ·obtain⟨j1,o,j2,j3⟩:=g2 id hid
      exact⟨by show id<d.nx+1;omega,o,by rw[k1 id j1];exact j2,j3⟩
     ·rw[List.mem_singleton.1 hid]
      exact⟨by show d.nx<d.nx+1;omega,_,k2,rfl,rfl⟩
    ·cases hq
   ·obtain⟨i1,i2⟩:=h.hd q l' hq
    refine⟨i1,λid hid=>?_⟩
    obtain⟨j1,o,j2,j3⟩:=i2 id hid
    exact⟨by show id<d.nx+1;omega,o,by rw[k1 id j1];exact j2,j3⟩
  ·obtain⟨j1,o,j2,j3⟩:=h.fi.2 id hid
   exact⟨by show id<d.nx+1;omega,o,by rw[k1 id j1];exact j2,j3⟩
 ·rw[abz rfl]
  obtain⟨k1,k2,k3⟩:=key { d with nx:=d.nx+1,sp:=d.sp+1,ob:=d.ob++[(pY p (.ofNat c) (.ofNat<|1+1) 0).new2 d.nx d.sp],fi:=d.fi++[d.nx] } _ rfl rfl
  refine⟨k3,λq l' hq=>?_,aaD h.fi.1 λx hx=>(h.fi.2 x hx).1,λid hid=>?_⟩
  ·obtain⟨i1,i2⟩:=h.hd q l' hq
   refine⟨i1,λid hid=>?_⟩
   obtain⟨j1,o,j2,j3⟩:=i2 id hid
   exact⟨by show id<d.nx+1;omega,o,by rw[k1 id j1];exact j2,j3⟩
  ·rcases List.mem_append.1 hid with hid | hid
   ·obtain⟨j1,o,j2,j3⟩:=h.fi.2 id hid
    exact⟨by show id<d.nx+1;omega,o,by rw[k1 id j1];exact j2,j3⟩
   ·rw[List.mem_singleton.1 hid]
    exact⟨by show d.nx<d.nx+1;omega,_,k2,rfl⟩
theorem adG (ps cs zs:Nat->Nat):∀n,(∀j,j<n->ps j<3/\cs j<6/\zs j<2)->aal (dU ps cs zs n)
 | 0,_=>adF
 | n+1,h=>by
  obtain⟨h1,h2,h3⟩:=h n<|Nat.lt_succ_self n
  have:=(adG ps cs zs n λj hj=>h j<|by omega).add (c:=cs n) (aaL ps cs zs n λj hj=>h j<|by omega) h1 h3
  rw[Nat.add_comm]at this
  unfold dU
  exact this
theorem aal.fin {d:SD}(h:aal d){t a p:Int}:aal { d with tu:=t,ac:=a,ph:=p }:=⟨h.lt,h.hd,h.fi⟩
def abx (d:SD)(C:List CD)(p:Nat)(x:OT):Prop:=
 ∃(o:OD)(k:Nat)(c:CD),d.obj x.a=some o/\o.aQ=.ofNat p/\o.gE=.ofNat k/\C[k]?=some c /\
  ((x.k=2/\c.kind=1/\o.ci=1/\ec d (.ofNat p)=true)\/(x.k=3/\c.kind≠1/\o.ci=1/\(ec d (.ofNat p)=true\/aam 64 c.keys=false))\/(x.k=4/\o.ci=2/\∃(j:Nat)(a:AD),x.b=.ofNat j/\c.ab[j]?=some a/\a.kind=2/\(a.tap=true->o.RU=false/\o.VK=false)))
variable {g:ED->CH->CH}{C:List CD}{tl:AD->List Nat}{p:Nat}
theorem abC (hV:aal d){bX:List Int}{lp:LD}(hh:d.hd[p]?=some bX)(hall:∀id∈bX,∃o k c,d.obj id=some o/\o.gE=.ofNat k/\C[k]?=some c) :
  ∀x∈bX.filterMap (qb g d C tl p (ec d<|.ofNat p) lp),abx d C p x/\(x.k=2\/x.k=3):=by
 intro x hx
 obtain⟨id,hid,hx⟩:=List.mem_filterMap.1 hx
 obtain⟨o,k,c,h1,h2,h3⟩:=hall id hid
 obtain⟨_,o',h4,h5,h6⟩:=(hV.hd p bX hh).2 id hid
 rw[h1]at h4
 cases h4
 have hca:aaA d C id=some c:=by unfold aaA;rw[h1];dsimp only;rw[h2];exact h3
 unfold qb at hx
 rw[hca]at hx
 dsimp only at hx
 split at hx
 ·cases hx
 ·rename_i hne
  cases hx
  unfold aau at hne |-
  split at hne
  ·rename_i hk
   cases hm:ec d (.ofNat p) && !lp.f1 with
   | false=>rw[hm]at hne;exact absurd rfl hne
   | true=>
    rw[if_pos hk]
    exact⟨⟨o,k,c,h1,h5,h2,h3,.inl ⟨rfl,hk,h6,(Bool.and_eq_true_iff.1 hm).1⟩⟩,.inl rfl⟩
  ·rename_i hk
   rw[if_neg hk]
   cases hp:aak g d C tl c (.ofNat p) (ec d<|.ofNat p) with
   | false=>rw[hp]at hne;exact absurd rfl hne
   | true=>
    refine⟨⟨o,k,c,h1,h5,h2,h3,.inr<|.inl ⟨rfl,hk,h6,?_⟩⟩,.inr rfl⟩
    unfold aak at hp
    cases hm:ec d (.ofNat p) with
    | true=>exact .inl rfl
    | false=>
     rw[hm]at hp
     cases hb:aam 64 c.keys with
     | false=>exact .inr rfl
     | true=>rw[hb]at hp;cases hp
theorem ach {id:Int}{o:OD}{k:Nat}{c:CD}(hid:id∈d.fi)(h1:d.obj id=some o)(h2:o.gE=.ofNat k)(h3:C[k]?=some c)(hno:∀c∈C,∀x∈c.ab,x.kind≠4)(hk:c.kind=2)(hb:aam 2 c.keys=true)(ht:aad g d C o=false):o.RU=false/\o.VK=false:=by
 unfold aad at ht
 obtain⟨t1,t2⟩:=Bool.or_eq_false_iff.1 ht
 have xG:=(adc h1).1
 have hF:d.onF C o.id=some (o,c):=by
  unfold SD.onF
  unfold SD.obj at h1
  rw[xG]
  cases hf:d.find id with
  | none=>rw[hf]at h1;cases h1
  | some i=>
   rw[hf]at h1
   have h1:d.ob[i]?=some o:=h1
   show(if id∈d.fi then match d.ob[i]? with | none=>none | some o=>if o.gE<0 then none else match C[o.gE.toNat]? with | none=>none | some c=>some (o,c)else none)=_
   rw[if_pos hid,h1]
   show(if o.gE<0 then none else match C[o.gE.toNat]? with | none=>none | some c=>some (o,c))=_
   rw[h2,if_neg (by show¬Int.ofNat k<0;exact Int.not_lt.2<|Int.natCast_nonneg k),show C[(Int.ofNat k).toNat]?=some c from h3]
 have hc:uY g d C o.id=some (tK g ⟨c.power,c.qn,c.keys⟩<|qy d C o):=by
  unfold uY
  rw[hF]
  dsimp only
  rw[if_pos hk]
 rw[hc]at t2
 have he:qy d C o=[]:=by unfold qy;rw[MO hno];rfl
 rw[he]at t2
 have t3:(o.VK&&aam 2 c.keys)=false:=t2
 rw[hb,Bool.and_true]at t3
 exact⟨t1,t3⟩
theorem abL (hV:aal d)(hno:∀c∈C,∀x∈c.ab,x.kind≠4)(ac8:∀c∈C,∀a∈c.ab,a.tap=true->c.kind=2/\aam 2 c.keys=true)(hall:∀id∈d.fi,∃o k c,d.obj id=some o/\o.gE=.ofNat k/\C[k]?=some c) :
  ∀x∈usesT g d C tl p d.fi,abx d C p x/\x.k=4:=by
 intro x hx
 unfold usesT at hx
 obtain⟨id,hid,hx⟩:=List.mem_flatMap.1 hx
 obtain⟨o,k,c,h1,h2,h3⟩:=hall id hid
 obtain⟨_,o',h4,h6⟩:=hV.fi.2 id hid
 rw[h1]at h4
 cases h4
 rw[h1]at hx
 dsimp only at hx
 split at hx
 ·rename_i h5
  rw[h2,show C[(Int.ofNat k).toNat]?=some c from h3]at hx
  dsimp only at hx
  unfold useT at hx
  obtain⟨j,_,hx⟩:=List.mem_filterMap.1 hx
  split at hx
  ·rename_i a ha
   split at hx
   ·rename_i hu
    cases hx
    have KB:a∈c.ab:=List.mem_of_getElem? ha
    have IR:c∈C:=List.mem_of_getElem? h3
    refine⟨⟨o,k,c,h1,h5,h2,h3,.inr<|.inr ⟨rfl,h6,j,a,rfl,ha,?_⟩⟩,rfl⟩
    unfold aav at hu
    split at hu
    ·rename_i hk
     refine⟨hk,λht=>?_⟩
     rw[if_pos ht]at hu
     split at hu
     ·cases hu
     ·rename_i htt
      obtain⟨g1,g2⟩:=ac8 c IR a KB ht
      exact ach hid h1 h2 h3 hno g1 g2<|by simpa using htt
    ·cases hu
   ·cases hx
  ·cases hx
 ·cases hx
theorem abo (hV:aal d)(hno:∀c∈C,∀x∈c.ab,x.kind≠4)(ac8:∀c∈C,∀a∈c.ab,a.tap=true->c.kind=2/\aam 2 c.keys=true){bX:List Int}{lp:LD}(hh:d.hd[p]?=some bX)
  (hall:∀id∈bX,∃o k c,d.obj id=some o/\o.gE=.ofNat k/\C[k]?=some c) (ab4:∀id∈d.fi,∃o k c,d.obj id=some o/\o.gE=.ofNat k/\C[k]?=some c):(vj g d C tl p lp bX).Nodup:=by
 have hu:=abL (g:=g) (tl:=tl) (p:=p) hV hno ac8 ab4
 have hd:=abC (g:=g) (tl:=tl) (lp:=lp) hV hh hall
 unfold vj
 refine List.nodup_append.2 ⟨List.nodup_cons.2 ⟨λh=>(nomatch h),.nil⟩,List.nodup_append.2 ⟨?_,?_,?_⟩,?_⟩
 ·refine List.Pairwise.filterMap _ ?_ (hV.hd p bX hh).1
  intro a a' hne b hb b' hb' e
  unfold qb at hb hb'
  split at hb
  ·split at hb
   ·cases hb
   ·cases hb
    split at hb'
    ·split at hb'
     ·cases hb'
     ·cases hb'
      exact hne<|congrArg OT.a e
    ·cases hb'
  ·cases hb
 ·refine List.pairwise_flatMap.2 ⟨λid _=>?_,hV.fi.1.imp λhne x hx y hy e=>?_⟩
  ·split
   ·split
    ·split
     ·refine List.Pairwise.filterMap _ ?_ (List.nodup_range ..)
      intro a a' hne b hb b' hb' e
      split at hb
      ·split at hb
       ·cases hb
        split at hb'
        ·split at hb'
         ·cases hb'
          exact hne<|Int.ofNat.inj<|congrArg OT.b e
         ·cases hb'
        ·cases hb'
       ·cases hb
      ·cases hb
     ·exact .nil
    ·exact .nil
   ·exact .nil
  ·have only:∀{id:Int}{x:OT},x∈(match d.obj id with | some o=>if o.aQ=Int.ofNat p then(match C[o.gE.toNat]? with | some c=>useT g d C tl p id o c.ab c.ab.length | none=>[])else [] | none=>[])->x.a=id:=by
    intro id x hx
    split at hx
    ·split at hx
     ·split at hx
      ·obtain⟨j,_,hx⟩:=List.mem_filterMap.1 hx
       split at hx
       ·split at hx
        ·cases hx;rfl
        ·cases hx
       ·cases hx
      ·cases hx
     ·cases hx
    ·cases hx
   exact hne<|(only hx).symm.trans ((congrArg OT.a e).trans (only hy))
 ·intro a ha b hb e
  have h1:=(hd a ha).2
  have h2:=(hu b hb).2
  rw[e]at h1
  omega
 ·intro a ha b hb e
  rw[List.mem_singleton.1 ha]at e
  have h0:b.k=1:=by rw[<- e]
  rcases List.mem_append.1 hb with hb|hb
  ·have:=(hd b hb).2
   omega
  ·have:=(hu b hb).2
   omega
def a9K (F:Nat->FuncId)(T:Nat->TypeId):AC:=(.seq (oN [zm 83 15,zm 84 14,zo 85 (.arith .lss 83 84)] (.cond 85 .skip (.exit 2))) (.seq (.block 3 (.seq (.drawn 0 [zp (zm 88 12) 0,zp (zm 89 15) 0,zp (zo 90 (.iaddrS 3 88 89)) 3,zr (zo 91 (.load true 3 90)) 0 0 7,zp (zm 92 12) 0,zp (zm 93 14) 0,zp (zo 94 (.iaddrS 3 92 93)) 48,zr (zo 95 (.load true 3 94)) 0 0 112,zp (zo 96 (.eql false (.agg [⟨0,⟨1,⟨false,.pi⟩⟩⟩,⟨1,⟨1,⟨false,.pi⟩⟩⟩,⟨2,⟨1,⟨false,.pi⟩⟩⟩]) 91 95)) 255]) (.cond 96 (oN [zo 6 (.mv (.const (.bool false)))] .ret) .skip))) (.ops [zm 86 15,zo 87 (.arith .add 86 (zc 1)),zm 15 87])))
def a9S (F:Nat->FuncId)(T:Nat->TypeId):AC:=(oN [zo 126 (.eql false .pi 124 (zc 2)),zm 125 126] (.cond 125 (oN [zf 127 1 18,zl 128 127,zo 129 (.eql true .pi 128 (zc 1)),zm 130 129,zg 131 (.faddr 4 16) 130 false,zg 132 (.load false 1 131) 130 false,zg 133 (.eql true .pi 132 (zc 1)) 130 false,zo 134 (.pick 130 (.const (.bool true)) 133),zm 135 134,zg 136 (.mv 13) 135 false,zg 137 (.un .not 136) 135 false,zo 138 (.pick 135 (.const (.bool true)) 137)] (.cond 138 (oN [zo 6 (.mv (.const (.bool false)))] .ret) .skip)) (oN [zo 140 (.eql false .pi 124 (zc 3)),zm 139 140] (.cond 139 (oN [zf 141 1 18,zl 142 141,zo 143 (.eql false .pi 142 (zc 1)),zm 144 143,zg 145 (.faddr 4 16) 144 false,zg 146 (.load false 1 145) 144 false,zg 147 (.eql true .pi 146 (zc 1)) 144 false,zo 148 (.pick 144 (.const (.bool true)) 147),zm 149 148,zg 150 (.mv 13) 149 false,zg 151 (.un .not 150) 149 false,zg 152 (.mv 151) 149 false,zg 153 (.faddr 9 18) 152 true,zg 154 (.load false 1 153) 152 true,zg 155 (.arith .and 154 (zc 64)) 152 true,zg 156 (.eql false .pi 155 (zc 0)) 152 true,zg 157 (.pick 152 156 (.const (.bool false))) 149 false,zo 158 (.pick 149 (.const (.bool true)) 157)] (.cond 158 (oN [zo 6 (.mv (.const (.bool false)))] .ret) .skip)) (oN [zo 160 (.eql false .pi 124 (zc 4)),zm 159 160] (.cond 159 (.seq (.drawn 0 [zp (zf 161 4 16) 0,zr (zl 162 161) 0 0 1,zp (zo 163 (.eql true .pi 162 (zc 2))) 3,zp (zm 164 163) 7,zp (zg 165 (.mv 12) 164 false) 15,zp (zg 166 (.mv 14) 164 false) 15,zp (zg 167 (.iaddrS 3 165 166) 164 false) 63,zp (zg 168 (.faddr 2 167) 164 false) 127,zr (zg 169 (.load false 1 168) 164 false) 0 0 255,zp (zg 170 (.arith .lss 169 (zc 0)) 164 false) 511,zp (zo 171 (.pick 164 (.const (.bool true)) 170)) 1023,zp (zm 172 171) 2047,zp (zg 173 (.mv 12) 172 false) 4095,zp (zg 174 (.mv 14) 172 false) 4095,zp (zg 175 (.iaddrS 3 173 174) 172 false) 16383,zp (zg 176 (.faddr 2 175) 172 false) 32767,zr (zg 177 (.load false 1 176) 172 false) 0 0 65535,zp (zg 178 (.faddr 10 18) 172 false) 4095,zr (zg 179 (.load false 1 178) 172 false) 0 0 135167,zp (zg 180 (.lenS 179) 172 false) 397311,zp (zg 181 (.arith .geq 177 180) 172 false) 1048575,zp (zo 182 (.pick 172 (.const (.bool true)) 181)) 2097151,zp (zm 183 182) 4194303,zp (zg 184 (.faddr 10 18) 183 false) 8388607,zr (zg 185 (.load false 1 184) 183 false) 0 0 16777215,zp (zg 186 (.mv 12) 183 false) 8388607,zp (zg 187 (.mv 14) 183 false) 8388607,zp (zg 188 (.iaddrS 3 186 187) 183 false) 109051903,zp (zg 189 (.faddr 2 188) 183 false) 243269631,zr (zg 190 (.load false 1 189) 183 false) 0 0 511705087,zp (zg 191 (.iaddrS 13 185 190) 183 false) 1073741823,zp (zg 192 (.faddr 0 191) 183 false) 2147483647,zr (zg 193 (.load false 1 192) 183 false) 0 0 4294967295,zp (zg 194 (.eql true .pi 193 (zc 2)) 183 false) 8589934591,zp (zo 195 (.pick 183 (.const (.bool true)) 194)) 17179869183,zp (zm 196 195) 34359738367,zp (zg 197 (.faddr 10 18) 196 false) 68719476735,zr (zg 198 (.load false 1 197) 196 false) 0 0 137438953471,zp (zg 199 (.mv 12) 196 false) 68719476735,zp (zg 200 (.mv 14) 196 false) 68719476735,zp (zg 201 (.iaddrS 3 199 200) 196 false) 893353197567,zp (zg 202 (.faddr 2 201) 196 false) 1992864825343,zr (zg 203 (.load false 1 202) 196 false) 0 0 4191888080895,zp (zg 204 (.iaddrS 13 198 203) 196 false) 8796093022207,zp (zg 205 (.faddr 7 204) 196 false) 17592186044415,zr (zg 206 (.load false 1 205) 196 false) 0 0 35184372088831,zp (zg 207 (.mv 206) 196 false) 70368744177663,zp (zg 208 (.faddr 5 16) 207 true) 140737488355327,zr (zg 209 (.load false 1 208) 207 true) 0 0 281474976710655,zp (zg 210 (.mv 209) 207 true) 562949953421311,zp (zg 211 (.faddr 6 16) 210 false) 1125899906842623,zr (zg 212 (.load false 1 211) 210 false) 0 0 2251799813685247,zp (zg 213 (.pick 210 (.const (.bool true)) 212) 207 true) 4503599627370495,zp (zg 214 (.pick 207 213 (.const (.bool false))) 196 false) 9007199254740991,zp (zo 215 (.pick 196 (.const (.bool true)) 214)) 18014398509481983]) (.cond 215 (oN [zo 6 (.mv (.const (.bool false)))] .ret) .skip)) (oN [zo 6 (.mv (.const (.bool false)))] .ret)))))))
def a9L (F:Nat->FuncId)(T:Nat->TypeId):AC:=(.seq (oN [zm 77 14,zm 78 12,zo 79 (.lenS 78),zo 80 (.arith .lss 77 79)] (.cond 80 .skip (.exit 0))) (.seq (.block 1 (.seq (oN [zo 15 (.mv (zc 0))] (.block 2 (.loop (a9K F T)))) (oN [zm 98 9,zm 99 12,zm 100 14,zo 101 (.iaddrS 3 99 100),zf 102 1 101,zl 103 102,oF F 104 37 [98,103],zm 97 104,zo 105 (.extract 97 0),zo 106 (.extract 97 1),zo 16 (.alloc 14 dB),zn (.store 14 16 105),zm 17 106] (.seq (oN [zm 107 17,zo 108 (.un .not 107),zm 109 108,zg 110 (.faddr 3 16) 109 false,zg 111 (.load false 1 110) 109 false,zg 112 (.mv 7) 109 false,zg 113 (.eql true .pi 111 112) 109 false,zo 114 (.pick 109 (.const (.bool true)) 113)] (.cond 114 (oN [zo 6 (.mv (.const (.bool false)))] .ret) .skip)) (.seq (.drawn 1 [zh (oF F 115 40 []) 0,zp (zf 116 1 16) 0,zr (zl 117 116) 0 1 2,zp (zo 118 (.iaddrS 11 115 117)) 7,zr (zo 119 (.load true 11 118)) 1 1 15,⟨zo 18 (.alloc 11 yz),.dalloc,0,0,0⟩,zh (zn (.store 11 18 119)) 63]) (oN [zm 120 12,zm 121 14,zo 122 (.iaddrS 3 120 121),zf 123 0 122,zl 124 123] (.block 4 (a9S F T)))))))) (.ops [zm 81 14,zo 82 (.arith .add 81 (zc 1)),zm 14 82])))
def a9W:List bS:=[⟨(some 21),(.mv (.tmp 1)),none⟩,⟨(some 22),(.arith .rem (.tmp 21) (.const (.int .u8 (.ofNat 3)))),none⟩,⟨(some 23),(.convI .i64 (.tmp 22)),none⟩,⟨(some 24),(.mv (.tmp 2)),none⟩,⟨(some 25),(.arith .rem (.tmp 24) (.const (.int .u8 (.ofNat 10)))),none⟩,⟨(some 26),(.convI .i64 (.tmp 25)),none⟩,⟨(some 7),(.mv (.tmp 23)),none⟩,⟨(some 8),(.mv (.tmp 26)),none⟩]
def a9X (F:Nat->FuncId):List bS:=[⟨(some 28),(.mv (.tmp 1)),none⟩,⟨(some 29),(.arith .quo (.tmp 28) (.const (.int .u8 (.ofNat 3)))),none⟩,⟨(some 30),(.arith .rem (.tmp 29) (.const (.int .u8 (.ofNat 3)))),none⟩,⟨(some 31),(.convI .i64 (.tmp 30)),none⟩,⟨(some 32),(.mv (.tmp 8)),none⟩,⟨(some 33),(.mv (.tmp 0)),none⟩,⟨(some 34),(.call (.func (F 35)) [(.const (.bool false)),(.tmp 31),(.tmp 32),(.tmp 33)]),none⟩,⟨(some 27),(.mv (.tmp 34)),none⟩,⟨(some 35),(.extract (.tmp 27) 0),none⟩,⟨(some 36),(.extract (.tmp 27) 1),none⟩,⟨(some 9),(.mv (.tmp 35)),none⟩,⟨(some 10),(.mv (.tmp 36)),none⟩]
def a9Z (F:Nat->FuncId)(T:Nat->TypeId):AC:=(.seq (oN [zm 37 9,zo 38 (.eql false .ptr 37 (.const (.pointer none)))] (.cond 38 (oN [zo 6 (.mv (.const (.bool false)))] .ret) .skip)) (oN [zm 39 9,oF F 40 24 [39],oF F 41 25 [40],zm 11 41] (oN [zm 42 9,zo 43 (.mkif (T 26) 42),zm 44 7,oF F 45 38 [43,44],zm 12 45] (.seq (.seq (.drawn 0 [zp (zm 46 12) 0,zp (zo 47 (.lenS 46)) 1,zp (zo 48 (.eql false .pi 47 (zc 0))) 3,zp (zm 49 48) 7,zp (zg 50 (.mv 12) 49 false) 15,zp (zg 51 (.iaddrS 3 50 (zc 0)) 49 false) 31,zr (zg 52 (.load true 3 51) 49 false) 0 1 63,zh (zg 53 (.call (.func (F 39)) [(zc 1),(zc 0),(zc 0)]) 49 false) 15,zp (zg 54 (.eql true (.agg [⟨0,⟨1,⟨false,.pi⟩⟩⟩,⟨1,⟨1,⟨false,.pi⟩⟩⟩,⟨2,⟨1,⟨false,.pi⟩⟩⟩]) 52 53) 49 false) 255,zp (zo 55 (.pick 49 (.const (.bool true)) 54)) 511,zp (zm 56 55) 1023,zp (zg 57 (.mv 9) 56 false) 2047,zh (zg 58 (.call (.func (F 24)) [57]) 56 false) 4095,zh (zg 59 (.call (.func (F 25)) [58]) 56 false) 8191,zp (zg 60 (.mv 11) 56 false) 2047,zp (zg 61 (.eql true .pi 59 60) 56 false) 32767,zp (zo 62 (.pick 56 (.const (.bool true)) 61)) 65535]) (.cond 62 (oN [zo 6 (.mv (.const (.bool false)))] .ret) .skip)) (oN [zm 63 7,zm 64 1,zo 65 (.arith .quo 64 (.const (.int .u8 (.ofNat 3)))),zo 66 (.arith .rem 65 (.const (.int .u8 (.ofNat 3)))),zo 67 (.convI .i64 66),zo 68 (.eql false .pi 63 67),zm 69 68,zg 70 (.mv 8) 69 true,zg 71 (.eql false .pi 70 (zc 2)) 69 true,zg 72 (.mv 71) 69 true,zg 73 (.mv 8) 72 false,zg 74 (.eql false .pi 73 (zc 8)) 72 false,zg 75 (.pick 72 (.const (.bool true)) 74) 69 true,zo 76 (.pick 69 75 (.const (.bool false))),zm 13 76] (.seq (oN [zo 14 (.mv (zc 1))] (.block 0 (.loop (a9L F T)))) (oN [zo 6 (.mv (.const (.bool true)))] .ret)))))))
theorem eqO (x y:OT):eqBy 20 (.agg [⟨0,⟨1,⟨false,.pi⟩⟩⟩,⟨1,⟨1,⟨false,.pi⟩⟩⟩,⟨2,⟨1,⟨false,.pi⟩⟩⟩]) (.agg x.row) (.agg y.row)=some (decide (x=y)):=by
 have h:eqBy 20 (.agg [⟨0,⟨1,⟨false,.pi⟩⟩⟩,⟨1,⟨1,⟨false,.pi⟩⟩⟩,⟨2,⟨1,⟨false,.pi⟩⟩⟩]) (.agg x.row) (.agg y.row)=some (ieq x.k y.k&&ieq x.a y.a&&ieq x.b y.b):=by
  cases h1:ieq x.k y.k<;>cases h2:ieq x.a y.a<;>cases h3:ieq x.b y.b<;>simp[eqBy,primEq,aw,part,dJ,keq,h1,h2,h3]
 rw[h,rh,rh,rh]
 obtain⟨a,b,c⟩:=x
 obtain⟨a',b',c'⟩:=y
 simp[OT.mk.injEq,Bool.decide_and,Bool.and_assoc]
theorem abI {L:List OT}{i:Nat}(h:i<L.length):(otR L)[i]?=some L[i].row:=by rw[otR,List.getElem?_map,List.getElem?_eq_getElem h];rfl
theorem rq (L:List OT):(otR L).length=L.length:=by simp[otR]
variable {tF:TypeId}
theorem abU {p i:Nat}{mn:Bool}{vo:AV}{L:List OT}(hS:Src s 3 vo (otR L))(hN:L.Nodup)(hi:i<L.length)(hn:L.length<=1000)
  (hl:∀x v,lk [(7,iv<|.ofNat p),(9,.ptr<|some ⟨bf,0,0⟩),(12,vo),(13,.bool mn),(14,iv<|.ofNat i)] x=some v->lk l x=some v)
  (hk:∀l2,(∀x v,lk [(7,iv<|.ofNat p),(9,.ptr<|some ⟨bf,0,0⟩),(12,vo),(13,.bool mn),(14,iv<|.ofNat i)] x=some v->lk l2 x=some v)->Qn l2 [] s) :
  WP P K none 216 (oN [zo 15 (.mv<|zc 0)]<|.block 2<|.loop<|a9K F T) l [] s Qn Qe Qr:=by
 refine Wg hl (λ_ _ h=>h) ?_
 refine Wq<|Wv rfl<|Wn<|Wb ?_
 unfold a9K
 refine Wp (λkk l ds s'=>ds=[]/\s'=s/\∃k,kk=i-k/\k<=i/\∀x v,lk [(7,iv<|.ofNat p),(9,.ptr<|some ⟨bf,0,0⟩),(12,vo),(13,.bool mn),(14,iv<|.ofNat i),(15,iv<|.ofNat k)] x=some v->lk l x=some v) ?_ (n:=i-0)
  ⟨rfl,rfl,0,rfl,Nat.zero_le _,cM rfl⟩
 rintro kk l ds s' ⟨rfl,rfl,k,rfl,hki,hl⟩
 refine Wg hl (λ_ _ h=>h) ?_
 refine Ws<|Wq<|Wv rfl<|Wv rfl<|Wj rfl rfl (eT _ _)<|Wn<|Wd rfl (λht=>Wi ?_)<|λht=>Wx ?_
 ·have hlt:k<i:=Int.ofNat_lt.1 (of_decide_eq_true ht)
  obtain⟨ba,ra,na,ca,J5,Sp,Ma,e1,hba,me,P1⟩:=hS.at (i:=k) (by rw[rq];omega)
  obtain⟨bb,rb,nb,cb,slb,rob,Mb,e2,hbb,aa2,hrb⟩:=hS.at (i:=i) (by rw[rq];exact hi)
  rw[abI (by omega)]at P1
  rw[abI hi]at hrb
  have hne:¬L[k]=L[i]:=List.pairwise_iff_getElem.1 hN k i (by omega) hi hlt
  refine Ws<|Wb<|Ws<|WP.bD<|Dp (.mv rfl)<|Dp (.mv rfl)<|Dp (.iaddrS (congrArg some e1) rfl me<|by decide)<|Dl rfl .nil (.load rfl hba P1 rfl rfl)<|Dp (.mv rfl)<|Dp (.mv rfl)<|Dp (.iaddrS (congrArg some e2) rfl aa2<|by decide)<|Dl rfl .nil (.load rfl hbb hrb rfl rfl)<|Dp (.eql rfl rfl<|eqO _ _)<|D0 .nil ?_<|λo ho=>nomatch ho
  rw[decide_eq_false hne]
  refine Wd rfl fS<|λ_=>Wi ?_
  refine Wo<|Wv rfl<|Wj rfl rfl (bM<|by omega)<|Wv rfl<|Wn ?_
  exact⟨i-(k+1),by omega,rfl,rfl,k+1,rfl,hlt,cM rfl⟩
 ·exact hk _<|cM rfl
theorem adg {p i b16 H6:Nat}{mn:Bool}{vo:AV}{L:List OT}{x:OT}{o:OD}{c:CD}(hS:Src s 3 vo (otR L))(hx:L[i]?=some x)(abj:Has b16 (.r false [o.row] 14) s)(aaH:Has H6 (.r false [c.row] 11) s)(hSa:Src s 13 c.av (c.ab.map AD.row))
  (hf:(x.k=2/\c.kind=1/\o.ci=1/\mn=true)\/(x.k=3/\c.kind≠1/\o.ci=1/\(mn=true\/aam 64 c.keys=false))\/(x.k=4/\o.ci=2/\∃(j:Nat)(a:AD),x.b=.ofNat j/\c.ab[j]?=some a/\a.kind=2/\(a.tap=true->o.RU=false/\o.VK=false)))
  (hl:∀y v,lk [(7,iv<|.ofNat p),(9,.ptr<|some ⟨bf,0,0⟩),(12,vo),(13,.bool mn),(14,iv<|.ofNat i),(16,.ptr<|some ⟨b16,0,0⟩),(18,.ptr<|some ⟨H6,0,0⟩),(124,iv x.k)] y=some v->lk l y=some v)
  (hk:∀l2,(∀y v,lk [(7,iv<|.ofNat p),(9,.ptr<|some ⟨bf,0,0⟩),(12,vo),(13,.bool mn),(14,iv<|.ofNat i)] y=some v->lk l2 y=some v)->Qn l2 [] s) :
  WP P K none 216 (.block 4<|a9S F T) l [] s Qn Qe Qr:=by
 refine Wg hl (λ_ _ h=>h) ?_
 obtain⟨xk,xa,xb⟩:=x
 refine Wb ?_
 unfold a9S
 rcases hf with⟨h1,h2,h3,h4⟩|⟨h1,h2,h3,h4⟩|⟨h1,h3,j,a,h4,h5,h6,h7⟩
 ·have h1:xk=2:=h1
  subst h1 h4
  have hkd:bV 1 (cu 1 c.row)=some [iv 1]:=by show some [iv c.kind]=_;rw[h2]
  have hz:bV 1 (cu 4 o.row)=some [iv 1]:=by show some [iv o.ci]=_;rw[h3]
  refine Wq<|Wh (b:=true) rfl rfl rfl<|Wv rfl<|Wn<|Wd rfl (λ_=>?_) Dz
  refine Wq<|Wf rfl<|Wl rfl aaH rfl hkd rfl<|Wh (b:=true) rfl rfl rfl<|Wv rfl<|Wy rfl rfl<|Wf rfl<|Wy rfl rfl<|Wl rfl abj rfl hz rfl<|Wy rfl rfl<|Wh (b:=true) rfl rfl rfl<|Wr (.bj rfl rfl)<|Wv rfl<|Wy rfl rfl<|Wv rfl<|Wy rfl rfl<|Wr (.un rfl rfl)<|Wr (.bj rfl rfl)<|Wn<|Wd rfl fS<|λ_=>Wi ?_
  exact hk _<|cM rfl
 ·have h1:xk=3:=h1
  subst h1
  have q7:eqBy 20 .pi (iv c.kind) (iv 1)=some false:=by rw[dM,decide_eq_false h2]
  have hkd:bV 1 (cu 1 c.row)=some [iv c.kind]:=rfl
  have hz:bV 1 (cu 4 o.row)=some [iv 1]:=by show some [iv o.ci]=_;rw[h3]
  refine Wq<|Wh (b:=false) rfl rfl rfl<|Wv rfl<|Wn<|Wd rfl fS<|λ_=>?_
  refine Wq<|Wh (b:=true) rfl rfl rfl<|Wv rfl<|Wn<|Wd rfl (λ_=>?_) Dz
  cases mn with
  | true=>
   refine Wq<|Wf rfl<|Wl rfl aaH rfl hkd rfl<|Wh rfl rfl q7<|Wv rfl<|Wy rfl rfl<|Wf rfl<|Wy rfl rfl<|Wl rfl abj rfl hz rfl<|Wy rfl rfl<|Wh (b:=true) rfl rfl rfl<|Wr (.bj rfl rfl)<|Wv rfl<|Wy rfl rfl<|Wv rfl<|Wy rfl rfl<|Wr (.un rfl rfl)<|Wy rfl rfl<|Wv rfl<|Wk rfl rfl<|Wk rfl rfl<|Wk rfl rfl<|Wk rfl rfl<|Wy rfl rfl<|Wr (.bj rfl rfl)<|Wr (.bj rfl rfl)<|Wn<|Wd rfl fS<|λ_=>Wi ?_
   exact hk _<|cM rfl
  | false=>
   rcases h4 with h4|h4
   ·cases h4
   obtain⟨n,hn1,hn2⟩:=abe c.keys 64
   rw[h4]at hn2
   have hn0:eqBy 20 .pi (iv n) (iv 0)=some false:=by rw[dM,<- hn2]
   refine Wq<|Wf rfl<|Wl rfl aaH rfl hkd rfl<|Wh rfl rfl q7<|Wv rfl<|Wy rfl rfl<|Wf rfl<|Wy rfl rfl<|Wl rfl abj rfl hz rfl<|Wy rfl rfl<|Wh (b:=true) rfl rfl rfl<|Wr (.bj rfl rfl)<|Wv rfl<|Wy rfl rfl<|Wv rfl<|Wy rfl rfl<|Wr (.un rfl rfl)<|Wy rfl rfl<|Wv rfl<|Wy rfl rfl<|Wf rfl<|Wy rfl rfl<|Wl rfl aaH rfl rfl rfl<|Wy rfl rfl<|Wj rfl rfl hn1<|Wy rfl rfl<|Wh rfl rfl hn0<|Wy rfl rfl<|Wr (.cV rfl rfl)<|Wr (.bj rfl rfl)<|Wn<|Wd rfl fS<|λ_=>Wi ?_
   exact hk _<|cM rfl
 ·have h1:xk=4:=h1
  have h4:xb=.ofNat j:=h4
  subst h1 h4
  have hz:bV 1 (cu 4 o.row)=some [iv 2]:=by show some [iv o.ci]=_;rw[h3]
  have hjl:j<c.ab.length:=(List.getElem?_eq_some_iff.1 h5).1
  have hil:i<L.length:=(List.getElem?_eq_some_iff.1 hx).1
  obtain⟨ba,ra,na,ca,J5,Sp,Ma,e1,hba,me,P1⟩:=hS.at (i:=i) (by rw[rq];exact hil)
  rw[show(otR L)[i]?=some (OT.row ⟨4,xa,.ofNat j⟩) by rw[otR,List.getElem?_map,hx];rfl]at P1
  obtain⟨bb,rb,nb,cb,slb,rob,Mb,e4,hbb,aa2,hrb⟩:=hSa.at (i:=j)<|by simpa using hjl
  rw[show(c.ab.map AD.row)[j]?=some a.row by rw[List.getElem?_map,h5];rfl]at hrb
  have act:lenOf c.av=some c.ab.length:=by rw[hSa.lenOf];simp
  have hj0:binV .lss (iv<|.ofNat j) (iv 0)=some (.bool false):=by rw[eT,decide_eq_false<|show¬Int.ofNat j<0 from Int.not_lt.2<|Int.natCast_nonneg j]
  have hak:bV 1 (cu 0 a.row)=some [iv 2]:=by show some [iv a.kind]=_;rw[h6]
  refine Wq<|Wh (b:=false) rfl rfl rfl<|Wv rfl<|Wn<|Wd rfl fS<|λ_=>?_
  refine Wq<|Wh (b:=false) rfl rfl rfl<|Wv rfl<|Wn<|Wd rfl fS<|λ_=>?_
  refine Wq<|Wh (b:=true) rfl rfl rfl<|Wv rfl<|Wn<|Wd rfl (λ_=>?_) Dz
  cases ht:a.tap with
  | true=>
   obtain⟨h8,h9⟩:=h7 ht
   have Ue:bV 1 (cu 7 a.row)=some [.bool true]:=by show some [AV.bool a.tap]=_;rw[ht]
   have ht1:bV 1 (cu 5 o.row)=some [.bool false]:=by show some [AV.bool o.RU]=_;rw[h8]
   have ht2:bV 1 (cu 6 o.row)=some [.bool false]:=by show some [AV.bool o.VK]=_;rw[h9]
   refine Ws<|WP.bD<|Dp (.faddr rfl)<|Dl rfl .nil (.load rfl abj rfl hz rfl)<|Dp (.eql (b:=true) rfl rfl rfl)<|Dp (.mv rfl)<|Dy rfl rfl<|Dp (.mv rfl)<|Dy rfl rfl<|Dp (.mv rfl)<|Dy rfl rfl<|Dp (.iaddrS (congrArg some e1) rfl me<|by decide)<|Dy rfl rfl<|Dp (.faddr rfl)<|Dy rfl rfl<|Dl rfl .nil (.load rfl hba P1 rfl rfl)<|Dy rfl rfl<|Dp (.arith rfl rfl hj0)<|Dp (.bj rfl rfl)<|Dp (.mv rfl)<|Dy rfl rfl<|Dp (.mv rfl)<|Dy rfl rfl<|Dp (.mv rfl)<|Dy rfl rfl<|Dp (.iaddrS (congrArg some e1) rfl me<|by decide)<|Dy rfl rfl<|Dp (.faddr rfl)<|Dy rfl rfl<|Dl rfl .nil (.load rfl hba P1 rfl rfl)<|Dy rfl rfl<|Dp (.faddr rfl)<|Dy rfl rfl<|Dl rfl .nil (.load rfl aaH rfl rfl rfl)<|Dy rfl rfl<|Dp (.lenS rfl act)<|Dy rfl rfl<|Dp (.arith rfl rfl<|Cm hjl)<|Dp (.bj rfl rfl)<|Dp (.mv rfl)<|Dy rfl rfl<|Dp (.faddr rfl)<|Dy rfl rfl<|Dl rfl .nil (.load rfl aaH rfl rfl rfl)<|Dy rfl rfl<|Dp (.mv rfl)<|Dy rfl rfl<|Dp (.mv rfl)<|Dy rfl rfl<|Dp (.iaddrS (congrArg some e1) rfl me<|by decide)<|Dy rfl rfl<|Dp (.faddr rfl)<|Dy rfl rfl<|Dl rfl .nil (.load rfl hba P1 rfl rfl)<|Dy rfl rfl<|Dp (.iaddrS (congrArg some e4) rfl aa2<|by decide)<|Dy rfl rfl<|Dp (.faddr rfl)<|Dy rfl rfl<|Dl rfl .nil (.load rfl hbb hrb hak rfl)<|Dy rfl rfl<|Dp (.eql (b:=true) rfl rfl rfl)<|Dp (.bj rfl rfl)<|Dp (.mv rfl)<|Dy rfl rfl<|Dp (.faddr rfl)<|Dy rfl rfl<|Dl rfl .nil (.load rfl aaH rfl rfl rfl)<|Dy rfl rfl<|Dp (.mv rfl)<|Dy rfl rfl<|Dp (.mv rfl)<|Dy rfl rfl<|Dp (.iaddrS (congrArg some e1) rfl me<|by decide)<|Dy rfl rfl<|Dp (.faddr rfl)<|Dy rfl rfl<|Dl rfl .nil (.load rfl hba P1 rfl rfl)<|Dy rfl rfl<|Dp (.iaddrS (congrArg some e4) rfl aa2<|by decide)<|Dy rfl rfl<|Dp (.faddr rfl)<|Dy rfl rfl<|Dl rfl .nil (.load rfl hbb hrb Ue rfl)<|Dy rfl rfl<|Dp (.mv rfl)<|Dy rfl rfl<|Dp (.faddr rfl)<|Dy rfl rfl<|Dl rfl .nil (.load rfl abj rfl ht1 rfl)<|Dy rfl rfl<|Dp (.mv rfl)<|Dy rfl rfl<|Dp (.faddr rfl)<|Dy rfl rfl<|Dl rfl .nil (.load rfl abj rfl ht2 rfl)<|Dy rfl rfl<|Dp (.bj rfl rfl)<|Dy rfl rfl<|Dp (.cV rfl rfl)<|Dp (.bj rfl rfl)<|D0 .nil ?_<|λo ho=>nomatch ho
   refine Wd rfl fS<|λ_=>Wi ?_
   exact hk _<|cM rfl
  | false=>
   have Ue:bV 1 (cu 7 a.row)=some [.bool false]:=by show some [AV.bool a.tap]=_;rw[ht]
   refine Ws<|WP.bD<|Dp (.faddr rfl)<|Dl rfl .nil (.load rfl abj rfl hz rfl)<|Dp (.eql (b:=true) rfl rfl rfl)<|Dp (.mv rfl)<|Dy rfl rfl<|Dp (.mv rfl)<|Dy rfl rfl<|Dp (.mv rfl)<|Dy rfl rfl<|Dp (.iaddrS (congrArg some e1) rfl me<|by decide)<|Dy rfl rfl<|Dp (.faddr rfl)<|Dy rfl rfl<|Dl rfl .nil (.load rfl hba P1 rfl rfl)<|Dy rfl rfl<|Dp (.arith rfl rfl hj0)<|Dp (.bj rfl rfl)<|Dp (.mv rfl)<|Dy rfl rfl<|Dp (.mv rfl)<|Dy rfl rfl<|Dp (.mv rfl)<|Dy rfl rfl<|Dp (.iaddrS (congrArg some e1) rfl me<|by decide)<|Dy rfl rfl<|Dp (.faddr rfl)<|Dy rfl rfl<|Dl rfl .nil (.load rfl hba P1 rfl rfl)<|Dy rfl rfl<|Dp (.faddr rfl)<|Dy rfl rfl<|Dl rfl .nil (.load rfl aaH rfl rfl rfl)<|Dy rfl rfl<|Dp (.lenS rfl act)<|Dy rfl rfl<|Dp (.arith rfl rfl<|Cm hjl)<|Dp (.bj rfl rfl)<|Dp (.mv rfl)<|Dy rfl rfl<|Dp (.faddr rfl)<|Dy rfl rfl<|Dl rfl .nil (.load rfl aaH rfl rfl rfl)<|Dy rfl rfl<|Dp (.mv rfl)<|Dy rfl rfl<|Dp (.mv rfl)<|Dy rfl rfl<|Dp (.iaddrS (congrArg some e1) rfl me<|by decide)<|Dy rfl rfl<|Dp (.faddr rfl)<|Dy rfl rfl<|Dl rfl .nil (.load rfl hba P1 rfl rfl)<|Dy rfl rfl<|Dp (.iaddrS (congrArg some e4) rfl aa2<|by decide)<|Dy rfl rfl<|Dp (.faddr rfl)<|Dy rfl rfl<|Dl rfl .nil (.load rfl hbb hrb hak rfl)<|Dy rfl rfl<|Dp (.eql (b:=true) rfl rfl rfl)<|Dp (.bj rfl rfl)<|Dp (.mv rfl)<|Dy rfl rfl<|Dp (.faddr rfl)<|Dy rfl rfl<|Dl rfl .nil (.load rfl aaH rfl rfl rfl)<|Dy rfl rfl<|Dp (.mv rfl)<|Dy rfl rfl<|Dp (.mv rfl)<|Dy rfl rfl<|Dp (.iaddrS (congrArg some e1) rfl me<|by decide)<|Dy rfl rfl<|Dp (.faddr rfl)<|Dy rfl rfl<|Dl rfl .nil (.load rfl hba P1 rfl rfl)<|Dy rfl rfl<|Dp (.iaddrS (congrArg some e4) rfl aa2<|by decide)<|Dy rfl rfl<|Dp (.faddr rfl)<|Dy rfl rfl<|Dl rfl .nil (.load rfl hbb hrb Ue rfl)<|Dy rfl rfl<|Dp (.mv rfl)<|Dk rfl rfl rfl<|Dk rfl rfl rfl<|Dk rfl rfl rfl<|WD.kg rfl rfl<|WD.kg rfl rfl<|Dk rfl rfl rfl<|Dy rfl rfl<|Dp (.bj rfl rfl)<|Dp (.bj rfl rfl)<|D0 .nil ?_<|λo ho=>nomatch ho
   refine Wd rfl fS<|λ_=>Wi ?_
   exact hk _<|cM rfl
structure LawW (P:Program)(K:Orc)(F:Nat->FuncId)(T:Nat->TypeId):Prop where
 hU:LawU P K F T
 hW:BaseW P K F T
 hM:BaseM P K F T
 t85:Ty P (T 85) 3
theorem abA:∀c∈C22 0,∀a∈c.ab,a.tap=true->c.kind=2/\aam 2 c.keys=true:=by
 intro c hc a ha ht
 simp only[C22,List.mem_cons,List.not_mem_nil,or_false]at hc
 rcases hc with rfl|rfl|rfl|rfl|rfl|rfl
 ·cases ha
 ·cases ha
 ·rw[List.mem_singleton.1 ha]at ht;cases ht
 ·rw[List.mem_singleton.1 ha]at ht;cases ht
 ·exact⟨rfl,rfl⟩
 ·rcases List.mem_cons.1 ha with rfl | ha
  ·cases ht
  ·rw[List.mem_singleton.1 ha]at ht;cases ht
theorem abT {C C':List CD}(h:C'.map aaq=C.map aaq){k:Nat}{c:CD}(hc:C[k]?=some c):∃c',C'[k]?=some c'/\c'.kind=c.kind/\c'.keys=c.keys/\c'.ab.map (λa=>(a.kind,a.tap))=c.ab.map λa=>(a.kind,a.tap):=by
 have h2:(C'.map aaq)[k]?=some (aaq c):=by rw[h,List.getElem?_map,hc];rfl
 rw[List.getElem?_map]at h2
 cases hk:C'[k]? with
 | none=>rw[hk]at h2;cases h2
 | some c'=>
  rw[hk]at h2
  have h3:aaq c'=aaq c:=Option.some.inj h2
  exact⟨c',rfl,congrArg (·.1) h3,congrArg (·.2.1) h3,congrArg (·.2.2) h3⟩
theorem acw {c c':CD}(h:c'.ab.map (λa=>(a.kind,a.tap))=c.ab.map λa=>(a.kind,a.tap)){j:Nat}{a:AD}(ha:c.ab[j]?=some a):∃a',c'.ab[j]?=some a'/\a'.kind=a.kind/\a'.tap=a.tap:=by
 have h2:(c'.ab.map λa=>(a.kind,a.tap))[j]?=some (a.kind,a.tap):=by rw[h,List.getElem?_map,ha];rfl
 rw[List.getElem?_map]at h2
 cases hk:c'.ab[j]? with
 | none=>rw[hk]at h2;cases h2
 | some a'=>
  rw[hk]at h2
  have h3:=Option.some.inj h2
  exact⟨a',rfl,congrArg (·.1) h3,congrArg (·.2) h3⟩
theorem acb (hX:LawW P K F T){m:SH}{p:Nat}{mn:Bool}{vo:AV}{L:List OT}(hsm:d.Small)(hf:Has bf (.r false [bu bl aZ c0 c1 c2 c3 c4 bE] 8) t)(hs:aH bl EL d (m++t) s)(hS:Src m 3 vo (otR L))(hN:L.Nodup)(hn:L.length<=1000)(h0:1<=L.length)
  (aa4:∀i x,1<=i->L[i]?=some x->abx d (C22 0) p x) (hmn:ec d (.ofNat p)=true->mn=true)
  (hl:∀x v,lk [(7,iv<|.ofNat p),(9,.ptr<|some ⟨bf,0,0⟩),(12,vo),(13,.bool mn)] x=some v->lk l x=some v) :
  WP P K none 216 (.seq (oN [zo 14 (.mv<|zc 1)]<|.block 0<|.loop<|a9L F T)<|oN [zo 6 (.mv<|.const<|.bool true)] .ret) l [] s Kj (λ_=>Kj) (aby t):=by
 refine Wg hl (λ_ _ h=>h) ?_
 have hlen:lenOf vo=some L.length:=by rw[hS.lenOf,rq]
 refine Ws<|Wq<|Wv rfl<|Wn<|Wb ?_
 unfold a9L
 refine Wp (λkk l ds s'=>ds=[]/\∃i,kk=L.length-i/\1<=i/\i<=L.length/\aH bl EL d (m++t) s'/\∀x v,lk [(7,iv<|.ofNat p),(9,.ptr<|some ⟨bf,0,0⟩),(12,vo),(13,.bool mn),(14,iv<|.ofNat i)] x=some v->lk l x=some v) ?_ (n:=L.length-1)
  ⟨rfl,1,rfl,Nat.le_refl _,h0,hs,cM rfl⟩
 rintro kk l ds s3 ⟨rfl,i,rfl,hi1,hi,gw,hl⟩
 refine Wg hl (λ_ _ h=>h) ?_
 refine Ws<|Wq<|Wv rfl<|Wv rfl<|Wr (.lenS rfl hlen)<|Wj rfl rfl (eT _ _)<|Wn<|Wd rfl (λht=>Wi ?_)<|λht=>Wx ?_
 rotate_left
 ·exact Wq<|Wv rfl<|Wn<|We ⟨rfl,rfl,λb o h=>gw.mem<|.app h⟩
 have hlt:i<L.length:=Int.ofNat_lt.1<|of_decide_eq_true ht
 have hS3:Src s3 3 vo (otR L):=hS.mono λq hq=>(gw.mem<|.ce<|by simp[hq]).mem
 have hx:L[i]?=some L[i]:=List.getElem?_eq_getElem hlt
 refine Ws<|Wb<|Ws<|abU hS3 hN hlt hn (cM rfl) ?_
 intro l4 hl4
 refine Wg hl4 (λ_ _ h=>h) ?_
 generalize L[i]=x at hx
 obtain⟨o,k,c,ho,hoc,hok,hCk,hof⟩:=aa4 i x hi1 hx
 obtain⟨ba,ra,na,ca,J5,Sp,Ma,e1,hba,me,P1⟩:=hS3.at (i:=i) (by rw[rq];exact hlt)
 rw[show(otR L)[i]?=some x.row by rw[otR,List.getElem?_map,hx];rfl]at P1
 refine Wq<|Wv rfl<|Wv rfl<|Wv rfl<|Wr (.iaddrS (congrArg some e1) rfl me<|by decide)<|Wf rfl<|Wl rfl hba P1 rfl rfl<|Ww<|Wz [.ptr (some ⟨bf,0,0⟩),iv x.a] rfl rfl (Qq hX.hU.hB hX.hU.hC gw hsm<|.app hf) ?_
 rintro w5 s5 ⟨hv5,tn⟩
 rw[ho]at hv5
 subst hv5
 refine Wv rfl<|Wr (.extract rfl rfl)<|Wr (.extract rfl rfl)<|Wa (.alloc rfl) λb16=>Ww<|Wt (s':=(b16,.r false [o.row] 14)::s5) rfl rfl rfl .here rfl rfl<|Wv rfl<|Wn ?_
 have hct:bV 1 (cu 3 o.row)=some [iv (.ofNat p)]:=by show some [iv o.aQ]=_;rw[hoc]
 have hcd:bV 1 (cu 1 o.row)=some [iv (.ofNat k)]:=by show some [iv o.gE]=_;rw[hok]
 have hpp:eqBy 20 .pi (iv<|.ofNat p) (iv<|.ofNat p)=some true:=by rw[dM,decide_eq_true rfl]
 refine Ws<|Wq<|Wv rfl<|Wr (.un rfl rfl)<|Wv rfl<|Wy rfl rfl<|Wf rfl<|Wy rfl rfl<|Wl rfl .here rfl hct rfl<|Wy rfl rfl<|Wv rfl<|Wy rfl rfl<|Wh rfl rfl hpp<|Wr (.bj rfl rfl)<|Wn<|Wd rfl fS<|λ_=>Wi ?_
 refine Ws<|WP.fd λH6=>?_
 refine Dc .nil<|Wz [] rfl rfl (abW hX.hW) ?_
 rintro w6 _ ⟨m6,C',rfl,hSc,hSa,hCK⟩
 obtain⟨c',uz,q7,hk2,A4⟩:=abT hCK hCk
 have hkl:k<C'.length:=(List.getElem?_eq_some_iff.1 uz).1
 obtain⟨bc,rc,nc,cc0,slc,roc,Mc,e6,hbc,CC,hrc⟩:=hSc.at (i:=k)<|by simpa using hkl
 rw[show(C'.map CD.row)[k]?=some c'.row by rw[List.getElem?_map,uz];rfl]at hrc
 refine Dp (.faddr rfl)<|WD.lk rfl .nil (.load rfl (.app<|.there .here) rfl hcd rfl)<|Dp (.iaddrS (congrArg some e6) rfl CC<|by decide)<|Dl rfl .nil (.load (cs:=c'.row) rfl (.left hbc) hrc rfl rfl)<|WD.al (.alloc rfl) rfl<|Dc (.yes (show bit 63 5=true from rfl) rfl (.app .here) .nil)<|Wt rfl rfl rfl (.app .here) rfl rfl<|D0 .nil ?_ ?_
 rotate_left
 ·intro o' ho'
  rw[List.mem_singleton.1 ho']
  refine⟨λj hj=>by rw[List.mem_singleton.1 hj];exact(show bit 2 5=false from rfl),Nat.zero_le _,wC _,λj _ hj=>?_⟩
  rcases(by have:j<=1:=hj;omega:j=0\/j=1)with rfl|rfl
  ·exact⟨_,rfl,.load rfl (.there .here) rfl hcd rfl⟩
  ·exact⟨_,rfl,.load rfl (.app<|.there .here) rfl hcd rfl⟩
 have hs7:aH bl EL d (m++t) (m6++((H6,.r false [c'.row] 11)::(b16,.r false [o.row] 14)::s5)):=aH.bK (m:=m6)<|aH.bK (m:=[_,_]) tn
 have hS7:Src (m6++((H6,.r false [c'.row] 11)::(b16,.r false [o.row] 14)::s5)) 3 vo (otR L):=hS.mono λq hq=>(hs7.mem<|.ce<|by simp[hq]).mem
 obtain⟨ba,ra,na,ca,J5,Sp,Ma,e1,hba,me,P1⟩:=hS7.at (i:=i) (by rw[rq];exact hlt)
 rw[show(otR L)[i]?=some x.row by rw[otR,List.getElem?_map,hx];rfl]at P1
 refine Wq<|Wv rfl<|Wv rfl<|Wr (.iaddrS (congrArg some e1) rfl me<|by decide)<|Wf rfl<|Wl rfl hba P1 rfl rfl<|Wn ?_
 refine adg (o:=o) (c:=c') hS7 hx (.app<|.there .here) (.app .here) ((hSa c'<|List.mem_of_getElem? uz).mono λq hq=>by simp[hq]) ?_ (cM rfl) ?_
 ·rcases hof with⟨g1,g2,g3,g4⟩ | ⟨g1,g2,g3,g4⟩ | ⟨g1,g2,j,a,g3,g4,g5,g6⟩
  ·exact .inl ⟨g1,by rw[q7,g2],g3,hmn g4⟩
  ·refine .inr (.inl ⟨g1,by rw[q7];exact g2,g3,?_⟩)
   rcases g4 with g4|g4
   ·exact .inl<|hmn g4
   ·exact .inr<|by rw[hk2,g4]
  ·obtain⟨a',q1,q2,q3⟩:=acw A4 g4
   exact .inr<|.inr ⟨g1,g2,j,a',g3,q1,by rw[q2,g5],λh=>g6<|by rw[<- q3,h]⟩
 ·intro l8 hl8
  refine Wg hl8 (λ_ _ h=>h) ?_
  refine Wo<|Wv rfl<|Wj rfl rfl (bM<|by omega)<|Wv rfl<|Wn ?_
  exact⟨L.length-(i+1),by omega,rfl,i+1,rfl,by omega,hlt,hs7,cM rfl⟩
theorem ab8 (hX:LawW P K F T)(hm:qc bf bl aZ bE c0 c1 c2 c3 c4 (C22 0) tl t){ac ph p n x:Nat}{d:SD}(hx:x<=255)(hac:ac=x/3%3)(hU:aaf d n)(hV:aal d)(hn:n<=20)(UO:p<3)(hs:aH bl EL { d with tu:=d.tu+1,ac:=.ofNat ac,ph:=.ofNat ph } t s)
  (hl:∀y v,lk [(1,.int .u8<|.ofNat x),(7,iv<|.ofNat p),(8,iv<|.ofNat ph),(9,.ptr<|some ⟨bf,0,0⟩)] y=some v->lk l y=some v):WP P K none 216 (a9Z F T) l [] s Kj (λ_=>Kj) (aby t):=by
 refine Wg hl (λ_ _ h=>h) ?_
 have hCU:=ab1 0
 have hF0:=hU.fin (ac:=ac) (ph:=ph) hCU hn
 have hV0:aal { d with tu:=d.tu+1,ac:=.ofNat ac,ph:=.ofNat ph }:=hV.fin
 have hcd:∀o∈d.ob,∃j:Nat,o.gE=.ofNat j/\j<(C22 0).length:=by rw[hCU.len];exact hU.gE
 generalize Un:({ d with tu:=d.tu+1,ac:=.ofNat ac,ph:=.ofNat ph }:SD)=e0 at hs hF0 hV0
 have zF:e0.ob=d.ob:=by rw[<- Un]
 have hE:GE P K F T (T 26) (λ_ c=>c) (C22 0) e0:=hX.hU.ge hF0.small hF0.even<|acT hCU.no (by rw[zF];exact hcd)
 obtain⟨lp,hlp,_⟩:=hF0.pl p UO
 obtain⟨bX,ac2,aeJ,hall⟩:=hF0.hd p UO
 have UG:=ace (g:=λ_ c=>c) (d:=e0) (C:=C22 0) (tl:=tl) (p:=p) (lp:=lp) aeJ hF0.fi.1 hCU.ab
 have hnd:=abo (g:=λ_ c=>c) (tl:=tl) (lp:=lp) hV0 hCU.no abA ac2 hall hF0.fi.2
 have aa4:∀i x,1<=i->(vj (λ_ c=>c) e0 (C22 0) tl p lp bX)[i]?=some x->abx e0 (C22 0) p x:=by
  intro i x hi hix
  obtain⟨j,rfl⟩:∃j,i=j+1:=⟨i-1,by omega⟩
  have hix:(bX.filterMap (qb (λ_ c=>c) e0 (C22 0) tl p (ec e0<|.ofNat p) lp)++usesT (λ_ c=>c) e0 (C22 0) tl p e0.fi)[j]?=some x:=hix
  rcases List.mem_append.1 (List.mem_of_getElem? hix)with h|h
  ·exact(abC hV0 ac2 hall x h).1
  ·exact(abL hV0 hCU.no abA hF0.fi.2 x h).1
 unfold a9Z
 refine Ws<|Wq<|Wv rfl<|Wh (b:=false) rfl rfl rfl<|Wn<|Wd rfl fS<|λ_=>Wi ?_
 refine Wq<|Wv rfl<|Ww<|Wz [.ptr (some ⟨bf,0,0⟩)] rfl rfl (iT hX.hU.hB<|hs.mem hm.hf) ?_
 rintro _ _ ⟨rfl,rfl⟩
 refine Ww<|Wz [.ptr (some ⟨bl,0,0⟩)] rfl rfl (pS hX.hM hs) ?_
 rintro _ s2 ⟨rfl,dt⟩
 refine Wv rfl<|Wn ?_
 refine Wq<|Wv rfl<|Wr (.mkif rfl rfl)<|Wv rfl<|Ww<|Wz [gm (T 26) bf,iv<|.ofNat p] rfl rfl (aaQ hE hm dt ac2 hlp hall hF0.fi.2 hCU.ab (by omega)<|by omega) ?_
 rintro vo s5 ⟨m5,tn,hS5⟩
 refine Wv rfl<|Wn ?_
 have h1:1<=(vj (λ_ c=>c) e0 (C22 0) tl p lp bX).length:=Nat.succ_le_succ<|Nat.zero_le _
 have adO:(vj (λ_ c=>c) e0 (C22 0) tl p lp bX)[0]?=some ⟨1,0,0⟩:=rfl
 generalize vj (λ_ c=>c) e0 (C22 0) tl p lp bX=L at hS5 UG hnd aa4 h1 adO
 have hlen:lenOf vo=some L.length:=by rw[hS5.lenOf,rq]
 have hS6:Src s5 3 vo (otR L):=hS5.mono λq hq=>(tn.mem<|.ce<|by simp[hq]).mem
 obtain⟨ba,ra,na,ca,J5,Sp,Ma,e1,hba,me,P1⟩:=hS6.at (i:=0) (by rw[rq];omega)
 rw[show(otR L)[0]?=some [iv 1,iv 0,iv 0] by rw[otR,List.getElem?_map,adO];rfl]at P1
 have Uy:eqBy 20 .pi (iv<|.ofNat L.length) (iv 0)=some false:=by rw[dM,decide_eq_false<|show¬Int.ofNat L.length=0 from(by omega:¬((L.length:Nat):Int)=0)]
 have hnn:eqBy 20 .pi (iv<|.ofNat EL.length) (iv<|.ofNat EL.length)=some true:=by rw[dM,decide_eq_true rfl]
 refine Ws<|Ws<|WP.bD<|Dp (.mv rfl)<|Dp (.lenS rfl hlen)<|Dp (.eql rfl rfl Uy)<|Dp (.mv rfl)<|Dy rfl rfl<|Dp (.mv rfl)<|Dy rfl rfl<|Dp (.iaddrS (congrArg some e1) rfl me<|by decide)<|Dy rfl rfl<|WD.lk rfl .nil (.load (cs:=[iv 1,iv 0,iv 0]) rfl hba P1 rfl rfl)<|Dy rfl rfl<|Dc .nil<|Wz [iv 1,iv 0,iv 0] rfl rfl (acB hX.hW hX.t85) ?_
 rintro _ _ ⟨rfl,m6,rfl⟩
 have KL:aH bl EL e0 (m5++t) (m6++s5):=tn.bK
 refine Dy rfl rfl<|Dp (.eql (b:=true) rfl rfl rfl)<|Dp (.bj rfl rfl)<|Dp (.mv rfl)<|Dy rfl rfl<|Dp (.mv rfl)<|Dy rfl rfl<|Dc .nil<|Wz [.ptr (some ⟨bf,0,0⟩)] rfl rfl (iT hX.hU.hB<|KL.mem<|.app hm.hf) ?_
 rintro _ _ ⟨rfl,rfl⟩
 refine Dy rfl rfl<|Dc .nil<|Wz [.ptr (some ⟨bl,0,0⟩)] rfl rfl (pS hX.hM KL) ?_
 rintro _ s8 ⟨rfl,hs8⟩
 refine Dy rfl rfl<|Dp (.mv rfl)<|Dy rfl rfl<|Dp (.eql rfl rfl hnn)<|Dp (.bj rfl rfl)<|D0 .nil ?_ ?_
 rotate_left
 ·intro o' ho'
  rw[List.mem_singleton.1 ho']
  refine⟨λj hj=>(nomatch hj),Nat.zero_le _,rfl,λj _ hj=>?_⟩
  rcases(by have:j<=1:=hj;omega:j=0\/j=1)with rfl|rfl
  ·exact⟨_,rfl,.load rfl hba P1 rfl rfl⟩
  ·exact⟨_,rfl,.load rfl (.app hba) P1 rfl rfl⟩
 refine Wd rfl fS<|λ_=>Wi ?_
 have h66:binV .rem (.int .u8<|.ofNat<|x/3) (.int .u8<|.ofNat 3)=some (.int .u8<|.ofNat ac):=by rw[hac];exact yi<|by omega
 have ag2:ac<3:=by rw[hac];exact Nat.mod_lt _<|by omega
 have h67:mkI .i64 (.ofNat ac)=some (iv<|.ofNat ac):=tD<|by omega
 have hpa:eqBy 20 .pi (iv<|.ofNat p) (iv<|.ofNat ac)=some (decide<|p=ac):=(dM _ _).trans (congrArg some<|dN p ac)
 have hh2:eqBy 20 .pi (iv<|.ofNat ph) (iv 2)=some (decide<|ph=2):=(dM _ _).trans (congrArg some<|dN ph 2)
 have hh8:eqBy 20 .pi (iv<|.ofNat ph) (iv 8)=some (decide<|ph=8):=(dM _ _).trans (congrArg some<|dN ph 8)
 have aa3:ec e0 (.ofNat p)=(decide (p=ac)&&(decide (ph=2)||decide (ph=8))&&decide (e0.st.length=0)):=by
  unfold ec
  rw[hF0.ac,hF0.ph,dN,show decide (Int.ofNat ph=2)=decide (ph=2)from dN ph 2,show decide (Int.ofNat ph=8)=decide (ph=8)from dN ph 8]
 have fin:∀{l9:Sl}{mn:Bool},(ec e0 (.ofNat p)=true->mn=true)->(∀y v,lk [(7,iv<|.ofNat p),(9,.ptr<|some ⟨bf,0,0⟩),(12,vo),(13,.bool mn)] y=some v->lk l9 y=some v)->WP P K none 216 (.seq (oN [zo 14 (.mv<|zc 1)]<|.block 0<|.loop<|a9L F T)<|oN [zo 6 (.mv<|.const<|.bool true)] .ret) l9 [] s8 Kj (λ_=>Kj) (aby t):=
  λhmn hl9=>acb hX hF0.small hm.hf hs8 hS5 hnd UG h1 aa4 hmn hl9
 cases adU:decide (p=ac) with
 | false=>
  rw[adU]at hpa aa3
  refine Wq<|Wv rfl<|Wv rfl<|Wj rfl rfl (abJ hx)<|Wj rfl rfl h66<|Wr (.convI rfl h67)<|Wh rfl rfl hpa<|Wv rfl<|Wk rfl rfl<|Wk rfl rfl<|Wk rfl rfl<|Wu rfl<|Wu rfl<|Wk rfl rfl<|Wr (.bj rfl rfl)<|Wv rfl<|Wn ?_
  exact fin (λh=>by rw[aa3]at h;cases h)<|cM rfl
 | true=>
  rw[adU]at hpa aa3
  cases adP:decide (ph=2) with
  | true=>
   rw[adP]at hh2
   refine Wq<|Wv rfl<|Wv rfl<|Wj rfl rfl (abJ hx)<|Wj rfl rfl h66<|Wr (.convI rfl h67)<|Wh rfl rfl hpa<|Wv rfl<|Wy rfl rfl<|Wv rfl<|Wy rfl rfl<|Wh rfl rfl hh2<|Wy rfl rfl<|Wv rfl<|Wk rfl rfl<|Wk rfl rfl<|Wy rfl rfl<|Wr (.cV rfl rfl)<|Wr (.cV rfl rfl)<|Wv rfl<|Wn ?_
   exact fin (λ_=>rfl)<|cM rfl
  | false=>
   rw[adP]at hh2 aa3
   refine Wq<|Wv rfl<|Wv rfl<|Wj rfl rfl (abJ hx)<|Wj rfl rfl h66<|Wr (.convI rfl h67)<|Wh rfl rfl hpa<|Wv rfl<|Wy rfl rfl<|Wv rfl<|Wy rfl rfl<|Wh rfl rfl hh2<|Wy rfl rfl<|Wv rfl<|Wy rfl rfl<|Wv rfl<|Wy rfl rfl<|Wh rfl rfl hh8<|Wy rfl rfl<|Wr (.bj rfl rfl)<|Wr (.cV rfl rfl)<|Wv rfl<|Wn ?_
   refine fin (mn:=decide<|ph=8) (λh=>?_)<|cM rfl
   rw[aa3]at h
   cases hq:decide (ph=8) with
   | true=>rfl
   | false=>rw[hq]at h;cases h
noncomputable def abr:V:={ vU with t:=13,a:=4 }
noncomputable def pre9 (P:Program)(ih:bT)(c c35:Code)(h0:FH)(z:Nat):Bool:=
 RE P 216 ih (spine 2 c).1 (λe h=>abm (atR 0 e) 0&&(abm (atR 1 e) 1&&(abm (atR 2 e) 4&&((match h.fr.ds with | []=>true | _=>false)&&acP P ih c35 0 [] z h))))
  (Ba [rJ,Ah,abr] 0 kj) h0
theorem adH:(Dw (V0 0++[])).Pairwise λp q=>p.1≠q.1:=by
 simp[Dw,V0,stL,tL]
theorem acp:∀p∈Dw (V0 0++[]),p.1≠0:=by
 intro p hp
 simp only[Dw,V0,stL,tL,List.map_cons,List.map_nil,List.cons_append,List.nil_append,List.append_nil,List.mem_cons,List.not_mem_nil,or_false]at hp
 rcases hp with rfl|rfl|rfl|rfl|rfl|rfl|rfl|rfl|rfl|rfl|rfl|rfl|rfl|rfl|rfl|rfl|rfl<;>exact Nat.succ_ne_zero _
end
section
variable [Sg]{P:Program}{K:Orc}{F:Nat->FuncId}{T:Nat->TypeId}
theorem abE (hX:LawW P K F T) (hS:aaV P K F) {ih:bT} (hC:eL P K ih) {fn:Func} {c:Code} (hf:P.funcs[F 35]?=some fn) (hb:fn.body=some c) (hnt:fn.ntmps=82) (hres:fn.results.toList=[.tmp 8,.tmp 9]) (hname:(fn.name == "runtime.NumGoroutine")=false)
  (j5:cc P 82 (spine 4 c).2=ab0 F T) (hK:∀args H,K (F 35) args H=none) {f9:FuncId} {fn9:Func} {c9:Code} (hf9:P.funcs[f9]?=some fn9) (hb9:fn9.body=some c9) (ac4:fn9.ntmps=216) (adX:fn9.results.toList=[.tmp 6]) (ac3:(fn9.name == "runtime.NumGoroutine")=false)
  (ac6:cc P 216 (spine 2 c9).2=.seq (.ops a9W) (.seq (.ops<|a9X F)<|a9Z F T)) (hK9:∀args H,K f9 args H=none) {h0:FH} {H0:Heap} (hH:cj h0 H0) (hfr:h0.fr=Kz) {z:Nat} (hpre:pre9 P ih c9 c h0 z=true) {x yy:Nat} (hx:x<=255) (hyy:yy<=255) {lv:AV} (ha:VAs [rJ,Ah,abr] [lv,.int .u8<|.ofNat x,.int .u8<|.ofNat yy])
  (Gw:VA abp (iv<|.ofNat<|x/3%3)) (hv3:VA abq (iv<|.ofNat<|yy%10)) {L:List (List AV)} (XV:lenOf lv=some L.length)
  (XW:∀i,i<L.length->∃x z y:Nat,x<=255/\z<=255/\y<=255/\L[i]?=some [.int .u8 (.ofNat x),.int .u8<|.ofNat z,.int .u8<|.ofNat y]) (XX:0<L.length->z=5/\(∃cap sl,lv=.slice (some ⟨0,0,0⟩) L.length cap sl 3)/\(HO.r true L 3).ok (some<|Sg.iK 0)) :
  ∃H',cD P K f9 [lv,.int .u8<|.ofNat x,.int .u8<|.ofNat yy] H0 (.bool true) H'/\(0<L.length->(HO.r true L 3).ok (H'.get 0)):=by
 obtain⟨e0,iL,XN⟩:=sU (nt:=216) ha (by omega)<|by simp
 obtain⟨E',H',ds',e',h',q1,q2,q3,q4,q5⟩:=ye (rd:=none) (ds:=[]) hC (spine 2 c9).1 XN hH (by rw[hfr];exact⟨rfl,(λD hD=>by cases hD),rfl⟩) hpre
 obtain⟨k3,q4⟩:=Bool.and_eq_true_iff.1 q4
 obtain⟨j3,q4⟩:=Bool.and_eq_true_iff.1 q4
 obtain⟨kS,q4⟩:=Bool.and_eq_true_iff.1 q4
 obtain⟨k7,aeN⟩:=Bool.and_eq_true_iff.1 q4
 have hds:=Cl q3 k7
 subst hds
 obtain⟨a0,e0',v0⟩:=q1.slot 0<|by omega
 obtain⟨a1,Xv,v1⟩:=q1.slot 1<|by omega
 obtain⟨a2,e2',v2⟩:=q1.slot 2<|by omega
 obtain⟨YG,aeV,aeP⟩:VA rJ lv/\VA Ah (.int .u8<|.ofNat x)/\VA abr (.int .u8<|.ofNat yy):=by
  cases ha with
  | cons hv ha=>
   cases ha with
   | cons hw ha=>
    cases ha with
    | cons hu _=>exact⟨hv,hw,hu⟩
 have ea0:=P0 k3 v0 YG rfl rfl
 have Xw:=P0 j3 v1 aeV rfl rfl
 have ea2:=P0 kS v2 aeP rfl rfl
 subst ea0 Xw ea2
 -- what the aZ are
 let cs:Nat->Nat:=λj=>match L[j]? with | some [.int .u8 (.ofNat y),_,_]=>y%6 | _=>0
 let zs:Nat->Nat:=λj=>match L[j]? with | some [_,.int .u8<|.ofNat y,_]=>y%2 | _=>0
 let ps:Nat->Nat:=λj=>match L[j]? with | some [_,_,.int .u8<|.ofNat y]=>y%3 | _=>0
 have Pw:∀i,i<L.length->∃x z y:Nat,x<=255/\z<=255/\y<=255/\L[i]?=some [.int .u8 (.ofNat x),.int .u8<|.ofNat z,.int .u8<|.ofNat y]/\x%6=cs i/\z%2=zs i/\y%3=ps i:=by
  intro i hi
  obtain⟨x,z,y,h1,h2,h3,h4⟩:=XW i hi
  refine⟨x,z,y,h1,h2,h3,h4,?_,?_,?_⟩
  ·show _=(match L[i]? with | some [.int .u8 (.ofNat y),_,_]=>y%6 | _=>0)
   rw[h4]
  ·show _=(match L[i]? with | some [_,.int .u8<|.ofNat y,_]=>y%2 | _=>0)
   rw[h4]
  ·show _=(match L[i]? with | some [_,_,.int .u8<|.ofNat y]=>y%3 | _=>0)
   rw[h4]
 have adV:∀j,j<min L.length 20->ps j<3/\cs j<6/\zs j<2:=by
  intro j hj
  obtain⟨x,z,y,_,_,_,_,h1,h2,h3⟩:=Pw j<|by omega
  rw[<- h1,<- h2,<- h3]
  exact⟨Nat.mod_lt _<|by omega,Nat.mod_lt _<|by omega,Nat.mod_lt _<|by omega⟩
 have hac:x/3%3<3:=Nat.mod_lt _<|by omega
 have hph:yy%10<10:=Nat.mod_lt _<|by omega
 have UO:x%3<3:=Nat.mod_lt _<|by omega
 obtain⟨H3,s3,z0,ids,EL,w1,w2,w3,w5,w6⟩:=abP hX.hU.hB hX.hU.hS.f271 hX.hU.hS.f280 hS hC hf hb hnt hres hname j5 hK q2 q3 adH acp aeN hac hph Gw hv3 YG (ps:=ps) (cs:=cs) (zs:=zs) XV Pw XX
 have h22:binV .rem (.int .u8<|.ofNat x) (.int .u8<|.ofNat 3)=some (.int .u8<|.ofNat<|x%3):=yi<|by omega
 have h23:mkI .i64 (.ofNat<|x%3)=some (iv<|.ofNat<|x%3):=tD<|by omega
 have h25:binV .rem (.int .u8<|.ofNat yy) (.int .u8<|.ofNat 10)=some (.int .u8<|.ofNat<|yy%10):=yi<|by omega
 have VX:mkI .i64 (.ofNat<|yy%10)=some (iv<|.ofNat<|yy%10):=tD<|by omega
 have h30:binV .rem (.int .u8<|.ofNat<|x/3) (.int .u8<|.ofNat 3)=some (.int .u8<|.ofNat<|x/3%3):=yi<|by omega
 have h31:mkI .i64 (.ofNat<|x/3%3)=some (iv<|.ofNat<|x/3%3):=tD<|by omega
 have UY:En [(0,a0),(1,.int .u8<|.ofNat x),(2,.int .u8<|.ofNat yy)] E':=by
  intro i v hi
  simp only[lu]at hi
  split at hi
  ·rename_i h;cases hi;rw[<- h];exact e0'
  ·split at hi
   ·rename_i h;cases hi;rw[<- h];exact Xv
   ·split at hi
    ·rename_i h;cases hi;rw[<- h];exact e2'
    ·cases hi
 have hwy:WOy P K a9W [(0,a0),(1,.int .u8<|.ofNat x),(2,.int .u8<|.ofNat yy)] (λl'=>∀y w,lk [(0,a0),(1,.int .u8<|.ofNat x),(7,iv<|.ofNat<|x%3),(8,iv<|.ofNat<|yy%10)] y=some w->lk l' y=some w):=by
  unfold a9W
  exact WOy.r (.mv rfl)<|WOy.r (.arith rfl rfl h22)<|WOy.r (.convI rfl h23)<|WOy.r (.mv rfl)<|WOy.r (.arith rfl rfl h25)<|WOy.r (.convI rfl VX)<|WOy.r (.mv rfl)<|WOy.r (.mv rfl)<|WOy.nil<|cM rfl
 obtain⟨xx,e'',Xu,H2,l',s',r1,r2,r3,r4⟩:=hwy.seq2 UY (ds:=[]) (H0:=⟨.lf,0⟩) (Qn:=Kj) (Qe:=λ_=>Kj) (Qr:=aby<|Dw (tL 0)++(Dw []++z0)) (λl6 e6 hl6 hE6=>by
  have g0:En [(0,a0),(1,.int .u8<|.ofNat x),(7,iv<|.ofNat<|x%3),(8,iv<|.ofNat<|yy%10)] e6:=λi v hi=>hE6 i v<|hl6 i v hi
  have g1:=g0.putO (some 28)<|.int .u8<|.ofNat x
  have g2:=g1.putO (some 29)<|.int .u8<|.ofNat<|x/3
  have g3:=g2.putO (some 30)<|.int .u8<|.ofNat<|x/3%3
  have g4:=g3.putO (some 31)<|iv<|.ofNat<|x/3%3
  have g5:=g4.putO (some 32)<|iv<|.ofNat<|yy%10
  have g6:=g5.putO (some 33) a0
  unfold a9X
  refine WOa.r (.mv rfl) g0<|WOa.r (.arith rfl rfl<|abJ hx) g1<|WOa.r (.arith rfl rfl h30) g2<|WOa.r (.convI rfl h31) g3<|WOa.r (.mv rfl) g4<|WOa.r (.mv rfl) g5<|WOa.cons (qu.call (fv:=.func (F 35) [] []) (vs:=[.bool false,iv<|.ofNat<|x/3%3,iv<|.ofNat<|yy%10,a0]) rfl ?_<|ki.func w1)<|WOa.of ?_ (g6.putO (some 34) _) w2
  ·simp only[aI,aG g6 (x:=.const<|.bool false) (v:=.bool false) rfl,aG g6 (x:=.tmp 31) (v:=iv<|.ofNat<|x/3%3) rfl,aG g6 (x:=.tmp 32) (v:=iv<|.ofNat<|yy%10) rfl,aG g6 (x:=.tmp 33) (v:=a0) rfl]
  ·refine Wv rfl (Wr (.extract rfl rfl)<|Wr (.extract rfl rfl)<|Wv rfl<|Wv rfl<|Wn ?_)
   exact ab8 hX (adJ 0 _) hx rfl (aaL ps cs zs _ adV) (adG ps cs zs _ adV) (Nat.min_le_right _ _) UO w3 (cM rfl)) ac6
 have run:=q5 (spine 2 c9).2 _ r1
 rw[ug]at run
 cases xx with
 | normal=>exact r4.elim
 | exit i=>exact r4.elim
 | ret=>
  obtain⟨rfl,u4,hm⟩:=r4
  refine⟨H2,cD.enter (hK9 _ _) hf9 hb9 (by rw[ac4,ac3];rfl) (by rw[ac4];exact iL) (by rw[ac4];exact run) (.inl rfl) ?_,λh=>(r3.has<|hm _ _<|.app<|.app<|w6 h).2⟩
  have e4:resultOf P e'' H2 (.tmp 6)=some (.bool true):=r2 6 _ u4
  rw[adX]
  show(match aI (resultOf P e'' H2) [.tmp 6]with | some [v]=>some v | some vs=>some (.tuple vs) | none=>none)=_
  simp only[aI,e4]
end
theorem abH [Sg]{lv:AV}(h:Sg.val 4=lv)(ho:Opq lv):VA abr lv:=by
 subst h
 exact VA.DM (v:=abr) rfl ho.one ho.nb ho.same
structure Trn9 (P:Program)(K:Orc)(F:Nat->FuncId)(T:Nat->TypeId)(f:FuncId)(fn:Func)(c:Code)(aaM:Func)(c35:Code)(R:iB)(n:Nat):Prop where
 mixed:P.follows .mixedOrders=true
 orc:OrcOk P K
 base:LawW P K F T
 says:aaV P K F
 rule:∀S:Sg,@Bh S R K
 func:P.funcs[f]?=some fn
 body:fn.body=some c
 nt:fn.ntmps=216
 res:fn.results.toList=[.tmp 6]
 name:(fn.name == "runtime.NumGoroutine")=false
 rest:cc P 216 (spine 2 c).2=.seq (.ops a9W) (.seq (.ops<|a9X F)<|a9Z F T)
 free:∀args H,K f args H=none
 func35:P.funcs[F 35]?=some aaM
 body35:aaM.body=some c35
 nt35:aaM.ntmps=82
 res35:aaM.results.toList=[.tmp 8,.tmp 9]
 name35:(aaM.name == "runtime.NumGoroutine")=false
 rest35:cc P 82 (spine 4 c35).2=ab0 F T
 free35:∀args H,K (F 35) args H=none
 runQ:pre9 P (callF P R n) c c35 fhQ 0=true
 runP:pre9 P (callF P R n) c c35 fhP 5=true
section
variable {P:Program}{K:Orc}{F:Nat->FuncId}{T:Nat->TypeId}{f:FuncId}{fn:Func}{c:Code}{aaM:Func}{c35:Code}{R:iB}{n:Nat}
theorem trn9_none (hl:Trn9 P K F T f fn c aaM c35 R n){wh wp:Int}(hw:0<=wh/\wh<=255)(hwp:0<=wp/\wp<=255){lv:AV}{x:Value}(hlv:lenOf lv=some 0)(ho:Opq lv)(hx:VR (λ_=>none) lv x)(w:World) :
  Calls P f #[x,.int .u8 wh,.int .u8 wp] w λe w'=>e=.returned (.bool true)/\w.keptBut w' (λ_=>False):=by
 obtain⟨y,rfl⟩:=Int.eq_ofNat_of_zero_le hw.1
 obtain⟨u,rfl⟩:=Int.eq_ofNat_of_zero_le hwp.1
 letI:Sg:=mkSg (λ_=>0) (λi=>match i with | 0=>lv | 1=>.int .u8 (.ofNat y) | 2=>iv (.ofNat<|y/3%3) | 3=>iv (.ofNat<|u%10) | _=>.int .u8<|.ofNat u)<|λ_=>.deferred
 have ha:VAs [rJ,Ah,abr] [lv,.int .u8<|.ofNat y,.int .u8<|.ofNat u]:=.cons (xV rfl ho)<|.cons (tN rfl Opq.U6)<|.cons (abH rfl Opq.U6) .nil
 have Gw:VA abp (iv<|.ofNat<|y/3%3):=abF rfl Opq.U6
 have hv3:VA abq (iv<|.ofNat<|u%10):=abG rfl Opq.U6
 obtain⟨H',⟨m,h1⟩,_⟩:=abE hl.base hl.says (kX P (hl.rule _) n) hl.func35 hl.body35 hl.nt35 hl.res35 hl.name35 hl.rest35 hl.free35 hl.func hl.body hl.nt hl.res hl.name hl.rest hl.free N6 rfl hl.runQ (by omega) (by omega) ha Gw hv3 (L:=[]) hlv (λi hi=>absurd hi<|Nat.not_lt_zero _)<|λh=>absurd h<|Nat.not_lt_zero _
 refine callsIn_wide.1<|CallsIn.mono (qO hl.mixed hl.orc (HR.one w) (args:=[lv,.int .u8<|.ofNat y,.int .u8<|.ofNat u]) (xs:=[x,.int .u8 (y:Int),.int .u8 (u:Int)]) ⟨_,_,hx,⟨_,_,rfl,⟨_,_,rfl,rfl,rfl⟩,rfl⟩,rfl⟩ h1).2 ?_
 rintro e w' ⟨y,rfl,g',_,hv,hh⟩
 have:y=.bool true:=hv
 subst this
 exact⟨rfl,pO (λk hk=>(hh.keep k hk).2) hh.os.1 hh.os.2⟩
theorem trn9_some (hl:Trn9 P K F T f fn c aaM c35 R n){wh wp:Int}(hw:0<=wh/\wh<=255)(hwp:0<=wp/\wp<=255){z q y:Nat->Int}(hz:∀i,0<=z i/\z i<=255)(hq:∀i,0<=q i/\q i<=255)(hy:∀i,0<=y i/\y i<=255){len cap:Nat}(hpos:0<len){w:World}{iK off:Nat}{cs:Array Value}{el:TypeId}{fz:Nat × Nat}
  (hc:w.heap[iK]?=some (.cells cs el fz)) (hcell:∀i,i<len->cs[off+i*3]?=some (.int .u8<|z i)/\cs[off+i*3+1]?=some (.int .u8<|q i)/\cs[off+i*3+2]?=some (.int .u8<|y i)) :
  Calls P f #[.slice (some ⟨iK,off,none⟩) len cap,.int .u8 wh,.int .u8 wp] w λe w'=>e=.returned (.bool true)/\w.keptBut w' (λ_=>False):=by
 obtain⟨x0,rfl⟩:=Int.eq_ofNat_of_zero_le hw.1
 obtain⟨u,rfl⟩:=Int.eq_ofNat_of_zero_le hwp.1
 obtain⟨T',qY⟩:=em<|(List.range len).map λi=>[AV.int .u8 (z i),AV.int .u8<|q i,AV.int .u8<|y i]
 have T7:∀i,i<len->((List.range len).map λi=>[AV.int .u8 (z i),AV.int .u8<|q i,AV.int .u8<|y i])[i]?=some [AV.int .u8 (z i),AV.int .u8<|q i,AV.int .u8<|y i]:=λi hi=>by
  rw[List.getElem?_map,List.getElem?_range hi];rfl
 have hT:∀i,i<len->T'.get i=some [AV.int .u8 (z i),AV.int .u8<|q i,AV.int .u8<|y i]:=λi hi=>by rw[cB qY,T7 i hi]
 have IH:((List.range len).map λi=>[AV.int .u8 (z i),AV.int .u8<|q i,AV.int .u8<|y i]).length=len:=by rw[List.length_map,List.length_range]
 letI:Sg:=mkSg (λ_=>0) (λi=>match i with | 0=>.slice (some ⟨0,0,0⟩) len cap false 3 | 1=>.int .u8 (.ofNat x0) | 2=>iv (.ofNat<|x0/3%3) | 3=>iv (.ofNat<|u%10) | _=>.int .u8<|.ofNat u)<|λ_=>.rows T' len 3 true
 have ha:VAs [rJ,Ah,abr] [.slice (some ⟨0,0,0⟩) len cap false 3,.int .u8<|.ofNat x0,.int .u8<|.ofNat u]:=.cons (xV rfl .slice)<|.cons (tN rfl Opq.U6)<|.cons (abH rfl Opq.U6) .nil
 have Gw:VA abp (iv<|.ofNat<|x0/3%3):=abF rfl Opq.U6
 have hv3:VA abq (iv<|.ofNat<|u%10):=abG rfl Opq.U6
 obtain⟨H',⟨m,h1⟩,h2⟩:=abE hl.base hl.says (kX P (hl.rule _) n) hl.func35 hl.body35 hl.nt35 hl.res35 hl.name35 hl.rest35 hl.free35 hl.func hl.body hl.nt hl.res hl.name hl.rest hl.free N5 rfl hl.runP (by omega) (by omega) ha Gw hv3 (L:=(List.range len).map λi=>[AV.int .u8 (z i),AV.int .u8<|q i,AV.int .u8<|y i])
  (by rw[IH];rfl) (λi hi=>by
   rw[IH]at hi
   have g1:=hz i
   have g2:=hy i
   have g3:=hq i
   have e1:z i=.ofNat (z i).toNat:=(Int.toNat_of_nonneg g1.1).symm
   have e2:y i=.ofNat (y i).toNat:=(Int.toNat_of_nonneg g2.1).symm
   have e3:q i=.ofNat (q i).toNat:=(Int.toNat_of_nonneg g3.1).symm
   exact⟨(z i).toNat,(q i).toNat,(y i).toNat,by omega,by omega,by omega,by rw[T7 i hi,<- e1,<- e2,<- e3]⟩)
  (λ_=>⟨rfl,⟨cap,false,by rw[IH]⟩,T',by rw[IH];rfl,λi row hi=>by
   have hlt:i<len:=by
    have:=(List.getElem?_eq_some_iff.1 hi).1
    rw[IH]at this;exact this
   rw[T7 i hlt]at hi
   cases hi
   exact⟨hT i hlt,rfl⟩⟩)
 obtain⟨t,h3,h4⟩:=h2 (by rw[IH];exact hpos)
 rw[IH]at h3
 have hHR:HR ⟨λk=>k<w.heap.size/\k≠iK,λ_=>False⟩ w (gB iK off 0 3<|.cells cs el fz) (Su<|.rows T' len 3 true) w:=by
  have only:∀b o,(Su<|.rows T' len 3 true).get b=some o->b=0/\o=.rows T' len 3 true:=by
   intro b o hb
   rw[xf]at hb
   split at hb
   ·rename_i e;cases hb;exact⟨e.symm,rfl⟩
   ·cases hb
  refine⟨?_,?_,?_,?_,λk hk=>⟨hk.1,rfl⟩,Nat.le_refl _,⟨rfl,rfl⟩,λb hb=>hb.elim⟩
  ·intro b o hb
   obtain⟨rfl,rfl⟩:=only b o hb
   refine⟨⟨iK,off,0,3,some<|.cells cs el fz⟩,rfl,?_⟩
   refine⟨rfl,cs,el,fz,hc,hc,trivial,λi row hi ht=>?_⟩
   rw[hT i hi]at ht
   cases ht
   refine⟨rfl,λj v hj=>?_⟩
   match j,hj with
   | 0,hj=>cases hj;exact⟨_,(hcell i hi).1,rfl,rfl⟩
   | 1,hj=>cases hj;exact⟨_,(hcell i hi).2.1,rfl,rfl⟩
   | 2,hj=>cases hj;exact⟨_,(hcell i hi).2.2,rfl,rfl⟩
  ·intro b b' o o' d d' hb hb' _ _ _
   rw[(only b o hb).1,(only b' o' hb').1]
  ·intro b hb
   have hb:1<=b:=hb
   exact if_neg<|by omega
  ·intro b o d hb _ hd
   obtain⟨rfl,_⟩:=only b o hb
   have hd:some (⟨iK,off,0,3,some<|.cells cs el fz⟩:Gd)=some d:=hd
   cases hd
   exactλk=>k.2 rfl
 refine callsIn_wide.1<|CallsIn.mono (qO hl.mixed hl.orc hHR (args:=[.slice (some ⟨0,0,0⟩) len cap false 3,.int .u8<|.ofNat x0,.int .u8<|.ofNat u]) (xs:=[.slice (some ⟨iK,off,none⟩) len cap,.int .u8 (x0:Int),.int .u8 (u:Int)]) ⟨_,_,⟨_,rfl,λ_=>⟨rfl,rfl⟩,by simp[gX]⟩,⟨_,_,rfl,⟨_,_,rfl,rfl,rfl⟩,rfl⟩,rfl⟩ h1).2 ?_
 rintro e w' ⟨y,rfl,g',hle,hv,hh⟩
 have:y=.bool true:=hv
 subst this
 refine⟨rfl,pO (λk hk=>?_) hh.os.1 hh.os.2⟩
 by_cases hkb:k=iK
 ·subst hkb
  obtain⟨d,hd,X8⟩:=hh.obj 0 _ h3
  have:=hle 0 ⟨k,off,0,3,some<|.cells cs el fz⟩ rfl
  rw[hd]at this
  cases this
  obtain⟨_,_,_,_,_,e2,_⟩:=X8
  have e2:w'.heap[k]?=some (.cells cs el fz):=e2
  rw[e2,hc]
 ·exact(hh.keep k ⟨hk,hkb⟩).2

end
end Go.Ev
