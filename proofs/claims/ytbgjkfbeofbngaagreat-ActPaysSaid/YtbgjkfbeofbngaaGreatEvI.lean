/- Walks and rules. Conditions: none. -/
import Derived.Test.YtbgjkfbeofbngaaGreatEvF
import Derived.Test.YtbgjkfbeofbngaaGreatEvH
import Derived.Test.YtbgjkfbeofbngaaGreatEvG
set_option linter.unusedVariables false
set_option linter.unusedSimpArgs false
set_option linter.unusedSectionVars false
namespace Go.Ev
def Pl.ren (ρ:Nat->Nat)(p:Pl):Pl:=⟨ρ p.b,p.r,p.o⟩
mutual
def AV.ren (ρ:Nat->Nat):AV->AV
 | .bool b=>.bool b
 | .int k n=>.int k n
 | .str s=>.str s
 | .ptr none=>.ptr none
 | .ptr (some p)=>.ptr<|some<|p.ren ρ
 | .slice none l c s r=>.slice none l c s r
 | .slice (some p) l c s r=>.slice (some<|p.ren ρ) l c s r
 | .empty=>.empty
 | .map none=>.map none
 | .map (some b)=>.map<|some<|ρ b
 | .func f a b=>.func f (AV.rens ρ a)<|AV.rens ρ b
 | .mfunc n r=>.mfunc n<|AV.ren ρ r
 | .yield l=>.yield<|ρ l
 | .nilFunc=>.nilFunc
 | .iface t v=>.iface t<|AV.ren ρ v
 | .nilIface=>.nilIface
 | .agg cs=>.agg<|AV.rens ρ cs
 | .tuple vs=>.tuple<|AV.rens ρ vs
def AV.rens (ρ:Nat->Nat):List AV->List AV
 | []=>[]
 | v::vs=>AV.ren ρ v::AV.rens ρ vs
end
mutual
theorem fa (g:G)(ρ:Nat->Nat):∀(v:AV)(x:Value),VR (λb=>g (ρ b)) v x↔VR g (v.ren ρ) x
 | .bool _,_=>by simp only[AV.ren,VR]
 | .int _ _,_=>by simp only[AV.ren,VR]
 | .str _,_=>by simp only[AV.ren,VR]
 | .ptr none,_=>by simp only[AV.ren,VR]
 | .ptr (some p),_=>by simp only[AV.ren,VR];exact Iff.rfl
 | .slice none _ _ _ _,_=>by simp only[AV.ren,VR]
 | .slice (some p) _ _ _ _,_=>by simp only[AV.ren,VR];exact Iff.rfl
 | .empty,_=>by simp only[AV.ren,VR]
 | .map none,_=>by simp only[AV.ren,VR]
 | .map (some b),_=>by simp only[AV.ren,VR]
 | .func f a b,_=>by simp only[AV.ren,VR,jr g ρ a,jr g ρ b]
 | .mfunc n r,_=>by simp only[AV.ren,VR,fa g ρ r]
 | .yield l,_=>by simp only[AV.ren,VR]
 | .nilFunc,_=>by simp only[AV.ren,VR]
 | .iface t v,_=>by simp only[AV.ren,VR,fa g ρ v]
 | .nilIface,_=>by simp only[AV.ren,VR]
 | .agg cs,_=>by simp only[AV.ren,VR,jr g ρ cs]
 | .tuple cs,_=>by simp only[AV.ren,VR,jr g ρ cs]
theorem jr (g:G)(ρ:Nat->Nat):∀(vs:List AV)(xs:List Value),VRs (λb=>g (ρ b)) vs xs↔VRs g (AV.rens ρ vs) xs
 | [],_=>by simp only[AV.rens,VRs]
 | v::vs,_=>by simp only[AV.rens,VRs,fa g ρ v,jr g ρ vs]
end
noncomputable def Tr.mp {α β:Type}(f:α->β)(t:Tr α):Tr β:=Tr.rec .lf (λv _ _ _ _ a b c d=>.nd (v.map f) a b c d) t
theorem Tr.qW {α β:Type}(f:α->β)(t:Tr α)(n:Nat):(t.mp f).get n=(t.get n).map f:=by
 unfold Tr.get
 generalize So n=p
 induction p generalizing t with
 | z=>cases t<;>rfl
 | c0 p ih=>cases t with
  | lf=>rfl
  | nd v a b c d=>exact ih a
 | c1 p ih=>cases t with
  | lf=>rfl
  | nd v a b c d=>exact ih b
 | c2 p ih=>cases t with
  | lf=>rfl
  | nd v a b c d=>exact ih c
 | c3 p ih=>cases t with
  | lf=>rfl
  | nd v a b c d=>exact ih d
theorem eR (ρ:Nat->Nat)(k:AV):keyV (k.ren ρ)=keyV k:=by
 cases k with
 | ptr a=>cases a<;>simp[AV.ren,keyV]
 | slice a _ _ _ _=>cases a<;>simp[AV.ren,keyV]
 | map a=>cases a<;>simp[AV.ren,keyV]
 | _=>simp[AV.ren,keyV]
def VG (ρ:Nat->Nat)(e:AV × AV):AV × AV:=(e.1.ren ρ,e.2.ren ρ)
theorem Bl {g:G}{ρ:Nat->Nat}{es:List (AV × AV)}{cs:List MapEntry}:MR (λb=>g (ρ b)) es cs↔MR g (es.map (VG ρ)) cs:=by
 constructor
 ·intro h
  refine⟨by simp[h.len],?_,?_,h.ck,?_⟩
  ·intro i k v hi
   rw[List.getElem?_map]at hi
   obtain⟨⟨k0,v0⟩,h1,h2⟩:=Option.map_eq_some_iff.1 hi
   cases h2
   obtain⟨j,c,h3,h4,h5⟩:=h.get i k0 v0 h1
   exact⟨j,c,h3,by rw[eR];exact h4,(fa g ρ _ _).1 h5⟩
  ·intro j c hj
   obtain⟨i,k,v,h3,h4,h5⟩:=h.back j c hj
   exact⟨i,k.ren ρ,v.ren ρ,by rw[List.getElem?_map,h3];rfl,by rw[eR];exact h4,(fa g ρ _ _).1 h5⟩
  ·intro i j k k' v v' hi hj hne
   rw[List.getElem?_map]at hi hj
   obtain⟨⟨k0,v0⟩,h1,h2⟩:=Option.map_eq_some_iff.1 hi
   obtain⟨⟨k1,v1⟩,h3,h4⟩:=Option.map_eq_some_iff.1 hj
   cases h2;cases h4
   rw[eR,eR]
   exact h.keys i j _ _ _ _ h1 h3 hne
 ·intro h
  refine⟨by simpa using h.len,?_,?_,h.ck,?_⟩
  ·intro i k v hi
   obtain⟨j,c,h3,h4,h5⟩:=h.get i (k.ren ρ) (v.ren ρ) (by rw[List.getElem?_map,hi];rfl)
   exact⟨j,c,h3,by rw[eR]at h4;exact h4,(fa g ρ _ _).2 h5⟩
  ·intro j c hj
   obtain⟨i,k,v,h3,h4,h5⟩:=h.back j c hj
   rw[List.getElem?_map]at h3
   obtain⟨⟨k0,v0⟩,h1,h2⟩:=Option.map_eq_some_iff.1 h3
   cases h2
   exact⟨i,k0,v0,h1,by rw[eR]at h4;exact h4,(fa g ρ _ _).2 h5⟩
  ·intro i j k k' v v' hi hj hne
   have:=h.keys i j (k.ren ρ) (k'.ren ρ) (v.ren ρ) (v'.ren ρ) (by rw[List.getElem?_map,hi];rfl) (by rw[List.getElem?_map,hj];rfl) hne
   rwa [eR,eR]at this
theorem Bf {g:G}{ρ:Nat->Nat}{e:Tr AV}{tm:Array Value}:ER (λb=>g (ρ b)) e tm↔ER g (e.mp (AV.ren ρ)) tm:=by
 constructor
 ·intro h t v ht
  rw[Tr.qW]at ht
  obtain⟨u,h1,rfl⟩:=Option.map_eq_some_iff.1 ht
  obtain⟨x,hx,hv⟩:=h t u h1
  exact⟨x,hx,(fa g ρ _ _).1 hv⟩
 ·intro h t v ht
  obtain⟨x,hx,hv⟩:=h t (v.ren ρ) (by rw[Tr.qW,ht];rfl)
  exact⟨x,hx,(fa g ρ _ _).2 hv⟩
noncomputable def bv.ren (ρ:Nat->Nat):bv->bv
 | .rows t n sz ro=>.rows (t.mp<|List.map<|AV.ren ρ) n sz ro
 | .map es=>.map<|es.map<|VG ρ
 | .deferred=>.deferred
 | .loop e nt ps asg body st pend D=>.loop (e.mp<|AV.ren ρ) nt ps asg body st pend<|ρ D
theorem Bc {g:G}{ρ:Nat->Nat}{ob:Option Obj}{o:bv}{d:Gd}:BR (λb=>g (ρ b)) ob o d↔BR g ob (o.ren ρ) d:=by
 cases o with
 | deferred=>exact Iff.rfl
 | map es=>
  constructor
  ·rintro⟨cs,cl,h1,h2⟩;exact⟨cs,cl,h1,Bl.1 h2⟩
  ·rintro⟨cs,cl,h1,h2⟩;exact⟨cs,cl,h1,Bl.2 h2⟩
 | loop e nt ps asg body st pend D=>
  constructor
  ·rintro⟨fn,tm,dD,h1,h2,h3,h4,h5⟩;exact⟨fn,tm,dD,h1,h2,h3,Bf.1 h4,h5⟩
  ·rintro⟨fn,tm,dD,h1,h2,h3,h4,h5⟩;exact⟨fn,tm,dD,h1,h2,h3,Bf.2 h4,h5⟩
 | rows t n sz ro=>
  constructor
  ·rintro⟨h1,c,el,fz,h2,hz,h3,h4⟩
   refine⟨h1,c,el,fz,h2,hz,h3,λi row hi ht=>?_⟩
   rw[Tr.qW]at ht
   obtain⟨cT,h5,rfl⟩:=Option.map_eq_some_iff.1 ht
   obtain⟨h6,h7⟩:=h4 i cT hi h5
   refine⟨by simpa using h6,λj v hj=>?_⟩
   rw[List.getElem?_map]at hj
   obtain⟨u,h8,rfl⟩:=Option.map_eq_some_iff.1 hj
   obtain⟨x,hx,hv,ho⟩:=h7 j u h8
   exact⟨x,hx,(fa g ρ _ _).1 hv,ho⟩
  ·rintro⟨h1,c,el,fz,h2,hz,h3,h4⟩
   refine⟨h1,c,el,fz,h2,hz,h3,λi row hi ht=>?_⟩
   obtain⟨h6,h7⟩:=h4 i (row.map<|AV.ren ρ) hi (by rw[Tr.qW,ht];rfl)
   refine⟨by simpa using h6,λj v hj=>?_⟩
   obtain⟨x,hx,hv,ho⟩:=h7 j (v.ren ρ)<|by grind
   exact⟨x,hx,(fa g ρ _ _).2 hv,ho⟩
structure yB (ρ:Nat->Nat)(H Hb:Heap):Prop where
 full:∀b,b<H.next->∃o,H.get b=some o/\Hb.get (ρ b)=some (o.ren ρ)
 lt:∀b,b<H.next->ρ b<Hb.next
 ge:∀b,H.next<=b->ρ b=Hb.next+(b-H.next)
 inj:∀b c,ρ b=ρ c->b=c
structure Bd (ρ:Nat->Nat)(H H' Hb Gh:Heap):Prop where
 on:∀b,Gh.get (ρ b)=(H'.get b).map (bv.ren ρ)
 off:∀i,(∀b,ρ b≠i)->Gh.get i=Hb.get i
 next:Gh.next=Hb.next+(H'.next-H.next)
 le:H.next<=H'.next
structure KCon (P:Program)(f:FuncId)(args:List AV)(H:Heap)(v:AV)(H':Heap):Prop where
 call:∀{X:Pt}{w0:World}{g:G}{w:World}{xs:List Value},HR X w0 g H w->VRs g args xs ->
  (∀(as:Array Value)(w:World),(callFunc f as).run P w=.ok (.enter f as) w)/\CallsIn Fence.wide 0 P f xs.toArray w (dR X w0 g v H')
theorem KCon.KV {P:Program}(hm:P.follows .mixedOrders=true){K:Orc}(hK:OrcOk P K){n:Nat}{f:FuncId}{args:List AV}{H:Heap}{v:AV}{H':Heap}(h:(ev P K n).call f args H=some (v,H')):KCon P f args H v H':=
 ⟨λhH hv=>qO hm hK hH hv h⟩
section
variable {ρ:Nat->Nat}{X:Pt}{w0:World}{g:G}{H H' Hb Gh:Heap}{w w':World}
def rU (ρ:Nat->Nat)(g:G)(H:Heap)(w:World):Pt:=⟨λk t=>k<w.heap.size/\∀b d,b<H.next->g (ρ b)=some d->d.b=k->d.tag≠0/\d.tag≠t,λ_=>False⟩
theorem yB.small (hL:yB ρ H Hb)(hH:HR X w0 g Hb w)(Cw:∀b,H.next<=b->H.get b=none):HR (rU ρ g H w) w (λb=>g (ρ b)) H w:=by
 have lt:∀b o,H.get b=some o->b<H.next:=λb o hb=>by
  grind
 have up:∀b o,H.get b=some o->Hb.get (ρ b)=some (o.ren ρ):=λb o hb=>by
  obtain⟨o',h1,h2⟩:=hL.full b<|lt b o hb
  grind
 refine⟨?_,?_,?_,?_,λk _ hk=>⟨hk.1,rfl⟩,Nat.le_refl _,⟨rfl,rfl⟩,λb hb=>hb.elim,λk t hk=>⟨hk.1,λb d hb hd e=>⟨(hk.2 b d hb hd e).1,(hk.2 b d hb hd e).1⟩⟩,λb o d hb hw hd=>hH.ot _ _ d (up b o hb) (by cases o<;>exact hw) hd⟩
 ·intro b o hb
  obtain⟨d,h1,h2⟩:=hH.obj _ _<|up b o hb
  exact⟨d,h1,Bc.2 h2⟩
 ·intro b b' o o' d d' hb hb' h1 h2 e
  exact hL.inj _ _<|hH.inj _ _ _ _ _ _ (up b o hb) (up b' o' hb') h1 h2 e
 ·intro b hb
  have:=hL.ge b hb
  exact hH.fresh _<|by omega
 ·intro b o d hb _ hd hX
  exact(hX.2 b d (lt b o hb) hd rfl).2 rfl
noncomputable def backG (ρ:Nat->Nat)(g g':G):G:=λi=>match g i with
 | some d=>some d
 | none=>open Classical in if h:∃b,ρ b=i then g' h.choose else none
theorem sE (ρ:Nat->Nat)(g g':G):G.le g (backG ρ g g'):=λb d h=>by unfold backG;rw[h]
theorem nL (hL:yB ρ H Hb){g g':G}(hg:G.le (λb=>g (ρ b)) g'):(λb=>backG ρ g g' (ρ b))=g':=by
 funext b
 unfold backG
 cases h:g (ρ b) with
 | some d=>exact(hg b d h).symm
 | none=>
  have he:∃c,ρ c=ρ b:=⟨b,rfl⟩
  have:he.choose=b:=hL.inj _ _ he.choose_spec
  grind
theorem ee {g g':G}{i:Nat}(h:∀b,ρ b≠i):backG ρ g g' i=g i:=by
 unfold backG
 grind
theorem yB.back (hL:yB ρ H Hb)(hH:HR X w0 g Hb w)(hB:Bd ρ H H' Hb Gh){g':G}(hg:G.le (λb=>g (ρ b)) g')(h':HR (rU ρ g H w) w g' H' w') :
  HR X w0 (backG ρ g g') Gh w':=by
 have sj:∀b,backG ρ g g' (ρ b)=g' b:=λb=>congrFun (nL hL hg) b
 have nk:∀i o,Gh.get i=some o->(∃b o',ρ b=i/\H'.get b=some o'/\o=o'.ren ρ)\/((∀b,ρ b≠i)/\Hb.get i=some o):=by
  intro i o hi
  by_cases h:∃b,ρ b=i
  ·obtain⟨b,rfl⟩:=h
   rw[hB.on]at hi
   obtain⟨o',h1,h2⟩:=Option.map_eq_some_iff.1 hi
   grind
  ·have h:∀b,ρ b≠i:=λb hb=>h ⟨b,hb⟩
   rw[hB.off i h]at hi
   grind
 have kept:∀i o d,(∀b,ρ b≠i)->Hb.get i=some o->g i=some d->∀t,t=0\/d.tag=0\/d.tag=t->rU ρ g H w d.b t:=by
  intro i o d hi ho hd t ht
  refine⟨hH.lt ho hd,λb d' hb hd' e=>?_⟩
  obtain⟨o',_,h2⟩:=hL.full b hb
  have no:¬(d'.tag=0\/d.tag=0\/d'.tag=d.tag):=λh=>hi b<|hH.inj _ _ _ _ _ _ h2 ho hd' hd ⟨e,h⟩
  refine⟨λh=>no<|.inl h,λh=>?_⟩
  rcases ht with rfl|ht|ht
  ·exact no<|.inl h
  ·exact no<|.inr<|.inl ht
  ·exact no<|.inr<|.inr<|h.trans ht.symm
 have K7:∀k t,X k t->rU ρ g H w k t:=by
  intro k t hk
  refine⟨Nat.lt_of_lt_of_le (hH.keep k t hk).1 hH.size,λb d hb hd e=>?_⟩
  obtain⟨o,_,h2⟩:=hL.full b hb
  subst e
  exact⟨λh=>hH.eV _ _ _ h2 rfl hd (by rw[h];exact hH.down _ t hk),λh=>hH.eV _ _ _ h2 rfl hd (by rw[h];exact hk)⟩
 refine⟨?_,?_,?_,?_,?_,Nat.le_trans hH.size h'.size,⟨h'.os.1.trans hH.os.1,h'.os.2.trans hH.os.2⟩,?_,hH.down,?_⟩
 ·intro i o hi
  rcases nk i o hi with⟨b,o',rfl,h1,rfl⟩|⟨h1,h2⟩
  ·obtain⟨d,k1,k2⟩:=h'.obj b o' h1
   refine⟨d,by grind,Bc.1 ?_⟩
   rw[nL hL hg];exact k2
  ·obtain⟨d,k1,k2⟩:=hH.obj i o h2
   refine⟨d,by rw[ee h1];exact k1,?_⟩
   rw[(h'.keep _ _<|kept i o d h1 h2 k1 d.tag<|.inr<|.inr rfl).2]
   exact k2.mono<|sE ρ g g'
 ·intro i j o1 o2 d1 d2 hi hj h1 h2 e
  rcases nk i o1 hi with⟨b,o',rfl,k1,rfl⟩|⟨k1,k2⟩<;>rcases nk j o2 hj with⟨c,o'',rfl,l1,rfl⟩|⟨l1,l2⟩
  ·rw[sj]at h1 h2
   rw[h'.inj _ _ _ _ _ _ k1 l1 h1 h2 e]
  ·rw[sj]at h1
   rw[ee l1]at h2
   exact absurd (e.1▸kept j o2 d2 l1 l2 h2 d1.tag (e.2.imp id<|Or.imp id Eq.symm))<|h'.eV b o' d1 k1 rfl h1
  ·rw[sj]at h2
   rw[ee k1]at h1
   exact absurd (e.1.symm▸kept i o1 d1 k1 k2 h1 d2.tag (or_left_comm.1 e.2))<|h'.eV c o'' d2 l1 rfl h2
  ·rw[ee k1]at h1
   rw[ee l1]at h2
   exact hH.inj _ _ _ _ _ _ k2 l2 h1 h2 e
 ·intro i hi
  rw[hB.next]at hi
  by_cases h:∃b,ρ b=i
  ·obtain⟨b,rfl⟩:=h
   rw[sj]
   refine h'.fresh b ?_
   by_cases hb:b<H.next
   ·have:=hL.lt b hb;omega
   ·have:=hL.ge b (by omega);grind
  ·rw[ee (λb hb=>h ⟨b,hb⟩)]
   exact hH.fresh i<|by omega
 ·intro i o d hi _ hd hX
  rcases nk i o hi with⟨b,o',rfl,k1,rfl⟩|⟨k1,k2⟩
  ·rw[sj]at hd
   exact h'.eV b o' d k1 rfl hd<|K7 _ _ hX
  ·rw[ee k1]at hd
   exact hH.eV i o d k2 rfl hd hX
 ·intro k t hk
  obtain⟨h1,h2⟩:=hH.keep k t hk
  exact⟨h1,((h'.keep k t<|K7 k t hk).2).trans h2⟩
 ·intro i hi
  obtain⟨h1,h2⟩:=hH.hole i hi
  refine⟨by rw[hB.next];omega,?_⟩
  by_cases h:∃b,ρ b=i
  ·obtain⟨b,rfl⟩:=h
   exfalso
   by_cases hb:b<H.next
   ·obtain⟨o,_,k2⟩:=hL.full b hb
    obtain⟨d,k3,_⟩:=hH.obj _ _ k2
    grind
   ·have:=hL.ge b (by omega);omega
  ·rw[ee (λb hb=>h ⟨b,hb⟩)];exact h2
 ·intro i o d hi hw hd
  rcases nk i o hi with⟨b,o',rfl,k1,rfl⟩|⟨k1,k2⟩
  ·rw[sj]at hd
   exact h'.ot b o' d k1 (by cases o'<;>exact hw) hd
  ·rw[ee k1]at hd
   exact hH.ot i o d k2 hw hd
theorem KCon.frame {P:Program}{f:FuncId}{args:List AV}{v:AV}(hC:KCon P f args H v H')(hL:yB ρ H Hb)(Cw:∀b,H.next<=b->H.get b=none)(hB:Bd ρ H H' Hb Gh) :
  KCon P f (AV.rens ρ args) Hb (v.ren ρ) Gh:=by
 refine⟨λ{X w0 g w xs} hH hv=>?_⟩
 obtain⟨h1,h2⟩:=hC.call (hL.small hH Cw)<|(jr g ρ args xs).2 hv
 refine⟨h1,CallsIn.mono h2 ?_⟩
 rintro e w' ⟨x,rfl,g',hg,hx,hh⟩
 refine⟨x,rfl,backG ρ g g',sE ρ g g',(fa _ ρ v x).1 ?_,hL.back hH hB hg hh⟩
 rw[nL hL hg];exact hx
end
noncomputable def orcOf (C:FuncId->List AV->Heap->AV->Heap->Prop):Orc:=λf args H=>open Classical in if h:∃r:AV × Heap,C f args H r.1 r.2 then some h.choose else none
theorem DX {P:Program}{C:FuncId->List AV->Heap->AV->Heap->Prop}(h:∀f args H v H',C f args H v H'->KCon P f args H v H'):OrcOk P (orcOf C):=by
 refine⟨λ{X w0 g H w f args xs v H'} hH hv hf=>?_⟩
 unfold orcOf at hf
 split at hf
 ·rename_i he
  have:=he.choose_spec
  have hf:he.choose=(v,H'):=Option.some.inj hf
  rw[hf]at this
  exact(h _ _ _ _ _ this).call hH hv
 ·cases hf
theorem kG {C:FuncId->List AV->Heap->AV->Heap->Prop}{f:FuncId}{args:List AV}{H:Heap}{v:AV}{H':Heap}(h:C f args H v H')(hu:∀u I,C f args H u I->u=v/\I=H'):orcOf C f args H=some (v,H'):=by
 unfold orcOf
 have he:∃r:AV × Heap,C f args H r.1 r.2:=⟨(v,H'),h⟩
 grind
theorem wn {C:FuncId->List AV->Heap->AV->Heap->Prop}{f:FuncId}{args:List AV}{H:Heap}(h:∀u I,¬C f args H u I):orcOf C f args H=none:=by
 unfold orcOf
 grind
end Go.Ev
namespace Go.Ev
mutual
def AV.Bel (n:Nat):AV->Prop
 | .ptr (some p)=>p.b<n
 | .slice (some p) _ _ _ _=>p.b<n
 | .map (some b)=>b<n
 | .func _ a b=>AV.yA n a/\AV.yA n b
 | .mfunc _ r=>AV.Bel n r
 | .yield l=>l<n
 | .iface _ v=>AV.Bel n v
 | .agg cs=>AV.yA n cs
 | .tuple vs=>AV.yA n vs
 | .bool _=>True
 | .int _ _=>True
 | .str _=>True
 | .ptr none=>True
 | .slice none _ _ _ _=>True
 | .empty=>True
 | .map none=>True
 | .nilFunc=>True
 | .nilIface=>True
def AV.yA (n:Nat):List AV->Prop
 | []=>True
 | v::vs=>AV.Bel n v/\AV.yA n vs
end
def G.eC (n:Nat)(g:G):G:=λb=>if b<n then g b else none
theorem G.ew {n:Nat}{g:G}{b:Nat}(h:b<n):g.eC n b=g b:=if_pos h
mutual
theorem VR.eC {g:G}{n:Nat}:∀(v:AV)(x:Value),AV.Bel n v->VR g v x->VR (g.eC n) v x
 | .bool _,_,_,h=>h
 | .int _ _,_,_,h=>h
 | .str _,_,_,h=>h
 | .ptr none,_,_,h=>h
 | .ptr (some p),_,hb,⟨d,hd,e⟩=>⟨d,(G.ew hb).trans hd,e⟩
 | .slice none _ _ _ _,_,_,h=>h
 | .slice (some p) _ _ _ _,_,hb,⟨d,hd,e⟩=>⟨d,(G.ew hb).trans hd,e⟩
 | .empty,_,_,h=>h
 | .map none,_,_,h=>h
 | .map (some b),_,hb,⟨d,hd,e⟩=>⟨d,(G.ew hb).trans hd,e⟩
 | .func f a b,_,hb,⟨xs,ys,h1,h2,e⟩=>⟨xs,ys,VRs.eC a xs hb.1 h1,VRs.eC b ys hb.2 h2,e⟩
 | .mfunc n r,_,hb,⟨y,hy,e⟩=>⟨y,VR.eC r y hb hy,e⟩
 | .yield l,_,hb,⟨d,hd,e⟩=>⟨d,(G.ew hb).trans hd,e⟩
 | .nilFunc,_,_,h=>h
 | .iface t v,_,hb,⟨y,hy,e⟩=>⟨y,VR.eC v y hb hy,e⟩
 | .nilIface,_,_,h=>h
 | .agg cs,_,hb,⟨xs,h1,h2⟩=>⟨xs,VRs.eC cs xs hb h1,h2⟩
 | .tuple cs,_,hb,⟨xs,h1,h2⟩=>⟨xs,VRs.eC cs xs hb h1,h2⟩
theorem VRs.eC {g:G}{n:Nat}:∀(vs:List AV)(xs:List Value),AV.yA n vs->VRs g vs xs->VRs (g.eC n) vs xs
 | [],_,_,h=>h
 | v::vs,_,hb,⟨y,ys,h1,h2,e⟩=>⟨y,ys,VR.eC v y hb.1 h1,VRs.eC vs ys hb.2 h2,e⟩
end
def bv.Bel (n:Nat):bv->Prop
 | .rows t m _ _=>∀i row,i<m->t.get i=some row->∀(j:Nat)v,row[j]?=some v->AV.Bel n v
 | .map es=>∀(i:Nat)k v,es[i]?=some (k,v)->AV.Bel n v
 | .deferred=>True
 | .loop e _ _ _ _ _ _ D=>D<n/\∀t v,e.get t=some v->AV.Bel n v
theorem BR.eC {g:G}{n:Nat}{ob:Option Obj}{o:bv}{d:Gd}(hb:bv.Bel n o)(h:BR g ob o d):BR (g.eC n) ob o d:=by
 cases o with
 | deferred=>exact h
 | map es=>
  obtain⟨cs,cl,h1,h2⟩:=h
  refine⟨cs,cl,h1,h2.len,λi k v hi=>?_,λj c hj=>?_,h2.ck,h2.keys⟩
  ·obtain⟨j,c,h3,h4,h5⟩:=h2.get i k v hi
   exact⟨j,c,h3,h4,VR.eC _ _ (hb i k v hi) h5⟩
  ·obtain⟨i,k,v,h3,h4,h5⟩:=h2.back j c hj
   exact⟨i,k,v,h3,h4,VR.eC _ _ (hb i k v h3) h5⟩
 | loop e nt ps asg body st pend D=>
  obtain⟨fn,tm,dD,h1,h2,h3,h4,h5⟩:=h
  refine⟨fn,tm,dD,h1,(G.ew hb.1).trans h2,h3,λt v ht=>?_,h5⟩
  obtain⟨x,hx,hv⟩:=h4 t v ht
  exact⟨x,hx,VR.eC _ _ (hb.2 t v ht) hv⟩
 | rows t m sz ro=>
  obtain⟨h1,c,el,fz,h2,hz,h3,h4⟩:=h
  refine⟨h1,c,el,fz,h2,hz,h3,λi row hi ht=>⟨(h4 i row hi ht).1,λj v hj=>?_⟩⟩
  obtain⟨x,hx,hv,ho⟩:=(h4 i row hi ht).2 j v hj
  exact⟨x,hx,VR.eC _ _ (hb i row hi ht j v hj) hv,ho⟩
structure Sz (n:Nat)(H I:Heap):Prop where
 next:I.next=n
 le:n<=H.next
 get:∀b o,I.get b=some o->b<n/\H.get b=some o/\bv.Bel n o
theorem HR.eC {X:Pt}{w0:World}{g:G}{H I:Heap}{w:World}{n:Nat}(h:HR X w0 g H w)(hu:Sz n H I)(hX:∀b,X.ids b->b<n):HR X w0 (g.eC n) I w:=by
 refine⟨?_,?_,?_,?_,h.keep,h.size,h.os,?_,h.down,?_⟩
 ·intro b o hb
  obtain⟨h1,h2,h3⟩:=hu.get b o hb
  obtain⟨d,k1,k2⟩:=h.obj b o h2
  exact⟨d,(G.ew h1).trans k1,k2.eC h3⟩
 ·intro b b' o o' d d' hb hb' h1 h2 e
  obtain⟨k1,k2,_⟩:=hu.get b o hb
  obtain⟨l1,l2,_⟩:=hu.get b' o' hb'
  rw[G.ew k1]at h1
  rw[G.ew l1]at h2
  exact h.inj _ _ _ _ _ _ k2 l2 h1 h2 e
 ·intro b hb
  rw[hu.next]at hb
  exact if_neg<|by omega
 ·intro b o d hb hw hd
  obtain⟨k1,k2,_⟩:=hu.get b o hb
  rw[G.ew k1]at hd
  exact h.eV b o d k2 hw hd
 ·intro b hb
  obtain⟨h1,h2⟩:=h.hole b hb
  have:=hX b hb
  exact⟨by rw[hu.next];exact this,(G.ew this).trans h2⟩
 ·intro b o d hb hw hd
  obtain⟨k1,k2,_⟩:=hu.get b o hb
  rw[G.ew k1]at hd
  exact h.ot b o d k2 hw hd
theorem KCon.eC {P:Program}{f:FuncId}{args:List AV}{v:AV}{H H' I:Heap}{n:Nat}(h:KCon P f args H v H')(hu:Sz n H' I)(hn:H.next<=n)(hv:AV.Bel n v):KCon P f args H v I:=by
 refine⟨λhH hx=>?_⟩
 obtain⟨h1,h2⟩:=h.call hH hx
 refine⟨h1,CallsIn.mono h2 ?_⟩
 rintro r w' ⟨x,rfl,g',hg,hy,hh⟩
 refine⟨x,rfl,g'.eC n,λb d hb=>?_,VR.eC _ _ hv hy,hh.eC hu λb hb=>?_⟩
 ·have:b<H.next:=by
   by_cases hb':b<H.next
   ·exact hb'
   ·rw[hH.fresh b (by omega)]at hb;cases hb
  exact(G.ew<|by omega).trans (hg b d hb)
 ·have:=(hH.hole b hb).1
  omega
end Go.Ev
namespace Go.Ev
section
variable {P:Program}{K:Orc}{rd:Option Nat}{nt:Nat}{e e1:Tr AV}{ds ds1:List cD}{H H1:Heap}{R:CR}
def bt (P:Program)(K:Orc)(rd:Option Nat)(nt:Nat)(c:Code)(e:Tr AV)(ds:List cD)(H:Heap)(R:CR):Prop:=∃n,(ev P K n).code rd nt c e ds H=some R
def CallsTo (P:Program)(K:Orc)(f:FuncId)(args:List AV)(H:Heap)(v:AV)(H':Heap):Prop:=∃n,(ev P K n).call f args H=some (v,H')
def ki (P:Program)(K:Orc)(fv:AV)(args:List AV)(H:Heap)(v:AV)(H':Heap):Prop:=∃n,callV P (ev P K n) fv args H=some (v,H')
def qu (P:Program)(K:Orc)(e:Tr AV)(op:AOp)(ds:List cD)(H:Heap)(R:OR):Prop:=∃n,oper P (ev P K n) (bL e) op ds H=some R
noncomputable def opStep (P:Program)(ih:fP)(nt:Nat)(ops:Array Oper)(s:CR)(o:Oper):Option CR:=match s with
  | .mk _ e ds H=>match cOper P nt o with
   | ⟨d,op,g⟩=>match wanted e ops g with
    | some true=>match oper P ih (bL e) op ds H with
     | some (.mk v ds' H')=>some<|.mk .normal (putO e d v) ds' H'
     | none=>none
    | some false=>some<|.mk .normal (putO e d .undef) ds H
    | none=>none
def fj (P:Program)(K:Orc)(nt:Nat)(ops:Array Oper)(l:List Oper)(e:Tr AV)(ds:List cD)(H:Heap)(R:CR):Prop:=∃n,aw (opStep P (ev P K n) nt ops) l (.mk .normal e ds H)=some R
theorem Af {n m:Nat}(h:n<=m){ops:Array Oper}{s c:CR}{o:Oper}(hc:opStep P (ev P K n) nt ops s o=some c):opStep P (ev P K m) nt ops s o=some c:=by
 cases s with
 | mk x e ds H=>
  unfold opStep at hc |-
  dsimp only at hc |-
  split at hc
  ·split at hc
   ·rename_i hop
    rw[lF (eP P K h) hop]
    exact hc
   ·cases hc
  ·exact hc
  ·cases hc
theorem bO (n:Nat)(c:Code):(ev P K (n+1)).code rd nt c e ds H=stepCode P (ev P K n) rd nt c e ds H:=rfl
theorem bt.skip:bt P K rd nt .skip e ds H (.mk .normal e ds H):=⟨1,rfl⟩
theorem bt.exit (i:Nat):bt P K rd nt (.exit i) e ds H (.mk (.exit i) e ds H):=⟨1,rfl⟩
theorem bt.ret:bt P K rd nt .ret e ds H (.mk .ret e ds H):=⟨1,rfl⟩
theorem bt.seq {a b:Code}(h1:bt P K rd nt a e ds H (.mk .normal e1 ds1 H1))(h2:bt P K rd nt b e1 ds1 H1 R):bt P K rd nt (.seq a b) e ds H R:=by
 obtain⟨n,h1⟩:=h1
 obtain⟨m,h2⟩:=h2
 refine⟨max n m+1,?_⟩
 rw[bO]
 simp only[stepCode,(eP P K<|Nat.le_max_left n m).code h1,(eP P K<|Nat.le_max_right n m).code h2]
theorem bt.stop {a b:Code}{x:AX}(h1:bt P K rd nt a e ds H (.mk x e1 ds1 H1))(hx:x≠.normal):bt P K rd nt (.seq a b) e ds H (.mk x e1 ds1 H1):=by
 obtain⟨n,h1⟩:=h1
 refine⟨n+1,?_⟩
 rw[bO]
 simp only[stepCode,h1]
theorem bt.yes {c:Operand}{a b:Code}(hc:bL e c=some (.bool true))(h:bt P K rd nt a e ds H R):bt P K rd nt (.cond c a b) e ds H R:=by
 obtain⟨n,h⟩:=h
 refine⟨n+1,?_⟩
 rw[bO]
 simp only[stepCode,hc,h]
theorem bt.no {c:Operand}{a b:Code}(hc:bL e c=some (.bool false))(h:bt P K rd nt b e ds H R):bt P K rd nt (.cond c a b) e ds H R:=by
 obtain⟨n,h⟩:=h
 refine⟨n+1,?_⟩
 rw[bO]
 simp only[stepCode,hc,h]
theorem bt.block {id:Nat}{b:Code}(h:bt P K rd nt b e ds H (.mk .normal e1 ds1 H1)):bt P K rd nt (.block id b) e ds H (.mk .normal e1 ds1 H1):=by
 obtain⟨n,h⟩:=h
 refine⟨n+1,?_⟩
 rw[bO]
 simp only[stepCode,h]
theorem bt.uR {id:Nat}{b:Code}(h:bt P K rd nt b e ds H (.mk (.exit id) e1 ds1 H1)):bt P K rd nt (.block id b) e ds H (.mk .normal e1 ds1 H1):=by
 obtain⟨n,h⟩:=h
 refine⟨n+1,?_⟩
 rw[bO]
 simp only[stepCode,h,Nat.beq_refl]
theorem bt.sF {id i:Nat}{b:Code}(hi:Nat.beq i id=false)(h:bt P K rd nt b e ds H (.mk (.exit i) e1 ds1 H1)):bt P K rd nt (.block id b) e ds H (.mk (.exit i) e1 ds1 H1):=by
 obtain⟨n,h⟩:=h
 refine⟨n+1,?_⟩
 rw[bO]
 simp only[stepCode,h,hi]
theorem bt.yO {id:Nat}{b:Code}(h:bt P K rd nt b e ds H (.mk .ret e1 ds1 H1)):bt P K rd nt (.block id b) e ds H (.mk .ret e1 ds1 H1):=by
 obtain⟨n,h⟩:=h
 refine⟨n+1,?_⟩
 rw[bO]
 simp only[stepCode,h]
theorem bt.again {b:Code}(h1:bt P K rd nt b e ds H (.mk .normal e1 ds1 H1))(h2:bt P K rd nt (.loop b) e1 ds1 H1 R):bt P K rd nt (.loop b) e ds H R:=by
 obtain⟨n,h1⟩:=h1
 obtain⟨m,h2⟩:=h2
 refine⟨max n m+1,?_⟩
 rw[bO]
 simp only[stepCode,(eP P K<|Nat.le_max_left n m).code h1,(eP P K<|Nat.le_max_right n m).code h2]
theorem bt.out {b:Code}{x:AX}(h1:bt P K rd nt b e ds H (.mk x e1 ds1 H1))(hx:x≠.normal):bt P K rd nt (.loop b) e ds H (.mk x e1 ds1 H1):=by
 obtain⟨n,h1⟩:=h1
 refine⟨n+1,?_⟩
 rw[bO]
 simp only[stepCode,h1]
theorem bt.region {r:Nat}{ops:Array Oper}(h:fj P K nt ops ops.toList e ds H R):bt P K rd nt (.region r ops false) e ds H R:=by
 obtain⟨n,h⟩:=h
 exact⟨n+1,h⟩
theorem fj.nil {ops:Array Oper}:fj P K nt ops [] e ds H (.mk .normal e ds H):=⟨0,by rw[dI]⟩
theorem fj.cons {ops:Array Oper}{o:Oper}{l:List Oper}{d:Option Nat}{op:AOp}{g:Option (Nat × Bool)}{v:AV}(hc:cOper P nt o=⟨d,op,g⟩)(hw:wanted e ops g=some true)(ho:qu P K e op ds H (.mk v ds1 H1))
  (h:fj P K nt ops l (putO e d v) ds1 H1 R):fj P K nt ops (o::l) e ds H R:=by
 obtain⟨n,ho⟩:=ho
 obtain⟨m,h⟩:=h
 refine⟨max n m,?_⟩
 have h1:opStep P (ev P K<|max n m) nt ops (.mk .normal e ds H) o=some (.mk .normal (putO e d v) ds1 H1):=by
  unfold opStep
  simp only[hc,hw,lF (eP P K<|Nat.le_max_left n m) ho]
 rw[ah,h1]
 exact⟨_,rfl,eS (λ_ _ _ hf=>Af (Nat.le_max_right n m) hf) _ _ _ h⟩
theorem fj.pass {ops:Array Oper}{o:Oper}{l:List Oper}{d:Option Nat}{op:AOp}{g:Option (Nat × Bool)}(hc:cOper P nt o=⟨d,op,g⟩)(hw:wanted e ops g=some false)
  (h:fj P K nt ops l (putO e d .undef) ds H R):fj P K nt ops (o::l) e ds H R:=by
 obtain⟨m,h⟩:=h
 refine⟨m,?_⟩
 have h1:opStep P (ev P K m) nt ops (.mk .normal e ds H) o=some (.mk .normal (putO e d .undef) ds H):=by
  unfold opStep
  grind
 rw[ah,h1]
 grind
theorem qu.call {f:Operand}{args:List Operand}{fv v:AV}{vs:List AV}(hf:bL e f=some fv)(ha:aI (bL e) args=some vs)(h:ki P K fv vs H v H1):qu P K e (.call f args) ds H (.mk v ds H1):=by
 obtain⟨n,h⟩:=h
 refine⟨n,?_⟩
 simp only[oper,hf,ha,h]
theorem ki.func {f:FuncId}{first cap args:List AV}{v:AV}(h:CallsTo P K f (first++(args++cap)) H v H1):ki P K (.func f first cap) args H v H1:=by
 obtain⟨n,h⟩:=h
 refine⟨n,?_⟩
 simp only[callV,aN,h]
theorem CallsTo.known {f:FuncId}{args:List AV}{v:AV}(h:K f args H=some (v,H1)):CallsTo P K f args H v H1:=by
 refine⟨1,?_⟩
 show knownCall K f args H (stepCall P (ev P K 0) f args H)=_
 unfold knownCall
 rw[h]
theorem CallsTo.enter {f:FuncId} {fn:Func} {c:Code} {args:List AV} {v:AV} {e0:Tr AV} {x:AX} (hK:K f args H=none) (hf:P.funcs[f]?=some fn) (hb:fn.body=some c) (hn:(Nat.ble (aK args) fn.ntmps && !(fn.name == "runtime.NumGoroutine"))=true)
  (h0:argsEnv fn.ntmps args=some e0) (h:bt P K none fn.ntmps c e0 [] H (.mk x e1 [] H1)) (hx:x=.ret\/x=.normal) (hr:(match aI (resultOf P e1 H1) fn.results.toList with | some [v]=>some v | some vs=>some (.tuple vs) | none=>none)=some v) :
  CallsTo P K f args H v H1:=by
 obtain⟨n,h⟩:=h
 refine⟨n+1,?_⟩
 show knownCall K f args H (stepCall P (ev P K n) f args H)=_
 unfold knownCall
 rw[hK]
 unfold stepCall
 simp only[hf,hb,hn,h0,h]
 have key:(match aI (resultOf P e1 H1) fn.results.toList with
   | some [v]=>some (v,H1)
   | some vs=>some (AV.tuple vs,H1)
   | none=>none)=some (v,H1):=by
  grind
 rcases hx with rfl|rfl<;>exact key
end
end Go.Ev
namespace Go.Ev
theorem dn (a:Nat):Nat.beq a a=true:=Nat.beq_refl a
theorem kW {a b:Nat}:Nat.ble a b=true↔a<=b:=⟨λh=>Nat.le_of_ble_eq_true h,λh=>Nat.ble_eq_true_of_le h⟩
theorem nO {a b:Nat}:Nat.ble a b=false↔¬a<=b:=by
 cases h:Nat.ble a b with
 | true=>simp[kW.1 h]
 | false=>simp;exact Nat.lt_of_not_le λk=>by rw[kW.2 k]at h;cases h
def lk:List (Nat × AV)->Nat->Option AV
 | [],_=>none
 | (i,v)::l,j=>match Nat.beq i j with | true=>some v | false=>lk l j
abbrev Sl:=List (Nat × AV)
def En (l:Sl)(e:Tr AV):Prop:=∀i v,lk l i=some v->e.get i=some v
theorem lu (d:Nat)(v:AV)(l:Sl)(i:Nat):lk ((d,v)::l) i=if d=i then some v else lk l i:=by
 show(match Nat.beq d i with | true=>some v | false=>lk l i)=_
 by_cases h:d=i
 ·subst h;rw[if_pos rfl,dn]
 ·rw[if_neg h]
  have:Nat.beq d i=false:=by
   cases hb:Nat.beq d i with
   | true=>exact absurd (Nat.eq_of_beq_eq_true hb) h
   | false=>rfl
  rw[this]
theorem En.put {l:Sl}{e:Tr AV}(h:En l e)(d:Nat)(v:AV):En ((d,v)::l) (e.put d v):=by
 intro i x hx
 rw[lu]at hx
 rw[Tr.aR]
 by_cases hi:d=i
 ·grind
 ·rw[if_neg hi]at hx |-;exact h i x hx
@[reducible] def pl (d:Option Nat)(v:AV)(l:Sl):Sl:=match d with | some d=>(d,v)::l | none=>l
theorem En.putO {l:Sl}{e:Tr AV}(h:En l e)(d:Option Nat)(v:AV):En (pl d v l) (putO e d v):=by
 cases d with
 | none=>exact h
 | some d=>exact h.put d v
noncomputable def opl (l:Sl):Operand->Option AV
 | .tmp t=>lk l t
 | .const v=>ofVal v
 | .global _=>none
 | .func f=>some<|.func f [] []
theorem aG {l:Sl}{e:Tr AV}(h:En l e){x:Operand}{v:AV}(hx:opl l x=some v):bL e x=some v:=by
 cases x with
 | tmp t=>exact h t v hx
 | const c=>exact hx
 | global g=>cases hx
 | func f=>exact hx
theorem oq {α β:Type}{f g:α->Option β}(h:∀a b,f a=some b->g a=some b):∀(l:List α)(r:List β),aI f l=some r->aI g l=some r:=by
 intro l
 induction l with
 | nil=>intro r hr;exact hr
 | cons a l ih=>
  intro r hr
  obtain⟨b,bs,h1,h2,rfl⟩:=(aV f a l r).1 hr
  exact(aV g a l _).2 ⟨b,bs,h a b h1,ih bs h2,rfl⟩
theorem lG {l:Sl}{e:Tr AV}(h:En l e){xs:List Operand}{vs:List AV}(hx:aI (opl l) xs=some vs):aI (bL e) xs=some vs:=
 oq (λ_ _ h1=>aG h h1) _ _ hx
inductive HO where
 | r (ro:Bool) (L:List (List AV)) (sz:Nat)
 | m (es:List (AV × AV))
 | ob (o:bv)
 | gone
 | lp (l:Sl) (nt:Nat) (ps:List Nat) (asg body:Code) (st:LoopState) (pend:Option AX) (D:Nat)
 | bK
def HO.ok:HO->Option bv->Prop
 | .r ro L sz,x=>∃t,x=some (.rows t L.length sz ro)/\∀(i:Nat)row,L[i]?=some row->t.get i=some row/\row.length=sz
 | .m es,x=>x=some (.map es)
 | .ob o,x=>x=some o
 | .gone,_=>True
 | .lp l nt ps asg body st pend D,x=>∃e,x=some (.loop e nt ps asg body st pend D)/\En l e
 | .bK,_=>True
abbrev SH:=List (Nat × HO)
inductive Has (b:Nat)(o:HO):SH->Prop
 | here {s:SH}:Has b o ((b,o)::s)
 | there {p:Nat × HO} {s:SH}:Has b o s->Has b o (p::s)
 | app {n s:SH}:Has b o s->Has b o (n++s)
 | left {n s:SH}:Has b o n->Has b o (n++s)
theorem Has.mem {b:Nat}{o:HO}{s:SH}(h:Has b o s):(b,o)∈s:=by
 induction h with
 | here=>grind
 | there _ ih=>grind
 | app _ ih=>grind
 | left _ ih=>grind
theorem Has.d5 {b:Nat}{o:HO}{s:SH}(h:(b,o)∈s):Has b o s:=by
 induction s with
 | nil=>cases h
 | cons p s ih=>
  cases h with
  | head=>exact .here
  | tail _ h=>exact .there<|ih h
inductive oY (b:Nat)(o o':HO):SH->SH->Prop
 | here {s:SH}:oY b o o' ((b,o)::s) ((b,o')::s)
 | there {p:Nat × HO} {s s':SH}:oY b o o' s s'->oY b o o' (p::s) (p::s')
 | app {n s s':SH}:oY b o o' s s'->oY b o o' (n++s) (n++s')
 | left {n n' s:SH}:oY b o o' n n'->oY b o o' (n++s) (n'++s)
theorem oY.split {b:Nat}{o o':HO}{s s':SH}(h:oY b o o' s s'):∃x y,s=x++(b,o)::y/\s'=x++(b,o')::y:=by
 induction h with
 | here=>exact⟨[],_,rfl,rfl⟩
 | @there p s s' _ ih=>grind
 | @app n s s' _ ih=>grind
 | @left n n' s _ ih=>grind
structure Hp (H0:Heap)(s:SH)(H:Heap):Prop where
 le:H0.next<=H.next
 ok:∀b o,(b,o)∈s->b<H.next/\o.ok (H.get b)
 nd:s.Pairwise (λp q=>p.1≠q.1)
 fr:∀b,b<H0.next->(∀o,(b,o) ∉ s)->H.get b=H0.get b
theorem Hp.has {H0 H:Heap}{s:SH}(h:Hp H0 s H){b:Nat}{o:HO}(hb:Has b o s):b<H.next/\o.ok (H.get b):=h.ok b o hb.mem
theorem Hp.fresh {H0 H:Heap}{s:SH}(h:Hp H0 s H)(p:Nat × HO)(hp:p∈s):p.1≠H.next:=by
 have:=(h.ok p.1 p.2 hp).1
 omega
theorem Hp.alloc {H0 H:Heap}{s:SH}(h:Hp H0 s H){o':HO}{o:bv}(ho:o'.ok (some o)):Hp H0 ((H.next,o')::s) (H.new o).2:=by
 refine⟨Nat.le_trans h.le (by rw[Heap.gO];omega),?_,?_,?_⟩
 ·intro b x hx
  rw[Heap.gO,Heap.Cl]
  cases hx with
  | head=>grind
  | tail _ hx=>
   obtain⟨h1,h2⟩:=h.ok b x hx
   grind
 ·exact List.pairwise_cons.2 ⟨λp hp=>(h.fresh p hp).symm,h.nd⟩
 ·intro b hb hn
  have:=h.le
  rw[Heap.Cl,if_neg<|by omega]
  exact h.fr b hb λo ho=>hn o<|List.mem_cons_of_mem _ ho
theorem Hp.R0 {H0 H H':Heap}{s s':SH}{b:Nat}{o o':HO}(h:Hp H0 s H)(hu:oY b o o' s s'){x:Option bv}(hx:o'.ok x)(hn:H'.next=H.next)(hg:∀c,H'.get c=if b=c then x else H.get c):Hp H0 s' H':=by
 obtain⟨l,r,rfl,rfl⟩:=hu.split
 have hnd:=h.nd
 rw[List.pairwise_append,List.pairwise_cons]at hnd
 obtain⟨n1,⟨n2,n3⟩,n4⟩:=hnd
 have hb:b<H.next:=(h.ok b o<|List.mem_append_right _<|List.mem_cons_self ..).1
 refine⟨by rw[hn];exact h.le,?_,?_,?_⟩
 ·intro c y hy
  rw[hn,hg]
  rcases List.mem_append.1 hy with hy|hy
  ·have hne:c≠b:=n4 (c,y) hy (b,o) (List.mem_cons_self ..)
   rw[if_neg (λe=>hne e.symm)]
   exact h.ok c y<|List.mem_append_left _ hy
  ·cases hy with
   | head=>grind
   | tail _ hy=>
    have hne:b≠c:=n2 (c,y) hy
    rw[if_neg hne]
    exact h.ok c y<|List.mem_append_right _<|List.mem_cons_of_mem _ hy
 ·rw[List.pairwise_append,List.pairwise_cons]
  refine⟨n1,⟨n2,n3⟩,λp hp q hq=>?_⟩
  cases hq with
  | head=>exact n4 p hp (b,o)<|List.mem_cons_self ..
  | tail _ hq=>exact n4 p hp q<|List.mem_cons_of_mem _ hq
 ·intro c hc xE
  have hbc:b≠c:=λe=>by
   grind
  rw[hg,if_neg hbc]
  refine h.fr c hc λy hy=>?_
  rcases List.mem_append.1 hy with hy|hy
  ·grind
  grind
theorem Hp.weak {H0 H:Heap}{s s':SH}(h:Hp H0 s H)(hk:∀b o,(b,o)∈s'->(b,o)∈s\/o=.bK/\∃o',(b,o')∈s)(hback:∀b o,(b,o)∈s->∃o',(b,o')∈s')(hnd:s'.Pairwise (λp q=>p.1≠q.1)):Hp H0 s' H:=by
 refine⟨h.le,?_,hnd,?_⟩
 ·intro b o hb
  rcases hk b o hb with h1|⟨rfl,o',h1⟩
  ·exact h.ok b o h1
  ·exact⟨(h.ok b o' h1).1,trivial⟩
 ·intro b hb hn
  refine h.fr b hb λo ho=>?_
  grind
theorem Hp.perm {H0 H:Heap}{s s':SH}(h:Hp H0 s H)(hp:s.Perm s'):Hp H0 s' H:=
 h.weak (λb o hb=>.inl<|hp.mem_iff.2 hb) (λb o hb=>⟨o,hp.mem_iff.1 hb⟩) ((hp.pairwise_iff<|λhxy=>hxy.symm).1 h.nd)
structure DC where
 o:bS
 cls:Ki
 lo:Nat
 hi:Nat
 aC:Nat
inductive AC where
 | skip
 | ops (l:List bS)
 | drawn (nd:Nat) (l:List DC)
 | seq (a b:AC)
 | cond (c:Operand) (a b:AC)
 | block (id:Nat) (b:AC)
 | loop (b:AC)
 | exit (id:Nat)
 | ret
 | rf (g:Operand) (ps:List Nat) (asg body:AC)
 | bad
noncomputable def cg (ops:List Oper):Option (Nat × Bool)->Option (Option (Nat × Bool))
 | none=>some none
 | some (j,w)=>match dJ ops j with
  | some o=>match o.dst with | some d=>some (some (d,w)) | none=>none
  | none=>none
noncomputable def co (P:Program)(nt:Nat)(ops:List Oper)(o:Oper):Option bS:=match cOper P nt o with
 | ⟨d,op,g⟩=>match cg ops g with
  | some g=>some ⟨d,op,g⟩
  | none=>none
noncomputable def dcs (ops:List Oper)(aC:Tr Nat):Nat->List qr->Option (List DC)
 | _,[]=>some []
 | j,d::r=>match cg ops d.o.guard with
  | some g=>match aC.get j with
   | some a=>match dcs ops aC (j+1) r with
    | some r'=>some<|⟨⟨d.o.dst,d.o.op,g⟩,d.cls,d.lo,d.hi,a⟩::r'
    | none=>none
   | none=>none
  | none=>none
noncomputable def cdr (P:Program)(nt:Nat)(ops:Array Oper):AC:=match dinfo P nt ops with
 | some I=>match dcs ops.toList I.aC 0 I.ops with
  | some l=>.drawn I.nd l
  | none=>.bad
 | none=>.bad
noncomputable def cc (P:Program)(nt:Nat):Code->AC
 | .skip=>.skip
 | .label _=>.skip
 | .region _ ops d=>match d with
  | false=>(match aI (co P nt ops.toList) ops.toList with | some l=>.ops l | none=>.bad)
  | true=>cdr P nt ops
 | .seq a b=>.seq (cc P nt a)<|cc P nt b
 | .cond c a b=>.cond c (cc P nt a)<|cc P nt b
 | .block id b=>.block id<|cc P nt b
 | .loop b=>.loop<|cc P nt b
 | .exit id=>.exit id
 | .ret=>.ret
 | .rangeFunc g ps asg body=>.rf g ps.toList (cc P nt asg)<|cc P nt body
 | _=>.bad
abbrev Po:=Sl->List cD->SH->Prop
section
variable {P:Program}{K:Orc}{rd:Option Nat}{nt:Nat}{l:Sl}{ds:List cD}{s:SH}{Q Qn Qr:Po}{Qe:Nat->Po}
def WS (P:Program)(K:Orc)(op:AOp)(l:Sl)(ds:List cD)(s:SH)(R:AV->List cD->SH->Prop):Prop:=
 ∀(H0:Heap)(e:Tr AV)(H:Heap),En l e->Hp H0 s H->∃v ds' s' H',qu P K e op ds H (.mk v ds' H')/\Hp H0 s' H'/\R v ds' s'
def WO (P:Program)(K:Orc)(ol:List bS)(l:Sl)(ds:List cD)(s:SH)(Q:Po):Prop:=
 ∀(nt:Nat)(ops:Array Oper)(l0:List Oper),aI (co P nt ops.toList) l0=some ol->∀(H0:Heap)(e:Tr AV)(H:Heap),En l e->Hp H0 s H ->
  ∃e' ds' H' l' s',fj P K nt ops l0 e ds H (.mk .normal e' ds' H')/\En l' e'/\Hp H0 s' H'/\Q l' ds' s'
def WP (P:Program)(K:Orc)(rd:Option Nat)(nt:Nat)(c:AC)(l:Sl)(ds:List cD)(s:SH)(Qn:Po)(Qe:Nat->Po)(Qr:Po):Prop:=
 ∀(c0:Code),cc P nt c0=c->∀(H0:Heap)(e:Tr AV)(H:Heap),En l e->Hp H0 s H ->
  ∃x e' ds' H' l' s',bt P K rd nt c0 e ds H (.mk x e' ds' H')/\En l' e'/\Hp H0 s' H'/\(match x with | .normal=>Qn l' ds' s' | .exit i=>Qe i l' ds' s' | .ret=>Qr l' ds' s')
def bB (P:Program)(K:Orc)(f:FuncId)(args:List AV)(s:SH)(Q:AV->SH->Prop):Prop:=
 ∀(H0 H:Heap),Hp H0 s H->∃v s' H',CallsTo P K f args H v H'/\Hp H0 s' H'/\Q v s'
def c6 (P:Program)(K:Orc)(fv:AV)(args:List AV)(s:SH)(Q:AV->SH->Prop):Prop:=
 ∀(H0 H:Heap),Hp H0 s H->∃v s' H',ki P K fv args H v H'/\Hp H0 s' H'/\Q v s'
theorem c6.func {f:FuncId}{first cap args:List AV}{Q:AV->SH->Prop}(h:bB P K f (first++(args++cap)) s Q):c6 P K (.func f first cap) args s Q:=by
 intro H0 H hH
 obtain⟨v,s',H',h1,h2,h3⟩:=h H0 H hH
 exact⟨v,s',H',ki.func h1,h2,h3⟩
theorem bB.post {f:FuncId}{args:List AV}{Q Q':AV->SH->Prop}(h:bB P K f args s Q)(hq:∀v s',Q v s'->Q' v s'):bB P K f args s Q':=by
 intro H0 H hH
 obtain⟨v,s',H',h1,h2,h3⟩:=h H0 H hH
 grind
def AC.C2:AC->Bool
 | .ops _=>true
 | .drawn _ _=>true
 | .bad=>true
 | _=>false
theorem uV {i:Nat}{ops:Array Oper}{d:Bool}:(cc P nt (.region i ops d)).C2=true:=by
 unfold cc
 cases d with
 | false=>dsimp only;split<;>rfl
 | true=>
  show(cdr P nt ops).C2=true
  unfold cdr
  split
  ·split<;>rfl
  ·rfl
theorem db {i:Nat}{ops:Array Oper}{d:Bool}{c:AC}(h:cc P nt (.region i ops d)=c)(hc:c.C2=false:=by rfl):False:=by
 have:=uV (P:=P) (nt:=nt) (i:=i) (ops:=ops) (d:=d)
 grind
theorem WP.skip (h:Qn l ds s):WP P K rd nt .skip l ds s Qn Qe Qr:=by
 intro c0 hc H0 e H he hH
 cases c0 with
 | skip=>exact⟨_,_,_,_,_,_,bt.skip,he,hH,h⟩
 | label _=>exact⟨_,_,_,_,_,_,⟨1,rfl⟩,he,hH,h⟩
 | region i ops d=>exact(db hc).elim
 | _=>simp[cc]at hc
theorem WP.exit {i:Nat}(h:Qe i l ds s):WP P K rd nt (.exit i) l ds s Qn Qe Qr:=by
 intro c0 hc H0 e H he hH
 cases c0 with
 | exit _=>simp only[cc,AC.exit.injEq]at hc;subst hc;exact⟨_,_,_,_,_,_,bt.exit _,he,hH,h⟩
 | region i ops d=>exact(db hc).elim
 | _=>simp[cc]at hc
theorem WP.ret (h:Qr l ds s):WP P K rd nt .ret l ds s Qn Qe Qr:=by
 intro c0 hc H0 e H he hH
 cases c0 with
 | ret=>exact⟨_,_,_,_,_,_,bt.ret,he,hH,h⟩
 | region i ops d=>exact(db hc).elim
 | _=>simp[cc]at hc
theorem WP.seq {a b:AC}(h:WP P K rd nt a l ds s (λl ds s=>WP P K rd nt b l ds s Qn Qe Qr) Qe Qr):WP P K rd nt (.seq a b) l ds s Qn Qe Qr:=by
 intro c0 hc H0 e H he hH
 cases c0 with
 | seq a0 b0=>
  simp only[cc,AC.seq.injEq]at hc
  obtain⟨x,e1,ds1,H1,l1,s1,h1,h2,h3,h4⟩:=h a0 hc.1 H0 e H he hH
  cases x with
  | normal=>
   obtain⟨x,e2,ds2,H2,l2,s2,k1,k2,k3,k4⟩:=h4 b0 hc.2 H0 e1 H1 h2 h3
   exact⟨x,e2,ds2,H2,l2,s2,bt.seq h1 k1,k2,k3,k4⟩
  | exit i=>exact⟨_,_,_,_,_,_,bt.stop h1<|by grind,h2,h3,h4⟩
  | ret=>exact⟨_,_,_,_,_,_,bt.stop h1<|by grind,h2,h3,h4⟩
 | region i ops d=>exact(db hc).elim
 | _=>simp[cc]at hc
theorem WP.cond {c:Operand}{a b:AC}{t:Bool}(hx:opl l c=some (.bool t))(h1:t=true->WP P K rd nt a l ds s Qn Qe Qr)(h2:t=false->WP P K rd nt b l ds s Qn Qe Qr):WP P K rd nt (.cond c a b) l ds s Qn Qe Qr:=by
 intro c0 hc H0 e H he hH
 cases c0 with
 | cond c1 a0 b0=>
  simp only[cc,AC.cond.injEq]at hc
  obtain⟨rfl,ha,hb⟩:=hc
  cases t with
  | true=>
   obtain⟨x,e1,ds1,H1,l1,s1,k1,k2,k3,k4⟩:=h1 rfl a0 ha H0 e H he hH
   exact⟨_,_,_,_,_,_,bt.yes (aG he hx) k1,k2,k3,k4⟩
  | false=>
   obtain⟨x,e1,ds1,H1,l1,s1,k1,k2,k3,k4⟩:=h2 rfl b0 hb H0 e H he hH
   exact⟨_,_,_,_,_,_,bt.no (aG he hx) k1,k2,k3,k4⟩
 | region i ops d=>exact(db hc).elim
 | _=>simp[cc]at hc
theorem WP.block {id:Nat}{b:AC}(h:WP P K rd nt b l ds s Qn (λi l ds s=>match Nat.beq i id with | true=>Qn l ds s | false=>Qe i l ds s) Qr):WP P K rd nt (.block id b) l ds s Qn Qe Qr:=by
 intro c0 hc H0 e H he hH
 cases c0 with
 | block i0 b0=>
  simp only[cc,AC.block.injEq]at hc
  obtain⟨rfl,hb⟩:=hc
  obtain⟨x,e1,ds1,H1,l1,s1,k1,k2,k3,k4⟩:=h b0 hb H0 e H he hH
  cases x with
  | normal=>exact⟨_,_,_,_,_,_,bt.block k1,k2,k3,k4⟩
  | ret=>exact⟨_,_,_,_,_,_,bt.yO k1,k2,k3,k4⟩
  | exit i=>
   cases hi:Nat.beq i i0 with
   | true=>
    have:i=i0:=Nat.eq_of_beq_eq_true hi
    subst this
    dsimp only at k4
    rw[hi]at k4
    exact⟨_,_,_,_,_,_,bt.uR k1,k2,k3,k4⟩
   | false=>
    dsimp only at k4
    rw[hi]at k4
    exact⟨_,_,_,_,_,_,bt.sF hi k1,k2,k3,k4⟩
 | region i ops d=>exact(db hc).elim
 | _=>simp[cc]at hc
theorem WP.loop {b:AC}(I:Nat->Po)(h:∀n l ds s,I n l ds s->WP P K rd nt b l ds s (λl ds s=>∃m,m<n/\I m l ds s) Qe Qr){n:Nat}(h0:I n l ds s):WP P K rd nt (.loop b) l ds s Qn Qe Qr:=by
 intro c0 hc H0 e H he hH
 cases c0 with
 | loop b0=>
  simp only[cc,AC.loop.injEq]at hc
  have key:∀(n:Nat)(l:Sl)(ds:List cD)(s:SH)(e:Tr AV)(H:Heap),I n l ds s->En l e->Hp H0 s H ->
    ∃x e' ds' H' l' s',bt P K rd nt (.loop b0) e ds H (.mk x e' ds' H')/\En l' e'/\Hp H0 s' H'/\(match x with | .normal=>Qn l' ds' s' | .exit i=>Qe i l' ds' s' | .ret=>Qr l' ds' s'):=by
   intro n
   induction n using Nat.strongRecOn with
   | _ n ih=>
    intro l ds s e H hI he hH
    obtain⟨x,e1,ds1,H1,l1,s1,k1,k2,k3,k4⟩:=h n l ds s hI b0 hc H0 e H he hH
    cases x with
    | normal=>
     obtain⟨m,hm,XS⟩:=k4
     obtain⟨x,e2,ds2,H2,l2,s2,j1,j2,j3,j4⟩:=ih m hm _ _ _ _ _ XS k2 k3
     exact⟨_,_,_,_,_,_,bt.again k1 j1,j2,j3,j4⟩
    | exit i=>exact⟨_,_,_,_,_,_,bt.out k1<|by grind,k2,k3,k4⟩
    | ret=>exact⟨_,_,_,_,_,_,bt.out k1<|by grind,k2,k3,k4⟩
  grind
 | region i ops d=>exact(db hc).elim
 | _=>simp[cc]at hc
theorem WP.ops {ol:List bS}(h:WO P K ol l ds s Qn):WP P K rd nt (.ops ol) l ds s Qn Qe Qr:=by
 intro c0 hc H0 e H he hH
 cases c0 with
 | region i ops d=>
  cases d with
  | true=>
   exfalso
   have hc:cdr P nt ops=.ops ol:=hc
   unfold cdr at hc
   grind
  | false=>
   have hc:(match aI (co P nt ops.toList) ops.toList with | some l=>AC.ops l | none=>.bad)=.ops ol:=hc
   split at hc
   ·rename_i l' hl'
    cases hc
    obtain⟨e',ds',H',l',s',h1,h2,h3,h4⟩:=h nt ops ops.toList hl' H0 e H he hH
    exact⟨_,_,_,_,_,_,bt.region h1,h2,h3,h4⟩
   ·cases hc
 | _=>simp[cc]at hc
theorem WP.weak {c:AC}{l':Sl}{s':SH}(hl:∀i v,lk l' i=some v->lk l i=some v)(hs:∀H0 H,Hp H0 s H->Hp H0 s' H)(h:WP P K rd nt c l' ds s' Qn Qe Qr):WP P K rd nt c l ds s Qn Qe Qr:=
 λc0 hc H0 e H he hH=>h c0 hc H0 e H (λi v hi=>he i v<|hl i v hi)<|hs H0 H hH
theorem WP.post {c:AC}{ZL ZM:Po}{ZK:Nat->Po}(h:WP P K rd nt c l ds s Qn Qe Qr)(hn:∀l ds s,Qn l ds s->ZL l ds s)(he:∀i l ds s,Qe i l ds s->ZK i l ds s)(hr:∀l ds s,Qr l ds s->ZM l ds s):WP P K rd nt c l ds s ZL ZK ZM:=by
 intro c0 hc H0 e H h1 h2
 obtain⟨x,e1,ds1,H1,l1,s1,k1,k2,k3,k4⟩:=h c0 hc H0 e H h1 h2
 grind
theorem WO.nil (h:Q l ds s):WO P K [] l ds s Q:=by
 intro nt ops l0 hl H0 e H he hH
 cases l0 with
 | nil=>exact⟨_,_,_,_,_,fj.nil,he,hH,h⟩
 | cons a l0=>
  obtain⟨b,bs,_,_,h3⟩:=(aV _ a l0 _).1 hl
  cases h3
theorem WO.cons {d:Option Nat}{op:AOp}{rest:List bS}(h:WS P K op l ds s (λv ds' s'=>WO P K rest (pl d v l) ds' s' Q)):WO P K (⟨d,op,none⟩::rest) l ds s Q:=by
 intro nt ops l0 hl H0 e H he hH
 cases l0 with
 | nil=>cases hl
 | cons a l0=>
  obtain⟨b,bs,h1,h2,h3⟩:=(aV _ a l0 _).1 hl
  cases h3
  have hc:cOper P nt a=⟨d,op,none⟩:=by
   unfold co at h1
   generalize cOper P nt a=z at h1 |-
   obtain⟨d',op',g'⟩:=z
   cases g' with
   | none=>cases h1;rfl
   | some jw=>
    unfold cg at h1
    grind
  obtain⟨v,ds1,s1,H1,k1,k2,k3⟩:=h H0 e H he hH
  obtain⟨e',ds',H',l',s',j1,j2,j3,j4⟩:=k3 nt ops l0 h2 H0 (putO e d v) H1 (he.putO d v) k2
  exact⟨_,_,_,_,_,fj.cons hc rfl k1 j1,j2,j3,j4⟩
theorem WO.guard {d:Option Nat}{op:AOp}{j:Nat}{w b:Bool}{rest:List bS}(hj:lk l j=some (.bool b))(h1:b=w->WO P K (⟨d,op,none⟩::rest) l ds s Q)(h2:b≠w->WO P K rest (pl d .undef l) ds s Q) :
  WO P K (⟨d,op,some (j,w)⟩::rest) l ds s Q:=by
 intro nt ops l0 hl H0 e H he hH
 cases l0 with
 | nil=>cases hl
 | cons a l0=>
  obtain⟨c,cs,g1,g2,g3⟩:=(aV _ a l0 _).1 hl
  cases g3
  obtain⟨k,hc,hk⟩:∃k,cOper P nt a=⟨d,op,some (k,w)⟩/\∃o,dJ ops.toList k=some o/\o.dst=some j:=by
   unfold co at g1
   generalize cOper P nt a=z at g1 |-
   obtain⟨d',op',g'⟩:=z
   cases g' with
   | none=>cases g1
   | some kw=>
    unfold cg at g1
    grind
  obtain⟨o,ho,hd⟩:=hk
  have hw:wanted e ops (some (k,w))=some (b==w):=by
   unfold wanted
   simp only[ho,hd,he j _ hj]
  by_cases hb:b=w
  ·subst hb
   have uz:cOper P nt { a with guard:=none }=⟨d,op,none⟩:=by
    have key:cOper P nt { a with guard:=none }={ cOper P nt a with guard:=none }:=by
     unfold cOper
     grind
    rw[key,hc]
   have hl':aI (co P nt ops.toList) ({ a with guard:=none }::l0)=some (⟨d,op,none⟩::rest):=
    (aV _ _ _ _).2 ⟨_,_,by unfold co;rw[uz];rfl,g2,rfl⟩
   obtain⟨e',ds',H',l',s',⟨n,j1⟩,j2,j3,j4⟩:=h1 rfl nt ops _ hl' H0 e H he hH
   refine⟨e',ds',H',l',s',⟨n,?_⟩,j2,j3,j4⟩
   have hs:opStep P (ev P K n) nt ops (.mk .normal e ds H) a=opStep P (ev P K n) nt ops (.mk .normal e ds H) { a with guard:=none }:=by
    unfold opStep
    simp only[hc,uz,hw,beq_self_eq_true]
    rfl
   rw[ah]at j1 |-
   grind
  ·obtain⟨e',ds',H',l',s',j1,j2,j3,j4⟩:=h2 hb nt ops l0 g2 H0 (putO e d .undef) H (he.putO d .undef) hH
   have hw:wanted e ops (some (k,w))=some false:=by
    grind
   exact⟨_,_,_,_,_,fj.pass hc hw j1,j2,j3,j4⟩
end
end Go.Ev
namespace Go.Ev
section
variable {P:Program}{K:Orc}{rd:Option Nat}{nt:Nat}{l:Sl}{ds:List cD}{s:SH}{Q Qn Qr:Po}{Qe:Nat->Po}
variable {R:AV->List cD->SH->Prop}
def Bm (op:AOp):Prop:=∀(P:Program)(ih:fP)(ρ:Operand->Option AV)ds H,oper P ih ρ op ds H=match aval P H ρ op with | some (v,H')=>some (.mk v ds H') | none=>none
structure WR (P:Program)(op:AOp)(l:Sl)(s:SH)(v:AV):Prop where
 q:Bm op
 h:∀(H0:Heap)(e:Tr AV)(H:Heap),En l e->Hp H0 s H->aval P H (bL e) op=some (v,H)
theorem WR.mk' {op:AOp}{v:AV}(hq:Bm op)(h:∀e H,En l e->aval P H (bL e) op=some (v,H)):WR P op l s v:=⟨hq,λ_ e H he _=>h e H he⟩
theorem WS.r {op:AOp}{v:AV}(h:WR P op l s v)(k:R v ds s):WS P K op l ds s R:=
 λH0 e H he hH=>⟨v,ds,s,H,⟨0,by rw[h.q,h.h H0 e H he hH]⟩,hH,k⟩
theorem WO.r {d:Option Nat}{op:AOp}{rest:List bS}{v:AV}(h:WR P op l s v)(k:WO P K rest (pl d v l) ds s Q):WO P K (⟨d,op,none⟩::rest) l ds s Q:=WO.cons (WS.r h k)
def WA (op:AOp)(l:Sl)(ho:HO)(f:Nat->AV):Prop:=Bm op/\(∀(P:Program)(H:Heap)(ρ:Operand->Option AV),aval P H ρ op=match allocOf ρ op with | some (o,f)=>(match H.new o with | (b,H')=>some (f b,H')) | none=>none)/\∀e,En l e->∃o,allocOf (bL e) op=some (o,f)/\ho.ok (some o)
theorem WO.a {d:Option Nat}{op:AOp}{rest:List bS}{ho:HO}{f:Nat->AV}(h:WA op l ho f)(k:∀b,WO P K rest (pl d (f b) l) ds ((b,ho)::s) Q):WO P K (⟨d,op,none⟩::rest) l ds s Q:=
 WO.cons λH0 e H he hH=>by
  obtain⟨o,h1,h2⟩:=h.2.2 e he
  refine⟨f H.next,ds,_,_,⟨0,?_⟩,hH.alloc h2,k _⟩
  rw[h.1,h.2.1,h1]
  rfl
theorem WO.w {d:Option Nat}{op:AOp}{rest:List bS}(h:WS P K op l ds s (λv ds' s'=>WO P K rest (pl d v l) ds' s' Q)):WO P K (⟨d,op,none⟩::rest) l ds s Q:=WO.cons h
theorem WR.mv {x:Operand}{v:AV}(hx:opl l x=some v):WR P (.mv x) l s v:=
 WR.mk' (λ_ _ _ _ _=>rfl) (λe H he=>by simp only[aval,aG he hx])
theorem WR.uS {c a b:Operand}{v:AV}(hc:opl l c=some (.bool true))(hx:opl l a=some v):WR P (.pick c a b) l s v:=
 WR.mk' (λ_ _ _ _ _=>rfl) (λe H he=>by simp only[aval,aG he hc,aG he hx])
theorem WR.bj {c a b:Operand}{v:AV}(hc:opl l c=some (.bool false))(hx:opl l b=some v):WR P (.pick c a b) l s v:=
 WR.mk' (λ_ _ _ _ _=>rfl) (λe H he=>by simp only[aval,aG he hc,aG he hx])
noncomputable def bparts (l:Sl)(parts:List (Nat × Nat × Operand)):Option (List (Nat × List AV)):=aI (λp=>match opl l p.2.2 with
 | some v=>match partCells p.2.1 v with | some cs=>some (p.1,cs) | none=>none
 | none=>none) parts
theorem yP {e:Tr AV}(he:En l e){parts:List (Nat × Nat × Operand)}{ps:List (Nat × List AV)}(h:bparts l parts=some ps):aI (λp:Nat × Nat × Operand=>match bL e p.2.2 with
 | some v=>match partCells p.2.1 v with | some cs=>some (p.1,cs) | none=>none
 | none=>none) parts=some ps:=by
 refine oq (λp r hr=>?_) _ _ h
 split at hr
 ·rename_i v hv
  rw[aG he hv]
  exact hr
 ·cases hr
theorem WR.build {z:List AV}{parts:List (Nat × Nat × Operand)}{ps:List (Nat × List AV)}{cs:List AV}(hp:bparts l parts=some ps)(hc:mM z ps=some cs):WR P (.build z parts) l s (.agg cs):=
 WR.mk' (λ_ _ _ _ _=>rfl) (λe H he=>(congrArg (λr=>match r with | some l=>(match mM z l with | some cs=>some (AV.agg cs,H) | none=>none) | none=>none)<|yP he hp).trans (by simp only[hc]))
def nnil:AV->Bool
 | .ptr none=>false
 | .nilIface=>false
 | .nilFunc=>false
 | .mfunc _ _=>false
 | _=>true
def Zq:AV->Bool
 | .tuple _=>false
 | _=>true
theorem WR.nilchk {x:Operand}{v:AV}(hx:opl l x=some v)(hn:nnil v=true):WR P (.nilchk x) l s v:=by
 refine WR.mk' (λ_ _ _ _ _=>rfl)<|λe H he=>?_
 simp only[aval,aG he hx]
 unfold nnil at hn
 grind
theorem WR.arith {op:BinOp}{x y:Operand}{u w v:AV}(hx:opl l x=some u)(hy:opl l y=some w)(hv:binV op u w=some v):WR P (.arith op x y) l s v:=
 WR.mk' (λ_ _ _ _ _=>rfl) (λe H he=>by simp only[aval,aG he hx,aG he hy,hv])
@[reducible] def negB (neg b:Bool):Bool:=match neg with | true=>!b | false=>b
theorem WR.eql {neg:Bool}{p:dC}{x y:Operand}{u w:AV}{b:Bool}(hx:opl l x=some u)(hy:opl l y=some w)(hv:eqBy 20 p u w=some b):WR P (.eql neg p x y) l s (.bool (negB neg b)):=
 WR.mk' (λ_ _ _ _ _=>rfl) (λe H he=>by simp only[aval,aG he hx,aG he hy,hv];rfl)
theorem WR.un {op:UnOp}{x:Operand}{u v:AV}(hx:opl l x=some u)(hv:unV op u=some v):WR P (.un op x) l s v:=
 WR.mk' (λ_ _ _ _ _=>rfl) (λe H he=>by simp only[aval,aG he hx,hv])
theorem WR.convI {q j:IntKind}{x:Operand}{n:Int}{v:AV}(hx:opl l x=some (.int j n))(hv:mkI q n=some v):WR P (.convI q x) l s v:=
 WR.mk' (λ_ _ _ _ _=>rfl) (λe H he=>by simp only[aval,aG he hx,hv])
theorem WR.mkif {t:TypeId}{x:Operand}{v:AV}(hx:opl l x=some v)(hn:Zq v=true):WR P (.mkif t x) l s (.iface t v):=by
 refine WR.mk' (λ_ _ _ _ _=>rfl)<|λe H he=>?_
 simp only[aval,aG he hx]
 cases v<;>first | rfl | cases hn
theorem WR.mkfn {f:FuncId}{a b:List Operand}{va vb:List AV}(ha:aI (opl l) a=some va)(hb:aI (opl l) b=some vb):WR P (.mkfn f a b) l s (.func f va vb):=
 WR.mk' (λ_ _ _ _ _=>rfl) (λe H he=>by simp only[aval,lG he ha,lG he hb])
theorem WR.faddr {off:Nat}{x:Operand}{b r o:Nat}(hx:opl l x=some (.ptr (some ⟨b,r,o⟩))):WR P (.faddr off x) l s (.ptr (some ⟨b,r,Nat.add o off⟩)):=
 WR.mk' (λ_ _ _ _ _=>rfl) (λe H he=>by simp only[aval,aG he hx])
theorem WR.fld {off n:Nat}{g:Bool}{x:Operand}{cs:List AV}{v:AV}(hx:opl l x=some (.agg cs))(hv:part g cs off n=some v):WR P (.fld off n g x) l s v:=
 WR.mk' (λ_ _ _ _ _=>rfl) (λe H he=>by simp only[aval,aG he hx,hv])
theorem WR.iaddrS {sz:Nat}{x i:Operand}{b r n c:Nat}{sl:Bool}{q:IntKind}{j:Nat}(hx:opl l x=some (.slice (some ⟨b,r,0⟩) n c sl sz))(hi:opl l i=some (.int q (.ofNat j)))(hj:j<n)(hs:sz≠0):WR P (.iaddrS sz x i) l s (.ptr (some ⟨b,Nat.add r j,0⟩)):=by
 refine WR.mk' (v:=.ptr<|some ⟨b,Nat.add r j,0⟩) (λ_ _ _ _ _=>rfl)<|λe H he=>?_
 have h1:Nat.blt j n=true:=Nat.ble_eq_true_of_le hj
 simp only[aval,aG he hx,aG he hi,h1,elemAt]
 simp_all
theorem WR.idxA {n sz:Nat}{g:Bool}{x i:Operand}{cs:List AV}{q:IntKind}{j:Nat}{v:AV}(hx:opl l x=some (.agg cs))(hi:opl l i=some (.int q (.ofNat j)))(hj:j<n)(hv:part g cs (Nat.mul j sz) sz=some v):WR P (.idxA n sz g x i) l s v:=by
 have h1:Nat.blt j n=true:=Nat.ble_eq_true_of_le hj
 exact WR.mk' (λ_ _ _ _ _=>rfl)<|λe H he=>by simp only[aval,aG he hx,aG he hi,h1,hv]
theorem WR.extract {x:Operand}{i:Nat}{vs:List AV}{v:AV}(hx:opl l x=some (.tuple vs))(hv:dJ vs i=some v):WR P (.extract x i) l s v:=
 WR.mk' (λ_ _ _ _ _=>rfl) (λe H he=>by simp only[aval,aG he hx,hv])
def lenOf:AV->Option Nat
 | .slice _ n _ _ _=>some n
 | .empty=>some 0
 | _=>none
theorem WR.lenS {x:Operand}{v:AV}{n:Nat}(hx:opl l x=some v)(hn:lenOf v=some n):WR P (.lenS x) l s (.int .i64 (.ofNat n)):=by
 refine WR.mk' (λ_ _ _ _ _=>rfl)<|λe H he=>?_
 simp only[aval,aG he hx]
 cases v<;>cases hn<;>rfl
theorem c7 {ρ ρ':Operand->Option AV}(hρ:∀x v,ρ x=some v->ρ' x=some v){y d n:Nat}{x:Option Operand}(h:cL ρ y d x=some n):cL ρ' y d x=some n:=by
 cases x with
 | none=>exact h
 | some x=>
  unfold cL at h |-
  grind
theorem WR.wG {sz:Nat}{x:Operand}{lo hi:Option Operand}{a:Option Pl}{n c m:Nat}{sl:Bool}{rw:Nat}(hx:opl l x=some (.slice a n c sl rw))(hh:cL (opl l) c n hi=some m)(hl:cL (opl l) m 0 lo=some 0):WR P (.slc sz x lo hi none) l s (.slice a m c sl rw):=by
 refine WR.mk' (v:=.slice a m c sl rw) (λ_ _ _ _ _=>rfl)<|λe H he=>?_
 simp only[aval,aG he hx,c7 (λ_ _ h=>aG he h) hh,c7 (λ_ _ h=>aG he h) hl,aL]
 rfl
theorem WR.FN {sz:Nat}{x:Operand}{lo hi:Option Operand}{b r n c m j:Nat}{sl:Bool}(hx:opl l x=some (.slice (some ⟨b,r,0⟩) n c sl sz))(hh:cL (opl l) c n hi=some m)(hl:cL (opl l) m 0 lo=some j)(h0:j≠0)(hj:j<c)(hs:sz≠0):WR P (.slc sz x lo hi none) l s (.slice (some ⟨b,Nat.add r j,0⟩) (m-j) (c-j) sl sz):=by
 refine WR.mk' (v:=.slice (some ⟨b,Nat.add r j,0⟩) (m-j) (c-j) sl sz) (λ_ _ _ _ _=>rfl)<|λe H he=>?_
 have h1:Nat.beq j 0=false:=by
  cases j with
  | zero=>grind
  | succ j=>rfl
 have h2:Nat.blt j c=true:=Nat.ble_eq_true_of_le hj
 simp only[aval,aG he hx,c7 (λ_ _ h=>aG he h) hh,c7 (λ_ _ h=>aG he h) hl,aL,h1,h2,elemAt]
 simp_all
theorem WR.look {kk:dC}{z:AV}{ok:Bool}{m q:Operand}{b:Nat}{kv:AV}{es:List (AV × AV)}{o:Option AV}(hm:opl l m=some (.map (some b)))(hk:opl l q=some kv)(hb:Has b (.m es) s)(hl:lookIn kk kv es=some o):WR P (.look kk z ok m q) l s (match o with | some v=>jp ok v true | none=>jp ok z false):=by
 refine⟨λ_ _ _ _ _=>rfl,λH0 e H he hH=>?_⟩
 have hg:H.get b=some (.map es):=(hH.has hb).2
 simp only[aval,aG he hm,aG he hk,hg,hl]
 grind
theorem HO.read {H:Heap}{ro:Bool}{L:List (List AV)}{sz b r o n:Nat}{row cs:List AV}(h:(HO.r ro L sz).ok (H.get b))(hr:L[r]?=some row)(hc:bV n (cu o row)=some cs):H.read ⟨b,r,o⟩ n=some cs:=by
 obtain⟨t,h1,h2⟩:=h
 have hlt:r<L.length:=(List.getElem?_eq_some_iff.1 hr).1
 unfold Heap.read
 simp only[h1,(h2 r row hr).1,show Nat.blt r L.length=true from Nat.ble_eq_true_of_le hlt,hc]
def ldv (g:Bool)(cs:List AV):Option AV:=match g with
 | true=>some<|.agg cs
 | false=>match cs with | [v]=>some v | _=>none
theorem WR.load {g ro:Bool}{n:Nat}{x:Operand}{b r o sz:Nat}{L:List (List AV)}{row cs:List AV}{v:AV}(hx:opl l x=some (.ptr (some ⟨b,r,o⟩)))(hb:Has b (.r ro L sz) s)(hr:L[r]?=some row)(hc:bV n (cu o row)=some cs)(hv:ldv g cs=some v):WR P (.load g n x) l s v:=by
 refine⟨λ_ _ _ _ _=>rfl,λH0 e H he hH=>?_⟩
 have hg:=HO.read (hH.has hb).2 hr hc
 simp only[aval,aG he hx,hg]
 cases g with
 | true=>cases hv;rfl
 | false=>
  unfold ldv at hv
  grind
theorem Dm {row cs row':List AV}{o:Nat}(h:fK row o cs=some row'):row'.length=row.length:=by
 obtain⟨h1,h2⟩:=rz h
 grind
theorem HO.write {H H0:Heap}{s s':SH}(hH:Hp H0 s H){L:List (List AV)}{sz b r o:Nat}{row row' cs:List AV}(hr:L[r]?=some row)(hc:fK row o cs=some row')(hb:oY b (.r false L sz) (.r false (L.set r row') sz) s s') :
  ∃H',H.write ⟨b,r,o⟩ cs=some H'/\Hp H0 s' H':=by
 obtain⟨x,y,rfl,rfl⟩:=hb.split
 obtain⟨hlt,t,h1,h2⟩:=hH.ok b _<|List.mem_append_right _<|List.mem_cons_self ..
 have hl:r<L.length:=(List.getElem?_eq_some_iff.1 hr).1
 refine⟨H.put b<|.rows (t.put r row') L.length sz false,?_,hH.R0 hb (x:=some<|.rows (t.put r row') L.length sz false) ?_ rfl λc=>?_⟩
 ·unfold Heap.write
  simp only[h1,(h2 r row hr).1,show Nat.blt r L.length=true from Nat.ble_eq_true_of_le hl,hc]
 ·refine⟨t.put r row',by grind,λi w hw=>?_⟩
  rw[Tr.aR]
  rw[List.getElem?_set]at hw
  by_cases hi:r=i
  ·rw[if_pos hi]at hw |-
   rw[if_pos hl]at hw
   cases hw
   exact⟨rfl,by rw[Dm hc];grind⟩
  grind
 ·rw[Heap.aR]
theorem WS.store {n:Nat}{a x:Operand}{b r o sz:Nat}{L:List (List AV)}{row row' cs:List AV}{v:AV}{s':SH}(ha:opl l a=some (.ptr (some ⟨b,r,o⟩)))(hx:opl l x=some v)(hv:partCells n v=some cs)(hb:oY b (.r false L sz) (.r false (L.set r row') sz) s s')(hr:L[r]?=some row)(hc:fK row o cs=some row')
  (k:R .undef ds s'):WS P K (.store n a x) l ds s R:=by
 intro H0 e H he hH
 obtain⟨H',h1,h2⟩:=HO.write hH hr hc hb
 refine⟨.undef,ds,s',H',⟨0,?_⟩,h2,k⟩
 show(match aval P H (bL e) (.store n a x)with | some (v,H')=>some (OR.mk v ds H') | none=>none)=_
 simp only[aval,aG he ha,aG he hx,hv,h1]
theorem xM {cs:List AV}{n:Nat}(h:cs.length=n):(HO.r false [cs] n).ok (some (.rows (Tr.lf.put 0 cs) 1 n false)):=by
 refine⟨_,rfl,λi row hi=>?_⟩
 match i,hi with
 | 0,hi=>cases hi;exact⟨Tr.a8 _ _ _,h⟩
theorem WA.alloc {n:Nat}{cs:List AV}(hl:cs.length=n):WA (.alloc n cs) l (.r false [cs] n) (λb=>.ptr (some ⟨b,0,0⟩)):=
 ⟨λ_ _ _ _ _=>rfl,λ_ _ _=>rfl,λe he=>⟨_,rfl,xM hl⟩⟩
theorem ka {n:Nat}{v:AV}{cs:List AV}(h:partCells n v=some cs):cs.length=n:=by
 unfold partCells at h
 split at h
 ·rename_i xs
  split at h
  ·rename_i hb
   cases h
   rw[ar]at hb
   exact Nat.eq_of_beq_eq_true hb
  ·cases h
 ·cases h
 grind
theorem WA.box {n:Nat}{x:Operand}{v:AV}{cs:List AV}(hx:opl l x=some v)(hc:partCells n v=some cs):WA (.box n x) l (.r false [cs] n) (λb=>.ptr (some ⟨b,0,0⟩)):=
 ⟨λ_ _ _ _ _=>rfl,λ_ _ _=>rfl,λe he=>⟨_,by simp only[allocOf,aG he hx,hc],xM<|ka hc⟩⟩
theorem WA.mkmap:WA .mkmap l (.m []) (λb=>.map (some b)):=
 ⟨λ_ _ _ _ _=>rfl,λ_ _ _=>rfl,λe he=>⟨_,rfl,rfl⟩⟩
theorem WS.ins {lit:Bool}{kk:dC}{m q x:Operand}{b:Nat}{kv v:AV}{es es':List (AV × AV)}{s':SH}(hm:opl l m=some (.map (some b)))(hk:opl l q=some kv)(hx:opl l x=some v)(hb:oY b (.m es) (.m es') s s')(hp:putIn kk kv v es=some es')
  (k:R .undef ds s'):WS P K (.ins lit kk m q x) l ds s R:=by
 intro H0 e H he hH
 have hg:H.get b=some (.map es):=by
  obtain⟨x,y,rfl,rfl⟩:=hb.split
  exact(hH.ok b _<|List.mem_append_right _<|List.mem_cons_self ..).2
 refine⟨.undef,ds,s',H.put b<|.map es',⟨0,?_⟩,hH.R0 hb (x:=some<|.map es') rfl rfl<|λc=>Heap.aR _ _ _ _,k⟩
 show(match aval P H (bL e) (.ins lit kk m q x)with | some (v,H')=>some (OR.mk v ds H') | none=>none)=_
 simp only[aval,aG he hm,aG he hk,aG he hx,hg,hp]
noncomputable def bsrows (l:Sl)(sz:Nat):Nat->List (Nat × Operand)->Option (List (List AV))
 | _,[]=>some []
 | i,(j,x)::ps=>match Nat.beq i j with
  | true=>match opl l x with
   | some v=>match partCells sz v with
    | some cs=>match bsrows l sz (i+1) ps with | some r=>some (cs::r) | none=>none
    | none=>none
   | none=>none
  | false=>none
theorem yQ {e:Tr AV}(he:En l e){sz len:Nat}:∀(ps:List (Nat × Operand))(i:Nat)(L:List (List AV)),bsrows l sz i ps=some L->i+ps.length<=len ->
  ∃r,aI (λp:Nat × Operand=>match bL e p.2 with
    | some v=>match partCells sz v with
     | some cs=>match Nat.blt p.1 len with | true=>some (p.1,cs) | false=>none
     | none=>none
    | none=>none) ps=some r/\L.length=ps.length/\∀t:Tr (List AV),∃t',aw (λ(t:Tr (List AV))(p:Nat × List AV)=>some (t.put p.1 p.2)) r t=some t'/\∀(j:Nat)row,L[j]?=some row->t'.get (i+j)=some row/\row.length=sz:=by
 intro ps
 induction ps with
 | nil=>intro i L h _;cases h;exact⟨[],rfl,rfl,λt=>⟨t,rfl,λj row hj=>by simp at hj⟩⟩
 | cons p ps ih=>
  obtain⟨j,x⟩:=p
  intro i L h hlen
  unfold bsrows at h
  split at h
  ·rename_i hij
   have hij:i=j:=Nat.eq_of_beq_eq_true hij
   subst hij
   split at h
   ·rename_i v hv
    split at h
    ·rename_i cs hcs
     split at h
     ·rename_i r0 hr0
      cases h
      simp only[List.length_cons]at hlen
      obtain⟨r,h1,h2,h3⟩:=ih (i+1) r0 hr0<|by omega
      refine⟨(i,cs)::r,(aV _ _ _ _).2 ⟨(i,cs),r,?_,h1,rfl⟩,by simp[h2],λt=>?_⟩
      ·simp only[aG he hv,hcs,show Nat.blt i len=true from Nat.ble_eq_true_of_le<|by omega]
      ·obtain⟨t',k1,k2⟩:=h3 (t.put i cs)
       refine⟨t',(ah _ _ _ _ _).2 ⟨_,rfl,k1⟩,λq row hq=>?_⟩
       cases q with
       | zero=>
        cases hq
        refine⟨?_,ka hcs⟩
        have keep:∀(r:List (Nat × List AV))(t t':Tr (List AV)),aw (λ(t:Tr (List AV))(p:Nat × List AV)=>some<|t.put p.1 p.2) r t=some t'->(∀p∈r,i<p.1)->t'.get i=t.get i:=by
         intro r
         induction r with
         | nil=>intro t t' h _;cases h;rfl
         | cons p r ihr=>
          intro t t' h hp
          obtain⟨b,vn,zB⟩:=(ah _ _ _ _ _).1 h
          cases vn
          rw[ihr _ _ zB (λp CL=>hp p<|List.mem_cons_of_mem _ CL),Tr.aR,if_neg]
          grind
        have hgt:∀(ps:List (Nat × Operand))(k:Nat)(L:List (List AV))(r:List (Nat × List AV)),bsrows l sz k ps=some L->aI (λp:Nat × Operand=>match bL e p.2 with
          | some v=>match partCells sz v with
           | some cs=>match Nat.blt p.1 len with | true=>some (p.1,cs) | false=>none
           | none=>none
          | none=>none) ps=some r->i<k->∀p∈r,i<p.1:=by
         intro ps
         induction ps with
         | nil=>intro k L r _ hr _ p hp;cases hr;cases hp
         | cons q ps ihp=>
          obtain⟨j,x⟩:=q
          intro k L r hb hr hk p hp
          obtain⟨b,bs,g1,g2,rfl⟩:=(aV _ _ _ _).1 hr
          unfold bsrows at hb
          split at hb
          ·rename_i KH
           have KH:k=j:=Nat.eq_of_beq_eq_true KH
           split at hb
           ·split at hb
            ·split at hb
             ·rename_i r1 UR
              cases hp with
              | head=>
               grind
              | tail _ hp=>exact ihp (k+1) r1 bs UR g2 (by omega) p hp
             ·cases hb
            ·cases hb
           ·cases hb
          ·cases hb
        have:=keep r _ t' k1<|hgt ps (i+1) r0 r hr0 h1<|by omega
        rw[Nat.add_zero,this,Tr.a8]
       | succ q=>
        have:=k2 q row hq
        rw[show i+(q+1)=i+1+q by omega]
        exact this
     ·cases h
    ·cases h
   ·cases h
  ·cases h
theorem WA.bslice {sz len:Nat}{z:List AV}{parts:List (Nat × Operand)}{L:List (List AV)}(hp:bsrows l sz 0 parts=some L)(hl:parts.length=len):WA (.bslice sz len z parts) l (.r false L sz) (λb=>.slice (some ⟨b,0,0⟩) len len false sz):=by
 refine⟨λ_ _ _ _ _=>rfl,λ_ _ _=>rfl,λe he=>?_⟩
 obtain⟨r,h1,h2,h3⟩:=yQ he (len:=len) parts 0 L hp<|by omega
 obtain⟨t0,UX⟩:=em<|ep len z
 obtain⟨t',k1,k2⟩:=h3 t0
 have IH:L.length=len:=by omega
 refine⟨.rows t' len sz false,(congrArg (λr=>match r with
  | some l=>(match rowsOf (ep len z) with
   | some t=>(match aw (λ(t:Tr (List AV))(p:Nat × List AV)=>some<|t.put p.1 p.2) l t with
    | some t'=>some (bv.rows t' len sz false,λb=>AV.slice (some ⟨b,0,0⟩) len len false sz)
    | none=>none)
   | none=>none)
  | none=>none) h1).trans (by grind),t',by rw[IH],λi row hi=>by grind⟩
end
end Go.Ev
namespace Go.Ev
section
variable {P:Program}{K:Orc}{rd:Option Nat}{nt:Nat}{l:Sl}{ds:List cD}{s:SH}{Q Qn Qr:Po}{Qe:Nat->Po}{R:AV->List cD->SH->Prop}
noncomputable def gstp (H:Heap)(p:Pl)(rw sz:Nat)(i:Nat)(acc:List (List AV)):Option (List (List AV)):=match elemAt p rw sz i with
  | some q=>match H.read q sz with
   | some c=>some<|c::acc
   | none=>none
  | none=>none
theorem gather_def' (H:Heap)(p:Pl)(rw sz n:Nat):H.gather p rw sz n=match eh (gstp H p rw sz) n 0 []with | some l=>some l.reverse | none=>none:=rfl
noncomputable def sstp (p:Pl)(rw sz:Nat)(s:Heap × Nat)(row:List AV):Option (Heap × Nat):=match elemAt p rw sz s.2 with
  | some q=>match s.1.write q row with
   | some H'=>some (H',Nat.succ s.2)
   | none=>none
  | none=>none
theorem r6 (H:Heap)(p:Pl)(rw sz i:Nat)(l:List (List AV)):H.scatter p rw sz i l=match aw (sstp p rw sz) l (H,i)with | some s=>some s.1 | none=>none:=rfl
theorem pL {H:Heap}{ro:Bool}{L:List (List AV)}{sz b r n:Nat}(h:(HO.r ro L sz).ok (H.get b))(hs:sz≠0)(hn:r+n<=L.length):H.gather ⟨b,r,0⟩ sz sz n=some ((L.drop r).take n):=by
 have key:∀(n i:Nat)(acc:List (List AV)),r+i+n<=L.length->eh (gstp H ⟨b,r,0⟩ sz sz) n i acc=some (((L.drop<|r+i).take n).reverse++acc):=by
  intro n
  induction n with
  | zero=>intro i acc _;rw[kE];simp
  | succ n ih=>
   intro i acc hi
   have hlt:r+i<L.length:=by omega
   have hrow:L[r+i]?=some L[r+i]:=List.getElem?_eq_getElem hlt
   have hlen:(L[r+i]).length=sz:=by
    obtain⟨t,h1,h2⟩:=h
    grind
   have tk:H.read ⟨b,r+i,0⟩ sz=some L[r+i]:=by
    refine HO.read h hrow ?_
    show bV sz L[r+i]=_
    rw[cK _ _ (by omega),<- hlen,List.take_length]
   have IU:elemAt ⟨b,r,0⟩ sz sz i=some ⟨b,r+i,0⟩:=by
    unfold elemAt
    simp_all
   rw[cZ]
   refine⟨L[r+i]::acc,by unfold gstp;grind,?_⟩
   rw[ih (i+1) _ (by omega),show r+(i+1)=r+i+1 by omega]
   rw[List.drop_eq_getElem_cons hlt,List.take_succ_cons,List.reverse_cons,List.append_assoc]
   rfl
 rw[gather_def']
 grind
theorem nZ {H0:Heap}{sz b:Nat}(hs:sz≠0):∀(N:List (List AV))(H:Heap)(s s':SH)(L:List (List AV))(r i:Nat),Hp H0 s H->(∀row∈N,row.length=sz)->r+i+N.length<=L.length ->
  oY b (.r false L sz) (.r false (L.take (r+i)++(N++L.drop (r+i+N.length))) sz) s s'->∃H',H.scatter ⟨b,r,0⟩ sz sz i N=some H'/\Hp H0 s' H':=by
 have key:∀(N:List (List AV))(H:Heap)(s s':SH)(L:List (List AV))(r i:Nat),Hp H0 s H->(∀row∈N,row.length=sz)->r+i+N.length<=L.length ->
  oY b (.r false L sz) (.r false (L.take (r+i)++(N++L.drop (r+i+N.length))) sz) s s'->∃H' j,aw (sstp ⟨b,r,0⟩ sz sz) N (H,i)=some (H',j)/\Hp H0 s' H':=by
  intro N
  induction N with
  | nil=>
   intro H s s' L r i hH _ hle hu
   refine⟨H,i,rfl,?_⟩
   simp only[List.nil_append,List.length_nil,Nat.add_zero,List.take_append_drop]at hu
   obtain⟨x,y,rfl,rfl⟩:=hu.split
   exact hH
  | cons row N ih=>
   intro H s s' L r i hH hlen hle hu
   simp only[List.length_cons]at hle
   have hlt:r+i<L.length:=by omega
   have hrow:L[r+i]?=some L[r+i]:=List.getElem?_eq_getElem hlt
   have hl:(L[r+i]).length=sz:=by
    obtain⟨x,y,rfl,rfl⟩:=hu.split
    obtain⟨_,t,_,h2⟩:=hH.ok b _<|List.mem_append_right _<|List.mem_cons_self ..
    grind
   have hr:row.length=sz:=hlen row<|List.mem_cons_self ..
   have hput:fK L[r+i] 0 row=some row:=by
    unfold fK
    have h1:bV 0 L[r+i]=some []:=rfl
    have h2:bV (aK row) (cu 0 L[r+i])=some L[r+i]:=by
     show bV (aK row) L[r+i]=_
     rw[ar,cK _ _<|by omega,hr,<- hl,List.take_length]
    simp only[h1,h2]
    have h3:cu (aK row) (cu 0 L[r+i])=[]:=by
     show cu (aK row) L[r+i]=[]
     rw[cw,ar,List.drop_eq_nil_of_le<|by omega]
    rw[h3,aN,aN]
    simp
   obtain⟨x,y,rfl,rfl⟩:=hu.split
   have hmid:∀M:List (List AV),oY b (.r false L sz) (.r false M sz) (x++(b,.r false L sz)::y) (x++(b,.r false M sz)::y):=λM=>.app .here
   obtain⟨H1,w1,w2⟩:=HO.write hH (o:=0) hrow hput<|hmid _
   have d8:∀T,L.set (r+i) row=T->True:=λ_ _=>trivial
   obtain⟨H',j,k1,k2⟩:=ih H1 _ (x++(b,.r false (L.take (r+i)++(row::N++L.drop (r+i+(row::N).length))) sz)::y) (L.set (r+i) row) r (i+1) w2 (λw hw=>hlen w<|List.mem_cons_of_mem _ hw) (by grind) (by
    have:(L.set (r+i) row).take (r+(i+1))++(N++(L.set (r+i) row).drop (r+(i+1)+N.length))=L.take (r+i)++(row::N++L.drop (r+i+(row::N).length)):=by
     rw[show r+(i+1)=r+i+1 by omega,List.length_cons,show r+i+(N.length+1)=r+i+1+N.length by omega]
     rw[List.drop_set_of_lt (by omega)]
     rw[List.take_add_one,List.take_set_of_le<|by omega,List.getElem?_set_self hlt]
     simp
    rw[this]
    exact .app .here)
   refine⟨H',j,?_,k2⟩
   rw[ah]
   refine⟨(H1,i+1),?_,k1⟩
   have IU:elemAt ⟨b,r,0⟩ sz sz i=some ⟨b,r+i,0⟩:=by
    unfold elemAt
    cases sz with
    | zero=>grind
    | succ q=>simp only[dn];rfl
   unfold sstp
   grind
 intro N H s s' L r i hH hlen hle hu
 obtain⟨H',j,h1,h2⟩:=key N H s s' L r i hH hlen hle hu
 refine⟨H',?_,h2⟩
 rw[r6]
 simp only[h1]
inductive Src (s:SH)(sz:Nat):AV->List (List AV)->Prop
 | nil {c:Nat} {sl:Bool} {rw:Nat}:Src s sz (.slice none 0 c sl rw) []
 | zero {a:Option Pl} {c:Nat} {sl:Bool} {rw:Nat}:Src s sz (.slice a 0 c sl rw) []
 | emp:Src s sz .empty []
 | rows {b r n c:Nat} {sl ro:Bool} {L:List (List AV)} (hb:Has b (.r ro L sz) s) (hn:r+n<=L.length):Src s sz (.slice (some ⟨b,r,0⟩) n c sl sz) ((L.drop r).take n)
theorem Src.all {b c:Nat}{sl ro:Bool}{L:List (List AV)}{sz:Nat}(hb:Has b (.r ro L sz) s):Src s sz (.slice (some ⟨b,0,0⟩) L.length c sl sz) L:=by
 have:=Src.rows (r:=0) (n:=L.length) (c:=c) (sl:=sl) hb<|by omega
 grind
theorem Src.len {sz:Nat}{v:AV}{N:List (List AV)}{H0 H:Heap}(h:Src s sz v N)(hH:Hp H0 s H):∀row∈N,row.length=sz:=by
 cases h with
 | rows hb hn=>
  intro row hr
  obtain⟨_,t,_,h2⟩:=hH.has hb
  have:=List.mem_of_mem_drop<|List.mem_of_mem_take hr
  obtain⟨i,hi⟩:=List.getElem?_of_mem this
  grind
 | _=>grind
noncomputable def yq (H:Heap)(sz:Nat):AV->Option (List (List AV))
 | .slice none n _ _ _=>(match n with | 0=>some [] | _=>none)
 | .slice (some p) n _ _ rw=>H.gather p rw sz n
 | .empty=>some []
 | _=>none
theorem Src.has {sz:Nat}{v:AV}{N:List (List AV)}{H0 H:Heap}(h:Src s sz v N)(hs:sz≠0)(hH:Hp H0 s H):yq H sz v=some N:=by
 cases h with
 | nil=>rfl
 | zero=>rename_i a c sl rw;cases a<;>rfl
 | emp=>rfl
 | rows hb hn=>exact pL (hH.has hb).2 hs hn
theorem List.fR {α:Type}{a b:List α}{n:Nat}(_:True):(a++b).drop (a.length+n)=b.drop n:=by
 rw[<- List.drop_drop,List.drop_left]
theorem append_eq {H:Heap}{sz bytes:Nat}{ss x:Operand}{ρ:Operand->Option AV}{sv xv:AV}{N:List (List AV)}(h1:ρ ss=some sv)(h2:ρ x=some xv)(h3:yq H sz xv=some N):aval P H ρ (.append sz bytes ss x)=appendV H sz bytes sv N:=by
 simp only[aval,h1,h2]
 cases xv with
 | slice a n c sl rw=>
  cases a with
  | none=>
   cases n with
   | zero=>cases h3;rfl
   | succ n=>cases h3
  | some p=>
   have h3:H.gather p rw sz n=some N:=h3
   simp only[h3]
 | empty=>cases h3;rfl
 | _=>cases h3
inductive gz (s:SH)(sz:Nat):AV->List (List AV)->Prop
 | nil {rw:Nat}:gz s sz (.slice none 0 0 false rw) []
 | zero {p:Pl} {rw:Nat}:gz s sz (.slice (some p) 0 0 false rw) []
 | rows {b n c:Nat} {L R:List (List AV)} (hb:Has b (.r false (L++R) sz) s) (hn:n=L.length) (hc:c=L.length+R.length) (hL:L++R≠[]):gz s sz (.slice (some ⟨b,0,0⟩) n c true sz) L
theorem gz.src {sz:Nat}{v:AV}{L:List (List AV)}(h:gz s sz v L):Src s sz v L:=by
 cases h with
 | nil=>exact .nil
 | zero=>exact .zero
 | @rows b n c L R hb hn hc hL=>
  have:=Src.rows (r:=0) (n:=L.length) (c:=c) (sl:=true) hb<|by grind
  grind
theorem Src.lenOf {sz:Nat}{v:AV}{L:List (List AV)}(h:Src s sz v L):lenOf v=some L.length:=by
 cases h with
 | rows hb hn=>rw[List.length_take,List.length_drop,Nat.min_eq_left<|by omega];rfl
 | _=>rfl
theorem Has.mono {b:Nat}{o:HO}{s s':SH}(h:Has b o s)(hs:∀p,p∈s->p∈s'):Has b o s':=.d5 (hs _ h.mem)
theorem Src.mono {sz:Nat}{v:AV}{L:List (List AV)}{s':SH}(h:Src s sz v L)(hs:∀p,p∈s->p∈s'):Src s' sz v L:=by
 cases h with
 | nil=>exact .nil
 | zero=>exact .zero
 | emp=>exact .emp
 | rows hb hn=>exact .rows (hb.mono hs) hn
theorem xz {need bytes:Nat}(h1:need<=901000)(h2:bytes<=100000):fits need bytes=true:=by
 unfold fits
 have a:(2*need+2000)*bytes<=1804000*100000:=Nat.mul_le_mul (by omega) h2
 rw[kW.2 (by omega),kW.2<|by omega]
 rfl
theorem oh {L:List (List AV)}{t:Tr (List AV)}{sz:Nat}(h:∀i:Nat,t.get i=L[i]?)(hl:∀row∈L,row.length=sz):(HO.r false L sz).ok (some (.rows t L.length sz false)):=
 ⟨t,rfl,λi row hi=>⟨by grind,hl row<|List.mem_of_getElem? hi⟩⟩
theorem WS.append_none {sz bytes:Nat}{ss x:Operand}{a:Option Pl}{n c:Nat}{sl:Bool}{rw:Nat}{xv:AV}(hs:opl l ss=some (.slice a n c sl rw))(hx:opl l x=some xv)(hN:Src s sz xv [])(hz:sz≠0)(hc:n<=c)(k:R (.slice a n c sl rw) ds s) :
  WS P K (.append sz bytes ss x) l ds s R:=by
 refineλH0 e H he hH=>⟨.slice a n c sl rw,ds,s,H,⟨0,?_⟩,hH,k⟩
 show(match aval P H (bL e) (.append sz bytes ss x)with | some (v,H')=>some (OR.mk v ds H') | none=>none)=_
 rw[append_eq (aG he hs) (aG he hx) (hN.has hz hH)]
 unfold appendV
 simp only[aL]
 rw[show Nat.ble (Nat.add n<|aK ([]:List (List AV))) c=true from Nat.ble_eq_true_of_le hc]
 rfl
theorem WS.append_nil {sz bytes:Nat}{ss x:Operand}{c:Nat}{rw:Nat}{xv:AV}{N:List (List AV)}(hs:opl l ss=some (.slice none 0 0 false rw))(hx:opl l x=some xv)(hN:Src s sz xv N)(hz:sz≠0)(hne:N≠[])(h1:N.length<=901000)(h2:bytes<=100000)
  (k:∀b,R (.slice (some ⟨b,0,0⟩) N.length N.length true sz) ds<|(b,.r false N sz)::s):WS P K (.append sz bytes ss x) l ds s R:=by
 intro H0 e H he hH
 obtain⟨t,ht⟩:=em N
 refine⟨.slice (some ⟨H.next,0,0⟩) N.length N.length true sz,ds,_,_,⟨0,?_⟩,hH.alloc (o:=.rows t N.length sz false)<|oh (cB ht)<|hN.len hH,k _⟩
 show(match aval P H (bL e) (.append sz bytes ss x)with | some (v,H')=>some (OR.mk v ds H') | none=>none)=_
 rw[append_eq (aG he hs) (aG he hx) (hN.has hz hH)]
 have hl:N.length≠0:=by
  grind
 unfold appendV
 simp only[aL,ar]
 rw[show Nat.add 0 N.length=N.length from Nat.zero_add _]
 have:Nat.ble N.length 0=false:=by rw[nO];omega
 simp only[this,ht]
 unfold grown
 rw[xz h1 h2]
 rfl
theorem WS.uM {sz bytes:Nat}{ss x:Operand}{b r n c:Nat}{ro:Bool}{xv:AV}{L N:List (List AV)}(hs:opl l ss=some (.slice (some ⟨b,r,0⟩) n c false sz))(hb:Has b (.r ro L sz) s)(hr:r+n<=L.length)(hx:opl l x=some xv)(hN:Src s sz xv N)(hz:sz≠0)(hc:c<n+N.length)(h1:n+N.length<=901000)(h2:bytes<=100000)
  (k:∀b',R (.slice (some ⟨b',0,0⟩) (n+N.length) (n+N.length) true sz) ds<|(b',.r false ((L.drop r).take n++N) sz)::s):WS P K (.append sz bytes ss x) l ds s R:=by
 intro H0 e H he hH
 obtain⟨t,ht⟩:=em<|(L.drop r).take n++N
 have hlen:((L.drop r).take n++N).length=n+N.length:=by
  grind
 refine⟨.slice (some ⟨H.next,0,0⟩) (n+N.length) (n+N.length) true sz,ds,_,_,⟨0,?_⟩,hH.alloc (o:=.rows t (n+N.length) sz false) ?_,k _⟩
 ·show(match aval P H (bL e) (.append sz bytes ss x)with | some (v,H')=>some (OR.mk v ds H') | none=>none)=_
  rw[append_eq (aG he hs) (aG he hx) (hN.has hz hH)]
  unfold appendV
  simp only[aL,ar]
  rw[show Nat.add n N.length=n+N.length from rfl]
  have:Nat.ble (n+N.length) c=false:=by rw[nO];omega
  simp only[this,pL (hH.has hb).2 hz hr,aN,ht]
  unfold grown
  rw[xz h1 h2]
  rfl
 ·rw[<- hlen]
  refine oh (cB ht) λrow hrow=>?_
  rcases List.mem_append.1 hrow with h|h
  ·exact(Src.rows (c:=c) (sl:=false) hb hr).len hH row h
  ·exact hN.len hH row h
theorem WS.uN {sz bytes:Nat}{ss x:Operand}{b n:Nat}{xv:AV}{L N:List (List AV)}{s':SH}(hs:opl l ss=some (.slice (some ⟨b,0,0⟩) n n true sz))(hn:n=L.length)(hb:oY b (.r false L sz) .bK s s')(hx:opl l x=some xv)(hN:Src s sz xv N)(hz:sz≠0)(hne:N≠[])(h1:n+N.length<=901000)(h2:bytes<=100000)
  (k:∀b',R (.slice (some ⟨b',0,0⟩) (n+N.length) (n+N.length) true sz) ds<|(b',.r false (L++N) sz)::s'):WS P K (.append sz bytes ss x) l ds s R:=by
 intro H0 e H he hH
 subst hn
 have hh:(HO.r false L sz).ok (H.get b):=by
  obtain⟨x,y,rfl,rfl⟩:=hb.split
  exact(hH.ok b _<|List.mem_append_right _<|List.mem_cons_self ..).2
 obtain⟨t,t1,t2⟩:=hh
 have hl:N.length≠0:=λh=>hne<|List.eq_nil_of_length_eq_zero h
 obtain⟨st,p1,p2,p3⟩:∃st:Tr (List AV) × Nat,aw (λ(s:Tr (List AV) × Nat)row=>some (s.1.put s.2 row,Nat.succ s.2)) N (t,L.length)=some st/\(∀i,i<L.length->st.1.get i=t.get i)/\∀(i:Nat)row,N[i]?=some row->st.1.get (L.length+i)=some row:=by
  have key:∀(N:List (List AV))(t:Tr (List AV))(n:Nat),∃st:Tr (List AV) × Nat,aw (λ(s:Tr (List AV) × Nat)row=>some (s.1.put s.2 row,Nat.succ s.2)) N (t,n)=some st/\(∀i,i<n->st.1.get i=t.get i)/\∀(i:Nat)row,N[i]?=some row->st.1.get (n+i)=some row:=by
   intro N
   induction N with
   | nil=>intro t n;exact⟨(t,n),rfl,λ_ _=>rfl,λi row h=>by simp at h⟩
   | cons w N ih=>
    intro t n
    obtain⟨st,q1,q2,q3⟩:=ih (t.put n w)<|n+1
    refine⟨st,(ah _ _ _ _ _).2 ⟨_,rfl,q1⟩,λi hi=>?_,λi row h=>?_⟩
    ·rw[q2 i (by omega),Tr.bi _ _<|by omega]
    ·cases i with
     | zero=>cases h;rw[Nat.add_zero,q2 n<|by omega,Tr.a8]
     | succ i=>grind
  exact key N t L.length
 have qZ:Hp H0 s' (H.del b):=hH.R0 hb (x:=none) trivial rfl<|λc=>Heap.gb _ _ _
 refine⟨.slice (some ⟨H.next,0,0⟩) (L.length+N.length) (L.length+N.length) true sz,ds,_,_,⟨0,?_⟩,qZ.alloc (o:=.rows st.1 (L.length+N.length) sz false) ?_,k _⟩
 ·show(match aval P H (bL e) (.append sz bytes ss x)with | some (v,H')=>some (OR.mk v ds H') | none=>none)=_
  rw[append_eq (aG he hs) (aG he hx) (hN.has hz hH)]
  unfold appendV
  simp only[aL,ar]
  rw[show Nat.add L.length N.length=L.length+N.length from rfl]
  have:Nat.ble (L.length+N.length) L.length=false:=by rw[nO];omega
  simp only[this,t1]
  have c:(Nat.beq sz sz&&Nat.beq sz sz&&Nat.beq 0 0&&Nat.beq (Nat.add 0 L.length) L.length&&Nat.beq L.length L.length)=true:=by
   simp_all
  rw[c]
  simp only[p1]
  unfold grown
  rw[xz h1 h2]
  rfl
 ·rw[<- List.length_append]
  refine⟨st.1,rfl,λi row hi=>?_⟩
  by_cases h:i<L.length
  ·grind
  ·rw[List.getElem?_append_right (by omega)]at hi
   refine⟨?_,hN.len hH row<|List.mem_of_getElem? hi⟩
   grind
theorem WS.aaU {sz bytes:Nat}{ss x:Operand}{b n c:Nat}{xv:AV}{L T N:List (List AV)}{s':SH}(hs:opl l ss=some (.slice (some ⟨b,0,0⟩) n c true sz))(hn:n=L.length)(hc:c=L.length+T.length)(hb:oY b (.r false (L++T) sz) (.r false (L++(N++T.drop N.length)) sz) s s')(hx:opl l x=some xv)(hN:Src s sz xv N)(hz:sz≠0)(hne:N≠[])(hr:N.length<=T.length)
  (k:R (.slice (some ⟨b,0,0⟩) (n+N.length) c true sz) ds s'):WS P K (.append sz bytes ss x) l ds s R:=by
 intro H0 e H he hH
 subst hn
 obtain⟨H',h1,h2⟩:=nZ hz N H s s' (L++T) 0 L.length hH (hN.len hH) (by grind) (by
  rw[Nat.zero_add,List.take_left,List.fR trivial]
  exact hb)
 refine⟨.slice (some ⟨b,0,0⟩) (L.length+N.length) c true sz,ds,s',H',⟨0,?_⟩,h2,k⟩
 show(match aval P H (bL e) (.append sz bytes ss x)with | some (v,H')=>some (OR.mk v ds H') | none=>none)=_
 rw[append_eq (aG he hs) (aG he hx) (hN.has hz hH)]
 have hl:N.length≠0:=λh=>hne<|List.eq_nil_of_length_eq_zero h
 unfold appendV
 simp only[aL,ar]
 have:Nat.ble (L.length+N.length) c=true:=by rw[kW];omega
 grind
theorem WS.call {fo:Operand}{args:List Operand}{fv:AV}{vs:List AV}{R':AV->SH->Prop}(hf:opl l fo=some fv)(ha:aI (opl l) args=some vs)(ht:c6 P K fv vs s R')(k:∀v s',R' v s'->R v ds s'):WS P K (.call fo args) l ds s R:=by
 intro H0 e H he hH
 obtain⟨v,s',H',h1,h2,h3⟩:=ht H0 H hH
 exact⟨v,ds,s',H',qu.call (aG he hf) (lG he ha) h1,h2,k v s' h3⟩
theorem WS.callF {fo:Operand}{args:List Operand}{f:FuncId}{first cap:List AV}{vs:List AV}{R':AV->SH->Prop}(hf:opl l fo=some (.func f first cap))(ha:aI (opl l) args=some vs)(ht:bB P K f (first++(vs++cap)) s R')(k:∀v s',R' v s'->R v ds s'):WS P K (.call fo args) l ds s R:=
 WS.call hf ha (c6.func ht) k
theorem WS.cl {fo:Operand}{args:List Operand}{f:FuncId}{vs:List AV}{R':AV->SH->Prop}{R:AV->List cD->SH->Prop}(ht:bB P K f vs s R')(k:∀v s',R' v s'->R v ds s')(hf:opl l fo=some (.func f [] []):=by rfl)(ha:aI (opl l) args=some vs:=by rfl):WS P K (.call fo args) l ds s R:=
 WS.callF (first:=[]) (cap:=[]) hf ha (by grind) k
theorem WS.invoke {ro:Operand}{name:String}{args:List Operand}{t:TypeId}{rv:AV}{f:FuncId}{vs:List AV}{R':AV->SH->Prop}(hr:opl l ro=some (.iface t rv))(hm:meth P t name=some f)(ha:aI (opl l) args=some vs)(ht:bB P K f (rv::vs) s R')(k:∀v s',R' v s'->R v ds s'):WS P K (.invoke ro name args) l ds s R:=by
 intro H0 e H he hH
 obtain⟨v,s',H',⟨n,h1⟩,h2,h3⟩:=ht H0 H hH
 refine⟨v,ds,s',H',⟨n,?_⟩,h2,k v s' h3⟩
 simp only[oper,aG he hr,hm,lG he ha,h1]
def sl0:Nat->List AV->Sl
 | _,[]=>[]
 | i,a::as=>(i,a)::sl0 (i+1) as
theorem yp:∀(as:List AV)(i j:Nat)(v:AV),lk (sl0 i as) j=some v->i<=j/\as[j-i]?=some v:=by
 intro as
 induction as with
 | nil=>intro i j v h;cases h
 | cons a as ih=>
  intro i j v h
  unfold sl0 at h
  rw[lu]at h
  by_cases hij:i=j
  ·simp_all
  grind
theorem mG (nt:Nat)(args:List AV):∃e0,argsEnv nt args=some e0/\∀(i:Nat)v,args[i]?=some v->e0.get i=some v:=by
 have key:∀(args:List AV)(t:Tr AV)(n:Nat),∃st:Tr AV × Nat,aw (λ(s:Tr AV × Nat)(v:AV)=>some (s.1.put s.2 v,Nat.succ s.2)) args (t,n)=some st/\(∀i,i<n->st.1.get i=t.get i)/\∀(i:Nat)v,args[i]?=some v->st.1.get (n+i)=some v:=by
  intro args
  induction args with
  | nil=>intro t n;exact⟨(t,n),rfl,λ_ _=>rfl,λi v h=>by simp at h⟩
  | cons w N ih=>
   intro t n
   obtain⟨st,q1,q2,q3⟩:=ih (t.put n w)<|n+1
   refine⟨st,(ah _ _ _ _ _).2 ⟨_,rfl,q1⟩,λi hi=>?_,λi v h=>?_⟩
   ·rw[q2 i (by omega),Tr.bi _ _<|by omega]
   ·cases i with
    | zero=>cases h;rw[Nat.add_zero,q2 n<|by omega,Tr.a8]
    | succ i=>grind
 obtain⟨st,h1,h2,h3⟩:=key args (my nt) 0
 refine⟨st.1,?_,λi v h=>by grind⟩
 unfold argsEnv
 simp only[h1]
inductive Rs (P:Program)(l:Sl)(s:SH):List ResultVar->List AV->Prop
 | nil:Rs P l s [] []
 | tmp {t:Nat} {v:AV} {rs:List ResultVar} {vs:List AV} (h:lk l t=some v) (k:Rs P l s rs vs):Rs P l s (.tmp t::rs) (v::vs)
 | cell {a:Nat} {t:TypeId} {rs:List ResultVar} {vs:List AV} {v:AV} {b r o n sz:Nat} {g ro:Bool} {L:List (List AV)} {row cs:List AV} (hp:lk l a=some (.ptr<|some ⟨b,r,o⟩)) (hg:isAggT P t=some g) (hn:size? P t=some n) (h1:g=true\/n=1)
   (hb:Has b (.r ro L sz) s) (hr:L[r]?=some row) (hc:bV n (cu o row)=some cs) (hv:ldv g cs=some v) (k:Rs P l s rs vs):Rs P l s (.cell a t::rs) (v::vs)
@[reducible] def tupV (vs:List AV):AV:=match vs with
 | [v]=>v
 | vs=>.tuple vs
theorem Rs.ok {e:Tr AV}{H0 H:Heap}(he:En l e)(hH:Hp H0 s H){rs:List ResultVar}{vs:List AV}(h:Rs P l s rs vs):aI (resultOf P e H) rs=some vs:=by
 induction h with
 | nil=>rfl
 | tmp h _ ih=>exact(aV _ _ _ _).2 ⟨_,_,he _ _ h,ih,rfl⟩
 | @cell a t rs vs v b r o n sz g ro L row cs hp hg hn h1 hb hr hc hv _ ih=>
  refine(aV _ _ _ _).2 ⟨v,vs,?_,ih,rfl⟩
  have hrd:=HO.read (hH.has hb).2 hr hc
  unfold resultOf
  simp only[he a _ hp,hg,hn]
  cases g with
  | true=>simp only[hrd];unfold ldv at hv;exact hv
  | false=>
   rcases h1 with h1|h1
   ·cases h1
   ·unfold ldv at hv
    grind
def Fin (P:Program)(rs:List ResultVar)(R:AV->SH->Prop):Po:=λl ds s=>ds=[]/\∃vs,Rs P l s rs vs/\R (tupV vs) s
theorem Fin.mk {rs:List ResultVar}{R:AV->SH->Prop}{vs:List AV}(hr:Rs P l s rs vs)(h:R (tupV vs) s):Fin P rs R l [] s:=⟨rfl,vs,hr,h⟩
theorem bB.enter {f:FuncId}{fn:Func}{ac:AC}{args:List AV}{R:AV->SH->Prop}{n:Nat}{rs:List ResultVar}(hK:∀H,K f args H=none)(hf:P.funcs[f]?=some fn)(hc:fn.body.map (cc P fn.ntmps)=some ac)(hnt:fn.ntmps=n)(V5:fn.results.toList=rs)
  (hn:(Nat.ble (aK args) fn.ntmps && !(fn.name == "runtime.NumGoroutine"))=true) (h:WP P K none n ac (sl0 0 args) [] s (Fin P rs R) (λ_ _ _ _=>False) (Fin P rs R)):bB P K f args s R:=by
 subst hnt V5
 intro H0 H hH
 obtain⟨c,hb,hc⟩:∃c,fn.body=some c/\cc P fn.ntmps c=ac:=by
  simp_all
 obtain⟨e0,h0,h1⟩:=mG fn.ntmps args
 have he:En (sl0 0 args) e0:=λi v hi=>by
  obtain⟨_,h2⟩:=yp args 0 i v hi
  grind
 obtain⟨x,e',ds',H',l',s',k1,k2,k3,k4⟩:=h c hc H0 e0 H he hH
 have key:∀x,(x=.ret\/x=.normal)->bt P K none fn.ntmps c e0 [] H (.mk x e' ds' H')->Fin P fn.results.toList R l' ds' s'->∃v s' H',CallsTo P K f args H v H'/\Hp H0 s' H'/\R v s':=by
  rintro x hx k1 ⟨rfl,vs,k5,k6⟩
  refine⟨tupV vs,s',H',CallsTo.enter (hK H) hf hb hn h0 k1 hx ?_,k3,k6⟩
  rw[k5.ok k2 k3]
  grind
 grind
theorem bB.known {f:FuncId}{args:List AV}{v:AV}(h:∀H,K f args H=some (v,H)){R:AV->SH->Prop}(hr:R v s):bB P K f args s R:=
 λH0 H hH=>⟨v,s,H,CallsTo.known<|h H,hH,hr⟩
theorem gz.mono {sz:Nat}{v:AV}{L:List (List AV)}{s':SH}(h:gz s sz v L)(hs:∀p,p∈s->p∈s'):gz s' sz v L:=by
 cases h with
 | nil=>exact .nil
 | zero=>exact .zero
 | rows hb hn hc hL=>exact .rows (hb.mono hs) hn hc hL
end
end Go.Ev
namespace Go.Ev
section
variable {P:Program}{K:Orc}{rd:Option Nat}{nt:Nat}{l:Sl}{ds:List cD}{s:SH}{Q Qn Qr:Po}{Qe:Nat->Po}
structure PD where
 i:Nat
 b:Nat
 ho:HO
def HO.Zk:HO->Bool
 | .r _ _ _=>true
 | _=>false
def uG:List PD->List aF->Prop
 | [],[]=>True
 | q::qs,p::ps=>(p.i=q.i/\p.id=q.b/\(q.ho.Zk=true->p.ins=0/\p.o.a9=true)/\q.ho.ok (some p.o))/\uG qs ps
 | _,_=>False
inductive Gi (a:Nat):List PD->List PD->List PD->SH->SH->Prop
 | nil {acc:List PD} {s:SH}:Gi a [] acc acc s s
 | no {q:PD} {qs acc r:List PD} {s s':SH}:bit a q.i=false->Gi a qs (q::acc) r s s'->Gi a (q::qs) acc r s s'
 | yes {q:PD} {qs acc r:List PD} {s s1 s':SH}:bit a q.i=true->q.ho.Zk=true->oY q.b .gone q.ho s s1->Gi a qs acc r s1 s'->Gi a (q::qs) acc r s s'
inductive Bk:List PD->SH->SH->Prop
 | nil {s:SH}:Bk [] s s
 | cons {q:PD} {qs:List PD} {s s1 s':SH}:oY q.b .gone q.ho s s1->Bk qs s1 s'->Bk (q::qs) s s'
theorem Hp.put {H0 H:Heap}{s s':SH}(h:Hp H0 s H){b:Nat}{o' ho:HO}{o:bv}(hu:oY b o' ho s s')(ho':ho.ok (some o)):Hp H0 s' (H.put b o):=
 h.R0 hu (x:=some o) ho' rfl (λc=>Heap.aR _ _ _ _)
theorem lay_settle {H0:Heap}{a n:Nat}{qs acc r:List PD}{s s':SH}(h:Gi a qs acc r s s'):∀{ps pa:List aF}{mats:List (aF × Nat)}{H:Heap},uG qs ps->uG acc pa->Hp H0 s H ->
  ∃pr gM H',aw (λ(s:List aF × List (aF × Nat) × Heap)(p:aF)=>match bit a p.i with
  | false=>some (p::s.1,s.2.1,s.2.2)
  | true=>match Nat.beq (Nat.land p.ins a) p.ins with
   | true=>some (s.1,(p,n)::s.2.1,s.2.2.put p.id p.o)
   | false=>none) ps (pa,mats,H)=some (pr,gM,H')/\uG r pr/\Hp H0 s' H':=by
 induction h with
 | nil=>
  intro ps pa mats H h1 h2 h3
  cases ps with
  | nil=>exact⟨_,_,_,rfl,h2,h3⟩
  | cons p ps=>exact h1.elim
 | @no q qs acc r s s' hb _ ih=>
  intro ps pa mats H h1 h2 h3
  cases ps with
  | nil=>exact h1.elim
  | cons p ps=>
   obtain⟨⟨k1,k2,Qj,k5⟩,h1⟩:=h1
   obtain⟨pr,gM,H',j1,j2,j3⟩:=ih (pa:=p::pa) (mats:=mats) h1 ⟨⟨k1,k2,Qj,k5⟩,h2⟩ h3
   refine⟨pr,gM,H',(ah _ _ _ _ _).2 ⟨_,?_,j1⟩,j2,j3⟩
   rw[k1,hb]
 | @yes q qs acc r s s1 s' hb hr hu _ ih=>
  intro ps pa mats H h1 h2 h3
  cases ps with
  | nil=>exact h1.elim
  | cons p ps=>
   obtain⟨⟨k1,k2,Qj,k5⟩,h1⟩:=h1
   obtain⟨pr,gM,H',j1,j2,j3⟩:=ih (pa:=pa) (mats:=(p,n)::mats) h1 h2<|h3.put (b:=q.b) hu k5
   refine⟨pr,gM,H',(ah _ _ _ _ _).2 ⟨_,?_,j1⟩,j2,j3⟩
   simp_all
theorem xL {H0:Heap}{a:Nat}{qs acc r:List PD}{s s':SH}(h:Gi a qs acc r s s'):∀{ps:List aF}{H:Heap},uG qs ps->Hp H0 s H->∃H',bH a ps H=some H'/\Hp H0 s' H':=by
 induction h with
 | nil=>
  intro ps H h1 h3
  cases ps with
  | nil=>exact⟨_,rfl,h3⟩
  | cons p ps=>exact h1.elim
 | @no q qs acc r s s' hb _ ih=>
  intro ps H h1 h3
  cases ps with
  | nil=>exact h1.elim
  | cons p ps=>
   obtain⟨⟨k1,k2,Qj,k5⟩,h1⟩:=h1
   obtain⟨H',j1,j2⟩:=ih h1 h3
   refine⟨H',?_,j2⟩
   unfold bH
   refine(ah _ _ _ _ _).2 ⟨H,?_,j1⟩
   grind
 | @yes q qs acc r s s1 s' hb hr hu _ ih=>
  intro ps H h1 h3
  cases ps with
  | nil=>exact h1.elim
  | cons p ps=>
   obtain⟨⟨k1,k2,Qj,k5⟩,h1⟩:=h1
   obtain⟨H',j1,j2⟩:=ih h1<|h3.put (b:=q.b) hu k5
   refine⟨H',?_,j2⟩
   unfold bH
   refine(ah _ _ _ _ _).2 ⟨H.put q.b p.o,?_,j1⟩
   grind
theorem I9 {H0:Heap}{qs:List PD}{s s':SH}(h:Bk qs s s'):∀{ps:List aF}{H:Heap},uG qs ps->Hp H0 s H->∃H',aw (λ(H:Heap)(p:aF)=>some (H.put p.id p.o)) ps H=some H'/\Hp H0 s' H':=by
 induction h with
 | nil=>
  intro ps H h1 h3
  cases ps with
  | nil=>exact⟨_,rfl,h3⟩
  | cons p ps=>exact h1.elim
 | @cons q qs s s1 s' hu _ ih=>
  intro ps H h1 h3
  cases ps with
  | nil=>exact h1.elim
  | cons p ps=>
   obtain⟨⟨k1,k2,Qj,k5⟩,h1⟩:=h1
   obtain⟨H',j1,j2⟩:=ih h1<|h3.put (b:=q.b) hu k5
   refine⟨H',(ah _ _ _ _ _).2 ⟨H.put q.b p.o,by rw[k2],j1⟩,j2⟩
def Bs:List Nat->Nat->Prop
 | [],_=>True
 | b::bs,n=>b=n/\Bs bs (n+1)
structure OB where
 op:AOp
 l:Sl
 v:AV
 a:Nat
 lo:Nat
 hi:Nat
def Lb (P:Program)(hs:List SH)(is:List Nat)(o:OB):Prop:=
 (∀i∈is,bit o.a i=false)/\o.lo<=o.hi/\dz o.v o.v=true/\∀k,o.lo<=k->k<=o.hi->∃sk,hs.reverse[k]?=some sk/\WR P o.op o.l sk o.v
def WL:List OB->List lP->Prop
 | [],[]=>True
 | o::os,k::ks=>(En o.l k.e/\k.op=o.op/\k.aC=o.a/\k.lo=o.lo/\k.hi=o.hi/\k.v=o.v)/\WL os ks
 | _,_=>False
def R5 (H0:Heap):List SH->List Heap->Prop
 | [],[]=>True
 | s::ss,H::Hs=>Hp H0 s H/\R5 H0 ss Hs
 | _,_=>False
theorem R5.rev {H0:Heap}{hs:List SH}{Hs:List Heap}(h:R5 H0 hs Hs){k:Nat}{s:SH}(hk:hs.reverse[k]?=some s):∃H,Hs.reverse[k]?=some H/\Hp H0 s H:=by
 have key:∀(hs:List SH)(Hs:List Heap),R5 H0 hs Hs->hs.length=Hs.length/\∀(i:Nat)s,hs[i]?=some s->∃H,Hs[i]?=some H/\Hp H0 s H:=by
  intro hs
  induction hs with
  | nil=>intro Hs h;cases Hs with
   | nil=>grind
   | cons _ _=>exact h.elim
  | cons a hs ih=>
   intro Hs h
   cases Hs with
   | nil=>exact h.elim
   | cons b Hs=>
    obtain⟨h1,h2⟩:=ih Hs h.2
    refine⟨by simp[h1],λi s hi=>?_⟩
    cases i with
    | zero=>cases hi;exact⟨b,rfl,h.1⟩
    | succ i=>grind
 grind
structure WJ (H0:Heap)(j:Nat)(bs:List Nat)(pd:List PD)(hs:List SH)(os:List OB)(is:List Nat)(l:Sl)(ds:List cD)(s:SH)(S:DS):Prop where
 en:En l S.e
 ds:S.ds=ds
 hp:Hp H0 s S.H
 j:S.j=j
 bs:Bs bs S.cG
 pd:uG pd S.pend
 hs:R5 H0 (s::hs) S.Hs
 os:WL os S.aO
 pi:∀p∈S.pend,p.i∈is
 mi:∀p∈S.mats,p.1.i∈is
def WD (P:Program)(K:Orc)(rd:Option Nat)(cl:List DC)(j:Nat)(bs:List Nat)(pd:List PD)(hs:List SH)(os:List OB)(is:List Nat)(l:Sl)(ds:List cD)(s:SH)(Q:Po):Prop:=
 ∀(ops:Array Oper)(aC:Tr Nat)(l0:List qr),dcs ops.toList aC j l0=some cl->∀(H0:Heap)(S:DS),WJ H0 j bs pd hs os is l ds s S ->
  ∃n S',aw (dstep P (ev P K n) rd ops aC) l0 S=some S'/\d9 (looksOk P S'.Hs.reverse S'.pend S'.mats) S'.aO=true/\∃H' l' s',aw (λ(H:Heap)(p:aF)=>some<|H.put p.id p.o) S'.pend S'.H=some H'/\En l' S'.e/\Hp H0 s' H'/\Q l' S'.ds s'
variable {j:Nat}{bs:List Nat}{pd:List PD}{d:Option Nat}{op:AOp}{lo hi a:Nat}{rest:List DC}{v:AV}{hs:List SH}{os:List OB}{is:List Nat}
theorem wY {a:Nat}{ps:List aF}{H:Heap}(h:∀p∈ps,bit a p.i=false):bH a ps H=some H:=by
 unfold bH
 induction ps with
 | nil=>rfl
 | cons p ps ih=>
  refine(ah _ _ _ _ _).2 ⟨H,?_,ih λq hq=>h q<|List.mem_cons_of_mem _ hq⟩
  grind
theorem ut {a k:Nat}{ps:List (aF × Nat)}{H:Heap}(h:∀p∈ps,bit a p.1.i=false):bP a k ps H=some H:=by
 unfold bP
 induction ps with
 | nil=>rfl
 | cons p ps ih=>
  refine(ah _ _ _ _ _).2 ⟨H,?_,ih λq hq=>h q<|List.mem_cons_of_mem _ hq⟩
  grind
theorem lookd_ok {H0:Heap}{hs:List SH}{Hs:List Heap}{pend:List aF}{mats:List (aF × Nat)}(hH:R5 H0 hs Hs)(hp:∀p∈pend,p.i∈is)(hm:∀p∈mats,p.1.i∈is){o:OB}(ho:Lb P hs is o){k:lP}(hk:En o.l k.e/\k.op=o.op/\k.aC=o.a/\k.lo=o.lo/\k.hi=o.hi/\k.v=o.v):looksOk P Hs.reverse pend mats k=true:=by
 obtain⟨h1,hle,h2,h3⟩:=ho
 obtain⟨k1,k2,k3,k4,k5,k6⟩:=hk
 have FU:∀n i,o.lo<=i->i+n<=o.hi+1->eh (λi(u:Unit)=>match dJ Hs.reverse i with
  | some H=>match bP k.aC i mats H with
   | some H=>match bH k.aC pend H with
    | some H=>match aval P H (bL k.e) k.op with
     | some (v,_)=>match dz v k.v with | true=>some u | false=>none
     | none=>none
    | none=>none
   | none=>none
  | none=>none) n i ()=some ():=by
  intro n
  induction n with
  | zero=>intro i _ _;rfl
  | succ n ih=>
   intro i hlo hhi
   obtain⟨sk,g1,g2⟩:=h3 i hlo<|by omega
   obtain⟨H,g3,g4⟩:=hH.rev g1
   refine(cZ _ _ _ _ _).2 ⟨(),?_,ih (i+1) (by omega)<|by omega⟩
   rw[cY,g3]
   dsimp only
   rw[ut (λp CL=>by grind)]
   dsimp only
   rw[wY (λp CL=>by grind)]
   dsimp only
   rw[k2,g2.h H0 k.e H k1 g4]
   grind
 unfold looksOk
 have:=FU (Nat.succ<|Nat.sub k.hi k.lo) k.lo (by omega) (by
  grind)
 exact congrArg (λr=>match r with | some _=>true | none=>false) this
theorem WD.nil {s':SH}(hl:Bk pd s s')(h:Q l ds s')(ho:∀o∈os,Lb P (s::hs) is o):WD P K rd [] j bs pd hs os is l ds s Q:=by
 intro ops aC l0 hd H0 S hS
 cases l0 with
 | nil=>
  obtain⟨H',h1,h2⟩:=I9 hl hS.pd hS.hp
  refine⟨0,S,rfl,?_,H',l,s',h1,hS.en,h2,by rw[hS.ds];exact h⟩
  have key:∀(os:List OB)(ks:List lP),WL os ks->(∀o∈os,Lb P (s::hs) is o)->d9 (looksOk P S.Hs.reverse S.pend S.mats) ks=true:=by
   intro os
   induction os with
   | nil=>intro ks h _;cases ks with
    | nil=>rfl
    | cons _ _=>exact h.elim
   | cons o os ih=>
    intro ks h ho
    cases ks with
    | nil=>exact h.elim
    | cons k ks=>
     exact(bR _ _ _).2 ⟨lookd_ok hS.hs hS.pi hS.mi (ho o<|List.mem_cons_self ..) h.1,ih ks h.2 λo' ho'=>ho o'<|List.mem_cons_of_mem _ ho'⟩
  exact key os S.aO hS.os ho
 | cons x r=>
  exfalso
  unfold dcs at hd
  grind
theorem gF {ops:List Oper}{aC:Tr Nat}{l0:List qr}{c:DC}(h:dcs ops aC j l0=some (c::rest)):∃d0 r0,l0=d0::r0/\d0.o.dst=c.o.dst/\d0.o.op=c.o.op/\cg ops d0.o.guard=some c.o.guard/\d0.cls=c.cls/\d0.lo=c.lo/\d0.hi=c.hi/\aC.get j=some c.aC/\dcs ops aC (j+1) r0=some rest:=by
 cases l0 with
 | nil=>cases h
 | cons d0 r0=>
  unfold dcs at h
  split at h
  ·grind
  ·cases h
theorem xm {ops:List Oper}{g:Option (Nat × Bool)}(h:cg ops g=some none):g=none:=by
 cases g with
 | none=>rfl
 | some x=>
  unfold cg at h
  grind
theorem WD.step {c:DC}(hg:c.o.guard=none){l':Sl}{ds':List cD}{s':SH}{pd':List PD}{bs':List Nat}{hs':List SH}{os':List OB}{is':List Nat}
  (h:∀(ops:Array Oper)(aC:Tr Nat)(d0:qr)(H0:Heap)(S:DS),d0.o.dst=c.o.dst->d0.o.op=c.o.op->d0.o.guard=none->d0.cls=c.cls->d0.lo=c.lo->d0.hi=c.hi->aC.get j=some c.aC->WJ H0 j bs pd hs os is l ds s S ->
   ∃n S',dstep P (ev P K n) rd ops aC S d0=some S'/\WJ H0 (j+1) bs' pd' hs' os' is' l' ds' s' S')
  (k:WD P K rd rest (j+1) bs' pd' hs' os' is' l' ds' s' Q):WD P K rd (c::rest) j bs pd hs os is l ds s Q:=by
 intro ops aC l0 hd H0 S hS
 obtain⟨d0,r0,rfl,h1,h2,h3,h4,h5,h6,h7,h8⟩:=gF hd
 rw[hg]at h3
 obtain⟨n,S1,i1,i2⟩:=h ops aC d0 H0 S h1 h2 (xm h3) h4 h5 h6 h7 hS
 obtain⟨m,S',j1,j2⟩:=k ops aC r0 h8 H0 S1 i2
 refine⟨max n m,S',(ah _ _ _ _ _).2 ⟨S1,fH (eP P K<|Nat.le_max_left n m) i1,?_⟩,j2⟩
 exact eS (λ_ _ _ hf=>fH (eP P K<|Nat.le_max_right n m) hf) _ _ _ j1
theorem WD.pu (h:WR P op l s v)(k:WD P K rd rest (j+1) bs pd hs os is (pl d v l) ds s Q):WD P K rd (⟨⟨d,op,none⟩,.pure,lo,hi,a⟩::rest) j bs pd hs os is l ds s Q:=by
 refine WD.step rfl ?_ k
 intro ops aC d0 H0 S h1 h2 h3 h4 h5 h6 h7 hS
 refine⟨0,{ S with e:=Ev.putO S.e d v,j:=Nat.succ S.j },?_,⟨hS.en.putO d v,hS.ds,hS.hp,by show S.j+1=_;rw[hS.j],hS.bs,hS.pd,hS.hs,hS.os,hS.pi,hS.mi⟩⟩
 unfold dstep
 rw[h3,h4]
 simp only[wanted,h2,h.h H0 S.e S.H hS.en hS.hp,h1]
theorem WD.ld {r:List PD}{s1:SH}(hlo:Nat.beq lo hi=true)(hl:Gi a pd [] r s s1)(h:WR P op l s1 v)(k:WD P K rd rest (j+1) bs pd hs os is (pl d v l) ds s Q):WD P K rd (⟨⟨d,op,none⟩,.read,lo,hi,a⟩::rest) j bs pd hs os is l ds s Q:=by
 refine WD.step rfl ?_ k
 intro ops aC d0 H0 S h1 h2 h3 h4 h5 h6 h7 hS
 obtain⟨H1,w1,w2⟩:=xL hl hS.pd hS.hp
 refine⟨0,{ S with e:=Ev.putO S.e d v,j:=Nat.succ S.j },?_,⟨hS.en.putO d v,hS.ds,hS.hp,by show S.j+1=_;rw[hS.j],hS.bs,hS.pd,hS.hs,hS.os,hS.pi,hS.mi⟩⟩
 unfold dstep
 rw[h3,h4,hS.j]
 simp only[wanted,h7,w1,h2,h.h H0 S.e H1 hS.en w2,h5,h6,hlo,h1]
theorem WD.lk (hlo:Nat.beq lo hi=false)(hl:Gi a pd [] pd s s)(h:WR P op l s v)(k:WD P K rd rest (j+1) bs pd hs (⟨op,l,v,a,lo,hi⟩::os) is (pl d v l) ds s Q):WD P K rd (⟨⟨d,op,none⟩,.read,lo,hi,a⟩::rest) j bs pd hs os is l ds s Q:=by
 refine WD.step rfl ?_ k
 intro ops aC d0 H0 S h1 h2 h3 h4 h5 h6 h7 hS
 obtain⟨H1,w1,w2⟩:=xL hl hS.pd hS.hp
 refine⟨0,{ S with e:=Ev.putO S.e d v,j:=Nat.succ S.j,aO:=⟨S.e,op,a,lo,hi,v⟩::S.aO },?_,⟨hS.en.putO d v,hS.ds,hS.hp,by show S.j+1=_;rw[hS.j],hS.bs,hS.pd,hS.hs,⟨⟨hS.en,rfl,rfl,rfl,rfl,rfl⟩,hS.os⟩,hS.pi,hS.mi⟩⟩
 unfold dstep
 rw[h3,h4,hS.j]
 simp only[wanted,h7,w1,h2,h.h H0 S.e H1 hS.en w2,h5,h6,hlo,h1]
theorem Da {a n:Nat}:∀{ps pa pr:List aF}{mats gM:List (aF × Nat)}{H H':Heap},aw (λ(s:List aF × List (aF × Nat) × Heap)(p:aF)=>match bit a p.i with
  | false=>some (p::s.1,s.2.1,s.2.2)
  | true=>match Nat.beq (Nat.land p.ins a) p.ins with
   | true=>some (s.1,(p,n)::s.2.1,s.2.2.put p.id p.o)
   | false=>none) ps (pa,mats,H)=some (pr,gM,H')->(∀p∈ps,p.i∈is)->(∀p∈pa,p.i∈is)->(∀p∈mats,p.1.i∈is)->(∀p∈pr,p.i∈is)/\∀p∈gM,p.1.i∈is:=by
 intro ps
 induction ps with
 | nil=>intro pa pr mats gM H H' h h1 h2 h3;cases h;grind
 | cons p ps ih=>
  intro pa pr mats gM H H' h h1 h2 h3
  obtain⟨b,hb,h⟩:=(ah _ _ _ _ _).1 h
  grind
theorem WD.ch {r:List PD}{s1:SH}(hl:Gi a pd [] r s s1)(h:WS P K op l ds s1 (λv ds' s'=>WD P K rd rest (j+1) bs r (s::hs) os is (pl d v l) ds' s' Q)):WD P K rd (⟨⟨d,op,none⟩,.chain,lo,hi,a⟩::rest) j bs pd hs os is l ds s Q:=by
 intro ops aC l0 hd H0 S hS
 obtain⟨d0,r0,rfl,h1,h2,h3,h4,h5,h6,h7,h8⟩:=gF hd
 obtain⟨pr,gM,H1,w1,w2,w3⟩:=lay_settle (n:=aK S.Hs) hl (mats:=S.mats) (pa:=[]) hS.pd trivial hS.hp
 obtain⟨u1,u2⟩:=Da w1 hS.pi (λp hp=>by cases hp) hS.mi
 obtain⟨v,ds',s',H',⟨n,k1⟩,k2,k3⟩:=h H0 S.e H1 hS.en w3
 obtain⟨m,S',j1,j2⟩:=k3 ops aC r0 h8 H0 { S with e:=Ev.putO S.e d v,ds:=ds',H:=H',Hs:=H'::S.Hs,j:=Nat.succ S.j,pend:=pr,mats:=gM } ⟨hS.en.putO d v,rfl,k2,by show S.j+1=_;rw[hS.j],hS.bs,w2,⟨k2,hS.hs⟩,hS.os,u1,u2⟩
 refine⟨max n m,S',(ah _ _ _ _ _).2 ⟨_,fH (eP P K<|Nat.le_max_left n m) ?_,eS (λ_ _ _ hf=>fH (eP P K<|Nat.le_max_right n m) hf) _ _ _ j1⟩,j2⟩
 have d8:settle a (aK S.Hs) S.pend S.mats S.H=some (pr,gM,H1):=w1
 unfold dstep
 rw[xm h3,h4,hS.j]
 simp only[wanted,h7,d8,h2,hS.ds,k1,h1]
 try rw[hS.j]
theorem WD.al {b:Nat}{ho:HO}{f:Nat->AV}(h:WA op l ho f)(hr:ho.Zk=true)(k:WD P K rd rest (j+1) bs (⟨j,b,ho⟩::pd) hs os (j::is) (pl d (f b) l) ds s Q):WD P K rd (⟨⟨d,op,none⟩,.dalloc,lo,hi,a⟩::rest) j (b::bs) pd hs os is l ds s Q:=by
 refine WD.step rfl ?_ k
 intro ops aC d0 H0 S h1 h2 h3 h4 h5 h6 h7 hS
 obtain⟨o,g1,g2⟩:=h.2.2 S.e hS.en
 obtain⟨rfl,hb⟩:=hS.bs
 have hro:o.a9=true:=by
  cases ho with
  | r ro L sz=>obtain⟨t,ht,_⟩:=g2;cases ht;rfl
  | _=>cases hr
 refine⟨0,{ S with e:=Ev.putO S.e d<|f S.cG,j:=Nat.succ S.j,cG:=Nat.succ S.cG,pend:=⟨S.j,S.cG,o,0,[]⟩::S.pend },?_,⟨hS.en.putO d _,hS.ds,hS.hp,by rw[hS.j],hb,⟨⟨hS.j,rfl,λ_=>⟨rfl,hro⟩,g2⟩,hS.pd⟩,hS.hs,hS.os,λp hp=>?_,λp hp=>List.mem_cons_of_mem _<|hS.mi p hp⟩⟩
 ·unfold dstep
  rw[h3,h4]
  simp only[wanted,h2,g1,h1]
 ·cases hp with
  | head=>rw[show(⟨S.j,S.cG,o,0,[]⟩:aF).i=j from hS.j];grind
  | tail _ hp=>exact List.mem_cons_of_mem _<|hS.pi p hp
theorem Hp.res {H0 H:Heap}{s:SH}(h:Hp H0 s H)(nd:Nat):Hp H0 (((List.range nd).map (λi=>H.next+i)).map (λb=>(b,HO.gone))++s) ⟨H.t,Nat.add H.next nd⟩:=by
 have mem:∀b o,(b,o)∈((List.range nd).map (λi=>H.next+i)).map (λb=>(b,HO.gone))->H.next<=b/\b<H.next+nd/\o=.gone:=by
  grind
 refine⟨?_,?_,?_,?_⟩
 ·show H0.next<=H.next+nd
  have:=h.le
  omega
 ·intro b o hb
  show b<H.next+nd/\o.ok (H.get b)
  rcases List.mem_append.1 hb with hb|hb
  ·obtain⟨h1,h2,rfl⟩:=mem b o hb
   exact⟨h2,trivial⟩
  ·obtain⟨h1,h2⟩:=h.ok b o hb
   grind
 ·refine List.pairwise_append.2 ⟨?_,h.nd,?_⟩
  ·rw[List.map_map,List.pairwise_map]
   refine List.Pairwise.imp ?_<|List.pairwise_lt_range (n:=nd)
   grind
  ·intro p hp q hq
   obtain⟨h1,_⟩:=mem p.1 p.2 hp
   have:=(h.ok q.1 q.2 hq).1
   omega
 ·intro b hb hn
  exact h.fr b hb λo ho=>hn o<|List.mem_append_right _ ho
theorem Be (n:Nat):∀(nd k:Nat),Bs ((List.range' k nd).map (λi=>n+i)) (n+k):=by
 intro nd
 induction nd with
 | zero=>intro k;trivial
 | succ nd ih=>
  intro k
  rw[List.range'_succ]
  exact⟨rfl,ih<|k+1⟩
theorem WP.drawn {nd:Nat}{cl:List DC}(h:∀bs:List Nat,bs.length=nd->WD P K rd cl 0 bs [] [] [] [] l ds (bs.map (λb=>(b,HO.gone))++s) Qn):WP P K rd nt (.drawn nd cl) l ds s Qn Qe Qr:=by
 intro c0 hc H0 e H he hH
 cases c0 with
 | region i ops d=>
  cases d with
  | false=>
   exfalso
   have hc:(match aI (co P nt ops.toList) ops.toList with | some l=>AC.ops l | none=>.bad)=.drawn nd cl:=hc
   grind
  | true=>
   have hc:cdr P nt ops=.drawn nd cl:=hc
   unfold cdr at hc
   split at hc
   ·rename_i I hI
    split at hc
    ·rename_i l' hl'
     cases hc
     have hb:Bs ((List.range I.nd).map (λi=>H.next+i)) H.next:=by
      have:=Be H.next I.nd 0
      rwa [<- List.range_eq_range']at this
     obtain⟨n,S',h1,h2,H',l',s',h3,h4,h5,h6⟩:=h ((List.range I.nd).map (λi=>H.next+i)) (by simp) ops I.aC I.ops hl' H0 (⟨e,ds,⟨H.t,Nat.add H.next I.nd⟩,[⟨H.t,Nat.add H.next I.nd⟩],0,H.next,[],[],[]⟩:DS) ⟨he,rfl,hH.res I.nd,rfl,hb,trivial,⟨hH.res I.nd,trivial⟩,trivial,(λp hp=>nomatch hp),(λp hp=>nomatch hp)⟩
     refine⟨.normal,S'.e,S'.ds,H',l',s',⟨n+1,?_⟩,h4,h5,h6⟩
     show runDraw P (ev P K n) rd nt ops e ds H=_
     unfold runDraw
     grind
    ·cases hc
   ·cases hc
 | _=>simp[cc]at hc
theorem WP.bD {cl:List DC}(h:WD P K rd cl 0 [] [] [] [] [] l ds s Qn):WP P K rd nt (.drawn 0 cl) l ds s Qn Qe Qr:=
 WP.drawn λbs hb=>by grind
theorem WP.fd {cl:List DC}(h:∀b,WD P K rd cl 0 [b] [] [] [] [] l ds ((b,.gone)::s) Qn):WP P K rd nt (.drawn 1 cl) l ds s Qn Qe Qr:=
 WP.drawn λbs hb=>match bs,hb with
  | [b],_=>h b
theorem zP {b:Nat}{o:HO} (h:Has b o s:=by
 first
  | ((repeat (first | exact Has.here | assumption | apply Has.there | apply Has.app | (apply aH.mem;(focus assumption))));done)
  | solve_by_elim (maxDepth:=20) only[Has.here,Has.there,Has.app,Has.left, *]
  | solve_by_elim (maxDepth:=20) only[Has.here,Has.there,Has.app,Has.left,aH.mem, *]):Has b o s:=h
theorem uP {b:Nat}{o o':HO}{s':SH} (h:oY b o o' s s':=by
 first
  | ((repeat (first | exact oY.here | assumption | apply oY.there | apply oY.app));done)
  | solve_by_elim (maxDepth:=20) only[oY.here,oY.there,oY.app,oY.left, *]):oY b o o' s s':=h
theorem WR.ld {g ro:Bool}{n:Nat}{x:Operand}{b r o sz:Nat}{L:List (List AV)}{row cs:List AV}{v:AV}(hx:opl l x=some (.ptr (some ⟨b,r,o⟩)):=by exact rfl)(hb:Has b (.r ro L sz) s:=by exact zP)(hr:L[r]?=some row:=by first | exact rfl | assumption)(hc:bV n (cu o row)=some cs:=by first | assumption | exact rfl)(hv:ldv g cs=some v:=by exact rfl):WR P (.load g n x) l s v:=.load hx hb hr hc hv
theorem WS.st {n:Nat}{a x:Operand}{b r o sz:Nat}{L:List (List AV)}{row row' cs:List AV}{v:AV}{s':SH}{R:AV->List cD->SH->Prop}(k:R .undef ds s')(ha:opl l a=some (.ptr (some ⟨b,r,o⟩)):=by exact rfl)(hx:opl l x=some v:=by exact rfl)(hv:partCells n v=some cs:=by exact rfl)(hb:oY b (.r false L sz) (.r false (L.set r row') sz) s s':=by exact uP)(hr:L[r]?=some row:=by exact rfl)(hc:fK row o cs=some row':=by exact rfl):WS P K (.store n a x) l ds s R:=.store ha hx hv hb hr hc k
theorem Rs.ce {a:Nat}{t:TypeId}{rs:List ResultVar}{vs:List AV}{v:AV}{b r o n sz:Nat}{g ro:Bool}{L:List (List AV)}{row cs:List AV}(hg:isAggT P t=some g/\size? P t=some n)(k:Rs P l s rs vs:=by first | exact .nil | exact .tmp rfl .nil)(hp:lk l a=some (.ptr (some ⟨b,r,o⟩)):=by exact rfl)(h1:g=true\/n=1:=by first | exact .inl rfl | exact .inr rfl)(hb:Has b (.r ro L sz) s:=by exact zP)(hr:L[r]?=some row:=by exact rfl)(hc:bV n (cu o row)=some cs:=by exact rfl)(hv:ldv g cs=some v:=by exact rfl):Rs P l s (.cell a t::rs) (v::vs):=.cell hp hg.1 hg.2 h1 hb hr hc hv k
end
theorem Vk {G X:Prop} (h:X/\True->G:=by
  intro k
  repeat (first
   | refine WP.seq ?_
   | refine WP.ops ?_
   | refine WO.r (.mv rfl) ?_
   | refine WO.nil ?_
   | refine WO.r (.faddr rfl) ?_
   | refine WO.yes ?_
   | refine WO.skip ?_
   | refine WO.kg rfl ?_
   | refine WO.r (.extract rfl rfl) ?_
   | refine WO.r (.nilchk rfl rfl) ?_
   | refine WO.r (.bj rfl rfl) ?_
   | refine WO.r (.uS rfl rfl) ?_
   | refine WO.r (.fld rfl rfl) ?_
   | refine WO.r (.un rfl rfl) ?_
   | refine WO.r (.mkif rfl rfl) ?_
   | refine WO.r (.mkfn rfl rfl) ?_
   | refine WP.skip ?_
   | refine WP.block ?_
   | refine WO.w<|WS.store rfl rfl rfl .here rfl rfl ?_
   | refine WP.cond rfl fS<|λ_=>?_
   | refine WP.cond rfl (λ_=>?_) Dz
   | (apply WO.r;(focus (apply WR.load;exact rfl;(focus (repeat (first | exact Has.here | assumption | apply Has.there | apply Has.app | (apply aH.mem;(focus assumption)))));(first | exact rfl | assumption);(first | assumption | exact rfl);exact rfl)))
   | (apply WO.r;(focus (apply WR.arith;exact rfl;exact rfl;assumption)))
   | (apply WO.r;(focus (apply WR.arith;exact rfl;exact rfl;exact bM (by omega))))
   | (apply WO.r;(focus (apply WR.arith (v:=.bool true);exact rfl;exact rfl;exact rfl)))
   | (apply WO.r;(focus (apply WR.arith (v:=.bool false);exact rfl;exact rfl;exact rfl)))
   | (apply WO.r;(focus (apply WR.arith;exact rfl;exact rfl;exact rfl)))
   | (apply WO.r;(focus (apply WR.eql;exact rfl;exact rfl;assumption)))
   | (apply WO.r;(focus (apply WR.eql (b:=true);exact rfl;exact rfl;exact rfl)))
   | (apply WO.r;(focus (apply WR.eql (b:=false);exact rfl;exact rfl;exact rfl)))
   | (apply WO.r;(focus (apply WR.eql;exact rfl;exact rfl;exact rfl)))
   | (apply WO.r;(focus (apply WR.lenS;exact rfl;(first | assumption | exact rfl))))
   | (apply WO.r;(focus (apply WR.convI;exact rfl;(first | assumption | exact rfl))))
   | (apply WO.r;(focus (apply WR.iaddrS;exact rfl;exact rfl;(first | assumption | omega);decide))))
  first
   | (refine WO.a (.box rfl rfl) ?_;exact k.1)
   | (refine WO.a (.alloc rfl) ?_;exact k.1)
   | exact k.1) (k:X):G:=h ⟨k,trivial⟩
end Go.Ev
namespace Go.Ev
section
variable {P:Program}{K:Orc}{rd:Option Nat}{nt:Nat}{l:Sl}{ds:List cD}{s:SH}{Q Qn Qr:Po}{Qe:Nat->Po}
@[reducible] def zo (d:Nat)(o:AOp):bS:=⟨some d,o,none⟩
@[reducible] def zn (o:AOp):bS:=⟨none,o,none⟩
@[reducible] def zg (d:Nat)(o:AOp)(j:Nat)(b:Bool):bS:=⟨some d,o,some ⟨j,b⟩⟩
instance {n:Nat}:OfNat Operand n:=⟨.tmp n⟩
@[reducible] def oN (l:List bS)(b:AC):AC:=.seq (.ops l) b
@[reducible] def oF (F:Nat->FuncId)(d n:Nat)(l:List Operand):bS:=⟨some d,.call (.func (F n)) l,none⟩
@[reducible] def zm (d x:Nat):bS:=⟨some d,.mv (.tmp x),none⟩
@[reducible] def zf (d k x:Nat):bS:=⟨some d,.faddr k (.tmp x),none⟩
@[reducible] def zl (d x:Nat):bS:=⟨some d,.load false 1 (.tmp x),none⟩
@[reducible] def zc (n:Nat):Operand:=.const (.int .i64 (.ofNat n))
@[reducible] def za (n:Nat):AV:=.int .i64 (.ofNat n)
@[reducible] def zp (o:bS)(a:Nat):DC:=⟨o,.pure,0,0,a⟩
@[reducible] def zr (o:bS)(l h a:Nat):DC:=⟨o,.read,l,h,a⟩
@[reducible] def zh (o:bS)(a:Nat):DC:=⟨o,.chain,0,0,a⟩
def qa (sz bytes:Nat)(z:List AV):AC:=oN [zo 2 (.mv (.const (.slice none 0 0)))] (.seq (oN [zm 3 0,zo 4 (.eql false .DB 3 (.const (.slice none 0 0)))] (.cond 4 (oN [zo 2 (.mv (.const (.slice none 0 0)))] .ret) .skip)) (oN [zo 5 (.bslice sz 0 z []),zm 6 0,zo 7 (.append sz bytes 5 6),zm 2 7] .ret))
theorem BW {sz bytes:Nat}{z:List AV}{v:AV}{L:List (List AV)}{R:AV->SH->Prop}(h:Src s sz v L)(hz:sz≠0)(h1:L.length<=901000)(h2:bytes<=100000)(hR:∀v' n,gz n sz v' L->R v' (n++s)) :
  WP P K none nt (qa sz bytes z) (sl0 0 [v]) [] s (Fin P [.tmp 2] R) (λ_ _ _ _=>False) (Fin P [.tmp 2] R):=by
 unfold qa
 refine WP.seq<|WP.ops<|WO.r (.mv rfl)<|WO.nil ?_
 have two:∀(b:Bool),eqBy 20 .DB v (.slice none 0 0 false 0)=some b->(b=true->L=[])->WP P K none nt (.seq (oN [zm 3 0,zo 4<|.eql false .DB 3<|.const<|.slice none 0 0]<|.cond (.tmp 4) (oN [zo 2 (.mv<|.const<|.slice none 0 0)] .ret) .skip)<|oN [zo 5 (.bslice sz 0 z []),zm 6 0,zo 7<|.append sz bytes 5 6,zm 2 7] .ret) (pl (some 2) (.slice none 0 0 false 0)<|sl0 0 [v]) [] s (Fin P [.tmp 2] R) (λ_ _ _ _=>False) (Fin P [.tmp 2] R):=by
  intro b hb zE
  refine WP.seq<|WP.seq<|WP.ops<|WO.r (.mv rfl)<|WO.r (.eql rfl rfl hb)<|WO.nil<|WP.cond rfl (λht=>?_)<|λht=>?_
  ·have:=zE ht
   subst this
   refine WP.seq<|WP.ops<|WO.r (.mv rfl)<|WO.nil ?_
   exact WP.ret<|Fin.mk (.tmp rfl .nil)<|hR _ [] .nil
  ·refine WP.skip (WP.seq<|WP.ops<|WO.a (.bslice rfl rfl) λb=>WO.r (.mv rfl) ?_)
   have hs:∀p,p∈s->p∈((b,HO.r false [] sz)::s):=λp hp=>List.mem_cons_of_mem _ hp
   have hS:=h.mono hs
   by_cases hL:L=[]
   ·subst hL
    refine WO.w<|WS.append_none rfl rfl hS hz (Nat.le_refl _)<|WO.r (.mv rfl)<|WO.nil<|WP.ret<|Fin.mk (.tmp rfl .nil) ?_
    exact hR _ [(b,HO.r false [] sz)] .zero
   ·refine WO.w (WS.uM rfl .here (Nat.le_refl _) rfl hS hz ?_ ?_ h2 λb'=>?_)
    ·grind
    ·omega
    refine WO.r (.mv rfl)<|WO.nil<|WP.ret<|Fin.mk (.tmp rfl .nil) ?_
    refine hR _ [(b',.r false L sz),(b,HO.r false [] sz)] ?_
    have:=gz.rows (s:=[(b',.r false L sz),(b,HO.r false [] sz)]) (b:=b') (n:=0+L.length) (c:=0+L.length) (L:=L) (R:=[]) (sz:=sz) (by rw[List.append_nil];exact .here) (by omega) (by simp)<|by grind
    exact this
 cases h with
 | nil=>exact two true rfl<|λ_=>rfl
 | @zero a c sl rw=>cases a with
  | none=>exact two true rfl<|λ_=>rfl
  | some p=>exact two false rfl<|λh=>by cases h
 | emp=>exact two false rfl<|λh=>by cases h
 | rows hb hn=>exact two false rfl<|λh=>by cases h
theorem aB {l:Sl}:∀i v,lk [] i=some v->lk l i=some v:=λi v h=>by cases h
theorem aa {l l':Sl}{d:Nat}{v:AV}(h:lk l d=some v)(k:∀i v,lk l' i=some v->lk l i=some v):∀i w,lk ((d,v)::l') i=some w->lk l i=some w:=by
 intro i w hi
 rw[lu]at hi
 grind
theorem qb {l l':Sl}(h:∀i v,lk l' i=some v->lk l i=some v:=by repeat (first | exact aB | apply aa rfl)):∀i v,lk l' i=some v->lk l i=some v:=h
theorem fw (a b:Nat):ilt (.ofNat a) (.ofNat b)=Nat.blt a b:=rfl
theorem bh {a b:Nat}:Nat.blt a b=true↔a<b:=⟨λh=>Nat.le_of_ble_eq_true h,λh=>Nat.ble_eq_true_of_le h⟩
theorem jv {a b:Nat}:Nat.blt a b=false↔¬a<b:=by
 cases h:Nat.blt a b with
 | true=>simp[bh.1 h]
 | false=>simp;exact Nat.le_of_not_lt λk=>by rw[bh.2 k]at h;cases h
theorem tD {n:Nat}(h:n<=9223372036854775807):mkI .i64 (.ofNat n)=some (AV.int .i64 (.ofNat n)):=by
 show(match Nat.ble n 9223372036854775807 with | true=>force n λm=>some (AV.int .i64<|.ofNat m) | false=>some<|AV.int .i64<|IntKind.wrap .i64<|.ofNat n)=_
 rw[Nat.ble_eq_true_of_le h]
 exact aL _ _
theorem bM {a b:Nat}(h:a+b<=9223372036854775807):binV .add (AV.int .i64 (.ofNat a)) (AV.int .i64 (.ofNat b))=some (AV.int .i64 (.ofNat (a+b))):=tD h
inductive Gr (sz:Nat):AV->List (List AV)->SH->Prop
 | nil {rw:Nat}:Gr sz (.slice none 0 0 false rw) [] []
 | zero {p:Pl} {rw:Nat}:Gr sz (.slice (some p) 0 0 false rw) [] []
 | rows {b n c:Nat} {L T:List (List AV)} (hn:n=L.length) (hc:c=L.length+T.length) (hL:0<c):Gr sz (.slice (some ⟨b,0,0⟩) n c true sz) L [(b,.r false (L++T) sz)]
theorem Gr.out {sz:Nat}{v:AV}{L:List (List AV)}{o:SH}(h:Gr sz v L o):gz o sz v L:=by
 cases h with
 | nil=>exact .nil
 | zero=>exact .zero
 | rows hn hc hL=>exact gz.rows .here hn hc (λh=>by
   simp_all)
theorem Gr.src {sz:Nat}{v:AV}{L:List (List AV)}{o:SH}(h:Gr sz v L o){m t:SH}:Src (m++(o++t)) sz v L:=
 h.out.src.mono λp hp=>List.mem_append_right _<|List.mem_append_left _ hp
theorem gz.gr {sz:Nat}{v:AV}{L:List (List AV)}{n:SH}(h:gz n sz v L):∃o x y,Gr sz v L o/\n=x++(o++y):=by
 cases h with
 | nil=>exact⟨[],n,[],.nil,by simp⟩
 | zero=>exact⟨[],n,[],.zero,by simp⟩
 | @rows b m c L T hb hn hc hL=>
  have hlen:0<c:=by
   cases hLT:L++T with
   | nil=>grind
   | cons a l=>
    have:=congrArg List.length hLT
    grind
  obtain⟨x,y,rfl⟩:=List.append_of_mem hb.mem
  exact⟨[(b,.r false (L++T) sz)],x,y,.rows hn hc hlen,rfl⟩
theorem WS.perm {R:AV->List cD->SH->Prop}{op:AOp}(h:WS P K op l ds s (λv ds' s'=>∃s'',s'.Perm s''/\R v ds' s'')):WS P K op l ds s R:=by
 intro H0 e H he hH
 obtain⟨v,ds',s',H',h1,h2,s'',h3,h4⟩:=h H0 e H he hH
 exact⟨v,ds',s'',H',h1,h2.perm h3,h4⟩
theorem WS.append_gr {R:AV->List cD->SH->Prop}{sz bytes:Nat}{ss x:Operand}{sv xv:AV}{L:List (List AV)}{row:List AV}{m o t:SH}(hs:opl l ss=some sv)(ho:Gr sz sv L o)(hx:opl l x=some xv)(hN:Src (m++(o++t)) sz xv [row])(hz:sz≠0)(h1:L.length+1<=901000)(h2:bytes<=100000)
  (k:∀v o' j,Gr sz v (L++[row]) o'->R v ds (o'++(m++(j++t)))):WS P K (.append sz bytes ss x) l ds (m++(o++t)) R:=by
 cases ho with
 | nil=>
  refine WS.append_nil (c:=0) hs hx hN hz (by simp) (by simp) h2 λb=>?_
  exact k _ [(b,.r false [row] sz)] []<|.rows (L:=[row]) (T:=[]) rfl rfl<|by simp
 | @zero p rw=>
  intro H0 e H he hH
  obtain⟨t0,ht⟩:=em [row]
  refine⟨.slice (some ⟨H.next,0,0⟩) 1 1 true sz,ds,_,_,⟨0,?_⟩,hH.alloc (o:=.rows t0 1 sz false)<|oh (cB ht)<|hN.len hH,k _ [(H.next,.r false [row] sz)] []<|.rows (L:=[row]) (T:=[]) rfl rfl<|by simp⟩
  show(match aval P H (bL e) (.append sz bytes ss x)with | some (v,H')=>some (OR.mk v ds H') | none=>none)=_
  rw[append_eq (aG he hs) (aG he hx) (hN.has hz hH)]
  have hg:H.gather p rw sz 0=some []:=rfl
  unfold appendV
  simp only[aL,ar]
  simp only[hg,aN,List.nil_append,ht]
  unfold grown
  rw[show Nat.add 0 [row].length=1 from rfl,xz (by omega) h2]
  rfl
 | @rows b n c L T hn hc hL=>
  cases T with
  | nil=>
   rw[List.length_nil,Nat.add_zero]at hc
   have xE:c=n:=by omega
   subst xE
   rw[List.append_nil]at hN |-
   refine WS.uN hs hn (.app .here) hx hN hz (by simp) (by simp;omega) h2 λb'=>?_
   have:=k (.slice (some ⟨b',0,0⟩) (c+[row].length) (c+[row].length) true sz) [(b',.r false (L++[row]++[]) sz)] [(b,.bK)]<|.rows (L:=L++[row]) (T:=[]) (by simp[hn]) (by simp[hn])<|by omega
   rw[List.append_nil]at this
   exact this
  | cons t0 T=>
   refine WS.perm<|WS.aaU (L:=L) (T:=t0::T) (N:=[row]) hs hn hc (.app .here) hx hN hz (by simp) (by simp) ?_
   have:=k _ [(b,.r false ((L++[row])++T) sz)] []<|.rows (b:=b) (n:=n+1) (c:=c) (L:=L++[row]) (T:=T) (by simp[hn]) (by grind) hL
   refine⟨_,?_,this⟩
   simp_all
inductive kh (C:Nat->List AV->List AV->SH->Prop):List (List AV)->List (List AV)->SH->Prop
 | nil {n:SH}:kh C [] [] n
 | snoc {a b:List AV} {L L':List (List AV)} {x m y n:SH}:kh C L L' n->C L.length a b m->kh C (L++[a]) (L'++[b]) (x++(m++(y++n)))
theorem kh.len {C:Nat->List AV->List AV->SH->Prop}{n:SH}{L L':List (List AV)}(h:kh C L L' n):L'.length=L.length:=by
 induction h with
 | nil=>rfl
 | snoc _ _ ih=>simp[ih]
theorem kh.same {n:SH}{L L':List (List AV)}(h:kh (λ_ a b _=>b=a) L L' n):L'=L:=by
 induction h with
 | nil=>rfl
 | snoc _ h1 ih=>rw[ih,h1]
theorem Src.at {sz:Nat}{v:AV}{L:List (List AV)}(h:Src s sz v L){i:Nat}(hi:i<L.length):∃b r n c sl ro M,v=.slice (some ⟨b,r,0⟩) n c sl sz/\Has b (.r ro M sz) s/\i<n/\M[r+i]?=L[i]?:=by
 cases h with
 | @rows b r n c sl ro M hb hn=>
  grind
 | _=>grind
theorem fZ {l:Sl}{sz:Nat}{x:Operand}{v:AV}{cs:List AV}(hx:opl l x=some v)(hc:partCells sz v=some cs):bsrows l sz 0 [(0,x)]=some [cs]:=by
 unfold bsrows
 simp only[hx,hc]
 rfl
def xt (sz bytes:Nat)(z:List AV):AC:=oN [zo 4 (.mv (.const (.slice none 0 0)))] (oN [zo 5 (.mv (.const (.slice none 0 0)))] (.seq (oN [zm 8 0,zo 9 (.lenS 8),zo 10 (.mv (zc 0))] (.block 0 (.loop (oN [zo 11 (.arith .lss 10 9)] (.seq (.cond 11 .skip (.exit 0)) (.seq (.block 1 (oN [zo 12 (.iaddrS sz 8 10),zo 13 (.load true sz 12),zo 7 (.alloc sz z),zn (.store sz 7 13)] (.ops [zm 14 5,zm 15 1,zo 16 (.load true sz 7),zo 17 (.call 15 [16]),zo 18 (.bslice sz 1 z [⟨0,17⟩]),zo 19 (.append sz bytes 14 18),zm 5 19]))) (.ops [zo 20 (.arith .add 10 (zc 1)),zm 10 20]))))))) (oN [zm 21 5,zm 4 21] .ret)))
theorem sS {sz bytes:Nat}{z:List AV}{v fv:AV}{L:List (List AV)}{R:AV->SH->Prop}(C:Nat->List AV->List AV->SH->Prop)(h:Src s sz v L)(hz:sz≠0)(hzl:z.length=sz)(h1:L.length<=900000)(h2:bytes<=100000)(hlen:∀row∈L,row.length=sz)
  (hf:∀(i:Nat)row,L[i]?=some row->∀x:SH,c6 P K fv [.agg row] (x++s) (λw s'=>∃m row',s'=m++(x++s)/\partCells sz w=some row'/\C i row row' m)) (hR:∀v' L' o n,Gr sz v' L' o->kh C L L' n->R v' (o++(n++s))) :
  WP P K none nt (xt sz bytes z) (sl0 0 [v,fv]) [] s (Fin P [.tmp 4] R) (λ_ _ _ _=>False) (Fin P [.tmp 4] R):=by
 unfold xt
 refine Vk (k:=WO.r (.lenS rfl h.lenOf)<|WO.r (.mv rfl)<|WO.nil<|WP.block ?_)
 refine WP.loop (λk l ds s'=>ds=[]/\∃i ov L' o n,k=L.length-i/\i<=L.length/\Gr sz ov L' o/\kh C (L.take i) L' n/\s'=o++(n++s) /\
  ∀j w,lk [(8,v),(9,.int .i64 (.ofNat L.length)),(10,.int .i64 (.ofNat i)),(5,ov),(1,fv)] j=some w->lk l j=some w) ?_ ⟨rfl,0,_,[],[],[],rfl,Nat.zero_le _,.nil,.nil,rfl,aa rfl (aa rfl (aa rfl (aa rfl (aa rfl aB))))⟩
 rintro k l ds s' ⟨rfl,i,ov,L',o,n,rfl,hi,hG,hA,rfl,hl⟩
 refine WP.weak hl (λ_ _ h=>h) ?_
 refine Vk (k:=WP.cond rfl (λht=>?_)<|λht=>?_)
 ·have hlt:i<L.length:=bh.1 ht
  obtain⟨b,r,n0,c,sl,ro,M,rfl,hb,hn,hM⟩:=h.at hlt
  have hrow:L[i]?=some L[i]:=List.getElem?_eq_getElem hlt
  have hmem:L[i]∈L:=List.getElem_mem hlt
  have hsz:(L[i]).length=sz:=hlen _ hmem
  have gc:bV sz (cu 0 L[i])=some L[i]:=by
   show bV sz L[i]=_
   rw[cK _ _ (by omega),<- hsz,List.take_length]
  have hpart:partCells sz (.agg L[i])=some L[i]:=by
   show(match Nat.beq (aK L[i]) sz with | true=>some L[i] | false=>none)=_
   rw[ar,hsz,dn]
  refine Vk (k:=WO.r (.iaddrS rfl rfl hn hz)<|WO.r (.load rfl (.app<|.app hb) (hM.trans hrow) gc rfl)<|WO.a (.alloc hzl) λb7=>?_)
  have hput:fK z 0 L[i]=some L[i]:=by
   unfold fK
   have g1:bV 0 z=some []:=rfl
   have g2:bV (aK L[i]) (cu 0 z)=some z:=by
    show bV (aK L[i]) z=_
    rw[ar,cK _ _<|by omega,hsz,<- hzl,List.take_length]
   have g3:cu (aK L[i]) (cu 0 z)=[]:=by
    show cu (aK L[i]) z=[]
    rw[cw,ar,List.drop_eq_nil_of_le<|by omega]
   simp only[g1,g2]
   rw[g3,aN,aN]
   simp
  refine WO.w<|WS.store rfl rfl hpart .here rfl hput<|Vk (k:=WO.w<|WS.call rfl rfl (R':=λw s'=>∃m row',s'=m++(((b7,.r false [L[i]] sz)::(o++n))++s)/\partCells sz w=some row'/\C i L[i] row' m) ?_ ?_)
  ·have:=hf i _ hrow ((b7,.r false [L[i]] sz)::(o++n))
   grind
  ·rintro w _ ⟨m,row',rfl,hw,XM⟩
   refine WO.a (.bslice (fZ rfl hw) rfl) λH6=>?_
   have e:(H6,HO.r false [row'] sz)::(m++(((b7,.r false [L[i]] sz)::(o++n))++s))=((H6,HO.r false [row'] sz)::(m++[(b7,HO.r false [L[i]] sz)]))++(o++(n++s)):=by simp
   rw[e]
   have hlen':L'.length+1<=901000:=by
    have:=hA.len
    rw[List.length_take,Nat.min_eq_left hi]at this
    omega
   refine WO.w<|WS.append_gr rfl hG rfl (Src.all<|.left .here) hz hlen' h2 λv' o' j pI=>Vk (k:=?_)
   refine⟨L.length-(i+1),by omega,rfl,i+1,v',L'++[row'],o',[(H6,HO.r false [row'] sz)]++(m++(([(b7,HO.r false [L[i]] sz)]++j)++n)),rfl,hlt,pI,?_,by simp,aa rfl<|aa rfl<|aa rfl<|aa rfl<|aa rfl aB⟩
   rw[List.take_add_one,hrow]
   exact kh.snoc (y:=[(b7,HO.r false [L[i]] sz)]++j) hA (by rw[List.length_take,Nat.min_eq_left hi];exact XM)
 ·refine WP.exit ?_
  have hge:¬i<L.length:=jv.1 ht
  have:i=L.length:=by omega
  refine Vk (k:=WP.ret<|Fin.mk (.tmp rfl .nil) ?_)
  grind
end
end Go.Ev
namespace Go.Ev
section
variable {P:Program}{K:Orc}{rd:Option Nat}{nt:Nat}{l:Sl}{ds:List cD}{s:SH}{Q Qn Qr:Po}{Qe:Nat->Po}
def N0:Bool->List AV->AV
 | true,row=>.agg row
 | false,row=>row.headD .undef
theorem ru {g:Bool}{sz:Nat}{row:List AV}(hg:g=true\/sz=1)(h:row.length=sz):ldv g row=some (N0 g row):=by
 cases g with
 | true=>rfl
 | false=>
  rcases hg with hg|hg
  ·cases hg
  ·subst hg
   match row,h with
   | [v],_=>rfl
theorem V0 {row:List AV}{sz:Nat}(h:row.length=sz):bV sz (cu 0 row)=some row:=by
 show bV sz row=_
 rw[cK _ _ (by omega),<- h,List.take_length]
theorem oI {g:Bool}{sz:Nat}{row:List AV}(hg:g=true\/sz=1)(h:row.length=sz)(h1:g=false->∀v∈row,v.one=true):partCells sz (N0 g row)=some row:=by
 cases g with
 | true=>
  show(match Nat.beq (aK row) sz with | true=>some row | false=>none)=_
  rw[ar,h,dn]
 | false=>
  rcases hg with hg|hg
  ·cases hg
  ·subst hg
   match row,h with
   | [v],_=>
    have:=h1 rfl v<|List.mem_singleton.2 rfl
    cases v<;>first | rfl | cases this
theorem rS {z row:List AV}{sz:Nat}(hz:z.length=sz)(h:row.length=sz):fK z 0 row=some row:=by
 unfold fK
 have g1:bV 0 z=some []:=rfl
 have g2:bV (aK row) (cu 0 z)=some z:=by
  show bV (aK row) z=_
  rw[ar,cK _ _<|by omega,h,<- hz,List.take_length]
 have g3:cu (aK row) (cu 0 z)=[]:=by
  show cu (aK row) z=[]
  rw[cw,ar,List.drop_eq_nil_of_le<|by omega]
 simp only[g1,g2]
 rw[g3,aN,aN]
 simp
def CV:Option Nat->AV
 | none=>.int .i64<|.negSucc 0
 | some i=>.int .i64<|.ofNat i
def CU (g:Bool)(sz:Nat):AC:=oN [zo 4 (.mv (zc 0))] (.seq (oN [zm 6 0,zo 7 (.lenS 6),zo 8 (.mv (zc 0))] (.block 0 (.loop (oN [zo 9 (.arith .lss 8 7)] (.seq (.cond 9 .skip (.exit 0)) (.seq (.block 1 (oN [zm 10 8,zm 5 10] (oN [zm 11 1,zm 12 0,zm 13 5,zo 14 (.iaddrS sz 12 13),zo 15 (.load g sz 14),zo 16 (.call 11 [15])] (.cond 16 (oN [zm 17 5,zm 4 17] .ret) .skip)))) (.ops [zo 18 (.arith .add 8 (zc 1)),zm 8 18]))))))) (oN [zo 4 (.mv (.const (.int .i64 (.negSucc 0))))] .ret))
theorem vz {g:Bool}{sz:Nat}{v fv:AV}{L:List (List AV)}{R:AV->SH->Prop}(p:List AV->Bool)(h:Src s sz v L)(hz:sz≠0)(hg:g=true\/sz=1)(h1:L.length<=1000000)(hlen:∀row∈L,row.length=sz)
  (hf:∀row∈L,∀x:SH,c6 P K fv [N0 g row] (x++s) (λw s'=>w=.bool (p row)/\∃m,s'=m++(x++s))) (hR:∀n,R (CV<|L.findIdx? p)<|n++s) :
  WP P K none nt (CU g sz) (sl0 0 [v,fv]) [] s (Fin P [.tmp 4] R) (λ_ _ _ _=>False) (Fin P [.tmp 4] R):=by
 unfold CU
 refine Vk (k:=WO.r (.lenS rfl h.lenOf)<|WO.r (.mv rfl)<|WO.nil<|WP.block ?_) 
 refine WP.loop (λk l ds s'=>ds=[]/\∃i n,k=L.length-i/\i<=L.length/\(∀(j:Nat)(hj:j<L.length),j<i->p L[j]=false)/\s'=n++s /\
  ∀j w,lk [(0,v),(1,fv),(7,.int .i64 (.ofNat L.length)),(8,.int .i64 (.ofNat i))] j=some w->lk l j=some w) ?_ (n:=L.length-0) ⟨rfl,0,[],rfl,Nat.zero_le _,λj _ h=>absurd h (Nat.not_lt_zero _),rfl,aa rfl (aa rfl (aa rfl (aa rfl aB)))⟩
 rintro k l ds s' ⟨rfl,i,n,rfl,hi,hp,rfl,hl⟩
 refine WP.weak hl (λ_ _ h=>h) ?_
 refine Vk (k:=WP.cond rfl (λht=>?_)<|λht=>?_)
 ·have hlt:i<L.length:=bh.1 ht
  obtain⟨b,r,n0,c,sl,ro,M,rfl,hb,hn,hM⟩:=h.at hlt
  have hrow:L[i]?=some L[i]:=List.getElem?_eq_getElem hlt
  have hmem:L[i]∈L:=List.getElem_mem hlt
  have hsz:(L[i]).length=sz:=hlen _ hmem
  refine Vk (k:=WO.r (.iaddrS rfl rfl hn hz)<|WO.r (.load rfl (.app hb) (hM.trans hrow) (V0 hsz)<|ru hg hsz)<|WO.w<|WS.call rfl rfl (hf _ hmem n) ?_)
  rintro w _ ⟨rfl,m,rfl⟩
  refine WO.nil<|WP.cond rfl (λht=>?_)<|λht=>?_
  ·refine Vk (k:=WP.ret<|Fin.mk (.tmp rfl .nil) ?_)
   have:L.findIdx? p=some i:=List.findIdx?_eq_some_iff_getElem.2 ⟨hlt,ht,λj hj=>by grind⟩
   have:=hR<|m++n
   rw[‹L.findIdx? p=some i›,List.append_assoc]at this
   exact this
  ·refine Vk (k:=?_)
   refine⟨L.length-(i+1),by omega,rfl,i+1,m++n,rfl,hlt,λj hj hji=>?_,by simp,aa rfl<|aa rfl<|aa rfl<|aa rfl aB⟩
   grind
 ·refine WP.exit ?_
  have hge:¬i<L.length:=jv.1 ht
  refine Vk (k:=WP.ret<|Fin.mk (.tmp rfl .nil) ?_)
  have:L.findIdx? p=none:=List.findIdx?_eq_none_iff.2 λx hx=>by
   obtain⟨j,hj,rfl⟩:=List.getElem_of_mem hx
   grind
  have hr:=hR n
  rw[this]at hr
  exact hr
def af6 (f:FuncId):AC:=oN [zo 4 (.mv (.const (.bool false)))] (oN [zm 5 0,zm 6 1,zo 7 (.call (.func f) [5,6]),zo 8 (.arith .geq 7 (zc 0)),zm 4 8] .ret)
theorem aeT (o:Option Nat):binV .geq (CV o) (.int .i64 (.ofNat 0))=some (.bool o.isSome):=by
 cases o<;>rfl
theorem af7 {f:FuncId}{v fv:AV}{o:Option Nat}{R:AV->SH->Prop}(h:bB P K f [v,fv] s (λw s'=>w=CV o/\∃n,s'=n++s))(hR:∀n,R (.bool o.isSome) (n++s)) :
  WP P K none nt (af6 f) (sl0 0 [v,fv]) [] s (Fin P [.tmp 4] R) (λ_ _ _ _=>False) (Fin P [.tmp 4] R):=by
 unfold af6
 refine Vk (k:=WO.w<|WS.callF rfl rfl h ?_)
 rintro w _ ⟨rfl,n,rfl⟩
 exact WO.r (.arith rfl rfl<|aeT o)<|WO.r (.mv rfl)<|WO.nil<|WP.ret<|Fin.mk (.tmp rfl .nil)<|hR n
theorem WR.oO {sz:Nat}{x i:Operand}{b r n c j:Nat}{sl:Bool}{q:IntKind}(hx:opl l x=some (.slice (some ⟨b,r,0⟩) n c sl sz))(hi:opl l i=some (.int q (.ofNat j)))(hj:j<=n)(hc:j<c)(hs:sz≠0):WR P (.slc sz x (some i) none none) l s (.slice (some ⟨b,r+j,0⟩) (n-j) (c-j) sl sz):=by
 have Ug:cL (opl l) n 0 (some i)=some j:=by
  simp only[cL,hi,bnd,show Nat.ble j n=true from Nat.ble_eq_true_of_le hj]
 cases j with
 | zero=>exact WR.wG (c:=c) (m:=n) hx rfl Ug
 | succ j=>exact WR.FN hx rfl Ug (by omega) hc hs
theorem WR.wH {sz:Nat}{x i:Operand}{a:Option Pl}{n c j:Nat}{sl:Bool}{q:IntKind}{rw:Nat}(hx:opl l x=some (.slice a n c sl rw))(hi:opl l i=some (.int q (.ofNat j)))(hj:j<=c):WR P (.slc sz x none (some i) none) l s (.slice a j c sl rw):=
 WR.wG hx (by simp only[cL,hi,bnd,show Nat.ble j c=true from Nat.ble_eq_true_of_le hj]) rfl
theorem WS.clear {R:AV->List cD->SH->Prop}{sz:Nat}{z:List AV}{x:Operand}{b r n c:Nat}{sl:Bool}{L:List (List AV)}{s':SH}(hx:opl l x=some (.slice (some ⟨b,r,0⟩) n c sl sz))(hn:n≠0)(hz:z.length=sz)(hs:sz≠0)(hr:r+n<=L.length)
  (hb:oY b (.r false L sz) (.r false (L.take r++(List.replicate n z++L.drop (r+n))) sz) s s') (k:R .undef ds s'):WS P K (.clear sz z x) l ds s R:=by
 intro H0 e H he hH
 obtain⟨H',h1,h2⟩:=nZ hs (List.replicate n z) H s s' L r 0 hH (λrow hrow=>by grind) (by grind) (by rw[List.length_replicate];exact hb)
 refine⟨.undef,ds,s',H',⟨0,?_⟩,h2,k⟩
 show(match aval P H (bL e) (.clear sz z x)with | some (v,H')=>some (OR.mk v ds H') | none=>none)=_
 simp only[aval,aG he hx]
 cases n with
 | zero=>grind
 | succ n=>
  have h1:H.scatter ⟨b,r,0⟩ sz sz 0 (ep (n+1) z)=some H':=h1
  simp only[h1]
def xp (g:Bool)(f:FuncId)(sz:Nat)(z:List AV):AC:=oN [zo 4 (.mv (.const (.slice none 0 0)))] (oN [zm 8 0,zm 9 1,zo 10 (.call (.func f) [8,9]),zm 5 10] (.seq (oN [zm 11 5,zo 12 (.eql false .pi 11 (.const (.int .i64 (.negSucc 0))))] (.cond 12 (oN [zm 13 0,zm 4 13] .ret) .skip)) (.seq (oN [zm 14 5,zo 15 (.arith .add 14 (zc 1)),zm 6 15] (.block 0 (.loop (.seq (oN [zm 16 6,zm 17 0,zo 18 (.lenS 17),zo 19 (.arith .lss 16 18)] (.cond 19 .skip (.exit 0))) (.seq (.block 1 (.seq (match g with
  | true=>.ops [⟨(some 22),(.mv<|.tmp 0),none⟩,⟨(some 23),(.mv<|.tmp 6),none⟩,⟨(some 24),(.iaddrS sz (.tmp 22)<|.tmp 23),none⟩,⟨(some 25),(.load true sz<|.tmp 24),none⟩,⟨(some 7),(.alloc sz z),none⟩,⟨none,(.store sz (.tmp 7)<|.tmp 25),none⟩]
  | false=>.ops [⟨(some 22),(.mv (.tmp 0)),none⟩,⟨(some 23),(.mv (.tmp 6)),none⟩,⟨(some 24),(.iaddrS sz (.tmp 22) (.tmp 23)),none⟩,⟨(some 25),(.load false sz (.tmp 24)),none⟩,⟨(some 7),(.mv (.tmp 25)),none⟩]) (.seq (match g with
  | true=>.ops [⟨(some 26),(.mv<|.tmp 1),none⟩,⟨(some 27),(.load true sz<|.tmp 7),none⟩,⟨(some 28),(.call (.tmp 26) [(.tmp 27)]),none⟩,⟨(some 29),(.un .not<|.tmp 28),none⟩]
  | false=>.ops [⟨(some 26),(.mv (.tmp 1)),none⟩,⟨(some 27),(.mv (.tmp 7)),none⟩,⟨(some 28),(.call (.tmp 26) [(.tmp 27)]),none⟩,⟨(some 29),(.un .not (.tmp 28)),none⟩]) (.cond (.tmp 29) (.seq (match g with
  | true=>.ops [⟨(some 30),(.mv<|.tmp 0),none⟩,⟨(some 31),(.mv<|.tmp 5),none⟩,⟨(some 32),(.load true sz<|.tmp 7),none⟩,⟨(some 33),(.iaddrS sz (.tmp 30)<|.tmp 31),none⟩,⟨none,(.store sz (.tmp 33)<|.tmp 32),none⟩]
  | false=>.ops [⟨(some 30),(.mv (.tmp 0)),none⟩,⟨(some 31),(.mv (.tmp 5)),none⟩,⟨(some 32),(.mv (.tmp 7)),none⟩,⟨(some 33),(.iaddrS sz (.tmp 30) (.tmp 31)),none⟩,⟨none,(.store sz (.tmp 33) (.tmp 32)),none⟩]) (.ops [zm 34 5,zo 35 (.arith .add 34 (zc 1)),zm 5 35])) .skip)))) (.ops [zm 20 6,zo 21 (.arith .add 20 (zc 1)),zm 6 21])))))) (oN [zm 36 0,zm 37 5,zo 38 (.slc sz 36 (some 37) none none),zn (.clear sz z 38)] (oN [zm 39 0,zm 40 5,zo 41 (.slc sz 39 none (some 40) none),zm 4 41] .ret)))))
theorem xq {g:Bool}{f:FuncId}{sz:Nat}{z:List AV}{v fv:AV}{L:List (List AV)}{m o t:SH}{R:AV->SH->Prop}(p:List AV->Bool)(h:Gr sz v L o)(hz:sz≠0)(hzl:z.length=sz)(hg:g=true\/sz=1)(h1:L.length<=1000000)(hlen:∀row∈L,row.length=sz)(T5:g=false->∀row∈L,∀v∈row,v.one=true)
  (hidx:bB P K f [v,fv] (m++(o++t)) (λw s'=>w=CV (L.findIdx? p)/\∃n,s'=n++(m++(o++t))))
  (hf:∀row∈L,∀y:SH,(∀p,p∈t->p∈y)->c6 P K fv [N0 g row] y (λw s'=>w=.bool (p row)/\∃m,s'=m++y)) (hR:∀v' o' x,Gr sz v' (L.filter<|λr=>!p r) o'->R v' (x++(m++(o'++t)))) :
  WP P K none nt (xp g f sz z) (sl0 0 [v,fv]) [] (m++(o++t)) (Fin P [.tmp 4] R) (λ_ _ _ _=>False) (Fin P [.tmp 4] R):=by
 unfold xp
 refine Vk (k:=WO.w<|WS.callF rfl rfl hidx ?_)
 rintro w _ ⟨rfl,n,rfl⟩
 refine Vk (k:=?_)
 cases hfi:L.findIdx? p with
 | none=>
  refine Vk (k:=WP.ret<|Fin.mk (.tmp rfl .nil) ?_)
  have lr:=List.findIdx?_eq_none_iff.1 hfi
  have:L.filter (λr=>!p r)=L:=List.filter_eq_self.2 λr hr=>by rw[lr r hr];rfl
  exact hR v o n (by rw[this];exact h)
 | some i0=>
  obtain⟨IV,YU,X5⟩:=List.findIdx?_eq_some_iff_getElem.1 hfi
  obtain⟨b,n0,c,T,rfl,rfl,hn,hc,hc0⟩:∃b n0 c T,v=.slice (some ⟨b,0,0⟩) n0 c true sz/\o=[(b,.r false (L++T) sz)]/\n0=L.length/\c=L.length+T.length/\0<c:=by
   cases h with
   | nil=>exact absurd IV<|Nat.not_lt_zero _
   | zero=>exact absurd IV<|Nat.not_lt_zero _
   | rows hn hc hL=>exact⟨_,_,_,_,rfl,rfl,hn,hc,hL⟩
  have PJ:eqBy 20 .pi (CV<|some i0) (.int .i64<|.negSucc 0)=some false:=rfl
  refine Vk (k:=?_)
  have hpre:L.take i0=(L.take<|i0+1).filter (λr=>!p r):=by
   rw[List.take_add_one,List.getElem?_eq_getElem IV,List.filter_append]
   have e1:(L.take i0).filter (λr=>!p r)=L.take i0:=List.filter_eq_self.2 λr hr=>by
    obtain⟨j,hj,rfl⟩:=List.getElem_of_mem hr
    rw[List.length_take]at hj
    rw[List.getElem_take]
    have:=X5 j<|by omega
    simpa using this
   rw[e1]
   simp[YU]
  cases g with
  | true=>
  refine WP.loop (λk l ds s'=>ds=[]/\∃i j M x,k=L.length-j/\i<j/\j<=L.length/\M.length=L.length/\M.take i=(L.take j).filter (λr=>!p r)/\M.drop j=L.drop j/\(∀r∈M,r.length=sz)/\s'=x++(m++([(b,HO.r false (M++T) sz)]++t)) /\
   ∀q w,lk [(0,.slice (some ⟨b,0,0⟩) n0 c true sz),(1,fv),(5,.int .i64 (.ofNat i)),(6,.int .i64 (.ofNat j))] q=some w->lk l q=some w) ?_ (n:=L.length-(i0+1)) ⟨rfl,i0,i0+1,L,n,rfl,by omega,IV,rfl,hpre,rfl,hlen,by simp,aa rfl (aa rfl (aa rfl (aa rfl aB)))⟩
  rintro k l ds s' ⟨rfl,i,j,M,x,rfl,hij,PL,Ua,II,T9,Cr,rfl,hl⟩
  refine WP.weak hl (λ_ _ h=>h) ?_
  refine Vk (k:=WP.cond rfl (λht=>?_)<|λht=>?_)
  ·have hlt:j<L.length:=by have:=bh.1 ht;omega
   have hrow:M[j]?=some L[j]:=by
    have:=congrArg (λl=>l[0]?) T9
    simp only[List.getElem?_drop,Nat.add_zero]at this
    rw[this,List.getElem?_eq_getElem hlt]
   have CQ:(M++T)[0+j]?=some L[j]:=by
    rw[Nat.zero_add,List.getElem?_append_left<|by omega];exact hrow
   have hmem:L[j]∈L:=List.getElem_mem hlt
   have hsz:(L[j]).length=sz:=hlen _ hmem
   have CA:i<M.length:=by omega
   have CJ:(M++T)[0+i]?=some M[i]:=by
    rw[Nat.zero_add,List.getElem?_append_left CA];exact List.getElem?_eq_getElem CA
   have hold:(M[i]).length=sz:=Cr _<|List.getElem_mem CA
   have d8:(M++T).set (Nat.add 0 i) L[j]=M.set i L[j]++T:=by
    rw[show Nat.add 0 i=i from Nat.zero_add i,List.set_append_left _ _ CA]
   have step:∀(M':List (List AV))(i':Nat),M'.length=M.length->M'.take i'=(L.take<|j+1).filter (λr=>!p r)->M'.drop (j+1)=M.drop (j+1)->i'<j+1->(∀r∈M',r.length=sz)->M'.length=L.length/\M'.drop (j+1)=L.drop (j+1):=by
    intro M' i' e1 _ e3 _ _
    refine⟨by omega,?_⟩
    rw[e3,<- List.drop_drop (i:=1) (j:=j),T9,List.drop_drop]
   have vq:(L.take<|j+1).filter (λr=>!p r)=M.take i++(if p L[j]then []else [L[j]]):=by
    rw[List.take_add_one,List.getElem?_eq_getElem hlt,List.filter_append,<- II]
    congr 1
    cases nf:p L[j]<;>simp[nf]
   refine Vk (k:=WO.r (.iaddrS rfl rfl (by omega) hz)<|WO.r (.load rfl (.app<|.app<|.left .here) CQ (V0 hsz) rfl)<|WO.a (.alloc hzl) λb7=>WO.w<|WS.store rfl rfl (oI (g:=true) (.inl rfl) hsz<|λh=>by cases h) .here rfl (rS hzl hsz)<|Vk (k:=WO.r (.load rfl .here rfl (V0 hsz) rfl)<|WO.w<|WS.call rfl rfl (hf _ hmem _<|λp hp=>by simp[hp]) ?_))
   rintro w _ ⟨rfl,m',rfl⟩
   refine Vk (k:=WP.cond rfl (λht=>?_)<|λht=>?_)
   ·have nf:p L[j]=false:=by cases nf:p L[j]with | false=>rfl | true=>rw[nf]at ht;cases ht
    refine WP.seq<|WP.ops<|WO.r (.mv rfl)<|WO.r (.mv rfl)<|WO.r (.load rfl (.app .here) rfl (V0 hsz) rfl)<|WO.r (.iaddrS rfl rfl (by omega) hz)<|WO.w<|WS.store rfl rfl (oI (g:=true) (.inl rfl) hsz<|λh=>by cases h) (.app<|.there<|.app<|.app<|.left .here) CJ (rS hold hsz)<|WO.nil<|WP.ops<|WO.r (.mv rfl)<|WO.r (.arith rfl rfl<|bM<|by omega)<|WO.r (.mv rfl)<|WO.nil<|WP.ops<|WO.r (.mv rfl)<|WO.r (.arith rfl rfl<|bM<|by omega)<|WO.r (.mv rfl)<|WO.nil ?_
    rw[d8]
    have nr:(M.set i L[j]).take (i+1)=(L.take<|j+1).filter (λr=>!p r):=by
     rw[vq,nf,List.take_add_one,List.take_set_of_le<|by omega,List.getElem?_set_self CA]
     simp
    have dt:=step (M.set i L[j]) (i+1) (by simp) nr (by rw[List.drop_set_of_lt (by omega)]) (by omega) (λr hr=>by
     rcases List.mem_or_eq_of_mem_set hr with h|h
     ·exact Cr r h
     ·subst h;exact hsz)
    refine⟨L.length-(j+1),by omega,rfl,i+1,j+1,M.set i L[j],(m'++(b7,HO.r false [L[j]] sz)::x),rfl,by omega,by omega,dt.1,nr,dt.2,(λr hr=>by
     rcases List.mem_or_eq_of_mem_set hr with h|h
     ·exact Cr r h
     ·subst h;exact hsz),by simp,aa rfl (aa rfl (aa rfl (aa rfl aB)))⟩
   ·have nf:p L[j]=true:=by cases nf:p L[j]with | true=>rfl | false=>rw[nf]at ht;cases ht
    refine Vk (k:=?_)
    have nr:M.take i=(L.take<|j+1).filter (λr=>!p r):=by rw[vq,nf];simp
    have dt:=step M i rfl nr rfl (by omega) Cr
    refine⟨L.length-(j+1),by omega,rfl,i,j+1,M,(m'++(b7,HO.r false [L[j]] sz)::x),rfl,by omega,by omega,dt.1,nr,dt.2,Cr,by simp,aa rfl<|aa rfl<|aa rfl<|aa rfl aB⟩
  ·refine WP.exit ?_
   have hge:¬j<L.length:=by have:=jv.1 ht;omega
   have hjl:j=L.length:=by omega
   subst hjl
   refine Vk (k:=WO.r (.oO rfl rfl (by omega) (by omega) hz)<|WO.w<|WS.clear (L:=M++T) rfl (by omega) hzl hz (by rw[List.length_append];omega) (.app<|.app<|.left .here)<|Vk (k:=WO.r (.wH rfl rfl<|by omega)<|Vk (k:=WP.ret<|Fin.mk (.tmp rfl .nil) ?_)))
   rw[List.take_length]at II
   have e1:(M++T).take (0+i)=L.filter (λr=>!p r):=by
    rw[Nat.zero_add,List.take_append_of_le_length<|by omega,II]
   have e2:(L.filter<|λr=>!p r).length=i:=by
    rw[<- II,List.length_take];omega
   rw[e1]
   refine hR _ [(b,.r false (L.filter (λr=>!p r)++(List.replicate (n0-i) z++(M++T).drop (0+i+(n0-i)))) sz)] x<|.rows e2.symm ?_<|by omega
   rw[List.length_append,List.length_replicate,List.length_drop,List.length_append,e2]
   omega
  | false=>
  refine WP.loop (λk l ds s'=>ds=[]/\∃i j M x,k=L.length-j/\i<j/\j<=L.length/\M.length=L.length/\M.take i=(L.take j).filter (λr=>!p r)/\M.drop j=L.drop j/\(∀r∈M,r.length=sz)/\s'=x++(m++([(b,HO.r false (M++T) sz)]++t)) /\
   ∀q w,lk [(0,.slice (some ⟨b,0,0⟩) n0 c true sz),(1,fv),(5,.int .i64 (.ofNat i)),(6,.int .i64 (.ofNat j))] q=some w->lk l q=some w) ?_ (n:=L.length-(i0+1)) ⟨rfl,i0,i0+1,L,n,rfl,by omega,IV,rfl,hpre,rfl,hlen,by simp,aa rfl (aa rfl (aa rfl (aa rfl aB)))⟩
  rintro k l ds s' ⟨rfl,i,j,M,x,rfl,hij,PL,Ua,II,T9,Cr,rfl,hl⟩
  refine WP.weak hl (λ_ _ h=>h) ?_
  refine Vk (k:=WP.cond rfl (λht=>?_)<|λht=>?_)
  ·have hlt:j<L.length:=by have:=bh.1 ht;omega
   have hrow:M[j]?=some L[j]:=by
    have:=congrArg (λl=>l[0]?) T9
    simp only[List.getElem?_drop,Nat.add_zero]at this
    rw[this,List.getElem?_eq_getElem hlt]
   have CQ:(M++T)[0+j]?=some L[j]:=by
    rw[Nat.zero_add,List.getElem?_append_left<|by omega];exact hrow
   have hmem:L[j]∈L:=List.getElem_mem hlt
   have hsz:(L[j]).length=sz:=hlen _ hmem
   have CA:i<M.length:=by omega
   have CJ:(M++T)[0+i]?=some M[i]:=by
    rw[Nat.zero_add,List.getElem?_append_left CA];exact List.getElem?_eq_getElem CA
   have hold:(M[i]).length=sz:=Cr _<|List.getElem_mem CA
   have d8:(M++T).set (Nat.add 0 i) L[j]=M.set i L[j]++T:=by
    rw[show Nat.add 0 i=i from Nat.zero_add i,List.set_append_left _ _ CA]
   have step:∀(M':List (List AV))(i':Nat),M'.length=M.length->M'.take i'=(L.take<|j+1).filter (λr=>!p r)->M'.drop (j+1)=M.drop (j+1)->i'<j+1->(∀r∈M',r.length=sz)->M'.length=L.length/\M'.drop (j+1)=L.drop (j+1):=by
    intro M' i' e1 _ e3 _ _
    refine⟨by omega,?_⟩
    rw[e3,<- List.drop_drop (i:=1) (j:=j),T9,List.drop_drop]
   have vq:(L.take<|j+1).filter (λr=>!p r)=M.take i++(if p L[j]then []else [L[j]]):=by
    rw[List.take_add_one,List.getElem?_eq_getElem hlt,List.filter_append,<- II]
    congr 1
    cases nf:p L[j]<;>simp[nf]
   refine WP.skip<|WP.seq<|WP.block<|WP.seq<|WP.ops<|WO.r (.mv rfl)<|WO.r (.mv rfl)<|WO.r (.iaddrS rfl rfl (by omega) hz)<|WO.r (.load rfl (.app<|.app<|.left .here) CQ (V0 hsz)<|ru hg hsz)<|WO.r (.mv rfl)<|WO.nil<|WP.seq<|WP.ops<|WO.r (.mv rfl)<|WO.r (.mv rfl)<|WO.w<|WS.call rfl rfl (hf _ hmem _<|λp hp=>by simp[hp]) ?_
   rintro w _ ⟨rfl,m',rfl⟩
   refine Vk (k:=WP.cond rfl (λht=>?_)<|λht=>?_)
   ·have nf:p L[j]=false:=by cases nf:p L[j]with | false=>rfl | true=>rw[nf]at ht;cases ht
    refine WP.seq<|WP.ops<|WO.r (.mv rfl)<|WO.r (.mv rfl)<|WO.r (.mv rfl)<|WO.r (.iaddrS rfl rfl (by omega) hz)<|WO.w<|WS.store rfl rfl (oI hg hsz<|λ_=>T5 rfl _ hmem) (.app<|.app<|.app<|.left .here) CJ (rS hold hsz)<|WO.nil<|WP.ops<|WO.r (.mv rfl)<|WO.r (.arith rfl rfl<|bM<|by omega)<|WO.r (.mv rfl)<|WO.nil<|WP.ops<|WO.r (.mv rfl)<|WO.r (.arith rfl rfl<|bM<|by omega)<|WO.r (.mv rfl)<|WO.nil ?_
    rw[d8]
    have nr:(M.set i L[j]).take (i+1)=(L.take<|j+1).filter (λr=>!p r):=by
     rw[vq,nf,List.take_add_one,List.take_set_of_le<|by omega,List.getElem?_set_self CA]
     simp
    have dt:=step (M.set i L[j]) (i+1) (by simp) nr (by rw[List.drop_set_of_lt (by omega)]) (by omega) (λr hr=>by
     rcases List.mem_or_eq_of_mem_set hr with h|h
     ·exact Cr r h
     ·subst h;exact hsz)
    refine⟨L.length-(j+1),by omega,rfl,i+1,j+1,M.set i L[j],(m'++x),rfl,by omega,by omega,dt.1,nr,dt.2,(λr hr=>by
     rcases List.mem_or_eq_of_mem_set hr with h|h
     ·exact Cr r h
     ·subst h;exact hsz),by simp,aa rfl (aa rfl (aa rfl (aa rfl aB)))⟩
   ·have nf:p L[j]=true:=by cases nf:p L[j]with | true=>rfl | false=>rw[nf]at ht;cases ht
    refine Vk (k:=?_)
    have nr:M.take i=(L.take<|j+1).filter (λr=>!p r):=by rw[vq,nf];simp
    have dt:=step M i rfl nr rfl (by omega) Cr
    refine⟨L.length-(j+1),by omega,rfl,i,j+1,M,(m'++x),rfl,by omega,by omega,dt.1,nr,dt.2,Cr,by simp,aa rfl<|aa rfl<|aa rfl<|aa rfl aB⟩
  ·refine WP.exit ?_
   have hge:¬j<L.length:=by have:=jv.1 ht;omega
   have hjl:j=L.length:=by omega
   subst hjl
   refine Vk (k:=WO.r (.oO rfl rfl (by omega) (by omega) hz)<|WO.w<|WS.clear (L:=M++T) rfl (by omega) hzl hz (by rw[List.length_append];omega) (.app<|.app<|.left .here)<|Vk (k:=WO.r (.wH rfl rfl<|by omega)<|Vk (k:=WP.ret<|Fin.mk (.tmp rfl .nil) ?_)))
   rw[List.take_length]at II
   have e1:(M++T).take (0+i)=L.filter (λr=>!p r):=by
    rw[Nat.zero_add,List.take_append_of_le_length<|by omega,II]
   have e2:(L.filter<|λr=>!p r).length=i:=by
    rw[<- II,List.length_take];omega
   rw[e1]
   refine hR _ [(b,.r false (L.filter (λr=>!p r)++(List.replicate (n0-i) z++(M++T).drop (0+i+(n0-i)))) sz)] x<|.rows e2.symm ?_<|by omega
   rw[List.length_append,List.length_replicate,List.length_drop,List.length_append,e2]
   omega
end
end Go.Ev
namespace Go.Ev
section
variable {P:Program}{K:Orc}{rd:Option Nat}{nt:Nat}{l:Sl}{ds:List cD}{s:SH}{Q Qn Qr:Po}{Qe:Nat->Po}
def B5 (bytes:Nat)(z:List AV):AC:=oN [zo 4 (.mv (.const (.slice none 0 0)))] (oN [zo 5 (.mv (.const (.slice none 0 0)))] (.seq (oN [zm 8 0,zo 9 (.lenS 8),zo 10 (.mv (zc 0))] (.block 0 (.loop (oN [zo 11 (.arith .lss 10 9)] (.seq (.cond 11 .skip (.exit 0)) (.seq (.block 1 (oN [zo 12 (.iaddrS 1 8 10),zl 13 12,zm 7 13] (.ops [zm 14 5,zm 15 1,zm 16 7,zo 17 (.call 15 [16]),zo 18 (.bslice 1 1 z [⟨0,17⟩]),zo 19 (.append 1 bytes 14 18),zm 5 19]))) (.ops [zo 20 (.arith .add 10 (zc 1)),zm 10 20]))))))) (oN [zm 21 5,zm 4 21] .ret)))
theorem B6 {bytes:Nat}{z:List AV}{v fv:AV}{L:List (List AV)}{R:AV->SH->Prop}(C:Nat->List AV->List AV->SH->Prop)(h:Src s 1 v L)(h1:L.length<=900000)(h2:bytes<=100000)(hlen:∀row∈L,row.length=1)
  (hf:∀(i:Nat)row,L[i]?=some row->∀x:SH,c6 P K fv [N0 false row] (x++s) (λw s'=>∃m row',s'=m++(x++s)/\partCells 1 w=some row'/\C i row row' m)) (hR:∀v' L' o n,Gr 1 v' L' o->kh C L L' n->R v' (o++(n++s))) :
  WP P K none nt (B5 bytes z) (sl0 0 [v,fv]) [] s (Fin P [.tmp 4] R) (λ_ _ _ _=>False) (Fin P [.tmp 4] R):=by
 unfold B5
 refine Vk (k:=WO.r (.lenS rfl h.lenOf)<|WO.r (.mv rfl)<|WO.nil<|WP.block ?_)
 refine WP.loop (λk l ds s'=>ds=[]/\∃i ov L' o n,k=L.length-i/\i<=L.length/\Gr 1 ov L' o/\kh C (L.take i) L' n/\s'=o++(n++s) /\
  ∀j w,lk [(8,v),(9,.int .i64 (.ofNat L.length)),(10,.int .i64 (.ofNat i)),(5,ov),(1,fv)] j=some w->lk l j=some w) ?_ ⟨rfl,0,_,[],[],[],rfl,Nat.zero_le _,.nil,.nil,rfl,aa rfl (aa rfl (aa rfl (aa rfl (aa rfl aB))))⟩
 rintro k l ds s' ⟨rfl,i,ov,L',o,n,rfl,hi,hG,hA,rfl,hl⟩
 refine WP.weak hl (λ_ _ h=>h) ?_
 refine Vk (k:=WP.cond rfl (λht=>?_)<|λht=>?_)
 ·have hlt:i<L.length:=bh.1 ht
  obtain⟨b,r,n0,c,sl,ro,M,rfl,hb,hn,hM⟩:=h.at hlt
  have hrow:L[i]?=some L[i]:=List.getElem?_eq_getElem hlt
  have hmem:L[i]∈L:=List.getElem_mem hlt
  have hsz:(L[i]).length=1:=hlen _ hmem
  refine WP.skip<|WP.seq<|WP.block<|WP.seq<|WP.ops<|WO.r (.iaddrS rfl rfl hn<|by omega)<|WO.r (.load rfl (.app<|.app hb) (hM.trans hrow) (V0 hsz)<|ru (.inr rfl) hsz)<|WO.r (.mv rfl)<|WO.nil<|WP.ops<|WO.r (.mv rfl)<|WO.r (.mv rfl)<|WO.r (.mv rfl)<|WO.w<|WS.call rfl rfl (R':=λw s'=>∃m row',s'=m++((o++n)++s)/\partCells 1 w=some row'/\C i L[i] row' m) ?_ ?_
  ·grind
  ·rintro w _ ⟨m,row',rfl,hw,XM⟩
   refine WO.a (.bslice (fZ rfl hw) rfl) λH6=>?_
   have e:(H6,HO.r false [row'] 1)::(m++((o++n)++s))=((H6,HO.r false [row'] 1)::m)++(o++(n++s)):=by simp
   rw[e]
   have hlen':L'.length+1<=901000:=by
    have:=hA.len
    grind
   refine WO.w<|WS.append_gr rfl hG rfl (Src.all<|.left .here) (by omega) hlen' h2 λv' o' j pI=>Vk (k:=?_)
   refine⟨L.length-(i+1),by omega,rfl,i+1,v',L'++[row'],o',[(H6,HO.r false [row'] 1)]++(m++(j++n)),rfl,hlt,pI,?_,by simp,aa rfl<|aa rfl<|aa rfl<|aa rfl<|aa rfl aB⟩
   rw[List.take_add_one,hrow]
   exact kh.snoc (y:=j) hA<|by grind
 ·refine WP.exit ?_
  have hge:¬i<L.length:=jv.1 ht
  have:i=L.length:=by omega
  subst this
  rw[List.take_length]at hA
  refine Vk (k:=WP.ret<|Fin.mk (.tmp rfl .nil) ?_)
  exact hR _ _ _ _ hG hA
def NX (sz bytes:Nat)(z:List AV):AC:=oN [zo 6 (.mv (.const (.slice none 0 0)))] (oN [zm 8 0,zm 9 1,zm 10 2,zm 11 0,zo 12 (.lenS 11),zo 13 (.slc sz 8 (some 9) (some 10) (some 12))] (.seq (oN [zm 14 1,zm 15 2,zo 16 (.eql false .pi 14 15)] (.cond 16 (oN [zm 17 0,zm 6 17] .ret) .skip)) (oN [zm 18 0,zo 19 (.lenS 18),zm 7 19] (.seq (.drawn 0 [zp (zm 20 0) 0,zp (zm 21 1) 0,zp (zo 22 (.slc sz 20 none (some 21) none)) 3,zp (zm 23 0) 0,zp (zm 24 2) 0,zp (zo 25 (.slc sz 23 (some 24) none none)) 24,zh (zo 26 (.append sz bytes 22 25)) 63,zp (zm 0 26) 127]) (oN [zm 27 0,zm 28 0,zo 29 (.lenS 28),zm 30 7,zo 31 (.slc sz 27 (some 29) (some 30) none),zn (.clear sz z 31)] (oN [zm 32 0,zm 6 32] .ret))))))
theorem iR {x:Operand}{q:IntKind}{j y d:Nat}(hx:opl l x=some (.int q (.ofNat j)))(hj:j<=y):cL (opl l) y d (some x)=some j:=by
 simp only[cL,hx,bnd,show Nat.ble j y=true from Nat.ble_eq_true_of_le hj]
theorem WR.ZD {sz:Nat}{x lo hi mx:Operand}{b r n c i j m:Nat}{sl:Bool}{q1 q2 q3:IntKind}(hx:opl l x=some (.slice (some ⟨b,r,0⟩) n c sl sz))(h1:opl l lo=some (.int q1 (.ofNat i)))(h2:opl l hi=some (.int q2 (.ofNat j)))(h3:opl l mx=some (.int q3 (.ofNat m)))(hij:i<=j)(hjm:j<=m)(hmc:m<=c)(hs:sz≠0):∃v,WR P (.slc sz x (some lo) (some hi) (some mx)) l s v/\True:=by
 have e:∃v,∀e H,En l e->aval P H (bL e) (.slc sz x (some lo) (some hi)<|some mx)=some (v,H):=by
  by_cases h0:(Nat.beq i 0||Nat.beq i m)=true
  ·refine⟨.slice (some ⟨b,r,0⟩) (Nat.sub j i) (Nat.sub m i) false sz,λe H he=>?_⟩
   simp only[aval,aG he hx,c7 (λ_ _ h=>aG he h) (iR h3 hmc:cL (opl l) c c (some mx)=some m),c7 (λ_ _ h=>aG he h) (iR h2 hjm:cL (opl l) m 0 (some hi)=some j),c7 (λ_ _ h=>aG he h) (iR h1 hij:cL (opl l) j 0 (some lo)=some i),aL,h0]
  ·refine⟨.slice (some ⟨b,r+i,0⟩) (Nat.sub j i) (Nat.sub m i) false sz,λe H he=>?_⟩
   have h0:(Nat.beq i 0||Nat.beq i m)=false:=by
    grind
   simp only[aval,aG he hx,c7 (λ_ _ h=>aG he h) (iR h3 hmc:cL (opl l) c c (some mx)=some m),c7 (λ_ _ h=>aG he h) (iR h2 hjm:cL (opl l) m 0 (some hi)=some j),c7 (λ_ _ h=>aG he h) (iR h1 hij:cL (opl l) j 0 (some lo)=some i),aL,h0,elemAt]
   simp_all
 obtain⟨v,hv⟩:=e
 exact⟨v,WR.mk' (λ_ _ _ _ _=>rfl) hv,trivial⟩
theorem WR.FQ {sz:Nat}{x i:Operand}{b n c j:Nat}{q:IntKind}{L T:List (List AV)}(hx:opl l x=some (.slice (some ⟨b,0,0⟩) n c true sz))(hi:opl l i=some (.int q (.ofNat j)))(hn:n=L.length)(hc:c=L.length+T.length)(hb:Has b (.r false (L++T) sz) s)(hj:j<=n)(h0:0<j)(hs:sz≠0):∃v,WR P (.slc sz x (some i) none none) l s v/\Src s sz v (L.drop j):=by
 by_cases hjc:j<c
 ·refine⟨_,WR.oO hx hi hj hjc hs,?_⟩
  have:=Src.rows (r:=0+j) (n:=n-j) (c:=c-j) (sl:=true) hb<|by grind
  grind
 ·have:L.drop j=[]:=List.drop_eq_nil_of_le (by omega)
  rw[this]
  refine⟨.empty,WR.mk' (λ_ _ _ _ _=>rfl)<|λe H he=>?_,.emp⟩
  obtain rfl:n=j:=by omega
  obtain rfl:c=n:=by omega
  have h1:Nat.beq c 0=false:=by cases c with | zero=>grind | succ j=>rfl
  have h2:Nat.blt c c=false:=jv.2<|Nat.lt_irrefl _
  simp only[aval,aG he hx,c7 (λ_ _ h=>aG he h)<|show cL (opl l) c c none=some c from rfl,c7 (λ_ _ h=>aG he h) (iR hi (Nat.le_refl _):cL (opl l) c 0 (some i)=some c),aL,h1,h2,dn]
  grind
theorem WO.rx {d:Option Nat}{op:AOp}{rest:List bS}{C:AV->Prop}(h:∃v,WR P op l s v/\C v)(k:∀v,C v->WO P K rest (pl d v l) ds s Q):WO P K (⟨d,op,none⟩::rest) l ds s Q:=by
 obtain⟨v,h1,h2⟩:=h
 exact WO.r h1<|k v h2
theorem WD.px {j:Nat}{bs:List Nat}{pd:List PD}{d:Option Nat}{op:AOp}{lo hi a:Nat}{rest:List DC}{hs:List SH}{os:List OB}{is:List Nat}{C:AV->Prop}(h:∃v,WR P op l s v/\C v)(k:∀v,C v->WD P K rd rest (j+1) bs pd hs os is (pl d v l) ds s Q):WD P K rd (⟨⟨d,op,none⟩,.pure,lo,hi,a⟩::rest) j bs pd hs os is l ds s Q:=by
 obtain⟨v,h1,h2⟩:=h
 exact WD.pu h1<|k v h2
theorem WR.J6 {sz:Nat}{x lo hi:Operand}{b r n c i j:Nat}{sl:Bool}{q1 q2:IntKind}(hx:opl l x=some (.slice (some ⟨b,r,0⟩) n c sl sz))(h1:opl l lo=some (.int q1 (.ofNat i)))(h2:opl l hi=some (.int q2 (.ofNat j)))(hij:i<=j)(hj:j<=c)(hic:i<c)(hs:sz≠0):WR P (.slc sz x (some lo) (some hi) none) l s (.slice (some ⟨b,r+i,0⟩) (j-i) (c-i) sl sz):=by
 cases i with
 | zero=>exact WR.wG (c:=c) (m:=j) hx (iR h2 hj)<|iR h1 hij
 | succ i=>exact WR.FN hx (iR h2 hj) (iR h1 hij) (by omega) hic hs
theorem NY {sz bytes:Nat}{z:List AV}{v:AV}{L:List (List AV)}{m o t:SH}{i:Nat}{R:AV->SH->Prop}(h:Gr sz v L o)(hz:sz≠0)(hzl:z.length=sz)(hi:i<L.length)(h1:L.length<=1000000)(hR:∀v' o',Gr sz v' (L.eraseIdx i) o'->R v' (m++(o'++t))) :
  WP P K none nt (NX sz bytes z) (sl0 0 [v,.int .i64<|.ofNat i,.int .i64<|.ofNat<|i+1]) [] (m++(o++t)) (Fin P [.tmp 6] R) (λ_ _ _ _=>False) (Fin P [.tmp 6] R):=by
 obtain⟨b,n0,c,T,rfl,rfl,hn,hc,hc0⟩:∃b n0 c T,v=.slice (some ⟨b,0,0⟩) n0 c true sz/\o=[(b,.r false (L++T) sz)]/\n0=L.length/\c=L.length+T.length/\0<c:=by
  cases h with
  | nil=>exact absurd hi<|Nat.not_lt_zero _
  | zero=>exact absurd hi<|Nat.not_lt_zero _
  | rows hn hc hL=>exact⟨_,_,_,_,rfl,rfl,hn,hc,hL⟩
 unfold NX
 refine Vk (k:=WO.rx (WR.ZD rfl rfl rfl rfl (by omega) (by omega) (by omega) hz) λv3 _=>WO.nil ?_)
 have hne:eqBy 20 .pi (.int .i64<|.ofNat i) (.int .i64<|.ofNat<|i+1)=some false:=by
  show some (Nat.beq i<|i+1)=some false
  have:Nat.beq i (i+1)=false:=by
   cases h:Nat.beq i (i+1) with
   | false=>rfl
   | true=>have:=Nat.eq_of_beq_eq_true h;omega
  rw[this]
 refine Vk (k:=WP.bD ?_)
 refine WD.pu (.mv rfl)<|WD.pu (.mv rfl)<|WD.pu (.wH rfl rfl<|by omega)<|WD.pu (.mv rfl)<|WD.pu (.mv rfl) ?_
 refine WD.px (WR.FQ (L:=L) (T:=T) rfl rfl hn hc (.app<|.left .here) (by omega) (by omega) hz) λv25 hS=>?_
 -- behind the append: the rest has aaT down by one
 have rest:∀(T':List (List AV))(l':Sl)(hs:List SH),T'.length=T.length+1->lk l' 26=some (.slice (some ⟨b,0,0⟩) (n0-1) c true sz)->lk l' 7=some (.int .i64<|.ofNat n0)->WD P K none [⟨⟨(some 0),(.mv<|.tmp 26),none⟩,.pure,0,0,127⟩] 7 [] [] hs [] [] l' [] (m++([(b,HO.r false (L.eraseIdx i++T') sz)]++t))
   (λl ds s=>WP P K none nt (oN [zm 27 0,zm 28 0,zo 29<|.lenS 28,zm 30 7,zo 31<|.slc sz 27 (some 29) (some 30) none,zn<|.clear sz z 31]<|oN [zm 32 0,zm 6 32] .ret) l ds s (Fin P [.tmp 6] R) (λ_ _ _ _=>False)<|Fin P [.tmp 6] R):=by
  intro T' l' hs hT' VX h7
  have IU:(L.eraseIdx i).length=n0-1:=by rw[List.length_eraseIdx_of_lt hi];omega
  refine WD.pu (.mv VX)<|WD.nil .nil ?_<|λo h=>nomatch h
  refine WP.seq<|WP.ops<|WO.r (.mv rfl)<|WO.r (.mv rfl)<|WO.r (.lenS rfl rfl)<|WO.r (.mv h7)<|WO.r (WR.J6 rfl rfl rfl (by omega) (by omega) (by omega) hz)<|WO.w<|WS.clear (L:=L.eraseIdx i++T') rfl (by omega) hzl hz (by rw[List.length_append];omega) (.app<|.left .here)<|Vk (k:=WP.ret<|Fin.mk (.tmp rfl .nil) ?_)
  have e1:(L.eraseIdx i++T').take (0+(n0-1))=L.eraseIdx i:=by
   rw[Nat.zero_add,<- IU,List.take_left]
  rw[e1]
  refine hR _ [(b,.r false (L.eraseIdx i++(List.replicate (n0-(n0-1)) z++(L.eraseIdx i++T').drop (0+(n0-1)+(n0-(n0-1))))) sz)]<|.rows IU.symm ?_ hc0
  rw[List.length_append,List.length_replicate,List.length_drop,List.length_append,IU]
  omega
 have her:L.eraseIdx i=L.take i++L.drop (i+1):=List.eraseIdx_eq_take_drop_succ L i
 by_cases hN:L.drop (i+1)=[]
 ·rw[hN]at hS
  refine WD.ch .nil<|WS.append_none rfl rfl hS hz (by omega) ?_
  have hin:i=n0-1:=by
   have:=congrArg List.length hN
   rw[List.length_drop,List.length_nil]at this
   omega
  have e:L++T=L.eraseIdx i++(L[i]::T):=by
   rw[her,hN,List.append_nil]
   have:L=L.take i++L.drop i:=(List.take_append_drop i L).symm
   rw[List.drop_eq_getElem_cons hi,hN]at this
   exact(congrArg (·++T) this).trans (List.append_assoc _ _ _)
  rw[e]
  exact rest (L[i]::T) _ _ (by simp) (by rw[<- hin];rfl) rfl
 ·have dP:(L.drop<|i+1).length=n0-(i+1):=by rw[List.length_drop];omega
  have e:L++T=L.take i++(L.drop i++T):=by rw[<- List.append_assoc,List.take_append_drop]
  have e2:∀H,(H=L++T)->HO.r false H sz=HO.r false (L.take i++(L.drop i++T)) sz:=λH h=>by rw[h,e]
  refine WD.ch .nil<|WS.aaU (s':=m++([(b,HO.r false (L.take i++(L.drop (i+1)++(L.drop i++T).drop (L.drop<|i+1).length)) sz)]++t)) (L:=L.take i) (T:=L.drop i++T) (N:=L.drop<|i+1) rfl (by rw[List.length_take];omega) (by rw[List.length_take,List.length_append,List.length_drop];omega) ?_ rfl hS hz hN (by rw[dP,List.length_append,List.length_drop];omega) ?_
  ·rw[e2 _ rfl];exact .app<|.left .here
  ·have:i+(L.drop<|i+1).length=n0-1:=by rw[dP];omega
   have e3:∀X,L.take i++(L.drop (i+1)++X)=L.eraseIdx i++X:=λX=>by rw[her,List.append_assoc]
   rw[this,e3]
   exact rest _ _ _ (by rw[dP,List.length_drop,List.length_append,List.length_drop];omega) rfl rfl
end
end Go.Ev
