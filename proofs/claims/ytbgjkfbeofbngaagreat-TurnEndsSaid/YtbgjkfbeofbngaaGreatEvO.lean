/- Walks and rules. Conditions: none. -/
import Derived.Test.YtbgjkfbeofbngaaGreatEvN
set_option linter.unusedVariables false
set_option linter.unusedSectionVars false
namespace Go.Ev
noncomputable section
section
variable {P:Program}{K:Orc}{rd:Option Nat}{nt:Nat}{l:Sl}{ds:List aD}{s:SH}{Q Qn Qr:Po}{Qe:Nat->Po}{F:Nat->FuncId}{T:Nat->TypeId}{bf bl:Nat}{aZ bE:AV}{c0 c1 c2 c3 c4:Int}{EL:List (List AV)}{d:SD}{t:SH}{tF:TypeId}{C:List CD}{n f:Nat}
variable {ac:Nat}{o:LD}
theorem abc (N:NEnv P K F T tF)(hP:gK C)(h:TE n f d)(hn:n<=400)(cM:f<=90)(hac:d.ac=.ofNat ac)(dM:ac<3)(ho:d.pl[ac]?=some o)(hf:Has bf (.r false [bu bl aZ c0 c1 c2 c3 c4 bE] 8) t)(eQ:cI t aZ C)(hE:EL.length<=2900)(hs:aH bl EL d t s){R:SH->Prop}
  (hR:∀E2 q s2,E2.length<=EL.length+10->q<3->aH bl E2 { d with ph:=.ofNat 7,pr:=.ofNat q,pa:=0 } t s2->R s2) :
  bB P K (F 413) [gm tF bf,iv<|.ofNat 7] s (λ_ s'=>R s'):=by
 have hge:=h.ge N hP (by omega) cM
 have e13:binV .lss (iv<|.ofNat 7) (iv<|.ofNat 0)=some (.bool false):=rfl
 have e17:binV .gtr (iv<|.ofNat 7) (iv<|.ofNat 9)=some (.bool false):=rfl
 refine N.hV.ael.cF ?_
 unfold adk
 refine Wq<|Wa (.box rfl rfl) λb2=>Wn<|Ws<|Wq<|Wl rfl .here rfl rfl rfl<|Wh (b:=false) rfl rfl rfl<|Wv rfl<|Wy<|Wv rfl<|Wy<|Wj rfl rfl e17<|Wr (.bj rfl rfl)<|Wv rfl<|Wy<|Wv rfl<|Wy<|Wj rfl rfl e17<|Wr (.bj rfl rfl)<|Wn<|Wd rfl fS<|λ_=>Wi<|Wq<|Wl rfl .here rfl rfl rfl<|Wr (.build rfl rfl)<|Wa (.alloc rfl) λb4=>Ww<|Wt (s':=(b4,.r false [bI [] (bI (Prod.snd (Prod.fst (0,1,Operand.tmp 19),[gm tF bf]))<|cu (aK<|Prod.snd (Prod.fst (0,1,Operand.tmp 19),[gm tF bf]))<|cu (Prod.fst (Prod.fst (0,1,Operand.tmp 19),[gm tF bf])) [AV.nilIface])] 1)::_) rfl rfl rfl .here rfl rfl<|Wn<|Wq<|Wl (cs:=bI []<|bI (Prod.snd (Prod.fst (0,1,Operand.tmp 19),[gm tF bf]))<|cu (aK<|Prod.snd (Prod.fst (0,1,Operand.tmp 19),[gm tF bf]))<|cu (Prod.fst (Prod.fst (0,1,Operand.tmp 19),[gm tF bf])) [AV.nilIface]) rfl .here rfl rfl rfl<|Wv rfl ?_
 have nr:aH bl EL d ((b4,HO.r false [[gm tF bf]] 1)::(b2,HO.r false [[gm tF bf]] 1)::t) ((b4,HO.r false [[gm tF bf]] 1)::(b2,HO.r false [[gm tF bf]] 1)::s):=hs.cons.cons
 refine Ww<|W1 ((TG N h (by omega) cM (p:=7)<|by omega).go (.there<|.there hf) (by omega) nr) ?_
 intro _ s2 dt
 have hT1:TE n f { d with ph:=.ofNat 7 }:=h.other (tu:=d.tu) (ac:=d.ac) (ph:=.ofNat 7) (pr:=d.pr) (pa:=d.pa) (bl:=d.bl) h.pl
 have aau:=hT1.ge N hP (by omega) cM
 have hb4:=dt.mem .here
 have zB:=dt.mem<|.there .here
 refine Wn<|Wq<|Wf rfl<|Wl rfl hb4 rfl rfl rfl<|Ww<|WS.invoke (vs:=[]) rfl (N.info ) rfl ( kM N.hB N.hI N.t128 dt aau.hd (.there<|.there hf)) ?_
 rintro _ s3 ⟨rfl,gw⟩
 have l1:part false (dh { d with ph:=.ofNat 7 }) 1 1=some (iv<|.ofNat ac):=by show some (iv d.ac)=_;rw[hac]
 refine Wr (.fld rfl l1)<|Wa (.alloc rfl) λb5=>Ww<|Wt (s':=(b5,.r false [[iv (Int.ofNat ac)]] 1)::_) rfl rfl rfl .here rfl rfl<|Wn<|Wq<|Wa .mkmap λb28=>Wr (.mkfn rfl rfl)<|Ww<|WS.ins rfl rfl rfl .here rfl<|Wr (.mkfn rfl rfl)<|Ww<|WS.ins rfl rfl rfl .here rfl<|Wr (.mkfn rfl rfl)<|Ww<|WS.ins rfl rfl rfl .here rfl<|Wr (.mkfn rfl rfl)<|Ww<|WS.ins rfl rfl rfl .here rfl<|Wv rfl<|Wv rfl<|Wn<|Ws<|Wq<|Wv rfl<|Wv rfl<|Wr (.look rfl rfl .here rfl)<|Wv rfl<|Wr (.extract rfl rfl)<|Wr (.extract rfl rfl)<|Wv rfl<|Wv rfl<|Wn<|Wq<|Wv rfl<|Wn<|Wd rfl (λ_=>Wo<|Wv rfl ?_) Dz
 have Gt:({ d with ph:=.ofNat 7 }:SD).pl[ac]?=some o:=ho
 refine Ww<|WS.call (vs:=[]) rfl rfl (c6.func<|aea N hP hT1 (by omega) cM (.there<|.there<|.there hf) (eQ.mono λq hq=>by simp[hq]) (b2:=b2) (.there<|.there .here)<|aH.bK (m:=[_])<|gw.cons (p:=(b5,HO.r false [[iv (.ofNat ac)]] 1))) ?_
 intro _ s4 pM
 refine Wn ?_
 refine Wg (bX rfl) (λ_ _ h=>h)<|aad N hP (.of hT1) (by omega) cM (w:=0) (by omega) dM (o:=o) ho hf (by rw[List.length_append,List.length_singleton];omega) pM λE3 q l2 s5 j1 j2 j3=>Wm .nil<|hR E3 q s5 (by rw[j1,List.length_append,List.length_singleton];omega) ?_ j3
 rw[j2]
 unfold aal
 split
 ·exact qc dM
 ·exact dM
structure agN (n f q:Nat)(d D:SD):Prop where
 te:TE (n+q) f D
 pl:PlK d.pl D.pl
 tu:D.tu=d.tu
 ac:D.ac=d.ac
 ph:D.ph=d.ph
 nx:D.nx<=d.nx+q
variable {D:SD}
theorem PlK.lost (h:PlK d.pl D.pl)(p:Nat):fE D p=fE d p:=by
 have:=h p
 unfold fE
 cases h1:D.pl[p]?<;>cases h2:d.pl[p]?<;>simp[h1,h2]at this |-
 exact this.2.1.symm
theorem PlK.next (h:PlK d.pl D.pl)(a:Nat):dT D a=dT d a:=by unfold dT;simp only[h.lost]
variable {m:SH}{v:AV}
theorem gz.cut {lst:List Int}(h:gz m 1 v (nR lst)):∃a c sl rw,v=.slice a lst.length c sl rw/\lst.length<=c/\(0<lst.length->rw=1/\∃(b:Nat)(M:List (List AV)),a=some ⟨b,0,0⟩/\Has b (.r false M 1) m/\∀(i:Nat)(id:Int),lst[i]?=some id->M[i]?=some [iv id]):=by
 generalize hL:nR lst=L at h
 have hn:lst.length=L.length:=by rw[<- hL,gq]
 cases h with
 | nil=>exact⟨none,0,false,_,by rw[hn];rfl,by rw[hn];exact Nat.le_refl _,λh=>absurd h (by rw[hn];exact Nat.lt_irrefl _)⟩
 | zero=>exact⟨_,0,false,_,by rw[hn];rfl,by rw[hn];exact Nat.le_refl _,λh=>absurd h (by rw[hn];exact Nat.lt_irrefl _)⟩
 | @rows b k c _ R hb hk hc hne=>
  refine⟨some ⟨b,0,0⟩,c,true,1,by rw[hk,hn],by rw[hc,hn];exact Nat.le_add_right ..,λ_=>⟨rfl,b,L++R,rfl,hb,λi id hi=>?_⟩⟩
  have hlt:=(List.getElem?_eq_some_iff.1 hi).1
  rw[List.getElem?_append_left (by rw[<- hn];exact hlt),<- hL]
  unfold nR
  rw[List.getElem?_map,hi]
  rfl
variable {p:Nat}
theorem aeS (N:NEnv P K F T tF)(h:TE n f d)(hn:n<=400)(cM:f<=90)(hp:p<3)(ht:0<=d.tu/\d.tu<=1000000):DoT P K F tF 20 (.ofNat p) 0 d { d with tu:=d.tu+1,ac:=.ofNat p }:=by
 have vj:=h.small (by omega)<|by omega
 have UO:p<d.pl.length:=by rw[h.pl];exact hp
 exact aam N vj (by decide) (by decide) (by decide) (by decide) (abj N.hB N.hW.f271 vj h.ev UO ht (N.says.turn p · hp))
theorem adz (N:NEnv P K F T tF)(hP:gK C)(h:TE n f d)(hn:n<=150)(cM:f<=90)(hac:d.ac=.ofNat ac)(dM:ac<3)(htu:0<=d.tu/\d.tu<c4)(hc4:c4<=1000)(YI:d.nx<=200)(hf:Has bf (.r false [bu bl aZ c0 c1 c2 c3 c4 bE] 8) t)(hE:EL.length<=2900)(hs:aH bl EL d t s) :
  bB P K (F 132) [.agg [gm tF bf]] s (λv s'=>v=iv 0/\∃E2 D2,E2.length<=EL.length+200/\agN n f n d D2/\aH bl E2 { D2 with tu:=d.tu+1,ac:=.ofNat (dT d ac) } t s'):=by
 have hge:=h.ge N hP (by omega) cM
 refine N.hV.f132.cF ?_
 unfold agT
 refine Vk (k:=λb1=>Vk (k:=?_))
 have nr:aH bl EL d ((b1,HO.r false [[gm tF bf]] 1)::t) ((b1,HO.r false [[gm tF bf]] 1)::s):=hs.cons
 refine Ww<|W1 (aaf hge N.hV (.there hf) h.all nr λo t' s1 ho hq h1=>c6.func<|(aco N.hV (h.o o ho).id).post λ_ s2⟨m,hm⟩=>hm▸h1.bK) ?_
 intro _ s4 pM
 have vn:=pM.mem .here
 refine Vk (k:=Ww<|WS.invoke (vs:=[]) rfl (N.info ) rfl ( kM N.hB N.hI N.t128 pM hge.hd (.there hf)) ?_)
 rintro _ s5 ⟨rfl,tn⟩
 have l1:part false (dh d) 1 1=some (iv<|.ofNat ac):=by show some (iv d.ac)=_;rw[hac]
 have vn:=tn.mem .here
 refine Wr (.fld rfl l1)<|Wv rfl<|Wn<|Ws<|Wq<|Wf rfl<|Wl rfl vn rfl rfl rfl<|Wv rfl ?_
 obtain⟨lst,hl⟩:∃l,d.hd[ac]?=some l:=⟨_,List.getElem?_eq_getElem (by rw[h.ev.hd,h.pl];exact dM)⟩
 have hzl:d.ci 1 ac=some (lst,λl'=>{ d with hd:=d.hd.set ac l' }):=by unfold SD.ci;rw[if_neg (by decide),if_neg<|by decide,if_pos rfl,hl];rfl
 have hll:lst.length<=n:=h.ls _ (.inr<|.inl rfl) _<|List.mem_of_getElem? hl
 refine Ww<|WS.invoke (vs:=[AV.int IntKind.i64 (Int.ofNat 1),iv<|Int.ofNat ac]) rfl (N.hM.ci ) rfl ( aeT N.hB N.hC tn hge.hd h.ev (.there hf) (by rw[h.pl];exact dM) hzl (by omega)) ?_
 rintro v s6 ⟨m,KL,hv⟩
 obtain⟨a,cp,sl,rw',rfl,Yi,Ue⟩:=hv.cut
 refine Wv rfl<|Wn ?_
 have hnd:=h.hn _<|List.mem_of_getElem? hl
 refine Wb ?_
 refine Wp (λk l ds s'=>ds=[]/\∃q E2 D2,k=lst.length-q/\q<=lst.length/\E2.length<=EL.length+q/\agN n f q d D2/\(∀i,i<lst.length-q->∃o∈D2.ob,lst[i]?=some o.id/\o.ci=1/\o.owner=.ofNat ac)/\aH bl E2 D2 (m++((b1,HO.r false [[gm tF bf]] 1)::t)) s'/\∀i w,lk [(1,.ptr<|some ⟨b1,0,0⟩),(3,iv<|.ofNat ac),(4,.slice a (lst.length-q) cp sl rw')] i=some w->lk l i=some w) ?_ (n:=lst.length-0)
  ⟨rfl,0,_,_,rfl,Nat.zero_le _,Nat.le_refl _,⟨h,.refl _,rfl,rfl,rfl,by omega⟩,λi hi=>?_,KL,bX rfl⟩
 rotate_left
 ·have hx:lst[i]?=some lst[i]:=List.getElem?_eq_getElem hi
  obtain⟨o,k1,k2,k3,k4⟩:=h.hd ac lst hl _<|List.getElem_mem hi
  exact⟨o,k1,by rw[hx,k2],k3,k4⟩
 rintro k l ds s' ⟨rfl,q,E2,D2,rfl,hq,hE2,t6,ho2,hs',CG⟩
 refine Wg CG (λ_ _ h=>h) ?_
 have VK:=t6.te
 have abW:=VK.ge N hP (by omega) cM
 have vn:Has b1 (.r false [[gm tF bf]] 1) s':=hs'.mem<|.app .here
 have h10:=t6.nx
 by_cases h7:7<lst.length-q
 rotate_left
 ·have e19:binV .gtr (iv<|.ofNat<|lst.length-q) (iv<|.ofNat 7)=some (.bool false):=by rw[aaI,decide_eq_false<|show¬Int.ofNat 7<Int.ofNat (lst.length-q) fromλhh=>h7<|Int.ofNat_lt.1 hh]
  have e45:binV .geq (iv d.tu) (iv c4)=some (.bool false):=by rw[afN,decide_eq_true htu.2];rfl
  refine Vk (k:=Wx<|Vk (k:=WP.bD<|Dp (.faddr rfl)<|Dl rfl .nil (.load rfl vn rfl rfl rfl) ?_))
  refine Dc .nil<|WS.invoke (vs:=[]) rfl (N.info ) rfl ( kM N.hB N.hI N.t128 hs' abW.hd (.app<|.there hf)) ?_
  rintro _ s7 ⟨rfl,hs7⟩
  have l0:part false (dh D2) 0 1=some (iv d.tu):=by show some (iv D2.tu)=_;rw[t6.tu]
  have hb7:=hs7.mem<|.app .here
  refine Dp (.fld rfl l0)<|Dp (.faddr rfl)<|WD.lk rfl .nil (.load rfl hb7 rfl rfl rfl) ?_
  refine Dc .nil<|WS.invoke (vs:=[]) rfl (N.bm.config ) rfl ( adt N.hI N.t24 (hs7.mem<|.app<|.there hf)) ?_
  rintro _ _ ⟨rfl,m8,rfl⟩
  have hs8:aH bl E2 D2 (m++((b1,HO.r false [[gm tF bf]] 1)::t)) (m8++s7):=hs7.bK
  have hb8:=hs8.mem<|.app .here
  refine Dp (.fld rfl rfl)<|Dp (.arith rfl rfl e45) ?_
  refine D0 .nil ?_ λx hx=>?_
  rotate_left
  ·rw[List.mem_singleton.1 hx]
   refine⟨(λi hi=>nomatch hi),Nat.zero_le _,agt _ _ _ _,λk' _ hk=>?_⟩
   rcases(by have:k'<=1:=hk;omega:k'=0\/k'=1)with rfl|rfl
   ·exact⟨_,rfl,.load rfl vn rfl rfl rfl⟩
   ·exact⟨_,rfl,.load rfl hb7 rfl rfl rfl⟩
  have hnl:=t6.pl.next ac
  refine Vk (k:=WP.bD<|WD.lk rfl .nil (.load (cs:=[gm tF bf]) rfl (.app hb7) rfl rfl rfl)<|Dp (.faddr rfl)<|Dl rfl .nil (.load rfl (.app hb7) rfl rfl rfl)<|Dp (.mv rfl) ?_)
  refine Dc .nil<|W1 (aaB abW N.hV (.app<|.there hf) VK.pl dM hs8) ?_
  rintro _ s9 ⟨rfl,hs9⟩
  rw[hnl]
  have hb9:=hs9.mem<|.app .here
  refine Dc .nil<|W1 ((aeS N VK (by omega) cM (qc dM) (by rw[t6.tu];omega)).go (.app<|.there hf) (by omega) hs9) ?_
  intro _ s10 ahF
  refine D0 .nil ?_ λx hx=>?_
  rotate_left
  ·rw[List.mem_singleton.1 hx]
   refine⟨(λi hi=>nomatch hi),Nat.zero_le _,aft _ _,λk' _ hk=>?_⟩
   rcases(by have:k'<=1:=hk;omega:k'=0\/k'=1)with rfl|rfl
   ·exact⟨_,rfl,.load rfl hb8 rfl rfl rfl⟩
   ·exact⟨_,rfl,.load rfl hb9 rfl rfl rfl⟩
  rw[t6.tu]at ahF
  refine Vk (k:=We<|Wm (.tmp rfl .nil) ?_)
  exact⟨rfl,_,D2,by rw[List.length_append,List.length_singleton];omega,⟨VK.mono<|by omega,t6.pl,t6.tu,t6.ac,t6.ph,by omega⟩,ahF.fb.tail⟩
 have e19:binV .gtr (iv<|.ofNat<|lst.length-q) (iv<|.ofNat 7)=some (.bool true):=by rw[aaI,decide_eq_true<|show(Int.ofNat 7)<Int.ofNat (lst.length-q)from Int.ofNat_lt.2 h7]
 obtain⟨rfl,b,M,rfl,hbM,hM⟩:=Ue<|by omega
 obtain⟨j,hj⟩:∃j,lst.length-q=j+1:=⟨lst.length-q-1,by omega⟩
 obtain⟨o,x1,x2,x3,x4⟩:=ho2 j<|by omega
 have hrow:M[0+j]?=some [iv o.id]:=by rw[Nat.zero_add];exact hM _ _ x2
 have ajg:=hs'.mem<|.left hbM
 rw[hj]at e19
 rw[hj]
 have e30:binV .sub (iv<|.ofNat<|j+1) (iv<|.ofNat 1)=some (iv<|.ofNat j):=Ka<|by omega
 refine Vk (k:=WP.bD<|Dp (.faddr rfl)<|Dl rfl .nil (.load rfl vn rfl rfl rfl)<|Dp (.mv rfl)<|Dp (.mv rfl)<|Dp (.lenS rfl rfl)<|Dp (.arith rfl rfl e30)<|Dp (.iaddrS rfl rfl (by omega)<|by decide)<|Dl rfl .nil (.load rfl ajg hrow rfl rfl)<|Dp (.build (cs:=evRow (Int.ofNat 2) (OD.id o) (Int.ofNat 3) 0 0 Az) rfl rfl)<|Dp (.nilchk rfl rfl)<|Dp (.mv rfl) ?_)
 refine Dc .nil<|WS.invoke (vs:=[AV.agg (evRow (Int.ofNat 2) (OD.id o) (Int.ofNat 3) 0 0 Az)]) rfl (N.bm.do_ ) rfl ( ac4 (z:=3) N VK (by omega) cM dM x1 rfl x4 (.inr ⟨x3,rfl⟩) (by omega) (.app<|.there hf) (by omega) hs') ?_
 rintro _ s7 ⟨E3,D3,k1,⟨w,rfl⟩,k2,k3,hs7⟩
 refine D0 .nil (Vk (k:=Wr (.wH rfl rfl<|by omega)<|Vk (k:=?_)))<|λo h=>nomatch h
 refine⟨lst.length-(q+1),by omega,rfl,q+1,E3,D3,rfl,by omega,by omega,⟨k2.te,t6.pl.trans k2.pl,k2.tu.trans t6.tu,k2.ac.trans t6.ac,k2.ph.trans t6.ph,by have:=k2.nx;omega⟩,λi hi=>?_,hs7,by rw[show lst.length-(q+1)=j by omega];exact bX rfl⟩
 obtain⟨o2,y1,y2,y3,y4⟩:=ho2 i<|by omega
 refine⟨o2,k3 o2 y1<|λhh=>?_,y2,y3,y4⟩
 rw[hh]at y2
 have:=(List.getElem?_inj (by omega) hnd).1 (y2.trans x2.symm)
 omega
def LD.clr (o:LD)(j:Nat):LD:={ o with m0:=if 0<j then 0 else o.m0,m1:=if 1<j then 0 else o.m1,m2:=if 2<j then 0 else o.m2,m3:=if 3<j then 0 else o.m3 }
theorem LD.ahl (o:LD):o.clr 0=o:=rfl
variable {c:Nat}
theorem LD.aeg (o:LD)(h:c<4):(o.clr c).mn c=o.mn c:=by
 match c,h with
 | 0,_=>rfl
 | 1,_=>rfl
 | 2,_=>rfl
 | 3,_=>rfl
theorem LD.ae6 (o:LD)(h:c<4):(o.clr c).aaH c 0=o.clr (c+1):=by
 match c,h with
 | 0,_=>rfl
 | 1,_=>rfl
 | 2,_=>rfl
 | 3,_=>rfl
theorem LD.aeh (o:LD)(h:c<4)(hz:o.mn c=0):o.clr (c+1)=o.clr c:=by
 match c,h with
 | 0,_=>cases o;simp[LD.clr,LD.mn]at hz |-;exact hz.symm
 | 1,_=>cases o;simp[LD.clr,LD.mn]at hz |-;exact hz.symm
 | 2,_=>cases o;simp[LD.clr,LD.mn]at hz |-;exact hz.symm
 | 3,_=>cases o;simp[LD.clr,LD.mn]at hz |-;exact hz.symm
variable {j:Nat}
theorem afm (o:LD)(h:j<4):part false [iv o.m0,iv o.m1,iv o.m2,iv o.m3] (Nat.mul j 1) 1=some (iv (o.mn j)):=by
 match j,h with
 | 0,_=>rfl
 | 1,_=>rfl
 | 2,_=>rfl
 | 3,_=>rfl
variable {A:List LD}{i:Nat}
theorem aeQ (h:A[i]?=some o):A.set i o=A:=by
 obtain⟨h1,rfl⟩:=List.getElem?_eq_some_iff.1 h
 exact List.set_getElem_self h1
def MnB (d:SD):Prop:=∀o∈d.pl,∀j<4,0<=o.mn j/\o.mn j<=900
structure Clr (n f i:Nat)(d D:SD):Prop where
 te:TE n f D
 eq:D={ d with pl:=D.pl }
 pl:∀(q:Nat)(o:LD),d.pl[q]?=some o->D.pl[q]?=some (if q<i then o.clr 4 else o)
theorem TE.pl_ (h:TE n f d)(hA:A.length=3):TE n f { d with pl:=A }:=h.other (pl:=A) (tu:=d.tu) (ac:=d.ac) (ph:=d.ph) (pr:=d.pr) (pa:=d.pa) (bl:=d.bl) hA
variable {B:List LD}{q:Nat}
theorem PlK.get (h:PlK A B)(ho:A[q]?=some o):∃o2,B[q]?=some o2/\(o2.f1,o2.f2,o2.m0,o2.m1,o2.m2,o2.m3)=(o.f1,o.f2,o.m0,o.m1,o.m2,o.m3):=by
 have:=h q
 rw[ho]at this
 obtain⟨o2,h1,h2⟩:=Option.map_eq_some_iff.1 this.symm
 exact⟨o2,h1,h2⟩
def acf (o:LD):Prop:=o.m0=0/\o.m1=0/\o.m2=0/\o.m3=0
theorem aeF (h3:d.pl.length=3)(h:∀(q:Nat)(o:LD),d.pl[q]?=some o->∃o':LD,D.pl[q]?=some o'/\o'.f1=o.f1/\o'.f2=o.f2/\acf o'){a:Nat}:dT D a=dT d a:=by
 have key:∀q,q<3->fE D q=fE d q:=λq hq=>by
  have ho:=List.getElem?_eq_getElem (h3.symm▸hq:q<d.pl.length)
  obtain⟨o',k1,_,k2,_⟩:=h q _ ho
  unfold fE
  rw[k1,ho]
  exact k2
 unfold dT
 rw[key _ (Nat.mod_lt _<|by omega),key _<|Nat.mod_lt _<|by omega]
structure AfT (n f ph ac:Nat)(d D:SD):Prop where
 te:TE (n+if ph=9 then n else 0) f D
 pl:∀(q:Nat)(o:LD),d.pl[q]?=some o->∃o':LD,D.pl[q]?=some o'/\o'.f1=o.f1/\o'.f2=o.f2/\acf o'
 tu:D.tu=if ph=9 then d.tu+1 else d.tu
 ac:D.ac=.ofNat (if ph=9 then dT d ac else ac)
 nx:D.nx<=d.nx+(if ph=9 then n else 0:Nat)
def uY (ph:Nat):Nat:=if ph=9 then 0 else if ph=3 then 8 else ph+1
variable {ph:Nat}
theorem aci (N:NEnv P K F T tF)(hP:gK C)(h:TE n f d)(hn:n<=150)(cM:f<=90)(hm:MnB d)(hph:d.ph=.ofNat ph)(aby:ph<=9)(hac:d.ac=.ofNat ac)(dM:ac<3){oa:LD}(hoa:d.pl[ac]?=some oa)(hla:oa.f2=false)(htu:0<=d.tu/\d.tu<c4)(hc4:c4<=1000)(YI:d.nx<=200)(hf:Has bf (.r false [bu bl aZ c0 c1 c2 c3 c4 bE] 8) t)(hE:EL.length<=2500)(hs:aH bl EL d t s) :
  bB P K (F 87) [gm tF bf] s (λv s'=>v=iv (.ofNat<|uY ph)/\∃E2 D2,E2.length<=EL.length+(if ph=9 then 250 else 12)/\AfT n f ph ac d D2/\aH bl E2 D2 t s'):=by
 have hge:=h.ge N hP (by omega) cM
 refine N.hV.f87.cF ?_
 unfold a87
 refine Wq<|Wv rfl<|Wn<|Ws<|Wq<|Wv rfl<|Wh (b:=false) rfl rfl rfl<|Wn<|Wd rfl fS<|λ_=>Wi<|Wq<|Wv rfl<|Wr (.build rfl rfl)<|Wa (.alloc rfl) λb3=>Ww<|Wt (s':=(b3,.r false [bI [] (bI (Prod.snd (Prod.fst (0,1,Operand.tmp 10),[gm tF bf]))<|cu (aK<|Prod.snd (Prod.fst (0,1,Operand.tmp 10),[gm tF bf]))<|cu (Prod.fst (Prod.fst (0,1,Operand.tmp 10),[gm tF bf])) [AV.nilIface])] 1)::_) rfl rfl rfl .here rfl rfl<|Wn<|Ws<|Wq<|Wf rfl<|Wl rfl .here rfl rfl rfl ?_
 have gw:aH bl EL d ((b3,HO.r false [[gm tF bf]] 1)::t) ((b3,HO.r false [[gm tF bf]] 1)::s):=hs.cons
 refine Ww<|WS.invoke (vs:=[]) rfl (N.hM.yd ) rfl ( tV N.hB N.hG gw hge.hd (.there hf)) ?_
 rintro _ s1 ⟨rfl,nr⟩
 rw[h.pl]
 refine Wv rfl<|Wn<|Wb ?_
 refine Wp (λk l ds s'=>ds=[]/\∃i E2 D2,k=3-i/\i<=3/\E2.length<=EL.length+4*i/\Clr n f i d D2/\aH bl E2 D2 ((b3,HO.r false [[gm tF bf]] 1)::t) s'/\∀x w,lk [(3,.ptr<|some ⟨b3,0,0⟩),(14,iv<|.ofNat 3),(15,iv<|.ofNat i)] x=some w->lk l x=some w) ?_ (n:=3-0)
  ⟨rfl,0,_,_,rfl,by omega,Nat.le_refl _,⟨h,rfl,λq o ho=>ho⟩,nr,bX rfl⟩
 rintro k l ds s' ⟨rfl,i,E2,D2,rfl,hi,hE2,t6,hs',hl⟩
 refine Wg hl (λ_ _ h=>h) ?_
 have VK:=t6.te
 have abW:=VK.ge N hP (by omega) cM
 have hb3:=hs'.mem .here
 by_cases hlt:i<3
 rotate_left
 ·have e16:=qa hlt
  obtain rfl:i=3:=by omega
  have agi:D2.ph=.ofNat ph:=by rw[t6.eq];exact hph
  have acu:D2.ac=.ofNat ac:=by rw[t6.eq];exact hac
  have acz:D2.tu=d.tu:=by rw[t6.eq]
  have afb:D2.nx=d.nx:=by rw[t6.eq]
  have dP:∀(q:Nat)(o:LD),d.pl[q]?=some o->∃o':LD,D2.pl[q]?=some o'/\o'.f1=o.f1/\o'.f2=o.f2/\acf o':=λq o ho=>by
   have hq:q<3:=by have:=(List.getElem?_eq_some_iff.1 ho).1;rw[h.pl]at this;exact this
   exact⟨o.clr 4,by rw[t6.pl q o ho,if_pos hq],rfl,rfl,rfl,rfl,rfl,rfl⟩
  refine Wq<|Wj rfl rfl e16<|Wn<|Ws<|Wd rfl fS<|λ_=>Wx<|Wq<|Wf rfl<|Wl rfl hb3 rfl rfl rfl<|Ww<|WS.invoke (vs:=[]) rfl (N.info ) rfl ( kM N.hB N.hI N.t128 hs' abW.hd (.there hf)) ?_
  rintro _ s5 ⟨rfl,tn⟩
  have hb3:=tn.mem .here
  have x2:bV 1 (cu 2<|dh D2)=some [iv (.ofNat ph)]:=by show some [iv D2.ph]=_;rw[agi]
  have x1:bV 1 (cu 1<|dh D2)=some [iv (.ofNat ac)]:=by show some [iv D2.ac]=_;rw[acu]
  obtain⟨oa',ajt,_,hf2,_⟩:=dP ac oa hoa
  have l6:part false oa'.row 6 1=some (.bool false):=by show some (AV.bool oa'.f2)=_;rw[hf2,hla]
  have mk:∀{D3:SD},D3=D2->ph≠9->AfT n f ph ac d D3:=λ{D3} e h9=>by
   subst e
   exact⟨by rw[if_neg h9];exact VK,dP,by rw[if_neg h9];exact acz,by rw[if_neg h9];exact acu,by rw[afb,if_neg h9];omega⟩
  by_cases h9:ph=9
  ·subst h9
   refine Wa (.alloc rfl) λb7=>Ww<|Wt (s':=(b7,.r false [dh D2] 13)::_) rfl rfl rfl .here rfl rfl<|Wn<|Ws<|Wb<|Wq<|Wf rfl<|Wl rfl .here rfl x2 rfl<|Wh (b:=true) rfl rfl rfl<|Wv rfl<|Wk<|Wk<|Wk<|Wk<|Wk<|Wk<|Wr (.eb rfl rfl)<|Wv rfl<|Wn<|Wd rfl (λ_=>Wq<|Wl (cs:=[gm tF bf]) rfl (.there hb3) rfl rfl rfl ?_) Dz
   refine Ww<|W1 (adz N hP VK hn cM acu dM (by rw[acz];exact htu) hc4 (by omega) (.there hf) (by omega)<|aH.bK (m:=[_]) tn) ?_
   rintro _ s6 ⟨rfl,E3,D3,k1,k2,KL⟩
   refine Wv rfl<|Wn<|We<|Wm (.tmp rfl .nil) ?_
   have key:AfT n f 9 ac d { D3 with tu:=D2.tu+1,ac:=.ofNat (dT D2 ac) }:=by
    refine⟨by rw[if_pos rfl];exact k2.te.other (pl:=D3.pl) (ph:=D3.ph) (pr:=D3.pr) (pa:=D3.pa) (bl:=D3.bl) k2.te.pl,λq o ho=>?_,by rw[if_pos rfl,acz],by rw[if_pos rfl,aeF (h.pl) dP],by rw[if_pos rfl];have:=k2.nx;rw[afb]at this;exact this⟩
    obtain⟨o',j1,j2,j3,j4⟩:=dP q o ho
    obtain⟨o2,i1,i2⟩:=k2.pl.get j1
    simp only[Prod.mk.injEq]at i2
    exact⟨o2,i1,i2.1.trans j2,i2.2.1.trans j3,i2.2.2.1.trans j4.1,i2.2.2.2.1.trans j4.2.1,i2.2.2.2.2.1.trans j4.2.2.1,i2.2.2.2.2.2.trans j4.2.2.2⟩
   exact⟨rfl,E3,_,by rw[if_pos rfl];omega,key,KL.tail⟩
  have e45:eqBy 20 .pi (iv<|.ofNat ph) (iv 9)=some false:=by rw[cD];exact congrArg some<|decide_eq_false<|λhh=>h9<|Int.ofNat.inj hh
  refine Wa (.alloc rfl) λb7=>Ww<|Wt (s':=(b7,.r false [dh D2] 13)::_) rfl rfl rfl .here rfl rfl<|Wn<|Ws<|Wb<|Wq<|Wf rfl<|Wl rfl .here rfl x2 rfl<|Wh rfl rfl e45<|Wv rfl<|Wy<|Wf rfl<|Wy<|Wl rfl (.there hb3) rfl rfl rfl<|Wy<|Wf rfl<|Wy<|Wl rfl .here rfl x1 rfl<|Wy ?_
  have KL:aH bl E2 D2 ((b7,HO.r false [dh D2] 13)::(b3,HO.r false [[gm tF bf]] 1)::t) ((b7,HO.r false [dh D2] 13)::s5):=tn.cons
  refine Ww<|WS.invoke (vs:=[iv (Int.ofNat ac)]) rfl (N.hM.RD ) rfl ( Ar N.hB N.hC N.hT KL abW.hd (.there<|.there hf) ajt) ?_
  rintro _ s7 ⟨rfl,hs7⟩
  have hb7:=hs7.mem .here
  have hb3:=hs7.mem<|.there .here
  by_cases h3:ph=3
  ·have e58:eqBy 20 .pi (iv<|.ofNat ph) (iv 3)=some true:=by rw[cD];exact congrArg some (decide_eq_true (by rw[h3];rfl))
   refine Wy<|Wr (.fld rfl l6)<|Wr (.bj rfl rfl)<|Wv rfl<|Wn<|Wd rfl fS<|λ_=>Wq<|Wf rfl<|Wl rfl hb7 rfl x2 rfl<|Wh rfl rfl e58<|Wv rfl<|Wy<|Wl (cs:=[gm tF bf]) rfl hb3 rfl rfl rfl<|Wy<|Ww<|W1 (aaP abW N.hV (.there<|.there hf) VK.all (λo ho=>(VK.o o ho).id) hs7) ?_
   rintro _ s8 ⟨rfl,hs8⟩
   refine Wy<|Wr (.un rfl rfl)<|Wr (.eb rfl rfl)<|Wv rfl<|Wn<|Wd rfl (λ_=>Wq<|Wv rfl<|Wn<|We<|Wm (.tmp rfl .nil) ?_) Dz
   exact⟨by rw[h3];rfl,E2,D2,by rw[if_neg h9];omega,mk rfl h9,hs8.tail.tail⟩
  have e58:eqBy 20 .pi (iv<|.ofNat ph) (iv 3)=some false:=by rw[cD];exact congrArg some<|decide_eq_false<|λhh=>h3<|Int.ofNat.inj hh
  have haf:uY ph=ph+1:=by unfold uY;rw[if_neg h9,if_neg h3]
  by_cases h7:ph=7
  ·have e67:eqBy 20 .pi (iv<|.ofNat ph) (iv 7)=some true:=by rw[cD];exact congrArg some (decide_eq_true (by rw[h7];rfl))
   refine Wy<|Wr (.fld rfl l6)<|Wr (.bj rfl rfl)<|Wv rfl<|Wn<|Wd rfl fS<|λ_=>Wq<|Wf rfl<|Wl rfl hb7 rfl x2 rfl<|Wh rfl rfl e58<|Wv rfl<|Wk<|Wk<|Wk<|Wr (.bj rfl rfl)<|Wv rfl<|Wn<|Wd rfl fS<|λ_=>Wq<|Wf rfl<|Wl rfl hb7 rfl x2 rfl<|Wh rfl rfl e67<|Wv rfl<|Wn<|Wd rfl (λ_=>Wo<|Wl (cs:=[gm tF bf]) rfl hb3 rfl rfl rfl<|Wl (cs:=[gm tF bf]) rfl hb3 rfl rfl rfl<|Wr (.mkfn rfl rfl) ?_) Dz
   refine Ww<|W1 (aaf abW N.hV (.there<|.there hf) VK.all hs7 λo t' s1 ho hq h1=>c6.func<|(aaQ N.hV (VK.o o ho).id).post λ_ s2⟨m,hm⟩=>hm▸h1.bK) ?_
   intro _ s8 hs8
   have hb7:=hs8.mem .here
   refine Wn<|Wq<|Wf rfl<|Wl rfl hb7 rfl x2 rfl<|Wj rfl rfl (bM<|by omega)<|Wv rfl<|Wn<|We<|Wm (.tmp rfl .nil) ?_
   exact⟨by rw[haf],E2,D2,by rw[if_neg h9];omega,mk rfl h9,hs8.tail.tail⟩
  have e67:eqBy 20 .pi (iv<|.ofNat ph) (iv 7)=some false:=by rw[cD];exact congrArg some<|decide_eq_false<|λhh=>h7<|Int.ofNat.inj hh
  refine Wy<|Wr (.fld rfl l6)<|Wr (.bj rfl rfl)<|Wv rfl<|Wn<|Wd rfl fS<|λ_=>Wq<|Wf rfl<|Wl rfl hb7 rfl x2 rfl<|Wh rfl rfl e58<|Wv rfl<|Wk<|Wk<|Wk<|Wr (.bj rfl rfl)<|Wv rfl<|Wn<|Wd rfl fS<|λ_=>Wq<|Wf rfl<|Wl rfl hb7 rfl x2 rfl<|Wh rfl rfl e67<|Wv rfl<|Wn<|Wd rfl fS<|λ_=>Wi<|Wq<|Wf rfl<|Wl rfl hb7 rfl x2 rfl<|Wj rfl rfl (bM<|by omega)<|Wv rfl<|Wn<|We<|Wm (.tmp rfl .nil) ?_
  exact⟨by rw[haf],E2,D2,by rw[if_neg h9];omega,mk rfl h9,hs7.tail.tail⟩
 have e16:=qb hlt
 obtain⟨o,ho⟩:∃o,d.pl[i]?=some o:=⟨_,List.getElem?_eq_getElem (by rw[h.pl];exact hlt)⟩
 have ho2:D2.pl[i]?=some o:=by rw[t6.pl i o ho,if_neg<|Nat.lt_irrefl i]
 refine Wq<|Wj rfl rfl e16<|Wn<|Ws<|Wd rfl (λ_=>Wi<|Ws<|Wb<|Wq<|Wv rfl<|Wv rfl<|Wn ?_) Dz
 refine Wq<|Wf rfl<|Wl rfl hb3 rfl rfl rfl<|Wv rfl<|Ww<|WS.invoke (vs:=[iv (Int.ofNat i)]) rfl (N.hM.RD ) rfl ( Ar N.hB N.hC N.hT hs' abW.hd (.there hf) ho2) ?_
 rintro _ s4 ⟨rfl,pM⟩
 refine Wr (.fld rfl rfl)<|Wv rfl<|Wn<|Wb ?_
 have hmo:∀j<4,0<=o.mn j/\o.mn j<=900:=hm o<|List.mem_of_getElem? ho
 have PN:∀x,(D2.pl.set i x).length=3:=λx=>by rw[List.length_set];exact VK.pl
 refine Wp (λk l ds s'=>ds=[]/\∃c E3,k=4-c/\c<=4/\E3.length<=E2.length+c/\aH bl E3 { D2 with pl:=D2.pl.set i (o.clr c) } ((b3,HO.r false [[gm tF bf]] 1)::t) s'/\∀x w,lk [(3,.ptr<|some ⟨b3,0,0⟩),(4,iv<|.ofNat i),(14,iv<|.ofNat 3),(15,iv<|.ofNat i),(22,.agg [iv o.m0,iv o.m1,iv o.m2,iv o.m3]),(23,iv<|.ofNat c)] x=some w->lk l x=some w) ?_ (n:=4-0)
  ⟨rfl,0,_,rfl,by omega,Nat.le_refl _,by rw[LD.ahl,aeQ ho2];exact pM,bX rfl⟩
 rintro k l ds s' ⟨rfl,c,E3,rfl,hc,hE3,tn,hl⟩
 refine Wg hl (λ_ _ h=>h) ?_
 have hb3:=tn.mem .here
 by_cases hc4:c<4
 rotate_left
 ·have e24:=qa hc4
  obtain rfl:c=4:=by omega
  refine Wq<|Wj rfl rfl e24<|Wn<|Ws<|Wd rfl fS<|λ_=>Wx<|Wo<|Wj rfl rfl (bM<|by omega)<|Wv rfl<|Wn ?_
  refine⟨3-(i+1),by omega,rfl,i+1,E3,_,rfl,hlt,by omega,⟨VK.pl_<|PN _,?_,λq o' ho'=>?_⟩,tn,bX rfl⟩
  ·show _=({ d with pl:=D2.pl.set i (o.clr 4) }:SD)
   rw[t6.eq]
  ·show(D2.pl.set i<|o.clr 4)[q]?=_
   by_cases hq:i=q
   ·subst hq
    rw[ho]at ho'
    cases ho'
    rw[List.getElem?_set_self (List.getElem?_eq_some_iff.1 ho2).1,if_pos<|Nat.lt_succ_self i]
   ·rw[List.getElem?_set_ne hq,t6.pl q o' ho']
    by_cases h9:q<i
    ·rw[if_pos h9,if_pos<|by omega]
    ·rw[if_neg h9,if_neg<|by omega]
 have e24:=qb hc4
 have Si:part false [iv o.m0,iv o.m1,iv o.m2,iv o.m3] (Nat.mul c 1) 1=some (iv<|o.mn c):=afm o hc4
 have ahJ:TE n f { D2 with pl:=D2.pl.set i (o.clr c) }:=VK.pl_<|PN _
 have agk:=ahJ.small (by omega)<|by omega
 by_cases hpos:0<o.mn c
 ·have e28:binV .gtr (iv<|o.mn c) (iv 0)=some (.bool true):=by rw[aaI,decide_eq_true hpos]
  have hb:=hmo c hc4
  have hneg:unV .neg (iv<|o.mn c)=some (iv<|-o.mn c):=by
   show Ev.mkI .i64 (0-o.mn c)=_
   rw[Int.zero_sub]
   exact@kD (mkSg (λ_=>0) (λ_=>.undef)<|λ_=>.deferred) (-o.mn c) (by omega)
  have hoc:({ D2 with pl:=D2.pl.set i (o.clr c) }:SD).pl[i]?=some (o.clr c):=List.getElem?_set_self (List.getElem?_eq_some_iff.1 ho2).1
  have hap:Ap P K F 8 (.ofNat i) (.ofNat c) (-o.mn c) 0 Az { D2 with pl:=D2.pl.set i (o.clr c) } { D2 with pl:=(D2.pl.set i<|o.clr c).set i (o.clr<|c+1) }:=by
   have h5:Ap P K F 8 (.ofNat i) (.ofNat c) (-o.mn c) 0 Az { D2 with pl:=D2.pl.set i (o.clr c) } { D2 with pl:=(D2.pl.set i<|o.clr c).set i ((o.clr c).aaH c ((o.clr c).mn c+ -o.mn c)) }:=by intro pv ov lv hv gv ev fv sv wv;exact aca N ahJ (by omega) cM hlt hc4 hoc (by rw[LD.aeg o hc4];omega)<|by omega
   rw[LD.aeg o hc4,Int.add_right_neg,LD.ae6 o hc4]at h5
   exact@h5
  refine Wq<|Wj rfl rfl e24<|Wn<|Ws<|Wd rfl (λ_=>Wi<|Ws<|Wb<|Wq<|Wv rfl<|Wr (.idxA rfl rfl hc4 Si)<|Wv rfl<|Wv rfl<|Wn ?_) Dz
  refine Wq<|Wv rfl<|Wj rfl rfl e28<|Wn<|Wd rfl (λ_=>Wo<|Wf rfl<|Wl rfl hb3 rfl rfl rfl<|Wv rfl<|Wv rfl<|Wv rfl<|Wr (.un rfl hneg)<|Wr (.build (cs:=evRow (Int.ofNat 8) (Int.ofNat i) (Int.ofNat c) (-LD.mn o c) 0 Az) rfl rfl) ?_) Dz
  refine Ww<|WS.invoke (vs:=[AV.agg (evRow (Int.ofNat 8) (Int.ofNat i) (Int.ofNat c) (-LD.mn o c) 0 Az)]) rfl (N.bm.do_ ) rfl ( Cl N.hB tn agk (.there hf) (by omega) (by decide) (by decide) (by decide) (by decide) hap) ?_
  rintro _ s6 ⟨_,KL⟩
  rw[List.set_set]at KL
  refine Wn<|Wo<|Wj rfl rfl (bM<|by omega)<|Wv rfl<|Wn ?_
  exact⟨4-(c+1),by omega,rfl,c+1,_,rfl,hc4,by rw[List.length_append,List.length_singleton];omega,KL,bX rfl⟩
 ·have e28:binV .gtr (iv<|o.mn c) (iv 0)=some (.bool false):=by rw[aaI,decide_eq_false hpos]
  have hz:=LD.aeh o hc4<|Int.le_antisymm (Int.not_lt.1 hpos) (hmo c hc4).1
  refine Wq<|Wj rfl rfl e24<|Wn<|Ws<|Wd rfl (λ_=>Wi<|Ws<|Wb<|Wq<|Wv rfl<|Wr (.idxA rfl rfl hc4 Si)<|Wv rfl<|Wv rfl<|Wn ?_) Dz
  refine Wq<|Wv rfl<|Wj rfl rfl e28<|Wn<|Wd rfl fS<|λ_=>Wi<|Wo<|Wj rfl rfl (bM<|by omega)<|Wv rfl<|Wn ?_
  exact⟨4-(c+1),by omega,rfl,c+1,E3,rfl,hc4,by omega,by rw[hz];exact tn,bX rfl⟩
variable {a b:Int}{it:ID}
theorem afk (hB:Base P K F T){bw:Nat}(hs:WH bw d t s)(hd:d.Small)(he:d.kQ){k n m:Int}{fn:AV}(k13:k≠13)(k16:k≠16)(k18:k≠18)(k26:k≠26)(hi:d.find a=some i){o:OD}(xG:d.ob[i]?=some o)(hz:o.ci≠2) :
  bB P K (F 203) [.ptr (some ⟨bw,0,0⟩),.agg<|evRow k a b n m it,.agg [.bool false,.bool true,.bool true,fn]] s (λw s'=>w=iv 5/\WH bw d t s'):=by
 obtain⟨pv,ov,lv,hv,gv,ev,fv,sv,wv,nn,k1,k2⟩:=hs
 refine bB.perm k1.symm ?_
 refine hB.f203.cF ?_
 unfold Lj
 refine Vk (k:=λb4=>Wa (.box rfl rfl) λb5=>Wv rfl<|Wn<|Wq<|Wr (.mkfn rfl rfl)<|Wv rfl<|Wn<|Ws<|Wb ?_)
 have hR:∀x y z,mD (x::y::z::(nn++t)) pv ov lv hv gv ev fv sv wv d:=λx y z=>k2.r λp hp=>by simp[hp]
 refine Ws<|WP.bD<|Dp (.mv rfl)<|Dp (.nilchk rfl rfl)<|Dp (.faddr rfl)<|Dl rfl .nil (.load rfl (.there<|.there .here) rfl rfl rfl)<|Dc .nil<|Wc rfl rfl (qQ hB (hR _ _ _) ⟨he.lb,he.hd,he.gr,he.ex⟩) ?_
 rintro w _ ⟨rfl,m1,rfl⟩
 refine(Dp (.un rfl rfl)<|Dp (.mv rfl)<|Dy<|Dp (.faddr rfl)<|Dy<|Dl rfl .nil (.load rfl (.app .here) rfl rfl rfl)<|Dy<|Dp (.mv rfl)<|Dk<|Dk<|Dk<|Dk<|WD.kg rfl rfl<|WD.kg rfl rfl<|WD.kg rfl rfl<|WD.kg rfl rfl<|WD.kg rfl rfl<|WD.kg rfl rfl<|WD.kg rfl rfl<|WD.kg rfl rfl<|WD.kg rfl rfl<|Dk<|Dy<|Dp (.bj rfl rfl)<|Dp (.bj rfl rfl)<|Dp (.mv rfl)<|D0 .nil ?_<|λo h=>nomatch h)
 refine Wd rfl fS<|λ_=>Ws<|Ws<|WP.bD<|Dp (.faddr rfl)<|Dl rfl .nil (.load rfl (.app .here) rfl rfl rfl)<|Dp (.mv rfl)<|Dy<|Dp (.mv rfl)<|Dy<|Dp (.nilchk rfl rfl)<|Dy<|Dp (.faddr rfl)<|Dy<|Dl rfl .nil (.load rfl (.app<|.there<|.there .here) rfl rfl rfl)<|Dy<|Dp (.faddr rfl)<|Dy<|Dl rfl .nil (.load rfl (.app<|.there .here) rfl rfl rfl)<|Dy<|Dc .nil<|Wc rfl rfl (lg hB (d:=d) ((k2.r (s:=_) λp hp=>by simp[hp]).ob) hd) ?_
 rintro w _ ⟨rfl,m2,rfl⟩
 rw[hi]
 refine(Dy<|Dp (.arith rfl rfl rfl)<|Dp (.eb rfl rfl)<|Dp (.mv rfl)<|D0 .nil ?_<|λo h=>nomatch h)
 refine Wd rfl fS<|λ_=>Wo<|Wf rfl<|Wl rfl (.app<|.app .here) rfl rfl rfl<|Wv rfl<|Wy<|Wv rfl<|Wy<|Wf rfl<|Wy<|Wl rfl (.app<|.app<|.there .here) rfl rfl rfl<|Wy<|Ww<|Wc rfl rfl (aay hB (d:=d) (.app<|.app<|.there<|.there .here) ((k2.r (s:=_) λp hp=>by simp[hp]).ob) hd hi xG) ?_
 rintro w _ ⟨rfl,m3,rfl⟩
 rw[show decide (o.ci=2)=false from decide_eq_false hz]
 refine Vk (k:=We<|Wm (.tmp rfl .nil) ?_)
 have fin:∀x y,WH bw d t (m3++(m2++(m1++(x::y::(bw,.r false [d.cells pv ov lv hv gv ev fv sv wv] 25)::(nn++t))))):=λx y=>⟨pv,ov,lv,hv,gv,ev,fv,sv,wv,(m3++(m2++(m1++[x,y])))++nn,uS,k2.bK⟩
 exact⟨rfl,fin _ _⟩
theorem ad5 (hB:Base P K F T){k:Nat}{n m:Int}{c:Int}(hd:d.Small)(hc:c≠0)
  (lm:∀s,bB P K (F 201) [.agg (evRow (.ofNat k) a b n m it)] s<|λv s'=>v=iv 0/\s'=s)
  (UT:∀{bw:Nat}{s:SH},bB P K (F 202) [.ptr (some ⟨bw,0,0⟩),iv<|.ofNat k] s (λv s'=>∃m,s'=m++s/\RV F bw m k v))
  (hmay:∀{bw:Nat}{t s m':SH}{v:AV},RV F bw m' k v->WH bw d t s->bB P K (F 203) [.ptr (some ⟨bw,0,0⟩),.agg<|evRow (.ofNat k) a b n m it,v] s (λw s'=>w=iv c/\WH bw d t s')):adU P K F (.ofNat k) a b n m it c d:=by
 intro pv ov lv hv gv ev fv sv wv s h
 refine hB.f164.cF ?_
 unfold Lg
 refine Wq<|Wa (.box rfl rfl) λb2=>Wa (.box rfl rfl) λb3=>Wa (.alloc rfl) λb4=>Vk (k:=?_)
 have hR:mD ((b4,.r false [zY] 25)::(b3,.r false [evRow (.ofNat k) a b n m it] 13)::(b2,.r false [d.cells pv ov lv hv gv ev fv sv wv] 25)::s) pv ov lv hv gv ev fv sv wv d:=⟨h.pl.mono λp hp=>by simp[hp],h.ob.mono λp hp=>by simp[hp],h.lb.mono λp hp=>by simp[hp],h.hd.mono λp hp=>by simp[hp],h.gr.mono λp hp=>by simp[hp],h.ex.mono λp hp=>by simp[hp],h.fi.mono λp hp=>by simp[hp],h.st.mono λp hp=>by simp[hp],h.wa.mono λp hp=>by simp[hp]⟩
 refine Vk (k:=Ww<|W1 (mw hB hR hd) ?_)
 rintro w _ ⟨pv,ov,lv,hv,gv,ev,fv,sv,wv,n1,rfl,rfl,g1⟩
 refine Wr (.build rfl rfl)<|Wa (.box rfl rfl) λbw=>Wv rfl<|Wn ?_
 refine Wg (s':=(bw,.r false [d.cells pv ov lv hv gv ev fv sv wv] 25)::(n1++((b4,.r false [zY] 25)::(b3,.r false [evRow (.ofNat k) a b n m it] 13)::(b2,.r false [d.cells _ _ _ _ _ _ _ _ _] 25)::s))) (λ_ _ h=>h) (λ_ _ h=>h) ?_
 refine Vk (k:=Ww<|W1 (lm _) ?_)
 rintro w _ ⟨rfl,rfl⟩
 refine Vk (k:=Ww<|W1 UT ?_)
 rintro w _ ⟨m2,rfl,UZ⟩
 obtain⟨p,o,f,fn,rfl,hfn⟩:=UZ.agg
 refine Wa (.alloc rfl) λb8=>Ww<|Wt rfl rfl rfl .here rfl rfl<|Wn ?_
 have hW:∀y,WH bw d ((b8,.r false [[.bool p,.bool o,.bool f,fn]] 4)::(m2++((b4,.r false [zY] 25)::(b3,.r false [evRow (.ofNat k) a b n m it] 13)::(b2,y)::s)))
   ((b8,.r false [[.bool p,.bool o,.bool f,fn]] 4)::(m2++((bw,.r false [d.cells pv ov lv hv gv ev fv sv wv] 25)::(n1++((b4,.r false [zY] 25)::(b3,.r false [evRow (.ofNat k) a b n m it] 13)::(b2,y)::s))))):=λy=>
  ⟨pv,ov,lv,hv,gv,ev,fv,sv,wv,n1,uS,g1⟩
 refine Wg (s':=(b8,.r false [[.bool p,.bool o,.bool f,fn]] 4)::(m2++((bw,.r false [d.cells pv ov lv hv gv ev fv sv wv] 25)::(n1++((b4,.r false [zY] 25)::(b3,.r false [evRow (.ofNat k) a b n m it] 13)::(b2,.r false [d.cells _ _ _ _ _ _ _ _ _] 25)::s))))) (λ_ _ h=>h) (λ_ _ h=>h) ?_
 refine Vk (k:=Ww<|W1 (hmay UZ<|hW _) ?_)
 rintro w s5 ⟨rfl,XY⟩
 obtain⟨pv,ov,lv,hv,gv,ev,fv,sv,wv,n5,k5,g5⟩:=XY
 have hq:eqBy 20 .pi (iv c) (iv 0)=some false:=by rw[cD,decide_eq_false hc]
 refine WO.pre k5<|Vk (k:=Ww<|Wt (s':=_::_++(_::_++((b4,.r false [SD.cells d pv ov lv hv gv ev fv sv wv] 25)::_))) rfl rfl rfl (.there<|.app<|.there<|.app .here) rfl rfl<|Vk (k:=We ?_))
 refine Wm (.cell rfl hB.t41.1 hB.t41.2 (.inl rfl) (.there<|.app<|.there<|.app .here) rfl rfl rfl<|.tmp rfl .nil) ?_
 have fin:∀y1 y2 y3 y4 y5,iJ (y1::(n5++(y2::(m2++[y3,y4,y5])))) pv ov lv hv gv ev fv sv wv d:=λy1 y2 y3 y4 y5=>
  (g5.bK (m:=y1::y2::(m2++[y3,y4,y5]))).perm (uS)
 exact⟨pv,ov,lv,hv,gv,ev,fv,sv,wv,_,rfl,fN<|pull<|fN<|pull yh,fin _ _ _ _ _⟩
theorem ad4 (hB:Base P K F T){o:OD}{n m:Int}(hd:d.Small)(he:d.kQ)(hi:d.find a=some i)(ho:d.ob[i]?=some o)(hz:o.ci≠2)
  (lm:∀s,bB P K (F 201) [.agg (evRow 3 a b n m it)] s<|λv s'=>v=iv 0/\s'=s):adU P K F 3 a b n m it 5 d:=
 ad5 (k:=3) hB hd (by decide) lm (FB hB (abk<|.inl ⟨rfl,rfl⟩).1) (λ{_ _ _ _ v} hv hW=>by
  obtain⟨bd,bx,rfl,_⟩:=acM (.inl ⟨rfl,rfl⟩) hv
  exact afk hB hW hd he (by decide) (by decide) (by decide) (by decide) hi ho hz)
structure EnT (n f ph:Nat)(d D:SD):Prop where
 te:TE (n+1) f D
 pl:PlK d.pl D.pl
 tu:D.tu=d.tu
 ac:D.ac=d.ac
 ph:D.ph=.ofNat ph
 nx:D.nx<=d.nx+1
theorem TE.kP (h:TE n f d){pr pa:Int}:EnT n f ph d { d with ph:=.ofNat ph,bl:=b,pr:=pr,pa:=pa }:=
 ⟨(h.other (pl:=d.pl) (tu:=d.tu) (ac:=d.ac) h.pl).mono (Nat.le_succ _),.refl _,rfl,rfl,rfl,by show d.nx<=d.nx+1;omega⟩
theorem af7 (N:NEnv P K F T tF)(hP:gK C)(h:TE n f d)(hn:n<=150)(cM:f<=90)(h1:1<=ph)(h9:ph<=9)(hac:d.ac=.ofNat ac)(dM:ac<3)(YI:d.nx<=200)(hf:Has bf (.r false [bu bl aZ c0 c1 c2 c3 c4 bE] 8) t)(eQ:cI t aZ C)(hE:EL.length<=2500)(hs:aH bl EL d t s) :
  bB P K (F 413) [gm tF bf,iv<|.ofNat ph] s (λ_ s'=>∃E2 D2,E2.length<=EL.length+10/\EnT n f ph d D2/\aH bl E2 D2 t s'):=by
 obtain⟨o,ho⟩:∃o,d.pl[ac]?=some o:=⟨_,List.getElem?_eq_getElem (by rw[h.pl];exact dM)⟩
 by_cases e1:ph=1
 ·subst e1
  exact abb N hP h (by omega) cM hac dM ho hf eQ (by omega) hs (by omega) λE2 D2 q s2 k1 k2 k3 k4=>⟨E2,{ D2 with pr:=.ofNat q,pa:=0 },k1,⟨k3.te.other (pl:=D2.pl) (tu:=D2.tu) (ac:=D2.ac) (ph:=D2.ph) (bl:=D2.bl) k3.te.pl,k3.pl,k3.tu,k3.ac,k3.ph,k3.nx⟩,k4⟩
 by_cases e5:ph=5
 ·subst e5
  exact aaU N hP h (by omega) cM hac dM ho hf eQ (by omega) hs λE2 q s2 k1 k2 k3=>⟨E2,_,k1,h.kP,k3⟩
 by_cases e7:ph=7
 ·subst e7
  exact abc N hP h (by omega) cM hac dM ho hf eQ (by omega) hs λE2 q s2 k1 k2 k3=>⟨E2,_,k1,h.kP,k3⟩
 ·exact abd N hP h (by omega) cM (by omega) hac dM ho hf eQ (by omega) hs λE2 q s2 k1 k2 k3=>⟨E2,_,by omega,h.kP,k3⟩
structure UTE (d:SD)(n:Nat):Prop where
 te:TE (n+6) n d
 pl:d.pl=[Zz,Zz,Zz]
 nx:d.nx=.ofNat (n+7)
 sp:d.sp<=.ofNat (n+1)
 tu:d.tu=1
 id:∀j,j<n->∃o∈d.ob,o.id=.ofNat (j+7)
theorem af6:UTE d22 0 where
 te:=by
  refine⟨rfl,⟨rfl,rfl,rfl,rfl⟩,rfl,rfl,rfl,rfl,by decide,by decide,?_,(λid h=>nomatch h),Nat.le_refl _,?_,?_,?_,by decide,by decide,by decide⟩
  ·intro o ho
   simp only[d22,List.mem_cons,List.not_mem_nil,or_false]at ho
   rcases ho with rfl|rfl|rfl|rfl|rfl|rfl<;>exact⟨by decide,by decide,rfl,⟨_,rfl,by decide⟩,⟨_,rfl,by decide⟩,rfl,⟨rfl,rfl,rfl,rfl⟩⟩
  ·intro q l hl id hid
   match q with
   | 0=>
    cases hl
    simp only[List.mem_cons,List.not_mem_nil,or_false]at hid
    rcases hid with rfl|rfl|rfl
    ·exact⟨obU 1 0 0,by simp[d22],rfl,rfl,rfl⟩
    ·exact⟨obU 2 1 0,by simp[d22],rfl,rfl,rfl⟩
    ·exact⟨obU 3 2 0,by simp[d22],rfl,rfl,rfl⟩
   | 1=>
    cases hl
    simp only[List.mem_cons,List.not_mem_nil,or_false]at hid
    rcases hid with rfl|rfl
    ·exact⟨obU 4 1 1,by simp[d22],rfl,rfl,rfl⟩
    ·exact⟨obU 5 1 1,by simp[d22],rfl,rfl,rfl⟩
   | 2=>
    cases hl
    simp only[List.mem_cons,List.not_mem_nil,or_false]at hid
    rcases hid with rfl
    exact⟨obU 6 0 2,by simp[d22],rfl,rfl,rfl⟩
   | q+3=>nomatch hl
  ·intro q l hl id hid
   match q with
   | 0=>cases hl;nomatch hid
   | 1=>cases hl;nomatch hid
   | 2=>cases hl;nomatch hid
   | q+3=>nomatch hl
  ·intro LL hL l hl
   rcases hL with rfl|rfl|rfl|rfl<;>revert l hl<;>decide
 pl:=rfl
 nx:=rfl
 sp:=by decide
 tu:=rfl
 id:=λj h=>nomatch h
theorem TE.new1 (h:TE n f d)(hp:p<3)(hc:c<6)(hx:d.nx<500):TE (n+1) f (d.add (pY p (.ofNat c) 1 0) p):=by
 obtain⟨l,hl⟩:∃l,d.hd[p]?=some l:=⟨_,List.getElem?_eq_getElem (by rw[h.ev.hd,h.pl];exact hp)⟩
 have e:d.add (pY p (.ofNat c) 1 0) p=d.add (pX (pY p (.ofNat c) 1 0) 1) p:=by
  rw[add_one rfl hl,add_one rfl hl]
  rfl
 rw[e]
 exact(h.ahh (o:=pY p (.ofNat c) 1 0) hp rfl ⟨c,rfl,hc⟩ hx).1
theorem TE.new2 (h:TE n f d)(hp:p<3)(hc:c<6)(hx:d.nx<500)(hsp:d.sp<500):TE (n+1) (f+1) (d.add (pY p (.ofNat c) 2 0) p):=by
 rw[acW rfl]
 have a1:=h.nx
 have a2:=h.sp
 refine⟨h.pl,⟨h.ev.lb,h.ev.hd,h.ev.gr,h.ev.ex⟩,h.st,h.wa,h.co,h.oc,?_,?_,λx hx=>?_,λid hx=>?_,?_,λq m hm id hx=>?_,λq m hm id hx=>?_,λLL hL m hm=>Nat.le_succ_of_le<|h.ls LL hL m hm,⟨by show 1<=d.nx+1;omega,by show d.nx+1<=_;omega⟩,⟨by show 0<=d.sp+1;omega,by show d.sp+1<=_;omega⟩,h.hn⟩
 ·show(d.ob++[_]).length<=_
  rw[List.length_append,List.length_singleton]
  exact Nat.add_le_add_right h.ob 1
 ·show((d.ob++[_]).map OD.id).Nodup
  rw[List.map_append]
  refine List.nodup_append.2 ⟨h.nd,by simp,λx hx y hy hh=>?_⟩
  obtain⟨o,ho,rfl⟩:=List.mem_map.1 hx
  have:=(h.o o ho).i2
  rw[List.mem_singleton.1 hy]at hh
  have:o.id=d.nx:=hh
  omega
 ·rcases List.mem_append.1 hx with hx | hx
  ·have:=h.o x hx
   exact⟨this.i1,Int.lt_add_one_of_le<|Int.le_of_lt this.i2,this.bl,this.cd,this.ow,this.ct,this.id⟩
  ·rw[List.mem_singleton.1 hx]
   exact⟨a1.1,by show d.nx<d.nx+1;omega,rfl,⟨c,rfl,hc⟩,⟨p,rfl,hp⟩,rfl,⟨rfl,rfl,rfl,rfl⟩⟩
 ·rcases List.mem_append.1 hx with hx | hx
  ·obtain⟨x,k1,k2⟩:=h.fi id hx
   exact⟨x,List.mem_append_left _ k1,k2⟩
  ·exact⟨_,List.mem_append_right _<|List.mem_singleton.2 rfl,(List.mem_singleton.1 hx).symm,rfl⟩
 ·show(d.fi++[_]).length<=_
  rw[List.length_append,List.length_singleton]
  exact Nat.add_le_add_right h.fn 1
 ·obtain⟨x,k1,k2,k3⟩:=h.lb q m hm id hx
  exact⟨x,List.mem_append_left _ k1,k2,k3⟩
 ·obtain⟨x,k1,k2,k3⟩:=h.hd q m hm id hx
  exact⟨x,List.mem_append_left _ k1,k2,k3⟩
theorem TE.afW {f':Nat}(h:TE n f d)(h1:f<=f'):TE n f' d:=
 ⟨h.pl,h.ev,h.st,h.wa,h.co,h.oc,h.ob,h.nd,h.o,h.fi,Nat.le_trans h.fn h1,h.lb,h.hd,h.ls,h.nx,h.sp,h.hn⟩
theorem UTE.add {z:Nat}(h:UTE d n)(hn:n<=20)(hp:p<3)(hc:c<6)(hz:z<2):UTE (d.add (pY p (.ofNat c) (.ofNat (1+z)) 0) p) (n+1):=by
 have YI:=h.nx
 have hsp:=h.sp
 have ahA:d.nx+1=.ofNat (n+1+7):=by rw[YI];show((n+7:Nat):Int)+1=((n+1+7:Nat):Int);omega
 have amU:d.sp<=((n+1:Nat):Int):=hsp
 have hx5:d.nx<500:=by rw[YI];show((n+7:Nat):Int)<500;omega
 have hid:∀o':OD,o'.id=d.nx->∀j,j<n+1->∃o∈d.ob++[o'],o.id=.ofNat (j+7):=λo' ho' j hj=>by
  by_cases h1:j<n
  ·obtain⟨o,k1,k2⟩:=h.id j h1
   exact⟨o,List.mem_append_left _ k1,k2⟩
  ·exact⟨o',List.mem_append_right _<|.head _,by rw[ho',YI,show j=n by omega]⟩
 rcases(by omega:z=0\/z=1)with rfl|rfl
 ·have VK:=(h.te.new1 hp hc hx5).afW (Nat.le_succ n)
  obtain⟨l,hl⟩:∃l,d.hd[p]?=some l:=⟨_,List.getElem?_eq_getElem (by rw[h.te.ev.hd,h.te.pl];exact hp)⟩
  have e:d.add (pY p (.ofNat c) 1 0) p=_:=add_one rfl hl
  refine⟨VK.mono<|by omega,?_,?_,?_,?_,?_⟩
  all_goals rw[show Int.ofNat (1+0)=1 from rfl,e]
  ·exact h.pl
  ·exact ahA
  ·show d.sp<=((n+1+1:Nat):Int);omega
  ·exact h.tu
  ·exact hid _ rfl
 ·have VK:=h.te.new2 hp hc hx5 (by omega)
  have e:d.add (pY p (.ofNat c) 2 0) p=_:=acW rfl
  refine⟨VK.mono<|by omega,?_,?_,?_,?_,?_⟩
  all_goals rw[show Int.ofNat (1+1)=2 from rfl,e]
  ·exact h.pl
  ·exact ahA
  ·show d.sp+1<=((n+1+1:Nat):Int);omega
  ·exact h.tu
  ·exact hid _ rfl
theorem aei (ps cs zs:Nat->Nat):∀n,n<=20->(∀j,j<n->ps j<3/\cs j<6/\zs j<2)->UTE (dU ps cs zs n) n
 | 0,_,_=>af6
 | n+1,hn,h=>by
  obtain⟨h1,h2,h3⟩:=h n<|Nat.lt_succ_self n
  exact(aei ps cs zs n (by omega) λj hj=>h j<|by omega).add (by omega) h1 h2 h3
def idL (n:Nat):List Int:=(List.range n).map λj=>.ofNat (j+7)
theorem aew (n:Nat):nR (idL (n+1))=nR (idL n)++[[iv (.ofNat (n+7))]]:=by simp[idL,nR,List.range_succ]
theorem aav (n:Nat):(idL n).length=n:=by simp[idL]
theorem aff (h:j<n):(idL n)[j]?=some (.ofNat (j+7)):=by simp[idL,h]
def dG (lost:Bool)(d:SD):SD:=match lost with | true=>{ d with pl:=d.pl.set 1 { Zz with f2:=true } } | false=>d
theorem ae8 (hB:Base P K F T)(hT2:FnK P K (F 271) 19 [] (adi F T))(act:FnK P K (F 280) 9 [] (adj F T))(hL2:BaseL P K F T)(hc:acP P K F){lost:Bool}(hac:ac<3)(hph:ph<10){lv:AV}{L:List (List AV)}{ps cs zs:Nat->Nat}(hL:aif t lv L ps cs zs)(hs:aH bl [] d22 t s)(hf:Has bf (.r false [bu bl aZ 60 c1 c2 c3 c4 bE] 8) t)
  (e0:lk l 0=some (.bool lost)) (e1:lk l 1=some (iv<|.ofNat ac)) (e2:lk l 2=some (iv<|.ofNat ph)) (e3:lk l 3=some lv) (e10:lk l 10=some (.ptr<|some ⟨bf,0,0⟩)) (e12:lk l 12=some nilS)
  (hk:∀l2 s2 ids Gg og,Gg.length<=23->aH bl Gg (dG lost<|dF ps cs zs (min L.length 20) ac ph) (og++t) s2->Src og 1 ids (nR<|idL<|min L.length 20)->lk l2 8=some (.ptr<|some ⟨bf,0,0⟩)->lk l2 9=some ids->Qr l2 [] s2) :
  WP P K none 82 (adY F T) l [] s Qn Qe Qr:=by
 have hin:∀j,j<L.length->ps j<3/\cs j<6/\zs j<2:=λj hj=>by
  obtain⟨x,z,y,_,_,_,_,h1,h2,h3⟩:=hL.b j hj
  rw[<- h1,<- h2,<- h3]
  exact⟨Nat.mod_lt _<|by omega,Nat.mod_lt _<|by omega,Nat.mod_lt _<|by omega⟩
 unfold adY
 refine Vk (k:=?_)
 try unfold alr
 generalize hN:min L.length 20=N at hk
 have hN1:N<=L.length/\N<=20/\(N=L.length\/N=20):=by omega
 have hinv:∀q,q<=N->UTE (dU ps cs zs q) q:=λq hq=>aei ps cs zs q (by omega) λj hj=>hin j<|by omega
 refine Wp (λk l ds s'=>ds=[]/\∃q ids og j Gg,k=N-q/\q<=N/\Gg.length<=q/\aH bl Gg (dU ps cs zs q) (og++(j++t)) s'/\Gr 1 ids (nR<|idL q) og/\∀i w,lk [(0,.bool lost),(1,iv<|.ofNat ac),(2,iv<|.ofNat ph),(3,lv),(10,.ptr<|some ⟨bf,0,0⟩),(12,ids),(13,iv<|.ofNat q)] i=some w->lk l i=some w) ?_ (n:=N-0)
  ⟨rfl,0,nilS,[],[],[],rfl,Nat.zero_le _,Nat.le_refl _,hs,.nil,aa e0<|aa e1<|aa e2<|aa e3<|aa e10<|aa e12<|bX rfl⟩
 rintro k l ds s' ⟨rfl,q,ids,og,j,Gg,rfl,hq,hE,hs',hG,hl⟩
 refine Wg hl (λ_ _ h=>h) ?_
 by_cases hlt:q<N
 ·have Pv:binV .lss (iv<|.ofNat q) (iv<|.ofNat L.length)=some (.bool true):=by rw[eT,decide_eq_true<|show Int.ofNat q<Int.ofNat L.length from Int.ofNat_lt.2<|by omega]
  have XJ:binV .lss (iv<|.ofNat q) (iv 20)=some (.bool true):=by rw[eT,decide_eq_true<|show Int.ofNat q<20 from(by omega:((q:Nat):Int)<20)]
  refine Vk (k:=?_)
  obtain⟨x,z,y,hx,hz,hy,hrow,hcx,zI,hpy⟩:=hL.b q<|by omega
  obtain⟨rb,cap,sl,rfl,hrb⟩:=hL.at'<|by omega
  obtain⟨UO,hc6,pN⟩:=hin q<|by omega
  have hI:=hinv q<|by omega
  have hI1:=hinv (q+1)<|by omega
  have vj:=hI.te.small (by omega)<|by omega
  have Y0:=hI1.te.small (by omega)<|by omega
  have h47:binV .rem (.int .u8<|.ofNat y) (.int .u8<|.ofNat 3)=some (.int .u8<|.ofNat<|ps q):=by rw[<- hpy];exact yi<|by omega
  have h54:binV .rem (.int .u8<|.ofNat x) (.int .u8<|.ofNat 6)=some (.int .u8<|.ofNat<|cs q):=by rw[<- hcx];exact yi<|by omega
  have h61:binV .rem (.int .u8<|.ofNat z) (.int .u8<|.ofNat 2)=some (.int .u8<|.ofNat<|zs q):=by rw[<- zI];exact yi<|by omega
  have h48:mkI .i64 (.ofNat<|ps q)=some (iv<|.ofNat<|ps q):=tD<|by omega
  have h55:mkI .i64 (.ofNat<|cs q)=some (iv<|.ofNat<|cs q):=tD<|by omega
  have h62:mkI .i64 (.ofNat<|zs q)=some (iv<|.ofNat<|zs q):=tD<|by omega
  have hap:Ap P K F 1 (.ofNat<|ps q) (.ofNat<|cs q) (.ofNat<|1+zs q) 0 Az (dU ps cs zs q) (dU ps cs zs<|q+1):=by
   intro pv ov lv hv gv ev fv sv wv
   exact ad3 hB vj hI.te.ev (by rw[hI.pl];exact UO) ⟨by rw[hI.nx];exact Int.natCast_nonneg _,by rw[hI.nx];show((q+7:Nat):Int)<=1000000;omega⟩ ⟨hI.te.sp.1,Int.le_trans hI.sp (by show((q+1:Nat):Int)<=1000000;omega)⟩ (hc.new _ _ _ · UO hc6 pN)
  refine Vk (k:=WP.fd λb66=>?_)
  have dt:aH bl Gg (dU ps cs zs q) ((b66,.gone)::(og++(j++t))) ((b66,.gone)::s'):=hs'.cons
  refine Dp (.mv rfl)<|Dp (.mv rfl) ?_
  refine Dp (.mv rfl)<|Dp (.mv rfl)<|Dp (.iaddrS rfl rfl (by omega)<|by omega)<|Dp (.faddr rfl)<|Dl rfl .nil (.load rfl (.there<|hs'.mem<|.app<|.app hrb) (r:=0+q) (by rw[Nat.zero_add];exact hrow) rfl rfl)<|Dp (.arith rfl rfl h47)<|Dp (.convI rfl h48) ?_
  refine Dp (.mv rfl)<|Dp (.mv rfl)<|Dp (.iaddrS rfl rfl (by omega)<|by omega)<|Dp (.faddr rfl)<|Dl rfl .nil (.load rfl (.there<|hs'.mem<|.app<|.app hrb) (r:=0+q) (by rw[Nat.zero_add];exact hrow) rfl rfl)<|Dp (.arith rfl rfl h54)<|Dp (.convI rfl h55) ?_
  refine Dp (.mv rfl)<|Dp (.mv rfl)<|Dp (.iaddrS rfl rfl (by omega)<|by omega)<|Dp (.faddr rfl)<|Dl rfl .nil (.load rfl (.there<|hs'.mem<|.app<|.app hrb) (r:=0+q) (by rw[Nat.zero_add];exact hrow) rfl rfl)<|Dp (.arith rfl rfl h61)<|Dp (.convI rfl h62) ?_
  refine Dp (.arith rfl rfl<|bM<|by omega)<|Dp (.build (cs:=evRow 1 (.ofNat<|ps q) (.ofNat<|cs q) (.ofNat<|1+zs q) 0 Az) rfl rfl)<|Dc .nil<|WS.perm<|W1 (u5 hB dt vj (.there<|.app<|.app hf) (by omega) (by rw[du];exact decide_eq_true (show(((dU ps cs zs q).ob.length:Nat):Int)<60 by have:=hI.te.ob;omega)) hap Y0 ⟨by rw[hI1.nx];show(1:Int)<=((q+1+7:Nat):Int);omega,by rw[hI1.nx];show((q+1+7:Nat):Int)<=1000000;omega⟩) ?_
  rintro w s3 ⟨rfl,gw⟩
  obtain⟨u,hu,hback⟩:=gw.split
  have PQ:(dU ps cs zs<|q+1).nx-1=.ofNat (q+7):=by rw[hI1.nx];show((q+1+7:Nat):Int)-1=((q+7:Nat):Int);omega
  rw[PQ]
  generalize hnd:Int.ofNat (q+7)=cG
  refine⟨_,hu,WD.al (.bslice (L:=[[iv cG]]) (fZ rfl rfl) rfl) rfl ?_⟩
  refine Dc (.yes rfl rfl (.app .here) .nil)<|WS.pre (s':=((b66,.r false [[iv cG]] 1)::u)++(og++(j++t))) (uS)<|WS.append_gr rfl hG rfl (Src.all (L:=[[iv cG]]) .here) (by omega) (by rw[gq,aav];omega) (by omega) λv' o' jk xB=>?_
  refine Dp (.mv rfl)<|D0 .nil ?_<|λo ho=>nomatch ho
  refine Vk (k:=?_)
  refine⟨N-(q+1),by omega,rfl,q+1,v',o',(b66,.r false [[iv cG]] 1)::(jk++j),_,rfl,hlt,?_,(hback<|o'++(((b66,.r false [[iv cG]] 1)::(jk++j))++t)).perm (uS),?_,bX rfl⟩
  ·rw[List.length_append];exact Nat.succ_le_succ hE
  ·rw[aew,hnd];exact xB
 ·have hqN:q=N:=by omega
  have fin:∀{l2:Sl},(∀i w,lk [(0,.bool lost),(1,iv<|.ofNat ac),(2,iv<|.ofNat ph),(10,.ptr<|some ⟨bf,0,0⟩),(12,ids)] i=some w->lk l2 i=some w)->WP P K none 82 (oN [zm 68 10,zm 69 1,zo 70<|.build mB [⟨0,⟨1,zc 20⟩⟩,⟨1,⟨1,.tmp 69⟩⟩],oF F 71 15 [.tmp 68,.tmp 70]]<|ag8 F T) l2 [] s' Qn Qe Qr:=by
   intro l2 CG
   subst hqN
   have hI:=hinv q<|Nat.le_refl _
   have vj:=hI.te.small (by omega)<|by omega
   refine Wg CG (λ_ _ h=>h) ?_
   have Y0:({ dU ps cs zs q with tu:=(dU ps cs zs q).tu+1,ac:=.ofNat ac }:SD).Small:=⟨vj.n1,vj.n2⟩
   refine Vk (k:=Wr (.build (cs:=evRow 20 (.ofNat ac) 0 0 0 Az) rfl rfl) (Ww (W1 (Cl hB hs' vj (.app<|.app hf) (by omega) (by decide) (by decide) (by decide) (by decide) (abj hB hT2 vj hI.te.ev (by rw[hI.pl];exact hac) (by rw[hI.tu];decide) (hc.turn ac · hac))) ?_)))
   rintro w s3 ⟨_,gw⟩
   refine Wn ?_
   unfold ag8
   refine Vk (k:=Wr (.build (cs:=evRow 19 (.ofNat ph) 0 0 0 Az) rfl rfl) (Ww (W1 (Cl hB gw Y0 (.app<|.app hf) (by rw[List.length_append];show Gg.length+1<=5000;omega) (by decide) (by decide) (by decide) (by decide) (aaM hB act Y0 ⟨hI.te.ev.lb,hI.te.ev.hd,hI.te.ev.gr,hI.te.ev.ex⟩ (hc.phase ph · hph))) ?_)))
   rintro w s4 ⟨_,pM⟩
   have ahH:aH bl _ (dF ps cs zs q ac ph) (og++t) s4:=(pM.tT (t':=j++(og++t)) (ak λc w h0 h1 h2 hq=>by simp only[h1];omega)).fb
   refine Vk (k:=?_)
   cases lost with
   | false=>
    refine Vk (k:=We ?_)
    exact hk _ _ ids _ og (by rw[List.length_append,List.length_append];show Gg.length+1+1<=23;omega) ahH hG.out.src rfl rfl
   | true=>
    have acy:(dF ps cs zs q ac ph).Small:=⟨vj.n1,vj.n2⟩
    refine Vk (k:=Wr (.build (cs:=evRow 23 (.ofNat 1) 0 0 0 Az) rfl rfl)<|Ww<|W1 (Cl hB ahH acy (.app hf) (by rw[List.length_append,List.length_append];show Gg.length+1+1<=5000;omega) (by decide) (by decide) (by decide) (by decide)<|adm hB hL2 (p:=1) (o:=Zz) acy ⟨hI.te.ev.lb,hI.te.ev.hd,hI.te.ev.gr,hI.te.ev.ex⟩ (by show(dU ps cs zs q).pl[1]?=_;rw[hI.pl];rfl) hc.lose) ?_)
    rintro w s5 ⟨_,tn⟩
    refine Vk (k:=We ?_)
    exact hk _ _ ids _ og (by rw[List.length_append,List.length_append,List.length_append];show Gg.length+1+1+1<=23;omega) tn hG.out.src rfl rfl
  by_cases hlen:q<L.length
  ·have Pv:binV .lss (iv<|.ofNat q) (iv<|.ofNat L.length)=some (.bool true):=by rw[eT,decide_eq_true<|show Int.ofNat q<Int.ofNat L.length from Int.ofNat_lt.2 hlen]
   have XJ:binV .lss (iv<|.ofNat q) (iv 20)=some (.bool false):=by rw[eT,decide_eq_false<|show¬Int.ofNat q<20 from(by omega:¬((q:Nat):Int)<20)]
   refine Vk (k:=Wr (.lenS rfl hL.len)<|Wj rfl rfl Pv<|Wv rfl<|Wy<|Wv rfl<|Wy<|Wj rfl rfl XJ<|Wr (.eb rfl rfl)<|Wn<|Wd rfl fS<|λ_=>Wx ?_)
   exact fin<|bX rfl
  ·have Pv:binV .lss (iv<|.ofNat q) (iv<|.ofNat L.length)=some (.bool false):=by rw[eT,decide_eq_false<|show¬Int.ofNat q<Int.ofNat L.length fromλh=>hlen<|Int.ofNat_lt.1 h]
   refine Vk (k:=Wr (.lenS rfl hL.len)<|Wj rfl rfl Pv<|Wv rfl<|Wk<|Wk<|Wr (.bj rfl rfl)<|Wn<|Wd rfl fS<|λ_=>Wx ?_)
   exact fin<|bX rfl
variable {op:AOp}{rest:List bS}{jj:Nat}{w:Bool}
theorem RO.yes {d:Option Nat}{Q:Sl->Prop}(hj:lk l jj=some (.bool w))(h:WR P op l [] v)(k:RO P K rest (pl d v l) Q):RO P K (⟨d,op,some (jj,w)⟩::rest) l Q:=by
 intro nt ops l0 e ds H hl he
 cases l0 with
 | nil=>cases hl
 | cons x l0=>
  obtain⟨c,cs,g1,g2,g3⟩:=(aV _ x l0 _).1 hl
  cases g3
  obtain⟨k',o,hc,ho,hd⟩:∃k o,cOper P nt x=⟨d,op,some (k,w)⟩/\dJ ops.toList k=some o/\o.dst=some jj:=by
   unfold co at g1
   generalize cOper P nt x=z at g1 |-
   obtain⟨d',op',g'⟩:=z
   dsimp only at g1
   split at g1
   ·rename_i g hg
    cases g1
    obtain⟨k,o,rfl,h1,h2⟩:=kZ hg
    exact⟨k,o,rfl,h1,h2⟩
   ·cases g1
  have hp:Hp ⟨.lf,0⟩ [] H:=⟨Nat.zero_le _,(λb o hb=>nomatch hb),List.Pairwise.nil,λb hb=>absurd hb<|Nat.not_lt_zero _⟩
  obtain⟨e',l',j1,j2,j3⟩:=k nt ops l0 (putO e d v) ds H g2<|he.putO d v
  exact⟨e',l',fj.cons hc (by rw[mz ho hd (he _ _ hj),beq_self_eq_true]) ⟨0,(h.q P _ (bL e) ds H).trans (by rw[h.h _ e H he hp])⟩ j1,j2,j3⟩
theorem RO.skip {d:Option Nat}{Q:Sl->Prop}{b:Bool}(hj:lk l jj=some (.bool b))(hb:(b==w)=false)(k:RO P K rest (pl d .undef l) Q):RO P K (⟨d,op,some (jj,w)⟩::rest) l Q:=by
 intro nt ops l0 e ds H hl he
 cases l0 with
 | nil=>cases hl
 | cons x l0=>
  obtain⟨c,cs,g1,g2,g3⟩:=(aV _ x l0 _).1 hl
  cases g3
  obtain⟨k',o,hc,ho,hd⟩:∃k o,cOper P nt x=⟨d,op,some (k,w)⟩/\dJ ops.toList k=some o/\o.dst=some jj:=by
   unfold co at g1
   generalize cOper P nt x=z at g1 |-
   obtain⟨d',op',g'⟩:=z
   dsimp only at g1
   split at g1
   ·rename_i g hg
    cases g1
    obtain⟨k,o,rfl,h1,h2⟩:=kZ hg
    exact⟨k,o,rfl,h1,h2⟩
   ·cases g1
  obtain⟨e',l',j1,j2,j3⟩:=k nt ops l0 (putO e d .undef) ds H g2<|he.putO d .undef
  exact⟨e',l',fj.pass hc (by rw[mz ho hd (he _ _ hj),hb]) j1,j2,j3⟩
def CY (P:Program)(K:Orc)(c:AC)(l:Sl)(Q:Sl->Prop):Prop:=∀(nt:Nat)(c0:Code)(e:Tr AV)(ds:List aD)(H:Heap),cc P nt c0=c->En l e->∃e' l',bt P K none nt c0 e ds H (.mk .normal e' ds H)/\En l' e'/\Q l'
theorem CY.ops {ol:List bS}{Q:Sl->Prop}(h:RO P K ol l Q):CY P K (.ops ol) l Q:=by
 intro nt c0 e ds H ha he
 cases c0 with
 | region i ops d=>
  cases d with
  | true=>
   exfalso
   have hc:cdr P nt ops=.ops ol:=ha
   unfold cdr at hc
   split at hc
   ·split at hc<;>cases hc
   ·cases hc
  | false=>
   have hc:(match aI (co P nt ops.toList) ops.toList with | some l=>AC.ops l | none=>.bad)=.ops ol:=ha
   split at hc
   ·rename_i l' hl'
    cases hc
    obtain⟨e1,l2,k1,k2,k3⟩:=h nt ops ops.toList e ds H hl' he
    exact⟨e1,l2,bt.region k1,k2,k3⟩
   ·cases hc
 | _=>simp[cc]at ha
theorem CY.skip {Q:Sl->Prop}(h:Q l):CY P K .skip l Q:=by
 intro nt c0 e ds H ha he
 cases c0 with
 | skip=>exact⟨e,l,⟨1,rfl⟩,he,h⟩
 | label i=>exact⟨e,l,⟨1,rfl⟩,he,h⟩
 | region i ops d=>exact(db ha).elim
 | _=>simp[cc]at ha
variable {Q1:Sl->Prop}
theorem CY.seq {a b:AC}{Q:Sl->Prop}(h1:CY P K a l Q1)(h2:∀l',Q1 l'->CY P K b l' Q):CY P K (.seq a b) l Q:=by
 intro nt c0 e ds H ha he
 cases c0 with
 | seq a0 b0=>
  simp only[cc,AC.seq.injEq]at ha
  obtain⟨ha,hb⟩:=ha
  obtain⟨e1,l1,k1,k2,k3⟩:=h1 nt a0 e ds H ha he
  obtain⟨e2,l2,j1,j2,j3⟩:=h2 l1 k3 nt b0 e1 ds H hb k2
  exact⟨e2,l2,bt.seq k1 j1,j2,j3⟩
 | region i ops d=>exact(db ha).elim
 | _=>simp[cc]at ha
theorem CY.cond {x:Operand}{a b:AC}{Q:Sl->Prop}(hx:opl l x=some (.bool w))(h1:w=true->CY P K a l Q)(h2:w=false->CY P K b l Q):CY P K (.cond x a b) l Q:=by
 intro nt c0 e ds H ha he
 cases c0 with
 | cond y a0 b0=>
  simp only[cc,AC.cond.injEq]at ha
  obtain⟨rfl,ha,hb⟩:=ha
  cases w with
  | true=>
   obtain⟨e1,l1,k1,k2,k3⟩:=h1 rfl nt a0 e ds H ha he
   exact⟨e1,l1,bt.yes (aG he hx) k1,k2,k3⟩
  | false=>
   obtain⟨e1,l1,k1,k2,k3⟩:=h2 rfl nt b0 e ds H hb he
   exact⟨e1,l1,bt.no (aG he hx) k1,k2,k3⟩
 | region i ops d=>exact(db ha).elim
 | _=>simp[cc]at ha
def afz (P:Program)(K:Orc)(nt:Nat)(c0:Code)(e:Tr AV)(ds:List aD)(H H0:Heap)(Qn:Po)(Qe:Nat->Po)(Qr:Po):Prop:=
 ∃x e' ds' H' l' s',bt P K none nt c0 e ds H (.mk x e' ds' H')/\En l' e'/\Hp H0 s' H'/\(match x with | .normal=>Qn l' ds' s' | .exit i=>Qe i l' ds' s' | .ret=>Qr l' ds' s')
theorem CY.then {a b:AC}{e:Tr AV}{H H0:Heap}(h1:CY P K a l Q1)(he:En l e)(h2:∀l' e',Q1 l'->En l' e'->∀b0,cc P nt b0=b->afz P K nt b0 e' ds H H0 Qn Qe Qr){c0:Code}(hc:cc P nt c0=.seq a b):afz P K nt c0 e ds H H0 Qn Qe Qr:=by
 cases c0 with
 | seq a0 b0=>
  simp only[cc,AC.seq.injEq]at hc
  obtain⟨ha,hb⟩:=hc
  obtain⟨e1,l1,k1,k2,k3⟩:=h1 nt a0 e ds H ha he
  obtain⟨x,e2,ds2,H2,l2,s2,j1,j2,j3,j4⟩:=h2 l1 e1 k3 k2 b0 hb
  exact⟨x,e2,ds2,H2,l2,s2,bt.seq k1 j1,j2,j3,j4⟩
 | region i ops d=>exact(db hc).elim
 | _=>simp[cc]at hc
open Go.Proofs
set_option maxRecDepth 100000
def afG (F:Nat->FuncId):AC:=NF (pt (cd 7 178 F λn=>n) [1,1,1,1,1,1,1,1,1,0,1,0,0,1,0,0,1,0,1,0,0]) _
def afE:CF:=NF (λF T=>pt (cd 7 178 F T) [1,1,1,1,1,1,1,0,1,0,0]) _
def adZ:CF:=NF (λF T=>pt (cd 7 178 F T) [1,1,1,1,1,1,1,1,1,0,1,0,0,1]) _
def afF:CF:=NF (λF T=>pt (cd 7 178 F T) [1,1,1,1,1,1,1,1,1,0,1,0,0]) _
def afH:CF:=NF (λF T=>pt (cd 7 178 F T) [1,1,1,1,1,1,1,1,1,1,1,1,1,1,0,1,0,0]) _
def afI:CF:=NF (λF T=>pt (cd 7 178 F T) [1,1,1,1,1,1,1,1,1,1]) _
def acU:CF:=NF (λF T=>pt (cd 7 178 F T) [1,1,1,1,1,1]) _
def acS:AC:=NF (pt (cd 7 178 (λn=>n) λn=>n) [1,1,0]) _
def acQ:AC:=NF (pt (cd 7 178 (λn=>n) λn=>n) [1,1,1,0]) _
def acR:AC:=NF (pt (cd 7 178 (λn=>n) λn=>n) [1,1,1,1,0]) _
def ad0 (F:Nat->FuncId):List bS:=NF ((pt (cd 7 178 F λn=>n) [1,1,1,1,1,0]).opl) _
structure TL (n:Nat)(lost:Bool)(ac:Nat)(D:SD):Prop where
 te:TE n 20 D
 f1:∀o∈D.pl,o.f1=false
 f2:∀q,q<3->fE D q=(lost&&decide (q=1))
 mn:MnB D
 ac:D.ac=.ofNat ac
theorem PlK.inv (h:PlK A B)(ho:o∈B):∃o2∈A,(o.f1,o.f2,o.m0,o.m1,o.m2,o.m3)=(o2.f1,o2.f2,o2.m0,o2.m1,o2.m2,o2.m3):=by
 obtain⟨q,hq⟩:=List.getElem?_of_mem ho
 have:=h q
 rw[hq]at this
 obtain⟨o2,h1,h2⟩:=Option.map_eq_some_iff.1 this
 exact⟨o2,List.mem_of_getElem? h1,h2.symm⟩
theorem TL.next {n':Nat}{lost:Bool}(h:TL n lost ac d)(h1:TE n' 20 D)(h2:PlK d.pl D.pl)(h3:D.ac=.ofNat ac):TL n' lost ac D:=by
 refine⟨h1,λo ho=>?_,λq hq=>by rw[h2.lost];exact h.f2 q hq,λo ho j hj=>?_,h3⟩
 ·obtain⟨o2,k1,k2⟩:=h2.inv ho
  simp only[Prod.mk.injEq]at k2
  exact k2.1.trans<|h.f1 o2 k1
 ·obtain⟨o2,k1,k2⟩:=h2.inv ho
  simp only[Prod.mk.injEq]at k2
  have:=h.mn o2 k1 j hj
  have e:o.mn j=o2.mn j:=by
   match j,hj with
   | 0,_=>exact k2.2.2.1
   | 1,_=>exact k2.2.2.2.1
   | 2,_=>exact k2.2.2.2.2.1
   | 3,_=>exact k2.2.2.2.2.2
  rw[e]
  exact this
theorem agu (o:LD)(j:Nat)(x:Int):(o.aaH j x).f1=o.f1/\(o.aaH j x).f2=o.f2:=by
 unfold LD.aaH
 split<;>exact⟨rfl,rfl⟩
theorem afu (o:LD)(hj:j<4)(hi:i<4)(x:Int):(o.aaH j x).mn i=if i=j then x else o.mn i:=by
 match j,hj,i,hi with
 | 0,_,0,_=>rfl
 | 0,_,1,_=>rfl
 | 0,_,2,_=>rfl
 | 0,_,3,_=>rfl
 | 1,_,0,_=>rfl
 | 1,_,1,_=>rfl
 | 1,_,2,_=>rfl
 | 1,_,3,_=>rfl
 | 2,_,0,_=>rfl
 | 2,_,1,_=>rfl
 | 2,_,2,_=>rfl
 | 2,_,3,_=>rfl
 | 3,_,0,_=>rfl
 | 3,_,1,_=>rfl
 | 3,_,2,_=>rfl
 | 3,_,3,_=>rfl
structure aap (n:Nat)(q:Nat)(d D:SD):Prop where
 te:TE n 20 D
 pf:∀p:Nat,(D.pl[p]?.map λo=>(o.f1,o.f2))=d.pl[p]?.map λo=>(o.f1,o.f2)
 mn:∀o∈D.pl,∀j<4,0<=o.mn j/\o.mn j<=20*q
 tu:D.tu=d.tu
 ac:D.ac=d.ac
 ph:D.ph=d.ph
 nx:D.nx=d.nx
 id:∀id,(∃o∈D.ob,o.id=id)↔∃o∈d.ob,o.id=id
theorem aap.tl {lost:Bool}(h:aap n q d D)(h1:TL n lost ac d)(hq:q<=20):TL n lost ac D:=by
 refine⟨h.te,λo ho=>?_,λp hp=>?_,λo ho j hj=>?_,h.ac.trans h1.ac⟩
 ·obtain⟨p,hp⟩:=List.getElem?_of_mem ho
  have:=h.pf p
  rw[hp]at this
  obtain⟨o2,k1,k2⟩:=Option.map_eq_some_iff.1 this.symm
  simp only[Prod.mk.injEq]at k2
  exact k2.1.symm.trans<|h1.f1 o2<|List.mem_of_getElem? k1
 ·rw[<- h1.f2 p hp]
  have:=h.pf p
  unfold fE
  cases e1:D.pl[p]?<;>cases e2:d.pl[p]?<;>simp[e1,e2]at this |-
  exact this.2
 ·have:=h.mn o ho j hj
  omega
theorem aap.tap (h:aap n q d D){o:OD}(xG:D.ob[i]?=some o)(b:Bool):aap n q d { D with ob:=D.ob.set i { o with RU:=b } }:=by
 refine⟨h.te.fresh xG b o.sick,h.pf,h.mn,h.tu,h.ac,h.ph,h.nx,λid=>?_⟩
 rw[<- h.id id]
 constructor
 ·rintro⟨x,hx,rfl⟩
  rcases List.mem_or_eq_of_mem_set hx with hx|rfl
  ·exact⟨x,hx,rfl⟩
  ·exact⟨o,List.mem_of_getElem? xG,rfl⟩
 ·rintro⟨x,hx,rfl⟩
  obtain⟨j,hj⟩:=List.getElem?_of_mem hx
  by_cases hij:i=j
  ·subst hij
   rw[xG]at hj
   cases hj
   exact⟨_,List.mem_iff_getElem?.2 ⟨i,List.getElem?_set_self (List.getElem?_eq_some_iff.1 xG).1⟩,rfl⟩
  ·exact⟨x,List.mem_iff_getElem?.2 ⟨j,by rw[List.getElem?_set_ne hij];exact hj⟩,rfl⟩
theorem aap.mana (h:aap n q d D)(ho:D.pl[p]?=some o)(hj:j<4)(hq:q<=20):aap n (q+1) d { D with pl:=D.pl.set p (o.aaH j (o.mn j+q)) }:=by
 have hmo:=h.mn o<|List.mem_of_getElem? ho
 refine⟨h.te.pl_ (by rw[List.length_set];exact h.te.pl),λp2=>?_,λx hx i hi=>?_,h.tu,h.ac,h.ph,h.nx,h.id⟩
 ·rw[<- h.pf p2]
  show((D.pl.set p _)[p2]?.map _)=_
  by_cases hp:p=p2
  ·subst hp
   rw[List.getElem?_set_self (List.getElem?_eq_some_iff.1 ho).1,ho]
   obtain⟨k1,k2⟩:=agu o j<|o.mn j+q
   show some (_,_)=some (_,_)
   rw[k1,k2]
  ·rw[List.getElem?_set_ne hp]
 ·rcases List.mem_or_eq_of_mem_set hx with hx | rfl
  ·have:=h.mn x hx i hi
   omega
  ·rw[afu o hj hi]
   have k1:=hmo i hi
   have k2:=hmo j hj
   split<;>omega
variable {q0:Nat}{ids x2 x7 x8:AV}
theorem ab1 (N:NEnv P K F T tF)(h:aap n 0 d d)(hn:n<=150)(YI:d.nx<=200)(hq0:q0<=20)(hid:∀j,j<q0->∃o∈d.ob,o.id=.ofNat (j+7))(hS:Src m 1 ids (nR (idL q0)))(hf:Has bf (.r false [bu bl aZ c0 c1 c2 c3 c4 bE] 8) t)(hE:EL.length<=1000)(hs:aH bl EL d (m++t) s)
  (hl:∀x w,lk [(2,x2),(7,x7),(8,x8),(9,.ptr<|some ⟨bf,0,0⟩),(10,ids),(11,iv<|.ofNat 0)] x=some w->lk l x=some w)
  (hk:∀l2 s2 E2 D2,E2.length<=EL.length+2*q0->aap n q0 d D2->aH bl E2 D2 (m++t) s2->(∀x w,lk [(2,x2),(7,x7),(8,x8),(9,.ptr<|some ⟨bf,0,0⟩)] x=some w->lk l2 x=some w)->Qn l2 [] s2) :
  WP P K none 178 (.block 0<|.loop<|afE F T) l [] s Qn (λ_=>Kj) Qr:=by
 refine Wb ?_
 refine Wp (λk l ds s'=>ds=[]/\∃q E2 D2,k=q0-q/\q<=q0/\E2.length<=EL.length+2*q/\aap n q d D2/\aH bl E2 D2 (m++t) s'/\∀x w,lk [(2,x2),(7,x7),(8,x8),(9,.ptr<|some ⟨bf,0,0⟩),(10,ids),(11,iv<|.ofNat q)] x=some w->lk l x=some w) ?_ (n:=q0-0)
  ⟨rfl,0,_,_,rfl,Nat.zero_le _,Nat.le_refl _,h,hs,hl⟩
 rintro k l ds s' ⟨rfl,q,E2,D2,rfl,hq,hE2,t6,hs',CG⟩
 refine Wg CG (λ_ _ h=>h) ?_
 have VK:=t6.te
 have vj:=VK.small (by omega)<|by omega
 have hlen:lenOf ids=some q0:=by rw[hS.lenOf,gq,aav]
 try unfold afE
 by_cases hlt:q<q0
 rotate_left
 ·have e1:=qa hlt
  obtain rfl:q=q0:=by omega
  refine Vk (k:=Wx ?_)
  exact hk _ _ _ _ hE2 t6 hs'<|bX rfl
 have e1:=qb hlt
 obtain⟨ba,ra,na,ca,J5,Sp,Ma,rfl,hba,me,hra⟩:=hS.at (i:=q) (by rw[gq,aav];exact hlt)
 rw[Qp (by rw[aav];exact hlt)]at hra
 have ajj:(idL q0)[q]'(by rw[aav];exact hlt)=.ofNat (q+7):=(List.getElem?_eq_some_iff.1<|aff hlt).2
 rw[ajj]at hra
 have adE:=hs'.mem<|.left hba
 obtain⟨o,k1,k2⟩:=(t6.id _).2 (hid q hlt)
 obtain⟨i,hi⟩:=aah k1
 have xG:D2.ob[i]?=some o:=by
  obtain⟨o',j1,j2,j3⟩:=F8 hi
  have:=zt VK.nd j3 k1 j2
  subst this
  exact j1
 have UO:q%3<3:=Nat.mod_lt _<|by omega
 have hj4:q%4<4:=Nat.mod_lt _<|by omega
 have e59:binV .rem (iv<|.ofNat q) (iv<|.ofNat 3)=some (iv<|.ofNat<|q%3):=yi<|by omega
 have e61:binV .rem (iv<|.ofNat q) (iv<|.ofNat 4)=some (iv<|.ofNat<|q%4):=yi<|by omega
 -- it is RU,or not
 have hO:=VK.o o k1
 have i1:=hO.i1
 have i2:=hO.i2
 have DF:=t6.nx
 have adG:bB P K (F 15) [.ptr (some ⟨bf,0,0⟩),.agg<|evRow 3 (.ofNat<|q+7) 0 1 0 Az] s' (λ_ s3=>∃E3 D3,E3.length<=E2.length+1/\aap n q d D3/\aH bl E3 D3 (m++t) s3):=by
  rw[<- k2]
  have lm:∀s,bB P K (F 201) [.agg (evRow 3 o.id 0 1 0 Az)] s (λv s'=>v=iv 0/\s'=s):=λs=>N.says.tap o.id 1 s i1 (by omega)<|.inr rfl
  by_cases hz:o.ci=2
  ·refine(Cl N.hB hs' vj (.app hf) (by omega) (by decide) (by decide) (by decide) (by decide)<|aaz (k:=3) (o':={ o with RU:=true }) N.hB N.hX vj VK.ev (.inl ⟨rfl,rfl⟩) hi xG hz (λhu hr=>abn (n:=1) N.hX hu hr) lm).post ?_
   rintro _ s3 ⟨_,gw⟩
   exact⟨_,_,by rw[List.length_append,List.length_singleton];exact Nat.le_refl _,t6.tap xG true,gw⟩
  ·refine(aej N.hB hs' vj (.app hf) (by decide) (c:=5) (by decide)<|ad4 N.hB vj VK.ev hi xG hz lm).post ?_
   rintro _ s3 ⟨_,gw⟩
   exact⟨E2,D2,by omega,t6,gw⟩
 refine Vk (k:=Wr (.build (cs:=evRow (Int.ofNat 3) (Int.ofNat<|q+7) 0 (Int.ofNat 1) 0 Az) rfl rfl) ?_)
 refine Ww<|W1 (adG) ?_
 rintro _ s3 ⟨E3,D3,k3,hD3,gw⟩
 obtain⟨lp,hlp⟩:∃o,D3.pl[q%3]?=some o:=⟨_,List.getElem?_eq_getElem (by rw[hD3.te.pl];exact UO)⟩
 have hb:=hD3.mn lp (List.mem_of_getElem? hlp) (q%4) hj4
 have agk:=hD3.te.small (by omega)<|by omega
 have hap:Ap P K F 8 (.ofNat<|q%3) (.ofNat<|q%4) (.ofNat q) 0 Az D3 { D3 with pl:=D3.pl.set (q%3) (lp.aaH (q%4)<|lp.mn (q%4)+q) }:=by
  intro pv ov lv hv gv ev fv sv wv
  exact aca N hD3.te (by omega) (by omega) UO hj4 hlp (m:=.ofNat q) (by show 0<=lp.mn (q%4)+((q:Nat):Int)/\lp.mn (q%4)+((q:Nat):Int)<=999;omega) (by show -999<=((q:Nat):Int)/\((q:Nat):Int)<=999;omega)
 refine Vk (k:=Wr (.build (cs:=evRow (Int.ofNat 8) (Int.ofNat<|q%3) (Int.ofNat<|q%4) (Int.ofNat q) 0 Az) rfl rfl)<|Ww<|W1 (Cl N.hB gw agk (.app hf) (by omega) (by decide) (by decide) (by decide) (by decide) hap) ?_)
 rintro _ s4 ⟨_,pM⟩
 refine Vk (k:=?_)
 exact⟨q0-(q+1),by omega,rfl,q+1,_,_,rfl,hlt,by rw[List.length_append,List.length_singleton];omega,hD3.mana hlp hj4<|by omega,pM,bX rfl⟩
def muT (ph:Nat):Nat:=if ph=9 then 1 else if ph=8 then 2 else if 4<=ph then 10-ph else 6-ph
theorem ab7 (h:ph<=9)(h9:ph≠9):muT (uY ph)+1=muT ph/\1<=uY ph/\uY ph<=9:=by
 unfold muT uY
 rcases(by omega:ph=0\/ph=1\/ph=2\/ph=3\/ph=4\/ph=5\/ph=6\/ph=7\/ph=8)with rfl|rfl|rfl|rfl|rfl|rfl|rfl|rfl|rfl<;>decide
theorem ac6 (h:ph<=9):1<=muT ph/\muT ph<=6:=by
 unfold muT
 rcases(by omega:ph=0\/ph=1\/ph=2\/ph=3\/ph=4\/ph=5\/ph=6\/ph=7\/ph=8\/ph=9)with rfl|rfl|rfl|rfl|rfl|rfl|rfl|rfl|rfl|rfl<;>decide
structure TDn (n m:Nat)(lost:Bool)(ac:Nat)(d D:SD):Prop where
 te:TE n 20 D
 f1:∀o∈D.pl,o.f1=false
 f2:∀q,q<3->fE D q=(lost&&decide (q=1))
 ac:D.ac=.ofNat (dT d ac)
 tu:D.tu=d.tu+1
 nx:D.nx<=d.nx+m
theorem afp {lost:Bool}(h:∀q,q<3->fE d q=(lost&&decide (q=1)))(h2:∀q,q<3->fE D q=(lost&&decide (q=1)))(a:Nat):dT D a=dT d a:=by
 unfold dT
 rw[h _ (Nat.mod_lt _<|by omega),h _<|Nat.mod_lt _<|by omega,h2 _<|Nat.mod_lt _<|by omega,h2 _<|Nat.mod_lt _<|by omega]
theorem AfT.f1 (h:AfT n 20 ph ac d D)(hd:d.pl.length=3)(h1:∀o∈d.pl,o.f1=false):∀o∈D.pl,o.f1=false:=λo ho=>by
 obtain⟨q,hq⟩:=List.getElem?_of_mem ho
 have hlt:q<d.pl.length:=by rw[hd,<- h.te.pl];exact(List.getElem?_eq_some_iff.1 hq).1
 obtain⟨o',k1,k2,_⟩:=h.pl q _<|List.getElem?_eq_getElem hlt
 rw[hq]at k1
 cases k1
 rw[k2]
 exact h1 _<|List.getElem_mem hlt
theorem AfT.f2 (h:AfT n 20 ph ac d D)(hd:d.pl.length=3):∀q,q<3->fE D q=fE d q:=λq hq=>by
 have hlt:q<d.pl.length:=by rw[hd];exact hq
 obtain⟨o',k1,_,k2,_⟩:=h.pl q _<|List.getElem?_eq_getElem hlt
 unfold fE
 rw[k1,List.getElem?_eq_getElem hlt]
 exact k2
theorem AfT.no (h:AfT n 20 ph ac d D)(hd:d.pl.length=3):∀o∈D.pl,acf o:=λo ho=>by
 obtain⟨q,hq⟩:=List.getElem?_of_mem ho
 have hlt:q<d.pl.length:=by rw[hd,<- h.te.pl];exact(List.getElem?_eq_some_iff.1 hq).1
 obtain⟨o',k1,_,_,k2⟩:=h.pl q _<|List.getElem?_eq_getElem hlt
 rw[hq]at k1
 cases k1
 exact k2
theorem acf.mn (h:acf o)(hj:j<4):o.mn j=0:=by
 match j,hj with
 | 0,_=>exact h.1
 | 1,_=>exact h.2.1
 | 2,_=>exact h.2.2.1
 | 3,_=>exact h.2.2.2
theorem AfT.tl {lost:Bool}(h:AfT n 20 ph ac d D)(h9:ph≠9)(hd:TL n lost ac d):TL n lost ac D:=by
 have h1:=h.te
 have h2:=h.ac
 rw[if_neg h9]at h1 h2
 exact⟨h1,h.f1 hd.te.pl hd.f1,λq hq=>(h.f2 hd.te.pl q hq).trans (hd.f2 q hq),λo ho j hj=>by rw[(h.no hd.te.pl o ho).mn hj];decide,h2⟩
variable {x12:AV}
theorem ab4 (N:NEnv P K F T tF)(h:TE n 20 d)(hn:n<=400)(hno:∀o∈d.pl,acf o){x13:AV}(hf:Has bf (.r false [bu bl aZ c0 c1 c2 c3 c4 bE] 8) t)(hs:aH bl EL d t s)
  (hl:∀x w,lk [(2,x2),(7,x7),(8,x8),(9,.ptr<|some ⟨bf,0,0⟩),(12,x12),(13,x13),(14,iv<|.ofNat 0)] x=some w->lk l x=some w)
  (hk:∀l2 s2,aH bl EL d t s2->(∀x w,lk [(2,x2),(7,x7),(8,x8),(9,.ptr<|some ⟨bf,0,0⟩),(12,x12),(13,x13)] x=some w->lk l2 x=some w)->Qn l2 [] s2) :
  WP P K none 178 (.block 4<|.loop<|afG F) l [] s Qn Qe Qr:=by
 refine Wb ?_
 have vj:=h.small (by omega)<|by omega
 refine Wp (λk l ds s'=>ds=[]/\∃p,k=3-p/\p<=3/\aH bl EL d t s'/\∀x w,lk [(2,x2),(7,x7),(8,x8),(9,.ptr<|some ⟨bf,0,0⟩),(12,x12),(13,x13),(14,iv<|.ofNat p)] x=some w->lk l x=some w) ?_ (n:=3-0)
  ⟨rfl,0,rfl,Nat.zero_le _,hs,hl⟩
 rintro k l ds s' ⟨rfl,p,rfl,hp,hs',CG⟩
 refine Wg CG (λ_ _ h=>h) ?_
 try unfold afG
 by_cases hlt:p<3
 rotate_left
 ·have e1:=qa hlt
  obtain rfl:p=3:=by omega
  refine Vk (k:=Wx ?_)
  exact hk _ _ hs'<|bX rfl
 have e1:=qb hlt
 obtain⟨o,ho⟩:∃o,d.pl[p]?=some o:=⟨_,List.getElem?_eq_getElem (by rw[h.pl];exact hlt)⟩
 obtain⟨z0,z1,z2,z3⟩:=hno o<|List.mem_of_getElem? ho
 have l4:part true o.row 1 4=some (.agg [iv 0,iv 0,iv 0,iv 0]):=by show some (AV.agg [iv o.m0,iv o.m1,iv o.m2,iv o.m3])=_;rw[z0,z1,z2,z3]
 refine Vk (k:=?_)
 refine Ww<|W1 (Ar N.hB N.hC N.hT hs' vj hf ho) ?_
 rintro _ s3 ⟨rfl,gw⟩
 refine Wr (.fld rfl l4)<|Wr (.build rfl rfl)<|Vk (k:=?_)
 exact⟨3-(p+1),by omega,rfl,p+1,rfl,hlt,gw,bX rfl⟩
theorem abM (N:NEnv P K F T (T 26))(hP:gK C){lost:Bool}(h:TL n lost ac d)(hn:n<=70)(YI:d.nx<=60)(htu:0<=d.tu/\d.tu<c4)(hc4:c4<=1000)(dM:ac<3)(Sb:lost=true->ac≠1)(aby:ph<=9)(hph:d.ph=.ofNat ph)(hi:i<=9)(hf:Has bf (.r false [bu bl aZ c0 c1 c2 c3 c4 bE] 8) t)(eQ:cI t aZ C)(hE:EL.length<=2000)(hs:aH bl EL d t s)
  (hl:∀x w,lk [(2,x2),(7,x7),(8,iv<|.ofNat ph),(9,.ptr<|some ⟨bf,0,0⟩),(12,x12),(13,iv<|.ofNat i)] x=some w->lk l x=some w)
  (hk:∀l2 s2 E2 D2,aH bl E2 D2 t s2->(∀x w,lk [(2,x2),(7,x7),(8,iv<|.ofNat<|uY ph),(9,.ptr<|some ⟨bf,0,0⟩),(12,x12),(13,iv<|.ofNat<|i+1)] x=some w->lk l2 x=some w) ->
   ((ph=9/\E2.length<=EL.length+250/\TDn (n+n) n lost ac d D2)\/(ph≠9/\E2.length<=EL.length+30/\TL (n+1) lost ac D2/\D2.tu=d.tu/\D2.ph=.ofNat (uY ph)/\D2.nx<=d.nx+1))->Qn l2 [] s2) :
  WP P K none 178 (adZ F T) l [] s Qn Qe Qr:=by
 refine Wg hl (λ_ _ h=>h) ?_
 try unfold adZ
 have VK:=h.te
 obtain⟨oa,hoa⟩:∃o,d.pl[ac]?=some o:=⟨_,List.getElem?_eq_getElem (by rw[VK.pl];exact dM)⟩
 have hla:oa.f2=false:=by
  have:=h.f2 ac dM
  unfold fE at this
  rw[hoa]at this
  have this:oa.f2=(lost&&decide (ac=1)):=this
  rw[this]
  cases lost with
  | false=>rfl
  | true=>exact decide_eq_false<|Sb rfl
 refine Vk (k:=Ww<|W1 (aci N hP VK (by omega) (by omega) h.mn hph aby h.ac dM hoa hla htu hc4 (by omega) hf (by omega) hs) ?_)
 rintro _ s3 ⟨rfl,E3,D3,k1,k2,gw⟩
 have hno:=k2.no VK.pl
 refine Wv rfl<|Wn<|Ws<|Wq<|Wv rfl<|Wn ?_
 refine ab4 N k2.te (by split<;>omega) hno hf gw (x2:=x2) (x7:=x7) (x8:=iv<|.ofNat<|uY ph) (x12:=x12) (x13:=iv<|.ofNat i) (bX rfl) λl4 s4 pM hl4=>Wg hl4 (λ_ _ h=>h) ?_
 by_cases h9:ph=9
 ·subst h9
  have k1:E3.length<=EL.length+250:=k1
  have e94:eqBy 20 .pi (iv<|.ofNat<|uY 9) (iv 0)=some true:=rfl
  refine Vk (k:=?_)
  have q1:=k2.te
  have q2:=k2.ac
  have q3:=k2.tu
  have q4:=k2.nx
  rw[if_pos rfl]at q1 q2 q3 q4
  exact hk _ _ E3 D3 pM (bX rfl)<|.inl ⟨rfl,k1,q1,k2.f1 VK.pl h.f1,λq hq=>(k2.f2 VK.pl q hq).trans (h.f2 q hq),q2,q3,by omega⟩
 obtain⟨m1,m2,m3⟩:=ab7 aby h9
 have hT3:=k2.tl h9 h
 have q1:=k2.te
 have q3:=k2.tu
 have q4:=k2.nx
 rw[if_neg h9]at q1 q3 q4 k1
 have e94:eqBy 20 .pi (iv<|.ofNat<|uY ph) (iv 0)=some false:=by rw[cD];exact congrArg some<|decide_eq_false (λhh=>by have:uY ph=0:=Int.ofNat.inj hh;omega)
 refine Vk (k:=?_)
 refine Ww<|W1 (af7 N hP hT3.te (by omega) (by omega) m2 m3 hT3.ac dM (by omega) hf eQ (by omega) pM) ?_
 rintro _ s5 ⟨E5,D5,j1,j2,tn⟩
 refine Vk (k:=?_)
 have j3:=j2.nx
 exact hk _ _ E5 D5 tn (bX rfl)<|.inr ⟨h9,by omega,hT3.next j2.te j2.pl<|j2.ac.trans hT3.ac,j2.tu.trans q3,j2.ph,by omega⟩
theorem ab2 (N:NEnv P K F T (T 26))(hP:gK C){ph0:Nat}{lost:Bool}(h:TL n lost ac d)(hn:n<=30)(YI:d.nx<=30)(htu:0<=d.tu/\d.tu<c4)(hc4:c4<=1000)(dM:ac<3)(Sb:lost=true->ac≠1)(ahB:ph0<=9)(hph:d.ph=.ofNat ph0)(hf:Has bf (.r false [bu bl aZ c0 c1 c2 c3 c4 bE] 8) t)(eQ:cI t aZ C)(hE:EL.length<=1000)(hs:aH bl EL d t s)
  (hl:∀x w,lk [(2,x2),(7,x7),(8,iv<|.ofNat ph0),(9,.ptr<|some ⟨bf,0,0⟩),(12,x12),(13,iv<|.ofNat 0)] x=some w->lk l x=some w)
  (hk:∀l2 s2 E2 D2,E2.length<=EL.length+500->TDn 150 50 lost ac d D2->aH bl E2 D2 t s2->(∀x w,lk [(2,x2),(7,x7),(8,iv<|.ofNat 0),(9,.ptr<|some ⟨bf,0,0⟩),(12,x12)] x=some w->lk l2 x=some w)->Qn l2 [] s2) :
  WP P K none 178 (.block 2<|.loop<|afF F T) l [] s Qn (λ_=>Kj) Qr:=by
 refine Wb ?_
 refine Wp (λk l ds s'=>ds=[]/\∃i ph E2 D2,k=11-i/\aH bl E2 D2 t s'/\(∀x w,lk [(2,x2),(7,x7),(8,iv<|.ofNat ph),(9,.ptr<|some ⟨bf,0,0⟩),(12,x12),(13,iv<|.ofNat i)] x=some w->lk l x=some w) /\
   ((ph=0/\1<=i/\i<=10/\E2.length<=EL.length+500/\TDn 150 50 lost ac d D2)\/(ph<=9/\(ph=0->i=0)/\i+muT ph<=6/\E2.length<=EL.length+30*i/\TL (n+i) lost ac D2/\D2.tu=d.tu/\D2.ph=.ofNat ph/\D2.nx<=d.nx+i))) ?_ (n:=11-0)
  ⟨rfl,0,ph0,EL,d,rfl,hs,hl,.inr ⟨ahB,λ_=>rfl,by have:=(ac6 ahB).2;omega,Nat.le_refl _,h,rfl,hph,by omega⟩⟩
 rintro k l ds s' ⟨rfl,i,ph,E2,D2,rfl,hs',CG,pJ⟩
 refine Wg CG (λ_ _ h=>h) ?_
 try unfold afF
 rcases pJ with⟨rfl,hi1,amH,hE2,t6⟩|⟨aby,h0,hi,hE2,t6,acz,agi,afb⟩
 ·have e72:eqBy 20 .pi (iv<|.ofNat 0) (iv 0)=some true:=rfl
  have e76:eqBy 20 .pi (iv<|.ofNat i) (iv 0)=some false:=by rw[cD];exact congrArg some<|decide_eq_false (λhh=>by have:i=0:=Int.ofNat.inj hh;omega)
  by_cases h10:i<10
  ·have e69:binV .lss (iv<|.ofNat i) (iv 10)=some (.bool true):=qb h10
   refine Ws<|Wq<|Wv rfl<|Wj rfl rfl e69<|Wv rfl<|Wy<|Wv rfl<|Wy<|Wh rfl rfl e72<|Wr (.eb rfl rfl)<|Wv rfl<|Wy<|Wv rfl<|Wy<|Wh rfl rfl e76<|Wr (.bj rfl rfl)<|Wn<|Wd rfl fS<|λ_=>Wx ?_
   exact hk _ _ _ _ hE2 t6 hs'<|bX rfl
  ·have e69:binV .lss (iv<|.ofNat i) (iv 10)=some (.bool false):=qa h10
   refine Ws<|Wq<|Wv rfl<|Wj rfl rfl e69<|Wv rfl<|Wk<|Wk<|Wr (.bj rfl rfl)<|Wv rfl<|Wy<|Wv rfl<|Wy<|Wh rfl rfl e76<|Wr (.bj rfl rfl)<|Wn<|Wd rfl fS<|λ_=>Wx ?_
   exact hk _ _ _ _ hE2 t6 hs'<|bX rfl
 have VK:=t6.te
 have hmu:=ac6 aby
 have h10:i<10:=by omega
 have e69:binV .lss (iv<|.ofNat i) (iv 10)=some (.bool true):=qb h10
 obtain⟨oa,hoa⟩:∃o,D2.pl[ac]?=some o:=⟨_,List.getElem?_eq_getElem (by rw[VK.pl];exact dM)⟩
 have hla:oa.f2=false:=by
  have:=t6.f2 ac dM
  unfold fE at this
  rw[hoa]at this
  have this:oa.f2=(lost&&decide (ac=1)):=this
  rw[this]
  cases lost with
  | false=>rfl
  | true=>exact decide_eq_false<|Sb rfl
 -- the body
 have body:∀{l3:Sl}{Qe2:Nat->Po},(∀x w,lk [(2,x2),(7,x7),(8,iv<|.ofNat ph),(9,.ptr<|some ⟨bf,0,0⟩),(12,x12),(13,iv<|.ofNat i)] x=some w->lk l3 x=some w)->WP P K none 178 (adZ F T) l3 [] s' (λl ds s'=>∃m',m'<11-i/\(ds=[]/\∃i ph E2 D2,m'=11-i/\aH bl E2 D2 t s'/\(∀x w,lk [(2,x2),(7,x7),(8,iv<|.ofNat ph),(9,.ptr<|some ⟨bf,0,0⟩),(12,x12),(13,iv<|.ofNat i)] x=some w->lk l x=some w) /\
   ((ph=0/\1<=i/\i<=10/\E2.length<=EL.length+500/\TDn 150 50 lost ac d D2)\/(ph<=9/\(ph=0->i=0)/\i+muT ph<=6/\E2.length<=EL.length+30*i/\TL (n+i) lost ac D2/\D2.tu=d.tu/\D2.ph=.ofNat ph/\D2.nx<=d.nx+i)))) Qe2 Qr:=λ{l3 Qe2} PN=>by
  refine abM N hP t6 (by omega) (by omega) (by rw[acz];exact htu) hc4 dM Sb aby agi (by omega) hf eQ (by omega) hs' PN λl4 s4 E4 D4 pM hl4 hc=>?_
  refine⟨11-(i+1),by omega,rfl,i+1,uY ph,E4,D4,rfl,pM,hl4,?_⟩
  rcases hc with⟨rfl,k1,k2⟩|⟨h9,k1,k2,k3,k4,k5⟩
  ·refine .inl ⟨rfl,by omega,by omega,by omega,k2.te.mono<|by omega,k2.f1,k2.f2,?_,k2.tu.trans<|by rw[acz],by have:=k2.nx;omega⟩
   rw[k2.ac,afp h.f2 t6.f2]
  ·obtain⟨m1,m2,m3⟩:=ab7 aby h9
   exact .inr ⟨m3,λhh=>by omega,by omega,by omega,k2,k3.trans acz,k4,by omega⟩
 by_cases hz:ph=0
 ·obtain rfl:=h0 hz
  subst hz
  refine Ws<|Wq<|Wv rfl<|Wj rfl rfl e69<|Wv rfl<|Wy<|Wv rfl<|Wy<|Wh (b:=true) rfl rfl rfl<|Wr (.eb rfl rfl)<|Wv rfl<|Wy<|Wv rfl<|Wy<|Wh (b:=true) rfl rfl rfl<|Wr (.bj rfl rfl)<|Wn<|Wd rfl (λ_=>Wi ?_) Dz
  refine body ?_
  exact(bX rfl)
 have e72:eqBy 20 .pi (iv<|.ofNat ph) (iv 0)=some false:=by rw[cD];exact congrArg some<|decide_eq_false<|λhh=>hz<|Int.ofNat.inj hh
 refine Ws<|Wq<|Wv rfl<|Wj rfl rfl e69<|Wv rfl<|Wy<|Wv rfl<|Wy<|Wh rfl rfl e72<|Wr (.eb rfl rfl)<|Wv rfl<|Wk<|Wk<|Wr (.eb rfl rfl)<|Wn<|Wd rfl (λ_=>Wi ?_) Dz
 refine body ?_
 exact(bX rfl)
theorem aeE {lost:Bool}(h:∀q,q<3->fE D q=(lost&&decide (q=1)))(hac:ac<3)(Sb:lost=true->ac≠1):dT D ac≠ac/\fE D (dT D ac)=false:=by
 have h0:=h 0<|by omega
 have h1:=h 1<|by omega
 have h2:=h 2<|by omega
 cases lost with
 | false=>
  unfold dT
  rcases(by omega:ac=0\/ac=1\/ac=2)with rfl|rfl|rfl
  ·simp[h1]
  ·simp[h2]
  ·simp[h0]
 | true=>
  have:=Sb rfl
  unfold dT
  rcases(by omega:ac=0\/ac=2)with rfl|rfl
  ·simp[h1,h2]
  ·simp[h0]
theorem ab5 (N:NEnv P K F T (T 26))(vj:d.Small)(hall:∀id∈d.fi,∃o,d.obj id=some o)(hct:∀o∈d.ob,∃p:Nat,o.aQ=.ofNat p)(hy:Rdy ac d.fi d)(hS:Src m 1 v (nR d.fi))(hf:Has bf (.r false [bu bl aZ c0 c1 c2 c3 c4 bE] 8) t){b15:Nat}{row:List AV}(hrw:bV 1 (cu 1 row)=some [iv (.ofNat ac)])(hb:Has b15 (.r false [row] 13) t)(hs:aH bl EL d (m++t) s)
  (hl:∀x w,lk [(9,.ptr<|some ⟨bf,0,0⟩),(15,.ptr<|some ⟨b15,0,0⟩),(16,v),(17,iv<|.ofNat 0)] x=some w->lk l x=some w)
  (hk:∀l2 s2,aH bl EL d (m++t) s2->(∀x w,lk [(9,.ptr<|some ⟨bf,0,0⟩),(15,.ptr<|some ⟨b15,0,0⟩)] x=some w->lk l2 x=some w)->Qn l2 [] s2) :
  WP P K none 178 (.block 6<|.loop<|afH F T) l [] s Qn Qe Qr:=by
 refine Wb ?_
 have hn1:=vj.n1
 have hlen:lenOf v=some d.fi.length:=by rw[hS.lenOf,gq]
 refine Wp (λk l ds s'=>ds=[]/\∃q,k=d.fi.length-q/\q<=d.fi.length/\aH bl EL d (m++t) s'/\∀x w,lk [(9,.ptr<|some ⟨bf,0,0⟩),(15,.ptr<|some ⟨b15,0,0⟩),(16,v),(17,iv<|.ofNat q)] x=some w->lk l x=some w) ?_ (n:=d.fi.length-0)
  ⟨rfl,0,rfl,Nat.zero_le _,hs,hl⟩
 rintro k l ds s' ⟨rfl,q,rfl,hq,hs',CG⟩
 refine Wg CG (λ_ _ h=>h) ?_
 try unfold afH
 by_cases hlt:q<d.fi.length
 rotate_left
 ·have e1:=qa hlt
  refine Vk (k:=Wx ?_)
  exact hk _ _ hs'<|bX rfl
 have e1:=qb hlt
 have hid:=List.getElem_mem hlt
 obtain⟨ba,ra,na,ca,J5,Sp,Ma,rfl,hba,me,hra⟩:=hS.at (i:=q) (by rw[gq];exact hlt)
 rw[Qp hlt]at hra
 generalize d.fi[q]=id at hid hra
 obtain⟨o,ho⟩:=hall id hid
 obtain⟨ajv,V4⟩:=ags ho
 obtain⟨p,hp⟩:=hct o V4
 have adE:=hs'.mem<|.left hba
 have hb':=hs'.mem<|.app hb
 refine Vk (k:=?_)
 refine Ww<|W1 (Qq N.hB N.hC hs' vj<|.app hf) ?_
 rintro _ s4 ⟨hv4,pM⟩
 rw[ho]at hv4
 subst hv4
 have hb4:=pM.mem<|.app hb
 have l3:bV 1 (cu 3 o.row)=some [iv (.ofNat p)]:=by show some [iv o.aQ]=_;rw[hp]
 by_cases hpa:p=ac
 ·obtain⟨y1,y2⟩:=hy id hid o V4 ajv (by rw[hp,hpa])
  have aiS:eqBy 20 .pi (iv<|.ofNat p) (iv<|.ofNat ac)=some true:=by rw[cD];exact congrArg some<|decide_eq_true<|by rw[hpa]
  have l5:bV 1 (cu 5 o.row)=some [.bool false]:=by show some [AV.bool o.RU]=_;rw[y1]
  have l6:bV 1 (cu 6 o.row)=some [.bool false]:=by show some [AV.bool o.sick]=_;rw[y2]
  refine Vk (k:=λH6=>Vk (k:=?_))
  exact⟨d.fi.length-(q+1),by omega,rfl,q+1,rfl,hlt,aH.bK (m:=[_]) pM,bX rfl⟩
 ·have aiS:eqBy 20 .pi (iv<|.ofNat p) (iv<|.ofNat ac)=some false:=by rw[cD];exact congrArg some (decide_eq_false<|λhh=>hpa<|Int.ofNat.inj hh)
  refine Vk (k:=λH6=>Vk (k:=?_))
  exact⟨d.fi.length-(q+1),by omega,rfl,q+1,rfl,hlt,aH.bK (m:=[_]) pM,bX rfl⟩
theorem acC (N:NEnv P K F T (T 26))(hP:gK C){lost:Bool}{d0:SD}(h:TDn 150 50 lost ac d0 d)(h0:∀q,q<3->fE d0 q=(lost&&decide (q=1)))(YI:d0.nx<=30)(htu:0<=d0.tu/\d0.tu<=100)(dM:ac<3)(Sb:lost=true->ac≠1)(hf:Has bf (.r false [bu bl aZ c0 c1 c2 c3 c4 bE] 8) t)(eQ:cI t aZ C)(hE:EL.length<=2000)(hs:aH bl EL d t s)
  (hl:∀x w,lk [(2,.bool lost),(7,iv<|.ofNat ac),(8,iv<|.ofNat 0),(9,.ptr<|some ⟨bf,0,0⟩),(12,iv d0.tu)] x=some w->lk l x=some w) :
  WP P K none 178 (afI F T) l [] s Qn Qe (adX t):=by
 refine Wg hl (λ_ _ h=>h) ?_
 try unfold afI
 have VK:=h.te
 have vj:=VK.small (by omega)<|by omega
 obtain⟨n1,n2⟩:=aeE h0 dM Sb
 have n2:fE d (dT d0 ac)=false:=by rw[<- n2,h.f2 _<|qc dM,h0 _<|qc dM]
 have n3:dT d0 ac<3:=qc dM
 have acu:d.ac=.ofNat (dT d0 ac):=h.ac
 generalize dT d0 ac=na at n1 n2 n3 acu
 obtain⟨o,ho⟩:∃o,d.pl[na]?=some o:=⟨_,List.getElem?_eq_getElem (by rw[VK.pl];exact n3)⟩
 have hof:o.f2=false:=by unfold fE at n2;rw[ho]at n2;exact n2
 have aho:eqBy 20 .pi (iv<|.ofNat 0) (iv 0)=some true:=rfl
 have x0:bV 1 (cu 0<|dh d)=some [iv (d0.tu+1)]:=by show some [iv d.tu]=_;rw[h.tu]
 have x1:bV 1 (cu 1<|dh d)=some [iv (.ofNat na)]:=by show some [iv d.ac]=_;rw[acu]
 have alJ:binV .add (iv d0.tu) (iv 1)=some (iv<|d0.tu+1):=ac0 ⟨by omega,by omega⟩
 have alK:eqBy 20 .pi (iv<|d0.tu+1) (iv<|d0.tu+1)=some true:=by rw[cD,decide_eq_true rfl]
 have l6:part false o.row 6 1=some (.bool false):=by show some (AV.bool o.f2)=_;rw[hof]
 have aiR:eqBy 20 .pi (iv<|.ofNat na) (iv<|.ofNat ac)=some false:=by rw[cD];exact congrArg some<|decide_eq_false<|λhh=>n1<|Int.ofNat.inj hh
 refine Vk (k:=Ww<|W1 (kM N.hB N.hI N.t128 hs vj hf) ?_)
 rintro _ s1 ⟨rfl,nr⟩
 refine Wa (.alloc rfl) λb15=>Vk (k:=?_)
 have dt:aH bl EL d ((b15,HO.r false [dh d] 13)::t) ((b15,HO.r false [dh d] 13)::s1):=nr.cons
 refine Ww<|W1 (Ar N.hB N.hC N.hT dt vj (.there hf) ho) ?_
 rintro _ s3 ⟨rfl,gw⟩
 have ajf:=gw.mem .here
 refine Wy<|Wr (.fld rfl l6)<|Wr (.bj rfl rfl)<|Wv rfl<|Wy<|Wf rfl<|Wy<|Wl rfl ajf rfl x1 rfl<|Wy<|Wv rfl<|Wy<|Wh rfl rfl aiR<|Wy<|Wv rfl<|Wk<|Wk<|Wy<|Wr (.bj rfl rfl)<|Wr (.bj rfl rfl)<|Wn<|Wd rfl fS<|λ_=>Wi<|Wq<|Wv rfl<|Wr (.mkif rfl rfl)<|Ww<|W1 (aaS N hP VK (by omega) (by omega) acu n3 ho (.there hf) (eQ.mono λq hq=>List.mem_cons_of_mem _ hq) (by omega) gw (R:=λs4=>∃E4 D4,TW 150 20 400 D4/\D4={ d with ph:=.ofNat 0,ob:=D4.ob,wa:=D4.wa,nx:=D4.nx }/\Rdy na d.fi D4/\aH bl E4 { D4 with pr:=.ofNat na,pa:=0 } ((b15,HO.r false [dh d] 13)::t) s4) (by have:=h.nx;omega) (h.f1 o<|List.mem_of_getElem? ho) λE4 D4 q s4 k1 k2 k3 k4 k5 k6=>⟨E4,D4,k3,k4,k5,k2.2 hof▸k6⟩) ?_
 rintro _ s4 ⟨E4,D4,k3,k4,k5,pM⟩
 have ahI:=k3.small (by omega) (by omega)<|by omega
 have agl:=k3.te
 have hfi:D4.fi=d.fi:=by rw[k4]
 have ajB:D4.ph=.ofNat 0:=by rw[k4]
 rw[<- hfi]at k5
 have hall:∀id∈D4.fi,∃o,D4.obj id=some o:=λid hid=>agl.all id hid
 have hct:∀o∈D4.ob,∃p:Nat,o.aQ=.ofNat p:=λo ho=>by
  obtain⟨p,hp,_⟩:=(agl.o o ho).ow
  exact⟨p,(agl.o o ho).ct.trans hp⟩
 have aev:({ D4 with pr:=.ofNat na,pa:=0 }:SD).Small:=⟨ahI.n1,ahI.n2⟩
 refine Vk (k:=Ww<|W1 (Gf N.hB N.hC pM aev<|.there hf) ?_)
 rintro v s5 ⟨m,tn,hv⟩
 refine Wv rfl<|Wn<|Ws<|Wq<|Wv rfl<|Wn ?_
 refine ab5 (d:={ D4 with pr:=.ofNat na,pa:=0 }) N aev hall hct k5 hv (.there hf) x1 .here tn (bX rfl) λl6 s6 KL hl6=>Wg hl6 (λ_ _ h=>h) ?_
 have hb6:=KL.mem<|.app .here
 have y2:part false (dh { D4 with pr:=.ofNat na,pa:=0 }) 2 1=some (iv<|.ofNat 0):=by show some (iv D4.ph)=_;rw[ajB]
 have y3:part false (dh { D4 with pr:=.ofNat na,pa:=0 }) 3 1=some (iv<|.ofNat na):=rfl
 have y4:part false (dh { D4 with pr:=.ofNat na,pa:=0 }) 4 1=some (iv 0):=rfl
 have aiU:eqBy 20 .pi (iv<|.ofNat na) (iv<|.ofNat na)=some true:=by rw[cD,decide_eq_true rfl]
 refine Ws<|WP.bD<|Dp (.mv rfl) ?_
 refine Dc .nil<|W1 (kM N.hB N.hI N.t128 KL aev<|.app<|.there hf) ?_
 rintro _ s7 ⟨rfl,hs7⟩
 have hb7:=hs7.mem<|.app .here
 refine Dp (.fld rfl y2)<|Dp (.eql rfl rfl aho)<|Dp (.mv rfl)<|Dy<|Dp (.mv rfl)<|Dy ?_
 refine Dc .nil<|W1 (kM N.hB N.hI N.t128 hs7 aev<|.app<|.there hf) ?_
 rintro _ s8 ⟨rfl,hs8⟩
 have hb8:=hs8.mem<|.app .here
 refine Dy<|Dp (.fld rfl y3)<|Dy<|Dp (.faddr rfl)<|Dy<|WD.lk rfl .nil (.load rfl hb8 rfl x1 rfl)<|Dy<|Dp (.eql rfl rfl aiU)<|Dp (.eb rfl rfl)<|Dp (.mv rfl)<|Dy<|Dp (.mv rfl)<|Dy ?_
 refine Dc .nil<|W1 (kM N.hB N.hI N.t128 hs8 aev<|.app<|.there hf) ?_
 rintro _ s9 ⟨rfl,hs9⟩
 have hb9:=hs9.mem<|.app .here
 refine Dy<|Dp (.fld rfl y4)<|Dy<|Dp (.eql rfl rfl aho)<|Dp (.eb rfl rfl)<|Dp (.mv rfl) ?_
 refine D0 .nil ?_ λx hx=>?_
 rotate_left
 ·rw[List.mem_singleton.1 hx]
  refine⟨(λi hi=>nomatch hi),Nat.le_of_ble_eq_true rfl,wC _,λk' hk0 hk=>?_⟩
  rcases(by have:k'<=2:=hk;have:1<=k':=hk0;omega:k'=1\/k'=2)with rfl|rfl
  ·exact⟨_,rfl,.load rfl hb7 rfl x1 rfl⟩
  ·exact⟨_,rfl,.load rfl hb8 rfl x1 rfl⟩
 refine We ⟨rfl,rfl,λb o hb=>hs9.mem<|.app<|.there hb⟩
theorem acD (N:NEnv P K F T (T 26))(hP:gK C){lost:Bool}(h:TL n lost ac d)(hA:aap n 0 d d)(hn:n<=30)(YI:d.nx<=30)(htu:0<=d.tu/\d.tu<=10)(hc4:15<=c4/\c4<=1000)(dM:ac<3)(Sb:lost=true->ac≠1)(aby:ph<=9)(hph:d.ph=.ofNat ph)(hq0:q0<=20)(hid:∀j,j<q0->∃o∈d.ob,o.id=.ofNat (j+7))(hS:Src m 1 ids (nR (idL q0)))(hf:Has bf (.r false [bu bl aZ c0 c1 c2 c3 c4 bE] 8) t)(eQ:cI t aZ C)(hE:EL.length<=100)(hs:aH bl EL d (m++t) s)
  (hl:∀x w,lk [(2,.bool lost),(7,iv<|.ofNat ac),(8,iv<|.ofNat ph),(9,.ptr<|some ⟨bf,0,0⟩),(10,ids)] x=some w->lk l x=some w) :
  WP P K none 178 (acU F T) l [] s Kj (λ_=>Kj) (adX t):=by
 refine Wg hl (λ_ _ h=>h) ?_
 unfold acU
 refine Ws<|Wq<|Wv rfl<|Wh (b:=false) rfl rfl rfl<|Wn<|Wd rfl fS<|λ_=>Wi<|Ws<|Wq<|Wv rfl<|Wn ?_
 refine ab1 N hA (by omega) (by omega) hq0 hid hS hf (by omega) hs (bX rfl) λl2 s2 E2 D2 k1 k2 dt CG=>Wg CG (λ_ _ h=>h) ?_
 have hT2:=k2.tl h hq0
 have acy:=k2.te.small (by omega)<|by omega
 have dt:=dt.fb
 have x0:part false (dh D2) 0 1=some (iv D2.tu):=rfl
 have r1:=k2.tu
 have r2:=k2.nx
 refine Vk (k:=Ww<|W1 (kM N.hB N.hI N.t128 dt acy hf) ?_)
 rintro _ s3 ⟨rfl,gw⟩
 refine Wr (.fld rfl x0)<|Wv rfl<|Wn<|Ws<|Wq<|Wv rfl<|Wn ?_
 refine ab2 N hP hT2 hn (by omega) (by omega) (by omega) dM Sb aby (k2.ph.trans hph) hf eQ (by omega) gw (bX rfl) λl4 s4 E4 D4 j1 j2 pM hl4=>Wg hl4 (λ_ _ h=>h) ?_
 exact acC N hP j2 hT2.f2 (by omega) (by omega) dM Sb hf eQ (by omega) pM<|bX rfl
def aeM (P:Program)(ih:bT)(c:Code)(lost:Bool)(k:Nat)(ex:List (Nat × Nat × List (List AV)))(z:Nat):FH->Bool:=
 RE P 82 ih (spine 4 c).1 (λe h=>Du h (aak k++ex)&&(wI e [(0,.bool lost),(10,.ptr<|some ⟨473+k,0,0⟩),(12,nilS)]&&(adH (atR 1 e) 2&&(adH (atR 2 e) 3&&(adH (atR 3 e) 0&&(Nat.beq (cr 0 h).t z&&(Nat.beq (cr 0 h).lp.nt 0&&(match h.fr.ds with | []=>true | _=>false))))))))
  (Ba [vB lost,acG,acH,rJ] 0 cT)
theorem ahx (k:Nat)(z:SH):cI (Dw (tL k)++z) (pn (605+k) 6 11) (C22 k):=
 {
  src:=Src.all (L:=(C22 k).map CD.row)<|.there .here
  ab:=V1 (λc _ h h'=>by rw[h,h'];exact .nil) (λc _ h h'=>by rw[h,h'];exact Src.all (L:=[_])<|.there<|.there .here) (λc _ h h'=>by rw[h,h'];exact Src.all (L:=[_])<|.there<|.there<|.there .here) (λc _ h h'=>by rw[h,h'];exact Src.all (L:=[_])<|.there<|.there<|.there<|.there .here) (λc _ h h'=>by rw[h,h'];exact Src.all (L:=[_,_])<|.there<|.there<|.there<|.there<|.there .here)
  n:=Nat.le_of_ble_eq_true rfl
  nb:=λc hc=>V1 (Q:=λc=>c.ab.length<=1000) (λc _ h _=>by rw[h];exact Nat.le_of_ble_eq_true rfl) (λc _ h _=>by rw[h];exact Nat.le_of_ble_eq_true rfl) (λc _ h _=>by rw[h];exact Nat.le_of_ble_eq_true rfl) (λc _ h _=>by rw[h];exact Nat.le_of_ble_eq_true rfl) (λc _ h _=>by rw[h];exact Nat.le_of_ble_eq_true rfl) c hc }
end
section
variable [Sg]{P:Program}{K:Orc}{F:Nat->FuncId}{T:Nat->TypeId}
theorem agx (b:Bool):VA (vB b) (.bool b):=by cases b<;>exact VA.bool _
theorem acm (hB:Base P K F T) (hT2:FnK P K (F 271) 19 [] (adi F T)) (act:FnK P K (F 280) 9 [] (adj F T)) (hL2:BaseL P K F T) (hS:acP P K F) {lost:Bool} {ih:bT} (hC:eL P K ih) {fn:Func} {c:Code} (hf:P.funcs[F 35]?=some fn) (hb:fn.body=some c) (hnt:fn.ntmps=82) (hres:fn.results.toList=[.tmp 8,.tmp 9]) (hname:(fn.name == "runtime.NumGoroutine")=false)
  (j5:cc P 82 (spine 4 c).2=adY F T) (hK:∀args H,K (F 35) args H=none) {h0:FH} {H0:Heap} (hH:cj h0 H0) (hfr:xe h0.fr [] none) {z k:Nat} {ex:List (Nat × Nat × List (List AV))} (Yl:(Dw<|aak k++ex).Pairwise λp q=>p.1≠q.1) (ahy:∀p∈Dw (aak k++ex),p.1≠0) (hpre:aeM P ih c lost k ex z h0=true) {ac ph:Nat} (hac:ac<3) (hph:ph<10) {lv:AV} (Gw:VA acG (iv<|.ofNat ac)) (hv3:VA acH (iv<|.ofNat ph)) (hlv:VA rJ lv) {L:List (List AV)} {ps cs zs:Nat->Nat} (XV:lenOf lv=some L.length)
  (XW:∀i,i<L.length->∃x z y:Nat,x<=255/\z<=255/\y<=255/\L[i]?=some [.int .u8 (.ofNat x),.int .u8<|.ofNat z,.int .u8<|.ofNat y]/\x%6=cs i/\z%2=zs i/\y%3=ps i) (XX:0<L.length->z=5/\(∃cap sl,lv=.slice (some ⟨0,0,0⟩) L.length cap sl 3)/\(HO.r true L 3).ok (some<|Sg.iK 0)) :
  ∃H' s' z0 ids EL m,CallsTo P K (F 35) [.bool lost,iv<|.ofNat ac,iv<|.ofNat ph,lv] H0 (.tuple [.ptr (some ⟨473+k,0,0⟩),ids]) H'/\Hp ⟨.lf,0⟩ s' H'/\aH (475+k) EL (dG lost<|dF ps cs zs (min L.length 20) ac ph) (m++(Dw (tL k)++(Dw ex++z0))) s'/\EL.length<=23/\Src m 1 ids (nR<|idL<|min L.length 20)/\(0<L.length->Has 0 (.r true L 3) z0):=by
 obtain⟨e0,iL,XN⟩:=sU (nt:=82) (.cons (agx lost)<|.cons Gw<|.cons hv3<|.cons hlv .nil) (by omega)<|by simp
 obtain⟨E',H',ds',e',h',q1,q2,q3,q4,q5⟩:=ye (rd:=none) (ds:=[]) hC (spine 4 c).1 XN hH hfr hpre
 obtain⟨k1,q4⟩:=Bool.and_eq_true_iff.1 q4
 obtain⟨k2,q4⟩:=Bool.and_eq_true_iff.1 q4
 obtain⟨k3,q4⟩:=Bool.and_eq_true_iff.1 q4
 obtain⟨k3b,q4⟩:=Bool.and_eq_true_iff.1 q4
 obtain⟨k3c,q4⟩:=Bool.and_eq_true_iff.1 q4
 obtain⟨k5,q4⟩:=Bool.and_eq_true_iff.1 q4
 obtain⟨k6,k7⟩:=Bool.and_eq_true_iff.1 q4
 have hds:=fr_nil q3 k7
 subst hds
 have hmem:=Dv q2 k1
 have ng:=AH q1 k2 (λp hp=>by
  simp only[List.mem_cons,List.not_mem_nil,or_false]at hp
  rcases hp with rfl|rfl|rfl<;>exact Nat.le_of_ble_eq_true rfl)
 obtain⟨a1,Xv,v1⟩:=q1.slot 1<|by omega
 obtain⟨a2,e2',v2⟩:=q1.slot 2<|by omega
 obtain⟨a3,e3',v3⟩:=q1.slot 3<|by omega
 have Xw:=aaw k3 v1 Gw rfl rfl
 have ea2:=aaw k3b v2 hv3 rfl rfl
 have ea3:=aaw k3c v3 hlv rfl rfl
 subst Xw ea2 ea3
 have main:∀z0:SH,(∀b o,(b,o)∈z0->b=0/\b<H'.next/\o.ok (H'.get b))->z0.Pairwise (λp q=>p.1≠q.1)->(0<L.length->∃cap sl,a3=.slice (some ⟨0,0,0⟩) L.length cap sl 3/\Has 0 (.r true L 3) z0) ->
   ∃H3 s' z0 ids EL m,CallsTo P K (F 35) [.bool lost,iv<|.ofNat ac,iv<|.ofNat ph,a3] H0 (.tuple [.ptr (some ⟨473+k,0,0⟩),ids]) H3/\Hp ⟨.lf,0⟩ s' H3/\aH (475+k) EL (dG lost<|dF ps cs zs (min L.length 20) ac ph) (m++(Dw (tL k)++(Dw ex++z0))) s'/\EL.length<=23/\Src m 1 ids (nR<|idL<|min L.length 20)/\(0<L.length->Has 0 (.r true L 3) z0):=by
  intro z0 hz0 hzp mO
  have hp:Hp ⟨.lf,0⟩ (Dw (aak k++ex)++z0) H':=by
   refine⟨Nat.zero_le _,?_,?_,λb hb=>absurd hb<|Nat.not_lt_zero _⟩
   ·intro b o hb
    rcases List.mem_append.1 hb with hb|hb
    ·exact hmem b o hb
    ·exact(hz0 b o hb).2
   ·refine List.pairwise_append.2 ⟨Yl,hzp,?_⟩
    intro p hp q hq
    rw[(hz0 q.1 q.2 hq).1]
    exact ahy p hp
  have hs:aH (475+k) [] d22 (Dw (tL k)++(Dw ex++z0)) (Dw (aak k++ex)++z0):=by
   have:=aeA k<|Dw (tL k)++(Dw ex++z0)
   rw[aeC,List.append_assoc,show Dw (aak k)=(475+k,.r false [aez k] 51)::(Dw (stL k)++Dw (tL k))from rfl,List.cons_append,List.append_assoc]
   exact this
  have XO:En [(0,.bool lost),(1,iv<|.ofNat ac),(2,iv<|.ofNat ph),(3,a3),(10,.ptr<|some ⟨473+k,0,0⟩),(12,nilS)] E':=by
   intro i v hi
   simp only[lu]at hi
   split at hi
   ·rename_i h;cases hi;rw[<- h];exact ng 0 _<|by simp
   ·split at hi
    ·rename_i h;cases hi;rw[<- h];exact Xv
    ·split at hi
     ·rename_i h;cases hi;rw[<- h];exact e2'
     ·split at hi
      ·rename_i h;cases hi;rw[<- h];exact e3'
      ·split at hi
       ·rename_i h;cases hi;rw[<- h];exact ng 10 _<|by simp
       ·split at hi
        ·rename_i h;cases hi;rw[<- h];exact ng 12 _<|by simp
        ·cases hi
  obtain⟨xx,e'',Xu,H2,l',s',r1,r2,r3,r4⟩:=ae8 hB hT2 act hL2 hS hac hph (lost:=lost) (T:=T) (Qn:=Kj) (Qe:=λ_=>Kj) (Qr:=λl ds s=>ds=[]/\∃ids EL m,aH (475+k) EL (dG lost<|dF ps cs zs (min L.length 20) ac ph) (m++(Dw (tL k)++(Dw ex++z0))) s/\EL.length<=23/\Src m 1 ids (nR<|idL<|min L.length 20)/\lk l 8=some (.ptr<|some ⟨473+k,0,0⟩)/\lk l 9=some ids)
   ⟨XV,λh=>by
    obtain⟨cap,sl,w1,w2⟩:=mO h
    exact⟨0,cap,sl,w1,.app (.app w2)⟩,XW⟩ hs .here rfl rfl rfl rfl rfl rfl (λl2 s2 ids Gg og hE2 dt hSi h8 h9=>⟨rfl,ids,Gg,og,dt,hE2,hSi,h8,h9⟩) (spine 4 c).2 j5 ⟨.lf,0⟩ E' H' XO hp
  have run:=q5 (spine 4 c).2 _ r1
  rw[ug]at run
  cases xx with
  | normal=>exact r4.elim
  | exit i=>exact r4.elim
  | ret=>
   obtain⟨rfl,ids,EL,m,w1,w3,w6,w4,w5⟩:=r4
   refine⟨H2,s',z0,ids,EL,m,CallsTo.enter (hK _ _) hf hb (by rw[hnt,hname];rfl) (by rw[hnt];exact iL) (by rw[hnt];exact run) (.inl rfl) ?_,r3,w1,w3,w6,λh=>(mO h).choose_spec.choose_spec.2⟩
   have e8:resultOf P e'' H2 (.tmp 8)=some _:=r2 8 _ w4
   have e9:resultOf P e'' H2 (.tmp 9)=some _:=r2 9 _ w5
   rw[hres]
   show(match aI (resultOf P e'' H2) [.tmp 8,.tmp 9]with | some [v]=>some v | some vs=>some (.tuple vs) | none=>none)=_
   simp only[aI,e8,e9]
 rcases Nat.eq_zero_or_pos L.length with h|h
 ·exact main [] (λb o hb=>nomatch hb) .nil<|λk=>by omega
 ·obtain⟨rfl,⟨cap,sl,hl⟩,hok⟩:=XX h
  have g0:=(q2.block 0<|by omega).DM (Nat.eq_of_beq_eq_true k5)
  rw[Nat.eq_of_beq_eq_true k6]at g0
  have hn:0<H'.next:=Nat.lt_of_le_of_lt (Nat.zero_le _) (hmem (475+k) _<|List.mem_cons_self ..).1
  refine main [(0,.r true L 3)] ?_ (List.pairwise_singleton ..)<|λ_=>⟨cap,sl,hl,.here⟩
  intro b o hb
  rw[List.mem_singleton]at hb
  cases hb
  exact⟨rfl,hn,by rw[g0];exact hok⟩
end
def acT (lost:Bool)(x:Nat):Nat:=if lost&&decide (x%3=1)then 0 else x%3
theorem af2 (lost:Bool)(x:Nat):acT lost x<3:=by
 unfold acT
 split
 ·omega
 ·exact Nat.mod_lt _<|by omega
theorem af3 {lost:Bool}{x:Nat}(h:lost=true):acT lost x≠1:=by
 subst h
 unfold acT
 split
 ·omega
 ·next h=>exactλhh=>h<|by simp[hh]
theorem ahm {ps cs zs:Nat->Nat}{n ac ph:Nat}{lost:Bool}(hn:n<=20)(h:∀j,j<n->ps j<3/\cs j<6/\zs j<2):TL 26 lost ac (dG lost (dF ps cs zs n ac ph))/\aap 26 0 (dG lost (dF ps cs zs n ac ph)) (dG lost (dF ps cs zs n ac ph))/\(dG lost (dF ps cs zs n ac ph)).nx<=30/\(dG lost (dF ps cs zs n ac ph)).tu=2/\(dG lost (dF ps cs zs n ac ph)).ph=.ofNat ph/\∀j,j<n->∃o∈(dG lost (dF ps cs zs n ac ph)).ob,o.id=.ofNat (j+7):=by
 have hU:=aei ps cs zs n hn h
 have VK:TE 26 20 (dU ps cs zs n):=(hU.te.afW hn).mono (by omega)
 have uA:(dG lost<|dF ps cs zs n ac ph).pl=[Zz,if lost then{ Zz with f2:=true }else Zz,Zz]:=by
  cases lost with
  | false=>exact hU.pl
  | true=>
   show(dU ps cs zs n).pl.set 1 _=_
   rw[hU.pl]
   rfl
 have e:dG lost (dF ps cs zs n ac ph)={ dU ps cs zs n with pl:=[Zz,if lost then{ Zz with f2:=true }else Zz,Zz],tu:=(dU ps cs zs n).tu+1,ac:=.ofNat ac,ph:=.ofNat ph }:=by
  rw[<- uA]
  cases lost<;>rfl
 have hT:TE 26 20 (dG lost<|dF ps cs zs n ac ph):=by
  rw[e]
  exact VK.other (pr:=(dU ps cs zs n).pr) (pa:=(dU ps cs zs n).pa) (bl:=(dU ps cs zs n).bl) rfl
 have YI:(dU ps cs zs n).nx<=30:=by rw[hU.nx];show((n+7:Nat):Int)<=30;omega
 have hmn:∀o∈(dG lost<|dF ps cs zs n ac ph).pl,o.f1=false/\∀j<4,o.mn j=0:=by
  rw[uA]
  intro o ho
  simp only[List.mem_cons,List.not_mem_nil,or_false]at ho
  have key:∀b,({ Zz with f2:=b }:LD).f1=false/\∀j<4,({ Zz with f2:=b }:LD).mn j=0:=λb=>⟨rfl,λj hj=>by
   match j,hj with
   | 0,_=>rfl
   | 1,_=>rfl
   | 2,_=>rfl
   | 3,_=>rfl⟩
  rcases ho with rfl|rfl|rfl
  ·exact key false
  ·cases lost
   ·exact key false
   ·exact key true
  ·exact key false
 refine⟨⟨hT,λo ho=>(hmn o ho).1,λq hq=>?_,λo ho j hj=>by rw[(hmn o ho).2 j hj];decide,by rw[e]⟩,⟨hT,λ_=>rfl,λo ho j hj=>by rw[(hmn o ho).2 j hj];decide,rfl,rfl,rfl,rfl,λ_=>Iff.rfl⟩,by rw[e];exact YI,by rw[e];show(dU ps cs zs n).tu+1=2;rw[hU.tu];rfl,by rw[e],by rw[e];exact hU.id⟩
 unfold fE
 rw[uA]
 rcases(by omega:q=0\/q=1\/q=2)with rfl|rfl|rfl<;>cases lost<;>rfl
def pre403 (P:Program)(ih:bT)(c c35:Code)(h0:FH)(lost:Bool)(z:Nat):Bool:=
 RE P 178 ih (spine 2 c).1 (λe h=>adH (atR 0 e) 0&&(adH (atR 1 e) 1&&(wI e [(2,.bool lost)]&&((match h.fr.ds with | []=>true | _=>false)&&aeM P ih c35 lost 0 [] z h))))
  (Ba [rJ,Ah,vB lost] 0 cT) h0
section
variable [Sg]{P:Program}{K:Orc}{F:Nat->FuncId}{T:Nat->TypeId}
theorem abl (N:NEnv P K F T (T 26)) (hP:gK (C22 0)) {ih:bT} (hC:eL P K ih) {fn:Func} {c:Code} (hf:P.funcs[F 35]?=some fn) (hb:fn.body=some c) (hnt:fn.ntmps=82) (hres:fn.results.toList=[.tmp 8,.tmp 9]) (hname:(fn.name == "runtime.NumGoroutine")=false)
  (j5:cc P 82 (spine 4 c).2=adY F T) (hK:∀args H,K (F 35) args H=none) {f9:FuncId} {fn9:Func} {c9:Code} (hf9:P.funcs[f9]?=some fn9) (hb9:fn9.body=some c9) (agh:fn9.ntmps=178) (ahC:fn9.results.toList=[.tmp 6]) (agf:(fn9.name == "runtime.NumGoroutine")=false)
  (agj:cc P 178 (spine 2 c9).2=.seq acS (.seq acQ<|.seq acR<|.seq (.ops<|ad0 F)<|acU F T)) (hK9:∀args H,K f9 args H=none) {h0:FH} {H0:Heap} (hH:cj h0 H0) (hfr:h0.fr=Kz) {z:Nat} {lost:Bool} (hpre:pre403 P ih c9 c h0 lost z=true) {x:Nat} (hx:x<=255) {lv:AV} (ha:VAs [rJ,Ah,vB lost] [lv,.int .u8<|.ofNat x,.bool lost])
  (Gw:VA acG (iv<|.ofNat<|acT lost x)) (hv3:VA acH (iv<|.ofNat<|x/3%10)) {L:List (List AV)} (XV:lenOf lv=some L.length)
  (XW:∀i,i<L.length->∃x z y:Nat,x<=255/\z<=255/\y<=255/\L[i]?=some [.int .u8 (.ofNat x),.int .u8<|.ofNat z,.int .u8<|.ofNat y]) (XX:0<L.length->z=5/\(∃cap sl,lv=.slice (some ⟨0,0,0⟩) L.length cap sl 3)/\(HO.r true L 3).ok (some<|Sg.iK 0)) :
  ∃H',CallsTo P K f9 [lv,.int .u8<|.ofNat x,.bool lost] H0 (.bool true) H'/\(0<L.length->(HO.r true L 3).ok (H'.get 0)):=by
 obtain⟨e0,iL,XN⟩:=sU (nt:=178) ha (by omega)<|by simp
 obtain⟨E',H',ds',e',h',q1,q2,q3,q4,q5⟩:=ye (rd:=none) (ds:=[]) hC (spine 2 c9).1 XN hH (by rw[hfr];exact⟨rfl,(λD hD=>by cases hD),rfl⟩) hpre
 obtain⟨k3,q4⟩:=Bool.and_eq_true_iff.1 q4
 obtain⟨j3,q4⟩:=Bool.and_eq_true_iff.1 q4
 obtain⟨kS,q4⟩:=Bool.and_eq_true_iff.1 q4
 obtain⟨k7,ajw⟩:=Bool.and_eq_true_iff.1 q4
 have hds:=fr_nil q3 k7
 subst hds
 have e2':E'.get 2=some (.bool lost):=AH q1 kS (λp hp=>by rw[List.mem_singleton.1 hp];exact Nat.le_of_ble_eq_true rfl) 2 _<|by simp
 obtain⟨a0,e0',v0⟩:=q1.slot 0<|by omega
 obtain⟨a1,Xv,v1⟩:=q1.slot 1<|by omega
 obtain⟨YG,ajH⟩:VA rJ lv/\VA Ah (.int .u8<|.ofNat x):=by
  cases ha with
  | cons hv ha=>
   cases ha with
   | cons hw _=>exact⟨hv,hw⟩
 have ea0:=aaw k3 v0 YG rfl rfl
 have Xw:=aaw j3 v1 ajH rfl rfl
 subst ea0 Xw
 -- what the aZ are
 let cs:Nat->Nat:=λj=>match L[j]? with | some [.int .u8 (.ofNat y),_,_]=>y%6 | _=>0
 let zs:Nat->Nat:=λj=>match L[j]? with | some [_,.int .u8<|.ofNat y,_]=>y%2 | _=>0
 let ps:Nat->Nat:=λj=>match L[j]? with | some [_,_,.int .u8<|.ofNat y]=>y%3 | _=>0
 have Pw:∀i,i<L.length->∃x z y:Nat,x<=255/\z<=255/\y<=255/\L[i]?=some [.int .u8 (.ofNat x),.int .u8<|.ofNat z,.int .u8<|.ofNat y]/\x%6=cs i/\z%2=zs i/\y%3=ps i:=by
  intro i hi
  obtain⟨x,z,y,h1,h2,h3,h4⟩:=XW i hi
  refine⟨x,z,y,h1,h2,h3,h4,?_,?_,?_⟩
  ·show _=(match L[i]? with | some [.int .u8 (.ofNat y),_,_]=>y%6 | _=>0)
   rw[h4]
  ·show _=(match L[i]? with | some [_,.int .u8<|.ofNat y,_]=>y%2 | _=>0)
   rw[h4]
  ·show _=(match L[i]? with | some [_,_,.int .u8<|.ofNat y]=>y%3 | _=>0)
   rw[h4]
 have ajA:∀j,j<min L.length 20->ps j<3/\cs j<6/\zs j<2:=by
  intro j hj
  obtain⟨x,z,y,_,_,_,_,h1,h2,h3⟩:=Pw j<|by omega
  rw[<- h1,<- h2,<- h3]
  exact⟨Nat.mod_lt _<|by omega,Nat.mod_lt _<|by omega,Nat.mod_lt _<|by omega⟩
 have hac:acT lost x<3:=af2 lost x
 have hph:x/3%10<10:=Nat.mod_lt _<|by omega
 obtain⟨H3,s3,z0,ids,EL,m,w1,w2,w3,w5,w7,w6⟩:=acm N.hB N.hW.f271 N.hW.f280 N.hL N.says hC hf hb hnt hres hname j5 hK q2 q3 ahn ae7 ajw hac hph Gw hv3 YG (ps:=ps) (cs:=cs) (zs:=zs) XV Pw XX
 obtain⟨d1,d2,d3,d4,d5,d6⟩:=ahm (ac:=acT lost x) (ph:=x/3%10) (lost:=lost) (Nat.min_le_right L.length 20) ajA
 have h23:binV .rem (.int .u8<|.ofNat x) (.int .u8<|.ofNat 3)=some (.int .u8<|.ofNat<|x%3):=yi<|by omega
 have h24:mkI .i64 (.ofNat<|x%3)=some (iv<|.ofNat<|x%3):=tD<|by omega
 have XJ:binV .rem (.int .u8<|.ofNat<|x/3) (.int .u8<|.ofNat 10)=some (.int .u8<|.ofNat<|x/3%10):=yi<|by omega
 have h33:mkI .i64 (.ofNat<|x/3%10)=some (iv<|.ofNat<|x/3%10):=tD<|by omega
 have UY:En [(0,a0),(1,.int .u8<|.ofNat x),(2,.bool lost)] E':=by
  intro i v hi
  simp only[lu]at hi
  split at hi
  ·rename_i h;cases hi;rw[<- h];exact e0'
  ·split at hi
   ·rename_i h;cases hi;rw[<- h];exact Xv
   ·split at hi
    ·rename_i h;cases hi;rw[<- h];exact e2'
    ·cases hi
 have cW:CY P K acS [(0,a0),(1,.int .u8<|.ofNat x),(2,.bool lost)] (λl'=>∀y w,lk [(0,a0),(1,.int .u8<|.ofNat x),(2,.bool lost),(7,iv<|.ofNat<|x%3)] y=some w->lk l' y=some w):=by
  unfold acS
  exact CY.ops<|RO.r (.mv rfl)<|RO.r (.arith rfl rfl h23)<|RO.r (.convI rfl h24)<|RO.r (.mv rfl)<|RO.nil<|bX rfl
 have cC:CY P K acQ [(0,a0),(1,.int .u8<|.ofNat x),(2,.bool lost),(7,iv<|.ofNat<|x%3)] (λl'=>∀y w,lk [(0,a0),(1,.int .u8<|.ofNat x),(2,.bool lost),(7,iv<|.ofNat<|acT lost x)] y=some w->lk l' y=some w):=by
  unfold acQ
  cases lost with
  | false=>
   refine CY.seq (Q1:=λl'=>∀y w,lk [(0,a0),(1,.int .u8<|.ofNat x),(2,.bool false),(7,iv<|.ofNat<|x%3),(29,.bool false)] y=some w->lk l' y=some w) (CY.ops<|RO.r (.mv rfl)<|RO.r (.mv rfl)<|RO.skip rfl rfl<|RO.skip rfl rfl<|RO.r (.bj rfl rfl)<|RO.nil<|bX rfl)  λl' hl'=>?_
   exact CY.cond (w:=false) (hl' 29 _ rfl) (λh=>Bool.noConfusion h) λ_=>CY.skip λy w hw=>hl' y w<|aa (l:=[(0,a0),(1,.int .u8<|.ofNat x),(2,.bool false),(7,iv<|.ofNat<|x%3),(29,.bool false)]) rfl (bX rfl) y w hw
  | true=>
   by_cases h1:x%3=1
   ·have h28:eqBy 20 .pi (iv<|.ofNat<|x%3) (iv<|.ofNat 1)=some true:=by rw[h1];rfl
    have hA:acT true x=0:=by unfold acT;simp[h1]
    rw[hA]
    refine CY.seq (Q1:=λl'=>∀y w,lk [(0,a0),(1,.int .u8<|.ofNat x),(2,.bool true),(29,.bool true)] y=some w->lk l' y=some w) (CY.ops<|RO.r (.mv rfl)<|RO.r (.mv rfl)<|RO.yes rfl (.mv rfl)<|RO.yes rfl (.eql rfl rfl h28)<|RO.r (.eb rfl rfl)<|RO.nil<|bX rfl) λl' hl'=>?_
    refine CY.cond (w:=true) (hl' 29 _ rfl) (λ_=>CY.ops<|RO.r (.mv rfl)<|RO.nil ?_) λh=>Bool.noConfusion h
    exact aa (hl' 0 _ rfl)<|aa (hl' 1 _ rfl)<|aa (hl' 2 _ rfl)<|bX rfl
   ·have h28:eqBy 20 .pi (iv<|.ofNat<|x%3) (iv<|.ofNat 1)=some false:=by rw[cD];exact congrArg some (decide_eq_false<|λhh=>h1<|Int.ofNat.inj hh)
    have hA:acT true x=x%3:=by unfold acT;simp[h1]
    rw[hA]
    refine CY.seq (Q1:=λl'=>∀y w,lk [(0,a0),(1,.int .u8<|.ofNat x),(2,.bool true),(7,iv<|.ofNat<|x%3),(29,.bool false)] y=some w->lk l' y=some w) (CY.ops<|RO.r (.mv rfl)<|RO.r (.mv rfl)<|RO.yes rfl (.mv rfl)<|RO.yes rfl (.eql rfl rfl h28)<|RO.r (.eb rfl rfl)<|RO.nil<|bX rfl) λl' hl'=>?_
    exact CY.cond (w:=false) (hl' 29 _ rfl) (λh=>Bool.noConfusion h) λ_=>CY.skip<|aa (hl' 0 _ rfl)<|aa (hl' 1 _ rfl)<|aa (hl' 2 _ rfl)<|aa (hl' 7 _ rfl) aB
 have cV:CY P K acR [(0,a0),(1,.int .u8<|.ofNat x),(2,.bool lost),(7,iv<|.ofNat<|acT lost x)] (λl'=>∀y w,lk [(0,a0),(2,.bool lost),(7,iv<|.ofNat<|acT lost x),(8,iv<|.ofNat<|x/3%10)] y=some w->lk l' y=some w):=by
  unfold acR
  exact CY.ops<|RO.r (.mv rfl)<|RO.r (.arith rfl rfl<|ahR hx)<|RO.r (.arith rfl rfl XJ)<|RO.r (.convI rfl h33)<|RO.r (.mv rfl)<|RO.nil<|bX rfl
 obtain⟨xx,e'',Xu,H2,l',s',r1,r2,r3,r4⟩:=cW.then (H:=H') UY (ds:=[]) (H0:=⟨.lf,0⟩) (Qn:=Kj) (Qe:=λ_=>Kj) (Qr:=adX<|Dw (tL 0)++(Dw []++z0)) (λl4 e4 hl4 hE4 b4 hb4=>cC.then (H:=H') (λi v hi=>hE4 i v<|hl4 i v hi) (λl5 e5 hl5 hE5 b5 hb5=>cV.then (H:=H') (λi v hi=>hE5 i v<|hl5 i v hi) (λl6 e6 hl6 hE6 b6 hb6=>by
  have g0:En [(0,a0),(2,.bool lost),(7,iv<|.ofNat<|acT lost x),(8,iv<|.ofNat<|x/3%10)] e6:=λi v hi=>hE6 i v<|hl6 i v hi
  have g1:=g0.putO (some 35)<|.bool lost
  have g2:=g1.putO (some 36)<|iv<|.ofNat<|acT lost x
  have g3:=g2.putO (some 37)<|iv<|.ofNat<|x/3%10
  have g4:=g3.putO (some 38) a0
  refine WOa.seq ?_ hb6
  unfold ad0
  refine WOa.r (.mv rfl) g0<|WOa.r (.mv rfl) g1<|WOa.r (.mv rfl) g2<|WOa.r (.mv rfl) g3<|WOa.cons (qu.call (fv:=.func (F 35) [] []) (vs:=[.bool lost,iv<|.ofNat<|acT lost x,iv<|.ofNat<|x/3%10,a0]) rfl ?_<|ki.func w1)<|WOa.of ?_ (g4.putO (some 39) _) w2
  ·simp only[aI,aG g4 (x:=.tmp 35) (v:=.bool lost) rfl,aG g4 (x:=.tmp 36) (v:=iv<|.ofNat<|acT lost x) rfl,aG g4 (x:=.tmp 37) (v:=iv<|.ofNat<|x/3%10) rfl,aG g4 (x:=.tmp 38) (v:=a0) rfl]
  ·refine Wv rfl (Wr (.extract rfl rfl)<|Wr (.extract rfl rfl)<|Wv rfl<|Wv rfl<|Wn ?_)
   exact acD N hP d1 d2 (by omega) d3 (by rw[d4];decide) (by decide) hac af3 (by omega) d5 (Nat.min_le_right _ _) d6 w7 .here (ahx 0 _) (by omega) w3 (bX rfl)) hb5) hb4) agj
 have run:=q5 (spine 2 c9).2 _ r1
 rw[ug]at run
 cases xx with
 | normal=>exact r4.elim
 | exit i=>exact r4.elim
 | ret=>
  obtain⟨rfl,u4,hm⟩:=r4
  refine⟨H2,CallsTo.enter (hK9 _ _) hf9 hb9 (by rw[agh,agf];rfl) (by rw[agh];exact iL) (by rw[agh];exact run) (.inl rfl) ?_,λh=>(r3.has<|hm _ _<|.app<|.app<|w6 h).2⟩
  have e4:resultOf P e'' H2 (.tmp 6)=some (.bool true):=r2 6 _ u4
  rw[ahC]
  show(match aI (resultOf P e'' H2) [.tmp 6]with | some [v]=>some v | some vs=>some (.tuple vs) | none=>none)=_
  simp only[aI,e4]
end
inductive C13 (F:Nat->FuncId):FuncId->List AV->Heap->AV->Heap->Prop
 | w (H:Heap):C13 F (F 34) [] H (.bool true) H
 | tap (H:Heap) (a n:Int):1<=a/\a<=1000->0<=n/\n<=1->C13 F (F 201) [.agg (evRow 3 a 0 n 0 Az)] H (iv 0) H
 | sick (H:Heap) (a:Int):1<=a/\a<=1000->C13 F (F 201) [.agg (evRow 4 a 0 0 0 Az)] H (iv 0) H
 | mana (H:Heap) (p j n:Int):0<=p/\p<=2->0<=j/\j<=3->-999<=n/\n<=999->C13 F (F 201) [.agg (evRow 8 p j n 0 Az)] H (iv 0) H
 | move (H:Heap) (a z:Int):1<=a/\a<=1000->1<=z/\z<=3->C13 F (F 201) [.agg (evRow 2 a z 0 0 Az)] H (iv 0) H
 | empty (H:Heap) (p:Int):0<=p/\p<=2->C13 F (F 201) [.agg (evRow 24 p 0 0 0 Az)] H (iv 0) H
 | phase (H:Heap) (p:Int):0<=p/\p<=9->C13 F (F 201) [.agg (evRow 19 p 0 0 0 Az)] H (iv 0) H
 | prio (H:Heap) (p:Int):0<=p/\p<=2->C13 F (F 201) [.agg (evRow 21 p 0 0 0 Az)] H (iv 0) H
 | blocker (H:Heap):C13 F (F 201) [.agg (evRow 22 1 0 0 0 Az)] H (iv 0) H
 | turn (H:Heap) (p:Int):0<=p/\p<=2->C13 F (F 201) [.agg (evRow 20 p 0 0 0 Az)] H (iv 0) H
 | new (H:Heap) (p c z:Int):0<=p/\p<=2->0<=c/\c<=5->1<=z/\z<=2->C13 F (F 201) [.agg (evRow 1 p c z 0 Az)] H (iv 0) H
 | lose (H:Heap):C13 F (F 201) [.agg (evRow 23 1 0 0 0 Az)] H (iv 0) H
 | wait (H:Heap) (c o k a:Int):0<=c/\c<=2->0<=o/\o<=1000->0<=k/\k<=5->0<=a/\a<=3->C13 F (F 201) [.agg (evRow 17 0 0 0 0 ⟨0,3,c,o,k,a⟩)] H (iv 0) H
variable {F:Nat->FuncId}{f:FuncId}
theorem C13.uniq (hne:F 34≠F 201){args:List AV}{H:Heap}{v u:AV}{H' I:Heap}(h:C13 F f args H v H')(h2:C13 F f args H u I):u=v/\I=H':=by
 have key:∀{f:FuncId}{args:List AV}{H:Heap}{v:AV}{H':Heap},C13 F f args H v H'->H'=H/\((f=F 34/\v=.bool true)\/(f=F 201/\v=iv 0)):=by
  intro f args H v H' h
  cases h<;>first | exact⟨rfl,.inl ⟨rfl,rfl⟩⟩ | exact⟨rfl,.inr ⟨rfl,rfl⟩⟩
 have q1:=key h
 have q2:=key h2
 refine⟨?_,by rw[q2.1,q1.1]⟩
 rcases q1.2 with⟨e1,w1⟩|⟨e1,w1⟩<;>rcases q2.2 with⟨e2,w2⟩|⟨e2,w2⟩<;>first|(rw[w1,w2];done)|exact absurd (e1.symm.trans e2) hne|exact absurd (e2.symm.trans e1) hne
variable {P:Program}
theorem says13 (hne:F 34≠F 201):acP P (orcOf (C13 F)) F:=by
 have known:∀{args:List AV},(∀H,C13 F (F 201) args H (iv 0) H)->∀s,bB P (orcOf<|C13 F) (F 201) args s (λv s'=>v=iv 0/\s'=s):=λh s=>
  bB.known (λH=>kG (h H) λu I h2=>C13.uniq hne (h H) h2) ⟨rfl,rfl⟩
 have nat:∀{p m:Nat},p<m+1->(0:Int)<=.ofNat p/\(.ofNat p:Int)<=.ofNat m:=λh=>⟨Int.natCast_nonneg _,Int.ofNat_le.2<|Nat.le_of_lt_succ h⟩
 exact{
  tap:=λa n s h1 h2 h3=>known (λH=>.tap H _ _ ⟨h1,h2⟩<|by omega) s
  sick:=λa s h1 h2=>known (λH=>.sick H _ ⟨h1,h2⟩) s
  mana:=λp j n s h1 h2 h3 h4=>known (λH=>.mana H _ _ _ (nat (m:=2) h1) (nat (m:=3) h2) ⟨h3,h4⟩) s
  move:=λa z s h1 h2 h3=>known (λH=>.move H _ _ ⟨h1,h2⟩<|by omega) s
  empty:=λp s h=>known (λH=>.empty H _<|nat (m:=2) h) s
  phase:=λp s h=>known (λH=>.phase H _<|nat (m:=9) h) s
  prio:=λp s h=>known (λH=>.prio H _<|nat (m:=2) h) s
  blocker:=λs=>known (λH=>.blocker H) s
  turn:=λp s h=>known (λH=>.turn H _<|nat (m:=2) h) s
  new:=λp c z s h1 h2 h3=>known (λH=>.new H _ _ _ (nat (m:=2) h1) (nat (m:=5) h2) ⟨Int.ofNat_le.2 (by omega:1<=1+z),Int.ofNat_le.2 (by omega:1+z<=2)⟩) s
  lose:=λs=>known (λH=>.lose H) s
  wait:=λc o k a s h1 h2 h3 h4=>known (λH=>.wait H _ _ _ _ h1 h2 h3 h4) s }
theorem orc13_w (hne:F 34≠F 201)(H:Heap):orcOf (C13 F) (F 34) [] H=some (.bool true,H):=kG (.w H) λu I h=>C13.uniq hne (.w H) h
theorem orc13_none (h1:f≠F 34)(h2:f≠F 201)(args:List AV)(H:Heap):orcOf (C13 F) f args H=none:=
 wn λu I h=>by cases h<;>first | exact h1 rfl | exact h2 rfl
theorem orc13_ok (kw:gW P (F 34) [] vu (.bool true) vu)
  (k:∀args v H,C13 F (F 201) args H v H->gW P (F 201) args vu v vu):OrcOk P (orcOf<|C13 F):=by
 refine DX λf args H v H' h=>?_
 have h0:=h
 cases h with
 | w=>exact kw.anywhere (λ_=>rfl) (λ_=>rfl) _
 | _=>exact(k _ _ _ h0).anywhere (λ_=>rfl) (λ_=>rfl) _
theorem c22_pool:gK (C22 0) where
 n:=rfl
 st:=by
  intro c hc
  refine V1 (k:=0) (Q:=λc=>∀x∈c.ab,x.kind≠4) ?_ ?_ ?_ ?_ ?_ c hc<;>intro c hc h _<;>rw[h]<;>decide
 rp:=by
  intro c hc
  refine V1 (k:=0) (Q:=λc=>C5 5 3 c=false) ?_ ?_ ?_ ?_ ?_ c hc<;>intro c hc h _<;>unfold C5<;>rw[h]<;>rfl
 dr:=by
  intro c hc
  refine V1 (k:=0) (Q:=λc=>C5 3 5 c=false) ?_ ?_ ?_ ?_ ?_ c hc<;>intro c hc h _<;>unfold C5<;>rw[h]<;>rfl
 R8:=by
  intro c hc
  refine V1 (k:=0) (Q:=λc=>c.ab.length<=4) ?_ ?_ ?_ ?_ ?_ c hc<;>intro c hc h _<;>rw[h]<;>decide
 who:=by
  intro c hc
  refine V1 (k:=0) (Q:=λc=>∀a∈c.ab,a.who=0\/a.who=1\/a.who=2) ?_ ?_ ?_ ?_ ?_ c hc<;>intro c hc h _<;>rw[h]<;>decide
structure Trn13 (P:Program)(K:Orc)(F:Nat->FuncId)(T:Nat->TypeId)(f:FuncId)(fn:Func)(c:Code)(abv:Func)(c35:Code)(R:iB)(n:Nat):Prop where
 mixed:P.follows .mixedOrders=true
 orc:OrcOk P K
 base:NEnv P K F T (T 26)
 pool:gK (C22 0)
 rule:∀S:Sg,@Bh S R K
 func:P.funcs[f]?=some fn
 body:fn.body=some c
 nt:fn.ntmps=178
 res:fn.results.toList=[.tmp 6]
 name:(fn.name == "runtime.NumGoroutine")=false
 rest:cc P 178 (spine 2 c).2=.seq acS (.seq acQ<|.seq acR<|.seq (.ops<|ad0 F)<|acU F T)
 free:∀args H,K f args H=none
 func35:P.funcs[F 35]?=some abv
 body35:abv.body=some c35
 nt35:abv.ntmps=82
 res35:abv.results.toList=[.tmp 8,.tmp 9]
 name35:(abv.name == "runtime.NumGoroutine")=false
 rest35:cc P 82 (spine 4 c35).2=adY F T
 free35:∀args H,K (F 35) args H=none
 runQ:∀lost,pre403 P (callF P R n) c c35 fhQ lost 0=true
 runP:∀lost,pre403 P (callF P R n) c c35 fhP lost 5=true
section
variable {P:Program}{K:Orc}{F:Nat->FuncId}{T:Nat->TypeId}{f:FuncId}{fn:Func}{c:Code}{abv:Func}{c35:Code}{R:iB}{n:Nat}
variable {wh:Int}
theorem trn13_none (hl:Trn13 P K F T f fn c abv c35 R n){lost:Bool}(hw:0<=wh/\wh<=255){lv:AV}{x:Value}(hlv:lenOf lv=some 0)(ho:Opq lv)(hx:VR (λ_=>none) lv x)(w:World) :
  Calls P f #[x,.int .u8 wh,.bool lost] w λe w'=>e=.returned (.bool true)/\w.keptBut w' (λ_=>False):=by
 obtain⟨y,rfl⟩:=Int.eq_ofNat_of_zero_le hw.1
 letI:Sg:=mkSg (λ_=>0) (λi=>match i with | 0=>lv | 1=>.int .u8 (.ofNat y) | 2=>iv (.ofNat<|acT lost y) | _=>iv<|.ofNat<|y/3%10)<|λ_=>.deferred
 have ha:VAs [rJ,Ah,vB lost] [lv,.int .u8<|.ofNat y,.bool lost]:=.cons (xV rfl ho)<|.cons (tN rfl Opq.U6)<|.cons (agx lost) .nil
 have Gw:VA acG (iv<|.ofNat<|acT lost y):=ac7 rfl Opq.U6
 have hv3:VA acH (iv<|.ofNat<|y/3%10):=ac8 rfl Opq.U6
 obtain⟨H',⟨m,h1⟩,_⟩:=abl hl.base hl.pool (kX P (hl.rule _) n) hl.func35 hl.body35 hl.nt35 hl.res35 hl.name35 hl.rest35 hl.free35 hl.func hl.body hl.nt hl.res hl.name hl.rest hl.free N6 rfl (hl.runQ lost) (by omega) ha Gw hv3 (L:=[]) hlv (λi hi=>absurd hi<|Nat.not_lt_zero _)<|λh=>absurd h<|Nat.not_lt_zero _
 refine callsIn_wide.1<|CallsIn.mono (qO hl.mixed hl.orc (HR.one w) (args:=[lv,.int .u8<|.ofNat y,.bool lost]) (xs:=[x,.int .u8 (y:Int),.bool lost]) ⟨_,_,hx,⟨_,_,rfl,⟨_,_,rfl,rfl,rfl⟩,rfl⟩,rfl⟩ h1).2 ?_
 rintro e w' ⟨y,rfl,g',_,hv,hh⟩
 have:y=.bool true:=hv
 subst this
 exact⟨rfl,pO (λk hk=>(hh.keep k 0 hk).2) hh.os.1 hh.os.2⟩
theorem trn13_some (hl:Trn13 P K F T f fn c abv c35 R n){lost:Bool}(hw:0<=wh/\wh<=255){z q y:Nat->Int}(hz:∀i,0<=z i/\z i<=255)(hq:∀i,0<=q i/\q i<=255)(hy:∀i,0<=y i/\y i<=255){len cap:Nat}(hpos:0<len){w:World}{iK off:Nat}{cs:Array Value}{el:TypeId}{fz:Nat × Nat}
  (hc:w.heap[iK]?=some (.cells cs el fz)) (hcell:∀i,i<len->cs[off+i*3]?=some (.int .u8<|z i)/\cs[off+i*3+1]?=some (.int .u8<|q i)/\cs[off+i*3+2]?=some (.int .u8<|y i)) :
  Calls P f #[.slice (some ⟨iK,off,none⟩) len cap,.int .u8 wh,.bool lost] w λe w'=>e=.returned (.bool true)/\w.keptBut w' (λ_=>False):=by
 obtain⟨x0,rfl⟩:=Int.eq_ofNat_of_zero_le hw.1
 obtain⟨T',qY⟩:=em<|(List.range len).map λi=>[AV.int .u8 (z i),AV.int .u8<|q i,AV.int .u8<|y i]
 have T7:∀i,i<len->((List.range len).map λi=>[AV.int .u8 (z i),AV.int .u8<|q i,AV.int .u8<|y i])[i]?=some [AV.int .u8 (z i),AV.int .u8<|q i,AV.int .u8<|y i]:=λi hi=>by
  rw[List.getElem?_map,List.getElem?_range hi];rfl
 have hT:∀i,i<len->T'.get i=some [AV.int .u8 (z i),AV.int .u8<|q i,AV.int .u8<|y i]:=λi hi=>by rw[cB qY,T7 i hi]
 have IH:((List.range len).map λi=>[AV.int .u8 (z i),AV.int .u8<|q i,AV.int .u8<|y i]).length=len:=by rw[List.length_map,List.length_range]
 letI:Sg:=mkSg (λ_=>0) (λi=>match i with | 0=>.slice (some ⟨0,0,0⟩) len cap false 3 | 1=>.int .u8 (.ofNat x0) | 2=>iv (.ofNat<|acT lost x0) | _=>iv<|.ofNat<|x0/3%10)<|λ_=>.rows T' len 3 true
 have ha:VAs [rJ,Ah,vB lost] [.slice (some ⟨0,0,0⟩) len cap false 3,.int .u8<|.ofNat x0,.bool lost]:=.cons (xV rfl .slice)<|.cons (tN rfl Opq.U6)<|.cons (agx lost) .nil
 have Gw:VA acG (iv<|.ofNat<|acT lost x0):=ac7 rfl Opq.U6
 have hv3:VA acH (iv<|.ofNat<|x0/3%10):=ac8 rfl Opq.U6
 obtain⟨H',⟨m,h1⟩,h2⟩:=abl hl.base hl.pool (kX P (hl.rule _) n) hl.func35 hl.body35 hl.nt35 hl.res35 hl.name35 hl.rest35 hl.free35 hl.func hl.body hl.nt hl.res hl.name hl.rest hl.free N5 rfl (hl.runP lost) (by omega) ha Gw hv3 (L:=(List.range len).map λi=>[AV.int .u8 (z i),AV.int .u8<|q i,AV.int .u8<|y i])
  (by rw[IH];rfl) (λi hi=>by
   rw[IH]at hi
   have g1:=hz i
   have g2:=hy i
   have g3:=hq i
   have e1:z i=.ofNat (z i).toNat:=(Int.toNat_of_nonneg g1.1).symm
   have e2:y i=.ofNat (y i).toNat:=(Int.toNat_of_nonneg g2.1).symm
   have e3:q i=.ofNat (q i).toNat:=(Int.toNat_of_nonneg g3.1).symm
   exact⟨(z i).toNat,(q i).toNat,(y i).toNat,by omega,by omega,by omega,by rw[T7 i hi,<- e1,<- e2,<- e3]⟩)
  (λ_=>⟨rfl,⟨cap,false,by rw[IH]⟩,T',by rw[IH];rfl,λi row hi=>by
   have hlt:i<len:=by
    have:=(List.getElem?_eq_some_iff.1 hi).1
    rw[IH]at this;exact this
   rw[T7 i hlt]at hi
   cases hi
   exact⟨hT i hlt,rfl⟩⟩)
 obtain⟨t,h3,h4⟩:=h2 (by rw[IH];exact hpos)
 rw[IH]at h3
 have hHR:HR ⟨λk _=>k<w.heap.size/\k≠iK,λ_=>False⟩ w (gB iK off 0 3<|.cells cs el fz) (Su<|.rows T' len 3 true) w:=by
  have only:∀b o,(Su<|.rows T' len 3 true).get b=some o->b=0/\o=.rows T' len 3 true:=by
   intro b o hb
   rw[xf]at hb
   split at hb
   ·rename_i e;cases hb;exact⟨e.symm,rfl⟩
   ·cases hb
  refine⟨?_,?_,?_,?_,λk _ hk=>⟨hk.1,rfl⟩,Nat.le_refl _,⟨rfl,rfl⟩,λb hb=>hb.elim,λk t h=>h,λb o d hb hw hd=>by obtain⟨_,rfl⟩:=only b o hb;cases hw⟩
  ·intro b o hb
   obtain⟨rfl,rfl⟩:=only b o hb
   refine⟨⟨iK,off,0,3,some<|.cells cs el fz⟩,rfl,?_⟩
   refine⟨rfl,cs,el,fz,hc,hc,trivial,λi row hi ht=>?_⟩
   rw[hT i hi]at ht
   cases ht
   refine⟨rfl,λj v hj=>?_⟩
   match j,hj with
   | 0,hj=>cases hj;exact⟨_,(hcell i hi).1,rfl,rfl⟩
   | 1,hj=>cases hj;exact⟨_,(hcell i hi).2.1,rfl,rfl⟩
   | 2,hj=>cases hj;exact⟨_,(hcell i hi).2.2,rfl,rfl⟩
  ·intro b b' o o' d d' hb hb' _ _ _
   rw[(only b o hb).1,(only b' o' hb').1]
  ·intro b hb
   have hb:1<=b:=hb
   exact if_neg<|by omega
  ·intro b o d hb _ hd
   obtain⟨rfl,_⟩:=only b o hb
   have hd:some (⟨iK,off,0,3,some<|.cells cs el fz⟩:Gd)=some d:=hd
   cases hd
   exactλk=>k.2 rfl
 refine callsIn_wide.1<|CallsIn.mono (qO hl.mixed hl.orc hHR (args:=[.slice (some ⟨0,0,0⟩) len cap false 3,.int .u8<|.ofNat x0,.bool lost]) (xs:=[.slice (some ⟨iK,off,none⟩) len cap,.int .u8 (x0:Int),.bool lost]) ⟨_,_,⟨_,rfl,λ_=>⟨rfl,rfl⟩,by simp[gX]⟩,⟨_,_,rfl,⟨_,_,rfl,rfl,rfl⟩,rfl⟩,rfl⟩ h1).2 ?_
 rintro e w' ⟨y,rfl,g',hle,hv,hh⟩
 have:y=.bool true:=hv
 subst this
 refine⟨rfl,pO (λk hk=>?_) hh.os.1 hh.os.2⟩
 by_cases hkb:k=iK
 ·subst hkb
  obtain⟨d,hd,X8⟩:=hh.obj 0 _ h3
  have:=hle 0 ⟨k,off,0,3,some<|.cells cs el fz⟩ rfl
  rw[hd]at this
  cases this
  obtain⟨_,_,_,_,_,e2,_⟩:=X8
  have e2:w'.heap[k]?=some (.cells cs el fz):=e2
  rw[e2,hc]
 ·exact(hh.keep k 0 ⟨hk,hkb⟩).2

end
end
end Go.Ev
