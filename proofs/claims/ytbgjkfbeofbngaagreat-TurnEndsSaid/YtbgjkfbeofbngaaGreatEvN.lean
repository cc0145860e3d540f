/- Walks and rules. Conditions: none. -/
import Derived.Test.YtbgjkfbeofbngaaGreatEvM
set_option linter.unusedVariables false
set_option linter.unusedSectionVars false
namespace Go.Ev
noncomputable section
section
variable {P:Program}{K:Orc}{F:Nat->FuncId}{T:Nat->TypeId}{bf bl:Nat}{aZ bE:AV}{c0 c1 c2 c3 c4:Int}{EL:List (List AV)}{d:SD}{s t:SH}{tF:TypeId}{C:List CD}
open Go.Proofs
set_option maxRecDepth 100000
variable {rd:Option Nat}{nt:Nat}{l:Sl}{ds:List aD}{Q:Po}{Qn:Po}{Qr:Po}{Qe:Nat->Po}
theorem afN {a b:Int}:binV .geq (iv a) (iv b)=some (.bool (!decide (a<b))):=by
 show some (AV.bool<|!ilt a b)=_
 rw[du]
open Go.Proofs
set_option maxRecDepth 100000
theorem agt (t:TypeId)(b r o:Nat):dz (.iface t (.ptr (some ⟨b,r,o⟩))) (.iface t (.ptr (some ⟨b,r,o⟩)))=true:=by
 simp[dz,sameN,same0]
open Go.Proofs
set_option maxRecDepth 100000
variable {D:SD}
end
section
variable [Sg]{P:Program}{K:Orc}{F:Nat->FuncId}{T:Nat->TypeId}
end
section
variable {P:Program}{K:Orc}{F:Nat->FuncId}{T:Nat->TypeId}{f:FuncId}{fn:Func}{c:Code}{alY:Func}{c18:Code}{R:iB}{n:Nat}
open Go.Proofs
set_option maxRecDepth 100000
def a87:CF:=NF (cd 44 76) _
def a88:CF:=NF (cd 108 33) _
def agT:CF:=NF (cd 111 54) _
def agU:CF:=NF (cd 112 8) _
def agV:CF:=NF (cd 113 28) _
def agW:CF:=NF (cd 114 24) _
def agY:CF:=NF (cd 180 22) _
def agZ:CF:=NF (cd 115 15) _
def ag0:CF:=NF (cd 181 9) _
def adk:CF:=NF (cd 45 54) _
def ag9:CF:=NF (cd 116 5) _
def aha:CF:=NF (cd 117 54) _
def ahb:CF:=NF (cd 118 11) _
def ahc:CF:=NF (cd 119 58) _
def ahd:CF:=NF (cd 120 3) _
def ahe:CF:=NF (cd 121 3) _
def ahf:CF:=NF (cd 182 20) _
def ahg:CF:=NF (cd 183 11) _
structure BaseE (P:Program)(K:Orc)(F:Nat->FuncId)(T:Nat->TypeId):Prop where
 f87:FnK P K (F 87) 76 [(.tmp 2)] (a87 F T)
 f88:FnK P K (F 88) 33 [(.tmp 4)] (a88 F T)
 f132:FnK P K (F 132) 54 [(.tmp 2)] (agT F T)
 f133:FnK P K (F 133) 8 [(.tmp 2)] (agU F T)
 f134:FnK P K (F 134) 28 [] (agV F T)
 f135:FnK P K (F 135) 24 [] (agW F T)
 f184:FnK P K (F 184) 22 [] (agY F T)
 f185:FnK P K (F 185) 15 [] (agZ F T)
 f186:FnK P K (F 186) 9 [] (ag0 F T)
 ael:FnK P K (F 413) 54 [] (adk F T)
 ai0:FnK P K (F 442) 5 [] (ag9 F T)
 ai1:FnK P K (F 443) 54 [] (aha F T)
 ai2:FnK P K (F 444) 11 [] (ahb F T)
 ai3:FnK P K (F 445) 58 [] (ahc F T)
 ai4:FnK P K (F 446) 3 [] (ahd F T)
 ai5:FnK P K (F 447) 3 [] (ahe F T)
 ai6:FnK P K (F 458) 20 [(.tmp 4)] (ahf F T)
 ai7:FnK P K (F 459) 11 [(.tmp 4),(.tmp 5)] (ahg F T)
def LD.mn (o:LD):Nat->Int
 | 0=>o.m0
 | 1=>o.m1
 | 2=>o.m2
 | _=>o.m3
def LD.aaH (o:LD)(j:Nat)(x:Int):LD:=match j with
 | 0=>{ o with m0:=x }
 | 1=>{ o with m1:=x }
 | 2=>{ o with m2:=x }
 | _=>{ o with m3:=x }
variable {j:Nat}
theorem agr (o:LD)(h:j<4):bV 1 (cu (Nat.add 1 (Nat.mul j 1)) o.row)=some [iv (o.mn j)]:=by
 match j,h with
 | 0,_=>rfl
 | 1,_=>rfl
 | 2,_=>rfl
 | 3,_=>rfl
theorem agq (o:LD)(h:j<4)(x:Int):fK o.row (Nat.add 1 (Nat.mul j 1)) [iv x]=some (o.aaH j x).row:=by
 match j,h with
 | 0,_=>rfl
 | 1,_=>rfl
 | 2,_=>rfl
 | 3,_=>rfl
variable {rd:Option Nat}{nt:Nat}{l:Sl}{ds:List aD}{s:SH}{Q:Po}{Qn:Po}{Qr:Po}{Qe:Nat->Po}
variable {i:Nat}{k a m:Int}{it:ID}
theorem acF (hR:BaseR P K F T){o:LD}{bp:Nat}{n:Int}{s':SH}{L:List (List AV)}(hj:j<4)(hb:0<=o.mn j+n/\o.mn j+n<=999)(hu:oY bp (.r false L 8) (.r false (L.set i (o.aaH j (o.mn j+n)).row) 8) s s')(hr:L[i]?=some o.row) :
  bB P K (F 267) [.ptr (some ⟨bp,i,0⟩),.agg<|evRow k a (.ofNat j) n m it] s (λ_ s2=>∃m,s2=m++s'):=by
 refine hR.f267.cF ?_
 unfold ag6
 have hh:=hu.has.1
 have had:binV .add (iv<|o.mn j) (iv n)=some (iv<|o.mn j+n):=ac0 ⟨by omega,by omega⟩
 have Se:=agr o hj
 refine Vk (k:=λb3=>Wn<|WP.bD<|Dp (.mv rfl)<|Dp (.faddr rfl)<|WD.lk rfl .nil (.load rfl .here rfl rfl rfl)<|Dp (.mv rfl)<|Dp (.faddr rfl)<|Dl rfl .nil (.load rfl .here rfl rfl rfl)<|Dp (.nilchk rfl rfl)<|Dp (.faddr rfl)<|Dp (.iaddrA rfl rfl hj)<|Dl rfl .nil (.load rfl (.there hh) hr Se rfl)<|Dp (.faddr rfl)<|Dl rfl .nil (.load rfl .here rfl rfl rfl)<|Dp (.arith rfl rfl had) ?_)
 refine Dc .nil<|W1 (abN hR) ?_
 rintro _ _ ⟨rfl,rfl⟩
 rw[adN ⟨by omega,hb.2⟩]
 have hmx:aw (mm true) [iv 0] (iv<|o.mn j+n)=some (iv<|o.mn j+n):=by
  show some (iv<|mxI (o.mn j+n) 0)=_
  rw[aeD,Int.max_eq_left hb.1]
 refine Dp (.mmx rfl hmx)<|Dp (.nilchk rfl rfl)<|Dp (.faddr rfl)<|Dp (.iaddrA rfl rfl hj) ?_
 refine Dc .nil<|Wt rfl rfl rfl (.there hu) hr (agq o hj _)<|D0 .nil (Wm .nil ⟨[_],rfl⟩) λx hx=>?_
 rw[List.mem_singleton.1 hx]
 refine⟨(λi hi=>nomatch hi),Nat.zero_le _,wC _,λk' _ hk=>?_⟩
 rcases(by have:k'<=1:=hk;omega:k'=0\/k'=1)with rfl|rfl
 ·exact⟨_,rfl,.load rfl .here rfl rfl rfl⟩
 ·exact⟨_,rfl,.load rfl .here rfl rfl rfl⟩
variable {p:Nat}
theorem adn (hB:Base P K F T)(aep:FnK P K (F 264) 15 [] (ae1 F T))(hR:BaseR P K F T){o:LD}{n:Int}{d:SD}(hd:d.Small)(he:d.kQ)(ho:d.pl[p]?=some o)(hj:j<4)(hb:0<=o.mn j+n/\o.mn j+n<=999)(lm:∀s,bB P K (F 201) [.agg (evRow 8 (.ofNat p) (.ofNat j) n m it)] s (λv s'=>v=iv 0/\s'=s)) :
  Ap P K F 8 (.ofNat p) (.ofNat j) n m it d { d with pl:=d.pl.set p (o.aaH j<|o.mn j+n) }:=
 yH (k:=8) hB hd lm (R2 hB<|by simp) (λ{_ _ _ _ v} hv hW=>by
  obtain⟨bd,bx,rfl,_⟩:=(show iP F _ _ v true false false 264 267 from hv)
  exact aaj hB hW hd he (k:=8) (by omega) (by omega) (by omega) (by omega) (List.getElem?_eq_some_iff.1 ho).1) (λ{_ _ _ _ _ _ _} hv hW=>by
  obtain⟨bd,bx,hv,h1,h2⟩:=(show iP F _ _ _ true false false 264 267 from hv)
  cases hv
  exact abQ (o':=o.aaH j (o.mn j+n)) aep hW h1 h2 ho λ{s s' bp L} hu hr=>acF hR hj hb hu hr)
variable {bw bx:Nat}{b:Int}
theorem adv (hR:BaseR P K F T){d:SD}{t:SH}(hs:WH bw d t s)(hx:Has bx (.r false [[.ptr (some ⟨bw,0,0⟩)]] 1) t){n:Int} :
  bB P K (F 272) [.agg (evRow k a b n m it),.ptr<|some ⟨bx,0,0⟩] s (λ_ s'=>WH bw { d with pr:=a,pa:=n } t s'):=by
 obtain⟨pv,ov,lv,hv,gv,ev,fv,sv,wv,nn,k1,k2⟩:=hs
 refine bB.perm k1.symm ?_
 refine hR.f272.cF ?_
 unfold ag7
 refine Vk (k:=λb2=>Wn<|WP.bD<|Dl rfl .nil (.load rfl (.there<|.there<|.app hx) rfl rfl rfl)<|WD.lk rfl .nil (.load rfl (.there<|.there<|.app hx) rfl rfl rfl)<|Dp (.faddr rfl)<|Dl rfl .nil (.load rfl .here rfl rfl rfl)<|Dp (.faddr rfl)<|WD.lk rfl .nil (.load rfl .here rfl rfl rfl)<|Dp (.nilchk rfl rfl)<|Dp (.faddr rfl)<|Dp (.faddr rfl)<|Dc .nil<|Wt (s':=_::(bw,.r false [[pv,ov,lv,hv,gv,ev,fv,sv,wv,iv<|SD.tu d,iv<|SD.ac d,iv<|SD.ph d,iv a,iv<|SD.pa d,iv<|SD.bl d,iv<|SD.nx d,iv<|SD.sp d,iv<|SD.us d,iv<|SD.ck d,iv<|SD.co d,iv<|SD.ca d,nilS,AV.bool<|SD.py d,iv<|SD.oc d,iv<|SD.wi d]] 25)::_) rfl rfl rfl (.there .here) rfl rfl<|Dp (.nilchk rfl rfl)<|Dp (.faddr rfl)<|Dp (.faddr rfl)<|Dc .nil<|Wt (s':=_::(bw,.r false [[pv,ov,lv,hv,gv,ev,fv,sv,wv,iv<|SD.tu d,iv<|SD.ac d,iv<|SD.ph d,iv a,iv n,iv<|SD.bl d,iv<|SD.nx d,iv<|SD.sp d,iv<|SD.us d,iv<|SD.ck d,iv<|SD.co d,iv<|SD.ca d,nilS,AV.bool<|SD.py d,iv<|SD.oc d,iv<|SD.wi d]] 25)::_) rfl rfl rfl (.there .here) rfl rfl ?_)
 refine D0 .nil (Wm .nil ⟨pv,ov,lv,hv,gv,ev,fv,sv,wv,[(b2,.r false [evRow k a b n m it] 13)]++nn,(show List.Perm ((b2,HO.r false [evRow k a b n m it] 13)::(bw,.r false [({ d with pr:=a,pa:=n }:SD).cells pv ov lv hv gv ev fv sv wv] 25)::(nn++t)) _ from uS),(show iJ _ pv ov lv hv gv ev fv sv wv { d with pr:=a,pa:=n } from⟨(k2.bK (m:=[_])).ex⟩)⟩) λx hy=>?_
 rcases List.mem_cons.1 hy with rfl|hy
 ·refine⟨(λi hi=>nomatch hi),Nat.zero_le _,wC _,λk' _ hk=>?_⟩
  rcases(by have:k'<=1:=hk;omega:k'=0\/k'=1)with rfl|rfl
  ·exact⟨_,rfl,.load rfl .here rfl rfl rfl⟩
  ·exact⟨_,rfl,.load rfl .here rfl rfl rfl⟩
 ·rw[List.mem_singleton.1 hy]
  refine⟨(λi hi=>nomatch hi),Nat.zero_le _,ji _ _ _,λk' _ hk=>?_⟩
  rcases(by have:k'<=1:=hk;omega:k'=0\/k'=1)with rfl|rfl
  ·exact⟨_,rfl,.load rfl (.there<|.there<|.app hx) rfl rfl rfl⟩
  ·exact⟨_,rfl,.load rfl (.there<|.there<|.app hx) rfl rfl rfl⟩
theorem abi (hB:Base P K F T)(hR:BaseR P K F T){n:Int}{d:SD}(hd:d.Small)(he:d.kQ)(hp:p<d.pl.length)(lm:∀s,bB P K (F 201) [.agg (evRow 21 (.ofNat p) b n m it)] s (λv s'=>v=iv 0/\s'=s)) :
  Ap P K F 21 (.ofNat p) b n m it d { d with pr:=.ofNat p,pa:=n }:=
 yH (k:=21) hB hd lm (R2 hB<|by simp) (λ{_ _ _ _ v} hv hW=>by
  obtain⟨bx,rfl,_⟩:=(show km F _ _ v true false false 272 from hv)
  exact aaj hB hW hd he (k:=21) (by omega) (by omega) (by omega) (by omega) hp) (λ{_ _ _ _ _ _ _} hv hW=>by
  obtain⟨bx,hv,hx⟩:=(show km F _ _ _ true false false 272 from hv)
  cases hv
  exact c6.func (adv hR hW hx))
theorem abs (aga:FnK P K (F 281) 9 [] (ae2 F T)){d:SD}{t:SH}(hs:WH bw d t s)(hx:Has bx (.r false [[.ptr (some ⟨bw,0,0⟩)]] 1) t){n:Int} :
  bB P K (F 281) [.agg (evRow k a b n m it),.ptr<|some ⟨bx,0,0⟩] s (λ_ s'=>WH bw { d with bl:=a } t s'):=by
 obtain⟨pv,ov,lv,hv,gv,ev,fv,sv,wv,nn,k1,k2⟩:=hs
 refine bB.perm k1.symm ?_
 refine aga.cF ?_
 unfold ae2
 refine Vk (k:=λb2=>Vk (k:=Ww<|Wt (s':=_::(bw,.r false [[pv,ov,lv,hv,gv,ev,fv,sv,wv,iv<|SD.tu d,iv<|SD.ac d,iv<|SD.ph d,iv<|SD.pr d,iv<|SD.pa d,iv a,iv<|SD.nx d,iv<|SD.sp d,iv<|SD.us d,iv<|SD.ck d,iv<|SD.co d,iv<|SD.ca d,nilS,AV.bool<|SD.py d,iv<|SD.oc d,iv<|SD.wi d]] 25)::_) rfl rfl rfl (.there .here) rfl rfl<|Wn<|Wm .nil ?_))
 exact⟨pv,ov,lv,hv,gv,ev,fv,sv,wv,[(b2,.r false [evRow k a b n m it] 13)]++nn,(show List.Perm ((b2,HO.r false [evRow k a b n m it] 13)::(bw,.r false [({ d with bl:=a }:SD).cells pv ov lv hv gv ev fv sv wv] 25)::(nn++t)) _ from uS),(show iJ _ pv ov lv hv gv ev fv sv wv { d with bl:=a } from⟨(k2.bK (m:=[_])).ex⟩)⟩
theorem abq (hB:Base P K F T)(aga:FnK P K (F 281) 9 [] (ae2 F T)){n:Int}{d:SD}(hd:d.Small)(he:d.kQ)(lm:∀s,bB P K (F 201) [.agg (evRow 22 a b n m it)] s (λv s'=>v=iv 0/\s'=s)) :
  Ap P K F 22 a b n m it d { d with bl:=a }:=
 yH (k:=22) hB hd lm (aa4 hB<|by simp) (λ{_ _ _ _ v} hv hW=>by
  obtain⟨bx,rfl,_⟩:=(show km F _ _ v false false false 281 from hv)
  exact abD hB hW hd he (k:=22) (by omega) (by omega) (by omega) (by omega)) (λ{_ _ _ _ _ _ _} hv hW=>by
  obtain⟨bx,hv,hx⟩:=(show km F _ _ _ false false false 281 from hv)
  cases hv
  exact c6.func (abs aga hW hx))
variable {z:Int}
theorem adJ {d:SD}(he:d.kQ):(d.left a i z p).kQ:=by
 unfold SD.left
 cases hz:d.ci z p with
 | none=>exact⟨he.lb,he.hd,he.gr,he.ex⟩
 | some x=>
  obtain⟨lst,put⟩:=x
  have h:=(SD.aa6 hz λn=>!decide (n=a)).2.1 he
  exact⟨h.lb,h.hd,h.gr,h.ex⟩
theorem aa0 (d:SD)(a:Int)(i:Nat)(z:Int)(p:Nat):(d.left a i z p).pl=d.pl/\(d.left a i z p).nx=d.nx/\(d.left a i z p).sp=d.sp:=by
 unfold SD.left
 cases hz:d.ci z p with
 | none=>exact⟨rfl,rfl,rfl⟩
 | some x=>
  obtain⟨lst,put⟩:=x
  obtain⟨k1,_,_,_,k5,k6,_⟩:=SD.aa6 hz λn=>!decide (n=a)
  exact⟨k1,k5,k6⟩
theorem acE {d:SD}(hd:d.Small)(he:d.kQ):(d.left a i z p).Small:=by
 have h1:=hd.n1
 unfold SD.left
 cases hz:d.ci z p with
 | none=>exact⟨⟨h1.1,Nat.le_trans (List.length_eraseIdx_le ..) h1.2.1,h1.2.2⟩,hd.n2⟩
 | some x=>
  obtain⟨lst,put⟩:=x
  obtain⟨k1,k2,k3,k4,_⟩:=SD.aa6 hz λn=>!decide (n=a)
  obtain⟨_,j2,j3,_⟩:=SD.AY hz<|lst.filter λn=>!decide (n=a)
  have k2:=k2 he
  refine⟨⟨by show(put _).pl.length<=_;rw[k1];exact h1.1,Nat.le_trans (List.length_eraseIdx_le ..) h1.2.1,Nat.le_trans k3 h1.2.2.1,by show(put _).st.length<=_;rw[j2];exact h1.2.2.2.1,by show(put _).wa.length<=_;rw[j3];exact h1.2.2.2.2⟩,λLL hL=>⟨?_,k4 (λLL hL=>(hd.n2 LL hL).2) LL hL⟩⟩
  have hp:(put<|lst.filter λn=>!decide (n=a)).pl.length<=1000:=by rw[k1];exact h1.1
  rcases hL with rfl|rfl|rfl|rfl
  ·exact Nat.le_trans (Nat.le_of_eq k2.lb) hp
  ·exact Nat.le_trans (Nat.le_of_eq k2.hd) hp
  ·exact Nat.le_trans (Nat.le_of_eq k2.gr) hp
  ·exact Nat.le_trans (Nat.le_of_eq k2.ex) hp
variable {o:OD}
theorem acq (hB:Base P K F T)(hM:BaseM P K F T){d:SD}{t:SH}(hs:WH bw d t s)(hd:d.Small)(he:d.kQ)(hi:d.find a=some i)(xG:d.ob[i]?=some o)(hp:p<d.pl.length)(ho:o.owner=.ofNat p)
  (hst:d.st=[]) (KO:d.wa=[]) (Sc:d.co≠a) (oZ:∀o∈d.ob,o.block≠a) (h1:0<=d.nx/\d.nx<=1000000) (h2:0<=d.sp/\d.sp<=1000000) :
  bB P K (F 260) [.ptr (some ⟨bw,0,0⟩),.agg<|evRow 2 a b 0 m it] s (λ_ s'=>WH bw ((d.left a i o.ci p).add (pX o b) p) t s'):=by
 refine hM.f260.cF ?_
 unfold Tb
 refine Wq<|Wa (.box rfl rfl) λb3=>Wn ?_
 have nr:WH bw d ((b3,.r false [evRow 2 a b 0 m it] 13)::t) ((b3,.r false [evRow 2 a b 0 m it] 13)::s):=hs.Ku
 refine Wq<|Wv rfl<|Wf rfl<|Wl rfl .here rfl rfl rfl<|Ww<|Wz [.ptr (some ⟨bw,0,0⟩),iv a] rfl rfl (zQ hB nr hd he hi xG hp ho hst KO Sc oZ) ?_
 rintro w s2 ⟨rfl,dt⟩
 refine Wa (.alloc rfl) λb4=>Ww<|Wt (s':=(b4,.r false [o.row] 14)::_) rfl rfl rfl .here rfl rfl<|Wn ?_
 have gw:=dt.Ku (p:=(b4,.r false [o.row] 14))
 refine Wo<|Wv rfl<|Wf rfl<|Wl rfl .here rfl rfl rfl<|Wf rfl<|Wl rfl .here rfl rfl rfl<|Wf rfl<|Wl rfl .here rfl rfl rfl<|Wf rfl<|Wl rfl (.there<|dt.Vb .here) rfl rfl rfl<|Wf rfl<|Wl rfl .here rfl rfl rfl<|Wr (.build (cs:=(pX o b).row) rfl rfl)<|Wf rfl<|Wl rfl (.there<|dt.Vb .here) rfl rfl rfl<|Wh (b:=false) rfl rfl rfl<|Ww<|Wz [.ptr (some ⟨bw,0,0⟩),.agg (pX o b).row,.bool false] rfl rfl (Br hB gw (acE hd he) (adJ he) ((aa0 d a i o.ci p).1▸hp) ho ((aa0 d a i o.ci p).2.1▸h1)<|(aa0 d a i o.ci p).2.2▸h2) ?_
 intro w s4 pM
 exact Wn<|Wm .nil<|WH.fb (x:=[_,_]) pM
theorem ack (hB:Base P K F T)(hM:BaseM P K F T){d:SD}(hd:d.Small)(he:d.kQ)(hi:d.find a=some i)(xG:d.ob[i]?=some o)(hp:p<d.pl.length)(ho:o.owner=.ofNat p)
  (hst:d.st=[]) (KO:d.wa=[]) (Sc:d.co≠a) (oZ:∀o∈d.ob,o.block≠a) (h1:0<=d.nx/\d.nx<=1000000) (h2:0<=d.sp/\d.sp<=1000000) (lm:∀s,bB P K (F 201) [.agg (evRow 2 a b 0 m it)] s<|λv s'=>v=iv 0/\s'=s) :
  Ap P K F 2 a b 0 m it d ((d.left a i o.ci p).add (pX o b) p):=
 yH (k:=2) hB hd lm (FB hB<|by simp) (λ{_ _ _ _ v} hv hW=>by
  cases (show uH F _ v false true false 260 from hv)
  exact Jh hB hW hd he (k:=2) (by omega) (by omega) (by omega) (by omega) hi) (λ{_ _ _ _ _ _ _} hv hW=>by
  cases (show uH F _ _ false true false 260 from hv)
  exact c6.func (acq hB hM hW hd he hi xG hp ho hst KO Sc oZ h1 h2))
structure Idle (o:OD):Prop where
 at_:o.NP=0
 bk:o.block=0
 sp:o.J9=false
 hu:o.Y6=0
variable {bf:Nat}{bl:Nat}{aZ:AV}{bE:AV}{c0:Int}{c1:Int}{c2:Int}{c3:Int}{c4:Int}{EL:List (List AV)}{d:SD}{t:SH}{tF:TypeId}{g:ED->CH->CH}{C:List CD}
theorem aaQ (hV:BaseE P K F T)(h:Idle o):bB P K (F 135) [.agg [gm tF bf],.agg o.row] s (λ_ s'=>∃m,s'=m++s):=by
 refine hV.f135.cF ?_
 unfold agW
 have l10:bV 1 (cu 10 o.row)=some [iv 0]:=by show some [iv o.NP]=_;rw[h.at_]
 have l11:bV 1 (cu 11 o.row)=some [iv 0]:=by show some [iv o.block]=_;rw[h.bk]
 have l12:bV 1 (cu 12 o.row)=some [.bool false]:=by show some [AV.bool o.J9]=_;rw[h.sp]
 refine Vk (k:=λb2=>Wa (.box rfl rfl) λb3=>Vk (k:=Wm .nil ?_))
 exact⟨[_,_],rfl⟩
theorem aco (hV:BaseE P K F T)(h:Idle o):bB P K (F 184) [.agg [gm tF bf],.agg o.row] s (λ_ s'=>∃m,s'=m++s):=by
 refine hV.f184.cF ?_
 unfold agY
 have l8:bV 1 (cu 8 o.row)=some [iv 0]:=by show some [iv o.Y6]=_;rw[h.hu]
 have e7:binV .gtr (iv<|.ofNat 0) (iv 0)=some (.bool false):=rfl
 have ln:lenOf nilS=some 0:=rfl
 refine Vk (k:=λb2=>Wa (.box rfl rfl) λb3=>Vk (k:=Ww<|W1 (aaQ hV h) ?_))
 rintro _ _ ⟨m,rfl⟩
 refine Wn<|Wm .nil ?_
 exact⟨m++[(b3,.r false [o.row] 14),(b2,.r false [[gm tF bf]] 1)],by simp⟩
theorem aaf (hE:GE P K F T tF g C d)(hV:BaseE P K F T)(hf:Has bf (.r false [bu bl aZ c0 c1 c2 c3 c4 bE] 8) t)(hall:∀id∈d.fi,∃o,d.obj id=some o)(hs:aH bl EL d t s){fv:AV}
  (VZ:∀o t' s1,o∈d.ob->(∀q∈t,q∈t')->aH bl EL d t' s1->c6 P K fv [.agg o.row] s1 (λ_ s2=>aH bl EL d t' s2)) :
  bB P K (F 134) [.agg [gm tF bf],fv] s (λ_ s'=>aH bl EL d t s'):=by
 have hn:=hE.hd.n1
 refine hV.f134.cF ?_
 unfold agV
 refine Vk (k:=λb2=>Vk (k:=?_))
 have dt:aH bl EL d ((b2,HO.r false [[gm tF bf]] 1)::t) ((b2,HO.r false [[gm tF bf]] 1)::s):=hs.cons
 refine Ww<|WS.invoke (vs:=[AV.int IntKind.i64 (Int.ofNat 2),AV.int IntKind.i64<|Int.ofNat 0]) rfl (hE.hM.ci ) rfl ( Gf hE.hB hE.hC dt hE.hd (.there hf)) ?_
 rintro v s3 ⟨m,gw,hv⟩
 have lv:lenOf v=some d.fi.length:=by rw[hv.lenOf,gq]
 refine Vk (k:=?_)
 refine Wp (λk l ds s'=>ds=[]/\∃q,k=d.fi.length-q/\q<=d.fi.length/\aH bl EL d (m++((b2,HO.r false [[gm tF bf]] 1)::t)) s'/\∀i w,lk [(1,fv),(2,.ptr<|some ⟨b2,0,0⟩),(10,v),(11,iv<|.ofNat d.fi.length),(12,iv<|.ofNat q)] i=some w->lk l i=some w) ?_ (n:=d.fi.length-0)
  ⟨rfl,0,rfl,Nat.zero_le _,gw,bX rfl⟩
 rintro k l ds s' ⟨rfl,q,rfl,hq,hs',hl⟩
 refine Wg hl (λ_ _ h=>h) ?_
 by_cases hlt:q<d.fi.length
 rotate_left
 ·have e1:=qa hlt
  refine Vk (k:=Wx<|Wm .nil ?_)
  exact hs'.fb.tail
 have e1:=qb hlt
 have hid:=List.getElem_mem hlt
 obtain⟨ba,ra,na,ca,J5,Sp,Ma,rfl,hba,me,hra⟩:=hv.at (i:=q) (by rw[gq];exact hlt)
 rw[Qp hlt]at hra
 generalize d.fi[q]=id at hid hra
 obtain⟨o,ho⟩:=hall id hid
 have adE:=hs'.mem<|.left hba
 have zB:Has b2 (.r false [[gm tF bf]] 1) s':=hs'.mem<|.app .here
 refine Vk (k:=?_)
 refine Vk (k:=Ww<|WS.invoke (vs:=[iv id]) rfl (hE.hM.obj ) rfl ( Qq hE.hB hE.hC hs' hE.hd (.app<|.there hf)) ?_)
 rintro _ s4 ⟨hv4,pM⟩
 rw[ho]at hv4
 subst hv4
 obtain⟨_,_,_,_,V4⟩:=abF ho
 refine Vk (k:=λb6=>Vk (k:=?_))
 have tn:aH bl EL d ((b6,HO.r false [o.row] 14)::(m++((b2,HO.r false [[gm tF bf]] 1)::t))) ((b6,HO.r false [o.row] 14)::s4):=pM.cons
 refine Ww<|WS.call (vs:=[.agg o.row]) rfl rfl (VZ o _ _ V4 (λq hq=>by simp[hq]) tn) ?_
 intro w s6 KL
 refine Vk (k:=?_)
 exact⟨d.fi.length-(q+1),by omega,rfl,q+1,rfl,hlt,KL.tail,bX rfl⟩
theorem ad6 (hV:BaseE P K F T){b:Nat}(hi:Idle o){t':SH}(hb:(b,HO.r false [[.bool false]] 1)∈t')(h1:aH bl EL d t' s):bB P K (F 186) [.agg o.row,.ptr (some ⟨b,0,0⟩)] s (λ_ s2=>aH bl EL d t' s2):=by
 obtain⟨x,y,rfl⟩:=List.append_of_mem hb
 obtain⟨s3,p3,h3⟩:=(h1.tT List.perm_middle).first
 refine bB.perm p3.symm ?_
 refine hV.f186.cF ?_
 unfold ag0
 have l10:bV 1 (cu 10 o.row)=some [iv 0]:=by show some [iv o.NP]=_;rw[hi.at_]
 refine Vk (k:=λb2=>Vk (k:=Ww<|Wt (s':=_::(b,.r false [[AV.bool (negB true true)]] 1)::_) rfl rfl rfl (.there .here) rfl rfl<|Wn<|Wm .nil ?_))
 exact aH.bK (m:=[_])<|(h3.cons (p:=(b,HO.r false [[.bool false]] 1))).tT List.perm_middle.symm
theorem aaP (hE:GE P K F T tF g C d)(hV:BaseE P K F T)(hf:Has bf (.r false [bu bl aZ c0 c1 c2 c3 c4 bE] 8) t)(hall:∀id∈d.fi,∃o,d.obj id=some o)(hi:∀o∈d.ob,Idle o)(hs:aH bl EL d t s) :
  bB P K (F 133) [.agg [gm tF bf]] s (λv s'=>v=.bool false/\aH bl EL d t s'):=by
 refine hV.f133.cF ?_
 unfold agU
 refine Vk (k:=λb1=>Vk (k:=λb3=>Vk (k:=?_)))
 have gw:aH bl EL d ((b3,HO.r false [[.bool false]] 1)::(b1,HO.r false [[gm tF bf]] 1)::t) ((b3,HO.r false [[.bool false]] 1)::(b1,HO.r false [[gm tF bf]] 1)::s):=hs.cons.cons
 refine Ww<|Wz [AV.agg [gm tF bf],AV.func (F 186) [] [AV.ptr (some<|Pl.mk b3 0 0)]] rfl rfl (aaf hE hV (.there<|.there hf) hall gw λo t' s1 ho hq h1=>c6.func<|ad6 hV (hi o ho) (hq _<|by simp) h1) ?_
 rintro _ s4 pM
 have hb:=pM.mem .here
 refine Vk (k:=We<|Wm (.tmp rfl .nil) ?_)
 exact⟨rfl,pM.tail.tail⟩
def fE (d:SD)(p:Nat):Bool:=match d.pl[p]? with | some o=>o.f2 | none=>false
def dT (d:SD)(a:Nat):Nat:=if fE d ((a+1)%3) then(if fE d ((a+2)%3)then a else(a+2)%3) else(a+1)%3
theorem qc {a:Nat}(h:a<3):dT d a<3:=by
 unfold dT
 split
 ·split
  ·exact h
  ·exact Nat.mod_lt _<|by omega
 ·exact Nat.mod_lt _<|by omega
theorem abu (o:LD){b:Bool}(h:o.f2=b):part false o.row 6 1=some (.bool b):=by show some (AV.bool o.f2)=_;rw[h]
theorem aaB (hE:GE P K F T tF g C d)(hV:BaseE P K F T)(hf:Has bf (.r false [bu bl aZ c0 c1 c2 c3 c4 bE] 8) t)(h3:d.pl.length=3){a:Nat}(ha:a<3)(hs:aH bl EL d t s) :
  bB P K (F 88) [gm tF bf,iv<|.ofNat a] s (λv s'=>v=iv (.ofNat<|dT d a)/\aH bl EL d t s'):=by
 refine hV.f88.cF ?_
 unfold a88
 have ad:∀i:Nat,i<=3->binV .add (iv<|.ofNat a) (iv<|.ofNat i)=some (iv<|.ofNat<|a+i):=λi hi=>ac0 ⟨by show(-9223372036854775808:Int)<=(a:Int)+(i:Int);omega,by show(a:Int)+(i:Int)<=9223372036854775807;omega⟩
 have rm:∀x:Nat,x<=1000->binV .rem (iv<|.ofNat x) (iv<|.ofNat 3)=some (iv<|.ofNat<|x%3):=λx hx=>yi<|by omega
 have a3:∀x:Nat,x<3->binV .add (iv<|.ofNat x) (iv<|.ofNat 3)=some (iv<|.ofNat<|x+3):=λx hx=>ac0 ⟨by show(-9223372036854775808:Int)<=(x:Int)+3;omega,by show(x:Int)+3<=9223372036854775807;omega⟩
 have g1:(a+1)%3<3:=Nat.mod_lt _<|by omega
 have g2:(a+2)%3<3:=Nat.mod_lt _<|by omega
 obtain⟨o1,Gt⟩:∃o,d.pl[(a+1)%3]?=some o:=⟨_,List.getElem?_eq_getElem<|h3.symm▸g1⟩
 obtain⟨o2,ho2⟩:∃o,d.pl[(a+2)%3]?=some o:=⟨_,List.getElem?_eq_getElem<|h3.symm▸g2⟩
 have e1:=ad 1<|by omega
 have e2:=rm (a+1)<|by omega
 have e3:=a3 _ g1
 have e4:binV .rem (iv<|.ofNat<|(a+1)%3+3) (iv<|.ofNat 3)=some (iv<|.ofNat<|(a+1)%3):=by rw[rm _ (by omega),Nat.add_mod_right,Nat.mod_mod]
 have k1:=ad 2<|by omega
 have k2:=rm (a+2)<|by omega
 have k3:=a3 _ g2
 have k4:binV .rem (iv<|.ofNat<|(a+2)%3+3) (iv<|.ofNat 3)=some (iv<|.ofNat<|(a+2)%3):=by rw[rm _ (by omega),Nat.add_mod_right,Nat.mod_mod]
 have z1:binV .lss (iv<|.ofNat 1) (iv<|.ofNat 3)=some (.bool true):=rfl
 have z2:binV .lss (iv<|.ofNat 2) (iv<|.ofNat 3)=some (.bool true):=rfl
 have z3:binV .lss (iv<|.ofNat 3) (iv<|.ofNat 3)=some (.bool false):=rfl
 have y1:binV .add (iv<|.ofNat 1) (iv<|.ofNat 1)=some (iv<|.ofNat 2):=rfl
 have y2:binV .add (iv<|.ofNat 2) (iv<|.ofNat 1)=some (iv<|.ofNat 3):=rfl
 refine Vk (k:=Ww<|WS.invoke (vs:=[]) rfl (hE.hM.yd ) rfl ( tV hE.hB hE.hG hs hE.hd hf) ?_)
 rintro _ s1 ⟨rfl,nr⟩
 rw[h3]
 refine Vk (k:=WP.dA<|Vk (k:=?_))
 refine Vk (k:=Ww<|WS.invoke (vs:=[iv (Int.ofNat<|(a+1)%3)]) rfl (hE.hM.RD ) rfl ( Ar hE.hB hE.hC hE.hT nr hE.hd hf Gt) ?_)
 rintro _ s2 ⟨rfl,dt⟩
 cases h1:o1.f2 with
 | false=>
  have l6:=abu o1 h1
  have hres:dT d a=(a+1)%3:=by unfold dT fE;rw[Gt];simp[h1]
  refine Wr (.fld rfl l6)<|Vk (k:=We<|Wm (.tmp rfl .nil) ?_)
  exact⟨by rw[hres],dt⟩
 | true=>
  have l6:=abu o1 h1
  refine Wr (.fld rfl l6)<|Vk (k:=WP.dA<|Vk (k:=?_))
  refine Vk (k:=Ww<|WS.invoke (vs:=[iv (Int.ofNat<|(a+2)%3)]) rfl (hE.hM.RD ) rfl ( Ar hE.hB hE.hC hE.hT dt hE.hd hf ho2) ?_)
  rintro _ s3 ⟨rfl,gw⟩
  cases h2:o2.f2 with
  | false=>
   have l7:=abu o2 h2
   have hres:dT d a=(a+2)%3:=by unfold dT fE;rw[Gt,ho2];simp[h1,h2]
   refine Wr (.fld rfl l7)<|Vk (k:=We<|Wm (.tmp rfl .nil) ?_)
   exact⟨by rw[hres],gw⟩
  | true=>
   have l7:=abu o2 h2
   have hres:dT d a=a:=by unfold dT fE;rw[Gt,ho2];simp[h1,h2]
   refine Wr (.fld rfl l7)<|Vk (k:=WP.dA<|Vk (k:=Wx<|Wq<|Wv rfl<|Wv rfl<|Wn<|We<|Wm (.tmp rfl .nil) ?_))
   exact⟨by rw[hres],gw⟩
theorem abB (hE:GE P K F T tF g C d)(hV:BaseE P K F T)(hf:Has bf (.r false [bu bl aZ c0 c1 c2 c3 c4 bE] 8) t){o:LD}(ho:d.pl[p]?=some o)(hs:aH bl EL d t s) :
  bB P K (F 458) [gm tF bf,iv<|.ofNat p] s (λv s'=>v=.bool (!o.f2)/\aH bl EL d t s'):=by
 refine hV.ai6.cF ?_
 unfold ahf
 have hp:=(List.getElem?_eq_some_iff.1 ho).1
 have e1:binV .geq (iv<|.ofNat p) (iv 0)=some (.bool true):=by rw[afN,decide_eq_false (by show¬(p:Int)<0;omega)];rfl
 have e2:=qb hp
 refine Vk (k:=Ww<|WS.invoke (vs:=[]) rfl (hE.hM.yd ) rfl ( tV hE.hB hE.hG hs hE.hd hf) ?_)
 rintro _ s1 ⟨rfl,nr⟩
 refine Vk (k:=Ww<|WS.invoke (vs:=[iv (Int.ofNat p)]) rfl (hE.hM.RD ) rfl ( Ar hE.hB hE.hC hE.hT nr hE.hd hf ho) ?_)
 rintro _ s2 ⟨rfl,dt⟩
 refine Vk (k:=We<|Wm (.tmp rfl .nil) ?_)
 exact⟨rfl,dt⟩
theorem abt (hX:BdX P K F T tF g C d)(hV:BaseE P K F T)(ht3:Ty1 P (T 3))(ht4:Ty1 P (T 4))(hno:∀c∈C,C5 5 3 c=false)(hf:Has bf (.r false [bu bl aZ c0 c1 c2 c3 c4 bE] 8) t)(eQ:cI t aZ C)(hs:aH bl EL d t s){p:Int} :
  bB P K (F 459) [gm tF bf,iv p] s (λv s'=>v=.tuple [iv 0,.bool false]/\aH bl EL d t s'):=by
 refine hV.ai7.cF ?_
 unfold ahg
 refine Vk (k:=λb3=>Vk (k:=?_))
 have gw:aH bl EL d ((b3,HO.r false [[iv p]] 1)::t) ((b3,HO.r false [[iv p]] 1)::s):=hs.cons
 refine Ww<|W1 (abe hX ht3 ht4 hno (.there hf) (eQ.mono λq hq=>List.mem_cons_of_mem _ hq) gw rfl) ?_
 rintro _ s4 ⟨rfl,pM⟩
 refine Vk (k:=We<|Wm (.tmp rfl<|.tmp rfl .nil) ?_)
 exact⟨rfl,pM.tail⟩
structure TOb (d:SD)(o:OD):Prop where
 i1:1<=o.id
 i2:o.id<d.nx
 bl:o.block=0
 cd:∃j:Nat,o.gE=.ofNat j/\j<6
 ow:∃p:Nat,o.owner=.ofNat p/\p<3
 ct:o.aQ=o.owner
 id:Idle o
structure TE (n f:Nat)(d:SD):Prop where
 pl:d.pl.length=3
 ev:d.kQ
 st:d.st=[]
 wa:d.wa=[]
 co:d.co=0
 oc:d.oc=0
 ob:d.ob.length<=n
 nd:(d.ob.map OD.id).Nodup
 o:∀o∈d.ob,TOb d o
 fi:∀id∈d.fi,∃o∈d.ob,o.id=id/\o.ci=2
 fn:d.fi.length<=f
 lb:∀(q:Nat)l,d.lb[q]?=some l->∀id∈l,∃o∈d.ob,o.id=id/\o.ci=0/\o.owner=.ofNat q
 hd:∀(q:Nat)l,d.hd[q]?=some l->∀id∈l,∃o∈d.ob,o.id=id/\o.ci=1/\o.owner=.ofNat q
 ls:∀LL,(LL=d.lb\/LL=d.hd\/LL=d.gr\/LL=d.ex)->∀l∈LL,l.length<=n
 nx:1<=d.nx/\d.nx<=500
 sp:0<=d.sp/\d.sp<=500
 hn:∀l∈d.hd,l.Nodup
theorem TE.small {f:Nat}(h:TE n f d)(h2:n<=500)(h3:f<=500):d.Small:=by
 have a1:=h.pl
 have a2:=h.ob
 have a3:=h.fn
 refine⟨⟨by omega,by omega,by omega,by rw[h.st];exact Nat.zero_le _,by rw[h.wa];exact Nat.zero_le _⟩,λLL hL=>⟨?_,λl hl=>Nat.le_trans (h.ls LL hL l hl)<|by omega⟩⟩
 rcases hL with rfl|rfl|rfl|rfl
 ·rw[h.ev.lb];omega
 ·rw[h.ev.hd];omega
 ·rw[h.ev.gr];omega
 ·rw[h.ev.ex];omega
theorem TE.other {f:Nat}(h:TE n f d){pl:List LD}(uA:pl.length=3){tu ac ph pr pa bl:Int}:TE n f { d with pl:=pl,tu:=tu,ac:=ac,ph:=ph,pr:=pr,pa:=pa,bl:=bl }:=
 ⟨uA,⟨h.ev.lb.trans<|h.pl.trans uA.symm,h.ev.hd.trans<|h.pl.trans uA.symm,h.ev.gr.trans<|h.pl.trans uA.symm,h.ev.ex.trans<|h.pl.trans uA.symm⟩,h.st,h.wa,h.co,h.oc,h.ob,h.nd,λo ho=>⟨(h.o o ho).i1,(h.o o ho).i2,(h.o o ho).bl,(h.o o ho).cd,(h.o o ho).ow,(h.o o ho).ct,(h.o o ho).id⟩,h.fi,h.fn,h.lb,h.hd,h.ls,h.nx,h.sp,h.hn⟩
theorem TE.obj {f:Nat}(h:TE n f d){o':OD}(xG:d.ob[i]?=some o)(h1:o'.id=o.id)(h2:o'.ci=o.ci)(h3:o'.owner=o.owner)(h4:TOb d o'):TE n f { d with ob:=d.ob.set i o' }:=by
 have hid:(d.ob.set i o').map OD.id=d.ob.map OD.id:=by
  obtain⟨k1,k2⟩:=List.getElem?_eq_some_iff.1 xG
  have h3:o'.id=(d.ob.map OD.id)[i]'(by simpa using k1):=by rw[List.getElem_map,k2,h1]
  rw[List.map_set,h3,List.set_getElem_self]
 have hto:∀{x},x∈d.ob->∃y∈d.ob.set i o',y.id=x.id/\y.ci=x.ci/\y.owner=x.owner:=λ{x} hx=>by
  obtain⟨j,hj⟩:=List.getElem?_of_mem hx
  by_cases hij:i=j
  ·subst hij
   rw[xG]at hj
   cases hj
   exact⟨o',List.mem_iff_getElem?.2 ⟨i,List.getElem?_set_self (List.getElem?_eq_some_iff.1 xG).1⟩,h1,h2,h3⟩
  ·exact⟨x,List.mem_iff_getElem?.2 ⟨j,by rw[List.getElem?_set_ne hij];exact hj⟩,rfl,rfl,rfl⟩
 refine⟨h.pl,⟨h.ev.lb,h.ev.hd,h.ev.gr,h.ev.ex⟩,h.st,h.wa,h.co,h.oc,(List.length_set ..).symm▸h.ob,by show((d.ob.set i _).map OD.id).Nodup;rw[hid];exact h.nd,λx hx=>?_,λid hx=>?_,h.fn,λq l hl id hx=>?_,λq l hl id hx=>?_,h.ls,h.nx,h.sp,h.hn⟩
 ·have key:TOb d x:=by
   rcases List.mem_or_eq_of_mem_set hx with hx|rfl
   ·exact h.o x hx
   ·exact h4
  exact⟨key.i1,key.i2,key.bl,key.cd,key.ow,key.ct,key.id⟩
 ·obtain⟨x,k1,k2,k3⟩:=h.fi id hx
  obtain⟨y,k4,k5,k6,k7⟩:=hto k1
  exact⟨y,k4,k5.trans k2,k6.trans k3⟩
 ·obtain⟨x,k1,k2,k3,k8⟩:=h.lb q l hl id hx
  obtain⟨y,k4,k5,k6,k7⟩:=hto k1
  exact⟨y,k4,k5.trans k2,k6.trans k3,k7.trans k8⟩
 ·obtain⟨x,k1,k2,k3,k8⟩:=h.hd q l hl id hx
  obtain⟨y,k4,k5,k6,k7⟩:=hto k1
  exact⟨y,k4,k5.trans k2,k6.trans k3,k7.trans k8⟩
theorem aeP {A:List (List Int)}(h:∀l∈A,l.Nodup){x:List Int}(hx:x.Nodup):∀l∈A.set p x,l.Nodup:=λl hl=>(List.mem_or_eq_of_mem_set hl).elim (h l) λe=>e▸hx
theorem TE.ahM {f:Nat}(h:TE n f d)(hi:d.find a=some i)(xG:d.ob[i]?=some o)(ho:o.owner=.ofNat p)(hp:p<3)(hz:o.ci=0):TE n f (d.left a i o.ci p)/\(d.left a i o.ci p).nx=d.nx/\(d.left a i o.ci p).fi=d.fi/\(d.left a i o.ci p).pl=d.pl/\(d.left a i o.ci p).ob=d.ob.filter λx=>!decide (x.id=a):=by
 obtain⟨o',h1,h2,h3⟩:=F8 hi
 have:=h1.symm.trans xG
 cases this
 have he:=erase_filter h.nd xG
 rw[h2]at he
 obtain⟨l,hl⟩:∃l,d.lb[p]?=some l:=⟨_,List.getElem?_eq_getElem (by rw[h.ev.lb,h.pl];exact hp)⟩
 have hL:d.left a i o.ci p={ d with lb:=d.lb.set p<|l.filter λn=>!decide (n=a),ob:=d.ob.filter λx=>!decide (x.id=a) }:=by
  rw[hz,<- he];unfold SD.left SD.ci;simp[hl]
 rw[hL]
 refine⟨?_,rfl,rfl,rfl,rfl⟩
 have hin:∀{x},x∈(d.ob.filter λx=>!decide (x.id=a))->x∈d.ob:=λhx=>(List.mem_filter.1 hx).1
 have hto:∀{x},x∈d.ob->x.id≠a->x∈(d.ob.filter λx=>!decide (x.id=a)):=λhx hh=>List.mem_filter.2 ⟨hx,by simp[hh]⟩
 have hne:∀{x},x∈d.ob->(x.ci≠0\/x.owner≠.ofNat p)->x.id≠a:=λ{x} hx hh he=>by
  have:=zt h.nd hx h3<|he.trans h2.symm
  subst this
  exact hh.elim (λh=>h hz) λh=>h ho
 refine⟨h.pl,⟨(List.length_set ..).trans h.ev.lb,h.ev.hd,h.ev.gr,h.ev.ex⟩,h.st,h.wa,h.co,h.oc,Nat.le_trans (List.length_filter_le ..) h.ob,h.nd.sublist<|List.Sublist.map _ List.filter_sublist,λx hx=>?_,λid hx=>?_,h.fn,λq m hm id hx=>?_,λq m hm id hx=>?_,λLL hL m hm=>?_,h.nx,h.sp,h.hn⟩
 ·have:=h.o x (hin hx)
  exact⟨this.i1,this.i2,this.bl,this.cd,this.ow,this.ct,this.id⟩
 ·obtain⟨x,k1,k2,k3⟩:=h.fi id hx
  exact⟨x,hto k1<|hne k1<|.inl (by rw[k3];decide),k2,k3⟩
 ·have hm:(d.lb.set p<|l.filter λn=>!decide (n=a))[q]?=some m:=hm
  by_cases hq:p=q
  ·subst hq
   rw[List.getElem?_set_self (List.getElem?_eq_some_iff.1 hl).1]at hm
   cases hm
   obtain⟨k0,k9⟩:=List.mem_filter.1 hx
   obtain⟨x,k1,k2,k3,k4⟩:=h.lb p l hl id k0
   exact⟨x,hto k1<|λhh=>by simp[<- k2,hh]at k9,k2,k3,k4⟩
  ·rw[List.getElem?_set_ne hq]at hm
   obtain⟨x,k1,k2,k3,k4⟩:=h.lb q m hm id hx
   exact⟨x,hto k1<|hne k1<|.inr λhh=>hq<|Int.ofNat.inj<|hh.symm.trans k4,k2,k3,k4⟩
 ·obtain⟨x,k1,k2,k3,k4⟩:=h.hd q m hm id hx
  exact⟨x,hto k1<|hne k1<|.inl (by rw[k3];decide),k2,k3,k4⟩
 ·have key:∀m∈d.lb.set p (l.filter λn=>!decide (n=a)),m.length<=n:=abH (h.ls _<|.inl rfl) (Nat.le_trans (List.length_filter_le ..)<|h.ls _ (.inl rfl) _<|List.mem_of_getElem? hl)
  rcases hL with rfl|rfl|rfl|rfl
  ·exact key m hm
  ·exact h.ls _ (.inr<|.inl rfl) m hm
  ·exact h.ls _ (.inr<|.inr<|.inl rfl) m hm
  ·exact h.ls _ (.inr<|.inr<|.inr rfl) m hm
theorem TE.ahN {f:Nat}(h:TE n f d)(hi:d.find a=some i)(xG:d.ob[i]?=some o)(ho:o.owner=.ofNat p)(hp:p<3)(hz:o.ci=1):TE n f (d.left a i o.ci p)/\(d.left a i o.ci p).nx=d.nx/\(d.left a i o.ci p).fi=d.fi/\(d.left a i o.ci p).pl=d.pl/\(d.left a i o.ci p).ob=d.ob.filter λx=>!decide (x.id=a):=by
 obtain⟨o',h1,h2,h3⟩:=F8 hi
 have:=h1.symm.trans xG
 cases this
 have he:=erase_filter h.nd xG
 rw[h2]at he
 obtain⟨l,hl⟩:∃l,d.hd[p]?=some l:=⟨_,List.getElem?_eq_getElem (by rw[h.ev.hd,h.pl];exact hp)⟩
 have hL:d.left a i o.ci p={ d with hd:=d.hd.set p<|l.filter λn=>!decide (n=a),ob:=d.ob.filter λx=>!decide (x.id=a) }:=by
  rw[hz,<- he];unfold SD.left SD.ci;simp[hl]
 rw[hL]
 refine⟨?_,rfl,rfl,rfl,rfl⟩
 have hin:∀{x},x∈(d.ob.filter λx=>!decide (x.id=a))->x∈d.ob:=λhx=>(List.mem_filter.1 hx).1
 have hto:∀{x},x∈d.ob->x.id≠a->x∈(d.ob.filter λx=>!decide (x.id=a)):=λhx hh=>List.mem_filter.2 ⟨hx,by simp[hh]⟩
 have hne:∀{x},x∈d.ob->(x.ci≠1\/x.owner≠.ofNat p)->x.id≠a:=λ{x} hx hh he=>by
  have:=zt h.nd hx h3<|he.trans h2.symm
  subst this
  exact hh.elim (λh=>h hz) λh=>h ho
 refine⟨h.pl,⟨h.ev.lb,(List.length_set ..).trans h.ev.hd,h.ev.gr,h.ev.ex⟩,h.st,h.wa,h.co,h.oc,Nat.le_trans (List.length_filter_le ..) h.ob,h.nd.sublist<|List.Sublist.map _ List.filter_sublist,λx hx=>?_,λid hx=>?_,h.fn,λq m hm id hx=>?_,λq m hm id hx=>?_,λLL hL m hm=>?_,h.nx,h.sp,aeP h.hn<|(h.hn _<|List.mem_of_getElem? hl).filter _⟩
 ·have:=h.o x (hin hx)
  exact⟨this.i1,this.i2,this.bl,this.cd,this.ow,this.ct,this.id⟩
 ·obtain⟨x,k1,k2,k3⟩:=h.fi id hx
  exact⟨x,hto k1<|hne k1<|.inl (by rw[k3];decide),k2,k3⟩
 ·obtain⟨x,k1,k2,k3,k4⟩:=h.lb q m hm id hx
  exact⟨x,hto k1<|hne k1<|.inl (by rw[k3];decide),k2,k3,k4⟩
 ·have hm:(d.hd.set p<|l.filter λn=>!decide (n=a))[q]?=some m:=hm
  by_cases hq:p=q
  ·subst hq
   rw[List.getElem?_set_self (List.getElem?_eq_some_iff.1 hl).1]at hm
   cases hm
   obtain⟨k0,k9⟩:=List.mem_filter.1 hx
   obtain⟨x,k1,k2,k3,k4⟩:=h.hd p l hl id k0
   exact⟨x,hto k1<|λhh=>by simp[<- k2,hh]at k9,k2,k3,k4⟩
  ·rw[List.getElem?_set_ne hq]at hm
   obtain⟨x,k1,k2,k3,k4⟩:=h.hd q m hm id hx
   exact⟨x,hto k1<|hne k1<|.inr λhh=>hq<|Int.ofNat.inj<|hh.symm.trans k4,k2,k3,k4⟩
 ·have key:∀m∈d.hd.set p (l.filter λn=>!decide (n=a)),m.length<=n:=abH (h.ls _<|.inr<|.inl rfl) (Nat.le_trans (List.length_filter_le ..)<|h.ls _ (.inr<|.inl rfl) _<|List.mem_of_getElem? hl)
  rcases hL with rfl|rfl|rfl|rfl
  ·exact h.ls _ (.inl rfl) m hm
  ·exact key m hm
  ·exact h.ls _ (.inr<|.inr<|.inl rfl) m hm
  ·exact h.ls _ (.inr<|.inr<|.inr rfl) m hm
theorem TE.ahh {f:Nat}(h:TE n f d)(hp:p<3)(ho:o.owner=.ofNat p)(hc:∃j:Nat,o.gE=.ofNat j/\j<6)(hx:d.nx<500):TE (n+1) f (d.add (pX o 1) p)/\(d.add (pX o 1) p).nx=d.nx+1/\(d.add (pX o 1) p).fi=d.fi/\(d.add (pX o 1) p).pl=d.pl/\(d.add (pX o 1) p).ob=d.ob++[(pX o 1).new1 d.nx]:=by
 obtain⟨l,hl⟩:∃l,d.hd[p]?=some l:=⟨_,List.getElem?_eq_getElem (by rw[h.ev.hd,h.pl];exact hp)⟩
 have hL:d.add (pX o 1) p={ d with nx:=d.nx+1,ob:=d.ob++[(pX o 1).new1 d.nx],hd:=d.hd.set p (l++[d.nx]) }:=by
  simp[SD.add,SD.ci,pX,SD.xR,SD.obs,hl,OD.new1]
 rw[hL]
 refine⟨?_,rfl,rfl,rfl,rfl⟩
 have a1:=h.nx
 refine⟨h.pl,⟨h.ev.lb,(List.length_set ..).trans h.ev.hd,h.ev.gr,h.ev.ex⟩,h.st,h.wa,h.co,h.oc,?_,?_,λx hx=>?_,λid hx=>?_,h.fn,λq m hm id hx=>?_,λq m hm id hx=>?_,λLL hL m hm=>?_,⟨by show 1<=d.nx+1;omega,by show d.nx+1<=_;omega⟩,h.sp,aeP h.hn<|List.nodup_append.2 ⟨h.hn _<|List.mem_of_getElem? hl,by simp,λx hx y hy hh=>?_⟩⟩
 ·show(d.ob++[_]).length<=_
  rw[List.length_append,List.length_singleton]
  exact Nat.add_le_add_right h.ob 1
 ·show((d.ob++[_]).map OD.id).Nodup
  rw[List.map_append]
  refine List.nodup_append.2 ⟨h.nd,by simp,λx hx y hy hh=>?_⟩
  obtain⟨o,ho,rfl⟩:=List.mem_map.1 hx
  have:=(h.o o ho).i2
  rw[List.mem_singleton.1 hy]at hh
  have:o.id=d.nx:=hh
  omega
 ·rcases List.mem_append.1 hx with hx | hx
  ·have:=h.o x hx
   exact⟨this.i1,Int.lt_add_one_of_le<|Int.le_of_lt this.i2,this.bl,this.cd,this.ow,this.ct,this.id⟩
  ·rw[List.mem_singleton.1 hx]
   exact⟨a1.1,by show d.nx<d.nx+1;omega,rfl,hc,⟨p,ho,hp⟩,rfl,⟨rfl,rfl,rfl,rfl⟩⟩
 ·obtain⟨x,k1,k2⟩:=h.fi id hx
  exact⟨x,List.mem_append_left _ k1,k2⟩
 ·obtain⟨x,k1,k2,k3⟩:=h.lb q m hm id hx
  exact⟨x,List.mem_append_left _ k1,k2,k3⟩
 ·have hm:(d.hd.set p<|l++[d.nx])[q]?=some m:=hm
  by_cases hq:p=q
  ·subst hq
   rw[List.getElem?_set_self (List.getElem?_eq_some_iff.1 hl).1]at hm
   cases hm
   rcases List.mem_append.1 hx with hx|hx
   ·obtain⟨x,k1,k2,k3⟩:=h.hd p l hl id hx
    exact⟨x,List.mem_append_left _ k1,k2,k3⟩
   ·exact⟨_,List.mem_append_right _<|List.mem_singleton.2 rfl,(List.mem_singleton.1 hx).symm,rfl,ho⟩
  ·rw[List.getElem?_set_ne hq]at hm
   obtain⟨x,k1,k2,k3⟩:=h.hd q m hm id hx
   exact⟨x,List.mem_append_left _ k1,k2,k3⟩
 ·have up:∀{A:List (List Int)},(∀l∈A,l.length<=n)->∀l∈A,l.length<=n+1:=λhA l hl=>Nat.le_succ_of_le (hA l hl)
  have key:∀m∈d.hd.set p (l++[d.nx]),m.length<=n+1:=abH (up<|h.ls _<|.inr<|.inl rfl) (by rw[List.length_append,List.length_singleton];exact Nat.add_le_add_right (h.ls _ (.inr<|.inl rfl) _<|List.mem_of_getElem? hl) 1)
  rcases hL with rfl|rfl|rfl|rfl
  ·exact up (h.ls _<|.inl rfl) m hm
  ·exact key m hm
  ·exact up (h.ls _<|.inr<|.inr<|.inl rfl) m hm
  ·exact up (h.ls _<|.inr<|.inr<|.inr rfl) m hm
 ·obtain⟨x2,k1,k2,k3⟩:=h.hd p l hl x hx
  have:=(h.o x2 k1).i2
  have e:y=d.nx:=List.mem_singleton.1 hy
  omega
theorem TE.aiL {f:Nat}(h:TE n f d)(hp:p<3)(ho:o.owner=.ofNat p)(hc:∃j:Nat,o.gE=.ofNat j/\j<6)(hx:d.nx<500):TE (n+1) f (d.add (pX o 3) p)/\(d.add (pX o 3) p).nx=d.nx+1/\(d.add (pX o 3) p).fi=d.fi/\(d.add (pX o 3) p).pl=d.pl/\(d.add (pX o 3) p).ob=d.ob++[(pX o 3).new1 d.nx]:=by
 obtain⟨l,hl⟩:∃l,d.gr[p]?=some l:=⟨_,List.getElem?_eq_getElem (by rw[h.ev.gr,h.pl];exact hp)⟩
 have hL:d.add (pX o 3) p={ d with nx:=d.nx+1,ob:=d.ob++[(pX o 3).new1 d.nx],gr:=d.gr.set p (l++[d.nx]) }:=by
  simp[SD.add,SD.ci,pX,SD.xR,SD.obs,hl,OD.new1]
 rw[hL]
 refine⟨?_,rfl,rfl,rfl,rfl⟩
 have a1:=h.nx
 refine⟨h.pl,⟨h.ev.lb,h.ev.hd,(List.length_set ..).trans h.ev.gr,h.ev.ex⟩,h.st,h.wa,h.co,h.oc,?_,?_,λx hx=>?_,λid hx=>?_,h.fn,λq m hm id hx=>?_,λq m hm id hx=>?_,λLL hL m hm=>?_,⟨by show 1<=d.nx+1;omega,by show d.nx+1<=_;omega⟩,h.sp,h.hn⟩
 ·show(d.ob++[_]).length<=_
  rw[List.length_append,List.length_singleton]
  exact Nat.add_le_add_right h.ob 1
 ·show((d.ob++[_]).map OD.id).Nodup
  rw[List.map_append]
  refine List.nodup_append.2 ⟨h.nd,by simp,λx hx y hy hh=>?_⟩
  obtain⟨o,ho,rfl⟩:=List.mem_map.1 hx
  have:=(h.o o ho).i2
  rw[List.mem_singleton.1 hy]at hh
  have:o.id=d.nx:=hh
  omega
 ·rcases List.mem_append.1 hx with hx | hx
  ·have:=h.o x hx
   exact⟨this.i1,Int.lt_add_one_of_le<|Int.le_of_lt this.i2,this.bl,this.cd,this.ow,this.ct,this.id⟩
  ·rw[List.mem_singleton.1 hx]
   exact⟨a1.1,by show d.nx<d.nx+1;omega,rfl,hc,⟨p,ho,hp⟩,rfl,⟨rfl,rfl,rfl,rfl⟩⟩
 ·obtain⟨x,k1,k2⟩:=h.fi id hx
  exact⟨x,List.mem_append_left _ k1,k2⟩
 ·obtain⟨x,k1,k2,k3⟩:=h.lb q m hm id hx
  exact⟨x,List.mem_append_left _ k1,k2,k3⟩
 ·obtain⟨x,k1,k2,k3⟩:=h.hd q m hm id hx
  exact⟨x,List.mem_append_left _ k1,k2,k3⟩
 ·have up:∀{A:List (List Int)},(∀l∈A,l.length<=n)->∀l∈A,l.length<=n+1:=λhA l hl=>Nat.le_succ_of_le (hA l hl)
  have key:∀m∈d.gr.set p (l++[d.nx]),m.length<=n+1:=abH (up<|h.ls _<|.inr<|.inr<|.inl rfl) (by rw[List.length_append,List.length_singleton];exact Nat.add_le_add_right (h.ls _ (.inr<|.inr<|.inl rfl) _<|List.mem_of_getElem? hl) 1)
  rcases hL with rfl|rfl|rfl|rfl
  ·exact up (h.ls _<|.inl rfl) m hm
  ·exact up (h.ls _<|.inr<|.inl rfl) m hm
  ·exact key m hm
  ·exact up (h.ls _<|.inr<|.inr<|.inr rfl) m hm
structure acP (P:Program)(K:Orc)(F:Nat->FuncId):Prop where
 tap:∀(a n:Int)s,1<=a->a<=1000->n=0\/n=1->bB P K (F 201) [.agg (evRow 3 a 0 n 0 Az)] s (λv s'=>v=iv 0/\s'=s)
 sick:∀(a:Int)s,1<=a->a<=1000->bB P K (F 201) [.agg (evRow 4 a 0 0 0 Az)] s (λv s'=>v=iv 0/\s'=s)
 mana:∀(p j:Nat)(n:Int)s,p<3->j<4->-999<=n->n<=999->bB P K (F 201) [.agg (evRow 8 (.ofNat p) (.ofNat j) n 0 Az)] s (λv s'=>v=iv 0/\s'=s)
 move:∀(a z:Int)s,1<=a->a<=1000->z=1\/z=3->bB P K (F 201) [.agg (evRow 2 a z 0 0 Az)] s (λv s'=>v=iv 0/\s'=s)
 empty:∀(p:Nat)s,p<3->bB P K (F 201) [.agg (evRow 24 (.ofNat p) 0 0 0 Az)] s (λv s'=>v=iv 0/\s'=s)
 phase:∀(p:Nat)s,p<10->bB P K (F 201) [.agg (evRow 19 (.ofNat p) 0 0 0 Az)] s (λv s'=>v=iv 0/\s'=s)
 prio:∀(p:Nat)s,p<3->bB P K (F 201) [.agg (evRow 21 (.ofNat p) 0 0 0 Az)] s (λv s'=>v=iv 0/\s'=s)
 blocker:∀s,bB P K (F 201) [.agg (evRow 22 1 0 0 0 Az)] s<|λv s'=>v=iv 0/\s'=s
 turn:∀(p:Nat)s,p<3->bB P K (F 201) [.agg (evRow 20 (.ofNat p) 0 0 0 Az)] s (λv s'=>v=iv 0/\s'=s)
 new:∀(p c z:Nat)s,p<3->c<6->z<2->bB P K (F 201) [.agg (evRow 1 (.ofNat p) (.ofNat c) (.ofNat<|1+z) 0 Az)] s (λv s'=>v=iv 0/\s'=s)
 lose:∀s,bB P K (F 201) [.agg (evRow 23 (.ofNat 1) 0 0 0 Az)] s<|λv s'=>v=iv 0/\s'=s
 wait:∀(c o k a:Int)s,0<=c/\c<=2->0<=o/\o<=1000->0<=k/\k<=5->0<=a/\a<=3->bB P K (F 201) [.agg (evRow 17 0 0 0 0 ⟨0,3,c,o,k,a⟩)] s (λv s'=>v=iv 0/\s'=s)
def PlK (A B:List LD):Prop:=∀p:Nat,(A[p]?.map λo=>(o.f1,o.f2,o.m0,o.m1,o.m2,o.m3))=B[p]?.map λo=>(o.f1,o.f2,o.m0,o.m1,o.m2,o.m3)
theorem PlK.refl (A:List LD):PlK A A:=λ_=>rfl
variable {A:List LD}
theorem PlK.trans {B C:List LD}(h:PlK A B)(h2:PlK B C):PlK A C:=λp=>(h p).trans (h2 p)
theorem PlK.set {o o':LD}(h:A[p]?=some o)(h2:(o'.f1,o'.f2,o'.m0,o'.m1,o'.m2,o'.m3)=(o.f1,o.f2,o.m0,o.m1,o.m2,o.m3)):PlK A (A.set p o'):=λq=>by
 by_cases hq:p=q
 ·subst hq
  rw[h,List.getElem?_set_self (List.getElem?_eq_some_iff.1 h).1]
  exact congrArg some h2.symm
 ·rw[List.getElem?_set_ne hq]
structure NEnv (P:Program)(K:Orc)(F:Nat->FuncId)(T:Nat->TypeId)(tF:TypeId):Prop where
 hB:Base P K F T
 hC:BaseC P K F T
 hG:BaseG P K F T
 hT:TyC P T
 hM:gA P F tF
 hU:BaseU P K F T
 hI:BaseB P K F T
 info:meth P tF "Info"=some (F 58)
 t128:Ty P (T 128) 13
 hQ:BaseQ P K F T
 hv:meth P tF "Having"=some (F 346)
 bm:afw P F tF
 hS:BaseS P K F T
 hL:BaseL P K F T
 it:BaseI P K F T
 hR:BaseR P K F T
 hX:BaseX P K F T
 mv:BaseM P K F T
 hV:BaseE P K F T
 hW:BaseT P K F T
 hY:BaseY P K F T
 hH:BaseP P K F T
 t3:Ty1 P (T 3)
 t4:Ty1 P (T 4)
 t24:Ty P (T 24) 5
 says:acP P K F
structure gK (C:List CD):Prop where
 n:C.length=6
 st:∀c∈C,∀x∈c.ab,x.kind≠4
 rp:∀c∈C,C5 5 3 c=false
 dr:∀c∈C,C5 3 5 c=false
 R8:∀c∈C,c.ab.length<=4
 who:∀c∈C,∀a∈c.ab,a.who=0\/a.who=1\/a.who=2
end
section
variable {P:Program}{K:Orc}{F:Nat->FuncId}{T:Nat->TypeId}{tF:TypeId}{C:List CD}{n f:Nat}{d:SD}
theorem TE.all (h:TE n f d):∀id∈d.fi,∃o,d.obj id=some o:=λid hid=>by
 obtain⟨o,h1,h2,_⟩:=h.fi id hid
 exact⟨o,h2▸aeJ h.nd h1⟩
theorem TE.ge (N:NEnv P K F T tF)(hP:gK C)(h:TE n f d)(h2:n<=500)(h3:f<=90):GE P K F T tF (λ_ c=>c) C d where
 hB:=N.hB
 hC:=N.hC
 hG:=N.hG
 hT:=N.hT
 hM:=N.hM
 hU:=N.hU
 hI:=N.hI
 info:=N.info
 t128:=N.t128
 hd:=h.small h2<|by omega
 he:=h.ev
 hO:=aee hP.st λo ho=>by rw[hP.n];exact(h.o o ho).cd
theorem TE.bdx (N:NEnv P K F T tF)(hP:gK C)(h:TE n f d)(h2:n<=500)(h3:f<=90):BdX P K F T tF (λ_ c=>c) C d where
 hE:=h.ge N hP h2 h3
 hQ:=N.hQ
 hv:=N.hv
 do_:=N.bm.do_
 cd o ho:=by rw[hP.n];exact(h.o o ho).cd
 all:=h.all
variable {z:Int}{p:Nat}
theorem abo {lst:List Int}{put:List Int->SD}(hz:d.ci z p=some (lst,put))(l:List Int):(put l).tu=d.tu/\(put l).ac=d.ac/\(put l).ph=d.ph:=by
 unfold SD.ci at hz
 repeat' split at hz
 all_goals first | (cases hz;done) | (cases hz;exact⟨rfl,rfl,rfl⟩) | (obtain⟨l,_,h2⟩:=Option.map_eq_some_iff.1 hz;cases h2;exact⟨rfl,rfl,rfl⟩)
theorem adK (d:SD)(a:Int)(i:Nat)(z:Int)(p:Nat):(d.left a i z p).tu=d.tu/\(d.left a i z p).ac=d.ac/\(d.left a i z p).ph=d.ph:=by
 unfold SD.left
 cases hz:d.ci z p with
 | none=>exact⟨rfl,rfl,rfl⟩
 | some x=>
  obtain⟨lst,put⟩:=x
  exact abo hz<|lst.filter λn=>!decide (n=a)
variable {o:OD}
theorem ad2 (d:SD)(h:o.ci≠2)(p:Nat):(d.add o p).tu=d.tu/\(d.add o p).ac=d.ac/\(d.add o p).ph=d.ph:=by
 unfold SD.add
 rw[if_neg h]
 cases hz:(d.xR.obs<|o.new1 d.nx).ci o.ci p with
 | none=>exact⟨rfl,rfl,rfl⟩
 | some x=>
  obtain⟨lst,put⟩:=x
  exact abo hz<|lst++[d.nx]
theorem TE.mono {n':Nat}(h:TE n f d)(h1:n<=n'):TE n' f d:=
 ⟨h.pl,h.ev,h.st,h.wa,h.co,h.oc,Nat.le_trans h.ob h1,h.nd,h.o,h.fi,h.fn,h.lb,h.hd,λLL hL l hl=>Nat.le_trans (h.ls LL hL l hl) h1,h.nx,h.sp,h.hn⟩
structure adh (n f:Nat)(d D:SD):Prop where
 te:TE n f D
 pl:PlK d.pl D.pl
 tu:D.tu=d.tu
 ac:D.ac=d.ac
 ph:D.ph=d.ph
 nx:D.nx<=d.nx+1
variable {rd:Option Nat}{nt:Nat}{l:Sl}{ds:List aD}{s:SH}{Q:Po}{Qn:Po}{Qr:Po}{Qe:Nat->Po}{bf:Nat}{bl:Nat}{aZ:AV}{bE:AV}{c0:Int}{c1:Int}{c2:Int}{c3:Int}{c4:Int}{EL:List (List AV)}{t:SH}
variable {name:String}{x:Operand}{ty:TypeId}{v:AV}
theorem WR.mkmf (hx:opl l x=some (.iface ty v)):WR P (.mkmf name x) l s (.mfunc name (.iface ty v)):=
 WR.mk' (λ_ _ _ _ _=>rfl) (λe H he=>by simp only[aval,aG he hx])
theorem WR.afq {fn:FuncId}(hx:opl l x=some (.mfunc name (.iface ty v)))(hm:meth P ty name=some fn):WR P (.nilchk x) l s (.mfunc name (.iface ty v)):=
 WR.mk' (λ_ _ _ _ _=>rfl) (λe H he=>by simp only[aval,aG he hx,hm])
variable {a:Int}
theorem ac4 (N:NEnv P K F T tF)(h:TE n f d)(hn:n<=400)(cM:f<=90)(hp:p<3)(ho:o∈d.ob)(hid:o.id=a)(hw:o.owner=.ofNat p)(zI:o.ci=0/\z=1\/o.ci=1/\z=3)(YI:d.nx<=400)(hf:Has bf (.r false [bu bl aZ c0 c1 c2 c3 c4 bE] 8) t)(hE:EL.length<=4000)(hs:aH bl EL d t s) :
  bB P K (F 15) [.ptr (some ⟨bf,0,0⟩),.agg<|evRow 2 a z 0 0 Az] s (λv s'=>∃E2 D2,E2.length=EL.length+1/\(∃x,v=iv x)/\adh (n+1) f d D2/\(∀x∈d.ob,x.id≠a->x∈D2.ob)/\aH bl E2 D2 t s'):=by
 obtain⟨i,hi⟩:=aah ho
 rw[hid]at hi
 obtain⟨o',h1,h2,h3⟩:=F8 hi
 have:=zt h.nd h3 ho<|h2.trans hid.symm
 subst this
 have hO:=h.o _ ho
 have vj:=h.small (by omega)<|by omega
 have UO:p<d.pl.length:=by rw[h.pl];exact hp
 have i1:=hO.i1
 have i2:=hO.i2
 have sp:=h.sp
 have n1:=h.nx
 have lm:∀s,bB P K (F 201) [.agg (evRow 2 a z 0 0 Az)] s (λv s'=>v=iv 0/\s'=s):=λs=>N.says.move a z s (hid▸i1) (hid▸by omega)<|zI.elim (λh=>.inl h.2) λh=>.inr h.2
 have ap:Ap P K F 2 a z 0 0 Az d ((d.left a i o'.ci p).add (pX o' z) p):=ack N.hB N.mv (m:=0) (it:=Az) vj h.ev hi h1 UO hw h.st h.wa (by rw[h.co,<- hid];omega) (λx hx=>by rw[(h.o x hx).bl,<- hid];omega) ⟨by omega,by omega⟩ ⟨by omega,by omega⟩ lm
 have key:adh (n+1) f d ((d.left a i o'.ci p).add (pX o' z) p)/\∀x∈d.ob,x.id≠a->x∈((d.left a i o'.ci p).add (pX o' z) p).ob:=by
  have r1:=adK d a i o'.ci p
  have pN:(pX o' z).ci≠2:=by show z≠2;rcases zI with⟨_,rfl⟩ | ⟨_,rfl⟩<;>decide
  have r2:=ad2 (d.left a i o'.ci p) pN p
  rcases zI with⟨hz,rfl⟩|⟨hz,rfl⟩
  ·obtain⟨t1,e1,_,e3,e4⟩:=h.ahM hi h1 hw hp hz
   obtain⟨t2,f1,_,f3,f4⟩:=t1.ahh hp hw hO.cd (by rw[e1];omega)
   exact⟨⟨t2,by rw[f3,e3];exact .refl _,r2.1.trans r1.1,r2.2.1.trans r1.2.1,r2.2.2.trans r1.2.2,by rw[f1,e1];exact Int.le_refl _⟩,λx hx hh=>by rw[f4,e4];exact List.mem_append_left _<|List.mem_filter.2 ⟨hx,by simp[hh]⟩⟩
  ·obtain⟨t1,e1,_,e3,e4⟩:=h.ahN hi h1 hw hp hz
   obtain⟨t2,f1,_,f3,f4⟩:=t1.aiL hp hw hO.cd (by rw[e1];omega)
   exact⟨⟨t2,by rw[f3,e3];exact .refl _,r2.1.trans r1.1,r2.2.1.trans r1.2.1,r2.2.2.trans r1.2.2,by rw[f1,e1];exact Int.le_refl _⟩,λx hx hh=>by rw[f4,e4];exact List.mem_append_left _<|List.mem_filter.2 ⟨hx,by simp[hh]⟩⟩
 have k2:=key.1.te.nx
 refine(sP N.hB hs vj hf (by omega) ap (key.1.te.small (by omega)<|by omega) ⟨k2.1,by omega⟩).post ?_
 rintro _ s2 ⟨hv,dt⟩
 exact⟨_,_,by rw[List.length_append,List.length_singleton],⟨_,hv⟩,key.1,key.2,dt⟩
theorem acs (N:NEnv P K F T tF)(hP:gK C)(h:TE n f d)(hn:n<=400)(cM:f<=90)(hp:p<3)(YI:d.nx<=400)(hf:Has bf (.r false [bu bl aZ c0 c1 c2 c3 c4 bE] 8) t)(eQ:cI t aZ C)(hE:EL.length<=4000)(hs:aH bl EL d t s) :
  bB P K (F 445) [gm tF bf,iv<|.ofNat p] s (λ_ s'=>∃E2 D2,E2.length<=EL.length+1/\adh (n+1) f d D2/\aH bl E2 D2 t s'):=by
 have hge:=h.ge N hP (by omega) cM
 have hbd:=h.bdx N hP (by omega) cM
 obtain⟨o,ho⟩:∃o,d.pl[p]?=some o:=⟨_,List.getElem?_eq_getElem (by rw[h.pl];exact hp)⟩
 obtain⟨lst,hl⟩:∃l,d.lb[p]?=some l:=⟨_,List.getElem?_eq_getElem (by rw[h.ev.lb,h.pl];exact hp)⟩
 have same:adh (n+1) f d d:=⟨h.mono<|Nat.le_succ _,.refl _,rfl,rfl,rfl,by omega⟩
 refine N.hV.ai3.cF ?_
 unfold ahc
 refine Vk (k:=Ww<|W1 (abB hge N.hV hf ho hs) ?_)
 rintro _ s1 ⟨rfl,nr⟩
 cases UC:o.f2 with
 | true=>
  refine Vk (k:=We<|Wm .nil ?_)
  exact⟨EL,d,by omega,same,nr⟩
 | false=>
  refine Vk (k:=Ww<|W1 (abt hbd N.hV N.t3 N.t4 hP.rp hf eQ nr) ?_)
  rintro _ s2 ⟨rfl,dt⟩
  refine Vk (k:=?_)
  have hzl:d.ci 0 p=some (lst,λl'=>{ d with lb:=d.lb.set p l' }):=by unfold SD.ci;rw[if_neg (by decide),if_pos rfl,hl];rfl
  have hll:lst.length<=400:=Nat.le_trans (h.ls _ (.inl rfl) _<|List.mem_of_getElem? hl) hn
  refine Ww<|WS.invoke (vs:=[AV.int IntKind.i64 (Int.ofNat 0),iv<|Int.ofNat p]) rfl (N.hM.ci ) rfl ( afv N.hB N.hC dt hge.hd h.ev hf (by rw[h.pl];exact hp) hzl (by omega)) ?_
  rintro v s3 ⟨m,gw,hv⟩
  have lv:lenOf v=some lst.length:=by rw[hv.lenOf,gq]
  by_cases h0:lst.length=0
  ·have e32:eqBy 20 .pi (iv<|.ofNat lst.length) (iv 0)=some true:=by rw[cD,h0];rfl
   refine Vk (k:=?_)
   refine Ww<|WS.invoke (vs:=[iv (Int.ofNat p)]) rfl (N.hM.RD ) rfl ( Ar N.hB N.hC N.hT gw hge.hd (.app hf) ho) ?_
   rintro _ s4 ⟨rfl,pM⟩
   cases hem:o.f3 with
   | true=>
    have l7:part false o.row 7 1=some (.bool true):=by show some (AV.bool o.f3)=_;rw[hem]
    refine Wr (.fld rfl l7)<|Vk (k:=We<|Wm .nil ?_)
    exact⟨EL,d,by omega,same,pM.fb⟩
   | false=>
    have l7:part false o.row 7 1=some (.bool false):=by show some (AV.bool o.f3)=_;rw[hem]
    refine Wr (.fld rfl l7)<|Vk (k:=Wr (.build (cs:=evRow (Int.ofNat 24) (Int.ofNat p) 0 0 0 Az) rfl rfl) ?_)
    refine Ww<|WS.invoke (vs:=[AV.agg (evRow (Int.ofNat 24) (Int.ofNat p) 0 0 0 Az)]) rfl (N.bm.do_ ) rfl ( Cl N.hB pM hge.hd (.app hf) (by omega) (by decide) (by decide) (by decide) (by decide) (acj N.hB N.hL.f264 N.hR hge.hd h.ev ho λs=>N.says.empty p s hp)) ?_
    rintro _ s5 ⟨_,tn⟩
    refine Wn<|We<|Wm .nil ?_
    refine⟨EL++[evRow 24 (.ofNat p) 0 0 0 Az],{ d with pl:=d.pl.set p { o with f3:=true } },by rw[List.length_append,List.length_singleton];exact Nat.le_refl _,⟨(h.other (by rw[List.length_set];exact h.pl)).mono (Nat.le_succ _),.set ho rfl,rfl,rfl,rfl,by show d.nx<=d.nx+1;omega⟩,tn.fb⟩
  ·have e32:eqBy 20 .pi (iv<|.ofNat lst.length) (iv<|.ofNat 0)=some false:=by rw[cD,decide_eq_false<|λhh=>h0<|Int.ofNat.inj hh]
   obtain⟨q,hq⟩:∃q,lst.length=q+1:=⟨lst.length-1,by omega⟩
   have e46:binV .sub (iv<|.ofNat lst.length) (iv<|.ofNat 1)=some (iv<|.ofNat q):=by rw[hq];exact Ka<|by omega
   have hlt:q<lst.length:=by omega
   obtain⟨ba,ra,na,ca,J5,Sp,Ma,rfl,hba,me,hra⟩:=hv.at (i:=q) (by rw[gq];exact hlt)
   rw[Qp hlt]at hra
   obtain⟨x,x1,x2,x3,x4⟩:=h.lb p lst hl _<|List.getElem_mem hlt
   generalize lst[q]=id at hra x2
   have adE:=gw.mem<|.left hba
   refine Vk (k:=WP.bD<|Dp (.mv rfl)<|Dp (.mv rfl)<|Dp (.mv rfl)<|Dp (.lenS rfl lv)<|Dp (.arith rfl rfl e46)<|Dp (.iaddrS rfl rfl (by omega)<|by decide)<|Dl rfl .nil (.load rfl adE hra rfl rfl)<|Dp (.build (cs:=evRow (Int.ofNat 2) id (Int.ofNat 1) 0 0 Az) rfl rfl)<|Dp (.mkmf rfl)<|Dp (.afq rfl N.bm.do_)<|Dp (.mv rfl) ?_)
   refine Dc .nil<|WS.invoke (vs:=[AV.agg (evRow (Int.ofNat 2) id (Int.ofNat 1) 0 0 Az)]) rfl (N.bm.do_ ) rfl ( ac4 (z:=1) N h hn cM hp x1 x2 x4 (.inl ⟨x3,rfl⟩) YI (.app hf) hE gw) ?_
   rintro _ s4 ⟨E2,D2,k1,⟨w,rfl⟩,k2,_,pM⟩
   have ajh:=k2.te.bdx N hP (by omega) cM
   have hno:N9 w (.ofNat p) (aae 3 5 D2 C<|aaF 5 D2 C)=[]:=by
    unfold aaF
    rw[ac1 hP.dr]
    rfl
   refine Dp (.mv rfl)<|D0 .nil (Vk (k:=?_))<|λo h=>nomatch h
   refine Ww<|W1 (aa3 (J:=λ_ E D=>E=E2/\D=D2) (L:=[]) ajh (.app hf) (eQ.mono λq hq=>List.mem_append_right _ hq) pM hP.R8 hP.who (Nat.le_trans k2.te.fn cM) rfl rfl hno (Nat.zero_le _) ⟨rfl,rfl⟩<|λm q it EL1 d1 s1 h=>nomatch h) ?_
   rintro _ s5 ⟨_,_,⟨rfl,rfl⟩,tn⟩
   refine Wn<|Wm .nil ?_
   exact⟨_,_,by omega,k2,tn.fb⟩
variable {k m:Int}{R:SH->Prop}
theorem agw (hV:BaseE P K F T)(hM:afw P F tF)(h:∀b4,bB P K (F 15) [.ptr (some ⟨bf,0,0⟩),.agg (evRow k a 0 m 0 Az)] ((b4,.r false [[.iface tF (.ptr (some ⟨bf,0,0⟩))]] 1)::s) (λ_ s'=>R s')) :
  bB P K (F 185) [.agg [.iface tF (.ptr<|some ⟨bf,0,0⟩)],iv k,iv a,iv m] s (λ_ s'=>R s'):=by
 refine hV.f185.cF ?_
 unfold agZ
 refine Vk (k:=λb4=>Vk (k:=Wr (.build rfl rfl)<|Ww<|WS.invoke (vs:=[.agg (evRow k a 0 m 0 Az)]) rfl hM.do_ rfl (h b4) ?_))
 intro w s2 hR
 exact Wn<|Wm .nil hR
structure DoT (P:Program)(K:Orc)(F:Nat->FuncId)(tF:TypeId)(k a m:Int)(d D:SD):Prop where
 go:∀{bf bl:Nat}{aZ bE:AV}{c0 c1 c2 c3 c4:Int}{EL:List (List AV)}{t s:SH},Has bf (.r false [bu bl aZ c0 c1 c2 c3 c4 bE] 8) t->EL.length<=4000->aH bl EL d t s ->
  bB P K (F 185) [.agg [gm tF bf],iv k,iv a,iv m] s (λ_ s'=>aH bl (EL++[evRow k a 0 m 0 Az]) D t s')
variable {D:SD}
theorem aam (N:NEnv P K F T tF)(vj:d.Small)(k1:k≠1)(k2:k≠2)(k15:k≠15)(k17:k≠17)(hap:Ap P K F k a 0 m 0 Az d D):DoT P K F tF k a m d D:=
 ⟨λhf hE hs=>agw N.hV N.bm λb4=>(Cl N.hB (aH.bK (m:=[_]) hs) vj hf (Nat.le_trans hE<|by omega) k1 k2 k15 k17 hap).post λv s' hh=>hh.2⟩
theorem acb (N:NEnv P K F T tF)(h:TE n f d)(hn:n<=400)(cM:f<=90)(hp:p<3):DoT P K F tF 21 (.ofNat p) 0 d { d with pr:=.ofNat p,pa:=0 }:=by
 have vj:=h.small (by omega)<|by omega
 have UO:p<d.pl.length:=by rw[h.pl];exact hp
 exact aam N vj (by decide) (by decide) (by decide) (by decide) (abi N.hB N.hR vj h.ev UO (N.says.prio p · hp))
theorem ab9 (N:NEnv P K F T tF)(h:TE n f d)(hn:n<=400)(cM:f<=90):DoT P K F tF 22 1 0 d { d with bl:=1 }:=by
 have vj:=h.small (by omega)<|by omega
 exact aam N vj (by decide) (by decide) (by decide) (by decide) (abq N.hB N.hW.f281 vj h.ev (N.says.blocker ·))
theorem TG (N:NEnv P K F T tF)(h:TE n f d)(hn:n<=400)(cM:f<=90)(hp:p<10):DoT P K F tF 19 (.ofNat p) 0 d { d with ph:=.ofNat p }:=by
 have vj:=h.small (by omega)<|by omega
 exact aam N vj (by decide) (by decide) (by decide) (by decide) (aaM N.hB N.hW.f280 vj h.ev (N.says.phase p · hp))
theorem aca (N:NEnv P K F T tF)(h:TE n f d)(hn:n<=400)(cM:f<=90){j:Nat}(hp:p<3)(hj:j<4){o:LD}(ho:d.pl[p]?=some o)(hb:0<=o.mn j+m/\o.mn j+m<=999)(hm:-999<=m/\m<=999):Ap P K F 8 (.ofNat p) (.ofNat j) m 0 Az d { d with pl:=d.pl.set p (o.aaH j (o.mn j+m)) }:=by
 have vj:=h.small (by omega)<|by omega
 intro pv ov lv hv gv ev fv sv wv
 exact adn N.hB N.hL.f264 N.hR vj h.ev ho hj hb (N.says.mana p j m · hp hj hm.1 hm.2)
variable {i:Nat}
theorem adb (N:NEnv P K F T tF)(h:TE n f d)(hn:n<=400)(cM:f<=90)(ho:d.ob[i]?=some o)(hz:o.ci=2)(hi:d.find o.id=some i):DoT P K F tF 3 o.id 0 d { d with ob:=d.ob.set i { o with RU:=false } }:=by
 have vj:=h.small (by omega)<|by omega
 have hO:=h.o _<|List.mem_of_getElem? ho
 have i1:=hO.i1
 have i2:=hO.i2
 have n1:=h.nx
 exact aam N vj (by decide) (by decide) (by decide) (by decide) (aaz (k:=3) N.hB N.hX vj h.ev (.inl ⟨rfl,rfl⟩) hi ho hz (λhu hr=>(abn N.hX hu hr)) (N.says.tap o.id 0 · i1 (by omega) (.inl rfl)))
theorem acd (N:NEnv P K F T tF)(h:TE n f d)(hn:n<=400)(cM:f<=90)(ho:d.ob[i]?=some o)(hz:o.ci=2)(hi:d.find o.id=some i):DoT P K F tF 4 o.id 0 d { d with ob:=d.ob.set i { o with sick:=false } }:=by
 have vj:=h.small (by omega)<|by omega
 have hO:=h.o _<|List.mem_of_getElem? ho
 have i1:=hO.i1
 have i2:=hO.i2
 have n1:=h.nx
 exact aam N vj (by decide) (by decide) (by decide) (by decide) (aaz (k:=4) N.hB N.hX vj h.ev (.inr<|.inl ⟨rfl,rfl⟩) hi ho hz (λhu hr=>(acK N.hX hu hr)) (N.says.sick o.id · i1 (by omega)))
theorem TE.fresh (h:TE n f d)(xG:d.ob[i]?=some o)(a b:Bool):TE n f { d with ob:=d.ob.set i { o with RU:=a,sick:=b } }:=by
 have hO:=h.o _<|List.mem_of_getElem? xG
 exact h.obj xG rfl rfl rfl ⟨hO.i1,hO.i2,hO.bl,hO.cd,hO.ow,hO.ct,⟨hO.id.at_,hO.id.bk,hO.id.sp,hO.id.hu⟩⟩
structure aaL (n f:Nat)(d D:SD):Prop where
 te:TE n f D
 eq:D={ d with ob:=D.ob }
theorem aaL.refl (h:TE n f d):aaL n f d d:=⟨h,rfl⟩
theorem aaL.next (h:aaL n f d D)(xG:D.ob[i]?=some o)(a b:Bool):aaL n f d { D with ob:=D.ob.set i { o with RU:=a,sick:=b } }:=by
 refine⟨h.te.fresh xG a b,?_⟩
 rw[h.eq]
theorem aaL.fi (h:aaL n f d D):D.fi=d.fi:=by rw[h.eq]
theorem aaL.pl (h:aaL n f d D):D.pl=d.pl:=by rw[h.eq]
def Rdy (p:Nat)(l:List Int)(D:SD):Prop:=∀id∈l,∀o∈D.ob,o.id=id->o.aQ=.ofNat p->o.RU=false/\o.sick=false
theorem Rdy.set {l:List Int}(h:Rdy p l D)(xG:D.ob[i]?=some o){a b:Bool}(ha:a=false\/a=o.RU)(hb:b=false\/b=o.sick):Rdy p l { D with ob:=D.ob.set i { o with RU:=a,sick:=b } }:=by
 intro id hid x hx h1 h2
 rcases List.mem_or_eq_of_mem_set hx with hx|rfl
 ·exact h id hid x hx h1 h2
 ·obtain⟨k1,k2⟩:=h id hid o (List.mem_of_getElem? xG) h1 h2
  exact⟨ha.elim (λh=>h) λh=>h.trans k1,hb.elim (λh=>h) λh=>h.trans k2⟩
theorem Rdy.next {q:Nat}{l:List Int}(h:Rdy p (l.take q) D)(hD:TE n f D)(ho:o∈D.ob)(hx:l[q]?=some o.id)(h2:o.aQ=.ofNat p->o.RU=false/\o.sick=false):Rdy p (l.take (q+1)) D:=by
 intro id hid x KP h3 h4
 rw[List.take_add_one,hx]at hid
 rcases List.mem_append.1 hid with hid|hid
 ·exact h id hid x KP h3 h4
 ·have:id=o.id:=by simpa using hid
  have:=zt hD.nd KP ho<|h3.trans this
  subst this
  exact h2 h4
theorem abL (N:NEnv P K F T tF)(hP:gK C)(h:TE n f d)(hn:n<=400)(cM:f<=90)(hp:p<3)(hf:Has bf (.r false [bu bl aZ c0 c1 c2 c3 c4 bE] 8) t)(eQ:cI t aZ C)(hE:EL.length<=3000)(hs:aH bl EL d t s)
  (hR:∀E2 D2 m s2,E2.length<=EL.length+200->aaL n f d D2->Rdy p d.fi D2->aH bl E2 D2 (m++t) s2->bB P K (F 128) [gm tF bf,iv 3,iv 0,iv<|.ofNat p] s2 (λ_ s3=>R s3)) (abX:∀o,d.pl[p]?=some o->o.f1=false) :
  bB P K (F 443) [.agg [gm tF bf],iv<|.ofNat p] s (λ_ s'=>R s'):=by
 have hge:=h.ge N hP (by omega) cM
 have hfl:=h.fn
 refine N.hV.ai1.cF ?_
 unfold aha
 refine Vk (k:=λb2=>Vk (k:=?_))
 have dt:aH bl EL d ((b2,HO.r false [[gm tF bf]] 1)::t) ((b2,HO.r false [[gm tF bf]] 1)::s):=hs.cons
 refine Ww<|WS.invoke (vs:=[AV.int IntKind.i64 (Int.ofNat 2),AV.int IntKind.i64<|Int.ofNat 0]) rfl (N.hM.ci ) rfl ( Gf N.hB N.hC dt hge.hd (.there hf)) ?_
 rintro v s3 ⟨m,gw,hv⟩
 have lv:lenOf v=some d.fi.length:=by rw[hv.lenOf,gq]
 refine Vk (k:=?_)
 refine Wp (λk l ds s'=>ds=[]/\∃q E2 D2,k=d.fi.length-q/\q<=d.fi.length/\E2.length<=EL.length+2*q/\aaL n f d D2/\Rdy p (d.fi.take q) D2/\aH bl E2 D2 (m++((b2,HO.r false [[gm tF bf]] 1)::t)) s'/\∀i w,lk [(1,iv<|.ofNat p),(2,.ptr<|some ⟨b2,0,0⟩),(10,v),(11,iv<|.ofNat d.fi.length),(12,iv<|.ofNat q)] i=some w->lk l i=some w) ?_ (n:=d.fi.length-0)
  ⟨rfl,0,_,_,rfl,Nat.zero_le _,Nat.le_refl _,.refl h,(λ_ h=>nomatch h),gw,bX rfl⟩
 rintro k l ds s' ⟨rfl,q,E2,D2,rfl,hq,hE2,t6,Qb,hs',hl⟩
 refine Wg hl (λ_ _ h=>h) ?_
 have acy:=t6.te.small (by omega)<|by omega
 have zB:Has b2 (.r false [[gm tF bf]] 1) s':=hs'.mem<|.app .here
 by_cases hlt:q<d.fi.length
 rotate_left
 ·have e1:=qa hlt
  rw[List.take_of_length_le (by omega)]at Qb
  obtain⟨o,ho⟩:∃o,d.pl[p]?=some o:=⟨_,List.getElem?_eq_getElem (by rw[h.pl];exact hp)⟩
  have ho2:D2.pl[p]?=some o:=by rw[t6.pl];exact ho
  have l5:part false o.row 5 1=some (.bool false):=by show some (AV.bool o.f1)=_;rw[abX o ho]
  refine Vk (k:=Wx<|Vk (k:=Ww<|WS.invoke (vs:=[iv (Int.ofNat p)]) rfl (N.hM.RD ) rfl ( Ar N.hB N.hC N.hT hs' acy (.app<|.there hf) ho2) ?_))
  rintro _ s4 ⟨rfl,pM⟩
  refine Wr (.fld rfl l5)<|Wn<|Wd rfl fS<|λ_=>Wi<|Wo<|Wf rfl<|Wl rfl (pM.mem<|.app .here) rfl rfl rfl<|Wv rfl ?_
  have tn:aH bl E2 D2 ((m++[(b2,HO.r false [[gm tF bf]] 1)])++t) s4:=by rw[List.append_assoc];exact pM
  refine Ww<|W1 (hR E2 D2 _ s4 (by omega) t6 Qb tn) ?_
  intro _ s5 h5
  refine Wn<|Wm .nil ?_
  exact h5
 have e1:=qb hlt
 have hid:=List.getElem_mem hlt
 obtain⟨ba,ra,na,ca,J5,Sp,Ma,rfl,hba,me,hra⟩:=hv.at (i:=q) (by rw[gq];exact hlt)
 rw[Qp hlt]at hra
 have hx:d.fi[q]?=some d.fi[q]:=List.getElem?_eq_getElem hlt
 generalize d.fi[q]=id at hid hra hx
 obtain⟨o,k1,k2,k3⟩:=t6.te.fi id (by rw[t6.fi];exact hid)
 subst k2
 obtain⟨i,hi⟩:=aah k1
 have ho:D2.obj o.id=some o:=aeJ t6.te.nd k1
 have xG:D2.ob[i]?=some o:=by
  obtain⟨o',j1,j2,j3⟩:=F8 hi
  have:=zt t6.te.nd j3 k1 j2
  subst this
  exact j1
 have adE:=hs'.mem<|.left hba
 refine Vk (k:=?_)
 refine Vk (k:=Ww<|WS.invoke (vs:=[iv (OD.id o)]) rfl (N.hM.obj ) rfl ( Qq N.hB N.hC hs' acy (.app<|.there hf)) ?_)
 rintro _ s4 ⟨hv4,pM⟩
 rw[ho]at hv4
 subst hv4
 have hO:=t6.te.o _ k1
 obtain⟨p',hw,CL⟩:=hO.ow
 have l3:bV 1 (cu 3 o.row)=some [iv (.ofNat p')]:=by show some [iv o.aQ]=_;rw[hO.ct,hw]
 by_cases hpp:p'=p
 rotate_left
 ·have e29:eqBy 20 .pi (iv<|.ofNat p') (iv<|.ofNat p)=some false:=by rw[cD,decide_eq_false<|λhh=>hpp<|Int.ofNat.inj hh]
  refine Vk (k:=λb6=>Vk (k:=Wx<|Vk (k:=?_)))
  exact⟨d.fi.length-(q+1),by omega,rfl,q+1,E2,D2,rfl,hlt,by omega,t6,Qb.next t6.te k1 hx<|λhh=>absurd (Int.ofNat.inj<|(hw.symm.trans hO.ct.symm).trans hh) hpp,aH.bK (m:=[_]) pM,bX rfl⟩
 have e29:eqBy 20 .pi (iv<|.ofNat p') (iv<|.ofNat p)=some true:=by rw[cD,hpp];simp
 cases adG:o.RU with
 | false=>
  have l5:bV 1 (cu 5 o.row)=some [.bool false]:=by show some [AV.bool o.RU]=_;rw[adG]
  cases aaX:o.sick with
  | false=>
   have l6:bV 1 (cu 6 o.row)=some [.bool false]:=by show some [AV.bool o.sick]=_;rw[aaX]
   refine Vk (k:=λb6=>Vk (k:=?_))
   exact⟨d.fi.length-(q+1),by omega,rfl,q+1,E2,D2,rfl,hlt,by omega,t6,Qb.next t6.te k1 hx<|λ_=>⟨adG,aaX⟩,aH.bK (m:=[_]) pM,bX rfl⟩
  | true=>
   have l6:bV 1 (cu 6 o.row)=some [.bool true]:=by show some [AV.bool o.sick]=_;rw[aaX]
   have adC:=pM.mem<|.app .here
   refine Vk (k:=λb6=>Vk (k:=?_))
   refine Ww<|W1 ((acd N t6.te hn cM xG k3 hi).go (.app<|.there hf) (by omega) (aH.bK (m:=[_]) pM)) ?_
   intro _ s6 KL
   refine Vk (k:=?_)
   exact⟨d.fi.length-(q+1),by omega,rfl,q+1,_,_,rfl,hlt,by rw[List.length_append,List.length_singleton];omega,t6.next xG o.RU false,(Qb.set xG (.inr rfl)<|.inl rfl).next (t6.next xG o.RU false).te (List.mem_of_getElem?<|List.getElem?_set_self (List.getElem?_eq_some_iff.1 xG).1) hx (λ_=>⟨adG,rfl⟩),KL,bX rfl⟩
 | true=>
  have l5:bV 1 (cu 5 o.row)=some [.bool true]:=by show some [AV.bool o.RU]=_;rw[adG]
  have adC:=pM.mem<|.app .here
  cases aaX:o.sick with
  | false=>
   have l6:bV 1 (cu 6 o.row)=some [.bool false]:=by show some [AV.bool o.sick]=_;rw[aaX]
   refine Vk (k:=λb6=>Vk (k:=?_))
   refine Ww<|W1 ((adb N t6.te hn cM xG k3 hi).go (.there<|.app<|.there hf) (by omega) pM.cons) ?_
   intro _ s6 KL
   have hb6:=KL.mem .here
   refine Vk (k:=?_)
   exact⟨d.fi.length-(q+1),by omega,rfl,q+1,_,_,rfl,hlt,by rw[List.length_append,List.length_singleton];omega,t6.next xG false o.sick,(Qb.set xG (.inl rfl)<|.inr rfl).next (t6.next xG false o.sick).te (List.mem_of_getElem?<|List.getElem?_set_self (List.getElem?_eq_some_iff.1 xG).1) hx (λ_=>⟨rfl,aaX⟩),KL.tail,bX rfl⟩
  | true=>
   have l6:bV 1 (cu 6 o.row)=some [.bool true]:=by show some [AV.bool o.sick]=_;rw[aaX]
   refine Vk (k:=λb6=>Vk (k:=?_))
   refine Ww<|W1 ((adb N t6.te hn cM xG k3 hi).go (.there<|.app<|.there hf) (by omega) pM.cons) ?_
   intro _ s6 KL
   have hb6:=KL.mem .here
   have hD3:=t6.next xG false o.sick
   have aeu:(D2.ob.set i { o with RU:=false,sick:=o.sick })[i]?=some { o with RU:=false,sick:=o.sick }:=List.getElem?_set_self (List.getElem?_eq_some_iff.1 xG).1
   have hi3:({ D2 with ob:=D2.ob.set i { o with RU:=false,sick:=o.sick } }:SD).find o.id=some i:=(aem (o':={ o with RU:=false,sick:=o.sick }) xG rfl _).trans hi
   have aj9:=KL.mem<|.there<|.app .here
   refine Vk (k:=?_)
   refine Ww<|W1 ((acd N hD3.te hn cM aeu k3 hi3).go (.there<|.app<|.there hf) (by rw[List.length_append,List.length_singleton];omega) KL) ?_
   intro _ s7 hs7
   refine Vk (k:=?_)
   exact⟨d.fi.length-(q+1),by omega,rfl,q+1,_,_,rfl,hlt,by rw[List.length_append,List.length_append,List.length_singleton,List.length_singleton];omega,hD3.next aeu false false,((Qb.set xG (.inl rfl)<|.inr rfl).set aeu (.inl rfl) (.inl rfl)).next (hD3.next aeu false false).te (List.mem_of_getElem?<|List.getElem?_set_self (List.getElem?_eq_some_iff.1 aeu).1) hx (λ_=>⟨rfl,rfl⟩),hs7.tail,bX rfl⟩
variable {e id:Int}
theorem af1 {x:AbT}(h:x∈abI k e D C id):x.o∈D.ob/\∃c∈C,x.i<c.ab.length:=by
 unfold abI at h
 cases ho:D.obj id with
 | none=>rw[ho]at h;nomatch h
 | some o=>
  rw[ho]at h
  cases hc:C[o.gE.toNat]? with
  | none=>simp[hc]at h
  | some c=>
   simp only[hc]at h
   unfold abO at h
   obtain⟨i,hi,hx⟩:=List.mem_filterMap.1 h
   have hi:=List.mem_range.1 hi
   rw[List.getElem?_eq_getElem hi]at hx
   dsimp only at hx
   split at hx
   ·cases hx
    obtain⟨_,_,_,_,hm⟩:=abF ho
    exact⟨hm,c,List.mem_of_getElem? hc,hi⟩
   ·nomatch hx
theorem aey (hP:gK C){p:Int}{it:ID}{l:List Int}(h:it∈N9 id p (aae k e D C l)):∃o∈D.ob,∃j:Nat,j<4/\it=⟨0,3,o.aQ,o.id,o.gE,.ofNat j⟩:=by
 obtain⟨x,hx,rfl⟩:=List.mem_map.1 h
 obtain⟨y,hy,iI⟩:=List.mem_flatMap.1 (List.mem_filter.1 hx).1
 obtain⟨h1,c,h2,h3⟩:=af1 iI
 exact⟨x.o,h1,x.i,Nat.lt_of_lt_of_le h3<|hP.R8 c h2,rfl⟩
theorem TE.xR (h:TE n f d)(hn:d.nx+1<=500):TE n f { d with nx:=d.nx+1 }:=
 ⟨h.pl,⟨h.ev.lb,h.ev.hd,h.ev.gr,h.ev.ex⟩,h.st,h.wa,h.co,h.oc,h.ob,h.nd,λo ho=>⟨(h.o o ho).i1,Int.lt_trans (h.o o ho).i2 (Int.lt_succ _),(h.o o ho).bl,(h.o o ho).cd,(h.o o ho).ow,(h.o o ho).ct,(h.o o ho).id⟩,h.fi,h.fn,h.lb,h.hd,h.ls,⟨Int.le_trans h.nx.1<|Int.le_of_lt<|Int.lt_succ _,hn⟩,h.sp,h.hn⟩
structure TW (n f w:Nat)(D:SD):Prop where
 te:TE n f { D with wa:=[] }
 wa:D.wa.length<=w
theorem TW.small {w:Nat}(h:TW n f w d)(h2:n<=500)(h3:f<=500)(h4:w<=900):d.Small:=by
 have h1:=h.te.small h2 h3
 have h5:=h.wa
 exact⟨⟨h1.n1.1,h1.n1.2.1,h1.n1.2.2.1,h1.n1.2.2.2.1,by omega⟩,h1.n2⟩
theorem TW.ev {w:Nat}(h:TW n f w d):d.kQ:=⟨h.te.ev.lb,h.te.ev.hd,h.te.ev.gr,h.te.ev.ex⟩
theorem TW.of {w:Nat}(h:TE n f d):TW n f w d:=by
 have e:{ d with wa:=[] }=d:=by rw[<- h.wa]
 exact⟨by rw[e];exact h,by rw[h.wa];exact Nat.zero_le _⟩
theorem TW.wait {w:Nat}(h:TW n f w d)(hn:d.nx+1<=500)(it:ID):TW n f (w+1) { d with nx:=d.nx+1,wa:=d.wa++[it] }:=
 ⟨h.te.xR hn,by show(d.wa++[it]).length<=w+1;rw[List.length_append,List.length_singleton];exact Nat.add_le_add_right h.wa 1⟩
theorem aeG (N:NEnv P K F T tF)(hP:gK C)(h:TE n f d)(hn:n<=400)(cM:f<=90)(YI:d.nx<=100)(hf:Has bf (.r false [bu bl aZ c0 c1 c2 c3 c4 bE] 8) t)(eQ:cI t aZ C)(hE:EL.length<=4000)(hs:aH bl EL d t s) :
  bB P K (F 128) [gm tF bf,iv 3,iv 0,iv<|.ofNat p] s (λ_ s'=>∃E2 D2,E2.length<=EL.length+400/\TW n f 400 D2/\(∃W N2,D2={ d with wa:=W,nx:=N2 })/\aH bl E2 D2 t s'):=by
 have hbd:=h.bdx N hP (by omega) cM
 have hfl:=h.fn
 have hL:(N9 0 (.ofNat p)<|aae 3 3 d C<|aaF 3 d C).length<=4*d.fi.length:=by
  unfold N9
  rw[List.length_map]
  refine Nat.le_trans (List.length_filter_le ..)<|Nat.le_trans (abJ hP.R8 _)<|Nat.mul_le_mul_left 4 ?_
  unfold aaF aaO
  exact List.length_filter_le ..
 refine(aa3 hbd hf eQ hs hP.R8 hP.who (Nat.le_trans hfl cM) rfl rfl (J:=λq E2 D2=>E2.length=EL.length+q/\TW n f q D2/\∃W,D2={ d with wa:=W,nx:=d.nx+q }) rfl (by omega) ⟨rfl,.of h,d.wa,by simp⟩ λm2 q it E2 D2 s2 hit hJ dt=>?_).post ?_
 ·obtain⟨hE2,hT,W,hW⟩:=hJ
  have hq:q<(N9 0 (.ofNat p)<|aae 3 3 d C<|aaF 3 d C).length:=(List.getElem?_eq_some_iff.1 hit).1
  obtain⟨o,ho,j,hj,rfl⟩:=aey hP<|List.mem_of_getElem? hit
  have hI:=h.o o ho
  obtain⟨q2,hw,hq2⟩:=hI.ow
  obtain⟨j2,hc,hj2⟩:=hI.cd
  have hct:o.aQ=.ofNat q2:=hI.ct.trans hw
  have n1:=h.nx
  have i1:=hI.i1
  have i2:=hI.i2
  have afb:D2.nx=d.nx+q:=by rw[hW]
  have vj:=hT.small (by omega) (by omega)<|by omega
  have hT2:=hT.wait (by omega) { (⟨0,3,o.aQ,o.id,o.gE,.ofNat j⟩:ID)with id:=D2.nx }
  refine(abP N.hB dt vj (.app hf) (by omega) (ado N.hB N.it vj hT.ev ⟨by omega,by omega⟩ (N.says.wait _ _ _ _ · ⟨by rw[hct];exact Int.natCast_nonneg _,by rw[hct];show((q2:Nat):Int)<=2;omega⟩ ⟨by omega,by omega⟩ ⟨by rw[hc];exact Int.natCast_nonneg _,by rw[hc];show((j2:Nat):Int)<=5;omega⟩ ⟨Int.natCast_nonneg _,by show((j:Nat):Int)<=3;omega⟩)) (hT2.small (by omega) (by omega)<|by omega) ⟨by show 1<=D2.nx+1;omega,by show D2.nx+1<=1000000;omega⟩).post ?_
  rintro _ s3 ⟨_,gw⟩
  refine⟨_,_,⟨by rw[List.length_append,List.length_singleton,hE2];rfl,hT2,D2.wa++[⟨D2.nx,3,o.aQ,o.id,o.gE,.ofNat j⟩],?_⟩,gw⟩
  subst hW
  have e:d.nx+((q+1:Nat):Int)=d.nx+q+1:=by omega
  rw[e]
 ·rintro _ s2 ⟨E2,D2,⟨hE2,hT,W,hW⟩,dt⟩
  exact⟨E2,D2,by omega,⟨hT.te,Nat.le_trans hT.wa<|by omega⟩,⟨W,_,hW⟩,dt⟩
def aal (d:SD)(a:Nat):Nat:=if fE d a then dT d a else a
variable {ac:Nat}
theorem abd (N:NEnv P K F T tF)(hP:gK C)(h:TE n f d)(hn:n<=400)(cM:f<=90){ph:Nat}(hph:ph=2\/ph=3\/ph=4\/ph=6\/ph=8\/ph=9)(hac:d.ac=.ofNat ac)(dM:ac<3){o:LD}(ho:d.pl[ac]?=some o)(hf:Has bf (.r false [bu bl aZ c0 c1 c2 c3 c4 bE] 8) t)(eQ:cI t aZ C)(hE:EL.length<=3000)(hs:aH bl EL d t s)
  (hR:∀E2 q s2,E2.length=EL.length+2->q=aal d ac->aH bl E2 { d with ph:=.ofNat ph,pr:=.ofNat q,pa:=0 } t s2->R s2) :
  bB P K (F 413) [gm tF bf,iv<|.ofNat ph] s (λ_ s'=>R s'):=by
 have hp9:ph<=9:=by omega
 have hge:=h.ge N hP (by omega) cM
 have e13:binV .lss (iv<|.ofNat ph) (iv<|.ofNat 0)=some (.bool false):=by rcases hph with rfl | rfl | rfl | rfl | rfl | rfl<;>rfl
 have e17:binV .gtr (iv<|.ofNat ph) (iv<|.ofNat 9)=some (.bool false):=by rcases hph with rfl | rfl | rfl | rfl | rfl | rfl<;>rfl
 refine N.hV.ael.cF ?_
 unfold adk
 refine Wq<|Wa (.box rfl rfl) λb2=>Wn<|Ws<|Wq<|Wl rfl .here rfl rfl rfl<|Wh (b:=false) rfl rfl rfl<|Wv rfl<|Wy<|Wv rfl<|Wy<|Wj rfl rfl e13<|Wr (.bj rfl rfl)<|Wv rfl<|Wy<|Wv rfl<|Wy<|Wj rfl rfl e17<|Wr (.bj rfl rfl)<|Wn<|Wd rfl fS<|λ_=>Wi<|Wq<|Wl rfl .here rfl rfl rfl<|Wr (.build rfl rfl)<|Wa (.alloc rfl) λb4=>Ww<|Wt (s':=(b4,.r false [bI [] (bI (Prod.snd (Prod.fst (0,1,Operand.tmp 19),[gm tF bf]))<|cu (aK<|Prod.snd (Prod.fst (0,1,Operand.tmp 19),[gm tF bf]))<|cu (Prod.fst (Prod.fst (0,1,Operand.tmp 19),[gm tF bf])) [AV.nilIface])] 1)::_) rfl rfl rfl .here rfl rfl<|Wn<|Wq<|Wl (cs:=bI []<|bI (Prod.snd (Prod.fst (0,1,Operand.tmp 19),[gm tF bf]))<|cu (aK<|Prod.snd (Prod.fst (0,1,Operand.tmp 19),[gm tF bf]))<|cu (Prod.fst (Prod.fst (0,1,Operand.tmp 19),[gm tF bf])) [AV.nilIface]) rfl .here rfl rfl rfl<|Wv rfl ?_
 have nr:aH bl EL d ((b4,HO.r false [[gm tF bf]] 1)::(b2,HO.r false [[gm tF bf]] 1)::t) ((b4,HO.r false [[gm tF bf]] 1)::(b2,HO.r false [[gm tF bf]] 1)::s):=hs.cons.cons
 refine Ww<|W1 ((TG N h hn cM (p:=ph)<|by omega).go (.there<|.there hf) (by omega) nr) ?_
 intro _ s2 dt
 have hT1:TE n f { d with ph:=.ofNat ph }:=h.other (tu:=d.tu) (ac:=d.ac) (ph:=.ofNat ph) (pr:=d.pr) (pa:=d.pa) (bl:=d.bl) h.pl
 have aau:=hT1.ge N hP (by omega) cM
 have hb4:=dt.mem .here
 have zB:=dt.mem<|.there .here
 refine Wn<|Wq<|Wf rfl<|Wl rfl hb4 rfl rfl rfl<|Ww<|WS.invoke (vs:=[]) rfl (N.info ) rfl ( kM N.hB N.hI N.t128 dt aau.hd (.there<|.there hf)) ?_
 rintro _ s3 ⟨rfl,gw⟩
 have l1:part false (dh { d with ph:=.ofNat ph }) 1 1=some (iv<|.ofNat ac):=by show some (iv d.ac)=_;rw[hac]
 have hlk:∀v0 v1 v5 v7,lookIn .pi (iv<|.ofNat ph) [(iv 0,v0),(iv 1,v1),(iv 5,v5),(iv 7,v7)]=some none:=λv0 v1 v5 v7=>by rcases hph with rfl | rfl | rfl | rfl | rfl | rfl<;>rfl
 refine Wr (.fld rfl l1)<|Wa (.alloc rfl) λb5=>Ww<|Wt (s':=(b5,.r false [[iv (Int.ofNat ac)]] 1)::_) rfl rfl rfl .here rfl rfl<|Wn<|Wq<|Wa .mkmap λb28=>Wr (.mkfn rfl rfl)<|Ww<|WS.ins rfl rfl rfl .here rfl<|Wr (.mkfn rfl rfl)<|Ww<|WS.ins rfl rfl rfl .here rfl<|Wr (.mkfn rfl rfl)<|Ww<|WS.ins rfl rfl rfl .here rfl<|Wr (.mkfn rfl rfl)<|Ww<|WS.ins rfl rfl rfl .here rfl<|Wv rfl<|Wv rfl<|Wn<|Ws<|Wq<|Wv rfl<|Wv rfl<|Wr (.look rfl rfl .here<|hlk _ _ _ _)<|Wv rfl<|Wr (.extract rfl rfl)<|Wr (.extract rfl rfl)<|Wv rfl<|Wv rfl<|Wn<|Wq<|Wv rfl<|Wn<|Wd rfl fS<|λ_=>Wi<|Ws<|Wq<|Wf rfl<|Wl rfl (.there<|.there<|gw.mem .here) rfl rfl rfl<|Wl rfl (.there .here) rfl rfl rfl<|Ww<|WS.invoke (vs:=[iv (Int.ofNat ac)]) rfl (N.hM.RD ) rfl ( Ar N.hB N.hC N.hT (aH.bK (m:=[_])<|gw.cons (p:=(b5,HO.r false [[iv (.ofNat ac)]] 1))) aau.hd (.there<|.there<|.there hf) ho) ?_
 rintro _ s5 ⟨rfl,tn⟩
 have hb5:=tn.mem .here
 have acv:=tn.mem<|.there .here
 have adC:=tn.mem<|.there<|.there .here
 cases hl:o.f2 with
 | false=>
  have l6:part false o.row 6 1=some (.bool false):=by show some (AV.bool o.f2)=_;rw[hl]
  refine Wr (.fld rfl l6)<|Wn<|Wd rfl fS<|λ_=>Wi<|Wo<|Wl (cs:=[gm tF bf]) rfl acv rfl rfl rfl<|Wl rfl hb5 rfl rfl rfl<|Ww<|W1 ((acb N hT1 hn cM dM).go (.there<|.there<|.there hf) (by rw[List.length_append,List.length_singleton];omega) tn) ?_
  intro _ s6 KL
  refine Wn<|Wm .nil ?_
  exact hR _ _ _ (by rw[List.length_append,List.length_append,List.length_singleton,List.length_singleton]) (by unfold aal fE;rw[ho];simp[hl]) KL.tail.tail.tail
 | true=>
  have l6:part false o.row 6 1=some (.bool true):=by show some (AV.bool o.f2)=_;rw[hl]
  refine Wr (.fld rfl l6)<|Wn<|Wd rfl (λ_=>Wo<|Wl rfl adC rfl rfl rfl<|Wl rfl hb5 rfl rfl rfl ?_) Dz
  refine Ww<|W1 (aaB aau N.hV (.there<|.there<|.there hf) h.pl dM tn) ?_
  rintro _ s6 ⟨rfl,KL⟩
  obtain⟨s7,hp7,hs7⟩:=KL.first
  have acv:=hs7.mem .here
  refine WO.pre hp7<|Ww<|Wt (s':=(b5,.r false [[iv (Int.ofNat<|dT (SD.mk (SD.pl d) (SD.ob d) (SD.lb d) (SD.hd d) (SD.gr d) (SD.ex d) (SD.fi d) (SD.st d) (SD.wa d) (SD.tu d) (SD.ac d) (Int.ofNat ph) (SD.pr d) (SD.pa d) (SD.bl d) (SD.nx d) (SD.sp d) (SD.us d) (SD.ck d) (SD.co d) (SD.ca d) (SD.py d) (SD.oc d)<|SD.wi d) ac)]] 1)::_) rfl rfl rfl .here rfl rfl<|Wn<|Wo<|Wl (cs:=[gm tF bf]) rfl (.there acv) rfl rfl rfl<|Wl rfl .here rfl rfl rfl ?_
  have hs8:aH bl (EL++[evRow 19 (.ofNat ph) 0 0 0 Az]) { d with ph:=.ofNat ph } ((b5,HO.r false [[iv (.ofNat<|dT { d with ph:=.ofNat ph } ac)]] 1)::((b4,HO.r false [[gm tF bf]] 1)::(b2,HO.r false [[gm tF bf]] 1)::t)) ((b5,HO.r false [[iv (.ofNat<|dT { d with ph:=.ofNat ph } ac)]] 1)::s7):=hs7.cons
  refine Ww<|W1 ((acb N hT1 hn cM<|qc dM).go (.there<|.there<|.there hf) (by rw[List.length_append,List.length_singleton];omega) hs8) ?_
  intro _ s9 hs9
  refine Wn<|Wm .nil ?_
  exact hR _ _ _ (by rw[List.length_append,List.length_append,List.length_singleton,List.length_singleton]) (by unfold aal fE;rw[ho];simp only[hl,if_true];rfl) hs9.tail.tail.tail
def ada (F:Nat->FuncId):AC:=(.seq (oN [zf 43 0 4,zl 44 43,zl 45 5,zo 46 (.invoke 44 "Player" [45]),zo 47 (.fld 6 1 false 46)] (.cond 47 (.ops [zl 48 2,zl 49 5,oF F 50 88 [48,49],zn (.store 1 5 50)]) .skip)) (.ops [zo 51 (.load true 1 4),zl 52 5,oF F 53 185 [51,(zc 21),52,(zc 0)]]))
variable {w:Nat}
theorem TW.ge (N:NEnv P K F T tF)(hP:gK C)(h:TW n f w d)(h2:n<=500)(h3:f<=90)(h4:w<=900):GE P K F T tF (λ_ c=>c) C d where
 hB:=N.hB
 hC:=N.hC
 hG:=N.hG
 hT:=N.hT
 hM:=N.hM
 hU:=N.hU
 hI:=N.hI
 info:=N.info
 t128:=N.t128
 hd:=h.small h2 (by omega) h4
 he:=h.ev
 hO:=aee hP.st λo ho=>by rw[hP.n];exact(h.te.o o ho).cd
theorem aeR (N:NEnv P K F T tF)(h:TW n f w d)(hn:n<=400)(cM:f<=90)(hw:w<=900)(hp:p<3):DoT P K F tF 21 (.ofNat p) 0 d { d with pr:=.ofNat p,pa:=0 }:=by
 have vj:=h.small (by omega) (by omega) hw
 have UO:p<d.pl.length:=by rw[show d.pl.length=3 from h.te.pl];exact hp
 exact aam N vj (by decide) (by decide) (by decide) (by decide) (abi N.hB N.hR vj h.ev UO (N.says.prio p · hp))
variable {b2 b4 b5:Nat}
theorem aad (N:NEnv P K F T tF)(hP:gK C)(h:TW n f w d)(hn:n<=400)(cM:f<=90)(hw:w<=900)(dM:ac<3){o:LD}(ho:d.pl[ac]?=some o)(hf:Has bf (.r false [bu bl aZ c0 c1 c2 c3 c4 bE] 8) t)(hE:EL.length<=3900)(tn:aH bl EL d ((b5,HO.r false [[iv (.ofNat ac)]] 1)::(b4,HO.r false [[gm tF bf]] 1)::(b2,HO.r false [[gm tF bf]] 1)::t) s)
  (hR:∀E2 q l2 s2,E2.length=EL.length+1->q=aal d ac->aH bl E2 { d with pr:=.ofNat q,pa:=0 } t s2->Qn l2 [] s2) :
  WP P K none 54 (ada F) [(2,.ptr<|some ⟨b2,0,0⟩),(4,.ptr<|some ⟨b4,0,0⟩),(5,.ptr<|some ⟨b5,0,0⟩)] [] s Qn Qe Qr:=by
 have aau:=h.ge N hP (by omega) cM hw
 unfold ada
 have hb5:=tn.mem .here
 have acv:=tn.mem<|.there .here
 have adC:=tn.mem<|.there<|.there .here
 refine Vk (k:=Ww<|WS.invoke (vs:=[iv (Int.ofNat ac)]) rfl (N.hM.RD ) rfl ( Ar N.hB N.hC N.hT tn aau.hd (.there<|.there<|.there hf) ho) ?_)
 rintro _ s5 ⟨rfl,tn⟩
 have hb5:=tn.mem .here
 have acv:=tn.mem<|.there .here
 have adC:=tn.mem<|.there<|.there .here
 cases hl:o.f2 with
 | false=>
  have l6:part false o.row 6 1=some (.bool false):=by show some (AV.bool o.f2)=_;rw[hl]
  refine Wr (.fld rfl l6)<|Wn<|Wd rfl fS<|λ_=>Wi<|Wo<|Wl (cs:=[gm tF bf]) rfl acv rfl rfl rfl<|Wl rfl hb5 rfl rfl rfl<|Ww<|W1 ((aeR N h hn cM hw dM).go (.there<|.there<|.there hf) (by omega) tn) ?_
  intro _ s6 KL
  refine Wn ?_
  exact hR _ _ _ _ (by rw[List.length_append,List.length_singleton]) (by unfold aal fE;rw[ho];simp[hl]) KL.tail.tail.tail
 | true=>
  have l6:part false o.row 6 1=some (.bool true):=by show some (AV.bool o.f2)=_;rw[hl]
  refine Wr (.fld rfl l6)<|Wn<|Wd rfl (λ_=>Wo<|Wl rfl adC rfl rfl rfl<|Wl rfl hb5 rfl rfl rfl ?_) Dz
  refine Ww<|W1 (aaB aau N.hV (.there<|.there<|.there hf) h.te.pl dM tn) ?_
  rintro _ s6 ⟨rfl,KL⟩
  obtain⟨s7,hp7,hs7⟩:=KL.first
  have acv:=hs7.mem .here
  refine WO.pre hp7<|Vk (k:=?_)
  have hs8:aH bl EL d ((b5,HO.r false [[iv (.ofNat<|dT d ac)]] 1)::((b4,HO.r false [[gm tF bf]] 1)::(b2,HO.r false [[gm tF bf]] 1)::t)) ((b5,HO.r false [[iv (.ofNat<|dT d ac)]] 1)::s7):=hs7.cons
  refine Ww<|W1 ((aeR N h hn cM hw<|qc dM).go (.there<|.there<|.there hf) (by omega) hs8) ?_
  intro _ s9 hs9
  refine Wn ?_
  exact hR _ _ _ _ (by rw[List.length_append,List.length_singleton]) (by unfold aal fE;rw[ho];simp only[hl,if_true]) hs9.tail.tail.tail
theorem ad7 (N:NEnv P K F T tF)(hP:gK C)(h:TE n f d)(hn:n<=400)(cM:f<=90)(hp:p<3)(YI:d.nx<=100)(hf:Has bf (.r false [bu bl aZ c0 c1 c2 c3 c4 bE] 8) t)(eQ:cI t aZ C)(hE:EL.length<=3000)(h4:Has b4 (.r false [[gm tF bf]] 1) t)(h5:Has b5 (.r false [[iv (.ofNat p)]] 1) t)(abX:∀o,d.pl[p]?=some o->o.f1=false)(hs:aH bl EL d t s) :
  bB P K (F 442) [.ptr (some ⟨b4,0,0⟩),.ptr<|some ⟨b5,0,0⟩] s (λ_ s'=>∃E2 D2,E2.length<=EL.length+600/\TW n f 400 D2/\D2={ d with ob:=D2.ob,wa:=D2.wa,nx:=D2.nx }/\Rdy p d.fi D2/\aH bl E2 D2 t s'):=by
 have h4':=hs.mem h4
 have h5':=hs.mem h5
 refine N.hV.ai0.cF ?_
 unfold ag9
 refine Wo<|Wl (cs:=[gm tF bf]) rfl h4' rfl rfl rfl<|Wl rfl h5' rfl rfl rfl ?_
 refine Ww<|W1 (abL N hP h hn cM hp hf eQ hE hs (R:=λs'=>∃E2 D2,E2.length<=EL.length+600/\TW n f 400 D2/\D2={ d with ob:=D2.ob,wa:=D2.wa,nx:=D2.nx }/\Rdy p d.fi D2/\aH bl E2 D2 t s') (λE2 D2 m s2 k1 k2 ky k3=>(aeG N hP k2.te hn cM (by rw[k2.eq];exact YI) (.app hf) (eQ.mono λq hq=>List.mem_append_right _ hq) (by omega) k3).post λ_ s3⟨E3,D3,j1,j2,⟨W,N3,j3⟩,j4⟩=>⟨E3,D3,by omega,j2,by rw[j3,k2.eq],by rw[j3];exact ky,j4.fb⟩) abX) ?_
 intro _ s2 hh
 refine Wn<|Wm .nil ?_
 exact hh
theorem aaS (N:NEnv P K F T tF)(hP:gK C)(h:TE n f d)(hn:n<=400)(cM:f<=90)(hac:d.ac=.ofNat ac)(dM:ac<3){o:LD}(ho:d.pl[ac]?=some o)(hf:Has bf (.r false [bu bl aZ c0 c1 c2 c3 c4 bE] 8) t)(eQ:cI t aZ C)(hE:EL.length<=2900)(hs:aH bl EL d t s)
  (YI:d.nx<=100) (abX:o.f1=false) (hR:∀E2 D2 q s2,E2.length<=EL.length+700->q<3/\(o.f2=false->q=ac)->TW n f 400 D2->D2={ d with ph:=.ofNat 0,ob:=D2.ob,wa:=D2.wa,nx:=D2.nx }->Rdy ac d.fi D2->aH bl E2 { D2 with pr:=.ofNat q,pa:=0 } t s2->R s2) :
  bB P K (F 413) [gm tF bf,iv<|.ofNat 0] s (λ_ s'=>R s'):=by
 have hge:=h.ge N hP (by omega) cM
 have e13:binV .lss (iv<|.ofNat 0) (iv<|.ofNat 0)=some (.bool false):=rfl
 have e17:binV .gtr (iv<|.ofNat 0) (iv<|.ofNat 9)=some (.bool false):=rfl
 refine N.hV.ael.cF ?_
 unfold adk
 refine Wq<|Wa (.box rfl rfl) λb2=>Wn<|Ws<|Wq<|Wl rfl .here rfl rfl rfl<|Wh (b:=false) rfl rfl rfl<|Wv rfl<|Wy<|Wv rfl<|Wy<|Wj rfl rfl e17<|Wr (.bj rfl rfl)<|Wv rfl<|Wy<|Wv rfl<|Wy<|Wj rfl rfl e17<|Wr (.bj rfl rfl)<|Wn<|Wd rfl fS<|λ_=>Wi<|Wq<|Wl rfl .here rfl rfl rfl<|Wr (.build rfl rfl)<|Wa (.alloc rfl) λb4=>Ww<|Wt (s':=(b4,.r false [bI [] (bI (Prod.snd (Prod.fst (0,1,Operand.tmp 19),[gm tF bf]))<|cu (aK<|Prod.snd (Prod.fst (0,1,Operand.tmp 19),[gm tF bf]))<|cu (Prod.fst (Prod.fst (0,1,Operand.tmp 19),[gm tF bf])) [AV.nilIface])] 1)::_) rfl rfl rfl .here rfl rfl<|Wn<|Wq<|Wl (cs:=bI []<|bI (Prod.snd (Prod.fst (0,1,Operand.tmp 19),[gm tF bf]))<|cu (aK<|Prod.snd (Prod.fst (0,1,Operand.tmp 19),[gm tF bf]))<|cu (Prod.fst (Prod.fst (0,1,Operand.tmp 19),[gm tF bf])) [AV.nilIface]) rfl .here rfl rfl rfl<|Wv rfl ?_
 have nr:aH bl EL d ((b4,HO.r false [[gm tF bf]] 1)::(b2,HO.r false [[gm tF bf]] 1)::t) ((b4,HO.r false [[gm tF bf]] 1)::(b2,HO.r false [[gm tF bf]] 1)::s):=hs.cons.cons
 refine Ww<|W1 ((TG N h hn cM (p:=0)<|by omega).go (.there<|.there hf) (by omega) nr) ?_
 intro _ s2 dt
 have hT1:TE n f { d with ph:=.ofNat 0 }:=h.other (tu:=d.tu) (ac:=d.ac) (ph:=.ofNat 0) (pr:=d.pr) (pa:=d.pa) (bl:=d.bl) h.pl
 have aau:=hT1.ge N hP (by omega) cM
 have hb4:=dt.mem .here
 have zB:=dt.mem<|.there .here
 refine Wn<|Wq<|Wf rfl<|Wl rfl hb4 rfl rfl rfl<|Ww<|WS.invoke (vs:=[]) rfl (N.info ) rfl ( kM N.hB N.hI N.t128 dt aau.hd (.there<|.there hf)) ?_
 rintro _ s3 ⟨rfl,gw⟩
 have l1:part false (dh { d with ph:=.ofNat 0 }) 1 1=some (iv<|.ofNat ac):=by show some (iv d.ac)=_;rw[hac]
 refine Wr (.fld rfl l1)<|Wa (.alloc rfl) λb5=>Ww<|Wt (s':=(b5,.r false [[iv (Int.ofNat ac)]] 1)::_) rfl rfl rfl .here rfl rfl<|Wn<|Wq<|Wa .mkmap λb28=>Wr (.mkfn rfl rfl)<|Ww<|WS.ins rfl rfl rfl .here rfl<|Wr (.mkfn rfl rfl)<|Ww<|WS.ins rfl rfl rfl .here rfl<|Wr (.mkfn rfl rfl)<|Ww<|WS.ins rfl rfl rfl .here rfl<|Wr (.mkfn rfl rfl)<|Ww<|WS.ins rfl rfl rfl .here rfl<|Wv rfl<|Wv rfl<|Wn<|Ws<|Wq<|Wv rfl<|Wv rfl<|Wr (.look rfl rfl .here rfl)<|Wv rfl<|Wr (.extract rfl rfl)<|Wr (.extract rfl rfl)<|Wv rfl<|Wv rfl<|Wn<|Wq<|Wv rfl<|Wn<|Wd rfl (λ_=>Wo<|Wv rfl ?_) Dz
 have Gt:({ d with ph:=.ofNat 0 }:SD).pl[ac]?=some o:=ho
 refine Ww<|WS.call (vs:=[]) rfl rfl (c6.func<|ad7 N hP hT1 hn cM dM YI (.there<|.there<|.there hf) (eQ.mono λq hq=>by simp[hq]) (by rw[List.length_append,List.length_singleton];omega) (b4:=b4) (b5:=b5) (.there .here) .here (λx hx=>by rw[Gt]at hx;cases hx;exact abX)<|aH.bK (m:=[_])<|gw.cons (p:=(b5,HO.r false [[iv (.ofNat ac)]] 1))) ?_
 rintro _ s4 ⟨E2,D2,k1,k2,k3,ky,pM⟩
 refine Wn ?_
 have ho2:D2.pl[ac]?=some o:=by rw[k3];exact ho
 rw[List.length_append,List.length_singleton]at k1
 refine Wg (bX rfl) (λ_ _ h=>h)<|aad N hP k2 hn cM (by omega) dM ho2 hf (by omega) pM λE3 q l2 s5 j1 j2 j3=>Wm .nil<|hR E3 D2 q s5 (by omega) ?_ k2 ?_ ky j3
 ·rw[j2]
  unfold aal fE
  rw[ho2]
  dsimp only
  split
  ·next h9=>exact⟨qc dM,λhh=>by rw[hh]at h9;exact Bool.noConfusion h9⟩
  ·exact⟨dM,λ_=>rfl⟩
 ·rw[k3]
theorem ad9 (N:NEnv P K F T tF)(hP:gK C)(h:TE n f d)(hn:n<=400)(cM:f<=90)(hf:Has bf (.r false [bu bl aZ c0 c1 c2 c3 c4 bE] 8) t)(hE:EL.length<=3000)(h4:Has b4 (.r false [[gm tF bf]] 1) t)(hs:aH bl EL d t s) :
  bB P K (F 446) [.ptr (some ⟨b4,0,0⟩)] s (λ_ s'=>aH bl (EL++[evRow 22 1 0 0 0 Az]) { d with bl:=1 } t s'):=by
 have h4':=hs.mem h4
 refine N.hV.ai4.cF ?_
 unfold ahd
 refine Wo<|Wl (cs:=[gm tF bf]) rfl h4' rfl rfl rfl ?_
 refine Ww<|W1 ((ab9 N h hn cM).go hf (by omega) hs) ?_
 intro _ s2 hh
 refine Wn<|Wm .nil ?_
 exact hh
theorem ad8 (N:NEnv P K F T tF)(hP:gK C)(h:TE n f d)(hn:n<=400)(cM:f<=90)(hp:p<3)(YI:d.nx<=400)(hf:Has bf (.r false [bu bl aZ c0 c1 c2 c3 c4 bE] 8) t)(eQ:cI t aZ C)(hE:EL.length<=3000)(h2:Has b2 (.r false [[gm tF bf]] 1) t)(h4:Has b4 (.r false [[gm tF bf]] 1) t)(h5:Has b5 (.r false [[iv (.ofNat p)]] 1) t)(hs:aH bl EL d t s) :
  bB P K (F 444) [.ptr (some ⟨b4,0,0⟩),.ptr<|some ⟨b2,0,0⟩,.ptr<|some ⟨b5,0,0⟩] s (λ_ s'=>∃E2 D2,E2.length<=EL.length+1/\adh (n+1) f d D2/\aH bl E2 D2 t s'):=by
 have hge:=h.ge N hP (by omega) cM
 have h4':=hs.mem h4
 refine N.hV.ai2.cF ?_
 unfold ahb
 refine Wq<|Wf rfl<|Wl rfl h4' rfl rfl rfl ?_
 refine Ww<|WS.invoke (vs:=[]) rfl (N.info ) rfl ( kM N.hB N.hI N.t128 hs hge.hd hf) ?_
 rintro _ s2 ⟨rfl,dt⟩
 have XI:=dt.mem h2
 have h5':=dt.mem h5
 have l0:part false (dh d) 0 1=some (iv d.tu):=rfl
 by_cases h1:d.tu=1
 ·have e7:eqBy 20 .pi (iv d.tu) (iv<|.ofNat 1)=some true:=by rw[cD,h1];rfl
  refine Wr (.fld rfl l0)<|Wh rfl rfl e7<|Wn<|Wd rfl fS<|λ_=>Wi<|Wm .nil ?_
  exact⟨EL,d,by omega,⟨h.mono<|Nat.le_succ _,.refl _,rfl,rfl,rfl,by omega⟩,dt⟩
 ·have e7:eqBy 20 .pi (iv d.tu) (iv<|.ofNat 1)=some false:=by rw[cD];exact congrArg some (decide_eq_false h1)
  refine Wr (.fld rfl l0)<|Wh rfl rfl e7<|Wn<|Wd rfl (λ_=>Wo<|Wl rfl XI rfl rfl rfl<|Wl rfl h5' rfl rfl rfl ?_) Dz
  refine Ww<|W1 (acs N hP h hn cM hp YI hf eQ (by omega) dt) ?_
  intro _ s3 hh
  refine Wn<|Wm .nil ?_
  exact hh
theorem abb (N:NEnv P K F T tF)(hP:gK C)(h:TE n f d)(hn:n<=399)(cM:f<=90)(hac:d.ac=.ofNat ac)(dM:ac<3){o:LD}(ho:d.pl[ac]?=some o)(hf:Has bf (.r false [bu bl aZ c0 c1 c2 c3 c4 bE] 8) t)(eQ:cI t aZ C)(hE:EL.length<=2900)(hs:aH bl EL d t s)
  (YI:d.nx<=300) (hR:∀E2 D2 q s2,E2.length<=EL.length+10->q<3->adh (n+1) f { d with ph:=.ofNat 1 } D2->aH bl E2 { D2 with pr:=.ofNat q,pa:=0 } t s2->R s2) :
  bB P K (F 413) [gm tF bf,iv<|.ofNat 1] s (λ_ s'=>R s'):=by
 have hge:=h.ge N hP (by omega) cM
 have e13:binV .lss (iv<|.ofNat 1) (iv<|.ofNat 0)=some (.bool false):=rfl
 have e17:binV .gtr (iv<|.ofNat 1) (iv<|.ofNat 9)=some (.bool false):=rfl
 refine N.hV.ael.cF ?_
 unfold adk
 refine Wq<|Wa (.box rfl rfl) λb2=>Wn<|Ws<|Wq<|Wl rfl .here rfl rfl rfl<|Wh (b:=false) rfl rfl rfl<|Wv rfl<|Wy<|Wv rfl<|Wy<|Wj rfl rfl e17<|Wr (.bj rfl rfl)<|Wv rfl<|Wy<|Wv rfl<|Wy<|Wj rfl rfl e17<|Wr (.bj rfl rfl)<|Wn<|Wd rfl fS<|λ_=>Wi<|Wq<|Wl rfl .here rfl rfl rfl<|Wr (.build rfl rfl)<|Wa (.alloc rfl) λb4=>Ww<|Wt (s':=(b4,.r false [bI [] (bI (Prod.snd (Prod.fst (0,1,Operand.tmp 19),[gm tF bf]))<|cu (aK<|Prod.snd (Prod.fst (0,1,Operand.tmp 19),[gm tF bf]))<|cu (Prod.fst (Prod.fst (0,1,Operand.tmp 19),[gm tF bf])) [AV.nilIface])] 1)::_) rfl rfl rfl .here rfl rfl<|Wn<|Wq<|Wl (cs:=bI []<|bI (Prod.snd (Prod.fst (0,1,Operand.tmp 19),[gm tF bf]))<|cu (aK<|Prod.snd (Prod.fst (0,1,Operand.tmp 19),[gm tF bf]))<|cu (Prod.fst (Prod.fst (0,1,Operand.tmp 19),[gm tF bf])) [AV.nilIface]) rfl .here rfl rfl rfl<|Wv rfl ?_
 have nr:aH bl EL d ((b4,HO.r false [[gm tF bf]] 1)::(b2,HO.r false [[gm tF bf]] 1)::t) ((b4,HO.r false [[gm tF bf]] 1)::(b2,HO.r false [[gm tF bf]] 1)::s):=hs.cons.cons
 refine Ww<|W1 ((TG N h (by omega) cM (p:=1)<|by omega).go (.there<|.there hf) (by omega) nr) ?_
 intro _ s2 dt
 have hT1:TE n f { d with ph:=.ofNat 1 }:=h.other (tu:=d.tu) (ac:=d.ac) (ph:=.ofNat 1) (pr:=d.pr) (pa:=d.pa) (bl:=d.bl) h.pl
 have aau:=hT1.ge N hP (by omega) cM
 have hb4:=dt.mem .here
 have zB:=dt.mem<|.there .here
 refine Wn<|Wq<|Wf rfl<|Wl rfl hb4 rfl rfl rfl<|Ww<|WS.invoke (vs:=[]) rfl (N.info ) rfl ( kM N.hB N.hI N.t128 dt aau.hd (.there<|.there hf)) ?_
 rintro _ s3 ⟨rfl,gw⟩
 have l1:part false (dh { d with ph:=.ofNat 1 }) 1 1=some (iv<|.ofNat ac):=by show some (iv d.ac)=_;rw[hac]
 refine Wr (.fld rfl l1)<|Wa (.alloc rfl) λb5=>Ww<|Wt (s':=(b5,.r false [[iv (Int.ofNat ac)]] 1)::_) rfl rfl rfl .here rfl rfl<|Wn<|Wq<|Wa .mkmap λb28=>Wr (.mkfn rfl rfl)<|Ww<|WS.ins rfl rfl rfl .here rfl<|Wr (.mkfn rfl rfl)<|Ww<|WS.ins rfl rfl rfl .here rfl<|Wr (.mkfn rfl rfl)<|Ww<|WS.ins rfl rfl rfl .here rfl<|Wr (.mkfn rfl rfl)<|Ww<|WS.ins rfl rfl rfl .here rfl<|Wv rfl<|Wv rfl<|Wn<|Ws<|Wq<|Wv rfl<|Wv rfl<|Wr (.look rfl rfl .here rfl)<|Wv rfl<|Wr (.extract rfl rfl)<|Wr (.extract rfl rfl)<|Wv rfl<|Wv rfl<|Wn<|Wq<|Wv rfl<|Wn<|Wd rfl (λ_=>Wo<|Wv rfl ?_) Dz
 have Gt:({ d with ph:=.ofNat 1 }:SD).pl[ac]?=some o:=ho
 refine Ww<|WS.call (vs:=[]) rfl rfl (c6.func<|ad8 N hP hT1 (by omega) cM dM (Int.le_trans YI<|by decide) (.there<|.there<|.there hf) (eQ.mono λq hq=>by simp[hq]) (by rw[List.length_append,List.length_singleton];omega) (b2:=b2) (b4:=b4) (b5:=b5) (.there<|.there .here) (.there .here) .here<|aH.bK (m:=[_])<|gw.cons (p:=(b5,HO.r false [[iv (.ofNat ac)]] 1))) ?_
 rintro _ s4 ⟨E2,D2,k1,k2,pM⟩
 refine Wn ?_
 obtain⟨o2,ho2⟩:∃o,D2.pl[ac]?=some o:=⟨_,List.getElem?_eq_getElem (by rw[k2.te.pl];exact dM)⟩
 rw[List.length_append,List.length_singleton]at k1
 refine Wg (bX rfl) (λ_ _ h=>h)<|aad N hP (.of k2.te) (by omega) cM (w:=0) (by omega) dM ho2 hf (by omega) pM λE3 q l2 s5 j1 j2 j3=>Wm .nil<|hR E3 D2 q s5 (by omega) ?_ k2 j3
 rw[j2]
 unfold aal
 split
 ·exact qc dM
 ·exact dM
theorem aaU (N:NEnv P K F T tF)(hP:gK C)(h:TE n f d)(hn:n<=400)(cM:f<=90)(hac:d.ac=.ofNat ac)(dM:ac<3){o:LD}(ho:d.pl[ac]?=some o)(hf:Has bf (.r false [bu bl aZ c0 c1 c2 c3 c4 bE] 8) t)(eQ:cI t aZ C)(hE:EL.length<=2900)(hs:aH bl EL d t s)
  (hR:∀E2 q s2,E2.length<=EL.length+10->q<3->aH bl E2 { d with ph:=.ofNat 5,bl:=1,pr:=.ofNat q,pa:=0 } t s2->R s2) :
  bB P K (F 413) [gm tF bf,iv<|.ofNat 5] s (λ_ s'=>R s'):=by
 have hge:=h.ge N hP (by omega) cM
 have e13:binV .lss (iv<|.ofNat 5) (iv<|.ofNat 0)=some (.bool false):=rfl
 have e17:binV .gtr (iv<|.ofNat 5) (iv<|.ofNat 9)=some (.bool false):=rfl
 refine N.hV.ael.cF ?_
 unfold adk
 refine Wq<|Wa (.box rfl rfl) λb2=>Wn<|Ws<|Wq<|Wl rfl .here rfl rfl rfl<|Wh (b:=false) rfl rfl rfl<|Wv rfl<|Wy<|Wv rfl<|Wy<|Wj rfl rfl e17<|Wr (.bj rfl rfl)<|Wv rfl<|Wy<|Wv rfl<|Wy<|Wj rfl rfl e17<|Wr (.bj rfl rfl)<|Wn<|Wd rfl fS<|λ_=>Wi<|Wq<|Wl rfl .here rfl rfl rfl<|Wr (.build rfl rfl)<|Wa (.alloc rfl) λb4=>Ww<|Wt (s':=(b4,.r false [bI [] (bI (Prod.snd (Prod.fst (0,1,Operand.tmp 19),[gm tF bf]))<|cu (aK<|Prod.snd (Prod.fst (0,1,Operand.tmp 19),[gm tF bf]))<|cu (Prod.fst (Prod.fst (0,1,Operand.tmp 19),[gm tF bf])) [AV.nilIface])] 1)::_) rfl rfl rfl .here rfl rfl<|Wn<|Wq<|Wl (cs:=bI []<|bI (Prod.snd (Prod.fst (0,1,Operand.tmp 19),[gm tF bf]))<|cu (aK<|Prod.snd (Prod.fst (0,1,Operand.tmp 19),[gm tF bf]))<|cu (Prod.fst (Prod.fst (0,1,Operand.tmp 19),[gm tF bf])) [AV.nilIface]) rfl .here rfl rfl rfl<|Wv rfl ?_
 have nr:aH bl EL d ((b4,HO.r false [[gm tF bf]] 1)::(b2,HO.r false [[gm tF bf]] 1)::t) ((b4,HO.r false [[gm tF bf]] 1)::(b2,HO.r false [[gm tF bf]] 1)::s):=hs.cons.cons
 refine Ww<|W1 ((TG N h (by omega) cM (p:=5)<|by omega).go (.there<|.there hf) (by omega) nr) ?_
 intro _ s2 dt
 have hT1:TE n f { d with ph:=.ofNat 5 }:=h.other (tu:=d.tu) (ac:=d.ac) (ph:=.ofNat 5) (pr:=d.pr) (pa:=d.pa) (bl:=d.bl) h.pl
 have aau:=hT1.ge N hP (by omega) cM
 have hb4:=dt.mem .here
 have zB:=dt.mem<|.there .here
 refine Wn<|Wq<|Wf rfl<|Wl rfl hb4 rfl rfl rfl<|Ww<|WS.invoke (vs:=[]) rfl (N.info ) rfl ( kM N.hB N.hI N.t128 dt aau.hd (.there<|.there hf)) ?_
 rintro _ s3 ⟨rfl,gw⟩
 have l1:part false (dh { d with ph:=.ofNat 5 }) 1 1=some (iv<|.ofNat ac):=by show some (iv d.ac)=_;rw[hac]
 refine Wr (.fld rfl l1)<|Wa (.alloc rfl) λb5=>Ww<|Wt (s':=(b5,.r false [[iv (Int.ofNat ac)]] 1)::_) rfl rfl rfl .here rfl rfl<|Wn<|Wq<|Wa .mkmap λb28=>Wr (.mkfn rfl rfl)<|Ww<|WS.ins rfl rfl rfl .here rfl<|Wr (.mkfn rfl rfl)<|Ww<|WS.ins rfl rfl rfl .here rfl<|Wr (.mkfn rfl rfl)<|Ww<|WS.ins rfl rfl rfl .here rfl<|Wr (.mkfn rfl rfl)<|Ww<|WS.ins rfl rfl rfl .here rfl<|Wv rfl<|Wv rfl<|Wn<|Ws<|Wq<|Wv rfl<|Wv rfl<|Wr (.look rfl rfl .here rfl)<|Wv rfl<|Wr (.extract rfl rfl)<|Wr (.extract rfl rfl)<|Wv rfl<|Wv rfl<|Wn<|Wq<|Wv rfl<|Wn<|Wd rfl (λ_=>Wo<|Wv rfl ?_) Dz
 have Gt:({ d with ph:=.ofNat 5 }:SD).pl[ac]?=some o:=ho
 have hT2:TE n f { d with ph:=.ofNat 5,bl:=1 }:=h.other (tu:=d.tu) (ac:=d.ac) (ph:=.ofNat 5) (pr:=d.pr) (pa:=d.pa) (bl:=1) h.pl
 refine Ww<|WS.call (vs:=[]) rfl rfl (c6.func<|ad9 N hP hT1 (by omega) cM (.there<|.there<|.there hf) (by rw[List.length_append,List.length_singleton];omega) (b4:=b4) (.there .here)<|aH.bK (m:=[_])<|gw.cons (p:=(b5,HO.r false [[iv (.ofNat ac)]] 1))) ?_
 intro _ s4 pM
 refine Wn ?_
 refine Wg (bX rfl) (λ_ _ h=>h)<|aad N hP (.of hT2) (by omega) cM (w:=0) (by omega) dM (o:=o) ho hf (by rw[List.length_append,List.length_append,List.length_singleton,List.length_singleton];omega) pM λE3 q l2 s5 j1 j2 j3=>Wm .nil<|hR E3 q s5 (by rw[j1,List.length_append,List.length_append,List.length_singleton,List.length_singleton];omega) ?_ j3
 rw[j2]
 unfold aal
 split
 ·exact qc dM
 ·exact dM
theorem abV {g:ED->CH->CH}(hE:GE P K F T tF g C d)(hY:BaseY P K F T)(hH:BaseP P K F T)(hf:Has bf (.r false [bu bl aZ c0 c1 c2 c3 c4 bE] 8) t)(eQ:cI t aZ C)(hn:d.fi.length<=400)(hall:∀id∈d.fi,∃o,d.obj id=some o)(hi:∀o∈d.ob,Idle o)(hs:aH bl EL d t s) :
  bB P K (F 85) [gm tF bf] s (λ_ s'=>aH bl EL d t s'):=by
 refine hH.f85.cF ?_
 unfold a85
 refine Vk (k:=Ww<|W1 (abK hY rfl) ?_)
 rintro _ _ ⟨b9,rfl,rfl⟩
 have nr:aH bl EL d ((b9,HO.r false [[gm tF bf]] 1)::t) ((b9,HO.r false [[gm tF bf]] 1)::s):=hs.cons
 have hI1:=abr (bl:=bl) (EL:=EL) (t:=(b9,HO.r false [[gm tF bf]] 1)::t) hE hY (.there hf) (eQ.mono λq hq=>by simp[hq]) .here hn hall
 have Ue:∀x∈beastsT g d C d.fi,x.o.NP=0:=by
  intro x hx
  obtain⟨id,_,h1⟩:=List.mem_filterMap.1 hx
  split at h1
  ·next ho _=>
   cases h1
   obtain⟨_,_,_,_,hm⟩:=abF ho
   exact(hi _ hm).at_
  ·nomatch h1
 have hll:(beastsT g d C d.fi).length<=d.fi.length:=List.length_filterMap_le ..
 generalize beastsT g d C d.fi=L at hI1 Ue hll
 refine Ww<|W1 (acn hH nr hI1) ?_
 rintro av s2 ⟨m,dt,xD⟩
 have ajy:=xD.part
 have amL:lenOf av=some L.length:=by rw[xD.lenOf];simp[btR]
 refine Wr (.build (cs:=[nilS,av]) (by simp only[bparts,aI,opl,lk,ajy];rfl) rfl)<|Wa (.box rfl rfl) λNQ=>Vk (k:=?_)
 have gw:aH bl EL d ((NQ,HO.r false [[nilS,av]] 2)::(m++((b9,HO.r false [[gm tF bf]] 1)::t))) ((NQ,HO.r false [[nilS,av]] 2)::s2):=dt.cons
 have aje:Src ((NQ,HO.r false [[nilS,av]] 2)::(m++((b9,HO.r false [[gm tF bf]] 1)::t))) 17 av (btR L):=xD.mono λq hq=>by simp[hq]
 refine Wp (λk l ds s'=>ds=[]/\∃q,k=L.length-q/\q<=L.length/\aH bl EL d ((NQ,HO.r false [[nilS,av]] 2)::(m++((b9,HO.r false [[gm tF bf]] 1)::t))) s'/\∀i w,lk [(0,gm tF bf),(2,.ptr<|some ⟨NQ,0,0⟩),(16,av),(17,iv<|.ofNat L.length),(18,iv<|.ofNat q)] i=some w->lk l i=some w) ?_ (n:=L.length-0)
  ⟨rfl,0,rfl,Nat.zero_le _,gw,bX rfl⟩
 rintro k l ds s5 ⟨rfl,q,rfl,hq,tn,hl⟩
 refine Wg hl (λ_ _ h=>h) ?_
 have amm:=tn.mem .here
 by_cases hlt:q<L.length
 rotate_left
 ·have e1:=qa hlt
  have lz:lenOf nilS=some 0:=rfl
  have z1:binV .lss (iv<|.ofNat 0) (iv<|.ofNat 0)=some (.bool false):=rfl
  refine Vk (k:=Wx<|Vk (k:=WP.dA<|Vk (k:=Wx<|Wm .nil ?_)))
  exact tn.tail.fb.tail
 have e1:=qb hlt
 have hx:L[q]?=some L[q]:=List.getElem?_eq_getElem hlt
 have KP:L[q]∈L:=List.getElem_mem _
 generalize L[q]=x at hx KP
 obtain⟨ba,ra,na,ca,J5,Sp,Ma,e4,hba,me,hra⟩:=aje.at (i:=q)<|by simpa[btR]using hlt
 have hrow:Ma[ra+q]?=some x.row:=by rw[hra,btR,List.getElem?_map,hx];rfl
 subst e4
 have adE:=tn.mem hba
 have hgt:binV .gtr (iv x.o.NP) (iv 0)=some (.bool false):=by rw[Ue x KP];rfl
 refine Vk (k:=λb4=>Vk (k:=?_))
 refine Vk (k:=?_)
 exact⟨L.length-(q+1),by omega,rfl,q+1,rfl,hlt,tn.bK (m:=[_]),bX rfl⟩
theorem aea (N:NEnv P K F T tF)(hP:gK C)(h:TE n f d)(hn:n<=400)(cM:f<=90)(hf:Has bf (.r false [bu bl aZ c0 c1 c2 c3 c4 bE] 8) t)(eQ:cI t aZ C)(h2:Has b2 (.r false [[gm tF bf]] 1) t)(hs:aH bl EL d t s) :
  bB P K (F 447) [.ptr (some ⟨b2,0,0⟩)] s (λ_ s'=>aH bl EL d t s'):=by
 have XI:=hs.mem h2
 refine N.hV.ai5.cF ?_
 unfold ahe
 refine Vk (k:=Ww<|W1 (abV (h.ge N hP (by omega) cM) N.hY N.hH hf eQ (Nat.le_trans h.fn<|by omega) h.all (λo ho=>(h.o o ho).id) hs) ?_)
 intro _ s2 hh
 refine Wn<|Wm .nil ?_
 exact hh

end
end
end Go.Ev
