/- Walks and rules. Conditions: none. -/
import Derived.Test.YtbgjkfbeofbngaaGreatEvK
set_option linter.unusedVariables false
set_option linter.unusedSectionVars false
namespace Go.Ev
noncomputable section
section
variable {P:Program}{K:Orc}{rd:Option Nat}{nt:Nat}{l:Sl}{ds:List aD}{s:SH}{Q Qn Qr:Po}{Qe:Nat->Po}{F:Nat->FuncId}{T:Nat->TypeId}
variable {L:List (List AV)}{p:Nat}
theorem Gr.put {sz:Nat}{v:AV}{o:SH}(h:Gr sz v L o)(hp:p<L.length):∃b c M,v=.slice (some ⟨b,0,0⟩) L.length c true sz/\o=[(b,.r false (L++M) sz)]/\∀row',Gr sz (.slice (some ⟨b,0,0⟩) L.length c true sz) (L.set p row') [(b,.r false ((L++M).set p row') sz)]:=by
 cases h with
 | nil=>exact absurd hp<|Nat.not_lt_zero _
 | zero=>exact absurd hp<|Nat.not_lt_zero _
 | @rows b n c L M hn hc hL=>
  subst hn
  refine⟨b,c,M,rfl,rfl,λrow'=>?_⟩
  rw[List.set_append_left _ _ hp]
  exact .rows (by simp) (by simp[hc]) hL
theorem iJ.afO {n:SH}{pv ov lv hv gv ev fv sv wv:AV}{d:SD}(h:iJ n pv ov lv hv gv ev fv sv wv d):∃o r,n.Perm (o++r)/\Gr 8 pv (Am d.pl) o/\∀pv' l' o',Gr 8 pv' (Am l') o'->iJ (o'++r) pv' ov lv hv gv ev fv sv wv { d with pl:=l' }:=by
 obtain⟨o1,o2,o3,o4,o5,o6,o7,o8,o9,j,hp,g1,g2,g3,g4,g5,g6,g7,g8,g9⟩:=h.ex
 exact⟨o1,o2++(o3++(o4++(o5++(o6++(o7++(o8++(o9++j))))))),hp,g1,λv' l' o' g'=>⟨o',o2,o3,o4,o5,o6,o7,o8,o9,j,.refl _,g',g2,g3,g4,g5,g6,g7,g8,g9⟩⟩
theorem afc (hL:BaseL P K F T){b r:Nat}{row row' ec:List AV}{s':SH}(hb:oY b (.r false L 8) (.r false (L.set r row') 8) s s')(hr:L[r]?=some row)(hc:fK row 6 [.bool true]=some row')(he:ec.length=13)(hec:partCells 13 (.agg ec)=some ec) :
  bB P K (F 269) [.ptr (some ⟨b,r,0⟩),.agg ec] s (λ_ s2=>∃m,s2=m++s'):=by
 refine hL.f269.cF ?_
 refine Vk (k:=Wa (.box rfl hec) λb3=>Wn ?_)
 exact Wo<|Wv rfl<|Wr (.nilchk rfl rfl)<|Wf rfl<|Ww<|Wt rfl rfl rfl (.there hb) hr hc<|Wn<|Wm .nil ⟨[_],rfl⟩
variable {o:LD}{n b k m:Int}{bw bd bx:Nat}{it:ID}
theorem adh (hL:BaseL P K F T){d:SD}{t:SH}(hs:WH bw d t s)(hbd:Has bd (.r false [[.func (F 269) [] []]] 1) t)(PA:Has bx (.r false [[.ptr (some ⟨bw,0,0⟩)]] 1) t)(ho:d.pl[p]?=some o) :
  c6 P K (.func (F 264) [] [.ptr (some ⟨bd,0,0⟩),.ptr<|some ⟨bx,0,0⟩]) [.agg (evRow k (.ofNat p) b n m it)] s (λ_ s'=>WH bw { d with pl:=d.pl.set p { o with f2:=true } } t s'):=by
 have hp:p<d.pl.length:=(List.getElem?_eq_some_iff.1 ho).1
 obtain⟨pv,ov,lv,hv,gv,ev,fv,sv,wv,nn,k1,k2⟩:=hs
 obtain⟨op,r,kp,g,back⟩:=k2.afO
 obtain⟨bp,c,M,rfl,rfl,put⟩:=g.put (p:=p)<|by simpa[Am]using hp
 have hlen:(Am d.pl).length=d.pl.length:=by simp[Am]
 have hrow:(Am d.pl++M)[p]?=some o.row:=by
  rw[List.getElem?_append_left (by omega),Am,List.getElem?_map,ho];rfl
 refine c6.func<|bB.perm (s:=(bp,.r false (Am d.pl++M) 8)::(bw,.r false [d.cells (.slice (some ⟨bp,0,0⟩) (Am d.pl).length c true 8) ov lv hv gv ev fv sv wv] 25)::(r++t)) (ak λc w h0 h1 h2 hq=>by rw[hq _ _ k1];simp only[h1,h2,h0,hq _ _ kp];omega) ?_
 refine hL.f264.cF ?_
 refine Wq<|Wa (.box rfl rfl) λb3=>Wn<|WP.bD<|Dl rfl .nil (.load rfl (.there<|.there<|.there<|.app hbd) rfl rfl rfl)<|Dl rfl .nil (.load rfl (.there<|.there<|.there<|.app PA) rfl rfl rfl)<|Dp (.nilchk rfl rfl)<|Dp (.faddr rfl)<|Dp (.faddr rfl)<|Dl rfl .nil (.load rfl (.there<|.there .here) rfl rfl rfl)<|Dp (.faddr rfl)<|Dl rfl .nil (.load rfl .here rfl rfl rfl)<|Dp (.iaddrS rfl rfl (by omega)<|by decide)<|Dl rfl .nil (.load rfl .here rfl rfl rfl)<|Dc .nil<|Wz [.ptr (some ⟨bp,0+p,0⟩),.agg<|evRow k (.ofNat p) b n m it] rfl rfl (afc hL (.there .here) (by rw[Nat.zero_add];exact hrow) rfl rfl rfl) ?_
 rintro w _ ⟨mm,rfl⟩
 refine D0 .nil (Wm .nil ?_)<|λo h=>nomatch h
 have g':=back _ (d.pl.set p { o with f2:=true }) [(bp,.r false ((Am d.pl++M).set p ({ o with f2:=true }:LD).row) 8)] (by
  have:=put ({ o with f2:=true }:LD).row
  rw[show Am (d.pl.set p { o with f2:=true })=(Am d.pl).set p ({ o with f2:=true }:LD).row from by simp[Am,List.map_set]]
  exact this)
 refine⟨_,ov,lv,hv,gv,ev,fv,sv,wv,mm++[(b3,.r false [evRow k (.ofNat p) b n m it] 13)]++((bp,.r false ((Am d.pl++M).set p ({ o with f2:=true }:LD).row) 8)::r),?_,g'.bK⟩
 rw[Nat.zero_add]
 show List.Perm (mm++((b3,HO.r false [evRow k (.ofNat p) b n m it] 13)::(bp,HO.r false ((Am d.pl++M).set p ({ o with f2:=true }:LD).row) 8)::(bw,HO.r false [({ d with pl:=d.pl.set p { o with f2:=true } }:SD).cells (.slice (some ⟨bp,0,0⟩) (Am d.pl).length c true 8) ov lv hv gv ev fv sv wv] 25)::(r++t))) _
 exact kT
theorem ac6 (hB:Base P K F T)(hL:BaseL P K F T){d:SD}(hd:d.Small)(he:d.kQ)(ho:d.pl[p]?=some o)(lm:∀s,bB P K (F 201) [.agg (evRow 23 (.ofNat p) b n m it)] s (λv s'=>v=iv 0/\s'=s)) :
  Ap P K F 23 (.ofNat p) b n m it d { d with pl:=d.pl.set p { o with f2:=true } }:=
 yH (k:=23) hB hd lm (aab hB<|by simp) (λ{_ _ _ _ v} hv hW=>by
  obtain⟨bd,bx,rfl,_⟩:=(show iP F _ _ v true false false 264 269 from hv)
  exact aaD hB hW hd he (k:=23) (by omega) (by omega) (by omega) (by omega) (List.getElem?_eq_some_iff.1 ho).1) (λ{_ _ _ _ _ _ _} hv hW=>by
  obtain⟨bd,bx,hv,h1,h2⟩:=(show iP F _ _ _ true false false 264 269 from hv)
  cases hv
  exact adh hL hW h1 h2 ho)
open Go.Proofs
set_option maxRecDepth 100000
def a38:CF:=NF (cd 106 18) _
def a92:CF:=NF (cd 175 21) _
def a93:CF:=NF (cd 176 5) _
def a94:CF:=NF (cd 177 6) _
def a95:CF:=NF (cd 178 6) _
def akX:CF:=NF (cd 233 72) _
def akY:CF:=NF (cd 234 30) _
def akZ:CF:=NF (cd 235 40) _
def ak0:CF:=NF (cd 236 35) _
def ak1:CF:=NF (cd 237 73) _
def ak2:CF:=NF (cd 238 30) _
def ak3:CF:=NF (cd 239 24) _
structure BaseU (P:Program)(K:Orc)(F:Nat->FuncId)(T:Nat->TypeId):Prop where
variable {bf:Nat}{bl:Nat}{aZ:AV}{bE:AV}{c0:Int}{c1:Int}{c2:Int}{c3:Int}{c4:Int}{EL:List (List AV)}{d:SD}{t:SH}
theorem afq (hB:Base P K F T)(hC:BaseC P K F T){z:Int}{lst:List Int}{put:List Int->SD}(hs:aH bl EL d t s)(hd:d.Small)(he:d.kQ)(hf:Has bf (.r false [bu bl aZ c0 c1 c2 c3 c4 bE] 8) t)(hp:p<d.pl.length)(hz:d.ci z p=some (lst,put))(hn:lst.length<=1000) :
  bB P K (F 36) [.ptr (some ⟨bf,0,0⟩),iv z,iv<|.ofNat p] s (λv s'=>∃m,aH bl EL d (m++t) s'/\Src m 1 v (nR lst)):=by
 refine hC.f36.cF ?_
 refine Vk (k:=Ww<|W1 (qb hB hs hd hf) ?_)
 rintro w s2 ⟨m,dt,pv,ov,lv,hv,gv,ev,fv,sv,wv,rfl,hR⟩
 obtain⟨u,hu,back⟩:=dt.split
 have h90:bB P K (F 90) [.agg (d.cells pv ov lv hv gv ev fv sv wv),iv z,iv<|.ofNat p] s2 (λv s'=>∃m,aH bl EL d (m++t) s'/\Src m 1 v (nR lst)):=by
  refine hC.f90.cF ?_
  refine Vk (k:=λb3=>Vk (k:=Wr (.build (cs:=d.cells pv ov lv hv gv ev fv sv wv) rfl rfl)<|Wa (.box rfl rfl) λb7=>Vk (k:=?_)))
  have hW:WH b7 d ((b3,.r false [d.cells pv ov lv hv gv ev fv sv wv] 25)::(u++t)) ((b7,.r false [d.cells pv ov lv hv gv ev fv sv wv] 25)::(b3,.r false [d.cells pv ov lv hv gv ev fv sv wv] 25)::s2):=
   ⟨pv,ov,lv,hv,gv,ev,fv,sv,wv,m,ak λc w h0 h1 h2 hq=>by simp only[h1,h2,hq _ _ hu];omega,hR⟩
  refine Vk (k:=Ww<|W1 (ry hB hW he hp) ?_)
  rintro w s4 ⟨_,hP⟩
  rw[hz]at hP
  obtain⟨b,r,o,sz,L,row,x,oi,rest,rfl,hq4,hr,hx,hG,_⟩:=hP
  refine Wv rfl<|Wn<|WP.pre hq4<|Vk (k:=Ww<|W1 (hB.VS.clone (hG.out.src.mono λp hp=>by simp[hp]) (by omega) (by rw[gq];omega)<|by omega) ?_)
  rintro w _ ⟨m5,rfl,hO⟩
  refine Wv rfl<|Wn<|We<|Wm (.tmp rfl .nil) ⟨m5++((b,.r false L sz)::(oi++(rest++[(b3,.r false [d.cells pv ov lv hv gv ev fv sv wv] 25)]))),?_,hO.src.mono λp hp=>by simp[hp]⟩
  exact(back _).perm (kT)
 exact Vk (k:=Ww<|W1 h90 λw s5 h5=>Vk (k:=We<|Wm (.tmp rfl .nil) h5))
structure GE (P:Program)(K:Orc)(F:Nat->FuncId)(T:Nat->TypeId)(tF:TypeId)(g:ED->CH->CH)(C:List CD)(d:SD):Prop where
 hB:Base P K F T
 hC:BaseC P K F T
 hG:BaseG P K F T
 hT:TyC P T
 hM:acK P F tF
 hU:BaseU P K F T
 hI:BaseB P K F T
 info:meth P tF "Info"=some (F 58)
 t128:Ty P (T 128) 13
 hd:d.Small
 he:d.kQ
 hO:nG P K F g d C
@[reducible] def gm (tF:TypeId)(bf:Nat):AV:=.iface tF (.ptr (some ⟨bf,0,0⟩))
variable {tF:TypeId}{g:ED->CH->CH}{C:List CD}{tl:AD->List Nat}
theorem abF (ad7:FnK P K (F 264) 15 [] (aeG F T)){fn:FuncId}{o':LD}(hs:WH bw d t s)(hbd:Has bd (.r false [[.func fn [] []]] 1) t)(PA:Has bx (.r false [[.ptr (some ⟨bw,0,0⟩)]] 1) t)(ho:d.pl[p]?=some o)
  (hin:∀{s s':SH}{bp:Nat}{L:List (List AV)},oY bp (.r false L 8) (.r false (L.set p o'.row) 8) s s'->L[p]?=some o.row->bB P K fn [.ptr (some ⟨bp,p,0⟩),.agg<|evRow k (.ofNat p) b n m it] s (λ_ s2=>∃m,s2=m++s')) :
  c6 P K (.func (F 264) [] [.ptr (some ⟨bd,0,0⟩),.ptr<|some ⟨bx,0,0⟩]) [.agg (evRow k (.ofNat p) b n m it)] s (λ_ s'=>WH bw { d with pl:=d.pl.set p o' } t s'):=by
 have hp:p<d.pl.length:=(List.getElem?_eq_some_iff.1 ho).1
 obtain⟨pv,ov,lv,hv,gv,ev,fv,sv,wv,nn,k1,k2⟩:=hs
 obtain⟨op,r,kp,g,back⟩:=k2.afO
 obtain⟨bp,c,M,rfl,rfl,put⟩:=g.put (p:=p)<|by simpa[Am]using hp
 have hlen:(Am d.pl).length=d.pl.length:=by simp[Am]
 have hrow:(Am d.pl++M)[p]?=some o.row:=by
  rw[List.getElem?_append_left (by omega),Am,List.getElem?_map,ho];rfl
 refine c6.func<|bB.perm (s:=(bp,.r false (Am d.pl++M) 8)::(bw,.r false [d.cells (.slice (some ⟨bp,0,0⟩) (Am d.pl).length c true 8) ov lv hv gv ev fv sv wv] 25)::(r++t)) (ak λc w h0 h1 h2 hq=>by rw[hq _ _ k1];simp only[h1,h2,h0,hq _ _ kp];omega) ?_
 refine ad7.cF ?_
 refine Wq<|Wa (.box rfl rfl) λb3=>Wn ?_
 refine WP.bD<|Dl rfl .nil (.load rfl (.there<|.there<|.there<|.app hbd) rfl rfl rfl)<|Dl rfl .nil (.load rfl (.there<|.there<|.there<|.app PA) rfl rfl rfl)<|Dp (.nilchk rfl rfl)<|Dp (.faddr rfl)<|Dp (.faddr rfl)<|Dl rfl .nil (.load rfl (.there<|.there .here) rfl rfl rfl)<|Dp (.faddr rfl)<|Dl rfl .nil (.load rfl .here rfl rfl rfl)<|Dp (.iaddrS rfl rfl (by omega)<|by decide) ?_
 rw[show Nat.add 0 p=p from Nat.zero_add p]
 refine Dl rfl .nil (.load rfl .here rfl rfl rfl)<|Dc .nil<|W1 (hin (s':=(b3,.r false [evRow k (.ofNat p) b n m it] 13)::(bp,.r false ((Am d.pl++M).set p o'.row) 8)::(bw,.r false [d.cells (.slice (some ⟨bp,0,0⟩) (Am d.pl).length c true 8) ov lv hv gv ev fv sv wv] 25)::(r++t)) (.there .here) hrow) ?_
 rintro w _ ⟨mm,rfl⟩
 refine D0 .nil (Wm .nil ?_)<|λo h=>nomatch h
 have g':=back _ (d.pl.set p o') [(bp,.r false ((Am d.pl++M).set p o'.row) 8)] (by
  have:=put o'.row
  rw[show Am (d.pl.set p o')=(Am d.pl).set p o'.row from by simp[Am,List.map_set]]
  exact this)
 refine⟨_,ov,lv,hv,gv,ev,fv,sv,wv,mm++[(b3,.r false [evRow k (.ofNat p) b n m it] 13)]++((bp,.r false ((Am d.pl++M).set p o'.row) 8)::r),?_,g'.bK⟩
 show List.Perm (mm++((b3,HO.r false [evRow k (.ofNat p) b n m it] 13)::(bp,HO.r false ((Am d.pl++M).set p o'.row) 8)::(bw,HO.r false [({ d with pl:=d.pl.set p o' }:SD).cells (.slice (some ⟨bp,0,0⟩) (Am d.pl).length c true 8) ov lv hv gv ev fv sv wv] 25)::(r++t))) _
 exact kT
def af9 (v:V)(i:Nat):Bool:=Nat.beq v.t 13&&Nat.beq v.a i
end
section
variable [Sg]{P:Program}{K:Orc}{F:Nat->FuncId}{T:Nat->TypeId}
theorem acR {v w:V}{i:Nat}{a b:AV}(h:af9 v i=true)(hv:VA v a)(hw:VA w b)(h1:w.t=13)(h2:w.a=i):a=b:=by
 obtain⟨k1,k2⟩:=Bool.and_eq_true_iff.1 h
 have e1:=(hv.mP<|Nat.eq_of_beq_eq_true k1).1
 rw[Nat.eq_of_beq_eq_true k2]at e1
 have e2:=(hw.mP h1).1
 rw[h2]at e2
 rw[e1,e2]
end
section
variable {P:Program}{K:Orc}
theorem WOa.r {d:Option Nat}{op:AOp}{rest:List bS}{v:AV}{l:Sl}{e:Tr AV}{ds:List aD}{H H0:Heap}{Q:Po}(h:WR P op l [] v)(he:En l e)(k:WOa P K rest (putO e d v) ds H H0 Q):WOa P K (⟨d,op,none⟩::rest) e ds H H0 Q:=by
 have hp:Hp ⟨.lf,0⟩ [] H:=⟨Nat.zero_le _,(λb o hb=>nomatch hb),List.Pairwise.nil,λb hb=>absurd hb<|Nat.not_lt_zero _⟩
 exact WOa.cons ⟨0,(h.q P _ (bL e) ds H).trans (by rw[h.h _ e H he hp])⟩ k
end
section
variable [Sg]{P:Program}{K:Orc}{F:Nat->FuncId}{T:Nat->TypeId}
end
open Go.Proofs
set_option maxRecDepth 100000
def aiv:CF:=NF (cd 306 11) _
def aiw:CF:=NF (cd 307 17) _
def ak8:CF:=NF (cd 308 10) _
def ak9:CF:=NF (cd 309 10) _
def ald:CF:=NF (cd 315 9) _
structure BaseX (P:Program)(K:Orc)(F:Nat->FuncId)(T:Nat->TypeId):Prop where
 f248:FnK P K (F 248) 11 [] (aiv F T)
 f249:FnK P K (F 249) 17 [(.tmp 4)] (aiw F T)
section
variable {P:Program}{K:Orc}{rd:Option Nat}{nt:Nat}{l:Sl}{ds:List aD}{s:SH}{Q Qn Qr:Po}{Qe:Nat->Po}{F:Nat->FuncId}{T:Nat->TypeId}
theorem afm (k a b n m:Int)(it:ID):dz (.agg (evRow k a b n m it)) (.agg (evRow k a b n m it))=true:=by
 show sameL (sameN 5) (evRow k a b n m it) (evRow k a b n m it)=true
 simp[sameL,sameN,same0,gd,keq]
theorem afn (f:FuncId):dz (.func f [] []) (.func f [] [])=true:=by
 simp[dz,sameN,sameL]
variable {bw bp i:Nat}{pv lv hv gv ev fv sv wv:AV}{a:Int}
theorem ady (hB:Base P K F T)(hX:BaseX P K F T){n c:Nat}{d:SD}(hb:Has bw (.r false [d.cells pv (.slice (some ⟨bp,0,0⟩) n c true 14) lv hv gv ev fv sv wv] 25) s)(hs:Src s 14 (.slice (some ⟨bp,0,0⟩) n c true 14) (fy d.ob))(gK:d.Small)(hi:d.find a=some i)(hin:i<n) :
  bB P K (F 249) [.ptr (some ⟨bw,0,0⟩),iv a] s (λv s'=>v=.ptr (some ⟨bp,0+i,0⟩)/\∃m,s'=m++s):=by
 have Y0:=gK.n1
 refine hX.f249.cF ?_
 refine Vk (k:=WP.bD<|Dp (.mv rfl)<|Dp (.nilchk rfl rfl)<|Dp (.faddr rfl)<|Dp (.faddr rfl)<|WD.lk rfl .nil (.load rfl hb rfl rfl rfl)<|Dp (.mv rfl)<|Dp (.nilchk rfl rfl)<|Dp (.faddr rfl)<|Dl rfl .nil (.load (cs:=d.cells pv (.slice (some ⟨bp,0,0⟩) n c true 14) lv hv gv ev fv sv wv) rfl hb rfl rfl rfl)<|Dp (.mv rfl)<|Dc .nil<|W1 (lg hB hs gK) ?_)
 rintro w _ ⟨rfl,m,rfl⟩
 rw[hi]
 refine Dp (.iaddrS rfl rfl hin<|by decide)<|Dp (.mv rfl)<|D0 .nil (We<|Wm (.tmp rfl .nil) ⟨rfl,m,rfl⟩) ?_
 intro o ho
 rw[List.mem_singleton.1 ho]
 refine⟨λi hi=>(nomatch hi),Nat.zero_le _,hs.same,λk _ hk=>?_⟩
 rcases eb hk with rfl|rfl
 ·exact⟨_,rfl,.load rfl hb rfl rfl rfl⟩
 ·exact⟨_,rfl,.load rfl (.app hb) rfl rfl rfl⟩
variable {n k b m:Int}{o o':OD}{bx:Nat}{it:ID}
theorem ad4 (hB:Base P K F T)(hX:BaseX P K F T){fn:FuncId}{bd:Nat}{d:SD}{t:SH}(hs:WH bw d t s)(hbd:Has bd (.r false [[.func fn [] []]] 1) t)(PA:Has bx (.r false [[.ptr (some ⟨bw,0,0⟩)]] 1) t)(gK:d.Small)(hi:d.find a=some i)(ho:d.ob[i]?=some o)
  (hin:∀{s s':SH}{bp:Nat}{L:List (List AV)},oY bp (.r false L 14) (.r false (L.set i o'.row) 14) s s'->L[i]?=some o.row->bB P K fn [.ptr (some ⟨bp,i,0⟩),.agg<|evRow k a b n m it] s (λ_ s2=>∃m,s2=m++s')) :
  c6 P K (.func (F 248) [] [.ptr (some ⟨bd,0,0⟩),.ptr<|some ⟨bx,0,0⟩]) [.agg (evRow k a b n m it)] s (λ_ s'=>WH bw { d with ob:=d.ob.set i o' } t s'):=by
 have hil:i<d.ob.length:=(List.getElem?_eq_some_iff.1 ho).1
 obtain⟨pv,ov,lv,hv,gv,ev,fv,sv,wv,nn,k1,k2⟩:=hs
 obtain⟨op,r,kp,g,back⟩:=k2.xS
 have gs:=g
 obtain⟨bp,c,M,rfl,rfl,put⟩:=g.put (p:=i)<|by simpa[fy]using hil
 have hrow:(fy d.ob++M)[i]?=some o.row:=by
  rw[List.getElem?_append_left (by simpa[fy]using hil),fy,List.getElem?_map,ho];rfl
 refine c6.func<|bB.perm (s:=(bp,.r false (fy d.ob++M) 14)::(bw,.r false [d.cells pv (.slice (some ⟨bp,0,0⟩) (fy d.ob).length c true 14) lv hv gv ev fv sv wv] 25)::(r++t)) (ak λc w h0 h1 h2 hq=>by rw[hq _ _ k1];simp only[h1,h2,h0,hq _ _ kp];omega) ?_
 refine hX.f248.cF ?_
 refine Wq<|Wa (.box rfl rfl) λb3=>Wn<|WP.bD<|WD.lk rfl .nil (.load rfl (.there<|.there<|.there<|.app hbd) rfl rfl rfl)<|Dl rfl .nil (.load rfl (.there<|.there<|.there<|.app PA) rfl rfl rfl)<|Dp (.faddr rfl)<|Dl rfl .nil (.load rfl .here rfl rfl rfl)<|Dc .nil<|W1 (ady hB hX (.there<|.there .here) (gs.src (m:=[(b3,.r false [evRow k a b n m it] 13)])) gK hi<|by simpa[fy]using hil) ?_
 rintro w _ ⟨rfl,m4,rfl⟩
 refine WD.lk rfl .nil (.load (cs:=evRow k a b n m it) rfl (.app .here) rfl rfl rfl)<|Dc .nil<|Wz [.ptr (some ⟨bp,i,0⟩),.agg<|evRow k a b n m it] rfl (by rw[Nat.zero_add];rfl) (hin (s':=m4++((b3,.r false [evRow k a b n m it] 13)::(bp,.r false ((fy d.ob++M).set i o'.row) 14)::(bw,.r false [d.cells pv (.slice (some ⟨bp,0,0⟩) (fy d.ob).length c true 14) lv hv gv ev fv sv wv] 25)::(r++t))) (.app<|.there .here) hrow) ?_
 rintro w _ ⟨mm,rfl⟩
 refine D0 .nil (Wm .nil ?_) ?_
 ·have g':=back _ (d.ob.set i o') [(bp,.r false ((fy d.ob++M).set i o'.row) 14)] (by
   have:=put o'.row
   rw[show fy (d.ob.set i o')=(fy d.ob).set i o'.row from by simp[fy,List.map_set]]
   exact this)
  refine⟨pv,_,lv,hv,gv,ev,fv,sv,wv,(mm++(m4++[(b3,.r false [evRow k a b n m it] 13)]))++((bp,.r false ((fy d.ob++M).set i o'.row) 14)::r),?_,g'.bK⟩
  show List.Perm (mm++(m4++((b3,HO.r false [evRow k a b n m it] 13)::(bp,HO.r false ((fy d.ob++M).set i o'.row) 14)::(bw,HO.r false [({ d with ob:=d.ob.set i o' }:SD).cells pv (.slice (some ⟨bp,0,0⟩) (fy d.ob).length c true 14) lv hv gv ev fv sv wv] 25)::(r++t)))) _
  exact kT
 ·intro o2 uY
  rcases List.mem_cons.1 uY with rfl|uY
  ·refine⟨λj hj=>(nomatch hj),Nat.zero_le _,afm _ _ _ _ _ _,λj _ hj=>?_⟩
   rcases(by have:j<=1:=hj;omega:j=0\/j=1)with rfl|rfl
   ·exact⟨_,rfl,.load (cs:=evRow k a b n m it) rfl .here rfl rfl rfl⟩
   ·exact⟨_,rfl,.load (cs:=evRow k a b n m it) rfl (.app .here) rfl rfl rfl⟩
  ·rw[List.mem_singleton.1 uY]
   refine⟨λj hj=>(nomatch hj),Nat.zero_le _,afn _,λj _ hj=>?_⟩
   rcases(by have:j<=1:=hj;omega:j=0\/j=1)with rfl|rfl
   ·exact⟨_,rfl,.load rfl (.there<|.there<|.there<|.app hbd) rfl rfl rfl⟩
   ·exact⟨_,rfl,.load rfl (.app<|.there<|.there<|.there<|.app hbd) rfl rfl rfl⟩
variable {v:AV}
theorem aex {k g:Nat}{m:SH}(hk:k=3/\g=250\/k=4/\g=251\/k=5/\g=253\/k=6/\g=255\/k=12/\g=257\/k=14/\g=252)(hv:RV F bw m k v):iP F bw m v false true true 248 g:=by
 rcases hk with⟨rfl,rfl⟩|⟨rfl,rfl⟩|⟨rfl,rfl⟩|⟨rfl,rfl⟩|⟨rfl,rfl⟩|⟨rfl,rfl⟩<;>exact hv
theorem abM {k g:Nat}(hk:k=3/\g=250\/k=4/\g=251\/k=5/\g=253\/k=6/\g=255\/k=12/\g=257\/k=14/\g=252):k∈[3,4,14,5,6,11,12,13,10,2,25]/\(k:Int)≠13/\(k:Int)≠16/\(k:Int)≠18/\(k:Int)≠26:=by
 rcases hk with⟨rfl,_⟩|⟨rfl,_⟩|⟨rfl,_⟩|⟨rfl,_⟩|⟨rfl,_⟩|⟨rfl,_⟩<;>decide
theorem ac7 (hB:Base P K F T)(hX:BaseX P K F T){k:Nat}{g:Nat}{d:SD}(hd:d.Small)(he:d.kQ)(hk:k=3/\g=250\/k=4/\g=251\/k=5/\g=253\/k=6/\g=255\/k=12/\g=257\/k=14/\g=252)(hi:d.find a=some i)(ho:d.ob[i]?=some o)(hz:o.ci=2)
  (hin:∀{s s':SH}{bp:Nat}{L:List (List AV)},oY bp (.r false L 14) (.r false (L.set i o'.row) 14) s s'->L[i]?=some o.row->bB P K (F g) [.ptr (some ⟨bp,i,0⟩),.agg<|evRow k a b n m it] s (λ_ s2=>∃m,s2=m++s'))
  (lm:∀s,bB P K (F 201) [.agg (evRow k a b n m it)] s<|λv s'=>v=iv 0/\s'=s) :
  Ap P K F k a b n m it d { d with ob:=d.ob.set i o' }:=
 yH (k:=k) hB hd lm (FB hB (abM hk).1) (λ{_ _ _ _ v} hv hW=>by
  obtain⟨bd,bx,rfl,_⟩:=aex hk hv
  exact afe hB hW hd he (abM hk).2.1 (abM hk).2.2.1 (abM hk).2.2.2.1 (abM hk).2.2.2.2 hi ho hz) (λ{_ _ _ _ _ _ fn} hv hW=>by
  obtain⟨bd,bx,hv,h1,h2⟩:=aex hk hv
  cases hv
  exact ad4 hB hX hW h1 h2 hd hi ho hin)
variable {p:Nat}
theorem ad0 (hB:Base P K F T){d:SD}(hd:d.Small)(he:d.kQ)(hp:p<d.pl.length)(h1:0<=d.nx/\d.nx<=1000000)(h2:0<=d.sp/\d.sp<=1000000)(lm:∀s,bB P K (F 201) [.agg (evRow 1 (.ofNat p) b n m it)] s (λv s'=>v=iv 0/\s'=s)) :
  Ap P K F 1 (.ofNat p) b n m it d (d.add (pY p b n m) p):=
 yH (k:=1) hB hd lm (aab hB<|by simp) (λ{_ _ _ _ v} hv hW=>by
  obtain⟨bx,rfl,_⟩:=(show km F _ _ v true false false 265 from hv)
  exact aaD hB hW hd he (k:=1) (by omega) (by omega) (by omega) (by omega) hp) (λ{_ _ _ _ _ _ _} hv hW=>by
  obtain⟨bx,hv,hx⟩:=(show km F _ _ _ true false false 265 from hv)
  cases hv
  exact c6.func (B1 hB hW hx hd he hp h1 h2))
open Go.Proofs
set_option maxRecDepth 100000
def ahZ:CF:=NF (cd 78 53) _
def ah3:CF:=NF (cd 60 25) _
def akW:CF:=NF (cd 64 17) _
def afR:CF:=NF (cd 138 60) _
def ah7:CF:=NF (cd 147 30) _
def ak4:CF:=NF (cd 148 17) _
def aii:CF:=NF (cd 193 8) _
def aij:CF:=NF (cd 194 8) _
def aik:CF:=NF (cd 195 3) _
def ail:CF:=NF (cd 196 6) _
def aim:CF:=NF (cd 207 6) _
def ait:CF:=NF (cd 247 59) _
def aiu:CF:=NF (cd 252 70) _
def aiM:CF:=NF (cd 50 10) _
def aiN:CF:=NF (cd 132 11) _
def aiO:CF:=NF (cd 133 9) _
def aiP:CF:=NF (cd 134 15) _
def aiQ:CF:=NF (cd 192 19) _
structure BaseQ (P:Program)(K:Orc)(F:Nat->FuncId)(T:Nat->TypeId):Prop where
 f109:FnK P K (F 109) 53 [(.tmp 4)] (ahZ F T)
 f128:FnK P K (F 128) 25 [] (ah3 F T)
 f176:FnK P K (F 176) 60 [(.tmp 8)] (afR F T)
 f182:FnK P K (F 182) 30 [(.cell 6<|T 3),(.cell 7<|T 4)] (ah7 F T)
 f208:FnK P K (F 208) 8 [(.tmp 3)] (aii F T)
 f209:FnK P K (F 209) 8 [(.tmp 3)] (aij F T)
 f210:FnK P K (F 210) 3 [(.tmp 2)] (aik F T)
 f211:FnK P K (F 211) 6 [(.tmp 4)] (ail F T)
 f213:FnK P K (F 213) 6 [(.tmp 4)] (aim F T)
 f239:FnK P K (F 239) 59 [] (ait F T)
 f240:FnK P K (F 240) 70 [] (aiu F T)
 f346:FnK P K (F 346) 10 [(.tmp 6)] (aiM F T)
 f348:FnK P K (F 348) 11 [(.tmp 6)] (aiN F T)
 f349:FnK P K (F 349) 9 [(.tmp 4)] (aiO F T)
 f350:FnK P K (F 350) 15 [(.tmp 4)] (aiP F T)
 f351:FnK P K (F 351) 19 [(.tmp 4)] (aiQ F T)
def ala:CF:=NF (cd 310 10) _
def aix:CF:=NF (cd 311 15) _
def aiy:CF:=NF (cd 312 6) _
def alb:CF:=NF (cd 313 7) _
def alc:CF:=NF (cd 314 7) _
def ale:CF:=NF (cd 316 9) _
def aiA:CF:=NF (cd 324 15) _
def alf:CF:=NF (cd 325 22) _
def aiC:CF:=NF (cd 328 7) _
def alg:CF:=NF (cd 330 15) _
structure BaseR (P:Program)(K:Orc)(F:Nat->FuncId)(T:Nat->TypeId):Prop where
 f253:FnK P K (F 253) 15 [] (aix F T)
 f254:FnK P K (F 254) 6 [(.tmp 2)] (aiy F T)
 f266:FnK P K (F 266) 15 [] (aiA F T)
 f270:FnK P K (F 270) 7 [] (aiC F T)
theorem afy (h:-9223372036854775808<=m+n/\m+n<=9223372036854775807):binV .add (iv m) (iv n)=some (iv (m+n)):=
 @Bq (mkSg (λ_=>0) (λ_=>.undef)<|λ_=>.deferred) m n h
theorem aao (hR:BaseR P K F T):bB P K (F 254) [iv n] s (λv s'=>v=iv (oP n)/\s'=s):=by
 refine hR.f254.cF ?_
 refine Vk (k:=Wr (.mmx rfl rfl)<|Wr (.mmx rfl rfl)<|Vk (k:=We<|Wm (.tmp rfl .nil) ?_))
 exact⟨rfl,rfl⟩
variable {s':SH}{L:List (List AV)}
theorem acm (hR:BaseR P K F T){k a b m:Int}{it:ID}(hb:-9223372036854775808<=o.hurt+n/\o.hurt+n<=9223372036854775807)(hu:oY bp (.r false L 14) (.r false (L.set i ({ o with hurt:=oP (o.hurt+n) }:OD).row) 14) s s')(hr:L[i]?=some o.row) :
  bB P K (F 253) [.ptr (some ⟨bp,i,0⟩),.agg<|evRow k a b n m it] s (λ_ s2=>∃m,s2=m++s'):=by
 refine hR.f253.cF ?_
 have hh:=hu.has.1
 have had:binV .add (iv o.hurt) (iv n)=some (iv<|o.hurt+n):=afy hb
 refine Vk (k:=λb3=>Wn<|WP.bD<|Dp (.mv rfl)<|Dp (.mv rfl)<|Dp (.nilchk rfl rfl)<|Dp (.faddr rfl)<|Dl rfl .nil (.load rfl (.there hh) hr rfl rfl)<|Dp (.faddr rfl)<|Dl rfl .nil (.load rfl .here rfl rfl rfl)<|Dp (.arith rfl rfl had) ?_)
 refine Dc .nil<|W1 (aao hR) ?_
 rintro _ _ ⟨rfl,rfl⟩
 refine Dp (.nilchk rfl rfl)<|Dp (.faddr rfl) ?_
 refine Dc .nil<|Wt rfl rfl rfl (.there hu) hr rfl<|D0 .nil (Wm .nil ⟨[_],rfl⟩)<|λo h=>nomatch h
theorem acp (hR:BaseR P K F T){o:LD}{k a b m:Int}{it:ID}(hb:-9223372036854775808<=o.life+n/\o.life+n<=9223372036854775807)(hu:oY bp (.r false L 8) (.r false (L.set i ({ o with life:=oP (o.life+n) }:LD).row) 8) s s')(hr:L[i]?=some o.row) :
  bB P K (F 266) [.ptr (some ⟨bp,i,0⟩),.agg<|evRow k a b n m it] s (λ_ s2=>∃m,s2=m++s'):=by
 refine hR.f266.cF ?_
 have hh:=hu.has.1
 have had:binV .add (iv o.life) (iv n)=some (iv<|o.life+n):=afy hb
 refine Vk (k:=λb3=>Wn<|WP.bD<|Dp (.mv rfl)<|Dp (.mv rfl)<|Dp (.nilchk rfl rfl)<|Dp (.faddr rfl)<|Dl rfl .nil (.load rfl (.there hh) hr rfl rfl)<|Dp (.faddr rfl)<|Dl rfl .nil (.load rfl .here rfl rfl rfl)<|Dp (.arith rfl rfl had) ?_)
 refine Dc .nil<|W1 (aao hR) ?_
 rintro _ _ ⟨rfl,rfl⟩
 refine Dp (.nilchk rfl rfl)<|Dp (.faddr rfl) ?_
 refine Dc .nil<|Wt rfl rfl rfl (.there hu) hr rfl<|D0 .nil (Wm .nil ⟨[_],rfl⟩)<|λo h=>nomatch h
theorem ac5 (hB:Base P K F T)(ad7:FnK P K (F 264) 15 [] (aeG F T))(hR:BaseR P K F T){o:LD}{d:SD}(hd:d.Small)(he:d.kQ)(ho:d.pl[p]?=some o)(hb:-9223372036854775808<=o.life+n/\o.life+n<=9223372036854775807)(lm:∀s,bB P K (F 201) [.agg (evRow 7 (.ofNat p) b n m it)] s (λv s'=>v=iv 0/\s'=s)) :
  Ap P K F 7 (.ofNat p) b n m it d { d with pl:=d.pl.set p { o with life:=oP (o.life+n) } }:=
 yH (k:=7) hB hd lm (aab hB<|by simp) (λ{_ _ _ _ v} hv hW=>by
  obtain⟨bd,bx,rfl,_⟩:=(show iP F _ _ v true false false 264 266 from hv)
  exact aaD hB hW hd he (k:=7) (by omega) (by omega) (by omega) (by omega) (List.getElem?_eq_some_iff.1 ho).1) (λ{_ _ _ _ _ _ _} hv hW=>by
  obtain⟨bd,bx,hv,h1,h2⟩:=(show iP F _ _ _ true false false 264 266 from hv)
  cases hv
  exact abF (o':={ o with life:=oP (o.life+n) }) ad7 hW h1 h2 ho λ{s s' bp L} hu hr=>acp hR hb hu hr)
def isAt (d:SD)(C:List CD)(p:OD->CD->Bool)(id:Int):Bool:=match d.obj id with
 | some o=>(match C[o.gE.toNat]? with | some c=>p o c | none=>false)
 | none=>false
def k8 (d:SD)(C:List CD)(p:OD->CD->Bool)(l:List Int):List Int:=l.filter (isAt d C p)
theorem ac9 (d:SD)(C:List CD)(p:OD->CD->Bool)(l:List Int)(x:Int):k8 d C p (l++[x])=k8 d C p l++if isAt d C p x then [x]else []:=by
 unfold k8
 rw[List.filter_append]
 congr 1
 rw[List.filter_cons]
 cases isAt d C p x<;>rfl
variable {bf:Nat}{bl:Nat}{aZ:AV}{bE:AV}{c0:Int}{c1:Int}{c2:Int}{c3:Int}{c4:Int}{EL:List (List AV)}{d:SD}{t:SH}{tF:TypeId}{g:ED->CH->CH}{C:List CD}{tl:AD->List Nat}
theorem aas (hE:GE P K F T tF g C d)(hQ:BaseQ P K F T)(hf:Has bf (.r false [bu bl aZ c0 c1 c2 c3 c4 bE] 8) t)(eQ:cI t aZ C)(hs:aH bl EL d t s)(hcd:∀o∈d.ob,∃j:Nat,o.gE=.ofNat j/\j<C.length)(hall:∀id∈d.fi,∃o,d.obj id=some o)
  {fv:AV} {p:OD->CD->Bool} (VZ:∀o c t' s',o∈d.ob->c∈C->(∀q∈t,q∈t')->aH bl EL d t' s'->c6 P K fv [.agg o.row,.agg c.row] s' (λv s''=>v=.bool (p o c)/\aH bl EL d t' s'')) :
  bB P K (F 109) [.ptr (some ⟨bf,0,0⟩),fv] s (λv s'=>∃m,aH bl EL d (m++t) s'/\Src m 1 v (nR<|k8 d C p d.fi)):=by
 have hn:=hE.hd.n1
 refine hQ.f109.cF ?_
 refine Vk (k:=Ww<|W1 (iU hE.hB hs hE.hd hf) ?_)
 rintro _ s2 ⟨m,dt,pv,ov,lv,hv,gv,ev,fi,sv,wv,rfl,hR⟩
 refine Wa (.alloc rfl) λb6=>Ww<|Wt (s':=(b6,.r false [SD.cells d pv ov lv hv gv ev fi sv wv] 25)::_) rfl rfl rfl .here rfl rfl<|Wn<|Ws<|Wq<|W (k:=?_)
 have gw:aH bl EL d ((b6,.r false [d.cells pv ov lv hv gv ev fi sv wv] 25)::(m++t)) ((b6,.r false [d.cells pv ov lv hv gv ev fi sv wv] 25)::s2):=dt.cons
 generalize (b6,HO.r false [d.cells pv ov lv hv gv ev fi sv wv] 25)::s2=s3 at gw |-
 have hlf:lenOf fi=some d.fi.length:=by rw[hR.fi.lenOf,gq]
 refine W (k:=Wn<|Wb ?_)
 refine Wp (λk l ds s'=>ds=[]/\∃q out og j,k=d.fi.length-q/\q<=d.fi.length/\aH bl EL d (og++(j++((b6,.r false [d.cells pv ov lv hv gv ev fi sv wv] 25)::(m++t)))) s'/\Gr 1 out (nR<|k8 d C p<|d.fi.take q) og/\∀x w,lk [(0,.ptr<|some ⟨bf,0,0⟩),(1,fv),(5,out),(6,.ptr<|some ⟨b6,0,0⟩),(13,fi),(14,iv<|.ofNat d.fi.length),(15,iv<|.ofNat q)] x=some w->lk l x=some w) ?_ (n:=d.fi.length-0)
  ⟨rfl,0,nilS,[],[],rfl,Nat.zero_le _,gw,.nil,bX rfl⟩
 rintro k l ds s5 ⟨rfl,q,out,og,j,rfl,hq,dT,hG,hl⟩
 refine Wg hl (λ_ _ h=>h) ?_
 refine Wq<|Wj rfl rfl (eT _ _)<|Wn<|Ws<|Wd rfl (λht=>Wi ?_)<|λht=>Wx ?_
 rotate_left
 ·have hge:¬q<d.fi.length:=λh=>of_decide_eq_false ht (Int.ofNat_lt.2 h)
  rw[List.take_of_length_le (by omega)]at hG
  refine Vk (k:=We<|Wm (.tmp rfl .nil) ?_)
  exact⟨og++(j++((b6,.r false [d.cells pv ov lv hv gv ev fi sv wv] 25)::m)),dT.tT<|kT,hG.out.src.mono λq hq=>by simp[hq]⟩
 have hlt:q<d.fi.length:=Int.ofNat_lt.1<|of_decide_eq_true ht
 have hx:d.fi[q]?=some d.fi[q]:=List.getElem?_eq_getElem hlt
 have KP:d.fi[q]∈d.fi:=List.getElem_mem _
 generalize d.fi[q]=id at hx KP
 obtain⟨o,ho⟩:=hall id KP
 obtain⟨i,hi,xG⟩:∃i,d.find id=some i/\d.ob[i]?=some o:=by
  unfold SD.obj at ho
  cases h:d.find id with
  | none=>rw[h]at ho;cases ho
  | some i=>rw[h]at ho;exact⟨i,rfl,ho⟩
 have V4:o∈d.ob:=List.mem_of_getElem? xG
 obtain⟨k,hk,hkl⟩:=hcd o V4
 have hc:C[k]?=some C[k]:=List.getElem?_eq_getElem hkl
 have IR:C[k]∈C:=List.getElem_mem _
 generalize C[k]=c at hc IR
 have hsn:=ac9 d C p (d.fi.take q) id
 rw[show d.fi.take q++[id]=d.fi.take (q+1) by rw[List.take_add_one,hx];rfl]at hsn
 have hpc:isAt d C p id=p o c:=by unfold isAt;rw[ho];show(match C[o.gE.toNat]? with | some c=>p o c | none=>false)=_;rw[hk,show(Int.ofNat k).toNat=k from rfl,hc]
 rw[hpc]at hsn
 obtain⟨ba,ra,na,ca,J5,Sp,Ma,e4,hba,me,hra⟩:=hR.fi.at (i:=q) (by rw[gq];exact hlt)
 have hrow:Ma[ra+q]?=some [iv id]:=by rw[hra,nR,List.getElem?_map,hx];rfl
 subst e4
 have af1:Has ba (.r Sp Ma 1) (m++t):=.left hba
 refine Vk (k:=WP.fd λbd1=>Dp (.faddr rfl)<|WD.lk rfl .nil (.load rfl (.there<|dT.mem<|.app<|.app .here) rfl rfl rfl)<|Dl rfl .nil (.load (cs:=SD.cells d pv ov lv hv gv ev (AV.slice (some<|Pl.mk ba ra 0) na ca J5 1) sv wv) rfl (.there<|dT.mem<|.app<|.app .here) rfl rfl rfl)<|Dp (.mv rfl) ?_)
 refine Dc .nil<|W1 (lg hE.hB (hR.ob.mono λq hq=>.tail _ (dT.mem<|.ce<|by simp[hq]).mem) hE.hd) ?_
 rintro _ _ ⟨rfl,mF,rfl⟩
 rw[hi]
 obtain⟨bo,ro,no,co,ZE,WE,Mo,eo,IM,Uw,hro⟩:=hR.ob.at (i:=i) (by rw[fy,List.length_map];exact(List.getElem?_eq_some_iff.1 xG).1)
 have ahh:Mo[ro+i]?=some o.row:=by rw[hro,fy,List.getElem?_map,xG];rfl
 have ajE:=hR.ob.same
 subst eo
 have amp:Has bo (.r WE Mo 14) (m++t):=.left IM
 refine Dp (.iaddrS rfl rfl (by omega)<|by decide)<|Dl rfl .nil (.load rfl (.app<|.there<|dT.mem<|.app<|.app<|.there<|.left IM) ahh rfl rfl)<|WD.al (.alloc rfl) rfl ?_
 refine Dc (.yes (show bit 255 7=true from rfl) rfl (.app .here) .nil)<|Wt (s':=mF++((bd1,.r false [o.row] 14)::s5)) rfl rfl rfl (.app .here) rfl rfl<|D0 .nil ?_ ?_
 rotate_left
 ·intro x hx
  rw[List.mem_singleton.1 hx]
  refine⟨(λi hi=>by rw[List.mem_singleton.1 hi];exact(show bit 1 7=false from rfl)),Nat.zero_le _,ajE,λk _ hk=>?_⟩
  rcases eb hk with rfl|rfl
  ·exact⟨_,rfl,.load rfl (.there<|dT.mem<|.app<|.app .here) rfl rfl rfl⟩
  ·exact⟨_,rfl,.load rfl (.app<|.there<|dT.mem<|.app<|.app .here) rfl rfl rfl⟩
 have KL:aH bl EL d ((bd1,.r false [o.row] 14)::(og++(j++((b6,.r false [d.cells pv (.slice (some ⟨bo,ro,0⟩) no co ZE 14) lv hv gv ev (.slice (some ⟨ba,ra,0⟩) na ca J5 1) sv wv] 25)::(m++t))))) (mF++((bd1,.r false [o.row] 14)::s5)):=dT.cons.bK
 generalize mF++((bd1,HO.r false [o.row] 14)::s5)=s6 at KL |-
 obtain⟨bc,rc,nc,cc',slc,roc,Mc,ec,hbc,hic,hrc⟩:=eQ.src.at (i:=k) (by rw[List.length_map];exact hkl)
 have aaG:Mc[rc+k]?=some c.row:=by rw[hrc,List.getElem?_map,hc];rfl
 have hlc:lenOf aZ=some C.length:=by rw[eQ.src.lenOf,List.length_map]
 have ajn:binV .lss (iv o.gE) (iv<|.ofNat C.length)=some (.bool true):=by
  rw[eT,hk];exact congrArg (λb=>some<|AV.bool b)<|decide_eq_true<|Int.ofNat_lt.2 hkl
 refine Ws<|WP.bD<|Dp (.faddr rfl)<|Dl rfl .nil (.load rfl (KL.mem .here) rfl rfl rfl)<|Dp (.mv rfl)<|Dp (.nilchk rfl rfl)<|Dp (.faddr rfl)<|Dl rfl .nil (.load rfl (KL.mem<|.there<|.app<|.app<|.there<|.app hf) rfl rfl rfl)<|Dp (.lenS rfl hlc)<|Dp (.arith rfl rfl ajn)<|Dp (.mv rfl)<|Dy<|Dp (.mv rfl)<|Dy<|Dl rfl .nil (.load (cs:=OD.row o) rfl (KL.mem .here) rfl rfl rfl)<|Dy<|Dp (.mv rfl)<|Dy<|Dp (.nilchk rfl rfl)<|Dy<|Dp (.faddr rfl)<|Dy<|Dl rfl .nil (.load rfl (KL.mem<|.there<|.app<|.app<|.there<|.app hf) rfl rfl rfl)<|Dy<|Dp (.faddr rfl)<|Dy<|Dl rfl .nil (.load rfl (KL.mem .here) rfl rfl rfl)<|Dy<|Dp (.iaddrS (congrArg some ec) (congrArg (λx=>some<|iv x) hk) hic<|by decide)<|Dy<|Dl rfl .nil (.load rfl (KL.mem<|.there<|.app<|.app<|.there<|.app hbc) aaG rfl rfl)<|Dy ?_
 refine Dc .nil<|WS.call (vs:=[AV.agg (OD.row o),AV.agg [AV.str (CD.nm c),iv<|CD.kind c,iv<|CD.n2 c,iv<|CD.n3 c,iv<|CD.n4 c,iv<|CD.n5 c,iv<|CD.n6 c,iv<|CD.power c,iv<|CD.qn c,iv<|CD.keys c,CD.av c]]) rfl rfl (VZ o c _ s6 V4 IR (λq hq=>by simp[hq]) KL) ?_
 rintro _ s7 ⟨rfl,hs7⟩
 cases Sh:p o c with
 | false=>
  rw[Sh]at hsn
  refine Dp (.cV rfl rfl)<|D0 .nil (Vk (k:=?_))<|λo h=>nomatch h
  exact⟨d.fi.length-(q+1),by omega,rfl,q+1,out,og,j,rfl,hlt,hs7.tail,by rw[hsn];simpa using hG,bX rfl⟩
 | true=>
  rw[Sh]at hsn
  obtain⟨u,hu,hback⟩:=hs7.tail.split
  refine Dp (.cV rfl rfl)<|D0 .nil (Vk (k:=Wa (.bslice (fZ rfl rfl) rfl) λb49=>?_))<|λo h=>nomatch h
  refine Ww<|WS.pre (s':=((b49,.r false [[iv id]] 1)::u)++(og++(j++((b6,.r false [d.cells pv (.slice (some ⟨bo,ro,0⟩) no co ZE 14) lv hv gv ev (.slice (some ⟨ba,ra,0⟩) na ca J5 1) sv wv] 25)::(m++t))))) (ak λc w h0 h1 h2 hq=>by have:=hq _ _ hu;simp only[h1,h2]at this |-;omega)<|WS.append_gr rfl hG rfl (Src.all (L:=[[iv id]]) .here) (by omega) (by rw[gq];have:=List.length_filter_le (isAt d C p) (d.fi.take q);have:=List.length_take_le q d.fi;unfold k8;show _+1<=_;omega) (by omega) λv' o' jk xB=>Vk (k:=?_)
  refine⟨d.fi.length-(q+1),by omega,rfl,q+1,v',o',(b49,.r false [[iv id]] 1)::(jk++j),rfl,hlt,(hback<|o'++(((b49,.r false [[iv id]] 1)::(jk++j))++((b6,.r false [d.cells pv (.slice (some ⟨bo,ro,0⟩) no co ZE 14) lv hv gv ev (.slice (some ⟨ba,ra,0⟩) na ca J5 1) sv wv] 25)::(m++t)))).perm (kT),?_,bX rfl⟩
  rw[hsn]
  simpa[nR]using xB
def Az (k e:Int)(c:CD):Bool:=c.ab.any λa=>decide (a.kind=k)&&decide (a.ev=e)
variable {e:Int}{bk be:Nat}
theorem aco (hQ:BaseQ P K F T){a:AD}(hk:Has bk (.r false [[iv k]] 1) s)(he:Has be (.r false [[iv e]] 1) s):bB P K (F 350) [.agg a.row,.ptr (some ⟨bk,0,0⟩),.ptr (some ⟨be,0,0⟩)] s (λw s'=>w=.bool (decide (a.kind=k)&&decide (a.ev=e))/\∃m,s'=m++s):=by
 refine hQ.f350.cF ?_
 have h8:eqBy 20 .pi (iv a.kind) (iv k)=some (decide<|a.kind=k):=cD _ _
 cases h1:decide (a.kind=k) with
 | false=>
  rw[h1]at h8
  refine Vk (k:=λb3=>Vk (k:=We<|Wm (.tmp rfl .nil) ?_))
  exact⟨rfl,[_],rfl⟩
 | true=>
  rw[h1]at h8
  refine Wq<|Wa (.box rfl rfl) λb3=>Wv rfl<|Wn<|Wq<|Wf rfl<|Wl rfl .here rfl rfl rfl<|Wl rfl (.there hk) rfl rfl rfl<|Wh rfl rfl h8<|Wv rfl<|Wy<|Wf rfl<|Wy<|Wl rfl .here rfl rfl rfl<|Wy<|Wl rfl (.there he) rfl rfl rfl<|Wy<|Wh rfl rfl (cD _ _)<|Wr (.cV rfl rfl)<|Wv rfl<|Wn<|We<|Wm (.tmp rfl .nil) ?_
  exact⟨rfl,[_],rfl⟩
def aeu (k e:Int):List AV->Bool
 | .int _ a::.int _ b::_=>decide (a=k)&&decide (b=e)
 | _=>false
theorem BaseQ.aiX (hQ:BaseQ P K F T):FnK P K (F 349) 9 [.tmp 4] (aeQ (F 351)):=hQ.f349
theorem BaseQ.aiY (hQ:BaseQ P K F T):FnK P K (F 351) 19 [.tmp 4] (CU true 13):=hQ.f351
theorem ado (k e:Int)(l:List AD):((l.map AD.row).findIdx? (aeu k e)).isSome=l.any λa=>decide (a.kind=k)&&decide (a.ev=e):=by
 rw[List.findIdx?_isSome,List.any_map]
 rfl
theorem abk (hQ:BaseQ P K F T){c:CD}(hk:Has bk (.r false [[iv k]] 1) s)(he:Has be (.r false [[iv e]] 1) s)(hc:Src s 13 c.av (c.ab.map AD.row))(hn:c.ab.length<=1000) :
  bB P K (F 348) [.agg o.row,.agg c.row,.ptr<|some ⟨bk,0,0⟩,.ptr<|some ⟨be,0,0⟩] s (λw s'=>w=.bool (Az k e c)/\∃m,s'=m++s):=by
 refine hQ.f348.cF ?_
 refine Vk (k:=λb4=>Wa (.box rfl rfl) λb5=>Vk (k:=?_))
 have hidx:∀{x y:Nat × HO},bB P K (F 351) [c.av,.func (F 350) [] [.ptr (some ⟨bk,0,0⟩),.ptr<|some ⟨be,0,0⟩]] (x::y::s) (λw s'=>w=CV ((c.ab.map AD.row).findIdx? (aeu k e))/\∃n,s'=n++(x::y::s)):=by
  intro x y
  refine hQ.aiY.cF<|vz (aeu k e) (hc.mono λq hq=>by simp[hq]) (by decide) (.inl rfl) (by rw[List.length_map];omega) (λrow hr=>?_) (λrow hr z=>?_) λn=>⟨rfl,n,rfl⟩
  ·obtain⟨a,_,rfl⟩:=List.mem_map.1 hr
   rfl
  ·obtain⟨a,_,rfl⟩:=List.mem_map.1 hr
   exact c6.func<|aco hQ (.app<|.there<|.there hk)<|.app<|.there<|.there he
 have af3:∀{x y:Nat × HO},bB P K (F 349) [c.av,.func (F 350) [] [.ptr (some ⟨bk,0,0⟩),.ptr<|some ⟨be,0,0⟩]] (x::y::s) (λw s'=>w=.bool (Az k e c)/\∃n,s'=n++(x::y::s)):=by
  intro x y
  refine hQ.aiX.cF<|ad3 hidx λn=>⟨?_,n,rfl⟩
  rw[ado]
  rfl
 refine Ww<|Wz [CD.av c,AV.func (F 350) [] [AV.ptr (some<|Pl.mk bk 0 0),AV.ptr<|some<|Pl.mk be 0 0]] rfl rfl (af3) ?_
 rintro _ _ ⟨rfl,m,rfl⟩
 refine Vk (k:=We<|Wm (.tmp rfl .nil) ?_)
 exact⟨rfl,m++[(b5,.r false [c.row] 11),(b4,.r false [o.row] 14)],by simp⟩
theorem Y6 (hE:GE P K F T tF g C d)(hQ:BaseQ P K F T)(hf:Has bf (.r false [bu bl aZ c0 c1 c2 c3 c4 bE] 8) t)(eQ:cI t aZ C)(hs:aH bl EL d t s)(hcd:∀o∈d.ob,∃j:Nat,o.gE=.ofNat j/\j<C.length)(hall:∀id∈d.fi,∃o,d.obj id=some o) :
  bB P K (F 346) [.ptr (some ⟨bf,0,0⟩),iv k,iv e] s (λv s'=>∃m,aH bl EL d (m++t) s'/\Src m 1 v (nR<|k8 d C (λ_ c=>Az k e c) d.fi)):=by
 refine hQ.f346.cF ?_
 refine Vk (k:=λb4=>Wa (.box rfl rfl) λb5=>Vk (k:=?_))
 have nr:aH bl EL d ((b5,.r false [[iv e]] 1)::(b4,.r false [[iv k]] 1)::t) ((b5,.r false [[iv e]] 1)::(b4,.r false [[iv k]] 1)::s):=hs.cons.cons
 refine Ww<|Wz [AV.ptr (some<|Pl.mk bf 0 0),AV.func (F 348) [] [AV.ptr (some<|Pl.mk b4 0 0),AV.ptr<|some<|Pl.mk b5 0 0]] rfl rfl (aas (p:=λ_ c=>Az k e c) hE hQ (.there<|.there hf) (eQ.mono λq hq=>by simp[hq]) nr hcd hall<|λo c t' s' ho hc hq h=>c6.func<|(abk hQ (h.mem<|.ce<|hq _<|by simp) (h.mem<|.ce<|hq _<|by simp) ((eQ.ab c hc).mono λq h2=>(h.mem<|.ce<|hq _<|by simp[h2]).mem)<|eQ.nb c hc).post λw s2 h2=>⟨h2.1,by obtain⟨m,rfl⟩:=h2.2;exact h.bK⟩) ?_
 rintro v s2 ⟨m,dt,hS⟩
 refine Vk (k:=We<|Wm (.tmp rfl .nil) ?_)
 exact⟨m++[(b5,.r false [[iv e]] 1),(b4,.r false [[iv k]] 1)],by rw[List.append_assoc];exact dt,hS.mono λq hq=>by simp[hq]⟩
structure BdX (P:Program)(K:Orc)(F:Nat->FuncId)(T:Nat->TypeId)(tF:TypeId)(g:ED->CH->CH)(C:List CD)(d:SD):Prop where
 hE:GE P K F T tF g C d
 hQ:BaseQ P K F T
 hv:meth P tF "Having"=some (F 346)
 do_:meth P tF "Do"=some (F 15)
 cd:∀o∈d.ob,∃j:Nat,o.gE=.ofNat j/\j<C.length
 all:∀id∈d.fi,∃o,d.obj id=some o
theorem aeK (h:∀c∈C,Az k e c=false)(l:List Int):k8 d C (λ_ c=>Az k e c) l=[]:=by
 unfold k8
 refine List.filter_eq_nil_iff.2 λid _=>?_
 unfold isAt
 cases d.obj id with
 | none=>simp
 | some o=>
  cases hc:C[o.gE.toNat]? with
  | none=>simp[hc]
  | some c=>simp[hc,h c<|List.mem_of_getElem? hc]
theorem ab2 (hQ:BaseQ P K F T)(hv:partCells 1 v=some [v]):bB P K (F 211) [v,iv k] s (λw s'=>∃b b',w=.func (F 239) [] [.ptr (some ⟨b,0,0⟩),.ptr (some ⟨b',0,0⟩)]/\s'=(b',.r false [[iv k]] 1)::(b,.r false [[v]] 1)::s):=by
 refine hQ.f211.cF ?_
 refine Wq<|Wa (.box rfl hv) λb2=>Wa (.box rfl rfl) λb3=>Wv rfl<|Wn ?_
 refine Wq<|Wr (.mkfn rfl rfl)<|Wv rfl<|Wn<|We<|Wm (.tmp rfl .nil) ?_
 exact⟨b2,b3,rfl,rfl⟩
def mxI (a b:Int):Int:=match ilt a b with | true=>b | false=>a
def mnI (a b:Int):Int:=match ilt b a with | true=>b | false=>a
theorem agk (a b:Int):mxI a b=max a b:=by
 unfold mxI
 rw[du]
 by_cases h:a<b
 ·rw[decide_eq_true h];show b=_;omega
 ·rw[decide_eq_false h];show a=_;omega
theorem agj (a b:Int):mnI a b=min a b:=by
 unfold mnI
 rw[du]
 by_cases h:b<a
 ·rw[decide_eq_true h];show b=_;omega
 ·rw[decide_eq_false h];show a=_;omega
variable {b2 b3:Nat}
theorem abu (hX:BdX P K F T tF g C d)(hno:∀c∈C,Az 5 k c=false)(hf:Has bf (.r false [bu bl aZ c0 c1 c2 c3 c4 bE] 8) t)(eQ:cI t aZ C)(hs:aH bl EL d t s){y:AV}(h2:Has b2 (.r false [[gm tF bf]] 1) t)(h3:Has b3 (.r false [[iv k]] 1) t) :
  bB P K (F 240) [y,.ptr<|some ⟨b2,0,0⟩,.ptr<|some ⟨b3,0,0⟩] s (λ_ s'=>aH bl EL d t s'):=by
 refine hX.hQ.f240.cF ?_
 refine Vk (k:=Ww<|WS.invoke (vs:=[]) rfl (hX.hE.hM.aZ ) rfl ( BS hX.hE.hG hs hf eQ) ?_)
 rintro v4 s2 ⟨m,dt,hS⟩
 refine Vk (k:=Ww<|WS.invoke (vs:=[AV.int IntKind.i64 (Int.ofNat 5),iv k]) rfl (hX.hv ) rfl ( Y6 hX.hE hX.hQ (.app hf) (eQ.mono λq hq=>by simp[hq]) dt hX.cd hX.all) ?_)
 rintro v15 s3 ⟨m3,gw,hS3⟩
 rw[aeK (k:=Int.ofNat 5) hno]at hS3
 have ag8:lenOf v15=some 0:=hS3.lenOf
 refine Vk (k:=WP.dA<|Vk (k:=Wx<|Wm .nil ?_))
 exact gw.fb.fb
theorem acy (hQ:BaseQ P K F T)(hv:partCells 1 v=some [v]):bB P K (F 213) [v,iv k] s (λw s'=>∃b b',w=.func (F 240) [] [.ptr (some ⟨b,0,0⟩),.ptr (some ⟨b',0,0⟩)]/\s'=(b',.r false [[iv k]] 1)::(b,.r false [[v]] 1)::s):=by
 refine hQ.f213.cF ?_
 refine Vk (k:=Wa (.box rfl hv) λb2=>Wa (.box rfl rfl) λb3=>Vk (k:=We<|Wm (.tmp rfl .nil) ?_))
 exact⟨b2,b3,rfl,rfl⟩
def Ty1 (P:Program)(t:TypeId):Prop:=isAggT P t=some false/\size? P t=some 1
theorem aaQ (hX:BdX P K F T tF g C d)(ht3:Ty1 P (T 3))(ht4:Ty1 P (T 4))(hno:∀c∈C,Az 5 k c=false)(hf:Has bf (.r false [bu bl aZ c0 c1 c2 c3 c4 bE] 8) t)(eQ:cI t aZ C)(hs:aH bl EL d t s)(VZ:partCells 1 fv=some [fv]) :
  bB P K (F 182) [gm tF bf,iv k,fv] s (λv s'=>v=.tuple [iv 0,.bool false]/\aH bl EL d t s'):=by
 refine hX.hQ.f182.ZH ?_
 refine Wq<|Wa (.box rfl VZ) λb5=>Wa (.alloc rfl) λb6=>Wa (.alloc rfl) λb7=>Vk (k:=Ww<|W1 (acy hX.hQ rfl) ?_)
 rintro _ _ ⟨b17,c17,rfl,rfl⟩
 refine Wn ?_
 have nr:aH bl EL d ((c17,HO.r false [[iv k]] 1)::(b17,HO.r false [[gm tF bf]] 1)::(b7,HO.r false [[.bool false]] 1)::(b6,HO.r false [[iv 0]] 1)::t) ((c17,HO.r false [[iv k]] 1)::(b17,HO.r false [[gm tF bf]] 1)::(b7,HO.r false [[.bool false]] 1)::(b6,HO.r false [[iv 0]] 1)::(b5,HO.r false [[fv]] 1)::s):=(aH.bK (m:=[_]) hs).cons.cons.cons.cons
 refine Wb ?_
 refine Wg (l':=[(6,.ptr<|some ⟨b6,0,0⟩),(7,.ptr<|some ⟨b7,0,0⟩),(17,.func (F 240) [] [.ptr (some ⟨b17,0,0⟩),.ptr<|some ⟨c17,0,0⟩])]) (bX rfl) (λ_ _ h=>h) ?_
 generalize hl1:[(6,AV.ptr<|some ⟨b6,0,0⟩),(7,AV.ptr<|some ⟨b7,0,0⟩),(17,AV.func (F 240) [] [.ptr (some ⟨b17,0,0⟩),.ptr<|some ⟨c17,0,0⟩])]=l1
 refine WP.rf (first:=[]) (cap:=[.ptr (some ⟨b17,0,0⟩),.ptr<|some ⟨c17,0,0⟩]) (by rw[<- hl1];rfl) λasg body ha hb D lb=>?_
 have dt:=(nr.cons (p:=(D,HO.ob .deferred))).cons (p:=(lb,HO.lp l1 30 [18,19] asg body .ready none D))
 refine bB.canon<|(abu hX hno (.there<|.there<|.there<|.there<|.there<|.there hf) (eQ.mono λq hq=>by simp[hq]) dt (y:=.yield lb) (b2:=b17) (b3:=c17) (k:=k) (.there<|.there<|.there .here)<|.there<|.there .here).post ?_
 rintro _ s9 hs9
 obtain⟨u,hu,hback⟩:=hs9.split
 refine⟨(lb,HO.lp l1 30 [18,19] asg body .ready none D)::(u++((D,HO.ob .deferred)::(c17,HO.r false [[iv k]] 1)::(b17,HO.r false [[gm tF bf]] 1)::(b7,HO.r false [[.bool false]] 1)::(b6,HO.r false [[iv 0]] 1)::t)),ak (λc w h0 h1 h2 hq=>by have:=hq _ _ hu;simp only[h1,h2]at this |-;omega),l1,.ready,none,_,rfl,(λh=>LoopState.noConfusion h),?_⟩
 subst hl1
 refine Vk (k:=Ww<|Wt (s':=_::_++(_::_::_::_::(b6,.r false [[iv 0]] 1)::_)) rfl rfl rfl (.there<|.app<|.there<|.there<|.there<|.there .here) rfl rfl<|Ww<|Wt (s':=_++(_::_::_::(b7,.r false [[AV.bool false]] 1)::_)) rfl rfl rfl (.app<|.there<|.there<|.there .here) rfl rfl<|Wn<|We ?_)
 refine⟨[D],(lb,HO.gone)::(u++((c17,HO.r false [[iv k]] 1)::(b17,HO.r false [[gm tF bf]] 1)::(b7,HO.r false [[.bool false]] 1)::(b6,HO.r false [[iv 0]] 1)::t)),rfl,ak (λc w h0 h1 h2 hq=>by simp only[h1,h2,h0,List.map_cons,List.map_nil];omega),[iv 0,.bool false],.cell rfl ht3.1 ht3.2 (.inr rfl) (.there<|.there<|.app<|.there<|.there<|.there .here) rfl rfl rfl<|.cell rfl ht4.1 ht4.2 (.inr rfl) (.there<|.there<|.app<|.there<|.there .here) rfl rfl rfl .nil,?_⟩
 exact⟨rfl,aH.bK (m:=[_,_])<|aH.fb (x:=[_,_,_,_])<|hback _⟩
theorem abb (n:Int):-999<=oP n/\oP n<=999:=by
 have h:oP n=mnI (mxI n<|.negSucc 998) 999:=rfl
 rw[h,agj,agk]
 omega
theorem abg (a b:Int):binV .gtr (iv a) (iv b)=some (.bool (decide (b<a))):=by
 show some (AV.bool<|ilt b a)=_
 rw[du]
theorem agY {a:Nat}(h:0<a):binV .gtr (iv (.ofNat a)) (iv 0)=some (.bool true):=by
 rw[abg,show decide ((0:Int)<Int.ofNat a)=true from decide_eq_true<|Int.ofNat_lt.2 h]
open Go.Proofs
set_option maxRecDepth 100000
def a41:CF:=NF (cd 24 11) _
def a42:CF:=NF (cd 25 21) _
def a56:CF:=NF (cd 32 6) _
def a97:CF:=NF (cd 71 16) _
def a98:CF:=NF (cd 72 21) _
def a99:CF:=NF (cd 73 30) _
def agE:CF:=NF (cd 74 23) _
def ah0:CF:=NF (cd 79 28) _
def ah4:CF:=NF (cd 155 32) _
def agF:CF:=NF (cd 156 10) _
def afQ:CF:=NF (cd 157 86) _
def ah5:CF:=NF (cd 158 36) _
def ah6:CF:=NF (cd 159 3) _
def ah8:CF:=NF (cd 212 21) _
def ah9:CF:=NF (cd 213 8) _
def aia:CF:=NF (cd 214 14) _
def aie:CF:=NF (cd 215 29) _
structure BaseN (P:Program)(K:Orc)(F:Nat->FuncId)(T:Nat->TypeId):Prop where
 f41:FnK P K (F 41) 11 [(.cell 6<|T 50)] (a41 F T)
 f42:FnK P K (F 42) 21 [(.tmp 2)] (a42 F T)
 f56:FnK P K (F 56) 6 [(.tmp 2)] (a56 F T)
 f97:FnK P K (F 97) 16 [(.tmp 2)] (a97 F T)
 f98:FnK P K (F 98) 21 [(.tmp 2)] (a98 F T)
 f99:FnK P K (F 99) 30 [(.tmp 2)] (a99 F T)
 f100:FnK P K (F 100) 23 [(.tmp 2)] (agE F T)
 f110:FnK P K (F 110) 28 [(.tmp 5)] (ah0 F T)
 f146:FnK P K (F 146) 32 [(.tmp 4)] (ah4 F T)
 f147:FnK P K (F 147) 10 [(.tmp 2)] (agF F T)
 f148:FnK P K (F 148) 86 [] (afQ F T)
 f149:FnK P K (F 149) 36 [] (ah5 F T)
 f150:FnK P K (F 150) 3 [(.tmp 2)] (ah6 F T)
 f187:FnK P K (F 187) 21 [(.cell 4<|T 45),(.tmp 5)] (ah8 F T)
 f188:FnK P K (F 188) 8 [(.tmp 4)] (ah9 F T)
 f189:FnK P K (F 189) 14 [(.tmp 4)] (aia F T)
 f190:FnK P K (F 190) 29 [] (aie F T)
def dh (o:LD):Bool:=decide (o.life<=0)||o.f3
def B8 (q:LD->Bool)(d:SD)(p:Nat):Bool:=match d.pl[p]? with | some o=>!o.f2&&q o | none=>false
def dM (q:LD->Bool)(d:SD)(n:Nat):List Int:=((List.range n).filter (B8 q d)).map λp=>.ofNat p
theorem aa7 (q:LD->Bool)(d:SD)(n:Nat):dM q d (n+1)=dM q d n++if B8 q d n then [.ofNat n]else []:=by
 unfold dM
 rw[List.range_succ,List.filter_append,List.map_append,List.filter_cons]
 cases B8 q d n<;>rfl
theorem Pu (q:LD->Bool)(d:SD)(n:Nat):(dM q d n).length<=n:=by
 unfold dM
 rw[List.length_map]
 exact Nat.le_trans (List.length_filter_le ..) (by rw[List.length_range];exact Nat.le_refl _)
theorem aaL (hN:BaseN P K F T){o:LD}:bB P K (F 147) [.agg o.row] s (λv s'=>v=.bool (dh o)/\∃m,s'=m++s):=by
 refine hN.f147.cF ?_
 unfold agF dh
 by_cases h:o.life<=0
 ·have h1:binV .leq (iv o.life) (iv 0)=some (.bool true):=by rw[vQ,decide_eq_false<|by omega];rfl
  refine Vk (k:=λb1=>Vk (k:=We<|Wm (.tmp rfl .nil) ?_))
  exact⟨by rw[decide_eq_true h];rfl,[_],rfl⟩
 ·have h1:binV .leq (iv o.life) (iv 0)=some (.bool false):=by rw[vQ,decide_eq_true<|by omega];rfl
  refine Vk (k:=λb1=>Vk (k:=We<|Wm (.tmp rfl .nil) ?_))
  exact⟨by rw[decide_eq_false h];rfl,[_],rfl⟩
theorem ac3 (hN:BaseN P K F T){o:LD}:bB P K (F 150) [.agg o.row] s (λv s'=>v=.bool true/\∃m,s'=m++s):=by
 refine hN.f150.cF ?_
 refine Vk (k:=λb1=>Vk (k:=We<|Wm (.tmp rfl .nil) ?_))
 exact⟨rfl,[_],rfl⟩
theorem Zl (hE:GE P K F T tF g C d)(hN:BaseN P K F T)(hf:Has bf (.r false [bu bl aZ c0 c1 c2 c3 c4 bE] 8) t)(hs:aH bl EL d t s){q:LD->Bool}(VZ:∀(o:LD)s,c6 P K fv [.agg o.row] s (λv s'=>v=.bool (q o)/\∃m,s'=m++s)) :
  bB P K (F 146) [.agg [gm tF bf],fv] s (λv s'=>∃m,aH bl EL d (m++t) s'/\Src m 1 v (nR<|dM q d d.pl.length)):=by
 have hn:=hE.hd.n1
 refine hN.f146.cF ?_
 refine Vk (k:=λb2=>Vk (k:=?_))
 have dt:aH bl EL d ((b2,HO.r false [[gm tF bf]] 1)::t) ((b2,HO.r false [[gm tF bf]] 1)::s):=hs.cons
 refine Ww<|WS.invoke (vs:=[]) rfl (hE.hM.yd ) rfl ( tV hE.hB hE.hG dt hE.hd (.there hf)) ?_
 rintro _ s3 ⟨rfl,gw⟩
 refine Vk (k:=?_)
 refine Wp (λk l ds s'=>ds=[]/\∃p out og j,k=d.pl.length-p/\p<=d.pl.length/\aH bl EL d (og++(j++((b2,HO.r false [[gm tF bf]] 1)::t))) s'/\Gr 1 out (nR<|dM q d p) og/\∀x w,lk [(1,fv),(2,.ptr<|some ⟨b2,0,0⟩),(5,out),(10,iv<|.ofNat d.pl.length),(11,iv<|.ofNat p)] x=some w->lk l x=some w) ?_ (n:=d.pl.length-0)
  ⟨rfl,0,nilS,[],[],rfl,Nat.zero_le _,gw,.nil,bX rfl⟩
 rintro k l ds s5 ⟨rfl,p,out,og,j,rfl,hp,dT,hG,hl⟩
 refine Wg hl (λ_ _ h=>h) ?_
 by_cases hlt:p<d.pl.length
 rotate_left
 ·have e1:=d5 hlt
  have:p=d.pl.length:=by omega
  subst this
  refine Vk (k:=?_)
  refine Vk (k:=Wx<|Vk (k:=We<|Wm (.tmp rfl .nil) ?_))
  exact⟨og++(j++[(b2,HO.r false [[gm tF bf]] 1)]),dT.tT<|kT,hG.out.src.mono λq hq=>by simp[hq]⟩
 have e1:=ij hlt
 have ho:d.pl[p]?=some d.pl[p]:=List.getElem?_eq_getElem hlt
 generalize d.pl[p]=o at ho
 have hsn:=aa7 q d p
 have hlv:B8 q d p=(!o.f2&&q o):=by unfold B8;rw[ho]
 rw[hlv]at hsn
 refine Vk (k:=?_)
 refine Vk (k:=?_)
 refine Vk (k:=Ww<|WS.invoke (vs:=[iv (Int.ofNat p)]) rfl (hE.hM.RD ) rfl ( Ar hE.hB hE.hC hE.hT dT hE.hd (.app<|.app<|.there hf) ho) ?_)
 rintro _ s6 ⟨rfl,KL⟩
 have fin:∀{l9:Sl}{s9:SH}{j9 og9:SH}{v9:AV},aH bl EL d (og9++(j9++((b2,HO.r false [[gm tF bf]] 1)::t))) s9->Gr 1 v9 (nR<|dM q d<|p+1) og9->(∀x w,lk [(1,fv),(2,.ptr<|some ⟨b2,0,0⟩),(5,v9),(10,iv<|.ofNat d.pl.length),(11,iv<|.ofNat<|p+1)] x=some w->lk l9 x=some w) ->
   ∃m',m'<d.pl.length-p/\(([]:List aD)=[]/\∃p out og j,m'=d.pl.length-p/\p<=d.pl.length/\aH bl EL d (og++(j++((b2,HO.r false [[gm tF bf]] 1)::t))) s9/\Gr 1 out (nR<|dM q d p) og/\∀x w,lk [(1,fv),(2,.ptr<|some ⟨b2,0,0⟩),(5,out),(10,iv<|.ofNat d.pl.length),(11,iv<|.ofNat p)] x=some w->lk l9 x=some w):=
  λ{l9 s9 j9 og9 v9} h1 h2 h3=>⟨d.pl.length-(p+1),by omega,rfl,p+1,v9,og9,j9,rfl,hlt,h1,h2,h3⟩
 cases hf2:o.f2 with
 | true=>
  have Se:bV 1 (cu 6 o.row)=some [.bool true]:=by show some [AV.bool o.f2]=_;rw[hf2]
  rw[hf2]at hsn
  refine Wa (.alloc rfl) λb7=>Vk (k:=?_)
  exact fin (KL.bK (m:=[_])) (by rw[hsn];simpa using hG)<|bX rfl
 | false=>
  have Se:bV 1 (cu 6 o.row)=some [.bool false]:=by show some [AV.bool o.f2]=_;rw[hf2]
  rw[hf2]at hsn
  refine Wa (.alloc rfl) λb7=>Ww<|Wt (s':=(b7,.r false [LD.row o] 8)::_) rfl rfl rfl .here rfl rfl<|Wn<|Wq<|Wf rfl<|Wl rfl .here rfl Se rfl<|Wr (.un rfl rfl)<|Wv rfl<|Wy<|Wv rfl<|Wy<|Wl (cs:=LD.row o) rfl .here rfl rfl rfl<|Wy<|Ww<|WS.call (vs:=[AV.agg (LD.row o)]) rfl rfl (VZ o _) ?_
  rintro _ s7 ⟨rfl,m7,rfl⟩
  cases hq:q o with
  | false=>
   rw[hq]at hsn
   refine Wr (.cV rfl rfl)<|Wn<|Wd rfl fS<|λ_=>Wi<|Wo<|Wj rfl rfl (bM<|by omega)<|Wv rfl<|Wn ?_
   exact fin ((KL.bK (m:=[_])).bK (m:=m7)) (by rw[hsn];simpa using hG)<|bX rfl
  | true=>
   rw[hq]at hsn
   obtain⟨u,hu,hback⟩:=KL.split
   refine Wr (.cV rfl rfl)<|Wn<|Wd rfl (λ_=>Wo<|W (k:=Wa (.bslice (fZ rfl rfl) rfl) λb28=>?_)) Dz
   refine Ww<|WS.pre (s':=((b28,.r false [[iv (.ofNat p)]] 1)::(m7++((b7,HO.r false [o.row] 8)::u)))++(og++(j++((b2,HO.r false [[gm tF bf]] 1)::t)))) (ak λc w h0 h1 h2 hq=>by have:=hq _ _ hu;simp only[h1,h2]at this |-;omega)<|WS.append_gr rfl hG rfl (Src.all (L:=[[iv (.ofNat p)]]) .here) (by omega) (by rw[gq];have:=Pu q d p;omega) (by omega) λv' o' jk xB=>?_
   refine Vk (k:=?_)
   refine fin (og9:=o') (j9:=(b28,.r false [[iv (.ofNat p)]] 1)::(m7++((b7,HO.r false [o.row] 8)::(jk++j)))) ((hback<|o'++(((b28,.r false [[iv (.ofNat p)]] 1)::(m7++((b7,HO.r false [o.row] 8)::(jk++j))))++((b2,HO.r false [[gm tF bf]] 1)::t))).perm (kT)) ?_<|bX rfl
   rw[hsn]
   simpa[nR]using xB
def weakP (g:ED->CH->CH)(d:SD)(C:List CD)(o:OD):Bool:=match chOf g d C o.id with | some x=>decide (x.t<=0)||decide (x.t<=o.hurt) | none=>false
theorem afK (h:a<=b):binV .leq (iv a) (iv b)=some (.bool true):=by rw[vQ,decide_eq_false (by omega)];rfl
theorem afJ (h:¬a<=b):binV .leq (iv a) (iv b)=some (.bool false):=by rw[vQ,decide_eq_true (by omega)];rfl
theorem acG (hE:GE P K F T tF g C d)(hN:BaseN P K F T)(hf:Has bf (.r false [bu bl aZ c0 c1 c2 c3 c4 bE] 8) t)(eQ:cI t aZ C){b1:Nat}(h1:Has b1 (.r false [[.ptr (some ⟨bf,0,0⟩)]] 1) t)(hs:aH bl EL d t s){c:CD}(hcs:dz (.agg c.row) (.agg c.row)=true) :
  bB P K (F 110) [.agg o.row,.agg c.row,.ptr<|some ⟨b1,0,0⟩] s (λv s'=>v=.bool (weakP g d C o)/\aH bl EL d t s'):=by
 refine hN.f110.cF ?_
 refine Vk (k:=λb3=>Wa (.box rfl rfl) λb4=>Vk (k:=?_))
 have pM:aH bl EL d ((b4,HO.r false [c.row] 11)::(b3,HO.r false [o.row] 14)::t) ((b4,HO.r false [c.row] 11)::(b3,HO.r false [o.row] 14)::s):=hs.cons.cons
 refine Ww<|W1 (pE hE.hB hE.hC hE.hT pM hE.hd (.there<|.there hf) (eQ.mono λq hq=>by simp[hq]) hE.hO) ?_
 rintro _ s5 ⟨hv,dT⟩
 unfold weakP
 cases vo:chOf g d C o.id with
 | none=>
  rw[vo]at hv
  subst hv
  refine Vk (k:=λb6=>Vk (k:=We<|Wm (.tmp rfl .nil) ?_))
  exact⟨rfl,(dT.tail.tail).bK (m:=[_])⟩
 | some x=>
  rw[vo]at hv
  subst hv
  show WO P K _ _ _ _ _
  by_cases h2:x.t<=0
  ·have e1:=afK h2
   refine Vk (k:=λb6=>Vk (k:=We<|Wm (.tmp rfl .nil) ?_))
   exact⟨(show AV.bool true=AV.bool (decide (x.t<=0)||decide (x.t<=o.hurt)) by rw[decide_eq_true h2];rfl),(dT.tail.tail).bK (m:=[_])⟩
  ·have e1:=afJ h2
   by_cases h3:x.t<=o.hurt
   ·have e2:=afK h3
    refine Vk (k:=λb6=>Vk (k:=We<|Wm (.tmp rfl .nil) ?_))
    exact⟨(show AV.bool true=AV.bool (decide (x.t<=0)||decide (x.t<=o.hurt)) by rw[decide_eq_true h3,Bool.or_true]),(dT.tail.tail).bK (m:=[_])⟩
   ·have e2:=afJ h3
    refine Vk (k:=λb6=>Vk (k:=We<|Wm (.tmp rfl .nil) ?_))
    exact⟨(show AV.bool false=AV.bool (decide (x.t<=0)||decide (x.t<=o.hurt)) by rw[decide_eq_false h2,decide_eq_false h3];rfl),(dT.tail.tail).bK (m:=[_])⟩
theorem abc (hE:GE P K F T tF g C d)(hN:BaseN P K F T)(hQ:BaseQ P K F T)(hf:Has bf (.r false [bu bl aZ c0 c1 c2 c3 c4 bE] 8) t)(eQ:cI t aZ C)(hs:aH bl EL d t s)(hcd:∀o∈d.ob,∃j:Nat,o.gE=.ofNat j/\j<C.length)(hall:∀id∈d.fi,∃o,d.obj id=some o) :
  bB P K (F 56) [.ptr (some ⟨bf,0,0⟩)] s (λv s'=>∃m,aH bl EL d (m++t) s'/\Src m 1 v (nR<|k8 d C (λo _=>weakP g d C o) d.fi)):=by
 refine hN.f56.cF ?_
 refine Vk (k:=λb1=>Vk (k:=?_))
 have nr:aH bl EL d ((b1,HO.r false [[.ptr (some ⟨bf,0,0⟩)]] 1)::t) ((b1,HO.r false [[.ptr (some ⟨bf,0,0⟩)]] 1)::s):=hs.cons
 have ag6:cI ((b1,HO.r false [[.ptr (some ⟨bf,0,0⟩)]] 1)::t) aZ C:=eQ.mono λq hq=>by simp[hq]
 have VZ:∀(o:OD)(c:CD)(t' s':SH),o∈d.ob->c∈C->(∀q∈((b1,HO.r false [[.ptr (some ⟨bf,0,0⟩)]] 1)::t),q∈t')->aH bl EL d t' s'->c6 P K (.func (F 110) [] [.ptr (some ⟨b1,0,0⟩)]) [.agg o.row,.agg c.row] s' (λv s''=>v=.bool (weakP g d C o)/\aH bl EL d t' s''):=by
  intro o c t' s' ho hc ht hs'
  exact c6.func<|acG hE hN (.ce<|ht _<|.tail _ hf.mem) (ag6.mono ht) (.ce<|ht _<|.head _) hs'<|J3 c<|eQ.ab c hc
 refine Ww<|W1 (aas hE hQ (.there hf) ag6 nr hcd hall VZ) ?_
 rintro v s2 ⟨m,dt,hv⟩
 refine Vk (k:=We<|Wm (.tmp rfl .nil) ?_)
 exact⟨m++[(b1,HO.r false [[.ptr (some ⟨bf,0,0⟩)]] 1)],by rw[List.append_assoc];exact dt,hv.mono λq hq=>by simp[hq]⟩
variable {id:Int}
theorem abA (hE:GE P K F T tF g C d)(hN:BaseN P K F T)(hf:Has bf (.r false [bu bl aZ c0 c1 c2 c3 c4 bE] 8) t)(eQ:cI t aZ C)(hs:aH bl EL d t s) :
  bB P K (F 189) [gm tF bf,iv id] s (λv s'=>v=.bool (chOf g d C id).isSome/\aH bl EL d t s'):=by
 refine hN.f189.cF ?_
 refine Vk (k:=Ww<|WS.invoke (vs:=[iv id]) rfl (hE.hM.chars ) rfl ( pE hE.hB hE.hC hE.hT hs hE.hd hf eQ hE.hO) ?_)
 rintro _ s5 ⟨hv,dT⟩
 cases vo:chOf g d C id with
 | none=>
  rw[vo]at hv
  subst hv
  refine Vk (k:=λb5=>Vk (k:=We<|Wm (.tmp rfl .nil) ?_))
  exact⟨rfl,dT.bK (m:=[_])⟩
 | some x=>
  rw[vo]at hv
  subst hv
  refine Vk (k:=λb5=>Vk (k:=We<|Wm (.tmp rfl .nil) ?_))
  exact⟨rfl,dT.bK (m:=[_])⟩
theorem ack (hE:GE P K F T tF g C d)(hN:BaseN P K F T)(h45:Ty P (T 45) 14)(hf:Has bf (.r false [bu bl aZ c0 c1 c2 c3 c4 bE] 8) t)(hs:aH bl EL d t s)(ho:d.obj id=some o) :
  bB P K (F 187) [gm tF bf,iv id] s (λv s'=>v=.tuple [.agg o.row,.bool<|decide<|o.ci=2]/\aH bl EL d t s'):=by
 refine hN.f187.cF ?_
 refine Vk (k:=λb4=>Vk (k:=?_))
 have pM:aH bl EL d ((b4,HO.r false [dB] 14)::t) ((b4,HO.r false [dB] 14)::s):=hs.cons
 refine Ww<|WS.invoke (vs:=[iv id]) rfl (hE.hM.obj ) rfl ( Qq hE.hB hE.hC pM hE.hd (.there hf)) ?_
 rintro _ s5 ⟨hv,dT⟩
 rw[ho]at hv
 subst hv
 have hq:eqBy 20 .pi (iv o.ci) (iv 2)=some (decide<|o.ci=2):=cD _ _
 obtain⟨u5,hp5,KL⟩:=dT.first
 refine WO.pre hp5<|Vk (k:=λb6=>Vk (k:=WP.bD<|Dl rfl .nil (.load (cs:=OD.row o) rfl .here rfl rfl rfl)<|Dp (.mv rfl)<|Dp (.mv rfl)<|Dy<|Dp (.faddr rfl)<|Dy<|WD.lk rfl .nil (.load rfl .here rfl rfl rfl)<|Dy<|Dp (.eql rfl rfl hq)<|Dp (.cV rfl rfl)<|Dc .nil<|Wt (s':=_::(b4,.r false [OD.row o] 14)::_) rfl rfl rfl (.there .here) rfl rfl<|Dp (.mv rfl) ?_))
 refine D0 .nil ?_<|ob2 (wC _) (.load rfl .here rfl rfl rfl)<|.load rfl .here rfl rfl rfl
 exact We<|Wm (.cell rfl h45.1 h45.2 (.inl rfl) (.there .here) rfl rfl rfl<|.tmp rfl .nil) ⟨rfl,KL.bK (m:=[_,_])⟩
variable {z:Int}
theorem abN (hE:GE P K F T tF g C d) (hN:BaseN P K F T) (A2:meth P tF "Do"=some (F 15)) (hf:Has bf (.r false [bu bl aZ c0 c1 c2 c3 c4 bE] 8) t) (hs:aH bl EL d t s)   (ho:d.obj id=some o) {R:SH->Prop}
  (h:∀s',aH bl EL d t s'->bB P K (F 15) [.ptr (some ⟨bf,0,0⟩),.agg<|if o.token then evRow 25 id 0 0 0 l5 else evRow 2 id z 0 0 l5] s' (λ_ s''=>R s'')) :
  bB P K (F 190) [gm tF bf,iv id,iv z] s (λ_ s'=>R s'):=by
 refine hN.f190.cF ?_
 refine Vk (k:=Ww<|WS.invoke (vs:=[iv id]) rfl (hE.hM.obj ) rfl ( Qq hE.hB hE.hC hs hE.hd hf) ?_)
 rintro _ s5 ⟨hv,dT⟩
 rw[ho]at hv
 subst hv
 cases ht:o.token with
 | true=>
  rw[ht]at h
  have Se:bV 1 (cu 7 o.row)=some [.bool true]:=by show some [AV.bool o.token]=_;rw[ht]
  refine Vk (k:=λb6=>Vk (k:=Wr (.build (cs:=evRow 25 id 0 0 0 l5) rfl rfl) ?_))
  refine Ww<|WS.invoke (vs:=[AV.agg (evRow 25 id 0 0 0 l5)]) rfl (A2 ) rfl ( h _ (dT.bK (m:=[_]))) ?_
  intro w s7 hR
  refine Wn<|Wm .nil ?_
  exact hR
 | false=>
  rw[ht]at h
  have Se:bV 1 (cu 7 o.row)=some [.bool false]:=by show some [AV.bool o.token]=_;rw[ht]
  refine Vk (k:=λb6=>Vk (k:=Wr (.build (cs:=evRow 2 id z 0 0 l5) rfl rfl)<|Ww<|WS.invoke (vs:=[AV.agg (evRow 2 id z 0 0 l5)]) rfl (A2 ) rfl ( h _ (dT.bK (m:=[_]))) ?_))
  intro w s7 hR
  refine Wn<|Wm .nil ?_
  exact hR
theorem abG (hR:BaseR P K F T){o:LD}{k a b n m:Int}{it:ID}(hu:oY bp (.r false L 8) (.r false (L.set i ({ o with f3:=true }:LD).row) 8) s s')(hr:L[i]?=some o.row) :
  bB P K (F 270) [.ptr (some ⟨bp,i,0⟩),.agg<|evRow k a b n m it] s (λ_ s2=>∃m,s2=m++s'):=by
 refine hR.f270.cF ?_
 refine Wq<|Wa (.box rfl rfl) λb3=>Wn ?_
 refine Wo<|Wv rfl<|Wr (.nilchk rfl rfl)<|Wf rfl<|Ww<|Wt rfl rfl rfl (.there hu) hr rfl<|Wn<|Wm .nil ⟨[_],rfl⟩
theorem ab6 (hB:Base P K F T)(ad7:FnK P K (F 264) 15 [] (aeG F T))(hR:BaseR P K F T){o:LD}(hd:d.Small)(he:d.kQ)(ho:d.pl[p]?=some o)(lm:∀s,bB P K (F 201) [.agg (evRow 24 (.ofNat p) b n m it)] s (λv s'=>v=iv 0/\s'=s)) :
  Ap P K F 24 (.ofNat p) b n m it d { d with pl:=d.pl.set p { o with f3:=true } }:=
 yH (k:=24) hB hd lm (aab hB<|by simp) (λ{_ _ _ _ v} hv hW=>by
  obtain⟨bd,bx,rfl,_⟩:=(show iP F _ _ v true false false 264 270 from hv)
  exact aaD hB hW hd he (k:=24) (by omega) (by omega) (by omega) (by omega) (List.getElem?_eq_some_iff.1 ho).1) (λ{_ _ _ _ _ _ _} hv hW=>by
  obtain⟨bd,bx,hv,h1,h2⟩:=(show iP F _ _ _ true false false 264 270 from hv)
  cases hv
  exact abF (o':={ o with f3:=true }) ad7 hW h1 h2 ho λ{s s' bp L} hu hr=>abG hR hu hr)
theorem aaX (hB:Base P K F T)(hd:d.Small)(he:d.kQ)(lm:∀s,bB P K (F 201) [.agg (evRow 29 a b n m it)] s (λv s'=>v=iv 0/\s'=s)) :
  Ap P K F 29 a b n m it d { d with oc:=a,wi:=b }:=
 yH (k:=29) hB hd lm (aaa hB<|by simp) (λ{_ _ _ _ v} hv hW=>by
  obtain⟨bx,rfl,_⟩:=(show km F _ _ v false false false 284 from hv)
  exact abp hB hW hd he (k:=29) (by omega) (by omega) (by omega) (by omega)) (λ{_ _ _ _ _ _ _} hv hW=>by
  obtain⟨bx,hv,hx⟩:=(show km F _ _ _ false false false 284 from hv)
  cases hv
  exact c6.func (adi hB hW hx))
variable {J:Nat->List (List AV)->SD->Prop}
theorem aaw (hE:GE P K F T tF g C d)(hN:BaseN P K F T)(hf:Has bf (.r false [bu bl aZ c0 c1 c2 c3 c4 bE] 8) t)(hs:aH bl EL d t s)(h0:J 0 EL d)
  (afG:∀(m:SH)(q:Nat)(p:Int)EL1 d1 s1,(dM dh d d.pl.length)[q]?=some p->J q EL1 d1->aH bl EL1 d1 (m++t) s1->bB P K (F 148) [.agg [gm tF bf],iv p] s1 (λ_ s2=>∃Gg d2,J (q+1) Gg d2/\aH bl Gg d2 (m++t) s2)) :
  bB P K (F 98) [.agg [gm tF bf]] s (λv s'=>v=.bool (decide<|0<(dM dh d d.pl.length).length)/\∃Gg d2,J (dM dh d d.pl.length).length Gg d2/\aH bl Gg d2 t s'):=by
 refine hN.f98.cF ?_
 refine Vk (k:=λb1=>Vk (k:=?_))
 have nr:aH bl EL d ((b1,HO.r false [[gm tF bf]] 1)::t) ((b1,HO.r false [[gm tF bf]] 1)::s):=hs.cons
 refine Ww<|W1 (Zl hE hN (.there hf) nr (q:=dh)<|λo s=>c6.func<|aaL hN) ?_
 rintro v3 s2 ⟨m,dt,hv⟩
 generalize hL:dM dh d d.pl.length=L at afG hv |-
 have IH:L.length<=1000:=by rw[<- hL];exact Nat.le_trans (Pu _ _ _) hE.hd.n1.1
 have hlv:lenOf v3=some L.length:=by rw[hv.lenOf,gq]
 refine Vk (k:=?_)
 refine Wp (λk l ds s'=>ds=[]/\∃q EL1 d1,k=L.length-q/\q<=L.length/\J q EL1 d1/\aH bl EL1 d1 (m++((b1,HO.r false [[gm tF bf]] 1)::t)) s'/\∀x w,lk [(1,.ptr<|some ⟨b1,0,0⟩),(3,v3),(8,v3),(9,iv<|.ofNat L.length),(10,iv<|.ofNat q)] x=some w->lk l x=some w) ?_ (n:=L.length-0)
  ⟨rfl,0,EL,d,rfl,Nat.zero_le _,h0,dt,bX rfl⟩
 rintro k l ds s5 ⟨rfl,q,EL1,d1,rfl,hq,hJ,dT,hl⟩
 refine Wg hl (λ_ _ h=>h) ?_
 by_cases hlt:q<L.length
 rotate_left
 ·have e1:=d5 hlt
  have hqL:q=L.length:=by omega
  subst hqL
  have e2:binV .gtr (iv<|.ofNat L.length) (iv 0)=some (.bool<|decide<|0<L.length):=by
   rw[abg]
   congr 2
   exact decide_eq_decide.2 Int.ofNat_lt
  refine Vk (k:=?_)
  refine Vk (k:=Wx<|Vk (k:=We<|Wm (.tmp rfl .nil) ?_))
  exact⟨rfl,EL1,d1,hJ,(dT.fb).tail⟩
 have e1:=ij hlt
 have hx:L[q]?=some L[q]:=List.getElem?_eq_getElem hlt
 generalize L[q]=p at hx
 obtain⟨ba,ra,na,ca,J5,Sp,Ma,e4,hba,me,hra⟩:=hv.at (i:=q) (by rw[gq];exact hlt)
 have hrow:Ma[ra+q]?=some [iv p]:=by rw[hra,nR,List.getElem?_map,hx];rfl
 subst e4
 have hm:∀{E:List (List AV)}{D:SD}{S:SH},aH bl E D (m++((b1,HO.r false [[gm tF bf]] 1)::t)) S->aH bl E D ((m++[(b1,HO.r false [[gm tF bf]] 1)])++t) S:=λh=>by rw[List.append_assoc];exact h
 have hm2:∀{E:List (List AV)}{D:SD}{S:SH},aH bl E D ((m++[(b1,HO.r false [[gm tF bf]] 1)])++t) S->aH bl E D (m++((b1,HO.r false [[gm tF bf]] 1)::t)) S:=λh=>by rw[List.append_assoc]at h;exact h
 refine Wq<|W (k:=Wn ?_)
 refine Ws<|Wd rfl (λ_=>Wi<|Ws<|Wb<|Wq<|Wr (.iaddrS rfl rfl (by omega)<|by decide)<|Wl rfl (dT.mem<|.left hba) hrow rfl rfl<|Wv rfl<|Wn<|Wo<|Wl (cs:=[gm tF bf]) rfl (dT.mem<|.app .here) rfl rfl rfl<|Wv rfl ?_) Dz
 refine Ww<|W1 (afG _ q p EL1 d1 _ hx hJ<|hm dT) ?_
 rintro _ s6 ⟨Gg,d2,hJ2,KL⟩
 refine Vk (k:=?_)
 exact⟨L.length-(q+1),by omega,rfl,q+1,Gg,d2,rfl,hlt,hJ2,hm2 KL,bX rfl⟩
theorem adB (hN:BaseN P K F T){fs:List AV}{cv:AV}{J:Nat->Bool->SH->Prop}(hn:fs.length<=1000)(hsrc:∀q b s,J q b s->Src s 1 cv (fs.map λf=>[f]))
  (hstep:∀q f b s,fs[q]?=some f->J q b s->c6 P K f [] s (λv s'=>∃r,v=.bool r/\J (q+1) (b||r) s')) {s:SH} (hs:J 0 false s) :
  bB P K (F 97) [cv] s (λv s'=>∃b,v=.bool b/\J fs.length b s'):=by
 refine hN.f97.cF ?_
 have hS:=hsrc _ _ s hs
 have hl:lenOf cv=some fs.length:=by rw[hS.lenOf,List.length_map]
 refine Vk (k:=?_)
 refine Wp (λk l ds s'=>ds=[]/\∃q b,k=fs.length-q/\q<=fs.length/\J q b s'/\∀x w,lk [(3,.bool b),(6,cv),(7,iv<|.ofNat fs.length),(8,iv<|.ofNat q)] x=some w->lk l x=some w) ?_ (n:=fs.length-0)
  ⟨rfl,0,false,rfl,Nat.zero_le _,hs,bX rfl⟩
 rintro k l ds s5 ⟨rfl,q,b,rfl,hq,hJ,hl5⟩
 refine Wg hl5 (λ_ _ h=>h) ?_
 by_cases hlt:q<fs.length
 rotate_left
 ·have e1:=d5 hlt
  have hqL:q=fs.length:=by omega
  subst hqL
  refine Vk (k:=?_)
  refine Vk (k:=Wx<|Vk (k:=We<|Wm (.tmp rfl .nil) ?_))
  exact⟨b,rfl,hJ⟩
 have e1:=ij hlt
 have hx:fs[q]?=some fs[q]:=List.getElem?_eq_getElem hlt
 generalize fs[q]=f at hx
 obtain⟨ba,ra,na,ca,J5,Sp,Ma,e4,hba,me,hra⟩:=(hsrc _ _ _ hJ).at (i:=q) (by rw[List.length_map];exact hlt)
 have hrow:Ma[ra+q]?=some [f]:=by rw[hra,List.getElem?_map,hx];rfl
 subst e4
 refine Vk (k:=?_)
 refine Vk (k:=?_)
 refine Vk (k:=Ww<|WS.call (vs:=[]) rfl rfl (hstep q f b _ hx hJ) ?_)
 rintro _ s6 ⟨r,rfl,hJ6⟩
 cases r with
 | true=>
  rw[Bool.or_true]at hJ6
  refine Vk (k:=?_)
  exact⟨fs.length-(q+1),by omega,rfl,q+1,true,rfl,hlt,hJ6,bX rfl⟩
 | false=>
  rw[Bool.or_false]at hJ6
  refine Vk (k:=?_)
  exact⟨fs.length-(q+1),by omega,rfl,q+1,b,rfl,hlt,hJ6,bX rfl⟩
theorem agX (a:Nat):binV .gtr (iv (.ofNat a)) (iv 1)=some (.bool (decide (1<a))):=by
 rw[abg]
 congr 2
 exact decide_eq_decide.2 Int.ofNat_lt
theorem aa3 (hE:GE P K F T tF g C d)(hN:BaseN P K F T)(hS:BaseS P K F T)(hM:aaF P F tF)(hf:Has bf (.r false [bu bl aZ c0 c1 c2 c3 c4 bE] 8) t)(hs:aH bl EL d t s){R:Bool->SH->Prop}(h0:∀s1,d.oc≠0\/1<(dM (λ_=>true) d d.pl.length).length->aH bl EL d t s1->R false s1)
  (h1:∀(m:SH)(p:Nat)s1,¬1<(dM (λ_=>true) d d.pl.length).length->p<d.pl.length->aH bl EL d (m++t) s1->bB P K (F 66) [.agg [gm tF bf],iv 29,iv 1,iv<|.ofNat p] s1 (λ_ s2=>R true s2)) (h2:∀(m:SH)s1,¬1<(dM (λ_=>true) d d.pl.length).length->aH bl EL d (m++t) s1->bB P K (F 66) [.agg [gm tF bf],iv 29,iv 2,iv 0] s1 (λ_ s2=>R true s2)) :
  bB P K (F 100) [.agg [gm tF bf]] s (λv s'=>∃b,v=.bool b/\R b s'):=by
 refine hN.f100.cF ?_
 unfold agE
 refine Vk (k:=λb1=>Vk (k:=?_))
 have nr:aH bl EL d ((b1,HO.r false [[gm tF bf]] 1)::t) ((b1,HO.r false [[gm tF bf]] 1)::s):=hs.cons
 refine Ww<|W1 (Zl hE hN (.there hf) nr (q:=λ_=>true)<|λo s=>c6.func<|ac3 hN) ?_
 rintro v3 s2 ⟨m,dt,hv⟩
 have hmem:∀p∈dM (λ_=>true) d d.pl.length,∃k:Nat,k<d.pl.length/\p=.ofNat k:=by
  intro p hp
  obtain⟨k,hk,rfl⟩:=List.mem_map.1 hp
  exact⟨k,List.mem_range.1 (List.mem_filter.1 hk).1,rfl⟩
 have hb0:∀s1,d.oc≠0\/1<(dM (λ_=>true) d d.pl.length).length->aH bl EL d (m++((b1,HO.r false [[gm tF bf]] 1)::t)) s1->R false s1:=λs1 hh h=>h0 s1 hh h.fb.tail
 generalize dM (λ_=>true) d d.pl.length=L at hv hmem hb0 h1 h2
 have hlv:lenOf v3=some L.length:=by rw[hv.lenOf,gq]
 have hm:∀{S:SH},aH bl EL d (m++((b1,HO.r false [[gm tF bf]] 1)::t)) S->aH bl EL d ((m++[(b1,HO.r false [[gm tF bf]] 1)])++t) S:=λh=>by rw[List.append_assoc];exact h
 refine Vk (k:=Ww<|W1 (zY hE.hB hE.hI hS hE.t128 hM dt hE.hd<|.app<|.there hf) ?_)
 rintro _ s4 ⟨rfl,pM⟩
 cases UM:(!decide (d.oc=0)) with
 | true=>
  refine Vk (k:=We<|Wm (.tmp rfl .nil) ?_)
  exact⟨false,rfl,hb0 _ (.inl<|of_decide_eq_false<|by simpa using UM) pM⟩
 | false=>
  have e1:=agX L.length
  by_cases hl1:1<L.length
  ·rw[decide_eq_true hl1]at e1
   refine Vk (k:=We<|Wm (.tmp rfl .nil) ?_)
   exact⟨false,rfl,hb0 _ (.inr hl1) pM⟩
  ·rw[decide_eq_false hl1]at e1
   cases L with
   | nil=>
    have e2:eqBy 20 .pi (iv<|.ofNat 0) (iv 1)=some false:=rfl
    have hlv:lenOf v3=some 0:=hlv
    refine Vk (k:=Ww<|W1 (h2 _ _ hl1<|hm pM) ?_)
    rintro _ s5 hR
    refine Vk (k:=We<|Wm (.tmp rfl .nil) ?_)
    exact⟨true,rfl,hR⟩
   | cons p L=>
    have XV:L=[]:=by
     cases L with
     | nil=>rfl
     | cons _ _=>simp at hl1
    subst XV
    have e2:eqBy 20 .pi (iv<|.ofNat 1) (iv 1)=some true:=rfl
    have hlv:lenOf v3=some 1:=hlv
    obtain⟨k,hk,rfl⟩:=hmem p<|.head _
    obtain⟨ba,ra,na,ca,J5,Sp,Ma,e4,hba,me,hra⟩:=hv.at (i:=0)<|by simp[nR]
    have hrow:Ma[ra+0]?=some [iv (.ofNat k)]:=hra
    subst e4
    refine Vk (k:=WP.bD<|Dl rfl .nil (.load (cs:=[gm tF bf]) rfl (pM.mem<|.app .here) rfl rfl rfl)<|Dp (.mv rfl)<|Dp (.iaddrS rfl rfl (by omega)<|by decide)<|Dl rfl .nil (.load rfl (pM.mem<|.left hba) hrow rfl rfl) ?_)
    refine Dc .nil<|W1 (h1 _ k _ hl1 hk<|hm pM) ?_
    rintro _ s5 hR
    refine D0 .nil ?_<|λo h=>nomatch h
    refine Vk (k:=We<|Wm (.tmp rfl .nil) ?_)
    exact⟨true,rfl,hR⟩
def qa (id:Int)(x:ID):ID:=if x.obj=id then{ x with obj:=.negSucc 0 }else x
theorem acF (hB:Base P K F T){b r:Nat}{x:ID}{id:Int}(hr:L[r]?=some x.row)(hu:oY b (.r false L 7) (.r false (L.set r ({ x with obj:=.negSucc 0 }:ID).row) 7) s s') :
  bB P K (F 295) [.ptr (some ⟨b,r,3⟩),nilS,iv id] s (λ_ s2=>s2=if x.obj=id then s' else s):=by
 have hb:=hu.has.1
 by_cases h:x.obj=id
 ·refine hB.f295.cF ?_
  have h1:eqBy 20 .pi (iv x.obj) (iv id)=some true:=by rw[cD,decide_eq_true h]
  rw[if_pos h]
  refine Vk (k:=Ww<|Wt rfl rfl rfl hu hr rfl<|Wn<|Vk (k:=WP.dA<|Vk (k:=Wx ?_)))
  exact Wm .nil rfl
 ·rw[if_neg h]
  exact wX (o:=3) hB hb hr rfl h
theorem aa6 (hB:Base P K F T)(hs:WH bw d t s)(hd:d.Small)(he:d.kQ)(hi:d.find id=some i)(xG:d.ob[i]?=some o)(hp:p<d.pl.length)(ho:o.owner=.ofNat p)
  (hst:d.st=[]) (Sc:d.co≠id) (oZ:∀o∈d.ob,o.block≠id) :
  bB P K (F 262) [.ptr (some ⟨bw,0,0⟩),iv id] s (λw s'=>w=.agg o.row/\WH bw { d.left id i o.ci p with wa:=d.wa.map (qa id) } t s'):=by
 obtain⟨pv,ov,lv,hv,gv,ev,fv,sv,wv,n,k1,k2⟩:=hs
 refine bB.perm k1.symm ?_
 refine hB.f262.cF ?_
 have hil:i<d.ob.length:=(List.getElem?_eq_some_iff.1 xG).1
 have hn:=hd.n1
 refine Wq<|Wa (.box rfl rfl) λb3=>Wa (.alloc rfl) λb4=>Wn<|Ws<|WP.bD<|Dp (.mv rfl)<|Dp (.nilchk rfl rfl)<|Dp (.faddr rfl)<|Dl rfl .nil (.load rfl (.there<|.there .here) rfl rfl rfl)<|Dl rfl .nil (.load rfl (.there .here) rfl rfl rfl)<|Dc .nil<|Wc rfl rfl (lg hB (d:=d) ((k2.r λp hp=>by simp[hp]).ob) hd) ?_
 rintro w _ ⟨rfl,m,rfl⟩
 rw[hi]
 refine Dp (.mv rfl)<|D0 .nil ?_<|λo h=>nomatch h
 obtain⟨oo,r,e1,e2,e3⟩:=k2.xS
 have IJ:Src (m++((b4,.r false [dB] 14)::(b3,.r false [[iv id]] 1)::(bw,.r false [d.cells pv ov lv hv gv ev fv sv wv] 25)::(n++t))) 14 ov (fy d.ob):=(k2.r λp hp=>by simp[hp]).ob
 obtain⟨bo,ro,no,co,so,WE,MO,rfl,IM,hno,hMo⟩:=IJ.at (i:=i)<|by simpa[fy]using hil
 have hrow:(fy d.ob)[i]?=some o.row:=by rw[fy,List.getElem?_map,xG];rfl
 refine Wq<|Wv rfl<|Wr (.nilchk rfl rfl)<|Wf rfl<|Wf rfl<|Wl rfl (.app<|.there<|.there .here) rfl rfl rfl<|Wv rfl<|Wr (.iaddrS rfl rfl hno<|by omega)<|Wl rfl IM (hMo.trans hrow) rfl rfl<|Wa (.alloc rfl) λb6=>Ww<|Wt rfl rfl rfl .here rfl rfl<|Wn ?_
 -- the list in which it ZG
 have hW:WH bw d ([(b6,.r false [o.row] 14),(b4,.r false [dB] 14),(b3,.r false [[iv id]] 1)]++t) ((b6,.r false [o.row] 14)::(m++((b4,.r false [dB] 14)::(b3,.r false [[iv id]] 1)::(bw,.r false [d.cells pv (.slice (some ⟨bo,ro,0⟩) no co so 14) lv hv gv ev fv sv wv] 25)::(n++t)))):=
  ⟨_,_,_,_,_,_,_,_,_,m++n,kT,k2.bK⟩
 refine Ws<|Wq<|Wv rfl<|Wf rfl<|Wl rfl .here rfl rfl rfl<|Wf rfl<|Wl rfl .here rfl rfl rfl<|Ww<|Wc (vs:=[.ptr (some ⟨bw,0,0⟩),iv o.ci,.int .i64<|.ofNat p]) rfl (by rw[<- ho];rfl) (ry hB hW he (z:=o.ci) hp) ?_
 rintro w7 s7 ⟨q1,q2⟩
 -- behind it: the rest of the walk
 have tail:∀(d2:SD)(s8:SH)(l8:Sl),d2.ob=d.ob->d2.st=[]->d2.wa=d.wa->d2.co=d.co->({ d2 with ob:=d.ob.eraseIdx i }:SD)=d.left id i o.ci p->WH bw d2 ([(b6,.r false [o.row] 14),(b4,.r false [dB] 14),(b3,.r false [[iv id]] 1)]++t) s8 ->
   lk l8 0=some (.ptr<|some ⟨bw,0,0⟩)->lk l8 3=some (.ptr<|some ⟨b3,0,0⟩)->lk l8 4=some (.ptr<|some ⟨b4,0,0⟩)->lk l8 5=some (.int .i64<|.ofNat i)->lk l8 6=some (.ptr<|some ⟨b6,0,0⟩)->WP P K none 131 (Kl F T) l8 [] s8 (Fin P [.cell 4 (T 45)] λw s'=>w=.agg o.row/\WH bw { d.left id i o.ci p with wa:=d.wa.map (qa id) } t s') (λ_ _ _ _=>False) (Fin P [.cell 4 (T 45)] λw s'=>w=.agg o.row/\WH bw { d.left id i o.ci p with wa:=d.wa.map (qa id) } t s'):=by
  intro d2 s8 l8 zF pk Y9 Yg hd2 hW8 x0 x3 x4 x5 x6
  obtain⟨pv,ov,lv,hv,gv,ev,fv,sv,wv,n2,h8,g8⟩:=hW8
  obtain⟨oo,r,e1,e2,e3⟩:=g8.xS
  rw[zF]at e2
  unfold Kl
  refine WP.pre (s':=[(bw,.r false [d2.cells pv ov lv hv gv ev fv sv wv] 25)]++(oo++(r++((b6,.r false [o.row] 14)::(b4,.r false [dB] 14)::(b3,.r false [[iv id]] 1)::t)))) (ak λc w h0 h1 h2 hq=>by rw[hq _ _ h8];simp only[h1,h2,h0,hq _ _ e1];omega)<|Wq<|Wv x0<|Wv x0<|Wr (.nilchk rfl rfl)<|Wf rfl<|Wf rfl<|Wl rfl .here rfl rfl rfl<|Wv x5<|Wv x5<|Wj rfl rfl (bM<|by omega) ?_
  have qZ:bB P K (F 294) [ov,.int .i64<|.ofNat i,.int .i64<|.ofNat<|i+1] ([(bw,.r false [d2.cells pv ov lv hv gv ev fv sv wv] 25)]++(oo++(r++((b6,.r false [o.row] 14)::(b4,.r false [dB] 14)::(b3,.r false [[iv id]] 1)::t)))) (λv' s'=>∃o',s'=[(bw,.r false [d2.cells pv ov lv hv gv ev fv sv wv] 25)]++(o'++(r++((b6,.r false [o.row] 14)::(b4,.r false [dB] 14)::(b3,.r false [[iv id]] 1)::t)))/\Gr 14 v' (fy<|d.ob.eraseIdx i) o'):=
   hB.Xg.cF (NY e2 (by omega) rfl (by simpa[fy]using hil) (by simp only[fy,List.length_map];omega) λv' o' hG=>⟨o',rfl,by rw[Ad];exact hG⟩)
  refine Ww<|Wc rfl rfl qZ ?_
  rintro v' _ ⟨o',rfl,hG⟩
  refine Wr (.nilchk rfl rfl)<|Wf rfl<|Wf rfl<|Ww<|Wt rfl rfl hG.part .here rfl rfl<|Wn ?_
  have g9:=e3 v' (d.ob.eraseIdx i) o' hG
  rw[hd2]at g9
  have UF:(d.left id i o.ci p).ob=d.ob.eraseIdx i:=by rw[<- hd2]
  have Yh:(d.left id i o.ci p).co=d.co:=by rw[<- hd2];exact Yg
  have Y2:(d.left id i o.ci p).st=[]:=by rw[<- hd2];exact pk
  have Za:(d.left id i o.ci p).wa=d.wa:=by rw[<- hd2];exact Y9
  have md:d2.cells pv v' lv hv gv ev fv sv wv=(d.left id i o.ci p).cells pv v' lv hv gv ev fv sv wv:=by rw[<- hd2];rfl
  refine Wg (s':=(bw,.r false [(d.left id i o.ci p).cells pv v' lv hv gv ev fv sv wv] 25)::(o'++(r++((b6,.r false [o.row] 14)::(b4,.r false [dB] 14)::(b3,.r false [[iv id]] 1)::t)))) (λ_ _ h=>h) (λ_ _ h=>by rw[<- md];exact h) ?_
  generalize d.left id i o.ci p=d3 at *
  have hR:mD (o'++r) pv v' lv hv gv ev fv sv wv d3:=g9.r λp hp=>hp
  have IJ:Src ((bw,.r false [d3.cells pv v' lv hv gv ev fv sv wv] 25)::(o'++(r++((b6,.r false [o.row] 14)::(b4,.r false [dB] 14)::(b3,.r false [[iv id]] 1)::t)))) 14 v' (fy d3.ob):=hR.ob.mono λp hp=>by
   rcases List.mem_append.1 hp with hp|hp<;>simp[hp]
  have hb9:(fy d3.ob).length<=1000:=by
   simp only[fy,List.length_map]
   rw[UF]
   exact Nat.le_trans (List.length_eraseIdx_le _ _) hn.2.1
  -- Tp
  refine Ws<|Wq<|Wv x0<|Wr (.nilchk rfl rfl)<|Wf rfl<|Wf rfl<|Wl rfl .here rfl rfl rfl<|Wr (.lenS rfl IJ.lenOf)<|Wv rfl<|Wn<|Wb ?_
  refine Wp (λk l ds s'=>ds=[]/\∃q,k=(fy d3.ob).length-q/\q<=(fy d3.ob).length/\s'=(bw,.r false [d3.cells pv v' lv hv gv ev fv sv wv] 25)::(o'++(r++((b6,.r false [o.row] 14)::(b4,.r false [dB] 14)::(b3,.r false [[iv id]] 1)::t))) /\
   ∀j w,lk [(0,.ptr (some ⟨bw,0,0⟩)),(3,.ptr (some ⟨b3,0,0⟩)),(4,.ptr (some ⟨b4,0,0⟩)),(6,.ptr (some ⟨b6,0,0⟩)),(59,.int .i64 (.ofNat (fy d3.ob).length)),(60,.int .i64 (.ofNat q))] j=some w->lk l j=some w) ?_ (n:=(fy d3.ob).length-0) ⟨rfl,0,rfl,Nat.zero_le _,rfl,aa x0 (aa x3 (aa x4 (aa x6 (bX rfl))))⟩
  rintro k l ds s' ⟨rfl,q,rfl,hq,rfl,hl⟩
  refine Wg hl (λ_ _ h=>h) ?_
  refine Wq<|Wj rfl rfl rfl<|Wn<|Ws<|Wd rfl (λht=>?_)<|λht=>?_
  ·have hlt:q<(fy d3.ob).length:=bh.1 ht
   obtain⟨bq,rq,nq,cq,sq,roq,Mq,rfl,hbq,hnq,hMq⟩:=IJ.at hlt
   have hlt':q<d3.ob.length:=by simpa[fy]using hlt
   have hrq:(fy d3.ob)[q]?=some (d3.ob[q]).row:=by rw[fy,List.getElem?_map,List.getElem?_eq_getElem hlt'];rfl
   have X7:(d3.ob[q]).block≠id:=by
    have hm:d3.ob[q]∈d3.ob:=List.getElem_mem hlt'
    have hm2:∀x,x∈d3.ob->x∈d.ob:=λx hx=>by rw[UF]at hx;exact List.mem_of_mem_eraseIdx hx
    exact oZ _<|hm2 _ hm
   refine Wi<|Ws<|Wb<|Wq<|Wv rfl<|Wv rfl<|Wn<|Ws<|WP.bD ?_
   refine Dp (.mv rfl)<|Dp (.nilchk rfl rfl)<|Dp (.faddr rfl)<|Dp (.faddr rfl)<|Dl rfl .nil (.load rfl .here rfl rfl rfl)<|Dp (.mv rfl)<|Dp (.iaddrS rfl rfl hnq<|by omega)<|Dp (.faddr rfl)<|Dl rfl .nil (.load rfl hbq (hMq.trans hrq) rfl rfl)<|Dl rfl .nil (.load rfl (.there<|.app<|.app<|.there<|.there .here) rfl rfl rfl)<|Dp (.eql rfl rfl<|cD _ _)<|D0 .nil ?_<|λo h=>nomatch h
   refine Wd rfl (λh=>absurd (of_decide_eq_true h) X7)<|λ_=>Wi<|Wo<|Wj rfl rfl (bM<|by omega)<|Wv rfl<|Wn ?_
   exact⟨(fy d3.ob).length-(q+1),by omega,rfl,q+1,rfl,hlt,rfl,bX rfl⟩
  ·refine Wx ?_
   -- items
   have ls:lenOf sv=some 0:=by rw[hR.st.lenOf,Y2];rfl
   have lw:lenOf wv=some d.wa.length:=by rw[hR.wa.lenOf,Za];simp[CT]
   have ps:partCells 1 sv=some [sv]:=hR.st.part
   have pw:partCells 1 wv=some [wv]:=hR.wa.part
   refine Ws<|Ws<|WP.fd λb9=>?_
   refine Dp (.mv rfl)<|Dp (.nilchk rfl rfl)<|Dp (.faddr rfl)<|Dp (.faddr rfl)<|Dl rfl .nil (.load rfl (.there .here) rfl rfl rfl)<|Dp (.mv rfl)<|Dp (.nilchk rfl rfl)<|Dp (.faddr rfl)<|Dp (.faddr rfl)<|Dl rfl .nil (.load rfl (.there .here) rfl rfl rfl)<|WD.al (.bslice (Ia rfl ps rfl pw) rfl) rfl<|Dp (.lenS rfl rfl)<|Dp (.mv rfl)<|D0 (.cons .here .nil) ?_<|λo h=>nomatch h
   refine Wb<|WP.dA<|Wq<|Wj rfl rfl rfl<|Wn<|Ws<|Wd rfl (λ_=>Wi<|Ws<|Wb<|Wq<|Wr (.iaddrS rfl rfl (by omega)<|by omega)<|Wl rfl .here rfl rfl rfl<|Wv rfl<|Wn<|Wq<|Wv rfl<|Wr (.lenS rfl ls)<|Wv rfl<|Wn<|Wb<|WP.dA ?_)<|λh=>by cases h
   refine Wq<|Wj rfl rfl rfl<|Wn<|Ws<|Wd rfl (λh=>by cases h)<|λ_=>Wx<|Wo<|Wj rfl rfl (bM<|by omega)<|Wv rfl<|Wn<|WP.dA<|Wq<|Wj rfl rfl rfl<|Wn<|Ws<|Wd rfl (λ_=>Wi ?_)<|λh=>by cases h
   obtain⟨ow,r2,w1,w2,w3⟩:=g9.aey
   rw[Za]at w2
   refine WP.pre (s':=(b9,.r false [[sv],[wv]] 1)::(bw,.r false [d3.cells pv v' lv hv gv ev fv sv wv] 25)::(ow++(r2++((b6,.r false [o.row] 14)::(b4,.r false [dB] 14)::(b3,.r false [[iv id]] 1)::t)))) (ak λc w h0 h1 h2 hq=>by have:=hq _ _ w1;simp only[h1,h2]at this |-;omega)<|Ws<|Wb<|Wq<|Wr (.iaddrS rfl rfl (by omega)<|by omega)<|Wl rfl .here rfl rfl rfl<|Wv rfl<|Wn<|Wq<|Wv rfl<|Wr (.lenS rfl lw)<|Wv rfl<|Wn<|Wb ?_
   refine Wp (λk l ds s'=>ds=[]/\∃q ow2,k=d.wa.length-q/\q<=d.wa.length/\s'=(b9,.r false [[sv],[wv]] 1)::(bw,.r false [d3.cells pv v' lv hv gv ev fv sv wv] 25)::(ow2++(r2++((b6,.r false [o.row] 14)::(b4,.r false [dB] 14)::(b3,.r false [[iv id]] 1)::t)))/\Gr 7 wv (CT<|(d.wa.take q).map (qa id)++d.wa.drop q) ow2 /\
    ∀j w,lk [(0,.ptr (some ⟨bw,0,0⟩)),(3,.ptr (some ⟨b3,0,0⟩)),(4,.ptr (some ⟨b4,0,0⟩)),(6,.ptr (some ⟨b6,0,0⟩)),(10,wv),(93,.slice (some ⟨b9,0,0⟩) 2 2 false 1),(94,iv (.ofNat 2)),(95,iv (.ofNat 1)),(100,iv (.ofNat d.wa.length)),(101,iv (.ofNat q))] j=some w->lk l j=some w) ?_ (n:=d.wa.length-0) ⟨rfl,0,ow,rfl,Nat.zero_le _,rfl,w2,bX rfl⟩
   rintro k l ds s' ⟨rfl,q,ow2,rfl,hq,rfl,hGq,hl⟩
   refine Wg hl (λ_ _ h=>h) ?_
   by_cases hlt:q<d.wa.length
   ·have e1:=ij hlt
    have hx:d.wa[q]?=some d.wa[q]:=List.getElem?_eq_getElem hlt
    generalize d.wa[q]=x at hx
    have hdr:d.wa.drop q=x::d.wa.drop (q+1):=by
     obtain⟨h1,h2⟩:=List.getElem?_eq_some_iff.1 hx
     rw[List.drop_eq_getElem_cons h1,h2]
    have htk:d.wa.take (q+1)=d.wa.take q++[x]:=by rw[List.take_add_one,hx];rfl
    have akg:(CT<|(d.wa.take q).map (qa id)++d.wa.drop q).length=d.wa.length:=by simp[CT];omega
    obtain⟨bo2,c2,M2,rfl,rfl,ajK⟩:=hGq.put (p:=q)<|by omega
    have aee:(CT ((d.wa.take q).map (qa id)++d.wa.drop q)++M2)[q]?=some x.row:=by
     rw[List.getElem?_append_left (by omega)]
     unfold CT
     rw[List.getElem?_map,List.getElem?_append_right (by simp;omega),hdr]
     simp[Nat.min_eq_left hq]
    have d8:(CT<|(d.wa.take q).map (qa id)++d.wa.drop q).set q (qa id x).row=CT ((d.wa.take<|q+1).map (qa id)++d.wa.drop (q+1)):=by
     unfold CT
     rw[htk,hdr,List.map_append,List.map_append,List.map_append,List.set_append_right _ _ (by simp;omega)]
     simp[Nat.min_eq_left hq]
    refine WP.pre (s':=(b9,.r false [[sv],[.slice (some ⟨bo2,0,0⟩) (CT<|(d.wa.take q).map (qa id)++d.wa.drop q).length c2 true 7]] 1)::(bw,.r false [d3.cells pv v' lv hv gv ev fv sv (.slice (some ⟨bo2,0,0⟩) (CT<|(d.wa.take q).map (qa id)++d.wa.drop q).length c2 true 7)] 25)::(bo2,.r false (CT ((d.wa.take q).map (qa id)++d.wa.drop q)++M2) 7)::(r2++((b6,.r false [o.row] 14)::(b4,.r false [dB] 14)::(b3,.r false [[iv id]] 1)::t))) (.refl _) ?_
    have afI:(CT ((d.wa.take q).map (qa id)++d.wa.drop q)++M2)[0+q]?=some x.row:=by rw[Nat.zero_add];exact aee
    refine Wq<|Wj rfl rfl e1<|Wn<|Ws<|Wd rfl (λ_=>Wi<|Ws<|Wb<|Wq<|Wv rfl<|Wv rfl<|Wn<|WP.bD<|Dp (.mv rfl)<|Dp (.mv rfl)<|Dp (.iaddrS rfl rfl (by omega)<|by decide)<|Dp (.faddr rfl)<|Dp (.mv rfl)<|Dp (.mv rfl)<|Dp (.iaddrS rfl rfl (by omega)<|by decide)<|Dp (.faddr rfl)<|Dl rfl .nil (.load rfl (.there<|.there .here) afI rfl rfl)<|Dl rfl .nil (.load rfl (.there<|.there<|.there<|.app<|.there<|.there .here) rfl rfl rfl) ?_) Dz
    refine Dc .nil<|W1 (acF hB (x:=x) afI<|.there<|.there .here) ?_
    rintro w8 s8 rfl
    have hput:=ajK (qa id x).row
    rw[d8]at hput
    refine D0 .nil ?_<|λo h=>nomatch h
    refine Wo<|Wj rfl rfl (bM<|by omega)<|Wv rfl<|Wn ?_
    have S10:∀{l9:Sl},(∀j w,lk [(0,.ptr<|some ⟨bw,0,0⟩),(3,.ptr<|some ⟨b3,0,0⟩),(4,.ptr<|some ⟨b4,0,0⟩),(6,.ptr<|some ⟨b6,0,0⟩),(10,.slice (some ⟨bo2,0,0⟩) (CT<|(d.wa.take q).map (qa id)++d.wa.drop q).length c2 true 7),(93,.slice (some ⟨b9,0,0⟩) 2 2 false 1),(94,iv<|.ofNat 2),(95,iv<|.ofNat 1),(100,iv<|.ofNat d.wa.length),(101,iv<|.ofNat<|q+1)] j=some w->lk l9 j=some w)->∀{L9:List (List AV)},L9=(CT ((d.wa.take q).map (qa id)++d.wa.drop q)++M2).set q (qa id x).row ->
      ∃m',m'<d.wa.length-q/\(([]:List aD)=[]/\∃q_1 ow2,m'=d.wa.length-q_1/\q_1<=d.wa.length/\((b9,HO.r false [[sv],[.slice (some ⟨bo2,0,0⟩) (CT<|(d.wa.take q).map (qa id)++d.wa.drop q).length c2 true 7]] 1)::(bw,.r false [d3.cells pv v' lv hv gv ev fv sv (.slice (some ⟨bo2,0,0⟩) (CT<|(d.wa.take q).map (qa id)++d.wa.drop q).length c2 true 7)] 25)::(bo2,.r false L9 7)::(r2++((b6,.r false [o.row] 14)::(b4,.r false [dB] 14)::(b3,.r false [[iv id]] 1)::t)):SH)=(b9,HO.r false [[sv],[.slice (some ⟨bo2,0,0⟩) (CT<|(d.wa.take q).map (qa id)++d.wa.drop q).length c2 true 7]] 1)::(bw,.r false [d3.cells pv v' lv hv gv ev fv sv (.slice (some ⟨bo2,0,0⟩) (CT<|(d.wa.take q).map (qa id)++d.wa.drop q).length c2 true 7)] 25)::(ow2++(r2++((b6,.r false [o.row] 14)::(b4,.r false [dB] 14)::(b3,.r false [[iv id]] 1)::t)))/\Gr 7 (.slice (some ⟨bo2,0,0⟩) (CT<|(d.wa.take q).map (qa id)++d.wa.drop q).length c2 true 7) (CT<|(d.wa.take q_1).map (qa id)++d.wa.drop q_1) ow2 /\
       ∀j w,lk [(0,.ptr (some ⟨bw,0,0⟩)),(3,.ptr (some ⟨b3,0,0⟩)),(4,.ptr (some ⟨b4,0,0⟩)),(6,.ptr (some ⟨b6,0,0⟩)),(10,.slice (some ⟨bo2,0,0⟩) (CT ((d.wa.take q).map (qa id)++d.wa.drop q)).length c2 true 7),(93,.slice (some ⟨b9,0,0⟩) 2 2 false 1),(94,iv (.ofNat 2)),(95,iv (.ofNat 1)),(100,iv (.ofNat d.wa.length)),(101,iv (.ofNat q_1))] j=some w->lk l9 j=some w):=
     λ{l9} ng {L9} hL9=>by
      subst hL9
      exact⟨d.wa.length-(q+1),by omega,rfl,q+1,_,rfl,hlt,rfl,hput,ng⟩
    by_cases hun:x.obj=id
    ·rw[if_pos hun]
     exact S10 (bX rfl)<|by rw[Nat.zero_add,qa,if_pos hun]
    ·rw[if_neg hun]
     exact S10 (bX rfl) (by
      rw[qa,if_neg hun]
      refine(List.ext_getElem? λn=>?_).symm
      rw[List.getElem?_set]
      split
      ·rename_i e
       subst e
       split
       ·exact aee.symm
       ·rename_i h
        have:=(List.getElem?_eq_some_iff.1 aee).1
        exact absurd this h
      ·rfl)
   have e1:=d5 hlt
   have hqw:q=d.wa.length:=by omega
   subst hqw
   rw[List.take_length,List.drop_length,List.append_nil]at hGq
   refine Wq<|Wj rfl rfl e1<|Wn<|Ws<|Wd rfl fS<|λ_=>Wx<|Wo<|Wj rfl rfl (bM<|by omega)<|Wv rfl<|Wn<|WP.dA<|Wq<|Wj rfl rfl rfl<|Wn<|Ws<|Wd rfl (λh=>by cases h)<|λ_=>Wx ?_
   -- what is aac ZA
   refine Ws<|WP.bD<|Dp (.mv rfl)<|Dp (.nilchk rfl rfl)<|Dp (.faddr rfl)<|Dp (.faddr rfl)<|Dp (.faddr rfl)<|Dp (.mv rfl)<|Dp (.nilchk rfl rfl)<|Dp (.faddr rfl)<|Dp (.faddr rfl)<|Dp (.faddr rfl)<|Dl rfl .nil (.load rfl (.there .here) rfl rfl rfl)<|Dl rfl .nil (.load rfl (.there<|.there<|.app<|.app<|.there<|.there .here) rfl rfl rfl)<|Dc .nil<|Wc rfl rfl (wX hB (.there .here) rfl rfl (by rw[Yh];exact Sc)) ?_
   rintro w _ rfl
   refine D0 .nil ?_<|λo h=>nomatch h
   refine Wq<|Wl rfl (.there<|.there<|.app<|.app .here) rfl rfl rfl<|Ww<|Wt rfl rfl rfl (.there<|.there<|.app<|.app<|.there .here) rfl rfl<|Wn<|We<|Wm (.cell rfl hB.t45.1 hB.t45.2 (.inl rfl) (.there<|.there<|.app<|.app<|.there .here) rfl rfl rfl .nil) ?_
   have g10:=w3 wv _ ow2 hGq
   have fin:∀y1 y2 y3 y4,WH bw { d3 with wa:=d.wa.map (qa id) } t (y4::(bw,.r false [d3.cells pv v' lv hv gv ev fv sv wv] 25)::(ow2++(r2++(y1::y2::y3::t)))):=λy1 y2 y3 y4=>
    ⟨pv,v',lv,hv,gv,ev,fv,sv,wv,[y4,y1,y2,y3]++(ow2++r2),ak λc w h0 h1 h2 hq=>by simp only[h1,h2,h0,SD.cells];omega,g10.bK⟩
   exact⟨rfl,fin _ _ _ _⟩
 cases nh:d.ci o.ci p with
 | none=>
  rw[nh]at q2
  have q2:w7=.ptr none:=q2
  subst q2
  refine Wv rfl<|Wn<|Wq<|Wv rfl<|Wh (b:=true) rfl rfl rfl<|Wn<|Wd rfl (λh=>by cases h)<|λ_=>Wi ?_
  exact tail d s7 _ rfl hst rfl rfl (by simp only[SD.left,nh]) q1 rfl rfl rfl rfl rfl
 | some x5=>
  obtain⟨lst,put⟩:=x5
  rw[nh]at q2
  obtain⟨b,r5,o5,sz,L,row,x,oi,rest,rfl,p1,p2,p3,p4,p5⟩:=q2
  refine Wv rfl<|Wn<|Wq<|Wv rfl<|Wh (b:=false) rfl rfl rfl<|Wn<|Wd rfl (λ_=>WP.pre p1<|Wo<|Wv rfl<|Wv rfl<|Wr (.nilchk rfl rfl)<|Wl rfl .here p2 p3 rfl<|Wr (.mkfn rfl rfl) ?_)<|λh=>by cases h
  have hl1:=SD.mC (e:=d) hd (λ_=>rfl) nh
  have Gt:∀row∈nR lst,row.length=1:=λrow hr=>by
   obtain⟨a,_,rfl⟩:=List.mem_map.1 hr
   rfl
  have qZ:bB P K (F 292) [x,.func (F 293) [] [.ptr (some ⟨b3,0,0⟩)]] ([(b,.r false L sz)]++(oi++(rest++([(b6,.r false [o.row] 14),(b4,.r false [dB] 14),(b3,.r false [[iv id]] 1)]++t)))) (λv' s'=>∃o' y,s'=y++([(b,.r false L sz)]++(o'++(rest++([(b6,.r false [o.row] 14),(b4,.r false [dB] 14),(b3,.r false [[iv id]] 1)]++t))))/\Gr 1 v' (nR<|lst.filter λn=>!decide (n=id)) o'):=by
   have dP:∀row∈nR lst,∀y:SH,Has b3 (.r false [[iv id]] 1) y->c6 P K (.func (F 293) [] [.ptr (some ⟨b3,0,0⟩)]) [N0 false row] y (λw s'=>w=.bool (JY id row)/\∃m,s'=m++y):=λrow hr y hy=>by
    obtain⟨a,_,rfl⟩:=List.mem_map.1 hr
    exact c6.func<|I7 hB hy
   refine hB.Xf.cF<|xq (JY id) p4 (by omega) rfl (.inr rfl) (by simp only[nR,List.length_map];omega) Gt (λ_ row hr v hv=>?_) ?_ (λrow hr y hy=>dP row hr y<|.ce<|hy _<|by simp) λv' o' y hG=>⟨o',y,rfl,by rw[<- z9];exact hG⟩
   ·obtain⟨a,_,rfl⟩:=List.mem_map.1 hr
    rw[List.mem_singleton.1 hv];rfl
   ·refine hB.W7.cF<|vz (JY id) p4.src (by omega) (.inr rfl) (by simp only[nR,List.length_map];omega) Gt (λrow hr y=>dP row hr _<|.app<|.ce<|by simp) λn=>⟨rfl,n,rfl⟩
  refine Ww<|Wc rfl rfl qZ ?_
  rintro v' _ ⟨o',y,rfl,hG⟩
  obtain⟨row',u1,u2⟩:=p5 v' _ o' hG
  refine Wr (.nilchk rfl rfl)<|Ww<|Wt rfl rfl hG.part (.app .here) p2 u1<|Wn ?_
  have hsame:=SD.AY nh<|lst.filter λn=>!decide (n=id)
  exact tail (put<|lst.filter λn=>!decide (n=id)) _ _ hsame.1 (by rw[hsame.2.1,hst]) hsame.2.2.1 hsame.2.2.2 (by simp only[SD.left,nh]) u2.bK rfl rfl rfl rfl rfl
theorem adD (h:d.Small):({ d with wa:=d.wa.map (qa a) }:SD).Small:=by
 have h1:=h.n1
 exact⟨⟨h1.1,h1.2.1,h1.2.2.1,h1.2.2.2.1,by show(d.wa.map _).length<=1000;rw[List.length_map];exact h1.2.2.2.2⟩,h.n2⟩
theorem aew (h:d.kQ):({ d with wa:=d.wa.map (qa a) }:SD).kQ:=⟨h.lb,h.hd,h.gr,h.ex⟩
theorem abC (hB:Base P K F T)(hs:WH bw d t s)(hx:Has bx (.r false [[.ptr (some ⟨bw,0,0⟩)]] 1) t)(hd:d.Small)(he:d.kQ)(hp:p<d.pl.length)(hi:d.find a=some i)(xG:d.ob[i]?=some o)(ho:o.owner=.ofNat p)
  (hst:d.st=[]) (Sc:d.co≠a) (oZ:∀o∈d.ob,o.block≠a) :
  bB P K (F 261) [.agg (evRow 25 a b n m it),.ptr<|some ⟨bx,0,0⟩] s (λ_ s'=>WH bw { d.left a i o.ci p with wa:=d.wa.map (qa a) } t s'):=by
 obtain⟨pv,ov,lv,hv,gv,ev,fv,sv,wv,nn,k1,k2⟩:=hs
 refine bB.perm k1.symm ?_
 refine hB.f261.cF ?_
 refine Vk (k:=λb2=>Wn ?_)
 have hW:WH bw d t ((b2,.r false [evRow 25 a b n m it] 13)::(bw,.r false [d.cells pv ov lv hv gv ev fv sv wv] 25)::(nn++t)):=WH.bK (m:=[_]) ⟨pv,ov,lv,hv,gv,ev,fv,sv,wv,nn,.refl _,k2⟩
 refine Vk (k:=Ww<|Wz [.ptr (some ⟨bw,0,0⟩),iv a] rfl rfl (aa6 hB hW hd he hi xG hp ho hst Sc oZ) ?_)
 rintro w s' ⟨_,hw⟩
 exact Wn<|Wm .nil hw
theorem aal (hB:Base P K F T)(hd:d.Small)(he:d.kQ)(hi:d.find a=some i)(xG:d.ob[i]?=some o)(hp:p<d.pl.length)(ho:o.owner=.ofNat p)
  (hst:d.st=[]) (Sc:d.co≠a) (oZ:∀o∈d.ob,o.block≠a) (lm:∀s,bB P K (F 201) [.agg (evRow 25 a b n m it)] s<|λv s'=>v=iv 0/\s'=s) :
  Ap P K F 25 a b n m it d { d.left a i o.ci p with wa:=d.wa.map (qa a) }:=
 yH (k:=25) hB hd lm (FB hB<|by simp) (λ{_ _ _ _ v} hv hW=>by
  obtain⟨bx,rfl,_⟩:=(show km F _ _ v false true false 261 from hv)
  exact Jh hB hW hd he (k:=25) (by omega) (by omega) (by omega) (by omega) hi) (λ{_ _ _ _ _ _ _} hv hW=>by
  obtain⟨bx,hv,hx⟩:=(show km F _ _ _ false true false 261 from hv)
  cases hv
  exact c6.func (abC hB hW hx hd he hp hi xG ho hst Sc oZ))
theorem acg (hB:Base P K F T)(hM:BaseM P K F T)(hs:WH bw d t s)(hd:d.Small)(he:d.kQ)(hi:d.find a=some i)(xG:d.ob[i]?=some o)(hp:p<d.pl.length)(ho:o.owner=.ofNat p)(hz:o.ci=2)
  (hst:d.st=[]) (Sc:d.co≠a) (oZ:∀o∈d.ob,o.block≠a) (h1:0<=d.nx/\d.nx<=1000000) (h2:0<=d.sp/\d.sp<=1000000) :
  bB P K (F 260) [.ptr (some ⟨bw,0,0⟩),.agg<|evRow 2 a b 0 m it] s (λ_ s'=>WH bw (({ d.gone a i with wa:=d.wa.map (qa a) }:SD).add (pX o b) p) t s'):=by
 refine hM.f260.cF ?_
 refine Vk (k:=λb3=>Wn ?_)
 have nr:WH bw d ((b3,.r false [evRow 2 a b 0 m it] 13)::t) ((b3,.r false [evRow 2 a b 0 m it] 13)::s):=hs.Ku
 refine Vk (k:=Ww<|W1 (aa6 hB nr hd he hi xG hp ho hst Sc oZ) ?_)
 rintro w s2 ⟨rfl,dt⟩
 rw[hz,SD.IG]at dt
 refine Wa (.alloc rfl) λb4=>Vk (k:=?_)
 have gw:=dt.Ku (p:=(b4,.r false [o.row] 14))
 refine Vk (k:=Wl rfl (.there<|dt.Vb .here) rfl rfl rfl<|Wf rfl<|Wl rfl .here rfl rfl rfl<|Wr (.build (cs:=(pX o b).row) rfl rfl)<|Wf rfl<|Wl rfl (.there<|dt.Vb .here) rfl rfl rfl<|Wh (b:=false) rfl rfl rfl<|Ww<|Wz [.ptr (some ⟨bw,0,0⟩),.agg (pX o b).row,.bool false] rfl rfl (Br hB gw (adD<|SD.vl hd) (aew<|SD.zy he) hp ho h1 h2) ?_)
 intro w s4 pM
 exact Wn<|Wm .nil<|WH.fb (x:=[_,_]) pM
theorem ab7 (hB:Base P K F T)(hM:BaseM P K F T)(hd:d.Small)(he:d.kQ)(hi:d.find a=some i)(xG:d.ob[i]?=some o)(hp:p<d.pl.length)(ho:o.owner=.ofNat p)(hz:o.ci=2)
  (hst:d.st=[]) (Sc:d.co≠a) (oZ:∀o∈d.ob,o.block≠a) (h1:0<=d.nx/\d.nx<=1000000) (h2:0<=d.sp/\d.sp<=1000000) (lm:∀s,bB P K (F 201) [.agg (evRow 2 a b 0 m it)] s<|λv s'=>v=iv 0/\s'=s) :
  Ap P K F 2 a b 0 m it d (({ d.gone a i with wa:=d.wa.map (qa a) }:SD).add (pX o b) p):=
 yH (k:=2) hB hd lm (FB hB<|by simp) (λ{_ _ _ _ v} hv hW=>by
  cases (show uH F _ v false true false 260 from hv)
  exact Jh hB hW hd he (k:=2) (by omega) (by omega) (by omega) (by omega) hi) (λ{_ _ _ _ _ _ _} hv hW=>by
  cases (show uH F _ _ false true false 260 from hv)
  exact c6.func (acg hB hM hW hd he hi xG hp ho hz hst Sc oZ h1 h2))
variable {c:Int}{ov:AV}
theorem ab9 (hB:Base P K F T)(hd:d.Small)(hc:c≠0)(lm:∀s,bB P K (F 201) [.agg (evRow k a b n m it)] s (λv s'=>v=iv c/\s'=s))(s:SH)(h:mD s pv ov lv hv gv ev fv sv wv d) :
  bB P K (F 164) [.agg (d.cells pv ov lv hv gv ev fv sv wv),.agg<|evRow k a b n m it] s (λv s'=>∃pv ov lv hv gv ev fv sv wv nn,v=.tuple [.agg (d.cells pv ov lv hv gv ev fv sv wv),iv c]/\s'=nn++s/\iJ nn pv ov lv hv gv ev fv sv wv d):=by
 refine hB.f164.cF ?_
 refine Wq<|Wa (.box rfl rfl) λb2=>Wa (.box rfl rfl) λb3=>Wa (.alloc rfl) λb4=>Vk (k:=?_)
 have hR:mD ((b4,.r false [cC] 25)::(b3,.r false [evRow k a b n m it] 13)::(b2,.r false [d.cells pv ov lv hv gv ev fv sv wv] 25)::s) pv ov lv hv gv ev fv sv wv d:=⟨h.pl.mono λp hp=>by simp[hp],h.ob.mono λp hp=>by simp[hp],h.lb.mono λp hp=>by simp[hp],h.hd.mono λp hp=>by simp[hp],h.gr.mono λp hp=>by simp[hp],h.ex.mono λp hp=>by simp[hp],h.fi.mono λp hp=>by simp[hp],h.st.mono λp hp=>by simp[hp],h.wa.mono λp hp=>by simp[hp]⟩
 refine Vk (k:=Ww<|W1 (mw hB hR hd) ?_)
 rintro w _ ⟨pv,ov,lv,hv,gv,ev,fv,sv,wv,n1,rfl,rfl,g1⟩
 refine Wr (.build rfl rfl)<|Wa (.box rfl rfl) λbw=>Wv rfl<|Wn ?_
 refine Wg (s':=(bw,.r false [d.cells pv ov lv hv gv ev fv sv wv] 25)::(n1++((b4,.r false [cC] 25)::(b3,.r false [evRow k a b n m it] 13)::(b2,.r false [d.cells _ _ _ _ _ _ _ _ _] 25)::s))) (λ_ _ h=>h) (λ_ _ h=>h) ?_
 refine Vk (k:=Ww<|W1 (lm _) ?_)
 rintro w _ ⟨rfl,rfl⟩
 have hq:eqBy 20 .pi (iv c) (iv 0)=some false:=by rw[cD,decide_eq_false hc]
 have hR1:mD n1 pv ov lv hv gv ev fv sv wv d:=g1.r λp hp=>hp
 refine Vk (k:=Ww<|Wt (s':=_::_++((b4,.r false [SD.cells d pv ov lv hv gv ev fv sv wv] 25)::_)) rfl rfl rfl (.there<|.app .here) rfl rfl<|Vk (k:=We ?_))
 refine Wm (.cell rfl hB.t41.1 hB.t41.2 (.inl rfl) (.there<|.app .here) rfl rfl rfl<|.tmp rfl .nil) ?_
 have fin:∀y0 y1 y2 y3,iJ (y0::(n1++[y1,y2,y3])) pv ov lv hv gv ev fv sv wv d:=λy0 y1 y2 y3=>(g1.bK (m:=[y0,y1,y2,y3])).perm (kT)
 exact⟨pv,ov,lv,hv,gv,ev,fv,sv,wv,_,rfl,fN<|pull yh,fin _ _ _ _⟩
theorem aek (hB:Base P K F T)(hs:aH bl EL d t s)(hd:d.Small)(hc:c≠0)(lm:∀s,bB P K (F 201) [.agg (evRow k a b n m it)] s (λv s'=>v=iv c/\s'=s)) :
  bB P K (F 108) [.ptr (some ⟨bl,0,0⟩),.agg<|evRow k a b n m it] s (λv s'=>v=iv c/\aH bl EL d t s'):=by
 obtain⟨sc,lv,pv,ov,kj,hv,gv,ev,fv,sv,wv,oL,nn,k1,k2,k3,k4⟩:=hs
 refine bB.perm k1.symm ?_
 refine hB.f108.cF ?_
 refine Wq<|Wa (.box rfl rfl) λb3=>Wv rfl<|Wn<|Ws<|Wq<|Wv rfl<|Wh (b:=false) rfl rfl rfl<|Wn<|Wd rfl (λh=>by cases h)<|λ_=>Wi ?_
 have PT:bV 25 (cu 26<|sc++([lv]++(d.cells pv ov kj hv gv ev fv sv wv++[])))=some (d.cells pv ov kj hv gv ev fv sv wv):=by
  have:=nA (a:=sc++[lv]) (b:=d.cells pv ov kj hv gv ev fv sv wv) (c:=[]) (i:=26) (n:=25) (by simp[k2]) rfl
  rwa [List.append_assoc]at this
 have hl:bV 1 (cu 25<|sc++([lv]++(d.cells pv ov kj hv gv ev fv sv wv++[])))=some [lv]:=nA k2 rfl
 refine Ws<|WP.fd λb5=>Dp (.mv rfl)<|Dp (.nilchk rfl rfl)<|Dp (.faddr rfl)<|Dl rfl .nil (.load rfl (.there<|.there .here) rfl PT rfl)<|Dl rfl .nil (.load rfl (.there .here) rfl rfl rfl)<|Dc .nil<|W1 (ab9 hB hd hc lm _<|k4.mono λp hp=>by simp[hp]) ?_
 rintro w _ ⟨Gz,Gy,nw,Gw,Gl,Gj,Gk,GA,GB,n2,rfl,rfl,g2⟩
 have R9:mD n2 Gz Gy nw Gw Gl Gj Gk GA GB d:=g2.r λp hp=>hp
 have hq:eqBy 20 .pi (iv c) (iv 0)=some false:=by rw[cD,decide_eq_false hc]
 refine Dp (.mv rfl)<|Dp (.extract rfl rfl)<|Dp (.extract rfl rfl)<|WD.al (.alloc rfl) rfl<|Dc (.yes (show bit 767 9=true from rfl) rfl (.app .here) .nil)<|Wt rfl rfl rfl (.app .here) rfl rfl<|Dp (.mv rfl)<|D0 .nil ?_<|λo h=>nomatch h
 refine Wg (s':=n2++((b5,.r false [d.cells Gz Gy nw Gw Gl Gj Gk GA GB] 25)::(b3,.r false [evRow k a b n m it] 13)::(bl,.r false [sc++([lv]++(d.cells pv ov kj hv gv ev fv sv wv++[]))] 51)::(oL++(nn++t)))) (λ_ _ h=>h) (λ_ _ h=>h) ?_
 refine Vk (k:=We<|Wm (.tmp rfl .nil) ?_)
 have fin:∀y1 y2,aH bl EL d t (n2++(y1::y2::(bl,.r false [sc++([lv]++(d.cells pv ov kj hv gv ev fv sv wv++[]))] 51)::(oL++(nn++t)))):=λy1 y2=>
  ⟨sc,lv,pv,ov,kj,hv,gv,ev,fv,sv,wv,oL,n2++(y1::y2::nn),kT,k2,k3,k4.mono λp hp=>by simp[hp]⟩
 exact⟨rfl,fin _ _⟩
theorem acb (hB:Base P K F T)(hs:aH bl EL d t s)(hd:d.Small)(hc:c≠0)(lm:∀s,bB P K (F 201) [.agg (evRow k a b n m it)] s (λv s'=>v=iv c/\s'=s)) :
  bB P K (F 53) [.agg [.ptr (some ⟨bl,0,0⟩)],.agg<|evRow k a b n m it] s (λv s'=>v=iv c/\aH bl EL d t s'):=by
 refine hB.f53.cF ?_
 refine Vk (k:=λb2=>Wa (.box rfl rfl) λb3=>Vk (k:=Ww<|W1 (aek hB (aH.bK (m:=[_,_]) hs) hd hc lm) ?_))
 rintro w s2 ⟨rfl,h2⟩
 exact Wv rfl<|Wn<|We<|Wm (.tmp rfl .nil) ⟨rfl,h2⟩
theorem aeR (hB:Base P K F T)(hs:aH bl EL d t s)(hd:d.Small)(hf:Has bf (.r false [bu bl aZ c0 c1 c2 c3 c4 bE] 8) t)
  (k1:k≠1) (hc:c≠0) (lm:∀s,bB P K (F 201) [.agg (evRow k a b n m it)] s<|λv s'=>v=iv c/\s'=s) :
  bB P K (F 15) [.ptr (some ⟨bf,0,0⟩),.agg<|evRow k a b n m it] s (λv s'=>v=iv (.negSucc 0)/\aH bl EL d t s'):=by
 refine hB.f15.cF ?_
 refine Vk (k:=λb3=>Vk (k:=?_))
 have gw:aH bl EL d ((b3,.r false [evRow k a b n m it] 13)::t) ((b3,.r false [evRow k a b n m it] 13)::s):=hs.cons
 refine Vk (k:=WP.bD ?_)
 refine(Dp (.faddr rfl)<|Dl rfl .nil (.load rfl .here rfl rfl rfl)<|Dp (.eql rfl rfl<|qM k1)<|Dp (.mv rfl)<|Dk<|WD.jm rfl rfl<|Dk<|Dk<|Dk<|Dk<|Dk<|Dk<|Dk<|Dk<|Dp (.bj rfl rfl)<|Dp (.mv rfl)<|D0 .nil ?_<|λo h=>nomatch h)
 refine Vk (k:=WP.bD<|Dp (.mv rfl)<|Dp (.nilchk rfl rfl)<|Dp (.faddr rfl)<|Dl rfl .nil (.load rfl (gw.mem<|.there hf) rfl rfl rfl)<|Dl rfl .nil (.load rfl (gw.mem .here) rfl rfl rfl)<|Dc .nil<|W1 (acb hB gw hd hc lm) ?_)
 rintro w s5 ⟨rfl,dT⟩
 have hq:eqBy 20 .pi (iv c) (iv 0)=some false:=by rw[cD,decide_eq_false hc]
 refine Dp (.eql rfl rfl hq)<|Dp (.mv rfl)<|D0 .nil (Vk (k:=?_))<|λo h=>nomatch h
 refine Vk (k:=We<|Wm (.tmp rfl .nil) ?_)
 exact⟨rfl,dT.tail⟩
open Go.Proofs
set_option maxRecDepth 100000
def agG:CF:=NF (λF T=>pt (afQ F T) [1,1,1,0,1,0,0]) _
def agH:CF:=NF (λF T=>pt (afQ F T) [1,1,1,1,1,0,0,1,1,0,0,1,1,0,0]) _
theorem adE (hB:Base P K F T)(hG:BaseB P K F T)(hs:aH bl EL d t s)(hd:d.Small)(hf:Has bf (.r false [bu bl aZ c0 c1 c2 c3 c4 bE] 8) t) :
  bB P K (F 20) [.ptr (some ⟨bf,0,0⟩)] s (λv s'=>∃m,aH bl EL d (m++t) s'/\Src m 7 v (CT d.wa)):=by
 refine hG.f20.cF ?_
 refine Vk (k:=Ww<|W1 (iU hB hs hd hf) ?_)
 rintro w s2 ⟨m,dt,pv,ov,lv,hv,gv,ev,fv,sv,wv,rfl,hR⟩
 refine W (k:=Wn<|We<|Wm (.tmp rfl .nil) ?_)
 exact⟨m,dt,hR.wa⟩
theorem abQ {W:List ID}(h2:Has b2 (.r false [[gm tF bf]] 1) t)(hW:Src t 7 wv (CT W))(hWn:W.length<=1000)(hs:aH bl EL d t s)(h0:J 0 EL d)
  (hno:∀q x E D,W[q]?=some x->J q E D->x.aQ≠.ofNat p->J (q+1) E D)
  (A2:∀(m:SH)q x E D s1,W[q]?=some x->J q E D->x.aQ=.ofNat p->aH bl E D (m++t) s1->bB P K (F 66) [.agg [gm tF bf],iv 18,iv x.id,iv 0] s1 (λ_ s2=>∃E2 D2,J (q+1) E2 D2/\aH bl E2 D2 (m++t) s2))
  (hl:∀y w,lk [(1,iv<|.ofNat p),(2,.ptr<|some ⟨b2,0,0⟩),(36,wv),(37,iv<|.ofNat W.length),(38,iv 0)] y=some w->lk l y=some w)
  (hk:∀l2 s2 E2 D2,J W.length E2 D2->aH bl E2 D2 t s2->(∀y w,lk [(1,iv<|.ofNat p),(2,.ptr<|some ⟨b2,0,0⟩)] y=some w->lk l2 y=some w)->Qn l2 [] s2) :
  WP P K none 86 (.block 2<|.loop<|agG F T) l [] s Qn Qe Qr:=by
 refine Wg hl (λ_ _ h=>h)<|Wb ?_
 refine Wp (λk l ds s'=>ds=[]/\∃q E D,k=W.length-q/\q<=W.length/\J q E D/\aH bl E D t s'/\∀x w,lk [(1,iv<|.ofNat p),(2,.ptr<|some ⟨b2,0,0⟩),(36,wv),(37,iv<|.ofNat W.length),(38,iv<|.ofNat q)] x=some w->lk l x=some w) ?_ (n:=W.length-0)
  ⟨rfl,0,EL,d,rfl,Nat.zero_le _,h0,hs,bX rfl⟩
 rintro k l ds s5 ⟨rfl,q,E,D,rfl,hq,hJ,dT,hl5⟩
 refine Wg hl5 (λ_ _ h=>h) ?_
 by_cases hlt:q<W.length
 rotate_left
 ·have e1:=d5 hlt
  have hqL:q=W.length:=by omega
  subst hqL
  refine Vk (k:=Wx ?_)
  exact hk _ _ E D hJ dT<|bX rfl
 have e1:=ij hlt
 have hx:W[q]?=some W[q]:=List.getElem?_eq_getElem hlt
 generalize W[q]=x at hx
 obtain⟨ba,ra,na,ca,J5,Sp,Ma,e4,hba,me,hra⟩:=hW.at (i:=q)<|by simpa[CT]using hlt
 have hrow:Ma[ra+q]?=some x.row:=by rw[hra,CT,List.getElem?_map,hx];rfl
 subst e4
 by_cases hct:x.aQ=.ofNat p
 ·have e2:eqBy 20 .pi (iv x.aQ) (iv<|.ofNat p)=some true:=by rw[cD,decide_eq_true hct]
  refine Vk (k:=λb7=>Vk (k:=?_))
  refine Vk (k:=?_)
  refine Ww<|W1 (A2 [] q x E D _ hx hJ hct<|dT.bK (m:=[_])) ?_
  rintro _ s7 ⟨E2,D2,hJ2,hs7⟩
  refine Vk (k:=?_)
  exact⟨W.length-(q+1),by omega,rfl,q+1,E2,D2,rfl,hlt,hJ2,hs7,bX rfl⟩
 ·have e2:eqBy 20 .pi (iv x.aQ) (iv<|.ofNat p)=some false:=by rw[cD,decide_eq_false hct]
  refine Vk (k:=λb7=>Vk (k:=?_))
  refine Vk (k:=?_)
  exact⟨W.length-(q+1),by omega,rfl,q+1,E,D,rfl,hlt,hno q x E D hx hJ hct,dT.bK (m:=[_]),bX rfl⟩
theorem abR {v51:AV}{z:Nat}{L:List Int}(hTM:acK P F tF)(hf:Has bf (.r false [bu bl aZ c0 c1 c2 c3 c4 bE] 8) t)(h2:Has b2 (.r false [[gm tF bf]] 1) t)(hL:Src t 1 lv (nR L))(hs:aH bl EL d t s)(h0:J 0 EL d)
  (abl:∀q id E D s1,L[q]?=some id->J q E D->aH bl E D t s1->bB P K (F 37) [.ptr (some ⟨bf,0,0⟩),iv id] s1 (λv s'=>v=(match D.obj id with | some o=>.tuple [.agg o.row,.bool true] | none=>.tuple [.agg dB,.bool false])/\aH bl E D t s'))
  (hno:∀q id E D,L[q]?=some id->J q E D->(∀o,D.obj id=some o->o.owner≠.ofNat p)->J (q+1) E D)
  (A2:∀q id E D o s1,L[q]?=some id->J q E D->D.obj id=some o->o.owner=.ofNat p->aH bl E D t s1->bB P K (F 66) [.agg [gm tF bf],iv 25,iv id,iv 0] s1 (λ_ s2=>∃E2 D2,J (q+1) E2 D2/\aH bl E2 D2 t s2))
  (hl:∀y w,lk [(1,iv<|.ofNat p),(2,.ptr<|some ⟨b2,0,0⟩),(51,v51),(52,iv<|.ofNat 6),(53,iv<|.ofNat i),(61,lv),(62,iv<|.ofNat L.length),(63,iv 0)] y=some w->lk l y=some w)
  (hk:∀l2 s2 E2 D2,J L.length E2 D2->aH bl E2 D2 t s2->(∀y w,lk [(1,iv<|.ofNat p),(2,.ptr<|some ⟨b2,0,0⟩),(51,v51),(52,iv<|.ofNat 6),(53,iv<|.ofNat i)] y=some w->lk l2 y=some w)->Qn l2 [] s2) (hLn:L.length<=1000) :
  WP P K none 86 (.block 6<|.loop<|agH F T) l [] s Qn Qe Qr:=by
 refine Wg hl (λ_ _ h=>h)<|Wb ?_
 refine Wp (λk l ds s'=>ds=[]/\∃q E D,k=L.length-q/\q<=L.length/\J q E D/\aH bl E D t s'/\∀x w,lk [(1,iv<|.ofNat p),(2,.ptr<|some ⟨b2,0,0⟩),(51,v51),(52,iv<|.ofNat 6),(53,iv<|.ofNat i),(61,lv),(62,iv<|.ofNat L.length),(63,iv<|.ofNat q)] x=some w->lk l x=some w) ?_ (n:=L.length-0)
  ⟨rfl,0,EL,d,rfl,Nat.zero_le _,h0,hs,bX rfl⟩
 rintro k l ds s5 ⟨rfl,q,E,D,rfl,hq,hJ,dT,hl5⟩
 refine Wg hl5 (λ_ _ h=>h) ?_
 by_cases hlt:q<L.length
 rotate_left
 ·have e1:=d5 hlt
  have hqL:q=L.length:=by omega
  subst hqL
  refine Vk (k:=Wx ?_)
  exact hk _ _ E D hJ dT<|bX rfl
 have e1:=ij hlt
 have hx:L[q]?=some L[q]:=List.getElem?_eq_getElem hlt
 generalize L[q]=id at hx
 obtain⟨ba,ra,na,ca,J5,Sp,Ma,e4,hba,me,hra⟩:=hL.at (i:=q) (by rw[gq];exact hlt)
 have hrow:Ma[ra+q]?=some [iv id]:=by rw[hra,nR,List.getElem?_map,hx];rfl
 subst e4
 have S8:∀{l9:Sl}{s9:SH}{E9:List (List AV)}{D9:SD},J (q+1) E9 D9->aH bl E9 D9 t s9->(∀x w,lk [(1,iv<|.ofNat p),(2,.ptr<|some ⟨b2,0,0⟩),(51,v51),(52,iv<|.ofNat 6),(53,iv<|.ofNat i),(61,.slice (some ⟨ba,ra,0⟩) na ca J5 1),(62,iv<|.ofNat L.length),(63,iv<|.ofNat<|q+1)] x=some w->lk l9 x=some w) ->
   ∃m',m'<L.length-q/\(([]:List aD)=[]/\∃q E D,m'=L.length-q/\q<=L.length/\J q E D/\aH bl E D t s9/\∀x w,lk [(1,iv<|.ofNat p),(2,.ptr<|some ⟨b2,0,0⟩),(51,v51),(52,iv<|.ofNat 6),(53,iv<|.ofNat i),(61,.slice (some ⟨ba,ra,0⟩) na ca J5 1),(62,iv<|.ofNat L.length),(63,iv<|.ofNat q)] x=some w->lk l9 x=some w):=
  λ{l9 s9 E9 D9} a b c=>⟨L.length-(q+1),by omega,rfl,q+1,E9,D9,rfl,hlt,a,b,c⟩
 refine Vk (k:=?_)
 refine Vk (k:=?_)
 refine Vk (k:=Ww<|WS.invoke (vs:=[iv id]) rfl (hTM.obj ) rfl ( abl q id E D _ hx hJ dT) ?_)
 rintro _ s6 ⟨hv,KL⟩
 cases ho:D.obj id with
 | none=>
  rw[ho]at hv
  subst hv
  refine Vk (k:=λNQ=>Vk (k:=?_))
  exact S8 (hno q id E D hx hJ λo h=>by rw[ho]at h;cases h) (KL.bK (m:=[_]))<|bX rfl
 | some o=>
  rw[ho]at hv
  subst hv
  by_cases how:o.owner=.ofNat p
  ·have e2:eqBy 20 .pi (iv o.owner) (iv<|.ofNat p)=some true:=by rw[cD,decide_eq_true how]
   refine Vk (k:=λNQ=>Vk (k:=?_))
   refine Ww<|W1 (A2 q id E D o _ hx hJ ho how<|KL.bK (m:=[_])) ?_
   rintro _ s7 ⟨E2,D2,hJ2,hs7⟩
   refine Vk (k:=?_)
   exact S8 hJ2 hs7<|bX rfl
  ·have e2:eqBy 20 .pi (iv o.owner) (iv<|.ofNat p)=some false:=by rw[cD,decide_eq_false how]
   refine Vk (k:=λNQ=>Vk (k:=?_))
   exact S8 (hno q id E D hx hJ λo2 h=>by rw[ho]at h;cases h;exact how) (KL.bK (m:=[_]))<|bX rfl
theorem agW {a b:Nat}(h:a<b):binV .geq (iv (.ofNat a)) (iv (.ofNat b))=some (.bool false):=Cm h
theorem aeh (hB:Base P K F T)(hb:Has bw (.r false [d.cells pv ov lv hv gv ev fv sv wv] 25) s)(h:mD s pv ov lv hv gv ev fv sv wv d)(he:d.kQ)(hd:d.Small)(hp:p<d.pl.length) :
  bB P K (F 136) [.ptr (some ⟨bw,0,0⟩),iv 5,iv<|.ofNat p] s (λw s'=>w=.ptr none/\∃m,s'=m++s):=by
 have hlp:lenOf pv=some d.pl.length:=by rw[h.pl.lenOf];simp[Am]
 have e1:binV .lss (iv<|.ofNat p) (iv 0)=some (.bool false):=by
  have:=d5 (a:=p) (b:=0)<|by omega
  exact this
 have e2:=agW hp
 refine hB.f136.cF ?_
 refine Vk (k:=?_)
 refine Vk (k:=?_)
 refine Vk (k:=?_)
 refine Ww<|W1 (qQ hB h ⟨he.lb,he.hd,he.gr,he.ex⟩) ?_
 rintro _ _ ⟨rfl,m,rfl⟩
 refine Vk (k:=?_)
 refine Vk (k:=?_)
 refine Vk (k:=?_)
 refine Vk (k:=?_)
 refine Vk (k:=?_)
 refine Vk (k:=?_)
 refine Vk (k:=We<|Wm (.tmp rfl .nil) ?_)
 exact⟨rfl,m,rfl⟩
theorem acJ (hB:Base P K F T)(hC:BaseC P K F T)(h:mD s pv ov lv hv gv ev fv sv wv d)(he:d.kQ)(hd:d.Small)(hp:p<d.pl.length)(h5:∀o∈d.ob,o.ci≠5) :
  bB P K (F 90) [.agg (d.cells pv ov lv hv gv ev fv sv wv),iv 5,iv<|.ofNat p] s (λv s'=>v=nilS/\∃m,s'=m++s):=by
 have hn:=hd.n1
 refine hC.f90.cF ?_
 refine Vk (k:=λb3=>Vk (k:=?_))
 refine Vk (k:=Wr (.build (cs:=d.cells pv ov lv hv gv ev fv sv wv) rfl rfl)<|Wa (.box rfl rfl) λb14=>Vk (k:=?_))
 refine Vk (k:=?_)
 refine Ww<|W1 (aeh hB .here (h.mono λq hq=>by simp[hq]) he hd hp) ?_
 rintro _ _ ⟨rfl,m,rfl⟩
 have hlo:lenOf ov=some d.ob.length:=by rw[h.ob.lenOf];simp[fy]
 refine Vk (k:=?_)
 refine Vk (k:=?_)
 refine Vk (k:=?_)
 refine Vk (k:=?_)
 refine Wp (λk l ds s'=>ds=[]/\∃q m',k=d.ob.length-q/\q<=d.ob.length/\s'=m'++((b3,.r false [d.cells pv ov lv hv gv ev fv sv wv] 25)::s)/\∀x w,lk [(1,iv 5),(2,iv<|.ofNat p),(3,.ptr<|some ⟨b3,0,0⟩),(9,nilS),(26,ov),(27,iv<|.ofNat d.ob.length),(28,iv<|.ofNat q)] x=some w->lk l x=some w) ?_ (n:=d.ob.length-0)
  ⟨rfl,0,m++[_],rfl,Nat.zero_le _,(by rw[List.append_assoc];rfl),bX rfl⟩
 rintro k l ds s5 ⟨rfl,q,m',rfl,hq,rfl,hl5⟩
 refine Wg hl5 (λ_ _ h=>h) ?_
 by_cases hlt:q<d.ob.length
 rotate_left
 ·have e1:=d5 hlt
  refine Vk (k:=?_)
  refine Vk (k:=Wx<|Vk (k:=We<|Wm (.tmp rfl .nil) ?_))
  exact⟨rfl,_,pull yg⟩
 have e1:=ij hlt
 have hx:d.ob[q]?=some d.ob[q]:=List.getElem?_eq_getElem hlt
 have KP:d.ob[q]∈d.ob:=List.getElem_mem _
 generalize d.ob[q]=o at hx KP
 obtain⟨ba,ra,na,ca,J5,Sp,Ma,e4,hba,me,hra⟩:=h.ob.at (i:=q)<|by simpa[fy]using hlt
 have hrow:Ma[ra+q]?=some o.row:=by rw[hra,fy,List.getElem?_map,hx];rfl
 subst e4
 have e2:eqBy 20 .pi (iv o.ci) (iv 5)=some false:=by rw[cD,decide_eq_false<|h5 o KP]
 refine Vk (k:=?_)
 refine Vk (k:=λb11=>Vk (k:=?_))
 refine Vk (k:=?_)
 exact⟨d.ob.length-(q+1),by omega,rfl,q+1,_::m',rfl,hlt,rfl,bX rfl⟩
theorem aez (hB:Base P K F T)(hC:BaseC P K F T)(hs:aH bl EL d t s)(hd:d.Small)(he:d.kQ)(hf:Has bf (.r false [bu bl aZ c0 c1 c2 c3 c4 bE] 8) t)(hp:p<d.pl.length)(h5:∀o∈d.ob,o.ci≠5) :
  bB P K (F 36) [.ptr (some ⟨bf,0,0⟩),iv 5,iv<|.ofNat p] s (λv s'=>v=nilS/\aH bl EL d t s'):=by
 refine hC.f36.cF ?_
 refine Vk (k:=Ww<|W1 (qb hB hs hd hf) ?_)
 rintro w s2 ⟨m,dt,pv,ov,lv,hv,gv,ev,fv,sv,wv,rfl,hR⟩
 have R9:mD s2 pv ov lv hv gv ev fv sv wv d:=(hR.r λq hq=>hq).mono λq hq=>(dt.mem<|.ce<|by simp[hq]).mem
 refine W (k:=Ww<|W1 (acJ hB hC R9 he hd hp h5) ?_)
 rintro _ _ ⟨rfl,m5,rfl⟩
 exact Wv rfl<|Wn<|We<|Wm (.tmp rfl .nil) ⟨rfl,(dt.fb).bK⟩
def zsL:List Int:=[0,1,3,4,2,5]
structure afs (P:Program)(K:Orc)(F:Nat->FuncId)(tF:TypeId)(bf bl p:Nat)(t:SH)(I:Nat->List (List AV)->SD->Prop)(JW:List ID->Nat->List (List AV)->SD->Prop)(JZ:Nat->List Int->Nat->List (List AV)->SD->Prop):Prop where
 i:∀k E D,I k E D->D.Small/\D.kQ/\D.st=[]/\p<D.pl.length/\∀o∈D.ob,o.ci≠5
 lose:∀(m:SH)E D s1,I 0 E D->aH bl E D (m++t) s1->bB P K (F 66) [.agg [gm tF bf],iv 23,iv<|.ofNat p,iv 0] s1 (λ_ s2=>∃E2 D2,I 1 E2 D2/\aH bl E2 D2 (m++t) s2)
 w0:∀E D,I 1 E D->JW D.wa 0 E D
 wno:∀W q x E D,W[q]?=some x->JW W q E D->x.aQ≠.ofNat p->JW W (q+1) E D
 wdo:∀W(m:SH)q x E D s1,W[q]?=some x->JW W q E D->x.aQ=.ofNat p->aH bl E D (m++t) s1->bB P K (F 66) [.agg [gm tF bf],iv 18,iv x.id,iv 0] s1 (λ_ s2=>∃E2 D2,JW W (q+1) E2 D2/\aH bl E2 D2 (m++t) s2)
 w1:∀W E D,JW W W.length E D->I 2 E D
 z0:∀i z E D lst put,i<5->zsL[i]?=some z->I (2+i) E D->D.ci z p=some (lst,put)->JZ i lst 0 E D
 zs:∀i L q E D,JZ i L q E D->D.Small
 zno:∀i L q id E D,L[q]?=some id->JZ i L q E D->(∀o,D.obj id=some o->o.owner≠.ofNat p)->JZ i L (q+1) E D
 zdo:∀i L(m:SH)q id E D o s1,L[q]?=some id->JZ i L q E D->D.obj id=some o->o.owner=.ofNat p->aH bl E D (m++t) s1->bB P K (F 66) [.agg [gm tF bf],iv 25,iv id,iv 0] s1 (λ_ s2=>∃E2 D2,JZ i L (q+1) E2 D2/\aH bl E2 D2 (m++t) s2)
 z1:∀i L E D,JZ i L L.length E D->I (2+(i+1)) E D
 z5:∀E D,I 7 E D->I 8 E D
theorem adI {D:SD}(he:D.kQ)(hd:D.Small)(hp:p<D.pl.length)(hi:i<5)(hz:zsL[i]?=some z):∃lst put,D.ci z p=some (lst,put)/\lst.length<=1000:=by
 have key:∃lst put,D.ci z p=some (lst,put):=by
  rcases(by omega:i=0\/i=1\/i=2\/i=3\/i=4)with rfl|rfl|rfl|rfl|rfl<;>cases hz
  ·exact⟨D.lb[p]'(by rw[he.lb];exact hp),_,by unfold SD.ci;rw[if_neg (by decide),if_pos rfl,List.getElem?_eq_getElem (by rw[he.lb];exact hp)];rfl⟩
  ·exact⟨D.hd[p]'(by rw[he.hd];exact hp),_,by unfold SD.ci;rw[if_neg (by decide),if_neg<|by decide,if_pos rfl,List.getElem?_eq_getElem (by rw[he.hd];exact hp)];rfl⟩
  ·exact⟨D.gr[p]'(by rw[he.gr];exact hp),_,by unfold SD.ci;rw[if_neg (by decide),if_neg<|by decide,if_neg<|by decide,if_pos rfl,List.getElem?_eq_getElem (by rw[he.gr];exact hp)];rfl⟩
  ·exact⟨D.ex[p]'(by rw[he.ex];exact hp),_,by unfold SD.ci;rw[if_neg (by decide),if_neg<|by decide,if_neg<|by decide,if_neg<|by decide,if_pos rfl,List.getElem?_eq_getElem (by rw[he.ex];exact hp)];rfl⟩
  ·exact⟨D.fi,_,by unfold SD.ci;rw[if_pos rfl]⟩
 obtain⟨lst,put,h⟩:=key
 exact⟨lst,put,h,SD.mC (e:=D) hd (λ_=>rfl) h⟩
theorem acq (hB:Base P K F T)(hC:BaseC P K F T)(hG:BaseG P K F T)(hI:BaseB P K F T)(hN:BaseN P K F T)(hM:aaF P F tF)(hTM:acK P F tF)(hf:Has bf (.r false [bu bl aZ c0 c1 c2 c3 c4 bE] 8) t)(hs:aH bl EL d t s){I:Nat->List (List AV)->SD->Prop}{JW:List ID->Nat->List (List AV)->SD->Prop}{JZ:Nat->List Int->Nat->List (List AV)->SD->Prop}(hK:afs P K F tF bf bl p t I JW JZ)(h0:I 0 EL d) :
  bB P K (F 148) [.agg [gm tF bf],iv<|.ofNat p] s (λ_ s'=>∃E2 D2,I 8 E2 D2/\aH bl E2 D2 t s'):=by
 refine hN.f148.cF ?_
 refine Vk (k:=λb2=>Vk (k:=Ww<|W1 (hK.lose [(b2,HO.r false [[gm tF bf]] 1)] EL d _ h0 hs.cons) ?_))
 rintro _ s3 ⟨E1,D1,hI1,aeg⟩
 have gw:aH bl E1 D1 ((b2,HO.r false [[gm tF bf]] 1)::t) s3:=aeg
 clear aeg
 obtain⟨Y0,amw,eF,YR,_⟩:=hK.i _ _ _ hI1
 refine Vk (k:=Ww<|WS.invoke (vs:=[]) rfl (hTM.stack ) rfl ( AK hB hG gw Y0 (.there hf)) ?_)
 rintro v19 s4 ⟨m4,pM,ahl⟩
 rw[eF]at ahl
 have amJ:lenOf v19=some 0:=ahl.lenOf
 have e0:binV .lss (iv<|.ofNat 0) (iv<|.ofNat 0)=some (.bool false):=rfl
 refine Vk (k:=?_)
 refine WP.dA ?_
 refine Vk (k:=?_)
 refine Vk (k:=Wx<|Vk (k:=?_))
 refine Ww<|WS.invoke (vs:=[]) rfl (hM.waits ) rfl ( adE hB hI pM Y0 (.app<|.there hf)) ?_
 rintro v36 s5 ⟨m5,dT,ahm⟩
 have amK:lenOf v36=some D1.wa.length:=by rw[ahm.lenOf];simp[CT]
 have asc:∀{m':SH},m'++(m5++(m4++((b2,HO.r false [[gm tF bf]] 1)::t)))=(m'++(m5++(m4++[(b2,HO.r false [[gm tF bf]] 1)])))++t:=by intro m';simp
 refine W (k:=Wn ?_)
 refine abQ (T:=T) (t:=m5++(m4++((b2,HO.r false [[gm tF bf]] 1)::t))) (W:=D1.wa) (p:=p) (.app<|.app .here) (ahm.mono λq hq=>by simp[hq]) Y0.n1.2.2.2.2 dT (J:=JW D1.wa) (hK.w0 _ _ hI1) (λq x E D=>hK.wno _ q x E D)
  (λm q x E D s1 hx hJ hc hs=>(hK.wdo D1.wa (m++(m5++(m4++[(b2,HO.r false [[gm tF bf]] 1)]))) q x E D s1 hx hJ hc (by rw[<- asc];exact hs)).post λv s'⟨E2,D2,a,b⟩=>⟨E2,D2,a,by rw[asc];exact b⟩) (bX rfl) ?_
 intro l6 s6 E2 D2 hJ2 KL hl6
 refine Wg hl6 (λ_ _ h=>h) ?_
 have hI2:=hK.w1 _ _ _ hJ2
 have hs7:aH bl E2 D2 ((b2,HO.r false [[gm tF bf]] 1)::t) s6:=KL.fb.fb
 clear KL dT pM gw
 refine Wq<|Wa (.bslice rfl rfl) λb51=>Vk (k:=?_)
 have hs8:aH bl E2 D2 ((b51,HO.r false [[iv 0],[iv 1],[iv 3],[iv 4],[iv 2],[iv 5]] 1)::(b2,HO.r false [[gm tF bf]] 1)::t) ((b51,HO.r false [[iv 0],[iv 1],[iv 3],[iv 4],[iv 2],[iv 5]] 1)::s6):=hs7.cons
 refine Wp (λk l ds s'=>ds=[]/\∃i E D,k=6-i/\i<=6/\I (2+i) E D/\aH bl E D ((b51,HO.r false [[iv 0],[iv 1],[iv 3],[iv 4],[iv 2],[iv 5]] 1)::(b2,HO.r false [[gm tF bf]] 1)::t) s'/\∀x w,lk [(1,iv<|.ofNat p),(2,.ptr<|some ⟨b2,0,0⟩),(51,.slice (some ⟨b51,0,0⟩) 6 6 false 1),(52,iv<|.ofNat 6),(53,iv<|.ofNat i)] x=some w->lk l x=some w) ?_ (n:=6-0)
  ⟨rfl,0,E2,D2,rfl,by omega,hI2,hs8,bX rfl⟩
 rintro k l ds s9 ⟨rfl,i,E,D,rfl,hi,hIi,hs9,hl9⟩
 refine Wg hl9 (λ_ _ h=>h) ?_
 obtain⟨gK,hev,_,hpD,h5⟩:=hK.i _ _ _ hIi
 by_cases hlt:i<6
 rotate_left
 ·have e1:=d5 hlt
  have hi6:i=6:=by omega
  subst hi6
  refine Vk (k:=Wx<|Wm .nil ?_)
  exact⟨E,D,hIi,hs9.tail.tail⟩
 have e1:=ij hlt
 have agP:∀{m' m:SH},m'++(m++((b51,HO.r false [[iv 0],[iv 1],[iv 3],[iv 4],[iv 2],[iv 5]] 1)::(b2,HO.r false [[gm tF bf]] 1)::t))=(m'++(m++[(b51,HO.r false [[iv 0],[iv 1],[iv 3],[iv 4],[iv 2],[iv 5]] 1),(b2,HO.r false [[gm tF bf]] 1)]))++t:=by intro m' m;simp
 by_cases h5i:i<5
 ·obtain⟨z,hz⟩:∃z,zsL[i]?=some z:=⟨_,List.getElem?_eq_getElem (by show i<6;exact hlt)⟩
  obtain⟨lst,put,zI,CI⟩:=adI hev gK hpD h5i hz
  have hrow:([[iv 0],[iv 1],[iv 3],[iv 4],[iv 2],[iv 5]]:List (List AV))[0+i]?=some [iv z]:=by
   rw[Nat.zero_add]
   have:(zsL.map λz=>[iv z])[i]?=some [iv z]:=by rw[List.getElem?_map,hz];rfl
   exact this
  refine Vk (k:=?_)
  refine Vk (k:=?_)
  refine Vk (k:=Ww<|WS.invoke (vs:=[iv z,iv<|Int.ofNat p]) rfl (hTM.ci ) rfl ( afq hB hC hs9 gK hev (.there<|.there hf) hpD zI CI) ?_)
  rintro v61 s10 ⟨m,acl,ahn⟩
  have amM:lenOf v61=some lst.length:=by rw[ahn.lenOf,gq]
  refine W (k:=Wn ?_)
  refine abR (T:=T) (z:=0) (t:=m++((b51,HO.r false [[iv 0],[iv 1],[iv 3],[iv 4],[iv 2],[iv 5]] 1)::(b2,HO.r false [[gm tF bf]] 1)::t)) (p:=p) (i:=i) (L:=lst) hTM (.app<|.there<|.there hf) (.app<|.there .here) (ahn.mono λq hq=>by simp[hq]) acl (J:=JZ i lst) (hK.z0 i z E D lst put h5i hz hIi zI)
   (λq id E D s1 hx hJ hs=>Qq hB hC hs (hK.zs _ _ _ _ _ hJ)<|.app<|.there<|.there hf) (λq id E D=>hK.zno i lst q id E D)
   (λq id E D o s1 hx hJ ho how hs=>(hK.zdo i lst ([]++(m++[(b51,HO.r false [[iv 0],[iv 1],[iv 3],[iv 4],[iv 2],[iv 5]] 1),(b2,HO.r false [[gm tF bf]] 1)])) q id E D o s1 hx hJ ho how (by rw[<- agP];exact hs)).post λv s'⟨E2,D2,a,b⟩=>⟨E2,D2,a,by rw[<- agP]at b;exact b⟩) (bX rfl) ?_ CI
  intro l11 s11 E3 D3 qX aef ajl
  refine Wg ajl (λ_ _ h=>h) ?_
  refine Vk (k:=?_)
  exact⟨6-(i+1),by omega,rfl,i+1,E3,D3,rfl,by omega,hK.z1 i lst E3 D3 qX,aef.fb,bX rfl⟩
 ·have hi5:i=5:=by omega
  subst hi5
  have hrow:([[iv 0],[iv 1],[iv 3],[iv 4],[iv 2],[iv 5]]:List (List AV))[0+5]?=some [iv 5]:=rfl
  refine Vk (k:=?_)
  refine Vk (k:=?_)
  refine Vk (k:=Ww<|WS.invoke (vs:=[iv 5,iv<|Int.ofNat p]) rfl (hTM.ci ) rfl ( aez hB hC hs9 gK hev (.there<|.there hf) hpD h5) ?_)
  rintro _ s10 ⟨rfl,acl⟩
  have e2:binV .lss (iv<|.ofNat 0) (iv<|.ofNat 0)=some (.bool false):=rfl
  refine Vk (k:=?_)
  refine WP.dA ?_
  refine Vk (k:=?_)
  refine Vk (k:=Wx<|Vk (k:=?_))
  exact⟨6-(5+1),by omega,rfl,5+1,E,D,rfl,by omega,hK.z5 E D hIi,acl,bX rfl⟩
def phJ (I0 I1 I2 I3:Bool->List (List AV)->SD->Prop):Nat->Bool->List (List AV)->SD->Prop
 | 0=>I0
 | 1=>I1
 | 2=>I2
 | _=>I3
def aeD (P:Program)(K:Orc)(tF:TypeId)(bf bl:Nat)(t:SH)(f:FuncId)(I J:Bool->List (List AV)->SD->Prop):Prop:=
 ∀(m:SH)b E D s1,I b E D->aH bl E D (m++t) s1->bB P K f [.agg [gm tF bf]] s1 (λv s'=>∃r,v=.bool r/\∃E2 D2,J (b||r) E2 D2/\aH bl E2 D2 (m++t) s')
theorem aba (hB:Base P K F T)(hI:BaseB P K F T)(hS:BaseS P K F T)(hN:BaseN P K F T)(ht:Ty P (T 128) 13)(hM:aaF P F tF)(hf:Has bf (.r false [bu bl aZ c0 c1 c2 c3 c4 bE] 8) t)(hs:aH bl EL d t s)(hd:d.Small)(P0:d.oc=0){I0 I1 I2 I3:Bool->List (List AV)->SD->Prop}(h0:I0 false EL d)
  (k1:aeD P K tF bf bl t (F 98) I0 I1) (k2:aeD P K tF bf bl t (F 99) I1 I2) (k3:aeD P K tF bf bl t (F 100) I2 I3) :
  bB P K (F 42) [gm tF bf] s (λv s'=>∃b,v=.bool b/\∃E2 D2,I3 b E2 D2/\aH bl E2 D2 t s'):=by
 refine hN.f42.cF ?_
 refine Wq<|Wv rfl<|Wn<|Ws<|Wq<|Wv rfl<|Wh (b:=false) rfl rfl rfl<|Wn<|Wd rfl fS<|λ_=>Wi<|Wq<|Wv rfl<|Wr (.build rfl rfl)<|Wa (.alloc rfl) λb3=>Vk (k:=?_)
 have gw:aH bl EL d ((b3,HO.r false [[gm tF bf]] 1)::t) ((b3,HO.r false [[gm tF bf]] 1)::s):=hs.cons
 refine Ww<|W1 (zY hB hI hS ht hM gw hd<|.there hf) ?_
 rintro _ s4 ⟨hv,pM⟩
 rw[P0]at hv
 have hv:_=AV.bool false:=hv
 subst hv
 refine Wr (.un rfl rfl)<|Wv rfl<|Wy<|Wl (cs:=[gm tF bf]) rfl (pM.mem .here) rfl rfl rfl<|Wy<|Wr (.mkfn rfl rfl)<|Wy<|Wl (cs:=[gm tF bf]) rfl (pM.mem .here) rfl rfl rfl<|Wy<|Wr (.mkfn rfl rfl)<|Wy<|Wl (cs:=[gm tF bf]) rfl (pM.mem .here) rfl rfl rfl<|Wy<|Wr (.mkfn rfl rfl)<|Wy<|Wa (.bslice rfl rfl) λH6=>Wy ?_
 have dT:aH bl EL d ((H6,HO.r false [[AV.func (F 98) [AV.agg [gm tF bf]] []],[AV.func (F 99) [AV.agg [gm tF bf]] []],[AV.func (F 100) [AV.agg [gm tF bf]] []]] 1)::(b3,HO.r false [[gm tF bf]] 1)::t) ((H6,HO.r false [[AV.func (F 98) [AV.agg [gm tF bf]] []],[AV.func (F 99) [AV.agg [gm tF bf]] []],[AV.func (F 100) [AV.agg [gm tF bf]] []]] 1)::s4):=pM.cons
 have asc:∀{E:List (List AV)}{D:SD}{S:SH},aH bl E D ((H6,HO.r false [[AV.func (F 98) [AV.agg [gm tF bf]] []],[AV.func (F 99) [AV.agg [gm tF bf]] []],[AV.func (F 100) [AV.agg [gm tF bf]] []]] 1)::(b3,HO.r false [[gm tF bf]] 1)::t) S↔aH bl E D ([(H6,HO.r false [[AV.func (F 98) [AV.agg [gm tF bf]] []],[AV.func (F 99) [AV.agg [gm tF bf]] []],[AV.func (F 100) [AV.agg [gm tF bf]] []]] 1),(b3,HO.r false [[gm tF bf]] 1)]++t) S:=Iff.rfl
 have one:∀{f:FuncId}{A B:Bool->List (List AV)->SD->Prop},aeD P K tF bf bl t f A B->∀(b:Bool)(s1:SH),(∃E D,A b E D/\aH bl E D ((H6,HO.r false [[AV.func (F 98) [AV.agg [gm tF bf]] []],[AV.func (F 99) [AV.agg [gm tF bf]] []],[AV.func (F 100) [AV.agg [gm tF bf]] []]] 1)::(b3,HO.r false [[gm tF bf]] 1)::t) s1)->c6 P K (.func f [AV.agg [gm tF bf]] []) [] s1 (λv s'=>∃r,v=.bool r/\∃E D,B (b||r) E D/\aH bl E D ((H6,HO.r false [[AV.func (F 98) [AV.agg [gm tF bf]] []],[AV.func (F 99) [AV.agg [gm tF bf]] []],[AV.func (F 100) [AV.agg [gm tF bf]] []]] 1)::(b3,HO.r false [[gm tF bf]] 1)::t) s'):=
  λ{f A B} hk b s1 ⟨E,D,hA,hs⟩=>c6.func<|hk [(H6,HO.r false [[AV.func (F 98) [AV.agg [gm tF bf]] []],[AV.func (F 99) [AV.agg [gm tF bf]] []],[AV.func (F 100) [AV.agg [gm tF bf]] []]] 1),(b3,HO.r false [[gm tF bf]] 1)] b E D s1 hA<|asc.1 hs
 have hsr:∀(q:Nat)(b:Bool)(s':SH),(∃E D,phJ I0 I1 I2 I3 q b E D/\aH bl E D ((H6,HO.r false [[AV.func (F 98) [AV.agg [gm tF bf]] []],[AV.func (F 99) [AV.agg [gm tF bf]] []],[AV.func (F 100) [AV.agg [gm tF bf]] []]] 1)::(b3,HO.r false [[gm tF bf]] 1)::t) s')->Src s' 1 (.slice (some ⟨H6,0,0⟩) 3 3 false 1) ([AV.func (F 98) [AV.agg [gm tF bf]] [],AV.func (F 99) [AV.agg [gm tF bf]] [],AV.func (F 100) [AV.agg [gm tF bf]] []].map λf=>[f]):=by
  rintro q b s' ⟨E,D,_,hs⟩
  exact Src.all (L:=[[AV.func (F 98) [AV.agg [gm tF bf]] []],[AV.func (F 99) [AV.agg [gm tF bf]] []],[AV.func (F 100) [AV.agg [gm tF bf]] []]])<|hs.mem .here
 have hst:∀(q:Nat)(f:AV)(b:Bool)(s':SH),([AV.func (F 98) [AV.agg [gm tF bf]] [],AV.func (F 99) [AV.agg [gm tF bf]] [],AV.func (F 100) [AV.agg [gm tF bf]] []]:List AV)[q]?=some f->(∃E D,phJ I0 I1 I2 I3 q b E D/\aH bl E D ((H6,HO.r false [[AV.func (F 98) [AV.agg [gm tF bf]] []],[AV.func (F 99) [AV.agg [gm tF bf]] []],[AV.func (F 100) [AV.agg [gm tF bf]] []]] 1)::(b3,HO.r false [[gm tF bf]] 1)::t) s')->c6 P K f [] s' (λv s2=>∃r,v=.bool r/\∃E D,phJ I0 I1 I2 I3 (q+1) (b||r) E D/\aH bl E D ((H6,HO.r false [[AV.func (F 98) [AV.agg [gm tF bf]] []],[AV.func (F 99) [AV.agg [gm tF bf]] []],[AV.func (F 100) [AV.agg [gm tF bf]] []]] 1)::(b3,HO.r false [[gm tF bf]] 1)::t) s2):=by
  intro q f b s' hq h
  match q,hq,h with
  | 0,hq,h=>cases hq;exact one k1 b s' h
  | 1,hq,h=>cases hq;exact one k2 b s' h
  | 2,hq,h=>cases hq;exact one k3 b s' h
  | q+3,hq,_=>simp at hq
 refine Ww<|W1 (adB hN (fs:=[AV.func (F 98) [AV.agg [gm tF bf]] [],AV.func (F 99) [AV.agg [gm tF bf]] [],AV.func (F 100) [AV.agg [gm tF bf]] []]) (cv:=.slice (some ⟨H6,0,0⟩) 3 3 false 1) (J:=λq b s'=>∃E D,phJ I0 I1 I2 I3 q b E D/\aH bl E D ((H6,HO.r false [[AV.func (F 98) [AV.agg [gm tF bf]] []],[AV.func (F 99) [AV.agg [gm tF bf]] []],[AV.func (F 100) [AV.agg [gm tF bf]] []]] 1)::(b3,HO.r false [[gm tF bf]] 1)::t) s') (by show 3<=1000;omega) hsr hst ⟨EL,d,h0,dT⟩) ?_
 rintro _ s9 ⟨b,rfl,E9,D9,hI9,hs9⟩
 refine Vk (k:=We<|Wm (.tmp rfl .nil) ?_)
 exact⟨b,rfl,E9,D9,hI9,hs9.tail.tail⟩
theorem aap (hE:GE P K F T tF g C d) (hN:BaseN P K F T) (hQ:BaseQ P K F T) (hw:meth P tF "Weak"=some (F 56)) (hf:Has bf (.r false [bu bl aZ c0 c1 c2 c3 c4 bE] 8) t) (eQ:cI t aZ C) (hs:aH bl EL d t s) (hcd:∀o∈d.ob,∃j:Nat,o.gE=.ofNat j/\j<C.length) (hall:∀id∈d.fi,∃o,d.obj id=some o)
  {J:List Int->Nat->List (List AV)->SD->Prop} (h0:J (k8 d C (λo _=>weakP g d C o) d.fi) 0 EL d) (gK:∀L q E D,J L q E D->D.Small)
  (hno:∀L q id E D,L[q]?=some id->J L q E D->D.obj id=none->J L (q+1) E D)
  (ajd:∀L(m:SH)q id E D o s1,L[q]?=some id->J L q E D->D.obj id=some o->aH bl E D (m++t) s1->bB P K (F 149) [gm tF bf,iv id] s1 (λ_ s2=>∃E2 D2,J L (q+1) E2 D2/\aH bl E2 D2 (m++t) s2)) :
  bB P K (F 99) [.agg [gm tF bf]] s (λv s'=>∃b,v=.bool b/\(k8 d C (λo _=>weakP g d C o) d.fi=[]->b=false)/\∃E2 D2,J (k8 d C (λo _=>weakP g d C o) d.fi) (k8 d C (λo _=>weakP g d C o) d.fi).length E2 D2/\aH bl E2 D2 t s'):=by
 have hn:=hE.hd.n1
 refine hN.f99.cF ?_
 refine Vk (k:=λb1=>Vk (k:=?_))
 have nr:aH bl EL d ((b1,HO.r false [[gm tF bf]] 1)::t) ((b1,HO.r false [[gm tF bf]] 1)::s):=hs.cons
 refine Ww<|WS.invoke (vs:=[]) rfl (hw ) rfl ( abc hE hN hQ (.there hf) (eQ.mono λq hq=>by simp[hq]) nr hcd hall) ?_
 rintro v10 s2 ⟨m,dt,hv⟩
 have IH:(k8 d C (λo _=>weakP g d C o) d.fi).length<=1000:=Nat.le_trans (List.length_filter_le ..) hn.2.2.1
 generalize k8 d C (λo _=>weakP g d C o) d.fi=L at h0 hv IH |-
 have hlv:lenOf v10=some L.length:=by rw[hv.lenOf,gq]
 refine Vk (k:=?_)
 refine Wp (λk l ds s'=>ds=[]/\∃q b E D,k=L.length-q/\(q=0->b=false)/\q<=L.length/\J L q E D/\aH bl E D (m++((b1,HO.r false [[gm tF bf]] 1)::t)) s'/\∀x w,lk [(1,.ptr<|some ⟨b1,0,0⟩),(3,.bool b),(10,v10),(11,iv<|.ofNat L.length),(12,iv<|.ofNat q)] x=some w->lk l x=some w) ?_ (n:=L.length-0)
  ⟨rfl,0,false,EL,d,rfl,λ_=>rfl,Nat.zero_le _,h0,dt,bX rfl⟩
 rintro k l ds s5 ⟨rfl,q,b,E,D,rfl,hb,hq,hJ,dT,hl5⟩
 refine Wg hl5 (λ_ _ h=>h) ?_
 by_cases hlt:q<L.length
 rotate_left
 ·have e1:=d5 hlt
  have hqL:q=L.length:=by omega
  subst hqL
  refine Vk (k:=Wx<|Vk (k:=We<|Wm (.tmp rfl .nil) ?_))
  exact⟨b,rfl,λh=>hb (by rw[h];rfl),E,D,hJ,(dT.fb).tail⟩
 have e1:=ij hlt
 have hx:L[q]?=some L[q]:=List.getElem?_eq_getElem hlt
 generalize L[q]=id at hx
 obtain⟨ba,ra,na,ca,J5,Sp,Ma,e4,hba,me,hra⟩:=hv.at (i:=q) (by rw[gq];exact hlt)
 have hrow:Ma[ra+q]?=some [iv id]:=by rw[hra,nR,List.getElem?_map,hx];rfl
 subst e4
 refine Wq<|Wj rfl rfl e1<|Wn<|Ws<|Wd rfl (λ_=>Wi<|Ws<|Wb<|Wq<|Wr (.iaddrS rfl rfl (by omega)<|by decide)<|Wl rfl (dT.mem<|.left hba) hrow rfl rfl<|Wv rfl<|Wn ?_) Dz
 refine Wq<|Wf rfl<|Wl rfl (dT.mem<|.app .here) rfl rfl rfl<|Wv rfl<|Ww<|WS.invoke (vs:=[iv id]) rfl (hE.hM.obj ) rfl ( Qq hE.hB hE.hC dT (gK _ _ _ _ hJ) (.app<|.there hf)) ?_
 rintro _ s6 ⟨hv6,KL⟩
 cases ho:D.obj id with
 | none=>
  rw[ho]at hv6
  subst hv6
  refine Vk (k:=λb6=>Vk (k:=?_))
  exact⟨L.length-(q+1),by omega,rfl,q+1,b,E,D,rfl,(λh=>by omega),hlt,hno L q id E D hx hJ ho,KL.bK (m:=[_]),bX rfl⟩
 | some o=>
  rw[ho]at hv6
  subst hv6
  have asc:∀{E:List (List AV)}{D:SD}{S:SH},aH bl E D (m++((b1,HO.r false [[gm tF bf]] 1)::t)) S↔aH bl E D ((m++[(b1,HO.r false [[gm tF bf]] 1)])++t) S:=λ{E D S}=>by rw[List.append_assoc];exact Iff.rfl
  refine Vk (k:=λb6=>Vk (k:=?_))
  refine Ww<|W1 (ajd L _ q id E D o _ hx hJ ho<|asc.1<|KL.bK (m:=[_])) ?_
  rintro _ s7 ⟨E2,D2,hJ2,hs7⟩
  refine Vk (k:=?_)
  exact⟨L.length-(q+1),by omega,rfl,q+1,true,E2,D2,rfl,(λh=>by omega),hlt,hJ2,asc.2 hs7,bX rfl⟩
theorem adf (hE:GE P K F T tF g C d)(hN:BaseN P K F T)(h45:Ty P (T 45) 14)(hf:Has bf (.r false [bu bl aZ c0 c1 c2 c3 c4 bE] 8) t)(eQ:cI t aZ C)(hs:aH bl EL d t s)(ho:d.obj id=some o)(hz:o.ci=2)
  {N:List (List AV)->SD->Prop} {R:SH->Prop} (ajB:∀(m:SH)s1,aH bl EL d (m++t) s1->bB P K (F 188) [gm tF bf,iv id] s1 (λv s'=>v=iv 3/\aH bl EL d (m++t) s')) (h0:N EL d)
  (ahb:∀(m:SH)s1,aH bl EL d (m++t) s1->bB P K (F 128) [gm tF bf,iv 2,iv id,iv o.aQ] s1 (λ_ s'=>∃E2 D2,N E2 D2/\aH bl E2 D2 (m++t) s'))
  (aeb:∀E2 D2 s1,N E2 D2->aH bl E2 D2 t s1->bB P K (F 190) [gm tF bf,iv id,iv 3] s1 (λ_ s'=>R s')) :
  bB P K (F 149) [gm tF bf,iv id] s (λ_ s'=>R s'):=by
 refine hN.f149.cF ?_
 refine Vk (k:=Ww<|W1 (ack hE hN h45 hf hs ho) ?_)
 rintro _ s2 ⟨hv,dt⟩
 rw[decide_eq_true hz]at hv
 subst hv
 refine Vk (k:=λb4=>Vk (k:=?_))
 have pM:aH bl EL d ((b4,HO.r false [o.row] 14)::t) ((b4,HO.r false [o.row] 14)::s2):=dt.cons
 refine Ww<|W1 (ajB [(b4,HO.r false [o.row] 14)] _ pM) ?_
 rintro _ s3 ⟨rfl,aeg⟩
 have gw:aH bl EL d ((b4,HO.r false [o.row] 14)::t) s3:=aeg
 clear aeg pM
 refine Vk (k:=Ww<|W1 (abA hE hN (.there hf) (eQ.mono λq hq=>by simp[hq]) gw) ?_)
 rintro _ s5 ⟨hv5,dT⟩
 cases vo:(chOf g d C id).isSome with
 | false=>
  rw[vo]at hv5
  subst hv5
  refine Vk (k:=Ww<|W1 (aeb EL d _ h0 dT.tail) ?_)
  rintro _ s6 hR
  refine Wn<|Wm .nil ?_
  exact hR
 | true=>
  rw[vo]at hv5
  subst hv5
  refine Vk (k:=?_)
  refine Ww<|W1 (ahb [(b4,HO.r false [o.row] 14)] _ dT) ?_
  rintro _ s6 ⟨E2,D2,hN2,KL⟩
  have KL:aH bl E2 D2 t s6:=aH.fb (x:=[_]) KL
  refine Vk (k:=Ww<|W1 (aeb E2 D2 _ hN2 KL) ?_)
  rintro _ s7 hR
  refine Wn<|Wm .nil ?_
  exact hR
theorem acA (hQ:BaseQ P K F T){b:Nat}(hb:Has b (.r false [[iv id]] 1) s):bB P K (F 208) [.agg o.row,.ptr (some ⟨b,0,0⟩)] s (λv s'=>v=.bool (decide (o.id=id))/\∃m,s'=m++s):=by
 refine hQ.f208.cF ?_
 have h:eqBy 20 .pi (iv o.id) (iv id)=some (decide<|o.id=id):=cD _ _
 refine Vk (k:=λb2=>Vk (k:=We<|Wm (.tmp rfl .nil) ?_))
 exact⟨rfl,[_],rfl⟩
theorem acd (hQ:BaseQ P K F T){p:Int}{b:Nat}(hb:Has b (.r false [[iv p]] 1) s):bB P K (F 209) [.agg o.row,.ptr (some ⟨b,0,0⟩)] s (λv s'=>v=.bool (decide (o.aQ=p))/\∃m,s'=m++s):=by
 refine hQ.f209.cF ?_
 have h:eqBy 20 .pi (iv o.aQ) (iv p)=some (decide<|o.aQ=p):=cD _ _
 refine Vk (k:=λb2=>Vk (k:=We<|Wm (.tmp rfl .nil) ?_))
 exact⟨rfl,[_],rfl⟩
theorem ac4 (hQ:BaseQ P K F T):bB P K (F 210) [.agg o.row] s (λv s'=>v=.bool true/\∃m,s'=m++s):=by
 refine hQ.f210.cF ?_
 refine Vk (k:=λb1=>Vk (k:=We<|Wm (.tmp rfl .nil) ?_))
 exact⟨rfl,[_],rfl⟩
structure AbT where
 a:AD
 o:OD
 i:Nat
@[reducible] def AbT.row (x:AbT):List AV:=x.a.row++(x.o.row++[iv (.ofNat x.i)])
def abO (k e:Int)(o:OD)(l:List AD)(n:Nat):List AbT:=(List.range n).filterMap λi=>match l[i]? with
 | some a=>if decide (a.kind=k)&&decide (a.ev=e)then some ⟨a,o,i⟩else none
 | none=>none
def abI (k e:Int)(d:SD)(C:List CD)(id:Int):List AbT:=match d.obj id with
 | some o=>(match C[o.gE.toNat]? with
  | some c=>abO k e o c.ab c.ab.length
  | none=>[])
 | none=>[]
def C5 (k e:Int)(d:SD)(C:List CD)(l:List Int):List AbT:=l.flatMap (abI k e d C)
theorem abe (k e:Int)(o:OD)(l:List AD)(n:Nat):(abO k e o l n).length<=n:=Nat.le_trans (List.length_filterMap_le ..) (by rw[List.length_range];omega)
theorem adV {l:List AD}{n:Nat}{a:AD}(h:l[n]?=some a):abO k e o l (n+1)=abO k e o l n++if decide (a.kind=k)&&decide (a.ev=e)then [⟨a,o,n⟩]else []:=by
 unfold abO
 rw[List.range_succ,List.filterMap_append]
 congr 1
 rw[List.filterMap_cons,h]
 cases hb:decide (a.kind=k)&&decide (a.ev=e)<;>simp[hb]
theorem aeH (h:∀c∈C,c.ab.length<=4)(id:Int):(abI k e d C id).length<=4:=by
 unfold abI
 cases d.obj id with
 | none=>exact Nat.zero_le _
 | some o=>
  cases hc:C[o.gE.toNat]? with
  | none=>simp[hc]
  | some c=>simp only[hc];exact Nat.le_trans (abe ..)<|h c<|List.mem_of_getElem? hc
theorem adW (h:∀c∈C,c.ab.length<=4)(l:List Int):(C5 k e d C l).length<=4*l.length:=by
 induction l with
 | nil=>exact Nat.le_refl _
 | cons x r ih=>unfold C5 at ih |-;rw[List.flatMap_cons,List.length_append,List.length_cons];have:=aeH (k:=k) (e:=e) (d:=d) h x;omega
structure agD (P:Program)(K:Orc)(bl:Nat)(EL:List (List AV))(d:SD)(y:AV)(J:List AbT->SH->Prop):Prop where
 call:∀L t s(x:AbT)m,(x.a.who=0\/x.a.who=1\/x.a.who=2)->L.length<=400->J L t->aH bl EL d (m++t) s->c6 P K y [.agg x.row] s (λv s'=>v=.bool true/\∃t',aH bl EL d (m++t') s'/\J (L++[x]) t')
def agC (P:Program)(K:Orc)(bl:Nat)(EL:List (List AV))(d:SD)(f:FuncId)(cap:List AV)(t:SH)(out:List AbT):Prop:=
 ∀y J t' s',agD P K bl EL d y J->(∀L t2,J L t2->∀q∈t,q∈t2)->J [] t'->aH bl EL d t' s'->bB P K f (y::cap) s' (λ_ s''=>∃t'',aH bl EL d t'' s''/\J out t'')
def abj (k:Int)(d:SD)(C:List CD):List Int:=k8 d C (λ_ c=>Az 3 k c) d.fi
theorem ab4 (hX:BdX P K F T tF g C d)(hf:Has bf (.r false [bu bl aZ c0 c1 c2 c3 c4 bE] 8) t)(eQ:cI t aZ C)(h2:Has b2 (.r false [[gm tF bf]] 1) t)(h3:Has b3 (.r false [[iv k]] 1) t)(h4:∀c∈C,c.ab.length<=4)(h5:∀c∈C,∀a∈c.ab,a.who=0\/a.who=1\/a.who=2)(h90:d.fi.length<=90) :
  agC P K bl EL d (F 239) [.ptr (some ⟨b2,0,0⟩),.ptr<|some ⟨b3,0,0⟩] t (C5 3 k d C<|abj k d C):=by
 intro y J t' s' hY hJ h0 hs
 have hfJ:∀{L t2},J L t2->Has bf (.r false [bu bl aZ c0 c1 c2 c3 c4 bE] 8) t2:=λh=>.ce<|hJ _ _ h _ hf.mem
 have hcJ:∀{L t2},J L t2->cI t2 aZ C:=λh=>eQ.mono λq hq=>hJ _ _ h q hq
 have h2J:∀{L t2},J L t2->Has b2 (.r false [[gm tF bf]] 1) t2:=λh=>.ce<|hJ _ _ h _ h2.mem
 have h3J:∀{L t2},J L t2->Has b3 (.r false [[iv k]] 1) t2:=λh=>.ce<|hJ _ _ h _ h3.mem
 refine hX.hQ.f239.cF ?_
 refine Wq<|Wl rfl (hs.mem<|h2J h0) rfl rfl rfl<|Ww<|WS.invoke (vs:=[]) rfl (hX.hE.hM.aZ ) rfl ( BS hX.hE.hG hs (hfJ h0) (hcJ h0)) ?_
 rintro v4 s2 ⟨m,dt,hS⟩
 refine Wv rfl<|Wn<|Wq<|Wl rfl (dt.mem<|.app<|h2J h0) rfl rfl rfl<|Wl rfl (dt.mem<|.app<|h3J h0) rfl rfl rfl<|Ww<|WS.invoke (vs:=[AV.int IntKind.i64 (Int.ofNat 3),iv k]) rfl (hX.hv ) rfl ( Y6 hX.hE hX.hQ (.app<|hfJ h0) ((hcJ h0).mono λq hq=>by simp[hq]) dt hX.cd hX.all) ?_
 rintro v15 s3 ⟨m3,ahj,hS3⟩
 have gw:aH bl EL d ((m3++m)++t') s3:=by rw[List.append_assoc];exact ahj
 clear ahj
 have hvl:(abj k d C).length<=90:=Nat.le_trans (List.length_filter_le ..) h90
 have hid:∀id∈abj k d C,∃o c,d.obj id=some o/\C[o.gE.toNat]?=some c/\∃j:Nat,o.gE=.ofNat j/\j<C.length:=by
  intro id hi
  obtain⟨o,ho⟩:=hX.all id (List.mem_filter.1 hi).1
  obtain⟨j,hj,hjl⟩:=hX.cd o (by unfold SD.obj at ho;cases h:d.find id with|none=>rw[h]at ho;cases ho|some i=>rw[h]at ho;exact List.mem_of_getElem? ho)
  refine⟨o,C[j],ho,?_,j,hj,hjl⟩
  rw[hj]
  exact List.getElem?_eq_getElem hjl
 have afZ:Src m3 1 v15 (nR<|abj k d C):=hS3
 clear hS3
 generalize hL:abj k d C=L at hvl hid afZ |-
 have ag8:lenOf v15=some L.length:=by rw[afZ.lenOf,gq]
 refine Wr (.lenS rfl ag8)<|Wv rfl<|Wn<|Wb ?_
 refine Wp (λn l ds s'=>ds=[]/\∃q t2,n=L.length-q/\q<=L.length/\aH bl EL d ((m3++m)++t2) s'/\J (C5 3 k d C<|L.take q) t2/\∀x w,lk [(0,y),(1,.ptr<|some ⟨b2,0,0⟩),(2,.ptr<|some ⟨b3,0,0⟩),(4,v4),(15,v15),(16,iv<|.ofNat L.length),(17,iv<|.ofNat q)] x=some w->lk l x=some w) ?_ (n:=L.length-0)
  ⟨rfl,0,t',rfl,Nat.zero_le _,gw,h0,bX rfl⟩
 rintro n l ds s5 ⟨rfl,q,t2,rfl,hq,dT,hJ2,hl⟩
 refine Wg hl (λ_ _ h=>h) ?_
 refine Wq<|Wj rfl rfl (eT _ _)<|Wn<|Ws<|Wd rfl (λht=>Wi ?_)<|λht=>Wx ?_
 rotate_left
 ·have hge:¬q<L.length:=λh=>of_decide_eq_false ht (Int.ofNat_lt.2 h)
  rw[List.take_of_length_le (by omega)]at hJ2
  exact Wm .nil ⟨t2,dT.fb,hJ2⟩
 have hlt:q<L.length:=Int.ofNat_lt.1<|of_decide_eq_true ht
 have hx:L[q]?=some L[q]:=List.getElem?_eq_getElem hlt
 have KP:L[q]∈L:=List.getElem_mem _
 generalize L[q]=id at hx KP
 obtain⟨o,c,ho,hc,j,hoj,hjl⟩:=hid id KP
 have vp:C[j]?=some c:=by rw[hoj]at hc;exact hc
 have IR:c∈C:=List.mem_of_getElem? hc
 have hab:c.ab.length<=4:=h4 c IR
 have hlen:(C5 3 k d C<|L.take q).length<=360:=Nat.le_trans (adW h4 _) (by rw[List.length_take];omega)
 have mN:C5 3 k d C (L.take<|q+1)=C5 3 k d C (L.take q)++abO 3 k o c.ab c.ab.length:=by
  unfold C5
  rw[List.take_add_one,hx,List.flatMap_append]
  congr 1
  show abI 3 k d C id++[]=_
  unfold abI
  rw[ho]
  simp only[hc,List.append_nil]
 obtain⟨ba,ra,na,ca,J5,Sp,Ma,e4,hba,me,hra⟩:=afZ.at (i:=q) (by rw[gq];exact hlt)
 have hrow:Ma[ra+q]?=some [iv id]:=by rw[hra,nR,List.getElem?_map,hx];rfl
 refine Ws<|Wb<|Wq<|Wr (.iaddrS (congrArg some e4) rfl me<|by decide)<|Wl rfl (dT.mem<|.left<|.left hba) hrow rfl rfl<|Wv rfl<|Wn<|Wq<|Wl rfl (dT.mem<|.app<|h2J hJ2) rfl rfl rfl<|Wv rfl<|Ww<|WS.invoke (vs:=[iv id]) rfl hX.hE.hM.obj rfl (Qq hX.hE.hB hX.hE.hC dT hX.hE.hd<|.app<|hfJ hJ2) ?_
 rintro w s5b ⟨hv,ahk⟩
 rw[ho]at hv
 subst hv
 refine Wv rfl<|Wr (.extract rfl rfl)<|Wr (.extract rfl rfl)<|Wa (.alloc rfl) λb7=>Ww<|Wt (s':=(b7,.r false [o.row] 14)::s5b) rfl rfl rfl .here rfl rfl<|Wv rfl<|Wn ?_
 have KL:aH bl EL d (((b7,.r false [o.row] 14)::(m3++m))++t2) ((b7,.r false [o.row] 14)::s5b):=ahk.cons
 obtain⟨bc,rc,nc,cc',slc,roc,Mc,e5,hbc,CC,hrc⟩:=hS.at (i:=j) (by rw[List.length_map];exact hjl)
 have aaG:Mc[rc+j]?=some c.row:=by rw[hrc,List.getElem?_map,vp];rfl
 have xD:Src t2 13 c.av (c.ab.map AD.row):=(hcJ hJ2).ab c IR
 have ajm:lenOf c.av=some c.ab.length:=by rw[xD.lenOf,List.length_map]
 refine Wq<|Wv rfl<|Wf rfl<|Wl rfl .here rfl rfl rfl<|Wr (.iaddrS (congrArg some e5) (congrArg (λz=>some<|iv z) hoj) CC<|by decide)<|Wf rfl<|Wl rfl (KL.mem<|.left<|.there<|.app hbc) aaG rfl rfl<|Wr (.lenS rfl ajm)<|Wv rfl<|Wn<|Wb ?_
 refine Wp (λn l ds s'=>ds=[]/\∃i t2,n=c.ab.length-i/\i<=c.ab.length/\aH bl EL d (((b7,.r false [o.row] 14)::(m3++m))++t2) s'/\J (C5 3 k d C (L.take q)++abO 3 k o c.ab i) t2/\∀x w,lk [(0,y),(1,.ptr<|some ⟨b2,0,0⟩),(2,.ptr<|some ⟨b3,0,0⟩),(4,v4),(7,.ptr<|some ⟨b7,0,0⟩),(15,v15),(16,iv<|.ofNat L.length),(17,iv<|.ofNat q),(32,c.av),(33,iv<|.ofNat c.ab.length),(34,iv<|.ofNat i)] x=some w->lk l x=some w) ?_ (n:=c.ab.length-0)
  ⟨rfl,0,t2,rfl,Nat.zero_le _,KL,by rw[show abO 3 k o c.ab 0=[]from rfl,List.append_nil];exact hJ2,bX rfl⟩
 clear KL dT ahk hJ2 xD
 rintro n l ds s7 ⟨rfl,i,t3,rfl,hi,hs7,qX,hl⟩
 refine Wg hl (λ_ _ h=>h) ?_
 refine Wq<|Wj rfl rfl (eT _ _)<|Wn<|Ws<|Wd rfl (λht=>Wi ?_)<|λht=>Wx ?_
 rotate_left
 ·have hge:¬i<c.ab.length:=λh=>of_decide_eq_false ht (Int.ofNat_lt.2 h)
  have Yx:i=c.ab.length:=by omega
  subst Yx
  refine Wo<|Wj rfl rfl (bM<|by omega)<|Wv rfl<|Wn ?_
  exact⟨L.length-(q+1),by omega,rfl,q+1,t3,rfl,hlt,aH.fb (x:=[_]) hs7,by rw[mN];exact qX,bX rfl⟩
 have aec:i<c.ab.length:=Int.ofNat_lt.1<|of_decide_eq_true ht
 have Qa:c.ab[i]?=some c.ab[i]:=List.getElem?_eq_getElem aec
 generalize c.ab[i]=a at Qa
 have ae2:=adV (k:=3) (e:=k) (o:=o) Qa
 have xD:Src t3 13 c.av (c.ab.map AD.row):=(hcJ qX).ab c IR
 obtain⟨bv,rv,nv,cv,slv,rov,Mv,e6,hbv,hinv,UU⟩:=xD.at (i:=i) (by rw[List.length_map];exact aec)
 have ahi:Mv[rv+i]?=some a.row:=by rw[UU,List.getElem?_map,Qa];rfl
 refine Ws<|Wb<|Wq (Wv rfl<|Wr (.iaddrS (congrArg some e6) rfl hinv<|by decide)<|Wl (cs:=a.row) rfl (hs7.mem<|.app hbv) ahi rfl rfl<|Wa (.alloc rfl) λsf=>Wv rfl<|Ww<|Wt (s':=(sf,.r false [a.row] 13)::s7) rfl rfl rfl .here rfl rfl<|Wn ?_) 
 have hs8:aH bl EL d (((sf,.r false [a.row] 13)::(b7,.r false [o.row] 14)::(m3++m))++t3) ((sf,.r false [a.row] 13)::s7):=hs7.cons
 have hk0:eqBy 20 .pi (iv a.kind) (iv 3)=some (decide<|a.kind=3):=cD _ _
 have q7:eqBy 20 .pi (iv a.ev) (iv k)=some (decide<|a.ev=k):=cD _ _
 refine Wq<|Wf rfl<|Wl rfl .here rfl rfl rfl<|Wh rfl rfl hk0<|Wv rfl ?_
 have PG:∀{t4:SH}{S:SH},aH bl EL d (((sf,.r false [a.row] 13)::(b7,.r false [o.row] 14)::(m3++m))++t4) S->aH bl EL d (((b7,.r false [o.row] 14)::(m3++m))++t4) S:=λh=>h.tail
 have no:(decide (a.kind=3)&&decide (a.ev=k))=false->J (C5 3 k d C (L.take q)++abO 3 k o c.ab (i+1)) t3:=by
  intro h
  rw[ae2,h]
  show J (_++(_++[])) t3
  rw[List.append_nil]
  exact qX
 cases hkd:decide (a.kind=3) with
 | false=>
  rw[hkd]at hk0 no
  refine Wk<|Wk<|Wk<|Wk<|Wr (.bj rfl rfl)<|Wv rfl<|Wk<|Wk<|Wk<|Wk<|Wk<|Wk<|Wk<|Wr (.bj rfl rfl)<|Wn<|Wd rfl fS<|λ_=>Wi<|Wo<|Wj rfl rfl (bM<|by omega)<|Wv rfl<|Wn ?_
  exact⟨c.ab.length-(i+1),by omega,rfl,i+1,t3,rfl,aec,PG hs8,no rfl,bX rfl⟩
 | true=>
  rw[hkd]at hk0 no ae2
  refine Wy<|Wf rfl<|Wy<|Wl rfl .here rfl rfl rfl<|Wy<|Wl rfl (hs8.mem<|.app<|h3J qX) rfl rfl rfl<|Wy<|Wh rfl rfl q7<|Wr (.cV rfl rfl)<|Wv rfl ?_
  cases hev:decide (a.ev=k) with
  | false=>
   rw[hev]at q7 no
   refine Wk<|Wk<|Wk<|Wk<|Wk<|Wk<|Wk<|Wr (.bj rfl rfl)<|Wn<|Wd rfl fS<|λ_=>Wi<|Wo<|Wj rfl rfl (bM<|by omega)<|Wv rfl<|Wn ?_
   exact⟨c.ab.length-(i+1),by omega,rfl,i+1,t3,rfl,aec,PG hs8,no rfl,bX rfl⟩
  | true=>
   rw[hev]at q7 ae2
   have hn3:(C5 3 k d C (L.take q)++abO 3 k o c.ab i).length<=400:=by
    have:=abe 3 k o c.ab i
    rw[List.length_append]
    omega
   refine Wy<|Wv rfl<|Wy<|Wl (cs:=a.row) rfl .here rfl rfl rfl<|Wy<|Wl (cs:=o.row) rfl (hs8.mem<|.there .here) rfl rfl rfl<|Wy<|Wv rfl<|Wy<|Wr (.build (cs:=(⟨a,o,i⟩:AbT).row) rfl rfl)<|Wy<|Ww<|WS.call (vs:=[.agg (⟨a,o,i⟩:AbT).row]) rfl rfl (hY.call _ _ _ _ ((sf,.r false [a.row] 13)::(b7,.r false [o.row] 14)::(m3++m)) (h5 c IR a<|List.mem_of_getElem? Qa) hn3 qX hs8) ?_
   rintro w9 s9 ⟨rfl,t9,hs9,hJ9⟩
   refine Wy<|Wr (.un (v:=.bool false) rfl rfl)<|Wr (.cV rfl rfl)<|Wn<|Wd rfl fS<|λ_=>Wi<|Wo<|Wj rfl rfl (bM<|by omega)<|Wv rfl<|Wn ?_
   exact⟨c.ab.length-(i+1),by omega,rfl,i+1,t9,rfl,aec,PG hs9,by rw[ae2,<- List.append_assoc];exact hJ9,bX rfl⟩
open Go.Proofs
set_option maxRecDepth 100000
def afw:AC:=NF (pt (afR (λn=>n) λn=>n) [1,1,1,1,0,1,0,0]) _
def afx (F:Nat->FuncId):AC:=NF (pt (afR F λn=>n) [1,1,1,1,0,1,0,1]) _
def abS (w id p:Int)(o:OD):Bool:=if w=0 then decide (o.id=id)else if w=1 then decide (o.aQ=p)else true
def l4 (x:AbT):ID:=⟨0,3,x.o.aQ,x.o.id,x.o.gE,.ofNat x.i⟩
def qd (id p:Int)(l:List AbT):List ID:=(l.filter λx=>abS x.a.who id p x.o).map l4
def adN (sf:Nat)(W:SH)(out:List ID)(t:SH):Prop:=∃lv og j,t.Perm ((sf,HO.r false [[lv]] 1)::(og++(j++W)))/\GrE 7 lv (CT out) og
variable {W:SH}{sf:Nat}
theorem adN.sub {out:List ID}(h:adN sf W out t):∀q∈W,q∈t:=by
 obtain⟨lv,og,j,hp,_⟩:=h
 exactλq hq=>hp.mem_iff.2<|by simp[hq]
def adG (F:Nat->FuncId)(b6 b7:Nat):List (AV × AV):=[(iv 0,.func (F 208) [] [.ptr (some ⟨b6,0,0⟩)]),(iv 1,.func (F 209) [] [.ptr (some ⟨b7,0,0⟩)]),(iv 2,.func (F 210) [] [])]
variable {b6 b7:Nat}
theorem agp (hQ:BaseQ P K F T){p w:Int}(h6:Has b6 (.r false [[iv id]] 1) s)(h7:Has b7 (.r false [[iv p]] 1) s)(hw:w=0\/w=1\/w=2) :
  ∃f cap,lookIn .pi (iv w) (adG F b6 b7)=some (some<|.func f [] cap)/\bB P K f (.agg o.row::cap) s (λv s'=>v=.bool (abS w id p o)/\∃m,s'=m++s):=by
 rcases hw with rfl|rfl|rfl
 ·exact⟨_,_,rfl,acA hQ h6⟩
 ·exact⟨_,_,rfl,acd hQ h7⟩
 ·exact⟨_,_,rfl,ac4 hQ⟩
theorem adv (hQ:BaseQ P K F T){lb D b9 b23:Nat}{p:Int}{l1:Sl}{asg body:Code}(ha:cc P 60 asg=afw)(hb:cc P 60 body=afx F)(e9:lk l1 9=some (.ptr (some ⟨b9,0,0⟩)))(e10:lk l1 10=some (.ptr (some ⟨sf,0,0⟩)))
  (h6:Has b6 (.r false [[iv id]] 1) W) (h7:Has b7 (.r false [[iv p]] 1) W) (h9:Has b9 (.r false [[AV.map (some b23)]] 1) W) (h23:Has b23 (.m<|adG F b6 b7) W) :
  agD P K bl EL d (.yield lb) (λL t=>adN sf ((lb,HO.lp l1 60 [30] asg body .ready none D)::W) (qd id p L) t):=by
 refine⟨λL t s x m hw hL hJ hs=>?_⟩
 obtain⟨lv,og,j,hpm,hG⟩:=hJ
 obtain⟨u,hu,hback⟩:=hs.split
 refine c6.perm (s:=(lb,.lp l1 60 [30] asg body .ready none D)::(u++(m++((sf,.r false [[lv]] 1)::(og++(j++W)))))) (ak λc w h0 h1 h2 hq=>by have:=hq _ _ hu;simp only[h1,h2,hq _ _ hpm]at this |-;omega)<|c6.canon ?_
 refine AU (by omega) ha hb ?_
 unfold afw afx
 have hil:(qd id p L).length<=400:=by unfold qd;rw[List.length_map];exact Nat.le_trans (List.length_filter_le ..) hL
 have ag4:qd id p (L++[x])=qd id p L++if abS x.a.who id p x.o then [l4 x]else []:=by
  unfold qd
  rw[List.filter_append,List.map_append]
  congr 1
  rw[List.filter_cons]
  cases abS x.a.who id p x.o<;>rfl
 refine Vk (k:=λb11=>Vk (k:=?_))
 refine⟨(b11,.r false [x.row] 28)::(u++(m++((sf,.r false [[lv]] 1)::(og++(j++W))))),List.Perm.swap ..,?_⟩
 refine Wg (l':=[(9,.ptr<|some ⟨b9,0,0⟩),(10,.ptr<|some ⟨sf,0,0⟩),(11,.ptr<|some ⟨b11,0,0⟩)]) (aa e9<|aa e10<|bX rfl) (λ_ _ h=>h) ?_
 have hW:∀{b:Nat}{o:HO},Has b o W->Has b o ((lb,.lp l1 60 [30] asg body .busy none D)::(b11,.r false [x.row] 28)::(u++(m++((sf,.r false [[lv]] 1)::(og++(j++W)))))):=λh=>.there<|.there<|.app<|.app<|.there<|.app<|.app h
 obtain⟨f,cap,hlk,hf⟩:=agp hQ (o:=x.o) (hW h6) (hW h7) hw
 refine Vk (k:=Wr (.look rfl rfl (hW h23) hlk)<|Vk (k:=?_))
 refine Vk (k:=Ww<|Wc (first:=[]) (vs:=[.agg x.o.row]) rfl rfl hf ?_)
 rintro _ _ ⟨rfl,mm,rfl⟩
 refine Vk (k:=?_)
 cases hm:abS x.a.who id p x.o with
 | false=>
  refine Vk (k:=?_)
  rw[ag4,hm]
  refine⟨mm++((b11,.r false [x.row] 28)::(u++(m++((sf,.r false [[lv]] 1)::(og++(j++W)))))),kT,u++(m++((sf,.r false [[lv]] 1)::(og++((mm++((b11,.r false [x.row] 28)::j))++((lb,.lp l1 60 [30] asg body .ready none D)::W))))),kT,rfl,_,hback _,lv,og,mm++((b11,.r false [x.row] 28)::j),.refl _,?_⟩
  show GrE 7 lv (CT<|qd id p L++[]) og
  rw[List.append_nil]
  exact hG
 | true=>
  refine Wd rfl (λ_=>?_) Dz
  rw[ag4,hm]
  refine Wo<|Wl (v:=lv) rfl (.app<|.there<|.there<|.app<|.app .here) rfl rfl rfl<|Wf rfl<|Wf rfl<|Wl rfl (.app<|.there .here) rfl rfl rfl<|Wf rfl<|Wf rfl<|Wl rfl (.app<|.there .here) rfl rfl rfl<|Wf rfl<|Wf rfl<|Wl rfl (.app<|.there .here) rfl rfl rfl<|Wf rfl<|Wl rfl (.app<|.there .here) rfl rfl rfl<|Wr (.build (cs:=(l4 x).row) rfl rfl)<|Wa (.bslice (L:=[(l4 x).row]) rfl rfl) λb57=>Ww<|WS.pre (s':=((b57,.r false [(l4 x).row] 7)::(mm++((lb,.lp l1 60 [30] asg body .busy none D)::(b11,.r false [x.row] 28)::(sf,.r false [[lv]] 1)::(u++m))))++(og++(j++W))) (kT)<|WS.ab8 (xv:=.slice (some ⟨b57,0,0⟩) 1 1 false 7) rfl hG rfl (Src.all (L:=[(l4 x).row]) .here) (by decide) (by simp only[CT,List.length_map,List.length_cons,List.length_nil];omega) (by decide) λnw A9 jk xB=>Ww<|Wt (s':=A9++(((b57,.r false [(l4 x).row] 7)::(mm++((lb,.lp l1 60 [30] asg body .busy none D)::(b11,.r false [x.row] 28)::(sf,.r false [[nw]] 1)::(u++m))))++(jk++(j++W)))) (row':=[nw]) rfl rfl xB.out.src.part (.app<|.left<|.there<|.app<|.there<|.there .here) rfl rfl<|Wn ?_
  refine⟨A9++(((b57,.r false [(l4 x).row] 7)::(mm++((b11,.r false [x.row] 28)::(sf,.r false [[nw]] 1)::(u++m))))++(jk++(j++W))),kT,u++(m++((sf,.r false [[nw]] 1)::(A9++(((b57,.r false [(l4 x).row] 7)::(mm++((b11,.r false [x.row] 28)::(jk++j))))++((lb,.lp l1 60 [30] asg body .ready none D)::W))))),kT,rfl,_,hback _,nw,A9,(b57,.r false [(l4 x).row] 7)::(mm++((b11,.r false [x.row] 28)::(jk++j))),.refl _,?_⟩
  show GrE 7 nw (CT<|qd id p L++[l4 x]) A9
  simpa[CT]using xB

end
end
end Go.Ev
