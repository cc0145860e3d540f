/- Walks and rules. Conditions: none. -/
import Derived.Test.YtcmplhmbmmclaaaGreatEvP
set_option linter.unusedVariables false
set_option linter.unusedSectionVars false
namespace Go.Ev
def adp (F:Nat->FuncId)(T:Nat->TypeId):AC:=(oN [zo 3 (.box 13 0)] (.drawn 0 [zr (zl 4 1) 0 1 0,zr (zl 5 2) 0 0 0,zp (zf 6 1 3) 0,zr (zl 7 6) 0 0 4,zh (oF F 8 249 [5,7]) 14,zr (zo 9 (.load true 13 3)) 0 1 0,zh (zo 10 (.call 4 [8,9])) 63]))
def adq (F:Nat->FuncId)(T:Nat->TypeId):AC:=(oN [zo 4 (.mv (.const (.pointer none)))] (.seq (.drawn 0 [zp (zm 5 0) 0,zp (zo 6 (.nilchk 5)) 1,zp (zf 7 0 6) 3,zp (zf 8 1 7) 7,zr (zl 9 8) 0 1 15,zp (zm 10 0) 0,zp (zo 11 (.nilchk 10)) 32,zp (zf 12 0 11) 96,zr (zo 13 (.load true 25 12)) 0 0 224,zp (zm 14 1) 0,zh (oF F 15 91 [13,14]) 992,zp (zo 16 (.iaddrS 14 9 15)) 2047,zp (zm 4 16) 4095]) .ret))
def ads (F:Nat->FuncId)(T:Nat->TypeId):AC:=(oN [zo 3 (.box 13 1)] (.ops [zm 4 0,zf 5 3 3,zl 6 5,zo 7 (.eql false .pi 6 (zc 1)),zo 8 (.nilchk 4),zf 9 5 8,zn (.store 1 9 7)]))
def adt (F:Nat->FuncId)(T:Nat->TypeId):AC:=(oN [zo 3 (.box 13 1)] (.ops [zm 4 0,zf 5 3 3,zl 6 5,zo 7 (.eql false .pi 6 (zc 1)),zo 8 (.nilchk 4),zf 9 6 8,zn (.store 1 9 7)]))
def adu (F:Nat->FuncId)(T:Nat->TypeId):AC:=(oN [zo 3 (.box 13 1)] (.ops [zm 4 0,zf 5 2 3,zl 6 5,zo 7 (.nilchk 4),zf 8 10 7,zn (.store 1 8 6)]))
structure BaseX (P:Program)(K:Orc)(F:Nat->FuncId)(T:Nat->TypeId):Prop where
 f248:FnK P K (F 248) 11 [] (adp F T)
 f249:FnK P K (F 249) 17 [(.tmp 4)] (adq F T)
 f250:FnK P K (F 250) 10 [] (ads F T)
 f251:FnK P K (F 251) 10 [] (adt F T)
 f257:FnK P K (F 257) 9 [] (adu F T)
def a32 (F:Nat->FuncId)(T:Nat->TypeId):AC:=(oN [zo 2 (.box 1 0),zo 3 (.box 1 1),zo 4 (.mv (.const (.slice none 0 0)))] (oN [zo 5 (.alloc 1 [(.slice none 0 0 false 0)])] (.seq (oN [zl 8 2,oF F 9 79 [8]] (.block 0 (.rf 9 [10] (.ops [zo 6 (.alloc 17 [(za 0),(za 0),(za 0),(za 0),(za 0),(.bool false),(.bool false),(.bool false),(za 0),(za 0),(za 0),(za 0),(.bool false),(.slice none 0 0 false 0),(za 0),(za 0),(za 0)]),zn (.store 17 6 10)]) (.block 1 (.seq (oN [zf 11 0 6,zf 12 3 11,zl 13 12,zl 14 3,zo 15 (.eql true .pi 13 14),zm 16 15,zg 17 (.faddr 0 6) 16 false,zg 18 (.faddr 5 17) 16 false,zg 19 (.load false 1 18) 16 false,zo 20 (.pick 16 (.const (.bool true)) 19),zm 21 20,zg 22 (.faddr 0 6) 21 false,zg 23 (.faddr 11 22) 21 false,zg 24 (.load false 1 23) 21 false,zg 25 (.eql true .pi 24 (zc 0)) 21 false,zo 26 (.pick 21 (.const (.bool true)) 25)] (.cond 26 (.exit 1) .skip)) (oN [zl 27 2,oF F 28 79 [27]] (.block 2 (.rf 28 [29] (.ops [zo 7 (.alloc 17 [(za 0),(za 0),(za 0),(za 0),(za 0),(.bool false),(.bool false),(.bool false),(za 0),(za 0),(za 0),(za 0),(.bool false),(.slice none 0 0 false 0),(za 0),(za 0),(za 0)]),zn (.store 17 7 29)]) (.block 3 (oN [zf 30 0 7,zf 31 10 30,zl 32 31,zl 33 3,zo 34 (.arith .add 33 (zc 1)),zo 35 (.eql false .pi 32 34),zm 36 35,zg 37 (.load true 17 6) 36 true,zg 38 (.call (.func (F 80)) [37,(zc 1)]) 36 true,zg 39 (.mv 38) 36 true,zg 40 (.load true 17 7) 39 false,zg 41 (.call (.func (F 80)) [40,(zc 1)]) 39 false,zg 42 (.un .not 41) 39 false,zg 43 (.pick 39 (.const (.bool true)) 42) 36 true,zo 44 (.pick 36 43 (.const (.bool false)))] (.cond 44 (.ops [zl 45 5,zf 46 0 6,zf 47 0 46,zl 48 47,zf 49 0 7,zf 50 0 49,zl 51 50,zo 52 (.build [(za 0),(za 0),(za 0)] [⟨0,⟨1,(zc 10)⟩⟩,⟨1,⟨1,48⟩⟩,⟨2,⟨1,51⟩⟩]),zo 53 (.bslice 3 1 [(za 0),(za 0),(za 0)] [⟨0,52⟩]),zo 54 (.append 3 24 45 53),zn (.store 1 5 54)]) .skip))))))))))) (oN [zl 55 5,zm 4 55] .ret))))
def a79 (F:Nat->FuncId)(T:Nat->TypeId):AC:=(oN [zo 1 (.box 1 0),zo 2 (.mv (.const .nilFunc))] (oN [zo 3 (.mkfn (F 124) [] [1]),zm 2 3] .ret))
def a80 (F:Nat->FuncId)(T:Nat->TypeId):AC:=(oN [zo 2 (.box 17 0),zo 4 (.mv (.const (.bool false)))] (oN [zf 5 14 2,zf 6 2 5,zl 7 6,zm 8 1,zo 9 (.arith .and 7 8),zo 10 (.eql true .pi 9 (zc 0)),zm 4 10] .ret))
def adn (F:Nat->FuncId) (T:Nat->TypeId):AC:=(.seq (oN [zl 9 1,zo 10 (.eql false (.iface true) 9 (.const .nilIface))] (.cond 10 .ret .skip)) (oN [zl 11 1,zo 12 (.invoke 11 "Zone" [(zc 2),(zc 0)]),zo 13 (.lenS 12),zo 14 (.mv (zc 0))] (.block 0 (.loop (oN [zo 15 (.arith .lss 14 13)] (.seq (.cond 15 .skip (.exit 0)) (.seq (.block 1 (oN [zo 16 (.iaddrS 1 12 14),zl 17 16,zm 4 17] (oN [zl 19 1,zm 20 4,zo 21 (.invoke 19 "Obj" [20]),zm 18 21,zo 22 (.extract 18 0),zo 23 (.extract 18 1),zo 5 (.alloc 14 dB),zn (.store 14 5 22),zm 6 23] (oN [zl 25 1,zm 26 4,zo 27 (.invoke 25 "Chars" [26]),zm 24 27,zo 28 (.extract 24 0),zo 29 (.extract 24 1),zo 7 (.alloc 3 [(za 0),(za 0),(za 0)]),zn (.store 3 7 28),zm 8 29] (oN [zm 30 8,zm 31 30,zg 32 (.mv 0) 31 true,zg 33 (.load true 14 5) 31 true,zg 34 (.load true 3 7) 31 true,zg 35 (.build [(za 0),(za 0),(za 0),(za 0),(za 0),(.bool false),(.bool false),(.bool false),(za 0),(za 0),(za 0),(za 0),(.bool false),(.slice none 0 0 false 0),(za 0),(za 0),(za 0)] [⟨0,⟨14,33⟩⟩,⟨14,⟨3,34⟩⟩]) 31 true,zg 36 (.call 32 [35]) 31 true,zg 37 (.un .not 36) 31 true,zo 38 (.pick 31 37 (.const (.bool false)))] (.cond 38 .ret .skip)))))) (.ops [zo 39 (.arith .add 14 (zc 1)),zm 14 39]))))))))
structure BaseY (P:Program)(K:Orc)(F:Nat->FuncId)(T:Nat->TypeId):Prop where
 f32:FnK P K (F 32) 56 [(.tmp 4)] (a32 F T)
 f79:FnK P K (F 79) 4 [(.tmp 2)] (a79 F T)
 f80:FnK P K (F 80) 11 [(.tmp 4)] (a80 F T)
 f124:FnK P K (F 124) 40 [] (adn F T)
section
variable {P:Program}{K:Orc}{rd:Option Nat}{nt:Nat}{l:Sl}{ds:List aD}{s:SH}{Q Qn Qr:Po}{Qe:Nat->Po}{F:Nat->FuncId}{T:Nat->TypeId}
theorem acr (k a b n m:Int)(it:ID):dz (.agg (evRow k a b n m it)) (.agg (evRow k a b n m it))=true:=by
 show sameL (sameN 5) (evRow k a b n m it) (evRow k a b n m it)=true
 simp[sameL,sameN,same0,gd,keq]
theorem acs (f:FuncId):dz (.func f [] []) (.func f [] [])=true:=by
 simp[dz,sameN,sameL]
theorem abE (hB:Base P K F T)(hX:BaseX P K F T){bw bp n c i:Nat}{pv lv hv gv ev fv sv wv:AV}{d:SD}{a:Int}(hb:Has bw (.r false [d.cells pv (.slice (some ⟨bp,0,0⟩) n c true 14) lv hv gv ev fv sv wv] 25) s)(hs:Src s 14 (.slice (some ⟨bp,0,0⟩) n c true 14) (fy d.ob))(hsm:d.Small)(hi:d.find a=some i)(hin:i<n) :
  bB P K (F 249) [.ptr (some ⟨bw,0,0⟩),iv a] s (λv s'=>v=.ptr (some ⟨bp,0+i,0⟩)/\∃m,s'=m++s):=by
 have Y0:=hsm.n1
 refine hX.f249.cF (by simp) ?_
 unfold adq
 refine Wq<|Wv rfl<|Wn ?_
 refine Ws<|WP.bD<|Dp (.mv rfl)<|Dp (.nilchk rfl rfl)<|Dp (.faddr rfl)<|Dp (.faddr rfl)<|WD.lk rfl .nil (.load rfl hb rfl rfl rfl)<|Dp (.mv rfl)<|Dp (.nilchk rfl rfl)<|Dp (.faddr rfl)<|Dl rfl .nil (.load (cs:=d.cells pv (.slice (some ⟨bp,0,0⟩) n c true 14) lv hv gv ev fv sv wv) rfl hb rfl rfl rfl)<|Dp (.mv rfl)<|Dc .nil<|Wz [.agg (d.cells pv (.slice (some ⟨bp,0,0⟩) n c true 14) lv hv gv ev fv sv wv),iv a] rfl rfl (lg hB hs hsm) ?_
 rintro w _ ⟨rfl,m,rfl⟩
 rw[hi]
 refine Dp (.iaddrS rfl rfl hin<|by decide)<|Dp (.mv rfl)<|D0 .nil (We<|Wm (.tmp rfl .nil) ⟨rfl,m,rfl⟩) ?_
 intro o ho
 rw[List.mem_singleton.1 ho]
 refine⟨λi hi=>(nomatch hi),Nat.zero_le _,hs.same,λk _ hk=>?_⟩
 rcases(by have:k<=1:=hk;omega:k=0\/k=1)with rfl|rfl
 ·exact⟨_,rfl,.load rfl hb rfl rfl rfl⟩
 ·exact⟨_,rfl,.load rfl (.app hb) rfl rfl rfl⟩
theorem abQ (hB:Base P K F T)(hX:BaseX P K F T){fn:FuncId}{o o':OD}{bw bd bx i:Nat}{d:SD}{t:SH}(hs:WH bw d t s)(hbd:Has bd (.r false [[.func fn [] []]] 1) t)(PA:Has bx (.r false [[.ptr (some ⟨bw,0,0⟩)]] 1) t)(hsm:d.Small){k a b n m:Int}{it:ID}(hi:d.find a=some i)(ho:d.ob[i]?=some o)
  (hin:∀{s s':SH}{bp:Nat}{L:List (List AV)},oY bp (.r false L 14) (.r false (L.set i o'.row) 14) s s'->L[i]?=some o.row->bB P K fn [.ptr (some ⟨bp,i,0⟩),.agg<|evRow k a b n m it] s (λ_ s2=>∃m,s2=m++s')) :
  c6 P K (.func (F 248) [] [.ptr (some ⟨bd,0,0⟩),.ptr<|some ⟨bx,0,0⟩]) [.agg (evRow k a b n m it)] s (λ_ s'=>WH bw { d with ob:=d.ob.set i o' } t s'):=by
 have hil:i<d.ob.length:=(List.getElem?_eq_some_iff.1 ho).1
 obtain⟨pv,ov,lv,hv,gv,ev,fv,sv,wv,nn,k1,k2⟩:=hs
 obtain⟨op,r,kp,g,back⟩:=k2.xS
 have gs:=g
 obtain⟨bp,c,M,rfl,rfl,put⟩:=g.put (p:=i)<|by simpa[fy]using hil
 have hrow:(fy d.ob++M)[i]?=some o.row:=by
  rw[List.getElem?_append_left (by simpa[fy]using hil),fy,List.getElem?_map,ho];rfl
 refine c6.func<|bB.perm (s:=(bp,.r false (fy d.ob++M) 14)::(bw,.r false [d.cells pv (.slice (some ⟨bp,0,0⟩) (fy d.ob).length c true 14) lv hv gv ev fv sv wv] 25)::(r++t)) (cM λc w h0 h1 h2 hq=>by rw[hq _ _ k1];simp only[h1,h2,h0,hq _ _ kp];omega) ?_
 refine hX.f248.cF (by simp) ?_
 unfold adp
 refine Wq<|Wa (.box rfl rfl) λb3=>Wn ?_
 refine WP.bD<|WD.lk rfl .nil (.load rfl (.there<|.there<|.there<|.app hbd) rfl rfl rfl)<|Dl rfl .nil (.load rfl (.there<|.there<|.there<|.app PA) rfl rfl rfl)<|Dp (.faddr rfl)<|Dl rfl .nil (.load rfl .here rfl rfl rfl)<|Dc .nil<|Wz [.ptr (some ⟨bw,0,0⟩),iv a] rfl rfl (abE hB hX (.there<|.there .here) (gs.src (m:=[(b3,.r false [evRow k a b n m it] 13)])) hsm hi<|by simpa[fy]using hil) ?_
 rintro w _ ⟨rfl,m4,rfl⟩
 refine WD.lk rfl .nil (.load (cs:=evRow k a b n m it) rfl (.app .here) rfl rfl rfl)<|Dc .nil<|Wz [.ptr (some ⟨bp,i,0⟩),.agg<|evRow k a b n m it] rfl (by rw[Nat.zero_add];rfl) (hin (s':=m4++((b3,.r false [evRow k a b n m it] 13)::(bp,.r false ((fy d.ob++M).set i o'.row) 14)::(bw,.r false [d.cells pv (.slice (some ⟨bp,0,0⟩) (fy d.ob).length c true 14) lv hv gv ev fv sv wv] 25)::(r++t))) (.app<|.there .here) hrow) ?_
 rintro w _ ⟨mm,rfl⟩
 refine D0 .nil (Wm .nil ?_) ?_
 ·have g':=back _ (d.ob.set i o') [(bp,.r false ((fy d.ob++M).set i o'.row) 14)] (by
   have:=put o'.row
   rw[show fy (d.ob.set i o')=(fy d.ob).set i o'.row from by simp[fy,List.map_set]]
   exact this)
  refine⟨pv,_,lv,hv,gv,ev,fv,sv,wv,(mm++(m4++[(b3,.r false [evRow k a b n m it] 13)]))++((bp,.r false ((fy d.ob++M).set i o'.row) 14)::r),?_,g'.bK⟩
  show List.Perm (mm++(m4++((b3,HO.r false [evRow k a b n m it] 13)::(bp,HO.r false ((fy d.ob++M).set i o'.row) 14)::(bw,HO.r false [({ d with ob:=d.ob.set i o' }:SD).cells pv (.slice (some ⟨bp,0,0⟩) (fy d.ob).length c true 14) lv hv gv ev fv sv wv] 25)::(r++t)))) _
  exact cM λc w h0 h1 h2 hq=>by simp only[h1,h2,h0];omega
 ·intro o2 ho2
  rcases List.mem_cons.1 ho2 with rfl|ho2
  ·refine⟨λj hj=>(nomatch hj),Nat.zero_le _,acr _ _ _ _ _ _,λj _ hj=>?_⟩
   rcases(by have:j<=1:=hj;omega:j=0\/j=1)with rfl|rfl
   ·exact⟨_,rfl,.load (cs:=evRow k a b n m it) rfl .here rfl rfl rfl⟩
   ·exact⟨_,rfl,.load (cs:=evRow k a b n m it) rfl (.app .here) rfl rfl rfl⟩
  ·rw[List.mem_singleton.1 ho2]
   refine⟨λj hj=>(nomatch hj),Nat.zero_le _,acs _,λj _ hj=>?_⟩
   rcases(by have:j<=1:=hj;omega:j=0\/j=1)with rfl|rfl
   ·exact⟨_,rfl,.load rfl (.there<|.there<|.there<|.app hbd) rfl rfl rfl⟩
   ·exact⟨_,rfl,.load rfl (.app<|.there<|.there<|.there<|.app hbd) rfl rfl rfl⟩
theorem abI (hX:BaseX P K F T){o:OD}{i bp:Nat}{k a b n m:Int}{it:ID}{s':SH}{L:List (List AV)}(hu:oY bp (.r false L 14) (.r false (L.set i ({ o with RU:=decide (n=1) }:OD).row) 14) s s')(hr:L[i]?=some o.row) :
  bB P K (F 250) [.ptr (some ⟨bp,i,0⟩),.agg<|evRow k a b n m it] s (λ_ s2=>∃m,s2=m++s'):=by
 refine hX.f250.cF (by simp) ?_
 unfold ads
 refine Wq<|Wa (.box rfl rfl) λb3=>Wn ?_
 refine Wo<|Wv rfl<|Wf rfl<|Wl rfl .here rfl rfl rfl<|Wh rfl rfl (bb _ _)<|Wr (.nilchk rfl rfl)<|Wf rfl<|Ww<|Wt rfl rfl rfl (.there hu) hr rfl<|Wn<|Wm .nil ⟨[_],rfl⟩
theorem aa9 (hX:BaseX P K F T){o:OD}{i bp:Nat}{k a b n m:Int}{it:ID}{s':SH}{L:List (List AV)}(hu:oY bp (.r false L 14) (.r false (L.set i ({ o with VK:=decide (n=1) }:OD).row) 14) s s')(hr:L[i]?=some o.row) :
  bB P K (F 251) [.ptr (some ⟨bp,i,0⟩),.agg<|evRow k a b n m it] s (λ_ s2=>∃m,s2=m++s'):=by
 refine hX.f251.cF (by simp) ?_
 unfold adt
 refine Wq<|Wa (.box rfl rfl) λb3=>Wn ?_
 refine Wo<|Wv rfl<|Wf rfl<|Wl rfl .here rfl rfl rfl<|Wh rfl rfl (bb _ _)<|Wr (.nilchk rfl rfl)<|Wf rfl<|Ww<|Wt rfl rfl rfl (.there hu) hr rfl<|Wn<|Wm .nil ⟨[_],rfl⟩
theorem aaE (hX:BaseX P K F T){o:OD}{i bp:Nat}{k a b n m:Int}{it:ID}{s':SH}{L:List (List AV)}(hu:oY bp (.r false L 14) (.r false (L.set i ({ o with NP:=b }:OD).row) 14) s s')(hr:L[i]?=some o.row) :
  bB P K (F 257) [.ptr (some ⟨bp,i,0⟩),.agg<|evRow k a b n m it] s (λ_ s2=>∃m,s2=m++s'):=by
 refine hX.f257.cF (by simp) ?_
 unfold adu
 refine Wq<|Wa (.box rfl rfl) λb3=>Wn ?_
 refine Wo<|Wv rfl<|Wf rfl<|Wl rfl .here rfl rfl rfl<|Wr (.nilchk rfl rfl)<|Wf rfl<|Ww<|Wt rfl rfl rfl (.there hu) hr rfl<|Wn<|Wm .nil ⟨[_],rfl⟩
theorem acG {k g bw:Nat}{m:SH}{v:AV}(hk:k=3/\g=250\/k=4/\g=251\/k=12/\g=257)(hv:RV F bw m k v):iP F bw m v false true true 248 g:=by
 rcases hk with⟨rfl,rfl⟩|⟨rfl,rfl⟩|⟨rfl,rfl⟩<;>exact hv
theorem aar (hB:Base P K F T)(hX:BaseX P K F T){k i:Nat}{g:Nat}{o o':OD}{a b n m:Int}{it:ID}{d:SD}(hd:d.Small)(he:d.kQ)(hk:k=3/\g=250\/k=4/\g=251\/k=12/\g=257)(hi:d.find a=some i)(ho:d.ob[i]?=some o)(hz:o.nq=2)
  (hin:∀{s s':SH}{bp:Nat}{L:List (List AV)},oY bp (.r false L 14) (.r false (L.set i o'.row) 14) s s'->L[i]?=some o.row->bB P K (F g) [.ptr (some ⟨bp,i,0⟩),.agg<|evRow k a b n m it] s (λ_ s2=>∃m,s2=m++s'))
  (lm:∀s,bB P K (F 201) [.agg (evRow k a b n m it)] s<|λv s'=>v=iv 0/\s'=s) :
  Ap P K F k a b n m it d { d with ob:=d.ob.set i o' }:=
 yH (k:=k) hB hd lm (FB hB (by rcases hk with⟨rfl,_⟩ | ⟨rfl,_⟩ | ⟨rfl,_⟩<;>simp)) (λ{_ _ _ _ v} hv hW=>by
  obtain⟨bd,bx,rfl,_⟩:=acG hk hv
  exact aco hB hW hd he (by rcases hk with⟨rfl,_⟩ | ⟨rfl,_⟩ | ⟨rfl,_⟩<;>decide) (by rcases hk with⟨rfl,_⟩ | ⟨rfl,_⟩ | ⟨rfl,_⟩<;>decide) (by rcases hk with⟨rfl,_⟩ | ⟨rfl,_⟩ | ⟨rfl,_⟩<;>decide) (by rcases hk with⟨rfl,_⟩ | ⟨rfl,_⟩ | ⟨rfl,_⟩<;>decide) hi ho hz) (λ{_ _ _ _ _ _ fn} hv hW=>by
  obtain⟨bd,bx,hv,h1,h2⟩:=acG hk hv
  cases hv
  exact abQ hB hX hW h1 h2 hd hi ho hin)
theorem WP.rf2 {g:Operand}{p lo D nt0:Nat}{l0:Sl}{ps0:List Nat}{aef adA:Code}{st0:LoopState}{adV:Option AX}{Bu sG:AC}{f:FuncId}{first cap:List AV}(hg:cr l g=some (.func f first cap))(hlo:Has lo (.lp l0 nt0 ps0 aef adA st0 adV D) s)
  (h:∀(asg body:Code),cc P nt asg=Bu->cc P nt body=sG->∀lb,bB P K f (first++(.yield lb::cap)) ((lb,.lp l nt [p] asg body .ready none D)::s) (λ_ s'=>∃l' st pend t',s'=(lb,.lp l' nt [p] asg body st pend D)::t'/\st≠.busy /\
   (match pend with | none=>Qn l ds ((lb,.gone)::t') | some .normal=>Qn l ds ((lb,.gone)::t') | some (.exit i)=>Qe i l ds ((lb,.gone)::t') | some .ret=>Qr l ds ((lb,.gone)::t')))) :
  WP P K (some lo) nt (.rf g [p] Bu sG) l ds s Qn Qe Qr:=by
 intro c0 hc H0 e H he hH
 cases c0 with
 | rangeFunc g0 ps asg body=>
  simp only[cc,AC.rf.injEq]at hc
  obtain⟨rfl,hps,ha,hb⟩:=hc
  obtain⟨_,e0,hg0,_⟩:=hH.has hlo
  have h2:=hH.alloc (o':=.lp l nt [p] asg body .ready none D) (o:=.loop e nt [p] asg body .ready none D) ⟨e,rfl,he⟩
  obtain⟨v,s',H',⟨n,r1⟩,k2,l',st,pend,t',rfl,hst,k3⟩:=h asg body ha hb _ H0 _ h2
  obtain⟨_,e4,hg4,_⟩:=k2.has .here
  have run:∀x,(match pend with | none=>AX.normal | some y=>y)=x->bt P K (some lo) nt (.rangeFunc g0 ps asg body) e ds H (.mk x e ds<|H'.del H.next):=by
   rintro x rfl
   refine⟨n+1,?_⟩
   rw[bO]
   have aaC:(ev P K n).call f (bI first<|.yield H.next::cap) (H.new<|.loop e nt [p] asg body .ready none D).2=some (v,H'):=by rw[aN];exact r1
   unfold stepCode
   simp only[aG he hg,hps,hg0]
   show(match (ev P K n).call f (bI first<|.yield H.next::cap) (H.new<|.loop e nt [p] asg body .ready none D).2 with
    | some (_,H3)=>(match H3.get H.next with
     | some (.loop _ _ _ _ _ st pend _)=>(match st with
      | .busy=>none
      | _=>match pend with
       | none=>some<|CR.mk .normal e ds<|H3.del H.next
       | some x=>some (.mk x e ds (H3.del H.next)))
     | _=>none)
    | none=>none)=_
   simp only[aaC,hg4]
   cases st with
   | busy=>exact absurd rfl hst
   | ready=>cases pend<;>rfl
   | done=>cases pend<;>rfl
   | exhausted=>cases pend<;>rfl
  have k5:=k2.gone
  cases pend with
  | none=>exact⟨_,_,_,_,_,_,run _ rfl,he,k5,k3⟩
  | some x=>
   cases x with
   | normal=>exact⟨_,_,_,_,_,_,run _ rfl,he,k5,k3⟩
   | exit i=>exact⟨_,_,_,_,_,_,run _ rfl,he,k5,k3⟩
   | ret=>exact⟨_,_,_,_,_,_,run _ rfl,he,k5,k3⟩
 | region i ops d=>exact(db hc).elim
 | _=>simp[cc]at hc
structure BT where
 o:OD
 c:CH
@[reducible] def BT.row (x:BT):List AV:=[iv x.o.id,iv x.o.gE,iv x.o.owner,iv x.o.aQ,iv x.o.nq,.bool x.o.RU,.bool x.o.VK,.bool x.o.token,iv x.o.Y6,iv x.o.stamp,iv x.o.NP,iv x.o.block,.bool x.o.J9,nilS,iv x.c.p,iv x.c.t,iv x.c.k]
def ij (g:ED->CH->CH)(d:SD)(C:List CD)(l:List Int):List BT:=l.filterMap λid=>match d.obj id,uY g d C id with | some o,some c=>some ⟨o,c⟩ | _,_=>none
structure acI (P:Program)(K:Orc)(bl:Nat)(EL:List (List AV))(d:SD)(y:AV)(J:List BT->SH->Prop):Prop where
 call:∀L t s(x:BT)m,L.length<=400->J L t->aH bl EL d (m++t) s->c6 P K y [.agg x.row] s (λv s'=>v=.bool true/\∃t',aH bl EL d (m++t') s'/\J (L++[x]) t')
def adl (P:Program)(K:Orc)(bl:Nat)(EL:List (List AV))(d:SD)(f:FuncId)(cap:List AV)(t:SH)(out:List BT):Prop:=
 ∀y J t' s',acI P K bl EL d y J->(∀L t2,J L t2->∀q∈t,q∈t2)->J [] t'->aH bl EL d t' s'->bB P K f (y::cap) s' (λ_ s''=>∃t'',aH bl EL d t'' s''/\J out t'')
variable {bf:Nat}{bl:Nat}{aZ:AV}{bE:AV}{c0:Int}{c1:Int}{c2:Int}{c3:Int}{c4:Int}{EL:List (List AV)}{d:SD}{t:SH}{tF:TypeId}{g:ED->CH->CH}{C:List CD}{tl:AD->List Nat}
theorem aaa (hE:GE P K F T tF g C d)(hX:BaseY P K F T)(hf:Has bf (.r false [bu bl aZ c0 c1 c2 c3 c4 bE] 8) t)(eQ:cI t aZ C){b1:Nat}(vn:Has b1 (.r false [[gm tF bf]] 1) t)(hn4:d.fi.length<=400)(hall:∀id∈d.fi,∃o,d.obj id=some o) :
  adl P K bl EL d (F 124) [.ptr (some ⟨b1,0,0⟩)] t (ij g d C d.fi):=by
 intro y J t' s' hY hJ h0 hs
 have hn:d.fi.length<=1000:=by have:=hE.hd.n1;omega
 have hfJ:∀{L t2},J L t2->Has bf (.r false [bu bl aZ c0 c1 c2 c3 c4 bE] 8) t2:=λh=>.ce<|hJ _ _ h _ hf.mem
 have hcJ:∀{L t2},J L t2->cI t2 aZ C:=λh=>eQ.mono λq hq=>hJ _ _ h q hq
 have hbJ:∀{L t2},J L t2->Has b1 (.r false [[gm tF bf]] 1) t2:=λh=>.ce<|hJ _ _ h _ vn.mem
 refine hX.f124.cF (by simp) ?_
 unfold adn
 refine Ws<|Wq<|Wl rfl (hs.mem<|hbJ h0) rfl rfl rfl<|Wh (b:=false) rfl rfl rfl<|Wn<|Wd rfl fS<|λ_=>Wi ?_
 refine Wq<|Wl rfl (hs.mem<|hbJ h0) rfl rfl rfl<|Ww<|WS.invoke (vs:=[iv 2,iv 0]) rfl hE.hM.nq rfl (Gf hE.hB hE.hC hs hE.hd<|hfJ h0) ?_
 rintro w12 s4 ⟨m,pM,hS⟩
 have YH:lenOf w12=some d.fi.length:=by rw[hS.lenOf,gq]
 refine Wr (.lenS rfl YH)<|Wv rfl<|Wn<|Wb ?_
 refine Wp (λk l ds s'=>ds=[]/\∃q t2,k=d.fi.length-q/\q<=d.fi.length/\aH bl EL d (m++t2) s'/\J (ij g d C<|d.fi.take q) t2/\∀x w,lk [(0,y),(1,.ptr<|some ⟨b1,0,0⟩),(12,w12),(13,iv<|.ofNat d.fi.length),(14,iv<|.ofNat q)] x=some w->lk l x=some w) ?_ (n:=d.fi.length-0)
  ⟨rfl,0,t',rfl,Nat.zero_le _,pM,h0,dM rfl⟩
 rintro k l ds s5 ⟨rfl,q,t2,rfl,hq,tn,hJ2,hl⟩
 refine Wg hl (λ_ _ h=>h) ?_
 refine Wq<|Wj rfl rfl (eT _ _)<|Wn<|Ws<|Wd rfl (λht=>Wi ?_)<|λht=>Wx ?_
 rotate_left
 ·have hge:¬q<d.fi.length:=λh=>of_decide_eq_false ht (Int.ofNat_lt.2 h)
  rw[List.take_of_length_le (by omega)]at hJ2
  exact Wm .nil ⟨t2,tn.fb,hJ2⟩
 have hlt:q<d.fi.length:=Int.ofNat_lt.1<|of_decide_eq_true ht
 have hx:d.fi[q]?=some d.fi[q]:=List.getElem?_eq_getElem hlt
 have KP:d.fi[q]∈d.fi:=List.getElem_mem _
 generalize d.fi[q]=id at hx KP
 obtain⟨o,ho⟩:=hall id KP
 have hlen:(ij g d C<|d.fi.take q).length<=q:=Nat.le_trans (List.length_filterMap_le ..) (by rw[List.length_take];omega)
 have mN:ij g d C (d.fi.take<|q+1)=ij g d C (d.fi.take q)++(match uY g d C id with | some c=>[⟨o,c⟩] | none=>[]):=by
  unfold ij
  rw[List.take_add_one,hx,List.filterMap_append]
  congr 1
  show [id].filterMap _=_
  rw[List.filterMap_cons,ho]
  cases uY g d C id<;>rfl
 obtain⟨ba,ra,na,ca,J5,Sp,Ma,e4,hba,me,hra⟩:=hS.at (i:=q) (by rw[gq];exact hlt)
 have hrow:Ma[ra+q]?=some [iv id]:=by rw[hra,nR,List.getElem?_map,hx];rfl
 refine Ws<|Wb<|Wq<|Wr (.iaddrS (congrArg some e4) rfl me<|by decide)<|Wl rfl (tn.mem<|.left hba) hrow rfl rfl<|Wv rfl<|Wn ?_
 refine Wq<|Wl rfl (tn.mem<|.app<|hbJ hJ2) rfl rfl rfl<|Wv rfl<|Ww<|WS.invoke (vs:=[iv id]) rfl hE.hM.obj rfl (Qq hE.hB hE.hC tn hE.hd<|.app<|hfJ hJ2) ?_
 rintro w s5b ⟨hv,aeJ⟩
 rw[ho]at hv
 subst hv
 refine Wv rfl<|Wr (.extract rfl rfl)<|Wr (.extract rfl rfl)<|Wa (.alloc rfl) λb5=>Ww<|Wt (s':=(b5,.r false [o.row] 14)::s5b) rfl rfl rfl .here rfl rfl<|Wv rfl<|Wn ?_
 have KL:aH bl EL d ((b5,.r false [o.row] 14)::(m++t2)) ((b5,.r false [o.row] 14)::s5b):=aeJ.cons
 refine Wq<|Wl rfl (KL.mem<|.there<|.app<|hbJ hJ2) rfl rfl rfl<|Wv rfl<|Ww<|WS.invoke (vs:=[iv id]) rfl hE.hM.chars rfl (pE hE.hB hE.hC hE.hT KL hE.hd (.there<|.app<|hfJ hJ2) ((hcJ hJ2).mono λp hp=>by simp[hp]) hE.hO) ?_
 rintro w s7 ⟨hv,hs7⟩
 cases vo:uY g d C id with
 | none=>
  rw[vo]at hv mN
  subst hv
  refine Wv rfl<|Wr (.extract rfl rfl)<|Wr (.extract rfl rfl)<|Wa (.alloc rfl) λb7=>Ww<|Wt (s':=(b7,.r false [(⟨0,0,0⟩:CH).row] 3)::s7) rfl rfl rfl .here rfl rfl<|Wv rfl<|Wn ?_
  refine Wq<|Wv rfl<|Wv rfl<|Wk rfl rfl<|Wk rfl rfl<|Wk rfl rfl<|Wk rfl rfl<|Wk rfl rfl<|Wk rfl rfl<|Wr (.bj rfl rfl)<|Wn<|Wd rfl fS<|λ_=>Wi ?_
  refine Wo<|Wj rfl rfl (bM<|by omega)<|Wv rfl<|Wn ?_
  exact⟨d.fi.length-(q+1),by omega,rfl,q+1,t2,rfl,hlt,aH.bK (m:=[_])<|aH.fb (x:=[_]) hs7,by rw[mN,List.append_nil];exact hJ2,dM rfl⟩
 | some c=>
  rw[vo]at hv mN
  subst hv
  refine Wv rfl<|Wr (.extract rfl rfl)<|Wr (.extract rfl rfl)<|Wa (.alloc rfl) λb7=>Ww<|Wt (s':=(b7,.r false [c.row] 3)::s7) rfl rfl rfl .here rfl rfl<|Wv rfl<|Wn ?_
  have hs8:aH bl EL d (((b7,.r false [c.row] 3)::(b5,.r false [o.row] 14)::m)++t2) ((b7,.r false [c.row] 3)::s7):=hs7.cons
  refine Wq<|Wv rfl<|Wv rfl<|Wy rfl rfl<|Wv rfl<|Wy rfl rfl<|Wl (cs:=o.row) rfl (hs8.mem<|.there .here) rfl rfl rfl<|Wy rfl rfl<|Wl (cs:=c.row) rfl .here rfl rfl rfl<|Wy rfl rfl<|Wr (.build (cs:=(⟨o,c⟩:BT).row) rfl rfl)<|Wy rfl rfl<|Ww<|WS.call (vs:=[.agg (⟨o,c⟩:BT).row]) rfl rfl (hY.call _ _ _ _ ((b7,.r false [c.row] 3)::(b5,.r false [o.row] 14)::m) (by omega) hJ2 hs8) ?_
  rintro w9 s9 ⟨rfl,t9,hs9,hJ9⟩
  refine Wy rfl rfl<|Wr (.un (v:=.bool false) rfl rfl)<|Wr (.cV rfl rfl)<|Wn<|Wd rfl fS<|λ_=>Wi ?_
  refine Wo<|Wj rfl rfl (bM<|by omega)<|Wv rfl<|Wn ?_
  exact⟨d.fi.length-(q+1),by omega,rfl,q+1,t9,rfl,hlt,aH.fb (x:=[_,_]) hs9,by rw[mN];exact hJ9,dM rfl⟩
theorem aah (hX:BaseY P K F T){v:AV}(hv:partCells 1 v=some [v]):bB P K (F 79) [v] s (λw s'=>∃b,w=.func (F 124) [] [.ptr (some ⟨b,0,0⟩)]/\s'=(b,.r false [[v]] 1)::s):=by
 refine hX.f79.cF (by simp) ?_
 unfold a79
 refine Wq<|Wa (.box rfl hv) λb1=>Wv rfl<|Wn ?_
 exact Wq<|Wr (.mkfn rfl rfl)<|Wv rfl<|Wn<|We<|Wm (.tmp rfl .nil) ⟨b1,rfl,rfl⟩
theorem aaP (hX:BaseY P K F T){x:BT}:bB P K (F 80) [.agg x.row,iv 1] s (λw s'=>w=.bool (!x6 1 x.c.k)/\∃m,s'=m++s):=by
 refine hX.f80.cF (by simp) ?_
 unfold a80
 obtain⟨n,hn1,hn2⟩:=acL x.c.k 1
 have hn0:eqBy 20 .pi (iv n) (iv 0)=some (x6 1 x.c.k):=by rw[bb,<- hn2]
 refine Wq<|Wa (.box (cs:=x.row) rfl rfl) λb2=>Wv rfl<|Wn ?_
 refine Wq<|Wf rfl<|Wf rfl<|Wl rfl .here rfl rfl rfl<|Wv rfl<|Wj rfl rfl hn1<|Wh rfl rfl hn0<|Wv rfl<|Wn<|We<|Wm (.tmp rfl .nil) ?_
 exact⟨rfl,[_],rfl⟩
@[reducible] def ab7:List AV:=[(.int .i64 (.ofNat 0)),(.int .i64 (.ofNat 0)),(.int .i64 (.ofNat 0)),(.int .i64 (.ofNat 0)),(.int .i64 (.ofNat 0)),(.bool false),(.bool false),(.bool false),(.int .i64 (.ofNat 0)),(.int .i64 (.ofNat 0)),(.int .i64 (.ofNat 0)),(.int .i64 (.ofNat 0)),(.bool false),(.slice none 0 0 false 0),(.int .i64 (.ofNat 0)),(.int .i64 (.ofNat 0)),(.int .i64 (.ofNat 0))]
def acJ:AC:=(.ops [zo 7 (.alloc 17 ab7),zn (.store 17 7 29)])
def acK (F:Nat->FuncId):AC:=(.block 3 (oN [zf 30 0 7,zf 31 10 30,zl 32 31,zl 33 3,zo 34 (.arith .add 33 (zc 1)),zo 35 (.eql false .pi 32 34),zm 36 35,zg 37 (.load true 17 6) 36 true,zg 38 (.call (.func (F 80)) [37,(zc 1)]) 36 true,zg 39 (.mv 38) 36 true,zg 40 (.load true 17 7) 39 false,zg 41 (.call (.func (F 80)) [40,(zc 1)]) 39 false,zg 42 (.un .not 41) 39 false,zg 43 (.pick 39 (.const (.bool true)) 42) 36 true,zo 44 (.pick 36 43 (.const (.bool false)))] (.cond 44 (.ops [zl 45 5,zf 46 0 6,zf 47 0 46,zl 48 47,zf 49 0 7,zf 50 0 49,zl 51 50,zo 52 (.build [(za 0),(za 0),(za 0)] [⟨0,⟨1,(zc 10)⟩⟩,⟨1,⟨1,48⟩⟩,⟨2,⟨1,51⟩⟩]),zo 53 (.bslice 3 1 [(za 0),(za 0),(za 0)] [⟨0,52⟩]),zo 54 (.append 3 24 45 53),zn (.store 1 5 54)]) .skip)))
def adw:AC:=(.ops [zo 6 (.alloc 17 ab7),zn (.store 17 6 10)])
def adx (F:Nat->FuncId):AC:=(.block 1 (.seq (oN [zf 11 0 6,zf 12 3 11,zl 13 12,zl 14 3,zo 15 (.eql true .pi 13 14),zm 16 15,zg 17 (.faddr 0 6) 16 false,zg 18 (.faddr 5 17) 16 false,zg 19 (.load false 1 18) 16 false,zo 20 (.pick 16 (.const (.bool true)) 19),zm 21 20,zg 22 (.faddr 0 6) 21 false,zg 23 (.faddr 11 22) 21 false,zg 24 (.load false 1 23) 21 false,zg 25 (.eql true .pi 24 (zc 0)) 21 false,zo 26 (.pick 21 (.const (.bool true)) 25)] (.cond 26 (.exit 1) .skip)) (oN [zl 27 2,oF F 28 79 [27]] (.block 2 (.rf 28 [29] acJ (acK F))))))
def aas (p:Nat)(x y:BT):Bool:=decide (y.o.NP=.ofNat (p+1))&&(!x6 1 x.c.k||x6 1 y.c.k)
def s8 (p:Nat)(x:BT)(l:List BT):List OT:=(l.filter (aas p x)).map λy=>⟨10,x.o.id,y.o.id⟩
def rx (p:Nat)(x:BT):Bool:=decide (x.o.aQ=.ofNat p)&&(!x.o.RU&&decide (x.o.block=0))
def ec (p:Nat)(L l:List BT):List OT:=l.flatMap λx=>if rx p x then s8 p x L else []
def aap (b5:Nat)(W:SH)(out:List OT)(t:SH):Prop:=∃lv og j,t.Perm ((b5,.r false [[lv]] 1)::(og++(j++W)))/\GrE 3 lv (otR out) og
theorem aap.sub {b5:Nat}{W:SH}{out:List OT}{t:SH}(h:aap b5 W out t):∀q∈W,q∈t:=by
 obtain⟨lv,og,j,hp,_⟩:=h
 exactλq hq=>hp.mem_iff.2<|by simp[hq]
theorem abu (hX:BaseY P K F T){lb2 lb D b3 b5 b6 p:Nat}{l1 l2:Sl}{asg body x7 qd:Code}{W:SH}{x:BT}{O:List OT}(hO:O.length<=500000)(ha:cc P 56 x7=acJ)(hb:cc P 56 qd=acK F)(hp:p<=1000)
  (e3:lk l2 3=some (.ptr<|some ⟨b3,0,0⟩)) (e5:lk l2 5=some (.ptr<|some ⟨b5,0,0⟩)) (e6:lk l2 6=some (.ptr<|some ⟨b6,0,0⟩)) (hb3:Has b3 (.r false [[iv (.ofNat p)]] 1) W) :
  acI P K bl EL d (.yield lb2) (λL t=>aap b5 ((lb2,.lp l2 56 [29] x7 qd .ready none D)::(lb,.lp l1 56 [10] asg body .busy none D)::(b6,.r false [x.row] 17)::W) (O++s8 p x L) t):=by
 refine⟨λL t s y m hL hJ hs=>?_⟩
 obtain⟨lv,og,j,hpm,hG⟩:=hJ
 obtain⟨u,hu,P1⟩:=hs.split
 refine c6.perm (s:=(lb2,.lp l2 56 [29] x7 qd .ready none D)::(u++(m++((b5,.r false [[lv]] 1)::(og++(j++((lb,.lp l1 56 [10] asg body .busy none D)::(b6,.r false [x.row] 17)::W))))))) (cM λc w h0 h1 h2 hq=>by have:=hq _ _ hu;simp only[h1,h2,hq _ _ hpm]at this |-;omega)<|c6.canon ?_
 refine AU (by omega) ha hb ?_
 unfold acJ acK
 refine Wo<|Wa (.alloc rfl) λb7=>Ww<|Wt (s':=(b7,.r false [y.row] 17)::_) rfl rfl rfl .here rfl rfl<|Wn ⟨(b7,.r false [y.row] 17)::(u++(m++((b5,.r false [[lv]] 1)::(og++(j++((lb,.lp l1 56 [10] asg body .busy none D)::(b6,.r false [x.row] 17)::W)))))),List.Perm.swap ..,?_⟩
 have oZ:(s8 p x L).length<=9000:=by
  unfold s8
  rw[List.length_map]
  exact Nat.le_trans (List.length_filter_le ..)<|by omega
 have hat:eqBy 20 .pi (iv y.o.NP) (iv<|.ofNat<|p+1)=some (decide<|y.o.NP=.ofNat (p+1)):=bb _ _
 have abs:s8 p x (L++[y])=s8 p x L++if aas p x y then [⟨10,x.o.id,y.o.id⟩]else []:=by
  unfold s8
  rw[List.filter_append,List.map_append]
  congr 1
  rw[List.filter_cons]
  cases aas p x y<;>rfl
 -- it is no option
 have no:∀(mm:SH),aas p x y=false->∃t3,(mm++((lb2,.lp l2 56 [29] x7 qd .busy none D)::(b7,.r false [y.row] 17)::(u++(m++((b5,.r false [[lv]] 1)::(og++(j++((lb,.lp l1 56 [10] asg body .busy none D)::(b6,.r false [x.row] 17)::W)))))))).Perm ((lb2,.lp l2 56 [29] x7 qd .busy none D)::t3)/\∃s'',((lb2,.lp l2 56 [29] x7 qd .ready none D)::t3).Perm s''/\((AV.bool true)=.bool true/\∃t',aH bl EL d (m++t') s''/\aap b5 ((lb2,.lp l2 56 [29] x7 qd .ready none D)::(lb,.lp l1 56 [10] asg body .busy none D)::(b6,.r false [x.row] 17)::W) (O++s8 p x (L++[y])) t'):=by
  intro mm hno
  rw[abs,hno]
  refine⟨mm++((b7,.r false [y.row] 17)::(u++(m++((b5,.r false [[lv]] 1)::(og++(j++((lb,.lp l1 56 [10] asg body .busy none D)::(b6,.r false [x.row] 17)::W))))))),cM λc w h0 h1 h2 hq=>by simp only[h1,h2];omega,u++(m++((b5,.r false [[lv]] 1)::(og++((mm++((b7,.r false [y.row] 17)::j))++((lb2,.lp l2 56 [29] x7 qd .ready none D)::(lb,.lp l1 56 [10] asg body .busy none D)::(b6,.r false [x.row] 17)::W))))),cM λc w h0 h1 h2 hq=>by simp only[h1,h2];omega,rfl,_,P1 _,lv,og,mm++((b7,.r false [y.row] 17)::j),.refl _,?_⟩
  rw[show O++(s8 p x L++if false=true then [⟨10,x.o.id,y.o.id⟩]else [])=O++s8 p x L by simp]
  exact hG
 -- it is one
 have yes:∀{Qe:Nat->Po}{Qr:Po}(mm:SH)(l9:Sl)(ds9:List aD),aas p x y=true->(∀i v,lk [(5,.ptr<|some ⟨b5,0,0⟩),(6,.ptr<|some ⟨b6,0,0⟩),(7,.ptr<|some ⟨b7,0,0⟩)] i=some v->lk l9 i=some v) ->
   WP P K (some lb2) 56 (.ops [zl 45 5,zf 46 0 6,zf 47 0 46,zl 48 47,zf 49 0 7,zf 50 0 49,zl 51 50,zo 52<|.build [(za 0),(za 0),(za 0)] [⟨0,⟨1,(zc 10)⟩⟩,⟨1,⟨1,48⟩⟩,⟨2,⟨1,51⟩⟩],zo 53<|.bslice 3 1 [(za 0),(za 0),(za 0)] [⟨0,52⟩],zo 54<|.append 3 24 45 53,zn<|.store 1 5 54]) l9 ds9 (mm++((lb2,.lp l2 56 [29] x7 qd .busy none D)::(b7,.r false [y.row] 17)::(u++(m++((b5,.r false [[lv]] 1)::(og++(j++((lb,.lp l1 56 [10] asg body .busy none D)::(b6,.r false [x.row] 17)::W))))))))
    (λ_ _ s3=>∃t3,s3.Perm ((lb2,.lp l2 56 [29] x7 qd .busy none D)::t3)/\∃s'',((lb2,.lp l2 56 [29] x7 qd .ready none D)::t3).Perm s''/\((AV.bool true)=.bool true/\∃t',aH bl EL d (m++t') s''/\aap b5 ((lb2,.lp l2 56 [29] x7 qd .ready none D)::(lb,.lp l1 56 [10] asg body .busy none D)::(b6,.r false [x.row] 17)::W) (O++s8 p x (L++[y])) t')) Qe Qr:=by
  intro Qe Qr mm l9 ds9 hyes hl9
  rw[abs,hyes]
  refine Wg hl9 (λ_ _ h=>h) ?_
  refine Wo<|Wl (v:=lv) rfl (.app<|.there<|.there<|.app<|.app .here) rfl rfl rfl<|Wf rfl<|Wf rfl<|Wl rfl (.app<|.there<|.there<|.app<|.app<|.there<|.app<|.app<|.there .here) rfl rfl rfl<|Wf rfl<|Wf rfl<|Wl rfl (.app<|.there .here) rfl rfl rfl<|Wr (.build (cs:=(⟨10,x.o.id,y.o.id⟩:OT).row) rfl rfl)<|Wa (.bslice (L:=[(⟨10,x.o.id,y.o.id⟩:OT).row]) rfl rfl) λR6=>?_
  refine Ww<|WS.pre (s':=((R6,.r false [(⟨10,x.o.id,y.o.id⟩:OT).row] 3)::(mm++((lb2,.lp l2 56 [29] x7 qd .busy none D)::(b7,.r false [y.row] 17)::(b5,.r false [[lv]] 1)::(u++m))))++(og++(j++((lb,.lp l1 56 [10] asg body .busy none D)::(b6,.r false [x.row] 17)::W)))) (cM λc w h0 h1 h2 hq=>by simp only[h1,h2];omega)<|WS.aaW (xv:=.slice (some ⟨R6,0,0⟩) 1 1 false 3) rfl hG rfl (Src.all (L:=[(⟨10,x.o.id,y.o.id⟩:OT).row]) .here) (by decide) (by simp only[otR,List.length_map,List.length_append,List.length_cons,List.length_nil];omega) (by decide) λnw A9 jk xB=>?_
  refine Ww<|Wt (s':=A9++(((R6,.r false [(⟨10,x.o.id,y.o.id⟩:OT).row] 3)::(mm++((lb2,.lp l2 56 [29] x7 qd .busy none D)::(b7,.r false [y.row] 17)::(b5,.r false [[nw]] 1)::(u++m))))++(jk++(j++((lb,.lp l1 56 [10] asg body .busy none D)::(b6,.r false [x.row] 17)::W))))) (row':=[nw]) rfl rfl xB.out.src.part (.app<|.left<|.there<|.app<|.there<|.there .here) rfl rfl<|Wn ?_
  refine⟨A9++(((R6,.r false [(⟨10,x.o.id,y.o.id⟩:OT).row] 3)::(mm++((b7,.r false [y.row] 17)::(b5,.r false [[nw]] 1)::(u++m))))++(jk++(j++((lb,.lp l1 56 [10] asg body .busy none D)::(b6,.r false [x.row] 17)::W)))),cM λc w h0 h1 h2 hq=>by simp only[h1,h2];omega,u++(m++((b5,.r false [[nw]] 1)::(A9++(((R6,.r false [(⟨10,x.o.id,y.o.id⟩:OT).row] 3)::(mm++((b7,.r false [y.row] 17)::(jk++j))))++((lb2,.lp l2 56 [29] x7 qd .ready none D)::(lb,.lp l1 56 [10] asg body .busy none D)::(b6,.r false [x.row] 17)::W))))),cM λc w h0 h1 h2 hq=>by simp only[h1,h2];omega,rfl,_,P1 _,nw,A9,(R6,.r false [(⟨10,x.o.id,y.o.id⟩:OT).row] 3)::(mm++((b7,.r false [y.row] 17)::(jk++j))),.refl _,?_⟩
  rw[show O++(s8 p x L++if true=true then [⟨10,x.o.id,y.o.id⟩]else [])=(O++s8 p x L)++[⟨10,x.o.id,y.o.id⟩] by simp]
  simpa[otR]using xB
 have hbb:aas p x y=(decide (y.o.NP=.ofNat (p+1))&&(!x6 1 x.c.k||x6 1 y.c.k)):=rfl
 refine Wg (l':=[(3,.ptr<|some ⟨b3,0,0⟩),(5,.ptr<|some ⟨b5,0,0⟩),(6,.ptr<|some ⟨b6,0,0⟩),(7,.ptr<|some ⟨b7,0,0⟩)]) (aa e3<|aa e5<|aa e6<|dM rfl) (λ_ _ h=>h) ?_
 refine Wb<|Wq<|Wf rfl<|Wf rfl<|Wl rfl (.there .here) rfl rfl rfl<|Wl rfl (.there<|.there<|.app<|.app<|.there<|.app<|.app<|.there<|.there hb3) rfl rfl rfl<|Wj rfl rfl (bM<|by omega)<|Wh rfl rfl hat<|Wv rfl ?_
 cases acU:decide (y.o.NP=.ofNat (p+1)) with
 | false=>
  rw[acU]at hbb hat
  refine Wk rfl rfl<|Wk rfl rfl<|Wk rfl rfl<|Wu rfl<|Wu rfl<|Wu rfl<|Wk rfl rfl<|Wr (.bj rfl rfl)<|Wn<|Wd rfl fS<|λ_=>Wi<|no [] hbb
 | true=>
  rw[acU,Bool.true_and]at hbb
  rw[acU]at hat
  refine Wy rfl rfl<|Wl (cs:=x.row) rfl (.there<|.there<|.app<|.app<|.there<|.app<|.app<|.there .here) rfl rfl rfl<|Wy rfl rfl<|Ww<|Wz [.agg x.row,iv 1] rfl rfl (aaP hX) ?_
  rintro _ _ ⟨rfl,m1,rfl⟩
  cases hfx:x6 1 x.c.k with
  | false=>
   rw[hfx]at hbb
   refine Wy rfl rfl<|Wv rfl<|Wk rfl rfl<|Wk rfl rfl<|Wk rfl rfl<|Wy rfl rfl<|Wr (.cV rfl rfl)<|Wr (.cV rfl rfl)<|Wn<|Wd rfl (λ_=>?_) Dz
   refine yes m1 _ _ hbb ?_
   exact dM rfl
  | true=>
   rw[hfx]at hbb
   refine Wy rfl rfl<|Wv rfl<|Wy rfl rfl<|Wl (cs:=y.row) rfl (.app<|.there .here) rfl rfl rfl<|Wy rfl rfl<|Ww<|Wz [.agg y.row,iv 1] rfl rfl (aaP hX) ?_
   rintro _ _ ⟨rfl,m2,rfl⟩
   cases hfy:x6 1 y.c.k with
   | false=>
    rw[hfy]at hbb
    refine Wy rfl rfl<|Wr (.un rfl rfl)<|Wy rfl rfl<|Wr (.bj rfl rfl)<|Wr (.cV rfl rfl)<|Wn<|Wd rfl fS<|λ_=>Wi ?_
    have:=no (m2++m1) hbb
    rw[List.append_assoc]at this
    exact this
   | true=>
    rw[hfy]at hbb
    refine Wy rfl rfl<|Wr (.un rfl rfl)<|Wy rfl rfl<|Wr (.bj rfl rfl)<|Wr (.cV rfl rfl)<|Wn<|Wd rfl (λ_=>?_) Dz
    rw[<- List.append_assoc]
    refine yes (m2++m1) _ _ hbb ?_
    exact dM rfl
theorem aaN (p:Nat)(x:BT)(l:List BT):(s8 p x l).length<=l.length:=by
 unfold s8
 rw[List.length_map]
 exact List.length_filter_le ..
theorem D1 (p n:Nat){L:List BT}(hL:L.length<=n):∀l:List BT,(ec p L l).length<=l.length*n:=by
 intro l
 induction l with
 | nil=>exact Nat.zero_le _
 | cons x l ih=>
  show(List.flatMap _<|x::l).length<=_
  rw[List.flatMap_cons,List.length_append,List.length_cons,Nat.add_mul,Nat.one_mul,Nat.add_comm]
  refine Nat.add_le_add ih ?_
  split
  ·exact Nat.le_trans (aaN p x L) hL
  ·exact Nat.zero_le _
theorem aaF (p:Nat)(LL L:List BT)(x:BT):ec p LL (L++[x])=ec p LL L++if rx p x then s8 p x LL else []:=by
 unfold ec
 rw[List.flatMap_append]
 congr 1
 show(if rx p x then s8 p x LL else [])++[]=_
 rw[List.append_nil]
theorem abD (hE:GE P K F T tF g C d)(hX:BaseY P K F T){lb D b2 b3 b5 p:Nat}{l1:Sl}{asg body:Code}{W:SH}(ha:cc P 56 asg=adw)(hb:cc P 56 body=adx F)(hp:p<=1000)(hn4:d.fi.length<=400)(hall:∀id∈d.fi,∃o,d.obj id=some o)
  (e2:lk l1 2=some (.ptr<|some ⟨b2,0,0⟩)) (e3:lk l1 3=some (.ptr<|some ⟨b3,0,0⟩)) (e5:lk l1 5=some (.ptr<|some ⟨b5,0,0⟩)) (zB:Has b2 (.r false [[gm tF bf]] 1) W) (hb3:Has b3 (.r false [[iv (.ofNat p)]] 1) W) (hf:Has bf (.r false [bu bl aZ c0 c1 c2 c3 c4 bE] 8) W) (eQ:cI W aZ C) :
  acI P K bl EL d (.yield lb) (λL t=>aap b5 ((lb,.lp l1 56 [10] asg body .ready none D)::W) (ec p (ij g d C d.fi) L) t):=by
 refine⟨λL t s x m hL hJ hs=>?_⟩
 have hLL:(ij g d C d.fi).length<=400:=Nat.le_trans (List.length_filterMap_le ..) hn4
 obtain⟨lv,og,j,hpm,hG⟩:=hJ
 obtain⟨u,hu,P1⟩:=hs.split
 refine c6.perm (s:=(lb,.lp l1 56 [10] asg body .ready none D)::(u++(m++((b5,.r false [[lv]] 1)::(og++(j++W)))))) (cM λc w h0 h1 h2 hq=>by have:=hq _ _ hu;simp only[h1,h2,hq _ _ hpm]at this |-;omega)<|c6.canon ?_
 refine AU (by omega) ha hb ?_
 unfold adw adx
 refine Wo<|Wa (.alloc rfl) λb6=>Ww<|Wt (s':=(b6,.r false [x.row] 17)::_) rfl rfl rfl .here rfl rfl<|Wn ⟨(b6,.r false [x.row] 17)::(u++(m++((b5,.r false [[lv]] 1)::(og++(j++W))))),List.Perm.swap ..,?_⟩
 have abs:=aaF p (ij g d C d.fi) L x
 have hOl:(ec p (ij g d C d.fi) L).length<=500000:=by
  have h1:=D1 p 400 hLL L
  have h2:L.length*400<=400*400:=Nat.mul_le_mul_right 400 hL
  omega
 generalize aeo:ij g d C d.fi=LL at abs hLL hOl hG |-
 have no:rx p x=false->∃t3,((lb,.lp l1 56 [10] asg body .busy none D)::(b6,.r false [x.row] 17)::(u++(m++((b5,.r false [[lv]] 1)::(og++(j++W)))))).Perm ((lb,.lp l1 56 [10] asg body .busy none D)::t3)/\∃s'',((lb,.lp l1 56 [10] asg body .ready none D)::t3).Perm s''/\((AV.bool true)=.bool true/\∃t',aH bl EL d (m++t') s''/\aap b5 ((lb,.lp l1 56 [10] asg body .ready none D)::W) (ec p LL<|L++[x]) t'):=by
  intro hno
  rw[abs,hno]
  refine⟨(b6,.r false [x.row] 17)::(u++(m++((b5,.r false [[lv]] 1)::(og++(j++W))))),.refl _,u++(m++((b5,.r false [[lv]] 1)::(og++(((b6,.r false [x.row] 17)::j)++((lb,.lp l1 56 [10] asg body .ready none D)::W))))),cM λc w h0 h1 h2 hq=>by simp only[h1,h2];omega,rfl,_,P1 _,lv,og,(b6,.r false [x.row] 17)::j,.refl _,?_⟩
  rw[show(if false=true then s8 p x LL else [])=[]from rfl,List.append_nil]
  exact hG
 have hmb:rx p x=(decide (x.o.aQ=.ofNat p)&&(!x.o.RU&&decide (x.o.block=0))):=rfl
 have hct:eqBy 20 .pi (iv x.o.aQ) (iv<|.ofNat p)=some (decide<|x.o.aQ=.ofNat p):=bb _ _
 have Cs:eqBy 20 .pi (iv x.o.block) (iv 0)=some (decide<|x.o.block=0):=bb _ _
 refine Wg (l':=[(2,.ptr<|some ⟨b2,0,0⟩),(3,.ptr<|some ⟨b3,0,0⟩),(5,.ptr<|some ⟨b5,0,0⟩),(6,.ptr<|some ⟨b6,0,0⟩)]) (aa e2<|aa e3<|aa e5<|dM rfl) (λ_ _ h=>h) ?_
 refine Wb<|Ws<|Wq<|Wf rfl<|Wf rfl<|Wl rfl (.there .here) rfl rfl rfl<|Wl rfl (.there<|.there<|.app<|.app<|.there<|.app<|.app hb3) rfl rfl rfl<|Wh rfl rfl hct<|Wv rfl ?_
 cases acV:decide (x.o.aQ=.ofNat p) with
 | false=>
  rw[acV]at hmb hct
  refine Wk rfl rfl<|Wk rfl rfl<|Wk rfl rfl<|Wr (.cV rfl rfl)<|Wv rfl<|Wk rfl rfl<|Wk rfl rfl<|Wk rfl rfl<|Wk rfl rfl<|Wr (.cV rfl rfl)<|Wn<|Wd rfl (λ_=>Wx<|no hmb) Dz
 | true=>
  rw[acV,Bool.true_and]at hmb
  rw[acV]at hct
  cases htp:x.o.RU with
  | true=>
   rw[htp]at hmb
   have Se:bV 1 (cu 5 x.row)=some [.bool true]:=by show some [AV.bool x.o.RU]=_;rw[htp]
   refine Wy rfl rfl<|Wf rfl<|Wy rfl rfl<|Wf rfl<|Wy rfl rfl<|Wl rfl (.there .here) rfl Se rfl<|Wr (.bj rfl rfl)<|Wv rfl<|Wk rfl rfl<|Wk rfl rfl<|Wk rfl rfl<|Wk rfl rfl<|Wr (.cV rfl rfl)<|Wn<|Wd rfl (λ_=>Wx<|no hmb) Dz
  | false=>
   rw[htp]at hmb
   have hmb:rx p x=decide (x.o.block=0):=hmb
   have Se:bV 1 (cu 5 x.row)=some [.bool false]:=by show some [AV.bool x.o.RU]=_;rw[htp]
   refine Wy rfl rfl<|Wf rfl<|Wy rfl rfl<|Wf rfl<|Wy rfl rfl<|Wl rfl (.there .here) rfl Se rfl<|Wr (.bj rfl rfl)<|Wv rfl<|Wy rfl rfl<|Wf rfl<|Wy rfl rfl<|Wf rfl<|Wy rfl rfl<|Wl rfl (.there .here) rfl rfl rfl<|Wy rfl rfl<|Wh rfl rfl Cs<|Wr (.bj rfl rfl)<|Wn ?_
   cases hbb:decide (x.o.block=0) with
   | false=>
    rw[hbb]at hmb
    exact Wd rfl (λ_=>Wx<|no hmb) Dz
   | true=>
    rw[hbb]at hmb
    refine Wd rfl fS<|λ_=>Wi ?_
    refine Wq<|Wl rfl (.there<|.there<|.app<|.app<|.there<|.app<|.app zB) rfl rfl rfl<|Ww<|Wz [gm tF bf] rfl rfl (aah hX rfl) ?_
    rintro _ _ ⟨b9,rfl,rfl⟩
    refine Wn<|Wb<|Wg (l':=[(2,.ptr<|some ⟨b2,0,0⟩),(3,.ptr<|some ⟨b3,0,0⟩),(5,.ptr<|some ⟨b5,0,0⟩),(6,.ptr<|some ⟨b6,0,0⟩),(28,.func (F 124) [] [.ptr (some ⟨b9,0,0⟩)])]) (dM rfl) (λ_ _ h=>h) ?_
    generalize ack:[(2,AV.ptr<|some ⟨b2,0,0⟩),(3,AV.ptr<|some ⟨b3,0,0⟩),(5,AV.ptr<|some ⟨b5,0,0⟩),(6,AV.ptr<|some ⟨b6,0,0⟩),(28,AV.func (F 124) [] [.ptr (some ⟨b9,0,0⟩)])]=l2c
    refine WP.rf2 (first:=[]) (cap:=[.ptr (some ⟨b9,0,0⟩)]) (by rw[<- ack];rfl) (.there .here) λx7 qd ha2 aet lb2=>?_
    have hY:=abu (bl:=bl) (EL:=EL) (d:=d) (P:=P) (K:=K) hX (lb2:=lb2) (lb:=lb) (D:=D) (b3:=b3) (b5:=b5) (b6:=b6) (p:=p) (l1:=l1) (l2:=l2c) (asg:=asg) (body:=body) (W:=(b9,.r false [[gm tF bf]] 1)::(m++W)) (x:=x) hOl ha2 aet hp (by rw[<- ack];rfl) (by rw[<- ack];rfl) (by rw[<- ack];rfl)<|.there<|.app hb3
    have hI:=aaa (bl:=bl) (EL:=EL) (t:=(b9,.r false [[gm tF bf]] 1)::(m++W)) hE hX (.there<|.app hf) (eQ.mono λq hq=>by simp[hq]) .here hn4 hall
    rw[aeo]at hI
    have hs0:aH bl EL d ((b5,.r false [[lv]] 1)::(og++(j++((lb2,.lp l2c 56 [29] x7 qd .ready none D)::(lb,.lp l1 56 [10] asg body .busy none D)::(b6,.r false [x.row] 17)::(b9,.r false [[gm tF bf]] 1)::(m++W))))) ((lb2,.lp l2c 56 [29] x7 qd .ready none D)::(b9,.r false [[gm tF bf]] 1)::(lb,.lp l1 56 [10] asg body .busy none D)::(b6,.r false [x.row] 17)::(u++(m++((b5,.r false [[lv]] 1)::(og++(j++W)))))):=(P1 _).perm (cM λc w h0 h1 h2 hq=>by simp only[h1,h2];omega)
    refine bB.canon<|(hI (.yield lb2) _ _ _ hY (λL t2 h q hq=>h.sub q<|.tail _<|.tail _<|.tail _ hq) ⟨lv,og,j,.refl _,by simpa[s8]using hG⟩ hs0).post ?_
    rintro _ s9 ⟨t9,hs9,nw,A9,j2,Gu,xB⟩
    obtain⟨u2,hu2,aa0⟩:=(hs9.tT Gu).split
    refine⟨(lb2,.lp l2c 56 [29] x7 qd .ready none D)::(u2++((b5,.r false [[nw]] 1)::(A9++(j2++((lb,.lp l1 56 [10] asg body .busy none D)::(b6,.r false [x.row] 17)::(b9,.r false [[gm tF bf]] 1)::(m++W)))))),cM (λc w h0 h1 h2 hq=>by have:=hq _ _ hu2;simp only[h1,h2]at this |-;omega),l2c,.ready,none,_,rfl,(λh=>LoopState.noConfusion h),?_⟩
    dsimp only
    rw[abs,hmb]
    refine⟨(lb2,.gone)::(u2++((b5,.r false [[nw]] 1)::(A9++(j2++((b6,.r false [x.row] 17)::(b9,.r false [[gm tF bf]] 1)::(m++W)))))),cM λc w h0 h1 h2 hq=>by simp only[h1,h2];omega,u2++(m++((b5,.r false [[nw]] 1)::(A9++(((lb2,.gone)::(b6,.r false [x.row] 17)::(b9,.r false [[gm tF bf]] 1)::j2)++((lb,.lp l1 56 [10] asg body .ready none D)::W))))),cM λc w h0 h1 h2 hq=>by simp only[h1,h2];omega,rfl,_,aa0 _,nw,A9,(lb2,.gone)::(b6,.r false [x.row] 17)::(b9,.r false [[gm tF bf]] 1)::j2,.refl _,xB⟩
theorem aai (hE:GE P K F T tF g C d)(hX:BaseY P K F T)(hf:Has bf (.r false [bu bl aZ c0 c1 c2 c3 c4 bE] 8) t)(eQ:cI t aZ C)(hs:aH bl EL d t s){p:Nat}(hp:p<=1000)(hn4:d.fi.length<=400)(hall:∀id∈d.fi,∃o,d.obj id=some o) :
  bB P K (F 32) [gm tF bf,iv<|.ofNat p] s (λv s'=>∃m,aH bl EL d (m++t) s'/\Src m 3 v (otR<|ec p (ij g d C d.fi)<|ij g d C d.fi)):=by
 refine hX.f32.ZH (by simp) ?_
 unfold a32
 refine Wq<|Wa (.box rfl rfl) λb2=>Wa (.box rfl rfl) λb3=>Wv rfl<|Wn ?_
 refine Wq<|Wa (.alloc rfl) λb5=>Wn ?_
 refine Ws<|Wq<|Wl rfl (.there<|.there .here) rfl rfl rfl<|Ww<|Wz [gm tF bf] rfl rfl (aah hX rfl) ?_
 rintro _ _ ⟨b8,rfl,rfl⟩
 refine Wn<|Wb<|Wg (l':=[(2,.ptr<|some ⟨b2,0,0⟩),(3,.ptr<|some ⟨b3,0,0⟩),(5,.ptr<|some ⟨b5,0,0⟩),(9,.func (F 124) [] [.ptr (some ⟨b8,0,0⟩)])]) (dM rfl) (λ_ _ h=>h) ?_
 generalize hl1:[(2,AV.ptr<|some ⟨b2,0,0⟩),(3,AV.ptr<|some ⟨b3,0,0⟩),(5,AV.ptr<|some ⟨b5,0,0⟩),(9,AV.func (F 124) [] [.ptr (some ⟨b8,0,0⟩)])]=l1
 refine WP.rf (first:=[]) (cap:=[.ptr (some ⟨b8,0,0⟩)]) (by rw[<- hl1];rfl) λasg body ha hb D lb=>?_
 have hY:=abD (bl:=bl) (EL:=EL) (lb:=lb) (D:=D) (b2:=b2) (b3:=b3) (b5:=b5) (p:=p) (l1:=l1) (asg:=asg) (body:=body) (W:=(D,.ob .deferred)::(b8,.r false [[gm tF bf]] 1)::(b3,.r false [[iv (.ofNat p)]] 1)::(b2,.r false [[gm tF bf]] 1)::t) hE hX ha hb hp hn4 hall (by rw[<- hl1];rfl) (by rw[<- hl1];rfl) (by rw[<- hl1];rfl) (.there<|.there<|.there .here) (.there<|.there .here) (.there<|.there<|.there<|.there hf)<|eQ.mono λq hq=>by simp[hq]
 have hI:=aaa (bl:=bl) (EL:=EL) (t:=(D,.ob .deferred)::(b8,.r false [[gm tF bf]] 1)::(b3,.r false [[iv (.ofNat p)]] 1)::(b2,.r false [[gm tF bf]] 1)::t) hE hX (.there<|.there<|.there<|.there hf) (eQ.mono λq hq=>by simp[hq]) (.there .here) hn4 hall
 generalize ij g d C d.fi=LL at hY hI |-
 obtain⟨u,hu,P1⟩:=hs.split
 have hs0:aH bl EL d ((b5,.r false [[nilS]] 1)::([]++([]++((lb,.lp l1 56 [10] asg body .ready none D)::(D,.ob .deferred)::(b8,.r false [[gm tF bf]] 1)::(b3,.r false [[iv (.ofNat p)]] 1)::(b2,.r false [[gm tF bf]] 1)::t)))) ((lb,.lp l1 56 [10] asg body .ready none D)::(D,.ob .deferred)::(b8,.r false [[gm tF bf]] 1)::(b5,.r false [[nilS]] 1)::(b3,.r false [[iv (.ofNat p)]] 1)::(b2,.r false [[gm tF bf]] 1)::s):=(P1 _).perm (cM λc w h0 h1 h2 hq=>by have:=hq _ _ hu;simp only[h1,h2,h0]at this |-;omega)
 refine bB.canon<|(hI (.yield lb) _ _ _ hY (λL t2 h q hq=>h.sub q<|.tail _ hq) ⟨nilS,[],[],.refl _,.nil⟩ hs0).post ?_
 rintro _ s9 ⟨t9,hs9,nw,A9,j2,Gu,xB⟩
 obtain⟨u2,hu2,aa0⟩:=(hs9.tT Gu).split
 refine⟨(lb,.lp l1 56 [10] asg body .ready none D)::(u2++((b5,.r false [[nw]] 1)::(A9++(j2++((D,.ob .deferred)::(b8,.r false [[gm tF bf]] 1)::(b3,.r false [[iv (.ofNat p)]] 1)::(b2,.r false [[gm tF bf]] 1)::t))))),cM (λc w h0 h1 h2 hq=>by have:=hq _ _ hu2;simp only[h1,h2]at this |-;omega),l1,.ready,none,_,rfl,(λh=>LoopState.noConfusion h),?_⟩
 subst hl1
 refine Wq<|Wl rfl (.there<|.app .here) rfl rfl rfl<|Wv rfl<|Wn<|We ?_
 refine⟨[D],(lb,.gone)::(u2++((b5,.r false [[nw]] 1)::(A9++(j2++((b8,.r false [[gm tF bf]] 1)::(b3,.r false [[iv (.ofNat p)]] 1)::(b2,.r false [[gm tF bf]] 1)::t))))),rfl,cM (λc w h0 h1 h2 hq=>by simp only[h1,h2,h0,List.map_cons,List.map_nil];omega),[nw],.tmp rfl .nil,A9++((D,.gone)::(lb,.gone)::(b5,.r false [[nw]] 1)::(j2++[(b8,.r false [[gm tF bf]] 1),(b3,.r false [[iv (.ofNat p)]] 1),(b2,.r false [[gm tF bf]] 1)])),(aa0 _).perm (cM λc w h0 h1 h2 hq=>by simp only[h1,h2,h0,List.map_cons,List.map_nil];omega),xB.gr.out.src.mono λq hq=>by simp[hq]⟩
def adv (F:Nat->FuncId)(T:Nat->TypeId):AC:=(.seq (oN [zm 69 9,zm 70 4,zo 71 (.lenS 70),zo 72 (.arith .lss 69 71)] (.cond 72 .skip (.exit 2))) (.seq (.block 3 (oN [zm 75 6,zm 76 0,zm 77 9,zo 78 (.arith .sub 77 (zc 1)),zo 79 (.iaddrS 4 76 78),zf 80 3 79,zl 81 80,zo 82 (.arith .rem 81 (.const (.int .u8 (.ofNat 2)))),zo 83 (.convI .i64 82),zm 84 9,zo 85 (.build mB [⟨0,⟨1,(zc 1)⟩⟩,⟨1,⟨1,83⟩⟩,⟨2,⟨1,84⟩⟩,⟨3,⟨1,(zc 2)⟩⟩]),oF F 86 15 [75,85],zm 10 86] (oN [zm 87 6,zm 88 10,zo 89 (.build mB [⟨0,⟨1,(zc 4)⟩⟩,⟨1,⟨1,88⟩⟩]),oF F 90 15 [87,89]] (.ops [zm 91 8,zm 92 10,zo 93 (.bslice 1 1 [(za 0)] [⟨0,92⟩]),zo 94 (.append 1 8 91 93),zm 8 94])))) (.ops [zm 73 9,zo 74 (.arith .add 73 (zc 1)),zm 9 74])))
def abL (F:Nat->FuncId)(T:Nat->TypeId):AC:=(.seq (oN [zo 9 (.mv (zc 1))] (.block 2 (.loop (adv F T)))) (oN [zm 95 6,zm 96 8,zm 2 95,zm 3 96] .ret))
def d7:SD:={ d5 with pl:=[Zz,Zz],lb:=[[],[]],hd:=[[],[]],gr:=[[],[]],ex:=[[],[]] }
def t6 (ps:Nat->Nat)(tp:Nat->Bool)(q j:Nat):OD:=⟨.ofNat (j+1),.ofNat (j+1),.ofNat (ps j),.ofNat (ps j),2,decide (j<q)&&(!decide (ps j=0)&&tp j),false,false,0,.ofNat (j+1),if decide (j<q)&&decide (ps j=0)then 2 else 0,0,false⟩
def dW (ps:Nat->Nat)(tp:Nat->Bool)(n q:Nat):SD:={ d7 with nx:=.ofNat (n+1),sp:=.ofNat (n+1),ob:=(List.range n).map (t6 ps tp q),fi:=fI n }
theorem aam (ps:Nat->Nat)(tp:Nat->Bool)(n q:Nat):(dW ps tp n q).kQ:=⟨rfl,rfl,rfl,rfl⟩
theorem aaw (ps:Nat->Nat)(tp:Nat->Bool){n:Nat}(hn:n<=8)(q:Nat):(dW ps tp n q).Small:=by
 refine⟨⟨by show 2<=1000;omega,by show((List.range n).map _).length<=1000;rw[List.length_map,List.length_range];omega,by show(fI n).length<=1000;simp[fI];omega,Nat.zero_le _,Nat.zero_le _⟩,λLL h=>?_⟩
 have:LL=[[],[]]:=by rcases h with rfl | rfl | rfl | rfl<;>rfl
 subst this
 exact⟨by show 2<=1000;omega,by decide⟩
theorem aan (ps:Nat->Nat)(tp:Nat->Bool){n q j:Nat}(hj:j<n):(dW ps tp n q).find (.ofNat (j+1))=some j/\(dW ps tp n q).ob[j]?=some (t6 ps tp q j)/\(dW ps tp n q).obj (.ofNat (j+1))=some (t6 ps tp q j):=by
 have h1:(dW ps tp n q).ob[j]?=some (t6 ps tp q j):=by
  show((List.range n).map (t6 ps tp q))[j]?=_
  rw[List.getElem?_map,List.getElem?_range hj];rfl
 have h2:(dW ps tp n q).find (.ofNat<|j+1)=some j:=by
  unfold SD.find
  rw[List.findIdx?_eq_some_iff_getElem]
  refine⟨by show j<((List.range n).map _).length;rw[List.length_map,List.length_range];exact hj,?_,λi hi=>?_⟩
  ·have:(dW ps tp n q).ob[j]'(by show j<((List.range n).map _).length;rw[List.length_map,List.length_range];exact hj)=t6 ps tp q j:=by
    show((List.range n).map (t6 ps tp q))[j]'_=_
    rw[List.getElem_map,List.getElem_range]
   rw[this]
   exact decide_eq_true rfl
  ·have:(dW ps tp n q).ob[i]'(by show i<((List.range n).map _).length;rw[List.length_map,List.length_range];omega)=t6 ps tp q i:=by
    show((List.range n).map (t6 ps tp q))[i]'_=_
    rw[List.getElem_map,List.getElem_range]
   rw[this]
   have:¬(Int.ofNat (i+1)=Int.ofNat (j+1)):=λe=>by have:=Int.ofNat.inj e;omega
   simpa[t6]using this
 exact⟨h2,h1,by unfold SD.obj;rw[h2];exact h1⟩
structure aaq (P:Program)(K:Orc)(F:Nat->FuncId):Prop where
 cN:∀p c:Nat,p<2->1<=c->c<=8->∀s,bB P K (F 201) [.agg (evRow 1 (.ofNat p) (.ofNat c) 2 0 it0)] s<|λv s'=>v=iv 0/\s'=s
 cS:∀a:Nat,1<=a->a<=8->∀s,bB P K (F 201) [.agg (evRow 4 (.ofNat a) 0 0 0 it0)] s<|λv s'=>v=iv 0/\s'=s
 cT:∀a:Nat,1<=a->a<=8->∀s,bB P K (F 201) [.agg (evRow 3 (.ofNat a) 0 1 0 it0)] s<|λv s'=>v=iv 0/\s'=s
 cA:∀a:Nat,1<=a->a<=8->∀s,bB P K (F 201) [.agg (evRow 12 (.ofNat a) 2 0 0 it0)] s<|λv s'=>v=iv 0/\s'=s
structure acH (t:SH)(lv:AV)(L:List (List AV))(ps ky:Nat->Nat):Prop where
 len:lenOf lv=some L.length
 at':0<L.length->∃rb cap sl,lv=.slice (some ⟨rb,0,0⟩) L.length cap sl 4/\Has rb (.r true L 4) t
 b:∀i,i<L.length->∃x z y w:Nat,x<=255/\z<=255/\y<=255/\w<=255/\L[i]?=some [.int .u8 (.ofNat x),.int .u8<|.ofNat z,.int .u8<|.ofNat y,.int .u8<|.ofNat w]/\y=ky i/\w%2=ps i
def dWn (ps:Nat->Nat)(tp:Nat->Bool)(q:Nat):SD:={ dW ps tp q 0 with nx:=.ofNat (q+2),sp:=.ofNat (q+2),ob:=(List.range q).map (t6 ps tp 0)++[{ t6 ps tp 0 q with VK:=true }],fi:=fI q++[.ofNat (q+1)] }
theorem aav (ps:Nat->Nat)(tp:Nat->Bool)(q:Nat):(dW ps tp q 0).add (pY (ps q) (.ofNat (q+1)) 2 0) (ps q)=dWn ps tp q:=by
 rw[acb rfl]
 rfl
theorem ach (ps:Nat->Nat)(tp:Nat->Bool)(q:Nat):({ dWn ps tp q with ob:=(dWn ps tp q).ob.set q { ({ t6 ps tp 0 q with VK:=true }:OD)with VK:=decide ((0:Int)=1) } }:SD)=dW ps tp (q+1) 0:=by
 have h1:(dWn ps tp q).ob.set q { ({ t6 ps tp 0 q with VK:=true }:OD)with VK:=decide ((0:Int)=1) }=(List.range<|q+1).map (t6 ps tp 0):=by
  show((List.range q).map (t6 ps tp 0)++[{ t6 ps tp 0 q with VK:=true }]).set q _=_
  rw[List.set_append_right _ _ (by simp),List.range_succ,List.map_append]
  simp[t6]
 have h2:(dWn ps tp q).fi=fI (q+1):=by
  show fI q++[.ofNat (q+1)]=_
  unfold fI
  rw[List.range_succ,List.map_append]
  rfl
 rw[h1]
 unfold dW
 rw[<- h2]
 rfl
theorem acP (hB:Base P K F T)(hX:BaseX P K F T)(hc:aaq P K F){lv cv:AV}{L:List (List AV)}{ps ky:Nat->Nat}{tp:Nat->Bool}{n:Nat}(hL:acH t lv L ps ky)(hn:n<=8)(hnL:n<=L.length)(eQ:lenOf cv=some (n+1))(hs:aH bl [] (dW ps tp 0 0) t s)
  (hf:Has bf (.r false [bu bl aZ 60 c1 c2 c3 c4 bE] 8) t) (hl:∀y w,lk [(0,lv),(4,cv),(6,.ptr<|some ⟨bf,0,0⟩),(8,nilS)] y=some w->lk l y=some w)
  (hk:∀l2 s2 ids og j Gg,Gg.length<=16->aH bl Gg (dW ps tp n 0) (og++(j++t)) s2->Gr 1 ids (nR<|fI n) og->lk l2 2=some (.ptr<|some ⟨bf,0,0⟩)->lk l2 3=some ids->Qr l2 [] s2) :
  WP P K none 97 (abL F T) l [] s Qn Qe Qr:=by
 have hin:∀j,j<L.length->ps j<2:=λj hj=>by
  obtain⟨x,z,y,w,_,_,_,_,_,_,h⟩:=hL.b j hj
  rw[<- h]
  exact Nat.mod_lt _<|by omega
 refine Wg hl (λ_ _ h=>h) ?_
 unfold abL
 refine Ws<|Wq<|Wv rfl<|Wn<|Wb ?_
 unfold adv
 refine Wp (λk l ds s'=>ds=[]/\∃q ids og j Gg,k=n-q/\q<=n/\Gg.length<=2*q/\aH bl Gg (dW ps tp q 0) (og++(j++t)) s'/\Gr 1 ids (nR<|fI q) og/\∀i w,lk [(0,lv),(4,cv),(6,.ptr<|some ⟨bf,0,0⟩),(8,ids),(9,iv<|.ofNat<|q+1)] i=some w->lk l i=some w) ?_ (n:=n-0)
  ⟨rfl,0,nilS,[],[],[],rfl,Nat.zero_le _,Nat.le_refl _,hs,.nil,dM rfl⟩
 rintro k l ds s' ⟨rfl,q,ids,og,j,Gg,rfl,hq,hE,hs',hG,hl⟩
 refine Wg hl (λ_ _ h=>h) ?_
 refine Ws<|Wq<|Wv rfl<|Wv rfl<|Wr (.lenS rfl eQ)<|Wj rfl rfl (eT _ _)<|Wn<|Wd rfl (λht=>Wi ?_)<|λht=>Wx ?_
 rotate_left
 ·have hqn:q=n:=by
   have:¬q+1<n+1:=λh=>of_decide_eq_false ht<|Int.ofNat_lt.2 h
   omega
  subst hqn
  exact Wq<|Wv rfl<|Wv rfl<|Wv rfl<|Wv rfl<|Wn<|We<|hk _ _ ids og j Gg (by omega) hs' hG rfl rfl
 have hlt:q<n:=by
  have:=Int.ofNat_lt.1<|of_decide_eq_true ht
  omega
 obtain⟨x,z,y,w,hx,hz,hy,hw,hrow,hky,hps⟩:=hL.b q<|by omega
 obtain⟨rb,cap,sl,rfl,hrb⟩:=hL.at'<|by omega
 have Gu:=hin q<|by omega
 have h82:binV .rem (.int .u8<|.ofNat w) (.int .u8<|.ofNat 2)=some (.int .u8<|.ofNat<|ps q):=by rw[<- hps];exact abk<|by omega
 have h83:mkI .i64 (.ofNat<|ps q)=some (iv<|.ofNat<|ps q):=tD<|by omega
 have hsm:=aaw ps tp (n:=q) (by omega) 0
 have Y0:((dW ps tp q 0).add (pY (ps q) (.ofNat<|q+1) 2 0) (ps q)).Small:=by
  rw[aav]
  refine⟨⟨by show 2<=1000;omega,by show(List.map _ _++_).length<=1000;rw[List.length_append,List.length_map,List.length_range];show q+1<=1000;omega,by show(fI q++_).length<=1000;rw[List.length_append];simp[fI];omega,Nat.zero_le _,Nat.zero_le _⟩,hsm.n2⟩
 have adH:((dW ps tp q 0).add (pY (ps q) (.ofNat<|q+1) 2 0) (ps q)).kQ:=by rw[aav];exact⟨rfl,rfl,rfl,rfl⟩
 have hap:Ap P K F 1 (.ofNat<|ps q) (.ofNat<|q+1) 2 0 it0 (dW ps tp q 0) ((dW ps tp q 0).add (pY (ps q) (.ofNat<|q+1) 2 0) (ps q)):=by
  intro pv ov lv hv gv ev fv sv wv s h
  exact sC hB h hsm (aam ..) (by show ps q<2;exact Gu) ⟨Int.natCast_nonneg _,by show((q+1:Nat):Int)<=1000000;omega⟩ ⟨Int.natCast_nonneg _,by show((q+1:Nat):Int)<=1000000;omega⟩<|hc.cN _ _ Gu (by omega)<|by omega
 refine Ws<|Wb<|Wq<|Wv rfl<|Wv rfl<|Wv rfl<|Wj rfl rfl (Ka<|by omega)<|Wr (.iaddrS rfl rfl (by omega)<|by omega)<|Wf rfl<|Wl rfl (hs'.mem<|.app<|.app hrb) (r:=0+q) (by rw[Nat.zero_add];exact hrow) rfl rfl<|Wj rfl rfl h82<|Wr (.convI rfl h83)<|Wv rfl<|Wr (.build (cs:=evRow 1 (.ofNat<|ps q) (.ofNat<|q+1) 2 0 it0) rfl rfl)<|Ww<|Wz [.ptr (some ⟨bf,0,0⟩),.agg<|evRow 1 (.ofNat<|ps q) (.ofNat<|q+1) 2 0 it0] rfl rfl (u5 hB hs' hsm (.app<|.app hf) (by omega) (by show ilt (.ofNat ((List.range q).map _).length) 60=true;rw[List.length_map,List.length_range,du];exact decide_eq_true<|show((q:Nat):Int)<60 by omega) hap Y0 (by rw[aav];exact⟨by show(1:Int)<=((q+2:Nat):Int);omega,by show((q+2:Nat):Int)<=1000000;omega⟩)) ?_
 rintro _ s3 ⟨rfl,gw⟩
 have PQ:((dW ps tp q 0).add (pY (ps q) (.ofNat<|q+1) 2 0) (ps q)).nx-1=.ofNat (q+1):=by rw[aav];show((q+2:Nat):Int)-1=((q+1:Nat):Int);omega
 rw[PQ]
 refine Wv rfl<|Wn ?_
 rw[aav]at gw Y0 adH
 have hfi:(dWn ps tp q).find (.ofNat<|q+1)=some q:=by
  unfold SD.find
  show((List.range q).map (t6 ps tp 0)++[{ t6 ps tp 0 q with VK:=true }]).findIdx? _=_
  rw[List.findIdx?_append,List.findIdx?_eq_none_iff.2 (λo ho=>by
   obtain⟨i,hi,rfl⟩:=List.mem_map.1 ho
   have hi:=List.mem_range.1 hi
   have:¬(Int.ofNat (i+1)=Int.ofNat (q+1)):=λe=>by have:=Int.ofNat.inj e;omega
   simpa[t6]using this)]
  rw[List.findIdx?_cons,show decide ((({ t6 ps tp 0 q with VK:=true }:OD)).id=Int.ofNat (q+1))=true from decide_eq_true rfl]
  simp
 have xG:(dWn ps tp q).ob[q]?=some { t6 ps tp 0 q with VK:=true }:=by
  show((List.range q).map (t6 ps tp 0)++[{ t6 ps tp 0 q with VK:=true }])[q]?=_
  rw[List.getElem?_append_right (by simp)]
  simp
 have hsk:Ap P K F 4 (.ofNat<|q+1) 0 0 0 it0 (dWn ps tp q) (dW ps tp (q+1) 0):=by
  rw[<- ach]
  exact aar (k:=4) hB hX Y0 adH (.inr<|.inl ⟨rfl,rfl⟩) hfi xG rfl (λhu hr=>aa9 hX hu hr)<|hc.cS _ (by omega)<|by omega
 refine Wq<|Wv rfl<|Wv rfl<|Wr (.build (cs:=evRow 4 (.ofNat<|q+1) 0 0 0 it0) rfl rfl)<|Ww<|Wz [.ptr (some ⟨bf,0,0⟩),.agg<|evRow 4 (.ofNat<|q+1) 0 0 0 it0] rfl rfl (aax hB gw Y0 (.app<|.app hf) (by rw[List.length_append];show Gg.length+1<=1000;omega) (by decide) (by decide) (by decide) (by decide) hsk) ?_
 rintro _ s4 ⟨_,pM⟩
 refine Wn ?_
 obtain⟨u,hu,P1⟩:=pM.split
 refine Wo<|Wv rfl<|Wv rfl<|Wa (.bslice (L:=[[iv (.ofNat<|q+1)]]) (fZ rfl rfl) rfl) λb93=>?_
 refine Ww<|WS.pre (s':=((b93,.r false [[iv (.ofNat<|q+1)]] 1)::u)++(og++(j++t))) (cM λc w h0 h1 h2 hq=>by have:=hq _ _ hu;simp only[h1,h2]at this |-;omega)<|WS.append_gr rfl hG rfl (Src.all (L:=[[iv (.ofNat<|q+1)]]) .here) (by omega) (by rw[gq];simp[fI];omega) (by omega) λv' o' jk xB=>?_
 refine Wv rfl<|Wn ?_
 refine Wo<|Wv rfl<|Wj rfl rfl (bM<|by omega)<|Wv rfl<|Wn ?_
 refine⟨n-(q+1),by omega,rfl,q+1,v',o',(b93,.r false [[iv (.ofNat<|q+1)]] 1)::(jk++j),_,rfl,hlt,?_,(P1<|o'++(((b93,.r false [[iv (.ofNat<|q+1)]] 1)::(jk++j))++t)).perm (cM λc w h0 h1 h2 hq=>by simp only[h1,h2];omega),?_,dM rfl⟩
 ·rw[List.length_append,List.length_append];show Gg.length+1+1<=2*(q+1);omega
 ·have:nR (fI<|q+1)=nR (fI q)++[[iv (.ofNat<|q+1)]]:=by unfold fI nR;rw[List.range_succ,List.map_append,List.map_append];rfl
  rw[this];exact xB
def a7A (F:Nat->FuncId)(T:Nat->TypeId):AC:=(.seq (oN [zm 27 8,zm 28 6,zo 29 (.lenS 28),zo 30 (.arith .lss 27 29)] (.cond 30 .skip (.exit 0))) (.seq (.block 1 (oN [zm 33 0,zm 34 8,zo 35 (.iaddrS 4 33 34),zf 36 3 35,zl 37 36,zo 38 (.arith .rem 37 (.const (.int .u8 (.ofNat 2)))),zo 39 (.eql false .pi 38 (.const (.int .u8 (.ofNat 0))))] (.cond 39 (.ops [zm 40 5,zm 41 6,zm 42 8,zo 43 (.iaddrS 1 41 42),zl 44 43,zo 45 (.build mB [⟨0,⟨1,(zc 12)⟩⟩,⟨1,⟨1,44⟩⟩,⟨2,⟨1,(zc 2)⟩⟩]),oF F 46 15 [40,45]]) (oN [zm 47 8,zm 48 1,zo 49 (.lenS 48),zo 50 (.arith .lss 47 49),zm 51 50,zg 52 (.mv 1) 51 true,zg 53 (.mv 8) 51 true,zg 54 (.iaddrS 1 52 53) 51 true,zg 55 (.load false 1 54) 51 true,zo 56 (.pick 51 55 (.const (.bool false)))] (.cond 56 (.ops [zm 57 5,zm 58 6,zm 59 8,zo 60 (.iaddrS 1 58 59),zl 61 60,zo 62 (.build mB [⟨0,⟨1,(zc 3)⟩⟩,⟨1,⟨1,61⟩⟩,⟨3,⟨1,(zc 1)⟩⟩]),oF F 63 15 [57,62]]) .skip))))) (.ops [zm 31 8,zo 32 (.arith .add 31 (zc 1)),zm 8 32])))
def a7J (F:Nat->FuncId)(T:Nat->TypeId):AC:=(.seq (oN [zm 123 14,zm 124 9,zo 125 (.lenS 124),zo 126 (.arith .lss 123 125)] (.cond 126 .skip (.exit 6))) (.seq (.block 7 (.drawn 0 [zp (zm 129 13) 0,zp (zm 130 129) 1,zp (zg 131 (.mv 9) 130 false) 3,zp (zg 132 (.mv 14) 130 false) 3,zp (zg 133 (.iaddrS 3 131 132) 130 false) 15,zp (zg 134 (.faddr 1 133) 130 false) 31,zr (zg 135 (.load false 1 134) 130 false) 0 0 63,zp (zg 136 (.mv 6) 130 false) 3,zp (zg 137 (.mv 10) 130 false) 3,zp (zg 138 (.iaddrS 1 136 137) 130 false) 387,zr (zg 139 (.load false 1 138) 130 false) 0 0 899,zp (zg 140 (.eql false .pi 135 139) 130 false) 2047,zp (zg 141 (.mv 140) 130 false) 4095,zp (zg 142 (.mv 9) 141 true) 8191,zp (zg 143 (.mv 14) 141 true) 8191,zp (zg 144 (.iaddrS 3 142 143) 141 true) 32767,zp (zg 145 (.faddr 2 144) 141 true) 65535,zr (zg 146 (.load false 1 145) 141 true) 0 0 131071,zp (zg 147 (.mv 6) 141 true) 8191,zp (zg 148 (.mv 11) 141 true) 8191,zp (zg 149 (.iaddrS 1 147 148) 141 true) 794623,zr (zg 150 (.load false 1 149) 141 true) 0 0 1843199,zp (zg 151 (.eql false .pi 146 150) 141 true) 4194303,zp (zg 152 (.pick 141 151 (.const (.bool false))) 130 false) 8388607,zp (zo 153 (.pick 130 (.const (.bool true)) 152)) 16777215,zp (zm 13 153) 33554431])) (.ops [zm 127 14,zo 128 (.arith .add 127 (zc 1)),zm 14 128])))
structure Tru (t:SH)(tv:AV)(TL:List Bool):Prop where
 len:lenOf tv=some TL.length
 at':0<TL.length->∃rb cap sl,tv=.slice (some ⟨rb,0,0⟩) TL.length cap sl 1/\Has rb (.r true (TL.map λb=>[AV.bool b]) 1) t
def dT (TL:List Bool)(j:Nat):Bool:=match TL[j]? with | some b=>b | none=>false
theorem ab0 (ps:Nat->Nat)(tp:Nat->Bool){q j:Nat}(h:j≠q):t6 ps tp (q+1) j=t6 ps tp q j:=by
 unfold t6
 rw[show decide (j<q+1)=decide (j<q)from decide_eq_decide.2<|by omega]
theorem abh (ps:Nat->Nat)(tp:Nat->Bool)(n q:Nat):({ dW ps tp n q with ob:=(dW ps tp n q).ob.set q (t6 ps tp (q+1) q) }:SD)=dW ps tp n (q+1):=by
 have h:((List.range n).map (t6 ps tp q)).set q (t6 ps tp (q+1) q)=(List.range n).map (t6 ps tp<|q+1):=by
  refine List.ext_getElem (by simp) λi h1 h2=>?_
  rw[List.getElem_set]
  split
  ·rename_i e
   subst e
   rw[List.getElem_map,List.getElem_range]
  ·rename_i e
   rw[List.getElem_map,List.getElem_map,List.getElem_range]
   exact(ab0 ps tp<|λh=>e h.symm).symm
 show({ dW ps tp n q with ob:=((List.range n).map (t6 ps tp q)).set q (t6 ps tp (q+1) q) }:SD)=_
 rw[h]
 rfl
theorem acg (ps:Nat->Nat)(tp:Nat->Bool){n q:Nat}(h:t6 ps tp (q+1) q=t6 ps tp q q):dW ps tp n (q+1)=dW ps tp n q:=by
 unfold dW
 have:(List.range n).map (t6 ps tp<|q+1)=(List.range n).map (t6 ps tp q):=by
  refine List.map_congr_left λi _=>?_
  by_cases e:i=q
  ·subst e;exact h
  ·exact ab0 ps tp e
 rw[this]
theorem abw (hB:Base P K F T)(hX:BaseX P K F T)(hc:aaq P K F){lv tv ids:AV}{og j:SH}{L:List (List AV)}{ps ky:Nat->Nat}{TL:List Bool}{n m8 cap:Nat}{sl:Bool}{p8:Option Pl}(hlv:0<n->∃rb cap sl,lv=.slice (some ⟨rb,0,0⟩) n cap sl 4/\Has rb (.r true L 4) t)
  (XW:∀i,i<n->∃x z y w:Nat,x<=255/\z<=255/\y<=255/\w<=255/\L[i]?=some [.int .u8 (.ofNat x),.int .u8<|.ofNat z,.int .u8<|.ofNat y,.int .u8<|.ofNat w]/\y=ky i/\w%2=ps i) (hT:Tru t tv TL) (hn:n<=8) (hG:Gr 1 ids (nR<|fI n) og) (hEL:EL.length<=16)
  (hs:aH bl EL (dW ps (dT TL) n 0) (og++(j++t)) s) (hf:Has bf (.r false [bu bl aZ 60 c1 c2 c3 c4 bE] 8) t)
  (hl:∀y w,lk [(0,lv),(1,tv),(5,.ptr<|some ⟨bf,0,0⟩),(6,ids),(7,iv 0)] y=some w->lk l y=some w)
  (hk:∀l2 s2 Gg,aH bl Gg (dW ps (dT TL) n n) (og++(j++t)) s2->(∀y w,lk [(0,lv),(1,tv),(5,.ptr<|some ⟨bf,0,0⟩),(6,ids),(7,iv 0)] y=some w->lk l2 y=some w)->Qn l2 [] s2) :
  WP P K none 174 (oN [zo 8 (.mv<|zc 0)]<|.block 0<|.loop<|a7A F T) l [] s Qn Qe Qr:=by
 refine Wg hl (λ_ _ h=>h) ?_
 have hli:lenOf ids=some n:=by rw[hG.lenOf,gq];simp[fI]
 refine Wq<|Wv rfl<|Wn<|Wb ?_
 unfold a7A
 refine Wp (λkk l ds s'=>ds=[]/\∃q Gg,kk=n-q/\q<=n/\Gg.length<=16+q/\aH bl Gg (dW ps (dT TL) n q) (og++(j++t)) s'/\∀y w,lk [(0,lv),(1,tv),(5,.ptr<|some ⟨bf,0,0⟩),(6,ids),(7,iv 0),(8,iv<|.ofNat q)] y=some w->lk l y=some w) ?_ (n:=n-0)
  ⟨rfl,0,EL,rfl,Nat.zero_le _,hEL,hs,dM rfl⟩
 rintro kk l ds s3 ⟨rfl,q,Gg,rfl,hq,hE,gw,hl⟩
 refine Wg hl (λ_ _ h=>h) ?_
 refine Ws<|Wq<|Wv rfl<|Wv rfl<|Wr (.lenS rfl hli)<|Wj rfl rfl (eT _ _)<|Wn<|Wd rfl (λht=>Wi ?_)<|λht=>Wx ?_
 rotate_left
 ·have hqn:q=n:=by
   have:¬q<n:=λh=>of_decide_eq_false ht<|Int.ofNat_lt.2 h
   omega
  subst hqn
  exact hk _ _ _ gw<|dM rfl
 have hlt:q<n:=Int.ofNat_lt.1<|of_decide_eq_true ht
 obtain⟨x,z,y,w,hx,hz,hy,hw,hrow,hky,hps⟩:=XW q hlt
 obtain⟨rb,cap,sl,rfl,hrb⟩:=hlv<|by omega
 have Gu:ps q<2:=by rw[<- hps];exact Nat.mod_lt _<|by omega
 have h38:binV .rem (.int .u8<|.ofNat w) (.int .u8<|.ofNat 2)=some (.int .u8<|.ofNat<|ps q):=by rw[<- hps];exact abk<|by omega
 have h39:eqBy 20 .pi (.int .u8<|.ofNat<|ps q) (.int .u8<|.ofNat 0)=some (decide<|ps q=0):=by
  show some (ieq (.ofNat<|ps q)<|.ofNat 0)=_
  rw[rh]
  exact congrArg some<|dN (ps q) 0
 have hsm:=aaw ps (dT TL) hn q
 obtain⟨hfi,xG,_⟩:=aan ps (dT TL) (n:=n) (q:=q) hlt
 obtain⟨ba,ra,na,ca,J5,Sp,Ma,e6,hba,me,hra⟩:=hG.out.src.at (i:=q) (by rw[gq];simpa[fI]using hlt)
 have acB:Ma[ra+q]?=some [iv (.ofNat<|q+1)]:=by
  rw[hra,nR,fI,List.getElem?_map,List.getElem?_map,List.getElem?_range hlt];rfl
 have fin:∀{l9:Sl}{s9:SH}{EL9:List (List AV)},EL9.length<=17+q->aH bl EL9 (dW ps (dT TL) n<|q+1) (og++(j++t)) s9->(∀y w,lk [(0,.slice (some ⟨rb,0,0⟩) n cap sl 4),(1,tv),(5,.ptr<|some ⟨bf,0,0⟩),(6,ids),(7,iv 0),(8,iv<|.ofNat q)] y=some w->lk l9 y=some w) ->
   WP P K none 174 (.ops [zm 31 8,zo 32<|.arith .add 31<|zc 1,zm 8 32]) l9 [] s9 (λl ds s'=>∃m',m'<n-q/\(ds=[]/\∃q Gg,m'=n-q/\q<=n/\Gg.length<=16+q/\aH bl Gg (dW ps (dT TL) n q) (og++(j++t)) s'/\∀y w,lk [(0,.slice (some ⟨rb,0,0⟩) n cap sl 4),(1,tv),(5,.ptr<|some ⟨bf,0,0⟩),(6,ids),(7,iv 0),(8,iv<|.ofNat q)] y=some w->lk l y=some w)) (λi l ds s=>match Nat.beq i 0 with | true=>Qn l ds s | false=>Qe i l ds s) Qr:=by
  intro l9 s9 EL9 hE9 hs9 hl9
  refine Wg hl9 (λ_ _ h=>h) ?_
  refine Wo<|Wv rfl<|Wj rfl rfl (bM<|by omega)<|Wv rfl<|Wn ?_
  exact⟨n-(q+1),by omega,rfl,q+1,EL9,rfl,hlt,by omega,hs9,dM rfl⟩
 refine Ws<|Wb<|Wq<|Wv rfl<|Wv rfl<|Wr (.iaddrS rfl rfl hlt<|by omega)<|Wf rfl<|Wl rfl (gw.mem<|.app<|.app hrb) (r:=0+q) (by rw[Nat.zero_add];exact hrow) rfl rfl<|Wj rfl rfl h38<|Wh rfl rfl h39<|Wn ?_
 by_cases h0:ps q=0
 ·rw[decide_eq_true h0]
  have hat:t6 ps (dT TL) (q+1) q={ t6 ps (dT TL) q q with NP:=2 }:=by
   unfold t6
   simp[h0]
  have hap:Ap P K F 12 (.ofNat<|q+1) 2 0 0 it0 (dW ps (dT TL) n q) (dW ps (dT TL) n<|q+1):=by
   rw[<- abh,hat]
   exact aar (k:=12) hB hX hsm (aam ..) (.inr<|.inr ⟨rfl,rfl⟩) hfi xG rfl (λhu hr=>aaE hX hu hr)<|hc.cA _ (by omega)<|by omega
  refine Wd rfl (λ_=>?_) Dz
  refine Wo<|Wv rfl<|Wv rfl<|Wv rfl<|Wr (.iaddrS (congrArg some e6) rfl me<|by decide)<|Wl rfl (gw.mem<|.left hba) acB rfl rfl<|Wr (.build (cs:=evRow 12 (.ofNat<|q+1) 2 0 0 it0) rfl rfl)<|Ww<|Wz [.ptr (some ⟨bf,0,0⟩),.agg<|evRow 12 (.ofNat<|q+1) 2 0 0 it0] rfl rfl (aax hB gw hsm (.app<|.app hf) (by omega) (by decide) (by decide) (by decide) (by decide) hap) ?_
  rintro _ s4 ⟨_,pM⟩
  exact Wn<|fin (by rw[List.length_append];show Gg.length+1<=17+q;omega) pM<|dM rfl
 ·rw[decide_eq_false h0]
  refine Wd rfl fS<|λ_=>?_
  have acE:dT TL q=false->∀{l9:Sl},(∀y w,lk [(0,.slice (some ⟨rb,0,0⟩) n cap sl 4),(1,tv),(5,.ptr<|some ⟨bf,0,0⟩),(6,ids),(7,iv 0),(8,iv<|.ofNat q)] y=some w->lk l9 y=some w)->WP P K none 174 (.ops [zm 31 8,zo 32<|.arith .add 31<|zc 1,zm 8 32]) l9 [] s3 (λl ds s'=>∃m',m'<n-q/\(ds=[]/\∃q Gg,m'=n-q/\q<=n/\Gg.length<=16+q/\aH bl Gg (dW ps (dT TL) n q) (og++(j++t)) s'/\∀y w,lk [(0,.slice (some ⟨rb,0,0⟩) n cap sl 4),(1,tv),(5,.ptr<|some ⟨bf,0,0⟩),(6,ids),(7,iv 0),(8,iv<|.ofNat q)] y=some w->lk l y=some w)) (λi l ds s=>match Nat.beq i 0 with | true=>Qn l ds s | false=>Qe i l ds s) Qr:=by
   intro hno l9 hl9
   have hsame:dW ps (dT TL) n (q+1)=dW ps (dT TL) n q:=acg ps (dT TL) (by unfold t6;simp[h0,hno])
   refine fin (EL9:=Gg) (by omega) ?_ hl9
   rw[hsame]
   exact gw
  refine Wq<|Wv rfl<|Wv rfl<|Wr (.lenS rfl hT.len)<|Wj rfl rfl (eT _ _)<|Wv rfl ?_
  by_cases hqt:q<TL.length
  ·obtain⟨rt,ct,st,rfl,hrt⟩:=hT.at' (by omega)
   have hbt:TL[q]?=some (dT TL q):=by
    unfold dT
    rw[List.getElem?_eq_getElem hqt]
   have abV:(TL.map λb=>[AV.bool b])[q]?=some [.bool (dT TL q)]:=by rw[List.getElem?_map,hbt];rfl
   rw[decide_eq_true (show Int.ofNat q<Int.ofNat TL.length from Int.ofNat_lt.2 hqt)]
   refine Wy rfl rfl<|Wv rfl<|Wy rfl rfl<|Wv rfl<|Wy rfl rfl<|Wr (.iaddrS rfl rfl hqt<|by decide)<|Wy rfl rfl<|Wl rfl (gw.mem<|.app<|.app hrt) (r:=0+q) (by rw[Nat.zero_add];exact abV) rfl rfl<|Wr (.cV rfl rfl)<|Wn ?_
   cases htb:dT TL q with
   | false=>exact Wd rfl fS<|λ_=>Wi<|acE htb<|dM rfl
   | true=>
    have hat:t6 ps (dT TL) (q+1) q={ t6 ps (dT TL) q q with RU:=decide ((1:Int)=1) }:=by
     unfold t6
     simp[h0,htb]
    have hap:Ap P K F 3 (.ofNat<|q+1) 0 1 0 it0 (dW ps (dT TL) n q) (dW ps (dT TL) n<|q+1):=by
     rw[<- abh,hat]
     exact aar (k:=3) hB hX hsm (aam ..) (.inl ⟨rfl,rfl⟩) hfi xG rfl (λhu hr=>abI hX hu hr)<|hc.cT _ (by omega)<|by omega
    refine Wd rfl (λ_=>?_) Dz
    refine Wo<|Wv rfl<|Wv rfl<|Wv rfl<|Wr (.iaddrS (congrArg some e6) rfl me<|by decide)<|Wl rfl (gw.mem<|.left hba) acB rfl rfl<|Wr (.build (cs:=evRow 3 (.ofNat<|q+1) 0 1 0 it0) rfl rfl)<|Ww<|Wz [.ptr (some ⟨bf,0,0⟩),.agg<|evRow 3 (.ofNat<|q+1) 0 1 0 it0] rfl rfl (aax hB gw hsm (.app<|.app hf) (by omega) (by decide) (by decide) (by decide) (by decide) hap) ?_
    rintro _ s4 ⟨_,pM⟩
    exact Wn<|fin (by rw[List.length_append];show Gg.length+1<=17+q;omega) pM<|dM rfl
  ·have htb:dT TL q=false:=by unfold dT;rw[List.getElem?_eq_none (by omega)]
   rw[decide_eq_false (show¬Int.ofNat q<Int.ofNat TL.length fromλh=>hqt<|Int.ofNat_lt.1 h)]
   refine Wk rfl rfl<|Wk rfl rfl<|Wk rfl rfl<|Wk rfl rfl<|Wr (.bj rfl rfl)<|Wn<|Wd rfl fS<|λ_=>Wi<|acE htb ?_
   exact dM rfl
def a7K (F:Nat->FuncId)(T:Nat->TypeId):AC:=(.seq (oN [zm 73 11,zm 74 6,zo 75 (.lenS 74),zo 76 (.arith .lss 73 75)] (.cond 76 .skip (.exit 4))) (.seq (.block 5 (.seq (oN [zm 79 0,zm 80 10,zo 81 (.iaddrS 4 79 80),zf 82 3 81,zl 83 82,zo 84 (.arith .rem 83 (.const (.int .u8 (.ofNat 2)))),zo 85 (.eql false .pi 84 (.const (.int .u8 (.ofNat 0)))),zm 86 85,zg 87 (.mv 0) 86 false,zg 88 (.mv 11) 86 false,zg 89 (.iaddrS 4 87 88) 86 false,zg 90 (.faddr 3 89) 86 false,zg 91 (.load false 1 90) 86 false,zg 92 (.arith .rem 91 (.const (.int .u8 (.ofNat 2)))) 86 false,zg 93 (.eql false .pi 92 (.const (.int .u8 (.ofNat 1)))) 86 false,zo 94 (.pick 86 (.const (.bool true)) 93),zm 95 94,zg 96 (.mv 10) 95 false,zg 97 (.mv 1) 95 false,zg 98 (.lenS 97) 95 false,zg 99 (.arith .lss 96 98) 95 false,zg 100 (.mv 99) 95 false,zg 101 (.mv 1) 100 true,zg 102 (.mv 10) 100 true,zg 103 (.iaddrS 1 101 102) 100 true,zg 104 (.load false 1 103) 100 true,zg 105 (.pick 100 104 (.const (.bool false))) 95 false,zo 106 (.pick 95 (.const (.bool true)) 105)] (.cond 106 (.exit 5) .skip)) (oN [zm 107 0,zm 108 11,zo 109 (.iaddrS 4 107 108),zf 110 2 109,zl 111 110,zo 112 (.arith .and 111 (.const (.int .u8 (.ofNat 1)))),zo 113 (.eql false .pi 112 (.const (.int .u8 (.ofNat 0)))),zm 114 113,zg 115 (.mv 0) 114 false,zg 116 (.mv 10) 114 false,zg 117 (.iaddrS 4 115 116) 114 false,zg 118 (.faddr 2 117) 114 false,zg 119 (.load false 1 118) 114 false,zg 120 (.arith .and 119 (.const (.int .u8 (.ofNat 1)))) 114 false,zg 121 (.eql true .pi 120 (.const (.int .u8 (.ofNat 0)))) 114 false,zo 122 (.pick 114 (.const (.bool true)) 121),zm 12 122] (oN [zo 13 (.mv (.const (.bool false)))] (.seq (oN [zo 14 (.mv (zc 0))] (.block 6 (.loop (a7J F T)))) (.seq (oN [zm 154 13,zm 155 12,zo 156 (.eql true .pb 154 155)] (.cond 156 (oN [zo 4 (.mv (.const (.bool false)))] .ret) .skip)) (oN [zm 157 12] (.cond 157 (.ops [zm 158 7,zo 159 (.arith .add 158 (zc 1)),zm 7 159]) .skip)))))))) (.ops [zm 77 11,zo 78 (.arith .add 77 (zc 1)),zm 11 78])))
def a7I (F:Nat->FuncId)(T:Nat->TypeId):AC:=(.seq (oN [zm 67 10,zm 68 6,zo 69 (.lenS 68),zo 70 (.arith .lss 67 69)] (.cond 70 .skip (.exit 2))) (.seq (.block 3 (oN [zo 11 (.mv (zc 0))] (.block 4 (.loop (a7K F T))))) (.ops [zm 71 10,zo 72 (.arith .add 71 (zc 1)),zm 10 72])))
def isO (i k:Nat)(x:OT):Bool:=decide (x.a=.ofNat (i+1))&&decide (x.b=.ofNat (k+1))
def Ue (ps:Nat->Nat)(tp:Nat->Bool)(n:Nat)(ch:Nat->CH)(j:Nat):BT:=⟨t6 ps tp n j,ch j⟩
def vj (ps:Nat->Nat)(tp:Nat->Bool)(n:Nat)(ch:Nat->CH):List BT:=(List.range n).map (Ue ps tp n ch)
theorem abB {ps:Nat->Nat}{tp:Nat->Bool}{n i:Nat}{ch:Nat->CH}(hi:i<n):rx 1 (Ue ps tp n ch i)=(decide (ps i=1) && !tp i):=by
 show(decide (Int.ofNat (ps i)=Int.ofNat 1)&&(!(decide (i<n)&&(!decide (ps i=0)&&tp i))&&decide ((0:Int)=0)))=_
 rw[dN,decide_eq_true hi,decide_eq_true (rfl:(0:Int)=0),Bool.and_true,Bool.true_and]
 by_cases h:ps i=1
 ·rw[decide_eq_true h,decide_eq_false<|show¬ps i=0 by omega]
  cases tp i<;>rfl
 ·rw[decide_eq_false h]
  rfl
theorem ace {ps:Nat->Nat}{tp:Nat->Bool}{n i k:Nat}{ch:Nat->CH}(hk:k<n):aas 1 (Ue ps tp n ch i) (Ue ps tp n ch k)=(decide (ps k=0)&&(!x6 1 (ch i).k||x6 1 (ch k).k)):=by
 show(decide ((if(decide (k<n)&&decide (ps k=0))=true then(2:Int)else 0)=Int.ofNat (1+1))&&_)=_
 rw[decide_eq_true hk,Bool.true_and]
 by_cases h:ps k=0
 ·rw[decide_eq_true h];rfl
 ·rw[decide_eq_false h];rfl
theorem abf {ps:Nat->Nat}{tp:Nat->Bool}{n j:Nat}{ch:Nat->CH}(hj:j<n):(vj ps tp n ch)[j]?=some (Ue ps tp n ch j):=by
 unfold vj
 rw[List.getElem?_map,List.getElem?_range hj]
 rfl
theorem aci {ps:Nat->Nat}{tp:Nat->Bool}{n i k:Nat}{ch:Nat->CH}(hi:i<n)(hk:k<n) :
  (ec 1 (vj ps tp n ch)<|vj ps tp n ch).any (isO i k)=(rx 1 (Ue ps tp n ch i)&&aas 1 (Ue ps tp n ch i) (Ue ps tp n ch k)):=by
 rw[Bool.eq_iff_iff,List.any_eq_true]
 constructor
 ·rintro⟨x,hx,hxo⟩
  obtain⟨h1,h2⟩:=Bool.and_eq_true_iff.1 hxo
  obtain⟨b,hb,hx⟩:=List.mem_flatMap.1 hx
  obtain⟨i',hi',rfl⟩:=List.mem_map.1 hb
  split at hx
  ·rename_i hm
   unfold s8 at hx
   obtain⟨y,hy,rfl⟩:=List.mem_map.1 hx
   obtain⟨vy,Qb⟩:=List.mem_filter.1 hy
   obtain⟨k',hk',rfl⟩:=List.mem_map.1 vy
   have e1:Int.ofNat (i'+1)=Int.ofNat (i+1):=of_decide_eq_true h1
   have e2:Int.ofNat (k'+1)=Int.ofNat (k+1):=of_decide_eq_true h2
   have e1:i'=i:=by have:=Int.ofNat.inj e1;omega
   have e2:k'=k:=by have:=Int.ofNat.inj e2;omega
   subst e1 e2
   exact Bool.and_eq_true_iff.2 ⟨hm,Qb⟩
  ·cases hx
 ·intro h
  obtain⟨h1,h2⟩:=Bool.and_eq_true_iff.1 h
  refine⟨⟨10,.ofNat<|i+1,.ofNat<|k+1⟩,List.mem_flatMap.2 ⟨Ue ps tp n ch i,List.mem_map.2 ⟨i,List.mem_range.2 hi,rfl⟩,?_⟩,by unfold isO;simp⟩
  rw[if_pos h1]
  exact List.mem_map.2 ⟨Ue ps tp n ch k,List.mem_filter.2 ⟨List.mem_map.2 ⟨k,List.mem_range.2 hk,rfl⟩,h2⟩,rfl⟩
def gK (ps:Nat->Nat)(tp:Nat->Bool)(n:Nat)(ch:Nat->CH)(i k:Nat):Nat:=(ec 1 (vj ps tp n ch) ((vj ps tp n ch).take i)).length+if rx 1 (Ue ps tp n ch i) then(s8 1 (Ue ps tp n ch i) ((vj ps tp n ch).take k)).length else 0
theorem acu {ps:Nat->Nat}{tp:Nat->Bool}{n i k:Nat}{ch:Nat->CH}(hk:k<n):gK ps tp n ch i (k+1)=gK ps tp n ch i k+if rx 1 (Ue ps tp n ch i)&&aas 1 (Ue ps tp n ch i) (Ue ps tp n ch k)then 1 else 0:=by
 unfold gK
 rw[List.take_add_one,abf hk]
 cases rx 1 (Ue ps tp n ch i) with
 | false=>simp
 | true=>
  unfold s8
  rw[List.filter_append,List.map_append,List.length_append,Bool.true_and]
  show _+(_+((List.filter _ [Ue ps tp n ch k]).map _).length)=_
  rw[List.filter_cons]
  cases aas 1 (Ue ps tp n ch i) (Ue ps tp n ch k)<;>simp<;>omega
theorem act {ps:Nat->Nat}{tp:Nat->Bool}{n i:Nat}{ch:Nat->CH}(hi:i<n):gK ps tp n ch i n=gK ps tp n ch (i+1) 0:=by
 unfold gK
 have hl:(vj ps tp n ch).length=n:=by unfold vj;rw[List.length_map,List.length_range]
 have h0:(if rx 1 (Ue ps tp n ch<|i+1)=true then(s8 1 (Ue ps tp n ch<|i+1)<|(vj ps tp n ch).take 0).length else 0)=0:=by split<;>rfl
 rw[h0,show(vj ps tp n ch).take n=vj ps tp n ch from List.take_of_length_le<|by omega,List.take_add_one,abf hi]
 unfold ec
 rw[List.flatMap_append,List.length_append]
 show _=_+(List.flatMap _ [Ue ps tp n ch i]).length+0
 rw[List.flatMap_cons,List.flatMap_nil,List.append_nil]
 split<;>rfl
theorem abJ {ps:Nat->Nat}{tp:Nat->Bool}{n:Nat}{ch:Nat->CH}:gK ps tp n ch n 0=(ec 1 (vj ps tp n ch) (vj ps tp n ch)).length:=by
 unfold gK
 have hl:(vj ps tp n ch).length=n:=by unfold vj;rw[List.length_map,List.length_range]
 rw[List.take_of_length_le (by omega)]
 have h0:(if rx 1 (Ue ps tp n ch n)=true then(s8 1 (Ue ps tp n ch n)<|(vj ps tp n ch).take 0).length else 0)=0:=by split<;>rfl
 rw[h0]
 rfl
theorem aby {lv tv ids vo:AV}{n i k:Nat}{G:List OT}{w:Nat}{my:Bool}(hi:i<n)(hkn:k<n)(hI:Src s 1 ids (nR (fI n)))(hS:Src s 3 vo (otR G))(hn:G.length<=1000)
  (hl:∀y v,lk [(0,lv),(1,tv),(5,.ptr<|some ⟨bf,0,0⟩),(6,ids),(9,vo),(10,iv<|.ofNat i),(11,iv<|.ofNat k),(7,iv<|.ofNat w),(12,.bool my),(13,.bool false)] y=some v->lk l y=some v)
  (hk:∀l2,(∀y v,lk [(0,lv),(1,tv),(5,.ptr<|some ⟨bf,0,0⟩),(6,ids),(9,vo),(10,iv<|.ofNat i),(11,iv<|.ofNat k),(7,iv<|.ofNat w),(12,.bool my),(13,.bool<|G.any<|isO i k)] y=some v->lk l2 y=some v)->Qn l2 [] s) :
  WP P K none 174 (oN [zo 14 (.mv<|zc 0)]<|.block 6<|.loop<|a7J F T) l [] s Qn Qe Qr:=by
 refine Wg hl (λ_ _ h=>h) ?_
 have hlen:lenOf vo=some G.length:=by rw[hS.lenOf,aaM]
 have agH:(nR<|fI n).length=n:=by rw[gq];simp[fI]
 have hid:∀{j:Nat},j<n->(nR<|fI n)[j]?=some [iv (.ofNat<|j+1)]:=λhj=>by rw[nR,fI,List.getElem?_map,List.getElem?_map,List.getElem?_range hj];rfl
 obtain⟨bi,ri,ni,ci,sli,roi,Mi,ei,lN,aey,uB⟩:=hI.at (i:=i)<|by omega
 obtain⟨bk,rk,nk,ck,slk,rok,Mk,ek,Cs,aez,hrk⟩:=hI.at (i:=k)<|by omega
 rw[hid hi]at uB
 rw[hid hkn]at hrk
 refine Wq<|Wv rfl<|Wn<|Wb ?_
 unfold a7J
 refine Wp (λkk l ds s'=>ds=[]/\s'=s/\∃j,kk=G.length-j/\j<=G.length/\∀y v,lk [(0,lv),(1,tv),(5,.ptr<|some ⟨bf,0,0⟩),(6,ids),(9,vo),(10,iv<|.ofNat i),(11,iv<|.ofNat k),(7,iv<|.ofNat w),(12,.bool my),(13,.bool<|(G.take j).any (isO i k)),(14,iv<|.ofNat j)] y=some v->lk l y=some v) ?_ (n:=G.length-0)
  ⟨rfl,rfl,0,rfl,Nat.zero_le _,dM rfl⟩
 rintro kk l ds s' ⟨rfl,rfl,j,rfl,hj,hl⟩
 refine Wg hl (λ_ _ h=>h) ?_
 refine Ws<|Wq<|Wv rfl<|Wv rfl<|Wr (.lenS rfl hlen)<|Wj rfl rfl (eT _ _)<|Wn<|Wd rfl (λht=>Wi ?_)<|λht=>Wx ?_
 rotate_left
 ·have hjn:j=G.length:=by
   have:¬j<G.length:=λh=>of_decide_eq_false ht<|Int.ofNat_lt.2 h
   omega
  subst hjn
  refine hk _ ?_
  rw[show G.any (isO i k)=(G.take G.length).any (isO i k) by rw[List.take_length]]
  exact dM rfl
 have hlt:j<G.length:=Int.ofNat_lt.1<|of_decide_eq_true ht
 have hx:G[j]?=some G[j]:=List.getElem?_eq_getElem hlt
 obtain⟨ba,ra,na,ca,J5,Sp,Ma,e1,hba,me,hra⟩:=hS.at (i:=j) (by rw[aaM];exact hlt)
 rw[acp hlt]at hra
 generalize G[j]=x at hx hra
 have mN:(G.take<|j+1).any (isO i k)=((G.take j).any (isO i k)||isO i k x):=by
  rw[List.take_add_one,hx,List.any_append]
  congr 1
  exact Bool.or_false _
 have PE:eqBy 20 .pi (iv x.a) (iv<|.ofNat<|i+1)=some (decide<|x.a=.ofNat (i+1)):=bb _ _
 have heb:eqBy 20 .pi (iv x.b) (iv<|.ofNat<|k+1)=some (decide<|x.b=.ofNat (k+1)):=bb _ _
 have Uw:isO i k x=(decide (x.a=.ofNat (i+1))&&decide (x.b=.ofNat (k+1))):=rfl
 have fin:∀{l9:Sl}{b:Bool},b=(G.take<|j+1).any (isO i k)->(∀y v,lk [(0,lv),(1,tv),(5,.ptr<|some ⟨bf,0,0⟩),(6,ids),(9,vo),(10,iv<|.ofNat i),(11,iv<|.ofNat k),(7,iv<|.ofNat w),(12,.bool my),(13,.bool b),(14,iv<|.ofNat j)] y=some v->lk l9 y=some v) ->
   WP P K none 174 (.ops [zm 127 14,zo 128<|.arith .add 127<|zc 1,zm 14 128]) l9 [] s' (λl ds s2=>∃m',m'<G.length-j/\(ds=[]/\s2=s'/\∃j,m'=G.length-j/\j<=G.length/\∀y v,lk [(0,lv),(1,tv),(5,.ptr<|some ⟨bf,0,0⟩),(6,ids),(9,vo),(10,iv<|.ofNat i),(11,iv<|.ofNat k),(7,iv<|.ofNat w),(12,.bool my),(13,.bool<|(G.take j).any (isO i k)),(14,iv<|.ofNat j)] y=some v->lk l y=some v)) (λi l ds s=>match Nat.beq i 6 with | true=>Qn l ds s | false=>Qe i l ds s) Qr:=by
  intro l9 b hb hl9
  subst hb
  refine Wg hl9 (λ_ _ h=>h) ?_
  refine Wo<|Wv rfl<|Wj rfl rfl (bM<|by omega)<|Wv rfl<|Wn ?_
  exact⟨G.length-(j+1),by omega,rfl,rfl,j+1,rfl,hlt,dM rfl⟩
 refine Ws<|Wb<|WP.bD<|Dp (.mv rfl)<|Dp (.mv rfl) ?_
 cases aaH:(G.take j).any (isO i k) with
 | true=>
  rw[aaH,Bool.true_or]at mN
  refine Dk rfl rfl rfl<|Dk rfl rfl rfl<|Dk rfl rfl rfl<|Dk rfl rfl rfl<|Dk rfl rfl rfl<|Dk rfl rfl rfl<|Dk rfl rfl rfl<|Dk rfl rfl rfl<|Dk rfl rfl rfl<|Dk rfl rfl rfl<|Dk rfl rfl rfl<|WD.kg rfl rfl<|WD.kg rfl rfl<|WD.kg rfl rfl<|WD.kg rfl rfl<|WD.kg rfl rfl<|WD.kg rfl rfl<|WD.kg rfl rfl<|WD.kg rfl rfl<|WD.kg rfl rfl<|WD.kg rfl rfl<|Dk rfl rfl rfl<|Dp (.cV rfl rfl)<|Dp (.mv rfl)<|D0 .nil (fin (b:=true) mN.symm ?_)<|λo ho=>nomatch ho
  exact dM rfl
 | false=>
  rw[aaH,Bool.false_or,Uw]at mN
  refine Dy rfl rfl<|Dp (.mv rfl)<|Dy rfl rfl<|Dp (.mv rfl)<|Dy rfl rfl<|Dp (.iaddrS (congrArg some e1) rfl me<|by decide)<|Dy rfl rfl<|Dp (.faddr rfl)<|Dy rfl rfl<|Dl rfl .nil (.load rfl hba hra rfl rfl)<|Dy rfl rfl<|Dp (.mv rfl)<|Dy rfl rfl<|Dp (.mv rfl)<|Dy rfl rfl<|Dp (.iaddrS (congrArg some ei) rfl aey<|by decide)<|Dy rfl rfl<|Dl rfl .nil (.load rfl lN uB rfl rfl)<|Dy rfl rfl<|Dp (.eql rfl rfl PE)<|Dy rfl rfl<|Dp (.mv rfl)<|?_
  cases hab:decide (x.a=.ofNat (i+1)) with
  | false=>
   rw[hab,Bool.false_and]at mN
   refine Dk rfl rfl rfl<|Dk rfl rfl rfl<|Dk rfl rfl rfl<|Dk rfl rfl rfl<|Dk rfl rfl rfl<|Dk rfl rfl rfl<|Dk rfl rfl rfl<|Dk rfl rfl rfl<|Dk rfl rfl rfl<|Dk rfl rfl rfl<|Dy rfl rfl<|Dp (.bj rfl rfl)<|Dp (.bj rfl rfl)<|Dp (.mv rfl)<|D0 .nil (fin (b:=false) mN.symm ?_)<|λo ho=>nomatch ho
   exact dM rfl
  | true=>
   rw[hab,Bool.true_and]at mN
   refine Dy rfl rfl<|Dp (.mv rfl)<|Dy rfl rfl<|Dp (.mv rfl)<|Dy rfl rfl<|Dp (.iaddrS (congrArg some e1) rfl me<|by decide)<|Dy rfl rfl<|Dp (.faddr rfl)<|Dy rfl rfl<|Dl rfl .nil (.load rfl hba hra rfl rfl)<|Dy rfl rfl<|Dp (.mv rfl)<|Dy rfl rfl<|Dp (.mv rfl)<|Dy rfl rfl<|Dp (.iaddrS (congrArg some ek) rfl aez<|by decide)<|Dy rfl rfl<|Dl rfl .nil (.load rfl Cs hrk rfl rfl)<|Dy rfl rfl<|Dp (.eql rfl rfl heb)<|Dy rfl rfl<|Dp (.cV rfl rfl)<|Dp (.bj rfl rfl)<|Dp (.mv rfl)<|D0 .nil (fin mN.symm ?_)<|λo ho=>nomatch ho
   exact dM rfl
theorem eqU (a b:Nat):eqBy 20 .pi (.int .u8 (.ofNat a)) (.int .u8 (.ofNat b))=some (decide (a=b)):=by
 show some (ieq (.ofNat a)<|.ofNat b)=_
 rw[rh]
 exact congrArg some<|dN a b
theorem ab6 {ps:Nat->Nat}{tp:Nat->Bool}{n i k:Nat}{ch:Nat->CH}(hn:n<=8):gK ps tp n ch i k<=1000:=by
 have hl:(vj ps tp n ch).length=n:=by unfold vj;rw[List.length_map,List.length_range]
 have h1:=D1 1 8 (L:=vj ps tp n ch) (by omega)<|(vj ps tp n ch).take i
 have h2:((vj ps tp n ch).take i).length*8<=8*8:=Nat.mul_le_mul_right 8 (by rw[List.length_take];omega)
 have h3:=aaN 1 (Ue ps tp n ch i)<|(vj ps tp n ch).take k
 have h4:((vj ps tp n ch).take k).length<=8:=by rw[List.length_take];omega
 unfold gK
 split<;>omega
theorem abz {tv ids vo:AV}{n rb cap:Nat}{sl:Bool}{L:List (List AV)}{ps ky:Nat->Nat}{TL:List Bool}{ch:Nat->CH}(hrb:Has rb (.r true L 4) s)(XW:∀i,i<n->∃x z y w:Nat,x<=255/\z<=255/\y<=255/\w<=255/\L[i]?=some [.int .u8 (.ofNat x),.int .u8 (.ofNat z),.int .u8 (.ofNat y),.int .u8 (.ofNat w)]/\y=ky i/\w%2=ps i)
  (hka:∀j,j<n->∃a:Nat,binV .and (.int .u8<|.ofNat<|ky j) (.int .u8<|.ofNat 1)=some (.int .u8<|.ofNat a)/\decide (a=0)=x6 1 (ch j).k) (hT:Tru s tv TL) (hI:Src s 1 ids (nR<|fI n)) (hn:n<=8) (hS:Src s 3 vo (otR<|ec 1 (vj ps (dT TL) n ch)<|vj ps (dT TL) n ch)) {i:Nat} (hi:i<n)
  (hl:∀y v,lk [(0,.slice (some ⟨rb,0,0⟩) n cap sl 4),(1,tv),(5,.ptr<|some ⟨bf,0,0⟩),(6,ids),(9,vo),(10,iv<|.ofNat i),(7,iv<|.ofNat<|gK ps (dT TL) n ch i 0)] y=some v->lk l y=some v)
  (hk:∀l2,(∀y v,lk [(0,.slice (some ⟨rb,0,0⟩) n cap sl 4),(1,tv),(5,.ptr<|some ⟨bf,0,0⟩),(6,ids),(9,vo),(10,iv<|.ofNat i),(7,iv<|.ofNat<|gK ps (dT TL) n ch i n)] y=some v->lk l2 y=some v)->Qn l2 [] s) :
  WP P K none 174 (oN [zo 11 (.mv<|zc 0)]<|.block 4<|.loop<|a7K F T) l [] s Qn Qe Qr:=by
 refine Wg hl (λ_ _ h=>h) ?_
 have hli:lenOf ids=some n:=by rw[hI.lenOf,gq];simp[fI]
 have hGl:(ec 1 (vj ps (dT TL) n ch)<|vj ps (dT TL) n ch).length<=1000:=by
  have hl:(vj ps (dT TL) n ch).length=n:=by unfold vj;rw[List.length_map,List.length_range]
  have h1:=D1 1 8 (L:=vj ps (dT TL) n ch) (by omega)<|vj ps (dT TL) n ch
  omega
 obtain⟨xi,zi,yi,wi,_,_,_,_,adS,aeC,adO⟩:=XW i hi
 have Gu:ps i<2:=by rw[<- adO];exact Nat.mod_lt _<|by omega
 have h84:binV .rem (.int .u8<|.ofNat wi) (.int .u8<|.ofNat 2)=some (.int .u8<|.ofNat<|ps i):=by rw[<- adO];exact abk<|by omega
 obtain⟨ai,Px,aer⟩:=hka i hi
 rw[<- aeC]at Px
 refine Wq<|Wv rfl<|Wn<|Wb ?_
 unfold a7K
 refine Wp (λkk l ds s'=>ds=[]/\s'=s/\∃k,kk=n-k/\k<=n/\∀y v,lk [(0,.slice (some ⟨rb,0,0⟩) n cap sl 4),(1,tv),(5,.ptr<|some ⟨bf,0,0⟩),(6,ids),(9,vo),(10,iv<|.ofNat i),(11,iv<|.ofNat k),(7,iv<|.ofNat<|gK ps (dT TL) n ch i k)] y=some v->lk l y=some v) ?_ (n:=n-0)
  ⟨rfl,rfl,0,rfl,Nat.zero_le _,dM rfl⟩
 rintro kk l ds s' ⟨rfl,rfl,k,rfl,hkn,hl⟩
 refine Wg hl (λ_ _ h=>h) ?_
 refine Ws<|Wq<|Wv rfl<|Wv rfl<|Wr (.lenS rfl hli)<|Wj rfl rfl (eT _ _)<|Wn<|Wd rfl (λht=>Wi ?_)<|λht=>Wx ?_
 rotate_left
 ·have aeA:k=n:=by
   have:¬k<n:=λh=>of_decide_eq_false ht<|Int.ofNat_lt.2 h
   omega
  subst aeA
  exact hk _<|dM rfl
 have hlt:k<n:=Int.ofNat_lt.1<|of_decide_eq_true ht
 obtain⟨xk,zk,yk,wk,_,_,_,_,adT,aeD,adP⟩:=XW k hlt
 have hq2:ps k<2:=by rw[<- adP];exact Nat.mod_lt _<|by omega
 have h92:binV .rem (.int .u8<|.ofNat wk) (.int .u8<|.ofNat 2)=some (.int .u8<|.ofNat<|ps k):=by rw[<- adP];exact abk<|by omega
 obtain⟨ak,hak,aes⟩:=hka k hlt
 rw[<- aeD]at hak
 have aaH:=aci (ps:=ps) (tp:=dT TL) (ch:=ch) hi hlt
 have hwk:=acu (ps:=ps) (tp:=dT TL) (i:=i) (ch:=ch) hlt
 have hwl:=ab6 (ps:=ps) (tp:=dT TL) (i:=i) (k:=k) (ch:=ch) hn
 rw[abB hi,ace hlt]at aaH hwk
 have uB:L[0+i]?=some [.int .u8 (.ofNat xi),.int .u8<|.ofNat zi,.int .u8<|.ofNat yi,.int .u8<|.ofNat wi]:=by rw[Nat.zero_add];exact adS
 have hrk:L[0+k]?=some [.int .u8 (.ofNat xk),.int .u8<|.ofNat zk,.int .u8<|.ofNat yk,.int .u8<|.ofNat wk]:=by rw[Nat.zero_add];exact adT
 have fin:∀{l9:Sl}{w:Nat},w=(gK ps (dT TL) n ch i<|k+1)->(∀y v,lk [(0,.slice (some ⟨rb,0,0⟩) n cap sl 4),(1,tv),(5,.ptr<|some ⟨bf,0,0⟩),(6,ids),(9,vo),(10,iv<|.ofNat i),(11,iv<|.ofNat k),(7,iv<|.ofNat w)] y=some v->lk l9 y=some v)->WP P K none 174 (.ops [zm 77 11,zo 78<|.arith .add 77<|zc 1,zm 11 78]) l9 [] s' (λl ds s2=>∃m',m'<n-k/\(ds=[]/\s2=s'/\∃k,m'=n-k/\k<=n/\∀y v,lk [(0,.slice (some ⟨rb,0,0⟩) n cap sl 4),(1,tv),(5,.ptr<|some ⟨bf,0,0⟩),(6,ids),(9,vo),(10,iv<|.ofNat i),(11,iv<|.ofNat k),(7,iv<|.ofNat<|gK ps (dT TL) n ch i k)] y=some v->lk l y=some v)) (λe l ds s=>match Nat.beq e 4 with | true=>Qn l ds s | false=>Qe e l ds s) Qr:=by
  intro l9 w hw hl9
  subst hw
  refine Wg hl9 (λ_ _ h=>h) ?_
  refine Wo<|Wv rfl<|Wj rfl rfl (bM<|by omega)<|Wv rfl<|Wn ?_
  exact⟨n-(k+1),by omega,rfl,rfl,k+1,rfl,hlt,dM rfl⟩
 refine Ws<|Wb<|Ws<|Wq<|Wv rfl<|Wv rfl<|Wr (.iaddrS rfl rfl hi<|by decide)<|Wf rfl<|Wl rfl hrb uB rfl rfl<|Wj rfl rfl h84<|Wh rfl rfl (eqU _ _)<|Wv rfl ?_
 by_cases IV:ps i=0
 ·rw[decide_eq_true IV]
  rw[decide_eq_false (show¬ps i=1 by omega)]at hwk
  refine Wk rfl rfl<|Wk rfl rfl<|Wk rfl rfl<|Wk rfl rfl<|Wk rfl rfl<|Wk rfl rfl<|Wk rfl rfl<|Wr (.cV rfl rfl)<|Wv rfl<|Wk rfl rfl<|Wk rfl rfl<|Wk rfl rfl<|Wk rfl rfl<|Wk rfl rfl<|Wu rfl<|Wu rfl<|Wu rfl<|Wu rfl<|Wk rfl rfl<|Wr (.cV rfl rfl)<|Wn<|Wd rfl (λ_=>Wx<|fin (w:=(gK ps (dT TL) n ch i k)) (by rw[hwk];rfl) ?_) Dz
  exact dM rfl
 rw[decide_eq_false IV]
 rw[decide_eq_true (show ps i=1 by omega),Bool.true_and]at hwk aaH
 refine Wy rfl rfl<|Wv rfl<|Wy rfl rfl<|Wv rfl<|Wy rfl rfl<|Wr (.iaddrS rfl rfl hlt<|by decide)<|Wy rfl rfl<|Wf rfl<|Wy rfl rfl<|Wl rfl hrb hrk rfl rfl<|Wy rfl rfl<|Wj rfl rfl h92<|Wy rfl rfl<|Wh rfl rfl (eqU _ _)<|Wr (.bj rfl rfl)<|Wv rfl<|?_
 by_cases q7:ps k=1
 ·rw[decide_eq_true q7]
  rw[decide_eq_false (show¬ps k=0 by omega),Bool.false_and,Bool.and_false]at hwk
  refine Wk rfl rfl<|Wk rfl rfl<|Wk rfl rfl<|Wk rfl rfl<|Wk rfl rfl<|Wu rfl<|Wu rfl<|Wu rfl<|Wu rfl<|Wk rfl rfl<|Wr (.cV rfl rfl)<|Wn<|Wd rfl (λ_=>Wx<|fin (w:=(gK ps (dT TL) n ch i k)) (by rw[hwk];rfl) ?_) Dz
  exact dM rfl
 rw[decide_eq_false q7]
 rw[decide_eq_true (show ps k=0 by omega),Bool.true_and]at hwk aaH
 -- the rest,for who is not RU
 have main:∀{l9:Sl},dT TL i=false->(∀y v,lk [(0,.slice (some ⟨rb,0,0⟩) n cap sl 4),(1,tv),(5,.ptr<|some ⟨bf,0,0⟩),(6,ids),(9,vo),(10,iv<|.ofNat i),(11,iv<|.ofNat k),(7,iv<|.ofNat<|gK ps (dT TL) n ch i k)] y=some v->lk l9 y=some v)->WP P K none 174 (oN [zm 107 0,zm 108 11,zo 109<|.iaddrS 4 107 108,zf 110 2 109,zl 111 110,zo 112<|.arith .and 111<|.const<|.int .u8<|.ofNat 1,zo 113<|.eql false .pi 112<|.const<|.int .u8<|.ofNat 0,zm 114 113,zg 115 (.mv 0) 114 false,zg 116 (.mv 10) 114 false,zg 117 (.iaddrS 4 115 116) 114 false,zg 118 (.faddr 2 117) 114 false,zg 119 (.load false 1 118) 114 false,zg 120 (.arith .and 119<|.const<|.int .u8<|.ofNat 1) 114 false,zg 121 (.eql true .pi 120<|.const<|.int .u8<|.ofNat 0) 114 false,zo 122<|.pick 114 (.const<|.bool true) 121,zm 12 122]<|oN [zo 13 (.mv<|.const<|.bool false)]<|.seq (oN [zo 14 (.mv<|zc 0)]<|.block 6<|.loop<|a7J F T)<|.seq (oN [zm 154 13,zm 155 12,zo 156<|.eql true .pb 154 155]<|.cond (.tmp 156) (oN [zo 4 (.mv<|.const<|.bool false)] .ret) .skip)<|oN [zm 157 12]<|.cond (.tmp 157) (.ops [zm 158 7,zo 159<|.arith .add 158<|zc 1,zm 7 159]) .skip) l9 [] s' (λl ds s=>WP P K none 174 (.ops [zm 77 11,zo 78<|.arith .add 77<|zc 1,zm 11 78]) l ds s (λl ds s2=>∃m',m'<n-k/\(ds=[]/\s2=s'/\∃k,m'=n-k/\k<=n/\∀y v,lk [(0,.slice (some ⟨rb,0,0⟩) n cap sl 4),(1,tv),(5,.ptr<|some ⟨bf,0,0⟩),(6,ids),(9,vo),(10,iv<|.ofNat i),(11,iv<|.ofNat k),(7,iv<|.ofNat<|gK ps (dT TL) n ch i k)] y=some v->lk l y=some v)) (λe l ds s=>match Nat.beq e 4 with | true=>Qn l ds s | false=>Qe e l ds s) Qr) (λe l ds s=>match Nat.beq e 5 with | true=>WP P K none 174 (.ops [zm 77 11,zo 78<|.arith .add 77<|zc 1,zm 11 78]) l ds s (λl ds s2=>∃m',m'<n-k/\(ds=[]/\s2=s'/\∃k,m'=n-k/\k<=n/\∀y v,lk [(0,.slice (some ⟨rb,0,0⟩) n cap sl 4),(1,tv),(5,.ptr<|some ⟨bf,0,0⟩),(6,ids),(9,vo),(10,iv<|.ofNat i),(11,iv<|.ofNat k),(7,iv<|.ofNat<|gK ps (dT TL) n ch i k)] y=some v->lk l y=some v)) (λe l ds s=>match Nat.beq e 4 with | true=>Qn l ds s | false=>Qe e l ds s) Qr | false=>match Nat.beq e 4 with | true=>Qn l ds s | false=>Qe e l ds s) Qr:=by
  intro l9 hno hl9
  rw[hno,Bool.not_false,Bool.true_and]at hwk aaH
  refine Wg hl9 (λ_ _ h=>h) ?_
  have rest:∀{l8:Sl}{my:Bool},my=(!x6 1 (ch i).k||x6 1 (ch k).k)->(∀y v,lk [(0,.slice (some ⟨rb,0,0⟩) n cap sl 4),(1,tv),(5,.ptr<|some ⟨bf,0,0⟩),(6,ids),(9,vo),(10,iv<|.ofNat i),(11,iv<|.ofNat k),(7,iv<|.ofNat<|gK ps (dT TL) n ch i k),(12,.bool my)] y=some v->lk l8 y=some v)->WP P K none 174 (oN [zo 13 (.mv<|.const<|.bool false)]<|.seq (oN [zo 14 (.mv<|zc 0)]<|.block 6<|.loop<|a7J F T)<|.seq (oN [zm 154 13,zm 155 12,zo 156<|.eql true .pb 154 155]<|.cond (.tmp 156) (oN [zo 4 (.mv<|.const<|.bool false)] .ret) .skip)<|oN [zm 157 12]<|.cond (.tmp 157) (.ops [zm 158 7,zo 159<|.arith .add 158<|zc 1,zm 7 159]) .skip) l8 [] s' (λl ds s=>WP P K none 174 (.ops [zm 77 11,zo 78<|.arith .add 77<|zc 1,zm 11 78]) l ds s (λl ds s2=>∃m',m'<n-k/\(ds=[]/\s2=s'/\∃k,m'=n-k/\k<=n/\∀y v,lk [(0,.slice (some ⟨rb,0,0⟩) n cap sl 4),(1,tv),(5,.ptr<|some ⟨bf,0,0⟩),(6,ids),(9,vo),(10,iv<|.ofNat i),(11,iv<|.ofNat k),(7,iv<|.ofNat<|gK ps (dT TL) n ch i k)] y=some v->lk l y=some v)) (λe l ds s=>match Nat.beq e 4 with | true=>Qn l ds s | false=>Qe e l ds s) Qr) (λe l ds s=>match Nat.beq e 5 with | true=>WP P K none 174 (.ops [zm 77 11,zo 78<|.arith .add 77<|zc 1,zm 11 78]) l ds s (λl ds s2=>∃m',m'<n-k/\(ds=[]/\s2=s'/\∃k,m'=n-k/\k<=n/\∀y v,lk [(0,.slice (some ⟨rb,0,0⟩) n cap sl 4),(1,tv),(5,.ptr<|some ⟨bf,0,0⟩),(6,ids),(9,vo),(10,iv<|.ofNat i),(11,iv<|.ofNat k),(7,iv<|.ofNat<|gK ps (dT TL) n ch i k)] y=some v->lk l y=some v)) (λe l ds s=>match Nat.beq e 4 with | true=>Qn l ds s | false=>Qe e l ds s) Qr | false=>match Nat.beq e 4 with | true=>Qn l ds s | false=>Qe e l ds s) Qr:=by
   intro l8 my hmy hl8
   refine Wg hl8 (λ_ _ h=>h) ?_
   rw[<- hmy]at hwk aaH
   refine Wq<|Wv rfl<|Wn ?_
   refine Ws<|aby (w:=(gK ps (dT TL) n ch i k)) (my:=my) hi hlt hI hS hGl (dM rfl) ?_
   intro l7 hl7
   rw[aaH]at hl7
   refine Wg hl7 (λ_ _ h=>h) ?_
   refine Ws<|Wq<|Wv rfl<|Wv rfl<|Wh rfl rfl (adC my)<|Wn<|Wd rfl fS<|λ_=>Wi ?_
   refine Wq<|Wv rfl<|Wn ?_
   cases my with
   | true=>
    refine Wd rfl (λ_=>?_) Dz
    refine Wo<|Wv rfl<|Wj rfl rfl (bM<|by omega)<|Wv rfl<|Wn<|fin (w:=(gK ps (dT TL) n ch i k)+1) (by rw[hwk];rfl) ?_
    exact dM rfl
   | false=>
    refine Wd rfl fS<|λ_=>Wi<|fin (w:=(gK ps (dT TL) n ch i k)) (by rw[hwk];rfl) ?_
    exact dM rfl
  refine Wq<|Wv rfl<|Wv rfl<|Wr (.iaddrS rfl rfl hlt<|by decide)<|Wf rfl<|Wl rfl hrb hrk rfl rfl<|Wj rfl rfl hak<|Wh rfl rfl (eqU _ _)<|Wv rfl ?_
  rw[aes]
  cases Cs:x6 1 (ch k).k with
  | true=>
   refine Wk rfl rfl<|Wk rfl rfl<|Wk rfl rfl<|Wk rfl rfl<|Wk rfl rfl<|Wk rfl rfl<|Wk rfl rfl<|Wr (.cV rfl rfl)<|Wv rfl<|Wn<|rest (my:=true) (by rw[Cs,Bool.or_true]) ?_
   exact dM rfl
  | false=>
   refine Wy rfl rfl<|Wv rfl<|Wy rfl rfl<|Wv rfl<|Wy rfl rfl<|Wr (.iaddrS rfl rfl hi<|by decide)<|Wy rfl rfl<|Wf rfl<|Wy rfl rfl<|Wl rfl hrb uB rfl rfl<|Wy rfl rfl<|Wj rfl rfl Px<|Wy rfl rfl<|Wh rfl rfl (eqU _ _)<|Wr (.bj rfl rfl)<|Wv rfl<|Wn<|rest (my:=!decide (ai=0)) (by rw[Cs,aer,Bool.or_false]) ?_
   exact dM rfl
 refine Wy rfl rfl<|Wv rfl<|Wy rfl rfl<|Wv rfl<|Wy rfl rfl<|Wr (.lenS rfl hT.len)<|Wy rfl rfl<|Wj rfl rfl (eT _ _)<|Wy rfl rfl<|Wv rfl<|?_
 by_cases hit:i<TL.length
 ·obtain⟨rt,ct,st,rfl,hrt⟩:=hT.at' (by omega)
  have hbt:TL[i]?=some (dT TL i):=by
   unfold dT
   rw[List.getElem?_eq_getElem hit]
  have abV:(TL.map λb=>[AV.bool b])[0+i]?=some [.bool (dT TL i)]:=by rw[Nat.zero_add,List.getElem?_map,hbt];rfl
  rw[decide_eq_true (show Int.ofNat i<Int.ofNat TL.length from Int.ofNat_lt.2 hit)]
  refine Wy rfl rfl<|Wv rfl<|Wy rfl rfl<|Wv rfl<|Wy rfl rfl<|Wr (.iaddrS rfl rfl hit<|by decide)<|Wy rfl rfl<|Wl rfl hrt abV rfl rfl<|Wy rfl rfl<|Wr (.cV rfl rfl)<|Wr (.bj rfl rfl)<|Wn ?_
  cases htb:dT TL i with
  | false=>
   refine Wd rfl fS<|λ_=>Wi<|main htb ?_
   exact dM rfl
  | true=>
   rw[htb]at hwk
   refine Wd rfl (λ_=>Wx<|fin (w:=(gK ps (dT TL) n ch i k)) (by rw[hwk];rfl) ?_) Dz
   exact dM rfl
 ·have htb:dT TL i=false:=by unfold dT;rw[List.getElem?_eq_none (by omega)]
  rw[decide_eq_false (show¬Int.ofNat i<Int.ofNat TL.length fromλh=>hit<|Int.ofNat_lt.1 h)]
  refine Wk rfl rfl<|Wk rfl rfl<|Wk rfl rfl<|Wk rfl rfl<|Wy rfl rfl<|Wr (.bj rfl rfl)<|Wr (.bj rfl rfl)<|Wn<|Wd rfl fS<|λ_=>Wi<|main htb ?_
  exact dM rfl
theorem abx {tv ids vo:AV}{n:Nat}{lv:AV}{L:List (List AV)}{ps ky:Nat->Nat}{TL:List Bool}{ch:Nat->CH}(hlv:0<n->∃rb cap sl,lv=.slice (some ⟨rb,0,0⟩) n cap sl 4/\Has rb (.r true L 4) s)(XW:∀i,i<n->∃x z y w:Nat,x<=255/\z<=255/\y<=255/\w<=255/\L[i]?=some [.int .u8 (.ofNat x),.int .u8 (.ofNat z),.int .u8 (.ofNat y),.int .u8 (.ofNat w)]/\y=ky i/\w%2=ps i)
  (hka:∀j,j<n->∃a:Nat,binV .and (.int .u8<|.ofNat<|ky j) (.int .u8<|.ofNat 1)=some (.int .u8<|.ofNat a)/\decide (a=0)=x6 1 (ch j).k) (hT:Tru s tv TL) (hI:Src s 1 ids (nR<|fI n)) (hn:n<=8) (hS:Src s 3 vo (otR<|ec 1 (vj ps (dT TL) n ch)<|vj ps (dT TL) n ch))
  (hl:∀y v,lk [(0,lv),(1,tv),(5,.ptr<|some ⟨bf,0,0⟩),(6,ids),(9,vo),(7,iv 0)] y=some v->lk l y=some v)
  (hk:∀l2,(∀y v,lk [(5,.ptr<|some ⟨bf,0,0⟩),(9,vo),(7,iv<|.ofNat (ec 1 (vj ps (dT TL) n ch)<|vj ps (dT TL) n ch).length)] y=some v->lk l2 y=some v)->Qn l2 [] s) :
  WP P K none 174 (oN [zo 10 (.mv<|zc 0)]<|.block 2<|.loop<|a7I F T) l [] s Qn Qe Qr:=by
 refine Wg hl (λ_ _ h=>h) ?_
 have hli:lenOf ids=some n:=by rw[hI.lenOf,gq];simp[fI]
 have hw0:gK ps (dT TL) n ch 0 0=0:=by
  unfold gK
  have h0:(if rx 1 (Ue ps (dT TL) n ch 0)=true then(s8 1 (Ue ps (dT TL) n ch 0)<|(vj ps (dT TL) n ch).take 0).length else 0)=0:=by split<;>rfl
  rw[h0]
  rfl
 refine Wq<|Wv rfl<|Wn<|Wb ?_
 unfold a7I
 refine Wp (λkk l ds s'=>ds=[]/\s'=s/\∃i,kk=n-i/\i<=n/\∀y v,lk [(0,lv),(1,tv),(5,.ptr<|some ⟨bf,0,0⟩),(6,ids),(9,vo),(10,iv<|.ofNat i),(7,iv<|.ofNat<|gK ps (dT TL) n ch i 0)] y=some v->lk l y=some v) ?_ (n:=n-0)
  ⟨rfl,rfl,0,rfl,Nat.zero_le _,by rw[hw0];exact dM rfl⟩
 rintro kk l ds s' ⟨rfl,rfl,i,rfl,hin,hl⟩
 refine Wg hl (λ_ _ h=>h) ?_
 refine Ws<|Wq<|Wv rfl<|Wv rfl<|Wr (.lenS rfl hli)<|Wj rfl rfl (eT _ _)<|Wn<|Wd rfl (λht=>Wi ?_)<|λht=>Wx ?_
 rotate_left
 ·have aex:i=n:=by
   have:¬i<n:=λh=>of_decide_eq_false ht<|Int.ofNat_lt.2 h
   omega
  subst aex
  refine hk _ ?_
  rw[<- abJ]
  exact dM rfl
 have hlt:i<n:=Int.ofNat_lt.1<|of_decide_eq_true ht
 obtain⟨rb,cap,sl,rfl,hrb⟩:=hlv<|by omega
 refine Ws<|Wb<|abz hrb XW hka hT hI hn hS hlt (dM rfl) ?_
 intro l4 hl4
 refine Wg hl4 (λ_ _ h=>h) ?_
 rw[act hlt]
 refine Wo<|Wv rfl<|Wj rfl rfl (bM<|by omega)<|Wv rfl<|Wn ?_
 exact⟨n-(i+1),by omega,rfl,rfl,i+1,rfl,hlt,dM rfl⟩
def a7X (F:Nat->FuncId):List bS:=[⟨(some 16),(.mv (.tmp 0)),none⟩,⟨(some 17),(.call (.func (F 31)) [(.tmp 16)]),none⟩,⟨(some 15),(.mv (.tmp 17)),none⟩,⟨(some 18),(.extract (.tmp 15) 0),none⟩,⟨(some 19),(.extract (.tmp 15) 1),none⟩,⟨(some 5),(.mv (.tmp 18)),none⟩,⟨(some 6),(.mv (.tmp 19)),none⟩]
def a7Z (F:Nat->FuncId)(T:Nat->TypeId):AC:=(.seq (oN [zm 20 5,zo 21 (.eql false .ptr 20 (.const (.pointer none)))] (.cond 21 (oN [zo 4 (.mv (.const (.bool false)))] .ret) .skip)) (oN [zm 22 0,zm 23 0,zo 24 (.lenS 23),zo 25 (.minmax false [24,(zc 8)]),zo 26 (.slc 4 22 none (some 25) none),zm 0 26] (oN [zo 7 (.mv (zc 0))] (.seq (oN [zo 8 (.mv (zc 0))] (.block 0 (.loop (a7A F T)))) (oN [zm 64 5,zo 65 (.mkif (T 26) 64),oF F 66 32 [65,(zc 1)],zm 9 66] (.seq (oN [zo 10 (.mv (zc 0))] (.block 2 (.loop (a7I F T)))) (oN [zm 160 9,zo 161 (.lenS 160),zm 162 7,zo 163 (.eql false .pi 161 162),zm 164 163,zg 165 (.mv 5) 164 true,zg 166 (.mkif (T 26) 165) 164 true,zg 167 (.call (.func (F 32)) [166,(zc 0)]) 164 true,zg 168 (.lenS 167) 164 true,zg 169 (.eql false .pi 168 (zc 0)) 164 true,zo 170 (.pick 164 169 (.const (.bool false))),zm 171 170,zg 172 (.call (.func (F 33)) []) 171 true,zo 173 (.pick 171 172 (.const (.bool false))),zm 4 173] .ret)))))))
structure aaf (C:List CD)(n:Nat)(kc:Nat->Int):Prop where
 len:C.length=n+1
 no:∀c∈C,c.ab=[]
 at':∀j,j<n->∃c,C[j+1]?=some c/\c.kind=2/\c.keys=kc j
theorem aaf.none {C:List CD}{n:Nat}{kc:Nat->Int}(h:aaf C n kc):∀c∈C,∀x∈c.ab,x.kind≠4:=λc hc x hx=>by rw[h.no c hc]at hx;cases hx
theorem aaA {α β:Type}{f:α->Option β}{g:α->β}:∀(l:List α),(∀x∈l,f x=some (g x))->l.filterMap f=l.map g:=by
 intro l
 induction l with
 | nil=>intro _;rfl
 | cons x l ih=>
  intro h
  rw[List.filterMap_cons,h x<|.head _,List.map_cons,ih λy hy=>h y<|.tail _ hy]
theorem abo (ps:Nat->Nat)(tp:Nat->Bool){n:Nat}{C:List CD}{kc:Nat->Int}(hC:aaf C n kc):∃ch:Nat->CH,(∀j,j<n->(ch j).k=kc j)/\ij (λ_ c=>c) (dW ps tp n n) C (dW ps tp n n).fi=vj ps tp n ch:=by
 have key:∀j,j<n->∃x,uY (λ_ c=>c) (dW ps tp n n) C (.ofNat<|j+1)=some x/\x.k=kc j:=by
  intro j hj
  obtain⟨c,h1,h2,h3⟩:=hC.at' j hj
  obtain⟨hf,ho,_⟩:=aan ps tp (n:=n) (q:=n) hj
  have hF:(dW ps tp n n).onF C (.ofNat<|j+1)=some (t6 ps tp n j,c):=by
   unfold SD.onF
   rw[hf]
   show(if Int.ofNat (j+1)∈(dW ps tp n n).fi then match (dW ps tp n n).ob[j]? with | none=>none | some o=>if o.gE<0 then none else match C[o.gE.toNat]? with | none=>none | some c=>some (o,c)else none)=_
   rw[if_pos (show Int.ofNat (j+1)∈(dW ps tp n n).fi from List.mem_map.2 ⟨j,List.mem_range.2 hj,rfl⟩),ho]
   show(if Int.ofNat (j+1)<0 then none else match C[j+1]? with | none=>none | some c=>some (t6 ps tp n j,c))=_
   rw[if_neg (show¬Int.ofNat (j+1)<0 from Int.not_lt.2<|Int.natCast_nonneg _),h1]
  refine⟨tK (λ_ c=>c) ⟨c.power,c.qn,c.keys⟩<|qy (dW ps tp n n) C<|t6 ps tp n j,?_,?_⟩
  ·unfold uY
   rw[hF]
   show(if c.kind=2 then _ else _)=_
   rw[if_pos h2]
  ·rw[show qy (dW ps tp n n) C (t6 ps tp n j)=[] by unfold qy;rw[L0 hC.none];rfl]
   exact h3
 refine⟨λj=>match uY (λ_ c=>c) (dW ps tp n n) C (.ofNat<|j+1)with | some x=>x | none=>⟨0,0,0⟩,λj hj=>?_,?_⟩
 ·obtain⟨x,h1,h2⟩:=key j hj
  show(match uY (λ_ c=>c) (dW ps tp n n) C (.ofNat<|j+1)with | some x=>x | none=>⟨0,0,0⟩:CH).k=_
  rw[h1]
  exact h2
 ·unfold ij vj
  show((List.range n).map λj=>Int.ofNat<|j+1).filterMap _=_
  rw[List.filterMap_map]
  refine aaA _ λj hj=>?_
  have hj:=List.mem_range.1 hj
  obtain⟨x,h1,h2⟩:=key j hj
  obtain⟨_,_,ho⟩:=aan ps tp (n:=n) (q:=n) hj
  show(match (dW ps tp n n).obj (.ofNat<|j+1),uY (λ_ c=>c) (dW ps tp n n) C (.ofNat<|j+1)with | some o,some c=>some (⟨o,c⟩:BT) | _,_=>none)=some (Ue ps tp n _ j)
  unfold Ue
  rw[ho,h1]
  show some (⟨t6 ps tp n j,x⟩:BT)=some ⟨t6 ps tp n j,match uY (λ_ c=>c) (dW ps tp n n) C (.ofNat<|j+1)with | some x=>x | none=>⟨0,0,0⟩⟩
  rw[h1]
theorem acf (ps:Nat->Nat)(tp:Nat->Bool)(n:Nat)(ch:Nat->CH):ec 0 (vj ps tp n ch) (vj ps tp n ch)=[]:=by
 unfold ec
 refine List.flatMap_eq_nil_iff.2 λx _=>?_
 split
 ·unfold s8
  rw[List.filter_eq_nil_iff.2 λy hy=>?_,List.map_nil]
  obtain⟨k,hk,rfl⟩:=List.mem_map.1 hy
  unfold aas
  rw[show decide ((Ue ps tp n ch k).o.NP=.ofNat (0+1))=false from decide_eq_false (by
   show¬(if(decide (k<n)&&decide (ps k=0))=true then(2:Int)else 0)=1
   split<;>decide)]
  simp
 ·rfl
structure LawF (P:Program)(K:Orc)(F:Nat->FuncId)(T:Nat->TypeId):Prop where
 hU:LawU P K F T
 hX:BaseX P K F T
 hY:BaseY P K F T
 hw:∀s,bB P K (F 33) [] s<|λv s'=>v=.bool true/\s'=s
theorem WR.aeN {mx:Bool}{args:List Operand}{v r:AV}{vs:List AV}(ha:aI (cr l) args=some (v::vs))(hv:aw (mm mx) vs v=some r):WR P (.minmax mx args) l s r:=
 WR.mk' (λ_ _ _ _ _=>rfl) (λe H he=>by simp only[aval,lG he ha,hv])
theorem WR.abH {sz:Nat}{x:Operand}{hi:Operand}(hx:cr l x=some .empty)(hh:cr l hi=some (.int .i64 (.ofNat 0))):WR P (.slc sz x none (some hi) none) l s .empty:=by
 refine WR.mk' (v:=.empty) (λ_ _ _ _ _=>rfl)<|λe H he=>?_
 simp only[aval,aG he hx,cL,aG he hh,bnd]
theorem abZ (hW:LawF P K F T)(hc:aaq P K F){lv tv ids:AV}{og j:SH}{L:List (List AV)}{ps ky:Nat->Nat}{TL:List Bool}{n:Nat}{kc:Nat->Int}(hC:aaf C n kc)(hL:acH t lv L ps ky)(hLc:∀a m c sl rw,lv=.slice a m c sl rw->m<=c)(hn:n=min L.length 8)(hT:Tru t tv TL)
  (hka:∀j,j<n->∃a:Nat,binV .and (.int .u8<|.ofNat<|ky j) (.int .u8<|.ofNat 1)=some (.int .u8<|.ofNat a)/\decide (a=0)=x6 1 (kc j))
  (hs:aH bl EL (dW ps (dT TL) n 0) (og++(j++t)) s) (hEL:EL.length<=16) (hG:Gr 1 ids (nR<|fI n) og) (hf:Has bf (.r false [bu bl aZ 60 c1 c2 c3 c4 bE] 8) t) (eQ:cI t aZ C)
  (hl:∀y w,lk [(0,lv),(1,tv),(5,.ptr<|some ⟨bf,0,0⟩),(6,ids)] y=some w->lk l y=some w) :
  WP P K none 174 (a7Z F T) l [] s Kj (λ_=>Kj) (λl ds s=>ds=[]/\lk l 4=some (.bool true)/\∀b o,Has b o t->Has b o s):=by
 refine Wg hl (λ_ _ h=>h) ?_
 have hn8:n<=8:=by omega
 unfold a7Z
 refine Ws<|Wq<|Wv rfl<|Wh (b:=false) rfl rfl rfl<|Wn<|Wd rfl fS<|λ_=>Wi ?_
 have hmn:aw (mm false) [iv (.ofNat 8)] (iv<|.ofNat L.length)=some (iv<|.ofNat n):=by
  by_cases h8:8<L.length
  ·show some (AV.int .i64<|match ilt (.ofNat 8) (.ofNat L.length)with | true=>.ofNat 8 | false=>.ofNat L.length)=_
   rw[fw,bh.2 h8,hn,Nat.min_eq_right<|by omega]
  ·show some (AV.int .i64<|match ilt (.ofNat 8) (.ofNat L.length)with | true=>.ofNat 8 | false=>.ofNat L.length)=_
   rw[fw,jv.2 h8,hn,Nat.min_eq_left<|by omega]
 have ac3:∃lw,(∀(l':Sl)(s':SH),lk l' 22=some lv->lk l' 25=some (iv<|.ofNat n)->WR P (.slc 4 (.tmp 22) none (some<|.tmp 25) none) l' s' lw)/\(0<n->∃rb cap sl,lw=.slice (some ⟨rb,0,0⟩) n cap sl 4/\Has rb (.r true L 4) t):=by
  have hlen:=hL.len
  cases lv with
  | slice a m c sl rw=>
   have hm:m=L.length:=Option.some.inj hlen
   have hmc:=hLc _ _ _ _ _ rfl
   refine⟨.slice a n c sl rw,λl' s' h1 h2=>WR.aba (n:=m) (c:=c) h1 ?_ rfl,λh0=>?_⟩
   ·show(match lk l' 25 with | some v=>bnd c v | none=>none)=some n
    rw[h2]
    show(match Nat.ble n c with | true=>some n | false=>none)=some n
    rw[Nat.ble_eq_true_of_le (by omega)]
   ·obtain⟨rb,cap,sl',h1,h2⟩:=hL.at' (by omega)
    cases h1
    exact⟨_,_,_,rfl,h2⟩
  | empty=>
   have hm:0=L.length:=Option.some.inj hlen
   have hn0:n=0:=by omega
   subst hn0
   exact⟨.empty,λl' s' h1 h2=>WR.abH h1 h2,λh=>absurd h<|Nat.lt_irrefl 0⟩
  | _=>cases hlen
 obtain⟨lw,ac3,YH⟩:=ac3
 refine Wq<|Wv rfl<|Wv rfl<|Wr (.lenS rfl hL.len)<|Wr (.aeN rfl hmn)<|Wr (ac3 _ _ rfl rfl)<|Wv rfl<|Wn ?_
 refine Wq<|Wv rfl<|Wn ?_
 have XW:∀i,i<n->∃x z y w:Nat,x<=255/\z<=255/\y<=255/\w<=255/\L[i]?=some [.int .u8 (.ofNat x),.int .u8<|.ofNat z,.int .u8<|.ofNat y,.int .u8<|.ofNat w]/\y=ky i/\w%2=ps i:=λi hi=>hL.b i<|by omega
 refine Ws<|abw (m8:=0) (cap:=0) (sl:=false) (p8:=none) hW.hU.hB hW.hX hc YH XW hT hn8 hG hEL hs hf (dM rfl) ?_
 intro l2 s2 Gg dt CG
 refine Wg CG (λ_ _ h=>h) ?_
 obtain⟨ch,vo,Pz⟩:=abo ps (dT TL) hC
 have hcd:∀o∈(dW ps (dT TL) n n).ob,∃j:Nat,o.gE=.ofNat j/\j<C.length:=by
  intro o ho
  obtain⟨i,hi,rfl⟩:=List.mem_map.1 ho
  exact⟨i+1,rfl,by rw[hC.len];have:=List.mem_range.1 hi;omega⟩
 have hE:GE P K F T (T 26) (λ_ c=>c) C (dW ps (dT TL) n n):=hW.hU.ge (aaw ps (dT TL) hn8 n) (aam ..)<|acO hC.none hcd
 have hall:∀id∈(dW ps (dT TL) n n).fi,∃o,(dW ps (dT TL) n n).obj id=some o:=by
  intro id hid
  obtain⟨i,hi,rfl⟩:=List.mem_map.1 hid
  exact⟨_,(aan ps (dT TL) (n:=n) (q:=n)<|List.mem_range.1 hi).2.2⟩
 have hfi:(dW ps (dT TL) n n).fi.length<=400:=by show(fI n).length<=400;simp[fI];omega
 have adG:cI (og++(j++t)) aZ C:=eQ.mono λq hq=>by simp[hq]
 have hB1:=aai (p:=1) hE hW.hY (.app<|.app hf) adG dt (by decide) hfi hall
 rw[Pz]at hB1
 refine Wq<|Wv rfl<|Wr (.mkif rfl rfl)<|Ww<|Wz [gm (T 26) bf,iv<|.ofNat 1] rfl rfl hB1 ?_
 rintro wvo s3 ⟨m,gw,hS⟩
 refine Wv rfl<|Wn ?_
 have up:∀{b:Nat}{o:HO},Has b o t->Has b o s3:=λh=>gw.mem<|.app<|.app<|.app h
 have hT3:Tru s3 tv TL:=⟨hT.len,λh=>by
  obtain⟨rb,cap,sl,h1,h2⟩:=hT.at' h
  exact⟨rb,cap,sl,h1,up h2⟩⟩
 have hI3:Src s3 1 ids (nR<|fI n):=hG.out.src.mono λq hq=>(gw.mem<|.ce<|by simp[hq]).mem
 have hS3:Src s3 3 wvo (otR<|ec 1 (vj ps (dT TL) n ch)<|vj ps (dT TL) n ch):=hS.mono λq hq=>(gw.mem<|.ce<|by simp[hq]).mem
 have aeE:0<n->∃rb cap sl,lw=.slice (some ⟨rb,0,0⟩) n cap sl 4/\Has rb (.r true L 4) s3:=λh=>by
  obtain⟨rb,cap,sl,h1,h2⟩:=YH h
  exact⟨rb,cap,sl,h1,up h2⟩
 refine Ws (abx aeE XW (ch:=ch) (λj hj=>by
  obtain⟨a,h1,h2⟩:=hka j hj
  exact⟨a,h1,by rw[vo j hj];exact h2⟩) hT3 hI3 hn8 hS3 (dM rfl) ?_)
 intro l4 hl4
 refine Wg hl4 (λ_ _ h=>h) ?_
 have adK:lenOf wvo=some (ec 1 (vj ps (dT TL) n ch)<|vj ps (dT TL) n ch).length:=by rw[hS.lenOf,aaM]
 have hww:eqBy 20 .pi (iv<|.ofNat (ec 1 (vj ps (dT TL) n ch)<|vj ps (dT TL) n ch).length) (iv<|.ofNat (ec 1 (vj ps (dT TL) n ch)<|vj ps (dT TL) n ch).length)=some true:=by rw[bb,decide_eq_true rfl]
 have hB0:=aai (t:=m++(og++(j++t))) (p:=0) hE hW.hY (.app<|.app<|.app hf) (adG.mono λq hq=>List.mem_append_right _ hq) gw (by decide) hfi hall
 rw[Pz,acf]at hB0
 refine Wq<|Wv rfl<|Wr (.lenS rfl adK)<|Wv rfl<|Wh rfl rfl hww<|Wv rfl<|Wy rfl rfl<|Wv rfl<|Wy rfl rfl<|Wr (.mkif rfl rfl)<|Wy rfl rfl<|Ww<|Wz [gm (T 26) bf,iv<|.ofNat 0] rfl rfl hB0 ?_
 rintro v0 s5 ⟨m5,tn,hS5⟩
 have Uy:lenOf v0=some 0:=by rw[hS5.lenOf];rfl
 refine Wy rfl rfl<|Wr (.lenS rfl Uy)<|Wy rfl rfl<|Wh (b:=true) rfl rfl rfl<|Wr (.cV rfl rfl)<|Wv rfl<|Wy rfl rfl<|Ww<|Wz [] rfl rfl (hW.hw _) ?_
 rintro _ _ ⟨rfl,rfl⟩
 refine Wr (.cV rfl rfl)<|Wv rfl<|Wn<|We ⟨rfl,rfl,λb o h=>tn.mem<|.app<|.app<|.app<|.app h⟩
inductive Pz where
 | l (a:AV)
 | s
 | n
 | k (i:Nat)
noncomputable def adX (v:V):Pz->Bool
 | .l a=>isA v a
 | .s=>match av v with | some (.str _)=>true | _=>false
 | .n=>Nat.beq v.t 12&&Nat.beq v.f 0
 | .k i=>Nat.beq v.t 14&&(Nat.beq v.f 0&&(Nat.beq v.b 127&&Nat.beq v.a i))
def Pz.ok [Sg](a:AV):Pz->Prop
 | .l b=>a=b
 | .s=>∃s,a=.str s
 | .n=>∃m,a=iv m
 | .k i=>∃y:Nat,Sg.num i=(y:Int)/\y<256/\a=iv (.ofNat<|Nat.land y 127)
noncomputable def ab2 (R:R V):Nat->List Pz->Bool
 | _,[]=>true
 | j,p::l=>adX (atR j R) p&&ab2 R (j+1) l
noncomputable def aa4 (rs:Ev.R (Ev.R V))(sz:Nat):Nat->List (List Pz)->Bool
 | _,[]=>true
 | r,l::L=>Nat.beq l.length sz&&(ab2 (atR r rs) 0 l&&aa4 rs sz (r+1) L)
noncomputable def acw (h:FH)(b sz:Nat)(L:List (List Pz)):Bool:=Nat.blt b 262144&&(Nat.blt b h.next&&(Nat.beq (ap b h).t 1&&(Nat.beq (ap b h).n L.length&&(Nat.beq (ap b h).sz sz&&aa4 (ap b h).rs sz 0 L))))
inductive P0 {α β:Type}(R:α->β->Prop):List α->List β->Prop
 | nil:P0 R [] []
 | cons {a:α} {b:β} {l:List α} {m:List β}:R a b->P0 R l m->P0 R (a::l) (b::m)
theorem P0.len {α β:Type}{R:α->β->Prop}{l:List α}{m:List β}(h:P0 R l m):l.length=m.length:=by
 induction h with
 | nil=>rfl
 | cons _ _ ih=>simp[ih]
end
section
variable [Sg]
theorem acq {v:V}{a:AV}{p:Pz}(h:VA v a)(hp:adX v p=true):p.ok a:=by
 cases p with
 | l b=>exact vD h hp
 | s=>
  have hp:(match av v with | some (.str _)=>true | _=>false)=true:=hp
  split at hp
  ·rename_i s hs
   exact⟨s,eM h hs⟩
  ·cases hp
 | n=>
  obtain⟨h1,h2⟩:=Bool.and_eq_true_iff.1 hp
  refine⟨ed v,?_⟩
  rw[(h.mQ<|Nat.eq_of_beq_eq_true h1).1,Nat.eq_of_beq_eq_true h2]
  rfl
 | k i=>
  obtain⟨h1,hp⟩:=Bool.and_eq_true_iff.1 hp
  obtain⟨h2,hp⟩:=Bool.and_eq_true_iff.1 hp
  obtain⟨h3,h4⟩:=Bool.and_eq_true_iff.1 hp
  obtain⟨n,e1,e2,_,_,e3⟩:=h.od<|Nat.eq_of_beq_eq_true h1
  rw[Nat.eq_of_beq_eq_true h4]at e1
  rw[Nat.eq_of_beq_eq_true h2,Nat.eq_of_beq_eq_true h3]at e3
  exact⟨n,e1,e2,e3⟩
theorem ab4 {R:Ev.R V}{row:List AV}(hr:∀i a,row[i]?=some a->VA (atR i R) a):∀(l:List Pz)(j:Nat),ab2 R j l=true->row.length=j+l.length->P0 (λa p=>Pz.ok a p) (row.drop j) l:=by
 intro l
 induction l with
 | nil=>
  intro j _ hl
  rw[List.drop_eq_nil_of_le (by rw[hl];exact Nat.le_refl _)]
  exact .nil
 | cons p l ih=>
  intro j h hl
  obtain⟨h1,h2⟩:=(Bool.and_eq_true _ _).mp h
  rw[List.length_cons]at hl
  have hj:j<row.length:=by omega
  rw[List.drop_eq_getElem_cons hj]
  exact .cons (acq (hr j _<|List.getElem?_eq_getElem hj) h1)<|ih (j+1) h2<|by omega
theorem abG {rs:Ev.R (Ev.R V)}{sz:Nat}{T:Tr (List AV)}:∀(L:List (List Pz))(r:Nat),aa4 rs sz r L=true->(∀i,r<=i->i<r+L.length->∃row,T.get i=some row/\fQ sz (atR i rs) row) ->
  ∃M:List (List AV),P0 (λrow l=>P0 (λa p=>Pz.ok a p) row l) M L/\∀(i:Nat)row,M[i]?=some row->T.get (r+i)=some row/\row.length=sz:=by
 intro L
 induction L with
 | nil=>intro r _ _;exact⟨[],.nil,λi row h=>by cases h⟩
 | cons l L ih=>
  intro r h hT
  obtain⟨h1,h2⟩:=(Bool.and_eq_true _ _).mp h
  obtain⟨h2,h3⟩:=(Bool.and_eq_true _ _).mp h2
  rw[List.length_cons]at hT
  obtain⟨row,e1,e2⟩:=hT r (Nat.le_refl _)<|by omega
  have h1:l.length=sz:=Nat.eq_of_beq_eq_true h1
  obtain⟨M,m1,m2⟩:=ih (r+1) h3<|λi hi hj=>hT i (by omega)<|by omega
  refine⟨row::M,.cons (ab4 e2.cell l 0 h2 (by rw[e2.len,h1];omega)) m1,λi row' hi=>?_⟩
  cases i with
  | zero=>cases hi;exact⟨e1,e2.len⟩
  | succ i=>
   have:=m2 i row' hi
   rw[show r+(i+1)=r+1+i by omega]
   exact this
theorem abN {h:FH}{H:Heap}(hH:cj h H){b sz:Nat}{L:List (List Pz)}(hc:acw h b sz L=true):b<H.next/\∃M,P0 (λrow l=>P0 (λa p=>Pz.ok a p) row l) M L/\(HO.r false M sz).ok (H.get b):=by
 obtain⟨h1,hc⟩:=(Bool.and_eq_true _ _).mp hc
 obtain⟨h2,hc⟩:=(Bool.and_eq_true _ _).mp hc
 obtain⟨h3,hc⟩:=(Bool.and_eq_true _ _).mp hc
 obtain⟨h4,hc⟩:=(Bool.and_eq_true _ _).mp hc
 obtain⟨h5,hc⟩:=(Bool.and_eq_true _ _).mp hc
 have h1:b<262144:=bh.1 h1
 have h2:b<h.next:=bh.1 h2
 have h3:(ap b h).t=1:=Nat.eq_of_beq_eq_true h3
 have h4:(ap b h).n=L.length:=Nat.eq_of_beq_eq_true h4
 have h5:(ap b h).sz=sz:=Nat.eq_of_beq_eq_true h5
 refine⟨by rw[<- hH.next];exact h2,?_⟩
 obtain⟨T,e1,e2,e3,e4⟩:=(hH.block b h1).rows h3
 rw[h4,h5]at e1
 obtain⟨M,m1,m2⟩:=abG L 0 hc (λi _ hi=>by
  have:=e4 i<|by omega
  rwa [h5]at this)
 refine⟨M,m1,T,by rw[m1.len];exact e1,λi row hi=>?_⟩
 have:=m2 i row hi
 rwa [Nat.zero_add]at this
end
noncomputable def fgt (j:Nat):List V:=[iC 255 (4*j),iC 255 (4*j+1),BA 1 0 0 255 (4*j+2),iC 255 (4*j+3)]
noncomputable def fgL (n least ex:Nat):V:=⟨[rowV ((List.range n).flatMap fgt)],.undef,15,0,8+ex,0,n,least,900⟩
noncomputable def isFs (v:V):Bool:=Nat.beq v.t 15&&(Nat.beq v.f 0&&(Nat.beq v.a 900&&Nat.beq (v.e/2) 4))
def four (x z y w:Nat->Int)(i:Nat):List AV:=[.int .u8 (x i),.int .u8 (z i),.int .u8 (y i),.int .u8 (w i)]
section
variable [Sg]
theorem abj {v:V}{len cap:Nat}{a:AV}(hs:isFs v=true)(hv:VA v a)(h1:Sg.num 900=(len:Int))(h2:Sg.num 901=(cap:Int)):a=.slice (some ⟨0,0,0⟩) len cap false 4:=by
 obtain⟨k1,hs⟩:=Bool.and_eq_true_iff.1 hs
 obtain⟨k2,hs⟩:=Bool.and_eq_true_iff.1 hs
 obtain⟨k3,k4⟩:=Bool.and_eq_true_iff.1 hs
 obtain⟨r,n,c,T,N,cs,rfl,_,_,e1,e2,_⟩:=hv.aay<|Nat.eq_of_beq_eq_true k1
 rw[Nat.eq_of_beq_eq_true k3]at e1 e2
 have e1:len=n:=Int.ofNat.inj<|h1.symm.trans e1
 have e2:cap=c:=Int.ofNat.inj<|h2.symm.trans e2
 rw[Nat.eq_of_beq_eq_true k2,Nat.eq_of_beq_eq_true k4,e1,e2]
theorem VAs.app:∀{a:List V}{b:List AV}{c:List V}{d:List AV},VAs a b->VAs c d->VAs (a++c) (b++d):=by
 intro a b c d h
 induction h with
 | nil=>exactλh=>h
 | cons h _ ih=>exactλk=>.cons h<|ih k
theorem VAs.adF {x z y w:Nat->Int}(hx:∀i,0<=x i/\x i<=255)(hz:∀i,0<=z i/\z i<=255)(hy:∀i,0<=y i/\y i<=255)(hw:∀i,0<=w i/\w i<=255):∀(l:List Nat),(∀i∈l,Sg.num (4*i)=x i/\Sg.num (4*i+1)=z i/\Sg.num (4*i+2)=y i/\Sg.num (4*i+3)=w i) ->
  VAs (l.flatMap fgt) (l.flatMap<|four x z y w):=by
 intro l
 induction l with
 | nil=>intro _;exact .nil
 | cons i l ih=>
  intro h
  obtain⟨h1,h2,h3,h4⟩:=h i<|.head _
  have hl:Nat.land (y i).toNat 0=0:=Nat.and_zero _
  exact VAs.app (.cons (VA.aaX h1<|hx i)<|.cons (VA.aaX h2<|hz i)<|.cons (VA.adz h3 (hy i) hl)<|.cons (VA.aaX h4<|hw i) .nil)<|ih λj hj=>h j<|.tail _ hj
theorem abS {x z y w:Nat->Int}:∀(n i j:Nat),i<n->j<4->((List.range n).flatMap (four x z y w))[i*4+j]?=(four x z y w i)[j]?:=by
 intro n
 induction n with
 | zero=>intro i j h;exact absurd h<|Nat.not_lt_zero _
 | succ n ih=>
  intro i j hi hj
  have hlen:∀m,((List.range m).flatMap (four x z y w)).length=m*4:=by
   intro m
   induction m with
   | zero=>rfl
   | succ m ih=>rw[List.range_succ,List.flatMap_append,List.length_append,ih];show m*4+4=_;omega
  rw[List.range_succ,List.flatMap_append]
  by_cases h:i<n
  ·rw[List.getElem?_append_left (by rw[hlen];omega)]
   exact ih i j h hj
  ·have:i=n:=by omega
   subst this
   rw[List.getElem?_append_right (by rw[hlen];omega),hlen,show i*4+j-i*4=j by omega]
   show((four x z y w i)++[])[j]?=_
   rw[List.append_nil]
theorem VA.fgL {n least ex len cap N:Nat}{x z y w:Nat->Int}{T:Tr (List AV)}(hx:∀i,0<=x i/\x i<=255)(hz:∀i,0<=z i/\z i<=255)(hy:∀i,0<=y i/\y i<=255)(hw:∀i,0<=w i/\w i<=255)(hex:ex=0\/ex=1)(hlen:Sg.num 900=(len:Int))(hcap:Sg.num 901=(cap:Int))(h1:least<=len)(h2:ex=1->len=least)(h3:len<9223372036854775808)
  (hB:Sg.iK 0=.rows T N 4 true) (hN:n<=N) (hn:n<=len) (hn2:n<=8) (hT:∀i,i<n->T.get i=some (four x z y w i)) (hv:∀i,i<n->Sg.num (4*i)=x i/\Sg.num (4*i+1)=z i/\Sg.num (4*i+2)=y i/\Sg.num (4*i+3)=w i):VA (Ev.fgL n least ex) (.slice (some ⟨0,0,0⟩) len cap false 4):=by
 have hrow:=VAs.row (VAs.adF hx hz hy hw (List.range n) λi hi=>hv i<|List.mem_range.1 hi) (o:=0) (r:=l5) (by
  have:∀m,((List.range m).flatMap (four x z y w)).length=m*4:=by
   intro m
   induction m with
   | zero=>rfl
   | succ m ih=>rw[List.range_succ,List.flatMap_append,List.length_append,ih];show m*4+4=_;omega
  rw[this];omega)
 have he:(8+ex)/2=4:=by rcases hex with rfl | rfl<;>rfl
 have:=VA.te (v:=Ev.fgL n least ex) (r:=rowV<|(List.range n).flatMap fgt) rfl rfl (by show 0<262144;omega) len cap hlen hcap h1 (λh=>h2 (by
  have h:(8+ex)%2=1:=h
  omega)) h3 T N (by show Sg.iK 0=bv.rows T N ((8+ex)/2) true;rw[he];exact hB) hN hn (four x z y w) hT (λ_ _=>he.symm) (by show n*((8+ex)/2)<=4180;rw[he];omega) (λi hi j hj=>by
   have hj:j<4:=hj
   have:=hrow (i*4+j) (four x z y w i)[j] (by rw[abS n i j hi hj,List.getElem?_eq_getElem hj])
   rw[Nat.zero_add]at this
   show VA (atR (i*((8+ex)/2)+j) _) _
   rw[he]
   exact this)
 have e:(Ev.fgL n least ex).e/2=4:=he
 rw[e]at this
 exact this
end
@[reducible] def n2:List (List AV):=[[nilS],[nilS]]
@[reducible] def ac8 (k:Nat):List AV:=d7.cells (pn (50+k) 2 8) nilS (pn (54+k) 2 1) (pn (58+k) 2 1) (pn (62+k) 2 1) (pn (66+k) 2 1) nilS nilS nilS++([nilS]++(d7.cells (pn (70+k) 2 8) nilS (pn (74+k) 2 1) (pn (78+k) 2 1) (pn (82+k) 2 1) (pn (86+k) 2 1) nilS nilS nilS++[]))
@[reducible] def abR (k n:Nat):List AV:=bu (46+k) (pn (88+k) (n+1) 11) 60 8 60 20 20 nilS
def st7 (k:Nat):List (Nat × Nat × List (List AV)):=[(70+k,8,Am d7.pl),(74+k,1,n2),(78+k,1,n2),(82+k,1,n2),(86+k,1,n2)]
def abC (k n:Nat):List (Nat × Nat × List (List AV)):=(46+k,51,[ac8 k])::(st7 k++[(44+k,8,[abR k n])])
def tl7 (k n:Nat)(C:List CD)(z:SH):SH:=(44+k,.r false [abR k n] 8)::(88+k,.r false (C.map CD.row) 11)::z
theorem ac9 (k:Nat):mD (Dw (st7 k)) (pn (70+k) 2 8) nilS (pn (74+k) 2 1) (pn (78+k) 2 1) (pn (82+k) 2 1) (pn (86+k) 2 1) nilS nilS nilS d7 where
 pl:=Src.all (L:=Am d7.pl) .here
 ob:=.nil
 lb:=⟨_,Src.all (L:=n2)<|.there .here,.cons .nil<|.cons .nil .nil⟩
 hd:=⟨_,Src.all (L:=n2)<|.there<|.there .here,.cons .nil<|.cons .nil .nil⟩
 gr:=⟨_,Src.all (L:=n2)<|.there<|.there<|.there .here,.cons .nil<|.cons .nil .nil⟩
 ex:=⟨_,Src.all (L:=n2)<|.there<|.there<|.there<|.there .here,.cons .nil<|.cons .nil .nil⟩
 fi:=.nil
 st:=.nil
 wa:=.nil
theorem acn (k:Nat)(t:SH):aH (46+k) [] d7 t ((46+k,.r false [ac8 k] 51)::([]++(Dw (st7 k)++t))):=
 ⟨_,nilS,pn (70+k) 2 8,nilS,pn (74+k) 2 1,pn (78+k) 2 1,pn (82+k) 2 1,pn (86+k) 2 1,nilS,nilS,nilS,[],Dw<|st7 k,.refl _,rfl,.nil,ac9 k⟩
def ldP:List Pz:=[.s,.l (iv 1),.l (iv 0),.l (iv 0),.l (iv 0),.l (iv 0),.l (iv 0),.l (iv 0),.l (iv 0),.l (iv 0),.l nilS]
def bsP (j:Nat):List Pz:=[.s,.l (iv 2),.l (iv 0),.l (iv 0),.l (iv 0),.l (iv 0),.l (iv 0),.n,.n,.k (4*j+2),.l nilS]
def cdP (n:Nat):List (List Pz):=ldP::(List.range n).map bsP
def z7 (p q:Bool)(L TL:List (List AV)):SH:=(match p with | true=>[(0,.r true L 4)] | false=>[])++(match q with | true=>[(1,.r true TL 1)] | false=>[])
theorem adY {p q:Bool}{L TL:List (List AV)}{b:Nat}{o:HO}(h:(b,o)∈z7 p q L TL):(p=true/\b=0/\o=.r true L 4)\/(q=true/\b=1/\o=.r true TL 1):=by
 unfold z7 at h
 cases p<;>cases q<;>simp_all
theorem adZ (p q:Bool)(L TL:List (List AV)):(z7 p q L TL).Pairwise λp q=>p.1≠q.1:=by
 unfold z7
 cases p<;>cases q<;>simp
noncomputable def ab1 (p:Bool)(b:Nat)(h:FH):Bool:=match p with | true=>Nat.beq (ap b h).t 5&&Nat.beq (ap b h).lp.nt b | false=>true
noncomputable def isLen (v:V)(m:Nat):Bool:=Nat.beq v.t 5&&Nat.beq v.c m
noncomputable def pre31 (P:Program)(ih:bT)(c:Code)(k n:Nat)(ck:V->Bool)(p q:Bool)(w:V):FH->Bool:=
 RE P 97 ih (spine 6 c).1 (λe h=>Du h (abC k n)&&(acw h (88+k) 11 (cdP n)&&(wI e [(6,.ptr<|some ⟨44+k,0,0⟩),(8,nilS)]&&(isLen (atR 4 e) (n+1)&&(ck (atR 0 e)&&(ab1 p 0 h&&(ab1 q 1 h&&(match h.fr.ds with | []=>true | _=>false))))))))
  (Ba [w] 0 l5)
section
variable [Sg]{P:Program}{K:Orc}{F:Nat->FuncId}{T:Nat->TypeId}
theorem ab5 {row:List AV}(h:P0 (λa p=>Pz.ok a p) row ldP):∃c:CD,row=c.row/\c.ab=[]/\c.av=nilS:=by
 unfold ldP at h
 cases h with | cons h0 h=>cases h with | cons h1 h=>cases h with | cons h2 h=>cases h with | cons h3 h=>cases h with | cons h4 h=>cases h with | cons h5 h=>cases h with | cons h6 h=>cases h with | cons h7 h=>cases h with | cons h8 h=>cases h with | cons h9 h=>cases h with | cons h10 h=>cases h with | nil=>
 obtain⟨s,rfl⟩:=h0
 cases h1;cases h2;cases h3;cases h4;cases h5;cases h6;cases h7;cases h8;cases h9;cases h10
 exact⟨⟨s,1,0,0,0,0,0,0,0,0,nilS,[]⟩,rfl,rfl,rfl⟩
theorem abF {row:List AV}{j:Nat}(h:P0 (λa p=>Pz.ok a p) row (bsP j)):∃c:CD,row=c.row/\(c.ab=[]/\c.av=nilS)/\c.kind=2/\∃y:Nat,Sg.num (4*j+2)=(y:Int)/\y<256/\c.keys=.ofNat (Nat.land y 127):=by
 unfold bsP at h
 cases h with | cons h0 h=>cases h with | cons h1 h=>cases h with | cons h2 h=>cases h with | cons h3 h=>cases h with | cons h4 h=>cases h with | cons h5 h=>cases h with | cons h6 h=>cases h with | cons h7 h=>cases h with | cons h8 h=>cases h with | cons h9 h=>cases h with | cons h10 h=>cases h with | nil=>
 obtain⟨s,rfl⟩:=h0
 obtain⟨m,rfl⟩:=h7
 obtain⟨m',rfl⟩:=h8
 obtain⟨y,e1,e2,rfl⟩:=h9
 cases h1;cases h2;cases h3;cases h4;cases h5;cases h6;cases h10
 exact⟨⟨s,2,0,0,0,0,0,m,m',.ofNat<|Nat.land y 127,nilS,[]⟩,rfl,⟨rfl,rfl⟩,rfl,y,e1,e2,rfl⟩
theorem aa6:∀(l:List Nat)(M:List (List AV)),P0 (λrow q=>P0 (λa p=>Pz.ok a p) row q) M (l.map bsP)->∃C:List CD,M=C.map CD.row/\(∀c∈C,c.ab=[]/\c.av=nilS)/\C.length=l.length/\∀(i j:Nat),l[i]?=some j->∃c:CD,C[i]?=some c/\c.kind=2/\∃y:Nat,Sg.num (4*j+2)=(y:Int)/\y<256/\c.keys=.ofNat (Nat.land y 127):=by
 intro l
 induction l with
 | nil=>
  intro M h
  cases h
  exact⟨[],rfl,(λc hc=>nomatch hc),rfl,(λi j h=>nomatch h)⟩
 | cons j l ih=>
  intro M h
  cases h with
  | cons h1 h2=>
   obtain⟨c,rfl,c1,c2⟩:=abF h1
   obtain⟨C,rfl,C1,C2,C3⟩:=ih _ h2
   refine⟨c::C,rfl,λx hx=>?_,by simp[C2],λi j' hi=>?_⟩
   ·rcases List.mem_cons.1 hx with rfl | hx
    ·exact c1
    ·exact C1 x hx
   ·cases i with
    | zero=>cases hi;exact⟨c,rfl,c2⟩
    | succ i=>exact C3 i j' hi
theorem acM {n:Nat}{M:List (List AV)}(h:P0 (λrow q=>P0 (λa p=>Pz.ok a p) row q) M (cdP n)){ky:Nat->Nat}(hky:∀j,j<n->Sg.num (4*j+2)=(ky j:Int)):∃C:List CD,M=C.map CD.row/\(∀c∈C,c.ab=[]/\c.av=nilS)/\aaf C n λj=>.ofNat (Nat.land (ky j) 127):=by
 unfold cdP at h
 cases h with
 | cons h1 h2=>
  obtain⟨c,rfl,c1,c2⟩:=ab5 h1
  obtain⟨C,rfl,C1,C2,C3⟩:=aa6 _ _ h2
  have hall:∀x∈c::C,x.ab=[]/\x.av=nilS:=λx hx=>by
   rcases List.mem_cons.1 hx with rfl|hx
   ·exact⟨c1,c2⟩
   ·exact C1 x hx
  refine⟨c::C,rfl,hall,by rw[List.length_cons,C2,List.length_range],λx hx=>(hall x hx).1,λj hj=>?_⟩
  obtain⟨x,x1,x2,y,x3,_,x4⟩:=C3 j j<|List.getElem?_range hj
  refine⟨x,x1,x2,?_⟩
  rw[x4]
  have:y=ky j:=Int.ofNat.inj<|x3.symm.trans<|hky j hj
  rw[this]
theorem abW {v:V}{a:AV}{m:Nat}(h:isLen v m=true)(hv:VA v a):lenOf a=some m:=by
 obtain⟨k1,k2⟩:=Bool.and_eq_true_iff.1 h
 rw[(hv.A7<|Nat.eq_of_beq_eq_true k1).1,Nat.eq_of_beq_eq_true k2]
 rfl
theorem aaU {h:FH}{H:Heap}{p:Bool}{b:Nat}(hH:cj h H)(hb:b<262144)(hc:ab1 p b h=true)(hp:p=true):H.get b=some (Sg.iK b):=by
 subst hp
 obtain⟨k1,k2⟩:=Bool.and_eq_true_iff.1 hc
 have g0:=(hH.block b hb).DM (Nat.eq_of_beq_eq_true k1)
 rw[Nat.eq_of_beq_eq_true k2]at g0
 exact g0
theorem abp (hB:Base P K F T) (hX:BaseX P K F T) (hc:aaq P K F) {ih:bT} (hC:eL P K ih) {fn:Func} {c:Code} (hf:P.funcs[F 31]?=some fn) (hb:fn.body=some c) (hnt:fn.ntmps=97) (hres:fn.results.toList=[.tmp 2,.tmp 3]) (hname:(fn.name == "runtime.NumGoroutine")=false)
  (j5:cc P 97 (spine 6 c).2=abL F T) (hK:∀args H,K (F 31) args H=none) {h0:FH} {H0:Heap} (hH:cj h0 H0) (hfr:xe h0.fr [] none) {k n:Nat} (hk0:1<=k) {ck:V->Bool} {p q:Bool} {w:V} (hpre:pre31 P ih c k n ck p q w h0=true) {lv:AV} (hlv:VA w lv) (lm:∀v a,ck v=true->VA v a->a=lv)
  {L TL:List (List AV)} {ps ky:Nat->Nat} (tp:Nat->Bool) (XV:lenOf lv=some L.length) (XW:∀i,i<L.length->∃x z y w:Nat,x<=255/\z<=255/\y<=255/\w<=255/\L[i]?=some [.int .u8 (.ofNat x),.int .u8<|.ofNat z,.int .u8<|.ofNat y,.int .u8<|.ofNat w]/\y=ky i/\w%2=ps i)
  (hn:n=min L.length 8) (h0L:0<L.length->p=true/\∃cap sl,lv=.slice (some ⟨0,0,0⟩) L.length cap sl 4) (hp:p=true->(HO.r true L 4).ok (some<|Sg.iK 0)) (hq:q=true->(HO.r true TL 1).ok (some<|Sg.iK 1)) (PV:∀j,j<n->Sg.num (4*j+2)=(ky j:Int)) :
  ∃H' s' z0 ids EL og j C,cD P K (F 31) [lv] H0 (.tuple [.ptr (some ⟨44+k,0,0⟩),ids]) H'/\Hp ⟨.lf,0⟩ s' H'/\aH (46+k) EL (dW ps tp n 0) (og++(j++tl7 k n C z0)) s'/\EL.length<=16/\Gr 1 ids (nR<|fI n) og/\aaf C n (λj=>.ofNat<|Nat.land (ky j) 127)/\cI (tl7 k n C z0) (pn (88+k) (n+1) 11) C /\
   (p=true->Has 0 (.r true L 4) z0)/\(q=true->Has 1 (.r true TL 1) z0):=by
 obtain⟨e0,iL,XN⟩:=sU (nt:=97) (.cons hlv .nil) (by omega)<|by simp
 obtain⟨E',H',ds',e',h',q1,q2,q3,q4,q5⟩:=ye (rd:=none) (ds:=[]) hC (spine 6 c).1 XN hH hfr hpre
 obtain⟨k1,q4⟩:=Bool.and_eq_true_iff.1 q4
 obtain⟨k2,q4⟩:=Bool.and_eq_true_iff.1 q4
 obtain⟨k3,q4⟩:=Bool.and_eq_true_iff.1 q4
 obtain⟨k4,q4⟩:=Bool.and_eq_true_iff.1 q4
 obtain⟨k5,q4⟩:=Bool.and_eq_true_iff.1 q4
 obtain⟨k6,q4⟩:=Bool.and_eq_true_iff.1 q4
 obtain⟨k8,k7⟩:=Bool.and_eq_true_iff.1 q4
 have hds:=Cl q3 k7
 subst hds
 have hmem:=Dv q2 k1
 obtain⟨YI,M,hM,aep⟩:=abN q2 k2
 obtain⟨C,rfl,hC1,hC2⟩:=acM hM PV
 have ng:=AH q1 k3 (λp hp=>by
  simp only[List.mem_cons,List.not_mem_nil,or_false]at hp
  rcases hp with rfl|rfl<;>exact Nat.le_of_ble_eq_true rfl)
 obtain⟨a0,e0',v0⟩:=q1.slot 0<|by omega
 obtain⟨a4,e4',v4⟩:=q1.slot 4<|by omega
 have ea0:=lm _ _ k5 v0
 subst ea0
 have hl4:=abW k4 v4
 have hz:∀b o,(b,o)∈z7 p q L TL->b<2/\o.ok (H'.get b):=by
  intro b o hb
  rcases adY hb with⟨h,rfl,rfl⟩|⟨h,rfl,rfl⟩
  ·exact⟨by omega,by rw[aaU q2 (by omega) k6 h];exact hp h⟩
  ·exact⟨by omega,by rw[aaU q2 (by omega) k8 h];exact hq h⟩
 have hzp:=adZ p q L TL
 have hpz:p=true->Has 0 (.r true L 4) (z7 p q L TL):=λh=>by subst h;exact .here
 have hqz:q=true->Has 1 (.r true TL 1) (z7 p q L TL):=λh=>by subst h;exact .app .here
 have hHp:Hp ⟨.lf,0⟩ (Dw (abC k n)++((88+k,.r false (C.map CD.row) 11)::(z7 p q L TL))) H':=by
  refine⟨Nat.zero_le _,?_,?_,λb hb=>absurd hb<|Nat.not_lt_zero _⟩
  ·intro b o hb
   rcases List.mem_append.1 hb with hb|hb
   ·exact hmem b o hb
   ·rcases List.mem_cons.1 hb with hb | hb
    ·cases hb;exact⟨YI,aep⟩
    ·have:=hz b o hb
     exact⟨by omega,this.2⟩
  ·refine List.pairwise_append.2 ⟨?_,List.pairwise_cons.2 ⟨λr hr=>?_,hzp⟩,?_⟩
   ·simp[Dw,abC,st7]
   ·have:=(hz r.1 r.2 hr).1
    show 88+k≠r.1
    omega
   ·intro u hu r hr
    have hu2:44+k<=u.1/\u.1≠88+k:=by
     simp only[Dw,abC,st7,List.map_cons,List.map_nil,List.cons_append,List.nil_append,List.mem_cons,List.not_mem_nil,or_false]at hu
     rcases hu with rfl|rfl|rfl|rfl|rfl|rfl|rfl<;>exact⟨by show _<=_+k;omega,by show _+k≠_;omega⟩
    rcases List.mem_cons.1 hr with rfl|hr
    ·exact hu2.2
    ·have:=(hz r.1 r.2 hr).1
     omega
 have hs:aH (46+k) [] (dW ps tp 0 0) (tl7 k n C<|z7 p q L TL) (Dw (abC k n)++((88+k,.r false (C.map CD.row) 11)::(z7 p q L TL))):=by
  have:=acn k<|tl7 k n C<|z7 p q L TL
  rw[show Dw (abC k n)=(46+k,.r false [ac8 k] 51)::(Dw (st7 k)++[(44+k,.r false [abR k n] 8)])from rfl,List.cons_append,List.append_assoc]
  exact this
 have XO:En [(0,a0),(4,a4),(6,.ptr<|some ⟨44+k,0,0⟩),(8,nilS)] E':=by
  intro i v hi
  simp only[lu]at hi
  split at hi
  ·rename_i h;cases hi;rw[<- h];exact e0'
  ·split at hi
   ·rename_i h;cases hi;rw[<- h];exact e4'
   ·split at hi
    ·rename_i h;cases hi;rw[<- h];exact ng 6 _<|by simp
    ·split at hi
     ·rename_i h;cases hi;rw[<- h];exact ng 8 _<|by simp
     ·cases hi
 have hby:acH (tl7 k n C<|z7 p q L TL) a0 L ps ky:=⟨XV,λh=>by
  obtain⟨h1,cap,sl,h2⟩:=h0L h
  exact⟨0,cap,sl,h2,.there (.there (hpz h1))⟩,XW⟩
 obtain⟨xx,e'',Xu,H2,l',s',r1,r2,r3,r4⟩:=acP hB hX hc (T:=T) (tp:=tp) (Qn:=Kj) (Qe:=λ_=>Kj) (Qr:=λl ds s=>ds=[]/\∃ids EL og j,aH (46+k) EL (dW ps tp n 0) (og++(j++tl7 k n C (z7 p q L TL))) s/\EL.length<=16/\Gr 1 ids (nR<|fI n) og/\lk l 2=some (.ptr<|some ⟨44+k,0,0⟩)/\lk l 3=some ids)
  hby (n:=n) (by omega) (by omega) hl4 hs .here (λ_ _ h=>h) (λl2 s2 ids og j Gg hE2 dt hG h8 h9=>⟨rfl,ids,Gg,og,j,dt,hE2,hG,h8,h9⟩) (spine 6 c).2 j5 ⟨.lf,0⟩ E' H' XO hHp
 have run:=q5 (spine 6 c).2 _ r1
 rw[ug]at run
 cases xx with
 | normal=>exact r4.elim
 | exit i=>exact r4.elim
 | ret=>
  obtain⟨rfl,ids,EL,og,j,w1,w3,wG,w4,w5⟩:=r4
  refine⟨H2,s',(z7 p q L TL),ids,EL,og,j,C,cD.enter (hK _ _) hf hb (by rw[hnt,hname];rfl) (by rw[hnt];exact iL) (by rw[hnt];exact run) (.inl rfl) ?_,r3,w1,w3,wG,hC2,?_,hpz,hqz⟩
  ·have e8:resultOf P e'' H2 (.tmp 2)=some _:=r2 2 _ w4
   have e9:resultOf P e'' H2 (.tmp 3)=some _:=r2 3 _ w5
   rw[hres]
   show(match aI (resultOf P e'' H2) [.tmp 2,.tmp 3]with | some [v]=>some v | some vs=>some (.tuple vs) | none=>none)=_
   simp only[aI,e8,e9]
  ·have hlen:(C.map CD.row).length=n+1:=by rw[List.length_map,hC2.len]
   refine⟨?_,λc hc=>?_,by rw[hC2.len];omega,λc hc=>by rw[(hC1 c hc).1];exact Nat.zero_le _⟩
   ·have:=Src.all (L:=C.map CD.row) (sz:=11) (c:=n+1) (sl:=true) (b:=88+k) (s:=tl7 k n C<|z7 p q L TL) (.there .here)
    rw[hlen]at this
    exact this
   ·rw[(hC1 c hc).1,(hC1 c hc).2]
    exact .nil
end
noncomputable def fhA (p:Bool):FH:=match p with | true=>hput 0 (Xz 0) fh0 | false=>fh0
noncomputable def fhW (p q:Bool):FH:=⟨(match q with | true=>hput 1 (Xz 1) (fhA p) | false=>fhA p:FH).h,2,Kz⟩
noncomputable def H2a (p:Bool)(a:bv):Tr bv:=match p with | true=>Tr.lf.put 0 a | false=>.lf
noncomputable def H2b (p q:Bool)(a b:bv):Heap:=⟨match q with | true=>(H2a p a).put 1 b | false=>H2a p a,2⟩
def sq {α:Type}(p:Bool)(a:α):Option α:=match p with | true=>some a | false=>none
theorem abd (p q:Bool)(a b:bv)(k:Nat):(H2b p q a b).get k=if k=0 then sq p a else if k=1 then sq q b else none:=by
 have h0:(⟨Tr.lf,0⟩:Heap).get k=none:=by simp[Heap.get,Tr.get]
 have hp:(⟨H2a p a,0⟩:Heap).get k=if k=0 then sq p a else none:=by
  cases p
  ·show(⟨Tr.lf,0⟩:Heap).get k=_
   rw[h0];split<;>rfl
  ·show((⟨.lf,0⟩:Heap).put 0 a).get k=_
   rw[Heap.aR,h0]
   by_cases h:k=0
   ·subst h;rfl
   ·rw[if_neg (λe=>h e.symm),if_neg h]
 cases q
 ·show(⟨H2a p a,0⟩:Heap).get k=_
  rw[hp]
  split
  ·rfl
  ·split<;>rfl
 ·show((⟨H2a p a,0⟩:Heap).put 1 b).get k=_
  rw[Heap.aR,hp]
  by_cases h:k=1
  ·subst h;rfl
  ·rw[if_neg (λe=>h e.symm),if_neg h]
noncomputable def foO (p:Bool)(i:Nat):FO:=match p with | true=>Xz i | false=>l9
theorem acQ [Sg](p q:Bool):cj (fhW p q) (H2b p q (Sg.iK 0) (Sg.iK 1)):=by
 refine⟨rfl,by show 2<=262144;omega,λb hb=>?_⟩
 have h0:ap b fh0=l9:=by
  rw[ia]
  show cX b (cX (b/64)<|cX (b/4096)<|fV<|fV<|fV l9)=l9
  rw[dU,dU,dU]
 have hp:ap b (fhA p)=if b=0 then foO p 0 else l9:=by
  cases p
  ·show ap b fh0=_
   rw[h0];split<;>rfl
  ·show ap b (hput 0 (Xz 0) fh0)=_
   rw[jE (by omega) hb,h0]
   by_cases h:b=0
   ·subst h;rfl
   ·rw[if_neg (λe=>h e.symm),if_neg h]
 have hq:ap b (fhW p q)=if b=0 then foO p 0 else if b=1 then foO q 1 else l9:=by
  cases q
  ·show ap b ⟨(fhA p).h,2,Kz⟩=_
   rw[nl,hp]
   split
   ·rfl
   ·split<;>rfl
  ·show ap b ⟨(hput 1 (Xz 1)<|fhA p).h,2,Kz⟩=_
   rw[nl,jE (by omega) hb,hp]
   by_cases h:b=1
   ·subst h;rfl
   ·rw[if_neg (λe=>h e.symm),if_neg h]
 rw[hq,abd]
 have hP:∀(p:Bool)i,gy (foO p i) (sq p<|Sg.iK i):=λp i=>by
  cases p
  ·exact gy.gone _ rfl rfl
  ·exact⟨λ_=>rfl,λk=>absurd (show 5=1 from k)<|by decide,λk=>absurd (show 5=2 from k)<|by decide,λk=>absurd (show 5=3 from k)<|by decide,λk=>absurd (show 5=4 from k)<|by decide,λ_=>rfl,λk=>absurd (show 5=6 from k)<|by decide⟩
 split
 ·exact hP p 0
 ·split
  ·exact hP q 1
  ·exact gy.gone _ rfl rfl
def a7W:List bS:=[⟨(some 4),(.mv (.const (.bool false))),none⟩]
def abM (y:Nat):Bool:=match binV .and (.int .u8 (.ofNat y)) (.int .u8 (.ofNat 1))with | some (.int .u8 (.ofNat a))=>decide (a=0)==x6 1 (.ofNat (Nat.land y 127)) | _=>false
set_option maxRecDepth 100000 in
theorem abn:(List.range 256).all abM=true:=by decide
theorem acd {y:Nat}(h:y<256):∃a:Nat,binV .and (.int .u8 (.ofNat y)) (.int .u8 (.ofNat 1))=some (.int .u8 (.ofNat a))/\decide (a=0)=x6 1 (.ofNat (Nat.land y 127)):=by
 have h1:abM y=true:=List.all_eq_true.1 abn y<|List.mem_range.2 h
 unfold abM at h1
 split at h1
 ·rename_i a ha
  exact⟨a,ha,eq_of_beq h1⟩
 ·cases h1
section
variable [Sg]{P:Program}{K:Orc}{F:Nat->FuncId}{T:Nat->TypeId}
theorem acl (hW:LawF P K F T) (hc:aaq P K F) {ih:bT} (hC:eL P K ih) {fn:Func} {c:Code} (hf:P.funcs[F 31]?=some fn) (hb:fn.body=some c) (hnt:fn.ntmps=97) (hres:fn.results.toList=[.tmp 2,.tmp 3]) (hname:(fn.name == "runtime.NumGoroutine")=false)
  (j5:cc P 97 (spine 6 c).2=abL F T) (hK:∀args H,K (F 31) args H=none) {f7:FuncId} {fn7:Func} {c7:Code} (hf7:P.funcs[f7]?=some fn7) (hb7:fn7.body=some c7) (ac0:fn7.ntmps=174) (adQ:fn7.results.toList=[.tmp 4]) (acW:(fn7.name == "runtime.NumGoroutine")=false)
  (ac1:cc P 174 c7=.seq (.ops a7W) (.seq (.ops<|a7X F)<|a7Z F T)) (hK7:∀args H,K f7 args H=none) {k n:Nat} (hk0:1<=k) {ck:V->Bool} {p q:Bool} {w:V} (hpre:pre31 P ih c k n ck p q w (fhW p q)=true) {lv tv:AV} (hlv:VA w lv) (lm:∀v a,ck v=true->VA v a->a=lv)
  {L:List (List AV)} {TL:List Bool} (XV:lenOf lv=some L.length) (XW:∀i,i<L.length->∃x z y w:Nat,x<=255/\z<=255/\y<=255/\w<=255/\L[i]?=some [.int .u8 (.ofNat x),.int .u8<|.ofNat z,.int .u8<|.ofNat y,.int .u8<|.ofNat w]/\(i<n->Sg.num (4*i+2)=(y:Int)))
  (hLc:∀a m c sl rw,lv=.slice a m c sl rw->m<=c) (hn:n=min L.length 8) (h0L:0<L.length->p=true/\∃cap sl,lv=.slice (some ⟨0,0,0⟩) L.length cap sl 4) (hp:p=true->(HO.r true L 4).ok (some<|Sg.iK 0))
  (qY:lenOf tv=some TL.length) (h0T:0<TL.length->q=true/\∃cap sl,tv=.slice (some ⟨1,0,0⟩) TL.length cap sl 1) (hq:q=true->(HO.r true (TL.map λb=>[AV.bool b]) 1).ok (some<|Sg.iK 1)) :
  ∃H',cD P K f7 [lv,tv] (H2b p q (Sg.iK 0)<|Sg.iK 1) (.bool true) H'/\(p=true->(HO.r true L 4).ok (H'.get 0))/\(q=true->(HO.r true (TL.map λb=>[AV.bool b]) 1).ok (H'.get 1)):=by
 obtain⟨e0,iL,XN⟩:=mG 174 [lv,tv]
 let ky:Nat->Nat:=λj=>match L[j]? with | some [_,_,.int .u8<|.ofNat y,_]=>y | _=>0
 let ps:Nat->Nat:=λj=>match L[j]? with | some [_,_,_,.int .u8<|.ofNat y]=>y%2 | _=>0
 have Pw:∀i,i<L.length->∃x z y w:Nat,x<=255/\z<=255/\y<=255/\w<=255/\L[i]?=some [.int .u8 (.ofNat x),.int .u8<|.ofNat z,.int .u8<|.ofNat y,.int .u8<|.ofNat w]/\y=ky i/\w%2=ps i:=by
  intro i hi
  obtain⟨x,z,y,w,h1,h2,h3,h4,h5,_⟩:=XW i hi
  refine⟨x,z,y,w,h1,h2,h3,h4,h5,?_,?_⟩
  ·show _=(match L[i]? with | some [_,_,.int .u8<|.ofNat y,_]=>y | _=>0)
   rw[h5]
  ·show _=(match L[i]? with | some [_,_,_,.int .u8<|.ofNat y]=>y%2 | _=>0)
   rw[h5]
 have PV:∀j,j<n->Sg.num (4*j+2)=(ky j:Int)/\ky j<256:=by
  intro j hj
  obtain⟨x,z,y,w,_,_,h3,_,h5,h6⟩:=XW j<|by omega
  have:ky j=y:=by
   show(match L[j]? with | some [_,_,.int .u8<|.ofNat y,_]=>y | _=>0)=_
   rw[h5]
  rw[this]
  exact⟨h6 hj,by omega⟩
 obtain⟨H3,s3,z0,ids,EL,og,j,C,w1,w2,w3,w4,wG,wC,wR,wp,wq⟩:=abp hW.hU.hB hW.hX hc hC hf hb hnt hres hname j5 hK (acQ p q) ⟨rfl,(λD hD=>by cases hD),rfl⟩ hk0 hpre hlv lm (dT TL) XV Pw hn h0L hp hq<|λj hj=>(PV j hj).1
 have hwy:WOy P K a7W [(0,lv),(1,tv)] (λl'=>∀y w,lk [(0,lv),(1,tv)] y=some w->lk l' y=some w):=by
  unfold a7W
  exact WOy.r (.mv rfl)<|WOy.nil<|dM rfl
 have UY:En [(0,lv),(1,tv)] e0:=by
  intro i v hi
  simp only[lu]at hi
  split at hi
  ·rename_i h;cases hi;rw[<- h];exact XN 0 _ rfl
  ·split at hi
   ·rename_i h;cases hi;rw[<- h];exact XN 1 _ rfl
   ·cases hi
 obtain⟨xx,e'',Xu,H2,l',s',r1,r2,r3,r4⟩:=hwy.seq2 UY (ds:=[]) (H:=H2b p q (Sg.iK 0)<|Sg.iK 1) (H0:=⟨.lf,0⟩) (nt:=174) (Qn:=Kj) (Qe:=λ_=>Kj) (Qr:=λl ds s=>ds=[]/\lk l 4=some (.bool true)/\∀b o,Has b o (tl7 k n C z0)->Has b o s) (λl6 e6 hl6 hE6=>by
  have g0:En [(0,lv),(1,tv)] e6:=λi v hi=>hE6 i v<|hl6 i v hi
  have g1:=g0.putO (some 16) lv
  unfold a7X
  refine WOa.r (.mv rfl) g0<|WOa.cons (qu.call (fv:=.func (F 31) [] []) (vs:=[lv]) rfl ?_<|ki.func w1)<|WOa.of ?_ (g1.putO (some 17) _) w2
  ·simp only[aI,aG g1 (x:=.tmp 16) (v:=lv) rfl]
  ·refine Wv rfl (Wr (.extract rfl rfl)<|Wr (.extract rfl rfl)<|Wv rfl<|Wv rfl<|Wn ?_)
   exact abZ hW hc wC ⟨XV,λh=>by
    obtain⟨h1,cap,sl,h2⟩:=h0L h
    exact⟨0,cap,sl,h2,.there (.there (wp h1))⟩,Pw⟩ hLc hn ⟨qY,λh=>by
    obtain⟨h1,cap,sl,h2⟩:=h0T h
    exact⟨1,cap,sl,h2,.there (.there (wq h1))⟩⟩ (λj hj=>acd (PV j hj).2) w3 w4 wG .here wR (dM rfl)) ac1
 cases xx with
 | normal=>exact r4.elim
 | exit i=>exact r4.elim
 | ret=>
  obtain⟨rfl,u4,hm⟩:=r4
  refine⟨H2,cD.enter (hK7 _ _) hf7 hb7 (by rw[ac0,acW];rfl) (by rw[ac0];exact iL) (by rw[ac0];exact r1) (.inl rfl) ?_,λh=>(r3.has<|hm _ _<|.there<|.there<|wp h).2,λh=>(r3.has<|hm _ _<|.there<|.there<|wq h).2⟩
  have e4:resultOf P e'' H2 (.tmp 4)=some (.bool true):=r2 4 _ u4
  rw[adQ]
  show(match aI (resultOf P e'' H2) [.tmp 4]with | some [v]=>some v | some vs=>some (.tuple vs) | none=>none)=_
  simp only[aI,e4]
end
end Go.Ev
