/- Walks and rules. Conditions: none. -/
import Derived.Test.YtcmplhmbmmclaaaGreatEvN
set_option linter.unusedVariables false
set_option linter.unusedSectionVars false
namespace Go.Ev
section
variable [Sg]{P:Program}{K:Orc}{F:Nat->FuncId}{T:Nat->TypeId}
end
section
variable {P:Program}{K:Orc}{F:Nat->FuncId}{T:Nat->TypeId}{f:FuncId}{fn:Func}{c:Code}{tc:Func}{Ib:Code}{R:iB}{n:Nat}
def a38 (F:Nat->FuncId)(T:Nat->TypeId):AC:=(oN [zo 4 (.mv (.const (.slice none 0 0)))] (.seq (oN [zm 6 0,zo 7 (.eql false (.iface true) 6 (.const .nilIface))] (.cond 7 (oN [zo 4 (.mv (.const (.slice none 0 0)))] .ret) .skip)) (oN [zm 8 0,zo 9 (.build [.nilIface] [⟨0,⟨1,8⟩⟩]),zo 5 (.alloc 1 [.nilIface]),zn (.store 1 5 9)] (.seq (.drawn 1 [zr (zo 10 (.load true 1 5)) 0 0 0,zp (zm 11 1) 0,zh (oF F 12 94 [10,11]) 3,zr (zo 13 (.load true 1 5)) 0 1 0,zp (zm 14 1) 0,zh (oF F 15 95 [13,14]) 31,⟨zo 16 (.bslice 1 3 [.nilFunc] [⟨0,(.func (F 93))⟩,⟨1,12⟩,⟨2,15⟩]),.dalloc,0,0,63⟩,zh (oF F 17 92 [16]) 127,zp (zm 4 17) 255]) .ret))))
def a92 (F:Nat->FuncId)(T:Nat->TypeId):AC:=(oN [zo 2 (.mv (.const (.slice none 0 0)))] (oN [zo 3 (.alloc 1 [(.slice none 0 0 false 0)])] (.seq (oN [zm 7 0,zo 8 (.lenS 7),zo 9 (.mv (zc 0))] (.block 0 (.loop (oN [zo 10 (.arith .lss 9 8)] (.seq (.cond 10 .skip (.exit 0)) (.seq (.block 1 (oN [zo 11 (.iaddrS 1 7 9),zl 12 11,zm 5 12] (oN [zm 13 5] (.block 2 (.rf 13 [14] (.ops [zo 6 (.alloc 3 [(za 0),(za 0),(za 0)]),zn (.store 3 6 14)]) (.block 3 (.ops [zl 15 3,zo 16 (.load true 3 6),zo 17 (.bslice 3 1 [(za 0),(za 0),(za 0)] [⟨0,16⟩]),zo 18 (.append 3 24 15 17),zn (.store 1 3 18)]))))))) (.ops [zo 19 (.arith .add 9 (zc 1)),zm 9 19]))))))) (oN [zl 20 3,zm 2 20] .ret))))
def a93 (F:Nat->FuncId)(T:Nat->TypeId):AC:=(.ops [zm 2 0,zo 3 (.build [(za 0),(za 0),(za 0)] [⟨0,⟨1,(zc 1)⟩⟩]),zo 4 (.call 2 [3])])
def a94 (F:Nat->FuncId)(T:Nat->TypeId):AC:=(oN [zo 2 (.box 1 0),zo 3 (.box 1 1),zo 4 (.mv (.const .nilFunc))] (oN [zo 5 (.mkfn (F 139) [] [3,2]),zm 4 5] .ret))
def a95 (F:Nat->FuncId)(T:Nat->TypeId):AC:=(oN [zo 2 (.box 1 0),zo 3 (.box 1 1),zo 4 (.mv (.const .nilFunc))] (oN [zo 5 (.mkfn (F 143) [] [2,3]),zm 4 5] .ret))
def ado (F:Nat->FuncId) (T:Nat->TypeId):AC:=(.seq (.seq (.drawn 0 [zr (zl 11 1) 0 0 0,zp (zo 12 (.arith .lss 11 (zc 0))) 1,zp (zm 13 12) 3,zr (zg 14 (.load false 1 1) 13 false) 0 1 7,zp (zg 15 (.faddr 0 2) 13 false) 7,zr (zg 16 (.load false 1 15) 13 false) 0 0 23,zh (zg 17 (.invoke 16 "Players" []) 13 false) 55,zp (zg 18 (.arith .geq 14 17) 13 false) 127,zp (zo 19 (.pick 13 (.const (.bool true)) 18)) 255]) (.cond 19 .ret .skip)) (oN [zo 20 (.load true 1 2),zl 21 1,oF F 22 140 [20,21],zm 4 22] (oN [zf 23 0 2,zl 24 23,zl 25 1,zo 26 (.invoke 24 "Zone" [(zc 1),25]),zo 27 (.lenS 26),zo 28 (.mv (zc 0))] (.block 0 (.loop (oN [zo 29 (.arith .lss 28 27)] (.seq (.cond 29 .skip (.exit 0)) (.seq (.block 1 (oN [zo 30 (.iaddrS 1 26 28),zl 31 30,zm 6 31] (oN [zo 33 (.load true 1 2),zm 34 6,oF F 35 141 [33,34],zm 32 35,zo 36 (.extract 32 0),zo 37 (.extract 32 1),zo 38 (.extract 32 2),zo 7 (.alloc 14 dB),zo 8 (.alloc 11 yz),zn (.store 14 7 36),zn (.store 11 8 37),zm 9 38] (oN [zo 10 (.mv (zc 0))] (.seq (.block 2 (oN [zm 40 9,zo 41 (.un .not 40),zm 39 41] (.cond 39 .skip (oN [zf 43 1 8,zl 44 43,zo 45 (.eql false .pi 44 (zc 1)),zm 42 45] (.cond 42 (oN [zm 46 4,zm 47 46,zg 48 (.faddr 0 2) 47 true,zg 49 (.load false 1 48) 47 true,zg 50 (.load false 1 1) 47 true,zg 51 (.invoke 49 "Player" [50]) 47 true,zg 52 (.fld 5 1 false 51) 47 true,zg 53 (.un .not 52) 47 true,zo 54 (.pick 47 53 (.const (.bool false)))] (.cond 54 (.ops [zo 10 (.mv (zc 2))]) .skip)) (oN [zo 56 (.load true 1 2),zo 57 (.load true 11 8),zl 58 1,zm 59 4,oF F 60 142 [56,57,58,59],zm 55 60] (.cond 55 (.ops [zo 10 (.mv (zc 3))]) .skip))))))) (oN [zm 61 10,zo 62 (.arith .gtr 61 (zc 0)),zm 63 62,zg 64 (.mv 0) 63 true,zg 65 (.mv 10) 63 true,zg 66 (.mv 6) 63 true,zg 67 (.build [(za 0),(za 0),(za 0)] [⟨0,⟨1,65⟩⟩,⟨1,⟨1,66⟩⟩]) 63 true,zg 68 (.call 64 [67]) 63 true,zg 69 (.un .not 68) 63 true,zo 70 (.pick 63 69 (.const (.bool false)))] (.cond 70 .ret .skip))))))) (.ops [zo 71 (.arith .add 28 (zc 1)),zm 28 71])))))))))
def adp (F:Nat->FuncId) (T:Nat->TypeId):AC:=(oN [zo 2 (.box 1 0),zo 4 (.mv (.const (.bool false)))] (oN [zf 6 0 2,zl 7 6,zo 8 (.invoke 7 "Info" []),zo 5 (.alloc 13 [(za 0),(za 0),(za 0),(za 0),(za 0),(za 0),(za 0),(za 0),(za 0),(.slice none 0 0 false 0),(.bool false),(za 0),(za 0)]),zn (.store 13 5 8)] (oN [zm 9 1,zf 10 1 5,zl 11 10,zo 12 (.eql false .pi 9 11),zm 13 12,zg 14 (.faddr 2 5) 13 true,zg 15 (.load false 1 14) 13 true,zg 16 (.eql false .pi 15 (zc 2)) 13 true,zg 17 (.mv 16) 13 true,zg 18 (.faddr 2 5) 17 false,zg 19 (.load false 1 18) 17 false,zg 20 (.eql false .pi 19 (zc 8)) 17 false,zg 21 (.pick 17 (.const (.bool true)) 20) 13 true,zo 22 (.pick 13 21 (.const (.bool false))),zm 23 22,zg 24 (.faddr 0 2) 23 true,zg 25 (.load false 1 24) 23 true,zg 26 (.invoke 25 "Stack" []) 23 true,zg 27 (.lenS 26) 23 true,zg 28 (.eql false .pi 27 (zc 0)) 23 true,zo 29 (.pick 23 28 (.const (.bool false))),zm 4 29] .ret)))
def adq (F:Nat->FuncId) (T:Nat->TypeId):AC:=(oN [zo 2 (.box 1 0),zo 4 (.alloc 14 dB),zo 5 (.alloc 11 yz),zo 6 (.mv (.const (.bool false)))] (oN [zf 9 0 2,zl 10 9,zm 11 1,zo 12 (.invoke 10 "Obj" [11]),zm 8 12,zo 13 (.extract 8 0),zo 14 (.extract 8 1),zn (.store 14 4 13),zm 6 14] (oN [zf 15 0 2,zl 16 15,zo 17 (.invoke 16 "Cards" []),zm 7 17] (.seq (oN [zm 18 6,zo 19 (.un .not 18),zm 20 19,zg 21 (.faddr 1 4) 20 false,zg 22 (.load false 1 21) 20 false,zg 23 (.arith .lss 22 (zc 0)) 20 false,zo 24 (.pick 20 (.const (.bool true)) 23),zm 25 24,zg 26 (.faddr 1 4) 25 false,zg 27 (.load false 1 26) 25 false,zg 28 (.mv 7) 25 false,zg 29 (.lenS 28) 25 false,zg 30 (.arith .geq 27 29) 25 false,zo 31 (.pick 25 (.const (.bool true)) 30)] (.cond 31 (.seq (.drawn 0 [zr (zo 32 (.load true 14 4)) 0 0 0,zr (zo 33 (.load true 11 5)) 0 1 0,zh (zn (.store 14 4 32)) 1,zh (zn (.store 11 5 33)) 7,zp (zo 6 (.mv (.const (.bool false)))) 15]) .ret) .skip)) (.seq (.drawn 0 [zr (zo 34 (.load true 14 4)) 0 0 0,zp (zm 35 7) 0,zp (zf 36 1 4) 0,zr (zl 37 36) 0 0 4,zp (zo 38 (.iaddrS 11 35 37)) 14,zr (zo 39 (.load true 11 38)) 0 1 30,zh (zn (.store 14 4 34)) 13,zh (zn (.store 11 5 39)) 127,zp (zo 6 (.mv (.const (.bool true)))) 255]) .ret)))))
def ads (F:Nat->FuncId)(T:Nat->TypeId):AC:=(oN [zo 4 (.box 1 0),zo 5 (.box 11 1),zo 8 (.mv (.const (.bool false)))] (.seq (oN [zm 9 3,zo 10 (.un .not 9),zm 11 10,zg 12 (.faddr 9 5) 11 true,zg 13 (.load false 1 12) 11 true,zg 14 (.arith .and 13 (zc 64)) 11 true,zg 15 (.eql false .pi 14 (zc 0)) 11 true,zo 16 (.pick 11 15 (.const (.bool false)))] (.cond 16 (oN [zo 8 (.mv (.const (.bool false)))] .ret) .skip)) (.seq (.drawn 0 [zp (zf 17 1 5) 0,zr (zl 18 17) 0 0 1,zp (zo 19 (.eql true .pi 18 (zc 3))) 3,zp (zm 20 19) 7,zp (zg 21 (.faddr 10 5) 20 false) 15,zr (zg 22 (.load false 1 21) 20 false) 0 0 31,zp (zg 23 (.lenS 22) 20 false) 63,zp (zg 24 (.arith .gtr 23 (zc 0)) 20 false) 127,zp (zg 25 (.mv 24) 20 false) 255,zr (zg 26 (.load true 1 4) 25 true) 0 0 511,zp (zg 27 (.faddr 10 5) 25 true) 511,zr (zg 28 (.load false 1 27) 25 true) 0 0 1535,zp (zg 29 (.iaddrS 13 28 (zc 0)) 25 true) 3583,zr (zg 30 (.load true 13 29) 25 true) 0 0 7679,zp (zg 31 (.mv 2) 25 true) 511,zh (zg 32 (.call (.func (F 145)) [26,30,31]) 25 true) 32767,zp (zg 33 (.pick 25 32 (.const (.bool false))) 20 false) 65535,zp (zo 34 (.pick 20 (.const (.bool true)) 33)) 131071,zp (zm 8 34) 262143]) .ret)))
def adt (F:Nat->FuncId) (T:Nat->TypeId):AC:=(oN [zf 12 0 1,zl 13 12,zo 14 (.invoke 13 "Zone" [(zc 2),(zc 0)]),zo 15 (.lenS 14),zo 16 (.mv (zc 0))] (.block 0 (.loop (oN [zo 17 (.arith .lss 16 15)] (.seq (.cond 17 .skip (.exit 0)) (.seq (.block 1 (oN [zo 18 (.iaddrS 1 14 16),zl 19 18,zm 5 19] (oN [zo 21 (.load true 1 1),zm 22 5,oF F 23 141 [21,22],zm 20 23,zo 24 (.extract 20 0),zo 25 (.extract 20 1),zo 26 (.extract 20 2),zo 6 (.alloc 14 dB),zo 7 (.alloc 11 yz),zn (.store 14 6 24),zn (.store 11 7 25),zm 8 26] (.seq (oN [zm 27 8,zo 28 (.un .not 27),zm 29 28,zg 30 (.faddr 3 6) 29 false,zg 31 (.load false 1 30) 29 false,zg 32 (.load false 1 2) 29 false,zg 33 (.eql true .pi 31 32) 29 false,zo 34 (.pick 29 (.const (.bool true)) 33)] (.cond 34 (.exit 1) .skip)) (oN [zf 35 10 7,zl 36 35,zo 37 (.lenS 36),zo 38 (.mv (zc 0))] (.block 2 (.loop (oN [zo 39 (.arith .lss 38 37)] (.seq (.cond 39 .skip (.exit 2)) (.seq (.block 3 (oN [zm 40 38,zo 41 (.iaddrS 13 36 38),zo 42 (.load true 13 41),zo 10 (.alloc 13 [(za 0),(za 0),(za 0),(za 0),(za 0),(za 0),(za 0),(.bool false),(.slice none 0 0 false 0),(.slice none 0 0 false 0),(za 0),(za 0),(za 0)]),zm 9 40,zn (.store 13 10 42)] (oN [zf 43 0 10,zl 44 43,zo 45 (.eql false .pi 44 (zc 2)),zm 46 45,zg 47 (.faddr 7 10) 46 true,zg 48 (.load false 1 47) 46 true,zg 49 (.mv 48) 46 true,zg 50 (.load true 1 1) 49 true,zg 51 (.load true 14 6) 49 true,zg 52 (.call (.func (F 144)) [50,51]) 49 true,zg 53 (.pick 49 52 (.const (.bool false))) 46 true,zg 54 (.un .not 53) 46 true,zo 55 (.pick 46 54 (.const (.bool false))),zm 56 55,zg 57 (.load true 1 1) 56 true,zg 58 (.load true 13 10) 56 true,zg 59 (.load false 1 2) 56 true,zg 60 (.call (.func (F 145)) [57,58,59]) 56 true,zo 61 (.pick 56 60 (.const (.bool false))),zm 11 61] (oN [zm 62 11,zm 63 62,zg 64 (.mv 0) 63 true,zg 65 (.mv 5) 63 true,zg 66 (.mv 9) 63 true,zg 67 (.build [(za 0),(za 0),(za 0)] [⟨0,⟨1,(zc 4)⟩⟩,⟨1,⟨1,65⟩⟩,⟨2,⟨1,66⟩⟩]) 63 true,zg 68 (.call 64 [67]) 63 true,zg 69 (.un .not 68) 63 true,zo 70 (.pick 63 69 (.const (.bool false)))] (.cond 70 .ret .skip))))) (.ops [zo 71 (.arith .add 38 (zc 1)),zm 38 71]))))))))))) (.ops [zo 72 (.arith .add 16 (zc 1)),zm 16 72])))))))
def adu (F:Nat->FuncId) (T:Nat->TypeId):AC:=(oN [zo 2 (.box 1 0),zo 3 (.box 14 1),zo 4 (.mv (.const (.bool false)))] (oN [zf 8 0 2,zl 9 8,zf 10 0 3,zl 11 10,zo 12 (.invoke 9 "Chars" [11]),zm 7 12,zo 13 (.extract 7 0),zo 14 (.extract 7 1),zo 5 (.alloc 3 [(za 0),(za 0),(za 0)]),zn (.store 3 5 13),zm 6 14] (oN [zf 15 5 3,zl 16 15,zm 17 16,zg 18 (.mv 6) 17 false,zg 19 (.mv 18) 17 false,zg 20 (.faddr 6 3) 19 true,zg 21 (.load false 1 20) 19 true,zg 22 (.pick 19 21 (.const (.bool false))) 17 false,zg 23 (.mv 22) 17 false,zg 24 (.faddr 2 5) 23 true,zg 25 (.load false 1 24) 23 true,zg 26 (.arith .and 25 (zc 2)) 23 true,zg 27 (.eql false .pi 26 (zc 0)) 23 true,zg 28 (.pick 23 27 (.const (.bool false))) 17 false,zo 29 (.pick 17 (.const (.bool true)) 28),zm 4 29] .ret)))
def adv (F:Nat->FuncId)(T:Nat->TypeId):AC:=(oN [zo 3 (.box 1 0),zo 4 (.box 13 1),zo 6 (.mv (.const (.bool false)))] (.seq (oN [zf 9 8 4,zl 10 9,zo 11 (.lenS 10),zo 12 (.mv (zc 0))] (.block 0 (.loop (oN [zo 13 (.arith .lss 12 11)] (.seq (.cond 13 .skip (.exit 0)) (.seq (.block 1 (oN [zo 14 (.iaddrS 1 10 12),zl 15 14,zm 8 15] (oN [zf 16 0 3,zl 17 16,zm 18 8,zm 19 2,oF F 20 26 [17,18,19],zo 21 (.lenS 20),zo 22 (.eql false .pi 21 (zc 0))] (.cond 22 (oN [zo 6 (.mv (.const (.bool false)))] .ret) .skip)))) (.ops [zo 23 (.arith .add 12 (zc 1)),zm 12 23]))))))) (oN [zo 6 (.mv (.const (.bool true)))] .ret)))
structure BaseU (P:Program)(K:Orc)(F:Nat->FuncId)(T:Nat->TypeId):Prop where
 f38:FnK P K (F 38) 18 [(.tmp 4)] (a38 F T)
 f92:FnK P K (F 92) 21 [(.tmp 2)] (a92 F T)
 f93:FnK P K (F 93) 5 [] (a93 F T)
 f94:FnK P K (F 94) 6 [(.tmp 4)] (a94 F T)
 f95:FnK P K (F 95) 6 [(.tmp 4)] (a95 F T)
 f139:FnK P K (F 139) 72 [] (ado F T)
 f140:FnK P K (F 140) 30 [(.tmp 4)] (adp F T)
 f141:FnK P K (F 141) 40 [(.cell 4<|T 45),(.cell 5<|T 99),(.tmp 6)] (adq F T)
 f142:FnK P K (F 142) 35 [(.tmp 8)] (ads F T)
 f143:FnK P K (F 143) 73 [] (adt F T)
 f144:FnK P K (F 144) 30 [(.tmp 4)] (adu F T)
 f145:FnK P K (F 145) 24 [(.tmp 6)] (adv F T)
structure BaseV (P:Program)(K:Orc)(F:Nat->FuncId)(T:Nat->TypeId):Prop where
variable {rd:Option Nat}{nt:Nat}{l:Sl}{ds:List aD}{s:SH}{Q:Po}{Qn:Po}{Qr:Po}{Qe:Nat->Po}{bf:Nat}{bl:Nat}{aZ:AV}{bE:AV}{c0:Int}{c1:Int}{c2:Int}{c3:Int}{c4:Int}{EL:List (List AV)}{d:SD}{t:SH}
theorem acE (hB:Base P K F T)(hC:BaseC P K F T){z:Int}{p:Nat}{bX:List Int}{put:List Int->SD}(hs:aH bl EL d t s)(hd:d.Small)(he:d.kQ)(hf:Has bf (.r false [bu bl aZ c0 c1 c2 c3 c4 bE] 8) t)(hp:p<d.pl.length)(hz:d.ci z p=some (bX,put))(hn:bX.length<=1000) :
  bB P K (F 36) [.ptr (some ⟨bf,0,0⟩),iv z,iv<|.ofNat p] s (λv s'=>∃m,aH bl EL d (m++t) s'/\Src m 1 v (nR bX)):=by
 refine hC.f36.cF (by simp) ?_
 unfold ZV
 refine Wq<|Wv rfl<|Wn ?_
 refine Wq<|Wv rfl<|Ww<|Wz [.ptr (some ⟨bf,0,0⟩)] rfl rfl (Mq hB hs hd hf) ?_
 rintro w s2 ⟨m,dt,pv,ov,lv,hv,gv,ev,fv,sv,wv,rfl,hR⟩
 obtain⟨u,hu,back⟩:=dt.split
 have h90:bB P K (F 90) [.agg (d.cells pv ov lv hv gv ev fv sv wv),iv z,iv<|.ofNat p] s2 (λv s'=>∃m,aH bl EL d (m++t) s'/\Src m 1 v (nR bX)):=by
  refine hC.f90.cF (by simp) ?_
  unfold a90
  refine Wq<|Wa (.box rfl rfl) λb3=>Wv rfl<|Wn ?_
  refine Wq<|Wl rfl .here rfl rfl rfl<|Wr (.build (cs:=d.cells pv ov lv hv gv ev fv sv wv) rfl rfl)<|Wa (.box rfl rfl) λb7=>Wv rfl<|Wn ?_
  have hW:WH b7 d ((b3,.r false [d.cells pv ov lv hv gv ev fv sv wv] 25)::(u++t)) ((b7,.r false [d.cells pv ov lv hv gv ev fv sv wv] 25)::(b3,.r false [d.cells pv ov lv hv gv ev fv sv wv] 25)::s2):=
   ⟨pv,ov,lv,hv,gv,ev,fv,sv,wv,m,ak λc w h0 h1 h2 hq=>by simp only[h1,h2,hq _ _ hu];omega,hR⟩
  refine Ws<|Wq<|Wv rfl<|Wv rfl<|Wv rfl<|Ww<|Wz [.ptr (some ⟨b7,0,0⟩),iv z,iv<|.ofNat p] rfl rfl (ry hB hW he hp) ?_
  rintro w s4 ⟨_,hP⟩
  rw[hz]at hP
  obtain⟨b,r,o,sz,L,row,x,oi,rest,rfl,hq4,hr,hx,hG,_⟩:=hP
  refine Wv rfl<|Wn<|WP.pre hq4 ?_
  refine Wq<|Wv rfl<|Wh (b:=false) rfl rfl rfl<|Wn<|Wd rfl (λ_=>?_)<|λh=>by cases h
  refine Wq<|Wv rfl<|Wr (.nilchk rfl rfl)<|Wl rfl .here hr hx rfl<|Ww<|Wz [x] rfl rfl (hB.VS.clone (hG.out.src.mono λp hp=>by simp[hp]) (by omega) (by rw[gq];omega)<|by omega) ?_
  rintro w _ ⟨m5,rfl,hO⟩
  refine Wv rfl<|Wn<|We<|Wm (.tmp rfl .nil) ⟨m5++((b,.r false L sz)::(oi++(rest++[(b3,.r false [d.cells pv ov lv hv gv ev fv sv wv] 25)]))),?_,hO.src.mono λp hp=>by simp[hp]⟩
  exact(back _).perm (ak λc w h0 h1 h2 hq=>by simp only[h1,h2,h0];omega)
 exact Wv rfl<|Wv rfl<|Ww<|Wz [.agg (d.cells pv ov lv hv gv ev fv sv wv),iv z,iv<|.ofNat p] rfl rfl h90 λw s5 h5=>Wv rfl<|Wn<|We<|Wm (.tmp rfl .nil) h5
structure GE (P:Program)(K:Orc)(F:Nat->FuncId)(T:Nat->TypeId)(tF:TypeId)(g:ED->CH->CH)(C:List CD)(d:SD):Prop where
 hB:Base P K F T
 hC:BaseC P K F T
 hG:BaseG P K F T
 hT:TyC P T
 hM:gA P F tF
 hU:BaseU P K F T
 hI:BaseB P K F T
 info:meth P tF "Info"=some (F 58)
 t128:Ty P (T 128) 13
 hd:d.Small
 he:d.kQ
 hO:nG P K F g d C
structure qc (bf bl:Nat)(aZ bE:AV)(c0 c1 c2 c3 c4:Int)(C:List CD)(tl:AD->List Nat)(t:SH):Prop where
 hf:Has bf (.r false [bu bl aZ c0 c1 c2 c3 c4 bE] 8) t
 eQ:cI t aZ C
 htg:∀c∈C,∀a∈c.ab,Src t 1 a.tg (nR<|(tl a).map Int.ofNat)/\(∀k∈tl a,k<8)/\(tl a).length<=1000/\dz a.cd a.cd=true
theorem qc.mono {bf bl:Nat}{aZ bE:AV}{c0 c1 c2 c3 c4:Int}{C:List CD}{tl:AD->List Nat}{t t':SH}(h:qc bf bl aZ bE c0 c1 c2 c3 c4 C tl t)(hs:∀p,p∈t->p∈t'):qc bf bl aZ bE c0 c1 c2 c3 c4 C tl t':=
 ⟨.ce<|hs _ h.hf.mem,h.eQ.mono hs,λc hc a ha=>⟨(h.htg c hc a ha).1.mono hs,(h.htg c hc a ha).2⟩⟩
@[reducible] def gm (tF:TypeId)(bf:Nat):AV:=.iface tF (.ptr (some ⟨bf,0,0⟩))
variable {tF:TypeId}{g:ED->CH->CH}{C:List CD}{tl:AD->List Nat}
theorem aaz (hE:GE P K F T tF g C d)(hm:qc bf bl aZ bE c0 c1 c2 c3 c4 C tl t)(hs:aH bl EL d t s){id:Int}{o:OD}{c:CD}{k:Nat}(ho:d.obj id=some o)(hk:o.gE=.ofNat k)(hc:C[k]?=some c) :
  bB P K (F 141) [.agg [gm tF bf],iv id] s (λv s'=>v=.tuple [.agg o.row,.agg c.row,.bool true]/\aH bl EL d t s'):=by
 refine hE.hU.f141.cF (by simp) ?_
 unfold adq
 refine Wq<|Wa (.box rfl rfl) λb2=>Wa (.alloc rfl) λb4=>Wa (.alloc rfl) λb5=>Wv rfl<|Wn ?_
 have nr:aH bl EL d ((b5,.r false [yz] 11)::(b4,.r false [dB] 14)::(b2,.r false [[gm tF bf]] 1)::t) ((b5,.r false [yz] 11)::(b4,.r false [dB] 14)::(b2,.r false [[gm tF bf]] 1)::s):=hs.cons.cons.cons
 refine Wq<|Wf rfl<|Wl rfl (.there<|.there .here) rfl rfl rfl<|Wv rfl<|Ww<|WS.invoke (vs:=[iv id]) rfl hE.hM.obj rfl (Qq hE.hB hE.hC nr hE.hd<|.there<|.there<|.there hm.hf) ?_
 rintro w s2 ⟨hv,dt⟩
 rw[ho]at hv
 subst hv
 obtain⟨u2,hu2,adC⟩:=dt.split
 refine WO.pre hu2<|Wv rfl<|Wr (.extract rfl rfl)<|Wr (.extract rfl rfl)<|Ww<|Wt (s':=u2++((b5,.r false [yz] 11)::(b4,.r false [o.row] 14)::(b2,.r false [[gm tF bf]] 1)::t)) rfl rfl rfl (.app<|.there .here) rfl rfl<|Wv rfl<|Wn ?_
 have gw:=adC<|(b5,.r false [yz] 11)::(b4,.r false [o.row] 14)::(b2,.r false [[gm tF bf]] 1)::t
 refine Wq<|Wf rfl<|Wl rfl (.app<|.there<|.there .here) rfl rfl rfl<|Ww<|WS.invoke (vs:=[]) rfl hE.hM.aZ rfl (BS hE.hG gw (.there<|.there<|.there hm.hf)<|hm.eQ.mono λp hp=>by simp[hp]) ?_
 rintro w s4 ⟨m,pM,hS⟩
 obtain⟨u4,hu4,adD⟩:=pM.split
 refine Wv rfl<|Wn<|WP.pre hu4 ?_
 have hlen:lenOf w=some C.length:=by rw[hS.lenOf];simp
 have hkl:k<C.length:=(List.getElem?_eq_some_iff.1 hc).1
 have hkn:=hm.eQ.n
 have h22:bV 1 (cu 1 o.row)=some [iv (.ofNat k)]:=by rw[<- hk];rfl
 have h23:binV .lss (iv<|.ofNat k) (iv 0)=some (.bool false):=by rw[eT,decide_eq_false<|show¬Int.ofNat k<0 from(by omega:¬((k:Nat):Int)<0)]
 refine Ws<|Wq<|Wv rfl<|Wr (.un rfl rfl)<|Wv rfl<|Wy rfl rfl<|Wf rfl<|Wy rfl rfl<|Wl rfl (.app<|.app<|.there .here) rfl h22 rfl<|Wy rfl rfl<|Wj rfl rfl h23<|Wr (.bj rfl rfl)<|Wv rfl<|Wy rfl rfl<|Wf rfl<|Wy rfl rfl<|Wl rfl (.app<|.app<|.there .here) rfl h22 rfl<|Wy rfl rfl<|Wv rfl<|Wy rfl rfl<|Wr (.lenS rfl hlen)<|Wy rfl rfl<|Wj rfl rfl (Cm hkl)<|Wr (.bj rfl rfl)<|Wn<|Wd rfl fS<|λ_=>Wi ?_
 obtain⟨ba,ra,na,ca,J5,Sp,Ma,e1,hba,me,P1⟩:=hS.at (i:=k)<|by simpa using hkl
 have hrow:Ma[ra+k]?=some c.row:=by rw[P1,List.getElem?_map,hc];rfl
 refine Ws<|WP.bD<|Dl rfl .nil (.load (cs:=o.row) rfl (.app<|.app<|.there .here) rfl rfl rfl)<|Dp (.mv rfl)<|Dp (.faddr rfl)<|Dl rfl .nil (.load rfl (.app<|.app<|.there .here) rfl h22 rfl)<|Dp (.iaddrS (congrArg some e1) rfl me<|by decide)<|WD.lk rfl .nil (.load (cs:=c.row) rfl (.app<|.left hba) hrow rfl rfl) ?_
 refine Dc .nil<|Wt (s':=u4++(m++((b5,.r false [yz] 11)::(b4,.r false [o.row] 14)::(b2,.r false [[gm tF bf]] 1)::t))) rfl rfl rfl (.app<|.app<|.there .here) rfl rfl<|Dc .nil<|Wt (s':=u4++(m++((b5,.r false [c.row] 11)::(b4,.r false [o.row] 14)::(b2,.r false [[gm tF bf]] 1)::t))) rfl rfl rfl (.app<|.app .here) rfl rfl<|Dp (.mv rfl)<|D0 .nil ?_ ?_
 rotate_left
 ·intro o' ho'
  rw[List.mem_singleton.1 ho']
  have IR:c∈C:=List.mem_of_getElem? hc
  refine⟨(λi hi=>nomatch hi),Nat.zero_le _,J3 c<|hm.eQ.ab c IR,λk' _ hk'=>?_⟩
  rcases(by have:k'<=1:=hk';omega:k'=0\/k'=1)with rfl|rfl
  ·exact⟨_,rfl,.load (cs:=c.row) rfl (.app<|.left hba) hrow rfl rfl⟩
  ·exact⟨_,rfl,.load (cs:=c.row) rfl (.app<|.left hba) hrow rfl rfl⟩
 refine We<|Wm (.cell rfl hE.hB.t45.1 hE.hB.t45.2 (.inl rfl) (.app<|.app<|.there .here) rfl rfl rfl<|.cell rfl hE.hT.t99.1 hE.hT.t99.2 (.inl rfl) (.app<|.app .here) rfl rfl rfl<|.tmp rfl .nil) ⟨rfl,?_⟩
 have:=adD<|m++((b5,.r false [c.row] 11)::(b4,.r false [o.row] 14)::(b2,.r false [[gm tF bf]] 1)::t)
 exact aH.fb (x:=[_,_,_])<|aH.fb (x:=m) this
def ec (d:SD)(p:Int):Bool:=decide (p=d.ac)&&(decide (d.ph=2)||decide (d.ph=8))&&decide (d.st.length=0)
theorem acU (n:Nat):decide (Int.ofNat n=Int.ofNat 0)=decide (n=0):=decide_eq_decide.2 ⟨λh=>Int.ofNat.inj h,λh=>by rw[h]⟩
theorem abn (hE:GE P K F T tF g C d)(hm:qc bf bl aZ bE c0 c1 c2 c3 c4 C tl t)(hs:aH bl EL d t s){p:Int} :
  bB P K (F 140) [.agg [gm tF bf],iv p] s (λv s'=>v=.bool (ec d p)/\aH bl EL d t s'):=by
 refine hE.hU.f140.cF (by simp) ?_
 unfold adp
 refine Wq<|Wa (.box rfl rfl) λb2=>Wv rfl<|Wn ?_
 have nr:aH bl EL d ((b2,.r false [[gm tF bf]] 1)::t) ((b2,.r false [[gm tF bf]] 1)::s):=hs.cons
 refine Wq<|Wf rfl<|Wl rfl .here rfl rfl rfl<|Ww<|WS.invoke (vs:=[]) rfl hE.info rfl (acv hE.hB hE.hI hE.t128 nr hE.hd<|.there hm.hf) ?_
 rintro w s2 ⟨rfl,dt⟩
 refine Wa (.alloc rfl) λb5=>Ww<|Wt (s':=(b5,.r false [aax d] 13)::s2) rfl rfl rfl .here rfl rfl<|Wn ?_
 have gw:aH bl EL d ((b5,.r false [aax d] 13)::(b2,.r false [[gm tF bf]] 1)::t) ((b5,.r false [aax d] 13)::s2):=dt.cons
 have vu:eqBy 20 .pi (iv p) (iv d.ac)=some (decide<|p=d.ac):=dM _ _
 have h20:eqBy 20 .pi (iv d.ph) (iv 2)=some (decide<|d.ph=2):=dM _ _
 have h80:eqBy 20 .pi (iv d.ph) (iv 8)=some (decide<|d.ph=8):=dM _ _
 obtain⟨ba,hac⟩:∃b,decide (p=d.ac)=b:=⟨_,rfl⟩
 obtain⟨b2',h2c⟩:∃b,decide (d.ph=2)=b:=⟨_,rfl⟩
 obtain⟨b8,h8c⟩:∃b,decide (d.ph=8)=b:=⟨_,rfl⟩
 have hp:=hac▸vu
 have h2:=h2c▸h20
 have h8:=h8c▸h80
 cases ba with
 | false=>
  refine Wq<|Wv rfl<|Wf rfl<|Wl rfl .here rfl rfl rfl<|Wh rfl rfl hp<|Wv rfl<|Wk rfl rfl<|Wk rfl rfl<|Wk rfl rfl<|Wk rfl rfl<|Wu rfl<|Wu rfl<|Wu rfl<|Wk rfl rfl<|Wr (.bj rfl rfl)<|Wv rfl<|Wk rfl rfl<|Wk rfl rfl<|Wk rfl rfl<|Wk rfl rfl<|Wk rfl rfl<|Wr (.bj rfl rfl)<|Wv rfl<|Wn<|We<|Wm (.tmp rfl .nil) ⟨by unfold ec;rw[hac];rfl,aH.fb (x:=[_,_]) gw⟩
 | true=>
  cases b2' with
  | true=>
   refine Wq<|Wv rfl<|Wf rfl<|Wl rfl .here rfl rfl rfl<|Wh rfl rfl hp<|Wv rfl<|Wy rfl rfl<|Wf rfl<|Wy rfl rfl<|Wl rfl .here rfl rfl rfl<|Wy rfl rfl<|Wh rfl rfl h2<|Wy rfl rfl<|Wv rfl<|Wk rfl rfl<|Wk rfl rfl<|Wk rfl rfl<|Wy rfl rfl<|Wr (.cV rfl rfl)<|Wr (.cV rfl rfl)<|Wv rfl<|Wy rfl rfl<|Wf rfl<|Wy rfl rfl<|Wl rfl (.there<|dt.mem .here) rfl rfl rfl<|Wy rfl rfl<|Ww<|WS.invoke (vs:=[]) rfl hE.hM.stack rfl (AK hE.hB hE.hG gw hE.hd<|.there<|.there hm.hf) ?_
   rintro w s4 ⟨m,pM,hS⟩
   have hl:lenOf w=some d.st.length:=by rw[hS.lenOf];simp[CT]
   refine Wy rfl rfl<|Wr (.lenS rfl hl)<|Wy rfl rfl<|Wh rfl rfl (dM _ _)<|Wr (.cV rfl rfl)<|Wv rfl<|Wn<|We<|Wm (.tmp rfl .nil) ⟨by unfold ec;rw[hac,h2c,<- acU];rfl,aH.fb (x:=[_,_])<|aH.fb (x:=m) pM⟩
  | false=>
   cases b8 with
   | true=>
    refine Wq<|Wv rfl<|Wf rfl<|Wl rfl .here rfl rfl rfl<|Wh rfl rfl hp<|Wv rfl<|Wy rfl rfl<|Wf rfl<|Wy rfl rfl<|Wl rfl .here rfl rfl rfl<|Wy rfl rfl<|Wh rfl rfl h2<|Wy rfl rfl<|Wv rfl<|Wy rfl rfl<|Wf rfl<|Wy rfl rfl<|Wl rfl .here rfl rfl rfl<|Wy rfl rfl<|Wh rfl rfl h8<|Wy rfl rfl<|Wr (.bj rfl rfl)<|Wr (.cV rfl rfl)<|Wv rfl<|Wy rfl rfl<|Wf rfl<|Wy rfl rfl<|Wl rfl (.there<|dt.mem .here) rfl rfl rfl<|Wy rfl rfl<|Ww<|WS.invoke (vs:=[]) rfl hE.hM.stack rfl (AK hE.hB hE.hG gw hE.hd<|.there<|.there hm.hf) ?_
    rintro w s4 ⟨m,pM,hS⟩
    have hl:lenOf w=some d.st.length:=by rw[hS.lenOf];simp[CT]
    refine Wy rfl rfl<|Wr (.lenS rfl hl)<|Wy rfl rfl<|Wh rfl rfl (dM _ _)<|Wr (.cV rfl rfl)<|Wv rfl<|Wn<|We<|Wm (.tmp rfl .nil) ⟨by unfold ec;rw[hac,h2c,h8c,<- acU];rfl,aH.fb (x:=[_,_])<|aH.fb (x:=m) pM⟩
   | false=>
    refine Wq<|Wv rfl<|Wf rfl<|Wl rfl .here rfl rfl rfl<|Wh rfl rfl hp<|Wv rfl<|Wy rfl rfl<|Wf rfl<|Wy rfl rfl<|Wl rfl .here rfl rfl rfl<|Wy rfl rfl<|Wh rfl rfl h2<|Wy rfl rfl<|Wv rfl<|Wy rfl rfl<|Wf rfl<|Wy rfl rfl<|Wl rfl .here rfl rfl rfl<|Wy rfl rfl<|Wh rfl rfl h8<|Wy rfl rfl<|Wr (.bj rfl rfl)<|Wr (.cV rfl rfl)<|Wv rfl<|Wk rfl rfl<|Wk rfl rfl<|Wk rfl rfl<|Wk rfl rfl<|Wk rfl rfl<|Wr (.bj rfl rfl)<|Wv rfl<|Wn<|We<|Wm (.tmp rfl .nil) ⟨by unfold ec;rw[hac,h2c,h8c];rfl,aH.fb (x:=[_,_]) gw⟩
def qa (g:ED->CH->CH)(d:SD)(C:List CD)(l:List Nat)(p:Int):Bool:=l.all λk=>!decide ((ct g d C (.ofNat k) p).length=0)
def aam (b k:Int):Bool:=match binV .and (iv k) (iv b)with | some (.int _ n)=>decide (n=0) | _=>false
def aak (g:ED->CH->CH)(d:SD)(C:List CD)(tl:AD->List Nat)(c:CD)(p:Int)(now:Bool):Bool:=
 if !now&&aam 64 c.keys then false else if c.kind=3 then(match c.ab with | []=>false | a::_=>qa g d C (tl a) p)else true
def aad (g:ED->CH->CH)(d:SD)(C:List CD)(o:OD):Bool:=o.RU||(match uY g d C o.id with | some x=>o.VK&&aam 2 x.k | none=>false)
theorem abe (a b:Int):∃n,binV .and (iv a) (iv b)=some (iv n)/\aam b a=decide (n=0):=by
 obtain⟨n,h⟩:=Tl a b
 exact⟨n,h,by unfold aam;rw[h]⟩
theorem zt (hE:GE P K F T tF g C d)(hm:qc bf bl aZ bE c0 c1 c2 c3 c4 C tl t)(hs:aH bl EL d t s){p:Int}{c:CD}{a:AD}(hc:c∈C)(ha:a∈c.ab) :
  bB P K (F 145) [.agg [gm tF bf],.agg a.row,iv p] s (λv s'=>v=.bool (qa g d C (tl a) p)/\aH bl EL d t s'):=by
 obtain⟨hS,hk8,hn,_⟩:=hm.htg c hc a ha
 refine hE.hU.f145.cF (by simp) ?_
 unfold adv
 refine Wq<|Wa (.box rfl rfl) λb3=>Wa (.box rfl rfl) λb4=>Wv rfl<|Wn ?_
 have nr:aH bl EL d ((b4,.r false [a.row] 13)::(b3,.r false [[gm tF bf]] 1)::t) ((b4,.r false [a.row] 13)::(b3,.r false [[gm tF bf]] 1)::s):=hs.cons.cons
 have hl:lenOf a.tg=some (tl a).length:=by rw[hS.lenOf,gq];simp
 refine Ws<|Wq<|Wf rfl<|Wl rfl .here rfl rfl rfl<|Wr (.lenS rfl hl)<|Wv rfl<|Wn<|Wb ?_
 refine Wp (λk l ds s'=>ds=[]/\∃q,k=(tl a).length-q/\q<=(tl a).length/\qa g d C ((tl a).take q) p=true/\aH bl EL d ((b4,.r false [a.row] 13)::(b3,.r false [[gm tF bf]] 1)::t) s'/\∀y w,lk [(2,iv p),(3,.ptr<|some ⟨b3,0,0⟩),(10,a.tg),(11,iv<|.ofNat (tl a).length),(12,iv<|.ofNat q)] y=some w->lk l y=some w) ?_ (n:=(tl a).length-0)
  ⟨rfl,0,rfl,Nat.zero_le _,rfl,nr,cM rfl⟩
 rintro k l ds s2 ⟨rfl,q,rfl,hq,hall,dt,hl⟩
 refine Wg hl (λ_ _ h=>h) ?_
 refine Wq<|Wj rfl rfl (eT _ _)<|Wn<|Ws<|Wd rfl (λht=>Wi ?_)<|λht=>Wx ?_
 ·have hlt:q<(tl a).length:=Int.ofNat_lt.1 (of_decide_eq_true ht)
  have hx:(tl a)[q]?=some (tl a)[q]:=List.getElem?_eq_getElem hlt
  have KP:(tl a)[q]∈tl a:=List.getElem_mem _
  generalize (tl a)[q]=e at hx KP
  have he8:=hk8 e KP
  obtain⟨ba,ra,na,ca,J5,Sp,Ma,htg,hba,me,P1⟩:=hS.at (i:=q) (by rw[gq];simpa using hlt)
  have hrow:Ma[ra+q]?=some [iv (.ofNat e)]:=by rw[P1];simp[nR,hx]
  have gc:qa g d C ((tl a).take (q+1)) p=!decide ((ct g d C (.ofNat e) p).length=0):=by
   unfold qa at hall |-
   rw[List.take_add_one,hx,List.all_append,hall]
   simp
  refine Ws<|Wb<|Wq<|Wr (.iaddrS (congrArg some htg) rfl me<|by decide)<|Wl rfl (dt.mem<|.there<|.there hba) hrow rfl rfl<|Wv rfl<|Wn ?_
  refine Wq<|Wf rfl<|Wl rfl (dt.mem<|.there .here) rfl rfl rfl<|Wv rfl<|Wv rfl<|Ww<|Wz [gm tF bf,iv<|.ofNat e,iv p] rfl rfl (nT hE.hB hE.hC hE.hG hE.hT hE.hM he8 dt hE.hd (.there<|.there hm.hf) (hm.eQ.mono λp hp=>by simp[hp]) hE.hO) ?_
  rintro w s3 ⟨m,gw,hS3⟩
  have YH:lenOf w=some (ct g d C (.ofNat e) p).length:=by rw[hS3.lenOf,sd]
  refine Wr (.lenS rfl YH)<|Wh rfl rfl (dM _ _)<|Wn ?_
  rw[acU]
  have pM:aH bl EL d ((b4,.r false [a.row] 13)::(b3,.r false [[gm tF bf]] 1)::t) s3:=gw.fb
  cases hz:decide ((ct g d C (.ofNat e) p).length=0) with
  | true=>
   refine Wd rfl (λ_=>?_) Dz
   refine Wq<|Wv rfl<|Wn<|We<|Wm (.tmp rfl .nil) ⟨?_,aH.fb (x:=[_,_]) pM⟩
   refine congrArg AV.bool<|Eq.symm ?_
   unfold qa
   refine List.all_eq_false.2 ⟨e,KP,?_⟩
   rw[hz];decide
  | false=>
   refine Wd rfl fS<|λ_=>Wi ?_
   refine Wo<|Wj rfl rfl (bM<|by omega)<|Wv rfl<|Wn ?_
   exact⟨(tl a).length-(q+1),by omega,rfl,q+1,rfl,hlt,by rw[gc,hz];rfl,pM,cM rfl⟩
 ·have hge:¬q<(tl a).length:=λh=>of_decide_eq_false ht (Int.ofNat_lt.2 h)
  rw[List.take_of_length_le (by omega)]at hall
  rw[hall]
  exact Wq<|Wv rfl<|Wn<|We<|Wm (.tmp rfl .nil) ⟨rfl,aH.fb (x:=[_,_]) dt⟩
theorem abc (hE:GE P K F T tF g C d)(hm:qc bf bl aZ bE c0 c1 c2 c3 c4 C tl t)(hs:aH bl EL d t s){o:OD} :
  bB P K (F 144) [.agg [gm tF bf],.agg o.row] s (λv s'=>v=.bool (aad g d C o)/\aH bl EL d t s'):=by
 refine hE.hU.f144.cF (by simp) ?_
 unfold adu
 refine Wq<|Wa (.box rfl rfl) λb2=>Wa (.box rfl rfl) λb3=>Wv rfl<|Wn ?_
 have nr:aH bl EL d ((b3,.r false [o.row] 14)::(b2,.r false [[gm tF bf]] 1)::t) ((b3,.r false [o.row] 14)::(b2,.r false [[gm tF bf]] 1)::s):=hs.cons.cons
 refine Wq<|Wf rfl<|Wl rfl (.there .here) rfl rfl rfl<|Wf rfl<|Wl rfl .here rfl rfl rfl<|Ww<|WS.invoke (vs:=[iv o.id]) rfl hE.hM.chars rfl (pE hE.hB hE.hC hE.hT nr hE.hd (.there<|.there hm.hf) (hm.eQ.mono λp hp=>by simp[hp]) hE.hO) ?_
 rintro w s2 ⟨hv,dt⟩
 unfold aad
 cases hc:uY g d C o.id with
 | none=>
  rw[hc]at hv
  subst hv
  refine Wv rfl<|Wr (.extract rfl rfl)<|Wr (.extract rfl rfl)<|Wa (.alloc rfl) λb5=>Ww<|Wt (s':=(b5,.r false [(⟨0,0,0⟩:CH).row] 3)::s2) rfl rfl rfl .here rfl rfl<|Wv rfl<|Wn ?_
  have gw:aH bl EL d ((b5,.r false [(⟨0,0,0⟩:CH).row] 3)::(b3,.r false [o.row] 14)::(b2,.r false [[gm tF bf]] 1)::t) ((b5,.r false [(⟨0,0,0⟩:CH).row] 3)::s2):=dt.cons
  cases htb:o.RU with
  | true=>
   have htp:bV 1 (cu 5 o.row)=some [.bool true]:=by rw[<- htb];rfl
   refine Wq<|Wf rfl<|Wl rfl (.there<|dt.mem .here) rfl htp rfl<|Wv rfl<|Wk rfl rfl<|Wk rfl rfl<|Wu rfl<|Wu rfl<|Wk rfl rfl<|Wk rfl rfl<|Wu rfl<|Wu rfl<|Wu rfl<|Wu rfl<|Wk rfl rfl<|Wr (.cV rfl rfl)<|Wv rfl<|Wn<|We<|Wm (.tmp rfl .nil) ⟨rfl,aH.fb (x:=[_,_,_]) gw⟩
  | false=>
   have htp:bV 1 (cu 5 o.row)=some [.bool false]:=by rw[<- htb];rfl
   refine Wq<|Wf rfl<|Wl rfl (.there<|dt.mem .here) rfl htp rfl<|Wv rfl<|Wy rfl rfl<|Wv rfl<|Wy rfl rfl<|Wv rfl<|Wk rfl rfl<|Wk rfl rfl<|Wy rfl rfl<|Wr (.bj rfl rfl)<|Wy rfl rfl<|Wv rfl<|Wk rfl rfl<|Wk rfl rfl<|Wk rfl rfl<|Wk rfl rfl<|Wy rfl rfl<|Wr (.bj rfl rfl)<|Wr (.bj rfl rfl)<|Wv rfl<|Wn<|We<|Wm (.tmp rfl .nil) ⟨rfl,aH.fb (x:=[_,_,_]) gw⟩
 | some x=>
  rw[hc]at hv
  subst hv
  obtain⟨nn,hnn,hbb⟩:=abe x.k 2
  refine Wv rfl<|Wr (.extract rfl rfl)<|Wr (.extract rfl rfl)<|Wa (.alloc rfl) λb5=>Ww<|Wt (s':=(b5,.r false [x.row] 3)::s2) rfl rfl rfl .here rfl rfl<|Wv rfl<|Wn ?_
  have gw:aH bl EL d ((b5,.r false [x.row] 3)::(b3,.r false [o.row] 14)::(b2,.r false [[gm tF bf]] 1)::t) ((b5,.r false [x.row] 3)::s2):=dt.cons
  cases htb:o.RU with
  | true=>
   have htp:bV 1 (cu 5 o.row)=some [.bool true]:=by rw[<- htb];rfl
   refine Wq<|Wf rfl<|Wl rfl (.there<|dt.mem .here) rfl htp rfl<|Wv rfl<|Wk rfl rfl<|Wk rfl rfl<|Wu rfl<|Wu rfl<|Wk rfl rfl<|Wk rfl rfl<|Wu rfl<|Wu rfl<|Wu rfl<|Wu rfl<|Wk rfl rfl<|Wr (.cV rfl rfl)<|Wv rfl<|Wn<|We<|Wm (.tmp rfl .nil) ⟨rfl,aH.fb (x:=[_,_,_]) gw⟩
  | false=>
   have htp:bV 1 (cu 5 o.row)=some [.bool false]:=by rw[<- htb];rfl
   cases hsb:o.VK with
   | true=>
    have hsk:bV 1 (cu 6 o.row)=some [.bool true]:=by rw[<- hsb];rfl
    refine Wq<|Wf rfl<|Wl rfl (.there<|dt.mem .here) rfl htp rfl<|Wv rfl<|Wy rfl rfl<|Wv rfl<|Wy rfl rfl<|Wv rfl<|Wy rfl rfl<|Wf rfl<|Wy rfl rfl<|Wl rfl (.there<|dt.mem .here) rfl hsk rfl<|Wy rfl rfl<|Wr (.cV rfl rfl)<|Wy rfl rfl<|Wv rfl<|Wy rfl rfl<|Wf rfl<|Wy rfl rfl<|Wl rfl .here rfl rfl rfl<|Wy rfl rfl<|Wj rfl rfl hnn<|Wy rfl rfl<|Wh rfl rfl (dM _ _)<|Wy rfl rfl<|Wr (.cV rfl rfl)<|Wr (.bj rfl rfl)<|Wv rfl<|Wn<|We<|Wm (.tmp rfl .nil) ⟨by show _=AV.bool (false||(true&&aam 2 x.k));rw[hbb];rfl,aH.fb (x:=[_,_,_]) gw⟩
   | false=>
    have hsk:bV 1 (cu 6 o.row)=some [.bool false]:=by rw[<- hsb];rfl
    refine Wq<|Wf rfl<|Wl rfl (.there<|dt.mem .here) rfl htp rfl<|Wv rfl<|Wy rfl rfl<|Wv rfl<|Wy rfl rfl<|Wv rfl<|Wy rfl rfl<|Wf rfl<|Wy rfl rfl<|Wl rfl (.there<|dt.mem .here) rfl hsk rfl<|Wy rfl rfl<|Wr (.cV rfl rfl)<|Wy rfl rfl<|Wv rfl<|Wk rfl rfl<|Wk rfl rfl<|Wk rfl rfl<|Wk rfl rfl<|Wy rfl rfl<|Wr (.bj rfl rfl)<|Wr (.bj rfl rfl)<|Wv rfl<|Wn<|We<|Wm (.tmp rfl .nil) ⟨rfl,aH.fb (x:=[_,_,_]) gw⟩
def acG (F:Nat->FuncId)(T:Nat->TypeId):AC:=(.seq (.drawn 0 [zp (zf 17 1 5) 0,zr (zl 18 17) 0 0 1,zp (zo 19 (.eql true .pi 18 (zc 3))) 3,zp (zm 20 19) 7,zp (zg 21 (.faddr 10 5) 20 false) 15,zr (zg 22 (.load false 1 21) 20 false) 0 0 31,zp (zg 23 (.lenS 22) 20 false) 63,zp (zg 24 (.arith .gtr 23 (zc 0)) 20 false) 127,zp (zg 25 (.mv 24) 20 false) 255,zr (zg 26 (.load true 1 4) 25 true) 0 0 511,zp (zg 27 (.faddr 10 5) 25 true) 511,zr (zg 28 (.load false 1 27) 25 true) 0 0 1535,zp (zg 29 (.iaddrS 13 28 (zc 0)) 25 true) 3583,zr (zg 30 (.load true 13 29) 25 true) 0 0 7679,zp (zg 31 (.mv 2) 25 true) 511,zh (zg 32 (.call (.func (F 145)) [26,30,31]) 25 true) 32767,zp (zg 33 (.pick 25 32 (.const (.bool false))) 20 false) 65535,zp (zo 34 (.pick 20 (.const (.bool true)) 33)) 131071,zp (zm 8 34) 262143]) .ret)
theorem aas (hE:GE P K F T tF g C d)(hm:qc bf bl aZ bE c0 c1 c2 c3 c4 C tl t)(hs:aH bl EL d t s){c:CD}(IR:c∈C){p:Int}{pl:Bool}{b4 b5:Nat}(uA:pl=if c.kind=3 then(match c.ab with | []=>false | a::_=>qa g d C (tl a) p)else true)
  (hl:∀y w,lk [(2,iv p),(4,.ptr<|some ⟨b4,0,0⟩),(5,.ptr<|some ⟨b5,0,0⟩)] y=some w->lk l y=some w) :
  WP P K none 35 (acG F T) l [] ((b5,.r false [c.row] 11)::(b4,.r false [[gm tF bf]] 1)::s) (Fin P [.tmp 8] λv s'=>v=.bool pl/\aH bl EL d t s') (λ_ _ _ _=>False) (Fin P [.tmp 8] λv s'=>v=.bool pl/\aH bl EL d t s'):=by
 have nr:aH bl EL d ((b5,.r false [c.row] 11)::(b4,.r false [[gm tF bf]] 1)::t) ((b5,.r false [c.row] 11)::(b4,.r false [[gm tF bf]] 1)::s):=hs.cons.cons
 refine Wg hl (λ_ _ h=>h) ?_
 unfold acG
 obtain⟨kd,aaB⟩:∃k,c.kind=k:=⟨_,rfl⟩
 have hkd:bV 1 (cu 1 c.row)=some [iv kd]:=by rw[<- aaB];rfl
 have adS:eqBy 20 .pi (iv kd) (iv 3)=some (decide<|kd=3):=dM _ _
 rw[aaB]at uA
 by_cases h3:kd=3
 ·rw[if_pos h3]at uA
  have A4:eqBy 20 .pi (iv kd) (iv 3)=some true:=by rw[adS,decide_eq_true h3]
  have hn:=hm.eQ.nb c IR
  have xD:=hm.eQ.ab c IR
  cases hcab:c.ab with
  | nil=>
   rw[hcab]at xD uA
   have hlen:lenOf c.av=some 0:=xD.lenOf
   have hgt:binV .gtr (iv<|.ofNat 0) (iv 0)=some (.bool false):=rfl
   refine Ws<|WP.bD<|Dp (.faddr rfl)<|Dl rfl .nil (.load rfl .here rfl hkd rfl)<|Dp (.eql rfl rfl A4)<|Dp (.mv rfl)<|Dy rfl rfl<|Dp (.faddr rfl)<|Dy rfl rfl<|Dl rfl .nil (.load rfl .here rfl rfl rfl)<|Dy rfl rfl<|Dp (.lenS rfl hlen)<|Dy rfl rfl<|Dp (.arith rfl rfl hgt)<|Dy rfl rfl<|Dp (.mv rfl)<|Dk rfl rfl rfl<|Dk rfl rfl rfl<|Dk rfl rfl rfl<|Dk rfl rfl rfl<|Dk rfl rfl rfl<|Dk rfl rfl rfl<|WD.jm rfl rfl<|Dy rfl rfl<|Dp (.bj rfl rfl)<|Dp (.bj rfl rfl)<|Dp (.mv rfl)<|D0 .nil (We<|Wm (.tmp rfl .nil) ⟨by rw[uA],aH.fb (x:=[_,_]) nr⟩)<|λo h=>nomatch h
  | cons a rest=>
   rw[hcab]at xD uA
   have hab:a∈c.ab:=by rw[hcab];exact .head _
   have hlen:lenOf c.av=some (rest.length+1):=by rw[xD.lenOf];simp
   have hgt:binV .gtr (iv<|.ofNat<|rest.length+1) (iv 0)=some (.bool true):=by
    show some (AV.bool<|ilt 0<|.ofNat<|rest.length+1)=_
    rw[du,decide_eq_true<|show(0:Int)<Int.ofNat (rest.length+1) from(by omega:(0:Int)<((rest.length+1:Nat):Int))]
   obtain⟨ba,ra,na,ca,J5,Sp,Ma,aeE,hba,me,P1⟩:=xD.at (i:=0)<|by simp
   have hrow:Ma[ra+0]?=some a.row:=by rw[P1];rfl
   refine Ws<|WP.bD<|Dp (.faddr rfl)<|Dl rfl .nil (.load rfl .here rfl hkd rfl)<|Dp (.eql rfl rfl A4)<|Dp (.mv rfl)<|Dy rfl rfl<|Dp (.faddr rfl)<|Dy rfl rfl<|Dl rfl .nil (.load rfl .here rfl rfl rfl)<|Dy rfl rfl<|Dp (.lenS rfl hlen)<|Dy rfl rfl<|Dp (.arith rfl rfl hgt)<|Dy rfl rfl<|Dp (.mv rfl)<|Dy rfl rfl<|Dl rfl .nil (.load rfl (.there .here) rfl rfl rfl)<|Dy rfl rfl<|Dp (.faddr rfl)<|Dy rfl rfl<|Dl rfl .nil (.load rfl .here rfl rfl rfl)<|Dy rfl rfl<|Dp (.iaddrS (congrArg some aeE) rfl me<|by decide)<|Dy rfl rfl<|Dl rfl .nil (.load (cs:=a.row) rfl (.there<|.there<|hs.mem hba) hrow rfl rfl)<|Dy rfl rfl<|Dp (.mv rfl)<|Dy rfl rfl<|Dc .nil<|Wz [.agg [gm tF bf],.agg a.row,iv p] rfl rfl (zt hE (hm.mono λp hp=>by simp[hp]) nr IR hab) ?_
   rintro w s2 ⟨rfl,dt⟩
   refine Dy rfl rfl<|Dp (.cV rfl rfl)<|Dp (.bj rfl rfl)<|Dp (.mv rfl)<|D0 .nil (We<|Wm (.tmp rfl .nil) ⟨by rw[uA],aH.fb (x:=[_,_]) dt⟩)<|λo h=>nomatch h
 ·rw[if_neg h3]at uA
  have A4:eqBy 20 .pi (iv kd) (iv 3)=some false:=by rw[adS,decide_eq_false h3]
  refine Ws<|WP.bD<|Dp (.faddr rfl)<|Dl rfl .nil (.load rfl .here rfl hkd rfl)<|Dp (.eql rfl rfl A4)<|Dp (.mv rfl)<|Dk rfl rfl rfl<|Dk rfl rfl rfl<|Dk rfl rfl rfl<|Dk rfl rfl rfl<|Dk rfl rfl rfl<|WD.kg rfl rfl<|WD.kg rfl rfl<|WD.kg rfl rfl<|WD.kg rfl rfl<|WD.kg rfl rfl<|WD.kg rfl rfl<|WD.ade rfl<|Dk rfl rfl rfl<|Dp (.cV rfl rfl)<|Dp (.mv rfl)<|D0 .nil (We<|Wm (.tmp rfl .nil) ⟨by rw[uA],aH.fb (x:=[_,_]) nr⟩)<|λo h=>nomatch h
theorem abt (hE:GE P K F T tF g C d)(hm:qc bf bl aZ bE c0 c1 c2 c3 c4 C tl t)(hs:aH bl EL d t s){c:CD}(IR:c∈C){p:Int}{now:Bool} :
  bB P K (F 142) [.agg [gm tF bf],.agg c.row,iv p,.bool now] s (λv s'=>v=.bool (aak g d C tl c p now)/\aH bl EL d t s'):=by
 refine hE.hU.f142.cF (by simp) ?_
 unfold ads
 refine Wq<|Wa (.box rfl rfl) λb4=>Wa (.box rfl rfl) λb5=>Wv rfl<|Wn ?_
 obtain⟨nn,hnn,hbb⟩:=abe c.keys 64
 obtain⟨sw,adY⟩:∃b,decide (nn=0)=b:=⟨_,rfl⟩
 have hsw:eqBy 20 .pi (iv nn) (iv 0)=some sw:=(dM _ _).trans (congrArg some adY)
 rw[adY]at hbb
 cases now with
 | true=>
  refine Ws<|Wq<|Wv rfl<|Wr (.un rfl rfl)<|Wv rfl<|Wk rfl rfl<|Wk rfl rfl<|Wk rfl rfl<|Wk rfl rfl<|Wr (.bj rfl rfl)<|Wn<|Wd rfl fS<|λ_=>Wi ?_
  exact aas hE hm hs IR (by unfold aak;rw[if_neg (by simp)])<|cM rfl
 | false=>
  cases sw with
  | true=>
   refine Ws<|Wq<|Wv rfl<|Wr (.un rfl rfl)<|Wv rfl<|Wy rfl rfl<|Wf rfl<|Wy rfl rfl<|Wl rfl .here rfl rfl rfl<|Wy rfl rfl<|Wj rfl rfl hnn<|Wy rfl rfl<|Wh rfl rfl hsw<|Wr (.cV rfl rfl)<|Wn<|Wd rfl (λ_=>?_) Dz
   refine Wq<|Wv rfl<|Wn<|We<|Wm (.tmp rfl .nil) ⟨?_,aH.bK (m:=[_,_]) hs⟩
   unfold aak
   rw[hbb]
   rfl
  | false=>
   refine Ws<|Wq<|Wv rfl<|Wr (.un rfl rfl)<|Wv rfl<|Wy rfl rfl<|Wf rfl<|Wy rfl rfl<|Wl rfl .here rfl rfl rfl<|Wy rfl rfl<|Wj rfl rfl hnn<|Wy rfl rfl<|Wh rfl rfl hsw<|Wr (.cV rfl rfl)<|Wn<|Wd rfl fS<|λ_=>Wi ?_
   exact aas hE hm hs IR (by unfold aak;rw[hbb,if_neg<|by simp])<|cM rfl
structure OT where
 k:Int
 a:Int
 b:Int
deriving DecidableEq
@[reducible] def OT.row (x:OT):List AV:=[iv x.k,iv x.a,iv x.b]
def otR (l:List OT):List (List AV):=l.map OT.row
structure adn (P:Program)(K:Orc)(bl:Nat)(EL:List (List AV))(d:SD)(y:AV)(J:List OT->SH->Prop):Prop where
 call:∀L t s(x:OT)m,L.length<=9000->J L t->aH bl EL d (m++t) s->c6 P K y [.agg x.row] s (λv s'=>v=.bool true/\∃t',aH bl EL d (m++t') s'/\J (L++[x]) t')
def aau (g:ED->CH->CH)(d:SD)(C:List CD)(tl:AD->List Nat)(c:CD)(p:Nat)(now:Bool)(lp:LD):Int:=
 if c.kind=1 then(if now && !lp.f1 then 2 else 0)else if aak g d C tl c (.ofNat p) now then 3 else 0
def aaA (d:SD)(C:List CD)(id:Int):Option CD:=match d.obj id with | some o=>C[o.gE.toNat]? | none=>none
def qb (g:ED->CH->CH)(d:SD)(C:List CD)(tl:AD->List Nat)(p:Nat)(now:Bool)(lp:LD)(id:Int):Option OT:=
 match aaA d C id with
 | some c=>if aau g d C tl c p now lp=0 then none else some ⟨aau g d C tl c p now lp,id,0⟩
 | none=>none
def acF (F:Nat->FuncId) (T:Nat->TypeId):AC:=(oN [zm 40 9,zo 41 (.un .not 40),zm 39 41] (.cond 39 .skip (oN [zf 43 1 8,zl 44 43,zo 45 (.eql false .pi 44 (zc 1)),zm 42 45] (.cond 42 (oN [zm 46 4,zm 47 46,zg 48 (.faddr 0 2) 47 true,zg 49 (.load false 1 48) 47 true,zg 50 (.load false 1 1) 47 true,zg 51 (.invoke 49 "Player" [50]) 47 true,zg 52 (.fld 5 1 false 51) 47 true,zg 53 (.un .not 52) 47 true,zo 54 (.pick 47 53 (.const (.bool false)))] (.cond 54 (.ops [zo 10 (.mv (zc 2))]) .skip)) (oN [zo 56 (.load true 1 2),zo 57 (.load true 11 8),zl 58 1,zm 59 4,oF F 60 142 [56,57,58,59],zm 55 60] (.cond 55 (.ops [zo 10 (.mv (zc 3))]) .skip))))))
theorem aa0 (hE:GE P K F T tF g C d)(hm:qc bf bl aZ bE c0 c1 c2 c3 c4 C tl t)(hs:aH bl EL d t s){bp bg b7 b8 p:Nat}{y v26 v27 v28:AV}{id:Int}{now:Bool}{ad2:List AV}(hbp:Has bp (.r false [[iv (.ofNat p)]] 1) t)(hbg:Has bg (.r false [[gm tF bf]] 1) t){c:CD}(hc:c∈C){lp:LD}(hlp:d.pl[p]?=some lp)
  (hl:∀x w,lk ((8,.ptr<|some ⟨b8,0,0⟩)::(9,.bool true)::(10,iv 0)::[(0,y),(1,.ptr<|some ⟨bp,0,0⟩),(2,.ptr<|some ⟨bg,0,0⟩),(4,.bool now),(6,iv id),(26,v26),(27,v27),(28,v28)]) x=some w->lk l x=some w) :
  WP P K none 72 (acF F T) l [] ((b8,.r false [c.row] 11)::(b7,.r false [ad2] 14)::s) (λl2 ds2 s2=>ds2=[]/\aH bl EL d t s2/\∀x w,lk ((10,iv<|aau g d C tl c p now lp)::[(0,y),(1,.ptr<|some ⟨bp,0,0⟩),(2,.ptr<|some ⟨bg,0,0⟩),(4,.bool now),(6,iv id),(26,v26),(27,v27),(28,v28)]) x=some w->lk l2 x=some w) (λ_=>Kj) Kj:=by
 refine Wg hl (λ_ _ h=>h) ?_
 unfold acF
 have nr:aH bl EL d t ((b8,.r false [c.row] 11)::(b7,.r false [ad2] 14)::s):=aH.bK (m:=[_,_]) hs
 obtain⟨kd,aaB⟩:∃k,c.kind=k:=⟨_,rfl⟩
 have hkd:bV 1 (cu 1 c.row)=some [iv kd]:=by rw[<- aaB];rfl
 have adQ:eqBy 20 .pi (iv kd) (iv 1)=some (decide<|kd=1):=dM _ _
 refine Wq<|Wv rfl<|Wr (.un rfl rfl)<|Wv rfl<|Wn<|Wd rfl fS<|λ_=>?_
 by_cases h1:kd=1
 ·have q7:eqBy 20 .pi (iv kd) (iv 1)=some true:=by rw[adQ,decide_eq_true h1]
  have aa4:aau g d C tl c p now lp=if now && !lp.f1 then 2 else 0:=by unfold aau;rw[if_pos (aaB.trans h1)]
  rw[aa4]
  refine Wq<|Wf rfl<|Wl rfl .here rfl hkd rfl<|Wh rfl rfl q7<|Wv rfl<|Wn<|Wd rfl (λ_=>?_) Dz
  cases now with
  | true=>
   refine Wq<|Wv rfl<|Wv rfl<|Wy rfl rfl<|Wf rfl<|Wy rfl rfl<|Wl rfl (nr.mem hbg) rfl rfl rfl<|Wy rfl rfl<|Wl rfl (nr.mem hbp) rfl rfl rfl<|Wy rfl rfl<|Ww<|WS.invoke (vs:=[iv (.ofNat p)]) rfl hE.hM.RD rfl (Ar hE.hB hE.hC hE.hT nr hE.hd hm.hf hlp) ?_
   rintro w s2 ⟨rfl,dt⟩
   cases hf1:lp.f1 with
   | true=>
    have hf:part false lp.row 5 1=some (.bool true):=(show _=some (AV.bool lp.f1)from rfl).trans (by rw[hf1])
    refine Wy rfl rfl<|Wr (.fld rfl hf)<|Wy rfl rfl<|Wr (.un (v:=.bool false) rfl rfl)<|Wr (.cV rfl rfl)<|Wn<|Wd rfl fS<|λ_=>Wi ⟨rfl,dt,(cM rfl)⟩
   | false=>
    have hf:part false lp.row 5 1=some (.bool false):=(show _=some (AV.bool lp.f1)from rfl).trans (by rw[hf1])
    refine Wy rfl rfl<|Wr (.fld rfl hf)<|Wy rfl rfl<|Wr (.un (v:=.bool true) rfl rfl)<|Wr (.cV rfl rfl)<|Wn<|Wd rfl (λ_=>Wo<|Wv rfl<|Wn ⟨rfl,dt,(cM rfl)⟩) Dz
  | false=>
   refine Wq<|Wv rfl<|Wv rfl<|Wk rfl rfl<|Wk rfl rfl<|Wk rfl rfl<|Wk rfl rfl<|Wk rfl rfl<|Wk rfl rfl<|Wr (.bj rfl rfl)<|Wn<|Wd rfl fS<|λ_=>Wi ⟨rfl,nr,(cM rfl)⟩
 ·have q7:eqBy 20 .pi (iv kd) (iv 1)=some false:=by rw[adQ,decide_eq_false h1]
  have aa4:aau g d C tl c p now lp=if aak g d C tl c (.ofNat p) now then 3 else 0:=by unfold aau;rw[if_neg (λh=>h1<|aaB.symm.trans h)]
  rw[aa4]
  refine Wq<|Wf rfl<|Wl rfl .here rfl hkd rfl<|Wh rfl rfl q7<|Wv rfl<|Wn<|Wd rfl fS<|λ_=>?_
  refine Wq<|Wl rfl (nr.mem hbg) rfl rfl rfl<|Wl (cs:=c.row) rfl .here rfl rfl rfl<|Wl rfl (nr.mem hbp) rfl rfl rfl<|Wv rfl<|Ww<|Wz [.agg [gm tF bf],.agg c.row,iv<|.ofNat p,.bool now] rfl rfl (abt hE hm nr hc) ?_
  rintro w s2 ⟨rfl,dt⟩
  cases aak g d C tl c (.ofNat p) now with
  | true=>
   refine Wv rfl<|Wn<|Wd rfl (λ_=>Wo<|Wv rfl<|Wn ⟨rfl,dt,(cM rfl)⟩) Dz
  | false=>
   refine Wv rfl<|Wn<|Wd rfl fS<|λ_=>Wi ⟨rfl,dt,(cM rfl)⟩
def aaU (P:Program)(K:Orc)(bl:Nat)(EL:List (List AV))(d:SD)(f:FuncId)(cap:List AV)(t:SH)(out:List OT):Prop:=
 ∀y J L0 t' s',L0.length<=5000->adn P K bl EL d y J->(∀L t2,J L t2->∀q∈t,q∈t2)->J L0 t'->aH bl EL d t' s'->bB P K f (y::cap) s' (λ_ s''=>∃t'',aH bl EL d t'' s''/\J (L0++out) t'')
theorem abV (hU:BaseU P K F T):aaU P K bl EL d (F 93) [] t [⟨1,0,0⟩]:=by
 intro y J L0 t' s' hL hY hJ h0 hs
 refine hU.f93.cF (by simp) ?_
 unfold a93
 refine Wo<|Wv rfl<|Wr (.build (cs:=(⟨1,0,0⟩:OT).row) rfl rfl)<|Ww<|WS.call (vs:=[.agg (⟨1,0,0⟩:OT).row]) rfl rfl (hY.call _ _ _ _ [] (by omega) h0 hs) ?_
 rintro w s2 ⟨_,t2,dt,hJ2⟩
 exact Wn<|Wm .nil ⟨t2,dt,hJ2⟩
theorem acC (c:CD)(p:Nat)(now:Bool)(lp:LD):aau g d C tl c p now lp=0\/aau g d C tl c p now lp=2\/aau g d C tl c p now lp=3:=by
 unfold aau
 split
 ·split
  ·exact .inr<|.inl rfl
  ·exact .inl rfl
 ·split
  ·exact .inr<|.inr rfl
  ·exact .inl rfl
theorem abi (hE:GE P K F T tF g C d)(hm:qc bf bl aZ bE c0 c1 c2 c3 c4 C tl t){bp bg p:Nat}(hbp:Has bp (.r false [[iv (.ofNat p)]] 1) t)(hbg:Has bg (.r false [[gm tF bf]] 1) t){bX:List Int}(hh:d.hd[p]?=some bX){lp:LD}(hlp:d.pl[p]?=some lp)
  (hall:∀id∈bX,∃o k c,d.obj id=some o/\o.gE=.ofNat k/\C[k]?=some c) (hn:bX.length<=1000) :
  aaU P K bl EL d (F 139) [.ptr (some ⟨bp,0,0⟩),.ptr<|some ⟨bg,0,0⟩] t (bX.filterMap<|qb g d C tl p (ec d<|.ofNat p) lp):=by
 intro y J L0 t' s' hL hY hJ h0 hs
 have hmJ:∀{L t2},J L t2->qc bf bl aZ bE c0 c1 c2 c3 c4 C tl t2:=λh=>hm.mono<|hJ _ _ h
 have hpJ:∀{L t2},J L t2->Has bp (.r false [[iv (.ofNat p)]] 1) t2:=λh=>.ce<|hJ _ _ h _ hbp.mem
 have hgJ:∀{L t2},J L t2->Has bg (.r false [[gm tF bf]] 1) t2:=λh=>.ce<|hJ _ _ h _ hbg.mem
 have hp:p<d.pl.length:=(List.getElem?_eq_some_iff.1 hlp).1
 have hz:d.ci 1 p=some (bX,λl'=>{ d with hd:=d.hd.set p l' }):=by
  unfold SD.ci
  rw[if_neg (by decide),if_neg<|by decide,if_pos rfl,hh]
  rfl
 have h12:binV .lss (iv<|.ofNat p) (iv 0)=some (.bool false):=by rw[eT,decide_eq_false<|show¬Int.ofNat p<0 from(by omega:¬((p:Nat):Int)<0)]
 refine hE.hU.f139.cF (by simp) ?_
 unfold ado
 refine Ws<|Ws<|WP.bD<|Dl rfl .nil (.load rfl (hs.mem<|hpJ h0) rfl rfl rfl)<|Dp (.arith rfl rfl h12)<|Dp (.mv rfl)<|Dy rfl rfl<|WD.lk rfl .nil (.load rfl (hs.mem<|hpJ h0) rfl rfl rfl)<|Dy rfl rfl<|Dp (.faddr rfl)<|Dy rfl rfl<|Dl rfl .nil (.load rfl (hs.mem<|hgJ h0) rfl rfl rfl)<|Dy rfl rfl<|Dc .nil<|WS.invoke (vs:=[]) rfl hE.hM.yd rfl (tV hE.hB hE.hG hs hE.hd (hmJ h0).hf) ?_
 rintro w s2 ⟨rfl,dt⟩
 refine Dy rfl rfl<|Dp (.arith rfl rfl<|Cm hp)<|Dp (.bj rfl rfl)<|D0 .nil ?_ ?_
 rotate_left
 ·intro o ho
  rw[List.mem_singleton.1 ho]
  refine⟨(λi hi=>nomatch hi),Nat.zero_le _,iq 5 _,λk _ hk=>?_⟩
  rcases(by have:k<=1:=hk;omega:k=0\/k=1)with rfl|rfl
  ·exact⟨_,rfl,.load rfl (hs.mem<|hpJ h0) rfl rfl rfl⟩
  ·exact⟨_,rfl,.load rfl (dt.mem<|hpJ h0) rfl rfl rfl⟩
 refine Wd rfl fS<|λ_=>Wi ?_
 refine Wq<|Wl rfl (dt.mem<|hgJ h0) rfl rfl rfl<|Wl rfl (dt.mem<|hpJ h0) rfl rfl rfl<|Ww<|Wz [.agg [gm tF bf],iv<|.ofNat p] rfl rfl (abn hE (hmJ h0) dt) ?_
 rintro w s3 ⟨rfl,gw⟩
 refine Wv rfl<|Wn ?_
 refine Wq<|Wf rfl<|Wl rfl (gw.mem<|hgJ h0) rfl rfl rfl<|Wl rfl (gw.mem<|hpJ h0) rfl rfl rfl<|Ww<|WS.invoke (vs:=[iv 1,iv<|.ofNat p]) rfl hE.hM.ci rfl (acE hE.hB hE.hC gw hE.hd hE.he (hmJ h0).hf hp hz hn) ?_
 rintro w4 s4 ⟨m,pM,hS⟩
 have YH:lenOf w4=some bX.length:=by rw[hS.lenOf,gq]
 refine Wr (.lenS rfl YH)<|Wv rfl<|Wn<|Wb ?_
 refine Wp (λk l ds s'=>ds=[]/\∃q t2,k=bX.length-q/\q<=bX.length/\aH bl EL d (m++t2) s'/\J (L0++(bX.take q).filterMap (qb g d C tl p (ec d<|.ofNat p) lp)) t2/\∀x w,lk [(0,y),(1,.ptr<|some ⟨bp,0,0⟩),(2,.ptr<|some ⟨bg,0,0⟩),(4,.bool<|ec d<|.ofNat p),(26,w4),(27,iv<|.ofNat bX.length),(28,iv<|.ofNat q)] x=some w->lk l x=some w) ?_ (n:=bX.length-0)
  ⟨rfl,0,t',rfl,Nat.zero_le _,pM,by simpa using h0,cM rfl⟩
 rintro k l ds s5 ⟨rfl,q,t2,rfl,hq,tn,hJ2,hl⟩
 refine Wg hl (λ_ _ h=>h) ?_
 refine Wq<|Wj rfl rfl (eT _ _)<|Wn<|Ws<|Wd rfl (λht=>Wi ?_)<|λht=>Wx ?_
 ·have hlt:q<bX.length:=Int.ofNat_lt.1 (of_decide_eq_true ht)
  have hx:bX[q]?=some bX[q]:=List.getElem?_eq_getElem hlt
  have KP:bX[q]∈bX:=List.getElem_mem _
  generalize bX[q]=id at hx KP
  obtain⟨o,kc,c,ho,hkc,hC⟩:=hall id KP
  have IR:c∈C:=List.mem_of_getElem? hC
  have ac1:aaA d C id=some c:=by unfold aaA;rw[ho];dsimp only;rw[hkc];exact hC
  have mN:(bX.take<|q+1).filterMap (qb g d C tl p (ec d<|.ofNat p) lp)=(bX.take q).filterMap (qb g d C tl p (ec d<|.ofNat p) lp)++[id].filterMap (qb g d C tl p (ec d<|.ofNat p) lp):=by rw[List.take_add_one,hx,List.filterMap_append];rfl
  obtain⟨ba,ra,na,ca,J5,Sp,Ma,e4,hba,me,P1⟩:=hS.at (i:=q) (by rw[gq];exact hlt)
  have hrow:Ma[ra+q]?=some [iv id]:=by rw[P1,nR,List.getElem?_map,hx];rfl
  refine Ws<|Wb<|Wq<|Wr (.iaddrS (congrArg some e4) rfl me<|by decide)<|Wl rfl (tn.mem<|.left hba) hrow rfl rfl<|Wv rfl<|Wn ?_
  have hm5:qc bf bl aZ bE c0 c1 c2 c3 c4 C tl (m++t2):=(hmJ hJ2).mono λp hp=>by simp[hp]
  refine Wq<|Wl rfl (tn.mem<|.app<|hgJ hJ2) rfl rfl rfl<|Wv rfl<|Ww<|Wz [.agg [gm tF bf],iv id] rfl rfl (aaz hE hm5 tn ho hkc hC) ?_
  rintro w s5b ⟨rfl,ac7⟩
  refine Wv rfl<|Wr (.extract rfl rfl)<|Wr (.extract rfl rfl)<|Wr (.extract rfl rfl)<|Wa (.alloc rfl) λb7=>Wa (.alloc rfl) λb8=>Ww<|Wt (s':=(b8,.r false [yz] 11)::(b7,.r false [o.row] 14)::s5b) rfl rfl rfl (.there .here) rfl rfl<|Ww<|Wt (s':=(b8,.r false [c.row] 11)::(b7,.r false [o.row] 14)::s5b) rfl rfl rfl .here rfl rfl<|Wv rfl<|Wn ?_
  refine Wq<|Wv rfl<|Wn ?_
  refine Ws<|Wb<|WP.post (aa0 hE hm5 ac7 (.app<|hpJ hJ2) (.app<|hgJ hJ2) IR hlp<|cM rfl) ?_ (λ_ _ _ _ h=>h.elim)<|λ_ _ _ h=>h.elim
  rintro l6 _ s6 ⟨rfl,KL,hl6⟩
  refine Wg hl6 (λ_ _ h=>h) ?_
  rcases acC (g:=g) (d:=d) (C:=C) (tl:=tl) c p (ec d<|.ofNat p) lp with hk|hk|hk
  ·have hof:[id].filterMap (qb g d C tl p (ec d<|.ofNat p) lp)=[]:=by
    have hop:qb g d C tl p (ec d<|.ofNat p) lp id=none:=by unfold qb;rw[ac1];dsimp only;rw[if_pos hk]
    rw[List.filterMap_cons_none hop];rfl
   rw[hk]
   refine Wq<|Wv rfl<|Wj rfl rfl rfl<|Wv rfl<|Wk rfl rfl<|Wk rfl rfl<|Wk rfl rfl<|Wk rfl rfl<|Wk rfl rfl<|Wk rfl rfl<|Wr (.bj rfl rfl)<|Wn<|Wd rfl fS<|λ_=>Wi ?_
   refine Wo<|Wj rfl rfl (bM<|by omega)<|Wv rfl<|Wn ?_
   exact⟨bX.length-(q+1),by omega,rfl,q+1,t2,rfl,hlt,KL,by rw[mN,hof];simpa using hJ2,cM rfl⟩
  ·have hof:[id].filterMap (qb g d C tl p (ec d<|.ofNat p) lp)=[⟨2,id,0⟩]:=by
    have hop:qb g d C tl p (ec d<|.ofNat p) lp id=some ⟨2,id,0⟩:=by unfold qb;rw[ac1];dsimp only;rw[if_neg (by rw[hk];decide),hk]
    rw[List.filterMap_cons_some hop];rfl
   rw[hk]
   refine Wq<|Wv rfl<|Wj rfl rfl rfl<|Wv rfl<|Wy rfl rfl<|Wv rfl<|Wy rfl rfl<|Wv rfl<|Wy rfl rfl<|Wv rfl<|Wy rfl rfl<|Wr (.build (cs:=(⟨2,id,0⟩:OT).row) rfl rfl)<|Wy rfl rfl<|Ww<|WS.call (vs:=[.agg (⟨2,id,0⟩:OT).row]) rfl rfl (hY.call _ _ _ _ m (by rw[List.length_append];have:=List.length_filterMap_le (qb g d C tl p (ec d<|.ofNat p) lp) (bX.take q);rw[List.length_take]at this;omega) hJ2 KL) ?_
   rintro w7 s7 ⟨rfl,t7,hs7,hJ7⟩
   refine Wy rfl rfl<|Wr (.un (v:=.bool false) rfl rfl)<|Wr (.cV rfl rfl)<|Wn<|Wd rfl fS<|λ_=>Wi ?_
   refine Wo<|Wj rfl rfl (bM<|by omega)<|Wv rfl<|Wn ?_
   exact⟨bX.length-(q+1),by omega,rfl,q+1,t7,rfl,hlt,hs7,by rw[mN,hof];simpa using hJ7,cM rfl⟩
  ·have hof:[id].filterMap (qb g d C tl p (ec d<|.ofNat p) lp)=[⟨3,id,0⟩]:=by
    have hop:qb g d C tl p (ec d<|.ofNat p) lp id=some ⟨3,id,0⟩:=by unfold qb;rw[ac1];dsimp only;rw[if_neg (by rw[hk];decide),hk]
    rw[List.filterMap_cons_some hop];rfl
   rw[hk]
   refine Wq<|Wv rfl<|Wj rfl rfl rfl<|Wv rfl<|Wy rfl rfl<|Wv rfl<|Wy rfl rfl<|Wv rfl<|Wy rfl rfl<|Wv rfl<|Wy rfl rfl<|Wr (.build (cs:=(⟨3,id,0⟩:OT).row) rfl rfl)<|Wy rfl rfl<|Ww<|WS.call (vs:=[.agg (⟨3,id,0⟩:OT).row]) rfl rfl (hY.call _ _ _ _ m (by rw[List.length_append];have:=List.length_filterMap_le (qb g d C tl p (ec d<|.ofNat p) lp) (bX.take q);rw[List.length_take]at this;omega) hJ2 KL) ?_
   rintro w7 s7 ⟨rfl,t7,hs7,hJ7⟩
   refine Wy rfl rfl<|Wr (.un (v:=.bool false) rfl rfl)<|Wr (.cV rfl rfl)<|Wn<|Wd rfl fS<|λ_=>Wi ?_
   refine Wo<|Wj rfl rfl (bM<|by omega)<|Wv rfl<|Wn ?_
   exact⟨bX.length-(q+1),by omega,rfl,q+1,t7,rfl,hlt,hs7,by rw[mN,hof];simpa using hJ7,cM rfl⟩
 ·have hge:¬q<bX.length:=λh=>of_decide_eq_false ht (Int.ofNat_lt.2 h)
  rw[List.take_of_length_le (by omega)]at hJ2
  exact Wm .nil ⟨t2,tn.fb,hJ2⟩
def aav (g:ED->CH->CH)(d:SD)(C:List CD)(tl:AD->List Nat)(p:Nat)(o:OD)(a:AD):Bool:=
 if a.kind=2 then(if a.tap then(if aad g d C o then false else qa g d C (tl a) (.ofNat p))else qa g d C (tl a) (.ofNat p))else false
def useT (g:ED->CH->CH)(d:SD)(C:List CD)(tl:AD->List Nat)(p:Nat)(id:Int)(o:OD)(l:List AD)(n:Nat):List OT:=
 (List.range n).filterMap λk=>match l[k]? with | some a=>if aav g d C tl p o a then some ⟨4,id,.ofNat k⟩else none | none=>none
def usesT (g:ED->CH->CH)(d:SD)(C:List CD)(tl:AD->List Nat)(p:Nat)(l:List Int):List OT:=
 l.flatMap λid=>match d.obj id with
  | some o=>if o.aQ=.ofNat p then(match C[o.gE.toNat]? with | some c=>useT g d C tl p id o c.ab c.ab.length | none=>[])else []
  | none=>[]
def acH (F:Nat->FuncId):List bS:=[⟨(some 43),(.faddr 0 (.tmp 10)),none⟩,⟨(some 44),(.load false 1 (.tmp 43)),none⟩,⟨(some 45),(.eql false .pi (.tmp 44) (.const (.int .i64 (.ofNat 2)))),none⟩,⟨(some 46),(.mv (.tmp 45)),none⟩,⟨(some 47),(.faddr 7 (.tmp 10)),(some ⟨46,true⟩)⟩,⟨(some 48),(.load false 1 (.tmp 47)),(some ⟨46,true⟩)⟩,⟨(some 49),(.mv (.tmp 48)),(some ⟨46,true⟩)⟩,⟨(some 50),(.load true 1 (.tmp 1)),(some ⟨49,true⟩)⟩,⟨(some 51),(.load true 14 (.tmp 6)),(some ⟨49,true⟩)⟩,⟨(some 52),(.call (.func (F 144)) [(.tmp 50),(.tmp 51)]),(some ⟨49,true⟩)⟩,⟨(some 53),(.pick (.tmp 49) (.tmp 52) (.const (.bool false))),(some ⟨46,true⟩)⟩,⟨(some 54),(.un .not (.tmp 53)),(some ⟨46,true⟩)⟩,⟨(some 55),(.pick (.tmp 46) (.tmp 54) (.const (.bool false))),none⟩,⟨(some 56),(.mv (.tmp 55)),none⟩,⟨(some 57),(.load true 1 (.tmp 1)),(some ⟨56,true⟩)⟩,⟨(some 58),(.load true 13 (.tmp 10)),(some ⟨56,true⟩)⟩,⟨(some 59),(.load false 1 (.tmp 2)),(some ⟨56,true⟩)⟩,⟨(some 60),(.call (.func (F 145)) [(.tmp 57),(.tmp 58),(.tmp 59)]),(some ⟨56,true⟩)⟩,⟨(some 61),(.pick (.tmp 56) (.tmp 60) (.const (.bool false))),none⟩,⟨(some 11),(.mv (.tmp 61)),none⟩]
theorem WO.weak {ol:List bS}{l':Sl}(hl:∀i v,lk l' i=some v->lk l i=some v)(h:WO P K ol l' ds s Q):WO P K ol l ds s Q:=
 λnt ops l0 Uy H0 e H he hH=>h nt ops l0 Uy H0 e H (λi v hi=>he i v<|hl i v hi) hH
theorem abu (hE:GE P K F T tF g C d)(hm:qc bf bl aZ bE c0 c1 c2 c3 c4 C tl t)(hs:aH bl EL d t s){bp bg b6 sf p k:Nat}{y v14 v15 v16 v36 v37 v38:AV}{id:Int}{o:OD}(hbp:Has bp (.r false [[iv (.ofNat p)]] 1) t)(hbg:Has bg (.r false [[gm tF bf]] 1) t)(hb6:Has b6 (.r false [o.row] 14) t){c:CD}{a:AD}(hc:c∈C)(ha:a∈c.ab)
  (hl:∀x w,lk [(10,.ptr<|some ⟨sf,0,0⟩),(0,y),(1,.ptr<|some ⟨bg,0,0⟩),(2,.ptr<|some ⟨bp,0,0⟩),(5,iv id),(6,.ptr<|some ⟨b6,0,0⟩),(9,iv<|.ofNat k),(14,v14),(15,v15),(16,v16),(36,v36),(37,v37),(38,v38)] x=some w->lk l x=some w)
  (hk:∀l2 s2,aH bl EL d t s2->(∀x w,lk [(11,.bool<|aav g d C tl p o a),(0,y),(1,.ptr<|some ⟨bg,0,0⟩),(2,.ptr<|some ⟨bp,0,0⟩),(5,iv id),(6,.ptr<|some ⟨b6,0,0⟩),(9,iv<|.ofNat k),(14,v14),(15,v15),(16,v16),(36,v36),(37,v37),(38,v38)] x=some w->lk l2 x=some w)->Q l2 [] s2) :
  WO P K (acH F) l [] ((sf,.r false [a.row] 13)::s) Q:=by
 refine WO.weak hl ?_
 unfold acH
 have hs0:aH bl EL d ((sf,.r false [a.row] 13)::t) ((sf,.r false [a.row] 13)::s):=hs.cons
 have nr:aH bl EL d t ((sf,.r false [a.row] 13)::s):=aH.bK (m:=[_]) hs
 obtain⟨kd,aaB⟩:∃k,a.kind=k:=⟨_,rfl⟩
 have hkd:bV 1 (cu 0 a.row)=some [iv kd]:=by rw[<- aaB];rfl
 have adR:eqBy 20 .pi (iv kd) (iv 2)=some (decide<|kd=2):=dM _ _
 by_cases h2:kd=2
 ·have hk2:eqBy 20 .pi (iv kd) (iv 2)=some true:=by rw[adR,decide_eq_true h2]
  cases acu:a.tap with
  | true=>
   have htp:bV 1 (cu 7 a.row)=some [.bool true]:=by rw[<- acu];rfl
   have hub:aav g d C tl p o a=if aad g d C o then false else qa g d C (tl a) (.ofNat p):=by unfold aav;rw[if_pos (aaB.trans h2),acu];rfl
   refine Wf rfl<|Wl rfl .here rfl hkd rfl<|Wh rfl rfl hk2<|Wv rfl<|Wy rfl rfl<|Wf rfl<|Wy rfl rfl<|Wl rfl .here rfl htp rfl<|Wy rfl rfl<|Wv rfl<|Wy rfl rfl<|Wl rfl (.there<|hs.mem hbg) rfl rfl rfl<|Wy rfl rfl<|Wl (cs:=o.row) rfl (.there<|hs.mem hb6) rfl rfl rfl<|Wy rfl rfl<|Ww<|Wz [.agg [gm tF bf],.agg o.row] rfl rfl (abc hE (hm.mono λp hp=>by simp[hp]) hs0) ?_
   rintro w s2 ⟨rfl,dt⟩
   cases htd:aad g d C o with
   | true=>
    refine Wy rfl rfl<|Wr (.cV rfl rfl)<|Wy rfl rfl<|Wr (.un rfl rfl)<|Wr (.cV rfl rfl)<|Wv rfl<|Wk rfl rfl<|Wk rfl rfl<|Wk rfl rfl<|Wk rfl rfl<|Wr (.bj rfl rfl)<|Wv rfl<|Wn<|hk _ _ (aH.fb (x:=[_]) dt) (by rw[hub,htd];exact cM rfl)
   | false=>
    refine Wy rfl rfl<|Wr (.cV rfl rfl)<|Wy rfl rfl<|Wr (.un rfl rfl)<|Wr (.cV rfl rfl)<|Wv rfl<|Wy rfl rfl<|Wl rfl (dt.mem<|.there hbg) rfl rfl rfl<|Wy rfl rfl<|Wl (cs:=a.row) rfl (dt.mem .here) rfl rfl rfl<|Wy rfl rfl<|Wl rfl (dt.mem<|.there hbp) rfl rfl rfl<|Wy rfl rfl<|Ww<|Wz [.agg [gm tF bf],.agg a.row,iv<|.ofNat p] rfl rfl (zt hE (hm.mono λp hp=>by simp[hp]) dt hc ha) ?_
    rintro w s3 ⟨rfl,gw⟩
    refine Wr (.cV rfl rfl)<|Wv rfl<|Wn<|hk _ _ (aH.fb (x:=[_]) gw) (by rw[hub,htd];exact cM rfl)
  | false=>
   have htp:bV 1 (cu 7 a.row)=some [.bool false]:=by rw[<- acu];rfl
   have hub:aav g d C tl p o a=qa g d C (tl a) (.ofNat p):=by unfold aav;rw[if_pos (aaB.trans h2),acu];rfl
   refine Wf rfl<|Wl rfl .here rfl hkd rfl<|Wh rfl rfl hk2<|Wv rfl<|Wy rfl rfl<|Wf rfl<|Wy rfl rfl<|Wl rfl .here rfl htp rfl<|Wy rfl rfl<|Wv rfl<|Wk rfl rfl<|Wk rfl rfl<|Wk rfl rfl<|Wy rfl rfl<|Wr (.bj rfl rfl)<|Wy rfl rfl<|Wr (.un rfl rfl)<|Wr (.cV rfl rfl)<|Wv rfl<|Wy rfl rfl<|Wl rfl (.there<|hs.mem hbg) rfl rfl rfl<|Wy rfl rfl<|Wl (cs:=a.row) rfl .here rfl rfl rfl<|Wy rfl rfl<|Wl rfl (.there<|hs.mem hbp) rfl rfl rfl<|Wy rfl rfl<|Ww<|Wz [.agg [gm tF bf],.agg a.row,iv<|.ofNat p] rfl rfl (zt hE (hm.mono λp hp=>by simp[hp]) hs0 hc ha) ?_
   rintro w s3 ⟨rfl,gw⟩
   refine Wr (.cV rfl rfl)<|Wv rfl<|Wn<|hk _ _ (aH.fb (x:=[_]) gw) (by rw[hub];exact cM rfl)
 ·have hk2:eqBy 20 .pi (iv kd) (iv 2)=some false:=by rw[adR,decide_eq_false h2]
  have hub:aav g d C tl p o a=false:=by unfold aav;rw[if_neg (λh=>h2<|aaB.symm.trans h)]
  rw[hub]at hk
  refine Wf rfl<|Wl rfl .here rfl hkd rfl<|Wh rfl rfl hk2<|Wv rfl<|Wk rfl rfl<|Wk rfl rfl<|Wk rfl rfl<|Wu rfl<|Wu rfl<|Wu rfl<|Wk rfl rfl<|Wk rfl rfl<|Wr (.bj rfl rfl)<|Wv rfl<|Wk rfl rfl<|Wk rfl rfl<|Wk rfl rfl<|Wk rfl rfl<|Wr (.bj rfl rfl)<|Wv rfl<|Wn<|hk _ _ nr<|cM rfl
theorem aaE (id:Int)(o:OD)(l:List AD)(p n:Nat):(useT g d C tl p id o l n).length<=n:=Nat.le_trans (List.length_filterMap_le ..) (by rw[List.length_range];exact Nat.le_refl _)
theorem abv (hE:GE P K F T tF g C d)(hm:qc bf bl aZ bE c0 c1 c2 c3 c4 C tl t){bp bg p:Nat}(hbp:Has bp (.r false [[iv (.ofNat p)]] 1) t)(hbg:Has bg (.r false [[gm tF bf]] 1) t)
  (hall:∀id∈d.fi,∃o k c,d.obj id=some o/\o.gE=.ofNat k/\C[k]?=some c) (hab:∀c∈C,c.ab.length<=4) :
  aaU P K bl EL d (F 143) [.ptr (some ⟨bg,0,0⟩),.ptr<|some ⟨bp,0,0⟩] t (usesT g d C tl p d.fi):=by
 intro y J L0 t' s' hL hY hJ h0 hs
 have hn:d.fi.length<=1000:=by have:=hE.hd.n1;omega
 have hlen:∀l:List Int,(∀id∈l,id∈d.fi)->(usesT g d C tl p l).length<=4*l.length:=by
  intro l
  induction l with
  | nil=>intro _;exact Nat.le_refl _
  | cons id l ih=>
   intro hl
   have ih:=ih λx hx=>hl x<|.tail _ hx
   obtain⟨o,k,c,h1,h2,h3⟩:=hall id<|hl id<|.head _
   unfold usesT at ih |-
   rw[List.flatMap_cons,List.length_append,h1,List.length_cons]
   dsimp only
   split
   ·rw[h2]
    show(match C[k]? with | some c=>useT g d C tl p id o c.ab c.ab.length | none=>[]).length+_<=_
    rw[h3]
    have:=aaE (g:=g) (d:=d) (C:=C) (tl:=tl) id o c.ab p c.ab.length
    have:=hab c<|List.mem_of_getElem? h3
    dsimp only
    omega
   ·simp only[List.length_nil];omega
 have hmJ:∀{L t2},J L t2->qc bf bl aZ bE c0 c1 c2 c3 c4 C tl t2:=λh=>hm.mono<|hJ _ _ h
 have hpJ:∀{L t2},J L t2->Has bp (.r false [[iv (.ofNat p)]] 1) t2:=λh=>.ce<|hJ _ _ h _ hbp.mem
 have hgJ:∀{L t2},J L t2->Has bg (.r false [[gm tF bf]] 1) t2:=λh=>.ce<|hJ _ _ h _ hbg.mem
 refine hE.hU.f143.cF (by simp) ?_
 unfold adt
 refine Wq<|Wf rfl<|Wl rfl (hs.mem<|hgJ h0) rfl rfl rfl<|Ww<|WS.invoke (vs:=[iv 2,iv 0]) rfl hE.hM.ci rfl (Gf hE.hB hE.hC hs hE.hd (hmJ h0).hf) ?_
 rintro w4 s4 ⟨m,pM,hS⟩
 have YH:lenOf w4=some d.fi.length:=by rw[hS.lenOf,gq]
 refine Wr (.lenS rfl YH)<|Wv rfl<|Wn<|Wb ?_
 refine Wp (λk l ds s'=>ds=[]/\∃q t2,k=d.fi.length-q/\q<=d.fi.length/\aH bl EL d (m++t2) s'/\J (L0++usesT g d C tl p (d.fi.take q)) t2/\∀x w,lk [(0,y),(1,.ptr<|some ⟨bg,0,0⟩),(2,.ptr<|some ⟨bp,0,0⟩),(14,w4),(15,iv<|.ofNat d.fi.length),(16,iv<|.ofNat q)] x=some w->lk l x=some w) ?_ (n:=d.fi.length-0)
  ⟨rfl,0,t',rfl,Nat.zero_le _,pM,by simpa[usesT]using h0,cM rfl⟩
 rintro k l ds s5 ⟨rfl,q,t2,rfl,hq,tn,hJ2,hl⟩
 refine Wg hl (λ_ _ h=>h) ?_
 refine Wq<|Wj rfl rfl (eT _ _)<|Wn<|Ws<|Wd rfl (λht=>Wi ?_)<|λht=>Wx ?_
 ·have hlt:q<d.fi.length:=Int.ofNat_lt.1 (of_decide_eq_true ht)
  have hx:d.fi[q]?=some d.fi[q]:=List.getElem?_eq_getElem hlt
  have KP:d.fi[q]∈d.fi:=List.getElem_mem _
  generalize d.fi[q]=id at hx KP
  obtain⟨o,kc,c,ho,hkc,hC⟩:=hall id KP
  have IR:c∈C:=List.mem_of_getElem? hC
  have hlq:=hlen (d.fi.take q) λx hx=>List.mem_of_mem_take hx
  rw[List.length_take]at hlq
  have mN:usesT g d C tl p (d.fi.take<|q+1)=usesT g d C tl p (d.fi.take q)++if o.aQ=.ofNat p then useT g d C tl p id o c.ab c.ab.length else []:=by
   unfold usesT
   rw[List.take_add_one,hx,List.flatMap_append]
   congr 1
   show(match d.obj id with | some o=>if o.aQ=.ofNat p then(match C[o.gE.toNat]? with | some c=>useT g d C tl p id o c.ab c.ab.length | none=>[])else [] | none=>[])++[]=_
   rw[List.append_nil,ho]
   dsimp only
   rw[hkc,show C[(Int.ofNat kc).toNat]?=some c from hC]
  obtain⟨ba,ra,na,ca,J5,Sp,Ma,e4,hba,me,P1⟩:=hS.at (i:=q) (by rw[gq];exact hlt)
  have hrow:Ma[ra+q]?=some [iv id]:=by rw[P1,nR,List.getElem?_map,hx];rfl
  refine Ws<|Wb<|Wq<|Wr (.iaddrS (congrArg some e4) rfl me<|by decide)<|Wl rfl (tn.mem<|.left hba) hrow rfl rfl<|Wv rfl<|Wn ?_
  have hm5:qc bf bl aZ bE c0 c1 c2 c3 c4 C tl (m++t2):=(hmJ hJ2).mono λp hp=>by simp[hp]
  refine Wq<|Wl rfl (tn.mem<|.app<|hgJ hJ2) rfl rfl rfl<|Wv rfl<|Ww<|Wz [.agg [gm tF bf],iv id] rfl rfl (aaz hE hm5 tn ho hkc hC) ?_
  rintro w s5b ⟨rfl,ac7⟩
  refine Wv rfl<|Wr (.extract rfl rfl)<|Wr (.extract rfl rfl)<|Wr (.extract rfl rfl)<|Wa (.alloc rfl) λb6=>Wa (.alloc rfl) λb7=>Ww<|Wt (s':=(b7,.r false [yz] 11)::(b6,.r false [o.row] 14)::s5b) rfl rfl rfl (.there .here) rfl rfl<|Ww<|Wt (s':=(b7,.r false [c.row] 11)::(b6,.r false [o.row] 14)::s5b) rfl rfl rfl .here rfl rfl<|Wv rfl<|Wn ?_
  have KL:aH bl EL d (((b7,.r false [c.row] 11)::(b6,.r false [o.row] 14)::m)++t2) ((b7,.r false [c.row] 11)::(b6,.r false [o.row] 14)::s5b):=ac7.cons.cons
  have hct:eqBy 20 .pi (iv o.aQ) (iv<|.ofNat p)=some (decide<|o.aQ=.ofNat p):=dM _ _
  have dP:bV 1 (cu 3 o.row)=some [iv o.aQ]:=rfl
  refine Ws<|Wq<|Wv rfl<|Wr (.un rfl rfl)<|Wv rfl<|Wy rfl rfl<|Wf rfl<|Wy rfl rfl<|Wl rfl (.there .here) rfl dP rfl<|Wy rfl rfl<|Wl rfl (KL.mem<|.app<|hpJ hJ2) rfl rfl rfl<|Wy rfl rfl<|Wh rfl rfl hct<|Wr (.bj rfl rfl)<|Wn ?_
  by_cases Yi:o.aQ=.ofNat p
  ·rw[if_pos Yi]at mN
   rw[decide_eq_true Yi]
   refine Wd rfl fS<|λ_=>Wi ?_
   have xD:=hm5.eQ.ab c IR
   have act:lenOf c.av=some c.ab.length:=by rw[xD.lenOf];simp
   have ag1:=hab c IR
   refine Wq<|Wf rfl<|Wl rfl .here rfl rfl rfl<|Wr (.lenS rfl act)<|Wv rfl<|Wn<|Wb ?_
   refine Wp (λkk l ds s'=>ds=[]/\∃k t3,kk=c.ab.length-k/\k<=c.ab.length/\aH bl EL d (((b7,.r false [c.row] 11)::(b6,.r false [o.row] 14)::m)++t3) s'/\J (L0++(usesT g d C tl p (d.fi.take q)++useT g d C tl p id o c.ab k)) t3/\∀x w,lk [(0,y),(1,.ptr<|some ⟨bg,0,0⟩),(2,.ptr<|some ⟨bp,0,0⟩),(5,iv id),(6,.ptr<|some ⟨b6,0,0⟩),(14,w4),(15,iv<|.ofNat d.fi.length),(16,iv<|.ofNat q),(36,c.av),(37,iv<|.ofNat c.ab.length),(38,iv<|.ofNat k)] x=some w->lk l x=some w) ?_ (n:=c.ab.length-0)
    ⟨rfl,0,t2,rfl,Nat.zero_le _,KL,by simpa[useT]using hJ2,cM rfl⟩
   rintro kk l ds s7 ⟨rfl,k,t3,rfl,hk,hs7,qX,hl⟩
   refine Wg hl (λ_ _ h=>h) ?_
   refine Wq<|Wj rfl rfl (eT _ _)<|Wn<|Ws<|Wd rfl (λht=>Wi ?_)<|λht=>Wx ?_
   ·have hkl:k<c.ab.length:=Int.ofNat_lt.1 (of_decide_eq_true ht)
    have Qa:c.ab[k]?=some c.ab[k]:=List.getElem?_eq_getElem hkl
    have adZ:c.ab[k]∈c.ab:=List.getElem_mem _
    generalize c.ab[k]=a at Qa adZ
    have aaO:useT g d C tl p id o c.ab (k+1)=useT g d C tl p id o c.ab k++if aav g d C tl p o a then [⟨4,id,.ofNat k⟩]else []:=by
     unfold useT
     rw[List.range_succ,List.filterMap_append]
     congr 1
     cases hub:aav g d C tl p o a<;>simp[Qa,hub]
    have hul:=aaE (g:=g) (d:=d) (C:=C) (tl:=tl) id o c.ab p k
    have hm7:qc bf bl aZ bE c0 c1 c2 c3 c4 C tl (((b7,.r false [c.row] 11)::(b6,.r false [o.row] 14)::m)++t3):=(hmJ qX).mono λp hp=>by simp[hp]
    obtain⟨bb,rb,nb,cb,slb,rob,Mb,eb,hbb,aa2,hrb⟩:=(hm7.eQ.ab c IR).at (i:=k) (by simpa using hkl)
    have gH:Mb[rb+k]?=some a.row:=by rw[hrb,List.getElem?_map,Qa];rfl
    refine Ws<|Wb<|Wq<|Wv rfl<|Wr (.iaddrS (congrArg some eb) rfl aa2<|by decide)<|Wl (cs:=a.row) rfl (hs7.mem hbb) gH rfl rfl<|Wa (.alloc rfl) λsf=>Wv rfl<|Ww<|Wt (s':=(sf,.r false [a.row] 13)::s7) rfl rfl rfl .here rfl rfl<|Wn ?_
    refine Wq<|abu hE hm7 hs7 (.app<|hpJ qX) (.app<|hgJ qX) (.left<|.there .here) IR adZ (cM rfl) ?_
    intro l8 s8 hs8 hl8
    refine Wg hl8 (λ_ _ h=>h) ?_
    cases hub:aav g d C tl p o a with
    | false=>
     rw[hub]at aaO
     refine Wq<|Wv rfl<|Wv rfl<|Wk rfl rfl<|Wk rfl rfl<|Wk rfl rfl<|Wk rfl rfl<|Wk rfl rfl<|Wk rfl rfl<|Wr (.bj rfl rfl)<|Wn<|Wd rfl fS<|λ_=>Wi ?_
     refine Wo<|Wj rfl rfl (bM<|by omega)<|Wv rfl<|Wn ?_
     exact⟨c.ab.length-(k+1),by omega,rfl,k+1,t3,rfl,hkl,hs8,by rw[aaO];simpa using qX,cM rfl⟩
    | true=>
     rw[hub]at aaO
     refine Wq<|Wv rfl<|Wv rfl<|Wy rfl rfl<|Wv rfl<|Wy rfl rfl<|Wv rfl<|Wy rfl rfl<|Wv rfl<|Wy rfl rfl<|Wr (.build (cs:=(⟨4,id,.ofNat k⟩:OT).row) rfl rfl)<|Wy rfl rfl<|Ww<|WS.call (vs:=[.agg (⟨4,id,.ofNat k⟩:OT).row]) rfl rfl (hY.call _ _ _ _ ((b7,.r false [c.row] 11)::(b6,.r false [o.row] 14)::m) (by rw[List.length_append,List.length_append];omega) qX hs8) ?_
     rintro w9 s9 ⟨rfl,t9,hs9,hJ9⟩
     refine Wy rfl rfl<|Wr (.un (v:=.bool false) rfl rfl)<|Wr (.cV rfl rfl)<|Wn<|Wd rfl fS<|λ_=>Wi ?_
     refine Wo<|Wj rfl rfl (bM<|by omega)<|Wv rfl<|Wn ?_
     exact⟨c.ab.length-(k+1),by omega,rfl,k+1,t9,rfl,hkl,hs9,by rw[aaO];simpa using hJ9,cM rfl⟩
   ·have hge:¬k<c.ab.length:=λh=>of_decide_eq_false ht (Int.ofNat_lt.2 h)
    have hke:k=c.ab.length:=by omega
    subst hke
    refine Wo<|Wj rfl rfl (bM<|by omega)<|Wv rfl<|Wn ?_
    exact⟨d.fi.length-(q+1),by omega,rfl,q+1,t3,rfl,hlt,aH.fb (x:=[_,_]) hs7,by rw[mN];exact qX,cM rfl⟩
  ·rw[if_neg Yi]at mN
   rw[decide_eq_false Yi]
   refine Wd rfl (λ_=>Wx ?_) Dz
   refine Wo<|Wj rfl rfl (bM<|by omega)<|Wv rfl<|Wn ?_
   exact⟨d.fi.length-(q+1),by omega,rfl,q+1,t2,rfl,hlt,aH.fb (x:=[_,_]) KL,by rw[mN];simpa using hJ2,cM rfl⟩
 ·have hge:¬q<d.fi.length:=λh=>of_decide_eq_false ht (Int.ofNat_lt.2 h)
  rw[List.take_of_length_le (by omega)]at hJ2
  exact Wm .nil ⟨t2,tn.fb,hJ2⟩
def acQ:AC:=(.ops [zo 6 (.alloc 3 [(za 0),(za 0),(za 0)]),zn (.store 3 6 14)])
def acR:AC:=(.block 3 (.ops [zl 15 3,zo 16 (.load true 3 6),zo 17 (.bslice 3 1 [(za 0),(za 0),(za 0)] [⟨0,16⟩]),zo 18 (.append 3 24 15 17),zn (.store 1 3 18)]))
def ady:AC:=(oN [zo 10 (.arith .lss 9 8)] (.seq (.cond 10 .skip (.exit 0)) (.seq (.block 1 (oN [zo 11 (.iaddrS 1 7 9),zl 12 11,zm 5 12] (oN [zm 13 5] (.block 2 (.rf 13 [14] acQ acR))))) (.ops [zo 19 (.arith .add 9 (zc 1)),zm 9 19]))))
def acS:AC:=(oN [zl 20 3,zm 2 20] .ret)
def adm (lb D:Nat)(lp:HO)(b9:Nat)(W:SH)(L:List OT)(t:SH):Prop:=
 ∃lv og j,t.Perm ((lb,lp)::(b9,.r false [[lv]] 1)::(og++(j++W)))/\GrE 3 lv (otR L) og
theorem abQ {lb D b9:Nat}{l:Sl}{asg body:Code}{W:SH}(ha:cc P 21 asg=acQ)(hb:cc P 21 body=acR)(h9:lk l 3=some (.ptr (some ⟨b9,0,0⟩))) :
  adn P K bl EL d (.yield lb) (adm lb D (.lp l 21 [14] asg body .ready none D) b9 W):=by
 refine⟨λL t s x m hL hJ hs=>?_⟩
 obtain⟨lv,og,j,hp,hG⟩:=hJ
 obtain⟨u,hu,hback⟩:=hs.split
 refine c6.perm (s:=(lb,.lp l 21 [14] asg body .ready none D)::(u++(m++((b9,.r false [[lv]] 1)::(og++(j++W)))))) (ak λc w h0 h1 h2 hq=>by have:=hq _ _ hu;simp only[h1,h2,hq _ _ hp]at this |-;omega)<|c6.canon ?_
 refine AU (by omega) ha hb ?_
 unfold acQ acR
 refine Wo<|Wa (.alloc rfl) λNQ=>Ww<|Wt (s':=(NQ,.r false [x.row] 3)::_) rfl rfl rfl .here rfl rfl<|Wn ⟨(NQ,.r false [x.row] 3)::(u++(m++((b9,.r false [[lv]] 1)::(og++(j++W))))),List.Perm.swap ..,?_⟩
 refine Wb<|Wo<|Wl (v:=lv) h9 (.there<|.there<|.app<|.app .here) rfl rfl rfl<|Wl rfl (.there .here) rfl rfl rfl<|Wa (.bslice (L:=[x.row]) rfl rfl) λR6=>?_
 refine Ww<|WS.pre (s':=((R6,.r false [x.row] 3)::(lb,.lp l 21 [14] asg body .busy none D)::(NQ,.r false [x.row] 3)::(b9,.r false [[lv]] 1)::(u++m))++(og++(j++W))) (ak λc w h0 h1 h2 hq=>by simp only[h1,h2];omega)<|WS.aay (xv:=.slice (some ⟨R6,0,0⟩) 1 1 false 3) rfl hG rfl (Src.all (L:=[x.row]) .here) (by decide) (by simp only[otR,List.length_map,List.length_cons,List.length_nil];omega) (by decide) λnw A9 jk xB=>?_
 refine Ww<|Wt (s':=A9++((R6,.r false [x.row] 3)::(lb,.lp l 21 [14] asg body .busy none D)::(NQ,.r false [x.row] 3)::(b9,.r false [[nw]] 1)::(u++m)++(jk++(j++W)))) (row':=[nw]) h9 rfl xB.out.src.part (.app<|.there<|.there<|.there .here) rfl rfl<|Wn ?_
 refine⟨A9++((R6,.r false [x.row] 3)::(NQ,.r false [x.row] 3)::(b9,.r false [[nw]] 1)::(u++m)++(jk++(j++W))),ak λc w h0 h1 h2 hq=>by simp only[h1,h2];omega,u++(m++((lb,.lp l 21 [14] asg body .ready none D)::(b9,.r false [[nw]] 1)::(A9++(((R6,.r false [x.row] 3)::(NQ,.r false [x.row] 3)::(jk++j))++W)))),ak λc w h0 h1 h2 hq=>by simp only[h1,h2];omega,rfl,_,hback _,nw,A9,(R6,.r false [x.row] 3)::(NQ,.r false [x.row] 3)::(jk++j),.refl _,?_⟩
 simpa[otR]using xB
theorem acn {t0:SH}{b9:Nat}{v:AV}{fs:List ((FuncId × List AV) × List OT)}{Qn0:Po}{Qe0:Nat->Po}{R:AV->SH->Prop}(hv:Src t0 1 v (fs.map λx=>[.func x.1.1 [] x.1.2]))(Uu:∀x∈fs,aaU P K bl EL d x.1.1 x.1.2 t0 x.2)(hn:fs.length<=1000)(Y3:(fs.flatMap (·.2)).length<=5000)
  (hs:aH bl EL d ((b9,.r false [[nilS]] 1)::t0) s) (hR:∀w s' o m,aH bl EL d (o++(m++t0)) s'->GrE 3 w (otR (fs.flatMap (·.2))) o->R w s') (hl:∀i x,lk [(3,.ptr<|some ⟨b9,0,0⟩),(7,v),(8,iv<|.ofNat fs.length),(9,iv 0)] i=some x->lk l i=some x) :
  WP P K none 21 (.block 0<|.loop ady) l [] s (λl ds s=>WP P K none 21 acS l ds s Qn0 Qe0<|Bi P [.tmp 2] R) Qe (Bi P [.tmp 2] R):=by
 refine Wb ?_
 unfold ady
 refine Wp (λk l ds s'=>∃q Ds lv og j,k=fs.length-q/\q<=fs.length/\ds=Ds.map aD.mark/\aH bl EL d (Ds.map (λD=>(D,HO.ob .deferred))++((b9,.r false [[lv]] 1)::(og++(j++t0)))) s'/\GrE 3 lv (otR ((fs.take q).flatMap (·.2))) og /\
   ∀i x,lk [(3,.ptr (some ⟨b9,0,0⟩)),(7,v),(8,iv (.ofNat fs.length)),(9,iv (.ofNat q))] i=some x->lk l i=some x) ?_ (n:=fs.length-0)
  ⟨0,[],nilS,[],[],rfl,Nat.zero_le _,rfl,hs,.nil,hl⟩
 rintro k l ds s' ⟨q,Ds,lv,og,j,rfl,hq,rfl,hs',hG,hl⟩
 refine Wg hl (λ_ _ h=>h) ?_
 refine Wq<|Wj rfl rfl rfl<|Wn<|Ws<|Wd rfl (λht=>?_)<|λht=>?_
 ·have hlt:q<fs.length:=bh.1 ht
  have hx:fs[q]?=some fs[q]:=List.getElem?_eq_getElem hlt
  have KP:fs[q]∈fs:=List.getElem_mem _
  generalize fs[q]=x at hx KP
  have gc:(fs.take<|q+1).flatMap (·.2)=(fs.take q).flatMap (·.2)++x.2:=by rw[List.take_add_one,hx,List.flatMap_append];simp
  have hlen:((fs.take q).flatMap (·.2)).length<=5000:=by
   refine Nat.le_trans ?_ Y3
   conv=>rhs;rw[<- List.take_append_drop q fs,List.flatMap_append,List.length_append]
   omega
  obtain⟨ba,ra,na,ca,J5,Sp,Ma,rfl,hba,me,gH⟩:=hv.at (i:=q)<|by simpa using hlt
  have eE:Ma[ra+q]?=some [.func x.1.1 [] x.1.2]:=by rw[gH];simp only[List.getElem?_map,hx];rfl
  refine Wi<|Ws<|Wb<|Wq<|Wr (.iaddrS rfl rfl me<|by decide)<|Wl (v:=.func x.1.1 [] x.1.2) rfl (hs'.mem<|.app<|.there<|.app<|.app hba) eE rfl rfl<|Wv rfl<|Wn ?_
  have hI:=Uu x KP
  obtain⟨⟨f,cap⟩,out⟩:=x
  refine Wq<|Wv rfl ?_
  refine Wn<|Wb<|Wg (l':=[(3,.ptr<|some ⟨b9,0,0⟩),(7,.slice (some ⟨ba,ra,0⟩) na ca J5 1),(8,iv<|.ofNat fs.length),(9,iv<|.ofNat q),(13,.func f [] cap)]) (cM rfl) (λ_ _ h=>h)<|WP.rf (first:=[]) (cap:=cap) rfl λasg body X4 Ct D lb=>?_
  have gw:=(hs'.cons (p:=(D,.ob .deferred))).cons (p:=(lb,.lp [(3,.ptr<|some ⟨b9,0,0⟩),(7,.slice (some ⟨ba,ra,0⟩) na ca J5 1),(8,iv<|.ofNat fs.length),(9,iv<|.ofNat q),(13,.func f [] cap)] 21 [14] asg body .ready none D))
  have hY:=abQ (bl:=bl) (EL:=EL) (d:=d) (lb:=lb) (D:=D) (W:=(D,.ob .deferred)::(Ds.map (λD=>(D,HO.ob .deferred))++(j++t0))) (P:=P) (K:=K) X4 Ct (b9:=b9) (l:=[(3,.ptr<|some ⟨b9,0,0⟩),(7,.slice (some ⟨ba,ra,0⟩) na ca J5 1),(8,iv<|.ofNat fs.length),(9,iv<|.ofNat q),(13,.func f [] cap)]) rfl
  refine bB.canon ((hI (.yield lb) _ ((fs.take q).flatMap (·.2)) _ _ hlen hY ?_ ⟨lv,og,[],?_,hG⟩ gw).post ?_)
  ·rintro L t2 ⟨nw,A9,j2,Gu,_⟩ q hq
   exact Gu.mem_iff.2<|by simp[hq]
  ·exact ak λc w h0 h1 h2 hq=>by simp only[h1,h2,h0];omega
  ·rintro _ s4 ⟨t4,pM,nw,A9,j2,Gu,xB⟩
   obtain⟨s5,hp5,tn⟩:=(pM.tT Gu).first
   refine⟨_,hp5,_,.ready,none,s5,rfl,(λh=>LoopState.noConfusion h),?_⟩
   refine Wo<|Wj rfl rfl (bM<|by omega)<|Wv rfl<|Wn ?_
   refine⟨fs.length-(q+1),by omega,q+1,D::Ds,nw,A9,j2++j,rfl,hlt,rfl,aH.bK (m:=[_])<|tn.tT (ak λc w h0 h1 h2 hq=>by simp only[h1,h2,List.map_cons,List.cons_append];omega),by rw[gc];exact xB,cM rfl⟩
 ·refine Wx ?_
  have:q=fs.length:=by
   have:¬q<fs.length:=λh=>by rw[fw,show Nat.blt q fs.length=true from bh.2 h]at ht;cases ht
   omega
  subst this
  rw[List.take_length]at hG
  show WP P K none 21 acS _ _ _ _ _ _
  unfold acS
  obtain⟨u,hu,hback⟩:=hs'.split
  refine Wq<|Wl rfl (hs'.mem<|.app .here) rfl rfl rfl<|Wv rfl<|Wn<|We ?_
  refine⟨Ds,u++((b9,.r false [[lv]] 1)::(og++(j++t0))),rfl,ak λc w h0 h1 h2 hq=>by rw[hq _ _ hu];simp only[h1,h2];omega,[lv],.tmp rfl .nil,hR _ _ og ((b9,.r false [[lv]] 1)::j) (aH.bK ?_) hG⟩
  have:=hback<|(b9,.r false [[lv]] 1)::(og++(j++t0))
  exact this.tT (ak λc w h0 h1 h2 hq=>by simp only[h1,h2];omega)
theorem acD (tF:TypeId)(b:Nat):dz (.agg [gm tF b]) (.agg [gm tF b])=true:=by
 show(Nat.beq tF tF&&(Nat.beq b b&&Nat.beq 0 0&&Nat.beq 0 0)&&true)=true
 rw[Nat.beq_refl,Nat.beq_refl]
 rfl
theorem aaG (hU:BaseU P K F T){t0:SH}{v:AV}{fs:List ((FuncId × List AV) × List OT)}(hv:Src t0 1 v (fs.map λx=>[.func x.1.1 [] x.1.2]))(Uu:∀x∈fs,aaU P K bl EL d x.1.1 x.1.2 t0 x.2)(hn:fs.length<=1000)(Y3:(fs.flatMap (·.2)).length<=5000)(hs:aH bl EL d t0 s) :
  bB P K (F 92) [v] s (λw s'=>∃o m,aH bl EL d (o++(m++t0)) s'/\GrE 3 w (otR (fs.flatMap (·.2))) o):=by
 refine hU.f92.ZH (by simp) ?_
 unfold a92
 have hl:lenOf v=some fs.length:=by rw[hv.lenOf];simp
 refine Wq<|Wv rfl<|Wn ?_
 refine Wq<|Wa (.alloc rfl) λb3=>Wn ?_
 refine Ws<|Wq<|Wv rfl<|Wr (.lenS rfl hl)<|Wv rfl<|Wn ?_
 exact acn hv Uu hn Y3 hs.cons (λw s2 o m h1 h2=>⟨o,m,h1,h2⟩)<|cM rfl
def vj (g:ED->CH->CH)(d:SD)(C:List CD)(tl:AD->List Nat)(p:Nat)(lp:LD)(bX:List Int):List OT:=
 [⟨1,0,0⟩]++(bX.filterMap (qb g d C tl p (ec d<|.ofNat p) lp)++usesT g d C tl p d.fi)
theorem aaQ (hE:GE P K F T tF g C d)(hm:qc bf bl aZ bE c0 c1 c2 c3 c4 C tl t)(hs:aH bl EL d t s){p:Nat}{bX:List Int}(hh:d.hd[p]?=some bX){lp:LD}(hlp:d.pl[p]?=some lp)
  (adL:∀id∈bX,∃o k c,d.obj id=some o/\o.gE=.ofNat k/\C[k]?=some c) (ab4:∀id∈d.fi,∃o k c,d.obj id=some o/\o.gE=.ofNat k/\C[k]?=some c) (hab:∀c∈C,c.ab.length<=4) (hn:bX.length<=1000) (Y3:(vj g d C tl p lp bX).length<=5000) :
  bB P K (F 38) [gm tF bf,iv<|.ofNat p] s (λv s'=>∃m,aH bl EL d (m++t) s'/\Src m 3 v (otR<|vj g d C tl p lp bX)):=by
 refine hE.hU.f38.cF (by simp) ?_
 unfold a38
 refine Wq<|Wv rfl<|Wn ?_
 refine Ws<|Wq<|Wv rfl<|Wh (b:=false) rfl rfl rfl<|Wn<|Wd rfl fS<|λ_=>Wi ?_
 refine Wq<|Wv rfl<|Wr (.build (cs:=[gm tF bf]) rfl rfl)<|Wa (.alloc rfl) λb5=>Ww<|Wt (s':=(b5,.r false [[gm tF bf]] 1)::s) rfl rfl rfl .here rfl rfl<|Wn ?_
 have h94:∀{s:SH},bB P K (F 94) [.agg [gm tF bf],iv<|.ofNat p] s (λv s'=>∃b2 b3,v=.func (F 139) [] [.ptr (some ⟨b3,0,0⟩),.ptr<|some ⟨b2,0,0⟩]/\s'=(b3,.r false [[iv (.ofNat p)]] 1)::(b2,.r false [[gm tF bf]] 1)::s):=by
  intro s
  refine hE.hU.f94.cF (by simp) ?_
  unfold a94
  refine Wq<|Wa (.box rfl rfl) λb2=>Wa (.box rfl rfl) λb3=>Wv rfl<|Wn ?_
  exact Wq<|Wr (.mkfn rfl rfl)<|Wv rfl<|Wn<|We<|Wm (.tmp rfl .nil) ⟨b2,b3,rfl,rfl⟩
 have h95:∀{s:SH},bB P K (F 95) [.agg [gm tF bf],iv<|.ofNat p] s (λv s'=>∃b2 b3,v=.func (F 143) [] [.ptr (some ⟨b2,0,0⟩),.ptr<|some ⟨b3,0,0⟩]/\s'=(b3,.r false [[iv (.ofNat p)]] 1)::(b2,.r false [[gm tF bf]] 1)::s):=by
  intro s
  refine hE.hU.f95.cF (by simp) ?_
  unfold a95
  refine Wq<|Wa (.box rfl rfl) λb2=>Wa (.box rfl rfl) λb3=>Wv rfl<|Wn ?_
  exact Wq<|Wr (.mkfn rfl rfl)<|Wv rfl<|Wn<|We<|Wm (.tmp rfl .nil) ⟨b2,b3,rfl,rfl⟩
 refine Ws<|WP.fd λb16=>?_
 refine Dl rfl .nil (.load rfl (.there .here) rfl rfl rfl)<|Dp (.mv rfl)<|Dc .nil<|Wz [.agg [gm tF bf],iv<|.ofNat p] rfl rfl h94 ?_
 rintro w _ ⟨b2,b3,rfl,rfl⟩
 refine WD.lk rfl .nil (.load rfl (.there<|.there<|.there .here) rfl rfl rfl)<|Dp (.mv rfl)<|Dc .nil<|Wz [.agg [gm tF bf],iv<|.ofNat p] rfl rfl h95 ?_
 rintro w _ ⟨b6,b7,rfl,rfl⟩
 have nr:aH bl EL d ((b7,.r false [[iv (.ofNat p)]] 1)::(b6,.r false [[gm tF bf]] 1)::(b3,.r false [[iv (.ofNat p)]] 1)::(b2,.r false [[gm tF bf]] 1)::(b16,.r false [[.func (F 93) [] []],[.func (F 139) [] [.ptr (some ⟨b3,0,0⟩),.ptr<|some ⟨b2,0,0⟩]],[.func (F 143) [] [.ptr (some ⟨b6,0,0⟩),.ptr<|some ⟨b7,0,0⟩]]] 1)::(b5,.r false [[gm tF bf]] 1)::t) ((b7,.r false [[iv (.ofNat p)]] 1)::(b6,.r false [[gm tF bf]] 1)::(b3,.r false [[iv (.ofNat p)]] 1)::(b2,.r false [[gm tF bf]] 1)::(b16,.r false [[.func (F 93) [] []],[.func (F 139) [] [.ptr (some ⟨b3,0,0⟩),.ptr<|some ⟨b2,0,0⟩]],[.func (F 143) [] [.ptr (some ⟨b6,0,0⟩),.ptr<|some ⟨b7,0,0⟩]]] 1)::(b5,.r false [[gm tF bf]] 1)::s):=hs.cons.cons.cons.cons.cons.cons
 have hm1:qc bf bl aZ bE c0 c1 c2 c3 c4 C tl ((b7,.r false [[iv (.ofNat p)]] 1)::(b6,.r false [[gm tF bf]] 1)::(b3,.r false [[iv (.ofNat p)]] 1)::(b2,.r false [[gm tF bf]] 1)::(b16,.r false [[.func (F 93) [] []],[.func (F 139) [] [.ptr (some ⟨b3,0,0⟩),.ptr<|some ⟨b2,0,0⟩]],[.func (F 143) [] [.ptr (some ⟨b6,0,0⟩),.ptr<|some ⟨b7,0,0⟩]]] 1)::(b5,.r false [[gm tF bf]] 1)::t):=hm.mono λp hp=>by simp[hp]
 refine WD.al (.bslice (L:=[[.func (F 93) [] []],[.func (F 139) [] [.ptr (some ⟨b3,0,0⟩),.ptr<|some ⟨b2,0,0⟩]],[.func (F 143) [] [.ptr (some ⟨b6,0,0⟩),.ptr<|some ⟨b7,0,0⟩]]]) rfl rfl) rfl ?_
 refine Dc (.yes rfl rfl (.there<|.there<|.there<|.there .here) .nil)<|Wz [.slice (some ⟨b16,0,0⟩) 3 3 false 1] rfl rfl (aaG hE.hU (fs:=[((F 93,[]),[⟨1,0,0⟩]),((F 139,[.ptr (some ⟨b3,0,0⟩),.ptr<|some ⟨b2,0,0⟩]),bX.filterMap<|qb g d C tl p (ec d<|.ofNat p) lp),((F 143,[.ptr (some ⟨b6,0,0⟩),.ptr<|some ⟨b7,0,0⟩]),usesT g d C tl p d.fi)]) (Src.all (L:=[[.func (F 93) [] []],[.func (F 139) [] [.ptr (some ⟨b3,0,0⟩),.ptr<|some ⟨b2,0,0⟩]],[.func (F 143) [] [.ptr (some ⟨b6,0,0⟩),.ptr<|some ⟨b7,0,0⟩]]])<|.there<|.there<|.there<|.there .here) ?_ (Nat.le_of_ble_eq_true rfl) (by simpa[vj]using Y3) nr) ?_
 ·intro x hx
  simp only[List.mem_cons,List.not_mem_nil,or_false]at hx
  rcases hx with rfl|rfl|rfl
  ·exact abV hE.hU
  ·exact abi hE hm1 (.there<|.there .here) (.there<|.there<|.there .here) hh hlp adL hn
  ·exact abv hE hm1 .here (.there .here) ab4 hab
 rintro w s9 ⟨o,m,hs9,hG⟩
 have key:∃m',aH bl EL d (m'++t) s9/\Src m' 3 w (otR<|vj g d C tl p lp bX):=by
  refine⟨o++(m++((b7,.r false [[iv (.ofNat p)]] 1)::(b6,.r false [[gm tF bf]] 1)::(b3,.r false [[iv (.ofNat p)]] 1)::(b2,.r false [[gm tF bf]] 1)::(b16,.r false [[.func (F 93) [] []],[.func (F 139) [] [.ptr (some ⟨b3,0,0⟩),.ptr<|some ⟨b2,0,0⟩]],[.func (F 143) [] [.ptr (some ⟨b6,0,0⟩),.ptr<|some ⟨b7,0,0⟩]]] 1)::(b5,.r false [[gm tF bf]] 1)::[])),by rw[List.append_assoc,List.append_assoc];exact hs9,?_⟩
  have:[(⟨1,0,0⟩:OT)]++(bX.filterMap (qb g d C tl p (ec d<|.ofNat p) lp)++(usesT g d C tl p d.fi++[]))=vj g d C tl p lp bX:=by rw[List.append_nil];rfl
  rw[<- this]
  exact hG.gr.out.src.mono λp hp=>by simp[hp]
 refine Dp (.mv rfl)<|D0 .nil (We<|Wm (.tmp rfl .nil) key) ?_
 ·intro o' ho
  rw[List.mem_singleton.1 ho]
  refine⟨?_,Nat.zero_le _,acD _ _,λk _ hk=>?_⟩
  ·intro i hi
   rw[List.mem_singleton.1 hi]
   exact(show bit 0 6=false from rfl)
  ·rcases(by have:k<=1:=hk;omega:k=0\/k=1)with rfl | rfl
   ·exact⟨_,rfl,.load rfl (.there .here) rfl rfl rfl⟩
   ·exact⟨_,rfl,.load rfl (.there<|.there<|.there .here) rfl rfl rfl⟩
theorem abg (abh:FnK P K (F 280) 9 [] (abN F T)){bw bx:Nat}{d:SD}{t:SH}(hs:WH bw d t s)(hx:Has bx (.r false [[.ptr (some ⟨bw,0,0⟩)]] 1) t){k a b n m:Int}{it:ID} :
  bB P K (F 280) [.agg (evRow k a b n m it),.ptr<|some ⟨bx,0,0⟩] s (λ_ s'=>WH bw { d with ph:=a } t s'):=by
 obtain⟨pv,ov,lv,hv,gv,ev,fv,sv,wv,nn,k1,k2⟩:=hs
 refine bB.perm k1.symm ?_
 refine abh.cF (by simp) ?_
 unfold abN
 refine Wq<|Wa (.box rfl rfl) λb2=>Wn ?_
 refine Wo<|Wl rfl (.there<|.there<|.app hx) rfl rfl rfl<|Wf rfl<|Wl rfl .here rfl rfl rfl<|Wr (.nilchk rfl rfl)<|Wf rfl<|Wf rfl<|Ww<|Wt rfl rfl rfl (.there .here) rfl rfl<|Wn<|Wm .nil ?_
 exact⟨pv,ov,lv,hv,gv,ev,fv,sv,wv,[(b2,.r false [evRow k a b n m it] 13)]++nn,(show List.Perm ((b2,HO.r false [evRow k a b n m it] 13)::(bw,.r false [({ d with ph:=a }:SD).cells pv ov lv hv gv ev fv sv wv] 25)::(nn++t)) _ from ak λc w h0 h1 h2 hq=>by simp only[h1,h2,h0];omega),(show iJ _ pv ov lv hv gv ev fv sv wv { d with ph:=a } from⟨(k2.bK (m:=[_])).ex⟩)⟩
theorem abf (hB:Base P K F T)(abh:FnK P K (F 280) 9 [] (abN F T)){a b n m:Int}{it:ID}{d:SD}(hd:d.Small)(he:d.kQ)(lm:∀s,bB P K (F 201) [.agg (evRow 19 a b n m it)] s (λv s'=>v=iv 0/\s'=s)) :
  Ap P K F 19 a b n m it d { d with ph:=a }:=
 yH (k:=19) hB hd lm (acf hB<|by simp) (λ{_ _ _ _ v} hv hW=>by
  obtain⟨bx,rfl,_⟩:=(show km F _ _ v false false false 280 from hv)
  exact acz hB hW hd he (k:=19) (by omega) (by omega) (by omega) (by omega)) (λ{_ _ _ _ _ _ _} hv hW=>by
  obtain⟨bx,hv,hx⟩:=(show km F _ _ _ false false false 280 from hv)
  cases hv
  exact c6.func (abg abh hW hx))
def obU (id gE own:Int):OD:=⟨id,gE,own,own,0,false,false,false,0,0,0,0,false⟩
def d22:SD:={ d5 with ob:=[obU 1 0 0,obU 2 1 0,obU 3 2 0,obU 4 1 1,obU 5 1 1,obU 6 0 2],lb:=[[1,2,3],[4,5],[6]],nx:=7 }
structure aaf (d:SD)(n:Nat):Prop where
 even:d.kQ
 pl:d.pl=[Zz,Zz,Zz]
 nx:d.nx=.ofNat (n+7)
 sp:0<=d.sp/\d.sp<=.ofNat (n+1)
 st:d.st=[]
 wa:d.wa=[]
 tu:d.tu=1
 obn:d.ob.length=n+6
 gE:∀o∈d.ob,∃k:Nat,o.gE=.ofNat k/\k<6
 hd:∀l∈d.hd,l.length<=n/\∀id∈l,∃o∈d.ob,o.id=id
 fi:d.fi.length<=n/\∀id∈d.fi,∃o∈d.ob,o.id=id
 lbs:∀LL,(LL=d.lb\/LL=d.gr\/LL=d.ex)->LL.length<=3/\∀bX∈LL,bX.length<=3
theorem aco:aaf d22 0 where
 even:=⟨rfl,rfl,rfl,rfl⟩
 pl:=rfl
 nx:=rfl
 sp:=by decide
 st:=rfl
 wa:=rfl
 tu:=rfl
 obn:=rfl
 gE:=by
  intro o ho
  simp only[d22,List.mem_cons,List.not_mem_nil,or_false]at ho
  rcases ho with rfl|rfl|rfl|rfl|rfl|rfl
  ·exact⟨0,rfl,by decide⟩
  ·exact⟨1,rfl,by decide⟩
  ·exact⟨2,rfl,by decide⟩
  ·exact⟨1,rfl,by decide⟩
  ·exact⟨1,rfl,by decide⟩
  ·exact⟨0,rfl,by decide⟩
 hd:=by
  intro l hl
  have:l=[]:=by
   have hl:l∈([[],[],[]]:List (List Int)):=hl
   simpa using hl
  subst this
  exact⟨Nat.zero_le _,λid h=>nomatch h⟩
 fi:=⟨Nat.zero_le _,λid h=>nomatch h⟩
 lbs:=by
  intro LL h
  rcases h with rfl|rfl|rfl
  ·exact⟨Nat.le_refl _,by decide⟩
  ·exact⟨Nat.le_refl _,by decide⟩
  ·exact⟨Nat.le_refl _,by decide⟩
theorem aaf.small {d:SD}{n:Nat}(h:aaf d n)(hn:n<=20):d.Small:=by
 have hhd:d.hd.length=3:=by rw[h.even.hd,h.pl];rfl
 refine⟨⟨by rw[h.pl];decide,by rw[h.obn];omega,by have:=h.fi.1;omega,by rw[h.st];exact Nat.zero_le _,by rw[h.wa];exact Nat.zero_le _⟩,λLL hL=>?_⟩
 by_cases hd:LL=d.hd
 ·subst hd
  exact⟨by omega,λbX hl=>by have:=(h.hd bX hl).1;omega⟩
 ·obtain⟨h1,h2⟩:=h.lbs LL (by rcases hL with rfl | rfl | rfl | rfl<;>first | exact absurd rfl hd | exact .inl rfl | exact .inr (.inl rfl) | exact .inr<|.inr rfl)
  exact⟨by omega,λbX hl=>by have:=h2 bX hl;omega⟩
theorem abz {d:SD}{o:OD}{p:Nat}(hz:o.ci=2):d.add o p={ d with nx:=d.nx+1,sp:=d.sp+1,ob:=d.ob++[o.new2 d.nx d.sp],fi:=d.fi++[d.nx] }:=by
 unfold SD.add
 rw[if_pos hz,hz]
 rfl
theorem add_one {d:SD}{o:OD}{p:Nat}{bX:List Int}(hz:o.ci=1)(hl:d.hd[p]?=some bX):d.add o p={ d with nx:=d.nx+1,ob:=d.ob++[o.new1 d.nx],hd:=d.hd.set p (bX++[d.nx]) }:=by
 unfold SD.add
 rw[if_neg (by rw[hz];decide),hz]
 have:(d.xR.obs<|o.new1 d.nx).ci 1 p=some (bX,λl'=>{ (d.xR.obs<|o.new1 d.nx)with hd:=d.hd.set p l' }):=by
  unfold SD.ci
  rw[if_neg (by decide),if_neg<|by decide,if_pos rfl]
  show(d.hd[p]?).map _=_
  rw[hl]
  rfl
 rw[this]
 rfl
theorem aaf.add {d:SD}{n p c z:Nat}(h:aaf d n)(hp:p<3)(hc:c<6)(hz:z<2):aaf (d.add (pY p (.ofNat c) (.ofNat (z+1)) 0) p) (n+1):=by
 have hhd:d.hd.length=3:=by rw[h.even.hd,h.pl];rfl
 have acI:∀o':OD,o'.gE=.ofNat c->∀o∈d.ob++[o'],∃k:Nat,o.gE=.ofNat k/\k<6:=by
  intro o' ho' o ho
  rcases List.mem_append.1 ho with ho|ho
  ·exact h.gE o ho
  ·rw[List.mem_singleton.1 ho];exact⟨c,ho',hc⟩
 have hold:∀(o':OD)(id:Int),(∃o∈d.ob,o.id=id)->∃o∈d.ob++[o'],o.id=id:=λo' id⟨o,h1,h2⟩=>⟨o,List.mem_append_left _ h1,h2⟩
 have hnew:∀o':OD,o'.id=d.nx->∃o∈d.ob++[o'],o.id=d.nx:=λo' h=>⟨o',List.mem_append_right _<|.head _,h⟩
 have YI:d.nx+1=.ofNat (n+1+7):=by rw[h.nx];show((n+7:Nat):Int)+1=((n+1+7:Nat):Int);omega
 have hsp:=h.sp
 have ahw:d.sp<=((n+1:Nat):Int):=hsp.2
 rcases(by omega:z=0\/z=1)with rfl|rfl
 ·have hl:d.hd[p]?=some d.hd[p]:=List.getElem?_eq_getElem (by omega)
  have hlm:d.hd[p]∈d.hd:=List.getElem_mem _
  generalize d.hd[p]=bX at hl hlm
  rw[add_one (bX:=bX) rfl hl]
  have h0:=h.hd bX hlm
  exact⟨⟨h.even.lb,by rw[List.length_set];exact h.even.hd,h.even.gr,h.even.ex⟩,h.pl,YI,⟨hsp.1,by show d.sp<=((n+1+1:Nat):Int);omega⟩,h.st,h.wa,h.tu,by rw[List.length_append,h.obn];rfl,acI _ rfl,λl CG=>by
   rcases List.mem_or_eq_of_mem_set CG with CG|rfl
   ·have:=h.hd l CG
    exact⟨by omega,λid hid=>hold _ id<|this.2 id hid⟩
   ·refine⟨by rw[List.length_append];exact Nat.add_le_add_right h0.1 1,λid hid=>?_⟩
    rcases List.mem_append.1 hid with hid|hid
    ·exact hold _ id<|h0.2 id hid
    ·rw[List.mem_singleton.1 hid];exact hnew _ rfl,⟨by have:=h.fi.1;exact Nat.le_succ_of_le this,λid hid=>hold _ id (h.fi.2 id hid)⟩,h.lbs⟩
 ·rw[abz rfl]
  exact⟨⟨h.even.lb,h.even.hd,h.even.gr,h.even.ex⟩,h.pl,YI,⟨by show 0<=d.sp+1;omega,by show d.sp+1<=((n+1+1:Nat):Int);omega⟩,h.st,h.wa,h.tu,by rw[List.length_append,h.obn];rfl,acI _ rfl,λl CG=>by
   have:=h.hd l CG
   exact⟨by omega,λid hid=>hold _ id<|this.2 id hid⟩,⟨by rw[List.length_append];exact Nat.add_le_add_right h.fi.1 1,λid hid=>by
    rcases List.mem_append.1 hid with hid|hid
    ·exact hold _ id<|h.fi.2 id hid
    ·rw[List.mem_singleton.1 hid];exact hnew _ rfl⟩,h.lbs⟩
theorem ab2 {d:SD}{id:Int}{o:OD}(ho:o∈d.ob)(hi:o.id=id):∃o'∈d.ob,d.obj id=some o':=by
 unfold SD.obj
 cases hf:d.find id with
 | none=>
  exfalso
  have:=List.findIdx?_eq_none_iff.1 hf o ho
  simp[hi]at this
 | some i=>
  obtain⟨h1,_⟩:=List.findIdx?_eq_some_iff_getElem.1 hf
  exact⟨d.ob[i],List.getElem_mem _,List.getElem?_eq_getElem h1⟩
theorem MO {d:SD}{C:List CD}(h:∀c∈C,∀x∈c.ab,x.kind≠4)(b:OD):d.fi.flatMap (oneE d C b)=[]:=by
 refine List.flatMap_eq_nil_iff.2 λn _=>?_
 unfold oneE
 split
 ·rfl
 ·split
  ·rfl
  ·split
   ·rfl
   ·rename_i c hc
    unfold jU
    rw[List.map_eq_nil_iff]
    refine List.filter_eq_nil_iff.2 λx hx=>?_
    have:=h c (List.mem_of_getElem? hc) x hx
    simp[this]
theorem acT {P:Program}{K:Orc}{F:Nat->FuncId}{d:SD}{C:List CD}(h:∀c∈C,∀x∈c.ab,x.kind≠4)(hcd:∀o∈d.ob,∃j:Nat,o.gE=.ofNat j/\j<C.length):nG P K F (λ_ c=>c) d C where
 ok:=⟨hcd,λc hc x hx h4=>absurd h4<|h c hc x hx,λb=>by rw[MO h];exact Nat.zero_le _⟩
 step o e he:=by
  unfold qy at he
  rw[MO h]at he
  cases he
 any o c R hR:=by
  unfold qy at hR |-
  rw[MO h]at hR |-
  rw[List.Perm.eq_nil hR]
  rfl
def adw (F:Nat->FuncId)(T:Nat->TypeId):AC:=(.seq (oN [zm 30 13,zm 31 3,zo 32 (.lenS 31),zo 33 (.arith .lss 30 32),zm 34 33,zg 35 (.mv 13) 34 true,zg 36 (.arith .lss 35 (zc 20)) 34 true,zo 37 (.pick 34 36 (.const (.bool false)))] (.cond 37 .skip (.exit 0))) (.seq (.block 1 (.drawn 1 [zp (zm 40 12) 0,zp (zm 41 10) 0,zp (zm 42 3) 0,zp (zm 43 13) 0,zp (zo 44 (.iaddrS 3 42 43)) 12,zp (zf 45 2 44) 28,zr (zl 46 45) 0 0 60,zp (zo 47 (.arith .rem 46 (.const (.int .u8 (.ofNat 3))))) 124,zp (zo 48 (.convI .i64 47)) 252,zp (zm 49 3) 0,zp (zm 50 13) 0,zp (zo 51 (.iaddrS 3 49 50)) 1536,zp (zf 52 0 51) 3584,zr (zl 53 52) 0 0 7680,zp (zo 54 (.arith .rem 53 (.const (.int .u8 (.ofNat 6))))) 15872,zp (zo 55 (.convI .i64 54)) 32256,zp (zm 56 3) 0,zp (zm 57 13) 0,zp (zo 58 (.iaddrS 3 56 57)) 196608,zp (zf 59 1 58) 458752,zr (zl 60 59) 0 0 983040,zp (zo 61 (.arith .rem 60 (.const (.int .u8 (.ofNat 2))))) 2031616,zp (zo 62 (.convI .i64 61)) 4128768,zp (zo 63 (.arith .add (zc 1) 62)) 8323072,zp (zo 64 (.build mB [⟨0,⟨1,(zc 1)⟩⟩,⟨1,⟨1,48⟩⟩,⟨2,⟨1,55⟩⟩,⟨3,⟨1,63⟩⟩])) 16777212,zh (oF F 65 15 [41,64]) 33554430,⟨zo 66 (.bslice 1 1 [(za 0)] [⟨0,65⟩]),.dalloc,0,0,67108862⟩,zh (zo 67 (.append 1 8 40 66)) 134217727,zp (zm 12 67) 268435455])) (.ops [zm 38 13,zo 39 (.arith .add 38 (zc 1)),zm 13 39])))
def ab0 (F:Nat->FuncId)(T:Nat->TypeId):AC:=(.seq (oN [zo 13 (.mv (zc 0))] (.block 0 (.loop (adw F T)))) (oN [zm 68 10,zm 69 1,zo 70 (.build mB [⟨0,⟨1,(zc 20)⟩⟩,⟨1,⟨1,69⟩⟩]),oF F 71 15 [68,70]] (oN [zm 72 10,zm 73 2,zo 74 (.build mB [⟨0,⟨1,(zc 19)⟩⟩,⟨1,⟨1,73⟩⟩]),oF F 75 15 [72,74]] (.seq (oN [zm 76 0] (.cond 76 (.ops [zm 77 10,zo 78 (.build mB [⟨0,⟨1,(zc 23)⟩⟩,⟨1,⟨1,(zc 1)⟩⟩]),oF F 79 15 [77,78]]) .skip)) (oN [zm 80 10,zm 81 12,zm 8 80,zm 9 81] .ret)))))
def adx (F:Nat->FuncId)(T:Nat->TypeId):AC:=(oN [zm 72 10,zm 73 2,zo 74 (.build mB [⟨0,⟨1,(zc 19)⟩⟩,⟨1,⟨1,73⟩⟩]),oF F 75 15 [72,74]] (.seq (oN [zm 76 0] (.cond 76 (.ops [zm 77 10,zo 78 (.build mB [⟨0,⟨1,(zc 23)⟩⟩,⟨1,⟨1,(zc 1)⟩⟩]),oF F 79 15 [77,78]]) .skip)) (oN [zm 80 10,zm 81 12,zm 8 80,zm 9 81] .ret)))
def it1:ID:={ it0 with kind:=2 }
def dU (ps cs zs:Nat->Nat):Nat->SD
 | 0=>d22
 | n+1=>(dU ps cs zs n).add (pY (ps n) (.ofNat<|cs n) (.ofNat<|1+zs n) 0) (ps n)
theorem aaL (ps cs zs:Nat->Nat):∀n,(∀j,j<n->ps j<3/\cs j<6/\zs j<2)->aaf (dU ps cs zs n) n
 | 0,_=>aco
 | n+1,h=>by
  obtain⟨h1,h2,h3⟩:=h n<|Nat.lt_succ_self n
  have:=(aaL ps cs zs n λj hj=>h j<|by omega).add h1 h2 h3
  rw[Nat.add_comm]at this
  unfold dU
  exact this
structure aaV (P:Program)(K:Orc)(F:Nat->FuncId):Prop where
 cN:∀p c z:Nat,p<3->c<6->z<2->∀s,bB P K (F 201) [.agg (evRow 1 (.ofNat p) (.ofNat c) (.ofNat<|1+z) 0 it0)] s<|λv s'=>v=iv 0/\s'=s
 cT:∀a:Nat,a<3->∀s,bB P K (F 201) [.agg (evRow 20 (.ofNat a) 0 0 0 it0)] s<|λv s'=>v=iv 0/\s'=s
 cP:∀a:Nat,a<10->∀s,bB P K (F 201) [.agg (evRow 19 (.ofNat a) 0 0 0 it0)] s<|λv s'=>v=iv 0/\s'=s
 cL:∀a:Nat,a<3->∀s,bB P K (F 201) [.agg (evRow 9 (.ofNat a) 0 1 0 it0)] s<|λv s'=>v=iv 0/\s'=s
 cU:∀s,bB P K (F 201) [.agg (evRow 15 0 0 0 0 it1)] s<|λv s'=>v=iv 0/\s'=s
structure aei (t:SH)(lv:AV)(L:List (List AV))(ps cs zs:Nat->Nat):Prop where
 len:lenOf lv=some L.length
 at':0<L.length->∃rb cap sl,lv=.slice (some ⟨rb,0,0⟩) L.length cap sl 3/\Has rb (.r true L 3) t
 b:∀i,i<L.length->∃x z y:Nat,x<=255/\z<=255/\y<=255/\L[i]?=some [.int .u8 (.ofNat x),.int .u8<|.ofNat z,.int .u8<|.ofNat y]/\x%6=cs i/\z%2=zs i/\y%3=ps i
def dF (ps cs zs:Nat->Nat)(n ac ph:Nat):SD:={ dU ps cs zs n with tu:=(dU ps cs zs n).tu+1,ac:=.ofNat ac,ph:=.ofNat ph }
theorem acV (hB:Base P K F T)(hT2:FnK P K (F 271) 19 [] (abM F T))(abh:FnK P K (F 280) 9 [] (abN F T))(hc:aaV P K F){ac ph:Nat}(hac:ac<3)(hph:ph<10){lv:AV}{L:List (List AV)}{ps cs zs:Nat->Nat}(hL:aei t lv L ps cs zs)(hs:aH bl [] d22 t s)(hf:Has bf (.r false [bu bl aZ 60 c1 c2 c3 c4 bE] 8) t)
  (e0:lk l 0=some (.bool false)) (e1:lk l 1=some (iv<|.ofNat ac)) (e2:lk l 2=some (iv<|.ofNat ph)) (e3:lk l 3=some lv) (e10:lk l 10=some (.ptr<|some ⟨bf,0,0⟩)) (e12:lk l 12=some nilS)
  (hk:∀l2 s2 ids Gg,Gg.length<=22->aH bl Gg (dF ps cs zs (min L.length 20) ac ph) t s2->lk l2 8=some (.ptr<|some ⟨bf,0,0⟩)->lk l2 9=some ids->Qr l2 [] s2) :
  WP P K none 82 (ab0 F T) l [] s Qn Qe Qr:=by
 have hin:∀j,j<L.length->ps j<3/\cs j<6/\zs j<2:=λj hj=>by
  obtain⟨x,z,y,_,_,_,_,h1,h2,h3⟩:=hL.b j hj
  rw[<- h1,<- h2,<- h3]
  exact⟨Nat.mod_lt _<|by omega,Nat.mod_lt _<|by omega,Nat.mod_lt _<|by omega⟩
 unfold ab0
 refine Ws<|Wq<|Wv rfl<|Wn<|Wb ?_
 unfold adw
 generalize hN:min L.length 20=N at hk
 have hN1:N<=L.length/\N<=20/\(N=L.length\/N=20):=by omega
 have hinv:∀q,q<=N->aaf (dU ps cs zs q) q:=λq hq=>aaL ps cs zs q λj hj=>hin j<|by omega
 refine Wp (λk l ds s'=>ds=[]/\∃q ids og j Gg,k=N-q/\q<=N/\Gg.length<=q/\aH bl Gg (dU ps cs zs q) (og++(j++t)) s'/\(∃LI:List Int,LI.length=q/\Gr 1 ids (nR LI) og)/\∀i w,lk [(0,.bool false),(1,iv<|.ofNat ac),(2,iv<|.ofNat ph),(3,lv),(10,.ptr<|some ⟨bf,0,0⟩),(12,ids),(13,iv<|.ofNat q)] i=some w->lk l i=some w) ?_ (n:=N-0)
  ⟨rfl,0,nilS,[],[],[],rfl,Nat.zero_le _,Nat.le_refl _,hs,⟨[],rfl,.nil⟩,aa e0<|aa e1<|aa e2<|aa e3<|aa e10<|aa e12<|cM rfl⟩
 rintro k l ds s' ⟨rfl,q,ids,og,j,Gg,rfl,hq,hE,hs',⟨LI,hLI,hG⟩,hl⟩
 refine Wg hl (λ_ _ h=>h) ?_
 by_cases hlt:q<N
 ·have Pv:binV .lss (iv<|.ofNat q) (iv<|.ofNat L.length)=some (.bool true):=by rw[eT,decide_eq_true<|show Int.ofNat q<Int.ofNat L.length from Int.ofNat_lt.2<|by omega]
  have XJ:binV .lss (iv<|.ofNat q) (iv 20)=some (.bool true):=by rw[eT,decide_eq_true<|show Int.ofNat q<20 from(by omega:((q:Nat):Int)<20)]
  refine Ws<|Wq<|Wv rfl<|Wv rfl<|Wr (.lenS rfl hL.len)<|Wj rfl rfl Pv<|Wv rfl<|Wy rfl rfl<|Wv rfl<|Wy rfl rfl<|Wj rfl rfl XJ<|Wr (.cV rfl rfl)<|Wn<|Wd rfl (λ_=>Wi ?_) Dz
  obtain⟨x,z,y,hx,hz,hy,hrow,hcx,zI,hpy⟩:=hL.b q<|by omega
  obtain⟨rb,cap,sl,rfl,hrb⟩:=hL.at'<|by omega
  obtain⟨UO,hc6,pN⟩:=hin q<|by omega
  have hI:=hinv q<|by omega
  have hI1:=hinv (q+1)<|by omega
  have hsm:=hI.small<|by omega
  have Y0:=hI1.small<|by omega
  have h47:binV .rem (.int .u8<|.ofNat y) (.int .u8<|.ofNat 3)=some (.int .u8<|.ofNat<|ps q):=by rw[<- hpy];exact yi<|by omega
  have h54:binV .rem (.int .u8<|.ofNat x) (.int .u8<|.ofNat 6)=some (.int .u8<|.ofNat<|cs q):=by rw[<- hcx];exact yi<|by omega
  have h61:binV .rem (.int .u8<|.ofNat z) (.int .u8<|.ofNat 2)=some (.int .u8<|.ofNat<|zs q):=by rw[<- zI];exact yi<|by omega
  have h48:mkI .i64 (.ofNat<|ps q)=some (iv<|.ofNat<|ps q):=tD<|by omega
  have h55:mkI .i64 (.ofNat<|cs q)=some (iv<|.ofNat<|cs q):=tD<|by omega
  have h62:mkI .i64 (.ofNat<|zs q)=some (iv<|.ofNat<|zs q):=tD<|by omega
  have hap:Ap P K F 1 (.ofNat<|ps q) (.ofNat<|cs q) (.ofNat<|1+zs q) 0 it0 (dU ps cs zs q) (dU ps cs zs<|q+1):=by
   intro pv ov lv hv gv ev fv sv wv s h
   exact sC hB h hsm hI.even (by rw[hI.pl];exact UO) ⟨by rw[hI.nx];exact Int.natCast_nonneg _,by rw[hI.nx];show((q+7:Nat):Int)<=1000000;omega⟩ ⟨hI.sp.1,Int.le_trans hI.sp.2 (by show((q+1:Nat):Int)<=1000000;omega)⟩<|hc.cN _ _ _ UO hc6 pN
  refine Ws<|Wb<|WP.fd λb66=>?_
  have dt:aH bl Gg (dU ps cs zs q) ((b66,.gone)::(og++(j++t))) ((b66,.gone)::s'):=hs'.cons
  refine Dp (.mv rfl)<|Dp (.mv rfl) ?_
  refine Dp (.mv rfl)<|Dp (.mv rfl)<|Dp (.iaddrS rfl rfl (by omega)<|by omega)<|Dp (.faddr rfl)<|Dl rfl .nil (.load rfl (.there<|hs'.mem<|.app<|.app hrb) (r:=0+q) (by rw[Nat.zero_add];exact hrow) rfl rfl)<|Dp (.arith rfl rfl h47)<|Dp (.convI rfl h48) ?_
  refine Dp (.mv rfl)<|Dp (.mv rfl)<|Dp (.iaddrS rfl rfl (by omega)<|by omega)<|Dp (.faddr rfl)<|Dl rfl .nil (.load rfl (.there<|hs'.mem<|.app<|.app hrb) (r:=0+q) (by rw[Nat.zero_add];exact hrow) rfl rfl)<|Dp (.arith rfl rfl h54)<|Dp (.convI rfl h55) ?_
  refine Dp (.mv rfl)<|Dp (.mv rfl)<|Dp (.iaddrS rfl rfl (by omega)<|by omega)<|Dp (.faddr rfl)<|Dl rfl .nil (.load rfl (.there<|hs'.mem<|.app<|.app hrb) (r:=0+q) (by rw[Nat.zero_add];exact hrow) rfl rfl)<|Dp (.arith rfl rfl h61)<|Dp (.convI rfl h62) ?_
  refine Dp (.arith rfl rfl<|bM<|by omega)<|Dp (.build (cs:=evRow 1 (.ofNat<|ps q) (.ofNat<|cs q) (.ofNat<|1+zs q) 0 it0) rfl rfl)<|Dc .nil<|WS.perm<|Wz [.ptr (some ⟨bf,0,0⟩),.agg<|evRow 1 (.ofNat<|ps q) (.ofNat<|cs q) (.ofNat<|1+zs q) 0 it0] rfl rfl (u5 hB dt hsm (.there<|.app<|.app hf) (by omega) (by rw[hI.obn,du];exact decide_eq_true<|show((q+6:Nat):Int)<60 by omega) hap Y0 ⟨by rw[hI1.nx];show(1:Int)<=((q+1+7:Nat):Int);omega,by rw[hI1.nx];show((q+1+7:Nat):Int)<=1000000;omega⟩) ?_
  rintro w s3 ⟨rfl,gw⟩
  obtain⟨u,hu,hback⟩:=gw.split
  generalize (dU ps cs zs<|q+1).nx-1=cG
  refine⟨_,hu,WD.al (.bslice (L:=[[iv cG]]) (fZ rfl rfl) rfl) rfl ?_⟩
  refine Dc (.yes rfl rfl (.app .here) .nil)<|WS.pre (s':=((b66,.r false [[iv cG]] 1)::u)++(og++(j++t))) (ak λc w h0 h1 h2 hq=>by simp only[h1,h2];omega)<|WS.append_gr rfl hG rfl (Src.all (L:=[[iv cG]]) .here) (by omega) (by rw[gq];omega) (by omega) λv' o' jk xB=>?_
  refine Dp (.mv rfl)<|D0 .nil ?_<|λo ho=>nomatch ho
  refine Wo<|Wv rfl<|Wj rfl rfl (bM<|by omega)<|Wv rfl<|Wn ?_
  refine⟨N-(q+1),by omega,rfl,q+1,v',o',(b66,.r false [[iv cG]] 1)::(jk++j),_,rfl,hlt,?_,(hback<|o'++(((b66,.r false [[iv cG]] 1)::(jk++j))++t)).perm (ak λc w h0 h1 h2 hq=>by simp only[h1,h2];omega),⟨LI++[cG],by rw[List.length_append,hLI];rfl,?_⟩,cM rfl⟩
  ·rw[List.length_append];exact Nat.succ_le_succ hE
  ·have:nR (LI++[cG])=nR LI++[[iv cG]]:=by simp[nR]
   rw[this];exact xB
 ·have hqN:q=N:=by omega
  have fin:∀{l2:Sl},(∀i w,lk [(0,.bool false),(1,iv<|.ofNat ac),(2,iv<|.ofNat ph),(10,.ptr<|some ⟨bf,0,0⟩),(12,ids)] i=some w->lk l2 i=some w)->WP P K none 82 (oN [zm 68 10,zm 69 1,zo 70<|.build mB [⟨0,⟨1,zc 20⟩⟩,⟨1,⟨1,.tmp 69⟩⟩],oF F 71 15 [.tmp 68,.tmp 70]]<|adx F T) l2 [] s' Qn Qe Qr:=by
   intro l2 CG
   subst hqN
   have hI:=hinv q<|Nat.le_refl _
   have hsm:=hI.small<|by omega
   refine Wg CG (λ_ _ h=>h) ?_
   have Y0:({ dU ps cs zs q with tu:=(dU ps cs zs q).tu+1,ac:=.ofNat ac }:SD).Small:=⟨hsm.n1,hsm.n2⟩
   refine Wq<|Wv rfl<|Wv rfl<|Wr (.build (cs:=evRow 20 (.ofNat ac) 0 0 0 it0) rfl rfl)<|Ww<|Wz [.ptr (some ⟨bf,0,0⟩),.agg<|evRow 20 (.ofNat ac) 0 0 0 it0] rfl rfl (aaX hB hs' hsm (.app<|.app hf) (by omega) (by decide) (by decide) (by decide) (by decide)<|abO hB hT2 hsm hI.even (by rw[hI.pl];exact hac) (by rw[hI.tu];decide)<|hc.cT _ hac) ?_
   rintro w s3 ⟨_,gw⟩
   refine Wn ?_
   unfold adx
   refine Wq<|Wv rfl<|Wv rfl<|Wr (.build (cs:=evRow 19 (.ofNat ph) 0 0 0 it0) rfl rfl)<|Ww<|Wz [.ptr (some ⟨bf,0,0⟩),.agg<|evRow 19 (.ofNat ph) 0 0 0 it0] rfl rfl (aaX hB gw Y0 (.app<|.app hf) (by rw[List.length_append];show Gg.length+1<=1000;omega) (by decide) (by decide) (by decide) (by decide)<|abf hB abh Y0 ⟨hI.even.lb,hI.even.hd,hI.even.gr,hI.even.ex⟩<|hc.cP _ hph) ?_
   rintro w s4 ⟨_,pM⟩
   refine Wn<|Ws<|Wq<|Wv rfl<|Wn<|Wd rfl fS<|λ_=>Wi ?_
   refine Wq<|Wv rfl<|Wv rfl<|Wv rfl<|Wv rfl<|Wn<|We ?_
   exact hk _ _ ids _ (by rw[List.length_append,List.length_append];show Gg.length+1+1<=22;omega) pM.fb.fb rfl rfl
  by_cases hlen:q<L.length
  ·have Pv:binV .lss (iv<|.ofNat q) (iv<|.ofNat L.length)=some (.bool true):=by rw[eT,decide_eq_true<|show Int.ofNat q<Int.ofNat L.length from Int.ofNat_lt.2 hlen]
   have XJ:binV .lss (iv<|.ofNat q) (iv 20)=some (.bool false):=by rw[eT,decide_eq_false<|show¬Int.ofNat q<20 from(by omega:¬((q:Nat):Int)<20)]
   refine Ws<|Wq<|Wv rfl<|Wv rfl<|Wr (.lenS rfl hL.len)<|Wj rfl rfl Pv<|Wv rfl<|Wy rfl rfl<|Wv rfl<|Wy rfl rfl<|Wj rfl rfl XJ<|Wr (.cV rfl rfl)<|Wn<|Wd rfl fS<|λ_=>Wx ?_
   exact fin<|cM rfl
  ·have Pv:binV .lss (iv<|.ofNat q) (iv<|.ofNat L.length)=some (.bool false):=by rw[eT,decide_eq_false<|show¬Int.ofNat q<Int.ofNat L.length fromλh=>hlen<|Int.ofNat_lt.1 h]
   refine Ws<|Wq<|Wv rfl<|Wv rfl<|Wr (.lenS rfl hL.len)<|Wj rfl rfl Pv<|Wv rfl<|Wk rfl rfl<|Wk rfl rfl<|Wr (.bj rfl rfl)<|Wn<|Wd rfl fS<|λ_=>Wx ?_
   exact fin<|cM rfl

end
end Go.Ev
