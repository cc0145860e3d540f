/- Walks and rules. Conditions: none. -/
import Derived.Test.YtbgjkfbeofbngaaGreatEvL
set_option linter.unusedVariables false
set_option linter.unusedSectionVars false
namespace Go.Ev
def a82:CF:=λF T=>(oN [zo 1 (.box 1 0),zo 2 (.mv (.const (.slice none 0 0)))] (.seq (oN [zl 10 1,zo 11 (.eql false (.iface true) 10 (.const .nilIface))] (.cond 11 (oN [zo 2 (.mv (.const (.slice none 0 0)))] .ret) .skip)) (.seq (.drawn 2 [zr (zl 12 1) 0 0 0,zh (zo 13 (.invoke 12 "Info" [])) 1,zp (zo 14 (.fld 1 1 false 13)) 3,zr (zl 15 1) 0 1 0,zh (zo 16 (.invoke 15 "Players" [])) 11,⟨zo 3 (.alloc 1 [(za 0)]),.dalloc,0,0,0⟩,⟨zo 4 (.alloc 1 [(za 0)]),.dalloc,0,0,0⟩,zh (zn (.store 1 3 14)) 127,zh (zn (.store 1 4 16)) 255]) (oN [zo 17 (.mkfn (F 125) [] [3]),zo 5 (.alloc 1 [.nilFunc]),zn (.store 1 5 17)] (oN [zo 6 (.alloc 1 [(.slice none 0 0 false 0)])] (.seq (oN [zl 18 1,oF F 19 79 [18]] (.block 0 (.rf 19 [20] (.ops [zo 7 (.alloc 17 zL0),zn (.store 17 7 20)]) (.block 1 (oN [zo 8 (.mv (zc 1))] (.block 2 (.loop (.seq (oN [zm 21 8,zl 22 4,zo 23 (.arith .lss 21 22),zm 24 23,zg 25 (.load false 1 5) 24 true,zg 26 (.load true 17 7) 24 true,zg 27 (.call 25 [26]) 24 true,zo 28 (.pick 24 27 (.const (.bool false)))] (.cond 28 .skip (.exit 2))) (.seq (.block 3 (oN [zl 31 3,zm 32 8,zo 33 (.arith .add 31 32),zl 34 4,zo 35 (.arith .rem 33 34),zm 9 35] (oN [zl 36 1,zm 37 9,oF F 38 126 [36,37]] (.cond 38 (.ops [zl 39 6,zf 40 0 7,zf 41 0 40,zl 42 41,zm 43 9,zo 44 (.build [(za 0),(za 0),(za 0)] [⟨0,⟨1,(zc 9)⟩⟩,⟨1,⟨1,42⟩⟩,⟨2,⟨1,43⟩⟩]),zo 45 (.bslice 3 1 [(za 0),(za 0),(za 0)] [⟨0,44⟩]),zo 46 (.append 3 24 39 45),zn (.store 1 6 46)]) .skip)))) (.ops [zm 29 8,zo 30 (.arith .add 29 (zc 1)),zm 8 30])))))))))) (oN [zl 47 6,zm 2 47] .ret)))))))
def a83:CF:=λF T=>(oN [zo 3 (.box 3 1)] (oN [zm 9 0,zf 10 1 3,zl 11 10,oF F 12 127 [9,11],zm 8 12,zo 13 (.extract 8 0),zo 14 (.extract 8 1),zo 4 (.alloc 14 dB),zn (.store 14 4 13),zm 5 14] (.seq (oN [zm 15 5,zo 16 (.un .not 15),zm 17 16,zg 18 (.faddr 0 3) 17 false,zg 19 (.load false 1 18) 17 false,zg 20 (.eql true .pi 19 (zc 9)) 17 false,zo 21 (.pick 17 (.const (.bool true)) 20)] (.cond 21 .ret .skip)) (oN [zm 22 0,zf 23 1 3,zl 24 23,zf 25 2 3,zl 26 25,zo 27 (.arith .add 26 (zc 1)),zo 28 (.build mB [⟨0,⟨1,(zc 12)⟩⟩,⟨1,⟨1,24⟩⟩,⟨2,⟨1,27⟩⟩]),zo 29 (.invoke 22 "Do" [28])] (.seq (oN [zm 31 0,zf 32 1 3,zl 33 32,zo 34 (.invoke 31 "Chars" [33]),zm 30 34,zo 35 (.extract 30 0),zo 36 (.extract 30 1),zo 6 (.alloc 3 [(za 0),(za 0),(za 0)]),zn (.store 3 6 35),zm 7 36] (oN [zm 37 7,zm 38 37,zg 39 (.faddr 2 6) 38 true,zg 40 (.load false 1 39) 38 true,zg 41 (.arith .and 40 (zc 16)) 38 true,zg 42 (.eql false .pi 41 (zc 0)) 38 true,zo 43 (.pick 38 42 (.const (.bool false)))] (.cond 43 (.ops [zm 44 0,zf 45 1 3,zl 46 45,zo 47 (.build mB [⟨0,⟨1,(zc 3)⟩⟩,⟨1,⟨1,46⟩⟩,⟨3,⟨1,(zc 1)⟩⟩]),zo 48 (.invoke 44 "Do" [47])]) .skip))) (.ops [zm 49 0,zf 50 1 3,zl 51 50,zf 52 3 4,zl 53 52,oF F 54 128 [49,(zc 4),51,53]]))))))
def a84:CF:=λF T=>(oN [zo 3 (.box 3 1)] (oN [zm 9 0,zf 10 1 3,zl 11 10,oF F 12 127 [9,11],zm 8 12,zo 13 (.extract 8 0),zo 14 (.extract 8 1),zo 4 (.alloc 14 dB),zn (.store 14 4 13),zm 5 14] (oN [zm 16 0,zf 17 2 3,zl 18 17,oF F 19 127 [16,18],zm 15 19,zo 20 (.extract 15 0),zo 21 (.extract 15 1),zo 6 (.alloc 14 dB),zn (.store 14 6 20),zm 7 21] (.seq (oN [zm 22 5,zo 23 (.un .not 22),zm 24 23,zg 25 (.mv 7) 24 false,zg 26 (.un .not 25) 24 false,zo 27 (.pick 24 (.const (.bool true)) 26),zm 28 27,zg 29 (.faddr 0 3) 28 false,zg 30 (.load false 1 29) 28 false,zg 31 (.eql true .pi 30 (zc 10)) 28 false,zo 32 (.pick 28 (.const (.bool true)) 31)] (.cond 32 .ret .skip)) (oN [zm 33 0,zf 34 1 3,zl 35 34,zf 36 2 3,zl 37 36,zo 38 (.build mB [⟨0,⟨1,(zc 13)⟩⟩,⟨1,⟨1,35⟩⟩,⟨2,⟨1,37⟩⟩]),zo 39 (.invoke 33 "Do" [38])] (oN [zf 40 12 6,zl 41 40,zo 42 (.un .not 41)] (.cond 42 (.ops [zm 43 0,zf 44 2 3,zl 45 44,zo 46 (.build mB [⟨0,⟨1,(zc 14)⟩⟩,⟨1,⟨1,45⟩⟩,⟨3,⟨1,(zc 1)⟩⟩]),zo 47 (.invoke 43 "Do" [46])]) .skip)))))))
def a85:CF:=λF T=>(oN [zm 8 0,oF F 9 79 [8],oF F 10 129 [9],zo 11 (.build [(.slice none 0 0 false 0),(.slice none 0 0 false 0)] [⟨1,⟨1,10⟩⟩]),zo 12 (.box 2 11),zm 2 12] (.seq (oN [zm 13 2,zo 14 (.nilchk 13),zf 15 1 14,zl 16 15,zo 17 (.lenS 16),zo 18 (.mv (zc 0))] (.block 0 (.loop (oN [zo 19 (.arith .lss 18 17)] (.seq (.cond 19 .skip (.exit 0)) (.seq (.block 1 (oN [zo 20 (.iaddrS 17 16 18),zo 21 (.load true 17 20),zo 4 (.alloc 17 zL0),zn (.store 17 4 21)] (oN [zf 22 0 4,zf 23 10 22,zl 24 23,zo 25 (.arith .gtr 24 (zc 0))] (.cond 25 (.ops [zm 26 2,zo 27 (.load true 17 4),oF F 28 130 [26,27]]) .skip)))) (.ops [zo 29 (.arith .add 18 (zc 1)),zm 18 29]))))))) (oN [zm 30 2,zo 31 (.nilchk 30),zf 32 0 31,zf 33 0 32,zl 34 33,zo 35 (.lenS 34),zo 36 (.mv (zc 0))] (.block 2 (.loop (oN [zo 37 (.arith .lss 36 35)] (.seq (.cond 37 .skip (.exit 2)) (.seq (.block 3 (oN [zo 38 (.iaddrS 3 34 36),zo 39 (.load true 3 38),zo 6 (.alloc 3 [(za 0),(za 0),(za 0)]),zn (.store 3 6 39)] (.block 4 (oN [zf 41 2 6,zl 42 41,zo 43 (.eql false .pi 42 (zc 0)),zm 40 43] (.cond 40 .skip (oN [zf 45 0 6,zl 46 45,zo 47 (.arith .gtr 46 (zc 0)),zm 44 47] (.cond 44 (.ops [zm 48 0,zf 49 0 6,zl 50 49,zf 51 2 6,zl 52 51,zo 53 (.build mB [⟨0,⟨1,(zc 5)⟩⟩,⟨1,⟨1,50⟩⟩,⟨3,⟨1,52⟩⟩]),zo 54 (.invoke 48 "Do" [53])]) (oN [zm 56 0,zf 57 1 6,zl 58 57,oF F 59 126 [56,58],zm 55 59] (.cond 55 (oN [zm 60 0,zf 61 1 6,zl 62 61,zf 63 2 6,zl 64 63,oF F 65 131 [60,62,64],zm 7 65] (oN [zm 66 7,zo 67 (.arith .gtr 66 (zc 0))] (.cond 67 (.ops [zm 68 0,zf 69 1 6,zl 70 69,zm 71 7,zo 72 (.un .neg 71),zo 73 (.build mB [⟨0,⟨1,(zc 7)⟩⟩,⟨1,⟨1,70⟩⟩,⟨3,⟨1,72⟩⟩]),zo 74 (.invoke 68 "Do" [73])]) .skip))) .skip))))))))) (.ops [zo 75 (.arith .add 36 (zc 1)),zm 36 75])))))))))
def afJ:CF:=λF T=>(oN [zo 2 (.box 17 0),zo 3 (.mv (.const (.bool false)))] (oN [zf 4 0 2,zf 5 3 4,zl 6 5,zl 7 1,zo 8 (.eql false .pi 6 7),zm 9 8,zg 10 (.faddr 0 2) 9 true,zg 11 (.faddr 10 10) 9 true,zg 12 (.load false 1 11) 9 true,zg 13 (.eql false .pi 12 (zc 0)) 9 true,zo 14 (.pick 9 13 (.const (.bool false))),zm 15 14,zg 16 (.faddr 0 2) 15 true,zg 17 (.faddr 5 16) 15 true,zg 18 (.load false 1 17) 15 true,zg 19 (.un .not 18) 15 true,zo 20 (.pick 15 19 (.const (.bool false))),zm 21 20,zg 22 (.load true 17 2) 21 true,zg 23 (.call (.func (F 80)) [22,(zc 4)]) 21 true,zg 24 (.un .not 23) 21 true,zo 25 (.pick 21 24 (.const (.bool false))),zm 26 25,zg 27 (.faddr 0 2) 26 true,zg 28 (.faddr 6 27) 26 true,zg 29 (.load false 1 28) 26 true,zg 30 (.un .not 29) 26 true,zg 31 (.mv 30) 26 true,zg 32 (.load true 17 2) 31 false,zg 33 (.call (.func (F 80)) [32,(zc 2)]) 31 false,zg 34 (.pick 31 (.const (.bool true)) 33) 26 true,zo 35 (.pick 26 34 (.const (.bool false))),zm 3 35] .ret))
def afK:CF:=λF T=>(oN [zo 4 (.mv (.const (.bool false)))] (oN [zm 5 1,zo 6 (.arith .geq 5 (zc 0)),zm 7 6,zg 8 (.mv 1) 7 true,zg 9 (.mv 0) 7 true,zg 10 (.invoke 9 "Players" []) 7 true,zg 11 (.arith .lss 8 10) 7 true,zo 12 (.pick 7 11 (.const (.bool false))),zm 13 12,zg 14 (.mv 0) 13 true,zg 15 (.mv 1) 13 true,zg 16 (.invoke 14 "Player" [15]) 13 true,zg 17 (.fld 6 1 false 16) 13 true,zg 18 (.un .not 17) 13 true,zo 19 (.pick 13 18 (.const (.bool false))),zm 4 19] .ret))
def afL:CF:=λF T=>(oN [zo 4 (.alloc 14 dB),zo 5 (.mv (.const (.bool false)))] (.seq (oN [zm 8 0,zo 9 (.eql false (.iface true) 8 (.const .nilIface))] (.cond 9 (oN [zo 10 (.build dB []),zn (.store 14 4 10),zo 5 (.mv (.const (.bool false)))] .ret) .skip)) (oN [zm 12 0,zm 13 1,zo 14 (.invoke 12 "Obj" [13]),zm 11 14,zo 15 (.extract 11 0),zo 16 (.extract 11 1),zo 6 (.alloc 14 dB),zn (.store 14 6 15),zm 7 16] (.seq (.drawn 0 [zr (zo 17 (.load true 14 6)) 0 0 0,zp (zm 18 7) 0,zp (zm 19 18) 2,zp (zg 20 (.faddr 4 6) 19 true) 6,zr (zg 21 (.load false 1 20) 19 true) 0 1 14,zp (zg 22 (.eql false .pi 21 (zc 2)) 19 true) 30,zp (zo 23 (.pick 19 22 (.const (.bool false)))) 62,zh (zn (.store 14 4 17)) 7,zp (zm 5 23) 255]) .ret))))
def afN:CF:=λF T=>(oN [zo 2 (.mv (.const (.slice none 0 0)))] (oN [zm 3 0,oF F 4 177 [(.const (.slice none 0 0)),3],zm 2 4] .ret))
def afO:CF:=λF T=>(oN [zo 3 (.box 17 1)] (oN [zm 12 0,zo 13 (.nilchk 12),zf 14 1 13,zl 15 14,oF F 16 179 [15],zo 17 (.mkfn (F 180) [] [3]),oF F 18 178 [16,17],zm 4 18] (.seq (.drawn 0 [zp (zf 19 14 3) 0,zp (zf 20 0 19) 1,zr (zl 21 20) 0 1 3,zp (zo 22 (.minmax true [21,(zc 0)])) 7,zr (zo 23 (.load true 17 3)) 0 0 0,zh (oF F 24 80 [23,(zc 8)]) 16,zp (zm 5 22) 63,zp (zm 6 24) 127]) (.seq (oN [zm 25 4,zo 26 (.lenS 25),zo 27 (.mv (zc 0))] (.block 0 (.loop (oN [zo 28 (.arith .lss 27 26)] (.seq (.cond 28 .skip (.exit 0)) (.seq (.block 1 (oN [zm 29 27,zo 30 (.iaddrS 17 25 27),zo 31 (.load true 17 30),zo 8 (.alloc 17 zL0),zm 7 29,zn (.store 17 8 31)] (oN [zm 32 5,zm 9 32] (.seq (oN [zm 33 7,zm 34 4,zo 35 (.lenS 34),zo 36 (.arith .sub 35 (zc 1)),zo 37 (.arith .lss 33 36),zm 38 37,zg 39 (.mv 6) 38 false,zo 40 (.pick 38 (.const (.bool true)) 39)] (.cond 40 (.ops [zm 41 5,zf 42 14 8,zf 43 1 42,zl 44 43,zf 45 0 8,zf 46 8 45,zl 47 46,zo 48 (.arith .sub 44 47),zo 49 (.minmax true [48,(zc 0)]),zo 50 (.minmax false [41,49]),zm 9 50]) .skip)) (.seq (.drawn 1 [zp (zm 51 0) 0,zp (zo 52 (.nilchk 51)) 1,zp (zf 53 0 52) 3,zp (zf 54 0 8) 0,zp (zf 55 0 54) 8,zr (zl 56 55) 0 0 24,zp (zm 57 9) 0,zp (zo 58 (.build [(za 0),(za 0),(za 0)] [⟨0,⟨1,56⟩⟩,⟨2,⟨1,57⟩⟩])) 120,⟨zo 59 (.bslice 3 1 [(za 0),(za 0),(za 0)] [⟨0,58⟩]),.dalloc,0,0,248⟩,zh (oF F 60 181 [53,59]) 511]) (.ops [zm 61 5,zm 62 9,zo 63 (.arith .sub 61 62),zm 5 63])))))) (.ops [zo 64 (.arith .add 27 (zc 1)),zm 27 64]))))))) (.seq (oN [zm 65 6,zm 66 65,zg 67 (.mv 4) 66 false,zg 68 (.lenS 67) 66 false,zg 69 (.eql false .pi 68 (zc 0)) 66 false,zg 70 (.mv 69) 66 false,zg 71 (.faddr 0 3) 70 true,zg 72 (.faddr 12 71) 70 true,zg 73 (.load false 1 72) 70 true,zg 74 (.un .not 73) 70 true,zg 75 (.pick 70 74 (.const (.bool false))) 66 false,zo 76 (.pick 66 (.const (.bool true)) 75)] (.cond 76 (.drawn 1 [zp (zm 77 0) 0,zp (zo 78 (.nilchk 77)) 1,zp (zf 79 0 78) 3,zp (zf 80 0 3) 0,zp (zf 81 10 80) 8,zr (zl 82 81) 0 0 24,zp (zo 83 (.arith .sub 82 (zc 1))) 56,zp (zm 84 5) 0,zp (zo 85 (.build [(za 0),(za 0),(za 0)] [⟨1,⟨1,83⟩⟩,⟨2,⟨1,84⟩⟩])) 248,⟨zo 86 (.bslice 3 1 [(za 0),(za 0),(za 0)] [⟨0,85⟩]),.dalloc,0,0,504⟩,zh (oF F 87 181 [79,86]) 1023]) .skip)) (oN [zm 88 4,zo 89 (.lenS 88),zo 90 (.mv (zc 0))] (.block 2 (.loop (oN [zo 91 (.arith .lss 90 89)] (.seq (.cond 91 .skip (.exit 2)) (.seq (.block 3 (oN [zo 92 (.iaddrS 17 88 90),zo 93 (.load true 17 92),zo 11 (.alloc 17 zL0),zn (.store 17 11 93)] (.drawn 1 [zp (zm 94 0) 0,zp (zo 95 (.nilchk 94)) 1,zp (zf 96 0 95) 3,zp (zf 97 0 3) 0,zp (zf 98 0 97) 8,zr (zl 99 98) 0 0 24,zp (zf 100 14 11) 0,zp (zf 101 0 100) 64,zr (zl 102 101) 0 0 192,zp (zo 103 (.minmax true [102,(zc 0)])) 448,zp (zo 104 (.build [(za 0),(za 0),(za 0)] [⟨0,⟨1,99⟩⟩,⟨2,⟨1,103⟩⟩])) 1016,⟨zo 105 (.bslice 3 1 [(za 0),(za 0),(za 0)] [⟨0,104⟩]),.dalloc,0,0,2040⟩,zh (oF F 106 181 [96,105]) 4095]))) (.ops [zo 107 (.arith .add 90 (zc 1)),zm 90 107]))))))))))))
def afR:CF:=λF T=>(oN [zo 2 (.box 1 0),zo 4 (.mv (.const (.slice none 0 0)))] (.seq (oN [zm 6 1] (.block 0 (.rf 6 [7] (.ops [zo 5 (.alloc 17 zL0),zn (.store 17 5 7)]) (.block 1 (.ops [zl 8 2,zo 9 (.load true 17 5),zo 10 (.bslice 17 1 zL0 [⟨0,9⟩]),zo 11 (.append 17 136 8 10),zn (.store 1 2 11)]))))) (oN [zl 12 2,zm 4 12] .ret)))
def ag4:CF:=λF T=>(oN [zo 4 (.mv (.const (.slice none 0 0)))] (oN [zm 8 0,zm 9 1,oF F 10 212 [8,9],zm 5 10] (.seq (oN [zm 11 5,zo 12 (.eql false .pi 11 (.const (.int .i64 (.negSucc 0))))] (.cond 12 (oN [zm 13 0,zm 4 13] .ret) .skip)) (.seq (oN [zm 14 5,zo 15 (.arith .add 14 (zc 1)),zm 6 15] (.block 0 (.loop (.seq (oN [zm 16 6,zm 17 0,zo 18 (.lenS 17),zo 19 (.arith .lss 16 18)] (.cond 19 .skip (.exit 0))) (.seq (.block 1 (oN [zm 22 0,zm 23 6,zo 24 (.iaddrS 17 22 23),zo 25 (.load true 17 24),zo 7 (.alloc 17 zL0),zn (.store 17 7 25)] (oN [zm 26 1,zo 27 (.load true 17 7),zo 28 (.call 26 [27]),zo 29 (.un .not 28)] (.cond 29 (oN [zm 30 0,zm 31 5,zo 32 (.load true 17 7),zo 33 (.iaddrS 17 30 31),zn (.store 17 33 32)] (.ops [zm 34 5,zo 35 (.arith .add 34 (zc 1)),zm 5 35])) .skip)))) (.ops [zm 20 6,zo 21 (.arith .add 20 (zc 1)),zm 6 21])))))) (oN [zm 36 0,zm 37 5,zo 38 (.slc 17 36 (some 37) none none),zn (.clear 17 zL0 38)] (oN [zm 39 0,zm 40 5,zo 41 (.slc 17 39 none (some 40) none),zm 4 41] .ret))))))
def ag5:CF:=λF T=>(oN [zo 2 (.mv (.const (.slice none 0 0)))] (.seq (oN [zm 3 0,zo 4 (.eql false .DB 3 (.const (.slice none 0 0)))] (.cond 4 (oN [zo 2 (.mv (.const (.slice none 0 0)))] .ret) .skip)) (oN [zo 5 (.bslice 17 0 zL0 []),zm 6 0,zo 7 (.append 17 136 5 6),zm 2 7] .ret)))
def afS:CF:=λF T=>(oN [zo 2 (.box 17 0),zo 3 (.mv (.const (.bool false)))] (oN [zf 4 0 2,zf 5 11 4,zl 6 5,zf 7 0 1,zf 8 0 7,zl 9 8,zo 10 (.eql true .pi 6 9),zm 3 10] .ret))
def afT:CF:=λF T=>(.ops [zm 4 0,zm 5 0,zo 6 (.nilchk 5),zf 7 0 6,zl 8 7,zm 9 1,zo 10 (.append 3 24 8 9),zo 11 (.nilchk 4),zf 12 0 11,zn (.store 1 12 10)])
def ag6:CF:=λF T=>(oN [zo 4 (.mv (zc 0))] (.seq (oN [zm 6 0,zo 7 (.lenS 6),zo 8 (.mv (zc 0))] (.block 0 (.loop (oN [zo 9 (.arith .lss 8 7)] (.seq (.cond 9 .skip (.exit 0)) (.seq (.block 1 (oN [zm 10 8,zm 5 10] (oN [zm 11 1,zm 12 0,zm 13 5,zo 14 (.iaddrS 17 12 13),zo 15 (.load true 17 14),zo 16 (.call 11 [15])] (.cond 16 (oN [zm 17 5,zm 4 17] .ret) .skip)))) (.ops [zo 18 (.arith .add 8 (zc 1)),zm 8 18]))))))) (oN [zo 4 (.mv (.const (.int .i64 (.negSucc 0))))] .ret)))
structure BaseP (P:Program)(K:Orc)(F:Nat->FuncId)(T:Nat->TypeId):Prop where
 f82:FnK P K (F 82) 48 [(.tmp 2)] (a82 F T)
 f83:FnK P K (F 83) 55 [] (a83 F T)
 f84:FnK P K (F 84) 48 [] (a84 F T)
 f85:FnK P K (F 85) 76 [] (a85 F T)
 f125:FnK P K (F 125) 36 [(.tmp 3)] (afJ F T)
 f126:FnK P K (F 126) 20 [(.tmp 4)] (afK F T)
 f127:FnK P K (F 127) 24 [(.cell 4<|T 45),(.tmp 5)] (afL F T)
 f129:FnK P K (F 129) 5 [(.tmp 2)] (afN F T)
 f130:FnK P K (F 130) 108 [] (afO F T)
 f177:FnK P K (F 177) 13 [(.tmp 4)] (afR F T)
 f178:FnK P K (F 178) 42 [(.tmp 4)] (ag4 F T)
 f179:FnK P K (F 179) 8 [(.tmp 2)] (ag5 F T)
 f180:FnK P K (F 180) 11 [(.tmp 3)] (afS F T)
 f181:FnK P K (F 181) 13 [] (afT F T)
 f212:FnK P K (F 212) 19 [(.tmp 4)] (ag6 F T)
def afH:CF:=λF T=>(oN [zo 4 (.mv (.const (.slice none 0 0)))] (oN [zo 5 (.mv (.const (.slice none 0 0)))] (oN [zm 10 0,oF F 11 14 [10],zo 6 (.alloc 25 cC),zn (.store 25 6 11)] (.seq (oN [zf 12 6 6,zl 13 12,zo 14 (.lenS 13),zo 15 (.mv (zc 0))] (.block 0 (.loop (oN [zo 16 (.arith .lss 15 14)] (.seq (.cond 16 .skip (.exit 0)) (.seq (.block 1 (oN [zo 17 (.iaddrS 1 13 15),zl 18 17,zm 8 18] (.seq (.drawn 1 [zp (zf 19 1 6) 0,zr (zl 20 19) 0 1 1,zr (zo 21 (.load true 25 6)) 0 0 0,zp (zm 22 8) 0,zh (oF F 23 91 [21,22]) 12,zp (zo 24 (.iaddrS 14 20 23)) 31,zr (zo 25 (.load true 14 24)) 1 1 63,⟨zo 9 (.alloc 14 dB),.dalloc,0,0,0⟩,zh (zn (.store 14 9 25)) 255]) (.seq (.drawn 0 [zp (zf 26 1 9) 0,zr (zl 27 26) 0 0 1,zp (zm 28 0) 0,zp (zo 29 (.nilchk 28)) 4,zp (zf 30 1 29) 12,zr (zl 31 30) 0 0 28,zp (zo 32 (.lenS 31)) 60,zp (zo 33 (.arith .lss 27 32)) 127,zp (zm 34 33) 255,zp (zg 35 (.mv 1) 34 true) 511,zr (zg 36 (.load true 14 9) 34 true) 0 0 511,zp (zg 37 (.mv 0) 34 true) 511,zp (zg 38 (.nilchk 37) 34 true) 2559,zp (zg 39 (.faddr 1 38) 34 true) 6655,zr (zg 40 (.load false 1 39) 34 true) 0 0 14847,zp (zg 41 (.faddr 1 9) 34 true) 511,zr (zg 42 (.load false 1 41) 34 true) 0 0 33279,zp (zg 43 (.iaddrS 11 40 42) 34 true) 129535,zr (zg 44 (.load true 11 43) 34 true) 0 0 260607,zh (zg 45 (.call 35 [36,44]) 34 true) 524287,zp (zo 46 (.pick 34 45 (.const (.bool false)))) 1048575]) (.cond 46 (.ops [zm 47 5,zm 48 8,zo 49 (.bslice 1 1 [(za 0)] [⟨0,48⟩]),zo 50 (.append 1 8 47 49),zm 5 50]) .skip))))) (.ops [zo 51 (.arith .add 15 (zc 1)),zm 15 51]))))))) (oN [zm 52 5,zm 4 52] .ret)))))
def afM:CF:=λF T=>(oN [zm 10 0,zm 11 1,zm 12 2,zm 13 3,oF F 14 176 [10,11,12,13],zo 15 (.lenS 14),zo 16 (.mv (zc 0))] (.block 0 (.loop (oN [zo 17 (.arith .lss 16 15)] (.seq (.cond 17 .skip (.exit 0)) (.seq (.block 1 (oN [zo 18 (.iaddrS 7 14 16),zo 19 (.load true 7 18),zo 9 (.alloc 7 uv),zn (.store 7 9 19)] (.ops [zm 20 0,zo 21 (.load true 7 9),zo 22 (.build mB [⟨0,⟨1,(zc 17)⟩⟩,⟨6,⟨7,21⟩⟩]),zo 23 (.invoke 20 "Do" [22])]))) (.ops [zo 24 (.arith .add 16 (zc 1)),zm 16 24])))))))
def afP:CF:=λF T=>(oN [zo 4 (.box 1 1),zo 5 (.box 1 2),zo 6 (.mv (zc 0))] (.seq (oN [zm 7 0,zo 8 (.eql false (.iface true) 7 (.const .nilIface)),zm 9 8,zg 10 (.load false 1 5) 9 false,zg 11 (.arith .lss 10 (zc 0)) 9 false,zo 12 (.pick 9 (.const (.bool true)) 11)] (.cond 12 (oN [zo 6 (.mv (zc 0))] .ret) .skip)) (oN [zm 13 0,zo 14 (.mkfn (F 183) [] [4,5]),oF F 15 182 [13,(zc 1),14]] (oN [zl 16 5,zm 6 16] .ret))))
def afQ:CF:=λF T=>(oN [zo 6 (.box 1 2),zo 7 (.box 1 3),zo 8 (.mv (.const (.slice none 0 0)))] (.seq (oN [zm 13 0,zo 14 (.eql false (.iface true) 13 (.const .nilIface)),zm 15 14,zg 16 (.mv 1) 15 false,zg 17 (.arith .lss 16 (zc 1)) 15 false,zo 18 (.pick 15 (.const (.bool true)) 17),zm 19 18,zg 20 (.mv 1) 19 false,zg 21 (.arith .gtr 20 (zc 6)) 19 false,zo 22 (.pick 19 (.const (.bool true)) 21)] (.cond 22 (oN [zo 8 (.mv (.const (.slice none 0 0)))] .ret) .skip)) (oN [zo 23 .mkmap,zo 24 (.mkfn (F 208) [] [6]),zn (.ins true .pi 23 (zc 0) 24),zo 25 (.mkfn (F 209) [] [7]),zn (.ins true .pi 23 (zc 1) 25),zn (.ins true .pi 23 (zc 2) (.func (F 210))),zm 26 23,zo 9 (.alloc 1 [(.map none)]),zn (.store 1 9 26)] (oN [zo 10 (.alloc 1 [(.slice none 0 0 false 0)])] (.seq (oN [zm 27 0,zm 28 1,oF F 29 211 [27,28]] (.block 0 (.rf 29 [30] (.ops [zo 11 (.alloc 28 zL4),zn (.store 28 11 30)]) (.block 1 (oN [zl 31 9,zf 32 0 11,zf 33 2 32,zl 34 33,zo 35 (.look .pi .nilFunc false 31 34),zm 12 35] (oN [zm 36 12,zo 37 (.eql true .V9 36 (.const .nilFunc)),zm 38 37,zg 39 (.mv 12) 38 true,zg 40 (.faddr 13 11) 38 true,zg 41 (.load true 14 40) 38 true,zg 42 (.call 39 [41]) 38 true,zo 43 (.pick 38 42 (.const (.bool false)))] (.cond 43 (.ops [zl 44 10,zf 45 13 11,zf 46 3 45,zl 47 46,zf 48 13 11,zf 49 0 48,zl 50 49,zf 51 13 11,zf 52 1 51,zl 53 52,zf 54 27 11,zl 55 54,zo 56 (.build uv [⟨1,⟨1,(zc 3)⟩⟩,⟨2,⟨1,47⟩⟩,⟨3,⟨1,50⟩⟩,⟨4,⟨1,53⟩⟩,⟨5,⟨1,55⟩⟩]),zo 57 (.bslice 7 1 uv [⟨0,56⟩]),zo 58 (.append 7 72 44 57),zn (.store 1 10 58)]) .skip))))))) (oN [zl 59 10,zm 8 59] .ret))))))
def afU:CF:=λF T=>(oN [zo 5 (.box 1 2),zo 6 (.alloc 1 [(za 0)]),zo 7 (.alloc 1 [(.bool false)])] (.seq (oN [zm 12 0,zo 13 (.eql false (.iface true) 12 (.const .nilIface))] (.cond 13 (oN [zl 14 6,zn (.store 1 6 14),zn (.store 1 7 (.const (.bool false)))] .ret) .skip)) (.seq (oN [zm 15 0,zm 16 1,oF F 17 213 [15,16]] (.block 0 (.rf 17 [18,19] (oN [zo 8 (.alloc 14 dB),zn (.store 14 8 18)] (.ops [zo 9 (.alloc 13 zL2),zn (.store 13 9 19)])) (.block 1 (oN [zl 21 5,zo 22 (.load true 14 8),zo 23 (.load true 13 9),zo 24 (.call 21 [22,23]),zm 20 24,zo 25 (.extract 20 0),zo 26 (.extract 20 1),zm 10 25,zm 11 26] (oN [zm 27 11] (.cond 27 (oN [zm 28 10,zn (.store 1 6 28),zn (.store 1 7 (.const (.bool true)))] .ret) .skip))))))) (oN [zl 29 6,zn (.store 1 6 29),zn (.store 1 7 (.const (.bool false)))] .ret))))
def afV:CF:=λF T=>(oN [zo 2 (.box 1 0),zo 3 (.box 1 1),zo 4 (.mv (.const .nilFunc))] (oN [zo 5 (.mkfn (F 239) [] [2,3]),zm 4 5] .ret))
def afW:CF:=λF T=>(oN [zo 2 (.box 1 0),zo 3 (.box 1 1),zo 4 (.mv (.const .nilFunc))] (oN [zo 5 (.mkfn (F 240) [] [2,3]),zm 4 5] .ret))
def afY:CF:=λF T=>(oN [zl 11 1,zo 12 (.invoke 11 "Cards" []),zm 4 12] (oN [zl 13 1,zl 14 2,zo 15 (.invoke 13 "Having" [(zc 3),14]),zo 16 (.lenS 15),zo 17 (.mv (zc 0))] (.block 0 (.loop (oN [zo 18 (.arith .lss 17 16)] (.seq (.cond 18 .skip (.exit 0)) (.seq (.block 1 (oN [zo 19 (.iaddrS 1 15 17),zl 20 19,zm 6 20] (oN [zl 22 1,zm 23 6,zo 24 (.invoke 22 "Obj" [23]),zm 21 24,zo 25 (.extract 21 0),zo 26 (.extract 21 1),zo 7 (.alloc 14 dB),zn (.store 14 7 25),zm 8 26] (oN [zm 27 4,zf 28 1 7,zl 29 28,zo 30 (.iaddrS 11 27 29),zf 31 10 30,zl 32 31,zo 33 (.lenS 32),zo 34 (.mv (zc 0))] (.block 2 (.loop (oN [zo 35 (.arith .lss 34 33)] (.seq (.cond 35 .skip (.exit 2)) (.seq (.block 3 (oN [zm 36 34,zo 37 (.iaddrS 13 32 34),zo 38 (.load true 13 37),zo 10 (.alloc 13 zL2),zm 9 36,zn (.store 13 10 38)] (oN [zf 39 0 10,zl 40 39,zo 41 (.eql false .pi 40 (zc 3)),zm 42 41,zg 43 (.faddr 1 10) 42 true,zg 44 (.load false 1 43) 42 true,zg 45 (.load false 1 2) 42 true,zg 46 (.eql false .pi 44 45) 42 true,zo 47 (.pick 42 46 (.const (.bool false))),zm 48 47,zg 49 (.mv 0) 48 true,zg 50 (.load true 13 10) 48 true,zg 51 (.load true 14 7) 48 true,zg 52 (.mv 9) 48 true,zg 53 (.build zL4 [⟨0,⟨13,50⟩⟩,⟨13,⟨14,51⟩⟩,⟨27,⟨1,52⟩⟩]) 48 true,zg 54 (.call 49 [53]) 48 true,zg 55 (.un .not 54) 48 true,zo 56 (.pick 48 55 (.const (.bool false)))] (.cond 56 .ret .skip)))) (.ops [zo 57 (.arith .add 34 (zc 1)),zm 34 57])))))))))) (.ops [zo 58 (.arith .add 17 (zc 1)),zm 17 58]))))))))
def afZ:CF:=λF T=>(oN [zl 11 1,zo 12 (.invoke 11 "Cards" []),zm 4 12] (oN [zl 13 1,zl 14 2,zo 15 (.invoke 13 "Having" [(zc 5),14]),zo 16 (.lenS 15),zo 17 (.mv (zc 0))] (.block 0 (.loop (oN [zo 18 (.arith .lss 17 16)] (.seq (.cond 18 .skip (.exit 0)) (.seq (.block 1 (oN [zo 19 (.iaddrS 1 15 17),zl 20 19,zm 6 20] (oN [zl 22 1,zm 23 6,zo 24 (.invoke 22 "Obj" [23]),zm 21 24,zo 25 (.extract 21 0),zo 26 (.extract 21 1),zo 7 (.alloc 14 dB),zn (.store 14 7 25),zm 8 26] (.seq (oN [zm 27 8,zo 28 (.un .not 27),zm 29 28,zg 30 (.faddr 1 7) 29 false,zg 31 (.load false 1 30) 29 false,zg 32 (.arith .lss 31 (zc 0)) 29 false,zo 33 (.pick 29 (.const (.bool true)) 32),zm 34 33,zg 35 (.faddr 1 7) 34 false,zg 36 (.load false 1 35) 34 false,zg 37 (.mv 4) 34 false,zg 38 (.lenS 37) 34 false,zg 39 (.arith .geq 36 38) 34 false,zo 40 (.pick 34 (.const (.bool true)) 39)] (.cond 40 (.exit 1) .skip)) (oN [zm 41 4,zf 42 1 7,zl 43 42,zo 44 (.iaddrS 11 41 43),zf 45 10 44,zl 46 45,zo 47 (.lenS 46),zo 48 (.mv (zc 0))] (.block 2 (.loop (oN [zo 49 (.arith .lss 48 47)] (.seq (.cond 49 .skip (.exit 2)) (.seq (.block 3 (oN [zo 50 (.iaddrS 13 46 48),zo 51 (.load true 13 50),zo 10 (.alloc 13 zL2),zn (.store 13 10 51)] (oN [zf 52 0 10,zl 53 52,zo 54 (.eql false .pi 53 (zc 5)),zm 55 54,zg 56 (.faddr 1 10) 55 true,zg 57 (.load false 1 56) 55 true,zg 58 (.load false 1 2) 55 true,zg 59 (.eql false .pi 57 58) 55 true,zo 60 (.pick 55 59 (.const (.bool false))),zm 61 60,zg 62 (.mv 0) 61 true,zg 63 (.load true 14 7) 61 true,zg 64 (.load true 13 10) 61 true,zg 65 (.call 62 [63,64]) 61 true,zg 66 (.un .not 65) 61 true,zo 67 (.pick 61 66 (.const (.bool false)))] (.cond 67 .ret .skip)))) (.ops [zo 68 (.arith .add 48 (zc 1)),zm 48 68]))))))))))) (.ops [zo 69 (.arith .add 17 (zc 1)),zm 17 69]))))))))
def agd:CF:=λF T=>(oN [zo 4 (.box 1 1),zo 5 (.box 1 2),zo 6 (.mv (.const (.slice none 0 0)))] (oN [zm 7 0,zo 8 (.mkfn (F 348) [] [4,5]),oF F 9 109 [7,8],zm 6 9] .ret))
def age:CF:=λF T=>(oN [zo 4 (.box 14 0),zo 5 (.box 11 1),zo 6 (.mv (.const (.bool false)))] (oN [zf 7 10 5,zl 8 7,zo 9 (.mkfn (F 350) [] [2,3]),oF F 10 349 [8,9],zm 6 10] .ret))
def ag7:CF:=λF T=>(oN [zo 4 (.mv (.const (.bool false)))] (oN [zm 5 0,zm 6 1,oF F 7 351 [5,6],zo 8 (.arith .geq 7 (zc 0)),zm 4 8] .ret))
def agf:CF:=λF T=>(oN [zo 3 (.box 13 0),zo 4 (.mv (.const (.bool false)))] (oN [zf 5 0 3,zl 6 5,zl 7 1,zo 8 (.eql false .pi 6 7),zm 9 8,zg 10 (.faddr 1 3) 9 true,zg 11 (.load false 1 10) 9 true,zg 12 (.load false 1 2) 9 true,zg 13 (.eql false .pi 11 12) 9 true,zo 14 (.pick 9 13 (.const (.bool false))),zm 4 14] .ret))
def ag8:CF:=λF T=>(oN [zo 4 (.mv (zc 0))] (.seq (oN [zm 6 0,zo 7 (.lenS 6),zo 8 (.mv (zc 0))] (.block 0 (.loop (oN [zo 9 (.arith .lss 8 7)] (.seq (.cond 9 .skip (.exit 0)) (.seq (.block 1 (oN [zm 10 8,zm 5 10] (oN [zm 11 1,zm 12 0,zm 13 5,zo 14 (.iaddrS 13 12 13),zo 15 (.load true 13 14),zo 16 (.call 11 [15])] (.cond 16 (oN [zm 17 5,zm 4 17] .ret) .skip)))) (.ops [zo 18 (.arith .add 8 (zc 1)),zm 8 18]))))))) (oN [zo 4 (.mv (.const (.int .i64 (.negSucc 0))))] .ret)))
structure BaseQ (P:Program)(K:Orc)(F:Nat->FuncId)(T:Nat->TypeId):Prop where
 f109:FnK P K (F 109) 53 [(.tmp 4)] (afH F T)
 f128:FnK P K (F 128) 25 [] (afM F T)
 f131:FnK P K (F 131) 17 [(.tmp 6)] (afP F T)
 f176:FnK P K (F 176) 60 [(.tmp 8)] (afQ F T)
 f182:FnK P K (F 182) 30 [(.cell 6<|T 3),(.cell 7<|T 4)] (afU F T)
 f211:FnK P K (F 211) 6 [(.tmp 4)] (afV F T)
 f213:FnK P K (F 213) 6 [(.tmp 4)] (afW F T)
 f239:FnK P K (F 239) 59 [] (afY F T)
 f240:FnK P K (F 240) 70 [] (afZ F T)
 f346:FnK P K (F 346) 10 [(.tmp 6)] (agd F T)
 f348:FnK P K (F 348) 11 [(.tmp 6)] (age F T)
 f349:FnK P K (F 349) 9 [(.tmp 4)] (ag7 F T)
 f350:FnK P K (F 350) 15 [(.tmp 4)] (agf F T)
 f351:FnK P K (F 351) 19 [(.tmp 4)] (ag8 F T)
def af4:CF:=λF T=>(oN [zo 3 (.box 13 1)] (.ops [zm 4 0,zf 5 3 3,zl 6 5,zo 7 (.eql false .pi 6 (zc 1)),zo 8 (.nilchk 4),zf 9 12 8,zn (.store 1 9 7)]))
def af5:CF:=λF T=>(oN [zo 3 (.box 13 1)] (.drawn 0 [zp (zm 4 0) 0,zp (zm 5 0) 0,zp (zo 6 (.nilchk 5)) 2,zp (zf 7 8 6) 6,zr (zl 8 7) 0 0 14,zp (zf 9 3 3) 0,zr (zl 10 9) 0 0 32,zp (zo 11 (.arith .add 8 10)) 126,zh (oF F 12 254 [11]) 254,zp (zo 13 (.nilchk 4)) 511,zp (zf 14 8 13) 1023,zh (zn (.store 1 14 12)) 2047]))
def af6:CF:=λF T=>(oN [zo 2 (.mv (zc 0))] (oN [zm 3 0,zo 4 (.minmax true [3,(.const (.int .i64 (.negSucc 998)))]),zo 5 (.minmax false [4,(zc 999)]),zm 2 5] .ret))
def af8:CF:=λF T=>(oN [zo 3 (.box 13 1)] (.ops [zm 4 0,zf 5 2 3,zl 6 5,zo 7 (.nilchk 4),zf 8 11 7,zn (.store 1 8 6)]))
def af9:CF:=λF T=>(oN [zo 3 (.box 13 1)] (.drawn 0 [zp (zm 4 0) 0,zp (zm 5 0) 0,zp (zo 6 (.nilchk 5)) 2,zp (zf 7 0 6) 6,zr (zl 8 7) 0 0 14,zp (zf 9 3 3) 0,zr (zl 10 9) 0 0 32,zp (zo 11 (.arith .add 8 10)) 126,zh (oF F 12 254 [11]) 254,zp (zo 13 (.nilchk 4)) 511,zp (zf 14 0 13) 1023,zh (zn (.store 1 14 12)) 2047]))
structure BaseR (P:Program)(K:Orc)(F:Nat->FuncId)(T:Nat->TypeId):Prop where
 f252:FnK P K (F 252) 10 [] (af4 F T)
 f253:FnK P K (F 253) 15 [] (af5 F T)
 f254:FnK P K (F 254) 6 [(.tmp 2)] (af6 F T)
 f258:FnK P K (F 258) 9 [] (af8 F T)
 f266:FnK P K (F 266) 15 [] (af9 F T)
section
variable {P:Program}{K:Orc}{rd:Option Nat}{nt:Nat}{l:Sl}{ds:List aD}{s:SH}{Q Qn Qr:Po}{Qe:Nat->Po}{F:Nat->FuncId}{T:Nat->TypeId}{bf bl:Nat}{aZ bE:AV}{c0 c1 c2 c3 c4:Int}{EL:List (List AV)}{d:SD}{t:SH}{tF:TypeId}{g:ED->CH->CH}{C:List CD}{tl:AD->List Nat}
theorem abe (hX:BaseY P K F T){x:BT}{k:Int}:bB P K (F 80) [.agg x.row,iv k] s (λw s'=>w=.bool (!qa k x.c.k)/\∃m,s'=m++s):=by
 refine hX.f80.dT ?_
 unfold a80
 obtain⟨n,hn1,hn2⟩:=abN x.c.k k
 have hn0:eqBy 20 .pi (iv n) (iv 0)=some (qa k x.c.k):=by rw[bb,<- hn2]
 refine Wq<|Wa (.box rfl rfl) λb2=>Wv rfl<|Wn ?_
 refine Wq<|Wf rfl<|Wf rfl<|Wl rfl .here rfl rfl rfl<|Wv rfl<|Wj rfl rfl hn1<|Wh rfl rfl hn0<|Wv rfl<|Wn<|We<|Wm (.tmp rfl .nil) ?_
 exact⟨rfl,[_],rfl⟩
def aae (ac:Int)(x:BT):Bool:=decide (x.o.aQ=ac)&&(decide (x.o.NP=0)&&(!x.o.RU&&(qa 4 x.c.k&&(!x.o.VK || !qa 2 x.c.k))))
theorem acQ (hX:BaseY P K F T)(hP:BaseP P K F T){x:BT}{ac:Int}{b3:Nat}(h3:Has b3 (.r false [[iv ac]] 1) s):bB P K (F 125) [.agg x.row,.ptr (some ⟨b3,0,0⟩)] s (λw s'=>w=.bool (aae ac x)/\∃m,s'=m++s):=by
 refine hP.f125.dT ?_
 unfold afJ aae
 have hct:eqBy 20 .pi (iv x.o.aQ) (iv ac)=some (decide<|x.o.aQ=ac):=bb _ _
 have hat:eqBy 20 .pi (iv x.o.NP) (iv 0)=some (decide<|x.o.NP=0):=bb _ _
 have ht:∀b,x.o.RU=b->bV 1 (cu 5 x.row)=some [.bool b]:=λb h=>by show some [AV.bool x.o.RU]=_;rw[h]
 have hs:∀b,x.o.VK=b->bV 1 (cu 6 x.row)=some [.bool b]:=λb h=>by show some [AV.bool x.o.VK]=_;rw[h]
 cases h1:decide (x.o.aQ=ac) with
 | false=>
  rw[h1]at hct
  refine Wq<|Wa (.box rfl rfl) λb2=>Wv rfl<|Wn ?_
  refine Wq<|Wf rfl<|Wf rfl<|Wl rfl .here rfl rfl rfl<|Wl rfl (.there h3) rfl rfl rfl<|Wh rfl rfl hct<|Wv rfl<|Wk<|Wk<|Wk<|Wk<|Wr (.bj rfl rfl)<|Wv rfl<|Wk<|Wk<|Wk<|Wk<|Wr (.bj rfl rfl)<|Wv rfl<|Wk<|Wk<|Wk<|Wr (.bj rfl rfl)<|Wv rfl<|Wk<|Wk<|Wk<|Wk<|Wk<|Wu rfl<|Wu rfl<|Wk<|Wr (.bj rfl rfl)<|Wv rfl<|Wn<|We<|Wm (.tmp rfl .nil) ?_
  exact⟨rfl,[_],rfl⟩
 | true=>
  rw[h1]at hct
  cases h2:decide (x.o.NP=0) with
  | false=>
   rw[h2]at hat
   refine Wq<|Wa (.box rfl rfl) λb2=>Wv rfl<|Wn ?_
   refine Wq<|Wf rfl<|Wf rfl<|Wl rfl .here rfl rfl rfl<|Wl rfl (.there h3) rfl rfl rfl<|Wh rfl rfl hct<|Wv rfl<|Wy<|Wf rfl<|Wy<|Wf rfl<|Wy<|Wl rfl .here rfl rfl rfl<|Wy<|Wh rfl rfl hat<|Wr (.cV rfl rfl)<|Wv rfl<|Wk<|Wk<|Wk<|Wk<|Wr (.bj rfl rfl)<|Wv rfl<|Wk<|Wk<|Wk<|Wr (.bj rfl rfl)<|Wv rfl<|Wk<|Wk<|Wk<|Wk<|Wk<|Wu rfl<|Wu rfl<|Wk<|Wr (.bj rfl rfl)<|Wv rfl<|Wn<|We<|Wm (.tmp rfl .nil) ?_
   exact⟨rfl,[_],rfl⟩
  | true=>
   rw[h2]at hat
   cases h4:x.o.RU with
   | true=>
    have Se:=ht _ h4
    refine Wq<|Wa (.box rfl rfl) λb2=>Wv rfl<|Wn ?_
    refine Wq<|Wf rfl<|Wf rfl<|Wl rfl .here rfl rfl rfl<|Wl rfl (.there h3) rfl rfl rfl<|Wh rfl rfl hct<|Wv rfl<|Wy<|Wf rfl<|Wy<|Wf rfl<|Wy<|Wl rfl .here rfl rfl rfl<|Wy<|Wh rfl rfl hat<|Wr (.cV rfl rfl)<|Wv rfl<|Wy<|Wf rfl<|Wy<|Wf rfl<|Wy<|Wl rfl .here rfl Se rfl<|Wy<|Wr (.un rfl rfl)<|Wr (.cV rfl rfl)<|Wv rfl<|Wk<|Wk<|Wk<|Wr (.bj rfl rfl)<|Wv rfl<|Wk<|Wk<|Wk<|Wk<|Wk<|Wu rfl<|Wu rfl<|Wk<|Wr (.bj rfl rfl)<|Wv rfl<|Wn<|We<|Wm (.tmp rfl .nil) ?_
    exact⟨rfl,[_],rfl⟩
   | false=>
    have Se:=ht _ h4
    refine Wq<|Wa (.box rfl rfl) λb2=>Wv rfl<|Wn ?_
    refine Wq<|Wf rfl<|Wf rfl<|Wl rfl .here rfl rfl rfl<|Wl rfl (.there h3) rfl rfl rfl<|Wh rfl rfl hct<|Wv rfl<|Wy<|Wf rfl<|Wy<|Wf rfl<|Wy<|Wl rfl .here rfl rfl rfl<|Wy<|Wh rfl rfl hat<|Wr (.cV rfl rfl)<|Wv rfl<|Wy<|Wf rfl<|Wy<|Wf rfl<|Wy<|Wl rfl .here rfl Se rfl<|Wy<|Wr (.un rfl rfl)<|Wr (.cV rfl rfl)<|Wv rfl<|Wy<|Wl (cs:=BT.row x) rfl .here rfl rfl rfl<|Wy ?_
    refine Ww<|W1 (abe hX) ?_
    rintro _ _ ⟨rfl,m1,rfl⟩
    cases h5:qa 4 x.c.k with
    | false=>
     refine Wy<|Wr (.un rfl rfl)<|Wr (.cV rfl rfl)<|Wv rfl<|Wk<|Wk<|Wk<|Wk<|Wk<|Wu rfl<|Wu rfl<|Wk<|Wr (.bj rfl rfl)<|Wv rfl<|Wn<|We<|Wm (.tmp rfl .nil) ?_
     exact⟨rfl,m1++[(b2,.r false [x.row] 17)],by simp⟩
    | true=>
     cases h6:x.o.VK with
     | false=>
      have hsd:=hs _ h6
      refine Wy<|Wr (.un rfl rfl)<|Wr (.cV rfl rfl)<|Wv rfl<|Wy<|Wf rfl<|Wy<|Wf rfl<|Wy<|Wl rfl (.app .here) rfl hsd rfl<|Wy<|Wr (.un rfl rfl)<|Wy<|Wv rfl<|Wk<|Wk<|Wy<|Wr (.cV rfl rfl)<|Wr (.cV rfl rfl)<|Wv rfl<|Wn<|We<|Wm (.tmp rfl .nil) ?_
      exact⟨rfl,m1++[(b2,.r false [x.row] 17)],by simp⟩
     | true=>
      have hsd:=hs _ h6
      refine Wy<|Wr (.un rfl rfl)<|Wr (.cV rfl rfl)<|Wv rfl<|Wy<|Wf rfl<|Wy<|Wf rfl<|Wy<|Wl rfl (.app .here) rfl hsd rfl<|Wy<|Wr (.un rfl rfl)<|Wy<|Wv rfl<|Wy<|Wl (cs:=BT.row x) rfl (.app .here) rfl rfl rfl<|Wy ?_
      refine Ww<|W1 (abe hX) ?_
      rintro _ _ ⟨rfl,m2,rfl⟩
      refine Wy<|Wr (.bj rfl rfl)<|Wr (.cV rfl rfl)<|Wv rfl<|Wn<|We<|Wm (.tmp rfl .nil) ?_
      exact⟨rfl,m2++(m1++[(b2,.r false [x.row] 17)]),by simp⟩
theorem aas (hE:GE P K F T tF g C d)(hP:BaseP P K F T)(hs:aH bl EL d t s)(hf:Has bf (.r false [bu bl aZ c0 c1 c2 c3 c4 bE] 8) t){p:Nat}{o:LD}(hp:d.pl[p]?=some o) :
  bB P K (F 126) [gm tF bf,iv<|.ofNat p] s (λw s'=>w=.bool (!o.f2)/\aH bl EL d t s'):=by
 have hlt:binV .lss (iv<|.ofNat p) (iv<|.ofNat d.pl.length)=some (.bool true):=by
  rw[eT];exact congrArg (λb=>some<|AV.bool b)<|decide_eq_true<|Int.ofNat_lt.2 (List.getElem?_eq_some_iff.1 hp).1
 refine hP.f126.dT ?_
 unfold afK
 refine Wq<|Wv rfl<|Wn ?_
 refine Wq<|Wv rfl<|Wj (v:=.bool true) rfl rfl rfl<|Wv rfl<|Wy<|Wv rfl<|Wy<|Wv rfl<|Wy ?_
 refine Ww<|WS.invoke (vs:=[]) rfl (hE.hM.yd ) rfl ( tV hE.hB hE.hG hs hE.hd hf) ?_
 rintro _ s2 ⟨rfl,dt⟩
 refine Wy<|Wj rfl rfl hlt<|Wr (.cV rfl rfl)<|Wv rfl<|Wy<|Wv rfl<|Wy<|Wv rfl<|Wy ?_
 refine Ww<|WS.invoke (vs:=[iv (Int.ofNat p)]) rfl (hE.hM.RD ) rfl ( Ar hE.hB hE.hC hE.hT dt hE.hd hf hp) ?_
 rintro _ s3 ⟨rfl,gw⟩
 refine Wy<|Wr (.fld rfl rfl)<|Wy<|Wr (.un rfl rfl)<|Wr (.cV rfl rfl)<|Wv rfl<|Wn<|We<|Wm (.tmp rfl .nil) ?_
 exact⟨rfl,gw⟩
def aan (ac p:Nat)(L:List BT):List OT:=(L.filter (aae (.ofNat ac))).map λx=>⟨9,x.o.id,.ofNat p⟩
@[reducible] def agi:AC:=(.ops [zo 7 (.alloc 17 aai),zn (.store 17 7 20)])
@[reducible] def agj (F:Nat->FuncId):AC:=(.block 1 (oN [zo 8 (.mv (zc 1))] (.block 2 (.loop (.seq (oN [zm 21 8,zl 22 4,zo 23 (.arith .lss 21 22),zm 24 23,zg 25 (.load false 1 5) 24 true,zg 26 (.load true 17 7) 24 true,zg 27 (.call 25 [26]) 24 true,zo 28 (.pick 24 27 (.const (.bool false)))] (.cond (.tmp 28) .skip (.exit 2))) (.seq (.block 3 (oN [zl 31 3,zm 32 8,zo 33 (.arith .add 31 32),zl 34 4,zo 35 (.arith .rem 33 34),zm 9 35] (oN [zl 36 1,zm 37 9,oF F 38 126 [36,37]] (.cond (.tmp 38) (.ops [zl 39 6,zf 40 0 7,zf 41 0 40,zl 42 41,zm 43 9,zo 44 (.build [(za 0),(za 0),(za 0)] [⟨0,⟨1,(zc 9)⟩⟩,⟨1,⟨1,42⟩⟩,⟨2,⟨1,43⟩⟩]),zo 45 (.bslice 3 1 [(za 0),(za 0),(za 0)] [⟨0,44⟩]),zo 46 (.append 3 24 39 45),zn (.store 1 6 46)]) .skip)))) (.ops [zm 29 8,zo 30 (.arith .add 29 (zc 1)),zm 8 30])))))))
theorem acz (ac p:Nat)(L:List BT)(x:BT):aan ac p (L++[x])=aan ac p L++if aae (.ofNat ac) x then [⟨9,x.o.id,.ofNat p⟩]else []:=by
 unfold aan
 rw[List.filter_append,List.map_append]
 congr 1
 rw[List.filter_cons]
 cases aae (.ofNat ac) x<;>rfl
theorem abq (ac p:Nat)(L:List BT):(aan ac p L).length<=L.length:=by
 unfold aan
 rw[List.length_map]
 exact List.length_filter_le ..
theorem aed (hE:GE P K F T tF g C d)(hX:BaseY P K F T)(hP:BaseP P K F T){lb D b1 b3 b4 b5 b6:Nat}{l1:Sl}{asg body:Code}{W:SH}(ha:cc P 48 asg=agi)(hb:cc P 48 body=agj F){p0 p1:LD}(uA:d.pl=[p0,p1])(YR:p1.f2=false)
  (e1:lk l1 1=some (.ptr<|some ⟨b1,0,0⟩)) (e3:lk l1 3=some (.ptr<|some ⟨b3,0,0⟩)) (e4:lk l1 4=some (.ptr<|some ⟨b4,0,0⟩)) (e5:lk l1 5=some (.ptr<|some ⟨b5,0,0⟩)) (e6:lk l1 6=some (.ptr<|some ⟨b6,0,0⟩))
  (h1:Has b1 (.r false [[gm tF bf]] 1) W) (h3:Has b3 (.r false [[iv (.ofNat 0)]] 1) W) (h4:Has b4 (.r false [[iv (.ofNat 2)]] 1) W) (h5:Has b5 (.r false [[.func (F 125) [] [.ptr (some ⟨b3,0,0⟩)]]] 1) W) (hf:Has bf (.r false [bu bl aZ c0 c1 c2 c3 c4 bE] 8) W) :
  ac8 P K bl EL d (.yield lb) (λL t=>aal b6 ((lb,.lp l1 48 [20] asg body .ready none D)::W) (aan 0 1 L) t):=by
 refine⟨λL t s y m hL hJ hs=>?_⟩
 obtain⟨lv,og,j,hpm,hG⟩:=hJ
 obtain⟨u,hu,ot⟩:=hs.split
 refine c6.perm (s:=(lb,.lp l1 48 [20] asg body .ready none D)::(u++(m++((b6,.r false [[lv]] 1)::(og++(j++W)))))) (ak λc w h0 h1 h2 hq=>by have:=hq _ _ hu;simp only[h1,h2,hq _ _ hpm]at this |-;omega)<|c6.canon ?_
 refine AU (by omega) ha hb ?_
 unfold agi agj
 refine Wo<|Wa (.alloc rfl) λb7=>Ww<|Wt (s':=(b7,.r false [BT.row y] 17)::_) rfl rfl rfl .here rfl rfl<|Wn ?_
 refine⟨(b7,.r false [y.row] 17)::(u++(m++((b6,.r false [[lv]] 1)::(og++(j++W))))),List.Perm.swap ..,?_⟩
 have aaM:=acz 0 1 L y
 have Uy:=abq 0 1 L
 generalize hX0:(lb,HO.lp l1 48 [20] asg body .busy none D)=lb0
 refine WP.pre (s':=u++(lb0::(b7,.r false [y.row] 17)::(m++((b6,.r false [[lv]] 1)::(og++(j++W)))))) (ak λc w h0 h1 h2 hq=>by subst hX0;simp only[h1,h2];omega) ?_
 have hs0:aH bl EL d (lb0::(b7,.r false [y.row] 17)::(m++((b6,.r false [[lv]] 1)::(og++(j++W))))) (u++(lb0::(b7,.r false [y.row] 17)::(m++((b6,.r false [[lv]] 1)::(og++(j++W)))))):=ot _
 have fin:∀{s9:SH}{nw:AV}{A9 j2:SH},aH bl EL d (lb0::(b7,.r false [y.row] 17)::(m++((b6,.r false [[nw]] 1)::(A9++(j2++W))))) s9->GrE 3 nw (otR<|aan 0 1<|L++[y]) A9 ->
   ∃t3,s9.Perm (lb0::t3)/\∃s'',((lb,.lp l1 48 [20] asg body .ready none D)::t3).Perm s''/\((AV.bool true)=.bool true/\∃t',aH bl EL d (m++t') s''/\aal b6 ((lb,.lp l1 48 [20] asg body .ready none D)::W) (aan 0 1<|L++[y]) t'):=by
  intro s9 nw A9 j2 h9 xB
  obtain⟨u9,hu9,afc⟩:=h9.split
  refine⟨u9++((b7,.r false [y.row] 17)::(m++((b6,.r false [[nw]] 1)::(A9++(j2++W))))),ak λc w h0 h1 h2 hq=>by have:=hq _ _ hu9;subst hX0;simp only[h1,h2]at this |-;omega,u9++(m++((b6,.r false [[nw]] 1)::(A9++(((b7,.r false [y.row] 17)::j2)++((lb,.lp l1 48 [20] asg body .ready none D)::W))))),zt,rfl,_,afc _,nw,A9,(b7,.r false [y.row] 17)::j2,.refl _,xB⟩
 refine Wg (l':=[(1,.ptr<|some ⟨b1,0,0⟩),(3,.ptr<|some ⟨b3,0,0⟩),(4,.ptr<|some ⟨b4,0,0⟩),(5,.ptr<|some ⟨b5,0,0⟩),(6,.ptr<|some ⟨b6,0,0⟩),(7,.ptr<|some ⟨b7,0,0⟩)]) (aa e1<|aa e3<|aa e4<|aa e5<|aa e6<|bq rfl) (λ_ _ h=>h) ?_
 refine Wb<|Wq<|Wv rfl<|Wn<|Wb ?_
 refine WP.dA ?_
 refine Ws<|Wq<|Wv rfl<|Wl rfl (.app<|.there<|.there<|.app<|.there<|.app<|.app h4) rfl rfl rfl<|Wj rfl rfl (eT _ _)<|Wv rfl<|Wy<|Wl rfl (.app<|.there<|.there<|.app<|.there<|.app<|.app h5) rfl rfl rfl<|Wy<|Wl (cs:=BT.row y) rfl (.app<|.there .here) rfl rfl rfl<|Wy ?_
 refine Ww<|Wc (first:=[]) (vs:=[AV.agg (BT.row y)]) (cap:=[AV.ptr (some<|Pl.mk b3 0 0)]) rfl rfl (acQ hX hP<|.app<|.there<|.there<|.app<|.there<|.app<|.app h3) ?_
 rintro _ _ ⟨rfl,m1,rfl⟩
 have nr:aH bl EL d (lb0::(b7,.r false [y.row] 17)::(m++((b6,.r false [[lv]] 1)::(og++(j++W))))) (m1++(u++(lb0::(b7,.r false [y.row] 17)::(m++((b6,.r false [[lv]] 1)::(og++(j++W))))))):=hs0.bK
 generalize m1++(u++(lb0::(b7,.r false [y.row] 17)::(m++((b6,.r false [[lv]] 1)::(og++(j++W))))))=s1 at nr |-
 cases hm:aae (.ofNat 0) y with
 | false=>
  rw[hm]at aaM
  refine Wr (.cV rfl rfl)<|Wn<|Wd rfl fS<|λ_=>Wx ?_
  refine fin nr ?_
  rw[aaM]
  simpa using hG
 | true=>
  rw[hm]at aaM
  refine Wr (.cV rfl rfl)<|Wn<|Wd rfl (λ_=>Wi ?_) Dz
  refine Ws<|Wb<|Wq<|Wl rfl (nr.mem<|.there<|.there<|.app<|.there<|.app<|.app h3) rfl rfl rfl<|Wv rfl<|Wj rfl rfl (bM<|by omega)<|Wl rfl (nr.mem<|.there<|.there<|.app<|.there<|.app<|.app h4) rfl rfl rfl<|Wj rfl rfl rfl<|Wv rfl<|Wn ?_
  refine Wq<|Wl rfl (nr.mem<|.there<|.there<|.app<|.there<|.app<|.app h1) rfl rfl rfl<|Wv rfl ?_
  refine Ww<|W1 (aas hE hP nr (.there<|.there<|.app<|.there<|.app<|.app hf) (p:=1) (o:=p1) (by rw[uA];rfl)) ?_
  rintro _ s2 ⟨rfl,dt⟩
  rw[YR]
  obtain⟨u2,hu2,RO⟩:=dt.split
  refine Wn<|Wd rfl (λ_=>Wo<|Wl rfl (dt.mem<|.there<|.there<|.app .here) rfl rfl rfl<|Wf rfl<|Wf rfl<|Wl rfl (dt.mem<|.there .here) rfl rfl rfl<|Wv rfl<|Wr (.build (cs:=(⟨9,y.o.id,.ofNat 1⟩:OT).row) rfl rfl)<|Wa (.bslice (fZ rfl rfl) rfl) λb45=>?_) Dz
  refine Ww<|WS.pre (s':=((b45,.r false [(⟨9,y.o.id,.ofNat 1⟩:OT).row] 3)::(u2++(lb0::(b7,.r false [y.row] 17)::(b6,.r false [[lv]] 1)::m)))++(og++(j++W))) (ak λc w h0 h1 h2 hq=>by have:=hq _ _ hu2;simp only[h1,h2]at this |-;omega)<|WS.N9 (xv:=.slice (some ⟨b45,0,0⟩) 1 1 false 3) rfl hG rfl (Src.all (L:=[(⟨9,y.o.id,.ofNat 1⟩:OT).row]) .here) (by decide) (by simp only[otR,List.length_map,List.length_cons,List.length_nil];omega) (by decide) λnw A9 jk xB=>?_
  refine Ww<|Wt (s':=A9++(((b45,.r false [(⟨9,y.o.id,.ofNat 1⟩:OT).row] 3)::(u2++(lb0::(b7,.r false [y.row] 17)::(b6,.r false [[nw]] 1)::m)))++(jk++(j++W)))) (row':=[nw]) rfl rfl xB.out.src.part (.app<|.left<|.there<|.app<|.there<|.there .here) rfl rfl<|Wn ?_
  have gw:aH bl EL d (lb0::(b7,.r false [y.row] 17)::(m++((b6,.r false [[nw]] 1)::(A9++(((b45,.r false [(⟨9,y.o.id,.ofNat 1⟩:OT).row] 3)::(jk++j))++W))))) (A9++(((b45,.r false [(⟨9,y.o.id,.ofNat 1⟩:OT).row] 3)::(u2++(lb0::(b7,.r false [y.row] 17)::(b6,.r false [[nw]] 1)::m)))++(jk++(j++W)))):=(RO _).perm (zt)
  generalize A9++(((b45,.r false [(⟨9,y.o.id,.ofNat 1⟩:OT).row] 3)::(u2++(lb0::(b7,.r false [y.row] 17)::(b6,.r false [[nw]] 1)::m)))++(jk++(j++W)))=s3 at gw |-
  refine Wo<|Wv rfl<|Wj rfl rfl (bM<|by omega)<|Wv rfl<|Wn ?_
  refine WP.dA ?_
  refine Ws<|Wq<|Wv rfl<|Wl rfl (gw.mem<|.there<|.there<|.app<|.there<|.app<|.app h4) rfl rfl rfl<|Wj rfl rfl (eT _ _)<|Wv rfl<|Wk<|Wk<|Wk<|Wr (.bj rfl rfl)<|Wn<|Wd rfl fS<|λ_=>Wx ?_
  refine fin gw ?_
  rw[aaM]
  simpa[otR]using xB
theorem abc (hE:GE P K F T tF g C d)(hX:BaseY P K F T)(hP:BaseP P K F T)(hf:Has bf (.r false [bu bl aZ c0 c1 c2 c3 c4 bE] 8) t)(eQ:cI t aZ C)(hs:aH bl EL d t s){p0 p1:LD}(uA:d.pl=[p0,p1])(YR:p1.f2=false)(hac:d.ac=0)(hn4:d.fi.length<=400)(hall:∀id∈d.fi,∃o,d.obj id=some o) :
  bB P K (F 82) [gm tF bf] s (λv s'=>∃m,aH bl EL d (m++t) s'/\Src m 3 v (otR<|aan 0 1<|eb g d C d.fi)):=by
 refine hP.f82.ZH ?_
 unfold a82
 refine Wq<|Wa (.box rfl rfl) λb1=>Wv rfl<|Wn ?_
 refine Ws<|Wq<|Wl rfl .here rfl rfl rfl<|Wh (b:=false) rfl rfl rfl<|Wn<|Wd rfl fS<|λ_=>Wi ?_
 refine Ws<|WP.ae2 λMq bd2=>Dl rfl .nil (.load rfl (.there<|.there .here) rfl rfl rfl) ?_
 have nr:aH bl EL d ((Mq,.gone)::(bd2,.gone)::(b1,.r false [[gm tF bf]] 1)::t) ((Mq,.gone)::(bd2,.gone)::(b1,.r false [[gm tF bf]] 1)::s):=hs.cons.cons.cons
 refine Dc .nil<|WS.invoke (vs:=[]) rfl (hE.info ) rfl ( aeu hE.hB hE.hI hE.t128 nr hE.hd (.there<|.there<|.there hf)) ?_
 rintro _ s2 ⟨rfl,dt⟩
 refine Dp (.fld rfl rfl)<|WD.lk rfl .nil (.load rfl (dt.mem<|.there<|.there .here) rfl rfl rfl) ?_
 refine Dc .nil<|WS.perm<|WS.invoke (vs:=[]) rfl (hE.hM.yd ) rfl ( tV hE.hB hE.hG dt hE.hd (.there<|.there<|.there hf)) ?_
 rintro _ s3 ⟨rfl,gw⟩
 obtain⟨u3,hu3,afb⟩:=gw.split
 refine⟨_,hu3,?_⟩
 refine WD.al (.alloc rfl) rfl<|WD.al (.alloc rfl) rfl ?_
 rw[hac,uA]
 refine Dc (.yes (show bit 127 6=true from rfl) rfl (.app<|.there .here)<|.yes (show bit 127 5=true from rfl) rfl (.app .here) .nil)<|Wt (s':=u3++((Mq,.r false [[iv (.ofNat 0)]] 1)::(bd2,.r false [[iv 0]] 1)::(b1,.r false [[gm tF bf]] 1)::t)) rfl rfl rfl (.app .here) rfl rfl ?_
 refine Dc .nil<|Wt (s':=u3++((Mq,.r false [[iv (.ofNat 0)]] 1)::(bd2,.r false [[iv (.ofNat 2)]] 1)::(b1,.r false [[gm tF bf]] 1)::t)) rfl rfl rfl (.app<|.there .here) rfl rfl<|D0 .nil ?_ ?_
 rotate_left
 ·intro o ho
  rw[List.mem_singleton.1 ho]
  refine⟨(λi hi=>by simp at hi;rcases hi with rfl | rfl<;>first | exact(show bit 0 6=false from rfl) | exact(show bit 0 5=false from rfl)),Nat.zero_le _,by simp[dz,sameN,same0],λk _ hk=>?_⟩
  rcases cD hk with rfl|rfl
  ·exact⟨_,rfl,.load rfl (.there<|.there .here) rfl rfl rfl⟩
  ·exact⟨_,rfl,.load rfl (dt.mem<|.there<|.there .here) rfl rfl rfl⟩
 refine Wq<|Wr (.mkfn rfl rfl)<|Wa (.alloc rfl) λb5=>Ww<|Wt (s':=(b5,.r false [[AV.func (F 125) [] [AV.ptr (some<|Pl.mk Mq 0 0)]]] 1)::_) rfl rfl rfl .here rfl rfl<|Wn ?_
 refine Wq<|Wa (.alloc rfl) λb6=>Wn ?_
 refine Ws<|Wq<|Wl rfl (.there<|.there<|.app<|.there<|.there .here) rfl rfl rfl ?_
 refine Ww<|W1 (Az hX rfl) ?_
 rintro _ _ ⟨b8,rfl,rfl⟩
 refine Wn<|Wb<|Wg (l':=[(1,.ptr<|some ⟨b1,0,0⟩),(3,.ptr<|some ⟨Mq,0,0⟩),(4,.ptr<|some ⟨bd2,0,0⟩),(5,.ptr<|some ⟨b5,0,0⟩),(6,.ptr<|some ⟨b6,0,0⟩),(19,.func (F 124) [] [.ptr (some ⟨b8,0,0⟩)])]) (bq rfl) (λ_ _ h=>h) ?_
 generalize hl1:[(1,AV.ptr<|some ⟨b1,0,0⟩),(3,AV.ptr<|some ⟨Mq,0,0⟩),(4,AV.ptr<|some ⟨bd2,0,0⟩),(5,AV.ptr<|some ⟨b5,0,0⟩),(6,AV.ptr<|some ⟨b6,0,0⟩),(19,AV.func (F 124) [] [.ptr (some ⟨b8,0,0⟩)])]=l1
 refine WP.rf (first:=[]) (cap:=[.ptr (some ⟨b8,0,0⟩)]) (by rw[<- hl1];rfl) λasg body ha hb D lb=>?_
 generalize hW:(D,HO.ob bv.deferred)::(b8,HO.r false [[gm tF bf]] 1)::(b5,HO.r false [[AV.func (F 125) [] [.ptr (some ⟨Mq,0,0⟩)]]] 1)::(Mq,HO.r false [[iv (.ofNat 0)]] 1)::(bd2,HO.r false [[iv (.ofNat 2)]] 1)::(b1,HO.r false [[gm tF bf]] 1)::t=W
 have hY:=aed (bl:=bl) (EL:=EL) (K:=K) (lb:=lb) (D:=D) (b1:=b1) (b3:=Mq) (b4:=bd2) (b5:=b5) (b6:=b6) (l1:=l1) (asg:=asg) (body:=body) (W:=W) hE hX hP ha hb uA YR (by rw[<- hl1];rfl) (by rw[<- hl1];rfl) (by rw[<- hl1];rfl) (by rw[<- hl1];rfl) (by rw[<- hl1];rfl)
  (by rw[<- hW];exact .there<|.there<|.there<|.there<|.there .here) (by rw[<- hW];exact .there<|.there<|.there .here) (by rw[<- hW];exact .there<|.there<|.there<|.there .here) (by rw[<- hW];exact .there<|.there .here) (by rw[<- hW];exact .there<|.there<|.there<|.there<|.there<|.there hf)
 have hI:=t6 (bl:=bl) (EL:=EL) (t:=W) hE hX (by rw[<- hW];exact .there<|.there<|.there<|.there<|.there<|.there hf) (eQ.mono λq hq=>by rw[<- hW];simp[hq]) (by rw[<- hW];exact .there .here) hn4 hall
 generalize eb g d C d.fi=LL at hY hI |-
 have hs0:aH bl EL d ((b6,.r false [[nilS]] 1)::([]++([]++((lb,.lp l1 48 [20] asg body .ready none D)::W)))) ((lb,.lp l1 48 [20] asg body .ready none D)::(D,.ob .deferred)::(b8,.r false [[gm tF bf]] 1)::(b6,.r false [[nilS]] 1)::(b5,.r false [[.func (F 125) [] [.ptr (some ⟨Mq,0,0⟩)]]] 1)::(u3++((Mq,.r false [[iv (.ofNat 0)]] 1)::(bd2,.r false [[iv (.ofNat 2)]] 1)::(b1,.r false [[gm tF bf]] 1)::t))):=(afb _).perm (ak λc w h0 h1 h2 hq=>by subst hW;simp only[h1,h2,h0];omega)
 refine bB.canon<|(hI (.yield lb) _ _ _ hY (λL t2 h q hq=>h.sub q<|.tail _ hq) ⟨nilS,[],[],.refl _,.nil⟩ hs0).post ?_
 rintro _ s9 ⟨t9,hs9,nw,A9,j2,Gu,xB⟩
 obtain⟨u2,hu2,RO⟩:=(hs9.tT Gu).split
 refine⟨(lb,.lp l1 48 [20] asg body .ready none D)::(u2++((b6,.r false [[nw]] 1)::(A9++(j2++W)))),ak (λc w h0 h1 h2 hq=>by have:=hq _ _ hu2;simp only[h1,h2]at this |-;omega),l1,.ready,none,_,rfl,(λh=>LoopState.noConfusion h),?_⟩
 subst hl1
 refine Wq<|Wl rfl (.there<|.app .here) rfl rfl rfl<|Wv rfl<|Wn<|We ?_
 subst hW
 refine⟨[D],(lb,.gone)::(u2++((b6,.r false [[nw]] 1)::(A9++(j2++((b8,.r false [[gm tF bf]] 1)::(b5,.r false [[.func (F 125) [] [.ptr (some ⟨Mq,0,0⟩)]]] 1)::(Mq,.r false [[iv (.ofNat 0)]] 1)::(bd2,.r false [[iv (.ofNat 2)]] 1)::(b1,.r false [[gm tF bf]] 1)::t))))),rfl,ak (λc w h0 h1 h2 hq=>by simp only[h1,h2,h0,List.map_cons,List.map_nil];omega),[nw],.tmp rfl .nil,A9++((D,.gone)::(lb,.gone)::(b6,.r false [[nw]] 1)::(j2++[(b8,.r false [[gm tF bf]] 1),(b5,.r false [[.func (F 125) [] [.ptr (some ⟨Mq,0,0⟩)]]] 1),(Mq,.r false [[iv (.ofNat 0)]] 1),(bd2,.r false [[iv (.ofNat 2)]] 1),(b1,.r false [[gm tF bf]] 1)])),(RO _).perm (ak λc w h0 h1 h2 hq=>by simp only[h1,h2,h0,List.map_cons,List.map_nil];omega),xB.gr.out.src.mono λq hq=>by simp[hq]⟩
theorem abo {m n:Int}(h:-9223372036854775808<=m+n/\m+n<=9223372036854775807):binV .add (iv m) (iv n)=some (iv (m+n)):=
 @Bq (mkSg (λ_=>0) (λ_=>.undef)<|λ_=>.deferred) m n h
theorem act {m n:Int}(h:-9223372036854775808<=m-n/\m-n<=9223372036854775807):binV .sub (iv m) (iv n)=some (iv (m-n)):=
 @F1 (mkSg (λ_=>0) (λ_=>.undef)<|λ_=>.deferred) m n h
theorem aaB (hR:BaseR P K F T){n:Int}:bB P K (F 254) [iv n] s (λv s'=>v=iv (oP n)/\s'=s):=by
 refine hR.f254.dT ?_
 unfold af6
 refine Wq<|Wv rfl<|Wn ?_
 refine Wq<|Wv rfl<|Wr (.mmx rfl rfl)<|Wr (.mmx rfl rfl)<|Wv rfl<|Wn<|We<|Wm (.tmp rfl .nil) ?_
 exact⟨rfl,rfl⟩
theorem ab8 (hR:BaseR P K F T){o:OD}{i bp:Nat}{k a b n m:Int}{it:ID}{s':SH}{L:List (List AV)}(hu:oY bp (.r false L 14) (.r false (L.set i ({ o with J9:=decide (n=1) }:OD).row) 14) s s')(hr:L[i]?=some o.row) :
  bB P K (F 252) [.ptr (some ⟨bp,i,0⟩),.agg<|evRow k a b n m it] s (λ_ s2=>∃m,s2=m++s'):=by
 refine hR.f252.dT ?_
 unfold af4
 refine Wq<|Wa (.box rfl rfl) λb3=>Wn<|Wo<|Wv rfl<|Wf rfl<|Wl rfl .here rfl rfl rfl<|Wh rfl rfl (bb _ _)<|Wr (.nilchk rfl rfl)<|Wf rfl ?_
 refine Ww<|Wt rfl rfl rfl (.there hu) hr rfl<|Wn<|Wm .nil ⟨[_],rfl⟩
theorem abt (hR:BaseR P K F T){o:OD}{i bp:Nat}{k a b n m:Int}{it:ID}{s':SH}{L:List (List AV)}(hu:oY bp (.r false L 14) (.r false (L.set i ({ o with block:=b }:OD).row) 14) s s')(hr:L[i]?=some o.row) :
  bB P K (F 258) [.ptr (some ⟨bp,i,0⟩),.agg<|evRow k a b n m it] s (λ_ s2=>∃m,s2=m++s'):=by
 refine hR.f258.dT ?_
 unfold af8
 refine Wq<|Wa (.box rfl rfl) λb3=>Wn<|Wo<|Wv rfl<|Wf rfl<|Wl rfl .here rfl rfl rfl<|Wr (.nilchk rfl rfl)<|Wf rfl ?_
 refine Ww<|Wt rfl rfl rfl (.there hu) hr rfl<|Wn<|Wm .nil ⟨[_],rfl⟩
theorem abW (hR:BaseR P K F T){o:OD}{i bp:Nat}{k a b n m:Int}{it:ID}{s':SH}{L:List (List AV)}(hb:-9223372036854775808<=o.Y6+n/\o.Y6+n<=9223372036854775807)(hu:oY bp (.r false L 14) (.r false (L.set i ({ o with Y6:=oP (o.Y6+n) }:OD).row) 14) s s')(hr:L[i]?=some o.row) :
  bB P K (F 253) [.ptr (some ⟨bp,i,0⟩),.agg<|evRow k a b n m it] s (λ_ s2=>∃m,s2=m++s'):=by
 refine hR.f253.dT ?_
 unfold af5
 have hh:=hu.has.1
 have had:binV .add (iv o.Y6) (iv n)=some (iv<|o.Y6+n):=abo hb
 refine Wq<|Wa (.box rfl rfl) λb3=>Wn<|WP.bD<|Dp (.mv rfl)<|Dp (.mv rfl)<|Dp (.nilchk rfl rfl)<|Dp (.faddr rfl)<|Dl rfl .nil (.load rfl (.there hh) hr rfl rfl)<|Dp (.faddr rfl)<|Dl rfl .nil (.load rfl .here rfl rfl rfl)<|Dp (.arith rfl rfl had) ?_
 refine Dc .nil<|W1 (aaB hR) ?_
 rintro _ _ ⟨rfl,rfl⟩
 refine Dp (.nilchk rfl rfl)<|Dp (.faddr rfl) ?_
 refine Dc .nil<|Wt rfl rfl rfl (.there hu) hr rfl<|D0 .nil (Wm .nil ⟨[_],rfl⟩)<|λo h=>nomatch h
theorem ab0 (hR:BaseR P K F T){o:LD}{i bp:Nat}{k a b n m:Int}{it:ID}{s':SH}{L:List (List AV)}(hb:-9223372036854775808<=o.Zl+n/\o.Zl+n<=9223372036854775807)(hu:oY bp (.r false L 8) (.r false (L.set i ({ o with Zl:=oP (o.Zl+n) }:LD).row) 8) s s')(hr:L[i]?=some o.row) :
  bB P K (F 266) [.ptr (some ⟨bp,i,0⟩),.agg<|evRow k a b n m it] s (λ_ s2=>∃m,s2=m++s'):=by
 refine hR.f266.dT ?_
 unfold af9
 have hh:=hu.has.1
 have had:binV .add (iv o.Zl) (iv n)=some (iv<|o.Zl+n):=abo hb
 refine Wq<|Wa (.box rfl rfl) λb3=>Wn<|WP.bD<|Dp (.mv rfl)<|Dp (.mv rfl)<|Dp (.nilchk rfl rfl)<|Dp (.faddr rfl)<|Dl rfl .nil (.load rfl (.there hh) hr rfl rfl)<|Dp (.faddr rfl)<|Dl rfl .nil (.load rfl .here rfl rfl rfl)<|Dp (.arith rfl rfl had) ?_
 refine Dc .nil<|W1 (aaB hR) ?_
 rintro _ _ ⟨rfl,rfl⟩
 refine Dp (.nilchk rfl rfl)<|Dp (.faddr rfl) ?_
 refine Dc .nil<|Wt rfl rfl rfl (.there hu) hr rfl<|D0 .nil (Wm .nil ⟨[_],rfl⟩)<|λo h=>nomatch h
theorem acR (hB:Base P K F T){bw:Nat}{d:SD}{t:SH}(hs:WH bw d t s)(hd:d.Small)(he:d.kQ){a b n m:Int}{it:ID}{fn:AV}{i:Nat}(hi:d.find a=some i){o:OD}(xG:d.ob[i]?=some o)(hz:o.ci=2)
  (hb:b=0\/∃j o',d.find b=some j/\d.ob[j]?=some o'/\o'.ci=2) :
  bB P K (F 203) [.ptr (some ⟨bw,0,0⟩),.agg<|evRow 13 a b n m it,.agg [.bool false,.bool true,.bool true,fn]] s (λw s'=>w=iv 0/\WH bw d t s'):=by
 obtain⟨pv,ov,lv,hv,gv,ev,fv,sv,wv,nn,k1,k2⟩:=hs
 refine bB.perm k1.symm ?_
 refine hB.f203.dT ?_
 unfold Lj
 refine Wq<|Wa (.box rfl rfl) λb4=>Wa (.box rfl rfl) λb5=>Wv rfl<|Wn ?_
 refine Wq<|Wr (.mkfn rfl rfl)<|Wv rfl<|Wn ?_
 refine Ws<|Wb<|Ws<|WP.bD<|Dp (.mv rfl)<|Dp (.nilchk rfl rfl)<|Dp (.faddr rfl)<|Dl rfl .nil (.load (cs:=SD.cells d pv ov lv hv gv ev fv sv wv) rfl (.there<|.there .here) rfl rfl rfl) ?_
 have hR:∀x y z,mD (x::y::z::(nn++t)) pv ov lv hv gv ev fv sv wv d:=λx y z=>k2.r λp hp=>by simp[hp]
 refine Dc .nil<|W1 (qQ hB (hR _ _ _) ⟨he.lb,he.hd,he.gr,he.ex⟩) ?_
 rintro w _ ⟨rfl,m1,rfl⟩
 refine Dp (.un rfl rfl)<|Dp (.mv rfl)<|Dy<|Dp (.faddr rfl)<|Dy<|Dl rfl .nil (.load rfl (.app .here) rfl rfl rfl)<|Dy<|Dp (.mv rfl)<|Dk<|Dk<|Dk<|Dk<|WD.kg rfl rfl<|WD.kg rfl rfl<|WD.kg rfl rfl<|WD.kg rfl rfl<|WD.kg rfl rfl<|WD.kg rfl rfl<|WD.kg rfl rfl<|WD.kg rfl rfl<|WD.kg rfl rfl<|Dk<|Dy<|Dp (.bj rfl rfl)<|Dp (.bj rfl rfl)<|Dp (.mv rfl)<|D0 .nil (Wd rfl fS<|λ_=>?_)<|λo h=>nomatch h
 refine Ws<|Ws<|WP.bD<|Dp (.faddr rfl)<|Dl rfl .nil (.load rfl (.app .here) rfl rfl rfl)<|Dp (.mv rfl)<|Dy<|Dp (.mv rfl)<|Dy<|Dp (.nilchk rfl rfl)<|Dy<|Dp (.faddr rfl)<|Dy<|Dl rfl .nil (.load (cs:=SD.cells d pv ov lv hv gv ev fv sv wv) rfl (.app<|.there<|.there .here) rfl rfl rfl)<|Dy<|Dp (.faddr rfl)<|Dy<|Dl rfl .nil (.load rfl (.app<|.there .here) rfl rfl rfl)<|Dy ?_
 refine Dc .nil<|W1 (lg hB (d:=d) ((k2.r (s:=_) λp hp=>by simp[hp]).ob) hd) ?_
 rintro w _ ⟨rfl,m2,rfl⟩
 rw[hi]
 refine Dy<|Dp (.arith rfl rfl<|eT _ _)<|Dp (.cV rfl rfl)<|Dp (.mv rfl)<|D0 .nil (Wd rfl fS<|λ_=>Wo<|Wf rfl<|Wl rfl (.app<|.app .here) rfl rfl rfl<|Wv rfl<|Wy<|Wv rfl<|Wy<|Wf rfl<|Wy<|Wl rfl (.app<|.app<|.there .here) rfl rfl rfl<|Wy ?_)<|λo h=>nomatch h
 have hO:∀{s:SH}{id:Int}{j:Nat}{o':OD},(∀q∈nn,q∈s)->Has bw (.r false [d.cells pv ov lv hv gv ev fv sv wv] 25) s->d.find id=some j->d.ob[j]?=some o'->o'.ci=2->bB P K (F 231) [.ptr (some ⟨bw,0,0⟩),iv id] s (λw s'=>w=.bool true/\∃m,s'=m++s):=by
  intro s id j o' hn hw h1 h2 h3
  have:=aav (P:=P) (K:=K) (F:=F) (T:=T) hB (d:=d) hw ((k2.r hn).ob) hd h1 h2
  rw[show decide (o'.ci=2)=true from decide_eq_true h3]at this
  exact this
 refine Ww<|W1 (hO (λq hq=>by simp[hq]) (.app<|.app<|.there<|.there .here) hi xG hz) ?_
 rintro w _ ⟨rfl,m3,rfl⟩
 have fin:∀mm x y,WH bw d t (mm++(m3++(m2++(m1++(x::y::(bw,.r false [d.cells pv ov lv hv gv ev fv sv wv] 25)::(nn++t)))))):=λmm x y=>⟨pv,ov,lv,hv,gv,ev,fv,sv,wv,(mm++(m3++(m2++(m1++[x,y]))))++nn,zt,k2.bK⟩
 rcases hb with rfl|⟨j,o',hj,hoj,hzj⟩
 ·refine Wy (Wr (.un rfl rfl)<|Wr (.cV rfl rfl)<|Wv rfl<|Wn<|Wd rfl fS<|λ_=>?_)
  refine Wq<|Wf rfl<|Wl rfl (.app<|.app<|.app<|.there .here) rfl rfl rfl<|Wh (b:=true) rfl rfl rfl<|Wv rfl<|Wy<|Wf rfl<|Wy<|Wl rfl (.app<|.app<|.app<|.there .here) rfl rfl rfl<|Wy<|Wh (b:=true) rfl rfl rfl<|Wr (.cV rfl rfl)<|Wv rfl<|Wk<|Wk<|Wk<|Wk<|Wk<|Wr (.bj rfl rfl)<|Wv rfl<|Wn<|Wd rfl fS<|λ_=>?_
  refine Ws<|Wq<|Wf rfl<|Wl rfl (.app<|.app<|.app<|.there .here) rfl rfl rfl<|Wh (b:=false) rfl rfl rfl<|Wv rfl<|Wk<|Wk<|Wk<|Wk<|Wk<|Wk<|Wk<|Wk<|Wr (.bj rfl rfl)<|Wv rfl<|Wn<|Wd rfl fS<|λ_=>Wo<|Wf rfl<|Wl rfl (.app<|.app<|.app<|.there .here) rfl rfl rfl<|Wh (b:=false) rfl rfl rfl<|Wv rfl<|Wk<|Wk<|Wk<|Wk<|Wk<|Wk<|Wk<|Wk<|Wr (.bj rfl rfl)<|Wv rfl<|Wn<|Wd rfl fS<|λ_=>?_
  refine Ws<|WP.bD<|Dp (.faddr rfl)<|Dl rfl .nil (.load rfl (.app<|.app<|.app<|.there .here) rfl rfl rfl)<|Dp (.eql (b:=false) rfl rfl rfl)<|Dp (.mv rfl)<|Dk<|Dk<|Dk<|Dk<|Dk<|Dk<|Dk<|Dk<|Dk<|Dk<|Dk<|Dk<|WD.jm rfl rfl<|Dk<|Dp (.bj rfl rfl)<|Dp (.mv rfl)<|D0 .nil (Wd rfl fS<|λ_=>Wi ?_)<|λo h=>nomatch h
  refine Wq<|Wv rfl<|Wn<|We<|Wm (.tmp rfl .nil) ?_
  exact⟨rfl,fin [] _ _⟩
 ·by_cases hb0:b=0
  ·subst hb0
   refine Wy<|Wr (.un rfl rfl)<|Wr (.cV rfl rfl)<|Wv rfl<|Wn<|Wd rfl fS<|λ_=>?_
   refine Wq<|Wf rfl<|Wl rfl (.app<|.app<|.app<|.there .here) rfl rfl rfl<|Wh (b:=true) rfl rfl rfl<|Wv rfl<|Wy<|Wf rfl<|Wy<|Wl rfl (.app<|.app<|.app<|.there .here) rfl rfl rfl<|Wy<|Wh (b:=true) rfl rfl rfl<|Wr (.cV rfl rfl)<|Wv rfl<|Wk<|Wk<|Wk<|Wk<|Wk<|Wr (.bj rfl rfl)<|Wv rfl<|Wn<|Wd rfl fS<|λ_=>?_
   refine Ws<|Wq<|Wf rfl<|Wl rfl (.app<|.app<|.app<|.there .here) rfl rfl rfl<|Wh (b:=false) rfl rfl rfl<|Wv rfl<|Wk<|Wk<|Wk<|Wk<|Wk<|Wk<|Wk<|Wk<|Wr (.bj rfl rfl)<|Wv rfl<|Wn<|Wd rfl fS<|λ_=>Wo<|Wf rfl<|Wl rfl (.app<|.app<|.app<|.there .here) rfl rfl rfl<|Wh (b:=false) rfl rfl rfl<|Wv rfl<|Wk<|Wk<|Wk<|Wk<|Wk<|Wk<|Wk<|Wk<|Wr (.bj rfl rfl)<|Wv rfl<|Wn<|Wd rfl fS<|λ_=>?_
   refine Ws<|WP.bD<|Dp (.faddr rfl)<|Dl rfl .nil (.load rfl (.app<|.app<|.app<|.there .here) rfl rfl rfl)<|Dp (.eql (b:=false) rfl rfl rfl)<|Dp (.mv rfl)<|Dk<|Dk<|Dk<|Dk<|Dk<|Dk<|Dk<|Dk<|Dk<|Dk<|Dk<|Dk<|WD.jm rfl rfl<|Dk<|Dp (.bj rfl rfl)<|Dp (.mv rfl)<|D0 .nil (Wd rfl fS<|λ_=>Wi ?_)<|λo h=>nomatch h
   refine Wq<|Wv rfl<|Wn<|We<|Wm (.tmp rfl .nil) ?_
   exact⟨rfl,fin [] _ _⟩
  ·have hne:eqBy 20 .pi (iv b) (iv 0)=some false:=qM hb0
   refine Wy<|Wr (.un rfl rfl)<|Wr (.cV rfl rfl)<|Wv rfl<|Wn<|Wd rfl fS<|λ_=>?_
   refine Wq<|Wf rfl<|Wl rfl (.app<|.app<|.app<|.there .here) rfl rfl rfl<|Wh (b:=true) rfl rfl rfl<|Wv rfl<|Wy<|Wf rfl<|Wy<|Wl rfl (.app<|.app<|.app<|.there .here) rfl rfl rfl<|Wy<|Wh rfl rfl hne<|Wr (.cV rfl rfl)<|Wv rfl<|Wy<|Wv rfl<|Wy<|Wf rfl<|Wy<|Wl rfl (.app<|.app<|.app<|.there .here) rfl rfl rfl<|Wy ?_
   refine Ww<|W1 (hO (λq hq=>by simp[hq]) (.app<|.app<|.app<|.there<|.there .here) hj hoj hzj) ?_
   rintro w _ ⟨rfl,m4,rfl⟩
   refine Wy<|Wr (.un rfl rfl)<|Wr (.cV rfl rfl)<|Wv rfl<|Wn<|Wd rfl fS<|λ_=>?_
   refine Ws<|Wq<|Wf rfl<|Wl rfl (.app<|.app<|.app<|.app<|.there .here) rfl rfl rfl<|Wh (b:=false) rfl rfl rfl<|Wv rfl<|Wk<|Wk<|Wk<|Wk<|Wk<|Wk<|Wk<|Wk<|Wr (.bj rfl rfl)<|Wv rfl<|Wn<|Wd rfl fS<|λ_=>Wo<|Wf rfl<|Wl rfl (.app<|.app<|.app<|.app<|.there .here) rfl rfl rfl<|Wh (b:=false) rfl rfl rfl<|Wv rfl<|Wk<|Wk<|Wk<|Wk<|Wk<|Wk<|Wk<|Wk<|Wr (.bj rfl rfl)<|Wv rfl<|Wn<|Wd rfl fS<|λ_=>?_
   refine Ws<|WP.bD<|Dp (.faddr rfl)<|Dl rfl .nil (.load rfl (.app<|.app<|.app<|.app<|.there .here) rfl rfl rfl)<|Dp (.eql (b:=false) rfl rfl rfl)<|Dp (.mv rfl)<|Dk<|Dk<|Dk<|Dk<|Dk<|Dk<|Dk<|Dk<|Dk<|Dk<|Dk<|Dk<|WD.jm rfl rfl<|Dk<|Dp (.bj rfl rfl)<|Dp (.mv rfl)<|D0 .nil (Wd rfl fS<|λ_=>Wi ?_)<|λo h=>nomatch h
   refine Wq<|Wv rfl<|Wn<|We<|Wm (.tmp rfl .nil) ?_
   exact⟨rfl,fin m4 _ _⟩
theorem adi (hB:Base P K F T)(hX:BaseX P K F T)(hR:BaseR P K F T){i:Nat}{o:OD}{a b n m:Int}{it:ID}{d:SD}(hd:d.Small)(he:d.kQ)(hi:d.find a=some i)(ho:d.ob[i]?=some o)(hz:o.ci=2)
  (hb:b=0\/∃j o',d.find b=some j/\d.ob[j]?=some o'/\o'.ci=2)
  (lm:∀s,bB P K (F 201) [.agg (evRow 13 a b n m it)] s<|λv s'=>v=iv 0/\s'=s) :
  Ap P K F 13 a b n m it d { d with ob:=d.ob.set i { o with block:=b } }:=
 yH (k:=13) hB hd lm (FB hB<|by simp) (λ{_ _ _ _ v} hv hW=>by
  obtain⟨bd,bx,rfl,_⟩:=(show iP F _ _ v false true true 248 258 from hv)
  exact acR hB hW hd he hi ho hz hb) (λ{_ _ _ _ _ _ fn} hv hW=>by
  obtain⟨bd,bx,hv,h1,h2⟩:=(show iP F _ _ _ false true true 248 258 from hv)
  cases hv
  exact abu hB hX hW h1 h2 hd hi ho λhu hr=>abt hR hu hr)
theorem acw (hB:Base P K F T)(ae5:FnK P K (F 264) 15 [] (ad9 F T))(hR:BaseR P K F T){p:Nat}{o:LD}{b n m:Int}{it:ID}{d:SD}(hd:d.Small)(he:d.kQ)(ho:d.pl[p]?=some o)(hb:-9223372036854775808<=o.Zl+n/\o.Zl+n<=9223372036854775807)(lm:∀s,bB P K (F 201) [.agg (evRow 7 (.ofNat p) b n m it)] s (λv s'=>v=iv 0/\s'=s)) :
  Ap P K F 7 (.ofNat p) b n m it d { d with pl:=d.pl.set p { o with Zl:=oP (o.Zl+n) } }:=
 yH (k:=7) hB hd lm (abJ hB<|by simp) (λ{_ _ _ _ v} hv hW=>by
  obtain⟨bd,bx,rfl,_⟩:=(show iP F _ _ v true false false 264 266 from hv)
  exact acp hB hW hd he (k:=7) (by omega) (by omega) (by omega) (by omega) (List.getElem?_eq_some_iff.1 ho).1) (λ{_ _ _ _ _ _ _} hv hW=>by
  obtain⟨bd,bx,hv,h1,h2⟩:=(show iP F _ _ _ true false false 264 266 from hv)
  cases hv
  exact adx (o':={ o with Zl:=oP (o.Zl+n) }) ae5 hW h1 h2 ho λ{s s' bp L} hu hr=>ab0 hR hb hu hr)
def abY (d:SD)(C:List CD)(p:OD->CD->Bool)(id:Int):Bool:=match d.obj id with
 | some o=>(match C[o.gE.toNat]? with | some c=>p o c | none=>false)
 | none=>false
def aba (d:SD)(C:List CD)(p:OD->CD->Bool)(l:List Int):List Int:=l.filter (abY d C p)
theorem acy (d:SD)(C:List CD)(p:OD->CD->Bool)(l:List Int)(x:Int):aba d C p (l++[x])=aba d C p l++if abY d C p x then [x]else []:=by
 unfold aba
 rw[List.filter_append]
 congr 1
 rw[List.filter_cons]
 cases abY d C p x<;>rfl
theorem abw (hE:GE P K F T tF g C d)(hQ:BaseQ P K F T)(hf:Has bf (.r false [bu bl aZ c0 c1 c2 c3 c4 bE] 8) t)(eQ:cI t aZ C)(hs:aH bl EL d t s)(hcd:∀o∈d.ob,∃j:Nat,o.gE=.ofNat j/\j<C.length)(hall:∀id∈d.fi,∃o,d.obj id=some o)
  {fv:AV} {p:OD->CD->Bool} (VZ:∀o c t' s',o∈d.ob->c∈C->(∀q∈t,q∈t')->aH bl EL d t' s'->c6 P K fv [.agg o.row,.agg c.row] s' (λv s''=>v=.bool (p o c)/\aH bl EL d t' s'')) :
  bB P K (F 109) [.ptr (some ⟨bf,0,0⟩),fv] s (λv s'=>∃m,aH bl EL d (m++t) s'/\Src m 1 v (nR<|aba d C p d.fi)):=by
 have hn:=hE.hd.n1
 refine hQ.f109.dT ?_
 unfold afH
 refine Wq<|Wv rfl<|Wn ?_
 refine Wq<|Wv rfl<|Wn ?_
 refine Wq<|Wv rfl ?_
 refine Ww<|W1 (iU hE.hB hs hE.hd hf) ?_
 rintro _ s2 ⟨m,dt,pv,ov,lv,hv,gv,ev,fi,sv,wv,rfl,hR⟩
 refine Wa (.alloc rfl) λb6=>Ww<|Wt (s':=(b6,.r false [SD.cells d pv ov lv hv gv ev fi sv wv] 25)::_) rfl rfl rfl .here rfl rfl<|Wn ?_
 refine Ws<|Wq<|Wf rfl<|Wl rfl .here rfl rfl rfl ?_
 have gw:aH bl EL d ((b6,.r false [d.cells pv ov lv hv gv ev fi sv wv] 25)::(m++t)) ((b6,.r false [d.cells pv ov lv hv gv ev fi sv wv] 25)::s2):=dt.cons
 generalize (b6,HO.r false [d.cells pv ov lv hv gv ev fi sv wv] 25)::s2=s3 at gw |-
 have hlf:lenOf fi=some d.fi.length:=by rw[hR.fi.lenOf,gq]
 refine Wr (.lenS rfl hlf)<|Wv rfl<|Wn<|Wb ?_
 refine Wp (λk l ds s'=>ds=[]/\∃q out og j,k=d.fi.length-q/\q<=d.fi.length/\aH bl EL d (og++(j++((b6,.r false [d.cells pv ov lv hv gv ev fi sv wv] 25)::(m++t)))) s'/\Gr 1 out (nR<|aba d C p<|d.fi.take q) og/\∀x w,lk [(0,.ptr<|some ⟨bf,0,0⟩),(1,fv),(5,out),(6,.ptr<|some ⟨b6,0,0⟩),(13,fi),(14,iv<|.ofNat d.fi.length),(15,iv<|.ofNat q)] x=some w->lk l x=some w) ?_ (n:=d.fi.length-0)
  ⟨rfl,0,nilS,[],[],rfl,Nat.zero_le _,gw,.nil,bq rfl⟩
 rintro k l ds s5 ⟨rfl,q,out,og,j,rfl,hq,tn,hG,hl⟩
 refine Wg hl (λ_ _ h=>h) ?_
 refine Wq<|Wj rfl rfl (eT _ _)<|Wn<|Ws<|Wd rfl (λht=>Wi ?_)<|λht=>Wx ?_
 rotate_left
 ·have hge:¬q<d.fi.length:=λh=>of_decide_eq_false ht (Int.ofNat_lt.2 h)
  rw[List.take_of_length_le (by omega)]at hG
  refine Wq<|Wv rfl<|Wv rfl<|Wn<|We<|Wm (.tmp rfl .nil) ?_
  exact⟨og++(j++((b6,.r false [d.cells pv ov lv hv gv ev fi sv wv] 25)::m)),tn.tT<|zt,hG.out.src.mono λq hq=>by simp[hq]⟩
 have hlt:q<d.fi.length:=Int.ofNat_lt.1<|of_decide_eq_true ht
 have hx:d.fi[q]?=some d.fi[q]:=List.getElem?_eq_getElem hlt
 have KP:d.fi[q]∈d.fi:=List.getElem_mem _
 generalize d.fi[q]=id at hx KP
 obtain⟨o,ho⟩:=hall id KP
 obtain⟨i,hi,xG⟩:∃i,d.find id=some i/\d.ob[i]?=some o:=by
  unfold SD.obj at ho
  cases h:d.find id with
  | none=>rw[h]at ho;cases ho
  | some i=>rw[h]at ho;exact⟨i,rfl,ho⟩
 have V4:o∈d.ob:=List.mem_of_getElem? xG
 obtain⟨k,hk,hkl⟩:=hcd o V4
 have hc:C[k]?=some C[k]:=List.getElem?_eq_getElem hkl
 have IR:C[k]∈C:=List.getElem_mem _
 generalize C[k]=c at hc IR
 have hsn:=acy d C p (d.fi.take q) id
 rw[show d.fi.take q++[id]=d.fi.take (q+1) by rw[List.take_add_one,hx];rfl]at hsn
 have hpc:abY d C p id=p o c:=by unfold abY;rw[ho];show(match C[o.gE.toNat]? with | some c=>p o c | none=>false)=_;rw[hk,show(Int.ofNat k).toNat=k from rfl,hc]
 rw[hpc]at hsn
 obtain⟨ba,ra,na,ca,J5,Sp,Ma,e4,hba,me,hra⟩:=hR.fi.at (i:=q) (by rw[gq];exact hlt)
 have hrow:Ma[ra+q]?=some [iv id]:=by rw[hra,nR,List.getElem?_map,hx];rfl
 subst e4
 have ajM:Has ba (.r Sp Ma 1) (m++t):=.left hba
 refine Ws<|Wb<|Wq<|Wr (.iaddrS rfl rfl (by omega)<|by decide)<|Wl rfl (tn.mem<|.app<|.app<|.there<|.left hba) hrow rfl rfl<|Wv rfl<|Wn ?_
 refine Ws<|WP.fd λMq=>Dp (.faddr rfl)<|WD.lk rfl .nil (.load rfl (.there<|tn.mem<|.app<|.app .here) rfl rfl rfl)<|Dl rfl .nil (.load (cs:=SD.cells d pv ov lv hv gv ev (AV.slice (some<|Pl.mk ba ra 0) na ca J5 1) sv wv) rfl (.there<|tn.mem<|.app<|.app .here) rfl rfl rfl)<|Dp (.mv rfl) ?_
 refine Dc .nil<|W1 (lg hE.hB (hR.ob.mono λq hq=>.tail _ (tn.mem<|.ce<|by simp[hq]).mem) hE.hd) ?_
 rintro _ _ ⟨rfl,mF,rfl⟩
 rw[hi]
 obtain⟨bo,ro,no,co,ZE,WE,Mo,eo,IM,Uw,hro⟩:=hR.ob.at (i:=i) (by rw[fy,List.length_map];exact(List.getElem?_eq_some_iff.1 xG).1)
 have agG:Mo[ro+i]?=some o.row:=by rw[hro,fy,List.getElem?_map,xG];rfl
 have ahP:=hR.ob.same
 subst eo
 have ajQ:Has bo (.r WE Mo 14) (m++t):=.left IM
 refine Dp (.iaddrS rfl rfl (by omega)<|by decide)<|Dl rfl .nil (.load rfl (.app<|.there<|tn.mem<|.app<|.app<|.there<|.left IM) agG rfl rfl)<|WD.al (.alloc rfl) rfl ?_
 refine Dc (.yes (show bit 255 7=true from rfl) rfl (.app .here) .nil)<|Wt (s':=mF++((Mq,.r false [o.row] 14)::s5)) rfl rfl rfl (.app .here) rfl rfl<|D0 .nil ?_ ?_
 rotate_left
 ·intro x hx
  rw[List.mem_singleton.1 hx]
  refine⟨(λi hi=>by rw[List.mem_singleton.1 hi];exact(show bit 1 7=false from rfl)),Nat.zero_le _,ahP,λk _ hk=>?_⟩
  rcases cD hk with rfl|rfl
  ·exact⟨_,rfl,.load rfl (.there<|tn.mem<|.app<|.app .here) rfl rfl rfl⟩
  ·exact⟨_,rfl,.load rfl (.app<|.there<|tn.mem<|.app<|.app .here) rfl rfl rfl⟩
 have KL:aH bl EL d ((Mq,.r false [o.row] 14)::(og++(j++((b6,.r false [d.cells pv (.slice (some ⟨bo,ro,0⟩) no co ZE 14) lv hv gv ev (.slice (some ⟨ba,ra,0⟩) na ca J5 1) sv wv] 25)::(m++t))))) (mF++((Mq,.r false [o.row] 14)::s5)):=tn.cons.bK
 generalize mF++((Mq,HO.r false [o.row] 14)::s5)=s6 at KL |-
 obtain⟨bc,rc,nc,cc',slc,roc,Mc,ec,hbc,hic,hrc⟩:=eQ.src.at (i:=k) (by rw[List.length_map];exact hkl)
 have abA:Mc[rc+k]?=some c.row:=by rw[hrc,List.getElem?_map,hc];rfl
 have hlc:lenOf aZ=some C.length:=by rw[eQ.src.lenOf,List.length_map]
 have ahH:binV .lss (iv o.gE) (iv<|.ofNat C.length)=some (.bool true):=by
  rw[eT,hk];exact congrArg (λb=>some<|AV.bool b)<|decide_eq_true<|Int.ofNat_lt.2 hkl
 refine Ws<|WP.bD<|Dp (.faddr rfl)<|Dl rfl .nil (.load rfl (KL.mem .here) rfl rfl rfl)<|Dp (.mv rfl)<|Dp (.nilchk rfl rfl)<|Dp (.faddr rfl)<|Dl rfl .nil (.load rfl (KL.mem<|.there<|.app<|.app<|.there<|.app hf) rfl rfl rfl)<|Dp (.lenS rfl hlc)<|Dp (.arith rfl rfl ahH)<|Dp (.mv rfl)<|Dy<|Dp (.mv rfl)<|Dy<|Dl rfl .nil (.load (cs:=OD.row o) rfl (KL.mem .here) rfl rfl rfl)<|Dy<|Dp (.mv rfl)<|Dy<|Dp (.nilchk rfl rfl)<|Dy<|Dp (.faddr rfl)<|Dy<|Dl rfl .nil (.load rfl (KL.mem<|.there<|.app<|.app<|.there<|.app hf) rfl rfl rfl)<|Dy<|Dp (.faddr rfl)<|Dy<|Dl rfl .nil (.load rfl (KL.mem .here) rfl rfl rfl)<|Dy<|Dp (.iaddrS (congrArg some ec) (congrArg (λx=>some<|iv x) hk) hic<|by decide)<|Dy<|Dl rfl .nil (.load rfl (KL.mem<|.there<|.app<|.app<|.there<|.app hbc) abA rfl rfl)<|Dy ?_
 refine Dc .nil<|WS.call (vs:=[AV.agg (OD.row o),AV.agg [AV.str (CD.nm c),iv<|CD.kind c,iv<|CD.n2 c,iv<|CD.n3 c,iv<|CD.n4 c,iv<|CD.n5 c,iv<|CD.n6 c,iv<|CD.power c,iv<|CD.qn c,iv<|CD.keys c,CD.av c]]) rfl rfl (VZ o c _ s6 V4 IR (λq hq=>by simp[hq]) KL) ?_
 rintro _ s7 ⟨rfl,hs7⟩
 cases Sh:p o c with
 | false=>
  rw[Sh]at hsn
  refine Dp (.cV rfl rfl)<|D0 .nil (Wd rfl fS<|λ_=>Wi<|Wo<|Wj rfl rfl (bM<|by omega)<|Wv rfl<|Wn ?_)<|λo h=>nomatch h
  exact⟨d.fi.length-(q+1),by omega,rfl,q+1,out,og,j,rfl,hlt,hs7.tail,by rw[hsn];simpa using hG,bq rfl⟩
 | true=>
  rw[Sh]at hsn
  obtain⟨u,hu,ot⟩:=hs7.tail.split
  refine Dp (.cV rfl rfl)<|D0 .nil (Wd rfl (λ_=>Wo<|Wv rfl<|Wv rfl<|Wa (.bslice (fZ rfl rfl) rfl) λb49=>?_) Dz)<|λo h=>nomatch h
  refine Ww<|WS.pre (s':=((b49,.r false [[iv id]] 1)::u)++(og++(j++((b6,.r false [d.cells pv (.slice (some ⟨bo,ro,0⟩) no co ZE 14) lv hv gv ev (.slice (some ⟨ba,ra,0⟩) na ca J5 1) sv wv] 25)::(m++t))))) (ak λc w h0 h1 h2 hq=>by have:=hq _ _ hu;simp only[h1,h2]at this |-;omega)<|WS.append_gr rfl hG rfl (Src.all (L:=[[iv id]]) .here) (by omega) (by rw[gq];have:=List.length_filter_le (abY d C p) (d.fi.take q);have:=List.length_take_le q d.fi;unfold aba;show _+1<=_;omega) (by omega) λv' o' jk xB=>?_
  refine Wv rfl<|Wn<|Wo<|Wj rfl rfl (bM<|by omega)<|Wv rfl<|Wn ?_
  refine⟨d.fi.length-(q+1),by omega,rfl,q+1,v',o',(b49,.r false [[iv id]] 1)::(jk++j),rfl,hlt,(ot<|o'++(((b49,.r false [[iv id]] 1)::(jk++j))++((b6,.r false [d.cells pv (.slice (some ⟨bo,ro,0⟩) no co ZE 14) lv hv gv ev (.slice (some ⟨ba,ra,0⟩) na ca J5 1) sv wv] 25)::(m++t)))).perm (zt),?_,bq rfl⟩
  rw[hsn]
  simpa[nR]using xB
def aa7 (k e:Int)(c:CD):Bool:=c.ab.any λa=>decide (a.kind=k)&&decide (a.ev=e)
theorem abX (hQ:BaseQ P K F T){a:AD}{k e:Int}{bk be:Nat}(hk:Has bk (.r false [[iv k]] 1) s)(he:Has be (.r false [[iv e]] 1) s):bB P K (F 350) [.agg a.row,.ptr (some ⟨bk,0,0⟩),.ptr (some ⟨be,0,0⟩)] s (λw s'=>w=.bool (decide (a.kind=k)&&decide (a.ev=e))/\∃m,s'=m++s):=by
 refine hQ.f350.dT ?_
 unfold agf
 have h8:eqBy 20 .pi (iv a.kind) (iv k)=some (decide<|a.kind=k):=bb _ _
 cases h1:decide (a.kind=k) with
 | false=>
  rw[h1]at h8
  refine Wq<|Wa (.box rfl rfl) λb3=>Wv rfl<|Wn ?_
  refine Wq<|Wf rfl<|Wl rfl .here rfl rfl rfl<|Wl rfl (.there hk) rfl rfl rfl<|Wh rfl rfl h8<|Wv rfl<|Wk<|Wk<|Wk<|Wk<|Wr (.bj rfl rfl)<|Wv rfl<|Wn<|We<|Wm (.tmp rfl .nil) ?_
  exact⟨rfl,[_],rfl⟩
 | true=>
  rw[h1]at h8
  refine Wq<|Wa (.box rfl rfl) λb3=>Wv rfl<|Wn ?_
  refine Wq<|Wf rfl<|Wl rfl .here rfl rfl rfl<|Wl rfl (.there hk) rfl rfl rfl<|Wh rfl rfl h8<|Wv rfl<|Wy<|Wf rfl<|Wy<|Wl rfl .here rfl rfl rfl<|Wy<|Wl rfl (.there he) rfl rfl rfl<|Wy<|Wh rfl rfl (bb _ _)<|Wr (.cV rfl rfl)<|Wv rfl<|Wn<|We<|Wm (.tmp rfl .nil) ?_
  exact⟨rfl,[_],rfl⟩
def adU (k e:Int):List AV->Bool
 | .int _ a::.int _ b::_=>decide (a=k)&&decide (b=e)
 | _=>false
theorem BaseQ.ahi (hQ:BaseQ P K F T):FnK P K (F 349) 9 [.tmp 4] (ae0 (F 351)):=hQ.f349
theorem BaseQ.ahj (hQ:BaseQ P K F T):FnK P K (F 351) 19 [.tmp 4] (CU true 13):=hQ.f351
theorem acH (k e:Int)(l:List AD):((l.map AD.row).findIdx? (adU k e)).isSome=l.any λa=>decide (a.kind=k)&&decide (a.ev=e):=by
 rw[List.findIdx?_isSome,List.any_map]
 rfl
theorem abf (hQ:BaseQ P K F T){o:OD}{c:CD}{k e:Int}{bk be:Nat}(hk:Has bk (.r false [[iv k]] 1) s)(he:Has be (.r false [[iv e]] 1) s)(hc:Src s 13 c.av (c.ab.map AD.row))(hn:c.ab.length<=1000) :
  bB P K (F 348) [.agg o.row,.agg c.row,.ptr<|some ⟨bk,0,0⟩,.ptr<|some ⟨be,0,0⟩] s (λw s'=>w=.bool (aa7 k e c)/\∃m,s'=m++s):=by
 refine hQ.f348.dT ?_
 unfold age
 refine Wq<|Wa (.box rfl rfl) λb4=>Wa (.box rfl rfl) λb5=>Wv rfl<|Wn ?_
 refine Wq<|Wf rfl<|Wl rfl .here rfl rfl rfl<|Wr (.mkfn rfl rfl) ?_
 have hidx:∀{x y:Nat × HO},bB P K (F 351) [c.av,.func (F 350) [] [.ptr (some ⟨bk,0,0⟩),.ptr<|some ⟨be,0,0⟩]] (x::y::s) (λw s'=>w=CV ((c.ab.map AD.row).findIdx? (adU k e))/\∃n,s'=n++(x::y::s)):=by
  intro x y
  refine hQ.ahj.dT<|abi (adU k e) (hc.mono λq hq=>by simp[hq]) (by decide) (.inl rfl) (by rw[List.length_map];omega) (λrow hr=>?_) (λrow hr z=>?_) λn=>⟨rfl,n,rfl⟩
  ·obtain⟨a,_,rfl⟩:=List.mem_map.1 hr
   rfl
  ·obtain⟨a,_,rfl⟩:=List.mem_map.1 hr
   exact c6.func<|abX hQ (.app<|.there<|.there hk)<|.app<|.there<|.there he
 have ahz:∀{x y:Nat × HO},bB P K (F 349) [c.av,.func (F 350) [] [.ptr (some ⟨bk,0,0⟩),.ptr<|some ⟨be,0,0⟩]] (x::y::s) (λw s'=>w=.bool (aa7 k e c)/\∃n,s'=n++(x::y::s)):=by
  intro x y
  refine hQ.ahi.dT<|ae1 hidx λn=>⟨?_,n,rfl⟩
  rw[acH]
  rfl
 refine Ww<|Wz [CD.av c,AV.func (F 350) [] [AV.ptr (some<|Pl.mk bk 0 0),AV.ptr<|some<|Pl.mk be 0 0]] rfl rfl (ahz) ?_
 rintro _ _ ⟨rfl,m,rfl⟩
 refine Wv rfl<|Wn<|We<|Wm (.tmp rfl .nil) ?_
 exact⟨rfl,m++[(b5,.r false [c.row] 11),(b4,.r false [o.row] 14)],by simp⟩
theorem aaq (hE:GE P K F T tF g C d)(hQ:BaseQ P K F T)(hf:Has bf (.r false [bu bl aZ c0 c1 c2 c3 c4 bE] 8) t)(eQ:cI t aZ C)(hs:aH bl EL d t s)(hcd:∀o∈d.ob,∃j:Nat,o.gE=.ofNat j/\j<C.length)(hall:∀id∈d.fi,∃o,d.obj id=some o){k e:Int} :
  bB P K (F 346) [.ptr (some ⟨bf,0,0⟩),iv k,iv e] s (λv s'=>∃m,aH bl EL d (m++t) s'/\Src m 1 v (nR<|aba d C (λ_ c=>aa7 k e c) d.fi)):=by
 refine hQ.f346.dT ?_
 unfold agd
 refine Wq<|Wa (.box rfl rfl) λb4=>Wa (.box rfl rfl) λb5=>Wv rfl<|Wn ?_
 refine Wq<|Wv rfl<|Wr (.mkfn rfl rfl) ?_
 have nr:aH bl EL d ((b5,.r false [[iv e]] 1)::(b4,.r false [[iv k]] 1)::t) ((b5,.r false [[iv e]] 1)::(b4,.r false [[iv k]] 1)::s):=hs.cons.cons
 refine Ww<|Wz [AV.ptr (some<|Pl.mk bf 0 0),AV.func (F 348) [] [AV.ptr (some<|Pl.mk b4 0 0),AV.ptr<|some<|Pl.mk b5 0 0]] rfl rfl (abw (p:=λ_ c=>aa7 k e c) hE hQ (.there<|.there hf) (eQ.mono λq hq=>by simp[hq]) nr hcd hall<|λo c t' s' ho hc hq h=>c6.func<|(abf hQ (h.mem<|.ce<|hq _<|by simp) (h.mem<|.ce<|hq _<|by simp) ((eQ.ab c hc).mono λq h2=>(h.mem<|.ce<|hq _<|by simp[h2]).mem)<|eQ.nb c hc).post λw s2 h2=>⟨h2.1,by obtain⟨m,rfl⟩:=h2.2;exact h.bK⟩) ?_
 rintro v s2 ⟨m,dt,hS⟩
 refine Wv rfl<|Wn<|We<|Wm (.tmp rfl .nil) ?_
 exact⟨m++[(b5,.r false [[iv e]] 1),(b4,.r false [[iv k]] 1)],by rw[List.append_assoc];exact dt,hS.mono λq hq=>by simp[hq]⟩
structure BdX (P:Program)(K:Orc)(F:Nat->FuncId)(T:Nat->TypeId)(tF:TypeId)(g:ED->CH->CH)(C:List CD)(d:SD):Prop where
 hE:GE P K F T tF g C d
 hQ:BaseQ P K F T
 hv:meth P tF "Having"=some (F 346)
 do_:meth P tF "Do"=some (F 15)
 cd:∀o∈d.ob,∃j:Nat,o.gE=.ofNat j/\j<C.length
 all:∀id∈d.fi,∃o,d.obj id=some o
theorem aa6 {k e:Int}(h:∀c∈C,c.ab=[])(l:List Int):aba d C (λ_ c=>aa7 k e c) l=[]:=by
 unfold aba
 refine List.filter_eq_nil_iff.2 λid _=>?_
 unfold abY
 cases d.obj id with
 | none=>simp
 | some o=>
  cases hc:C[o.gE.toNat]? with
  | none=>simp[hc]
  | some c=>
   have:=h c<|List.mem_of_getElem? hc
   simp[hc,aa7,this]
theorem aa9 (hX:BdX P K F T tF g C d)(hno:∀c∈C,c.ab=[])(hf:Has bf (.r false [bu bl aZ c0 c1 c2 c3 c4 bE] 8) t)(eQ:cI t aZ C)(hs:aH bl EL d t s){y:AV}{b2 b3:Nat}{k:Int}(h2:Has b2 (.r false [[gm tF bf]] 1) t)(h3:Has b3 (.r false [[iv k]] 1) t) :
  bB P K (F 239) [y,.ptr<|some ⟨b2,0,0⟩,.ptr<|some ⟨b3,0,0⟩] s (λ_ s'=>aH bl EL d t s'):=by
 refine hX.hQ.f239.dT ?_
 unfold afY
 refine Wq<|Wl rfl (hs.mem h2) rfl rfl rfl ?_
 refine Ww<|WS.invoke (vs:=[]) rfl (hX.hE.hM.aZ ) rfl ( BS hX.hE.hG hs hf eQ) ?_
 rintro v4 s2 ⟨m,dt,hS⟩
 refine Wv rfl<|Wn ?_
 refine Wq<|Wl rfl (dt.mem<|.app h2) rfl rfl rfl<|Wl rfl (dt.mem<|.app h3) rfl rfl rfl ?_
 refine Ww<|WS.invoke (vs:=[AV.int IntKind.i64 (Int.ofNat 3),iv k]) rfl (hX.hv ) rfl ( aaq hX.hE hX.hQ (.app hf) (eQ.mono λq hq=>by simp[hq]) dt hX.cd hX.all) ?_
 rintro v15 s3 ⟨m3,gw,hS3⟩
 rw[aa6 hno]at hS3
 have afg:lenOf v15=some 0:=hS3.lenOf
 refine Wr (.lenS rfl afg)<|Wv rfl<|Wn<|Wb ?_
 refine WP.dA ?_
 refine Wq<|Wj rfl rfl (eT _ _)<|Wn ?_
 refine Ws<|Wd rfl fS<|λ_=>Wx<|Wm .nil ?_
 exact gw.fb.fb
theorem abM (hQ:BaseQ P K F T){v:AV}{k:Int}(hv:partCells 1 v=some [v]):bB P K (F 211) [v,iv k] s (λw s'=>∃b b',w=.func (F 239) [] [.ptr (some ⟨b,0,0⟩),.ptr (some ⟨b',0,0⟩)]/\s'=(b',.r false [[iv k]] 1)::(b,.r false [[v]] 1)::s):=by
 refine hQ.f211.dT ?_
 unfold afV
 refine Wq<|Wa (.box rfl hv) λb2=>Wa (.box rfl rfl) λb3=>Wv rfl<|Wn ?_
 refine Wq<|Wr (.mkfn rfl rfl)<|Wv rfl<|Wn<|We<|Wm (.tmp rfl .nil) ?_
 exact⟨b2,b3,rfl,rfl⟩
theorem aa2 (hX:BdX P K F T tF g C d)(hno:∀c∈C,c.ab=[])(hf:Has bf (.r false [bu bl aZ c0 c1 c2 c3 c4 bE] 8) t)(eQ:cI t aZ C)(hs:aH bl EL d t s){k id p:Int}(q7:binV .lss (iv k) (iv 1)=some (.bool false))(hk2:binV .gtr (iv k) (iv 6)=some (.bool false)) :
  bB P K (F 176) [gm tF bf,iv k,iv id,iv p] s (λv s'=>lenOf v=some 0/\aH bl EL d t s'):=by
 refine hX.hQ.f176.ZH ?_
 unfold afQ
 refine Wq<|Wa (.box rfl rfl) λb6=>Wa (.box rfl rfl) λb7=>Wv rfl<|Wn ?_
 refine Ws<|Wq<|Wv rfl<|Wh (b:=false) rfl rfl rfl<|Wv rfl<|Wy<|Wv rfl<|Wy<|Wj rfl rfl q7<|Wr (.bj rfl rfl)<|Wv rfl<|Wy<|Wv rfl<|Wy<|Wj rfl rfl hk2<|Wr (.bj rfl rfl)<|Wn<|Wd rfl fS<|λ_=>Wi ?_
 refine Wq<|Wa .mkmap λb23=>Wr (.mkfn rfl rfl)<|Ww<|WS.ins rfl rfl rfl .here rfl<|Wr (.mkfn rfl rfl)<|Ww<|WS.ins rfl rfl rfl .here rfl<|Ww<|WS.ins rfl rfl rfl .here rfl<|Wv rfl<|Wa (.alloc rfl) λb9=>Ww<|Wt (s':=(b9,.r false [[AV.map (some b23)]] 1)::_) rfl rfl rfl .here rfl rfl<|Wn ?_
 refine Wq<|Wa (.alloc rfl) λsf=>Wn ?_
 refine Ws<|Wq<|Wv rfl<|Wv rfl ?_
 refine Ww<|W1 (abM hX.hQ rfl) ?_
 rintro _ _ ⟨b29,c29,rfl,rfl⟩
 refine Wn ?_
 have nr:∀es,aH bl EL d ((c29,.r false [[iv k]] 1)::(b29,.r false [[gm tF bf]] 1)::(sf,.r false [[nilS]] 1)::t) ((c29,.r false [[iv k]] 1)::(b29,.r false [[gm tF bf]] 1)::(sf,.r false [[nilS]] 1)::(b9,.r false [[AV.map (some b23)]] 1)::(b23,.m es)::(b7,.r false [[iv p]] 1)::(b6,.r false [[iv id]] 1)::s):=by
  intro es
  have h0:aH bl EL d t ((b9,.r false [[AV.map (some b23)]] 1)::(b23,.m es)::(b7,.r false [[iv p]] 1)::(b6,.r false [[iv id]] 1)::s):=aH.bK (m:=[_,_,_,_]) hs
  exact h0.cons.cons.cons
 refine Wb ?_
 refine Wg (l':=[(10,.ptr<|some ⟨sf,0,0⟩),(29,.func (F 239) [] [.ptr (some ⟨b29,0,0⟩),.ptr<|some ⟨c29,0,0⟩])]) (bq rfl) (λ_ _ h=>h) ?_
 generalize hl1:[(10,AV.ptr<|some ⟨sf,0,0⟩),(29,AV.func (F 239) [] [.ptr (some ⟨b29,0,0⟩),.ptr<|some ⟨c29,0,0⟩])]=l1
 refine WP.rf (first:=[]) (cap:=[.ptr (some ⟨b29,0,0⟩),.ptr<|some ⟨c29,0,0⟩]) (by rw[<- hl1];rfl) λasg body ha hb D lb=>?_
 have dt:=λes=>((nr es).cons (p:=(D,.ob .deferred))).cons (p:=(lb,.lp l1 60 [30] asg body .ready none D))
 refine bB.canon<|(aa9 hX hno (.there<|.there<|.there<|.there<|.there hf) (eQ.mono λq hq=>by simp[hq]) (dt _) (y:=.yield lb) (b2:=b29) (b3:=c29) (k:=k) (.there<|.there<|.there .here)<|.there<|.there .here).post ?_
 rintro _ s9 hs9
 obtain⟨u,hu,ot⟩:=hs9.split
 refine⟨(lb,.lp l1 60 [30] asg body .ready none D)::(u++((D,.ob .deferred)::(c29,.r false [[iv k]] 1)::(b29,.r false [[gm tF bf]] 1)::(sf,.r false [[nilS]] 1)::t)),ak (λc w h0 h1 h2 hq=>by have:=hq _ _ hu;simp only[h1,h2]at this |-;omega),l1,.ready,none,_,rfl,(λh=>LoopState.noConfusion h),?_⟩
 subst hl1
 refine Wq<|Wl rfl (.there<|.app<|.there<|.there<|.there .here) rfl rfl rfl<|Wv rfl<|Wn<|We ?_
 refine⟨[D],(lb,.gone)::(u++((c29,.r false [[iv k]] 1)::(b29,.r false [[gm tF bf]] 1)::(sf,.r false [[nilS]] 1)::t)),rfl,ak (λc w h0 h1 h2 hq=>by simp only[h1,h2,h0,List.map_cons,List.map_nil];omega),[nilS],.tmp rfl .nil,rfl,?_⟩
 exact aH.bK (m:=[_,_])<|aH.fb (x:=[_,_,_])<|ot _
theorem aau (hX:BdX P K F T tF g C d)(hno:∀c∈C,c.ab=[])(hf:Has bf (.r false [bu bl aZ c0 c1 c2 c3 c4 bE] 8) t)(eQ:cI t aZ C)(hs:aH bl EL d t s){k id p:Int}(q7:binV .lss (iv k) (iv 1)=some (.bool false))(hk2:binV .gtr (iv k) (iv 6)=some (.bool false)) :
  bB P K (F 128) [gm tF bf,iv k,iv id,iv p] s (λ_ s'=>aH bl EL d t s'):=by
 refine hX.hQ.f128.dT ?_
 unfold afM
 refine Wq<|Wv rfl<|Wv rfl<|Wv rfl<|Wv rfl ?_
 refine Ww<|W1 (aa2 hX hno hf eQ hs q7 hk2) ?_
 rintro v s2 ⟨hl,dt⟩
 refine Wr (.lenS rfl hl)<|Wv rfl<|Wn<|Wb ?_
 refine WP.dA ?_
 refine Wq<|Wj rfl rfl (eT _ _)<|Wn ?_
 refine Ws<|Wd rfl fS<|λ_=>Wx<|Wm .nil ?_
 exact dt
theorem R2 (hE:GE P K F T tF g C d)(hP:BaseP P K F T)(hf:Has bf (.r false [bu bl aZ c0 c1 c2 c3 c4 bE] 8) t)(hs:aH bl EL d t s){id:Int}{o:OD}(ho:d.obj id=some o) :
  bB P K (F 127) [gm tF bf,iv id] s (λv s'=>v=.tuple [.agg o.row,.bool<|decide<|o.ci=2]/\aH bl EL d t s'):=by
 refine hP.f127.dT ?_
 unfold afL
 refine Wq<|Wa (.alloc rfl) λb4=>Wv rfl<|Wn ?_
 refine Ws<|Wq<|Wv rfl<|Wh (b:=false) rfl rfl rfl<|Wn<|Wd rfl fS<|λ_=>Wi ?_
 refine Wq<|Wv rfl<|Wv rfl ?_
 refine Ww<|WS.invoke (vs:=[iv id]) rfl (hE.hM.obj ) rfl ( Qq hE.hB hE.hC hs.cons hE.hd (.there hf)) ?_
 rintro _ s2 ⟨hv,dt⟩
 rw[ho]at hv
 subst hv
 obtain⟨s3,hp,gw⟩:=dt.first
 refine WO.pre hp ?_
 refine Wv rfl<|Wr (.extract rfl rfl)<|Wr (.extract rfl rfl)<|Wa (.alloc rfl) λb6=>Ww<|Wt (s':=(b6,.r false [OD.row o] 14)::_) rfl rfl rfl .here rfl rfl<|Wv rfl<|Wn ?_
 refine Ws<|WP.bD<|Dl rfl .nil (.load (cs:=OD.row o) rfl .here rfl rfl rfl)<|Dp (.mv rfl)<|Dp (.mv rfl)<|Dy<|Dp (.faddr rfl)<|Dy<|WD.lk rfl .nil (.load rfl .here rfl rfl rfl)<|Dy<|Dp (.eql rfl rfl<|bb _ _)<|Dp (.cV rfl rfl)<|Dc .nil<|Wt (s':=_::(b4,.r false [OD.row o] 14)::_) rfl rfl rfl (.there .here) rfl rfl<|Dp (.mv rfl) ?_
 refine D0 .nil ?_ ?_
 rotate_left
 ·intro x hx
  rw[List.mem_singleton.1 hx]
  refine⟨(λi hi=>nomatch hi),Nat.zero_le _,abl _,λk _ hk=>?_⟩
  rcases cD hk with rfl|rfl
  ·exact⟨_,rfl,.load rfl .here rfl rfl rfl⟩
  ·exact⟨_,rfl,.load rfl .here rfl rfl rfl⟩
 refine We<|Wm (.cell rfl hE.hB.t45.1 hE.hB.t45.2 (.inl rfl) (.there .here) rfl rfl rfl<|.tmp rfl .nil) ?_
 exact⟨rfl,aH.bK (m:=[_,_]) gw⟩
theorem adk (hB:Base P K F T)(hX:BaseX P K F T){a:Int}{i:Nat}{o:OD}(hd:d.Small)(he:d.kQ)(hi:d.find a=some i)(ho:d.ob[i]?=some o)(hz:o.ci=2)(hT:∀s,bB P K (F 201) [.agg (evRow 3 a 0 1 0 it0)] s (λv s'=>v=iv 0/\s'=s)) :
  Ap P K F 3 a 0 1 0 it0 d { d with ob:=d.ob.set i { o with RU:=decide ((1:Int)=1) } }:=
 L0 (k:=3) hB hX hd he (.inl ⟨rfl,rfl⟩) hi ho hz (λhu hr=>ac0 hX hu hr) hT
theorem aby {d:SD}{i:Nat}{o o':OD}(ho:d.ob[i]?=some o)(hid:o'.id=o.id)(id:Int):({ d with ob:=d.ob.set i o' }:SD).find id=d.find id:=by
 have hm:(d.ob.set i o').map OD.id=d.ob.map OD.id:=by
  rw[List.map_set,hid]
  refine List.ext_getElem? λj=>?_
  rw[List.getElem?_set]
  split
  ·rename_i e
   subst e
   split
   ·rw[List.getElem?_map,ho];rfl
   ·rename_i h
    rw[List.length_map]at h
    exact absurd (List.getElem?_eq_some_iff.1 ho).1 h
  ·rfl
 have key:∀l:List OD,l.findIdx? (λo=>decide<|o.id=id)=(l.map OD.id).findIdx? λa=>decide (a=id):=λl=>(findIdx?_map' OD.id (λa=>decide<|a=id) l).symm
 show(d.ob.set i o').findIdx? _=d.ob.findIdx? _
 rw[key,key,hm]
theorem abr (hX:BdX P K F T tF g C d)(hBX:BaseX P K F T)(hR:BaseR P K F T)(hP:BaseP P K F T)(hno:∀c∈C,c.ab=[])(hf:Has bf (.r false [bu bl aZ c0 c1 c2 c3 c4 bE] 8) t)(eQ:cI t aZ C)(hs:aH bl EL d t s){id:Int}{q:Nat}{i:Nat}{o:OD}(hEL:EL.length<=900)(hi:d.find id=some i)(ho:d.ob[i]?=some o)(hz:o.ci=2)
  {d1:SD} (hd1:d1={ d with ob:=d.ob.set i { o with NP:=.ofNat (q+1) } }) (hX1:BdX P K F T tF g C d1) {x:CH} (vo:uY g d1 C id=some x) {d2:SD} (hd2:d2=if qa 16 x.k then{ d with ob:=d.ob.set i { o with NP:=.ofNat<|q+1,RU:=true } }else d1) (hX2:BdX P K F T tF g C d2) (hq:q<=1000)
  (hA:∀s,bB P K (F 201) [.agg (evRow 12 id (.ofNat<|q+1) 0 0 it0)] s<|λv s'=>v=iv 0/\s'=s) (hT:∀s,bB P K (F 201) [.agg (evRow 3 id 0 1 0 it0)] s<|λv s'=>v=iv 0/\s'=s) :
  bB P K (F 83) [gm tF bf,.agg (⟨9,id,.ofNat q⟩:OT).row] s (λ_ s'=>∃Gg,Gg.length<=EL.length+2/\aH bl Gg d2 t s'):=by
 have aaP:d.obj id=some o:=by unfold SD.obj;rw[hi];exact ho
 refine hP.f83.dT ?_
 unfold a83
 refine Wq<|Wa (.box rfl rfl) λb3=>Wn ?_
 refine Wq<|Wv rfl<|Wf rfl<|Wl rfl .here rfl rfl rfl ?_
 refine Ww<|W1 (R2 hX.hE hP (.there hf) hs.cons aaP) ?_
 rintro _ s2 ⟨rfl,dt⟩
 rw[show decide (o.ci=2)=true from decide_eq_true hz]
 refine Wv rfl<|Wr (.extract rfl rfl)<|Wr (.extract rfl rfl)<|Wa (.alloc rfl) λb4=>Ww<|Wt (s':=(b4,.r false [OD.row o] 14)::_) rfl rfl rfl .here rfl rfl<|Wv rfl<|Wn ?_
 refine Ws<|Wq<|Wv rfl<|Wr (.un rfl rfl)<|Wv rfl<|Wy<|Wf rfl<|Wy<|Wl rfl (.there<|dt.mem .here) rfl rfl rfl<|Wy<|Wh (b:=true) rfl rfl rfl<|Wr (.bj rfl rfl)<|Wn<|Wd rfl fS<|λ_=>Wi ?_
 refine Wq<|Wv rfl<|Wf rfl<|Wl rfl (.there<|dt.mem .here) rfl rfl rfl<|Wf rfl<|Wl rfl (.there<|dt.mem .here) rfl rfl rfl<|Wj rfl rfl (bM<|by omega)<|Wr (.build (cs:=evRow (Int.ofNat 12) (OT.a<|OT.mk 9 id<|Int.ofNat q) (Int.ofNat<|q+1) 0 0 it0) rfl rfl) ?_
 have gw:aH bl EL d ((b4,.r false [o.row] 14)::(b3,.r false [(⟨9,id,.ofNat q⟩:OT).row] 3)::t) ((b4,.r false [o.row] 14)::s2):=dt.cons
 have hap:Ap P K F 12 id (.ofNat<|q+1) 0 0 it0 d d1:=by
  rw[hd1]
  exact L0 (k:=12) hX.hE.hB hBX hX.hE.hd hX.hE.he (.inr<|.inr<|.inr<|.inr<|.inl ⟨rfl,rfl⟩) hi ho hz (λhu hr=>abb hBX hu hr) hA
 refine Ww<|WS.invoke (vs:=[AV.agg (evRow (Int.ofNat 12) (OT.a<|OT.mk 9 id<|Int.ofNat q) (Int.ofNat<|q+1) 0 0 it0)]) rfl (hX.do_ ) rfl ( x6 hX.hE.hB gw hX.hE.hd (.there<|.there hf) (by omega) (by decide) (by decide) (by decide) (by decide) hap) ?_
 rintro _ s4 ⟨_,pM⟩
 refine Wn ?_
 refine Ws<|Wq<|Wv rfl<|Wf rfl<|Wl rfl (pM.mem<|.there .here) rfl rfl rfl ?_
 refine Ww<|WS.invoke (vs:=[iv (OT.a<|OT.mk 9 id<|Int.ofNat q)]) rfl (hX1.hE.hM.chars ) rfl ( pE hX1.hE.hB hX1.hE.hC hX1.hE.hT pM hX1.hE.hd (.there<|.there hf) (eQ.mono λq hq=>by simp[hq]) hX1.hE.hO) ?_
 rintro _ s5 ⟨hv5,tn⟩
 rw[vo]at hv5
 subst hv5
 refine Wv rfl<|Wr (.extract rfl rfl)<|Wr (.extract rfl rfl)<|Wa (.alloc rfl) λb6=>Ww<|Wt (s':=(b6,.r false [CH.row x] 3)::_) rfl rfl rfl .here rfl rfl<|Wv rfl<|Wn ?_
 refine Wq<|Wv rfl<|Wv rfl<|Wy<|Wf rfl<|Wy<|Wl rfl .here rfl rfl rfl<|Wy ?_
 have KL:aH bl (EL++[evRow 12 id (.ofNat<|q+1) 0 0 it0]) d1 ((b6,.r false [x.row] 3)::(b4,.r false [o.row] 14)::(b3,.r false [(⟨9,id,.ofNat q⟩:OT).row] 3)::t) ((b6,.r false [x.row] 3)::s5):=tn.cons
 obtain⟨n,hn1,hn2⟩:=abN x.k 16
 have hn0:eqBy 20 .pi (iv n) (iv 0)=some (qa 16 x.k):=by rw[bb,<- hn2]
 cases hb:qa 16 x.k with
 | false=>
  rw[hb]at hn0 hd2
  have hd2:d2=d1:=hd2
  subst hd2
  refine Wj rfl rfl hn1<|Wy<|Wh rfl rfl hn0<|Wr (.cV rfl rfl)<|Wn<|Wd rfl fS<|λ_=>Wi<|Wo<|Wv rfl<|Wf rfl<|Wl rfl (.there<|tn.mem<|.there .here) rfl rfl rfl<|Wf rfl<|Wl rfl (.there<|tn.mem .here) rfl rfl rfl ?_
  refine Ww<|W1 (aau hX2 hno (.there<|.there<|.there hf) (eQ.mono λq hq=>by simp[hq]) KL rfl rfl) ?_
  rintro _ s7 hs7
  refine Wn<|Wm .nil ?_
  exact⟨_,by rw[List.length_append];show EL.length+1<=_;omega,hs7.tail.tail.tail⟩
 | true=>
  rw[hb]at hn0 hd2
  refine Wj rfl rfl hn1<|Wy<|Wh rfl rfl hn0<|Wr (.cV rfl rfl)<|Wn<|Wd rfl (λ_=>Wo<|Wv rfl<|Wf rfl<|Wl rfl (.there<|tn.mem<|.there .here) rfl rfl rfl<|Wr (.build (cs:=evRow (Int.ofNat 3) (OT.a<|OT.mk 9 id<|Int.ofNat q) 0 (Int.ofNat 1) 0 it0) rfl rfl) ?_) Dz
  have h3:d1.find id=some i:=by rw[hd1];exact(aby (o':={ o with NP:=.ofNat (q+1) }) ho rfl id).trans hi
  have ae9:Ap P K F 3 id 0 1 0 it0 d1 d2:=by
   obtain⟨o1,Gt⟩:∃o1:OD,o1={ o with NP:=.ofNat (q+1) }:=⟨_,rfl⟩
   have aff:d1.ob[i]?=some o1:=by
    rw[hd1,Gt]
    exact List.getElem?_set_self (List.getElem?_eq_some_iff.1 ho).1
   have hde:d2={ d1 with ob:=d1.ob.set i { o1 with RU:=decide ((1:Int)=1) } }:=by
    rw[hd2,hd1,Gt]
    show _={ d with ob:=(d.ob.set i _).set i _ }
    rw[List.set_set]
    rfl
   have h5:=@adk P K F T d1 hX.hE.hB hBX id i o1 hX1.hE.hd hX1.hE.he h3 aff (by rw[Gt];exact hz) hT
   rw[hde]
   clear hap hd2 hde hX2 hd1 hX1 vo hA
   exact@h5
  refine Ww<|WS.invoke (vs:=[AV.agg (evRow (Int.ofNat 3) (OT.a<|OT.mk 9 id<|Int.ofNat q) 0 (Int.ofNat 1) 0 it0)]) rfl (hX.do_ ) rfl ( x6 hX.hE.hB KL hX1.hE.hd (.there<|.there<|.there hf) (by rw[List.length_append];show EL.length+1<=_;omega) (by decide) (by decide) (by decide) (by decide) ae9) ?_
  rintro _ s7 ⟨_,hs7⟩
  refine Wn<|Wo<|Wv rfl<|Wf rfl<|Wl rfl (hs7.mem<|.there<|.there .here) rfl rfl rfl<|Wf rfl<|Wl rfl (hs7.mem<|.there .here) rfl rfl rfl ?_
  refine Ww<|W1 (aau hX2 hno (.there<|.there<|.there hf) (eQ.mono λq hq=>by simp[hq]) hs7 rfl rfl) ?_
  rintro _ s8 hs8
  refine Wn<|Wm .nil ?_
  exact⟨_,by rw[List.length_append,List.length_append];show EL.length+1+1<=_;omega,hs8.tail.tail.tail⟩
theorem acx (hB:Base P K F T)(hX:BaseX P K F T)(hR:BaseR P K F T){a:Int}{i:Nat}{o:OD}(hd:d.Small)(he:d.kQ)(hi:d.find a=some i)(ho:d.ob[i]?=some o)(hz:o.ci=2)(hT:∀s,bB P K (F 201) [.agg (evRow 14 a 0 1 0 it0)] s (λv s'=>v=iv 0/\s'=s)) :
  Ap P K F 14 a 0 1 0 it0 d { d with ob:=d.ob.set i { o with J9:=decide ((1:Int)=1) } }:=
 L0 (k:=14) hB hX hd he (.inr<|.inr<|.inr<|.inr<|.inr ⟨rfl,rfl⟩) hi ho hz (λhu hr=>ab8 hR hu hr) hT
theorem abO (hX:BdX P K F T tF g C d)(hBX:BaseX P K F T)(hR:BaseR P K F T)(hP:BaseP P K F T)(hf:Has bf (.r false [bu bl aZ c0 c1 c2 c3 c4 bE] 8) t)(hs:aH bl EL d t s){a b:Int}{i j:Nat}{o o2:OD}(hEL:EL.length<=900)(hi:d.find a=some i)(ho:d.ob[i]?=some o)(hz:o.ci=2)(hj:d.find b=some j)(ho2:d.ob[j]?=some o2)(pN:o2.ci=2)(hij:i≠j)
  {d1:SD} (hd1:d1={ d with ob:=d.ob.set i { o with block:=b } }) (hX1:BdX P K F T tF g C d1) {d2:SD} (hd2:d2=if o2.J9 then d1 else{ d1 with ob:=d1.ob.set j { o2 with J9:=true } })
  (hA:∀s,bB P K (F 201) [.agg (evRow 13 a b 0 0 it0)] s<|λv s'=>v=iv 0/\s'=s) (hT:∀s,bB P K (F 201) [.agg (evRow 14 b 0 1 0 it0)] s<|λv s'=>v=iv 0/\s'=s) :
  bB P K (F 84) [gm tF bf,.agg (⟨10,a,b⟩:OT).row] s (λ_ s'=>∃Gg,Gg.length<=EL.length+2/\aH bl Gg d2 t s'):=by
 have aaP:d.obj a=some o:=by unfold SD.obj;rw[hi];exact ho
 have adI:d.obj b=some o2:=by unfold SD.obj;rw[hj];exact ho2
 refine hP.f84.dT ?_
 unfold a84
 refine Wq<|Wa (.box rfl rfl) λb3=>Wn ?_
 refine Wq<|Wv rfl<|Wf rfl<|Wl rfl .here rfl rfl rfl ?_
 refine Ww<|W1 (R2 hX.hE hP (.there hf) hs.cons aaP) ?_
 rintro _ s2 ⟨rfl,dt⟩
 rw[show decide (o.ci=2)=true from decide_eq_true hz]
 refine Wv rfl<|Wr (.extract rfl rfl)<|Wr (.extract rfl rfl)<|Wa (.alloc rfl) λb4=>Ww<|Wt (s':=(b4,.r false [OD.row o] 14)::_) rfl rfl rfl .here rfl rfl<|Wv rfl<|Wn ?_
 refine Wq<|Wv rfl<|Wf rfl<|Wl rfl (.there<|dt.mem .here) rfl rfl rfl ?_
 have gw:aH bl EL d ((b4,.r false [o.row] 14)::(b3,.r false [(⟨10,a,b⟩:OT).row] 3)::t) ((b4,.r false [o.row] 14)::s2):=dt.cons
 refine Ww<|W1 (R2 hX.hE hP (.there<|.there hf) gw adI) ?_
 rintro _ s4 ⟨rfl,pM⟩
 rw[show decide (o2.ci=2)=true from decide_eq_true pN]
 refine Wv rfl<|Wr (.extract rfl rfl)<|Wr (.extract rfl rfl)<|Wa (.alloc rfl) λb6=>Ww<|Wt (s':=(b6,.r false [OD.row o2] 14)::_) rfl rfl rfl .here rfl rfl<|Wv rfl<|Wn ?_
 refine Ws<|Wq<|Wv rfl<|Wr (.un rfl rfl)<|Wv rfl<|Wy<|Wv rfl<|Wy<|Wr (.un rfl rfl)<|Wr (.bj rfl rfl)<|Wv rfl<|Wy<|Wf rfl<|Wy<|Wl rfl (.there<|pM.mem<|.there .here) rfl rfl rfl<|Wy<|Wh (b:=true) rfl rfl rfl<|Wr (.bj rfl rfl)<|Wn<|Wd rfl fS<|λ_=>Wi ?_
 refine Wq<|Wv rfl<|Wf rfl<|Wl rfl (.there<|pM.mem<|.there .here) rfl rfl rfl<|Wf rfl<|Wl rfl (.there<|pM.mem<|.there .here) rfl rfl rfl<|Wr (.build (cs:=evRow (Int.ofNat 13) (OT.a<|OT.mk 10 a b) (OT.b<|OT.mk 10 a b) 0 0 it0) rfl rfl) ?_
 have tn:aH bl EL d ((b6,.r false [o2.row] 14)::(b4,.r false [o.row] 14)::(b3,.r false [(⟨10,a,b⟩:OT).row] 3)::t) ((b6,.r false [o2.row] 14)::s4):=pM.cons
 have hap:Ap P K F 13 a b 0 0 it0 d d1:=by
  rw[hd1]
  exact adi hX.hE.hB hBX hR hX.hE.hd hX.hE.he hi ho hz (.inr ⟨j,o2,hj,ho2,pN⟩) hA
 refine Ww<|WS.invoke (vs:=[AV.agg (evRow (Int.ofNat 13) (OT.a<|OT.mk 10 a b) (OT.b<|OT.mk 10 a b) 0 0 it0)]) rfl (hX.do_ ) rfl ( x6 hX.hE.hB tn hX.hE.hd (.there<|.there<|.there hf) (by omega) (by decide) (by decide) (by decide) (by decide) hap) ?_
 rintro _ s6 ⟨_,KL⟩
 cases hb:o2.J9 with
 | true=>
  have Se:bV 1 (cu 12 o2.row)=some [.bool true]:=by show some [AV.bool o2.J9]=_;rw[hb]
  rw[hb]at hd2
  have hd2:d2=d1:=hd2
  subst hd2
  refine Wn ?_
  refine Wq<|Wf rfl<|Wl rfl (KL.mem .here) rfl Se rfl<|Wr (.un rfl rfl)<|Wn<|Wd rfl fS<|λ_=>Wi<|Wm .nil ?_
  exact⟨_,by rw[List.length_append];show EL.length+1<=_;omega,KL.tail.tail.tail⟩
 | false=>
  have Se:bV 1 (cu 12 o2.row)=some [.bool false]:=by show some [AV.bool o2.J9]=_;rw[hb]
  rw[hb]at hd2
  refine Wn ?_
  refine Wq<|Wf rfl<|Wl rfl (KL.mem .here) rfl Se rfl<|Wr (.un rfl rfl)<|Wn<|Wd rfl (λ_=>Wo<|Wv rfl<|Wf rfl<|Wl rfl (KL.mem<|.there<|.there .here) rfl rfl rfl<|Wr (.build (cs:=evRow (Int.ofNat 14) (OT.b<|OT.mk 10 a b) 0 (Int.ofNat 1) 0 it0) rfl rfl) ?_) Dz
  have aff:d1.ob[j]?=some o2:=by
   rw[hd1]
   show(d.ob.set i _)[j]?=_
   rw[List.getElem?_set_ne hij]
   exact ho2
  have ae9:Ap P K F 14 b 0 1 0 it0 d1 d2:=by
   have hde:d2={ d1 with ob:=d1.ob.set j { o2 with J9:=decide ((1:Int)=1) } }:=hd2
   have h5:=@acx P K F T d1 hX.hE.hB hBX hR b j o2 hX1.hE.hd hX1.hE.he (by rw[hd1];exact(aby (o':={ o with block:=b }) ho rfl b).trans hj) aff pN hT
   rw[hde]
   exact@h5
  refine Ww<|WS.invoke (vs:=[AV.agg (evRow (Int.ofNat 14) (OT.b<|OT.mk 10 a b) 0 (Int.ofNat 1) 0 it0)]) rfl (hX.do_ ) rfl ( x6 hX.hE.hB KL hX1.hE.hd (.there<|.there<|.there hf) (by rw[List.length_append];show EL.length+1<=_;omega) (by decide) (by decide) (by decide) (by decide) ae9) ?_
  rintro _ s7 ⟨_,hs7⟩
  refine Wn<|Wm .nil ?_
  exact⟨_,by rw[List.length_append,List.length_append];show EL.length+1+1<=_;omega,hs7.tail.tail.tail⟩
structure HT where
 id:Int
 pl:Int
 n:Int
@[reducible] def HT.row (o:HT):List AV:=[iv o.id,iv o.pl,iv o.n]
def htR (l:List HT):List (List AV):=l.map HT.row
def btR (l:List BT):List (List AV):=l.map BT.row
theorem aes (a b:List HT):htR (a++b)=htR a++htR b:=by simp[htR]
def uS (a b:Int):Int:=match ilt a b with | true=>b | false=>a
def mnI (a b:Int):Int:=match ilt b a with | true=>b | false=>a
theorem x7 (a b:Int):uS a b=max a b:=by
 unfold uS
 rw[du]
 by_cases h:a<b
 ·rw[decide_eq_true h];show b=_;omega
 ·rw[decide_eq_false h];show a=_;omega
theorem aaU (a b:Int):mnI a b=min a b:=by
 unfold mnI
 rw[du]
 by_cases h:b<a
 ·rw[decide_eq_true h];show b=_;omega
 ·rw[decide_eq_false h];show a=_;omega
def acq (id:Int):List AV->Bool
 | [_,_,_,_,_,_,_,_,_,_,_,.int _ b,_,_,_,_,_]=>!decide (b=id)
 | _=>false
def byT (L:List BT)(x:BT):List BT:=L.filter λy=>decide (y.o.block=x.o.id)
def nq (tr:Bool):Int->List BT->List HT × Int
 | left,[]=>([],left)
 | left,y::r=>
  let n:=if !r.isEmpty||tr then mnI left (uS (y.c.t-y.o.Y6) 0)else left
  (⟨y.o.id,0,n⟩::(nq tr (left-n) r).1,(nq tr (left-n) r).2)
def ofT (L:List BT)(x:BT):List HT:=
 let d:=nq (!qa 8 x.c.k) (uS x.c.p 0)<|byT L x
 d.1++((if !qa 8 x.c.k||((byT L x).isEmpty && !x.o.J9)then [⟨0,x.o.NP-1,d.2⟩]else [])++(byT L x).map λy=>⟨x.o.id,0,uS y.c.p 0⟩)
structure BB (y:BT):Prop where
 p:-1000000<=y.c.p/\y.c.p<=1000000
 t:-1000000<=y.c.t/\y.c.t<=1000000
 h:-1000000<=y.o.Y6/\y.o.Y6<=1000000
 a:-1000000<=y.o.NP/\y.o.NP<=1000000
theorem BaseP.ahg (hP:BaseP P K F T):FnK P K (F 179) 8 [.tmp 2] (fc 17 136 aai):=hP.f179
theorem BaseP.ahf (hP:BaseP P K F T):FnK P K (F 178) 42 [.tmp 4] (xp true (F 212) 17 aai):=hP.f178
theorem BaseP.ahh (hP:BaseP P K F T):FnK P K (F 212) 19 [.tmp 4] (CU true 17):=hP.f212
theorem Ue (hP:BaseP P K F T){H N:List HT}{lv av xv:AV}{og m0:SH}{bF:Nat}(hG:GrE 3 lv (htR H) og)(hx:Src (((bF,.r false [[lv,av]] 2)::m0)++(og++t)) 3 xv (htR N))(hn:H.length+N.length<=901000) :
  bB P K (F 181) [.ptr (some ⟨bF,0,0⟩),xv] (((bF,.r false [[lv,av]] 2)::m0)++(og++t)) (λ_ s'=>∃nw A9 jk,s'.Perm ((bF,.r false [[nw,av]] 2)::(A9++(jk++(m0++t))))/\GrE 3 nw (htR<|H++N) A9):=by
 refine hP.f181.dT ?_
 unfold afT
 refine Wo<|Wv rfl<|Wv rfl<|Wr (.nilchk rfl rfl)<|Wf rfl<|Wl rfl (.left .here) rfl rfl rfl<|Wv rfl ?_
 refine Ww<|WS.N9 rfl hG rfl hx (by decide) (by simp only[htR,List.length_map];omega) (by decide) λnw A9 jk xB=>?_
 refine Wr (.nilchk rfl rfl)<|Wf rfl ?_
 refine Ww<|Wt (s':=A9++(((bF,.r false [[nw,av]] 2)::m0)++(jk++t))) (row':=[nw,av]) rfl rfl xB.out.src.part (.app<|.left .here) rfl rfl<|Wn<|Wm .nil ?_
 exact⟨nw,A9,jk,zt,by rw[aes];exact xB⟩
theorem abF (hP:BaseP P K F T){y x:BT}{b:Nat}{ro:Bool}(hb:Has b (.r ro [x.row] 17) s):bB P K (F 180) [.agg y.row,.ptr (some ⟨b,0,0⟩)] s (λw s'=>w=.bool (!decide (y.o.block=x.o.id))/\∃m,s'=m++s):=by
 refine hP.f180.dT ?_
 unfold afS
 refine Wq<|Wa (.box rfl rfl) λb2=>Wv rfl<|Wn ?_
 refine Wq<|Wf rfl<|Wf rfl<|Wl rfl .here rfl rfl rfl<|Wf rfl<|Wf rfl<|Wl rfl (.there hb) rfl rfl rfl<|Wh rfl rfl (bb _ _)<|Wv rfl<|Wn<|We<|Wm (.tmp rfl .nil) ?_
 exact⟨rfl,[_],rfl⟩
theorem adv (hP:BaseP P K F T){v:AV}{L:List BT}{x:BT}{m o:SH}{b:Nat}{ro:Bool}(hb:Has b (.r ro [x.row] 17) t)(h:Gr 17 v (btR L) o)(hn:L.length<=1000) :
  bB P K (F 178) [v,.func (F 180) [] [.ptr (some ⟨b,0,0⟩)]] (m++(o++t)) (λv' s'=>∃o' z,s'=z++(m++(o'++t))/\Gr 17 v' (btR<|byT L x) o'):=by
 have dP:∀row∈btR L,∀y:SH,Has b (.r ro [x.row] 17) y->c6 P K (.func (F 180) [] [.ptr (some ⟨b,0,0⟩)]) [N0 true row] y (λw s'=>w=.bool (acq x.o.id row)/\∃m,s'=m++y):=λrow hr y hy=>by
  obtain⟨q,_,rfl⟩:=List.mem_map.1 hr
  exact c6.func<|abF hP hy
 have hlen:∀row∈btR L,row.length=17:=λrow hr=>by
  obtain⟨q,_,rfl⟩:=List.mem_map.1 hr
  rfl
 have vq:(btR L).filter (λr=>!acq x.o.id r)=btR (byT L x):=by
  unfold btR byT
  rw[List.filter_map]
  congr 1
  refine List.filter_congr λy _=>?_
  show(!(!decide (y.o.block=x.o.id)))=_
  rw[Bool.not_not]
 refine hP.ahf.dT<|xq (acq x.o.id) h (by omega) rfl (.inl rfl) (by simp only[btR,List.length_map];omega) hlen (λh=>by cases h) ?_ (λrow hr y hy=>dP row hr y<|.ce<|hy _ hb.mem) λv' o' y hG=>⟨o',y,rfl,by rw[<- vq];exact hG⟩
 exact hP.ahh.dT<|abi (acq x.o.id) h.src (by omega) (.inl rfl) (by simp only[btR,List.length_map];omega) hlen (λrow hr y=>dP row hr _<|.app<|.app<|.app hb) λn=>⟨rfl,n,rfl⟩
theorem WP.mid {a b:AC}(l2:Sl)(h1:WP P K rd nt a l ds s (λl' ds' s'=>ds'=ds/\s'=s/\∀i v,lk l2 i=some v->lk l' i=some v) (λ_ _ _ _=>False) (λ_ _ _=>False))(h2:WP P K rd nt b l2 ds s Qn Qe Qr):WP P K rd nt (.seq a b) l ds s Qn Qe Qr:=
 Ws (WP.post h1 (λl' ds' s'⟨e1,e2,e3⟩=>by subst e1;subst e2;exact Wg e3 (λ_ _ h=>h) h2) (λ_ _ _ _ h=>h.elim)<|λ_ _ _ h=>h.elim)
theorem adS (hX:BaseY P K F T)(hP:BaseP P K F T){L:List BT}{x:BT}{H:List HT}{lv av:AV}{og j W:SH}{bF:Nat}(hL:∀y∈L,BB y)(hx:BB x)(xD:Src W 17 av (btR L))(hn:L.length<=400)(hH:H.length<=500000)(hG:GrE 3 lv (htR H) og) :
  bB P K (F 130) [.ptr (some ⟨bF,0,0⟩),.agg x.row] ((bF,HO.r false [[lv,av]] 2)::(og++(j++W))) (λ_ s'=>∃nw A9 j2,s'.Perm ((bF,HO.r false [[nw,av]] 2)::(A9++(j2++W)))/\GrE 3 nw (htR<|H++ofT L x) A9):=by
 refine hP.f130.dT ?_
 unfold afO
 refine Wq<|Wa (.box rfl rfl) λb3=>Wn ?_
 refine Wq<|Wv rfl<|Wr (.nilchk rfl rfl)<|Wf rfl<|Wl rfl (.there .here) rfl rfl rfl ?_
 refine Ww<|W1 (hP.ahg.clone (xD.mono λq hq=>by simp[hq]) (by decide) (by simp only[btR,List.length_map];omega)<|by decide) ?_
 rintro v16 _ ⟨n1,rfl,hO⟩
 obtain⟨o1,j1,YR,hG1⟩:=hO.grj
 refine WO.pre (s':=j1++(o1++((b3,HO.r false [x.row] 17)::(bF,HO.r false [[lv,av]] 2)::(og++(j++W))))) (ak λc w h0 h1 h2 hq=>by have:=hq _ _ YR;simp only[h1,h2]at this |-;omega) ?_
 refine Wr (.mkfn rfl rfl) ?_
 refine Ww<|W1 (adv hP .here hG1<|by omega) ?_
 rintro v4 _ ⟨o2,z,rfl,xB⟩
 have hby:Src (o2++((b3,HO.r false [x.row] 17)::W)) 17 v4 (btR<|byT L x):=xB.out.src.mono λq hq=>by simp[hq]
 have ahx:(byT L x).length<=400:=Nat.le_trans (List.length_filter_le ..) hn
 have agz:∀y∈byT L x,BB y:=λy hy=>hL y (List.mem_filter.1 hy).1
 refine WO.pre (s':=(bF,HO.r false [[lv,av]] 2)::(og++((z++(j1++j))++(o2++((b3,HO.r false [x.row] 17)::W))))) (zt) ?_
 have ahJ:ofT L x=(nq (!qa 8 x.c.k) (uS x.c.p 0)<|byT L x).1++((if !qa 8 x.c.k||((byT L x).isEmpty && !x.o.J9)then [⟨0,x.o.NP-1,(nq (!qa 8 x.c.k) (uS x.c.p 0)<|byT L x).2⟩]else [])++(byT L x).map λy=>⟨x.o.id,0,uS y.c.p 0⟩):=rfl
 rw[ahJ]
 generalize byT L x=B at hby ahx agz |-
 generalize hj3:z++(j1++j)=j3
 generalize hW2:o2++((b3,HO.r false [x.row] 17)::W)=W2 at hby |-
 have hb3:Has b3 (.r false [x.row] 17) W2:=by rw[<- hW2];exact .app .here
 have hmx:aw (mm true) [iv 0] (iv x.c.p)=some (iv<|uS x.c.p 0):=rfl
 have hl4:lenOf v4=some B.length:=by rw[hby.lenOf];simp[btR]
 refine Wv rfl<|Wn ?_
 refine Ws<|WP.bD<|Dp (.faddr rfl)<|Dp (.faddr rfl)<|WD.lk rfl .nil (.load rfl (.there<|.app<|.app hb3) rfl rfl rfl)<|Dp (.mmx rfl hmx)<|Dl rfl .nil (.load (cs:=BT.row x) rfl (.there<|.app<|.app hb3) rfl rfl rfl) ?_
 refine Dc .nil<|W1 (abe hX) ?_
 rintro _ _ ⟨rfl,m1,rfl⟩
 generalize Y4:(!qa 8 x.c.k)=tr
 refine Dp (.mv rfl)<|Dp (.mv rfl)<|D0 .nil ?_ ?_
 rotate_left
 ·intro o ho
  rw[List.mem_singleton.1 ho]
  refine⟨(λi hi=>nomatch hi),Nat.zero_le _,abl _,λk _ hk=>?_⟩
  rcases cD hk with rfl|rfl
  ·exact⟨_,rfl,.load rfl (.there<|.app<|.app hb3) rfl rfl rfl⟩
  ·exact⟨_,rfl,.load rfl (.app<|.there<|.app<|.app hb3) rfl rfl rfl⟩
 have hbt:BB x:=hx
 have vu:0<=uS x.c.p 0/\uS x.c.p 0<=1000000:=by rw[x7];have:=hx.p;omega
 generalize uS x.c.p 0=adM at vu |-
 have ahn:∀(tr:Bool)(l:List BT)(a:Int),0<=a->0<=(nq tr a l).2/\(nq tr a l).2<=a/\(nq tr a l).1.length=l.length:=by
  intro tr l
  induction l with
  | nil=>intro a ha;exact⟨ha,Int.le_refl _,rfl⟩
  | cons y r ih=>
   intro a ha
   have hnn:0<=(if(!r.isEmpty||tr)=true then mnI a (uS (y.c.t-y.o.Y6) 0)else a)/\(if(!r.isEmpty||tr)=true then mnI a (uS (y.c.t-y.o.Y6) 0)else a)<=a:=by
    split
    ·rw[aaU,x7];omega
    ·omega
   obtain⟨k1,k2,k3⟩:=ih (a-(if(!r.isEmpty||tr)=true then mnI a (uS (y.c.t-y.o.Y6) 0)else a))<|by omega
   exact⟨k1,Int.le_trans k2<|by omega,by show(_::_:List HT).length=_;rw[List.length_cons,List.length_cons,k3]⟩
 obtain⟨hD1,hD2,hD3⟩:=ahn tr B adM vu.1
 generalize hD:nq tr adM B=D at hD1 hD2 hD3 |-
 refine WP.pre (s':=(bF,HO.r false [[lv,av]] 2)::(og++((m1++j3)++W2))) (zt) ?_
 refine Ws<|Wq<|Wv rfl<|Wr (.lenS rfl hl4)<|Wv rfl<|Wn<|Wb ?_
 refine Wp (λk l ds s'=>ds=[]/\∃q lv og j done left,k=B.length-q/\q<=B.length/\s'=(bF,HO.r false [[lv,av]] 2)::(og++(j++W2))/\GrE 3 lv (htR<|H++done) og/\done.length=q/\done++(nq tr left<|B.drop q).1=D.1/\(nq tr left<|B.drop q).2=D.2/\0<=left/\left<=1000000/\∀i w,lk [(0,.ptr<|some ⟨bF,0,0⟩),(3,.ptr<|some ⟨b3,0,0⟩),(4,v4),(5,iv left),(6,.bool tr),(25,v4),(26,iv<|.ofNat B.length),(27,iv<|.ofNat q)] i=some w->lk l i=some w) ?_ (n:=B.length-0)
  ⟨rfl,0,lv,og,m1++j3,[],adM,rfl,Nat.zero_le _,rfl,by rw[List.append_nil];exact hG,rfl,by rw[List.drop_zero,hD];rfl,by rw[List.drop_zero,hD],vu.1,vu.2,bq rfl⟩
 rintro k l ds s5 ⟨rfl,q,lv,og,j,done,left,rfl,hq,rfl,hG,hdl,Up,hdr,Uy,hl1,hl⟩
 refine Wg hl (λ_ _ h=>h) ?_
 refine Wq<|Wj rfl rfl (eT _ _)<|Wn<|Ws<|Wd rfl (λht=>Wi ?_)<|λht=>Wx ?_
 rotate_left
 ·have hge:¬q<B.length:=λh=>of_decide_eq_false ht (Int.ofNat_lt.2 h)
  rw[List.drop_eq_nil_of_le (by omega)]at Up hdr
  have Up:done++[]=D.1:=Up
  have hdr:left=D.2:=hdr
  rw[List.append_nil]at Up
  subst Up
  subst hdr
  have ael:binV .sub (iv x.o.NP) (iv 1)=some (iv<|x.o.NP-1):=act (by have:=hbt.a;omega)
  have agH:∀b,x.o.J9=b->bV 1 (cu 12 x.row)=some [.bool b]:=λb h=>by show some [AV.bool x.o.J9]=_;rw[h]
  have heq:eqBy 20 .pi (iv<|.ofNat B.length) (iv 0)=some B.isEmpty:=by
   rw[bb]
   congr 1
   cases B with
   | nil=>rfl
   | cons a r=>exact decide_eq_false (λh=>by have:=Int.ofNat.inj h;simp at this)
  refine Ws<|WP.post (Qn:=λl ds s'=>ds=[]/\∃lv og j,s'=(bF,HO.r false [[lv,av]] 2)::(og++(j++W2))/\GrE 3 lv (htR<|H++(D.1++(if(tr||(B.isEmpty && !x.o.J9))=true then [⟨0,x.o.NP-1,D.2⟩]else []))) og/\∀i w,lk [(0,.ptr<|some ⟨bF,0,0⟩),(3,.ptr<|some ⟨b3,0,0⟩),(4,v4)] i=some w->lk l i=some w) (Qe:=λ_ _ _ _=>False) (Qr:=λ_ _ _=>False) ?_ ?_ (λ_ _ _ _ h=>h.elim)<|λ_ _ _ h=>h.elim
  ·have no:∀{l9:Sl}{j9:SH},(tr||(B.isEmpty && !x.o.J9))=false->(∀i w,lk [(0,.ptr<|some ⟨bF,0,0⟩),(3,.ptr<|some ⟨b3,0,0⟩),(4,v4)] i=some w->lk l9 i=some w)->([]:List aD)=[]/\∃F8 tM j',(bF,HO.r false [[lv,av]] 2)::(og++(j++W2))=(bF,HO.r false [[F8,av]] 2)::(tM++(j'++W2))/\GrE 3 F8 (htR<|H++(D.1++(if(tr||(B.isEmpty && !x.o.J9))=true then [⟨0,x.o.NP-1,D.2⟩]else []))) tM/\∀i w,lk [(0,.ptr<|some ⟨bF,0,0⟩),(3,.ptr<|some ⟨b3,0,0⟩),(4,v4)] i=some w->lk l9 i=some w:=by
    intro l9 j9 h1 h2
    rw[h1]
    exact⟨rfl,lv,og,j,rfl,by rw[show D.1++(if false=true then [⟨0,x.o.NP-1,D.2⟩] else([]:List HT))=D.1 from List.append_nil _];exact hG,h2⟩
   cases tr with
   | true=>
    refine Wq<|Wv rfl<|Wv rfl<|Wk<|Wk<|Wk<|Wk<|Wu rfl<|Wu rfl<|Wu rfl<|Wu rfl<|Wk<|Wr (.cV rfl rfl)<|Wn<|Wd rfl (λ_=>WP.fd λMq=>Dp (.mv rfl)<|Dp (.nilchk rfl rfl)<|Dp (.faddr rfl)<|Dp (.faddr rfl)<|Dp (.faddr rfl)<|Dl rfl .nil (.load rfl (.there<|.there<|.app<|.app hb3) rfl rfl rfl)<|Dp (.arith rfl rfl ael)<|Dp (.mv rfl)<|Dp (.build rfl rfl) ?_) Dz
    refine WD.al (.bslice (L:=[(⟨0,x.o.NP-1,D.2⟩:HT).row]) (fZ rfl rfl) rfl) rfl ?_
    refine Dc (.yes (show bit 1023 9=true from rfl) rfl .here .nil)<|WS.perm<|WS.pre (s':=((bF,HO.r false [[lv,av]] 2)::[(Mq,HO.r false [(⟨0,x.o.NP-1,D.2⟩:HT).row] 3)])++(og++(j++W2))) (zt)<|W1 (Ue (xv:=.slice (some ⟨Mq,0,0⟩) 1 1 false 3) (bF:=bF) (lv:=lv) (av:=av) (og:=og) (m0:=[(Mq,HO.r false [(⟨0,x.o.NP-1,D.2⟩:HT).row] 3)]) (t:=j++W2) (N:=[⟨0,x.o.NP-1,D.2⟩]) hP hG (Src.all (L:=[(⟨0,x.o.NP-1,D.2⟩:HT).row])<|.left<|.there .here) (by rw[List.length_append];show _+1<=_;omega)) ?_
    rintro _ s6 ⟨nw,A9,jk,hp6,xB⟩
    refine⟨_,hp6,?_⟩
    refine D0 .nil ?_<|λo h=>nomatch h
    refine⟨rfl,nw,A9,jk++([(Mq,HO.r false [(⟨0,x.o.NP-1,D.2⟩:HT).row] 3)]++j),by simp,?_,bq rfl⟩
    rw[<- List.append_assoc]
    exact xB
   | false=>
    cases hB:B.isEmpty with
    | false=>
     rw[hB]at heq no
     refine Wq<|Wv rfl<|Wv rfl<|Wy<|Wv rfl<|Wy<|Wr (.lenS rfl hl4)<|Wy<|Wh rfl rfl heq<|Wy<|Wv rfl<|Wk<|Wk<|Wk<|Wk<|Wy<|Wr (.bj rfl rfl)<|Wr (.bj rfl rfl)<|Wn<|Wd rfl fS<|λ_=>Wi ?_
     exact no (j9:=[]) rfl<|bq rfl
    | true=>
     rw[hB]at heq no
     cases hst:x.o.J9 with
     | true=>
      have Se:=agH _ hst
      rw[hst]at no
      refine Wq<|Wv rfl<|Wv rfl<|Wy<|Wv rfl<|Wy<|Wr (.lenS rfl hl4)<|Wy<|Wh rfl rfl heq<|Wy<|Wv rfl<|Wy<|Wf rfl<|Wy<|Wf rfl<|Wy<|Wl rfl (.there<|.app<|.app hb3) rfl Se rfl<|Wy<|Wr (.un rfl rfl)<|Wy<|Wr (.cV rfl rfl)<|Wr (.bj rfl rfl)<|Wn<|Wd rfl fS<|λ_=>Wi ?_
      exact no (j9:=[]) rfl<|bq rfl
     | false=>
      have Se:=agH _ hst
      refine Wq<|Wv rfl<|Wv rfl<|Wy<|Wv rfl<|Wy<|Wr (.lenS rfl hl4)<|Wy<|Wh rfl rfl heq<|Wy<|Wv rfl<|Wy<|Wf rfl<|Wy<|Wf rfl<|Wy<|Wl rfl (.there<|.app<|.app hb3) rfl Se rfl<|Wy<|Wr (.un rfl rfl)<|Wy<|Wr (.cV rfl rfl)<|Wr (.bj rfl rfl)<|Wn<|Wd rfl (λ_=>WP.fd λMq=>Dp (.mv rfl)<|Dp (.nilchk rfl rfl)<|Dp (.faddr rfl)<|Dp (.faddr rfl)<|Dp (.faddr rfl)<|Dl rfl .nil (.load rfl (.there<|.there<|.app<|.app hb3) rfl rfl rfl)<|Dp (.arith rfl rfl ael)<|Dp (.mv rfl)<|Dp (.build rfl rfl) ?_) Dz
      refine WD.al (.bslice (L:=[(⟨0,x.o.NP-1,D.2⟩:HT).row]) (fZ rfl rfl) rfl) rfl ?_
      refine Dc (.yes (show bit 1023 9=true from rfl) rfl .here .nil)<|WS.perm<|WS.pre (s':=((bF,HO.r false [[lv,av]] 2)::[(Mq,HO.r false [(⟨0,x.o.NP-1,D.2⟩:HT).row] 3)])++(og++(j++W2))) (zt)<|W1 (Ue (xv:=.slice (some ⟨Mq,0,0⟩) 1 1 false 3) (bF:=bF) (lv:=lv) (av:=av) (og:=og) (m0:=[(Mq,HO.r false [(⟨0,x.o.NP-1,D.2⟩:HT).row] 3)]) (t:=j++W2) (N:=[⟨0,x.o.NP-1,D.2⟩]) hP hG (Src.all (L:=[(⟨0,x.o.NP-1,D.2⟩:HT).row])<|.left<|.there .here) (by rw[List.length_append];show _+1<=_;omega)) ?_
      rintro _ s6 ⟨nw,A9,jk,hp6,xB⟩
      refine⟨_,hp6,?_⟩
      refine D0 .nil ?_<|λo h=>nomatch h
      refine⟨rfl,nw,A9,jk++([(Mq,HO.r false [(⟨0,x.o.NP-1,D.2⟩:HT).row] 3)]++j),by simp,?_,bq rfl⟩
      rw[<- List.append_assoc]
      exact xB
  ·rintro l ds s7 ⟨rfl,lv3,og3,j4,rfl,hG3,PN⟩
   refine Wg PN (λ_ _ h=>h) ?_
   refine Wq<|Wv rfl<|Wr (.lenS rfl hl4)<|Wv rfl<|Wn<|Wb ?_
   generalize hmid:D.1++(if(tr||(B.isEmpty && !x.o.J9))=true then [⟨0,x.o.NP-1,D.2⟩]else [])=mid at hG3
   have aiw:mid.length<=401:=by
    rw[<- hmid,List.length_append,hD3]
    split
    ·show _+1<=_;omega
    ·show _+0<=_;omega
   refine Wp (λk l ds s'=>ds=[]/\∃q lv og j,k=B.length-q/\q<=B.length/\s'=(bF,HO.r false [[lv,av]] 2)::(og++(j++W2))/\GrE 3 lv (htR<|H++(mid++(B.take q).map λy=>⟨x.o.id,0,uS y.c.p 0⟩)) og/\∀i w,lk [(0,.ptr<|some ⟨bF,0,0⟩),(3,.ptr<|some ⟨b3,0,0⟩),(88,v4),(89,iv<|.ofNat B.length),(90,iv<|.ofNat q)] i=some w->lk l i=some w) ?_ (n:=B.length-0)
    ⟨rfl,0,lv3,og3,j4,rfl,Nat.zero_le _,rfl,by rw[show mid++((B.take 0).map λy=>(⟨x.o.id,0,uS y.c.p 0⟩:HT))=mid from List.append_nil _];exact hG3,bq rfl⟩
   rintro k l ds s5 ⟨rfl,q,lv,og,j,rfl,hq,rfl,hG,hl⟩
   refine Wg hl (λ_ _ h=>h) ?_
   refine Wq<|Wj rfl rfl (eT _ _)<|Wn<|Ws<|Wd rfl (λht=>Wi ?_)<|λht=>Wx ?_
   rotate_left
   ·have hge:¬q<B.length:=λh=>of_decide_eq_false ht (Int.ofNat_lt.2 h)
    rw[List.take_of_length_le (by omega)]at hG
    refine Wm .nil ⟨lv,og,j++(o2++[(b3,HO.r false [x.row] 17)]),?_,?_⟩
    ·exact ak λc w h0 h1 h2 hq=>by subst hW2;simp only[h1,h2,h0];omega
    ·rw[<- hmid,List.append_assoc]at hG
     exact hG
   have hlt:q<B.length:=Int.ofNat_lt.1<|of_decide_eq_true ht
   have hx:B[q]?=some B[q]:=List.getElem?_eq_getElem hlt
   have htk:B.take (q+1)=B.take q++[B[q]]:=by rw[List.take_add_one,hx];rfl
   generalize B[q]=y at hx htk
   obtain⟨ba,ra,na,ca,J5,Sp,Ma,e4,hba,me,hra⟩:=hby.at (i:=q)<|by simpa[btR]using hlt
   have hrow:Ma[ra+q]?=some y.row:=by rw[hra,btR,List.getElem?_map,hx];rfl
   subst e4
   have hm1:aw (mm true) [iv 0] (iv y.c.p)=some (iv<|uS y.c.p 0):=rfl
   refine Ws<|Wb<|Wq<|Wr (.iaddrS rfl rfl (by omega)<|by decide)<|Wl (cs:=BT.row y) rfl (.there<|.app<|.app hba) hrow rfl rfl<|Wa (.alloc rfl) λb11=>Ww<|Wt (s':=(b11,.r false [BT.row y] 17)::_) rfl rfl rfl .here rfl rfl<|Wn<|WP.fd λMq=>Dp (.mv rfl)<|Dp (.nilchk rfl rfl)<|Dp (.faddr rfl)<|Dp (.faddr rfl)<|Dp (.faddr rfl)<|Dl rfl .nil (.load rfl (.there<|.there<|.there<|.app<|.app hb3) rfl rfl rfl)<|Dp (.faddr rfl)<|Dp (.faddr rfl)<|Dl rfl .nil (.load rfl (.there .here) rfl rfl rfl)<|Dp (.mmx rfl hm1)<|Dp (.build rfl rfl) ?_
   refine WD.al (.bslice (L:=[(⟨x.o.id,0,uS y.c.p 0⟩:HT).row]) (fZ rfl rfl) rfl) rfl ?_
   refine Dc (.yes (show bit 4095 11=true from rfl) rfl .here .nil)<|WS.perm<|WS.pre (s':=((bF,HO.r false [[lv,av]] 2)::[(Mq,HO.r false [(⟨x.o.id,0,uS y.c.p 0⟩:HT).row] 3),(b11,HO.r false [y.row] 17)])++(og++(j++W2))) (zt)<|W1 (Ue (xv:=.slice (some ⟨Mq,0,0⟩) 1 1 false 3) (bF:=bF) (lv:=lv) (av:=av) (og:=og) (m0:=[(Mq,HO.r false [(⟨x.o.id,0,uS y.c.p 0⟩:HT).row] 3),(b11,HO.r false [y.row] 17)]) (t:=j++W2) (N:=[⟨x.o.id,0,uS y.c.p 0⟩]) hP hG (Src.all (L:=[(⟨x.o.id,0,uS y.c.p 0⟩:HT).row])<|.left<|.there .here) (by rw[List.length_append,List.length_append,List.length_map,List.length_take];show _+1<=_;omega)) ?_
   rintro _ s6 ⟨nw,A9,jk,hp6,xB⟩
   refine⟨_,hp6,?_⟩
   refine D0 .nil (Wo<|Wj rfl rfl (bM<|by omega)<|Wv rfl<|Wn ?_)<|λo h=>nomatch h
   refine⟨B.length-(q+1),by omega,rfl,q+1,nw,A9,jk++([(Mq,HO.r false [(⟨x.o.id,0,uS y.c.p 0⟩:HT).row] 3),(b11,HO.r false [y.row] 17)]++j),rfl,hlt,by simp,?_,bq rfl⟩
   rw[htk,List.map_append,<- List.append_assoc mid,<- List.append_assoc H]
   exact xB
 have hlt:q<B.length:=Int.ofNat_lt.1<|of_decide_eq_true ht
 have hx:B[q]?=some B[q]:=List.getElem?_eq_getElem hlt
 have KP:B[q]∈B:=List.getElem_mem _
 have hdq:B.drop q=B[q]::B.drop (q+1):=List.drop_eq_getElem_cons hlt
 rw[hdq]at Up hdr
 generalize B[q]=y at hx KP Up hdr hdq
 have hyb:=agz y KP
 obtain⟨ba,ra,na,ca,J5,Sp,Ma,e4,hba,me,hra⟩:=hby.at (i:=q)<|by simpa[btR]using hlt
 have hrow:Ma[ra+q]?=some y.row:=by rw[hra,btR,List.getElem?_map,hx];rfl
 subst e4
 refine Ws<|Wb<|Wq<|Wv rfl<|Wr (.iaddrS rfl rfl (by omega)<|by decide)<|Wl (cs:=BT.row y) rfl (.there<|.app<|.app hba) hrow rfl rfl<|Wa (.alloc rfl) λb8=>Wv rfl<|Ww<|Wt (s':=(b8,.r false [BT.row y] 17)::_) rfl rfl rfl .here rfl rfl<|Wn ?_
 refine Wq<|Wv rfl<|Wv rfl<|Wn ?_
 have hsub:binV .sub (iv<|.ofNat B.length) (iv 1)=some (iv<|.ofNat<|B.length-1):=by
  have:=Ka (p:=B.length-1)<|by omega
  rwa [show B.length-1+1=B.length by omega]at this
 obtain⟨n,hn⟩:∃n,n=if(!(B.drop<|q+1).isEmpty||tr)=true then mnI left (uS (y.c.t-y.o.Y6) 0)else left:=⟨_,rfl⟩
 have hne:(!(B.drop<|q+1).isEmpty)=decide (q<B.length-1):=by
  have hlen:(B.drop<|q+1).length=B.length-(q+1):=List.length_drop ..
  cases hB:B.drop (q+1) with
  | nil=>
   rw[hB]at hlen
   have hlen:0=B.length-(q+1):=hlen
   rw[decide_eq_false (by omega)]
   rfl
  | cons a r=>
   rw[hB,List.length_cons]at hlen
   rw[decide_eq_true (by omega)]
   rfl
 have hn0:=hn
 rw[hne]at hn
 have hm1:aw (mm true) [iv 0] (iv<|y.c.t-y.o.Y6)=some (iv<|uS (y.c.t-y.o.Y6) 0):=rfl
 have hm2:aw (mm false) [iv (uS (y.c.t-y.o.Y6) 0)] (iv left)=some (iv<|mnI left<|uS (y.c.t-y.o.Y6) 0):=rfl
 have dt:binV .sub (iv y.c.t) (iv y.o.Y6)=some (iv<|y.c.t-y.o.Y6):=act (by have:=hyb.t;have:=hyb.h;omega)
 have hls:binV .lss (iv<|.ofNat q) (iv<|.ofNat<|B.length-1)=some (.bool<|decide<|q<B.length-1):=by
  rw[eT]
  exact congrArg (λb=>some<|AV.bool b)<|decide_eq_decide.2 ⟨λh=>Int.ofNat_lt.1 h,λh=>Int.ofNat_lt.2 h⟩
 refine WP.mid [(0,.ptr<|some ⟨bF,0,0⟩),(3,.ptr<|some ⟨b3,0,0⟩),(4,.slice (some ⟨ba,ra,0⟩) na ca J5 17),(5,iv left),(6,.bool tr),(8,.ptr<|some ⟨b8,0,0⟩),(9,iv n),(25,.slice (some ⟨ba,ra,0⟩) na ca J5 17),(26,iv<|.ofNat B.length),(27,iv<|.ofNat q)] ?_ ?_
 ·cases hd:decide (q<B.length-1) with
  | true=>
   rw[hd]at hls hn
   have hn:n=mnI left (uS (y.c.t-y.o.Y6) 0):=hn
   subst hn
   refine Wq<|Wv rfl<|Wv rfl<|Wr (.lenS rfl hl4)<|Wj rfl rfl hsub<|Wj rfl rfl hls<|Wv rfl<|Wk<|Wr (.cV rfl rfl)<|Wn<|Wd rfl (λ_=>Wo<|Wv rfl<|Wf rfl<|Wf rfl<|Wl rfl .here rfl rfl rfl<|Wf rfl<|Wf rfl<|Wl rfl .here rfl rfl rfl<|Wj rfl rfl dt<|Wr (.mmx rfl hm1)<|Wr (.mmx rfl hm2)<|Wv rfl<|Wn ?_) Dz
   exact⟨rfl,rfl,bq rfl⟩
  | false=>
   rw[hd]at hls hn
   cases tr with
   | true=>
    have hn:n=mnI left (uS (y.c.t-y.o.Y6) 0):=hn
    subst hn
    refine Wq<|Wv rfl<|Wv rfl<|Wr (.lenS rfl hl4)<|Wj rfl rfl hsub<|Wj rfl rfl hls<|Wv rfl<|Wy<|Wv rfl<|Wr (.bj rfl rfl)<|Wn<|Wd rfl (λ_=>Wo<|Wv rfl<|Wf rfl<|Wf rfl<|Wl rfl .here rfl rfl rfl<|Wf rfl<|Wf rfl<|Wl rfl .here rfl rfl rfl<|Wj rfl rfl dt<|Wr (.mmx rfl hm1)<|Wr (.mmx rfl hm2)<|Wv rfl<|Wn ?_) Dz
    exact⟨rfl,rfl,bq rfl⟩
   | false=>
    have hn:n=left:=hn
    subst hn
    refine Wq<|Wv rfl<|Wv rfl<|Wr (.lenS rfl hl4)<|Wj rfl rfl hsub<|Wj rfl rfl hls<|Wv rfl<|Wy<|Wv rfl<|Wr (.bj rfl rfl)<|Wn<|Wd rfl fS<|λ_=>Wi ?_
    exact⟨rfl,rfl,bq rfl⟩
 have hnb:0<=n/\n<=left:=by
  rw[hn]
  split
  ·rw[aaU,x7];omega
  ·omega
 have gw:binV .sub (iv left) (iv n)=some (iv<|left-n):=act<|by omega
 refine Ws<|WP.fd λMq=>Dp (.mv rfl)<|Dp (.nilchk rfl rfl)<|Dp (.faddr rfl)<|Dp (.faddr rfl)<|Dp (.faddr rfl)<|Dl rfl .nil (.load rfl (.there .here) rfl rfl rfl)<|Dp (.mv rfl)<|Dp (.build rfl rfl) ?_
 refine WD.al (.bslice (L:=[(⟨y.o.id,0,n⟩:HT).row]) (fZ rfl rfl) rfl) rfl ?_
 refine Dc (.yes (show bit 511 8=true from rfl) rfl .here .nil)<|WS.perm<|WS.pre (s':=((bF,HO.r false [[lv,av]] 2)::[(Mq,HO.r false [(⟨y.o.id,0,n⟩:HT).row] 3),(b8,HO.r false [y.row] 17)])++(og++(j++W2))) (zt)<|W1 (Ue (xv:=.slice (some ⟨Mq,0,0⟩) 1 1 false 3) (bF:=bF) (lv:=lv) (av:=av) (og:=og) (m0:=[(Mq,HO.r false [(⟨y.o.id,0,n⟩:HT).row] 3),(b8,HO.r false [y.row] 17)]) (t:=j++W2) (N:=[⟨y.o.id,0,n⟩]) hP hG (Src.all (L:=[(⟨y.o.id,0,n⟩:HT).row])<|.left<|.there .here) (by rw[List.length_append];show _+1<=_;omega)) ?_
 rintro _ s6 ⟨nw,A9,jk,hp6,xB⟩
 refine⟨_,hp6,?_⟩
 refine D0 .nil (Wo<|Wv rfl<|Wv rfl<|Wj rfl rfl gw<|Wv rfl<|Wn<|Wo<|Wj rfl rfl (bM<|by omega)<|Wv rfl<|Wn ?_)<|λo h=>nomatch h
 refine⟨B.length-(q+1),by omega,rfl,q+1,nw,A9,jk++([(Mq,HO.r false [(⟨y.o.id,0,n⟩:HT).row] 3),(b8,HO.r false [y.row] 17)]++j),done++[⟨y.o.id,0,n⟩],left-n,rfl,hlt,by simp,by rw[<- List.append_assoc];exact xB,by rw[List.length_append,hdl];rfl,?_,?_,by omega,by omega,bq rfl⟩
 ·rw[<- Up,List.append_assoc]
  congr 1
  rw[hn0]
  rfl
 ·rw[<- hdr,hn0]
  rfl
@[reducible] def aeD:AC:=(.ops [zo 5 (.alloc 17 aai),zn (.store 17 5 7)])
@[reducible] def aeE:AC:=(.block 1 (.ops [zl 8 2,zo 9 (.load true 17 5),zo 10 (.bslice 17 1 aai [⟨0,9⟩]),zo 11 (.append 17 136 8 10),zn (.store 1 2 11)]))
def ac6 (b2:Nat)(W:SH)(out:List BT)(t:SH):Prop:=∃lv og j,t.Perm ((b2,HO.r false [[lv]] 1)::(og++(j++W)))/\GrE 17 lv (btR out) og
theorem ac6.sub {b2:Nat}{W:SH}{out:List BT}{t:SH}(h:ac6 b2 W out t):∀q∈W,q∈t:=by
 obtain⟨lv,og,j,hp,_⟩:=h
 exactλq hq=>hp.mem_iff.2<|by simp[hq]
theorem acC {lb D b2:Nat}{l1:Sl}{asg body:Code}{W:SH}(ha:cc P 13 asg=aeD)(hb:cc P 13 body=aeE)(e2:lk l1 2=some (.ptr (some ⟨b2,0,0⟩))) :
  ac8 P K bl EL d (.yield lb) (λL t=>ac6 b2 ((lb,HO.lp l1 13 [7] asg body .ready none D)::W) L t):=by
 refine⟨λL t s y m hL hJ hs=>?_⟩
 obtain⟨lv,og,j,hpm,hG⟩:=hJ
 obtain⟨u,hu,ot⟩:=hs.split
 refine c6.perm (s:=(lb,.lp l1 13 [7] asg body .ready none D)::(u++(m++((b2,.r false [[lv]] 1)::(og++(j++W)))))) (ak λc w h0 h1 h2 hq=>by have:=hq _ _ hu;simp only[h1,h2,hq _ _ hpm]at this |-;omega)<|c6.canon ?_
 refine AU (by omega) ha hb ?_
 unfold aeD aeE
 refine Wo<|Wa (.alloc rfl) λb5=>Ww<|Wt (s':=(b5,.r false [BT.row y] 17)::_) rfl rfl rfl .here rfl rfl<|Wn ?_
 refine⟨(b5,.r false [y.row] 17)::(u++(m++((b2,.r false [[lv]] 1)::(og++(j++W))))),List.Perm.swap ..,?_⟩
 refine Wg (l':=[(2,.ptr<|some ⟨b2,0,0⟩),(5,.ptr<|some ⟨b5,0,0⟩)]) (aa e2<|bq rfl) (λ_ _ h=>h) ?_
 refine Wb<|Wo<|Wl rfl (.there<|.there<|.app<|.app .here) rfl rfl rfl<|Wl (cs:=BT.row y) rfl (.there .here) rfl rfl rfl<|Wa (.bslice (fZ rfl rfl) rfl) λsf=>?_
 refine Ww<|WS.pre (s':=((sf,HO.r false [y.row] 17)::(lb,HO.lp l1 13 [7] asg body .busy none D)::(b5,HO.r false [y.row] 17)::(b2,HO.r false [[lv]] 1)::(u++m))++(og++(j++W))) (zt)<|WS.N9 (xv:=.slice (some ⟨sf,0,0⟩) 1 1 false 17) rfl hG rfl (Src.all (L:=[y.row]) .here) (by decide) (by simp only[btR,List.length_map,List.length_cons,List.length_nil];omega) (by decide) λnw A9 jk xB=>?_
 refine Ww<|Wt (s':=A9++(((sf,HO.r false [y.row] 17)::(lb,HO.lp l1 13 [7] asg body .busy none D)::(b5,HO.r false [y.row] 17)::(b2,HO.r false [[nw]] 1)::(u++m))++(jk++(j++W)))) (row':=[nw]) rfl rfl xB.out.src.part (.app<|.left<|.there<|.there<|.there .here) rfl rfl<|Wn ?_
 refine⟨A9++(((sf,HO.r false [y.row] 17)::(b5,HO.r false [y.row] 17)::(b2,HO.r false [[nw]] 1)::(u++m))++(jk++(j++W))),zt,u++(m++((b2,HO.r false [[nw]] 1)::(A9++(((sf,HO.r false [y.row] 17)::(b5,HO.r false [y.row] 17)::(jk++j))++((lb,HO.lp l1 13 [7] asg body .ready none D)::W))))),zt,rfl,_,ot _,nw,A9,(sf,HO.r false [y.row] 17)::(b5,HO.r false [y.row] 17)::(jk++j),.refl _,?_⟩
 rw[show btR (L++[y])=btR L++[y.row] by simp[btR]]
 exact xB
theorem abQ (hP:BaseP P K F T){f:FuncId}{cap:List AV}{out:List BT}{t:SH}(hs:aH bl EL d t s)(hI:aeC P K bl EL d f cap t out) :
  bB P K (F 129) [.func f [] cap] s (λv s'=>∃m,aH bl EL d (m++t) s'/\Src m 17 v (btR out)):=by
 have aho:bB P K (F 177) [nilS,.func f [] cap] s (λv s'=>∃m,aH bl EL d (m++t) s'/\Src m 17 v (btR out)):=by
  refine hP.f177.ZH ?_
  unfold afR
  refine Wq<|Wa (.box rfl rfl) λb2=>Wv rfl<|Wn ?_
  refine Ws<|Wq<|Wv rfl<|Wn<|Wb ?_
  refine Wg (l':=[(2,.ptr<|some ⟨b2,0,0⟩),(6,.func f [] cap)]) (bq rfl) (λ_ _ h=>h) ?_
  generalize hl1:[(2,AV.ptr<|some ⟨b2,0,0⟩),(6,AV.func f [] cap)]=l1
  refine WP.rf (first:=[]) (cap:=cap) (by rw[<- hl1];rfl) λasg body ha hb D lb=>?_
  generalize hW:(D,HO.ob bv.deferred)::t=W
  have hY:=acC (P:=P) (K:=K) (bl:=bl) (EL:=EL) (d:=d) (lb:=lb) (D:=D) (b2:=b2) (l1:=l1) (asg:=asg) (body:=body) (W:=W) ha hb (by rw[<- hl1];rfl)
  obtain⟨u,hu,ot⟩:=hs.split
  have hs0:aH bl EL d ((b2,HO.r false [[nilS]] 1)::([]++([]++((lb,HO.lp l1 13 [7] asg body .ready none D)::W)))) ((lb,HO.lp l1 13 [7] asg body .ready none D)::(D,HO.ob .deferred)::(b2,HO.r false [[nilS]] 1)::s):=(ot _).perm (ak λc w h0 h1 h2 hq=>by have:=hq _ _ hu;subst hW;simp only[h1,h2,h0]at this |-;omega)
  refine bB.canon<|(hI (.yield lb) _ _ _ hY (λL t2 h q hq=>h.sub q<|.tail _ (by rw[<- hW];exact .tail _ hq)) ⟨nilS,[],[],.refl _,.nil⟩ hs0).post ?_
  rintro _ s9 ⟨t9,hs9,nw,A9,j2,Gu,xB⟩
  obtain⟨u2,hu2,RO⟩:=(hs9.tT Gu).split
  refine⟨(lb,HO.lp l1 13 [7] asg body .ready none D)::(u2++((b2,HO.r false [[nw]] 1)::(A9++(j2++W)))),ak (λc w h0 h1 h2 hq=>by have:=hq _ _ hu2;simp only[h1,h2]at this |-;omega),l1,.ready,none,_,rfl,(λh=>LoopState.noConfusion h),?_⟩
  subst hl1
  refine Wq<|Wl rfl (.there<|.app .here) rfl rfl rfl<|Wv rfl<|Wn<|We ?_
  subst hW
  refine⟨[D],(lb,HO.gone)::(u2++((b2,HO.r false [[nw]] 1)::(A9++(j2++t)))),rfl,ak (λc w h0 h1 h2 hq=>by simp only[h1,h2,h0,List.map_cons,List.map_nil];omega),[nw],.tmp rfl .nil,A9++((D,HO.gone)::(lb,HO.gone)::(b2,HO.r false [[nw]] 1)::j2),(RO _).perm (ak λc w h0 h1 h2 hq=>by simp only[h1,h2,h0,List.map_cons,List.map_nil];omega),xB.gr.out.src.mono λq hq=>by simp[hq]⟩
 refine hP.f129.dT ?_
 unfold afN
 refine Wq<|Wv rfl<|Wn ?_
 refine Wq<|Wv rfl ?_
 refine Ww<|W1 (aho) ?_
 rintro v s2 ⟨m,h1,h2⟩
 refine Wv rfl<|Wn<|We<|Wm (.tmp rfl .nil) ?_
 exact⟨m,h1,h2⟩
theorem abk (hX:BdX P K F T tF g C d)(hno:∀c∈C,c.ab=[])(hf:Has bf (.r false [bu bl aZ c0 c1 c2 c3 c4 bE] 8) t)(eQ:cI t aZ C)(hs:aH bl EL d t s){y:AV}{b2 b3:Nat}{k:Int}(h2:Has b2 (.r false [[gm tF bf]] 1) t)(h3:Has b3 (.r false [[iv k]] 1) t) :
  bB P K (F 240) [y,.ptr<|some ⟨b2,0,0⟩,.ptr<|some ⟨b3,0,0⟩] s (λ_ s'=>aH bl EL d t s'):=by
 refine hX.hQ.f240.dT ?_
 unfold afZ
 refine Wq<|Wl rfl (hs.mem h2) rfl rfl rfl ?_
 refine Ww<|WS.invoke (vs:=[]) rfl (hX.hE.hM.aZ ) rfl ( BS hX.hE.hG hs hf eQ) ?_
 rintro v4 s2 ⟨m,dt,hS⟩
 refine Wv rfl<|Wn ?_
 refine Wq<|Wl rfl (dt.mem<|.app h2) rfl rfl rfl<|Wl rfl (dt.mem<|.app h3) rfl rfl rfl ?_
 refine Ww<|WS.invoke (vs:=[AV.int IntKind.i64 (Int.ofNat 5),iv k]) rfl (hX.hv ) rfl ( aaq hX.hE hX.hQ (.app hf) (eQ.mono λq hq=>by simp[hq]) dt hX.cd hX.all) ?_
 rintro v15 s3 ⟨m3,gw,hS3⟩
 rw[aa6 hno]at hS3
 have afg:lenOf v15=some 0:=hS3.lenOf
 refine Wr (.lenS rfl afg)<|Wv rfl<|Wn<|Wb ?_
 refine WP.dA ?_
 refine Wq<|Wj rfl rfl (eT _ _)<|Wn ?_
 refine Ws<|Wd rfl fS<|λ_=>Wx<|Wm .nil ?_
 exact gw.fb.fb
theorem ab2 (hQ:BaseQ P K F T){v:AV}{k:Int}(hv:partCells 1 v=some [v]):bB P K (F 213) [v,iv k] s (λw s'=>∃b b',w=.func (F 240) [] [.ptr (some ⟨b,0,0⟩),.ptr (some ⟨b',0,0⟩)]/\s'=(b',.r false [[iv k]] 1)::(b,.r false [[v]] 1)::s):=by
 refine hQ.f213.dT ?_
 unfold afW
 refine Wq<|Wa (.box rfl hv) λb2=>Wa (.box rfl rfl) λb3=>Wv rfl<|Wn ?_
 refine Wq<|Wr (.mkfn rfl rfl)<|Wv rfl<|Wn<|We<|Wm (.tmp rfl .nil) ?_
 exact⟨b2,b3,rfl,rfl⟩

end
end Go.Ev
