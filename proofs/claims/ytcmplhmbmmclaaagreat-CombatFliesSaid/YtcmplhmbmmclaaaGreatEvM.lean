/- Walks and rules. Conditions: none. -/
import Derived.Test.YtcmplhmbmmclaaaGreatEvL
set_option linter.unusedVariables false
set_option linter.unusedSectionVars false
namespace Go.Ev
def ZU (F:Nat->FuncId)(T:Nat->TypeId):AC:=(oN [zo 4 (.alloc 3 [(za 0),(za 0),(za 0)]),zo 5 (.mv (.const (.bool false)))] (.seq (oN [zm 6 0,zo 7 (.eql false .ptr 6 (.const (.pointer none)))] (.cond 7 (oN [zo 8 (.build [(za 0),(za 0),(za 0)] []),zn (.store 3 4 8),zo 5 (.mv (.const (.bool false)))] .ret) .skip)) (.seq (.drawn 0 [zp (zm 9 0) 0,zp (zo 10 (.nilchk 9)) 1,zp (zf 11 1 10) 3,zr (zl 12 11) 0 1 7,zp (zm 13 0) 0,zh (oF F 14 14 [13]) 16,zp (zm 15 1) 0,zh (oF F 16 77 [12,14,15]) 127,zp (zo 17 (.extract 16 0)) 255,zp (zo 18 (.extract 16 1)) 255,zh (zn (.store 3 4 17)) 1023,zp (zm 5 18) 2047]) .ret)))
def ZV (F:Nat->FuncId)(T:Nat->TypeId):AC:=(oN [zo 6 (.mv (.const (.slice none 0 0)))] (oN [zm 7 0,oF F 8 14 [7],zm 9 1,zm 10 2,oF F 11 90 [8,9,10],zm 6 11] .ret))
def ZW (F:Nat->FuncId)(T:Nat->TypeId):AC:=(oN [zo 4 (.alloc 14 dB),zo 5 (.mv (.const (.bool false)))] (oN [zm 8 0,oF F 9 14 [8],zo 6 (.alloc 25 cC),zn (.store 25 6 9)] (oN [zo 10 (.load true 25 6),zm 11 1,oF F 12 91 [10,11],zm 7 12] (.seq (oN [zm 13 7,zo 14 (.arith .lss 13 (zc 0))] (.cond 14 (oN [zo 15 (.build dB []),zn (.store 14 4 15),zo 5 (.mv (.const (.bool false)))] .ret) .skip)) (oN [zf 16 1 6,zl 17 16,zm 18 7,zo 19 (.iaddrS 14 17 18),zo 20 (.load true 14 19),zn (.store 14 4 20),zo 5 (.mv (.const (.bool true)))] .ret)))))
def Z9 (F:Nat->FuncId)(T:Nat->TypeId):AC:=(oN [zo 4 (.box 25 1),zo 6 (.alloc 3 [(za 0),(za 0),(za 0)]),zo 7 (.mv (.const (.bool false)))] (oN [zm 12 0,zo 13 (.load true 25 4),zm 14 2,oF F 15 121 [12,13,14],zm 11 15,zo 16 (.extract 11 0),zo 17 (.extract 11 1),zo 18 (.extract 11 2),zo 8 (.alloc 14 dB),zo 9 (.alloc 11 [(.str ⟨#[]⟩),(za 0),(za 0),(za 0),(za 0),(za 0),(za 0),(za 0),(za 0),(za 0),(.slice none 0 0 false 0)]),zn (.store 14 8 16),zn (.store 11 9 17),zm 10 18] (.seq (oN [zm 19 10,zo 20 (.un .not 19)] (.cond 20 (oN [zo 21 (.build [(za 0),(za 0),(za 0)] []),zn (.store 3 6 21),zo 7 (.mv (.const (.bool false)))] .ret) .skip)) (.seq (.drawn 0 [zp (zf 22 7 9) 0,zr (zl 23 22) 0 1 1,zp (zf 24 8 9) 0,zr (zl 25 24) 0 1 4,zp (zf 26 9 9) 0,zr (zl 27 26) 0 1 16,zp (zo 28 (.build [(za 0),(za 0),(za 0)] [⟨0,⟨1,23⟩⟩,⟨1,⟨1,25⟩⟩,⟨2,⟨1,27⟩⟩])) 63,zp (zm 29 0) 0,zr (zo 30 (.load true 25 4)) 0 0 0,zp (zm 31 2) 0,zh (oF F 32 123 [29,30,31]) 896,zh (oF F 33 122 [28,32]) 2047,zh (zn (.store 3 6 33)) 4095,zp (zo 7 (.mv (.const (.bool true)))) 8191]) .ret))))
def a90 (F:Nat->FuncId)(T:Nat->TypeId):AC:=(oN [zo 3 (.box 25 0),zo 6 (.mv (.const (.slice none 0 0)))] (oN [zo 12 (.load true 25 3),zo 13 (.build cC [⟨0,⟨25,12⟩⟩]),zo 14 (.box 25 13),zm 7 14] (.seq (oN [zm 15 7,zm 16 1,zm 17 2,oF F 18 136 [15,16,17],zm 8 18] (oN [zm 19 8,zo 20 (.eql true .ptr 19 (.const (.pointer none)))] (.cond 20 (oN [zm 21 8,zo 22 (.nilchk 21),zl 23 22,oF F 24 51 [23],zm 6 24] .ret) .skip))) (oN [zo 9 (.mv (.const (.slice none 0 0)))] (.seq (oN [zf 25 1 3,zl 26 25,zo 27 (.lenS 26),zo 28 (.mv (zc 0))] (.block 0 (.loop (oN [zo 29 (.arith .lss 28 27)] (.seq (.cond 29 .skip (.exit 0)) (.seq (.block 1 (oN [zo 30 (.iaddrS 14 26 28),zo 31 (.load true 14 30),zo 11 (.alloc 14 dB),zn (.store 14 11 31)] (oN [zm 32 1,zo 33 (.eql false .pi 32 (zc 5)),zm 34 33,zg 35 (.faddr 4 11) 34 true,zg 36 (.load false 1 35) 34 true,zg 37 (.mv 1) 34 true,zg 38 (.eql false .pi 36 37) 34 true,zo 39 (.pick 34 38 (.const (.bool false))),zm 40 39,zg 41 (.mv 2) 40 true,zg 42 (.arith .geq 41 (zc 0)) 40 true,zo 43 (.pick 40 42 (.const (.bool false))),zm 44 43,zg 45 (.mv 2) 44 true,zg 46 (.faddr 0 3) 44 true,zg 47 (.load false 1 46) 44 true,zg 48 (.lenS 47) 44 true,zg 49 (.arith .lss 45 48) 44 true,zo 50 (.pick 44 49 (.const (.bool false))),zm 51 50,zg 52 (.load true 25 3) 51 true,zg 53 (.call (.func (F 137)) [52]) 51 true,zo 54 (.pick 51 53 (.const (.bool false)))] (.cond 54 (.ops [zm 55 9,zf 56 0 11,zl 57 56,zo 58 (.bslice 1 1 [(za 0)] [⟨0,57⟩]),zo 59 (.append 1 8 55 58),zm 9 59]) .skip)))) (.ops [zo 60 (.arith .add 28 (zc 1)),zm 28 60]))))))) (oN [zm 61 9,zm 6 61] .ret))))))
def SP (F:Nat->FuncId)(T:Nat->TypeId):AC:=(oN [zo 4 (.box 25 1),zo 6 (.alloc 14 dB),zo 7 (.alloc 11 [(.str ⟨#[]⟩),(za 0),(za 0),(za 0),(za 0),(za 0),(za 0),(za 0),(za 0),(za 0),(.slice none 0 0 false 0)]),zo 8 (.mv (.const (.bool false)))] (oN [zo 10 (.load true 25 4),zm 11 2,oF F 12 91 [10,11],zm 9 12] (.seq (oN [zm 13 9,zo 14 (.arith .lss 13 (zc 0)),zm 15 14,zg 16 (.faddr 6 4) 15 false,zg 17 (.load false 1 16) 15 false,zg 18 (.mv 2) 15 false,zg 19 (.call (.func (F 167)) [17,18]) 15 false,zg 20 (.un .not 19) 15 false,zo 21 (.pick 15 (.const (.bool true)) 20)] (.cond 21 (.seq (.drawn 0 [zr (zo 22 (.load true 14 6)) 0 0 0,zr (zo 23 (.load true 11 7)) 0 1 0,zh (zn (.store 14 6 22)) 1,zh (zn (.store 11 7 23)) 7,zp (zo 8 (.mv (.const (.bool false)))) 15]) .ret) .skip)) (oN [zf 24 1 4,zl 25 24,zm 26 9,zo 27 (.iaddrS 14 25 26),zo 28 (.load true 14 27),zn (.store 14 6 28)] (.seq (oN [zf 29 1 6,zl 30 29,zo 31 (.arith .lss 30 (zc 0)),zm 32 31,zg 33 (.faddr 1 6) 32 false,zg 34 (.load false 1 33) 32 false,zg 35 (.mv 0) 32 false,zg 36 (.lenS 35) 32 false,zg 37 (.arith .geq 34 36) 32 false,zo 38 (.pick 32 (.const (.bool true)) 37)] (.cond 38 (.seq (.drawn 0 [zr (zo 39 (.load true 14 6)) 0 0 0,zr (zo 40 (.load true 11 7)) 0 1 0,zh (zn (.store 14 6 39)) 1,zh (zn (.store 11 7 40)) 7,zp (zo 8 (.mv (.const (.bool false)))) 15]) .ret) .skip)) (oN [zm 41 0,zf 42 1 6,zl 43 42,zo 44 (.iaddrS 11 41 43),zo 45 (.load true 11 44),zn (.store 11 7 45)] (.seq (.drawn 0 [zr (zo 46 (.load true 14 6)) 0 0 0,zr (zo 47 (.load true 11 7)) 0 1 0,zp (zf 48 1 7) 0,zr (zl 49 48) 0 0 4,zp (zo 50 (.eql false .pi 49 (zc 2))) 12,zh (zn (.store 14 6 46)) 13,zh (zn (.store 11 7 47)) 47,zp (zm 8 50) 127]) .ret)))))))
def SQ (F:Nat->FuncId)(T:Nat->TypeId):AC:=(oN [zo 2 (.box 3 0),zo 4 (.alloc 3 [(za 0),(za 0),(za 0)])] (.seq (.drawn 0 [zp (zf 8 0 2) 0,zr (zl 9 8) 0 0 1,zh (oF F 10 168 [9]) 3,zp (zf 11 1 2) 0,zr (zl 12 11) 0 1 8,zh (oF F 13 168 [12]) 31,zp (zf 14 0 2) 63,zh (zn (.store 1 14 10)) 127,zp (zf 15 1 2) 255,zh (zn (.store 1 15 13)) 511]) (.seq (oN [zm 16 1,zo 17 (.lenS 16),zo 18 (.mv (zc 0))] (.block 0 (.loop (oN [zo 19 (.arith .lss 18 17)] (.seq (.cond 19 .skip (.exit 0)) (.seq (.block 1 (oN [zo 20 (.iaddrS 4 16 18),zo 21 (.load true 4 20),zo 6 (.alloc 4 [(za 0),(za 0),(za 0),(za 0)]),zn (.store 4 6 21)] (oN [zo 22 (.load true 4 6),oF F 23 169 [22],zo 7 (.alloc 2 [(za 0),.nilFunc]),zn (.store 2 7 23)] (oN [zf 24 1 7,zl 25 24,zo 26 (.eql true .V9 25 (.const .nilFunc))] (.cond 26 (.ops [zf 27 1 7,zl 28 27,zo 29 (.load true 4 6),zo 30 (.call 28 [2,29])]) .skip))))) (.ops [zo 31 (.arith .add 18 (zc 1)),zm 18 31]))))))) (.seq (.drawn 0 [zp (zf 32 0 2) 0,zr (zl 33 32) 0 0 1,zh (oF F 34 168 [33]) 3,zp (zf 35 1 2) 0,zr (zl 36 35) 0 1 8,zh (oF F 37 168 [36]) 31,zp (zf 38 0 2) 63,zh (zn (.store 1 38 34)) 127,zp (zf 39 1 2) 255,zh (zn (.store 1 39 37)) 511]) (oN [zo 40 (.load true 3 2),zn (.store 3 4 40)] .ret)))))
def SR (F:Nat->FuncId)(T:Nat->TypeId):AC:=(oN [zo 3 (.box 1 0),zo 4 (.box 25 1),zo 6 (.mv (.const (.slice none 0 0)))] (oN [zl 16 3,zo 17 (.load true 25 4),zm 18 2,oF F 19 121 [16,17,18],zm 15 19,zo 20 (.extract 15 0),zo 21 (.extract 15 1),zo 22 (.extract 15 2),zo 7 (.alloc 14 dB),zo 8 (.alloc 11 [(.str ⟨#[]⟩),(za 0),(za 0),(za 0),(za 0),(za 0),(za 0),(za 0),(za 0),(za 0),(.slice none 0 0 false 0)]),zn (.store 14 7 20),zn (.store 11 8 21),zm 9 22] (.seq (oN [zm 23 9,zo 24 (.un .not 23)] (.cond 24 (oN [zo 6 (.mv (.const (.slice none 0 0)))] .ret) .skip)) (oN [zo 10 (.alloc 1 [(.slice none 0 0 false 0)])] (oN [zo 25 (.mkfn (F 170) [] [3,7,10]),zm 11 25] (.seq (oN [zf 26 6 4,zl 27 26,zo 28 (.lenS 27),zo 29 (.mv (zc 0))] (.block 0 (.loop (oN [zo 30 (.arith .lss 29 28)] (.seq (.cond 30 .skip (.exit 0)) (.seq (.block 1 (oN [zo 31 (.iaddrS 1 27 29),zl 32 31,zm 13 32] (oN [zo 33 (.load true 25 4),zm 34 13,oF F 35 91 [33,34],zm 14 35] (oN [zm 36 14,zo 37 (.arith .geq 36 (zc 0))] (.cond 37 (.ops [zm 38 11,zf 39 1 4,zl 40 39,zm 41 14,zo 42 (.iaddrS 14 40 41),zo 43 (.load true 14 42),zo 44 (.call 38 [43])]) .skip))))) (.ops [zo 45 (.arith .add 29 (zc 1)),zm 29 45]))))))) (oN [zl 46 10,zf 47 13 7,zl 48 47,zo 49 (.append 4 32 46 48),zn (.store 1 10 49)] (oN [zl 50 10,oF F 51 172 [50,(.func (F 173))],zn (.store 1 10 51)] (oN [zl 52 10,zl 53 10,zo 54 (.mkfn (F 175) [53] []),oF F 55 174 [52,54]] (oN [zl 56 10,zm 6 56] .ret))))))))))
def SY (F:Nat->FuncId)(T:Nat->TypeId):AC:=(oN [zo 4 (.mv (.const (.bool false)))] (oN [zm 5 0,zm 6 1,oF F 7 204 [5,6],zo 8 (.arith .geq 7 (zc 0)),zm 4 8] .ret))
def SZ (F:Nat->FuncId)(T:Nat->TypeId):AC:=(oN [zo 2 (.mv (zc 0))] (oN [zm 3 0,zo 4 (.minmax true [3,(.const (.int .i64 (.negSucc 998)))]),zo 5 (.minmax false [4,(zc 999)]),zm 2 5] .ret))
def S0 (F:Nat->FuncId)(T:Nat->TypeId):AC:=(oN [zo 1 (.box 4 0),zo 2 (.alloc 2 [(za 0),.nilFunc])] (.seq (oN [zf 3 0 1,zl 4 3,zo 5 (.arith .lss 4 (zc 0)),zm 6 5,zg 7 (.faddr 0 1) 6 false,zg 8 (.load false 1 7) 6 false,zg 9 (.arith .gtr 8 (zc 4)) 6 false,zo 10 (.pick 6 (.const (.bool true)) 9)] (.cond 10 (oN [zo 11 (.build [(za 0),.nilFunc] []),zn (.store 2 2 11)] .ret) .skip)) (.seq (.drawn 0 [zh (oF F 12 205 []) 0,zp (zf 13 0 1) 0,zr (zl 14 13) 0 1 2,zp (zo 15 (.idxA 5 2 true 12 14)) 7,zh (zn (.store 2 2 15)) 15]) .ret)))
def S3 (F:Nat->FuncId)(T:Nat->TypeId):AC:=(oN [zo 4 (.box 14 0)] (.seq (oN [zf 7 1 4,zl 8 7,zo 9 (.arith .lss 8 (zc 0)),zm 10 9,zg 11 (.faddr 1 4) 10 false,zg 12 (.load false 1 11) 10 false,zg 13 (.load false 1 1) 10 false,zg 14 (.lenS 13) 10 false,zg 15 (.arith .geq 12 14) 10 false,zo 16 (.pick 10 (.const (.bool true)) 15)] (.cond 16 .ret .skip)) (oN [zl 17 1,zf 18 1 4,zl 19 18,zo 20 (.iaddrS 11 17 19),zf 21 10 20,zl 22 21,zo 23 (.lenS 22),zo 24 (.mv (zc 0))] (.block 0 (.loop (oN [zo 25 (.arith .lss 24 23)] (.seq (.cond 25 .skip (.exit 0)) (.seq (.block 1 (oN [zo 26 (.iaddrS 13 22 24),zo 27 (.load true 13 26),zo 6 (.alloc 13 [(za 0),(za 0),(za 0),(za 0),(za 0),(za 0),(za 0),(.bool false),(.slice none 0 0 false 0),(.slice none 0 0 false 0),(za 0),(za 0),(za 0)]),zn (.store 13 6 27)] (oN [zf 28 0 6,zl 29 28,zo 30 (.eql false .pi 29 (zc 4)),zm 31 30,zg 32 (.faddr 2 6) 31 true,zg 33 (.load false 1 32) 31 true,zg 34 (.load true 14 4) 31 true,zg 35 (.load true 14 2) 31 true,zg 36 (.call (.func (F 171)) [33,34,35]) 31 true,zo 37 (.pick 31 36 (.const (.bool false)))] (.cond 37 (.ops [zl 38 3,zf 39 10 6,zl 40 39,zf 41 11 6,zl 42 41,zf 43 12 6,zl 44 43,zf 45 9 4,zl 46 45,zo 47 (.build [(za 0),(za 0),(za 0),(za 0)] [⟨0,⟨1,40⟩⟩,⟨1,⟨1,42⟩⟩,⟨2,⟨1,44⟩⟩,⟨3,⟨1,46⟩⟩]),zo 48 (.bslice 4 1 [(za 0),(za 0),(za 0),(za 0)] [⟨0,47⟩]),zo 49 (.append 4 32 38 48),zn (.store 1 3 49)]) .skip)))) (.ops [zo 50 (.arith .add 24 (zc 1)),zm 24 50])))))))))
def Lh (F:Nat->FuncId)(T:Nat->TypeId):AC:=(oN [zo 4 (.box 14 1),zo 5 (.box 14 2),zo 6 (.mv (.const (.bool false)))] (oN [zf 8 0 4,zl 9 8,zf 10 0 5,zl 11 10,zo 12 (.eql false .pi 9 11),zm 7 12] (oN [zm 13 0,zo 14 (.eql false .pi 13 (zc 0)),zm 15 14,zg 16 (.mv 7) 15 true,zo 17 (.pick 15 16 (.const (.bool false))),zm 18 17,zg 19 (.mv 0) 18 false,zg 20 (.eql false .pi 19 (zc 1)) 18 false,zg 21 (.mv 20) 18 false,zg 22 (.faddr 3 4) 21 true,zg 23 (.load false 1 22) 21 true,zg 24 (.faddr 3 5) 21 true,zg 25 (.load false 1 24) 21 true,zg 26 (.eql false .pi 23 25) 21 true,zg 27 (.pick 21 26 (.const (.bool false))) 18 false,zo 28 (.pick 18 (.const (.bool true)) 27),zm 29 28,zg 30 (.mv 0) 29 false,zg 31 (.eql false .pi 30 (zc 2)) 29 false,zo 32 (.pick 29 (.const (.bool true)) 31),zm 33 32,zg 34 (.mv 0) 33 false,zg 35 (.eql false .pi 34 (zc 3)) 33 false,zg 36 (.mv 35) 33 false,zg 37 (.faddr 3 4) 36 true,zg 38 (.load false 1 37) 36 true,zg 39 (.faddr 3 5) 36 true,zg 40 (.load false 1 39) 36 true,zg 41 (.eql false .pi 38 40) 36 true,zg 42 (.pick 36 41 (.const (.bool false))) 33 false,zg 43 (.mv 42) 33 false,zg 44 (.mv 7) 43 true,zg 45 (.un .not 44) 43 true,zg 46 (.pick 43 45 (.const (.bool false))) 33 false,zo 47 (.pick 33 (.const (.bool true)) 46),zm 6 47] .ret)))
def WY (F:Nat->FuncId)(T:Nat->TypeId):AC:=(oN [zo 4 (.mv (.const (.slice none 0 0)))] (oN [zm 8 0,zm 9 1,oF F 10 206 [8,9],zm 5 10] (.seq (oN [zm 11 5,zo 12 (.eql false .pi 11 (.const (.int .i64 (.negSucc 0))))] (.cond 12 (oN [zm 13 0,zm 4 13] .ret) .skip)) (.seq (oN [zm 14 5,zo 15 (.arith .add 14 (zc 1)),zm 6 15] (.block 0 (.loop (.seq (oN [zm 16 6,zm 17 0,zo 18 (.lenS 17),zo 19 (.arith .lss 16 18)] (.cond 19 .skip (.exit 0))) (.seq (.block 1 (oN [zm 22 0,zm 23 6,zo 24 (.iaddrS 4 22 23),zo 25 (.load true 4 24),zo 7 (.alloc 4 [(za 0),(za 0),(za 0),(za 0)]),zn (.store 4 7 25)] (oN [zm 26 1,zo 27 (.load true 4 7),zo 28 (.call 26 [27]),zo 29 (.un .not 28)] (.cond 29 (oN [zm 30 0,zm 31 5,zo 32 (.load true 4 7),zo 33 (.iaddrS 4 30 31),zn (.store 4 33 32)] (.ops [zm 34 5,zo 35 (.arith .add 34 (zc 1)),zm 5 35])) .skip)))) (.ops [zm 20 6,zo 21 (.arith .add 20 (zc 1)),zm 6 21])))))) (oN [zm 36 0,zm 37 5,zo 38 (.slc 4 36 (some 37) none none),zn (.clear 4 [(za 0),(za 0),(za 0),(za 0)] 38)] (oN [zm 39 0,zm 40 5,zo 41 (.slc 4 39 none (some 40) none),zm 4 41] .ret))))))
def S4 (F:Nat->FuncId)(T:Nat->TypeId):AC:=(oN [zo 1 (.box 4 0),zo 2 (.mv (.const (.bool false)))] (oN [zo 3 (.load true 4 1),oF F 4 169 [3],zo 5 (.fld 0 1 false 4),zo 6 (.eql false .pi 5 (zc 0)),zm 2 6] .ret))
def S5 (F:Nat->FuncId)(T:Nat->TypeId):AC:=(.ops [zm 4 0,zm 5 0,zo 6 (.lenS 5),zm 7 1,oF F 8 207 [4,6,7]])
def S6 (F:Nat->FuncId)(T:Nat->TypeId):AC:=(oN [zo 4 (.box 4 1),zo 5 (.box 4 2),zo 6 (.mv (zc 0))] (.seq (.seq (.drawn 0 [zr (zo 8 (.load true 4 4)) 0 0 0,zh (oF F 9 169 [8]) 1,zp (zo 10 (.fld 0 1 false 9)) 3,zr (zo 11 (.load true 4 5)) 0 1 0,zh (oF F 12 169 [11]) 11,zp (zo 13 (.fld 0 1 false 12)) 27,zp (zo 14 (.arith .sub 10 13)) 63,zp (zm 7 14) 127]) (oN [zm 15 7,zo 16 (.eql true .pi 15 (zc 0))] (.cond 16 (oN [zm 17 7,zm 6 17] .ret) .skip))) (.seq (.block 0 (oN [zf 19 3 4,zl 20 19,zf 21 3 5,zl 22 21,zo 23 (.arith .lss 20 22),zm 18 23] (.cond 18 (oN [zo 6 (.mv (.const (.int .i64 (.negSucc 0))))] .ret) (oN [zf 25 3 4,zl 26 25,zf 27 3 5,zl 28 27,zo 29 (.arith .gtr 26 28),zm 24 29] (.cond 24 (oN [zo 6 (.mv (zc 1))] .ret) .skip))))) (oN [zo 6 (.mv (zc 0))] .ret))))
def S7 (F:Nat->FuncId)(T:Nat->TypeId):AC:=(oN [zo 4 (.mv (zc 0))] (.seq (oN [zm 6 0,zo 7 (.lenS 6),zo 8 (.mv (zc 0))] (.block 0 (.loop (oN [zo 9 (.arith .lss 8 7)] (.seq (.cond 9 .skip (.exit 0)) (.seq (.block 1 (oN [zm 10 8,zm 5 10] (oN [zm 11 1,zm 12 0,zm 13 5,zo 14 (.iaddrS 1 12 13),zl 15 14,zo 16 (.eql false .pi 11 15)] (.cond 16 (oN [zm 17 5,zm 4 17] .ret) .skip)))) (.ops [zo 18 (.arith .add 8 (zc 1)),zm 8 18]))))))) (oN [zo 4 (.mv (.const (.int .i64 (.negSucc 0))))] .ret)))
def S8 (F:Nat->FuncId)(T:Nat->TypeId):AC:=(oN [zo 0 (.alloc 10 [(za 0),.nilFunc,(za 0),.nilFunc,(za 0),.nilFunc,(za 0),.nilFunc,(za 0),.nilFunc])] (oN [zo 1 (.build [(za 0),.nilFunc] []),zo 2 (.build [(za 0),.nilFunc] [⟨0,⟨1,(zc 1)⟩⟩,⟨1,⟨1,(.func (F 233))⟩⟩]),zo 3 (.build [(za 0),.nilFunc] [⟨0,⟨1,(zc 1)⟩⟩,⟨1,⟨1,(.func (F 234))⟩⟩]),zo 4 (.build [(za 0),.nilFunc] [⟨0,⟨1,(zc 2)⟩⟩,⟨1,⟨1,(.func (F 235))⟩⟩]),zo 5 (.build [(za 0),.nilFunc] [⟨0,⟨1,(zc 3)⟩⟩,⟨1,⟨1,(.func (F 236))⟩⟩]),zo 6 (.build [(za 0),.nilFunc,(za 0),.nilFunc,(za 0),.nilFunc,(za 0),.nilFunc,(za 0),.nilFunc] [⟨0,⟨2,1⟩⟩,⟨2,⟨2,2⟩⟩,⟨4,⟨2,3⟩⟩,⟨6,⟨2,4⟩⟩,⟨8,⟨2,5⟩⟩]),zn (.store 10 0 6)] .ret))
def W0 (F:Nat->FuncId)(T:Nat->TypeId):AC:=(oN [zo 4 (.mv (zc 0))] (.seq (oN [zm 6 0,zo 7 (.lenS 6),zo 8 (.mv (zc 0))] (.block 0 (.loop (oN [zo 9 (.arith .lss 8 7)] (.seq (.cond 9 .skip (.exit 0)) (.seq (.block 1 (oN [zm 10 8,zm 5 10] (oN [zm 11 1,zm 12 0,zm 13 5,zo 14 (.iaddrS 4 12 13),zo 15 (.load true 4 14),zo 16 (.call 11 [15])] (.cond 16 (oN [zm 17 5,zm 4 17] .ret) .skip)))) (.ops [zo 18 (.arith .add 8 (zc 1)),zm 8 18]))))))) (oN [zo 4 (.mv (.const (.int .i64 (.negSucc 0))))] .ret)))
def Lk (F:Nat->FuncId)(T:Nat->TypeId):AC:=(oN [zo 6 (.mv (zc 20))] (oN [zm 10 6,zo 7 (.mv (zc 0)),zm 8 10] (.seq (.block 0 (.loop (.seq (oN [zm 11 8,zm 12 1,zo 13 (.arith .leq 11 12)] (.cond 13 .skip (.exit 0))) (.block 1 (oN [zm 14 0,zm 15 7,zm 16 8,zm 17 2,oF F 18 237 [14,15,16,17]] (oN [zm 19 8,zm 7 19] (.ops [zm 20 8,zm 21 6,zo 22 (.arith .add 20 21),zm 8 22]))))))) (oN [zm 23 0,zm 24 7,zm 25 1,zm 26 2,oF F 27 237 [23,24,25,26]] (.block 2 (.loop (.seq (oN [zm 28 6,zm 29 1,zo 30 (.arith .lss 28 29)] (.cond 30 .skip (.exit 2))) (.block 3 (oN [zm 31 6,zo 32 (.arith .mul (zc 2) 31),zo 7 (.mv (zc 0)),zm 8 32] (.seq (.block 4 (.loop (.seq (oN [zm 33 8,zm 34 1,zo 35 (.arith .leq 33 34)] (.cond 35 .skip (.exit 4))) (.block 5 (oN [zm 36 0,zm 37 7,zm 38 7,zm 39 6,zo 40 (.arith .add 38 39),zm 41 8,zm 42 2,oF F 43 238 [36,37,40,41,42]] (oN [zm 44 8,zm 7 44] (.ops [zm 45 8,zm 46 6,zo 47 (.arith .mul (zc 2) 46),zo 48 (.arith .add 45 47),zm 8 48]))))))) (.seq (oN [zm 49 7,zm 50 6,zo 51 (.arith .add 49 50),zm 9 51] (oN [zm 52 9,zm 53 1,zo 54 (.arith .lss 52 53)] (.cond 54 (.ops [zm 55 0,zm 56 7,zm 57 9,zm 58 1,zm 59 2,oF F 60 238 [55,56,57,58,59]]) .skip))) (.ops [zm 61 6,zo 62 (.arith .mul 61 (zc 2)),zm 6 62]))))))))))))
def Lo (F:Nat->FuncId)(T:Nat->TypeId):AC:=(oN [zm 10 1,zo 11 (.arith .add 10 (zc 1)),zm 8 11] (.block 0 (.loop (.seq (oN [zm 12 8,zm 13 2,zo 14 (.arith .lss 12 13)] (.cond 14 .skip (.exit 0))) (.seq (.block 1 (oN [zm 17 8,zm 9 17] (.block 2 (.loop (.seq (.seq (.drawn 0 [zp (zm 18 9) 0,zp (zm 19 1) 0,zp (zo 20 (.arith .gtr 18 19)) 3,zp (zm 21 20) 7,zp (zg 22 (.mv 3) 21 true) 15,zp (zg 23 (.mv 0) 21 true) 15,zp (zg 24 (.mv 9) 21 true) 15,zp (zg 25 (.iaddrS 4 23 24) 21 true) 111,zr (zg 26 (.load true 4 25) 21 true) 0 0 239,zp (zg 27 (.mv 0) 21 true) 15,zp (zg 28 (.mv 9) 21 true) 15,zp (zg 29 (.arith .sub 28 (zc 1)) 21 true) 1039,zp (zg 30 (.iaddrS 4 27 29) 21 true) 3599,zr (zg 31 (.load true 4 30) 21 true) 0 0 7695,zh (zg 32 (.call 22 [26,31]) 21 true) 16383,zp (zg 33 (.arith .lss 32 (zc 0)) 21 true) 32767,zp (zo 34 (.pick 21 33 (.const (.bool false)))) 65535]) (.cond 34 .skip (.exit 2))) (.seq (.block 3 (.drawn 0 [zp (zm 37 0) 0,zp (zm 38 9) 0,zp (zm 39 0) 0,zp (zm 40 9) 0,zp (zo 41 (.arith .sub 40 (zc 1))) 8,zp (zm 42 0) 0,zp (zm 43 9) 0,zp (zo 44 (.arith .sub 43 (zc 1))) 64,zp (zo 45 (.iaddrS 4 42 44)) 224,zr (zo 46 (.load true 4 45)) 0 0 480,zp (zm 47 0) 0,zp (zm 48 9) 0,zp (zo 49 (.iaddrS 4 47 48)) 3072,zr (zo 50 (.load true 4 49)) 0 0 7168,zp (zo 51 (.iaddrS 4 37 38)) 16355,zh (zn (.store 4 51 46)) 32739,zp (zo 52 (.iaddrS 4 39 41)) 65535,zh (zn (.store 4 52 50)) 131071])) (.ops [zm 35 9,zo 36 (.arith .sub 35 (zc 1)),zm 9 36]))))))) (.ops [zm 15 8,zo 16 (.arith .add 15 (zc 1)),zm 8 16]))))))
structure BaseC (P:Program)(K:Orc)(F:Nat->FuncId)(T:Nat->TypeId):Prop where
 f30:FnK P K (F 30) 19 [(.cell 4<|T 71),(.tmp 5)] (ZU F T)
 f36:FnK P K (F 36) 12 [(.tmp 6)] (ZV F T)
 f37:FnK P K (F 37) 21 [(.cell 4<|T 45),(.tmp 5)] (ZW F T)
 f77:FnK P K (F 77) 34 [(.cell 6<|T 71),(.tmp 7)] (Z9 F T)
 f90:FnK P K (F 90) 62 [(.tmp 6)] (a90 F T)
 f121:FnK P K (F 121) 51 [(.cell 6<|T 45),(.cell 7<|T 99),(.tmp 8)] (SP F T)
 f122:FnK P K (F 122) 41 [(.cell 4<|T 71)] (SQ F T)
 f123:FnK P K (F 123) 57 [(.tmp 6)] (SR F T)
 f167:FnK P K (F 167) 9 [(.tmp 4)] (SY F T)
 f168:FnK P K (F 168) 6 [(.tmp 2)] (SZ F T)
 f169:FnK P K (F 169) 16 [(.cell 2<|T 264)] (S0 F T)
 f170:FnK P K (F 170) 51 [] (S3 F T)
 f171:FnK P K (F 171) 48 [(.tmp 6)] (Lh F T)
 f172:FnK P K (F 172) 42 [(.tmp 4)] (WY F T)
 f173:FnK P K (F 173) 7 [(.tmp 2)] (S4 F T)
 f174:FnK P K (F 174) 9 [] (S5 F T)
 f175:FnK P K (F 175) 30 [(.tmp 6)] (S6 F T)
 f204:FnK P K (F 204) 19 [(.tmp 4)] (S7 F T)
 f205:FnK P K (F 205) 7 [(.cell 0<|T 294)] (S8 F T)
 f206:FnK P K (F 206) 19 [(.tmp 4)] (W0 F T)
 f207:FnK P K (F 207) 63 [] (Lk F T)
 f237:FnK P K (F 237) 53 [] (Lo F T)
structure TyC (P:Program)(T:Nat->TypeId):Prop where
 t71:Ty P (T 71) 3
 t99:Ty P (T 99) 11
 t107:Ty P (T 107) 8
 t264:Ty P (T 264) 2
 t294:Ty P (T 294) 10
def rowOf (F:Nat->FuncId)(op:Int):List AV:=if op=1 then [iv 1,.func (F 233) [] []]else if op=2 then [iv 1,.func (F 234) [] []]else if op=3 then [iv 2,.func (F 235) [] []]else if op=4 then [iv 3,.func (F 236) [] []]else [iv 0,.nilFunc]
def cx (op:Int):Int:=if op=1 then 1 else if op=2 then 1 else if op=3 then 2 else if op=4 then 3 else 0
theorem jM (F:Nat->FuncId)(op:Int):∃fn,rowOf F op=[iv (cx op),fn]:=by
 unfold rowOf cx
 split
 ·exact⟨_,rfl⟩
 ·split
  ·exact⟨_,rfl⟩
  ·split
   ·exact⟨_,rfl⟩
   ·split<;>exact⟨_,rfl⟩
def K3 (F:Nat->FuncId):List AV:=[iv 0,.nilFunc,iv 1,.func (F 233) [] [],iv 1,.func (F 234) [] [],iv 2,.func (F 235) [] [],iv 3,.func (F 236) [] []]
structure ED where
 op:Int
 a:Int
 b:Int
 st:Int
@[reducible] def ED.row (e:ED):List AV:=[iv e.op,iv e.a,iv e.b,iv e.st]
def ey (l:List ED):List (List AV):=l.map ED.row
section
variable {P:Program}{K:Orc}{rd:Option Nat}{nt:Nat}{l:Sl}{ds:List aD}{s:SH}{Q Qn Qr:Po}{Qe:Nat->Po}{F:Nat->FuncId}{T:Nat->TypeId}
theorem JZ (hC:BaseC P K F T)(hT:TyC P T):bB P K (F 205) [] s (λv s'=>v=.agg (K3 F)/\∃m,s'=m++s):=by
 refine hC.f205.cF (by simp) ?_
 unfold S8
 refine Wq<|Wa (.alloc rfl) λb0=>Wn ?_
 refine Wq<|Wr (.build rfl rfl)<|Wr (.build rfl rfl)<|Wr (.build rfl rfl)<|Wr (.build rfl rfl)<|Wr (.build rfl rfl)<|Wr (.build rfl rfl)<|Ww<|Wt rfl rfl rfl .here rfl rfl<|Wn<|We<|Wm (.cell rfl hT.t294.1 hT.t294.2 (.inl rfl) .here rfl rfl rfl .nil) ?_
 exact⟨rfl,[_],rfl⟩
theorem eT (a b:Int):binV .lss (iv a) (iv b)=some (.bool (decide (a<b))):=by show some (AV.bool (ilt a b))=_;rw[du]
theorem xA (a b:Int):binV .gtr (iv a) (iv b)=some (.bool (decide (b<a))):=by show some (AV.bool (ilt b a))=_;rw[du]
theorem th (a b:Int):binV .geq (iv a) (iv b)=some (.bool (!decide (a<b))):=by show some (AV.bool (!ilt a b))=_;rw[du]
theorem lD (hC:BaseC P K F T)(hT:TyC P T){e:ED}:bB P K (F 169) [.agg e.row] s (λv s'=>v=.agg (rowOf F e.op)/\∃m,s'=m++s):=by
 refine hC.f169.cF (by simp) ?_
 unfold S0
 refine Wq<|Wa (.box rfl rfl) λb1=>Wa (.alloc rfl) λb2=>Wn ?_
 have out:¬(0<=e.op/\e.op<=4)->rowOf F e.op=[iv 0,.nilFunc]:=by
  intro h
  unfold rowOf
  rw[if_neg (by omega),if_neg<|by omega,if_neg<|by omega,if_neg<|by omega]
 have zero:∀{l2:Sl}(h2:lk l2 2=some (.ptr<|some ⟨b2,0,0⟩)),rowOf F e.op=[iv 0,.nilFunc]->WP P K none 16 (oN [zo 11 (.build [(za 0),.nilFunc] []),zn<|.store 2 2 11] .ret) l2 [] ((b2,.r false [[(.int .i64<|.ofNat 0),.nilFunc]] 2)::(b1,.r false [e.row] 4)::s) (λ_ _ _=>False) (λ_ _ _ _=>False) (Fin P [.cell 2 (T 264)] λv s'=>v=.agg (rowOf F e.op)/\∃m,s'=m++s):=by
  intro l2 h2 hr
  refine Wq<|Wr (.build rfl rfl)<|Ww<|Wt h2 rfl rfl .here rfl rfl<|Wn<|We<|Wm (.cell h2 hT.t264.1 hT.t264.2 (.inl rfl) .here rfl rfl rfl .nil) ?_
  exact⟨by rw[hr];rfl,[_,_],rfl⟩
 by_cases h0:e.op<0
 ·refine Ws (Wq<|Wf rfl<|Wl rfl (.there .here) rfl rfl rfl<|Wj rfl rfl (eT e.op 0) ?_)
  rw[decide_eq_true h0]
  refine Wv rfl<|Wk rfl rfl<|Wk rfl rfl<|Wk rfl rfl<|Wr (.cV rfl rfl)<|Wn ?_
  exact Wd rfl (λ_=>(zero rfl<|out<|by omega).post (λ_ _ _ h=>h.elim) (λ_ _ _ _ h=>h) (λ_ _ _ h=>h))<|λh=>by cases h
 ·by_cases h4:4<e.op
  ·refine Ws (Wq<|Wf rfl<|Wl rfl (.there .here) rfl rfl rfl<|Wj rfl rfl (eT e.op 0) ?_)
   rw[decide_eq_false h0]
   refine Wv rfl<|Wy rfl rfl<|Wf rfl<|Wy rfl rfl<|Wl rfl (.there .here) rfl rfl rfl<|Wy rfl rfl<|Wj rfl rfl (xA e.op 4) ?_
   rw[decide_eq_true h4]
   refine Wr (.bj rfl rfl)<|Wn ?_
   exact Wd rfl (λ_=>(zero rfl<|out<|by omega).post (λ_ _ _ h=>h.elim) (λ_ _ _ _ h=>h) (λ_ _ _ h=>h))<|λh=>by cases h
  ·refine Ws (Wq<|Wf rfl<|Wl rfl (.there .here) rfl rfl rfl<|Wj rfl rfl (eT e.op 0) ?_)
   rw[decide_eq_false h0]
   refine Wv rfl<|Wy rfl rfl<|Wf rfl<|Wy rfl rfl<|Wl rfl (.there .here) rfl rfl rfl<|Wy rfl rfl<|Wj rfl rfl (xA e.op 4) ?_
   rw[decide_eq_false h4]
   refine Wr (.bj rfl rfl)<|Wn ?_
   refine Wd rfl (λh=>by cases h)<|λ_=>Wi ?_
   refine Ws<|WP.bD<|Dc .nil<|Wz [] rfl rfl (JZ hC hT) ?_
   rintro w _ ⟨rfl,m,rfl⟩
   have hidx:∃j:Nat,e.op=.ofNat j/\j<5/\part true (K3 F) (Nat.mul j 2) 2=some (.agg<|rowOf F e.op):=by
    rcases(by omega:e.op=0\/e.op=1\/e.op=2\/e.op=3\/e.op=4)with h|h|h|h|h<;>rw[h]
    ·exact⟨0,rfl,by omega,rfl⟩
    ·exact⟨1,rfl,by omega,rfl⟩
    ·exact⟨2,rfl,by omega,rfl⟩
    ·exact⟨3,rfl,by omega,rfl⟩
    ·exact⟨4,rfl,by omega,rfl⟩
   obtain⟨j,hj,hj5,hp⟩:=hidx
   obtain⟨fn,hfn⟩:=jM F e.op
   refine Dp (.faddr rfl)<|WD.lk rfl .nil (.load rfl (.app<|.there .here) rfl rfl rfl) ?_
   refine Dp (.idxA rfl (show lk _ 14=some (.int .i64<|.ofNat j)from by rw[<- hj];rfl) hj5 hp) ?_
   rw[hfn]
   refine Dc .nil<|Wt rfl rfl rfl (.app .here) rfl rfl<|D0 .nil ?_ ?_
   ·refine We (Wm (.cell rfl hT.t264.1 hT.t264.2 (.inl rfl) (.app .here) rfl rfl rfl .nil) ?_)
    exact⟨rfl,_,pull eW⟩
   ·intro o ho
    rw[List.mem_singleton.1 ho]
    refine⟨(λi hi=>nomatch hi),Nat.zero_le _,aa7 _,λk _ hk=>?_⟩
    rcases(by have:k<=1:=hk;omega:k=0\/k=1)with rfl|rfl
    ·exact⟨_,rfl,.load rfl (.there .here) rfl rfl rfl⟩
    ·exact⟨_,rfl,.load rfl (.app<|.there .here) rfl rfl rfl⟩
theorem wc (hC:BaseC P K F T)(hT:TyC P T){e:ED}:bB P K (F 173) [.agg e.row] s (λv s'=>v=.bool (decide (cx e.op=0))/\∃m,s'=m++s):=by
 refine hC.f173.cF (by simp) ?_
 unfold S4
 refine Wq<|Wa (.box rfl rfl) λb1=>Wv rfl<|Wn ?_
 refine Wq<|Wl rfl .here rfl rfl rfl<|Ww<|Wz [.agg e.row] rfl rfl (lD hC hT) ?_
 rintro w _ ⟨rfl,m,rfl⟩
 obtain⟨fn,hfn⟩:=jM F e.op
 rw[hfn]
 refine Wr (.fld rfl rfl)<|Wh rfl rfl (bb _ _)<|Wv rfl<|Wn<|We<|Wm (.tmp rfl .nil) ?_
 exact⟨rfl,_,pull yg⟩
theorem Cf (hC:BaseC P K F T){o b:OD}:bB P K (F 171) [iv 1,.agg o.row,.agg b.row] s (λv s'=>v=.bool (decide (o.aQ=b.aQ))/\∃m,s'=m++s):=by
 refine hC.f171.cF (by simp) ?_
 unfold Lh
 refine Wq<|Wa (.box rfl rfl) λb4=>Wa (.box rfl rfl) λb5=>Wv rfl<|Wn ?_
 refine Wq<|Wf rfl<|Wl rfl (.there .here) rfl rfl rfl<|Wf rfl<|Wl rfl .here rfl rfl rfl<|Wh rfl rfl (bb _ _)<|Wv rfl<|Wn ?_
 by_cases hc:o.aQ=b.aQ
 ·have Uk:eqBy 20 .pi (iv o.aQ) (iv b.aQ)=some true:=by rw[bb,decide_eq_true hc]
  rw[decide_eq_true hc]
  exact Wq<|Wv rfl<|Wh rfl rfl (bb _ _)<|Wv rfl<|Wk rfl rfl<|Wr (.bj rfl rfl)<|Wv rfl<|Wy rfl rfl<|Wv rfl<|Wy rfl rfl<|Wh rfl rfl (bb _ _)<|Wy rfl rfl<|Wv rfl<|Wy rfl rfl<|Wf rfl<|Wy rfl rfl<|Wl rfl (.there .here) rfl rfl rfl<|Wy rfl rfl<|Wf rfl<|Wy rfl rfl<|Wl rfl .here rfl rfl rfl<|Wy rfl rfl<|Wh rfl rfl Uk<|Wy rfl rfl<|Wr (.cV rfl rfl)<|Wr (.bj rfl rfl)<|Wv rfl<|Wk rfl rfl<|Wk rfl rfl<|Wr (.cV rfl rfl)<|Wv rfl<|Wk rfl rfl<|Wk rfl rfl<|Wk rfl rfl<|Wu rfl<|Wu rfl<|Wu rfl<|Wu rfl<|Wu rfl<|Wk rfl rfl<|Wk rfl rfl<|Wu rfl<|Wu rfl<|Wk rfl rfl<|Wr (.cV rfl rfl)<|Wv rfl<|Wn<|We<|Wm (.tmp rfl .nil) ⟨rfl,[_,_],rfl⟩
 ·have Uk:eqBy 20 .pi (iv o.aQ) (iv b.aQ)=some false:=by rw[bb,decide_eq_false hc]
  rw[decide_eq_false hc]
  exact Wq<|Wv rfl<|Wh rfl rfl (bb _ _)<|Wv rfl<|Wk rfl rfl<|Wr (.bj rfl rfl)<|Wv rfl<|Wy rfl rfl<|Wv rfl<|Wy rfl rfl<|Wh rfl rfl (bb _ _)<|Wy rfl rfl<|Wv rfl<|Wy rfl rfl<|Wf rfl<|Wy rfl rfl<|Wl rfl (.there .here) rfl rfl rfl<|Wy rfl rfl<|Wf rfl<|Wy rfl rfl<|Wl rfl .here rfl rfl rfl<|Wy rfl rfl<|Wh rfl rfl Uk<|Wy rfl rfl<|Wr (.cV rfl rfl)<|Wr (.bj rfl rfl)<|Wv rfl<|Wy rfl rfl<|Wv rfl<|Wy rfl rfl<|Wh rfl rfl (bb _ _)<|Wr (.bj rfl rfl)<|Wv rfl<|Wy rfl rfl<|Wv rfl<|Wy rfl rfl<|Wh rfl rfl (bb _ _)<|Wy rfl rfl<|Wv rfl<|Wk rfl rfl<|Wk rfl rfl<|Wk rfl rfl<|Wk rfl rfl<|Wk rfl rfl<|Wy rfl rfl<|Wr (.bj rfl rfl)<|Wy rfl rfl<|Wv rfl<|Wk rfl rfl<|Wk rfl rfl<|Wy rfl rfl<|Wr (.bj rfl rfl)<|Wr (.bj rfl rfl)<|Wv rfl<|Wn<|We<|Wm (.tmp rfl .nil) ⟨rfl,[_,_],rfl⟩
theorem Cg (hC:BaseC P K F T){o b:OD}:bB P K (F 171) [iv 2,.agg o.row,.agg b.row] s (λv s'=>v=.bool true/\∃m,s'=m++s):=by
 refine hC.f171.cF (by simp) ?_
 unfold Lh
 refine Wq<|Wa (.box rfl rfl) λb4=>Wa (.box rfl rfl) λb5=>Wv rfl<|Wn ?_
 refine Wq<|Wf rfl<|Wl rfl (.there .here) rfl rfl rfl<|Wf rfl<|Wl rfl .here rfl rfl rfl<|Wh rfl rfl (bb _ _)<|Wv rfl<|Wn ?_
 exact Wq<|Wv rfl<|Wh rfl rfl (bb _ _)<|Wv rfl<|Wk rfl rfl<|Wr (.bj rfl rfl)<|Wv rfl<|Wy rfl rfl<|Wv rfl<|Wy rfl rfl<|Wh rfl rfl (bb _ _)<|Wy rfl rfl<|Wv rfl<|Wk rfl rfl<|Wk rfl rfl<|Wk rfl rfl<|Wk rfl rfl<|Wk rfl rfl<|Wy rfl rfl<|Wr (.bj rfl rfl)<|Wr (.bj rfl rfl)<|Wv rfl<|Wy rfl rfl<|Wv rfl<|Wy rfl rfl<|Wh rfl rfl (bb _ _)<|Wr (.bj rfl rfl)<|Wv rfl<|Wk rfl rfl<|Wk rfl rfl<|Wk rfl rfl<|Wu rfl<|Wu rfl<|Wu rfl<|Wu rfl<|Wu rfl<|Wk rfl rfl<|Wk rfl rfl<|Wu rfl<|Wu rfl<|Wk rfl rfl<|Wr (.cV rfl rfl)<|Wv rfl<|Wn<|We<|Wm (.tmp rfl .nil) ⟨rfl,[_,_],rfl⟩
theorem yM (hC:BaseC P K F T)(hT:TyC P T){sv:AV}{x y:ED}:bB P K (F 175) [sv,.agg x.row,.agg y.row] s (λv s'=>∃n:Int,v=iv n/\∃m,s'=m++s):=by
 refine hC.f175.cF (by simp) ?_
 unfold S6
 refine Wq<|Wa (.box rfl rfl) λb4=>Wa (.box rfl rfl) λb5=>Wv rfl<|Wn ?_
 refine Ws<|Ws<|WP.bD<|Dl rfl .nil (.load rfl (.there .here) rfl rfl rfl)<|Dc .nil<|Wz [.agg x.row] rfl rfl (lD hC hT) ?_
 rintro w1 _ ⟨rfl,m1,rfl⟩
 obtain⟨f1,h1⟩:=jM F x.op
 rw[h1]
 refine Dp (.fld rfl rfl)<|WD.lk rfl .nil (.load rfl (.app .here) rfl rfl rfl)<|Dc .nil<|Wz [.agg y.row] rfl rfl (lD hC hT) ?_
 rintro w2 _ ⟨rfl,m2,rfl⟩
 obtain⟨f2,h2⟩:=jM F y.op
 rw[h2]
 have hsub:∃n:Int,binV .sub (iv<|cx x.op) (iv<|cx y.op)=some (iv n):=by
  have hl:∀q:Int,cx q=0\/cx q=1\/cx q=2\/cx q=3:=by
   intro q
   unfold cx
   split
   ·omega
   ·split
    ·omega
    ·split
     ·omega
     ·split<;>omega
  rcases hl x.op with h|h|h|h<;>rcases hl y.op with h'|h'|h'|h'<;>rw[h,h']<;>exact⟨_,rfl⟩
 obtain⟨n,hn⟩:=hsub
 refine Dp (.fld rfl rfl)<|Dp (.arith rfl rfl hn)<|Dp (.mv rfl)<|D0 .nil ?_ ?_
 rotate_left
 ·intro o ho
  rw[List.mem_singleton.1 ho]
  refine⟨(λi hi=>nomatch hi),Nat.zero_le _,?_,λk _ hk=>?_⟩
  ·show sameL (sameN 5) [iv y.op,iv y.a,iv y.b,iv y.st] [iv y.op,iv y.a,iv y.b,iv y.st]=true
   simp only[sameL,iq,Bool.and_true]
  rcases(by have:k<=1:=hk;omega:k=0\/k=1)with rfl|rfl
  ·exact⟨_,rfl,.load rfl .here rfl rfl rfl⟩
  ·exact⟨_,rfl,.load rfl (.app .here) rfl rfl rfl⟩
 refine Wq<|Wv rfl<|Wh rfl rfl (bb _ _)<|Wn ?_
 refine Wd rfl (λ_=>?_)<|λ_=>Wi ?_
 ·refine Wq (Wv rfl<|Wv rfl<|Wn<|We<|Wm (.tmp rfl .nil) ?_)
  exact⟨n,rfl,_,pull<|pull eW⟩
 refine Ws<|Wb<|Wq<|Wf rfl<|Wl rfl (.app<|.app<|.there .here) rfl rfl rfl<|Wf rfl<|Wl rfl (.app<|.app .here) rfl rfl rfl<|Wj rfl rfl (eT _ _)<|Wv rfl<|Wn ?_
 refine Wd rfl (λ_=>?_)<|λ_=>?_
 ·refine Wq (Wv rfl<|Wn<|We<|Wm (.tmp rfl .nil) ?_)
  exact⟨-1,rfl,_,pull<|pull eW⟩
 refine Wq<|Wf rfl<|Wl rfl (.app<|.app<|.there .here) rfl rfl rfl<|Wf rfl<|Wl rfl (.app<|.app .here) rfl rfl rfl<|Wj rfl rfl (xA _ _)<|Wv rfl<|Wn ?_
 refine Wd rfl (λ_=>?_)<|λ_=>Wi ?_
 ·refine Wq (Wv rfl<|Wn<|We<|Wm (.tmp rfl .nil) ?_)
  exact⟨1,rfl,_,pull<|pull eW⟩
 refine Wq<|Wv rfl<|Wn<|We<|Wm (.tmp rfl .nil) ?_
 exact⟨0,rfl,_,pull<|pull eW⟩
theorem Qp {L:List Int}{i:Nat}(h:i<L.length):(nR L)[i]?=some [iv L[i]]:=by rw[nR,List.getElem?_map,List.getElem?_eq_getElem h];rfl
theorem gq (L:List Int):(nR L).length=L.length:=by simp[nR]
theorem CY (hC:BaseC P K F T){v:AV}{L:List Int}{id:Int}(hv:Src s 1 v (nR L))(hn:L.length<=1000) :
  bB P K (F 204) [v,iv id] s (λw s'=>(∃r:Int,w=iv r/\decide (r<0)=!decide (id∈L))/\s'=s):=by
 refine hC.f204.cF (by simp) ?_
 unfold S7
 have lv:lenOf v=some L.length:=by rw[hv.lenOf,gq]
 refine Wq<|Wv rfl<|Wn ?_
 refine Ws<|Wq<|Wv rfl<|Wr (.lenS rfl lv)<|Wv rfl<|Wn<|Wb ?_
 refine Wp (λk l ds s'=>ds=[]/\s'=s/\∃q,k=L.length-q/\q<=L.length/\(∀j,j<q->L[j]?≠some id)/\∀j w,lk [(0,v),(1,iv id),(7,iv<|.ofNat L.length),(8,iv<|.ofNat q),(6,v)] j=some w->lk l j=some w) ?_ (n:=L.length-0) ⟨rfl,rfl,0,rfl,Nat.zero_le _,λj hj=>absurd hj<|Nat.not_lt_zero _,dM rfl⟩
 rintro k l ds s' ⟨rfl,rfl,q,rfl,hq,hno,hl⟩
 refine Wg hl (λ_ _ h=>h) ?_
 refine Wq<|Wj rfl rfl rfl<|Wn<|Ws<|Wd rfl (λht=>Wi ?_)<|λht=>?_
 ·have hlt:q<L.length:=bh.1 ht
  obtain⟨b,r,no,c,so,ro,M,rfl,hb,PS,hM⟩:=hv.Ko (by rw[gq];omega)
  rw[gq]at PS hM
  refine Ws<|Wb<|Wq<|Wv rfl<|Wv rfl<|Wn ?_
  refine Wq<|Wv rfl<|Wv rfl<|Wv rfl<|Wr (.iaddrS rfl rfl (by omega)<|by omega)<|Wl rfl hb ((hM q hlt).trans (Qp hlt)) rfl rfl<|Wh rfl rfl (bb _ _)<|Wn ?_
  by_cases he:id=L[q]
  ·rw[decide_eq_true he]
   refine Wd rfl (λ_=>?_)<|λh=>by cases h
   refine Wq<|Wv rfl<|Wv rfl<|Wn<|We<|Wm (.tmp rfl .nil) ?_
   refine⟨⟨.ofNat q,rfl,?_⟩,rfl⟩
   have:id∈L:=by rw[he];exact List.getElem_mem _
   rw[decide_eq_true this,decide_eq_false (by show¬((q:Nat):Int)<0;omega)]
   rfl
  ·rw[decide_eq_false he]
   refine Wd rfl (λh=>by cases h)<|λ_=>Wi ?_
   refine Wo<|Wj rfl rfl (bM<|by omega)<|Wv rfl<|Wn ?_
   refine⟨L.length-(q+1),by omega,rfl,rfl,q+1,rfl,hlt,λj hj=>?_,dM rfl⟩
   by_cases YC:j=q
   ·subst YC
    rw[List.getElem?_eq_getElem hlt]
    intro h
    exact he (Option.some.inj h).symm
   ·exact hno j<|by omega
 ·refine Wx ?_
  have:q=L.length:=by
   have:¬q<L.length:=λh=>by rw[fw,show Nat.blt q L.length=true from bh.2 h]at ht;cases ht
   omega
  subst this
  refine Wq<|Wv rfl<|Wn<|We<|Wm (.tmp rfl .nil) ?_
  refine⟨⟨-1,rfl,?_⟩,rfl⟩
  have:¬id∈L:=λh=>by
   obtain⟨j,hj,e⟩:=List.getElem_of_mem h
   exact hno j hj<|by rw[List.getElem?_eq_getElem hj,e]
  rw[decide_eq_false this]
  rfl
theorem mJ (hC:BaseC P K F T){v:AV}{L:List Int}{id:Int}(hv:Src s 1 v (nR L))(hn:L.length<=1000):bB P K (F 167) [v,iv id] s (λw s'=>w=.bool (decide (id∈L))/\s'=s):=by
 refine hC.f167.cF (by simp) ?_
 unfold SY
 refine Wq<|Wv rfl<|Wn ?_
 refine Wq<|Wv rfl<|Wv rfl<|Ww<|Wz [v,iv id] rfl rfl (CY hC hv hn) ?_
 rintro w _ ⟨⟨r,rfl,hr⟩,rfl⟩
 refine Wj rfl rfl (th r 0)<|Wv rfl<|Wn<|We<|Wm (.tmp rfl .nil) ?_
 refine⟨?_,rfl⟩
 show AV.bool (!decide (r<0))=_
 rw[hr,Bool.not_not]
theorem jC {R:List ED}{X:List (List AV)}{i:Nat}(h:i<R.length):(ey R++X)[i]?=some (R[i]).row:=by
 rw[List.getElem?_append_left (by simpa[ey]using h),ey,List.getElem?_map,List.getElem?_eq_getElem h];rfl
theorem B7 {R:List ED}{X:List (List AV)}{i j:Nat}(hi:i<R.length)(hj:j<R.length):(((ey R++X).set i (R[j]).row).set j (R[i]).row)=ey ((R.set i R[j]).set j R[i])++X:=by
 have hl:(ey R).length=R.length:=by simp[ey]
 rw[List.set_append_left _ _ (by omega),List.set_append_left _ _ (by rw[List.length_set];omega)]
 unfold ey
 rw[List.map_set,List.map_set]
@[reducible] def zM (bq n c:Nat)(sl:Bool)(a b:Nat)(sv:AV)(F:Nat->FuncId)(i:Nat):Sl:=[(0,.slice (some ⟨bq,0,0⟩) n c sl 4),(1,iv (.ofNat a)),(2,iv (.ofNat b)),(3,.func (F 175) [sv] []),(8,iv (.ofNat i))]
theorem mg (hC:BaseC P K F T)(hT:TyC P T){L:List ED}{X:List (List AV)}{bq c a b:Nat}{sl:Bool}{sv:AV}{t:SH}(hb:b<=L.length)(hn:L.length<=1000)(ha:a<=1000) :
  bB P K (F 237) [.slice (some ⟨bq,0,0⟩) L.length c sl 4,iv<|.ofNat a,iv<|.ofNat b,.func (F 175) [sv] []] ((bq,.r false (ey L++X) 4)::t) (λ_ s'=>∃m R,s'=m++((bq,.r false (ey R++X) 4)::t)/\R.Perm L):=by
 refine hC.f237.cF (by simp) ?_
 unfold Lo
 refine Wq<|Wv rfl<|Wj rfl rfl (bM<|by omega)<|Wv rfl<|Wn<|Wb ?_
 refine Wp (λk l ds s'=>ds=[]/\∃i m R,k=3000-i/\i<=2000/\s'=m++((bq,.r false (ey R++X) 4)::t)/\R.Perm L/\∀j w,lk (zM bq L.length c sl a b sv F i) j=some w->lk l j=some w) ?_ (n:=3000-(a+1)) ⟨rfl,a+1,[],L,rfl,by omega,rfl,.refl _,dM rfl⟩
 rintro k l ds s' ⟨rfl,i,m,R,rfl,hi2,rfl,hR,hl⟩
 refine Wg hl (λ_ _ h=>h) ?_
 refine Ws<|Wq<|Wv rfl<|Wv rfl<|Wj rfl rfl rfl<|Wn<|Wd rfl (λht=>Wi ?_)<|λht=>Wx<|Wm .nil ⟨m,R,rfl,hR⟩
 have Yv:i<b:=bh.1 ht
 refine Ws<|Wb<|Wq<|Wv rfl<|Wv rfl<|Wn<|Wb ?_
 refine Wp (λk l ds s'=>ds=[]/\∃j m R,k=j/\j<b/\s'=m++((bq,.r false (ey R++X) 4)::t)/\R.Perm L/\∀q w,lk ((9,iv<|.ofNat j)::zM bq L.length c sl a b sv F i) q=some w->lk l q=some w) ?_ (n:=i) ⟨rfl,i,m,R,rfl,Yv,rfl,hR,dM rfl⟩
 rintro j l ds s' ⟨rfl,_,m,R,rfl,hjb,rfl,hR,hl⟩
 refine Wg hl (λ_ _ h=>h) ?_
 have Ub:R.length=L.length:=hR.length_eq
 have out:∀{l2:Sl} {m R},(∀q w,lk (zM bq L.length c sl a b sv F i) q=some w->lk l2 q=some w)->R.Perm L->WP P K none 53 (.ops [zm 15 8,zo 16<|.arith .add 15<|zc 1,zm 8 16]) l2 [] (m++((bq,.r false (ey R++X) 4)::t)) (λl ds s=>∃q,q<3000-i/\ds=[]/\∃i m R,q=3000-i/\i<=2000/\s=m++((bq,.r false (ey R++X) 4)::t)/\R.Perm L/\∀j w,lk (zM bq L.length c sl a b sv F i) j=some w->lk l j=some w) (λq l ds s=>match Nat.beq q 0 with | true=>Fin P [] (λ_ s'=>∃m R,s'=m++((bq,.r false (ey R++X) 4)::t)/\R.Perm L) l ds s | false=>False) (Fin P [] (λ_ s'=>∃m R,s'=m++((bq,.r false (ey R++X) 4)::t)/\R.Perm L)):=by
  intro l2 m R h1 h2
  refine Wg h1 (λ_ _ h=>h) ?_
  refine Wo<|Wv rfl<|Wj rfl rfl (bM<|by omega)<|Wv rfl<|Wn ?_
  exact⟨3000-(i+1),by omega,rfl,i+1,m,R,rfl,by omega,rfl,h2,dM rfl⟩
 refine Ws<|Ws<|WP.bD<|Dp (.mv rfl)<|Dp (.mv rfl)<|Dp (.arith rfl rfl<|xA _ _) ?_
 by_cases X3:a<j
 ·rw[decide_eq_true (show(Int.ofNat a)<(Int.ofNat j)from by show((a:Nat):Int)<((j:Nat):Int);omega)]
  obtain⟨p,rfl⟩:∃p,j=p+1:=⟨j-1,by omega⟩
  refine Dp (.mv rfl)<|Dy rfl rfl<|Dp (.mv rfl)<|Dy rfl rfl<|Dp (.mv rfl)<|Dy rfl rfl<|Dp (.mv rfl)<|Dy rfl rfl<|Dp (.iaddrS rfl rfl (by omega)<|by omega)<|Dy rfl rfl<|Dl rfl .nil (.load rfl (.app .here) (r:=Nat.add 0<|p+1) (by rw[show Nat.add 0 (p+1)=p+1 from Nat.zero_add _];exact jC<|by omega) rfl rfl) ?_
  refine Dy rfl rfl<|Dp (.mv rfl)<|Dy rfl rfl<|Dp (.mv rfl)<|Dy rfl rfl<|Dp (.arith rfl rfl<|Ka<|by omega)<|Dy rfl rfl<|Dp (.iaddrS rfl rfl (by omega)<|by omega)<|Dy rfl rfl<|Dl rfl .nil (.load rfl (.app .here) (r:=Nat.add 0 p) (by rw[show Nat.add 0 p=p from Nat.zero_add _];exact jC<|by omega) rfl rfl) ?_
  refine Dy rfl rfl<|Dc .nil<|Wc (first:=[sv]) (vs:=[.agg (R[p+1]).row,.agg (R[p]).row]) (cap:=[]) rfl rfl (yM hC hT) ?_
  rintro w _ ⟨n,rfl,m2,rfl⟩
  refine Dy rfl rfl<|Dp (.arith rfl rfl<|eT n 0)<|Dp (.cV rfl rfl)<|D0 .nil ?_<|λo h=>nomatch h
  refine Wd rfl (λ_=>Wi ?_)<|λ_=>?_
  ·-- acZ change places
   refine Ws<|Wb<|WP.bD ?_
   refine Dp (.mv rfl)<|Dp (.mv rfl)<|Dp (.mv rfl)<|Dp (.mv rfl)<|Dp (.arith rfl rfl<|Ka<|by omega)<|Dp (.mv rfl)<|Dp (.mv rfl)<|Dp (.arith rfl rfl<|Ka<|by omega)<|Dp (.iaddrS rfl rfl (by omega)<|by omega)<|Dl rfl .nil (.load rfl (.app<|.app .here) (r:=Nat.add 0 p) (by rw[show Nat.add 0 p=p from Nat.zero_add _];exact jC<|by omega) rfl rfl) ?_
   refine Dp (.mv rfl)<|Dp (.mv rfl)<|Dp (.iaddrS rfl rfl (by omega)<|by omega)<|Dl rfl .nil (.load rfl (.app<|.app .here) (r:=Nat.add 0<|p+1) (by rw[show Nat.add 0 (p+1)=p+1 from Nat.zero_add _];exact jC<|by omega) rfl rfl)<|Dp (.iaddrS rfl rfl (by omega)<|by omega) ?_
   refine Dc .nil<|Wt (row':=(R[p]).row) rfl rfl rfl (.app<|.app .here) (r:=Nat.add 0<|p+1) (by rw[show Nat.add 0 (p+1)=p+1 from Nat.zero_add _];exact jC<|by omega) rfl<|Dp (.iaddrS rfl rfl (by omega)<|by omega) ?_
   refine Dc .nil<|Wt (row':=(R[p+1]).row) rfl rfl rfl (.app<|.app .here) (r:=Nat.add 0 p) (by rw[show Nat.add 0 p=p from Nat.zero_add _,show Nat.add 0 (p+1)=p+1 from Nat.zero_add _,List.getElem?_set_ne<|by omega];exact jC<|by omega) rfl<|D0 .nil ?_<|λo h=>nomatch h
   have hsw:((ey R++X).set (Nat.add 0<|p+1) (R[p]).row).set (Nat.add 0 p) (R[p+1]).row=ey ((R.set (p+1) R[p]).set p R[p+1])++X:=by
    rw[show Nat.add 0 p=p from Nat.zero_add _,show Nat.add 0 (p+1)=p+1 from Nat.zero_add _]
    exact B7 (by omega)<|by omega
   rw[hsw]
   refine Wo<|Wv rfl<|Wj rfl rfl (Ka<|by omega)<|Wv rfl<|Wn ?_
   refine⟨p,by omega,rfl,p,m2++m,_,rfl,by omega,(List.append_assoc ..).symm,(List.set_set_perm (by omega)<|by omega).trans hR,dM rfl⟩
  ·refine Wx ?_
   refine Wg (l':=zM bq L.length c sl a b sv F i) (dM rfl) (λ_ _ h=>h) ?_
   have:=@out (zM bq L.length c sl a b sv F i) (m2++m) R (λ_ _ h=>h) hR
   rw[List.append_assoc]at this
   exact this
 ·rw[decide_eq_false (show¬(Int.ofNat a)<(Int.ofNat j)from by show¬((a:Nat):Int)<((j:Nat):Int);omega)]
  refine Dp (.mv rfl)<|Dk rfl rfl rfl<|Dk rfl rfl rfl<|Dk rfl rfl rfl<|Dk rfl rfl rfl<|Dk rfl rfl rfl<|Dk rfl rfl rfl<|Dk rfl rfl rfl<|Dk rfl rfl rfl<|Dk rfl rfl rfl<|Dk rfl rfl rfl<|WD.jm rfl rfl<|Dk rfl rfl rfl<|Dp (.bj rfl rfl)<|D0 .nil ?_<|λo h=>nomatch h
  refine Wd rfl (λh=>by cases h)<|λ_=>Wx ?_
  exact out (dM rfl) hR
theorem vQ (a b:Int):binV .leq (iv a) (iv b)=some (.bool (!decide (b<a))):=by show some (AV.bool (!ilt b a))=_;rw[du]
theorem AJ (hC:BaseC P K F T)(hT:TyC P T){L:List ED}{X:List (List AV)}{bq c:Nat}{sl:Bool}{sv:AV}{t:SH}(hn:L.length<=20) :
  bB P K (F 207) [.slice (some ⟨bq,0,0⟩) L.length c sl 4,iv<|.ofNat L.length,.func (F 175) [sv] []] ((bq,.r false (ey L++X) 4)::t) (λ_ s'=>∃m R,s'.Perm (m++((bq,.r false (ey R++X) 4)::t))/\R.Perm L):=by
 refine hC.f207.cF (by simp) ?_
 unfold Lk
 refine Wq<|Wv rfl<|Wn ?_
 refine Wq<|Wv rfl<|Wv rfl<|Wv rfl<|Wn ?_
 have h28:binV .lss (iv 20) (iv<|.ofNat L.length)=some (.bool false):=by
  rw[eT,decide_eq_false (show¬(20:Int)<Int.ofNat L.length from by show¬(20:Int)<((L.length:Nat):Int);omega)]
 by_cases h20:L.length=20
 ·have XF:binV .leq (iv 20) (iv<|.ofNat L.length)=some (.bool true):=by rw[vQ,h20];rfl
  have XG:binV .leq (iv<|.ofNat<|20+20) (iv<|.ofNat L.length)=some (.bool false):=by rw[vQ,h20];rfl
  refine Ws<|Wb ?_
  refine WP.dA<|Ws<|Wq<|Wv rfl<|Wv rfl<|Wj rfl rfl XF<|Wn<|Wd rfl (λ_=>Wi ?_)<|λh=>by cases h
  refine Wb<|Wq<|Wv rfl<|Wv rfl<|Wv rfl<|Wv rfl<|Ww<|Wz [.slice (some ⟨bq,0,0⟩) L.length c sl 4,iv<|.ofNat 0,iv<|.ofNat 20,.func (F 175) [sv] []] rfl rfl (mg hC hT (a:=0) (b:=20) (by omega) (by omega)<|by omega) ?_
  rintro w _ ⟨m,R,rfl,hR⟩
  have Ub:R.length=L.length:=hR.length_eq
  refine Wn<|Wq<|Wv rfl<|Wv rfl<|Wn ?_
  refine Wo<|Wv rfl<|Wv rfl<|Wj rfl rfl (bM (a:=20) (b:=20)<|by omega)<|Wv rfl<|Wn ?_
  refine WP.dA<|Ws<|Wq<|Wv rfl<|Wv rfl<|Wj rfl rfl XG<|Wn<|Wd rfl (λh=>by cases h)<|λ_=>Wx ?_
  refine WP.pre (s':=(bq,.r false (ey R++X) 4)::(m++t)) List.perm_middle ?_
  refine Wq<|Wv rfl<|Wv rfl<|Wv rfl<|Wv rfl<|Ww<|Wz [.slice (some ⟨bq,0,0⟩) R.length c sl 4,iv<|.ofNat 20,iv<|.ofNat R.length,.func (F 175) [sv] []] rfl (by rw[Ub];rfl) (mg hC hT (a:=20) (b:=R.length) (by omega) (by omega)<|by omega) ?_
  rintro w2 _ ⟨m2,R2,rfl,R9⟩
  refine Wn<|Wb ?_
  refine WP.dA<|Ws<|Wq<|Wv rfl<|Wv rfl<|Wj rfl rfl h28<|Wn<|Wd rfl (λh=>by cases h)<|λ_=>Wx ?_
  exact Wm .nil ⟨m2++m,R2,cM λc w h0 h1 h2 hq=>by simp only[h1,h2];omega,R9.trans hR⟩
 ·have XF:binV .leq (iv 20) (iv<|.ofNat L.length)=some (.bool false):=by
   rw[vQ,decide_eq_true (show Int.ofNat L.length<(20:Int)from by show((L.length:Nat):Int)<20;omega)];rfl
  refine Ws<|Wb ?_
  refine WP.dA<|Ws<|Wq<|Wv rfl<|Wv rfl<|Wj rfl rfl XF<|Wn<|Wd rfl (λh=>by cases h)<|λ_=>Wx ?_
  refine Wq<|Wv rfl<|Wv rfl<|Wv rfl<|Wv rfl<|Ww<|Wz [.slice (some ⟨bq,0,0⟩) L.length c sl 4,iv<|.ofNat 0,iv<|.ofNat L.length,.func (F 175) [sv] []] rfl rfl (mg hC hT (a:=0) (b:=L.length) (by omega) (by omega)<|by omega) ?_
  rintro w2 _ ⟨m2,R2,rfl,R9⟩
  refine Wn<|Wb ?_
  refine WP.dA<|Ws<|Wq<|Wv rfl<|Wv rfl<|Wj rfl rfl h28<|Wn<|Wd rfl (λh=>by cases h)<|λ_=>Wx ?_
  exact Wm .nil ⟨m2,R2,.refl _,R9⟩
theorem vC (hC:BaseC P K F T){v f:AV}:bB P K (F 237) [v,iv (.ofNat 0),iv (.ofNat 0),f] s (λ_ s'=>s'=s):=by
 refine hC.f237.cF (by simp) ?_
 unfold Lo
 refine Wq<|Wv rfl<|Wj rfl rfl (bM (a:=0) (b:=1)<|by omega)<|Wv rfl<|Wn<|Wb ?_
 refine WP.dA<|Ws<|Wq<|Wv rfl<|Wv rfl<|Wj (v:=.bool false) rfl rfl rfl<|Wn<|Wd rfl (λh=>by cases h)<|λ_=>Wx ?_
 exact Wm .nil rfl
theorem wK (hC:BaseC P K F T){v f:AV}:bB P K (F 207) [v,iv (.ofNat 0),f] s (λ_ s'=>s'=s):=by
 refine hC.f207.cF (by simp) ?_
 unfold Lk
 refine Wq<|Wv rfl<|Wn ?_
 refine Wq<|Wv rfl<|Wv rfl<|Wv rfl<|Wn ?_
 refine Ws<|Wb ?_
 refine WP.dA<|Ws<|Wq<|Wv rfl<|Wv rfl<|Wj (v:=.bool false) rfl rfl rfl<|Wn<|Wd rfl (λh=>by cases h)<|λ_=>Wx ?_
 refine Wq<|Wv rfl<|Wv rfl<|Wv rfl<|Wv rfl<|Ww<|Wz [v,iv<|.ofNat 0,iv<|.ofNat 0,f] rfl rfl (vC hC) ?_
 rintro w _ rfl
 refine Wn<|Wb ?_
 refine WP.dA<|Ws<|Wq<|Wv rfl<|Wv rfl<|Wj (v:=.bool false) rfl rfl rfl<|Wn<|Wd rfl (λh=>by cases h)<|λ_=>Wx ?_
 exact Wm .nil rfl
theorem J7 (hC:BaseC P K F T)(hT:TyC P T){v sv:AV}{L:List ED}{m o t:SH}(h:Gr 4 v (ey L) o)(hn:L.length<=20) :
  bB P K (F 174) [v,.func (F 175) [sv] []] (m++(o++t)) (λ_ s'=>∃R o' j,s'.Perm (m++(o'++(j++t)))/\Gr 4 v (ey R) o'/\R.Perm L):=by
 refine hC.f174.cF (by simp) ?_
 unfold S5
 have hl:(ey L).length=L.length:=by simp[ey]
 have nil:ey L=[]->∀{u:AV},lenOf u=some 0->Gr 4 u [] []->WP P K none 9 (.ops [zm 4 0,zm 5 0,zo 6<|.lenS 5,zm 7 1,oF F 8 207 [4,6,7]]) (sl0 0 [u,.func (F 175) [sv] []]) [] (m++([]++t)) (Fin P [] λ_ s'=>∃R o' j,s'.Perm (m++(o'++(j++t)))/\Gr 4 u (ey R) o'/\R.Perm L) (λ_ _ _ _=>False) (Fin P [] λ_ s'=>∃R o' j,s'.Perm (m++(o'++(j++t)))/\Gr 4 u (ey R) o'/\R.Perm L):=by
  intro he u hu hG
  have hL:L=[]:=by
   cases L with
   | nil=>rfl
   | cons a L=>simp[ey]at he
  refine Wo<|Wv rfl<|Wv rfl<|Wr (.lenS rfl hu)<|Wv rfl<|Ww<|Wz [u,iv<|.ofNat 0,.func (F 175) [sv] []] rfl rfl (wK hC) ?_
  rintro w _ rfl
  exact Wn<|Wm .nil ⟨[],[],[],.refl _,hG,by rw[hL]⟩
 generalize hE:ey L=E at h
 cases h with
 | nil=>exact nil hE rfl .nil
 | zero=>exact nil hE rfl .zero
 | @rows b n c _ X hn2 hc hL=>
  subst hE
  rw[hl]at hn2
  subst hn2
  refine WP.pre (s':=(b,.r false (ey L++X) 4)::(m++t)) (cM λc w h0 h1 h2 hq=>by simp only[h1,h2,h0];omega) ?_
  refine Wo<|Wv rfl<|Wv rfl<|Wr (.lenS rfl rfl)<|Wv rfl<|Ww<|Wz [.slice (some ⟨b,0,0⟩) L.length c true 4,iv<|.ofNat L.length,.func (F 175) [sv] []] rfl rfl (AJ hC hT hn) ?_
  rintro w s2 ⟨m2,R,hp,hR⟩
  have Ub:(ey R).length=L.length:=by simp[ey,hR.length_eq]
  refine Wn<|Wm .nil ⟨R,[(b,.r false (ey R++X) 4)],m2,cM λc w h0 h1 h2 hq=>by simp only[h1,h2,h0,hq _ _ hp];omega,Gr.rows Ub.symm (by rw[Ub,<- hl];exact hc) hL,hR⟩
theorem BaseC.Xc (hC:BaseC P K F T):FnK P K (F 172) 42 [.tmp 4] (xp true (F 206) 4 [iv 0,iv 0,iv 0,iv 0]):=hC.f172
theorem BaseC.Xe (hC:BaseC P K F T):FnK P K (F 206) 19 [.tmp 4] (CU true 4):=hC.f206
def yl:List AV->Bool
 | .int _ op::_=>decide<|cx op=0
 | _=>false
theorem yZ (hC:BaseC P K F T)(hT:TyC P T){v:AV}{L:List ED}{m o t:SH}(h:Gr 4 v (ey L) o)(hn:L.length<=1000) :
  bB P K (F 172) [v,.func (F 173) [] []] (m++(o++t)) (λv' s'=>∃o' x,s'=x++(m++(o'++t))/\Gr 4 v' (ey<|L.filter λe=>!decide (cx e.op=0)) o'):=by
 have dP:∀row∈ey L,∀y:SH,c6 P K (.func (F 173) [] []) [N0 true row] y (λw s'=>w=.bool (yl row)/\∃m,s'=m++y):=λrow hr y=>by
  obtain⟨q,_,rfl⟩:=List.mem_map.1 hr
  exact c6.func<|wc hC hT
 have hlen:∀row∈ey L,row.length=4:=λrow hr=>by
  obtain⟨q,_,rfl⟩:=List.mem_map.1 hr
  rfl
 have vq:(ey L).filter (λr=>!yl r)=ey (L.filter λe=>!decide (cx e.op=0)):=by
  unfold ey
  rw[List.filter_map]
  rfl
 refine hC.Xc.cF (by simp)<|xq yl h (by omega) rfl (.inl rfl) (by simp only[ey,List.length_map];omega) hlen (λh=>by cases h) ?_ (λrow hr y hy=>dP row hr y) λv' o' y hG=>⟨o',y,rfl,by rw[<- vq];exact hG⟩
 exact hC.Xe.cF (by simp)<|vz yl h.src (by omega) (.inl rfl) (by simp only[ey,List.length_map];omega) hlen (λrow hr y=>dP row hr _) λn=>⟨rfl,n,rfl⟩
structure AD where
 kind:Int
 ev:Int
 who:Int
 n3:Int
 n4:Int
 n5:Int
 n6:Int
 tap:Bool
 tg:AV
 cd:AV
 op:Int
 a:Int
 b:Int
@[reducible] def AD.row (x:AD):List AV:=[iv x.kind,iv x.ev,iv x.who,iv x.n3,iv x.n4,iv x.n5,iv x.n6,.bool x.tap,x.tg,x.cd,iv x.op,iv x.a,iv x.b]
structure CD where
 nm:ByteArray
 kind:Int
 n2:Int
 n3:Int
 n4:Int
 n5:Int
 n6:Int
 power:Int
 qn:Int
 keys:Int
 av:AV
 ab:List AD
@[reducible] def CD.row (c:CD):List AV:=[.str c.nm,iv c.kind,iv c.n2,iv c.n3,iv c.n4,iv c.n5,iv c.n6,iv c.power,iv c.qn,iv c.keys,c.av]
structure cI (s:SH)(cv:AV)(C:List CD):Prop where
 src:Src s 11 cv (C.map CD.row)
 ab:∀c∈C,Src s 13 c.av<|c.ab.map AD.row
 n:C.length<=1000
 nb:∀c∈C,c.ab.length<=1000
theorem cI.mono {s s':SH}{cv:AV}{C:List CD}(h:cI s cv C)(hs:∀p,p∈s->p∈s'):cI s' cv C:=⟨h.src.mono hs,λc hc=>(h.ab c hc).mono hs,h.n,h.nb⟩
def SD.onF (d:SD)(C:List CD)(id:Int):Option (OD × CD):=
 match d.find id with
 | none=>none
 | some i=>if id∈d.fi then match d.ob[i]? with
  | none=>none
  | some o=>if o.gE<0 then none else match C[o.gE.toNat]? with
   | none=>none
   | some c=>some (o,c)
  else none
def Bj (d:SD)(C:List CD)(id:Int)(v:AV):Prop:=
 (∃o c,d.onF C id=some (o,c)/\c.kind=2/\o∈d.ob/\c∈C/\v=.tuple [.agg o.row,.agg c.row,.bool true]) \/
  ((∀o c,d.onF C id=some (o,c)->c.kind≠2)/\∃(o:OD)(c:CD),v=.tuple [.agg o.row,.agg c.row,.bool false])
theorem J3 (c:CD)(h:Src s 13 c.av (c.ab.map AD.row)):dz (.agg c.row) (.agg c.row)=true:=by
 have hs:=h.sameN 4
 show sameL (sameN 5) c.row c.row=true
 simp only[sameL,hs,Bool.and_true]
 simp[sameN,same0,gd,keq]
@[reducible] def yz:List AV:=[(.str ⟨#[]⟩),(.int .i64 (.ofNat 0)),(.int .i64 (.ofNat 0)),(.int .i64 (.ofNat 0)),(.int .i64 (.ofNat 0)),(.int .i64 (.ofNat 0)),(.int .i64 (.ofNat 0)),(.int .i64 (.ofNat 0)),(.int .i64 (.ofNat 0)),(.int .i64 (.ofNat 0)),(.slice none 0 0 false 0)]
theorem ta (hB:Base P K F T)(hC:BaseC P K F T)(q9:Ty P (T 45) 14)(IZ:Ty P (T 99) 11){cv pv ov lv hv gv ev fv sv wv:AV}{d:SD}{C:List CD}{id:Int}(eQ:cI s cv C)(h:mD s pv ov lv hv gv ev fv sv wv d)(hd:d.Small)(hcd:∀o∈d.ob,∃j:Nat,o.gE=.ofNat j/\j<C.length) :
  bB P K (F 121) [cv,.agg<|d.cells pv ov lv hv gv ev fv sv wv,iv id] s (λv s'=>Bj d C id v/\∃m,s'=m++s):=by
 have hn:=hd.n1
 refine hC.f121.cF (by simp) ?_
 unfold SP
 refine Wq<|Wa (.box rfl rfl) λb4=>Wa (.alloc rfl) λb6=>Wa (.alloc rfl) λb7=>Wv rfl<|Wn ?_
 refine Wq<|Wl rfl (.there<|.there .here) rfl rfl rfl<|Wv rfl<|Ww<|Wz [.agg (d.cells pv ov lv hv gv ev fv sv wv),iv id] rfl rfl (lg hB (h.ob.mono λp hp=>by simp[hp]) hd) ?_
 rintro w _ ⟨rfl,m1,rfl⟩
 refine Wv rfl<|Wn ?_
 by_cases hf:(∃i,d.find id=some i)/\id∈d.fi
 ·obtain⟨⟨i,hi⟩,hm⟩:=hf
  obtain⟨Uw,ho⟩:∃h:i<d.ob.length,d.ob[i]?=some d.ob[i]:=by
   obtain⟨h1,_⟩:=List.findIdx?_eq_some_iff_getElem.1 hi
   exact⟨h1,List.getElem?_eq_getElem h1⟩
  have hmem:d.ob[i]∈d.ob:=List.getElem_mem _
  obtain⟨j,hj,A3⟩:=hcd _ hmem
  generalize d.ob[i]=o at ho hmem hj
  have zC:C[j]?=some C[j]:=List.getElem?_eq_getElem A3
  have IR:C[j]∈C:=List.getElem_mem _
  generalize C[j]=c at zC IR
  have sj:d.onF C id=some (o,c):=by
   simp only[SD.onF,hi,if_pos hm,ho,hj]
   rw[if_neg (by show¬Int.ofNat j<0;exact Int.not_lt.2<|Int.natCast_nonneg j)]
   show(match C[j]? with | none=>none | some c=>some (o,c))=_
   rw[zC]
  rw[hi]
  refine Ws<|Wq<|Wv rfl<|Wj (v:=.bool false) rfl rfl rfl<|Wv rfl<|Wy rfl rfl<|Wf rfl<|Wy rfl rfl<|Wl rfl (.app<|.there<|.there .here) rfl rfl rfl<|Wy rfl rfl<|Wv rfl<|Wy rfl rfl<|Ww<|Wz [fv,iv id] rfl rfl (mJ hC (h.fi.mono λp hp=>by simp[hp])<|by omega) ?_
  rintro w _ ⟨rfl,rfl⟩
  rw[decide_eq_true hm]
  refine Wy rfl rfl<|Wr (.un (v:=.bool false) rfl rfl)<|Wr (.bj rfl rfl)<|Wn<|Wd rfl fS<|λ_=>Wi ?_
  obtain⟨bo,ro,no,co,ZE,WE,Mo,rfl,IM,hin,hrow⟩:=h.ob.at (i:=i)<|by simpa[fy]using Uw
  have n8:Mo[ro+i]?=some o.row:=by rw[hrow];simp only[fy,List.getElem?_map,ho];rfl
  refine Wq<|Wf rfl<|Wl rfl (.app<|.there<|.there .here) rfl rfl rfl<|Wv rfl<|Wr (.iaddrS rfl rfl hin<|by decide)<|Wl rfl (.app<|.there<|.there<|.there IM) n8 rfl rfl<|Ww<|Wt rfl rfl rfl (.app<|.there .here) rfl rfl<|Wn ?_
  have hge:binV .geq (iv o.gE) (iv<|.ofNat C.length)=some (.bool false):=by
   rw[hj,th,decide_eq_true<|show Int.ofNat j<Int.ofNat C.length from Int.ofNat_lt.2 A3];rfl
  have hlt:binV .lss (iv o.gE) (iv 0)=some (.bool false):=by
   rw[hj,eT,decide_eq_false<|show¬Int.ofNat j<0 from Int.not_lt.2<|Int.natCast_nonneg j]
  have hlen:lenOf cv=some C.length:=by rw[eQ.src.lenOf,List.length_map]
  refine Ws<|Wq<|Wf rfl<|Wl rfl (.app<|.there .here) rfl rfl rfl<|Wj rfl rfl hlt<|Wv rfl<|Wy rfl rfl<|Wf rfl<|Wy rfl rfl<|Wl rfl (.app<|.there .here) rfl rfl rfl<|Wy rfl rfl<|Wv rfl<|Wy rfl rfl<|Wr (.lenS rfl hlen)<|Wy rfl rfl<|Wj rfl rfl hge<|Wr (.bj rfl rfl)<|Wn<|Wd rfl fS<|λ_=>Wi ?_
  obtain⟨bc,rc,nc,cc,slc,roc,Mc,rfl,hbc,CC,abU⟩:=eQ.src.at (i:=j)<|by simpa using A3
  have n9:Mc[rc+j]?=some c.row:=by rw[abU];simp only[List.getElem?_map,zC];rfl
  refine Wq<|Wv rfl<|Wf rfl<|Wl rfl (.app<|.there .here) rfl rfl rfl<|Wr (.iaddrS rfl (by rw[hj];rfl) CC<|by decide)<|Wl rfl (.app<|.there<|.there<|.there hbc) n9 rfl rfl<|Ww<|Wt rfl rfl rfl (.app .here) rfl rfl<|Wn ?_
  refine Ws<|WP.bD<|Dl rfl .nil (.load rfl (.app<|.there .here) rfl rfl rfl)<|WD.lk rfl .nil (.load rfl (.app .here) rfl rfl rfl)<|Dp (.faddr rfl)<|Dl rfl .nil (.load rfl (.app .here) rfl rfl rfl)<|Dp (.eql rfl rfl<|bb _ _)<|Dc .nil<|Wt rfl rfl rfl (.app<|.there .here) rfl rfl<|Dc .nil<|Wt rfl rfl rfl (.app .here) rfl rfl<|Dp (.mv rfl)<|D0 .nil ?_ ?_
  rotate_left
  ·intro o ho
   rw[List.mem_singleton.1 ho]
   refine⟨(λi hi=>nomatch hi),Nat.zero_le _,J3 c<|eQ.ab c IR,λk _ hk=>?_⟩
   rcases(by have:k<=1:=hk;omega:k=0\/k=1)with rfl|rfl
   ·exact⟨_,rfl,.load rfl (.app .here) rfl rfl rfl⟩
   ·exact⟨_,rfl,.load rfl (.app .here) rfl rfl rfl⟩
  refine We<|Wm (.cell rfl q9.1 q9.2 (.inl rfl) (.app<|.there .here) rfl rfl rfl<|.cell rfl IZ.1 IZ.2 (.inl rfl) (.app .here) rfl rfl rfl<|.tmp rfl .nil) ⟨?_,_,pull yh⟩
  by_cases hk:c.kind=2
  ·exact .inl ⟨o,c,sj,hk,hmem,IR,by show AV.tuple [_,_,.bool<|decide<|c.kind=2]=_;rw[decide_eq_true hk]⟩
  ·refine .inr ⟨λo2 c2 h2=>?_,o,c,by show AV.tuple [_,_,.bool<|decide<|c.kind=2]=_;rw[decide_eq_false hk]⟩
   rw[sj]at h2
   cases h2
   exact hk
 ·have hno:∀o c,d.onF C id=some (o,c)->c.kind≠2:=by
   intro o c h2
   unfold SD.onF at h2
   split at h2
   ·cases h2
   ·rename_i i hi
    split at h2
    ·rename_i hm
     exact absurd ⟨⟨i,hi⟩,hm⟩ hf
    ·cases h2
  have fin:∀{l2:Sl}{m:SH},lk l2 6=some (.ptr<|some ⟨b6,0,0⟩)->lk l2 7=some (.ptr<|some ⟨b7,0,0⟩)->WP P K none 51 (.seq (.drawn 0 [zr (zo 22<|.load true 14 6) 0 0 0,zr (zo 23<|.load true 11 7) 0 1 0,zh (zn<|.store 14 6 22) 1,zh (zn<|.store 11 7 23) 7,zp (zo 8<|.mv<|.const<|.bool false) 15]) .ret) l2 [] (m++((b7,.r false [yz] 11)::(b6,.r false [dB] 14)::(b4,.r false [d.cells pv ov lv hv gv ev fv sv wv] 25)::s)) (λ_ _ _=>False) (λ_ _ _ _=>False) (Fin P [.cell 6 (T 45),.cell 7<|T 99,.tmp 8] λv s'=>Bj d C id v/\∃m,s'=m++s):=by
   intro l2 m h6 h7
   refine Ws<|WP.bD<|Dl rfl .nil (.load h6 (.app<|.there .here) rfl rfl rfl)<|WD.lk rfl .nil (.load h7 (.app .here) rfl rfl rfl)<|Dc .nil<|Wt h6 rfl rfl (.app<|.there .here) rfl rfl<|Dc .nil<|Wt h7 rfl rfl (.app .here) rfl rfl<|Dp (.mv rfl)<|D0 .nil ?_ ?_
   rotate_left
   ·intro o ho
    rw[List.mem_singleton.1 ho]
    refine⟨(λi hi=>nomatch hi),Nat.zero_le _,(by show sameL (sameN 5) yz yz=true;simp[sameL,sameN,same0,gd,keq]),λk _ hk=>?_⟩
    rcases(by have:k<=1:=hk;omega:k=0\/k=1)with rfl|rfl
    ·exact⟨_,rfl,.load h7 (.app .here) rfl rfl rfl⟩
    ·exact⟨_,rfl,.load h7 (.app .here) rfl rfl rfl⟩
   exact We<|Wm (.cell h6 q9.1 q9.2 (.inl rfl) (.app<|.there .here) rfl rfl rfl<|.cell h7 IZ.1 IZ.2 (.inl rfl) (.app .here) rfl rfl rfl<|.tmp rfl .nil) ⟨.inr ⟨hno,⟨0,0,0,0,0,false,false,false,0,0,0,0,false⟩,⟨⟨#[]⟩,0,0,0,0,0,0,0,0,0,nilS,[]⟩,rfl⟩,_,pull yh⟩
  cases hi:d.find id with
  | none=>
   refine Ws<|Wq<|Wv rfl<|Wj (v:=.bool true) rfl rfl rfl<|Wv rfl<|Wk rfl rfl<|Wk rfl rfl<|Wk rfl rfl<|Wk rfl rfl<|Wk rfl rfl<|Wr (.cV rfl rfl)<|Wn<|Wd rfl (λ_=>?_) Dz
   exact(fin rfl rfl).post (λ_ _ _ h=>h.elim) (λ_ _ _ _ h=>h) (λ_ _ _ h=>h)
  | some i=>
   have hm:¬id∈d.fi:=λhm=>hf ⟨⟨i,hi⟩,hm⟩
   refine Ws<|Wq<|Wv rfl<|Wj (v:=.bool false) rfl rfl rfl<|Wv rfl<|Wy rfl rfl<|Wf rfl<|Wy rfl rfl<|Wl rfl (.app<|.there<|.there .here) rfl rfl rfl<|Wy rfl rfl<|Wv rfl<|Wy rfl rfl<|Ww<|Wz [fv,iv id] rfl rfl (mJ hC (h.fi.mono λp hp=>by simp[hp])<|by omega) ?_
   rintro w _ ⟨rfl,rfl⟩
   rw[decide_eq_false hm]
   refine Wy rfl rfl<|Wr (.un (v:=.bool true) rfl rfl)<|Wr (.bj rfl rfl)<|Wn<|Wd rfl (λ_=>?_) Dz
   exact(fin rfl rfl).post (λ_ _ _ h=>h.elim) (λ_ _ _ _ h=>h) (λ_ _ _ h=>h)
def Ch (w:Int)(o b:OD):Bool:=if w=1 then decide (o.aQ=b.aQ)else true
def jU (o b:OD)(l:List AD):List ED:=(l.filter λx=>decide (x.kind=4)&&Ch x.who o b).map λx=>⟨x.op,x.a,x.b,o.stamp⟩
theorem lS (o b:OD)(l:List AD)(x:AD):jU o b (l++[x])=jU o b l++if(decide (x.kind=4)&&Ch x.who o b)=true then [⟨x.op,x.a,x.b,o.stamp⟩]else []:=by
 unfold jU
 rw[List.filter_append,List.map_append]
 congr 1
 split
 ·rename_i h
  simp only[List.filter_cons,h,List.filter_nil,if_true,List.map_cons,List.map_nil]
 ·rename_i h
  simp only[List.filter_cons,h,List.filter_nil]
  rfl
theorem sx (o b:OD)(l:List AD):(jU o b l).length<=l.length:=by
 unfold jU
 rw[List.length_map]
 exact List.length_filter_le ..
theorem Ci (hC:BaseC P K F T){o b:OD}{w:Int}(hw:w=1\/w=2):bB P K (F 171) [iv w,.agg o.row,.agg b.row] s (λv s'=>v=.bool (Ch w o b)/\∃m,s'=m++s):=by
 rcases hw with rfl|rfl
 ·exact Cf hC
 ·exact Cg hC
theorem Lv (hC:BaseC P K F T){b3 b7 sf:Nat}{ro3 ro7:Bool}{cv lv:AV}{C:List CD}{o b:OD}{c:CD}{L:List ED}{m og t:SH}(eQ:cI t cv C)(h3:Has b3 (.r ro3 [[cv]] 1) t)(h7:Has b7 (.r ro7 [b.row] 14) t)
  (hj:∃j:Nat,o.gE=.ofNat j/\C[j]?=some c) (hw:∀x∈c.ab,x.kind=4->x.who=1\/x.who=2) (hG:Gr 4 lv (ey L) og) (hL:L.length<=100000) :
  bB P K (F 170) [.agg o.row,.ptr<|some ⟨b3,0,0⟩,.ptr<|some ⟨b7,0,0⟩,.ptr<|some ⟨sf,0,0⟩] ((sf,.r false [[lv]] 1)::(m++(og++t)))
   (λ_ s'=>∃eo tM m',s'.Perm ((sf,.r false [[eo]] 1)::(m'++(tM++t)))/\Gr 4 eo (ey<|L++jU o b c.ab) tM):=by
 obtain⟨j,hj,vp⟩:=hj
 obtain⟨A3,zC⟩:=List.getElem?_eq_some_iff.1 vp
 have IR:c∈C:=zC▸List.getElem_mem _
 have hab:=eQ.ab c IR
 have hnb:=eQ.nb c IR
 refine hC.f170.cF (by simp) ?_
 unfold S3
 refine Wq<|Wa (.box rfl rfl) λb4=>Wn ?_
 have hge:binV .geq (iv o.gE) (iv<|.ofNat C.length)=some (.bool false):=by
  rw[hj,th,decide_eq_true<|show Int.ofNat j<Int.ofNat C.length from Int.ofNat_lt.2 A3];rfl
 have hlt:binV .lss (iv o.gE) (iv 0)=some (.bool false):=by
  rw[hj,eT,decide_eq_false<|show¬Int.ofNat j<0 from Int.not_lt.2<|Int.natCast_nonneg j]
 have hlen:lenOf cv=some C.length:=by rw[eQ.src.lenOf,List.length_map]
 refine Ws<|Wq<|Wf rfl<|Wl rfl .here rfl rfl rfl<|Wj rfl rfl hlt<|Wv rfl<|Wy rfl rfl<|Wf rfl<|Wy rfl rfl<|Wl rfl .here rfl rfl rfl<|Wy rfl rfl<|Wl rfl (.there<|.there<|.app<|.app h3) rfl rfl rfl<|Wy rfl rfl<|Wr (.lenS rfl hlen)<|Wy rfl rfl<|Wj rfl rfl hge<|Wr (.bj rfl rfl)<|Wn<|Wd rfl fS<|λ_=>Wi ?_
 obtain⟨bc,rc,nc,cc,slc,roc,Mc,rfl,hbc,CC,abU⟩:=eQ.src.at (i:=j)<|by simpa using A3
 have n9:Mc[rc+j]?=some c.row:=by rw[abU];simp only[List.getElem?_map,vp];rfl
 have YD:lenOf c.av=some c.ab.length:=by rw[hab.lenOf,List.length_map]
 refine Wq<|Wl rfl (.there<|.there<|.app<|.app h3) rfl rfl rfl<|Wf rfl<|Wl rfl .here rfl rfl rfl<|Wr (.iaddrS rfl (by rw[hj];rfl) CC<|by decide)<|Wf rfl<|Wl rfl (.there<|.there<|.app<|.app hbc) n9 rfl rfl<|Wr (.lenS rfl YD)<|Wv rfl<|Wn<|Wb ?_
 refine Wp (λk l ds s'=>ds=[]/\∃q eo tM m',k=c.ab.length-q/\q<=c.ab.length/\s'.Perm ((sf,.r false [[eo]] 1)::(b4,.r false [o.row] 14)::(m'++(tM++t)))/\Gr 4 eo (ey<|L++jU o b (c.ab.take q)) tM /\
   ∀i w,lk [(2,.ptr (some ⟨b7,0,0⟩)),(3,.ptr (some ⟨sf,0,0⟩)),(4,.ptr (some ⟨b4,0,0⟩)),(22,c.av),(23,iv (.ofNat c.ab.length)),(24,iv (.ofNat q))] i=some w->lk l i=some w) ?_ (n:=c.ab.length-0)
  ⟨rfl,0,lv,og,m,rfl,Nat.zero_le _,.swap _ _ _,by rw[List.take_zero];simpa[jU]using hG,dM rfl⟩
 rintro k l ds s' ⟨rfl,q,eo,tM,m',rfl,hq,hp,pI,hl⟩
 refine WP.pre hp<|Wg hl (λ_ _ h=>h) ?_
 refine Wq<|Wj rfl rfl rfl<|Wn<|Ws<|Wd rfl (λht=>?_)<|λht=>?_
 ·have hlt:q<c.ab.length:=bh.1 ht
  have hx:c.ab[q]?=some c.ab[q]:=List.getElem?_eq_getElem hlt
  have KP:c.ab[q]∈c.ab:=List.getElem_mem _
  generalize c.ab[q]=x at hx KP
  have gc:c.ab.take (q+1)=c.ab.take q++[x]:=by rw[List.take_add_one,hx];rfl
  obtain⟨ba,ra,na,ca,J5,Sp,Ma,xD,hba,me,gH⟩:=hab.at (i:=q)<|by simpa using hlt
  have eE:Ma[ra+q]?=some x.row:=by rw[gH];simp only[List.getElem?_map,hx];rfl
  refine Wi<|Ws<|Wb<|Wq<|Wr (.iaddrS (congrArg some xD) rfl me<|by decide)<|Wl rfl (.there<|.there<|.app<|.app hba) eE rfl rfl<|Wa (.alloc rfl) λb6=>Ww<|Wt (s':=(b6,.r false [x.row] 13)::_) rfl rfl rfl .here rfl rfl<|Wn ?_
  by_cases hk:x.kind=4
  ·have hkk:eqBy 20 .pi (iv x.kind) (iv 4)=some true:=by rw[bb,decide_eq_true hk]
   refine Wq<|Wf rfl<|Wl rfl .here rfl rfl rfl<|Wh rfl rfl hkk<|Wv rfl<|Wy rfl rfl<|Wf rfl<|Wy rfl rfl<|Wl rfl .here rfl rfl rfl<|Wy rfl rfl<|Wl rfl (.there<|.there .here) rfl rfl rfl<|Wy rfl rfl<|Wl rfl (.there<|.there<|.there<|.app<|.app h7) rfl rfl rfl<|Wy rfl rfl<|Ww<|Wz [iv x.who,.agg o.row,.agg b.row] rfl rfl (Ci hC<|hw x KP hk) ?_
   rintro w _ ⟨rfl,m1,rfl⟩
   refine Wr (.cV rfl rfl)<|Wn ?_
   refine Wd rfl (λhb=>?_)<|λhb=>Wi ?_
   ·have X1:jU o b (c.ab.take<|q+1)=jU o b (c.ab.take q)++[⟨x.op,x.a,x.b,o.stamp⟩]:=by
     rw[gc,lS,hb,hk];rfl
    have UA:(ey<|L++jU o b (c.ab.take q)).length+1<=901000:=by
     have:=sx o b<|c.ab.take q
     have h2:(c.ab.take q).length<=c.ab.length:=by rw[List.length_take];omega
     simp only[ey,List.length_map,List.length_append];omega
    refine Wo<|Wl rfl (.app<|.there .here) rfl rfl rfl<|Wf rfl<|Wl rfl (.app .here) rfl rfl rfl<|Wf rfl<|Wl rfl (.app .here) rfl rfl rfl<|Wf rfl<|Wl rfl (.app .here) rfl rfl rfl<|Wf rfl<|Wl rfl (.app<|.there<|.there .here) rfl rfl rfl<|Wr (.build (cs:=(⟨x.op,x.a,x.b,o.stamp⟩:ED).row) rfl rfl)<|Wa (.bslice (L:=[(⟨x.op,x.a,x.b,o.stamp⟩:ED).row]) rfl rfl) λW5=>?_
    refine Ww<|WS.pre (s':=((W5,.r false [(⟨x.op,x.a,x.b,o.stamp⟩:ED).row] 4)::(sf,.r false [[eo]] 1)::(b4,.r false [o.row] 14)::(b6,.r false [x.row] 13)::(m1++m'))++(tM++t)) (cM λc w h0 h1 h2 hq=>by simp only[h1,h2];omega)<|WS.append_gr rfl pI rfl (Src.all (L:=[(⟨x.op,x.a,x.b,o.stamp⟩:ED).row]) .here) (by decide) UA (by decide) λnw A9 jk xB=>?_
    refine Ww<|Wt (s':=A9++((W5,.r false [(⟨x.op,x.a,x.b,o.stamp⟩:ED).row] 4)::(sf,.r false [[nw]] 1)::(b4,.r false [o.row] 14)::(b6,.r false [x.row] 13)::(m1++m')++(jk++t))) rfl rfl xB.out.src.part (.app<|.there .here) rfl rfl<|Wn ?_
    refine Wo<|Wj rfl rfl (bM<|by omega)<|Wv rfl<|Wn ?_
    refine⟨c.ab.length-(q+1),by omega,rfl,q+1,nw,A9,(W5,.r false [(⟨x.op,x.a,x.b,o.stamp⟩:ED).row] 4)::(b6,.r false [x.row] 13)::(m1++(m'++jk)),rfl,hlt,cM λc w h0 h1 h2 hq=>by simp only[h1,h2];omega,?_,dM rfl⟩
    have:ey (L++jU o b (c.ab.take<|q+1))=ey (L++jU o b (c.ab.take q))++[(⟨x.op,x.a,x.b,o.stamp⟩:ED).row]:=by
     rw[X1];simp[ey]
    rw[this]
    exact xB
   ·refine Wo (Wj rfl rfl (bM<|by omega)<|Wv rfl<|Wn ?_)
    refine⟨c.ab.length-(q+1),by omega,rfl,q+1,eo,tM,(b6,.r false [x.row] 13)::(m1++m'),rfl,hlt,cM λc w h0 h1 h2 hq=>by simp only[h1,h2];omega,?_,dM rfl⟩
    rw[gc,lS,hb]
    simpa using pI
  ·have hkk:eqBy 20 .pi (iv x.kind) (iv 4)=some false:=by rw[bb,decide_eq_false hk]
   refine Wq<|Wf rfl<|Wl rfl .here rfl rfl rfl<|Wh rfl rfl hkk<|Wv rfl<|Wk rfl rfl<|Wk rfl rfl<|Wk rfl rfl<|Wk rfl rfl<|Wk rfl rfl<|Wr (.bj rfl rfl)<|Wn ?_
   refine Wd rfl fS<|λ_=>Wi ?_
   refine Wo<|Wj rfl rfl (bM<|by omega)<|Wv rfl<|Wn ?_
   refine⟨c.ab.length-(q+1),by omega,rfl,q+1,eo,tM,(b6,.r false [x.row] 13)::m',rfl,hlt,cM λc w h0 h1 h2 hq=>by simp only[h1,h2];omega,?_,dM rfl⟩
   rw[gc,lS,decide_eq_false hk]
   simpa using pI
 ·refine Wx ?_
  have:q=c.ab.length:=by
   have:¬q<c.ab.length:=λh=>by rw[fw,show Nat.blt q c.ab.length=true from bh.2 h]at ht;cases ht
   omega
  rw[this,List.take_length]at pI
  exact Wm .nil ⟨eo,tM,(b4,.r false [o.row] 14)::m',.refl _,pI⟩
def oneE (d:SD)(C:List CD)(b:OD)(n:Int):List ED:=
 match d.find n with
 | none=>[]
 | some i=>match d.ob[i]? with
  | none=>[]
  | some o=>match C[o.gE.toNat]? with
   | none=>[]
   | some c=>jU o b c.ab
def qy (d:SD)(C:List CD)(b:OD):List ED:=(d.fi.flatMap (oneE d C b)).filter λe=>!decide (cx e.op=0)
structure nF (d:SD)(C:List CD):Prop where
 cd:∀o∈d.ob,∃j:Nat,o.gE=.ofNat j/\j<C.length
 who:∀c∈C,∀x∈c.ab,x.kind=4->x.who=1\/x.who=2
 R8:∀b,(d.fi.flatMap<|oneE d C b).length<=20
theorem WS.uL {R:AV->List aD->SH->Prop}{sz bytes:Nat}{ss x:Operand}{sv xv:AV}{L:List (List AV)}{o:SH}(hs:cr l ss=some sv)(hG:Gr sz sv L o)(hx:cr l x=some xv)(hN:Src s sz xv [])(hz:sz≠0)(k:R sv ds s) :
  WS P K (.append sz bytes ss x) l ds s R:=by
 cases hG with
 | nil=>exact WS.append_none hs hx hN hz (Nat.le_refl _) k
 | zero=>exact WS.append_none hs hx hN hz (Nat.le_refl _) k
 | rows hn hc hL=>exact WS.append_none hs hx hN hz (by omega) k
theorem u7 (hB:Base P K F T)(hC:BaseC P K F T)(hT:TyC P T)(q9:Ty P (T 45) 14){cv pv ov lv hv gv ev fv sv wv:AV}{d:SD}{C:List CD}{id:Int}{o:OD}{c:CD}(eQ:cI s cv C)(h:mD s pv ov lv hv gv ev fv sv wv d)(hd:d.Small)(hcd:nF d C)
  (sj:d.onF C id=some (o,c)) (hk:c.kind=2) :
  bB P K (F 123) [cv,.agg<|d.cells pv ov lv hv gv ev fv sv wv,iv id] s (λv s'=>∃R m,R.Perm (qy d C o)/\s'.Perm (m++s)/\Src s' 4 v (ey R)):=by
 have hn:=hd.n1
 refine hC.f123.cF (by simp) ?_
 unfold SR
 refine Wq<|Wa (.box rfl eQ.src.part) λb3=>Wa (.box rfl rfl) λb4=>Wv rfl<|Wn ?_
 refine Wq<|Wl rfl (.there .here) rfl rfl rfl<|Wl rfl .here rfl rfl rfl<|Wv rfl<|Ww<|Wz [cv,.agg<|d.cells pv ov lv hv gv ev fv sv wv,iv id] rfl rfl (ta hB hC q9 hT.t99 (eQ.mono λp hp=>by simp[hp]) (h.mono λp hp=>by simp[hp]) hd hcd.cd) ?_
 rintro w _ ⟨hF,m1,rfl⟩
 rcases hF with⟨o2,c2,UI,hk2,V4,IR,rfl⟩|⟨hno,_⟩
 rotate_left
 ·exact absurd hk<|hno o c sj
 rw[sj]at UI
 cases UI
 refine Wv rfl<|Wr (.extract rfl rfl)<|Wr (.extract rfl rfl)<|Wr (.extract rfl rfl)<|Wa (.alloc rfl) λb7=>Wa (.alloc rfl) λb8=>Ww<|Wt (s':=(b8,.r false [_] 11)::(b7,.r false [o.row] 14)::_) rfl rfl rfl (.there .here) rfl rfl<|Ww<|Wt (s':=(b8,.r false [c.row] 11)::_) rfl rfl rfl .here rfl rfl<|Wv rfl<|Wn ?_
 refine Ws<|Wq<|Wv rfl<|Wr (.un (v:=.bool false) rfl rfl)<|Wn<|Wd rfl fS<|λ_=>Wi ?_
 refine Wq<|Wa (.alloc rfl) λsf=>Wn ?_
 refine Wq<|Wr (.mkfn rfl rfl)<|Wv rfl<|Wn ?_
 have YE:lenOf fv=some d.fi.length:=by rw[h.fi.lenOf,gq]
 refine Ws<|Wq<|Wf rfl<|Wl rfl (.there<|.there<|.there<|.app .here) rfl rfl rfl<|Wr (.lenS rfl YE)<|Wv rfl<|Wn<|Wb ?_
 generalize ht:((b8,HO.r false [c.row] 11)::(b7,HO.r false [o.row] 14)::(m1++((b4,HO.r false [d.cells pv ov lv hv gv ev fv sv wv] 25)::(b3,HO.r false [[cv]] 1)::s)):SH)=t
 have h3:Has b3 (.r false [[cv]] 1) t:=by rw[<- ht];exact .there<|.there<|.app<|.there .here
 have h4:Has b4 (.r false [d.cells pv ov lv hv gv ev fv sv wv] 25) t:=by rw[<- ht];exact .there<|.there<|.app .here
 have h7:Has b7 (.r false [o.row] 14) t:=by rw[<- ht];exact .there .here
 have hst:∀p,p∈s->p∈t:=λp hp=>by rw[<- ht];simp[hp]
 have hts:∃m,t=m++s:=⟨_,by rw[<- ht];exact fN<|fN<|pull eW⟩
 refine Wp (λk l ds s'=>ds=[]/\∃q eo tM m',k=d.fi.length-q/\q<=d.fi.length/\s'.Perm ((sf,.r false [[eo]] 1)::(m'++(tM++t)))/\Gr 4 eo (ey<|(d.fi.take q).flatMap (oneE d C o)) tM /\
   ∀i w,lk [(3,.ptr (some ⟨b3,0,0⟩)),(4,.ptr (some ⟨b4,0,0⟩)),(7,.ptr (some ⟨b7,0,0⟩)),(10,.ptr (some ⟨sf,0,0⟩)),(11,.func (F 170) [] [.ptr (some ⟨b3,0,0⟩),.ptr (some ⟨b7,0,0⟩),.ptr (some ⟨sf,0,0⟩)]),(27,fv),(28,iv (.ofNat d.fi.length)),(29,iv (.ofNat q))] i=some w->lk l i=some w) ?_ (n:=d.fi.length-0)
  ⟨rfl,0,nilS,[],[],rfl,Nat.zero_le _,.refl _,.nil,dM rfl⟩
 rintro k l ds s' ⟨rfl,q,eo,tM,m',rfl,hq,hp,pI,hl⟩
 refine WP.pre hp<|Wg hl (λ_ _ h=>h) ?_
 refine Wq<|Wj rfl rfl rfl<|Wn<|Ws<|Wd rfl (λht=>?_)<|λht=>?_
 ·have hlt:q<d.fi.length:=bh.1 ht
  have hx:d.fi[q]?=some d.fi[q]:=List.getElem?_eq_getElem hlt
  generalize d.fi[q]=n at hx
  have gc:(d.fi.take<|q+1).flatMap (oneE d C o)=(d.fi.take q).flatMap (oneE d C o)++oneE d C o n:=by rw[List.take_add_one,hx,List.flatMap_append];simp
  obtain⟨ba,ra,na,ca,J5,Sp,Ma,rfl,hba,me,gH⟩:=h.fi.at (i:=q) (by rw[gq];exact hlt)
  have eE:Ma[ra+q]?=some [iv n]:=by rw[gH,nR,List.getElem?_map,hx];rfl
  refine Wi<|Ws<|Wb<|Wq<|Wr (.iaddrS rfl rfl me<|by decide)<|Wl rfl (.there<|.app<|.app<|.ce<|hst _ hba.mem) eE rfl rfl<|Wv rfl<|Wn ?_
  refine Wq<|Wl rfl (.there<|.app<|.app h4) rfl rfl rfl<|Wv rfl<|Ww<|Wz [.agg (d.cells pv ov lv hv gv ev _ sv wv),iv n] rfl rfl (lg hB (h.ob.mono λp hp=>by simp[hst p hp]) hd) ?_
  rintro w _ ⟨rfl,m2,rfl⟩
  refine Wv rfl<|Wn ?_
  have R8:((d.fi.take q).flatMap (oneE d C o)).length<=20:=by
   refine Nat.le_trans ?_<|hcd.R8 o
   conv=>rhs;rw[<- List.take_append_drop q d.fi,List.flatMap_append,List.length_append]
   omega
  cases hf:d.find n with
  | none=>
   refine Wq<|Wv rfl<|Wj (v:=.bool false) rfl rfl rfl<|Wn<|Wd rfl fS<|λ_=>Wi ?_
   refine Wo<|Wj rfl rfl (bM<|by omega)<|Wv rfl<|Wn ?_
   refine⟨d.fi.length-(q+1),by omega,rfl,q+1,eo,tM,m2++m',rfl,hlt,cM λc w h0 h1 h2 hq=>by simp only[h1,h2];omega,?_,dM rfl⟩
   rw[gc,oneE,hf]
   simpa using pI
  | some i=>
   obtain⟨Uw,ho⟩:∃h:i<d.ob.length,d.ob[i]?=some d.ob[i]:=by
    obtain⟨h1,_⟩:=List.findIdx?_eq_some_iff_getElem.1 hf
    exact⟨h1,List.getElem?_eq_getElem h1⟩
   have hmem:d.ob[i]∈d.ob:=List.getElem_mem _
   obtain⟨j,hj,A3⟩:=hcd.cd _ hmem
   generalize d.ob[i]=x at ho hmem hj
   have zC:C[j]?=some C[j]:=List.getElem?_eq_getElem A3
   have Ul:C[j]∈C:=List.getElem_mem _
   generalize C[j]=y at zC Ul
   have hone:oneE d C o n=jU x o y.ab:=by
    simp only[oneE,hf,ho,hj]
    show(match C[j]? with | none=>[] | some c=>jU x o c.ab)=_
    rw[zC]
   obtain⟨bo,ro,no,co,ZE,WE,Mo,rfl,IM,hin,hrow⟩:=h.ob.at (i:=i)<|by simpa[fy]using Uw
   have n8:Mo[ro+i]?=some x.row:=by rw[hrow];simp only[fy,List.getElem?_map,ho];rfl
   refine Wq<|Wv rfl<|Wj (v:=.bool true) rfl rfl rfl<|Wn<|Wd rfl (λ_=>?_) Dz
   refine Wo<|WO.pre (s':=(sf,.r false [[eo]] 1)::((m2++m')++(tM++t))) (cM λc w h0 h1 h2 hq=>by simp only[h1,h2];omega) ?_
   refine Wv rfl<|Wf rfl<|Wl rfl (.there<|.app<|.app h4) rfl rfl rfl<|Wv rfl<|Wr (.iaddrS rfl rfl hin<|by decide)<|Wl rfl (.there<|.app<|.app<|.ce<|hst _ IM.mem) n8 rfl rfl<|Ww<|Wc (first:=[]) (vs:=[.agg x.row]) (cap:=[.ptr (some ⟨b3,0,0⟩),.ptr<|some ⟨b7,0,0⟩,.ptr<|some ⟨sf,0,0⟩]) rfl rfl (Lv hC (eQ.mono hst) h3 h7 ⟨j,hj,zC⟩ (hcd.who y Ul) pI<|by omega) ?_
   rintro w s2 ⟨nw,A9,m3,Gu,xB⟩
   refine Wn ?_
   refine Wo<|Wj rfl rfl (bM<|by omega)<|Wv rfl<|Wn ?_
   refine⟨d.fi.length-(q+1),by omega,rfl,q+1,nw,A9,m3,rfl,hlt,Gu,?_,dM rfl⟩
   rw[gc,hone]
   exact xB
 ·refine Wx ?_
  have:q=d.fi.length:=by
   have:¬q<d.fi.length:=λh=>by rw[fw,show Nat.blt q d.fi.length=true from bh.2 h]at ht;cases ht
   omega
  rw[this,List.take_length]at pI
  have R8:=hcd.R8 o
  obtain⟨mt,UD⟩:=hts
  -- the VP own VT are none
  refine Wq<|Wl rfl .here rfl rfl rfl<|Wf rfl<|Wl rfl (.there<|.app<|.app h7) rfl rfl rfl<|Ww<|WS.uL rfl pI rfl .nil (by decide) ?_
  refine Ww<|Wt (s':=(sf,.r false [[eo]] 1)::_) rfl rfl pI.out.src.part .here rfl rfl<|Wn ?_
  refine Wq<|Wl rfl .here rfl rfl rfl<|Ww<|WS.pre (s':=((sf,.r false [[eo]] 1)::m')++(tM++t)) (.refl _)<|Wz [eo,.func (F 173) [] []] rfl rfl (yZ hC hT pI<|by omega) ?_
  rintro v2 _ ⟨o2,x2,rfl,xB⟩
  refine Ww<|Wt (s':=x2++((sf,.r false [[v2]] 1)::m'++(o2++t))) rfl rfl xB.out.src.part (.app .here) rfl rfl<|Wn ?_
  refine Wq<|Wl rfl (.app .here) rfl rfl rfl<|Wl rfl (.app .here) rfl rfl rfl<|Wr (.mkfn rfl rfl)<|Ww<|WS.pre (s':=(x2++((sf,.r false [[v2]] 1)::m'))++(o2++t)) (cM λc w h0 h1 h2 hq=>by simp only[h1,h2];omega)<|Wz [v2,.func (F 175) [v2] []] rfl rfl (J7 hC hT xB<|Nat.le_trans (List.length_filter_le ..) R8) ?_
  rintro w s3 ⟨R,o3,j3,UO,hG3,hR⟩
  refine WO.pre UO<|Wn ?_
  refine Wq<|Wl rfl (.left<|.app .here) rfl rfl rfl<|Wv rfl<|Wn<|We<|Wm (.tmp rfl .nil) ?_
  refine⟨R,x2++((sf,.r false [[v2]] 1)::m')++(o3++(j3++mt)),hR,?_,hG3.out.src.mono λp hp=>by simp[hp]⟩
  rw[UD]
  exact cM λc w h0 h1 h2 hq=>by simp only[h1,h2];omega
structure CH where
 p:Int
 t:Int
 k:Int
@[reducible] def CH.row (c:CH):List AV:=[iv c.p,iv c.t,iv c.k]
def FT (n:Int):Int:=match ilt n (.negSucc 998)with | true=>.negSucc 998 | false=>n
def oP (n:Int):Int:=match ilt 999 (FT n)with | true=>999 | false=>FT n
def CH.fin (c:CH):CH:=⟨oP c.p,oP c.t,c.k⟩
def tK (g:ED->CH->CH)(c:CH)(R:List ED):CH:=(R.foldl (λc e=>g e c) c.fin).fin
def lQ (P:Program)(K:Orc)(F:Nat->FuncId)(g:ED->CH->CH)(e:ED):Prop:=
 ∃fid,rowOf F e.op=[iv (cx e.op),.func fid [] []]/\∀(b:Nat)(c:CH)(s:SH),bB P K fid [.ptr (some ⟨b,0,0⟩),.agg e.row] ((b,.r false [c.row] 3)::s) (λ_ s'=>∃m,s'=m++((b,.r false [(g e c).row] 3)::s))
theorem bB.canon {f:FuncId}{args:List AV}{R:AV->SH->Prop}(h:bB P K f args s (λv s'=>∃s'',s'.Perm s''/\R v s'')):bB P K f args s R:=by
 intro H0 H hH
 obtain⟨v,s',H',h1,h2,s'',h3,h4⟩:=h H0 H hH
 exact⟨v,s'',H',h1,h2.perm h3,h4⟩
theorem WR.mmx {mx:Bool}{args:List Operand}{v r:AV}{vs:List AV}(ha:aI (cr l) args=some (v::vs))(hv:aw (mm mx) vs v=some r):WR P (.minmax mx args) l s r:=
 WR.mk' (λ_ _ _ _ _=>rfl) (λe H he=>by simp only[aval,lG he ha,hv])
theorem lM (hC:BaseC P K F T){n:Int}:bB P K (F 168) [iv n] s (λv s'=>v=iv (oP n)/\s'=s):=by
 refine hC.f168.cF (by simp) ?_
 unfold SZ
 refine Wq<|Wv rfl<|Wn ?_
 exact Wq<|Wv rfl<|Wr (.mmx rfl rfl)<|Wr (.mmx rfl rfl)<|Wv rfl<|Wn<|We<|Wm (.tmp rfl .nil) ⟨rfl,rfl⟩
theorem Ir (hC:BaseC P K F T)(hT:TyC P T){g:ED->CH->CH}{c:CH}{v:AV}{R:List ED}(hv:Src s 4 v (ey R))(hR:R.length<=1000)(hg:∀e∈R,lQ P K F g e) :
  bB P K (F 122) [.agg c.row,v] s (λw s'=>w=.agg (tK g c R).row/\∃m,s'=m++s):=by
 refine hC.f122.cF (by simp) ?_
 unfold SQ
 refine Wq<|Wa (.box rfl rfl) λb2=>Wa (.alloc rfl) λb4=>Wn ?_
 refine Ws<|WP.bD<|Dp (.faddr rfl)<|Dl rfl .nil (.load rfl (.there .here) rfl rfl rfl)<|Dc .nil<|Wz [iv c.p] rfl rfl (lM hC) ?_
 rintro w _ ⟨rfl,rfl⟩
 refine Dp (.faddr rfl)<|WD.lk rfl .nil (.load rfl (.there .here) rfl rfl rfl)<|Dc .nil<|Wz [iv c.t] rfl rfl (lM hC) ?_
 rintro w _ ⟨rfl,rfl⟩
 refine Dp (.faddr rfl)<|Dc .nil<|Wt (s':=_::(b2,.r false [[iv (oP c.p),iv c.t,iv c.k]] 3)::_) rfl rfl rfl (.there .here) rfl rfl<|Dp (.faddr rfl)<|Dc .nil<|Wt (s':=_::(b2,.r false [c.fin.row] 3)::_) rfl rfl rfl (.there .here) rfl rfl<|D0 .nil ?_ ?_
 rotate_left
 ·intro o ho
  rw[List.mem_singleton.1 ho]
  refine⟨(λi hi=>nomatch hi),Nat.zero_le _,iq 5 _,λk _ hk=>?_⟩
  rcases(by have:k<=1:=hk;omega:k=0\/k=1)with rfl|rfl
  ·exact⟨_,rfl,.load rfl (.there .here) rfl rfl rfl⟩
  ·exact⟨_,rfl,.load rfl (.there .here) rfl rfl rfl⟩
 have hl:lenOf v=some R.length:=by rw[hv.lenOf];simp[ey]
 refine WP.pre (.swap _ _ _)<|Ws<|Wq<|Wv rfl<|Wr (.lenS rfl hl)<|Wv rfl<|Wn<|Wb ?_
 refine Wp (λk l ds s'=>ds=[]/\∃q m,k=R.length-q/\q<=R.length/\s'=m++((b2,.r false [((R.take q).foldl (λc e=>g e c) c.fin).row] 3)::(b4,.r false [[iv 0,iv 0,iv 0]] 3)::s) /\
   ∀i w,lk [(2,.ptr (some ⟨b2,0,0⟩)),(4,.ptr (some ⟨b4,0,0⟩)),(16,v),(17,iv (.ofNat R.length)),(18,iv (.ofNat q))] i=some w->lk l i=some w) ?_ (n:=R.length-0)
  ⟨rfl,0,[],rfl,Nat.zero_le _,rfl,dM rfl⟩
 rintro k l ds s' ⟨rfl,q,m,rfl,hq,rfl,hl⟩
 refine Wg hl (λ_ _ h=>h) ?_
 refine Wq<|Wj rfl rfl rfl<|Wn<|Ws<|Wd rfl (λht=>?_)<|λht=>?_
 ·have hlt:q<R.length:=bh.1 ht
  have hx:R[q]?=some R[q]:=List.getElem?_eq_getElem hlt
  have KP:R[q]∈R:=List.getElem_mem _
  generalize R[q]=e at hx KP
  obtain⟨fid,hrow,hstep⟩:=hg e KP
  have gc:(R.take<|q+1).foldl (λc e=>g e c) c.fin=g e ((R.take q).foldl (λc e=>g e c) c.fin):=by rw[List.take_add_one,hx,List.foldl_append];rfl
  generalize (R.take q).foldl (λc e=>g e c) c.fin=cq at gc
  obtain⟨ba,ra,na,ca,J5,Sp,Ma,rfl,hba,me,gH⟩:=hv.at (i:=q)<|by simpa[ey]using hlt
  have eE:Ma[ra+q]?=some e.row:=by rw[gH];simp only[ey,List.getElem?_map,hx];rfl
  refine Wi<|Ws<|Wb<|Wq<|Wr (.iaddrS rfl rfl me<|by decide)<|Wl rfl (.app<|.there<|.there hba) eE rfl rfl<|Wa (.alloc rfl) λb6=>Ww<|Wt (s':=(b6,.r false [e.row] 4)::_) rfl rfl rfl .here rfl rfl<|Wn ?_
  refine Wq<|Wl rfl .here rfl rfl rfl<|Ww<|Wz [.agg e.row] rfl rfl (lD hC hT) ?_
  rintro w _ ⟨rfl,m1,rfl⟩
  rw[hrow]
  refine Wa (.alloc rfl) λb7=>Ww<|Wt (s':=(b7,.r false [[iv (cx e.op),.func fid [] []]] 2)::_) rfl rfl rfl .here rfl rfl<|Wn ?_
  refine Wq<|Wf rfl<|Wl rfl .here rfl rfl rfl<|Wh (b:=false) rfl rfl rfl<|Wn ?_
  refine Wd rfl (λ_=>?_) Dz
  refine Wo<|Wf rfl<|Wl rfl .here rfl rfl rfl<|Wl rfl (.there<|.app .here) rfl rfl rfl<|Ww<|WS.pre (s':=(b2,.r false [cq.row] 3)::((b7,.r false [[iv (cx e.op),.func fid [] []]] 2)::(m1++((b6,.r false [e.row] 4)::(m++((b4,.r false [[iv 0,iv 0,iv 0]] 3)::s)))))) (cM λc w h0 h1 h2 hq=>by simp only[h1,h2];omega)<|WS.perm<|Wz [.ptr (some ⟨b2,0,0⟩),.agg e.row] rfl rfl (hstep b2 cq _) ?_
  rintro w _ ⟨m3,rfl⟩
  refine⟨((m3++((b7,.r false [[iv (cx e.op),.func fid [] []]] 2)::m1))++((b6,.r false [e.row] 4)::m))++((b2,.r false [(g e cq).row] 3)::(b4,.r false [[iv 0,iv 0,iv 0]] 3)::s),cM λc w h0 h1 h2 hq=>by simp only[h1,h2];omega,Wn ?_⟩
  refine Wo<|Wj rfl rfl (bM<|by omega)<|Wv rfl<|Wn ?_
  exact⟨R.length-(q+1),by omega,rfl,q+1,_,rfl,hlt,by rw[gc],dM rfl⟩
 ·refine Wx ?_
  have:q=R.length:=by
   have:¬q<R.length:=λh=>by rw[fw,show Nat.blt q R.length=true from bh.2 h]at ht;cases ht
   omega
  rw[this,List.take_length]
  unfold tK
  generalize R.foldl (λc e=>g e c) c.fin=cq
  refine Ws<|WP.bD<|Dp (.faddr rfl)<|Dl rfl .nil (.load rfl (.app .here) rfl rfl rfl)<|Dc .nil<|Wz [iv cq.p] rfl rfl (lM hC) ?_
  rintro w _ ⟨rfl,rfl⟩
  refine Dp (.faddr rfl)<|WD.lk rfl .nil (.load rfl (.app .here) rfl rfl rfl)<|Dc .nil<|Wz [iv cq.t] rfl rfl (lM hC) ?_
  rintro w _ ⟨rfl,rfl⟩
  refine Dp (.faddr rfl)<|Dc .nil<|Wt (s':=m++((b2,.r false [[iv (oP cq.p),iv cq.t,iv cq.k]] 3)::_)) rfl rfl rfl (.app .here) rfl rfl<|Dp (.faddr rfl)<|Dc .nil<|Wt (s':=m++((b2,.r false [cq.fin.row] 3)::_)) rfl rfl rfl (.app .here) rfl rfl<|D0 .nil ?_ ?_
  rotate_left
  ·intro o ho
   rw[List.mem_singleton.1 ho]
   refine⟨(λi hi=>nomatch hi),Nat.zero_le _,iq 5 _,λk _ hk=>?_⟩
   rcases(by have:k<=1:=hk;omega:k=0\/k=1)with rfl|rfl
   ·exact⟨_,rfl,.load rfl (.app .here) rfl rfl rfl⟩
   ·exact⟨_,rfl,.load rfl (.app .here) rfl rfl rfl⟩
  refine Wq<|Wl rfl (.app .here) rfl rfl rfl<|Ww<|Wt (s':=m++((b2,_)::(b4,.r false [cq.fin.row] 3)::s)) rfl rfl rfl (.app<|.there .here) rfl rfl<|Wn<|We<|Wm (.cell rfl hT.t71.1 hT.t71.2 (.inl rfl) (.app<|.there .here) rfl rfl rfl .nil) ?_
  exact⟨rfl,_,pull eW⟩
def qq (g:ED->CH->CH)(d:SD)(C:List CD)(id:Int)(v:AV):Prop:=
 (∃o c R,d.onF C id=some (o,c)/\c.kind=2/\o∈d.ob/\c∈C/\R.Perm (qy d C o)/\v=.tuple [.agg (tK g ⟨c.power,c.qn,c.keys⟩ R).row,.bool true]) \/
  ((∀o c,d.onF C id=some (o,c)->c.kind≠2)/\v=.tuple [.agg [iv 0,iv 0,iv 0],.bool false])
theorem Qs (hB:Base P K F T)(hC:BaseC P K F T)(hT:TyC P T)(q9:Ty P (T 45) 14){g:ED->CH->CH}{cv pv ov lv hv gv ev fv sv wv:AV}{d:SD}{C:List CD}{id:Int}(eQ:cI s cv C)(h:mD s pv ov lv hv gv ev fv sv wv d)(hd:d.Small)(hcd:nF d C)
  (hg:∀o,∀e∈qy d C o,lQ P K F g e) :
  bB P K (F 77) [cv,.agg<|d.cells pv ov lv hv gv ev fv sv wv,iv id] s (λv s'=>qq g d C id v/\∃m,s'=m++s):=by
 refine hC.f77.cF (by simp) ?_
 unfold Z9
 refine Wq<|Wa (.box rfl rfl) λb4=>Wa (.alloc rfl) λb6=>Wv rfl<|Wn ?_
 refine Wq<|Wv rfl<|Wl rfl (.there .here) rfl rfl rfl<|Wv rfl<|Ww<|Wz [cv,.agg<|d.cells pv ov lv hv gv ev fv sv wv,iv id] rfl rfl (ta hB hC q9 hT.t99 (eQ.mono λp hp=>by simp[hp]) (h.mono λp hp=>by simp[hp]) hd hcd.cd) ?_
 rintro w _ ⟨hF,m1,rfl⟩
 rcases hF with⟨o,c,sj,hk,V4,IR,rfl⟩|⟨hno,o,c,rfl⟩
 ·refine Wv rfl (Wr (.extract rfl rfl)<|Wr (.extract rfl rfl)<|Wr (.extract rfl rfl)<|Wa (.alloc rfl) λb8=>Wa (.alloc rfl) λb9=>Ww<|Wt (s':=(b9,.r false [_] 11)::(b8,.r false [o.row] 14)::_) rfl rfl rfl (.there .here) rfl rfl<|Ww<|Wt (s':=(b9,.r false [c.row] 11)::_) rfl rfl rfl .here rfl rfl<|Wv rfl<|Wn ?_)
  refine Ws<|Wq<|Wv rfl<|Wr (.un (v:=.bool false) rfl rfl)<|Wn<|Wd rfl fS<|λ_=>Wi ?_
  refine Ws<|WP.bD<|Dp (.faddr rfl)<|WD.lk rfl .nil (.load rfl .here rfl rfl rfl)<|Dp (.faddr rfl)<|WD.lk rfl .nil (.load rfl .here rfl rfl rfl)<|Dp (.faddr rfl)<|WD.lk rfl .nil (.load rfl .here rfl rfl rfl)<|Dp (.build (cs:=(⟨c.power,c.qn,c.keys⟩:CH).row) rfl rfl)<|Dp (.mv rfl)<|Dl rfl .nil (.load rfl (.there<|.there<|.app<|.there .here) rfl rfl rfl)<|Dp (.mv rfl)<|Dc .nil<|WS.perm<|Wz [cv,.agg<|d.cells pv ov lv hv gv ev fv sv wv,iv id] rfl rfl (u7 hB hC hT q9 (eQ.mono λp hp=>by simp[hp]) (h.mono λp hp=>by simp[hp]) hd hcd sj hk) ?_
  rintro w s2 ⟨R,m2,hR,Gu,hw⟩
  have hg':∀e∈R,lQ P K F g e:=λe he=>hg o e<|hR.mem_iff.1 he
  have hlen:R.length<=1000:=by
   rw[hR.length_eq]
   exact Nat.le_trans (Nat.le_trans (List.length_filter_le ..)<|hcd.R8 o)<|by omega
  refine⟨_,Gu,Dc .nil<|Wz [.agg (⟨c.power,c.qn,c.keys⟩:CH).row,w] rfl rfl (Ir hC hT (hw.mono λp hp=>Gu.mem_iff.1 hp) hlen hg') ?_⟩
  rintro w2 _ ⟨rfl,m3,rfl⟩
  refine Dc .nil<|Wt (s':=m3++(m2++(_::_::(m1++((b6,.r false [(tK g ⟨c.power,c.qn,c.keys⟩ R).row] 3)::_))))) rfl rfl rfl (.app<|.app<|.there<|.there<|.app .here) rfl rfl<|Dp (.mv rfl)<|D0 .nil ?_ ?_
  rotate_left
  ·intro x hx
   rcases List.mem_cons.1 hx with rfl|hx
   ·refine⟨(λi hi=>nomatch hi),Nat.zero_le _,iq 5 _,λk _ hk=>?_⟩
    rcases(by have:k<=1:=hk;omega:k=0\/k=1)with rfl|rfl
    ·exact⟨_,rfl,.load rfl .here rfl rfl rfl⟩
    ·exact⟨_,rfl,.load rfl (.app .here) rfl rfl rfl⟩
   rcases List.mem_cons.1 hx with rfl|hx
   ·refine⟨(λi hi=>nomatch hi),Nat.zero_le _,iq 5 _,λk _ hk=>?_⟩
    rcases(by have:k<=1:=hk;omega:k=0\/k=1)with rfl|rfl
    ·exact⟨_,rfl,.load rfl .here rfl rfl rfl⟩
    ·exact⟨_,rfl,.load rfl (.app .here) rfl rfl rfl⟩
   rw[List.mem_singleton.1 hx]
   refine⟨(λi hi=>nomatch hi),Nat.zero_le _,iq 5 _,λk _ hk=>?_⟩
   rcases(by have:k<=1:=hk;omega:k=0\/k=1)with rfl|rfl
   ·exact⟨_,rfl,.load rfl .here rfl rfl rfl⟩
   ·exact⟨_,rfl,.load rfl (.app .here) rfl rfl rfl⟩
  refine We<|Wm (.cell rfl hT.t71.1 hT.t71.2 (.inl rfl) (.app<|.app<|.there<|.there<|.app .here) rfl rfl rfl<|.tmp rfl .nil) ⟨.inl ⟨o,c,R,sj,hk,V4,IR,hR,rfl⟩,_,pull<|pull<|fN<|fN<|pull eW⟩
 ·refine Wv rfl (Wr (.extract rfl rfl)<|Wr (.extract rfl rfl)<|Wr (.extract rfl rfl)<|Wa (.alloc rfl) λb8=>Wa (.alloc rfl) λb9=>Ww<|Wt (s':=(b9,.r false [_] 11)::(b8,.r false [o.row] 14)::_) rfl rfl rfl (.there .here) rfl rfl<|Ww<|Wt (s':=(b9,.r false [c.row] 11)::_) rfl rfl rfl .here rfl rfl<|Wv rfl<|Wn ?_)
  refine Ws<|Wq<|Wv rfl<|Wr (.un (v:=.bool true) rfl rfl)<|Wn<|Wd rfl (λ_=>?_) Dz
  refine Wq<|Wr (.build rfl rfl)<|Ww<|Wt (s':=_::_::(m1++((b6,.r false [[iv 0,iv 0,iv 0]] 3)::_))) rfl rfl rfl (.there<|.there<|.app .here) rfl rfl<|Wv rfl<|Wn<|We<|Wm (.cell rfl hT.t71.1 hT.t71.2 (.inl rfl) (.there<|.there<|.app .here) rfl rfl rfl<|.tmp rfl .nil) ⟨.inr ⟨hno,rfl⟩,_,fN<|fN<|pull eW⟩
variable {bf:Nat}{bl:Nat}{aZ:AV}{bE:AV}{c0:Int}{c1:Int}{c2:Int}{c3:Int}{c4:Int}{EL:List (List AV)}{d:SD}{t:SH}
theorem cI.part {s:SH}{cv:AV}{C:List CD}(h:cI s cv C):dz cv cv=true:=h.src.same
theorem abP (hB:Base P K F T)(hC:BaseC P K F T)(hT:TyC P T){g:ED->CH->CH}{C:List CD}{id:Int}(hs:aH bl EL d t s)(hd:d.Small)(hf:Has bf (.r false [bu bl aZ c0 c1 c2 c3 c4 bE] 8) t)(eQ:cI t aZ C)(hcd:nF d C)
  (hg:∀o,∀e∈qy d C o,lQ P K F g e) :
  bB P K (F 30) [.ptr (some ⟨bf,0,0⟩),iv id] s (λv s'=>qq g d C id v/\aH bl EL d t s'):=by
 refine hC.f30.cF (by simp) ?_
 unfold ZU
 refine Wq<|Wa (.alloc rfl) λb4=>Wv rfl<|Wn ?_
 refine Ws<|Wq<|Wv rfl<|Wh (b:=false) rfl rfl rfl<|Wn<|Wd rfl (λh=>by cases h)<|λ_=>Wi ?_
 refine Ws<|WP.bD<|Dp (.mv rfl)<|Dp (.nilchk rfl rfl)<|Dp (.faddr rfl)<|WD.lk rfl .nil (.load rfl (.there<|hs.mem hf) rfl rfl rfl)<|Dp (.mv rfl)<|Dc .nil<|WS.perm<|Wz [.ptr (some ⟨bf,0,0⟩)] rfl rfl (cz hB hs.cons hd<|.there hf) ?_
 rintro w s2 ⟨dt,pv,ov,lv,hv,gv,ev,fv,sv,wv,rfl,hR⟩
 obtain⟨s3,hp,gw⟩:=dt.first
 have Yk:cI s3 aZ C:=eQ.mono λp hp=>(gw.mem<|.ce hp).mem
 refine⟨_,hp,Dp (.mv rfl)<|Dc .nil<|Wz [aZ,.agg<|d.cells pv ov lv hv gv ev fv sv wv,iv id] rfl rfl (Qs hB hC hT hB.t45 (Yk.mono λp hp=>by simp[hp]) (hR.mono λp h=>hp.mem_iff.1 h) hd hcd hg) ?_⟩
 rintro w _ ⟨hw,m,rfl⟩
 have Y8:∃(x:CH)(b:Bool),w=.tuple [.agg x.row,.bool b]:=by
  rcases hw with⟨o,c,R,_,_,_,_,_,rfl⟩|⟨_,rfl⟩
  ·exact⟨_,_,rfl⟩
  ·exact⟨⟨0,0,0⟩,_,rfl⟩
 obtain⟨x,b,rfl⟩:=Y8
 refine Dp (.extract rfl rfl)<|Dp (.extract rfl rfl)<|Dc .nil<|Wt (s':=m++((b4,.r false [x.row] 3)::_)) rfl rfl rfl (.app .here) rfl rfl<|Dp (.mv rfl)<|D0 .nil ?_ ?_
 rotate_left
 ·intro o ho
  rw[List.mem_singleton.1 ho]
  refine⟨(λi hi=>nomatch hi),Nat.zero_le _,eQ.part,λk _ hk=>?_⟩
  rcases(by have:k<=1:=hk;omega:k=0\/k=1)with rfl|rfl
  ·exact⟨_,rfl,.load rfl (.there<|hs.mem hf) rfl rfl rfl⟩
  ·exact⟨_,rfl,.load rfl (.there<|gw.mem hf) rfl rfl rfl⟩
 exact We<|Wm (.cell rfl hT.t71.1 hT.t71.2 (.inl rfl) (.app .here) rfl rfl rfl<|.tmp rfl .nil) ⟨hw,(aH.bK (m:=m)<|aH.bK (m:=[_]) gw)⟩
theorem Gf (hB:Base P K F T)(hC:BaseC P K F T){q:Int}(hs:aH bl EL d t s)(hd:d.Small)(hf:Has bf (.r false [bu bl aZ c0 c1 c2 c3 c4 bE] 8) t) :
  bB P K (F 36) [.ptr (some ⟨bf,0,0⟩),iv 2,iv q] s (λv s'=>∃m,aH bl EL d (m++t) s'/\Src m 1 v (nR d.fi)):=by
 have hn:=hd.n1
 refine hC.f36.cF (by simp) ?_
 unfold ZV
 refine Wq<|Wv rfl<|Wn ?_
 refine Wq<|Wv rfl<|Ww<|Wz [.ptr (some ⟨bf,0,0⟩)] rfl rfl (cz hB hs hd hf) ?_
 rintro w s2 ⟨dt,pv,ov,lv,hv,gv,ev,fv,sv,wv,rfl,hR⟩
 have h90:bB P K (F 90) [.agg (d.cells pv ov lv hv gv ev fv sv wv),iv 2,iv q] s2 (λv s'=>∃m,s'=m++s2/\Src m 1 v (nR d.fi)):=by
  refine hC.f90.cF (by simp) ?_
  unfold a90
  refine Wq<|Wa (.box rfl rfl) λb3=>Wv rfl<|Wn ?_
  refine Wq<|Wl rfl .here rfl rfl rfl<|Wr (.build (cs:=d.cells pv ov lv hv gv ev fv sv wv) rfl rfl)<|Wa (.box rfl rfl) λb7=>Wv rfl<|Wn ?_
  have XH:bB P K (F 136) [.ptr (some ⟨b7,0,0⟩),iv 2,iv q] ((b7,.r false [d.cells pv ov lv hv gv ev fv sv wv] 25)::(b3,.r false [d.cells pv ov lv hv gv ev fv sv wv] 25)::s2) (λv s'=>v=.ptr (some ⟨b7,0,6⟩)/\s'=(b7,.r false [d.cells pv ov lv hv gv ev fv sv wv] 25)::(b3,.r false [d.cells pv ov lv hv gv ev fv sv wv] 25)::s2):=by
   refine hB.f136.cF (by simp) ?_
   unfold Lf
   refine Wq<|Wv rfl<|Wn ?_
   refine Ws<|Wq<|Wv rfl<|Wh (b:=true) rfl rfl rfl<|Wn<|Wd rfl (λ_=>?_)<|λh=>by cases h
   exact Wq<|Wv rfl<|Wr (.nilchk rfl rfl)<|Wf rfl<|Wf rfl<|Wv rfl<|Wn<|We<|Wm (.tmp rfl .nil) ⟨rfl,rfl⟩
  refine Ws<|Wq<|Wv rfl<|Wv rfl<|Wv rfl<|Ww<|Wz [.ptr (some ⟨b7,0,0⟩),iv 2,iv q] rfl rfl XH ?_
  rintro w _ ⟨rfl,rfl⟩
  refine Wv rfl<|Wn ?_
  refine Wq<|Wv rfl<|Wh (b:=false) rfl rfl rfl<|Wn<|Wd rfl (λ_=>?_)<|λh=>by cases h
  refine Wq<|Wv rfl<|Wr (.nilchk rfl rfl)<|Wl rfl .here rfl rfl rfl<|Ww<|Wz [fv] rfl rfl (hB.VS.clone (hR.fi.mono λp hp=>by simp[hp]) (by omega) (by rw[gq];omega)<|by omega) ?_
  rintro w _ ⟨m,rfl,hO⟩
  refine Wv rfl<|Wn<|We<|Wm (.tmp rfl .nil) ⟨_,pull eW,hO.src.mono λp hp=>by simp[hp]⟩
 refine Wv rfl<|Wv rfl<|Ww<|Wz [.agg (d.cells pv ov lv hv gv ev fv sv wv),iv 2,iv q] rfl rfl h90 ?_
 rintro w _ ⟨m,rfl,hS⟩
 exact Wv rfl<|Wn<|We<|Wm (.tmp rfl .nil) ⟨m,dt.HW,hS⟩
def SD.obj (d:SD)(id:Int):Option OD:=
 match d.find id with
 | none=>none
 | some i=>d.ob[i]?
theorem Qq (hB:Base P K F T)(hC:BaseC P K F T){id:Int}(hs:aH bl EL d t s)(hd:d.Small)(hf:Has bf (.r false [bu bl aZ c0 c1 c2 c3 c4 bE] 8) t) :
  bB P K (F 37) [.ptr (some ⟨bf,0,0⟩),iv id] s (λv s'=>v=(match d.obj id with | some o=>.tuple [.agg o.row,.bool true] | none=>.tuple [.agg dB,.bool false])/\aH bl EL d t s'):=by
 refine hC.f37.cF (by simp) ?_
 unfold ZW
 refine Wq<|Wa (.alloc rfl) λb4=>Wv rfl<|Wn ?_
 refine Wq<|Wv rfl<|Ww<|Wz [.ptr (some ⟨bf,0,0⟩)] rfl rfl (cz hB hs.cons hd<|.there hf) ?_
 rintro w s2 ⟨dt,pv,ov,lv,hv,gv,ev,fv,sv,wv,rfl,hR⟩
 obtain⟨s3,hp,gw⟩:=dt.first
 have VY:=hR.mono λp h=>hp.mem_iff.1 h
 refine WO.pre hp<|Wa (.alloc rfl) λb6=>Ww<|Wt (s':=(b6,.r false [d.cells pv ov lv hv gv ev fv sv wv] 25)::_) rfl rfl rfl .here rfl rfl<|Wn ?_
 refine Wq<|Wl rfl .here rfl rfl rfl<|Wv rfl<|Ww<|Wz [.agg (d.cells pv ov lv hv gv ev fv sv wv),iv id] rfl rfl (lg hB (VY.ob.mono λp hp=>by simp at hp |-;exact .inr hp) hd) ?_
 rintro w _ ⟨rfl,m,rfl⟩
 refine Wv rfl<|Wn ?_
 unfold SD.obj
 cases hi:d.find id with
 | none=>
  refine Ws<|Wq<|Wv rfl<|Wj (v:=.bool true) rfl rfl rfl<|Wn<|Wd rfl (λ_=>?_) Dz
  refine Wq<|Wr (.build (cs:=dB) rfl rfl)<|Ww<|Wt (s':=m++(_::(b4,.r false [dB] 14)::_)) rfl rfl rfl (.app<|.there .here) rfl rfl<|Wv rfl<|Wn<|We<|Wm (.cell rfl hB.t45.1 hB.t45.2 (.inl rfl) (.app<|.there .here) rfl rfl rfl<|.tmp rfl .nil) ⟨rfl,aH.bK (m:=m)<|aH.bK (m:=[_,_]) gw⟩
 | some i=>
  obtain⟨Uw,ho⟩:∃h:i<d.ob.length,d.ob[i]?=some d.ob[i]:=by
   obtain⟨h1,_⟩:=List.findIdx?_eq_some_iff_getElem.1 hi
   exact⟨h1,List.getElem?_eq_getElem h1⟩
  generalize d.ob[i]=o at ho
  simp only[ho]
  obtain⟨bo,ro,no,co,ZE,WE,Mo,rfl,IM,hin,hrow⟩:=VY.ob.at (i:=i)<|by simpa[fy]using Uw
  have n8:Mo[ro+i]?=some o.row:=by rw[hrow];simp only[fy,List.getElem?_map,ho];rfl
  refine Ws<|Wq<|Wv rfl<|Wj (v:=.bool false) rfl rfl rfl<|Wn<|Wd rfl fS<|λ_=>Wi ?_
  refine Wq<|Wf rfl<|Wl rfl (.app .here) rfl rfl rfl<|Wv rfl<|Wr (.iaddrS rfl rfl hin<|by decide)<|Wl rfl (.app<|.there IM) n8 rfl rfl<|Ww<|Wt (s':=m++(_::(b4,.r false [o.row] 14)::_)) rfl rfl rfl (.app<|.there .here) rfl rfl<|Wv rfl<|Wn<|We<|Wm (.cell rfl hB.t45.1 hB.t45.2 (.inl rfl) (.app<|.there .here) rfl rfl rfl<|.tmp rfl .nil) ⟨rfl,aH.bK (m:=m)<|aH.bK (m:=[_,_]) gw⟩
structure BaseG (P:Program)(K:Orc)(F:Nat->FuncId)(T:Nat->TypeId):Prop where
deriving DecidableEq
structure gA (P:Program)(F:Nat->FuncId)(tF:TypeId):Prop where
 stack:meth P tF "Stack"=some (F 21)
 chars:meth P tF "Chars"=some (F 30)
 nq:meth P tF "Zone"=some (F 36)
 obj:meth P tF "Obj"=some (F 37)
 RD:meth P tF "Player"=some (F 43)
 aZ:meth P tF "Cards"=some (F 344)
 yd:meth P tF "Players"=some (F 347)

end
end Go.Ev
