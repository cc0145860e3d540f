/- Walks and rules. Conditions: none. -/
import Derived.Test.YtbgjkfbeofbngaaGreatEvI
set_option linter.unusedVariables false
set_option linter.unusedSectionVars false
namespace Go.Ev
section
variable {P:Program}{K:Orc}{rd:Option Nat}{nt:Nat}{l:Sl}{ds:List aD}{s:SH}{Q Qn Qr:Po}{Qe:Nat->Po}
theorem Wv {x:Operand}{v:AV}{d:Option Nat}{rest:List bS}(hx:opl l x=some v)(k:WO P K rest (pl d v l) ds s Q):WO P K (⟨d,.mv x,none⟩::rest) l ds s Q:=WO.r (.mv hx) k
theorem Wf {off:Nat}{x:Operand}{b r o:Nat}{d:Option Nat}{rest:List bS}(hx:opl l x=some (.ptr (some ⟨b,r,o⟩)))(k:WO P K rest (pl d (.ptr (some ⟨b,r,Nat.add o off⟩)) l) ds s Q):WO P K (⟨d,.faddr off x,none⟩::rest) l ds s Q:=WO.r (.faddr hx) k
theorem Wl {g ro:Bool}{n:Nat}{x:Operand}{b r o sz:Nat}{L:List (List AV)}{row cs:List AV}{v:AV}{d:Option Nat}{rest:List bS}(hx:opl l x=some (.ptr (some ⟨b,r,o⟩)))(hb:Has b (.r ro L sz) s)(hr:L[r]?=some row)(hc:bV n (cu o row)=some cs)(hv:ldv g cs=some v)(k:WO P K rest (pl d v l) ds s Q):WO P K (⟨d,.load g n x,none⟩::rest) l ds s Q:=WO.r (.load hx hb hr hc hv) k
theorem Wh {neg:Bool}{p:px}{x y:Operand}{u w:AV}{b:Bool}{d:Option Nat}{rest:List bS}(hx:opl l x=some u)(hy:opl l y=some w)(hv:eqBy 20 p u w=some b)(k:WO P K rest (pl d (.bool (negB neg b)) l) ds s Q):WO P K (⟨d,.eql neg p x y,none⟩::rest) l ds s Q:=WO.r (.eql hx hy hv) k
theorem Wj {op:BinOp}{x y:Operand}{u w v:AV}{d:Option Nat}{rest:List bS}(hx:opl l x=some u)(hy:opl l y=some w)(hv:binV op u w=some v)(k:WO P K rest (pl d v l) ds s Q):WO P K (⟨d,.arith op x y,none⟩::rest) l ds s Q:=WO.r (.arith hx hy hv) k
theorem Wq {ol:List bS}{b:AC}(h:WO P K ol l ds s λl ds s=>WP P K rd nt b l ds s Qn Qe Qr):WP P K rd nt (.seq (.ops ol) b) l ds s Qn Qe Qr:=WP.seq (WP.ops h)
theorem Wz {fo:Operand}{args:List Operand}{f:FuncId}{R':AV->SH->Prop}{R:AV->List aD->SH->Prop}(vs:List AV)(hf:opl l fo=some (.func f [] []))(ha:aI (opl l) args=some vs)(ht:bB P K f ([]++(vs++[])) s R')(k:∀v s',R' v s'->R v ds s'):WS P K (.call fo args) l ds s R:=WS.callF hf ha ht k
def lkL (l:Sl):Sl->List (Option AV)
 | []=>[]
 | p::L=>lk l p.1::lkL l L
def sv:Sl->List (Option AV)
 | []=>[]
 | p::L=>some p.2::sv L
theorem bq {l:Sl}:∀{L:Sl},lkL l L=sv L->∀x v,lk L x=some v->lk l x=some v
 | [],_,x,v,h=>by cases h
 | (i,w)::L,h,x,v,hx=>by
  obtain⟨h1,h2⟩:=List.cons.inj h
  simp only[lk]at hx
  split at hx
  ·rename_i e
   cases hx
   rw[<- Nat.eq_of_beq_eq_true e]
   exact h1
  ·exact bq h2 x v hx
theorem Wr:type_of% @WO.r:=@WO.r
theorem Ws:type_of% @WP.seq:=@WP.seq
theorem Wn:type_of% @WO.nil:=@WO.nil
theorem Wo:type_of% @WP.ops:=@WP.ops
theorem Dp:type_of% @WD.pu:=@WD.pu
theorem Wc:type_of% @WS.callF:=@WS.callF
theorem Wd:type_of% @WP.cond:=@WP.cond
theorem Wt:type_of% @WS.store:=@WS.store
theorem Wm:type_of% @Fin.mk:=@Fin.mk
theorem Wi:type_of% @WP.skip:=@WP.skip
theorem Wb:type_of% @WP.block:=@WP.block
theorem We:type_of% @WP.ret:=@WP.ret
theorem Ww:type_of% @WO.w:=@WO.w
theorem Wa:type_of% @WO.a:=@WO.a
theorem Dc:type_of% @WD.ch:=@WD.ch
theorem Dl:type_of% @WD.ld:=@WD.ld
theorem D0:type_of% @WD.nil:=@WD.nil
theorem Wg:type_of% @WP.weak:=@WP.weak
theorem Wp:type_of% @WP.loop:=@WP.loop
theorem Wx:type_of% @WP.exit:=@WP.exit
theorem W1:type_of% @WS.cl:=@WS.cl
abbrev CF:=(Nat->FuncId)->(Nat->TypeId)->AC
theorem cD {k:Nat}(h:k<=1):k=0\/k=1:=by omega
@[reducible] def zL0:List AV:=[(.int .i64 (.ofNat 0)),(.int .i64 (.ofNat 0)),(.int .i64 (.ofNat 0)),(.int .i64 (.ofNat 0)),(.int .i64 (.ofNat 0)),(.bool false),(.bool false),(.bool false),(.int .i64 (.ofNat 0)),(.int .i64 (.ofNat 0)),(.int .i64 (.ofNat 0)),(.int .i64 (.ofNat 0)),(.bool false),(.slice none 0 0 false 0),(.int .i64 (.ofNat 0)),(.int .i64 (.ofNat 0)),(.int .i64 (.ofNat 0))]
@[reducible] def zL1:List AV:=[(.str ⟨#[]⟩),(.int .i64 (.ofNat 0)),(.int .i64 (.ofNat 0)),(.int .i64 (.ofNat 0)),(.int .i64 (.ofNat 0)),(.int .i64 (.ofNat 0)),(.int .i64 (.ofNat 0)),(.int .i64 (.ofNat 0)),(.int .i64 (.ofNat 0)),(.int .i64 (.ofNat 0)),(.slice none 0 0 false 0)]
@[reducible] def zL2:List AV:=[(.int .i64 (.ofNat 0)),(.int .i64 (.ofNat 0)),(.int .i64 (.ofNat 0)),(.int .i64 (.ofNat 0)),(.int .i64 (.ofNat 0)),(.int .i64 (.ofNat 0)),(.int .i64 (.ofNat 0)),(.bool false),(.slice none 0 0 false 0),(.slice none 0 0 false 0),(.int .i64 (.ofNat 0)),(.int .i64 (.ofNat 0)),(.int .i64 (.ofNat 0))]
@[reducible] def zL3:List AV:=[(.int .i64 (.ofNat 0)),(.int .i64 (.ofNat 0)),(.int .i64 (.ofNat 0)),(.int .i64 (.ofNat 0)),(.int .i64 (.ofNat 0)),(.int .i64 (.ofNat 0)),(.int .i64 (.ofNat 0)),(.int .i64 (.ofNat 0)),(.int .i64 (.ofNat 0)),(.slice none 0 0 false 0),(.bool false),(.int .i64 (.ofNat 0)),(.int .i64 (.ofNat 0))]
@[reducible] def zL4:List AV:=[(.int .i64 (.ofNat 0)),(.int .i64 (.ofNat 0)),(.int .i64 (.ofNat 0)),(.int .i64 (.ofNat 0)),(.int .i64 (.ofNat 0)),(.int .i64 (.ofNat 0)),(.int .i64 (.ofNat 0)),(.bool false),(.slice none 0 0 false 0),(.slice none 0 0 false 0),(.int .i64 (.ofNat 0)),(.int .i64 (.ofNat 0)),(.int .i64 (.ofNat 0)),(.int .i64 (.ofNat 0)),(.int .i64 (.ofNat 0)),(.int .i64 (.ofNat 0)),(.int .i64 (.ofNat 0)),(.int .i64 (.ofNat 0)),(.bool false),(.bool false),(.bool false),(.int .i64 (.ofNat 0)),(.int .i64 (.ofNat 0)),(.int .i64 (.ofNat 0)),(.int .i64 (.ofNat 0)),(.bool false),(.slice none 0 0 false 0),(.int .i64 (.ofNat 0))]
def cC:List AV:=[(.slice none 0 0 false 0),(.slice none 0 0 false 0),(.slice none 0 0 false 0),(.slice none 0 0 false 0),(.slice none 0 0 false 0),(.slice none 0 0 false 0),(.slice none 0 0 false 0),(.slice none 0 0 false 0),(.slice none 0 0 false 0),(.int .i64 (.ofNat 0)),(.int .i64 (.ofNat 0)),(.int .i64 (.ofNat 0)),(.int .i64 (.ofNat 0)),(.int .i64 (.ofNat 0)),(.int .i64 (.ofNat 0)),(.int .i64 (.ofNat 0)),(.int .i64 (.ofNat 0)),(.int .i64 (.ofNat 0)),(.int .i64 (.ofNat 0)),(.int .i64 (.ofNat 0)),(.int .i64 (.ofNat 0)),(.slice none 0 0 false 0),(.bool false),(.int .i64 (.ofNat 0)),(.int .i64 (.ofNat 0))]
def dB:List AV:=[(.int .i64 (.ofNat 0)),(.int .i64 (.ofNat 0)),(.int .i64 (.ofNat 0)),(.int .i64 (.ofNat 0)),(.int .i64 (.ofNat 0)),(.bool false),(.bool false),(.bool false),(.int .i64 (.ofNat 0)),(.int .i64 (.ofNat 0)),(.int .i64 (.ofNat 0)),(.int .i64 (.ofNat 0)),(.bool false),(.slice none 0 0 false 0)]
def mB:List AV:=[(.int .i64 (.ofNat 0)),(.int .i64 (.ofNat 0)),(.int .i64 (.ofNat 0)),(.int .i64 (.ofNat 0)),(.int .i64 (.ofNat 0)),(.slice none 0 0 false 0),(.int .i64 (.ofNat 0)),(.int .i64 (.ofNat 0)),(.int .i64 (.ofNat 0)),(.int .i64 (.ofNat 0)),(.int .i64 (.ofNat 0)),(.int .i64 (.ofNat 0)),(.slice none 0 0 false 0)]
def uv:List AV:=[(.int .i64 (.ofNat 0)),(.int .i64 (.ofNat 0)),(.int .i64 (.ofNat 0)),(.int .i64 (.ofNat 0)),(.int .i64 (.ofNat 0)),(.int .i64 (.ofNat 0)),(.slice none 0 0 false 0)]
def nD:List AV:=[(.int .i64 (.ofNat 0)),(.int .i64 (.ofNat 0)),(.int .i64 (.ofNat 0)),(.int .i64 (.ofNat 0)),(.int .i64 (.ofNat 0)),(.bool false),(.bool false),(.bool false)]
def a91:CF:=λF T=>(oN [zo 2 (.box 25 0),zo 3 (.box 1 1),zo 4 (.mv (zc 0))] (oN [zf 5 1 2,zl 6 5,zo 7 (.mkfn (F 138) [] [3]),oF F 8 106 [6,7],zm 4 8] .ret))
def ST:CF:=λF T=>(oN [zo 2 (.box 14 0),zo 3 (.mv (.const (.bool false)))] (oN [zf 4 0 2,zl 5 4,zl 6 1,zo 7 (.eql false .pi 5 6),zm 3 7] .ret))
def WM:CF:=λF T=>(oN [zo 4 (.mv (zc 0))] (.seq (oN [zm 6 0,zo 7 (.lenS 6),zo 8 (.mv (zc 0))] (.block 0 (.loop (oN [zo 9 (.arith .lss 8 7)] (.seq (.cond 9 .skip (.exit 0)) (.seq (.block 1 (oN [zm 10 8,zm 5 10] (oN [zm 11 1,zm 12 0,zm 13 5,zo 14 (.iaddrS 14 12 13),zo 15 (.load true 14 14),zo 16 (.call 11 [15])] (.cond 16 (oN [zm 17 5,zm 4 17] .ret) .skip)))) (.ops [zo 18 (.arith .add 8 (zc 1)),zm 8 18]))))))) (oN [zo 4 (.mv (.const (.int .i64 (.negSucc 0))))] .ret)))
def WU:CF:=λF T=>(oN [zo 4 (.mv (.const (.slice none 0 0)))] (oN [zo 5 (.mv (.const (.slice none 0 0)))] (.seq (oN [zm 8 0,zo 9 (.lenS 8),zo 10 (.mv (zc 0))] (.block 0 (.loop (oN [zo 11 (.arith .lss 10 9)] (.seq (.cond 11 .skip (.exit 0)) (.seq (.block 1 (oN [zo 12 (.iaddrS 14 8 10),zo 13 (.load true 14 12),zo 7 (.alloc 14 dB),zn (.store 14 7 13)] (.ops [zm 14 5,zm 15 1,zo 16 (.load true 14 7),zo 17 (.call 15 [16]),zo 18 (.bslice 14 1 dB [⟨0,17⟩]),zo 19 (.append 14 112 14 18),zm 5 19]))) (.ops [zo 20 (.arith .add 10 (zc 1)),zm 10 20]))))))) (oN [zm 21 5,zm 4 21] .ret))))
def SU:CF:=λF T=>(oN [zo 1 (.box 14 0),zo 2 (.alloc 14 dB)] (oN [zf 3 13 1,zl 4 3,oF F 5 200 [4],zf 6 13 1,zn (.store 1 6 5)] (oN [zo 7 (.load true 14 1),zn (.store 14 2 7)] .ret)))
def WV:CF:=λF T=>(oN [zo 4 (.mv (.const (.slice none 0 0)))] (oN [zo 5 (.mv (.const (.slice none 0 0)))] (.seq (oN [zm 8 0,zo 9 (.lenS 8),zo 10 (.mv (zc 0))] (.block 0 (.loop (oN [zo 11 (.arith .lss 10 9)] (.seq (.cond 11 .skip (.exit 0)) (.seq (.block 1 (oN [zo 12 (.iaddrS 1 8 10),zl 13 12,zm 7 13] (.ops [zm 14 5,zm 15 1,zm 16 7,zo 17 (.call 15 [16]),zo 18 (.bslice 1 1 [(.slice none 0 0 false 0)] [⟨0,17⟩]),zo 19 (.append 1 24 14 18),zm 5 19]))) (.ops [zo 20 (.arith .add 10 (zc 1)),zm 10 20]))))))) (oN [zm 21 5,zm 4 21] .ret))))
def WW:CF:=λF T=>(oN [zo 4 (.mv (.const (.slice none 0 0)))] (oN [zo 5 (.mv (.const (.slice none 0 0)))] (.seq (oN [zm 8 0,zo 9 (.lenS 8),zo 10 (.mv (zc 0))] (.block 0 (.loop (oN [zo 11 (.arith .lss 10 9)] (.seq (.cond 11 .skip (.exit 0)) (.seq (.block 1 (oN [zo 12 (.iaddrS 7 8 10),zo 13 (.load true 7 12),zo 7 (.alloc 7 uv),zn (.store 7 7 13)] (.ops [zm 14 5,zm 15 1,zo 16 (.load true 7 7),zo 17 (.call 15 [16]),zo 18 (.bslice 7 1 uv [⟨0,17⟩]),zo 19 (.append 7 72 14 18),zm 5 19]))) (.ops [zo 20 (.arith .add 10 (zc 1)),zm 10 20]))))))) (oN [zm 21 5,zm 4 21] .ret))))
def SV:CF:=λF T=>(oN [zo 1 (.box 7 0),zo 2 (.alloc 7 uv)] (oN [zf 3 6 1,zl 4 3,oF F 5 163 [4],zf 6 6 1,zn (.store 1 6 5)] (oN [zo 7 (.load true 7 1),zn (.store 7 2 7)] .ret)))
def a51:CF:=λF T=>(oN [zo 2 (.mv (.const (.slice none 0 0)))] (.seq (oN [zm 3 0,zo 4 (.eql false .DB 3 (.const (.slice none 0 0)))] (.cond 4 (oN [zo 2 (.mv (.const (.slice none 0 0)))] .ret) .skip)) (oN [zo 5 (.bslice 1 0 [(za 0)] []),zm 6 0,zo 7 (.append 1 8 5 6),zm 2 7] .ret)))
def WT:CF:=λF T=>(oN [zo 2 (.mv (.const (.slice none 0 0)))] (.seq (oN [zm 3 0,zo 4 (.eql false .DB 3 (.const (.slice none 0 0)))] (.cond 4 (oN [zo 2 (.mv (.const (.slice none 0 0)))] .ret) .skip)) (oN [zo 5 (.bslice 8 0 nD []),zm 6 0,zo 7 (.append 8 48 5 6),zm 2 7] .ret)))
def WX:CF:=λF T=>(oN [zo 2 (.mv (.const (.slice none 0 0)))] (.seq (oN [zm 3 0,zo 4 (.eql false .DB 3 (.const (.slice none 0 0)))] (.cond 4 (oN [zo 2 (.mv (.const (.slice none 0 0)))] .ret) .skip)) (oN [zo 5 (.bslice 2 0 [(za 0),(za 0)] []),zm 6 0,zo 7 (.append 2 16 5 6),zm 2 7] .ret)))
def WZ:CF:=λF T=>(oN [zo 2 (.mv (.const (.slice none 0 0)))] (.seq (oN [zm 3 0,zo 4 (.eql false .DB 3 (.const (.slice none 0 0)))] (.cond 4 (oN [zo 2 (.mv (.const (.slice none 0 0)))] .ret) .skip)) (oN [zo 5 (.bslice 4 0 [(za 0),(za 0),(za 0),(za 0)] []),zm 6 0,zo 7 (.append 4 32 5 6),zm 2 7] .ret)))
def SC:CF:=λF T=>(oN [zo 1 (.box 25 0),zo 2 (.alloc 25 cC)] (oN [zf 3 0 1,zl 4 3,oF F 5 157 [4],zf 6 0 1,zn (.store 1 6 5)] (oN [zf 7 1 1,zl 8 7,oF F 9 158 [8,(.func (F 159))],zf 10 1 1,zn (.store 1 10 9)] (.seq (.drawn 0 [zp (zf 11 2 1) 0,zr (zl 12 11) 0 0 1,zh (oF F 13 160 [12,(.func (F 51))]) 3,zp (zf 14 3 1) 0,zr (zl 15 14) 0 1 8,zh (oF F 16 160 [15,(.func (F 51))]) 31,zp (zf 17 2 1) 31,zh (zn (.store 1 17 13)) 127,zp (zf 18 3 1) 255,zh (zn (.store 1 18 16)) 511]) (.seq (.drawn 0 [zp (zf 19 4 1) 0,zr (zl 20 19) 0 0 1,zh (oF F 21 160 [20,(.func (F 51))]) 3,zp (zf 22 5 1) 0,zr (zl 23 22) 0 1 8,zh (oF F 24 160 [23,(.func (F 51))]) 31,zp (zf 25 4 1) 31,zh (zn (.store 1 25 21)) 127,zp (zf 26 5 1) 255,zh (zn (.store 1 26 24)) 511]) (oN [zf 27 6 1,zl 28 27,oF F 29 51 [28],zf 30 6 1,zn (.store 1 30 29)] (.seq (.drawn 0 [zp (zf 31 7 1) 0,zr (zl 32 31) 0 0 1,zh (oF F 33 161 [32,(.func (F 162))]) 3,zp (zf 34 8 1) 0,zr (zl 35 34) 0 1 8,zh (oF F 36 161 [35,(.func (F 162))]) 31,zp (zf 37 7 1) 31,zh (zn (.store 1 37 33)) 127,zp (zf 38 8 1) 255,zh (zn (.store 1 38 36)) 511]) (oN [zf 39 18 1,zf 40 3 39,zl 41 40,oF F 42 163 [41],zf 43 18 1,zf 44 3 43,zn (.store 1 44 42)] (oN [zo 45 (.load true 25 1),zn (.store 25 2 45)] .ret)))))))))
def SB:CF:=λF T=>(oN [zo 4 (.box 14 1)] (oN [zm 7 0,zo 8 (.nilchk 7),zf 9 0 8,zf 10 15 9,zl 11 10,zf 12 0 4,zn (.store 1 12 11)] (oN [zm 13 0,zo 14 (.nilchk 13),zf 15 0 14,zf 16 15 15,zl 17 16,zo 18 (.arith .add 17 (zc 1)),zo 19 (.nilchk 13),zf 20 0 19,zf 21 15 20,zn (.store 1 21 18)] (.seq (oN [zf 22 4 4,zl 23 22,zo 24 (.eql false .pi 23 (zc 2))] (.cond 24 (.seq (.drawn 0 [zp (zm 25 0) 0,zp (zo 26 (.nilchk 25)) 1,zp (zf 27 0 26) 3,zp (zf 28 16 27) 7,zr (zl 29 28) 0 1 15,zp (zf 30 6 4) 0,zh (zn (.store 1 30 (.const (.bool true)))) 32,zp (zf 31 9 4) 127,zh (zn (.store 1 31 29)) 255]) (.ops [zm 32 0,zo 33 (.nilchk 32),zf 34 0 33,zf 35 16 34,zl 36 35,zo 37 (.arith .add 36 (zc 1)),zo 38 (.nilchk 32),zf 39 0 38,zf 40 16 39,zn (.store 1 40 37)])) .skip)) (.seq (.drawn 1 [zp (zm 41 0) 0,zp (zm 42 0) 0,zp (zo 43 (.nilchk 42)) 2,zp (zf 44 0 43) 6,zp (zf 45 1 44) 14,zr (zl 46 45) 0 0 30,zr (zo 47 (.load true 14 4)) 0 0 0,⟨zo 48 (.bslice 14 1 dB [⟨0,47⟩]),.dalloc,0,0,64⟩,zh (zo 49 (.append 14 112 46 48)) 254,zp (zo 50 (.nilchk 41)) 511,zp (zf 51 0 50) 1023,zp (zf 52 1 51) 2047,zh (zn (.store 1 52 49)) 4095]) (oN [zm 53 0,zf 54 4 4,zl 55 54,zf 56 2 4,zl 57 56,oF F 58 136 [53,55,57],zm 6 58] (.block 0 (oN [zm 69 6,zo 70 (.eql false .ptr 69 (.const (.pointer none))),zm 68 70] (.cond 68 .skip (oN [zm 72 2,zm 71 72] (.cond 71 (.drawn 1 [zp (zm 73 6) 0,zp (zm 74 6) 0,zp (zo 75 (.nilchk 74)) 2,zr (zl 76 75) 0 0 6,zp (zf 77 0 4) 0,zr (zl 78 77) 0 0 16,⟨zo 79 (.bslice 1 1 [(za 0)] [⟨0,78⟩]),.dalloc,0,0,48⟩,zh (oF F 80 156 [76,(zc 0),79]) 126,zp (zo 81 (.nilchk 73)) 255,zh (zn (.store 1 81 80)) 511]) (.drawn 1 [zp (zm 59 6) 0,zp (zm 60 6) 0,zp (zo 61 (.nilchk 60)) 2,zr (zl 62 61) 0 0 6,zp (zf 63 0 4) 0,zr (zl 64 63) 0 0 16,⟨zo 65 (.bslice 1 1 [(za 0)] [⟨0,64⟩]),.dalloc,0,0,48⟩,zh (zo 66 (.append 1 8 62 65)) 126,zp (zo 67 (.nilchk 59)) 255,zh (zn (.store 1 67 66)) 511]))))))))))))
def Lf:CF:=λF T=>(oN [zo 6 (.mv (.const (.pointer none)))] (.seq (oN [zm 7 1,zo 8 (.eql false .pi 7 (zc 2))] (.cond 8 (oN [zm 9 0,zo 10 (.nilchk 9),zf 11 0 10,zf 12 6 11,zm 6 12] .ret) .skip)) (.seq (oN [zm 13 2,zo 14 (.arith .lss 13 (zc 0)),zm 15 14,zg 16 (.mv 2) 15 false,zg 17 (.mv 0) 15 false,zg 18 (.nilchk 17) 15 false,zg 19 (.faddr 0 18) 15 false,zg 20 (.faddr 0 19) 15 false,zg 21 (.load false 1 20) 15 false,zg 22 (.lenS 21) 15 false,zg 23 (.arith .geq 16 22) 15 false,zo 24 (.pick 15 (.const (.bool true)) 23),zm 25 24,zg 26 (.mv 0) 25 false,zg 27 (.nilchk 26) 25 false,zg 28 (.faddr 0 27) 25 false,zg 29 (.load true 25 28) 25 false,zg 30 (.call (.func (F 137)) [29]) 25 false,zg 31 (.un .not 30) 25 false,zo 32 (.pick 25 (.const (.bool true)) 31)] (.cond 32 (oN [zo 6 (.mv (.const (.pointer none)))] .ret) .skip)) (.seq (oN [zm 33 1] (.block 0 (oN [zo 35 (.eql false .pi 33 (zc 0)),zm 34 35] (.cond 34 (oN [zm 36 0,zo 37 (.nilchk 36),zf 38 0 37,zf 39 2 38,zl 40 39,zm 41 2,zo 42 (.iaddrS 1 40 41),zm 6 42] .ret) (oN [zo 44 (.eql false .pi 33 (zc 1)),zm 43 44] (.cond 43 (oN [zm 45 0,zo 46 (.nilchk 45),zf 47 0 46,zf 48 3 47,zl 49 48,zm 50 2,zo 51 (.iaddrS 1 49 50),zm 6 51] .ret) (oN [zo 53 (.eql false .pi 33 (zc 3)),zm 52 53] (.cond 52 (oN [zm 54 0,zo 55 (.nilchk 54),zf 56 0 55,zf 57 4 56,zl 58 57,zm 59 2,zo 60 (.iaddrS 1 58 59),zm 6 60] .ret) (oN [zo 62 (.eql false .pi 33 (zc 4)),zm 61 62] (.cond 61 (oN [zm 63 0,zo 64 (.nilchk 63),zf 65 0 64,zf 66 5 65,zl 67 66,zm 68 2,zo 69 (.iaddrS 1 67 68),zm 6 69] .ret) .skip)))))))))) (oN [zo 6 (.mv (.const (.pointer none)))] .ret)))))
def SS:CF:=λF T=>(oN [zo 1 (.box 25 0),zo 2 (.mv (.const (.bool false)))] (oN [zf 4 0 1,zl 5 4,zo 6 (.lenS 5),zm 3 6] (oN [zf 7 2 1,zl 8 7,zo 9 (.lenS 8),zm 10 3,zo 11 (.eql false .pi 9 10),zm 12 11,zg 13 (.faddr 3 1) 12 true,zg 14 (.load false 1 13) 12 true,zg 15 (.lenS 14) 12 true,zg 16 (.mv 3) 12 true,zg 17 (.eql false .pi 15 16) 12 true,zo 18 (.pick 12 17 (.const (.bool false))),zm 19 18,zg 20 (.faddr 4 1) 19 true,zg 21 (.load false 1 20) 19 true,zg 22 (.lenS 21) 19 true,zg 23 (.mv 3) 19 true,zg 24 (.eql false .pi 22 23) 19 true,zo 25 (.pick 19 24 (.const (.bool false))),zm 26 25,zg 27 (.faddr 5 1) 26 true,zg 28 (.load false 1 27) 26 true,zg 29 (.lenS 28) 26 true,zg 30 (.mv 3) 26 true,zg 31 (.eql false .pi 29 30) 26 true,zo 32 (.pick 26 31 (.const (.bool false))),zm 2 32] .ret)))
def Lg:CF:=λF T=>(oN [zo 2 (.box 25 0),zo 3 (.box 13 1),zo 4 (.alloc 25 cC),zo 5 (.mv (zc 0))] (oN [zo 10 (.load true 25 2),oF F 11 107 [10],zo 12 (.build cC [⟨0,⟨25,11⟩⟩]),zo 13 (.box 25 12),zm 6 13] (.seq (oN [zo 14 (.load true 13 3),oF F 15 201 [14],zm 7 15] (oN [zm 16 7,zo 17 (.eql true .pi 16 (zc 0))] (.cond 17 (oN [zm 18 6,zo 19 (.nilchk 18),zf 20 0 19,zo 21 (.load true 25 20),zm 22 7,zn (.store 25 4 21),zm 5 22] .ret) .skip))) (oN [zm 23 6,zf 24 0 3,zl 25 24,oF F 26 202 [23,25],zo 8 (.alloc 4 [(.bool false),(.bool false),(.bool false),.nilFunc]),zn (.store 4 8 26)] (.seq (oN [zm 27 6,zo 28 (.load true 13 3),zo 29 (.load true 4 8),oF F 30 203 [27,28,29],zm 9 30] (oN [zm 31 9,zo 32 (.eql true .pi 31 (zc 0))] (.cond 32 (oN [zm 33 6,zo 34 (.nilchk 33),zf 35 0 34,zo 36 (.load true 25 35),zm 37 9,zn (.store 25 4 36),zm 5 37] .ret) .skip))) (oN [zf 38 3 8,zl 39 38,zo 40 (.load true 13 3),zo 41 (.call 39 [40])] (oN [zm 42 6,zo 43 (.nilchk 42),zf 44 0 43,zo 45 (.load true 25 44),zn (.store 25 4 45),zo 5 (.mv (zc 0))] .ret)))))))
def Lj:CF:=λF T=>(oN [zo 4 (.box 13 1),zo 5 (.box 4 2),zo 6 (.mv (zc 0))] (oN [zo 8 (.mkfn (F 228) [] [4]),zm 7 8] (.seq (.block 0 (.seq (.drawn 0 [zp (zm 10 0) 0,zp (zo 11 (.nilchk 10)) 1,zp (zf 12 0 11) 3,zr (zo 13 (.load true 25 12)) 0 0 7,zh (oF F 14 137 [13]) 15,zp (zo 15 (.un .not 14)) 31,zp (zm 16 15) 63,zp (zg 17 (.faddr 0 5) 16 false) 127,zr (zg 18 (.load false 1 17) 16 false) 1 1 255,zp (zg 19 (.mv 18) 16 false) 511,zp (zg 20 (.faddr 1 4) 19 true) 1023,zr (zg 21 (.load false 1 20) 19 true) 1 1 2047,zp (zg 22 (.arith .lss 21 (zc 0)) 19 true) 4095,zp (zg 23 (.mv 22) 19 true) 8191,zp (zg 24 (.faddr 1 4) 23 false) 16383,zr (zg 25 (.load false 1 24) 23 false) 1 1 32767,zp (zg 26 (.mv 0) 23 false) 16383,zp (zg 27 (.nilchk 26) 23 false) 81919,zp (zg 28 (.faddr 0 27) 23 false) 212991,zp (zg 29 (.faddr 0 28) 23 false) 475135,zr (zg 30 (.load false 1 29) 23 false) 1 1 999423,zp (zg 31 (.lenS 30) 23 false) 2047999,zp (zg 32 (.arith .geq 25 31) 23 false) 4194303,zp (zg 33 (.pick 23 (.const (.bool true)) 32) 19 true) 8388607,zp (zg 34 (.pick 19 33 (.const (.bool false))) 16 false) 16777215,zp (zo 35 (.pick 16 (.const (.bool true)) 34)) 33554431,zp (zm 9 35) 67108863]) (.cond 9 (oN [zo 6 (.mv (zc 2))] .ret) (.seq (.seq (.drawn 0 [zp (zf 37 1 5) 0,zr (zl 38 37) 0 0 1,zp (zm 39 38) 3,zp (zg 40 (.mv 0) 39 true) 7,zp (zg 41 (.nilchk 40) 39 true) 15,zp (zg 42 (.faddr 0 41) 39 true) 31,zr (zg 43 (.load true 25 42) 39 true) 0 0 63,zp (zg 44 (.faddr 1 4) 39 true) 7,zr (zg 45 (.load false 1 44) 39 true) 0 0 135,zh (zg 46 (.call (.func (F 91)) [43,45]) 39 true) 511,zp (zg 47 (.arith .lss 46 (zc 0)) 39 true) 1023,zp (zo 48 (.pick 39 47 (.const (.bool false)))) 2047,zp (zm 36 48) 4095]) (.cond 36 .skip (.ops [zf 49 2 5,zl 50 49,zm 51 50,zg 52 (.mv 0) 51 true,zg 53 (.faddr 1 4) 51 true,zg 54 (.load false 1 53) 51 true,zg 55 (.call (.func (F 231)) [52,54]) 51 true,zg 56 (.un .not 55) 51 true,zo 57 (.pick 51 56 (.const (.bool false))),zm 36 57]))) (.cond 36 (oN [zo 6 (.mv (zc 5))] .ret) (oN [zf 59 0 4,zl 60 59,zo 61 (.eql false .pi 60 (zc 13)),zm 62 61,zg 63 (.faddr 2 4) 62 true,zg 64 (.load false 1 63) 62 true,zg 65 (.eql true .pi 64 (zc 0)) 62 true,zo 66 (.pick 62 65 (.const (.bool false))),zm 67 66,zg 68 (.mv 0) 67 true,zg 69 (.faddr 2 4) 67 true,zg 70 (.load false 1 69) 67 true,zg 71 (.call (.func (F 231)) [68,70]) 67 true,zg 72 (.un .not 71) 67 true,zo 73 (.pick 67 72 (.const (.bool false))),zm 58 73] (.cond 58 (oN [zo 6 (.mv (zc 5))] .ret) (.seq (oN [zf 75 0 4,zl 76 75,zo 77 (.eql false .pi 76 (zc 16)),zm 78 77,zg 79 (.mv 7) 78 true,zg 80 (.mv 0) 78 true,zg 81 (.nilchk 80) 78 true,zg 82 (.faddr 0 81) 78 true,zg 83 (.faddr 7 82) 78 true,zg 84 (.load false 1 83) 78 true,zg 85 (.call 79 [84]) 78 true,zg 86 (.un .not 85) 78 true,zo 87 (.pick 78 86 (.const (.bool false))),zm 74 87] (.cond 74 .skip (.ops [zf 88 0 4,zl 89 88,zo 90 (.eql false .pi 89 (zc 18)),zm 91 90,zg 92 (.mv 7) 91 true,zg 93 (.mv 0) 91 true,zg 94 (.nilchk 93) 91 true,zg 95 (.faddr 0 94) 91 true,zg 96 (.faddr 8 95) 91 true,zg 97 (.load false 1 96) 91 true,zg 98 (.call 92 [97]) 91 true,zg 99 (.un .not 98) 91 true,zo 100 (.pick 91 99 (.const (.bool false))),zm 74 100]))) (.cond 74 (oN [zo 6 (.mv (zc 5))] .ret) (.seq (.drawn 0 [zp (zf 102 0 4) 0,zr (zl 103 102) 0 0 1,zp (zo 104 (.eql false .pi 103 (zc 26))) 3,zp (zm 105 104) 7,zp (zg 106 (.faddr 5 4) 105 true) 15,zr (zg 107 (.load false 1 106) 105 true) 0 0 31,zp (zg 108 (.mv 0) 105 true) 15,zp (zg 109 (.nilchk 108) 105 true) 79,zp (zg 110 (.faddr 0 109) 105 true) 207,zp (zg 111 (.faddr 2 110) 105 true) 463,zr (zg 112 (.load false 1 111) 105 true) 0 0 975,zp (zg 113 (.faddr 1 4) 105 true) 15,zr (zg 114 (.load false 1 113) 105 true) 0 0 2063,zp (zg 115 (.iaddrS 1 112 114) 105 true) 8143,zr (zg 116 (.load false 1 115) 105 true) 0 0 16335,zp (zg 117 (.lenS 116) 105 true) 32719,zh (zg 118 (.call (.func (F 232)) [107,117]) 105 true) 65535,zp (zg 119 (.un .not 118) 105 true) 131071,zp (zo 120 (.pick 105 119 (.const (.bool false)))) 262143,zp (zm 101 120) 524287]) (.cond 101 (oN [zo 6 (.mv (zc 2))] .ret) .skip))))))))))) (oN [zo 6 (.mv (zc 0))] .ret))))
def afX:CF:=λF T=>(oN [zo 4 (.mv (.const (.bool false)))] (oN [zm 6 0,zo 7 (.nilchk 6),zf 8 0 7,zo 9 (.load true 25 8),zm 10 1,oF F 11 91 [9,10],zm 5 11] (oN [zm 12 5,zo 13 (.arith .geq 12 (zc 0)),zm 14 13,zg 15 (.mv 0) 14 true,zg 16 (.nilchk 15) 14 true,zg 17 (.faddr 0 16) 14 true,zg 18 (.faddr 1 17) 14 true,zg 19 (.load false 1 18) 14 true,zg 20 (.mv 5) 14 true,zg 21 (.iaddrS 14 19 20) 14 true,zg 22 (.faddr 4 21) 14 true,zg 23 (.load false 1 22) 14 true,zg 24 (.eql false .pi 23 (zc 2)) 14 true,zo 25 (.pick 14 24 (.const (.bool false))),zm 4 25] .ret)))
def SE:CF:=λF T=>(oN [zo 3 (.box 13 1),zo 4 (.mv (zc 0))] (.seq (oN [zm 7 0,zo 8 (.eql false .ptr 7 (.const (.pointer none)))] (.cond 8 (oN [zo 4 (.mv (zc 1))] .ret) .skip)) (.seq (.drawn 1 [zp (zm 10 0) 0,zp (zo 11 (.nilchk 10)) 1,zp (zf 12 26 11) 3,zr (zo 13 (.load true 25 12)) 0 0 7,zr (zo 14 (.load true 13 3)) 0 0 0,zh (oF F 15 164 [13,14]) 31,zp (zm 9 15) 63,zp (zo 16 (.extract 9 0)) 127,zp (zo 17 (.extract 9 1)) 127,⟨zo 5 (.alloc 25 cC),.dalloc,0,0,0⟩,zh (zn (.store 25 5 16)) 767,zp (zm 6 17) 2047]) (.seq (oN [zm 18 6,zo 19 (.eql true .pi 18 (zc 0))] (.cond 19 (oN [zm 20 6,zm 4 20] .ret) .skip)) (.seq (.drawn 1 [zp (zm 21 0) 0,zp (zm 22 0) 0,zp (zm 23 0) 0,zp (zo 24 (.nilchk 23)) 4,zp (zf 25 25 24) 12,zr (zl 26 25) 0 1 28,zr (zo 27 (.load true 13 3)) 0 0 0,zh (oF F 28 165 [27]) 64,⟨zo 29 (.bslice 13 1 mB [⟨0,28⟩]),.dalloc,0,0,192⟩,zh (zo 30 (.append 13 136 26 29)) 508,zr (zo 31 (.load true 25 5)) 0 3 0,zp (zo 32 (.nilchk 21)) 1021,zp (zf 33 25 32) 3069,zh (zn (.store 1 33 30)) 7165,zp (zo 34 (.nilchk 22)) 16383,zp (zf 35 26 34) 32767,zh (zn (.store 25 35 31)) 65535]) (oN [zo 4 (.mv (zc 0))] .ret))))))
def SW:CF:=λF T=>(oN [zo 1 (.box 13 0),zo 2 (.alloc 13 mB)] (.seq (.drawn 0 [zp (zf 3 5 1) 0,zr (zl 4 3) 0 0 1,zh (oF F 5 51 [4]) 3,zp (zf 6 6 1) 0,zp (zf 7 6 6) 8,zr (zl 8 7) 0 1 24,zh (oF F 9 163 [8]) 63,zp (zf 10 5 1) 63,zh (zn (.store 1 10 5)) 255,zp (zf 11 6 1) 511,zp (zf 12 6 11) 1023,zh (zn (.store 1 12 9)) 2047]) (oN [zo 13 (.load true 13 1),zn (.store 13 2 13)] .ret)))
def WN:CF:=λF T=>(oN [zo 3 (.box 13 1),zo 4 (.mv (zc 0))] (.seq (.block 0 (oN [zm 6 0,zo 7 (.eql false .ptr 6 (.const (.pointer none))),zm 5 7] (.cond 5 (oN [zo 4 (.mv (.const (.int .i64 (.negSucc 0))))] .ret) (.seq (.drawn 0 [zp (zf 9 0 3) 0,zr (zl 10 9) 0 0 1,zp (zo 11 (.eql false .pi 10 (zc 1))) 3,zp (zm 12 11) 7,zp (zg 13 (.mv 0) 12 true) 15,zh (zg 14 (.call (.func (F 14)) [13]) 12 true) 31,zp (zg 15 (.fld 1 1 false 14) 12 true) 63,zp (zg 16 (.lenS 15) 12 true) 127,zp (zg 17 (.mv 0) 12 true) 15,zp (zg 18 (.nilchk 17) 12 true) 271,zp (zg 19 (.faddr 2 18) 12 true) 783,zp (zg 20 (.faddr 0 19) 12 true) 1807,zr (zg 21 (.load false 1 20) 12 true) 0 1 3855,zp (zg 22 (.arith .geq 16 21) 12 true) 8191,zp (zo 23 (.pick 12 22 (.const (.bool false)))) 16383,zp (zm 8 23) 32767]) (.cond 8 (oN [zm 24 0,zo 25 (.nilchk 24),zf 26 0 25,zo 27 (.load true 1 26),zo 28 (.build mB [⟨0,⟨1,(zc 29)⟩⟩,⟨1,⟨1,(zc 3)⟩⟩]),oF F 29 53 [27,28]] (oN [zo 4 (.mv (.const (.int .i64 (.negSucc 0))))] .ret)) (.seq (.drawn 0 [zp (zm 31 0) 0,zp (zo 32 (.nilchk 31)) 1,zp (zf 33 0 32) 3,zr (zo 34 (.load true 1 33)) 0 0 7,zr (zo 35 (.load true 13 3)) 0 0 0,zh (oF F 36 53 [34,35]) 31,zp (zo 37 (.eql true .pi 36 (zc 0))) 63,zp (zm 30 37) 127]) (.cond 30 (oN [zo 4 (.mv (.const (.int .i64 (.negSucc 0))))] .ret) .skip))))))) (.seq (oN [zf 38 0 3,zl 39 38] (.block 1 (.seq (oN [zo 41 (.eql false .pi 39 (zc 1)),zm 40 41] (.cond 40 .skip (oN [zo 42 (.eql false .pi 39 (zc 2)),zm 40 42] (.cond 40 .skip (oN [zo 43 (.eql false .pi 39 (zc 15)),zm 40 43] (.cond 40 .skip (.ops [zo 44 (.eql false .pi 39 (zc 17)),zm 40 44]))))))) (.cond 40 (oN [zm 45 0,oF F 46 14 [45],zo 47 (.fld 15 1 false 46),zo 48 (.arith .sub 47 (zc 1)),zm 4 48] .ret) .skip)))) (oN [zo 4 (.mv (zc 0))] .ret))))
def ZN:CF:=λF T=>(oN [zo 2 (.alloc 25 cC)] (oN [zm 3 0,oF F 4 24 [3],oF F 5 52 [4],zn (.store 25 2 5)] .ret))
def ZP:CF:=λF T=>(oN [zo 2 (.mv (.const (.pointer none)))] (.seq (oN [zm 3 0,zo 4 (.eql false .ptr 3 (.const (.pointer none)))] (.cond 4 (oN [zo 2 (.mv (.const (.pointer none)))] .ret) .skip)) (oN [zm 5 0,zo 6 (.nilchk 5),zf 7 0 6,zf 8 0 7,zl 9 8,zm 2 9] .ret)))
def ZY:CF:=λF T=>(oN [zo 2 (.alloc 25 cC)] (.seq (oN [zm 3 0,zo 4 (.eql false .ptr 3 (.const (.pointer none)))] (.cond 4 (oN [zo 5 (.build cC []),zn (.store 25 2 5)] .ret) .skip)) (oN [zm 6 0,zo 7 (.nilchk 6),zf 8 26 7,zo 9 (.load true 25 8),oF F 10 107 [9],zn (.store 25 2 10)] .ret)))
def ZZ:CF:=λF T=>(oN [zo 2 (.box 1 0),zo 3 (.box 13 1),zo 4 (.mv (zc 0))] (oN [zf 5 0 2,zl 6 5,zo 7 (.load true 13 3),oF F 8 108 [6,7],zm 4 8] .ret))
def Td:CF:=λF T=>(oN [zo 2 (.box 13 0)] (.ops [zl 3 1,zf 4 2 2,zl 5 4,zf 6 1 2,zl 7 6,zf 8 1 2,zl 9 8,zf 10 3 2,zl 11 10,zf 12 4 2,zl 13 12,zo 14 (.eql false .pi 13 (zc 1)),zo 15 (.build dB [⟨1,⟨1,5⟩⟩,⟨2,⟨1,7⟩⟩,⟨3,⟨1,9⟩⟩,⟨4,⟨1,11⟩⟩,⟨7,⟨1,14⟩⟩]),oF F 16 105 [3,15,(.const (.bool false))]]))
def Li:CF:=λF T=>(oN [zo 4 (.alloc 4 [(.bool false),(.bool false),(.bool false),.nilFunc])] (.seq (oN [zm 9 0,oF F 10 224 [9],zm 11 0,oF F 12 225 [11],zm 13 0,oF F 14 226 [13],zo 15 (.bslice 1 3 [(.map none)] [⟨0,10⟩,⟨1,12⟩,⟨2,14⟩]),zo 16 (.lenS 15),zo 17 (.mv (zc 0))] (.block 0 (.loop (oN [zo 18 (.arith .lss 17 16)] (.seq (.cond 18 .skip (.exit 0)) (.seq (.block 1 (oN [zo 19 (.iaddrS 1 15 17),zl 20 19,zm 6 20] (oN [zm 22 6,zm 23 1,zo 24 (.look .pi (.agg [(.bool false),(.bool false),(.bool false),.nilFunc]) true 22 23),zm 21 24,zo 25 (.extract 21 0),zo 26 (.extract 21 1),zo 7 (.alloc 4 [(.bool false),(.bool false),(.bool false),.nilFunc]),zn (.store 4 7 25),zm 8 26] (oN [zm 27 8] (.cond 27 (oN [zo 28 (.load true 4 7),zn (.store 4 4 28)] .ret) .skip))))) (.ops [zo 29 (.arith .add 17 (zc 1)),zm 17 29]))))))) (oN [zo 30 (.build [(.bool false),(.bool false),(.bool false),.nilFunc] [⟨3,⟨1,(.func (F 227))⟩⟩]),zn (.store 4 4 30)] .ret)))
def Ll:CF:=λF T=>(oN [zo 1 (.box 1 0),zo 2 (.mv (.const (.map none)))] (oN [zo 4 (.mkfn (F 247) [] [1]),zm 3 4] (.seq (.drawn 1 [⟨zo 5 .mkmap,.dmap,0,0,0⟩,zp (zm 6 3) 0,zh (zo 7 (.call 6 [(.func (F 250))])) 2,⟨zn (.ins true .pi 5 (zc 3) 7),.d4,0,0,7⟩,zp (zm 8 3) 0,zh (zo 9 (.call 8 [(.func (F 251))])) 22,⟨zn (.ins true .pi 5 (zc 4) 9),.d4,0,0,55⟩,zp (zm 10 3) 0,zh (zo 11 (.call 10 [(.func (F 252))])) 182,⟨zn (.ins true .pi 5 (zc 14) 11),.d4,0,0,439⟩,zp (zm 12 3) 0,zh (zo 13 (.call 12 [(.func (F 253))])) 1462,⟨zn (.ins true .pi 5 (zc 5) 13),.d4,0,0,3511⟩,zp (zm 14 3) 0,zh (zo 15 (.call 14 [(.func (F 255))])) 11702,⟨zn (.ins true .pi 5 (zc 6) 15),.d4,0,0,28087⟩,zp (zm 16 3) 0,zh (zo 17 (.call 16 [(.func (F 256))])) 93622,⟨zn (.ins true .pi 5 (zc 11) 17),.d4,0,0,224695⟩,zp (zm 18 3) 0,zh (zo 19 (.call 18 [(.func (F 257))])) 748982,⟨zn (.ins true .pi 5 (zc 12) 19),.d4,0,0,1797559⟩,zp (zm 20 3) 0,zh (zo 21 (.call 20 [(.func (F 258))])) 5991862,⟨zn (.ins true .pi 5 (zc 13) 21),.d4,0,0,14380471⟩,zr (zl 22 1) 0 8 0,zp (zo 23 (.mkfn (F 259) [22] [])) 33554432,zp (zo 24 (.build [(.bool false),(.bool false),(.bool false),.nilFunc] [⟨1,⟨1,(.const (.bool true))⟩⟩,⟨2,⟨1,(.const (.bool true))⟩⟩,⟨3,⟨1,23⟩⟩])) 100663296,⟨zn (.ins true .pi 5 (zc 10) 24),.d4,0,0,234881025⟩,zr (zl 25 1) 0 8 0,zp (zo 26 (.mkfn (F 260) [25] [])) 536870912,zp (zo 27 (.build [(.bool false),(.bool false),(.bool false),.nilFunc] [⟨1,⟨1,(.const (.bool true))⟩⟩,⟨3,⟨1,26⟩⟩])) 1610612736,⟨zn (.ins true .pi 5 (zc 2) 27),.d4,0,0,3758096385⟩,zp (zo 28 (.mkfn (F 261) [] [1])) 0,zp (zo 29 (.build [(.bool false),(.bool false),(.bool false),.nilFunc] [⟨1,⟨1,(.const (.bool true))⟩⟩,⟨3,⟨1,28⟩⟩])) 8589934592,⟨zn (.ins true .pi 5 (zc 25) 29),.d4,0,0,25769803777⟩,zp (zm 30 5) 68719476735,zp (zm 2 30) 137438953471]) .ret)))
def Lm:CF:=λF T=>(oN [zo 1 (.box 1 0),zo 2 (.mv (.const (.map none)))] (oN [zo 4 (.mkfn (F 263) [] [1]),zm 3 4] (.seq (.drawn 1 [⟨zo 5 .mkmap,.dmap,0,0,0⟩,zp (zo 6 (.mkfn (F 265) [] [1])) 0,zp (zo 7 (.build [(.bool false),(.bool false),(.bool false),.nilFunc] [⟨0,⟨1,(.const (.bool true))⟩⟩,⟨3,⟨1,6⟩⟩])) 2,⟨zn (.ins true .pi 5 (zc 1) 7),.d4,0,0,7⟩,zp (zm 8 3) 0,zh (zo 9 (.call 8 [(.func (F 266))])) 16,⟨zn (.ins true .pi 5 (zc 7) 9),.d4,0,0,49⟩,zp (zm 10 3) 0,zh (zo 11 (.call 10 [(.func (F 267))])) 176,⟨zn (.ins true .pi 5 (zc 8) 11),.d4,0,0,433⟩,zp (zm 12 3) 0,zh (zo 13 (.call 12 [(.func (F 268))])) 1456,⟨zn (.ins true .pi 5 (zc 9) 13),.d4,0,0,3505⟩,zp (zm 14 3) 0,zh (zo 15 (.call 14 [(.func (F 269))])) 11696,⟨zn (.ins true .pi 5 (zc 23) 15),.d4,0,0,28081⟩,zp (zm 16 3) 0,zh (zo 17 (.call 16 [(.func (F 270))])) 93616,⟨zn (.ins true .pi 5 (zc 24) 17),.d4,0,0,224689⟩,zr (zl 18 1) 0 5 0,zp (zo 19 (.mkfn (F 271) [18] [])) 524288,zp (zo 20 (.build [(.bool false),(.bool false),(.bool false),.nilFunc] [⟨0,⟨1,(.const (.bool true))⟩⟩,⟨3,⟨1,19⟩⟩])) 1572864,⟨zn (.ins true .pi 5 (zc 20) 20),.d4,0,0,3670017⟩,zp (zo 21 (.mkfn (F 272) [] [1])) 0,zp (zo 22 (.build [(.bool false),(.bool false),(.bool false),.nilFunc] [⟨0,⟨1,(.const (.bool true))⟩⟩,⟨3,⟨1,21⟩⟩])) 8388608,⟨zn (.ins true .pi 5 (zc 21) 22),.d4,0,0,25165825⟩,zr (zl 23 1) 0 5 0,zp (zo 24 (.mkfn (F 273) [23] [])) 67108864,zp (zo 25 (.build [(.bool false),(.bool false),(.bool false),.nilFunc] [⟨0,⟨1,(.const (.bool true))⟩⟩,⟨3,⟨1,24⟩⟩])) 201326592,⟨zn (.ins true .pi 5 (zc 26) 25),.d4,0,0,469762049⟩,zp (zm 26 5) 1073741823,zp (zm 2 26) 2147483647]) .ret)))
def Ln:CF:=λF T=>(oN [zo 1 (.box 1 0),zo 2 (.mv (.const (.map none)))] (oN [zo 3 .mkmap,zo 4 (.mkfn (F 274) [] [1]),zo 5 (.build [(.bool false),(.bool false),(.bool false),.nilFunc] [⟨3,⟨1,4⟩⟩]),zn (.ins true .pi 3 (zc 15) 5),zo 6 (.mkfn (F 276) [] [1]),zo 7 (.build [(.bool false),(.bool false),(.bool false),.nilFunc] [⟨3,⟨1,6⟩⟩]),zn (.ins true .pi 3 (zc 17) 7),zo 8 (.mkfn (F 277) [] [1]),zo 9 (.build [(.bool false),(.bool false),(.bool false),.nilFunc] [⟨3,⟨1,8⟩⟩]),zn (.ins true .pi 3 (zc 16) 9),zo 10 (.mkfn (F 279) [] [1]),zo 11 (.build [(.bool false),(.bool false),(.bool false),.nilFunc] [⟨3,⟨1,10⟩⟩]),zn (.ins true .pi 3 (zc 18) 11),zo 12 (.mkfn (F 280) [] [1]),zo 13 (.build [(.bool false),(.bool false),(.bool false),.nilFunc] [⟨3,⟨1,12⟩⟩]),zn (.ins true .pi 3 (zc 19) 13),zo 14 (.mkfn (F 281) [] [1]),zo 15 (.build [(.bool false),(.bool false),(.bool false),.nilFunc] [⟨3,⟨1,14⟩⟩]),zn (.ins true .pi 3 (zc 22) 15),zo 16 (.mkfn (F 282) [] [1]),zo 17 (.build [(.bool false),(.bool false),(.bool false),.nilFunc] [⟨3,⟨1,16⟩⟩]),zn (.ins true .pi 3 (zc 27) 17),zl 18 1,zo 19 (.mkfn (F 283) [18] []),zo 20 (.build [(.bool false),(.bool false),(.bool false),.nilFunc] [⟨3,⟨1,19⟩⟩]),zn (.ins true .pi 3 (zc 28) 20),zo 21 (.mkfn (F 284) [] [1]),zo 22 (.build [(.bool false),(.bool false),(.bool false),.nilFunc] [⟨3,⟨1,21⟩⟩]),zn (.ins true .pi 3 (zc 29) 22),zm 23 3,zm 2 23] .ret))
def Lp:CF:=λF T=>(oN [zo 2 (.box 1 0),zo 3 (.alloc 4 [(.bool false),(.bool false),(.bool false),.nilFunc])] (oN [zo 4 (.mkfn (F 248) [] [2,1]),zo 5 (.build [(.bool false),(.bool false),(.bool false),.nilFunc] [⟨1,⟨1,(.const (.bool true))⟩⟩,⟨2,⟨1,(.const (.bool true))⟩⟩,⟨3,⟨1,4⟩⟩]),zn (.store 4 3 5)] .ret))
def Lq:CF:=λF T=>(oN [zo 2 (.box 1 0),zo 3 (.alloc 4 [(.bool false),(.bool false),(.bool false),.nilFunc])] (oN [zo 4 (.mkfn (F 264) [] [2,1]),zo 5 (.build [(.bool false),(.bool false),(.bool false),.nilFunc] [⟨0,⟨1,(.const (.bool true))⟩⟩,⟨3,⟨1,4⟩⟩]),zn (.store 4 3 5)] .ret))
structure FnK (P:Program)(K:Orc)(f:FuncId)(nt:Nat)(rs:List ResultVar)(ac:AC):Prop where
 k:∀args H,K f args H=none
 ex:∃fn,P.funcs[f]?=some fn/\fn.body.map (cc P fn.ntmps)=some ac/\fn.ntmps=nt/\fn.results.toList=rs/\(fn.name == "runtime.NumGoroutine")=false
theorem FnK.dT {P:Program}{K:Orc}{f:FuncId}{nt:Nat}{rs:List ResultVar}{ac:AC}(h:FnK P K f nt rs ac){args:List AV}{s:SH}{R:AV->SH->Prop}(hw:WP P K none nt ac (sl0 0 args) [] s (Fin P rs R) (λ_ _ _ _=>False) (Fin P rs R))(ha:args.length<=nt:=by simp):bB P K f args s R:=by
 obtain⟨fn,h1,h2,h3,h4,h5⟩:=h.ex
 refine bB.enter (h.k args) h1 h2 h3 h4 ?_ hw
 rw[h5,h3,ar,Nat.ble_eq_true_of_le ha]
 rfl
def Ty (P:Program)(t:TypeId)(n:Nat):Prop:=isAggT P t=some true/\size? P t=some n
structure Base (P:Program)(K:Orc)(F:Nat->FuncId)(T:Nat->TypeId):Prop where
 f91:FnK P K (F 91) 9 [(.tmp 4)] (a91 F T)
 f138:FnK P K (F 138) 8 [(.tmp 3)] (ST F T)
 f106:FnK P K (F 106) 19 [(.tmp 4)] (WM F T)
 f158:FnK P K (F 158) 22 [(.tmp 4)] (WU F T)
 f159:FnK P K (F 159) 8 [(.cell 2<|T 45)] (SU F T)
 f160:FnK P K (F 160) 22 [(.tmp 4)] (WV F T)
 f161:FnK P K (F 161) 22 [(.tmp 4)] (WW F T)
 f162:FnK P K (F 162) 8 [(.cell 2<|T 48)] (SV F T)
 f51:FnK P K (F 51) 8 [(.tmp 2)] (a51 F T)
 f157:FnK P K (F 157) 8 [(.tmp 2)] (WT F T)
 f163:FnK P K (F 163) 8 [(.tmp 2)] (WX F T)
 f200:FnK P K (F 200) 8 [(.tmp 2)] (WZ F T)
 f107:FnK P K (F 107) 46 [(.cell 2<|T 41)] (SC F T)
 f105:FnK P K (F 105) 82 [] (SB F T)
 f136:FnK P K (F 136) 70 [(.tmp 6)] (Lf F T)
 f137:FnK P K (F 137) 33 [(.tmp 2)] (SS F T)
 f164:FnK P K (F 164) 46 [(.cell 4<|T 41),(.tmp 5)] (Lg F T)
 f203:FnK P K (F 203) 121 [(.tmp 6)] (Lj F T)
 f231:FnK P K (F 231) 26 [(.tmp 4)] (afX F T)
 f108:FnK P K (F 108) 36 [(.tmp 4)] (SE F T)
 f165:FnK P K (F 165) 14 [(.cell 2<|T 50)] (SW F T)
 f15:FnK P K (F 15) 49 [(.tmp 4)] (WN F T)
 f14:FnK P K (F 14) 6 [(.cell 2<|T 41)] (ZN F T)
 f24:FnK P K (F 24) 10 [(.tmp 2)] (ZP F T)
 f52:FnK P K (F 52) 11 [(.cell 2<|T 41)] (ZY F T)
 f53:FnK P K (F 53) 9 [(.tmp 4)] (ZZ F T)
 f265:FnK P K (F 265) 17 [] (Td F T)
 f202:FnK P K (F 202) 31 [(.cell 4<|T 290)] (Li F T)
 f224:FnK P K (F 224) 31 [(.tmp 2)] (Ll F T)
 f225:FnK P K (F 225) 27 [(.tmp 2)] (Lm F T)
 f226:FnK P K (F 226) 24 [(.tmp 2)] (Ln F T)
 f247:FnK P K (F 247) 6 [(.cell 3<|T 290)] (Lp F T)
 f263:FnK P K (F 263) 6 [(.cell 3<|T 290)] (Lq F T)
 t41:Ty P (T 41) 25
 t45:Ty P (T 45) 14
 t48:Ty P (T 48) 7
 t50:Ty P (T 50) 13
 t290:Ty P (T 290) 4
variable {F:Nat->FuncId}{T:Nat->TypeId}
@[reducible] def nilS:AV:=.slice none 0 0 false 0
theorem sM {sz bytes:Nat}{z:List AV}{rw:Nat}{R:AV->SH->Prop}(hR:R nilS s) :
  WP P K none nt (fc sz bytes z) (sl0 0 [.slice none 0 0 false rw]) [] s (Fin P [.tmp 2] R) (λ_ _ _ _=>False) (Fin P [.tmp 2] R):=by
 unfold fc
 refine Wq<|Wv rfl<|Wn<|Ws<|Wq<|Wv rfl<|Wh (b:=true) rfl rfl rfl<|Wn ?_
 refine Wd rfl (λ_=>?_)<|λh=>by cases h
 exact Wq<|Wv rfl<|Wn<|We<|Wm (.tmp rfl .nil) hR
theorem FnK.clone {f:FuncId}{sz bytes:Nat}{z:List AV}(h:FnK P K f 8 [.tmp 2] (fc sz bytes z)){v:AV}{L:List (List AV)}(hs:Src s sz v L)(hz:sz≠0)(h1:L.length<=901000)(h2:bytes<=100000):bB P K f [v] s (λv' s'=>∃n,s'=n++s/\gz n sz v' L):=
 h.dT (BW hs hz h1 h2 λv' n ho=>⟨n,rfl,ho⟩)
theorem FnK.iX {f:FuncId}{sz bytes:Nat}{z:List AV}(h:FnK P K f 8 [.tmp 2] (fc sz bytes z)){rw:Nat}:bB P K f [.slice none 0 0 false rw] s (λv' s'=>v'=nilS/\s'=s):=
 h.dT (sM ⟨rfl,rfl⟩)
theorem ak {a b:SH}(h:∀(c:SH->Nat)(w:Nat × HO->Nat),c []=0->(∀x y,c (x++y)=c x+c y)->(∀p x,c (p::x)=w p+c x)->(∀x y,x.Perm y->c x=c y)->c a=c b):a.Perm b:=by
 classical
 refine List.perm_iff_count.2 λq=>?_
 exact h (λl=>l.count q) (λp=>if p==q then 1 else 0) rfl (λx y=>List.count_append) (λp x=>by
  rw[List.count_cons,Nat.add_comm]) (λx y hp=>hp.count_eq q)
theorem zt {a b:SH}(h:∀(c:SH->Nat)(w:Nat × HO->Nat),c []=0->(∀x y,c (x++y)=c x+c y)->(∀p x,c (p::x)=w p+c x)->(∀x y,x.Perm y->c x=c y)->c a=c b:=by intro c w h0 h1 h2 hq;simp only[h0,h1,h2];omega):a.Perm b:=ak h
inductive GI:List (List AV)->List (List (List AV))->SH->Prop
 | nil:GI [] [] []
 | snoc {L:List (List AV)} {LL:List (List<|List AV)} {n oi:SH} {x:AV} {bX:List (List AV)}:GI L LL n->Gr 1 x bX oi->GI (L++[[x]]) (LL++[bX]) (oi++n)
 | bK {L:List (List AV)} {LL:List (List<|List AV)} {n m:SH}:GI L LL n->GI L LL (m++n)
 | perm {L:List (List AV)} {LL:List (List<|List AV)} {n m:SH}:GI L LL n->n.Perm m->GI L LL m
theorem GI.len {L:List (List AV)}{LL:List (List (List AV))}{n:SH}(h:GI L LL n):L.length=LL.length:=by
 induction h with
 | nil=>rfl
 | snoc _ _ ih=>simp[ih]
 | bK _ ih=>exact ih
 | perm _ _ ih=>exact ih
theorem GI.at {L:List (List AV)}{LL:List (List (List AV))}{n:SH}(h:GI L LL n):∀{p:Nat},p<LL.length->∃x bX oi r,L[p]?=some [x]/\LL[p]?=some bX/\Gr 1 x bX oi/\n.Perm (oi++r)/\∀x' cQ eA,Gr 1 x' cQ eA->GI (L.set p [x']) (LL.set p cQ) (eA++r):=by
 induction h with
 | nil=>intro p hp;exact absurd hp<|Nat.not_lt_zero _
 | @snoc L LL n oi x bX h hg ih=>
  intro p hp
  rw[List.length_append]at hp
  have hlen:=h.len
  by_cases uA:p<LL.length
  ·obtain⟨x0,fg,Vi,r,h1,h2,h3,h4,h5⟩:=ih uA
   refine⟨x0,fg,Vi,oi++r,?_,?_,h3,?_,λx' cQ eA hg'=>?_⟩
   ·rw[List.getElem?_append_left (by omega)];exact h1
   ·rw[List.getElem?_append_left uA];exact h2
   ·refine(List.Perm.append_left oi h4).trans ?_
    rw[<- List.append_assoc,<- List.append_assoc]
    exact List.Perm.append_right r List.perm_append_comm
   ·rw[List.set_append_left _ _ (by omega),List.set_append_left _ _ uA]
    refine .perm (.snoc (h5 x' cQ eA hg') hg) ?_
    rw[<- List.append_assoc,<- List.append_assoc]
    exact List.Perm.append_right r List.perm_append_comm
  ·have Gv:p=LL.length:=by simp only[List.length_cons,List.length_nil]at hp;omega
   subst Gv
   refine⟨x,bX,oi,n,?_,?_,hg,.refl _,λx' cQ eA hg'=>?_⟩
   ·rw[List.getElem?_append_right (by omega),hlen,Nat.sub_self];rfl
   ·rw[List.getElem?_append_right (Nat.le_refl _),Nat.sub_self];rfl
   ·rw[List.set_append_right _ _ (by omega),List.set_append_right _ _<|Nat.le_refl _,hlen,Nat.sub_self]
    exact .snoc h hg'
 | @bK L LL n m h ih=>
  intro p hp
  obtain⟨x0,fg,Vi,r,h1,h2,h3,h4,h5⟩:=ih hp
  refine⟨x0,fg,Vi,m++r,h1,h2,h3,?_,λx' cQ eA hg'=>?_⟩
  ·refine(List.Perm.append_left m h4).trans ?_
   rw[<- List.append_assoc,<- List.append_assoc]
   exact List.Perm.append_right r List.perm_append_comm
  ·refine .perm (.bK (m:=m)<|h5 x' cQ eA hg') ?_
   rw[<- List.append_assoc,<- List.append_assoc]
   exact List.Perm.append_right r List.perm_append_comm
 | @perm L LL n m h hp ih=>
  intro p uA
  obtain⟨x0,fg,Vi,r,h1,h2,h3,h4,h5⟩:=ih uA
  exact⟨x0,fg,Vi,r,h1,h2,h3,hp.symm.trans h4,h5⟩
inductive SI (s:SH):List (List AV)->List (List (List AV))->Prop
 | nil:SI s [] []
 | cons {L:List (List AV)} {LL:List (List<|List AV)} {x:AV} {bX:List (List AV)}:Src s 1 x bX->SI s L LL->SI s ([x]::L) (bX::LL)
def SL (s:SH)(v:AV)(LL:List (List (List AV))):Prop:=∃L,Src s 1 v L/\SI s L LL
def GL (v:AV)(LL:List (List (List AV)))(o:SH):Prop:=∃L o' oi,Gr 1 v L o'/\GI L LL oi/\o=o'++oi
theorem SI.snoc {L:List (List AV)}{LL:List (List (List AV))}{x:AV}{bX:List (List AV)}(h:SI s L LL)(h1:Src s 1 x bX):SI s (L++[[x]]) (LL++[bX]):=by
 induction h with
 | nil=>exact .cons h1 .nil
 | cons h2 _ ih=>exact .cons h2 ih
theorem SI.one {L:List (List AV)}{LL:List (List (List AV))}(h:SI s L LL):L.length=LL.length/\∀row∈L,row.length=1:=by
 induction h with
 | nil=>exact⟨rfl,λrow hr=>nomatch hr⟩
 | cons _ _ ih=>exact⟨by simp[ih.1],λrow hr=>by cases hr with | head=>rfl | tail _ hr=>exact ih.2 row hr⟩
theorem SI.get {L:List (List AV)}{LL:List (List (List AV))}(h:SI s L LL):∀(i:Nat)row,L[i]?=some row->∃x bX,row=[x]/\LL[i]?=some bX/\Src s 1 x bX:=by
 induction h with
 | nil=>intro i row h;simp at h
 | cons h1 _ ih=>
  intro i row h
  cases i with
  | zero=>cases h;exact⟨_,_,rfl,rfl,h1⟩
  | succ i=>exact ih i row h
theorem GI.si {L:List (List AV)}{LL:List (List (List AV))}{n:SH}(h:GI L LL n)(hn:∀p,p∈n->p∈s):SI s L LL:=by
 induction h with
 | nil=>exact .nil
 | snoc _ hg ih=>exact(ih λp hp=>hn p<|List.mem_append_right _ hp).snoc (hg.out.src.mono λp hp=>hn p<|List.mem_append_left _ hp)
 | bK _ ih=>exact ih λp hp=>hn p<|List.mem_append_right _ hp
 | perm _ hp ih=>exact ih λp hq=>hn p<|hp.mem_iff.1 hq
theorem GL.sl {v:AV}{LL:List (List (List AV))}{o:SH}(h:GL v LL o)(hn:∀p,p∈o->p∈s):SL s v LL:=by
 obtain⟨L,o',oi,h1,h2,rfl⟩:=h
 exact⟨L,h1.out.src.mono λp hp=>hn p<|List.mem_append_left _ hp,h2.si λp hp=>hn p<|List.mem_append_right _ hp⟩
theorem kh.gi {L L':List (List AV)}{n:SH}{LL:List (List (List AV))}(h:kh (λi _ b m=>∃bX x',LL[i]?=some bX/\b=[x']/\gz m 1 x' bX) L L' n):L.length<=LL.length->GI L' (LL.take L.length) n:=by
 induction h with
 | @nil n=>intro _;exact .perm (.bK (m:=n) .nil)<|by rw[List.append_nil]
 | @snoc a b L L' x m y n h1 h2 ih=>
  intro hlen
  rw[List.length_append]at hlen
  simp only[List.length_cons,List.length_nil]at hlen
  obtain⟨bX,x',e1,rfl,h4⟩:=h2
  obtain⟨oi,p,q,g1,rfl⟩:=h4.gr
  have e2:LL.take (L++[a]).length=LL.take L.length++[bX]:=by
   rw[List.length_append,List.length_cons,List.length_nil,Nat.zero_add,List.take_add_one,e1];rfl
  rw[e2]
  refine .perm (.bK (m:=x++(p++(q++y)))<|.snoc (ih<|by omega) g1) ?_
  exact ak λc w h0 h1 h2 _=>by simp only[h1];omega
@[reducible] def iv (n:Int):AV:=.int .i64 n
structure OD where
 id:Int
 gE:Int
 owner:Int
 aQ:Int
 ci:Int
 RU:Bool
 VK:Bool
 token:Bool
 Y6:Int
 stamp:Int
 NP:Int
 block:Int
 J9:Bool
@[reducible] def OD.row (o:OD):List AV:=[iv o.id,iv o.gE,iv o.owner,iv o.aQ,iv o.ci,.bool o.RU,.bool o.VK,.bool o.token,iv o.Y6,iv o.stamp,iv o.NP,iv o.block,.bool o.J9,nilS]
structure ID where
 id:Int
 kind:Int
 aQ:Int
 obj:Int
 gE:Int
 Tk:Int
@[reducible] def ID.row (o:ID):List AV:=[iv o.id,iv o.kind,iv o.aQ,iv o.obj,iv o.gE,iv o.Tk,nilS]
structure LD where
 Zl:Int
 m0:Int
 m1:Int
 m2:Int
 m3:Int
 f1:Bool
 f2:Bool
 f3:Bool
@[reducible] def LD.row (o:LD):List AV:=[iv o.Zl,iv o.m0,iv o.m1,iv o.m2,iv o.m3,.bool o.f1,.bool o.f2,.bool o.f3]
structure SD where
 pl:List LD
 ob:List OD
 lb:List (List Int)
 hd:List (List Int)
 gr:List (List Int)
 ex:List (List Int)
 fi:List Int
 st:List ID
 wa:List ID
 tu:Int
 ac:Int
 ph:Int
 pr:Int
 pa:Int
 bl:Int
 nx:Int
 sp:Int
 us:Int
 ck:Int
 co:Int
 ca:Int
 py:Bool
 oc:Int
 wi:Int
def fy (l:List OD):List (List AV):=l.map OD.row
def CT (l:List ID):List (List AV):=l.map ID.row
def Am (l:List LD):List (List AV):=l.map LD.row
def nR (l:List Int):List (List AV):=l.map λn=>[iv n]
def lA (l:List (List Int)):List (List (List AV)):=l.map nR
structure SD.Small (d:SD):Prop where
 n1:d.pl.length<=1000/\d.ob.length<=1000/\d.fi.length<=1000/\d.st.length<=1000/\d.wa.length<=1000
 n2:∀LL,(LL=d.lb\/LL=d.hd\/LL=d.gr\/LL=d.ex)->LL.length<=1000/\∀bX∈LL,bX.length<=1000
def SD.cells (d:SD)(pv ov lv hv gv ev fv sv wv:AV):List AV:=[pv,ov,lv,hv,gv,ev,fv,sv,wv,iv d.tu,iv d.ac,iv d.ph,iv d.pr,iv d.pa,iv d.bl,iv d.nx,iv d.sp,iv d.us,iv d.ck,iv d.co,iv d.ca,nilS,.bool d.py,iv d.oc,iv d.wi]
structure mD (s:SH)(pv ov lv hv gv ev fv sv wv:AV)(d:SD):Prop where
 pl:Src s 8 pv (Am d.pl)
 ob:Src s 14 ov (fy d.ob)
 lb:SL s lv (lA d.lb)
 hd:SL s hv (lA d.hd)
 gr:SL s gv (lA d.gr)
 ex:SL s ev (lA d.ex)
 fi:Src s 1 fv (nR d.fi)
 st:Src s 7 sv (CT d.st)
 wa:Src s 7 wv (CT d.wa)
structure iJ (n:SH)(pv ov lv hv gv ev fv sv wv:AV)(d:SD):Prop where
 ex:∃o1 o2 o3 o4 o5 o6 o7 o8 o9 j,n.Perm (o1++(o2++(o3++(o4++(o5++(o6++(o7++(o8++(o9++j)))))))))/\Gr 8 pv (Am d.pl) o1/\Gr 14 ov (fy d.ob) o2/\GL lv (lA d.lb) o3/\GL hv (lA d.hd) o4/\GL gv (lA d.gr) o5/\GL ev (lA d.ex) o6/\Gr 1 fv (nR d.fi) o7/\Gr 7 sv (CT d.st) o8/\Gr 7 wv (CT d.wa) o9
theorem Base.VS (hB:Base P K F T):FnK P K (F 51) 8 [.tmp 2] (fc 1 8 [.int .i64 (.ofNat 0)]):=hB.f51
theorem Base.W8 (hB:Base P K F T):FnK P K (F 157) 8 [.tmp 2] (fc 8 48 nD):=hB.f157
theorem Base.NT (hB:Base P K F T):FnK P K (F 163) 8 [.tmp 2] (fc 2 16 [.int .i64 (.ofNat 0),.int .i64 (.ofNat 0)]):=hB.f163
theorem Base.Xd (hB:Base P K F T):FnK P K (F 200) 8 [.tmp 2] (fc 4 32 [.int .i64 (.ofNat 0),.int .i64 (.ofNat 0),.int .i64 (.ofNat 0),.int .i64 (.ofNat 0)]):=hB.f200
theorem Base.W9 (hB:Base P K F T):FnK P K (F 158) 22 [.tmp 4] (xt 14 112 dB):=hB.f158
theorem Base.Xa (hB:Base P K F T):FnK P K (F 160) 22 [.tmp 4] (B5 24 [nilS]):=hB.f160
theorem Base.Xb (hB:Base P K F T):FnK P K (F 161) 22 [.tmp 4] (xt 7 72 uv):=hB.f161
theorem Base.W6 (hB:Base P K F T):FnK P K (F 106) 19 [.tmp 4] (CU true 14):=hB.f106
theorem Aj (hB:Base P K F T){a b c d e f g h i j k l m:AV}:bB P K (F 159) [.agg [a,b,c,d,e,f,g,h,i,j,k,l,m,nilS]] s (λw s'=>w=.agg [a,b,c,d,e,f,g,h,i,j,k,l,m,nilS]/\∃n,s'=n++s):=by
 refine hB.f159.dT ?_
 unfold SU
 refine Wq<|Wa (.box rfl rfl) λb1=>Wa (.alloc rfl) λb2=>Wn ?_
 refine Wq<|Wf rfl<|Wl rfl (.there .here) rfl rfl rfl<|Ww<|Wc rfl rfl hB.Xd.iX ?_
 rintro w _ ⟨rfl,rfl⟩
 refine Wf rfl<|Ww<|Wt rfl rfl rfl (.there .here) rfl rfl<|Wn ?_
 refine Wq<|Wl rfl (.there .here) rfl rfl rfl<|Ww<|Wt rfl rfl rfl .here rfl rfl<|Wn<|We<|Wm (.cell rfl hB.t45.1 hB.t45.2 (.inl rfl) .here rfl rfl rfl .nil) ?_
 exact⟨rfl,[_,_],rfl⟩
theorem ab1 (hB:Base P K F T){a b c d e f:AV}:bB P K (F 162) [.agg [a,b,c,d,e,f,nilS]] s (λw s'=>w=.agg [a,b,c,d,e,f,nilS]/\∃n,s'=n++s):=by
 refine hB.f162.dT ?_
 unfold SV
 refine Wq<|Wa (.box rfl rfl) λb1=>Wa (.alloc rfl) λb2=>Wn ?_
 refine Wq<|Wf rfl<|Wl rfl (.there .here) rfl rfl rfl<|Ww<|Wc rfl rfl hB.NT.iX ?_
 rintro w _ ⟨rfl,rfl⟩
 refine Wf rfl<|Ww<|Wt rfl rfl rfl (.there .here) rfl rfl<|Wn ?_
 refine Wq<|Wl rfl (.there .here) rfl rfl rfl<|Ww<|Wt rfl rfl rfl .here rfl rfl<|Wn<|We<|Wm (.cell rfl hB.t48.1 hB.t48.2 (.inl rfl) .here rfl rfl rfl .nil) ?_
 exact⟨rfl,[_,_],rfl⟩
def R3 (sz:Nat)(v:AV)(L:List (List AV))(o:SH):Prop:=∃o' j,o.Perm (o'++j)/\Gr sz v L o'
theorem gz.grj {sz:Nat}{v:AV}{L:List (List AV)}{n:SH}(h:gz n sz v L):R3 sz v L n:=by
 obtain⟨o,x,y,h1,rfl⟩:=h.gr
 exact⟨o,x++y,ak λc w h0 h1 h2 _=>by simp only[h1];omega,h1⟩
theorem FnK.BV {f:FuncId}{sz bytes:Nat}{z:List AV}(h:FnK P K f 8 [.tmp 2] (fc sz bytes z)){v:AV}{L:List (List AV)}(hs:Src s sz v L)(hz:sz≠0)(h1:L.length<=901000)(h2:bytes<=100000):bB P K f [v] s (λv' s'=>∃n,s'=n++s/\R3 sz v' L n):=
 (h.clone hs hz h1 h2).post λv' s'⟨n,h1,h2⟩=>⟨n,h1,h2.grj⟩
theorem u6 (hB:Base P K F T){v:AV}{L:List (List AV)}(h:Src s 14 v L)(h1:L.length<=900000)(hf:∀row∈L,∃a b c d e f g h i j k l m,row=[a,b,c,d,e,f,g,h,i,j,k,l,m,nilS]) :
  bB P K (F 158) [v,.func (F 159) [] []] s (λv' s'=>∃o,s'=o++s/\R3 14 v' L o):=by
 refine hB.W9.dT<|sS (λ_ a b _=>b=a) h (by omega) rfl h1 (by omega) (λrow hr=>?_) (λi0 row IV x=>?_) λv' L' o n hG hA=>?_
 ·obtain⟨a,b,c,d,e,f,g,h,i,j,k,l,m,rfl⟩:=hf row hr;rfl
 ·obtain⟨a,b,c,d,e,f,g,h,i,j,k,l,m,rfl⟩:=hf row (List.mem_of_getElem? IV)
  refine c6.func<|(Aj hB).post ?_
  rintro w _ ⟨rfl,n,rfl⟩
  exact⟨n,_,rfl,rfl,rfl⟩
 ·have:=hA.same
  subst this
  exact⟨o++n,by rw[List.append_assoc],o,n,.refl _,hG⟩
theorem mK (hB:Base P K F T){v:AV}{L:List (List AV)}(h:Src s 7 v L)(h1:L.length<=900000)(hf:∀row∈L,∃a b c d e f,row=[a,b,c,d,e,f,nilS]) :
  bB P K (F 161) [v,.func (F 162) [] []] s (λv' s'=>∃o,s'=o++s/\R3 7 v' L o):=by
 refine hB.Xb.dT<|sS (λ_ a b _=>b=a) h (by omega) rfl h1 (by omega) (λrow hr=>?_) (λi0 row IV x=>?_) λv' L' o n hG hA=>?_
 ·obtain⟨a,b,c,d,e,f,rfl⟩:=hf row hr;rfl
 ·obtain⟨a,b,c,d,e,f,rfl⟩:=hf row (List.mem_of_getElem? IV)
  refine c6.func<|(ab1 hB).post ?_
  rintro w _ ⟨rfl,n,rfl⟩
  exact⟨n,_,rfl,rfl,rfl⟩
 ·have:=hA.same
  subst this
  exact⟨o++n,by rw[List.append_assoc],o,n,.refl _,hG⟩
theorem gz.part {sz:Nat}{v:AV}{L:List (List AV)}{n:SH}(h:gz n sz v L)(hz:sz≠0):partCells 1 v=some [v]:=by
 cases h<;>rfl
theorem ga (hB:Base P K F T){v:AV}{LL:List (List (List AV))}(h:SL s v LL)(h1:LL.length<=1000)(h2:∀bX∈LL,bX.length<=1000) :
  bB P K (F 160) [v,.func (F 51) [] []] s (λv' s'=>∃o,s'=o++s/\GL v' LL o):=by
 obtain⟨L,hL,hS⟩:=h
 refine hB.Xa.dT<|B6 (λi _ b m=>∃bX x',LL[i]?=some bX/\b=[x']/\gz m 1 x' bX) hL (by rw[hS.one.1];omega) (by omega) hS.one.2 (λi row hr x=>?_) λv' L' o n hG hA=>?_
 ·obtain⟨w,bX,rfl,hm,hw⟩:=hS.get i row hr
  refine c6.func<|(hB.VS.clone (hw.mono λp hp=>List.mem_append_right _ hp) (by omega) (by have:=h2 bX (List.mem_of_getElem? hm);omega)<|by omega).post ?_
  rintro w' _ ⟨n,rfl,ho⟩
  exact⟨n,[w'],rfl,ho.part<|by omega,bX,w',hm,rfl,ho⟩
 ·have:=hA.gi (by rw[hS.one.1];exact Nat.le_refl _)
  rw[hS.one.1,List.take_length]at this
  exact⟨o++n,by rw[List.append_assoc],L',o,n,hG,this,rfl⟩
theorem Src.same {sz:Nat}{v:AV}{L:List (List AV)}(h:Src s sz v L):dz v v=true:=by
 cases h with
 | nil=>simp[dz,sameN,same0]
 | @zero a c sl rw=>cases a<;>simp[dz,sameN,same0]
 | emp=>rfl
 | rows _ _=>simp[dz,sameN,same0]
theorem Gr.part {sz:Nat}{v:AV}{L:List (List AV)}{n:SH}(h:Gr sz v L n):partCells 1 v=some [v]:=by
 cases h<;>rfl
theorem R3.part {sz:Nat}{v:AV}{L:List (List AV)}{n:SH}(h:R3 sz v L n):partCells 1 v=some [v]:=by
 obtain⟨_,_,_,h⟩:=h
 exact h.part
theorem GL.part {v:AV}{LL:List (List (List AV))}{n:SH}(h:GL v LL n):partCells 1 v=some [v]:=by
 obtain⟨_,_,_,h,_⟩:=h
 exact h.part
theorem SI.mono {L:List (List AV)}{LL:List (List (List AV))}{s':SH}(h:SI s L LL)(hs:∀p,p∈s->p∈s'):SI s' L LL:=by
 induction h with
 | nil=>exact .nil
 | cons k1 k2 ih=>exact .cons (k1.mono hs) ih
theorem SL.mono {v:AV}{LL:List (List (List AV))}{s':SH}(h:SL s v LL)(hs:∀p,p∈s->p∈s'):SL s' v LL:=by
 obtain⟨L,h1,h2⟩:=h
 exact⟨L,h1.mono hs,h2.mono hs⟩
theorem SL.same {v:AV}{LL:List (List (List AV))}(h:SL s v LL):dz v v=true:=by
 obtain⟨L,h1,_⟩:=h
 exact h1.same
theorem DG (L:List OD):∀row∈fy L,∃a b c d e f g h i j k l m,row=[a,b,c,d,e,f,g,h,i,j,k,l,m,nilS]:=by
 intro row hr
 obtain⟨o,_,rfl⟩:=List.mem_map.1 hr
 exact⟨_,_,_,_,_,_,_,_,_,_,_,_,_,rfl⟩
theorem tq (L:List ID):∀row∈CT L,∃a b c d e f,row=[a,b,c,d,e,f,nilS]:=by
 intro row hr
 obtain⟨o,_,rfl⟩:=List.mem_map.1 hr
 exact⟨_,_,_,_,_,_,rfl⟩
theorem gh {LL:List (List Int)}(h:LL.length<=1000/\∀bX∈LL,bX.length<=1000):(lA LL).length<=1000/\∀bX∈lA LL,bX.length<=1000:=by
 refine⟨by simp only[lA,List.length_map];exact h.1,λbX hl=>?_⟩
 obtain⟨l,hl',rfl⟩:=List.mem_map.1 hl
 simp only[nR,List.length_map]
 exact h.2 l hl'
theorem pull {o x n s:SH}(h:x=n++s):o++x=(o++n)++s:=by rw[h,List.append_assoc]
theorem eW {p q:Nat × HO}{s:SH}:p::q::s=[p,q]++s:=rfl
theorem mw (hB:Base P K F T){pv ov lv hv gv ev fv sv wv:AV}{d:SD}(h:mD s pv ov lv hv gv ev fv sv wv d)(hd:d.Small) :
  bB P K (F 107) [.agg (d.cells pv ov lv hv gv ev fv sv wv)] s (λv s'=>∃pv ov lv hv gv ev fv sv wv n,v=.agg (d.cells pv ov lv hv gv ev fv sv wv)/\s'=n++s/\iJ n pv ov lv hv gv ev fv sv wv d):=by
 obtain⟨h1,h2,h3,h4,h5,h6,h7,h8,h9⟩:=h
 have hn:=hd.n1
 refine hB.f107.dT ?_
 unfold SC
 refine Wq<|Wa (.box rfl rfl) λb1=>Wa (.alloc rfl) λb2=>Wn ?_
 -- yd
 refine Wq<|Wf rfl<|Wl rfl (.there .here) rfl rfl rfl<|Ww<|Wc rfl rfl (hB.W8.BV (h1.mono λp hp=>by simp[hp]) (by omega) (by simp only[Am,List.length_map];omega)<|by omega) ?_
 rintro v1 _ ⟨o1,rfl,g1⟩
 refine Wf rfl<|Ww<|Wt rfl rfl g1.part (.app<|.there .here) rfl rfl<|Wn ?_
 -- objects
 refine Wq<|Wf rfl<|Wl rfl (.app<|.there .here) rfl rfl rfl<|Ww<|Wc rfl rfl (u6 hB (h2.mono λp hp=>by simp[hp]) (by simp only[fy,List.length_map];omega)<|DG _) ?_
 rintro v2 _ ⟨o2,rfl,g2⟩
 refine Wf rfl<|Ww<|Wt rfl rfl g2.part (.app<|.app<|.there .here) rfl rfl<|Wn ?_
 refine Ws<|WP.bD<|Dp (.faddr rfl)<|Dl rfl .nil (.load rfl (.app<|.app<|.there .here) rfl rfl rfl)<|Dc .nil<|Wc rfl rfl (ga hB (h3.mono λp hp=>by simp[hp]) (gh<|hd.n2 _<|.inl rfl).1 (gh<|hd.n2 _<|.inl rfl).2) ?_
 rintro v3 _ ⟨o3,rfl,g3⟩
 refine Dp (.faddr rfl)<|WD.lk rfl .nil (.load rfl (.app<|.app<|.app<|.there .here) rfl rfl rfl)<|Dc .nil<|Wc rfl rfl (ga hB (h4.mono λp hp=>by simp[hp]) (gh<|hd.n2 _<|.inr<|.inl rfl).1 (gh<|hd.n2 _<|.inr<|.inl rfl).2) ?_
 rintro v4 _ ⟨o4,rfl,g4⟩
 refine Dp (.faddr rfl)<|Dc .nil<|Wt rfl rfl g3.part (.app<|.app<|.app<|.app<|.there .here) rfl rfl<|Dp (.faddr rfl)<|Dc .nil<|Wt rfl rfl g4.part (.app<|.app<|.app<|.app<|.there .here) rfl rfl<|D0 .nil ?_ ?_
 rotate_left
 ·intro o ho
  rw[List.mem_singleton.1 ho]
  refine⟨(λi hi=>nomatch hi),Nat.zero_le _,h4.same,λk _ hk=>?_⟩
  rcases cD hk with rfl|rfl
  ·exact⟨_,rfl,.load rfl (.app<|.app<|.there .here) rfl rfl rfl⟩
  ·exact⟨_,rfl,.load rfl (.app<|.app<|.app<|.there .here) rfl rfl rfl⟩
 refine Ws<|WP.bD<|Dp (.faddr rfl)<|Dl rfl .nil (.load rfl (.app<|.app<|.app<|.app<|.there .here) rfl rfl rfl)<|Dc .nil<|Wc rfl rfl (ga hB (h5.mono λp hp=>by simp[hp]) (gh<|hd.n2 _<|.inr<|.inr<|.inl rfl).1 (gh<|hd.n2 _<|.inr<|.inr<|.inl rfl).2) ?_
 rintro v5 _ ⟨o5,rfl,g5⟩
 refine Dp (.faddr rfl)<|WD.lk rfl .nil (.load rfl (.app<|.app<|.app<|.app<|.app<|.there .here) rfl rfl rfl)<|Dc .nil<|Wc rfl rfl (ga hB (h6.mono λp hp=>by simp[hp]) (gh<|hd.n2 _<|.inr<|.inr<|.inr rfl).1 (gh<|hd.n2 _<|.inr<|.inr<|.inr rfl).2) ?_
 rintro v6 _ ⟨o6,rfl,g6⟩
 refine Dp (.faddr rfl)<|Dc .nil<|Wt rfl rfl g5.part (.app<|.app<|.app<|.app<|.app<|.app<|.there .here) rfl rfl<|Dp (.faddr rfl)<|Dc .nil<|Wt rfl rfl g6.part (.app<|.app<|.app<|.app<|.app<|.app<|.there .here) rfl rfl<|D0 .nil ?_ ?_
 rotate_left
 ·intro o ho
  rw[List.mem_singleton.1 ho]
  refine⟨(λi hi=>nomatch hi),Nat.zero_le _,h6.same,λk _ hk=>?_⟩
  rcases cD hk with rfl|rfl
  ·exact⟨_,rfl,.load rfl (.app<|.app<|.app<|.app<|.there .here) rfl rfl rfl⟩
  ·exact⟨_,rfl,.load rfl (.app<|.app<|.app<|.app<|.app<|.there .here) rfl rfl rfl⟩
 refine Wq<|Wf rfl<|Wl rfl (.app<|.app<|.app<|.app<|.app<|.app<|.there .here) rfl rfl rfl<|Ww<|Wc rfl rfl (hB.VS.BV (h7.mono λp hp=>by simp[hp]) (by omega) (by simp only[nR,List.length_map];omega)<|by omega) ?_
 rintro v7 _ ⟨o7,rfl,g7⟩
 refine Wf rfl<|Ww<|Wt rfl rfl g7.part (.app<|.app<|.app<|.app<|.app<|.app<|.app<|.there .here) rfl rfl<|Wn ?_
 refine Ws<|WP.bD<|Dp (.faddr rfl)<|Dl rfl .nil (.load rfl (.app<|.app<|.app<|.app<|.app<|.app<|.app<|.there .here) rfl rfl rfl)<|Dc .nil<|Wc rfl rfl (mK hB (h8.mono λp hp=>by simp[hp]) (by simp only[CT,List.length_map];omega)<|tq _) ?_
 rintro v8 _ ⟨o8,rfl,g8⟩
 refine Dp (.faddr rfl)<|WD.lk rfl .nil (.load rfl (.app<|.app<|.app<|.app<|.app<|.app<|.app<|.app<|.there .here) rfl rfl rfl)<|Dc .nil<|Wc rfl rfl (mK hB (h9.mono λp hp=>by simp[hp]) (by simp only[CT,List.length_map];omega)<|tq _) ?_
 rintro v9 _ ⟨o9,rfl,g9⟩
 refine Dp (.faddr rfl)<|Dc .nil<|Wt rfl rfl g8.part (.app<|.app<|.app<|.app<|.app<|.app<|.app<|.app<|.app<|.there .here) rfl rfl<|Dp (.faddr rfl)<|Dc .nil<|Wt rfl rfl g9.part (.app<|.app<|.app<|.app<|.app<|.app<|.app<|.app<|.app<|.there .here) rfl rfl<|D0 .nil ?_ ?_
 rotate_left
 ·intro o ho
  rw[List.mem_singleton.1 ho]
  refine⟨(λi hi=>nomatch hi),Nat.zero_le _,h9.same,λk _ hk=>?_⟩
  rcases cD hk with rfl|rfl
  ·exact⟨_,rfl,.load rfl (.app<|.app<|.app<|.app<|.app<|.app<|.app<|.there .here) rfl rfl rfl⟩
  ·exact⟨_,rfl,.load rfl (.app<|.app<|.app<|.app<|.app<|.app<|.app<|.app<|.there .here) rfl rfl rfl⟩
 refine Wq<|Wf rfl<|Wf rfl<|Wl rfl (.app<|.app<|.app<|.app<|.app<|.app<|.app<|.app<|.app<|.there .here) rfl rfl rfl<|Ww<|Wc rfl rfl hB.NT.iX ?_
 rintro w _ ⟨rfl,rfl⟩
 refine Wf rfl<|Wf rfl<|Ww<|Wt rfl rfl rfl (.app<|.app<|.app<|.app<|.app<|.app<|.app<|.app<|.app<|.there .here) rfl rfl<|Wn ?_
 refine Wq<|Wl rfl (.app<|.app<|.app<|.app<|.app<|.app<|.app<|.app<|.app<|.there .here) rfl rfl rfl<|Ww<|Wt rfl rfl rfl (.app<|.app<|.app<|.app<|.app<|.app<|.app<|.app<|.app<|.here) rfl rfl<|Wn<|We<|Wm (.cell rfl hB.t41.1 hB.t41.2 (.inl rfl) (.app<|.app<|.app<|.app<|.app<|.app<|.app<|.app<|.app<|.here) rfl rfl rfl .nil) ?_
 obtain⟨p1,j1,e1,g1⟩:=g1
 obtain⟨p2,j2,e2,g2⟩:=g2
 obtain⟨p7,j7,e7,g7⟩:=g7
 obtain⟨p8,j8,e8,g8⟩:=g8
 obtain⟨p9,j9,e9,g9⟩:=g9
 have fin:∀q1 q2,iJ (o9++(o8++(o7++(o6++(o5++(o4++(o3++(o2++(o1++[q1,q2]))))))))) v1 v2 v3 v4 v5 v6 v7 v8 v9 d:=λq1 q2=>by
  refine⟨p1,p2,o3,o4,o5,o6,p7,p8,p9,j1++(j2++(j7++(j8++(j9++[q1,q2])))),ak λc w h0 h1 h2 hp=>?_,g1,g2,g3,g4,g5,g6,g7,g8,g9⟩
  simp only[h1,h2,h0,hp _ _ e1,hp _ _ e2,hp _ _ e7,hp _ _ e8,hp _ _ e9]
  omega
 exact⟨v1,v2,v3,v4,v5,v6,v7,v8,v9,_,rfl,pull<|pull<|pull<|pull<|pull<|pull<|pull<|pull<|pull eW,fin _ _⟩
theorem bB.perm {f:FuncId}{args:List AV}{s s':SH}{R:AV->SH->Prop}(hp:s.Perm s')(h:bB P K f args s R):bB P K f args s' R:=
 λH0 H hH=>h H0 H<|hH.perm hp.symm
theorem gd {a b:Int}:ieq a b=true↔a=b:=by
 cases a<;>cases b<;>simp[ieq]<;>omega
theorem rh (a b:Int):ieq a b=decide (a=b):=by
 cases h:ieq a b with
 | true=>simp[gd.1 h]
 | false=>
  have:¬a=b:=λe=>by rw[gd.2 e]at h;cases h
  simp[this]
theorem bb (a b:Int):eqBy 20 .pi (iv a) (iv b)=some (decide (a=b)):=by
 show some (ieq a b)=_
 rw[rh]
theorem adK (hB:Base P K F T){o:OD}{id:Int}{b:Nat}{ro:Bool}(hb:Has b (.r ro [[iv id]] 1) s):bB P K (F 138) [.agg o.row,.ptr (some ⟨b,0,0⟩)] s (λw s'=>w=.bool (decide (o.id=id))/\∃m,s'=m++s):=by
 refine hB.f138.dT ?_
 unfold ST
 refine Wq<|Wa (.box rfl rfl) λb1=>Wv rfl<|Wn ?_
 refine Wq<|Wf rfl<|Wl rfl .here rfl rfl rfl<|Wl rfl (.there hb) rfl rfl rfl<|Wh rfl rfl (bb _ _)<|Wv rfl<|Wn<|We<|Wm (.tmp rfl .nil) ?_
 exact⟨rfl,[_],rfl⟩
def SD.find (d:SD)(id:Int):Option Nat:=d.ob.findIdx? λo=>decide (o.id=id)
def K2 (id:Int):List AV->Bool
 | .int _ n::_=>decide<|n=id
 | _=>false
theorem findIdx?_map' {α β:Type}(f:α->β)(p:β->Bool):∀(l:List α),(l.map f).findIdx? p=l.findIdx? λa=>p (f a):=by
 intro l
 induction l with
 | nil=>rfl
 | cons a l ih=>rw[List.map_cons,List.findIdx?_cons,List.findIdx?_cons,ih]
theorem lg (hB:Base P K F T){pv ov lv hv gv ev fv sv wv:AV}{d:SD}{id:Int}(h:Src s 14 ov (fy d.ob))(hd:d.Small) :
  bB P K (F 91) [.agg (d.cells pv ov lv hv gv ev fv sv wv),iv id] s (λw s'=>w=CV (d.find id)/\∃m,s'=m++s):=by
 have hn:=hd.n1
 refine hB.f91.dT ?_
 unfold a91
 refine Wq<|Wa (.box rfl rfl) λb1=>Wa (.box rfl rfl) λb2=>Wv rfl<|Wn ?_
 have hidx:bB P K (F 106) [ov,.func (F 138) [] [.ptr (some ⟨b2,0,0⟩)]] ((b2,.r false [[iv id]] 1)::(b1,.r false [d.cells pv ov lv hv gv ev fv sv wv] 25)::s) (λw s'=>w=CV (d.find id)/\∃m,s'=m++s):=by
  refine hB.W6.dT<|abi (K2 id) (h.mono λp hp=>by simp[hp]) (by omega) (.inl rfl) (by simp only[fy,List.length_map];omega) ?_ ?_ ?_
  ·intro row hr
   obtain⟨o,_,rfl⟩:=List.mem_map.1 hr
   rfl
  ·intro row hr x
   obtain⟨o,_,rfl⟩:=List.mem_map.1 hr
   exact c6.func<|(adK hB<|.app .here).post λw s'⟨h1,m,h2⟩=>⟨h1,m,h2⟩
  ·intro n
   have e:(fy d.ob).findIdx? (K2 id)=d.find id:=by
    unfold fy SD.find
    rw[findIdx?_map']
    rfl
   rw[e]
   exact⟨rfl,n++[_,_],by rw[List.append_assoc];rfl⟩
 refine Wq<|Wf rfl<|Wl rfl (.there .here) rfl rfl rfl<|Wr (.mkfn rfl rfl)<|Ww<|Wc rfl rfl hidx ?_
 rintro w _ ⟨rfl,m,rfl⟩
 refine Wv rfl<|Wn<|We<|Wm (.tmp rfl .nil) ?_
 exact⟨rfl,m,rfl⟩
theorem qQ (hB:Base P K F T){pv ov lv hv gv ev fv sv wv:AV}{d:SD}(h:mD s pv ov lv hv gv ev fv sv wv d)(he:d.lb.length=d.pl.length/\d.hd.length=d.pl.length/\d.gr.length=d.pl.length/\d.ex.length=d.pl.length) :
  bB P K (F 137) [.agg (d.cells pv ov lv hv gv ev fv sv wv)] s (λw s'=>w=.bool true/\∃m,s'=m++s):=by
 refine hB.f137.dT ?_
 unfold SS
 have len:∀{v:AV}{LL:List (List Int)},SL s v (lA LL)->LL.length=d.pl.length->lenOf v=some d.pl.length:=by
  intro v LL ⟨L,h1,h2⟩ h3
  rw[h1.lenOf,h2.one.1]
  simp only[lA,List.length_map,h3]
 have lp:lenOf pv=some d.pl.length:=by rw[h.pl.lenOf];simp[Am]
 have eqs:eqBy 20 .pi (.int .i64<|.ofNat d.pl.length) (.int .i64<|.ofNat d.pl.length)=some true:=by
  show some (Nat.beq _ _)=_
  rw[dn]
 refine Wq<|Wa (.box rfl rfl) λb1=>Wv rfl<|Wn ?_
 refine Wq<|Wf rfl<|Wl rfl .here rfl rfl rfl<|Wr (.lenS rfl lp)<|Wv rfl<|Wn ?_
 refine Wq<|Wf rfl<|Wl rfl .here rfl rfl rfl<|Wr (.lenS rfl<|len h.lb he.1)<|Wv rfl<|Wh rfl rfl eqs<|Wv rfl ?_
 refine WO.guard rfl (λ_=>Wf rfl ?_)<|λh=>absurd rfl h
 refine WO.guard rfl (λ_=>Wl rfl .here rfl rfl rfl ?_)<|λh=>absurd rfl h
 refine WO.guard rfl (λ_=>Wr (.lenS rfl<|len h.hd he.2.1) ?_)<|λh=>absurd rfl h
 refine WO.guard rfl (λ_=>Wv rfl ?_)<|λh=>absurd rfl h
 refine WO.guard rfl (λ_=>Wh rfl rfl eqs ?_)<|λh=>absurd rfl h
 refine Wr (.cV rfl rfl)<|Wv rfl ?_
 refine WO.guard rfl (λ_=>Wf rfl ?_)<|λh=>absurd rfl h
 refine WO.guard rfl (λ_=>Wl rfl .here rfl rfl rfl ?_)<|λh=>absurd rfl h
 refine WO.guard rfl (λ_=>Wr (.lenS rfl<|len h.gr he.2.2.1) ?_)<|λh=>absurd rfl h
 refine WO.guard rfl (λ_=>Wv rfl ?_)<|λh=>absurd rfl h
 refine WO.guard rfl (λ_=>Wh rfl rfl eqs ?_)<|λh=>absurd rfl h
 refine Wr (.cV rfl rfl)<|Wv rfl ?_
 refine WO.guard rfl (λ_=>Wf rfl ?_)<|λh=>absurd rfl h
 refine WO.guard rfl (λ_=>Wl rfl .here rfl rfl rfl ?_)<|λh=>absurd rfl h
 refine WO.guard rfl (λ_=>Wr (.lenS rfl<|len h.ex he.2.2.2) ?_)<|λh=>absurd rfl h
 refine WO.guard rfl (λ_=>Wv rfl ?_)<|λh=>absurd rfl h
 refine WO.guard rfl (λ_=>Wh rfl rfl eqs ?_)<|λh=>absurd rfl h
 refine Wr (.cV rfl rfl)<|Wv rfl<|Wn<|We<|Wm (.tmp rfl .nil) ?_
 exact⟨rfl,[_],rfl⟩
theorem iJ.xS {n:SH}{pv ov lv hv gv ev fv sv wv:AV}{d:SD}(h:iJ n pv ov lv hv gv ev fv sv wv d):∃o r,n.Perm (o++r)/\Gr 14 ov (fy d.ob) o/\∀ov' l' o',Gr 14 ov' (fy l') o'->iJ (o'++r) pv ov' lv hv gv ev fv sv wv { d with ob:=l' }:=by
 obtain⟨o1,o2,o3,o4,o5,o6,o7,o8,o9,j,hp,g1,g2,g3,g4,g5,g6,g7,g8,g9⟩:=h.ex
 refine⟨o2,o1++(o3++(o4++(o5++(o6++(o7++(o8++(o9++j))))))),ak λc w h0 h1 h2 hq=>by rw[hq _ _ hp];simp only[h1];omega,g2,λv' l' o' g'=>⟨o1,o',o3,o4,o5,o6,o7,o8,o9,j,ak λc w h0 h1 h2 hq=>by simp only[h1];omega,g1,g',g3,g4,g5,g6,g7,g8,g9⟩⟩
theorem iJ.TF {n:SH}{pv ov lv hv gv ev fv sv wv:AV}{d:SD}(h:iJ n pv ov lv hv gv ev fv sv wv d):∃o r,n.Perm (o++r)/\Gr 1 fv (nR d.fi) o/\∀fv' l' o',Gr 1 fv' (nR l') o'->iJ (o'++r) pv ov lv hv gv ev fv' sv wv { d with fi:=l' }:=by
 obtain⟨o1,o2,o3,o4,o5,o6,o7,o8,o9,j,hp,g1,g2,g3,g4,g5,g6,g7,g8,g9⟩:=h.ex
 refine⟨o7,o1++(o2++(o3++(o4++(o5++(o6++(o8++(o9++j))))))),ak λc w h0 h1 h2 hq=>by rw[hq _ _ hp];simp only[h1];omega,g7,λv' l' o' g'=>⟨o1,o2,o3,o4,o5,o6,o',o8,o9,j,ak λc w h0 h1 h2 hq=>by simp only[h1];omega,g1,g2,g3,g4,g5,g6,g',g8,g9⟩⟩
theorem iJ.U9 {n:SH}{pv ov lv hv gv ev fv sv wv:AV}{d:SD}(h:iJ n pv ov lv hv gv ev fv sv wv d){p:Nat}(hp:p<d.lb.length):∃b c L T x bX oi r,lv=.slice (some ⟨b,0,0⟩) L.length c true 1/\p<L.length/\L[p]?=some [x]/\d.lb[p]?=some bX/\Gr 1 x (nR bX) oi/\n.Perm ((b,.r false (L++T) 1)::(oi++r)) /\
  ∀x' cQ eA,Gr 1 x' (nR cQ) eA->iJ ((b,.r false ((L++T).set p [x']) 1)::(eA++r)) pv ov lv hv gv ev fv sv wv { d with lb:=d.lb.set p cQ }:=by
 obtain⟨o1,o2,o3,o4,o5,o6,o7,o8,o9,j,hq,g1,g2,g3,g4,g5,g6,g7,g8,g9⟩:=h.ex
 obtain⟨L,o',oo,k1,k2,rfl⟩:=g3
 obtain⟨x,bX,oi,r1,e1,e2,e3,e4,e5⟩:=k2.at (p:=p)<|by simpa[lA]using hp
 have hl:=k2.len
 simp only[lA,List.length_map]at hl
 obtain⟨fg,e6,rfl⟩:∃fg,d.lb[p]?=some fg/\bX=nR fg:=by
  rw[lA,List.getElem?_map]at e2
  obtain⟨a,h1,h2⟩:=Option.map_eq_some_iff.1 e2
  exact⟨a,h1,h2.symm⟩
 cases k1 with
 | nil=>rw[<- hl]at hp;exact absurd hp<|Nat.not_lt_zero _
 | zero=>rw[<- hl]at hp;exact absurd hp<|Nat.not_lt_zero _
 | @rows b n0 c L T hn hc hc0=>
  subst hn
  refine⟨b,c,L,T,x,fg,oi,r1++(o1++(o2++(o4++(o5++(o6++(o7++(o8++(o9++j)))))))),rfl,by omega,e1,e6,e3,?_,λx' cQ eA g'=>⟨o1,o2,([(b,HO.r false ((L++T).set p [x']) 1)]++(eA++r1)),o4,o5,o6,o7,o8,o9,j,?_,g1,g2,⟨L.set p [x'],[(b,HO.r false ((L++T).set p [x']) 1)],eA++r1,?_,?_,rfl⟩,g4,g5,g6,g7,g8,g9⟩⟩
  ·exact ak λc w h0 h1 h2 vw=>by rw[vw _ _ hq];simp only[h1,h2,vw _ _ e4,h0];omega
  ·exact ak λc w h0 h1 h2 vw=>by simp only[h1,h2,h0];omega
  ·rw[List.set_append_left _ _ (by omega)]
   exact .rows (by rw[List.length_set]) (by rw[List.length_set];exact hc) hc0
  ·have:=e5 x' (nR cQ) eA g'
   rw[lA,List.map_set]
   exact this
theorem iJ.Uo {n:SH}{pv ov lv hv gv ev fv sv wv:AV}{d:SD}(h:iJ n pv ov lv hv gv ev fv sv wv d){p:Nat}(hp:p<d.hd.length):∃b c L T x bX oi r,hv=.slice (some ⟨b,0,0⟩) L.length c true 1/\p<L.length/\L[p]?=some [x]/\d.hd[p]?=some bX/\Gr 1 x (nR bX) oi/\n.Perm ((b,.r false (L++T) 1)::(oi++r)) /\
  ∀x' cQ eA,Gr 1 x' (nR cQ) eA->iJ ((b,.r false ((L++T).set p [x']) 1)::(eA++r)) pv ov lv hv gv ev fv sv wv { d with hd:=d.hd.set p cQ }:=by
 obtain⟨o1,o2,o3,o4,o5,o6,o7,o8,o9,j,hq,g1,g2,g3,g4,g5,g6,g7,g8,g9⟩:=h.ex
 obtain⟨L,o',oo,k1,k2,rfl⟩:=g4
 obtain⟨x,bX,oi,r1,e1,e2,e3,e4,e5⟩:=k2.at (p:=p)<|by simpa[lA]using hp
 have hl:=k2.len
 simp only[lA,List.length_map]at hl
 obtain⟨fg,e6,rfl⟩:∃fg,d.hd[p]?=some fg/\bX=nR fg:=by
  rw[lA,List.getElem?_map]at e2
  obtain⟨a,h1,h2⟩:=Option.map_eq_some_iff.1 e2
  exact⟨a,h1,h2.symm⟩
 cases k1 with
 | nil=>rw[<- hl]at hp;exact absurd hp<|Nat.not_lt_zero _
 | zero=>rw[<- hl]at hp;exact absurd hp<|Nat.not_lt_zero _
 | @rows b n0 c L T hn hc hc0=>
  subst hn
  refine⟨b,c,L,T,x,fg,oi,r1++(o1++(o2++(o3++(o5++(o6++(o7++(o8++(o9++j)))))))),rfl,by omega,e1,e6,e3,?_,λx' cQ eA g'=>⟨o1,o2,o3,([(b,HO.r false ((L++T).set p [x']) 1)]++(eA++r1)),o5,o6,o7,o8,o9,j,?_,g1,g2,g3,⟨L.set p [x'],[(b,HO.r false ((L++T).set p [x']) 1)],eA++r1,?_,?_,rfl⟩,g5,g6,g7,g8,g9⟩⟩
  ·exact ak λc w h0 h1 h2 vw=>by rw[vw _ _ hq];simp only[h1,h2,vw _ _ e4,h0];omega
  ·exact ak λc w h0 h1 h2 vw=>by simp only[h1,h2,h0];omega
  ·rw[List.set_append_left _ _ (by omega)]
   exact .rows (by rw[List.length_set]) (by rw[List.length_set];exact hc) hc0
  ·have:=e5 x' (nR cQ) eA g'
   rw[lA,List.map_set]
   exact this
theorem iJ.T3 {n:SH}{pv ov lv hv gv ev fv sv wv:AV}{d:SD}(h:iJ n pv ov lv hv gv ev fv sv wv d){p:Nat}(hp:p<d.gr.length):∃b c L T x bX oi r,gv=.slice (some ⟨b,0,0⟩) L.length c true 1/\p<L.length/\L[p]?=some [x]/\d.gr[p]?=some bX/\Gr 1 x (nR bX) oi/\n.Perm ((b,.r false (L++T) 1)::(oi++r)) /\
  ∀x' cQ eA,Gr 1 x' (nR cQ) eA->iJ ((b,.r false ((L++T).set p [x']) 1)::(eA++r)) pv ov lv hv gv ev fv sv wv { d with gr:=d.gr.set p cQ }:=by
 obtain⟨o1,o2,o3,o4,o5,o6,o7,o8,o9,j,hq,g1,g2,g3,g4,g5,g6,g7,g8,g9⟩:=h.ex
 obtain⟨L,o',oo,k1,k2,rfl⟩:=g5
 obtain⟨x,bX,oi,r1,e1,e2,e3,e4,e5⟩:=k2.at (p:=p)<|by simpa[lA]using hp
 have hl:=k2.len
 simp only[lA,List.length_map]at hl
 obtain⟨fg,e6,rfl⟩:∃fg,d.gr[p]?=some fg/\bX=nR fg:=by
  rw[lA,List.getElem?_map]at e2
  obtain⟨a,h1,h2⟩:=Option.map_eq_some_iff.1 e2
  exact⟨a,h1,h2.symm⟩
 cases k1 with
 | nil=>rw[<- hl]at hp;exact absurd hp<|Nat.not_lt_zero _
 | zero=>rw[<- hl]at hp;exact absurd hp<|Nat.not_lt_zero _
 | @rows b n0 c L T hn hc hc0=>
  subst hn
  refine⟨b,c,L,T,x,fg,oi,r1++(o1++(o2++(o3++(o4++(o6++(o7++(o8++(o9++j)))))))),rfl,by omega,e1,e6,e3,?_,λx' cQ eA g'=>⟨o1,o2,o3,o4,([(b,HO.r false ((L++T).set p [x']) 1)]++(eA++r1)),o6,o7,o8,o9,j,?_,g1,g2,g3,g4,⟨L.set p [x'],[(b,HO.r false ((L++T).set p [x']) 1)],eA++r1,?_,?_,rfl⟩,g6,g7,g8,g9⟩⟩
  ·exact ak λc w h0 h1 h2 vw=>by rw[vw _ _ hq];simp only[h1,h2,vw _ _ e4,h0];omega
  ·exact ak λc w h0 h1 h2 vw=>by simp only[h1,h2,h0];omega
  ·rw[List.set_append_left _ _ (by omega)]
   exact .rows (by rw[List.length_set]) (by rw[List.length_set];exact hc) hc0
  ·have:=e5 x' (nR cQ) eA g'
   rw[lA,List.map_set]
   exact this
theorem iJ.TE {n:SH}{pv ov lv hv gv ev fv sv wv:AV}{d:SD}(h:iJ n pv ov lv hv gv ev fv sv wv d){p:Nat}(hp:p<d.ex.length):∃b c L T x bX oi r,ev=.slice (some ⟨b,0,0⟩) L.length c true 1/\p<L.length/\L[p]?=some [x]/\d.ex[p]?=some bX/\Gr 1 x (nR bX) oi/\n.Perm ((b,.r false (L++T) 1)::(oi++r)) /\
  ∀x' cQ eA,Gr 1 x' (nR cQ) eA->iJ ((b,.r false ((L++T).set p [x']) 1)::(eA++r)) pv ov lv hv gv ev fv sv wv { d with ex:=d.ex.set p cQ }:=by
 obtain⟨o1,o2,o3,o4,o5,o6,o7,o8,o9,j,hq,g1,g2,g3,g4,g5,g6,g7,g8,g9⟩:=h.ex
 obtain⟨L,o',oo,k1,k2,rfl⟩:=g6
 obtain⟨x,bX,oi,r1,e1,e2,e3,e4,e5⟩:=k2.at (p:=p)<|by simpa[lA]using hp
 have hl:=k2.len
 simp only[lA,List.length_map]at hl
 obtain⟨fg,e6,rfl⟩:∃fg,d.ex[p]?=some fg/\bX=nR fg:=by
  rw[lA,List.getElem?_map]at e2
  obtain⟨a,h1,h2⟩:=Option.map_eq_some_iff.1 e2
  exact⟨a,h1,h2.symm⟩
 cases k1 with
 | nil=>rw[<- hl]at hp;exact absurd hp<|Nat.not_lt_zero _
 | zero=>rw[<- hl]at hp;exact absurd hp<|Nat.not_lt_zero _
 | @rows b n0 c L T hn hc hc0=>
  subst hn
  refine⟨b,c,L,T,x,fg,oi,r1++(o1++(o2++(o3++(o4++(o5++(o7++(o8++(o9++j)))))))),rfl,by omega,e1,e6,e3,?_,λx' cQ eA g'=>⟨o1,o2,o3,o4,o5,([(b,HO.r false ((L++T).set p [x']) 1)]++(eA++r1)),o7,o8,o9,j,?_,g1,g2,g3,g4,g5,⟨L.set p [x'],[(b,HO.r false ((L++T).set p [x']) 1)],eA++r1,?_,?_,rfl⟩,g7,g8,g9⟩⟩
  ·exact ak λc w h0 h1 h2 vw=>by rw[vw _ _ hq];simp only[h1,h2,vw _ _ e4,h0];omega
  ·exact ak λc w h0 h1 h2 vw=>by simp only[h1,h2,h0];omega
  ·rw[List.set_append_left _ _ (by omega)]
   exact .rows (by rw[List.length_set]) (by rw[List.length_set];exact hc) hc0
  ·have:=e5 x' (nR cQ) eA g'
   rw[lA,List.map_set]
   exact this
def WH (bw:Nat)(d:SD)(t s:SH):Prop:=∃pv ov lv hv gv ev fv sv wv n,s.Perm ((bw,.r false [d.cells pv ov lv hv gv ev fv sv wv] 25)::(n++t))/\iJ n pv ov lv hv gv ev fv sv wv d
theorem iJ.bK {n m:SH}{pv ov lv hv gv ev fv sv wv:AV}{d:SD}(h:iJ n pv ov lv hv gv ev fv sv wv d):iJ (m++n) pv ov lv hv gv ev fv sv wv d:=by
 obtain⟨o1,o2,o3,o4,o5,o6,o7,o8,o9,j,hp,g⟩:=h.ex
 exact⟨o1,o2,o3,o4,o5,o6,o7,o8,o9,m++j,ak λc w h0 h1 h2 hq=>by simp only[h1,hq _ _ hp];omega,g⟩
theorem iJ.perm {n m:SH}{pv ov lv hv gv ev fv sv wv:AV}{d:SD}(h:iJ n pv ov lv hv gv ev fv sv wv d)(CL:n.Perm m):iJ m pv ov lv hv gv ev fv sv wv d:=by
 obtain⟨o1,o2,o3,o4,o5,o6,o7,o8,o9,j,hp,g⟩:=h.ex
 exact⟨o1,o2,o3,o4,o5,o6,o7,o8,o9,j,CL.symm.trans hp,g⟩
theorem WH.perm {bw:Nat}{d:SD}{t s s':SH}(h:WH bw d t s)(hp:s.Perm s'):WH bw d t s':=by
 obtain⟨pv,ov,lv,hv,gv,ev,fv,sv,wv,n,h1,h2⟩:=h
 exact⟨pv,ov,lv,hv,gv,ev,fv,sv,wv,n,hp.symm.trans h1,h2⟩
theorem WH.bK {bw:Nat}{d:SD}{t s m:SH}(h:WH bw d t s):WH bw d t (m++s):=by
 obtain⟨pv,ov,lv,hv,gv,ev,fv,sv,wv,n,h1,h2⟩:=h
 exact⟨pv,ov,lv,hv,gv,ev,fv,sv,wv,m++n,ak λc w h0 pg XI hq=>by simp only[pg,hq _ _ h1,XI];omega,h2.bK⟩
theorem iJ.r {n s:SH}{pv ov lv hv gv ev fv sv wv:AV}{d:SD}(h:iJ n pv ov lv hv gv ev fv sv wv d)(hn:∀p,p∈n->p∈s):mD s pv ov lv hv gv ev fv sv wv d:=by
 obtain⟨o1,o2,o3,o4,o5,o6,o7,o8,o9,j,hp,g1,g2,g3,g4,g5,g6,g7,g8,g9⟩:=h.ex
 have up:∀{o:SH},(∀p,p∈o->p∈o1++(o2++(o3++(o4++(o5++(o6++(o7++(o8++(o9++j)))))))))->∀p,p∈o->p∈s:=λh p Sh=>hn p<|hp.mem_iff.2<|h p Sh
 exact⟨g1.out.src.mono<|up λp h=>by simp[h],g2.out.src.mono<|up λp h=>by simp[h],g3.sl<|up λp h=>by simp[h],g4.sl<|up λp h=>by simp[h],g5.sl<|up λp h=>by simp[h],g6.sl<|up λp h=>by simp[h],
  g7.out.src.mono (up λp h=>by simp[h]),g8.out.src.mono (up λp h=>by simp[h]),g9.out.src.mono (up λp h=>by simp[h])⟩
def Place (bw:Nat)(t s:SH)(w:AV)(bX:List Int)(put:List Int->SD):Prop:=∃b r o sz L row x oi rest,w=.ptr (some ⟨b,r,o⟩)/\s.Perm ((b,.r false L sz)::(oi++(rest++t)))/\L[r]?=some row/\bV 1 (cu o row)=some [x]/\Gr 1 x (nR bX) oi /\
 ∀x' cQ eA,Gr 1 x' (nR cQ) eA->∃row',fK row o [x']=some row'/\WH bw (put cQ) t ((b,.r false (L.set r row') sz)::(eA++(rest++t)))
def SD.ci (d:SD)(z:Int)(p:Nat):Option (List Int × (List Int->SD)):=
 if z=2 then some (d.fi,λl=>{ d with fi:=l })
 else if z=0 then(d.lb[p]?).map λl=>(l,λl'=>{ d with lb:=d.lb.set p l' })
 else if z=1 then(d.hd[p]?).map λl=>(l,λl'=>{ d with hd:=d.hd.set p l' })
 else if z=3 then(d.gr[p]?).map λl=>(l,λl'=>{ d with gr:=d.gr.set p l' })
 else if z=4 then(d.ex[p]?).map λl=>(l,λl'=>{ d with ex:=d.ex.set p l' })
 else none
structure SD.kQ (d:SD):Prop where
 lb:d.lb.length=d.pl.length
 hd:d.hd.length=d.pl.length
 gr:d.gr.length=d.pl.length
 ex:d.ex.length=d.pl.length
theorem Cm {a b:Nat}(h:a<b):binV .geq (.int .i64 (.ofNat a)) (.int .i64 (.ofNat b))=some (.bool false):=by
 show some (AV.bool<|!Nat.blt a b)=_
 rw[bh.2 h];rfl
theorem ry (hB:Base P K F T){bw:Nat}{d:SD}{t:SH}(hs:WH bw d t s)(he:d.kQ){z:Int}{p:Nat}(hp:p<d.pl.length) :
  bB P K (F 136) [.ptr (some ⟨bw,0,0⟩),iv z,.int .i64<|.ofNat p] s (λw s'=>WH bw d t s'/\(match d.ci z p with | some (bX,put)=>Place bw t s' w bX put | none=>w=.ptr none)):=by
 obtain⟨pv,ov,lv,hv,gv,ev,fv,sv,wv,n,h1,h2⟩:=hs
 refine bB.perm h1.symm ?_
 have Sa:∀m,WH bw d t (m++((bw,.r false [d.cells pv ov lv hv gv ev fv sv wv] 25)::(n++t))):=λm=>WH.bK ⟨_,_,_,_,_,_,_,_,_,n,.refl _,h2⟩
 refine hB.f136.dT ?_
 unfold Lf
 refine Wq<|Wv rfl<|Wn ?_
 refine Ws<|Wq<|Wv rfl<|Wh rfl rfl (bb _ _)<|Wn ?_
 by_cases pN:z=2
 ·subst pN
  refine Wd rfl (λ_=>?_)<|λh=>by simp at h
  refine Wq<|Wv rfl<|Wr (.nilchk rfl rfl)<|Wf rfl<|Wf rfl<|Wv rfl<|Wn<|We<|Wm (.tmp rfl .nil) ?_
  refine⟨Sa [],?_⟩
  obtain⟨o,r,k1,k2,k3⟩:=h2.TF
  refine⟨bw,0,6,25,[d.cells pv ov lv hv gv ev fv sv wv],d.cells pv ov lv hv gv ev fv sv wv,fv,o,r,rfl,?_,rfl,rfl,k2,λx' cQ eA g'=>⟨({ d with fi:=cQ }:SD).cells pv ov lv hv gv ev x' sv wv,rfl,?_⟩⟩
  ·exact ak λc w h0 h1 h2 hq=>by simp only[h1,h2,hq _ _ k1];omega
  ·exact⟨pv,ov,lv,hv,gv,ev,x',sv,wv,eA++r,ak λc w h0 h1 h2 hq=>by simp only[h1,h2,List.set];omega,k3 x' cQ eA g'⟩
 ·refine Wd rfl (λh=>absurd (of_decide_eq_true h) pN) (λ_=>Wi ?_)
  have hR:mD ((bw,.r false [d.cells pv ov lv hv gv ev fv sv wv] 25)::(n++t)) pv ov lv hv gv ev fv sv wv d:=h2.r λp hp=>by simp[hp]
  have lp:lenOf pv=some d.pl.length:=by rw[hR.pl.lenOf];simp[Am]
  refine Ws<|Wq<|Wv rfl<|Wj rfl rfl rfl<|Wv rfl ?_
  refine WO.guard rfl (λ_=>Wv rfl ?_)<|λh=>absurd rfl h
  refine WO.guard rfl (λ_=>Wv rfl ?_)<|λh=>absurd rfl h
  refine WO.guard rfl (λ_=>Wr (.nilchk rfl rfl) ?_)<|λh=>absurd rfl h
  refine WO.guard rfl (λ_=>Wf rfl ?_)<|λh=>absurd rfl h
  refine WO.guard rfl (λ_=>Wf rfl ?_)<|λh=>absurd rfl h
  refine WO.guard rfl (λ_=>Wl rfl .here rfl rfl rfl ?_)<|λh=>absurd rfl h
  refine WO.guard rfl (λ_=>Wr (.lenS rfl lp) ?_)<|λh=>absurd rfl h
  refine WO.guard rfl (λ_=>Wj rfl rfl (Cm hp) ?_)<|λh=>absurd rfl h
  refine Wr (.bj rfl rfl)<|Wv rfl ?_
  refine WO.guard rfl (λ_=>Wv rfl ?_)<|λh=>absurd rfl h
  refine WO.guard rfl (λ_=>Wr (.nilchk rfl rfl) ?_)<|λh=>absurd rfl h
  refine WO.guard rfl (λ_=>Wf rfl ?_)<|λh=>absurd rfl h
  refine WO.guard rfl (λ_=>Wl rfl .here rfl rfl rfl ?_)<|λh=>absurd rfl h
  refine WO.guard rfl (λ_=>Ww<|Wc rfl rfl (qQ hB hR ⟨he.lb,he.hd,he.gr,he.ex⟩) ?_)<|λh=>absurd rfl h
  rintro w _ ⟨rfl,m,rfl⟩
  refine WO.guard rfl (λ_=>Wr (.un rfl rfl) ?_)<|λh=>absurd rfl h
  refine Wr (.bj rfl rfl)<|Wn<|Wd rfl (λh=>by cases h)<|λ_=>Wi ?_
  refine Ws<|Wq<|Wv rfl<|Wn<|Wb ?_
  refine Wq<|Wh rfl rfl (bb _ _)<|Wv rfl<|Wn ?_
  by_cases hz0:z=0
  ·subst hz0
   refine Wd rfl (λ_=>?_)<|λh=>by simp at h
   obtain⟨b,c,L,TT,x,bX,oi,r,rfl,k0,k1,k2,k3,k4,k5⟩:=h2.U9 (p:=p) (by rw[he.lb];exact hp)
   refine Wq<|Wv rfl<|Wr (.nilchk rfl rfl)<|Wf rfl<|Wf rfl<|Wl rfl (.app .here) rfl rfl rfl<|Wv rfl<|Wr (.iaddrS rfl rfl k0<|by omega)<|Wv rfl<|Wn<|We<|Wm (.tmp rfl .nil) ?_
   refine⟨Sa m,?_⟩
   have zI:d.ci 0 p=some (bX,λl'=>{ d with lb:=d.lb.set p l' }):=by
    simp[SD.ci,k2]
   rw[zI]
   refine⟨b,p,0,1,L++TT,[x],x,oi,m++((bw,.r false [d.cells pv ov (.slice (some ⟨b,0,0⟩) L.length c true 1) hv gv ev fv sv wv] 25)::r),by rw[show Nat.add 0 p=p from Nat.zero_add p],?_,?_,rfl,k3,λx' cQ eA g'=>⟨[x'],rfl,?_⟩⟩
   ·exact ak λc w h0 h1 h2 hq=>by simp only[h1,h2,hq _ _ k4];omega
   ·rw[List.getElem?_append_left k0];exact k1
   ·exact⟨pv,ov,_,hv,gv,ev,fv,sv,wv,m++((b,.r false ((L++TT).set p [x']) 1)::(eA++r)),(show List.Perm _ ((bw,HO.r false [d.cells pv ov (.slice (some ⟨b,0,0⟩) L.length c true 1) hv gv ev fv sv wv] 25)::((m++((b,.r false ((L++TT).set p [x']) 1)::(eA++r)))++t))from zt),(k5 x' cQ eA g').bK⟩
  refine Wd rfl (λh=>absurd (of_decide_eq_true h) hz0)<|λ_=>?_
  refine Wq<|Wh rfl rfl (bb _ _)<|Wv rfl<|Wn ?_
  by_cases mO:z=1
  ·subst mO
   refine Wd rfl (λ_=>?_)<|λh=>by simp at h
   obtain⟨b,c,L,TT,x,bX,oi,r,rfl,k0,k1,k2,k3,k4,k5⟩:=h2.Uo (p:=p) (by rw[he.hd];exact hp)
   refine Wq<|Wv rfl<|Wr (.nilchk rfl rfl)<|Wf rfl<|Wf rfl<|Wl rfl (.app .here) rfl rfl rfl<|Wv rfl<|Wr (.iaddrS rfl rfl k0<|by omega)<|Wv rfl<|Wn<|We<|Wm (.tmp rfl .nil) ?_
   refine⟨Sa m,?_⟩
   have zI:d.ci 1 p=some (bX,λl'=>{ d with hd:=d.hd.set p l' }):=by
    simp[SD.ci,k2]
   rw[zI]
   refine⟨b,p,0,1,L++TT,[x],x,oi,m++((bw,.r false [d.cells pv ov lv (.slice (some ⟨b,0,0⟩) L.length c true 1) gv ev fv sv wv] 25)::r),by rw[show Nat.add 0 p=p from Nat.zero_add p],?_,?_,rfl,k3,λx' cQ eA g'=>⟨[x'],rfl,?_⟩⟩
   ·exact ak λc w h0 h1 h2 hq=>by simp only[h1,h2,hq _ _ k4];omega
   ·rw[List.getElem?_append_left k0];exact k1
   ·exact⟨pv,ov,lv,_,gv,ev,fv,sv,wv,m++((b,.r false ((L++TT).set p [x']) 1)::(eA++r)),(show List.Perm _ ((bw,HO.r false [d.cells pv ov lv (.slice (some ⟨b,0,0⟩) L.length c true 1) gv ev fv sv wv] 25)::((m++((b,.r false ((L++TT).set p [x']) 1)::(eA++r)))++t))from zt),(k5 x' cQ eA g').bK⟩
  refine Wd rfl (λh=>absurd (of_decide_eq_true h) mO)<|λ_=>?_
  refine Wq<|Wh rfl rfl (bb _ _)<|Wv rfl<|Wn ?_
  by_cases KQ:z=3
  ·subst KQ
   refine Wd rfl (λ_=>?_)<|λh=>by simp at h
   obtain⟨b,c,L,TT,x,bX,oi,r,rfl,k0,k1,k2,k3,k4,k5⟩:=h2.T3 (p:=p) (by rw[he.gr];exact hp)
   refine Wq<|Wv rfl<|Wr (.nilchk rfl rfl)<|Wf rfl<|Wf rfl<|Wl rfl (.app .here) rfl rfl rfl<|Wv rfl<|Wr (.iaddrS rfl rfl k0<|by omega)<|Wv rfl<|Wn<|We<|Wm (.tmp rfl .nil) ?_
   refine⟨Sa m,?_⟩
   have zI:d.ci 3 p=some (bX,λl'=>{ d with gr:=d.gr.set p l' }):=by
    simp[SD.ci,k2]
   rw[zI]
   refine⟨b,p,0,1,L++TT,[x],x,oi,m++((bw,.r false [d.cells pv ov lv hv (.slice (some ⟨b,0,0⟩) L.length c true 1) ev fv sv wv] 25)::r),by rw[show Nat.add 0 p=p from Nat.zero_add p],?_,?_,rfl,k3,λx' cQ eA g'=>⟨[x'],rfl,?_⟩⟩
   ·exact ak λc w h0 h1 h2 hq=>by simp only[h1,h2,hq _ _ k4];omega
   ·rw[List.getElem?_append_left k0];exact k1
   ·exact⟨pv,ov,lv,hv,_,ev,fv,sv,wv,m++((b,.r false ((L++TT).set p [x']) 1)::(eA++r)),(show List.Perm _ ((bw,HO.r false [d.cells pv ov lv hv (.slice (some ⟨b,0,0⟩) L.length c true 1) ev fv sv wv] 25)::((m++((b,.r false ((L++TT).set p [x']) 1)::(eA++r)))++t))from zt),(k5 x' cQ eA g').bK⟩
  refine Wd rfl (λh=>absurd (of_decide_eq_true h) KQ)<|λ_=>?_
  refine Wq<|Wh rfl rfl (bb _ _)<|Wv rfl<|Wn ?_
  by_cases KR:z=4
  ·subst KR
   refine Wd rfl (λ_=>?_)<|λh=>by simp at h
   obtain⟨b,c,L,TT,x,bX,oi,r,rfl,k0,k1,k2,k3,k4,k5⟩:=h2.TE (p:=p) (by rw[he.ex];exact hp)
   refine Wq<|Wv rfl<|Wr (.nilchk rfl rfl)<|Wf rfl<|Wf rfl<|Wl rfl (.app .here) rfl rfl rfl<|Wv rfl<|Wr (.iaddrS rfl rfl k0<|by omega)<|Wv rfl<|Wn<|We<|Wm (.tmp rfl .nil) ?_
   refine⟨Sa m,?_⟩
   have zI:d.ci 4 p=some (bX,λl'=>{ d with ex:=d.ex.set p l' }):=by
    simp[SD.ci,k2]
   rw[zI]
   refine⟨b,p,0,1,L++TT,[x],x,oi,m++((bw,.r false [d.cells pv ov lv hv gv (.slice (some ⟨b,0,0⟩) L.length c true 1) fv sv wv] 25)::r),by rw[show Nat.add 0 p=p from Nat.zero_add p],?_,?_,rfl,k3,λx' cQ eA g'=>⟨[x'],rfl,?_⟩⟩
   ·exact ak λc w h0 h1 h2 hq=>by simp only[h1,h2,hq _ _ k4];omega
   ·rw[List.getElem?_append_left k0];exact k1
   ·exact⟨pv,ov,lv,hv,gv,_,fv,sv,wv,m++((b,.r false ((L++TT).set p [x']) 1)::(eA++r)),(show List.Perm _ ((bw,HO.r false [d.cells pv ov lv hv gv (.slice (some ⟨b,0,0⟩) L.length c true 1) fv sv wv] 25)::((m++((b,.r false ((L++TT).set p [x']) 1)::(eA++r)))++t))from zt),(k5 x' cQ eA g').bK⟩
  refine Wd rfl (λh=>absurd (of_decide_eq_true h) KR)<|λ_=>?_
  refine Wi<|Wq<|Wv rfl<|Wn<|We<|Wm (.tmp rfl .nil) ?_
  refine⟨Sa m,?_⟩
  have zI:d.ci z p=none:=by simp[SD.ci,hz0,mO,pN,KQ,KR]
  rw[zI]
theorem WS.pre {op:AOp}{s':SH}{R:AV->List aD->SH->Prop}(hp:s.Perm s')(h:WS P K op l ds s' R):WS P K op l ds s R:=
 λH0 e H he hH=>h H0 e H he<|hH.perm hp
theorem WP.pre {c:AC}{s':SH}(hp:s.Perm s')(h:WP P K rd nt c l ds s' Qn Qe Qr):WP P K rd nt c l ds s Qn Qe Qr:=
 Wg (λ_ _ h=>h) (λ_ _ h=>h.perm hp) h
theorem WH.fb {bw:Nat}{d:SD}{x t s:SH}(h:WH bw d (x++t) s):WH bw d t s:=by
 obtain⟨pv,ov,lv,hv,gv,ev,fv,sv,wv,n,h1,h2⟩:=h
 exact⟨pv,ov,lv,hv,gv,ev,fv,sv,wv,n++x,ak λc w h0 pg XI hq=>by simp only[pg,hq _ _ h1,XI];omega,(h2.bK (m:=x)).perm (ak λc w h0 h1 h2 _=>by simp only[h1];omega)⟩
theorem Km {n:Int}(h0:0<=n)(h1:n<=4611686018427387904):binV .add (iv n) (.int .i64 (.ofNat 1))=some (iv (n+1)):=by
 obtain⟨k,rfl⟩:=Int.eq_ofNat_of_zero_le h0
 exact bM (a:=k) (b:=1)<|by omega
theorem abl (n:Int):dz (iv n) (iv n)=true:=by
 have:ieq n n=true:=gd.2 rfl
 simp[dz,sameN,same0,keq,this]
theorem WH.perm' {bw:Nat}{d d':SD}{t s:SH}(h:WH bw d t s)(e:d'=d):WH bw d' t s:=e▸h
theorem SD.AW {d:SD}(h1:d.fi.length<=1000)(hn2:∀LL,(LL=d.lb\/LL=d.hd\/LL=d.gr\/LL=d.ex)->LL.length<=1000/\∀bX∈LL,bX.length<=1000){z:Int}{p:Nat}{bX:List Int}{put:List Int->SD}(h:d.ci z p=some (bX,put)):bX.length<=1000:=by
 unfold SD.ci at h
 have key:∀{LL:List (List Int)}{f:List Int->List Int × (List Int->SD)},(LL=d.lb\/LL=d.hd\/LL=d.gr\/LL=d.ex)->(∀l,(f l).1=l)->(LL[p]?).map f=some (bX,put)->bX.length<=1000:=by
  intro LL f hL hf hm
  obtain⟨a,h1,h2⟩:=Option.map_eq_some_iff.1 hm
  have:bX=a:=by rw[<- hf a,h2]
  subst this
  exact(hn2 LL hL).2 _ (List.mem_of_getElem? h1)
 split at h
 ·cases h;exact h1
 ·split at h
  ·exact key (.inl rfl) (λ_=>rfl) h
  ·split at h
   ·exact key (.inr<|.inl rfl) (λ_=>rfl) h
   ·split at h
    ·exact key (.inr<|.inr<|.inl rfl) (λ_=>rfl) h
    ·split at h
     ·exact key (.inr<|.inr<|.inr rfl) (λ_=>rfl) h
     ·cases h
theorem SD.mC {d e:SD}(hd:d.Small)(he:∀_:Unit,(e.fi,e.lb,e.hd,e.gr,e.ex)=(d.fi,d.lb,d.hd,d.gr,d.ex)){z:Int}{p:Nat}{bX:List Int}{put:List Int->SD}(h:e.ci z p=some (bX,put)):bX.length<=1000:=by
 have he:=he ()
 simp only[Prod.mk.injEq]at he
 obtain⟨e1,e2,e3,e4,e5⟩:=he
 refine SD.AW ?_ ?_ h
 ·rw[e1];exact hd.n1.2.2.1
 ·rw[e2,e3,e4,e5];exact hd.n2
def SD.xR (d:SD):SD:={ d with nx:=d.nx+1 }
def SD.DF (d:SD):SD:={ d with nx:=d.nx+1,sp:=d.sp+1 }
def SD.obs (d:SD)(o:OD):SD:={ d with ob:=d.ob++[o] }
def OD.new1 (o:OD)(id:Int):OD:={ o with id:=id }
def OD.new2 (o:OD)(id sp:Int):OD:={ o with id:=id,VK:=true,stamp:=sp }
def SD.add (d:SD)(o:OD)(p:Nat):SD:=
 match (if o.ci=2 then d.DF.obs (o.new2 d.nx d.sp)else d.xR.obs (o.new1 d.nx)).ci o.ci p with
 | some (bX,put)=>put<|bX++[d.nx]
 | none=>if o.ci=2 then d.DF.obs (o.new2 d.nx d.sp)else d.xR.obs (o.new1 d.nx)
theorem Br (hB:Base P K F T){bw:Nat}{d:SD}{t:SH}(hs:WH bw d t s)(hd:d.Small)(he:d.kQ){o:OD}{p:Nat}(hp:p<d.pl.length)(ho:o.owner=.ofNat p)(h1:0<=d.nx/\d.nx<=1000000)(h2:0<=d.sp/\d.sp<=1000000) :
  bB P K (F 105) [.ptr (some ⟨bw,0,0⟩),.agg o.row,.bool false] s (λw s'=>WH bw (d.add o p) t s'):=by
 obtain⟨pv,ov,lv,hv,gv,ev,fv,sv,wv,n,k1,k2⟩:=hs
 refine bB.perm k1.symm ?_
 refine hB.f105.dT ?_
 unfold SB
 refine Wq<|Wa (.box rfl rfl) λb4=>Wn ?_
 refine Wq<|Wv rfl<|Wr (.nilchk rfl rfl)<|Wf rfl<|Wf rfl<|Wl rfl (.there .here) rfl rfl rfl<|Wf rfl<|Ww<|Wt rfl rfl rfl .here rfl rfl<|Wn ?_
 refine Wq<|Wv rfl<|Wr (.nilchk rfl rfl)<|Wf rfl<|Wf rfl<|Wl rfl (.there .here) rfl rfl rfl<|Wj rfl rfl (Km h1.1<|by omega)<|Wr (.nilchk rfl rfl)<|Wf rfl<|Wf rfl<|Ww<|Wt rfl rfl rfl (.there .here) rfl rfl<|Wn ?_
 refine Ws<|Wq<|Wf rfl<|Wl rfl .here rfl rfl rfl<|Wh rfl rfl (bb _ _)<|Wn ?_
 by_cases hz:o.ci=2
 ·refine Wd rfl (λ_=>?_) (λh=>absurd hz<|of_decide_eq_false h)
  refine Ws<|WP.bD<|Dp (.mv rfl)<|Dp (.nilchk rfl rfl)<|Dp (.faddr rfl)<|Dp (.faddr rfl)<|WD.lk rfl .nil (.load rfl (.there .here) rfl rfl rfl)<|Dp (.faddr rfl)<|Dc .nil<|Wt rfl rfl rfl .here rfl rfl<|Dp (.faddr rfl)<|Dc .nil<|Wt rfl rfl rfl .here rfl rfl<|D0 .nil ?_ ?_
  rotate_left
  ·intro o ho
   rw[List.mem_singleton.1 ho]
   refine⟨(λi hi=>nomatch hi),Nat.zero_le _,abl _,λk _ hk=>?_⟩
   rcases cD hk with rfl|rfl
   ·exact⟨_,rfl,.load rfl (.there .here) rfl rfl rfl⟩
   ·exact⟨_,rfl,.load rfl (.there .here) rfl rfl rfl⟩
  refine Wo<|Wv rfl<|Wr (.nilchk rfl rfl)<|Wf rfl<|Wf rfl<|Wl rfl (.there .here) rfl rfl rfl<|Wj rfl rfl (Km h2.1<|by omega)<|Wr (.nilchk rfl rfl)<|Wf rfl<|Wf rfl<|Ww<|Wt rfl rfl rfl (.there .here) rfl rfl<|Wn ?_
  refine Wg (s':=(b4,.r false [(o.new2 d.nx d.sp).row] 14)::(bw,.r false [d.DF.cells pv ov lv hv gv ev fv sv wv] 25)::(n++t)) (λ_ _ h=>h) (λ_ _ h=>h) ?_
  obtain⟨oo,r,e1,e2,e3⟩:=k2.xS
  refine Ws<|WP.fd λb'=>?_
  refine Dp (.mv rfl)<|Dp (.mv rfl)<|Dp (.nilchk rfl rfl)<|Dp (.faddr rfl)<|Dp (.faddr rfl)<|Dl rfl .nil (.load rfl (.there<|.there .here) rfl rfl rfl)<|Dl rfl .nil (.load rfl (.there .here) rfl rfl rfl)<|WD.al (.bslice (L:=[(o.new2 d.nx d.sp).row]) (fZ rfl rfl) rfl) rfl ?_
  refine Dc (.yes rfl rfl .here .nil)<|WS.pre (s':=[(b',.r false [(o.new2 d.nx d.sp).row] 14),(b4,.r false [(o.new2 d.nx d.sp).row] 14),(bw,.r false [d.DF.cells pv ov lv hv gv ev fv sv wv] 25)]++(oo++(r++t))) (ak λc w h0 h1 h2 hq=>by simp only[h1,h2,h0,hq _ _ e1];omega)<|WS.append_gr rfl e2 rfl (Src.all (L:=[(o.new2 d.nx d.sp).row]) .here) (by omega) (by have:=hd.n1;simp only[fy,List.length_map];omega) (by omega) λv' o' j hG=>?_
  refine Dp (.nilchk rfl rfl)<|Dp (.faddr rfl)<|Dp (.faddr rfl)<|Dc .nil<|Wt rfl rfl hG.part (.app<|.there<|.there .here) rfl rfl<|D0 .nil ?_<|λo h=>nomatch h
  have pI:Gr 14 v' (fy<|d.ob++[(o.new2 d.nx d.sp)]) o':=by
   have:fy (d.ob++[(o.new2 d.nx d.sp)])=fy d.ob++[(o.new2 d.nx d.sp).row]:=by simp[fy]
   rw[this];exact hG
  have k3:=e3 v' (d.ob++[(o.new2 d.nx d.sp)]) o' pI
  have hW:WH bw (d.DF.obs<|o.new2 d.nx d.sp) ([(b4,.r false [(o.new2 d.nx d.sp).row] 14)]++t) (o'++([(b',.r false [(o.new2 d.nx d.sp).row] 14),(b4,.r false [(o.new2 d.nx d.sp).row] 14),(bw,.r false [(d.DF.obs<|o.new2 d.nx d.sp).cells pv v' lv hv gv ev fv sv wv] 25)]++(j++(r++t)))):=
   ⟨pv,v',lv,hv,gv,ev,fv,sv,wv,[(b',.r false [(o.new2 d.nx d.sp).row] 14)]++(j++(o'++r)),zt,(show iJ _ pv v' lv hv gv ev fv sv wv (d.DF.obs<|o.new2 d.nx d.sp) from⟨((k3.bK (m:=j)).bK (m:=[(b',.r false [(o.new2 d.nx d.sp).row] 14)])).ex⟩)⟩
  have hE:(d.DF.obs<|o.new2 d.nx d.sp).kQ:=⟨he.lb,he.hd,he.gr,he.ex⟩
  refine Wg (s':=o'++([(b',.r false [(o.new2 d.nx d.sp).row] 14),(b4,.r false [(o.new2 d.nx d.sp).row] 14),(bw,.r false [(d.DF.obs<|o.new2 d.nx d.sp).cells pv v' lv hv gv ev fv sv wv] 25)]++(j++(r++t)))) (λ_ _ h=>h) (λ_ _ h=>h) ?_
  refine Wq<|Wv rfl<|Wf rfl<|Wl rfl (.app<|.there .here) rfl rfl rfl<|Wf rfl<|Wl rfl (.app<|.there .here) rfl rfl rfl<|Ww<|Wc (vs:=[.ptr (some ⟨bw,0,0⟩),iv o.ci,.int .i64<|.ofNat p]) rfl (by rw[<- ho];rfl) (ry hB hW hE (z:=o.ci) hp) ?_
  rintro w5 s5 ⟨q1,q2⟩
  refine Wv rfl<|Wn<|Wb ?_
  cases nh:(d.DF.obs<|o.new2 d.nx d.sp).ci o.ci p with
  | none=>
   rw[nh]at q2
   have q2:w5=.ptr none:=q2
   subst q2
   refine Wq<|Wv rfl<|Wh (b:=true) rfl rfl rfl<|Wv rfl<|Wn<|Wd rfl (λ_=>Wi<|Wm .nil ?_)<|λh=>by cases h
   refine q1.fb.perm' ?_
   simp only[SD.add,if_pos hz,nh]
  | some x5=>
   obtain⟨bX,put⟩:=x5
   rw[nh]at q2
   obtain⟨b,r5,o5,sz,L,row,x,oi,rest,rfl,p1,p2,p3,p4,p5⟩:=q2
   refine Wq<|Wv rfl<|Wh (b:=false) rfl rfl rfl<|Wv rfl<|Wn<|Wd rfl (λh=>by cases h)<|λ_=>?_
   refine Wq<|Wv rfl<|Wv rfl<|Wn<|Wd rfl (λh=>by cases h)<|λ_=>?_
   refine WP.pre p1<|WP.fd λb6=>?_
   refine Dp (.mv rfl)<|Dp (.mv rfl)<|Dp (.nilchk rfl rfl)<|Dl rfl .nil (.load rfl (.there .here) p2 p3 rfl)<|Dp (.faddr rfl)<|Dl rfl .nil (.load rfl (.there<|.there<|.app<|.app .here) rfl rfl rfl)<|WD.al (.bslice (L:=[[iv d.nx]]) (fZ rfl rfl) rfl) rfl ?_
   refine Dc (.yes rfl rfl .here .nil)<|WS.pre (s':=[(b6,.r false [[iv d.nx]] 1),(b,.r false L sz)]++(oi++(rest++([(b4,.r false [(o.new2 d.nx d.sp).row] 14)]++t)))) (zt)<|WS.append_gr rfl p4 rfl (Src.all (L:=[[iv d.nx]]) .here) (by omega) (by simp only[nR,List.length_map];exact Nat.le_trans (Nat.add_le_add_right (SD.mC (e:=d.DF.obs<|o.new2 d.nx d.sp) hd (λ_=>rfl) nh) 1)<|by omega) (by omega) λv7 o7 j7 T6=>?_
   have XQ:Gr 1 v7 (nR<|bX++[d.nx]) o7:=by
    have:nR (bX++[d.nx])=nR bX++[[iv d.nx]]:=by simp[nR]
    rw[this];exact T6
   obtain⟨row',u1,u2⟩:=p5 v7 (bX++[d.nx]) o7 XQ
   refine Dp (.nilchk rfl rfl)<|Dc .nil<|Wt rfl rfl T6.part (.app<|.there .here) p2 u1<|D0 .nil (Wm .nil ?_)<|λo h=>nomatch h
   have:=((u2.bK (m:=[(b6,.r false [[iv d.nx]] 1)]++j7)).perm (s':=o7++([(b6,.r false [[iv d.nx]] 1),(b,.r false (L.set r5 row') sz)]++(j7++(rest++([(b4,.r false [(o.new2 d.nx d.sp).row] 14)]++t))))) (zt)).fb
   have e9:d.add o p=put (bX++[d.nx]):=by simp only[SD.add,if_pos hz,nh]
   rw[e9]
   exact this
 ·refine Wd rfl (λh=>absurd (of_decide_eq_true h) hz) (λ_=>Wi ?_)
  refine Wg (s':=(b4,.r false [(o.new1 d.nx).row] 14)::(bw,.r false [d.xR.cells pv ov lv hv gv ev fv sv wv] 25)::(n++t)) (λ_ _ h=>h) (λ_ _ h=>h) ?_
  obtain⟨oo,r,e1,e2,e3⟩:=k2.xS
  refine Ws<|WP.fd λb'=>?_
  refine Dp (.mv rfl)<|Dp (.mv rfl)<|Dp (.nilchk rfl rfl)<|Dp (.faddr rfl)<|Dp (.faddr rfl)<|Dl rfl .nil (.load rfl (.there<|.there .here) rfl rfl rfl)<|Dl rfl .nil (.load rfl (.there .here) rfl rfl rfl)<|WD.al (.bslice (L:=[(o.new1 d.nx).row]) (fZ rfl rfl) rfl) rfl ?_
  refine Dc (.yes rfl rfl .here .nil)<|WS.pre (s':=[(b',.r false [(o.new1 d.nx).row] 14),(b4,.r false [(o.new1 d.nx).row] 14),(bw,.r false [d.xR.cells pv ov lv hv gv ev fv sv wv] 25)]++(oo++(r++t))) (ak λc w h0 h1 h2 hq=>by simp only[h1,h2,h0,hq _ _ e1];omega)<|WS.append_gr rfl e2 rfl (Src.all (L:=[(o.new1 d.nx).row]) .here) (by omega) (by have:=hd.n1;simp only[fy,List.length_map];omega) (by omega) λv' o' j hG=>?_
  refine Dp (.nilchk rfl rfl)<|Dp (.faddr rfl)<|Dp (.faddr rfl)<|Dc .nil<|Wt rfl rfl hG.part (.app<|.there<|.there .here) rfl rfl<|D0 .nil ?_<|λo h=>nomatch h
  have pI:Gr 14 v' (fy<|d.ob++[(o.new1 d.nx)]) o':=by
   have:fy (d.ob++[(o.new1 d.nx)])=fy d.ob++[(o.new1 d.nx).row]:=by simp[fy]
   rw[this];exact hG
  have k3:=e3 v' (d.ob++[(o.new1 d.nx)]) o' pI
  have hW:WH bw (d.xR.obs<|o.new1 d.nx) ([(b4,.r false [(o.new1 d.nx).row] 14)]++t) (o'++([(b',.r false [(o.new1 d.nx).row] 14),(b4,.r false [(o.new1 d.nx).row] 14),(bw,.r false [(d.xR.obs<|o.new1 d.nx).cells pv v' lv hv gv ev fv sv wv] 25)]++(j++(r++t)))):=
   ⟨pv,v',lv,hv,gv,ev,fv,sv,wv,[(b',.r false [(o.new1 d.nx).row] 14)]++(j++(o'++r)),zt,(show iJ _ pv v' lv hv gv ev fv sv wv (d.xR.obs<|o.new1 d.nx) from⟨((k3.bK (m:=j)).bK (m:=[(b',.r false [(o.new1 d.nx).row] 14)])).ex⟩)⟩
  have hE:(d.xR.obs<|o.new1 d.nx).kQ:=⟨he.lb,he.hd,he.gr,he.ex⟩
  refine Wg (s':=o'++([(b',.r false [(o.new1 d.nx).row] 14),(b4,.r false [(o.new1 d.nx).row] 14),(bw,.r false [(d.xR.obs<|o.new1 d.nx).cells pv v' lv hv gv ev fv sv wv] 25)]++(j++(r++t)))) (λ_ _ h=>h) (λ_ _ h=>h) ?_
  refine Wq<|Wv rfl<|Wf rfl<|Wl rfl (.app<|.there .here) rfl rfl rfl<|Wf rfl<|Wl rfl (.app<|.there .here) rfl rfl rfl<|Ww<|Wc (vs:=[.ptr (some ⟨bw,0,0⟩),iv o.ci,.int .i64<|.ofNat p]) rfl (by rw[<- ho];rfl) (ry hB hW hE (z:=o.ci) hp) ?_
  rintro w5 s5 ⟨q1,q2⟩
  refine Wv rfl<|Wn<|Wb ?_
  cases nh:(d.xR.obs<|o.new1 d.nx).ci o.ci p with
  | none=>
   rw[nh]at q2
   have q2:w5=.ptr none:=q2
   subst q2
   refine Wq<|Wv rfl<|Wh (b:=true) rfl rfl rfl<|Wv rfl<|Wn<|Wd rfl (λ_=>Wi<|Wm .nil ?_)<|λh=>by cases h
   refine q1.fb.perm' ?_
   simp only[SD.add,if_neg hz,nh]
  | some x5=>
   obtain⟨bX,put⟩:=x5
   rw[nh]at q2
   obtain⟨b,r5,o5,sz,L,row,x,oi,rest,rfl,p1,p2,p3,p4,p5⟩:=q2
   refine Wq<|Wv rfl<|Wh (b:=false) rfl rfl rfl<|Wv rfl<|Wn<|Wd rfl (λh=>by cases h)<|λ_=>?_
   refine Wq<|Wv rfl<|Wv rfl<|Wn<|Wd rfl (λh=>by cases h)<|λ_=>?_
   refine WP.pre p1<|WP.fd λb6=>?_
   refine Dp (.mv rfl)<|Dp (.mv rfl)<|Dp (.nilchk rfl rfl)<|Dl rfl .nil (.load rfl (.there .here) p2 p3 rfl)<|Dp (.faddr rfl)<|Dl rfl .nil (.load rfl (.there<|.there<|.app<|.app .here) rfl rfl rfl)<|WD.al (.bslice (L:=[[iv d.nx]]) (fZ rfl rfl) rfl) rfl ?_
   refine Dc (.yes rfl rfl .here .nil)<|WS.pre (s':=[(b6,.r false [[iv d.nx]] 1),(b,.r false L sz)]++(oi++(rest++([(b4,.r false [(o.new1 d.nx).row] 14)]++t)))) (zt)<|WS.append_gr rfl p4 rfl (Src.all (L:=[[iv d.nx]]) .here) (by omega) (by simp only[nR,List.length_map];exact Nat.le_trans (Nat.add_le_add_right (SD.mC (e:=d.xR.obs<|o.new1 d.nx) hd (λ_=>rfl) nh) 1)<|by omega) (by omega) λv7 o7 j7 T6=>?_
   have XQ:Gr 1 v7 (nR<|bX++[d.nx]) o7:=by
    have:nR (bX++[d.nx])=nR bX++[[iv d.nx]]:=by simp[nR]
    rw[this];exact T6
   obtain⟨row',u1,u2⟩:=p5 v7 (bX++[d.nx]) o7 XQ
   refine Dp (.nilchk rfl rfl)<|Dc .nil<|Wt rfl rfl T6.part (.app<|.there .here) p2 u1<|D0 .nil (Wm .nil ?_)<|λo h=>nomatch h
   have:=((u2.bK (m:=[(b6,.r false [[iv d.nx]] 1)]++j7)).perm (s':=o7++([(b6,.r false [[iv d.nx]] 1),(b,.r false (L.set r5 row') sz)]++(j7++(rest++([(b4,.r false [(o.new1 d.nx).row] 14)]++t))))) (zt)).fb
   have e9:d.add o p=put (bX++[d.nx]):=by simp only[SD.add,if_neg hz,nh]
   rw[e9]
   exact this
theorem WP.dA {b:AC}(h:WP P K rd nt b l ds s (λl ds s=>WP P K rd nt (.loop b) l ds s Qn Qe Qr) Qe Qr):WP P K rd nt (.loop b) l ds s Qn Qe Qr:=by
 intro c0 hc H0 e H he hH
 cases c0 with
 | loop b0=>
  simp only[cc,AC.loop.injEq]at hc
  obtain⟨x,e1,ds1,H1,l1,s1,k1,k2,k3,k4⟩:=h b0 hc H0 e H he hH
  cases x with
  | normal=>
   obtain⟨x,e2,ds2,H2,l2,s2,j1,j2,j3,j4⟩:=k4 (.loop b0) (by simp only[cc,hc]) H0 e1 H1 k2 k3
   exact⟨_,_,_,_,_,_,bt.again k1 j1,j2,j3,j4⟩
  | exit i=>exact⟨_,_,_,_,_,_,bt.out k1 (by intro h;cases h),k2,k3,k4⟩
  | ret=>exact⟨_,_,_,_,_,_,bt.out k1 (by intro h;cases h),k2,k3,k4⟩
 | region i ops d=>exact(db hc).elim
 | _=>simp[cc]at hc
theorem Src.part {sz:Nat}{v:AV}{L:List (List AV)}(h:Src s sz v L):partCells 1 v=some [v]:=by
 cases h<;>rfl
variable {j:Nat}{bs:List Nat}{pd:List PD}{d:Option Nat}{op:AOp}{lo hi a:Nat}{rest:List DC}{v:AV}{hs:List SH}{os:List OB}{is:List Nat}
theorem kZ {ops:List Oper}{g:Option (Nat × Bool)}{jj:Nat}{w:Bool}(h:cg ops g=some (some (jj,w))):∃k o,g=some (k,w)/\dJ ops k=some o/\o.dst=some jj:=by
 cases g with
 | none=>cases h
 | some x=>
  obtain⟨k,w'⟩:=x
  unfold cg at h
  dsimp only at h
  split at h
  ·rename_i o ho
   split at h
   ·rename_i d0 Un
    cases h
    exact⟨k,o,rfl,ho,Un⟩
   ·cases h
  ·cases h
theorem mz {ops:Array Oper}{e:Tr AV}{k jj:Nat}{w b:Bool}{o:Oper}(h1:dJ ops.toList k=some o)(h2:o.dst=some jj)(h3:e.get jj=some (.bool b)):wanted e ops (some (k,w))=some (b==w):=by
 unfold wanted
 simp only[h1,h2,h3]
theorem WD.yes {jj:Nat}{w b:Bool}{cls:Ki}(h:WD P K rd (⟨⟨d,op,none⟩,cls,lo,hi,a⟩::rest) j bs pd hs os is l ds s Q)(hj:Go.Ev.lk l jj=some (.bool b):=by rfl)(hb:b=w:=by rfl):WD P K rd (⟨⟨d,op,some (jj,w)⟩,cls,lo,hi,a⟩::rest) j bs pd hs os is l ds s Q:=by
 subst hb
 intro ops aC l0 hd H0 S hS
 obtain⟨d0,r0,rfl,h1,h2,h3,h4,h5,h6,h7,h8⟩:=gF hd
 obtain⟨k,o,g1,g2,g3⟩:=kZ h3
 have hw:wanted S.e ops d0.o.guard=some true:=by
  rw[g1,mz g2 g3<|hS.en _ _ hj,beq_self_eq_true]
 have hd':dcs ops.toList aC j ({ d0 with o:={ d0.o with guard:=none } }::r0)=some (⟨⟨d,op,none⟩,cls,lo,hi,a⟩::rest):=by
  unfold dcs
  simp only[cg,h7,h8,h1,h2,h4,h5,h6]
 obtain⟨n,S',k1,k2⟩:=h ops aC _ hd' H0 S hS
 refine⟨n,S',?_,k2⟩
 obtain⟨S1,j1,j2⟩:=(ah _ _ _ _ _).1 k1
 refine(ah _ _ _ _ _).2 ⟨S1,?_,j2⟩
 rw[<- j1]
 unfold dstep
 simp only[hw]
 rfl
theorem Dy:type_of% @WD.yes:=@WD.yes
theorem WD.skip {jj:Nat}{w b:Bool}{cls:Ki}(h:WD P K rd rest (j+1) bs pd hs os is (pl d .undef l) ds s Q)(hj:Go.Ev.lk l jj=some (.bool b):=by rfl)(hb:(b==w)=false:=by rfl)(hc:(match cls with | .pure=>true | .read=>true | _=>false)=true:=by rfl):WD P K rd (⟨⟨d,op,some (jj,w)⟩,cls,lo,hi,a⟩::rest) j bs pd hs os is l ds s Q:=by
 intro ops aC l0 hd H0 S hS
 obtain⟨d0,r0,rfl,h1,h2,h3,h4,h5,h6,h7,h8⟩:=gF hd
 obtain⟨k,o,g1,g2,g3⟩:=kZ h3
 have hw:wanted S.e ops d0.o.guard=some false:=by
  rw[g1,mz g2 g3<|hS.en _ _ hj,hb]
 obtain⟨n,S',k1,k2⟩:=h ops aC r0 h8 H0 { S with e:=Ev.putO S.e d .undef,j:=Nat.succ S.j } ⟨hS.en.putO d _,hS.ds,hS.hp,by show S.j+1=_;rw[hS.j],hS.bs,hS.pd,hS.hs,hS.os,hS.pi,hS.mi⟩
 refine⟨n,S',(ah _ _ _ _ _).2 ⟨_,?_,k1⟩,k2⟩
 unfold dstep
 simp only[hw,h4,h1]
 cases cls<;>first | rfl | cases hc
theorem Dk:type_of% @WD.skip:=@WD.skip
theorem WD.jm {jj:Nat}{w b:Bool}(hj:Go.Ev.lk l jj=some (.bool b))(hb:(b==w)=false)(h:WD P K rd rest (j+1) bs pd (s::hs) os is (pl d .undef l) ds s Q):WD P K rd (⟨⟨d,op,some (jj,w)⟩,.chain,lo,hi,a⟩::rest) j bs pd hs os is l ds s Q:=by
 intro ops aC l0 hd H0 S hS
 obtain⟨d0,r0,rfl,h1,h2,h3,h4,h5,h6,h7,h8⟩:=gF hd
 obtain⟨k,o,g1,g2,g3⟩:=kZ h3
 have hw:wanted S.e ops d0.o.guard=some false:=by
  rw[g1,mz g2 g3<|hS.en _ _ hj,hb]
 obtain⟨n,S',k1,k2⟩:=h ops aC r0 h8 H0 { S with e:=Ev.putO S.e d .undef,Hs:=S.H::S.Hs,j:=Nat.succ S.j } ⟨hS.en.putO d _,hS.ds,hS.hp,by show S.j+1=_;rw[hS.j],hS.bs,hS.pd,⟨hS.hp,hS.hs⟩,hS.os,hS.pi,hS.mi⟩
 refine⟨n,S',(ah _ _ _ _ _).2 ⟨_,?_,k1⟩,k2⟩
 unfold dstep
 simp only[hw,h4,h1]
theorem WO.yes {jj:Nat}{w b:Bool}{rest:List bS}(h:WO P K (⟨d,op,none⟩::rest) l ds s Q)(hj:Go.Ev.lk l jj=some (.bool b):=by rfl)(hb:b=w:=by rfl):WO P K (⟨d,op,some (jj,w)⟩::rest) l ds s Q:=
 WO.guard hj (λ_=>h) (λh=>absurd hb h)
theorem Wy:type_of% @WO.yes:=@WO.yes
theorem WO.skip {jj:Nat}{w b:Bool}{rest:List bS}(h:WO P K rest (pl d .undef l) ds s Q)(hj:Go.Ev.lk l jj=some (.bool b):=by rfl)(hb:(b==w)=false:=by rfl):WO P K (⟨d,op,some (jj,w)⟩::rest) l ds s Q:=
 WO.guard hj (λh=>by subst h;rw[beq_self_eq_true]at hb;cases hb) (λ_=>h)
theorem Wk:type_of% @WO.skip:=@WO.skip
theorem oV {ops:Array Oper}{e:Tr AV}{k jj:Nat}{w:Bool}{o:Oper}(h1:dJ ops.toList k=some o)(h2:o.dst=some jj)(h3:e.get jj=some .undef):wanted e ops (some (k,w))=some false:=by
 unfold wanted
 simp only[h1,h2,h3]
 rfl
theorem WD.kg {jj:Nat}{w:Bool}{cls:Ki}(hj:Go.Ev.lk l jj=some .undef)(hc:(match cls with | .pure=>true | .read=>true | _=>false)=true)(h:WD P K rd rest (j+1) bs pd hs os is (pl d .undef l) ds s Q):WD P K rd (⟨⟨d,op,some (jj,w)⟩,cls,lo,hi,a⟩::rest) j bs pd hs os is l ds s Q:=by
 intro ops aC l0 hd H0 S hS
 obtain⟨d0,r0,rfl,h1,h2,h3,h4,h5,h6,h7,h8⟩:=gF hd
 obtain⟨k,o,g1,g2,g3⟩:=kZ h3
 have hw:wanted S.e ops d0.o.guard=some false:=by
  rw[g1,oV g2 g3<|hS.en _ _ hj]
 obtain⟨n,S',k1,k2⟩:=h ops aC r0 h8 H0 { S with e:=Ev.putO S.e d .undef,j:=Nat.succ S.j } ⟨hS.en.putO d _,hS.ds,hS.hp,by show S.j+1=_;rw[hS.j],hS.bs,hS.pd,hS.hs,hS.os,hS.pi,hS.mi⟩
 refine⟨n,S',(ah _ _ _ _ _).2 ⟨_,?_,k1⟩,k2⟩
 unfold dstep
 simp only[hw,h4,h1]
 cases cls<;>first | rfl | cases hc
theorem WO.kg {jj:Nat}{w:Bool}{rest:List bS}(hj:Go.Ev.lk l jj=some .undef)(h:WO P K rest (pl d .undef l) ds s Q):WO P K (⟨d,op,some (jj,w)⟩::rest) l ds s Q:=by
 intro nt ops l0 hl H0 e H he hH
 cases l0 with
 | nil=>cases hl
 | cons x l0=>
  obtain⟨c,cs,g1,g2,g3⟩:=(aV _ x l0 _).1 hl
  cases g3
  obtain⟨k,o,hc,ho,hd⟩:∃k o,cOper P nt x=⟨d,op,some (k,w)⟩/\dJ ops.toList k=some o/\o.dst=some jj:=by
   unfold co at g1
   generalize cOper P nt x=z at g1 |-
   obtain⟨d',op',g'⟩:=z
   dsimp only at g1
   split at g1
   ·rename_i g hg
    cases g1
    obtain⟨k,o,rfl,h1,h2⟩:=kZ hg
    exact⟨k,o,rfl,h1,h2⟩
   ·cases g1
  obtain⟨e',ds',H',l',s',j1,j2,j3,j4⟩:=h nt ops l0 g2 H0 (putO e d .undef) H (he.putO d .undef) hH
  exact⟨_,_,_,_,_,fj.pass hc (oV ho hd<|he _ _ hj) j1,j2,j3,j4⟩
theorem Wu:type_of% @WO.kg:=@WO.kg
theorem WD.dm {b:Nat}(k:WD P K rd rest (j+1) bs (⟨j,b,.m []⟩::pd) hs os (j::is) (pl d (.map (some b)) l) ds s Q):WD P K rd (⟨⟨d,.mkmap,none⟩,.dmap,lo,hi,a⟩::rest) j (b::bs) pd hs os is l ds s Q:=by
 refine WD.step rfl ?_ k
 intro ops aC d0 H0 S h1 h2 h3 h4 h5 h6 h7 hS
 obtain⟨rfl,hb⟩:=hS.bs
 refine⟨0,{ S with e:=Ev.putO S.e d<|.map<|some S.cG,j:=Nat.succ S.j,cG:=Nat.succ S.cG,pend:=⟨S.j,S.cG,.map [],0,[]⟩::S.pend },?_,⟨hS.en.putO d _,hS.ds,hS.hp,by show S.j+1=_;rw[hS.j],hb,⟨⟨hS.j,rfl,(λh=>by cases h),rfl⟩,hS.pd⟩,hS.hs,hS.os,λp hp=>?_,λp hp=>List.mem_cons_of_mem _<|hS.mi p hp⟩⟩
 ·unfold dstep
  rw[h3,h4]
  simp only[wanted,h2,allocOf,h1]
 ·cases hp with
  | head=>rw[show(⟨S.j,S.cG,.map [],0,[]⟩:aF).i=j from hS.j];exact List.mem_cons_self ..
  | tail _ hp=>exact List.mem_cons_of_mem _<|hS.pi p hp
theorem WD.gV {b i:Nat}{lit:Bool}{kk:px}{m q x:Operand}{kv vv:AV}{es:List (AV × AV)}(hm:opl l m=some (.map (some b)))(hk:opl l q=some kv)(hx:opl l x=some vv)(ha:bit a i=true)(hl:lookIn kk kv es=some none)(hp:primEq kk kv kv=some true)
  (k:WD P K rd rest (j+1) bs [⟨i,b,.m<|bI es [(kv,vv)]⟩] hs os is (pl d .undef l) ds s Q):WD P K rd (⟨⟨d,.ins lit kk m q x,none⟩,.d4,lo,hi,a⟩::rest) j bs [⟨i,b,.m es⟩] hs os is l ds s Q:=by
 refine WD.step rfl ?_ k
 intro ops aC d0 H0 S h1 h2 h3 h4 h5 h6 h7 hS
 obtain⟨p,YR,q1,q2,q3,q4⟩:∃p,S.pend=[p]/\p.i=i/\p.id=b/\p.o=.map es/\p.i∈is:=by
  have h:=hS.pd
  have tj:=hS.pi
  cases YT:S.pend with
  | nil=>rw[YT]at h;exact h.elim
  | cons p ps=>
   rw[YT]at h
   cases ps with
   | nil=>
    obtain⟨⟨w1,w2,w3,w4⟩,_⟩:=h
    exact⟨p,rfl,w1,w2,Option.some.inj w4,tj p (by rw[YT];exact List.mem_cons_self ..)⟩
   | cons _ _=>exact h.2.elim
 refine⟨0,{ S with e:=Ev.putO S.e d .undef,j:=Nat.succ S.j,pend:=[⟨p.i,p.id,.map<|bI es [(kv,vv)],Nat.lor p.ins<|Nat.shiftLeft 1 j,bI p.kP [(j,kv,vv)]⟩] },?_,⟨hS.en.putO d _,hS.ds,hS.hp,by show S.j+1=_;rw[hS.j],hS.bs,⟨⟨q1,q2,(λh=>by cases h),rfl⟩,trivial⟩,hS.hs,hS.os,λp' CL=>?_,hS.mi⟩⟩
 ·have CE:ib kk kv vv b j a [p]=some (true,[⟨p.i,p.id,.map<|bI es [(kv,vv)],Nat.lor p.ins<|Nat.shiftLeft 1 j,bI p.kP [(j,kv,vv)]⟩]):=by
   unfold ib
   refine(ah _ _ _ _ _).2 ⟨_,?_,rfl⟩
   rw[q2,dn,q1,ha,q3]
   dsimp only
   rw[hl]
   dsimp only
   rw[hp]
  unfold dstep
  rw[h3,h4,hS.j]
  simp only[wanted,h7,h2,aG hS.en hm,aG hS.en hk,aG hS.en hx,YR,CE,h1]
  try rw[hS.j]
 ·rw[List.mem_singleton.1 CL]
  exact q4
@[reducible] def evRow (k a b n m:Int)(it:ID):List AV:=[iv k,iv a,iv b,iv n,iv m,nilS,iv it.id,iv it.kind,iv it.aQ,iv it.obj,iv it.gE,iv it.Tk,nilS]
set_option maxRecDepth 4000
theorem ji (b r o:Nat):dz (.ptr (some ⟨b,r,o⟩)) (.ptr (some ⟨b,r,o⟩))=true:=by
 simp[dz,sameN,same0]
theorem fN {p:Nat × HO}{x n s:SH}(h:x=n++s):p::x=(p::n)++s:=by rw[h];rfl
theorem yg {p:Nat × HO}{s:SH}:p::s=[p]++s:=rfl
theorem xk {l:Sl}{sz:Nat}{x y z:Operand}{u v w:AV}{cs es fs:List AV}(hx:opl l x=some u)(hc:partCells sz u=some cs)(hy:opl l y=some v)(he:partCells sz v=some es)(hz:opl l z=some w)(hf:partCells sz w=some fs):bsrows l sz 0 [(0,x),(1,y),(2,z)]=some [cs,es,fs]:=by
 simp[bsrows,hx,hc,hy,he,hz,hf]
def pY (p:Nat)(b n m:Int):OD:=⟨0,b,.ofNat p,.ofNat p,n,false,false,decide (m=1),0,0,0,0,false⟩
theorem B1 (hB:Base P K F T){bw bx p:Nat}{d:SD}{t:SH}(hs:WH bw d t s)(hx:Has bx (.r false [[.ptr (some ⟨bw,0,0⟩)]] 1) t)(hd:d.Small)(he:d.kQ)(hp:p<d.pl.length){b n m:Int}{it:ID}(h1:0<=d.nx/\d.nx<=1000000)(h2:0<=d.sp/\d.sp<=1000000) :
  bB P K (F 265) [.agg (evRow 1 (.ofNat p) b n m it),.ptr<|some ⟨bx,0,0⟩] s (λ_ s'=>WH bw (d.add (pY p b n m) p) t s'):=by
 obtain⟨pv,ov,lv,hv,gv,ev,fv,sv,wv,nn,k1,k2⟩:=hs
 refine bB.perm k1.symm ?_
 refine hB.f265.dT ?_
 unfold Td
 refine Wq<|Wa (.box rfl rfl) λb2=>Wn ?_
 have hW:WH bw d t ((b2,.r false [evRow 1 (.ofNat p) b n m it] 13)::(bw,.r false [d.cells pv ov lv hv gv ev fv sv wv] 25)::(nn++t)):=WH.bK (m:=[_]) ⟨pv,ov,lv,hv,gv,ev,fv,sv,wv,nn,.refl _,k2⟩
 refine Wo<|Wl rfl (.there<|.there<|.app hx) rfl rfl rfl<|Wf rfl<|Wl rfl .here rfl rfl rfl<|Wf rfl<|Wl rfl .here rfl rfl rfl<|Wf rfl<|Wl rfl .here rfl rfl rfl<|Wf rfl<|Wl rfl .here rfl rfl rfl<|Wf rfl<|Wl rfl .here rfl rfl rfl<|Wh rfl rfl (bb _ _)<|Wr (.build rfl rfl)<|Ww<|Wz [.ptr (some ⟨bw,0,0⟩),.agg (pY p b n m).row,.bool false] rfl rfl (Br hB hW hd he hp rfl h1 h2) ?_
 intro w s' hw
 exact Wn<|Wm .nil hw
theorem yh {p q r:Nat × HO}{s:SH}:p::q::r::s=[p,q,r]++s:=rfl
theorem tS (hB:Base P K F T){k a b n m:Int}{it:ID}:bB P K (F 165) [.agg (evRow k a b n m it)] s (λv s'=>v=.agg (evRow k a b n m it)/\∃m,s'=m++s):=by
 refine hB.f165.dT ?_
 unfold SW
 refine Wq<|Wa (.box rfl rfl) λb1=>Wa (.alloc rfl) λb2=>Wn ?_
 refine Ws<|WP.bD<|Dp (.faddr rfl)<|Dl rfl .nil (.load rfl (.there .here) rfl rfl rfl)<|Dc .nil<|W1 hB.VS.iX ?_
 rintro w _ ⟨rfl,rfl⟩
 refine Dp (.faddr rfl)<|Dp (.faddr rfl)<|WD.lk rfl .nil (.load rfl (.there .here) rfl rfl rfl)<|Dc .nil<|W1 hB.NT.iX ?_
 rintro w _ ⟨rfl,rfl⟩
 refine Dp (.faddr rfl)<|Dc .nil<|Wt rfl rfl rfl (.there .here) rfl rfl<|Dp (.faddr rfl)<|Dp (.faddr rfl)<|Dc .nil<|Wt rfl rfl rfl (.there .here) rfl rfl<|D0 .nil ?_ ?_
 rotate_left
 ·intro o ho
  rw[List.mem_singleton.1 ho]
  refine⟨(λi hi=>nomatch hi),Nat.zero_le _,rfl,λk _ hk=>?_⟩
  rcases cD hk with rfl|rfl
  ·exact⟨_,rfl,.load rfl (.there .here) rfl rfl rfl⟩
  ·exact⟨_,rfl,.load rfl (.there .here) rfl rfl rfl⟩
 refine Wq<|Wl rfl (.there .here) rfl rfl rfl<|Ww<|Wt rfl rfl rfl .here rfl rfl<|Wn<|We<|Wm (.cell rfl hB.t50.1 hB.t50.2 (.inl rfl) .here rfl rfl rfl .nil) ?_
 exact⟨rfl,[_,_],rfl⟩
theorem nA {a b c:List AV}{i n:Nat}(ha:a.length=i)(hb:b.length=n):bV n (cu i (a++(b++c)))=some b:=by
 subst ha hb
 rw[cw,List.drop_left,cK _ _ (by rw[List.length_append];omega),List.take_left]
theorem D7 {a b c b':List AV}{i:Nat}(ha:a.length=i)(hb:b.length=b'.length):fK (a++(b++c)) i b'=some (a++(b'++c)):=by
 subst ha
 unfold fK
 have h1:bV a.length (a++(b++c))=some a:=by rw[cK _ _ (by rw[List.length_append];omega),List.take_left]
 have h2:cu a.length (a++(b++c))=b++c:=by rw[cw,List.drop_left]
 have h3:bV (aK b') (b++c)=some b:=by rw[ar,<- hb,cK _ _ (by rw[List.length_append];omega),List.take_left]
 simp only[h1,h2,h3]
 rw[aN,aN,ar,cw,<- hb,List.drop_left]
theorem Src.sameN {sz:Nat}{v:AV}{L:List (List AV)}(h:Src s sz v L)(n:Nat):Ev.sameN (n+1) v v=true:=by
 cases h with
 | nil=>simp[Ev.sameN,same0]
 | @zero a c sl rw=>cases a<;>simp[Ev.sameN,same0]
 | emp=>rfl
 | rows _ _=>simp[Ev.sameN,same0]
theorem SL.sameN {v:AV}{LL:List (List (List AV))}(h:SL s v LL)(n:Nat):Ev.sameN (n+1) v v=true:=by
 obtain⟨L,h1,_⟩:=h
 exact h1.sameN n
theorem iq (n:Nat)(k:Int):sameN (n+1) (iv k) (iv k)=true:=by
 have:ieq k k=true:=gd.2 rfl
 simp[sameN,same0,keq,this]
theorem J1 (n:Nat)(b:Bool):sameN (n+1) (.bool b) (.bool b)=true:=by simp[sameN,same0]
theorem mD.same {pv ov lv hv gv ev fv sv wv:AV}{d:SD}(h:mD s pv ov lv hv gv ev fv sv wv d):dz (.agg (d.cells pv ov lv hv gv ev fv sv wv)) (.agg (d.cells pv ov lv hv gv ev fv sv wv))=true:=by
 show sameL (sameN 5) _ _=true
 unfold SD.cells
 simp only[sameL,h.pl.sameN,h.ob.sameN,h.lb.sameN,h.hd.sameN,h.gr.sameN,h.ex.sameN,h.fi.sameN,h.st.sameN,h.wa.sameN,iq,J1,Bool.and_true,Bool.true_and]
 rfl
theorem Jx {sc b b' c:List AV}{x:AV}(hs:sc.length=25)(hb:b.length=b'.length):fK (sc++([x]++(b++c))) 26 b'=some (sc++([x]++(b'++c))):=by
 have:=D7 (a:=sc++[x]) (b:=b) (b':=b') (c:=c) (i:=26) (by simp[hs]) hb
 simpa[List.append_assoc]using this
def aH (bl:Nat)(EL:List (List AV))(d:SD)(t s:SH):Prop:=∃sc lv pv ov F8 hv gv ev fv sv wv oL n,s.Perm ((bl,.r false [sc++([lv]++(d.cells pv ov F8 hv gv ev fv sv wv++[]))] 51)::(oL++(n++t)))/\sc.length=25/\Gr 13 lv EL oL/\mD n pv ov F8 hv gv ev fv sv wv d
theorem mD.mono {pv ov lv hv gv ev fv sv wv:AV}{d:SD}{s':SH}(h:mD s pv ov lv hv gv ev fv sv wv d)(hs:∀p,p∈s->p∈s'):mD s' pv ov lv hv gv ev fv sv wv d:=
 ⟨h.pl.mono hs,h.ob.mono hs,h.lb.mono hs,h.hd.mono hs,h.gr.mono hs,h.ex.mono hs,h.fi.mono hs,h.st.mono hs,h.wa.mono hs⟩
theorem zW (hB:Base P K F T){bl:Nat}{EL:List (List AV)}{d d':SD}{t:SH}{k a b n m:Int}{it:ID}(hs:aH bl EL d t s)(hE:EL.length<=1000)
  (hap:∀{pv ov lv hv gv ev fv sv wv:AV}(s:SH),mD s pv ov lv hv gv ev fv sv wv d->bB P K (F 164) [.agg (d.cells pv ov lv hv gv ev fv sv wv),.agg<|evRow k a b n m it] s (λv s'=>∃pv ov lv hv gv ev fv sv wv nn,v=.tuple [.agg (d'.cells pv ov lv hv gv ev fv sv wv),iv 0]/\s'=nn++s/\iJ nn pv ov lv hv gv ev fv sv wv d')) :
  bB P K (F 108) [.ptr (some ⟨bl,0,0⟩),.agg<|evRow k a b n m it] s (λv s'=>v=iv 0/\aH bl (EL++[evRow k a b n m it]) d' t s'):=by
 obtain⟨sc,lv,pv,ov,F8,hv,gv,ev,fv,sv,wv,oL,nn,k1,k2,k3,k4⟩:=hs
 refine bB.perm k1.symm ?_
 refine hB.f108.dT ?_
 unfold SE
 refine Wq<|Wa (.box rfl rfl) λb3=>Wv rfl<|Wn ?_
 refine Ws<|Wq<|Wv rfl<|Wh (b:=false) rfl rfl rfl<|Wn<|Wd rfl (λh=>by cases h)<|λ_=>Wi ?_
 have PT:bV 25 (cu 26<|sc++([lv]++(d.cells pv ov F8 hv gv ev fv sv wv++[])))=some (d.cells pv ov F8 hv gv ev fv sv wv):=by
  have:=nA (a:=sc++[lv]) (b:=d.cells pv ov F8 hv gv ev fv sv wv) (c:=[]) (i:=26) (n:=25) (by simp[k2]) rfl
  rwa [List.append_assoc]at this
 have hl:bV 1 (cu 25<|sc++([lv]++(d.cells pv ov F8 hv gv ev fv sv wv++[])))=some [lv]:=nA k2 rfl
 refine Ws<|WP.fd λb5=>Dp (.mv rfl)<|Dp (.nilchk rfl rfl)<|Dp (.faddr rfl)<|Dl rfl .nil (.load rfl (.there<|.there .here) rfl PT rfl)<|Dl rfl .nil (.load rfl (.there .here) rfl rfl rfl)<|Dc .nil<|W1 (hap _<|k4.mono λp hp=>by simp[hp]) ?_
 rintro w _ ⟨Gz,Gy,nw,Gw,Gl,Gj,Gk,GA,GB,n2,rfl,rfl,g2⟩
 have R9:mD n2 Gz Gy nw Gw Gl Gj Gk GA GB d':=g2.r λp hp=>hp
 refine Dp (.mv rfl)<|Dp (.extract rfl rfl)<|Dp (.extract rfl rfl)<|WD.al (.alloc rfl) rfl<|Dc (.yes (show bit 767 9=true from rfl) rfl (.app .here) .nil)<|Wt rfl rfl rfl (.app .here) rfl rfl<|Dp (.mv rfl)<|D0 .nil ?_<|λo h=>nomatch h
 refine Wg (s':=n2++((b5,.r false [d'.cells Gz Gy nw Gw Gl Gj Gk GA GB] 25)::(b3,.r false [evRow k a b n m it] 13)::(bl,.r false [sc++([lv]++(d.cells pv ov F8 hv gv ev fv sv wv++[]))] 51)::(oL++(nn++t)))) (λ_ _ h=>h) (λ_ _ h=>h) ?_
 refine Ws<|Wq<|Wv rfl<|Wh rfl rfl (bb _ _)<|Wn<|Wd rfl fS<|λ_=>Wi ?_
 refine Ws<|WP.fd λb8=>Dp (.mv rfl)<|Dp (.mv rfl)<|Dp (.mv rfl)<|Dp (.nilchk rfl rfl)<|Dp (.faddr rfl)<|WD.lk rfl .nil (.load rfl (.there<|.app<|.there<|.there .here) rfl hl rfl)<|Dl rfl .nil (.load rfl (.there<|.app<|.there .here) rfl rfl rfl)<|Dc .nil<|W1 (tS hB) ?_
 rintro w _ ⟨rfl,m3,rfl⟩
 refine WD.al (.bslice (L:=[evRow k a b n m it]) (fZ rfl rfl) rfl) rfl ?_
 refine Dc (.yes (show bit 508 8=true from rfl) rfl (.app .here) .nil)<|WS.pre (s':=(m3++((b8,.r false [evRow k a b n m it] 13)::(n2++[(b5,.r false [d'.cells Gz Gy nw Gw Gl Gj Gk GA GB] 25),(b3,.r false [evRow k a b n m it] 13),(bl,.r false [sc++([lv]++(d.cells pv ov F8 hv gv ev fv sv wv++[]))] 51)])))++(oL++(nn++t))) (zt)<|WS.append_gr rfl k3 rfl (Src.all (L:=[evRow k a b n m it])<|.left<|.app .here) (by omega) (by omega) (by omega) λv6 o6 j6 hG=>?_
 refine WD.lk rfl .nil (.load rfl (.app<|.left<|.app<|.there<|.app .here) rfl rfl rfl)<|Dp (.nilchk rfl rfl)<|Dp (.faddr rfl)<|Dc .nil<|Wt rfl rfl hG.part (.app<|.left<|.app<|.there<|.app<|.there<|.there .here) rfl (D7 k2 rfl)<|Dp (.nilchk rfl rfl)<|Dp (.faddr rfl)<|Dc .nil<|Wt rfl rfl rfl (.app<|.left<|.app<|.there<|.app<|.there<|.there .here) rfl (Jx k2 rfl)<|D0 .nil ?_ ?_
 ·refine Wq (Wv rfl<|Wn<|We<|Wm (.tmp rfl .nil) ?_)
  have fin:∀y1 y2 y3,aH bl (EL++[evRow k a b n m it]) d' t (o6++((m3++(y1::(n2++[y2,y3,(bl,.r false [sc++([v6]++(d'.cells Gz Gy nw Gw Gl Gj Gk GA GB++[]))] 51)])))++(j6++(nn++t)))):=λy1 y2 y3=>
   ⟨sc,v6,Gz,Gy,nw,Gw,Gl,Gj,Gk,GA,GB,o6,n2++(m3++(y1::y2::y3::(j6++nn))),zt,k2,hG,R9.mono λp hp=>by simp[hp]⟩
  exact⟨rfl,fin _ _ _⟩
 ·intro o ho
  rcases List.mem_cons.1 ho with rfl|ho
  ·refine⟨(λi hi=>by rw[List.mem_singleton.1 hi];exact(show bit 0 8=false from rfl)),Nat.zero_le _,R9.same,λk _ hk=>?_⟩
   rcases(by have:k<=3:=hk;omega:k=0\/k=1\/k=2\/k=3)with rfl|rfl|rfl|rfl
   ·exact⟨_,rfl,.load rfl (.there<|.app .here) rfl rfl rfl⟩
   ·exact⟨_,rfl,.load rfl (.app<|.there<|.app .here) rfl rfl rfl⟩
   ·exact⟨_,rfl,.load rfl (.app<|.left<|.app<|.there<|.app .here) rfl rfl rfl⟩
   ·exact⟨_,rfl,.load rfl (.app<|.left<|.app<|.there<|.app .here) rfl rfl rfl⟩
  ·rw[List.mem_singleton.1 ho]
   refine⟨(λi hi=>by rw[List.mem_singleton.1 hi];exact(show bit 28 8=false from rfl)),Nat.zero_le _,k3.out.src.same,λk _ hk=>?_⟩
   rcases cD hk with rfl|rfl
   ·exact⟨_,rfl,.load rfl (.there<|.app<|.there<|.there .here) rfl hl rfl⟩
   ·exact⟨_,rfl,.load rfl (.app<|.there<|.app<|.there<|.there .here) rfl hl rfl⟩
theorem aH.bK {bl:Nat}{EL:List (List AV)}{d:SD}{t s m:SH}(h:aH bl EL d t s):aH bl EL d t (m++s):=by
 obtain⟨sc,lv,pv,ov,F8,hv,gv,ev,fv,sv,wv,oL,nn,k1,k2,k3,k4⟩:=h
 exact⟨sc,lv,pv,ov,F8,hv,gv,ev,fv,sv,wv,oL,nn++m,ak λc w h0 h1 h2 hq=>by simp only[h1,h2,hq _ _ k1];omega,k2,k3,k4.mono λp hp=>by simp[hp]⟩
theorem aH.perm {bl:Nat}{EL:List (List AV)}{d:SD}{t s s':SH}(h:aH bl EL d t s)(hp:s.Perm s'):aH bl EL d t s':=by
 obtain⟨sc,lv,pv,ov,F8,hv,gv,ev,fv,sv,wv,oL,nn,k1,k2,k3,k4⟩:=h
 exact⟨sc,lv,pv,ov,F8,hv,gv,ev,fv,sv,wv,oL,nn,hp.symm.trans k1,k2,k3,k4⟩
theorem aH.fb {bl:Nat}{EL:List (List AV)}{d:SD}{x t s:SH}(h:aH bl EL d (x++t) s):aH bl EL d t s:=by
 obtain⟨sc,lv,pv,ov,F8,hv,gv,ev,fv,sv,wv,oL,nn,k1,k2,k3,k4⟩:=h
 exact⟨sc,lv,pv,ov,F8,hv,gv,ev,fv,sv,wv,oL,nn++x,ak λc w h0 h1 h2 hq=>by simp only[h1,h2,hq _ _ k1];omega,k2,k3,k4.mono λp hp=>by simp[hp]⟩
theorem aH.mem {bl:Nat}{EL:List (List AV)}{d:SD}{t s:SH}(h:aH bl EL d t s){b:Nat}{o:HO}(hb:Has b o t):Has b o s:=by
 obtain⟨sc,lv,pv,ov,F8,hv,gv,ev,fv,sv,wv,oL,nn,k1,k2,k3,k4⟩:=h
 exact .ce<|k1.mem_iff.2<|by simp[hb.mem]
theorem aH.HW {bl:Nat}{EL:List (List AV)}{d:SD}{t s x:SH}(h:aH bl EL d t s):aH bl EL d (x++t) (x++s):=by
 obtain⟨sc,lv,pv,ov,F8,hv,gv,ev,fv,sv,wv,oL,nn,k1,k2,k3,k4⟩:=h
 exact⟨sc,lv,pv,ov,F8,hv,gv,ev,fv,sv,wv,oL,nn,ak λc w h0 h1 h2 hq=>by simp only[h1,h2,hq _ _ k1];omega,k2,k3,k4⟩
theorem Jn (hB:Base P K F T){bl:Nat}{EL:List (List AV)}{d:SD}{t:SH}(hs:aH bl EL d t s)(hd:d.Small) :
  bB P K (F 52) [.ptr (some ⟨bl,0,0⟩)] s (λv s'=>∃m,aH bl EL d (m++t) s'/\∃pv ov lv hv gv ev fv sv wv,v=.agg (d.cells pv ov lv hv gv ev fv sv wv)/\iJ m pv ov lv hv gv ev fv sv wv d):=by
 have hs0:=hs
 obtain⟨sc,lv,pv,ov,F8,hv,gv,ev,fv,sv,wv,oL,nn,k1,k2,k3,k4⟩:=hs
 refine bB.perm k1.symm ?_
 have nr:=hs0.perm k1
 refine hB.f52.dT ?_
 unfold ZY
 have PT:bV 25 (cu 26<|sc++([lv]++(d.cells pv ov F8 hv gv ev fv sv wv++[])))=some (d.cells pv ov F8 hv gv ev fv sv wv):=by
  have:=nA (a:=sc++[lv]) (b:=d.cells pv ov F8 hv gv ev fv sv wv) (c:=[]) (i:=26) (n:=25) (by simp[k2]) rfl
  rwa [List.append_assoc]at this
 refine Wq<|Wa (.alloc rfl) λb2=>Wn ?_
 refine Ws<|Wq<|Wv rfl<|Wh (b:=false) rfl rfl rfl<|Wn<|Wd rfl (λh=>by cases h)<|λ_=>Wi ?_
 refine Wq<|Wv rfl<|Wr (.nilchk rfl rfl)<|Wf rfl<|Wl rfl (.there .here) rfl PT rfl<|Ww<|W1 (mw hB (k4.mono λp hp=>by simp[hp]) hd) ?_
 rintro w _ ⟨Gz,Gy,nw,Gw,Gl,Gj,Gk,GA,GB,n2,rfl,rfl,g2⟩
 refine Ww<|Wt rfl rfl rfl (.app .here) rfl rfl<|Wn<|We<|Wm (.cell rfl hB.t41.1 hB.t41.2 (.inl rfl) (.app .here) rfl rfl rfl .nil) ?_
 exact⟨n2,aH.HW<|aH.bK (m:=[_]) nr,Gz,Gy,nw,Gw,Gl,Gj,Gk,GA,GB,rfl,g2⟩
@[reducible] def bu (bl:Nat)(aZ:AV)(c0 c1 c2 c3 c4:Int)(bE:AV):List AV:=[.ptr (some ⟨bl,0,0⟩),aZ,iv c0,iv c1,iv c2,iv c3,iv c4,bE]
theorem iT (hB:Base P K F T){bf bl:Nat}{aZ bE:AV}{c0 c1 c2 c3 c4:Int}(hf:Has bf (.r false [bu bl aZ c0 c1 c2 c3 c4 bE] 8) s):bB P K (F 24) [.ptr (some ⟨bf,0,0⟩)] s (λv s'=>v=.ptr (some ⟨bl,0,0⟩)/\s'=s):=by
 refine hB.f24.dT ?_
 unfold ZP
 refine Wq<|Wv rfl<|Wn ?_
 refine Ws<|Wq<|Wv rfl<|Wh (b:=false) rfl rfl rfl<|Wn<|Wd rfl (λh=>by cases h)<|λ_=>Wi ?_
 refine Wq<|Wv rfl<|Wr (.nilchk rfl rfl)<|Wf rfl<|Wf rfl<|Wl rfl hf rfl rfl rfl<|Wv rfl<|Wn<|We<|Wm (.tmp rfl .nil) ?_
 exact⟨rfl,rfl⟩
theorem aaI (hB:Base P K F T){bf bl:Nat}{aZ bE:AV}{c0 c1 c2 c3 c4:Int}{EL:List (List AV)}{d:SD}{t:SH}(hs:aH bl EL d t s)(hd:d.Small)(hf:Has bf (.r false [bu bl aZ c0 c1 c2 c3 c4 bE] 8) t) :
  bB P K (F 14) [.ptr (some ⟨bf,0,0⟩)] s (λv s'=>∃m,aH bl EL d (m++t) s'/\∃pv ov lv hv gv ev fv sv wv,v=.agg (d.cells pv ov lv hv gv ev fv sv wv)/\iJ m pv ov lv hv gv ev fv sv wv d):=by
 refine hB.f14.dT ?_
 unfold ZN
 refine Wq<|Wa (.alloc rfl) λb2=>Wn ?_
 have dt:aH bl EL d ([(b2,.r false [cC] 25)]++t) ((b2,.r false [cC] 25)::s):=hs.HW (x:=[_])
 refine Wq<|Wv rfl<|Ww<|W1 (iT hB<|.there<|hs.mem hf) ?_
 rintro w _ ⟨rfl,rfl⟩
 refine Ww<|W1 (Jn hB dt hd) ?_
 rintro w s3 ⟨m,gw,pv,ov,lv,hv,gv,ev,fv,sv,wv,rfl,hR⟩
 obtain⟨sc,nw,Gz,Gy,F8,Gw,Gl,Gj,Gk,GA,GB,oL,nn,k1,k2,k3,k4⟩:=gw
 refine Ww<|WS.pre (s':=[(b2,.r false [cC] 25)]++((bl,.r false [sc++([nw]++(d.cells Gz Gy F8 Gw Gl Gj Gk GA GB++[]))] 51)::(oL++(nn++(m++t))))) (ak λc w h0 h1 h2 hq=>by simp only[h1,h2,h0,hq _ _ k1];omega)<|Wt rfl rfl rfl .here rfl rfl<|Wn<|We<|Wm (.cell rfl hB.t41.1 hB.t41.2 (.inl rfl) .here rfl rfl rfl .nil) ?_
 exact⟨m,aH.bK (m:=[_]) ⟨sc,nw,Gz,Gy,F8,Gw,Gl,Gj,Gk,GA,GB,oL,nn,.refl _,k2,k3,k4⟩,pv,ov,lv,hv,gv,ev,fv,sv,wv,rfl,hR⟩
theorem iU (hB:Base P K F T){bf bl:Nat}{aZ bE:AV}{c0 c1 c2 c3 c4:Int}{EL:List (List AV)}{d:SD}{t:SH}(hs:aH bl EL d t s)(hd:d.Small)(hf:Has bf (.r false [bu bl aZ c0 c1 c2 c3 c4 bE] 8) t) :
  bB P K (F 14) [.ptr (some ⟨bf,0,0⟩)] s (λv s'=>∃m,aH bl EL d (m++t) s'/\∃pv ov lv hv gv ev fv sv wv,v=.agg (d.cells pv ov lv hv gv ev fv sv wv)/\mD m pv ov lv hv gv ev fv sv wv d):=
 (aaI hB hs hd hf).post λv s'⟨m,h1,pv,ov,lv,hv,gv,ev,fv,sv,wv,h2,h3⟩=>⟨m,h1,pv,ov,lv,hv,gv,ev,fv,sv,wv,h2,h3.r λp hp=>hp⟩
theorem cz (hB:Base P K F T){bf bl:Nat}{aZ bE:AV}{c0 c1 c2 c3 c4:Int}{EL:List (List AV)}{d:SD}{t:SH}(hs:aH bl EL d t s)(hd:d.Small)(hf:Has bf (.r false [bu bl aZ c0 c1 c2 c3 c4 bE] 8) t) :
  bB P K (F 14) [.ptr (some ⟨bf,0,0⟩)] s (λv s'=>aH bl EL d t s'/\∃pv ov lv hv gv ev fv sv wv,v=.agg (d.cells pv ov lv hv gv ev fv sv wv)/\mD s' pv ov lv hv gv ev fv sv wv d):=
 (iU hB hs hd hf).post λv s'⟨m,h,pv,ov,lv,hv,gv,ev,fv,sv,wv,KN,hR⟩=>⟨h.fb,pv,ov,lv,hv,gv,ev,fv,sv,wv,KN,hR.mono λp hp=>(h.mem<|.ce<|List.mem_append_left _ hp).mem⟩

end
end Go.Ev
