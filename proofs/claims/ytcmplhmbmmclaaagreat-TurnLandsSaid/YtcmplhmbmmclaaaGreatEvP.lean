/- Walks and rules. Conditions: none. -/
import Derived.Test.YtcmplhmbmmclaaaGreatEvO
set_option linter.unusedVariables false
set_option linter.unusedSectionVars false
namespace Go.Ev
def a8O (F:Nat->FuncId)(T:Nat->TypeId):AC:=(.seq (oN [zm 103 18,zm 104 17,zo 105 (.lenS 104),zo 106 (.arith .lss 103 105)] (.cond 106 .skip (.exit 4))) (.seq (.block 5 (oN [zm 109 17,zm 110 18,zo 111 (.iaddrS 3 109 110),zf 112 0 111,zl 113 112,zo 114 (.eql false .pi 113 (zc 2))] (.cond 114 (.ops [zm 115 12,zo 116 (.arith .sub 115 (zc 1)),zm 12 116]) .skip))) (.ops [zm 107 18,zo 108 (.arith .add 107 (zc 1)),zm 18 108])))
def a8H (F:Nat->FuncId)(T:Nat->TypeId):AC:=(.seq (oN [zm 56 14,zm 57 13,zo 58 (.lenS 57),zo 59 (.arith .lss 56 58)] (.cond 59 .skip (.exit 2))) (.seq (.block 3 (oN [zm 63 9,zm 64 13,zm 65 14,zo 66 (.iaddrS 1 64 65),zl 67 66,oF F 68 37 [63,67],zm 62 68,zo 69 (.extract 62 0),zo 70 (.extract 62 1),zo 15 (.alloc 14 dB),zn (.store 14 15 69),zm 16 70] (oN [zf 71 1 15,zl 72 71,zo 73 (.eql false .pi 72 (zc 0)),zm 74 73,zg 75 (.mv 11) 74 true,zg 76 (.mv 7) 74 true,zg 77 (.eql false .pi 75 76) 74 true,zo 78 (.pick 74 77 (.const (.bool false))),zm 79 78,zg 80 (.mv 8) 79 true,zg 81 (.eql false .pi 80 (zc 2)) 79 true,zg 82 (.mv 81) 79 true,zg 83 (.mv 8) 82 false,zg 84 (.eql false .pi 83 (zc 8)) 82 false,zg 85 (.pick 82 (.const (.bool true)) 84) 79 true,zo 86 (.pick 79 85 (.const (.bool false))),zm 87 86,zg 88 (.iaddrA 2 1 5 (zc 0)) 87 true,zg 89 (.load false 1 88) 87 true,zg 90 (.un .not 89) 87 true,zo 91 (.pick 87 90 (.const (.bool false))),zm 92 91,zg 93 (.iaddrA 2 1 5 (zc 1)) 92 true,zg 94 (.load false 1 93) 92 true,zg 95 (.un .not 94) 92 true,zo 96 (.pick 92 95 (.const (.bool false)))] (.cond 96 (.ops [zm 97 12,zo 98 (.arith .add 97 (zc 1)),zm 12 98]) .skip)))) (.ops [zm 60 14,zo 61 (.arith .add 60 (zc 1)),zm 14 61])))
def a8P (F:Nat->FuncId)(T:Nat->TypeId):AC:=(.seq (oN [zm 49 11,zo 50 (.arith .lss 49 (zc 3))] (.cond 50 .skip (.exit 0))) (.seq (.block 1 (oN [zo 12 (.mv (zc 0))] (oN [zm 53 9,zm 54 11,oF F 55 36 [53,(zc 1),54],zm 13 55] (.seq (oN [zo 14 (.mv (zc 0))] (.block 2 (.loop (a8H F T)))) (oN [zm 99 9,zo 100 (.mkif (T 26) 99),zm 101 11,oF F 102 38 [100,101],zm 17 102] (.seq (oN [zo 18 (.mv (zc 0))] (.block 4 (.loop (a8O F T)))) (oN [zm 117 12,zo 118 (.eql true .pi 117 (zc 0))] (.cond 118 (oN [zo 6 (.mv (.const (.bool false)))] .ret) .skip)))))))) (.ops [zm 51 11,zo 52 (.arith .add 51 (zc 1)),zm 11 52])))
def a8W:List bS:=[⟨(some 21),(.mv (.tmp 1)),none⟩,⟨(some 22),(.arith .rem (.tmp 21) (.const (.int .u8 (.ofNat 3)))),none⟩,⟨(some 23),(.convI .i64 (.tmp 22)),none⟩,⟨(some 24),(.mv (.tmp 1)),none⟩,⟨(some 25),(.arith .quo (.tmp 24) (.const (.int .u8 (.ofNat 3)))),none⟩,⟨(some 26),(.arith .rem (.tmp 25) (.const (.int .u8 (.ofNat 10)))),none⟩,⟨(some 27),(.convI .i64 (.tmp 26)),none⟩,⟨(some 7),(.mv (.tmp 23)),none⟩,⟨(some 8),(.mv (.tmp 27)),none⟩]
def a8X (F:Nat->FuncId):List bS:=[⟨(some 29),(.mv (.tmp 7)),none⟩,⟨(some 30),(.mv (.tmp 8)),none⟩,⟨(some 31),(.mv (.tmp 0)),none⟩,⟨(some 32),(.call (.func (F 35)) [(.const (.bool false)),(.tmp 29),(.tmp 30),(.tmp 31)]),none⟩,⟨(some 28),(.mv (.tmp 32)),none⟩,⟨(some 33),(.extract (.tmp 28) 0),none⟩,⟨(some 34),(.extract (.tmp 28) 1),none⟩,⟨(some 9),(.mv (.tmp 33)),none⟩,⟨(some 10),(.mv (.tmp 34)),none⟩]
def a8Z (F:Nat->FuncId)(T:Nat->TypeId):AC:=(.seq (oN [zm 35 9,zo 36 (.eql false .ptr 35 (.const (.pointer none)))] (.cond 36 (oN [zo 6 (.mv (.const (.bool false)))] .ret) .skip)) (.seq (oN [zo 37 (.iaddrA 2 1 5 (zc 0)),zl 38 37] (.cond 38 (.ops [zm 39 9,zm 40 7,zo 41 (.build mB [⟨0,⟨1,(zc 9)⟩⟩,⟨1,⟨1,40⟩⟩,⟨3,⟨1,(zc 1)⟩⟩]),oF F 42 15 [39,41]]) .skip)) (.seq (oN [zo 43 (.iaddrA 2 1 5 (zc 1)),zl 44 43] (.cond 44 (.ops [zm 45 9,zo 46 (.build uv [⟨1,⟨1,(zc 2)⟩⟩]),zo 47 (.build mB [⟨0,⟨1,(zc 15)⟩⟩,⟨6,⟨7,46⟩⟩]),oF F 48 15 [45,47]]) .skip)) (.seq (oN [zo 11 (.mv (zc 0))] (.block 0 (.loop (a8P F T)))) (oN [zo 6 (.mv (.const (.bool true)))] .ret)))))
def abP (p ac ph:Nat)(b0 b1:Bool):Bool:=decide (p=ac)&&(decide (ph=2)||decide (ph=8)) && !b0 && !b1
def P1 (d:SD)(id:Int):Bool:=match d.obj id with | some o=>decide (o.gE=0) | none=>false
def aaj (d:SD)(p ac ph:Nat)(b0 b1:Bool)(l:List Int):Nat:=(l.filter λid=>P1 d id&&abP p ac ph b0 b1).length
section
variable {P:Program}{K:Orc}{rd:Option Nat}{nt:Nat}{l:Sl}{ds:List aD}{s:SH}{Q Qn Qr:Po}{Qe:Nat->Po}{F:Nat->FuncId}{T:Nat->TypeId}{bf bl:Nat}{aZ bE:AV}{c0 c1 c2 c3 c4:Int}{EL:List (List AV)}{d:SD}{t:SH}{tF:TypeId}{g:ED->CH->CH}{C:List CD}{tl:AD->List Nat}
theorem dN (a b:Nat):decide (Int.ofNat a=Int.ofNat b)=decide (a=b):=decide_eq_decide.2 ⟨λh=>Int.ofNat.inj h,λh=>by rw[h]⟩
theorem ab0 (hE:GE P K F T tF g C d){m:SH}{ac ph b5 p:Nat}{vz:AV}{bX:List Int}{b0 b1:Bool}(hs:aH bl EL d (m++t) s)(hf:Has bf (.r false [bu bl aZ c0 c1 c2 c3 c4 bE] 8) t)(hb5:Has b5 (.r false [[.bool b0,.bool b1]] 2) t)(hS:Src m 1 vz (nR bX))(hn:bX.length<=1000)
  (hall:∀id∈bX,∃(o:OD)(k:Nat),d.obj id=some o/\o.gE=.ofNat k)
  (hl:∀x v,lk [(5,.ptr<|some ⟨b5,0,0⟩),(7,iv<|.ofNat ac),(8,iv<|.ofNat ph),(9,.ptr<|some ⟨bf,0,0⟩),(11,iv<|.ofNat p),(12,iv 0),(13,vz)] x=some v->lk l x=some v)
  (hk:∀l2 s2,aH bl EL d (m++t) s2->(∀x v,lk [(5,.ptr<|some ⟨b5,0,0⟩),(7,iv<|.ofNat ac),(8,iv<|.ofNat ph),(9,.ptr<|some ⟨bf,0,0⟩),(11,iv<|.ofNat p),(12,iv<|.ofNat<|aaj d p ac ph b0 b1 bX)] x=some v->lk l2 x=some v)->Qn l2 [] s2) :
  WP P K none 119 (oN [zo 14 (.mv<|zc 0)]<|.block 2<|.loop<|a8H F T) l [] s Qn Qe Qr:=by
 refine Wg hl (λ_ _ h=>h) ?_
 have hlen:lenOf vz=some bX.length:=by rw[hS.lenOf,gq]
 refine Wq<|Wv rfl<|Wn<|Wb ?_
 unfold a8H
 refine Wp (λkk l ds s'=>ds=[]/\∃i w,kk=bX.length-i/\i<=bX.length/\w=aaj d p ac ph b0 b1 (bX.take i)/\aH bl EL d (m++t) s'/\∀x v,lk [(5,.ptr<|some ⟨b5,0,0⟩),(7,iv<|.ofNat ac),(8,iv<|.ofNat ph),(9,.ptr<|some ⟨bf,0,0⟩),(11,iv<|.ofNat p),(12,iv<|.ofNat w),(13,vz),(14,iv<|.ofNat i)] x=some v->lk l x=some v) ?_ (n:=bX.length-0)
  ⟨rfl,0,0,rfl,Nat.zero_le _,rfl,hs,cM rfl⟩
 rintro kk l ds s3 ⟨rfl,i,w,rfl,hi,hw,gw,hl⟩
 refine Wg hl (λ_ _ h=>h) ?_
 refine Ws<|Wq<|Wv rfl<|Wv rfl<|Wr (.lenS rfl hlen)<|Wj rfl rfl (eT _ _)<|Wn<|Wd rfl (λht=>Wi ?_)<|λht=>Wx ?_
 ·have hlt:i<bX.length:=Int.ofNat_lt.1 (of_decide_eq_true ht)
  have hx:bX[i]?=some bX[i]:=List.getElem?_eq_getElem hlt
  have KP:bX[i]∈bX:=List.getElem_mem _
  generalize bX[i]=id at hx KP
  obtain⟨o,k,ho,hok⟩:=hall id KP
  have hwn:w<=i:=by
   rw[hw]
   exact Nat.le_trans (List.length_filter_le ..) (by rw[List.length_take];omega)
  have mN:aaj d p ac ph b0 b1 (bX.take<|i+1)=w+if decide (k=0)&&(decide (p=ac)&&(decide (ph=2)||decide (ph=8)) && !b0 && !b1)then 1 else 0:=by
   have hil:P1 d id=decide (k=0):=by
    unfold P1
    rw[ho]
    dsimp only
    rw[hok]
    exact dN k 0
   unfold aaj at hw |-
   rw[List.take_add_one,hx,List.filter_append,List.length_append,<- hw]
   congr 1
   show([id].filter λid=>P1 d id&&abP p ac ph b0 b1).length=_
   rw[List.filter_cons,hil,List.filter_nil]
   show(if(decide (k=0)&&(decide (p=ac)&&(decide (ph=2)||decide (ph=8)) && !b0 && !b1))=true then [id]else []).length=_
   split<;>rfl
  obtain⟨ba,ra,na,ca,J5,Sp,Ma,e4,hba,me,hra⟩:=hS.at (i:=i) (by rw[gq];exact hlt)
  have hrow:Ma[ra+i]?=some [iv id]:=by rw[hra,nR,List.getElem?_map,hx];rfl
  refine Ws<|Wb<|Wq<|Wv rfl<|Wv rfl<|Wv rfl<|Wr (.iaddrS (congrArg some e4) rfl me<|by decide)<|Wl rfl (gw.mem<|.left hba) hrow rfl rfl<|Ww<|Wz [.ptr (some ⟨bf,0,0⟩),iv id] rfl rfl (Qq hE.hB hE.hC gw hE.hd<|.app hf) ?_
  rintro w5 s5 ⟨hv5,tn⟩
  rw[ho]at hv5
  subst hv5
  refine Wv rfl<|Wr (.extract rfl rfl)<|Wr (.extract rfl rfl)<|Wa (.alloc rfl) λb15=>Ww<|Wt (s':=(b15,.r false [o.row] 14)::s5) rfl rfl rfl .here rfl rfl<|Wv rfl<|Wn ?_
  have hcd:bV 1 (cu 1 o.row)=some [iv (.ofNat k)]:=by rw[<- hok];rfl
  have hc0:eqBy 20 .pi (iv<|.ofNat k) (iv 0)=some (decide<|k=0):=(dM _ _).trans (congrArg some<|dN k 0)
  have hpa:eqBy 20 .pi (iv<|.ofNat p) (iv<|.ofNat ac)=some (decide<|p=ac):=(dM _ _).trans (congrArg some<|dN p ac)
  have hh2:eqBy 20 .pi (iv<|.ofNat ph) (iv 2)=some (decide<|ph=2):=(dM _ _).trans (congrArg some<|dN ph 2)
  have hh8:eqBy 20 .pi (iv<|.ofNat ph) (iv 8)=some (decide<|ph=8):=(dM _ _).trans (congrArg some<|dN ph 8)
  have fin:∀{l9:Sl}(w9:Nat),w9=w+(if decide (k=0)&&(decide (p=ac)&&(decide (ph=2)||decide (ph=8)) && !b0 && !b1)then 1 else 0)->(∀x v,lk [(5,.ptr<|some ⟨b5,0,0⟩),(7,iv<|.ofNat ac),(8,iv<|.ofNat ph),(9,.ptr<|some ⟨bf,0,0⟩),(11,iv<|.ofNat p),(12,iv<|.ofNat w9),(13,vz),(14,iv<|.ofNat i),(15,.ptr<|some ⟨b15,0,0⟩)] x=some v->lk l9 x=some v) ->
    WP P K none 119 (.ops [zm 60 14,zo 61<|.arith .add 60<|zc 1,zm 14 61]) l9 [] ((b15,.r false [o.row] 14)::s5) (λl ds s'=>∃m',m'<bX.length-i/\(ds=[]/\∃i w,m'=bX.length-i/\i<=bX.length/\w=aaj d p ac ph b0 b1 (bX.take i)/\aH bl EL d (m++t) s'/\∀x v,lk [(5,.ptr<|some ⟨b5,0,0⟩),(7,iv<|.ofNat ac),(8,iv<|.ofNat ph),(9,.ptr<|some ⟨bf,0,0⟩),(11,iv<|.ofNat p),(12,iv<|.ofNat w),(13,vz),(14,iv<|.ofNat i)] x=some v->lk l x=some v)) (λi l ds s=>match Nat.beq i 2 with | true=>Qn l ds s | false=>Qe i l ds s) Qr:=by
   intro l9 w9 hw9 hl9
   refine Wg hl9 (λ_ _ h=>h) ?_
   refine Wo<|Wv rfl<|Wj rfl rfl (bM<|by omega)<|Wv rfl<|Wn ?_
   exact⟨bX.length-(i+1),by omega,rfl,i+1,w9,rfl,hlt,by rw[mN,hw9],aH.bK (m:=[_]) tn,cM rfl⟩
  refine Wq<|Wf rfl<|Wl rfl .here rfl hcd rfl<|Wh rfl rfl hc0 ?_
  cases hk0:decide (k=0) with
  | false=>
   rw[hk0]at hc0 fin
   refine Wv rfl<|Wk rfl rfl<|Wk rfl rfl<|Wk rfl rfl<|Wr (.bj rfl rfl)<|Wv rfl<|Wk rfl rfl<|Wk rfl rfl<|Wk rfl rfl<|Wu rfl<|Wu rfl<|Wk rfl rfl<|Wr (.bj rfl rfl)<|Wv rfl<|Wk rfl rfl<|Wk rfl rfl<|Wk rfl rfl<|Wr (.bj rfl rfl)<|Wv rfl<|Wk rfl rfl<|Wk rfl rfl<|Wk rfl rfl<|Wr (.bj rfl rfl)<|Wn<|Wd rfl fS<|λ_=>Wi ?_
   exact fin _ (by rfl)<|cM rfl
  | true=>
   rw[hk0]at hc0 fin
   cases adM:decide (p=ac) with
   | false=>
    rw[adM]at hpa fin
    refine Wv rfl<|Wy rfl rfl<|Wv rfl<|Wy rfl rfl<|Wv rfl<|Wy rfl rfl<|Wh rfl rfl hpa<|Wr (.cV rfl rfl)<|Wv rfl<|Wk rfl rfl<|Wk rfl rfl<|Wk rfl rfl<|Wu rfl<|Wu rfl<|Wk rfl rfl<|Wr (.bj rfl rfl)<|Wv rfl<|Wk rfl rfl<|Wk rfl rfl<|Wk rfl rfl<|Wr (.bj rfl rfl)<|Wv rfl<|Wk rfl rfl<|Wk rfl rfl<|Wk rfl rfl<|Wr (.bj rfl rfl)<|Wn<|Wd rfl fS<|λ_=>Wi ?_
    exact fin _ (by rfl)<|cM rfl
   | true=>
    rw[adM]at hpa fin
    cases adC:decide (ph=2) with
    | true=>
     rw[adC]at hh2 fin
     cases b0 with
     | true=>
      refine Wv rfl<|Wy rfl rfl<|Wv rfl<|Wy rfl rfl<|Wv rfl<|Wy rfl rfl<|Wh rfl rfl hpa<|Wr (.cV rfl rfl)<|Wv rfl<|Wy rfl rfl<|Wv rfl<|Wy rfl rfl<|Wh rfl rfl hh2<|Wy rfl rfl<|Wv rfl<|Wk rfl rfl<|Wk rfl rfl<|Wy rfl rfl<|Wr (.cV rfl rfl)<|Wr (.cV rfl rfl)<|Wv rfl<|Wy rfl rfl<|Wr (.iaddrA rfl rfl<|by decide)<|Wy rfl rfl<|Wl rfl (.there<|tn.mem<|.app hb5) rfl rfl rfl<|Wy rfl rfl<|Wr (.un rfl rfl)<|Wr (.cV rfl rfl)<|Wv rfl<|Wk rfl rfl<|Wk rfl rfl<|Wk rfl rfl<|Wr (.bj rfl rfl)<|Wn<|Wd rfl fS<|λ_=>Wi ?_
      exact fin _ (by rfl)<|cM rfl
     | false=>
      cases b1 with
      | true=>
       refine Wv rfl<|Wy rfl rfl<|Wv rfl<|Wy rfl rfl<|Wv rfl<|Wy rfl rfl<|Wh rfl rfl hpa<|Wr (.cV rfl rfl)<|Wv rfl<|Wy rfl rfl<|Wv rfl<|Wy rfl rfl<|Wh rfl rfl hh2<|Wy rfl rfl<|Wv rfl<|Wk rfl rfl<|Wk rfl rfl<|Wy rfl rfl<|Wr (.cV rfl rfl)<|Wr (.cV rfl rfl)<|Wv rfl<|Wy rfl rfl<|Wr (.iaddrA rfl rfl<|by decide)<|Wy rfl rfl<|Wl rfl (.there<|tn.mem<|.app hb5) rfl rfl rfl<|Wy rfl rfl<|Wr (.un rfl rfl)<|Wr (.cV rfl rfl)<|Wv rfl<|Wy rfl rfl<|Wr (.iaddrA rfl rfl<|by decide)<|Wy rfl rfl<|Wl rfl (.there<|tn.mem<|.app hb5) rfl rfl rfl<|Wy rfl rfl<|Wr (.un rfl rfl)<|Wr (.cV rfl rfl)<|Wn<|Wd rfl fS<|λ_=>Wi ?_
       exact fin _ (by rfl)<|cM rfl
      | false=>
       refine Wv rfl<|Wy rfl rfl<|Wv rfl<|Wy rfl rfl<|Wv rfl<|Wy rfl rfl<|Wh rfl rfl hpa<|Wr (.cV rfl rfl)<|Wv rfl<|Wy rfl rfl<|Wv rfl<|Wy rfl rfl<|Wh rfl rfl hh2<|Wy rfl rfl<|Wv rfl<|Wk rfl rfl<|Wk rfl rfl<|Wy rfl rfl<|Wr (.cV rfl rfl)<|Wr (.cV rfl rfl)<|Wv rfl<|Wy rfl rfl<|Wr (.iaddrA rfl rfl<|by decide)<|Wy rfl rfl<|Wl rfl (.there<|tn.mem<|.app hb5) rfl rfl rfl<|Wy rfl rfl<|Wr (.un rfl rfl)<|Wr (.cV rfl rfl)<|Wv rfl<|Wy rfl rfl<|Wr (.iaddrA rfl rfl<|by decide)<|Wy rfl rfl<|Wl rfl (.there<|tn.mem<|.app hb5) rfl rfl rfl<|Wy rfl rfl<|Wr (.un rfl rfl)<|Wr (.cV rfl rfl)<|Wn<|Wd rfl (λ_=>?_) Dz
       exact Wo<|Wv rfl<|Wj rfl rfl (bM<|by omega)<|Wv rfl<|Wn<|fin _ (by rfl)<|cM rfl
    | false=>
     rw[adC]at hh2 fin
     cases adD:decide (ph=8) with
     | true=>
      rw[adD]at hh8 fin
      cases b0 with
      | true=>
       refine Wv rfl<|Wy rfl rfl<|Wv rfl<|Wy rfl rfl<|Wv rfl<|Wy rfl rfl<|Wh rfl rfl hpa<|Wr (.cV rfl rfl)<|Wv rfl<|Wy rfl rfl<|Wv rfl<|Wy rfl rfl<|Wh rfl rfl hh2<|Wy rfl rfl<|Wv rfl<|Wy rfl rfl<|Wv rfl<|Wy rfl rfl<|Wh rfl rfl hh8<|Wy rfl rfl<|Wr (.bj rfl rfl)<|Wr (.cV rfl rfl)<|Wv rfl<|Wy rfl rfl<|Wr (.iaddrA rfl rfl<|by decide)<|Wy rfl rfl<|Wl rfl (.there<|tn.mem<|.app hb5) rfl rfl rfl<|Wy rfl rfl<|Wr (.un rfl rfl)<|Wr (.cV rfl rfl)<|Wv rfl<|Wk rfl rfl<|Wk rfl rfl<|Wk rfl rfl<|Wr (.bj rfl rfl)<|Wn<|Wd rfl fS<|λ_=>Wi ?_
       exact fin _ (by rfl)<|cM rfl
      | false=>
       cases b1 with
       | true=>
        refine Wv rfl<|Wy rfl rfl<|Wv rfl<|Wy rfl rfl<|Wv rfl<|Wy rfl rfl<|Wh rfl rfl hpa<|Wr (.cV rfl rfl)<|Wv rfl<|Wy rfl rfl<|Wv rfl<|Wy rfl rfl<|Wh rfl rfl hh2<|Wy rfl rfl<|Wv rfl<|Wy rfl rfl<|Wv rfl<|Wy rfl rfl<|Wh rfl rfl hh8<|Wy rfl rfl<|Wr (.bj rfl rfl)<|Wr (.cV rfl rfl)<|Wv rfl<|Wy rfl rfl<|Wr (.iaddrA rfl rfl<|by decide)<|Wy rfl rfl<|Wl rfl (.there<|tn.mem<|.app hb5) rfl rfl rfl<|Wy rfl rfl<|Wr (.un rfl rfl)<|Wr (.cV rfl rfl)<|Wv rfl<|Wy rfl rfl<|Wr (.iaddrA rfl rfl<|by decide)<|Wy rfl rfl<|Wl rfl (.there<|tn.mem<|.app hb5) rfl rfl rfl<|Wy rfl rfl<|Wr (.un rfl rfl)<|Wr (.cV rfl rfl)<|Wn<|Wd rfl fS<|λ_=>Wi ?_
        exact fin _ (by rfl)<|cM rfl
       | false=>
        refine Wv rfl<|Wy rfl rfl<|Wv rfl<|Wy rfl rfl<|Wv rfl<|Wy rfl rfl<|Wh rfl rfl hpa<|Wr (.cV rfl rfl)<|Wv rfl<|Wy rfl rfl<|Wv rfl<|Wy rfl rfl<|Wh rfl rfl hh2<|Wy rfl rfl<|Wv rfl<|Wy rfl rfl<|Wv rfl<|Wy rfl rfl<|Wh rfl rfl hh8<|Wy rfl rfl<|Wr (.bj rfl rfl)<|Wr (.cV rfl rfl)<|Wv rfl<|Wy rfl rfl<|Wr (.iaddrA rfl rfl<|by decide)<|Wy rfl rfl<|Wl rfl (.there<|tn.mem<|.app hb5) rfl rfl rfl<|Wy rfl rfl<|Wr (.un rfl rfl)<|Wr (.cV rfl rfl)<|Wv rfl<|Wy rfl rfl<|Wr (.iaddrA rfl rfl<|by decide)<|Wy rfl rfl<|Wl rfl (.there<|tn.mem<|.app hb5) rfl rfl rfl<|Wy rfl rfl<|Wr (.un rfl rfl)<|Wr (.cV rfl rfl)<|Wn<|Wd rfl (λ_=>?_) Dz
        exact Wo<|Wv rfl<|Wj rfl rfl (bM<|by omega)<|Wv rfl<|Wn<|fin _ (by rfl)<|cM rfl
     | false=>
      rw[adD]at hh8 fin
      refine Wv rfl<|Wy rfl rfl<|Wv rfl<|Wy rfl rfl<|Wv rfl<|Wy rfl rfl<|Wh rfl rfl hpa<|Wr (.cV rfl rfl)<|Wv rfl<|Wy rfl rfl<|Wv rfl<|Wy rfl rfl<|Wh rfl rfl hh2<|Wy rfl rfl<|Wv rfl<|Wy rfl rfl<|Wv rfl<|Wy rfl rfl<|Wh rfl rfl hh8<|Wy rfl rfl<|Wr (.bj rfl rfl)<|Wr (.cV rfl rfl)<|Wv rfl<|Wk rfl rfl<|Wk rfl rfl<|Wk rfl rfl<|Wr (.bj rfl rfl)<|Wv rfl<|Wk rfl rfl<|Wk rfl rfl<|Wk rfl rfl<|Wr (.bj rfl rfl)<|Wn<|Wd rfl fS<|λ_=>Wi ?_
      exact fin _ (by rfl)<|cM rfl
 ·have hge:¬i<bX.length:=λh=>of_decide_eq_false ht (Int.ofNat_lt.2 h)
  rw[List.take_of_length_le (by omega)]at hw
  subst hw
  exact hk _ _ gw<|cM rfl
def rq (l:List OT):Nat:=(l.filter λx=>decide (x.k=2)).length
theorem C5 (a b:List OT):rq (a++b)=rq a+rq b:=by unfold rq;rw[List.filter_append,List.length_append]
theorem aaD {l:List OT}(h:∀x∈l,x.k≠2):rq l=0:=by
 unfold rq
 rw[List.filter_eq_nil_iff.2 λx hx=>by simp[h x hx]]
 rfl
structure aaz (d:SD)(C:List CD)(ac ph:Nat)(b0 b1:Bool):Prop where
 small:d.Small
 even:d.kQ
 pl:∀p,p<3->∃lp,d.pl[p]?=some lp/\lp.f1=(decide (p=ac)&&b0)
 hd:∀p,p<3->∃bX,d.hd[p]?=some bX/\bX.length<=20/\∀id∈bX,∃o k c,d.obj id=some o/\o.gE=.ofNat k/\C[k]?=some c
 fi:d.fi.length<=20/\∀id∈d.fi,∃o k c,d.obj id=some o/\o.gE=.ofNat k/\C[k]?=some c
 ac:d.ac=.ofNat ac
 ph:d.ph=.ofNat ph
 st:decide (d.st.length=0)=!b1
theorem ac0 {g:ED->CH->CH}{d:SD}{C:List CD}{tl:AD->List Nat}{p:Nat}{l:List Int}:∀x∈usesT g d C tl p l,x.k=4:=by
 intro x hx
 unfold usesT at hx
 obtain⟨id,_,hx⟩:=List.mem_flatMap.1 hx
 split at hx
 ·split at hx
  ·split at hx
   ·unfold useT at hx
    obtain⟨k,_,hx⟩:=List.mem_filterMap.1 hx
    split at hx
    ·split at hx
     ·cases hx;rfl
     ·cases hx
    ·cases hx
   ·cases hx
  ·cases hx
 ·cases hx
theorem ab4 {g:ED->CH->CH}{d:SD}{C:List CD}{tl:AD->List Nat}{p ac ph:Nat}{b0 b1:Bool}{lp:LD}{bX:List Int}(h:aaz d C ac ph b0 b1)(hC:∀(k:Nat)(c:CD),C[k]?=some c->(c.kind=1↔k=0))(hlp:lp.f1=(decide (p=ac)&&b0))(hl:∀id∈bX,∃o k c,d.obj id=some o/\o.gE=.ofNat k/\C[k]?=some c) :
  rq (aaf g d C tl p lp bX)=aaj d p ac ph b0 b1 bX:=by
 unfold aaf
 rw[C5,C5,aaD (l:=usesT g d C tl p d.fi) λx hx=>by rw[ac0 x hx];decide]
 show 0+(rq _+0)=_
 rw[Nat.zero_add,Nat.add_zero]
 have PT:(ec d (.ofNat p) && !lp.f1)=abP p ac ph b0 b1:=by
  unfold ec abP
  rw[h.ac,h.ph,h.st,hlp,dN,show decide (Int.ofNat ph=2)=decide (ph=2)from dN ph 2,show decide (Int.ofNat ph=8)=decide (ph=8)from dN ph 8]
  cases decide (p=ac)<;>cases decide (ph=2)<;>cases decide (ph=8)<;>cases b0<;>cases b1<;>rfl
 induction bX with
 | nil=>rfl
 | cons id l ih=>
  have ih:=ih λx hx=>hl x<|.tail _ hx
  obtain⟨o,k,c,h1,h2,h3⟩:=hl id<|.head _
  have hil:P1 d id=decide (k=0):=by
   unfold P1
   rw[h1]
   dsimp only
   rw[h2]
   exact dN k 0
  have hca:aaq d C id=some c:=by unfold aaq;rw[h1];dsimp only;rw[h2];exact h3
  have key:rq ([id].filterMap (qb g d C tl p (ec d<|.ofNat p) lp))=(if P1 d id&&abP p ac ph b0 b1 then 1 else 0):=by
   rw[hil,<- PT]
   by_cases hk:k=0
   ·have hkd:=(hC k c h3).2 hk
    have hop:D1 g d C tl c p (ec d<|.ofNat p) lp=if ec d (.ofNat p) && !lp.f1 then 2 else 0:=by unfold D1;rw[if_pos hkd]
    rw[decide_eq_true hk,Bool.true_and]
    cases hm:(ec d (.ofNat p) && !lp.f1) with
    | true=>
     rw[hm]at hop
     have:qb g d C tl p (ec d<|.ofNat p) lp id=some ⟨2,id,0⟩:=by unfold qb;rw[hca];dsimp only;rw[hop];rfl
     rw[List.filterMap_cons_some this];rfl
    | false=>
     rw[hm]at hop
     have:qb g d C tl p (ec d<|.ofNat p) lp id=none:=by unfold qb;rw[hca];dsimp only;rw[hop];rfl
     rw[List.filterMap_cons_none this];rfl
   ·have hkd:¬c.kind=1:=λh=>hk ((hC k c h3).1 h)
    rw[decide_eq_false hk,Bool.false_and]
    have hne:D1 g d C tl c p (ec d<|.ofNat p) lp≠2:=by unfold D1;rw[if_neg hkd];split<;>decide
    by_cases h0:D1 g d C tl c p (ec d<|.ofNat p) lp=0
    ·have:qb g d C tl p (ec d<|.ofNat p) lp id=none:=by unfold qb;rw[hca];dsimp only;rw[if_pos h0]
     rw[List.filterMap_cons_none this];rfl
    ·have:qb g d C tl p (ec d<|.ofNat p) lp id=some ⟨D1 g d C tl c p (ec d<|.ofNat p) lp,id,0⟩:=by unfold qb;rw[hca];dsimp only;rw[if_neg h0]
     rw[List.filterMap_cons_some this]
     exact aaD λx hx=>by rw[List.mem_singleton.1 hx];exact hne
  show rq (([id]++l).filterMap _)=aaj d p ac ph b0 b1 ([id]++l)
  rw[List.filterMap_append,C5,key,ih]
  unfold aaj
  rw[List.filter_append,List.length_append]
  congr 1
  rw[List.filter_cons,List.filter_nil]
  split<;>rfl
theorem ab1 {m:SH}{ac ph b5 p w0:Nat}{vo:AV}{L:List OT}(hs:aH bl EL d (m++t) s)(hS:Src m 3 vo (otR L))(hn:L.length<=1000)(hw0:w0=rq L)
  (hl:∀x v,lk [(5,.ptr<|some ⟨b5,0,0⟩),(7,iv<|.ofNat ac),(8,iv<|.ofNat ph),(9,.ptr<|some ⟨bf,0,0⟩),(11,iv<|.ofNat p),(12,iv<|.ofNat w0),(17,vo)] x=some v->lk l x=some v)
  (hk:∀l2 s2,aH bl EL d t s2->(∀x v,lk [(5,.ptr<|some ⟨b5,0,0⟩),(7,iv<|.ofNat ac),(8,iv<|.ofNat ph),(9,.ptr<|some ⟨bf,0,0⟩),(11,iv<|.ofNat p),(12,iv 0)] x=some v->lk l2 x=some v)->Qn l2 [] s2) :
  WP P K none 119 (oN [zo 18 (.mv<|zc 0)]<|.block 4<|.loop<|a8O F T) l [] s Qn Qe Qr:=by
 refine Wg hl (λ_ _ h=>h) ?_
 have hlen:lenOf vo=some L.length:=by rw[hS.lenOf];simp[otR]
 have dP:rq L<=L.length:=List.length_filter_le ..
 refine Wq<|Wv rfl<|Wn<|Wb ?_
 unfold a8O
 refine Wp (λkk l ds s'=>ds=[]/\∃i w,kk=L.length-i/\i<=L.length/\w+rq (L.take i)=rq L/\aH bl EL d (m++t) s'/\∀x v,lk [(5,.ptr<|some ⟨b5,0,0⟩),(7,iv<|.ofNat ac),(8,iv<|.ofNat ph),(9,.ptr<|some ⟨bf,0,0⟩),(11,iv<|.ofNat p),(12,iv<|.ofNat w),(17,vo),(18,iv<|.ofNat i)] x=some v->lk l x=some v) ?_ (n:=L.length-0)
  ⟨rfl,0,w0,rfl,Nat.zero_le _,by rw[hw0];rfl,hs,cM rfl⟩
 rintro kk l ds s3 ⟨rfl,i,w,rfl,hi,hw,gw,hl⟩
 refine Wg hl (λ_ _ h=>h) ?_
 refine Ws<|Wq<|Wv rfl<|Wv rfl<|Wr (.lenS rfl hlen)<|Wj rfl rfl (eT _ _)<|Wn<|Wd rfl (λht=>Wi ?_)<|λht=>Wx ?_
 ·have hlt:i<L.length:=Int.ofNat_lt.1 (of_decide_eq_true ht)
  have hx:L[i]?=some L[i]:=List.getElem?_eq_getElem hlt
  generalize L[i]=x at hx
  have mN:rq (L.take<|i+1)=rq (L.take i)+if decide (x.k=2)then 1 else 0:=by
   rw[List.take_add_one,hx,C5]
   congr 1
   show rq [x]=_
   unfold rq
   rw[List.filter_cons,List.filter_nil]
   split<;>rfl
  have hle:rq (L.take<|i+1)<=rq L:=by
   conv=>rhs;rw[<- List.take_append_drop (i+1) L,C5]
   omega
  obtain⟨ba,ra,na,ca,J5,Sp,Ma,e4,hba,me,hra⟩:=hS.at (i:=i)<|by simpa[otR]using hlt
  have hrow:Ma[ra+i]?=some x.row:=by rw[hra,otR,List.getElem?_map,hx];rfl
  have hk2:eqBy 20 .pi (iv x.k) (iv 2)=some (decide<|x.k=2):=dM _ _
  refine Ws<|Wb<|Wq<|Wv rfl<|Wv rfl<|Wr (.iaddrS (congrArg some e4) rfl me<|by decide)<|Wf rfl<|Wl rfl (gw.mem<|.left hba) hrow rfl rfl<|Wh rfl rfl hk2<|Wn ?_
  cases Zd:decide (x.k=2) with
  | true=>
   rw[Zd,if_pos rfl]at mN
   have h1:binV .sub (iv<|.ofNat w) (iv 1)=some (iv<|.ofNat<|w-1):=by
    have:=Ka (p:=w-1)<|by omega
    rwa [show w-1+1=w by omega]at this
   refine Wd rfl (λ_=>Wo<|Wv rfl<|Wj rfl rfl h1<|Wv rfl<|Wn ?_) Dz
   refine Wo<|Wv rfl<|Wj rfl rfl (bM<|by omega)<|Wv rfl<|Wn ?_
   exact⟨L.length-(i+1),by omega,rfl,i+1,w-1,rfl,hlt,by omega,gw,cM rfl⟩
  | false=>
   rw[Zd,if_neg<|by decide]at mN
   refine Wd rfl fS<|λ_=>Wi ?_
   refine Wo<|Wv rfl<|Wj rfl rfl (bM<|by omega)<|Wv rfl<|Wn ?_
   exact⟨L.length-(i+1),by omega,rfl,i+1,w,rfl,hlt,by omega,gw,cM rfl⟩
 ·have hge:¬i<L.length:=λh=>of_decide_eq_false ht (Int.ofNat_lt.2 h)
  rw[List.take_of_length_le (by omega)]at hw
  have hw0:w=0:=by omega
  subst hw0
  exact hk _ _ gw.fb<|cM rfl
structure LawU (P:Program)(K:Orc)(F:Nat->FuncId)(T:Nat->TypeId):Prop where
 hB:Base P K F T
 hC:BaseC P K F T
 hG:BaseG P K F T
 hT:TyC P T
 hM:gA P F (T 26)
 hU:BaseU P K F T
 hI:BaseB P K F T
 info:meth P (T 26) "Info"=some (F 58)
 t128:Ty P (T 128) 13
 hS:BaseT P K F T
 hL:BaseL P K F T
 hV:BaseV P K F T
 hJ:BaseI P K F T
theorem LawU.ge {P:Program}{K:Orc}{F:Nat->FuncId}{T:Nat->TypeId}{g:ED->CH->CH}{C:List CD}{d:SD}(h:LawU P K F T)(hd:d.Small)(he:d.kQ)(hO:nG P K F g d C):GE P K F T (T 26) g C d:=
 ⟨h.hB,h.hC,h.hG,h.hT,h.hM,h.hU,h.hI,h.info,h.t128,hd,he,hO⟩
structure aan (C:List CD):Prop where
 len:C.length=6
 no:∀c∈C,∀x∈c.ab,x.kind≠4
 one:∀(k:Nat)(c:CD),C[k]?=some c->(c.kind=1↔k=0)
 ab:∀c∈C,c.ab.length<=4
theorem aag.ids {d:SD}{n:Nat}{C:List CD}(h:aag d n)(hC:aan C){id:Int}(hid:∃o∈d.ob,o.id=id):∃o k c,d.obj id=some o/\o.gE=.ofNat k/\C[k]?=some c:=by
 obtain⟨o,ho,hi⟩:=hid
 obtain⟨o',ho',zF⟩:=abR ho hi
 obtain⟨k,hk,hk6⟩:=h.gE o' ho'
 exact⟨o',k,_,zF,hk,List.getElem?_eq_getElem (by rw[hC.len];exact hk6)⟩
theorem aag.fin {d:SD}{n ac ph:Nat}{C:List CD}(h:aag d n)(hC:aan C)(hn:n<=20):aaz { d with tu:=d.tu+1,ac:=.ofNat ac,ph:=.ofNat ph } C ac ph false false:=by
 have hsm:=h.small hn
 have hhd:d.hd.length=3:=by rw[h.even.hd,h.pl];rfl
 refine⟨⟨hsm.n1,hsm.n2⟩,⟨h.even.lb,h.even.hd,h.even.gr,h.even.ex⟩,λp hp=>⟨Zz,?_,by rw[Bool.and_false];rfl⟩,λp hp=>?_,?_,rfl,rfl,?_⟩
 ·show d.pl[p]?=_
  rw[h.pl]
  rcases(by omega:p=0\/p=1\/p=2)with rfl|rfl|rfl<;>rfl
 ·have hl:d.hd[p]?=some d.hd[p]:=List.getElem?_eq_getElem (by omega)
  have hlm:d.hd[p]∈d.hd:=List.getElem_mem _
  obtain⟨h1,h2⟩:=h.hd _ hlm
  exact⟨_,hl,by omega,λid hid=>h.ids hC<|h2 id hid⟩
 ·exact⟨by have:=h.fi.1;show d.fi.length<=20;omega,λid hid=>h.ids hC<|h.fi.2 id hid⟩
 ·show decide (d.st.length=0)=_
  rw[h.st];rfl
theorem aaz.land {d:SD}{C:List CD}{ac ph:Nat}(h:aaz d C ac ph false false)(uA:d.pl=[Zz,Zz,Zz])(hac:ac<3):aaz { d with pl:=d.pl.set ac { Zz with f1:=true } } C ac ph true false:=by
 refine⟨⟨⟨by show(d.pl.set ac _).length<=1000;rw[List.length_set];exact h.small.n1.1,h.small.n1.2⟩,h.small.n2⟩,⟨by show d.lb.length=(d.pl.set ac _).length;rw[List.length_set];exact h.even.lb,by show d.hd.length=(d.pl.set ac _).length;rw[List.length_set];exact h.even.hd,by show d.gr.length=(d.pl.set ac _).length;rw[List.length_set];exact h.even.gr,by show d.ex.length=(d.pl.set ac _).length;rw[List.length_set];exact h.even.ex⟩,λp hp=>?_,h.hd,h.fi,h.ac,h.ph,h.st⟩
 show∃lp,(d.pl.set ac { Zz with f1:=true })[p]?=some lp/\_
 rw[uA]
 rcases(by omega:p=0\/p=1\/p=2)with rfl|rfl|rfl<;>rcases(by omega:ac=0\/ac=1\/ac=2)with rfl|rfl|rfl<;>exact⟨_,rfl,rfl⟩
theorem aaz.push {d:SD}{C:List CD}{ac ph:Nat}{b0:Bool}{x:ID}{nx:Int}(h:aaz d C ac ph b0 false)(hst:d.st=[]):aaz { d with nx:=nx,st:=d.st++[x] } C ac ph b0 true:=by
 refine⟨⟨⟨h.small.n1.1,h.small.n1.2.1,h.small.n1.2.2.1,?_,h.small.n1.2.2.2.2⟩,h.small.n2⟩,⟨h.even.lb,h.even.hd,h.even.gr,h.even.ex⟩,h.pl,h.hd,h.fi,h.ac,h.ph,?_⟩
 ·show(d.st++[x]).length<=1000
  rw[hst];show 1<=1000;decide
 ·show decide ((d.st++[x]).length=0)=_
  rw[hst];rfl
theorem ab5 {g:ED->CH->CH}{d:SD}{C:List CD}{tl:AD->List Nat}{p:Nat}{lp:LD}{bX:List Int}(h1:bX.length<=20)(h2:d.fi.length<=20)(hab:∀c∈C,c.ab.length<=4):(aaf g d C tl p lp bX).length<=1000:=by
 have hu:∀l:List Int,(usesT g d C tl p l).length<=4*l.length:=by
  intro l
  induction l with
  | nil=>exact Nat.le_refl _
  | cons id l ih=>
   have:(usesT g d C tl p<|id::l).length<=4+(usesT g d C tl p l).length:=by
    unfold usesT
    rw[List.flatMap_cons,List.length_append]
    refine Nat.add_le_add_right ?_ _
    split
    ·split
     ·split
      ·rename_i c hc
       exact Nat.le_trans (aay ..)<|hab c<|List.mem_of_getElem? hc
      ·exact Nat.zero_le _
     ·exact Nat.zero_le _
    ·exact Nat.zero_le _
   rw[List.length_cons]
   omega
 have:=hu d.fi
 have h3:=List.length_filterMap_le (qb g d C tl p (ec d<|.ofNat p) lp) bX
 unfold aaf
 rw[List.length_append,List.length_append]
 show 1+_<=_
 omega
theorem aaV (hW:LawU P K F T)(hCU:aan C)(hm:qc bf bl aZ bE c0 c1 c2 c3 c4 C tl t){ac ph b5:Nat}{b0 b1:Bool}(hF:aaz d C ac ph b0 b1)(hcd:∀o∈d.ob,∃j:Nat,o.gE=.ofNat j/\j<C.length)(hs:aH bl EL d t s)(hb5:Has b5 (.r false [[.bool b0,.bool b1]] 2) t)
  (hl:∀x v,lk [(5,.ptr<|some ⟨b5,0,0⟩),(7,iv<|.ofNat ac),(8,iv<|.ofNat ph),(9,.ptr<|some ⟨bf,0,0⟩)] x=some v->lk l x=some v) :
  WP P K none 119 (.seq (oN [zo 11 (.mv<|zc 0)]<|.block 0<|.loop<|a8P F T)<|oN [zo 6 (.mv<|.const<|.bool true)] .ret) l [] s Kj (λ_=>Kj) (abi t):=by
 have hE:GE P K F T (T 26) (λ_ c=>c) C d:=hW.ge hF.small hF.even<|acC hCU.no hcd
 refine Wg hl (λ_ _ h=>h) ?_
 refine Ws<|Wq<|Wv rfl<|Wn<|Wb ?_
 unfold a8P
 refine Wp (λkk l ds s'=>ds=[]/\∃p,kk=3-p/\p<=3/\aH bl EL d t s'/\∀x v,lk [(5,.ptr<|some ⟨b5,0,0⟩),(7,iv<|.ofNat ac),(8,iv<|.ofNat ph),(9,.ptr<|some ⟨bf,0,0⟩),(11,iv<|.ofNat p)] x=some v->lk l x=some v) ?_ (n:=3-0)
  ⟨rfl,0,rfl,Nat.zero_le _,hs,cM rfl⟩
 rintro kk l ds s2 ⟨rfl,p,rfl,hp,dt,hl⟩
 refine Wg hl (λ_ _ h=>h) ?_
 refine Ws<|Wq<|Wv rfl<|Wj rfl rfl (eT _ _)<|Wn<|Wd rfl (λht=>Wi ?_)<|λht=>Wx ?_
 ·have UO:p<3:=Int.ofNat_lt.1 (of_decide_eq_true ht)
  obtain⟨lp,hlp,aew⟩:=hF.pl p UO
  obtain⟨bX,adI,aeu,hall⟩:=hF.hd p UO
  have uA:p<d.pl.length:=(List.getElem?_eq_some_iff.1 hlp).1
  have hz:d.ci 1 p=some (bX,λl'=>{ d with hd:=d.hd.set p l' }):=by
   unfold SD.ci
   rw[if_neg (by decide),if_neg<|by decide,if_pos rfl,adI]
   rfl
  refine Ws<|Wb<|Wq<|Wv rfl<|Wn ?_
  refine Wq<|Wv rfl<|Wv rfl<|Ww<|Wz [.ptr (some ⟨bf,0,0⟩),iv 1,iv<|.ofNat p] rfl rfl (abr hW.hB hW.hC dt hF.small hF.even hm.hf uA hz<|by omega) ?_
  rintro vz s3 ⟨m,gw,hS⟩
  refine Wv rfl<|Wn ?_
  refine Ws<|ab0 hE gw hm.hf hb5 hS (by omega) (λid hid=>by obtain⟨o,k,c,h1,h2,_⟩:=hall id hid;exact⟨o,k,h1,h2⟩) (cM rfl) ?_
  intro l4 s4 pM hl4
  refine Wg hl4 (λ_ _ h=>h) ?_
  have UG:=ab5 (g:=λ_ c=>c) (d:=d) (tl:=tl) (p:=p) (lp:=lp) aeu hF.fi.1 hCU.ab
  refine Wq<|Wv rfl<|Wr (.mkif rfl rfl)<|Wv rfl<|Ww<|Wz [gm (T 26) bf,iv<|.ofNat p] rfl rfl (aaH hE (hm.mono λq hq=>by simp[hq]) pM adI hlp hall hF.fi.2 hCU.ab (by omega)<|by omega) ?_
  rintro vo s5 ⟨m5,tn,hS5⟩
  refine Wv rfl<|Wn ?_
  refine Ws<|ab1 (m:=m5++m) (by rw[List.append_assoc];exact tn) (hS5.mono λq hq=>by simp[hq]) UG (ab4 hF hCU.one aew hall).symm (cM rfl) ?_
  intro l6 s6 KL hl6
  refine Wg hl6 (λ_ _ h=>h) ?_
  refine Wq<|Wv rfl<|Wh (b:=true) rfl rfl rfl<|Wn ?_
  refine Wd rfl fS<|λ_=>Wi ?_
  refine Wo<|Wv rfl<|Wj rfl rfl (bM<|by omega)<|Wv rfl<|Wn ?_
  exact⟨3-(p+1),by omega,rfl,p+1,rfl,UO,KL,cM rfl⟩
 ·exact Wq<|Wv rfl<|Wn<|We ⟨rfl,rfl,λb o h=>dt.mem h⟩
def a8Y (F:Nat->FuncId)(T:Nat->TypeId):AC:=(.seq (oN [zo 43 (.iaddrA 2 1 5 (zc 1)),zl 44 43] (.cond 44 (.ops [zm 45 9,zo 46 (.build uv [⟨1,⟨1,(zc 2)⟩⟩]),zo 47 (.build mB [⟨0,⟨1,(zc 15)⟩⟩,⟨6,⟨7,46⟩⟩]),oF F 48 15 [45,47]]) .skip)) (.seq (oN [zo 11 (.mv (zc 0))] (.block 0 (.loop (a8P F T)))) (oN [zo 6 (.mv (.const (.bool true)))] .ret)))
theorem abX (hW:LawU P K F T)(hCU:aan C)(hc:aaC P K F)(hm:qc bf bl aZ bE c0 c1 c2 c3 c4 C tl t){ac ph b5 n:Nat}{b0 b1:Bool}{d:SD}(hU:aag d n)(hn:n<=20)(hac:ac<3)(hEL:EL.length<=22)(hs:aH bl EL { d with tu:=d.tu+1,ac:=.ofNat ac,ph:=.ofNat ph } t s)(hb5:Has b5 (.r false [[.bool b0,.bool b1]] 2) t)
  (hl:∀x v,lk [(5,.ptr<|some ⟨b5,0,0⟩),(7,iv<|.ofNat ac),(8,iv<|.ofNat ph),(9,.ptr<|some ⟨bf,0,0⟩)] x=some v->lk l x=some v):WP P K none 119 (a8Z F T) l [] s Kj (λ_=>Kj) (abi t):=by
 refine Wg hl (λ_ _ h=>h) ?_
 unfold a8Z
 refine Ws<|Wq<|Wv rfl<|Wh (b:=false) rfl rfl rfl<|Wn<|Wd rfl fS<|λ_=>Wi ?_
 have hF0:=hU.fin (ac:=ac) (ph:=ph) hCU hn
 have YI:0<=d.nx/\d.nx<=1000:=by rw[hU.nx];exact⟨Int.natCast_nonneg _,by show((n+7:Nat):Int)<=1000;omega⟩
 generalize Un:({ d with tu:=d.tu+1,ac:=.ofNat ac,ph:=.ofNat ph }:SD)=e0 at hs hF0
 have adO:e0.pl=[Zz,Zz,Zz]:=by rw[<- Un];exact hU.pl
 have adQ:e0.st=[]:=by rw[<- Un];exact hU.st
 have adK:e0.nx=d.nx:=by rw[<- Un]
 have adz:∀o∈e0.ob,∃j:Nat,o.gE=.ofNat j/\j<C.length:=by rw[hCU.len,<- Un];exact hU.gE
 have hfb:Has bf (.r false [bu bl aZ c0 c1 c2 c3 c4 bE] 8) t:=hm.hf
 -- the stack,and what follows
 have second:∀{l2:Sl}{s2:SH}{e:SD}{Gg:List (List AV)},Gg.length<=23->aaz e C ac ph b0 false->e.st=[]->e.nx=d.nx->(∀o∈e.ob,∃j:Nat,o.gE=.ofNat j/\j<C.length)->aH bl Gg e t s2->(∀x v,lk [(5,.ptr<|some ⟨b5,0,0⟩),(7,iv<|.ofNat ac),(8,iv<|.ofNat ph),(9,.ptr<|some ⟨bf,0,0⟩)] x=some v->lk l2 x=some v)->WP P K none 119 (a8Y F T) l2 [] s2 Kj (λ_=>Kj) (abi t):=by
  intro l2 s2 e Gg hE2 hF hst acM hcd dt CG
  refine Wg CG (λ_ _ h=>h) ?_
  unfold a8Y
  refine Ws<|Wq<|Wr (.iaddrA rfl rfl<|by decide)<|Wl rfl (dt.mem hb5) rfl rfl rfl<|Wn ?_
  cases b1 with
  | false=>
   refine Wd rfl fS<|λ_=>Wi ?_
   exact aaV hW hCU hm hF hcd dt hb5<|cM rfl
  | true=>
   have hF3:=hF.push (x:={ it1 with id:=e.nx }) (nx:=e.nx+1) hst
   refine Wd rfl (λ_=>?_) Dz
   refine Wo<|Wv rfl<|Wr (.build (cs:=it1.row) rfl rfl)<|Wr (.build (cs:=evRow 15 0 0 0 0 it1) rfl rfl)<|Ww<|Wz [.ptr (some ⟨bf,0,0⟩),.agg<|evRow 15 0 0 0 0 it1] rfl rfl (aaN hW.hB dt hF.small hfb (by omega) (abv hW.hB hW.hJ hF.small hF.even (by rw[acM];omega) hc.cU) hF3.small ⟨by show 1<=e.nx+1;rw[acM];omega,by show e.nx+1<=1000000;rw[acM];omega⟩) ?_
   rintro w s3 ⟨_,gw⟩
   refine Wn ?_
   exact aaV hW hCU hm hF3 hcd gw hb5<|cM rfl
 refine Ws<|Wq<|Wr (.iaddrA rfl rfl<|by decide)<|Wl rfl (hs.mem hb5) rfl rfl rfl<|Wn ?_
 cases b0 with
 | false=>
  refine Wd rfl fS<|λ_=>Wi ?_
  exact second (by omega) hF0 adQ adK adz hs<|cM rfl
 | true=>
  have XP:=hF0.land adO hac
  refine Wd rfl (λ_=>?_) Dz
  refine Wo<|Wv rfl<|Wv rfl<|Wr (.build (cs:=evRow 9 (.ofNat ac) 0 1 0 it0) rfl rfl)<|Ww<|Wz [.ptr (some ⟨bf,0,0⟩),.agg<|evRow 9 (.ofNat ac) 0 1 0 it0] rfl rfl (aar hW.hB hs hF0.small hfb (by omega) (by decide) (by decide) (by decide) (by decide)<|abu hW.hB hW.hL.f264 hW.hV hF0.small hF0.even (o:=Zz) (by rw[adO];rcases(by omega:ac=0\/ac=1\/ac=2)with rfl | rfl | rfl<;>rfl)<|hc.cL _ hac) ?_
  rintro w s3 ⟨_,gw⟩
  refine Wn ?_
  exact second (by rw[List.length_append];show EL.length+1<=23;omega) XP adQ adK adz gw<|cM rfl
def WOy (P:Program)(K:Orc)(ol:List bS)(l:Sl)(Q:Sl->Prop):Prop:=
 ∀(nt:Nat)(ops:Array Oper)(l0:List Oper)(e:Tr AV)(ds:List aD)(H:Heap),aI (co P nt ops.toList) l0=some ol->En l e->∃e' l',fj P K nt ops l0 e ds H (.mk .normal e' ds H)/\En l' e'/\Q l'
theorem WOy.nil {l:Sl}{Q:Sl->Prop}(h:Q l):WOy P K [] l Q:=by
 intro nt ops l0 e ds H hl he
 cases l0 with
 | nil=>exact⟨e,l,fj.nil,he,h⟩
 | cons a l0=>
  obtain⟨b,bs,h1,h2,h3⟩:=(aV _ a l0 _).1 hl
  cases h3
theorem WOy.r {d:Option Nat}{op:AOp}{rest:List bS}{v:AV}{l:Sl}{Q:Sl->Prop}(h:WR P op l [] v)(k:WOy P K rest (pl d v l) Q):WOy P K (⟨d,op,none⟩::rest) l Q:=by
 intro nt ops l0 e ds H hl he
 cases l0 with
 | nil=>cases hl
 | cons a l0=>
  obtain⟨b,bs,h1,h2,h3⟩:=(aV _ a l0 _).1 hl
  cases h3
  have hc:cOper P nt a=⟨d,op,none⟩:=by
   unfold co at h1
   generalize cOper P nt a=z at h1 |-
   obtain⟨d',op',g'⟩:=z
   dsimp only at h1
   cases g' with
   | none=>cases h1;rfl
   | some jw=>
    obtain⟨j,w⟩:=jw
    unfold cg at h1
    dsimp only at h1
    split at h1
    ·rename_i hq;split at hq
     ·split at hq
      ·cases hq;cases h1
      ·cases hq
     ·cases hq
    ·cases h1
  have hp:Hp ⟨.lf,0⟩ [] H:=⟨Nat.zero_le _,(λb o hb=>nomatch hb),List.Pairwise.nil,λb hb=>absurd hb<|Nat.not_lt_zero _⟩
  obtain⟨e',l',j1,j2,j3⟩:=k nt ops l0 (putO e d v) ds H h2<|he.putO d v
  exact⟨e',l',fj.cons hc rfl ⟨0,(h.q P _ (bL e) ds H).trans (by rw[h.h _ e H he hp])⟩ j1,j2,j3⟩
theorem WOy.seq2 {o1 o2:List bS}{b:AC}{l1:Sl}{Q1:Sl->Prop}{e:Tr AV}{ds:List aD}{H H0:Heap}{Qn Qr:Po}{Qe:Nat->Po}(h1:WOy P K o1 l1 Q1)(he:En l1 e)(h2:∀l' e',Q1 l'->En l' e'->WOa P K o2 e' ds H H0 (λl ds s=>WP P K none nt b l ds s Qn Qe Qr)){c0:Code}(hc:cc P nt c0=.seq (.ops o1) (.seq (.ops o2) b)) :
  ∃x e' ds' H' l' s',bt P K none nt c0 e ds H (.mk x e' ds' H')/\En l' e'/\Hp H0 s' H'/\(match x with | .normal=>Qn l' ds' s' | .exit i=>Qe i l' ds' s' | .ret=>Qr l' ds' s'):=by
 cases c0 with
 | seq a0 b0=>
  simp only[cc,AC.seq.injEq]at hc
  obtain⟨ha,hb⟩:=hc
  cases a0 with
  | region i ops d=>
   cases d with
   | true=>
    exfalso
    have hc:cdr P nt ops=.ops o1:=ha
    unfold cdr at hc
    split at hc
    ·split at hc<;>cases hc
    ·cases hc
   | false=>
    have hc:(match aI (co P nt ops.toList) ops.toList with | some l=>AC.ops l | none=>.bad)=.ops o1:=ha
    split at hc
    ·rename_i l' hl'
     cases hc
     obtain⟨e1,l2,k1,k2,k3⟩:=h1 nt ops ops.toList e ds H hl' he
     obtain⟨x,e2,ds2,H2,l2,s2,j1,j2,j3,j4⟩:=(h2 l2 e1 k3 k2).seq hb
     exact⟨x,e2,ds2,H2,l2,s2,bt.seq (bt.region k1) j1,j2,j3,j4⟩
    ·cases hc
  | _=>simp[cc]at ha
 | region i ops d=>exact(db hc).elim
 | _=>simp[cc]at hc
def aSp (k:Nat):AD:=⟨1,0,0,0,0,0,0,false,.slice (some ⟨1+k,0,0⟩) 1 1 false 1,.slice (some ⟨2+k,0,0⟩) 2 2 false 3,0,0,0⟩
def aQu (k:Nat):AD:=⟨1,0,0,0,0,0,0,false,nilS,.slice (some ⟨4+k,0,0⟩) 2 2 false 3,0,0,0⟩
def aMo (k:Nat):AD:=⟨2,0,0,0,0,0,0,true,nilS,.slice (some ⟨6+k,0,0⟩) 2 2 false 3,0,0,0⟩
def aHo (k:Nat):AD:=⟨3,3,1,0,0,0,0,false,nilS,.slice (some ⟨8+k,0,0⟩) 2 2 false 3,0,0,0⟩
def aHp (k:Nat):AD:=⟨2,0,0,0,0,0,0,false,nilS,.slice (some ⟨9+k,0,0⟩) 2 2 false 3,0,0,0⟩
def C22 (k:Nat):List CD:=[⟨⟨#[108,97,110,100]⟩,1,0,0,0,0,0,0,0,0,nilS,[]⟩,⟨⟨#[98,101,97,115,116]⟩,2,0,0,0,0,0,1,1,0,nilS,[]⟩,⟨⟨#[115,112,101,108,108]⟩,3,0,0,0,0,0,0,0,0,.slice (some ⟨3+k,0,0⟩) 1 1 false 13,[aSp k]⟩,⟨⟨#[113,117,105,99,107]⟩,3,0,0,0,0,0,0,0,64,.slice (some ⟨5+k,0,0⟩) 1 1 false 13,[aQu k]⟩,⟨⟨#[109,111,110,107]⟩,2,0,0,0,0,0,0,1,0,.slice (some ⟨7+k,0,0⟩) 1 1 false 13,[aMo k]⟩,⟨⟨#[104,111,114,110]⟩,4,0,0,0,0,0,0,0,0,.slice (some ⟨10+k,0,0⟩) 2 2 false 13,[aHo k,aHp k]⟩]
theorem aal {k:Nat}{Q:CD->Prop}(h0:∀c∈C22 k,c.ab=[]->c.av=nilS->Q c)(h1:∀c∈C22 k,c.ab=[aSp k]->c.av=.slice (some ⟨3+k,0,0⟩) 1 1 false 13->Q c)(h2:∀c∈C22 k,c.ab=[aQu k]->c.av=.slice (some ⟨5+k,0,0⟩) 1 1 false 13->Q c)
  (h3:∀c∈C22 k,c.ab=[aMo k]->c.av=.slice (some ⟨7+k,0,0⟩) 1 1 false 13->Q c) (h4:∀c∈C22 k,c.ab=[aHo k,aHp k]->c.av=.slice (some ⟨10+k,0,0⟩) 2 2 false 13->Q c):∀c∈C22 k,Q c:=by
 intro c hc
 have uz:=hc
 simp only[C22,List.mem_cons,List.not_mem_nil,or_false]at uz
 rcases uz with h|h|h|h|h|h
 ·exact h0 c hc (by rw[h])<|by rw[h]
 ·exact h0 c hc (by rw[h])<|by rw[h]
 ·exact h1 c hc (by rw[h])<|by rw[h]
 ·exact h2 c hc (by rw[h])<|by rw[h]
 ·exact h3 c hc (by rw[h])<|by rw[h]
 ·exact h4 c hc (by rw[h])<|by rw[h]
theorem abO (k:Nat):aan (C22 k) where
 len:=rfl
 no:=aal (λc _ h _ x hx=>by rw[h]at hx;cases hx) (λc _ h _ x hx=>by rw[h]at hx;rw[List.mem_singleton.1 hx];exact(by decide:¬(1:Int)=4)) (λc _ h _ x hx=>by rw[h]at hx;rw[List.mem_singleton.1 hx];exact(by decide:¬(1:Int)=4)) (λc _ h _ x hx=>by rw[h]at hx;rw[List.mem_singleton.1 hx];exact(by decide:¬(2:Int)=4)) (λc _ h _ x hx=>by
  rw[h]at hx
  rcases List.mem_cons.1 hx with rfl|hx
  ·exact(by decide:¬(3:Int)=4)
  ·rw[List.mem_singleton.1 hx];exact(by decide:¬(2:Int)=4))
 one:=by
  intro j c hj
  match j,hj with
  | 0,hj=>cases hj;exact⟨λ_=>rfl,λ_=>rfl⟩
  | 1,hj=>cases hj;exact⟨λh=>absurd h (by decide:¬(2:Int)=1),λh=>absurd h<|by decide⟩
  | 2,hj=>cases hj;exact⟨λh=>absurd h (by decide:¬(3:Int)=1),λh=>absurd h<|by decide⟩
  | 3,hj=>cases hj;exact⟨λh=>absurd h (by decide:¬(3:Int)=1),λh=>absurd h<|by decide⟩
  | 4,hj=>cases hj;exact⟨λh=>absurd h (by decide:¬(2:Int)=1),λh=>absurd h<|by decide⟩
  | 5,hj=>cases hj;exact⟨λh=>absurd h (by decide:¬(4:Int)=1),λh=>absurd h<|by decide⟩
  | j+6,hj=>cases hj
 ab:=aal (λc _ h _=>by rw[h];decide) (λc _ h _=>by rw[h];exact(by decide:1<=4)) (λc _ h _=>by rw[h];exact(by decide:1<=4)) (λc _ h _=>by rw[h];exact(by decide:1<=4)) (λc _ h _=>by rw[h];exact(by decide:2<=4))
def abG (a:AD):List Nat:=match a.tg with | .slice (some _) _ _ _ _=>[1] | _=>[]
@[reducible] def abY (k:Nat):List AV:=d22.cells (pn (479+k) 3 8) (pn (509+k) 6 14) (pn (521+k) 3 1) (pn (527+k) 3 1) (pn (533+k) 3 1) (pn (539+k) 3 1) nilS nilS nilS++([nilS]++(d22.cells (pn (543+k) 3 8) (pn (573+k) 6 14) (pn (585+k) 3 1) (pn (591+k) 3 1) (pn (597+k) 3 1) (pn (603+k) 3 1) nilS nilS nilS++[]))
@[reducible] def adT (k:Nat):List (List AV):=[[pn (575+k) 3 1],[pn (579+k) 2 1],[pn (583+k) 1 1]]
@[reducible] def acF (k:Nat):List AV:=bu (475+k) (pn (605+k) 6 11) 60 8 80 20 20 nilS
def stL (k:Nat):List (Nat × Nat × List (List AV)):=[(543+k,8,Am d22.pl),(573+k,14,fy d22.ob),(585+k,1,adT k),(591+k,1,n3),(597+k,1,n3),(603+k,1,n3),(575+k,1,nR [1,2,3]),(579+k,1,nR [4,5]),(583+k,1,nR [6])]
def tL (k:Nat):List (Nat × Nat × List (List AV)):=[(473+k,8,[acF k]),(605+k,11,(C22 k).map CD.row),(3+k,13,[(aSp k).row]),(5+k,13,[(aQu k).row]),(7+k,13,[(aMo k).row]),(10+k,13,[(aHo k).row,(aHp k).row]),(1+k,1,nR [1])]
def Mq (k:Nat):List (Nat × Nat × List (List AV)):=(475+k,51,[abY k])::(stL k++tL k)
theorem acn (k:Nat):mD (Dw (stL k)) (pn (543+k) 3 8) (pn (573+k) 6 14) (pn (585+k) 3 1) (pn (591+k) 3 1) (pn (597+k) 3 1) (pn (603+k) 3 1) nilS nilS nilS d22 where
 pl:=Src.all (L:=Am d22.pl) .here
 ob:=Src.all (L:=fy d22.ob)<|.there .here
 lb:=⟨_,Src.all (L:=adT k)<|.there<|.there .here,.cons (Src.all (L:=nR [1,2,3])<|.there<|.there<|.there<|.there<|.there<|.there .here)<|.cons (Src.all (L:=nR [4,5])<|.there<|.there<|.there<|.there<|.there<|.there<|.there .here)<|.cons (Src.all (L:=nR [6])<|.there<|.there<|.there<|.there<|.there<|.there<|.there<|.there .here) .nil⟩
 hd:=⟨_,Src.all (L:=n3)<|.there<|.there<|.there .here,.cons .nil<|.cons .nil<|.cons .nil .nil⟩
 gr:=⟨_,Src.all (L:=n3)<|.there<|.there<|.there<|.there .here,.cons .nil<|.cons .nil<|.cons .nil .nil⟩
 ex:=⟨_,Src.all (L:=n3)<|.there<|.there<|.there<|.there<|.there .here,.cons .nil<|.cons .nil<|.cons .nil .nil⟩
 fi:=.nil
 st:=.nil
 wa:=.nil
theorem abZ (k:Nat)(t:SH):aH (475+k) [] d22 t ((475+k,.r false [abY k] 51)::([]++(Dw (stL k)++t))):=
 ⟨_,nilS,pn (543+k) 3 8,pn (573+k) 6 14,pn (585+k) 3 1,pn (591+k) 3 1,pn (597+k) 3 1,pn (603+k) 3 1,nilS,nilS,nilS,[],Dw<|stL k,.refl _,rfl,.nil,acn k⟩
theorem adu (k:Nat)(z:SH):qc (473+k) (475+k) (pn (605+k) 6 11) nilS 60 8 80 20 20 (C22 k) abG (Dw (tL k)++z) where
 hf:=.here
 eQ:={
  src:=Src.all (L:=(C22 k).map CD.row)<|.there .here
  ab:=aal (λc _ h h'=>by rw[h,h'];exact .nil) (λc _ h h'=>by rw[h,h'];exact Src.all (L:=[_])<|.there<|.there .here) (λc _ h h'=>by rw[h,h'];exact Src.all (L:=[_])<|.there<|.there<|.there .here) (λc _ h h'=>by rw[h,h'];exact Src.all (L:=[_])<|.there<|.there<|.there<|.there .here) (λc _ h h'=>by rw[h,h'];exact Src.all (L:=[_,_])<|.there<|.there<|.there<|.there<|.there .here)
  n:=Nat.le_of_ble_eq_true rfl
  nb:=λc hc=>Nat.le_trans ((abO k).ab c hc) (by decide) }
 htg:=by
  have zE:∀a:AD,a.tg=nilS->dz a.cd a.cd=true->Src (Dw (tL k)++z) 1 a.tg (nR<|(abG a).map Int.ofNat)/\(∀j∈abG a,j<8)/\(abG a).length<=1000/\dz a.cd a.cd=true:=by
   intro a h hs
   have htl:abG a=[]:=by unfold abG;rw[h]
   rw[htl,h]
   exact⟨.nil,(λj hj=>nomatch hj),Nat.zero_le _,hs⟩
  have ng:∀b:Nat,dz (.slice (some ⟨b,0,0⟩) 2 2 false 3) (.slice (some ⟨b,0,0⟩) 2 2 false 3)=true:=λb=>by simp[dz,sameN,same0]
  refine aal (λc _ h _ a ha=>by rw[h]at ha;cases ha) (λc _ h _ a ha=>?_) (λc _ h _ a ha=>?_) (λc _ h _ a ha=>?_)<|λc _ h _ a ha=>?_
  ·rw[h]at ha
   rw[List.mem_singleton.1 ha]
   refine⟨Src.all (L:=nR [1])<|.there<|.there<|.there<|.there<|.there<|.there .here,λj hj=>?_,Nat.le_of_ble_eq_true rfl,ng _⟩
   rw[List.mem_singleton.1 (show j∈[1]from hj)]
   decide
  ·rw[h]at ha
   rw[List.mem_singleton.1 ha]
   exact zE _ rfl<|ng _
  ·rw[h]at ha
   rw[List.mem_singleton.1 ha]
   exact zE _ rfl<|ng _
  ·rw[h]at ha
   rcases List.mem_cons.1 ha with rfl|ha
   ·exact zE _ rfl<|ng _
   ·rw[List.mem_singleton.1 ha]
    exact zE _ rfl<|ng _
noncomputable def abc:V:={ vU with t:=13,a:=2 }
noncomputable def abd:V:={ vU with t:=13,a:=3 }
noncomputable def abE (v:V)(i:Nat):Bool:=Nat.beq v.t 13&&Nat.beq v.a i
noncomputable def acy (P:Program)(ih:bT)(c:Code)(k:Nat)(ex:List (Nat × Nat × List (List AV)))(z:Nat):FH->Bool:=
 RE P 82 ih (spine 4 c).1 (λe h=>Du h (Mq k++ex)&&(wI e [(0,.bool false),(10,.ptr<|some ⟨473+k,0,0⟩),(12,nilS)]&&(abE (atR 1 e) 2&&(abE (atR 2 e) 3&&(abE (atR 3 e) 0&&(Nat.beq (ap 0 h).t z&&(Nat.beq (ap 0 h).lp.nt 0&&(match h.fr.ds with | []=>true | _=>false))))))))
  (Ba [vB false,abc,abd,rJ] 0 kj)
end
section
variable [Sg]{P:Program}{K:Orc}{F:Nat->FuncId}{T:Nat->TypeId}
theorem aae {v w:V}{i:Nat}{a b:AV}(h:abE v i=true)(hv:VA v a)(hw:VA w b)(h1:w.t=13)(h2:w.a=i):a=b:=by
 obtain⟨k1,k2⟩:=Bool.and_eq_true_iff.1 h
 have e1:=(hv.mP<|Nat.eq_of_beq_eq_true k1).1
 rw[Nat.eq_of_beq_eq_true k2]at e1
 have e2:=(hw.mP h1).1
 rw[h2]at e2
 rw[e1,e2]
theorem ab2 (a b:List (Nat × Nat × List (List AV))):Dw (a++b)=Dw a++Dw b:=by unfold Dw;rw[List.map_append]
theorem aby (hB:Base P K F T) (hT2:FnK P K (F 271) 19 [] (abs F T)) (aa8:FnK P K (F 280) 9 [] (abt F T)) (hS:aaC P K F) {ih:bT} (hC:eL P K ih) {fn:Func} {c:Code} (hf:P.funcs[F 35]?=some fn) (hb:fn.body=some c) (hnt:fn.ntmps=82) (hres:fn.results.toList=[.tmp 8,.tmp 9]) (hname:(fn.name == "runtime.NumGoroutine")=false)
  (j5:cc P 82 (spine 4 c).2=abK F T) (hK:∀args H,K (F 35) args H=none) {h0:FH} {H0:Heap} (hH:cj h0 H0) (hfr:xe h0.fr [] none) {z k:Nat} {ex:List (Nat × Nat × List (List AV))} (Yl:(Dw<|Mq k++ex).Pairwise λp q=>p.1≠q.1) (adA:∀p∈Dw (Mq k++ex),p.1≠0) (hpre:acy P ih c k ex z h0=true) {ac ph:Nat} (hac:ac<3) (hph:ph<10) {lv:AV} (Gw:VA abc (iv<|.ofNat ac)) (hv3:VA abd (iv<|.ofNat ph)) (hlv:VA rJ lv) {L:List (List AV)} {ps cs zs:Nat->Nat} (XV:lenOf lv=some L.length)
  (XW:∀i,i<L.length->∃x z y:Nat,x<=255/\z<=255/\y<=255/\L[i]?=some [.int .u8 (.ofNat x),.int .u8<|.ofNat z,.int .u8<|.ofNat y]/\x%6=cs i/\z%2=zs i/\y%3=ps i) (XX:0<L.length->z=5/\(∃cap sl,lv=.slice (some ⟨0,0,0⟩) L.length cap sl 3)/\(HO.r true L 3).ok (some<|Sg.iK 0)) :
  ∃H' s' z0 ids EL,cD P K (F 35) [.bool false,iv<|.ofNat ac,iv<|.ofNat ph,lv] H0 (.tuple [.ptr (some ⟨473+k,0,0⟩),ids]) H'/\Hp ⟨.lf,0⟩ s' H'/\aH (475+k) EL (dF ps cs zs (min L.length 20) ac ph) (Dw (tL k)++(Dw ex++z0)) s'/\EL.length<=22/\(0<L.length->Has 0 (.r true L 3) z0):=by
 obtain⟨e0,iL,XN⟩:=sU (nt:=82) (.cons (VA.bool false)<|.cons Gw<|.cons hv3<|.cons hlv .nil) (by omega)<|by simp
 obtain⟨E',H',ds',e',h',q1,q2,q3,q4,q5⟩:=ye (rd:=none) (ds:=[]) hC (spine 4 c).1 XN hH hfr hpre
 obtain⟨k1,q4⟩:=Bool.and_eq_true_iff.1 q4
 obtain⟨k2,q4⟩:=Bool.and_eq_true_iff.1 q4
 obtain⟨k3,q4⟩:=Bool.and_eq_true_iff.1 q4
 obtain⟨k3b,q4⟩:=Bool.and_eq_true_iff.1 q4
 obtain⟨k3c,q4⟩:=Bool.and_eq_true_iff.1 q4
 obtain⟨k5,q4⟩:=Bool.and_eq_true_iff.1 q4
 obtain⟨k6,k7⟩:=Bool.and_eq_true_iff.1 q4
 have hds:=Cl q3 k7
 subst hds
 have hmem:=Dv q2 k1
 have ng:=AH q1 k2 (λp hp=>by
  simp only[List.mem_cons,List.not_mem_nil,or_false]at hp
  rcases hp with rfl|rfl|rfl<;>exact Nat.le_of_ble_eq_true rfl)
 obtain⟨a1,Xv,v1⟩:=q1.slot 1<|by omega
 obtain⟨a2,e2',v2⟩:=q1.slot 2<|by omega
 obtain⟨a3,e3',v3⟩:=q1.slot 3<|by omega
 have Xw:=aae k3 v1 Gw rfl rfl
 have ea2:=aae k3b v2 hv3 rfl rfl
 have ea3:=aae k3c v3 hlv rfl rfl
 subst Xw ea2 ea3
 have main:∀z0:SH,(∀b o,(b,o)∈z0->b=0/\b<H'.next/\o.ok (H'.get b))->z0.Pairwise (λp q=>p.1≠q.1)->(0<L.length->∃cap sl,a3=.slice (some ⟨0,0,0⟩) L.length cap sl 3/\Has 0 (.r true L 3) z0) ->
   ∃H3 s' z0 ids EL,cD P K (F 35) [.bool false,iv<|.ofNat ac,iv<|.ofNat ph,a3] H0 (.tuple [.ptr (some ⟨473+k,0,0⟩),ids]) H3/\Hp ⟨.lf,0⟩ s' H3/\aH (475+k) EL (dF ps cs zs (min L.length 20) ac ph) (Dw (tL k)++(Dw ex++z0)) s'/\EL.length<=22/\(0<L.length->Has 0 (.r true L 3) z0):=by
  intro z0 hz0 hzp mO
  have hp:Hp ⟨.lf,0⟩ (Dw (Mq k++ex)++z0) H':=by
   refine⟨Nat.zero_le _,?_,?_,λb hb=>absurd hb<|Nat.not_lt_zero _⟩
   ·intro b o hb
    rcases List.mem_append.1 hb with hb|hb
    ·exact hmem b o hb
    ·exact(hz0 b o hb).2
   ·refine List.pairwise_append.2 ⟨Yl,hzp,?_⟩
    intro p hp q hq
    rw[(hz0 q.1 q.2 hq).1]
    exact adA p hp
  have hs:aH (475+k) [] d22 (Dw (tL k)++(Dw ex++z0)) (Dw (Mq k++ex)++z0):=by
   have:=abZ k<|Dw (tL k)++(Dw ex++z0)
   rw[ab2,List.append_assoc,show Dw (Mq k)=(475+k,.r false [abY k] 51)::(Dw (stL k)++Dw (tL k))from rfl,List.cons_append,List.append_assoc]
   exact this
  have XO:En [(0,.bool false),(1,iv<|.ofNat ac),(2,iv<|.ofNat ph),(3,a3),(10,.ptr<|some ⟨473+k,0,0⟩),(12,nilS)] E':=by
   intro i v hi
   simp only[lu]at hi
   split at hi
   ·rename_i h;cases hi;rw[<- h];exact ng 0 _<|by simp
   ·split at hi
    ·rename_i h;cases hi;rw[<- h];exact Xv
    ·split at hi
     ·rename_i h;cases hi;rw[<- h];exact e2'
     ·split at hi
      ·rename_i h;cases hi;rw[<- h];exact e3'
      ·split at hi
       ·rename_i h;cases hi;rw[<- h];exact ng 10 _<|by simp
       ·split at hi
        ·rename_i h;cases hi;rw[<- h];exact ng 12 _<|by simp
        ·cases hi
  obtain⟨xx,e'',Xu,H2,l',s',r1,r2,r3,r4⟩:=acE hB hT2 aa8 hS hac hph (T:=T) (Qn:=Kj) (Qe:=λ_=>Kj) (Qr:=λl ds s=>ds=[]/\∃ids EL,aH (475+k) EL (dF ps cs zs (min L.length 20) ac ph) (Dw (tL k)++(Dw ex++z0)) s/\EL.length<=22/\lk l 8=some (.ptr<|some ⟨473+k,0,0⟩)/\lk l 9=some ids)
   ⟨XV,λh=>by
    obtain⟨cap,sl,w1,w2⟩:=mO h
    exact⟨0,cap,sl,w1,.app (.app w2)⟩,XW⟩ hs (adu k _).hf rfl rfl rfl rfl rfl rfl (λl2 s2 ids Gg hE2 dt h8 h9=>⟨rfl,ids,Gg,dt,hE2,h8,h9⟩) (spine 4 c).2 j5 ⟨.lf,0⟩ E' H' XO hp
  have run:=q5 (spine 4 c).2 _ r1
  rw[ug]at run
  cases xx with
  | normal=>exact r4.elim
  | exit i=>exact r4.elim
  | ret=>
   obtain⟨rfl,ids,EL,w1,w3,w4,w5⟩:=r4
   refine⟨H2,s',z0,ids,EL,cD.enter (hK _ _) hf hb (by rw[hnt,hname];rfl) (by rw[hnt];exact iL) (by rw[hnt];exact run) (.inl rfl) ?_,r3,w1,w3,λh=>(mO h).choose_spec.choose_spec.2⟩
   have e8:resultOf P e'' H2 (.tmp 8)=some _:=r2 8 _ w4
   have e9:resultOf P e'' H2 (.tmp 9)=some _:=r2 9 _ w5
   rw[hres]
   show(match aI (resultOf P e'' H2) [.tmp 8,.tmp 9]with | some [v]=>some v | some vs=>some (.tuple vs) | none=>none)=_
   simp only[aI,e8,e9]
 rcases Nat.eq_zero_or_pos L.length with h|h
 ·exact main [] (λb o hb=>nomatch hb) .nil<|λk=>by omega
 ·obtain⟨rfl,⟨cap,sl,hl⟩,hok⟩:=XX h
  have g0:=(q2.block 0<|by omega).DM (Nat.eq_of_beq_eq_true k5)
  rw[Nat.eq_of_beq_eq_true k6]at g0
  have hn:0<H'.next:=Nat.lt_of_le_of_lt (Nat.zero_le _) (hmem (475+k) _<|List.mem_cons_self ..).1
  refine main [(0,.r true L 3)] ?_ (List.pairwise_singleton ..)<|λ_=>⟨cap,sl,hl,.here⟩
  intro b o hb
  rw[List.mem_singleton]at hb
  cases hb
  exact⟨rfl,hn,by rw[g0];exact hok⟩
end
@[reducible] def abj (b0 b1:Bool):List (Nat × Nat × List (List AV)):=[(1,2,[[.bool b0,.bool b1]])]
noncomputable def aaL (b0 b1:Bool):V:=vAgg (rowV [vB b0,vB b1]) 0 2
noncomputable def pre8 (P:Program)(ih:bT)(c c35:Code)(h0:FH)(b0 b1:Bool)(z:Nat):Bool:=
 RE P 119 ih (spine 2 c).1 (λe h=>abE (atR 0 e) 0&&(abE (atR 1 e) 1&&(wI e [(5,.ptr<|some ⟨1,0,0⟩)]&&((match h.fr.ds with | []=>true | _=>false)&&acy P ih c35 1 (abj b0 b1) z h))))
  (Ba [rJ,Ah,aaL b0 b1] 0 kj) h0
theorem abN (b0 b1:Bool):(Dw (Mq 1++abj b0 b1)).Pairwise λp q=>p.1≠q.1:=by
 simp[Dw,Mq,stL,tL]
theorem abx (b0 b1:Bool):∀p∈Dw (Mq 1++abj b0 b1),p.1≠0:=by
 intro p hp
 simp only[Dw,Mq,stL,tL,List.map_cons,List.map_nil,List.cons_append,List.nil_append,List.mem_cons,List.not_mem_nil,or_false]at hp
 rcases hp with rfl|rfl|rfl|rfl|rfl|rfl|rfl|rfl|rfl|rfl|rfl|rfl|rfl|rfl|rfl|rfl|rfl|rfl<;>exact Nat.succ_ne_zero _
section
variable {P:Program}{K:Orc}
theorem WOa.r {d:Option Nat}{op:AOp}{rest:List bS}{v:AV}{l:Sl}{e:Tr AV}{ds:List aD}{H H0:Heap}{Q:Po}(h:WR P op l [] v)(he:En l e)(k:WOa P K rest (putO e d v) ds H H0 Q):WOa P K (⟨d,op,none⟩::rest) e ds H H0 Q:=by
 have hp:Hp ⟨.lf,0⟩ [] H:=⟨Nat.zero_le _,(λb o hb=>nomatch hb),List.Pairwise.nil,λb hb=>absurd hb<|Nat.not_lt_zero _⟩
 exact WOa.cons ⟨0,(h.q P _ (bL e) ds H).trans (by rw[h.h _ e H he hp])⟩ k
end
section
variable [Sg]{P:Program}{K:Orc}{F:Nat->FuncId}{T:Nat->TypeId}
theorem abm (hW:LawU P K F T) (hS:aaC P K F) {ih:bT} (hC:eL P K ih) {fn:Func} {c:Code} (hf:P.funcs[F 35]?=some fn) (hb:fn.body=some c) (hnt:fn.ntmps=82) (hres:fn.results.toList=[.tmp 8,.tmp 9]) (hname:(fn.name == "runtime.NumGoroutine")=false)
  (j5:cc P 82 (spine 4 c).2=abK F T) (hK:∀args H,K (F 35) args H=none) {f8:FuncId} {fn8:Func} {c8:Code} (hf8:P.funcs[f8]?=some fn8) (hb8:fn8.body=some c8) (acL:fn8.ntmps=119) (adP:fn8.results.toList=[.tmp 6]) (acK:(fn8.name == "runtime.NumGoroutine")=false)
  (acP:cc P 119 (spine 2 c8).2=.seq (.ops a8W) (.seq (.ops<|a8X F)<|a8Z F T)) (hK8:∀args H,K f8 args H=none) {h0:FH} {H0:Heap} (hH:cj h0 H0) (hfr:h0.fr=Kz) {z:Nat} {b0 b1:Bool} (hpre:pre8 P ih c8 c h0 b0 b1 z=true) {x:Nat} (hx:x<=255) {lv:AV} (ha:VAs [rJ,Ah,aaL b0 b1] [lv,.int .u8<|.ofNat x,.agg [.bool b0,.bool b1]])
  (Gw:VA abc (iv<|.ofNat<|x%3)) (hv3:VA abd (iv<|.ofNat<|x/3%10)) {L:List (List AV)} (XV:lenOf lv=some L.length)
  (XW:∀i,i<L.length->∃x z y:Nat,x<=255/\z<=255/\y<=255/\L[i]?=some [.int .u8 (.ofNat x),.int .u8<|.ofNat z,.int .u8<|.ofNat y]) (XX:0<L.length->z=5/\(∃cap sl,lv=.slice (some ⟨0,0,0⟩) L.length cap sl 3)/\(HO.r true L 3).ok (some<|Sg.iK 0)) :
  ∃H',cD P K f8 [lv,.int .u8<|.ofNat x,.agg [.bool b0,.bool b1]] H0 (.bool true) H'/\(0<L.length->(HO.r true L 3).ok (H'.get 0)):=by
 obtain⟨e0,iL,XN⟩:=sU (nt:=119) ha (by omega)<|by simp
 obtain⟨E',H',ds',e',h',q1,q2,q3,q4,q5⟩:=ye (rd:=none) (ds:=[]) hC (spine 2 c8).1 XN hH (by rw[hfr];exact⟨rfl,(λD hD=>by cases hD),rfl⟩) hpre
 obtain⟨k3,q4⟩:=Bool.and_eq_true_iff.1 q4
 obtain⟨j3,q4⟩:=Bool.and_eq_true_iff.1 q4
 obtain⟨kS,q4⟩:=Bool.and_eq_true_iff.1 q4
 obtain⟨k7,aex⟩:=Bool.and_eq_true_iff.1 q4
 have hds:=Cl q3 k7
 subst hds
 have e5b:E'.get 5=some (.ptr<|some ⟨1,0,0⟩):=AH q1 kS (λp hp=>by rw[List.mem_singleton.1 hp];exact Nat.le_of_ble_eq_true rfl) 5 _<|by simp
 obtain⟨a0,e0',v0⟩:=q1.slot 0<|by omega
 obtain⟨a1,Xv,v1⟩:=q1.slot 1<|by omega
 obtain⟨YG,aeD⟩:VA rJ lv/\VA Ah (.int .u8<|.ofNat x):=by
  cases ha with
  | cons hv ha=>
   cases ha with
   | cons hw _=>exact⟨hv,hw⟩
 have ea0:=aae k3 v0 YG rfl rfl
 have Xw:=aae j3 v1 aeD rfl rfl
 subst ea0 Xw
 -- what the aZ are
 let cs:Nat->Nat:=λj=>match L[j]? with | some [.int .u8 (.ofNat y),_,_]=>y%6 | _=>0
 let zs:Nat->Nat:=λj=>match L[j]? with | some [_,.int .u8<|.ofNat y,_]=>y%2 | _=>0
 let ps:Nat->Nat:=λj=>match L[j]? with | some [_,_,.int .u8<|.ofNat y]=>y%3 | _=>0
 have Pw:∀i,i<L.length->∃x z y:Nat,x<=255/\z<=255/\y<=255/\L[i]?=some [.int .u8 (.ofNat x),.int .u8<|.ofNat z,.int .u8<|.ofNat y]/\x%6=cs i/\z%2=zs i/\y%3=ps i:=by
  intro i hi
  obtain⟨x,z,y,h1,h2,h3,h4⟩:=XW i hi
  refine⟨x,z,y,h1,h2,h3,h4,?_,?_,?_⟩
  ·show _=(match L[i]? with | some [.int .u8 (.ofNat y),_,_]=>y%6 | _=>0)
   rw[h4]
  ·show _=(match L[i]? with | some [_,.int .u8<|.ofNat y,_]=>y%2 | _=>0)
   rw[h4]
  ·show _=(match L[i]? with | some [_,_,.int .u8<|.ofNat y]=>y%3 | _=>0)
   rw[h4]
 have aez:∀j,j<min L.length 20->ps j<3/\cs j<6/\zs j<2:=by
  intro j hj
  obtain⟨x,z,y,_,_,_,_,h1,h2,h3⟩:=Pw j<|by omega
  rw[<- h1,<- h2,<- h3]
  exact⟨Nat.mod_lt _<|by omega,Nat.mod_lt _<|by omega,Nat.mod_lt _<|by omega⟩
 have hac:x%3<3:=Nat.mod_lt _<|by omega
 have hph:x/3%10<10:=Nat.mod_lt _<|by omega
 obtain⟨H3,s3,z0,ids,EL,w1,w2,w3,w5,w6⟩:=aby hW.hB hW.hS.f271 hW.hS.f280 hS hC hf hb hnt hres hname j5 hK q2 q3 (abN b0 b1) (abx b0 b1) aex hac hph Gw hv3 YG (ps:=ps) (cs:=cs) (zs:=zs) XV Pw XX
 have h22:binV .rem (.int .u8<|.ofNat x) (.int .u8<|.ofNat 3)=some (.int .u8<|.ofNat<|x%3):=yi<|by omega
 have h23:mkI .i64 (.ofNat<|x%3)=some (iv<|.ofNat<|x%3):=tD<|by omega
 have VX:binV .rem (.int .u8<|.ofNat<|x/3) (.int .u8<|.ofNat 10)=some (.int .u8<|.ofNat<|x/3%10):=yi<|by omega
 have h27:mkI .i64 (.ofNat<|x/3%10)=some (iv<|.ofNat<|x/3%10):=tD<|by omega
 have UY:En [(0,a0),(1,.int .u8<|.ofNat x),(5,.ptr<|some ⟨1,0,0⟩)] E':=by
  intro i v hi
  simp only[lu]at hi
  split at hi
  ·rename_i h;cases hi;rw[<- h];exact e0'
  ·split at hi
   ·rename_i h;cases hi;rw[<- h];exact Xv
   ·split at hi
    ·rename_i h;cases hi;rw[<- h];exact e5b
    ·cases hi
 have hwy:WOy P K a8W [(0,a0),(1,.int .u8<|.ofNat x),(5,.ptr<|some ⟨1,0,0⟩)] (λl'=>∀y w,lk [(0,a0),(5,.ptr<|some ⟨1,0,0⟩),(7,iv<|.ofNat<|x%3),(8,iv<|.ofNat<|x/3%10)] y=some w->lk l' y=some w):=by
  unfold a8W
  exact WOy.r (.mv rfl)<|WOy.r (.arith rfl rfl h22)<|WOy.r (.convI rfl h23)<|WOy.r (.mv rfl)<|WOy.r (.arith rfl rfl<|adX hx)<|WOy.r (.arith rfl rfl VX)<|WOy.r (.convI rfl h27)<|WOy.r (.mv rfl)<|WOy.r (.mv rfl)<|WOy.nil<|cM rfl
 obtain⟨xx,e'',Xu,H2,l',s',r1,r2,r3,r4⟩:=hwy.seq2 UY (ds:=[]) (H0:=⟨.lf,0⟩) (Qn:=Kj) (Qe:=λ_=>Kj) (Qr:=abi<|Dw (tL 1)++(Dw (abj b0 b1)++z0)) (λl6 e6 hl6 hE6=>by
  have hE7:En [(0,a0),(5,.ptr<|some ⟨1,0,0⟩),(7,iv<|.ofNat<|x%3),(8,iv<|.ofNat<|x/3%10)] e6:=λi v hi=>hE6 i v<|hl6 i v hi
  unfold a8X
  refine WOa.r (.mv rfl) hE7<|WOa.r (.mv rfl) (hE7.putO (some 29) _)<|WOa.r (.mv rfl) ((hE7.putO (some 29) _).putO (some 30) _)<|WOa.cons (qu.call (fv:=.func (F 35) [] []) (vs:=[.bool false,iv<|.ofNat<|x%3,iv<|.ofNat<|x/3%10,a0]) rfl ?_<|ki.func w1)<|WOa.of ?_ ((((hE7.putO (some 29) _).putO (some 30) _).putO (some 31) _).putO (some 32) _) w2
  ·have hE8:=((hE7.putO (some 29)<|iv<|.ofNat<|x%3).putO (some 30) (iv<|.ofNat<|x/3%10)).putO (some 31) a0
   simp only[aI,aG hE8 (x:=.const<|.bool false) (v:=.bool false) rfl,aG hE8 (x:=.tmp 29) (v:=iv<|.ofNat<|x%3) rfl,aG hE8 (x:=.tmp 30) (v:=iv<|.ofNat<|x/3%10) rfl,aG hE8 (x:=.tmp 31) (v:=a0) rfl]
  ·refine Wv rfl (Wr (.extract rfl rfl)<|Wr (.extract rfl rfl)<|Wv rfl<|Wv rfl<|Wn ?_)
   exact abX hW (abO 1) hS (adu 1 _) (aa6 ps cs zs _ aez) (Nat.min_le_right _ _) hac w5 w3 (.app (.left .here)) (cM rfl)) acP
 have run:=q5 (spine 2 c8).2 _ r1
 rw[ug]at run
 cases xx with
 | normal=>exact r4.elim
 | exit i=>exact r4.elim
 | ret=>
  obtain⟨rfl,u4,hm⟩:=r4
  refine⟨H2,cD.enter (hK8 _ _) hf8 hb8 (by rw[acL,acK];rfl) (by rw[acL];exact iL) (by rw[acL];exact run) (.inl rfl) ?_,λh=>(r3.has<|hm _ _<|.app<|.app<|w6 h).2⟩
  have e4:resultOf P e'' H2 (.tmp 6)=some (.bool true):=r2 6 _ u4
  rw[adP]
  show(match aI (resultOf P e'' H2) [.tmp 6]with | some [v]=>some v | some vs=>some (.tuple vs) | none=>none)=_
  simp only[aI,e4]
end
inductive C8 (F:Nat->FuncId):FuncId->List AV->Heap->AV->Heap->Prop
 | w (H:Heap):C8 F (F 34) [] H (.bool true) H
 | cN (H:Heap) (p c z:Int):0<=p/\p<=2->0<=c/\c<=5->1<=z/\z<=2->C8 F (F 201) [.agg (evRow 1 p c z 0 it0)] H (iv 0) H
 | cT (H:Heap) (a:Int):0<=a/\a<=2->C8 F (F 201) [.agg (evRow 20 a 0 0 0 it0)] H (iv 0) H
 | cP (H:Heap) (a:Int):0<=a/\a<=9->C8 F (F 201) [.agg (evRow 19 a 0 0 0 it0)] H (iv 0) H
 | cL (H:Heap) (a:Int):0<=a/\a<=2->C8 F (F 201) [.agg (evRow 9 a 0 1 0 it0)] H (iv 0) H
 | cU (H:Heap):C8 F (F 201) [.agg (evRow 15 0 0 0 0 it1)] H (iv 0) H
theorem C8.uniq {F:Nat->FuncId}(hne:F 34≠F 201){f:FuncId}{args:List AV}{H:Heap}{v u:AV}{H' I:Heap}(h:C8 F f args H v H')(h2:C8 F f args H u I):u=v/\I=H':=by
 have key:∀{f:FuncId}{args:List AV}{H:Heap}{v:AV}{H':Heap},C8 F f args H v H'->H'=H/\((f=F 34/\v=.bool true)\/(f=F 201/\v=iv 0)):=by
  intro f args H v H' h
  cases h<;>first | exact⟨rfl,.inl ⟨rfl,rfl⟩⟩ | exact⟨rfl,.inr ⟨rfl,rfl⟩⟩
 have q1:=key h
 have q2:=key h2
 refine⟨?_,by rw[q2.1,q1.1]⟩
 rcases q1.2 with⟨e1,w1⟩|⟨e1,w1⟩<;>rcases q2.2 with⟨e2,w2⟩|⟨e2,w2⟩<;>first|(rw[w1,w2];done)|exact absurd (e1.symm.trans e2) hne|exact absurd (e2.symm.trans e1) hne
theorem aau {a m:Nat}(h:a<=m):(0:Int)<=.ofNat a/\(.ofNat a:Int)<=.ofNat m:=⟨Int.natCast_nonneg a,Int.ofNat_le.2 h⟩
theorem says8 {P:Program}{F:Nat->FuncId}(hne:F 34≠F 201):aaC P (orcOf (C8 F)) F:=by
 have known:∀{f:FuncId}{args:List AV},(∀H,C8 F f args H (iv 0) H)->∀s,bB P (orcOf<|C8 F) f args s (λv s'=>v=iv 0/\s'=s):=λh s=>
  bB.known (λH=>kG (h H) λu I h2=>C8.uniq hne (h H) h2) ⟨rfl,rfl⟩
 refine⟨λp c z hp hc hz=>known λH=>?_,λa ha=>known λH=>?_,λa ha=>known λH=>?_,λa ha=>known λH=>?_,known λH=>.cU H⟩
 ·exact .cN H _ _ _ (aau (m:=2)<|by omega) (aau (m:=5)<|by omega) ⟨Int.ofNat_le.2 (by omega:1<=1+z),Int.ofNat_le.2 (by omega:1+z<=2)⟩
 ·exact .cT H _<|aau (m:=2)<|by omega
 ·exact .cP H _<|aau (m:=9)<|by omega
 ·exact .cL H _<|aau (m:=2)<|by omega
theorem orc8_w {F:Nat->FuncId}(hne:F 34≠F 201)(H:Heap):orcOf (C8 F) (F 34) [] H=some (.bool true,H):=kG (.w H) λu I h=>C8.uniq hne (.w H) h
theorem orc8_none {F:Nat->FuncId}{f:FuncId}(h1:f≠F 34)(h2:f≠F 201)(args:List AV)(H:Heap):orcOf (C8 F) f args H=none:=
 wn λu I h=>by cases h<;>first | exact h1 rfl | exact h2 rfl
theorem orc8_ok {P:Program}{F:Nat->FuncId}(kw:gW P (F 34) [] vu (.bool true) vu)(kN:∀p c z:Int,0<=p/\p<=2->0<=c/\c<=5->1<=z/\z<=2->gW P (F 201) [.agg (evRow 1 p c z 0 it0)] vu (iv 0) vu)
  (kT:∀a:Int,0<=a/\a<=2->gW P (F 201) [.agg (evRow 20 a 0 0 0 it0)] vu (iv 0) vu) (kP:∀a:Int,0<=a/\a<=9->gW P (F 201) [.agg (evRow 19 a 0 0 0 it0)] vu (iv 0) vu) (kL:∀a:Int,0<=a/\a<=2->gW P (F 201) [.agg (evRow 9 a 0 1 0 it0)] vu (iv 0) vu) (kU:gW P (F 201) [.agg (evRow 15 0 0 0 0 it1)] vu (iv 0) vu):OrcOk P (orcOf<|C8 F):=by
 refine DX λf args H v H' h=>?_
 cases h with
 | w=>exact kw.anywhere (λ_=>rfl) (λ_=>rfl) _
 | cN _ p c z h1 h2 h3=>exact(kN p c z h1 h2 h3).anywhere (λ_=>rfl) (λ_=>rfl) _
 | cT _ a h1=>exact(kT a h1).anywhere (λ_=>rfl) (λ_=>rfl) _
 | cP _ a h1=>exact(kP a h1).anywhere (λ_=>rfl) (λ_=>rfl) _
 | cL _ a h1=>exact(kL a h1).anywhere (λ_=>rfl) (λ_=>rfl) _
 | cU=>exact kU.anywhere (λ_=>rfl) (λ_=>rfl) _
theorem abp [Sg]{lv:AV}(h:Sg.val 2=lv)(ho:Opq lv):VA abc lv:=by
 subst h
 exact VA.DM (v:=abc) rfl ho.one ho.nb ho.same
theorem abq [Sg]{lv:AV}(h:Sg.val 3=lv)(ho:Opq lv):VA abd lv:=by
 subst h
 exact VA.DM (v:=abd) rfl ho.one ho.nb ho.same
theorem abk [Sg](b0 b1:Bool):VA (aaL b0 b1) (.agg [.bool b0,.bool b1]):=by
 exact VA.ofList (as:=[.bool b0,.bool b1]) (.cons (by cases b0<;>exact VA.bool _)<|.cons (by cases b1<;>exact VA.bool _) .nil)<|show 2<=4180 by decide
structure Trn8 (P:Program)(K:Orc)(F:Nat->FuncId)(T:Nat->TypeId)(f:FuncId)(fn:Func)(c:Code)(aaP:Func)(c35:Code)(R:iB)(n:Nat):Prop where
 mixed:P.follows .mixedOrders=true
 orc:OrcOk P K
 base:LawU P K F T
 says:aaC P K F
 rule:∀S:Sg,@Bh S R K
 func:P.funcs[f]?=some fn
 body:fn.body=some c
 nt:fn.ntmps=119
 res:fn.results.toList=[.tmp 6]
 name:(fn.name == "runtime.NumGoroutine")=false
 rest:cc P 119 (spine 2 c).2=.seq (.ops a8W) (.seq (.ops<|a8X F)<|a8Z F T)
 free:∀args H,K f args H=none
 func35:P.funcs[F 35]?=some aaP
 body35:aaP.body=some c35
 nt35:aaP.ntmps=82
 res35:aaP.results.toList=[.tmp 8,.tmp 9]
 name35:(aaP.name == "runtime.NumGoroutine")=false
 rest35:cc P 82 (spine 4 c35).2=abK F T
 free35:∀args H,K (F 35) args H=none
 runQ:∀b0 b1,pre8 P (callF P R n) c c35 fhQ b0 b1 0=true
 runP:∀b0 b1,pre8 P (callF P R n) c c35 fhP b0 b1 5=true
section
variable {P:Program}{K:Orc}{F:Nat->FuncId}{T:Nat->TypeId}{f:FuncId}{fn:Func}{c:Code}{aaP:Func}{c35:Code}{R:iB}{n:Nat}
theorem trn8_none (hl:Trn8 P K F T f fn c aaP c35 R n){b0 b1:Bool}{wh:Int}(hw:0<=wh/\wh<=255){lv:AV}{x:Value}(hlv:lenOf lv=some 0)(ho:Opq lv)(hx:VR (λ_=>none) lv x)(w:World) :
  Calls P f #[x,.int .u8 wh,.agg #[.bool b0,.bool b1]] w λe w'=>e=.returned (.bool true)/\w.keptBut w' (λ_=>False):=by
 obtain⟨y,rfl⟩:=Int.eq_ofNat_of_zero_le hw.1
 letI:Sg:=mkSg (λ_=>0) (λi=>match i with | 0=>lv | 1=>.int .u8 (.ofNat y) | 2=>iv (.ofNat<|y%3) | _=>iv<|.ofNat<|y/3%10)<|λ_=>.deferred
 have ha:VAs [rJ,Ah,aaL b0 b1] [lv,.int .u8<|.ofNat y,.agg [.bool b0,.bool b1]]:=.cons (xV rfl ho)<|.cons (tN rfl Opq.U6)<|.cons (abk b0 b1) .nil
 have Gw:VA abc (iv<|.ofNat<|y%3):=abp rfl Opq.U6
 have hv3:VA abd (iv<|.ofNat<|y/3%10):=abq rfl Opq.U6
 obtain⟨H',⟨m,h1⟩,_⟩:=abm hl.base hl.says (kX P (hl.rule _) n) hl.func35 hl.body35 hl.nt35 hl.res35 hl.name35 hl.rest35 hl.free35 hl.func hl.body hl.nt hl.res hl.name hl.rest hl.free N6 rfl (hl.runQ b0 b1) (by omega) ha Gw hv3 (L:=[]) hlv (λi hi=>absurd hi<|Nat.not_lt_zero _)<|λh=>absurd h<|Nat.not_lt_zero _
 refine callsIn_wide.1<|CallsIn.mono (qO hl.mixed hl.orc (HR.one w) (args:=[lv,.int .u8<|.ofNat y,.agg [.bool b0,.bool b1]]) (xs:=[x,.int .u8 (y:Int),.agg #[.bool b0,.bool b1]]) ⟨_,_,hx,⟨_,_,rfl,⟨_,_,⟨[.bool b0,.bool b1],⟨_,_,rfl,⟨_,_,rfl,rfl,rfl⟩,rfl⟩,(by intro v hv;simp only[List.mem_cons,List.not_mem_nil,or_false]at hv;rcases hv with rfl | rfl<;>rfl),rfl⟩,rfl,rfl⟩,rfl⟩,rfl⟩ h1).2 ?_
 rintro e w' ⟨y,rfl,g',_,hv,hh⟩
 have:y=.bool true:=hv
 subst this
 exact⟨rfl,pO (λk hk=>(hh.keep k hk).2) hh.os.1 hh.os.2⟩
theorem trn8_some (hl:Trn8 P K F T f fn c aaP c35 R n){b0 b1:Bool}{wh:Int}(hw:0<=wh/\wh<=255){z q y:Nat->Int}(hz:∀i,0<=z i/\z i<=255)(hq:∀i,0<=q i/\q i<=255)(hy:∀i,0<=y i/\y i<=255){len cap:Nat}(hpos:0<len){w:World}{iK off:Nat}{cs:Array Value}{el:TypeId}{fz:Nat × Nat}
  (hc:w.heap[iK]?=some (.cells cs el fz)) (hcell:∀i,i<len->cs[off+i*3]?=some (.int .u8<|z i)/\cs[off+i*3+1]?=some (.int .u8<|q i)/\cs[off+i*3+2]?=some (.int .u8<|y i)) :
  Calls P f #[.slice (some ⟨iK,off,none⟩) len cap,.int .u8 wh,.agg #[.bool b0,.bool b1]] w λe w'=>e=.returned (.bool true)/\w.keptBut w' (λ_=>False):=by
 obtain⟨x0,rfl⟩:=Int.eq_ofNat_of_zero_le hw.1
 obtain⟨T',qY⟩:=em<|(List.range len).map λi=>[AV.int .u8 (z i),AV.int .u8<|q i,AV.int .u8<|y i]
 have T7:∀i,i<len->((List.range len).map λi=>[AV.int .u8 (z i),AV.int .u8<|q i,AV.int .u8<|y i])[i]?=some [AV.int .u8 (z i),AV.int .u8<|q i,AV.int .u8<|y i]:=λi hi=>by
  rw[List.getElem?_map,List.getElem?_range hi];rfl
 have hT:∀i,i<len->T'.get i=some [AV.int .u8 (z i),AV.int .u8<|q i,AV.int .u8<|y i]:=λi hi=>by rw[cB qY,T7 i hi]
 have IH:((List.range len).map λi=>[AV.int .u8 (z i),AV.int .u8<|q i,AV.int .u8<|y i]).length=len:=by rw[List.length_map,List.length_range]
 letI:Sg:=mkSg (λ_=>0) (λi=>match i with | 0=>.slice (some ⟨0,0,0⟩) len cap false 3 | 1=>.int .u8 (.ofNat x0) | 2=>iv (.ofNat<|x0%3) | _=>iv<|.ofNat<|x0/3%10)<|λ_=>.rows T' len 3 true
 have ha:VAs [rJ,Ah,aaL b0 b1] [.slice (some ⟨0,0,0⟩) len cap false 3,.int .u8<|.ofNat x0,.agg [.bool b0,.bool b1]]:=.cons (xV rfl .slice)<|.cons (tN rfl Opq.U6)<|.cons (abk b0 b1) .nil
 have Gw:VA abc (iv<|.ofNat<|x0%3):=abp rfl Opq.U6
 have hv3:VA abd (iv<|.ofNat<|x0/3%10):=abq rfl Opq.U6
 obtain⟨H',⟨m,h1⟩,h2⟩:=abm hl.base hl.says (kX P (hl.rule _) n) hl.func35 hl.body35 hl.nt35 hl.res35 hl.name35 hl.rest35 hl.free35 hl.func hl.body hl.nt hl.res hl.name hl.rest hl.free N5 rfl (hl.runP b0 b1) (by omega) ha Gw hv3 (L:=(List.range len).map λi=>[AV.int .u8 (z i),AV.int .u8<|q i,AV.int .u8<|y i])
  (by rw[IH];rfl) (λi hi=>by
   rw[IH]at hi
   have g1:=hz i
   have g2:=hy i
   have g3:=hq i
   have e1:z i=.ofNat (z i).toNat:=(Int.toNat_of_nonneg g1.1).symm
   have e2:y i=.ofNat (y i).toNat:=(Int.toNat_of_nonneg g2.1).symm
   have e3:q i=.ofNat (q i).toNat:=(Int.toNat_of_nonneg g3.1).symm
   exact⟨(z i).toNat,(q i).toNat,(y i).toNat,by omega,by omega,by omega,by rw[T7 i hi,<- e1,<- e2,<- e3]⟩)
  (λ_=>⟨rfl,⟨cap,false,by rw[IH]⟩,T',by rw[IH];rfl,λi row hi=>by
   have hlt:i<len:=by
    have:=(List.getElem?_eq_some_iff.1 hi).1
    rw[IH]at this;exact this
   rw[T7 i hlt]at hi
   cases hi
   exact⟨hT i hlt,rfl⟩⟩)
 obtain⟨t,h3,h4⟩:=h2 (by rw[IH];exact hpos)
 rw[IH]at h3
 have hHR:HR ⟨λk=>k<w.heap.size/\k≠iK,λ_=>False⟩ w (gB iK off 0 3<|.cells cs el fz) (Su<|.rows T' len 3 true) w:=by
  have only:∀b o,(Su<|.rows T' len 3 true).get b=some o->b=0/\o=.rows T' len 3 true:=by
   intro b o hb
   rw[xf]at hb
   split at hb
   ·rename_i e;cases hb;exact⟨e.symm,rfl⟩
   ·cases hb
  refine⟨?_,?_,?_,?_,λk hk=>⟨hk.1,rfl⟩,Nat.le_refl _,⟨rfl,rfl⟩,λb hb=>hb.elim⟩
  ·intro b o hb
   obtain⟨rfl,rfl⟩:=only b o hb
   refine⟨⟨iK,off,0,3,some<|.cells cs el fz⟩,rfl,?_⟩
   refine⟨rfl,cs,el,fz,hc,hc,trivial,λi row hi ht=>?_⟩
   rw[hT i hi]at ht
   cases ht
   refine⟨rfl,λj v hj=>?_⟩
   match j,hj with
   | 0,hj=>cases hj;exact⟨_,(hcell i hi).1,rfl,rfl⟩
   | 1,hj=>cases hj;exact⟨_,(hcell i hi).2.1,rfl,rfl⟩
   | 2,hj=>cases hj;exact⟨_,(hcell i hi).2.2,rfl,rfl⟩
  ·intro b b' o o' d d' hb hb' _ _ _
   rw[(only b o hb).1,(only b' o' hb').1]
  ·intro b hb
   have hb:1<=b:=hb
   exact if_neg<|by omega
  ·intro b o d hb _ hd
   obtain⟨rfl,_⟩:=only b o hb
   have hd:some (⟨iK,off,0,3,some<|.cells cs el fz⟩:Gd)=some d:=hd
   cases hd
   exactλk=>k.2 rfl
 refine callsIn_wide.1<|CallsIn.mono (qO hl.mixed hl.orc hHR (args:=[.slice (some ⟨0,0,0⟩) len cap false 3,.int .u8<|.ofNat x0,.agg [.bool b0,.bool b1]]) (xs:=[.slice (some ⟨iK,off,none⟩) len cap,.int .u8 (x0:Int),.agg #[.bool b0,.bool b1]]) ⟨_,_,⟨_,rfl,λ_=>⟨rfl,rfl⟩,by simp[gX]⟩,⟨_,_,rfl,⟨_,_,⟨[.bool b0,.bool b1],⟨_,_,rfl,⟨_,_,rfl,rfl,rfl⟩,rfl⟩,(by intro v hv;simp only[List.mem_cons,List.not_mem_nil,or_false]at hv;rcases hv with rfl | rfl<;>rfl),rfl⟩,rfl,rfl⟩,rfl⟩,rfl⟩ h1).2 ?_
 rintro e w' ⟨y,rfl,g',hle,hv,hh⟩
 have:y=.bool true:=hv
 subst this
 refine⟨rfl,pO (λk hk=>?_) hh.os.1 hh.os.2⟩
 by_cases hkb:k=iK
 ·subst hkb
  obtain⟨d,hd,X8⟩:=hh.obj 0 _ h3
  have:=hle 0 ⟨k,off,0,3,some<|.cells cs el fz⟩ rfl
  rw[hd]at this
  cases this
  obtain⟨_,_,_,_,_,e2,_⟩:=X8
  have e2:w'.heap[k]?=some (.cells cs el fz):=e2
  rw[e2,hc]
 ·exact(hh.keep k ⟨hk,hkb⟩).2

end
end Go.Ev
