/- Walks and rules. Conditions: none. -/
import Derived.Test.YtbgjkfbeofbngaaGreatEvM
set_option linter.unusedVariables false
set_option linter.unusedSectionVars false
namespace Go.Ev
noncomputable def pre401 (P:Program)(ih:bT)(c c18:Code)(h0:FH)(z:Nat):Bool:=
 RE P 119 ih (spine 2 c).1 (λe h=>af9 (atR 0 e) 0&&((match h.fr.ds with | []=>true | _=>false)&&pre18 P ih c18 z h))
  (Ba [rJ] 0 cT) h0
theorem afW:∀c∈C20,c.kind=2->∀x∈c.ab,x.kind=3:=by
 intro c hc hk x hx
 simp only[C20,List.mem_cons,List.not_mem_nil,or_false]at hc
 rcases hc with rfl|rfl|rfl|rfl
 ·cases hx
 ·rw[List.mem_singleton.1 hx];rfl
 ·cases hk
 ·cases hk
section
variable [Sg]{P:Program}{K:Orc}{F:Nat->FuncId}{T:Nat->TypeId}
theorem aa4 (L0:LEnv P K F T (T 26)) (hV:BaseSe P K F) (hSP:aak P K F) (N9:Ty P (T 24) 5) (ht4:isAggT P (T 4)=some false/\size? P (T 4)=some 1) (h50:Ty P (T 50) 13) {ih:bT} (hC:eL P K ih) {fn:Func} {c:Code} (hf:P.funcs[F 18]?=some fn) (hb:fn.body=some c) (hnt:fn.ntmps=135) (hres:fn.results.toList=[.tmp 2]) (hname:(fn.name == "runtime.NumGoroutine")=false)
  (j5:cc P 135 (spine 3 c).2=aeE F T) (hK:∀args H,K (F 18) args H=none) {f8:FuncId} {fn8:Func} {c8:Code} (hf8:P.funcs[f8]?=some fn8) (hb8:fn8.body=some c8) (af6:fn8.ntmps=119) (ahe:fn8.results.toList=[.tmp 2]) (af5:(fn8.name == "runtime.NumGoroutine")=false)
  (af7:cc P 119 (spine 2 c8).2=.seq (.ops<|acL F) (acM F T)) (hK8:∀args H,K f8 args H=none) {h0:FH} {H0:Heap} (hH:cj h0 H0) (hfr:h0.fr=Kz) {z:Nat} (hpre:pre401 P ih c8 c h0 z=true) {lv:AV} (ha:VAs [rJ] [lv])
  {L:List (List AV)} (XV:lenOf lv=some L.length)
  (XW:∀i,i<L.length->∃x z y:Nat,x<=255/\z<=255/\y<=255/\L[i]?=some [.int .u8 (.ofNat x),.int .u8<|.ofNat z,.int .u8<|.ofNat y]) (XX:0<L.length->z=5/\(∃cap sl,lv=.slice (some ⟨0,0,0⟩) L.length cap sl 3)/\(HO.r true L 3).ok (some<|Sg.iK 0)) :
  ∃H',CallsTo P K f8 [lv] H0 (.bool true) H'/\(0<L.length->(HO.r true L 3).ok (H'.get 0)):=by
 obtain⟨e0,iL,XN⟩:=sU (nt:=119) ha (by omega)<|by simp
 obtain⟨E',H',ds',e',h',q1,q2,q3,q4,q5⟩:=ye (rd:=none) (ds:=[]) hC (spine 2 c8).1 XN hH (by rw[hfr];exact⟨rfl,(λD hD=>by cases hD),rfl⟩) hpre
 obtain⟨k3,q4⟩:=Bool.and_eq_true_iff.1 q4
 obtain⟨k7,aju⟩:=Bool.and_eq_true_iff.1 q4
 have hds:=fr_nil q3 k7
 subst hds
 obtain⟨a0,e0',v0⟩:=q1.slot 0<|by omega
 have YG:VA rJ lv:=by
  cases ha with
  | cons hv _=>exact hv
 have ea0:=acR k3 v0 YG rfl rfl
 subst ea0
 obtain⟨H3,s3,z0,EL,D,w1,w2,w3,w5,w6⟩:=adc L0 h50 hC hf hb hnt hres hname j5 hK q2 q3 aju YG XV XW XX
 have hE7:En [(0,a0)] E':=by
  intro i v hi
  simp only[lu]at hi
  split at hi
  ·grind
  ·cases hi
 have KO:WOa P K (acL F) E' [] H' ⟨.lf,0⟩ (λl ds s=>WP P K none 119 (acM F T) l ds s Kj (λ_=>Kj)<|adP<|Dw t20++z0):=by
  unfold acL
  refine WOa.r (.mv rfl) hE7<|WOa.cons (qu.call (fv:=.func (F 18) [] []) (vs:=[a0]) rfl ?_<|ki.func w1)<|WOa.of ?_ ((hE7.putO (some 16) _).putO (some 17) _) w2
  ·have hE8:=hE7.putO (some 16) a0
   simp only[aI,aG hE8 (x:=.tmp 16) (v:=a0) rfl]
  ·refine Wv rfl (Wn ?_)
   exact adT L0 hV hSP N9 ht4 abB afW .here (adb _) w3 w5<|bX rfl
 obtain⟨xx,e'',Xu,H2,l',s',r1,r2,r3,r4⟩:=KO.seq af7
 have run:=q5 (spine 2 c8).2 _ r1
 rw[ug]at run
 cases xx with
 | normal=>exact r4.elim
 | exit i=>exact r4.elim
 | ret=>
  obtain⟨rfl,u4,hm⟩:=r4
  refine⟨H2,CallsTo.enter (hK8 _ _) hf8 hb8 (by rw[af6,af5];rfl) (by rw[af6];exact iL) (by rw[af6];exact run) (.inl rfl) ?_,λh=>(r3.has<|hm _ _<|.app<|w6 h).2⟩
  have e4:resultOf P e'' H2 (.tmp 2)=some (.bool true):=r2 2 _ u4
  rw[ahe]
  simp only[aI,e4]
end
inductive C12 (F:Nat->FuncId):FuncId->List AV->Heap->AV->Heap->Prop
 | w (H:Heap):C12 F (F 17) [] H (.bool true) H
 | new (H:Heap) (p c m:Int):0<=p/\p<=2->0<=c/\c<=3->0<=m/\m<=1->C12 F (F 201) [.agg (evRow 1 p c 2 m l5)] H (iv 0) H
 | life (H:Heap) (p n:Int):0<=p/\p<=2->-24<=n/\n<=0->C12 F (F 201) [.agg (evRow 7 p 0 n 0 l5)] H (iv 0) H
 | hurt (H:Heap) (a n:Int):1<=a/\a<=1000000->0<=n/\n<=2->C12 F (F 201) [.agg (evRow 5 a 0 n 0 l5)] H (iv 0) H
 | hurt0 (H:Heap) (n:Int):0<=n/\n<=2->C12 F (F 201) [.agg (evRow 5 0 0 n 0 l5)] H (iv 2) H
 | empty (H:Heap) (p:Int):0<=p/\p<=2->C12 F (F 201) [.agg (evRow 24 p 0 0 0 l5)] H (iv 0) H
 | wait (H:Heap) (c o k a:Int):0<=c/\c<=2->0<=o/\o<=1000000->0<=k/\k<=3->0<=a/\a<=3->C12 F (F 201) [.agg (evRow 17 0 0 0 0 ⟨0,3,c,o,k,a⟩)] H (iv 0) H
 | lose (H:Heap) (p:Int):0<=p/\p<=2->C12 F (F 201) [.agg (evRow 23 p 0 0 0 l5)] H (iv 0) H
 | unwait (H:Heap) (a:Int):1<=a/\a<=1000000->C12 F (F 201) [.agg (evRow 18 a 0 0 0 l5)] H (iv 0) H
 | cease (H:Heap) (a:Int):1<=a/\a<=1000000->C12 F (F 201) [.agg (evRow 25 a 0 0 0 l5)] H (iv 0) H
 | move (H:Heap) (a:Int):1<=a/\a<=1000000->C12 F (F 201) [.agg (evRow 2 a 3 0 0 l5)] H (iv 0) H
 | win (H:Heap) (p:Int):0<=p/\p<=2->C12 F (F 201) [.agg (evRow 29 1 p 0 0 l5)] H (iv 0) H
 | draw (H:Heap):C12 F (F 201) [.agg (evRow 29 2 0 0 0 l5)] H (iv 0) H
 | push (H:Heap) (c o k a:Int):0<=c/\c<=2->-1<=o/\o<=1000000->0<=k/\k<=3->0<=a/\a<=3->C12 F (F 201) [.agg (evRow 15 0 0 0 0 ⟨0,3,c,o,k,a⟩)] H (iv 0) H
 | limit (H:Heap):C12 F (F 201) [.agg (evRow 29 3 0 0 0 l5)] H (iv 0) H
def afP:List AV->AV
 | [.agg (.int _ k::.int _ a::_)]=>if k=5/\a=0 then iv 2 else iv 0
 | _=>iv 0
variable {F:Nat->FuncId}{f:FuncId}{args:List AV}
theorem C12.uniq (hne:F 17≠F 201){H:Heap}{v u:AV}{H' I:Heap}(h:C12 F f args H v H')(h2:C12 F f args H u I):u=v/\I=H':=by
 have key:∀{f:FuncId}{args:List AV}{H:Heap}{v:AV}{H':Heap},C12 F f args H v H'->H'=H/\((f=F 17/\v=.bool true)\/(f=F 201/\v=afP args)):=by
  intro f args H v H' h
  have no:∀{k a:Int}{l:List AV},¬(k=5/\a=0)->iv 0=afP [.agg (iv k::iv a::l)]:=λhh=>(if_neg hh).symm
  cases h with
  | w=>grind
  | hurt _ a n h1 h2=>grind
  | hurt0=>exact⟨rfl,.inr ⟨rfl,rfl⟩⟩
  | _=>exact⟨rfl,.inr ⟨rfl,no<|λhh=>absurd hh.1<|by decide⟩⟩
 grind
variable {P:Program}
theorem abn (hne:F 17≠F 201){w:AV}(h:∀H,C12 F f args H w H)(s:SH):bB P (orcOf (C12 F)) f args s (λv s'=>v=w/\s'=s):=
 bB.known (λH=>kG (h H) λu I h2=>C12.uniq hne (h H) h2) ⟨rfl,rfl⟩
theorem says12 (hne:F 17≠F 201):aft P (orcOf (C12 F)) F:=by
 have known:∀{args:List AV}{w:AV},(∀H,C12 F (F 201) args H w H)->∀s,bB P (orcOf<|C12 F) (F 201) args s (λv s'=>v=w/\s'=s):=λh s=>abn hne h s
 have nat:∀{p:Nat},p<3->(0:Int)<=.ofNat p/\(.ofNat p:Int)<=2:=λh=>⟨Int.natCast_nonneg _,Int.ofNat_le.2<|Nat.le_of_lt_succ h⟩
 exact{
  new:=λp c m s hp hc hm=>known (λH=>.new H _ _ _ (nat hp) ⟨Int.natCast_nonneg _,Int.ofNat_le.2<|Nat.le_of_lt_succ hc⟩<|by omega) s
  life:=λp n s hp h1 h2=>known (λH=>.life H _ _ (nat hp) ⟨h1,h2⟩) s
  hurt:=λa n s h1 h2 h3 h4=>known (λH=>.hurt H _ _ ⟨h1,h2⟩ ⟨h3,h4⟩) s
  hurt0:=λn s h3 h4=>known (λH=>.hurt0 H _ ⟨h3,h4⟩) s
  empty:=λp s hp=>known (λH=>.empty H _<|nat hp) s
  wait:=λc o k a s h1 h2 h3 h4=>known (λH=>.wait H _ _ _ _ h1 h2 h3 h4) s
  lose:=λp s hp=>known (λH=>.lose H _<|nat hp) s
  unwait:=λa s h1 h2=>known (λH=>.unwait H _ ⟨h1,h2⟩) s
  cease:=λa s h1 h2=>known (λH=>.cease H _ ⟨h1,h2⟩) s
  move:=λa s h1 h2=>known (λH=>.move H _ ⟨h1,h2⟩) s
  win:=λp s hp=>known (λH=>.win H _<|nat hp) s
  draw:=λs=>known (λH=>.draw H) s }
theorem saysP12 (hne:F 17≠F 201):aak P (orcOf (C12 F)) F where
 push:=λc o k a s h1 h2 h3 h4=>abn hne (λH=>.push H _ _ _ _ h1 h2 h3 h4) s
 limit:=λs=>abn hne (λH=>.limit H) s
theorem orc12_w (hne:F 17≠F 201)(H:Heap):orcOf (C12 F) (F 17) [] H=some (.bool true,H):=kG (.w H) λu I h=>C12.uniq hne (.w H) h
theorem orc12_none (h1:f≠F 17)(h2:f≠F 201)(args:List AV)(H:Heap):orcOf (C12 F) f args H=none:=
 acw λu I h=>by cases h<;>first | exact h1 rfl | exact h2 rfl
theorem orc12_ok (kw:gW P (F 17) [] vu (.bool true) vu)
  (k:∀args v H,C12 F (F 201) args H v H->gW P (F 201) args vu v vu):OrcOk P (orcOf<|C12 F):=by
 refine DX λf args H v H' h=>?_
 have h0:=h
 cases h with
 | w=>exact kw.anywhere (λ_=>rfl) (λ_=>rfl) _
 | _=>exact(k _ _ _ h0).anywhere (λ_=>rfl) (λ_=>rfl) _
structure Trn12 (P:Program)(K:Orc)(F:Nat->FuncId)(T:Nat->TypeId)(f:FuncId)(fn:Func)(c:Code)(abJ:Func)(c18:Code)(R:iB)(n:Nat):Prop where
 mixed:P.follows .mixedOrders=true
 orc:OrcOk P K
 base:LEnv P K F T (T 26)
 t50:Ty P (T 50) 13
 se:BaseSe P K F
 sp:aak P K F
 t24:Ty P (T 24) 5
 t4:isAggT P (T 4)=some false/\size? P (T 4)=some 1
 rule:∀S:Sg,@Bh S R K
 func:P.funcs[f]?=some fn
 body:fn.body=some c
 nt:fn.ntmps=119
 res:fn.results.toList=[.tmp 2]
 name:(fn.name == "runtime.NumGoroutine")=false
 rest:cc P 119 (spine 2 c).2=.seq (.ops<|acL F) (acM F T)
 free:∀args H,K f args H=none
 func18:P.funcs[F 18]?=some abJ
 body18:abJ.body=some c18
 nt18:abJ.ntmps=135
 res18:abJ.results.toList=[.tmp 2]
 name18:(abJ.name == "runtime.NumGoroutine")=false
 rest18:cc P 135 (spine 3 c18).2=aeE F T
 free18:∀args H,K (F 18) args H=none
 runQ:pre401 P (callF P R n) c c18 fhQ 0=true
 runP:pre401 P (callF P R n) c c18 fhP 5=true
section
variable {P:Program}{K:Orc}{F:Nat->FuncId}{T:Nat->TypeId}{f:FuncId}{fn:Func}{c:Code}{abJ:Func}{c18:Code}{R:iB}{n:Nat}
theorem trn12_none (hl:Trn12 P K F T f fn c abJ c18 R n){lv:AV}{x:Value}(hlv:lenOf lv=some 0)(ho:Opq lv)(hx:VR (λ_=>none) lv x)(w:World) :
  Calls P f #[x] w λe w'=>e=.returned (.bool true)/\w.keptBut w' (λ_=>False):=by
 letI:Sg:=mkSg (λ_=>0) (λ_=>lv)<|λ_=>.deferred
 have ha:VAs [rJ] [lv]:=.cons (xV rfl ho) .nil
 obtain⟨H',⟨m,h1⟩,_⟩:=aa4 hl.base hl.se hl.sp hl.t24 hl.t4 hl.t50 (kX P (hl.rule _) n) hl.func18 hl.body18 hl.nt18 hl.res18 hl.name18 hl.rest18 hl.free18 hl.func hl.body hl.nt hl.res hl.name hl.rest hl.free N6 rfl hl.runQ ha (L:=[]) hlv (λi hi=>absurd hi<|Nat.not_lt_zero _)<|λh=>absurd h<|Nat.not_lt_zero _
 refine callsIn_wide.1<|CallsIn.mono (qO hl.mixed hl.orc (HR.one w) (args:=[lv]) (xs:=[x]) ⟨_,_,hx,rfl,rfl⟩ h1).2 ?_
 rintro e w' ⟨y,rfl,g',_,hv,hh⟩
 have:y=.bool true:=hv
 subst this
 exact⟨rfl,pO (λk hk=>(hh.keep k 0 hk).2) hh.os.1 hh.os.2⟩
theorem trn12_some (hl:Trn12 P K F T f fn c abJ c18 R n){z q y:Nat->Int}(hz:∀i,0<=z i/\z i<=255)(hq:∀i,0<=q i/\q i<=255)(hy:∀i,0<=y i/\y i<=255){len cap:Nat}(hpos:0<len){w:World}{iK off:Nat}{cs:Array Value}{el:TypeId}{fz:Nat × Nat}
  (hc:w.heap[iK]?=some (.cells cs el fz)) (hcell:∀i,i<len->cs[off+i*3]?=some (.int .u8<|z i)/\cs[off+i*3+1]?=some (.int .u8<|q i)/\cs[off+i*3+2]?=some (.int .u8<|y i)) :
  Calls P f #[.slice (some ⟨iK,off,none⟩) len cap] w λe w'=>e=.returned (.bool true)/\w.keptBut w' (λ_=>False):=by
 obtain⟨T',qY⟩:=em<|(List.range len).map λi=>[AV.int .u8 (z i),AV.int .u8<|q i,AV.int .u8<|y i]
 have T7:∀i,i<len->((List.range len).map λi=>[AV.int .u8 (z i),AV.int .u8<|q i,AV.int .u8<|y i])[i]?=some [AV.int .u8 (z i),AV.int .u8<|q i,AV.int .u8<|y i]:=λi hi=>by
  rw[List.getElem?_map,List.getElem?_range hi];rfl
 have hT:∀i,i<len->T'.get i=some [AV.int .u8 (z i),AV.int .u8<|q i,AV.int .u8<|y i]:=λi hi=>by rw[cB qY,T7 i hi]
 have IH:((List.range len).map λi=>[AV.int .u8 (z i),AV.int .u8<|q i,AV.int .u8<|y i]).length=len:=by grind
 letI:Sg:=mkSg (λ_=>0) (λ_=>.slice (some ⟨0,0,0⟩) len cap false 3)<|λ_=>.rows T' len 3 true
 have ha:VAs [rJ] [.slice (some ⟨0,0,0⟩) len cap false 3]:=.cons (xV rfl .slice) .nil
 obtain⟨H',⟨m,h1⟩,h2⟩:=aa4 hl.base hl.se hl.sp hl.t24 hl.t4 hl.t50 (kX P (hl.rule _) n) hl.func18 hl.body18 hl.nt18 hl.res18 hl.name18 hl.rest18 hl.free18 hl.func hl.body hl.nt hl.res hl.name hl.rest hl.free N5 rfl hl.runP ha (L:=(List.range len).map λi=>[AV.int .u8 (z i),AV.int .u8<|q i,AV.int .u8<|y i])
  (by rw[IH];rfl) (λi hi=>by
   rw[IH]at hi
   have g1:=hz i
   have g2:=hy i
   have g3:=hq i
   have e1:z i=.ofNat (z i).toNat:=(Int.toNat_of_nonneg g1.1).symm
   have e2:y i=.ofNat (y i).toNat:=(Int.toNat_of_nonneg g2.1).symm
   have e3:q i=.ofNat (q i).toNat:=(Int.toNat_of_nonneg g3.1).symm
   exact⟨(z i).toNat,(q i).toNat,(y i).toNat,by omega,by omega,by omega,by rw[T7 i hi,<- e1,<- e2,<- e3]⟩)
  (λ_=>⟨rfl,⟨cap,false,by rw[IH]⟩,T',by rw[IH];rfl,λi row hi=>by
   have hlt:i<len:=by
    have:=(List.getElem?_eq_some_iff.1 hi).1
    rw[IH]at this;exact this
   rw[T7 i hlt]at hi
   cases hi
   exact⟨hT i hlt,rfl⟩⟩)
 obtain⟨t,h3,h4⟩:=h2 (by rw[IH];exact hpos)
 have hHR:HR ⟨λk _=>k<w.heap.size/\k≠iK,λ_=>False⟩ w (gB iK off 0 3<|.cells cs el fz) (Su<|.rows T' len 3 true) w:=by
  have only:∀b o,(Su<|.rows T' len 3 true).get b=some o->b=0/\o=.rows T' len 3 true:=by
   intro b o hb
   rw[xf]at hb
   split at hb
   ·rename_i e;cases hb;exact⟨e.symm,rfl⟩
   ·cases hb
  refine⟨?_,?_,?_,?_,λk _ hk=>⟨hk.1,rfl⟩,Nat.le_refl _,⟨rfl,rfl⟩,λb hb=>hb.elim,λk t h=>h,λb o d hb hw hd=>by obtain⟨_,rfl⟩:=only b o hb;cases hw⟩
  ·intro b o hb
   obtain⟨rfl,rfl⟩:=only b o hb
   refine⟨⟨iK,off,0,3,some<|.cells cs el fz⟩,rfl,?_⟩
   refine⟨rfl,cs,el,fz,hc,hc,trivial,λi row hi ht=>?_⟩
   rw[hT i hi]at ht
   cases ht
   refine⟨rfl,λj v hj=>?_⟩
   match j,hj with
   | 0,hj=>cases hj;exact⟨_,(hcell i hi).1,rfl,rfl⟩
   | 1,hj=>cases hj;exact⟨_,(hcell i hi).2.1,rfl,rfl⟩
   | 2,hj=>cases hj;exact⟨_,(hcell i hi).2.2,rfl,rfl⟩
  ·intro b b' o o' d d' hb hb' _ _ _
   rw[(only b o hb).1,(only b' o' hb').1]
  ·intro b hb
   have hb:1<=b:=hb
   exact if_neg<|by omega
  ·intro b o d hb _ hd
   obtain⟨rfl,_⟩:=only b o hb
   have hd:some (⟨iK,off,0,3,some<|.cells cs el fz⟩:Gd)=some d:=hd
   cases hd
   exactλk=>k.2 rfl
 refine callsIn_wide.1<|CallsIn.mono (qO hl.mixed hl.orc hHR (args:=[.slice (some ⟨0,0,0⟩) len cap false 3]) (xs:=[.slice (some ⟨iK,off,none⟩) len cap]) ⟨_,_,⟨_,rfl,λ_=>⟨rfl,rfl⟩,by simp[gX]⟩,rfl,rfl⟩ h1).2 ?_
 rintro e w' ⟨y,rfl,g',hle,hv,hh⟩
 have:y=.bool true:=hv
 subst this
 refine⟨rfl,pO (λk hk=>?_) hh.os.1 hh.os.2⟩
 by_cases hkb:k=iK
 ·subst hkb
  obtain⟨d,hd,X8⟩:=hh.obj 0 _ h3
  have:=hle 0 ⟨k,off,0,3,some<|.cells cs el fz⟩ rfl
  rw[hd]at this
  cases this
  obtain⟨_,_,_,_,_,e2,_⟩:=X8
  have e2:w'.heap[k]?=some (.cells cs el fz):=e2
  rw[e2,hc]
 ·exact(hh.keep k 0 ⟨hk,hkb⟩).2

end
end Go.Ev
