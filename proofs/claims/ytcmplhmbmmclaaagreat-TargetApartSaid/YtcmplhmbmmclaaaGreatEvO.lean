/- Walks and rules. Conditions: none. -/
import Derived.Test.YtcmplhmbmmclaaaGreatEvN
set_option linter.unusedVariables false
set_option linter.unusedSectionVars false
namespace Go.Ev
structure aax (P:Program)(K:Orc)(F:Nat->FuncId):Prop where
 g:nH P K F
 cL:∀s,bB P K (F 201) [.agg (evRow 23 (.ofNat 2) 0 0 0 it0)] s (λv s'=>v=iv 0/\s'=s)
noncomputable def pre6 (P:Program)(ih:bT)(c Ib:Code)(h0:FH)(lo:Bool)(z:Nat):Bool:=
 RE P 178 ih (spine 2 c).1 (λe h=>Nat.beq (atR 0 e).t 13&&(Nat.beq (atR 0 e).a 0&&(Nat.beq (atR 2 e).t 13&&(Nat.beq (atR 2 e).a 1&&((match h.fr.ds with | []=>true | _=>false)&&(wI e [(1,.bool lo)]&&K1 P ih Ib lo z h))))))
  (Ba [rJ,vB lo,Ah] 0 cT) h0
section
variable [Sg]{P:Program}{K:Orc}{F:Nat->FuncId}{T:Nat->TypeId}
theorem aar (hB:Base P K F T) (hL:BaseL P K F T) (hS:aax P K F) {ih:bT} (hC:eL P K ih) {fn:Func} {c:Code} (hf:P.funcs[F 23]?=some fn) (hb:fn.body=some c) (hnt:fn.ntmps=62) (hres:fn.results.toList=[.tmp 4,.tmp 5]) (hname:(fn.name == "runtime.NumGoroutine")=false)
  (j5:cc P 62 (spine 4 c).2=Bp F T) (hK:∀args H,K (F 23) args H=none) {h0:FH} {H0:Heap} (hH:cj h0 H0) (hfr:xe h0.fr [] none) {z:Nat} {lost:Bool} (hpre:K1 P ih c lost z h0=true) {lv:AV} (hlv:VA rJ lv) {L:List (List AV)} {ps cs:Nat->Nat} (XV:lenOf lv=some L.length)
  (XW:∀i,i<L.length->∃x y:Nat,x<=255/\y<=255/\L[i]?=some [.int .u8 (.ofNat x),.int .u8 (.ofNat y)]/\x%5=cs i/\y%3=ps i) (XX:0<L.length->z=5/\(∃cap sl,lv=.slice (some ⟨0,0,0⟩) L.length cap sl 2)/\(HO.r true L 2).ok (some (Sg.iK 0))) :
  ∃H' s' z0 ids og j EL,cD P K (F 23) [.bool lost,lv] H0 (.tuple [.ptr (some ⟨140,0,0⟩),ids]) H'/\Hp ⟨.lf,0⟩ s' H'/\aH 142 EL (dL ps cs (min L.length 20) lost) (og++(j++((140,.r false [pH] 8)::(200,.r false (sm.map CD.row) 11)::(1,.r false [zb] 13)::z0))) s'/\Gr 1 ids (nR (fI (min L.length 20))) og/\EL.length<=21/\(0<L.length->Has 0 (.r true L 2) z0):=by
 have hvl:VA (vB lost) (.bool lost):=by cases lost<;>exact VA.bool _
 obtain⟨e0,iL,XN⟩:=sU (nt:=62) (.cons hvl (.cons hlv .nil)) (by omega) (by simp)
 obtain⟨E',H',ds',e',h',q1,q2,q3,q4,q5⟩:=ye (rd:=none) (ds:=[]) hC (spine 4 c).1 XN hH hfr hpre
 obtain⟨k1,q4⟩:=Bool.and_eq_true_iff.1 q4
 obtain⟨k2,q4⟩:=Bool.and_eq_true_iff.1 q4
 obtain⟨k3,q4⟩:=Bool.and_eq_true_iff.1 q4
 obtain⟨k4,q4⟩:=Bool.and_eq_true_iff.1 q4
 obtain⟨k5,q4⟩:=Bool.and_eq_true_iff.1 q4
 obtain⟨k6,k7⟩:=Bool.and_eq_true_iff.1 q4
 have hds:=Cl q3 k7
 subst hds
 have hmem:=Dv q2 k1
 have ng:=AH q1 k2 (λp hp=>by
  simp only[List.mem_cons,List.not_mem_nil,or_false]at hp
  rcases hp with rfl|rfl|rfl<;>exact Nat.le_of_ble_eq_true rfl)
 obtain⟨a1,Xv,v1⟩:=q1.slot 1 (by omega)
 have Xw:a1=lv:=by
  have h1:=(v1.mP (Nat.eq_of_beq_eq_true k3)).1
  rw[Nat.eq_of_beq_eq_true k4]at h1
  rw[h1,(hlv.mP rfl).1]
  rfl
 subst Xw
 have main:∀z0:SH,(∀b o,(b,o)∈z0->b=0/\b<H'.next/\o.ok (H'.get b))->z0.Pairwise (λp q=>p.1≠q.1)->(0<L.length->∃cap sl,a1=.slice (some ⟨0,0,0⟩) L.length cap sl 2/\Has 0 (.r true L 2) z0) ->
   ∃H3 s' z0 ids og j EL,cD P K (F 23) [.bool lost,a1] H0 (.tuple [.ptr (some ⟨140,0,0⟩),ids]) H3/\Hp ⟨.lf,0⟩ s' H3/\aH 142 EL (dL ps cs (min L.length 20) lost) (og++(j++((140,.r false [pH] 8)::(200,.r false (sm.map CD.row) 11)::(1,.r false [zb] 13)::z0))) s'/\Gr 1 ids (nR (fI (min L.length 20))) og/\EL.length<=21/\(0<L.length->Has 0 (.r true L 2) z0):=by
  intro z0 hz0 hzp mO
  have hp:Hp ⟨.lf,0⟩ (Dw Dt++z0) H':=by
   refine⟨Nat.zero_le _,?_,?_,λb hb=>absurd hb (Nat.not_lt_zero _)⟩
   ·intro b o hb
    rcases List.mem_append.1 hb with hb|hb
    ·exact hmem b o hb
    ·exact(hz0 b o hb).2
   ·refine List.pairwise_append.2 ⟨?_,hzp,?_⟩
    ·simp[Dw,Dt]
    ·intro p hp q hq
     have:=(hz0 q.1 q.2 hq).1
     rw[this]
     simp only[Dw,Dt,List.map_cons,List.map_nil,List.mem_cons,List.not_mem_nil,or_false]at hp
     rcases hp with rfl|rfl|rfl|rfl|rfl|rfl|rfl|rfl|rfl<;>exact Nat.succ_ne_zero _
  have hs:aH 142 [] d5 ((140,.r false [pH] 8)::(200,.r false (sm.map CD.row) 11)::(1,.r false [zb] 13)::z0) (Dw Dt++z0):=Je _
  have XO:En [(0,.bool lost),(1,a1),(6,.ptr (some ⟨140,0,0⟩)),(8,nilS)] E':=by
   intro i v hi
   simp only[lu]at hi
   split at hi
   ·rename_i h;cases hi;rw[<- h];exact ng 0 _ (by simp)
   ·split at hi
    ·rename_i h;cases hi;rw[<- h];exact Xv
    ·split at hi
     ·rename_i h;cases hi;rw[<- h];exact ng 6 _ (by simp)
     ·split at hi
      ·rename_i h;cases hi;rw[<- h];exact ng 8 _ (by simp)
      ·cases hi
  obtain⟨xx,e'',Xu,H2,l',s',r1,r2,r3,r4⟩:=N3 hB hS.g (T:=T) (Qn:=Kj) (Qe:=λ_=>Kj) (Qr:=λl ds s=>ds=[]/\∃ids og j EL,aH 142 EL (dL ps cs (min L.length 20) lost) (og++(j++((140,.r false [pH] 8)::(200,.r false (sm.map CD.row) 11)::(1,.r false [zb] 13)::z0))) s/\Gr 1 ids (nR (fI (min L.length 20))) og/\EL.length<=21/\lk l 4=some (.ptr (some ⟨140,0,0⟩))/\lk l 5=some ids)
   ⟨XV,λh=>by
    obtain⟨cap,sl,w1,w2⟩:=mO h
    exact⟨0,cap,sl,w1,.there (.there (.there w2))⟩,XW⟩ hs .here (lost:=lost) rfl rfl rfl rfl (by
   rintro l2 s2 ids og j Gg n rfl hE dt hG hl
   refine Wg hl (λ_ _ h=>h) ?_
   unfold GG
   have aa6:min L.length 20<=20:=Nat.min_le_right _ _
   cases lost with
   | false=>
    refine Ws (Wq (Wv rfl (Wn (Wd rfl fS (λ_=>Wi ?_)))))
    exact Wq (Wv rfl (Wv rfl (Wv rfl (Wv rfl (Wn (We ⟨rfl,ids,og,j,Gg,dt,hG,by omega,rfl,rfl⟩))))))
   | true=>
    have hap:Ap P K F 23 (.ofNat 2) 0 0 0 it0 (dT ps cs (min L.length 20)) (dL ps cs (min L.length 20) true):=aaz hB hL (o:=Zz) (p:=2) (iY ps cs aa6) (xn ps cs _) rfl hS.cL
    refine Ws (Wq (Wv rfl (Wn (Wd rfl (λ_=>?_) Dz))))
    refine Wo (Wv rfl (Wr (.build (cs:=evRow 23 (.ofNat 2) 0 0 0 it0) rfl rfl) (Ww (Wz [.ptr (some ⟨140,0,0⟩),.agg (evRow 23 (.ofNat 2) 0 0 0 it0)] rfl rfl (aaD hB dt (iY ps cs aa6) (.app (.app .here)) (by omega) (by decide) (by decide) (by decide) (by decide) hap) ?_))))
    rintro w s3 ⟨_,gw⟩
    refine Wn (Wq (Wv rfl (Wv rfl (Wv rfl (Wv rfl (Wn (We ⟨rfl,ids,og,j,_,gw,hG,?_,rfl,rfl⟩)))))))
    rw[List.length_append]
    exact Nat.add_le_add_right hE 1) (spine 4 c).2 j5 ⟨.lf,0⟩ E' H' XO hp
  have run:=q5 (spine 4 c).2 _ r1
  rw[ug]at run
  cases xx with
  | normal=>exact r4.elim
  | exit i=>exact r4.elim
  | ret=>
   obtain⟨rfl,ids,og,j,EL,w1,w2,w3,w4,w5⟩:=r4
   refine⟨H2,s',z0,ids,og,j,EL,cD.enter (hK _ _) hf hb (by rw[hnt,hname];rfl) (by rw[hnt];exact iL) (by rw[hnt];exact run) (.inl rfl) ?_,r3,w1,w2,w3,λh=>(mO h).choose_spec.choose_spec.2⟩
   have e4:resultOf P e'' H2 (.tmp 4)=some _:=r2 4 _ w4
   have e5:resultOf P e'' H2 (.tmp 5)=some _:=r2 5 _ w5
   rw[hres]
   show(match aI (resultOf P e'' H2) [.tmp 4,.tmp 5]with | some [v]=>some v | some vs=>some (.tuple vs) | none=>none)=_
   simp only[aI,e4,e5]
 rcases Nat.eq_zero_or_pos L.length with h|h
 ·exact main [] (λb o hb=>nomatch hb) .nil (λk=>by omega)
 ·obtain⟨rfl,⟨cap,sl,hl⟩,hok⟩:=XX h
  have g0:=(q2.block 0 (by omega)).DM (Nat.eq_of_beq_eq_true k5)
  rw[Nat.eq_of_beq_eq_true k6]at g0
  have hn:0<H'.next:=Nat.lt_of_le_of_lt (Nat.zero_le _) (hmem 142 _ (List.mem_cons_self ..)).1
  refine main [(0,.r true L 2)] ?_ (List.pairwise_singleton ..) (λ_=>⟨cap,sl,hl,.here⟩)
  intro b o hb
  rw[List.mem_singleton]at hb
  cases hb
  exact⟨rfl,hn,by rw[g0];exact hok⟩
theorem aay (hW:LawG P K F T) (hL:BaseL P K F T) (hS:aax P K F) {ih:bT} (hC:eL P K ih) {fn:Func} {c:Code} (hf:P.funcs[F 23]?=some fn) (hb:fn.body=some c) (hnt:fn.ntmps=62) (hres:fn.results.toList=[.tmp 4,.tmp 5]) (hname:(fn.name == "runtime.NumGoroutine")=false)
  (j5:cc P 62 (spine 4 c).2=Bp F T) (hK:∀args H,K (F 23) args H=none) {f5:FuncId} {TH:Func} {c5:Code} (hf5:P.funcs[f5]?=some TH) (hb5:TH.body=some c5) (PU:TH.ntmps=178) (US:TH.results.toList=[.tmp 6]) (PP:(TH.name == "runtime.NumGoroutine")=false)
  (PY:cc P 178 (spine 2 c5).2=.seq (.ops (a6X F)) (a6Z F T)) (hK5:∀args H,K f5 args H=none) {h0:FH} {H0:Heap} (hH:cj h0 H0) (hfr:h0.fr=Kz) {z:Nat} {lost:Bool} (hpre:pre6 P ih c5 c h0 lost z=true) {x:Nat} (hx:x<=255) {lv:AV} (ha:VAs [rJ,vB lost,Ah] [lv,.bool lost,.int .u8 (.ofNat x)]) {L:List (List AV)} (XV:lenOf lv=some L.length)
  (XW:∀i,i<L.length->∃x y:Nat,x<=255/\y<=255/\L[i]?=some [.int .u8 (.ofNat x),.int .u8 (.ofNat y)]) (XX:0<L.length->z=5/\(∃cap sl,lv=.slice (some ⟨0,0,0⟩) L.length cap sl 2)/\(HO.r true L 2).ok (some (Sg.iK 0))) :
  ∃H',cD P K f5 [lv,.bool lost,.int .u8 (.ofNat x)] H0 (.bool true) H'/\(0<L.length->(HO.r true L 2).ok (H'.get 0)):=by
 obtain⟨e0,iL,XN⟩:=sU (nt:=178) ha (by omega) (by simp)
 obtain⟨E',H',ds',e',h',q1,q2,q3,q4,q5⟩:=ye (rd:=none) (ds:=[]) hC (spine 2 c5).1 XN hH (by rw[hfr];exact⟨rfl,(λD hD=>by cases hD),rfl⟩) hpre
 obtain⟨k3,q4⟩:=Bool.and_eq_true_iff.1 q4
 obtain⟨k4,q4⟩:=Bool.and_eq_true_iff.1 q4
 obtain⟨j3,q4⟩:=Bool.and_eq_true_iff.1 q4
 obtain⟨j4,q4⟩:=Bool.and_eq_true_iff.1 q4
 obtain⟨k7,q4⟩:=Bool.and_eq_true_iff.1 q4
 obtain⟨kS,YS⟩:=Bool.and_eq_true_iff.1 q4
 have e1b:E'.get 1=some (.bool lost):=AH q1 kS (λp hp=>by rw[List.mem_singleton.1 hp];exact Nat.le_of_ble_eq_true rfl) 1 _ (by simp)
 have hds:=Cl q3 k7
 subst hds
 obtain⟨a0,e0',v0⟩:=q1.slot 0 (by omega)
 obtain⟨a1,Xv,v1⟩:=q1.slot 2 (by omega)
 obtain⟨YG,hlv,hwh⟩:VA rJ lv/\Sg.val 0=lv/\Sg.val 1=.int .u8 (.ofNat x):=by
  cases ha with
  | cons hv ha=>
   cases ha with
   | cons _ ha=>
   cases ha with
   | cons hw _=>exact⟨hv,(hv.mP rfl).1.symm,(hw.mP rfl).1.symm⟩
 have ea0:a0=lv:=by
  have h1:=(v0.mP (Nat.eq_of_beq_eq_true k3)).1
  rw[Nat.eq_of_beq_eq_true k4]at h1
  rw[h1,hlv]
 have Xw:a1=.int .u8 (.ofNat x):=by
  have h1:=(v1.mP (Nat.eq_of_beq_eq_true j3)).1
  rw[Nat.eq_of_beq_eq_true j4]at h1
  rw[h1,hwh]
 subst ea0 Xw
 -- what the aZ are
 let cs:Nat->Nat:=λj=>match L[j]? with | some [.int .u8 (.ofNat y),_]=>y%5 | _=>0
 let ps:Nat->Nat:=λj=>match L[j]? with | some [_,.int .u8 (.ofNat y)]=>y%3 | _=>0
 have Pw:∀i,i<L.length->∃x y:Nat,x<=255/\y<=255/\L[i]?=some [.int .u8 (.ofNat x),.int .u8 (.ofNat y)]/\x%5=cs i/\y%3=ps i:=by
  intro i hi
  obtain⟨x,y,h1,h2,h3⟩:=XW i hi
  refine⟨x,y,h1,h2,h3,?_,?_⟩
  ·show _=(match L[i]? with | some [.int .u8 (.ofNat y),_]=>y%5 | _=>0)
   rw[h3]
  ·show _=(match L[i]? with | some [_,.int .u8 (.ofNat y)]=>y%3 | _=>0)
   rw[h3]
 have hps:∀j,j<min L.length 20->ps j<3:=by
  intro j hj
  obtain⟨_,y,_,_,_,_,h⟩:=Pw j (by omega)
  rw[<- h];exact Nat.mod_lt _ (by omega)
 have hcs:∀j,j<min L.length 20->cs j<5:=by
  intro j hj
  obtain⟨y,_,_,_,_,h,_⟩:=Pw j (by omega)
  rw[<- h];exact Nat.mod_lt _ (by omega)
 obtain⟨H3,s3,z0,ids,og,j,EL,w1,w2,w3,w4,w5,w6⟩:=aar hW.hB hL hS hC hf hb hnt hres hname j5 hK q2 q3 YS YG (ps:=ps) (cs:=cs) XV Pw XX
 have abl:qu P K E' (.mv (.tmp 1)) [] H' (.mk (.bool lost) [] H'):=⟨0,by
  show(match aval P H' (bL E') (.mv (.tmp 1))with | some (v,H')=>some (OR.mk v [] H') | none=>none)=_
  simp only[aval,show bL E' (.tmp 1)=some (.bool lost)from e1b]⟩
 have YL:qu P K (putO E' (some 26) (.bool lost)) (.mv (.tmp 0)) [] H' (.mk a0 [] H'):=⟨0,by
  have e00:bL (putO E' (some 26) (.bool lost)) (.tmp 0)=some a0:=by show(E'.put 26 (.bool lost)).get 0=_;rw[Tr.aR,if_neg (by decide)];exact e0'
  show(match aval P H' (bL (putO E' (some 26) (.bool lost))) (.mv (.tmp 0))with | some (v,H')=>some (OR.mk v [] H') | none=>none)=_
  simp only[aval,e00]⟩
 have YM:qu P K (putO (putO E' (some 26) (.bool lost)) (some 27) a0) (.call (.func (F 23)) [(.tmp 26),(.tmp 27)]) [] H' (.mk (.tuple [.ptr (some ⟨140,0,0⟩),ids]) [] H3):=by
  have e27:bL (putO (putO E' (some 26) (.bool lost)) (some 27) a0) (.tmp 27)=some a0:=by show((E'.put 26 (.bool lost)).put 27 a0).get 27=_;exact Tr.a8 _ _ _
  have e26:bL (putO (putO E' (some 26) (.bool lost)) (some 27) a0) (.tmp 26)=some (.bool lost):=by show((E'.put 26 (.bool lost)).put 27 a0).get 26=_;rw[Tr.aR,if_neg (by decide)];exact Tr.a8 _ _ _
  exact qu.call (fv:=.func (F 23) [] []) (vs:=[.bool lost,a0]) rfl (by simp only[aI,e26,e27]) (ki.func w1)
 have UY:∀i v,lk [(0,a0),(1,.bool lost),(2,.int .u8 (.ofNat x))] i=some v->E'.get i=some v:=by
  intro i v hi
  simp only[lu]at hi
  split at hi
  ·rename_i h;cases hi;rw[<- h];exact e0'
  ·split at hi
   ·rename_i h;cases hi;rw[<- h];exact e1b
   ·split at hi
    ·rename_i h;cases hi;rw[<- h];exact Xv
    ·cases hi
 have XO:En [(28,.tuple [.ptr (some ⟨140,0,0⟩),ids]),(27,a0),(26,.bool lost),(0,a0),(1,.bool lost),(2,.int .u8 (.ofNat x))] (putO (putO (putO E' (some 26) (.bool lost)) (some 27) a0) (some 28) (.tuple [.ptr (some ⟨140,0,0⟩),ids])):=En.put (En.put (En.put UY 26 _) 27 _) 28 _
 have KO:WOa P K (a6X F) E' [] H' ⟨.lf,0⟩ (λl ds s=>WP P K none 178 (a6Z F T) l ds s Kj (λ_=>Kj) (aaB ((140,.r false [pH] 8)::(200,.r false (sm.map CD.row) 11)::(1,.r false [zb] 13)::z0))):=by
  unfold a6X
  refine WOa.cons abl (WOa.cons YL (WOa.cons YM (WOa.of (l:=[(28,.tuple [.ptr (some ⟨140,0,0⟩),ids]),(27,a0),(26,.bool lost),(0,a0),(1,.bool lost),(2,.int .u8 (.ofNat x))]) ?_ XO w2)))
  refine Wv rfl (Wr (.extract rfl rfl) (Wr (.extract rfl rfl) (Wv rfl (Wv rfl (Wn ?_)))))
  exact aaH hW hL hx (by omega) hcs w3 w4 .here (yT (.there .here) (.there (.there .here))) ⟨XV,λh=>by
   obtain⟨_,⟨cap,sl,q⟩,_⟩:=XX h
   exact⟨0,cap,sl,q,.there (.there (.there (w6 h)))⟩,Pw⟩ (Nat.min_le_left _ _) rfl rfl rfl rfl
 obtain⟨xx,e'',Xu,H2,l',s',r1,r2,r3,r4⟩:=KO.seq PY
 have run:=q5 (spine 2 c5).2 _ r1
 rw[ug]at run
 cases xx with
 | normal=>exact r4.elim
 | exit i=>exact r4.elim
 | ret=>
  obtain⟨rfl,u4,hm⟩:=r4
  refine⟨H2,cD.enter (hK5 _ _) hf5 hb5 (by rw[PU,PP];rfl) (by rw[PU];exact iL) (by rw[PU];exact run) (.inl rfl) ?_,λh=>(r3.has (hm _ _ (.there (.there (.there (w6 h)))))).2⟩
  have e4:resultOf P e'' H2 (.tmp 6)=some (.bool true):=r2 6 _ u4
  rw[US]
  show(match aI (resultOf P e'' H2) [.tmp 6]with | some [v]=>some v | some vs=>some (.tuple vs) | none=>none)=_
  simp only[aI,e4]
end
inductive C6 (F:Nat->FuncId):FuncId->List AV->Heap->AV->Heap->Prop
 | w (H:Heap):C6 F (F 22) [] H (.bool true) H
 | cN (H:Heap) (p c:Int):0<=p/\p<=2->0<=c/\c<=4->C6 F (F 201) [.agg (evRow 1 p c 2 0 it0)] H (iv 0) H
 | cL (H:Heap):C6 F (F 201) [.agg (evRow 23 (.ofNat 2) 0 0 0 it0)] H (iv 0) H
 | cM (H:Heap) (a:Int):1<=a/\a<=1000000->C6 F (F 201) [.agg (evRow 2 a 3 0 0 it0)] H (iv 0) H
theorem C6.uniq {F:Nat->FuncId}(hne:F 22≠F 201){f:FuncId}{args:List AV}{H:Heap}{v u:AV}{H' I:Heap}(h:C6 F f args H v H')(h2:C6 F f args H u I):u=v/\I=H':=by
 have key:∀{f:FuncId}{args:List AV}{H:Heap}{v:AV}{H':Heap},C6 F f args H v H'->H'=H/\((f=F 22/\v=.bool true)\/(f=F 201/\v=iv 0)):=by
  intro f args H v H' h
  cases h with
  | w=>exact⟨rfl,.inl ⟨rfl,rfl⟩⟩
  | cN=>exact⟨rfl,.inr ⟨rfl,rfl⟩⟩
  | cL=>exact⟨rfl,.inr ⟨rfl,rfl⟩⟩
  | cM=>exact⟨rfl,.inr ⟨rfl,rfl⟩⟩
 have q1:=key h
 have q2:=key h2
 refine⟨?_,by rw[q2.1,q1.1]⟩
 rcases q1.2 with⟨e1,w1⟩|⟨e1,w1⟩<;>rcases q2.2 with⟨e2,w2⟩|⟨e2,w2⟩<;>first|(rw[w1,w2];done)|exact absurd (e1.symm.trans e2) hne|exact absurd (e2.symm.trans e1) hne
theorem says6 {P:Program}{F:Nat->FuncId}(hne:F 22≠F 201):aax P (orcOf (C6 F)) F:=by
 refine⟨⟨λp c hp hc s=>?_,λa h1 s=>?_⟩,λs=>?_⟩
 ·have h1:(0:Int)<=.ofNat p/\(.ofNat p:Int)<=2:=⟨Int.natCast_nonneg p,by show((p:Nat):Int)<=2;omega⟩
  have h2:(0:Int)<=.ofNat c/\(.ofNat c:Int)<=4:=⟨Int.natCast_nonneg c,by show((c:Nat):Int)<=4;omega⟩
  exact bB.known (λH=>kG (.cN H _ _ h1 h2) λu I h=>C6.uniq hne (.cN H _ _ h1 h2) h) ⟨rfl,rfl⟩
 ·exact bB.known (λH=>kG (.cM H a h1) λu I h=>C6.uniq hne (.cM H a h1) h) ⟨rfl,rfl⟩
 ·exact bB.known (λH=>kG (.cL H) λu I h=>C6.uniq hne (.cL H) h) ⟨rfl,rfl⟩
theorem orc6_w {F:Nat->FuncId}(hne:F 22≠F 201)(H:Heap):orcOf (C6 F) (F 22) [] H=some (.bool true,H):=kG (.w H) λu I h=>C6.uniq hne (.w H) h
theorem orc6_none {F:Nat->FuncId}{f:FuncId}(h1:f≠F 22)(h2:f≠F 201)(args:List AV)(H:Heap):orcOf (C6 F) f args H=none:=
 wn λu I h=>by cases h<;>first | exact h1 rfl | exact h2 rfl
theorem orc6_ok {P:Program}{F:Nat->FuncId}(kw:gW P (F 22) [] vu (.bool true) vu)(kN:∀p c:Int,0<=p/\p<=2->0<=c/\c<=4->gW P (F 201) [.agg (evRow 1 p c 2 0 it0)] vu (iv 0) vu)
  (kL:gW P (F 201) [.agg (evRow 23 (.ofNat 2) 0 0 0 it0)] vu (iv 0) vu) (kM:∀a:Int,1<=a/\a<=1000000->gW P (F 201) [.agg (evRow 2 a 3 0 0 it0)] vu (iv 0) vu):OrcOk P (orcOf (C6 F)):=by
 refine DX λf args H v H' h=>?_
 cases h with
 | w=>exact kw.anywhere (λ_=>rfl) (λ_=>rfl) _
 | cN _ p c h1 h2=>exact(kN p c h1 h2).anywhere (λ_=>rfl) (λ_=>rfl) _
 | cL _=>exact kL.anywhere (λ_=>rfl) (λ_=>rfl) _
 | cM _ a h1=>exact(kM a h1).anywhere (λ_=>rfl) (λ_=>rfl) _
structure Trn6 (P:Program)(K:Orc)(F:Nat->FuncId)(T:Nat->TypeId)(f:FuncId)(fn:Func)(c:Code)(tc:Func)(Ib:Code)(R:iB)(n:Nat):Prop where
 mixed:P.follows .mixedOrders=true
 orc:OrcOk P K
 base:LawG P K F T
 lose:BaseL P K F T
 says:aax P K F
 rule:∀S:Sg,@Bh S R K
 func:P.funcs[f]?=some fn
 body:fn.body=some c
 nt:fn.ntmps=178
 res:fn.results.toList=[.tmp 6]
 name:(fn.name == "runtime.NumGoroutine")=false
 rest:cc P 178 (spine 2 c).2=.seq (.ops (a6X F)) (a6Z F T)
 free:∀args H,K f args H=none
 func23:P.funcs[F 23]?=some tc
 body23:tc.body=some Ib
 nt23:tc.ntmps=62
 res23:tc.results.toList=[.tmp 4,.tmp 5]
 name23:(tc.name == "runtime.NumGoroutine")=false
 rest23:cc P 62 (spine 4 Ib).2=Bp F T
 free23:∀args H,K (F 23) args H=none
 runQ:∀b,pre6 P (callF P R n) c Ib fhQ b 0=true
 runP:∀b,pre6 P (callF P R n) c Ib fhP b 5=true
section
variable {P:Program}{K:Orc}{F:Nat->FuncId}{T:Nat->TypeId}{f:FuncId}{fn:Func}{c:Code}{tc:Func}{Ib:Code}{R:iB}{n:Nat}
theorem trn6_none (hl:Trn6 P K F T f fn c tc Ib R n){b:Bool}{wh:Int}(hw:0<=wh/\wh<=255){lv:AV}{x:Value}(hlv:lenOf lv=some 0)(ho:Opq lv)(hx:VR (λ_=>none) lv x)(w:World) :
  Calls P f #[x,.bool b,.int .u8 wh] w λe w'=>e=.returned (.bool true)/\w.keptBut w' (λ_=>False):=by
 obtain⟨y,rfl⟩:=Int.eq_ofNat_of_zero_le hw.1
 letI:Sg:=mkSg (λ_=>0) (λi=>match i with | 0=>lv | _=>.int .u8 (.ofNat y)) (λ_=>.deferred)
 have ha:VAs [rJ,vB b,Ah] [lv,.bool b,.int .u8 (.ofNat y)]:=.cons (xV rfl ho) (.cons (by cases b<;>exact VA.bool _) (.cons (tN rfl Opq.U6) .nil))
 obtain⟨H',⟨m,h1⟩,_⟩:=aay hl.base hl.lose hl.says (kX P (hl.rule _) n) hl.func23 hl.body23 hl.nt23 hl.res23 hl.name23 hl.rest23 hl.free23 hl.func hl.body hl.nt hl.res hl.name hl.rest hl.free N6 rfl (hl.runQ b) (by omega) ha (L:=[]) hlv (λi hi=>absurd hi (Nat.not_lt_zero _)) (λh=>absurd h (Nat.not_lt_zero _))
 refine callsIn_wide.1 (CallsIn.mono (qO hl.mixed hl.orc (HR.one w) (args:=[lv,.bool b,.int .u8 (.ofNat y)]) (xs:=[x,.bool b,.int .u8 (y:Int)]) ⟨_,_,hx,⟨_,_,rfl,⟨_,_,rfl,rfl,rfl⟩,rfl⟩,rfl⟩ h1).2 ?_)
 rintro e w' ⟨y,rfl,g',_,hv,hh⟩
 have:y=.bool true:=hv
 subst this
 exact⟨rfl,pO (λk hk=>(hh.keep k hk).2) hh.os.1 hh.os.2⟩
theorem trn6_some (hl:Trn6 P K F T f fn c tc Ib R n){b:Bool}{wh:Int}(hw:0<=wh/\wh<=255){z y:Nat->Int}(hz:∀i,0<=z i/\z i<=255)(hy:∀i,0<=y i/\y i<=255){len cap:Nat}(hpos:0<len){w:World}{iK off:Nat}{cs:Array Value}{el:TypeId}{fz:Nat × Nat}
  (hc:w.heap[iK]?=some (.cells cs el fz)) (hcell:∀i,i<len->cs[off+i*2]?=some (.int .u8 (z i))/\cs[off+i*2+1]?=some (.int .u8 (y i))) :
  Calls P f #[.slice (some ⟨iK,off,none⟩) len cap,.bool b,.int .u8 wh] w λe w'=>e=.returned (.bool true)/\w.keptBut w' (λ_=>False):=by
 obtain⟨x0,rfl⟩:=Int.eq_ofNat_of_zero_le hw.1
 obtain⟨T',qY⟩:=em ((List.range len).map λi=>[AV.int .u8 (z i),AV.int .u8 (y i)])
 have T7:∀i,i<len->((List.range len).map λi=>[AV.int .u8 (z i),AV.int .u8 (y i)])[i]?=some [AV.int .u8 (z i),AV.int .u8 (y i)]:=λi hi=>by
  rw[List.getElem?_map,List.getElem?_range hi];rfl
 have hT:∀i,i<len->T'.get i=some [AV.int .u8 (z i),AV.int .u8 (y i)]:=λi hi=>by rw[cB qY,T7 i hi]
 have IH:((List.range len).map λi=>[AV.int .u8 (z i),AV.int .u8 (y i)]).length=len:=by rw[List.length_map,List.length_range]
 letI:Sg:=mkSg (λ_=>0) (λi=>match i with | 0=>.slice (some ⟨0,0,0⟩) len cap false 2 | _=>.int .u8 (.ofNat x0)) (λ_=>.rows T' len 2 true)
 have ha:VAs [rJ,vB b,Ah] [.slice (some ⟨0,0,0⟩) len cap false 2,.bool b,.int .u8 (.ofNat x0)]:=.cons (xV rfl .slice) (.cons (by cases b<;>exact VA.bool _) (.cons (tN rfl Opq.U6) .nil))
 obtain⟨H',⟨m,h1⟩,h2⟩:=aay hl.base hl.lose hl.says (kX P (hl.rule _) n) hl.func23 hl.body23 hl.nt23 hl.res23 hl.name23 hl.rest23 hl.free23 hl.func hl.body hl.nt hl.res hl.name hl.rest hl.free N5 rfl (hl.runP b) (by omega) ha (L:=(List.range len).map λi=>[AV.int .u8 (z i),AV.int .u8 (y i)])
  (by rw[IH];rfl) (λi hi=>by
   rw[IH]at hi
   have g1:=hz i
   have g2:=hy i
   have e1:z i=.ofNat (z i).toNat:=(Int.toNat_of_nonneg g1.1).symm
   have e2:y i=.ofNat (y i).toNat:=(Int.toNat_of_nonneg g2.1).symm
   exact⟨(z i).toNat,(y i).toNat,by omega,by omega,by rw[T7 i hi,<- e1,<- e2]⟩)
  (λ_=>⟨rfl,⟨cap,false,by rw[IH]⟩,T',by rw[IH];rfl,λi row hi=>by
   have hlt:i<len:=by
    have:=(List.getElem?_eq_some_iff.1 hi).1
    rw[IH]at this;exact this
   rw[T7 i hlt]at hi
   cases hi
   exact⟨hT i hlt,rfl⟩⟩)
 obtain⟨t,h3,h4⟩:=h2 (by rw[IH];exact hpos)
 rw[IH]at h3
 have hHR:HR ⟨λk=>k<w.heap.size/\k≠iK,λ_=>False⟩ w (gB iK off 0 2 (.cells cs el fz)) (Su (.rows T' len 2 true)) w:=by
  have only:∀b o,(Su (.rows T' len 2 true)).get b=some o->b=0/\o=.rows T' len 2 true:=by
   intro b o hb
   rw[xf]at hb
   split at hb
   ·rename_i e;cases hb;exact⟨e.symm,rfl⟩
   ·cases hb
  refine⟨?_,?_,?_,?_,λk hk=>⟨hk.1,rfl⟩,Nat.le_refl _,⟨rfl,rfl⟩,λb hb=>hb.elim⟩
  ·intro b o hb
   obtain⟨rfl,rfl⟩:=only b o hb
   refine⟨⟨iK,off,0,2,some (.cells cs el fz)⟩,rfl,?_⟩
   refine⟨rfl,cs,el,fz,hc,hc,trivial,λi row hi ht=>?_⟩
   rw[hT i hi]at ht
   cases ht
   refine⟨rfl,λj v hj=>?_⟩
   match j,hj with
   | 0,hj=>cases hj;exact⟨_,(hcell i hi).1,rfl,rfl⟩
   | 1,hj=>cases hj;exact⟨_,(hcell i hi).2,rfl,rfl⟩
  ·intro b b' o o' d d' hb hb' _ _ _
   rw[(only b o hb).1,(only b' o' hb').1]
  ·intro b hb
   have hb:1<=b:=hb
   exact if_neg (by omega)
  ·intro b o d hb _ hd
   obtain⟨rfl,_⟩:=only b o hb
   have hd:some (⟨iK,off,0,2,some (.cells cs el fz)⟩:Gd)=some d:=hd
   cases hd
   exactλk=>k.2 rfl
 refine callsIn_wide.1 (CallsIn.mono (qO hl.mixed hl.orc hHR (args:=[.slice (some ⟨0,0,0⟩) len cap false 2,.bool b,.int .u8 (.ofNat x0)]) (xs:=[.slice (some ⟨iK,off,none⟩) len cap,.bool b,.int .u8 (x0:Int)]) ⟨_,_,⟨_,rfl,λ_=>⟨rfl,rfl⟩,by simp[gX]⟩,⟨_,_,rfl,⟨_,_,rfl,rfl,rfl⟩,rfl⟩,rfl⟩ h1).2 ?_)
 rintro e w' ⟨y,rfl,g',hle,hv,hh⟩
 have:y=.bool true:=hv
 subst this
 refine⟨rfl,pO (λk hk=>?_) hh.os.1 hh.os.2⟩
 by_cases hkb:k=iK
 ·subst hkb
  obtain⟨d,hd,X8⟩:=hh.obj 0 _ h3
  have:=hle 0 ⟨k,off,0,2,some (.cells cs el fz)⟩ rfl
  rw[hd]at this
  cases this
  obtain⟨_,_,_,_,_,e2,_⟩:=X8
  have e2:w'.heap[k]?=some (.cells cs el fz):=e2
  rw[e2,hc]
 ·exact(hh.keep k ⟨hk,hkb⟩).2

end
end Go.Ev
