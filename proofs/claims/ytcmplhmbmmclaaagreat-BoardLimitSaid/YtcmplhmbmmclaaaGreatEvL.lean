/- The law BoardLimit: its whole walk, from its arguments to its answer. What is known of calls that leave nothing in memory: by the fast machine, in each heap. The law BoardLimit as a call in a world. Conditions: none. -/
import Derived.Test.YtcmplhmbmmclaaaGreatEvK
set_option linter.unusedVariables false
set_option linter.unusedSectionVars false
namespace Go.Ev
noncomputable def fhQ:FH:=⟨rp64 (rp64 (rp64 fo0)),1,fr0⟩
noncomputable def opv0:V:={ vU with t:=13,a:=0 }
noncomputable def stuckAt (a b:FuncId):FRule:=fun f _ _=>match Nat.beq f a || Nat.beq f b with | true=>some none | false=>none
noncomputable def pre3 (P:Program) (ih:CallT) (c:Code) (h0:FH) (z r:Nat):Bool:=
 preF P 132 ih (spine 6 c).1 (fun e h=>memCk h (mem0 (10+r)) && (slotCk e [(5,.ptr (some ⟨2,0,0⟩)),(6,.ptr (some ⟨86,0,0⟩)),(8,.int .i64 (.ofNat 3))] && (Nat.beq (atR 1 e).t 13 && (Nat.beq (atR 1 e).a 0 && (Nat.beq (hget 0 h).t z && (Nat.beq (hget 0 h).lp.nt 0 && (match h.fr.ds with | []=>true | _=>false)))))))
  (wrV [byteR 31 r r 8,opv0] 0 row0) h0
theorem stuckAt_ok [Sg] {a b:FuncId} {K:Orc} (hK:∀ f args H,f≠a->f≠b->K f args H=none):FRok (stuckAt a b) K where
 res:=by
  intro f args as h H v h' _ _ hf
  unfold stuckAt at hf
  split at hf <;> cases hf
 non:=by
  intro f args as h H _ _ hf
  unfold stuckAt at hf
  split at hf
  ·cases hf
  ·rename_i hb
   obtain⟨h1,h2⟩:=Bool.or_eq_false_iff.1 hb
   exact hK f as H (fun e=>by rw [e] at h1;simp at h1) (fun e=>by rw [e] at h2;simp at h2)
section
variable [Sg] {P:Program} {K:Orc} {F:Nat->FuncId} {T:Nat->TypeId}
theorem law3_ok (hB:Base P K F T) (hS:Says P K F) {ih:CallT} (hC:CallR P K ih) {f:FuncId} {fn:Func} {c:Code} (hf:P.funcs[f]?=some fn) (hb:fn.body=some c) (hnt:fn.ntmps=132) (hres:fn.results.toList=[.tmp 4]) (hname:(fn.name == "runtime.NumGoroutine")=false)
  (hrest:cc P 132 (spine 6 c).2=a3Z F) (hK:∀ args H,K f args H=none) {h0:FH} {H0:Heap} (hH:FHr h0 H0) (hfr:h0.fr=fr0) {z r:Nat} (hpre:pre3 P ih c h0 z r=true) {wh:Int} {lv:AV} (ha:VAs [byteR 31 r r 8,opv0] [.int .u8 wh,lv]) {L:List (List AV)} (hL0:lenOf lv=some L.length)
  (hLb:∀ i,i < L.length->∃ x:Nat,x≤255∧L[i]?=some [.int .u8 (.ofNat x)]) (hLv:0 < L.length->z=5∧(∃ cap sl,lv=.slice (some ⟨0,0,0⟩) L.length cap sl 1)∧(HO.r true L 1).ok (some (Sg.blk 0))) (hz:L.length=0∨0 < L.length) :
  ∃ H',CallsTo P K f [.int .u8 wh,lv] H0 (.bool true) H'∧(0 < L.length->(HO.r true L 1).ok (H'.get 0)):=by
 obtain⟨e0,he0,hE0⟩:=envStart (nt:=132) ha (by omega) (by simp)
 obtain⟨E',H',ds',e',h',q1,q2,q3,q4,q5⟩:=preF_ok (rd:=none) (ds:=[]) hC (spine 6 c).1 hE0 hH (by rw [hfr];exact⟨rfl,(fun D hD=>by cases hD),rfl⟩) hpre
 obtain⟨k1,q4⟩:=Bool.and_eq_true_iff.1 q4
 obtain⟨k2,q4⟩:=Bool.and_eq_true_iff.1 q4
 obtain⟨k3,q4⟩:=Bool.and_eq_true_iff.1 q4
 obtain⟨k4,q4⟩:=Bool.and_eq_true_iff.1 q4
 obtain⟨k5,q4⟩:=Bool.and_eq_true_iff.1 q4
 obtain⟨k6,k7⟩:=Bool.and_eq_true_iff.1 q4
 have hds:ds'=[]:=by
  obtain⟨f1,_,_⟩:=q3
  rw [f1]
  revert k7
  cases h'.fr.ds with
  | nil=>intro _;rfl
  | cons a l=>intro k;cases k
 subst hds
 have hmem:=memCk_ok q2 k1
 have hsl:=slotCk_ok q1 k2 (by decide)
 obtain⟨a1,e1,v1⟩:=q1.slot 1 (by omega)
 have ea:a1=lv:=by
  have h1:=(v1.isOpq (Nat.eq_of_beq_eq_true k3)).1
  rw [Nat.eq_of_beq_eq_true k4] at h1
  cases ha with
  | cons _ ha=>
   cases ha with
   | cons hv _=>rw [h1];exact(hv.isOpq rfl).1.symm
 subst ea
 have main:∀ z0:SH,(∀ b o,(b,o)∈z0->b=0∧b < H'.next∧o.ok (H'.get b))->z0.Pairwise (fun p q=>p.1≠q.1)->(0 < L.length->∃ cap sl,a1=.slice (some ⟨0,0,0⟩) L.length cap sl 1∧Has 0 (.r true L 1) z0) ->
   ∃ H2,CallsTo P K f [.int .u8 wh,a1] H0 (.bool true) H2∧(0 < L.length->(HO.r true L 1).ok (H2.get 0)):=by
  intro z0 hz0 hzp hz1
  have hp:Hp ⟨.lf,0⟩ (memS (mem0 (10+r))++z0) H':=by
   refine⟨Nat.zero_le _,?_,?_,fun b hb=>absurd hb (Nat.not_lt_zero _)⟩
   ·intro b o hb
    rcases List.mem_append.1 hb with hb|hb
    ·exact hmem b o hb
    ·exact(hz0 b o hb).2
   ·refine List.pairwise_append.2 ⟨?_,hzp,?_⟩
    ·simp [memS,mem0]
    ·intro p hp q hq
     have:=(hz0 q.1 q.2 hq).1
     rw [this]
     simp only [memS,mem0,List.map_cons,List.map_nil,List.mem_cons,List.not_mem_nil,or_false] at hp
     rcases hp with rfl|rfl|rfl|rfl|rfl|rfl|rfl|rfl|rfl|rfl|rfl <;> exact Nat.succ_ne_zero _
  have hs:LogH 88 [] d0 ([(86,.r false [foldRow 88 (slA 168 2 11) (.ofNat (10+r)) (.ofNat 4) (.ofNat 50) (.ofNat 10) (.ofNat 20) nilS] 8),(2,.r false [[iv (.ofNat (10+r)),iv (.ofNat 4),iv (.ofNat 50),iv (.ofNat 10),iv (.ofNat 20)]] 5)]++z0) (memS (mem0 (10+r))++z0):=log0_ok _
  have hEn:En [(1,a1),(5,.ptr (some ⟨2,0,0⟩)),(6,.ptr (some ⟨86,0,0⟩)),(8,iv 3)] E':=by
   intro i v hi
   simp only [lk_cons] at hi
   split at hi
   ·rename_i h;cases hi;rw [<- h];exact e1
   ·split at hi
    ·rename_i h;cases hi;rw [<- h];exact hsl 5 _ (by simp)
    ·split at hi
     ·rename_i h;cases hi;rw [<- h];exact hsl 6 _ (by simp)
     ·split at hi
      ·rename_i h;cases hi;rw [<- h];exact hsl 8 _ (by simp)
      ·cases hi
  obtain⟨x,e'',ds'',H2,l',s',r1,r2,r3,r4⟩:=loop4_ok hB hS (L:=L) ⟨hL0,fun h=>by
   obtain⟨cap,sl,w1,w2⟩:=hz1 h
   exact⟨0,cap,sl,w1,.app w2⟩,hLb⟩ (.left .here) (.left (.there .here)) hs d0_inv rfl rfl rfl rfl (spine 6 c).2 hrest ⟨.lf,0⟩ E' H' hEn hp
  have run:=q5 (spine 6 c).2 _ r1
  rw [spine_eq] at run
  cases x with
  | normal=>exact r4.elim
  | exit i=>exact r4.elim
  | ret=>
   obtain⟨rfl,w4,hm⟩:=r4
   refine⟨H2,CallsTo.enter (hK _ _) hf hb (by rw [hnt,hname];rfl) (by rw [hnt];exact he0) (by rw [hnt];exact run) (.inl rfl) ?_,fun h=>?_⟩
   ·have e4:resultOf P e'' H2 (.tmp 4)=some (.bool true):=r2 4 _ w4
    rw [hres]
    show (match lmapO (resultOf P e'' H2) [.tmp 4] with | some [v]=>some v | some vs=>some (.tuple vs) | none=>none)=_
    simp only [lmapO,e4]
   ·obtain⟨cap,sl,_,w2⟩:=hz1 h
    exact(r3.has (hm _ _ (.app w2))).2
 rcases hz with h|h
 ·exact main [] (fun b o hb=>nomatch hb) .nil (fun k=>by omega)
 ·obtain⟨rfl,⟨cap,sl,hl⟩,hok⟩:=hLv h
  have g0:=(q2.block 0 (by omega)).opq (Nat.eq_of_beq_eq_true k5)
  rw [Nat.eq_of_beq_eq_true k6] at g0
  have hn:0 < H'.next:=Nat.lt_of_le_of_lt (Nat.zero_le _) (hmem 88 _ (List.mem_cons_self ..)).1
  refine main [(0,.r true L 1)] ?_ (List.pairwise_singleton ..) (fun _=>⟨cap,sl,hl,.here⟩)
  intro b o hb
  rw [List.mem_singleton] at hb
  cases hb
  exact⟨rfl,hn,by rw [g0];exact hok⟩
end
end Go.Ev
namespace Go.Ev
@[reducible] noncomputable def hp0:Heap:=⟨.lf,0⟩
theorem hp0_get (b:Nat):hp0.get b=none:=by simp [Heap.get,Tr.get]
theorem KCon.anywhere {P:Program} {f:FuncId} {args:List AV} {v:AV} (h:KCon P f args hp0 v hp0) (ha:∀ ρ,AV.rens ρ args=args) (hv:∀ ρ,v.ren ρ=v) (Hb:Heap):KCon P f args Hb v Hb:=by
 refine⟨fun {X w0 g w xs} hH hx=>?_⟩
 have top:∀ b,Hb.next≤b->Hb.get b=none:=fun b hb=>hH.none_of_next hb
 have hf:=h.frame (ρ:=fun b=>Hb.next+b) (Hb:=Hb) (Hb':=Hb) ⟨fun b hb=>absurd hb (Nat.not_lt_zero _),fun b hb=>absurd hb (Nat.not_lt_zero _),fun b _=>by show Hb.next+b=Hb.next+(b - 0);omega,fun b c e=>by have:Hb.next+b=Hb.next+c:=e;omega⟩
  (fun b _=>hp0_get b) ⟨fun b=>by rw [hp0_get];exact top _ (by omega),fun _ _=>rfl,by show Hb.next=Hb.next+(0 - 0);omega,Nat.le_refl _⟩
 rw [ha,hv] at hf
 exact hf.call hH hx
theorem fast_kcon [Sg] {P:Program} (hm:P.follows .mixedOrders=true) {n:Nat} {f:FuncId} {args:List V} {as:List AV} {a:AV} (ha:VAs args as) (hb:AV.Bel 0 a) (h:((callF P noneKnown n).call f args fh0 fun v _=>isA v a)=true):KCon P f as hp0 a hp0:=by
 obtain⟨O,hO,hF⟩:=noneKnown_ok P
 obtain⟨m,b,v,h',H',h1,h2,_,_,h5⟩:=(callF_ok P (hF _) n).call ha fh0_ok h
 have:=isA_ok h2 h5
 subst this
 exact(KCon.of_ev hm hO h1).upto ⟨rfl,Nat.zero_le _,fun b o hb=>by rw [hp0_get] at hb;cases hb⟩ (Nat.le_refl _) hb
inductive C3 (F:Nat->FuncId):FuncId->List AV->Heap->AV->Heap->Prop
 | w (H:Heap):C3 F (F 16) [] H (.bool true) H
 | c1 (H:Heap):C3 F (F 201) [.agg (evRow 1 (.ofNat 0) 1 2 1 it0)] H (iv 0) H
 | c25 (H:Heap) (a:Int):1≤a->a≤1000000->C3 F (F 201) [.agg (evRow 25 a 0 0 0 it0)] H (iv 0) H
 | c29 (H:Heap):C3 F (F 201) [.agg (evRow 29 3 0 0 0 it0)] H (iv 0) H
theorem C3.uniq {F:Nat->FuncId} (hne:F 16≠F 201) {f:FuncId} {args:List AV} {H:Heap} {v u:AV} {H' I:Heap} (h:C3 F f args H v H') (h2:C3 F f args H u I):u=v∧I=H':=by
 have key:∀ {f:FuncId} {args:List AV} {H:Heap} {v:AV} {H':Heap},C3 F f args H v H'->H'=H∧((f=F 16∧v=.bool true)∨(f=F 201∧v=iv 0)):=by
  intro f args H v H' h
  cases h with
  | w=>exact⟨rfl,.inl ⟨rfl,rfl⟩⟩
  | c1=>exact⟨rfl,.inr ⟨rfl,rfl⟩⟩
  | c25 _ _ _=>exact⟨rfl,.inr ⟨rfl,rfl⟩⟩
  | c29=>exact⟨rfl,.inr ⟨rfl,rfl⟩⟩
 have q1:=key h
 have q2:=key h2
 refine⟨?_,by rw [q2.1,q1.1]⟩
 rcases q1.2 with⟨e1,w1⟩|⟨e1,w1⟩ <;> rcases q2.2 with⟨e2,w2⟩|⟨e2,w2⟩ <;> first|(rw [w1,w2];done)|exact absurd (e1.symm.trans e2) hne|exact absurd (e2.symm.trans e1) hne
theorem says3 {P:Program} {F:Nat->FuncId} (hne:F 16≠F 201):Says P (orcOf (C3 F)) F where
 w s:=Tri.known (fun H=>orcOf_some (.w H) fun u I h=>C3.uniq hne (.w H) h) ⟨rfl,rfl⟩
 c1 s:=Tri.known (fun H=>orcOf_some (.c1 H) fun u I h=>C3.uniq hne (.c1 H) h) ⟨rfl,rfl⟩
 c25 a h1 h2 s:=Tri.known (fun H=>orcOf_some (.c25 H a h1 h2) fun u I h=>C3.uniq hne (.c25 H a h1 h2) h) ⟨rfl,rfl⟩
 c29 s:=Tri.known (fun H=>orcOf_some (.c29 H) fun u I h=>C3.uniq hne (.c29 H) h) ⟨rfl,rfl⟩
theorem orc3_none {F:Nat->FuncId} {f:FuncId} (h1:f≠F 16) (h2:f≠F 201) (args:List AV) (H:Heap):orcOf (C3 F) f args H=none:=
 orcOf_none fun u I h=>by cases h <;> first | exact h1 rfl | exact h2 rfl
theorem orc3_ok {P:Program} {F:Nat->FuncId} (kw:KCon P (F 16) [] hp0 (.bool true) hp0) (k1:KCon P (F 201) [.agg (evRow 1 (.ofNat 0) 1 2 1 it0)] hp0 (iv 0) hp0) (k25:∀ a:Int,1≤a->a≤1000000->KCon P (F 201) [.agg (evRow 25 a 0 0 0 it0)] hp0 (iv 0) hp0)
  (k29:KCon P (F 201) [.agg (evRow 29 3 0 0 0 it0)] hp0 (iv 0) hp0):OrcOk P (orcOf (C3 F)):=by
 refine orcOf_ok fun f args H v H' h=>?_
 cases h with
 | w=>exact kw.anywhere (fun _=>rfl) (fun _=>rfl) _
 | c1=>exact k1.anywhere (fun _=>rfl) (fun _=>rfl) _
 | c25 _ a h1 h2=>exact(k25 a h1 h2).anywhere (fun _=>rfl) (fun _=>rfl) _
 | c29=>exact k29.anywhere (fun _=>rfl) (fun _=>rfl) _
end Go.Ev
namespace Go.Ev
theorem fhQ_ok [Sg]:FHr fhQ ⟨.lf,1⟩:=by
 refine⟨rfl,by show 1≤262144;omega,fun b hb=>?_⟩
 have:hget b fhQ=fo0:=by
  rw [hget_eq]
  show at64 b (at64 (b / 64) (at64 (b / 4096) (rp64 (rp64 (rp64 fo0)))))=fo0
  rw [at_rp64,at_rp64,at_rp64]
 rw [this]
 exact FOr.gone _ rfl rfl
theorem HR.one (w:World):HR ⟨fun k=>k < w.heap.size,fun _=>False⟩ w (fun _=>none) ⟨.lf,1⟩ w:=
 ⟨fun b o h=>by simp [Heap.get,Tr.get] at h,fun b b' o o' d d' h=>by simp [Heap.get,Tr.get] at h,fun _ _=>rfl,fun b o d h=>by simp [Heap.get,Tr.get] at h,fun k hk=>⟨hk,rfl⟩,Nat.le_refl _,⟨rfl,rfl⟩,fun b h=>h.elim⟩
structure Opq (a:AV):Prop where
 one:a.one=true
 nb:∀ b,a≠.bool b
 same:∀ n,sameN (n+1) a a=true
theorem Opq.slice {a:Option Pl} {n c rw:Nat} {sl:Bool}:Opq (.slice a n c sl rw):=
 ⟨rfl,fun b h=>(by cases h),fun m=>by cases a <;> cases sl <;> simp [sameN,same0]⟩
theorem Opq.empty:Opq .empty:=⟨rfl,fun b h=>(by cases h),fun m=>rfl⟩
theorem opv0_ok [Sg] {lv:AV} (h:Sg.val 0=lv) (ho:Opq lv):VA opv0 lv:=by
 subst h
 exact VA.opq (v:=opv0) rfl ho.one ho.nb ho.same
structure Lim (P:Program) (K:Orc) (F:Nat->FuncId) (T:Nat->TypeId) (f:FuncId) (fn:Func) (c:Code) (R:FRule) (n:Nat):Prop where
 mixed:P.follows .mixedOrders=true
 orc:OrcOk P K
 base:Base P K F T
 says:Says P K F
 rule:∀ S:Sg,@FRok S R K
 func:P.funcs[f]?=some fn
 body:fn.body=some c
 nt:fn.ntmps=132
 res:fn.results.toList=[.tmp 4]
 name:(fn.name == "runtime.NumGoroutine")=false
 rest:cc P 132 (spine 6 c).2=a3Z F
 free:∀ args H,K f args H=none
 runQ:∀ r,r < 31->pre3 P (callF P R n) c fhQ 0 r=true
 runP:∀ r,r < 31->pre3 P (callF P R n) c fhP 5 r=true
section
variable {P:Program} {K:Orc} {F:Nat->FuncId} {T:Nat->TypeId} {f:FuncId} {fn:Func} {c:Code} {R:FRule} {n:Nat}
theorem resid {wh:Int} (hw:0≤wh∧wh≤255):∃ r:Nat,r < 31∧wh % ((31:Nat):Int)=r:=⟨(wh % 31).toNat,by omega,by omega⟩
theorem lim_none (hl:Lim P K F T f fn c R n) {wh:Int} (hw:0≤wh∧wh≤255) {lv:AV} {x:Value} (hlv:lenOf lv=some 0) (ho:Opq lv) (hx:VR (fun _=>none) lv x) (w:World) :
  Calls P f #[.int .u8 wh,x] w fun e w'=>e=.returned (.bool true)∧w.keptBut w' (fun _=>False):=by
 obtain⟨r,hr,hr2⟩:=resid hw
 letI:Sg:=mkSg (fun _=>wh) (fun _=>lv) (fun _=>.deferred)
 have ha:VAs [byteR 31 r r 8,opv0] [.int .u8 wh,lv]:=.cons (VA.byteRes (a:=8) (n:=wh) rfl hw ⟨by rw [hr2];exact Int.le_refl _,by rw [hr2];exact Int.le_refl _⟩) (.cons (opv0_ok rfl ho) .nil)
 obtain⟨H',⟨m,h1⟩,_⟩:=law3_ok hl.base hl.says (callF_ok P (hl.rule _) n) hl.func hl.body hl.nt hl.res hl.name hl.rest hl.free fhQ_ok rfl (hl.runQ r hr) ha (L:=[]) hlv (fun i hi=>absurd hi (Nat.not_lt_zero _)) (fun h=>absurd h (Nat.not_lt_zero _)) (.inl rfl)
 refine callsIn_wide.1 (CallsIn.mono (ev_call hl.mixed hl.orc (HR.one w) (args:=[.int .u8 wh,lv]) (xs:=[.int .u8 wh,x]) ⟨_,_,rfl,⟨_,_,hx,rfl,rfl⟩,rfl⟩ h1).2 ?_)
 rintro e w' ⟨y,rfl,g',_,hv,hh⟩
 have:y=.bool true:=hv
 subst this
 exact⟨rfl,kept_same (fun k hk=>(hh.keep k hk).2) hh.os.1 hh.os.2⟩
theorem lim_some (hl:Lim P K F T f fn c R n) {wh:Int} (hw:0≤wh∧wh≤255) {z:Nat->Int} (hz:∀ i,0≤z i∧z i≤255) {len cap:Nat} (hpos:0 < len) {w:World} {blk off:Nat} {cs:Array Value} {el:TypeId} {fz:Nat × Nat}
  (hc:w.heap[blk]?=some (.cells cs el fz)) (hfit:off+len≤cs.size) (hcell:∀ i,i < len->cs[off+i]?=some (.int .u8 (z i))) :
  Calls P f #[.int .u8 wh,.slice (some ⟨blk,off,none⟩) len cap] w fun e w'=>e=.returned (.bool true)∧w.keptBut w' (fun _=>False):=by
 obtain⟨r,hr,hr2⟩:=resid hw
 obtain⟨T',hT0⟩:=rowsOf_some ((List.range len).map fun i=>[AV.int .u8 (z i)])
 have hLi:∀ i,i < len->((List.range len).map fun i=>[AV.int .u8 (z i)])[i]?=some [AV.int .u8 (z i)]:=fun i hi=>by
  rw [List.getElem?_map,List.getElem?_range hi];rfl
 have hT:∀ i,i < len->T'.get i=some [AV.int .u8 (z i)]:=fun i hi=>by rw [rowsOf_get hT0,hLi i hi]
 have hLl:((List.range len).map fun i=>[AV.int .u8 (z i)]).length=len:=by rw [List.length_map,List.length_range]
 letI:Sg:=mkSg (fun _=>wh) (fun _=>.slice (some ⟨0,0,0⟩) len cap false 1) (fun _=>.rows T' len 1 true)
 have ha:VAs [byteR 31 r r 8,opv0] [.int .u8 wh,.slice (some ⟨0,0,0⟩) len cap false 1]:=.cons (VA.byteRes (a:=8) (n:=wh) rfl hw ⟨by rw [hr2];exact Int.le_refl _,by rw [hr2];exact Int.le_refl _⟩) (.cons (opv0_ok rfl .slice) .nil)
 obtain⟨H',⟨m,h1⟩,h2⟩:=law3_ok hl.base hl.says (callF_ok P (hl.rule _) n) hl.func hl.body hl.nt hl.res hl.name hl.rest hl.free fhP_ok rfl (hl.runP r hr) ha (L:=(List.range len).map fun i=>[AV.int .u8 (z i)])
  (by rw [hLl];rfl) (fun i hi=>by
   rw [hLl] at hi
   have:=hz i
   exact⟨(z i).toNat,by omega,by rw [hLi i hi];congr 3;exact(Int.toNat_of_nonneg this.1).symm⟩)
  (fun _=>⟨rfl,⟨cap,false,by rw [hLl]⟩,T',by rw [hLl];rfl,fun i row hi=>by
   have hlt:i < len:=by
    have:=(List.getElem?_eq_some_iff.1 hi).1
    rw [hLl] at this;exact this
   rw [hLi i hlt] at hi
   cases hi
   exact⟨hT i hlt,rfl⟩⟩) (.inr (by rw [hLl];exact hpos))
 obtain⟨t,h3,h4⟩:=h2 (by rw [hLl];exact hpos)
 rw [hLl] at h3
 have hsz:cs.size=off+(len+(cs.size - off - len)) * 1:=by omega
 have hHR:HR ⟨fun k=>k < w.heap.size∧k≠blk,fun _=>False⟩ w (gB blk off (cs.size - off - len) 1 (.cells cs el fz)) (H1b (.rows T' len 1 true)) w:=by
  have only:∀ b o,(H1b (.rows T' len 1 true)).get b=some o->b=0∧o=.rows T' len 1 true:=by
   intro b o hb
   rw [H1b_get] at hb
   split at hb
   ·rename_i e;cases hb;exact⟨e.symm,rfl⟩
   ·cases hb
  refine⟨?_,?_,?_,?_,fun k hk=>⟨hk.1,rfl⟩,Nat.le_refl _,⟨rfl,rfl⟩,fun b hb=>hb.elim⟩
  ·intro b o hb
   obtain⟨rfl,rfl⟩:=only b o hb
   refine⟨⟨blk,off,cs.size - off - len,1,some (.cells cs el fz)⟩,rfl,?_⟩
   refine⟨rfl,cs,el,fz,hc,hc,hsz,fun i row hi ht=>?_⟩
   rw [hT i hi] at ht
   cases ht
   refine⟨rfl,fun j v hj=>?_⟩
   match j,hj with
   | 0,hj=>cases hj;exact⟨_,by rw [Nat.mul_one,Nat.add_zero];exact hcell i hi,rfl,rfl⟩
  ·intro b b' o o' d d' hb hb' _ _ _
   rw [(only b o hb).1,(only b' o' hb').1]
  ·intro b hb
   have hb:1≤b:=hb
   exact if_neg (by omega)
  ·intro b o d hb _ hd
   obtain⟨rfl,_⟩:=only b o hb
   have hd:some (⟨blk,off,cs.size - off - len,1,some (.cells cs el fz)⟩:Gd)=some d:=hd
   cases hd
   exact fun k=>k.2 rfl
 refine callsIn_wide.1 (CallsIn.mono (ev_call hl.mixed hl.orc hHR (args:=[.int .u8 wh,.slice (some ⟨0,0,0⟩) len cap false 1]) (xs:=[.int .u8 wh,.slice (some ⟨blk,off,none⟩) len cap]) ⟨_,_,rfl,⟨_,_,⟨_,rfl,fun _=>⟨rfl,rfl⟩,by simp [adr]⟩,rfl,rfl⟩,rfl⟩ h1).2 ?_)
 rintro e w' ⟨y,rfl,g',hle,hv,hh⟩
 have:y=.bool true:=hv
 subst this
 refine⟨rfl,kept_same (fun k hk=>?_) hh.os.1 hh.os.2⟩
 by_cases hkb:k=blk
 ·subst hkb
  obtain⟨d,hd,hbr⟩:=hh.obj 0 _ h3
  have:=hle 0 ⟨k,off,cs.size - off - len,1,some (.cells cs el fz)⟩ rfl
  rw [hd] at this
  cases this
  obtain⟨_,_,_,_,_,e2,_⟩:=hbr
  have e2:w'.heap[k]?=some (.cells cs el fz):=e2
  rw [e2,hc]
 ·exact(hh.keep k ⟨hk,hkb⟩).2
end
end Go.Ev
