/- The law BoardLimit: its whole walk, from its arguments to its answer. What is known of calls that leave nothing in memory: by the fast machine, in each heap. The law BoardLimit as a call in a world. Walks of package state: the rules of all events. Walks of package state: the rule of any event. The code of more functions, its operations looked up. Rules for a range over a function. Walks of package state: may an event be done, for most kinds at once. Walks of package state: what events of items, and of the turn, do. Walks of packages state and board: any event is applied, and done on a board. Walks of packages board and sba: what is asked of a board. The walk of sba.Put: one player's items are put onto the stack. Conditions: none. -/
import Derived.Test.YtcmplhmbmmclaaaGreatEvK
set_option linter.unusedVariables false
set_option linter.unusedSectionVars false
namespace Go.Ev
noncomputable def fhQ:FH:=⟨rp64 (rp64 (rp64 fo0)),1,fr0⟩
noncomputable def opv0:V:={ vU with t:=13,a:=0 }
section
variable [Sg] {P:Program} {K:Orc} {F:Nat->FuncId} {T:Nat->TypeId}
end
end Go.Ev
namespace Go.Ev
@[reducible] noncomputable def hp0:Heap:=⟨.lf,0⟩
theorem hp0_get (b:Nat):hp0.get b=none:=by simp [Heap.get,Tr.get]
theorem KCon.anywhere {P:Program} {f:FuncId} {args:List AV} {v:AV} (h:KCon P f args hp0 v hp0) (ha:∀ ρ,AV.rens ρ args=args) (hv:∀ ρ,v.ren ρ=v) (Hb:Heap):KCon P f args Hb v Hb:=by
 refine⟨fun {X w0 g w xs} hH hx=>?_⟩
 have top:∀ b,Hb.next≤b->Hb.get b=none:=fun b hb=>hH.none_of_next hb
 have hf:=h.frame (ρ:=fun b=>Hb.next+b) (Hb:=Hb) (Hb':=Hb) ⟨fun b hb=>absurd hb (Nat.not_lt_zero _),fun b hb=>absurd hb (Nat.not_lt_zero _),fun b _=>by show Hb.next+b=Hb.next+(b - 0);omega,fun b c e=>by have:Hb.next+b=Hb.next+c:=e;omega⟩
  (fun b _=>hp0_get b) ⟨fun b=>by rw [hp0_get];exact top _ (by omega),fun _ _=>rfl,by show Hb.next=Hb.next+(0 - 0);omega,Nat.le_refl _⟩
 rw [ha,hv] at hf
 exact hf.call hH hx
theorem fast_kcon [Sg] {P:Program} (hm:P.follows .mixedOrders=true) {n:Nat} {f:FuncId} {args:List V} {as:List AV} {a:AV} (ha:VAs args as) (hb:AV.Bel 0 a) (h:((callF P noneKnown n).call f args fh0 fun v _=>isA v a)=true):KCon P f as hp0 a hp0:=by
 obtain⟨O,hO,hF⟩:=noneKnown_ok P
 obtain⟨m,b,v,h',H',h1,h2,_,_,h5⟩:=(callF_ok P (hF _) n).call ha fh0_ok h
 have:=isA_ok h2 h5
 subst this
 exact(KCon.of_ev hm hO h1).upto ⟨rfl,Nat.zero_le _,fun b o hb=>by rw [hp0_get] at hb;cases hb⟩ (Nat.le_refl _) hb
end Go.Ev
namespace Go.Ev
theorem fhQ_ok [Sg]:FHr fhQ ⟨.lf,1⟩:=by
 refine⟨rfl,by show 1≤262144;omega,fun b hb=>?_⟩
 have:hget b fhQ=fo0:=by
  rw [hget_eq]
  show at64 b (at64 (b / 64) (at64 (b / 4096) (rp64 (rp64 (rp64 fo0)))))=fo0
  rw [at_rp64,at_rp64,at_rp64]
 rw [this]
 exact FOr.gone _ rfl rfl
theorem HR.one (w:World):HR ⟨fun k=>k < w.heap.size,fun _=>False⟩ w (fun _=>none) ⟨.lf,1⟩ w:=
 ⟨fun b o h=>by simp [Heap.get,Tr.get] at h,fun b b' o o' d d' h=>by simp [Heap.get,Tr.get] at h,fun _ _=>rfl,fun b o d h=>by simp [Heap.get,Tr.get] at h,fun k hk=>⟨hk,rfl⟩,Nat.le_refl _,⟨rfl,rfl⟩,fun b h=>h.elim⟩
structure Opq (a:AV):Prop where
 one:a.one=true
 nb:∀ b,a≠.bool b
 same:∀ n,sameN (n+1) a a=true
theorem Opq.slice {a:Option Pl} {n c rw:Nat} {sl:Bool}:Opq (.slice a n c sl rw):=
 ⟨rfl,fun b h=>(by cases h),fun m=>by cases a <;> cases sl <;> simp [sameN,same0]⟩
theorem Opq.empty:Opq .empty:=⟨rfl,fun b h=>(by cases h),fun m=>rfl⟩
theorem opv0_ok [Sg] {lv:AV} (h:Sg.val 0=lv) (ho:Opq lv):VA opv0 lv:=by
 subst h
 exact VA.opq (v:=opv0) rfl ho.one ho.nb ho.same
section
variable {P:Program} {K:Orc} {F:Nat->FuncId} {T:Nat->TypeId} {f:FuncId} {fn:Func} {c:Code} {R:FRule} {n:Nat}
end
end Go.Ev
set_option maxRecDepth 4000
namespace Go.Ev
def RDir (F:Nat->FuncId) (bw:Nat) (m:SH) (v:AV) (p o f:Bool) (fn:Nat):Prop:=∃ bx,v=.agg [.bool p,.bool o,.bool f,.func (F fn) [] [.ptr (some ⟨bx,0,0⟩)]]∧Has bx (.r false [[.ptr (some ⟨bw,0,0⟩)]] 1) m
def RVia (F:Nat->FuncId) (bw:Nat) (m:SH) (v:AV) (p o f:Bool) (fn g:Nat):Prop:=∃ bd bx,v=.agg [.bool p,.bool o,.bool f,.func (F fn) [] [.ptr (some ⟨bd,0,0⟩),.ptr (some ⟨bx,0,0⟩)]]∧Has bd (.r false [[.func (F g) [] []]] 1) m∧Has bx (.r false [[.ptr (some ⟨bw,0,0⟩)]] 1) m
def RBnd (F:Nat->FuncId) (bw:Nat) (v:AV) (p o f:Bool) (fn:Nat):Prop:=v=.agg [.bool p,.bool o,.bool f,.func (F fn) [.ptr (some ⟨bw,0,0⟩)] []]
def RV (F:Nat->FuncId) (bw:Nat) (m:SH) (k:Nat) (v:AV):Prop:=match k with
 | 1=>RDir F bw m v true false false 265
 | 2=>RBnd F bw v false true false 260
 | 3=>RVia F bw m v false true true 248 250
 | 4=>RVia F bw m v false true true 248 251
 | 5=>RVia F bw m v false true true 248 253
 | 6=>RVia F bw m v false true true 248 255
 | 7=>RVia F bw m v true false false 264 266
 | 8=>RVia F bw m v true false false 264 267
 | 9=>RVia F bw m v true false false 264 268
 | 10=>RBnd F bw v false true true 259
 | 11=>RVia F bw m v false true true 248 256
 | 12=>RVia F bw m v false true true 248 257
 | 13=>RVia F bw m v false true true 248 258
 | 14=>RVia F bw m v false true true 248 252
 | 15=>RDir F bw m v false false false 274
 | 16=>RDir F bw m v false false false 277
 | 17=>RDir F bw m v false false false 276
 | 18=>RDir F bw m v false false false 279
 | 19=>RDir F bw m v false false false 280
 | 20=>RBnd F bw v true false false 271
 | 21=>RDir F bw m v true false false 272
 | 22=>RDir F bw m v false false false 281
 | 23=>RVia F bw m v true false false 264 269
 | 24=>RVia F bw m v true false false 264 270
 | 25=>RDir F bw m v false true false 261
 | 26=>RBnd F bw v true false false 273
 | 27=>RDir F bw m v false false false 282
 | 28=>RBnd F bw v false false false 283
 | 29=>RDir F bw m v false false false 284
 | _=>False
theorem RDir.mono {F:Nat->FuncId} {bw:Nat} {m m':SH} {v:AV} {p o f:Bool} {fn:Nat} (h:RDir F bw m v p o f fn) (hm:∀ b o,Has b o m->Has b o m'):RDir F bw m' v p o f fn:=by
 obtain⟨bx,h1,h2⟩:=h
 exact⟨bx,h1,hm _ _ h2⟩
theorem RVia.mono {F:Nat->FuncId} {bw:Nat} {m m':SH} {v:AV} {p o f:Bool} {fn g:Nat} (h:RVia F bw m v p o f fn g) (hm:∀ b o,Has b o m->Has b o m'):RVia F bw m' v p o f fn g:=by
 obtain⟨bd,bx,h1,h2,h3⟩:=h
 exact⟨bd,bx,h1,hm _ _ h2,hm _ _ h3⟩
theorem RV.mono {F:Nat->FuncId} {bw:Nat} {m m':SH} {k:Nat} {v:AV} (h:RV F bw m k v) (hm:∀ b o,Has b o m->Has b o m'):RV F bw m' k v:=by
 unfold RV at h ⊢
 split at h <;> first | exact h | exact RDir.mono h hm | exact RVia.mono h hm
theorem RV.agg {F:Nat->FuncId} {bw:Nat} {m:SH} {k:Nat} {v:AV} (h:RV F bw m k v):∃ p o f fn,v=.agg [.bool p,.bool o,.bool f,fn]∧partCells 1 fn=some [fn]:=by
 unfold RV at h
 split at h <;> first | exact h.elim | (obtain⟨_,h,_⟩:=h;exact⟨_,_,_,_,h,rfl⟩) | (obtain⟨_,_,h,_⟩:=h;exact⟨_,_,_,_,h,rfl⟩) | exact⟨_,_,_,_,h,rfl⟩
structure RMap (F:Nat->FuncId) (bw:Nat) (m:SH) (es:List (AV × AV)) (ks ns:List Nat):Prop where
 yes:∀ k∈ks,∃ v,lookIn .pi (iv (.ofNat k)) es=some (some v)∧RV F bw m k v
 no:∀ k∈ns,lookIn .pi (iv (.ofNat k)) es=some none
section
variable {P:Program} {K:Orc} {rd:Option Nat} {nt:Nat} {l:Sl} {ds:List ADef} {s:SH} {Q Qn Qr:Po} {Qe:Nat->Po} {F:Nat->FuncId} {T:Nat->TypeId}
theorem onFieldG_ok (hB:Base P K F T) {f x:AV} (hf:partCells 1 f=some [f]):Tri P K (F 247) [f,x] s (fun v s'=>∃ bd m,v=.agg [.bool false,.bool true,.bool true,.func (F 248) [] [.ptr (some ⟨bd,0,0⟩),x]]∧s'=m++s∧Has bd (.r false [[f]] 1) m):=by
 refine hB.f247.tri (by simp) ?_
 unfold a247
 refine WP.seq (WP.ops (WO.a (.box rfl hf) fun b2=>WO.a (.alloc rfl) fun b3=>WO.nil ?_))
 refine WP.seq (WP.ops (WO.r (.mkfn rfl rfl) (WO.r (.build rfl rfl) (WO.w (WS.store rfl rfl rfl .here rfl rfl (WO.nil (WP.ret (Fin.mk (.cell rfl hB.t290.1 hB.t290.2 (.inl rfl) .here rfl rfl rfl .nil) ?_))))))))
 exact⟨b2,[_,_],rfl,rfl,.there .here⟩
theorem ofG_ok (hB:Base P K F T) {f x:AV} (hf:partCells 1 f=some [f]):Tri P K (F 263) [f,x] s (fun v s'=>∃ bd m,v=.agg [.bool true,.bool false,.bool false,.func (F 264) [] [.ptr (some ⟨bd,0,0⟩),x]]∧s'=m++s∧Has bd (.r false [[f]] 1) m):=by
 refine hB.f263.tri (by simp) ?_
 unfold a263
 refine WP.seq (WP.ops (WO.a (.box rfl hf) fun b2=>WO.a (.alloc rfl) fun b3=>WO.nil ?_))
 refine WP.seq (WP.ops (WO.r (.mkfn rfl rfl) (WO.r (.build rfl rfl) (WO.w (WS.store rfl rfl rfl .here rfl rfl (WO.nil (WP.ret (Fin.mk (.cell rfl hB.t290.1 hB.t290.2 (.inl rfl) .here rfl rfl rfl .nil) ?_))))))))
 exact⟨b2,[_,_],rfl,rfl,.there .here⟩
theorem thingsG_ok (hB:Base P K F T) {bw:Nat}:Tri P K (F 224) [.ptr (some ⟨bw,0,0⟩)] s (fun v s'=>∃ b es m,v=.map (some b)∧s'=m++s∧Has b (.m es) m∧RMap F bw m es [3,4,14,5,6,11,12,13,10,2,25] [1,7,8,9,23,24,20,21,26,15,17,16,18,19,22,27,28,29]):=by
 refine hB.f224.tri (by simp) ?_
 unfold a224
 refine WP.seq (WP.ops (WO.a (.box rfl rfl) fun b1=>WO.r (.mv rfl) (WO.nil ?_)))
 refine WP.seq (WP.ops (WO.r (.mkfn rfl rfl) (WO.r (.mv rfl) (WO.nil (WP.seq (WP.drawn1 fun b5=>?_))))))
 refine(WD.dm (WD.pu (.mv rfl) (WD.ch (.no (show bit 2 0=false from rfl) .nil) (WS.callF (first:=[]) (vs:=[.func (F 250) [] []]) (cap:=[.ptr (some ⟨b1,0,0⟩)]) rfl rfl (onFieldG_ok (f:=(.func (F 250) [] [])) (x:=.ptr (some ⟨b1,0,0⟩)) hB rfl) ?_))))
 rintro w1 _ ⟨f1,m1,rfl,rfl,h1⟩
 refine(WD.in1 rfl rfl rfl rfl rfl rfl (WD.pu (.mv rfl) (WD.ch (.no (show bit 22 0=false from rfl) .nil) (WS.callF (first:=[]) (vs:=[.func (F 251) [] []]) (cap:=[.ptr (some ⟨b1,0,0⟩)]) rfl rfl (onFieldG_ok (f:=(.func (F 251) [] [])) (x:=.ptr (some ⟨b1,0,0⟩)) hB rfl) ?_))))
 rintro w2 _ ⟨f2,m2,rfl,rfl,h2⟩
 refine(WD.in1 rfl rfl rfl rfl rfl rfl (WD.pu (.mv rfl) (WD.ch (.no (show bit 182 0=false from rfl) .nil) (WS.callF (first:=[]) (vs:=[.func (F 252) [] []]) (cap:=[.ptr (some ⟨b1,0,0⟩)]) rfl rfl (onFieldG_ok (f:=(.func (F 252) [] [])) (x:=.ptr (some ⟨b1,0,0⟩)) hB rfl) ?_))))
 rintro w3 _ ⟨f3,m3,rfl,rfl,h3⟩
 refine(WD.in1 rfl rfl rfl rfl rfl rfl (WD.pu (.mv rfl) (WD.ch (.no (show bit 1462 0=false from rfl) .nil) (WS.callF (first:=[]) (vs:=[.func (F 253) [] []]) (cap:=[.ptr (some ⟨b1,0,0⟩)]) rfl rfl (onFieldG_ok (f:=(.func (F 253) [] [])) (x:=.ptr (some ⟨b1,0,0⟩)) hB rfl) ?_))))
 rintro w4 _ ⟨f4,m4,rfl,rfl,h4⟩
 refine(WD.in1 rfl rfl rfl rfl rfl rfl (WD.pu (.mv rfl) (WD.ch (.no (show bit 11702 0=false from rfl) .nil) (WS.callF (first:=[]) (vs:=[.func (F 255) [] []]) (cap:=[.ptr (some ⟨b1,0,0⟩)]) rfl rfl (onFieldG_ok (f:=(.func (F 255) [] [])) (x:=.ptr (some ⟨b1,0,0⟩)) hB rfl) ?_))))
 rintro w5 _ ⟨f5,m5,rfl,rfl,h5⟩
 refine(WD.in1 rfl rfl rfl rfl rfl rfl (WD.pu (.mv rfl) (WD.ch (.no (show bit 93622 0=false from rfl) .nil) (WS.callF (first:=[]) (vs:=[.func (F 256) [] []]) (cap:=[.ptr (some ⟨b1,0,0⟩)]) rfl rfl (onFieldG_ok (f:=(.func (F 256) [] [])) (x:=.ptr (some ⟨b1,0,0⟩)) hB rfl) ?_))))
 rintro w6 _ ⟨f6,m6,rfl,rfl,h6⟩
 refine(WD.in1 rfl rfl rfl rfl rfl rfl (WD.pu (.mv rfl) (WD.ch (.no (show bit 748982 0=false from rfl) .nil) (WS.callF (first:=[]) (vs:=[.func (F 257) [] []]) (cap:=[.ptr (some ⟨b1,0,0⟩)]) rfl rfl (onFieldG_ok (f:=(.func (F 257) [] [])) (x:=.ptr (some ⟨b1,0,0⟩)) hB rfl) ?_))))
 rintro w7 _ ⟨f7,m7,rfl,rfl,h7⟩
 refine(WD.in1 rfl rfl rfl rfl rfl rfl (WD.pu (.mv rfl) (WD.ch (.no (show bit 5991862 0=false from rfl) .nil) (WS.callF (first:=[]) (vs:=[.func (F 258) [] []]) (cap:=[.ptr (some ⟨b1,0,0⟩)]) rfl rfl (onFieldG_ok (f:=(.func (F 258) [] [])) (x:=.ptr (some ⟨b1,0,0⟩)) hB rfl) ?_))))
 rintro w8 _ ⟨f8,m8,rfl,rfl,h8⟩
 refine(WD.in1 rfl rfl rfl rfl rfl rfl (WD.lk rfl (.no (show bit 0 0=false from rfl) .nil) (.load rfl (.app (.app (.app (.app (.app (.app (.app (.app (.there .here))))))))) rfl rfl rfl) (WD.pu (.mkfn rfl rfl) (WD.pu (.build rfl rfl) (WD.in1 rfl rfl rfl rfl rfl rfl (WD.lk rfl (.no (show bit 0 0=false from rfl) .nil) (.load rfl (.app (.app (.app (.app (.app (.app (.app (.app (.there .here))))))))) rfl rfl rfl) (WD.pu (.mkfn rfl rfl) (WD.pu (.build rfl rfl) (WD.in1 rfl rfl rfl rfl rfl rfl (WD.pu (.mkfn rfl rfl) (WD.pu (.build rfl rfl) (WD.in1 rfl rfl rfl rfl rfl rfl (WD.pu (.mv rfl) (WD.pu (.mv rfl) (WD.nil (.cons (.app (.app (.app (.app (.app (.app (.app (.app .here)))))))) .nil) ?_ ?_)))))))))))))))
 rotate_left
 ·intro o ho
  rcases List.mem_cons.1 ho with rfl|ho
  ·refine⟨(fun i hi=>by simp only [List.mem_singleton] at hi;subst hi;rfl),Nat.zero_le _,same_p _ _ _,fun k _ hk=>?_⟩
   rcases(by have:k≤8:=hk;omega:k=0∨k=1∨k=2∨k=3∨k=4∨k=5∨k=6∨k=7∨k=8) with rfl|rfl|rfl|rfl|rfl|rfl|rfl|rfl|rfl
   ·exact⟨_,rfl,.load rfl (.there .here) rfl rfl rfl⟩
   ·exact⟨_,rfl,.load rfl (.app (.there .here)) rfl rfl rfl⟩
   ·exact⟨_,rfl,.load rfl (.app (.app (.there .here))) rfl rfl rfl⟩
   ·exact⟨_,rfl,.load rfl (.app (.app (.app (.there .here)))) rfl rfl rfl⟩
   ·exact⟨_,rfl,.load rfl (.app (.app (.app (.app (.there .here))))) rfl rfl rfl⟩
   ·exact⟨_,rfl,.load rfl (.app (.app (.app (.app (.app (.there .here)))))) rfl rfl rfl⟩
   ·exact⟨_,rfl,.load rfl (.app (.app (.app (.app (.app (.app (.there .here))))))) rfl rfl rfl⟩
   ·exact⟨_,rfl,.load rfl (.app (.app (.app (.app (.app (.app (.app (.there .here)))))))) rfl rfl rfl⟩
   ·exact⟨_,rfl,.load rfl (.app (.app (.app (.app (.app (.app (.app (.app (.there .here))))))))) rfl rfl rfl⟩
  ·rw [List.mem_singleton.1 ho]
   refine⟨(fun i hi=>by simp only [List.mem_singleton] at hi;subst hi;rfl),Nat.zero_le _,same_p _ _ _,fun k _ hk=>?_⟩
   rcases(by have:k≤8:=hk;omega:k=0∨k=1∨k=2∨k=3∨k=4∨k=5∨k=6∨k=7∨k=8) with rfl|rfl|rfl|rfl|rfl|rfl|rfl|rfl|rfl
   ·exact⟨_,rfl,.load rfl (.there .here) rfl rfl rfl⟩
   ·exact⟨_,rfl,.load rfl (.app (.there .here)) rfl rfl rfl⟩
   ·exact⟨_,rfl,.load rfl (.app (.app (.there .here))) rfl rfl rfl⟩
   ·exact⟨_,rfl,.load rfl (.app (.app (.app (.there .here)))) rfl rfl rfl⟩
   ·exact⟨_,rfl,.load rfl (.app (.app (.app (.app (.there .here))))) rfl rfl rfl⟩
   ·exact⟨_,rfl,.load rfl (.app (.app (.app (.app (.app (.there .here)))))) rfl rfl rfl⟩
   ·exact⟨_,rfl,.load rfl (.app (.app (.app (.app (.app (.app (.there .here))))))) rfl rfl rfl⟩
   ·exact⟨_,rfl,.load rfl (.app (.app (.app (.app (.app (.app (.app (.there .here)))))))) rfl rfl rfl⟩
   ·exact⟨_,rfl,.load rfl (.app (.app (.app (.app (.app (.app (.app (.app (.there .here))))))))) rfl rfl rfl⟩
 refine WP.ret (Fin.mk (.tmp rfl .nil) ?_)
 have hx:∀ y,Has b1 (.r false [[.ptr (some ⟨bw,0,0⟩)]] 1) (m8++(m7++(m6++(m5++(m4++(m3++(m2++(m1++([y,(b1,.r false [[.ptr (some ⟨bw,0,0⟩)]] 1)]))))))))):=fun y=>(.app (.app (.app (.app (.app (.app (.app (.app (.there .here)))))))))
 refine⟨b5,_,_,rfl,(pull (pull (pull (pull (pull (pull (pull (pull pull2)))))))),(.app (.app (.app (.app (.app (.app (.app (.app .here)))))))),fun k hk=>?_,fun k hk=>?_⟩
 ·simp only [List.mem_cons,List.not_mem_nil,or_false] at hk
  rcases hk with rfl|rfl|rfl|rfl|rfl|rfl|rfl|rfl|rfl|rfl|rfl
  ·exact⟨_,rfl,f1,b1,rfl,(.app (.app (.app (.app (.app (.app (.app (.left h1)))))))),hx _⟩
  ·exact⟨_,rfl,f2,b1,rfl,(.app (.app (.app (.app (.app (.app (.left h2))))))),hx _⟩
  ·exact⟨_,rfl,f3,b1,rfl,(.app (.app (.app (.app (.app (.left h3)))))),hx _⟩
  ·exact⟨_,rfl,f4,b1,rfl,(.app (.app (.app (.app (.left h4))))),hx _⟩
  ·exact⟨_,rfl,f5,b1,rfl,(.app (.app (.app (.left h5)))),hx _⟩
  ·exact⟨_,rfl,f6,b1,rfl,(.app (.app (.left h6))),hx _⟩
  ·exact⟨_,rfl,f7,b1,rfl,(.app (.left h7)),hx _⟩
  ·exact⟨_,rfl,f8,b1,rfl,(.left h8),hx _⟩
  ·exact⟨_,rfl,rfl⟩
  ·exact⟨_,rfl,rfl⟩
  ·exact⟨_,rfl,b1,rfl,hx _⟩
 ·simp only [List.mem_cons,List.not_mem_nil,or_false] at hk
  rcases hk with rfl|rfl|rfl|rfl|rfl|rfl|rfl|rfl|rfl|rfl|rfl|rfl|rfl|rfl|rfl|rfl|rfl|rfl <;> rfl
theorem peopleG_ok (hB:Base P K F T) {bw:Nat}:Tri P K (F 225) [.ptr (some ⟨bw,0,0⟩)] s (fun v s'=>∃ b es m,v=.map (some b)∧s'=m++s∧Has b (.m es) m∧RMap F bw m es [1,7,8,9,23,24,20,21,26] [3,4,14,5,6,11,12,13,10,2,25,15,17,16,18,19,22,27,28,29]):=by
 refine hB.f225.tri (by simp) ?_
 unfold a225
 refine WP.seq (WP.ops (WO.a (.box rfl rfl) fun b1=>WO.r (.mv rfl) (WO.nil ?_)))
 refine WP.seq (WP.ops (WO.r (.mkfn rfl rfl) (WO.r (.mv rfl) (WO.nil (WP.seq (WP.drawn1 fun b5=>?_))))))
 refine(WD.dm (WD.pu (.mkfn rfl rfl) (WD.pu (.build rfl rfl) (WD.in1 rfl rfl rfl rfl rfl rfl (WD.pu (.mv rfl) (WD.ch (.no (show bit 16 0=false from rfl) .nil) (WS.callF (first:=[]) (vs:=[.func (F 266) [] []]) (cap:=[.ptr (some ⟨b1,0,0⟩)]) rfl rfl (ofG_ok (f:=(.func (F 266) [] [])) (x:=.ptr (some ⟨b1,0,0⟩)) hB rfl) ?_)))))))
 rintro w1 _ ⟨f1,m1,rfl,rfl,h1⟩
 refine(WD.in1 rfl rfl rfl rfl rfl rfl (WD.pu (.mv rfl) (WD.ch (.no (show bit 176 0=false from rfl) .nil) (WS.callF (first:=[]) (vs:=[.func (F 267) [] []]) (cap:=[.ptr (some ⟨b1,0,0⟩)]) rfl rfl (ofG_ok (f:=(.func (F 267) [] [])) (x:=.ptr (some ⟨b1,0,0⟩)) hB rfl) ?_))))
 rintro w2 _ ⟨f2,m2,rfl,rfl,h2⟩
 refine(WD.in1 rfl rfl rfl rfl rfl rfl (WD.pu (.mv rfl) (WD.ch (.no (show bit 1456 0=false from rfl) .nil) (WS.callF (first:=[]) (vs:=[.func (F 268) [] []]) (cap:=[.ptr (some ⟨b1,0,0⟩)]) rfl rfl (ofG_ok (f:=(.func (F 268) [] [])) (x:=.ptr (some ⟨b1,0,0⟩)) hB rfl) ?_))))
 rintro w3 _ ⟨f3,m3,rfl,rfl,h3⟩
 refine(WD.in1 rfl rfl rfl rfl rfl rfl (WD.pu (.mv rfl) (WD.ch (.no (show bit 11696 0=false from rfl) .nil) (WS.callF (first:=[]) (vs:=[.func (F 269) [] []]) (cap:=[.ptr (some ⟨b1,0,0⟩)]) rfl rfl (ofG_ok (f:=(.func (F 269) [] [])) (x:=.ptr (some ⟨b1,0,0⟩)) hB rfl) ?_))))
 rintro w4 _ ⟨f4,m4,rfl,rfl,h4⟩
 refine(WD.in1 rfl rfl rfl rfl rfl rfl (WD.pu (.mv rfl) (WD.ch (.no (show bit 93616 0=false from rfl) .nil) (WS.callF (first:=[]) (vs:=[.func (F 270) [] []]) (cap:=[.ptr (some ⟨b1,0,0⟩)]) rfl rfl (ofG_ok (f:=(.func (F 270) [] [])) (x:=.ptr (some ⟨b1,0,0⟩)) hB rfl) ?_))))
 rintro w5 _ ⟨f5,m5,rfl,rfl,h5⟩
 refine(WD.in1 rfl rfl rfl rfl rfl rfl (WD.lk rfl (.no (show bit 0 0=false from rfl) .nil) (.load rfl (.app (.app (.app (.app (.app (.there .here)))))) rfl rfl rfl) (WD.pu (.mkfn rfl rfl) (WD.pu (.build rfl rfl) (WD.in1 rfl rfl rfl rfl rfl rfl (WD.pu (.mkfn rfl rfl) (WD.pu (.build rfl rfl) (WD.in1 rfl rfl rfl rfl rfl rfl (WD.lk rfl (.no (show bit 0 0=false from rfl) .nil) (.load rfl (.app (.app (.app (.app (.app (.there .here)))))) rfl rfl rfl) (WD.pu (.mkfn rfl rfl) (WD.pu (.build rfl rfl) (WD.in1 rfl rfl rfl rfl rfl rfl (WD.pu (.mv rfl) (WD.pu (.mv rfl) (WD.nil (.cons (.app (.app (.app (.app (.app .here))))) .nil) ?_ ?_)))))))))))))))
 rotate_left
 ·intro o ho
  rcases List.mem_cons.1 ho with rfl|ho
  ·refine⟨(fun i hi=>by simp only [List.mem_singleton] at hi;subst hi;rfl),Nat.zero_le _,same_p _ _ _,fun k _ hk=>?_⟩
   rcases(by have:k≤5:=hk;omega:k=0∨k=1∨k=2∨k=3∨k=4∨k=5) with rfl|rfl|rfl|rfl|rfl|rfl
   ·exact⟨_,rfl,.load rfl (.there .here) rfl rfl rfl⟩
   ·exact⟨_,rfl,.load rfl (.app (.there .here)) rfl rfl rfl⟩
   ·exact⟨_,rfl,.load rfl (.app (.app (.there .here))) rfl rfl rfl⟩
   ·exact⟨_,rfl,.load rfl (.app (.app (.app (.there .here)))) rfl rfl rfl⟩
   ·exact⟨_,rfl,.load rfl (.app (.app (.app (.app (.there .here))))) rfl rfl rfl⟩
   ·exact⟨_,rfl,.load rfl (.app (.app (.app (.app (.app (.there .here)))))) rfl rfl rfl⟩
  ·rw [List.mem_singleton.1 ho]
   refine⟨(fun i hi=>by simp only [List.mem_singleton] at hi;subst hi;rfl),Nat.zero_le _,same_p _ _ _,fun k _ hk=>?_⟩
   rcases(by have:k≤5:=hk;omega:k=0∨k=1∨k=2∨k=3∨k=4∨k=5) with rfl|rfl|rfl|rfl|rfl|rfl
   ·exact⟨_,rfl,.load rfl (.there .here) rfl rfl rfl⟩
   ·exact⟨_,rfl,.load rfl (.app (.there .here)) rfl rfl rfl⟩
   ·exact⟨_,rfl,.load rfl (.app (.app (.there .here))) rfl rfl rfl⟩
   ·exact⟨_,rfl,.load rfl (.app (.app (.app (.there .here)))) rfl rfl rfl⟩
   ·exact⟨_,rfl,.load rfl (.app (.app (.app (.app (.there .here))))) rfl rfl rfl⟩
   ·exact⟨_,rfl,.load rfl (.app (.app (.app (.app (.app (.there .here)))))) rfl rfl rfl⟩
 refine WP.ret (Fin.mk (.tmp rfl .nil) ?_)
 have hx:∀ y,Has b1 (.r false [[.ptr (some ⟨bw,0,0⟩)]] 1) (m5++(m4++(m3++(m2++(m1++([y,(b1,.r false [[.ptr (some ⟨bw,0,0⟩)]] 1)])))))):=fun y=>(.app (.app (.app (.app (.app (.there .here))))))
 refine⟨b5,_,_,rfl,(pull (pull (pull (pull (pull pull2))))),(.app (.app (.app (.app (.app .here))))),fun k hk=>?_,fun k hk=>?_⟩
 ·simp only [List.mem_cons,List.not_mem_nil,or_false] at hk
  rcases hk with rfl|rfl|rfl|rfl|rfl|rfl|rfl|rfl|rfl
  ·exact⟨_,rfl,b1,rfl,hx _⟩
  ·exact⟨_,rfl,f1,b1,rfl,(.app (.app (.app (.app (.left h1))))),hx _⟩
  ·exact⟨_,rfl,f2,b1,rfl,(.app (.app (.app (.left h2)))),hx _⟩
  ·exact⟨_,rfl,f3,b1,rfl,(.app (.app (.left h3))),hx _⟩
  ·exact⟨_,rfl,f4,b1,rfl,(.app (.left h4)),hx _⟩
  ·exact⟨_,rfl,f5,b1,rfl,(.left h5),hx _⟩
  ·exact⟨_,rfl,rfl⟩
  ·exact⟨_,rfl,b1,rfl,hx _⟩
  ·exact⟨_,rfl,rfl⟩
 ·simp only [List.mem_cons,List.not_mem_nil,or_false] at hk
  rcases hk with rfl|rfl|rfl|rfl|rfl|rfl|rfl|rfl|rfl|rfl|rfl|rfl|rfl|rfl|rfl|rfl|rfl|rfl|rfl|rfl <;> rfl
theorem othersG_ok (hB:Base P K F T) {bw:Nat}:Tri P K (F 226) [.ptr (some ⟨bw,0,0⟩)] s (fun v s'=>∃ b es m,v=.map (some b)∧s'=m++s∧Has b (.m es) m∧RMap F bw m es [15,17,16,18,19,22,27,28,29] [3,4,14,5,6,11,12,13,10,2,25,1,7,8,9,23,24,20,21,26]):=by
 refine hB.f226.tri (by simp) ?_
 unfold a226
 refine WP.seq (WP.ops (WO.a (.box rfl rfl) fun b1=>WO.r (.mv rfl) (WO.nil ?_)))
 refine WP.seq (WP.ops (WO.a .mkmap fun b5=>(WO.r (.mkfn rfl rfl) (WO.r (.build rfl rfl) (WO.w (WS.ins rfl rfl rfl .here rfl (WO.r (.mkfn rfl rfl) (WO.r (.build rfl rfl) (WO.w (WS.ins rfl rfl rfl .here rfl (WO.r (.mkfn rfl rfl) (WO.r (.build rfl rfl) (WO.w (WS.ins rfl rfl rfl .here rfl (WO.r (.mkfn rfl rfl) (WO.r (.build rfl rfl) (WO.w (WS.ins rfl rfl rfl .here rfl (WO.r (.mkfn rfl rfl) (WO.r (.build rfl rfl) (WO.w (WS.ins rfl rfl rfl .here rfl (WO.r (.mkfn rfl rfl) (WO.r (.build rfl rfl) (WO.w (WS.ins rfl rfl rfl .here rfl (WO.r (.mkfn rfl rfl) (WO.r (.build rfl rfl) (WO.w (WS.ins rfl rfl rfl .here rfl (WO.r (.load rfl (.there .here) rfl rfl rfl) (WO.r (.mkfn rfl rfl) (WO.r (.build rfl rfl) (WO.w (WS.ins rfl rfl rfl .here rfl (WO.r (.mkfn rfl rfl) (WO.r (.build rfl rfl) (WO.w (WS.ins rfl rfl rfl .here rfl (WO.r (.mv rfl) (WO.r (.mv rfl) (WO.nil ?_))))))))))))))))))))))))))))))))))))))))))
 refine WP.ret (Fin.mk (.tmp rfl .nil) ?_)
 have hx:∀ y,Has b1 (.r false [[.ptr (some ⟨bw,0,0⟩)]] 1) ([y,(b1,.r false [[.ptr (some ⟨bw,0,0⟩)]] 1)]):=fun y=>(.there .here)
 refine⟨b5,_,_,rfl,pull2,.here,fun k hk=>?_,fun k hk=>?_⟩
 ·simp only [List.mem_cons,List.not_mem_nil,or_false] at hk
  rcases hk with rfl|rfl|rfl|rfl|rfl|rfl|rfl|rfl|rfl
  ·exact⟨_,rfl,b1,rfl,hx _⟩
  ·exact⟨_,rfl,b1,rfl,hx _⟩
  ·exact⟨_,rfl,b1,rfl,hx _⟩
  ·exact⟨_,rfl,b1,rfl,hx _⟩
  ·exact⟨_,rfl,b1,rfl,hx _⟩
  ·exact⟨_,rfl,b1,rfl,hx _⟩
  ·exact⟨_,rfl,b1,rfl,hx _⟩
  ·exact⟨_,rfl,rfl⟩
  ·exact⟨_,rfl,b1,rfl,hx _⟩
 ·simp only [List.mem_cons,List.not_mem_nil,or_false] at hk
  rcases hk with rfl|rfl|rfl|rfl|rfl|rfl|rfl|rfl|rfl|rfl|rfl|rfl|rfl|rfl|rfl|rfl|rfl|rfl|rfl|rfl <;> rfl
end
end Go.Ev
namespace Go.Ev
section
variable {P:Program} {K:Orc} {rd:Option Nat} {nt:Nat} {l:Sl} {ds:List ADef} {s:SH} {Q Qn Qr:Po} {Qe:Nat->Po} {F:Nat->FuncId} {T:Nat->TypeId}
theorem ruleP_ok (hB:Base P K F T) {bw k:Nat} (hk:k∈[1,7,8,9,23,24,20,21,26]):Tri P K (F 202) [.ptr (some ⟨bw,0,0⟩),iv (.ofNat k)] s (fun v s'=>∃ m,s'=m++s∧RV F bw m k v):=by
 refine hB.f202.tri (by simp) ?_
 unfold a202
 refine WP.seq (WP.ops (WO.a (.alloc rfl) fun b4=>WO.nil ?_))
 refine WP.seq (WP.seq (WP.ops (WO.r (.mv rfl) (WO.w (WS.callF (first:=[]) (vs:=[.ptr (some ⟨bw,0,0⟩)]) (cap:=[]) rfl rfl (thingsG_ok hB) ?_)))))
 rintro w1 _ ⟨c1,es1,m1,rfl,rfl,t1,t2⟩
 refine WO.r (.mv rfl) (WO.w (WS.callF (first:=[]) (vs:=[.ptr (some ⟨bw,0,0⟩)]) (cap:=[]) rfl rfl (peopleG_ok hB) ?_))
 rintro w2 _ ⟨c2,es2,m2,rfl,rfl,u1,u2⟩
 refine WO.r (.mv rfl) (WO.w (WS.callF (first:=[]) (vs:=[.ptr (some ⟨bw,0,0⟩)]) (cap:=[]) rfl rfl (othersG_ok hB) ?_))
 rintro w3 _ ⟨c3,es3,m3,rfl,rfl,x1,x2⟩
 have n0:=t2.no k (by simp only [List.mem_cons,List.not_mem_nil,or_false] at hk ⊢;omega)
 obtain⟨v,look,hv⟩:=u2.yes k hk
 obtain⟨p,o,f,fn,rfl,hfn⟩:=hv.agg
 refine WO.a (.bslice (bsrows3 rfl rfl rfl rfl rfl rfl) rfl) fun b15=>WO.r (.lenS rfl rfl) (WO.r (.mv rfl) (WO.nil (WP.block ?_)))
 refine WP.unroll (WP.seq (WP.ops (WO.r (.arith rfl rfl rfl) (WO.nil (WP.seq (WP.cond rfl (fun _=>WP.skip ?_) (fun h=>by cases h)))))))
 refine WP.seq (WP.block (WP.seq (WP.ops (WO.r (.iaddrS rfl rfl (by omega) (by omega)) (WO.r (.load rfl .here rfl rfl rfl) (WO.r (.mv rfl) (WO.nil ?_)))))))
 refine WP.seq (WP.ops (WO.r (.mv rfl) (WO.r (.mv rfl) (WO.r (.look rfl rfl (.there (.app (.app (.left t1)))) n0) (WO.r (.mv rfl) (WO.r (.extract rfl rfl) (WO.r (.extract rfl rfl) (WO.a (.alloc rfl) fun b7=>WO.w (WS.store rfl rfl rfl .here rfl rfl (WO.r (.mv rfl) (WO.nil (WP.seq (WP.ops (WO.r (.mv rfl) (WO.nil ?_)))))))))))))))
 refine WP.cond rfl (fun h=>by cases h) (fun _=>WP.skip ?_)
 refine WP.ops (WO.r (.arith rfl rfl (add_n (by omega))) (WO.r (.mv rfl) (WO.nil ?_)))
 refine WP.unroll (WP.seq (WP.ops (WO.r (.arith rfl rfl rfl) (WO.nil (WP.seq (WP.cond rfl (fun _=>WP.skip ?_) (fun h=>by cases h)))))))
 refine WP.seq (WP.block (WP.seq (WP.ops (WO.r (.iaddrS rfl rfl (by omega) (by omega)) (WO.r (.load rfl (.there .here) rfl rfl rfl) (WO.r (.mv rfl) (WO.nil ?_)))))))
 refine WP.seq (WP.ops (WO.r (.mv rfl) (WO.r (.mv rfl) (WO.r (.look rfl rfl (.there (.there (.app (.left u1)))) look) (WO.r (.mv rfl) (WO.r (.extract rfl rfl) (WO.r (.extract rfl rfl) (WO.a (.alloc rfl) fun b7=>WO.w (WS.store rfl rfl rfl .here rfl rfl (WO.r (.mv rfl) (WO.nil (WP.seq (WP.ops (WO.r (.mv rfl) (WO.nil ?_)))))))))))))))
 refine WP.cond rfl (fun _=>?_) (fun h=>by cases h)
 refine WP.seq (WP.ops (WO.r (.load rfl .here rfl rfl rfl) (WO.w (WS.store rfl rfl rfl (.there (.there (.there (.app (.app (.app .here)))))) rfl rfl (WO.nil (WP.ret (Fin.mk (.cell rfl hB.t290.1 hB.t290.2 (.inl rfl) (.there (.there (.there (.app (.app (.app .here)))))) rfl rfl rfl .nil) ?_)))))))
 have fin:∀ (p0 p1 p2 y:Nat × HO),RV F bw (p0::p1::p2::(m3++(m2++(m1++[y])))) k _:=fun p0 p1 p2 y=>hv.mono fun b o hh=>(.there (.there (.there (.app (.left hh)))))
 exact⟨_,(pullc (pullc (pullc (pull (pull (pull pull1)))))),fin _ _ _ _⟩
theorem ruleO_ok (hB:Base P K F T) {bw k:Nat} (hk:k∈[15,17,16,18,19,22,27,28,29]):Tri P K (F 202) [.ptr (some ⟨bw,0,0⟩),iv (.ofNat k)] s (fun v s'=>∃ m,s'=m++s∧RV F bw m k v):=by
 refine hB.f202.tri (by simp) ?_
 unfold a202
 refine WP.seq (WP.ops (WO.a (.alloc rfl) fun b4=>WO.nil ?_))
 refine WP.seq (WP.seq (WP.ops (WO.r (.mv rfl) (WO.w (WS.callF (first:=[]) (vs:=[.ptr (some ⟨bw,0,0⟩)]) (cap:=[]) rfl rfl (thingsG_ok hB) ?_)))))
 rintro w1 _ ⟨c1,es1,m1,rfl,rfl,t1,t2⟩
 refine WO.r (.mv rfl) (WO.w (WS.callF (first:=[]) (vs:=[.ptr (some ⟨bw,0,0⟩)]) (cap:=[]) rfl rfl (peopleG_ok hB) ?_))
 rintro w2 _ ⟨c2,es2,m2,rfl,rfl,u1,u2⟩
 refine WO.r (.mv rfl) (WO.w (WS.callF (first:=[]) (vs:=[.ptr (some ⟨bw,0,0⟩)]) (cap:=[]) rfl rfl (othersG_ok hB) ?_))
 rintro w3 _ ⟨c3,es3,m3,rfl,rfl,x1,x2⟩
 have n0:=t2.no k (by simp only [List.mem_cons,List.not_mem_nil,or_false] at hk ⊢;omega)
 have n1:=u2.no k (by simp only [List.mem_cons,List.not_mem_nil,or_false] at hk ⊢;omega)
 obtain⟨v,look,hv⟩:=x2.yes k hk
 obtain⟨p,o,f,fn,rfl,hfn⟩:=hv.agg
 refine WO.a (.bslice (bsrows3 rfl rfl rfl rfl rfl rfl) rfl) fun b15=>WO.r (.lenS rfl rfl) (WO.r (.mv rfl) (WO.nil (WP.block ?_)))
 refine WP.unroll (WP.seq (WP.ops (WO.r (.arith rfl rfl rfl) (WO.nil (WP.seq (WP.cond rfl (fun _=>WP.skip ?_) (fun h=>by cases h)))))))
 refine WP.seq (WP.block (WP.seq (WP.ops (WO.r (.iaddrS rfl rfl (by omega) (by omega)) (WO.r (.load rfl .here rfl rfl rfl) (WO.r (.mv rfl) (WO.nil ?_)))))))
 refine WP.seq (WP.ops (WO.r (.mv rfl) (WO.r (.mv rfl) (WO.r (.look rfl rfl (.there (.app (.app (.left t1)))) n0) (WO.r (.mv rfl) (WO.r (.extract rfl rfl) (WO.r (.extract rfl rfl) (WO.a (.alloc rfl) fun b7=>WO.w (WS.store rfl rfl rfl .here rfl rfl (WO.r (.mv rfl) (WO.nil (WP.seq (WP.ops (WO.r (.mv rfl) (WO.nil ?_)))))))))))))))
 refine WP.cond rfl (fun h=>by cases h) (fun _=>WP.skip ?_)
 refine WP.ops (WO.r (.arith rfl rfl (add_n (by omega))) (WO.r (.mv rfl) (WO.nil ?_)))
 refine WP.unroll (WP.seq (WP.ops (WO.r (.arith rfl rfl rfl) (WO.nil (WP.seq (WP.cond rfl (fun _=>WP.skip ?_) (fun h=>by cases h)))))))
 refine WP.seq (WP.block (WP.seq (WP.ops (WO.r (.iaddrS rfl rfl (by omega) (by omega)) (WO.r (.load rfl (.there .here) rfl rfl rfl) (WO.r (.mv rfl) (WO.nil ?_)))))))
 refine WP.seq (WP.ops (WO.r (.mv rfl) (WO.r (.mv rfl) (WO.r (.look rfl rfl (.there (.there (.app (.left u1)))) n1) (WO.r (.mv rfl) (WO.r (.extract rfl rfl) (WO.r (.extract rfl rfl) (WO.a (.alloc rfl) fun b7=>WO.w (WS.store rfl rfl rfl .here rfl rfl (WO.r (.mv rfl) (WO.nil (WP.seq (WP.ops (WO.r (.mv rfl) (WO.nil ?_)))))))))))))))
 refine WP.cond rfl (fun h=>by cases h) (fun _=>WP.skip ?_)
 refine WP.ops (WO.r (.arith rfl rfl (add_n (by omega))) (WO.r (.mv rfl) (WO.nil ?_)))
 refine WP.unroll (WP.seq (WP.ops (WO.r (.arith rfl rfl rfl) (WO.nil (WP.seq (WP.cond rfl (fun _=>WP.skip ?_) (fun h=>by cases h)))))))
 refine WP.seq (WP.block (WP.seq (WP.ops (WO.r (.iaddrS rfl rfl (by omega) (by omega)) (WO.r (.load rfl (.there (.there .here)) rfl rfl rfl) (WO.r (.mv rfl) (WO.nil ?_)))))))
 refine WP.seq (WP.ops (WO.r (.mv rfl) (WO.r (.mv rfl) (WO.r (.look rfl rfl (.there (.there (.there (.left x1)))) look) (WO.r (.mv rfl) (WO.r (.extract rfl rfl) (WO.r (.extract rfl rfl) (WO.a (.alloc rfl) fun b7=>WO.w (WS.store rfl rfl rfl .here rfl rfl (WO.r (.mv rfl) (WO.nil (WP.seq (WP.ops (WO.r (.mv rfl) (WO.nil ?_)))))))))))))))
 refine WP.cond rfl (fun _=>?_) (fun h=>by cases h)
 refine WP.seq (WP.ops (WO.r (.load rfl .here rfl rfl rfl) (WO.w (WS.store rfl rfl rfl (.there (.there (.there (.there (.app (.app (.app .here))))))) rfl rfl (WO.nil (WP.ret (Fin.mk (.cell rfl hB.t290.1 hB.t290.2 (.inl rfl) (.there (.there (.there (.there (.app (.app (.app .here))))))) rfl rfl rfl .nil) ?_)))))))
 have fin:∀ (p0 p1 p2 p3 y:Nat × HO),RV F bw (p0::p1::p2::p3::(m3++(m2++(m1++[y])))) k _:=fun p0 p1 p2 p3 y=>hv.mono fun b o hh=>(.there (.there (.there (.there (.left hh)))))
 exact⟨_,(pullc (pullc (pullc (pullc (pull (pull (pull pull1))))))),fin _ _ _ _ _⟩
end
end Go.Ev
namespace Go.Ev
def a63 (F:Nat->FuncId) (T:Nat->TypeId):AC:=(.seq (.ops [⟨(some 4),(.mv (.const (.slice none 0 0))),none⟩]) (.seq (.ops [⟨(some 8),(.mv (.tmp 0)),none⟩,⟨(some 9),(.mv (.tmp 1)),none⟩,⟨(some 10),(.call (.func (F 113)) [(.tmp 8),(.tmp 9)]),none⟩,⟨(some 5),(.mv (.tmp 10)),none⟩]) (.seq (.seq (.ops [⟨(some 11),(.mv (.tmp 5)),none⟩,⟨(some 12),(.eql false .pi (.tmp 11) (.const (.int .i64 (.negSucc 0)))),none⟩]) (.cond (.tmp 12) (.seq (.ops [⟨(some 13),(.mv (.tmp 0)),none⟩,⟨(some 4),(.mv (.tmp 13)),none⟩]) .ret) .skip)) (.seq (.seq (.ops [⟨(some 14),(.mv (.tmp 5)),none⟩,⟨(some 15),(.arith .add (.tmp 14) (.const (.int .i64 (.ofNat 1)))),none⟩,⟨(some 6),(.mv (.tmp 15)),none⟩]) (.block 0 (.loop (.seq (.seq (.ops [⟨(some 16),(.mv (.tmp 6)),none⟩,⟨(some 17),(.mv (.tmp 0)),none⟩,⟨(some 18),(.lenS (.tmp 17)),none⟩,⟨(some 19),(.arith .lss (.tmp 16) (.tmp 18)),none⟩]) (.cond (.tmp 19) .skip (.exit 0))) (.seq (.block 1 (.seq (.ops [⟨(some 22),(.mv (.tmp 0)),none⟩,⟨(some 23),(.mv (.tmp 6)),none⟩,⟨(some 24),(.iaddrS 7 (.tmp 22) (.tmp 23)),none⟩,⟨(some 25),(.load true 7 (.tmp 24)),none⟩,⟨(some 7),(.alloc 7 zItem),none⟩,⟨none,(.store 7 (.tmp 7) (.tmp 25)),none⟩]) (.seq (.ops [⟨(some 26),(.mv (.tmp 1)),none⟩,⟨(some 27),(.load true 7 (.tmp 7)),none⟩,⟨(some 28),(.call (.tmp 26) [(.tmp 27)]),none⟩,⟨(some 29),(.un .not (.tmp 28)),none⟩]) (.cond (.tmp 29) (.seq (.ops [⟨(some 30),(.mv (.tmp 0)),none⟩,⟨(some 31),(.mv (.tmp 5)),none⟩,⟨(some 32),(.load true 7 (.tmp 7)),none⟩,⟨(some 33),(.iaddrS 7 (.tmp 30) (.tmp 31)),none⟩,⟨none,(.store 7 (.tmp 33) (.tmp 32)),none⟩]) (.ops [⟨(some 34),(.mv (.tmp 5)),none⟩,⟨(some 35),(.arith .add (.tmp 34) (.const (.int .i64 (.ofNat 1)))),none⟩,⟨(some 5),(.mv (.tmp 35)),none⟩])) .skip)))) (.ops [⟨(some 20),(.mv (.tmp 6)),none⟩,⟨(some 21),(.arith .add (.tmp 20) (.const (.int .i64 (.ofNat 1)))),none⟩,⟨(some 6),(.mv (.tmp 21)),none⟩])))))) (.seq (.ops [⟨(some 36),(.mv (.tmp 0)),none⟩,⟨(some 37),(.mv (.tmp 5)),none⟩,⟨(some 38),(.slc 7 (.tmp 36) (some (.tmp 37)) none none),none⟩,⟨none,(.clear 7 zItem (.tmp 38)),none⟩]) (.seq (.ops [⟨(some 39),(.mv (.tmp 0)),none⟩,⟨(some 40),(.mv (.tmp 5)),none⟩,⟨(some 41),(.slc 7 (.tmp 39) none (some (.tmp 40)) none),none⟩,⟨(some 4),(.mv (.tmp 41)),none⟩]) .ret))))))
def a274 (F:Nat->FuncId) (T:Nat->TypeId):AC:=(.seq (.ops [⟨(some 2),(.box 13 (.tmp 0)),none⟩]) (.drawn 1 [⟨⟨(some 3),(.load false 1 (.tmp 1)),none⟩,.read,0,2,0⟩,⟨⟨(some 4),(.load false 1 (.tmp 1)),none⟩,.read,0,1,0⟩,⟨⟨(some 5),(.nilchk (.tmp 4)),none⟩,.pure,0,0,2⟩,⟨⟨(some 6),(.faddr 0 (.tmp 5)),none⟩,.pure,0,0,6⟩,⟨⟨(some 7),(.faddr 7 (.tmp 6)),none⟩,.pure,0,0,14⟩,⟨⟨(some 8),(.load false 1 (.tmp 7)),none⟩,.read,0,1,30⟩,⟨⟨(some 9),(.load false 1 (.tmp 1)),none⟩,.read,0,0,0⟩,⟨⟨(some 10),(.load true 13 (.tmp 2)),none⟩,.read,0,0,0⟩,⟨⟨(some 11),(.call (.func (F 275)) [(.tmp 9),(.tmp 10)]),none⟩,.chain,0,0,192⟩,⟨⟨(some 12),(.bslice 7 1 zItem [⟨0,(.tmp 11)⟩]),none⟩,.dalloc,0,0,448⟩,⟨⟨(some 13),(.append 7 72 (.tmp 8) (.tmp 12)),none⟩,.chain,0,0,1022⟩,⟨⟨(some 14),(.nilchk (.tmp 3)),none⟩,.pure,0,0,2047⟩,⟨⟨(some 15),(.faddr 0 (.tmp 14)),none⟩,.pure,0,0,4095⟩,⟨⟨(some 16),(.faddr 7 (.tmp 15)),none⟩,.pure,0,0,8191⟩,⟨⟨none,(.store 1 (.tmp 16) (.tmp 13)),none⟩,.chain,0,0,16383⟩]))
def a275 (F:Nat->FuncId) (T:Nat->TypeId):AC:=(.seq (.ops [⟨(some 3),(.box 13 (.tmp 1)),none⟩,⟨(some 4),(.alloc 7 zItem),none⟩]) (.seq (.ops [⟨(some 6),(.faddr 6 (.tmp 3)),none⟩,⟨(some 7),(.load true 7 (.tmp 6)),none⟩,⟨(some 8),(.call (.func (F 162)) [(.tmp 7)]),none⟩,⟨(some 5),(.alloc 7 zItem),none⟩,⟨none,(.store 7 (.tmp 5) (.tmp 8)),none⟩]) (.seq (.ops [⟨(some 9),(.mv (.tmp 0)),none⟩,⟨(some 10),(.nilchk (.tmp 9)),none⟩,⟨(some 11),(.faddr 0 (.tmp 10)),none⟩,⟨(some 12),(.faddr 15 (.tmp 11)),none⟩,⟨(some 13),(.load false 1 (.tmp 12)),none⟩,⟨(some 14),(.faddr 0 (.tmp 5)),none⟩,⟨none,(.store 1 (.tmp 14) (.tmp 13)),none⟩]) (.seq (.ops [⟨(some 15),(.mv (.tmp 0)),none⟩,⟨(some 16),(.nilchk (.tmp 15)),none⟩,⟨(some 17),(.faddr 0 (.tmp 16)),none⟩,⟨(some 18),(.faddr 15 (.tmp 17)),none⟩,⟨(some 19),(.load false 1 (.tmp 18)),none⟩,⟨(some 20),(.arith .add (.tmp 19) (.const (.int .i64 (.ofNat 1)))),none⟩,⟨(some 21),(.nilchk (.tmp 15)),none⟩,⟨(some 22),(.faddr 0 (.tmp 21)),none⟩,⟨(some 23),(.faddr 15 (.tmp 22)),none⟩,⟨none,(.store 1 (.tmp 23) (.tmp 20)),none⟩]) (.seq (.ops [⟨(some 24),(.load true 7 (.tmp 5)),none⟩,⟨none,(.store 7 (.tmp 4) (.tmp 24)),none⟩]) .ret)))))
def a276 (F:Nat->FuncId) (T:Nat->TypeId):AC:=(.seq (.ops [⟨(some 2),(.box 13 (.tmp 0)),none⟩]) (.drawn 1 [⟨⟨(some 3),(.load false 1 (.tmp 1)),none⟩,.read,0,2,0⟩,⟨⟨(some 4),(.load false 1 (.tmp 1)),none⟩,.read,0,1,0⟩,⟨⟨(some 5),(.nilchk (.tmp 4)),none⟩,.pure,0,0,2⟩,⟨⟨(some 6),(.faddr 0 (.tmp 5)),none⟩,.pure,0,0,6⟩,⟨⟨(some 7),(.faddr 8 (.tmp 6)),none⟩,.pure,0,0,14⟩,⟨⟨(some 8),(.load false 1 (.tmp 7)),none⟩,.read,0,1,30⟩,⟨⟨(some 9),(.load false 1 (.tmp 1)),none⟩,.read,0,0,0⟩,⟨⟨(some 10),(.load true 13 (.tmp 2)),none⟩,.read,0,0,0⟩,⟨⟨(some 11),(.call (.func (F 275)) [(.tmp 9),(.tmp 10)]),none⟩,.chain,0,0,192⟩,⟨⟨(some 12),(.bslice 7 1 zItem [⟨0,(.tmp 11)⟩]),none⟩,.dalloc,0,0,448⟩,⟨⟨(some 13),(.append 7 72 (.tmp 8) (.tmp 12)),none⟩,.chain,0,0,1022⟩,⟨⟨(some 14),(.nilchk (.tmp 3)),none⟩,.pure,0,0,2047⟩,⟨⟨(some 15),(.faddr 0 (.tmp 14)),none⟩,.pure,0,0,4095⟩,⟨⟨(some 16),(.faddr 8 (.tmp 15)),none⟩,.pure,0,0,8191⟩,⟨⟨none,(.store 1 (.tmp 16) (.tmp 13)),none⟩,.chain,0,0,16383⟩]))
def a277 (F:Nat->FuncId) (T:Nat->TypeId):AC:=(.seq (.ops [⟨(some 2),(.box 13 (.tmp 0)),none⟩]) (.drawn 0 [⟨⟨(some 3),(.load false 1 (.tmp 1)),none⟩,.read,0,1,0⟩,⟨⟨(some 4),(.load false 1 (.tmp 1)),none⟩,.read,0,0,0⟩,⟨⟨(some 5),(.nilchk (.tmp 4)),none⟩,.pure,0,0,2⟩,⟨⟨(some 6),(.faddr 0 (.tmp 5)),none⟩,.pure,0,0,6⟩,⟨⟨(some 7),(.faddr 7 (.tmp 6)),none⟩,.pure,0,0,14⟩,⟨⟨(some 8),(.load false 1 (.tmp 7)),none⟩,.read,0,0,30⟩,⟨⟨(some 9),(.faddr 1 (.tmp 2)),none⟩,.pure,0,0,0⟩,⟨⟨(some 10),(.load false 1 (.tmp 9)),none⟩,.read,0,0,64⟩,⟨⟨(some 11),(.call (.func (F 278)) [(.tmp 8),(.tmp 10)]),none⟩,.chain,0,0,254⟩,⟨⟨(some 12),(.nilchk (.tmp 3)),none⟩,.pure,0,0,511⟩,⟨⟨(some 13),(.faddr 0 (.tmp 12)),none⟩,.pure,0,0,1023⟩,⟨⟨(some 14),(.faddr 7 (.tmp 13)),none⟩,.pure,0,0,2047⟩,⟨⟨none,(.store 1 (.tmp 14) (.tmp 11)),none⟩,.chain,0,0,4095⟩]))
def a278 (F:Nat->FuncId) (T:Nat->TypeId):AC:=(.seq (.ops [⟨(some 3),(.box 1 (.tmp 1)),none⟩,⟨(some 4),(.mv (.const (.slice none 0 0))),none⟩]) (.seq (.ops [⟨(some 5),(.mv (.tmp 0)),none⟩,⟨(some 6),(.mkfn (F 296) [] [(.tmp 3)]),none⟩,⟨(some 7),(.call (.func (F 63)) [(.tmp 5),(.tmp 6)]),none⟩,⟨(some 4),(.mv (.tmp 7)),none⟩]) .ret))
def a279 (F:Nat->FuncId) (T:Nat->TypeId):AC:=(.seq (.ops [⟨(some 2),(.box 13 (.tmp 0)),none⟩]) (.drawn 0 [⟨⟨(some 3),(.load false 1 (.tmp 1)),none⟩,.read,0,1,0⟩,⟨⟨(some 4),(.load false 1 (.tmp 1)),none⟩,.read,0,0,0⟩,⟨⟨(some 5),(.nilchk (.tmp 4)),none⟩,.pure,0,0,2⟩,⟨⟨(some 6),(.faddr 0 (.tmp 5)),none⟩,.pure,0,0,6⟩,⟨⟨(some 7),(.faddr 8 (.tmp 6)),none⟩,.pure,0,0,14⟩,⟨⟨(some 8),(.load false 1 (.tmp 7)),none⟩,.read,0,0,30⟩,⟨⟨(some 9),(.faddr 1 (.tmp 2)),none⟩,.pure,0,0,0⟩,⟨⟨(some 10),(.load false 1 (.tmp 9)),none⟩,.read,0,0,64⟩,⟨⟨(some 11),(.call (.func (F 278)) [(.tmp 8),(.tmp 10)]),none⟩,.chain,0,0,254⟩,⟨⟨(some 12),(.nilchk (.tmp 3)),none⟩,.pure,0,0,511⟩,⟨⟨(some 13),(.faddr 0 (.tmp 12)),none⟩,.pure,0,0,1023⟩,⟨⟨(some 14),(.faddr 8 (.tmp 13)),none⟩,.pure,0,0,2047⟩,⟨⟨none,(.store 1 (.tmp 14) (.tmp 11)),none⟩,.chain,0,0,4095⟩]))
def a296 (F:Nat->FuncId) (T:Nat->TypeId):AC:=(.seq (.ops [⟨(some 2),(.box 7 (.tmp 0)),none⟩,⟨(some 3),(.mv (.const (.bool false))),none⟩]) (.seq (.ops [⟨(some 4),(.faddr 0 (.tmp 2)),none⟩,⟨(some 5),(.load false 1 (.tmp 4)),none⟩,⟨(some 6),(.load false 1 (.tmp 1)),none⟩,⟨(some 7),(.eql false .pi (.tmp 5) (.tmp 6)),none⟩,⟨(some 3),(.mv (.tmp 7)),none⟩]) .ret))
structure BaseI (P:Program) (K:Orc) (F:Nat->FuncId) (T:Nat->TypeId):Prop where
 f63:FnK P K (F 63) 42 [(.tmp 4)] (a63 F T)
 f274:FnK P K (F 274) 17 [] (a274 F T)
 f275:FnK P K (F 275) 25 [(.cell 4 (T 48))] (a275 F T)
 f276:FnK P K (F 276) 17 [] (a276 F T)
 f277:FnK P K (F 277) 15 [] (a277 F T)
 f278:FnK P K (F 278) 8 [(.tmp 4)] (a278 F T)
 f279:FnK P K (F 279) 15 [] (a279 F T)
 f296:FnK P K (F 296) 8 [(.tmp 3)] (a296 F T)
def a20 (F:Nat->FuncId) (T:Nat->TypeId):AC:=(.seq (.ops [⟨(some 2),(.mv (.const (.slice none 0 0))),none⟩]) (.seq (.ops [⟨(some 3),(.mv (.tmp 0)),none⟩,⟨(some 4),(.call (.func (F 14)) [(.tmp 3)]),none⟩,⟨(some 5),(.fld 8 1 false (.tmp 4)),none⟩,⟨(some 2),(.mv (.tmp 5)),none⟩]) .ret))
def a21 (F:Nat->FuncId) (T:Nat->TypeId):AC:=(.seq (.ops [⟨(some 2),(.mv (.const (.slice none 0 0))),none⟩]) (.seq (.ops [⟨(some 3),(.mv (.tmp 0)),none⟩,⟨(some 4),(.call (.func (F 14)) [(.tmp 3)]),none⟩,⟨(some 5),(.fld 7 1 false (.tmp 4)),none⟩,⟨(some 2),(.mv (.tmp 5)),none⟩]) .ret))
def a58 (F:Nat->FuncId) (T:Nat->TypeId):AC:=(.seq (.ops [⟨(some 2),(.alloc 13 [(.int .i64 (.ofNat 0)),(.int .i64 (.ofNat 0)),(.int .i64 (.ofNat 0)),(.int .i64 (.ofNat 0)),(.int .i64 (.ofNat 0)),(.int .i64 (.ofNat 0)),(.int .i64 (.ofNat 0)),(.int .i64 (.ofNat 0)),(.int .i64 (.ofNat 0)),(.slice none 0 0 false 0),(.bool false),(.int .i64 (.ofNat 0)),(.int .i64 (.ofNat 0))]),none⟩]) (.seq (.ops [⟨(some 4),(.mv (.tmp 0)),none⟩,⟨(some 5),(.call (.func (F 14)) [(.tmp 4)]),none⟩,⟨(some 3),(.alloc 25 zState),none⟩,⟨none,(.store 25 (.tmp 3) (.tmp 5)),none⟩]) (.seq (.ops [⟨(some 6),(.faddr 9 (.tmp 3)),none⟩,⟨(some 7),(.load false 1 (.tmp 6)),none⟩,⟨(some 8),(.faddr 10 (.tmp 3)),none⟩,⟨(some 9),(.load false 1 (.tmp 8)),none⟩,⟨(some 10),(.faddr 11 (.tmp 3)),none⟩,⟨(some 11),(.load false 1 (.tmp 10)),none⟩,⟨(some 12),(.faddr 12 (.tmp 3)),none⟩,⟨(some 13),(.load false 1 (.tmp 12)),none⟩,⟨(some 14),(.faddr 13 (.tmp 3)),none⟩,⟨(some 15),(.load false 1 (.tmp 14)),none⟩,⟨(some 16),(.faddr 14 (.tmp 3)),none⟩,⟨(some 17),(.load false 1 (.tmp 16)),none⟩,⟨(some 18),(.faddr 18 (.tmp 3)),none⟩,⟨(some 19),(.load true 5 (.tmp 18)),none⟩,⟨(some 20),(.faddr 23 (.tmp 3)),none⟩,⟨(some 21),(.load false 1 (.tmp 20)),none⟩,⟨(some 22),(.faddr 24 (.tmp 3)),none⟩,⟨(some 23),(.load false 1 (.tmp 22)),none⟩,⟨(some 24),(.build [(.int .i64 (.ofNat 0)),(.int .i64 (.ofNat 0)),(.int .i64 (.ofNat 0)),(.int .i64 (.ofNat 0)),(.int .i64 (.ofNat 0)),(.int .i64 (.ofNat 0)),(.int .i64 (.ofNat 0)),(.int .i64 (.ofNat 0)),(.int .i64 (.ofNat 0)),(.slice none 0 0 false 0),(.bool false),(.int .i64 (.ofNat 0)),(.int .i64 (.ofNat 0))] [⟨0,⟨1,(.tmp 7)⟩⟩,⟨1,⟨1,(.tmp 9)⟩⟩,⟨2,⟨1,(.tmp 11)⟩⟩,⟨3,⟨1,(.tmp 13)⟩⟩,⟨4,⟨1,(.tmp 15)⟩⟩,⟨5,⟨1,(.tmp 17)⟩⟩,⟨6,⟨5,(.tmp 19)⟩⟩,⟨11,⟨1,(.tmp 21)⟩⟩,⟨12,⟨1,(.tmp 23)⟩⟩]),none⟩,⟨none,(.store 13 (.tmp 2) (.tmp 24)),none⟩]) .ret)))
def a345 (F:Nat->FuncId) (T:Nat->TypeId):AC:=(.seq (.ops [⟨(some 2),(.alloc 5 [(.int .i64 (.ofNat 0)),(.int .i64 (.ofNat 0)),(.int .i64 (.ofNat 0)),(.int .i64 (.ofNat 0)),(.int .i64 (.ofNat 0))]),none⟩]) (.seq (.seq (.ops [⟨(some 3),(.mv (.tmp 0)),none⟩,⟨(some 4),(.eql false .ptr (.tmp 3) (.const (.pointer none))),none⟩]) (.cond (.tmp 4) (.seq (.ops [⟨(some 5),(.build [(.int .i64 (.ofNat 0)),(.int .i64 (.ofNat 0)),(.int .i64 (.ofNat 0)),(.int .i64 (.ofNat 0)),(.int .i64 (.ofNat 0))] []),none⟩,⟨none,(.store 5 (.tmp 2) (.tmp 5)),none⟩]) .ret) .skip)) (.seq (.ops [⟨(some 6),(.mv (.tmp 0)),none⟩,⟨(some 7),(.nilchk (.tmp 6)),none⟩,⟨(some 8),(.faddr 2 (.tmp 7)),none⟩,⟨(some 9),(.load true 5 (.tmp 8)),none⟩,⟨none,(.store 5 (.tmp 2) (.tmp 9)),none⟩]) .ret)))
def a347 (F:Nat->FuncId) (T:Nat->TypeId):AC:=(.seq (.ops [⟨(some 2),(.mv (.const (.int .i64 (.ofNat 0)))),none⟩]) (.seq (.ops [⟨(some 3),(.mv (.tmp 0)),none⟩,⟨(some 4),(.call (.func (F 14)) [(.tmp 3)]),none⟩,⟨(some 5),(.fld 0 1 false (.tmp 4)),none⟩,⟨(some 6),(.lenS (.tmp 5)),none⟩,⟨(some 2),(.mv (.tmp 6)),none⟩]) .ret))
structure BaseB (P:Program) (K:Orc) (F:Nat->FuncId) (T:Nat->TypeId):Prop where
 f20:FnK P K (F 20) 6 [(.tmp 2)] (a20 F T)
 f21:FnK P K (F 21) 6 [(.tmp 2)] (a21 F T)
 f58:FnK P K (F 58) 25 [(.cell 2 (T 128))] (a58 F T)
 f345:FnK P K (F 345) 10 [(.cell 2 (T 24))] (a345 F T)
 f347:FnK P K (F 347) 7 [(.tmp 2)] (a347 F T)
def a19 (F:Nat->FuncId) (T:Nat->TypeId):AC:=(.seq (.ops [⟨(some 2),(.alloc 1 [(.bool false)]),none⟩]) (.seq (.seq (.ops [⟨(some 8),(.mv (.tmp 0)),none⟩,⟨(some 9),(.eql false (.iface true) (.tmp 8) (.const .nilIface)),none⟩]) (.cond (.tmp 9) (.seq (.ops [⟨none,(.store 1 (.tmp 2) (.const (.bool false))),none⟩]) .ret) .skip)) (.seq (.ops [⟨(some 10),(.mv (.tmp 0)),none⟩,⟨(some 11),(.build [.nilIface] [⟨0,⟨1,(.tmp 10)⟩⟩]),none⟩,⟨(some 3),(.alloc 1 [.nilIface]),none⟩,⟨none,(.store 1 (.tmp 3) (.tmp 11)),none⟩]) (.seq (.seq (.ops [⟨(some 12),(.load true 1 (.tmp 3)),none⟩,⟨(some 13),(.call (.func (F 61)) [(.tmp 12)]),none⟩,⟨(some 14),(.mv (.tmp 13)),none⟩,⟨(some 15),(.faddr 0 (.tmp 3)),(some ⟨14,false⟩)⟩,⟨(some 16),(.load false 1 (.tmp 15)),(some ⟨14,false⟩)⟩,⟨(some 17),(.invoke (.tmp 16) "Waits" []),(some ⟨14,false⟩)⟩,⟨(some 18),(.lenS (.tmp 17)),(some ⟨14,false⟩)⟩,⟨(some 19),(.eql false .pi (.tmp 18) (.const (.int .i64 (.ofNat 0)))),(some ⟨14,false⟩)⟩,⟨(some 20),(.pick (.tmp 14) (.const (.bool true)) (.tmp 19)),none⟩]) (.cond (.tmp 20) (.seq (.ops [⟨none,(.store 1 (.tmp 2) (.const (.bool false))),none⟩]) .ret) .skip)) (.seq (.seq (.drawn 0 [⟨⟨(some 21),(.faddr 0 (.tmp 3)),none⟩,.pure,0,0,0⟩,⟨⟨(some 22),(.load false 1 (.tmp 21)),none⟩,.read,0,0,1⟩,⟨⟨(some 23),(.invoke (.tmp 22) "Info" []),none⟩,.chain,0,0,3⟩,⟨⟨(some 24),(.fld 1 1 false (.tmp 23)),none⟩,.pure,0,0,7⟩,⟨⟨(some 25),(.faddr 0 (.tmp 3)),none⟩,.pure,0,0,0⟩,⟨⟨(some 26),(.load false 1 (.tmp 25)),none⟩,.read,0,1,16⟩,⟨⟨(some 27),(.invoke (.tmp 26) "Players" []),none⟩,.chain,0,0,55⟩,⟨⟨(some 28),(.call (.func (F 62)) [(.tmp 24),(.tmp 27)]),none⟩,.chain,0,0,127⟩]) (.block 0 (.rf (.tmp 28) [29] (.ops [⟨(some 4),(.alloc 1 [(.int .i64 (.ofNat 0))]),none⟩,⟨none,(.store 1 (.tmp 4) (.tmp 29)),none⟩]) (.block 1 (.seq (.ops [⟨(some 30),(.faddr 0 (.tmp 3)),none⟩,⟨(some 31),(.load false 1 (.tmp 30)),none⟩,⟨(some 32),(.invoke (.tmp 31) "Waits" []),none⟩,⟨(some 33),(.call (.func (F 64)) [(.tmp 32)]),none⟩,⟨(some 34),(.mkfn (F 65) [] [(.tmp 4)]),none⟩,⟨(some 35),(.call (.func (F 63)) [(.tmp 33),(.tmp 34)]),none⟩,⟨(some 5),(.mv (.tmp 35)),none⟩]) (.seq (.ops [⟨(some 36),(.mv (.tmp 5)),none⟩,⟨(some 37),(.lenS (.tmp 36)),none⟩,⟨(some 38),(.mv (.const (.int .i64 (.ofNat 0)))),none⟩]) (.block 2 (.loop (.seq (.ops [⟨(some 39),(.arith .lss (.tmp 38) (.tmp 37)),none⟩]) (.seq (.cond (.tmp 39) .skip (.exit 2)) (.seq (.block 3 (.seq (.ops [⟨(some 40),(.iaddrS 7 (.tmp 36) (.tmp 38)),none⟩,⟨(some 41),(.load true 7 (.tmp 40)),none⟩,⟨(some 7),(.alloc 7 zItem),none⟩,⟨none,(.store 7 (.tmp 7) (.tmp 41)),none⟩]) (.seq (.seq (.drawn 0 [⟨⟨(some 42),(.faddr 0 (.tmp 3)),none⟩,.pure,0,0,0⟩,⟨⟨(some 43),(.load false 1 (.tmp 42)),none⟩,.read,0,0,1⟩,⟨⟨(some 44),(.invoke (.tmp 43) "Stack" []),none⟩,.chain,0,0,3⟩,⟨⟨(some 45),(.lenS (.tmp 44)),none⟩,.pure,0,0,7⟩,⟨⟨(some 46),(.faddr 0 (.tmp 3)),none⟩,.pure,0,0,0⟩,⟨⟨(some 47),(.load false 1 (.tmp 46)),none⟩,.read,0,1,16⟩,⟨⟨(some 48),(.invoke (.tmp 47) "Config" []),none⟩,.chain,0,0,55⟩,⟨⟨(some 49),(.fld 1 1 false (.tmp 48)),none⟩,.pure,0,0,119⟩,⟨⟨(some 50),(.arith .geq (.tmp 45) (.tmp 49)),none⟩,.pure,0,0,255⟩]) (.cond (.tmp 50) (.seq (.ops [⟨(some 51),(.load true 1 (.tmp 3)),none⟩,⟨(some 52),(.call (.func (F 66)) [(.tmp 51),(.const (.int .i64 (.ofNat 29))),(.const (.int .i64 (.ofNat 3))),(.const (.int .i64 (.ofNat 0)))]),none⟩]) (.seq (.ops [⟨none,(.store 1 (.tmp 2) (.const (.bool true))),none⟩]) .ret)) .skip)) (.seq (.ops [⟨(some 53),(.load true 1 (.tmp 3)),none⟩,⟨(some 54),(.faddr 0 (.tmp 7)),none⟩,⟨(some 55),(.load false 1 (.tmp 54)),none⟩,⟨(some 56),(.call (.func (F 66)) [(.tmp 53),(.const (.int .i64 (.ofNat 18))),(.tmp 55),(.const (.int .i64 (.ofNat 0)))]),none⟩]) (.seq (.ops [⟨(some 57),(.faddr 0 (.tmp 7)),none⟩,⟨none,(.store 1 (.tmp 57) (.const (.int .i64 (.ofNat 0)))),none⟩]) (.ops [⟨(some 58),(.faddr 0 (.tmp 3)),none⟩,⟨(some 59),(.load false 1 (.tmp 58)),none⟩,⟨(some 60),(.load true 7 (.tmp 7)),none⟩,⟨(some 61),(.build zEvent [⟨0,⟨1,(.const (.int .i64 (.ofNat 15)))⟩⟩,⟨6,⟨7,(.tmp 60)⟩⟩]),none⟩,⟨(some 62),(.invoke (.tmp 59) "Do" [(.tmp 61)]),none⟩])))))) (.ops [⟨(some 63),(.arith .add (.tmp 38) (.const (.int .i64 (.ofNat 1)))),none⟩,⟨(some 38),(.mv (.tmp 63)),none⟩])))))))))))) (.seq (.ops [⟨none,(.store 1 (.tmp 2) (.const (.bool true))),none⟩]) .ret))))))
def a61 (F:Nat->FuncId) (T:Nat->TypeId):AC:=(.seq (.ops [⟨(some 1),(.box 1 (.tmp 0)),none⟩,⟨(some 2),(.mv (.const (.bool false))),none⟩]) (.seq (.ops [⟨(some 3),(.faddr 0 (.tmp 1)),none⟩,⟨(some 4),(.load false 1 (.tmp 3)),none⟩,⟨(some 5),(.invoke (.tmp 4) "Info" []),none⟩,⟨(some 6),(.fld 11 1 false (.tmp 5)),none⟩,⟨(some 7),(.eql true .pi (.tmp 6) (.const (.int .i64 (.ofNat 0)))),none⟩,⟨(some 2),(.mv (.tmp 7)),none⟩]) .ret))
def a62 (F:Nat->FuncId) (T:Nat->TypeId):AC:=(.seq (.ops [⟨(some 2),(.box 1 (.tmp 0)),none⟩,⟨(some 3),(.box 1 (.tmp 1)),none⟩,⟨(some 4),(.mv (.const .nilFunc)),none⟩]) (.seq (.ops [⟨(some 5),(.mkfn (F 112) [] [(.tmp 3),(.tmp 2)]),none⟩,⟨(some 4),(.mv (.tmp 5)),none⟩]) .ret))
def a64 (F:Nat->FuncId) (T:Nat->TypeId):AC:=(.seq (.ops [⟨(some 2),(.mv (.const (.slice none 0 0))),none⟩]) (.seq (.seq (.ops [⟨(some 3),(.mv (.tmp 0)),none⟩,⟨(some 4),(.eql false .nls (.tmp 3) (.const (.slice none 0 0))),none⟩]) (.cond (.tmp 4) (.seq (.ops [⟨(some 2),(.mv (.const (.slice none 0 0))),none⟩]) .ret) .skip)) (.seq (.ops [⟨(some 5),(.bslice 7 0 zItem []),none⟩,⟨(some 6),(.mv (.tmp 0)),none⟩,⟨(some 7),(.append 7 72 (.tmp 5) (.tmp 6)),none⟩,⟨(some 2),(.mv (.tmp 7)),none⟩]) .ret)))
def a65 (F:Nat->FuncId) (T:Nat->TypeId):AC:=(.seq (.ops [⟨(some 2),(.box 7 (.tmp 0)),none⟩,⟨(some 3),(.mv (.const (.bool false))),none⟩]) (.seq (.ops [⟨(some 4),(.faddr 2 (.tmp 2)),none⟩,⟨(some 5),(.load false 1 (.tmp 4)),none⟩,⟨(some 6),(.load false 1 (.tmp 1)),none⟩,⟨(some 7),(.eql true .pi (.tmp 5) (.tmp 6)),none⟩,⟨(some 3),(.mv (.tmp 7)),none⟩]) .ret))
def a66 (F:Nat->FuncId) (T:Nat->TypeId):AC:=(.seq (.ops [⟨(some 4),(.box 1 (.tmp 0)),none⟩]) (.ops [⟨(some 8),(.faddr 0 (.tmp 4)),none⟩,⟨(some 9),(.load false 1 (.tmp 8)),none⟩,⟨(some 10),(.mv (.tmp 1)),none⟩,⟨(some 11),(.mv (.tmp 2)),none⟩,⟨(some 12),(.mv (.tmp 3)),none⟩,⟨(some 13),(.build zEvent [⟨0,⟨1,(.tmp 10)⟩⟩,⟨1,⟨1,(.tmp 11)⟩⟩,⟨2,⟨1,(.tmp 12)⟩⟩]),none⟩,⟨(some 14),(.invoke (.tmp 9) "Do" [(.tmp 13)]),none⟩]))
def a112 (F:Nat->FuncId) (T:Nat->TypeId):AC:=(.seq (.ops [⟨(some 5),(.load false 1 (.tmp 1)),none⟩,⟨(some 6),(.mv (.const (.int .i64 (.ofNat 0)))),none⟩]) (.block 0 (.loop (.seq (.ops [⟨(some 7),(.arith .lss (.tmp 6) (.tmp 5)),none⟩]) (.seq (.cond (.tmp 7) .skip (.exit 0)) (.seq (.block 1 (.seq (.ops [⟨(some 8),(.mv (.tmp 6)),none⟩,⟨(some 4),(.mv (.tmp 8)),none⟩]) (.seq (.ops [⟨(some 9),(.mv (.tmp 0)),none⟩,⟨(some 10),(.load false 1 (.tmp 2)),none⟩,⟨(some 11),(.mv (.tmp 4)),none⟩,⟨(some 12),(.arith .add (.tmp 10) (.tmp 11)),none⟩,⟨(some 13),(.load false 1 (.tmp 1)),none⟩,⟨(some 14),(.arith .rem (.tmp 12) (.tmp 13)),none⟩,⟨(some 15),(.call (.tmp 9) [(.tmp 14)]),none⟩,⟨(some 16),(.un .not (.tmp 15)),none⟩]) (.cond (.tmp 16) .ret .skip)))) (.ops [⟨(some 17),(.arith .add (.tmp 6) (.const (.int .i64 (.ofNat 1)))),none⟩,⟨(some 6),(.mv (.tmp 17)),none⟩])))))))
structure BaseS (P:Program) (K:Orc) (F:Nat->FuncId) (T:Nat->TypeId):Prop where
 f19:FnK P K (F 19) 64 [(.cell 2 (T 4))] (a19 F T)
 f61:FnK P K (F 61) 8 [(.tmp 2)] (a61 F T)
 f62:FnK P K (F 62) 6 [(.tmp 4)] (a62 F T)
 f64:FnK P K (F 64) 8 [(.tmp 2)] (a64 F T)
 f65:FnK P K (F 65) 8 [(.tmp 3)] (a65 F T)
 f66:FnK P K (F 66) 15 [] (a66 F T)
 f112:FnK P K (F 112) 18 [] (a112 F T)
def a271 (F:Nat->FuncId) (T:Nat->TypeId):AC:=(.seq (.ops [⟨(some 3),(.box 13 (.tmp 1)),none⟩]) (.seq (.ops [⟨(some 4),(.mv (.tmp 0)),none⟩,⟨(some 5),(.nilchk (.tmp 4)),none⟩,⟨(some 6),(.faddr 0 (.tmp 5)),none⟩,⟨(some 7),(.faddr 9 (.tmp 6)),none⟩,⟨(some 8),(.load false 1 (.tmp 7)),none⟩,⟨(some 9),(.arith .add (.tmp 8) (.const (.int .i64 (.ofNat 1)))),none⟩,⟨(some 10),(.nilchk (.tmp 4)),none⟩,⟨(some 11),(.faddr 0 (.tmp 10)),none⟩,⟨(some 12),(.faddr 9 (.tmp 11)),none⟩,⟨none,(.store 1 (.tmp 12) (.tmp 9)),none⟩]) (.ops [⟨(some 13),(.mv (.tmp 0)),none⟩,⟨(some 14),(.faddr 1 (.tmp 3)),none⟩,⟨(some 15),(.load false 1 (.tmp 14)),none⟩,⟨(some 16),(.nilchk (.tmp 13)),none⟩,⟨(some 17),(.faddr 0 (.tmp 16)),none⟩,⟨(some 18),(.faddr 10 (.tmp 17)),none⟩,⟨none,(.store 1 (.tmp 18) (.tmp 15)),none⟩])))
def a280 (F:Nat->FuncId) (T:Nat->TypeId):AC:=(.seq (.ops [⟨(some 2),(.box 13 (.tmp 0)),none⟩]) (.ops [⟨(some 3),(.load false 1 (.tmp 1)),none⟩,⟨(some 4),(.faddr 1 (.tmp 2)),none⟩,⟨(some 5),(.load false 1 (.tmp 4)),none⟩,⟨(some 6),(.nilchk (.tmp 3)),none⟩,⟨(some 7),(.faddr 0 (.tmp 6)),none⟩,⟨(some 8),(.faddr 11 (.tmp 7)),none⟩,⟨none,(.store 1 (.tmp 8) (.tmp 5)),none⟩]))
def a281 (F:Nat->FuncId) (T:Nat->TypeId):AC:=(.seq (.ops [⟨(some 2),(.box 13 (.tmp 0)),none⟩]) (.ops [⟨(some 3),(.load false 1 (.tmp 1)),none⟩,⟨(some 4),(.faddr 1 (.tmp 2)),none⟩,⟨(some 5),(.load false 1 (.tmp 4)),none⟩,⟨(some 6),(.nilchk (.tmp 3)),none⟩,⟨(some 7),(.faddr 0 (.tmp 6)),none⟩,⟨(some 8),(.faddr 14 (.tmp 7)),none⟩,⟨none,(.store 1 (.tmp 8) (.tmp 5)),none⟩]))
structure BaseT (P:Program) (K:Orc) (F:Nat->FuncId) (T:Nat->TypeId):Prop where
 f271:FnK P K (F 271) 19 [] (a271 F T)
 f280:FnK P K (F 280) 9 [] (a280 F T)
 f281:FnK P K (F 281) 9 [] (a281 F T)
end Go.Ev
namespace Go.Ev
section
variable {P:Program} {K:Orc} {rd:Option Nat} {nt:Nat} {l:Sl} {ds:List ADef} {s:SH} {Q Qn Qr:Po} {Qe:Nat->Po} {F:Nat->FuncId} {T:Nat->TypeId}
theorem yield1_ok {lb D p:Nat} {a:AV} {asg body:Code} {asgA bodyA:AC} {pend:Option AX} {R:AV->SH->Prop} (hp:p < nt) (ha:cc P nt asg=asgA) (hb:cc P nt body=bodyA)
  (h:WP P K (some lb) nt asgA ((p,a)::l) [] ((lb,.lp l nt [p] asg body .ready pend D)::s) (fun l2 ds2 s2=>∃ t2,s2.Perm ((lb,.lp l nt [p] asg body .ready pend D)::t2) ∧
   WP P K (some lb) nt bodyA l2 ds2 ((lb,.lp l nt [p] asg body .busy pend D)::t2) (fun _ _ s3=>∃ t3,s3.Perm ((lb,.lp l nt [p] asg body .busy pend D)::t3)∧R (.bool true) ((lb,.lp l nt [p] asg body .ready none D)::t3))
    (fun i _ _ s3=>∃ t3,s3.Perm ((lb,.lp l nt [p] asg body .busy pend D)::t3)∧R (.bool false) ((lb,.lp l nt [p] asg body .done (some (.exit i)) D)::t3))
    (fun _ _ s3=>∃ t3,s3.Perm ((lb,.lp l nt [p] asg body .busy pend D)::t3)∧R (.bool false) ((lb,.lp l nt [p] asg body .done (some .ret) D)::t3))) (fun _=>NoQ) NoQ) :
  TriV P K (.yield lb) [a] ((lb,.lp l nt [p] asg body .ready pend D)::s) R:=by
 intro H0 H hH
 obtain⟨_,e,hg,he⟩:=hH.has .here
 obtain⟨x,e2,ds2,H2,l2,s2,⟨n1,r1⟩,k2,k3,k4⟩:=h asg ha H0 (e.put p a) H (he.put p a) hH
 cases x with
 | exit i=>exact k4.elim
 | ret=>exact k4.elim
 | normal=>
  obtain⟨t2,hp2,hbody⟩:=k4
  have k3:=k3.perm hp2
  obtain⟨_,e',hg2,he'⟩:=k3.has .here
  have k5:Hp H0 ((lb,.lp l nt [p] asg body .busy pend D)::t2) (H2.put lb (.loop e' nt [p] asg body .busy pend D)):=k3.upd .here (x:=some (.loop e' nt [p] asg body .busy pend D)) ⟨e',rfl,he'⟩ rfl (fun c=>Heap.get_put _ _ _ _)
  obtain⟨x,e3,ds3,H3,l3,s3,⟨n2,r2⟩,j2,j3,j4⟩:=hbody body hb H0 e2 _ k2 k5
  have fin:∀ (st:LoopState) (pe:Option AX) (v:AV) (t3:SH),s3.Perm ((lb,.lp l nt [p] asg body .busy pend D)::t3)->R v ((lb,.lp l nt [p] asg body st pe D)::t3) ->
    (∀ e4,H3.get lb=some (.loop e4 nt [p] asg body .busy pend D)->roundOf (ev P K (max n1 n2)) lb [a] H=some (v,H3.put lb (.loop e4 nt [p] asg body st pe D)))->∃ v s' H',CallsV P K (.yield lb) [a] H v H'∧Hp H0 s' H'∧R v s':=by
   intro st pe v t3 hp3 hR hrun
   have j3:=j3.perm hp3
   obtain⟨_,e4,hg3,he4⟩:=j3.has .here
   exact⟨v,(lb,.lp l nt [p] asg body st pe D)::t3,_,⟨max n1 n2,hrun e4 hg3⟩,j3.upd .here (x:=some (.loop e4 nt [p] asg body st pe D)) ⟨e4,rfl,he4⟩ rfl (fun c=>Heap.get_put _ _ _ _),hR⟩
  have q1:=(ev_le P K (Nat.le_max_left n1 n2)).code r1
  have q2:=(ev_le P K (Nat.le_max_right n1 n2)).code r2
  have hs:setAll [p] [a] nt e=some (e.put p a):=by
   unfold setAll
   simp only [show Nat.blt p nt=true from Nat.ble_eq_true_of_le hp]
  cases x with
  | normal=>
   obtain⟨t3,h1,h2⟩:=j4
   exact fin _ _ _ t3 h1 h2 fun e4 h4=>by unfold roundOf;simp only [hg,hs,q1,hg2,q2,h4]
  | exit i=>
   obtain⟨t3,h1,h2⟩:=j4
   exact fin _ _ _ t3 h1 h2 fun e4 h4=>by unfold roundOf;simp only [hg,hs,q1,hg2,q2,h4]
  | ret=>
   obtain⟨t3,h1,h2⟩:=j4
   exact fin _ _ _ t3 h1 h2 fun e4 h4=>by unfold roundOf;simp only [hg,hs,q1,hg2,q2,h4]
theorem Hp.gone {H0 H:Heap} {s:SH} {b:Nat} {o:HO} (h:Hp H0 ((b,o)::s) H):Hp H0 ((b,.gone)::s) (H.del b):=
 h.upd .here (x:=none) trivial rfl (fun c=>Heap.get_del _ _ _)
theorem WP.rf {g:Operand} {p:Nat} {asgA bodyA:AC} {f:FuncId} {first cap:List AV} (hg:opl l g=some (.func f first cap))
  (h:∀ (asg body:Code),cc P nt asg=asgA->cc P nt body=bodyA->∀ D lb,Tri P K f (first++(.yield lb::cap)) ((lb,.lp l nt [p] asg body .ready none D)::(D,.ob .deferred)::s) (fun _ s'=>∃ l' st pend t',s'=(lb,.lp l' nt [p] asg body st pend D)::t'∧st≠.busy ∧
   (match pend with | none=>Qn l (.mark D::ds) ((lb,.gone)::t') | some .normal=>Qn l (.mark D::ds) ((lb,.gone)::t') | some (.exit i)=>Qe i l (.mark D::ds) ((lb,.gone)::t') | some .ret=>Qr l (.mark D::ds) ((lb,.gone)::t')))) :
  WP P K none nt (.rf g [p] asgA bodyA) l ds s Qn Qe Qr:=by
 intro c0 hc H0 e H he hH
 cases c0 with
 | rangeFunc g0 ps asg body=>
  simp only [cc,AC.rf.injEq] at hc
  obtain⟨rfl,hps,ha,hb⟩:=hc
  have h1:Hp H0 ((H.next,.ob .deferred)::s) (H.new .deferred).2:=hH.alloc (o:=.deferred) rfl
  have h2:=h1.alloc (o':=.lp l nt [p] asg body .ready none H.next) (o:=.loop e nt [p] asg body .ready none H.next) ⟨e,rfl,he⟩
  obtain⟨v,s',H',⟨n,r1⟩,k2,l',st,pend,t',rfl,hst,k3⟩:=h asg body ha hb H.next _ H0 _ h2
  obtain⟨_,e4,hg4,_⟩:=k2.has .here
  have run:∀ x,(match pend with | none=>AX.normal | some y=>y)=x->Runs P K none nt (.rangeFunc g0 ps asg body) e ds H (.mk x e (.mark H.next::ds) (H'.del (H.new .deferred).2.next)):=by
   rintro x rfl
   refine⟨n+1,?_⟩
   rw [ev_code_succ]
   have hnew:H.new .deferred=(H.next,(H.new .deferred).2):=rfl
   have hnew2:(H.new .deferred).2.new (.loop e nt [p] asg body .ready none H.next)=((H.new .deferred).2.next,((H.new .deferred).2.new (.loop e nt [p] asg body .ready none H.next)).2):=rfl
   have hcall:(ev P K n).call f (lapp first (.yield (H.new .deferred).2.next::cap)) ((H.new .deferred).2.new (.loop e nt [p] asg body .ready none H.next)).2=some (v,H'):=by rw [lapp_eq];exact r1
   unfold stepCode
   simp only [opl_ok he hg,hps]
   show (match (ev P K n).call f (lapp first (.yield (H.new .deferred).2.next::cap)) ((H.new .deferred).2.new (.loop e nt [p] asg body .ready none H.next)).2 with
    | some (_,H3)=>(match H3.get (H.new .deferred).2.next with
     | some (.loop _ _ _ _ _ st pend _)=>(match st with
      | .busy=>none
      | _=>match pend with
       | none=>some (CR.mk .normal e (.mark H.next::ds) (H3.del (H.new .deferred).2.next))
       | some x=>some (.mk x e (.mark H.next::ds) (H3.del (H.new .deferred).2.next)))
     | _=>none)
    | none=>none)=_
   simp only [hcall,hg4]
   cases st with
   | busy=>exact absurd rfl hst
   | ready=>cases pend <;> rfl
   | done=>cases pend <;> rfl
   | exhausted=>cases pend <;> rfl
  have k5:=k2.gone
  cases pend with
  | none=>exact⟨_,_,_,_,_,_,run _ rfl,he,k5,k3⟩
  | some x=>
   cases x with
   | normal=>exact⟨_,_,_,_,_,_,run _ rfl,he,k5,k3⟩
   | exit i=>exact⟨_,_,_,_,_,_,run _ rfl,he,k5,k3⟩
   | ret=>exact⟨_,_,_,_,_,_,run _ rfl,he,k5,k3⟩
 | region i ops d=>exact(cc_region hc).elim
 | _=>simp [cc] at hc
def FinM (P:Program) (rs:List ResultVar) (R:AV->SH->Prop):Po:=fun l ds s=>∃ (Ds:List Nat) (t:SH),ds=Ds.map ADef.mark∧s.Perm (Ds.map (fun D=>(D,HO.ob .deferred))++t)∧∃ vs,Rs P l (Ds.map (fun D=>(D,HO.gone))++t) rs vs∧R (tupV vs) (Ds.map (fun D=>(D,HO.gone))++t)
theorem defers_ok {H0:Heap}:∀ (Ds:List Nat) (t:SH) (H:Heap),Hp H0 (Ds.map (fun D=>(D,HO.ob .deferred))++t) H->∃ H',(∀ ih:EvF,runDefers ih (Ds.map ADef.mark) H=some H')∧Hp H0 (Ds.map (fun D=>(D,HO.gone))++t) H':=by
 intro Ds
 induction Ds with
 | nil=>intro t H h;exact⟨H,fun _=>rfl,h⟩
 | cons D Ds ih=>
  intro t H h
  have hg:H.get D=some .deferred:=(h.has .here).2
  have h1:Hp H0 ((D,.gone)::(Ds.map (fun D=>(D,HO.ob .deferred))++t)) (H.del D):=Hp.gone h
  obtain⟨H',h2,h3⟩:=ih ((D,.gone)::t) (H.del D) (h1.perm List.perm_middle.symm)
  exact⟨H',fun e=>by show (match H.get D with | some .deferred=>runDefers e (Ds.map ADef.mark) (H.del D) | _=>none)=_;rw [hg];exact h2 e,h3.perm List.perm_middle⟩
theorem CallsTo.enterM {f:FuncId} {fn:Func} {c:Code} {args:List AV} {v:AV} {e0 e1:Tr AV} {x:AX} {H H1 H2:Heap} {ds:List ADef} (hK:K f args H=none) (hf:P.funcs[f]?=some fn) (hb:fn.body=some c) (hn:(Nat.ble (llen args) fn.ntmps && !(fn.name == "runtime.NumGoroutine"))=true)
  (h0:argsEnv fn.ntmps args=some e0) (h:Runs P K none fn.ntmps c e0 [] H (.mk x e1 ds H1)) (hx:x=.ret∨x=.normal) (hd:∀ ih:EvF,runDefers ih ds H1=some H2) (hr:(match lmapO (resultOf P e1 H2) fn.results.toList with | some [v]=>some v | some vs=>some (.tuple vs) | none=>none)=some v) :
  CallsTo P K f args H v H2:=by
 obtain⟨n,h⟩:=h
 refine⟨n+1,?_⟩
 show knownCall K f args H (stepCall P (ev P K n) f args H)=_
 unfold knownCall
 rw [hK]
 unfold stepCall
 simp only [hf,hb,hn,h0,h]
 have key:(match lmapO (resultOf P e1 H2) fn.results.toList with
   | some [v]=>some (v,H2)
   | some vs=>some (AV.tuple vs,H2)
   | none=>none)=some (v,H2):=by
  cases hl:lmapO (resultOf P e1 H2) fn.results.toList with
  | none=>rw [hl] at hr;cases hr
  | some l=>
   rw [hl] at hr
   match l,hr with
   | [],hr=>cases hr;rfl
   | [_],hr=>cases hr;rfl
   | _::_::_,hr=>cases hr;rfl
 rcases hx with rfl|rfl <;> (simp only [hd];exact key)
theorem FnK.triM {f:FuncId} {nt:Nat} {rs:List ResultVar} {ac:AC} (hF:FnK P K f nt rs ac) {args:List AV} {R:AV->SH->Prop} (ha:args.length≤nt) (h:WP P K none nt ac (sl0 0 args) [] s (FinM P rs R) (fun _ _ _ _=>False) (FinM P rs R)):Tri P K f args s R:=by
 obtain⟨fn,hf,hc,rfl,rfl,h5⟩:=hF.ex
 have hn:(Nat.ble (llen args) fn.ntmps && !(fn.name == "runtime.NumGoroutine"))=true:=by
  rw [h5,llen_eq,Nat.ble_eq_true_of_le ha];rfl
 intro H0 H hH
 obtain⟨c,hb,hc⟩:∃ c,fn.body=some c∧cc P fn.ntmps c=ac:=by
  cases hb:fn.body with
  | none=>rw [hb] at hc;cases hc
  | some c=>rw [hb] at hc;exact⟨c,rfl,Option.some.inj hc⟩
 obtain⟨e0,h0,h1⟩:=argsEnv_tot fn.ntmps args
 have he:En (sl0 0 args) e0:=fun i v hi=>by
  obtain⟨_,h2⟩:=sl0_get args 0 i v hi
  exact h1 i v h2
 obtain⟨x,e',ds',H',l',s',k1,k2,k3,k4⟩:=h c hc H0 e0 H he hH
 have key:∀ x,(x=.ret∨x=.normal)->Runs P K none fn.ntmps c e0 [] H (.mk x e' ds' H')->FinM P fn.results.toList R l' ds' s'->∃ v s' H',CallsTo P K f args H v H'∧Hp H0 s' H'∧R v s':=by
  rintro x hx k1 ⟨Ds,t,rfl,hp,vs,k5,k6⟩
  obtain⟨H2,hd,k7⟩:=defers_ok Ds t H' (k3.perm hp)
  refine⟨tupV vs,_,H2,CallsTo.enterM (hF.k _ H) hf hb hn h0 k1 hx hd ?_,k7,k6⟩
  rw [k5.ok k2 k7]
  match vs with
  | []=>rfl
  | [_]=>rfl
  | _::_::_=>rfl
 cases x with
 | normal=>exact key _ (.inr rfl) k1 k4
 | ret=>exact key _ (.inl rfl) k1 k4
 | exit i=>exact k4.elim
end
end Go.Ev
namespace Go.Ev
section
variable {P:Program} {K:Orc} {rd:Option Nat} {nt:Nat} {l:Sl} {ds:List ADef} {s:SH} {Q Qn Qr:Po} {Qe:Nat->Po} {F:Nat->FuncId} {T:Nat->TypeId}
theorem eqB_ne {a b:Int} (h:a≠b):eqBy 20 .pi (iv a) (iv b)=some false:=by rw [eqB_i];simp [h]
theorem isItem_ok (hB:Base P K F T) {o:ID} {k a b n m:Int} {it:ID} {bb:Nat} (hb:Has bb (.r false [evRow k a b n m it] 13) s):Tri P K (F 230) [.agg o.row,.ptr (some ⟨bb,0,0⟩)] s (fun w s'=>w=.bool (decide (o.id=a))∧∃ m,s'=m++s):=by
 refine hB.f230.tri (by simp) ?_
 unfold a230
 refine WP.seq (WP.ops (WO.a (.box rfl rfl) fun b1=>WO.r (.mv rfl) (WO.nil ?_)))
 refine WP.seq (WP.ops (WO.r (.faddr rfl) (WO.r (.load rfl .here rfl rfl rfl) (WO.r (.faddr rfl) (WO.r (.load rfl (.there hb) rfl rfl rfl) (WO.r (.eql rfl rfl (eqB_i _ _)) (WO.r (.mv rfl) (WO.nil (WP.ret (Fin.mk (.tmp rfl .nil) ?_))))))))))
 exact⟨rfl,[_],rfl⟩
theorem inItems_ok (hB:Base P K F T) {L:List ID} {k a b n m:Int} {it:ID} {v:AV} {bb:Nat} (hb:Has bb (.r false [evRow k a b n m it] 13) s) (h:Src s 7 v (idR L)) (hn:L.length≤1000) :
  Tri P K (F 228) [v,.ptr (some ⟨bb,0,0⟩)] s (fun w s'=>w=.bool (L.findIdx? fun x=>decide (x.id=a)).isSome∧∃ m,s'=m++s):=by
 refine hB.f228.tri (by simp) ?_
 unfold a228
 have hidx:Tri P K (F 113) [v,.func (F 230) [] [.ptr (some ⟨bb,0,0⟩)]] s (fun w s'=>w=idxV (L.findIdx? fun x=>decide (x.id=a))∧∃ m,s'=m++s):=by
  refine hB.c113.tri (by simp) (idx_ok (rowId a) h (by omega) (.inl rfl) (by simp only [idR,List.length_map];omega) ?_ ?_ ?_)
  ·intro row hr
   obtain⟨o,_,rfl⟩:=List.mem_map.1 hr
   rfl
  ·intro row hr x
   obtain⟨o,_,rfl⟩:=List.mem_map.1 hr
   exact TriV.func ((isItem_ok hB (.app hb)).post fun w s' ⟨h1,m,h2⟩=>⟨h1,m,h2⟩)
  ·intro n
   have e:(idR L).findIdx? (rowId a)=L.findIdx? fun x=>decide (x.id=a):=by
    unfold idR
    rw [findIdx?_map']
    rfl
   rw [e]
   exact⟨rfl,n,rfl⟩
 have hcon:Tri P K (F 229) [v,.func (F 230) [] [.ptr (some ⟨bb,0,0⟩)]] s (fun w s'=>w=.bool (L.findIdx? fun x=>decide (x.id=a)).isSome∧∃ m,s'=m++s):=
  hB.c229.tri (by simp) (con_ok hidx fun n=>⟨rfl,n,rfl⟩)
 refine WP.seq (WP.ops (WO.r (.mv rfl) (WO.nil ?_)))
 refine WP.seq (WP.ops (WO.r (.mv rfl) (WO.r (.mkfn rfl rfl) (WO.w (WS.callF rfl rfl hcon ?_)))))
 rintro w _ ⟨rfl,m,rfl⟩
 exact WO.r (.mv rfl) (WO.nil (WP.ret (Fin.mk (.tmp rfl .nil) ⟨rfl,m,rfl⟩)))
theorem mayP_ok (hB:Base P K F T) {bw:Nat} {d:SD} {t:SH} (hs:WH bw d t s) (hd:d.Small) (he:d.Even) {k b n m:Int} {it:ID} {fn:AV} (k13:k≠13) (k16:k≠16) (k18:k≠18) (k26:k≠26) {p:Nat} (hp:p < d.pl.length) :
  Tri P K (F 203) [.ptr (some ⟨bw,0,0⟩),.agg (evRow k (.ofNat p) b n m it),.agg [.bool true,.bool false,.bool false,fn]] s (fun w s'=>w=iv 0∧WH bw d t s'):=by
 obtain⟨pv,ov,lv,hv,gv,ev,fv,sv,wv,nn,k1,k2⟩:=hs
 refine Tri.perm k1.symm ?_
 refine hB.f203.tri (by simp) ?_
 unfold a203
 refine WP.seq (WP.ops (WO.a (.box rfl rfl) fun b4=>WO.a (.box rfl rfl) fun b5=>WO.r (.mv rfl) (WO.nil ?_)))
 refine WP.seq (WP.ops (WO.r (.mkfn rfl rfl) (WO.r (.mv rfl) (WO.nil (WP.seq (WP.block ?_))))))
 have hR:∀ x y z,StD (x::y::z::(nn++t)) pv ov lv hv gv ev fv sv wv d:=fun x y z=>k2.r fun p hp=>by simp [hp]
 have lp:lenOf pv=some d.pl.length:=by rw [(hR (0,.junk) (0,.junk) (0,.junk)).pl.lenOf];simp [plR]
 refine WP.seq (WP.drawn0 (WD.pu (.mv rfl) (WD.pu (.nilchk rfl rfl) (WD.pu (.faddr rfl) (WD.ld rfl .nil (.load rfl (.there (.there .here)) rfl rfl rfl) (WD.ch .nil (WS.callF rfl rfl (even_ok hB (hR _ _ _) ⟨he.lb,he.hd,he.gr,he.ex⟩) ?_)))))))
 rintro w _ ⟨rfl,m1,rfl⟩
 refine(WD.pu (.un rfl rfl) (WD.pu (.mv rfl) (WD.yes rfl rfl (WD.pu (.faddr rfl) (WD.yes rfl rfl (WD.ld rfl .nil (.load rfl (.app .here) rfl rfl rfl) (WD.yes rfl rfl (WD.pu (.mv rfl) (WD.yes rfl rfl (WD.pu (.faddr rfl) (WD.yes rfl rfl (WD.ld rfl .nil (.load rfl (.app (.there .here)) rfl rfl rfl) (WD.yes rfl rfl (WD.pu (.arith rfl rfl rfl) (WD.yes rfl rfl (WD.pu (.mv rfl) (WD.yes rfl rfl (WD.pu (.faddr rfl) (WD.yes rfl rfl (WD.ld rfl .nil (.load rfl (.app (.there .here)) rfl rfl rfl) (WD.yes rfl rfl (WD.pu (.mv rfl) (WD.yes rfl rfl (WD.pu (.nilchk rfl rfl) (WD.yes rfl rfl (WD.pu (.faddr rfl) (WD.yes rfl rfl (WD.pu (.faddr rfl) (WD.yes rfl rfl (WD.ld rfl .nil (.load rfl (.app (.there (.there .here))) rfl rfl rfl) (WD.yes rfl rfl (WD.pu (.lenS rfl lp) (WD.yes rfl rfl (WD.pu (.arith rfl rfl (geq_n hp)) (WD.yes rfl rfl (WD.pu (.pick0 rfl rfl) (WD.yes rfl rfl (WD.pu (.pick1 rfl rfl) (WD.pu (.pick0 rfl rfl) (WD.pu (.mv rfl) (WD.nil .nil ?_ (fun o h=>nomatch h))))))))))))))))))))))))))))))))))))))))))
 refine WP.cond rfl (fun h=>Bool.noConfusion (show false=true from h)) (fun _=>?_)
 refine WP.seq (WP.seq (WP.drawn0 (WD.pu (.faddr rfl) (WD.ld rfl .nil (.load rfl (.app .here) rfl rfl rfl) (WD.pu (.mv rfl) (WD.skip rfl rfl rfl (WD.skip rfl rfl rfl (WD.skip rfl rfl rfl (WD.skip rfl rfl rfl (WD.skip rfl rfl rfl (WD.skip rfl rfl rfl (WD.skipc rfl rfl (WD.skip rfl rfl rfl (WD.pu (.pick0 rfl rfl) (WD.pu (.mv rfl) (WD.nil .nil ?_ (fun o h=>nomatch h)))))))))))))))))
 refine WP.cond rfl (fun h=>Bool.noConfusion (show false=true from h)) (fun _=>WP.ops (WO.r (.faddr rfl) (WO.r (.load rfl (.app .here) rfl rfl rfl) (WO.r (.mv rfl) (WO.skip rfl rfl (WO.skip rfl rfl (WO.skip rfl rfl (WO.skip rfl rfl (WO.skip rfl rfl (WO.r (.pick0 rfl rfl) (WO.r (.mv rfl) (WO.nil ?_))))))))))))
 refine WP.cond rfl (fun h=>Bool.noConfusion (show false=true from h)) (fun _=>WP.seq (WP.ops (WO.r (.faddr rfl) (WO.r (.load rfl (.app (.there .here)) rfl rfl rfl) (WO.r (.eql rfl rfl (eqB_ne k13)) (WO.r (.mv rfl) (WO.skip rfl rfl (WO.skip rfl rfl (WO.skip rfl rfl (WO.r (.pick0 rfl rfl) (WO.r (.mv rfl) (WO.skip rfl rfl (WO.skip rfl rfl (WO.skip rfl rfl (WO.skip rfl rfl (WO.skip rfl rfl (WO.r (.pick0 rfl rfl) (WO.r (.mv rfl) (WO.nil ?_)))))))))))))))))))
 refine WP.cond rfl (fun h=>Bool.noConfusion (show false=true from h)) (fun _=>WP.seq (WP.seq (WP.ops (WO.r (.faddr rfl) (WO.r (.load rfl (.app (.there .here)) rfl rfl rfl) (WO.r (.eql rfl rfl (eqB_ne k16)) (WO.r (.mv rfl) (WO.skip rfl rfl (WO.skip rfl rfl (WO.skip rfl rfl (WO.skip rfl rfl (WO.skip rfl rfl (WO.skip rfl rfl (WO.skip rfl rfl (WO.skip rfl rfl (WO.r (.pick0 rfl rfl) (WO.r (.mv rfl) (WO.nil ?_))))))))))))))))))
 refine WP.cond rfl (fun h=>Bool.noConfusion (show false=true from h)) (fun _=>WP.ops (WO.r (.faddr rfl) (WO.r (.load rfl (.app (.there .here)) rfl rfl rfl) (WO.r (.eql rfl rfl (eqB_ne k18)) (WO.r (.mv rfl) (WO.skip rfl rfl (WO.skip rfl rfl (WO.skip rfl rfl (WO.skip rfl rfl (WO.skip rfl rfl (WO.skip rfl rfl (WO.skip rfl rfl (WO.skip rfl rfl (WO.r (.pick0 rfl rfl) (WO.r (.mv rfl) (WO.nil ?_))))))))))))))))
 refine WP.cond rfl (fun h=>Bool.noConfusion (show false=true from h)) (fun _=>WP.seq (WP.drawn0 (WD.pu (.faddr rfl) (WD.ld rfl .nil (.load rfl (.app (.there .here)) rfl rfl rfl) (WD.pu (.eql rfl rfl (eqB_ne k26)) (WD.pu (.mv rfl) (WD.skip rfl rfl rfl (WD.skip rfl rfl rfl (WD.skip rfl rfl rfl (WD.skip rfl rfl rfl (WD.skip rfl rfl rfl (WD.skip rfl rfl rfl (WD.skip rfl rfl rfl (WD.skip rfl rfl rfl (WD.skip rfl rfl rfl (WD.skip rfl rfl rfl (WD.skip rfl rfl rfl (WD.skip rfl rfl rfl (WD.skipc rfl rfl (WD.skip rfl rfl rfl (WD.pu (.pick0 rfl rfl) (WD.pu (.mv rfl) (WD.nil .nil ?_ (fun o h=>nomatch h))))))))))))))))))))))))
 refine WP.cond rfl (fun h=>Bool.noConfusion (show false=true from h)) (fun _=>WP.skip ?_)
 refine WP.seq (WP.ops (WO.r (.mv rfl) (WO.nil (WP.ret (Fin.mk (.tmp rfl .nil) ?_)))))
 refine⟨rfl,?_⟩
 have fin:∀ x y,WH bw d t (m1++(x::y::(bw,.r false [d.cells pv ov lv hv gv ev fv sv wv] 25)::(nn++t))):=fun x y=>⟨pv,ov,lv,hv,gv,ev,fv,sv,wv,(m1++[x,y])++nn,perm_ct fun c w h0 h1 h2 hq=>by simp only [h1,h2,h0];omega,k2.junk⟩
 exact fin _ _
theorem mayN_ok (hB:Base P K F T) {bw:Nat} {d:SD} {t:SH} (hs:WH bw d t s) (hd:d.Small) (he:d.Even) {k a b n m:Int} {it:ID} {fn:AV} (k13:k≠13) (k16:k≠16) (k18:k≠18) (k26:k≠26) :
  Tri P K (F 203) [.ptr (some ⟨bw,0,0⟩),.agg (evRow k a b n m it),.agg [.bool false,.bool false,.bool false,fn]] s (fun w s'=>w=iv 0∧WH bw d t s'):=by
 obtain⟨pv,ov,lv,hv,gv,ev,fv,sv,wv,nn,k1,k2⟩:=hs
 refine Tri.perm k1.symm ?_
 refine hB.f203.tri (by simp) ?_
 unfold a203
 refine WP.seq (WP.ops (WO.a (.box rfl rfl) fun b4=>WO.a (.box rfl rfl) fun b5=>WO.r (.mv rfl) (WO.nil ?_)))
 refine WP.seq (WP.ops (WO.r (.mkfn rfl rfl) (WO.r (.mv rfl) (WO.nil (WP.seq (WP.block ?_))))))
 have hR:∀ x y z,StD (x::y::z::(nn++t)) pv ov lv hv gv ev fv sv wv d:=fun x y z=>k2.r fun p hp=>by simp [hp]
 refine WP.seq (WP.drawn0 (WD.pu (.mv rfl) (WD.pu (.nilchk rfl rfl) (WD.pu (.faddr rfl) (WD.ld rfl .nil (.load rfl (.there (.there .here)) rfl rfl rfl) (WD.ch .nil (WS.callF rfl rfl (even_ok hB (hR _ _ _) ⟨he.lb,he.hd,he.gr,he.ex⟩) ?_)))))))
 rintro w _ ⟨rfl,m1,rfl⟩
 refine(WD.pu (.un rfl rfl) (WD.pu (.mv rfl) (WD.yes rfl rfl (WD.pu (.faddr rfl) (WD.yes rfl rfl (WD.ld rfl .nil (.load rfl (.app .here) rfl rfl rfl) (WD.yes rfl rfl (WD.pu (.mv rfl) (WD.skip rfl rfl rfl (WD.skip rfl rfl rfl (WD.skip rfl rfl rfl (WD.skip rfl rfl rfl (WD.skipu rfl rfl (WD.skipu rfl rfl (WD.skipu rfl rfl (WD.skipu rfl rfl (WD.skipu rfl rfl (WD.skipu rfl rfl (WD.skipu rfl rfl (WD.skipu rfl rfl (WD.skipu rfl rfl (WD.skip rfl rfl rfl (WD.yes rfl rfl (WD.pu (.pick0 rfl rfl) (WD.pu (.pick0 rfl rfl) (WD.pu (.mv rfl) (WD.nil .nil ?_ (fun o h=>nomatch h))))))))))))))))))))))))))))
 refine WP.cond rfl (fun h=>Bool.noConfusion (show false=true from h)) (fun _=>?_)
 refine WP.seq (WP.seq (WP.drawn0 (WD.pu (.faddr rfl) (WD.ld rfl .nil (.load rfl (.app .here) rfl rfl rfl) (WD.pu (.mv rfl) (WD.skip rfl rfl rfl (WD.skip rfl rfl rfl (WD.skip rfl rfl rfl (WD.skip rfl rfl rfl (WD.skip rfl rfl rfl (WD.skip rfl rfl rfl (WD.skipc rfl rfl (WD.skip rfl rfl rfl (WD.pu (.pick0 rfl rfl) (WD.pu (.mv rfl) (WD.nil .nil ?_ (fun o h=>nomatch h)))))))))))))))))
 refine WP.cond rfl (fun h=>Bool.noConfusion (show false=true from h)) (fun _=>WP.ops (WO.r (.faddr rfl) (WO.r (.load rfl (.app .here) rfl rfl rfl) (WO.r (.mv rfl) (WO.skip rfl rfl (WO.skip rfl rfl (WO.skip rfl rfl (WO.skip rfl rfl (WO.skip rfl rfl (WO.r (.pick0 rfl rfl) (WO.r (.mv rfl) (WO.nil ?_))))))))))))
 refine WP.cond rfl (fun h=>Bool.noConfusion (show false=true from h)) (fun _=>WP.seq (WP.ops (WO.r (.faddr rfl) (WO.r (.load rfl (.app (.there .here)) rfl rfl rfl) (WO.r (.eql rfl rfl (eqB_ne k13)) (WO.r (.mv rfl) (WO.skip rfl rfl (WO.skip rfl rfl (WO.skip rfl rfl (WO.r (.pick0 rfl rfl) (WO.r (.mv rfl) (WO.skip rfl rfl (WO.skip rfl rfl (WO.skip rfl rfl (WO.skip rfl rfl (WO.skip rfl rfl (WO.r (.pick0 rfl rfl) (WO.r (.mv rfl) (WO.nil ?_)))))))))))))))))))
 refine WP.cond rfl (fun h=>Bool.noConfusion (show false=true from h)) (fun _=>WP.seq (WP.seq (WP.ops (WO.r (.faddr rfl) (WO.r (.load rfl (.app (.there .here)) rfl rfl rfl) (WO.r (.eql rfl rfl (eqB_ne k16)) (WO.r (.mv rfl) (WO.skip rfl rfl (WO.skip rfl rfl (WO.skip rfl rfl (WO.skip rfl rfl (WO.skip rfl rfl (WO.skip rfl rfl (WO.skip rfl rfl (WO.skip rfl rfl (WO.r (.pick0 rfl rfl) (WO.r (.mv rfl) (WO.nil ?_))))))))))))))))))
 refine WP.cond rfl (fun h=>Bool.noConfusion (show false=true from h)) (fun _=>WP.ops (WO.r (.faddr rfl) (WO.r (.load rfl (.app (.there .here)) rfl rfl rfl) (WO.r (.eql rfl rfl (eqB_ne k18)) (WO.r (.mv rfl) (WO.skip rfl rfl (WO.skip rfl rfl (WO.skip rfl rfl (WO.skip rfl rfl (WO.skip rfl rfl (WO.skip rfl rfl (WO.skip rfl rfl (WO.skip rfl rfl (WO.r (.pick0 rfl rfl) (WO.r (.mv rfl) (WO.nil ?_))))))))))))))))
 refine WP.cond rfl (fun h=>Bool.noConfusion (show false=true from h)) (fun _=>WP.seq (WP.drawn0 (WD.pu (.faddr rfl) (WD.ld rfl .nil (.load rfl (.app (.there .here)) rfl rfl rfl) (WD.pu (.eql rfl rfl (eqB_ne k26)) (WD.pu (.mv rfl) (WD.skip rfl rfl rfl (WD.skip rfl rfl rfl (WD.skip rfl rfl rfl (WD.skip rfl rfl rfl (WD.skip rfl rfl rfl (WD.skip rfl rfl rfl (WD.skip rfl rfl rfl (WD.skip rfl rfl rfl (WD.skip rfl rfl rfl (WD.skip rfl rfl rfl (WD.skip rfl rfl rfl (WD.skip rfl rfl rfl (WD.skipc rfl rfl (WD.skip rfl rfl rfl (WD.pu (.pick0 rfl rfl) (WD.pu (.mv rfl) (WD.nil .nil ?_ (fun o h=>nomatch h))))))))))))))))))))))))
 refine WP.cond rfl (fun h=>Bool.noConfusion (show false=true from h)) (fun _=>WP.skip ?_)
 refine WP.seq (WP.ops (WO.r (.mv rfl) (WO.nil (WP.ret (Fin.mk (.tmp rfl .nil) ?_)))))
 refine⟨rfl,?_⟩
 have fin:∀ x y,WH bw d t (m1++(x::y::(bw,.r false [d.cells pv ov lv hv gv ev fv sv wv] 25)::(nn++t))):=fun x y=>⟨pv,ov,lv,hv,gv,ev,fv,sv,wv,(m1++[x,y])++nn,perm_ct fun c w h0 h1 h2 hq=>by simp only [h1,h2,h0];omega,k2.junk⟩
 exact fin _ _
theorem mayUnwait_ok (hB:Base P K F T) {bw:Nat} {d:SD} {t:SH} (hs:WH bw d t s) (hd:d.Small) (he:d.Even) {a b n m:Int} {it:ID} {fn:AV} (hin:(d.wa.findIdx? fun x=>decide (x.id=a)).isSome=true) :
  Tri P K (F 203) [.ptr (some ⟨bw,0,0⟩),.agg (evRow 18 a b n m it),.agg [.bool false,.bool false,.bool false,fn]] s (fun w s'=>w=iv 0∧WH bw d t s'):=by
 obtain⟨pv,ov,lv,hv,gv,ev,fv,sv,wv,nn,k1,k2⟩:=hs
 refine Tri.perm k1.symm ?_
 refine hB.f203.tri (by simp) ?_
 unfold a203
 refine WP.seq (WP.ops (WO.a (.box rfl rfl) fun b4=>WO.a (.box rfl rfl) fun b5=>WO.r (.mv rfl) (WO.nil ?_)))
 refine WP.seq (WP.ops (WO.r (.mkfn rfl rfl) (WO.r (.mv rfl) (WO.nil (WP.seq (WP.block ?_))))))
 have hR:∀ x y z,StD (x::y::z::(nn++t)) pv ov lv hv gv ev fv sv wv d:=fun x y z=>k2.r fun p hp=>by simp [hp]
 refine WP.seq (WP.drawn0 (WD.pu (.mv rfl) (WD.pu (.nilchk rfl rfl) (WD.pu (.faddr rfl) (WD.ld rfl .nil (.load rfl (.there (.there .here)) rfl rfl rfl) (WD.ch .nil (WS.callF rfl rfl (even_ok hB (hR _ _ _) ⟨he.lb,he.hd,he.gr,he.ex⟩) ?_)))))))
 rintro w _ ⟨rfl,m1,rfl⟩
 refine(WD.pu (.un rfl rfl) (WD.pu (.mv rfl) (WD.yes rfl rfl (WD.pu (.faddr rfl) (WD.yes rfl rfl (WD.ld rfl .nil (.load rfl (.app .here) rfl rfl rfl) (WD.yes rfl rfl (WD.pu (.mv rfl) (WD.skip rfl rfl rfl (WD.skip rfl rfl rfl (WD.skip rfl rfl rfl (WD.skip rfl rfl rfl (WD.skipu rfl rfl (WD.skipu rfl rfl (WD.skipu rfl rfl (WD.skipu rfl rfl (WD.skipu rfl rfl (WD.skipu rfl rfl (WD.skipu rfl rfl (WD.skipu rfl rfl (WD.skipu rfl rfl (WD.skip rfl rfl rfl (WD.yes rfl rfl (WD.pu (.pick0 rfl rfl) (WD.pu (.pick0 rfl rfl) (WD.pu (.mv rfl) (WD.nil .nil ?_ (fun o h=>nomatch h))))))))))))))))))))))))))))
 refine WP.cond rfl (fun h=>Bool.noConfusion (show false=true from h)) (fun _=>?_)
 refine WP.seq (WP.seq (WP.drawn0 (WD.pu (.faddr rfl) (WD.ld rfl .nil (.load rfl (.app .here) rfl rfl rfl) (WD.pu (.mv rfl) (WD.skip rfl rfl rfl (WD.skip rfl rfl rfl (WD.skip rfl rfl rfl (WD.skip rfl rfl rfl (WD.skip rfl rfl rfl (WD.skip rfl rfl rfl (WD.skipc rfl rfl (WD.skip rfl rfl rfl (WD.pu (.pick0 rfl rfl) (WD.pu (.mv rfl) (WD.nil .nil ?_ (fun o h=>nomatch h)))))))))))))))))
 refine WP.cond rfl (fun h=>Bool.noConfusion (show false=true from h)) (fun _=>WP.ops (WO.r (.faddr rfl) (WO.r (.load rfl (.app .here) rfl rfl rfl) (WO.r (.mv rfl) (WO.skip rfl rfl (WO.skip rfl rfl (WO.skip rfl rfl (WO.skip rfl rfl (WO.skip rfl rfl (WO.r (.pick0 rfl rfl) (WO.r (.mv rfl) (WO.nil ?_))))))))))))
 refine WP.cond rfl (fun h=>Bool.noConfusion (show false=true from h)) (fun _=>WP.seq (WP.ops (WO.r (.faddr rfl) (WO.r (.load rfl (.app (.there .here)) rfl rfl rfl) (WO.r (.eql rfl rfl (eqB_i _ _)) (WO.r (.mv rfl) (WO.skip rfl rfl (WO.skip rfl rfl (WO.skip rfl rfl (WO.r (.pick0 rfl rfl) (WO.r (.mv rfl) (WO.skip rfl rfl (WO.skip rfl rfl (WO.skip rfl rfl (WO.skip rfl rfl (WO.skip rfl rfl (WO.r (.pick0 rfl rfl) (WO.r (.mv rfl) (WO.nil ?_)))))))))))))))))))
 refine WP.cond rfl (fun h=>Bool.noConfusion (show false=true from h)) (fun _=>WP.seq (WP.seq (WP.ops (WO.r (.faddr rfl) (WO.r (.load rfl (.app (.there .here)) rfl rfl rfl) (WO.r (.eql rfl rfl (eqB_i _ _)) (WO.r (.mv rfl) (WO.skip rfl rfl (WO.skip rfl rfl (WO.skip rfl rfl (WO.skip rfl rfl (WO.skip rfl rfl (WO.skip rfl rfl (WO.skip rfl rfl (WO.skip rfl rfl (WO.r (.pick0 rfl rfl) (WO.r (.mv rfl) (WO.nil ?_))))))))))))))))))
 refine WP.cond rfl (fun h=>Bool.noConfusion (show false=true from h)) (fun _=>WP.ops (WO.r (.faddr rfl) (WO.r (.load rfl (.app (.there .here)) rfl rfl rfl) (WO.r (.eql rfl rfl (eqB_i _ _)) (WO.r (.mv rfl) (WO.yes rfl rfl (WO.r (.mv rfl) (WO.yes rfl rfl (WO.r (.mv rfl) (WO.yes rfl rfl (WO.r (.nilchk rfl rfl) (WO.yes rfl rfl (WO.r (.faddr rfl) (WO.yes rfl rfl (WO.r (.faddr rfl) (WO.yes rfl rfl (WO.r (.load rfl (.app (.there (.there .here))) rfl rfl rfl) (WO.yes rfl rfl (WO.w (WS.callF rfl rfl (inItems_ok hB (L:=d.wa) (.app (.there .here)) ((k2.r (s:=_) fun p hp=>by simp [hp]).wa) hd.n1.2.2.2.2) ?_))))))))))))))))))))
 rintro w _ ⟨rfl,m4,rfl⟩
 rw [hin]
 refine(WO.yes rfl rfl (WO.r (.un rfl rfl) (WO.r (.pick1 rfl rfl) (WO.r (.mv rfl) (WO.nil ?_)))))
 refine WP.cond rfl (fun h=>Bool.noConfusion (show false=true from h)) (fun _=>WP.seq (WP.drawn0 (WD.pu (.faddr rfl) (WD.ld rfl .nil (.load rfl (.app (.app (.there .here))) rfl rfl rfl) (WD.pu (.eql rfl rfl (eqB_i _ _)) (WD.pu (.mv rfl) (WD.skip rfl rfl rfl (WD.skip rfl rfl rfl (WD.skip rfl rfl rfl (WD.skip rfl rfl rfl (WD.skip rfl rfl rfl (WD.skip rfl rfl rfl (WD.skip rfl rfl rfl (WD.skip rfl rfl rfl (WD.skip rfl rfl rfl (WD.skip rfl rfl rfl (WD.skip rfl rfl rfl (WD.skip rfl rfl rfl (WD.skipc rfl rfl (WD.skip rfl rfl rfl (WD.pu (.pick0 rfl rfl) (WD.pu (.mv rfl) (WD.nil .nil ?_ (fun o h=>nomatch h))))))))))))))))))))))))
 refine WP.cond rfl (fun h=>Bool.noConfusion (show false=true from h)) (fun _=>WP.skip ?_)
 refine WP.seq (WP.ops (WO.r (.mv rfl) (WO.nil (WP.ret (Fin.mk (.tmp rfl .nil) ?_)))))
 refine⟨rfl,?_⟩
 have fin:∀ x y,WH bw d t (m4++(m1++(x::y::(bw,.r false [d.cells pv ov lv hv gv ev fv sv wv] 25)::(nn++t)))):=fun x y=>⟨pv,ov,lv,hv,gv,ev,fv,sv,wv,(m4++(m1++[x,y]))++nn,perm_ct fun c w h0 h1 h2 hq=>by simp only [h1,h2,h0];omega,k2.junk⟩
 exact fin _ _
end
end Go.Ev
namespace Go.Ev
theorem Upd.has {b:Nat} {o o':HO} {s s':SH} (h:Upd b o o' s s'):Has b o s∧Has b o' s':=by
 obtain⟨x,y,rfl,rfl⟩:=h.split
 exact⟨.app .here,.app .here⟩
theorem StG.st_at {n:SH} {pv ov lv hv gv ev fv sv wv:AV} {d:SD} (h:StG n pv ov lv hv gv ev fv sv wv d):∃ o r,n.Perm (o++r)∧Gr 7 sv (idR d.st) o∧∀ sv' l' o',Gr 7 sv' (idR l') o'->StG (o'++r) pv ov lv hv gv ev fv sv' wv { d with st:=l' }:=by
 obtain⟨o1,o2,o3,o4,o5,o6,o7,o8,o9,j,hp,g1,g2,g3,g4,g5,g6,g7,g8,g9⟩:=h.ex
 refine⟨o8,o1++(o2++(o3++(o4++(o5++(o6++(o7++(o9++j))))))),perm_ct fun c w h0 h1 h2 hq=>by rw [hq _ _ hp];simp only [h1];omega,g8,fun v' l' o' g'=>⟨o1,o2,o3,o4,o5,o6,o7,o',o9,j,perm_ct fun c w h0 h1 h2 hq=>by simp only [h1];omega,g1,g2,g3,g4,g5,g6,g7,g',g9⟩⟩
theorem StG.wa_at {n:SH} {pv ov lv hv gv ev fv sv wv:AV} {d:SD} (h:StG n pv ov lv hv gv ev fv sv wv d):∃ o r,n.Perm (o++r)∧Gr 7 wv (idR d.wa) o∧∀ wv' l' o',Gr 7 wv' (idR l') o'->StG (o'++r) pv ov lv hv gv ev fv sv wv' { d with wa:=l' }:=by
 obtain⟨o1,o2,o3,o4,o5,o6,o7,o8,o9,j,hp,g1,g2,g3,g4,g5,g6,g7,g8,g9⟩:=h.ex
 refine⟨o9,o1++(o2++(o3++(o4++(o5++(o6++(o7++(o8++j))))))),perm_ct fun c w h0 h1 h2 hq=>by rw [hq _ _ hp];simp only [h1];omega,g9,fun v' l' o' g'=>⟨o1,o2,o3,o4,o5,o6,o7,o8,o',j,perm_ct fun c w h0 h1 h2 hq=>by simp only [h1];omega,g1,g2,g3,g4,g5,g6,g7,g8,g'⟩⟩
section
variable {P:Program} {K:Orc} {rd:Option Nat} {nt:Nat} {l:Sl} {ds:List ADef} {s:SH} {Q Qn Qr:Po} {Qe:Nat->Po} {F:Nat->FuncId} {T:Nat->TypeId}
theorem BaseI.c63 (hI:BaseI P K F T):FnK P K (F 63) 42 [.tmp 4] (delFC true (F 113) 7 zItem):=hI.f63
theorem item_ok (hB:Base P K F T) (hI:BaseI P K F T) {bw:Nat} {pv ov lv hv gv ev fv sv wv:AV} {d:SD} {s2:SH} {k a b n m:Int} {it:ID} (hu:Upd bw (.r false [d.cells pv ov lv hv gv ev fv sv wv] 25) (.r false [({ d with nx:=d.nx+1 }:SD).cells pv ov lv hv gv ev fv sv wv] 25) s s2) (h1:0≤d.nx∧d.nx≤1000000) :
  Tri P K (F 275) [.ptr (some ⟨bw,0,0⟩),.agg (evRow k a b n m it)] s (fun v s'=>v=.agg ({ it with id:=d.nx }:ID).row∧∃ m,s'=m++s2):=by
 refine hI.f275.tri (by simp) ?_
 unfold a275
 refine WP.seq (WP.ops (WO.a (.box rfl rfl) fun b3=>WO.a (.alloc rfl) fun b4=>WO.nil ?_))
 refine WP.seq (WP.ops (WO.r (.faddr rfl) (WO.r (.load rfl (.there .here) rfl rfl rfl) (WO.w (WS.callF rfl rfl (ownItem_ok hB) ?_)))))
 rintro w _ ⟨rfl,m1,rfl⟩
 refine WO.a (.alloc rfl) fun b5=>WO.w (WS.store rfl rfl rfl .here rfl rfl (WO.nil ?_))
 refine WP.seq (WP.ops (WO.r (.mv rfl) (WO.r (.nilchk rfl rfl) (WO.r (.faddr rfl) (WO.r (.faddr rfl) (WO.r (.load rfl (.there (.app (.there (.there hu.has.1)))) rfl rfl rfl) (WO.r (.faddr rfl) (WO.w (WS.store rfl rfl rfl .here rfl rfl (WO.nil ?_))))))))))
 refine WP.seq (WP.ops (WO.r (.mv rfl) (WO.r (.nilchk rfl rfl) (WO.r (.faddr rfl) (WO.r (.faddr rfl) (WO.r (.load rfl (.there (.app (.there (.there hu.has.1)))) rfl rfl rfl) (WO.r (.arith rfl rfl (add_i h1.1 (by omega))) (WO.r (.nilchk rfl rfl) (WO.r (.faddr rfl) (WO.r (.faddr rfl) (WO.w (WS.store rfl rfl rfl (.there (.app (.there (.there hu)))) rfl rfl (WO.nil ?_)))))))))))))
 refine WP.seq (WP.ops (WO.r (.load rfl .here rfl rfl rfl) (WO.w (WS.store rfl rfl rfl (.there (.app .here)) rfl rfl (WO.nil (WP.ret (Fin.mk (.cell rfl hB.t48.1 hB.t48.2 (.inl rfl) (.there (.app .here)) rfl rfl rfl .nil) ?_)))))))
 have fin:∀ (p q r:Nat × HO),∃ m,p::(m1++(q::r::s2))=m++s2:=fun p q r=>⟨p::(m1++[q,r]),by simp⟩
 exact⟨rfl,fin _ _ _⟩
theorem isWith_ok (hI:BaseI P K F T) {o:ID} {a:Int} {b:Nat} {ro:Bool} (hb:Has b (.r ro [[iv a]] 1) s):Tri P K (F 296) [.agg o.row,.ptr (some ⟨b,0,0⟩)] s (fun w s'=>w=.bool (decide (o.id=a))∧∃ m,s'=m++s):=by
 refine hI.f296.tri (by simp) ?_
 unfold a296
 refine WP.seq (WP.ops (WO.a (.box rfl rfl) fun b1=>WO.r (.mv rfl) (WO.nil ?_)))
 refine WP.seq (WP.ops (WO.r (.faddr rfl) (WO.r (.load rfl .here rfl rfl rfl) (WO.r (.load rfl (.there hb) rfl rfl rfl) (WO.r (.eql rfl rfl (eqB_i _ _)) (WO.r (.mv rfl) (WO.nil (WP.ret (Fin.mk (.tmp rfl .nil) ?_)))))))))
 exact⟨rfl,[_],rfl⟩
theorem idR_filter (L:List ID) (q:ID->Bool) (p:List AV->Bool) (h:∀ o,p (ID.row o)=q o):(idR L).filter (fun r=>!p r)=idR (L.filter fun o=>!q o):=by
 unfold idR
 rw [List.filter_map]
 congr 1
 apply List.filter_congr
 intro o _
 simp [h]
theorem without_ok (hB:Base P K F T) (hI:BaseI P K F T) {v:AV} {L:List ID} {a:Int} {m o t:SH} (h:Gr 7 v (idR L) o) (hn:L.length≤1000) :
  Tri P K (F 278) [v,iv a] (m++(o++t)) (fun v' s'=>∃ o' x,s'=x++(m++(o'++t))∧Gr 7 v' (idR (L.filter fun y=>!decide (y.id=a))) o'):=by
 refine hI.f278.tri (by simp) ?_
 unfold a278
 refine WP.seq (WP.ops (WO.a (.box rfl rfl) fun b3=>WO.r (.mv rfl) (WO.nil ?_)))
 refine WP.pre (s':=m++(o++((b3,.r false [[iv a]] 1)::t))) (perm_ct fun c w h0 h1 h2 hq=>by simp only [h1,h2];omega) ?_
 have hcl:∀ row∈idR L,∀ y:SH,Has b3 (.r false [[iv a]] 1) y->TriV P K (.func (F 296) [] [.ptr (some ⟨b3,0,0⟩)]) [elv true row] y (fun w s'=>w=.bool (rowId a row)∧∃ m,s'=m++y):=fun row hr y hy=>by
  obtain⟨q,_,rfl⟩:=List.mem_map.1 hr
  exact TriV.func (isWith_ok hI hy)
 have hlen:∀ row∈idR L,row.length=7:=fun row hr=>by
  obtain⟨q,_,rfl⟩:=List.mem_map.1 hr
  rfl
 have hdel:Tri P K (F 63) [v,.func (F 296) [] [.ptr (some ⟨b3,0,0⟩)]] (m++(o++((b3,.r false [[iv a]] 1)::t))) (fun v' s'=>∃ o' x,s'=x++(m++(o'++((b3,.r false [[iv a]] 1)::t)))∧Gr 7 v' (idR (L.filter fun y=>!decide (y.id=a))) o'):=by
  refine hI.c63.tri (by simp) (delF_ok (rowId a) h (by omega) rfl (.inl rfl) (by simp only [idR,List.length_map];omega) hlen (fun h=>by cases h) ?_ (fun row hr y hy=>hcl row hr y (.of_mem (hy _ (by simp)))) fun v' o' y hG=>⟨o',y,rfl,by rw [<- idR_filter L (fun y=>decide (y.id=a)) (rowId a) (fun _=>rfl)];exact hG⟩)
  refine hB.c113.tri (by simp) (idx_ok (rowId a) h.src (by omega) (.inl rfl) (by simp only [idR,List.length_map];omega) hlen (fun row hr y=>hcl row hr _ (.app (.of_mem (by simp)))) fun n=>⟨rfl,n,rfl⟩)
 refine WP.seq (WP.ops (WO.r (.mv rfl) (WO.r (.mkfn rfl rfl) (WO.w (WS.callF rfl rfl hdel ?_)))))
 rintro v' _ ⟨o',x,rfl,hG⟩
 refine WO.r (.mv rfl) (WO.nil (WP.pre (s':=(x++[(b3,.r false [[iv a]] 1)])++(m++(o'++t))) (perm_ct fun c w h0 h1 h2 hq=>by simp only [h1,h2,h0];omega) (WP.ret (Fin.mk (.tmp rfl .nil) ⟨o',_,rfl,hG⟩))))
theorem doWait_ok (hB:Base P K F T) (hI:BaseI P K F T) {bw bx:Nat} {d:SD} {t:SH} (hs:WH bw d t s) (hx:Has bx (.r false [[.ptr (some ⟨bw,0,0⟩)]] 1) t) (hd:d.Small) {k a b n m:Int} {it:ID} (h1:0≤d.nx∧d.nx≤1000000) :
  Tri P K (F 276) [.agg (evRow k a b n m it),.ptr (some ⟨bx,0,0⟩)] s (fun _ s'=>WH bw { d with nx:=d.nx+1,wa:=d.wa++[{ it with id:=d.nx }] } t s'):=by
 obtain⟨pv,ov,lv,hv,gv,ev,fv,sv,wv,nn,k1,k2⟩:=hs
 refine Tri.perm k1.symm ?_
 refine hI.f276.tri (by simp) ?_
 unfold a276
 refine WP.seq (WP.ops (WO.a (.box rfl rfl) fun b2=>WO.nil ?_))
 refine WP.drawn1 fun b'=>?_
 refine WD.lk rfl .nil (.load rfl (.there (.there (.there (.app hx)))) rfl rfl rfl) (WD.lk rfl .nil (.load rfl (.there (.there (.there (.app hx)))) rfl rfl rfl) (WD.pu (.nilchk rfl rfl) (WD.pu (.faddr rfl) (WD.pu (.faddr rfl) (WD.lk rfl .nil (.load rfl (.there (.there .here)) rfl rfl rfl) (WD.ld rfl .nil (.load rfl (.there (.there (.there (.app hx)))) rfl rfl rfl) (WD.ld rfl .nil (.load rfl (.there .here) rfl rfl rfl) (WD.ch .nil (WS.callF (first:=[]) (vs:=[.ptr (some ⟨bw,0,0⟩),.agg (evRow k a b n m it)]) (cap:=[]) rfl rfl (item_ok hB hI (.there (.there .here)) h1) ?_)))))))))
 rintro w _ ⟨rfl,m1,rfl⟩
 obtain⟨oo,r,e1,e2,e3⟩:=k2.wa_at
 refine WD.al (.bslice (L:=[({ it with id:=d.nx }:ID).row]) (bsrows1 rfl rfl) rfl) rfl ?_
 refine WD.ch (.yes rfl rfl (.app .here) .nil) (WS.pre (s':=[(b',.r false [({ it with id:=d.nx }:ID).row] 7),(b2,.r false [evRow k a b n m it] 13),(bw,.r false [({ d with nx:=d.nx+1 }:SD).cells pv ov lv hv gv ev fv sv wv] 25)]++(oo++(m1++(r++t)))) (perm_ct fun c w h0 h1 h2 hq=>by simp only [h1,h2,h0,hq _ _ e1];omega) (WS.append_gr rfl e2 rfl (Src.all (L:=[({ it with id:=d.nx }:ID).row]) .here) (by omega) (by have:=hd.n1;simp only [idR,List.length_map];omega) (by omega) fun v' o' j hG=>?_))
 have hG':Gr 7 v' (idR (d.wa++[{ it with id:=d.nx }])) o':=by
  have:idR (d.wa++[{ it with id:=d.nx }])=idR d.wa++[({ it with id:=d.nx }:ID).row]:=by simp [idR]
  rw [this];exact hG
 have k3:=e3 v' (d.wa++[{ it with id:=d.nx }]) o' hG'
 refine WD.pu (.nilchk rfl rfl) (WD.pu (.faddr rfl) (WD.pu (.faddr rfl) (WD.ch .nil (WS.store rfl rfl hG.part (.app (.there (.there .here))) rfl rfl (WD.nil .nil (Fin.mk .nil ?_) ?_)))))
 ·exact⟨pv,ov,lv,hv,gv,ev,fv,sv,v',[(b',.r false [({ it with id:=d.nx }:ID).row] 7),(b2,.r false [evRow k a b n m it] 13)]++(j++(m1++(o'++r))),
   (show List.Perm (o'++([(b',.r false [({ it with id:=d.nx }:ID).row] 7),(b2,.r false [evRow k a b n m it] 13),(bw,HO.r false [({ d with nx:=d.nx+1,wa:=d.wa++[{ it with id:=d.nx }] }:SD).cells pv ov lv hv gv ev fv sv v'] 25)]++(j++(m1++(r++t))))) _ from perm_ct fun c w h0 h1 h2 hq=>by simp only [h1,h2,h0];omega),
   (show StG _ pv ov lv hv gv ev fv sv v' { d with nx:=d.nx+1,wa:=d.wa++[{ it with id:=d.nx }] } from ⟨(((k3.junk (m:=m1)).junk (m:=j)).junk (m:=[(b',.r false [({ it with id:=d.nx }:ID).row] 7),(b2,.r false [evRow k a b n m it] 13)])).ex⟩)⟩
 ·intro o ho
  rcases List.mem_cons.1 ho with rfl|ho
  ·refine⟨(fun i hi=>by simp only [List.mem_singleton] at hi;subst hi;exact(show bit 30 9=false from rfl)),Nat.zero_le _,Src.sameN (s:=[]++(oo++[])) e2.src _,fun k _ hk=>?_⟩
   rcases(by have:k≤1:=hk;omega:k=0∨k=1) with rfl|rfl
   ·exact⟨_,rfl,.load rfl (.there (.there .here)) rfl rfl rfl⟩
   ·exact⟨_,rfl,.load rfl (.app (.there (.there .here))) rfl rfl rfl⟩
  ·rcases List.mem_cons.1 ho with rfl | ho
   ·refine⟨(fun i hi=>by simp only [List.mem_singleton] at hi;subst hi;exact(show bit 0 9=false from rfl)),Nat.zero_le _,same_p _ _ _,fun k _ hk=>?_⟩
    rcases(by have:k≤1:=hk;omega:k=0∨k=1) with rfl|rfl
    ·exact⟨_,rfl,.load rfl (.there (.there (.there (.app hx)))) rfl rfl rfl⟩
    ·exact⟨_,rfl,.load rfl (.app (.there (.there (.there (.app hx))))) rfl rfl rfl⟩
   ·rw [List.mem_singleton.1 ho]
    refine⟨(fun i hi=>by simp only [List.mem_singleton] at hi;subst hi;exact(show bit 0 9=false from rfl)),Nat.zero_le _,same_p _ _ _,fun k _ hk=>?_⟩
    rcases(by have:k≤2:=hk;omega:k=0∨k=1∨k=2) with rfl|rfl|rfl
    ·exact⟨_,rfl,.load rfl (.there (.there (.there (.app hx)))) rfl rfl rfl⟩
    ·exact⟨_,rfl,.load rfl (.app (.there (.there (.there (.app hx))))) rfl rfl rfl⟩
    ·exact⟨_,rfl,.load rfl (.app (.app (.app (.app (.app hx))))) rfl rfl rfl⟩
theorem doPush_ok (hB:Base P K F T) (hI:BaseI P K F T) {bw bx:Nat} {d:SD} {t:SH} (hs:WH bw d t s) (hx:Has bx (.r false [[.ptr (some ⟨bw,0,0⟩)]] 1) t) (hd:d.Small) {k a b n m:Int} {it:ID} (h1:0≤d.nx∧d.nx≤1000000) :
  Tri P K (F 274) [.agg (evRow k a b n m it),.ptr (some ⟨bx,0,0⟩)] s (fun _ s'=>WH bw { d with nx:=d.nx+1,st:=d.st++[{ it with id:=d.nx }] } t s'):=by
 obtain⟨pv,ov,lv,hv,gv,ev,fv,sv,wv,nn,k1,k2⟩:=hs
 refine Tri.perm k1.symm ?_
 refine hI.f274.tri (by simp) ?_
 unfold a274
 refine WP.seq (WP.ops (WO.a (.box rfl rfl) fun b2=>WO.nil ?_))
 refine WP.drawn1 fun b'=>?_
 refine WD.lk rfl .nil (.load rfl (.there (.there (.there (.app hx)))) rfl rfl rfl) (WD.lk rfl .nil (.load rfl (.there (.there (.there (.app hx)))) rfl rfl rfl) (WD.pu (.nilchk rfl rfl) (WD.pu (.faddr rfl) (WD.pu (.faddr rfl) (WD.lk rfl .nil (.load rfl (.there (.there .here)) rfl rfl rfl) (WD.ld rfl .nil (.load rfl (.there (.there (.there (.app hx)))) rfl rfl rfl) (WD.ld rfl .nil (.load rfl (.there .here) rfl rfl rfl) (WD.ch .nil (WS.callF (first:=[]) (vs:=[.ptr (some ⟨bw,0,0⟩),.agg (evRow k a b n m it)]) (cap:=[]) rfl rfl (item_ok hB hI (.there (.there .here)) h1) ?_)))))))))
 rintro w _ ⟨rfl,m1,rfl⟩
 obtain⟨oo,r,e1,e2,e3⟩:=k2.st_at
 refine WD.al (.bslice (L:=[({ it with id:=d.nx }:ID).row]) (bsrows1 rfl rfl) rfl) rfl ?_
 refine WD.ch (.yes rfl rfl (.app .here) .nil) (WS.pre (s':=[(b',.r false [({ it with id:=d.nx }:ID).row] 7),(b2,.r false [evRow k a b n m it] 13),(bw,.r false [({ d with nx:=d.nx+1 }:SD).cells pv ov lv hv gv ev fv sv wv] 25)]++(oo++(m1++(r++t)))) (perm_ct fun c w h0 h1 h2 hq=>by simp only [h1,h2,h0,hq _ _ e1];omega) (WS.append_gr rfl e2 rfl (Src.all (L:=[({ it with id:=d.nx }:ID).row]) .here) (by omega) (by have:=hd.n1;simp only [idR,List.length_map];omega) (by omega) fun v' o' j hG=>?_))
 have hG':Gr 7 v' (idR (d.st++[{ it with id:=d.nx }])) o':=by
  have:idR (d.st++[{ it with id:=d.nx }])=idR d.st++[({ it with id:=d.nx }:ID).row]:=by simp [idR]
  rw [this];exact hG
 have k3:=e3 v' (d.st++[{ it with id:=d.nx }]) o' hG'
 refine WD.pu (.nilchk rfl rfl) (WD.pu (.faddr rfl) (WD.pu (.faddr rfl) (WD.ch .nil (WS.store rfl rfl hG.part (.app (.there (.there .here))) rfl rfl (WD.nil .nil (Fin.mk .nil ?_) ?_)))))
 ·exact⟨pv,ov,lv,hv,gv,ev,fv,v',wv,[(b',.r false [({ it with id:=d.nx }:ID).row] 7),(b2,.r false [evRow k a b n m it] 13)]++(j++(m1++(o'++r))),
   (show List.Perm (o'++([(b',.r false [({ it with id:=d.nx }:ID).row] 7),(b2,.r false [evRow k a b n m it] 13),(bw,HO.r false [({ d with nx:=d.nx+1,st:=d.st++[{ it with id:=d.nx }] }:SD).cells pv ov lv hv gv ev fv v' wv] 25)]++(j++(m1++(r++t))))) _ from perm_ct fun c w h0 h1 h2 hq=>by simp only [h1,h2,h0];omega),
   (show StG _ pv ov lv hv gv ev fv v' wv { d with nx:=d.nx+1,st:=d.st++[{ it with id:=d.nx }] } from ⟨(((k3.junk (m:=m1)).junk (m:=j)).junk (m:=[(b',.r false [({ it with id:=d.nx }:ID).row] 7),(b2,.r false [evRow k a b n m it] 13)])).ex⟩)⟩
 ·intro o ho
  rcases List.mem_cons.1 ho with rfl|ho
  ·refine⟨(fun i hi=>by simp only [List.mem_singleton] at hi;subst hi;exact(show bit 30 9=false from rfl)),Nat.zero_le _,Src.sameN (s:=[]++(oo++[])) e2.src _,fun k _ hk=>?_⟩
   rcases(by have:k≤1:=hk;omega:k=0∨k=1) with rfl|rfl
   ·exact⟨_,rfl,.load rfl (.there (.there .here)) rfl rfl rfl⟩
   ·exact⟨_,rfl,.load rfl (.app (.there (.there .here))) rfl rfl rfl⟩
  ·rcases List.mem_cons.1 ho with rfl | ho
   ·refine⟨(fun i hi=>by simp only [List.mem_singleton] at hi;subst hi;exact(show bit 0 9=false from rfl)),Nat.zero_le _,same_p _ _ _,fun k _ hk=>?_⟩
    rcases(by have:k≤1:=hk;omega:k=0∨k=1) with rfl|rfl
    ·exact⟨_,rfl,.load rfl (.there (.there (.there (.app hx)))) rfl rfl rfl⟩
    ·exact⟨_,rfl,.load rfl (.app (.there (.there (.there (.app hx))))) rfl rfl rfl⟩
   ·rw [List.mem_singleton.1 ho]
    refine⟨(fun i hi=>by simp only [List.mem_singleton] at hi;subst hi;exact(show bit 0 9=false from rfl)),Nat.zero_le _,same_p _ _ _,fun k _ hk=>?_⟩
    rcases(by have:k≤2:=hk;omega:k=0∨k=1∨k=2) with rfl|rfl|rfl
    ·exact⟨_,rfl,.load rfl (.there (.there (.there (.app hx)))) rfl rfl rfl⟩
    ·exact⟨_,rfl,.load rfl (.app (.there (.there (.there (.app hx))))) rfl rfl rfl⟩
    ·exact⟨_,rfl,.load rfl (.app (.app (.app (.app (.app hx))))) rfl rfl rfl⟩
theorem doUnwait_ok (hB:Base P K F T) (hI:BaseI P K F T) {bw bx:Nat} {d:SD} {t:SH} (hs:WH bw d t s) (hx:Has bx (.r false [[.ptr (some ⟨bw,0,0⟩)]] 1) t) (hd:d.Small) {k a b n m:Int} {it:ID} :
  Tri P K (F 279) [.agg (evRow k a b n m it),.ptr (some ⟨bx,0,0⟩)] s (fun _ s'=>WH bw { d with wa:=d.wa.filter fun y=>!decide (y.id=a) } t s'):=by
 obtain⟨pv,ov,lv,hv,gv,ev,fv,sv,wv,nn,k1,k2⟩:=hs
 refine Tri.perm k1.symm ?_
 refine hI.f279.tri (by simp) ?_
 unfold a279
 refine WP.seq (WP.ops (WO.a (.box rfl rfl) fun b2=>WO.nil ?_))
 obtain⟨oo,r,e1,e2,e3⟩:=k2.wa_at
 refine WP.pre (s':=(b2,.r false [evRow k a b n m it] 13)::(bw,.r false [d.cells pv ov lv hv gv ev fv sv wv] 25)::(oo++(r++t))) (perm_ct fun c w h0 h1 h2 hq=>by simp only [h1,h2,hq _ _ e1];omega) ?_
 refine WP.drawn0 (WD.lk rfl .nil (.load rfl (.there (.there (.app (.app hx)))) rfl rfl rfl) (WD.ld rfl .nil (.load rfl (.there (.there (.app (.app hx)))) rfl rfl rfl) (WD.pu (.nilchk rfl rfl) (WD.pu (.faddr rfl) (WD.pu (.faddr rfl) (WD.ld rfl .nil (.load rfl (.there .here) rfl rfl rfl) (WD.pu (.faddr rfl) (WD.ld rfl .nil (.load rfl .here rfl rfl rfl) ?_))))))))
 refine WD.ch .nil (WS.callF (first:=[]) (vs:=[wv,iv a]) (cap:=[]) rfl rfl (without_ok hB hI (m:=[(b2,.r false [evRow k a b n m it] 13),(bw,.r false [d.cells pv ov lv hv gv ev fv sv wv] 25)]) e2 hd.n1.2.2.2.2) ?_)
 rintro v' _ ⟨o',x,rfl,hG⟩
 have k3:=e3 v' (d.wa.filter fun y=>!decide (y.id=a)) o' hG
 refine WD.pu (.nilchk rfl rfl) (WD.pu (.faddr rfl) (WD.pu (.faddr rfl) (WD.ch .nil (WS.store rfl rfl hG.part (.app (.there .here)) rfl rfl (WD.nil .nil (Fin.mk .nil ?_) ?_)))))
 ·exact⟨pv,ov,lv,hv,gv,ev,fv,sv,v',(x++[(b2,.r false [evRow k a b n m it] 13)])++(o'++r),
   (show List.Perm (x++([(b2,.r false [evRow k a b n m it] 13),(bw,HO.r false [({ d with wa:=d.wa.filter fun y=>!decide (y.id=a) }:SD).cells pv ov lv hv gv ev fv sv v'] 25)]++(o'++(r++t)))) _ from perm_ct fun c w h0 h1 h2 hq=>by simp only [h1,h2,h0];omega),
   (show StG _ pv ov lv hv gv ev fv sv v' { d with wa:=d.wa.filter fun y=>!decide (y.id=a) } from ⟨(k3.junk (m:=x++[(b2,.r false [evRow k a b n m it] 13)])).ex⟩)⟩
 ·intro o ho
  rw [List.mem_singleton.1 ho]
  refine⟨(fun i hi=>nomatch hi),Nat.zero_le _,same_p _ _ _,fun k _ hk=>?_⟩
  rcases(by have:k≤1:=hk;omega:k=0∨k=1) with rfl|rfl
  ·exact⟨_,rfl,.load rfl (.there (.there (.app (.app hx)))) rfl rfl rfl⟩
  ·exact⟨_,rfl,.load rfl (.app (.app (.app (.app hx)))) rfl rfl rfl⟩
end
end Go.Ev
namespace Go.Ev
section
variable {P:Program} {K:Orc} {rd:Option Nat} {nt:Nat} {l:Sl} {ds:List ADef} {s:SH} {Q Qn Qr:Po} {Qe:Nat->Po} {F:Nat->FuncId} {T:Nat->TypeId}
theorem doTurn_ok (hI:FnK P K (F 271) 19 [] (a271 F T)) {bw:Nat} {d:SD} {t:SH} (hs:WH bw d t s) (h1:0≤d.tu∧d.tu≤1000000) {k a b n m:Int} {it:ID} :
  Tri P K (F 271) [.ptr (some ⟨bw,0,0⟩),.agg (evRow k a b n m it)] s (fun _ s'=>WH bw { d with tu:=d.tu+1,ac:=a } t s'):=by
 obtain⟨pv,ov,lv,hv,gv,ev,fv,sv,wv,nn,k1,k2⟩:=hs
 refine Tri.perm k1.symm ?_
 refine hI.tri (by simp) ?_
 unfold a271
 refine WP.seq (WP.ops (WO.a (.box rfl rfl) fun b2=>WO.nil ?_))
 refine WP.seq (WP.ops (WO.r (.mv rfl) (WO.r (.nilchk rfl rfl) (WO.r (.faddr rfl) (WO.r (.faddr rfl) (WO.r (.load rfl (.there .here) rfl rfl rfl) (WO.r (.arith rfl rfl (add_i h1.1 (by omega))) (WO.r (.nilchk rfl rfl) (WO.r (.faddr rfl) (WO.r (.faddr rfl) (WO.w (WS.store rfl rfl rfl (.there .here) rfl rfl (WO.nil ?_)))))))))))))
 refine WP.ops (WO.r (.mv rfl) (WO.r (.faddr rfl) (WO.r (.load rfl .here rfl rfl rfl) (WO.r (.nilchk rfl rfl) (WO.r (.faddr rfl) (WO.r (.faddr rfl) (WO.w (WS.store rfl rfl rfl (.there .here) rfl rfl (WO.nil (Fin.mk .nil ?_))))))))))
 exact⟨pv,ov,lv,hv,gv,ev,fv,sv,wv,[(b2,.r false [evRow k a b n m it] 13)]++nn,(show List.Perm ((b2,HO.r false [evRow k a b n m it] 13)::(bw,.r false [({ d with tu:=d.tu+1,ac:=a }:SD).cells pv ov lv hv gv ev fv sv wv] 25)::(nn++t)) _ from perm_ct fun c w h0 h1 h2 hq=>by simp only [h1,h2,h0];omega),(show StG _ pv ov lv hv gv ev fv sv wv { d with tu:=d.tu+1,ac:=a } from ⟨(k2.junk (m:=[_])).ex⟩)⟩
theorem apply_gen (hB:Base P K F T) {k:Nat} {a b n m:Int} {it:ID} {d d':SD} (hd:d.Small)
  (hck:∀ s,Tri P K (F 201) [.agg (evRow (.ofNat k) a b n m it)] s (fun v s'=>v=iv 0∧s'=s))
  (hrule:∀ {bw:Nat} {s:SH},Tri P K (F 202) [.ptr (some ⟨bw,0,0⟩),iv (.ofNat k)] s (fun v s'=>∃ m,s'=m++s∧RV F bw m k v))
  (hmay:∀ {bw:Nat} {t s m':SH} {v:AV},RV F bw m' k v->WH bw d t s->Tri P K (F 203) [.ptr (some ⟨bw,0,0⟩),.agg (evRow (.ofNat k) a b n m it),v] s (fun w s'=>w=iv 0∧WH bw d t s'))
  (hdo:∀ {bw:Nat} {t s:SH} {p o f:Bool} {fn:AV},RV F bw t k (.agg [.bool p,.bool o,.bool f,fn])->WH bw d t s->TriV P K fn [.agg (evRow (.ofNat k) a b n m it)] s (fun _ s'=>WH bw d' t s')):Ap P K F (.ofNat k) a b n m it d d':=by
 intro pv ov lv hv gv ev fv sv wv s h
 refine hB.f164.tri (by simp) ?_
 unfold a164
 refine WP.seq (WP.ops (WO.a (.box rfl rfl) fun b2=>WO.a (.box rfl rfl) fun b3=>WO.a (.alloc rfl) fun b4=>WO.r (.mv rfl) (WO.nil ?_)))
 have hR:StD ((b4,.r false [zState] 25)::(b3,.r false [evRow (.ofNat k) a b n m it] 13)::(b2,.r false [d.cells pv ov lv hv gv ev fv sv wv] 25)::s) pv ov lv hv gv ev fv sv wv d:=⟨h.pl.mono fun p hp=>by simp [hp],h.ob.mono fun p hp=>by simp [hp],h.lb.mono fun p hp=>by simp [hp],h.hd.mono fun p hp=>by simp [hp],h.gr.mono fun p hp=>by simp [hp],h.ex.mono fun p hp=>by simp [hp],h.fi.mono fun p hp=>by simp [hp],h.st.mono fun p hp=>by simp [hp],h.wa.mono fun p hp=>by simp [hp]⟩
 refine WP.seq (WP.ops (WO.r (.load rfl (.there (.there .here)) rfl rfl rfl) (WO.w (WS.callF (first:=[]) (vs:=[.agg (d.cells pv ov lv hv gv ev fv sv wv)]) (cap:=[]) rfl rfl (stCopy_ok hB hR hd) ?_))))
 rintro w _ ⟨pv,ov,lv,hv,gv,ev,fv,sv,wv,n1,rfl,rfl,g1⟩
 refine WO.r (.build rfl rfl) (WO.a (.box rfl rfl) fun bw=>WO.r (.mv rfl) (WO.nil ?_))
 refine WP.weak (s':=(bw,.r false [d.cells pv ov lv hv gv ev fv sv wv] 25)::(n1++((b4,.r false [zState] 25)::(b3,.r false [evRow (.ofNat k) a b n m it] 13)::(b2,.r false [d.cells _ _ _ _ _ _ _ _ _] 25)::s))) (fun _ _ h=>h) (fun _ _ h=>h) ?_
 refine WP.seq (WP.seq (WP.ops (WO.r (.load rfl (.there (.app (.there .here))) rfl rfl rfl) (WO.w (WS.callF (first:=[]) (vs:=[.agg (evRow (.ofNat k) a b n m it)]) (cap:=[]) rfl rfl (hck _) ?_)))))
 rintro w _ ⟨rfl,rfl⟩
 refine WO.r (.mv rfl) (WO.nil (WP.seq (WP.ops (WO.r (.mv rfl) (WO.r (.eql rfl rfl (eqB_i _ _)) (WO.nil (WP.cond rfl (fun h=>Bool.noConfusion (show false=true from h)) (fun _=>WP.skip ?_))))))))
 refine WP.seq (WP.ops (WO.r (.mv rfl) (WO.r (.faddr rfl) (WO.r (.load rfl (.there (.app (.there .here))) rfl rfl rfl) (WO.w (WS.callF (first:=[]) (vs:=[.ptr (some ⟨bw,0,0⟩),iv (.ofNat k)]) (cap:=[]) rfl rfl hrule ?_))))))
 rintro w _ ⟨m2,rfl,hv1⟩
 obtain⟨p,o,f,fn,rfl,hfn⟩:=hv1.agg
 refine WO.a (.alloc rfl) fun b8=>WO.w (WS.store rfl rfl rfl .here rfl rfl (WO.nil ?_))
 have hW:∀ y,WH bw d ((b8,.r false [[.bool p,.bool o,.bool f,fn]] 4)::(m2++((b4,.r false [zState] 25)::(b3,.r false [evRow (.ofNat k) a b n m it] 13)::(b2,y)::s)))
   ((b8,.r false [[.bool p,.bool o,.bool f,fn]] 4)::(m2++((bw,.r false [d.cells pv ov lv hv gv ev fv sv wv] 25)::(n1++((b4,.r false [zState] 25)::(b3,.r false [evRow (.ofNat k) a b n m it] 13)::(b2,y)::s))))):=fun y=>
  ⟨pv,ov,lv,hv,gv,ev,fv,sv,wv,n1,perm_ct fun c w h0 h1 h2 hq=>by simp only [h1,h2];omega,g1⟩
 refine WP.weak (s':=(b8,.r false [[.bool p,.bool o,.bool f,fn]] 4)::(m2++((bw,.r false [d.cells pv ov lv hv gv ev fv sv wv] 25)::(n1++((b4,.r false [zState] 25)::(b3,.r false [evRow (.ofNat k) a b n m it] 13)::(b2,.r false [d.cells _ _ _ _ _ _ _ _ _] 25)::s))))) (fun _ _ h=>h) (fun _ _ h=>h) ?_
 refine WP.seq (WP.seq (WP.ops (WO.r (.mv rfl) (WO.r (.load rfl (.there (.app (.there (.app (.there .here))))) rfl rfl rfl) (WO.r (.load rfl .here rfl rfl rfl) (WO.w (WS.callF (first:=[]) (vs:=[.ptr (some ⟨bw,0,0⟩),.agg (evRow (.ofNat k) a b n m it),.agg [.bool p,.bool o,.bool f,fn]]) (cap:=[]) rfl rfl (hmay hv1 (hW _)) ?_)))))))
 rintro w s5 ⟨rfl,hW5⟩
 obtain⟨pv,ov,lv,hv,gv,ev,fv,sv,wv,n5,k5,g5⟩:=hW5
 refine WO.r (.mv rfl) (WO.nil (WP.seq (WP.ops (WO.r (.mv rfl) (WO.r (.eql rfl rfl (eqB_i _ _)) (WO.nil (WP.cond rfl (fun h=>Bool.noConfusion (show false=true from h)) (fun _=>WP.skip ?_))))))))
 refine WP.pre k5 ?_
 have hW6:∀ t,WH bw d t ((bw,.r false [d.cells pv ov lv hv gv ev fv sv wv] 25)::(n5++t)):=fun t=>⟨pv,ov,lv,hv,gv,ev,fv,sv,wv,n5,.refl _,g5⟩
 refine WP.seq (WP.ops (WO.r (.faddr rfl) (WO.r (.load rfl (.there (.app .here)) rfl rfl rfl) (WO.r (.load rfl (.there (.app (.there (.app (.there .here))))) rfl rfl rfl) (WO.w (WS.call (fv:=fn) (vs:=[.agg (evRow (.ofNat k) a b n m it)]) rfl rfl (hdo (hv1.mono fun b o hh=>.there (.left hh)) (hW6 _)) ?_))))))
 rintro w s7 hW7
 obtain⟨pv,ov,lv,hv,gv,ev,fv,sv,wv,n7,k7,g7⟩:=hW7
 refine WO.nil (WP.pre k7 ?_)
 refine WP.seq (WP.ops (WO.r (.mv rfl) (WO.r (.nilchk rfl rfl) (WO.r (.faddr rfl) (WO.r (.load rfl .here rfl rfl rfl) (WO.w (WS.store rfl rfl rfl (.there (.app (.there (.app .here)))) rfl rfl (WO.r (.mv rfl) (WO.nil (WP.ret (Fin.mk (.cell rfl hB.t41.1 hB.t41.2 (.inl rfl) (.there (.app (.there (.app .here)))) rfl rfl rfl (.tmp rfl .nil)) ?_)))))))))))
 have fin:∀ y1 y2 y3 y4 y5,StG (y1::(n7++(y2::(m2++[y3,y4,y5])))) pv ov lv hv gv ev fv sv wv d':=fun y1 y2 y3 y4 y5=>
  (g7.junk (m:=y1::y2::(m2++[y3,y4,y5]))).perm (perm_ct fun c w h0 h1 h2 hq=>by simp only [h1,h2,h0];omega)
 exact⟨pv,ov,lv,hv,gv,ev,fv,sv,wv,_,rfl,pullc (pull (pullc (pull pull3))),fin _ _ _ _ _⟩
theorem apWait_ok (hB:Base P K F T) (hI:BaseI P K F T) {a b n m:Int} {it:ID} {d:SD} (hd:d.Small) (he:d.Even) (h1:0≤d.nx∧d.nx≤1000000) (hck:∀ s,Tri P K (F 201) [.agg (evRow 17 a b n m it)] s (fun v s'=>v=iv 0∧s'=s)) :
  Ap P K F 17 a b n m it d { d with nx:=d.nx+1,wa:=d.wa++[{ it with id:=d.nx }] }:=
 apply_gen (k:=17) hB hd hck (ruleO_ok hB (by simp)) (fun {_ _ _ _ v} hv hW=>by
  obtain⟨bx,rfl,_⟩:=(show RDir F _ _ v false false false 276 from hv)
  exact mayN_ok hB hW hd he (k:=17) (by omega) (by omega) (by omega) (by omega)) (fun {_ _ _ _ _ _ _} hv hW=>by
  obtain⟨bx,hv,hx⟩:=(show RDir F _ _ _ false false false 276 from hv)
  cases hv
  exact TriV.func (doWait_ok hB hI hW hx hd h1))
theorem apPush_ok (hB:Base P K F T) (hI:BaseI P K F T) {a b n m:Int} {it:ID} {d:SD} (hd:d.Small) (he:d.Even) (h1:0≤d.nx∧d.nx≤1000000) (hck:∀ s,Tri P K (F 201) [.agg (evRow 15 a b n m it)] s (fun v s'=>v=iv 0∧s'=s)) :
  Ap P K F 15 a b n m it d { d with nx:=d.nx+1,st:=d.st++[{ it with id:=d.nx }] }:=
 apply_gen (k:=15) hB hd hck (ruleO_ok hB (by simp)) (fun {_ _ _ _ v} hv hW=>by
  obtain⟨bx,rfl,_⟩:=(show RDir F _ _ v false false false 274 from hv)
  exact mayN_ok hB hW hd he (k:=15) (by omega) (by omega) (by omega) (by omega)) (fun {_ _ _ _ _ _ _} hv hW=>by
  obtain⟨bx,hv,hx⟩:=(show RDir F _ _ _ false false false 274 from hv)
  cases hv
  exact TriV.func (doPush_ok hB hI hW hx hd h1))
theorem apUnwait_ok (hB:Base P K F T) (hI:BaseI P K F T) {a b n m:Int} {it:ID} {d:SD} (hd:d.Small) (he:d.Even) (hin:(d.wa.findIdx? fun x=>decide (x.id=a)).isSome=true) (hck:∀ s,Tri P K (F 201) [.agg (evRow 18 a b n m it)] s (fun v s'=>v=iv 0∧s'=s)) :
  Ap P K F 18 a b n m it d { d with wa:=d.wa.filter fun y=>!decide (y.id=a) }:=
 apply_gen (k:=18) hB hd hck (ruleO_ok hB (by simp)) (fun {_ _ _ _ v} hv hW=>by
  obtain⟨bx,rfl,_⟩:=(show RDir F _ _ v false false false 279 from hv)
  exact mayUnwait_ok hB hW hd he hin) (fun {_ _ _ _ _ _ _} hv hW=>by
  obtain⟨bx,hv,hx⟩:=(show RDir F _ _ _ false false false 279 from hv)
  cases hv
  exact TriV.func (doUnwait_ok hB hI hW hx hd))
theorem apTurn_ok (hB:Base P K F T) (hT:FnK P K (F 271) 19 [] (a271 F T)) {p:Nat} {b n m:Int} {it:ID} {d:SD} (hd:d.Small) (he:d.Even) (hp:p < d.pl.length) (h1:0≤d.tu∧d.tu≤1000000) (hck:∀ s,Tri P K (F 201) [.agg (evRow 20 (.ofNat p) b n m it)] s (fun v s'=>v=iv 0∧s'=s)) :
  Ap P K F 20 (.ofNat p) b n m it d { d with tu:=d.tu+1,ac:=.ofNat p }:=
 apply_gen (k:=20) hB hd hck (ruleP_ok hB (by simp)) (fun {_ _ _ _ v} hv hW=>by
  have hv:=(show RBnd F _ v true false false 271 from hv)
  subst hv
  exact mayP_ok hB hW hd he (k:=20) (by omega) (by omega) (by omega) (by omega) hp) (fun {_ _ _ _ _ _ _} hv hW=>by
  have hv:=(show RBnd F _ _ true false false 271 from hv)
  cases hv
  exact TriV.func (doTurn_ok hT hW h1))
theorem doEv0_ok (hB:Base P K F T) {bf bl:Nat} {cards draws:AV} {c0 c1 c2 c3 c4:Int} {EL:List (List AV)} {d d':SD} {t:SH} {k a:Int} {b n m:Int} {it:ID} (hs:LogH bl EL d t s) (hd:d.Small) (hf:Has bf (.r false [foldRow bl cards c0 c1 c2 c3 c4 draws] 8) t) (hE:EL.length≤1000)
  (k1:k≠1) (k2:k≠2) (k15:k≠15) (k17:k≠17) (hap:Ap P K F k a b n m it d d') :
  Tri P K (F 15) [.ptr (some ⟨bf,0,0⟩),.agg (evRow k a b n m it)] s (fun v s'=>v=iv 0∧LogH bl (EL++[evRow k a b n m it]) d' t s'):=by
 refine hB.f15.tri (by simp) ?_
 unfold a15
 refine WP.seq (WP.ops (WO.a (.box rfl rfl) fun b3=>WO.r (.mv rfl) (WO.nil ?_)))
 have hs3:LogH bl EL d ((b3,.r false [evRow k a b n m it] 13)::t) ((b3,.r false [evRow k a b n m it] 13)::s):=hs.cons
 refine WP.seq (WP.block (WP.seq (WP.ops (WO.r (.mv rfl) (WO.r (.eql (b:=false) rfl rfl rfl) (WO.r (.mv rfl) (WO.nil (WP.cond rfl (fun h=>by cases h) (fun _=>WP.seq (WP.drawn0 ?_))))))))))
 refine(WD.pu (.faddr rfl) (WD.ld rfl .nil (.load rfl .here rfl rfl rfl) (WD.pu (.eql rfl rfl (eqB_ne k1)) (WD.pu (.mv rfl) (WD.skip rfl rfl rfl (WD.skipc rfl rfl (WD.skip rfl rfl rfl (WD.skip rfl rfl rfl (WD.skip rfl rfl rfl (WD.skip rfl rfl rfl (WD.skip rfl rfl rfl (WD.skip rfl rfl rfl (WD.skip rfl rfl rfl (WD.skip rfl rfl rfl (WD.pu (.pick0 rfl rfl) (WD.pu (.mv rfl) (WD.nil .nil ?_ (fun o h=>nomatch h))))))))))))))))))
 refine WP.cond rfl (fun h=>Bool.noConfusion (show false=true from h)) (fun _=>?_)
 refine WP.seq (WP.drawn0 (WD.pu (.mv rfl) (WD.pu (.nilchk rfl rfl) (WD.pu (.faddr rfl) (WD.ld rfl .nil (.load rfl (hs3.mem (.there hf)) rfl rfl rfl) (WD.ld rfl .nil (.load rfl (hs3.mem .here) rfl rfl rfl) (WD.ch .nil (WS.callF (first:=[]) (vs:=[.agg [.ptr (some ⟨bl,0,0⟩)],.agg (evRow k a b n m it)]) (cap:=[]) rfl rfl (boardAdd_ok hB hs3 hE hap) ?_))))))))
 rintro w s5 ⟨rfl,hs5⟩
 refine WD.pu (.eql rfl rfl (eqB_i _ _)) (WD.pu (.mv rfl) (WD.nil .nil ?_ (fun o h=>nomatch h)))
 refine WP.cond rfl (fun h=>Bool.noConfusion (show false=true from h)) (fun _=>WP.skip ?_)
 refine WP.seq (WP.seq (WP.ops (WO.r (.faddr rfl) (WO.r (.load rfl (hs5.mem .here) rfl rfl rfl) (WO.nil (WP.block ?_))))))
 refine WP.seq (WP.seq (WP.ops (WO.r (.eql rfl rfl (eqB_ne k1)) (WO.r (.mv rfl) (WO.nil ?_)))))
 refine WP.cond rfl (fun h=>Bool.noConfusion (show false=true from h)) (fun _=>WP.seq (WP.ops (WO.r (.eql rfl rfl (eqB_ne k2)) (WO.r (.mv rfl) (WO.nil ?_)))))
 refine WP.cond rfl (fun h=>Bool.noConfusion (show false=true from h)) (fun _=>WP.seq (WP.ops (WO.r (.eql rfl rfl (eqB_ne k15)) (WO.r (.mv rfl) (WO.nil ?_)))))
 refine WP.cond rfl (fun h=>Bool.noConfusion (show false=true from h)) (fun _=>WP.ops (WO.r (.eql rfl rfl (eqB_ne k17)) (WO.r (.mv rfl) (WO.nil ?_))))
 refine WP.cond rfl (fun h=>Bool.noConfusion (show false=true from h)) (fun _=>WP.skip ?_)
 refine WP.seq (WP.ops (WO.r (.mv rfl) (WO.nil (WP.ret (Fin.mk (.tmp rfl .nil) ⟨rfl,hs5.tail⟩)))))
theorem doEvPush_ok (hB:Base P K F T) {bf bl:Nat} {cards draws:AV} {c0 c1 c2 c3 c4:Int} {EL:List (List AV)} {d d':SD} {t:SH} {a:Int} {b n m:Int} {it:ID} (hs:LogH bl EL d t s) (hd:d.Small) (hf:Has bf (.r false [foldRow bl cards c0 c1 c2 c3 c4 draws] 8) t) (hE:EL.length≤1000)
  (hap:Ap P K F 15 a b n m it d d') (hd':d'.Small) (hnx:1≤d'.nx∧d'.nx≤1000000) :
  Tri P K (F 15) [.ptr (some ⟨bf,0,0⟩),.agg (evRow 15 a b n m it)] s (fun v s'=>v=iv (d'.nx - 1)∧LogH bl (EL++[evRow 15 a b n m it]) d' t s'):=by
 refine hB.f15.tri (by simp) ?_
 unfold a15
 refine WP.seq (WP.ops (WO.a (.box rfl rfl) fun b3=>WO.r (.mv rfl) (WO.nil ?_)))
 have hs3:LogH bl EL d ((b3,.r false [evRow 15 a b n m it] 13)::t) ((b3,.r false [evRow 15 a b n m it] 13)::s):=hs.cons
 refine WP.seq (WP.block (WP.seq (WP.ops (WO.r (.mv rfl) (WO.r (.eql (b:=false) rfl rfl rfl) (WO.r (.mv rfl) (WO.nil (WP.cond rfl (fun h=>by cases h) (fun _=>WP.seq (WP.drawn0 ?_))))))))))
 refine(WD.pu (.faddr rfl) (WD.ld rfl .nil (.load rfl .here rfl rfl rfl) (WD.pu (.eql rfl rfl (eqB_i _ _)) (WD.pu (.mv rfl) (WD.skip rfl rfl rfl (WD.skipc rfl rfl (WD.skip rfl rfl rfl (WD.skip rfl rfl rfl (WD.skip rfl rfl rfl (WD.skip rfl rfl rfl (WD.skip rfl rfl rfl (WD.skip rfl rfl rfl (WD.skip rfl rfl rfl (WD.skip rfl rfl rfl (WD.pu (.pick0 rfl rfl) (WD.pu (.mv rfl) (WD.nil .nil ?_ (fun o h=>nomatch h))))))))))))))))))
 refine WP.cond rfl (fun h=>Bool.noConfusion (show false=true from h)) (fun _=>?_)
 refine WP.seq (WP.drawn0 (WD.pu (.mv rfl) (WD.pu (.nilchk rfl rfl) (WD.pu (.faddr rfl) (WD.ld rfl .nil (.load rfl (hs3.mem (.there hf)) rfl rfl rfl) (WD.ld rfl .nil (.load rfl (hs3.mem .here) rfl rfl rfl) (WD.ch .nil (WS.callF (first:=[]) (vs:=[.agg [.ptr (some ⟨bl,0,0⟩)],.agg (evRow 15 a b n m it)]) (cap:=[]) rfl rfl (boardAdd_ok hB hs3 hE hap) ?_))))))))
 rintro w s5 ⟨rfl,hs5⟩
 refine WD.pu (.eql rfl rfl (eqB_i _ _)) (WD.pu (.mv rfl) (WD.nil .nil ?_ (fun o h=>nomatch h)))
 refine WP.cond rfl (fun h=>Bool.noConfusion (show false=true from h)) (fun _=>WP.skip ?_)
 refine WP.seq (WP.seq (WP.ops (WO.r (.faddr rfl) (WO.r (.load rfl (hs5.mem .here) rfl rfl rfl) (WO.nil (WP.block ?_))))))
 refine WP.seq (WP.seq (WP.ops (WO.r (.eql rfl rfl (eqB_i _ _)) (WO.r (.mv rfl) (WO.nil ?_)))))
 refine WP.cond rfl (fun h=>Bool.noConfusion (show false=true from h)) (fun _=>WP.seq (WP.ops (WO.r (.eql rfl rfl (eqB_i _ _)) (WO.r (.mv rfl) (WO.nil ?_)))))
 refine WP.cond rfl (fun h=>Bool.noConfusion (show false=true from h)) (fun _=>WP.seq (WP.ops (WO.r (.eql rfl rfl (eqB_i _ _)) (WO.r (.mv rfl) (WO.nil ?_)))))
 refine WP.cond rfl (fun _=>WP.skip ?_) (fun h=>Bool.noConfusion (show true=false from h))
 refine WP.cond rfl (fun _=>?_) (fun h=>Bool.noConfusion (show true=false from h))
 refine WP.seq (WP.ops (WO.r (.mv rfl) (WO.w (WS.callF (first:=[]) (vs:=[.ptr (some ⟨bf,0,0⟩)]) (cap:=[]) rfl rfl (boardState_ok hB hs5 hd' (.there hf)) ?_))))
 rintro w s6 ⟨hs6,pv,ov,lv,hv,gv,ev,fv,sv,wv,rfl,hR6⟩
 refine WO.r (.fld rfl rfl) (WO.r (.arith rfl rfl (sub_i hnx.1 (by omega))) (WO.r (.mv rfl) (WO.nil (WP.ret (Fin.mk (.tmp rfl .nil) ⟨rfl,hs6.tail⟩)))))
theorem doEvWait_ok (hB:Base P K F T) {bf bl:Nat} {cards draws:AV} {c0 c1 c2 c3 c4:Int} {EL:List (List AV)} {d d':SD} {t:SH} {a:Int} {b n m:Int} {it:ID} (hs:LogH bl EL d t s) (hd:d.Small) (hf:Has bf (.r false [foldRow bl cards c0 c1 c2 c3 c4 draws] 8) t) (hE:EL.length≤1000)
  (hap:Ap P K F 17 a b n m it d d') (hd':d'.Small) (hnx:1≤d'.nx∧d'.nx≤1000000) :
  Tri P K (F 15) [.ptr (some ⟨bf,0,0⟩),.agg (evRow 17 a b n m it)] s (fun v s'=>v=iv (d'.nx - 1)∧LogH bl (EL++[evRow 17 a b n m it]) d' t s'):=by
 refine hB.f15.tri (by simp) ?_
 unfold a15
 refine WP.seq (WP.ops (WO.a (.box rfl rfl) fun b3=>WO.r (.mv rfl) (WO.nil ?_)))
 have hs3:LogH bl EL d ((b3,.r false [evRow 17 a b n m it] 13)::t) ((b3,.r false [evRow 17 a b n m it] 13)::s):=hs.cons
 refine WP.seq (WP.block (WP.seq (WP.ops (WO.r (.mv rfl) (WO.r (.eql (b:=false) rfl rfl rfl) (WO.r (.mv rfl) (WO.nil (WP.cond rfl (fun h=>by cases h) (fun _=>WP.seq (WP.drawn0 ?_))))))))))
 refine(WD.pu (.faddr rfl) (WD.ld rfl .nil (.load rfl .here rfl rfl rfl) (WD.pu (.eql rfl rfl (eqB_i _ _)) (WD.pu (.mv rfl) (WD.skip rfl rfl rfl (WD.skipc rfl rfl (WD.skip rfl rfl rfl (WD.skip rfl rfl rfl (WD.skip rfl rfl rfl (WD.skip rfl rfl rfl (WD.skip rfl rfl rfl (WD.skip rfl rfl rfl (WD.skip rfl rfl rfl (WD.skip rfl rfl rfl (WD.pu (.pick0 rfl rfl) (WD.pu (.mv rfl) (WD.nil .nil ?_ (fun o h=>nomatch h))))))))))))))))))
 refine WP.cond rfl (fun h=>Bool.noConfusion (show false=true from h)) (fun _=>?_)
 refine WP.seq (WP.drawn0 (WD.pu (.mv rfl) (WD.pu (.nilchk rfl rfl) (WD.pu (.faddr rfl) (WD.ld rfl .nil (.load rfl (hs3.mem (.there hf)) rfl rfl rfl) (WD.ld rfl .nil (.load rfl (hs3.mem .here) rfl rfl rfl) (WD.ch .nil (WS.callF (first:=[]) (vs:=[.agg [.ptr (some ⟨bl,0,0⟩)],.agg (evRow 17 a b n m it)]) (cap:=[]) rfl rfl (boardAdd_ok hB hs3 hE hap) ?_))))))))
 rintro w s5 ⟨rfl,hs5⟩
 refine WD.pu (.eql rfl rfl (eqB_i _ _)) (WD.pu (.mv rfl) (WD.nil .nil ?_ (fun o h=>nomatch h)))
 refine WP.cond rfl (fun h=>Bool.noConfusion (show false=true from h)) (fun _=>WP.skip ?_)
 refine WP.seq (WP.seq (WP.ops (WO.r (.faddr rfl) (WO.r (.load rfl (hs5.mem .here) rfl rfl rfl) (WO.nil (WP.block ?_))))))
 refine WP.seq (WP.seq (WP.ops (WO.r (.eql rfl rfl (eqB_i _ _)) (WO.r (.mv rfl) (WO.nil ?_)))))
 refine WP.cond rfl (fun h=>Bool.noConfusion (show false=true from h)) (fun _=>WP.seq (WP.ops (WO.r (.eql rfl rfl (eqB_i _ _)) (WO.r (.mv rfl) (WO.nil ?_)))))
 refine WP.cond rfl (fun h=>Bool.noConfusion (show false=true from h)) (fun _=>WP.seq (WP.ops (WO.r (.eql rfl rfl (eqB_i _ _)) (WO.r (.mv rfl) (WO.nil ?_)))))
 refine WP.cond rfl (fun h=>Bool.noConfusion (show false=true from h)) (fun _=>WP.ops (WO.r (.eql rfl rfl (eqB_i _ _)) (WO.r (.mv rfl) (WO.nil ?_))))
 refine WP.cond rfl (fun _=>?_) (fun h=>Bool.noConfusion (show true=false from h))
 refine WP.seq (WP.ops (WO.r (.mv rfl) (WO.w (WS.callF (first:=[]) (vs:=[.ptr (some ⟨bf,0,0⟩)]) (cap:=[]) rfl rfl (boardState_ok hB hs5 hd' (.there hf)) ?_))))
 rintro w s6 ⟨hs6,pv,ov,lv,hv,gv,ev,fv,sv,wv,rfl,hR6⟩
 refine WO.r (.fld rfl rfl) (WO.r (.arith rfl rfl (sub_i hnx.1 (by omega))) (WO.r (.mv rfl) (WO.nil (WP.ret (Fin.mk (.tmp rfl .nil) ⟨rfl,hs6.tail⟩)))))
end
end Go.Ev
namespace Go.Ev
structure BMeth (P:Program) (F:Nat->FuncId) (tF:TypeId):Prop where
 do_:meth P tF "Do"=some (F 15)
 waits:meth P tF "Waits"=some (F 20)
 stack:meth P tF "Stack"=some (F 21)
 info:meth P tF "Info"=some (F 58)
 config:meth P tF "Config"=some (F 345)
 players:meth P tF "Players"=some (F 347)
@[reducible] def infoRow (d:SD):List AV:=[iv d.tu,iv d.ac,iv d.ph,iv d.pr,iv d.pa,iv d.bl,iv d.ck,iv d.co,iv d.ca,nilS,.bool d.py,iv d.oc,iv d.wi]
section
variable {P:Program} {K:Orc} {rd:Option Nat} {nt:Nat} {l:Sl} {ds:List ADef} {s:SH} {Q Qn Qr:Po} {Qe:Nat->Po} {F:Nat->FuncId} {T:Nat->TypeId} {bf bl:Nat} {cards draws:AV} {c0 c1 c2 c3 c4:Int} {EL:List (List AV)} {d:SD} {t:SH}
theorem WO.pre {ol:List AOper} {s':SH} (hp:s.Perm s') (h:WO P K ol l ds s' Q):WO P K ol l ds s Q:=
 fun nt ops l0 h0 H0 e H he hH=>h nt ops l0 h0 H0 e H he (hH.perm hp)
theorem waits_ok (hB:Base P K F T) (hG:BaseB P K F T) (hs:LogH bl EL d t s) (hd:d.Small) (hf:Has bf (.r false [foldRow bl cards c0 c1 c2 c3 c4 draws] 8) t) :
  Tri P K (F 20) [.ptr (some ⟨bf,0,0⟩)] s (fun v s'=>LogH bl EL d t s'∧Src s' 7 v (idR d.wa)):=by
 refine hG.f20.tri (by simp) ?_
 unfold a20
 refine WP.seq (WP.ops (WO.r (.mv rfl) (WO.nil ?_)))
 refine WP.seq (WP.ops (WO.r (.mv rfl) (WO.w (WS.callF (first:=[]) (vs:=[.ptr (some ⟨bf,0,0⟩)]) (cap:=[]) rfl rfl (boardState_ok hB hs hd hf) ?_))))
 rintro w s2 ⟨hs2,pv,ov,lv,hv,gv,ev,fv,sv,wv,rfl,hR⟩
 exact WO.r (.fld rfl rfl) (WO.r (.mv rfl) (WO.nil (WP.ret (Fin.mk (.tmp rfl .nil) ⟨hs2,hR.wa⟩))))
theorem stack_ok (hB:Base P K F T) (hG:BaseB P K F T) (hs:LogH bl EL d t s) (hd:d.Small) (hf:Has bf (.r false [foldRow bl cards c0 c1 c2 c3 c4 draws] 8) t) :
  Tri P K (F 21) [.ptr (some ⟨bf,0,0⟩)] s (fun v s'=>LogH bl EL d t s'∧Src s' 7 v (idR d.st)):=by
 refine hG.f21.tri (by simp) ?_
 unfold a21
 refine WP.seq (WP.ops (WO.r (.mv rfl) (WO.nil ?_)))
 refine WP.seq (WP.ops (WO.r (.mv rfl) (WO.w (WS.callF (first:=[]) (vs:=[.ptr (some ⟨bf,0,0⟩)]) (cap:=[]) rfl rfl (boardState_ok hB hs hd hf) ?_))))
 rintro w s2 ⟨hs2,pv,ov,lv,hv,gv,ev,fv,sv,wv,rfl,hR⟩
 exact WO.r (.fld rfl rfl) (WO.r (.mv rfl) (WO.nil (WP.ret (Fin.mk (.tmp rfl .nil) ⟨hs2,hR.st⟩))))
theorem players_ok (hB:Base P K F T) (hG:BaseB P K F T) (hs:LogH bl EL d t s) (hd:d.Small) (hf:Has bf (.r false [foldRow bl cards c0 c1 c2 c3 c4 draws] 8) t) :
  Tri P K (F 347) [.ptr (some ⟨bf,0,0⟩)] s (fun v s'=>v=iv (.ofNat d.pl.length)∧LogH bl EL d t s'):=by
 refine hG.f347.tri (by simp) ?_
 unfold a347
 refine WP.seq (WP.ops (WO.r (.mv rfl) (WO.nil ?_)))
 refine WP.seq (WP.ops (WO.r (.mv rfl) (WO.w (WS.callF (first:=[]) (vs:=[.ptr (some ⟨bf,0,0⟩)]) (cap:=[]) rfl rfl (boardState_ok hB hs hd hf) ?_))))
 rintro w s2 ⟨hs2,pv,ov,lv,hv,gv,ev,fv,sv,wv,rfl,hR⟩
 have lp:lenOf pv=some d.pl.length:=by rw [hR.pl.lenOf];simp [plR]
 exact WO.r (.fld rfl rfl) (WO.r (.lenS rfl lp) (WO.r (.mv rfl) (WO.nil (WP.ret (Fin.mk (.tmp rfl .nil) ⟨rfl,hs2⟩)))))
theorem info_ok (hB:Base P K F T) (hG:BaseB P K F T) (ht:Ty P (T 128) 13) (hs:LogH bl EL d t s) (hd:d.Small) (hf:Has bf (.r false [foldRow bl cards c0 c1 c2 c3 c4 draws] 8) t) :
  Tri P K (F 58) [.ptr (some ⟨bf,0,0⟩)] s (fun v s'=>v=.agg (infoRow d)∧LogH bl EL d t s'):=by
 refine hG.f58.tri (by simp) ?_
 unfold a58
 refine WP.seq (WP.ops (WO.a (.alloc rfl) fun b2=>WO.nil ?_))
 refine WP.seq (WP.ops (WO.r (.mv rfl) (WO.w (WS.callF (first:=[]) (vs:=[.ptr (some ⟨bf,0,0⟩)]) (cap:=[]) rfl rfl (boardState_ok hB hs.cons hd (.there hf)) ?_))))
 rintro w s2 ⟨hs2,pv,ov,lv,hv,gv,ev,fv,sv,wv,rfl,hR⟩
 obtain⟨s3,hp,hs3⟩:=hs2.first
 refine WO.pre hp (WO.a (.alloc rfl) fun b3=>WO.w (WS.store rfl rfl rfl .here rfl rfl (WO.nil ?_)))
 refine WP.seq (WP.ops (WO.r (.faddr rfl) (WO.r (.load rfl .here rfl rfl rfl) (WO.r (.faddr rfl) (WO.r (.load rfl .here rfl rfl rfl) (WO.r (.faddr rfl) (WO.r (.load rfl .here rfl rfl rfl) (WO.r (.faddr rfl) (WO.r (.load rfl .here rfl rfl rfl) (WO.r (.faddr rfl) (WO.r (.load rfl .here rfl rfl rfl) (WO.r (.faddr rfl) (WO.r (.load rfl .here rfl rfl rfl) (WO.r (.faddr rfl) (WO.r (.load rfl .here rfl rfl rfl) (WO.r (.faddr rfl) (WO.r (.load rfl .here rfl rfl rfl) (WO.r (.faddr rfl) (WO.r (.load rfl .here rfl rfl rfl) (WO.r (.build rfl rfl) (WO.w (WS.store rfl rfl rfl (.there .here) rfl rfl (WO.nil (WP.ret (Fin.mk (.cell rfl ht.1 ht.2 (.inl rfl) (.there .here) rfl rfl rfl .nil) ?_)))))))))))))))))))))))))
 exact⟨rfl,LogH.junk (m:=[_,_]) hs3⟩
theorem config_ok (hG:BaseB P K F T) (ht:Ty P (T 24) 5) (hf:Has bf (.r false [foldRow bl cards c0 c1 c2 c3 c4 draws] 8) s) :
  Tri P K (F 345) [.ptr (some ⟨bf,0,0⟩)] s (fun v s'=>v=.agg [iv c0,iv c1,iv c2,iv c3,iv c4]∧∃ m,s'=m++s):=by
 refine hG.f345.tri (by simp) ?_
 unfold a345
 refine WP.seq (WP.ops (WO.a (.alloc rfl) fun b2=>WO.nil ?_))
 refine WP.seq (WP.seq (WP.ops (WO.r (.mv rfl) (WO.r (.eql (b:=false) rfl rfl rfl) (WO.nil (WP.cond rfl (fun h=>by cases h) (fun _=>WP.skip ?_)))))))
 refine WP.seq (WP.ops (WO.r (.mv rfl) (WO.r (.nilchk rfl rfl) (WO.r (.faddr rfl) (WO.r (.load rfl (.there hf) rfl rfl rfl) (WO.w (WS.store rfl rfl rfl .here rfl rfl (WO.nil (WP.ret (Fin.mk (.cell rfl ht.1 ht.2 (.inl rfl) .here rfl rfl rfl .nil) ?_))))))))))
 exact⟨rfl,[_],rfl⟩
theorem over_ok (hB:Base P K F T) (hG:BaseB P K F T) (hS:BaseS P K F T) (ht:Ty P (T 128) 13) {tF:TypeId} (hM:BMeth P F tF) (hs:LogH bl EL d t s) (hd:d.Small) (hf:Has bf (.r false [foldRow bl cards c0 c1 c2 c3 c4 draws] 8) t) :
  Tri P K (F 61) [.agg [.iface tF (.ptr (some ⟨bf,0,0⟩))]] s (fun v s'=>v=.bool (!decide (d.oc=0))∧LogH bl EL d t s'):=by
 refine hS.f61.tri (by simp) ?_
 unfold a61
 refine WP.seq (WP.ops (WO.a (.box rfl rfl) fun b1=>WO.r (.mv rfl) (WO.nil ?_)))
 refine WP.seq (WP.ops (WO.r (.faddr rfl) (WO.r (.load rfl .here rfl rfl rfl) (WO.w (WS.invoke (vs:=[]) rfl hM.info rfl (info_ok hB hG ht hs.cons hd (.there hf)) ?_)))))
 rintro w s2 ⟨rfl,hs2⟩
 exact WO.r (.fld rfl rfl) (WO.r (.eql rfl rfl (eqB_i _ _)) (WO.r (.mv rfl) (WO.nil (WP.ret (Fin.mk (.tmp rfl .nil) ⟨rfl,hs2.tail⟩)))))
theorem gdo_ok (hS:BaseS P K F T) {tF:TypeId} (hM:BMeth P F tF) {k a b:Int} {R:SH->Prop} (h:∀ b4,Tri P K (F 15) [.ptr (some ⟨bf,0,0⟩),.agg (evRow k a b 0 0 it0)] ((b4,.r false [[.iface tF (.ptr (some ⟨bf,0,0⟩))]] 1)::s) (fun _ s'=>R s')) :
  Tri P K (F 66) [.agg [.iface tF (.ptr (some ⟨bf,0,0⟩))],iv k,iv a,iv b] s (fun _ s'=>R s'):=by
 refine hS.f66.tri (by simp) ?_
 unfold a66
 refine WP.seq (WP.ops (WO.a (.box rfl rfl) fun b4=>WO.nil ?_))
 refine WP.ops (WO.r (.faddr rfl) (WO.r (.load rfl .here rfl rfl rfl) (WO.r (.mv rfl) (WO.r (.mv rfl) (WO.r (.mv rfl) (WO.r (.build rfl rfl) (WO.w (WS.invoke (vs:=[.agg (evRow k a b 0 0 it0)]) rfl hM.do_ rfl (h b4) ?_))))))))
 intro w s2 hR
 exact WO.nil (Fin.mk .nil hR)
theorem notHis_ok (hS:BaseS P K F T) {o:ID} {p:Int} {b:Nat} {ro:Bool} (hb:Has b (.r ro [[iv p]] 1) s):Tri P K (F 65) [.agg o.row,.ptr (some ⟨b,0,0⟩)] s (fun w s'=>w=.bool (!decide (o.ctrl=p))∧∃ m,s'=m++s):=by
 refine hS.f65.tri (by simp) ?_
 unfold a65
 refine WP.seq (WP.ops (WO.a (.box rfl rfl) fun b1=>WO.r (.mv rfl) (WO.nil ?_)))
 refine WP.seq (WP.ops (WO.r (.faddr rfl) (WO.r (.load rfl .here rfl rfl rfl) (WO.r (.load rfl (.there hb) rfl rfl rfl) (WO.r (.eql rfl rfl (eqB_i _ _)) (WO.r (.mv rfl) (WO.nil (WP.ret (Fin.mk (.tmp rfl .nil) ?_)))))))))
 exact⟨rfl,[_],rfl⟩
theorem round_ok2 (hS:BaseS P K F T) {fr n:Int}:Tri P K (F 62) [iv fr,iv n] s (fun w s'=>∃ b2 b3,w=.func (F 112) [] [.ptr (some ⟨b3,0,0⟩),.ptr (some ⟨b2,0,0⟩)]∧s'=(b3,.r false [[iv n]] 1)::(b2,.r false [[iv fr]] 1)::s):=by
 refine hS.f62.tri (by simp) ?_
 unfold a62
 refine WP.seq (WP.ops (WO.a (.box rfl rfl) fun b2=>WO.a (.box rfl rfl) fun b3=>WO.r (.mv rfl) (WO.nil ?_)))
 exact WP.seq (WP.ops (WO.r (.mkfn rfl rfl) (WO.r (.mv rfl) (WO.nil (WP.ret (Fin.mk (.tmp rfl .nil) ⟨b2,b3,rfl,rfl⟩))))))
theorem roundAll_ok (hS:BaseS P K F T) {y:AV} {fr n b2 b3:Nat} (hn:0 < n) (hn1:n≤1000) (hf1:fr≤1000) (I:Nat->SH->Prop) (hb:∀ i s,I i s->Has b3 (.r false [[iv (.ofNat n)]] 1) s∧Has b2 (.r false [[iv (.ofNat fr)]] 1) s)
  (hy:∀ i s,i < n->I i s->TriV P K y [iv (.ofNat ((fr+i) % n))] s (fun v s'=>v=.bool true∧I (i+1) s')) (h0:I 0 s):Tri P K (F 112) [y,.ptr (some ⟨b3,0,0⟩),.ptr (some ⟨b2,0,0⟩)] s (fun _ s'=>I n s'):=by
 refine hS.f112.tri (by simp) ?_
 unfold a112
 refine WP.seq (WP.ops (WO.r (.load rfl (hb 0 _ h0).1 rfl rfl rfl) (WO.r (.mv rfl) (WO.nil (WP.block ?_)))))
 refine WP.loop (fun k l ds s'=>ds=[]∧∃ q,k=n - q∧q≤n∧I q s'∧∀ j w,lk [(0,y),(1,.ptr (some ⟨b3,0,0⟩)),(2,.ptr (some ⟨b2,0,0⟩)),(5,iv (.ofNat n)),(6,iv (.ofNat q))] j=some w->lk l j=some w) ?_ (n:=n - 0) ⟨rfl,0,rfl,Nat.zero_le _,h0,sub_cons rfl (sub_cons rfl (sub_cons rfl (sub_cons rfl (sub_cons rfl sub_nil))))⟩
 rintro k l ds s' ⟨rfl,q,rfl,hq,hI,hl⟩
 refine WP.weak hl (fun _ _ h=>h) ?_
 refine WP.seq (WP.ops (WO.r (.arith rfl rfl rfl) (WO.nil (WP.seq (WP.cond rfl (fun ht=>?_) (fun ht=>?_))))))
 ·have hlt:q < n:=blt_iff.1 ht
  refine WP.skip (WP.seq (WP.block (WP.seq (WP.ops (WO.r (.mv rfl) (WO.r (.mv rfl) (WO.nil ?_)))))))
  refine WP.seq (WP.ops (WO.r (.mv rfl) (WO.r (.load rfl (hb q _ hI).2 rfl rfl rfl) (WO.r (.mv rfl) (WO.r (.arith rfl rfl (add_n (by omega))) (WO.r (.load rfl (hb q _ hI).1 rfl rfl rfl) (WO.r (.arith rfl rfl (rem_i hn)) (WO.w (WS.call (vs:=[iv (.ofNat ((fr+q) % n))]) rfl rfl (hy q _ hlt hI) ?_)))))))))
  rintro w s2 ⟨rfl,hI2⟩
  refine WO.r (.un rfl rfl) (WO.nil (WP.cond rfl (fun h=>Bool.noConfusion (show false=true from h)) (fun _=>WP.skip ?_)))
  refine WP.ops (WO.r (.arith rfl rfl (add_n (by omega))) (WO.r (.mv rfl) (WO.nil ?_)))
  exact⟨n - (q+1),by omega,rfl,q+1,rfl,hlt,hI2,sub_cons rfl (sub_cons rfl (sub_cons rfl (sub_cons rfl (sub_cons rfl sub_nil))))⟩
 ·refine WP.exit ?_
  have:q=n:=by
   have:¬ q < n:=fun h=>by rw [ilt_blt,show Nat.blt q n=true from blt_iff.2 h] at ht;cases ht
   omega
  subst this
  exact Fin.mk .nil hI
end
end Go.Ev
namespace Go.Ev
structure ItOk (x:ID) (nx:Int):Prop where
 kind:x.kind=3
 obj:x.obj=0
 abil:x.abil=0
 ctrl:0≤x.ctrl∧x.ctrl≤2
 card:0≤x.card∧x.card≤7
 id:1≤x.id∧x.id < nx
structure SaysS (P:Program) (K:Orc) (F:Nat->FuncId):Prop where
 cT:∀ p:Nat,p < 3->∀ s,Tri P K (F 201) [.agg (evRow 20 (.ofNat p) 0 0 0 it0)] s (fun v s'=>v=iv 0∧s'=s)
 cW:∀ c k:Int,0≤c∧c≤2->0≤k∧k≤7->∀ s,Tri P K (F 201) [.agg (evRow 17 0 0 0 0 ⟨0,3,c,0,k,0⟩)] s (fun v s'=>v=iv 0∧s'=s)
 cU:∀ a:Int,1≤a∧a≤1000000->∀ s,Tri P K (F 201) [.agg (evRow 18 a 0 0 0 it0)] s (fun v s'=>v=iv 0∧s'=s)
 cP:∀ c k:Int,0≤c∧c≤2->0≤k∧k≤7->∀ s,Tri P K (F 201) [.agg (evRow 15 0 0 0 0 ⟨0,3,c,0,k,0⟩)] s (fun v s'=>v=iv 0∧s'=s)
structure SBI (d:SD):Prop where
 pl:d.pl.length=3
 ev:d.Even
 ob:d.ob.length≤100
 fi:d.fi.length≤100
 ls:∀ LL,(LL=d.lb∨LL=d.hd∨LL=d.gr∨LL=d.ex)->LL.length≤1000∧∀ lst∈LL,lst.length≤1000
 wa:∀ x∈d.wa,ItOk x d.nx
 nd:(d.wa.map ID.id).Nodup
 len:d.st.length+d.wa.length≤8
 nx:1≤d.nx∧d.nx+d.wa.length≤900
 oc:d.oc=0
theorem SBI.small {d:SD} (h:SBI d):d.Small:=⟨⟨by rw [h.pl];omega,by have:=h.ob;omega,by have:=h.fi;omega,by have:=h.len;omega,by have:=h.len;omega⟩,h.ls⟩
def mvI (d:SD) (x:ID):SD:={ d with wa:=d.wa.filter (fun y=>!decide (y.id=x.id)),nx:=d.nx+1,st:=d.st++[{ x with id:=d.nx }] }
theorem filter_lt {α:Type} (p:α->Bool):∀ (l:List α) (x:α),x∈l->p x=false->(l.filter p).length+1≤l.length:=by
 intro l
 induction l with
 | nil=>intro x hx;cases hx
 | cons a l ih=>
  intro x hx hp
  cases hx with
  | head=>
   rw [List.filter_cons,hp]
   have:=List.length_filter_le p l
   simp only [List.length_cons,Bool.false_eq_true,if_false]
   omega
  | tail _ hx=>
   have:=ih x hx hp
   rw [List.filter_cons]
   split <;> simp only [List.length_cons] <;> omega
theorem SBI.mv {d:SD} (h:SBI d) {x:ID} (hx:x∈d.wa):SBI (mvI d x):=by
 have hl:=filter_lt (fun y:ID=>!decide (y.id=x.id)) d.wa x hx (by simp)
 have hlen:=h.len
 have hnx:=h.nx
 refine⟨h.pl,⟨h.ev.lb,h.ev.hd,h.ev.gr,h.ev.ex⟩,h.ob,h.fi,h.ls,fun y hy=>?_,?_,?_,?_,h.oc⟩
 ·have hy':y∈d.wa:=(List.mem_filter.1 hy).1
  have:=h.wa y hy'
  exact⟨this.kind,this.obj,this.abil,this.ctrl,this.card,this.id.1,by have:=this.id.2;show y.id < d.nx+1;omega⟩
 ·exact List.Nodup.sublist (List.Sublist.map _ List.filter_sublist) h.nd
 ·show (d.st++[_]).length+(d.wa.filter _).length≤8
  rw [List.length_append,List.length_singleton]
  omega
 ·refine⟨by show 1≤d.nx+1;omega,?_⟩
  show d.nx+1+((d.wa.filter (fun y:ID=>!decide (y.id=x.id))).length:Int)≤900
  omega
theorem mvI_mem {d:SD} {x y:ID} (hy:y∈d.wa) (hne:y.id≠x.id):y∈(mvI d x).wa:=List.mem_filter.2 ⟨hy,by simp [hne]⟩
theorem find_some {d:SD} {x:ID} (hx:x∈d.wa):(d.wa.findIdx? fun y=>decide (y.id=x.id)).isSome=true:=by
 rw [List.findIdx?_isSome]
 exact List.any_eq_true.2 ⟨x,hx,by simp⟩
section
variable {P:Program} {K:Orc} {rd:Option Nat} {nt:Nat} {l:Sl} {ds:List ADef} {s:SH} {Q Qn Qr:Po} {Qe:Nat->Po} {F:Nat->FuncId} {T:Nat->TypeId} {bf bl:Nat} {cards draws:AV} {c0 c2 c3 c4:Int} {EL:List (List AV)} {d:SD} {t:SH}
theorem LogH.addl {x:SH} (h:LogH bl EL d t s):LogH bl EL d (x++t) (x++s):=by
 obtain⟨sc,lv,pv,ov,lv',hv,gv,ev,fv,sv,wv,oL,nn,k1,k2,k3,k4⟩:=h
 exact⟨sc,lv,pv,ov,lv',hv,gv,ev,fv,sv,wv,oL,nn,perm_ct fun c w h0 h1 h2 hq=>by simp only [h1,h2,hq _ _ k1];omega,k2,k3,k4⟩
def a19I (F:Nat->FuncId):AC:=(.seq (.ops [⟨(some 39),(.arith .lss (.tmp 38) (.tmp 37)),none⟩]) (.seq (.cond (.tmp 39) .skip (.exit 2)) (.seq (.block 3 (.seq (.ops [⟨(some 40),(.iaddrS 7 (.tmp 36) (.tmp 38)),none⟩,⟨(some 41),(.load true 7 (.tmp 40)),none⟩,⟨(some 7),(.alloc 7 zItem),none⟩,⟨none,(.store 7 (.tmp 7) (.tmp 41)),none⟩]) (.seq (.seq (.drawn 0 [⟨⟨(some 42),(.faddr 0 (.tmp 3)),none⟩,.pure,0,0,0⟩,⟨⟨(some 43),(.load false 1 (.tmp 42)),none⟩,.read,0,0,1⟩,⟨⟨(some 44),(.invoke (.tmp 43) "Stack" []),none⟩,.chain,0,0,3⟩,⟨⟨(some 45),(.lenS (.tmp 44)),none⟩,.pure,0,0,7⟩,⟨⟨(some 46),(.faddr 0 (.tmp 3)),none⟩,.pure,0,0,0⟩,⟨⟨(some 47),(.load false 1 (.tmp 46)),none⟩,.read,0,1,16⟩,⟨⟨(some 48),(.invoke (.tmp 47) "Config" []),none⟩,.chain,0,0,55⟩,⟨⟨(some 49),(.fld 1 1 false (.tmp 48)),none⟩,.pure,0,0,119⟩,⟨⟨(some 50),(.arith .geq (.tmp 45) (.tmp 49)),none⟩,.pure,0,0,255⟩]) (.cond (.tmp 50) (.seq (.ops [⟨(some 51),(.load true 1 (.tmp 3)),none⟩,⟨(some 52),(.call (.func (F 66)) [(.tmp 51),(.const (.int .i64 (.ofNat 29))),(.const (.int .i64 (.ofNat 3))),(.const (.int .i64 (.ofNat 0)))]),none⟩]) (.seq (.ops [⟨none,(.store 1 (.tmp 2) (.const (.bool true))),none⟩]) .ret)) .skip)) (.seq (.ops [⟨(some 53),(.load true 1 (.tmp 3)),none⟩,⟨(some 54),(.faddr 0 (.tmp 7)),none⟩,⟨(some 55),(.load false 1 (.tmp 54)),none⟩,⟨(some 56),(.call (.func (F 66)) [(.tmp 53),(.const (.int .i64 (.ofNat 18))),(.tmp 55),(.const (.int .i64 (.ofNat 0)))]),none⟩]) (.seq (.ops [⟨(some 57),(.faddr 0 (.tmp 7)),none⟩,⟨none,(.store 1 (.tmp 57) (.const (.int .i64 (.ofNat 0)))),none⟩]) (.ops [⟨(some 58),(.faddr 0 (.tmp 3)),none⟩,⟨(some 59),(.load false 1 (.tmp 58)),none⟩,⟨(some 60),(.load true 7 (.tmp 7)),none⟩,⟨(some 61),(.build zEvent [⟨0,⟨1,(.const (.int .i64 (.ofNat 15)))⟩⟩,⟨6,⟨7,(.tmp 60)⟩⟩]),none⟩,⟨(some 62),(.invoke (.tmp 59) "Do" [(.tmp 61)]),none⟩])))))) (.ops [⟨(some 63),(.arith .add (.tmp 38) (.const (.int .i64 (.ofNat 1)))),none⟩,⟨(some 38),(.mv (.tmp 63)),none⟩]))))
@[reducible] def ownC (b2 b3:Nat) (v:AV) (n q:Nat):Sl:=[(2,.ptr (some ⟨b2,0,0⟩)),(3,.ptr (some ⟨b3,0,0⟩)),(36,v),(37,iv (.ofNat n)),(38,iv (.ofNat q))]
theorem geq_lt {a b:Int} (h:a < b):binV .geq (iv a) (iv b)=some (.bool false):=by
 show some (AV.bool (!ilt a b))=_
 rw [ilt_eq];simp [h]
theorem own_ok (hB:Base P K F T) (hI:BaseI P K F T) (hG:BaseB P K F T) (hS:BaseS P K F T) (ht24:Ty P (T 24) 5) {tF:TypeId} (hM:BMeth P F tF) (hc:SaysS P K F) {b2 b3:Nat} {own:List ID} {v:AV} (hs:LogH bl EL d t s) (hd:SBI d)
  (hf:Has bf (.r false [foldRow bl cards c0 8 c2 c3 c4 draws] 8) t) (hg:Has b3 (.r false [[.iface tF (.ptr (some ⟨bf,0,0⟩))]] 1) t) (hv:Src t 7 v (idR own)) (hown:∀ x∈own,x∈d.wa) (hnd:(own.map ID.id).Nodup) (hE:EL.length+2 * own.length≤900)
  (hl:∀ j w,lk (ownC b2 b3 v own.length 0) j=some w->lk l j=some w)
  (hQ:∀ (EL':List (List AV)) (s':SH) (l':Sl),LogH bl EL' (own.foldl mvI d) t s'->EL'.length=EL.length+2 * own.length->SBI (own.foldl mvI d)->Qn l' [] s') :
  WP P K rd 64 (.block 2 (.loop (a19I F))) l [] s Qn Qe Qr:=by
 refine WP.block ?_
 refine WP.loop (fun k l ds s'=>ds=[]∧∃ q EL',k=own.length - q∧q≤own.length∧LogH bl EL' ((own.take q).foldl mvI d) t s'∧EL'.length=EL.length+2 * q∧SBI ((own.take q).foldl mvI d)∧(∀ x∈own.drop q,x∈((own.take q).foldl mvI d).wa)∧∀ j w,lk (ownC b2 b3 v own.length q) j=some w->lk l j=some w) ?_ (n:=own.length - 0) ⟨rfl,0,EL,rfl,Nat.zero_le _,hs,rfl,hd,hown,hl⟩
 rintro k l ds s' ⟨rfl,q,EL',rfl,hq,hL,hEL,hSI,hrest,hl⟩
 refine WP.weak hl (fun _ _ h=>h) ?_
 unfold a19I
 refine WP.seq (WP.ops (WO.r (.arith rfl rfl rfl) (WO.nil (WP.seq (WP.cond rfl (fun ht=>?_) (fun ht=>?_))))))
 ·have hlt:q < own.length:=blt_iff.1 ht
  generalize hD:(own.take q).foldl mvI d=D at hL hSI hrest
  have hsrc:Src s' 7 v (idR own):=hv.mono fun p hp=>(hL.mem (.of_mem hp)).mem
  obtain⟨bq,rq,nq,cq,sq,roq,Mq,rfl,hbq,hnq,hMq⟩:=hsrc.at (i:=q) (by simpa [idR] using hlt)
  have hrow:(idR own)[q]?=some (own[q]).row:=by rw [idR,List.getElem?_map,List.getElem?_eq_getElem hlt];rfl
  have hxw:own[q]∈D.wa:=hrest _ (by rw [List.drop_eq_getElem_cons hlt];exact List.mem_cons_self ..)
  have hxok:=hSI.wa _ hxw
  have hnext:mvI D own[q]=(own.take (q+1)).foldl mvI d:=by rw [List.take_add_one,List.getElem?_eq_getElem hlt,List.foldl_append,hD];rfl
  have hrest2:∀ x∈own.drop (q+1),x∈(mvI D own[q]).wa:=by
   intro y hy
   have h1:y∈own.drop q:=by rw [List.drop_eq_getElem_cons hlt];exact List.mem_cons_of_mem _ hy
   refine mvI_mem (hrest y h1) ?_
   have h2:((own.drop q).map ID.id).Nodup:=hnd.sublist ((List.drop_sublist q own).map _)
   rw [List.drop_eq_getElem_cons hlt,List.map_cons,List.nodup_cons] at h2
   intro e
   exact h2.1 (e ▸ List.mem_map_of_mem hy)
  generalize own[q]=x at *
  have hSI2:=hSI.mv hxw
  have hsm:=hSI.small
  have hsm2:=hSI2.small
  have hnx:=hSI.nx
  have hlen:=hSI.len
  have hwpos:0 < D.wa.length:=List.length_pos_of_mem hxw
  have hid:=hxok.id
  have hE2:EL'.length≤898:=by omega
  refine WP.skip (WP.seq (WP.block (WP.seq (WP.ops (WO.r (.iaddrS rfl rfl hnq (by omega)) (WO.r (.load rfl hbq (hMq.trans hrow) rfl rfl) (WO.a (.alloc rfl) fun b7=>WO.w (WS.store rfl rfl rfl .here rfl rfl (WO.nil ?_)))))))))
  have hs7:LogH bl EL' D ((b7,.r false [x.row] 7)::t) ((b7,.r false [x.row] 7)::s'):=hL.cons
  -- is there room
  refine WP.seq (WP.seq (WP.drawn0 (WD.pu (.faddr rfl) (WD.ld rfl .nil (.load rfl (hs7.mem (.there hg)) rfl rfl rfl) (WD.ch .nil (WS.invoke (vs:=[]) rfl hM.stack rfl (stack_ok hB hG hs7 hsm (.there hf)) ?_))))))
  rintro w s8 ⟨hs8,hst⟩
  have lst:lenOf w=some D.st.length:=by rw [hst.lenOf];simp [idR]
  refine WD.pu (.lenS rfl lst) (WD.pu (.faddr rfl) (WD.lk rfl .nil (.load rfl (hs8.mem (.there hg)) rfl rfl rfl) (WD.ch .nil (WS.invoke (vs:=[]) rfl hM.config rfl (config_ok hG ht24 (hs8.mem (.there hf))) ?_))))
  rintro w2 _ ⟨rfl,m9,rfl⟩
  have hs9:LogH bl EL' D ((b7,.r false [x.row] 7)::t) (m9++s8):=hs8.junk
  refine WD.pu (.fld rfl rfl) (WD.pu (.arith rfl rfl (geq_lt (by show (D.st.length:Int) < 8;omega))) (WD.nil .nil ?_ ?_))
  rotate_left
  ·intro o ho
   rw [List.mem_singleton.1 ho]
   refine⟨(fun i hi=>nomatch hi),Nat.zero_le _,(by simp [sameV,sameN,same0]),fun k _ hk=>?_⟩
   rcases(by have:k≤1:=hk;omega:k=0∨k=1) with rfl|rfl
   ·exact⟨_,rfl,.load rfl (hs7.mem (.there hg)) rfl rfl rfl⟩
   ·exact⟨_,rfl,.load rfl (hs8.mem (.there hg)) rfl rfl rfl⟩
  refine WP.cond rfl (fun h=>by cases h) (fun _=>WP.skip ?_)
  -- it waits no more
  have apU:Ap P K F 18 x.id 0 0 0 it0 D { D with wa:=D.wa.filter fun y=>!decide (y.id=x.id) }:=apUnwait_ok hB hI (a:=x.id) (b:=0) (n:=0) (m:=0) (it:=it0) hsm hSI.ev (find_some hxw) (hc.cU x.id ⟨hid.1,by omega⟩)
  have hsm1:({ D with wa:=D.wa.filter fun y=>!decide (y.id=x.id) }:SD).Small:=⟨⟨hsm.n1.1,hsm.n1.2.1,hsm.n1.2.2.1,hsm.n1.2.2.2.1,Nat.le_trans (List.length_filter_le _ _) hsm.n1.2.2.2.2⟩,hsm.n2⟩
  refine WP.seq (WP.ops (WO.r (.load rfl (hs9.mem (.there hg)) rfl rfl rfl) (WO.r (.faddr rfl) (WO.r (.load rfl (hs9.mem .here) rfl rfl rfl) (WO.w (WS.callF (first:=[]) (vs:=[.agg [.iface tF (.ptr (some ⟨bf,0,0⟩))],iv 18,iv x.id,iv 0]) (cap:=[]) rfl rfl (gdo_ok hS hM (R:=fun s'=>LogH bl (EL'++[evRow 18 x.id 0 0 0 it0]) { D with wa:=D.wa.filter fun y=>!decide (y.id=x.id) } ((b7,.r false [x.row] 7)::t) s') fun b4=>(doEv0_ok hB hs9.cons hsm (.there (.there hf)) (by omega) (by omega) (by omega) (by omega) (by omega) apU).post fun v s' h=>h.2.tail) ?_))))))
  intro w3 s10 hs10
  refine WO.nil ?_
  -- it goes onto the stack
  obtain⟨s11,hp11,hs11⟩:=hs10.first
  refine WP.pre hp11 (WP.seq (WP.ops (WO.r (.faddr rfl) (WO.w (WS.store rfl rfl rfl .here rfl rfl (WO.nil ?_))))))
  have hxe:({ x with id:=0 }:ID)=⟨0,3,x.ctrl,0,x.card,0⟩:=by
   have h1:=hxok.kind
   have h2:=hxok.obj
   have h3:=hxok.abil
   cases x
   simp_all
  have hs12:LogH bl (EL'++[evRow 18 x.id 0 0 0 it0]) { D with wa:=D.wa.filter fun y=>!decide (y.id=x.id) } ((b7,.r false [({ x with id:=0 }:ID).row] 7)::t) ((b7,.r false [({ x with id:=0 }:ID).row] 7)::s11):=hs11.cons
  have apP:Ap P K F 15 0 0 0 0 { x with id:=0 } { D with wa:=D.wa.filter fun y=>!decide (y.id=x.id) } (mvI D x):=apPush_ok hB hI (a:=0) (b:=0) (n:=0) (m:=0) (it:={ x with id:=0 }) hsm1 ⟨hSI.ev.lb,hSI.ev.hd,hSI.ev.gr,hSI.ev.ex⟩ ⟨by show 0≤D.nx;omega,by show D.nx≤1000000;omega⟩ (by rw [hxe];exact hc.cP _ _ hxok.ctrl hxok.card)
  refine WP.ops (WO.r (.faddr rfl) (WO.r (.load rfl (hs12.mem (.there hg)) rfl rfl rfl) (WO.r (.load rfl .here rfl rfl rfl) (WO.r (.build rfl rfl) (WO.w (WS.invoke (vs:=[.agg (evRow 15 0 0 0 0 { x with id:=0 })]) rfl hM.do_ rfl (doEvPush_ok hB (d':=mvI D x) hs12 hsm1 (.there hf) (by rw [List.length_append,List.length_singleton];omega) apP hsm2 ⟨by show 1≤D.nx+1;omega,by show D.nx+1≤1000000;omega⟩) ?_))))))
  rintro w4 s13 ⟨rfl,hs13⟩
  refine WO.nil (WP.ops (WO.r (.arith rfl rfl (add_n (by omega))) (WO.r (.mv rfl) (WO.nil ?_))))
  refine⟨own.length - (q+1),by omega,rfl,q+1,_,rfl,hlt,hnext ▸ hs13.tail,?_,hnext ▸ hSI2,hnext ▸ hrest2,sub_cons rfl (sub_cons rfl (sub_cons rfl (sub_cons rfl (sub_cons rfl sub_nil))))⟩
  rw [List.length_append,List.length_append,List.length_singleton,List.length_singleton,hEL]
  omega
 ·refine WP.exit ?_
  have:q=own.length:=by
   have:¬ q < own.length:=fun h=>by rw [ilt_blt,show Nat.blt q own.length=true from blt_iff.2 h] at ht;cases ht
   omega
  subst this
  rw [List.take_length] at hL hSI
  exact hQ EL' s' _ hL hEL hSI
end
end Go.Ev
