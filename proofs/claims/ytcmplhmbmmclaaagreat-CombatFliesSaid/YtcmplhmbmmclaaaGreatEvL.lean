/- Walks and rules. Conditions: none. -/
import Derived.Test.YtcmplhmbmmclaaaGreatEvK
set_option linter.unusedVariables false
set_option linter.unusedSectionVars false
set_option maxRecDepth 4000
namespace Go.Ev
def km (F:Nat->FuncId)(bw:Nat)(m:SH)(v:AV)(p o f:Bool)(fn:Nat):Prop:=∃bx,v=.agg [.bool p,.bool o,.bool f,.func (F fn) [] [.ptr (some ⟨bx,0,0⟩)]]/\Has bx (.r false [[.ptr (some ⟨bw,0,0⟩)]] 1) m
def iP (F:Nat->FuncId)(bw:Nat)(m:SH)(v:AV)(p o f:Bool)(fn g:Nat):Prop:=∃bd bx,v=.agg [.bool p,.bool o,.bool f,.func (F fn) [] [.ptr (some ⟨bd,0,0⟩),.ptr (some ⟨bx,0,0⟩)]]/\Has bd (.r false [[.func (F g) [] []]] 1) m/\Has bx (.r false [[.ptr (some ⟨bw,0,0⟩)]] 1) m
def uH (F:Nat->FuncId)(bw:Nat)(v:AV)(p o f:Bool)(fn:Nat):Prop:=v=.agg [.bool p,.bool o,.bool f,.func (F fn) [.ptr (some ⟨bw,0,0⟩)] []]
def RV (F:Nat->FuncId)(bw:Nat)(m:SH)(k:Nat)(v:AV):Prop:=match k with
 | 1=>km F bw m v true false false 265
 | 2=>uH F bw v false true false 260
 | 3=>iP F bw m v false true true 248 250
 | 4=>iP F bw m v false true true 248 251
 | 5=>iP F bw m v false true true 248 253
 | 6=>iP F bw m v false true true 248 255
 | 7=>iP F bw m v true false false 264 266
 | 8=>iP F bw m v true false false 264 267
 | 9=>iP F bw m v true false false 264 268
 | 10=>uH F bw v false true true 259
 | 11=>iP F bw m v false true true 248 256
 | 12=>iP F bw m v false true true 248 257
 | 13=>iP F bw m v false true true 248 258
 | 14=>iP F bw m v false true true 248 252
 | 15=>km F bw m v false false false 274
 | 16=>km F bw m v false false false 277
 | 17=>km F bw m v false false false 276
 | 18=>km F bw m v false false false 279
 | 19=>km F bw m v false false false 280
 | 20=>uH F bw v true false false 271
 | 21=>km F bw m v true false false 272
 | 22=>km F bw m v false false false 281
 | 23=>iP F bw m v true false false 264 269
 | 24=>iP F bw m v true false false 264 270
 | 25=>km F bw m v false true false 261
 | 26=>uH F bw v true false false 273
 | 27=>km F bw m v false false false 282
 | 28=>uH F bw v false false false 283
 | 29=>km F bw m v false false false 284
 | _=>False
theorem km.mono {F:Nat->FuncId}{bw:Nat}{m m':SH}{v:AV}{p o f:Bool}{fn:Nat}(h:km F bw m v p o f fn)(hm:∀b o,Has b o m->Has b o m'):km F bw m' v p o f fn:=by
 obtain⟨bx,h1,h2⟩:=h
 exact⟨bx,h1,hm _ _ h2⟩
theorem iP.mono {F:Nat->FuncId}{bw:Nat}{m m':SH}{v:AV}{p o f:Bool}{fn g:Nat}(h:iP F bw m v p o f fn g)(hm:∀b o,Has b o m->Has b o m'):iP F bw m' v p o f fn g:=by
 obtain⟨bd,bx,h1,h2,h3⟩:=h
 exact⟨bd,bx,h1,hm _ _ h2,hm _ _ h3⟩
theorem RV.mono {F:Nat->FuncId}{bw:Nat}{m m':SH}{k:Nat}{v:AV}(h:RV F bw m k v)(hm:∀b o,Has b o m->Has b o m'):RV F bw m' k v:=by
 unfold RV at h |-
 split at h<;>first | exact h | exact km.mono h hm | exact iP.mono h hm
theorem RV.agg {F:Nat->FuncId}{bw:Nat}{m:SH}{k:Nat}{v:AV}(h:RV F bw m k v):∃p o f fn,v=.agg [.bool p,.bool o,.bool f,fn]/\partCells 1 fn=some [fn]:=by
 unfold RV at h
 split at h<;>first | exact h.elim | (obtain⟨_,h,_⟩:=h;exact⟨_,_,_,_,h,rfl⟩) | (obtain⟨_,_,h,_⟩:=h;exact⟨_,_,_,_,h,rfl⟩) | exact⟨_,_,_,_,h,rfl⟩
structure Ld (F:Nat->FuncId)(bw:Nat)(m:SH)(es:List (AV × AV))(ks ns:List Nat):Prop where
 yes:∀k∈ks,∃v,lookIn .pi (iv<|.ofNat k) es=some (some v)/\RV F bw m k v
 no:∀k∈ns,lookIn .pi (iv<|.ofNat k) es=some none
section
variable {P:Program}{K:Orc}{rd:Option Nat}{nt:Nat}{l:Sl}{ds:List aD}{s:SH}{Q Qn Qr:Po}{Qe:Nat->Po}{F:Nat->FuncId}{T:Nat->TypeId}
theorem cU (hB:Base P K F T){f x:AV}(hf:partCells 1 f=some [f]):bB P K (F 247) [f,x] s (λv s'=>∃bd m,v=.agg [.bool false,.bool true,.bool true,.func (F 248) [] [.ptr (some ⟨bd,0,0⟩),x]]/\s'=m++s/\Has bd (.r false [[f]] 1) m):=by
 refine hB.f247.cF (by simp) ?_
 unfold Lp
 refine Wq<|Wa (.box rfl hf) λb2=>Wa (.alloc rfl) λb3=>Wn ?_
 refine Wq<|Wr (.mkfn rfl rfl)<|Wr (.build rfl rfl)<|Ww<|Wt rfl rfl rfl .here rfl rfl<|Wn<|We<|Wm (.cell rfl hB.t290.1 hB.t290.2 (.inl rfl) .here rfl rfl rfl .nil) ?_
 exact⟨b2,[_,_],rfl,rfl,.there .here⟩
theorem oA (hB:Base P K F T){f x:AV}(hf:partCells 1 f=some [f]):bB P K (F 263) [f,x] s (λv s'=>∃bd m,v=.agg [.bool true,.bool false,.bool false,.func (F 264) [] [.ptr (some ⟨bd,0,0⟩),x]]/\s'=m++s/\Has bd (.r false [[f]] 1) m):=by
 refine hB.f263.cF (by simp) ?_
 unfold Lq
 refine Wq<|Wa (.box rfl hf) λb2=>Wa (.alloc rfl) λb3=>Wn ?_
 refine Wq<|Wr (.mkfn rfl rfl)<|Wr (.build rfl rfl)<|Ww<|Wt rfl rfl rfl .here rfl rfl<|Wn<|We<|Wm (.cell rfl hB.t290.1 hB.t290.2 (.inl rfl) .here rfl rfl rfl .nil) ?_
 exact⟨b2,[_,_],rfl,rfl,.there .here⟩
theorem wU (hB:Base P K F T){bw:Nat}:bB P K (F 224) [.ptr (some ⟨bw,0,0⟩)] s (λv s'=>∃b es m,v=.map (some b)/\s'=m++s/\Has b (.m es) m/\Ld F bw m es [3,4,14,5,6,11,12,13,10,2,25] [1,7,8,9,23,24,20,21,26,15,17,16,18,19,22,27,28,29]):=by
 refine hB.f224.cF (by simp) ?_
 unfold Ll
 refine Wq<|Wa (.box rfl rfl) λb1=>Wv rfl<|Wn ?_
 refine Wq<|Wr (.mkfn rfl rfl)<|Wv rfl<|Wn<|Ws<|WP.fd λb5=>?_
 refine(WD.dm<|Dp (.mv rfl)<|Dc (.no (show bit 2 0=false from rfl) .nil)<|Wc (first:=[]) (vs:=[.func (F 250) [] []]) (cap:=[.ptr (some ⟨b1,0,0⟩)]) rfl rfl (cU (f:=(.func (F 250) [] [])) (x:=.ptr<|some ⟨b1,0,0⟩) hB rfl) ?_)
 rintro w1 _ ⟨f1,m1,rfl,rfl,h1⟩
 refine(WD.gV rfl rfl rfl rfl rfl rfl<|Dp (.mv rfl)<|Dc (.no (show bit 22 0=false from rfl) .nil)<|Wc (first:=[]) (vs:=[.func (F 251) [] []]) (cap:=[.ptr (some ⟨b1,0,0⟩)]) rfl rfl (cU (f:=(.func (F 251) [] [])) (x:=.ptr<|some ⟨b1,0,0⟩) hB rfl) ?_)
 rintro w2 _ ⟨f2,m2,rfl,rfl,h2⟩
 refine(WD.gV rfl rfl rfl rfl rfl rfl<|Dp (.mv rfl)<|Dc (.no (show bit 182 0=false from rfl) .nil)<|Wc (first:=[]) (vs:=[.func (F 252) [] []]) (cap:=[.ptr (some ⟨b1,0,0⟩)]) rfl rfl (cU (f:=(.func (F 252) [] [])) (x:=.ptr<|some ⟨b1,0,0⟩) hB rfl) ?_)
 rintro w3 _ ⟨f3,m3,rfl,rfl,h3⟩
 refine(WD.gV rfl rfl rfl rfl rfl rfl<|Dp (.mv rfl)<|Dc (.no (show bit 1462 0=false from rfl) .nil)<|Wc (first:=[]) (vs:=[.func (F 253) [] []]) (cap:=[.ptr (some ⟨b1,0,0⟩)]) rfl rfl (cU (f:=(.func (F 253) [] [])) (x:=.ptr<|some ⟨b1,0,0⟩) hB rfl) ?_)
 rintro w4 _ ⟨f4,m4,rfl,rfl,h4⟩
 refine(WD.gV rfl rfl rfl rfl rfl rfl<|Dp (.mv rfl)<|Dc (.no (show bit 11702 0=false from rfl) .nil)<|Wc (first:=[]) (vs:=[.func (F 255) [] []]) (cap:=[.ptr (some ⟨b1,0,0⟩)]) rfl rfl (cU (f:=(.func (F 255) [] [])) (x:=.ptr<|some ⟨b1,0,0⟩) hB rfl) ?_)
 rintro w5 _ ⟨f5,m5,rfl,rfl,h5⟩
 refine(WD.gV rfl rfl rfl rfl rfl rfl<|Dp (.mv rfl)<|Dc (.no (show bit 93622 0=false from rfl) .nil)<|Wc (first:=[]) (vs:=[.func (F 256) [] []]) (cap:=[.ptr (some ⟨b1,0,0⟩)]) rfl rfl (cU (f:=(.func (F 256) [] [])) (x:=.ptr<|some ⟨b1,0,0⟩) hB rfl) ?_)
 rintro w6 _ ⟨f6,m6,rfl,rfl,h6⟩
 refine(WD.gV rfl rfl rfl rfl rfl rfl<|Dp (.mv rfl)<|Dc (.no (show bit 748982 0=false from rfl) .nil)<|Wc (first:=[]) (vs:=[.func (F 257) [] []]) (cap:=[.ptr (some ⟨b1,0,0⟩)]) rfl rfl (cU (f:=(.func (F 257) [] [])) (x:=.ptr<|some ⟨b1,0,0⟩) hB rfl) ?_)
 rintro w7 _ ⟨f7,m7,rfl,rfl,h7⟩
 refine(WD.gV rfl rfl rfl rfl rfl rfl<|Dp (.mv rfl)<|Dc (.no (show bit 5991862 0=false from rfl) .nil)<|Wc (first:=[]) (vs:=[.func (F 258) [] []]) (cap:=[.ptr (some ⟨b1,0,0⟩)]) rfl rfl (cU (f:=(.func (F 258) [] [])) (x:=.ptr<|some ⟨b1,0,0⟩) hB rfl) ?_)
 rintro w8 _ ⟨f8,m8,rfl,rfl,h8⟩
 refine(WD.gV rfl rfl rfl rfl rfl rfl<|WD.lk rfl (.no (show bit 0 0=false from rfl) .nil) (.load rfl (.app<|.app<|.app<|.app<|.app<|.app<|.app<|.app<|.there .here) rfl rfl rfl)<|Dp (.mkfn rfl rfl)<|Dp (.build rfl rfl)<|WD.gV rfl rfl rfl rfl rfl rfl<|WD.lk rfl (.no (show bit 0 0=false from rfl) .nil) (.load rfl (.app<|.app<|.app<|.app<|.app<|.app<|.app<|.app<|.there .here) rfl rfl rfl)<|Dp (.mkfn rfl rfl)<|Dp (.build rfl rfl)<|WD.gV rfl rfl rfl rfl rfl rfl<|Dp (.mkfn rfl rfl)<|Dp (.build rfl rfl)<|WD.gV rfl rfl rfl rfl rfl rfl<|Dp (.mv rfl)<|Dp (.mv rfl)<|D0 (.cons (.app<|.app<|.app<|.app<|.app<|.app<|.app<|.app .here) .nil) ?_ ?_)
 rotate_left
 ·intro o ho
  rcases List.mem_cons.1 ho with rfl|ho
  ·refine⟨(λi hi=>by simp only[List.mem_singleton]at hi;subst hi;rfl),Nat.zero_le _,ji _ _ _,λk _ hk=>?_⟩
   rcases(by have:k<=8:=hk;omega:k=0\/k=1\/k=2\/k=3\/k=4\/k=5\/k=6\/k=7\/k=8)with rfl|rfl|rfl|rfl|rfl|rfl|rfl|rfl|rfl
   ·exact⟨_,rfl,.load rfl (.there .here) rfl rfl rfl⟩
   ·exact⟨_,rfl,.load rfl (.app<|.there .here) rfl rfl rfl⟩
   ·exact⟨_,rfl,.load rfl (.app<|.app<|.there .here) rfl rfl rfl⟩
   ·exact⟨_,rfl,.load rfl (.app<|.app<|.app<|.there .here) rfl rfl rfl⟩
   ·exact⟨_,rfl,.load rfl (.app<|.app<|.app<|.app<|.there .here) rfl rfl rfl⟩
   ·exact⟨_,rfl,.load rfl (.app<|.app<|.app<|.app<|.app<|.there .here) rfl rfl rfl⟩
   ·exact⟨_,rfl,.load rfl (.app<|.app<|.app<|.app<|.app<|.app<|.there .here) rfl rfl rfl⟩
   ·exact⟨_,rfl,.load rfl (.app<|.app<|.app<|.app<|.app<|.app<|.app<|.there .here) rfl rfl rfl⟩
   ·exact⟨_,rfl,.load rfl (.app<|.app<|.app<|.app<|.app<|.app<|.app<|.app<|.there .here) rfl rfl rfl⟩
  ·rw[List.mem_singleton.1 ho]
   refine⟨(λi hi=>by simp only[List.mem_singleton]at hi;subst hi;rfl),Nat.zero_le _,ji _ _ _,λk _ hk=>?_⟩
   rcases(by have:k<=8:=hk;omega:k=0\/k=1\/k=2\/k=3\/k=4\/k=5\/k=6\/k=7\/k=8)with rfl|rfl|rfl|rfl|rfl|rfl|rfl|rfl|rfl
   ·exact⟨_,rfl,.load rfl (.there .here) rfl rfl rfl⟩
   ·exact⟨_,rfl,.load rfl (.app<|.there .here) rfl rfl rfl⟩
   ·exact⟨_,rfl,.load rfl (.app<|.app<|.there .here) rfl rfl rfl⟩
   ·exact⟨_,rfl,.load rfl (.app<|.app<|.app<|.there .here) rfl rfl rfl⟩
   ·exact⟨_,rfl,.load rfl (.app<|.app<|.app<|.app<|.there .here) rfl rfl rfl⟩
   ·exact⟨_,rfl,.load rfl (.app<|.app<|.app<|.app<|.app<|.there .here) rfl rfl rfl⟩
   ·exact⟨_,rfl,.load rfl (.app<|.app<|.app<|.app<|.app<|.app<|.there .here) rfl rfl rfl⟩
   ·exact⟨_,rfl,.load rfl (.app<|.app<|.app<|.app<|.app<|.app<|.app<|.there .here) rfl rfl rfl⟩
   ·exact⟨_,rfl,.load rfl (.app<|.app<|.app<|.app<|.app<|.app<|.app<|.app<|.there .here) rfl rfl rfl⟩
 refine We<|Wm (.tmp rfl .nil) ?_
 have hx:∀y,Has b1 (.r false [[.ptr (some ⟨bw,0,0⟩)]] 1) (m8++(m7++(m6++(m5++(m4++(m3++(m2++(m1++([y,(b1,.r false [[.ptr (some ⟨bw,0,0⟩)]] 1)]))))))))):=λy=>(.app<|.app<|.app<|.app<|.app<|.app<|.app<|.app<|.there .here)
 refine⟨b5,_,_,rfl,(pull<|pull<|pull<|pull<|pull<|pull<|pull<|pull eW),(.app<|.app<|.app<|.app<|.app<|.app<|.app<|.app .here),λk hk=>?_,λk hk=>?_⟩
 ·simp only[List.mem_cons,List.not_mem_nil,or_false]at hk
  rcases hk with rfl|rfl|rfl|rfl|rfl|rfl|rfl|rfl|rfl|rfl|rfl
  ·exact⟨_,rfl,f1,b1,rfl,(.app<|.app<|.app<|.app<|.app<|.app<|.app<|.left h1),hx _⟩
  ·exact⟨_,rfl,f2,b1,rfl,(.app<|.app<|.app<|.app<|.app<|.app<|.left h2),hx _⟩
  ·exact⟨_,rfl,f3,b1,rfl,(.app<|.app<|.app<|.app<|.app<|.left h3),hx _⟩
  ·exact⟨_,rfl,f4,b1,rfl,(.app<|.app<|.app<|.app<|.left h4),hx _⟩
  ·exact⟨_,rfl,f5,b1,rfl,(.app<|.app<|.app<|.left h5),hx _⟩
  ·exact⟨_,rfl,f6,b1,rfl,(.app<|.app<|.left h6),hx _⟩
  ·exact⟨_,rfl,f7,b1,rfl,(.app<|.left h7),hx _⟩
  ·exact⟨_,rfl,f8,b1,rfl,(.left h8),hx _⟩
  ·exact⟨_,rfl,rfl⟩
  ·exact⟨_,rfl,rfl⟩
  ·exact⟨_,rfl,b1,rfl,hx _⟩
 ·simp only[List.mem_cons,List.not_mem_nil,or_false]at hk
  rcases hk with rfl|rfl|rfl|rfl|rfl|rfl|rfl|rfl|rfl|rfl|rfl|rfl|rfl|rfl|rfl|rfl|rfl|rfl<;>rfl
theorem ws (hB:Base P K F T){bw:Nat}:bB P K (F 225) [.ptr (some ⟨bw,0,0⟩)] s (λv s'=>∃b es m,v=.map (some b)/\s'=m++s/\Has b (.m es) m/\Ld F bw m es [1,7,8,9,23,24,20,21,26] [3,4,14,5,6,11,12,13,10,2,25,15,17,16,18,19,22,27,28,29]):=by
 refine hB.f225.cF (by simp) ?_
 unfold Lm
 refine Wq<|Wa (.box rfl rfl) λb1=>Wv rfl<|Wn ?_
 refine Wq<|Wr (.mkfn rfl rfl)<|Wv rfl<|Wn<|Ws<|WP.fd λb5=>?_
 refine(WD.dm<|Dp (.mkfn rfl rfl)<|Dp (.build rfl rfl)<|WD.gV rfl rfl rfl rfl rfl rfl<|Dp (.mv rfl)<|Dc (.no (show bit 16 0=false from rfl) .nil)<|Wc (first:=[]) (vs:=[.func (F 266) [] []]) (cap:=[.ptr (some ⟨b1,0,0⟩)]) rfl rfl (oA (f:=(.func (F 266) [] [])) (x:=.ptr<|some ⟨b1,0,0⟩) hB rfl) ?_)
 rintro w1 _ ⟨f1,m1,rfl,rfl,h1⟩
 refine(WD.gV rfl rfl rfl rfl rfl rfl<|Dp (.mv rfl)<|Dc (.no (show bit 176 0=false from rfl) .nil)<|Wc (first:=[]) (vs:=[.func (F 267) [] []]) (cap:=[.ptr (some ⟨b1,0,0⟩)]) rfl rfl (oA (f:=(.func (F 267) [] [])) (x:=.ptr<|some ⟨b1,0,0⟩) hB rfl) ?_)
 rintro w2 _ ⟨f2,m2,rfl,rfl,h2⟩
 refine(WD.gV rfl rfl rfl rfl rfl rfl<|Dp (.mv rfl)<|Dc (.no (show bit 1456 0=false from rfl) .nil)<|Wc (first:=[]) (vs:=[.func (F 268) [] []]) (cap:=[.ptr (some ⟨b1,0,0⟩)]) rfl rfl (oA (f:=(.func (F 268) [] [])) (x:=.ptr<|some ⟨b1,0,0⟩) hB rfl) ?_)
 rintro w3 _ ⟨f3,m3,rfl,rfl,h3⟩
 refine(WD.gV rfl rfl rfl rfl rfl rfl<|Dp (.mv rfl)<|Dc (.no (show bit 11696 0=false from rfl) .nil)<|Wc (first:=[]) (vs:=[.func (F 269) [] []]) (cap:=[.ptr (some ⟨b1,0,0⟩)]) rfl rfl (oA (f:=(.func (F 269) [] [])) (x:=.ptr<|some ⟨b1,0,0⟩) hB rfl) ?_)
 rintro w4 _ ⟨f4,m4,rfl,rfl,h4⟩
 refine(WD.gV rfl rfl rfl rfl rfl rfl<|Dp (.mv rfl)<|Dc (.no (show bit 93616 0=false from rfl) .nil)<|Wc (first:=[]) (vs:=[.func (F 270) [] []]) (cap:=[.ptr (some ⟨b1,0,0⟩)]) rfl rfl (oA (f:=(.func (F 270) [] [])) (x:=.ptr<|some ⟨b1,0,0⟩) hB rfl) ?_)
 rintro w5 _ ⟨f5,m5,rfl,rfl,h5⟩
 refine(WD.gV rfl rfl rfl rfl rfl rfl<|WD.lk rfl (.no (show bit 0 0=false from rfl) .nil) (.load rfl (.app<|.app<|.app<|.app<|.app<|.there .here) rfl rfl rfl)<|Dp (.mkfn rfl rfl)<|Dp (.build rfl rfl)<|WD.gV rfl rfl rfl rfl rfl rfl<|Dp (.mkfn rfl rfl)<|Dp (.build rfl rfl)<|WD.gV rfl rfl rfl rfl rfl rfl<|WD.lk rfl (.no (show bit 0 0=false from rfl) .nil) (.load rfl (.app<|.app<|.app<|.app<|.app<|.there .here) rfl rfl rfl)<|Dp (.mkfn rfl rfl)<|Dp (.build rfl rfl)<|WD.gV rfl rfl rfl rfl rfl rfl<|Dp (.mv rfl)<|Dp (.mv rfl)<|D0 (.cons (.app<|.app<|.app<|.app<|.app .here) .nil) ?_ ?_)
 rotate_left
 ·intro o ho
  rcases List.mem_cons.1 ho with rfl|ho
  ·refine⟨(λi hi=>by simp only[List.mem_singleton]at hi;subst hi;rfl),Nat.zero_le _,ji _ _ _,λk _ hk=>?_⟩
   rcases(by have:k<=5:=hk;omega:k=0\/k=1\/k=2\/k=3\/k=4\/k=5)with rfl|rfl|rfl|rfl|rfl|rfl
   ·exact⟨_,rfl,.load rfl (.there .here) rfl rfl rfl⟩
   ·exact⟨_,rfl,.load rfl (.app<|.there .here) rfl rfl rfl⟩
   ·exact⟨_,rfl,.load rfl (.app<|.app<|.there .here) rfl rfl rfl⟩
   ·exact⟨_,rfl,.load rfl (.app<|.app<|.app<|.there .here) rfl rfl rfl⟩
   ·exact⟨_,rfl,.load rfl (.app<|.app<|.app<|.app<|.there .here) rfl rfl rfl⟩
   ·exact⟨_,rfl,.load rfl (.app<|.app<|.app<|.app<|.app<|.there .here) rfl rfl rfl⟩
  ·rw[List.mem_singleton.1 ho]
   refine⟨(λi hi=>by simp only[List.mem_singleton]at hi;subst hi;rfl),Nat.zero_le _,ji _ _ _,λk _ hk=>?_⟩
   rcases(by have:k<=5:=hk;omega:k=0\/k=1\/k=2\/k=3\/k=4\/k=5)with rfl|rfl|rfl|rfl|rfl|rfl
   ·exact⟨_,rfl,.load rfl (.there .here) rfl rfl rfl⟩
   ·exact⟨_,rfl,.load rfl (.app<|.there .here) rfl rfl rfl⟩
   ·exact⟨_,rfl,.load rfl (.app<|.app<|.there .here) rfl rfl rfl⟩
   ·exact⟨_,rfl,.load rfl (.app<|.app<|.app<|.there .here) rfl rfl rfl⟩
   ·exact⟨_,rfl,.load rfl (.app<|.app<|.app<|.app<|.there .here) rfl rfl rfl⟩
   ·exact⟨_,rfl,.load rfl (.app<|.app<|.app<|.app<|.app<|.there .here) rfl rfl rfl⟩
 refine We<|Wm (.tmp rfl .nil) ?_
 have hx:∀y,Has b1 (.r false [[.ptr (some ⟨bw,0,0⟩)]] 1) (m5++(m4++(m3++(m2++(m1++([y,(b1,.r false [[.ptr (some ⟨bw,0,0⟩)]] 1)])))))):=λy=>(.app<|.app<|.app<|.app<|.app<|.there .here)
 refine⟨b5,_,_,rfl,(pull<|pull<|pull<|pull<|pull eW),(.app<|.app<|.app<|.app<|.app .here),λk hk=>?_,λk hk=>?_⟩
 ·simp only[List.mem_cons,List.not_mem_nil,or_false]at hk
  rcases hk with rfl|rfl|rfl|rfl|rfl|rfl|rfl|rfl|rfl
  ·exact⟨_,rfl,b1,rfl,hx _⟩
  ·exact⟨_,rfl,f1,b1,rfl,(.app<|.app<|.app<|.app<|.left h1),hx _⟩
  ·exact⟨_,rfl,f2,b1,rfl,(.app<|.app<|.app<|.left h2),hx _⟩
  ·exact⟨_,rfl,f3,b1,rfl,(.app<|.app<|.left h3),hx _⟩
  ·exact⟨_,rfl,f4,b1,rfl,(.app<|.left h4),hx _⟩
  ·exact⟨_,rfl,f5,b1,rfl,(.left h5),hx _⟩
  ·exact⟨_,rfl,rfl⟩
  ·exact⟨_,rfl,b1,rfl,hx _⟩
  ·exact⟨_,rfl,rfl⟩
 ·simp only[List.mem_cons,List.not_mem_nil,or_false]at hk
  rcases hk with rfl|rfl|rfl|rfl|rfl|rfl|rfl|rfl|rfl|rfl|rfl|rfl|rfl|rfl|rfl|rfl|rfl|rfl|rfl|rfl<;>rfl
theorem wo (hB:Base P K F T){bw:Nat}:bB P K (F 226) [.ptr (some ⟨bw,0,0⟩)] s (λv s'=>∃b es m,v=.map (some b)/\s'=m++s/\Has b (.m es) m/\Ld F bw m es [15,17,16,18,19,22,27,28,29] [3,4,14,5,6,11,12,13,10,2,25,1,7,8,9,23,24,20,21,26]):=by
 refine hB.f226.cF (by simp) ?_
 unfold Ln
 refine Wq<|Wa (.box rfl rfl) λb1=>Wv rfl<|Wn ?_
 refine Wq<|Wa .mkmap λb5=>(Wr (.mkfn rfl rfl)<|Wr (.build rfl rfl)<|Ww<|WS.ins rfl rfl rfl .here rfl<|Wr (.mkfn rfl rfl)<|Wr (.build rfl rfl)<|Ww<|WS.ins rfl rfl rfl .here rfl<|Wr (.mkfn rfl rfl)<|Wr (.build rfl rfl)<|Ww<|WS.ins rfl rfl rfl .here rfl<|Wr (.mkfn rfl rfl)<|Wr (.build rfl rfl)<|Ww<|WS.ins rfl rfl rfl .here rfl<|Wr (.mkfn rfl rfl)<|Wr (.build rfl rfl)<|Ww<|WS.ins rfl rfl rfl .here rfl<|Wr (.mkfn rfl rfl)<|Wr (.build rfl rfl)<|Ww<|WS.ins rfl rfl rfl .here rfl<|Wr (.mkfn rfl rfl)<|Wr (.build rfl rfl)<|Ww<|WS.ins rfl rfl rfl .here rfl<|Wl rfl (.there .here) rfl rfl rfl<|Wr (.mkfn rfl rfl)<|Wr (.build rfl rfl)<|Ww<|WS.ins rfl rfl rfl .here rfl<|Wr (.mkfn rfl rfl)<|Wr (.build rfl rfl)<|Ww<|WS.ins rfl rfl rfl .here rfl<|Wv rfl<|Wv rfl<|Wn ?_)
 refine We<|Wm (.tmp rfl .nil) ?_
 have hx:∀y,Has b1 (.r false [[.ptr (some ⟨bw,0,0⟩)]] 1) ([y,(b1,.r false [[.ptr (some ⟨bw,0,0⟩)]] 1)]):=λy=>(.there .here)
 refine⟨b5,_,_,rfl,eW,.here,λk hk=>?_,λk hk=>?_⟩
 ·simp only[List.mem_cons,List.not_mem_nil,or_false]at hk
  rcases hk with rfl|rfl|rfl|rfl|rfl|rfl|rfl|rfl|rfl
  ·exact⟨_,rfl,b1,rfl,hx _⟩
  ·exact⟨_,rfl,b1,rfl,hx _⟩
  ·exact⟨_,rfl,b1,rfl,hx _⟩
  ·exact⟨_,rfl,b1,rfl,hx _⟩
  ·exact⟨_,rfl,b1,rfl,hx _⟩
  ·exact⟨_,rfl,b1,rfl,hx _⟩
  ·exact⟨_,rfl,b1,rfl,hx _⟩
  ·exact⟨_,rfl,rfl⟩
  ·exact⟨_,rfl,b1,rfl,hx _⟩
 ·simp only[List.mem_cons,List.not_mem_nil,or_false]at hk
  rcases hk with rfl|rfl|rfl|rfl|rfl|rfl|rfl|rfl|rfl|rfl|rfl|rfl|rfl|rfl|rfl|rfl|rfl|rfl|rfl|rfl<;>rfl
theorem FB (hB:Base P K F T){bw k:Nat}(hk:k∈[3,4,14,5,6,11,12,13,10,2,25]):bB P K (F 202) [.ptr (some ⟨bw,0,0⟩),iv (.ofNat k)] s (λv s'=>∃m,s'=m++s/\RV F bw m k v):=by
 refine hB.f202.cF (by simp) ?_
 unfold Li
 refine Wq<|Wa (.alloc rfl) λb4=>Wn ?_
 refine Ws<|Wq<|Wv rfl<|Ww<|Wz [.ptr (some ⟨bw,0,0⟩)] rfl rfl (wU hB) ?_
 rintro w1 _ ⟨c1,es1,m1,rfl,rfl,t1,t2⟩
 refine Wv rfl<|Ww<|Wz [.ptr (some ⟨bw,0,0⟩)] rfl rfl (ws hB) ?_
 rintro w2 _ ⟨c2,es2,m2,rfl,rfl,u1,u2⟩
 refine Wv rfl<|Ww<|Wz [.ptr (some ⟨bw,0,0⟩)] rfl rfl (wo hB) ?_
 rintro w3 _ ⟨c3,es3,m3,rfl,rfl,x1,x2⟩
 obtain⟨v,look,hv⟩:=t2.yes k hk
 obtain⟨p,o,f,fn,rfl,hfn⟩:=hv.agg
 refine Wa (.bslice (abe rfl rfl rfl rfl rfl rfl) rfl) λb15=>Wr (.lenS rfl rfl)<|Wv rfl<|Wn<|Wb ?_
 refine WP.dA<|Wq<|Wj rfl rfl rfl<|Wn<|Ws<|Wd rfl (λ_=>Wi ?_)<|λh=>by cases h
 refine Ws<|Wb<|Wq<|Wr (.iaddrS rfl rfl (by omega)<|by omega)<|Wl rfl .here rfl rfl rfl<|Wv rfl<|Wn ?_
 refine Wq<|Wv rfl<|Wv rfl<|Wr (.look rfl rfl (.there<|.app<|.app<|.left t1) look)<|Wv rfl<|Wr (.extract rfl rfl)<|Wr (.extract rfl rfl)<|Wa (.alloc rfl) λb7=>Ww<|Wt rfl rfl rfl .here rfl rfl<|Wv rfl<|Wn<|Wq<|Wv rfl<|Wn ?_
 refine Wd rfl (λ_=>?_)<|λh=>by cases h
 refine Wq<|Wl rfl .here rfl rfl rfl<|Ww<|Wt rfl rfl rfl (.there<|.there<|.app<|.app<|.app .here) rfl rfl<|Wn<|We<|Wm (.cell rfl hB.t290.1 hB.t290.2 (.inl rfl) (.there<|.there<|.app<|.app<|.app .here) rfl rfl rfl .nil) ?_
 have fin:∀(p0 p1 y:Nat × HO),RV F bw (p0::p1::(m3++(m2++(m1++[y])))) k _:=λp0 p1 y=>hv.mono λb o hh=>(.there<|.there<|.app<|.app<|.left hh)
 exact⟨_,(fN<|fN<|pull<|pull<|pull yg),fin _ _ _⟩
structure BaseI (P:Program)(K:Orc)(F:Nat->FuncId)(T:Nat->TypeId):Prop where
structure BaseB (P:Program)(K:Orc)(F:Nat->FuncId)(T:Nat->TypeId):Prop where
structure BaseT (P:Program)(K:Orc)(F:Nat->FuncId)(T:Nat->TypeId):Prop where
theorem AU {lb D p:Nat}{a:AV}{asg body:Code}{Bu sG:AC}{pend:Option AX}{R:AV->SH->Prop}(hp:p<nt)(ha:cc P nt asg=Bu)(hb:cc P nt body=sG)
  (h:WP P K (some lb) nt Bu ((p,a)::l) [] ((lb,.lp l nt [p] asg body .ready pend D)::s) (λl2 ds2 s2=>∃t2,s2.Perm ((lb,.lp l nt [p] asg body .ready pend D)::t2) /\
   WP P K (some lb) nt sG l2 ds2 ((lb,.lp l nt [p] asg body .busy pend D)::t2) (λ_ _ s3=>∃t3,s3.Perm ((lb,.lp l nt [p] asg body .busy pend D)::t3)/\R (.bool true) ((lb,.lp l nt [p] asg body .ready none D)::t3))
    (λi _ _ s3=>∃t3,s3.Perm ((lb,.lp l nt [p] asg body .busy pend D)::t3)/\R (.bool false) ((lb,.lp l nt [p] asg body .done (some<|.exit i) D)::t3))
    (λ_ _ s3=>∃t3,s3.Perm ((lb,.lp l nt [p] asg body .busy pend D)::t3)/\R (.bool false) ((lb,.lp l nt [p] asg body .done (some .ret) D)::t3))) (λ_=>Kj) Kj) :
  c6 P K (.yield lb) [a] ((lb,.lp l nt [p] asg body .ready pend D)::s) R:=by
 intro H0 H hH
 obtain⟨_,e,hg,he⟩:=hH.has .here
 obtain⟨x,e2,ds2,H2,l2,s2,⟨n1,r1⟩,k2,k3,k4⟩:=h asg ha H0 (e.put p a) H (he.put p a) hH
 cases x with
 | exit i=>exact k4.elim
 | ret=>exact k4.elim
 | normal=>
  obtain⟨t2,Gu,Ct⟩:=k4
  have k3:=k3.perm Gu
  obtain⟨_,e',KF,he'⟩:=k3.has .here
  have k5:Hp H0 ((lb,.lp l nt [p] asg body .busy pend D)::t2) (H2.put lb<|.loop e' nt [p] asg body .busy pend D):=k3.R0 .here (x:=some<|.loop e' nt [p] asg body .busy pend D) ⟨e',rfl,he'⟩ rfl<|λc=>Heap.aR _ _ _ _
  obtain⟨x,e3,ds3,H3,l3,s3,⟨n2,r2⟩,j2,j3,j4⟩:=Ct body hb H0 e2 _ k2 k5
  have fin:∀(st:LoopState)(pe:Option AX)(v:AV)(t3:SH),s3.Perm ((lb,.lp l nt [p] asg body .busy pend D)::t3)->R v ((lb,.lp l nt [p] asg body st pe D)::t3) ->
    (∀e4,H3.get lb=some (.loop e4 nt [p] asg body .busy pend D)->roundOf (ev P K<|max n1 n2) lb [a] H=some (v,H3.put lb<|.loop e4 nt [p] asg body st pe D))->∃v s' H',ki P K (.yield lb) [a] H v H'/\Hp H0 s' H'/\R v s':=by
   intro st pe v t3 UO hR hrun
   have j3:=j3.perm UO
   obtain⟨_,e4,Uv,Ur⟩:=j3.has .here
   exact⟨v,(lb,.lp l nt [p] asg body st pe D)::t3,_,⟨max n1 n2,hrun e4 Uv⟩,j3.R0 .here (x:=some<|.loop e4 nt [p] asg body st pe D) ⟨e4,rfl,Ur⟩ rfl<|λc=>Heap.aR _ _ _ _,hR⟩
  have q1:=(eP P K<|Nat.le_max_left n1 n2).code r1
  have q2:=(eP P K<|Nat.le_max_right n1 n2).code r2
  have hs:setAll [p] [a] nt e=some (e.put p a):=by
   unfold setAll
   simp only[show Nat.blt p nt=true from Nat.ble_eq_true_of_le hp]
  cases x with
  | normal=>
   obtain⟨t3,h1,h2⟩:=j4
   exact fin _ _ _ t3 h1 h2 λe4 h4=>by unfold roundOf;simp only[hg,hs,q1,KF,q2,h4]
  | exit i=>
   obtain⟨t3,h1,h2⟩:=j4
   exact fin _ _ _ t3 h1 h2 λe4 h4=>by unfold roundOf;simp only[hg,hs,q1,KF,q2,h4]
  | ret=>
   obtain⟨t3,h1,h2⟩:=j4
   exact fin _ _ _ t3 h1 h2 λe4 h4=>by unfold roundOf;simp only[hg,hs,q1,KF,q2,h4]
theorem Hp.gone {H0 H:Heap}{s:SH}{b:Nat}{o:HO}(h:Hp H0 ((b,o)::s) H):Hp H0 ((b,.gone)::s) (H.del b):=
 h.R0 .here (x:=none) trivial rfl (λc=>Heap.gb _ _ _)
theorem WP.rf {g:Operand}{p:Nat}{Bu sG:AC}{f:FuncId}{first cap:List AV}(hg:cr l g=some (.func f first cap))
  (h:∀(asg body:Code),cc P nt asg=Bu->cc P nt body=sG->∀D lb,bB P K f (first++(.yield lb::cap)) ((lb,.lp l nt [p] asg body .ready none D)::(D,.ob .deferred)::s) (λ_ s'=>∃l' st pend t',s'=(lb,.lp l' nt [p] asg body st pend D)::t'/\st≠.busy /\
   (match pend with | none=>Qn l (.mark D::ds) ((lb,.gone)::t') | some .normal=>Qn l (.mark D::ds) ((lb,.gone)::t') | some (.exit i)=>Qe i l (.mark D::ds) ((lb,.gone)::t') | some .ret=>Qr l (.mark D::ds) ((lb,.gone)::t')))) :
  WP P K none nt (.rf g [p] Bu sG) l ds s Qn Qe Qr:=by
 intro c0 hc H0 e H he hH
 cases c0 with
 | rangeFunc g0 ps asg body=>
  simp only[cc,AC.rf.injEq]at hc
  obtain⟨rfl,hps,ha,hb⟩:=hc
  have h1:Hp H0 ((H.next,.ob .deferred)::s) (H.new .deferred).2:=hH.alloc (o:=.deferred) rfl
  have h2:=h1.alloc (o':=.lp l nt [p] asg body .ready none H.next) (o:=.loop e nt [p] asg body .ready none H.next) ⟨e,rfl,he⟩
  obtain⟨v,s',H',⟨n,r1⟩,k2,l',st,pend,t',rfl,hst,k3⟩:=h asg body ha hb H.next _ H0 _ h2
  obtain⟨_,e4,hg4,_⟩:=k2.has .here
  have run:∀x,(match pend with | none=>AX.normal | some y=>y)=x->bt P K none nt (.rangeFunc g0 ps asg body) e ds H (.mk x e (.mark H.next::ds)<|H'.del (H.new .deferred).2.next):=by
   rintro x rfl
   refine⟨n+1,?_⟩
   rw[bO]
   have hnew:H.new .deferred=(H.next,(H.new .deferred).2):=rfl
   have hnew2:(H.new .deferred).2.new (.loop e nt [p] asg body .ready none H.next)=((H.new .deferred).2.next,((H.new .deferred).2.new (.loop e nt [p] asg body .ready none H.next)).2):=rfl
   have aaC:(ev P K n).call f (bI first<|.yield (H.new .deferred).2.next::cap) ((H.new .deferred).2.new (.loop e nt [p] asg body .ready none H.next)).2=some (v,H'):=by rw[aN];exact r1
   unfold stepCode
   simp only[aG he hg,hps]
   show(match (ev P K n).call f (bI first<|.yield (H.new .deferred).2.next::cap) ((H.new .deferred).2.new (.loop e nt [p] asg body .ready none H.next)).2 with
    | some (_,H3)=>(match H3.get (H.new .deferred).2.next with
     | some (.loop _ _ _ _ _ st pend _)=>(match st with
      | .busy=>none
      | _=>match pend with
       | none=>some<|CR.mk .normal e (.mark H.next::ds)<|H3.del (H.new .deferred).2.next
       | some x=>some (.mk x e (.mark H.next::ds) (H3.del (H.new .deferred).2.next)))
     | _=>none)
    | none=>none)=_
   simp only[aaC,hg4]
   cases st with
   | busy=>exact absurd rfl hst
   | ready=>cases pend<;>rfl
   | done=>cases pend<;>rfl
   | exhausted=>cases pend<;>rfl
  have k5:=k2.gone
  cases pend with
  | none=>exact⟨_,_,_,_,_,_,run _ rfl,he,k5,k3⟩
  | some x=>
   cases x with
   | normal=>exact⟨_,_,_,_,_,_,run _ rfl,he,k5,k3⟩
   | exit i=>exact⟨_,_,_,_,_,_,run _ rfl,he,k5,k3⟩
   | ret=>exact⟨_,_,_,_,_,_,run _ rfl,he,k5,k3⟩
 | region i ops d=>exact(db hc).elim
 | _=>simp[cc]at hc
def Bi (P:Program)(rs:List ResultVar)(R:AV->SH->Prop):Po:=λl ds s=>∃(Ds:List Nat)(t:SH),ds=Ds.map aD.mark/\s.Perm (Ds.map (λD=>(D,HO.ob .deferred))++t)/\∃vs,Rs P l (Ds.map (λD=>(D,HO.gone))++t) rs vs/\R (F8 vs) (Ds.map (λD=>(D,HO.gone))++t)
theorem yY {H0:Heap}:∀(Ds:List Nat)(t:SH)(H:Heap),Hp H0 (Ds.map (λD=>(D,HO.ob .deferred))++t) H->∃H',(∀ih:fP,runDefers ih (Ds.map aD.mark) H=some H')/\Hp H0 (Ds.map (λD=>(D,HO.gone))++t) H':=by
 intro Ds
 induction Ds with
 | nil=>intro t H h;exact⟨H,λ_=>rfl,h⟩
 | cons D Ds ih=>
  intro t H h
  have hg:H.get D=some .deferred:=(h.has .here).2
  have h1:Hp H0 ((D,.gone)::(Ds.map (λD=>(D,HO.ob .deferred))++t)) (H.del D):=Hp.gone h
  obtain⟨H',h2,h3⟩:=ih ((D,.gone)::t) (H.del D)<|h1.perm List.perm_middle.symm
  exact⟨H',λe=>by show(match H.get D with | some .deferred=>runDefers e (Ds.map aD.mark) (H.del D) | _=>none)=_;rw[hg];exact h2 e,h3.perm List.perm_middle⟩
theorem cD.N1 {f:FuncId} {fn:Func} {c:Code} {args:List AV} {v:AV} {e0 e1:Tr AV} {x:AX} {H H1 H2:Heap} {ds:List aD} (hK:K f args H=none) (hf:P.funcs[f]?=some fn) (hb:fn.body=some c) (hn:(Nat.ble (aK args) fn.ntmps && !(fn.name == "runtime.NumGoroutine"))=true)
  (h0:argsEnv fn.ntmps args=some e0) (h:bt P K none fn.ntmps c e0 [] H (.mk x e1 ds H1)) (hx:x=.ret\/x=.normal) (hd:∀ih:fP,runDefers ih ds H1=some H2) (hr:(match aI (resultOf P e1 H2) fn.results.toList with | some [v]=>some v | some vs=>some (.tuple vs) | none=>none)=some v) :
  cD P K f args H v H2:=by
 obtain⟨n,h⟩:=h
 refine⟨n+1,?_⟩
 show knownCall K f args H (stepCall P (ev P K n) f args H)=_
 unfold knownCall
 rw[hK]
 unfold stepCall
 simp only[hf,hb,hn,h0,h]
 have key:(match aI (resultOf P e1 H2) fn.results.toList with
   | some [v]=>some (v,H2)
   | some vs=>some (AV.tuple vs,H2)
   | none=>none)=some (v,H2):=by
  cases hl:aI (resultOf P e1 H2) fn.results.toList with
  | none=>rw[hl]at hr;cases hr
  | some l=>
   rw[hl]at hr
   match l,hr with
   | [],hr=>cases hr;rfl
   | [_],hr=>cases hr;rfl
   | _::_::_,hr=>cases hr;rfl
 rcases hx with rfl|rfl<;>(simp only[hd];exact key)
theorem FnK.ZH {f:FuncId}{nt:Nat}{rs:List ResultVar}{ac:AC}(hF:FnK P K f nt rs ac){args:List AV}{R:AV->SH->Prop}(ha:args.length<=nt)(h:WP P K none nt ac (sl0 0 args) [] s (Bi P rs R) (λ_ _ _ _=>False) (Bi P rs R)):bB P K f args s R:=by
 obtain⟨fn,hf,hc,rfl,rfl,h5⟩:=hF.ex
 have hn:(Nat.ble (aK args) fn.ntmps && !(fn.name == "runtime.NumGoroutine"))=true:=by
  rw[h5,ar,Nat.ble_eq_true_of_le ha];rfl
 intro H0 H hH
 obtain⟨c,hb,hc⟩:∃c,fn.body=some c/\cc P fn.ntmps c=ac:=by
  cases hb:fn.body with
  | none=>rw[hb]at hc;cases hc
  | some c=>rw[hb]at hc;exact⟨c,rfl,Option.some.inj hc⟩
 obtain⟨e0,h0,h1⟩:=mG fn.ntmps args
 have he:En (sl0 0 args) e0:=λi v hi=>by
  obtain⟨_,h2⟩:=yp args 0 i v hi
  exact h1 i v h2
 obtain⟨x,e',ds',H',l',s',k1,k2,k3,k4⟩:=h c hc H0 e0 H he hH
 have key:∀x,(x=.ret\/x=.normal)->bt P K none fn.ntmps c e0 [] H (.mk x e' ds' H')->Bi P fn.results.toList R l' ds' s'->∃v s' H',cD P K f args H v H'/\Hp H0 s' H'/\R v s':=by
  rintro x hx k1 ⟨Ds,t,rfl,hp,vs,k5,k6⟩
  obtain⟨H2,hd,k7⟩:=yY Ds t H'<|k3.perm hp
  refine⟨F8 vs,_,H2,cD.N1 (hF.k _ H) hf hb hn h0 k1 hx hd ?_,k7,k6⟩
  rw[k5.ok k2 k7]
  match vs with
  | []=>rfl
  | [_]=>rfl
  | _::_::_=>rfl
 cases x with
 | normal=>exact key _ (.inr rfl) k1 k4
 | ret=>exact key _ (.inl rfl) k1 k4
 | exit i=>exact k4.elim
theorem qM {a b:Int}(h:a≠b):eqBy 20 .pi (iv a) (iv b)=some false:=by rw[bb];simp[h]
theorem aaL (hB:Base P K F T){bw:Nat}{pv ov lv hv gv ev fv sv wv:AV}{d:SD}(hb:Has bw (.r false [d.cells pv ov lv hv gv ev fv sv wv] 25) s)(h:Src s 14 ov (fy d.ob))(hd:d.Small){id:Int}{i:Nat}{o:OD}(hi:d.find id=some i)(xG:d.ob[i]?=some o) :
  bB P K (F 231) [.ptr (some ⟨bw,0,0⟩),iv id] s (λw s'=>w=.bool (decide<|o.nq=2)/\∃m,s'=m++s):=by
 refine hB.f231.cF (by simp) ?_
 unfold ado
 have hil:i<d.ob.length:=(List.getElem?_eq_some_iff.1 xG).1
 refine Wq<|Wv rfl<|Wn ?_
 refine Wq<|Wv rfl<|Wr (.nilchk rfl rfl)<|Wf rfl<|Wl rfl hb rfl rfl rfl<|Wv rfl<|Ww<|Wc rfl rfl (lg hB (d:=d) h hd) ?_
 rintro w _ ⟨rfl,m,rfl⟩
 rw[hi]
 refine Wv rfl<|Wn ?_
 obtain⟨bo,ro,no,co,so,WE,MO,rfl,IM,hno,hMo⟩:=h.at (i:=i)<|by simpa[fy]using hil
 have hrow:(fy d.ob)[i]?=some o.row:=by rw[fy,List.getElem?_map,xG];rfl
 refine Wq<|Wv rfl<|Wj rfl rfl rfl<|Wv rfl<|Wy rfl rfl<|Wv rfl<|Wy rfl rfl<|Wr (.nilchk rfl rfl)<|Wy rfl rfl<|Wf rfl<|Wy rfl rfl<|Wf rfl<|Wy rfl rfl<|Wl rfl (.app hb) rfl rfl rfl<|Wy rfl rfl<|Wv rfl<|Wy rfl rfl<|Wr (.iaddrS rfl rfl hno<|by omega)<|Wy rfl rfl<|Wf rfl<|Wy rfl rfl<|Wl rfl (.app IM) (hMo.trans hrow) rfl rfl<|Wy rfl rfl<|Wh rfl rfl (bb _ _)<|Wr (.cV rfl rfl)<|Wv rfl<|Wn ?_
 exact We<|Wm (.tmp rfl .nil) ⟨rfl,m,rfl⟩
theorem aco (hB:Base P K F T){bw:Nat}{d:SD}{t:SH}(hs:WH bw d t s)(hd:d.Small)(he:d.kQ){k a b n m:Int}{it:ID}{fn:AV}(k13:k≠13)(k16:k≠16)(k18:k≠18)(k26:k≠26){i:Nat}(hi:d.find a=some i){o:OD}(xG:d.ob[i]?=some o)(hz:o.nq=2) :
  bB P K (F 203) [.ptr (some ⟨bw,0,0⟩),.agg<|evRow k a b n m it,.agg [.bool false,.bool true,.bool true,fn]] s (λw s'=>w=iv 0/\WH bw d t s'):=by
 obtain⟨pv,ov,lv,hv,gv,ev,fv,sv,wv,nn,k1,k2⟩:=hs
 refine bB.perm k1.symm ?_
 refine hB.f203.cF (by simp) ?_
 unfold Lj
 refine Wq<|Wa (.box rfl rfl) λb4=>Wa (.box rfl rfl) λb5=>Wv rfl<|Wn ?_
 refine Wq<|Wr (.mkfn rfl rfl)<|Wv rfl<|Wn<|Ws<|Wb ?_
 have hR:∀x y z,mD (x::y::z::(nn++t)) pv ov lv hv gv ev fv sv wv d:=λx y z=>k2.r λp hp=>by simp[hp]
 refine Ws<|WP.bD<|Dp (.mv rfl)<|Dp (.nilchk rfl rfl)<|Dp (.faddr rfl)<|Dl rfl .nil (.load rfl (.there<|.there .here) rfl rfl rfl)<|Dc .nil<|Wc rfl rfl (qQ hB (hR _ _ _) ⟨he.lb,he.hd,he.gr,he.ex⟩) ?_
 rintro w _ ⟨rfl,m1,rfl⟩
 refine(Dp (.un rfl rfl)<|Dp (.mv rfl)<|Dy rfl rfl<|Dp (.faddr rfl)<|Dy rfl rfl<|Dl rfl .nil (.load rfl (.app .here) rfl rfl rfl)<|Dy rfl rfl<|Dp (.mv rfl)<|Dk rfl rfl rfl<|Dk rfl rfl rfl<|Dk rfl rfl rfl<|Dk rfl rfl rfl<|WD.kg rfl rfl<|WD.kg rfl rfl<|WD.kg rfl rfl<|WD.kg rfl rfl<|WD.kg rfl rfl<|WD.kg rfl rfl<|WD.kg rfl rfl<|WD.kg rfl rfl<|WD.kg rfl rfl<|Dk rfl rfl rfl<|Dy rfl rfl<|Dp (.bj rfl rfl)<|Dp (.bj rfl rfl)<|Dp (.mv rfl)<|D0 .nil ?_<|λo h=>nomatch h)
 refine Wd rfl fS<|λ_=>?_
 refine Ws<|Ws<|WP.bD<|Dp (.faddr rfl)<|Dl rfl .nil (.load rfl (.app .here) rfl rfl rfl)<|Dp (.mv rfl)<|Dy rfl rfl<|Dp (.mv rfl)<|Dy rfl rfl<|Dp (.nilchk rfl rfl)<|Dy rfl rfl<|Dp (.faddr rfl)<|Dy rfl rfl<|Dl rfl .nil (.load rfl (.app<|.there<|.there .here) rfl rfl rfl)<|Dy rfl rfl<|Dp (.faddr rfl)<|Dy rfl rfl<|Dl rfl .nil (.load rfl (.app<|.there .here) rfl rfl rfl)<|Dy rfl rfl<|Dc .nil<|Wc rfl rfl (lg hB (d:=d) ((k2.r (s:=_) λp hp=>by simp[hp]).ob) hd) ?_
 rintro w _ ⟨rfl,m2,rfl⟩
 rw[hi]
 refine(Dy rfl rfl<|Dp (.arith rfl rfl rfl)<|Dp (.cV rfl rfl)<|Dp (.mv rfl)<|D0 .nil ?_<|λo h=>nomatch h)
 refine Wd rfl fS<|λ_=>Wo<|Wf rfl<|Wl rfl (.app<|.app .here) rfl rfl rfl<|Wv rfl<|Wy rfl rfl<|Wv rfl<|Wy rfl rfl<|Wf rfl<|Wy rfl rfl<|Wl rfl (.app<|.app<|.there .here) rfl rfl rfl<|Wy rfl rfl<|Ww<|Wc rfl rfl (aaL hB (d:=d) (.app<|.app<|.there<|.there .here) ((k2.r (s:=_) λp hp=>by simp[hp]).ob) hd hi xG) ?_
 rintro w _ ⟨rfl,m3,rfl⟩
 rw[show decide (o.nq=2)=true from decide_eq_true hz]
 refine(Wy rfl rfl<|Wr (.un rfl rfl)<|Wr (.cV rfl rfl)<|Wv rfl<|Wn ?_)
 refine Wd rfl fS<|λ_=>Wq<|Wf rfl<|Wl rfl (.app<|.app<|.app<|.there .here) rfl rfl rfl<|Wh rfl rfl (qM k13)<|Wv rfl<|Wk rfl rfl<|Wk rfl rfl<|Wk rfl rfl<|Wr (.bj rfl rfl)<|Wv rfl<|Wk rfl rfl<|Wk rfl rfl<|Wk rfl rfl<|Wk rfl rfl<|Wk rfl rfl<|Wr (.bj rfl rfl)<|Wv rfl<|Wn ?_
 refine Wd rfl fS<|λ_=>Ws<|Wq<|Wf rfl<|Wl rfl (.app<|.app<|.app<|.there .here) rfl rfl rfl<|Wh rfl rfl (qM k16)<|Wv rfl<|Wk rfl rfl<|Wk rfl rfl<|Wk rfl rfl<|Wk rfl rfl<|Wk rfl rfl<|Wk rfl rfl<|Wk rfl rfl<|Wk rfl rfl<|Wr (.bj rfl rfl)<|Wv rfl<|Wn ?_
 refine Wd rfl fS<|λ_=>Wo<|Wf rfl<|Wl rfl (.app<|.app<|.app<|.there .here) rfl rfl rfl<|Wh rfl rfl (qM k18)<|Wv rfl<|Wk rfl rfl<|Wk rfl rfl<|Wk rfl rfl<|Wk rfl rfl<|Wk rfl rfl<|Wk rfl rfl<|Wk rfl rfl<|Wk rfl rfl<|Wr (.bj rfl rfl)<|Wv rfl<|Wn ?_
 refine Wd rfl fS<|λ_=>Ws<|WP.bD<|Dp (.faddr rfl)<|Dl rfl .nil (.load rfl (.app<|.app<|.app<|.there .here) rfl rfl rfl)<|Dp (.eql rfl rfl<|qM k26)<|Dp (.mv rfl)<|Dk rfl rfl rfl<|Dk rfl rfl rfl<|Dk rfl rfl rfl<|Dk rfl rfl rfl<|Dk rfl rfl rfl<|Dk rfl rfl rfl<|Dk rfl rfl rfl<|Dk rfl rfl rfl<|Dk rfl rfl rfl<|Dk rfl rfl rfl<|Dk rfl rfl rfl<|Dk rfl rfl rfl<|WD.jm rfl rfl<|Dk rfl rfl rfl<|Dp (.bj rfl rfl)<|Dp (.mv rfl)<|D0 .nil ?_<|λo h=>nomatch h
 refine Wd rfl fS<|λ_=>Wi ?_
 refine Wq<|Wv rfl<|Wn<|We<|Wm (.tmp rfl .nil) ?_
 refine⟨rfl,?_⟩
 have fin:∀x y,WH bw d t (m3++(m2++(m1++(x::y::(bw,.r false [d.cells pv ov lv hv gv ev fv sv wv] 25)::(nn++t))))):=λx y=>⟨pv,ov,lv,hv,gv,ev,fv,sv,wv,(m3++(m2++(m1++[x,y])))++nn,cM λc w h0 h1 h2 hq=>by simp only[h1,h2,h0];omega,k2.bK⟩
 exact fin _ _
theorem yH (hB:Base P K F T){k:Nat}{a b n m:Int}{it:ID}{d d':SD}(hd:d.Small)
  (lm:∀s,bB P K (F 201) [.agg (evRow (.ofNat k) a b n m it)] s<|λv s'=>v=iv 0/\s'=s)
  (UT:∀{bw:Nat}{s:SH},bB P K (F 202) [.ptr (some ⟨bw,0,0⟩),iv<|.ofNat k] s (λv s'=>∃m,s'=m++s/\RV F bw m k v))
  (hmay:∀{bw:Nat}{t s m':SH}{v:AV},RV F bw m' k v->WH bw d t s->bB P K (F 203) [.ptr (some ⟨bw,0,0⟩),.agg<|evRow (.ofNat k) a b n m it,v] s (λw s'=>w=iv 0/\WH bw d t s'))
  (A2:∀{bw:Nat}{t s:SH}{p o f:Bool}{fn:AV},RV F bw t k (.agg [.bool p,.bool o,.bool f,fn])->WH bw d t s->c6 P K fn [.agg (evRow (.ofNat k) a b n m it)] s (λ_ s'=>WH bw d' t s')):Ap P K F (.ofNat k) a b n m it d d':=by
 intro pv ov lv hv gv ev fv sv wv s h
 refine hB.f164.cF (by simp) ?_
 unfold Lg
 refine Wq<|Wa (.box rfl rfl) λb2=>Wa (.box rfl rfl) λb3=>Wa (.alloc rfl) λb4=>Wv rfl<|Wn ?_
 have hR:mD ((b4,.r false [cC] 25)::(b3,.r false [evRow (.ofNat k) a b n m it] 13)::(b2,.r false [d.cells pv ov lv hv gv ev fv sv wv] 25)::s) pv ov lv hv gv ev fv sv wv d:=⟨h.pl.mono λp hp=>by simp[hp],h.ob.mono λp hp=>by simp[hp],h.lb.mono λp hp=>by simp[hp],h.hd.mono λp hp=>by simp[hp],h.gr.mono λp hp=>by simp[hp],h.ex.mono λp hp=>by simp[hp],h.fi.mono λp hp=>by simp[hp],h.st.mono λp hp=>by simp[hp],h.wa.mono λp hp=>by simp[hp]⟩
 refine Wq<|Wl rfl (.there<|.there .here) rfl rfl rfl<|Ww<|Wz [.agg (d.cells pv ov lv hv gv ev fv sv wv)] rfl rfl (mw hB hR hd) ?_
 rintro w _ ⟨pv,ov,lv,hv,gv,ev,fv,sv,wv,n1,rfl,rfl,g1⟩
 refine Wr (.build rfl rfl)<|Wa (.box rfl rfl) λbw=>Wv rfl<|Wn ?_
 refine Wg (s':=(bw,.r false [d.cells pv ov lv hv gv ev fv sv wv] 25)::(n1++((b4,.r false [cC] 25)::(b3,.r false [evRow (.ofNat k) a b n m it] 13)::(b2,.r false [d.cells _ _ _ _ _ _ _ _ _] 25)::s))) (λ_ _ h=>h) (λ_ _ h=>h) ?_
 refine Ws<|Wq<|Wl rfl (.there<|.app<|.there .here) rfl rfl rfl<|Ww<|Wz [.agg (evRow (.ofNat k) a b n m it)] rfl rfl (lm _) ?_
 rintro w _ ⟨rfl,rfl⟩
 refine Wv rfl<|Wn<|Wq<|Wv rfl<|Wh rfl rfl (bb _ _)<|Wn<|Wd rfl fS<|λ_=>Wi ?_
 refine Wq<|Wv rfl<|Wf rfl<|Wl rfl (.there<|.app<|.there .here) rfl rfl rfl<|Ww<|Wz [.ptr (some ⟨bw,0,0⟩),iv<|.ofNat k] rfl rfl UT ?_
 rintro w _ ⟨m2,rfl,UZ⟩
 obtain⟨p,o,f,fn,rfl,hfn⟩:=UZ.agg
 refine Wa (.alloc rfl) λb8=>Ww<|Wt rfl rfl rfl .here rfl rfl<|Wn ?_
 have hW:∀y,WH bw d ((b8,.r false [[.bool p,.bool o,.bool f,fn]] 4)::(m2++((b4,.r false [cC] 25)::(b3,.r false [evRow (.ofNat k) a b n m it] 13)::(b2,y)::s)))
   ((b8,.r false [[.bool p,.bool o,.bool f,fn]] 4)::(m2++((bw,.r false [d.cells pv ov lv hv gv ev fv sv wv] 25)::(n1++((b4,.r false [cC] 25)::(b3,.r false [evRow (.ofNat k) a b n m it] 13)::(b2,y)::s))))):=λy=>
  ⟨pv,ov,lv,hv,gv,ev,fv,sv,wv,n1,cM λc w h0 h1 h2 hq=>by simp only[h1,h2];omega,g1⟩
 refine Wg (s':=(b8,.r false [[.bool p,.bool o,.bool f,fn]] 4)::(m2++((bw,.r false [d.cells pv ov lv hv gv ev fv sv wv] 25)::(n1++((b4,.r false [cC] 25)::(b3,.r false [evRow (.ofNat k) a b n m it] 13)::(b2,.r false [d.cells _ _ _ _ _ _ _ _ _] 25)::s))))) (λ_ _ h=>h) (λ_ _ h=>h) ?_
 refine Ws<|Wq<|Wv rfl<|Wl rfl (.there<|.app<|.there<|.app<|.there .here) rfl rfl rfl<|Wl rfl .here rfl rfl rfl<|Ww<|Wz [.ptr (some ⟨bw,0,0⟩),.agg<|evRow (.ofNat k) a b n m it,.agg [.bool p,.bool o,.bool f,fn]] rfl rfl (hmay UZ<|hW _) ?_
 rintro w s5 ⟨rfl,XY⟩
 obtain⟨pv,ov,lv,hv,gv,ev,fv,sv,wv,n5,k5,g5⟩:=XY
 refine Wv rfl<|Wn<|Wq<|Wv rfl<|Wh rfl rfl (bb _ _)<|Wn<|Wd rfl fS<|λ_=>Wi ?_
 refine WP.pre k5 ?_
 have XZ:∀t,WH bw d t ((bw,.r false [d.cells pv ov lv hv gv ev fv sv wv] 25)::(n5++t)):=λt=>⟨pv,ov,lv,hv,gv,ev,fv,sv,wv,n5,.refl _,g5⟩
 refine Wq<|Wf rfl<|Wl rfl (.there<|.app .here) rfl rfl rfl<|Wl rfl (.there<|.app<|.there<|.app<|.there .here) rfl rfl rfl<|Ww<|WS.call (fv:=fn) (vs:=[.agg (evRow (.ofNat k) a b n m it)]) rfl rfl (A2 (UZ.mono λb o hh=>.there<|.left hh)<|XZ _) ?_
 rintro w s7 X0
 obtain⟨pv,ov,lv,hv,gv,ev,fv,sv,wv,n7,k7,g7⟩:=X0
 refine Wn<|WP.pre k7 ?_
 refine Wq<|Wv rfl<|Wr (.nilchk rfl rfl)<|Wf rfl<|Wl rfl .here rfl rfl rfl<|Ww<|Wt rfl rfl rfl (.there<|.app<|.there<|.app .here) rfl rfl<|Wv rfl<|Wn<|We<|Wm (.cell rfl hB.t41.1 hB.t41.2 (.inl rfl) (.there<|.app<|.there<|.app .here) rfl rfl rfl<|.tmp rfl .nil) ?_
 have fin:∀y1 y2 y3 y4 y5,iJ (y1::(n7++(y2::(m2++[y3,y4,y5])))) pv ov lv hv gv ev fv sv wv d':=λy1 y2 y3 y4 y5=>
  (g7.bK (m:=y1::y2::(m2++[y3,y4,y5]))).perm (cM λc w h0 h1 h2 hq=>by simp only[h1,h2,h0];omega)
 exact⟨pv,ov,lv,hv,gv,ev,fv,sv,wv,_,rfl,fN<|pull<|fN<|pull yh,fin _ _ _ _ _⟩
theorem aax (hB:Base P K F T){bf bl:Nat}{aZ bE:AV}{c0 c1 c2 c3 c4:Int}{EL:List (List AV)}{d d':SD}{t:SH}{k a:Int}{b n m:Int}{it:ID}(hs:aH bl EL d t s)(hd:d.Small)(hf:Has bf (.r false [bu bl aZ c0 c1 c2 c3 c4 bE] 8) t)(hE:EL.length<=1000)
  (k1:k≠1) (k2:k≠2) (k15:k≠15) (k17:k≠17) (hap:Ap P K F k a b n m it d d') :
  bB P K (F 15) [.ptr (some ⟨bf,0,0⟩),.agg<|evRow k a b n m it] s (λv s'=>v=iv 0/\aH bl (EL++[evRow k a b n m it]) d' t s'):=by
 refine hB.f15.cF (by simp) ?_
 unfold WN
 refine Wq<|Wa (.box rfl rfl) λb3=>Wv rfl<|Wn ?_
 have gw:aH bl EL d ((b3,.r false [evRow k a b n m it] 13)::t) ((b3,.r false [evRow k a b n m it] 13)::s):=hs.cons
 refine Ws<|Wb<|Wq<|Wv rfl<|Wh (b:=false) rfl rfl rfl<|Wv rfl<|Wn<|Wd rfl (λh=>by cases h)<|λ_=>Ws<|WP.bD ?_
 refine(Dp (.faddr rfl)<|Dl rfl .nil (.load rfl .here rfl rfl rfl)<|Dp (.eql rfl rfl<|qM k1)<|Dp (.mv rfl)<|Dk rfl rfl rfl<|WD.jm rfl rfl<|Dk rfl rfl rfl<|Dk rfl rfl rfl<|Dk rfl rfl rfl<|Dk rfl rfl rfl<|Dk rfl rfl rfl<|Dk rfl rfl rfl<|Dk rfl rfl rfl<|Dk rfl rfl rfl<|Dp (.bj rfl rfl)<|Dp (.mv rfl)<|D0 .nil ?_<|λo h=>nomatch h)
 refine Wd rfl fS<|λ_=>?_
 refine Ws<|WP.bD<|Dp (.mv rfl)<|Dp (.nilchk rfl rfl)<|Dp (.faddr rfl)<|Dl rfl .nil (.load rfl (gw.mem<|.there hf) rfl rfl rfl)<|Dl rfl .nil (.load rfl (gw.mem .here) rfl rfl rfl)<|Dc .nil<|Wz [.agg [.ptr (some ⟨bl,0,0⟩)],.agg<|evRow k a b n m it] rfl rfl (mI hB gw hE hap) ?_
 rintro w s5 ⟨rfl,tn⟩
 refine Dp (.eql rfl rfl<|bb _ _)<|Dp (.mv rfl)<|D0 .nil ?_<|λo h=>nomatch h
 refine Wd rfl fS<|λ_=>Wi ?_
 refine Ws<|Wq<|Wf rfl<|Wl rfl (tn.mem .here) rfl rfl rfl<|Wn<|Wb ?_
 refine Ws<|Wq<|Wh rfl rfl (qM k1)<|Wv rfl<|Wn ?_
 refine Wd rfl fS<|λ_=>Wq<|Wh rfl rfl (qM k2)<|Wv rfl<|Wn ?_
 refine Wd rfl fS<|λ_=>Wq<|Wh rfl rfl (qM k15)<|Wv rfl<|Wn ?_
 refine Wd rfl fS<|λ_=>Wo<|Wh rfl rfl (qM k17)<|Wv rfl<|Wn ?_
 refine Wd rfl fS<|λ_=>Wi ?_
 refine Wq<|Wv rfl<|Wn<|We<|Wm (.tmp rfl .nil) ⟨rfl,tn.tail⟩
variable {bf:Nat}{bl:Nat}{aZ:AV}{bE:AV}{c0:Int}{c1:Int}{c2:Int}{c3:Int}{c4:Int}{EL:List (List AV)}{d:SD}{t:SH}
theorem WO.pre {ol:List bS}{s':SH}(hp:s.Perm s')(h:WO P K ol l ds s' Q):WO P K ol l ds s Q:=
 λnt ops l0 h0 H0 e H he hH=>h nt ops l0 h0 H0 e H he<|hH.perm hp
theorem Src.Ko {sz:Nat}{v:AV}{L:List (List AV)}(h:Src s sz v L)(hne:0<L.length):∃b r n c sl ro M,v=.slice (some ⟨b,r,0⟩) n c sl sz/\Has b (.r ro M sz) s/\L.length<=n/\∀i,i<L.length->M[r+i]?=L[i]?:=by
 cases h with
 | nil=>exact absurd hne<|Nat.lt_irrefl _
 | zero=>exact absurd hne<|Nat.lt_irrefl _
 | emp=>exact absurd hne<|Nat.lt_irrefl _
 | @rows b r n c sl ro M hb hn=>
  refine⟨b,r,n,c,sl,ro,M,rfl,hb,by rw[List.length_take];omega,λi hi=>?_⟩
  have hi2:i<n:=by rw[List.length_take]at hi;omega
  rw[List.getElem?_take,if_pos hi2,List.getElem?_drop]
theorem Ka {p:Nat}(h:p<=1000):binV .sub (iv (.ofNat (p+1))) (iv (.ofNat 1))=some (iv (.ofNat p)):=by
 have:=F0 (n:=((p+1:Nat):Int)) (by omega)<|by omega
 rw[show(((p+1:Nat):Int)-1)=((p:Nat):Int)from by omega]at this
 exact this

end
end Go.Ev
