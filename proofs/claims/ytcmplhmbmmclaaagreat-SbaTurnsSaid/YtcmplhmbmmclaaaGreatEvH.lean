/- The fast machine's quiet operations are the slow machine's. The fast machine's writes are the slow machine's. The fast machine's writes and new blocks are the slow machine's. The fast machine's operations are the slow machine's. The fast machine's regions are the slow machine's. The fast machine's regions of open order are the slow machine's. The fast machine's code and calls are the slow machine's: what it finds true is true. A call without parameters that the fast machine finds true hands back true, and what was there stays as it was. Conditions: none. -/
import Derived.Test.YtcmplhmbmmclaaaGreatEvG
import Derived.ChangeSame
set_option linter.unusedVariables false
set_option linter.unusedSectionVars false
namespace Go.Ev
variable [Sg]
def Out (k:V->FH->Bool) (fr:Fri) (r:Option (AV × Heap)):Prop:=∃ a v h' H',r=some (a,H')∧VA v a∧FHr h' H'∧h'.fr=fr∧k v h'=true
section
variable {P:Program} {nt:Nat} {e:Env} {E:Tr AV} {h:FH} {H:Heap} {ih:CallT} {k:V->FH->Bool}
theorem Out.same {a:AV} {v:V} {r:Option (AV × Heap)} (hH:FHr h H) (hr:r=some (a,H)) (hv:VA v a) (hk:k v h=true):Out k h.fr r:=⟨a,v,h,H,hr,hv,hH,rfl,hk⟩
theorem fxs_mem {l:List Operand} (h:fxs nt l=true) {x:Operand} (hx:x∈l):fxOk nt x=true:=(lall_iff _ _).1 h x hx
theorem fv_le (hE:EnvR nt e E) {l:List Operand} (hx:fxs nt l=true):∀ y∈l,∀ u,fvOk e y=some u->opv E y=some u:=by
 intro y hy u hu
 obtain⟨a,ha,hv⟩:=fx_ok hE (fxs_mem hx hy)
 rw [ha,av_ok hv hu]
theorem gen_out (hH:FHr h H) {op:AOp} (hm:∀ {a:AV} {H0:Heap},aval P noneH (fvOk e) op=some (a,H0)->aval P H (opv E) op=some (a,H)) (hk:onSome (aval P noneH (fvOk e) op) (fun r=>k (mkV r.1) h)=true) :
  Out k h.fr (aval P H (opv E) op):=by
 obtain⟨r,h1,h2⟩:=onSome_t hk
 exact .same hH (hm h1) (VA.mkV _) h2
noncomputable def bstep (ρ:Operand->Option AV) (p:Nat × Nat × Operand):Option (Nat × List AV):=match ρ p.2.2 with
 | some v=>match partCells p.2.1 v with | some cs=>some (p.1,cs) | none=>none
 | none=>none
theorem build_def (H:Heap) (ρ:Operand->Option AV) (z:List AV) (parts:List (Nat × Nat × Operand)):aval P H ρ (.build z parts)=match lmapO (bstep ρ) parts with
  | some l=>match fillC z l with | some cs=>some (.agg cs,H) | none=>none
  | none=>none:=rfl
theorem nilchk_same {ρ:Operand->Option AV} {x:Operand} {a:AV} {H':Heap} (h3:aval P H ρ (.nilchk x)=some (a,H')):ρ x=some a:=by
 simp only [aval] at h3
 cases hx:ρ x with
 | none=>rw [hx] at h3;cases h3
 | some u=>
  rw [hx] at h3
  cases u with
  | ptr p=>cases p <;> cases h3 <;> rfl
  | nilIface=>cases h3
  | nilFunc=>cases h3
  | mfunc name r=>
   cases r with
   | iface t v=>
    simp only at h3
    split at h3
    ·cases h3;rfl
    ·cases h3
   | _=>cases h3
  | _=>cases h3;rfl
theorem elemAt_rows {b n:Nat}:∀ (sz:Nat),1≤sz->elemAt ⟨b,0,0⟩ sz sz n=some ⟨b,n,0⟩:=by
 intro sz hs
 match sz,hs with
 | k+1,_=>
  have e:elemAt ⟨b,0,0⟩ (k+1) (k+1) n=(match Nat.beq (k+1) (k+1) with | true=>(match Nat.beq 0 0 with | true=>some (⟨b,Nat.add 0 n,0⟩:Pl) | false=>none) | false=>none):=rfl
  rw [e,Go.Ev.beq_self,show Nat.add 0 n=n from Nat.zero_add n]
theorem VA.isFptr {v:V} {a:AV} (hv:VA v a) (ht:v.t=16):∃ r T N row,a=.ptr (some ⟨v.c,v.e,v.b⟩)∧v.r=[r]∧v.c < 262144∧Sg.blk v.d=.rows T N v.f true∧v.e < N∧T.get v.e=some row∧row.length=v.f∧v.a+v.f≤4180 ∧
  ∀ i x,row[i]?=some x->VA (atR (v.a+i) r) x:=by
 cases hv with
 | fptr h hr hb T N hB he row hT hrow hl hv=>
  refine⟨_,T,N,row,rfl,hr,hb,hB,he,hT,hrow,hl,fun i x hx=>?_⟩
  obtain⟨hi,rfl⟩:=List.getElem?_eq_some_iff.1 hx
  exact hv i hi
 | oslc k _ _ _ _ _ _ _=>exact absurd (k.symm.trans ht) (by decide)
 | fslc k _ _ _ _ _ _ _ _ _ _ _ _ _ _ _ _ _ _ _=>exact absurd (k.symm.trans ht) (by decide)
 | sym k _ _ _ _ _=>exact absurd (k.symm.trans ht) (by decide)
 | bits k _ _ _ _ _=>exact absurd (k.symm.trans ht) (by decide)
 | _=>simp_all
theorem VA.isFslc {v:V} {a:AV} (hv:VA v a) (ht:v.t=15):∃ r n cap T N cs,a=.slice (some ⟨v.f,0,0⟩) n cap false (v.e / 2)∧v.r=[r]∧v.f < 262144∧Sg.num v.a=((n:Nat):Int)∧Sg.num (v.a+1)=((cap:Nat):Int)∧v.b≤n∧(v.e % 2=1->n=v.b)∧n < 9223372036854775808∧Sg.blk v.d=.rows T N (v.e / 2) true∧v.c≤N∧v.c≤n ∧
  (∀ i,i < v.c->T.get i=some (cs i))∧(∀ i,i < v.c->((cs:Nat->List AV) i).length=v.e / 2)∧v.c * (v.e / 2)≤4180∧∀ i,i < v.c->∀ j x,(cs i)[j]?=some x->VA (atR (i * (v.e / 2)+j) r) x:=by
 cases hv with
 | fslc h hr hb n cap hn hc hlo hhi hmax T N hB hk hkn cs hT hrow hl hv=>
  refine⟨_,n,cap,T,N,cs,rfl,hr,hb,hn,hc,hlo,hhi,hmax,hB,hk,hkn,hT,hrow,hl,fun i hi j x hx=>?_⟩
  obtain⟨hj,rfl⟩:=List.getElem?_eq_some_iff.1 hx
  exact hv i hi j hj
 | oslc k _ _ _ _ _ _ _=>exact absurd (k.symm.trans ht) (by decide)
 | fptr k _ _ _ _ _ _ _ _ _ _ _=>exact absurd (k.symm.trans ht) (by decide)
 | sym k _ _ _ _ _=>exact absurd (k.symm.trans ht) (by decide)
 | bits k _ _ _ _ _=>exact absurd (k.symm.trans ht) (by decide)
 | _=>simp_all
variable (hE:EnvR nt e E) (hH:FHr h H)
include hE hH
theorem mv_ok {x:Operand} (hx:fxs nt [x]=true) (hk:(oqmv x).run ih e h k=true):Out k h.fr (aval P H (opv E) (.mv x)):=by
 obtain⟨a,ha,hv⟩:=fx_ok hE (fxs_mem hx (List.mem_cons_self ..))
 exact .same hH (by simp only [aval,ha] <;> rfl) hv hk
theorem pick_ok {c x y:Operand} (hx:fxs nt [c,x,y]=true) (hk:(oqpick c x y).run ih e h k=true):Out k h.fr (aval P H (opv E) (.pick c x y)):=by
 obtain⟨ac,hac,hvc⟩:=fx_ok hE (fxs_mem hx (x:=c) (by simp))
 obtain⟨ax,hax,hvx⟩:=fx_ok hE (fxs_mem hx (x:=x) (by simp))
 obtain⟨ay,hay,hvy⟩:=fx_ok hE (fxs_mem hx (x:=y) (by simp))
 have hk:onBoolV ((fx c).get e) (k ((fx x).get e) h) (k ((fx y).get e) h)=true:=hk
 rcases onBoolV_ok hvc hk with⟨rfl,hk⟩|⟨rfl,hk⟩
 ·exact .same hH (by simp only [aval,hac,hax] <;> rfl) hvx hk
 ·exact .same hH (by simp only [aval,hac,hay] <;> rfl) hvy hk
theorem arith_ok {op:BinOp} {x y:Operand} (hx:fxs nt [x,y]=true) (hk:(oqarith op x y).run ih e h k=true):Out k h.fr (aval P H (opv E) (.arith op x y)):=by
 obtain⟨ax,hax,hvx⟩:=fx_ok hE (fxs_mem hx (x:=x) (by simp))
 obtain⟨ay,hay,hvy⟩:=fx_ok hE (fxs_mem hx (x:=y) (by simp))
 obtain⟨r,v,h1,h2,h3⟩:=binF_ok (op:=op) (f:=fun v=>k v h) hvx hvy hk
 exact .same hH (by simp only [aval,hax,hay,h1] <;> rfl) h2 h3
theorem eql_ok {neg:Bool} {p:EqP} {x y:Operand} (hx:fxs nt [x,y]=true) (hk:(oqeql neg p x y).run ih e h k=true):Out k h.fr (aval P H (opv E) (.eql neg p x y)):=by
 obtain⟨ax,hax,hvx⟩:=fx_ok hE (fxs_mem hx (x:=x) (by simp))
 obtain⟨ay,hay,hvy⟩:=fx_ok hE (fxs_mem hx (x:=y) (by simp))
 obtain⟨r,v,h1,h2,h3⟩:=eqlF_ok (neg:=neg) (p:=p) (f:=fun v=>k v h) hvx hvy hk
 refine .same hH ?_ h2 h3
 simp only [aval,hax,hay,h1]
 cases neg <;> rfl
theorem un_ok {op:UnOp} {x:Operand} (hx:fxs nt [x]=true) (hk:(oqun P op x).run ih e h k=true):Out k h.fr (aval P H (opv E) (.un op x)):=by
 obtain⟨ax,hax,hvx⟩:=fx_ok hE (fxs_mem hx (x:=x) (by simp))
 cases op with
 | not=>
  have hk:onBoolV ((fx x).get e) (k vF h) (k vT h)=true:=hk
  rcases onBoolV_ok hvx hk with⟨rfl,hk⟩|⟨rfl,hk⟩
  ·exact .same hH (by simp only [aval,hax];rfl) (VA.bool false) hk
  ·exact .same hH (by simp only [aval,hax];rfl) (VA.bool true) hk
 | neg=>
  have hk:iff3 (Nat.beq ((fx x).get e).t 12) (onSome (symNeg ((fx x).get e)) fun v=>k v h) (onSome (aval P noneH (fvOk e) (.un .neg x)) fun r=>k (mkV r.1) h)=true:=hk
  rcases iff3_c hk with⟨_,hk⟩|⟨_,hk⟩
  ·obtain⟨w,h1,hk⟩:=onSome_t hk
   obtain⟨m,rfl,h2,h3⟩:=symNeg_ok hvx h1
   refine .same hH ?_ h2 hk
   have e1:unV .neg (.int .i64 m)=some (.int .i64 (-m)):=by
    show mkI .i64 (0 - m)=_
    rw [Int.zero_sub,mkI_in h3]
   simp only [aval,hax,e1] <;> rfl
  ·exact gen_out hH (gm_un (fv_le hE hx)) hk
 | _=>exact gen_out hH (gm_un (fv_le hE hx)) hk
theorem convI_ok {q:IntKind} {x:Operand} (hx:fxs nt [x]=true) (hk:(oqconvI P q x).run ih e h k=true):Out k h.fr (aval P H (opv E) (.convI q x)):=by
 obtain⟨ax,hax,hvx⟩:=fx_ok hE (fxs_mem hx (x:=x) (by simp))
 have hk:iff3 (Nat.blt 11 ((fx x).get e).t) (onSome (symConv q ((fx x).get e)) fun v=>k v h) (onSome (aval P noneH (fvOk e) (.convI q x)) fun r=>k (mkV r.1) h)=true:=hk
 rcases iff3_c hk with⟨_,hk⟩|⟨_,hk⟩
 ·obtain⟨w,h1,hk⟩:=onSome_t hk
  obtain⟨kk,n,rfl,h2,h3⟩:=symConv_ok hvx h1
  exact .same hH (by simp only [aval,hax,h2] <;> rfl) h3 hk
 ·exact gen_out hH (gm_convI (fv_le hE hx)) hk
theorem mm_ok {mx:Bool} {args:List Operand} (hx:fxs nt args=true) (hk:(oqmm P mx args).run ih e h k=true):Out k h.fr (aval P H (opv E) (.minmax mx args)):=by
 have hk:iff3 (anySy (gets args e)) (onSome (mmSy mx (gets args e)) fun v=>k v h) (onSome (aval P noneH (fvOk e) (.minmax mx args)) fun r=>k (mkV r.1) h)=true:=hk
 rcases iff3_c hk with⟨_,hk⟩|⟨_,hk⟩
 ·obtain⟨w,h1,hk⟩:=onSome_t hk
  obtain⟨as,ha,hv⟩:=gets_ok hE hx
  obtain⟨a,l,r,rfl,h2,h3⟩:=mmSy_ok hv h1
  exact .same hH (by simp only [aval,ha,h2] <;> rfl) h3 hk
 ·exact gen_out hH (gm_minmax (fv_le hE hx)) hk
theorem nilchk_ok {x:Operand} (hx:fxs nt [x]=true) (hk:(oqnilchk P x).run ih e h k=true):Out k h.fr (aval P H (opv E) (.nilchk x)):=by
 obtain⟨ax,hax,hvx⟩:=fx_ok hE (fxs_mem hx (x:=x) (by simp))
 have hk:iff3 (Nat.beq ((fx x).get e).t 4) (k ((fx x).get e) h) (iff3 (Nat.beq ((fx x).get e).t 8) (k ((fx x).get e) h) (onSome (aval P noneH (fvOk e) (.nilchk x)) fun _=>k ((fx x).get e) h))=true:=hk
 rcases iff3_c hk with⟨hb,hk⟩|⟨_,hk⟩
 ·obtain⟨rfl,_⟩:=hvx.is4 (beq_t hb)
  exact .same hH (by simp only [aval,hax] <;> rfl) hvx hk
 ·rcases iff3_c hk with⟨hb,hk⟩ | ⟨_,hk⟩
  ·obtain⟨r,xs,ys,rfl,_⟩:=hvx.is8 (beq_t hb)
   exact .same hH (by simp only [aval,hax] <;> rfl) hvx hk
  ·obtain⟨r,h1,h2⟩:=onSome_t hk
   have h3:=gm_nilchk (H:=H) (fv_le hE hx) h1
   refine .same hH h3 ?_ h2
   have:=nilchk_same h3
   rw [hax] at this
   cases this
   exact hvx
theorem mkfn_ok {f:FuncId} {x y:List Operand} (hx:fxs nt (lapp x y)=true) (hk:(oqmkfn f x y).run ih e h k=true):Out k h.fr (aval P H (opv E) (.mkfn f x y)):=by
 rw [lapp_eq] at hx
 have hx1:fxs nt x=true:=(lall_iff _ _).2 fun z hz=>fxs_mem hx (List.mem_append_left _ hz)
 have hx2:fxs nt y=true:=(lall_iff _ _).2 fun z hz=>fxs_mem hx (List.mem_append_right _ hz)
 obtain⟨as,ha,hva⟩:=gets_ok hE hx1
 obtain⟨bs,hb,hvb⟩:=gets_ok hE hx2
 unfold oqmkfn at hk
 split at hk
 ·rename_i hl
  have hl:llen x+llen y≤4180:=ble_true.1 hl
  have la:as.length=llen x:=by rw [llen_eq];exact(lmapO_get ha).1
  have lb:bs.length=llen y:=by rw [llen_eq];exact(lmapO_get hb).1
  refine .same (v:=vFn f (llen x) (llen y) (rowV (lapp (gets x e) (gets y e)))) hH (by simp only [aval,ha,hb] <;> rfl) ?_ hk
  have hr:∀ (i:Nat) (c:AV),(as++bs)[i]?=some c->VA (atR i (rowV (lapp (gets x e) (gets y e)))) c:=by
   intro i c hc
   rw [lapp_eq]
   have:=(hva.append hvb).row (o:=0) (r:=row0) (by rw [List.length_append,la,lb];omega) i c hc
   rwa [Nat.zero_add] at this
  refine VA.mkFn la lb hl (fun i c hc=>hr i c ?_) (fun i c hc=>hr _ c ?_)
  ·obtain⟨hi,_⟩:=List.getElem?_eq_some_iff.1 hc
   rw [List.getElem?_append_left hi];exact hc
  ·rw [List.getElem?_append_right (by omega),la,Nat.add_sub_cancel_left];exact hc
 ·cases hk
theorem faddr_ok {off:Nat} {x:Operand} (hx:fxs nt [x]=true) (hk:(oqfaddr off x).run ih e h k=true):Out k h.fr (aval P H (opv E) (.faddr off x)):=by
 obtain⟨ax,hax,hvx⟩:=fx_ok hE (fxs_mem hx (x:=x) (by simp))
 have hk:iff3 (Nat.beq ((fx x).get e).t 4) (k (vP ((fx x).get e).c ((fx x).get e).b (Nat.add ((fx x).get e).a off)) h) (iff3 (Nat.beq ((fx x).get e).t 16) (k (fpOff ((fx x).get e) off) h) false)=true:=hk
 rcases iff3_c hk with⟨hb,hk⟩|⟨_,hk⟩
 ·obtain⟨rfl,hlt⟩:=hvx.is4 (beq_t hb)
  exact .same hH (by simp only [aval,hax] <;> rfl) (VA.mkP hlt) hk
 ·obtain⟨hb,hk⟩:=iff3_f hk
  obtain⟨r,T,N,row,rfl,hr,hb',hB,he,hT,hrow,hl,hcell⟩:=hvx.isFptr (beq_t hb)
  refine .same hH (by simp only [aval,hax] <;> rfl) ?_ hk
  exact .fptr (v:=fpOff ((fx x).get e) off) (r:=r) rfl hr hb' T N hB he row hT hrow hl (fun i hi=>hcell i _ (List.getElem?_eq_getElem hi))
theorem fld_ok {off n:Nat} {g:Bool} {x:Operand} (hx:fxs nt [x]=true) (hk:(oqfld off n g x).run ih e h k=true):Out k h.fr (aval P H (opv E) (.fld off n g x)):=by
 obtain⟨ax,hax,hvx⟩:=fx_ok hE (fxs_mem hx (x:=x) (by simp))
 cases g with
 | true=>
  have hk:iff3 (andB (Nat.beq ((fx x).get e).t 9) (Nat.ble (Nat.add off n) ((fx x).get e).b)) (onOne ((fx x).get e).r fun r=>k (vAgg r (Nat.add ((fx x).get e).a off) n) h) false=true:=hk
  obtain⟨hb,hk⟩:=iff3_f hk
  obtain⟨h1,h2⟩:=andB_t hb
  obtain⟨cs,r,rfl,hr,hc,hl,hcell⟩:=hvx.is9 (beq_t h1)
  have hk:=onOne_t hk hr
  have h2:off+n≤_:=ble_true.1 h2
  have hp:part true cs off n=some (.agg ((cs.drop off).take n)):=by
   unfold part
   simp only
   rw [ldrop_eq,ltake_of (by rw [List.length_drop];omega)]
  refine .same hH (by simp only [aval,hax,hp] <;> rfl) ?_ hk
  refine VA.mkAgg (by rw [List.length_take,List.length_drop];omega) (by show _+off+n≤4180;omega) (fun i c hi=>?_)
  obtain⟨hlt,_⟩:=List.getElem?_eq_some_iff.1 hi
  rw [List.length_take] at hlt
  rw [List.getElem?_take,if_pos (by omega),List.getElem?_drop] at hi
  have:=hcell _ c hi
  rwa [<- Nat.add_assoc] at this
 | false=>
  have hk:iff3 (andB (Nat.beq ((fx x).get e).t 9) (Nat.blt off ((fx x).get e).b)) (onOne ((fx x).get e).r fun r=>frc (Nat.add ((fx x).get e).a off) fun o=>k (rg o r) h) false=true:=hk
  obtain⟨hb,hk⟩:=iff3_f hk
  obtain⟨h1,h2⟩:=andB_t hb
  obtain⟨cs,r,rfl,hr,hc,hl,hcell⟩:=hvx.is9 (beq_t h1)
  have hk:=onOne_t hk hr
  rw [frc_eq] at hk
  have h2:=blt_true.1 h2
  have hlt:off < cs.length:=by rw [hc];exact h2
  have hp:part false cs off n=some cs[off]:=by
   unfold part
   simp only
   rw [lget_eq,List.getElem?_eq_getElem hlt]
  refine .same hH (by simp only [aval,hax,hp] <;> rfl) ?_ hk
  rw [rg_eq]
  exact hcell off _ (List.getElem?_eq_getElem hlt)
theorem iaddrS_ok {sz:Nat} {x i:Operand} (hx:fxs nt [x,i]=true) (hk:(oqiaddrS sz x i).run ih e h k=true):Out k h.fr (aval P H (opv E) (.iaddrS sz x i)):=by
 obtain⟨ax,hax,hvx⟩:=fx_ok hE (fxs_mem hx (x:=x) (by simp))
 obtain⟨ai,hai,hvi⟩:=fx_ok hE (fxs_mem hx (x:=i) (by simp))
 unfold oqiaddrS at hk
 split at hk
 ·rename_i hsz
  obtain⟨s1,s2⟩:=(Bool.and_eq_true _ _).mp hsz
  have s1:=ble_true.1 s1
  have s2:=ble_true.1 s2
  have hk:iff3 (Nat.beq ((fx x).get e).t 5) (onIntV ((fx i).get e) fun n=>iff3 (Nat.blt n ((fx x).get e).c)
    (elemF ((fx x).get e).f ((fx x).get e).e ((fx x).get e).d (Nat.div ((fx x).get e).a 2) sz n fun r o=>k (vP ((fx x).get e).f r o) h) false) (iff3 (andB (Nat.beq ((fx x).get e).t 15) (Nat.beq (Nat.div ((fx x).get e).e 2) sz)) (onIntV ((fx i).get e) fun n=>iff3 (Nat.blt n ((fx x).get e).c) (k (fpAt ((fx x).get e) sz n) h) false) false)=true:=hk
  rcases iff3_c hk with⟨hb,hk⟩|⟨_,hk⟩
  rotate_left
  ·obtain⟨hb,hk⟩:=iff3_f hk
   obtain⟨hb,hs⟩:=andB_t hb
   have hs:((fx x).get e).e / 2=sz:=beq_t hs
   obtain⟨r,n0,cap,T,N,cs,rfl,hr,hb',hn,hc,hlo,hhi,hmax,hB,hkN,hkn,hT,hrow,hl,hcell⟩:=hvx.isFslc (beq_t hb)
   obtain⟨n,rfl,hk⟩:=onIntV_ok hvi hk
   obtain⟨hn,hk⟩:=iff3_f hk
   have hn:n < ((fx x).get e).c:=blt_true.1 hn
   rw [hs] at hB hrow hl hcell
   have hmul:n * sz+sz≤((fx x).get e).c * sz:=by
    have:=Nat.mul_le_mul_right sz (show n+1≤((fx x).get e).c from hn)
    rwa [Nat.add_mul,Nat.one_mul] at this
   have hel:elemAt ⟨((fx x).get e).f,0,0⟩ (((fx x).get e).e / 2) sz n=some ⟨((fx x).get e).f,n,0⟩:=by
    rw [hs]
    exact elemAt_rows _ s1
   refine .same hH (a:=.ptr (some ⟨((fx x).get e).f,n,0⟩)) ?_ ?_ hk
   ·simp only [aval,hax,hai,blt_true.2 (show n < n0 by omega),hel]
   ·refine .fptr (v:=fpAt ((fx x).get e) sz n) (r:=r) rfl hr hb' T N hB (show n < N by omega) (cs n) (hT n hn) (hrow n hn) (show n * sz+sz≤4180 by omega) (fun j hj=>hcell n hn j _ (List.getElem?_eq_getElem hj))
  obtain⟨rfl,hlt⟩:=hvx.is5 (beq_t hb)
  obtain⟨n,rfl,hk⟩:=onIntV_ok hvi hk
  obtain⟨hn,hk⟩:=iff3_f hk
  obtain⟨r',o',he,hk⟩:=elemF_ok hk s1 s2
  refine .same hH ?_ (VA.mkP hlt) hk
  have he:elemAt ⟨((fx x).get e).f,((fx x).get e).e,((fx x).get e).d⟩ (((fx x).get e).a / 2) sz n=some ⟨((fx x).get e).f,r',o'⟩:=he
  simp only [aval,hax,hai,hn,he]
 ·cases hk
theorem iaddrA_ok {len sz:Nat} {x i:Operand} (hx:fxs nt [x,i]=true) (hk:(oqiaddrA len sz x i).run ih e h k=true):Out k h.fr (aval P H (opv E) (.iaddrA len sz x i)):=by
 obtain⟨ax,hax,hvx⟩:=fx_ok hE (fxs_mem hx (x:=x) (by simp))
 obtain⟨ai,hai,hvi⟩:=fx_ok hE (fxs_mem hx (x:=i) (by simp))
 have hk:iff3 (Nat.beq ((fx x).get e).t 4) (onIntV ((fx i).get e) fun n=>iff3 (Nat.blt n len) (k (vP ((fx x).get e).c ((fx x).get e).b (Nat.add ((fx x).get e).a (Nat.mul n sz))) h) false) false=true:=hk
 obtain⟨hb,hk⟩:=iff3_f hk
 obtain⟨rfl,hlt⟩:=hvx.is4 (beq_t hb)
 obtain⟨n,rfl,hk⟩:=onIntV_ok hvi hk
 obtain⟨hn,hk⟩:=iff3_f hk
 exact .same hH (by simp only [aval,hax,hai,hn];rfl) (VA.mkP hlt) hk
theorem idxA_ok {len sz:Nat} {g:Bool} {x i:Operand} (hx:fxs nt [x,i]=true) (hk:(oqidxA len sz g x i).run ih e h k=true):Out k h.fr (aval P H (opv E) (.idxA len sz g x i)):=by
 obtain⟨ax,hax,hvx⟩:=fx_ok hE (fxs_mem hx (x:=x) (by simp))
 obtain⟨ai,hai,hvi⟩:=fx_ok hE (fxs_mem hx (x:=i) (by simp))
 cases g with
 | true=>
  have hk:iff3 (Nat.beq ((fx x).get e).t 9) (onIntV ((fx i).get e) fun n=>iff3 (andB (Nat.blt n len) (Nat.ble (Nat.add (Nat.mul n sz) sz) ((fx x).get e).b)) (onOne ((fx x).get e).r fun r=>k (vAgg r (Nat.add ((fx x).get e).a (Nat.mul n sz)) sz) h) false) false=true:=hk
  obtain⟨hb,hk⟩:=iff3_f hk
  obtain⟨cs,r,rfl,hr,hc,hl,hcell⟩:=hvx.is9 (beq_t hb)
  obtain⟨n,rfl,hk⟩:=onIntV_ok hvi hk
  obtain⟨hn,hk⟩:=iff3_f hk
  obtain⟨h1,h2⟩:=andB_t hn
  have hk:=onOne_t hk hr
  have h2:n * sz+sz≤_:=ble_true.1 h2
  have hp:part true cs (Nat.mul n sz) sz=some (.agg ((cs.drop (n * sz)).take sz)):=by
   unfold part
   simp only
   rw [ldrop_eq]
   exact congrArg (fun z=>match z with | some l=>some (AV.agg l) | none=>none) (ltake_of (by rw [List.length_drop];show sz≤cs.length - n * sz;omega))
  refine .same hH (by simp only [aval,hax,hai,h1,hp] <;> rfl) ?_ hk
  refine VA.mkAgg (by rw [List.length_take,List.length_drop];omega) (by show _+n * sz+sz≤4180;omega) (fun i c hi=>?_)
  obtain⟨hlt,_⟩:=List.getElem?_eq_some_iff.1 hi
  rw [List.length_take] at hlt
  rw [List.getElem?_take,if_pos (by omega),List.getElem?_drop] at hi
  have:=hcell _ c hi
  rwa [<- Nat.add_assoc] at this
 | false=>
  have hk:iff3 (Nat.beq ((fx x).get e).t 9) (onIntV ((fx i).get e) fun n=>iff3 (andB (Nat.blt n len) (Nat.blt (Nat.mul n sz) ((fx x).get e).b)) (onOne ((fx x).get e).r fun r=>frc (Nat.add ((fx x).get e).a (Nat.mul n sz)) fun o=>k (rg o r) h) false) false=true:=hk
  obtain⟨hb,hk⟩:=iff3_f hk
  obtain⟨cs,r,rfl,hr,hc,hl,hcell⟩:=hvx.is9 (beq_t hb)
  obtain⟨n,rfl,hk⟩:=onIntV_ok hvi hk
  obtain⟨hn,hk⟩:=iff3_f hk
  obtain⟨h1,h2⟩:=andB_t hn
  have hk:=onOne_t hk hr
  rw [frc_eq] at hk
  have h2:n * sz < _:=blt_true.1 h2
  have hlt:n * sz < cs.length:=by rw [hc];exact h2
  have hp:part false cs (Nat.mul n sz) sz=some cs[n * sz]:=by
   unfold part
   simp only
   rw [lget_eq]
   exact List.getElem?_eq_getElem hlt
  refine .same hH (by simp only [aval,hax,hai,h1,hp] <;> rfl) ?_ hk
  rw [rg_eq]
  exact hcell (n * sz) _ (List.getElem?_eq_getElem hlt)
theorem extract_ok {x:Operand} {i:Nat} (hx:fxs nt [x]=true) (hk:(oqextract x i).run ih e h k=true):Out k h.fr (aval P H (opv E) (.extract x i)):=by
 obtain⟨ax,hax,hvx⟩:=fx_ok hE (fxs_mem hx (x:=x) (by simp))
 have hk:iff3 (andB (Nat.beq ((fx x).get e).t 10) (Nat.blt i ((fx x).get e).b)) (onOne ((fx x).get e).r fun r=>k ((racN i).g V r) h) false=true:=hk
 obtain⟨hb,hk⟩:=iff3_f hk
 obtain⟨h1,h2⟩:=andB_t hb
 obtain⟨cs,r,rfl,hr,hc,hl,hcell⟩:=hvx.is10 (beq_t h1)
 have hk:=onOne_t hk hr
 have hlt:i < cs.length:=by rw [hc];exact blt_true.1 h2
 have hp:lget cs i=some cs[i]:=by rw [lget_eq,List.getElem?_eq_getElem hlt]
 refine .same hH (by simp only [aval,hax,hp] <;> rfl) ?_ hk
 rw [(racN_eq i V).1]
 exact hcell i _ (List.getElem?_eq_getElem hlt)
omit hE hH in
theorem lenS_oslA {H:Heap} {ρ:Operand->Option AV} {x:Operand} {f sz m:Nat} (h:ρ x=some (oslA f sz m)):aval P H ρ (.lenS x)=some (.int .i64 (.ofNat m),H):=by
 cases m <;> (simp only [aval,h,oslA])
theorem lenS_ok {x:Operand} (hx:fxs nt [x]=true) (hk:(oqlenS P x).run ih e h k=true):Out k h.fr (aval P H (opv E) (.lenS x)):=by
 obtain⟨ax,hax,hvx⟩:=fx_ok hE (fxs_mem hx (x:=x) (by simp))
 have hk:iff3 (andB (Nat.beq ((fx x).get e).t 5) (Nat.blt ((fx x).get e).c bias)) (k (vI (Nat.add ((fx x).get e).c bias)) h) (iff3 (Nat.beq ((fx x).get e).t 15) (k (fpLen ((fx x).get e)) h) (iff3 (Nat.beq ((fx x).get e).t 17) (k (fqLen ((fx x).get e)) h) (onSome (aval P noneH (fvOk e) (.lenS x)) fun r=>k (mkV r.1) h)))=true:=hk
 rcases iff3_c hk with⟨hb,hk⟩|⟨_,hk⟩
 rotate_left
 ·rcases iff3_c hk with⟨hb,hk⟩ | ⟨_,hk⟩
  ·obtain⟨r,n,cap,T,N,cs,rfl,hr,hb',hn,hc,hlo,hhi,hmax,_⟩:=hvx.isFslc (beq_t hb)
   refine .same hH (a:=.int .i64 (.ofNat n)) (by simp only [aval,hax] <;> rfl) ?_ hk
   have hbi:bias=4611686018427387904:=rfl
   refine VA.mkSym rfl rfl ?_ ?_ ?_ ?_ rfl
   ·show Sg.num ((fx x).get e).a+((bias:Int) - bias)=_
    rw [hn]
    show (n:Int)+((bias:Int) - bias)=(n:Int)
    omega
   ·show ((((fx x).get e).b+(bias+bias):Nat):Int) - 2 * bias≤(n:Int)
    omega
   ·show (n:Int)≤((Bool.rec (motive:=fun _=>Nat) 18446744073709551615 (((fx x).get e).b+(bias+bias)) (Nat.beq (((fx x).get e).e % 2) 1):Nat):Int) - 2 * bias
    cases hq:Nat.beq (((fx x).get e).e % 2) 1 with
    | true=>
     have:=hhi (beq_t hq)
     show (n:Int)≤((((fx x).get e).b+(bias+bias):Nat):Int) - 2 * bias
     omega
    | false=>
     show (n:Int)≤((18446744073709551615:Nat):Int) - 2 * bias
     omega
   ·show (Bool.rec (motive:=fun _=>Nat) 18446744073709551615 (((fx x).get e).b+(bias+bias)) (Nat.beq (((fx x).get e).e % 2) 1):Nat) < 18446744073709551616
    cases hq:Nat.beq (((fx x).get e).e % 2) 1 with
    | true=>show ((fx x).get e).b+(bias+bias) < _;omega
    | false=>show 18446744073709551615 < _;omega
  rcases iff3_c hk with⟨hb,hk⟩|⟨_,hk⟩
  ·obtain⟨n,rfl,hb',hn,hlo,hhi,hmax,hm2⟩:=hvx.isOsl (beq_t hb)
   have hbi:bias=4611686018427387904:=rfl
   have ha:aval P H (opv E) (.lenS x)=some (.int .i64 (.ofNat (n+((fx x).get e).b)),H):=lenS_oslA hax
   refine .same hH ha ?_ hk
   refine VA.mkSym rfl rfl ?_ ?_ ?_ ?_ rfl
   ·show Sg.num ((fx x).get e).a+(((bias+((fx x).get e).b:Nat):Int) - bias)=((n+((fx x).get e).b:Nat):Int)
    rw [hn]
    omega
   ·show (((((fx x).get e).c+((fx x).get e).b)+(bias+bias):Nat):Int) - 2 * bias≤((n+((fx x).get e).b:Nat):Int)
    omega
   ·show ((n+((fx x).get e).b:Nat):Int)≤(((((fx x).get e).d+((fx x).get e).b)+(bias+bias):Nat):Int) - 2 * bias
    omega
   ·show (((fx x).get e).d+((fx x).get e).b)+(bias+bias) < 18446744073709551616
    omega
  ·exact gen_out hH (gm_lenS (fv_le hE hx)) hk
 ·obtain⟨h1,h2⟩:=andB_t hb
  obtain⟨rfl,_⟩:=hvx.is5 (beq_t h1)
  refine .same hH (a:=.int .i64 (.ofNat ((fx x).get e).c)) (by simp only [aval,hax] <;> rfl) ?_ hk
  have:=VA.mkI (bias_lt (blt_true.1 h2)).1
  rw [unb_nat] at this
  exact this
theorem lenM_ok {x:Operand} (hx:fxs nt [x]=true) (hk:(oqlenM P x).run ih e h k=true):Out k h.fr (aval P H (opv E) (.lenM x)):=by
 obtain⟨ax,hax,hvx⟩:=fx_ok hE (fxs_mem hx (x:=x) (by simp))
 have hk:iff3 (Nat.beq ((fx x).get e).t 7) (frc ((fx x).get e).a fun b=>iff3 (Nat.beq (hget b h).t 2) (k (mkV (.int .i64 (.ofNat (llen (hget b h).m)))) h) false) (iff3 (Nat.beq ((fx x).get e).t 0) (onSome (aval P noneH (fvOk e) (.lenM x)) fun r=>k (mkV r.1) h) false)=true:=hk
 rcases iff3_c hk with⟨hb,hk⟩|⟨_,hk⟩
 ·obtain⟨rfl,hlt⟩:=hvx.is7 (beq_t hb)
  rw [frc_eq] at hk
  obtain⟨hb,hk⟩:=iff3_f hk
  have hm:=(hH.block _ hlt).map (beq_t hb)
  exact .same hH (by simp only [aval,hax,hm] <;> rfl) (VA.mkV _) hk
 ·obtain⟨_,hk⟩:=iff3_f hk
  exact gen_out hH (gm_lenM (fv_le hE hx)) hk
theorem look_ok {kk:EqP} {z:AV} {ok:Bool} {m q:Operand} (hx:fxs nt [m,q]=true) (hk:(oqlook P kk z ok m q).run ih e h k=true):Out k h.fr (aval P H (opv E) (.look kk z ok m q)):=by
 obtain⟨am,ham,hvm⟩:=fx_ok hE (fxs_mem hx (x:=m) (by simp))
 obtain⟨aq,haq,hvq⟩:=fx_ok hE (fxs_mem hx (x:=q) (by simp))
 have hk:iff3 (Nat.beq ((fx m).get e).t 7)
    (frc ((fx m).get e).a fun b=>iff3 (Nat.beq (hget b h).t 2) (onSome (av ((fx q).get e)) fun kv=>onSome (lookInF kk kv (hget b h).m) fun o=>k (mapVal (mkV z) ok o) h) false)
    (iff3 (Nat.beq ((fx m).get e).t 0) (onSome (aval P noneH (fvOk e) (.look kk z ok m q)) fun r=>k (mkV r.1) h) false)=true:=hk
 rcases iff3_c hk with⟨hb,hk⟩|⟨_,hk⟩
 ·obtain⟨rfl,hlt⟩:=hvm.is7 (beq_t hb)
  rw [frc_eq] at hk
  obtain⟨hb,hk⟩:=iff3_f hk
  have hm:=(hH.block _ hlt).map (beq_t hb)
  obtain⟨kv,h1,hk⟩:=onSome_t hk
  obtain⟨o,h2,hk⟩:=onSome_t hk
  rw [lookInF_eq,<- av_ok hvq h1] at h2
  have tup:∀ {v:AV} {w:V} {b:Bool} {u:V},VA w v->VA u (.bool b)->VA (vTup (rowV [w,u]) 2) (.tuple [v,.bool b]):=by
   intro v w b u hw hu
   refine VA.mkTup rfl (by omega) (fun i c hc=>?_)
   have:=(VAs.cons hw (VAs.cons hu .nil)).row (o:=0) (r:=row0) (by simp) i c hc
   rwa [Nat.zero_add] at this
  cases o with
  | none=>
   refine .same hH (a:=withOk ok z false) (by simp only [aval,ham,haq,hm,h2] <;> rfl) ?_ hk
   cases ok with
   | true=>exact tup (VA.mkV z) (VA.bool false)
   | false=>exact VA.mkV z
  | some v=>
   refine .same hH (a:=withOk ok v true) (by simp only [aval,ham,haq,hm,h2] <;> rfl) ?_ hk
   cases ok with
   | true=>exact tup (VA.mkV v) (VA.bool true)
   | false=>exact VA.mkV v
 ·obtain⟨_,hk⟩:=iff3_f hk
  exact gen_out hH (gm_look (fv_le hE hx)) hk
theorem slc_ok {sz:Nat} {x:Operand} {lo hi mx:Option Operand} (hx:fxs nt (AOp.slc sz x lo hi mx).opers=true) (hk:(oqslc P sz x lo hi mx).run ih e h k=true):Out k h.fr (aval P H (opv E) (.slc sz x lo hi mx)):=by
 cases mx with
 | none=>
  have hk:iff3 (Nat.beq ((fx x).get e).t 5) (onSome (aval P noneH (fvOk e) (.slc sz x lo hi none)) fun r=>k (mkV r.1) h) (onSome (aval P noneH (fvOk e) (.slc sz x lo hi none)) fun r=>k (mkV r.1) h)=true:=hk
  rcases iff3_c hk with⟨_,hk⟩|⟨_,hk⟩ <;> exact gen_out hH (gm_slc (fv_le hE hx)) hk
 | some m=>exact gen_out hH (gm_slc (fv_le hE hx)) hk
omit hE in
theorem rowAt_ok {b r o n:Nat} {f:R V->Bool} (hb:b < 262144) (hk:rowAt h b r o n f=true):∃ row,H.read ⟨b,r,o⟩ n=some ((row.drop o).take n)∧RVA (hget b h).sz (atR r (hget b h).rs) row∧o+n≤(hget b h).sz∧f (atR r (hget b h).rs)=true:=by
 unfold rowAt at hk
 rw [frc_eq,frc_eq] at hk
 obtain⟨hc,hk⟩:=iff3_f hk
 obtain⟨h1,h2⟩:=andB_t hc
 have h2:o+n≤(hget b h).sz:=ble_true.1 h2
 obtain⟨row,h3,h4⟩:=hH.read hb (blt_true.1 h1) h2
 rw [rg_eq] at hk
 exact⟨row,h3,h4,h2,hk⟩
omit hE in
theorem onFp_ok {v:V} {a:AV} {n:Nat} {f:R V->Nat->Bool} (hv:VA v a) (hk:onFp v h n f=true):∃ (row:List AV) (r:R V),a=.ptr (some ⟨v.c,v.e,v.b⟩)∧H.read ⟨v.c,v.e,v.b⟩ n=some ((row.drop v.b).take n)∧v.b+n≤row.length∧v.a+row.length≤4180 ∧
  (∀ i x,row[i]?=some x->VA (atR (v.a+i) r) x)∧f r (v.a+v.b)=true:=by
 unfold onFp at hk
 obtain⟨hc,hk⟩:=iff3_f hk
 obtain⟨h1,h2⟩:=andB_t hc
 obtain⟨h1,h3⟩:=andB_t h1
 obtain⟨h4,h5⟩:=andB_t h2
 have h4:(hget v.c h).lp.nt=v.d:=beq_t h4
 have h5:v.b+n≤v.f:=ble_true.1 h5
 obtain⟨r,T,N,row,rfl,hr,hb,hB,he,hT,hrow,hl,hcell⟩:=hv.isFptr (beq_t h1)
 have ho:=(hH.block v.c hb).opq (beq_t h3)
 rw [h4,hB] at ho
 have hk:=onOne_t (f:=fun r=>f r (Nat.add v.a v.b)) hk hr
 refine⟨row,r,rfl,?_,by omega,by omega,hcell,hk⟩
 unfold Heap.read
 simp only [ho,blt_true.2 he,hT,ldrop_eq]
 exact ltake_of (by rw [List.length_drop];omega)
omit hE in
theorem loadF_ok {n:Nat} {g:Bool} {x:Fx} {a:AV} (hv:VA (x.get e) a) (hk:(loadF n g x).run ih e h k=true) :
  ∃ p l u v,a=.ptr (some p)∧H.read p n=some l∧(match g with | true=>some (.agg l) | false=>(match l with | [v]=>some v | _=>none))=some u∧VA v u∧k v h=true:=by
 cases g with
 | true=>
  have hk:iff3 (Nat.beq (x.get e).t 4) (rowAt h (x.get e).c (x.get e).b (x.get e).a n fun row=>k (vAgg row (x.get e).a n) h) (onFp (x.get e) h n fun r o=>k (vAgg r o n) h)=true:=hk
  rcases iff3_c hk with⟨hb,hk⟩|⟨_,hk⟩
  ·obtain⟨rfl,hlt⟩:=hv.is4 (beq_t hb)
   obtain⟨row,h1,h2,h3,h4⟩:=rowAt_ok hH hlt hk
   exact⟨_,_,_,_,rfl,h1,rfl,h2.agg _ _ h3,h4⟩
  ·obtain⟨row,r,rfl,h1,h2,h3,h4,h5⟩:=onFp_ok hH hv hk
   refine⟨_,_,_,_,rfl,h1,rfl,?_,h5⟩
   refine VA.mkAgg (by rw [List.length_take,List.length_drop];omega) (by omega) fun i c hc=>?_
   have hi:i < n:=by
    have:=(List.getElem?_eq_some_iff.1 hc).1
    rw [List.length_take] at this
    omega
   rw [List.getElem?_take_of_lt hi,List.getElem?_drop] at hc
   rw [Nat.add_assoc]
   exact h4 _ _ hc
 | false=>
  match n,hk with
  | 0,hk=>cases hk
  | n+2,hk=>cases hk
  | 1,hk=>
   have hk:iff3 (Nat.beq (x.get e).t 4) (rowAt h (x.get e).c (x.get e).b (x.get e).a 1 fun row=>frc (x.get e).a fun o=>k (rg o row) h) (onFp (x.get e) h 1 fun r o=>frc o fun o=>k (rg o r) h)=true:=hk
   rcases iff3_c hk with⟨hb,hk⟩|⟨_,hk⟩
   ·obtain⟨rfl,hlt⟩:=hv.is4 (beq_t hb)
    obtain⟨row,h1,h2,h3,h4⟩:=rowAt_ok hH hlt hk
    rw [frc_eq,rg_eq] at h4
    obtain⟨c,hc,hvc⟩:=h2.get (i:=(x.get e).a) (by omega)
    have hl:(row.drop (x.get e).a).take 1=[c]:=by
     obtain⟨hi,rfl⟩:=List.getElem?_eq_some_iff.1 hc
     rw [List.drop_eq_getElem_cons hi]
     rfl
    refine⟨_,_,c,_,rfl,h1,?_,hvc,h4⟩
    rw [hl]
   ·obtain⟨row,r,rfl,h1,h2,h3,h4,h5⟩:=onFp_ok hH hv hk
    have h5:(frc ((x.get e).a+(x.get e).b) fun o=>k (rg o r) h)=true:=h5
    rw [frc_eq,rg_eq] at h5
    have hi:(x.get e).b < row.length:=by omega
    have hl:(row.drop (x.get e).b).take 1=[row[(x.get e).b]]:=by
     rw [List.drop_eq_getElem_cons hi]
     rfl
    refine⟨_,_,row[(x.get e).b],_,rfl,h1,?_,h4 _ _ (List.getElem?_eq_getElem hi),h5⟩
    rw [hl]
theorem load_ok {n:Nat} {g:Bool} {x:Operand} (hx:fxs nt [x]=true) (hk:(oqload g n x).run ih e h k=true):Out k h.fr (aval P H (opv E) (.load g n x)):=by
 obtain⟨ax,hax,hvx⟩:=fx_ok hE (fxs_mem hx (x:=x) (by simp))
 obtain⟨p,l,u,v,rfl,h1,h2,h3,h4⟩:=loadF_ok (x:=fx x) hH hvx hk
 refine .same hH (a:=u) ?_ h3 h4
 simp only [aval,hax,h1]
 cases g with
 | true=>cases h2;rfl
 | false=>
  simp only at h2 ⊢
  split at h2
  ·cases h2;rfl
  ·cases h2
omit hH in
theorem build_go {z:List AV} {n:Nat}:∀ (parts:List (Nat × Nat × Operand)) (cs:List AV) (r:R V) (f:R V->Bool),fxs nt (parts.map fun p=>p.2.2)=true->partsIn n parts=true->RVA n r cs->buildF parts e f r=true ->
  ∃ l cs' r',lmapO (bstep (opv E)) parts=some l∧fillC cs l=some cs'∧RVA n r' cs'∧f r'=true:=by
 intro parts
 induction parts with
 | nil=>intro cs r f _ _ hr hf;exact⟨[],cs,r,rfl,rfl,hr,hf⟩
 | cons p parts ih=>
  intro cs r f hx hin hr hf
  obtain⟨hx1,hx2⟩:=(lall_cons _ _ _).1 hx
  obtain⟨hi1,hi2⟩:=(lall_cons _ _ _).1 hin
  obtain⟨a,ha,hv⟩:=fx_ok hE hx1
  have hf:(pcF p.2.1 p.1).run ((fx p.2.2).get e) r (buildF parts e f)=true:=hf
  have hi1:p.1+p.2.1≤n:=ble_true.1 hi1
  have hsm:=hr.small
  obtain⟨ps,r1,h1,h2,h3,h4,h5⟩:=pcF_ok hv (by omega) hf
  have hput:lput cs p.1 ps=some (cs.take p.1++(ps++cs.drop (p.1+ps.length))):=lput_ok (by rw [hr.len,h2];exact hi1)
  have hr1:RVA n r1 (cs.take p.1++(ps++cs.drop (p.1+ps.length))):=hr.lput (by rw [h2];exact hi1) h3 (fun j hj hn=>h4 j (by omega) (by rw [<- h2];exact hn))
  obtain⟨l,cs',r',k1,k2,k3,k4⟩:=ih _ r1 f hx2 hi2 hr1 h5
  refine⟨(p.1,ps)::l,cs',r',?_,?_,k3,k4⟩
  ·rw [lmapO_cons]
   exact⟨(p.1,ps),l,by simp only [bstep,ha,h1],k1,rfl⟩
  ·unfold fillC at k2 ⊢
   rw [lfold_cons]
   exact⟨_,hput,k2⟩
theorem build_ok {z:List AV} {parts:List (Nat × Nat × Operand)} (hx:fxs nt (AOp.build z parts).opers=true) (hk:(oqbuild z parts).run ih e h k=true):Out k h.fr (aval P H (opv E) (.build z parts)):=by
 unfold oqbuild at hk
 split at hk
 ·rename_i hc
  obtain⟨hc,hp⟩:=(Bool.and_eq_true _ _).mp hc
  obtain⟨hl,_⟩:=(Bool.and_eq_true _ _).mp hc
  have hl:=ble_true.1 hl
  rw [llen_eq] at hl
  rw [llen_eq] at hp
  have hk:buildF parts e (fun r=>k (vAgg r 0 (llen z)) h) (rowA z)=true:=hk
  obtain⟨l,cs',r',h1,h2,h3,h4⟩:=build_go (z:=z) hE parts z (rowA z) _ hx hp (rowA_ok hl) hk
  refine .same hH (a:=.agg cs') (by rw [build_def,h1];simp only [h2]) ?_ h4
  rw [llen_eq]
  refine VA.mkAgg h3.len (by omega) (fun i c hc=>?_)
  rw [Nat.zero_add]
  exact h3.cell i c hc
 ·cases hk
end
end Go.Ev
namespace Go.Ev
variable [Sg]
theorem at_rp (α:Type) (x:α) (d:Nat):sel4 d (rp x)=x:=by
 unfold sel4;split <;> rfl
theorem at_rp64 {α:Type} (x:α) (i:Nat):at64 i (rp64 x)=x:=by
 unfold at64 rp64 rp16
 rw [at_rp,at_rp,at_rp]
theorem at_rpR {α:Type} (x:α) (i:Nat):atR i (rpR x)=x:=by
 unfold atR
 split
 ·exact at_rp α x _
 ·split
  ·show at16 (i - 4) (rp16 x)=x
   unfold at16 rp16
   rw [at_rp,at_rp]
  ·split
   ·exact at_rp64 x _
   ·show at64 (i - 84) (at64 ((i - 84) / 64) (rp64 (rp64 x)))=x
    rw [at_rp64,at_rp64]
theorem nilSlX_ok {x:AV} {f:Bool} (h:nilSlX x f=true):(∃ rw,x=.slice none 0 0 false rw)∧f=true:=by
 cases x with
 | slice p l c s rw=>
  cases p with
  | none=>
   have h:iff3 (Nat.beq (Nat.add l c) 0) (iff3 s false f) false=true:=h
   obtain⟨h1,h⟩:=iff3_f h
   have h1:l+c=0:=beq_t h1
   rcases iff3_c h with⟨_,h⟩|⟨hs,h⟩
   ·cases h
   ·subst hs
    have hl:l=0:=by omega
    have hc:c=0:=by omega
    subst hl hc
    exact⟨⟨rw,rfl⟩,h⟩
  | some p=>cases h
 | _=>cases h
theorem emptSlX_ok {x:AV} {f:Bool} (h:emptSlX x f=true):((∃ rw,x=.slice none 0 0 false rw)∨x=.empty)∧f=true:=by
 cases x with
 | slice p l c s rw=>
  cases p with
  | none=>
   have h:iff3 (Nat.beq (Nat.add l c) 0) (iff3 s false f) false=true:=h
   obtain⟨h1,h⟩:=iff3_f h
   have h1:l+c=0:=beq_t h1
   rcases iff3_c h with⟨_,h⟩|⟨hs,h⟩
   ·cases h
   ·subst hs
    have hl:l=0:=by omega
    have hc:c=0:=by omega
    subst hl hc
    exact⟨.inl ⟨rw,rfl⟩,h⟩
  | some p=>cases h
 | empty=>exact⟨.inr rfl,h⟩
 | _=>cases h
theorem nilSl_ok {v:V} {a:AV} {f:Bool} (hv:VA v a) (h:nilSl v f=true):(∃ rw,a=.slice none 0 0 false rw)∧f=true:=by
 unfold nilSl at h
 obtain⟨h0,h⟩:=iff3_f h
 obtain⟨rfl,_⟩:=hv.is0 (beq_t h0)
 exact nilSlX_ok h
theorem emptSl_ok {v:V} {a:AV} {f:Bool} (hv:VA v a) (h:emptSl v f=true):((∃ rw,a=.slice none 0 0 false rw)∨a=.empty)∧f=true:=by
 unfold emptSl at h
 obtain⟨h0,h⟩:=iff3_f h
 obtain⟨rfl,_⟩:=hv.is0 (beq_t h0)
 exact emptSlX_ok h
theorem RR.get {sz:Nat} {rs:List (R V)} {ls:List (List AV)} (h:RR sz rs ls):∀ i,i < ls.length->∃ r l,rs[i]?=some r∧ls[i]?=some l∧RVA sz r l:=by
 induction h with
 | nil=>intro i hi;simp at hi
 | cons h _ ih=>
  intro i hi
  cases i with
  | zero=>exact⟨_,_,rfl,rfl,h⟩
  | succ i=>
   obtain⟨r,l,h1,h2,h3⟩:=ih i (by simpa using hi)
   exact⟨r,l,by simpa using h1,by simpa using h2,h3⟩
theorem rowsOfF_get:∀ (l:List (R V)) (o:Nat) (rs:R (R V)) (i:Nat),o+l.length≤4180->i < 4180->atR i (rowsOfF l o rs)=if h:o≤i∧i - o < l.length then l[i - o]'h.2 else atR i rs:=by
 intro vs
 induction vs with
 | nil=>intro o r i _ _;rw [dif_neg (by simp)];rfl
 | cons v vs ih=>
  intro o r i h1 h2
  have e:rowsOfF (v::vs) o r=rowsOfF vs (o+1) (rput o v r):=rfl
  simp only [List.length_cons] at h1
  rw [e,ih (o+1) _ i (by omega) h2,rput_eq,at_setR (by omega) h2]
  by_cases hi:o=i
  ·subst hi
   rw [dif_neg (by omega),if_pos rfl,dif_pos (by simp)]
   simp
  ·rw [if_neg hi]
   by_cases h3:o+1≤i∧i - (o+1) < vs.length
   ·rw [dif_pos h3,dif_pos (by simp;omega)]
    have:i - o=(i - (o+1))+1:=by omega
    simp only [this,List.getElem_cons_succ]
   ·rw [dif_neg h3,dif_neg (by simp;omega)]
theorem rowsOfF_at {l:List (R V)} {o:Nat} {rs:R (R V)} {i:Nat} {r:R V} (hl:o+l.length≤4180) (h:l[i]?=some r):atR (o+i) (rowsOfF l o rs)=r:=by
 obtain⟨hi,rfl⟩:=List.getElem?_eq_some_iff.1 h
 rw [rowsOfF_get _ _ _ _ hl (by omega),dif_pos (by omega)]
 have e:o+i - o=i:=by omega
 simp only [e]
theorem lfold_total {α β:Type} {f:β->α->Option β} (hf:∀ b a,∃ c,f b a=some c):∀ (l:List α) (b:β),∃ c,lfold f l b=some c:=by
 intro l
 induction l with
 | nil=>intro b;exact⟨b,rfl⟩
 | cons a l ih=>
  intro b
  obtain⟨c,hc⟩:=hf b a
  obtain⟨d,hd⟩:=ih c
  exact⟨d,(lfold_cons _ _ _ _ _).2 ⟨c,hc,hd⟩⟩
noncomputable def pstep (s:Tr (List AV) × Nat) (row:List AV):Option (Tr (List AV) × Nat):=some (s.1.put s.2 row,Nat.succ s.2)
theorem rowsOf_def (l:List (List AV)):rowsOf l=match lfold pstep l (.lf,0) with | some s=>some s.1 | none=>none:=rfl
theorem rowsOf_tot (l:List (List AV)):∃ t,rowsOf l=some t∧∀ i:Nat,t.get i=l[i]?:=by
 obtain⟨c,hc⟩:=lfold_total (f:=pstep) (fun b a=>⟨_,rfl⟩) l (.lf,0)
 have:rowsOf l=some c.1:=by rw [rowsOf_def,hc]
 exact⟨c.1,this,rowsOf_get this⟩
theorem pstep_get:∀ (l:List (List AV)) (t:Tr (List AV)) (n:Nat),∃ s,lfold pstep l (t,n)=some s∧(∀ i,i < n->s.1.get i=t.get i)∧∀ (i:Nat) row,l[i]?=some row->s.1.get (n+i)=some row:=by
 intro l
 induction l with
 | nil=>intro t n;exact⟨(t,n),rfl,fun i _=>rfl,fun i row h=>by simp at h⟩
 | cons a l ih=>
  intro t n
  obtain⟨s,h1,h2,h3⟩:=ih (t.put n a) (n+1)
  refine⟨s,(lfold_cons _ _ _ _ _).2 ⟨_,rfl,h1⟩,fun i hi=>?_,fun i row hr=>?_⟩
  ·rw [h2 i (by omega),Tr.get_put_other _ _ (by omega)]
  ·cases i with
   | zero=>
    simp at hr
    subst hr
    rw [Nat.add_zero,h2 n (by omega),Tr.get_put_same]
   | succ i=>
    have:=h3 i row (by simpa using hr)
    rwa [show n+1+i=n+(i+1) by omega] at this
section
variable {P:Program} {nt:Nat} {e:Env} {E:Tr AV} {h:FH} {H:Heap} {ih:CallT} {k:V->FH->Bool}
theorem grownF_ok (hH:FHr h H) {bytes need sz:Nat} {rs:R (R V)} {T:Tr (List AV)} (hs:sz≤4180) (hk:grownF h bytes need sz rs k=true) (hT:need≤4180->∀ r,r < need->∃ row,T.get r=some row∧RVA sz (atR r rs) row) :
  Out k h.fr (grown H bytes need sz T):=by
 unfold grownF at hk
 obtain⟨hc,hk⟩:=iff3_f hk
 obtain⟨h1,h2⟩:=andB_t hc
 have h2:=ble_true.1 h2
 obtain⟨h',k1,k2,k3,k4⟩:=hH.new hk (FOr.mkRows (o:=fon rs need sz) (T:=T) rfl h2 hs (hT h2))
 refine⟨_,_,h',(H.new (.rows T need sz false)).2,?_,VA.mkS k1,k2,k3,k4⟩
 unfold grown
 rw [h1]
 simp only
 have e1:Nat.beq (Nat.succ (Nat.mul sz 2) % 2) 1=true:=by
  have:Nat.succ (sz * 2) % 2=1:=by omega
  show Nat.beq (Nat.succ (sz * 2) % 2) 1=true
  rw [this];rfl
 have e2:Nat.succ (Nat.mul sz 2) / 2=sz:=by show Nat.succ (sz * 2) / 2=sz;omega
 rw [e1,e2]
 rfl
noncomputable def elemsA (H:Heap) (sz:Nat) (a:AV):Option (List (List AV)):=match a with
 | .slice base n _ _ rw=>(match base with
  | none=>(match n with | 0=>some [] | _=>none)
  | some p=>H.gather p rw sz n)
 | .empty=>some []
 | _=>none
theorem elemsF_ok (hH:FHr h H) {sz:Nat} {x:V} {a:AV} {f:List (R V)->Bool} (h1:1≤sz) (h2:sz≤4180) (hx:VA x a) (hk:elemsF h sz x f=true):∃ l ls,RR sz l ls∧f l=true∧elemsA H sz a=some ls:=by
 unfold elemsF at hk
 rcases iff3_c hk with⟨hb,hk⟩|⟨_,hk⟩
 ·obtain⟨rfl,hlt⟩:=hx.is5 (beq_t hb)
  obtain⟨l,ls,k1,k2,k3,k4⟩:=gatherF_ok hH hlt h1 h2 hk
  exact⟨l,ls,k1,k3,k4⟩
 ·obtain⟨hc,hk⟩:=emptSl_ok hx hk
  rcases hc with⟨rw,rfl⟩|rfl
  ·exact⟨[],[],.nil,hk,rfl⟩
  ·exact⟨[],[],.nil,hk,rfl⟩
theorem append_def {ρ:Operand->Option AV} {sz bytes:Nat} {s x:Operand} {sv xa:AV} {ls:List (List AV)} (hs:ρ s=some sv) (hx:ρ x=some xa) (hl:elemsA H sz xa=some ls):aval P H ρ (.append sz bytes s x)=appendV H sz bytes sv ls:=by
 simp only [aval,hs,hx]
 cases xa with
 | slice base n c sl rw=>
  simp only [elemsA] at hl
  cases base with
  | none=>
   cases n with
   | zero=>cases hl;rfl
   | succ n=>cases hl
  | some p=>simp only at hl ⊢;simp only [hl]
 | empty=>cases hl;rfl
 | _=>cases hl
theorem FHr.forget (hH:FHr h H) {b:Nat} (hb:b < 262144):FHr (Ev.hput b fo0 h) H:=by
 refine⟨hH.next,hH.small,fun c hc=>?_⟩
 rw [hget_hput hb hc]
 by_cases hbc:b=c
 ·rw [if_pos hbc];exact FOr.gone _ rfl rfl
 ·rw [if_neg hbc];exact hH.block c hc
theorem fits_small {need bytes:Nat} (h1:need≤901000) (h2:bytes≤100000):fits need bytes=true:=by
 unfold fits
 have a:(2 * need+2000) * bytes≤1804000 * 100000:=Nat.mul_le_mul (by omega) h2
 rw [ble_true.2 (by omega),ble_true.2 (by omega)]
 rfl
theorem appX_ok (hH:FHr h H) {sz bytes:Nat} {s:V} {sv:AV} {new:List (R V)} {ls:List (List AV)} (h1:1≤sz) (h2:sz≤4180) (hs:VA s sv) (ht:s.t=17) (hn:RR sz new ls) (hne:ls≠[]) (hk:appX h sz bytes s new k=true) :
  Out k h.fr (appendV H sz bytes sv ls):=by
 obtain⟨n,rfl,hb,hnum,hlo,hhi,hmax,hm2⟩:=hs.isOsl ht
 have hlen:llen new=llen ls:=by rw [llen_eq,llen_eq,hn.length]
 have hlen':=hn.length
 unfold appX at hk
 obtain⟨hc,hk⟩:=iff3_f hk
 obtain⟨c1,c2⟩:=andB_t hc
 obtain⟨c0,c1⟩:=andB_t c1
 obtain⟨c2,c3⟩:=andB_t c2
 obtain⟨c2,c2'⟩:=andB_t c2
 obtain⟨c3,c4⟩:=andB_t c3
 obtain⟨c4,c5⟩:=andB_t c4
 have c0:=beq_t c0
 have c1:(hget s.f h).lp.pend=s.a:=beq_t c1
 have c2:(hget s.f h).lp.st=s.b:=beq_t c2
 have c2':(hget s.f h).lp.D=sz:=beq_t c2'
 have c3:s.e=sz:=beq_t c3
 have c4:s.b+llen new≤1000:=ble_true.1 c4
 have c5:bytes≤100000:=ble_true.1 c5
 rw [llen_eq] at c4
 rw [frc_eq,frc_eq] at hk
 obtain⟨m,T0,ro,e1,e3,e4,eB,e5⟩:=(hH.block s.f hb).ext c0
 rw [c1,hnum] at e1
 have e1:=Int.ofNat.inj e1
 subst e1
 rw [c2] at e3
 rw [c2,c2'] at e5
 rw [c2'] at e4 eB
 have hl1:1≤ls.length:=by cases ls with | nil=>exact absurd rfl hne | cons _ _=>simp
 -- what the slow machine lays
 have main:∃ (T:Tr (List AV)) (H1:Heap),appendV H sz bytes (oslA s.f s.e (n+s.b)) ls=grown H1 bytes (n+s.b+ls.length) sz T∧FHr (Ev.hput s.f fo0 h) H1 ∧
   (∀ i,i < n->T.get i=T0.get i)∧(∀ i,i < s.b->∃ row,T.get (n+i)=some row∧RVA sz (atR i (hget s.f h).rs) row)∧(∀ (i:Nat) row,ls[i]?=some row->T.get (n+s.b+i)=some row):=by
  rw [c3]
  cases hN:n+s.b with
  | zero=>
   obtain⟨t,t1,t2⟩:=rowsOf_tot ls
   refine⟨t,H,?_,hH.forget hb,fun i hi=>absurd hi (by omega),fun i hi=>absurd hi (by omega),fun i row hr=>by rw [t2,Nat.zero_add];exact hr⟩
   unfold appendV oslA
   simp only
   rw [force_eq]
   have q:Nat.ble (Nat.add 0 (llen ls)) 0=false:=by rw [ble_false,llen_eq];show ¬ 0+ls.length≤0;omega
   rw [q]
   simp only
   rw [show (false || !Nat.beq 0 0)=false from rfl]
   simp only [t1,llen_eq]
   rfl
  | succ N=>
   obtain⟨T,x1,x2,x3⟩:=e5 (by omega)
   obtain⟨st,p1,p2,p3⟩:=pstep_get ls T (N+1)
   have p1:lfold (fun (s:Tr (List AV) × Nat) row=>some (s.1.put s.2 row,Nat.succ s.2)) ls (T,N+1)=some st:=p1
   refine⟨st.1,H.del s.f,?_,hH.del hb,fun i hi=>by rw [p2 i (by omega)];exact x2 i hi,fun i hi=>?_,fun i row hr=>p3 i row hr⟩
   ·unfold appendV oslA
    simp only
    rw [force_eq]
    have q:Nat.ble (Nat.add (N+1) (llen ls)) (N+1)=false:=by rw [ble_false,llen_eq];show ¬ (N+1)+ls.length≤N+1;omega
    rw [q]
    rw [hN] at x1
    simp only [x1]
    have c:(Nat.beq sz sz && Nat.beq sz sz && Nat.beq 0 0 && Nat.beq (Nat.add 0 (N+1)) (N+1) && Nat.beq (N+1) (N+1))=true:=by
     have:Nat.add 0 (N+1)=N+1:=Nat.zero_add _
     rw [this,beq_self,beq_self,beq_self];rfl
    rw [c]
    simp only [p1,llen_eq]
    rfl
   ·obtain⟨row,y1,y2⟩:=x3 i hi
    exact⟨row,by rw [p2 _ (by omega)];exact y1,y2⟩
 obtain⟨T,H1,m1,m2,m3,m4,m5⟩:=main
 rw [m1]
 have hk:fnew (Ev.hput s.f fo0 h) (foX (hget s.f h).lp.nt s.a (s.b+llen new) sz (rowsOfF new s.b (hget s.f h).rs)) (fun b' h=>k (vX b' s.a (s.b+llen new) s.c s.d sz) h)=true:=hk
 rw [llen_eq] at hk
 have hx:FOr (foX (hget s.f h).lp.nt s.a (s.b+new.length) sz (rowsOfF new s.b (hget s.f h).rs)) (some (.rows T (n+s.b+ls.length) sz false)):=by
  refine FOr.mkExt rfl rfl ⟨n,T0,ro,hnum,by show s.b+new.length≤1000;omega,h2,eB,fun _=>⟨T,?_,m3,fun i hi=>?_⟩⟩
  ·show some (AObj.rows T (n+s.b+ls.length) sz false)=some (.rows T (n+(s.b+new.length)) sz false)
   rw [hlen',Nat.add_assoc]
  ·have hi:i < s.b+new.length:=hi
   show ∃ row,T.get (n+i)=some row∧RVA sz (atR i (rowsOfF new s.b (hget s.f h).rs)) row
   by_cases hib:i < s.b
   ·obtain⟨row,y1,y2⟩:=m4 i hib
    refine⟨row,y1,?_⟩
    rw [rowsOfF_get _ _ _ _ (by omega) (by omega),dif_neg (by omega)]
    exact y2
   ·obtain⟨j,rfl⟩:∃ j,i=s.b+j:=⟨i - s.b,by omega⟩
    obtain⟨rr,l,w1,w2,w3⟩:=hn.get j (by omega)
    refine⟨l,by rw [<- Nat.add_assoc];exact m5 j l w2,?_⟩
    rw [rowsOfF_at (by omega) w1]
    exact w3
 obtain⟨h',k1,k2,k3,k4⟩:=m2.new hk hx
 have hv:=VA.oslc (v:=vX H1.next s.a (s.b+new.length) s.c s.d sz) rfl k1 n hnum hlo hhi hmax (by show s.b+new.length≤1000;omega)
 have hv:VA (vX H1.next s.a (s.b+new.length) s.c s.d sz) (oslA H1.next sz (n+(s.b+new.length))):=hv
 obtain⟨q,hq⟩:∃ q,n+s.b+ls.length=q+1:=⟨n+s.b+ls.length - 1,by omega⟩
 rw [show n+(s.b+new.length)=q+1 by omega] at hv
 refine⟨.slice (some ⟨H1.next,0,0⟩) (q+1) (q+1) true sz,_,h',(H1.new (.rows T (n+s.b+ls.length) sz false)).2,?_,hv,k2,k3,k4⟩
 unfold grown
 rw [fits_small (by omega) c5,hq]
 rfl
theorem appendF_ok (hH:FHr h H) {sz bytes:Nat} {s:V} {sv:AV} {new:List (R V)} {ls:List (List AV)} (h1:1≤sz) (h2:sz≤4180) (hs:VA s sv) (hn:RR sz new ls) (hk:appendF h sz bytes s new k=true) :
  Out k h.fr (appendV H sz bytes sv ls):=by
 have hlen:llen new=llen ls:=by rw [llen_eq,llen_eq,hn.length]
 have hlen':=hn.length
 unfold appendF at hk
 rcases iff3_c hk with⟨hb,hk⟩|⟨_,hk⟩
 ·obtain⟨rfl,hlt⟩:=hs.is5 (beq_t hb)
  unfold appendV
  simp only
  rw [force_eq]
  rcases iff3_c hk with⟨hc,hk⟩|⟨hc,hk⟩
  ·-- there is room
   rw [hlen] at hc
   have hc:Nat.ble (s.c+llen ls) s.b=true:=hc
   obtain⟨h',H',k1,k2,k3,k4⟩:=scatterF_ok hH hlt h1 h2 hn hk
   rw [hlen] at k4
   cases hn with
   | nil=>
    have k1:some H=some H':=k1
    cases k1
    refine⟨_,_,h',H,?_,VA.mkS hlt,k2,k3,k4⟩
    show (match Nat.ble (s.c+llen []) s.b with | true=>_ | false=>_)=_
    rw [hc]
   | cons hr hrs=>
    refine⟨_,_,h',H',?_,VA.mkS hlt,k2,k3,k4⟩
    show (match Nat.ble (s.c+llen _) s.b with | true=>_ | false=>_)=_
    rw [hc]
    simp only
    have k1:H.scatter ⟨s.f,s.e,s.d⟩ (s.a / 2) sz s.c _=some H':=k1
    rw [k1]
  ·rw [hlen] at hc
   have hc:Nat.ble (s.c+llen ls) s.b=false:=hc
   show Out k h.fr (match Nat.ble (s.c+llen ls) s.b with | true=>_ | false=>_)
   rw [hc]
   simp only
   rcases iff3_c hk with⟨hm,hk⟩|⟨hm,hk⟩
   ·-- it lies whole in its block
    obtain⟨hq,hk⟩:=iff3_f hk
    obtain⟨q1,q2⟩:=andB_t hq
    obtain⟨q0,q1⟩:=andB_t q1
    obtain⟨q2,q3⟩:=andB_t q2
    obtain⟨q3,q4⟩:=andB_t q3
    obtain⟨q4,q5⟩:=andB_t q4
    rw [frc_eq,frc_eq] at hk
    have q0:=beq_t q0
    have q1:sz=(hget s.f h).sz:=beq_t q1
    have q2:s.a / 2=sz:=beq_t q2
    have q3:s.d+s.e=0:=beq_t q3
    have q4:s.b=(hget s.f h).n:=beq_t q4
    have q5:s.c=s.b:=beq_t q5
    obtain⟨T,g1,g2,g3,g4⟩:=(hH.block s.f hlt).rows q0
    have hm:Nat.beq (s.a % 2) 1=true:=hm
    rw [hm]
    simp only [g1]
    have e0:s.e=0:=by omega
    have d0:s.d=0:=by omega
    have c1:(Nat.beq sz (hget s.f h).sz && Nat.beq (s.a / 2) sz && Nat.beq s.d 0 && Nat.beq (Nat.add s.e s.b) (hget s.f h).n && Nat.beq s.c s.b)=true:=by
     rw [q2,<- q1,d0,e0,beq_self]
     have:Nat.add 0 s.b=(hget s.f h).n:=by rw [<- q4];exact Nat.zero_add _
     rw [this,q5,beq_self,beq_self]
     simp
    rw [c1]
    simp only
    rw [e0]
    simp only
    obtain⟨st,p1,p2,p3⟩:=pstep_get ls T s.c
    have p1:lfold (fun (s:Tr (List AV) × Nat) row=>some (s.1.put s.2 row,Nat.succ s.2)) ls (T,s.c)=some st:=p1
    rw [p1]
    simp only
    have hk:grownF (Ev.hput s.f fo0 h) bytes (s.c+llen new) sz (rowsOfF new s.c (hget s.f h).rs) k=true:=hk
    rw [hlen] at hk
    refine grownF_ok (hH.del hlt) h2 hk (fun hneed r hr=>?_)
    rw [llen_eq] at hneed hr
    have hneed:s.c+ls.length≤4180:=hneed
    have hr:r < s.c+ls.length:=hr
    by_cases hrc:r < s.c
    ·obtain⟨row,w1,w2⟩:=g4 r (by rw [<- q4,<- q5];exact hrc)
     refine⟨row,by rw [p2 r hrc,w1],?_⟩
     rw [rowsOfF_get _ _ _ _ (by omega) (by omega),dif_neg (by omega),q1]
     exact w2
    ·obtain⟨i,rfl⟩:∃ i,r=s.c+i:=⟨r - s.c,by omega⟩
     obtain⟨rr,l,w1,w2,w3⟩:=hn.get i (by omega)
     refine⟨l,p3 i l w2,?_⟩
     rw [rowsOfF_at (by omega) w1]
     exact w3
   ·-- it is copied
    have hm:Nat.beq (s.a % 2) 1=false:=hm
    rw [hm]
    simp only
    obtain⟨old,lo,k1,k2,k3,k4⟩:=gatherF_ok hH hlt h1 h2 hk
    have k4:H.gather ⟨s.f,s.e,s.d⟩ (s.a / 2) sz s.c=some lo:=k4
    have k2:old.length=s.c:=k2
    rw [k4]
    simp only
    obtain⟨t,t1,t2⟩:=rowsOf_tot (lapp lo ls)
    rw [t1]
    simp only
    rw [hlen] at k3
    refine grownF_ok hH h2 k3 (fun hneed r hr=>?_)
    have hneed:s.c+llen ls≤4180:=hneed
    have hr:r < s.c+llen ls:=hr
    rw [llen_eq] at hneed hr
    have hlo:lo.length=s.c:=by rw [<- k1.length];exact k2
    obtain⟨rr,l,w1,w2,w3⟩:=(k1.append hn).get r (by rw [List.length_append];omega)
    refine⟨l,by rw [t2,lapp_eq];exact w2,?_⟩
    rw [lapp_eq]
    have:=rowsOfF_at (o:=0) (rs:=rs0) (by rw [List.length_append,k2];omega) w1
    rw [Nat.zero_add] at this
    rw [this]
    exact w3
 ·cases hn with
  | nil=>
   obtain⟨hc,hk⟩:=emptSl_ok hs hk
   rcases hc with⟨rw,rfl⟩|rfl
   ·exact .same hH rfl hs hk
   ·exact .same hH rfl hs hk
  | @cons r l rs ls hr hrs=>
   have hk:iff3 (Nat.beq s.t 17) (appX h sz bytes s (r::rs) k) (nilSl s (grownF h bytes (llen (r::rs)) sz (rowsOfF (r::rs) 0 rs0) k))=true:=hk
   have hn:RR sz (r::rs) (l::ls):=.cons hr hrs
   rcases iff3_c hk with⟨h17,hk⟩|⟨_,hk⟩
   ·exact appX_ok hH h1 h2 hs (beq_t h17) hn (by simp) hk
   obtain⟨⟨rw',rfl⟩,hk⟩:=nilSl_ok hs hk
   have hne:Nat.ble (0+llen (l::ls)) 0=false:=by
    rw [ble_false,llen_eq];simp
   unfold appendV
   simp only
   rw [force_eq]
   have hne:Nat.ble (Nat.add 0 (llen (l::ls))) 0=false:=hne
   rw [hne]
   obtain⟨t,t1,t2⟩:=rowsOf_tot (l::ls)
   have e0:(false || !Nat.beq 0 0)=false:=rfl
   rw [e0]
   simp only [t1]
   rw [hlen] at hk
   have e:Nat.add 0 (llen (l::ls))=llen (l::ls):=Nat.zero_add _
   rw [e]
   refine grownF_ok hH h2 hk (fun hneed r' hr'=>?_)
   rw [llen_eq] at hneed hr'
   obtain⟨rr,l',w1,w2,w3⟩:=hn.get r' hr'
   refine⟨l',by rw [t2];exact w2,?_⟩
   have:=rowsOfF_at (o:=0) (rs:=rs0) (by rw [hn.length];omega) w1
   rw [Nat.zero_add] at this
   rw [this]
   exact w3
end
end Go.Ev
namespace Go.Ev
variable [Sg]
section
variable {P:Program} {nt:Nat} {e:Env} {E:Tr AV} {h:FH} {H:Heap} {ih:CallT} {k:V->FH->Bool}
variable (hE:EnvR nt e E) (hH:FHr h H)
include hE hH
theorem store_ok {n:Nat} {x y:Operand} (hx:fxs nt [x,y]=true) (hk:(oqstore n x y).run ih e h k=true):Out k h.fr (aval P H (opv E) (.store n x y)):=by
 obtain⟨ax,hax,hvx⟩:=fx_ok hE (fxs_mem hx (x:=x) (by simp))
 obtain⟨ay,hay,hvy⟩:=fx_ok hE (fxs_mem hx (x:=y) (by simp))
 have big:∀ n,(iff3 (andB (Nat.beq ((fx x).get e).t 4) (andB (Nat.beq ((fx y).get e).t 9) (Nat.beq ((fx y).get e).b n)))
   (frc ((fx x).get e).c fun b=>frc ((fx x).get e).b fun r=>frc ((fx x).get e).a fun o=>iff3 (andB (Nat.blt r (hget b h).n) (Nat.ble (Nat.add o n) (hget b h).sz))
    (onOne ((fx y).get e).r fun s=>frc ((fx y).get e).a fun i=>iff3 (Nat.beq (Nat.add (Nat.add o i) (Nat.sub (hget b h).sz n)) 0)
     (k vU (hupd b (rowPut r fun _=>s) h))
     (k vU (hupd b (rowPut r (cpy s n i o)) h))) false) false)=true->Out k h.fr (aval P H (opv E) (.store n x y)):=by
  intro n hk
  obtain⟨hb,hk⟩:=iff3_f hk
  obtain⟨h1,h2⟩:=andB_t hb
  obtain⟨h2,h3⟩:=andB_t h2
  obtain⟨rfl,hlt⟩:=hvx.is4 (beq_t h1)
  obtain⟨cs,s,rfl,hr,hc,hl,hcell⟩:=hvy.is9 (beq_t h2)
  rw [frc_eq,frc_eq,frc_eq] at hk
  obtain⟨hq,hk⟩:=iff3_f hk
  obtain⟨q1,q2⟩:=andB_t hq
  have q1:=blt_true.1 q1
  have q2:((fx x).get e).a+n≤(hget ((fx x).get e).c h).sz:=ble_true.1 q2
  have hk:=onOne_t hk hr
  rw [frc_eq] at hk
  have hcn:cs.length=n:=by rw [hc];exact beq_t h3
  have hsz:(hget ((fx x).get e).c h).sz≤4180:=by obtain⟨_,_,_,_,h3,_⟩:=hH.rows hlt q1;exact h3
  rcases iff3_c hk with⟨hw,hk⟩|⟨_,hk⟩
  ·have hw:((fx x).get e).a+((fx y).get e).a+((hget ((fx x).get e).c h).sz - n)=0:=beq_t hw
   obtain⟨H',w1,w2⟩:=hH.write (vs:=cs) (f:=fun _=>s) hlt q1 (by rw [hcn];exact q2)
    (fun i c hi=>by
     have:=hcell i c hi
     rwa [show ((fx x).get e).a+i=((fx y).get e).a+i by omega])
    (fun j hj hn=>by exfalso;apply hn;rw [hcn];omega)
   refine⟨.undef,vU,_,H',?_,VA.undef,w2,rfl,hk⟩
   simp only [aval,hax,hay,partCells_agg hcn,w1]
  ·obtain⟨H',w1,w2⟩:=hH.write (vs:=cs) (f:=cpy s n ((fx y).get e).a ((fx x).get e).a) hlt q1 (by rw [hcn];exact q2)
    (fun i c hi=>by
     obtain⟨hlt',_⟩:=List.getElem?_eq_some_iff.1 hi
     rw [cpy_get _ _ _ _ _ _ (by omega) (by omega),if_pos (by omega),show ((fx y).get e).a+(((fx x).get e).a+i - ((fx x).get e).a)=((fx y).get e).a+i by omega]
     exact hcell i c hi)
    (fun j hj hn=>by rw [cpy_get _ _ _ _ _ _ (by omega) (by omega),if_neg (by rw [<- hcn];exact hn)])
   refine⟨.undef,vU,_,H',?_,VA.undef,w2,rfl,hk⟩
   simp only [aval,hax,hay,partCells_agg hcn,w1]
 match n,hk with
 | 0,hk=>exact big 0 hk
 | n+2,hk=>exact big (n+2) hk
 | 1,hk=>
  have hk:iff3 (Nat.beq ((fx x).get e).t 4) (frc ((fx x).get e).c fun b=>frc ((fx x).get e).b fun r=>frc ((fx x).get e).a fun o=>iff3 (andB (Nat.blt r (hget b h).n) (Nat.blt o (hget b h).sz))
   (oneV ((fx y).get e) fun v=>k vU (hupd b (rowPut r ((racN o).p V v)) h)) false) false=true:=hk
  obtain⟨h1,hk⟩:=iff3_f hk
  obtain⟨rfl,hlt⟩:=hvx.is4 (beq_t h1)
  rw [frc_eq,frc_eq,frc_eq] at hk
  obtain⟨hq,hk⟩:=iff3_f hk
  obtain⟨q1,q2⟩:=andB_t hq
  have q1:=blt_true.1 q1
  have q2:((fx x).get e).a < (hget ((fx x).get e).c h).sz:=blt_true.1 q2
  obtain⟨c,w,k1,k2,k3⟩:=oneV_ok hvy hk
  have hsz:(hget ((fx x).get e).c h).sz≤4180:=by obtain⟨_,_,_,_,h3,_⟩:=hH.rows hlt q1;exact h3
  obtain⟨H',w1,w2⟩:=hH.write (vs:=[c]) (f:=(racN ((fx x).get e).a).p V w) hlt q1 (by show _+1≤_;exact q2)
   (fun i z hi=>by
    match i,hi with
    | 0,hi=>
     cases hi
     rw [(racN_eq _ V).2,at_setR (by omega) (by omega),if_pos (by omega)]
     exact k2)
   (fun j hj hn=>by
    have hn:¬ (((fx x).get e).a≤j∧j < ((fx x).get e).a+1):=hn
    rw [(racN_eq _ V).2,at_setR (by omega) (by omega),if_neg (by omega)])
  refine⟨.undef,vU,_,H',?_,VA.undef,w2,rfl,k3⟩
  simp only [aval,hax,hay,k1,w1]
theorem ins_ok {lit:Bool} {kk:EqP} {m q v:Operand} (hx:fxs nt [m,q,v]=true) (hk:(oqins kk m q v).run ih e h k=true):Out k h.fr (aval P H (opv E) (.ins lit kk m q v)):=by
 obtain⟨am,ham,hvm⟩:=fx_ok hE (fxs_mem hx (x:=m) (by simp))
 obtain⟨aq,haq,hvq⟩:=fx_ok hE (fxs_mem hx (x:=q) (by simp))
 obtain⟨ax,hax,hvx⟩:=fx_ok hE (fxs_mem hx (x:=v) (by simp))
 have hk:iff3 (Nat.beq ((fx m).get e).t 7) (frc ((fx m).get e).a fun b=>iff3 (Nat.beq (hget b h).t 2) (onSome (av ((fx q).get e)) fun kv=>onSome (av ((fx v).get e)) fun vv=>onSome (putInF kk kv vv (hget b h).m) fun es=>k vU (hput b ⟨lp0,rs0,es,2,0,0⟩ h)) false) false=true:=hk
 obtain⟨hb,hk⟩:=iff3_f hk
 obtain⟨rfl,hlt⟩:=hvm.is7 (beq_t hb)
 rw [frc_eq] at hk
 obtain⟨hb,hk⟩:=iff3_f hk
 have hm:=(hH.block _ hlt).map (beq_t hb)
 obtain⟨kv,h1,hk⟩:=onSome_t hk
 obtain⟨vv,h2,hk⟩:=onSome_t hk
 obtain⟨es,h3,hk⟩:=onSome_t hk
 rw [putInF_eq,<- av_ok hvq h1,<- av_ok hvx h2] at h3
 refine⟨.undef,vU,_,H.put ((fx m).get e).a (.map es),?_,VA.undef,hH.hput hlt (FOr.mkMap (o:=⟨lp0,rs0,es,2,0,0⟩) rfl rfl),rfl,hk⟩
 simp only [aval,ham,haq,hax,hm]
 have h3:putIn kk aq ax (hget ((fx m).get e).a h).m=some es:=h3
 rw [h3]
theorem delete_ok {kk:EqP} {m q:Operand} (hx:fxs nt [m,q]=true) (hk:(oqdelete kk m q).run ih e h k=true):Out k h.fr (aval P H (opv E) (.delete kk m q)):=by
 obtain⟨am,ham,hvm⟩:=fx_ok hE (fxs_mem hx (x:=m) (by simp))
 obtain⟨aq,haq,hvq⟩:=fx_ok hE (fxs_mem hx (x:=q) (by simp))
 have hk:iff3 (Nat.beq ((fx m).get e).t 7) (frc ((fx m).get e).a fun b=>iff3 (Nat.beq (hget b h).t 2) (onSome (av ((fx q).get e)) fun kv=>onSome (delInF kk kv (hget b h).m) fun es=>k vU (hput b ⟨lp0,rs0,es,2,0,0⟩ h)) false) false=true:=hk
 obtain⟨hb,hk⟩:=iff3_f hk
 obtain⟨rfl,hlt⟩:=hvm.is7 (beq_t hb)
 rw [frc_eq] at hk
 obtain⟨hb,hk⟩:=iff3_f hk
 have hm:=(hH.block _ hlt).map (beq_t hb)
 obtain⟨kv,h1,hk⟩:=onSome_t hk
 obtain⟨es,h3,hk⟩:=onSome_t hk
 rw [delInF_eq,<- av_ok hvq h1] at h3
 refine⟨.undef,vU,_,H.put ((fx m).get e).a (.map es),?_,VA.undef,hH.hput hlt (FOr.mkMap (o:=⟨lp0,rs0,es,2,0,0⟩) rfl rfl),rfl,hk⟩
 simp only [aval,ham,haq,hm]
 have h3:delIn kk aq (hget ((fx m).get e).a h).m=some es:=h3
 rw [h3]
omit hE hH in
theorem szOk_t {sz:Nat} (h:szOk sz=true):1≤sz∧sz≤4180:=by
 obtain⟨s1,s2⟩:=(Bool.and_eq_true _ _).mp h
 exact⟨ble_true.1 s1,ble_true.1 s2⟩
theorem append_ok {sz bytes:Nat} {s x:Operand} (hx:fxs nt [s,x]=true) (hk:(oqappend sz bytes s x).run ih e h k=true):Out k h.fr (aval P H (opv E) (.append sz bytes s x)):=by
 obtain⟨as,has,hvs⟩:=fx_ok hE (fxs_mem hx (x:=s) (by simp))
 obtain⟨ax,hax,hvx⟩:=fx_ok hE (fxs_mem hx (x:=x) (by simp))
 unfold oqappend at hk
 split at hk
 ·rename_i hs
  obtain⟨s1,s2⟩:=szOk_t hs
  have hk:(elemsF h sz ((fx x).get e) fun new=>appendF h sz bytes ((fx s).get e) new k)=true:=hk
  obtain⟨l,ls,k1,k2,k3⟩:=elemsF_ok hH s1 s2 hvx hk
  rw [append_def has hax k3]
  exact appendF_ok hH s1 s2 hvs k1 k2
 ·cases hk
theorem appendZ_ok {sz bytes:Nat} {z:List AV} {s x:Operand} (hx:fxs nt [s,x]=true) (hk:(oqappendZ sz bytes z s x).run ih e h k=true):Out k h.fr (aval P H (opv E) (.appendZ sz bytes z s x)):=by
 obtain⟨as,has,hvs⟩:=fx_ok hE (fxs_mem hx (x:=s) (by simp))
 obtain⟨ax,hax,hvx⟩:=fx_ok hE (fxs_mem hx (x:=x) (by simp))
 unfold oqappendZ at hk
 split at hk
 ·rename_i hs
  obtain⟨hs,_⟩:=(Bool.and_eq_true _ _).mp hs
  obtain⟨hz,hs⟩:=(Bool.and_eq_true _ _).mp hs
  obtain⟨s1,s2⟩:=szOk_t hs
  have hz:=beq_t hz
  rw [llen_eq] at hz
  have hk:(onIntV ((fx x).get e) fun n=>iff3 (andB (Nat.ble n 4180) (Nat.ble (Nat.mul n bytes) 281474976710656)) (appendF h sz bytes ((fx s).get e) (repl n (rowA z)) k) false)=true:=hk
  obtain⟨n,rfl,hk⟩:=onIntV_ok hvx hk
  obtain⟨hc,hk⟩:=iff3_f hk
  obtain⟨c1,c2⟩:=andB_t hc
  have hr:RVA sz (rowA z) z:=by have:=rowA_ok (cs:=z) (by omega);rwa [hz] at this
  have c3:(Nat.ble n 1000000 && Nat.ble (n * bytes) 281474976710656)=true:=by
   rw [Bool.and_eq_true]
   exact⟨ble_true.2 (by have:=ble_true.1 c1;omega),c2⟩
  have e:aval P H (opv E) (.appendZ sz bytes z s x)=appendV H sz bytes as (repl n z):=by
   simp only [aval,has,hax,c3]
  rw [e]
  exact appendF_ok hH s1 s2 hvs (RR.repl hr n) hk
 ·cases hk
omit hE hH in
theorem VA.zero:VA (vI bias) (.int .i64 (.ofNat 0)):=by
 have hb:0 < bias:=by rw [bias_eq];omega
 have:=VA.mkI (bias_lt hb).1
 rw [unb_nat,Nat.zero_add] at this
 exact this
noncomputable def srcA (H:Heap) (sz:Nat) (n:Nat) (rw:Nat) (b2:Option Pl):Option (List (List AV)):=match b2 with
 | none=>some []
 | some p=>H.gather p rw sz n
noncomputable def copyA (H:Heap) (sz n rw:Nat) (base:Option Pl) (l:List (List AV)):Option (AV × Heap):=match base,l with
   | some p,_::_=>(match H.scatter p rw sz 0 l with | some H'=>some (.int .i64 (.ofNat n),H') | none=>none)
   | _,[]=>some (.int .i64 (.ofNat n),H)
   | none,_=>none
omit hE hH in
theorem copy_def {ρ:Operand->Option AV} {sz:Nat} {d s:Operand} {base b2:Option Pl} {dl c sl c2 rw rw2:Nat} {k1 k2:Bool} {l:List (List AV)} (hd:ρ d=some (.slice base dl c k1 rw)) (hs:ρ s=some (.slice b2 sl c2 k2 rw2))
  (hl:srcA H sz (Nat.min sl dl) rw2 b2=some l):aval P H ρ (.copy sz d s)=copyA H sz (Nat.min sl dl) rw base l:=by
 simp only [aval,hd,hs,force_eq]
 cases b2 with
 | none=>cases hl;cases base <;> rfl
 | some p=>
  have hl:H.gather p rw2 sz (Nat.min sl dl)=some l:=hl
  simp only [hl]
  cases base <;> cases l <;> rfl
theorem copy_ok {sz:Nat} {d s:Operand} (hx:fxs nt [d,s]=true) (hk:(oqcopy sz d s).run ih e h k=true):Out k h.fr (aval P H (opv E) (.copy sz d s)):=by
 obtain⟨ad,had,hvd⟩:=fx_ok hE (fxs_mem hx (x:=d) (by simp))
 obtain⟨as,has,hvs⟩:=fx_ok hE (fxs_mem hx (x:=s) (by simp))
 unfold oqcopy at hk
 split at hk
 ·rename_i hs
  obtain⟨s1,s2⟩:=szOk_t hs
  have hk:iff3 (andB (Nat.beq ((fx d).get e).t 5) (Nat.beq ((fx s).get e).t 5))
     (gatherF h ((fx s).get e).f ((fx s).get e).e ((fx s).get e).d (Nat.div ((fx s).get e).a 2) sz (Nat.min ((fx s).get e).c ((fx d).get e).c) fun l=>
      scatterF h ((fx d).get e).f ((fx d).get e).e ((fx d).get e).d (Nat.div ((fx d).get e).a 2) sz 0 l fun h=>k (mkV (.int .i64 (.ofNat (Nat.min ((fx s).get e).c ((fx d).get e).c)))) h)
     (iff3 (Nat.beq ((fx d).get e).t 5) (nilSl ((fx s).get e) (k (vI bias) h)) (iff3 (Nat.beq ((fx s).get e).t 5) (nilSl ((fx d).get e) (k (vI bias) h)) (nilSl ((fx d).get e) (nilSl ((fx s).get e) (k (vI bias) h)))))=true:=hk
  rcases iff3_c hk with⟨hc,hk⟩|⟨_,hk⟩
  ·obtain⟨c1,c2⟩:=andB_t hc
   obtain⟨rfl,hd⟩:=hvd.is5 (beq_t c1)
   obtain⟨rfl,hs⟩:=hvs.is5 (beq_t c2)
   obtain⟨l,ls,k1,k2,k3,k4⟩:=gatherF_ok hH hs s1 s2 hk
   obtain⟨h',H',p1,p2,p3,p4⟩:=scatterF_ok hH hd s1 s2 k1 k3
   have p1:H.scatter ⟨((fx d).get e).f,((fx d).get e).e,((fx d).get e).d⟩ (((fx d).get e).a / 2) sz 0 ls=some H':=p1
   rw [copy_def had has k4]
   cases ls with
   | nil=>
    have p1:some H=some H':=p1
    cases p1
    exact⟨.int .i64 (.ofNat (Nat.min ((fx s).get e).c ((fx d).get e).c)),_,h',H,rfl,VA.mkV _,p2,p3,p4⟩
   | cons r ls=>
    refine⟨.int .i64 (.ofNat (Nat.min ((fx s).get e).c ((fx d).get e).c)),_,h',H',?_,VA.mkV _,p2,p3,p4⟩
    simp only [copyA,p1]
  ·rcases iff3_c hk with⟨c1,hk⟩ | ⟨_,hk⟩
   ·obtain⟨rfl,hd⟩:=hvd.is5 (beq_t c1)
    obtain⟨⟨rw',rfl⟩,hk⟩:=nilSl_ok hvs hk
    refine .same hH (a:=.int .i64 (.ofNat 0)) ?_ VA.zero hk
    rw [copy_def had has (l:=[]) rfl]
    have:Nat.min 0 ((fx d).get e).c=0:=Nat.zero_min _
    rw [this];rfl
   ·rcases iff3_c hk with⟨c1,hk⟩ | ⟨_,hk⟩
    ·obtain⟨rfl,hd⟩:=hvs.is5 (beq_t c1)
     obtain⟨⟨rw',rfl⟩,hk⟩:=nilSl_ok hvd hk
     refine .same hH (a:=.int .i64 (.ofNat 0)) ?_ VA.zero hk
     have hm:Nat.min ((fx s).get e).c 0=0:=Nat.min_zero _
     rw [copy_def had has (l:=[]) (by rw [hm];rfl)]
     rw [hm];rfl
    ·obtain⟨⟨rw',rfl⟩,hk⟩:=nilSl_ok hvd hk
     obtain⟨⟨rw2,rfl⟩,hk⟩:=nilSl_ok hvs hk
     refine .same hH (a:=.int .i64 (.ofNat 0)) ?_ VA.zero hk
     rw [copy_def had has (l:=[]) rfl]
     rfl
 ·cases hk
theorem clear_ok {sz:Nat} {z:List AV} {x:Operand} (hx:fxs nt [x]=true) (hk:(oqclear sz z x).run ih e h k=true):Out k h.fr (aval P H (opv E) (.clear sz z x)):=by
 obtain⟨ax,hax,hvx⟩:=fx_ok hE (fxs_mem hx (x:=x) (by simp))
 unfold oqclear at hk
 split at hk
 ·rename_i hs
  obtain⟨hs,_⟩:=(Bool.and_eq_true _ _).mp hs
  obtain⟨hz,hs⟩:=(Bool.and_eq_true _ _).mp hs
  obtain⟨s1,s2⟩:=szOk_t hs
  have hz:=beq_t hz
  rw [llen_eq] at hz
  have hr:RVA sz (rowA z) z:=by have:=rowA_ok (cs:=z) (by omega);rwa [hz] at this
  have hk:iff3 (Nat.beq ((fx x).get e).t 5) (scatterF h ((fx x).get e).f ((fx x).get e).e ((fx x).get e).d (Nat.div ((fx x).get e).a 2) sz 0 (repl ((fx x).get e).c (rowA z)) fun h=>k vU h) (emptSl ((fx x).get e) (k vU h))=true:=hk
  rcases iff3_c hk with⟨c1,hk⟩|⟨_,hk⟩
  ·obtain⟨rfl,hlt⟩:=hvx.is5 (beq_t c1)
   obtain⟨h',H',p1,p2,p3,p4⟩:=scatterF_ok hH hlt s1 s2 (RR.repl hr _) hk
   have p1:H.scatter ⟨((fx x).get e).f,((fx x).get e).e,((fx x).get e).d⟩ (((fx x).get e).a / 2) sz 0 (repl ((fx x).get e).c z)=some H':=p1
   refine⟨.undef,vU,h',H',?_,VA.undef,p2,p3,p4⟩
   simp only [aval,hax]
   cases hc:((fx x).get e).c with
   | zero=>
    rw [hc] at p1
    have p1:some H=some H':=p1
    cases p1
    rfl
   | succ n=>
    rw [hc] at p1
    simp only [p1]
  ·obtain⟨hc,hk⟩:=emptSl_ok hvx hk
   rcases hc with⟨rw',rfl⟩|rfl
   ·exact .same hH (by simp only [aval,hax] <;> rfl) VA.undef hk
   ·exact .same hH (by simp only [aval,hax] <;> rfl) VA.undef hk
 ·cases hk
omit hE hH in
theorem b2s_go:∀ {l:List (R V)} {ls:List (List AV)},RR 1 l ls->∀ (s s':ByteArray),lfold (fun (s:ByteArray) (r:R V)=>match av (rg 0 r) with
 | some (.int .u8 (.ofNat b))=>some (s.push (UInt8.ofNat b))
 | _=>none) l s=some s'->lfold (fun (s:ByteArray) (r:List AV)=>match r with
     | [.int .u8 (.ofNat b)]=>some (s.push (UInt8.ofNat b))
     | _=>none) ls s=some s':=by
 intro l ls hl
 induction hl with
 | nil=>intro s s' h;exact h
 | @cons r row rs ls hr _ ih=>
  intro s s' h
  rw [lfold_cons] at h ⊢
  obtain⟨s1,h1,h2⟩:=h
  refine⟨s1,?_,ih _ _ h2⟩
  split at h1
  ·rename_i b hb
   obtain⟨c,hc,hv⟩:=hr.get (i:=0) (by omega)
   rw [rg_eq] at hb
   have:=av_ok hv hb
   subst this
   match row,hr.len,hc with
   | [x],_,hc=>cases hc;exact h1
  ·cases h1
theorem b2s_ok {x:Operand} (hx:fxs nt [x]=true) (hk:(oqb2s x).run ih e h k=true):Out k h.fr (aval P H (opv E) (.b2s x)):=by
 obtain⟨ax,hax,hvx⟩:=fx_ok hE (fxs_mem hx (x:=x) (by simp))
 have hk:(elemsF h 1 ((fx x).get e) fun l=>onSome (lfold (fun (s:ByteArray) (r:R V)=>match av (rg 0 r) with
 | some (.int .u8 (.ofNat b))=>some (s.push (UInt8.ofNat b))
 | _=>none) l ByteArray.empty) fun s=>k (vGen (.str s)) h)=true:=hk
 unfold elemsF at hk
 rcases iff3_c hk with⟨c1,hk⟩|⟨_,hk⟩
 ·obtain⟨rfl,hlt⟩:=hvx.is5 (beq_t c1)
  obtain⟨l,ls,k1,k2,k3,k4⟩:=gatherF_ok hH hlt (by omega) (by omega) hk
  have k4:H.gather ⟨((fx x).get e).f,((fx x).get e).e,((fx x).get e).d⟩ (((fx x).get e).a / 2) 1 ((fx x).get e).c=some ls:=k4
  obtain⟨s,k5,k6⟩:=onSome_t k3
  have k7:=b2s_go k1 _ _ k5
  refine .same hH (a:=.str s) ?_ (VA.mkGen rfl) k6
  simp only [aval,hax,k4]
  exact congrArg (fun z=>match z with | some s=>some (AV.str s,H) | none=>none) k7
 ·obtain⟨hc,hk⟩:=emptSl_ok hvx hk
  have hk:k (vGen (.str ByteArray.empty)) h=true:=hk
  rcases hc with⟨rw',rfl⟩|rfl
  ·exact .same hH (a:=.str .empty) (by simp only [aval,hax]) (VA.mkGen rfl) hk
  ·exact .same hH (a:=.str .empty) (by simp only [aval,hax]) (VA.mkGen rfl) hk
end
end Go.Ev
namespace Go.Ev
variable [Sg]
noncomputable def qstep (ρ:Operand->Option AV) (sz len:Nat) (p:Nat × Operand):Option (Nat × List AV):=match ρ p.2 with
 | some v=>match partCells sz v with
  | some cs=>match Nat.blt p.1 len with | true=>some (p.1,cs) | false=>none
  | none=>none
 | none=>none
noncomputable def tstep (t:Tr (List AV)) (p:Nat × List AV):Option (Tr (List AV)):=some (t.put p.1 p.2)
theorem bslice_def (ρ:Operand->Option AV) (sz len:Nat) (z:List AV) (parts:List (Nat × Operand)):allocOf ρ (.bslice sz len z parts)=match lmapO (qstep ρ sz len) parts with
  | some l=>(match rowsOf (repl len z) with
   | some t=>(match lfold tstep l t with
    | some t'=>some (.rows t' len sz false,fun b=>.slice (some ⟨b,0,0⟩) len len false sz)
    | none=>none)
   | none=>none)
  | none=>none:=rfl
theorem repl_get {α:Type} (n i:Nat) (x:α) (h:i < n):(repl n x)[i]?=some x:=by
 unfold repl
 rw [List.getElem?_eq_getElem (by simpa using h),List.getElem_replicate]
section
variable {P:Program} {K:Orc} {nt:Nat} {e:Env} {E:Tr AV} {h:FH} {H:Heap} {ih:CallT} {k:V->FH->Bool}
variable (hE:EnvR nt e E)
include hE
theorem parts_go {sz len:Nat} (hsz:sz≤4180) (hlen:len≤4180) {f:R (R V)->Bool}:∀ (parts:List (Nat × Operand)) (T:Tr (List AV)) (rs:R (R V)),lall (fun p:Nat × Operand=>fxOk nt p.2 && Nat.blt p.1 len) parts=true ->
  (∀ r,r < len->∃ row,T.get r=some row∧RVA sz (atR r rs) row)->partsF sz len parts e f rs=true ->
  ∃ l T' rs',lmapO (qstep (opv E) sz len) parts=some l∧lfold tstep l T=some T'∧(∀ r,r < len->∃ row,T'.get r=some row∧RVA sz (atR r rs') row)∧f rs'=true:=by
 intro parts
 induction parts with
 | nil=>intro T rs _ hr hf;exact⟨[],T,rs,rfl,rfl,hr,hf⟩
 | cons p parts ih=>
  intro T rs hx hr hf
  obtain⟨hx1,hx2⟩:=(lall_cons _ _ _).1 hx
  obtain⟨hx1,hx3⟩:=(Bool.and_eq_true _ _).mp hx1
  obtain⟨a,ha,hv⟩:=fx_ok hE hx1
  have hf:((prF sz).run ((fx p.2).get e) fun r=>partsF sz len parts e f (rput p.1 r rs))=true:=hf
  obtain⟨cs,r,h1,h2,h3⟩:=prF_ok hv hsz hf
  have hlt:=blt_true.1 hx3
  obtain⟨l,T',rs',k1,k2,k3,k4⟩:=ih (T.put p.1 cs) (rput p.1 r rs) hx2 (fun i hi=>by
   rw [Tr.get_put,rput_eq,at_setR (by omega) (by omega)]
   by_cases hpi:p.1=i
   ·rw [if_pos hpi,if_pos hpi];exact⟨cs,rfl,h2⟩
   ·rw [if_neg hpi,if_neg hpi];exact hr i hi) h3
  refine⟨(p.1,cs)::l,T',rs',?_,?_,k3,k4⟩
  ·rw [lmapO_cons]
   exact⟨(p.1,cs),l,by simp only [qstep,ha,h1,hx3],k1,rfl⟩
  ·rw [lfold_cons]
   exact⟨_,rfl,k2⟩
theorem allocF_ok {op:AOp} {f:FO->(Nat->V)->Bool} (hk:(allocF nt op).run e f=true) :
  ∃ o fn fo g,allocOf (opv E) op=some (o,fn)∧(FOr fo (some o)∧(fo.t=1∨fo.t=2))∧(∀ b,b < 262144->VA (g b) (fn b))∧f fo g=true:=by
 have one:∀ {n:Nat} {r:R V} {cs:List AV},RVA n r cs->FOr (fo1 r n) (some (.rows (Tr.lf.put 0 cs) 1 n false)):=by
  intro n r cs hr
  refine FOr.mkRows (o:=fo1 r n) rfl (by show 1≤4180;omega) hr.small fun i hi=>?_
  have hi:i < 1:=hi
  have:i=0:=by omega
  subst this
  refine⟨cs,Tr.get_put_same _ _ _,?_⟩
  show RVA n (atR 0 (rput 0 r rs0)) cs
  rw [rput_eq,at_setR (by omega) (by omega),if_pos rfl]
  exact hr
 cases op with
 | alloc n cs=>
  have hk:(faalloc nt n cs).run e f=true:=hk
  unfold faalloc at hk
  split at hk
  ·rename_i hc
   obtain⟨hc,_⟩:=(Bool.and_eq_true _ _).mp hc
   obtain⟨h1,h2⟩:=(Bool.and_eq_true _ _).mp hc
   have h1:=beq_t h1
   rw [llen_eq] at h1
   have h2:=ble_true.1 h2
   have hr:RVA n (rowA cs) cs:=by have:=rowA_ok (cs:=cs) (by omega);rwa [h1] at this
   exact⟨_,_,_,_,rfl,⟨one hr,.inl rfl⟩,fun b hb=>VA.mkP hb,hk⟩
  ·cases hk
 | box n x=>
  have hk:(fabox nt n x).run e f=true:=hk
  unfold fabox at hk
  split at hk
  ·rename_i hc
   obtain⟨h1,h2⟩:=(Bool.and_eq_true _ _).mp hc
   obtain⟨a,ha,hv⟩:=fx_ok hE h1
   have hk:((prF n).run ((fx x).get e) fun r=>f (fo1 r n) fun b=>vP b 0 0)=true:=hk
   obtain⟨cs,r,k1,k2,k3⟩:=prF_ok hv (ble_true.1 h2) hk
   refine⟨.rows (Tr.lf.put 0 cs) 1 n false,fun b=>.ptr (some ⟨b,0,0⟩),_,_,?_,⟨one k2,.inl rfl⟩,fun b hb=>VA.mkP hb,k3⟩
   simp only [allocOf,ha,k1]
  ·cases hk
 | bslice sz len z parts=>
  have hk:(fabslice nt sz len z parts).run e f=true:=hk
  unfold fabslice at hk
  split at hk
  ·rename_i hc
   obtain⟨hc,h5⟩:=(Bool.and_eq_true _ _).mp hc
   obtain⟨hc,_⟩:=(Bool.and_eq_true _ _).mp hc
   obtain⟨hc,h3⟩:=(Bool.and_eq_true _ _).mp hc
   obtain⟨h1,h2⟩:=(Bool.and_eq_true _ _).mp hc
   have h1:=beq_t h1
   rw [llen_eq] at h1
   have h2:=ble_true.1 h2
   have h3:=ble_true.1 h3
   have hr:RVA sz (rowA z) z:=by have:=rowA_ok (cs:=z) (by omega);rwa [h1] at this
   obtain⟨t,t1,t2⟩:=rowsOf_tot (repl len z)
   have hk:partsF sz len parts e (fun rs=>f (fon rs len sz) fun b=>vS b 0 0 len len (Nat.mul sz 2)) (rpR (rowA z))=true:=hk
   obtain⟨l,T',rs',k1,k2,k3,k4⟩:=parts_go hE h2 h3 parts t (rpR (rowA z)) h5 (fun r hr'=>⟨z,by rw [t2,repl_get _ _ _ hr'],by rw [at_rpR];exact hr⟩) hk
   refine⟨.rows T' len sz false,fun b=>.slice (some ⟨b,0,0⟩) len len false sz,_,_,?_,⟨FOr.mkRows (o:=fon rs' len sz) rfl h3 h2 k3,.inl rfl⟩,fun b hb=>?_,k4⟩
   ·rw [bslice_def,k1]
    simp only [t1,k2]
   ·have:=VA.mkS (r:=0) (o:=0) (l:=len) (c:=len) (a:=sz * 2) hb
    have e1:Nat.beq (sz * 2 % 2) 1=false:=by
     have:sz * 2 % 2=0:=by omega
     rw [this];rfl
    have e2:sz * 2 / 2=sz:=by omega
    rw [e1,e2] at this
    exact this
  ·cases hk
 | mkslice sz bytes z l c=>
  have hk:(famkslice nt sz bytes z l c).run e f=true:=hk
  unfold famkslice at hk
  split at hk
  ·rename_i hc
   obtain⟨hc,h5⟩:=(Bool.and_eq_true _ _).mp hc
   obtain⟨hc,h4⟩:=(Bool.and_eq_true _ _).mp hc
   obtain⟨hc,_⟩:=(Bool.and_eq_true _ _).mp hc
   obtain⟨h1,h2⟩:=(Bool.and_eq_true _ _).mp hc
   have h1:=beq_t h1
   rw [llen_eq] at h1
   have h2:=ble_true.1 h2
   have hr:RVA sz (rowA z) z:=by have:=rowA_ok (cs:=z) (by omega);rwa [h1] at this
   obtain⟨al,hal,hvl⟩:=fx_ok hE h4
   obtain⟨ac,hac,hvc⟩:=fx_ok hE h5
   have hk:(onIntV ((fx l).get e) fun ln=>onIntV ((fx c).get e) fun cn=>
    iff3 (andB (Nat.ble ln cn) (andB (Nat.ble cn 4180) (Nat.ble (Nat.mul bytes cn) 281474976710656))) (f (fon (rpR (rowA z)) cn sz) fun b=>vS b 0 0 ln cn (Nat.mul sz 2)) false)=true:=hk
   obtain⟨ln,rfl,hk⟩:=onIntV_ok hvl hk
   obtain⟨cn,rfl,hk⟩:=onIntV_ok hvc hk
   obtain⟨hq,hk⟩:=iff3_f hk
   obtain⟨q1,q2⟩:=andB_t hq
   obtain⟨q2,q3⟩:=andB_t q2
   have q2:=ble_true.1 q2
   obtain⟨t,t1,t2⟩:=rowsOf_tot (repl cn z)
   have c3:(Nat.ble ln cn && Nat.ble cn 1000000 && Nat.ble (bytes * cn) 281474976710656)=true:=by
    rw [Bool.and_eq_true,Bool.and_eq_true]
    exact⟨⟨q1,ble_true.2 (by omega)⟩,q3⟩
   refine⟨.rows t cn sz false,fun b=>.slice (some ⟨b,0,0⟩) ln cn false sz,_,_,?_,⟨FOr.mkRows (o:=fon (rpR (rowA z)) cn sz) rfl q2 h2 (fun r hr'=>⟨z,by rw [t2];exact repl_get cn r z hr',?_⟩),.inl rfl⟩,fun b hb=>?_,hk⟩
   ·simp only [allocOf,hal,hac,c3,t1]
   ·show RVA sz (atR r (rpR (rowA z))) z
    rw [at_rpR];exact hr
   ·have:=VA.mkS (r:=0) (o:=0) (l:=ln) (c:=cn) (a:=sz * 2) hb
    have e1:Nat.beq (sz * 2 % 2) 1=false:=by
     have:sz * 2 % 2=0:=by omega
     rw [this];rfl
    have e2:sz * 2 / 2=sz:=by omega
    rw [e1,e2] at this
    exact this
  ·cases hk
 | mkmap=>exact⟨_,_,_,_,rfl,⟨FOr.mkMap (o:=⟨lp0,rs0,[],2,0,0⟩) rfl rfl,.inr rfl⟩,fun b hb=>VA.mkM hb,hk⟩
 | _=>cases hk
theorem oqAl_ok (hH:FHr h H) {op:AOp} (hop:∀ o fn,allocOf (opv E) op=some (o,fn)->aval P H (opv E) op=some (fn (H.new o).1,(H.new o).2)) (hk:(oqAl nt op).run ih e h k=true):Out k h.fr (aval P H (opv E) op):=by
 have hk:((allocF nt op).run e fun o f=>fnew h o fun b h=>k (f b) h)=true:=hk
 obtain⟨o,fn,fo,g,h1,⟨h2,_⟩,h3,h4⟩:=allocF_ok hE hk
 obtain⟨h',k1,k2,k3,k4⟩:=hH.new h4 h2
 exact⟨_,_,h',_,hop o fn h1,h3 _ k1,k2,k3,k4⟩
def AOp.quietF:AOp->Prop
 | .call ..=>False
 | .invoke ..=>False
 | _=>True
theorem opD_ok (hH:FHr h H) {op:AOp} (hq:op.quietF) (hx:fxs nt op.opers=true) (hk:(opD P nt op).run ih e h k=true):Out k h.fr (aval P H (opv E) op):=by
 have al:∀ {op:AOp},(∀ o fn,allocOf (opv E) op=some (o,fn)->aval P H (opv E) op=some (fn (H.new o).1,(H.new o).2))->(oqAl nt op).run ih e h k=true->Out k h.fr (aval P H (opv E) op):=fun h1 h2=>oqAl_ok hE hH h1 h2
 cases op with
 | mv x=>exact mv_ok hE hH hx hk
 | pick c a b=>exact pick_ok hE hH hx hk
 | alloc n cs=>exact al (fun o fn ho=>by simp only [aval,ho]) hk
 | box n x=>exact al (fun o fn ho=>by simp only [aval,ho]) hk
 | build z parts=>exact build_ok hE hH hx hk
 | bslice sz len z parts=>exact al (fun o fn ho=>by simp only [aval,ho]) hk
 | load g n x=>exact load_ok hE hH hx hk
 | store n a x=>exact store_ok hE hH hx hk
 | nilchk x=>exact nilchk_ok hE hH hx hk
 | arith op x y=>exact arith_ok hE hH hx hk
 | eql neg p x y=>exact eql_ok hE hH hx hk
 | un op x=>exact un_ok hE hH hx hk
 | convI t x=>exact convI_ok hE hH hx hk
 | convS x=>exact gen_out hH (gm_convS (fv_le hE hx)) hk
 | b2s x=>exact b2s_ok hE hH hx hk
 | mkif t x=>exact gen_out hH (gm_mkif (fv_le hE hx)) hk
 | mkfn f a b=>exact mkfn_ok hE hH hx hk
 | mkmf n x=>exact gen_out hH (gm_mkmf (fv_le hE hx)) hk
 | mkmap=>exact al (fun o fn ho=>by simp only [aval,ho]) hk
 | ins lit kk m q v=>exact ins_ok hE hH hx hk
 | mkslice sz bytes z l c=>exact al (fun o fn ho=>by simp only [aval,ho]) hk
 | slc sz x lo hi mx=>exact slc_ok hE hH hx hk
 | slcA n sz x lo hi mx=>exact gen_out hH (gm_slcA (fv_le hE hx)) hk
 | slcS x lo hi=>exact gen_out hH (gm_slcS (fv_le hE hx)) hk
 | faddr off x=>exact faddr_ok hE hH hx hk
 | fld off n g x=>exact fld_ok hE hH hx hk
 | iaddrS sz x i=>exact iaddrS_ok hE hH hx hk
 | iaddrA len sz x i=>exact iaddrA_ok hE hH hx hk
 | idxA len sz g x i=>exact idxA_ok hE hH hx hk
 | idxS x i=>exact gen_out hH (gm_idxS (fv_le hE hx)) hk
 | look kk z ok m q=>exact look_ok hE hH hx hk
 | extract x i=>exact extract_ok hE hH hx hk
 | lenS x=>exact lenS_ok hE hH hx hk
 | lenT x=>exact gen_out hH (gm_lenT (fv_le hE hx)) hk
 | lenM x=>exact lenM_ok hE hH hx hk
 | lenC n=>exact gen_out (e:=e) hH gm_lenC hk
 | cap x=>exact gen_out hH (gm_cap (fv_le hE hx)) hk
 | minmax mx args=>exact mm_ok hE hH hx hk
 | append sz bytes s x=>exact append_ok hE hH hx hk
 | appendZ sz bytes z s x=>exact appendZ_ok hE hH hx hk
 | copy sz d s=>exact copy_ok hE hH hx hk
 | clear sz z x=>exact clear_ok hE hH hx hk
 | delete kk m q=>exact delete_ok hE hH hx hk
 | call f args=>exact hq.elim
 | invoke r name args=>exact hq.elim
 | defr f args=>cases hk
 | bad=>cases hk
omit hE in
theorem opF_fx {op:AOp} (hk:(opF P nt op).run ih e h k=true):fxs nt op.opers=true∧(opD P nt op).run ih e h k=true:=by
 unfold opF at hk
 rw [opersF_eq] at hk
 cases hx:fxs nt op.opers with
 | true=>rw [hx] at hk;exact⟨rfl,hk⟩
 | false=>rw [hx] at hk;cases hk
theorem opF_quiet (hH:FHr h H) {op:AOp} (hq:op.quietF) (hk:(opF P nt op).run ih e h k=true):Out k h.fr (aval P H (opv E) op):=
 opD_ok hE hH hq (opF_fx hk).1 (opF_fx hk).2
end
structure CallR (P:Program) (K:Orc) (ih:CallT):Prop where
 call:∀ {f:FuncId} {args:List V} {as:List AV} {h:FH} {H:Heap} {k:V->FH->Bool},VAs args as->FHr h H->ih.call f args h k=true ->
  ∃ m a v h' H',(ev P K m).call f as H=some (a,H')∧VA v a∧FHr h' H'∧h'.fr=h.fr∧k v h'=true
 yld:∀ {l:Nat} {args:List V} {as:List AV} {h:FH} {H:Heap} {k:V->FH->Bool},VAs args as->FHr h H->ih.yld l args h k=true ->
  ∃ m a v h' H',roundOf (ev P K m) l as H=some (a,H')∧VA v a∧FHr h' H'∧h'.fr=h.fr∧k v h'=true
theorem noCall_ok (P:Program) (K:Orc):CallR P K noCall:=⟨fun _ _ h=>absurd h Bool.false_ne_true,fun _ _ h=>absurd h Bool.false_ne_true⟩
def OutO (P:Program) (K:Orc) (ρ:Operand->Option AV) (op:AOp) (ds:List ADef) (H:Heap) (k:V->FH->Bool) (fr:Fri):Prop:=
 ∃ m a v h' H',oper P (ev P K m) ρ op ds H=some (.mk a ds H')∧VA v a∧FHr h' H'∧h'.fr=fr∧k v h'=true
theorem oper_quiet {P:Program} {ih:EvF} {ρ:Operand->Option AV} {op:AOp} {ds:List ADef} {H:Heap} (hq:op.quietF):oper P ih ρ op ds H=match aval P H ρ op with | some (v,H')=>some (.mk v ds H') | none=>none:=by
 cases op <;> first | rfl | exact hq.elim
theorem callX_ok {P:Program} {K:Orc} {ih:CallT} (hC:CallR P K ih) {x:AV} {args:List V} {as:List AV} {h:FH} {H:Heap} {k:V->FH->Bool} (ha:VAs args as) (hH:FHr h H) (hk:callX P ih x args h k=true) :
  ∃ m a v h' H',callV P (ev P K m) x as H=some (a,H')∧VA v a∧FHr h' H'∧h'.fr=h.fr∧k v h'=true:=by
 cases x with
 | mfunc name r=>
  cases r with
  | iface t w=>
   have hk:onSome (meth P t name) (fun f=>ih.call f (mkV w::args) h k)=true:=hk
   obtain⟨f,h1,h2⟩:=onSome_t hk
   obtain⟨m,a,v,h',H',k1,k2⟩:=hC.call (.cons (VA.mkV w) ha) hH h2
   exact⟨m,a,v,h',H',by simp only [callV,h1,k1],k2⟩
  | _=>cases hk
 | yield l=>exact hC.yld ha hH hk
 | _=>cases hk
theorem invX_ok {P:Program} {name:String} {x:AV} {args:List V} {k:FuncId->List V->Bool} (hk:invX P name x args k=true):∃ t w f,x=.iface t w∧meth P t name=some f∧k f (mkV w::args)=true:=by
 cases x with
 | iface t w=>
  have hk:onSome (meth P t name) (fun f=>k f (mkV w::args))=true:=hk
  obtain⟨f,h1,h2⟩:=onSome_t hk
  exact⟨t,w,f,rfl,h1,h2⟩
 | _=>cases hk
theorem opF_ok {P:Program} {K:Orc} {nt:Nat} {e:Env} {E:Tr AV} {h:FH} {H:Heap} {ih:CallT} {k:V->FH->Bool} (hC:CallR P K ih) (hE:EnvR nt e E) (hH:FHr h H) {op:AOp} {ds:List ADef} (hk:(opF P nt op).run ih e h k=true) :
  OutO P K (opv E) op ds H k h.fr:=by
 have quiet:op.quietF->OutO P K (opv E) op ds H k h.fr:=by
  intro hq
  obtain⟨a,v,h',H',h1,h2,h3,h4,h5⟩:=opF_quiet hE hH hq hk
  exact⟨0,a,v,h',H',by rw [oper_quiet hq,h1],h2,h3,h4,h5⟩
 obtain⟨hx,hk'⟩:=opF_fx hk
 cases op with
 | call f args=>
  have hxa:fxs nt args=true:=((lall_cons _ _ _).1 hx).2
  have hxf:fxOk nt f=true:=((lall_cons _ _ _).1 hx).1
  obtain⟨as,has,hva⟩:=gets_ok hE hxa
  obtain⟨fv,hfv,hvf⟩:=fx_ok hE hxf
  have gen:iff3 (Nat.beq ((fx f).get e).t 8) (onOne ((fx f).get e).r fun r=>frc ((fx f).get e).a fun g=>ih.call g (lapp (cellsV r ((fx f).get e).c 0) (lapp (gets args e) (cellsV r ((fx f).get e).b ((fx f).get e).c))) h k)
     (iff3 (Nat.beq ((fx f).get e).t 0) (callX P ih ((fx f).get e).x (gets args e) h k) false)=true->OutO P K (opv E) (.call f args) ds H k h.fr:=by
   intro hk
   rcases iff3_c hk with⟨hb,hk⟩|⟨_,hk⟩
   ·obtain⟨r,xs,ys,rfl,hr,hx,hy,hl,h1,h2⟩:=hvf.is8 (beq_t hb)
    have hk:=onOne_t hk hr
    rw [frc_eq] at hk
    have v1:VAs (cellsV r ((fx f).get e).c 0) xs:=by
     rw [<- hx];exact VAs.cells fun i a ha=>by rw [Nat.zero_add];exact h1 i a ha
    have v2:VAs (cellsV r ((fx f).get e).b ((fx f).get e).c) ys:=by
     rw [<- hy];exact VAs.cells h2
    rw [lapp_eq,lapp_eq] at hk
    obtain⟨m,a,v,h',H',k1,k2⟩:=hC.call (v1.append (hva.append v2)) hH hk
    refine⟨m,a,v,h',H',?_,k2⟩
    simp only [oper,hfv,has,callV,lapp_eq,k1]
   ·obtain⟨hb,hk⟩:=iff3_f hk
    obtain⟨rfl,_⟩:=hvf.is0 (beq_t hb)
    obtain⟨m,a,v,h',H',k1,k2⟩:=callX_ok hC hva hH hk
    refine⟨m,a,v,h',H',?_,k2⟩
    simp only [oper,hfv,has]
    have k1:callV P (ev P K m) ((fx f).get e).x as H=some (a,H'):=k1
    rw [k1]
  cases f with
  | func g=>
   obtain⟨m,a,v,h',H',k1,k2⟩:=hC.call hva hH hk'
   refine⟨m,a,v,h',H',?_,k2⟩
   have e0:opv E (.func g)=some (.func g [] []):=rfl
   have e1:lapp [] (lapp as [])=as:=by rw [lapp_eq,lapp_eq,List.append_nil];rfl
   simp only [oper,e0,has,callV,e1,k1]
  | _=>exact gen hk'
 | invoke r name args=>
  have hxa:fxs nt args=true:=((lall_cons _ _ _).1 hx).2
  have hxf:fxOk nt r=true:=((lall_cons _ _ _).1 hx).1
  obtain⟨as,has,hva⟩:=gets_ok hE hxa
  obtain⟨fv,hfv,hvf⟩:=fx_ok hE hxf
  have hk:iff3 (Nat.beq ((fx r).get e).t 0) (invX P name ((fx r).get e).x (gets args e) fun f args=>ih.call f args h k) false=true:=hk'
  obtain⟨hb,hk⟩:=iff3_f hk
  obtain⟨e1,_⟩:=hvf.is0 (beq_t hb)
  obtain⟨t,w,f,e2,h1,h2⟩:=invX_ok hk
  have e2:((fx r).get e).x=.iface t w:=e2
  rw [e2] at e1
  subst e1
  obtain⟨m,a,v,h',H',k1,k2⟩:=hC.call (.cons (VA.mkV w) hva) hH h2
  refine⟨m,a,v,h',H',?_,k2⟩
  simp only [oper,hfv,h1,has,k1]
 | _=>exact quiet trivial
end Go.Ev
namespace Go.Ev
variable [Sg]
theorem cOper_dst {P:Program} {nt:Nat} {o:Oper} {t:Nat} (h:(cOper P nt o).dst=some t):t < nt:=by
 unfold cOper at h
 split at h
 ·cases h
 ·rename_i d hd
  split at h
  ·rename_i hb;cases h;exact blt_true.1 hb
  ·cases h
theorem guardF_ok {nt:Nat} {ops:Array Oper} {g:Option (Nat × Bool)} {e:Env} {E:Tr AV} {y n:Bool} (hE:EnvR nt e E) (hk:(guardF nt ops g).run e y n=true) :
  (wanted E ops g=some true∧y=true)∨(wanted E ops g=some false∧n=true):=by
 unfold guardF at hk
 split at hk
 ·exact .inl ⟨rfl,hk⟩
 ·rename_i j w
  split at hk
  ·rename_i o ho
   split at hk
   ·rename_i d hd
    split at hk
    ·rename_i hb
     obtain⟨a,ha,hv⟩:=hE.slot d (blt_true.1 hb)
     have hk:iff3 (Nat.beq ((racN d).g V e).t 2) y (iff3 (Nat.beq ((racN d).g V e).t 0) false n)=true:=hk
     rw [(racN_eq d V).1] at hk
     unfold wanted
     simp only [ho,hd,ha]
     rcases iff3_c hk with⟨h1,hk⟩|⟨h1,hk⟩
     ·have:=hv.is2 (beq_t h1)
      subst this
      exact .inl ⟨rfl,hk⟩
     ·rcases iff3_c hk with⟨_,hk⟩ | ⟨h2,hk⟩
      ·cases hk
      ·refine .inr ⟨?_,hk⟩
       have h1:=beq_f h1
       have h2:=beq_f h2
       cases hv with
       | gen k _=>exact absurd k h2
       | tt k=>exact absurd k h1
       | long k k1=>
        generalize (atR d e).x=x at k1
        cases x <;> first | rfl | cases k1
       | opq k k1 k2 k3=>
        generalize Sg.val (atR d e).a=x at k2
        cases x <;> first | rfl | exact absurd rfl (k2 _)
       | oslc k _ n _ _ _ _ _=>generalize n+(atR d e).b=m;cases m <;> rfl
       | _=>rfl
    ·rename_i hb
     obtain⟨a,ha,hv⟩:=hE.slot d (blt_true.1 hb)
     have hk:iff3 (Nat.beq ((racN d).g V e).t 3) y (iff3 (Nat.beq ((racN d).g V e).t 0) false n)=true:=hk
     rw [(racN_eq d V).1] at hk
     unfold wanted
     simp only [ho,hd,ha]
     rcases iff3_c hk with⟨h1,hk⟩|⟨h1,hk⟩
     ·have:=hv.is3 (beq_t h1)
      subst this
      exact .inl ⟨rfl,hk⟩
     ·rcases iff3_c hk with⟨_,hk⟩ | ⟨h2,hk⟩
      ·cases hk
      ·refine .inr ⟨?_,hk⟩
       have h1:=beq_f h1
       have h2:=beq_f h2
       cases hv with
       | gen k _=>exact absurd k h2
       | ff k=>exact absurd k h1
       | long k k1=>
        generalize (atR d e).x=x at k1
        cases x <;> first | rfl | cases k1
       | opq k k1 k2 k3=>
        generalize Sg.val (atR d e).a=x at k2
        cases x <;> first | rfl | exact absurd rfl (k2 _)
       | oslc k _ n _ _ _ _ _=>generalize n+(atR d e).b=m;cases m <;> rfl
       | _=>rfl
    ·cases hk
   ·cases hk
  ·cases hk
noncomputable def rstep (P:Program) (ih:EvF) (nt:Nat) (ops:Array Oper) (s:CR) (o:Oper):Option CR:=match s with
  | .mk _ e ds H=>match cOper P nt o with
   | ⟨d,op,g⟩=>match wanted e ops g with
    | some true=>match oper P ih (opv e) op ds H with
     | some (.mk v ds' H')=>some (.mk .normal (putO e d v) ds' H')
     | none=>none
    | some false=>some (.mk .normal (putO e d .undef) ds H)
    | none=>none
theorem runOps_def (P:Program) (ih:EvF) (rd:Option Nat) (nt:Nat) (ops:Array Oper) (e:Tr AV) (ds:List ADef) (H:Heap):runOps P ih rd nt ops e ds H=lfold (rstep P ih nt ops) ops.toList (.mk .normal e ds H):=rfl
theorem rstep_le {P:Program} {a b:EvF} (hle:EvLe a b) {nt:Nat} {ops:Array Oper} {s c:CR} {o:Oper} (hc:rstep P a nt ops s o=some c):rstep P b nt ops s o=some c:=by
 cases s with
 | mk x e ds H=>
  simp only [rstep] at hc ⊢
  split at hc
  ·split at hc
   ·rename_i hop
    rw [oper_le hle hop]
    exact hc
   ·cases hc
  ·exact hc
  ·cases hc
theorem lfold_rstep_le {P:Program} {K:Orc} {n m:Nat} (h:n≤m) {nt:Nat} {ops:Array Oper} {l:List Oper} {s c:CR} (hc:lfold (rstep P (ev P K n) nt ops) l s=some c):lfold (rstep P (ev P K m) nt ops) l s=some c:=
 lfold_le (fun _ _ _ hf=>rstep_le (ev_le P K h) hf) _ _ _ hc
section
variable {P:Program} {K:Orc} {nt:Nat} {ops:Array Oper} {ih:CallT}
theorem oneF_ok (hC:CallR P K ih) {o:Oper} {e:Env} {E:Tr AV} {h:FH} {H:Heap} {ds:List ADef} {k:Env->FH->Bool} (hE:EnvR nt e E) (hH:FHr h H) (hk:(oneF P nt ops o).run ih e h k=true) :
  ∃ m E' H' e' h',rstep P (ev P K m) nt ops (.mk .normal E ds H) o=some (.mk .normal E' ds H')∧EnvR nt e' E'∧FHr h' H'∧h'.fr=h.fr∧k e' h'=true:=by
 unfold oneF at hk
 rw [cOperF_eq] at hk
 have hd:=@cOper_dst _ P nt o
 simp only [rstep]
 cases hc:cOper P nt o with
 | mk d op g=>
  rw [hc] at hk hd
  simp only at hk ⊢
  have run:(opF P nt op).run ih e h (fun v h=>k ((fs d).put v e) h)=true->wanted E ops g=some true->∃ m E' H' e' h',(match wanted E ops g with
    | some true=>(match oper P (ev P K m) (opv E) op ds H with
     | some (.mk v ds' H')=>some (CR.mk .normal (putO E d v) ds' H')
     | none=>none)
    | some false=>some (.mk .normal (putO E d .undef) ds H)
    | none=>none)=some (.mk .normal E' ds H')∧EnvR nt e' E'∧FHr h' H'∧h'.fr=h.fr∧k e' h'=true:=by
   intro hk hw
   obtain⟨m,a,v,h',H',h1,h2,h3,h4,h5⟩:=opF_ok (ds:=ds) hC hE hH hk
   exact⟨m,putO E d a,H',(fs d).put v e,h',by rw [hw];simp only [h1],fs_ok hE (fun t ht=>hd ht) h2,h3,h4,h5⟩
  cases g with
  | none=>exact run hk rfl
  | some g=>
   have hk:(guardF nt ops (some g)).run e ((opF P nt op).run ih e h fun v h=>k ((fs d).put v e) h) (k ((fs d).put vU e) h)=true:=hk
   rcases guardF_ok hE hk with⟨hw,hk⟩|⟨hw,hk⟩
   ·exact run hk hw
   ·exact⟨0,putO E d .undef,H,(fs d).put vU e,h,by rw [hw],fs_ok hE (fun t ht=>hd ht) VA.undef,hH,rfl,hk⟩
theorem oneR_run {o:Oper} {r:Fr} {e:Env} {h:FH} {k:Kt}:(oneR P nt ops o r).run ih e h k=(oneF P nt ops o).run ih e h fun e h=>r.run ih e h k:=by
 unfold oneR oneF
 cases cOperF P nt o with
 | mk d op g=>cases g <;> rfl
theorem opsF_ok (hC:CallR P K ih):∀ {l:List Oper} {e:Env} {E:Tr AV} {h:FH} {H:Heap} {ds:List ADef} {k:Env->FH->Bool},EnvR nt e E->FHr h H->(opsF P nt ops l).run ih e h k=true ->
  ∃ m E' H' e' h',lfold (rstep P (ev P K m) nt ops) l (.mk .normal E ds H)=some (.mk .normal E' ds H')∧EnvR nt e' E'∧FHr h' H'∧h'.fr=h.fr∧k e' h'=true:=by
 intro l
 induction l with
 | nil=>intro e E h H ds k hE hH hk;exact⟨0,E,H,e,h,rfl,hE,hH,rfl,hk⟩
 | cons o l ihl=>
  intro e E h H ds k hE hH hk
  have hk:(oneR P nt ops o (opsF P nt ops l)).run ih e h k=true:=hk
  rw [oneR_run] at hk
  obtain⟨m1,E1,H1,e1,h1,k1,k2,k3,k4,k5⟩:=oneF_ok (ds:=ds) hC hE hH hk
  obtain⟨m2,E2,H2,e2,h2,p1,p2,p3,p4,p5⟩:=ihl (ds:=ds) k2 k3 k5
  refine⟨max m1 m2,E2,H2,e2,h2,?_,p2,p3,p4.trans k4,p5⟩
  rw [lfold_cons]
  exact⟨_,rstep_le (ev_le P K (Nat.le_max_left ..)) k1,lfold_rstep_le (Nat.le_max_right ..) p1⟩
end
theorem sameN_0 {n:Nat} {x y:AV} (h:same0 x y=true):sameN (n+1) x y=true:=by
 unfold sameN
 cases x <;> cases y <;> first | exact h | cases h
theorem sameS_ok {n:Nat} {u v:V} {a b:AV} (hu:VA u a) (hv:VA v b) (ht:u.t=v.t) (h0:0 < u.t) (h8:u.t < 8) (h:sameS u v=true):sameN (n+1) a b=true:=by
 obtain⟨ha,h⟩:=iff3_f h
 have ha:u.a=v.a:=beq_t ha
 have ieq_self:∀ a:Int,ieq a a=true:=fun a=>by rw [ieq_eq];simp
 apply sameN_0
 rcases iff3_c h with⟨h4,_⟩|⟨h4,h⟩
 ·have h4:u.t < 4:=blt_true.1 h4
  have key:u.t=1∨u.t=2∨u.t=3:=by omega
  rcases key with k|k|k
  ·obtain⟨rfl,_⟩:=hu.is1 k
   obtain⟨rfl,_⟩:=hv.is1 (by omega)
   rw [ha]
   show (keq .i64 .i64 && ieq _ _)=true
   rw [ieq_self];rfl
  ·have:=hu.is2 k
   have:=hv.is2 (by omega)
   subst_vars;rfl
  ·have:=hu.is3 k
   have:=hv.is3 (by omega)
   subst_vars;rfl
 ·have h4:¬ u.t < 4:=blt_false.1 h4
  obtain⟨hb,h⟩:=iff3_f h
  obtain⟨hc,h⟩:=iff3_f h
  obtain⟨hd,h⟩:=iff3_f h
  obtain⟨he,hff⟩:=iff3_f h
  have hb:u.b=v.b:=beq_t hb
  have hc:u.c=v.c:=beq_t hc
  have hd:u.d=v.d:=beq_t hd
  have he:u.e=v.e:=beq_t he
  have hff:u.f=v.f:=beq_t hff
  have key:u.t=4∨u.t=5∨u.t=6∨u.t=7:=by omega
  rcases key with k|k|k|k
  ·obtain⟨rfl,_⟩:=hu.is4 k
   obtain⟨rfl,_⟩:=hv.is4 (by omega)
   rw [ha,hb,hc]
   show (Nat.beq _ _ && Nat.beq _ _ && Nat.beq _ _)=true
   rw [beq_self,beq_self,beq_self];rfl
  ·obtain⟨rfl,_⟩:=hu.is5 k
   obtain⟨rfl,_⟩:=hv.is5 (by omega)
   rw [ha,hb,hc,hd,he,hff]
   show (Nat.beq _ _ && Nat.beq _ _ && Nat.beq _ _ && Nat.beq _ _ && Nat.beq _ _ && (_ == _) && Nat.beq _ _)=true
   simp only [beq_self,beq_self_eq_true,Bool.and_self]
  ·cases hu <;> cases hv <;> first | rfl | (exfalso;omega)
  ·obtain⟨rfl,_⟩:=hu.is7 k
   obtain⟨rfl,_⟩:=hv.is7 (by omega)
   rw [ha]
   exact beq_self _
theorem VA.isOpq {v:V} {a:AV} (h:VA v a) (ht:v.t=13):a=Sg.val v.a∧∀ n,sameN (n+1) (Sg.val v.a) (Sg.val v.a)=true:=by
 cases h with
 | opq h h1 h2 h3=>exact⟨rfl,h3⟩
 | sym h _ _ _ _ _=>exact absurd (h.symm.trans ht) (by decide)
 | bits h _ _ _ _ _=>exact absurd (h.symm.trans ht) (by decide)
 | oslc k _ _ _ _ _ _ _=>exact absurd (k.symm.trans ht) (by decide)
 | fslc k _ _ _ _ _ _ _ _ _ _ _ _ _ _ _ _ _ _ _=>exact absurd (k.symm.trans ht) (by decide)
 | fptr k _ _ _ _ _ _ _ _ _ _ _=>exact absurd (k.symm.trans ht) (by decide)
 | _=>simp_all
theorem sameSym {n:Nat} {u v:V} {a b:AV} (hu:VA u a) (hv:VA v b) (ht:u.t=v.t) (h11:11 < u.t) (h:sameS u v=true):sameN (n+1) a b=true:=by
 obtain⟨ha,h⟩:=iff3_f h
 have ha:u.a=v.a:=beq_t ha
 rcases iff3_c h with⟨h4,_⟩|⟨_,h⟩
 ·have h4:u.t < 4:=blt_true.1 h4
  omega
 obtain⟨hb,h⟩:=iff3_f h
 obtain⟨hc,h⟩:=iff3_f h
 obtain⟨hd,h⟩:=iff3_f h
 obtain⟨he,hff⟩:=iff3_f h
 have hb:u.b=v.b:=beq_t hb
 have hc:u.c=v.c:=beq_t hc
 have hff:u.f=v.f:=beq_t hff
 have hk:=hu.kind
 have key:u.t=12∨u.t=13∨u.t=14∨u.t=15∨u.t=16∨u.t=17:=by omega
 have hd:u.d=v.d:=beq_t hd
 have he:u.e=v.e:=beq_t he
 rcases key with k|k|k|k|k|k
 ·obtain⟨rfl,_⟩:=hu.isSym k
  obtain⟨rfl,_⟩:=hv.isSym (by omega)
  apply sameN_0
  have e:sval u=sval v:=by unfold sval;rw [ha,hb,hc]
  rw [e,hff]
  show (keq (kindOf v.f) (kindOf v.f) && ieq (sval v) (sval v))=true
  rw [ieq_eq,keq_eq];simp
 ·obtain⟨rfl,hs⟩:=hu.isOpq k
  obtain⟨rfl,_⟩:=hv.isOpq (by omega)
  rw [<- ha]
  exact hs n
 ·obtain⟨m,m1,_,_,_,rfl⟩:=hu.isBits k
  obtain⟨m',m2,_,_,_,rfl⟩:=hv.isBits (by omega)
  apply sameN_0
  rw [ha,m2] at m1
  rw [Int.ofNat.inj m1,hb,hff]
  show (keq (kindOf v.f) (kindOf v.f) && ieq _ _)=true
  rw [ieq_eq,keq_eq];simp
 ·obtain⟨_,n,cap,_,_,_,rfl,_,_,hn,hcp,_⟩:=hu.isFslc k
  obtain⟨_,n',cap',_,_,_,rfl,_,_,hn',hcp',_⟩:=hv.isFslc (by omega)
  apply sameN_0
  rw [ha] at hn hcp
  rw [hn'] at hn
  rw [hcp'] at hcp
  rw [Int.ofNat.inj hn,Int.ofNat.inj hcp,hff,he]
  show (Nat.beq _ _ && Nat.beq _ _ && Nat.beq _ _ && Nat.beq _ _ && Nat.beq _ _ && (_ == _) && Nat.beq _ _)=true
  simp only [beq_self,beq_self_eq_true,Bool.and_self]
 ·obtain⟨_,_,_,_,rfl,_⟩:=hu.isFptr k
  obtain⟨_,_,_,_,rfl,_⟩:=hv.isFptr (by omega)
  apply sameN_0
  rw [hc,he,hb]
  show (Nat.beq _ _ && Nat.beq _ _ && Nat.beq _ _)=true
  rw [beq_self,beq_self,beq_self];rfl
 ·obtain⟨n,rfl,_,hn,_⟩:=hu.isOsl k
  obtain⟨n',rfl,_,hn',_⟩:=hv.isOsl (by omega)
  apply sameN_0
  rw [ha,hn'] at hn
  rw [Int.ofNat.inj hn,hb,hff,he]
  unfold oslA
  split
  ·rfl
  ·show (Nat.beq _ _ && Nat.beq _ _ && Nat.beq _ _ && Nat.beq _ _ && Nat.beq _ _ && (_ == _) && Nat.beq _ _)=true
   simp only [beq_self,beq_self_eq_true,Bool.and_self]
theorem sameC_ok {n:Nat} {f:V->V->Bool} (hf:∀ {u v:V} {a b:AV},VA u a->VA v b->f u v=true->sameN n a b=true) {r s:R V}:∀ (m i j:Nat) (cs cs':List AV),cs.length=m->cs'.length=m->(∀ (k:Nat) a,cs[k]?=some a->VA (atR (i+k) r) a)->(∀ (k:Nat) a,cs'[k]?=some a->VA (atR (j+k) s) a) ->
  sameC f r s m i j=true->sameL (sameN n) cs cs'=true:=by
 intro m
 induction m with
 | zero=>
  intro i j cs cs' h1 h2 _ _ _
  match cs,cs',h1,h2 with
  | [],[],_,_=>rfl
 | succ m ihm=>
  intro i j cs cs' h1 h2 h3 h4 h
  match cs,cs',h1,h2 with
  | c::cs,c'::cs',h1,h2=>
   have h:(frc i fun i=>frc j fun j=>iff3 (f (rg i r) (rg j s)) (sameC f r s m (Nat.succ i) (Nat.succ j)) false)=true:=h
   rw [frc_eq,frc_eq] at h
   obtain⟨h5,h6⟩:=iff3_f h
   rw [rg_eq,rg_eq] at h5
   have e1:=hf (h3 0 c rfl) (h4 0 c' rfl) h5
   have e2:=ihm (i+1) (j+1) cs cs' (by simpa using h1) (by simpa using h2) (fun k a ha=>by have:=h3 (k+1) a (by simpa using ha);rwa [show i+1+k=i+(k+1) by omega]) (fun k a ha=>by have:=h4 (k+1) a (by simpa using ha);rwa [show j+1+k=j+(k+1) by omega]) h6
   show (sameN n c c' && sameL (sameN n) cs cs')=true
   rw [e1,e2];rfl
theorem same1_ok {n:Nat} {f:V->V->Bool} (hf:∀ {u v:V} {a b:AV},VA u a->VA v b->f u v=true->sameN n a b=true) {u v:V} {a b:AV} (hu:VA u a) (hv:VA v b) (h:same1 (n+1) f u v=true):sameN (n+1) a b=true:=by
 have gen:sameA (n+1) u v=true->sameN (n+1) a b=true:=by
  intro h
  unfold sameA at h
  obtain⟨a',h1,h⟩:=onSome_t h
  obtain⟨b',h2,h⟩:=onSome_t h
  rw [av_ok hu h1,av_ok hv h2]
  exact h
 obtain⟨ht,h⟩:=iff3_f h
 have ht:u.t=v.t:=beq_t ht
 rcases iff3_c h with⟨h8,h⟩|⟨_,h⟩
 ·rcases iff3_c h with⟨h0,h⟩ | ⟨_,h⟩
  ·exact sameS_ok hu hv ht (blt_true.1 h0) (blt_true.1 h8) h
  ·exact gen h
 ·rcases iff3_c h with⟨h11,h⟩ | ⟨_,h⟩
  ·exact sameSym hu hv ht (blt_true.1 h11) h
  rcases iff3_c h with⟨h9,h⟩|⟨_,h⟩
  ·have h9:u.t=9:=beq_t h9
   obtain⟨cs,r,rfl,hr,hcl,hl,hcell⟩:=hu.is9 h9
   obtain⟨cs',s,rfl,hs,hcl',hl',hcell'⟩:=hv.is9 (by omega)
   obtain⟨hb,h⟩:=iff3_f h
   have hb:u.b=v.b:=beq_t hb
   have h:=onOne_t h hr
   have h:=onOne_t h hs
   show sameL (sameN n) cs cs'=true
   exact sameC_ok hf u.b u.a v.a cs cs' hcl (by rw [hcl',hb]) hcell hcell' h
  ·exact gen h
theorem sameF_ok {u v:V} {a b:AV} (hu:VA u a) (hv:VA v b) (h:sameF u v=true):sameV a b=true:=by
 refine same1_ok (n:=5) (f:=same1 5 (sameA 4)) (fun hu hv h=>same1_ok (n:=4) (f:=sameA 4) (fun hu hv h=>?_) hu hv h) hu hv h
 unfold sameA at h
 obtain⟨a',h1,h⟩:=onSome_t h
 obtain⟨b',h2,h⟩:=onSome_t h
 rw [av_ok hu h1,av_ok hv h2]
 exact h
end Go.Ev
namespace Go.Ev
variable [Sg]
inductive L2 {α β:Type} (R:α->β->Prop):List α->List β->Prop
 | nil:L2 R [] []
 | cons {a:α} {b:β} {l:List α} {m:List β}:R a b->L2 R l m->L2 R (a::l) (b::m)
theorem L2.append {α β:Type} {R:α->β->Prop} {l l':List α} {m m':List β} (h:L2 R l m) (h':L2 R l' m'):L2 R (l++l') (m++m'):=by
 induction h with
 | nil=>exact h'
 | cons h _ ih=>exact .cons h ih
theorem L2.reverse {α β:Type} {R:α->β->Prop} {l:List α} {m:List β} (h:L2 R l m):L2 R l.reverse m.reverse:=by
 induction h with
 | nil=>exact .nil
 | cons h _ ih=>rw [List.reverse_cons,List.reverse_cons];exact ih.append (.cons h .nil)
theorem L2.get {α β:Type} {R:α->β->Prop} {l:List α} {m:List β} (h:L2 R l m):∀ {i:Nat} {a:α},l[i]?=some a->∃ b,m[i]?=some b∧R a b:=by
 induction h with
 | nil=>intro i a h;simp at h
 | cons h _ ih=>
  intro i a ha
  cases i with
  | zero=>simp at ha;subst ha;exact⟨_,rfl,h⟩
  | succ i=>simp at ha;obtain⟨b,h1,h2⟩:=ih ha;exact⟨b,by simpa using h1,h2⟩
structure PR (p:FP) (q:Pend):Prop where
 i:p.i=q.i
 id:p.id=q.id
 lt:p.id < 262144
 ins:p.ins=q.ins
 o:FOr p.o (some q.o)
 kind:p.o.t=1∨p.o.t=2
theorem PR.isRows {p:FP} {q:Pend} (h:PR p q):q.o.isRows=Nat.beq p.o.t 1:=by
 rcases h.kind with k|k
 ·obtain⟨T,h1,_⟩:=h.o.rows k
  cases h1':q.o with
  | rows=>rw [k];rfl
  | _=>rw [h1'] at h1;cases h1
 ·have h1:=h.o.map k
  cases h1':q.o with
  | map=>rw [k];rfl
  | _=>rw [h1'] at h1;cases h1
def MR2 (a:FP × Nat) (b:Pend × Nat):Prop:=PR a.1 b.1∧a.2=b.2
structure LR (nt:Nat) (l:FL) (L:Look):Prop where
 env:EnvR nt l.e L.e
 op:l.d.o.op=L.op
 quiet:l.d.o.op.quietF
 anc:l.anc=L.anc
 lo:l.d.lo=L.lo
 hi:l.d.hi=L.hi
 v:VA l.v L.v
 ptr:∀ g n x,l.d.o.op=.load g n x->fxOk nt x=true
structure DRF (nt:Nat) (fr:Fri) (s:FD) (S:DS):Prop where
 env:EnvR nt s.e S.e
 heap:FHr s.h S.H
 fr:s.h.fr=fr
 Hs:L2 FHr s.Hs S.Hs
 c:S.Hs.length=s.c+1
 nid:s.nid=S.nid
 pend:L2 PR s.pend S.pend
 mats:L2 MR2 s.mats S.mats
 looks:L2 (LR nt) s.looks S.looks
theorem withF_ok {a:Nat} {l:List FP} {m:List Pend} (hl:L2 PR l m):∀ {h:FH} {H:Heap},FHr h H->∃ H',withAnc a m H=some H'∧FHr (withF a l h) H'∧(withF a l h).fr=h.fr:=by
 induction hl with
 | nil=>intro h H hH;exact⟨H,rfl,hH,rfl⟩
 | @cons p q l m hp _ ih=>
  intro h H hH
  have hb:(bit a q.i && q.o.isRows)=andB (bit a p.i) (Nat.beq p.o.t 1):=by
   rw [<- hp.i,hp.isRows]
   cases bit a p.i <;> rfl
  have e1:withF a (p::l) h=withF a l (Bool.rec (motive:=fun _=>FH) h (hput p.id p.o h) (andB (bit a p.i) (Nat.beq p.o.t 1))):=rfl
  have e2:withAnc a (q::m) H=(match (match bit a q.i && q.o.isRows with | true=>some (H.put q.id q.o) | false=>some H) with | none=>none | some H1=>withAnc a m H1):=by
   unfold withAnc
   rw [lfold_cons']
   cases bit a q.i && q.o.isRows <;> rfl
  rw [e1,e2,hb]
  cases andB (bit a p.i) (Nat.beq p.o.t 1) with
  | true=>
   have:=hH.hput hp.lt (x:=q.o) hp.o
   rw [hp.id] at this
   obtain⟨H',k1,k2,k3⟩:=ih this
   rw [<- hp.id] at k1 k2 k3
   refine⟨H',?_,k2,k3⟩
   simp only
   rw [<- hp.id]
   exact k1
  | false=>exact ih hH
theorem withMF_ok {a k:Nat} {l:List (FP × Nat)} {m:List (Pend × Nat)} (hl:L2 MR2 l m):∀ {h:FH} {H:Heap},FHr h H->∃ H',withMats a k m H=some H'∧FHr (withMF a k l h) H':=by
 induction hl with
 | nil=>intro h H hH;exact⟨H,rfl,hH⟩
 | @cons p q l m hp _ ih=>
  intro h H hH
  obtain⟨hp,hn⟩:=hp
  have hb:(bit a q.1.i && q.1.o.isRows && Nat.blt k q.2)=andB (bit a p.1.i) (andB (Nat.beq p.1.o.t 1) (Nat.blt k p.2)):=by
   rw [<- hp.i,hp.isRows,<- hn]
   cases bit a p.1.i <;> cases Nat.beq p.1.o.t 1 <;> rfl
  have e1:withMF a k (p::l) h=withMF a k l (Bool.rec (motive:=fun _=>FH) h (hput p.1.id p.1.o h) (andB (bit a p.1.i) (andB (Nat.beq p.1.o.t 1) (Nat.blt k p.2)))):=rfl
  have e2:withMats a k (q::m) H=(match (match bit a q.1.i && q.1.o.isRows && Nat.blt k q.2 with | true=>some (H.put q.1.id q.1.o) | false=>some H) with | none=>none | some H1=>withMats a k m H1):=by
   unfold withMats
   rw [lfold_cons']
   cases bit a q.1.i && q.1.o.isRows && Nat.blt k q.2 <;> rfl
  rw [e1,e2,hb]
  cases andB (bit a p.1.i) (andB (Nat.beq p.1.o.t 1) (Nat.blt k p.2)) with
  | true=>
   have:=hH.hput hp.lt (x:=q.1.o) hp.o
   rw [hp.id] at this
   obtain⟨H',k1,k2⟩:=ih this
   rw [<- hp.id] at k1 k2
   refine⟨H',?_,k2⟩
   simp only
   rw [<- hp.id]
   exact k1
  | false=>exact ih hH
noncomputable def with1S (a b:Nat) (m:List Pend) (H:Heap):Heap:=m.foldl (fun H p=>match Nat.beq p.id b && (bit a p.i && p.o.isRows) with | true=>H.put p.id p.o | false=>H) H
noncomputable def withM1S (a b k:Nat) (m:List (Pend × Nat)) (H:Heap):Heap:=m.foldl (fun H p=>match Nat.beq p.1.id b && (bit a p.1.i && p.1.o.isRows && Nat.blt k p.2) with | true=>H.put p.1.id p.1.o | false=>H) H
theorem with1F_ok {a b:Nat} {l:List FP} {m:List Pend} (hl:L2 PR l m):∀ {h:FH} {H:Heap},FHr h H->FHr (with1F a b l h) (with1S a b m H):=by
 induction hl with
 | nil=>intro h H hH;exact hH
 | @cons p q l m hp _ ih=>
  intro h H hH
  have hb:(Nat.beq q.id b && (bit a q.i && q.o.isRows))=andB (Nat.beq p.id b) (andB (bit a p.i) (Nat.beq p.o.t 1)):=by
   rw [<- hp.i,hp.isRows,<- hp.id]
   cases Nat.beq p.id b <;> cases bit a p.i <;> rfl
  have e1:with1F a b (p::l) h=with1F a b l (Bool.rec (motive:=fun _=>FH) h (hput p.id p.o h) (andB (Nat.beq p.id b) (andB (bit a p.i) (Nat.beq p.o.t 1)))):=rfl
  have e2:with1S a b (q::m) H=with1S a b m (match Nat.beq q.id b && (bit a q.i && q.o.isRows) with | true=>H.put q.id q.o | false=>H):=rfl
  rw [e1,e2,hb]
  cases andB (Nat.beq p.id b) (andB (bit a p.i) (Nat.beq p.o.t 1)) with
  | true=>
   have:=hH.hput hp.lt (x:=q.o) hp.o
   rw [hp.id] at this
   have:=ih this
   rw [<- hp.id] at this
   rw [<- hp.id]
   exact this
  | false=>exact ih hH
theorem withM1F_ok {a b k:Nat} {l:List (FP × Nat)} {m:List (Pend × Nat)} (hl:L2 MR2 l m):∀ {h:FH} {H:Heap},FHr h H->FHr (withM1F a b k l h) (withM1S a b k m H):=by
 induction hl with
 | nil=>intro h H hH;exact hH
 | @cons p q l m hp _ ih=>
  intro h H hH
  obtain⟨hp,hn⟩:=hp
  have hb:(Nat.beq q.1.id b && (bit a q.1.i && q.1.o.isRows && Nat.blt k q.2))=andB (Nat.beq p.1.id b) (andB (bit a p.1.i) (andB (Nat.beq p.1.o.t 1) (Nat.blt k p.2))):=by
   rw [<- hp.i,hp.isRows,<- hp.id,<- hn]
   cases Nat.beq p.1.id b <;> cases bit a p.1.i <;> cases Nat.beq p.1.o.t 1 <;> rfl
  have e1:withM1F a b k (p::l) h=withM1F a b k l (Bool.rec (motive:=fun _=>FH) h (hput p.1.id p.1.o h) (andB (Nat.beq p.1.id b) (andB (bit a p.1.i) (andB (Nat.beq p.1.o.t 1) (Nat.blt k p.2))))):=rfl
  have e2:withM1S a b k (q::m) H=withM1S a b k m (match Nat.beq q.1.id b && (bit a q.1.i && q.1.o.isRows && Nat.blt k q.2) with | true=>H.put q.1.id q.1.o | false=>H):=rfl
  rw [e1,e2,hb]
  cases andB (Nat.beq p.1.id b) (andB (bit a p.1.i) (andB (Nat.beq p.1.o.t 1) (Nat.blt k p.2))) with
  | true=>
   have:=hH.hput hp.lt (x:=q.1.o) hp.o
   rw [hp.id] at this
   have:=ih this
   rw [<- hp.id] at this
   rw [<- hp.id]
   exact this
  | false=>exact ih hH
theorem with1S_get {a b:Nat}:∀ (m:List Pend) (H H2:Heap),H.get b=H2.get b->∃ H1,withAnc a m H=some H1∧H1.get b=(with1S a b m H2).get b:=by
 intro m
 induction m with
 | nil=>intro H H2 h;exact⟨H,rfl,h⟩
 | cons q m ih=>
  intro H H2 h
  have e2:withAnc a (q::m) H=(match (match bit a q.i && q.o.isRows with | true=>some (H.put q.id q.o) | false=>some H) with | none=>none | some H1=>withAnc a m H1):=by
   unfold withAnc
   rw [lfold_cons']
   cases bit a q.i && q.o.isRows <;> rfl
  have e3:with1S a b (q::m) H2=with1S a b m (match Nat.beq q.id b && (bit a q.i && q.o.isRows) with | true=>H2.put q.id q.o | false=>H2):=rfl
  rw [e2,e3]
  cases hb:bit a q.i && q.o.isRows with
  | true=>
   cases hid:Nat.beq q.id b with
   | true=>
    have:=beq_t hid
    exact ih (H.put q.id q.o) (H2.put q.id q.o) (by rw [Heap.get_put,Heap.get_put,if_pos this,if_pos this])
   | false=>
    have:=beq_f hid
    exact ih (H.put q.id q.o) H2 (by rw [Heap.get_put,if_neg this];exact h)
  | false=>
   have:(Nat.beq q.id b && false)=false:=by cases Nat.beq q.id b <;> rfl
   rw [this]
   exact ih H H2 h
theorem withM1S_get {a b k:Nat}:∀ (m:List (Pend × Nat)) (H H2:Heap),H.get b=H2.get b->∃ H1,withMats a k m H=some H1∧H1.get b=(withM1S a b k m H2).get b:=by
 intro m
 induction m with
 | nil=>intro H H2 h;exact⟨H,rfl,h⟩
 | cons q m ih=>
  intro H H2 h
  have e2:withMats a k (q::m) H=(match (match bit a q.1.i && q.1.o.isRows && Nat.blt k q.2 with | true=>some (H.put q.1.id q.1.o) | false=>some H) with | none=>none | some H1=>withMats a k m H1):=by
   unfold withMats
   rw [lfold_cons']
   cases bit a q.1.i && q.1.o.isRows && Nat.blt k q.2 <;> rfl
  have e3:withM1S a b k (q::m) H2=withM1S a b k m (match Nat.beq q.1.id b && (bit a q.1.i && q.1.o.isRows && Nat.blt k q.2) with | true=>H2.put q.1.id q.1.o | false=>H2):=rfl
  rw [e2,e3]
  cases hb:bit a q.1.i && q.1.o.isRows && Nat.blt k q.2 with
  | true=>
   cases hid:Nat.beq q.1.id b with
   | true=>
    have:=beq_t hid
    exact ih (H.put q.1.id q.1.o) (H2.put q.1.id q.1.o) (by rw [Heap.get_put,Heap.get_put,if_pos this,if_pos this])
   | false=>
    have:=beq_f hid
    exact ih (H.put q.1.id q.1.o) H2 (by rw [Heap.get_put,if_neg this];exact h)
  | false=>
   have:(Nat.beq q.1.id b && false)=false:=by cases Nat.beq q.1.id b <;> rfl
   rw [this]
   exact ih H H2 h
theorem noIdF_ok {a b:Nat} {l:List FP} {m:List Pend} (hl:L2 PR l m) (h:noIdF b l=true):∀ H,with1S a b m H=H:=by
 induction hl with
 | nil=>intro H;rfl
 | @cons p q l m hp _ ih=>
  intro H
  obtain⟨h1,h2⟩:=(lall_cons _ _ _).1 h
  have hq:Nat.beq q.id b=false:=by
   rw [<- hp.id]
   rcases iff3_c (c:=Nat.beq p.id b) h1 with⟨_,hx⟩|⟨hx,_⟩
   ·cases hx
   ·exact hx
  have e3:with1S a b (q::m) H=with1S a b m (match Nat.beq q.id b && (bit a q.i && q.o.isRows) with | true=>H.put q.id q.o | false=>H):=rfl
  rw [e3,hq]
  exact ih h2 H
theorem noIdM_ok {a b k:Nat} {l:List (FP × Nat)} {m:List (Pend × Nat)} (hl:L2 MR2 l m) (h:noIdM b l=true):∀ H,withM1S a b k m H=H:=by
 induction hl with
 | nil=>intro H;rfl
 | @cons p q l m hp _ ih=>
  intro H
  obtain⟨h1,h2⟩:=(lall_cons _ _ _).1 h
  have hq:Nat.beq q.1.id b=false:=by
   rw [<- hp.1.id]
   rcases iff3_c (c:=Nat.beq p.1.id b) h1 with⟨_,hx⟩|⟨hx,_⟩
   ·cases hx
   ·exact hx
  have e3:withM1S a b k (q::m) H=withM1S a b k m (match Nat.beq q.1.id b && (bit a q.1.i && q.1.o.isRows && Nat.blt k q.2) with | true=>H.put q.1.id q.1.o | false=>H):=rfl
  rw [e3,hq]
  exact ih h2 H
theorem blkOf_some {op:AOp} {x:Operand} (h:blkOf op=some x):∃ g n,op=.load g n x:=by
 cases op <;> first | (cases h;exact⟨_,_,rfl⟩) | cases h
theorem fp_tag {v:V} {h:FH} {n:Nat} {f:R V->Nat->Bool} (hk:onFp v h n f=true):v.t=16:=beq_t (andB_t (andB_t (iff3_f hk).1).1).1
theorem load_tag {e:Env} {h:FH} {ih:CallT} {k:V->FH->Bool} {g:Bool} {n:Nat} {x:Fx} (hk:(loadF n g x).run ih e h k=true):(x.get e).t=4∨(x.get e).t=16:=by
 cases g with
 | true=>
  rcases iff3_c (c:=Nat.beq (x.get e).t 4) hk with⟨h1,_⟩|⟨_,h1⟩
  ·exact .inl (beq_t h1)
  ·exact .inr (fp_tag h1)
 | false=>
  match n,hk with
  | 0,hk=>cases hk
  | n+2,hk=>cases hk
  | 1,hk=>
   rcases iff3_c (c:=Nat.beq (x.get e).t 4) hk with⟨h1,_⟩|⟨_,h1⟩
   ·exact .inl (beq_t h1)
   ·exact .inr (fp_tag h1)
theorem load_ptr {P:Program} {nt:Nat} {e:Env} {h:FH} {ih:CallT} {k:V->FH->Bool} {g:Bool} {n:Nat} {x:Operand} (hk:(opF P nt (.load g n x)).run ih e h k=true):fxOk nt x=true∧(((fx x).get e).t=4∨((fx x).get e).t=16):=by
 obtain⟨hx,hk⟩:=opF_fx hk
 refine⟨fxs_mem hx (x:=x) (List.mem_cons_self ..),?_⟩
 exact load_tag hk
theorem load_at {P:Program} {nt:Nat} {e:Env} {E:Tr AV} {h:FH} {H2 H1:Heap} {ih:CallT} {k:V->FH->Bool} {g:Bool} {n:Nat} {x:Operand} (hE:EnvR nt e E) (hH:FHr h H2) (hb:H1.get ((fx x).get e).c=H2.get ((fx x).get e).c)
  (hk:(opF P nt (.load g n x)).run ih e h k=true):∃ a v,aval P H1 (opv E) (.load g n x)=some (a,H1)∧VA v a∧k v h=true:=by
 obtain⟨hx,hk⟩:=opF_fx hk
 obtain⟨ax,hax,hvx⟩:=fx_ok hE (fxs_mem hx (x:=x) (List.mem_cons_self ..))
 have hk:(loadF n g (fx x)).run ih e h k=true:=hk
 obtain⟨p,l,u,v,h1,h2,h3,h4,h5⟩:=loadF_ok (x:=fx x) hH hvx hk
 have hpb:p.b=((fx x).get e).c:=by
  rcases load_tag hk with ht|ht
  ·obtain⟨h6,_⟩:=hvx.is4 ht
   rw [h6] at h1
   cases h1;rfl
  ·obtain⟨_,_,_,_,h6,_⟩:=hvx.isFptr ht
   rw [h6] at h1
   cases h1;rfl
 rw [h1] at hax
 have hread:H1.read p n=some l:=by
  rw [<- h2]
  unfold Heap.read
  rw [hpb,hb]
 refine⟨u,v,?_,h4,h5⟩
 simp only [aval,hax,hread]
 cases g with
 | true=>cases h3;rfl
 | false=>
  simp only at h3 ⊢
  split at h3
  ·cases h3;rfl
  ·cases h3
noncomputable def ststep (a n:Nat) (s:List Pend × List (Pend × Nat) × Heap) (p:Pend):Option (List Pend × List (Pend × Nat) × Heap):=match bit a p.i with
  | false=>some (p::s.1,s.2.1,s.2.2)
  | true=>match Nat.beq (Nat.land p.ins a) p.ins with
   | true=>some (s.1,(p,n)::s.2.1,s.2.2.put p.id p.o)
   | false=>none
theorem settle_def (a n:Nat) (pend:List Pend) (mats:List (Pend × Nat)) (H:Heap):settle a n pend mats H=lfold (ststep a n) pend ([],mats,H):=rfl
theorem settleF_go {a n:Nat} {k:List FP->List (FP × Nat)->FH->Bool} {l:List FP} {m:List Pend} (hl:L2 PR l m):∀ {r:List FP} {r':List Pend} {t:List (FP × Nat)} {t':List (Pend × Nat)} {h:FH} {H:Heap},L2 PR r r'->L2 MR2 t t'->FHr h H ->
  (List.rec (motive:=fun _=>List FP->List (FP × Nat)->FH->Bool) (fun r m h=>k r m h)
  (fun p _ ih r m h=>iff3 (bit a p.i) (iff3 (Nat.beq (Nat.land p.ins a) p.ins) (ih r ((p,n)::m) (hput p.id p.o h)) false) (ih (p::r) m h)) l r t h:Bool)=true ->
  ∃ S r1 t1 h1,lfold (ststep a n) m (r',t',H)=some S∧L2 PR r1 S.1∧L2 MR2 t1 S.2.1∧FHr h1 S.2.2∧h1.fr=h.fr∧k r1 t1 h1=true:=by
 induction hl with
 | nil=>intro r r' t t' h H hr ht hH hk;exact⟨(r',t',H),r,t,h,rfl,hr,ht,hH,rfl,hk⟩
 | @cons p q l m hp _ ih=>
  intro r r' t t' h H hr ht hH hk
  rcases iff3_c hk with⟨hb,hk⟩|⟨hb,hk⟩
  ·obtain⟨hi,hk⟩:=iff3_f hk
   have hb:bit a p.i=true:=hb
   have hi:Nat.beq (Nat.land p.ins a) p.ins=true:=hi
   have hput:=hH.hput hp.lt (x:=q.o) hp.o
   obtain⟨S,r1,t1,h1,k1,k2⟩:=ih (t':=(q,n)::t') hr (.cons ⟨hp,rfl⟩ ht) hput hk
   refine⟨S,r1,t1,h1,?_,k2⟩
   rw [lfold_cons]
   refine⟨_,?_,k1⟩
   unfold ststep
   rw [<- hp.i,hb,<- hp.ins]
   simp only [hi]
   rw [hp.id]
  ·have hb:bit a p.i=false:=hb
   obtain⟨S,r1,t1,h1,k1,k2⟩:=ih (r':=q::r') (.cons hp hr) ht hH hk
   refine⟨S,r1,t1,h1,?_,k2⟩
   rw [lfold_cons]
   refine⟨_,?_,k1⟩
   unfold ststep
   rw [<- hp.i,hb]
noncomputable def instep (kk:EqP) (k v:AV) (b j a:Nat) (s:Bool × List Pend) (p:Pend):Option (Bool × List Pend):=match Nat.beq p.id b with
  | false=>some (s.1,p::s.2)
  | true=>match bit a p.i with
   | false=>none
   | true=>match p.o with
    | .map es=>match lookIn kk k es with
     | some none=>match primEq kk k k with
      | some true=>some (true,⟨p.i,p.id,.map (lapp es [(k,v)]),Nat.lor p.ins (Nat.shiftLeft 1 j),lapp p.ent [(j,k,v)]⟩::s.2)
      | _=>none
     | _=>none
    | _=>none
theorem insPend_def (kk:EqP) (k v:AV) (b j a:Nat) (pend:List Pend):insPend kk k v b j a pend=lfold (instep kk k v b j a) pend (false,[]):=rfl
theorem insF_go {kk:EqP} {kv vv:AV} {b j a:Nat} {k:List FP->Bool} {l:List FP} {m:List Pend} (hl:L2 PR l m):∀ {f:Bool} {r:List FP} {r':List Pend},L2 PR r r' ->
  (List.rec (motive:=fun _=>Bool->List FP->Bool) (fun f r=>iff3 f (k r) false)
  (fun p _ ih f r=>iff3 (Nat.beq p.id b)
   (iff3 (andB (bit a p.i) (Nat.beq p.o.t 2)) (onSome (lookInF kk kv p.o.m) fun o=>Option.rec (motive:=fun _=>Bool)
    (onSome (primEqF kk kv kv) fun t=>iff3 t (ih true (⟨p.i,p.id,⟨lp0,rs0,lapp p.o.m [(kv,vv)],2,0,0⟩,Nat.lor p.ins (Nat.shiftLeft 1 j)⟩::r)) false) (fun _=>false) o) false)
   (ih f (p::r))) l f r:Bool)=true ->
  ∃ r1 S,lfold (instep kk kv vv b j a) m (f,r')=some (true,S)∧L2 PR r1 S∧k r1=true:=by
 induction hl with
 | nil=>
  intro f r r' hr hk
  obtain⟨hf,hk⟩:=iff3_f hk
  subst hf
  exact⟨r,r',rfl,hr,hk⟩
 | @cons p q l m hp _ ih=>
  intro f r r' hr hk
  rcases iff3_c hk with⟨hb,hk⟩|⟨hb,hk⟩
  ·have hb:Nat.beq p.id b=true:=hb
   obtain⟨hc,hk⟩:=iff3_f hk
   obtain⟨h1,h2⟩:=andB_t hc
   have h1:bit a p.i=true:=h1
   have h2:p.o.t=2:=beq_t h2
   obtain⟨o,h3,hk⟩:=onSome_t hk
   have hm:=hp.o.map h2
   cases o with
   | some _=>cases hk
   | none=>
    obtain⟨t,h4,hk⟩:=onSome_t hk
    obtain⟨ht,hk⟩:=iff3_f hk
    subst ht
    have h3:lookInF kk kv p.o.m=some none:=h3
    rw [lookInF_eq] at h3
    rw [primEqF_eq] at h4
    have hnew:PR ⟨p.i,p.id,⟨lp0,rs0,lapp p.o.m [(kv,vv)],2,0,0⟩,Nat.lor p.ins (Nat.shiftLeft 1 j)⟩ ⟨q.i,q.id,.map (lapp p.o.m [(kv,vv)]),Nat.lor q.ins (Nat.shiftLeft 1 j),lapp q.ent [(j,kv,vv)]⟩:=
     ⟨hp.i,hp.id,hp.lt,by show Nat.lor p.ins _=Nat.lor q.ins _;rw [hp.ins],FOr.mkMap (o:=⟨lp0,rs0,lapp p.o.m [(kv,vv)],2,0,0⟩) rfl rfl,.inr rfl⟩
    obtain⟨r1,S,k1,k2⟩:=ih (.cons hnew hr) hk
    refine⟨r1,S,?_,k2⟩
    rw [lfold_cons]
    refine⟨_,?_,k1⟩
    have hqo:q.o=.map p.o.m:=by injection hm
    unfold instep
    rw [<- hp.id,hb,<- hp.i,h1,hqo]
    simp only [h3,h4]
  ·have hb:Nat.beq p.id b=false:=hb
   obtain⟨r1,S,k1,k2⟩:=ih (r':=q::r') (.cons hp hr) hk
   refine⟨r1,S,?_,k2⟩
   rw [lfold_cons]
   refine⟨_,?_,k1⟩
   unfold instep
   rw [<- hp.id,hb]
section
variable {P:Program} {K:Orc} {nt:Nat} {ops:Array Oper} {ih:CallT} {anc:Tr Nat} {rd:Option Nat}
theorem DRF.put {fr:Fri} {s:FD} {S:DS} (hR:DRF nt fr s S) {d:Option Nat} (hd:∀ t,d=some t->t < nt) {v:V} {a:AV} (hv:VA v a) (j:Nat):DRF nt fr (dputF s d v) { S with e:=putO S.e d a,j:=j }:=
 ⟨fs_ok hR.env hd hv,hR.heap,hR.fr,hR.Hs,hR.c,hR.nid,hR.pend,hR.mats,hR.looks⟩
theorem doneF_ok (hC:CallR P K ih) {d:DOp} (hcls:d.cls=clsOf d.o.op) (hdst:∀ t,d.o.dst=some t->t < nt) {fr:Fri} {s:FD} {S:DS} {k:FD->Bool} (hR:DRF nt fr s S) (hk:(doneF P nt ops anc S.j d).run ih s k=true) :
  ∃ m S' s',dstep P (ev P K m) rd ops anc S d=some S'∧DRF nt fr s' S'∧S'.j=S.j+1∧S'.ds=S.ds∧k s'=true:=by
 obtain⟨⟨dst,op,g⟩,cls,lo,hi⟩:=d
 have hcls:cls=clsOf op:=hcls
 have hdst:∀ t,dst=some t->t < nt:=hdst
 have anc_t:∀ {f:Nat->Bool},ancOf anc S.j f=true->∃ a,anc.get S.j=some a∧f a=true:=fun h=>onSome_t h
 have alloc:∀ cls,cls=.dalloc∨cls=.dmap->((guardF nt ops g).run s.e
   ((allocF nt op).run s.e fun o f=>frc s.nid fun b=>iff3 (Nat.blt b 262144) (k ⟨(fs dst).put (f b) s.e,s.h,s.Hs,Nat.succ b,⟨S.j,b,o,0⟩::s.pend,s.mats,s.looks,s.c⟩) false)
   (k ⟨(fs dst).put vU s.e,s.h,s.Hs,Nat.succ s.nid,s.pend,s.mats,s.looks,s.c⟩))=true ->
   ∃ m S' s',dstep P (ev P K m) rd ops anc S ⟨⟨dst,op,g⟩,cls,lo,hi⟩=some S'∧DRF nt fr s' S'∧S'.j=S.j+1∧S'.ds=S.ds∧k s'=true:=by
  intro cls hc hk
  rcases guardF_ok hR.env hk with⟨hw,hk⟩|⟨hw,hk⟩
  ·obtain⟨o,fn,fo,gv,h1,⟨h2,hkind⟩,h3,h4⟩:=allocF_ok hR.env hk
   rw [frc_eq] at h4
   obtain⟨h5,h6⟩:=iff3_f h4
   have h5:s.nid < 262144:=blt_true.1 h5
   have hp:PR ⟨S.j,s.nid,fo,0⟩ ⟨S.j,S.nid,o,0,[]⟩:=⟨rfl,hR.nid,h5,rfl,h2,hkind⟩
   refine⟨0,{ S with e:=putO S.e dst (fn S.nid),j:=Nat.succ S.j,nid:=Nat.succ S.nid,pend:=⟨S.j,S.nid,o,0,[]⟩::S.pend },⟨(fs dst).put (gv s.nid) s.e,s.h,s.Hs,Nat.succ s.nid,⟨S.j,s.nid,fo,0⟩::s.pend,s.mats,s.looks,s.c⟩,?_,
    ⟨fs_ok hR.env hdst (by rw [<- hR.nid];exact h3 _ h5),hR.heap,hR.fr,hR.Hs,hR.c,by show Nat.succ s.nid=Nat.succ S.nid;rw [hR.nid],.cons hp hR.pend,hR.mats,hR.looks⟩,rfl,rfl,h6⟩
   rcases hc with rfl|rfl <;> simp only [dstep,hw,h1]
  ·refine⟨0,{ S with e:=putO S.e dst .undef,j:=Nat.succ S.j,nid:=Nat.succ S.nid },⟨(fs dst).put vU s.e,s.h,s.Hs,Nat.succ s.nid,s.pend,s.mats,s.looks,s.c⟩,?_,
    ⟨fs_ok hR.env hdst VA.undef,hR.heap,hR.fr,hR.Hs,hR.c,by show Nat.succ s.nid=Nat.succ S.nid;rw [hR.nid],hR.pend,hR.mats,hR.looks⟩,rfl,rfl,hk⟩
   rcases hc with rfl|rfl <;> simp only [dstep,hw]
 cases cls with
 | pure=>
  have hq:op.quietF:=by cases op <;> first | trivial | cases hcls
  have hk:(guardF nt ops g).run s.e ((opF P nt op).run ih s.e s.h fun v _=>k (dputF s dst v)) (k (dputF s dst vU))=true:=hk
  rcases guardF_ok hR.env hk with⟨hw,hk⟩|⟨hw,hk⟩
  ·obtain⟨a,v,h',H',h1,h2,_,_,h5⟩:=opF_quiet hR.env hR.heap hq hk
   exact⟨0,_,_,by simp only [dstep,hw,h1],hR.put (v:=v) hdst h2 (S.j+1),rfl,rfl,h5⟩
  ·exact⟨0,_,_,by simp only [dstep,hw],hR.put (v:=vU) hdst VA.undef (S.j+1),rfl,rfl,hk⟩
 | read=>
  have hq:op.quietF:=by cases op <;> first | trivial | cases hcls
  cases hbk:blkOf op with
  | some x=>
   obtain⟨gg,n,rfl⟩:=blkOf_some hbk
   cases hlh:Nat.beq lo hi with
   | true=>
    have hk:(guardF nt ops g).run s.e (ancOf anc S.j fun a=>frc ((fx x).get s.e).c fun b=>(opF P nt (.load gg n x)).run ih s.e (with1F a b s.pend s.h) fun v _=>k (dputF s dst v)) (k (dputF s dst vU))=true:=by
     have e:doneF P nt ops anc S.j ⟨⟨dst,.load gg n x,g⟩,.read,lo,hi⟩=(match Nat.beq lo hi with
      | true=>⟨fun ih s k=>(guardF nt ops g).run s.e (ancOf anc S.j fun a=>frc ((fx x).get s.e).c fun b=>(opF P nt (.load gg n x)).run ih s.e (with1F a b s.pend s.h) fun v _=>k (dputF s dst v)) (k (dputF s dst vU))⟩
      | false=>⟨fun ih s k=>(guardF nt ops g).run s.e (ancOf anc S.j fun a=>frc ((fx x).get s.e).c fun b=>(opF P nt (.load gg n x)).run ih s.e (with1F a b s.pend s.h) fun v _=>
        k ⟨(fs dst).put v s.e,s.h,s.Hs,s.nid,s.pend,s.mats,⟨s.e,⟨⟨dst,.load gg n x,g⟩,.read,lo,hi⟩,a,v⟩::s.looks,s.c⟩) (k (dputF s dst vU))⟩):=rfl
     rw [e,hlh] at hk
     exact hk
    rcases guardF_ok hR.env hk with⟨hw,hk⟩|⟨hw,hk⟩
    ·obtain⟨a,ha,hk⟩:=anc_t hk
     rw [frc_eq] at hk
     obtain⟨H1,w1,w2⟩:=with1S_get (a:=a) (b:=((fx x).get s.e).c) S.pend S.H S.H rfl
     obtain⟨a',v,h1,h2,h5⟩:=load_at hR.env (with1F_ok (a:=a) hR.pend hR.heap) w2 hk
     exact⟨0,_,_,by simp only [dstep,hw,ha,w1,h1,hlh],hR.put (v:=v) hdst h2 (S.j+1),rfl,rfl,h5⟩
    ·exact⟨0,_,_,by simp only [dstep,hw],hR.put (v:=vU) hdst VA.undef (S.j+1),rfl,rfl,hk⟩
   | false=>
    have hk:(guardF nt ops g).run s.e (ancOf anc S.j fun a=>frc ((fx x).get s.e).c fun b=>(opF P nt (.load gg n x)).run ih s.e (with1F a b s.pend s.h) fun v _=>
        k ⟨(fs dst).put v s.e,s.h,s.Hs,s.nid,s.pend,s.mats,⟨s.e,⟨⟨dst,.load gg n x,g⟩,.read,lo,hi⟩,a,v⟩::s.looks,s.c⟩) (k (dputF s dst vU))=true:=by
     have e:doneF P nt ops anc S.j ⟨⟨dst,.load gg n x,g⟩,.read,lo,hi⟩=(match Nat.beq lo hi with
      | true=>⟨fun ih s k=>(guardF nt ops g).run s.e (ancOf anc S.j fun a=>frc ((fx x).get s.e).c fun b=>(opF P nt (.load gg n x)).run ih s.e (with1F a b s.pend s.h) fun v _=>k (dputF s dst v)) (k (dputF s dst vU))⟩
      | false=>⟨fun ih s k=>(guardF nt ops g).run s.e (ancOf anc S.j fun a=>frc ((fx x).get s.e).c fun b=>(opF P nt (.load gg n x)).run ih s.e (with1F a b s.pend s.h) fun v _=>
        k ⟨(fs dst).put v s.e,s.h,s.Hs,s.nid,s.pend,s.mats,⟨s.e,⟨⟨dst,.load gg n x,g⟩,.read,lo,hi⟩,a,v⟩::s.looks,s.c⟩) (k (dputF s dst vU))⟩):=rfl
     rw [e,hlh] at hk
     exact hk
    rcases guardF_ok hR.env hk with⟨hw,hk⟩|⟨hw,hk⟩
    ·obtain⟨a,ha,hk⟩:=anc_t hk
     rw [frc_eq] at hk
     obtain⟨H1,w1,w2⟩:=with1S_get (a:=a) (b:=((fx x).get s.e).c) S.pend S.H S.H rfl
     obtain⟨a',v,h1,h2,h5⟩:=load_at hR.env (with1F_ok (a:=a) hR.pend hR.heap) w2 hk
     refine⟨0,{ S with e:=putO S.e dst a',j:=Nat.succ S.j,looks:=⟨S.e,.load gg n x,a,lo,hi,a'⟩::S.looks },⟨(fs dst).put v s.e,s.h,s.Hs,s.nid,s.pend,s.mats,⟨s.e,⟨⟨dst,.load gg n x,g⟩,.read,lo,hi⟩,a,v⟩::s.looks,s.c⟩,by simp only [dstep,hw,ha,w1,h1,hlh],
      ⟨fs_ok hR.env hdst h2,hR.heap,hR.fr,hR.Hs,hR.c,hR.nid,hR.pend,hR.mats,.cons ⟨hR.env,rfl,hq,rfl,rfl,rfl,h2,fun g n y hy=>by cases hy;exact(load_ptr hk).1⟩ hR.looks⟩,rfl,rfl,h5⟩
    ·exact⟨0,_,_,by simp only [dstep,hw],hR.put (v:=vU) hdst VA.undef (S.j+1),rfl,rfl,hk⟩
  | none=>
   cases hlh:Nat.beq lo hi with
   | true=>
    have hk:(guardF nt ops g).run s.e (ancOf anc S.j fun a=>(opF P nt op).run ih s.e (withF a s.pend s.h) fun v _=>k (dputF s dst v)) (k (dputF s dst vU))=true:=by
     have e0:doneF P nt ops anc S.j ⟨⟨dst,op,g⟩,.read,lo,hi⟩=doneR P nt ops anc S.j dst op g lo hi:=rfl
     have e:doneF P nt ops anc S.j ⟨⟨dst,op,g⟩,.read,lo,hi⟩=(match Nat.beq lo hi with
      | true=>⟨fun ih s k=>(guardF nt ops g).run s.e (ancOf anc S.j fun a=>(opF P nt op).run ih s.e (withF a s.pend s.h) fun v _=>k (dputF s dst v)) (k (dputF s dst vU))⟩
      | false=>⟨fun ih s k=>(guardF nt ops g).run s.e (ancOf anc S.j fun a=>(opF P nt op).run ih s.e (withF a s.pend s.h) fun v _=>
        k ⟨(fs dst).put v s.e,s.h,s.Hs,s.nid,s.pend,s.mats,⟨s.e,⟨⟨dst,op,g⟩,.read,lo,hi⟩,a,v⟩::s.looks,s.c⟩) (k (dputF s dst vU))⟩):=by
      rw [e0];unfold doneR;rw [hbk];rfl
     rw [e,hlh] at hk
     exact hk
    rcases guardF_ok hR.env hk with⟨hw,hk⟩|⟨hw,hk⟩
    ·obtain⟨a,ha,hk⟩:=anc_t hk
     obtain⟨H1,w1,w2,_⟩:=withF_ok (a:=a) hR.pend hR.heap
     obtain⟨a',v,h',H',h1,h2,_,_,h5⟩:=opF_quiet hR.env w2 hq hk
     exact⟨0,_,_,by simp only [dstep,hw,ha,w1,h1,hlh],hR.put (v:=v) hdst h2 (S.j+1),rfl,rfl,h5⟩
    ·exact⟨0,_,_,by simp only [dstep,hw],hR.put (v:=vU) hdst VA.undef (S.j+1),rfl,rfl,hk⟩
   | false=>
    have hk:(guardF nt ops g).run s.e (ancOf anc S.j fun a=>(opF P nt op).run ih s.e (withF a s.pend s.h) fun v _=>
        k ⟨(fs dst).put v s.e,s.h,s.Hs,s.nid,s.pend,s.mats,⟨s.e,⟨⟨dst,op,g⟩,.read,lo,hi⟩,a,v⟩::s.looks,s.c⟩) (k (dputF s dst vU))=true:=by
     have e0:doneF P nt ops anc S.j ⟨⟨dst,op,g⟩,.read,lo,hi⟩=doneR P nt ops anc S.j dst op g lo hi:=rfl
     have e:doneF P nt ops anc S.j ⟨⟨dst,op,g⟩,.read,lo,hi⟩=(match Nat.beq lo hi with
      | true=>⟨fun ih s k=>(guardF nt ops g).run s.e (ancOf anc S.j fun a=>(opF P nt op).run ih s.e (withF a s.pend s.h) fun v _=>k (dputF s dst v)) (k (dputF s dst vU))⟩
      | false=>⟨fun ih s k=>(guardF nt ops g).run s.e (ancOf anc S.j fun a=>(opF P nt op).run ih s.e (withF a s.pend s.h) fun v _=>
        k ⟨(fs dst).put v s.e,s.h,s.Hs,s.nid,s.pend,s.mats,⟨s.e,⟨⟨dst,op,g⟩,.read,lo,hi⟩,a,v⟩::s.looks,s.c⟩) (k (dputF s dst vU))⟩):=by
      rw [e0];unfold doneR;rw [hbk];rfl
     rw [e,hlh] at hk
     exact hk
    rcases guardF_ok hR.env hk with⟨hw,hk⟩|⟨hw,hk⟩
    ·obtain⟨a,ha,hk⟩:=anc_t hk
     obtain⟨H1,w1,w2,_⟩:=withF_ok (a:=a) hR.pend hR.heap
     obtain⟨a',v,h',H',h1,h2,_,_,h5⟩:=opF_quiet hR.env w2 hq hk
     refine⟨0,{ S with e:=putO S.e dst a',j:=Nat.succ S.j,looks:=⟨S.e,op,a,lo,hi,a'⟩::S.looks },⟨(fs dst).put v s.e,s.h,s.Hs,s.nid,s.pend,s.mats,⟨s.e,⟨⟨dst,op,g⟩,.read,lo,hi⟩,a,v⟩::s.looks,s.c⟩,by simp only [dstep,hw,ha,w1,h1,hlh],
      ⟨fs_ok hR.env hdst h2,hR.heap,hR.fr,hR.Hs,hR.c,hR.nid,hR.pend,hR.mats,.cons ⟨hR.env,rfl,hq,rfl,rfl,rfl,h2,fun g n y hy=>by have hy:op=.load g n y:=hy;rw [hy] at hbk;cases hbk⟩ hR.looks⟩,rfl,rfl,h5⟩
    ·exact⟨0,_,_,by simp only [dstep,hw],hR.put (v:=vU) hdst VA.undef (S.j+1),rfl,rfl,hk⟩
 | chain=>
  have hk:(guardF nt ops g).run s.e
   (ancOf anc S.j fun a=>settleF a (Nat.succ s.c) s.pend s.mats s.h fun pend mats h=>(opF P nt op).run ih s.e h fun v h=>k ⟨(fs dst).put v s.e,h,h::s.Hs,s.nid,pend,mats,s.looks,Nat.succ s.c⟩)
   (k ⟨(fs dst).put vU s.e,s.h,s.h::s.Hs,s.nid,s.pend,s.mats,s.looks,Nat.succ s.c⟩)=true:=hk
  rcases guardF_ok hR.env hk with⟨hw,hk⟩|⟨hw,hk⟩
  ·obtain⟨a,ha,hk⟩:=anc_t hk
   obtain⟨T,r1,t1,h1,k1,k2,k3,k4,k5,k6⟩:=settleF_go hR.pend (r:=[]) (r':=[]) .nil hR.mats hR.heap hk
   have hset:settle a (llen S.Hs) S.pend S.mats S.H=some T:=by rw [settle_def,llen_eq,hR.c];exact k1
   obtain⟨m,a',v,h',H',p1,p2,p3,p4,p5⟩:=opF_ok (ds:=S.ds) hC hR.env k4 k6
   refine⟨m,{ S with e:=putO S.e dst a',H:=H',Hs:=H'::S.Hs,j:=Nat.succ S.j,pend:=T.1,mats:=T.2.1 },⟨(fs dst).put v s.e,h',h'::s.Hs,s.nid,r1,t1,s.looks,Nat.succ s.c⟩,?_,
    ⟨fs_ok hR.env hdst p2,p3,p4.trans (k5.trans hR.fr),.cons p3 hR.Hs,by show (H'::S.Hs).length=_;rw [List.length_cons,hR.c],hR.nid,k2,k3,hR.looks⟩,rfl,rfl,p5⟩
   simp only [dstep,hw,ha,hset,p1]
  ·refine⟨0,{ S with e:=putO S.e dst .undef,Hs:=S.H::S.Hs,j:=Nat.succ S.j },⟨(fs dst).put vU s.e,s.h,s.h::s.Hs,s.nid,s.pend,s.mats,s.looks,Nat.succ s.c⟩,by simp only [dstep,hw],
    ⟨fs_ok hR.env hdst VA.undef,hR.heap,hR.fr,.cons hR.heap hR.Hs,by show (S.H::S.Hs).length=_;rw [List.length_cons,hR.c],hR.nid,hR.pend,hR.mats,hR.looks⟩,rfl,rfl,hk⟩
 | dalloc=>exact alloc .dalloc (.inl rfl) hk
 | dmap=>exact alloc .dmap (.inr rfl) hk
 | dins=>
  cases op with
  | ins lit kk m q v=>
   have e:doneF P nt ops anc S.j ⟨⟨dst,.ins lit kk m q v,g⟩,.dins,lo,hi⟩=(match fxOk nt m && fxOk nt q && fxOk nt v with
    | true=>⟨fun ih s k=>(guardF nt ops g).run s.e
     (ancOf anc S.j fun a=>iff3 (Nat.beq ((fx m).get s.e).t 7) (onSome (av ((fx q).get s.e)) fun kv=>onSome (av ((fx v).get s.e)) fun vv=>insF kk kv vv ((fx m).get s.e).a S.j a s.pend fun pend=>k ⟨(fs dst).put vU s.e,s.h,s.Hs,s.nid,pend,s.mats,s.looks,s.c⟩) false)
     (k (dputF s dst vU))⟩
    | false=>⟨fun _ _ _=>false⟩):=rfl
   rw [e] at hk
   cases hx:fxOk nt m && fxOk nt q && fxOk nt v with
   | false=>rw [hx] at hk;cases hk
   | true=>
    rw [hx] at hk
    obtain⟨hx,hx3⟩:=(Bool.and_eq_true _ _).mp hx
    obtain⟨hx1,hx2⟩:=(Bool.and_eq_true _ _).mp hx
    have hk:(guardF nt ops g).run s.e
     (ancOf anc S.j fun a=>iff3 (Nat.beq ((fx m).get s.e).t 7) (onSome (av ((fx q).get s.e)) fun kv=>onSome (av ((fx v).get s.e)) fun vv=>insF kk kv vv ((fx m).get s.e).a S.j a s.pend fun pend=>k ⟨(fs dst).put vU s.e,s.h,s.Hs,s.nid,pend,s.mats,s.looks,s.c⟩) false)
     (k (dputF s dst vU))=true:=hk
    rcases guardF_ok hR.env hk with⟨hw,hk⟩|⟨hw,hk⟩
    ·obtain⟨a,ha,hk⟩:=anc_t hk
     obtain⟨am,ham,hvm⟩:=fx_ok hR.env hx1
     obtain⟨aq,haq,hvq⟩:=fx_ok hR.env hx2
     obtain⟨ax,hax,hvx⟩:=fx_ok hR.env hx3
     obtain⟨hb,hk⟩:=iff3_f hk
     obtain⟨rfl,_⟩:=hvm.is7 (beq_t hb)
     obtain⟨kv,h1,hk⟩:=onSome_t hk
     obtain⟨vv,h2,hk⟩:=onSome_t hk
     have h1:=av_ok hvq h1
     have h2:=av_ok hvx h2
     subst h1 h2
     obtain⟨r1,T,k1,k2,k3⟩:=insF_go hR.pend (r:=[]) (r':=[]) .nil hk
     have hins:insPend kk aq ax ((fx m).get s.e).a S.j a S.pend=some (true,T):=by rw [insPend_def];exact k1
     refine⟨0,{ S with e:=putO S.e dst .undef,j:=Nat.succ S.j,pend:=T },⟨(fs dst).put vU s.e,s.h,s.Hs,s.nid,r1,s.mats,s.looks,s.c⟩,?_,
      ⟨fs_ok hR.env hdst VA.undef,hR.heap,hR.fr,hR.Hs,hR.c,hR.nid,k2,hR.mats,hR.looks⟩,rfl,rfl,k3⟩
     simp only [dstep,hw,ha,ham,haq,hax,hins]
    ·exact⟨0,_,_,by simp only [dstep,hw],hR.put (v:=vU) hdst VA.undef (S.j+1),rfl,rfl,hk⟩
  | _=>cases hk
theorem lfold_dstep_le {n m:Nat} (h:n≤m) {l:List DOp} {s c:DS} (hc:lfold (dstep P (ev P K n) rd ops anc) l s=some c):lfold (dstep P (ev P K m) rd ops anc) l s=some c:=
 lfold_le (fun _ _ _ hf=>dstep_le (ev_le P K h) hf) _ _ _ hc
theorem dopsF_ok (hC:CallR P K ih):∀ {l:List DOp} {fr:Fri} {s:FD} {S:DS} {k:FD->Bool},(∀ d∈l,d.cls=clsOf d.o.op∧∀ t,d.o.dst=some t->t < nt)->DRF nt fr s S->(dopsF P nt ops anc l S.j).run ih s k=true ->
  ∃ m S' s',lfold (dstep P (ev P K m) rd ops anc) l S=some S'∧DRF nt fr s' S'∧S'.ds=S.ds∧k s'=true:=by
 intro l
 induction l with
 | nil=>intro fr s S k _ hR hk;exact⟨0,S,s,rfl,hR,rfl,hk⟩
 | cons d l ihl=>
  intro fr s S k hl hR hk
  have hk:((doneF P nt ops anc S.j d).run ih s fun s=>(dopsF P nt ops anc l (Nat.succ S.j)).run ih s k)=true:=hk
  obtain⟨hd1,hd2⟩:=hl d (List.mem_cons_self ..)
  obtain⟨m1,S1,s1,k1,k2,k3,k4,k5⟩:=doneF_ok (rd:=rd) hC hd1 hd2 hR hk
  have k5:(dopsF P nt ops anc l (S.j+1)).run ih s1 k=true:=k5
  rw [<- k3] at k5
  obtain⟨m2,S2,s2,p1,p2,p3,p4⟩:=ihl (fun d hd=>hl d (List.mem_cons_of_mem _ hd)) k2 k5
  refine⟨max m1 m2,S2,s2,?_,p2,p3.trans k4,p4⟩
  rw [lfold_cons]
  exact⟨_,dstep_le (ev_le P K (Nat.le_max_left ..)) k1,lfold_dstep_le (Nat.le_max_right ..) p1⟩
def StOk (P:Program) (HS:List Heap) (Pend:List Pend) (Mats:List (Ev.Pend × Nat)) (L:Look) (k:Nat):Prop:=
 ∃ H H1 H2 v w,HS[k]?=some H∧withMats L.anc k Mats H=some H1∧withAnc L.anc Pend H1=some H2∧aval P H2 (opv L.e) L.op=some (v,w)∧sameV v L.v=true
theorem looksOk_of {HS:List Heap} {Pend:List Pend} {Mats:List (Ev.Pend × Nat)} {L:Look} (h:∀ k,L.lo≤k->k≤L.lo+(L.hi - L.lo)->StOk P HS Pend Mats L k):looksOk P HS Pend Mats L=true:=by
 have go:∀ (n i:Nat),(∀ k,i≤k->k < i+n->StOk P HS Pend Mats L k)->nfold (fun k (u:Unit)=>match lget HS k with
  | some H=>match withMats L.anc k Mats H with
   | some H=>match withAnc L.anc Pend H with
    | some H=>match aval P H (opv L.e) L.op with
     | some (v,_)=>match sameV v L.v with | true=>some u | false=>none
     | none=>none
    | none=>none
   | none=>none
  | none=>none) n i ()=some ():=by
  intro n
  induction n with
  | zero=>intro i _;rfl
  | succ n ihn=>
   intro i hi
   obtain⟨H,H1,H2,v,w,h1,h2,h3,h4,h5⟩:=hi i (by omega) (by omega)
   rw [nfold_succ]
   refine⟨(),?_,ihn (i+1) (fun k h1 h2=>hi k (by omega) (by omega))⟩
   simp only [lget_eq,h1,h2,h3,h4,h5]
 unfold looksOk
 have:=go (Nat.succ (Nat.sub L.hi L.lo)) L.lo (fun k h1 h2=>h k h1 (by have h2:k < L.lo+(L.hi - L.lo+1):=h2;omega))
 exact congrArg (fun z=>match z with | some _=>true | none=>false) this
theorem stages_all {Hs:List FH} {F:Nat->FH->FH} {l:FL}:∀ (n i:Nat),(Nat.rec (motive:=fun _=>Nat->Bool) (fun _=>true) (fun _ ih k=>onSome (lget Hs k) fun h=>
  (opF P nt l.d.o.op).run noCall l.e (F k h) fun v _=>iff3 (sameF v l.v) (ih (Nat.succ k)) false) n i:Bool)=true ->
  (∀ (k:Nat) (h:FH) (kk:V->FH->Bool),Hs[k]?=some h->(opF P nt l.d.o.op).run noCall l.e (F k h) kk=true->∃ v h',kk v h'=true) ->
  ∀ k,i≤k->k < i+n->∃ h r,Hs[k]?=some h∧(opF P nt l.d.o.op).run noCall l.e (F k h) (fun v _=>iff3 (sameF v l.v) r false)=true:=by
 intro n
 induction n with
 | zero=>intro i _ _ k h1 h2;omega
 | succ n ihn=>
  intro i hk hF k h1 h2
  obtain⟨h,h3,hk⟩:=onSome_t hk
  rw [lget_eq] at h3
  by_cases hik:i=k
  ·subst hik
   exact⟨h,_,h3,hk⟩
  ·obtain⟨v,h',h4⟩:=hF i h _ h3 hk
   obtain⟨_,h5⟩:=iff3_f h4
   exact ihn (i+1) h5 hF k (by omega) (by omega)
section
variable {Hs:List FH} {HS:List Heap} (hHs:L2 FHr Hs HS) {pend:List FP} {Pend:List Pend} (hp:L2 PR pend Pend) {mats:List (FP × Nat)} {Mats:List (Ev.Pend × Nat)} (hm:L2 MR2 mats Mats)
include hHs hp hm
theorem lookF_ok {l:FL} {L:Look} (hl:LR nt l L) (hk:lookF P nt Hs pend mats l=true):looksOk P HS Pend Mats L=true:=by
 refine looksOk_of fun k k1 k2=>?_
 rw [<- hl.lo] at k1 k2
 rw [<- hl.hi] at k2
 have hcov:k < l.d.lo+Nat.succ (Nat.sub l.d.hi l.d.lo):=by show k < l.d.lo+(l.d.hi - l.d.lo+1);omega
 cases hbk:blkOf l.d.o.op with
 | none=>
  have hk:(match blkOf l.d.o.op with
   | none=>Nat.rec (motive:=fun _=>Nat->Bool) (fun _=>true) (fun _ ih k=>onSome (lget Hs k) fun h=>
    (opF P nt l.d.o.op).run noCall l.e (withF l.anc pend (withMF l.anc k mats h)) fun v _=>iff3 (sameF v l.v) (ih (Nat.succ k)) false) (Nat.succ (Nat.sub l.d.hi l.d.lo)) l.d.lo
   | some x=>frc ((fx x).get l.e).c fun b=>
    (Nat.rec (motive:=fun _=>Nat->Bool) (fun _=>true) (fun _ ih k=>onSome (lget Hs k) fun h=>
     (opF P nt l.d.o.op).run noCall l.e (with1F l.anc b pend (withM1F l.anc b k mats h)) fun v _=>iff3 (sameF v l.v) (ih (Nat.succ k)) false) (Nat.succ (Nat.sub l.d.hi l.d.lo)) l.d.lo))=true:=hk
  rw [hbk] at hk
  have run:∀ (k:Nat) (h:FH) (kk:V->FH->Bool),Hs[k]?=some h->(opF P nt l.d.o.op).run noCall l.e (withF l.anc pend (withMF l.anc k mats h)) kk=true ->
    ∃ H H1 H2 a v h' H',HS[k]?=some H∧withMats l.anc k Mats H=some H1∧withAnc l.anc Pend H1=some H2∧aval P H2 (opv L.e) l.d.o.op=some (a,H')∧VA v a∧kk v h'=true:=by
   intro k h kk h1 hk
   obtain⟨H,h2,hH⟩:=hHs.get h1
   obtain⟨H1,h3,hH1⟩:=withMF_ok (a:=l.anc) (k:=k) hm hH
   obtain⟨H2,h4,hH2,_⟩:=withF_ok (a:=l.anc) hp hH1
   obtain⟨a,v,h',H',h5,h6,_,_,h7⟩:=opF_quiet hl.env hH2 hl.quiet hk
   exact⟨H,H1,H2,a,v,h',H',h2,h3,h4,h5,h6,h7⟩
  obtain⟨h,r,h1,h2⟩:=stages_all (F:=fun k h=>withF l.anc pend (withMF l.anc k mats h)) _ _ hk (fun k h kk h1 hk=>by
   obtain⟨_,_,_,_,v,h',_,_,_,_,_,_,h7⟩:=run k h kk h1 hk;exact⟨v,h',h7⟩) k k1 hcov
  obtain⟨H,H1,H2,a,v,h',H',e1,e2,e3,e4,e5,e6⟩:=run k h _ h1 h2
  obtain⟨e7,_⟩:=iff3_f e6
  exact⟨H,H1,H2,a,H',e1,by rw [<- hl.anc];exact e2,by rw [<- hl.anc];exact e3,by rw [<- hl.op];exact e4,sameF_ok e5 hl.v e7⟩
 | some x=>
  have hk:(match blkOf l.d.o.op with
   | none=>Nat.rec (motive:=fun _=>Nat->Bool) (fun _=>true) (fun _ ih k=>onSome (lget Hs k) fun h=>
    (opF P nt l.d.o.op).run noCall l.e (withF l.anc pend (withMF l.anc k mats h)) fun v _=>iff3 (sameF v l.v) (ih (Nat.succ k)) false) (Nat.succ (Nat.sub l.d.hi l.d.lo)) l.d.lo
   | some x=>frc ((fx x).get l.e).c fun b=>
    (Nat.rec (motive:=fun _=>Nat->Bool) (fun _=>true) (fun _ ih k=>onSome (lget Hs k) fun h=>
     (opF P nt l.d.o.op).run noCall l.e (with1F l.anc b pend (withM1F l.anc b k mats h)) fun v _=>iff3 (sameF v l.v) (ih (Nat.succ k)) false) (Nat.succ (Nat.sub l.d.hi l.d.lo)) l.d.lo))=true:=hk
  rw [hbk] at hk
  simp only at hk
  rw [frc_eq] at hk
  obtain⟨g,n,hop⟩:=blkOf_some hbk
  have run:∀ (k:Nat) (h:FH) (kk:V->FH->Bool),Hs[k]?=some h->(opF P nt l.d.o.op).run noCall l.e (with1F l.anc ((fx x).get l.e).c pend (withM1F l.anc ((fx x).get l.e).c k mats h)) kk=true ->
    ∃ H H1 H2 a v h' H',HS[k]?=some H∧withMats l.anc k Mats H=some H1∧withAnc l.anc Pend H1=some H2∧aval P H2 (opv L.e) l.d.o.op=some (a,H')∧VA v a∧kk v h'=true:=by
   intro k h kk h1 hk
   obtain⟨H,h2,hH⟩:=hHs.get h1
   obtain⟨H1,w1,w2⟩:=withM1S_get (a:=l.anc) (b:=((fx x).get l.e).c) (k:=k) Mats H H rfl
   obtain⟨H3,w3,w4⟩:=with1S_get (a:=l.anc) (b:=((fx x).get l.e).c) Pend H1 _ w2
   rw [hop] at hk
   obtain⟨a,v,e1,e2,e3⟩:=load_at hl.env (with1F_ok hp (withM1F_ok hm hH)) w4 hk
   exact⟨H,H1,H3,a,v,_,H3,h2,w1,w3,by rw [hop];exact e1,e2,e3⟩
  obtain⟨h,r,h1,h2⟩:=stages_all (F:=fun k h=>with1F l.anc ((fx x).get l.e).c pend (withM1F l.anc ((fx x).get l.e).c k mats h)) _ _ hk (fun k h kk h1 hk=>by
   obtain⟨_,_,_,_,v,h',_,_,_,_,_,_,h7⟩:=run k h kk h1 hk;exact⟨v,h',h7⟩) k k1 hcov
  obtain⟨H,H1,H2,a,v,h',H',e1,e2,e3,e4,e5,e6⟩:=run k h _ h1 h2
  obtain⟨e7,_⟩:=iff3_f e6
  exact⟨H,H1,H2,a,H',e1,by rw [<- hl.anc];exact e2,by rw [<- hl.anc];exact e3,by rw [<- hl.op];exact e4,sameF_ok e5 hl.v e7⟩
noncomputable def rdS (H:Heap) (g:Bool) (n:Nat) (p:Pl):Option AV:=match H.read p n with
 | some l=>(match g with | true=>some (.agg l) | false=>(match l with | [v]=>some v | _=>none))
 | none=>none
omit hHs hp hm in
theorem load_rd {ρ:Operand->Option AV} {x:Operand} {p:Pl} {g:Bool} {n:Nat} {H:Heap} (hx:ρ x=some (.ptr (some p))):aval P H ρ (.load g n x)=match rdS H g n p with | some v=>some (v,H) | none=>none:=by
 simp only [aval,hx,rdS]
 cases H.read p n with
 | none=>rfl
 | some l=>
  cases g with
  | true=>rfl
  | false=>
   match l with
   | []=>rfl
   | [_]=>rfl
   | _::_::_=>rfl
omit hHs hp hm in
theorem rdS_congr {H H':Heap} {g:Bool} {n:Nat} {p:Pl} (h:H.get p.b=H'.get p.b):rdS H g n p=rdS H' g n p:=by
 unfold rdS Heap.read
 rw [h]
noncomputable def gN (g:Bool):Nat:=Bool.rec (motive:=fun _=>Nat) 0 1 g
def DnOk (HS:List Heap) (pend:List FP) (mats:List (FP × Nat)) (d:Dn):Prop:=
 ∃ g n w,d.c=n * 2+gN g∧noIdF d.b pend=true∧noIdM d.b mats=true∧VA d.v w∧∀ k,d.lo≤k->k≤d.en->∃ H,HS[k]?=some H∧rdS H g n ⟨d.b,d.r,d.o⟩=some w
omit hHs hp hm in
theorem ldOf_some {op:AOp} {p:Nat × Operand} (h:ldOf op=some p):∃ g n,op=.load g n p.2∧p.1=n * 2+gN g:=by
 cases op <;> first | (cases h;exact⟨_,_,rfl,rfl⟩) | cases h
omit hHs hp hm in
theorem covD_ok {c b r o lo en:Nat} {v:V}:∀ {done:List Dn},covD c b r o lo en v done=true->∃ d∈done,d.b=b∧d.o=o∧d.r=r∧d.c=c∧d.lo≤lo∧en≤d.en∧sameF d.v v=true:=by
 intro done
 induction done with
 | nil=>intro h;cases h
 | cons d done ih=>
  intro h
  have h:iff3 (andB (Nat.beq d.b b) (andB (Nat.beq d.o o) (andB (Nat.beq d.r r) (andB (Nat.beq d.c c) (andB (Nat.ble d.lo lo) (Nat.ble en d.en)))))) (sameF d.v v) (covD c b r o lo en v done)=true:=h
  rcases iff3_c h with⟨h1,h⟩|⟨_,h⟩
  ·obtain⟨h1,h2⟩:=andB_t h1
   obtain⟨h2,h3⟩:=andB_t h2
   obtain⟨h3,h4⟩:=andB_t h3
   obtain⟨h4,h5⟩:=andB_t h4
   obtain⟨h5,h6⟩:=andB_t h5
   exact⟨d,List.mem_cons_self ..,beq_t h1,beq_t h2,beq_t h3,beq_t h4,ble_true.1 h5,ble_true.1 h6,h⟩
  ·obtain⟨d',hd,h⟩:=ih h
   exact⟨d',List.mem_cons_of_mem _ hd,h⟩
omit hHs in
theorem plain_get {a b k:Nat} (n1:noIdF b pend=true) (n2:noIdM b mats=true) (H:Heap):∃ H1 H2,withMats a k Mats H=some H1∧withAnc a Pend H1=some H2∧H2.get b=H.get b:=by
 obtain⟨H1,w1,w2⟩:=withM1S_get (a:=a) (b:=b) (k:=k) Mats H H rfl
 obtain⟨H3,w3,w4⟩:=with1S_get (a:=a) (b:=b) Pend H1 _ w2
 rw [noIdF_ok hp n1,noIdM_ok hm n2] at w4
 exact⟨H1,H3,w1,w3,w4⟩
theorem looksF_ok:∀ {l:List FL} {L:List Look},L2 (LR nt) l L->∀ {done:List Dn},(∀ d∈done,DnOk HS pend mats d)->looksF P nt Hs pend mats l done=true->lall (looksOk P HS Pend Mats) L=true:=by
 intro l L hl
 induction hl with
 | nil=>intro done _ _;rfl
 | @cons l L ls Ls hl _ ih=>
  intro done hdone hk
  have hk:(match ldOf l.d.o.op with
   | none=>iff3 (lookF P nt Hs pend mats l) (looksF P nt Hs pend mats ls done) false
   | some p=>looks1 P nt Hs pend mats l (looksF P nt Hs pend mats ls) done p.1 (Nat.add l.d.lo (Nat.sub l.d.hi l.d.lo)) ((fx p.2).get l.e))=true:=hk
  have slow:iff3 (lookF P nt Hs pend mats l) (looksF P nt Hs pend mats ls done) false=true->lall (looksOk P HS Pend Mats) (L::Ls)=true:=by
   intro hk
   obtain⟨h1,h2⟩:=iff3_f hk
   exact(lall_cons _ _ _).2 ⟨lookF_ok hHs hp hm hl h1,ih hdone h2⟩
  cases hld:ldOf l.d.o.op with
  | none=>rw [hld] at hk;exact slow hk
  | some p=>
   rw [hld] at hk
   obtain⟨g,n,hop,hc⟩:=ldOf_some hld
   have hk:(frc ((fx p.2).get l.e).c fun b=>iff3 (andB (Nat.beq ((fx p.2).get l.e).t 4) (andB (noIdF b pend) (noIdM b mats)))
    (iff3 (covD p.1 b ((fx p.2).get l.e).b ((fx p.2).get l.e).a l.d.lo (Nat.add l.d.lo (Nat.sub l.d.hi l.d.lo)) l.v done) (looksF P nt Hs pend mats ls done)
     (iff3 (lookP P nt Hs l) (looksF P nt Hs pend mats ls (⟨p.1,b,((fx p.2).get l.e).b,((fx p.2).get l.e).a,l.d.lo,Nat.add l.d.lo (Nat.sub l.d.hi l.d.lo),l.v⟩::done)) false))
    (iff3 (lookF P nt Hs pend mats l) (looksF P nt Hs pend mats ls done) false))=true:=hk
   rw [frc_eq] at hk
   rcases iff3_c hk with⟨hn,hk⟩|⟨_,hk⟩
   ·obtain⟨ht,hn⟩:=andB_t hn
    have ht:=beq_t ht
    obtain⟨n1,n2⟩:=andB_t hn
    -- the place
    have hx:=hl.ptr g n p.2 hop
    obtain⟨ax,hax,hvx⟩:=fx_ok hl.env hx
    obtain⟨rfl,hlt⟩:=hvx.is4 ht
    -- from what is found at each stage
    have at_st:(∀ k,l.d.lo≤k->k≤l.d.lo+(l.d.hi - l.d.lo)->∃ H v,HS[k]?=some H∧rdS H g n ⟨((fx p.2).get l.e).c,((fx p.2).get l.e).b,((fx p.2).get l.e).a⟩=some v∧sameV v L.v=true)->looksOk P HS Pend Mats L=true:=by
     intro h
     refine looksOk_of fun k k1 k2=>?_
     rw [<- hl.lo] at k1 k2
     rw [<- hl.hi] at k2
     obtain⟨H,v,h1,h2,h3⟩:=h k k1 k2
     obtain⟨H1,H2,w1,w2,w3⟩:=plain_get hp hm (a:=L.anc) (k:=k) n1 n2 H
     refine⟨H,H1,H2,v,H2,h1,w1,w2,?_,h3⟩
     rw [<- hl.op,hop,load_rd hax,rdS_congr w3,h2]
    rcases iff3_c hk with⟨hcov,hk⟩|⟨_,hk⟩
    ·refine(lall_cons _ _ _).2 ⟨?_,ih hdone hk⟩
     obtain⟨d,hd,e1,e2,e3,e4,e5,e6,e7⟩:=covD_ok hcov
     obtain⟨g',n',w,f1,f2,f3,f4,f5⟩:=hdone d hd
     have hgn:g'=g∧n'=n:=by
      rw [e4,hc] at f1
      cases g <;> cases g' <;> simp only [gN] at f1 <;> first | (exact⟨rfl,by omega⟩) | (exfalso;omega)
     obtain⟨rfl,rfl⟩:=hgn
     refine at_st fun k k1 k2=>?_
     have e6:l.d.lo+(l.d.hi - l.d.lo)≤d.en:=e6
     obtain⟨H,h1,h2⟩:=f5 k (by omega) (by omega)
     rw [e1,e2,e3] at h2
     exact⟨H,w,h1,h2,sameF_ok f4 hl.v e7⟩
    ·obtain⟨h1,hk⟩:=iff3_f hk
     -- each stage was looked at
     have run:∀ (k:Nat) (h:FH) (kk:V->FH->Bool),Hs[k]?=some h->(opF P nt l.d.o.op).run noCall l.e h kk=true ->
       ∃ H v a,HS[k]?=some H∧rdS H g n ⟨((fx p.2).get l.e).c,((fx p.2).get l.e).b,((fx p.2).get l.e).a⟩=some a∧VA v a∧kk v h=true:=by
      intro k h kk h1 hk
      obtain⟨H,h2,hH⟩:=hHs.get h1
      rw [hop] at hk
      obtain⟨a,v,e1,e2,e3⟩:=load_at hl.env hH (H1:=H) rfl hk
      rw [load_rd hax] at e1
      split at e1
      ·rename_i u hu
       cases e1
       exact⟨H,v,a,h2,hu,e2,e3⟩
      ·cases e1
     have st:∀ k,l.d.lo≤k->k≤l.d.lo+(l.d.hi - l.d.lo)->∃ H v,HS[k]?=some H∧rdS H g n ⟨((fx p.2).get l.e).c,((fx p.2).get l.e).b,((fx p.2).get l.e).a⟩=some v∧sameV v L.v=true:=by
      intro k k1 k2
      obtain⟨h,r,e1,e2⟩:=stages_all (F:=fun _ h=>h) _ _ h1 (fun k h kk h1 hk=>by
       obtain⟨_,v,_,_,_,_,h7⟩:=run k h kk h1 hk;exact⟨v,h,h7⟩) k k1 (by show k < l.d.lo+(l.d.hi - l.d.lo+1);omega)
      obtain⟨H,v,a,f1,f2,f3,f4⟩:=run k h _ e1 e2
      obtain⟨f5,_⟩:=iff3_f f4
      exact⟨H,a,f1,f2,sameF_ok f3 hl.v f5⟩
     refine(lall_cons _ _ _).2 ⟨at_st st,ih (fun d hd=>?_) hk⟩
     rcases List.mem_cons.1 hd with rfl|hd
     ·refine⟨g,n,L.v,hc,n1,n2,hl.v,fun k k1 k2=>?_⟩
      obtain⟨H,v,h1,h2,h3⟩:=st k k1 k2
      have:v=L.v:=sameV_eq h3
      rw [this] at h2
      exact⟨H,h1,h2⟩
     ·exact hdone d hd
   ·exact slow hk
end
theorem puts_ok {l:List FP} {L:List Pend} (hl:L2 PR l L):∀ {h:FH} {H:Heap},FHr h H->∃ H',lfold (fun (H:Heap) (p:Pend)=>some (H.put p.id p.o)) L H=some H' ∧
  FHr (List.rec (motive:=fun _=>FH->FH) (fun h=>h) (fun p _ ih h=>ih (hput p.id p.o h)) l h) H'∧(List.rec (motive:=fun _=>FH->FH) (fun h=>h) (fun p _ ih h=>ih (hput p.id p.o h)) l h:FH).fr=h.fr:=by
 induction hl with
 | nil=>intro h H hH;exact⟨H,rfl,hH,rfl⟩
 | @cons p q l m hp _ ih=>
  intro h H hH
  have h1:=hH.hput hp.lt (x:=q.o) hp.o
  obtain⟨H',k1,k2,k3⟩:=ih h1
  refine⟨H',?_,k2,k3⟩
  rw [lfold_cons]
  exact⟨_,by rw [<- hp.id],k1⟩
theorem drawF_ok (hC:CallR P K ih) {e:Env} {E:Tr AV} {h:FH} {H:Heap} {ds:List ADef} {k:Env->FH->Bool} (hE:EnvR nt e E) (hH:FHr h H) (hk:(drawF P nt ops).run ih e h k=true) :
  ∃ m E' H' e' h',runDraw P (ev P K m) rd nt ops E ds H=some (.mk .normal E' ds H')∧EnvR nt e' E'∧FHr h' H'∧h'.fr=h.fr∧k e' h'=true:=by
 unfold drawF at hk
 rw [dinfoF_eq] at hk
 split at hk
 ·cases hk
 ·rename_i I hI
  obtain⟨W,hW⟩:=dinfo_ok hI
  have hk:(frc h.next fun b=>iff3 (Nat.ble (Nat.add b I.nd) 262144)
   ((dopsF P nt ops I.anc I.ops 0).run ih ⟨e,⟨h.h,Nat.add b I.nd,h.fr⟩,[⟨h.h,Nat.add b I.nd,h.fr⟩],b,[],[],[],0⟩ fun s=>finF P nt s k) false)=true:=hk
  rw [frc_eq] at hk
  obtain⟨h1,hk⟩:=iff3_f hk
  have h1:h.next+I.nd≤262144:=ble_true.1 h1
  have hH1:FHr ⟨h.h,Nat.add h.next I.nd,h.fr⟩ ⟨H.t,Nat.add H.next I.nd⟩:=⟨by show Nat.add h.next I.nd=Nat.add H.next I.nd;rw [hH.next],h1,fun b hb=>by rw [hget_mk];exact hH.block b hb⟩
  have hR:DRF nt h.fr ⟨e,⟨h.h,Nat.add h.next I.nd,h.fr⟩,[⟨h.h,Nat.add h.next I.nd,h.fr⟩],h.next,[],[],[],0⟩
   ⟨E,ds,⟨H.t,Nat.add H.next I.nd⟩,[⟨H.t,Nat.add H.next I.nd⟩],0,H.next,[],[],[]⟩:=⟨hE,hH1,rfl,.cons hH1 .nil,rfl,hH.next,.nil,.nil,.nil⟩
  have hops:∀ d∈I.ops,d.cls=clsOf d.o.op∧∀ t,d.o.dst=some t->t < nt:=by
   intro d hd
   obtain⟨j,hj,rfl⟩:=List.getElem_of_mem hd
   have hjs:j < ops.size:=by rw [<- hW.len];exact hj
   obtain⟨d',h1,h2,h3,_⟩:=hW.dops j ops[j] (Array.getElem?_eq_getElem hjs)
   rw [List.getElem?_eq_getElem hj] at h1
   cases h1
   rw [h2]
   exact⟨h3,fun t ht=>cOper_dst ht⟩
  obtain⟨m,S',s',k1,k2,k3,k4⟩:=dopsF_ok (rd:=rd) hC hops hR hk
  unfold finF at k4
  obtain⟨k5,k6⟩:=iff3_f k4
  have k7:=looksF_ok k2.Hs.reverse k2.pend k2.mats k2.looks (done:=[]) (fun d hd=>by cases hd) k5
  obtain⟨H',p1,p2,p3⟩:=puts_ok k2.pend k2.heap
  refine⟨m,S'.e,H',s'.e,_,?_,k2.env,p2,p3.trans k2.fr,k6⟩
  unfold runDraw
  simp only [hI,k1,k7,p1]
  rw [k3]
end
end Go.Ev
namespace Go.Ev
variable [Sg]
def FrR (fr:Fri) (ds:List ADef) (rd:Option Nat):Prop:=ds=fr.ds.map ADef.mark∧(∀ D∈fr.ds,D < 262144)∧(match rd with | none=>fr.rd=0 | some l=>fr.rd=l+1∧l < 262144)
def KtR (x:AX) (kx:Nat->Kt) (kr k:Kt) (e:Env) (h:FH):Prop:=match x with | .normal=>k e h=true | .ret=>kr e h=true | .exit i=>kx i e h=true
def COut (P:Program) (K:Orc) (rd:Option Nat) (nt:Nat) (c:Code) (E:Tr AV) (ds:List ADef) (H:Heap) (kx:Nat->Kt) (kr k:Kt):Prop:=
 ∃ m x E' ds' H' e' h',(ev P K m).code rd nt c E ds H=some (.mk x E' ds' H')∧EnvR nt e' E'∧FHr h' H'∧FrR h'.fr ds' rd∧KtR x kx kr k e' h'
section
variable {P:Program} {K:Orc} {rd:Option Nat} {nt:Nat} {ih:CallT}
theorem code_le {n m:Nat} (h:n≤m) {c:Code} {E:Tr AV} {ds:List ADef} {H:Heap} {R:CR} (hc:(ev P K n).code rd nt c E ds H=some R):(ev P K m).code rd nt c E ds H=some R:=(ev_le P K h).code hc
theorem code_succ (n:Nat) (c:Code) (E:Tr AV) (ds:List ADef) (H:Heap):(ev P K (n+1)).code rd nt c E ds H=stepCode P (ev P K n) rd nt c E ds H:=rfl
theorem PdR_inj {n:Nat} {p:Option AX} (h:PdR n p):(n=0∧p=none)∨(n=1∧p=some .ret)∨∃ i,n=i+2∧p=some (.exit i):=by
 cases p with
 | none=>exact .inl ⟨h,rfl⟩
 | some x=>
  cases x with
  | normal=>exact h.elim
  | ret=>exact .inr (.inl ⟨h,rfl⟩)
  | exit i=>exact .inr (.inr ⟨i,h,rfl⟩)
theorem range_ok (hC:CallR P K ih) {g:Operand} {ps:Array Nat} {asg body:Code} {kx:Nat->Kt} {kr k:Kt} {e:Env} {E:Tr AV} {h:FH} {H:Heap} {ds:List ADef} (hg:fxOk nt g=true) (hE:EnvR nt e E) (hH:FHr h H) (hF:FrR h.fr ds rd)
  (hk:rangeF nt g ps.toList asg body ih kx kr e h k=true):COut P K rd nt (.rangeFunc g ps asg body) E ds H kx kr k:=by
 obtain⟨gv,hgv,hvg⟩:=fx_ok hE hg
 unfold rangeF at hk
 obtain⟨h8,hk⟩:=iff3_f hk
 obtain⟨r,xs,ys,rfl,hr,hx,hy,hl,hc1,hc2⟩:=hvg.is8 (beq_t h8)
 -- the loop's block is laid,and the function called
 have go:∀ {D:Nat} {h1:FH} {H1:Heap} {ds1:List ADef},D < 262144->FHr h1 H1->FrR h1.fr ds1 rd->rangeGo nt ps.toList asg body ih kx kr e k ((fx g).get e) D h1=true ->
   ∃ m x H' h',(match H1.new (.loop E nt ps.toList asg body .ready none D) with
    | (l,H2)=>match (ev P K m).call ((fx g).get e).a (lapp xs (.yield l::ys)) H2 with
     | some (_,H3)=>match H3.get l with
      | some (.loop _ _ _ _ _ st pend D')=>match st with
       | .busy=>none
       | _=>match pend with
        | none=>some (CR.mk .normal E ds1 (H3.del l))
        | some x=>some (CR.mk x E ds1 (H3.del l))
      | _=>none
     | none=>none)=some (.mk x E ds1 H')∧FHr h' H'∧FrR h'.fr ds1 rd∧KtR x kx kr k e h':=by
  intro D h1 H1 ds1 hD hH1 hF1 hk
  unfold rangeGo at hk
  have hk:=onOne_t hk hr
  rw [frc_eq] at hk
  obtain⟨h2,hlt,hH2,hfr2,hk⟩:=hH1.new hk (FOr.mkLoop (o:=loopFO e nt ps.toList asg body 0 0 D) (E:=E) (st:=.ready) (pend:=none) rfl rfl hE rfl rfl hD)
  have v1:VAs (cellsV r ((fx g).get e).c 0) xs:=by
   rw [<- hx];exact VAs.cells fun i a ha=>by rw [Nat.zero_add];exact hc1 i a ha
  have v2:VAs (cellsV r ((fx g).get e).b ((fx g).get e).c) ys:=by
   rw [<- hy];exact VAs.cells hc2
  have v3:VAs (lapp (cellsV r ((fx g).get e).c 0) (vGen (.yield H1.next)::cellsV r ((fx g).get e).b ((fx g).get e).c)) (lapp xs (.yield H1.next::ys)):=by
   rw [lapp_eq,lapp_eq]
   exact v1.append (.cons (VA.mkGen rfl) v2)
  obtain⟨m,a,v,h3,H3,k1,k2,k3,k4,k5⟩:=hC.call v3 hH2 hk
  unfold rangeEnd at k5
  obtain⟨q,k5⟩:=iff3_f k5
  obtain⟨q1,q2⟩:=andB_t q
  obtain⟨E',st,pend,w1,w2,w3,w4,_⟩:=(k3.block _ hlt).loop (beq_t q1)
  have hst:st≠.busy:=by
   rintro rfl
   have:(hget H1.next h3).lp.st=1:=w3
   rcases iff3_c q2 with⟨_,hq⟩|⟨hq,_⟩
   ·cases hq
   ·exact beq_f hq this
  have hdel:=k3.del hlt
  have hfr:FrR (hput H1.next fo0 h3).fr ds1 rd:=by
   show FrR h3.fr ds1 rd
   rw [k4,hfr2];exact hF1
  have k1:(ev P K m).call ((fx g).get e).a (lapp xs (.yield H1.next::ys)) (H1.new (.loop E nt ps.toList asg body .ready none D)).2=some (a,H3):=k1
  have e0:H1.new (.loop E nt ps.toList asg body .ready none D)=(H1.next,(H1.new (.loop E nt ps.toList asg body .ready none D)).2):=rfl
  refine⟨m,match pend with | none=>.normal | some x=>x,H3.del H1.next,hput H1.next fo0 h3,?_,hdel,hfr,?_⟩
  ·rw [e0]
   simp only [k1,w1]
   cases st <;> first | exact absurd rfl hst | (cases pend <;> rfl)
  ·rcases PdR_inj w4 with⟨hn,rfl⟩ | ⟨hn,rfl⟩ | ⟨i,hn,rfl⟩
   ·have k5:pendF kx kr k (hget H1.next h3).lp.pend e (hput H1.next fo0 h3)=true:=k5
    rw [hn] at k5;exact k5
   ·have k5:pendF kx kr k (hget H1.next h3).lp.pend e (hput H1.next fo0 h3)=true:=k5
    rw [hn] at k5;exact k5
   ·have k5:pendF kx kr k (hget H1.next h3).lp.pend e (hput H1.next fo0 h3)=true:=k5
    rw [hn] at k5;exact k5
 obtain⟨hf1,hf2,hf3⟩:=hF
 cases rd with
 | none=>
  have hf3:h.fr.rd=0:=hf3
  have hk:(Nat.rec (motive:=fun _=>Bool) (fnew h ⟨lp0,rs0,[],4,0,0⟩ fun D h=>rangeGo nt ps.toList asg body ih kx kr e k ((fx g).get e) D ⟨h.h,h.next,⟨D::h.fr.ds,h.fr.rd⟩⟩)
   (fun l _=>iff3 (Nat.beq (hget l h).t 3) (rangeGo nt ps.toList asg body ih kx kr e k ((fx g).get e) (hget l h).lp.D h) false) h.fr.rd:Bool)=true:=hk
  rw [hf3] at hk
  obtain⟨h1,hlt,hH1,hfr1,hk⟩:=hH.new hk (FOr.mkMark (o:=⟨lp0,rs0,[],4,0,0⟩) rfl rfl)
  have hF1:FrR ⟨H.next::h1.fr.ds,h1.fr.rd⟩ (ADef.mark H.next::ds) none:=by
   refine⟨?_,?_,?_⟩
   ·show ADef.mark H.next::ds=ADef.mark H.next::h1.fr.ds.map ADef.mark
    rw [hfr1,hf1]
   ·intro D hD
    rcases List.mem_cons.1 hD with rfl|hD
    ·exact hlt
    ·rw [hfr1] at hD;exact hf2 D hD
   ·show h1.fr.rd=0
    rw [hfr1];exact hf3
  obtain⟨m,x,H',h',k1,k2,k3,k4⟩:=go hlt (hH1.frame _) hF1 hk
  refine⟨m+1,x,E,ADef.mark H.next::ds,H',e,h',?_,hE,k2,k3,k4⟩
  rw [code_succ]
  simp only [stepCode,hgv]
  exact k1
 | some l=>
  obtain⟨hf3,hl⟩:=hf3
  have hk:(Nat.rec (motive:=fun _=>Bool) (fnew h ⟨lp0,rs0,[],4,0,0⟩ fun D h=>rangeGo nt ps.toList asg body ih kx kr e k ((fx g).get e) D ⟨h.h,h.next,⟨D::h.fr.ds,h.fr.rd⟩⟩)
   (fun l _=>iff3 (Nat.beq (hget l h).t 3) (rangeGo nt ps.toList asg body ih kx kr e k ((fx g).get e) (hget l h).lp.D h) false) h.fr.rd:Bool)=true:=hk
  rw [hf3] at hk
  obtain⟨q,hk⟩:=iff3_f hk
  obtain⟨E',st,pend,w1,_,_,_,w5⟩:=(hH.block _ hl).loop (beq_t q)
  obtain⟨m,x,H',h',k1,k2,k3,k4⟩:=go w5 hH ⟨hf1,hf2,hf3,hl⟩ hk
  refine⟨m+1,x,E,ds,H',e,h',?_,hE,k2,k3,k4⟩
  rw [code_succ]
  simp only [stepCode,hgv,w1]
  exact k1
theorem loop_ok {b:Code} {bF:Fc} (hb:∀ {kx:Nat->Kt} {kr k:Kt} {e:Env} {E:Tr AV} {h:FH} {H:Heap} {ds:List ADef},EnvR nt e E->FHr h H->FrR h.fr ds rd->bF.run ih kx kr e h k=true->COut P K rd nt b E ds H kx kr k) {kx:Nat->Kt} {kr kn:Kt} :
  ∀ (N:Nat) {e:Env} {E:Tr AV} {h:FH} {H:Heap} {ds:List ADef},EnvR nt e E->FHr h H->FrR h.fr ds rd->loopF ih kx kr kn bF N e h=true->COut P K rd nt (.loop b) E ds H kx kr kn:=by
 intro N
 induction N with
 | zero=>intro e E h H ds _ _ _ hk;cases hk
 | succ N ihN=>
  intro e E h H ds hE hH hF hk
  have hk:bF.run ih kx kr e h (loopF ih kx kr kn bF N)=true:=hk
  obtain⟨m1,x1,E1,ds1,H1,e1,h1,k1,k2,k3,k4,k5⟩:=hb hE hH hF hk
  cases x1 with
  | normal=>
   obtain⟨m2,x2,E2,ds2,H2,e2,h2,p1,p2⟩:=ihN k2 k3 k4 k5
   refine⟨max m1 m2+1,x2,E2,ds2,H2,e2,h2,?_,p2⟩
   rw [code_succ]
   simp only [stepCode,code_le (Nat.le_max_left m1 m2) k1,code_le (Nat.le_max_right m1 m2) p1]
  | ret=>exact⟨m1+1,.ret,E1,ds1,H1,e1,h1,by rw [code_succ];simp only [stepCode,k1],k2,k3,k4,k5⟩
  | exit i=>exact⟨m1+1,.exit i,E1,ds1,H1,e1,h1,by rw [code_succ];simp only [stepCode,k1],k2,k3,k4,k5⟩
theorem codeF_ok (hC:CallR P K ih):∀ (n:Nat) {c:Code} {kx:Nat->Kt} {kr k:Kt} {e:Env} {E:Tr AV} {h:FH} {H:Heap} {ds:List ADef},EnvR nt e E->FHr h H->FrR h.fr ds rd->(codeF P nt n c).run ih kx kr e h k=true->COut P K rd nt c E ds H kx kr k:=by
 intro n
 induction n with
 | zero=>intro c kx kr k e E h H ds _ _ _ hk;cases hk
 | succ n ihn=>
  intro c kx kr k e E h H ds hE hH hF hk
  cases c with
  | skip=>exact⟨1,.normal,E,ds,H,e,h,rfl,hE,hH,hF,hk⟩
  | label l=>exact⟨1,.normal,E,ds,H,e,h,rfl,hE,hH,hF,hk⟩
  | exit i=>exact⟨1,.exit i,E,ds,H,e,h,rfl,hE,hH,hF,hk⟩
  | ret=>exact⟨1,.ret,E,ds,H,e,h,rfl,hE,hH,hF,hk⟩
  | region id ops d=>
   cases d with
   | false=>
    obtain⟨m,E',H',e',h',k1,k2,k3,k4,k5⟩:=opsF_ok (ds:=ds) hC hE hH hk
    exact⟨m+1,.normal,E',ds,H',e',h',by rw [code_succ];simp only [stepCode];rw [runOps_def];exact k1,k2,k3,by rw [k4];exact hF,k5⟩
   | true=>
    obtain⟨m,E',H',e',h',k1,k2,k3,k4,k5⟩:=drawF_ok (ds:=ds) (rd:=rd) hC hE hH hk
    exact⟨m+1,.normal,E',ds,H',e',h',by rw [code_succ];simp only [stepCode];exact k1,k2,k3,by rw [k4];exact hF,k5⟩
  | seq a b=>
   have hk:(codeF P nt n a).run ih kx kr e h (fun e h=>(codeF P nt n b).run ih kx kr e h k)=true:=hk
   obtain⟨m1,x1,E1,ds1,H1,e1,h1,k1,k2,k3,k4,k5⟩:=ihn hE hH hF hk
   cases x1 with
   | normal=>
    obtain⟨m2,x2,E2,ds2,H2,e2,h2,p1,p2⟩:=ihn k2 k3 k4 k5
    refine⟨max m1 m2+1,x2,E2,ds2,H2,e2,h2,?_,p2⟩
    rw [code_succ]
    simp only [stepCode,code_le (Nat.le_max_left m1 m2) k1,code_le (Nat.le_max_right m1 m2) p1]
   | ret=>exact⟨m1+1,.ret,E1,ds1,H1,e1,h1,by rw [code_succ];simp only [stepCode,k1],k2,k3,k4,k5⟩
   | exit i=>exact⟨m1+1,.exit i,E1,ds1,H1,e1,h1,by rw [code_succ];simp only [stepCode,k1],k2,k3,k4,k5⟩
  | cond c a b=>
   have e0:codeF P nt (n+1) (.cond c a b)=(match fxOk nt c with
    | true=>⟨fun ih kx kr e h k=>onBoolV ((fx c).get e) ((codeF P nt n a).run ih kx kr e h k) ((codeF P nt n b).run ih kx kr e h k)⟩
    | false=>⟨fun _ _ _ _ _ _=>false⟩):=rfl
   rw [e0] at hk
   cases hc:fxOk nt c with
   | false=>rw [hc] at hk;cases hk
   | true=>
    rw [hc] at hk
    obtain⟨cv,hcv,hvc⟩:=fx_ok hE hc
    rcases onBoolV_ok hvc hk with⟨rfl,hk⟩|⟨rfl,hk⟩
    ·obtain⟨m1,x1,E1,ds1,H1,e1,h1,k1,k2⟩:=ihn hE hH hF hk
     exact⟨m1+1,x1,E1,ds1,H1,e1,h1,by rw [code_succ];simp only [stepCode,hcv,k1],k2⟩
    ·obtain⟨m1,x1,E1,ds1,H1,e1,h1,k1,k2⟩:=ihn hE hH hF hk
     exact⟨m1+1,x1,E1,ds1,H1,e1,h1,by rw [code_succ];simp only [stepCode,hcv,k1],k2⟩
  | block id b=>
   have hk:(codeF P nt n b).run ih (fun i e h=>iff3 (Nat.beq i id) (k e h) (kx i e h)) kr e h k=true:=hk
   obtain⟨m1,x1,E1,ds1,H1,e1,h1,k1,k2,k3,k4,k5⟩:=ihn hE hH hF hk
   cases x1 with
   | normal=>exact⟨m1+1,.normal,E1,ds1,H1,e1,h1,by rw [code_succ];simp only [stepCode,k1],k2,k3,k4,k5⟩
   | ret=>exact⟨m1+1,.ret,E1,ds1,H1,e1,h1,by rw [code_succ];simp only [stepCode,k1],k2,k3,k4,k5⟩
   | exit i=>
    rcases iff3_c k5 with⟨hi,k5⟩|⟨hi,k5⟩
    ·exact⟨m1+1,.normal,E1,ds1,H1,e1,h1,by rw [code_succ];simp only [stepCode,k1,hi],k2,k3,k4,k5⟩
    ·exact⟨m1+1,.exit i,E1,ds1,H1,e1,h1,by rw [code_succ];simp only [stepCode,k1,hi],k2,k3,k4,k5⟩
  | loop b=>
   have e0:codeF P nt (n+1) (.loop b)=⟨fun ih kx kr e h k=>loopF ih kx kr k (codeF P nt n b) 100000 e h⟩:=rfl
   rw [e0] at hk
   generalize 100000=N at hk
   exact loop_ok (b:=b) (bF:=codeF P nt n b) (fun a1 a2 a3 a4=>ihn a1 a2 a3 a4) N hE hH hF hk
  | rangeFunc g ps asg body=>
   have e0:codeF P nt (n+1) (.rangeFunc g ps asg body)=(match fxOk nt g with
    | true=>⟨fun ih kx kr e h k=>rangeF nt g ps.toList asg body ih kx kr e h k⟩
    | false=>⟨fun _ _ _ _ _ _=>false⟩):=rfl
   rw [e0] at hk
   cases hc:fxOk nt g with
   | false=>rw [hc] at hk;cases hk
   | true=>rw [hc] at hk;exact range_ok hC hc hE hH hF hk
  | _=>cases hk
theorem marksF_ok {k:FH->Bool} {ev0:EvF}:∀ {l:List Nat} {h:FH} {H:Heap},(∀ D∈l,D < 262144)->FHr h H->marksF l h k=true->∃ H' h',runDefers ev0 (l.map ADef.mark) H=some H'∧FHr h' H'∧k h'=true:=by
 intro l
 induction l with
 | nil=>intro h H _ hH hk;exact⟨H,h,rfl,hH,hk⟩
 | cons D l ihl=>
  intro h H hl hH hk
  have hk:iff3 (Nat.beq (hget D h).t 4) (marksF l (hput D fo0 h) k) false=true:=hk
  obtain⟨q,hk⟩:=iff3_f hk
  have hD:=hl D (List.mem_cons_self ..)
  have hm:=(hH.block D hD).mark (beq_t q)
  obtain⟨H',h',k1,k2⟩:=ihl (fun D hD=>hl D (List.mem_cons_of_mem _ hD)) (hH.del hD) hk
  refine⟨H',h',?_,k2⟩
  show runDefers ev0 (ADef.mark D::l.map ADef.mark) H=some H'
  simp only [runDefers,hm]
  exact k1
theorem resF_ok {r:ResultVar} {e:Env} {E:Tr AV} {h:FH} {H:Heap} {k:V->FH->Bool} (hE:EnvR nt e E) (hH:FHr h H) (hk:(resF P nt r).run ih e h k=true):∃ a v,resultOf P E H r=some a∧VA v a∧k v h=true:=by
 cases r with
 | tmp t=>
  have e0:resF P nt (.tmp t)=(match Nat.blt t nt with | true=>⟨fun _ e h k=>k ((racN t).g V e) h⟩ | false=>noFo):=rfl
  rw [e0] at hk
  cases hc:Nat.blt t nt with
  | false=>rw [hc] at hk;cases hk
  | true=>
   rw [hc] at hk
   obtain⟨a,h1,h2⟩:=hE.slot t (blt_true.1 hc)
   exact⟨a,_,h1,by rw [(racN_eq t V).1];exact h2,hk⟩
 | cell a t=>
  have e0:resF P nt (.cell a t)=(match Nat.blt a nt with
   | false=>noFo
   | true=>match isAggG (infF P) t,sizeG (infF P) t with
    | some true,some n=>loadF n true ⟨(racN a).g V⟩
    | some false,some 1=>loadF 1 false ⟨(racN a).g V⟩
    | _,_=>noFo):=rfl
  rw [e0] at hk
  cases hc:Nat.blt a nt with
  | false=>rw [hc] at hk;cases hk
  | true=>
   rw [hc] at hk
   obtain⟨av,h1,h2⟩:=hE.slot a (blt_true.1 hc)
   have h2:VA ((⟨(racN a).g V⟩:Fx).get e) av:=by
    show VA ((racN a).g V e) av
    rw [(racN_eq a V).1];exact h2
   simp only [resultOf,h1]
   simp only at hk
   rw [show isAggG (infF P) t=isAggT P t by rw [infF_eq];rfl,show sizeG (infF P) t=size? P t by rw [infF_eq];rfl] at hk
   split at hk
   ·rename_i n hg hs
    obtain⟨p,l,u,v,rfl,h3,h4,h5,h6⟩:=loadF_ok (x:=⟨(racN a).g V⟩) hH h2 hk
    refine⟨u,v,?_,h5,h6⟩
    simp only [hg,hs,h3]
    exact h4
   ·rename_i hg hs
    obtain⟨p,l,u,v,rfl,h3,h4,h5,h6⟩:=loadF_ok (x:=⟨(racN a).g V⟩) hH h2 hk
    refine⟨u,v,?_,h5,h6⟩
    simp only [hg,hs,h3]
    simp only at h4
    split at h4
    ·cases h4;rfl
    ·cases h4
   ·cases hk
theorem ressF_ok {e:Env} {E:Tr AV} {h:FH} {H:Heap} (hE:EnvR nt e E) (hH:FHr h H):∀ {l:List ResultVar} {k:List V->Bool},(ressF P nt l).run e h k=true->∃ as vs,lmapO (resultOf P E H) l=some as∧VAs vs as∧k vs=true:=by
 intro l
 induction l with
 | nil=>intro k hk;exact⟨[],[],rfl,.nil,hk⟩
 | cons r l ihl=>
  intro k hk
  have hk:((resF P nt r).run noCall e h fun v _=>(ressF P nt l).run e h fun vs=>k (v::vs))=true:=hk
  obtain⟨a,v,h1,h2,h3⟩:=resF_ok hE hH hk
  obtain⟨as,vs,h4,h5,h6⟩:=ihl h3
  exact⟨a::as,v::vs,(lmapO_cons _ _ _ _).2 ⟨a,as,h1,h4,rfl⟩,.cons h2 h5,h6⟩
def packA (as:List AV):AV:=match as with | [v]=>v | vs=>.tuple vs
theorem packF_ok {vs:List V} {as:List AV} (h:VAs vs as) (hl:as.length≤4180):VA (packF vs) (packA as):=by
 cases h with
 | nil=>exact VA.mkTup (cs:=[]) rfl (by omega) (fun i a h=>by simp at h)
 | cons h1 h2=>
  cases h2 with
  | nil=>exact h1
  | @cons v a vs as h3 h4=>
   rename_i v0 a0
   have hv:VAs (v0::v::vs) (a0::a::as):=.cons h1 (.cons h3 h4)
   refine VA.mkTup (r:=rowV (v0::v::vs)) (n:=llen (v0::v::vs)) (cs:=a0::a::as) (by rw [llen_eq,hv.length]) (by rw [llen_eq,hv.length];exact hl) (fun i c hc=>?_)
   have:=hv.row (o:=0) (r:=row0) (by omega) i c hc
   rwa [Nat.zero_add] at this
theorem setF_ok {k:Env->Bool} {ps:List Nat} {args:List V} {as:List AV} {e:Env} {E:Tr AV} (hl:llen ps≤2) (hE:EnvR nt e E) (ha:VAs args as) (hk:setF nt ps args e k=true):∃ E' e',setAll ps as nt E=some E'∧EnvR nt e' E'∧k e'=true:=by
 match ps,hl with
 | [],_=>
  cases ha with
  | nil=>exact⟨E,e,rfl,hE,hk⟩
  | cons=>cases hk
 | [p],_=>
  cases ha with
  | nil=>cases hk
  | cons h1 h2=>
   obtain⟨q,hk⟩:=iff3_f (c:=Nat.blt p nt) hk
   cases h2 with
   | nil=>exact⟨_,_,by simp only [setAll,q],hE.put (blt_true.1 q) h1,hk⟩
   | cons=>cases hk
 | [p,p2],_=>
  cases ha with
  | nil=>cases hk
  | cons h1 h2=>
   obtain⟨q,hk⟩:=iff3_f (c:=Nat.blt p nt) hk
   cases h2 with
   | nil=>cases hk
   | cons h3 h4=>
    obtain⟨q2,hk⟩:=iff3_f (c:=Nat.blt p2 nt) hk
    cases h4 with
    | nil=>exact⟨_,_,by simp only [setAll,q,q2,Bool.and_self],(hE.put (blt_true.1 q) h1).put (blt_true.1 q2) h3,hk⟩
    | cons=>cases hk
 | _::_::_::l,hl=>rw [llen_eq] at hl;simp at hl
theorem fnF_ok (hC:CallR P K ih) {f:FuncId} {args:List V} {as:List AV} {h:FH} {H:Heap} {k:V->FH->Bool} (ha:VAs args as) (hH:FHr h H) (hk:(fnF P f).run ih args h k=true) :
  ∃ m a v h' H',stepCall P (ev P K m) f as H=some (a,H')∧VA v a∧FHr h' H'∧h'.fr=h.fr∧k v h'=true:=by
 unfold fnF at hk
 split at hk
 ·rename_i fn hfn
  rw [lget_eq,Array.getElem?_toList] at hfn
  split at hk
  ·rename_i c hc
   split at hk
   ·rename_i hg
    obtain⟨g1,g2⟩:=(Bool.and_eq_true _ _).mp hg
    obtain⟨g2,g3⟩:=(Bool.and_eq_true _ _).mp g2
    have g1:fn.ntmps≤4180:=ble_true.1 g1
    have g2:=ble_true.1 g2
    have hk:iff3 (Nat.ble (llen args) fn.ntmps) ((codeF P fn.ntmps 1000 c).run ih (fun _ _ _=>false) (retF P fn.ntmps fn.results.toList h.fr k) (wrV args 0 row0) ⟨h.h,h.next,fr0⟩
     (retF P fn.ntmps fn.results.toList h.fr k)) false=true:=hk
    obtain⟨q,hk⟩:=iff3_f hk
    have hlen:llen args=llen as:=by rw [llen_eq,llen_eq,ha.length]
    rw [hlen] at q
    have q':=ble_true.1 q
    rw [llen_eq] at q'
    -- the slots
    obtain⟨s0,hs0⟩:=lfold_total (f:=fun (s:Tr AV × Nat) (v:AV)=>some (s.1.put s.2 v,Nat.succ s.2)) (fun b a=>⟨_,rfl⟩) as (undefs fn.ntmps,0)
    have he0:argsEnv fn.ntmps as=some s0.1:=by unfold argsEnv;rw [hs0]
    have hE:EnvR fn.ntmps (wrV args 0 row0) s0.1:=by
     refine⟨g1,fun t ht=>?_⟩
     rw [argsEnv_get he0]
     cases hat:as[t]? with
     | some a=>
      refine⟨a,rfl,?_⟩
      have:=ha.row (o:=0) (r:=row0) (by omega) t a hat
      rwa [Nat.zero_add] at this
     | none=>
      refine⟨.undef,by simp only [if_pos ht],?_⟩
      have hge:as.length≤t:=List.getElem?_eq_none_iff.1 hat
      rw [wrV_get _ _ _ _ (by rw [ha.length];omega) (by omega),dif_neg (by rw [ha.length];omega)]
      show VA (atR t (rpR vU)) .undef
      rw [at_rpR]
      exact VA.undef
    obtain⟨m,x,E',ds',H',e',h',k1,k2,k3,k4,k5⟩:=codeF_ok (rd:=none) (ds:=[]) hC 1000 hE (hH.frame fr0) ⟨rfl,(fun D hD=>by cases hD),rfl⟩ hk
    have fin:retF P fn.ntmps fn.results.toList h.fr k e' h'=true->∃ H2 as' h2 v,runDefers (ev P K m) ds' H'=some H2∧lmapO (resultOf P E' H2) fn.results.toList=some as'∧as'.length≤4180∧VA v (packA as')∧FHr h2 H2∧h2.fr=h.fr∧k v h2=true:=by
     intro hr
     have hr:(marksF h'.fr.ds h' fun h1=>(ressF P fn.ntmps fn.results.toList).run e' h1 fun vs=>k (packF vs) ⟨h1.h,h1.next,h.fr⟩)=true:=hr
     obtain⟨f1,f2,_⟩:=k4
     obtain⟨H2,h2,p1,p2,p3⟩:=marksF_ok (ev0:=ev P K m) f2 k3 hr
     obtain⟨as',vs,w1,w2,w3⟩:=ressF_ok k2 p2 p3
     have hl:as'.length≤4180:=by rw [(lmapO_get w1).1,<- llen_eq];exact g2
     exact⟨H2,as',_,_,by rw [f1];exact p1,w1,hl,packF_ok w2 hl,p2.frame h.fr,rfl,w3⟩
    have hxr:x=.normal∨x=.ret:=by
     cases x with
     | normal=>exact .inl rfl
     | ret=>exact .inr rfl
     | exit i=>cases k5
    have hr:retF P fn.ntmps fn.results.toList h.fr k e' h'=true:=by
     rcases hxr with rfl|rfl <;> exact k5
    obtain⟨H2,as',h2,v,p1,p2,p3,p4,p5,p6,p7⟩:=fin hr
    refine⟨m,packA as',v,h2,H2,?_,p4,p5,p6,p7⟩
    unfold stepCall
    have c1:(Nat.ble (llen as) fn.ntmps && !(fn.name == "runtime.NumGoroutine"))=true:=by rw [q,g3];rfl
    simp only [hfn,hc,c1,he0,k1]
    have e1:(match lmapO (resultOf P E' H2) fn.results.toList with
      | some [v]=>some (v,H2)
      | some vs=>some (AV.tuple vs,H2)
      | none=>none)=some (packA as',H2):=by
     rw [p2]
     match as' with
     | []=>rfl
     | [_]=>rfl
     | _::_::_=>rfl
    rcases hxr with rfl|rfl <;> simp only [p1] <;> exact e1
   ·cases hk
  ·cases hk
 ·cases hk
structure FRok (F:FRule) (K:Orc):Prop where
 res:∀ {f:FuncId} {args:List V} {as:List AV} {h:FH} {H:Heap} {v:V} {h':FH},VAs args as->FHr h H->F f args h=some (some (v,h'))->∃ a H',K f as H=some (a,H')∧VA v a∧FHr h' H'∧h'.fr=h.fr
 non:∀ {f:FuncId} {args:List V} {as:List AV} {h:FH} {H:Heap},VAs args as->FHr h H->F f args h=none->K f as H=none
theorem callK_ok {F:FRule} (hF:FRok F K) (hC:CallR P K ih) {f:FuncId} {args:List V} {as:List AV} {h:FH} {H:Heap} {k:V->FH->Bool} (ha:VAs args as) (hH:FHr h H) (hk:callK F f args h k ((fnF P f).run ih args h k)=true) :
  ∃ m a v h' H',(ev P K m).call f as H=some (a,H')∧VA v a∧FHr h' H'∧h'.fr=h.fr∧k v h'=true:=by
 unfold callK at hk
 cases hr:F f args h with
 | none=>
  rw [hr] at hk
  obtain⟨m,a,v,h',H',h1,h2⟩:=fnF_ok hC ha hH hk
  refine⟨m+1,a,v,h',H',?_,h2⟩
  show knownCall K f as H (stepCall P (ev P K m) f as H)=_
  rw [h1]
  unfold knownCall
  rw [hF.non ha hH hr]
 | some o=>
  rw [hr] at hk
  cases o with
  | none=>cases hk
  | some p=>
   obtain⟨v,h'⟩:=p
   have hk:k v h'=true:=hk
   obtain⟨a,H',k1,k2,k3,k4⟩:=hF.res ha hH hr
   refine⟨1,a,v,h',H',?_,k2,k3,k4,hk⟩
   show knownCall K f as H (stepCall P (ev P K 0) f as H)=_
   unfold knownCall
   rw [k1]
theorem endF_ok {l:Nat} {fr:Fri} {st pend:Nat} {v:V} {h:FH} {H:Heap} {k:V->FH->Bool} {st':LoopState} {pend':Option AX} (hl:l < 262144) (hs:StR st st') (hp:PdR pend pend') (hH:FHr h H) (hk:endF l fr st pend v h k=true) :
  ∃ E nt ps asg body s0 p0 D h',H.get l=some (.loop E nt ps asg body s0 p0 D)∧FHr h' (H.put l (.loop E nt ps asg body st' pend' D))∧h'.fr=fr∧k v h'=true:=by
 unfold endF at hk
 obtain⟨q,hk⟩:=iff3_f hk
 obtain⟨E,s0,p0,w1,w2,w3,w4,w5⟩:=(hH.block l hl).loop (beq_t q)
 have:=hH.hput hl (FOr.mkLoop (o:=loopFO (hget l h).lp.e (hget l h).lp.nt (hget l h).lp.ps (hget l h).lp.asg (hget l h).lp.body st pend (hget l h).lp.D) (E:=E) (st:=st') (pend:=pend') rfl rfl w2 hs hp w5)
 exact⟨E,_,_,_,_,s0,p0,_,_,w1,this.frame fr,rfl,hk⟩
theorem roundF_ok (hC:CallR P K ih) {l:Nat} {args:List V} {as:List AV} {h:FH} {H:Heap} {k:V->FH->Bool} (ha:VAs args as) (hH:FHr h H) (hk:roundF P ih l args h k=true) :
  ∃ m a v h' H',roundOf (ev P K m) l as H=some (a,H')∧VA v a∧FHr h' H'∧h'.fr=h.fr∧k v h'=true:=by
 unfold roundF at hk
 rw [frc_eq] at hk
 obtain⟨q,hk⟩:=iff3_f hk
 obtain⟨q1,q2⟩:=andB_t q
 obtain⟨q0,q1⟩:=andB_t q1
 obtain⟨q2,q3⟩:=andB_t q2
 have hl:l < 262144:=blt_true.1 q0
 have q1:llen (hget l h).lp.ps≤2:=ble_true.1 q1
 obtain⟨E,st,pend,w1,w2,w3,w4,w5⟩:=(hH.block l hl).loop (beq_t q2)
 have q3:(hget l h).lp.st=0:=beq_t q3
 have hst:st=.ready:=by
  rw [q3] at w3
  cases st <;> first | rfl | cases w3
 subst hst
 obtain⟨E1,e1,a1,a2,a3⟩:=setF_ok q1 w2 ha hk
 obtain⟨m1,x1,E2,ds2,H2,e2,h2,k1,k2,k3,k4,k5⟩:=codeF_ok (rd:=some l) (ds:=[]) hC 1000 a2 (hH.frame ⟨[],Nat.succ l⟩) ⟨rfl,(fun D hD=>by cases hD),rfl,hl⟩ a3
 cases x1 with
 | ret=>cases k5
 | exit i=>cases k5
 | normal=>
  obtain⟨q,k5⟩:=iff3_f k5
  obtain⟨q4,q5⟩:=andB_t q
  obtain⟨E',st2,pend2,z1,z2,z3,z4,z5⟩:=(k3.block l hl).loop (beq_t q4)
  have q5:(hget l h2).lp.st=0:=beq_t q5
  have hst2:st2=.ready:=by
   rw [q5] at z3
   cases st2 <;> first | rfl | cases z3
  subst hst2
  have hbusy:=(k3.hput hl (FOr.mkLoop (o:=loopFO (hget l h2).lp.e (hget l h2).lp.nt (hget l h2).lp.ps (hget l h2).lp.asg (hget l h2).lp.body 1 (hget l h2).lp.pend (hget l h2).lp.D) (E:=E') (st:=.busy) (pend:=pend2) rfl rfl z2 rfl z4 z5)).frame h2.fr
  obtain⟨m2,x3,E3,ds3,H3,e3,h3,p1,p2,p3,p4,p5⟩:=codeF_ok (rd:=some l) hC 1000 k2 hbusy k4 k5
  have p1:(ev P K m2).code (some l) (hget l h).lp.nt (hget l h).lp.body E2 ds2 (H2.put l (.loop E' (hget l h2).lp.nt (hget l h2).lp.ps (hget l h2).lp.asg (hget l h2).lp.body .busy pend2 (hget l h2).lp.D))=some (.mk x3 E3 ds3 H3):=p1
  have run:∀ {st':LoopState} {pend':Option AX} {b:Bool} {v:V} {s p:Nat},StR s st'->PdR p pend'->VA v (.bool b)->endF l h.fr s p v h3 k=true ->
    (∀ E nt ps asg body s0 p0 D,H3.get l=some (.loop E nt ps asg body s0 p0 D)->(match x3 with
       | .normal=>some (AV.bool true,H3.put l (.loop E nt ps asg body .ready none D))
       | x=>some (.bool false,H3.put l (.loop E nt ps asg body .done (some x) D)))=some (.bool b,H3.put l (.loop E nt ps asg body st' pend' D))) ->
    ∃ m a v h' H',roundOf (ev P K m) l as H=some (a,H')∧VA v a∧FHr h' H'∧h'.fr=h.fr∧k v h'=true:=by
   intro st' pend' b v s p hs hp hv he hx
   obtain⟨E4,nt4,ps4,asg4,body4,s4,p4',D4,h4,y1,y2,y3,y4⟩:=endF_ok hl hs hp p3 he
   refine⟨max m1 m2,.bool b,v,h4,_,?_,hv,y2,y3,y4⟩
   unfold roundOf
   simp only [w1,a1,code_le (Nat.le_max_left m1 m2) k1,z1,code_le (Nat.le_max_right m1 m2) p1,y1]
   exact hx _ _ _ _ _ _ _ _ y1
  cases x3 with
  | normal=>exact run (st':=.ready) (pend':=none) (b:=true) rfl rfl (VA.bool true) p5 (fun _ _ _ _ _ _ _ _ _=>rfl)
  | ret=>exact run (st':=.done) (pend':=some .ret) (b:=false) rfl rfl (VA.bool false) p5 (fun _ _ _ _ _ _ _ _ _=>rfl)
  | exit i=>exact run (st':=.done) (pend':=some (.exit i)) (b:=false) rfl rfl (VA.bool false) p5 (fun _ _ _ _ _ _ _ _ _=>rfl)
end
theorem callF_ok (P:Program) {F:FRule} {K:Orc} (hF:FRok F K):∀ n,CallR P K (callF P F n):=by
 intro n
 induction n with
 | zero=>exact noCall_ok P K
 | succ n ihn=>exact⟨fun ha hH hk=>callK_ok hF ihn ha hH hk,fun ha hH hk=>roundF_ok ihn ha hH hk⟩
theorem fh0_ok:FHr fh0 ⟨.lf,0⟩:=by
 refine⟨rfl,by show 0≤262144;omega,fun b hb=>?_⟩
 have:hget b fh0=fo0:=by
  rw [hget_eq]
  show at64 b (at64 (b / 64) (at64 (b / 4096) (rp64 (rp64 (rp64 fo0)))))=fo0
  rw [at_rp64,at_rp64,at_rp64]
 rw [this]
 exact FOr.gone _ rfl rfl
end Go.Ev
namespace Go.Ev
theorem kept_same {w w':World} {may:MemPlace->Prop} (h:∀ k,k < w.heap.size->w'.heap[k]?=w.heap[k]?) (ho:w'.os=w.os) (hp:w'.output=w.output):w.keptBut w' may:=by
 refine⟨ho,hp,fun i hi=>?_⟩
 rw [h i hi]
 cases hb:w.heap[i]? with
 | none=>rfl
 | some b=>
  cases b with
  | cells c t fr=>exact⟨rfl,rfl,rfl,fun j _=>rfl⟩
  | map es clock=>exact .inr ⟨rfl,rfl⟩
  | _=>rfl
def KnownOk (P:Program) (F:FRule):Prop:=∃ K,OrcOk P K∧∀ S:Sg,@FRok S F K
theorem noneKnown_ok (P:Program):KnownOk P noneKnown:=
 ⟨fun _ _ _=>none,⟨fun _ _ h=>by cases h⟩,fun _=>⟨fun _ _ h=>(by cases h),fun _ _ _=>rfl⟩⟩
@[reducible] noncomputable def mkSg (base:Nat->Int) (val:Nat->AV) (blk:Nat->AObj):Sg:=⟨fun n=>dec (n / 1000) (base (n % 1000)),fun i c hi=>by
 show dec ((i+1000 * c) / 1000) (base ((i+1000 * c) % 1000))=dec c (dec (i / 1000) (base (i % 1000)))
 rw [show (i+1000 * c) / 1000=c by omega,show (i+1000 * c) % 1000=i by omega,show i / 1000=0 by omega,show i % 1000=i by omega]
 rfl,val,blk⟩
@[reducible] noncomputable def sg0:Sg:=mkSg (fun _=>0) (fun _=>.undef) (fun _=>.deferred)
theorem VA.symV [Sg] {i lo hi:Nat} {ex:List AV} {n:Int} (hn:Sg.num i=n) (hl:(lo:Int) - 9223372036854775808≤n) (hh:n≤(hi:Int) - 9223372036854775808) (he:hi < 18446744073709551616) (hx:∀ m,AV.int .i64 m∈ex->m≠n) :
  VA (Ev.symV i lo hi ex) (.int .i64 n):=by
 have e:sval (Ev.symV i lo hi ex)=n:=by
  show Sg.num i+((bias:Int) - bias)=n
  omega
 have hb:(bias:Int)=4611686018427387904:=rfl
 have:=VA.sym (v:=Ev.symV i lo hi ex) rfl (by rw [e];show (lo:Int) - 2 * bias≤n;omega) (by rw [e];show n≤(hi:Int) - 2 * bias;omega) he (by rw [e];exact hx) (fun m lo hi hr=>by cases hr)
 rw [e] at this
 exact this
theorem VA.ofList [Sg] {vs:List V} {as:List AV} (h:VAs vs as) (hl:as.length≤4180):VA (vAgg (rowV vs) 0 as.length) (.agg as):=
 VA.mkAgg rfl (by omega) fun i a ha=>by
  have:=VAs.row h (o:=0) (r:=row0) (by omega) i a ha
  exact this
noncomputable def H1b (o:AObj):Heap:=⟨Tr.lf.put 0 o,1⟩
theorem H1b_get (o:AObj) (b:Nat):(H1b o).get b=if 0=b then some o else none:=by
 have e:(H1b o).get b=((⟨.lf,0⟩:Heap).put 0 o).get b:=rfl
 rw [e,Heap.get_put]
 by_cases h:0=b
 ·rw [if_pos h,if_pos h]
 ·rw [if_neg h,if_neg h]
  simp [Heap.get,Tr.get]
theorem fhP_ok [Sg]:FHr fhP (H1b (Sg.blk 0)):=by
 refine⟨rfl,by show 1≤262144;omega,fun b hb=>?_⟩
 have e:hget b fhP=if 0=b then foP 0 else fo0:=by
  have h0:hget b fh0=fo0:=by
   rw [hget_eq]
   show at64 b (at64 (b / 64) (at64 (b / 4096) (rp64 (rp64 (rp64 fo0)))))=fo0
   rw [at_rp64,at_rp64,at_rp64]
  show hget b ⟨(Ev.hput 0 (foP 0) fh0).h,1,fr0⟩=_
  rw [hget_mk,hget_hput (by omega) hb,h0]
 rw [e,H1b_get]
 by_cases h:0=b
 ·rw [if_pos h,if_pos h]
  exact⟨fun _=>rfl,fun k=>absurd k (by decide),fun k=>absurd k (by decide),fun k=>absurd k (by decide),fun k=>absurd k (by decide),fun _=>rfl,fun k=>absurd k (by decide)⟩
 ·rw [if_neg h,if_neg h]
  exact FOr.gone _ rfl rfl
def gB (blk off xi sz:Nat) (ob:Obj):G:=fun b=>if b=0 then some ⟨blk,off,xi,sz,some ob⟩ else none
end Go.Ev
