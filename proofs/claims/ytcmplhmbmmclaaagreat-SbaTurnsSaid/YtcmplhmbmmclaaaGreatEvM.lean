/- The walk of sba.Put: what waits comes onto the stack. The walk of sba.Put, whole. What comes of sba.Put, in plain Lean: each player's items in order. The law SbaTurns: its last loop. The law SbaTurns: from the memory behind its beginning to its answer. The law SbaTurns: what lies in memory behind its beginning. The law SbaTurns as a call in a world. Conditions: none. -/
import Derived.Test.YtcmplhmbmmclaaaGreatEvL
set_option linter.unusedVariables false
set_option linter.unusedSectionVars false
namespace Go.Ev
def putP (d:SD) (p:Int):SD:=(d.wa.filter fun x=>decide (x.ctrl=p)).foldl mvI d
def putN (d:SD) (a:Nat):Nat->SD
 | 0=>d
 | i+1=>putP (putN d a i) (.ofNat ((a+i) % 3))
def rowHis (p:Int):List AV->Bool
 | _::_::.int _ n::_=>!decide (n=p)
 | _=>true
section
variable {P:Program} {K:Orc} {rd:Option Nat} {nt:Nat} {l:Sl} {ds:List ADef} {s:SH} {Q Qn Qr:Po} {Qe:Nat->Po} {F:Nat->FuncId} {T:Nat->TypeId} {bf bl:Nat} {cards draws:AV} {c0 c2 c3 c4:Int} {EL:List (List AV)} {d:SD} {t:SH}
theorem foldl_len:∀ (own:List ID) (d:SD),(own.foldl mvI d).st.length=d.st.length+own.length:=by
 intro own
 induction own with
 | nil=>intro d;rfl
 | cons x own ih=>
  intro d
  rw [List.foldl_cons,ih]
  show (d.st++[_]).length+own.length=_
  rw [List.length_append,List.length_singleton,List.length_cons]
  omega
def a19B (F:Nat->FuncId):AC:=(.block 1 (.seq (.ops [⟨(some 30),(.faddr 0 (.tmp 3)),none⟩,⟨(some 31),(.load false 1 (.tmp 30)),none⟩,⟨(some 32),(.invoke (.tmp 31) "Waits" []),none⟩,⟨(some 33),(.call (.func (F 64)) [(.tmp 32)]),none⟩,⟨(some 34),(.mkfn (F 65) [] [(.tmp 4)]),none⟩,⟨(some 35),(.call (.func (F 63)) [(.tmp 33),(.tmp 34)]),none⟩,⟨(some 5),(.mv (.tmp 35)),none⟩]) (.seq (.ops [⟨(some 36),(.mv (.tmp 5)),none⟩,⟨(some 37),(.lenS (.tmp 36)),none⟩,⟨(some 38),(.mv (.const (.int .i64 (.ofNat 0)))),none⟩]) (.block 2 (.loop (a19I F))))))
theorem delOwn_ok (hB:Base P K F T) (hI:BaseI P K F T) (hS:BaseS P K F T) {v:AV} {L:List ID} {p:Int} {b4:Nat} {m o t:SH} (h:Gr 7 v (idR L) o) (hn:L.length≤1000) (hb:Has b4 (.r false [[iv p]] 1) t) :
  Tri P K (F 63) [v,.func (F 65) [] [.ptr (some ⟨b4,0,0⟩)]] (m++(o++t)) (fun v' s'=>∃ o' x,s'=x++(m++(o'++t))∧Gr 7 v' (idR (L.filter fun y=>decide (y.ctrl=p))) o'):=by
 have hcl:∀ row∈idR L,∀ y:SH,Has b4 (.r false [[iv p]] 1) y->TriV P K (.func (F 65) [] [.ptr (some ⟨b4,0,0⟩)]) [elv true row] y (fun w s'=>w=.bool (rowHis p row)∧∃ m,s'=m++y):=fun row hr y hy=>by
  obtain⟨q,_,rfl⟩:=List.mem_map.1 hr
  exact TriV.func (notHis_ok hS hy)
 have hlen:∀ row∈idR L,row.length=7:=fun row hr=>by
  obtain⟨q,_,rfl⟩:=List.mem_map.1 hr
  rfl
 have hfil:(idR L).filter (fun r=>!rowHis p r)=idR (L.filter fun y=>decide (y.ctrl=p)):=by
  rw [idR_filter L (fun y=>!decide (y.ctrl=p)) (rowHis p) (fun _=>rfl)]
  simp only [Bool.not_not]
 refine hI.c63.tri (by simp) (delF_ok (rowHis p) h (by omega) rfl (.inl rfl) (by simp only [idR,List.length_map];omega) hlen (fun h=>by cases h) ?_ (fun row hr y hy=>hcl row hr y (.of_mem (hy _ hb.mem))) fun v' o' y hG=>⟨o',y,rfl,by rw [<- hfil];exact hG⟩)
 exact hB.c113.tri (by simp) (idx_ok (rowHis p) h.src (by omega) (.inl rfl) (by simp only [idR,List.length_map];omega) hlen (fun row hr y=>hcl row hr _ (.app (.app (.app hb)))) fun n=>⟨rfl,n,rfl⟩)
theorem BaseS.c64 (hS:BaseS P K F T):FnK P K (F 64) 8 [.tmp 2] (cloneC 7 72 zItem):=hS.f64
theorem body_ok (hB:Base P K F T) (hI:BaseI P K F T) (hG:BaseB P K F T) (hS:BaseS P K F T) (ht24:Ty P (T 24) 5) {tF:TypeId} (hM:BMeth P F tF) (hc:SaysS P K F) {b2 b3 b4:Nat} {p:Int} (hs:LogH bl EL d t s) (hd:SBI d)
  (hf:Has bf (.r false [foldRow bl cards c0 8 c2 c3 c4 draws] 8) t) (hg:Has b3 (.r false [[.iface tF (.ptr (some ⟨bf,0,0⟩))]] 1) t) (h4:Has b4 (.r false [[iv p]] 1) t) (hE:EL.length≤700)
  (e2:lk l 2=some (.ptr (some ⟨b2,0,0⟩))) (e3:lk l 3=some (.ptr (some ⟨b3,0,0⟩))) (e4:lk l 4=some (.ptr (some ⟨b4,0,0⟩)))
  (hQ:∀ (EL':List (List AV)) (s':SH) (l':Sl),LogH bl EL' (putP d p) t s'->EL'.length≤EL.length+2 * d.wa.length->SBI (putP d p)->Qn l' [] s') :
  WP P K rd 64 (a19B F) l [] s Qn Qe Qr:=by
 have hsm:=hd.small
 have hlen:=hd.len
 unfold a19B
 refine WP.block (WP.seq (WP.ops (WO.r (.faddr e3) (WO.r (.load rfl (hs.mem hg) rfl rfl rfl) (WO.w (WS.invoke (vs:=[]) rfl hM.waits rfl (waits_ok hB hG hs hsm hf) ?_))))))
 rintro w s2 ⟨hs2,hw⟩
 refine WO.w (WS.callF (first:=[]) (vs:=[w]) (cap:=[]) rfl rfl (hS.c64.cloneJ hw (by omega) (by simp only [idR,List.length_map];omega) (by omega)) ?_)
 rintro v _ ⟨n,rfl,o,j,hp,hGr⟩
 have e4':lk (pl (some 33) v (pl (some 32) w (pl (some 31) (.iface tF (.ptr (some ⟨bf,0,0⟩))) (pl (some 30) (.ptr (some ⟨b3,0,0⟩)) l)))) 4=some (.ptr (some ⟨b4,0,0⟩)):=e4
 refine WO.r (.mkfn rfl ((lmapO_cons _ _ _ _).2 ⟨_,[],e4',rfl,rfl⟩)) ?_
 refine WO.pre (s':=[]++(o++(j++s2))) (perm_ct fun c w h0 h1 h2 hq=>by simp only [h1,hq _ _ hp];omega) ?_
 refine WO.w (WS.callF (first:=[]) (vs:=[v,.func (F 65) [] [.ptr (some ⟨b4,0,0⟩)]]) (cap:=[]) rfl rfl (delOwn_ok hB hI hS hGr (by omega) (.app (hs2.mem h4))) ?_)
 rintro v' _ ⟨o',x,rfl,hGo⟩
 have hs3:LogH bl EL d (o'++t) (x++([]++(o'++(j++s2)))):=(((LogH.addl (x:=o') hs2).junk (m:=j)).junk (m:=x)).perm (perm_ct fun c w h0 h1 h2 hq=>by simp only [h1];omega)
 refine WO.r (.mv rfl) (WO.nil (WP.seq (WP.ops (WO.r (.mv rfl) (WO.r (.lenS rfl hGo.lenOf) (WO.r (.mv rfl) (WO.nil ?_)))))))
 have hle:(d.wa.filter fun y=>decide (y.ctrl=p)).length≤d.wa.length:=List.length_filter_le _ _
 have hlo:(idR (d.wa.filter fun y=>decide (y.ctrl=p))).length=(d.wa.filter fun y=>decide (y.ctrl=p)).length:=by simp [idR]
 refine own_ok hB hI hG hS ht24 hM hc (b2:=b2) (b3:=b3) (v:=v') hs3 hd (.app hf) (.app hg) (own:=d.wa.filter fun y=>decide (y.ctrl=p)) (Src.mono hGo.out.src fun q hq=>List.mem_append_left _ hq) (fun y hy=>(List.mem_filter.1 hy).1) (List.Nodup.sublist (List.Sublist.map _ List.filter_sublist) hd.nd) (by omega) ?_ ?_
 ·refine sub_cons e2 (sub_cons e3 (sub_cons rfl (sub_cons ?_ (sub_cons rfl sub_nil))))
  show some (AV.int .i64 (.ofNat _))=_
  rw [hlo]
 ·intro EL' s' l' h1 h2 h3
  exact hQ EL' s' l' h1.absorb (by omega) h3
end
end Go.Ev
namespace Go.Ev
section
variable {P:Program} {K:Orc} {rd:Option Nat} {nt:Nat} {l:Sl} {ds:List ADef} {s:SH} {Q Qn Qr:Po} {Qe:Nat->Po} {F:Nat->FuncId} {T:Nat->TypeId} {bf bl:Nat} {cards draws:AV} {c0 c2 c3 c4:Int} {EL:List (List AV)} {d:SD} {t:SH}
theorem same_f (t:TypeId) (b r o:Nat):sameV (.iface t (.ptr (some ⟨b,r,o⟩))) (.iface t (.ptr (some ⟨b,r,o⟩)))=true:=by
 simp [sameV,sameN,same0]
theorem putN_nil {a:Nat} (h:d.wa=[]):∀ i,putN d a i=d:=by
 intro i
 induction i with
 | zero=>rfl
 | succ i ih=>
  show putP (putN d a i) _=d
  rw [ih]
  unfold putP
  rw [h]
  rfl
theorem put_ok (hB:Base P K F T) (hI:BaseI P K F T) (hG:BaseB P K F T) (hS:BaseS P K F T) (ht24:Ty P (T 24) 5) (ht128:Ty P (T 128) 13) (ht4:isAggT P (T 4)=some false∧size? P (T 4)=some 1) {tF:TypeId} (hM:BMeth P F tF) (hc:SaysS P K F) (hs:LogH bl EL d t s) (hd:SBI d) {a:Nat} (ha:d.ac=.ofNat a) (ha3:a < 3)
  (hf:Has bf (.r false [foldRow bl cards c0 8 c2 c3 c4 draws] 8) t) (hE:EL.length≤600) :
  Tri P K (F 19) [.iface tF (.ptr (some ⟨bf,0,0⟩))] s (fun v s'=>v=.bool (!decide ((d.wa.length:Int)=0))∧SBI (putN d a 3)∧∃ EL',EL'.length≤EL.length+48∧LogH bl EL' (putN d a 3) t s'):=by
 have hsm:=hd.small
 refine hS.f19.triM (by simp) ?_
 unfold a19
 refine WP.seq (WP.ops (WO.a (.alloc rfl) fun b2=>WO.nil ?_))
 refine WP.seq (WP.seq (WP.ops (WO.r (.mv rfl) (WO.r (.eql (b:=false) rfl rfl rfl) (WO.nil (WP.cond rfl (fun h=>Bool.noConfusion (show false=true from h)) (fun _=>WP.skip ?_)))))))
 refine WP.seq (WP.ops (WO.r (.mv rfl) (WO.r (.build rfl rfl) (WO.a (.alloc rfl) fun b3=>WO.w (WS.store rfl rfl rfl .here rfl rfl (WO.nil ?_))))))
 have hs1:LogH bl EL d ((b3,.r false [[.iface tF (.ptr (some ⟨bf,0,0⟩))]] 1)::(b2,.r false [[.bool false]] 1)::t) ((b3,.r false [[.iface tF (.ptr (some ⟨bf,0,0⟩))]] 1)::(b2,.r false [[.bool false]] 1)::s):=hs.cons.cons
 -- is there an outcome,does anything wait
 refine WP.seq (WP.seq (WP.ops (WO.r (.load rfl .here rfl rfl rfl) (WO.w (WS.callF (first:=[]) (vs:=[.agg [.iface tF (.ptr (some ⟨bf,0,0⟩))]]) (cap:=[]) rfl rfl (over_ok hB hG hS ht128 hM hs1 hsm (.there (.there hf))) ?_)))))
 rintro w s2 ⟨rfl,hs2⟩
 rw [show decide (d.oc=0)=true from decide_eq_true hd.oc]
 refine WO.r (.mv rfl) (WO.yes rfl rfl (WO.r (.faddr rfl) (WO.yes rfl rfl (WO.r (.load rfl (hs2.mem .here) rfl rfl rfl) (WO.yes rfl rfl (WO.w (WS.invoke (vs:=[]) rfl hM.waits rfl (waits_ok hB hG hs2 hsm (.there (.there hf))) ?_)))))))
 rintro w s3 ⟨hs3,hw⟩
 have lw:lenOf w=some d.wa.length:=by rw [hw.lenOf];simp [idR]
 refine WO.yes rfl rfl (WO.r (.lenS rfl lw) (WO.yes rfl rfl (WO.r (.eql rfl rfl (eqB_i _ _)) (WO.r (.pick0 rfl rfl) (WO.nil ?_)))))
 refine WP.cond rfl (fun hz=>?_) (fun hz=>WP.skip ?_)
 ·-- nothing waits
  obtain⟨s4,p4,hs4⟩:=hs3.first
  obtain⟨s5,p5,hs5⟩:=hs4.first
  have hz':d.wa=[]:=by
   have:(d.wa.length:Int)=0:=of_decide_eq_true hz
   exact List.eq_nil_of_length_eq_zero (by omega)
  refine WP.pre (s':=(b2,.r false [[.bool false]] 1)::(b3,.r false [[.iface tF (.ptr (some ⟨bf,0,0⟩))]] 1)::s5) (perm_ct fun c w h0 h1 h2 hq=>by simp only [h2,hq _ _ p4,hq _ _ p5];omega) ?_
  refine WP.seq (WP.ops (WO.w (WS.store rfl rfl rfl .here rfl rfl (WO.nil (WP.ret ⟨[],_,rfl,.refl _,_,.cell rfl ht4.1 ht4.2 (.inr rfl) .here rfl rfl rfl .nil,?_⟩)))))
  refine⟨?_,by rw [putN_nil hz'];exact hd,EL,by omega,?_⟩
  ·show AV.bool false=_
   rw [hz'];rfl
  ·rw [putN_nil hz']
   exact LogH.junk (m:=[_,_]) hs5
 ·have hpos:¬ ((d.wa.length:Int)=0):=of_decide_eq_false hz
  refine WP.seq (WP.seq (WP.drawn0 (WD.pu (.faddr rfl) (WD.ld rfl .nil (.load rfl (hs3.mem .here) rfl rfl rfl) (WD.ch .nil (WS.invoke (vs:=[]) rfl hM.info rfl (info_ok hB hG ht128 hs3 hsm (.there (.there hf))) ?_))))))
  rintro w4 s4 ⟨rfl,hs4⟩
  refine WD.pu (.fld rfl rfl) (WD.pu (.faddr rfl) (WD.lk rfl .nil (.load rfl (hs4.mem .here) rfl rfl rfl) (WD.ch .nil (WS.invoke (vs:=[]) rfl hM.players rfl (players_ok hB hG hs4 hsm (.there (.there hf))) ?_))))
  rintro w5 s5 ⟨rfl,hs5⟩
  refine WD.ch .nil (WS.callF (first:=[]) (vs:=[iv d.ac,iv (.ofNat d.pl.length)]) (cap:=[]) rfl rfl (round_ok2 hS) ?_)
  rintro w6 _ ⟨br,bn,rfl,rfl⟩
  refine WD.nil .nil ?_ ?_
  rotate_left
  ·intro o ho
   rw [List.mem_singleton.1 ho]
   refine⟨(fun i hi=>nomatch hi),Nat.zero_le _,same_f _ _ _ _,fun k _ hk=>?_⟩
   rcases(by have:k≤1:=hk;omega:k=0∨k=1) with rfl|rfl
   ·exact⟨_,rfl,.load rfl (hs3.mem .here) rfl rfl rfl⟩
   ·exact⟨_,rfl,.load rfl (hs4.mem .here) rfl rfl rfl⟩
  rw [ha,hd.pl]
  have hs6:LogH bl EL d ((bn,.r false [[iv (.ofNat 3)]] 1)::(br,.r false [[iv (.ofNat a)]] 1)::(b3,.r false [[.iface tF (.ptr (some ⟨bf,0,0⟩))]] 1)::(b2,.r false [[.bool false]] 1)::t) ((bn,.r false [[iv (.ofNat 3)]] 1)::(br,.r false [[iv (.ofNat a)]] 1)::s5):=hs5.cons.cons
  -- players round about
  refine WP.block (WP.weak (l':=[(2,.ptr (some ⟨b2,0,0⟩)),(3,.ptr (some ⟨b3,0,0⟩)),(28,.func (F 112) [] [.ptr (some ⟨bn,0,0⟩),.ptr (some ⟨br,0,0⟩)])]) (sub_cons rfl (sub_cons rfl (sub_cons rfl sub_nil))) (fun _ _ h=>h) ?_)
  refine(WP.rf (first:=[]) (cap:=[.ptr (some ⟨bn,0,0⟩),.ptr (some ⟨br,0,0⟩)]) rfl fun asg body hasg hbody D lb=>?_)
  show Tri P K (F 112) [.yield lb,.ptr (some ⟨bn,0,0⟩),.ptr (some ⟨br,0,0⟩)] _ _
  generalize hTT:((D,HO.ob .deferred)::(bn,.r false [[iv (.ofNat 3)]] 1)::(br,.r false [[iv (.ofNat a)]] 1)::(b3,.r false [[.iface tF (.ptr (some ⟨bf,0,0⟩))]] 1)::(b2,.r false [[.bool false]] 1)::t:SH)=TT
  have tn:Has bn (.r false [[iv (.ofNat 3)]] 1) TT:=hTT ▸ .there .here
  have tr:Has br (.r false [[iv (.ofNat a)]] 1) TT:=hTT ▸ .there (.there .here)
  have tg:Has b3 (.r false [[.iface tF (.ptr (some ⟨bf,0,0⟩))]] 1) TT:=hTT ▸ .there (.there (.there .here))
  have tf:Has bf (.r false [foldRow bl cards c0 8 c2 c3 c4 draws] 8) TT:=hTT ▸ .there (.there (.there (.there (.there hf))))
  have hs7:LogH bl EL d TT ((D,.ob .deferred)::(bn,.r false [[iv (.ofNat 3)]] 1)::(br,.r false [[iv (.ofNat a)]] 1)::s5):=hTT ▸ hs6.cons
  refine(roundAll_ok hS (fr:=a) (n:=3) (by omega) (by omega) (by omega) (fun i s'=>∃ EL' s1,s'=(lb,.lp [(2,.ptr (some ⟨b2,0,0⟩)),(3,.ptr (some ⟨b3,0,0⟩)),(28,.func (F 112) [] [.ptr (some ⟨bn,0,0⟩),.ptr (some ⟨br,0,0⟩)])] 64 [29] asg body .ready none D)::s1∧LogH bl EL' (putN d a i) TT s1∧SBI (putN d a i)∧EL'.length≤EL.length+16 * i) ?_ ?_ ?_).post ?_
  ·rintro i _ ⟨EL',s1,rfl,h1,_,_⟩
   exact⟨.there (h1.mem tn),.there (h1.mem tr)⟩
  ·rintro i _ hi ⟨EL',s1,rfl,h1,h2,h3⟩
   refine yield1_ok (by omega) hasg hbody ?_
   refine WP.ops (WO.a (.alloc rfl) fun b4=>WO.w (WS.store rfl rfl rfl .here rfl rfl (WO.nil ⟨(b4,.r false [[iv (.ofNat ((a+i) % 3))]] 1)::s1,List.Perm.swap ..,?_⟩)))
   have h4:LogH bl EL' (putN d a i) ((lb,.lp [(2,.ptr (some ⟨b2,0,0⟩)),(3,.ptr (some ⟨b3,0,0⟩)),(28,.func (F 112) [] [.ptr (some ⟨bn,0,0⟩),.ptr (some ⟨br,0,0⟩)])] 64 [29] asg body .busy none D)::(b4,.r false [[iv (.ofNat ((a+i) % 3))]] 1)::TT) ((lb,.lp [(2,.ptr (some ⟨b2,0,0⟩)),(3,.ptr (some ⟨b3,0,0⟩)),(28,.func (F 112) [] [.ptr (some ⟨bn,0,0⟩),.ptr (some ⟨br,0,0⟩)])] 64 [29] asg body .busy none D)::(b4,.r false [[iv (.ofNat ((a+i) % 3))]] 1)::s1):=h1.cons.cons
   have hwl:=h2.len
   refine body_ok hB hI hG hS ht24 hM hc (b2:=b2) (p:=.ofNat ((a+i) % 3)) h4 h2 (.there (.there tf)) (.there (.there tg)) (.there .here) (by omega) rfl rfl rfl ?_
   intro EL2 s2 l2 k1 k2 k3
   obtain⟨s3,p3,k4⟩:=k1.first
   exact⟨s3,p3,rfl,EL2,s3,rfl,k4.tail,k3,by omega⟩
  ·exact⟨EL,_,rfl,hs7,hd,by omega⟩
  ·rintro v _ ⟨EL',s1,rfl,h1,h2,h3⟩
   refine⟨_,.ready,none,s1,rfl,(fun h=>LoopState.noConfusion h),?_⟩
   show WP P K none 64 _ _ _ _ _ _ _
   subst hTT
   obtain⟨u1,q1,h1⟩:=h1.first
   obtain⟨u2,q2,h1⟩:=h1.first
   obtain⟨u3,q3,h1⟩:=h1.first
   obtain⟨u4,q4,h1⟩:=h1.first
   obtain⟨u5,q5,h1⟩:=h1.first
   refine WP.pre (s':=(b2,.r false [[.bool false]] 1)::(D,.ob .deferred)::(lb,.gone)::(bn,.r false [[iv (.ofNat 3)]] 1)::(br,.r false [[iv (.ofNat a)]] 1)::(b3,.r false [[.iface tF (.ptr (some ⟨bf,0,0⟩))]] 1)::u5) (perm_ct fun c w h0 h1 h2 hq=>by simp only [h2,hq _ _ q1,hq _ _ q2,hq _ _ q3,hq _ _ q4,hq _ _ q5];omega) ?_
   refine WP.seq (WP.ops (WO.w (WS.store rfl rfl rfl .here rfl rfl (WO.nil (WP.ret ⟨[D],(b2,.r false [[.bool true]] 1)::(lb,.gone)::(bn,.r false [[iv (.ofNat 3)]] 1)::(br,.r false [[iv (.ofNat a)]] 1)::(b3,.r false [[.iface tF (.ptr (some ⟨bf,0,0⟩))]] 1)::u5,rfl,List.Perm.swap ..,_,.cell rfl ht4.1 ht4.2 (.inr rfl) (.there .here) rfl rfl rfl .nil,?_⟩)))))
   refine⟨?_,h2,EL',by omega,LogH.junk (m:=[_,_,_,_,_,_]) h1⟩
   show AV.bool true=_
   rw [decide_eq_false hpos]
   rfl
end
end Go.Ev
namespace Go.Ev
def cc2 (x:ID):Int × Int:=(x.ctrl,x.card)
theorem fold_st:∀ (own:List ID) (d:SD),(own.foldl mvI d).st.map cc2=d.st.map cc2++own.map cc2:=by
 intro own
 induction own with
 | nil=>intro d;simp
 | cons x own ih=>
  intro d
  rw [List.foldl_cons,ih]
  show (d.st++[_]).map cc2++own.map cc2=_
  rw [List.map_append,List.append_assoc]
  rfl
theorem fold_wa:∀ (own:List ID) (d:SD),(own.foldl mvI d).wa=d.wa.filter fun y=>own.all fun x=>!decide (y.id=x.id):=by
 intro own
 induction own with
 | nil=>intro d;exact(List.filter_eq_self.2 (fun _ _=>rfl)).symm
 | cons x own ih=>
  intro d
  rw [List.foldl_cons,ih]
  show (d.wa.filter fun y=>!decide (y.id=x.id)).filter _=_
  rw [List.filter_filter]
  apply List.filter_congr
  intro y _
  rw [List.all_cons,Bool.and_comm]
theorem nodup_id {l:List ID} (h:(l.map ID.id).Nodup) {x y:ID} (hx:x∈l) (hy:y∈l) (e:x.id=y.id):x=y:=by
 induction l with
 | nil=>cases hx
 | cons a l ih=>
  rw [List.map_cons,List.nodup_cons] at h
  cases hx with
  | head=>
   cases hy with
   | head=>rfl
   | tail _ hy=>exact absurd (e ▸ List.mem_map_of_mem hy) h.1
  | tail _ hx=>
   cases hy with
   | head=>exact absurd (e ▸ List.mem_map_of_mem hx) h.1
   | tail _ hy=>exact ih h.2 hx hy
theorem putP_wa {d:SD} (h:(d.wa.map ID.id).Nodup) (p:Int):(putP d p).wa=d.wa.filter fun y=>!decide (y.ctrl=p):=by
 unfold putP
 rw [fold_wa]
 apply List.filter_congr
 intro y hy
 by_cases hc:y.ctrl=p
 ·have h1:y∈d.wa.filter fun x=>decide (x.ctrl=p):=List.mem_filter.2 ⟨hy,by simp [hc]⟩
  have h2:((d.wa.filter fun x=>decide (x.ctrl=p)).all fun x=>!decide (y.id=x.id))=false:=by
   rw [List.all_eq_false]
   exact⟨y,h1,by simp⟩
  rw [h2];simp [hc]
 ·have h2:((d.wa.filter fun x=>decide (x.ctrl=p)).all fun x=>!decide (y.id=x.id))=true:=by
   rw [List.all_eq_true]
   intro x hx
   obtain⟨hx1,hx2⟩:=List.mem_filter.1 hx
   have hx2:x.ctrl=p:=of_decide_eq_true hx2
   have:y.id≠x.id:=fun e=>hc (by rw [nodup_id h hy hx1 e];exact hx2)
   simp [this]
  rw [h2];simp [hc]
theorem putP_st {d:SD} (p:Int):(putP d p).st.map cc2=d.st.map cc2++(d.wa.filter fun y=>decide (y.ctrl=p)).map cc2:=fold_st _ _
def key (c:Int) (a:Nat):Nat:=((c - a+3) % 3).toNat
def Rk (a:Nat) (u v:Int × Int):Prop:=key u.1 a < key v.1 a∨(key u.1 a=key v.1 a∧u.2 < v.2)
theorem put_plain {d:SD} {a:Nat} (ha:a < 3) (hst:d.st=[]) (hnd:(d.wa.map ID.id).Nodup) (hc:∀ x∈d.wa,0≤x.ctrl∧x.ctrl≤2) (ho:d.wa.Pairwise fun x y=>x.card < y.card) :
  (putN d a 3).wa=[]∧((putN d a 3).st.map cc2).Pairwise (Rk a)∧∀ u∈(putN d a 3).st.map cc2,0≤u.1∧u.1≤2:=by
 have w1:(putN d a 1).wa=d.wa.filter fun y=>!decide (y.ctrl=.ofNat ((a+0) % 3)):=putP_wa hnd _
 have n1:((putN d a 1).wa.map ID.id).Nodup:=by rw [w1];exact List.Nodup.sublist (List.Sublist.map _ List.filter_sublist) hnd
 have w2:(putN d a 2).wa=(putN d a 1).wa.filter fun y=>!decide (y.ctrl=.ofNat ((a+1) % 3)):=putP_wa n1 _
 have n2:((putN d a 2).wa.map ID.id).Nodup:=by rw [w2];exact List.Nodup.sublist (List.Sublist.map _ List.filter_sublist) n1
 have w3:(putN d a 3).wa=(putN d a 2).wa.filter fun y=>!decide (y.ctrl=.ofNat ((a+2) % 3)):=putP_wa n2 _
 have s1:(putN d a 1).st.map cc2=d.st.map cc2++(d.wa.filter fun y=>decide (y.ctrl=.ofNat ((a+0) % 3))).map cc2:=putP_st _
 have s2:(putN d a 2).st.map cc2=(putN d a 1).st.map cc2++((putN d a 1).wa.filter fun y=>decide (y.ctrl=.ofNat ((a+1) % 3))).map cc2:=putP_st _
 have s3:(putN d a 3).st.map cc2=(putN d a 2).st.map cc2++((putN d a 2).wa.filter fun y=>decide (y.ctrl=.ofNat ((a+2) % 3))).map cc2:=putP_st _
 have part:∀ (W:List ID) (p:Int),W.Sublist d.wa->((W.filter fun y=>decide (y.ctrl=p)).map cc2).Pairwise (Rk a)∧∀ u∈(W.filter fun y=>decide (y.ctrl=p)).map cc2,u.1=p∧0≤u.1∧u.1≤2:=by
  intro W p hW
  have hmem:∀ u∈(W.filter fun y=>decide (y.ctrl=p)).map cc2,u.1=p∧0≤u.1∧u.1≤2:=by
   intro u hu
   obtain⟨x,hx,rfl⟩:=List.mem_map.1 hu
   obtain⟨hx1,hx2⟩:=List.mem_filter.1 hx
   exact⟨of_decide_eq_true hx2,hc x (hW.subset hx1)⟩
  refine⟨?_,hmem⟩
  rw [List.pairwise_map]
  have h1:(W.filter fun y=>decide (y.ctrl=p)).Pairwise fun x y=>x.card < y.card:=ho.sublist (List.filter_sublist.trans hW)
  refine List.Pairwise.imp_of_mem (fun {x y} hx hy hxy=>?_) h1
  have e1:x.ctrl=p:=of_decide_eq_true (List.mem_filter.1 hx).2
  have e2:y.ctrl=p:=of_decide_eq_true (List.mem_filter.1 hy).2
  refine .inr ⟨?_,hxy⟩
  show key x.ctrl a=key y.ctrl a
  rw [e1,e2]
 have l1:(putN d a 1).wa.Sublist d.wa:=by rw [w1];exact List.filter_sublist
 have l2:(putN d a 2).wa.Sublist d.wa:=by rw [w2];exact List.filter_sublist.trans l1
 obtain⟨p1,q1⟩:=part d.wa (.ofNat ((a+0) % 3)) (List.Sublist.refl _)
 obtain⟨p2,q2⟩:=part _ (.ofNat ((a+1) % 3)) l1
 obtain⟨p3,q3⟩:=part _ (.ofNat ((a+2) % 3)) l2
 rw [hst,List.map_nil,List.nil_append] at s1
 have k0:key (.ofNat ((a+0) % 3)) a=0:=by
  show ((((((a+0) % 3:Nat):Int)) - (a:Int)+3) % 3).toNat=0
  omega
 have k1:key (.ofNat ((a+1) % 3)) a=1:=by
  show ((((((a+1) % 3:Nat):Int)) - (a:Int)+3) % 3).toNat=1
  omega
 have k2:key (.ofNat ((a+2) % 3)) a=2:=by
  show ((((((a+2) % 3:Nat):Int)) - (a:Int)+3) % 3).toNat=2
  omega
 refine⟨?_,?_,?_⟩
 ·rw [w3,w2,w1]
  apply List.eq_nil_iff_forall_not_mem.2
  intro x hx
  obtain⟨hx,h3⟩:=List.mem_filter.1 hx
  obtain⟨hx,h2⟩:=List.mem_filter.1 hx
  obtain⟨hx,h1⟩:=List.mem_filter.1 hx
  have:=hc x hx
  simp only [Bool.not_eq_true',decide_eq_false_iff_not] at h1 h2 h3
  have h1:¬ x.ctrl=(((a+0) % 3:Nat):Int):=h1
  have h2:¬ x.ctrl=(((a+1) % 3:Nat):Int):=h2
  have h3:¬ x.ctrl=(((a+2) % 3:Nat):Int):=h3
  omega
 ·rw [s3,s2,s1]
  refine List.pairwise_append.2 ⟨List.pairwise_append.2 ⟨p1,p2,fun u hu v hv=>.inl ?_⟩,p3,fun u hu v hv=>.inl ?_⟩
  ·rw [(q1 u hu).1,(q2 v hv).1,k0,k1];omega
  ·rw [(q3 v hv).1,k2]
   rcases List.mem_append.1 hu with hu|hu
   ·rw [(q1 u hu).1,k0];omega
   ·rw [(q2 u hu).1,k1];omega
 ·rw [s3,s2,s1]
  intro u hu
  rcases List.mem_append.1 hu with hu|hu
  ·rcases List.mem_append.1 hu with hu | hu
   ·exact(q1 u hu).2
   ·exact(q2 u hu).2
  ·exact(q3 u hu).2
theorem put_len {d:SD} {a:Nat} (ha:a < 3) (hst:d.st=[]) (hnd:(d.wa.map ID.id).Nodup) (hc:∀ x∈d.wa,0≤x.ctrl∧x.ctrl≤2):(putN d a 3).st.length=d.wa.length:=by
 have w1:(putN d a 1).wa=d.wa.filter fun y=>!decide (y.ctrl=.ofNat ((a+0) % 3)):=putP_wa hnd _
 have n1:((putN d a 1).wa.map ID.id).Nodup:=by rw [w1];exact List.Nodup.sublist (List.Sublist.map _ List.filter_sublist) hnd
 have w2:(putN d a 2).wa=(putN d a 1).wa.filter fun y=>!decide (y.ctrl=.ofNat ((a+1) % 3)):=putP_wa n1 _
 have t1:(putN d a 1).st.length=d.st.length+(d.wa.filter fun y=>decide (y.ctrl=.ofNat ((a+0) % 3))).length:=foldl_len _ _
 have t2:(putN d a 2).st.length=(putN d a 1).st.length+((putN d a 1).wa.filter fun y=>decide (y.ctrl=.ofNat ((a+1) % 3))).length:=foldl_len _ _
 have t3:(putN d a 3).st.length=(putN d a 2).st.length+((putN d a 2).wa.filter fun y=>decide (y.ctrl=.ofNat ((a+2) % 3))).length:=foldl_len _ _
 have cnt:∀ (W:List ID) (q:ID->Bool),W.length=(W.filter q).length+(W.filter fun y=>!q y).length:=fun W q=>by
  induction W with
  | nil=>rfl
  | cons x W ih=>
   rw [List.filter_cons,List.filter_cons]
   cases q x <;> simp only [Bool.not_true,Bool.not_false,if_true,if_false,Bool.false_eq_true,List.length_cons] <;> omega
 have c1:d.wa.length=(d.wa.filter fun y=>decide (y.ctrl=.ofNat ((a+0) % 3))).length+(putN d a 1).wa.length:=by rw [w1];exact cnt d.wa _
 have c2:(putN d a 1).wa.length=((putN d a 1).wa.filter fun y=>decide (y.ctrl=.ofNat ((a+1) % 3))).length+(putN d a 2).wa.length:=by rw [w2];exact cnt _ _
 have c3:((putN d a 2).wa.filter fun y=>decide (y.ctrl=.ofNat ((a+2) % 3)))=(putN d a 2).wa:=by
  rw [List.filter_eq_self]
  intro x hx
  rw [w2,w1] at hx
  obtain⟨hx,h2⟩:=List.mem_filter.1 hx
  obtain⟨hx,h1⟩:=List.mem_filter.1 hx
  have:=hc x hx
  simp only [Bool.not_eq_true',decide_eq_false_iff_not] at h1 h2
  rw [decide_eq_true_iff]
  have h1:¬ x.ctrl=(((a+0) % 3:Nat):Int):=h1
  have h2:¬ x.ctrl=(((a+1) % 3:Nat):Int):=h2
  show x.ctrl=(((a+2) % 3:Nat):Int)
  omega
 rw [c3] at t3
 rw [hst,List.length_nil] at t1
 omega
end Go.Ev
namespace Go.Ev
section
variable {P:Program} {K:Orc} {rd:Option Nat} {nt:Nat} {l:Sl} {ds:List ADef} {s:SH} {Q Qn Qr:Po} {Qe:Nat->Po} {F:Nat->FuncId} {T:Nat->TypeId}
def a4C:AC:=(.seq (.seq (.ops [⟨(some 62),(.mv (.tmp 10)),none⟩,⟨(some 63),(.mv (.tmp 7)),none⟩,⟨(some 64),(.arith .lss (.tmp 62) (.tmp 63)),none⟩]) (.cond (.tmp 64) .skip (.exit 2))) (.seq (.block 3 (.seq (.drawn 0 [⟨⟨(some 67),(.mv (.tmp 9)),none⟩,.pure,0,0,0⟩,⟨⟨(some 68),(.mv (.tmp 10)),none⟩,.pure,0,0,0⟩,⟨⟨(some 69),(.arith .sub (.tmp 68) (.const (.int .i64 (.ofNat 1)))),none⟩,.pure,0,0,2⟩,⟨⟨(some 70),(.iaddrS 7 (.tmp 67) (.tmp 69)),none⟩,.pure,0,0,7⟩,⟨⟨(some 71),(.faddr 2 (.tmp 70)),none⟩,.pure,0,0,15⟩,⟨⟨(some 72),(.load false 1 (.tmp 71)),none⟩,.read,0,0,31⟩,⟨⟨(some 73),(.mv (.tmp 6)),none⟩,.pure,0,0,0⟩,⟨⟨(some 74),(.arith .sub (.tmp 72) (.tmp 73)),none⟩,.pure,0,0,127⟩,⟨⟨(some 75),(.arith .add (.tmp 74) (.const (.int .i64 (.ofNat 3)))),none⟩,.pure,0,0,255⟩,⟨⟨(some 76),(.arith .rem (.tmp 75) (.const (.int .i64 (.ofNat 3)))),none⟩,.pure,0,0,511⟩,⟨⟨(some 77),(.mv (.tmp 9)),none⟩,.pure,0,0,0⟩,⟨⟨(some 78),(.mv (.tmp 10)),none⟩,.pure,0,0,0⟩,⟨⟨(some 79),(.iaddrS 7 (.tmp 77) (.tmp 78)),none⟩,.pure,0,0,3072⟩,⟨⟨(some 80),(.faddr 2 (.tmp 79)),none⟩,.pure,0,0,7168⟩,⟨⟨(some 81),(.load false 1 (.tmp 80)),none⟩,.read,0,0,15360⟩,⟨⟨(some 82),(.mv (.tmp 6)),none⟩,.pure,0,0,0⟩,⟨⟨(some 83),(.arith .sub (.tmp 81) (.tmp 82)),none⟩,.pure,0,0,64512⟩,⟨⟨(some 84),(.arith .add (.tmp 83) (.const (.int .i64 (.ofNat 3)))),none⟩,.pure,0,0,130048⟩,⟨⟨(some 85),(.arith .rem (.tmp 84) (.const (.int .i64 (.ofNat 3)))),none⟩,.pure,0,0,261120⟩,⟨⟨(some 11),(.mv (.tmp 76)),none⟩,.pure,0,0,1023⟩,⟨⟨(some 12),(.mv (.tmp 85)),none⟩,.pure,0,0,1048575⟩]) (.seq (.drawn 0 [⟨⟨(some 86),(.mv (.tmp 11)),none⟩,.pure,0,0,0⟩,⟨⟨(some 87),(.mv (.tmp 12)),none⟩,.pure,0,0,0⟩,⟨⟨(some 88),(.arith .gtr (.tmp 86) (.tmp 87)),none⟩,.pure,0,0,3⟩,⟨⟨(some 89),(.mv (.tmp 88)),none⟩,.pure,0,0,7⟩,⟨⟨(some 90),(.mv (.tmp 11)),(some ⟨89,false⟩)⟩,.pure,0,0,15⟩,⟨⟨(some 91),(.mv (.tmp 12)),(some ⟨89,false⟩)⟩,.pure,0,0,15⟩,⟨⟨(some 92),(.eql false .pi (.tmp 90) (.tmp 91)),(some ⟨89,false⟩)⟩,.pure,0,0,63⟩,⟨⟨(some 93),(.mv (.tmp 92)),(some ⟨89,false⟩)⟩,.pure,0,0,127⟩,⟨⟨(some 94),(.mv (.tmp 9)),(some ⟨93,true⟩)⟩,.pure,0,0,255⟩,⟨⟨(some 95),(.mv (.tmp 10)),(some ⟨93,true⟩)⟩,.pure,0,0,255⟩,⟨⟨(some 96),(.arith .sub (.tmp 95) (.const (.int .i64 (.ofNat 1)))),(some ⟨93,true⟩)⟩,.pure,0,0,767⟩,⟨⟨(some 97),(.iaddrS 7 (.tmp 94) (.tmp 96)),(some ⟨93,true⟩)⟩,.pure,0,0,2047⟩,⟨⟨(some 98),(.faddr 4 (.tmp 97)),(some ⟨93,true⟩)⟩,.pure,0,0,4095⟩,⟨⟨(some 99),(.load false 1 (.tmp 98)),(some ⟨93,true⟩)⟩,.read,0,0,8191⟩,⟨⟨(some 100),(.mv (.tmp 9)),(some ⟨93,true⟩)⟩,.pure,0,0,255⟩,⟨⟨(some 101),(.mv (.tmp 10)),(some ⟨93,true⟩)⟩,.pure,0,0,255⟩,⟨⟨(some 102),(.iaddrS 7 (.tmp 100) (.tmp 101)),(some ⟨93,true⟩)⟩,.pure,0,0,49407⟩,⟨⟨(some 103),(.faddr 4 (.tmp 102)),(some ⟨93,true⟩)⟩,.pure,0,0,114943⟩,⟨⟨(some 104),(.load false 1 (.tmp 103)),(some ⟨93,true⟩)⟩,.read,0,0,246015⟩,⟨⟨(some 105),(.arith .geq (.tmp 99) (.tmp 104)),(some ⟨93,true⟩)⟩,.pure,0,0,524287⟩,⟨⟨(some 106),(.pick (.tmp 93) (.tmp 105) (.const (.bool false))),(some ⟨89,false⟩)⟩,.pure,0,0,1048575⟩,⟨⟨(some 107),(.pick (.tmp 89) (.const (.bool true)) (.tmp 106)),none⟩,.pure,0,0,2097151⟩]) (.cond (.tmp 107) (.seq (.ops [⟨(some 4),(.mv (.const (.bool false))),none⟩]) .ret) .skip)))) (.ops [⟨(some 65),(.mv (.tmp 10)),none⟩,⟨(some 66),(.arith .add (.tmp 65) (.const (.int .i64 (.ofNat 1)))),none⟩,⟨(some 10),(.mv (.tmp 66)),none⟩])))
@[reducible] def chkC (v:AV) (a n q:Nat):Sl:=[(6,iv (.ofNat a)),(7,iv (.ofNat n)),(9,v),(10,iv (.ofNat q))]
theorem key_ok {c:Int} (hc:0≤c∧c≤2) {a:Nat} (ha:a < 3):∃ u v,binV .sub (iv c) (iv (.ofNat a))=some u∧binV .add u (iv 3)=some v∧binV .rem v (iv 3)=some (iv (.ofNat (key c a))):=by
 rcases(by omega:c=0∨c=1∨c=2) with rfl|rfl|rfl <;> rcases(by omega:a=0∨a=1∨a=2) with rfl|rfl|rfl <;> exact⟨_,_,rfl,rfl,rfl⟩
theorem gtr_ge {a b:Nat} (h:a≤b):binV .gtr (iv (.ofNat a)) (iv (.ofNat b))=some (.bool false):=by
 show some (AV.bool (ilt (.ofNat b) (.ofNat a)))=_
 rw [ilt_blt,blt_nif.2 (by omega)]
theorem sub1 {p:Nat} (h:p≤1000):binV .sub (iv (.ofNat (p+1))) (iv (.ofNat 1))=some (iv (.ofNat p)):=by
 have:=sub_i (n:=((p+1:Nat):Int)) (by omega) (by omega)
 rw [show (((p+1:Nat):Int) - 1)=((p:Nat):Int) from by omega] at this
 exact this
theorem Src.atAll {sz:Nat} {v:AV} {L:List (List AV)} (h:Src s sz v L) (hne:0 < L.length):∃ b r n c sl ro M,v=.slice (some ⟨b,r,0⟩) n c sl sz∧Has b (.r ro M sz) s∧L.length≤n∧∀ i,i < L.length->M[r+i]?=L[i]?:=by
 cases h with
 | nil=>exact absurd hne (Nat.lt_irrefl _)
 | zero=>exact absurd hne (Nat.lt_irrefl _)
 | emp=>exact absurd hne (Nat.lt_irrefl _)
 | @rows b r n c sl ro M hb hn=>
  refine⟨b,r,n,c,sl,ro,M,rfl,hb,by rw [List.length_take];omega,fun i hi=>?_⟩
  have hi2:i < n:=by rw [List.length_take] at hi;omega
  rw [List.getElem?_take,if_pos hi2,List.getElem?_drop]
theorem check_ok {v:AV} {L:List ID} {a:Nat} (ha:a < 3) (hv:Src s 7 v (idR L)) (hp:(L.map cc2).Pairwise (Rk a)) (hc:∀ x∈L,0≤x.ctrl∧x.ctrl≤2) (hn:L.length≤8) (hl:∀ j w,lk (chkC v a L.length 1) j=some w->lk l j=some w)
  (hQ:∀ l',Qn l' [] s):WP P K rd 108 (.block 2 (.loop a4C)) l [] s Qn Qe Qr:=by
 refine WP.block ?_
 refine WP.loop (fun k l ds s'=>ds=[]∧s'=s∧∃ p,k=100 - p∧p≤9∧∀ j w,lk (chkC v a L.length (p+1)) j=some w->lk l j=some w) ?_ (n:=100 - 0) ⟨rfl,rfl,0,rfl,by omega,hl⟩
 rintro k l ds s' ⟨rfl,rfl,p,rfl,hp9,hl⟩
 refine WP.weak hl (fun _ _ h=>h) ?_
 unfold a4C
 refine WP.seq (WP.seq (WP.ops (WO.r (.mv rfl) (WO.r (.mv rfl) (WO.r (.arith rfl rfl rfl) (WO.nil (WP.cond rfl (fun ht=>WP.skip ?_) (fun ht=>?_))))))))
 ·have hlt:p+1 < L.length:=blt_iff.1 ht
  obtain⟨b,r,no,c,so,ro,M,rfl,hb,hno,hM⟩:=hv.atAll (by simp only [idR,List.length_map];omega)
  have hle:(idR L).length=L.length:=by simp [idR]
  have r1:M[r+p]?=some (L[p]).row:=by rw [hM p (by omega),idR,List.getElem?_map,List.getElem?_eq_getElem (by omega)];rfl
  have r2:M[r+(p+1)]?=some (L[p+1]).row:=by rw [hM (p+1) (by omega),idR,List.getElem?_map,List.getElem?_eq_getElem hlt];rfl
  have hR:Rk a (cc2 L[p]) (cc2 L[p+1]):=by
   have:=List.pairwise_iff_getElem.1 hp p (p+1) (by rw [List.length_map];omega) (by rw [List.length_map];omega) (by omega)
   simpa only [List.getElem_map] using this
  have c1:=hc L[p] (List.getElem_mem _)
  have c2:=hc L[p+1] (List.getElem_mem _)
  generalize L[p]=x at *
  generalize L[p+1]=y at *
  obtain⟨u1,v1,a1,a2,a3⟩:=key_ok c1 ha
  obtain⟨u2,v2,b1,b2,b3⟩:=key_ok c2 ha
  refine WP.seq (WP.block (WP.seq (WP.drawn0 ?_)))
  refine WD.pu (.mv rfl) (WD.pu (.mv rfl) (WD.pu (.arith rfl rfl (sub1 (by omega))) (WD.pu (.iaddrS rfl rfl (by omega) (by omega)) (WD.pu (.faddr rfl) (WD.ld rfl .nil (.load rfl hb r1 rfl rfl) (WD.pu (.mv rfl) (WD.pu (.arith rfl rfl a1) (WD.pu (.arith rfl rfl a2) (WD.pu (.arith rfl rfl a3) ?_)))))))))
  refine WD.pu (.mv rfl) (WD.pu (.mv rfl) (WD.pu (.iaddrS rfl rfl (by omega) (by omega)) (WD.pu (.faddr rfl) (WD.ld rfl .nil (.load rfl hb r2 rfl rfl) (WD.pu (.mv rfl) (WD.pu (.arith rfl rfl b1) (WD.pu (.arith rfl rfl b2) (WD.pu (.arith rfl rfl b3) (WD.pu (.mv rfl) (WD.pu (.mv rfl) (WD.nil .nil ?_ (fun o h=>nomatch h))))))))))))
  have hkk:key x.ctrl a≤key y.ctrl a:=by
   rcases hR with h|⟨h,_⟩
   ·exact Nat.le_of_lt h
   ·exact Nat.le_of_eq h
  have fin:∀ {l2:Sl},(∀ j w,lk (chkC (.slice (some ⟨b,r,0⟩) no c so 7) a L.length (p+1)) j=some w->lk l2 j=some w)->lk l2 107=some (.bool false)->WP P K rd 108 (.cond (.tmp 107) (.seq (.ops [⟨(some 4),(.mv (.const (.bool false))),none⟩]) .ret) .skip) l2 [] s' (fun l ds s=>WP P K rd 108 (.ops [⟨(some 65),(.mv (.tmp 10)),none⟩,⟨(some 66),(.arith .add (.tmp 65) (.const (.int .i64 (.ofNat 1)))),none⟩,⟨(some 10),(.mv (.tmp 66)),none⟩]) l ds s (fun l ds s=>∃ m,m < 100 - p∧ds=[]∧s=s'∧∃ p,m=100 - p∧p≤9∧∀ j w,lk (chkC (.slice (some ⟨b,r,0⟩) no c so 7) a L.length (p+1)) j=some w->lk l j=some w) (fun i l ds s=>match Nat.beq i 2 with | true=>Qn l ds s | false=>Qe i l ds s) Qr) (fun i l ds s=>match Nat.beq i 3 with | true=>WP P K rd 108 (.ops [⟨(some 65),(.mv (.tmp 10)),none⟩,⟨(some 66),(.arith .add (.tmp 65) (.const (.int .i64 (.ofNat 1)))),none⟩,⟨(some 10),(.mv (.tmp 66)),none⟩]) l ds s (fun l ds s=>∃ m,m < 100 - p∧ds=[]∧s=s'∧∃ p,m=100 - p∧p≤9∧∀ j w,lk (chkC (.slice (some ⟨b,r,0⟩) no c so 7) a L.length (p+1)) j=some w->lk l j=some w) (fun i l ds s=>match Nat.beq i 2 with | true=>Qn l ds s | false=>Qe i l ds s) Qr | false=>(match Nat.beq i 2 with | true=>Qn l ds s | false=>Qe i l ds s)) Qr:=by
   intro l2 h1 h2
   refine WP.cond h2 (fun h=>by cases h) (fun _=>WP.skip (WP.weak h1 (fun _ _ h=>h) ?_))
   refine WP.ops (WO.r (.mv rfl) (WO.r (.arith rfl rfl (add_n (by omega))) (WO.r (.mv rfl) (WO.nil ?_))))
   exact⟨100 - (p+1),by omega,rfl,rfl,p+1,rfl,by omega,sub_cons rfl (sub_cons rfl (sub_cons rfl (sub_cons rfl sub_nil)))⟩
  refine WP.seq (WP.drawn0 (WD.pu (.mv rfl) (WD.pu (.mv rfl) (WD.pu (.arith rfl rfl (gtr_ge hkk)) (WD.pu (.mv rfl) (WD.yes rfl rfl (WD.pu (.mv rfl) (WD.yes rfl rfl (WD.pu (.mv rfl) (WD.yes rfl rfl ?_))))))))))
  by_cases he:key x.ctrl a=key y.ctrl a
  ·have hcard:x.card < y.card:=by
    rcases hR with h|⟨_,h⟩
    ·exact absurd he (Nat.ne_of_lt h)
    ·exact h
   have heq:eqBy 20 .pi (iv (.ofNat (key x.ctrl a))) (iv (.ofNat (key y.ctrl a)))=some true:=by rw [eqB_i,he];simp
   refine WD.pu (.eql rfl rfl heq) (WD.yes rfl rfl (WD.pu (.mv rfl) (WD.yes rfl rfl (WD.pu (.mv rfl) (WD.yes rfl rfl (WD.pu (.mv rfl) (WD.yes rfl rfl (WD.pu (.arith rfl rfl (sub1 (by omega))) (WD.yes rfl rfl (WD.pu (.iaddrS rfl rfl (by omega) (by omega)) (WD.yes rfl rfl (WD.pu (.faddr rfl) (WD.yes rfl rfl (WD.ld rfl .nil (.load rfl hb r1 rfl rfl) ?_))))))))))))))
   refine WD.yes rfl rfl (WD.pu (.mv rfl) (WD.yes rfl rfl (WD.pu (.mv rfl) (WD.yes rfl rfl (WD.pu (.iaddrS rfl rfl (by omega) (by omega)) (WD.yes rfl rfl (WD.pu (.faddr rfl) (WD.yes rfl rfl (WD.ld rfl .nil (.load rfl hb r2 rfl rfl) (WD.yes rfl rfl (WD.pu (.arith rfl rfl (geq_lt hcard)) (WD.yes rfl rfl (WD.pu (.pick1 rfl rfl) (WD.pu (.pick0 rfl rfl) (WD.nil .nil ?_ (fun o h=>nomatch h))))))))))))))))
   exact fin (sub_cons rfl (sub_cons rfl (sub_cons rfl (sub_cons rfl sub_nil)))) rfl
  ·have heq:eqBy 20 .pi (iv (.ofNat (key x.ctrl a))) (iv (.ofNat (key y.ctrl a)))=some false:=by rw [eqB_i];simp only [decide_eq_false_iff_not,Option.some.injEq];intro h;exact he (Int.ofNat.inj h)
   refine WD.pu (.eql rfl rfl heq) (WD.yes rfl rfl (WD.pu (.mv rfl) (WD.skip rfl rfl rfl (WD.skip rfl rfl rfl (WD.skip rfl rfl rfl (WD.skip rfl rfl rfl (WD.skip rfl rfl rfl (WD.skip rfl rfl rfl (WD.skip rfl rfl rfl (WD.skip rfl rfl rfl (WD.skip rfl rfl rfl (WD.skip rfl rfl rfl (WD.skip rfl rfl rfl (WD.skip rfl rfl rfl (WD.yes rfl rfl (WD.pu (.pick0 rfl rfl) (WD.pu (.pick0 rfl rfl) (WD.nil .nil ?_ (fun o h=>nomatch h)))))))))))))))))))
   exact fin (sub_cons rfl (sub_cons rfl (sub_cons rfl (sub_cons rfl sub_nil)))) rfl
 ·exact WP.exit (hQ _)
end
end Go.Ev
namespace Go.Ev
section
variable {P:Program} {K:Orc} {rd:Option Nat} {nt:Nat} {l:Sl} {ds:List ADef} {s:SH} {Q Qn Qr:Po} {Qe:Nat->Po} {F:Nat->FuncId} {T:Nat->TypeId} {bf bl:Nat} {cards draws:AV} {c0 c2 c3 c4:Int} {EL:List (List AV)} {d:SD} {t:SH}
theorem WR.minmax {mx:Bool} {args:List Operand} {v r:AV} {vs:List AV} (ha:lmapO (opl l) args=some (v::vs)) (hv:lfold (mm mx) vs v=some r):WR P (.minmax mx args) l s r:=
 WR.mk' (fun _ _ _ _ _=>rfl) (fun e H he=>by simp only [aval,opls_ok he ha,hv])
def a4W (F:Nat->FuncId):AC:=(.seq (.seq (.ops [⟨(some 28),(.mv (.tmp 8)),none⟩,⟨(some 29),(.mv (.tmp 7)),none⟩,⟨(some 30),(.arith .lss (.tmp 28) (.tmp 29)),none⟩]) (.cond (.tmp 30) .skip (.exit 0))) (.seq (.block 1 (.ops [⟨(some 33),(.mv (.tmp 5)),none⟩,⟨(some 34),(.mv (.tmp 0)),none⟩,⟨(some 35),(.mv (.tmp 8)),none⟩,⟨(some 36),(.iaddrS 1 (.tmp 34) (.tmp 35)),none⟩,⟨(some 37),(.load false 1 (.tmp 36)),none⟩,⟨(some 38),(.arith .rem (.tmp 37) (.const (.int .u8 (.ofNat 3)))),none⟩,⟨(some 39),(.convI .i64 (.tmp 38)),none⟩,⟨(some 40),(.mv (.tmp 8)),none⟩,⟨(some 41),(.build zItem [⟨1,⟨1,(.const (.int .i64 (.ofNat 3)))⟩⟩,⟨2,⟨1,(.tmp 39)⟩⟩,⟨4,⟨1,(.tmp 40)⟩⟩]),none⟩,⟨(some 42),(.build zEvent [⟨0,⟨1,(.const (.int .i64 (.ofNat 17)))⟩⟩,⟨6,⟨7,(.tmp 41)⟩⟩]),none⟩,⟨(some 43),(.call (.func (F 15)) [(.tmp 33),(.tmp 42)]),none⟩])) (.ops [⟨(some 31),(.mv (.tmp 8)),none⟩,⟨(some 32),(.arith .add (.tmp 31) (.const (.int .i64 (.ofNat 1)))),none⟩,⟨(some 8),(.mv (.tmp 32)),none⟩])))
def a4Z (F:Nat->FuncId) (T:Nat->TypeId):AC:=(.seq (.ops [⟨(some 18),(.mv (.tmp 1)),none⟩,⟨(some 19),(.arith .rem (.tmp 18) (.const (.int .u8 (.ofNat 3)))),none⟩,⟨(some 20),(.convI .i64 (.tmp 19)),none⟩,⟨(some 6),(.mv (.tmp 20)),none⟩]) (.seq (.ops [⟨(some 21),(.mv (.tmp 5)),none⟩,⟨(some 22),(.mv (.tmp 6)),none⟩,⟨(some 23),(.build zEvent [⟨0,⟨1,(.const (.int .i64 (.ofNat 20)))⟩⟩,⟨1,⟨1,(.tmp 22)⟩⟩]),none⟩,⟨(some 24),(.call (.func (F 15)) [(.tmp 21),(.tmp 23)]),none⟩]) (.seq (.ops [⟨(some 25),(.mv (.tmp 0)),none⟩,⟨(some 26),(.lenS (.tmp 25)),none⟩,⟨(some 27),(.minmax false [(.tmp 26),(.const (.int .i64 (.ofNat 8)))]),none⟩,⟨(some 7),(.mv (.tmp 27)),none⟩]) (.seq (.seq (.ops [⟨(some 8),(.mv (.const (.int .i64 (.ofNat 0)))),none⟩]) (.block 0 (.loop (a4W F)))) (.seq (.seq (.ops [⟨(some 44),(.mv (.tmp 5)),none⟩,⟨(some 45),(.mkif (T 26) (.tmp 44)),none⟩,⟨(some 46),(.call (.func (F 19)) [(.tmp 45)]),none⟩,⟨(some 47),(.mv (.tmp 7)),none⟩,⟨(some 48),(.arith .gtr (.tmp 47) (.const (.int .i64 (.ofNat 0)))),none⟩,⟨(some 49),(.eql true .pb (.tmp 46) (.tmp 48)),none⟩,⟨(some 50),(.mv (.tmp 49)),none⟩,⟨(some 51),(.mv (.tmp 5)),(some ⟨50,false⟩)⟩,⟨(some 52),(.call (.func (F 20)) [(.tmp 51)]),(some ⟨50,false⟩)⟩,⟨(some 53),(.lenS (.tmp 52)),(some ⟨50,false⟩)⟩,⟨(some 54),(.eql true .pi (.tmp 53) (.const (.int .i64 (.ofNat 0)))),(some ⟨50,false⟩)⟩,⟨(some 55),(.pick (.tmp 50) (.const (.bool true)) (.tmp 54)),none⟩]) (.cond (.tmp 55) (.seq (.ops [⟨(some 4),(.mv (.const (.bool false))),none⟩]) .ret) .skip)) (.seq (.ops [⟨(some 56),(.mv (.tmp 5)),none⟩,⟨(some 57),(.call (.func (F 21)) [(.tmp 56)]),none⟩,⟨(some 9),(.mv (.tmp 57)),none⟩]) (.seq (.seq (.ops [⟨(some 58),(.mv (.tmp 9)),none⟩,⟨(some 59),(.lenS (.tmp 58)),none⟩,⟨(some 60),(.mv (.tmp 7)),none⟩,⟨(some 61),(.eql true .pi (.tmp 59) (.tmp 60)),none⟩]) (.cond (.tmp 61) (.seq (.ops [⟨(some 4),(.mv (.const (.bool false))),none⟩]) .ret) .skip)) (.seq (.seq (.ops [⟨(some 10),(.mv (.const (.int .i64 (.ofNat 1)))),none⟩]) (.block 2 (.loop a4C))) (.seq (.ops [⟨(some 4),(.mv (.const (.bool true))),none⟩]) .ret)))))))))
def itm (cb:Nat->Nat) (nx:Int) (j:Nat):ID:=⟨nx+j,3,.ofNat (cb j),0,.ofNat j,0⟩
def dW (cb:Nat->Nat) (d:SD) (q:Nat):SD:={ d with wa:=(List.range q).map (itm cb d.nx),nx:=d.nx+q }
theorem dW_succ (cb:Nat->Nat) (d:SD) (q:Nat):dW cb d (q+1)={ dW cb d q with nx:=(dW cb d q).nx+1,wa:=(dW cb d q).wa++[{ (⟨0,3,.ofNat (cb q),0,.ofNat q,0⟩:ID) with id:=(dW cb d q).nx }] }:=by
 unfold dW
 rw [List.range_succ,List.map_append]
 have:d.nx+((q+1:Nat):Int)=d.nx+(q:Int)+1:=by omega
 rw [this]
 rfl
theorem dW_zero (cb:Nat->Nat) {d:SD} (h:d.wa=[]):dW cb d 0=d:=by
 unfold dW
 cases d
 simp only at h
 subst h
 simp
structure S0 (d:SD):Prop where
 pl:d.pl.length=3
 ev:d.Even
 ob:d.ob.length≤100
 fi:d.fi.length≤100
 ls:∀ LL,(LL=d.lb∨LL=d.hd∨LL=d.gr∨LL=d.ex)->LL.length≤1000∧∀ lst∈LL,lst.length≤1000
 wa:d.wa=[]
 st:d.st=[]
 nx:1≤d.nx∧d.nx≤500
 oc:d.oc=0
theorem dW_inv {cb:Nat->Nat} (hcb:∀ j,cb j≤2) {d:SD} (h:S0 d) {q:Nat} (hq:q≤8):SBI (dW cb d q):=by
 have hnx:=h.nx
 refine⟨h.pl,⟨h.ev.lb,h.ev.hd,h.ev.gr,h.ev.ex⟩,h.ob,h.fi,h.ls,?_,?_,?_,?_,h.oc⟩
 ·intro x hx
  obtain⟨j,hj,rfl⟩:=List.mem_map.1 hx
  have hj:j < q:=List.mem_range.1 hj
  have:=hcb j
  refine⟨rfl,rfl,rfl,⟨?_,?_⟩,⟨?_,?_⟩,⟨?_,?_⟩⟩
  ·show (0:Int)≤((cb j:Nat):Int);omega
  ·show ((cb j:Nat):Int)≤2;omega
  ·show (0:Int)≤((j:Nat):Int);omega
  ·show ((j:Nat):Int)≤7;omega
  ·show 1≤d.nx+(j:Int);omega
  ·show d.nx+(j:Int) < d.nx+(q:Int);omega
 ·show (((List.range q).map (itm cb d.nx)).map ID.id).Nodup
  rw [List.map_map]
  exact List.Pairwise.map _ (fun a b hab=>by show d.nx+(a:Int)≠d.nx+(b:Int);omega) List.nodup_range
 ·show d.st.length+((List.range q).map (itm cb d.nx)).length≤8
  rw [h.st,List.length_map,List.length_range,List.length_nil];omega
 ·refine⟨by show 1≤d.nx+(q:Int);omega,?_⟩
  show d.nx+(q:Int)+(((List.range q).map (itm cb d.nx)).length:Int)≤900
  rw [List.length_map,List.length_range];omega
@[reducible] def wtC (lv:AV) (bf a n q:Nat):Sl:=[(0,lv),(5,.ptr (some ⟨bf,0,0⟩)),(6,iv (.ofNat a)),(7,iv (.ofNat n)),(8,iv (.ofNat q))]
theorem wait_ok (hB:Base P K F T) (hI:BaseI P K F T) (hc:SaysS P K F) {lv:AV} {L:List (List AV)} {a n:Nat} {cb:Nat->Nat} (hcb:∀ j,cb j≤2) (hL:Byts t lv L) (hcL:∀ j,j < n->∃ x:Nat,x≤255∧L[j]?=some [.int .u8 (.ofNat x)]∧x % 3=cb j) (hn:n≤8) (hnL:n≤L.length)
  (hs:LogH bl EL d t s) (hd:S0 d) (hf:Has bf (.r false [foldRow bl cards c0 8 c2 c3 c4 draws] 8) t) (hE:EL.length≤100) (hl:∀ j w,lk (wtC lv bf a n 0) j=some w->lk l j=some w)
  (hQ:∀ (EL':List (List AV)) (s':SH) (l':Sl),LogH bl EL' (dW cb d n) t s'->EL'.length≤120->(∀ j w,lk (wtC lv bf a n n) j=some w->lk l' j=some w)->Qn l' [] s'):WP P K rd 108 (.block 0 (.loop (a4W F))) l [] s Qn Qe Qr:=by
 refine WP.block ?_
 refine WP.loop (fun k l ds s'=>ds=[]∧∃ q EL',k=n - q∧q≤n∧LogH bl EL' (dW cb d q) t s'∧EL'.length=EL.length+q∧∀ j w,lk (wtC lv bf a n q) j=some w->lk l j=some w) ?_ (n:=n - 0) ⟨rfl,0,EL,rfl,Nat.zero_le _,by rw [dW_zero cb hd.wa];exact hs,rfl,hl⟩
 rintro k l ds s' ⟨rfl,q,EL',rfl,hq,hLg,hEL,hl⟩
 refine WP.weak hl (fun _ _ h=>h) ?_
 unfold a4W
 refine WP.seq (WP.seq (WP.ops (WO.r (.mv rfl) (WO.r (.mv rfl) (WO.r (.arith rfl rfl rfl) (WO.nil (WP.cond rfl (fun ht=>WP.skip ?_) (fun ht=>?_))))))))
 ·have hlt:q < n:=blt_iff.1 ht
  obtain⟨x,hx,hx2,hx3⟩:=hcL q hlt
  obtain⟨rb,cap,sl,rfl,hrb⟩:=hL.at' (by omega)
  have h39:mkI .i64 (.ofNat (cb q))=some (iv (.ofNat (cb q))):=mkI_n (by have:=hcb q;omega)
  have h38:binV .rem (.int .u8 (.ofNat x)) (.int .u8 (.ofNat 3))=some (.int .u8 (.ofNat (cb q))):=by rw [<- hx3];exact rem_i (by omega)
  have h1:=dW_inv hcb hd (q:=q) (by omega)
  have h2:=dW_inv hcb hd (q:=q+1) (by omega)
  have hn1:=h1.nx
  have hn2:=h2.nx
  have hcq:=hcb q
  have hap:Ap P K F 17 0 0 0 0 ⟨0,3,.ofNat (cb q),0,.ofNat q,0⟩ (dW cb d q) (dW cb d (q+1)):=by
   rw [dW_succ]
   exact apWait_ok hB hI h1.small h1.ev ⟨by omega,by omega⟩ (hc.cW _ _ ⟨by show (0:Int)≤((cb q:Nat):Int);omega,by show ((cb q:Nat):Int)≤2;omega⟩ ⟨by show (0:Int)≤((q:Nat):Int);omega,by show ((q:Nat):Int)≤7;omega⟩)
  refine WP.seq (WP.block (WP.ops (WO.r (.mv rfl) (WO.r (.mv rfl) (WO.r (.mv rfl) (WO.r (.iaddrS rfl rfl (by omega) (by omega)) (WO.r (.load rfl (hLg.mem hrb) (r:=0+q) (by rw [Nat.zero_add];exact hx2) rfl rfl) (WO.r (.arith rfl rfl h38) (WO.r (.convI rfl h39) (WO.r (.mv rfl) (WO.r (.build rfl rfl) (WO.r (.build rfl rfl) (WO.w (WS.callF (first:=[]) (vs:=[.ptr (some ⟨bf,0,0⟩),.agg (evRow 17 0 0 0 0 ⟨0,3,.ofNat (cb q),0,.ofNat q,0⟩)]) (cap:=[]) rfl rfl (doEvWait_ok hB hLg h1.small hf (by omega) hap h2.small ⟨by omega,by omega⟩) ?_))))))))))))))
  rintro w s3 ⟨rfl,hs3⟩
  refine WO.nil (WP.ops (WO.r (.mv rfl) (WO.r (.arith rfl rfl (add_n (by omega))) (WO.r (.mv rfl) (WO.nil ?_)))))
  refine⟨n - (q+1),by omega,rfl,q+1,_,rfl,hlt,hs3,by rw [List.length_append,List.length_singleton];omega,sub_cons rfl (sub_cons rfl (sub_cons rfl (sub_cons rfl (sub_cons rfl sub_nil))))⟩
 ·have:q=n:=by
   have:¬ q < n:=fun h=>by rw [ilt_blt,show Nat.blt q n=true from blt_iff.2 h] at ht;cases ht
   omega
  subst this
  exact WP.exit (hQ EL' s' _ hLg (by omega) (sub_cons rfl (sub_cons rfl (sub_cons rfl (sub_cons rfl (sub_cons rfl sub_nil))))))
theorem law4Z_ok (hB:Base P K F T) (hI:BaseI P K F T) (hG:BaseB P K F T) (hS:BaseS P K F T) (hT:BaseT P K F T) (ht24:Ty P (T 24) 5) (ht128:Ty P (T 128) 13) (ht4:isAggT P (T 4)=some false∧size? P (T 4)=some 1) (hM:BMeth P F (T 26)) (hc:SaysS P K F)
  {lv:AV} {L:List (List AV)} {x:Nat} (hx:x≤255) (hL:Byts t lv L) (hs:LogH bl EL d t s) (hd:S0 d) (htu:0≤d.tu∧d.tu≤1000) (hf:Has bf (.r false [foldRow bl cards c0 8 c2 c3 c4 draws] 8) t) (hE:EL.length≤50)
  (e0:lk l 0=some lv) (e1:lk l 1=some (.int .u8 (.ofNat x))) (e5:lk l 5=some (.ptr (some ⟨bf,0,0⟩))):WP P K none 108 (a4Z F T) l [] s NoQ (fun _=>NoQ) (RestR t):=by
 unfold a4Z
 have ha3:x % 3 < 3:=Nat.mod_lt _ (by omega)
 generalize hxa:x % 3=a at ha3
 have h19:binV .rem (.int .u8 (.ofNat x)) (.int .u8 (.ofNat 3))=some (.int .u8 (.ofNat a)):=by rw [<- hxa];exact rem_i (by omega)
 have h20:mkI .i64 (.ofNat a)=some (iv (.ofNat a)):=mkI_n (by omega)
 refine WP.seq (WP.ops (WO.r (.mv e1) (WO.r (.arith rfl rfl h19) (WO.r (.convI rfl h20) (WO.r (.mv rfl) (WO.nil ?_))))))
 have hsm:d.Small:=⟨⟨by rw [hd.pl];omega,by have:=hd.ob;omega,by have:=hd.fi;omega,by rw [hd.st];simp,by rw [hd.wa];simp⟩,hd.ls⟩
 have hapT:Ap P K F 20 (.ofNat a) 0 0 0 it0 d { d with tu:=d.tu+1,ac:=.ofNat a }:=apTurn_ok hB hT.f271 hsm hd.ev (by rw [hd.pl];exact ha3) ⟨htu.1,by omega⟩ (hc.cT a ha3)
 refine WP.seq (WP.ops (WO.r (.mv e5) (WO.r (.mv rfl) (WO.r (.build rfl rfl) (WO.w (WS.callF (first:=[]) (vs:=[.ptr (some ⟨bf,0,0⟩),.agg (evRow 20 (.ofNat a) 0 0 0 it0)]) (cap:=[]) rfl rfl (doEv0_ok hB hs hsm hf (by omega) (by omega) (by omega) (by omega) (by omega) hapT) ?_))))))
 rintro w s2 ⟨rfl,hs2⟩
 generalize hd2:({ d with tu:=d.tu+1,ac:=.ofNat a }:SD)=d2 at hs2
 have hS2:S0 d2:=by subst hd2;exact⟨hd.pl,⟨hd.ev.lb,hd.ev.hd,hd.ev.gr,hd.ev.ex⟩,hd.ob,hd.fi,hd.ls,hd.wa,hd.st,hd.nx,hd.oc⟩
 have hac2:d2.ac=.ofNat a:=by subst hd2;rfl
 have hmin:∃ n,n≤8∧n≤L.length∧lfold (mm false) [iv (.ofNat 8)] (iv (.ofNat L.length))=some (iv (.ofNat n)):=by
  by_cases h8:8 < L.length
  ·refine⟨8,Nat.le_refl _,by omega,?_⟩
   show some (AV.int .i64 (match ilt (.ofNat 8) (.ofNat L.length) with | true=>.ofNat 8 | false=>.ofNat L.length))=_
   rw [ilt_blt,blt_iff.2 h8]
  ·refine⟨L.length,by omega,Nat.le_refl _,?_⟩
   show some (AV.int .i64 (match ilt (.ofNat 8) (.ofNat L.length) with | true=>.ofNat 8 | false=>.ofNat L.length))=_
   rw [ilt_blt,blt_nif.2 h8]
 obtain⟨n,hn8,hnL,hmn⟩:=hmin
 have e0':∀ {l':Sl},(∀ i v,lk l i=some v->i < 6->lk l' i=some v)->lk l' 0=some lv:=fun h=>h 0 _ e0 (by omega)
 refine WO.nil (WP.seq (WP.ops (WO.r (.mv (show lk _ 0=some lv from e0)) (WO.r (.lenS rfl hL.len) (WO.r (.minmax rfl hmn) (WO.r (.mv rfl) (WO.nil ?_)))))))
 refine WP.seq (WP.seq (WP.ops (WO.r (.mv rfl) (WO.nil ?_))))
 -- the bytes
 let cb:Nat->Nat:=fun j=>match L[j]? with | some [.int .u8 (.ofNat y)]=>y % 3 | _=>0
 have hcb:∀ j,cb j≤2:=by
  intro j
  show (match L[j]? with | some [.int .u8 (.ofNat y)]=>y % 3 | _=>0)≤2
  split
  ·exact Nat.le_of_lt_succ (Nat.mod_lt _ (by decide))
  ·exact Nat.zero_le _
 have hcL:∀ j,j < n->∃ x:Nat,x≤255∧L[j]?=some [.int .u8 (.ofNat x)]∧x % 3=cb j:=by
  intro j hj
  obtain⟨y,hy,hy2⟩:=hL.b j (by omega)
  refine⟨y,hy,hy2,?_⟩
  show _=(match L[j]? with | some [.int .u8 (.ofNat y)]=>y % 3 | _=>0)
  rw [hy2]
 refine wait_ok hB hI hc hcb hL hcL hn8 hnL hs2 hS2 hf (by rw [List.length_append,List.length_singleton];omega) (a:=a) (sub_cons e0 (sub_cons e5 (sub_cons rfl (sub_cons rfl (sub_cons rfl sub_nil))))) ?_
 intro EL3 s3 l3 hs3 hE3 hl3
 refine WP.weak hl3 (fun _ _ h=>h) ?_
 have hW:=dW_inv hcb hS2 (q:=n) hn8
 have hWl:(dW cb d2 n).wa.length=n:=by show ((List.range n).map _).length=n;rw [List.length_map,List.length_range]
 have hWac:(dW cb d2 n).ac=.ofNat a:=hac2
 have hWst:(dW cb d2 n).st=[]:=hS2.st
 have hWc:∀ x∈(dW cb d2 n).wa,0≤x.ctrl∧x.ctrl≤2:=fun x hx=>(hW.wa x hx).ctrl
 have hWo:(dW cb d2 n).wa.Pairwise fun x y=>x.card < y.card:=by
  show ((List.range n).map (itm cb d2.nx)).Pairwise _
  exact List.Pairwise.map _ (fun a b hab=>by show ((a:Nat):Int) < ((b:Nat):Int);omega) List.pairwise_lt_range
 obtain⟨p1,p2,p3⟩:=put_plain ha3 hWst hW.nd hWc hWo
 have p4:=put_len ha3 hWst hW.nd hWc
 refine WP.seq (WP.seq (WP.ops (WO.r (.mv rfl) (WO.r (.mkif rfl rfl) (WO.w (WS.callF (first:=[]) (vs:=[.iface (T 26) (.ptr (some ⟨bf,0,0⟩))]) (cap:=[]) rfl rfl (put_ok hB hI hG hS ht24 ht128 ht4 hM hc hs3 hW hWac ha3 hf (by omega)) ?_))))))
 rintro w4 s4 ⟨rfl,hSP,EL4,hE4,hs4⟩
 have hsmP:=hSP.small
 rw [hWl]
 have h48:binV .gtr (iv (.ofNat n)) (iv (.ofNat 0))=some (.bool (decide (0 < n))):=by
  show some (AV.bool (ilt (.ofNat 0) (.ofNat n)))=_
  rw [ilt_blt]
  by_cases h:0 < n
  ·rw [blt_iff.2 h,decide_eq_true h]
  ·rw [blt_nif.2 h,decide_eq_false h]
 have h49:eqBy 20 .pb (.bool (!decide ((n:Int)=0))) (.bool (decide (0 < n)))=some true:=by
  by_cases h:0 < n
  ·rw [decide_eq_true h,decide_eq_false (by omega)];rfl
  ·rw [decide_eq_false h,decide_eq_true (by omega)];rfl
 refine WO.r (.mv rfl) (WO.r (.arith rfl rfl h48) (WO.r (.eql rfl rfl h49) (WO.r (.mv rfl) (WO.yes rfl rfl (WO.r (.mv rfl) (WO.yes rfl rfl (WO.w (WS.callF (first:=[]) (vs:=[.ptr (some ⟨bf,0,0⟩)]) (cap:=[]) rfl rfl (waits_ok hB hG hs4 hsmP hf) ?_))))))))
 rintro w5 s5 ⟨hs5,hw5⟩
 have l5:lenOf w5=some 0:=by rw [hw5.lenOf,p1];rfl
 refine WO.yes rfl rfl (WO.r (.lenS rfl l5) (WO.yes rfl rfl (WO.r (.eql (b:=true) rfl rfl rfl) (WO.r (.pick0 rfl rfl) (WO.nil ?_)))))
 refine WP.cond rfl (fun h=>Bool.noConfusion (show false=true from h)) (fun _=>WP.skip ?_)
 refine WP.seq (WP.ops (WO.r (.mv rfl) (WO.w (WS.callF (first:=[]) (vs:=[.ptr (some ⟨bf,0,0⟩)]) (cap:=[]) rfl rfl (stack_ok hB hG hs5 hsmP hf) ?_))))
 rintro w6 s6 ⟨hs6,hw6⟩
 have l6:lenOf w6=some n:=by rw [hw6.lenOf];simp only [idR,List.length_map];rw [p4,hWl]
 have h61:eqBy 20 .pi (iv (.ofNat n)) (iv (.ofNat n))=some true:=by rw [eqB_i];simp
 refine WO.r (.mv rfl) (WO.nil (WP.seq (WP.seq (WP.ops (WO.r (.mv rfl) (WO.r (.lenS rfl l6) (WO.r (.mv rfl) (WO.r (.eql rfl rfl h61) (WO.nil ?_)))))))))
 refine WP.cond rfl (fun h=>Bool.noConfusion (show false=true from h)) (fun _=>WP.skip ?_)
 refine WP.seq (WP.seq (WP.ops (WO.r (.mv rfl) (WO.nil ?_))))
 have hLn:(putN (dW cb d2 n) a 3).st.length=n:=by rw [p4,hWl]
 refine check_ok ha3 hw6 p2 (fun x hx=>p3 (cc2 x) (List.mem_map_of_mem hx)) (by rw [hLn];exact hn8) (by rw [hLn];exact sub_cons rfl (sub_cons rfl (sub_cons rfl (sub_cons rfl sub_nil)))) ?_
 intro l7
 refine WP.seq (WP.ops (WO.r (.mv rfl) (WO.nil (WP.ret ⟨rfl,rfl,fun b o h=>hs6.mem h⟩))))
end
end Go.Ev
namespace Go.Ev
def pl20:LD:=⟨20,0,0,0,0,false,false,false⟩
def d4:SD:=⟨[pl20,pl20,pl20],[ob0 1 0 0,ob0 2 1 0,ob0 3 2 1,ob0 4 3 2],[[1,2],[3],[4]],[[],[],[]],[[],[],[]],[[],[],[]],[],[],[],
 1,0,0,0,0,0,5,1,0,0,0,0,false,0,0⟩
theorem d4_s0:S0 d4:=by
 refine⟨rfl,⟨rfl,rfl,rfl,rfl⟩,by decide,by decide,?_,rfl,rfl,by decide,rfl⟩
 intro LL hL
 have:LL.length=3∧∀ lst∈LL,lst.length≤2:=by
  rcases hL with rfl|rfl|rfl|rfl <;> (refine⟨rfl,fun lst hl=>?_⟩;simp only [d4,List.mem_cons,List.not_mem_nil,or_false] at hl;rcases hl with rfl|rfl|rfl <;> decide)
 exact⟨by rw [this.1];omega,fun lst hl=>by have:=this.2 lst hl;omega⟩
def m4:SH:=[(320,.r false (plR d4.pl) 8),(340,.r false (obR d4.ob) 14),(352,.r false [[slA 342 2 1],[slA 346 1 1],[slA 350 1 1]] 1),(342,.r false (nR [1,2]) 1),(346,.r false (nR [3]) 1),(350,.r false (nR [4]) 1),
 (358,.r false [[nilS],[nilS],[nilS]] 1),(364,.r false [[nilS],[nilS],[nilS]] 1),(370,.r false [[nilS],[nilS],[nilS]] 1)]
theorem m4_std:StD m4 (slA 320 3 8) (slA 340 4 14) (slA 352 3 1) (slA 358 3 1) (slA 364 3 1) (slA 370 3 1) nilS nilS nilS d4 where
 pl:=Src.all (L:=plR d4.pl) .here
 ob:=Src.all (L:=obR d4.ob) (.there .here)
 lb:=⟨_,Src.all (L:=[[slA 342 2 1],[slA 346 1 1],[slA 350 1 1]]) (.there (.there .here)),.cons (Src.all (L:=nR [1,2]) (.there (.there (.there .here)))) (.cons (Src.all (L:=nR [3]) (.there (.there (.there (.there .here))))) (.cons (Src.all (L:=nR [4]) (.there (.there (.there (.there (.there .here)))))) .nil))⟩
 hd:=⟨_,Src.all (L:=[[nilS],[nilS],[nilS]]) (.there (.there (.there (.there (.there (.there .here)))))),.cons .nil (.cons .nil (.cons .nil .nil))⟩
 gr:=⟨_,Src.all (L:=[[nilS],[nilS],[nilS]]) (.there (.there (.there (.there (.there (.there (.there .here))))))),.cons .nil (.cons .nil (.cons .nil .nil))⟩
 ex:=⟨_,Src.all (L:=[[nilS],[nilS],[nilS]]) (.there (.there (.there (.there (.there (.there (.there (.there .here)))))))),.cons .nil (.cons .nil (.cons .nil .nil))⟩
 fi:=.nil
 st:=.nil
 wa:=.nil
@[reducible] def sc4:List AV:=d4.cells (slA 266 3 8) (slA 286 4 14) (slA 298 3 1) (slA 304 3 1) (slA 310 3 1) (slA 316 3 1) nilS nilS nilS
@[reducible] def log4:List AV:=sc4++([nilS]++(d4.cells (slA 320 3 8) (slA 340 4 14) (slA 352 3 1) (slA 358 3 1) (slA 364 3 1) (slA 370 3 1) nilS nilS nilS++[]))
theorem log4_ok (t:SH):LogH 262 [] d4 t ((262,.r false [log4] 51)::([]++(m4++t))):=
 ⟨sc4,nilS,slA 320 3 8,slA 340 4 14,slA 352 3 1,slA 358 3 1,slA 364 3 1,slA 370 3 1,nilS,nilS,nilS,[],m4,.refl _,rfl,.nil,m4_std⟩
@[reducible] def fold4:List AV:=foldRow 262 (slA 372 4 11) (.ofNat 60) (.ofNat 8) (.ofNat 80) (.ofNat 20) (.ofNat 20) nilS
def mem4:List (Nat × Nat × List (List AV)):=(262,51,[log4])::[(320,8,plR d4.pl),(340,14,obR d4.ob),(352,1,[[slA 342 2 1],[slA 346 1 1],[slA 350 1 1]]),(342,1,nR [1,2]),(346,1,nR [3]),(350,1,nR [4]),(358,1,[[nilS],[nilS],[nilS]]),(364,1,[[nilS],[nilS],[nilS]]),(370,1,[[nilS],[nilS],[nilS]]),(260,8,[fold4])]
noncomputable def opv1:V:={ vU with t:=13,a:=1 }
noncomputable def ruleS (w c:FuncId):FRule:=fun f args h=>match Nat.beq f w with
 | true=>(match args with | []=>some (some (vT,h)) | _::_=>some none)
 | false=>(match Nat.beq f c with | true=>some none | false=>none)
theorem ruleS_ok [Sg] {w c:FuncId} {K:Orc} (hw:∀ H,K w [] H=some (.bool true,H)) (hK:∀ f args H,f≠w->f≠c->K f args H=none):FRok (ruleS w c) K where
 res:=by
  intro f args as h H v h' ha hH hf
  unfold ruleS at hf
  cases hb:Nat.beq f w with
  | true=>
   rw [hb] at hf
   have:=Nat.eq_of_beq_eq_true hb
   subst this
   cases ha with
   | nil=>cases hf;exact⟨_,_,hw H,VA.bool true,hH,rfl⟩
   | cons _ _=>cases hf
  | false=>
   rw [hb] at hf
   dsimp only at hf
   split at hf <;> cases hf
 non:=by
  intro f args as h H ha hH hf
  unfold ruleS at hf
  cases hb:Nat.beq f w with
  | true=>
   rw [hb] at hf
   cases ha with
   | nil=>cases hf
   | cons _ _=>cases hf
  | false=>
   rw [hb] at hf
   dsimp only at hf
   split at hf
   ·cases hf
   ·rename_i hc
    exact hK f as H (fun e=>by rw [e] at hb;simp at hb) (fun e=>by rw [e] at hc;simp at hc)
noncomputable def pre4 (P:Program) (ih:CallT) (c:Code) (h0:FH) (z:Nat):Bool:=
 preF P 108 ih (spine 4 c).1 (fun e h=>memCk h mem4 && (slotCk e [(5,.ptr (some ⟨260,0,0⟩))] && (Nat.beq (atR 0 e).t 13 && (Nat.beq (atR 0 e).a 0 && (Nat.beq (atR 1 e).t 13 && (Nat.beq (atR 1 e).a 1 && (Nat.beq (hget 0 h).t z && (Nat.beq (hget 0 h).lp.nt 0 && (match h.fr.ds with | []=>true | _=>false)))))))))
  (wrV [opv0,opv1] 0 row0) h0
section
variable [Sg] {P:Program} {K:Orc} {F:Nat->FuncId} {T:Nat->TypeId}
structure BaseAll (P:Program) (K:Orc) (F:Nat->FuncId) (T:Nat->TypeId):Prop where
 b:Base P K F T
 i:BaseI P K F T
 g:BaseB P K F T
 s:BaseS P K F T
 t:BaseT P K F T
 t24:Ty P (T 24) 5
 t128:Ty P (T 128) 13
 t4:isAggT P (T 4)=some false∧size? P (T 4)=some 1
 m:BMeth P F (T 26)
theorem law4_ok (hB:BaseAll P K F T) (hS:SaysS P K F) {ih:CallT} (hC:CallR P K ih) {f:FuncId} {fn:Func} {c:Code} (hf:P.funcs[f]?=some fn) (hb:fn.body=some c) (hnt:fn.ntmps=108) (hres:fn.results.toList=[.tmp 4]) (hname:(fn.name == "runtime.NumGoroutine")=false)
  (hrest:cc P 108 (spine 4 c).2=a4Z F T) (hK:∀ args H,K f args H=none) {h0:FH} {H0:Heap} (hH:FHr h0 H0) (hfr:h0.fr=fr0) {z:Nat} (hpre:pre4 P ih c h0 z=true) {x:Nat} (hx:x≤255) {lv:AV} (ha:VAs [opv0,opv1] [lv,.int .u8 (.ofNat x)]) {L:List (List AV)} (hL0:lenOf lv=some L.length)
  (hLb:∀ i,i < L.length->∃ x:Nat,x≤255∧L[i]?=some [.int .u8 (.ofNat x)]) (hLv:0 < L.length->z=5∧(∃ cap sl,lv=.slice (some ⟨0,0,0⟩) L.length cap sl 1)∧(HO.r true L 1).ok (some (Sg.blk 0))) (hz:L.length=0∨0 < L.length) :
  ∃ H',CallsTo P K f [lv,.int .u8 (.ofNat x)] H0 (.bool true) H'∧(0 < L.length->(HO.r true L 1).ok (H'.get 0)):=by
 obtain⟨e0,he0,hE0⟩:=envStart (nt:=108) ha (by omega) (by simp)
 obtain⟨E',H',ds',e',h',q1,q2,q3,q4,q5⟩:=preF_ok (rd:=none) (ds:=[]) hC (spine 4 c).1 hE0 hH (by rw [hfr];exact⟨rfl,(fun D hD=>by cases hD),rfl⟩) hpre
 obtain⟨k1,q4⟩:=Bool.and_eq_true_iff.1 q4
 obtain⟨k2,q4⟩:=Bool.and_eq_true_iff.1 q4
 obtain⟨k3,q4⟩:=Bool.and_eq_true_iff.1 q4
 obtain⟨k4,q4⟩:=Bool.and_eq_true_iff.1 q4
 obtain⟨j3,q4⟩:=Bool.and_eq_true_iff.1 q4
 obtain⟨j4,q4⟩:=Bool.and_eq_true_iff.1 q4
 obtain⟨k5,q4⟩:=Bool.and_eq_true_iff.1 q4
 obtain⟨k6,k7⟩:=Bool.and_eq_true_iff.1 q4
 have hds:ds'=[]:=by
  obtain⟨f1,_,_⟩:=q3
  rw [f1]
  revert k7
  cases h'.fr.ds with
  | nil=>intro _;rfl
  | cons a l=>intro k;cases k
 subst hds
 have hmem:=memCk_ok q2 k1
 have hsl:=slotCk_ok q1 k2 (by decide)
 obtain⟨a0,e0',v0⟩:=q1.slot 0 (by omega)
 obtain⟨a1,e1',v1⟩:=q1.slot 1 (by omega)
 obtain⟨hlv,hwh⟩:Sg.val 0=lv∧Sg.val 1=.int .u8 (.ofNat x):=by
  cases ha with
  | cons hv ha=>
   cases ha with
   | cons hw _=>exact⟨(hv.isOpq rfl).1.symm,(hw.isOpq rfl).1.symm⟩
 have ea0:a0=lv:=by
  have h1:=(v0.isOpq (Nat.eq_of_beq_eq_true k3)).1
  rw [Nat.eq_of_beq_eq_true k4] at h1
  rw [h1,hlv]
 have ea1:a1=.int .u8 (.ofNat x):=by
  have h1:=(v1.isOpq (Nat.eq_of_beq_eq_true j3)).1
  rw [Nat.eq_of_beq_eq_true j4] at h1
  rw [h1,hwh]
 subst ea0 ea1
 have main:∀ z0:SH,(∀ b o,(b,o)∈z0->b=0∧b < H'.next∧o.ok (H'.get b))->z0.Pairwise (fun p q=>p.1≠q.1)->(0 < L.length->∃ cap sl,a0=.slice (some ⟨0,0,0⟩) L.length cap sl 1∧Has 0 (.r true L 1) z0) ->
   ∃ H2,CallsTo P K f [a0,.int .u8 (.ofNat x)] H0 (.bool true) H2∧(0 < L.length->(HO.r true L 1).ok (H2.get 0)):=by
  intro z0 hz0 hzp hz1
  have hp:Hp ⟨.lf,0⟩ (memS mem4++z0) H':=by
   refine⟨Nat.zero_le _,?_,?_,fun b hb=>absurd hb (Nat.not_lt_zero _)⟩
   ·intro b o hb
    rcases List.mem_append.1 hb with hb|hb
    ·exact hmem b o hb
    ·exact(hz0 b o hb).2
   ·refine List.pairwise_append.2 ⟨?_,hzp,?_⟩
    ·simp [memS,mem4]
    ·intro p hp q hq
     have:=(hz0 q.1 q.2 hq).1
     rw [this]
     simp only [memS,mem4,List.map_cons,List.map_nil,List.mem_cons,List.not_mem_nil,or_false] at hp
     rcases hp with rfl|rfl|rfl|rfl|rfl|rfl|rfl|rfl|rfl|rfl|rfl <;> exact Nat.succ_ne_zero _
  have hs:LogH 262 [] d4 ([(260,.r false [fold4] 8)]++z0) (memS mem4++z0):=log4_ok _
  have hEn:En [(0,a0),(1,.int .u8 (.ofNat x)),(5,.ptr (some ⟨260,0,0⟩))] E':=by
   intro i v hi
   simp only [lk_cons] at hi
   split at hi
   ·rename_i h;cases hi;rw [<- h];exact e0'
   ·split at hi
    ·rename_i h;cases hi;rw [<- h];exact e1'
    ·split at hi
     ·rename_i h;cases hi;rw [<- h];exact hsl 5 _ (by simp)
     ·cases hi
  obtain⟨xx,e'',ds'',H2,l',s',r1,r2,r3,r4⟩:=law4Z_ok hB.b hB.i hB.g hB.s hB.t hB.t24 hB.t128 hB.t4 hB.m hS (L:=L) hx ⟨hL0,fun h=>by
   obtain⟨cap,sl,w1,w2⟩:=hz1 h
   exact⟨0,cap,sl,w1,.app w2⟩,hLb⟩ hs d4_s0 ⟨by decide,by decide⟩ (.left .here) (by decide) rfl rfl rfl (spine 4 c).2 hrest ⟨.lf,0⟩ E' H' hEn hp
  have run:=q5 (spine 4 c).2 _ r1
  rw [spine_eq] at run
  cases xx with
  | normal=>exact r4.elim
  | exit i=>exact r4.elim
  | ret=>
   obtain⟨rfl,w4,hm⟩:=r4
   refine⟨H2,CallsTo.enter (hK _ _) hf hb (by rw [hnt,hname];rfl) (by rw [hnt];exact he0) (by rw [hnt];exact run) (.inl rfl) ?_,fun h=>?_⟩
   ·have e4:resultOf P e'' H2 (.tmp 4)=some (.bool true):=r2 4 _ w4
    rw [hres]
    show (match lmapO (resultOf P e'' H2) [.tmp 4] with | some [v]=>some v | some vs=>some (.tuple vs) | none=>none)=_
    simp only [lmapO,e4]
   ·obtain⟨cap,sl,_,w2⟩:=hz1 h
    exact(r3.has (hm _ _ (.app w2))).2
 rcases hz with h|h
 ·exact main [] (fun b o hb=>nomatch hb) .nil (fun k=>by omega)
 ·obtain⟨rfl,⟨cap,sl,hl⟩,hok⟩:=hLv h
  have g0:=(q2.block 0 (by omega)).opq (Nat.eq_of_beq_eq_true k5)
  rw [Nat.eq_of_beq_eq_true k6] at g0
  have hn:0 < H'.next:=Nat.lt_of_le_of_lt (Nat.zero_le _) (hmem 262 _ (List.mem_cons_self ..)).1
  refine main [(0,.r true L 1)] ?_ (List.pairwise_singleton ..) (fun _=>⟨cap,sl,hl,.here⟩)
  intro b o hb
  rw [List.mem_singleton] at hb
  cases hb
  exact⟨rfl,hn,by rw [g0];exact hok⟩
end
end Go.Ev
namespace Go.Ev
theorem works_kcon {P:Program} (hm:P.follows .mixedOrders=true) {n:Nat} {f:FuncId} (h:fastTrue P noneKnown n f=true):KCon P f [] hp0 (.bool true) hp0:=by
 letI:Sg:=sg0
 obtain⟨O,hO,hF⟩:=noneKnown_ok P
 obtain⟨m,b,v,h',H',h1,h2,_,_,h5⟩:=(callF_ok P (hF _) n).call .nil fh0_ok h
 have:=h2.is2 (beq_t h5)
 subst this
 exact(KCon.of_ev hm hO h1).upto ⟨rfl,Nat.zero_le _,fun b o hb=>by rw [hp0_get] at hb;cases hb⟩ (Nat.le_refl _) trivial
inductive C4 (F:Nat->FuncId):FuncId->List AV->Heap->AV->Heap->Prop
 | w (H:Heap):C4 F (F 17) [] H (.bool true) H
 | cT (H:Heap) (p:Nat):p < 3->C4 F (F 201) [.agg (evRow 20 (.ofNat p) 0 0 0 it0)] H (iv 0) H
 | cW (H:Heap) (c k:Int):0≤c∧c≤2->0≤k∧k≤7->C4 F (F 201) [.agg (evRow 17 0 0 0 0 ⟨0,3,c,0,k,0⟩)] H (iv 0) H
 | cU (H:Heap) (a:Int):1≤a∧a≤1000000->C4 F (F 201) [.agg (evRow 18 a 0 0 0 it0)] H (iv 0) H
 | cP (H:Heap) (c k:Int):0≤c∧c≤2->0≤k∧k≤7->C4 F (F 201) [.agg (evRow 15 0 0 0 0 ⟨0,3,c,0,k,0⟩)] H (iv 0) H
theorem C4.uniq {F:Nat->FuncId} (hne:F 17≠F 201) {f:FuncId} {args:List AV} {H:Heap} {v u:AV} {H' I:Heap} (h:C4 F f args H v H') (h2:C4 F f args H u I):u=v∧I=H':=by
 have key:∀ {f:FuncId} {args:List AV} {H:Heap} {v:AV} {H':Heap},C4 F f args H v H'->H'=H∧((f=F 17∧v=.bool true)∨(f=F 201∧v=iv 0)):=by
  intro f args H v H' h
  cases h with
  | w=>exact⟨rfl,.inl ⟨rfl,rfl⟩⟩
  | cT=>exact⟨rfl,.inr ⟨rfl,rfl⟩⟩
  | cW=>exact⟨rfl,.inr ⟨rfl,rfl⟩⟩
  | cU=>exact⟨rfl,.inr ⟨rfl,rfl⟩⟩
  | cP=>exact⟨rfl,.inr ⟨rfl,rfl⟩⟩
 have q1:=key h
 have q2:=key h2
 refine⟨?_,by rw [q2.1,q1.1]⟩
 rcases q1.2 with⟨e1,w1⟩|⟨e1,w1⟩ <;> rcases q2.2 with⟨e2,w2⟩|⟨e2,w2⟩ <;> first|(rw [w1,w2];done)|exact absurd (e1.symm.trans e2) hne|exact absurd (e2.symm.trans e1) hne
theorem says4 {P:Program} {F:Nat->FuncId} (hne:F 17≠F 201):SaysS P (orcOf (C4 F)) F where
 cT p hp s:=Tri.known (fun H=>orcOf_some (.cT H p hp) fun u I h=>C4.uniq hne (.cT H p hp) h) ⟨rfl,rfl⟩
 cW c k h1 h2 s:=Tri.known (fun H=>orcOf_some (.cW H c k h1 h2) fun u I h=>C4.uniq hne (.cW H c k h1 h2) h) ⟨rfl,rfl⟩
 cU a h1 s:=Tri.known (fun H=>orcOf_some (.cU H a h1) fun u I h=>C4.uniq hne (.cU H a h1) h) ⟨rfl,rfl⟩
 cP c k h1 h2 s:=Tri.known (fun H=>orcOf_some (.cP H c k h1 h2) fun u I h=>C4.uniq hne (.cP H c k h1 h2) h) ⟨rfl,rfl⟩
theorem orc4_w {F:Nat->FuncId} (hne:F 17≠F 201) (H:Heap):orcOf (C4 F) (F 17) [] H=some (.bool true,H):=orcOf_some (.w H) fun u I h=>C4.uniq hne (.w H) h
theorem orc4_none {F:Nat->FuncId} {f:FuncId} (h1:f≠F 17) (h2:f≠F 201) (args:List AV) (H:Heap):orcOf (C4 F) f args H=none:=
 orcOf_none fun u I h=>by cases h <;> first | exact h1 rfl | exact h2 rfl
theorem orc4_ok {P:Program} {F:Nat->FuncId} (kw:KCon P (F 17) [] hp0 (.bool true) hp0) (kT:∀ p:Nat,p < 3->KCon P (F 201) [.agg (evRow 20 (.ofNat p) 0 0 0 it0)] hp0 (iv 0) hp0)
  (kW:∀ c k:Int,0≤c∧c≤2->0≤k∧k≤7->KCon P (F 201) [.agg (evRow 17 0 0 0 0 ⟨0,3,c,0,k,0⟩)] hp0 (iv 0) hp0) (kU:∀ a:Int,1≤a∧a≤1000000->KCon P (F 201) [.agg (evRow 18 a 0 0 0 it0)] hp0 (iv 0) hp0)
  (kP:∀ c k:Int,0≤c∧c≤2->0≤k∧k≤7->KCon P (F 201) [.agg (evRow 15 0 0 0 0 ⟨0,3,c,0,k,0⟩)] hp0 (iv 0) hp0):OrcOk P (orcOf (C4 F)):=by
 refine orcOf_ok fun f args H v H' h=>?_
 cases h with
 | w=>exact kw.anywhere (fun _=>rfl) (fun _=>rfl) _
 | cT _ p hp=>exact(kT p hp).anywhere (fun _=>rfl) (fun _=>rfl) _
 | cW _ c k h1 h2=>exact(kW c k h1 h2).anywhere (fun _=>rfl) (fun _=>rfl) _
 | cU _ a h1=>exact(kU a h1).anywhere (fun _=>rfl) (fun _=>rfl) _
 | cP _ c k h1 h2=>exact(kP c k h1 h2).anywhere (fun _=>rfl) (fun _=>rfl) _
theorem Opq.int {k:IntKind} {n:Int}:Opq (.int k n):=⟨rfl,fun b h=>(by cases h),fun m=>by
 have:ieq n n=true:=ieq_iff.2 rfl
 cases k <;> simp [sameN,same0,keq,this]⟩
theorem opv1_ok [Sg] {lv:AV} (h:Sg.val 1=lv) (ho:Opq lv):VA opv1 lv:=by
 subst h
 exact VA.opq (v:=opv1) rfl ho.one ho.nb ho.same
structure Trn (P:Program) (K:Orc) (F:Nat->FuncId) (T:Nat->TypeId) (f:FuncId) (fn:Func) (c:Code) (R:FRule) (n:Nat):Prop where
 mixed:P.follows .mixedOrders=true
 orc:OrcOk P K
 base:BaseAll P K F T
 says:SaysS P K F
 rule:∀ S:Sg,@FRok S R K
 func:P.funcs[f]?=some fn
 body:fn.body=some c
 nt:fn.ntmps=108
 res:fn.results.toList=[.tmp 4]
 name:(fn.name == "runtime.NumGoroutine")=false
 rest:cc P 108 (spine 4 c).2=a4Z F T
 free:∀ args H,K f args H=none
 runQ:pre4 P (callF P R n) c fhQ 0=true
 runP:pre4 P (callF P R n) c fhP 5=true
section
variable {P:Program} {K:Orc} {F:Nat->FuncId} {T:Nat->TypeId} {f:FuncId} {fn:Func} {c:Code} {R:FRule} {n:Nat}
theorem trn_none (hl:Trn P K F T f fn c R n) {wh:Int} (hw:0≤wh∧wh≤255) {lv:AV} {x:Value} (hlv:lenOf lv=some 0) (ho:Opq lv) (hx:VR (fun _=>none) lv x) (w:World) :
  Calls P f #[x,.int .u8 wh] w fun e w'=>e=.returned (.bool true)∧w.keptBut w' (fun _=>False):=by
 obtain⟨y,rfl⟩:=Int.eq_ofNat_of_zero_le hw.1
 letI:Sg:=mkSg (fun _=>0) (fun i=>match i with | 0=>lv | _=>.int .u8 (.ofNat y)) (fun _=>.deferred)
 have ha:VAs [opv0,opv1] [lv,.int .u8 (.ofNat y)]:=.cons (opv0_ok rfl ho) (.cons (opv1_ok rfl .int) .nil)
 obtain⟨H',⟨m,h1⟩,_⟩:=law4_ok hl.base hl.says (callF_ok P (hl.rule _) n) hl.func hl.body hl.nt hl.res hl.name hl.rest hl.free fhQ_ok rfl hl.runQ (by omega) ha (L:=[]) hlv (fun i hi=>absurd hi (Nat.not_lt_zero _)) (fun h=>absurd h (Nat.not_lt_zero _)) (.inl rfl)
 refine callsIn_wide.1 (CallsIn.mono (ev_call hl.mixed hl.orc (HR.one w) (args:=[lv,.int .u8 (.ofNat y)]) (xs:=[x,.int .u8 (y:Int)]) ⟨_,_,hx,⟨_,_,rfl,rfl,rfl⟩,rfl⟩ h1).2 ?_)
 rintro e w' ⟨y,rfl,g',_,hv,hh⟩
 have:y=.bool true:=hv
 subst this
 exact⟨rfl,kept_same (fun k hk=>(hh.keep k hk).2) hh.os.1 hh.os.2⟩
theorem trn_some (hl:Trn P K F T f fn c R n) {wh:Int} (hw:0≤wh∧wh≤255) {z:Nat->Int} (hz:∀ i,0≤z i∧z i≤255) {len cap:Nat} (hpos:0 < len) {w:World} {blk off:Nat} {cs:Array Value} {el:TypeId} {fz:Nat × Nat}
  (hc:w.heap[blk]?=some (.cells cs el fz)) (hfit:off+len≤cs.size) (hcell:∀ i,i < len->cs[off+i]?=some (.int .u8 (z i))) :
  Calls P f #[.slice (some ⟨blk,off,none⟩) len cap,.int .u8 wh] w fun e w'=>e=.returned (.bool true)∧w.keptBut w' (fun _=>False):=by
 obtain⟨y,rfl⟩:=Int.eq_ofNat_of_zero_le hw.1
 obtain⟨T',hT0⟩:=rowsOf_some ((List.range len).map fun i=>[AV.int .u8 (z i)])
 have hLi:∀ i,i < len->((List.range len).map fun i=>[AV.int .u8 (z i)])[i]?=some [AV.int .u8 (z i)]:=fun i hi=>by
  rw [List.getElem?_map,List.getElem?_range hi];rfl
 have hT:∀ i,i < len->T'.get i=some [AV.int .u8 (z i)]:=fun i hi=>by rw [rowsOf_get hT0,hLi i hi]
 have hLl:((List.range len).map fun i=>[AV.int .u8 (z i)]).length=len:=by rw [List.length_map,List.length_range]
 letI:Sg:=mkSg (fun _=>0) (fun i=>match i with | 0=>.slice (some ⟨0,0,0⟩) len cap false 1 | _=>.int .u8 (.ofNat y)) (fun _=>.rows T' len 1 true)
 have ha:VAs [opv0,opv1] [.slice (some ⟨0,0,0⟩) len cap false 1,.int .u8 (.ofNat y)]:=.cons (opv0_ok rfl .slice) (.cons (opv1_ok rfl .int) .nil)
 obtain⟨H',⟨m,h1⟩,h2⟩:=law4_ok hl.base hl.says (callF_ok P (hl.rule _) n) hl.func hl.body hl.nt hl.res hl.name hl.rest hl.free fhP_ok rfl hl.runP (by omega) ha (L:=(List.range len).map fun i=>[AV.int .u8 (z i)])
  (by rw [hLl];rfl) (fun i hi=>by
   rw [hLl] at hi
   have:=hz i
   exact⟨(z i).toNat,by omega,by rw [hLi i hi];congr 3;exact(Int.toNat_of_nonneg this.1).symm⟩)
  (fun _=>⟨rfl,⟨cap,false,by rw [hLl]⟩,T',by rw [hLl];rfl,fun i row hi=>by
   have hlt:i < len:=by
    have:=(List.getElem?_eq_some_iff.1 hi).1
    rw [hLl] at this;exact this
   rw [hLi i hlt] at hi
   cases hi
   exact⟨hT i hlt,rfl⟩⟩) (.inr (by rw [hLl];exact hpos))
 obtain⟨t,h3,h4⟩:=h2 (by rw [hLl];exact hpos)
 rw [hLl] at h3
 have hsz:cs.size=off+(len+(cs.size - off - len)) * 1:=by omega
 have hHR:HR ⟨fun k=>k < w.heap.size∧k≠blk,fun _=>False⟩ w (gB blk off (cs.size - off - len) 1 (.cells cs el fz)) (H1b (.rows T' len 1 true)) w:=by
  have only:∀ b o,(H1b (.rows T' len 1 true)).get b=some o->b=0∧o=.rows T' len 1 true:=by
   intro b o hb
   rw [H1b_get] at hb
   split at hb
   ·rename_i e;cases hb;exact⟨e.symm,rfl⟩
   ·cases hb
  refine⟨?_,?_,?_,?_,fun k hk=>⟨hk.1,rfl⟩,Nat.le_refl _,⟨rfl,rfl⟩,fun b hb=>hb.elim⟩
  ·intro b o hb
   obtain⟨rfl,rfl⟩:=only b o hb
   refine⟨⟨blk,off,cs.size - off - len,1,some (.cells cs el fz)⟩,rfl,?_⟩
   refine⟨rfl,cs,el,fz,hc,hc,hsz,fun i row hi ht=>?_⟩
   rw [hT i hi] at ht
   cases ht
   refine⟨rfl,fun j v hj=>?_⟩
   match j,hj with
   | 0,hj=>cases hj;exact⟨_,by rw [Nat.mul_one,Nat.add_zero];exact hcell i hi,rfl,rfl⟩
  ·intro b b' o o' d d' hb hb' _ _ _
   rw [(only b o hb).1,(only b' o' hb').1]
  ·intro b hb
   have hb:1≤b:=hb
   exact if_neg (by omega)
  ·intro b o d hb _ hd
   obtain⟨rfl,_⟩:=only b o hb
   have hd:some (⟨blk,off,cs.size - off - len,1,some (.cells cs el fz)⟩:Gd)=some d:=hd
   cases hd
   exact fun k=>k.2 rfl
 refine callsIn_wide.1 (CallsIn.mono (ev_call hl.mixed hl.orc hHR (args:=[.slice (some ⟨0,0,0⟩) len cap false 1,.int .u8 (.ofNat y)]) (xs:=[.slice (some ⟨blk,off,none⟩) len cap,.int .u8 (y:Int)]) ⟨_,_,⟨_,rfl,fun _=>⟨rfl,rfl⟩,by simp [adr]⟩,⟨_,_,rfl,rfl,rfl⟩,rfl⟩ h1).2 ?_)
 rintro e w' ⟨y,rfl,g',hle,hv,hh⟩
 have:y=.bool true:=hv
 subst this
 refine⟨rfl,kept_same (fun k hk=>?_) hh.os.1 hh.os.2⟩
 by_cases hkb:k=blk
 ·subst hkb
  obtain⟨d,hd,hbr⟩:=hh.obj 0 _ h3
  have:=hle 0 ⟨k,off,cs.size - off - len,1,some (.cells cs el fz)⟩ rfl
  rw [hd] at this
  cases this
  obtain⟨_,_,_,_,_,e2,_⟩:=hbr
  have e2:w'.heap[k]?=some (.cells cs el fz):=e2
  rw [e2,hc]
 ·exact(hh.keep k ⟨hk,hkb⟩).2
end
end Go.Ev
