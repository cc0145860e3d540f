/- Walks of package state: taking an object away (where nothing names it). Walks of package state: guarded operations where the order is open; may an event be done. Walks of package state: may an event be done. Walks of package state: the rules of events. Walks of package state: the rule of an event. Walks of package state: what events do, and Apply. Walks of package log: an event is added. Walks of packages log and board: the state now, an event is added to a board. Walks of package board: an event is done. The states of the law BoardLimit: what holds of them, and is kept. The code of the law BoardLimit, its operations looked up; numbers by F. The walk of the law BoardLimit: a token is made. The walk of the law BoardLimit: an object leaves. The walk of the law BoardLimit: a round, and the loop. What the fast machine's memory and slots say to a walk; a function's first steps by the fast machine. The law BoardLimit: what lies in memory when its loop begins. The law BoardLimit: from the memory when its loop begins to its answer. A function's slots when it begins, on the fast machine. Conditions: none. -/
import Derived.Test.YtcmplhmbmmclaaaGreatEvJ
import Derived.Test.YtcmplhmbmmclaaaGreatEvH
set_option linter.unusedVariables false
set_option linter.unusedSectionVars false
namespace Go.Ev
section
variable {P:Program} {K:Orc} {rd:Option Nat} {nt:Nat} {l:Sl} {ds:List ADef} {s:SH} {Q Qn Qr:Po} {Qe:Nat->Po} {F:Nat->FuncId} {T:Nat->TypeId}
theorem WP.unroll {b:AC} (h:WP P K rd nt b l ds s (fun l ds s=>WP P K rd nt (.loop b) l ds s Qn Qe Qr) Qe Qr):WP P K rd nt (.loop b) l ds s Qn Qe Qr:=by
 intro c0 hc H0 e H he hH
 cases c0 with
 | loop b0=>
  simp only [cc,AC.loop.injEq] at hc
  obtain⟨x,e1,ds1,H1,l1,s1,k1,k2,k3,k4⟩:=h b0 hc H0 e H he hH
  cases x with
  | normal=>
   obtain⟨x,e2,ds2,H2,l2,s2,j1,j2,j3,j4⟩:=k4 (.loop b0) (by simp only [cc,hc]) H0 e1 H1 k2 k3
   exact⟨_,_,_,_,_,_,Runs.again k1 j1,j2,j3,j4⟩
  | exit i=>exact⟨_,_,_,_,_,_,Runs.out k1 (by intro h;cases h),k2,k3,k4⟩
  | ret=>exact⟨_,_,_,_,_,_,Runs.out k1 (by intro h;cases h),k2,k3,k4⟩
 | region i ops d=>exact(cc_region hc).elim
 | _=>simp [cc] at hc
theorem unname0_ok (hB:Base P K F T) {b r o sz:Nat} {ro:Bool} {L:List (List AV)} {row:List AV} {a id:Int} (hb:Has b (.r ro L sz) s) (hr:L[r]?=some row) (hc:ltake 1 (ldrop o row)=some [iv a]) (hne:a≠id):Tri P K (F 295) [.ptr (some ⟨b,r,o⟩),nilS,iv id] s (fun _ s'=>s'=s):=by
 refine hB.f295.tri (by simp) ?_
 unfold a295
 refine WP.seq (WP.seq (WP.ops (WO.r (.mv rfl) (WO.r (.nilchk rfl rfl) (WO.r (.load rfl hb hr hc rfl) (WO.r (.mv rfl) (WO.r (.eql rfl rfl (eqB_i _ _)) (WO.nil ?_))))))))
 refine WP.cond rfl (fun h=>absurd (of_decide_eq_true h) hne) (fun _=>WP.skip ?_)
 refine WP.seq (WP.ops (WO.r (.mv rfl) (WO.r (.lenS rfl rfl) (WO.r (.mv rfl) (WO.nil (WP.block (WP.unroll ?_)))))))
 refine WP.seq (WP.ops (WO.r (.arith rfl rfl rfl) (WO.nil (WP.seq (WP.cond rfl (fun h=>by cases h) (fun _=>WP.exit ?_))))))
 exact Fin.mk .nil rfl
def SD.left (d:SD) (id:Int) (i:Nat) (z:Int) (p:Nat):SD:=
 match d.zone z p with
 | some (lst,put)=>{ put (lst.filter fun n=>!decide (n=id)) with ob:=d.ob.eraseIdx i }
 | none=>{ d with ob:=d.ob.eraseIdx i }
theorem SD.zone_same {d:SD} {z:Int} {p:Nat} {lst:List Int} {put:List Int->SD} (h:d.zone z p=some (lst,put)):∀ l,(put l).ob=d.ob∧(put l).st=d.st∧(put l).wa=d.wa∧(put l).co=d.co:=by
 unfold SD.zone at h
 intro l
 split at h
 ·cases h;exact⟨rfl,rfl,rfl,rfl⟩
 ·split at h
  ·obtain⟨a,_,e⟩:=Option.map_eq_some_iff.1 h;cases e;exact⟨rfl,rfl,rfl,rfl⟩
  ·split at h
   ·obtain⟨a,_,e⟩:=Option.map_eq_some_iff.1 h;cases e;exact⟨rfl,rfl,rfl,rfl⟩
   ·split at h
    ·obtain⟨a,_,e⟩:=Option.map_eq_some_iff.1 h;cases e;exact⟨rfl,rfl,rfl,rfl⟩
    ·split at h
     ·obtain⟨a,_,e⟩:=Option.map_eq_some_iff.1 h;cases e;exact⟨rfl,rfl,rfl,rfl⟩
     ·cases h
def rowN (id:Int):List AV->Bool
 | .int _ n::_=>decide (n=id)
 | _=>false
theorem nR_filter (id:Int) (l:List Int):(nR l).filter (fun r=>!rowN id r)=nR (l.filter fun n=>!decide (n=id)):=by
 unfold nR
 rw [List.filter_map]
 rfl
theorem obR_erase (l:List OD) (i:Nat):obR (l.eraseIdx i)=(obR l).eraseIdx i:=by
 unfold obR
 induction l generalizing i with
 | nil=>rfl
 | cons a l ih=>
  cases i with
  | zero=>rfl
  | succ i=>simp [List.eraseIdx_cons_succ,ih]
theorem bsrows2 {l:Sl} {sz:Nat} {x y:Operand} {u v:AV} {cs es:List AV} (hx:opl l x=some u) (hc:partCells sz u=some cs) (hy:opl l y=some v) (he:partCells sz v=some es):bsrows l sz 0 [(0,x),(1,y)]=some [cs,es]:=by
 simp [bsrows,hx,hc,hy,he]
theorem Src.part {sz:Nat} {v:AV} {L:List (List AV)} (h:Src s sz v L):partCells 1 v=some [v]:=by
 cases h <;> rfl
def a262b (F:Nat->FuncId) (T:Nat->TypeId):AC:=(.seq (.ops [⟨(some 41),(.mv (.tmp 0)),none⟩,⟨(some 42),(.mv (.tmp 0)),none⟩,⟨(some 43),(.nilchk (.tmp 42)),none⟩,⟨(some 44),(.faddr 0 (.tmp 43)),none⟩,⟨(some 45),(.faddr 1 (.tmp 44)),none⟩,⟨(some 46),(.load false 1 (.tmp 45)),none⟩,⟨(some 47),(.mv (.tmp 5)),none⟩,⟨(some 48),(.mv (.tmp 5)),none⟩,⟨(some 49),(.arith .add (.tmp 48) (.const (.int .i64 (.ofNat 1)))),none⟩,⟨(some 50),(.call (.func (F 294)) [(.tmp 46),(.tmp 47),(.tmp 49)]),none⟩,⟨(some 51),(.nilchk (.tmp 41)),none⟩,⟨(some 52),(.faddr 0 (.tmp 51)),none⟩,⟨(some 53),(.faddr 1 (.tmp 52)),none⟩,⟨none,(.store 1 (.tmp 53) (.tmp 50)),none⟩]) (.seq (.seq (.ops [⟨(some 54),(.mv (.tmp 0)),none⟩,⟨(some 55),(.nilchk (.tmp 54)),none⟩,⟨(some 56),(.faddr 0 (.tmp 55)),none⟩,⟨(some 57),(.faddr 1 (.tmp 56)),none⟩,⟨(some 58),(.load false 1 (.tmp 57)),none⟩,⟨(some 59),(.lenS (.tmp 58)),none⟩,⟨(some 60),(.mv (.const (.int .i64 (.ofNat 0)))),none⟩]) (.block 0 (.loop (.seq (.ops [⟨(some 61),(.arith .lss (.tmp 60) (.tmp 59)),none⟩]) (.seq (.cond (.tmp 61) .skip (.exit 0)) (.seq (.block 1 (.seq (.ops [⟨(some 62),(.mv (.tmp 60)),none⟩,⟨(some 8),(.mv (.tmp 62)),none⟩]) (.seq (.drawn 0 [⟨⟨(some 63),(.mv (.tmp 0)),none⟩,.pure,0,0,0⟩,⟨⟨(some 64),(.nilchk (.tmp 63)),none⟩,.pure,0,0,1⟩,⟨⟨(some 65),(.faddr 0 (.tmp 64)),none⟩,.pure,0,0,3⟩,⟨⟨(some 66),(.faddr 1 (.tmp 65)),none⟩,.pure,0,0,7⟩,⟨⟨(some 67),(.load false 1 (.tmp 66)),none⟩,.read,0,0,15⟩,⟨⟨(some 68),(.mv (.tmp 8)),none⟩,.pure,0,0,0⟩,⟨⟨(some 69),(.iaddrS 14 (.tmp 67) (.tmp 68)),none⟩,.pure,0,0,63⟩,⟨⟨(some 70),(.faddr 11 (.tmp 69)),none⟩,.pure,0,0,127⟩,⟨⟨(some 71),(.load false 1 (.tmp 70)),none⟩,.read,0,0,255⟩,⟨⟨(some 72),(.load false 1 (.tmp 3)),none⟩,.read,0,0,0⟩,⟨⟨(some 73),(.eql false .pi (.tmp 71) (.tmp 72)),none⟩,.pure,0,0,1023⟩]) (.cond (.tmp 73) (.ops [⟨(some 74),(.mv (.tmp 0)),none⟩,⟨(some 75),(.nilchk (.tmp 74)),none⟩,⟨(some 76),(.faddr 0 (.tmp 75)),none⟩,⟨(some 77),(.faddr 1 (.tmp 76)),none⟩,⟨(some 78),(.load false 1 (.tmp 77)),none⟩,⟨(some 79),(.mv (.tmp 8)),none⟩,⟨(some 80),(.iaddrS 14 (.tmp 78) (.tmp 79)),none⟩,⟨(some 81),(.faddr 11 (.tmp 80)),none⟩,⟨none,(.store 1 (.tmp 81) (.const (.int .i64 (.ofNat 0)))),none⟩]) .skip)))) (.ops [⟨(some 82),(.arith .add (.tmp 60) (.const (.int .i64 (.ofNat 1)))),none⟩,⟨(some 60),(.mv (.tmp 82)),none⟩]))))))) (.seq (.seq (.drawn 1 [⟨⟨(some 83),(.mv (.tmp 0)),none⟩,.pure,0,0,0⟩,⟨⟨(some 84),(.nilchk (.tmp 83)),none⟩,.pure,0,0,1⟩,⟨⟨(some 85),(.faddr 0 (.tmp 84)),none⟩,.pure,0,0,3⟩,⟨⟨(some 86),(.faddr 7 (.tmp 85)),none⟩,.pure,0,0,7⟩,⟨⟨(some 87),(.load false 1 (.tmp 86)),none⟩,.read,0,0,15⟩,⟨⟨(some 88),(.mv (.tmp 0)),none⟩,.pure,0,0,0⟩,⟨⟨(some 89),(.nilchk (.tmp 88)),none⟩,.pure,0,0,32⟩,⟨⟨(some 90),(.faddr 0 (.tmp 89)),none⟩,.pure,0,0,96⟩,⟨⟨(some 91),(.faddr 8 (.tmp 90)),none⟩,.pure,0,0,224⟩,⟨⟨(some 92),(.load false 1 (.tmp 91)),none⟩,.read,0,0,480⟩,⟨⟨(some 93),(.bslice 1 2 [(.slice none 0 0 false 0)] [⟨0,(.tmp 87)⟩,⟨1,(.tmp 92)⟩]),none⟩,.dalloc,0,0,1023⟩,⟨⟨(some 94),(.lenS (.tmp 93)),none⟩,.pure,0,0,2047⟩,⟨⟨(some 95),(.mv (.const (.int .i64 (.ofNat 0)))),none⟩,.pure,0,0,0⟩]) (.block 2 (.loop (.seq (.ops [⟨(some 96),(.arith .lss (.tmp 95) (.tmp 94)),none⟩]) (.seq (.cond (.tmp 96) .skip (.exit 2)) (.seq (.block 3 (.seq (.ops [⟨(some 97),(.iaddrS 1 (.tmp 93) (.tmp 95)),none⟩,⟨(some 98),(.load false 1 (.tmp 97)),none⟩,⟨(some 10),(.mv (.tmp 98)),none⟩]) (.seq (.ops [⟨(some 99),(.mv (.tmp 10)),none⟩,⟨(some 100),(.lenS (.tmp 99)),none⟩,⟨(some 101),(.mv (.const (.int .i64 (.ofNat 0)))),none⟩]) (.block 4 (.loop (.seq (.ops [⟨(some 102),(.arith .lss (.tmp 101) (.tmp 100)),none⟩]) (.seq (.cond (.tmp 102) .skip (.exit 4)) (.seq (.block 5 (.seq (.ops [⟨(some 103),(.mv (.tmp 101)),none⟩,⟨(some 11),(.mv (.tmp 103)),none⟩]) (.drawn 0 [⟨⟨(some 104),(.mv (.tmp 10)),none⟩,.pure,0,0,0⟩,⟨⟨(some 105),(.mv (.tmp 11)),none⟩,.pure,0,0,0⟩,⟨⟨(some 106),(.iaddrS 7 (.tmp 104) (.tmp 105)),none⟩,.pure,0,0,3⟩,⟨⟨(some 107),(.faddr 3 (.tmp 106)),none⟩,.pure,0,0,7⟩,⟨⟨(some 108),(.mv (.tmp 10)),none⟩,.pure,0,0,0⟩,⟨⟨(some 109),(.mv (.tmp 11)),none⟩,.pure,0,0,0⟩,⟨⟨(some 110),(.iaddrS 7 (.tmp 108) (.tmp 109)),none⟩,.pure,0,0,48⟩,⟨⟨(some 111),(.faddr 6 (.tmp 110)),none⟩,.pure,0,0,112⟩,⟨⟨(some 112),(.load false 1 (.tmp 111)),none⟩,.read,0,0,240⟩,⟨⟨(some 113),(.load false 1 (.tmp 3)),none⟩,.read,0,0,0⟩,⟨⟨(some 114),(.call (.func (F 295)) [(.tmp 107),(.tmp 112),(.tmp 113)]),none⟩,.chain,0,0,1023⟩]))) (.ops [⟨(some 115),(.arith .add (.tmp 101) (.const (.int .i64 (.ofNat 1)))),none⟩,⟨(some 101),(.mv (.tmp 115)),none⟩]))))))))) (.ops [⟨(some 116),(.arith .add (.tmp 95) (.const (.int .i64 (.ofNat 1)))),none⟩,⟨(some 95),(.mv (.tmp 116)),none⟩]))))))) (.seq (.drawn 0 [⟨⟨(some 117),(.mv (.tmp 0)),none⟩,.pure,0,0,0⟩,⟨⟨(some 118),(.nilchk (.tmp 117)),none⟩,.pure,0,0,1⟩,⟨⟨(some 119),(.faddr 0 (.tmp 118)),none⟩,.pure,0,0,3⟩,⟨⟨(some 120),(.faddr 18 (.tmp 119)),none⟩,.pure,0,0,7⟩,⟨⟨(some 121),(.faddr 1 (.tmp 120)),none⟩,.pure,0,0,15⟩,⟨⟨(some 122),(.mv (.tmp 0)),none⟩,.pure,0,0,0⟩,⟨⟨(some 123),(.nilchk (.tmp 122)),none⟩,.pure,0,0,32⟩,⟨⟨(some 124),(.faddr 0 (.tmp 123)),none⟩,.pure,0,0,96⟩,⟨⟨(some 125),(.faddr 18 (.tmp 124)),none⟩,.pure,0,0,224⟩,⟨⟨(some 126),(.faddr 3 (.tmp 125)),none⟩,.pure,0,0,480⟩,⟨⟨(some 127),(.load false 1 (.tmp 126)),none⟩,.read,0,0,992⟩,⟨⟨(some 128),(.load false 1 (.tmp 3)),none⟩,.read,0,0,0⟩,⟨⟨(some 129),(.call (.func (F 295)) [(.tmp 121),(.tmp 127),(.tmp 128)]),none⟩,.chain,0,0,4095⟩]) (.seq (.ops [⟨(some 130),(.load true 14 (.tmp 6)),none⟩,⟨none,(.store 14 (.tmp 4) (.tmp 130)),none⟩]) .ret)))))
theorem leave0_ok (hB:Base P K F T) {bw:Nat} {d:SD} {t:SH} (hs:WH bw d t s) (hd:d.Small) (he:d.Even) {id:Int} {i:Nat} {o:OD} (hi:d.find id=some i) (hoi:d.ob[i]?=some o) {p:Nat} (hp:p < d.pl.length) (ho:o.owner=.ofNat p)
  (hst:d.st=[]) (hwa:d.wa=[]) (hco:d.co≠id) (hbl:∀ o∈d.ob,o.block≠id) :
  Tri P K (F 262) [.ptr (some ⟨bw,0,0⟩),iv id] s (fun w s'=>w=.agg o.row∧WH bw (d.left id i o.zone p) t s'):=by
 obtain⟨pv,ov,lv,hv,gv,ev,fv,sv,wv,n,k1,k2⟩:=hs
 refine Tri.perm k1.symm ?_
 refine hB.f262.tri (by simp) ?_
 unfold a262
 have hil:i < d.ob.length:=(List.getElem?_eq_some_iff.1 hoi).1
 have hn:=hd.n1
 refine WP.seq (WP.ops (WO.a (.box rfl rfl) fun b3=>WO.a (.alloc rfl) fun b4=>WO.nil ?_))
 refine WP.seq (WP.drawn0 (WD.pu (.mv rfl) (WD.pu (.nilchk rfl rfl) (WD.pu (.faddr rfl) (WD.ld rfl .nil (.load rfl (.there (.there .here)) rfl rfl rfl) (WD.ld rfl .nil (.load rfl (.there .here) rfl rfl rfl) (WD.ch .nil (WS.callF rfl rfl (find_ok hB (d:=d) ((k2.r fun p hp=>by simp [hp]).ob) hd) ?_))))))))
 rintro w _ ⟨rfl,m,rfl⟩
 rw [hi]
 refine WD.pu (.mv rfl) (WD.nil .nil ?_ (fun o h=>nomatch h))
 obtain⟨oo,r,e1,e2,e3⟩:=k2.ob_at
 have hSrc:Src (m++((b4,.r false [zObj] 14)::(b3,.r false [[iv id]] 1)::(bw,.r false [d.cells pv ov lv hv gv ev fv sv wv] 25)::(n++t))) 14 ov (obR d.ob):=(k2.r fun p hp=>by simp [hp]).ob
 obtain⟨bo,ro,no,co,so,roo,MO,rfl,hbo,hno,hMo⟩:=hSrc.at (i:=i) (by simpa [obR] using hil)
 have hrow:(obR d.ob)[i]?=some o.row:=by rw [obR,List.getElem?_map,hoi];rfl
 refine WP.seq (WP.ops (WO.r (.mv rfl) (WO.r (.nilchk rfl rfl) (WO.r (.faddr rfl) (WO.r (.faddr rfl) (WO.r (.load rfl (.app (.there (.there .here))) rfl rfl rfl) (WO.r (.mv rfl) (WO.r (.iaddrS rfl rfl hno (by omega)) (WO.r (.load rfl hbo (hMo.trans hrow) rfl rfl) (WO.a (.alloc rfl) fun b6=>WO.w (WS.store rfl rfl rfl .here rfl rfl (WO.nil ?_))))))))))))
 -- the list in which it stands
 have hW:WH bw d ([(b6,.r false [o.row] 14),(b4,.r false [zObj] 14),(b3,.r false [[iv id]] 1)]++t) ((b6,.r false [o.row] 14)::(m++((b4,.r false [zObj] 14)::(b3,.r false [[iv id]] 1)::(bw,.r false [d.cells pv (.slice (some ⟨bo,ro,0⟩) no co so 14) lv hv gv ev fv sv wv] 25)::(n++t)))):=
  ⟨_,_,_,_,_,_,_,_,_,m++n,perm_ct fun c w h0 h1 h2 hq=>by simp only [h1,h2,h0];omega,k2.junk⟩
 refine WP.seq (WP.seq (WP.ops (WO.r (.mv rfl) (WO.r (.faddr rfl) (WO.r (.load rfl .here rfl rfl rfl) (WO.r (.faddr rfl) (WO.r (.load rfl .here rfl rfl rfl) (WO.w (WS.callF (vs:=[.ptr (some ⟨bw,0,0⟩),iv o.zone,.int .i64 (.ofNat p)]) rfl (by rw [<- ho];rfl) (list_ok hB hW he (z:=o.zone) hp) ?_)))))))))
 rintro w7 s7 ⟨q1,q2⟩
 -- behind it: the rest of the walk
 have tail:∀ (d2:SD) (s8:SH) (l8:Sl),d2.ob=d.ob->d2.st=[]->d2.wa=[]->d2.co=d.co->({ d2 with ob:=d.ob.eraseIdx i }:SD)=d.left id i o.zone p->WH bw d2 ([(b6,.r false [o.row] 14),(b4,.r false [zObj] 14),(b3,.r false [[iv id]] 1)]++t) s8 ->
   lk l8 0=some (.ptr (some ⟨bw,0,0⟩))->lk l8 3=some (.ptr (some ⟨b3,0,0⟩))->lk l8 4=some (.ptr (some ⟨b4,0,0⟩))->lk l8 5=some (.int .i64 (.ofNat i))->lk l8 6=some (.ptr (some ⟨b6,0,0⟩))->WP P K none 131 (a262b F T) l8 [] s8 (Fin P [.cell 4 (T 45)] fun w s'=>w=.agg o.row∧WH bw (d.left id i o.zone p) t s') (fun _ _ _ _=>False) (Fin P [.cell 4 (T 45)] fun w s'=>w=.agg o.row∧WH bw (d.left id i o.zone p) t s'):=by
  intro d2 s8 l8 hob hst2 hwa2 hco2 hd2 hW8 x0 x3 x4 x5 x6
  obtain⟨pv,ov,lv,hv,gv,ev,fv,sv,wv,n2,h8,g8⟩:=hW8
  obtain⟨oo,r,e1,e2,e3⟩:=g8.ob_at
  rw [hob] at e2
  unfold a262b
  refine WP.pre (s':=[(bw,.r false [d2.cells pv ov lv hv gv ev fv sv wv] 25)]++(oo++(r++((b6,.r false [o.row] 14)::(b4,.r false [zObj] 14)::(b3,.r false [[iv id]] 1)::t)))) (perm_ct fun c w h0 h1 h2 hq=>by rw [hq _ _ h8];simp only [h1,h2,h0,hq _ _ e1];omega) ?_
  refine WP.seq (WP.ops (WO.r (.mv x0) (WO.r (.mv x0) (WO.r (.nilchk rfl rfl) (WO.r (.faddr rfl) (WO.r (.faddr rfl) (WO.r (.load rfl .here rfl rfl rfl) (WO.r (.mv x5) (WO.r (.mv x5) (WO.r (.arith rfl rfl (add_n (by omega))) ?_))))))))))
  have hdel:Tri P K (F 294) [ov,.int .i64 (.ofNat i),.int .i64 (.ofNat (i+1))] ([(bw,.r false [d2.cells pv ov lv hv gv ev fv sv wv] 25)]++(oo++(r++((b6,.r false [o.row] 14)::(b4,.r false [zObj] 14)::(b3,.r false [[iv id]] 1)::t)))) (fun v' s'=>∃ o',s'=[(bw,.r false [d2.cells pv ov lv hv gv ev fv sv wv] 25)]++(o'++(r++((b6,.r false [o.row] 14)::(b4,.r false [zObj] 14)::(b3,.r false [[iv id]] 1)::t)))∧Gr 14 v' (obR (d.ob.eraseIdx i)) o'):=
   hB.c294.tri (by simp) (del_ok e2 (by omega) rfl (by simpa [obR] using hil) (by simp only [obR,List.length_map];omega) fun v' o' hG=>⟨o',rfl,by rw [obR_erase];exact hG⟩)
  refine WO.w (WS.callF rfl rfl hdel ?_)
  rintro v' _ ⟨o',rfl,hG⟩
  refine WO.r (.nilchk rfl rfl) (WO.r (.faddr rfl) (WO.r (.faddr rfl) (WO.w (WS.store rfl rfl hG.part .here rfl rfl (WO.nil ?_)))))
  have g9:=e3 v' (d.ob.eraseIdx i) o' hG
  rw [hd2] at g9
  have hob9:(d.left id i o.zone p).ob=d.ob.eraseIdx i:=by rw [<- hd2]
  have hco9:(d.left id i o.zone p).co=d.co:=by rw [<- hd2];exact hco2
  have hst9:(d.left id i o.zone p).st=[]:=by rw [<- hd2];exact hst2
  have hwa9:(d.left id i o.zone p).wa=[]:=by rw [<- hd2];exact hwa2
  have hcells:d2.cells pv v' lv hv gv ev fv sv wv=(d.left id i o.zone p).cells pv v' lv hv gv ev fv sv wv:=by rw [<- hd2];rfl
  refine WP.weak (s':=(bw,.r false [(d.left id i o.zone p).cells pv v' lv hv gv ev fv sv wv] 25)::(o'++(r++((b6,.r false [o.row] 14)::(b4,.r false [zObj] 14)::(b3,.r false [[iv id]] 1)::t)))) (fun _ _ h=>h) (fun _ _ h=>by rw [<- hcells];exact h) ?_
  generalize d.left id i o.zone p=d3 at *
  have hR:StD (o'++r) pv v' lv hv gv ev fv sv wv d3:=g9.r fun p hp=>hp
  have hSrc:Src ((bw,.r false [d3.cells pv v' lv hv gv ev fv sv wv] 25)::(o'++(r++((b6,.r false [o.row] 14)::(b4,.r false [zObj] 14)::(b3,.r false [[iv id]] 1)::t)))) 14 v' (obR d3.ob):=hR.ob.mono fun p hp=>by
   rcases List.mem_append.1 hp with hp|hp <;> simp [hp]
  have hb9:(obR d3.ob).length≤1000:=by
   simp only [obR,List.length_map]
   rw [hob9]
   exact Nat.le_trans (List.length_eraseIdx_le _ _) hn.2.1
  -- blockers
  refine WP.seq (WP.seq (WP.ops (WO.r (.mv x0) (WO.r (.nilchk rfl rfl) (WO.r (.faddr rfl) (WO.r (.faddr rfl) (WO.r (.load rfl .here rfl rfl rfl) (WO.r (.lenS rfl hSrc.lenOf) (WO.r (.mv rfl) (WO.nil (WP.block ?_)))))))))))
  refine WP.loop (fun k l ds s'=>ds=[]∧∃ q,k=(obR d3.ob).length - q∧q≤(obR d3.ob).length∧s'=(bw,.r false [d3.cells pv v' lv hv gv ev fv sv wv] 25)::(o'++(r++((b6,.r false [o.row] 14)::(b4,.r false [zObj] 14)::(b3,.r false [[iv id]] 1)::t))) ∧
   ∀ j w,lk [(0,.ptr (some ⟨bw,0,0⟩)),(3,.ptr (some ⟨b3,0,0⟩)),(4,.ptr (some ⟨b4,0,0⟩)),(6,.ptr (some ⟨b6,0,0⟩)),(59,.int .i64 (.ofNat (obR d3.ob).length)),(60,.int .i64 (.ofNat q))] j=some w->lk l j=some w) ?_ (n:=(obR d3.ob).length - 0) ⟨rfl,0,rfl,Nat.zero_le _,rfl,sub_cons x0 (sub_cons x3 (sub_cons x4 (sub_cons x6 (sub_cons rfl (sub_cons rfl sub_nil)))))⟩
  rintro k l ds s' ⟨rfl,q,rfl,hq,rfl,hl⟩
  refine WP.weak hl (fun _ _ h=>h) ?_
  refine WP.seq (WP.ops (WO.r (.arith rfl rfl rfl) (WO.nil (WP.seq (WP.cond rfl (fun ht=>?_) (fun ht=>?_))))))
  ·have hlt:q < (obR d3.ob).length:=blt_iff.1 ht
   obtain⟨bq,rq,nq,cq,sq,roq,Mq,rfl,hbq,hnq,hMq⟩:=hSrc.at hlt
   have hlt':q < d3.ob.length:=by simpa [obR] using hlt
   have hrq:(obR d3.ob)[q]?=some (d3.ob[q]).row:=by rw [obR,List.getElem?_map,List.getElem?_eq_getElem hlt'];rfl
   have hbq':(d3.ob[q]).block≠id:=by
    have hm:d3.ob[q]∈d3.ob:=List.getElem_mem hlt'
    have hm2:∀ x,x∈d3.ob->x∈d.ob:=fun x hx=>by rw [hob9] at hx;exact List.mem_of_mem_eraseIdx hx
    exact hbl _ (hm2 _ hm)
   refine WP.skip (WP.seq (WP.block (WP.seq (WP.ops (WO.r (.mv rfl) (WO.r (.mv rfl) (WO.nil (WP.seq (WP.drawn0 ?_)))))))))
   refine WD.pu (.mv rfl) (WD.pu (.nilchk rfl rfl) (WD.pu (.faddr rfl) (WD.pu (.faddr rfl) (WD.ld rfl .nil (.load rfl .here rfl rfl rfl) (WD.pu (.mv rfl) (WD.pu (.iaddrS rfl rfl hnq (by omega)) (WD.pu (.faddr rfl) (WD.ld rfl .nil (.load rfl hbq (hMq.trans hrq) rfl rfl) (WD.ld rfl .nil (.load rfl (.there (.app (.app (.there (.there .here))))) rfl rfl rfl) (WD.pu (.eql rfl rfl (eqB_i _ _)) (WD.nil .nil ?_ (fun o h=>nomatch h))))))))))))
   refine WP.cond rfl (fun h=>absurd (of_decide_eq_true h) hbq') (fun _=>WP.skip ?_)
   refine WP.ops (WO.r (.arith rfl rfl (add_n (by omega))) (WO.r (.mv rfl) (WO.nil ?_)))
   exact⟨(obR d3.ob).length - (q+1),by omega,rfl,q+1,rfl,hlt,rfl,sub_cons rfl (sub_cons rfl (sub_cons rfl (sub_cons rfl (sub_cons rfl (sub_cons rfl sub_nil)))))⟩
  ·refine WP.exit ?_
   -- items
   have ls:lenOf sv=some 0:=by rw [hR.st.lenOf,hst9];rfl
   have lw:lenOf wv=some 0:=by rw [hR.wa.lenOf,hwa9];rfl
   have ps:partCells 1 sv=some [sv]:=hR.st.part
   have pw:partCells 1 wv=some [wv]:=hR.wa.part
   refine WP.seq (WP.seq (WP.drawn1 fun b9=>?_))
   refine WD.pu (.mv rfl) (WD.pu (.nilchk rfl rfl) (WD.pu (.faddr rfl) (WD.pu (.faddr rfl) (WD.ld rfl .nil (.load rfl (.there .here) rfl rfl rfl) (WD.pu (.mv rfl) (WD.pu (.nilchk rfl rfl) (WD.pu (.faddr rfl) (WD.pu (.faddr rfl) (WD.ld rfl .nil (.load rfl (.there .here) rfl rfl rfl) (WD.al (.bslice (bsrows2 rfl ps rfl pw) rfl) rfl (WD.pu (.lenS rfl rfl) (WD.pu (.mv rfl) (WD.nil (.cons .here .nil) ?_ (fun o h=>nomatch h))))))))))))))
   refine WP.block (WP.unroll (WP.seq (WP.ops (WO.r (.arith rfl rfl rfl) (WO.nil (WP.seq (WP.cond rfl (fun _=>WP.skip ?_) (fun h=>by cases h))))))))
   refine WP.seq (WP.block (WP.seq (WP.ops (WO.r (.iaddrS rfl rfl (by omega) (by omega)) (WO.r (.load rfl .here rfl rfl rfl) (WO.r (.mv rfl) (WO.nil (WP.seq (WP.ops (WO.r (.mv rfl) (WO.r (.lenS rfl ls) (WO.r (.mv rfl) (WO.nil (WP.block (WP.unroll ?_)))))))))))))))
   refine WP.seq (WP.ops (WO.r (.arith rfl rfl rfl) (WO.nil (WP.seq (WP.cond rfl (fun h=>by cases h) (fun _=>WP.exit ?_))))))
   refine WP.ops (WO.r (.arith rfl rfl (add_n (by omega))) (WO.r (.mv rfl) (WO.nil ?_)))
   refine WP.unroll (WP.seq (WP.ops (WO.r (.arith rfl rfl rfl) (WO.nil (WP.seq (WP.cond rfl (fun _=>WP.skip ?_) (fun h=>by cases h)))))))
   refine WP.seq (WP.block (WP.seq (WP.ops (WO.r (.iaddrS rfl rfl (by omega) (by omega)) (WO.r (.load rfl .here rfl rfl rfl) (WO.r (.mv rfl) (WO.nil (WP.seq (WP.ops (WO.r (.mv rfl) (WO.r (.lenS rfl lw) (WO.r (.mv rfl) (WO.nil (WP.block (WP.unroll ?_)))))))))))))))
   refine WP.seq (WP.ops (WO.r (.arith rfl rfl rfl) (WO.nil (WP.seq (WP.cond rfl (fun h=>by cases h) (fun _=>WP.exit ?_))))))
   refine WP.ops (WO.r (.arith rfl rfl (add_n (by omega))) (WO.r (.mv rfl) (WO.nil ?_)))
   refine WP.unroll (WP.seq (WP.ops (WO.r (.arith rfl rfl rfl) (WO.nil (WP.seq (WP.cond rfl (fun h=>by cases h) (fun _=>WP.exit ?_)))))))
   -- what is being played
   refine WP.seq (WP.drawn0 (WD.pu (.mv rfl) (WD.pu (.nilchk rfl rfl) (WD.pu (.faddr rfl) (WD.pu (.faddr rfl) (WD.pu (.faddr rfl) (WD.pu (.mv rfl) (WD.pu (.nilchk rfl rfl) (WD.pu (.faddr rfl) (WD.pu (.faddr rfl) (WD.pu (.faddr rfl) (WD.ld rfl .nil (.load rfl (.there .here) rfl rfl rfl) (WD.ld rfl .nil (.load rfl (.there (.there (.app (.app (.there (.there .here)))))) rfl rfl rfl) (WD.ch .nil (WS.callF rfl rfl (unname0_ok hB (.there .here) rfl rfl (by rw [hco9];exact hco)) ?_)))))))))))))))
   rintro w _ rfl
   refine WD.nil .nil ?_ (fun o h=>nomatch h)
   refine WP.seq (WP.ops (WO.r (.load rfl (.there (.there (.app (.app .here)))) rfl rfl rfl) (WO.w (WS.store rfl rfl rfl (.there (.there (.app (.app (.there .here))))) rfl rfl (WO.nil (WP.ret (Fin.mk (.cell rfl hB.t45.1 hB.t45.2 (.inl rfl) (.there (.there (.app (.app (.there .here))))) rfl rfl rfl .nil) ?_)))))))
   have fin:∀ y1 y2 y3 y4,WH bw d3 t (y4::(bw,.r false [d3.cells pv v' lv hv gv ev fv sv wv] 25)::(o'++(r++(y1::y2::y3::t)))):=fun y1 y2 y3 y4=>
    ⟨pv,v',lv,hv,gv,ev,fv,sv,wv,[y4,y1,y2,y3]++(o'++r),perm_ct fun c w h0 h1 h2 hq=>by simp only [h1,h2,h0];omega,g9.junk⟩
   exact⟨rfl,fin _ _ _ _⟩
 cases hz5:d.zone o.zone p with
 | none=>
  rw [hz5] at q2
  have q2:w7=.ptr none:=q2
  subst q2
  refine WO.r (.mv rfl) (WO.nil (WP.seq (WP.ops (WO.r (.mv rfl) (WO.r (.eql (b:=true) rfl rfl rfl) (WO.nil (WP.cond rfl (fun h=>by cases h) (fun _=>WP.skip ?_))))))))
  exact tail d s7 _ rfl hst hwa rfl (by simp only [SD.left,hz5]) q1 rfl rfl rfl rfl rfl
 | some x5=>
  obtain⟨lst,put⟩:=x5
  rw [hz5] at q2
  obtain⟨b,r5,o5,sz,L,row,x,oi,rest,rfl,p1,p2,p3,p4,p5⟩:=q2
  refine WO.r (.mv rfl) (WO.nil (WP.seq (WP.ops (WO.r (.mv rfl) (WO.r (.eql (b:=false) rfl rfl rfl) (WO.nil (WP.cond rfl (fun _=>?_) (fun h=>by cases h))))))))
  refine WP.pre p1 (WP.ops (WO.r (.mv rfl) (WO.r (.mv rfl) (WO.r (.nilchk rfl rfl) (WO.r (.load rfl .here p2 p3 rfl) (WO.r (.mkfn rfl rfl) ?_))))))
  have hl1:=SD.zone_len1 (e:=d) hd (fun _=>rfl) hz5
  have ho1:∀ row∈nR lst,row.length=1:=fun row hr=>by
   obtain⟨a,_,rfl⟩:=List.mem_map.1 hr
   rfl
  have hdel:Tri P K (F 292) [x,.func (F 293) [] [.ptr (some ⟨b3,0,0⟩)]] ([(b,.r false L sz)]++(oi++(rest++([(b6,.r false [o.row] 14),(b4,.r false [zObj] 14),(b3,.r false [[iv id]] 1)]++t)))) (fun v' s'=>∃ o' y,s'=y++([(b,.r false L sz)]++(o'++(rest++([(b6,.r false [o.row] 14),(b4,.r false [zObj] 14),(b3,.r false [[iv id]] 1)]++t))))∧Gr 1 v' (nR (lst.filter fun n=>!decide (n=id))) o'):=by
   have hcl:∀ row∈nR lst,∀ y:SH,Has b3 (.r false [[iv id]] 1) y->TriV P K (.func (F 293) [] [.ptr (some ⟨b3,0,0⟩)]) [elv false row] y (fun w s'=>w=.bool (rowN id row)∧∃ m,s'=m++y):=fun row hr y hy=>by
    obtain⟨a,_,rfl⟩:=List.mem_map.1 hr
    exact TriV.func (isId_ok hB hy)
   refine hB.c292.tri (by simp) (delF_ok (rowN id) p4 (by omega) rfl (.inr rfl) (by simp only [nR,List.length_map];omega) ho1 (fun _ row hr v hv=>?_) ?_ (fun row hr y hy=>hcl row hr y (.of_mem (hy _ (by simp)))) fun v' o' y hG=>⟨o',y,rfl,by rw [<- nR_filter];exact hG⟩)
   ·obtain⟨a,_,rfl⟩:=List.mem_map.1 hr
    rw [List.mem_singleton.1 hv];rfl
   ·refine hB.c155.tri (by simp) (idx_ok (rowN id) p4.src (by omega) (.inr rfl) (by simp only [nR,List.length_map];omega) ho1 (fun row hr y=>hcl row hr _ (.app (.of_mem (by simp)))) fun n=>⟨rfl,n,rfl⟩)
  refine WO.w (WS.callF rfl rfl hdel ?_)
  rintro v' _ ⟨o',y,rfl,hG⟩
  obtain⟨row',u1,u2⟩:=p5 v' _ o' hG
  refine WO.r (.nilchk rfl rfl) (WO.w (WS.store rfl rfl hG.part (.app .here) p2 u1 (WO.nil ?_)))
  have hsame:=SD.zone_same hz5 (lst.filter fun n=>!decide (n=id))
  exact tail (put (lst.filter fun n=>!decide (n=id))) _ _ hsame.1 (by rw [hsame.2.1,hst]) (by rw [hsame.2.2.1,hwa]) hsame.2.2.2 (by simp only [SD.left,hz5]) u2.junk rfl rfl rfl rfl rfl
end
end Go.Ev
namespace Go.Ev
section
variable {P:Program} {K:Orc} {rd:Option Nat} {nt:Nat} {l:Sl} {ds:List ADef} {s:SH} {Q Qn Qr:Po} {Qe:Nat->Po} {F:Nat->FuncId} {T:Nat->TypeId}
variable {j:Nat} {bs:List Nat} {pd:List PD} {d:Option Nat} {op:AOp} {lo hi a:Nat} {rest:List DC} {v:AV} {hs:List SH} {os:List OB} {is:List Nat}
theorem cg_some {ops:List Oper} {g:Option (Nat × Bool)} {jj:Nat} {w:Bool} (h:cg ops g=some (some (jj,w))):∃ k o,g=some (k,w)∧lget ops k=some o∧o.dst=some jj:=by
 cases g with
 | none=>cases h
 | some x=>
  obtain⟨k,w'⟩:=x
  unfold cg at h
  dsimp only at h
  split at h
  ·rename_i o ho
   split at h
   ·rename_i d0 hd0
    cases h
    exact⟨k,o,rfl,ho,hd0⟩
   ·cases h
  ·cases h
theorem wanted_eq {ops:Array Oper} {e:Tr AV} {k jj:Nat} {w b:Bool} {o:Oper} (h1:lget ops.toList k=some o) (h2:o.dst=some jj) (h3:e.get jj=some (.bool b)):wanted e ops (some (k,w))=some (b == w):=by
 unfold wanted
 simp only [h1,h2,h3]
theorem WD.yes {jj:Nat} {w b:Bool} {cls:Cls} (hj:Go.Ev.lk l jj=some (.bool b)) (hb:b=w) (h:WD P K rd (⟨⟨d,op,none⟩,cls,lo,hi,a⟩::rest) j bs pd hs os is l ds s Q):WD P K rd (⟨⟨d,op,some (jj,w)⟩,cls,lo,hi,a⟩::rest) j bs pd hs os is l ds s Q:=by
 subst hb
 intro ops anc l0 hd H0 S hS
 obtain⟨d0,r0,rfl,h1,h2,h3,h4,h5,h6,h7,h8⟩:=dcs_cons hd
 obtain⟨k,o,g1,g2,g3⟩:=cg_some h3
 have hw:wanted S.e ops d0.o.guard=some true:=by
  rw [g1,wanted_eq g2 g3 (hS.en _ _ hj),beq_self_eq_true]
 have hd':dcs ops.toList anc j ({ d0 with o:={ d0.o with guard:=none } }::r0)=some (⟨⟨d,op,none⟩,cls,lo,hi,a⟩::rest):=by
  unfold dcs
  simp only [cg,h7,h8,h1,h2,h4,h5,h6]
 obtain⟨n,S',k1,k2⟩:=h ops anc _ hd' H0 S hS
 refine⟨n,S',?_,k2⟩
 obtain⟨S1,j1,j2⟩:=(lfold_cons _ _ _ _ _).1 k1
 refine(lfold_cons _ _ _ _ _).2 ⟨S1,?_,j2⟩
 rw [<- j1]
 unfold dstep
 simp only [hw]
 rfl
theorem WD.skip {jj:Nat} {w b:Bool} {cls:Cls} (hj:Go.Ev.lk l jj=some (.bool b)) (hb:(b == w)=false) (hc:(match cls with | .pure=>true | .read=>true | _=>false)=true) (h:WD P K rd rest (j+1) bs pd hs os is (pl d .undef l) ds s Q):WD P K rd (⟨⟨d,op,some (jj,w)⟩,cls,lo,hi,a⟩::rest) j bs pd hs os is l ds s Q:=by
 intro ops anc l0 hd H0 S hS
 obtain⟨d0,r0,rfl,h1,h2,h3,h4,h5,h6,h7,h8⟩:=dcs_cons hd
 obtain⟨k,o,g1,g2,g3⟩:=cg_some h3
 have hw:wanted S.e ops d0.o.guard=some false:=by
  rw [g1,wanted_eq g2 g3 (hS.en _ _ hj),hb]
 obtain⟨n,S',k1,k2⟩:=h ops anc r0 h8 H0 { S with e:=Ev.putO S.e d .undef,j:=Nat.succ S.j } ⟨hS.en.putO d _,hS.ds,hS.hp,by show S.j+1=_;rw [hS.j],hS.bs,hS.pd,hS.hs,hS.os,hS.pi,hS.mi⟩
 refine⟨n,S',(lfold_cons _ _ _ _ _).2 ⟨_,?_,k1⟩,k2⟩
 unfold dstep
 simp only [hw,h4,h1]
 cases cls <;> first | rfl | cases hc
theorem WD.skipc {jj:Nat} {w b:Bool} (hj:Go.Ev.lk l jj=some (.bool b)) (hb:(b == w)=false) (h:WD P K rd rest (j+1) bs pd (s::hs) os is (pl d .undef l) ds s Q):WD P K rd (⟨⟨d,op,some (jj,w)⟩,.chain,lo,hi,a⟩::rest) j bs pd hs os is l ds s Q:=by
 intro ops anc l0 hd H0 S hS
 obtain⟨d0,r0,rfl,h1,h2,h3,h4,h5,h6,h7,h8⟩:=dcs_cons hd
 obtain⟨k,o,g1,g2,g3⟩:=cg_some h3
 have hw:wanted S.e ops d0.o.guard=some false:=by
  rw [g1,wanted_eq g2 g3 (hS.en _ _ hj),hb]
 obtain⟨n,S',k1,k2⟩:=h ops anc r0 h8 H0 { S with e:=Ev.putO S.e d .undef,Hs:=S.H::S.Hs,j:=Nat.succ S.j } ⟨hS.en.putO d _,hS.ds,hS.hp,by show S.j+1=_;rw [hS.j],hS.bs,hS.pd,⟨hS.hp,hS.hs⟩,hS.os,hS.pi,hS.mi⟩
 refine⟨n,S',(lfold_cons _ _ _ _ _).2 ⟨_,?_,k1⟩,k2⟩
 unfold dstep
 simp only [hw,h4,h1]
theorem WO.yes {jj:Nat} {w b:Bool} {rest:List AOper} (hj:Go.Ev.lk l jj=some (.bool b)) (hb:b=w) (h:WO P K (⟨d,op,none⟩::rest) l ds s Q):WO P K (⟨d,op,some (jj,w)⟩::rest) l ds s Q:=
 WO.guard hj (fun _=>h) (fun h=>absurd hb h)
theorem WO.skip {jj:Nat} {w b:Bool} {rest:List AOper} (hj:Go.Ev.lk l jj=some (.bool b)) (hb:(b == w)=false) (h:WO P K rest (pl d .undef l) ds s Q):WO P K (⟨d,op,some (jj,w)⟩::rest) l ds s Q:=
 WO.guard hj (fun h=>by subst h;rw [beq_self_eq_true] at hb;cases hb) (fun _=>h)
theorem wanted_und {ops:Array Oper} {e:Tr AV} {k jj:Nat} {w:Bool} {o:Oper} (h1:lget ops.toList k=some o) (h2:o.dst=some jj) (h3:e.get jj=some .undef):wanted e ops (some (k,w))=some false:=by
 unfold wanted
 simp only [h1,h2,h3]
 rfl
theorem WD.skipu {jj:Nat} {w:Bool} {cls:Cls} (hj:Go.Ev.lk l jj=some .undef) (hc:(match cls with | .pure=>true | .read=>true | _=>false)=true) (h:WD P K rd rest (j+1) bs pd hs os is (pl d .undef l) ds s Q):WD P K rd (⟨⟨d,op,some (jj,w)⟩,cls,lo,hi,a⟩::rest) j bs pd hs os is l ds s Q:=by
 intro ops anc l0 hd H0 S hS
 obtain⟨d0,r0,rfl,h1,h2,h3,h4,h5,h6,h7,h8⟩:=dcs_cons hd
 obtain⟨k,o,g1,g2,g3⟩:=cg_some h3
 have hw:wanted S.e ops d0.o.guard=some false:=by
  rw [g1,wanted_und g2 g3 (hS.en _ _ hj)]
 obtain⟨n,S',k1,k2⟩:=h ops anc r0 h8 H0 { S with e:=Ev.putO S.e d .undef,j:=Nat.succ S.j } ⟨hS.en.putO d _,hS.ds,hS.hp,by show S.j+1=_;rw [hS.j],hS.bs,hS.pd,hS.hs,hS.os,hS.pi,hS.mi⟩
 refine⟨n,S',(lfold_cons _ _ _ _ _).2 ⟨_,?_,k1⟩,k2⟩
 unfold dstep
 simp only [hw,h4,h1]
 cases cls <;> first | rfl | cases hc
theorem WD.dm {b:Nat} (k:WD P K rd rest (j+1) bs (⟨j,b,.m []⟩::pd) hs os (j::is) (pl d (.map (some b)) l) ds s Q):WD P K rd (⟨⟨d,.mkmap,none⟩,.dmap,lo,hi,a⟩::rest) j (b::bs) pd hs os is l ds s Q:=by
 refine WD.step rfl ?_ k
 intro ops anc d0 H0 S h1 h2 h3 h4 h5 h6 h7 hS
 obtain⟨rfl,hb⟩:=hS.bs
 refine⟨0,{ S with e:=Ev.putO S.e d (.map (some S.nid)),j:=Nat.succ S.j,nid:=Nat.succ S.nid,pend:=⟨S.j,S.nid,.map [],0,[]⟩::S.pend },?_,⟨hS.en.putO d _,hS.ds,hS.hp,by show S.j+1=_;rw [hS.j],hb,⟨⟨hS.j,rfl,(fun h=>by cases h),rfl⟩,hS.pd⟩,hS.hs,hS.os,fun p hp=>?_,fun p hp=>List.mem_cons_of_mem _ (hS.mi p hp)⟩⟩
 ·unfold dstep
  rw [h3,h4]
  simp only [wanted,h2,allocOf,h1]
 ·cases hp with
  | head=>rw [show (⟨S.j,S.nid,.map [],0,[]⟩:Pend).i=j from hS.j];exact List.mem_cons_self ..
  | tail _ hp=>exact List.mem_cons_of_mem _ (hS.pi p hp)
theorem WD.in1 {b i:Nat} {lit:Bool} {kk:EqP} {m q x:Operand} {kv vv:AV} {es:List (AV × AV)} (hm:opl l m=some (.map (some b))) (hk:opl l q=some kv) (hx:opl l x=some vv) (ha:bit a i=true) (hl:lookIn kk kv es=some none) (hp:primEq kk kv kv=some true)
  (k:WD P K rd rest (j+1) bs [⟨i,b,.m (lapp es [(kv,vv)])⟩] hs os is (pl d .undef l) ds s Q):WD P K rd (⟨⟨d,.ins lit kk m q x,none⟩,.dins,lo,hi,a⟩::rest) j bs [⟨i,b,.m es⟩] hs os is l ds s Q:=by
 refine WD.step rfl ?_ k
 intro ops anc d0 H0 S h1 h2 h3 h4 h5 h6 h7 hS
 obtain⟨p,hp1,q1,q2,q3,q4⟩:∃ p,S.pend=[p]∧p.i=i∧p.id=b∧p.o=.map es∧p.i∈is:=by
  have h:=hS.pd
  have hpi:=hS.pi
  cases hpd:S.pend with
  | nil=>rw [hpd] at h;exact h.elim
  | cons p ps=>
   rw [hpd] at h
   cases ps with
   | nil=>
    obtain⟨⟨w1,w2,w3,w4⟩,_⟩:=h
    exact⟨p,rfl,w1,w2,Option.some.inj w4,hpi p (by rw [hpd];exact List.mem_cons_self ..)⟩
   | cons _ _=>exact h.2.elim
 refine⟨0,{ S with e:=Ev.putO S.e d .undef,j:=Nat.succ S.j,pend:=[⟨p.i,p.id,.map (lapp es [(kv,vv)]),Nat.lor p.ins (Nat.shiftLeft 1 j),lapp p.ent [(j,kv,vv)]⟩] },?_,⟨hS.en.putO d _,hS.ds,hS.hp,by show S.j+1=_;rw [hS.j],hS.bs,⟨⟨q1,q2,(fun h=>by cases h),rfl⟩,trivial⟩,hS.hs,hS.os,fun p' hp'=>?_,hS.mi⟩⟩
 ·have hins:insPend kk kv vv b j a [p]=some (true,[⟨p.i,p.id,.map (lapp es [(kv,vv)]),Nat.lor p.ins (Nat.shiftLeft 1 j),lapp p.ent [(j,kv,vv)]⟩]):=by
   unfold insPend
   refine(lfold_cons _ _ _ _ _).2 ⟨_,?_,rfl⟩
   rw [q2,bq_self,q1,ha,q3]
   dsimp only
   rw [hl]
   dsimp only
   rw [hp]
  unfold dstep
  rw [h3,h4,hS.j]
  simp only [wanted,h7,h2,opl_ok hS.en hm,opl_ok hS.en hk,opl_ok hS.en hx,hp1,hins,h1]
  try rw [hS.j]
 ·rw [List.mem_singleton.1 hp']
  exact q4
end
end Go.Ev
namespace Go.Ev
section
variable {P:Program} {K:Orc} {rd:Option Nat} {nt:Nat} {l:Sl} {ds:List ADef} {s:SH} {Q Qn Qr:Po} {Qe:Nat->Po} {F:Nat->FuncId} {T:Nat->TypeId}
@[reducible] def evRow (k a b n m:Int) (it:ID):List AV:=[iv k,iv a,iv b,iv n,iv m,nilS,iv it.id,iv it.kind,iv it.ctrl,iv it.obj,iv it.card,iv it.abil,nilS]
theorem mayNew_ok (hB:Base P K F T) {bw:Nat} {d:SD} {t:SH} (hs:WH bw d t s) (hd:d.Small) (he:d.Even) {b n m:Int} {it:ID} {fn:AV} {p:Nat} (hp:p < d.pl.length) :
  Tri P K (F 203) [.ptr (some ⟨bw,0,0⟩),.agg (evRow 1 (.ofNat p) b n m it),.agg [.bool true,.bool false,.bool false,fn]] s (fun w s'=>w=iv 0∧WH bw d t s'):=by
 obtain⟨pv,ov,lv,hv,gv,ev,fv,sv,wv,nn,k1,k2⟩:=hs
 refine Tri.perm k1.symm ?_
 refine hB.f203.tri (by simp) ?_
 unfold a203
 refine WP.seq (WP.ops (WO.a (.box rfl rfl) fun b4=>WO.a (.box rfl rfl) fun b5=>WO.r (.mv rfl) (WO.nil ?_)))
 refine WP.seq (WP.ops (WO.r (.mkfn rfl rfl) (WO.r (.mv rfl) (WO.nil (WP.seq (WP.block ?_))))))
 have hR:∀ x y z,StD (x::y::z::(nn++t)) pv ov lv hv gv ev fv sv wv d:=fun x y z=>k2.r fun p hp=>by simp [hp]
 have lp:lenOf pv=some d.pl.length:=by rw [(hR (0,.junk) (0,.junk) (0,.junk)).pl.lenOf];simp [plR]
 refine WP.seq (WP.drawn0 (WD.pu (.mv rfl) (WD.pu (.nilchk rfl rfl) (WD.pu (.faddr rfl) (WD.ld rfl .nil (.load rfl (.there (.there .here)) rfl rfl rfl) (WD.ch .nil (WS.callF rfl rfl (even_ok hB (hR _ _ _) ⟨he.lb,he.hd,he.gr,he.ex⟩) ?_)))))))
 rintro w _ ⟨rfl,m1,rfl⟩
 refine(WD.pu (.un rfl rfl) (WD.pu (.mv rfl) (WD.yes rfl rfl (WD.pu (.faddr rfl) (WD.yes rfl rfl (WD.ld rfl .nil (.load rfl (.app .here) rfl rfl rfl) (WD.yes rfl rfl (WD.pu (.mv rfl) (WD.yes rfl rfl (WD.pu (.faddr rfl) (WD.yes rfl rfl (WD.ld rfl .nil (.load rfl (.app (.there .here)) rfl rfl rfl) (WD.yes rfl rfl (WD.pu (.arith rfl rfl rfl) (WD.yes rfl rfl (WD.pu (.mv rfl) (WD.yes rfl rfl (WD.pu (.faddr rfl) (WD.yes rfl rfl (WD.ld rfl .nil (.load rfl (.app (.there .here)) rfl rfl rfl) (WD.yes rfl rfl (WD.pu (.mv rfl) (WD.yes rfl rfl (WD.pu (.nilchk rfl rfl) (WD.yes rfl rfl (WD.pu (.faddr rfl) (WD.yes rfl rfl (WD.pu (.faddr rfl) (WD.yes rfl rfl (WD.ld rfl .nil (.load rfl (.app (.there (.there .here))) rfl rfl rfl) (WD.yes rfl rfl (WD.pu (.lenS rfl lp) (WD.yes rfl rfl (WD.pu (.arith rfl rfl (geq_n hp)) (WD.yes rfl rfl (WD.pu (.pick0 rfl rfl) (WD.yes rfl rfl (WD.pu (.pick1 rfl rfl) (WD.pu (.pick0 rfl rfl) (WD.pu (.mv rfl) (WD.nil .nil ?_ (fun o h=>nomatch h))))))))))))))))))))))))))))))))))))))))))
 refine WP.cond rfl (fun h=>Bool.noConfusion (show false=true from h)) (fun _=>?_)
 refine WP.seq (WP.seq (WP.drawn0 (WD.pu (.faddr rfl) (WD.ld rfl .nil (.load rfl (.app .here) rfl rfl rfl) (WD.pu (.mv rfl) (WD.skip rfl rfl rfl (WD.skip rfl rfl rfl (WD.skip rfl rfl rfl (WD.skip rfl rfl rfl (WD.skip rfl rfl rfl (WD.skip rfl rfl rfl (WD.skipc rfl rfl (WD.skip rfl rfl rfl (WD.pu (.pick0 rfl rfl) (WD.pu (.mv rfl) (WD.nil .nil ?_ (fun o h=>nomatch h)))))))))))))))))
 refine WP.cond rfl (fun h=>Bool.noConfusion (show false=true from h)) (fun _=>WP.ops (WO.r (.faddr rfl) (WO.r (.load rfl (.app .here) rfl rfl rfl) (WO.r (.mv rfl) (WO.skip rfl rfl (WO.skip rfl rfl (WO.skip rfl rfl (WO.skip rfl rfl (WO.skip rfl rfl (WO.r (.pick0 rfl rfl) (WO.r (.mv rfl) (WO.nil ?_))))))))))))
 refine WP.cond rfl (fun h=>Bool.noConfusion (show false=true from h)) (fun _=>WP.seq (WP.ops (WO.r (.faddr rfl) (WO.r (.load rfl (.app (.there .here)) rfl rfl rfl) (WO.r (.eql rfl rfl (eqB_i _ _)) (WO.r (.mv rfl) (WO.skip rfl rfl (WO.skip rfl rfl (WO.skip rfl rfl (WO.r (.pick0 rfl rfl) (WO.r (.mv rfl) (WO.skip rfl rfl (WO.skip rfl rfl (WO.skip rfl rfl (WO.skip rfl rfl (WO.skip rfl rfl (WO.r (.pick0 rfl rfl) (WO.r (.mv rfl) (WO.nil ?_)))))))))))))))))))
 refine WP.cond rfl (fun h=>Bool.noConfusion (show false=true from h)) (fun _=>WP.seq (WP.seq (WP.ops (WO.r (.faddr rfl) (WO.r (.load rfl (.app (.there .here)) rfl rfl rfl) (WO.r (.eql rfl rfl (eqB_i _ _)) (WO.r (.mv rfl) (WO.skip rfl rfl (WO.skip rfl rfl (WO.skip rfl rfl (WO.skip rfl rfl (WO.skip rfl rfl (WO.skip rfl rfl (WO.skip rfl rfl (WO.skip rfl rfl (WO.r (.pick0 rfl rfl) (WO.r (.mv rfl) (WO.nil ?_))))))))))))))))))
 refine WP.cond rfl (fun h=>Bool.noConfusion (show false=true from h)) (fun _=>WP.ops (WO.r (.faddr rfl) (WO.r (.load rfl (.app (.there .here)) rfl rfl rfl) (WO.r (.eql rfl rfl (eqB_i _ _)) (WO.r (.mv rfl) (WO.skip rfl rfl (WO.skip rfl rfl (WO.skip rfl rfl (WO.skip rfl rfl (WO.skip rfl rfl (WO.skip rfl rfl (WO.skip rfl rfl (WO.skip rfl rfl (WO.r (.pick0 rfl rfl) (WO.r (.mv rfl) (WO.nil ?_))))))))))))))))
 refine WP.cond rfl (fun h=>Bool.noConfusion (show false=true from h)) (fun _=>WP.seq (WP.drawn0 (WD.pu (.faddr rfl) (WD.ld rfl .nil (.load rfl (.app (.there .here)) rfl rfl rfl) (WD.pu (.eql rfl rfl (eqB_i _ _)) (WD.pu (.mv rfl) (WD.skip rfl rfl rfl (WD.skip rfl rfl rfl (WD.skip rfl rfl rfl (WD.skip rfl rfl rfl (WD.skip rfl rfl rfl (WD.skip rfl rfl rfl (WD.skip rfl rfl rfl (WD.skip rfl rfl rfl (WD.skip rfl rfl rfl (WD.skip rfl rfl rfl (WD.skip rfl rfl rfl (WD.skip rfl rfl rfl (WD.skipc rfl rfl (WD.skip rfl rfl rfl (WD.pu (.pick0 rfl rfl) (WD.pu (.mv rfl) (WD.nil .nil ?_ (fun o h=>nomatch h))))))))))))))))))))))))
 refine WP.cond rfl (fun h=>Bool.noConfusion (show false=true from h)) (fun _=>WP.skip ?_)
 refine WP.seq (WP.ops (WO.r (.mv rfl) (WO.nil (WP.ret (Fin.mk (.tmp rfl .nil) ?_)))))
 refine⟨rfl,?_⟩
 have fin:∀ x y,WH bw d t (m1++(x::y::(bw,.r false [d.cells pv ov lv hv gv ev fv sv wv] 25)::(nn++t))):=fun x y=>⟨pv,ov,lv,hv,gv,ev,fv,sv,wv,(m1++[x,y])++nn,perm_ct fun c w h0 h1 h2 hq=>by simp only [h1,h2,h0];omega,k2.junk⟩
 exact fin _ _
theorem mayCease_ok (hB:Base P K F T) {bw:Nat} {d:SD} {t:SH} (hs:WH bw d t s) (hd:d.Small) (he:d.Even) {a b n m:Int} {it:ID} {fn:AV} {i:Nat} (hi:d.find a=some i) :
  Tri P K (F 203) [.ptr (some ⟨bw,0,0⟩),.agg (evRow 25 a b n m it),.agg [.bool false,.bool true,.bool false,fn]] s (fun w s'=>w=iv 0∧WH bw d t s'):=by
 obtain⟨pv,ov,lv,hv,gv,ev,fv,sv,wv,nn,k1,k2⟩:=hs
 refine Tri.perm k1.symm ?_
 refine hB.f203.tri (by simp) ?_
 unfold a203
 refine WP.seq (WP.ops (WO.a (.box rfl rfl) fun b4=>WO.a (.box rfl rfl) fun b5=>WO.r (.mv rfl) (WO.nil ?_)))
 refine WP.seq (WP.ops (WO.r (.mkfn rfl rfl) (WO.r (.mv rfl) (WO.nil (WP.seq (WP.block ?_))))))
 have hR:∀ x y z,StD (x::y::z::(nn++t)) pv ov lv hv gv ev fv sv wv d:=fun x y z=>k2.r fun p hp=>by simp [hp]
 have lp:lenOf pv=some d.pl.length:=by rw [(hR (0,.junk) (0,.junk) (0,.junk)).pl.lenOf];simp [plR]
 refine WP.seq (WP.drawn0 (WD.pu (.mv rfl) (WD.pu (.nilchk rfl rfl) (WD.pu (.faddr rfl) (WD.ld rfl .nil (.load rfl (.there (.there .here)) rfl rfl rfl) (WD.ch .nil (WS.callF rfl rfl (even_ok hB (hR _ _ _) ⟨he.lb,he.hd,he.gr,he.ex⟩) ?_)))))))
 rintro w _ ⟨rfl,m1,rfl⟩
 refine(WD.pu (.un rfl rfl) (WD.pu (.mv rfl) (WD.yes rfl rfl (WD.pu (.faddr rfl) (WD.yes rfl rfl (WD.ld rfl .nil (.load rfl (.app .here) rfl rfl rfl) (WD.yes rfl rfl (WD.pu (.mv rfl) (WD.skip rfl rfl rfl (WD.skip rfl rfl rfl (WD.skip rfl rfl rfl (WD.skip rfl rfl rfl (WD.skipu rfl rfl (WD.skipu rfl rfl (WD.skipu rfl rfl (WD.skipu rfl rfl (WD.skipu rfl rfl (WD.skipu rfl rfl (WD.skipu rfl rfl (WD.skipu rfl rfl (WD.skipu rfl rfl (WD.skip rfl rfl rfl (WD.yes rfl rfl (WD.pu (.pick0 rfl rfl) (WD.pu (.pick0 rfl rfl) (WD.pu (.mv rfl) (WD.nil .nil ?_ (fun o h=>nomatch h))))))))))))))))))))))))))))
 refine WP.cond rfl (fun h=>Bool.noConfusion (show false=true from h)) (fun _=>?_)
 refine WP.seq (WP.seq (WP.drawn0 (WD.pu (.faddr rfl) (WD.ld rfl .nil (.load rfl (.app .here) rfl rfl rfl) (WD.pu (.mv rfl) (WD.yes rfl rfl (WD.pu (.mv rfl) (WD.yes rfl rfl (WD.pu (.nilchk rfl rfl) (WD.yes rfl rfl (WD.pu (.faddr rfl) (WD.yes rfl rfl (WD.ld rfl .nil (.load rfl (.app (.there (.there .here))) rfl rfl rfl) (WD.yes rfl rfl (WD.pu (.faddr rfl) (WD.yes rfl rfl (WD.ld rfl .nil (.load rfl (.app (.there .here)) rfl rfl rfl) (WD.yes rfl rfl (WD.ch .nil (WS.callF rfl rfl (find_ok hB (d:=d) ((k2.r (s:=_) fun p hp=>by simp [hp]).ob) hd) ?_))))))))))))))))))))
 rintro w _ ⟨rfl,m2,rfl⟩
 rw [hi]
 refine(WD.yes rfl rfl (WD.pu (.arith rfl rfl rfl) (WD.pu (.pick1 rfl rfl) (WD.pu (.mv rfl) (WD.nil .nil ?_ (fun o h=>nomatch h))))))
 refine WP.cond rfl (fun h=>Bool.noConfusion (show false=true from h)) (fun _=>WP.ops (WO.r (.faddr rfl) (WO.r (.load rfl (.app (.app .here)) rfl rfl rfl) (WO.r (.mv rfl) (WO.skip rfl rfl (WO.skip rfl rfl (WO.skip rfl rfl (WO.skip rfl rfl (WO.skip rfl rfl (WO.r (.pick0 rfl rfl) (WO.r (.mv rfl) (WO.nil ?_))))))))))))
 refine WP.cond rfl (fun h=>Bool.noConfusion (show false=true from h)) (fun _=>WP.seq (WP.ops (WO.r (.faddr rfl) (WO.r (.load rfl (.app (.app (.there .here))) rfl rfl rfl) (WO.r (.eql rfl rfl (eqB_i _ _)) (WO.r (.mv rfl) (WO.skip rfl rfl (WO.skip rfl rfl (WO.skip rfl rfl (WO.r (.pick0 rfl rfl) (WO.r (.mv rfl) (WO.skip rfl rfl (WO.skip rfl rfl (WO.skip rfl rfl (WO.skip rfl rfl (WO.skip rfl rfl (WO.r (.pick0 rfl rfl) (WO.r (.mv rfl) (WO.nil ?_)))))))))))))))))))
 refine WP.cond rfl (fun h=>Bool.noConfusion (show false=true from h)) (fun _=>WP.seq (WP.seq (WP.ops (WO.r (.faddr rfl) (WO.r (.load rfl (.app (.app (.there .here))) rfl rfl rfl) (WO.r (.eql rfl rfl (eqB_i _ _)) (WO.r (.mv rfl) (WO.skip rfl rfl (WO.skip rfl rfl (WO.skip rfl rfl (WO.skip rfl rfl (WO.skip rfl rfl (WO.skip rfl rfl (WO.skip rfl rfl (WO.skip rfl rfl (WO.r (.pick0 rfl rfl) (WO.r (.mv rfl) (WO.nil ?_))))))))))))))))))
 refine WP.cond rfl (fun h=>Bool.noConfusion (show false=true from h)) (fun _=>WP.ops (WO.r (.faddr rfl) (WO.r (.load rfl (.app (.app (.there .here))) rfl rfl rfl) (WO.r (.eql rfl rfl (eqB_i _ _)) (WO.r (.mv rfl) (WO.skip rfl rfl (WO.skip rfl rfl (WO.skip rfl rfl (WO.skip rfl rfl (WO.skip rfl rfl (WO.skip rfl rfl (WO.skip rfl rfl (WO.skip rfl rfl (WO.r (.pick0 rfl rfl) (WO.r (.mv rfl) (WO.nil ?_))))))))))))))))
 refine WP.cond rfl (fun h=>Bool.noConfusion (show false=true from h)) (fun _=>WP.seq (WP.drawn0 (WD.pu (.faddr rfl) (WD.ld rfl .nil (.load rfl (.app (.app (.there .here))) rfl rfl rfl) (WD.pu (.eql rfl rfl (eqB_i _ _)) (WD.pu (.mv rfl) (WD.skip rfl rfl rfl (WD.skip rfl rfl rfl (WD.skip rfl rfl rfl (WD.skip rfl rfl rfl (WD.skip rfl rfl rfl (WD.skip rfl rfl rfl (WD.skip rfl rfl rfl (WD.skip rfl rfl rfl (WD.skip rfl rfl rfl (WD.skip rfl rfl rfl (WD.skip rfl rfl rfl (WD.skip rfl rfl rfl (WD.skipc rfl rfl (WD.skip rfl rfl rfl (WD.pu (.pick0 rfl rfl) (WD.pu (.mv rfl) (WD.nil .nil ?_ (fun o h=>nomatch h))))))))))))))))))))))))
 refine WP.cond rfl (fun h=>Bool.noConfusion (show false=true from h)) (fun _=>WP.skip ?_)
 refine WP.seq (WP.ops (WO.r (.mv rfl) (WO.nil (WP.ret (Fin.mk (.tmp rfl .nil) ?_)))))
 refine⟨rfl,?_⟩
 have fin:∀ x y,WH bw d t (m2++(m1++(x::y::(bw,.r false [d.cells pv ov lv hv gv ev fv sv wv] 25)::(nn++t)))):=fun x y=>⟨pv,ov,lv,hv,gv,ev,fv,sv,wv,(m2++(m1++[x,y]))++nn,perm_ct fun c w h0 h1 h2 hq=>by simp only [h1,h2,h0];omega,k2.junk⟩
 exact fin _ _
theorem mayOver_ok (hB:Base P K F T) {bw:Nat} {d:SD} {t:SH} (hs:WH bw d t s) (hd:d.Small) (he:d.Even) {a b n m:Int} {it:ID} {fn:AV} :
  Tri P K (F 203) [.ptr (some ⟨bw,0,0⟩),.agg (evRow 29 a b n m it),.agg [.bool false,.bool false,.bool false,fn]] s (fun w s'=>w=iv 0∧WH bw d t s'):=by
 obtain⟨pv,ov,lv,hv,gv,ev,fv,sv,wv,nn,k1,k2⟩:=hs
 refine Tri.perm k1.symm ?_
 refine hB.f203.tri (by simp) ?_
 unfold a203
 refine WP.seq (WP.ops (WO.a (.box rfl rfl) fun b4=>WO.a (.box rfl rfl) fun b5=>WO.r (.mv rfl) (WO.nil ?_)))
 refine WP.seq (WP.ops (WO.r (.mkfn rfl rfl) (WO.r (.mv rfl) (WO.nil (WP.seq (WP.block ?_))))))
 have hR:∀ x y z,StD (x::y::z::(nn++t)) pv ov lv hv gv ev fv sv wv d:=fun x y z=>k2.r fun p hp=>by simp [hp]
 have lp:lenOf pv=some d.pl.length:=by rw [(hR (0,.junk) (0,.junk) (0,.junk)).pl.lenOf];simp [plR]
 refine WP.seq (WP.drawn0 (WD.pu (.mv rfl) (WD.pu (.nilchk rfl rfl) (WD.pu (.faddr rfl) (WD.ld rfl .nil (.load rfl (.there (.there .here)) rfl rfl rfl) (WD.ch .nil (WS.callF rfl rfl (even_ok hB (hR _ _ _) ⟨he.lb,he.hd,he.gr,he.ex⟩) ?_)))))))
 rintro w _ ⟨rfl,m1,rfl⟩
 refine(WD.pu (.un rfl rfl) (WD.pu (.mv rfl) (WD.yes rfl rfl (WD.pu (.faddr rfl) (WD.yes rfl rfl (WD.ld rfl .nil (.load rfl (.app .here) rfl rfl rfl) (WD.yes rfl rfl (WD.pu (.mv rfl) (WD.skip rfl rfl rfl (WD.skip rfl rfl rfl (WD.skip rfl rfl rfl (WD.skip rfl rfl rfl (WD.skipu rfl rfl (WD.skipu rfl rfl (WD.skipu rfl rfl (WD.skipu rfl rfl (WD.skipu rfl rfl (WD.skipu rfl rfl (WD.skipu rfl rfl (WD.skipu rfl rfl (WD.skipu rfl rfl (WD.skip rfl rfl rfl (WD.yes rfl rfl (WD.pu (.pick0 rfl rfl) (WD.pu (.pick0 rfl rfl) (WD.pu (.mv rfl) (WD.nil .nil ?_ (fun o h=>nomatch h))))))))))))))))))))))))))))
 refine WP.cond rfl (fun h=>Bool.noConfusion (show false=true from h)) (fun _=>?_)
 refine WP.seq (WP.seq (WP.drawn0 (WD.pu (.faddr rfl) (WD.ld rfl .nil (.load rfl (.app .here) rfl rfl rfl) (WD.pu (.mv rfl) (WD.skip rfl rfl rfl (WD.skip rfl rfl rfl (WD.skip rfl rfl rfl (WD.skip rfl rfl rfl (WD.skip rfl rfl rfl (WD.skip rfl rfl rfl (WD.skipc rfl rfl (WD.skip rfl rfl rfl (WD.pu (.pick0 rfl rfl) (WD.pu (.mv rfl) (WD.nil .nil ?_ (fun o h=>nomatch h)))))))))))))))))
 refine WP.cond rfl (fun h=>Bool.noConfusion (show false=true from h)) (fun _=>WP.ops (WO.r (.faddr rfl) (WO.r (.load rfl (.app .here) rfl rfl rfl) (WO.r (.mv rfl) (WO.skip rfl rfl (WO.skip rfl rfl (WO.skip rfl rfl (WO.skip rfl rfl (WO.skip rfl rfl (WO.r (.pick0 rfl rfl) (WO.r (.mv rfl) (WO.nil ?_))))))))))))
 refine WP.cond rfl (fun h=>Bool.noConfusion (show false=true from h)) (fun _=>WP.seq (WP.ops (WO.r (.faddr rfl) (WO.r (.load rfl (.app (.there .here)) rfl rfl rfl) (WO.r (.eql rfl rfl (eqB_i _ _)) (WO.r (.mv rfl) (WO.skip rfl rfl (WO.skip rfl rfl (WO.skip rfl rfl (WO.r (.pick0 rfl rfl) (WO.r (.mv rfl) (WO.skip rfl rfl (WO.skip rfl rfl (WO.skip rfl rfl (WO.skip rfl rfl (WO.skip rfl rfl (WO.r (.pick0 rfl rfl) (WO.r (.mv rfl) (WO.nil ?_)))))))))))))))))))
 refine WP.cond rfl (fun h=>Bool.noConfusion (show false=true from h)) (fun _=>WP.seq (WP.seq (WP.ops (WO.r (.faddr rfl) (WO.r (.load rfl (.app (.there .here)) rfl rfl rfl) (WO.r (.eql rfl rfl (eqB_i _ _)) (WO.r (.mv rfl) (WO.skip rfl rfl (WO.skip rfl rfl (WO.skip rfl rfl (WO.skip rfl rfl (WO.skip rfl rfl (WO.skip rfl rfl (WO.skip rfl rfl (WO.skip rfl rfl (WO.r (.pick0 rfl rfl) (WO.r (.mv rfl) (WO.nil ?_))))))))))))))))))
 refine WP.cond rfl (fun h=>Bool.noConfusion (show false=true from h)) (fun _=>WP.ops (WO.r (.faddr rfl) (WO.r (.load rfl (.app (.there .here)) rfl rfl rfl) (WO.r (.eql rfl rfl (eqB_i _ _)) (WO.r (.mv rfl) (WO.skip rfl rfl (WO.skip rfl rfl (WO.skip rfl rfl (WO.skip rfl rfl (WO.skip rfl rfl (WO.skip rfl rfl (WO.skip rfl rfl (WO.skip rfl rfl (WO.r (.pick0 rfl rfl) (WO.r (.mv rfl) (WO.nil ?_))))))))))))))))
 refine WP.cond rfl (fun h=>Bool.noConfusion (show false=true from h)) (fun _=>WP.seq (WP.drawn0 (WD.pu (.faddr rfl) (WD.ld rfl .nil (.load rfl (.app (.there .here)) rfl rfl rfl) (WD.pu (.eql rfl rfl (eqB_i _ _)) (WD.pu (.mv rfl) (WD.skip rfl rfl rfl (WD.skip rfl rfl rfl (WD.skip rfl rfl rfl (WD.skip rfl rfl rfl (WD.skip rfl rfl rfl (WD.skip rfl rfl rfl (WD.skip rfl rfl rfl (WD.skip rfl rfl rfl (WD.skip rfl rfl rfl (WD.skip rfl rfl rfl (WD.skip rfl rfl rfl (WD.skip rfl rfl rfl (WD.skipc rfl rfl (WD.skip rfl rfl rfl (WD.pu (.pick0 rfl rfl) (WD.pu (.mv rfl) (WD.nil .nil ?_ (fun o h=>nomatch h))))))))))))))))))))))))
 refine WP.cond rfl (fun h=>Bool.noConfusion (show false=true from h)) (fun _=>WP.skip ?_)
 refine WP.seq (WP.ops (WO.r (.mv rfl) (WO.nil (WP.ret (Fin.mk (.tmp rfl .nil) ?_)))))
 refine⟨rfl,?_⟩
 have fin:∀ x y,WH bw d t (m1++(x::y::(bw,.r false [d.cells pv ov lv hv gv ev fv sv wv] 25)::(nn++t))):=fun x y=>⟨pv,ov,lv,hv,gv,ev,fv,sv,wv,(m1++[x,y])++nn,perm_ct fun c w h0 h1 h2 hq=>by simp only [h1,h2,h0];omega,k2.junk⟩
 exact fin _ _
end
end Go.Ev
set_option maxRecDepth 4000
namespace Go.Ev
section
variable {P:Program} {K:Orc} {rd:Option Nat} {nt:Nat} {l:Sl} {ds:List ADef} {s:SH} {Q Qn Qr:Po} {Qe:Nat->Po} {F:Nat->FuncId} {T:Nat->TypeId}
theorem same_p (b r o:Nat):sameV (.ptr (some ⟨b,r,o⟩)) (.ptr (some ⟨b,r,o⟩))=true:=by
 simp [sameV,sameN,same0]
theorem onField_ok (hB:Base P K F T) {f x:AV} (hf:partCells 1 f=some [f]):Tri P K (F 247) [f,x] s (fun v s'=>∃ g m,v=.agg [.bool false,.bool true,.bool true,g]∧s'=m++s):=by
 refine hB.f247.tri (by simp) ?_
 unfold a247
 refine WP.seq (WP.ops (WO.a (.box rfl hf) fun b2=>WO.a (.alloc rfl) fun b3=>WO.nil ?_))
 refine WP.seq (WP.ops (WO.r (.mkfn rfl rfl) (WO.r (.build rfl rfl) (WO.w (WS.store rfl rfl rfl .here rfl rfl (WO.nil (WP.ret (Fin.mk (.cell rfl hB.t290.1 hB.t290.2 (.inl rfl) .here rfl rfl rfl .nil) ?_))))))))
 exact⟨_,[_,_],rfl,rfl⟩
theorem of_ok (hB:Base P K F T) {f x:AV} (hf:partCells 1 f=some [f]):Tri P K (F 263) [f,x] s (fun v s'=>∃ g m,v=.agg [.bool true,.bool false,.bool false,g]∧s'=m++s):=by
 refine hB.f263.tri (by simp) ?_
 unfold a263
 refine WP.seq (WP.ops (WO.a (.box rfl hf) fun b2=>WO.a (.alloc rfl) fun b3=>WO.nil ?_))
 refine WP.seq (WP.ops (WO.r (.mkfn rfl rfl) (WO.r (.build rfl rfl) (WO.w (WS.store rfl rfl rfl .here rfl rfl (WO.nil (WP.ret (Fin.mk (.cell rfl hB.t290.1 hB.t290.2 (.inl rfl) .here rfl rfl rfl .nil) ?_))))))))
 exact⟨_,[_,_],rfl,rfl⟩
theorem things_ok (hB:Base P K F T) {bw:Nat}:Tri P K (F 224) [.ptr (some ⟨bw,0,0⟩)] s (fun v s'=>∃ b b1 es m,v=.map (some b)∧s'=m++s∧Has b (.m es) m∧Has b1 (.r false [[.ptr (some ⟨bw,0,0⟩)]] 1) m∧lookIn .pi (iv 25) es=some (some (.agg [.bool false,.bool true,.bool false,.func (F 261) [] [.ptr (some ⟨b1,0,0⟩)]]))∧lookIn .pi (iv 1) es=some none∧lookIn .pi (iv 29) es=some none):=by
 refine hB.f224.tri (by simp) ?_
 unfold a224
 refine WP.seq (WP.ops (WO.a (.box rfl rfl) fun b1=>WO.r (.mv rfl) (WO.nil ?_)))
 refine WP.seq (WP.ops (WO.r (.mkfn rfl rfl) (WO.r (.mv rfl) (WO.nil (WP.seq (WP.drawn1 fun b5=>?_))))))
 refine(WD.dm (WD.pu (.mv rfl) (WD.ch (.no (show bit 2 0=false from rfl) .nil) (WS.callF (first:=[]) (vs:=[.func (F 250) [] []]) (cap:=[.ptr (some ⟨b1,0,0⟩)]) rfl rfl (onField_ok (f:=(.func (F 250) [] [])) (x:=.ptr (some ⟨b1,0,0⟩)) hB rfl) ?_))))
 rintro w1 _ ⟨f1,m1,rfl,rfl⟩
 refine(WD.in1 rfl rfl rfl rfl rfl rfl (WD.pu (.mv rfl) (WD.ch (.no (show bit 22 0=false from rfl) .nil) (WS.callF (first:=[]) (vs:=[.func (F 251) [] []]) (cap:=[.ptr (some ⟨b1,0,0⟩)]) rfl rfl (onField_ok (f:=(.func (F 251) [] [])) (x:=.ptr (some ⟨b1,0,0⟩)) hB rfl) ?_))))
 rintro w2 _ ⟨f2,m2,rfl,rfl⟩
 refine(WD.in1 rfl rfl rfl rfl rfl rfl (WD.pu (.mv rfl) (WD.ch (.no (show bit 182 0=false from rfl) .nil) (WS.callF (first:=[]) (vs:=[.func (F 252) [] []]) (cap:=[.ptr (some ⟨b1,0,0⟩)]) rfl rfl (onField_ok (f:=(.func (F 252) [] [])) (x:=.ptr (some ⟨b1,0,0⟩)) hB rfl) ?_))))
 rintro w3 _ ⟨f3,m3,rfl,rfl⟩
 refine(WD.in1 rfl rfl rfl rfl rfl rfl (WD.pu (.mv rfl) (WD.ch (.no (show bit 1462 0=false from rfl) .nil) (WS.callF (first:=[]) (vs:=[.func (F 253) [] []]) (cap:=[.ptr (some ⟨b1,0,0⟩)]) rfl rfl (onField_ok (f:=(.func (F 253) [] [])) (x:=.ptr (some ⟨b1,0,0⟩)) hB rfl) ?_))))
 rintro w4 _ ⟨f4,m4,rfl,rfl⟩
 refine(WD.in1 rfl rfl rfl rfl rfl rfl (WD.pu (.mv rfl) (WD.ch (.no (show bit 11702 0=false from rfl) .nil) (WS.callF (first:=[]) (vs:=[.func (F 255) [] []]) (cap:=[.ptr (some ⟨b1,0,0⟩)]) rfl rfl (onField_ok (f:=(.func (F 255) [] [])) (x:=.ptr (some ⟨b1,0,0⟩)) hB rfl) ?_))))
 rintro w5 _ ⟨f5,m5,rfl,rfl⟩
 refine(WD.in1 rfl rfl rfl rfl rfl rfl (WD.pu (.mv rfl) (WD.ch (.no (show bit 93622 0=false from rfl) .nil) (WS.callF (first:=[]) (vs:=[.func (F 256) [] []]) (cap:=[.ptr (some ⟨b1,0,0⟩)]) rfl rfl (onField_ok (f:=(.func (F 256) [] [])) (x:=.ptr (some ⟨b1,0,0⟩)) hB rfl) ?_))))
 rintro w6 _ ⟨f6,m6,rfl,rfl⟩
 refine(WD.in1 rfl rfl rfl rfl rfl rfl (WD.pu (.mv rfl) (WD.ch (.no (show bit 748982 0=false from rfl) .nil) (WS.callF (first:=[]) (vs:=[.func (F 257) [] []]) (cap:=[.ptr (some ⟨b1,0,0⟩)]) rfl rfl (onField_ok (f:=(.func (F 257) [] [])) (x:=.ptr (some ⟨b1,0,0⟩)) hB rfl) ?_))))
 rintro w7 _ ⟨f7,m7,rfl,rfl⟩
 refine(WD.in1 rfl rfl rfl rfl rfl rfl (WD.pu (.mv rfl) (WD.ch (.no (show bit 5991862 0=false from rfl) .nil) (WS.callF (first:=[]) (vs:=[.func (F 258) [] []]) (cap:=[.ptr (some ⟨b1,0,0⟩)]) rfl rfl (onField_ok (f:=(.func (F 258) [] [])) (x:=.ptr (some ⟨b1,0,0⟩)) hB rfl) ?_))))
 rintro w8 _ ⟨f8,m8,rfl,rfl⟩
 refine(WD.in1 rfl rfl rfl rfl rfl rfl (WD.lk rfl (.no (show bit 0 0=false from rfl) .nil) (.load rfl (.app (.app (.app (.app (.app (.app (.app (.app (.there .here))))))))) rfl rfl rfl) (WD.pu (.mkfn rfl rfl) (WD.pu (.build rfl rfl) (WD.in1 rfl rfl rfl rfl rfl rfl (WD.lk rfl (.no (show bit 0 0=false from rfl) .nil) (.load rfl (.app (.app (.app (.app (.app (.app (.app (.app (.there .here))))))))) rfl rfl rfl) (WD.pu (.mkfn rfl rfl) (WD.pu (.build rfl rfl) (WD.in1 rfl rfl rfl rfl rfl rfl (WD.pu (.mkfn rfl rfl) (WD.pu (.build rfl rfl) (WD.in1 rfl rfl rfl rfl rfl rfl (WD.pu (.mv rfl) (WD.pu (.mv rfl) (WD.nil (.cons (.app (.app (.app (.app (.app (.app (.app (.app .here)))))))) .nil) ?_ ?_)))))))))))))))
 rotate_left
 ·intro o ho
  rcases List.mem_cons.1 ho with rfl|ho
  ·refine⟨(fun i hi=>by simp only [List.mem_singleton] at hi;subst hi;rfl),Nat.zero_le _,same_p _ _ _,fun k _ hk=>?_⟩
   rcases(by have:k≤8:=hk;omega:k=0∨k=1∨k=2∨k=3∨k=4∨k=5∨k=6∨k=7∨k=8) with rfl|rfl|rfl|rfl|rfl|rfl|rfl|rfl|rfl
   ·exact⟨_,rfl,.load rfl (.there .here) rfl rfl rfl⟩
   ·exact⟨_,rfl,.load rfl (.app (.there .here)) rfl rfl rfl⟩
   ·exact⟨_,rfl,.load rfl (.app (.app (.there .here))) rfl rfl rfl⟩
   ·exact⟨_,rfl,.load rfl (.app (.app (.app (.there .here)))) rfl rfl rfl⟩
   ·exact⟨_,rfl,.load rfl (.app (.app (.app (.app (.there .here))))) rfl rfl rfl⟩
   ·exact⟨_,rfl,.load rfl (.app (.app (.app (.app (.app (.there .here)))))) rfl rfl rfl⟩
   ·exact⟨_,rfl,.load rfl (.app (.app (.app (.app (.app (.app (.there .here))))))) rfl rfl rfl⟩
   ·exact⟨_,rfl,.load rfl (.app (.app (.app (.app (.app (.app (.app (.there .here)))))))) rfl rfl rfl⟩
   ·exact⟨_,rfl,.load rfl (.app (.app (.app (.app (.app (.app (.app (.app (.there .here))))))))) rfl rfl rfl⟩
  ·rw [List.mem_singleton.1 ho]
   refine⟨(fun i hi=>by simp only [List.mem_singleton] at hi;subst hi;rfl),Nat.zero_le _,same_p _ _ _,fun k _ hk=>?_⟩
   rcases(by have:k≤8:=hk;omega:k=0∨k=1∨k=2∨k=3∨k=4∨k=5∨k=6∨k=7∨k=8) with rfl|rfl|rfl|rfl|rfl|rfl|rfl|rfl|rfl
   ·exact⟨_,rfl,.load rfl (.there .here) rfl rfl rfl⟩
   ·exact⟨_,rfl,.load rfl (.app (.there .here)) rfl rfl rfl⟩
   ·exact⟨_,rfl,.load rfl (.app (.app (.there .here))) rfl rfl rfl⟩
   ·exact⟨_,rfl,.load rfl (.app (.app (.app (.there .here)))) rfl rfl rfl⟩
   ·exact⟨_,rfl,.load rfl (.app (.app (.app (.app (.there .here))))) rfl rfl rfl⟩
   ·exact⟨_,rfl,.load rfl (.app (.app (.app (.app (.app (.there .here)))))) rfl rfl rfl⟩
   ·exact⟨_,rfl,.load rfl (.app (.app (.app (.app (.app (.app (.there .here))))))) rfl rfl rfl⟩
   ·exact⟨_,rfl,.load rfl (.app (.app (.app (.app (.app (.app (.app (.there .here)))))))) rfl rfl rfl⟩
   ·exact⟨_,rfl,.load rfl (.app (.app (.app (.app (.app (.app (.app (.app (.there .here))))))))) rfl rfl rfl⟩
 refine WP.ret (Fin.mk (.tmp rfl .nil) ?_)
 exact⟨b5,b1,_,_,rfl,(pull (pull (pull (pull (pull (pull (pull (pull pull2)))))))),(.app (.app (.app (.app (.app (.app (.app (.app .here)))))))),(.app (.app (.app (.app (.app (.app (.app (.app (.there .here))))))))),rfl,rfl,rfl⟩
theorem people_ok (hB:Base P K F T) {bw:Nat}:Tri P K (F 225) [.ptr (some ⟨bw,0,0⟩)] s (fun v s'=>∃ b b1 es m,v=.map (some b)∧s'=m++s∧Has b (.m es) m∧Has b1 (.r false [[.ptr (some ⟨bw,0,0⟩)]] 1) m∧lookIn .pi (iv 1) es=some (some (.agg [.bool true,.bool false,.bool false,.func (F 265) [] [.ptr (some ⟨b1,0,0⟩)]]))∧lookIn .pi (iv 29) es=some none):=by
 refine hB.f225.tri (by simp) ?_
 unfold a225
 refine WP.seq (WP.ops (WO.a (.box rfl rfl) fun b1=>WO.r (.mv rfl) (WO.nil ?_)))
 refine WP.seq (WP.ops (WO.r (.mkfn rfl rfl) (WO.r (.mv rfl) (WO.nil (WP.seq (WP.drawn1 fun b5=>?_))))))
 refine(WD.dm (WD.pu (.mkfn rfl rfl) (WD.pu (.build rfl rfl) (WD.in1 rfl rfl rfl rfl rfl rfl (WD.pu (.mv rfl) (WD.ch (.no (show bit 16 0=false from rfl) .nil) (WS.callF (first:=[]) (vs:=[.func (F 266) [] []]) (cap:=[.ptr (some ⟨b1,0,0⟩)]) rfl rfl (of_ok (f:=(.func (F 266) [] [])) (x:=.ptr (some ⟨b1,0,0⟩)) hB rfl) ?_)))))))
 rintro w1 _ ⟨f1,m1,rfl,rfl⟩
 refine(WD.in1 rfl rfl rfl rfl rfl rfl (WD.pu (.mv rfl) (WD.ch (.no (show bit 176 0=false from rfl) .nil) (WS.callF (first:=[]) (vs:=[.func (F 267) [] []]) (cap:=[.ptr (some ⟨b1,0,0⟩)]) rfl rfl (of_ok (f:=(.func (F 267) [] [])) (x:=.ptr (some ⟨b1,0,0⟩)) hB rfl) ?_))))
 rintro w2 _ ⟨f2,m2,rfl,rfl⟩
 refine(WD.in1 rfl rfl rfl rfl rfl rfl (WD.pu (.mv rfl) (WD.ch (.no (show bit 1456 0=false from rfl) .nil) (WS.callF (first:=[]) (vs:=[.func (F 268) [] []]) (cap:=[.ptr (some ⟨b1,0,0⟩)]) rfl rfl (of_ok (f:=(.func (F 268) [] [])) (x:=.ptr (some ⟨b1,0,0⟩)) hB rfl) ?_))))
 rintro w3 _ ⟨f3,m3,rfl,rfl⟩
 refine(WD.in1 rfl rfl rfl rfl rfl rfl (WD.pu (.mv rfl) (WD.ch (.no (show bit 11696 0=false from rfl) .nil) (WS.callF (first:=[]) (vs:=[.func (F 269) [] []]) (cap:=[.ptr (some ⟨b1,0,0⟩)]) rfl rfl (of_ok (f:=(.func (F 269) [] [])) (x:=.ptr (some ⟨b1,0,0⟩)) hB rfl) ?_))))
 rintro w4 _ ⟨f4,m4,rfl,rfl⟩
 refine(WD.in1 rfl rfl rfl rfl rfl rfl (WD.pu (.mv rfl) (WD.ch (.no (show bit 93616 0=false from rfl) .nil) (WS.callF (first:=[]) (vs:=[.func (F 270) [] []]) (cap:=[.ptr (some ⟨b1,0,0⟩)]) rfl rfl (of_ok (f:=(.func (F 270) [] [])) (x:=.ptr (some ⟨b1,0,0⟩)) hB rfl) ?_))))
 rintro w5 _ ⟨f5,m5,rfl,rfl⟩
 refine(WD.in1 rfl rfl rfl rfl rfl rfl (WD.lk rfl (.no (show bit 0 0=false from rfl) .nil) (.load rfl (.app (.app (.app (.app (.app (.there .here)))))) rfl rfl rfl) (WD.pu (.mkfn rfl rfl) (WD.pu (.build rfl rfl) (WD.in1 rfl rfl rfl rfl rfl rfl (WD.pu (.mkfn rfl rfl) (WD.pu (.build rfl rfl) (WD.in1 rfl rfl rfl rfl rfl rfl (WD.lk rfl (.no (show bit 0 0=false from rfl) .nil) (.load rfl (.app (.app (.app (.app (.app (.there .here)))))) rfl rfl rfl) (WD.pu (.mkfn rfl rfl) (WD.pu (.build rfl rfl) (WD.in1 rfl rfl rfl rfl rfl rfl (WD.pu (.mv rfl) (WD.pu (.mv rfl) (WD.nil (.cons (.app (.app (.app (.app (.app .here))))) .nil) ?_ ?_)))))))))))))))
 rotate_left
 ·intro o ho
  rcases List.mem_cons.1 ho with rfl|ho
  ·refine⟨(fun i hi=>by simp only [List.mem_singleton] at hi;subst hi;rfl),Nat.zero_le _,same_p _ _ _,fun k _ hk=>?_⟩
   rcases(by have:k≤5:=hk;omega:k=0∨k=1∨k=2∨k=3∨k=4∨k=5) with rfl|rfl|rfl|rfl|rfl|rfl
   ·exact⟨_,rfl,.load rfl (.there .here) rfl rfl rfl⟩
   ·exact⟨_,rfl,.load rfl (.app (.there .here)) rfl rfl rfl⟩
   ·exact⟨_,rfl,.load rfl (.app (.app (.there .here))) rfl rfl rfl⟩
   ·exact⟨_,rfl,.load rfl (.app (.app (.app (.there .here)))) rfl rfl rfl⟩
   ·exact⟨_,rfl,.load rfl (.app (.app (.app (.app (.there .here))))) rfl rfl rfl⟩
   ·exact⟨_,rfl,.load rfl (.app (.app (.app (.app (.app (.there .here)))))) rfl rfl rfl⟩
  ·rw [List.mem_singleton.1 ho]
   refine⟨(fun i hi=>by simp only [List.mem_singleton] at hi;subst hi;rfl),Nat.zero_le _,same_p _ _ _,fun k _ hk=>?_⟩
   rcases(by have:k≤5:=hk;omega:k=0∨k=1∨k=2∨k=3∨k=4∨k=5) with rfl|rfl|rfl|rfl|rfl|rfl
   ·exact⟨_,rfl,.load rfl (.there .here) rfl rfl rfl⟩
   ·exact⟨_,rfl,.load rfl (.app (.there .here)) rfl rfl rfl⟩
   ·exact⟨_,rfl,.load rfl (.app (.app (.there .here))) rfl rfl rfl⟩
   ·exact⟨_,rfl,.load rfl (.app (.app (.app (.there .here)))) rfl rfl rfl⟩
   ·exact⟨_,rfl,.load rfl (.app (.app (.app (.app (.there .here))))) rfl rfl rfl⟩
   ·exact⟨_,rfl,.load rfl (.app (.app (.app (.app (.app (.there .here)))))) rfl rfl rfl⟩
 refine WP.ret (Fin.mk (.tmp rfl .nil) ?_)
 exact⟨b5,b1,_,_,rfl,(pull (pull (pull (pull (pull pull2))))),(.app (.app (.app (.app (.app .here))))),(.app (.app (.app (.app (.app (.there .here)))))),rfl,rfl⟩
theorem others_ok (hB:Base P K F T) {bw:Nat}:Tri P K (F 226) [.ptr (some ⟨bw,0,0⟩)] s (fun v s'=>∃ b b1 es m,v=.map (some b)∧s'=m++s∧Has b (.m es) m∧Has b1 (.r false [[.ptr (some ⟨bw,0,0⟩)]] 1) m∧lookIn .pi (iv 29) es=some (some (.agg [.bool false,.bool false,.bool false,.func (F 284) [] [.ptr (some ⟨b1,0,0⟩)]]))):=by
 refine hB.f226.tri (by simp) ?_
 unfold a226
 refine WP.seq (WP.ops (WO.a (.box rfl rfl) fun b1=>WO.r (.mv rfl) (WO.nil ?_)))
 refine WP.seq (WP.ops (WO.a .mkmap fun b5=>(WO.r (.mkfn rfl rfl) (WO.r (.build rfl rfl) (WO.w (WS.ins rfl rfl rfl .here rfl (WO.r (.mkfn rfl rfl) (WO.r (.build rfl rfl) (WO.w (WS.ins rfl rfl rfl .here rfl (WO.r (.mkfn rfl rfl) (WO.r (.build rfl rfl) (WO.w (WS.ins rfl rfl rfl .here rfl (WO.r (.mkfn rfl rfl) (WO.r (.build rfl rfl) (WO.w (WS.ins rfl rfl rfl .here rfl (WO.r (.mkfn rfl rfl) (WO.r (.build rfl rfl) (WO.w (WS.ins rfl rfl rfl .here rfl (WO.r (.mkfn rfl rfl) (WO.r (.build rfl rfl) (WO.w (WS.ins rfl rfl rfl .here rfl (WO.r (.mkfn rfl rfl) (WO.r (.build rfl rfl) (WO.w (WS.ins rfl rfl rfl .here rfl (WO.r (.load rfl (.there .here) rfl rfl rfl) (WO.r (.mkfn rfl rfl) (WO.r (.build rfl rfl) (WO.w (WS.ins rfl rfl rfl .here rfl (WO.r (.mkfn rfl rfl) (WO.r (.build rfl rfl) (WO.w (WS.ins rfl rfl rfl .here rfl (WO.r (.mv rfl) (WO.r (.mv rfl) (WO.nil ?_))))))))))))))))))))))))))))))))))))))))))
 refine WP.ret (Fin.mk (.tmp rfl .nil) ?_)
 exact⟨b5,b1,_,_,rfl,pull2,.here,(.there .here),rfl⟩
end
end Go.Ev
namespace Go.Ev
section
variable {P:Program} {K:Orc} {rd:Option Nat} {nt:Nat} {l:Sl} {ds:List ADef} {s:SH} {Q Qn Qr:Po} {Qe:Nat->Po} {F:Nat->FuncId} {T:Nat->TypeId}
theorem pullc {p:Nat × HO} {x n s:SH} (h:x=n++s):p::x=(p::n)++s:=by rw [h];rfl
theorem pull1 {p:Nat × HO} {s:SH}:p::s=[p]++s:=rfl
theorem bsrows3 {l:Sl} {sz:Nat} {x y z:Operand} {u v w:AV} {cs es fs:List AV} (hx:opl l x=some u) (hc:partCells sz u=some cs) (hy:opl l y=some v) (he:partCells sz v=some es) (hz:opl l z=some w) (hf:partCells sz w=some fs):bsrows l sz 0 [(0,x),(1,y),(2,z)]=some [cs,es,fs]:=by
 simp [bsrows,hx,hc,hy,he,hz,hf]
theorem ruleCease_ok (hB:Base P K F T) {bw:Nat}:Tri P K (F 202) [.ptr (some ⟨bw,0,0⟩),iv 25] s (fun v s'=>∃ bx m,s'=m++s∧Has bx (.r false [[.ptr (some ⟨bw,0,0⟩)]] 1) m∧v=.agg [.bool false,.bool true,.bool false,.func (F 261) [] [.ptr (some ⟨bx,0,0⟩)]]):=by
 refine hB.f202.tri (by simp) ?_
 unfold a202
 refine WP.seq (WP.ops (WO.a (.alloc rfl) fun b4=>WO.nil ?_))
 refine WP.seq (WP.seq (WP.ops (WO.r (.mv rfl) (WO.w (WS.callF (first:=[]) (vs:=[.ptr (some ⟨bw,0,0⟩)]) (cap:=[]) rfl rfl (things_ok hB) ?_)))))
 rintro w1 _ ⟨c1,d1,es1,m1,rfl,rfl,t1,t2,t3,t4,t5⟩
 refine WO.r (.mv rfl) (WO.w (WS.callF (first:=[]) (vs:=[.ptr (some ⟨bw,0,0⟩)]) (cap:=[]) rfl rfl (people_ok hB) ?_))
 rintro w2 _ ⟨c2,d2,es2,m2,rfl,rfl,u1,u2,u3,u4⟩
 refine WO.r (.mv rfl) (WO.w (WS.callF (first:=[]) (vs:=[.ptr (some ⟨bw,0,0⟩)]) (cap:=[]) rfl rfl (others_ok hB) ?_))
 rintro w3 _ ⟨c3,d3,es3,m3,rfl,rfl,x1,x2,x3⟩
 refine WO.a (.bslice (bsrows3 rfl rfl rfl rfl rfl rfl) rfl) fun b15=>WO.r (.lenS rfl rfl) (WO.r (.mv rfl) (WO.nil (WP.block ?_)))
 refine WP.unroll (WP.seq (WP.ops (WO.r (.arith rfl rfl rfl) (WO.nil (WP.seq (WP.cond rfl (fun _=>WP.skip ?_) (fun h=>by cases h)))))))
 refine WP.seq (WP.block (WP.seq (WP.ops (WO.r (.iaddrS rfl rfl (by omega) (by omega)) (WO.r (.load rfl .here rfl rfl rfl) (WO.r (.mv rfl) (WO.nil ?_)))))))
 refine WP.seq (WP.ops (WO.r (.mv rfl) (WO.r (.mv rfl) (WO.r (.look rfl rfl (.there (.app (.app (.left t1)))) t3) (WO.r (.mv rfl) (WO.r (.extract rfl rfl) (WO.r (.extract rfl rfl) (WO.a (.alloc rfl) fun b7=>WO.w (WS.store rfl rfl rfl .here rfl rfl (WO.r (.mv rfl) (WO.nil (WP.seq (WP.ops (WO.r (.mv rfl) (WO.nil ?_)))))))))))))))
 refine WP.cond rfl (fun _=>?_) (fun h=>by cases h)
 refine WP.seq (WP.ops (WO.r (.load rfl .here rfl rfl rfl) (WO.w (WS.store rfl rfl rfl (.there (.there (.app (.app (.app .here))))) rfl rfl (WO.nil (WP.ret (Fin.mk (.cell rfl hB.t290.1 hB.t290.2 (.inl rfl) (.there (.there (.app (.app (.app .here))))) rfl rfl rfl .nil) ?_)))))))
 have fin:∀ (p0 p1 y:Nat × HO),Has d1 (.r false [[.ptr (some ⟨bw,0,0⟩)]] 1) (p0::p1::(m3++(m2++(m1++[y])))):=fun p0 p1 y=>(.there (.there (.app (.app (.left t2)))))
 exact⟨d1,_,(pullc (pullc (pull (pull (pull pull1))))),fin _ _ _,rfl⟩
theorem ruleNew_ok (hB:Base P K F T) {bw:Nat}:Tri P K (F 202) [.ptr (some ⟨bw,0,0⟩),iv 1] s (fun v s'=>∃ bx m,s'=m++s∧Has bx (.r false [[.ptr (some ⟨bw,0,0⟩)]] 1) m∧v=.agg [.bool true,.bool false,.bool false,.func (F 265) [] [.ptr (some ⟨bx,0,0⟩)]]):=by
 refine hB.f202.tri (by simp) ?_
 unfold a202
 refine WP.seq (WP.ops (WO.a (.alloc rfl) fun b4=>WO.nil ?_))
 refine WP.seq (WP.seq (WP.ops (WO.r (.mv rfl) (WO.w (WS.callF (first:=[]) (vs:=[.ptr (some ⟨bw,0,0⟩)]) (cap:=[]) rfl rfl (things_ok hB) ?_)))))
 rintro w1 _ ⟨c1,d1,es1,m1,rfl,rfl,t1,t2,t3,t4,t5⟩
 refine WO.r (.mv rfl) (WO.w (WS.callF (first:=[]) (vs:=[.ptr (some ⟨bw,0,0⟩)]) (cap:=[]) rfl rfl (people_ok hB) ?_))
 rintro w2 _ ⟨c2,d2,es2,m2,rfl,rfl,u1,u2,u3,u4⟩
 refine WO.r (.mv rfl) (WO.w (WS.callF (first:=[]) (vs:=[.ptr (some ⟨bw,0,0⟩)]) (cap:=[]) rfl rfl (others_ok hB) ?_))
 rintro w3 _ ⟨c3,d3,es3,m3,rfl,rfl,x1,x2,x3⟩
 refine WO.a (.bslice (bsrows3 rfl rfl rfl rfl rfl rfl) rfl) fun b15=>WO.r (.lenS rfl rfl) (WO.r (.mv rfl) (WO.nil (WP.block ?_)))
 refine WP.unroll (WP.seq (WP.ops (WO.r (.arith rfl rfl rfl) (WO.nil (WP.seq (WP.cond rfl (fun _=>WP.skip ?_) (fun h=>by cases h)))))))
 refine WP.seq (WP.block (WP.seq (WP.ops (WO.r (.iaddrS rfl rfl (by omega) (by omega)) (WO.r (.load rfl .here rfl rfl rfl) (WO.r (.mv rfl) (WO.nil ?_)))))))
 refine WP.seq (WP.ops (WO.r (.mv rfl) (WO.r (.mv rfl) (WO.r (.look rfl rfl (.there (.app (.app (.left t1)))) t4) (WO.r (.mv rfl) (WO.r (.extract rfl rfl) (WO.r (.extract rfl rfl) (WO.a (.alloc rfl) fun b7=>WO.w (WS.store rfl rfl rfl .here rfl rfl (WO.r (.mv rfl) (WO.nil (WP.seq (WP.ops (WO.r (.mv rfl) (WO.nil ?_)))))))))))))))
 refine WP.cond rfl (fun h=>by cases h) (fun _=>WP.skip ?_)
 refine WP.ops (WO.r (.arith rfl rfl (add_n (by omega))) (WO.r (.mv rfl) (WO.nil ?_)))
 refine WP.unroll (WP.seq (WP.ops (WO.r (.arith rfl rfl rfl) (WO.nil (WP.seq (WP.cond rfl (fun _=>WP.skip ?_) (fun h=>by cases h)))))))
 refine WP.seq (WP.block (WP.seq (WP.ops (WO.r (.iaddrS rfl rfl (by omega) (by omega)) (WO.r (.load rfl (.there .here) rfl rfl rfl) (WO.r (.mv rfl) (WO.nil ?_)))))))
 refine WP.seq (WP.ops (WO.r (.mv rfl) (WO.r (.mv rfl) (WO.r (.look rfl rfl (.there (.there (.app (.left u1)))) u3) (WO.r (.mv rfl) (WO.r (.extract rfl rfl) (WO.r (.extract rfl rfl) (WO.a (.alloc rfl) fun b7=>WO.w (WS.store rfl rfl rfl .here rfl rfl (WO.r (.mv rfl) (WO.nil (WP.seq (WP.ops (WO.r (.mv rfl) (WO.nil ?_)))))))))))))))
 refine WP.cond rfl (fun _=>?_) (fun h=>by cases h)
 refine WP.seq (WP.ops (WO.r (.load rfl .here rfl rfl rfl) (WO.w (WS.store rfl rfl rfl (.there (.there (.there (.app (.app (.app .here)))))) rfl rfl (WO.nil (WP.ret (Fin.mk (.cell rfl hB.t290.1 hB.t290.2 (.inl rfl) (.there (.there (.there (.app (.app (.app .here)))))) rfl rfl rfl .nil) ?_)))))))
 have fin:∀ (p0 p1 p2 y:Nat × HO),Has d2 (.r false [[.ptr (some ⟨bw,0,0⟩)]] 1) (p0::p1::p2::(m3++(m2++(m1++[y])))):=fun p0 p1 p2 y=>(.there (.there (.there (.app (.left u2)))))
 exact⟨d2,_,(pullc (pullc (pullc (pull (pull (pull pull1)))))),fin _ _ _ _,rfl⟩
theorem ruleOver_ok (hB:Base P K F T) {bw:Nat}:Tri P K (F 202) [.ptr (some ⟨bw,0,0⟩),iv 29] s (fun v s'=>∃ bx m,s'=m++s∧Has bx (.r false [[.ptr (some ⟨bw,0,0⟩)]] 1) m∧v=.agg [.bool false,.bool false,.bool false,.func (F 284) [] [.ptr (some ⟨bx,0,0⟩)]]):=by
 refine hB.f202.tri (by simp) ?_
 unfold a202
 refine WP.seq (WP.ops (WO.a (.alloc rfl) fun b4=>WO.nil ?_))
 refine WP.seq (WP.seq (WP.ops (WO.r (.mv rfl) (WO.w (WS.callF (first:=[]) (vs:=[.ptr (some ⟨bw,0,0⟩)]) (cap:=[]) rfl rfl (things_ok hB) ?_)))))
 rintro w1 _ ⟨c1,d1,es1,m1,rfl,rfl,t1,t2,t3,t4,t5⟩
 refine WO.r (.mv rfl) (WO.w (WS.callF (first:=[]) (vs:=[.ptr (some ⟨bw,0,0⟩)]) (cap:=[]) rfl rfl (people_ok hB) ?_))
 rintro w2 _ ⟨c2,d2,es2,m2,rfl,rfl,u1,u2,u3,u4⟩
 refine WO.r (.mv rfl) (WO.w (WS.callF (first:=[]) (vs:=[.ptr (some ⟨bw,0,0⟩)]) (cap:=[]) rfl rfl (others_ok hB) ?_))
 rintro w3 _ ⟨c3,d3,es3,m3,rfl,rfl,x1,x2,x3⟩
 refine WO.a (.bslice (bsrows3 rfl rfl rfl rfl rfl rfl) rfl) fun b15=>WO.r (.lenS rfl rfl) (WO.r (.mv rfl) (WO.nil (WP.block ?_)))
 refine WP.unroll (WP.seq (WP.ops (WO.r (.arith rfl rfl rfl) (WO.nil (WP.seq (WP.cond rfl (fun _=>WP.skip ?_) (fun h=>by cases h)))))))
 refine WP.seq (WP.block (WP.seq (WP.ops (WO.r (.iaddrS rfl rfl (by omega) (by omega)) (WO.r (.load rfl .here rfl rfl rfl) (WO.r (.mv rfl) (WO.nil ?_)))))))
 refine WP.seq (WP.ops (WO.r (.mv rfl) (WO.r (.mv rfl) (WO.r (.look rfl rfl (.there (.app (.app (.left t1)))) t5) (WO.r (.mv rfl) (WO.r (.extract rfl rfl) (WO.r (.extract rfl rfl) (WO.a (.alloc rfl) fun b7=>WO.w (WS.store rfl rfl rfl .here rfl rfl (WO.r (.mv rfl) (WO.nil (WP.seq (WP.ops (WO.r (.mv rfl) (WO.nil ?_)))))))))))))))
 refine WP.cond rfl (fun h=>by cases h) (fun _=>WP.skip ?_)
 refine WP.ops (WO.r (.arith rfl rfl (add_n (by omega))) (WO.r (.mv rfl) (WO.nil ?_)))
 refine WP.unroll (WP.seq (WP.ops (WO.r (.arith rfl rfl rfl) (WO.nil (WP.seq (WP.cond rfl (fun _=>WP.skip ?_) (fun h=>by cases h)))))))
 refine WP.seq (WP.block (WP.seq (WP.ops (WO.r (.iaddrS rfl rfl (by omega) (by omega)) (WO.r (.load rfl (.there .here) rfl rfl rfl) (WO.r (.mv rfl) (WO.nil ?_)))))))
 refine WP.seq (WP.ops (WO.r (.mv rfl) (WO.r (.mv rfl) (WO.r (.look rfl rfl (.there (.there (.app (.left u1)))) u4) (WO.r (.mv rfl) (WO.r (.extract rfl rfl) (WO.r (.extract rfl rfl) (WO.a (.alloc rfl) fun b7=>WO.w (WS.store rfl rfl rfl .here rfl rfl (WO.r (.mv rfl) (WO.nil (WP.seq (WP.ops (WO.r (.mv rfl) (WO.nil ?_)))))))))))))))
 refine WP.cond rfl (fun h=>by cases h) (fun _=>WP.skip ?_)
 refine WP.ops (WO.r (.arith rfl rfl (add_n (by omega))) (WO.r (.mv rfl) (WO.nil ?_)))
 refine WP.unroll (WP.seq (WP.ops (WO.r (.arith rfl rfl rfl) (WO.nil (WP.seq (WP.cond rfl (fun _=>WP.skip ?_) (fun h=>by cases h)))))))
 refine WP.seq (WP.block (WP.seq (WP.ops (WO.r (.iaddrS rfl rfl (by omega) (by omega)) (WO.r (.load rfl (.there (.there .here)) rfl rfl rfl) (WO.r (.mv rfl) (WO.nil ?_)))))))
 refine WP.seq (WP.ops (WO.r (.mv rfl) (WO.r (.mv rfl) (WO.r (.look rfl rfl (.there (.there (.there (.left x1)))) x3) (WO.r (.mv rfl) (WO.r (.extract rfl rfl) (WO.r (.extract rfl rfl) (WO.a (.alloc rfl) fun b7=>WO.w (WS.store rfl rfl rfl .here rfl rfl (WO.r (.mv rfl) (WO.nil (WP.seq (WP.ops (WO.r (.mv rfl) (WO.nil ?_)))))))))))))))
 refine WP.cond rfl (fun _=>?_) (fun h=>by cases h)
 refine WP.seq (WP.ops (WO.r (.load rfl .here rfl rfl rfl) (WO.w (WS.store rfl rfl rfl (.there (.there (.there (.there (.app (.app (.app .here))))))) rfl rfl (WO.nil (WP.ret (Fin.mk (.cell rfl hB.t290.1 hB.t290.2 (.inl rfl) (.there (.there (.there (.there (.app (.app (.app .here))))))) rfl rfl rfl .nil) ?_)))))))
 have fin:∀ (p0 p1 p2 p3 y:Nat × HO),Has d3 (.r false [[.ptr (some ⟨bw,0,0⟩)]] 1) (p0::p1::p2::p3::(m3++(m2++(m1++[y])))):=fun p0 p1 p2 p3 y=>(.there (.there (.there (.there (.left x2)))))
 exact⟨d3,_,(pullc (pullc (pullc (pullc (pull (pull (pull pull1))))))),fin _ _ _ _ _,rfl⟩
end
end Go.Ev
namespace Go.Ev
section
variable {P:Program} {K:Orc} {rd:Option Nat} {nt:Nat} {l:Sl} {ds:List ADef} {s:SH} {Q Qn Qr:Po} {Qe:Nat->Po} {F:Nat->FuncId} {T:Nat->TypeId}
def newOD (p:Nat) (b n m:Int):OD:=⟨0,b,.ofNat p,.ofNat p,n,false,false,decide (m=1),0,0,0,0,false⟩
theorem doNew_ok (hB:Base P K F T) {bw bx p:Nat} {d:SD} {t:SH} (hs:WH bw d t s) (hx:Has bx (.r false [[.ptr (some ⟨bw,0,0⟩)]] 1) t) (hd:d.Small) (he:d.Even) (hp:p < d.pl.length) {b n m:Int} {it:ID} (h1:0≤d.nx∧d.nx≤1000000) (h2:0≤d.sp∧d.sp≤1000000) :
  Tri P K (F 265) [.agg (evRow 1 (.ofNat p) b n m it),.ptr (some ⟨bx,0,0⟩)] s (fun _ s'=>WH bw (d.add (newOD p b n m) p) t s'):=by
 obtain⟨pv,ov,lv,hv,gv,ev,fv,sv,wv,nn,k1,k2⟩:=hs
 refine Tri.perm k1.symm ?_
 refine hB.f265.tri (by simp) ?_
 unfold a265
 refine WP.seq (WP.ops (WO.a (.box rfl rfl) fun b2=>WO.nil ?_))
 have hW:WH bw d t ((b2,.r false [evRow 1 (.ofNat p) b n m it] 13)::(bw,.r false [d.cells pv ov lv hv gv ev fv sv wv] 25)::(nn++t)):=WH.junk (m:=[_]) ⟨pv,ov,lv,hv,gv,ev,fv,sv,wv,nn,.refl _,k2⟩
 refine WP.ops (WO.r (.load rfl (.there (.there (.app hx))) rfl rfl rfl) (WO.r (.faddr rfl) (WO.r (.load rfl .here rfl rfl rfl) (WO.r (.faddr rfl) (WO.r (.load rfl .here rfl rfl rfl) (WO.r (.faddr rfl) (WO.r (.load rfl .here rfl rfl rfl) (WO.r (.faddr rfl) (WO.r (.load rfl .here rfl rfl rfl) (WO.r (.faddr rfl) (WO.r (.load rfl .here rfl rfl rfl) (WO.r (.eql rfl rfl (eqB_i _ _)) (WO.r (.build rfl rfl) (WO.w (WS.callF (first:=[]) (vs:=[.ptr (some ⟨bw,0,0⟩),.agg (newOD p b n m).row,.bool false]) (cap:=[]) rfl rfl (add_ok hB hW hd he hp rfl h1 h2) ?_)))))))))))))))
 intro w s' hw
 exact WO.nil (Fin.mk .nil hw)
theorem doCease_ok (hB:Base P K F T) {bw bx p i:Nat} {d:SD} {t:SH} {o:OD} (hs:WH bw d t s) (hx:Has bx (.r false [[.ptr (some ⟨bw,0,0⟩)]] 1) t) (hd:d.Small) (he:d.Even) (hp:p < d.pl.length) {a b n m:Int} {it:ID} (hi:d.find a=some i) (hoi:d.ob[i]?=some o) (ho:o.owner=.ofNat p)
  (hst:d.st=[]) (hwa:d.wa=[]) (hco:d.co≠a) (hbl:∀ o∈d.ob,o.block≠a) :
  Tri P K (F 261) [.agg (evRow 25 a b n m it),.ptr (some ⟨bx,0,0⟩)] s (fun _ s'=>WH bw (d.left a i o.zone p) t s'):=by
 obtain⟨pv,ov,lv,hv,gv,ev,fv,sv,wv,nn,k1,k2⟩:=hs
 refine Tri.perm k1.symm ?_
 refine hB.f261.tri (by simp) ?_
 unfold a261
 refine WP.seq (WP.ops (WO.a (.box rfl rfl) fun b2=>WO.nil ?_))
 have hW:WH bw d t ((b2,.r false [evRow 25 a b n m it] 13)::(bw,.r false [d.cells pv ov lv hv gv ev fv sv wv] 25)::(nn++t)):=WH.junk (m:=[_]) ⟨pv,ov,lv,hv,gv,ev,fv,sv,wv,nn,.refl _,k2⟩
 refine WP.ops (WO.r (.load rfl (.there (.there (.app hx))) rfl rfl rfl) (WO.r (.faddr rfl) (WO.r (.load rfl .here rfl rfl rfl) (WO.w (WS.callF (first:=[]) (vs:=[.ptr (some ⟨bw,0,0⟩),iv a]) (cap:=[]) rfl rfl (leave0_ok hB hW hd he hi hoi hp ho hst hwa hco hbl) ?_)))))
 rintro w s' ⟨_,hw⟩
 exact WO.nil (Fin.mk .nil hw)
theorem doOver_ok (hB:Base P K F T) {bw bx:Nat} {d:SD} {t:SH} (hs:WH bw d t s) (hx:Has bx (.r false [[.ptr (some ⟨bw,0,0⟩)]] 1) t) {a b n m:Int} {it:ID} :
  Tri P K (F 284) [.agg (evRow 29 a b n m it),.ptr (some ⟨bx,0,0⟩)] s (fun _ s'=>WH bw { d with oc:=a,wi:=b } t s'):=by
 obtain⟨pv,ov,lv,hv,gv,ev,fv,sv,wv,nn,k1,k2⟩:=hs
 refine Tri.perm k1.symm ?_
 refine hB.f284.tri (by simp) ?_
 unfold a284
 refine WP.seq (WP.ops (WO.a (.box rfl rfl) fun b2=>WO.nil ?_))
 refine WP.drawn0 (WD.ld rfl .nil (.load rfl (.there (.there (.app hx))) rfl rfl rfl) (WD.lk rfl .nil (.load rfl (.there (.there (.app hx))) rfl rfl rfl) (WD.pu (.faddr rfl) (WD.ld rfl .nil (.load rfl .here rfl rfl rfl) (WD.pu (.faddr rfl) (WD.lk rfl .nil (.load rfl .here rfl rfl rfl) (WD.pu (.nilchk rfl rfl) (WD.pu (.faddr rfl) (WD.pu (.faddr rfl) (WD.ch .nil (WS.store rfl rfl rfl (.there .here) rfl rfl (WD.pu (.nilchk rfl rfl) (WD.pu (.faddr rfl) (WD.pu (.faddr rfl) (WD.ch .nil (WS.store rfl rfl rfl (.there .here) rfl rfl (WD.nil .nil ?_ ?_)))))))))))))))))
 ·exact Fin.mk .nil ⟨pv,ov,lv,hv,gv,ev,fv,sv,wv,[(b2,.r false [evRow 29 a b n m it] 13)]++nn,(show List.Perm ((b2,HO.r false [evRow 29 a b n m it] 13)::(bw,.r false [({ d with oc:=a,wi:=b }:SD).cells pv ov lv hv gv ev fv sv wv] 25)::(nn++t)) _ from perm_ct fun c w h0 h1 h2 hq=>by simp only [h1,h2,h0];omega),(show StG _ pv ov lv hv gv ev fv sv wv { d with oc:=a,wi:=b } from ⟨(k2.junk (m:=[_])).ex⟩)⟩
 ·intro o ho
  rcases List.mem_cons.1 ho with rfl|ho
  ·refine⟨(fun i hi=>nomatch hi),Nat.zero_le _,same_i _,fun k _ hk=>?_⟩
   rcases(by have:k≤1:=hk;omega:k=0∨k=1) with rfl|rfl
   ·exact⟨_,rfl,.load rfl .here rfl rfl rfl⟩
   ·exact⟨_,rfl,.load rfl .here rfl rfl rfl⟩
  ·rw [List.mem_singleton.1 ho]
   refine⟨(fun i hi=>nomatch hi),Nat.zero_le _,same_p _ _ _,fun k _ hk=>?_⟩
   rcases(by have:k≤1:=hk;omega:k=0∨k=1) with rfl|rfl
   ·exact⟨_,rfl,.load rfl (.there (.there (.app hx))) rfl rfl rfl⟩
   ·exact⟨_,rfl,.load rfl (.there (.there (.app hx))) rfl rfl rfl⟩
theorem pull3 {p q r:Nat × HO} {s:SH}:p::q::r::s=[p,q,r]++s:=rfl
theorem applyNew_ok (hB:Base P K F T) {pv ov lv hv gv ev fv sv wv:AV} {d:SD} (h:StD s pv ov lv hv gv ev fv sv wv d) (hd:d.Small) (he:d.Even) {p:Nat} {b n m:Int} {it:ID} (hp:p < d.pl.length) (h1:0≤d.nx∧d.nx≤1000000) (h2:0≤d.sp∧d.sp≤1000000)
  (hck:∀ s,Tri P K (F 201) [.agg (evRow 1 (.ofNat p) b n m it)] s (fun v s'=>v=iv 0∧s'=s)) :
  Tri P K (F 164) [.agg (d.cells pv ov lv hv gv ev fv sv wv),.agg (evRow 1 (.ofNat p) b n m it)] s (fun v s'=>∃ pv ov lv hv gv ev fv sv wv nn,v=.tuple [.agg (((d.add (newOD p b n m) p):SD).cells pv ov lv hv gv ev fv sv wv),iv 0]∧s'=nn++s∧StG nn pv ov lv hv gv ev fv sv wv (d.add (newOD p b n m) p)):=by
 refine hB.f164.tri (by simp) ?_
 unfold a164
 refine WP.seq (WP.ops (WO.a (.box rfl rfl) fun b2=>WO.a (.box rfl rfl) fun b3=>WO.a (.alloc rfl) fun b4=>WO.r (.mv rfl) (WO.nil ?_)))
 have hR:StD ((b4,.r false [zState] 25)::(b3,.r false [evRow 1 (.ofNat p) b n m it] 13)::(b2,.r false [d.cells pv ov lv hv gv ev fv sv wv] 25)::s) pv ov lv hv gv ev fv sv wv d:=⟨h.pl.mono fun p hp=>by simp [hp],h.ob.mono fun p hp=>by simp [hp],h.lb.mono fun p hp=>by simp [hp],h.hd.mono fun p hp=>by simp [hp],h.gr.mono fun p hp=>by simp [hp],h.ex.mono fun p hp=>by simp [hp],h.fi.mono fun p hp=>by simp [hp],h.st.mono fun p hp=>by simp [hp],h.wa.mono fun p hp=>by simp [hp]⟩
 refine WP.seq (WP.ops (WO.r (.load rfl (.there (.there .here)) rfl rfl rfl) (WO.w (WS.callF (first:=[]) (vs:=[.agg (d.cells pv ov lv hv gv ev fv sv wv)]) (cap:=[]) rfl rfl (stCopy_ok hB hR hd) ?_))))
 rintro w _ ⟨pv,ov,lv,hv,gv,ev,fv,sv,wv,n1,rfl,rfl,g1⟩
 refine WO.r (.build rfl rfl) (WO.a (.box rfl rfl) fun bw=>WO.r (.mv rfl) (WO.nil ?_))
 refine WP.weak (s':=(bw,.r false [d.cells pv ov lv hv gv ev fv sv wv] 25)::(n1++((b4,.r false [zState] 25)::(b3,.r false [evRow 1 (.ofNat p) b n m it] 13)::(b2,.r false [d.cells _ _ _ _ _ _ _ _ _] 25)::s))) (fun _ _ h=>h) (fun _ _ h=>h) ?_
 refine WP.seq (WP.seq (WP.ops (WO.r (.load rfl (.there (.app (.there .here))) rfl rfl rfl) (WO.w (WS.callF (first:=[]) (vs:=[.agg (evRow 1 (.ofNat p) b n m it)]) (cap:=[]) rfl rfl (hck _) ?_)))))
 rintro w _ ⟨rfl,rfl⟩
 refine WO.r (.mv rfl) (WO.nil (WP.seq (WP.ops (WO.r (.mv rfl) (WO.r (.eql rfl rfl (eqB_i _ _)) (WO.nil (WP.cond rfl (fun h=>Bool.noConfusion (show false=true from h)) (fun _=>WP.skip ?_))))))))
 refine WP.seq (WP.ops (WO.r (.mv rfl) (WO.r (.faddr rfl) (WO.r (.load rfl (.there (.app (.there .here))) rfl rfl rfl) (WO.w (WS.callF (first:=[]) (vs:=[.ptr (some ⟨bw,0,0⟩),iv 1]) (cap:=[]) rfl rfl (ruleNew_ok hB) ?_))))))
 rintro w _ ⟨bx,m2,rfl,hx,rfl⟩
 refine WO.a (.alloc rfl) fun b8=>WO.w (WS.store rfl rfl rfl .here rfl rfl (WO.nil ?_))
 -- may it be done
 have hW:∀ y,WH bw d ((b8,.r false [[.bool true,.bool false,.bool false,.func (F 265) [] [.ptr (some ⟨bx,0,0⟩)]]] 4)::(m2++((b4,.r false [zState] 25)::(b3,.r false [evRow 1 (.ofNat p) b n m it] 13)::(b2,y)::s)))
   ((b8,.r false [[.bool true,.bool false,.bool false,.func (F 265) [] [.ptr (some ⟨bx,0,0⟩)]]] 4)::(m2++((bw,.r false [d.cells pv ov lv hv gv ev fv sv wv] 25)::(n1++((b4,.r false [zState] 25)::(b3,.r false [evRow 1 (.ofNat p) b n m it] 13)::(b2,y)::s))))):=fun y=>
  ⟨pv,ov,lv,hv,gv,ev,fv,sv,wv,n1,perm_ct fun c w h0 h1 h2 hq=>by simp only [h1,h2];omega,g1⟩
 refine WP.weak (s':=(b8,.r false [[.bool true,.bool false,.bool false,.func (F 265) [] [.ptr (some ⟨bx,0,0⟩)]]] 4)::(m2++((bw,.r false [d.cells pv ov lv hv gv ev fv sv wv] 25)::(n1++((b4,.r false [zState] 25)::(b3,.r false [evRow 1 (.ofNat p) b n m it] 13)::(b2,.r false [d.cells _ _ _ _ _ _ _ _ _] 25)::s))))) (fun _ _ h=>h) (fun _ _ h=>h) ?_
 refine WP.seq (WP.seq (WP.ops (WO.r (.mv rfl) (WO.r (.load rfl (.there (.app (.there (.app (.there .here))))) rfl rfl rfl) (WO.r (.load rfl .here rfl rfl rfl) (WO.w (WS.callF (first:=[]) (vs:=[.ptr (some ⟨bw,0,0⟩),.agg (evRow 1 (.ofNat p) b n m it),.agg [.bool true,.bool false,.bool false,.func (F 265) [] [.ptr (some ⟨bx,0,0⟩)]]]) (cap:=[]) rfl rfl (mayNew_ok hB (hW _) hd he hp) ?_)))))))
 rintro w s5 ⟨rfl,hW5⟩
 obtain⟨pv,ov,lv,hv,gv,ev,fv,sv,wv,n5,k5,g5⟩:=hW5
 refine WO.r (.mv rfl) (WO.nil (WP.seq (WP.ops (WO.r (.mv rfl) (WO.r (.eql rfl rfl (eqB_i _ _)) (WO.nil (WP.cond rfl (fun h=>Bool.noConfusion (show false=true from h)) (fun _=>WP.skip ?_))))))))
 refine WP.pre k5 ?_
 have hW6:∀ t,WH bw d t ((bw,.r false [d.cells pv ov lv hv gv ev fv sv wv] 25)::(n5++t)):=fun t=>⟨pv,ov,lv,hv,gv,ev,fv,sv,wv,n5,.refl _,g5⟩
 refine WP.seq (WP.ops (WO.r (.faddr rfl) (WO.r (.load rfl (.there (.app .here)) rfl rfl rfl) (WO.r (.load rfl (.there (.app (.there (.app (.there .here))))) rfl rfl rfl) (WO.w (WS.callF (first:=[]) (vs:=[.agg (evRow 1 (.ofNat p) b n m it)]) (cap:=[.ptr (some ⟨bx,0,0⟩)]) rfl rfl (doNew_ok hB (hW6 _) (.there (.left hx)) hd he hp h1 h2) ?_))))))
 rintro w s7 hW7
 obtain⟨pv,ov,lv,hv,gv,ev,fv,sv,wv,n7,k7,g7⟩:=hW7
 refine WO.nil (WP.pre k7 ?_)
 refine WP.seq (WP.ops (WO.r (.mv rfl) (WO.r (.nilchk rfl rfl) (WO.r (.faddr rfl) (WO.r (.load rfl .here rfl rfl rfl) (WO.w (WS.store rfl rfl rfl (.there (.app (.there (.app .here)))) rfl rfl (WO.r (.mv rfl) (WO.nil (WP.ret (Fin.mk (.cell rfl hB.t41.1 hB.t41.2 (.inl rfl) (.there (.app (.there (.app .here)))) rfl rfl rfl (.tmp rfl .nil)) ?_)))))))))))
 have fin:∀ y1 y2 y3 y4 y5,StG (y1::(n7++(y2::(m2++[y3,y4,y5])))) pv ov lv hv gv ev fv sv wv (d.add (newOD p b n m) p):=fun y1 y2 y3 y4 y5=>
  (g7.junk (m:=y1::y2::(m2++[y3,y4,y5]))).perm (perm_ct fun c w h0 h1 h2 hq=>by simp only [h1,h2,h0];omega)
 exact⟨pv,ov,lv,hv,gv,ev,fv,sv,wv,_,rfl,pullc (pull (pullc (pull pull3))),fin _ _ _ _ _⟩
theorem applyCease_ok (hB:Base P K F T) {pv ov lv hv gv ev fv sv wv:AV} {d:SD} (h:StD s pv ov lv hv gv ev fv sv wv d) (hd:d.Small) (he:d.Even) {p i:Nat} {a:Int} {o:OD} {b n m:Int} {it:ID} (hp:p < d.pl.length) (hi:d.find a=some i) (hoi:d.ob[i]?=some o) (ho:o.owner=.ofNat p) (hst:d.st=[]) (hwa:d.wa=[]) (hco:d.co≠a) (hbl:∀ o∈d.ob,o.block≠a)
  (hck:∀ s,Tri P K (F 201) [.agg (evRow 25 a b n m it)] s (fun v s'=>v=iv 0∧s'=s)) :
  Tri P K (F 164) [.agg (d.cells pv ov lv hv gv ev fv sv wv),.agg (evRow 25 a b n m it)] s (fun v s'=>∃ pv ov lv hv gv ev fv sv wv nn,v=.tuple [.agg (((d.left a i o.zone p):SD).cells pv ov lv hv gv ev fv sv wv),iv 0]∧s'=nn++s∧StG nn pv ov lv hv gv ev fv sv wv (d.left a i o.zone p)):=by
 refine hB.f164.tri (by simp) ?_
 unfold a164
 refine WP.seq (WP.ops (WO.a (.box rfl rfl) fun b2=>WO.a (.box rfl rfl) fun b3=>WO.a (.alloc rfl) fun b4=>WO.r (.mv rfl) (WO.nil ?_)))
 have hR:StD ((b4,.r false [zState] 25)::(b3,.r false [evRow 25 a b n m it] 13)::(b2,.r false [d.cells pv ov lv hv gv ev fv sv wv] 25)::s) pv ov lv hv gv ev fv sv wv d:=⟨h.pl.mono fun p hp=>by simp [hp],h.ob.mono fun p hp=>by simp [hp],h.lb.mono fun p hp=>by simp [hp],h.hd.mono fun p hp=>by simp [hp],h.gr.mono fun p hp=>by simp [hp],h.ex.mono fun p hp=>by simp [hp],h.fi.mono fun p hp=>by simp [hp],h.st.mono fun p hp=>by simp [hp],h.wa.mono fun p hp=>by simp [hp]⟩
 refine WP.seq (WP.ops (WO.r (.load rfl (.there (.there .here)) rfl rfl rfl) (WO.w (WS.callF (first:=[]) (vs:=[.agg (d.cells pv ov lv hv gv ev fv sv wv)]) (cap:=[]) rfl rfl (stCopy_ok hB hR hd) ?_))))
 rintro w _ ⟨pv,ov,lv,hv,gv,ev,fv,sv,wv,n1,rfl,rfl,g1⟩
 refine WO.r (.build rfl rfl) (WO.a (.box rfl rfl) fun bw=>WO.r (.mv rfl) (WO.nil ?_))
 refine WP.weak (s':=(bw,.r false [d.cells pv ov lv hv gv ev fv sv wv] 25)::(n1++((b4,.r false [zState] 25)::(b3,.r false [evRow 25 a b n m it] 13)::(b2,.r false [d.cells _ _ _ _ _ _ _ _ _] 25)::s))) (fun _ _ h=>h) (fun _ _ h=>h) ?_
 refine WP.seq (WP.seq (WP.ops (WO.r (.load rfl (.there (.app (.there .here))) rfl rfl rfl) (WO.w (WS.callF (first:=[]) (vs:=[.agg (evRow 25 a b n m it)]) (cap:=[]) rfl rfl (hck _) ?_)))))
 rintro w _ ⟨rfl,rfl⟩
 refine WO.r (.mv rfl) (WO.nil (WP.seq (WP.ops (WO.r (.mv rfl) (WO.r (.eql rfl rfl (eqB_i _ _)) (WO.nil (WP.cond rfl (fun h=>Bool.noConfusion (show false=true from h)) (fun _=>WP.skip ?_))))))))
 refine WP.seq (WP.ops (WO.r (.mv rfl) (WO.r (.faddr rfl) (WO.r (.load rfl (.there (.app (.there .here))) rfl rfl rfl) (WO.w (WS.callF (first:=[]) (vs:=[.ptr (some ⟨bw,0,0⟩),iv 25]) (cap:=[]) rfl rfl (ruleCease_ok hB) ?_))))))
 rintro w _ ⟨bx,m2,rfl,hx,rfl⟩
 refine WO.a (.alloc rfl) fun b8=>WO.w (WS.store rfl rfl rfl .here rfl rfl (WO.nil ?_))
 -- may it be done
 have hW:∀ y,WH bw d ((b8,.r false [[.bool false,.bool true,.bool false,.func (F 261) [] [.ptr (some ⟨bx,0,0⟩)]]] 4)::(m2++((b4,.r false [zState] 25)::(b3,.r false [evRow 25 a b n m it] 13)::(b2,y)::s)))
   ((b8,.r false [[.bool false,.bool true,.bool false,.func (F 261) [] [.ptr (some ⟨bx,0,0⟩)]]] 4)::(m2++((bw,.r false [d.cells pv ov lv hv gv ev fv sv wv] 25)::(n1++((b4,.r false [zState] 25)::(b3,.r false [evRow 25 a b n m it] 13)::(b2,y)::s))))):=fun y=>
  ⟨pv,ov,lv,hv,gv,ev,fv,sv,wv,n1,perm_ct fun c w h0 h1 h2 hq=>by simp only [h1,h2];omega,g1⟩
 refine WP.weak (s':=(b8,.r false [[.bool false,.bool true,.bool false,.func (F 261) [] [.ptr (some ⟨bx,0,0⟩)]]] 4)::(m2++((bw,.r false [d.cells pv ov lv hv gv ev fv sv wv] 25)::(n1++((b4,.r false [zState] 25)::(b3,.r false [evRow 25 a b n m it] 13)::(b2,.r false [d.cells _ _ _ _ _ _ _ _ _] 25)::s))))) (fun _ _ h=>h) (fun _ _ h=>h) ?_
 refine WP.seq (WP.seq (WP.ops (WO.r (.mv rfl) (WO.r (.load rfl (.there (.app (.there (.app (.there .here))))) rfl rfl rfl) (WO.r (.load rfl .here rfl rfl rfl) (WO.w (WS.callF (first:=[]) (vs:=[.ptr (some ⟨bw,0,0⟩),.agg (evRow 25 a b n m it),.agg [.bool false,.bool true,.bool false,.func (F 261) [] [.ptr (some ⟨bx,0,0⟩)]]]) (cap:=[]) rfl rfl (mayCease_ok hB (hW _) hd he hi) ?_)))))))
 rintro w s5 ⟨rfl,hW5⟩
 obtain⟨pv,ov,lv,hv,gv,ev,fv,sv,wv,n5,k5,g5⟩:=hW5
 refine WO.r (.mv rfl) (WO.nil (WP.seq (WP.ops (WO.r (.mv rfl) (WO.r (.eql rfl rfl (eqB_i _ _)) (WO.nil (WP.cond rfl (fun h=>Bool.noConfusion (show false=true from h)) (fun _=>WP.skip ?_))))))))
 refine WP.pre k5 ?_
 have hW6:∀ t,WH bw d t ((bw,.r false [d.cells pv ov lv hv gv ev fv sv wv] 25)::(n5++t)):=fun t=>⟨pv,ov,lv,hv,gv,ev,fv,sv,wv,n5,.refl _,g5⟩
 refine WP.seq (WP.ops (WO.r (.faddr rfl) (WO.r (.load rfl (.there (.app .here)) rfl rfl rfl) (WO.r (.load rfl (.there (.app (.there (.app (.there .here))))) rfl rfl rfl) (WO.w (WS.callF (first:=[]) (vs:=[.agg (evRow 25 a b n m it)]) (cap:=[.ptr (some ⟨bx,0,0⟩)]) rfl rfl (doCease_ok hB (hW6 _) (.there (.left hx)) hd he hp hi hoi ho hst hwa hco hbl) ?_))))))
 rintro w s7 hW7
 obtain⟨pv,ov,lv,hv,gv,ev,fv,sv,wv,n7,k7,g7⟩:=hW7
 refine WO.nil (WP.pre k7 ?_)
 refine WP.seq (WP.ops (WO.r (.mv rfl) (WO.r (.nilchk rfl rfl) (WO.r (.faddr rfl) (WO.r (.load rfl .here rfl rfl rfl) (WO.w (WS.store rfl rfl rfl (.there (.app (.there (.app .here)))) rfl rfl (WO.r (.mv rfl) (WO.nil (WP.ret (Fin.mk (.cell rfl hB.t41.1 hB.t41.2 (.inl rfl) (.there (.app (.there (.app .here)))) rfl rfl rfl (.tmp rfl .nil)) ?_)))))))))))
 have fin:∀ y1 y2 y3 y4 y5,StG (y1::(n7++(y2::(m2++[y3,y4,y5])))) pv ov lv hv gv ev fv sv wv (d.left a i o.zone p):=fun y1 y2 y3 y4 y5=>
  (g7.junk (m:=y1::y2::(m2++[y3,y4,y5]))).perm (perm_ct fun c w h0 h1 h2 hq=>by simp only [h1,h2,h0];omega)
 exact⟨pv,ov,lv,hv,gv,ev,fv,sv,wv,_,rfl,pullc (pull (pullc (pull pull3))),fin _ _ _ _ _⟩
theorem applyOver_ok (hB:Base P K F T) {pv ov lv hv gv ev fv sv wv:AV} {d:SD} (h:StD s pv ov lv hv gv ev fv sv wv d) (hd:d.Small) (he:d.Even) {a:Int} {b n m:Int} {it:ID} 
  (hck:∀ s,Tri P K (F 201) [.agg (evRow 29 a b n m it)] s (fun v s'=>v=iv 0∧s'=s)) :
  Tri P K (F 164) [.agg (d.cells pv ov lv hv gv ev fv sv wv),.agg (evRow 29 a b n m it)] s (fun v s'=>∃ pv ov lv hv gv ev fv sv wv nn,v=.tuple [.agg (({ d with oc:=a,wi:=b }:SD).cells pv ov lv hv gv ev fv sv wv),iv 0]∧s'=nn++s∧StG nn pv ov lv hv gv ev fv sv wv { d with oc:=a,wi:=b }):=by
 refine hB.f164.tri (by simp) ?_
 unfold a164
 refine WP.seq (WP.ops (WO.a (.box rfl rfl) fun b2=>WO.a (.box rfl rfl) fun b3=>WO.a (.alloc rfl) fun b4=>WO.r (.mv rfl) (WO.nil ?_)))
 have hR:StD ((b4,.r false [zState] 25)::(b3,.r false [evRow 29 a b n m it] 13)::(b2,.r false [d.cells pv ov lv hv gv ev fv sv wv] 25)::s) pv ov lv hv gv ev fv sv wv d:=⟨h.pl.mono fun p hp=>by simp [hp],h.ob.mono fun p hp=>by simp [hp],h.lb.mono fun p hp=>by simp [hp],h.hd.mono fun p hp=>by simp [hp],h.gr.mono fun p hp=>by simp [hp],h.ex.mono fun p hp=>by simp [hp],h.fi.mono fun p hp=>by simp [hp],h.st.mono fun p hp=>by simp [hp],h.wa.mono fun p hp=>by simp [hp]⟩
 refine WP.seq (WP.ops (WO.r (.load rfl (.there (.there .here)) rfl rfl rfl) (WO.w (WS.callF (first:=[]) (vs:=[.agg (d.cells pv ov lv hv gv ev fv sv wv)]) (cap:=[]) rfl rfl (stCopy_ok hB hR hd) ?_))))
 rintro w _ ⟨pv,ov,lv,hv,gv,ev,fv,sv,wv,n1,rfl,rfl,g1⟩
 refine WO.r (.build rfl rfl) (WO.a (.box rfl rfl) fun bw=>WO.r (.mv rfl) (WO.nil ?_))
 refine WP.weak (s':=(bw,.r false [d.cells pv ov lv hv gv ev fv sv wv] 25)::(n1++((b4,.r false [zState] 25)::(b3,.r false [evRow 29 a b n m it] 13)::(b2,.r false [d.cells _ _ _ _ _ _ _ _ _] 25)::s))) (fun _ _ h=>h) (fun _ _ h=>h) ?_
 refine WP.seq (WP.seq (WP.ops (WO.r (.load rfl (.there (.app (.there .here))) rfl rfl rfl) (WO.w (WS.callF (first:=[]) (vs:=[.agg (evRow 29 a b n m it)]) (cap:=[]) rfl rfl (hck _) ?_)))))
 rintro w _ ⟨rfl,rfl⟩
 refine WO.r (.mv rfl) (WO.nil (WP.seq (WP.ops (WO.r (.mv rfl) (WO.r (.eql rfl rfl (eqB_i _ _)) (WO.nil (WP.cond rfl (fun h=>Bool.noConfusion (show false=true from h)) (fun _=>WP.skip ?_))))))))
 refine WP.seq (WP.ops (WO.r (.mv rfl) (WO.r (.faddr rfl) (WO.r (.load rfl (.there (.app (.there .here))) rfl rfl rfl) (WO.w (WS.callF (first:=[]) (vs:=[.ptr (some ⟨bw,0,0⟩),iv 29]) (cap:=[]) rfl rfl (ruleOver_ok hB) ?_))))))
 rintro w _ ⟨bx,m2,rfl,hx,rfl⟩
 refine WO.a (.alloc rfl) fun b8=>WO.w (WS.store rfl rfl rfl .here rfl rfl (WO.nil ?_))
 -- may it be done
 have hW:∀ y,WH bw d ((b8,.r false [[.bool false,.bool false,.bool false,.func (F 284) [] [.ptr (some ⟨bx,0,0⟩)]]] 4)::(m2++((b4,.r false [zState] 25)::(b3,.r false [evRow 29 a b n m it] 13)::(b2,y)::s)))
   ((b8,.r false [[.bool false,.bool false,.bool false,.func (F 284) [] [.ptr (some ⟨bx,0,0⟩)]]] 4)::(m2++((bw,.r false [d.cells pv ov lv hv gv ev fv sv wv] 25)::(n1++((b4,.r false [zState] 25)::(b3,.r false [evRow 29 a b n m it] 13)::(b2,y)::s))))):=fun y=>
  ⟨pv,ov,lv,hv,gv,ev,fv,sv,wv,n1,perm_ct fun c w h0 h1 h2 hq=>by simp only [h1,h2];omega,g1⟩
 refine WP.weak (s':=(b8,.r false [[.bool false,.bool false,.bool false,.func (F 284) [] [.ptr (some ⟨bx,0,0⟩)]]] 4)::(m2++((bw,.r false [d.cells pv ov lv hv gv ev fv sv wv] 25)::(n1++((b4,.r false [zState] 25)::(b3,.r false [evRow 29 a b n m it] 13)::(b2,.r false [d.cells _ _ _ _ _ _ _ _ _] 25)::s))))) (fun _ _ h=>h) (fun _ _ h=>h) ?_
 refine WP.seq (WP.seq (WP.ops (WO.r (.mv rfl) (WO.r (.load rfl (.there (.app (.there (.app (.there .here))))) rfl rfl rfl) (WO.r (.load rfl .here rfl rfl rfl) (WO.w (WS.callF (first:=[]) (vs:=[.ptr (some ⟨bw,0,0⟩),.agg (evRow 29 a b n m it),.agg [.bool false,.bool false,.bool false,.func (F 284) [] [.ptr (some ⟨bx,0,0⟩)]]]) (cap:=[]) rfl rfl (mayOver_ok hB (hW _) hd he) ?_)))))))
 rintro w s5 ⟨rfl,hW5⟩
 obtain⟨pv,ov,lv,hv,gv,ev,fv,sv,wv,n5,k5,g5⟩:=hW5
 refine WO.r (.mv rfl) (WO.nil (WP.seq (WP.ops (WO.r (.mv rfl) (WO.r (.eql rfl rfl (eqB_i _ _)) (WO.nil (WP.cond rfl (fun h=>Bool.noConfusion (show false=true from h)) (fun _=>WP.skip ?_))))))))
 refine WP.pre k5 ?_
 have hW6:∀ t,WH bw d t ((bw,.r false [d.cells pv ov lv hv gv ev fv sv wv] 25)::(n5++t)):=fun t=>⟨pv,ov,lv,hv,gv,ev,fv,sv,wv,n5,.refl _,g5⟩
 refine WP.seq (WP.ops (WO.r (.faddr rfl) (WO.r (.load rfl (.there (.app .here)) rfl rfl rfl) (WO.r (.load rfl (.there (.app (.there (.app (.there .here))))) rfl rfl rfl) (WO.w (WS.callF (first:=[]) (vs:=[.agg (evRow 29 a b n m it)]) (cap:=[.ptr (some ⟨bx,0,0⟩)]) rfl rfl (doOver_ok hB (hW6 _) (.there (.left hx))) ?_))))))
 rintro w s7 hW7
 obtain⟨pv,ov,lv,hv,gv,ev,fv,sv,wv,n7,k7,g7⟩:=hW7
 refine WO.nil (WP.pre k7 ?_)
 refine WP.seq (WP.ops (WO.r (.mv rfl) (WO.r (.nilchk rfl rfl) (WO.r (.faddr rfl) (WO.r (.load rfl .here rfl rfl rfl) (WO.w (WS.store rfl rfl rfl (.there (.app (.there (.app .here)))) rfl rfl (WO.r (.mv rfl) (WO.nil (WP.ret (Fin.mk (.cell rfl hB.t41.1 hB.t41.2 (.inl rfl) (.there (.app (.there (.app .here)))) rfl rfl rfl (.tmp rfl .nil)) ?_)))))))))))
 have fin:∀ y1 y2 y3 y4 y5,StG (y1::(n7++(y2::(m2++[y3,y4,y5])))) pv ov lv hv gv ev fv sv wv { d with oc:=a,wi:=b }:=fun y1 y2 y3 y4 y5=>
  (g7.junk (m:=y1::y2::(m2++[y3,y4,y5]))).perm (perm_ct fun c w h0 h1 h2 hq=>by simp only [h1,h2,h0];omega)
 exact⟨pv,ov,lv,hv,gv,ev,fv,sv,wv,_,rfl,pullc (pull (pullc (pull pull3))),fin _ _ _ _ _⟩
end
end Go.Ev
namespace Go.Ev
section
variable {P:Program} {K:Orc} {rd:Option Nat} {nt:Nat} {l:Sl} {ds:List ADef} {s:SH} {Q Qn Qr:Po} {Qe:Nat->Po} {F:Nat->FuncId} {T:Nat->TypeId}
theorem ownEvent_ok (hB:Base P K F T) {k a b n m:Int} {it:ID}:Tri P K (F 165) [.agg (evRow k a b n m it)] s (fun v s'=>v=.agg (evRow k a b n m it)∧∃ m,s'=m++s):=by
 refine hB.f165.tri (by simp) ?_
 unfold a165
 refine WP.seq (WP.ops (WO.a (.box rfl rfl) fun b1=>WO.a (.alloc rfl) fun b2=>WO.nil ?_))
 refine WP.seq (WP.drawn0 (WD.pu (.faddr rfl) (WD.ld rfl .nil (.load rfl (.there .here) rfl rfl rfl) (WD.ch .nil (WS.callF (first:=[]) (vs:=[nilS]) (cap:=[]) rfl rfl hB.c51.cloneNil ?_)))))
 rintro w _ ⟨rfl,rfl⟩
 refine WD.pu (.faddr rfl) (WD.pu (.faddr rfl) (WD.lk rfl .nil (.load rfl (.there .here) rfl rfl rfl) (WD.ch .nil (WS.callF (first:=[]) (vs:=[nilS]) (cap:=[]) rfl rfl hB.c163.cloneNil ?_))))
 rintro w _ ⟨rfl,rfl⟩
 refine WD.pu (.faddr rfl) (WD.ch .nil (WS.store rfl rfl rfl (.there .here) rfl rfl (WD.pu (.faddr rfl) (WD.pu (.faddr rfl) (WD.ch .nil (WS.store rfl rfl rfl (.there .here) rfl rfl (WD.nil .nil ?_ ?_)))))))
 rotate_left
 ·intro o ho
  rw [List.mem_singleton.1 ho]
  refine⟨(fun i hi=>nomatch hi),Nat.zero_le _,rfl,fun k _ hk=>?_⟩
  rcases(by have:k≤1:=hk;omega:k=0∨k=1) with rfl|rfl
  ·exact⟨_,rfl,.load rfl (.there .here) rfl rfl rfl⟩
  ·exact⟨_,rfl,.load rfl (.there .here) rfl rfl rfl⟩
 refine WP.seq (WP.ops (WO.r (.load rfl (.there .here) rfl rfl rfl) (WO.w (WS.store rfl rfl rfl .here rfl rfl (WO.nil (WP.ret (Fin.mk (.cell rfl hB.t50.1 hB.t50.2 (.inl rfl) .here rfl rfl rfl .nil) ?_)))))))
 exact⟨rfl,[_,_],rfl⟩
theorem take_at {a b c:List AV} {i n:Nat} (ha:a.length=i) (hb:b.length=n):ltake n (ldrop i (a++(b++c)))=some b:=by
 subst ha hb
 rw [ldrop_eq,List.drop_left,ltake_some _ _ (by rw [List.length_append];omega),List.take_left]
theorem put_at {a b c b':List AV} {i:Nat} (ha:a.length=i) (hb:b.length=b'.length):lput (a++(b++c)) i b'=some (a++(b'++c)):=by
 subst ha
 unfold lput
 have h1:ltake a.length (a++(b++c))=some a:=by rw [ltake_some _ _ (by rw [List.length_append];omega),List.take_left]
 have h2:ldrop a.length (a++(b++c))=b++c:=by rw [ldrop_eq,List.drop_left]
 have h3:ltake (llen b') (b++c)=some b:=by rw [llen_eq,<- hb,ltake_some _ _ (by rw [List.length_append];omega),List.take_left]
 simp only [h1,h2,h3]
 rw [lapp_eq,lapp_eq,llen_eq,ldrop_eq,<- hb,List.drop_left]
theorem Src.sameN {sz:Nat} {v:AV} {L:List (List AV)} (h:Src s sz v L) (n:Nat):Ev.sameN (n+1) v v=true:=by
 cases h with
 | nil=>simp [Ev.sameN,same0]
 | @zero a c sl rw=>cases a <;> simp [Ev.sameN,same0]
 | emp=>rfl
 | rows _ _=>simp [Ev.sameN,same0]
theorem SL.sameN {v:AV} {LL:List (List (List AV))} (h:SL s v LL) (n:Nat):Ev.sameN (n+1) v v=true:=by
 obtain⟨L,h1,_⟩:=h
 exact h1.sameN n
theorem sameN_i (n:Nat) (k:Int):sameN (n+1) (iv k) (iv k)=true:=by
 have:ieq k k=true:=ieq_iff.2 rfl
 simp [sameN,same0,keq,this]
theorem sameN_b (n:Nat) (b:Bool):sameN (n+1) (.bool b) (.bool b)=true:=by simp [sameN,same0]
theorem StD.same {pv ov lv hv gv ev fv sv wv:AV} {d:SD} (h:StD s pv ov lv hv gv ev fv sv wv d):sameV (.agg (d.cells pv ov lv hv gv ev fv sv wv)) (.agg (d.cells pv ov lv hv gv ev fv sv wv))=true:=by
 show sameL (sameN 5) _ _=true
 unfold SD.cells
 simp only [sameL,h.pl.sameN,h.ob.sameN,h.lb.sameN,h.hd.sameN,h.gr.sameN,h.ex.sameN,h.fi.sameN,h.st.sameN,h.wa.sameN,sameN_i,sameN_b,Bool.and_true,Bool.true_and]
 rfl
theorem put_now {sc b b' c:List AV} {x:AV} (hs:sc.length=25) (hb:b.length=b'.length):lput (sc++([x]++(b++c))) 26 b'=some (sc++([x]++(b'++c))):=by
 have:=put_at (a:=sc++[x]) (b:=b) (b':=b') (c:=c) (i:=26) (by simp [hs]) hb
 simpa [List.append_assoc] using this
def LogH (bl:Nat) (EL:List (List AV)) (d:SD) (t s:SH):Prop:=∃ sc lv pv ov lv' hv gv ev fv sv wv oL n,s.Perm ((bl,.r false [sc++([lv]++(d.cells pv ov lv' hv gv ev fv sv wv++[]))] 51)::(oL++(n++t)))∧sc.length=25∧Gr 13 lv EL oL∧StD n pv ov lv' hv gv ev fv sv wv d
theorem StD.mono {pv ov lv hv gv ev fv sv wv:AV} {d:SD} {s':SH} (h:StD s pv ov lv hv gv ev fv sv wv d) (hs:∀ p,p∈s->p∈s'):StD s' pv ov lv hv gv ev fv sv wv d:=
 ⟨h.pl.mono hs,h.ob.mono hs,h.lb.mono hs,h.hd.mono hs,h.gr.mono hs,h.ex.mono hs,h.fi.mono hs,h.st.mono hs,h.wa.mono hs⟩
theorem logAdd_ok (hB:Base P K F T) {bl:Nat} {EL:List (List AV)} {d d':SD} {t:SH} {k a b n m:Int} {it:ID} (hs:LogH bl EL d t s) (hE:EL.length≤1000)
  (hap:∀ {pv ov lv hv gv ev fv sv wv:AV} (s:SH),StD s pv ov lv hv gv ev fv sv wv d->Tri P K (F 164) [.agg (d.cells pv ov lv hv gv ev fv sv wv),.agg (evRow k a b n m it)] s (fun v s'=>∃ pv ov lv hv gv ev fv sv wv nn,v=.tuple [.agg (d'.cells pv ov lv hv gv ev fv sv wv),iv 0]∧s'=nn++s∧StG nn pv ov lv hv gv ev fv sv wv d')) :
  Tri P K (F 108) [.ptr (some ⟨bl,0,0⟩),.agg (evRow k a b n m it)] s (fun v s'=>v=iv 0∧LogH bl (EL++[evRow k a b n m it]) d' t s'):=by
 obtain⟨sc,lv,pv,ov,lv',hv,gv,ev,fv,sv,wv,oL,nn,k1,k2,k3,k4⟩:=hs
 refine Tri.perm k1.symm ?_
 refine hB.f108.tri (by simp) ?_
 unfold a108
 refine WP.seq (WP.ops (WO.a (.box rfl rfl) fun b3=>WO.r (.mv rfl) (WO.nil ?_)))
 refine WP.seq (WP.seq (WP.ops (WO.r (.mv rfl) (WO.r (.eql (b:=false) rfl rfl rfl) (WO.nil (WP.cond rfl (fun h=>by cases h) (fun _=>WP.skip ?_)))))))
 have hnow:ltake 25 (ldrop 26 (sc++([lv]++(d.cells pv ov lv' hv gv ev fv sv wv++[]))))=some (d.cells pv ov lv' hv gv ev fv sv wv):=by
  have:=take_at (a:=sc++[lv]) (b:=d.cells pv ov lv' hv gv ev fv sv wv) (c:=[]) (i:=26) (n:=25) (by simp [k2]) rfl
  rwa [List.append_assoc] at this
 have hl:ltake 1 (ldrop 25 (sc++([lv]++(d.cells pv ov lv' hv gv ev fv sv wv++[]))))=some [lv]:=take_at k2 rfl
 refine WP.seq (WP.drawn1 fun b5=>WD.pu (.mv rfl) (WD.pu (.nilchk rfl rfl) (WD.pu (.faddr rfl) (WD.ld rfl .nil (.load rfl (.there (.there .here)) rfl hnow rfl) (WD.ld rfl .nil (.load rfl (.there .here) rfl rfl rfl) (WD.ch .nil (WS.callF (first:=[]) (vs:=[.agg (d.cells pv ov lv' hv gv ev fv sv wv),.agg (evRow k a b n m it)]) (cap:=[]) rfl rfl (hap _ (k4.mono fun p hp=>by simp [hp])) ?_)))))))
 rintro w _ ⟨pv2,ov2,lv2,hv2,gv2,ev2,fv2,sv2,wv2,n2,rfl,rfl,g2⟩
 have hR2:StD n2 pv2 ov2 lv2 hv2 gv2 ev2 fv2 sv2 wv2 d':=g2.r fun p hp=>hp
 refine WD.pu (.mv rfl) (WD.pu (.extract rfl rfl) (WD.pu (.extract rfl rfl) (WD.al (.alloc rfl) rfl (WD.ch (.yes (show bit 767 9=true from rfl) rfl (.app .here) .nil) (WS.store rfl rfl rfl (.app .here) rfl rfl (WD.pu (.mv rfl) (WD.nil .nil ?_ (fun o h=>nomatch h))))))))
 refine WP.weak (s':=n2++((b5,.r false [d'.cells pv2 ov2 lv2 hv2 gv2 ev2 fv2 sv2 wv2] 25)::(b3,.r false [evRow k a b n m it] 13)::(bl,.r false [sc++([lv]++(d.cells pv ov lv' hv gv ev fv sv wv++[]))] 51)::(oL++(nn++t)))) (fun _ _ h=>h) (fun _ _ h=>h) ?_
 refine WP.seq (WP.seq (WP.ops (WO.r (.mv rfl) (WO.r (.eql rfl rfl (eqB_i _ _)) (WO.nil (WP.cond rfl (fun h=>Bool.noConfusion (show false=true from h)) (fun _=>WP.skip ?_)))))))
 refine WP.seq (WP.drawn1 fun b8=>WD.pu (.mv rfl) (WD.pu (.mv rfl) (WD.pu (.mv rfl) (WD.pu (.nilchk rfl rfl) (WD.pu (.faddr rfl) (WD.lk rfl .nil (.load rfl (.there (.app (.there (.there .here)))) rfl hl rfl) (WD.ld rfl .nil (.load rfl (.there (.app (.there .here))) rfl rfl rfl) (WD.ch .nil (WS.callF (first:=[]) (vs:=[.agg (evRow k a b n m it)]) (cap:=[]) rfl rfl (ownEvent_ok hB) ?_)))))))))
 rintro w _ ⟨rfl,m3,rfl⟩
 refine WD.al (.bslice (L:=[evRow k a b n m it]) (bsrows1 rfl rfl) rfl) rfl ?_
 refine WD.ch (.yes (show bit 508 8=true from rfl) rfl (.app .here) .nil) (WS.pre (s':=(m3++((b8,.r false [evRow k a b n m it] 13)::(n2++[(b5,.r false [d'.cells pv2 ov2 lv2 hv2 gv2 ev2 fv2 sv2 wv2] 25),(b3,.r false [evRow k a b n m it] 13),(bl,.r false [sc++([lv]++(d.cells pv ov lv' hv gv ev fv sv wv++[]))] 51)])))++(oL++(nn++t))) (perm_ct fun c w h0 h1 h2 hq=>by simp only [h1,h2,h0];omega) (WS.append_gr rfl k3 rfl (Src.all (L:=[evRow k a b n m it]) (.left (.app .here))) (by omega) (by omega) (by omega) fun v6 o6 j6 hG=>?_))
 refine WD.lk rfl .nil (.load rfl (.app (.left (.app (.there (.app .here))))) rfl rfl rfl) (WD.pu (.nilchk rfl rfl) (WD.pu (.faddr rfl) (WD.ch .nil (WS.store rfl rfl hG.part (.app (.left (.app (.there (.app (.there (.there .here))))))) rfl (put_at k2 rfl) (WD.pu (.nilchk rfl rfl) (WD.pu (.faddr rfl) (WD.ch .nil (WS.store rfl rfl rfl (.app (.left (.app (.there (.app (.there (.there .here))))))) rfl (put_now k2 rfl) (WD.nil .nil ?_ ?_)))))))))
 ·refine WP.seq (WP.ops (WO.r (.mv rfl) (WO.nil (WP.ret (Fin.mk (.tmp rfl .nil) ?_)))))
  have fin:∀ y1 y2 y3,LogH bl (EL++[evRow k a b n m it]) d' t (o6++((m3++(y1::(n2++[y2,y3,(bl,.r false [sc++([v6]++(d'.cells pv2 ov2 lv2 hv2 gv2 ev2 fv2 sv2 wv2++[]))] 51)])))++(j6++(nn++t)))):=fun y1 y2 y3=>
   ⟨sc,v6,pv2,ov2,lv2,hv2,gv2,ev2,fv2,sv2,wv2,o6,n2++(m3++(y1::y2::y3::(j6++nn))),perm_ct fun c w h0 h1 h2 hq=>by simp only [h1,h2,h0];omega,k2,hG,hR2.mono fun p hp=>by simp [hp]⟩
  exact⟨rfl,fin _ _ _⟩
 ·intro o ho
  rcases List.mem_cons.1 ho with rfl|ho
  ·refine⟨(fun i hi=>by rw [List.mem_singleton.1 hi];exact(show bit 0 8=false from rfl)),Nat.zero_le _,hR2.same,fun k _ hk=>?_⟩
   rcases(by have:k≤3:=hk;omega:k=0∨k=1∨k=2∨k=3) with rfl|rfl|rfl|rfl
   ·exact⟨_,rfl,.load rfl (.there (.app .here)) rfl rfl rfl⟩
   ·exact⟨_,rfl,.load rfl (.app (.there (.app .here))) rfl rfl rfl⟩
   ·exact⟨_,rfl,.load rfl (.app (.left (.app (.there (.app .here))))) rfl rfl rfl⟩
   ·exact⟨_,rfl,.load rfl (.app (.left (.app (.there (.app .here))))) rfl rfl rfl⟩
  ·rw [List.mem_singleton.1 ho]
   refine⟨(fun i hi=>by rw [List.mem_singleton.1 hi];exact(show bit 28 8=false from rfl)),Nat.zero_le _,k3.out.src.same,fun k _ hk=>?_⟩
   rcases(by have:k≤1:=hk;omega:k=0∨k=1) with rfl|rfl
   ·exact⟨_,rfl,.load rfl (.there (.app (.there (.there .here)))) rfl hl rfl⟩
   ·exact⟨_,rfl,.load rfl (.app (.there (.app (.there (.there .here))))) rfl hl rfl⟩
end
end Go.Ev
namespace Go.Ev
section
variable {P:Program} {K:Orc} {rd:Option Nat} {nt:Nat} {l:Sl} {ds:List ADef} {s:SH} {Q Qn Qr:Po} {Qe:Nat->Po} {F:Nat->FuncId} {T:Nat->TypeId}
theorem LogH.junk {bl:Nat} {EL:List (List AV)} {d:SD} {t s m:SH} (h:LogH bl EL d t s):LogH bl EL d t (m++s):=by
 obtain⟨sc,lv,pv,ov,lv',hv,gv,ev,fv,sv,wv,oL,nn,k1,k2,k3,k4⟩:=h
 exact⟨sc,lv,pv,ov,lv',hv,gv,ev,fv,sv,wv,oL,nn++m,perm_ct fun c w h0 h1 h2 hq=>by simp only [h1,h2,hq _ _ k1];omega,k2,k3,k4.mono fun p hp=>by simp [hp]⟩
theorem LogH.perm {bl:Nat} {EL:List (List AV)} {d:SD} {t s s':SH} (h:LogH bl EL d t s) (hp:s.Perm s'):LogH bl EL d t s':=by
 obtain⟨sc,lv,pv,ov,lv',hv,gv,ev,fv,sv,wv,oL,nn,k1,k2,k3,k4⟩:=h
 exact⟨sc,lv,pv,ov,lv',hv,gv,ev,fv,sv,wv,oL,nn,hp.symm.trans k1,k2,k3,k4⟩
theorem LogH.absorb {bl:Nat} {EL:List (List AV)} {d:SD} {x t s:SH} (h:LogH bl EL d (x++t) s):LogH bl EL d t s:=by
 obtain⟨sc,lv,pv,ov,lv',hv,gv,ev,fv,sv,wv,oL,nn,k1,k2,k3,k4⟩:=h
 exact⟨sc,lv,pv,ov,lv',hv,gv,ev,fv,sv,wv,oL,nn++x,perm_ct fun c w h0 h1 h2 hq=>by simp only [h1,h2,hq _ _ k1];omega,k2,k3,k4.mono fun p hp=>by simp [hp]⟩
theorem LogH.mem {bl:Nat} {EL:List (List AV)} {d:SD} {t s:SH} (h:LogH bl EL d t s) {b:Nat} {o:HO} (hb:Has b o t):Has b o s:=by
 obtain⟨sc,lv,pv,ov,lv',hv,gv,ev,fv,sv,wv,oL,nn,k1,k2,k3,k4⟩:=h
 exact .of_mem (k1.mem_iff.2 (by simp [hb.mem]))
theorem now_ok (hB:Base P K F T) {bl:Nat} {EL:List (List AV)} {d:SD} {t:SH} (hs:LogH bl EL d t s) (hd:d.Small) :
  Tri P K (F 52) [.ptr (some ⟨bl,0,0⟩)] s (fun v s'=>LogH bl EL d t s'∧∃ pv ov lv hv gv ev fv sv wv,v=.agg (d.cells pv ov lv hv gv ev fv sv wv)∧StD s' pv ov lv hv gv ev fv sv wv d):=by
 have hs0:=hs
 obtain⟨sc,lv,pv,ov,lv',hv,gv,ev,fv,sv,wv,oL,nn,k1,k2,k3,k4⟩:=hs
 refine Tri.perm k1.symm ?_
 have hs1:=hs0.perm k1
 refine hB.f52.tri (by simp) ?_
 unfold a52
 have hnow:ltake 25 (ldrop 26 (sc++([lv]++(d.cells pv ov lv' hv gv ev fv sv wv++[]))))=some (d.cells pv ov lv' hv gv ev fv sv wv):=by
  have:=take_at (a:=sc++[lv]) (b:=d.cells pv ov lv' hv gv ev fv sv wv) (c:=[]) (i:=26) (n:=25) (by simp [k2]) rfl
  rwa [List.append_assoc] at this
 refine WP.seq (WP.ops (WO.a (.alloc rfl) fun b2=>WO.nil ?_))
 refine WP.seq (WP.seq (WP.ops (WO.r (.mv rfl) (WO.r (.eql (b:=false) rfl rfl rfl) (WO.nil (WP.cond rfl (fun h=>by cases h) (fun _=>WP.skip ?_)))))))
 refine WP.seq (WP.ops (WO.r (.mv rfl) (WO.r (.nilchk rfl rfl) (WO.r (.faddr rfl) (WO.r (.load rfl (.there .here) rfl hnow rfl) (WO.w (WS.callF (first:=[]) (vs:=[.agg (d.cells pv ov lv' hv gv ev fv sv wv)]) (cap:=[]) rfl rfl (stCopy_ok hB (k4.mono fun p hp=>by simp [hp]) hd) ?_)))))))
 rintro w _ ⟨pv2,ov2,lv2,hv2,gv2,ev2,fv2,sv2,wv2,n2,rfl,rfl,g2⟩
 refine WO.w (WS.store rfl rfl rfl (.app .here) rfl rfl (WO.nil (WP.ret (Fin.mk (.cell rfl hB.t41.1 hB.t41.2 (.inl rfl) (.app .here) rfl rfl rfl .nil) ?_))))
 exact⟨LogH.junk (m:=n2) (LogH.junk (m:=[_]) hs1),pv2,ov2,lv2,hv2,gv2,ev2,fv2,sv2,wv2,rfl,g2.r fun p hp=>by simp [hp]⟩
theorem Src.mono2 {sz:Nat} {v:AV} {L:List (List AV)} {s':SH} (h:Src s sz v L) (hs:∀ b ro L,(b,HO.r ro L sz)∈s->(b,HO.r ro L sz)∈s'):Src s' sz v L:=by
 cases h with
 | nil=>exact .nil
 | zero=>exact .zero
 | emp=>exact .emp
 | rows hb hn=>exact .rows (.of_mem (hs _ _ _ hb.mem)) hn
theorem SI.mono2 {L:List (List AV)} {LL:List (List (List AV))} {s':SH} (h:SI s L LL) (hs:∀ b ro L,(b,HO.r ro L 1)∈s->(b,HO.r ro L 1)∈s'):SI s' L LL:=by
 induction h with
 | nil=>exact .nil
 | cons k1 k2 ih=>exact .cons (k1.mono2 hs) ih
theorem SL.mono2 {v:AV} {LL:List (List (List AV))} {s':SH} (h:SL s v LL) (hs:∀ b ro L,(b,HO.r ro L 1)∈s->(b,HO.r ro L 1)∈s'):SL s' v LL:=by
 obtain⟨L,h1,h2⟩:=h
 exact⟨L,h1.mono2 hs,h2.mono2 hs⟩
theorem StD.mono2 {pv ov lv hv gv ev fv sv wv:AV} {d:SD} {s':SH} (h:StD s pv ov lv hv gv ev fv sv wv d) (hs:∀ b ro L sz,sz≠25->(b,HO.r ro L sz)∈s->(b,HO.r ro L sz)∈s'):StD s' pv ov lv hv gv ev fv sv wv d:=
 ⟨h.pl.mono2 fun b ro L=>hs b ro L 8 (by omega),h.ob.mono2 fun b ro L=>hs b ro L 14 (by omega),h.lb.mono2 fun b ro L=>hs b ro L 1 (by omega),h.hd.mono2 fun b ro L=>hs b ro L 1 (by omega),h.gr.mono2 fun b ro L=>hs b ro L 1 (by omega),h.ex.mono2 fun b ro L=>hs b ro L 1 (by omega),
  h.fi.mono2 fun b ro L=>hs b ro L 1 (by omega),h.st.mono2 fun b ro L=>hs b ro L 7 (by omega),h.wa.mono2 fun b ro L=>hs b ro L 7 (by omega)⟩
@[reducible] def foldRow (bl:Nat) (cards:AV) (c0 c1 c2 c3 c4:Int) (draws:AV):List AV:=[.ptr (some ⟨bl,0,0⟩),cards,iv c0,iv c1,iv c2,iv c3,iv c4,draws]
theorem boardLog_ok (hB:Base P K F T) {bf bl:Nat} {cards draws:AV} {c0 c1 c2 c3 c4:Int} (hf:Has bf (.r false [foldRow bl cards c0 c1 c2 c3 c4 draws] 8) s):Tri P K (F 24) [.ptr (some ⟨bf,0,0⟩)] s (fun v s'=>v=.ptr (some ⟨bl,0,0⟩)∧s'=s):=by
 refine hB.f24.tri (by simp) ?_
 unfold a24
 refine WP.seq (WP.ops (WO.r (.mv rfl) (WO.nil ?_)))
 refine WP.seq (WP.seq (WP.ops (WO.r (.mv rfl) (WO.r (.eql (b:=false) rfl rfl rfl) (WO.nil (WP.cond rfl (fun h=>by cases h) (fun _=>WP.skip ?_)))))))
 refine WP.seq (WP.ops (WO.r (.mv rfl) (WO.r (.nilchk rfl rfl) (WO.r (.faddr rfl) (WO.r (.faddr rfl) (WO.r (.load rfl hf rfl rfl rfl) (WO.r (.mv rfl) (WO.nil (WP.ret (Fin.mk (.tmp rfl .nil) ?_))))))))))
 exact⟨rfl,rfl⟩
theorem boardState_ok (hB:Base P K F T) {bf bl:Nat} {cards draws:AV} {c0 c1 c2 c3 c4:Int} {EL:List (List AV)} {d:SD} {t:SH} (hs:LogH bl EL d t s) (hd:d.Small) (hf:Has bf (.r false [foldRow bl cards c0 c1 c2 c3 c4 draws] 8) t) :
  Tri P K (F 14) [.ptr (some ⟨bf,0,0⟩)] s (fun v s'=>LogH bl EL d t s'∧∃ pv ov lv hv gv ev fv sv wv,v=.agg (d.cells pv ov lv hv gv ev fv sv wv)∧StD s' pv ov lv hv gv ev fv sv wv d):=by
 refine hB.f14.tri (by simp) ?_
 unfold a14
 refine WP.seq (WP.ops (WO.a (.alloc rfl) fun b2=>WO.nil ?_))
 have hs2:LogH bl EL d ([(b2,.r false [zState] 25)]++t) ((b2,.r false [zState] 25)::s):=by
  obtain⟨sc,lv,pv,ov,lv',hv,gv,ev,fv,sv,wv,oL,nn,k1,k2,k3,k4⟩:=hs
  exact⟨sc,lv,pv,ov,lv',hv,gv,ev,fv,sv,wv,oL,nn,perm_ct fun c w h0 h1 h2 hq=>by simp only [h1,h2,h0,hq _ _ k1];omega,k2,k3,k4⟩
 refine WP.seq (WP.ops (WO.r (.mv rfl) (WO.w (WS.callF (first:=[]) (vs:=[.ptr (some ⟨bf,0,0⟩)]) (cap:=[]) rfl rfl (boardLog_ok hB (.there (hs.mem hf))) ?_))))
 rintro w _ ⟨rfl,rfl⟩
 refine WO.w (WS.callF (first:=[]) (vs:=[.ptr (some ⟨bl,0,0⟩)]) (cap:=[]) rfl rfl (now_ok hB hs2 hd) ?_)
 rintro w s3 ⟨hs3,pv,ov,lv,hv,gv,ev,fv,sv,wv,rfl,hR⟩
 obtain⟨sc,lv2,pv2,ov2,lv',hv2,gv2,ev2,fv2,sv2,wv2,oL,nn,k1,k2,k3,k4⟩:=hs3
 refine WO.w (WS.pre (s':=[(b2,.r false [zState] 25)]++((bl,.r false [sc++([lv2]++(d.cells pv2 ov2 lv' hv2 gv2 ev2 fv2 sv2 wv2++[]))] 51)::(oL++(nn++t)))) (perm_ct fun c w h0 h1 h2 hq=>by simp only [h1,h2,h0,hq _ _ k1];omega) (WS.store rfl rfl rfl .here rfl rfl (WO.nil (WP.ret (Fin.mk (.cell rfl hB.t41.1 hB.t41.2 (.inl rfl) .here rfl rfl rfl .nil) ?_)))))
 have fin:∀ y,LogH bl EL d t ((b2,y)::((bl,.r false [sc++([lv2]++(d.cells pv2 ov2 lv' hv2 gv2 ev2 fv2 sv2 wv2++[]))] 51)::(oL++(nn++t))))∧StD ((b2,y)::((bl,.r false [sc++([lv2]++(d.cells pv2 ov2 lv' hv2 gv2 ev2 fv2 sv2 wv2++[]))] 51)::(oL++(nn++t)))) pv ov lv hv gv ev fv sv wv d:=fun y=>
  ⟨LogH.junk (m:=[_]) ⟨sc,lv2,pv2,ov2,lv',hv2,gv2,ev2,fv2,sv2,wv2,oL,nn,.refl _,k2,k3,k4⟩,hR.mono2 fun b ro L sz hsz hm=>by
   have:=k1.mem_iff.1 hm
   simp only [List.mem_cons,List.mem_append,Prod.mk.injEq,HO.r.injEq] at this ⊢
   rcases this with h|h|h|h|h
   ·exact .inr (.inl h)
   ·exact .inr (.inr (.inl h))
   ·exact .inr (.inr (.inr (.inl h)))
   ·rcases h with h | h
    ·exact absurd h.2.2.2 hsz
    ·cases h
   ·exact .inr (.inr (.inr (.inr h)))⟩
 exact⟨(fin _).1,pv,ov,lv,hv,gv,ev,fv,sv,wv,rfl,(fin _).2⟩
end
end Go.Ev
namespace Go.Ev
section
variable {P:Program} {K:Orc} {rd:Option Nat} {nt:Nat} {l:Sl} {ds:List ADef} {s:SH} {Q Qn Qr:Po} {Qe:Nat->Po} {F:Nat->FuncId} {T:Nat->TypeId}
theorem LogH.cons {bl:Nat} {EL:List (List AV)} {d:SD} {t s:SH} {p:Nat × HO} (h:LogH bl EL d t s):LogH bl EL d (p::t) (p::s):=by
 obtain⟨sc,lv,pv,ov,lv',hv,gv,ev,fv,sv,wv,oL,nn,k1,k2,k3,k4⟩:=h
 exact⟨sc,lv,pv,ov,lv',hv,gv,ev,fv,sv,wv,oL,nn,perm_ct fun c w h0 h1 h2 hq=>by simp only [h1,h2,hq _ _ k1];omega,k2,k3,k4⟩
theorem LogH.tail {bl:Nat} {EL:List (List AV)} {d:SD} {t s:SH} {p:Nat × HO} (h:LogH bl EL d (p::t) s):LogH bl EL d t s:=LogH.absorb (x:=[p]) h
theorem sub_i {n:Int} (h0:1≤n) (h1:n≤4611686018427387904):binV .sub (iv n) (.int .i64 (.ofNat 1))=some (iv (n - 1)):=by
 obtain⟨k,rfl⟩:=Int.eq_ofNat_of_zero_le (by omega:0≤n)
 have hk:1≤k:=by omega
 show mkI .i64 (isub (.ofNat k) (.ofNat 1))=_
 have:isub (.ofNat k) (.ofNat 1)=.ofNat (k - 1):=by
  show (match Nat.ble 1 k with | true=>Int.ofNat (Nat.sub k 1) | false=>.negSucc (Nat.pred (Nat.sub 1 k)))=_
  rw [Nat.ble_eq_true_of_le hk];rfl
 rw [this,mkI_n (by omega)]
 congr 2
 show ((k - 1:Nat):Int)=(k:Int) - 1
 omega
def Ap (P:Program) (K:Orc) (F:Nat->FuncId) (k a b n m:Int) (it:ID) (d d':SD):Prop:=∀ {pv ov lv hv gv ev fv sv wv:AV} (s:SH),StD s pv ov lv hv gv ev fv sv wv d->Tri P K (F 164) [.agg (d.cells pv ov lv hv gv ev fv sv wv),.agg (evRow k a b n m it)] s (fun v s'=>∃ pv ov lv hv gv ev fv sv wv nn,v=.tuple [.agg (d'.cells pv ov lv hv gv ev fv sv wv),iv 0]∧s'=nn++s∧StG nn pv ov lv hv gv ev fv sv wv d')
theorem boardAdd_ok (hB:Base P K F T) {bl:Nat} {EL:List (List AV)} {d d':SD} {t:SH} {k a b n m:Int} {it:ID} (hs:LogH bl EL d t s) (hE:EL.length≤1000) (hap:Ap P K F k a b n m it d d') :
  Tri P K (F 53) [.agg [.ptr (some ⟨bl,0,0⟩)],.agg (evRow k a b n m it)] s (fun v s'=>v=iv 0∧LogH bl (EL++[evRow k a b n m it]) d' t s'):=by
 refine hB.f53.tri (by simp) ?_
 unfold a53
 refine WP.seq (WP.ops (WO.a (.box rfl rfl) fun b2=>WO.a (.box rfl rfl) fun b3=>WO.r (.mv rfl) (WO.nil ?_)))
 refine WP.seq (WP.ops (WO.r (.faddr rfl) (WO.r (.load rfl (.there .here) rfl rfl rfl) (WO.r (.load rfl .here rfl rfl rfl) (WO.w (WS.callF (first:=[]) (vs:=[.ptr (some ⟨bl,0,0⟩),.agg (evRow k a b n m it)]) (cap:=[]) rfl rfl (logAdd_ok hB (LogH.junk (m:=[_,_]) hs) hE hap) ?_))))))
 rintro w s2 ⟨rfl,h2⟩
 exact WO.r (.mv rfl) (WO.nil (WP.ret (Fin.mk (.tmp rfl .nil) ⟨rfl,h2⟩)))
theorem doFull_ok (hB:Base P K F T) {bf bl:Nat} {cards draws:AV} {c0 c1 c2 c3 c4:Int} {EL:List (List AV)} {d d':SD} {t:SH} {a:Int} {b n m:Int} {it:ID} (hs:LogH bl EL d t s) (hd:d.Small) (hf:Has bf (.r false [foldRow bl cards c0 c1 c2 c3 c4 draws] 8) t) (hE:EL.length≤1000)
  (hlen:ilt (.ofNat d.ob.length) c0=false) (hap:Ap P K F 29 3 0 0 0 ⟨0,0,0,0,0,0⟩ d d') :
  Tri P K (F 15) [.ptr (some ⟨bf,0,0⟩),.agg (evRow 1 a b n m it)] s (fun v s'=>v=iv (-1)∧LogH bl (EL++[evRow 29 3 0 0 0 ⟨0,0,0,0,0,0⟩]) d' t s'):=by
 refine hB.f15.tri (by simp) ?_
 unfold a15
 refine WP.seq (WP.ops (WO.a (.box rfl rfl) fun b3=>WO.r (.mv rfl) (WO.nil ?_)))
 have hs3:LogH bl EL d ((b3,.r false [evRow 1 a b n m it] 13)::t) ((b3,.r false [evRow 1 a b n m it] 13)::s):=hs.cons
 refine WP.seq (WP.block (WP.seq (WP.ops (WO.r (.mv rfl) (WO.r (.eql (b:=false) rfl rfl rfl) (WO.r (.mv rfl) (WO.nil (WP.cond rfl (fun h=>by cases h) (fun _=>WP.seq (WP.drawn0 ?_))))))))))
 refine(WD.pu (.faddr rfl) (WD.ld rfl .nil (.load rfl .here rfl rfl rfl) (WD.pu (.eql rfl rfl (eqB_i _ _)) (WD.pu (.mv rfl) (WD.yes rfl rfl (WD.pu (.mv rfl) (WD.yes rfl rfl (WD.ch .nil (WS.callF (first:=[]) (vs:=[.ptr (some ⟨bf,0,0⟩)]) (cap:=[]) rfl rfl (boardState_ok hB hs3 hd (.there hf)) ?_)))))))))
 rintro w s4 ⟨hs4,pv,ov,lv,hv,gv,ev,fv,sv,wv,rfl,hR⟩
 have lo:lenOf ov=some d.ob.length:=by rw [hR.ob.lenOf];simp [obR]
 refine(WD.yes rfl rfl (WD.pu (.fld rfl rfl) (WD.yes rfl rfl (WD.pu (.lenS rfl lo) (WD.yes rfl rfl (WD.pu (.mv rfl) (WD.yes rfl rfl (WD.pu (.nilchk rfl rfl) (WD.yes rfl rfl (WD.pu (.faddr rfl) (WD.yes rfl rfl (WD.pu (.faddr rfl) (WD.yes rfl rfl (WD.lk rfl .nil (.load rfl (hs4.mem (.there hf)) rfl rfl rfl) (WD.yes rfl rfl (WD.pu (.arith rfl rfl rfl) (WD.pu (.pick1 rfl rfl) (WD.pu (.mv rfl) (WD.nil .nil ?_ ?_)))))))))))))))))))
 rotate_left
 ·intro o ho
  rw [List.mem_singleton.1 ho]
  refine⟨(fun i hi=>nomatch hi),Nat.zero_le _,same_i _,fun k _ hk=>?_⟩
  rcases(by have:k≤1:=hk;omega:k=0∨k=1) with rfl|rfl
  ·exact⟨_,rfl,.load rfl (.there (hs.mem hf)) rfl rfl rfl⟩
  ·exact⟨_,rfl,.load rfl (hs4.mem (.there hf)) rfl rfl rfl⟩
 refine WP.cond rfl (fun _=>?_) (fun h=>by rw [hlen] at h;cases h)
 refine WP.seq (WP.ops (WO.r (.mv rfl) (WO.r (.nilchk rfl rfl) (WO.r (.faddr rfl) (WO.r (.load rfl (hs4.mem (.there hf)) rfl rfl rfl) (WO.r (.build rfl rfl) (WO.w (WS.callF (first:=[]) (vs:=[.agg [.ptr (some ⟨bl,0,0⟩)],.agg (evRow 29 3 0 0 0 ⟨0,0,0,0,0,0⟩)]) (cap:=[]) rfl rfl (boardAdd_ok hB hs4 hE hap) ?_))))))))
 rintro w s5 ⟨rfl,hs5⟩
 refine WO.nil (WP.seq (WP.ops (WO.r (.mv rfl) (WO.nil (WP.ret (Fin.mk (.tmp rfl .nil) ⟨rfl,hs5.tail⟩))))))
theorem doNewEv_ok (hB:Base P K F T) {bf bl:Nat} {cards draws:AV} {c0 c1 c2 c3 c4:Int} {EL:List (List AV)} {d d':SD} {t:SH} {a:Int} {b n m:Int} {it:ID} (hs:LogH bl EL d t s) (hd:d.Small) (hf:Has bf (.r false [foldRow bl cards c0 c1 c2 c3 c4 draws] 8) t) (hE:EL.length≤1000)
  (hlen:ilt (.ofNat d.ob.length) c0=true) (hap:Ap P K F 1 a b n m it d d') (hd':d'.Small) (hnx:1≤d'.nx∧d'.nx≤1000000) :
  Tri P K (F 15) [.ptr (some ⟨bf,0,0⟩),.agg (evRow 1 a b n m it)] s (fun v s'=>v=iv (d'.nx - 1)∧LogH bl (EL++[evRow 1 a b n m it]) d' t s'):=by
 refine hB.f15.tri (by simp) ?_
 unfold a15
 refine WP.seq (WP.ops (WO.a (.box rfl rfl) fun b3=>WO.r (.mv rfl) (WO.nil ?_)))
 have hs3:LogH bl EL d ((b3,.r false [evRow 1 a b n m it] 13)::t) ((b3,.r false [evRow 1 a b n m it] 13)::s):=hs.cons
 refine WP.seq (WP.block (WP.seq (WP.ops (WO.r (.mv rfl) (WO.r (.eql (b:=false) rfl rfl rfl) (WO.r (.mv rfl) (WO.nil (WP.cond rfl (fun h=>by cases h) (fun _=>WP.seq (WP.drawn0 ?_))))))))))
 refine(WD.pu (.faddr rfl) (WD.ld rfl .nil (.load rfl .here rfl rfl rfl) (WD.pu (.eql rfl rfl (eqB_i _ _)) (WD.pu (.mv rfl) (WD.yes rfl rfl (WD.pu (.mv rfl) (WD.yes rfl rfl (WD.ch .nil (WS.callF (first:=[]) (vs:=[.ptr (some ⟨bf,0,0⟩)]) (cap:=[]) rfl rfl (boardState_ok hB hs3 hd (.there hf)) ?_)))))))))
 rintro w s4 ⟨hs4,pv,ov,lv,hv,gv,ev,fv,sv,wv,rfl,hR⟩
 have lo:lenOf ov=some d.ob.length:=by rw [hR.ob.lenOf];simp [obR]
 refine(WD.yes rfl rfl (WD.pu (.fld rfl rfl) (WD.yes rfl rfl (WD.pu (.lenS rfl lo) (WD.yes rfl rfl (WD.pu (.mv rfl) (WD.yes rfl rfl (WD.pu (.nilchk rfl rfl) (WD.yes rfl rfl (WD.pu (.faddr rfl) (WD.yes rfl rfl (WD.pu (.faddr rfl) (WD.yes rfl rfl (WD.lk rfl .nil (.load rfl (hs4.mem (.there hf)) rfl rfl rfl) (WD.yes rfl rfl (WD.pu (.arith rfl rfl rfl) (WD.pu (.pick1 rfl rfl) (WD.pu (.mv rfl) (WD.nil .nil ?_ ?_)))))))))))))))))))
 rotate_left
 ·intro o ho
  rw [List.mem_singleton.1 ho]
  refine⟨(fun i hi=>nomatch hi),Nat.zero_le _,same_i _,fun k _ hk=>?_⟩
  rcases(by have:k≤1:=hk;omega:k=0∨k=1) with rfl|rfl
  ·exact⟨_,rfl,.load rfl (.there (hs.mem hf)) rfl rfl rfl⟩
  ·exact⟨_,rfl,.load rfl (hs4.mem (.there hf)) rfl rfl rfl⟩
 refine WP.cond rfl (fun h=>by rw [hlen] at h;cases h) (fun _=>?_)
 refine WP.seq (WP.drawn0 (WD.pu (.mv rfl) (WD.pu (.nilchk rfl rfl) (WD.pu (.faddr rfl) (WD.ld rfl .nil (.load rfl (hs4.mem (.there hf)) rfl rfl rfl) (WD.ld rfl .nil (.load rfl (hs4.mem .here) rfl rfl rfl) (WD.ch .nil (WS.callF (first:=[]) (vs:=[.agg [.ptr (some ⟨bl,0,0⟩)],.agg (evRow 1 a b n m it)]) (cap:=[]) rfl rfl (boardAdd_ok hB hs4 hE hap) ?_))))))))
 rintro w s5 ⟨rfl,hs5⟩
 refine WD.pu (.eql rfl rfl (eqB_i _ _)) (WD.pu (.mv rfl) (WD.nil .nil ?_ (fun o h=>nomatch h)))
 refine WP.cond rfl (fun h=>Bool.noConfusion (show false=true from h)) (fun _=>WP.skip ?_)
 refine WP.seq (WP.seq (WP.ops (WO.r (.faddr rfl) (WO.r (.load rfl (hs5.mem .here) rfl rfl rfl) (WO.nil (WP.block ?_))))))
 refine WP.seq (WP.seq (WP.ops (WO.r (.eql rfl rfl (eqB_i _ _)) (WO.r (.mv rfl) (WO.nil (WP.cond rfl (fun _=>WP.skip ?_) (fun h=>Bool.noConfusion (show true=false from h))))))))
 refine WP.cond rfl (fun _=>?_) (fun h=>Bool.noConfusion (show true=false from h))
 refine WP.seq (WP.ops (WO.r (.mv rfl) (WO.w (WS.callF (first:=[]) (vs:=[.ptr (some ⟨bf,0,0⟩)]) (cap:=[]) rfl rfl (boardState_ok hB hs5 hd' (.there hf)) ?_))))
 rintro w s6 ⟨hs6,pv,ov,lv,hv,gv,ev,fv,sv,wv,rfl,hR6⟩
 refine WO.r (.fld rfl rfl) (WO.r (.arith rfl rfl (sub_i hnx.1 (by omega))) (WO.r (.mv rfl) (WO.nil (WP.ret (Fin.mk (.tmp rfl .nil) ⟨rfl,hs6.tail⟩)))))
theorem doCeaseEv_ok (hB:Base P K F T) {bf bl:Nat} {cards draws:AV} {c0 c1 c2 c3 c4:Int} {EL:List (List AV)} {d d':SD} {t:SH} {a:Int} {b n m:Int} {it:ID} (hs:LogH bl EL d t s) (hd:d.Small) (hf:Has bf (.r false [foldRow bl cards c0 c1 c2 c3 c4 draws] 8) t) (hE:EL.length≤1000)
  (hap:Ap P K F 25 a b n m it d d') :
  Tri P K (F 15) [.ptr (some ⟨bf,0,0⟩),.agg (evRow 25 a b n m it)] s (fun v s'=>v=iv 0∧LogH bl (EL++[evRow 25 a b n m it]) d' t s'):=by
 refine hB.f15.tri (by simp) ?_
 unfold a15
 refine WP.seq (WP.ops (WO.a (.box rfl rfl) fun b3=>WO.r (.mv rfl) (WO.nil ?_)))
 have hs3:LogH bl EL d ((b3,.r false [evRow 25 a b n m it] 13)::t) ((b3,.r false [evRow 25 a b n m it] 13)::s):=hs.cons
 refine WP.seq (WP.block (WP.seq (WP.ops (WO.r (.mv rfl) (WO.r (.eql (b:=false) rfl rfl rfl) (WO.r (.mv rfl) (WO.nil (WP.cond rfl (fun h=>by cases h) (fun _=>WP.seq (WP.drawn0 ?_))))))))))
 refine(WD.pu (.faddr rfl) (WD.ld rfl .nil (.load rfl .here rfl rfl rfl) (WD.pu (.eql rfl rfl (eqB_i _ _)) (WD.pu (.mv rfl) (WD.skip rfl rfl rfl (WD.skipc rfl rfl (WD.skip rfl rfl rfl (WD.skip rfl rfl rfl (WD.skip rfl rfl rfl (WD.skip rfl rfl rfl (WD.skip rfl rfl rfl (WD.skip rfl rfl rfl (WD.skip rfl rfl rfl (WD.skip rfl rfl rfl (WD.pu (.pick0 rfl rfl) (WD.pu (.mv rfl) (WD.nil .nil ?_ (fun o h=>nomatch h))))))))))))))))))
 refine WP.cond rfl (fun h=>Bool.noConfusion (show false=true from h)) (fun _=>?_)
 refine WP.seq (WP.drawn0 (WD.pu (.mv rfl) (WD.pu (.nilchk rfl rfl) (WD.pu (.faddr rfl) (WD.ld rfl .nil (.load rfl (hs3.mem (.there hf)) rfl rfl rfl) (WD.ld rfl .nil (.load rfl (hs3.mem .here) rfl rfl rfl) (WD.ch .nil (WS.callF (first:=[]) (vs:=[.agg [.ptr (some ⟨bl,0,0⟩)],.agg (evRow 25 a b n m it)]) (cap:=[]) rfl rfl (boardAdd_ok hB hs3 hE hap) ?_))))))))
 rintro w s5 ⟨rfl,hs5⟩
 refine WD.pu (.eql rfl rfl (eqB_i _ _)) (WD.pu (.mv rfl) (WD.nil .nil ?_ (fun o h=>nomatch h)))
 refine WP.cond rfl (fun h=>Bool.noConfusion (show false=true from h)) (fun _=>WP.skip ?_)
 refine WP.seq (WP.seq (WP.ops (WO.r (.faddr rfl) (WO.r (.load rfl (hs5.mem .here) rfl rfl rfl) (WO.nil (WP.block ?_))))))
 refine WP.seq (WP.seq (WP.ops (WO.r (.eql rfl rfl (eqB_i _ _)) (WO.r (.mv rfl) (WO.nil ?_)))))
 refine WP.cond rfl (fun h=>Bool.noConfusion (show false=true from h)) (fun _=>WP.seq (WP.ops (WO.r (.eql rfl rfl (eqB_i _ _)) (WO.r (.mv rfl) (WO.nil ?_)))))
 refine WP.cond rfl (fun h=>Bool.noConfusion (show false=true from h)) (fun _=>WP.seq (WP.ops (WO.r (.eql rfl rfl (eqB_i _ _)) (WO.r (.mv rfl) (WO.nil ?_)))))
 refine WP.cond rfl (fun h=>Bool.noConfusion (show false=true from h)) (fun _=>WP.ops (WO.r (.eql rfl rfl (eqB_i _ _)) (WO.r (.mv rfl) (WO.nil ?_))))
 refine WP.cond rfl (fun h=>Bool.noConfusion (show false=true from h)) (fun _=>WP.skip ?_)
 refine WP.seq (WP.ops (WO.r (.mv rfl) (WO.nil (WP.ret (Fin.mk (.tmp rfl .nil) ⟨rfl,hs5.tail⟩)))))
end
end Go.Ev
namespace Go.Ev
section
variable {P:Program} {K:Orc} {rd:Option Nat} {nt:Nat} {l:Sl} {ds:List ADef} {s:SH} {Q Qn Qr:Po} {Qe:Nat->Po} {F:Nat->FuncId} {T:Nat->TypeId}
structure BInv (N:Nat) (d:SD) (last:Int):Prop where
 pl:d.pl.length=2
 ev:d.Even
 ob:∀ o∈d.ob,(∃ p:Nat,p < 2∧o.owner=.ofNat p)∧o.block=0∧1≤o.id∧o.id≤1000000
 nob:d.ob.length≤3+N
 nfi:d.fi.length≤3+N
 nl:∀ LL,(LL=d.lb∨LL=d.hd∨LL=d.gr∨LL=d.ex)->∀ lst∈LL,lst.length≤1000
 st:d.st=[]
 wa:d.wa=[]
 co:d.co=0
 oc:d.oc=0
 nx:last < d.nx∧1≤d.nx∧d.nx≤10+N
 sp:0≤d.sp∧d.sp≤10+N
theorem BInv.small {N:Nat} {d:SD} {last:Int} (h:BInv N d last) (hN:N≤200):d.Small:=by
 have h1:=h.pl
 have h2:=h.nob
 have h3:=h.nfi
 refine⟨⟨by omega,by omega,by omega,by rw [h.st];simp,by rw [h.wa];simp⟩,fun LL hL=>⟨?_,h.nl LL hL⟩⟩
 rcases hL with rfl|rfl|rfl|rfl
 ·rw [h.ev.lb];omega
 ·rw [h.ev.hd];omega
 ·rw [h.ev.gr];omega
 ·rw [h.ev.ex];omega
def SD.tok (d:SD):SD:={ d with nx:=d.nx+1,sp:=d.sp+1,ob:=d.ob++[(newOD 0 1 2 1).new2 d.nx d.sp],fi:=d.fi++[d.nx] }
theorem add_tok (d:SD):d.add (newOD 0 1 2 1) 0=d.tok:=by
 simp [SD.add,SD.zone,newOD,SD.nx2,SD.obs,SD.tok,OD.new2]
theorem BInv.tok {N:Nat} {d:SD} {last:Int} (h:BInv N d last) (hN:N≤200):BInv (N+1) d.tok d.nx:=by
 have h1:=h.nx
 have h2:=h.sp
 have h3:=h.nob
 have h4:=h.nfi
 refine⟨h.pl,⟨h.ev.lb,h.ev.hd,h.ev.gr,h.ev.ex⟩,fun o ho=>?_,?_,?_,h.nl,h.st,h.wa,h.co,h.oc,⟨?_,?_,?_⟩,⟨?_,?_⟩⟩
 ·rcases List.mem_append.1 ho with ho | ho
  ·exact h.ob o ho
  ·rw [List.mem_singleton.1 ho]
   exact⟨⟨0,by omega,rfl⟩,rfl,h1.2.1,by show d.nx≤1000000;omega⟩
 ·show (d.ob++[_]).length≤_
  rw [List.length_append,List.length_singleton];omega
 ·show (d.fi++[_]).length≤_
  rw [List.length_append,List.length_singleton];omega
 ·show d.nx < d.nx+1;omega
 ·show 1≤d.nx+1;omega
 ·show d.nx+1≤_;omega
 ·show 0≤d.sp+1;omega
 ·show d.sp+1≤_;omega
theorem SD.zone_all {d:SD} {z:Int} {p:Nat} {lst:List Int} {put:List Int->SD} (h:d.zone z p=some (lst,put)) (f:Int->Bool):(put (lst.filter f)).pl=d.pl∧(d.Even->(put (lst.filter f)).Even)∧(put (lst.filter f)).fi.length≤d.fi.length ∧
  ((∀ LL,(LL=d.lb∨LL=d.hd∨LL=d.gr∨LL=d.ex)->∀ lst∈LL,lst.length≤1000)->∀ LL,(LL=(put (lst.filter f)).lb∨LL=(put (lst.filter f)).hd∨LL=(put (lst.filter f)).gr∨LL=(put (lst.filter f)).ex)->∀ lst∈LL,lst.length≤1000)∧(put (lst.filter f)).nx=d.nx∧(put (lst.filter f)).sp=d.sp∧(put (lst.filter f)).oc=d.oc:=by
 have key:∀ (X:List (List Int)) (a:List Int),X[p]?=some a->(∀ lst∈X,lst.length≤1000)->∀ lst∈X.set p (a.filter f),lst.length≤1000:=by
  intro X a hX hl lst hm
  rcases List.mem_or_eq_of_mem_set hm with h|h
  ·exact hl lst h
  ·subst h
   exact Nat.le_trans (List.length_filter_le ..) (hl a (List.mem_of_getElem? hX))
 unfold SD.zone at h
 split at h
 ·cases h
  exact⟨rfl,fun e=>⟨e.lb,e.hd,e.gr,e.ex⟩,List.length_filter_le ..,fun hl=>hl,rfl,rfl,rfl⟩
 ·split at h
  ·obtain⟨a,ha,e⟩:=Option.map_eq_some_iff.1 h
   cases e
   refine⟨rfl,fun e=>⟨by show (d.lb.set p _).length=_;rw [List.length_set];exact e.lb,e.hd,e.gr,e.ex⟩,Nat.le_refl _,fun hl LL hL=>?_,rfl,rfl,rfl⟩
   rcases hL with rfl|h
   ·exact key _ _ ha (hl _ (.inl rfl))
   ·exact hl LL (.inr h)
  ·split at h
   ·obtain⟨a,ha,e⟩:=Option.map_eq_some_iff.1 h
    cases e
    refine⟨rfl,fun e=>⟨e.lb,by show (d.hd.set p _).length=_;rw [List.length_set];exact e.hd,e.gr,e.ex⟩,Nat.le_refl _,fun hl LL hL=>?_,rfl,rfl,rfl⟩
    rcases hL with h|rfl|h
    ·exact hl LL (.inl h)
    ·exact key _ _ ha (hl _ (.inr (.inl rfl)))
    ·exact hl LL (.inr (.inr h))
   ·split at h
    ·obtain⟨a,ha,e⟩:=Option.map_eq_some_iff.1 h
     cases e
     refine⟨rfl,fun e=>⟨e.lb,e.hd,by show (d.gr.set p _).length=_;rw [List.length_set];exact e.gr,e.ex⟩,Nat.le_refl _,fun hl LL hL=>?_,rfl,rfl,rfl⟩
     rcases hL with h|h|rfl|h
     ·exact hl LL (.inl h)
     ·exact hl LL (.inr (.inl h))
     ·exact key _ _ ha (hl _ (.inr (.inr (.inl rfl))))
     ·exact hl LL (.inr (.inr (.inr h)))
    ·split at h
     ·obtain⟨a,ha,e⟩:=Option.map_eq_some_iff.1 h
      cases e
      refine⟨rfl,fun e=>⟨e.lb,e.hd,e.gr,by show (d.ex.set p _).length=_;rw [List.length_set];exact e.ex⟩,Nat.le_refl _,fun hl LL hL=>?_,rfl,rfl,rfl⟩
      rcases hL with h|h|h|rfl
      ·exact hl LL (.inl h)
      ·exact hl LL (.inr (.inl h))
      ·exact hl LL (.inr (.inr (.inl h)))
      ·exact key _ _ ha (hl _ (.inr (.inr (.inr rfl))))
     ·cases h
theorem BInv.left {N:Nat} {d:SD} {last:Int} (h:BInv N d last) {id z:Int} {i p:Nat}:BInv N (d.left id i z p) last∧(d.left id i z p).ob=d.ob.eraseIdx i:=by
 have hob:∀ o∈d.ob.eraseIdx i,(∃ p:Nat,p < 2∧o.owner=.ofNat p)∧o.block=0∧1≤o.id∧o.id≤1000000:=fun o ho=>h.ob o (List.mem_of_mem_eraseIdx ho)
 have hle:=List.length_eraseIdx_le d.ob i
 have h3:=h.nob
 have h4:=h.nfi
 unfold SD.left
 cases hz:d.zone z p with
 | none=>exact⟨⟨h.pl,⟨h.ev.lb,h.ev.hd,h.ev.gr,h.ev.ex⟩,hob,by show (d.ob.eraseIdx i).length≤_;omega,h.nfi,h.nl,h.st,h.wa,h.co,h.oc,h.nx,h.sp⟩,rfl⟩
 | some x=>
  obtain⟨lst,put⟩:=x
  obtain⟨q1,q2,q3,q4,q5,q6,q7⟩:=SD.zone_all hz (fun n=>!decide (n=id))
  obtain⟨s1,s2,s3,s4⟩:=SD.zone_same hz (lst.filter fun n=>!decide (n=id))
  dsimp only
  refine⟨⟨by rw [<- h.pl,<- q1],⟨(q2 h.ev).lb,(q2 h.ev).hd,(q2 h.ev).gr,(q2 h.ev).ex⟩,hob,by show (d.ob.eraseIdx i).length≤_;omega,Nat.le_trans q3 h4,q4 h.nl,by rw [<- h.st,<- s2],by rw [<- h.wa,<- s3],by rw [<- h.co,<- s4],by rw [<- h.oc,<- q7],?_,?_⟩,rfl⟩
  ·have:=h.nx
   rw [<- q5] at this
   exact this
  ·have:=h.sp
   rw [<- q6] at this
   exact this
end
end Go.Ev
namespace Go.Ev
def a3pre4 (F:Nat->FuncId):AC:=(.drawn 3 [⟨⟨(some 21),(.call (.func (F 13)) []),none⟩,.chain,0,0,0⟩,⟨⟨(some 22),(.load true 5 (.tmp 5)),none⟩,.read,0,1,0⟩,⟨⟨(some 23),(.bslice 1 2 [(.int .i64 (.ofNat 0))] [⟨0,(.const (.int .i64 (.ofNat 0)))⟩,⟨1,(.const (.int .i64 (.ofNat 1)))⟩]),none⟩,.dalloc,0,0,0⟩,⟨⟨(some 24),(.bslice 1 1 [(.int .i64 (.ofNat 0))] [⟨0,(.const (.int .i64 (.ofNat 1)))⟩]),none⟩,.dalloc,0,0,0⟩,⟨⟨(some 25),(.bslice 1 2 [(.slice none 0 0 false 0)] [⟨0,(.tmp 23)⟩,⟨1,(.tmp 24)⟩]),none⟩,.dalloc,0,0,12⟩,⟨⟨(some 26),(.call (.func (F 12)) [(.tmp 21),(.tmp 22),(.tmp 25),(.const (.slice none 0 0))]),none⟩,.chain,0,0,31⟩,⟨⟨(some 20),(.mv (.tmp 26)),none⟩,.pure,0,0,63⟩,⟨⟨(some 27),(.extract (.tmp 20) 0),none⟩,.pure,0,0,127⟩,⟨⟨(some 28),(.extract (.tmp 20) 1),none⟩,.pure,0,0,127⟩,⟨⟨(some 6),(.mv (.tmp 27)),none⟩,.pure,0,0,255⟩,⟨⟨(some 7),(.mv (.tmp 28)),none⟩,.pure,0,0,1023⟩])
def a3C (F:Nat->FuncId):AC:=(.seq (.drawn 1 [⟨⟨(some 59),(.mv (.tmp 6)),none⟩,.pure,0,0,0⟩,⟨⟨(some 60),(.call (.func (F 14)) [(.tmp 59)]),none⟩,.chain,0,0,1⟩,⟨⟨(some 61),(.fld 1 1 false (.tmp 60)),none⟩,.pure,0,0,3⟩,⟨⟨(some 62),(.mv (.tmp 1)),none⟩,.pure,0,0,0⟩,⟨⟨(some 63),(.mv (.tmp 9)),none⟩,.pure,0,0,0⟩,⟨⟨(some 64),(.iaddrS 1 (.tmp 62) (.tmp 63)),none⟩,.pure,0,0,24⟩,⟨⟨(some 65),(.load false 1 (.tmp 64)),none⟩,.read,0,1,56⟩,⟨⟨(some 66),(.convI .i64 (.tmp 65)),none⟩,.pure,0,0,120⟩,⟨⟨(some 67),(.mv (.tmp 10)),none⟩,.pure,0,0,0⟩,⟨⟨(some 68),(.arith .rem (.tmp 66) (.tmp 67)),none⟩,.pure,0,0,504⟩,⟨⟨(some 69),(.iaddrS 14 (.tmp 61) (.tmp 68)),none⟩,.pure,0,0,1023⟩,⟨⟨(some 70),(.load true 14 (.tmp 69)),none⟩,.read,1,1,2047⟩,⟨⟨(some 11),(.alloc 14 zObj),none⟩,.dalloc,0,0,0⟩,⟨⟨none,(.store 14 (.tmp 11) (.tmp 70)),none⟩,.chain,0,0,8191⟩]) (.seq (.seq (.ops [⟨(some 71),(.mv (.tmp 6)),none⟩,⟨(some 72),(.faddr 0 (.tmp 11)),none⟩,⟨(some 73),(.load false 1 (.tmp 72)),none⟩,⟨(some 74),(.build zEvent [⟨0,⟨1,(.const (.int .i64 (.ofNat 25)))⟩⟩,⟨1,⟨1,(.tmp 73)⟩⟩]),none⟩,⟨(some 75),(.call (.func (F 15)) [(.tmp 71),(.tmp 74)]),none⟩,⟨(some 76),(.eql true .pi (.tmp 75) (.const (.int .i64 (.ofNat 0)))),none⟩,⟨(some 77),(.mv (.tmp 76)),none⟩,⟨(some 78),(.mv (.tmp 6)),(some ⟨77,false⟩)⟩,⟨(some 79),(.call (.func (F 14)) [(.tmp 78)]),(some ⟨77,false⟩)⟩,⟨(some 80),(.fld 1 1 false (.tmp 79)),(some ⟨77,false⟩)⟩,⟨(some 81),(.lenS (.tmp 80)),(some ⟨77,false⟩)⟩,⟨(some 82),(.mv (.tmp 10)),(some ⟨77,false⟩)⟩,⟨(some 83),(.arith .sub (.tmp 82) (.const (.int .i64 (.ofNat 1)))),(some ⟨77,false⟩)⟩,⟨(some 84),(.eql true .pi (.tmp 81) (.tmp 83)),(some ⟨77,false⟩)⟩,⟨(some 85),(.pick (.tmp 77) (.const (.bool true)) (.tmp 84)),none⟩]) (.cond (.tmp 85) (.seq (.ops [⟨(some 4),(.mv (.const (.bool false))),none⟩]) .ret) .skip)) (.ops [⟨(some 86),(.mv (.tmp 10)),none⟩,⟨(some 87),(.arith .sub (.tmp 86) (.const (.int .i64 (.ofNat 1)))),none⟩,⟨(some 10),(.mv (.tmp 87)),none⟩])))
def a3R (F:Nat->FuncId):AC:=(.seq (.ops [⟨(some 88),(.mv (.tmp 6)),none⟩,⟨(some 89),(.build zEvent [⟨0,⟨1,(.const (.int .i64 (.ofNat 1)))⟩⟩,⟨2,⟨1,(.const (.int .i64 (.ofNat 1)))⟩⟩,⟨3,⟨1,(.const (.int .i64 (.ofNat 2)))⟩⟩,⟨4,⟨1,(.const (.int .i64 (.ofNat 1)))⟩⟩]),none⟩,⟨(some 90),(.call (.func (F 15)) [(.tmp 88),(.tmp 89)]),none⟩,⟨(some 12),(.mv (.tmp 90)),none⟩]) (.seq (.ops [⟨(some 91),(.mv (.tmp 6)),none⟩,⟨(some 92),(.call (.func (F 14)) [(.tmp 91)]),none⟩,⟨(some 13),(.alloc 25 zState),none⟩,⟨none,(.store 25 (.tmp 13) (.tmp 92)),none⟩]) (.seq (.seq (.ops [⟨(some 93),(.mv (.tmp 10)),none⟩,⟨(some 94),(.faddr 0 (.tmp 5)),none⟩,⟨(some 95),(.load false 1 (.tmp 94)),none⟩,⟨(some 96),(.arith .lss (.tmp 93) (.tmp 95)),none⟩]) (.cond (.tmp 96) (.seq (.seq (.ops [⟨(some 97),(.mv (.tmp 12)),none⟩,⟨(some 98),(.mv (.tmp 8)),none⟩,⟨(some 99),(.arith .leq (.tmp 97) (.tmp 98)),none⟩,⟨(some 100),(.mv (.tmp 99)),none⟩,⟨(some 101),(.faddr 1 (.tmp 13)),(some ⟨100,false⟩)⟩,⟨(some 102),(.load false 1 (.tmp 101)),(some ⟨100,false⟩)⟩,⟨(some 103),(.lenS (.tmp 102)),(some ⟨100,false⟩)⟩,⟨(some 104),(.mv (.tmp 10)),(some ⟨100,false⟩)⟩,⟨(some 105),(.arith .add (.tmp 104) (.const (.int .i64 (.ofNat 1)))),(some ⟨100,false⟩)⟩,⟨(some 106),(.eql true .pi (.tmp 103) (.tmp 105)),(some ⟨100,false⟩)⟩,⟨(some 107),(.pick (.tmp 100) (.const (.bool true)) (.tmp 106)),none⟩,⟨(some 108),(.mv (.tmp 107)),none⟩,⟨(some 109),(.faddr 23 (.tmp 13)),(some ⟨108,false⟩)⟩,⟨(some 110),(.load false 1 (.tmp 109)),(some ⟨108,false⟩)⟩,⟨(some 111),(.eql true .pi (.tmp 110) (.const (.int .i64 (.ofNat 0)))),(some ⟨108,false⟩)⟩,⟨(some 112),(.pick (.tmp 108) (.const (.bool true)) (.tmp 111)),none⟩]) (.cond (.tmp 112) (.seq (.ops [⟨(some 4),(.mv (.const (.bool false))),none⟩]) .ret) .skip)) (.seq (.ops [⟨(some 113),(.mv (.tmp 12)),none⟩,⟨(some 8),(.mv (.tmp 113)),none⟩]) (.exit 1))) .skip)) (.seq (.ops [⟨(some 114),(.mv (.tmp 12)),none⟩,⟨(some 115),(.eql false .pi (.tmp 114) (.const (.int .i64 (.negSucc 0)))),none⟩,⟨(some 116),(.mv (.tmp 115)),none⟩,⟨(some 117),(.faddr 1 (.tmp 13)),(some ⟨116,true⟩)⟩,⟨(some 118),(.load false 1 (.tmp 117)),(some ⟨116,true⟩)⟩,⟨(some 119),(.lenS (.tmp 118)),(some ⟨116,true⟩)⟩,⟨(some 120),(.mv (.tmp 10)),(some ⟨116,true⟩)⟩,⟨(some 121),(.eql false .pi (.tmp 119) (.tmp 120)),(some ⟨116,true⟩)⟩,⟨(some 122),(.pick (.tmp 116) (.tmp 121) (.const (.bool false))),none⟩,⟨(some 123),(.mv (.tmp 122)),none⟩,⟨(some 124),(.faddr 23 (.tmp 13)),(some ⟨123,true⟩)⟩,⟨(some 125),(.load false 1 (.tmp 124)),(some ⟨123,true⟩)⟩,⟨(some 126),(.eql false .pi (.tmp 125) (.const (.int .i64 (.ofNat 3)))),(some ⟨123,true⟩)⟩,⟨(some 127),(.pick (.tmp 123) (.tmp 126) (.const (.bool false))),none⟩,⟨(some 128),(.mv (.tmp 127)),none⟩,⟨(some 129),(.call (.func (F 16)) []),(some ⟨128,true⟩)⟩,⟨(some 130),(.pick (.tmp 128) (.tmp 129) (.const (.bool false))),none⟩,⟨(some 4),(.mv (.tmp 130)),none⟩]) .ret))))
def a3B (F:Nat->FuncId):AC:=(.seq (.ops [⟨(some 43),(.mv (.tmp 9)),none⟩,⟨(some 44),(.mv (.tmp 1)),none⟩,⟨(some 45),(.lenS (.tmp 44)),none⟩,⟨(some 46),(.arith .lss (.tmp 43) (.tmp 45)),none⟩,⟨(some 47),(.mv (.tmp 46)),none⟩,⟨(some 48),(.mv (.tmp 1)),(some ⟨47,true⟩)⟩,⟨(some 49),(.mv (.tmp 9)),(some ⟨47,true⟩)⟩,⟨(some 50),(.iaddrS 1 (.tmp 48) (.tmp 49)),(some ⟨47,true⟩)⟩,⟨(some 51),(.load false 1 (.tmp 50)),(some ⟨47,true⟩)⟩,⟨(some 52),(.arith .rem (.tmp 51) (.const (.int .u8 (.ofNat 3)))),(some ⟨47,true⟩)⟩,⟨(some 53),(.eql false .pi (.tmp 52) (.const (.int .u8 (.ofNat 0)))),(some ⟨47,true⟩)⟩,⟨(some 54),(.pick (.tmp 47) (.tmp 53) (.const (.bool false))),none⟩,⟨(some 55),(.mv (.tmp 54)),none⟩,⟨(some 56),(.mv (.tmp 10)),(some ⟨55,true⟩)⟩,⟨(some 57),(.arith .gtr (.tmp 56) (.const (.int .i64 (.ofNat 0)))),(some ⟨55,true⟩)⟩,⟨(some 58),(.pick (.tmp 55) (.tmp 57) (.const (.bool false))),none⟩]) (.cond (.tmp 58) (a3C F) .skip))
def a3I (F:Nat->FuncId):AC:=(.seq (.ops [⟨(some 39),(.mv (.tmp 6)),none⟩,⟨(some 40),(.call (.func (F 14)) [(.tmp 39)]),none⟩,⟨(some 41),(.fld 1 1 false (.tmp 40)),none⟩,⟨(some 42),(.lenS (.tmp 41)),none⟩,⟨(some 10),(.mv (.tmp 42)),none⟩]) (.seq (a3B F) (a3R F)))
def a3S:AC:=(.ops [⟨(some 37),(.mv (.tmp 9)),none⟩,⟨(some 38),(.arith .add (.tmp 37) (.const (.int .i64 (.ofNat 1)))),none⟩,⟨(some 9),(.mv (.tmp 38)),none⟩])
def a3L (F:Nat->FuncId):AC:=(.seq (.seq (.ops [⟨(some 35),(.mv (.tmp 9)),none⟩,⟨(some 36),(.arith .lss (.tmp 35) (.const (.int .i64 (.ofNat 80)))),none⟩]) (.cond (.tmp 36) .skip (.exit 0))) (.seq (.block 1 (a3I F)) a3S))
def a3T (F:Nat->FuncId):AC:=(.seq (.ops [⟨(some 131),(.call (.func (F 16)) []),none⟩,⟨(some 4),(.mv (.tmp 131)),none⟩]) .ret)
def a3 (F:Nat->FuncId):AC:=(.seq (.ops [⟨(some 4),(.mv (.const (.bool false))),none⟩]) (.seq (.ops [⟨(some 14),(.call (.func (F 11)) []),none⟩,⟨(some 5),(.alloc 5 [(.int .i64 (.ofNat 0)),(.int .i64 (.ofNat 0)),(.int .i64 (.ofNat 0)),(.int .i64 (.ofNat 0)),(.int .i64 (.ofNat 0))]),none⟩,⟨none,(.store 5 (.tmp 5) (.tmp 14)),none⟩]) (.seq (.ops [⟨(some 15),(.mv (.tmp 0)),none⟩,⟨(some 16),(.arith .rem (.tmp 15) (.const (.int .u8 (.ofNat 31)))),none⟩,⟨(some 17),(.convI .i64 (.tmp 16)),none⟩,⟨(some 18),(.arith .add (.const (.int .i64 (.ofNat 10))) (.tmp 17)),none⟩,⟨(some 19),(.faddr 0 (.tmp 5)),none⟩,⟨none,(.store 1 (.tmp 19) (.tmp 18)),none⟩]) (.seq (a3pre4 F) (.seq (.seq (.ops [⟨(some 29),(.mv (.tmp 7)),none⟩,⟨(some 30),(.eql true .pi (.tmp 29) (.const (.int .i64 (.ofNat 0)))),none⟩,⟨(some 31),(.mv (.tmp 30)),none⟩,⟨(some 32),(.mv (.tmp 6)),(some ⟨31,false⟩)⟩,⟨(some 33),(.eql false .ptr (.tmp 32) (.const (.pointer none))),(some ⟨31,false⟩)⟩,⟨(some 34),(.pick (.tmp 31) (.const (.bool true)) (.tmp 33)),none⟩]) (.cond (.tmp 34) (.seq (.ops [⟨(some 4),(.mv (.const (.bool false))),none⟩]) .ret) .skip)) (.seq (.ops [⟨(some 8),(.mv (.const (.int .i64 (.ofNat 3)))),none⟩]) (.seq (.seq (.ops [⟨(some 9),(.mv (.const (.int .i64 (.ofNat 0)))),none⟩]) (.block 0 (.loop (a3L F)))) (a3T F))))))))
end Go.Ev
namespace Go.Ev
section
variable {P:Program} {K:Orc} {rd:Option Nat} {nt:Nat} {l:Sl} {ds:List ADef} {s:SH} {Q Qn Qr:Po} {Qe:Nat->Po} {F:Nat->FuncId} {T:Nat->TypeId}
@[reducible] def it0:ID:=⟨0,0,0,0,0,0⟩
structure Says (P:Program) (K:Orc) (F:Nat->FuncId):Prop where
 c1:∀ s,Tri P K (F 201) [.agg (evRow 1 (.ofNat 0) 1 2 1 it0)] s (fun v s'=>v=iv 0∧s'=s)
 c25:∀ a:Int,1≤a->a≤1000000->∀ s,Tri P K (F 201) [.agg (evRow 25 a 0 0 0 it0)] s (fun v s'=>v=iv 0∧s'=s)
 c29:∀ s,Tri P K (F 201) [.agg (evRow 29 3 0 0 0 it0)] s (fun v s'=>v=iv 0∧s'=s)
 w:∀ s,Tri P K (F 16) [] s (fun v s'=>v=.bool true∧s'=s)
@[reducible] def lc (lv:AV) (b5 bf:Nat) (last i:Int):Sl:=[(1,lv),(5,.ptr (some ⟨b5,0,0⟩)),(6,.ptr (some ⟨bf,0,0⟩)),(8,iv last),(9,iv i)]
def RestE (lv:AV) (b5 bf bl:Nat) (i:Int) (N E:Nat) (t:SH):Nat->Po:=fun j l ds s=>j=1∧ds=[]∧∃ EL d last,LogH bl EL d t s∧EL.length=E∧BInv N d last∧∀ k v,lk (lc lv b5 bf last i) k=some v->lk l k=some v
def RestR (t:SH):Po:=fun l ds s=>ds=[]∧lk l 4=some (.bool true)∧∀ b o,Has b o t->Has b o s
def NoQ:Po:=fun _ _ _=>False
theorem lc_case {lv:AV} {b5 bf:Nat} {last i:Int} {k:Nat} {v:AV} (h:lk (lc lv b5 bf last i) k=some v):(k=1∧v=lv)∨(k=5∧v=.ptr (some ⟨b5,0,0⟩))∨(k=6∧v=.ptr (some ⟨bf,0,0⟩))∨(k=8∧v=iv last)∨(k=9∧v=iv i):=by
 simp only [lc,lk_cons] at h
 split at h
 ·cases h;exact .inl ⟨by omega,rfl⟩
 ·split at h
  ·cases h;exact .inr (.inl ⟨by omega,rfl⟩)
  ·split at h
   ·cases h;exact .inr (.inr (.inl ⟨by omega,rfl⟩))
   ·split at h
    ·cases h;exact .inr (.inr (.inr (.inl ⟨by omega,rfl⟩)))
    ·split at h
     ·cases h;exact .inr (.inr (.inr (.inr ⟨by omega,rfl⟩)))
     ·cases h
theorem leq_i (a b:Int):binV .leq (iv a) (iv b)=some (.bool (!ilt b a)):=rfl
theorem rest_ok (hB:Base P K F T) (hS:Says P K F) {lv cards draws:AV} {b5 bf bl N room:Nat} {i last c1 c2 c3 c4:Int} {k1 k2 k3 k4:AV} {EL:List (List AV)} {d:SD} {t:SH} (hs:LogH bl EL d t s) (hI:BInv N d last) (hN:N≤100) (hE:EL.length≤900)
  (hf:Has bf (.r false [foldRow bl cards (.ofNat room) c1 c2 c3 c4 draws] 8) t) (h5:Has b5 (.r false [[iv (.ofNat room),k1,k2,k3,k4]] 5) t) :
  WP P K none 132 (a3R F) ((10,iv (.ofNat d.ob.length))::lc lv b5 bf last i) [] s NoQ (RestE lv b5 bf bl i (N+1) (EL.length+1) t) (RestR t):=by
 have hsm:=hI.small (by omega)
 have hnx:=hI.nx
 have hsp:=hI.sp
 unfold a3R
 by_cases hlt:d.ob.length < room
 ·have hil:ilt (.ofNat d.ob.length) (.ofNat room)=true:=by rw [ilt_blt];exact blt_iff.2 hlt
  have hap:Ap P K F 1 (.ofNat 0) 1 2 1 it0 d d.tok:=fun s h=>by
   rw [<- add_tok d]
   exact applyNew_ok hB h hsm hI.ev (p:=0) (by rw [hI.pl];omega) ⟨by omega,by omega⟩ ⟨by omega,by omega⟩ hS.c1
  have hI':=hI.tok (by omega)
  refine WP.seq (WP.ops (WO.r (.mv rfl) (WO.r (.build rfl rfl) (WO.w (WS.callF (first:=[]) (vs:=[.ptr (some ⟨bf,0,0⟩),.agg (evRow 1 (.ofNat 0) 1 2 1 it0)]) (cap:=[]) rfl rfl (doNewEv_ok hB hs hsm hf (by omega) hil hap (hI'.small (by omega)) ⟨by show 1≤d.nx+1;omega,by show d.nx+1≤_;omega⟩) ?_)))))
  rintro w s1 ⟨rfl,hs1⟩
  refine WO.r (.mv rfl) (WO.nil (WP.seq (WP.ops (WO.r (.mv rfl) (WO.w (WS.callF (first:=[]) (vs:=[.ptr (some ⟨bf,0,0⟩)]) (cap:=[]) rfl rfl (boardState_ok hB hs1 (hI'.small (by omega)) hf) ?_))))))
  rintro w s2 ⟨hs2,pv,ov,lv1,hv,gv,ev,fv,sv,wv,rfl,hR⟩
  have lo:lenOf ov=some d.tok.ob.length:=by rw [hR.ob.lenOf];simp [obR]
  refine WO.a (.alloc rfl) fun b13=>WO.w (WS.store rfl rfl rfl .here rfl rfl (WO.nil ?_))
  refine WP.seq (WP.seq (WP.ops (WO.r (.mv rfl) (WO.r (.faddr rfl) (WO.r (.load rfl (.there (hs2.mem h5)) rfl rfl rfl) (WO.r (.arith rfl rfl rfl) (WO.nil ?_)))))))
  refine WP.cond (t:=true) (by show some (AV.bool (ilt (.ofNat d.ob.length) (.ofNat room)))=_;rw [hil]) (fun _=>?_) (fun h=>by cases h)
  have h99:binV .leq (iv (d.tok.nx - 1)) (iv last)=some (.bool false):=by
   rw [leq_i,ilt_eq]
   have:last < d.tok.nx - 1:=by show last < d.nx+1 - 1;omega
   simp [this]
  have ltok:d.tok.ob.length=d.ob.length+1:=by show (d.ob++[_]).length=_;simp
  have hob:=hI.nob
  have hI2:BInv (N+1) d.tok (d.tok.nx - 1):=by
   rw [show d.tok.nx - 1=d.nx from (by show d.nx+1 - 1=d.nx;omega)];exact hI'
  have h105:binV .add (iv (.ofNat d.ob.length)) (iv (.ofNat 1))=some (iv (.ofNat (d.ob.length+1))):=mkI_n (n:=d.ob.length+1) (by omega)
  have h106:eqBy 20 .pi (iv (.ofNat d.tok.ob.length)) (iv (.ofNat (d.ob.length+1)))=some true:=by rw [eqB_i,ltok];simp
  have h111:eqBy 20 .pi (iv d.tok.oc) (iv (.ofNat 0))=some true:=by rw [eqB_i,show d.tok.oc=0 from hI.oc];rfl
  refine WP.seq (WP.seq (WP.ops (WO.r (.mv rfl) (WO.r (.mv rfl) (WO.r (.arith rfl rfl h99) (WO.r (.mv rfl) (WO.yes rfl rfl (WO.r (.faddr rfl) (WO.yes rfl rfl (WO.r (.load rfl .here rfl rfl rfl) (WO.yes rfl rfl (WO.r (.lenS rfl lo) (WO.yes rfl rfl (WO.r (.mv rfl) (WO.yes rfl rfl (WO.r (.arith rfl rfl h105) (WO.yes rfl rfl (WO.r (.eql rfl rfl h106) (WO.r (.pick0 rfl rfl) (WO.r (.mv rfl) (WO.yes rfl rfl (WO.r (.faddr rfl) (WO.yes rfl rfl (WO.r (.load rfl .here rfl rfl rfl) (WO.yes rfl rfl (WO.r (.eql rfl rfl h111) (WO.r (.pick0 rfl rfl) (WO.nil ?_))))))))))))))))))))))))))))
  refine WP.cond rfl (fun h=>Bool.noConfusion (show false=true from h)) (fun _=>WP.skip ?_)
  refine WP.seq (WP.ops (WO.r (.mv rfl) (WO.r (.mv rfl) (WO.nil (WP.exit ⟨rfl,rfl,EL++[evRow 1 (.ofNat 0) 1 2 1 it0],d.tok,d.tok.nx - 1,hs2.junk (m:=[_]),by simp,hI2,?_⟩)))))
  intro k v hk
  rcases lc_case hk with⟨rfl,rfl⟩|⟨rfl,rfl⟩|⟨rfl,rfl⟩|⟨rfl,rfl⟩|⟨rfl,rfl⟩ <;> rfl
 ·have hil:ilt (.ofNat d.ob.length) (.ofNat room)=false:=by rw [ilt_blt];exact blt_nif.2 hlt
  have hap:Ap P K F 29 3 0 0 0 ⟨0,0,0,0,0,0⟩ d { d with oc:=3,wi:=0 }:=fun s h=>applyOver_ok hB h hsm hI.ev hS.c29
  refine WP.seq (WP.ops (WO.r (.mv rfl) (WO.r (.build rfl rfl) (WO.w (WS.callF (first:=[]) (vs:=[.ptr (some ⟨bf,0,0⟩),.agg (evRow 1 (.ofNat 0) 1 2 1 it0)]) (cap:=[]) rfl rfl (doFull_ok hB hs hsm hf (by omega) hil hap) ?_)))))
  rintro w s1 ⟨rfl,hs1⟩
  refine WO.r (.mv rfl) (WO.nil (WP.seq (WP.ops (WO.r (.mv rfl) (WO.w (WS.callF (first:=[]) (vs:=[.ptr (some ⟨bf,0,0⟩)]) (cap:=[]) rfl rfl (boardState_ok hB hs1 ⟨hsm.n1,hsm.n2⟩ hf) ?_))))))
  rintro w s2 ⟨hs2,pv,ov,lv1,hv,gv,ev,fv,sv,wv,rfl,hR⟩
  have lo:lenOf ov=some d.ob.length:=by rw [hR.ob.lenOf];simp [obR]
  refine WO.a (.alloc rfl) fun b13=>WO.w (WS.store rfl rfl rfl .here rfl rfl (WO.nil ?_))
  refine WP.seq (WP.seq (WP.ops (WO.r (.mv rfl) (WO.r (.faddr rfl) (WO.r (.load rfl (.there (hs2.mem h5)) rfl rfl rfl) (WO.r (.arith rfl rfl rfl) (WO.nil ?_)))))))
  refine WP.cond (t:=false) (by show some (AV.bool (ilt (.ofNat d.ob.length) (.ofNat room)))=_;rw [hil]) (fun h=>by cases h) (fun _=>WP.skip ?_)
  have h121:eqBy 20 .pi (iv (.ofNat d.ob.length)) (iv (.ofNat d.ob.length))=some true:=by rw [eqB_i];simp
  refine WP.seq (WP.ops (WO.r (.mv rfl) (WO.r (.eql (b:=true) rfl rfl rfl) (WO.r (.mv rfl) (WO.yes rfl rfl (WO.r (.faddr rfl) (WO.yes rfl rfl (WO.r (.load rfl .here rfl rfl rfl) (WO.yes rfl rfl (WO.r (.lenS rfl lo) (WO.yes rfl rfl (WO.r (.mv rfl) (WO.yes rfl rfl (WO.r (.eql rfl rfl h121) (WO.r (.pick1 rfl rfl) (WO.r (.mv rfl) (WO.yes rfl rfl (WO.r (.faddr rfl) (WO.yes rfl rfl (WO.r (.load rfl .here rfl rfl rfl) (WO.yes rfl rfl (WO.r (.eql (b:=true) rfl rfl rfl) (WO.r (.pick1 rfl rfl) (WO.r (.mv rfl) (WO.yes rfl rfl (WO.w (WS.callF (first:=[]) (vs:=[]) (cap:=[]) rfl rfl (hS.w _) ?_)))))))))))))))))))))))))))
  rintro w s3 ⟨rfl,rfl⟩
  refine WO.r (.pick1 rfl rfl) (WO.r (.mv rfl) (WO.nil (WP.ret ⟨rfl,rfl,fun b o h=>.there (hs2.mem h)⟩)))
end
end Go.Ev
namespace Go.Ev
section
variable {P:Program} {K:Orc} {rd:Option Nat} {nt:Nat} {l:Sl} {ds:List ADef} {s:SH} {Q Qn Qr:Po} {Qe:Nat->Po} {F:Nat->FuncId} {T:Nat->TypeId}
theorem LogH.first {bl:Nat} {EL:List (List AV)} {d:SD} {t s:SH} {p:Nat × HO} (h:LogH bl EL d (p::t) s):∃ s',s.Perm (p::s')∧LogH bl EL d t s':=by
 obtain⟨sc,lv,pv,ov,lv',hv,gv,ev,fv,sv,wv,oL,nn,k1,k2,k3,k4⟩:=h
 exact⟨(bl,.r false [sc++([lv]++(d.cells pv ov lv' hv gv ev fv sv wv++[]))] 51)::(oL++(nn++t)),perm_ct fun c w h0 h1 h2 hq=>by simp only [h1,h2,hq _ _ k1];omega,sc,lv,pv,ov,lv',hv,gv,ev,fv,sv,wv,oL,nn,.refl _,k2,k3,k4⟩
theorem rem_i {k:IntKind} {a b:Nat} (hb:0 < b):binV .rem (.int k (.ofNat a)) (.int k (.ofNat b))=some (.int k (.ofNat (a % b))):=by
 cases b with
 | zero=>exact absurd hb (Nat.lt_irrefl _)
 | succ b=>
  cases k <;> simp only [binV,keq,force_eq] <;> rfl
theorem same_u (n:Int):sameV (.int .u8 n) (.int .u8 n)=true:=by
 have:ieq n n=true:=ieq_iff.2 rfl
 simp [sameV,sameN,same0,keq,this]
theorem cease_ok (hB:Base P K F T) (hS:Says P K F) {cards draws:AV} {b5 bf bl rb N x i cap:Nat} {sl:Bool} {L:List (List AV)} {last c0 c1 c2 c3 c4:Int} {EL:List (List AV)} {d:SD} {t:SH} (hs:LogH bl EL d t s) (hI:BInv N d last) (hN:N≤100) (hE:EL.length≤900)
  (hn:0 < d.ob.length) (hL:Has rb (.r true L 1) t) (hi:i < L.length) (hx:L[i]?=some [.int .u8 (.ofNat x)]) (hx2:x≤255) (hf:Has bf (.r false [foldRow bl cards c0 c1 c2 c3 c4 draws] 8) t) :
  WP P K none 132 (a3C F) ((10,iv (.ofNat d.ob.length))::lc (.slice (some ⟨rb,0,0⟩) L.length cap sl 1) b5 bf last (.ofNat i)) [] s
   (fun l ds s=>ds=[]∧∃ EL' d',LogH bl EL' d' t s∧EL'.length=EL.length+1∧BInv N d' last∧∀ k v,lk ((10,iv (.ofNat d'.ob.length))::lc (.slice (some ⟨rb,0,0⟩) L.length cap sl 1) b5 bf last (.ofNat i)) k=some v->lk l k=some v) (fun _=>NoQ) (RestR t):=by
 have hsm:=hI.small (by omega)
 unfold a3C
 refine WP.seq (WP.drawn1 fun b=>WD.pu (.mv rfl) (WD.ch .nil (WS.perm (WS.callF (first:=[]) (vs:=[.ptr (some ⟨bf,0,0⟩)]) (cap:=[]) rfl rfl (boardState_ok hB hs.cons hsm (.there hf)) ?_))))
 rintro w s1 ⟨hs1,pv,ov,lv1,hv,gv,ev,fv,sv,wv,rfl,hR⟩
 obtain⟨s2,hp2,hs2⟩:=hs1.first
 refine⟨_,hp2,?_⟩
 have hR2:=hR.mono (s':=(b,.gone)::s2) fun p hp=>hp2.mem_iff.1 hp
 have hj:x % d.ob.length < (obR d.ob).length:=by simp [obR];exact Nat.mod_lt _ hn
 obtain⟨bo,r,n,c,sl2,ro,M,rfl,hbo,hjn,hM⟩:=hR2.ob.at hj
 have hjo:x % d.ob.length < d.ob.length:=Nat.mod_lt _ hn
 have hMo:M[r+x % d.ob.length]?=some (d.ob[x % d.ob.length]).row:=by
  rw [hM];simp [obR,hjo]
 refine WD.pu (.fld rfl rfl) (WD.pu (.mv rfl) (WD.pu (.mv rfl) (WD.pu (.iaddrS rfl rfl hi (by omega)) (WD.lk rfl .nil (.load rfl (.there (hs2.mem hL)) (r:=0+i) (by rw [Nat.zero_add];exact hx) rfl rfl) ?_))))
 have h66:mkI .i64 (.ofNat x)=some (iv (.ofNat x)):=mkI_n (by omega)
 refine WD.pu (.convI rfl h66) (WD.pu (.mv rfl) (WD.pu (.arith rfl rfl (rem_i hn)) (WD.pu (.iaddrS rfl rfl hjn (by omega)) (WD.ld rfl .nil (.load rfl hbo hMo rfl rfl) (WD.al (.alloc rfl) rfl (WD.ch (.yes rfl rfl .here .nil) (WS.store rfl rfl rfl .here rfl rfl (WD.nil .nil ?_ ?_))))))))
 rotate_left
 ·intro o ho
  rw [List.mem_singleton.1 ho]
  refine⟨fun i hi=>?_,Nat.zero_le _,same_u _,fun k _ hk=>?_⟩
  ·rw [List.mem_singleton.1 hi];exact(show bit 56 12=false from rfl)
  ·rcases(by have:k≤1:=hk;omega:k=0∨k=1) with rfl | rfl
   ·exact⟨_,rfl,.load rfl (.there (hs.mem hL)) (r:=0+i) (by rw [Nat.zero_add];exact hx) rfl rfl⟩
   ·exact⟨_,rfl,.load rfl (.there (hs2.mem hL)) (r:=0+i) (by rw [Nat.zero_add];exact hx) rfl rfl⟩
 have hmem:d.ob[x % d.ob.length]∈d.ob:=List.getElem_mem _
 obtain⟨_,hblk,hid1,hid2⟩:=hI.ob _ hmem
 obtain⟨q,hq⟩:∃ q,d.find (d.ob[x % d.ob.length]).id=some q:=by
  cases h:d.find (d.ob[x % d.ob.length]).id with
  | some q=>exact⟨q,rfl⟩
  | none=>have:=List.findIdx?_eq_none_iff.1 h _ hmem;simp at this
 obtain⟨hql,hqi⟩:∃ h:q < d.ob.length,decide (d.ob[q].id=(d.ob[x % d.ob.length]).id)=true:=by
  obtain⟨h1,h2,_⟩:=List.findIdx?_eq_some_iff_getElem.1 hq
  exact⟨h1,h2⟩
 obtain⟨⟨p,hp,ho⟩,_,_,_⟩:=hI.ob _ (List.getElem_mem hql)
 have hap:Ap P K F 25 (d.ob[x % d.ob.length]).id 0 0 0 it0 d (d.left (d.ob[x % d.ob.length]).id q d.ob[q].zone p):=fun s h=>applyCease_ok hB h hsm hI.ev (by rw [hI.pl];omega) hq (List.getElem?_eq_getElem hql) ho hI.st hI.wa (by rw [hI.co];omega) (fun o h=>by rw [(hI.ob o h).2.1];omega) (hS.c25 _ hid1 hid2)
 obtain⟨hI2,hob2⟩:=hI.left (id:=(d.ob[x % d.ob.length]).id) (z:=d.ob[q].zone) (i:=q) (p:=p)
 have hlen2:(d.left (d.ob[x % d.ob.length]).id q d.ob[q].zone p).ob.length=d.ob.length - 1:=by rw [hob2,List.length_eraseIdx_of_lt hql]
 have hl3:d.ob.length≤1000:=hsm.n1.2.1
 have h83:binV .sub (iv (.ofNat d.ob.length)) (iv (.ofNat 1))=some (iv (.ofNat (d.ob.length - 1))):=by
  rw [sub_i (by show (1:Int)≤(d.ob.length:Int);omega) (by show (d.ob.length:Int)≤_;omega)]
  congr 2
  show (d.ob.length:Int) - 1=((d.ob.length - 1:Nat):Int)
  omega
 have h84:∀ {m:Nat},m=d.ob.length - 1->eqBy 20 .pi (iv (.ofNat m)) (iv (.ofNat (d.ob.length - 1)))=some true:=by rintro _ rfl;rw [eqB_i];simp
 refine WP.seq (WP.seq (WP.ops (WO.r (.mv rfl) (WO.r (.faddr rfl) (WO.r (.load rfl .here rfl rfl rfl) (WO.r (.build rfl rfl) (WO.w (WS.callF (first:=[]) (vs:=[.ptr (some ⟨bf,0,0⟩),.agg (evRow 25 (d.ob[x % d.ob.length]).id 0 0 0 it0)]) (cap:=[]) rfl rfl (doCeaseEv_ok hB (hs2.junk (m:=[_])) hsm hf (by omega) hap) ?_))))))))
 rintro w s3 ⟨rfl,hs3⟩
 refine WO.r (.eql (b:=true) rfl rfl rfl) (WO.r (.mv rfl) (WO.yes rfl rfl (WO.r (.mv rfl) (WO.yes rfl rfl (WO.w (WS.callF (first:=[]) (vs:=[.ptr (some ⟨bf,0,0⟩)]) (cap:=[]) rfl rfl (boardState_ok hB hs3 (hI2.small (by omega)) hf) ?_))))))
 rintro w s4 ⟨hs4,pv3,ov3,lv3,hv3,gv3,ev3,fv3,sv3,wv3,rfl,hR3⟩
 have lo:lenOf ov3=some (d.left (d.ob[x % d.ob.length]).id q d.ob[q].zone p).ob.length:=by rw [hR3.ob.lenOf];simp [obR]
 refine WO.yes rfl rfl (WO.r (.fld rfl rfl) (WO.yes rfl rfl (WO.r (.lenS rfl lo) (WO.yes rfl rfl (WO.r (.mv rfl) (WO.yes rfl rfl (WO.r (.arith rfl rfl h83) (WO.yes rfl rfl (WO.r (.eql rfl rfl (h84 hlen2)) (WO.r (.pick0 rfl rfl) (WO.nil ?_)))))))))))
 refine WP.cond rfl (fun h=>Bool.noConfusion (show false=true from h)) (fun _=>WP.skip ?_)
 refine WP.ops (WO.r (.mv rfl) (WO.r (.arith rfl rfl h83) (WO.r (.mv rfl) (WO.nil ⟨rfl,_,_,hs4,by simp,hI2,?_⟩))))
 intro k v hk
 rw [lk_cons,hlen2] at hk
 split at hk
 ·cases hk;rename_i h;subst h;rfl
 ·rcases lc_case hk with⟨rfl,rfl⟩ | ⟨rfl,rfl⟩ | ⟨rfl,rfl⟩ | ⟨rfl,rfl⟩ | ⟨rfl,rfl⟩ <;> rfl
end
end Go.Ev
namespace Go.Ev
section
variable {P:Program} {K:Orc} {rd:Option Nat} {nt:Nat} {l:Sl} {ds:List ADef} {s:SH} {Q Qn Qr:Po} {Qe:Nat->Po} {F:Nat->FuncId} {T:Nat->TypeId}
theorem eqB_u (a b:Int):eqBy 20 .pi (.int .u8 a) (.int .u8 b)=some (decide (a=b)):=by
 show some (ieq a b)=_
 rw [ieq_dec]
structure Byts (t:SH) (lv:AV) (L:List (List AV)):Prop where
 len:lenOf lv=some L.length
 at':0 < L.length->∃ rb cap sl,lv=.slice (some ⟨rb,0,0⟩) L.length cap sl 1∧Has rb (.r true L 1) t
 b:∀ i,i < L.length->∃ x:Nat,x≤255∧L[i]?=some [.int .u8 (.ofNat x)]
theorem round_ok (hB:Base P K F T) (hS:Says P K F) {lv cards draws:AV} {b5 bf bl N room i:Nat} {L:List (List AV)} {last c1 c2 c3 c4:Int} {k1 k2 k3 k4:AV} {EL:List (List AV)} {d:SD} {t:SH} (hs:LogH bl EL d t s) (hI:BInv N d last) (hN:N≤99) (hE:EL.length≤800)
  (hL:Byts t lv L) (hf:Has bf (.r false [foldRow bl cards (.ofNat room) c1 c2 c3 c4 draws] 8) t) (h5:Has b5 (.r false [[iv (.ofNat room),k1,k2,k3,k4]] 5) t) :
  WP P K none 132 (a3I F) (lc lv b5 bf last (.ofNat i)) [] s NoQ (fun j l ds s=>∃ E,E≤EL.length+2∧RestE lv b5 bf bl (.ofNat i) (N+1) E t j l ds s) (RestR t):=by
 have hsm:=hI.small (by omega)
 unfold a3I a3B
 refine WP.seq (WP.ops (WO.r (.mv rfl) (WO.w (WS.callF (first:=[]) (vs:=[.ptr (some ⟨bf,0,0⟩)]) (cap:=[]) rfl rfl (boardState_ok hB hs hsm hf) ?_))))
 rintro w s1 ⟨hs1,pv,ov,lv1,hv,gv,ev,fv,sv,wv,rfl,hR⟩
 have lo:lenOf ov=some d.ob.length:=by rw [hR.ob.lenOf];simp [obR]
 have rest:∀ {l:Sl},(∀ k v,lk ((10,iv (.ofNat d.ob.length))::lc lv b5 bf last (.ofNat i)) k=some v->lk l k=some v)->WP P K none 132 (a3R F) l [] s1 NoQ (fun j l ds s=>∃ E,E≤EL.length+2∧RestE lv b5 bf bl (.ofNat i) (N+1) E t j l ds s) (RestR t):=fun h=>
  WP.weak h (fun _ _ h=>h) ((rest_ok hB hS hs1 hI (by omega) (by omega) hf h5).post (fun _ _ _ h=>h) (fun _ _ _ _ h=>⟨_,by omega,h⟩) (fun _ _ _ h=>h))
 refine WO.r (.fld rfl rfl) (WO.r (.lenS rfl lo) (WO.r (.mv rfl) (WO.nil ?_)))
 by_cases hi:i < L.length
 ·have h46:binV .lss (iv (.ofNat i)) (iv (.ofNat L.length))=some (.bool true):=by
   show some (AV.bool (ilt (.ofNat i) (.ofNat L.length)))=_
   rw [ilt_blt,blt_iff.2 hi]
  obtain⟨x,hx2,hx⟩:=hL.b i hi
  obtain⟨rb,cap,sl,rfl,hrb⟩:=hL.at' (by omega)
  have h52:binV .rem (.int .u8 (.ofNat x)) (.int .u8 (.ofNat 3))=some (.int .u8 (.ofNat (x % 3))):=rem_i (by omega)
  by_cases hx3:x % 3=0
  ·have h53:eqBy 20 .pi (.int .u8 (.ofNat (x % 3))) (.int .u8 (.ofNat 0))=some true:=by rw [eqB_u,hx3];simp
   by_cases hn:0 < d.ob.length
   ·have h57:binV .gtr (iv (.ofNat d.ob.length)) (iv (.ofNat 0))=some (.bool true):=by
     show some (AV.bool (ilt (.ofNat 0) (.ofNat d.ob.length)))=_
     rw [ilt_blt,blt_iff.2 hn]
    refine WP.seq (WP.seq (WP.ops (WO.r (.mv rfl) (WO.r (.mv rfl) (WO.r (.lenS rfl hL.len) (WO.r (.arith rfl rfl h46) (WO.r (.mv rfl) (WO.yes rfl rfl (WO.r (.mv rfl) (WO.yes rfl rfl (WO.r (.mv rfl) (WO.yes rfl rfl (WO.r (.iaddrS rfl rfl hi (by omega)) (WO.yes rfl rfl (WO.r (.load rfl (hs1.mem hrb) (r:=0+i) (by rw [Nat.zero_add];exact hx) rfl rfl) (WO.yes rfl rfl (WO.r (.arith rfl rfl h52) (WO.yes rfl rfl (WO.r (.eql rfl rfl h53) (WO.r (.pick1 rfl rfl) (WO.r (.mv rfl) (WO.yes rfl rfl (WO.r (.mv rfl) (WO.yes rfl rfl (WO.r (.arith rfl rfl h57) (WO.r (.pick1 rfl rfl) (WO.nil ?_)))))))))))))))))))))))))))
    refine WP.cond rfl (fun _=>?_) (fun h=>Bool.noConfusion (show true=false from h))
    refine WP.weak ?_ (fun _ _ h=>h) (WP.post (cease_ok hB hS (b5:=b5) (last:=last) (cap:=cap) (sl:=sl) hs1 hI (by omega) (by omega) hn hrb hi hx hx2 hf) ?_ (fun _ _ _ _ h=>h.elim) (fun _ _ _ h=>h))
    ·intro k v hk
     rw [lk_cons] at hk
     split at hk
     ·cases hk;rename_i h;subst h;rfl
     ·rcases lc_case hk with⟨rfl,rfl⟩ | ⟨rfl,rfl⟩ | ⟨rfl,rfl⟩ | ⟨rfl,rfl⟩ | ⟨rfl,rfl⟩ <;> rfl
    ·rintro l ds s2 ⟨rfl,EL2,d2,hs2,hE2,hI2,hl2⟩
     exact WP.weak hl2 (fun _ _ h=>h) ((rest_ok hB hS hs2 hI2 (by omega) (by omega) hf h5).post (fun _ _ _ h=>h) (fun _ _ _ _ h=>⟨_,by omega,h⟩) (fun _ _ _ h=>h))
   ·have h57:binV .gtr (iv (.ofNat d.ob.length)) (iv (.ofNat 0))=some (.bool false):=by
     show some (AV.bool (ilt (.ofNat 0) (.ofNat d.ob.length)))=_
     rw [ilt_blt,blt_nif.2 hn]
    refine WP.seq (WP.seq (WP.ops (WO.r (.mv rfl) (WO.r (.mv rfl) (WO.r (.lenS rfl hL.len) (WO.r (.arith rfl rfl h46) (WO.r (.mv rfl) (WO.yes rfl rfl (WO.r (.mv rfl) (WO.yes rfl rfl (WO.r (.mv rfl) (WO.yes rfl rfl (WO.r (.iaddrS rfl rfl hi (by omega)) (WO.yes rfl rfl (WO.r (.load rfl (hs1.mem hrb) (r:=0+i) (by rw [Nat.zero_add];exact hx) rfl rfl) (WO.yes rfl rfl (WO.r (.arith rfl rfl h52) (WO.yes rfl rfl (WO.r (.eql rfl rfl h53) (WO.r (.pick1 rfl rfl) (WO.r (.mv rfl) (WO.yes rfl rfl (WO.r (.mv rfl) (WO.yes rfl rfl (WO.r (.arith rfl rfl h57) (WO.r (.pick1 rfl rfl) (WO.nil ?_)))))))))))))))))))))))))))
    refine WP.cond rfl (fun h=>Bool.noConfusion (show false=true from h)) (fun _=>WP.skip (rest ?_))
    intro k v hk
    rw [lk_cons] at hk
    split at hk
    ·cases hk;rename_i h;subst h;rfl
    ·rcases lc_case hk with⟨rfl,rfl⟩ | ⟨rfl,rfl⟩ | ⟨rfl,rfl⟩ | ⟨rfl,rfl⟩ | ⟨rfl,rfl⟩ <;> rfl
  ·have h53:eqBy 20 .pi (.int .u8 (.ofNat (x % 3))) (.int .u8 (.ofNat 0))=some false:=by rw [eqB_u];simp;omega
   refine WP.seq (WP.seq (WP.ops (WO.r (.mv rfl) (WO.r (.mv rfl) (WO.r (.lenS rfl hL.len) (WO.r (.arith rfl rfl h46) (WO.r (.mv rfl) (WO.yes rfl rfl (WO.r (.mv rfl) (WO.yes rfl rfl (WO.r (.mv rfl) (WO.yes rfl rfl (WO.r (.iaddrS rfl rfl hi (by omega)) (WO.yes rfl rfl (WO.r (.load rfl (hs1.mem hrb) (r:=0+i) (by rw [Nat.zero_add];exact hx) rfl rfl) (WO.yes rfl rfl (WO.r (.arith rfl rfl h52) (WO.yes rfl rfl (WO.r (.eql rfl rfl h53) (WO.r (.pick1 rfl rfl) (WO.r (.mv rfl) (WO.skip rfl rfl (WO.skip rfl rfl (WO.r (.pick0 rfl rfl) (WO.nil ?_)))))))))))))))))))))))))
   refine WP.cond rfl (fun h=>Bool.noConfusion (show false=true from h)) (fun _=>WP.skip (rest ?_))
   intro k v hk
   rw [lk_cons] at hk
   split at hk
   ·cases hk;rename_i h;subst h;rfl
   ·rcases lc_case hk with⟨rfl,rfl⟩ | ⟨rfl,rfl⟩ | ⟨rfl,rfl⟩ | ⟨rfl,rfl⟩ | ⟨rfl,rfl⟩ <;> rfl
 ·have h46:binV .lss (iv (.ofNat i)) (iv (.ofNat L.length))=some (.bool false):=by
   show some (AV.bool (ilt (.ofNat i) (.ofNat L.length)))=_
   rw [ilt_blt,blt_nif.2 hi]
  refine WP.seq (WP.seq (WP.ops (WO.r (.mv rfl) (WO.r (.mv rfl) (WO.r (.lenS rfl hL.len) (WO.r (.arith rfl rfl h46) (WO.r (.mv rfl) (WO.skip rfl rfl (WO.skip rfl rfl (WO.skip rfl rfl (WO.skip rfl rfl (WO.skip rfl rfl (WO.skip rfl rfl (WO.r (.pick0 rfl rfl) (WO.r (.mv rfl) (WO.skip rfl rfl (WO.skip rfl rfl (WO.r (.pick0 rfl rfl) (WO.nil ?_)))))))))))))))))))
  refine WP.cond rfl (fun h=>Bool.noConfusion (show false=true from h)) (fun _=>WP.skip (rest ?_))
  intro k v hk
  rw [lk_cons] at hk
  split at hk
  ·cases hk;rename_i h;subst h;rfl
  ·rcases lc_case hk with⟨rfl,rfl⟩ | ⟨rfl,rfl⟩ | ⟨rfl,rfl⟩ | ⟨rfl,rfl⟩ | ⟨rfl,rfl⟩ <;> rfl
def LoopI (lv:AV) (b5 bf bl:Nat) (t:SH):Nat->Po:=fun n l ds s=>∃ i last d EL,n+i=80∧ds=[]∧LogH bl EL d t s∧EL.length≤2 * i∧BInv i d last∧∀ k v,lk (lc lv b5 bf last (.ofNat i)) k=some v->lk l k=some v
theorem turn_ok (hB:Base P K F T) (hS:Says P K F) {lv cards draws:AV} {b5 bf bl room n:Nat} {L:List (List AV)} {c1 c2 c3 c4:Int} {k1 k2 k3 k4:AV} {t:SH}
  (hL:Byts t lv L) (hf:Has bf (.r false [foldRow bl cards (.ofNat room) c1 c2 c3 c4 draws] 8) t) (h5:Has b5 (.r false [[iv (.ofNat room),k1,k2,k3,k4]] 5) t) (hI:LoopI lv b5 bf bl t n l ds s) :
  WP P K none 132 (a3L F) l ds s (fun l ds s=>∃ m,m < n∧LoopI lv b5 bf bl t m l ds s) (fun j l ds s=>j=0∧ds=[]∧∀ b o,Has b o t->Has b o s) (RestR t):=by
 obtain⟨i,last,d,EL,hn,rfl,hs,hE,hI,hl⟩:=hI
 refine WP.weak hl (fun _ _ h=>h) ?_
 unfold a3L
 by_cases hi:i < 80
 ·have h36:binV .lss (iv (.ofNat i)) (iv (.ofNat 80))=some (.bool true):=by
   show some (AV.bool (ilt (.ofNat i) (.ofNat 80)))=_
   rw [ilt_blt,blt_iff.2 hi]
  refine WP.seq (WP.seq (WP.ops (WO.r (.mv rfl) (WO.r (.arith rfl rfl h36) (WO.nil (WP.cond rfl (fun _=>WP.skip ?_) (fun h=>Bool.noConfusion (show true=false from h))))))))
  refine WP.seq (WP.block (WP.weak (l':=lc lv b5 bf last (.ofNat i)) ?_ (fun _ _ h=>h) (WP.post (round_ok hB hS hs hI (by omega) (by omega) hL hf h5) (fun _ _ _ h=>h.elim) ?_ (fun _ _ _ h=>h))))
  ·intro k v hk
   rcases lc_case hk with⟨rfl,rfl⟩|⟨rfl,rfl⟩|⟨rfl,rfl⟩|⟨rfl,rfl⟩|⟨rfl,rfl⟩ <;> rfl
  ·rintro _ l2 _ s2 ⟨E,hE2,rfl,rfl,EL2,d2,last2,hs2,hE3,hI2,hl2⟩
   refine WP.weak hl2 (fun _ _ h=>h) (WP.ops ?_)
   have h38:binV .add (iv (.ofNat i)) (iv (.ofNat 1))=some (iv (.ofNat (i+1))):=mkI_n (n:=i+1) (by omega)
   refine WO.r (.mv rfl) (WO.r (.arith rfl rfl h38) (WO.r (.mv rfl) (WO.nil ⟨n - 1,by omega,i+1,last2,d2,EL2,by omega,rfl,hs2,by omega,hI2,?_⟩)))
   intro k v hk
   rcases lc_case hk with⟨rfl,rfl⟩|⟨rfl,rfl⟩|⟨rfl,rfl⟩|⟨rfl,rfl⟩|⟨rfl,rfl⟩ <;> rfl
 ·have h36:binV .lss (iv (.ofNat i)) (iv (.ofNat 80))=some (.bool false):=by
   show some (AV.bool (ilt (.ofNat i) (.ofNat 80)))=_
   rw [ilt_blt,blt_nif.2 hi]
  refine WP.seq (WP.seq (WP.ops (WO.r (.mv rfl) (WO.r (.arith rfl rfl h36) (WO.nil (WP.cond rfl (fun h=>Bool.noConfusion (show false=true from h)) (fun _=>WP.exit ⟨rfl,rfl,fun b o h=>hs.mem h⟩)))))))
end
end Go.Ev
namespace Go.Ev
def spine:Nat->Code->List Code × Code
 | 0,c=>([],c)
 | n+1,.seq a b=>((a::(spine n b).1),(spine n b).2)
 | _+1,c=>([],c)
theorem spine_eq:∀ (n:Nat) (c:Code),(spine n c).1.foldr .seq (spine n c).2=c:=by
 intro n
 induction n with
 | zero=>intro c;rfl
 | succ n ih=>
  intro c
  cases c with
  | seq a b=>show Code.seq a ((spine n b).1.foldr .seq (spine n b).2)=_;rw [ih b]
  | _=>rfl
noncomputable def preF (P:Program) (nt:Nat) (ih:CallT) (cs:List Code) (k:Kt):Kt:=List.rec (motive:=fun _=>Kt) k (fun c _ r e h=>(codeF P nt 1000 c).run ih (fun _ _ _=>false) (fun _ _=>false) e h r) cs
section
variable [Sg] {P:Program} {K:Orc} {rd:Option Nat} {nt:Nat} {ih:CallT}
theorem preF_ok (hC:CallR P K ih):∀ (cs:List Code) {k:Kt} {e:Env} {E:Tr AV} {h:FH} {H:Heap} {ds:List ADef},EnvR nt e E->FHr h H->FrR h.fr ds rd->preF P nt ih cs k e h=true ->
  ∃ E' H' ds' e' h',EnvR nt e' E'∧FHr h' H'∧FrR h'.fr ds' rd∧k e' h'=true∧∀ (rest:Code) R,Runs P K rd nt rest E' ds' H' R->Runs P K rd nt (cs.foldr .seq rest) E ds H R:=by
 intro cs
 induction cs with
 | nil=>intro k e E h H ds hE hH hF hk;exact⟨E,H,ds,e,h,hE,hH,hF,hk,fun _ _ hr=>hr⟩
 | cons c cs ihs=>
  intro k e E h H ds hE hH hF hk
  obtain⟨m,x,E1,ds1,H1,e1,h1,k1,k2,k3,k4,k5⟩:=codeF_ok hC 1000 hE hH hF hk
  cases x with
  | normal=>
   obtain⟨E',H',ds',e',h',q1,q2,q3,q4,q5⟩:=ihs k2 k3 k4 k5
   exact⟨E',H',ds',e',h',q1,q2,q3,q4,fun rest R hr=>Runs.seq ⟨m,k1⟩ (q5 rest R hr)⟩
  | ret=>cases k5
  | exit i=>cases k5
noncomputable def isA (v:V) (a:AV):Bool:=match av v with | some b=>sameV b a | none=>false
theorem isA_ok {v:V} {a b:AV} (h:VA v a) (hb:isA v b=true):a=b:=by
 unfold isA at hb
 split at hb
 ·rename_i c hc
  rw [av_ok h hc];exact sameV_eq hb
 ·cases hb
noncomputable def rowCk (R:R V):Nat->List AV->Bool
 | _,[]=>true
 | j,a::l=>isA (atR j R) a && rowCk R (j+1) l
noncomputable def rowsCk (rs:Ev.R (Ev.R V)) (sz:Nat):Nat->List (List AV)->Bool
 | _,[]=>true
 | r,l::L=>Nat.beq l.length sz && (rowCk (atR r rs) 0 l && rowsCk rs sz (r+1) L)
noncomputable def blkCk (h:FH) (b sz:Nat) (L:List (List AV)):Bool:=Nat.blt b 262144 && (Nat.blt b h.next && (Nat.beq (hget b h).t 1 && (Nat.beq (hget b h).n L.length && (Nat.beq (hget b h).sz sz && rowsCk (hget b h).rs sz 0 L))))
theorem rowCk_ok {R:Ev.R V} {row:List AV} (hr:∀ i a,row[i]?=some a->VA (atR i R) a):∀ (l:List AV) (j:Nat),rowCk R j l=true->row.length=j+l.length->row.drop j=l:=by
 intro l
 induction l with
 | nil=>intro j _ hl;exact List.drop_eq_nil_of_le (by rw [hl];exact Nat.le_refl _)
 | cons a l ih=>
  intro j h hl
  obtain⟨h1,h2⟩:=(Bool.and_eq_true _ _).mp h
  rw [List.length_cons] at hl
  have hj:j < row.length:=by omega
  rw [List.drop_eq_getElem_cons hj,ih (j+1) h2 (by omega),isA_ok (hr j _ (List.getElem?_eq_getElem hj)) h1]
theorem rowsCk_ok {rs:Ev.R (Ev.R V)} {sz:Nat} {T:Tr (List AV)}:∀ (L:List (List AV)) (r:Nat),rowsCk rs sz r L=true->(∀ i,r≤i->i < r+L.length->∃ row,T.get i=some row∧RVA sz (atR i rs) row) ->
  ∀ (i:Nat) row,L[i]?=some row->T.get (r+i)=some row∧row.length=sz:=by
 intro L
 induction L with
 | nil=>intro r _ _ i row hi;cases hi
 | cons l L ih=>
  intro r h hT i row hi
  obtain⟨h1,h2⟩:=(Bool.and_eq_true _ _).mp h
  obtain⟨h2,h3⟩:=(Bool.and_eq_true _ _).mp h2
  rw [List.length_cons] at hT
  cases i with
  | zero=>
   cases hi
   obtain⟨row,e1,e2⟩:=hT r (Nat.le_refl _) (by omega)
   have h1:l.length=sz:=Nat.eq_of_beq_eq_true h1
   have:=rowCk_ok e2.cell l 0 h2 (by rw [e2.len,h1];omega)
   rw [List.drop_zero] at this
   subst this
   exact⟨e1,h1⟩
  | succ i=>
   have:=ih (r+1) h3 (fun i h1 h2=>hT i (by omega) (by omega)) i row hi
   rw [show r+1+i=r+(i+1) by omega] at this
   exact this
theorem blkCk_ok {h:FH} {H:Heap} (hH:FHr h H) {b sz:Nat} {L:List (List AV)} (hc:blkCk h b sz L=true):b < H.next∧(HO.r false L sz).ok (H.get b):=by
 obtain⟨h1,hc⟩:=(Bool.and_eq_true _ _).mp hc
 obtain⟨h2,hc⟩:=(Bool.and_eq_true _ _).mp hc
 obtain⟨h3,hc⟩:=(Bool.and_eq_true _ _).mp hc
 obtain⟨h4,hc⟩:=(Bool.and_eq_true _ _).mp hc
 obtain⟨h5,hc⟩:=(Bool.and_eq_true _ _).mp hc
 have h1:b < 262144:=blt_iff.1 h1
 have h2:b < h.next:=blt_iff.1 h2
 have h3:(hget b h).t=1:=Nat.eq_of_beq_eq_true h3
 have h4:(hget b h).n=L.length:=Nat.eq_of_beq_eq_true h4
 have h5:(hget b h).sz=sz:=Nat.eq_of_beq_eq_true h5
 refine⟨by rw [<- hH.next];exact h2,?_⟩
 obtain⟨T,e1,e2,e3,e4⟩:=(hH.block b h1).rows h3
 rw [h4,h5] at e1
 refine⟨T,e1,fun i row hi=>?_⟩
 have:=rowsCk_ok L 0 hc (fun i _ hi=>by
  have:=e4 i (by rw [h4];omega)
  rwa [h5] at this) i row hi
 rwa [Nat.zero_add] at this
noncomputable def memCk (h:FH):List (Nat × Nat × List (List AV))->Bool
 | []=>true
 | (b,sz,L)::r=>blkCk h b sz L && memCk h r
def memS (l:List (Nat × Nat × List (List AV))):SH:=l.map fun p=>(p.1,.r false p.2.2 p.2.1)
theorem memCk_ok {h:FH} {H:Heap} (hH:FHr h H):∀ {l:List (Nat × Nat × List (List AV))},memCk h l=true->∀ b o,(b,o)∈memS l->b < H.next∧o.ok (H.get b):=by
 intro l
 induction l with
 | nil=>intro _ b o hb;cases hb
 | cons p l ih=>
  intro hc b o hb
  obtain⟨b1,sz,L⟩:=p
  obtain⟨h1,h2⟩:=(Bool.and_eq_true _ _).mp hc
  cases hb with
  | head=>exact blkCk_ok hH h1
  | tail _ hb=>exact ih h2 b o hb
noncomputable def slotCk (e:Env):List (Nat × AV)->Bool
 | []=>true
 | (t,a)::r=>isA (atR t e) a && slotCk e r
theorem slotCk_ok {e:Env} {E:Tr AV} (hE:EnvR nt e E):∀ {l:List (Nat × AV)},slotCk e l=true->(∀ p∈l,p.1 < nt)->∀ t a,(t,a)∈l->E.get t=some a:=by
 intro l
 induction l with
 | nil=>intro _ _ t a hb;cases hb
 | cons p l ih=>
  intro hc hn t a hb
  obtain⟨t1,a1⟩:=p
  obtain⟨h1,h2⟩:=(Bool.and_eq_true _ _).mp hc
  cases hb with
  | head=>
   obtain⟨x,e1,e2⟩:=hE.slot t (hn _ (List.mem_cons_self ..))
   rw [e1,isA_ok e2 h1]
  | tail _ hb=>exact ih h2 (fun p hp=>hn p (List.mem_cons_of_mem _ hp)) t a hb
end
end Go.Ev
namespace Go.Ev
@[reducible] def ob0 (id card owner:Int):OD:=⟨id,card,owner,owner,0,false,false,false,0,0,0,0,false⟩
def d0:SD:=⟨[⟨20,0,0,0,0,false,false,false⟩,⟨20,0,0,0,0,false,false,false⟩],[ob0 1 0 0,ob0 2 1 0,ob0 3 1 1],[[1,2],[3]],[[],[]],[[],[]],[[],[]],[],[],[],
 1,0,0,0,0,0,4,1,0,0,0,0,false,0,0⟩
theorem d0_inv:BInv 0 d0 3:=by
 refine⟨rfl,⟨rfl,rfl,rfl,rfl⟩,?_,by decide,by decide,?_,rfl,rfl,rfl,rfl,by decide,by decide⟩
 ·intro o ho
  simp only [d0,List.mem_cons,List.not_mem_nil,or_false] at ho
  rcases ho with rfl|rfl|rfl
  ·exact⟨⟨0,by omega,rfl⟩,rfl,by decide,by decide⟩
  ·exact⟨⟨0,by omega,rfl⟩,rfl,by decide,by decide⟩
  ·exact⟨⟨1,by omega,rfl⟩,rfl,by decide,by decide⟩
 ·intro LL hL lst hl
  have:lst.length≤2:=by
   rcases hL with rfl|rfl|rfl|rfl <;> (simp only [d0,List.mem_cons,List.not_mem_nil,or_false] at hl;rcases hl with rfl|rfl <;> decide)
  omega
@[reducible] def slA (b n sz:Nat):AV:=.slice (some ⟨b,0,0⟩) n n true sz
def m0:SH:=[(131,.r false (plR d0.pl) 8),(146,.r false (obR d0.ob) 14),(154,.r false [[slA 148 2 1],[slA 152 1 1]] 1),(148,.r false (nR [1,2]) 1),(152,.r false (nR [3]) 1),
 (158,.r false [[nilS],[nilS]] 1),(162,.r false [[nilS],[nilS]] 1),(166,.r false [[nilS],[nilS]] 1)]
theorem m0_std:StD m0 (slA 131 2 8) (slA 146 3 14) (slA 154 2 1) (slA 158 2 1) (slA 162 2 1) (slA 166 2 1) nilS nilS nilS d0 where
 pl:=Src.all (L:=plR d0.pl) .here
 ob:=Src.all (L:=obR d0.ob) (.there .here)
 lb:=⟨_,Src.all (L:=[[slA 148 2 1],[slA 152 1 1]]) (.there (.there .here)),.cons (Src.all (L:=nR [1,2]) (.there (.there (.there .here)))) (.cons (Src.all (L:=nR [3]) (.there (.there (.there (.there .here))))) .nil)⟩
 hd:=⟨_,Src.all (L:=[[nilS],[nilS]]) (.there (.there (.there (.there (.there .here))))),.cons .nil (.cons .nil .nil)⟩
 gr:=⟨_,Src.all (L:=[[nilS],[nilS]]) (.there (.there (.there (.there (.there (.there .here)))))),.cons .nil (.cons .nil .nil)⟩
 ex:=⟨_,Src.all (L:=[[nilS],[nilS]]) (.there (.there (.there (.there (.there (.there (.there .here))))))),.cons .nil (.cons .nil .nil)⟩
 fi:=.nil
 st:=.nil
 wa:=.nil
@[reducible] def sc0:List AV:=d0.cells (slA 92 2 8) (slA 107 3 14) (slA 115 2 1) (slA 119 2 1) (slA 123 2 1) (slA 127 2 1) nilS nilS nilS
@[reducible] def log0:List AV:=sc0++([nilS]++(d0.cells (slA 131 2 8) (slA 146 3 14) (slA 154 2 1) (slA 158 2 1) (slA 162 2 1) (slA 166 2 1) nilS nilS nilS++[]))
theorem log0_ok (t:SH):LogH 88 [] d0 t ((88,.r false [log0] 51)::([]++(m0++t))):=
 ⟨sc0,nilS,slA 131 2 8,slA 146 3 14,slA 154 2 1,slA 158 2 1,slA 162 2 1,slA 166 2 1,nilS,nilS,nilS,[],m0,.refl _,rfl,.nil,m0_std⟩
def mem0 (room:Nat):List (Nat × Nat × List (List AV)):=(88,51,[log0])::[(131,8,plR d0.pl),(146,14,obR d0.ob),(154,1,[[slA 148 2 1],[slA 152 1 1]]),(148,1,nR [1,2]),(152,1,nR [3]),(158,1,[[nilS],[nilS]]),(162,1,[[nilS],[nilS]]),(166,1,[[nilS],[nilS]]),
 (86,8,[foldRow 88 (slA 168 2 11) (.ofNat room) (.ofNat 4) (.ofNat 50) (.ofNat 10) (.ofNat 20) nilS]),(2,5,[[iv (.ofNat room),iv (.ofNat 4),iv (.ofNat 50),iv (.ofNat 10),iv (.ofNat 20)]])]
end Go.Ev
namespace Go.Ev
section
variable {P:Program} {K:Orc} {F:Nat->FuncId} {T:Nat->TypeId} {l:Sl} {s:SH}
noncomputable def a3Z (F:Nat->FuncId):AC:=.seq (.seq (.ops [⟨(some 9),(.mv (.const (.int .i64 (.ofNat 0)))),none⟩]) (.block 0 (.loop (a3L F)))) (a3T F)
theorem loop4_ok (hB:Base P K F T) (hS:Says P K F) {lv cards draws:AV} {b5 bf bl room:Nat} {L:List (List AV)} {c1 c2 c3 c4:Int} {k1 k2 k3 k4:AV} {t:SH}
  (hL:Byts t lv L) (hf:Has bf (.r false [foldRow bl cards (.ofNat room) c1 c2 c3 c4 draws] 8) t) (h5:Has b5 (.r false [[iv (.ofNat room),k1,k2,k3,k4]] 5) t) {d:SD} (hs:LogH bl [] d t s) (hI:BInv 0 d 3)
  (e1:lk l 1=some lv) (e5:lk l 5=some (.ptr (some ⟨b5,0,0⟩))) (e6:lk l 6=some (.ptr (some ⟨bf,0,0⟩))) (e8:lk l 8=some (iv 3)) :
  WP P K none 132 (a3Z F) l [] s NoQ (fun _=>NoQ) (RestR t):=by
 unfold a3Z
 refine WP.seq (WP.seq (WP.ops (WO.r (.mv rfl) (WO.nil ?_))))
 refine WP.block (WP.loop (LoopI lv b5 bf bl t) (fun n l ds s h=>(turn_ok hB hS hL hf h5 h).post (fun _ _ _ h=>h) ?_ (fun _ _ _ h=>h)) (n:=80) ⟨0,3,d,[],rfl,rfl,hs,by simp,hI,?_⟩)
 ·rintro _ l2 _ s2 ⟨rfl,rfl,hm⟩
  unfold a3T
  show WP P K none 132 _ l2 [] s2 _ _ _
  refine WP.seq (WP.ops (WO.w (WS.callF (first:=[]) (vs:=[]) (cap:=[]) rfl rfl (hS.w _) ?_)))
  rintro w s3 ⟨rfl,rfl⟩
  exact WO.r (.mv rfl) (WO.nil (WP.ret ⟨rfl,rfl,hm⟩))
 ·intro k v hk
  rcases lc_case hk with⟨rfl,rfl⟩|⟨rfl,rfl⟩|⟨rfl,rfl⟩|⟨rfl,rfl⟩|⟨rfl,rfl⟩
  ·exact e1
  ·exact e5
  ·exact e6
  ·exact e8
  ·rfl
end
end Go.Ev
namespace Go.Ev
section
variable [Sg] {P:Program} {K:Orc}
theorem envStart {nt:Nat} {args:List V} {as:List AV} (ha:VAs args as) (g1:nt≤4180) (q':as.length≤nt):∃ e0,argsEnv nt as=some e0∧EnvR nt (wrV args 0 row0) e0:=by
 obtain⟨s0,hs0⟩:=lfold_total (f:=fun (s:Tr AV × Nat) (v:AV)=>some (s.1.put s.2 v,Nat.succ s.2)) (fun b a=>⟨_,rfl⟩) as (undefs nt,0)
 have he0:argsEnv nt as=some s0.1:=by unfold argsEnv;rw [hs0]
 refine⟨s0.1,he0,g1,fun t ht=>?_⟩
 rw [argsEnv_get he0]
 cases hat:as[t]? with
 | some a=>
  refine⟨a,rfl,?_⟩
  have:=ha.row (o:=0) (r:=row0) (by omega) t a hat
  rwa [Nat.zero_add] at this
 | none=>
  refine⟨.undef,by simp only [if_pos ht],?_⟩
  have hge:as.length≤t:=List.getElem?_eq_none_iff.1 hat
  rw [wrV_get _ _ _ _ (by rw [ha.length];omega) (by omega),dif_neg (by rw [ha.length];omega)]
  show VA (atR t (rpR vU)) .undef
  rw [at_rpR]
  exact VA.undef
end
end Go.Ev
