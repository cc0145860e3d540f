/- Walks of slices.Delete, and of 'each' over lists of values of one cell. The code of functions of packages state, log, board and slices, its operations looked up; numbers by F and T. The state, as the slow machine holds it (no effects, no targets), and its copy. Walks of package state: own things, Copy. Walks of package state: Find, where lists stand, adding. Walks of package state: where a zone's list stands, adding an object. Conditions: none. -/
import Derived.Test.YtcmplhmbmmclaaaGreatEvI
set_option linter.unusedVariables false
set_option linter.unusedSectionVars false
namespace Go.Ev
section
variable {P:Program} {K:Orc} {rd:Option Nat} {nt:Nat} {l:Sl} {ds:List ADef} {s:SH} {Q Qn Qr:Po} {Qe:Nat->Po}
def eachS (bytes:Nat) (z:List AV):AC:=.seq (.ops [⟨(some 4),(.mv (.const (.slice none 0 0))),none⟩]) (.seq (.ops [⟨(some 5),(.mv (.const (.slice none 0 0))),none⟩]) (.seq (.seq (.ops [⟨(some 8),(.mv (.tmp 0)),none⟩,⟨(some 9),(.lenS (.tmp 8)),none⟩,⟨(some 10),(.mv (.const (.int .i64 (.ofNat 0)))),none⟩]) (.block 0 (.loop (.seq (.ops [⟨(some 11),(.arith .lss (.tmp 10) (.tmp 9)),none⟩]) (.seq (.cond (.tmp 11) .skip (.exit 0)) (.seq (.block 1 (.seq (.ops [⟨(some 12),(.iaddrS 1 (.tmp 8) (.tmp 10)),none⟩,⟨(some 13),(.load false 1 (.tmp 12)),none⟩,⟨(some 7),(.mv (.tmp 13)),none⟩]) (.ops [⟨(some 14),(.mv (.tmp 5)),none⟩,⟨(some 15),(.mv (.tmp 1)),none⟩,⟨(some 16),(.mv (.tmp 7)),none⟩,⟨(some 17),(.call (.tmp 15) [(.tmp 16)]),none⟩,⟨(some 18),(.bslice 1 1 z [⟨0,(.tmp 17)⟩]),none⟩,⟨(some 19),(.append 1 bytes (.tmp 14) (.tmp 18)),none⟩,⟨(some 5),(.mv (.tmp 19)),none⟩]))) (.ops [⟨(some 20),(.arith .add (.tmp 10) (.const (.int .i64 (.ofNat 1)))),none⟩,⟨(some 10),(.mv (.tmp 20)),none⟩]))))))) (.seq (.ops [⟨(some 21),(.mv (.tmp 5)),none⟩,⟨(some 4),(.mv (.tmp 21)),none⟩]) .ret)))
theorem eachS_ok {bytes:Nat} {z:List AV} {v fv:AV} {L:List (List AV)} {R:AV->SH->Prop} (C:Nat->List AV->List AV->SH->Prop) (h:Src s 1 v L) (h1:L.length≤900000) (h2:bytes≤100000) (hlen:∀ row∈L,row.length=1)
  (hf:∀ (i:Nat) row,L[i]?=some row->∀ x:SH,TriV P K fv [elv false row] (x++s) (fun w s'=>∃ m row',s'=m++(x++s)∧partCells 1 w=some row'∧C i row row' m)) (hR:∀ v' L' o n,Gr 1 v' L' o->AllS C L L' n->R v' (o++(n++s))) :
  WP P K none nt (eachS bytes z) (sl0 0 [v,fv]) [] s (Fin P [.tmp 4] R) (fun _ _ _ _=>False) (Fin P [.tmp 4] R):=by
 unfold eachS
 refine WP.seq (WP.ops (WO.r (.mv rfl) (WO.nil (WP.seq (WP.ops (WO.r (.mv rfl) (WO.nil (WP.seq (WP.seq (WP.ops (WO.r (.mv rfl) (WO.r (.lenS rfl h.lenOf) (WO.r (.mv rfl) (WO.nil (WP.block ?_)))))))))))))))
 refine WP.loop (fun k l ds s'=>ds=[]∧∃ i ov L' o n,k=L.length - i∧i≤L.length∧Gr 1 ov L' o∧AllS C (L.take i) L' n∧s'=o++(n++s) ∧
  ∀ j w,lk [(8,v),(9,.int .i64 (.ofNat L.length)),(10,.int .i64 (.ofNat i)),(5,ov),(1,fv)] j=some w->lk l j=some w) ?_ (n:=L.length - 0) ⟨rfl,0,_,[],[],[],rfl,Nat.zero_le _,.nil,.nil,rfl,sub_cons rfl (sub_cons rfl (sub_cons rfl (sub_cons rfl (sub_cons rfl sub_nil))))⟩
 rintro k l ds s' ⟨rfl,i,ov,L',o,n,rfl,hi,hG,hA,rfl,hl⟩
 refine WP.weak hl (fun _ _ h=>h) ?_
 refine WP.seq (WP.ops (WO.r (.arith rfl rfl rfl) (WO.nil (WP.seq (WP.cond rfl (fun ht=>?_) (fun ht=>?_))))))
 ·have hlt:i < L.length:=blt_iff.1 ht
  obtain⟨b,r,n0,c,sl,ro,M,rfl,hb,hn,hM⟩:=h.at hlt
  have hrow:L[i]?=some L[i]:=List.getElem?_eq_getElem hlt
  have hmem:L[i]∈L:=List.getElem_mem hlt
  have hsz:(L[i]).length=1:=hlen _ hmem
  refine WP.skip (WP.seq (WP.block (WP.seq (WP.ops ?_))))
  refine WO.r (.iaddrS rfl rfl hn (by omega)) (WO.r (.load rfl (.app (.app hb)) (hM.trans hrow) (take_all hsz) (ldv_elv (.inr rfl) hsz)) (WO.r (.mv rfl) (WO.nil (WP.ops ?_))))
  refine WO.r (.mv rfl) (WO.r (.mv rfl) (WO.r (.mv rfl) ?_))
  refine WO.w (WS.call rfl rfl (R':=fun w s'=>∃ m row',s'=m++((o++n)++s)∧partCells 1 w=some row'∧C i L[i] row' m) ?_ ?_)
  ·have:=hf i _ hrow (o++n)
   simp only [List.append_assoc] at this ⊢
   exact this
  ·rintro w _ ⟨m,row',rfl,hw,hCm⟩
   refine WO.a (.bslice (bsrows1 rfl hw) rfl) fun b18=>?_
   have e:(b18,HO.r false [row'] 1)::(m++((o++n)++s))=((b18,HO.r false [row'] 1)::m)++(o++(n++s)):=by simp
   rw [e]
   have hlen':L'.length+1≤901000:=by
    have:=hA.len
    rw [List.length_take,Nat.min_eq_left hi] at this
    omega
   refine WO.w (WS.append_gr rfl hG rfl (Src.all (L:=[row']) (.left .here)) (by omega) hlen' h2 fun v' o' j hG'=>?_)
   refine WO.r (.mv rfl) (WO.nil (WP.ops (WO.r (.arith rfl rfl (add_n (by omega))) (WO.r (.mv rfl) (WO.nil ?_)))))
   refine⟨L.length - (i+1),by omega,rfl,i+1,v',L'++[row'],o',[(b18,HO.r false [row'] 1)]++(m++(j++n)),rfl,hlt,hG',?_,by simp,sub_cons rfl (sub_cons rfl (sub_cons rfl (sub_cons rfl (sub_cons rfl sub_nil))))⟩
   rw [List.take_add_one,hrow]
   exact AllS.snoc (x:=[(b18,HO.r false [row'] 1)]) (y:=j) hA (by rw [List.length_take,Nat.min_eq_left hi];exact hCm)
 ·refine WP.exit ?_
  have hge:¬ i < L.length:=blt_nif.1 ht
  have:i=L.length:=by omega
  subst this
  rw [List.take_length] at hA
  refine WP.seq (WP.ops (WO.r (.mv rfl) (WO.r (.mv rfl) (WO.nil (WP.ret (Fin.mk (.tmp rfl .nil) ?_))))))
  exact hR _ _ _ _ hG hA
end
end Go.Ev
namespace Go.Ev
def zState:List AV:=[(.slice none 0 0 false 0),(.slice none 0 0 false 0),(.slice none 0 0 false 0),(.slice none 0 0 false 0),(.slice none 0 0 false 0),(.slice none 0 0 false 0),(.slice none 0 0 false 0),(.slice none 0 0 false 0),(.slice none 0 0 false 0),(.int .i64 (.ofNat 0)),(.int .i64 (.ofNat 0)),(.int .i64 (.ofNat 0)),(.int .i64 (.ofNat 0)),(.int .i64 (.ofNat 0)),(.int .i64 (.ofNat 0)),(.int .i64 (.ofNat 0)),(.int .i64 (.ofNat 0)),(.int .i64 (.ofNat 0)),(.int .i64 (.ofNat 0)),(.int .i64 (.ofNat 0)),(.int .i64 (.ofNat 0)),(.slice none 0 0 false 0),(.bool false),(.int .i64 (.ofNat 0)),(.int .i64 (.ofNat 0))]
def zObj:List AV:=[(.int .i64 (.ofNat 0)),(.int .i64 (.ofNat 0)),(.int .i64 (.ofNat 0)),(.int .i64 (.ofNat 0)),(.int .i64 (.ofNat 0)),(.bool false),(.bool false),(.bool false),(.int .i64 (.ofNat 0)),(.int .i64 (.ofNat 0)),(.int .i64 (.ofNat 0)),(.int .i64 (.ofNat 0)),(.bool false),(.slice none 0 0 false 0)]
def zEvent:List AV:=[(.int .i64 (.ofNat 0)),(.int .i64 (.ofNat 0)),(.int .i64 (.ofNat 0)),(.int .i64 (.ofNat 0)),(.int .i64 (.ofNat 0)),(.slice none 0 0 false 0),(.int .i64 (.ofNat 0)),(.int .i64 (.ofNat 0)),(.int .i64 (.ofNat 0)),(.int .i64 (.ofNat 0)),(.int .i64 (.ofNat 0)),(.int .i64 (.ofNat 0)),(.slice none 0 0 false 0)]
def zItem:List AV:=[(.int .i64 (.ofNat 0)),(.int .i64 (.ofNat 0)),(.int .i64 (.ofNat 0)),(.int .i64 (.ofNat 0)),(.int .i64 (.ofNat 0)),(.int .i64 (.ofNat 0)),(.slice none 0 0 false 0)]
def zPlayer:List AV:=[(.int .i64 (.ofNat 0)),(.int .i64 (.ofNat 0)),(.int .i64 (.ofNat 0)),(.int .i64 (.ofNat 0)),(.int .i64 (.ofNat 0)),(.bool false),(.bool false),(.bool false)]
def a91 (F:Nat->FuncId) (T:Nat->TypeId):AC:=(.seq (.ops [⟨(some 2),(.box 25 (.tmp 0)),none⟩,⟨(some 3),(.box 1 (.tmp 1)),none⟩,⟨(some 4),(.mv (.const (.int .i64 (.ofNat 0)))),none⟩]) (.seq (.ops [⟨(some 5),(.faddr 1 (.tmp 2)),none⟩,⟨(some 6),(.load false 1 (.tmp 5)),none⟩,⟨(some 7),(.mkfn (F 138) [] [(.tmp 3)]),none⟩,⟨(some 8),(.call (.func (F 106)) [(.tmp 6),(.tmp 7)]),none⟩,⟨(some 4),(.mv (.tmp 8)),none⟩]) .ret))
def a138 (F:Nat->FuncId) (T:Nat->TypeId):AC:=(.seq (.ops [⟨(some 2),(.box 14 (.tmp 0)),none⟩,⟨(some 3),(.mv (.const (.bool false))),none⟩]) (.seq (.ops [⟨(some 4),(.faddr 0 (.tmp 2)),none⟩,⟨(some 5),(.load false 1 (.tmp 4)),none⟩,⟨(some 6),(.load false 1 (.tmp 1)),none⟩,⟨(some 7),(.eql false .pi (.tmp 5) (.tmp 6)),none⟩,⟨(some 3),(.mv (.tmp 7)),none⟩]) .ret))
def a106 (F:Nat->FuncId) (T:Nat->TypeId):AC:=(.seq (.ops [⟨(some 4),(.mv (.const (.int .i64 (.ofNat 0)))),none⟩]) (.seq (.seq (.ops [⟨(some 6),(.mv (.tmp 0)),none⟩,⟨(some 7),(.lenS (.tmp 6)),none⟩,⟨(some 8),(.mv (.const (.int .i64 (.ofNat 0)))),none⟩]) (.block 0 (.loop (.seq (.ops [⟨(some 9),(.arith .lss (.tmp 8) (.tmp 7)),none⟩]) (.seq (.cond (.tmp 9) .skip (.exit 0)) (.seq (.block 1 (.seq (.ops [⟨(some 10),(.mv (.tmp 8)),none⟩,⟨(some 5),(.mv (.tmp 10)),none⟩]) (.seq (.ops [⟨(some 11),(.mv (.tmp 1)),none⟩,⟨(some 12),(.mv (.tmp 0)),none⟩,⟨(some 13),(.mv (.tmp 5)),none⟩,⟨(some 14),(.iaddrS 14 (.tmp 12) (.tmp 13)),none⟩,⟨(some 15),(.load true 14 (.tmp 14)),none⟩,⟨(some 16),(.call (.tmp 11) [(.tmp 15)]),none⟩]) (.cond (.tmp 16) (.seq (.ops [⟨(some 17),(.mv (.tmp 5)),none⟩,⟨(some 4),(.mv (.tmp 17)),none⟩]) .ret) .skip)))) (.ops [⟨(some 18),(.arith .add (.tmp 8) (.const (.int .i64 (.ofNat 1)))),none⟩,⟨(some 8),(.mv (.tmp 18)),none⟩]))))))) (.seq (.ops [⟨(some 4),(.mv (.const (.int .i64 (.negSucc 0)))),none⟩]) .ret)))
def a158 (F:Nat->FuncId) (T:Nat->TypeId):AC:=(.seq (.ops [⟨(some 4),(.mv (.const (.slice none 0 0))),none⟩]) (.seq (.ops [⟨(some 5),(.mv (.const (.slice none 0 0))),none⟩]) (.seq (.seq (.ops [⟨(some 8),(.mv (.tmp 0)),none⟩,⟨(some 9),(.lenS (.tmp 8)),none⟩,⟨(some 10),(.mv (.const (.int .i64 (.ofNat 0)))),none⟩]) (.block 0 (.loop (.seq (.ops [⟨(some 11),(.arith .lss (.tmp 10) (.tmp 9)),none⟩]) (.seq (.cond (.tmp 11) .skip (.exit 0)) (.seq (.block 1 (.seq (.ops [⟨(some 12),(.iaddrS 14 (.tmp 8) (.tmp 10)),none⟩,⟨(some 13),(.load true 14 (.tmp 12)),none⟩,⟨(some 7),(.alloc 14 zObj),none⟩,⟨none,(.store 14 (.tmp 7) (.tmp 13)),none⟩]) (.ops [⟨(some 14),(.mv (.tmp 5)),none⟩,⟨(some 15),(.mv (.tmp 1)),none⟩,⟨(some 16),(.load true 14 (.tmp 7)),none⟩,⟨(some 17),(.call (.tmp 15) [(.tmp 16)]),none⟩,⟨(some 18),(.bslice 14 1 zObj [⟨0,(.tmp 17)⟩]),none⟩,⟨(some 19),(.append 14 112 (.tmp 14) (.tmp 18)),none⟩,⟨(some 5),(.mv (.tmp 19)),none⟩]))) (.ops [⟨(some 20),(.arith .add (.tmp 10) (.const (.int .i64 (.ofNat 1)))),none⟩,⟨(some 10),(.mv (.tmp 20)),none⟩]))))))) (.seq (.ops [⟨(some 21),(.mv (.tmp 5)),none⟩,⟨(some 4),(.mv (.tmp 21)),none⟩]) .ret))))
def a159 (F:Nat->FuncId) (T:Nat->TypeId):AC:=(.seq (.ops [⟨(some 1),(.box 14 (.tmp 0)),none⟩,⟨(some 2),(.alloc 14 zObj),none⟩]) (.seq (.ops [⟨(some 3),(.faddr 13 (.tmp 1)),none⟩,⟨(some 4),(.load false 1 (.tmp 3)),none⟩,⟨(some 5),(.call (.func (F 200)) [(.tmp 4)]),none⟩,⟨(some 6),(.faddr 13 (.tmp 1)),none⟩,⟨none,(.store 1 (.tmp 6) (.tmp 5)),none⟩]) (.seq (.ops [⟨(some 7),(.load true 14 (.tmp 1)),none⟩,⟨none,(.store 14 (.tmp 2) (.tmp 7)),none⟩]) .ret)))
def a160 (F:Nat->FuncId) (T:Nat->TypeId):AC:=(.seq (.ops [⟨(some 4),(.mv (.const (.slice none 0 0))),none⟩]) (.seq (.ops [⟨(some 5),(.mv (.const (.slice none 0 0))),none⟩]) (.seq (.seq (.ops [⟨(some 8),(.mv (.tmp 0)),none⟩,⟨(some 9),(.lenS (.tmp 8)),none⟩,⟨(some 10),(.mv (.const (.int .i64 (.ofNat 0)))),none⟩]) (.block 0 (.loop (.seq (.ops [⟨(some 11),(.arith .lss (.tmp 10) (.tmp 9)),none⟩]) (.seq (.cond (.tmp 11) .skip (.exit 0)) (.seq (.block 1 (.seq (.ops [⟨(some 12),(.iaddrS 1 (.tmp 8) (.tmp 10)),none⟩,⟨(some 13),(.load false 1 (.tmp 12)),none⟩,⟨(some 7),(.mv (.tmp 13)),none⟩]) (.ops [⟨(some 14),(.mv (.tmp 5)),none⟩,⟨(some 15),(.mv (.tmp 1)),none⟩,⟨(some 16),(.mv (.tmp 7)),none⟩,⟨(some 17),(.call (.tmp 15) [(.tmp 16)]),none⟩,⟨(some 18),(.bslice 1 1 [(.slice none 0 0 false 0)] [⟨0,(.tmp 17)⟩]),none⟩,⟨(some 19),(.append 1 24 (.tmp 14) (.tmp 18)),none⟩,⟨(some 5),(.mv (.tmp 19)),none⟩]))) (.ops [⟨(some 20),(.arith .add (.tmp 10) (.const (.int .i64 (.ofNat 1)))),none⟩,⟨(some 10),(.mv (.tmp 20)),none⟩]))))))) (.seq (.ops [⟨(some 21),(.mv (.tmp 5)),none⟩,⟨(some 4),(.mv (.tmp 21)),none⟩]) .ret))))
def a161 (F:Nat->FuncId) (T:Nat->TypeId):AC:=(.seq (.ops [⟨(some 4),(.mv (.const (.slice none 0 0))),none⟩]) (.seq (.ops [⟨(some 5),(.mv (.const (.slice none 0 0))),none⟩]) (.seq (.seq (.ops [⟨(some 8),(.mv (.tmp 0)),none⟩,⟨(some 9),(.lenS (.tmp 8)),none⟩,⟨(some 10),(.mv (.const (.int .i64 (.ofNat 0)))),none⟩]) (.block 0 (.loop (.seq (.ops [⟨(some 11),(.arith .lss (.tmp 10) (.tmp 9)),none⟩]) (.seq (.cond (.tmp 11) .skip (.exit 0)) (.seq (.block 1 (.seq (.ops [⟨(some 12),(.iaddrS 7 (.tmp 8) (.tmp 10)),none⟩,⟨(some 13),(.load true 7 (.tmp 12)),none⟩,⟨(some 7),(.alloc 7 zItem),none⟩,⟨none,(.store 7 (.tmp 7) (.tmp 13)),none⟩]) (.ops [⟨(some 14),(.mv (.tmp 5)),none⟩,⟨(some 15),(.mv (.tmp 1)),none⟩,⟨(some 16),(.load true 7 (.tmp 7)),none⟩,⟨(some 17),(.call (.tmp 15) [(.tmp 16)]),none⟩,⟨(some 18),(.bslice 7 1 zItem [⟨0,(.tmp 17)⟩]),none⟩,⟨(some 19),(.append 7 72 (.tmp 14) (.tmp 18)),none⟩,⟨(some 5),(.mv (.tmp 19)),none⟩]))) (.ops [⟨(some 20),(.arith .add (.tmp 10) (.const (.int .i64 (.ofNat 1)))),none⟩,⟨(some 10),(.mv (.tmp 20)),none⟩]))))))) (.seq (.ops [⟨(some 21),(.mv (.tmp 5)),none⟩,⟨(some 4),(.mv (.tmp 21)),none⟩]) .ret))))
def a162 (F:Nat->FuncId) (T:Nat->TypeId):AC:=(.seq (.ops [⟨(some 1),(.box 7 (.tmp 0)),none⟩,⟨(some 2),(.alloc 7 zItem),none⟩]) (.seq (.ops [⟨(some 3),(.faddr 6 (.tmp 1)),none⟩,⟨(some 4),(.load false 1 (.tmp 3)),none⟩,⟨(some 5),(.call (.func (F 163)) [(.tmp 4)]),none⟩,⟨(some 6),(.faddr 6 (.tmp 1)),none⟩,⟨none,(.store 1 (.tmp 6) (.tmp 5)),none⟩]) (.seq (.ops [⟨(some 7),(.load true 7 (.tmp 1)),none⟩,⟨none,(.store 7 (.tmp 2) (.tmp 7)),none⟩]) .ret)))
def a51 (F:Nat->FuncId) (T:Nat->TypeId):AC:=(.seq (.ops [⟨(some 2),(.mv (.const (.slice none 0 0))),none⟩]) (.seq (.seq (.ops [⟨(some 3),(.mv (.tmp 0)),none⟩,⟨(some 4),(.eql false .nls (.tmp 3) (.const (.slice none 0 0))),none⟩]) (.cond (.tmp 4) (.seq (.ops [⟨(some 2),(.mv (.const (.slice none 0 0))),none⟩]) .ret) .skip)) (.seq (.ops [⟨(some 5),(.bslice 1 0 [(.int .i64 (.ofNat 0))] []),none⟩,⟨(some 6),(.mv (.tmp 0)),none⟩,⟨(some 7),(.append 1 8 (.tmp 5) (.tmp 6)),none⟩,⟨(some 2),(.mv (.tmp 7)),none⟩]) .ret)))
def a157 (F:Nat->FuncId) (T:Nat->TypeId):AC:=(.seq (.ops [⟨(some 2),(.mv (.const (.slice none 0 0))),none⟩]) (.seq (.seq (.ops [⟨(some 3),(.mv (.tmp 0)),none⟩,⟨(some 4),(.eql false .nls (.tmp 3) (.const (.slice none 0 0))),none⟩]) (.cond (.tmp 4) (.seq (.ops [⟨(some 2),(.mv (.const (.slice none 0 0))),none⟩]) .ret) .skip)) (.seq (.ops [⟨(some 5),(.bslice 8 0 zPlayer []),none⟩,⟨(some 6),(.mv (.tmp 0)),none⟩,⟨(some 7),(.append 8 48 (.tmp 5) (.tmp 6)),none⟩,⟨(some 2),(.mv (.tmp 7)),none⟩]) .ret)))
def a163 (F:Nat->FuncId) (T:Nat->TypeId):AC:=(.seq (.ops [⟨(some 2),(.mv (.const (.slice none 0 0))),none⟩]) (.seq (.seq (.ops [⟨(some 3),(.mv (.tmp 0)),none⟩,⟨(some 4),(.eql false .nls (.tmp 3) (.const (.slice none 0 0))),none⟩]) (.cond (.tmp 4) (.seq (.ops [⟨(some 2),(.mv (.const (.slice none 0 0))),none⟩]) .ret) .skip)) (.seq (.ops [⟨(some 5),(.bslice 2 0 [(.int .i64 (.ofNat 0)),(.int .i64 (.ofNat 0))] []),none⟩,⟨(some 6),(.mv (.tmp 0)),none⟩,⟨(some 7),(.append 2 16 (.tmp 5) (.tmp 6)),none⟩,⟨(some 2),(.mv (.tmp 7)),none⟩]) .ret)))
def a200 (F:Nat->FuncId) (T:Nat->TypeId):AC:=(.seq (.ops [⟨(some 2),(.mv (.const (.slice none 0 0))),none⟩]) (.seq (.seq (.ops [⟨(some 3),(.mv (.tmp 0)),none⟩,⟨(some 4),(.eql false .nls (.tmp 3) (.const (.slice none 0 0))),none⟩]) (.cond (.tmp 4) (.seq (.ops [⟨(some 2),(.mv (.const (.slice none 0 0))),none⟩]) .ret) .skip)) (.seq (.ops [⟨(some 5),(.bslice 4 0 [(.int .i64 (.ofNat 0)),(.int .i64 (.ofNat 0)),(.int .i64 (.ofNat 0)),(.int .i64 (.ofNat 0))] []),none⟩,⟨(some 6),(.mv (.tmp 0)),none⟩,⟨(some 7),(.append 4 32 (.tmp 5) (.tmp 6)),none⟩,⟨(some 2),(.mv (.tmp 7)),none⟩]) .ret)))
def a107 (F:Nat->FuncId) (T:Nat->TypeId):AC:=(.seq (.ops [⟨(some 1),(.box 25 (.tmp 0)),none⟩,⟨(some 2),(.alloc 25 zState),none⟩]) (.seq (.ops [⟨(some 3),(.faddr 0 (.tmp 1)),none⟩,⟨(some 4),(.load false 1 (.tmp 3)),none⟩,⟨(some 5),(.call (.func (F 157)) [(.tmp 4)]),none⟩,⟨(some 6),(.faddr 0 (.tmp 1)),none⟩,⟨none,(.store 1 (.tmp 6) (.tmp 5)),none⟩]) (.seq (.ops [⟨(some 7),(.faddr 1 (.tmp 1)),none⟩,⟨(some 8),(.load false 1 (.tmp 7)),none⟩,⟨(some 9),(.call (.func (F 158)) [(.tmp 8),(.func (F 159))]),none⟩,⟨(some 10),(.faddr 1 (.tmp 1)),none⟩,⟨none,(.store 1 (.tmp 10) (.tmp 9)),none⟩]) (.seq (.drawn 0 [⟨⟨(some 11),(.faddr 2 (.tmp 1)),none⟩,.pure,0,0,0⟩,⟨⟨(some 12),(.load false 1 (.tmp 11)),none⟩,.read,0,0,1⟩,⟨⟨(some 13),(.call (.func (F 160)) [(.tmp 12),(.func (F 51))]),none⟩,.chain,0,0,3⟩,⟨⟨(some 14),(.faddr 3 (.tmp 1)),none⟩,.pure,0,0,0⟩,⟨⟨(some 15),(.load false 1 (.tmp 14)),none⟩,.read,0,1,8⟩,⟨⟨(some 16),(.call (.func (F 160)) [(.tmp 15),(.func (F 51))]),none⟩,.chain,0,0,31⟩,⟨⟨(some 17),(.faddr 2 (.tmp 1)),none⟩,.pure,0,0,31⟩,⟨⟨none,(.store 1 (.tmp 17) (.tmp 13)),none⟩,.chain,0,0,127⟩,⟨⟨(some 18),(.faddr 3 (.tmp 1)),none⟩,.pure,0,0,255⟩,⟨⟨none,(.store 1 (.tmp 18) (.tmp 16)),none⟩,.chain,0,0,511⟩]) (.seq (.drawn 0 [⟨⟨(some 19),(.faddr 4 (.tmp 1)),none⟩,.pure,0,0,0⟩,⟨⟨(some 20),(.load false 1 (.tmp 19)),none⟩,.read,0,0,1⟩,⟨⟨(some 21),(.call (.func (F 160)) [(.tmp 20),(.func (F 51))]),none⟩,.chain,0,0,3⟩,⟨⟨(some 22),(.faddr 5 (.tmp 1)),none⟩,.pure,0,0,0⟩,⟨⟨(some 23),(.load false 1 (.tmp 22)),none⟩,.read,0,1,8⟩,⟨⟨(some 24),(.call (.func (F 160)) [(.tmp 23),(.func (F 51))]),none⟩,.chain,0,0,31⟩,⟨⟨(some 25),(.faddr 4 (.tmp 1)),none⟩,.pure,0,0,31⟩,⟨⟨none,(.store 1 (.tmp 25) (.tmp 21)),none⟩,.chain,0,0,127⟩,⟨⟨(some 26),(.faddr 5 (.tmp 1)),none⟩,.pure,0,0,255⟩,⟨⟨none,(.store 1 (.tmp 26) (.tmp 24)),none⟩,.chain,0,0,511⟩]) (.seq (.ops [⟨(some 27),(.faddr 6 (.tmp 1)),none⟩,⟨(some 28),(.load false 1 (.tmp 27)),none⟩,⟨(some 29),(.call (.func (F 51)) [(.tmp 28)]),none⟩,⟨(some 30),(.faddr 6 (.tmp 1)),none⟩,⟨none,(.store 1 (.tmp 30) (.tmp 29)),none⟩]) (.seq (.drawn 0 [⟨⟨(some 31),(.faddr 7 (.tmp 1)),none⟩,.pure,0,0,0⟩,⟨⟨(some 32),(.load false 1 (.tmp 31)),none⟩,.read,0,0,1⟩,⟨⟨(some 33),(.call (.func (F 161)) [(.tmp 32),(.func (F 162))]),none⟩,.chain,0,0,3⟩,⟨⟨(some 34),(.faddr 8 (.tmp 1)),none⟩,.pure,0,0,0⟩,⟨⟨(some 35),(.load false 1 (.tmp 34)),none⟩,.read,0,1,8⟩,⟨⟨(some 36),(.call (.func (F 161)) [(.tmp 35),(.func (F 162))]),none⟩,.chain,0,0,31⟩,⟨⟨(some 37),(.faddr 7 (.tmp 1)),none⟩,.pure,0,0,31⟩,⟨⟨none,(.store 1 (.tmp 37) (.tmp 33)),none⟩,.chain,0,0,127⟩,⟨⟨(some 38),(.faddr 8 (.tmp 1)),none⟩,.pure,0,0,255⟩,⟨⟨none,(.store 1 (.tmp 38) (.tmp 36)),none⟩,.chain,0,0,511⟩]) (.seq (.ops [⟨(some 39),(.faddr 18 (.tmp 1)),none⟩,⟨(some 40),(.faddr 3 (.tmp 39)),none⟩,⟨(some 41),(.load false 1 (.tmp 40)),none⟩,⟨(some 42),(.call (.func (F 163)) [(.tmp 41)]),none⟩,⟨(some 43),(.faddr 18 (.tmp 1)),none⟩,⟨(some 44),(.faddr 3 (.tmp 43)),none⟩,⟨none,(.store 1 (.tmp 44) (.tmp 42)),none⟩]) (.seq (.ops [⟨(some 45),(.load true 25 (.tmp 1)),none⟩,⟨none,(.store 25 (.tmp 2) (.tmp 45)),none⟩]) .ret)))))))))
def a105 (F:Nat->FuncId) (T:Nat->TypeId):AC:=(.seq (.ops [⟨(some 4),(.box 14 (.tmp 1)),none⟩]) (.seq (.ops [⟨(some 7),(.mv (.tmp 0)),none⟩,⟨(some 8),(.nilchk (.tmp 7)),none⟩,⟨(some 9),(.faddr 0 (.tmp 8)),none⟩,⟨(some 10),(.faddr 15 (.tmp 9)),none⟩,⟨(some 11),(.load false 1 (.tmp 10)),none⟩,⟨(some 12),(.faddr 0 (.tmp 4)),none⟩,⟨none,(.store 1 (.tmp 12) (.tmp 11)),none⟩]) (.seq (.ops [⟨(some 13),(.mv (.tmp 0)),none⟩,⟨(some 14),(.nilchk (.tmp 13)),none⟩,⟨(some 15),(.faddr 0 (.tmp 14)),none⟩,⟨(some 16),(.faddr 15 (.tmp 15)),none⟩,⟨(some 17),(.load false 1 (.tmp 16)),none⟩,⟨(some 18),(.arith .add (.tmp 17) (.const (.int .i64 (.ofNat 1)))),none⟩,⟨(some 19),(.nilchk (.tmp 13)),none⟩,⟨(some 20),(.faddr 0 (.tmp 19)),none⟩,⟨(some 21),(.faddr 15 (.tmp 20)),none⟩,⟨none,(.store 1 (.tmp 21) (.tmp 18)),none⟩]) (.seq (.seq (.ops [⟨(some 22),(.faddr 4 (.tmp 4)),none⟩,⟨(some 23),(.load false 1 (.tmp 22)),none⟩,⟨(some 24),(.eql false .pi (.tmp 23) (.const (.int .i64 (.ofNat 2)))),none⟩]) (.cond (.tmp 24) (.seq (.drawn 0 [⟨⟨(some 25),(.mv (.tmp 0)),none⟩,.pure,0,0,0⟩,⟨⟨(some 26),(.nilchk (.tmp 25)),none⟩,.pure,0,0,1⟩,⟨⟨(some 27),(.faddr 0 (.tmp 26)),none⟩,.pure,0,0,3⟩,⟨⟨(some 28),(.faddr 16 (.tmp 27)),none⟩,.pure,0,0,7⟩,⟨⟨(some 29),(.load false 1 (.tmp 28)),none⟩,.read,0,1,15⟩,⟨⟨(some 30),(.faddr 6 (.tmp 4)),none⟩,.pure,0,0,0⟩,⟨⟨none,(.store 1 (.tmp 30) (.const (.bool true))),none⟩,.chain,0,0,32⟩,⟨⟨(some 31),(.faddr 9 (.tmp 4)),none⟩,.pure,0,0,127⟩,⟨⟨none,(.store 1 (.tmp 31) (.tmp 29)),none⟩,.chain,0,0,255⟩]) (.ops [⟨(some 32),(.mv (.tmp 0)),none⟩,⟨(some 33),(.nilchk (.tmp 32)),none⟩,⟨(some 34),(.faddr 0 (.tmp 33)),none⟩,⟨(some 35),(.faddr 16 (.tmp 34)),none⟩,⟨(some 36),(.load false 1 (.tmp 35)),none⟩,⟨(some 37),(.arith .add (.tmp 36) (.const (.int .i64 (.ofNat 1)))),none⟩,⟨(some 38),(.nilchk (.tmp 32)),none⟩,⟨(some 39),(.faddr 0 (.tmp 38)),none⟩,⟨(some 40),(.faddr 16 (.tmp 39)),none⟩,⟨none,(.store 1 (.tmp 40) (.tmp 37)),none⟩])) .skip)) (.seq (.drawn 1 [⟨⟨(some 41),(.mv (.tmp 0)),none⟩,.pure,0,0,0⟩,⟨⟨(some 42),(.mv (.tmp 0)),none⟩,.pure,0,0,0⟩,⟨⟨(some 43),(.nilchk (.tmp 42)),none⟩,.pure,0,0,2⟩,⟨⟨(some 44),(.faddr 0 (.tmp 43)),none⟩,.pure,0,0,6⟩,⟨⟨(some 45),(.faddr 1 (.tmp 44)),none⟩,.pure,0,0,14⟩,⟨⟨(some 46),(.load false 1 (.tmp 45)),none⟩,.read,0,0,30⟩,⟨⟨(some 47),(.load true 14 (.tmp 4)),none⟩,.read,0,0,0⟩,⟨⟨(some 48),(.bslice 14 1 zObj [⟨0,(.tmp 47)⟩]),none⟩,.dalloc,0,0,64⟩,⟨⟨(some 49),(.append 14 112 (.tmp 46) (.tmp 48)),none⟩,.chain,0,0,254⟩,⟨⟨(some 50),(.nilchk (.tmp 41)),none⟩,.pure,0,0,511⟩,⟨⟨(some 51),(.faddr 0 (.tmp 50)),none⟩,.pure,0,0,1023⟩,⟨⟨(some 52),(.faddr 1 (.tmp 51)),none⟩,.pure,0,0,2047⟩,⟨⟨none,(.store 1 (.tmp 52) (.tmp 49)),none⟩,.chain,0,0,4095⟩]) (.seq (.ops [⟨(some 53),(.mv (.tmp 0)),none⟩,⟨(some 54),(.faddr 4 (.tmp 4)),none⟩,⟨(some 55),(.load false 1 (.tmp 54)),none⟩,⟨(some 56),(.faddr 2 (.tmp 4)),none⟩,⟨(some 57),(.load false 1 (.tmp 56)),none⟩,⟨(some 58),(.call (.func (F 136)) [(.tmp 53),(.tmp 55),(.tmp 57)]),none⟩,⟨(some 6),(.mv (.tmp 58)),none⟩]) (.block 0 (.seq (.ops [⟨(some 69),(.mv (.tmp 6)),none⟩,⟨(some 70),(.eql false .ptr (.tmp 69) (.const (.pointer none))),none⟩,⟨(some 68),(.mv (.tmp 70)),none⟩]) (.cond (.tmp 68) .skip (.seq (.ops [⟨(some 72),(.mv (.tmp 2)),none⟩,⟨(some 71),(.mv (.tmp 72)),none⟩]) (.cond (.tmp 71) (.drawn 1 [⟨⟨(some 73),(.mv (.tmp 6)),none⟩,.pure,0,0,0⟩,⟨⟨(some 74),(.mv (.tmp 6)),none⟩,.pure,0,0,0⟩,⟨⟨(some 75),(.nilchk (.tmp 74)),none⟩,.pure,0,0,2⟩,⟨⟨(some 76),(.load false 1 (.tmp 75)),none⟩,.read,0,0,6⟩,⟨⟨(some 77),(.faddr 0 (.tmp 4)),none⟩,.pure,0,0,0⟩,⟨⟨(some 78),(.load false 1 (.tmp 77)),none⟩,.read,0,0,16⟩,⟨⟨(some 79),(.bslice 1 1 [(.int .i64 (.ofNat 0))] [⟨0,(.tmp 78)⟩]),none⟩,.dalloc,0,0,48⟩,⟨⟨(some 80),(.call (.func (F 156)) [(.tmp 76),(.const (.int .i64 (.ofNat 0))),(.tmp 79)]),none⟩,.chain,0,0,126⟩,⟨⟨(some 81),(.nilchk (.tmp 73)),none⟩,.pure,0,0,255⟩,⟨⟨none,(.store 1 (.tmp 81) (.tmp 80)),none⟩,.chain,0,0,511⟩]) (.drawn 1 [⟨⟨(some 59),(.mv (.tmp 6)),none⟩,.pure,0,0,0⟩,⟨⟨(some 60),(.mv (.tmp 6)),none⟩,.pure,0,0,0⟩,⟨⟨(some 61),(.nilchk (.tmp 60)),none⟩,.pure,0,0,2⟩,⟨⟨(some 62),(.load false 1 (.tmp 61)),none⟩,.read,0,0,6⟩,⟨⟨(some 63),(.faddr 0 (.tmp 4)),none⟩,.pure,0,0,0⟩,⟨⟨(some 64),(.load false 1 (.tmp 63)),none⟩,.read,0,0,16⟩,⟨⟨(some 65),(.bslice 1 1 [(.int .i64 (.ofNat 0))] [⟨0,(.tmp 64)⟩]),none⟩,.dalloc,0,0,48⟩,⟨⟨(some 66),(.append 1 8 (.tmp 62) (.tmp 65)),none⟩,.chain,0,0,126⟩,⟨⟨(some 67),(.nilchk (.tmp 59)),none⟩,.pure,0,0,255⟩,⟨⟨none,(.store 1 (.tmp 67) (.tmp 66)),none⟩,.chain,0,0,511⟩]))))))))))))
def a136 (F:Nat->FuncId) (T:Nat->TypeId):AC:=(.seq (.ops [⟨(some 6),(.mv (.const (.pointer none))),none⟩]) (.seq (.seq (.ops [⟨(some 7),(.mv (.tmp 1)),none⟩,⟨(some 8),(.eql false .pi (.tmp 7) (.const (.int .i64 (.ofNat 2)))),none⟩]) (.cond (.tmp 8) (.seq (.ops [⟨(some 9),(.mv (.tmp 0)),none⟩,⟨(some 10),(.nilchk (.tmp 9)),none⟩,⟨(some 11),(.faddr 0 (.tmp 10)),none⟩,⟨(some 12),(.faddr 6 (.tmp 11)),none⟩,⟨(some 6),(.mv (.tmp 12)),none⟩]) .ret) .skip)) (.seq (.seq (.ops [⟨(some 13),(.mv (.tmp 2)),none⟩,⟨(some 14),(.arith .lss (.tmp 13) (.const (.int .i64 (.ofNat 0)))),none⟩,⟨(some 15),(.mv (.tmp 14)),none⟩,⟨(some 16),(.mv (.tmp 2)),(some ⟨15,false⟩)⟩,⟨(some 17),(.mv (.tmp 0)),(some ⟨15,false⟩)⟩,⟨(some 18),(.nilchk (.tmp 17)),(some ⟨15,false⟩)⟩,⟨(some 19),(.faddr 0 (.tmp 18)),(some ⟨15,false⟩)⟩,⟨(some 20),(.faddr 0 (.tmp 19)),(some ⟨15,false⟩)⟩,⟨(some 21),(.load false 1 (.tmp 20)),(some ⟨15,false⟩)⟩,⟨(some 22),(.lenS (.tmp 21)),(some ⟨15,false⟩)⟩,⟨(some 23),(.arith .geq (.tmp 16) (.tmp 22)),(some ⟨15,false⟩)⟩,⟨(some 24),(.pick (.tmp 15) (.const (.bool true)) (.tmp 23)),none⟩,⟨(some 25),(.mv (.tmp 24)),none⟩,⟨(some 26),(.mv (.tmp 0)),(some ⟨25,false⟩)⟩,⟨(some 27),(.nilchk (.tmp 26)),(some ⟨25,false⟩)⟩,⟨(some 28),(.faddr 0 (.tmp 27)),(some ⟨25,false⟩)⟩,⟨(some 29),(.load true 25 (.tmp 28)),(some ⟨25,false⟩)⟩,⟨(some 30),(.call (.func (F 137)) [(.tmp 29)]),(some ⟨25,false⟩)⟩,⟨(some 31),(.un .not (.tmp 30)),(some ⟨25,false⟩)⟩,⟨(some 32),(.pick (.tmp 25) (.const (.bool true)) (.tmp 31)),none⟩]) (.cond (.tmp 32) (.seq (.ops [⟨(some 6),(.mv (.const (.pointer none))),none⟩]) .ret) .skip)) (.seq (.seq (.ops [⟨(some 33),(.mv (.tmp 1)),none⟩]) (.block 0 (.seq (.ops [⟨(some 35),(.eql false .pi (.tmp 33) (.const (.int .i64 (.ofNat 0)))),none⟩,⟨(some 34),(.mv (.tmp 35)),none⟩]) (.cond (.tmp 34) (.seq (.ops [⟨(some 36),(.mv (.tmp 0)),none⟩,⟨(some 37),(.nilchk (.tmp 36)),none⟩,⟨(some 38),(.faddr 0 (.tmp 37)),none⟩,⟨(some 39),(.faddr 2 (.tmp 38)),none⟩,⟨(some 40),(.load false 1 (.tmp 39)),none⟩,⟨(some 41),(.mv (.tmp 2)),none⟩,⟨(some 42),(.iaddrS 1 (.tmp 40) (.tmp 41)),none⟩,⟨(some 6),(.mv (.tmp 42)),none⟩]) .ret) (.seq (.ops [⟨(some 44),(.eql false .pi (.tmp 33) (.const (.int .i64 (.ofNat 1)))),none⟩,⟨(some 43),(.mv (.tmp 44)),none⟩]) (.cond (.tmp 43) (.seq (.ops [⟨(some 45),(.mv (.tmp 0)),none⟩,⟨(some 46),(.nilchk (.tmp 45)),none⟩,⟨(some 47),(.faddr 0 (.tmp 46)),none⟩,⟨(some 48),(.faddr 3 (.tmp 47)),none⟩,⟨(some 49),(.load false 1 (.tmp 48)),none⟩,⟨(some 50),(.mv (.tmp 2)),none⟩,⟨(some 51),(.iaddrS 1 (.tmp 49) (.tmp 50)),none⟩,⟨(some 6),(.mv (.tmp 51)),none⟩]) .ret) (.seq (.ops [⟨(some 53),(.eql false .pi (.tmp 33) (.const (.int .i64 (.ofNat 3)))),none⟩,⟨(some 52),(.mv (.tmp 53)),none⟩]) (.cond (.tmp 52) (.seq (.ops [⟨(some 54),(.mv (.tmp 0)),none⟩,⟨(some 55),(.nilchk (.tmp 54)),none⟩,⟨(some 56),(.faddr 0 (.tmp 55)),none⟩,⟨(some 57),(.faddr 4 (.tmp 56)),none⟩,⟨(some 58),(.load false 1 (.tmp 57)),none⟩,⟨(some 59),(.mv (.tmp 2)),none⟩,⟨(some 60),(.iaddrS 1 (.tmp 58) (.tmp 59)),none⟩,⟨(some 6),(.mv (.tmp 60)),none⟩]) .ret) (.seq (.ops [⟨(some 62),(.eql false .pi (.tmp 33) (.const (.int .i64 (.ofNat 4)))),none⟩,⟨(some 61),(.mv (.tmp 62)),none⟩]) (.cond (.tmp 61) (.seq (.ops [⟨(some 63),(.mv (.tmp 0)),none⟩,⟨(some 64),(.nilchk (.tmp 63)),none⟩,⟨(some 65),(.faddr 0 (.tmp 64)),none⟩,⟨(some 66),(.faddr 5 (.tmp 65)),none⟩,⟨(some 67),(.load false 1 (.tmp 66)),none⟩,⟨(some 68),(.mv (.tmp 2)),none⟩,⟨(some 69),(.iaddrS 1 (.tmp 67) (.tmp 68)),none⟩,⟨(some 6),(.mv (.tmp 69)),none⟩]) .ret) .skip)))))))))) (.seq (.ops [⟨(some 6),(.mv (.const (.pointer none))),none⟩]) .ret)))))
def a137 (F:Nat->FuncId) (T:Nat->TypeId):AC:=(.seq (.ops [⟨(some 1),(.box 25 (.tmp 0)),none⟩,⟨(some 2),(.mv (.const (.bool false))),none⟩]) (.seq (.ops [⟨(some 4),(.faddr 0 (.tmp 1)),none⟩,⟨(some 5),(.load false 1 (.tmp 4)),none⟩,⟨(some 6),(.lenS (.tmp 5)),none⟩,⟨(some 3),(.mv (.tmp 6)),none⟩]) (.seq (.ops [⟨(some 7),(.faddr 2 (.tmp 1)),none⟩,⟨(some 8),(.load false 1 (.tmp 7)),none⟩,⟨(some 9),(.lenS (.tmp 8)),none⟩,⟨(some 10),(.mv (.tmp 3)),none⟩,⟨(some 11),(.eql false .pi (.tmp 9) (.tmp 10)),none⟩,⟨(some 12),(.mv (.tmp 11)),none⟩,⟨(some 13),(.faddr 3 (.tmp 1)),(some ⟨12,true⟩)⟩,⟨(some 14),(.load false 1 (.tmp 13)),(some ⟨12,true⟩)⟩,⟨(some 15),(.lenS (.tmp 14)),(some ⟨12,true⟩)⟩,⟨(some 16),(.mv (.tmp 3)),(some ⟨12,true⟩)⟩,⟨(some 17),(.eql false .pi (.tmp 15) (.tmp 16)),(some ⟨12,true⟩)⟩,⟨(some 18),(.pick (.tmp 12) (.tmp 17) (.const (.bool false))),none⟩,⟨(some 19),(.mv (.tmp 18)),none⟩,⟨(some 20),(.faddr 4 (.tmp 1)),(some ⟨19,true⟩)⟩,⟨(some 21),(.load false 1 (.tmp 20)),(some ⟨19,true⟩)⟩,⟨(some 22),(.lenS (.tmp 21)),(some ⟨19,true⟩)⟩,⟨(some 23),(.mv (.tmp 3)),(some ⟨19,true⟩)⟩,⟨(some 24),(.eql false .pi (.tmp 22) (.tmp 23)),(some ⟨19,true⟩)⟩,⟨(some 25),(.pick (.tmp 19) (.tmp 24) (.const (.bool false))),none⟩,⟨(some 26),(.mv (.tmp 25)),none⟩,⟨(some 27),(.faddr 5 (.tmp 1)),(some ⟨26,true⟩)⟩,⟨(some 28),(.load false 1 (.tmp 27)),(some ⟨26,true⟩)⟩,⟨(some 29),(.lenS (.tmp 28)),(some ⟨26,true⟩)⟩,⟨(some 30),(.mv (.tmp 3)),(some ⟨26,true⟩)⟩,⟨(some 31),(.eql false .pi (.tmp 29) (.tmp 30)),(some ⟨26,true⟩)⟩,⟨(some 32),(.pick (.tmp 26) (.tmp 31) (.const (.bool false))),none⟩,⟨(some 2),(.mv (.tmp 32)),none⟩]) .ret)))
def a262 (F:Nat->FuncId) (T:Nat->TypeId):AC:=(.seq (.ops [⟨(some 3),(.box 1 (.tmp 1)),none⟩,⟨(some 4),(.alloc 14 zObj),none⟩]) (.seq (.drawn 0 [⟨⟨(some 12),(.mv (.tmp 0)),none⟩,.pure,0,0,0⟩,⟨⟨(some 13),(.nilchk (.tmp 12)),none⟩,.pure,0,0,1⟩,⟨⟨(some 14),(.faddr 0 (.tmp 13)),none⟩,.pure,0,0,3⟩,⟨⟨(some 15),(.load true 25 (.tmp 14)),none⟩,.read,0,0,7⟩,⟨⟨(some 16),(.load false 1 (.tmp 3)),none⟩,.read,0,0,0⟩,⟨⟨(some 17),(.call (.func (F 91)) [(.tmp 15),(.tmp 16)]),none⟩,.chain,0,0,31⟩,⟨⟨(some 5),(.mv (.tmp 17)),none⟩,.pure,0,0,63⟩]) (.seq (.ops [⟨(some 18),(.mv (.tmp 0)),none⟩,⟨(some 19),(.nilchk (.tmp 18)),none⟩,⟨(some 20),(.faddr 0 (.tmp 19)),none⟩,⟨(some 21),(.faddr 1 (.tmp 20)),none⟩,⟨(some 22),(.load false 1 (.tmp 21)),none⟩,⟨(some 23),(.mv (.tmp 5)),none⟩,⟨(some 24),(.iaddrS 14 (.tmp 22) (.tmp 23)),none⟩,⟨(some 25),(.load true 14 (.tmp 24)),none⟩,⟨(some 6),(.alloc 14 zObj),none⟩,⟨none,(.store 14 (.tmp 6) (.tmp 25)),none⟩]) (.seq (.seq (.ops [⟨(some 26),(.mv (.tmp 0)),none⟩,⟨(some 27),(.faddr 4 (.tmp 6)),none⟩,⟨(some 28),(.load false 1 (.tmp 27)),none⟩,⟨(some 29),(.faddr 2 (.tmp 6)),none⟩,⟨(some 30),(.load false 1 (.tmp 29)),none⟩,⟨(some 31),(.call (.func (F 136)) [(.tmp 26),(.tmp 28),(.tmp 30)]),none⟩,⟨(some 7),(.mv (.tmp 31)),none⟩]) (.seq (.ops [⟨(some 32),(.mv (.tmp 7)),none⟩,⟨(some 33),(.eql true .ptr (.tmp 32) (.const (.pointer none))),none⟩]) (.cond (.tmp 33) (.ops [⟨(some 34),(.mv (.tmp 7)),none⟩,⟨(some 35),(.mv (.tmp 7)),none⟩,⟨(some 36),(.nilchk (.tmp 35)),none⟩,⟨(some 37),(.load false 1 (.tmp 36)),none⟩,⟨(some 38),(.mkfn (F 293) [] [(.tmp 3)]),none⟩,⟨(some 39),(.call (.func (F 292)) [(.tmp 37),(.tmp 38)]),none⟩,⟨(some 40),(.nilchk (.tmp 34)),none⟩,⟨none,(.store 1 (.tmp 40) (.tmp 39)),none⟩]) .skip))) (.seq (.ops [⟨(some 41),(.mv (.tmp 0)),none⟩,⟨(some 42),(.mv (.tmp 0)),none⟩,⟨(some 43),(.nilchk (.tmp 42)),none⟩,⟨(some 44),(.faddr 0 (.tmp 43)),none⟩,⟨(some 45),(.faddr 1 (.tmp 44)),none⟩,⟨(some 46),(.load false 1 (.tmp 45)),none⟩,⟨(some 47),(.mv (.tmp 5)),none⟩,⟨(some 48),(.mv (.tmp 5)),none⟩,⟨(some 49),(.arith .add (.tmp 48) (.const (.int .i64 (.ofNat 1)))),none⟩,⟨(some 50),(.call (.func (F 294)) [(.tmp 46),(.tmp 47),(.tmp 49)]),none⟩,⟨(some 51),(.nilchk (.tmp 41)),none⟩,⟨(some 52),(.faddr 0 (.tmp 51)),none⟩,⟨(some 53),(.faddr 1 (.tmp 52)),none⟩,⟨none,(.store 1 (.tmp 53) (.tmp 50)),none⟩]) (.seq (.seq (.ops [⟨(some 54),(.mv (.tmp 0)),none⟩,⟨(some 55),(.nilchk (.tmp 54)),none⟩,⟨(some 56),(.faddr 0 (.tmp 55)),none⟩,⟨(some 57),(.faddr 1 (.tmp 56)),none⟩,⟨(some 58),(.load false 1 (.tmp 57)),none⟩,⟨(some 59),(.lenS (.tmp 58)),none⟩,⟨(some 60),(.mv (.const (.int .i64 (.ofNat 0)))),none⟩]) (.block 0 (.loop (.seq (.ops [⟨(some 61),(.arith .lss (.tmp 60) (.tmp 59)),none⟩]) (.seq (.cond (.tmp 61) .skip (.exit 0)) (.seq (.block 1 (.seq (.ops [⟨(some 62),(.mv (.tmp 60)),none⟩,⟨(some 8),(.mv (.tmp 62)),none⟩]) (.seq (.drawn 0 [⟨⟨(some 63),(.mv (.tmp 0)),none⟩,.pure,0,0,0⟩,⟨⟨(some 64),(.nilchk (.tmp 63)),none⟩,.pure,0,0,1⟩,⟨⟨(some 65),(.faddr 0 (.tmp 64)),none⟩,.pure,0,0,3⟩,⟨⟨(some 66),(.faddr 1 (.tmp 65)),none⟩,.pure,0,0,7⟩,⟨⟨(some 67),(.load false 1 (.tmp 66)),none⟩,.read,0,0,15⟩,⟨⟨(some 68),(.mv (.tmp 8)),none⟩,.pure,0,0,0⟩,⟨⟨(some 69),(.iaddrS 14 (.tmp 67) (.tmp 68)),none⟩,.pure,0,0,63⟩,⟨⟨(some 70),(.faddr 11 (.tmp 69)),none⟩,.pure,0,0,127⟩,⟨⟨(some 71),(.load false 1 (.tmp 70)),none⟩,.read,0,0,255⟩,⟨⟨(some 72),(.load false 1 (.tmp 3)),none⟩,.read,0,0,0⟩,⟨⟨(some 73),(.eql false .pi (.tmp 71) (.tmp 72)),none⟩,.pure,0,0,1023⟩]) (.cond (.tmp 73) (.ops [⟨(some 74),(.mv (.tmp 0)),none⟩,⟨(some 75),(.nilchk (.tmp 74)),none⟩,⟨(some 76),(.faddr 0 (.tmp 75)),none⟩,⟨(some 77),(.faddr 1 (.tmp 76)),none⟩,⟨(some 78),(.load false 1 (.tmp 77)),none⟩,⟨(some 79),(.mv (.tmp 8)),none⟩,⟨(some 80),(.iaddrS 14 (.tmp 78) (.tmp 79)),none⟩,⟨(some 81),(.faddr 11 (.tmp 80)),none⟩,⟨none,(.store 1 (.tmp 81) (.const (.int .i64 (.ofNat 0)))),none⟩]) .skip)))) (.ops [⟨(some 82),(.arith .add (.tmp 60) (.const (.int .i64 (.ofNat 1)))),none⟩,⟨(some 60),(.mv (.tmp 82)),none⟩]))))))) (.seq (.seq (.drawn 1 [⟨⟨(some 83),(.mv (.tmp 0)),none⟩,.pure,0,0,0⟩,⟨⟨(some 84),(.nilchk (.tmp 83)),none⟩,.pure,0,0,1⟩,⟨⟨(some 85),(.faddr 0 (.tmp 84)),none⟩,.pure,0,0,3⟩,⟨⟨(some 86),(.faddr 7 (.tmp 85)),none⟩,.pure,0,0,7⟩,⟨⟨(some 87),(.load false 1 (.tmp 86)),none⟩,.read,0,0,15⟩,⟨⟨(some 88),(.mv (.tmp 0)),none⟩,.pure,0,0,0⟩,⟨⟨(some 89),(.nilchk (.tmp 88)),none⟩,.pure,0,0,32⟩,⟨⟨(some 90),(.faddr 0 (.tmp 89)),none⟩,.pure,0,0,96⟩,⟨⟨(some 91),(.faddr 8 (.tmp 90)),none⟩,.pure,0,0,224⟩,⟨⟨(some 92),(.load false 1 (.tmp 91)),none⟩,.read,0,0,480⟩,⟨⟨(some 93),(.bslice 1 2 [(.slice none 0 0 false 0)] [⟨0,(.tmp 87)⟩,⟨1,(.tmp 92)⟩]),none⟩,.dalloc,0,0,1023⟩,⟨⟨(some 94),(.lenS (.tmp 93)),none⟩,.pure,0,0,2047⟩,⟨⟨(some 95),(.mv (.const (.int .i64 (.ofNat 0)))),none⟩,.pure,0,0,0⟩]) (.block 2 (.loop (.seq (.ops [⟨(some 96),(.arith .lss (.tmp 95) (.tmp 94)),none⟩]) (.seq (.cond (.tmp 96) .skip (.exit 2)) (.seq (.block 3 (.seq (.ops [⟨(some 97),(.iaddrS 1 (.tmp 93) (.tmp 95)),none⟩,⟨(some 98),(.load false 1 (.tmp 97)),none⟩,⟨(some 10),(.mv (.tmp 98)),none⟩]) (.seq (.ops [⟨(some 99),(.mv (.tmp 10)),none⟩,⟨(some 100),(.lenS (.tmp 99)),none⟩,⟨(some 101),(.mv (.const (.int .i64 (.ofNat 0)))),none⟩]) (.block 4 (.loop (.seq (.ops [⟨(some 102),(.arith .lss (.tmp 101) (.tmp 100)),none⟩]) (.seq (.cond (.tmp 102) .skip (.exit 4)) (.seq (.block 5 (.seq (.ops [⟨(some 103),(.mv (.tmp 101)),none⟩,⟨(some 11),(.mv (.tmp 103)),none⟩]) (.drawn 0 [⟨⟨(some 104),(.mv (.tmp 10)),none⟩,.pure,0,0,0⟩,⟨⟨(some 105),(.mv (.tmp 11)),none⟩,.pure,0,0,0⟩,⟨⟨(some 106),(.iaddrS 7 (.tmp 104) (.tmp 105)),none⟩,.pure,0,0,3⟩,⟨⟨(some 107),(.faddr 3 (.tmp 106)),none⟩,.pure,0,0,7⟩,⟨⟨(some 108),(.mv (.tmp 10)),none⟩,.pure,0,0,0⟩,⟨⟨(some 109),(.mv (.tmp 11)),none⟩,.pure,0,0,0⟩,⟨⟨(some 110),(.iaddrS 7 (.tmp 108) (.tmp 109)),none⟩,.pure,0,0,48⟩,⟨⟨(some 111),(.faddr 6 (.tmp 110)),none⟩,.pure,0,0,112⟩,⟨⟨(some 112),(.load false 1 (.tmp 111)),none⟩,.read,0,0,240⟩,⟨⟨(some 113),(.load false 1 (.tmp 3)),none⟩,.read,0,0,0⟩,⟨⟨(some 114),(.call (.func (F 295)) [(.tmp 107),(.tmp 112),(.tmp 113)]),none⟩,.chain,0,0,1023⟩]))) (.ops [⟨(some 115),(.arith .add (.tmp 101) (.const (.int .i64 (.ofNat 1)))),none⟩,⟨(some 101),(.mv (.tmp 115)),none⟩]))))))))) (.ops [⟨(some 116),(.arith .add (.tmp 95) (.const (.int .i64 (.ofNat 1)))),none⟩,⟨(some 95),(.mv (.tmp 116)),none⟩]))))))) (.seq (.drawn 0 [⟨⟨(some 117),(.mv (.tmp 0)),none⟩,.pure,0,0,0⟩,⟨⟨(some 118),(.nilchk (.tmp 117)),none⟩,.pure,0,0,1⟩,⟨⟨(some 119),(.faddr 0 (.tmp 118)),none⟩,.pure,0,0,3⟩,⟨⟨(some 120),(.faddr 18 (.tmp 119)),none⟩,.pure,0,0,7⟩,⟨⟨(some 121),(.faddr 1 (.tmp 120)),none⟩,.pure,0,0,15⟩,⟨⟨(some 122),(.mv (.tmp 0)),none⟩,.pure,0,0,0⟩,⟨⟨(some 123),(.nilchk (.tmp 122)),none⟩,.pure,0,0,32⟩,⟨⟨(some 124),(.faddr 0 (.tmp 123)),none⟩,.pure,0,0,96⟩,⟨⟨(some 125),(.faddr 18 (.tmp 124)),none⟩,.pure,0,0,224⟩,⟨⟨(some 126),(.faddr 3 (.tmp 125)),none⟩,.pure,0,0,480⟩,⟨⟨(some 127),(.load false 1 (.tmp 126)),none⟩,.read,0,0,992⟩,⟨⟨(some 128),(.load false 1 (.tmp 3)),none⟩,.read,0,0,0⟩,⟨⟨(some 129),(.call (.func (F 295)) [(.tmp 121),(.tmp 127),(.tmp 128)]),none⟩,.chain,0,0,4095⟩]) (.seq (.ops [⟨(some 130),(.load true 14 (.tmp 6)),none⟩,⟨none,(.store 14 (.tmp 4) (.tmp 130)),none⟩]) .ret)))))))))
def a293 (F:Nat->FuncId) (T:Nat->TypeId):AC:=(.seq (.ops [⟨(some 3),(.mv (.const (.bool false))),none⟩]) (.seq (.ops [⟨(some 4),(.mv (.tmp 0)),none⟩,⟨(some 5),(.load false 1 (.tmp 1)),none⟩,⟨(some 6),(.eql false .pi (.tmp 4) (.tmp 5)),none⟩,⟨(some 3),(.mv (.tmp 6)),none⟩]) .ret))
def a294 (F:Nat->FuncId) (T:Nat->TypeId):AC:=(.seq (.ops [⟨(some 6),(.mv (.const (.slice none 0 0))),none⟩]) (.seq (.ops [⟨(some 8),(.mv (.tmp 0)),none⟩,⟨(some 9),(.mv (.tmp 1)),none⟩,⟨(some 10),(.mv (.tmp 2)),none⟩,⟨(some 11),(.mv (.tmp 0)),none⟩,⟨(some 12),(.lenS (.tmp 11)),none⟩,⟨(some 13),(.slc 14 (.tmp 8) (some (.tmp 9)) (some (.tmp 10)) (some (.tmp 12))),none⟩]) (.seq (.seq (.ops [⟨(some 14),(.mv (.tmp 1)),none⟩,⟨(some 15),(.mv (.tmp 2)),none⟩,⟨(some 16),(.eql false .pi (.tmp 14) (.tmp 15)),none⟩]) (.cond (.tmp 16) (.seq (.ops [⟨(some 17),(.mv (.tmp 0)),none⟩,⟨(some 6),(.mv (.tmp 17)),none⟩]) .ret) .skip)) (.seq (.ops [⟨(some 18),(.mv (.tmp 0)),none⟩,⟨(some 19),(.lenS (.tmp 18)),none⟩,⟨(some 7),(.mv (.tmp 19)),none⟩]) (.seq (.drawn 0 [⟨⟨(some 20),(.mv (.tmp 0)),none⟩,.pure,0,0,0⟩,⟨⟨(some 21),(.mv (.tmp 1)),none⟩,.pure,0,0,0⟩,⟨⟨(some 22),(.slc 14 (.tmp 20) none (some (.tmp 21)) none),none⟩,.pure,0,0,3⟩,⟨⟨(some 23),(.mv (.tmp 0)),none⟩,.pure,0,0,0⟩,⟨⟨(some 24),(.mv (.tmp 2)),none⟩,.pure,0,0,0⟩,⟨⟨(some 25),(.slc 14 (.tmp 23) (some (.tmp 24)) none none),none⟩,.pure,0,0,24⟩,⟨⟨(some 26),(.append 14 112 (.tmp 22) (.tmp 25)),none⟩,.chain,0,0,63⟩,⟨⟨(some 0),(.mv (.tmp 26)),none⟩,.pure,0,0,127⟩]) (.seq (.ops [⟨(some 27),(.mv (.tmp 0)),none⟩,⟨(some 28),(.mv (.tmp 0)),none⟩,⟨(some 29),(.lenS (.tmp 28)),none⟩,⟨(some 30),(.mv (.tmp 7)),none⟩,⟨(some 31),(.slc 14 (.tmp 27) (some (.tmp 29)) (some (.tmp 30)) none),none⟩,⟨none,(.clear 14 zObj (.tmp 31)),none⟩]) (.seq (.ops [⟨(some 32),(.mv (.tmp 0)),none⟩,⟨(some 6),(.mv (.tmp 32)),none⟩]) .ret)))))))
def a292 (F:Nat->FuncId) (T:Nat->TypeId):AC:=(.seq (.ops [⟨(some 4),(.mv (.const (.slice none 0 0))),none⟩]) (.seq (.ops [⟨(some 8),(.mv (.tmp 0)),none⟩,⟨(some 9),(.mv (.tmp 1)),none⟩,⟨(some 10),(.call (.func (F 155)) [(.tmp 8),(.tmp 9)]),none⟩,⟨(some 5),(.mv (.tmp 10)),none⟩]) (.seq (.seq (.ops [⟨(some 11),(.mv (.tmp 5)),none⟩,⟨(some 12),(.eql false .pi (.tmp 11) (.const (.int .i64 (.negSucc 0)))),none⟩]) (.cond (.tmp 12) (.seq (.ops [⟨(some 13),(.mv (.tmp 0)),none⟩,⟨(some 4),(.mv (.tmp 13)),none⟩]) .ret) .skip)) (.seq (.seq (.ops [⟨(some 14),(.mv (.tmp 5)),none⟩,⟨(some 15),(.arith .add (.tmp 14) (.const (.int .i64 (.ofNat 1)))),none⟩,⟨(some 6),(.mv (.tmp 15)),none⟩]) (.block 0 (.loop (.seq (.seq (.ops [⟨(some 16),(.mv (.tmp 6)),none⟩,⟨(some 17),(.mv (.tmp 0)),none⟩,⟨(some 18),(.lenS (.tmp 17)),none⟩,⟨(some 19),(.arith .lss (.tmp 16) (.tmp 18)),none⟩]) (.cond (.tmp 19) .skip (.exit 0))) (.seq (.block 1 (.seq (.ops [⟨(some 22),(.mv (.tmp 0)),none⟩,⟨(some 23),(.mv (.tmp 6)),none⟩,⟨(some 24),(.iaddrS 1 (.tmp 22) (.tmp 23)),none⟩,⟨(some 25),(.load false 1 (.tmp 24)),none⟩,⟨(some 7),(.mv (.tmp 25)),none⟩]) (.seq (.ops [⟨(some 26),(.mv (.tmp 1)),none⟩,⟨(some 27),(.mv (.tmp 7)),none⟩,⟨(some 28),(.call (.tmp 26) [(.tmp 27)]),none⟩,⟨(some 29),(.un .not (.tmp 28)),none⟩]) (.cond (.tmp 29) (.seq (.ops [⟨(some 30),(.mv (.tmp 0)),none⟩,⟨(some 31),(.mv (.tmp 5)),none⟩,⟨(some 32),(.mv (.tmp 7)),none⟩,⟨(some 33),(.iaddrS 1 (.tmp 30) (.tmp 31)),none⟩,⟨none,(.store 1 (.tmp 33) (.tmp 32)),none⟩]) (.ops [⟨(some 34),(.mv (.tmp 5)),none⟩,⟨(some 35),(.arith .add (.tmp 34) (.const (.int .i64 (.ofNat 1)))),none⟩,⟨(some 5),(.mv (.tmp 35)),none⟩])) .skip)))) (.ops [⟨(some 20),(.mv (.tmp 6)),none⟩,⟨(some 21),(.arith .add (.tmp 20) (.const (.int .i64 (.ofNat 1)))),none⟩,⟨(some 6),(.mv (.tmp 21)),none⟩])))))) (.seq (.ops [⟨(some 36),(.mv (.tmp 0)),none⟩,⟨(some 37),(.mv (.tmp 5)),none⟩,⟨(some 38),(.slc 1 (.tmp 36) (some (.tmp 37)) none none),none⟩,⟨none,(.clear 1 [(.int .i64 (.ofNat 0))] (.tmp 38)),none⟩]) (.seq (.ops [⟨(some 39),(.mv (.tmp 0)),none⟩,⟨(some 40),(.mv (.tmp 5)),none⟩,⟨(some 41),(.slc 1 (.tmp 39) none (some (.tmp 40)) none),none⟩,⟨(some 4),(.mv (.tmp 41)),none⟩]) .ret))))))
def a155 (F:Nat->FuncId) (T:Nat->TypeId):AC:=(.seq (.ops [⟨(some 4),(.mv (.const (.int .i64 (.ofNat 0)))),none⟩]) (.seq (.seq (.ops [⟨(some 6),(.mv (.tmp 0)),none⟩,⟨(some 7),(.lenS (.tmp 6)),none⟩,⟨(some 8),(.mv (.const (.int .i64 (.ofNat 0)))),none⟩]) (.block 0 (.loop (.seq (.ops [⟨(some 9),(.arith .lss (.tmp 8) (.tmp 7)),none⟩]) (.seq (.cond (.tmp 9) .skip (.exit 0)) (.seq (.block 1 (.seq (.ops [⟨(some 10),(.mv (.tmp 8)),none⟩,⟨(some 5),(.mv (.tmp 10)),none⟩]) (.seq (.ops [⟨(some 11),(.mv (.tmp 1)),none⟩,⟨(some 12),(.mv (.tmp 0)),none⟩,⟨(some 13),(.mv (.tmp 5)),none⟩,⟨(some 14),(.iaddrS 1 (.tmp 12) (.tmp 13)),none⟩,⟨(some 15),(.load false 1 (.tmp 14)),none⟩,⟨(some 16),(.call (.tmp 11) [(.tmp 15)]),none⟩]) (.cond (.tmp 16) (.seq (.ops [⟨(some 17),(.mv (.tmp 5)),none⟩,⟨(some 4),(.mv (.tmp 17)),none⟩]) .ret) .skip)))) (.ops [⟨(some 18),(.arith .add (.tmp 8) (.const (.int .i64 (.ofNat 1)))),none⟩,⟨(some 8),(.mv (.tmp 18)),none⟩]))))))) (.seq (.ops [⟨(some 4),(.mv (.const (.int .i64 (.negSucc 0)))),none⟩]) .ret)))
def a295 (F:Nat->FuncId) (T:Nat->TypeId):AC:=(.seq (.seq (.ops [⟨(some 7),(.mv (.tmp 0)),none⟩,⟨(some 8),(.nilchk (.tmp 7)),none⟩,⟨(some 9),(.load false 1 (.tmp 8)),none⟩,⟨(some 10),(.mv (.tmp 2)),none⟩,⟨(some 11),(.eql false .pi (.tmp 9) (.tmp 10)),none⟩]) (.cond (.tmp 11) (.ops [⟨(some 12),(.mv (.tmp 0)),none⟩,⟨(some 13),(.nilchk (.tmp 12)),none⟩,⟨none,(.store 1 (.tmp 13) (.const (.int .i64 (.negSucc 0)))),none⟩]) .skip)) (.seq (.ops [⟨(some 14),(.mv (.tmp 1)),none⟩,⟨(some 15),(.lenS (.tmp 14)),none⟩,⟨(some 16),(.mv (.const (.int .i64 (.ofNat 0)))),none⟩]) (.block 0 (.loop (.seq (.ops [⟨(some 17),(.arith .lss (.tmp 16) (.tmp 15)),none⟩]) (.seq (.cond (.tmp 17) .skip (.exit 0)) (.seq (.block 1 (.seq (.ops [⟨(some 18),(.mv (.tmp 16)),none⟩,⟨(some 6),(.mv (.tmp 18)),none⟩]) (.seq (.ops [⟨(some 19),(.mv (.tmp 1)),none⟩,⟨(some 20),(.mv (.tmp 6)),none⟩,⟨(some 21),(.iaddrS 2 (.tmp 19) (.tmp 20)),none⟩,⟨(some 22),(.faddr 1 (.tmp 21)),none⟩,⟨(some 23),(.load false 1 (.tmp 22)),none⟩,⟨(some 24),(.mv (.tmp 2)),none⟩,⟨(some 25),(.eql false .pi (.tmp 23) (.tmp 24)),none⟩]) (.cond (.tmp 25) (.ops [⟨(some 26),(.mv (.tmp 1)),none⟩,⟨(some 27),(.mv (.tmp 6)),none⟩,⟨(some 28),(.iaddrS 2 (.tmp 26) (.tmp 27)),none⟩,⟨(some 29),(.faddr 1 (.tmp 28)),none⟩,⟨none,(.store 1 (.tmp 29) (.const (.int .i64 (.negSucc 0)))),none⟩]) .skip)))) (.ops [⟨(some 30),(.arith .add (.tmp 16) (.const (.int .i64 (.ofNat 1)))),none⟩,⟨(some 16),(.mv (.tmp 30)),none⟩]))))))))
def a164 (F:Nat->FuncId) (T:Nat->TypeId):AC:=(.seq (.ops [⟨(some 2),(.box 25 (.tmp 0)),none⟩,⟨(some 3),(.box 13 (.tmp 1)),none⟩,⟨(some 4),(.alloc 25 zState),none⟩,⟨(some 5),(.mv (.const (.int .i64 (.ofNat 0)))),none⟩]) (.seq (.ops [⟨(some 10),(.load true 25 (.tmp 2)),none⟩,⟨(some 11),(.call (.func (F 107)) [(.tmp 10)]),none⟩,⟨(some 12),(.build zState [⟨0,⟨25,(.tmp 11)⟩⟩]),none⟩,⟨(some 13),(.box 25 (.tmp 12)),none⟩,⟨(some 6),(.mv (.tmp 13)),none⟩]) (.seq (.seq (.ops [⟨(some 14),(.load true 13 (.tmp 3)),none⟩,⟨(some 15),(.call (.func (F 201)) [(.tmp 14)]),none⟩,⟨(some 7),(.mv (.tmp 15)),none⟩]) (.seq (.ops [⟨(some 16),(.mv (.tmp 7)),none⟩,⟨(some 17),(.eql true .pi (.tmp 16) (.const (.int .i64 (.ofNat 0)))),none⟩]) (.cond (.tmp 17) (.seq (.ops [⟨(some 18),(.mv (.tmp 6)),none⟩,⟨(some 19),(.nilchk (.tmp 18)),none⟩,⟨(some 20),(.faddr 0 (.tmp 19)),none⟩,⟨(some 21),(.load true 25 (.tmp 20)),none⟩,⟨(some 22),(.mv (.tmp 7)),none⟩,⟨none,(.store 25 (.tmp 4) (.tmp 21)),none⟩,⟨(some 5),(.mv (.tmp 22)),none⟩]) .ret) .skip))) (.seq (.ops [⟨(some 23),(.mv (.tmp 6)),none⟩,⟨(some 24),(.faddr 0 (.tmp 3)),none⟩,⟨(some 25),(.load false 1 (.tmp 24)),none⟩,⟨(some 26),(.call (.func (F 202)) [(.tmp 23),(.tmp 25)]),none⟩,⟨(some 8),(.alloc 4 [(.bool false),(.bool false),(.bool false),.nilFunc]),none⟩,⟨none,(.store 4 (.tmp 8) (.tmp 26)),none⟩]) (.seq (.seq (.ops [⟨(some 27),(.mv (.tmp 6)),none⟩,⟨(some 28),(.load true 13 (.tmp 3)),none⟩,⟨(some 29),(.load true 4 (.tmp 8)),none⟩,⟨(some 30),(.call (.func (F 203)) [(.tmp 27),(.tmp 28),(.tmp 29)]),none⟩,⟨(some 9),(.mv (.tmp 30)),none⟩]) (.seq (.ops [⟨(some 31),(.mv (.tmp 9)),none⟩,⟨(some 32),(.eql true .pi (.tmp 31) (.const (.int .i64 (.ofNat 0)))),none⟩]) (.cond (.tmp 32) (.seq (.ops [⟨(some 33),(.mv (.tmp 6)),none⟩,⟨(some 34),(.nilchk (.tmp 33)),none⟩,⟨(some 35),(.faddr 0 (.tmp 34)),none⟩,⟨(some 36),(.load true 25 (.tmp 35)),none⟩,⟨(some 37),(.mv (.tmp 9)),none⟩,⟨none,(.store 25 (.tmp 4) (.tmp 36)),none⟩,⟨(some 5),(.mv (.tmp 37)),none⟩]) .ret) .skip))) (.seq (.ops [⟨(some 38),(.faddr 3 (.tmp 8)),none⟩,⟨(some 39),(.load false 1 (.tmp 38)),none⟩,⟨(some 40),(.load true 13 (.tmp 3)),none⟩,⟨(some 41),(.call (.tmp 39) [(.tmp 40)]),none⟩]) (.seq (.ops [⟨(some 42),(.mv (.tmp 6)),none⟩,⟨(some 43),(.nilchk (.tmp 42)),none⟩,⟨(some 44),(.faddr 0 (.tmp 43)),none⟩,⟨(some 45),(.load true 25 (.tmp 44)),none⟩,⟨none,(.store 25 (.tmp 4) (.tmp 45)),none⟩,⟨(some 5),(.mv (.const (.int .i64 (.ofNat 0)))),none⟩]) .ret)))))))
def a203 (F:Nat->FuncId) (T:Nat->TypeId):AC:=(.seq (.ops [⟨(some 4),(.box 13 (.tmp 1)),none⟩,⟨(some 5),(.box 4 (.tmp 2)),none⟩,⟨(some 6),(.mv (.const (.int .i64 (.ofNat 0)))),none⟩]) (.seq (.ops [⟨(some 8),(.mkfn (F 228) [] [(.tmp 4)]),none⟩,⟨(some 7),(.mv (.tmp 8)),none⟩]) (.seq (.block 0 (.seq (.drawn 0 [⟨⟨(some 10),(.mv (.tmp 0)),none⟩,.pure,0,0,0⟩,⟨⟨(some 11),(.nilchk (.tmp 10)),none⟩,.pure,0,0,1⟩,⟨⟨(some 12),(.faddr 0 (.tmp 11)),none⟩,.pure,0,0,3⟩,⟨⟨(some 13),(.load true 25 (.tmp 12)),none⟩,.read,0,0,7⟩,⟨⟨(some 14),(.call (.func (F 137)) [(.tmp 13)]),none⟩,.chain,0,0,15⟩,⟨⟨(some 15),(.un .not (.tmp 14)),none⟩,.pure,0,0,31⟩,⟨⟨(some 16),(.mv (.tmp 15)),none⟩,.pure,0,0,63⟩,⟨⟨(some 17),(.faddr 0 (.tmp 5)),(some ⟨16,false⟩)⟩,.pure,0,0,127⟩,⟨⟨(some 18),(.load false 1 (.tmp 17)),(some ⟨16,false⟩)⟩,.read,1,1,255⟩,⟨⟨(some 19),(.mv (.tmp 18)),(some ⟨16,false⟩)⟩,.pure,0,0,511⟩,⟨⟨(some 20),(.faddr 1 (.tmp 4)),(some ⟨19,true⟩)⟩,.pure,0,0,1023⟩,⟨⟨(some 21),(.load false 1 (.tmp 20)),(some ⟨19,true⟩)⟩,.read,1,1,2047⟩,⟨⟨(some 22),(.arith .lss (.tmp 21) (.const (.int .i64 (.ofNat 0)))),(some ⟨19,true⟩)⟩,.pure,0,0,4095⟩,⟨⟨(some 23),(.mv (.tmp 22)),(some ⟨19,true⟩)⟩,.pure,0,0,8191⟩,⟨⟨(some 24),(.faddr 1 (.tmp 4)),(some ⟨23,false⟩)⟩,.pure,0,0,16383⟩,⟨⟨(some 25),(.load false 1 (.tmp 24)),(some ⟨23,false⟩)⟩,.read,1,1,32767⟩,⟨⟨(some 26),(.mv (.tmp 0)),(some ⟨23,false⟩)⟩,.pure,0,0,16383⟩,⟨⟨(some 27),(.nilchk (.tmp 26)),(some ⟨23,false⟩)⟩,.pure,0,0,81919⟩,⟨⟨(some 28),(.faddr 0 (.tmp 27)),(some ⟨23,false⟩)⟩,.pure,0,0,212991⟩,⟨⟨(some 29),(.faddr 0 (.tmp 28)),(some ⟨23,false⟩)⟩,.pure,0,0,475135⟩,⟨⟨(some 30),(.load false 1 (.tmp 29)),(some ⟨23,false⟩)⟩,.read,1,1,999423⟩,⟨⟨(some 31),(.lenS (.tmp 30)),(some ⟨23,false⟩)⟩,.pure,0,0,2047999⟩,⟨⟨(some 32),(.arith .geq (.tmp 25) (.tmp 31)),(some ⟨23,false⟩)⟩,.pure,0,0,4194303⟩,⟨⟨(some 33),(.pick (.tmp 23) (.const (.bool true)) (.tmp 32)),(some ⟨19,true⟩)⟩,.pure,0,0,8388607⟩,⟨⟨(some 34),(.pick (.tmp 19) (.tmp 33) (.const (.bool false))),(some ⟨16,false⟩)⟩,.pure,0,0,16777215⟩,⟨⟨(some 35),(.pick (.tmp 16) (.const (.bool true)) (.tmp 34)),none⟩,.pure,0,0,33554431⟩,⟨⟨(some 9),(.mv (.tmp 35)),none⟩,.pure,0,0,67108863⟩]) (.cond (.tmp 9) (.seq (.ops [⟨(some 6),(.mv (.const (.int .i64 (.ofNat 2)))),none⟩]) .ret) (.seq (.seq (.drawn 0 [⟨⟨(some 37),(.faddr 1 (.tmp 5)),none⟩,.pure,0,0,0⟩,⟨⟨(some 38),(.load false 1 (.tmp 37)),none⟩,.read,0,0,1⟩,⟨⟨(some 39),(.mv (.tmp 38)),none⟩,.pure,0,0,3⟩,⟨⟨(some 40),(.mv (.tmp 0)),(some ⟨39,true⟩)⟩,.pure,0,0,7⟩,⟨⟨(some 41),(.nilchk (.tmp 40)),(some ⟨39,true⟩)⟩,.pure,0,0,15⟩,⟨⟨(some 42),(.faddr 0 (.tmp 41)),(some ⟨39,true⟩)⟩,.pure,0,0,31⟩,⟨⟨(some 43),(.load true 25 (.tmp 42)),(some ⟨39,true⟩)⟩,.read,0,0,63⟩,⟨⟨(some 44),(.faddr 1 (.tmp 4)),(some ⟨39,true⟩)⟩,.pure,0,0,7⟩,⟨⟨(some 45),(.load false 1 (.tmp 44)),(some ⟨39,true⟩)⟩,.read,0,0,135⟩,⟨⟨(some 46),(.call (.func (F 91)) [(.tmp 43),(.tmp 45)]),(some ⟨39,true⟩)⟩,.chain,0,0,511⟩,⟨⟨(some 47),(.arith .lss (.tmp 46) (.const (.int .i64 (.ofNat 0)))),(some ⟨39,true⟩)⟩,.pure,0,0,1023⟩,⟨⟨(some 48),(.pick (.tmp 39) (.tmp 47) (.const (.bool false))),none⟩,.pure,0,0,2047⟩,⟨⟨(some 36),(.mv (.tmp 48)),none⟩,.pure,0,0,4095⟩]) (.cond (.tmp 36) .skip (.ops [⟨(some 49),(.faddr 2 (.tmp 5)),none⟩,⟨(some 50),(.load false 1 (.tmp 49)),none⟩,⟨(some 51),(.mv (.tmp 50)),none⟩,⟨(some 52),(.mv (.tmp 0)),(some ⟨51,true⟩)⟩,⟨(some 53),(.faddr 1 (.tmp 4)),(some ⟨51,true⟩)⟩,⟨(some 54),(.load false 1 (.tmp 53)),(some ⟨51,true⟩)⟩,⟨(some 55),(.call (.func (F 231)) [(.tmp 52),(.tmp 54)]),(some ⟨51,true⟩)⟩,⟨(some 56),(.un .not (.tmp 55)),(some ⟨51,true⟩)⟩,⟨(some 57),(.pick (.tmp 51) (.tmp 56) (.const (.bool false))),none⟩,⟨(some 36),(.mv (.tmp 57)),none⟩]))) (.cond (.tmp 36) (.seq (.ops [⟨(some 6),(.mv (.const (.int .i64 (.ofNat 5)))),none⟩]) .ret) (.seq (.ops [⟨(some 59),(.faddr 0 (.tmp 4)),none⟩,⟨(some 60),(.load false 1 (.tmp 59)),none⟩,⟨(some 61),(.eql false .pi (.tmp 60) (.const (.int .i64 (.ofNat 13)))),none⟩,⟨(some 62),(.mv (.tmp 61)),none⟩,⟨(some 63),(.faddr 2 (.tmp 4)),(some ⟨62,true⟩)⟩,⟨(some 64),(.load false 1 (.tmp 63)),(some ⟨62,true⟩)⟩,⟨(some 65),(.eql true .pi (.tmp 64) (.const (.int .i64 (.ofNat 0)))),(some ⟨62,true⟩)⟩,⟨(some 66),(.pick (.tmp 62) (.tmp 65) (.const (.bool false))),none⟩,⟨(some 67),(.mv (.tmp 66)),none⟩,⟨(some 68),(.mv (.tmp 0)),(some ⟨67,true⟩)⟩,⟨(some 69),(.faddr 2 (.tmp 4)),(some ⟨67,true⟩)⟩,⟨(some 70),(.load false 1 (.tmp 69)),(some ⟨67,true⟩)⟩,⟨(some 71),(.call (.func (F 231)) [(.tmp 68),(.tmp 70)]),(some ⟨67,true⟩)⟩,⟨(some 72),(.un .not (.tmp 71)),(some ⟨67,true⟩)⟩,⟨(some 73),(.pick (.tmp 67) (.tmp 72) (.const (.bool false))),none⟩,⟨(some 58),(.mv (.tmp 73)),none⟩]) (.cond (.tmp 58) (.seq (.ops [⟨(some 6),(.mv (.const (.int .i64 (.ofNat 5)))),none⟩]) .ret) (.seq (.seq (.ops [⟨(some 75),(.faddr 0 (.tmp 4)),none⟩,⟨(some 76),(.load false 1 (.tmp 75)),none⟩,⟨(some 77),(.eql false .pi (.tmp 76) (.const (.int .i64 (.ofNat 16)))),none⟩,⟨(some 78),(.mv (.tmp 77)),none⟩,⟨(some 79),(.mv (.tmp 7)),(some ⟨78,true⟩)⟩,⟨(some 80),(.mv (.tmp 0)),(some ⟨78,true⟩)⟩,⟨(some 81),(.nilchk (.tmp 80)),(some ⟨78,true⟩)⟩,⟨(some 82),(.faddr 0 (.tmp 81)),(some ⟨78,true⟩)⟩,⟨(some 83),(.faddr 7 (.tmp 82)),(some ⟨78,true⟩)⟩,⟨(some 84),(.load false 1 (.tmp 83)),(some ⟨78,true⟩)⟩,⟨(some 85),(.call (.tmp 79) [(.tmp 84)]),(some ⟨78,true⟩)⟩,⟨(some 86),(.un .not (.tmp 85)),(some ⟨78,true⟩)⟩,⟨(some 87),(.pick (.tmp 78) (.tmp 86) (.const (.bool false))),none⟩,⟨(some 74),(.mv (.tmp 87)),none⟩]) (.cond (.tmp 74) .skip (.ops [⟨(some 88),(.faddr 0 (.tmp 4)),none⟩,⟨(some 89),(.load false 1 (.tmp 88)),none⟩,⟨(some 90),(.eql false .pi (.tmp 89) (.const (.int .i64 (.ofNat 18)))),none⟩,⟨(some 91),(.mv (.tmp 90)),none⟩,⟨(some 92),(.mv (.tmp 7)),(some ⟨91,true⟩)⟩,⟨(some 93),(.mv (.tmp 0)),(some ⟨91,true⟩)⟩,⟨(some 94),(.nilchk (.tmp 93)),(some ⟨91,true⟩)⟩,⟨(some 95),(.faddr 0 (.tmp 94)),(some ⟨91,true⟩)⟩,⟨(some 96),(.faddr 8 (.tmp 95)),(some ⟨91,true⟩)⟩,⟨(some 97),(.load false 1 (.tmp 96)),(some ⟨91,true⟩)⟩,⟨(some 98),(.call (.tmp 92) [(.tmp 97)]),(some ⟨91,true⟩)⟩,⟨(some 99),(.un .not (.tmp 98)),(some ⟨91,true⟩)⟩,⟨(some 100),(.pick (.tmp 91) (.tmp 99) (.const (.bool false))),none⟩,⟨(some 74),(.mv (.tmp 100)),none⟩]))) (.cond (.tmp 74) (.seq (.ops [⟨(some 6),(.mv (.const (.int .i64 (.ofNat 5)))),none⟩]) .ret) (.seq (.drawn 0 [⟨⟨(some 102),(.faddr 0 (.tmp 4)),none⟩,.pure,0,0,0⟩,⟨⟨(some 103),(.load false 1 (.tmp 102)),none⟩,.read,0,0,1⟩,⟨⟨(some 104),(.eql false .pi (.tmp 103) (.const (.int .i64 (.ofNat 26)))),none⟩,.pure,0,0,3⟩,⟨⟨(some 105),(.mv (.tmp 104)),none⟩,.pure,0,0,7⟩,⟨⟨(some 106),(.faddr 5 (.tmp 4)),(some ⟨105,true⟩)⟩,.pure,0,0,15⟩,⟨⟨(some 107),(.load false 1 (.tmp 106)),(some ⟨105,true⟩)⟩,.read,0,0,31⟩,⟨⟨(some 108),(.mv (.tmp 0)),(some ⟨105,true⟩)⟩,.pure,0,0,15⟩,⟨⟨(some 109),(.nilchk (.tmp 108)),(some ⟨105,true⟩)⟩,.pure,0,0,79⟩,⟨⟨(some 110),(.faddr 0 (.tmp 109)),(some ⟨105,true⟩)⟩,.pure,0,0,207⟩,⟨⟨(some 111),(.faddr 2 (.tmp 110)),(some ⟨105,true⟩)⟩,.pure,0,0,463⟩,⟨⟨(some 112),(.load false 1 (.tmp 111)),(some ⟨105,true⟩)⟩,.read,0,0,975⟩,⟨⟨(some 113),(.faddr 1 (.tmp 4)),(some ⟨105,true⟩)⟩,.pure,0,0,15⟩,⟨⟨(some 114),(.load false 1 (.tmp 113)),(some ⟨105,true⟩)⟩,.read,0,0,2063⟩,⟨⟨(some 115),(.iaddrS 1 (.tmp 112) (.tmp 114)),(some ⟨105,true⟩)⟩,.pure,0,0,8143⟩,⟨⟨(some 116),(.load false 1 (.tmp 115)),(some ⟨105,true⟩)⟩,.read,0,0,16335⟩,⟨⟨(some 117),(.lenS (.tmp 116)),(some ⟨105,true⟩)⟩,.pure,0,0,32719⟩,⟨⟨(some 118),(.call (.func (F 232)) [(.tmp 107),(.tmp 117)]),(some ⟨105,true⟩)⟩,.chain,0,0,65535⟩,⟨⟨(some 119),(.un .not (.tmp 118)),(some ⟨105,true⟩)⟩,.pure,0,0,131071⟩,⟨⟨(some 120),(.pick (.tmp 105) (.tmp 119) (.const (.bool false))),none⟩,.pure,0,0,262143⟩,⟨⟨(some 101),(.mv (.tmp 120)),none⟩,.pure,0,0,524287⟩]) (.cond (.tmp 101) (.seq (.ops [⟨(some 6),(.mv (.const (.int .i64 (.ofNat 2)))),none⟩]) .ret) .skip))))))))))) (.seq (.ops [⟨(some 6),(.mv (.const (.int .i64 (.ofNat 0)))),none⟩]) .ret))))
def a228 (F:Nat->FuncId) (T:Nat->TypeId):AC:=(.seq (.ops [⟨(some 3),(.mv (.const (.bool false))),none⟩]) (.seq (.ops [⟨(some 4),(.mv (.tmp 0)),none⟩,⟨(some 5),(.mkfn (F 230) [] [(.tmp 1)]),none⟩,⟨(some 6),(.call (.func (F 229)) [(.tmp 4),(.tmp 5)]),none⟩,⟨(some 3),(.mv (.tmp 6)),none⟩]) .ret))
def a229 (F:Nat->FuncId) (T:Nat->TypeId):AC:=(.seq (.ops [⟨(some 4),(.mv (.const (.bool false))),none⟩]) (.seq (.ops [⟨(some 5),(.mv (.tmp 0)),none⟩,⟨(some 6),(.mv (.tmp 1)),none⟩,⟨(some 7),(.call (.func (F 113)) [(.tmp 5),(.tmp 6)]),none⟩,⟨(some 8),(.arith .geq (.tmp 7) (.const (.int .i64 (.ofNat 0)))),none⟩,⟨(some 4),(.mv (.tmp 8)),none⟩]) .ret))
def a230 (F:Nat->FuncId) (T:Nat->TypeId):AC:=(.seq (.ops [⟨(some 2),(.box 7 (.tmp 0)),none⟩,⟨(some 3),(.mv (.const (.bool false))),none⟩]) (.seq (.ops [⟨(some 4),(.faddr 0 (.tmp 2)),none⟩,⟨(some 5),(.load false 1 (.tmp 4)),none⟩,⟨(some 6),(.faddr 1 (.tmp 1)),none⟩,⟨(some 7),(.load false 1 (.tmp 6)),none⟩,⟨(some 8),(.eql false .pi (.tmp 5) (.tmp 7)),none⟩,⟨(some 3),(.mv (.tmp 8)),none⟩]) .ret))
def a231 (F:Nat->FuncId) (T:Nat->TypeId):AC:=(.seq (.ops [⟨(some 4),(.mv (.const (.bool false))),none⟩]) (.seq (.ops [⟨(some 6),(.mv (.tmp 0)),none⟩,⟨(some 7),(.nilchk (.tmp 6)),none⟩,⟨(some 8),(.faddr 0 (.tmp 7)),none⟩,⟨(some 9),(.load true 25 (.tmp 8)),none⟩,⟨(some 10),(.mv (.tmp 1)),none⟩,⟨(some 11),(.call (.func (F 91)) [(.tmp 9),(.tmp 10)]),none⟩,⟨(some 5),(.mv (.tmp 11)),none⟩]) (.seq (.ops [⟨(some 12),(.mv (.tmp 5)),none⟩,⟨(some 13),(.arith .geq (.tmp 12) (.const (.int .i64 (.ofNat 0)))),none⟩,⟨(some 14),(.mv (.tmp 13)),none⟩,⟨(some 15),(.mv (.tmp 0)),(some ⟨14,true⟩)⟩,⟨(some 16),(.nilchk (.tmp 15)),(some ⟨14,true⟩)⟩,⟨(some 17),(.faddr 0 (.tmp 16)),(some ⟨14,true⟩)⟩,⟨(some 18),(.faddr 1 (.tmp 17)),(some ⟨14,true⟩)⟩,⟨(some 19),(.load false 1 (.tmp 18)),(some ⟨14,true⟩)⟩,⟨(some 20),(.mv (.tmp 5)),(some ⟨14,true⟩)⟩,⟨(some 21),(.iaddrS 14 (.tmp 19) (.tmp 20)),(some ⟨14,true⟩)⟩,⟨(some 22),(.faddr 4 (.tmp 21)),(some ⟨14,true⟩)⟩,⟨(some 23),(.load false 1 (.tmp 22)),(some ⟨14,true⟩)⟩,⟨(some 24),(.eql false .pi (.tmp 23) (.const (.int .i64 (.ofNat 2)))),(some ⟨14,true⟩)⟩,⟨(some 25),(.pick (.tmp 14) (.tmp 24) (.const (.bool false))),none⟩,⟨(some 4),(.mv (.tmp 25)),none⟩]) .ret)))
def a113 (F:Nat->FuncId) (T:Nat->TypeId):AC:=(.seq (.ops [⟨(some 4),(.mv (.const (.int .i64 (.ofNat 0)))),none⟩]) (.seq (.seq (.ops [⟨(some 6),(.mv (.tmp 0)),none⟩,⟨(some 7),(.lenS (.tmp 6)),none⟩,⟨(some 8),(.mv (.const (.int .i64 (.ofNat 0)))),none⟩]) (.block 0 (.loop (.seq (.ops [⟨(some 9),(.arith .lss (.tmp 8) (.tmp 7)),none⟩]) (.seq (.cond (.tmp 9) .skip (.exit 0)) (.seq (.block 1 (.seq (.ops [⟨(some 10),(.mv (.tmp 8)),none⟩,⟨(some 5),(.mv (.tmp 10)),none⟩]) (.seq (.ops [⟨(some 11),(.mv (.tmp 1)),none⟩,⟨(some 12),(.mv (.tmp 0)),none⟩,⟨(some 13),(.mv (.tmp 5)),none⟩,⟨(some 14),(.iaddrS 7 (.tmp 12) (.tmp 13)),none⟩,⟨(some 15),(.load true 7 (.tmp 14)),none⟩,⟨(some 16),(.call (.tmp 11) [(.tmp 15)]),none⟩]) (.cond (.tmp 16) (.seq (.ops [⟨(some 17),(.mv (.tmp 5)),none⟩,⟨(some 4),(.mv (.tmp 17)),none⟩]) .ret) .skip)))) (.ops [⟨(some 18),(.arith .add (.tmp 8) (.const (.int .i64 (.ofNat 1)))),none⟩,⟨(some 8),(.mv (.tmp 18)),none⟩]))))))) (.seq (.ops [⟨(some 4),(.mv (.const (.int .i64 (.negSucc 0)))),none⟩]) .ret)))
def a108 (F:Nat->FuncId) (T:Nat->TypeId):AC:=(.seq (.ops [⟨(some 3),(.box 13 (.tmp 1)),none⟩,⟨(some 4),(.mv (.const (.int .i64 (.ofNat 0)))),none⟩]) (.seq (.seq (.ops [⟨(some 7),(.mv (.tmp 0)),none⟩,⟨(some 8),(.eql false .ptr (.tmp 7) (.const (.pointer none))),none⟩]) (.cond (.tmp 8) (.seq (.ops [⟨(some 4),(.mv (.const (.int .i64 (.ofNat 1)))),none⟩]) .ret) .skip)) (.seq (.drawn 1 [⟨⟨(some 10),(.mv (.tmp 0)),none⟩,.pure,0,0,0⟩,⟨⟨(some 11),(.nilchk (.tmp 10)),none⟩,.pure,0,0,1⟩,⟨⟨(some 12),(.faddr 26 (.tmp 11)),none⟩,.pure,0,0,3⟩,⟨⟨(some 13),(.load true 25 (.tmp 12)),none⟩,.read,0,0,7⟩,⟨⟨(some 14),(.load true 13 (.tmp 3)),none⟩,.read,0,0,0⟩,⟨⟨(some 15),(.call (.func (F 164)) [(.tmp 13),(.tmp 14)]),none⟩,.chain,0,0,31⟩,⟨⟨(some 9),(.mv (.tmp 15)),none⟩,.pure,0,0,63⟩,⟨⟨(some 16),(.extract (.tmp 9) 0),none⟩,.pure,0,0,127⟩,⟨⟨(some 17),(.extract (.tmp 9) 1),none⟩,.pure,0,0,127⟩,⟨⟨(some 5),(.alloc 25 zState),none⟩,.dalloc,0,0,0⟩,⟨⟨none,(.store 25 (.tmp 5) (.tmp 16)),none⟩,.chain,0,0,767⟩,⟨⟨(some 6),(.mv (.tmp 17)),none⟩,.pure,0,0,2047⟩]) (.seq (.seq (.ops [⟨(some 18),(.mv (.tmp 6)),none⟩,⟨(some 19),(.eql true .pi (.tmp 18) (.const (.int .i64 (.ofNat 0)))),none⟩]) (.cond (.tmp 19) (.seq (.ops [⟨(some 20),(.mv (.tmp 6)),none⟩,⟨(some 4),(.mv (.tmp 20)),none⟩]) .ret) .skip)) (.seq (.drawn 1 [⟨⟨(some 21),(.mv (.tmp 0)),none⟩,.pure,0,0,0⟩,⟨⟨(some 22),(.mv (.tmp 0)),none⟩,.pure,0,0,0⟩,⟨⟨(some 23),(.mv (.tmp 0)),none⟩,.pure,0,0,0⟩,⟨⟨(some 24),(.nilchk (.tmp 23)),none⟩,.pure,0,0,4⟩,⟨⟨(some 25),(.faddr 25 (.tmp 24)),none⟩,.pure,0,0,12⟩,⟨⟨(some 26),(.load false 1 (.tmp 25)),none⟩,.read,0,1,28⟩,⟨⟨(some 27),(.load true 13 (.tmp 3)),none⟩,.read,0,0,0⟩,⟨⟨(some 28),(.call (.func (F 165)) [(.tmp 27)]),none⟩,.chain,0,0,64⟩,⟨⟨(some 29),(.bslice 13 1 zEvent [⟨0,(.tmp 28)⟩]),none⟩,.dalloc,0,0,192⟩,⟨⟨(some 30),(.append 13 136 (.tmp 26) (.tmp 29)),none⟩,.chain,0,0,508⟩,⟨⟨(some 31),(.load true 25 (.tmp 5)),none⟩,.read,0,3,0⟩,⟨⟨(some 32),(.nilchk (.tmp 21)),none⟩,.pure,0,0,1021⟩,⟨⟨(some 33),(.faddr 25 (.tmp 32)),none⟩,.pure,0,0,3069⟩,⟨⟨none,(.store 1 (.tmp 33) (.tmp 30)),none⟩,.chain,0,0,7165⟩,⟨⟨(some 34),(.nilchk (.tmp 22)),none⟩,.pure,0,0,16383⟩,⟨⟨(some 35),(.faddr 26 (.tmp 34)),none⟩,.pure,0,0,32767⟩,⟨⟨none,(.store 25 (.tmp 35) (.tmp 31)),none⟩,.chain,0,0,65535⟩]) (.seq (.ops [⟨(some 4),(.mv (.const (.int .i64 (.ofNat 0)))),none⟩]) .ret))))))
def a165 (F:Nat->FuncId) (T:Nat->TypeId):AC:=(.seq (.ops [⟨(some 1),(.box 13 (.tmp 0)),none⟩,⟨(some 2),(.alloc 13 zEvent),none⟩]) (.seq (.drawn 0 [⟨⟨(some 3),(.faddr 5 (.tmp 1)),none⟩,.pure,0,0,0⟩,⟨⟨(some 4),(.load false 1 (.tmp 3)),none⟩,.read,0,0,1⟩,⟨⟨(some 5),(.call (.func (F 51)) [(.tmp 4)]),none⟩,.chain,0,0,3⟩,⟨⟨(some 6),(.faddr 6 (.tmp 1)),none⟩,.pure,0,0,0⟩,⟨⟨(some 7),(.faddr 6 (.tmp 6)),none⟩,.pure,0,0,8⟩,⟨⟨(some 8),(.load false 1 (.tmp 7)),none⟩,.read,0,1,24⟩,⟨⟨(some 9),(.call (.func (F 163)) [(.tmp 8)]),none⟩,.chain,0,0,63⟩,⟨⟨(some 10),(.faddr 5 (.tmp 1)),none⟩,.pure,0,0,63⟩,⟨⟨none,(.store 1 (.tmp 10) (.tmp 5)),none⟩,.chain,0,0,255⟩,⟨⟨(some 11),(.faddr 6 (.tmp 1)),none⟩,.pure,0,0,511⟩,⟨⟨(some 12),(.faddr 6 (.tmp 11)),none⟩,.pure,0,0,1023⟩,⟨⟨none,(.store 1 (.tmp 12) (.tmp 9)),none⟩,.chain,0,0,2047⟩]) (.seq (.ops [⟨(some 13),(.load true 13 (.tmp 1)),none⟩,⟨none,(.store 13 (.tmp 2) (.tmp 13)),none⟩]) .ret)))
def a15 (F:Nat->FuncId) (T:Nat->TypeId):AC:=(.seq (.ops [⟨(some 3),(.box 13 (.tmp 1)),none⟩,⟨(some 4),(.mv (.const (.int .i64 (.ofNat 0)))),none⟩]) (.seq (.block 0 (.seq (.ops [⟨(some 6),(.mv (.tmp 0)),none⟩,⟨(some 7),(.eql false .ptr (.tmp 6) (.const (.pointer none))),none⟩,⟨(some 5),(.mv (.tmp 7)),none⟩]) (.cond (.tmp 5) (.seq (.ops [⟨(some 4),(.mv (.const (.int .i64 (.negSucc 0)))),none⟩]) .ret) (.seq (.drawn 0 [⟨⟨(some 9),(.faddr 0 (.tmp 3)),none⟩,.pure,0,0,0⟩,⟨⟨(some 10),(.load false 1 (.tmp 9)),none⟩,.read,0,0,1⟩,⟨⟨(some 11),(.eql false .pi (.tmp 10) (.const (.int .i64 (.ofNat 1)))),none⟩,.pure,0,0,3⟩,⟨⟨(some 12),(.mv (.tmp 11)),none⟩,.pure,0,0,7⟩,⟨⟨(some 13),(.mv (.tmp 0)),(some ⟨12,true⟩)⟩,.pure,0,0,15⟩,⟨⟨(some 14),(.call (.func (F 14)) [(.tmp 13)]),(some ⟨12,true⟩)⟩,.chain,0,0,31⟩,⟨⟨(some 15),(.fld 1 1 false (.tmp 14)),(some ⟨12,true⟩)⟩,.pure,0,0,63⟩,⟨⟨(some 16),(.lenS (.tmp 15)),(some ⟨12,true⟩)⟩,.pure,0,0,127⟩,⟨⟨(some 17),(.mv (.tmp 0)),(some ⟨12,true⟩)⟩,.pure,0,0,15⟩,⟨⟨(some 18),(.nilchk (.tmp 17)),(some ⟨12,true⟩)⟩,.pure,0,0,271⟩,⟨⟨(some 19),(.faddr 2 (.tmp 18)),(some ⟨12,true⟩)⟩,.pure,0,0,783⟩,⟨⟨(some 20),(.faddr 0 (.tmp 19)),(some ⟨12,true⟩)⟩,.pure,0,0,1807⟩,⟨⟨(some 21),(.load false 1 (.tmp 20)),(some ⟨12,true⟩)⟩,.read,0,1,3855⟩,⟨⟨(some 22),(.arith .geq (.tmp 16) (.tmp 21)),(some ⟨12,true⟩)⟩,.pure,0,0,8191⟩,⟨⟨(some 23),(.pick (.tmp 12) (.tmp 22) (.const (.bool false))),none⟩,.pure,0,0,16383⟩,⟨⟨(some 8),(.mv (.tmp 23)),none⟩,.pure,0,0,32767⟩]) (.cond (.tmp 8) (.seq (.ops [⟨(some 24),(.mv (.tmp 0)),none⟩,⟨(some 25),(.nilchk (.tmp 24)),none⟩,⟨(some 26),(.faddr 0 (.tmp 25)),none⟩,⟨(some 27),(.load true 1 (.tmp 26)),none⟩,⟨(some 28),(.build zEvent [⟨0,⟨1,(.const (.int .i64 (.ofNat 29)))⟩⟩,⟨1,⟨1,(.const (.int .i64 (.ofNat 3)))⟩⟩]),none⟩,⟨(some 29),(.call (.func (F 53)) [(.tmp 27),(.tmp 28)]),none⟩]) (.seq (.ops [⟨(some 4),(.mv (.const (.int .i64 (.negSucc 0)))),none⟩]) .ret)) (.seq (.drawn 0 [⟨⟨(some 31),(.mv (.tmp 0)),none⟩,.pure,0,0,0⟩,⟨⟨(some 32),(.nilchk (.tmp 31)),none⟩,.pure,0,0,1⟩,⟨⟨(some 33),(.faddr 0 (.tmp 32)),none⟩,.pure,0,0,3⟩,⟨⟨(some 34),(.load true 1 (.tmp 33)),none⟩,.read,0,0,7⟩,⟨⟨(some 35),(.load true 13 (.tmp 3)),none⟩,.read,0,0,0⟩,⟨⟨(some 36),(.call (.func (F 53)) [(.tmp 34),(.tmp 35)]),none⟩,.chain,0,0,31⟩,⟨⟨(some 37),(.eql true .pi (.tmp 36) (.const (.int .i64 (.ofNat 0)))),none⟩,.pure,0,0,63⟩,⟨⟨(some 30),(.mv (.tmp 37)),none⟩,.pure,0,0,127⟩]) (.cond (.tmp 30) (.seq (.ops [⟨(some 4),(.mv (.const (.int .i64 (.negSucc 0)))),none⟩]) .ret) .skip))))))) (.seq (.seq (.ops [⟨(some 38),(.faddr 0 (.tmp 3)),none⟩,⟨(some 39),(.load false 1 (.tmp 38)),none⟩]) (.block 1 (.seq (.seq (.ops [⟨(some 41),(.eql false .pi (.tmp 39) (.const (.int .i64 (.ofNat 1)))),none⟩,⟨(some 40),(.mv (.tmp 41)),none⟩]) (.cond (.tmp 40) .skip (.seq (.ops [⟨(some 42),(.eql false .pi (.tmp 39) (.const (.int .i64 (.ofNat 2)))),none⟩,⟨(some 40),(.mv (.tmp 42)),none⟩]) (.cond (.tmp 40) .skip (.seq (.ops [⟨(some 43),(.eql false .pi (.tmp 39) (.const (.int .i64 (.ofNat 15)))),none⟩,⟨(some 40),(.mv (.tmp 43)),none⟩]) (.cond (.tmp 40) .skip (.ops [⟨(some 44),(.eql false .pi (.tmp 39) (.const (.int .i64 (.ofNat 17)))),none⟩,⟨(some 40),(.mv (.tmp 44)),none⟩]))))))) (.cond (.tmp 40) (.seq (.ops [⟨(some 45),(.mv (.tmp 0)),none⟩,⟨(some 46),(.call (.func (F 14)) [(.tmp 45)]),none⟩,⟨(some 47),(.fld 15 1 false (.tmp 46)),none⟩,⟨(some 48),(.arith .sub (.tmp 47) (.const (.int .i64 (.ofNat 1)))),none⟩,⟨(some 4),(.mv (.tmp 48)),none⟩]) .ret) .skip)))) (.seq (.ops [⟨(some 4),(.mv (.const (.int .i64 (.ofNat 0)))),none⟩]) .ret))))
def a14 (F:Nat->FuncId) (T:Nat->TypeId):AC:=(.seq (.ops [⟨(some 2),(.alloc 25 zState),none⟩]) (.seq (.ops [⟨(some 3),(.mv (.tmp 0)),none⟩,⟨(some 4),(.call (.func (F 24)) [(.tmp 3)]),none⟩,⟨(some 5),(.call (.func (F 52)) [(.tmp 4)]),none⟩,⟨none,(.store 25 (.tmp 2) (.tmp 5)),none⟩]) .ret))
def a24 (F:Nat->FuncId) (T:Nat->TypeId):AC:=(.seq (.ops [⟨(some 2),(.mv (.const (.pointer none))),none⟩]) (.seq (.seq (.ops [⟨(some 3),(.mv (.tmp 0)),none⟩,⟨(some 4),(.eql false .ptr (.tmp 3) (.const (.pointer none))),none⟩]) (.cond (.tmp 4) (.seq (.ops [⟨(some 2),(.mv (.const (.pointer none))),none⟩]) .ret) .skip)) (.seq (.ops [⟨(some 5),(.mv (.tmp 0)),none⟩,⟨(some 6),(.nilchk (.tmp 5)),none⟩,⟨(some 7),(.faddr 0 (.tmp 6)),none⟩,⟨(some 8),(.faddr 0 (.tmp 7)),none⟩,⟨(some 9),(.load false 1 (.tmp 8)),none⟩,⟨(some 2),(.mv (.tmp 9)),none⟩]) .ret)))
def a52 (F:Nat->FuncId) (T:Nat->TypeId):AC:=(.seq (.ops [⟨(some 2),(.alloc 25 zState),none⟩]) (.seq (.seq (.ops [⟨(some 3),(.mv (.tmp 0)),none⟩,⟨(some 4),(.eql false .ptr (.tmp 3) (.const (.pointer none))),none⟩]) (.cond (.tmp 4) (.seq (.ops [⟨(some 5),(.build zState []),none⟩,⟨none,(.store 25 (.tmp 2) (.tmp 5)),none⟩]) .ret) .skip)) (.seq (.ops [⟨(some 6),(.mv (.tmp 0)),none⟩,⟨(some 7),(.nilchk (.tmp 6)),none⟩,⟨(some 8),(.faddr 26 (.tmp 7)),none⟩,⟨(some 9),(.load true 25 (.tmp 8)),none⟩,⟨(some 10),(.call (.func (F 107)) [(.tmp 9)]),none⟩,⟨none,(.store 25 (.tmp 2) (.tmp 10)),none⟩]) .ret)))
def a53 (F:Nat->FuncId) (T:Nat->TypeId):AC:=(.seq (.ops [⟨(some 2),(.box 1 (.tmp 0)),none⟩,⟨(some 3),(.box 13 (.tmp 1)),none⟩,⟨(some 4),(.mv (.const (.int .i64 (.ofNat 0)))),none⟩]) (.seq (.ops [⟨(some 5),(.faddr 0 (.tmp 2)),none⟩,⟨(some 6),(.load false 1 (.tmp 5)),none⟩,⟨(some 7),(.load true 13 (.tmp 3)),none⟩,⟨(some 8),(.call (.func (F 108)) [(.tmp 6),(.tmp 7)]),none⟩,⟨(some 4),(.mv (.tmp 8)),none⟩]) .ret))
def a261 (F:Nat->FuncId) (T:Nat->TypeId):AC:=(.seq (.ops [⟨(some 2),(.box 13 (.tmp 0)),none⟩]) (.ops [⟨(some 3),(.load false 1 (.tmp 1)),none⟩,⟨(some 4),(.faddr 1 (.tmp 2)),none⟩,⟨(some 5),(.load false 1 (.tmp 4)),none⟩,⟨(some 6),(.call (.func (F 262)) [(.tmp 3),(.tmp 5)]),none⟩]))
def a265 (F:Nat->FuncId) (T:Nat->TypeId):AC:=(.seq (.ops [⟨(some 2),(.box 13 (.tmp 0)),none⟩]) (.ops [⟨(some 3),(.load false 1 (.tmp 1)),none⟩,⟨(some 4),(.faddr 2 (.tmp 2)),none⟩,⟨(some 5),(.load false 1 (.tmp 4)),none⟩,⟨(some 6),(.faddr 1 (.tmp 2)),none⟩,⟨(some 7),(.load false 1 (.tmp 6)),none⟩,⟨(some 8),(.faddr 1 (.tmp 2)),none⟩,⟨(some 9),(.load false 1 (.tmp 8)),none⟩,⟨(some 10),(.faddr 3 (.tmp 2)),none⟩,⟨(some 11),(.load false 1 (.tmp 10)),none⟩,⟨(some 12),(.faddr 4 (.tmp 2)),none⟩,⟨(some 13),(.load false 1 (.tmp 12)),none⟩,⟨(some 14),(.eql false .pi (.tmp 13) (.const (.int .i64 (.ofNat 1)))),none⟩,⟨(some 15),(.build zObj [⟨1,⟨1,(.tmp 5)⟩⟩,⟨2,⟨1,(.tmp 7)⟩⟩,⟨3,⟨1,(.tmp 9)⟩⟩,⟨4,⟨1,(.tmp 11)⟩⟩,⟨7,⟨1,(.tmp 14)⟩⟩]),none⟩,⟨(some 16),(.call (.func (F 105)) [(.tmp 3),(.tmp 15),(.const (.bool false))]),none⟩]))
def a284 (F:Nat->FuncId) (T:Nat->TypeId):AC:=(.seq (.ops [⟨(some 2),(.box 13 (.tmp 0)),none⟩]) (.drawn 0 [⟨⟨(some 3),(.load false 1 (.tmp 1)),none⟩,.read,0,0,0⟩,⟨⟨(some 4),(.load false 1 (.tmp 1)),none⟩,.read,0,1,0⟩,⟨⟨(some 5),(.faddr 1 (.tmp 2)),none⟩,.pure,0,0,0⟩,⟨⟨(some 6),(.load false 1 (.tmp 5)),none⟩,.read,0,0,4⟩,⟨⟨(some 7),(.faddr 2 (.tmp 2)),none⟩,.pure,0,0,0⟩,⟨⟨(some 8),(.load false 1 (.tmp 7)),none⟩,.read,0,1,16⟩,⟨⟨(some 9),(.nilchk (.tmp 3)),none⟩,.pure,0,0,13⟩,⟨⟨(some 10),(.faddr 0 (.tmp 9)),none⟩,.pure,0,0,77⟩,⟨⟨(some 11),(.faddr 23 (.tmp 10)),none⟩,.pure,0,0,205⟩,⟨⟨none,(.store 1 (.tmp 11) (.tmp 6)),none⟩,.chain,0,0,461⟩,⟨⟨(some 12),(.nilchk (.tmp 4)),none⟩,.pure,0,0,1023⟩,⟨⟨(some 13),(.faddr 0 (.tmp 12)),none⟩,.pure,0,0,2047⟩,⟨⟨(some 14),(.faddr 24 (.tmp 13)),none⟩,.pure,0,0,4095⟩,⟨⟨none,(.store 1 (.tmp 14) (.tmp 8)),none⟩,.chain,0,0,8191⟩]))
def a202 (F:Nat->FuncId) (T:Nat->TypeId):AC:=(.seq (.ops [⟨(some 4),(.alloc 4 [(.bool false),(.bool false),(.bool false),.nilFunc]),none⟩]) (.seq (.seq (.ops [⟨(some 9),(.mv (.tmp 0)),none⟩,⟨(some 10),(.call (.func (F 224)) [(.tmp 9)]),none⟩,⟨(some 11),(.mv (.tmp 0)),none⟩,⟨(some 12),(.call (.func (F 225)) [(.tmp 11)]),none⟩,⟨(some 13),(.mv (.tmp 0)),none⟩,⟨(some 14),(.call (.func (F 226)) [(.tmp 13)]),none⟩,⟨(some 15),(.bslice 1 3 [(.map none)] [⟨0,(.tmp 10)⟩,⟨1,(.tmp 12)⟩,⟨2,(.tmp 14)⟩]),none⟩,⟨(some 16),(.lenS (.tmp 15)),none⟩,⟨(some 17),(.mv (.const (.int .i64 (.ofNat 0)))),none⟩]) (.block 0 (.loop (.seq (.ops [⟨(some 18),(.arith .lss (.tmp 17) (.tmp 16)),none⟩]) (.seq (.cond (.tmp 18) .skip (.exit 0)) (.seq (.block 1 (.seq (.ops [⟨(some 19),(.iaddrS 1 (.tmp 15) (.tmp 17)),none⟩,⟨(some 20),(.load false 1 (.tmp 19)),none⟩,⟨(some 6),(.mv (.tmp 20)),none⟩]) (.seq (.ops [⟨(some 22),(.mv (.tmp 6)),none⟩,⟨(some 23),(.mv (.tmp 1)),none⟩,⟨(some 24),(.look .pi (.agg [(.bool false),(.bool false),(.bool false),.nilFunc]) true (.tmp 22) (.tmp 23)),none⟩,⟨(some 21),(.mv (.tmp 24)),none⟩,⟨(some 25),(.extract (.tmp 21) 0),none⟩,⟨(some 26),(.extract (.tmp 21) 1),none⟩,⟨(some 7),(.alloc 4 [(.bool false),(.bool false),(.bool false),.nilFunc]),none⟩,⟨none,(.store 4 (.tmp 7) (.tmp 25)),none⟩,⟨(some 8),(.mv (.tmp 26)),none⟩]) (.seq (.ops [⟨(some 27),(.mv (.tmp 8)),none⟩]) (.cond (.tmp 27) (.seq (.ops [⟨(some 28),(.load true 4 (.tmp 7)),none⟩,⟨none,(.store 4 (.tmp 4) (.tmp 28)),none⟩]) .ret) .skip))))) (.ops [⟨(some 29),(.arith .add (.tmp 17) (.const (.int .i64 (.ofNat 1)))),none⟩,⟨(some 17),(.mv (.tmp 29)),none⟩]))))))) (.seq (.ops [⟨(some 30),(.build [(.bool false),(.bool false),(.bool false),.nilFunc] [⟨3,⟨1,(.func (F 227))⟩⟩]),none⟩,⟨none,(.store 4 (.tmp 4) (.tmp 30)),none⟩]) .ret)))
def a224 (F:Nat->FuncId) (T:Nat->TypeId):AC:=(.seq (.ops [⟨(some 1),(.box 1 (.tmp 0)),none⟩,⟨(some 2),(.mv (.const (.map none))),none⟩]) (.seq (.ops [⟨(some 4),(.mkfn (F 247) [] [(.tmp 1)]),none⟩,⟨(some 3),(.mv (.tmp 4)),none⟩]) (.seq (.drawn 1 [⟨⟨(some 5),.mkmap,none⟩,.dmap,0,0,0⟩,⟨⟨(some 6),(.mv (.tmp 3)),none⟩,.pure,0,0,0⟩,⟨⟨(some 7),(.call (.tmp 6) [(.func (F 250))]),none⟩,.chain,0,0,2⟩,⟨⟨none,(.ins true .pi (.tmp 5) (.const (.int .i64 (.ofNat 3))) (.tmp 7)),none⟩,.dins,0,0,7⟩,⟨⟨(some 8),(.mv (.tmp 3)),none⟩,.pure,0,0,0⟩,⟨⟨(some 9),(.call (.tmp 8) [(.func (F 251))]),none⟩,.chain,0,0,22⟩,⟨⟨none,(.ins true .pi (.tmp 5) (.const (.int .i64 (.ofNat 4))) (.tmp 9)),none⟩,.dins,0,0,55⟩,⟨⟨(some 10),(.mv (.tmp 3)),none⟩,.pure,0,0,0⟩,⟨⟨(some 11),(.call (.tmp 10) [(.func (F 252))]),none⟩,.chain,0,0,182⟩,⟨⟨none,(.ins true .pi (.tmp 5) (.const (.int .i64 (.ofNat 14))) (.tmp 11)),none⟩,.dins,0,0,439⟩,⟨⟨(some 12),(.mv (.tmp 3)),none⟩,.pure,0,0,0⟩,⟨⟨(some 13),(.call (.tmp 12) [(.func (F 253))]),none⟩,.chain,0,0,1462⟩,⟨⟨none,(.ins true .pi (.tmp 5) (.const (.int .i64 (.ofNat 5))) (.tmp 13)),none⟩,.dins,0,0,3511⟩,⟨⟨(some 14),(.mv (.tmp 3)),none⟩,.pure,0,0,0⟩,⟨⟨(some 15),(.call (.tmp 14) [(.func (F 255))]),none⟩,.chain,0,0,11702⟩,⟨⟨none,(.ins true .pi (.tmp 5) (.const (.int .i64 (.ofNat 6))) (.tmp 15)),none⟩,.dins,0,0,28087⟩,⟨⟨(some 16),(.mv (.tmp 3)),none⟩,.pure,0,0,0⟩,⟨⟨(some 17),(.call (.tmp 16) [(.func (F 256))]),none⟩,.chain,0,0,93622⟩,⟨⟨none,(.ins true .pi (.tmp 5) (.const (.int .i64 (.ofNat 11))) (.tmp 17)),none⟩,.dins,0,0,224695⟩,⟨⟨(some 18),(.mv (.tmp 3)),none⟩,.pure,0,0,0⟩,⟨⟨(some 19),(.call (.tmp 18) [(.func (F 257))]),none⟩,.chain,0,0,748982⟩,⟨⟨none,(.ins true .pi (.tmp 5) (.const (.int .i64 (.ofNat 12))) (.tmp 19)),none⟩,.dins,0,0,1797559⟩,⟨⟨(some 20),(.mv (.tmp 3)),none⟩,.pure,0,0,0⟩,⟨⟨(some 21),(.call (.tmp 20) [(.func (F 258))]),none⟩,.chain,0,0,5991862⟩,⟨⟨none,(.ins true .pi (.tmp 5) (.const (.int .i64 (.ofNat 13))) (.tmp 21)),none⟩,.dins,0,0,14380471⟩,⟨⟨(some 22),(.load false 1 (.tmp 1)),none⟩,.read,0,8,0⟩,⟨⟨(some 23),(.mkfn (F 259) [(.tmp 22)] []),none⟩,.pure,0,0,33554432⟩,⟨⟨(some 24),(.build [(.bool false),(.bool false),(.bool false),.nilFunc] [⟨1,⟨1,(.const (.bool true))⟩⟩,⟨2,⟨1,(.const (.bool true))⟩⟩,⟨3,⟨1,(.tmp 23)⟩⟩]),none⟩,.pure,0,0,100663296⟩,⟨⟨none,(.ins true .pi (.tmp 5) (.const (.int .i64 (.ofNat 10))) (.tmp 24)),none⟩,.dins,0,0,234881025⟩,⟨⟨(some 25),(.load false 1 (.tmp 1)),none⟩,.read,0,8,0⟩,⟨⟨(some 26),(.mkfn (F 260) [(.tmp 25)] []),none⟩,.pure,0,0,536870912⟩,⟨⟨(some 27),(.build [(.bool false),(.bool false),(.bool false),.nilFunc] [⟨1,⟨1,(.const (.bool true))⟩⟩,⟨3,⟨1,(.tmp 26)⟩⟩]),none⟩,.pure,0,0,1610612736⟩,⟨⟨none,(.ins true .pi (.tmp 5) (.const (.int .i64 (.ofNat 2))) (.tmp 27)),none⟩,.dins,0,0,3758096385⟩,⟨⟨(some 28),(.mkfn (F 261) [] [(.tmp 1)]),none⟩,.pure,0,0,0⟩,⟨⟨(some 29),(.build [(.bool false),(.bool false),(.bool false),.nilFunc] [⟨1,⟨1,(.const (.bool true))⟩⟩,⟨3,⟨1,(.tmp 28)⟩⟩]),none⟩,.pure,0,0,8589934592⟩,⟨⟨none,(.ins true .pi (.tmp 5) (.const (.int .i64 (.ofNat 25))) (.tmp 29)),none⟩,.dins,0,0,25769803777⟩,⟨⟨(some 30),(.mv (.tmp 5)),none⟩,.pure,0,0,68719476735⟩,⟨⟨(some 2),(.mv (.tmp 30)),none⟩,.pure,0,0,137438953471⟩]) .ret)))
def a225 (F:Nat->FuncId) (T:Nat->TypeId):AC:=(.seq (.ops [⟨(some 1),(.box 1 (.tmp 0)),none⟩,⟨(some 2),(.mv (.const (.map none))),none⟩]) (.seq (.ops [⟨(some 4),(.mkfn (F 263) [] [(.tmp 1)]),none⟩,⟨(some 3),(.mv (.tmp 4)),none⟩]) (.seq (.drawn 1 [⟨⟨(some 5),.mkmap,none⟩,.dmap,0,0,0⟩,⟨⟨(some 6),(.mkfn (F 265) [] [(.tmp 1)]),none⟩,.pure,0,0,0⟩,⟨⟨(some 7),(.build [(.bool false),(.bool false),(.bool false),.nilFunc] [⟨0,⟨1,(.const (.bool true))⟩⟩,⟨3,⟨1,(.tmp 6)⟩⟩]),none⟩,.pure,0,0,2⟩,⟨⟨none,(.ins true .pi (.tmp 5) (.const (.int .i64 (.ofNat 1))) (.tmp 7)),none⟩,.dins,0,0,7⟩,⟨⟨(some 8),(.mv (.tmp 3)),none⟩,.pure,0,0,0⟩,⟨⟨(some 9),(.call (.tmp 8) [(.func (F 266))]),none⟩,.chain,0,0,16⟩,⟨⟨none,(.ins true .pi (.tmp 5) (.const (.int .i64 (.ofNat 7))) (.tmp 9)),none⟩,.dins,0,0,49⟩,⟨⟨(some 10),(.mv (.tmp 3)),none⟩,.pure,0,0,0⟩,⟨⟨(some 11),(.call (.tmp 10) [(.func (F 267))]),none⟩,.chain,0,0,176⟩,⟨⟨none,(.ins true .pi (.tmp 5) (.const (.int .i64 (.ofNat 8))) (.tmp 11)),none⟩,.dins,0,0,433⟩,⟨⟨(some 12),(.mv (.tmp 3)),none⟩,.pure,0,0,0⟩,⟨⟨(some 13),(.call (.tmp 12) [(.func (F 268))]),none⟩,.chain,0,0,1456⟩,⟨⟨none,(.ins true .pi (.tmp 5) (.const (.int .i64 (.ofNat 9))) (.tmp 13)),none⟩,.dins,0,0,3505⟩,⟨⟨(some 14),(.mv (.tmp 3)),none⟩,.pure,0,0,0⟩,⟨⟨(some 15),(.call (.tmp 14) [(.func (F 269))]),none⟩,.chain,0,0,11696⟩,⟨⟨none,(.ins true .pi (.tmp 5) (.const (.int .i64 (.ofNat 23))) (.tmp 15)),none⟩,.dins,0,0,28081⟩,⟨⟨(some 16),(.mv (.tmp 3)),none⟩,.pure,0,0,0⟩,⟨⟨(some 17),(.call (.tmp 16) [(.func (F 270))]),none⟩,.chain,0,0,93616⟩,⟨⟨none,(.ins true .pi (.tmp 5) (.const (.int .i64 (.ofNat 24))) (.tmp 17)),none⟩,.dins,0,0,224689⟩,⟨⟨(some 18),(.load false 1 (.tmp 1)),none⟩,.read,0,5,0⟩,⟨⟨(some 19),(.mkfn (F 271) [(.tmp 18)] []),none⟩,.pure,0,0,524288⟩,⟨⟨(some 20),(.build [(.bool false),(.bool false),(.bool false),.nilFunc] [⟨0,⟨1,(.const (.bool true))⟩⟩,⟨3,⟨1,(.tmp 19)⟩⟩]),none⟩,.pure,0,0,1572864⟩,⟨⟨none,(.ins true .pi (.tmp 5) (.const (.int .i64 (.ofNat 20))) (.tmp 20)),none⟩,.dins,0,0,3670017⟩,⟨⟨(some 21),(.mkfn (F 272) [] [(.tmp 1)]),none⟩,.pure,0,0,0⟩,⟨⟨(some 22),(.build [(.bool false),(.bool false),(.bool false),.nilFunc] [⟨0,⟨1,(.const (.bool true))⟩⟩,⟨3,⟨1,(.tmp 21)⟩⟩]),none⟩,.pure,0,0,8388608⟩,⟨⟨none,(.ins true .pi (.tmp 5) (.const (.int .i64 (.ofNat 21))) (.tmp 22)),none⟩,.dins,0,0,25165825⟩,⟨⟨(some 23),(.load false 1 (.tmp 1)),none⟩,.read,0,5,0⟩,⟨⟨(some 24),(.mkfn (F 273) [(.tmp 23)] []),none⟩,.pure,0,0,67108864⟩,⟨⟨(some 25),(.build [(.bool false),(.bool false),(.bool false),.nilFunc] [⟨0,⟨1,(.const (.bool true))⟩⟩,⟨3,⟨1,(.tmp 24)⟩⟩]),none⟩,.pure,0,0,201326592⟩,⟨⟨none,(.ins true .pi (.tmp 5) (.const (.int .i64 (.ofNat 26))) (.tmp 25)),none⟩,.dins,0,0,469762049⟩,⟨⟨(some 26),(.mv (.tmp 5)),none⟩,.pure,0,0,1073741823⟩,⟨⟨(some 2),(.mv (.tmp 26)),none⟩,.pure,0,0,2147483647⟩]) .ret)))
def a226 (F:Nat->FuncId) (T:Nat->TypeId):AC:=(.seq (.ops [⟨(some 1),(.box 1 (.tmp 0)),none⟩,⟨(some 2),(.mv (.const (.map none))),none⟩]) (.seq (.ops [⟨(some 3),.mkmap,none⟩,⟨(some 4),(.mkfn (F 274) [] [(.tmp 1)]),none⟩,⟨(some 5),(.build [(.bool false),(.bool false),(.bool false),.nilFunc] [⟨3,⟨1,(.tmp 4)⟩⟩]),none⟩,⟨none,(.ins true .pi (.tmp 3) (.const (.int .i64 (.ofNat 15))) (.tmp 5)),none⟩,⟨(some 6),(.mkfn (F 276) [] [(.tmp 1)]),none⟩,⟨(some 7),(.build [(.bool false),(.bool false),(.bool false),.nilFunc] [⟨3,⟨1,(.tmp 6)⟩⟩]),none⟩,⟨none,(.ins true .pi (.tmp 3) (.const (.int .i64 (.ofNat 17))) (.tmp 7)),none⟩,⟨(some 8),(.mkfn (F 277) [] [(.tmp 1)]),none⟩,⟨(some 9),(.build [(.bool false),(.bool false),(.bool false),.nilFunc] [⟨3,⟨1,(.tmp 8)⟩⟩]),none⟩,⟨none,(.ins true .pi (.tmp 3) (.const (.int .i64 (.ofNat 16))) (.tmp 9)),none⟩,⟨(some 10),(.mkfn (F 279) [] [(.tmp 1)]),none⟩,⟨(some 11),(.build [(.bool false),(.bool false),(.bool false),.nilFunc] [⟨3,⟨1,(.tmp 10)⟩⟩]),none⟩,⟨none,(.ins true .pi (.tmp 3) (.const (.int .i64 (.ofNat 18))) (.tmp 11)),none⟩,⟨(some 12),(.mkfn (F 280) [] [(.tmp 1)]),none⟩,⟨(some 13),(.build [(.bool false),(.bool false),(.bool false),.nilFunc] [⟨3,⟨1,(.tmp 12)⟩⟩]),none⟩,⟨none,(.ins true .pi (.tmp 3) (.const (.int .i64 (.ofNat 19))) (.tmp 13)),none⟩,⟨(some 14),(.mkfn (F 281) [] [(.tmp 1)]),none⟩,⟨(some 15),(.build [(.bool false),(.bool false),(.bool false),.nilFunc] [⟨3,⟨1,(.tmp 14)⟩⟩]),none⟩,⟨none,(.ins true .pi (.tmp 3) (.const (.int .i64 (.ofNat 22))) (.tmp 15)),none⟩,⟨(some 16),(.mkfn (F 282) [] [(.tmp 1)]),none⟩,⟨(some 17),(.build [(.bool false),(.bool false),(.bool false),.nilFunc] [⟨3,⟨1,(.tmp 16)⟩⟩]),none⟩,⟨none,(.ins true .pi (.tmp 3) (.const (.int .i64 (.ofNat 27))) (.tmp 17)),none⟩,⟨(some 18),(.load false 1 (.tmp 1)),none⟩,⟨(some 19),(.mkfn (F 283) [(.tmp 18)] []),none⟩,⟨(some 20),(.build [(.bool false),(.bool false),(.bool false),.nilFunc] [⟨3,⟨1,(.tmp 19)⟩⟩]),none⟩,⟨none,(.ins true .pi (.tmp 3) (.const (.int .i64 (.ofNat 28))) (.tmp 20)),none⟩,⟨(some 21),(.mkfn (F 284) [] [(.tmp 1)]),none⟩,⟨(some 22),(.build [(.bool false),(.bool false),(.bool false),.nilFunc] [⟨3,⟨1,(.tmp 21)⟩⟩]),none⟩,⟨none,(.ins true .pi (.tmp 3) (.const (.int .i64 (.ofNat 29))) (.tmp 22)),none⟩,⟨(some 23),(.mv (.tmp 3)),none⟩,⟨(some 2),(.mv (.tmp 23)),none⟩]) .ret))
def a247 (F:Nat->FuncId) (T:Nat->TypeId):AC:=(.seq (.ops [⟨(some 2),(.box 1 (.tmp 0)),none⟩,⟨(some 3),(.alloc 4 [(.bool false),(.bool false),(.bool false),.nilFunc]),none⟩]) (.seq (.ops [⟨(some 4),(.mkfn (F 248) [] [(.tmp 2),(.tmp 1)]),none⟩,⟨(some 5),(.build [(.bool false),(.bool false),(.bool false),.nilFunc] [⟨1,⟨1,(.const (.bool true))⟩⟩,⟨2,⟨1,(.const (.bool true))⟩⟩,⟨3,⟨1,(.tmp 4)⟩⟩]),none⟩,⟨none,(.store 4 (.tmp 3) (.tmp 5)),none⟩]) .ret))
def a263 (F:Nat->FuncId) (T:Nat->TypeId):AC:=(.seq (.ops [⟨(some 2),(.box 1 (.tmp 0)),none⟩,⟨(some 3),(.alloc 4 [(.bool false),(.bool false),(.bool false),.nilFunc]),none⟩]) (.seq (.ops [⟨(some 4),(.mkfn (F 264) [] [(.tmp 2),(.tmp 1)]),none⟩,⟨(some 5),(.build [(.bool false),(.bool false),(.bool false),.nilFunc] [⟨0,⟨1,(.const (.bool true))⟩⟩,⟨3,⟨1,(.tmp 4)⟩⟩]),none⟩,⟨none,(.store 4 (.tmp 3) (.tmp 5)),none⟩]) .ret))
structure FnK (P:Program) (K:Orc) (f:FuncId) (nt:Nat) (rs:List ResultVar) (ac:AC):Prop where
 k:∀ args H,K f args H=none
 ex:∃ fn,P.funcs[f]?=some fn∧fn.body.map (cc P fn.ntmps)=some ac∧fn.ntmps=nt∧fn.results.toList=rs∧(fn.name == "runtime.NumGoroutine")=false
theorem FnK.tri {P:Program} {K:Orc} {f:FuncId} {nt:Nat} {rs:List ResultVar} {ac:AC} (h:FnK P K f nt rs ac) {args:List AV} {s:SH} {R:AV->SH->Prop} (ha:args.length≤nt) (hw:WP P K none nt ac (sl0 0 args) [] s (Fin P rs R) (fun _ _ _ _=>False) (Fin P rs R)):Tri P K f args s R:=by
 obtain⟨fn,h1,h2,h3,h4,h5⟩:=h.ex
 refine Tri.enter (h.k args) h1 h2 h3 h4 ?_ hw
 rw [h5,h3,llen_eq,Nat.ble_eq_true_of_le ha]
 rfl
def Ty (P:Program) (t:TypeId) (n:Nat):Prop:=isAggT P t=some true∧size? P t=some n
structure Base (P:Program) (K:Orc) (F:Nat->FuncId) (T:Nat->TypeId):Prop where
 f91:FnK P K (F 91) 9 [(.tmp 4)] (a91 F T)
 f138:FnK P K (F 138) 8 [(.tmp 3)] (a138 F T)
 f106:FnK P K (F 106) 19 [(.tmp 4)] (a106 F T)
 f158:FnK P K (F 158) 22 [(.tmp 4)] (a158 F T)
 f159:FnK P K (F 159) 8 [(.cell 2 (T 45))] (a159 F T)
 f160:FnK P K (F 160) 22 [(.tmp 4)] (a160 F T)
 f161:FnK P K (F 161) 22 [(.tmp 4)] (a161 F T)
 f162:FnK P K (F 162) 8 [(.cell 2 (T 48))] (a162 F T)
 f51:FnK P K (F 51) 8 [(.tmp 2)] (a51 F T)
 f157:FnK P K (F 157) 8 [(.tmp 2)] (a157 F T)
 f163:FnK P K (F 163) 8 [(.tmp 2)] (a163 F T)
 f200:FnK P K (F 200) 8 [(.tmp 2)] (a200 F T)
 f107:FnK P K (F 107) 46 [(.cell 2 (T 41))] (a107 F T)
 f105:FnK P K (F 105) 82 [] (a105 F T)
 f136:FnK P K (F 136) 70 [(.tmp 6)] (a136 F T)
 f137:FnK P K (F 137) 33 [(.tmp 2)] (a137 F T)
 f262:FnK P K (F 262) 131 [(.cell 4 (T 45))] (a262 F T)
 f293:FnK P K (F 293) 7 [(.tmp 3)] (a293 F T)
 f294:FnK P K (F 294) 33 [(.tmp 6)] (a294 F T)
 f292:FnK P K (F 292) 42 [(.tmp 4)] (a292 F T)
 f155:FnK P K (F 155) 19 [(.tmp 4)] (a155 F T)
 f295:FnK P K (F 295) 31 [] (a295 F T)
 f164:FnK P K (F 164) 46 [(.cell 4 (T 41)),(.tmp 5)] (a164 F T)
 f203:FnK P K (F 203) 121 [(.tmp 6)] (a203 F T)
 f228:FnK P K (F 228) 7 [(.tmp 3)] (a228 F T)
 f229:FnK P K (F 229) 9 [(.tmp 4)] (a229 F T)
 f230:FnK P K (F 230) 9 [(.tmp 3)] (a230 F T)
 f231:FnK P K (F 231) 26 [(.tmp 4)] (a231 F T)
 f113:FnK P K (F 113) 19 [(.tmp 4)] (a113 F T)
 f108:FnK P K (F 108) 36 [(.tmp 4)] (a108 F T)
 f165:FnK P K (F 165) 14 [(.cell 2 (T 50))] (a165 F T)
 f15:FnK P K (F 15) 49 [(.tmp 4)] (a15 F T)
 f14:FnK P K (F 14) 6 [(.cell 2 (T 41))] (a14 F T)
 f24:FnK P K (F 24) 10 [(.tmp 2)] (a24 F T)
 f52:FnK P K (F 52) 11 [(.cell 2 (T 41))] (a52 F T)
 f53:FnK P K (F 53) 9 [(.tmp 4)] (a53 F T)
 f261:FnK P K (F 261) 7 [] (a261 F T)
 f265:FnK P K (F 265) 17 [] (a265 F T)
 f284:FnK P K (F 284) 15 [] (a284 F T)
 f202:FnK P K (F 202) 31 [(.cell 4 (T 290))] (a202 F T)
 f224:FnK P K (F 224) 31 [(.tmp 2)] (a224 F T)
 f225:FnK P K (F 225) 27 [(.tmp 2)] (a225 F T)
 f226:FnK P K (F 226) 24 [(.tmp 2)] (a226 F T)
 f247:FnK P K (F 247) 6 [(.cell 3 (T 290))] (a247 F T)
 f263:FnK P K (F 263) 6 [(.cell 3 (T 290))] (a263 F T)
 t41:Ty P (T 41) 25
 t45:Ty P (T 45) 14
 t48:Ty P (T 48) 7
 t50:Ty P (T 50) 13
 t290:Ty P (T 290) 4
end Go.Ev
namespace Go.Ev
section
variable {P:Program} {K:Orc} {rd:Option Nat} {nt:Nat} {l:Sl} {ds:List ADef} {s:SH} {Q Qn Qr:Po} {Qe:Nat->Po} {F:Nat->FuncId} {T:Nat->TypeId}
@[reducible] def nilS:AV:=.slice none 0 0 false 0
theorem cloneNil_ok {sz bytes:Nat} {z:List AV} {rw:Nat} {R:AV->SH->Prop} (hR:R nilS s) :
  WP P K none nt (cloneC sz bytes z) (sl0 0 [.slice none 0 0 false rw]) [] s (Fin P [.tmp 2] R) (fun _ _ _ _=>False) (Fin P [.tmp 2] R):=by
 unfold cloneC
 refine WP.seq (WP.ops (WO.r (.mv rfl) (WO.nil (WP.seq (WP.seq (WP.ops (WO.r (.mv rfl) (WO.r (.eql (b:=true) rfl rfl rfl) (WO.nil ?_)))))))))
 refine WP.cond rfl (fun _=>?_) (fun h=>by cases h)
 exact WP.seq (WP.ops (WO.r (.mv rfl) (WO.nil (WP.ret (Fin.mk (.tmp rfl .nil) hR)))))
theorem FnK.clone {f:FuncId} {sz bytes:Nat} {z:List AV} (h:FnK P K f 8 [.tmp 2] (cloneC sz bytes z)) {v:AV} {L:List (List AV)} (hs:Src s sz v L) (hz:sz≠0) (h1:L.length≤901000) (h2:bytes≤100000):Tri P K f [v] s (fun v' s'=>∃ n,s'=n++s∧OutL n sz v' L):=
 h.tri (by simp) (clone_ok hs hz h1 h2 fun v' n ho=>⟨n,rfl,ho⟩)
theorem FnK.cloneNil {f:FuncId} {sz bytes:Nat} {z:List AV} (h:FnK P K f 8 [.tmp 2] (cloneC sz bytes z)) {rw:Nat}:Tri P K f [.slice none 0 0 false rw] s (fun v' s'=>v'=nilS∧s'=s):=
 h.tri (by simp) (cloneNil_ok ⟨rfl,rfl⟩)
theorem perm_ct {a b:SH} (h:∀ (c:SH->Nat) (w:Nat × HO->Nat),c []=0->(∀ x y,c (x++y)=c x+c y)->(∀ p x,c (p::x)=w p+c x)->(∀ x y,x.Perm y->c x=c y)->c a=c b):a.Perm b:=by
 classical
 refine List.perm_iff_count.2 fun q=>?_
 exact h (fun l=>l.count q) (fun p=>if p == q then 1 else 0) rfl (fun x y=>List.count_append) (fun p x=>by
  rw [List.count_cons,Nat.add_comm]) (fun x y hp=>hp.count_eq q)
inductive GI:List (List AV)->List (List (List AV))->SH->Prop
 | nil:GI [] [] []
 | snoc {L:List (List AV)} {LL:List (List (List AV))} {n oi:SH} {x:AV} {lst:List (List AV)}:GI L LL n->Gr 1 x lst oi->GI (L++[[x]]) (LL++[lst]) (oi++n)
 | junk {L:List (List AV)} {LL:List (List (List AV))} {n m:SH}:GI L LL n->GI L LL (m++n)
 | perm {L:List (List AV)} {LL:List (List (List AV))} {n m:SH}:GI L LL n->n.Perm m->GI L LL m
inductive SI (s:SH):List (List AV)->List (List (List AV))->Prop
 | nil:SI s [] []
 | cons {L:List (List AV)} {LL:List (List (List AV))} {x:AV} {lst:List (List AV)}:Src s 1 x lst->SI s L LL->SI s ([x]::L) (lst::LL)
def SL (s:SH) (v:AV) (LL:List (List (List AV))):Prop:=∃ L,Src s 1 v L∧SI s L LL
def GL (v:AV) (LL:List (List (List AV))) (o:SH):Prop:=∃ L o' oi,Gr 1 v L o'∧GI L LL oi∧o=o'++oi
theorem SI.snoc {L:List (List AV)} {LL:List (List (List AV))} {x:AV} {lst:List (List AV)} (h:SI s L LL) (h1:Src s 1 x lst):SI s (L++[[x]]) (LL++[lst]):=by
 induction h with
 | nil=>exact .cons h1 .nil
 | cons h2 _ ih=>exact .cons h2 ih
theorem SI.one {L:List (List AV)} {LL:List (List (List AV))} (h:SI s L LL):L.length=LL.length∧∀ row∈L,row.length=1:=by
 induction h with
 | nil=>exact⟨rfl,fun row hr=>nomatch hr⟩
 | cons _ _ ih=>exact⟨by simp [ih.1],fun row hr=>by cases hr with | head=>rfl | tail _ hr=>exact ih.2 row hr⟩
theorem SI.get {L:List (List AV)} {LL:List (List (List AV))} (h:SI s L LL):∀ (i:Nat) row,L[i]?=some row->∃ x lst,row=[x]∧LL[i]?=some lst∧Src s 1 x lst:=by
 induction h with
 | nil=>intro i row h;simp at h
 | cons h1 _ ih=>
  intro i row h
  cases i with
  | zero=>cases h;exact⟨_,_,rfl,rfl,h1⟩
  | succ i=>exact ih i row h
theorem GI.si {L:List (List AV)} {LL:List (List (List AV))} {n:SH} (h:GI L LL n) (hn:∀ p,p∈n->p∈s):SI s L LL:=by
 induction h with
 | nil=>exact .nil
 | snoc _ hg ih=>exact(ih fun p hp=>hn p (List.mem_append_right _ hp)).snoc (hg.out.src.mono fun p hp=>hn p (List.mem_append_left _ hp))
 | junk _ ih=>exact ih fun p hp=>hn p (List.mem_append_right _ hp)
 | perm _ hp ih=>exact ih fun p hq=>hn p (hp.mem_iff.1 hq)
theorem GL.sl {v:AV} {LL:List (List (List AV))} {o:SH} (h:GL v LL o) (hn:∀ p,p∈o->p∈s):SL s v LL:=by
 obtain⟨L,o',oi,h1,h2,rfl⟩:=h
 exact⟨L,h1.out.src.mono fun p hp=>hn p (List.mem_append_left _ hp),h2.si fun p hp=>hn p (List.mem_append_right _ hp)⟩
theorem AllS.gi {L L':List (List AV)} {n:SH} {LL:List (List (List AV))} (h:AllS (fun i _ b m=>∃ lst x',LL[i]?=some lst∧b=[x']∧OutL m 1 x' lst) L L' n):L.length≤LL.length->GI L' (LL.take L.length) n:=by
 induction h with
 | @nil n=>intro _;exact .perm (.junk (m:=n) .nil) (by rw [List.append_nil])
 | @snoc a b L L' x m y n h1 h2 ih=>
  intro hlen
  rw [List.length_append] at hlen
  simp only [List.length_cons,List.length_nil] at hlen
  obtain⟨lst,x',e1,rfl,h4⟩:=h2
  obtain⟨oi,p,q,g1,rfl⟩:=h4.gr
  have e2:LL.take (L++[a]).length=LL.take L.length++[lst]:=by
   rw [List.length_append,List.length_cons,List.length_nil,Nat.zero_add,List.take_add_one,e1];rfl
  rw [e2]
  refine .perm (.junk (m:=x++(p++(q++y))) (.snoc (ih (by omega)) g1)) ?_
  exact perm_ct fun c w h0 h1 h2 _=>by simp only [h1];omega
@[reducible] def iv (n:Int):AV:=.int .i64 n
structure OD where
 id:Int
 card:Int
 owner:Int
 ctrl:Int
 zone:Int
 tapped:Bool
 sick:Bool
 token:Bool
 hurt:Int
 stamp:Int
 attack:Int
 block:Int
 stopped:Bool
@[reducible] def OD.row (o:OD):List AV:=[iv o.id,iv o.card,iv o.owner,iv o.ctrl,iv o.zone,.bool o.tapped,.bool o.sick,.bool o.token,iv o.hurt,iv o.stamp,iv o.attack,iv o.block,.bool o.stopped,nilS]
structure ID where
 id:Int
 kind:Int
 ctrl:Int
 obj:Int
 card:Int
 abil:Int
@[reducible] def ID.row (o:ID):List AV:=[iv o.id,iv o.kind,iv o.ctrl,iv o.obj,iv o.card,iv o.abil,nilS]
structure LD where
 life:Int
 m0:Int
 m1:Int
 m2:Int
 m3:Int
 f1:Bool
 f2:Bool
 f3:Bool
@[reducible] def LD.row (o:LD):List AV:=[iv o.life,iv o.m0,iv o.m1,iv o.m2,iv o.m3,.bool o.f1,.bool o.f2,.bool o.f3]
structure SD where
 pl:List LD
 ob:List OD
 lb:List (List Int)
 hd:List (List Int)
 gr:List (List Int)
 ex:List (List Int)
 fi:List Int
 st:List ID
 wa:List ID
 tu:Int
 ac:Int
 ph:Int
 pr:Int
 pa:Int
 bl:Int
 nx:Int
 sp:Int
 us:Int
 ck:Int
 co:Int
 ca:Int
 py:Bool
 oc:Int
 wi:Int
def obR (l:List OD):List (List AV):=l.map OD.row
def idR (l:List ID):List (List AV):=l.map ID.row
def plR (l:List LD):List (List AV):=l.map LD.row
def nR (l:List Int):List (List AV):=l.map fun n=>[iv n]
def nRR (l:List (List Int)):List (List (List AV)):=l.map nR
structure SD.Small (d:SD):Prop where
 n1:d.pl.length≤1000∧d.ob.length≤1000∧d.fi.length≤1000∧d.st.length≤1000∧d.wa.length≤1000
 n2:∀ LL,(LL=d.lb∨LL=d.hd∨LL=d.gr∨LL=d.ex)->LL.length≤1000∧∀ lst∈LL,lst.length≤1000
def SD.cells (d:SD) (pv ov lv hv gv ev fv sv wv:AV):List AV:=[pv,ov,lv,hv,gv,ev,fv,sv,wv,iv d.tu,iv d.ac,iv d.ph,iv d.pr,iv d.pa,iv d.bl,iv d.nx,iv d.sp,iv d.us,iv d.ck,iv d.co,iv d.ca,nilS,.bool d.py,iv d.oc,iv d.wi]
structure StD (s:SH) (pv ov lv hv gv ev fv sv wv:AV) (d:SD):Prop where
 pl:Src s 8 pv (plR d.pl)
 ob:Src s 14 ov (obR d.ob)
 lb:SL s lv (nRR d.lb)
 hd:SL s hv (nRR d.hd)
 gr:SL s gv (nRR d.gr)
 ex:SL s ev (nRR d.ex)
 fi:Src s 1 fv (nR d.fi)
 st:Src s 7 sv (idR d.st)
 wa:Src s 7 wv (idR d.wa)
structure StG (n:SH) (pv ov lv hv gv ev fv sv wv:AV) (d:SD):Prop where
 ex:∃ o1 o2 o3 o4 o5 o6 o7 o8 o9 j,n.Perm (o1++(o2++(o3++(o4++(o5++(o6++(o7++(o8++(o9++j)))))))))∧Gr 8 pv (plR d.pl) o1∧Gr 14 ov (obR d.ob) o2∧GL lv (nRR d.lb) o3∧GL hv (nRR d.hd) o4∧GL gv (nRR d.gr) o5∧GL ev (nRR d.ex) o6∧Gr 1 fv (nR d.fi) o7∧Gr 7 sv (idR d.st) o8∧Gr 7 wv (idR d.wa) o9
end
end Go.Ev
namespace Go.Ev
section
variable {P:Program} {K:Orc} {rd:Option Nat} {nt:Nat} {l:Sl} {ds:List ADef} {s:SH} {Q Qn Qr:Po} {Qe:Nat->Po} {F:Nat->FuncId} {T:Nat->TypeId}
theorem Base.c51 (hB:Base P K F T):FnK P K (F 51) 8 [.tmp 2] (cloneC 1 8 [.int .i64 (.ofNat 0)]):=hB.f51
theorem Base.c157 (hB:Base P K F T):FnK P K (F 157) 8 [.tmp 2] (cloneC 8 48 zPlayer):=hB.f157
theorem Base.c163 (hB:Base P K F T):FnK P K (F 163) 8 [.tmp 2] (cloneC 2 16 [.int .i64 (.ofNat 0),.int .i64 (.ofNat 0)]):=hB.f163
theorem Base.c200 (hB:Base P K F T):FnK P K (F 200) 8 [.tmp 2] (cloneC 4 32 [.int .i64 (.ofNat 0),.int .i64 (.ofNat 0),.int .i64 (.ofNat 0),.int .i64 (.ofNat 0)]):=hB.f200
theorem Base.c158 (hB:Base P K F T):FnK P K (F 158) 22 [.tmp 4] (eachA 14 112 zObj):=hB.f158
theorem Base.c160 (hB:Base P K F T):FnK P K (F 160) 22 [.tmp 4] (eachS 24 [nilS]):=hB.f160
theorem Base.c161 (hB:Base P K F T):FnK P K (F 161) 22 [.tmp 4] (eachA 7 72 zItem):=hB.f161
theorem Base.c113 (hB:Base P K F T):FnK P K (F 113) 19 [.tmp 4] (idxC true 7):=hB.f113
theorem Base.c229 (hB:Base P K F T):FnK P K (F 229) 9 [.tmp 4] (conC (F 113)):=hB.f229
theorem ownObj_ok (hB:Base P K F T) {a b c d e f g h i j k l m:AV}:Tri P K (F 159) [.agg [a,b,c,d,e,f,g,h,i,j,k,l,m,nilS]] s (fun w s'=>w=.agg [a,b,c,d,e,f,g,h,i,j,k,l,m,nilS]∧∃ n,s'=n++s):=by
 refine hB.f159.tri (by simp) ?_
 unfold a159
 refine WP.seq (WP.ops (WO.a (.box rfl rfl) fun b1=>WO.a (.alloc rfl) fun b2=>WO.nil ?_))
 refine WP.seq (WP.ops (WO.r (.faddr rfl) (WO.r (.load rfl (.there .here) rfl rfl rfl) (WO.w (WS.callF rfl rfl hB.c200.cloneNil ?_)))))
 rintro w _ ⟨rfl,rfl⟩
 refine WO.r (.faddr rfl) (WO.w (WS.store rfl rfl rfl (.there .here) rfl rfl (WO.nil ?_)))
 refine WP.seq (WP.ops (WO.r (.load rfl (.there .here) rfl rfl rfl) (WO.w (WS.store rfl rfl rfl .here rfl rfl (WO.nil (WP.ret (Fin.mk (.cell rfl hB.t45.1 hB.t45.2 (.inl rfl) .here rfl rfl rfl .nil) ?_)))))))
 exact⟨rfl,[_,_],rfl⟩
theorem ownItem_ok (hB:Base P K F T) {a b c d e f:AV}:Tri P K (F 162) [.agg [a,b,c,d,e,f,nilS]] s (fun w s'=>w=.agg [a,b,c,d,e,f,nilS]∧∃ n,s'=n++s):=by
 refine hB.f162.tri (by simp) ?_
 unfold a162
 refine WP.seq (WP.ops (WO.a (.box rfl rfl) fun b1=>WO.a (.alloc rfl) fun b2=>WO.nil ?_))
 refine WP.seq (WP.ops (WO.r (.faddr rfl) (WO.r (.load rfl (.there .here) rfl rfl rfl) (WO.w (WS.callF rfl rfl hB.c163.cloneNil ?_)))))
 rintro w _ ⟨rfl,rfl⟩
 refine WO.r (.faddr rfl) (WO.w (WS.store rfl rfl rfl (.there .here) rfl rfl (WO.nil ?_)))
 refine WP.seq (WP.ops (WO.r (.load rfl (.there .here) rfl rfl rfl) (WO.w (WS.store rfl rfl rfl .here rfl rfl (WO.nil (WP.ret (Fin.mk (.cell rfl hB.t48.1 hB.t48.2 (.inl rfl) .here rfl rfl rfl .nil) ?_)))))))
 exact⟨rfl,[_,_],rfl⟩
def GrJ (sz:Nat) (v:AV) (L:List (List AV)) (o:SH):Prop:=∃ o' j,o.Perm (o'++j)∧Gr sz v L o'
theorem OutL.grj {sz:Nat} {v:AV} {L:List (List AV)} {n:SH} (h:OutL n sz v L):GrJ sz v L n:=by
 obtain⟨o,x,y,h1,rfl⟩:=h.gr
 exact⟨o,x++y,perm_ct fun c w h0 h1 h2 _=>by simp only [h1];omega,h1⟩
theorem FnK.cloneJ {f:FuncId} {sz bytes:Nat} {z:List AV} (h:FnK P K f 8 [.tmp 2] (cloneC sz bytes z)) {v:AV} {L:List (List AV)} (hs:Src s sz v L) (hz:sz≠0) (h1:L.length≤901000) (h2:bytes≤100000):Tri P K f [v] s (fun v' s'=>∃ n,s'=n++s∧GrJ sz v' L n):=
 (h.clone hs hz h1 h2).post fun v' s' ⟨n,h1,h2⟩=>⟨n,h1,h2.grj⟩
theorem eachObj_ok (hB:Base P K F T) {v:AV} {L:List (List AV)} (h:Src s 14 v L) (h1:L.length≤900000) (hf:∀ row∈L,∃ a b c d e f g h i j k l m,row=[a,b,c,d,e,f,g,h,i,j,k,l,m,nilS]) :
  Tri P K (F 158) [v,.func (F 159) [] []] s (fun v' s'=>∃ o,s'=o++s∧GrJ 14 v' L o):=by
 refine hB.c158.tri (by simp) (eachA_ok (fun _ a b _=>b=a) h (by omega) rfl h1 (by omega) (fun row hr=>?_) (fun i0 row hi0 x=>?_) fun v' L' o n hG hA=>?_)
 ·obtain⟨a,b,c,d,e,f,g,h,i,j,k,l,m,rfl⟩:=hf row hr;rfl
 ·obtain⟨a,b,c,d,e,f,g,h,i,j,k,l,m,rfl⟩:=hf row (List.mem_of_getElem? hi0)
  refine TriV.func ((ownObj_ok hB).post ?_)
  rintro w _ ⟨rfl,n,rfl⟩
  exact⟨n,_,rfl,rfl,rfl⟩
 ·have:=hA.same
  subst this
  exact⟨o++n,by rw [List.append_assoc],o,n,.refl _,hG⟩
theorem eachItem_ok (hB:Base P K F T) {v:AV} {L:List (List AV)} (h:Src s 7 v L) (h1:L.length≤900000) (hf:∀ row∈L,∃ a b c d e f,row=[a,b,c,d,e,f,nilS]) :
  Tri P K (F 161) [v,.func (F 162) [] []] s (fun v' s'=>∃ o,s'=o++s∧GrJ 7 v' L o):=by
 refine hB.c161.tri (by simp) (eachA_ok (fun _ a b _=>b=a) h (by omega) rfl h1 (by omega) (fun row hr=>?_) (fun i0 row hi0 x=>?_) fun v' L' o n hG hA=>?_)
 ·obtain⟨a,b,c,d,e,f,rfl⟩:=hf row hr;rfl
 ·obtain⟨a,b,c,d,e,f,rfl⟩:=hf row (List.mem_of_getElem? hi0)
  refine TriV.func ((ownItem_ok hB).post ?_)
  rintro w _ ⟨rfl,n,rfl⟩
  exact⟨n,_,rfl,rfl,rfl⟩
 ·have:=hA.same
  subst this
  exact⟨o++n,by rw [List.append_assoc],o,n,.refl _,hG⟩
theorem OutL.part {sz:Nat} {v:AV} {L:List (List AV)} {n:SH} (h:OutL n sz v L) (hz:sz≠0):partCells 1 v=some [v]:=by
 cases h <;> rfl
theorem eachList_ok (hB:Base P K F T) {v:AV} {LL:List (List (List AV))} (h:SL s v LL) (h1:LL.length≤1000) (h2:∀ lst∈LL,lst.length≤1000) :
  Tri P K (F 160) [v,.func (F 51) [] []] s (fun v' s'=>∃ o,s'=o++s∧GL v' LL o):=by
 obtain⟨L,hL,hS⟩:=h
 refine hB.c160.tri (by simp) (eachS_ok (fun i _ b m=>∃ lst x',LL[i]?=some lst∧b=[x']∧OutL m 1 x' lst) hL (by rw [hS.one.1];omega) (by omega) hS.one.2 (fun i row hr x=>?_) fun v' L' o n hG hA=>?_)
 ·obtain⟨w,lst,rfl,hm,hw⟩:=hS.get i row hr
  refine TriV.func ((hB.c51.clone (hw.mono fun p hp=>List.mem_append_right _ hp) (by omega) (by have:=h2 lst (List.mem_of_getElem? hm);omega) (by omega)).post ?_)
  rintro w' _ ⟨n,rfl,ho⟩
  exact⟨n,[w'],rfl,ho.part (by omega),lst,w',hm,rfl,ho⟩
 ·have:=hA.gi (by rw [hS.one.1];exact Nat.le_refl _)
  rw [hS.one.1,List.take_length] at this
  exact⟨o++n,by rw [List.append_assoc],L',o,n,hG,this,rfl⟩
theorem Src.same {sz:Nat} {v:AV} {L:List (List AV)} (h:Src s sz v L):sameV v v=true:=by
 cases h with
 | nil=>simp [sameV,sameN,same0]
 | @zero a c sl rw=>cases a <;> simp [sameV,sameN,same0]
 | emp=>rfl
 | rows _ _=>simp [sameV,sameN,same0]
theorem Gr.part {sz:Nat} {v:AV} {L:List (List AV)} {n:SH} (h:Gr sz v L n):partCells 1 v=some [v]:=by
 cases h <;> rfl
theorem GrJ.part {sz:Nat} {v:AV} {L:List (List AV)} {n:SH} (h:GrJ sz v L n):partCells 1 v=some [v]:=by
 obtain⟨_,_,_,h⟩:=h
 exact h.part
theorem GL.part {v:AV} {LL:List (List (List AV))} {n:SH} (h:GL v LL n):partCells 1 v=some [v]:=by
 obtain⟨_,_,_,h,_⟩:=h
 exact h.part
theorem SI.mono {L:List (List AV)} {LL:List (List (List AV))} {s':SH} (h:SI s L LL) (hs:∀ p,p∈s->p∈s'):SI s' L LL:=by
 induction h with
 | nil=>exact .nil
 | cons k1 k2 ih=>exact .cons (k1.mono hs) ih
theorem SL.mono {v:AV} {LL:List (List (List AV))} {s':SH} (h:SL s v LL) (hs:∀ p,p∈s->p∈s'):SL s' v LL:=by
 obtain⟨L,h1,h2⟩:=h
 exact⟨L,h1.mono hs,h2.mono hs⟩
theorem SL.same {v:AV} {LL:List (List (List AV))} (h:SL s v LL):sameV v v=true:=by
 obtain⟨L,h1,_⟩:=h
 exact h1.same
theorem obR_flat (L:List OD):∀ row∈obR L,∃ a b c d e f g h i j k l m,row=[a,b,c,d,e,f,g,h,i,j,k,l,m,nilS]:=by
 intro row hr
 obtain⟨o,_,rfl⟩:=List.mem_map.1 hr
 exact⟨_,_,_,_,_,_,_,_,_,_,_,_,_,rfl⟩
theorem idR_flat (L:List ID):∀ row∈idR L,∃ a b c d e f,row=[a,b,c,d,e,f,nilS]:=by
 intro row hr
 obtain⟨o,_,rfl⟩:=List.mem_map.1 hr
 exact⟨_,_,_,_,_,_,rfl⟩
theorem nRR_len {LL:List (List Int)} (h:LL.length≤1000∧∀ lst∈LL,lst.length≤1000):(nRR LL).length≤1000∧∀ lst∈nRR LL,lst.length≤1000:=by
 refine⟨by simp only [nRR,List.length_map];exact h.1,fun lst hl=>?_⟩
 obtain⟨l,hl',rfl⟩:=List.mem_map.1 hl
 simp only [nR,List.length_map]
 exact h.2 l hl'
theorem pull {o x n s:SH} (h:x=n++s):o++x=(o++n)++s:=by rw [h,List.append_assoc]
theorem pull2 {p q:Nat × HO} {s:SH}:p::q::s=[p,q]++s:=rfl
theorem stCopy_ok (hB:Base P K F T) {pv ov lv hv gv ev fv sv wv:AV} {d:SD} (h:StD s pv ov lv hv gv ev fv sv wv d) (hd:d.Small) :
  Tri P K (F 107) [.agg (d.cells pv ov lv hv gv ev fv sv wv)] s (fun v s'=>∃ pv ov lv hv gv ev fv sv wv n,v=.agg (d.cells pv ov lv hv gv ev fv sv wv)∧s'=n++s∧StG n pv ov lv hv gv ev fv sv wv d):=by
 obtain⟨h1,h2,h3,h4,h5,h6,h7,h8,h9⟩:=h
 have hn:=hd.n1
 refine hB.f107.tri (by simp) ?_
 unfold a107
 refine WP.seq (WP.ops (WO.a (.box rfl rfl) fun b1=>WO.a (.alloc rfl) fun b2=>WO.nil ?_))
 -- players
 refine WP.seq (WP.ops (WO.r (.faddr rfl) (WO.r (.load rfl (.there .here) rfl rfl rfl) (WO.w (WS.callF rfl rfl (hB.c157.cloneJ (h1.mono fun p hp=>by simp [hp]) (by omega) (by simp only [plR,List.length_map];omega) (by omega)) ?_)))))
 rintro v1 _ ⟨o1,rfl,g1⟩
 refine WO.r (.faddr rfl) (WO.w (WS.store rfl rfl g1.part (.app (.there .here)) rfl rfl (WO.nil ?_)))
 -- objects
 refine WP.seq (WP.ops (WO.r (.faddr rfl) (WO.r (.load rfl (.app (.there .here)) rfl rfl rfl) (WO.w (WS.callF rfl rfl (eachObj_ok hB (h2.mono fun p hp=>by simp [hp]) (by simp only [obR,List.length_map];omega) (obR_flat _)) ?_)))))
 rintro v2 _ ⟨o2,rfl,g2⟩
 refine WO.r (.faddr rfl) (WO.w (WS.store rfl rfl g2.part (.app (.app (.there .here))) rfl rfl (WO.nil ?_)))
 refine WP.seq (WP.drawn0 (WD.pu (.faddr rfl) (WD.ld rfl .nil (.load rfl (.app (.app (.there .here))) rfl rfl rfl) (WD.ch .nil (WS.callF rfl rfl (eachList_ok hB (h3.mono fun p hp=>by simp [hp]) (nRR_len (hd.n2 _ (.inl rfl))).1 (nRR_len (hd.n2 _ (.inl rfl))).2) ?_)))))
 rintro v3 _ ⟨o3,rfl,g3⟩
 refine WD.pu (.faddr rfl) (WD.lk rfl .nil (.load rfl (.app (.app (.app (.there .here)))) rfl rfl rfl) (WD.ch .nil (WS.callF rfl rfl (eachList_ok hB (h4.mono fun p hp=>by simp [hp]) (nRR_len (hd.n2 _ (.inr (.inl rfl)))).1 (nRR_len (hd.n2 _ (.inr (.inl rfl)))).2) ?_)))
 rintro v4 _ ⟨o4,rfl,g4⟩
 refine WD.pu (.faddr rfl) (WD.ch .nil (WS.store rfl rfl g3.part (.app (.app (.app (.app (.there .here))))) rfl rfl (WD.pu (.faddr rfl) (WD.ch .nil (WS.store rfl rfl g4.part (.app (.app (.app (.app (.there .here))))) rfl rfl (WD.nil .nil ?_ ?_))))))
 rotate_left
 ·intro o ho
  rw [List.mem_singleton.1 ho]
  refine⟨(fun i hi=>nomatch hi),Nat.zero_le _,h4.same,fun k _ hk=>?_⟩
  rcases(by have:k≤1:=hk;omega:k=0∨k=1) with rfl|rfl
  ·exact⟨_,rfl,.load rfl (.app (.app (.there .here))) rfl rfl rfl⟩
  ·exact⟨_,rfl,.load rfl (.app (.app (.app (.there .here)))) rfl rfl rfl⟩
 refine WP.seq (WP.drawn0 (WD.pu (.faddr rfl) (WD.ld rfl .nil (.load rfl (.app (.app (.app (.app (.there .here))))) rfl rfl rfl) (WD.ch .nil (WS.callF rfl rfl (eachList_ok hB (h5.mono fun p hp=>by simp [hp]) (nRR_len (hd.n2 _ (.inr (.inr (.inl rfl))))).1 (nRR_len (hd.n2 _ (.inr (.inr (.inl rfl))))).2) ?_)))))
 rintro v5 _ ⟨o5,rfl,g5⟩
 refine WD.pu (.faddr rfl) (WD.lk rfl .nil (.load rfl (.app (.app (.app (.app (.app (.there .here)))))) rfl rfl rfl) (WD.ch .nil (WS.callF rfl rfl (eachList_ok hB (h6.mono fun p hp=>by simp [hp]) (nRR_len (hd.n2 _ (.inr (.inr (.inr rfl))))).1 (nRR_len (hd.n2 _ (.inr (.inr (.inr rfl))))).2) ?_)))
 rintro v6 _ ⟨o6,rfl,g6⟩
 refine WD.pu (.faddr rfl) (WD.ch .nil (WS.store rfl rfl g5.part (.app (.app (.app (.app (.app (.app (.there .here))))))) rfl rfl (WD.pu (.faddr rfl) (WD.ch .nil (WS.store rfl rfl g6.part (.app (.app (.app (.app (.app (.app (.there .here))))))) rfl rfl (WD.nil .nil ?_ ?_))))))
 rotate_left
 ·intro o ho
  rw [List.mem_singleton.1 ho]
  refine⟨(fun i hi=>nomatch hi),Nat.zero_le _,h6.same,fun k _ hk=>?_⟩
  rcases(by have:k≤1:=hk;omega:k=0∨k=1) with rfl|rfl
  ·exact⟨_,rfl,.load rfl (.app (.app (.app (.app (.there .here))))) rfl rfl rfl⟩
  ·exact⟨_,rfl,.load rfl (.app (.app (.app (.app (.app (.there .here)))))) rfl rfl rfl⟩
 refine WP.seq (WP.ops (WO.r (.faddr rfl) (WO.r (.load rfl (.app (.app (.app (.app (.app (.app (.there .here))))))) rfl rfl rfl) (WO.w (WS.callF rfl rfl (hB.c51.cloneJ (h7.mono fun p hp=>by simp [hp]) (by omega) (by simp only [nR,List.length_map];omega) (by omega)) ?_)))))
 rintro v7 _ ⟨o7,rfl,g7⟩
 refine WO.r (.faddr rfl) (WO.w (WS.store rfl rfl g7.part (.app (.app (.app (.app (.app (.app (.app (.there .here)))))))) rfl rfl (WO.nil ?_)))
 refine WP.seq (WP.drawn0 (WD.pu (.faddr rfl) (WD.ld rfl .nil (.load rfl (.app (.app (.app (.app (.app (.app (.app (.there .here)))))))) rfl rfl rfl) (WD.ch .nil (WS.callF rfl rfl (eachItem_ok hB (h8.mono fun p hp=>by simp [hp]) (by simp only [idR,List.length_map];omega) (idR_flat _)) ?_)))))
 rintro v8 _ ⟨o8,rfl,g8⟩
 refine WD.pu (.faddr rfl) (WD.lk rfl .nil (.load rfl (.app (.app (.app (.app (.app (.app (.app (.app (.there .here))))))))) rfl rfl rfl) (WD.ch .nil (WS.callF rfl rfl (eachItem_ok hB (h9.mono fun p hp=>by simp [hp]) (by simp only [idR,List.length_map];omega) (idR_flat _)) ?_)))
 rintro v9 _ ⟨o9,rfl,g9⟩
 refine WD.pu (.faddr rfl) (WD.ch .nil (WS.store rfl rfl g8.part (.app (.app (.app (.app (.app (.app (.app (.app (.app (.there .here)))))))))) rfl rfl (WD.pu (.faddr rfl) (WD.ch .nil (WS.store rfl rfl g9.part (.app (.app (.app (.app (.app (.app (.app (.app (.app (.there .here)))))))))) rfl rfl (WD.nil .nil ?_ ?_))))))
 rotate_left
 ·intro o ho
  rw [List.mem_singleton.1 ho]
  refine⟨(fun i hi=>nomatch hi),Nat.zero_le _,h9.same,fun k _ hk=>?_⟩
  rcases(by have:k≤1:=hk;omega:k=0∨k=1) with rfl|rfl
  ·exact⟨_,rfl,.load rfl (.app (.app (.app (.app (.app (.app (.app (.there .here)))))))) rfl rfl rfl⟩
  ·exact⟨_,rfl,.load rfl (.app (.app (.app (.app (.app (.app (.app (.app (.there .here))))))))) rfl rfl rfl⟩
 refine WP.seq (WP.ops (WO.r (.faddr rfl) (WO.r (.faddr rfl) (WO.r (.load rfl (.app (.app (.app (.app (.app (.app (.app (.app (.app (.there .here)))))))))) rfl rfl rfl) (WO.w (WS.callF rfl rfl hB.c163.cloneNil ?_))))))
 rintro w _ ⟨rfl,rfl⟩
 refine WO.r (.faddr rfl) (WO.r (.faddr rfl) (WO.w (WS.store rfl rfl rfl (.app (.app (.app (.app (.app (.app (.app (.app (.app (.there .here)))))))))) rfl rfl (WO.nil ?_))))
 refine WP.seq (WP.ops (WO.r (.load rfl (.app (.app (.app (.app (.app (.app (.app (.app (.app (.there .here)))))))))) rfl rfl rfl) (WO.w (WS.store rfl rfl rfl (.app (.app (.app (.app (.app (.app (.app (.app (.app (.here)))))))))) rfl rfl (WO.nil (WP.ret (Fin.mk (.cell rfl hB.t41.1 hB.t41.2 (.inl rfl) (.app (.app (.app (.app (.app (.app (.app (.app (.app (.here)))))))))) rfl rfl rfl .nil) ?_)))))))
 obtain⟨p1,j1,e1,g1⟩:=g1
 obtain⟨p2,j2,e2,g2⟩:=g2
 obtain⟨p7,j7,e7,g7⟩:=g7
 obtain⟨p8,j8,e8,g8⟩:=g8
 obtain⟨p9,j9,e9,g9⟩:=g9
 have fin:∀ q1 q2,StG (o9++(o8++(o7++(o6++(o5++(o4++(o3++(o2++(o1++[q1,q2]))))))))) v1 v2 v3 v4 v5 v6 v7 v8 v9 d:=fun q1 q2=>by
  refine⟨p1,p2,o3,o4,o5,o6,p7,p8,p9,j1++(j2++(j7++(j8++(j9++[q1,q2])))),perm_ct fun c w h0 h1 h2 hp=>?_,g1,g2,g3,g4,g5,g6,g7,g8,g9⟩
  simp only [h1,h2,h0,hp _ _ e1,hp _ _ e2,hp _ _ e7,hp _ _ e8,hp _ _ e9]
  omega
 exact⟨v1,v2,v3,v4,v5,v6,v7,v8,v9,_,rfl,pull (pull (pull (pull (pull (pull (pull (pull (pull pull2)))))))),fin _ _⟩
end
end Go.Ev
namespace Go.Ev
section
variable {P:Program} {K:Orc} {rd:Option Nat} {nt:Nat} {l:Sl} {ds:List ADef} {s:SH} {Q Qn Qr:Po} {Qe:Nat->Po} {F:Nat->FuncId} {T:Nat->TypeId}
theorem Tri.perm {f:FuncId} {args:List AV} {s s':SH} {R:AV->SH->Prop} (hp:s.Perm s') (h:Tri P K f args s R):Tri P K f args s' R:=
 fun H0 H hH=>h H0 H (hH.perm hp.symm)
theorem ieq_iff {a b:Int}:ieq a b=true↔a=b:=by
 cases a <;> cases b <;> simp [ieq] <;> omega
theorem ieq_dec (a b:Int):ieq a b=decide (a=b):=by
 cases h:ieq a b with
 | true=>simp [ieq_iff.1 h]
 | false=>
  have:¬ a=b:=fun e=>by rw [ieq_iff.2 e] at h;cases h
  simp [this]
theorem eqB_i (a b:Int):eqBy 20 .pi (iv a) (iv b)=some (decide (a=b)):=by
 show some (ieq a b)=_
 rw [ieq_dec]
def rowId (id:Int):List AV->Bool
 | .int _ n::_=>decide (n=id)
 | _=>false
theorem findIdx?_map' {α β:Type} (f:α->β) (p:β->Bool):∀ (l:List α),(l.map f).findIdx? p=l.findIdx? fun a=>p (f a):=by
 intro l
 induction l with
 | nil=>rfl
 | cons a l ih=>rw [List.map_cons,List.findIdx?_cons,List.findIdx?_cons,ih]
theorem even_ok (hB:Base P K F T) {pv ov lv hv gv ev fv sv wv:AV} {d:SD} (h:StD s pv ov lv hv gv ev fv sv wv d) (he:d.lb.length=d.pl.length∧d.hd.length=d.pl.length∧d.gr.length=d.pl.length∧d.ex.length=d.pl.length) :
  Tri P K (F 137) [.agg (d.cells pv ov lv hv gv ev fv sv wv)] s (fun w s'=>w=.bool true∧∃ m,s'=m++s):=by
 refine hB.f137.tri (by simp) ?_
 unfold a137
 have len:∀ {v:AV} {LL:List (List Int)},SL s v (nRR LL)->LL.length=d.pl.length->lenOf v=some d.pl.length:=by
  intro v LL ⟨L,h1,h2⟩ h3
  rw [h1.lenOf,h2.one.1]
  simp only [nRR,List.length_map,h3]
 have lp:lenOf pv=some d.pl.length:=by rw [h.pl.lenOf];simp [plR]
 have eqs:eqBy 20 .pi (.int .i64 (.ofNat d.pl.length)) (.int .i64 (.ofNat d.pl.length))=some true:=by
  show some (Nat.beq _ _)=_
  rw [bq_self]
 refine WP.seq (WP.ops (WO.a (.box rfl rfl) fun b1=>WO.r (.mv rfl) (WO.nil ?_)))
 refine WP.seq (WP.ops (WO.r (.faddr rfl) (WO.r (.load rfl .here rfl rfl rfl) (WO.r (.lenS rfl lp) (WO.r (.mv rfl) (WO.nil ?_))))))
 refine WP.seq (WP.ops (WO.r (.faddr rfl) (WO.r (.load rfl .here rfl rfl rfl) (WO.r (.lenS rfl (len h.lb he.1)) (WO.r (.mv rfl) (WO.r (.eql rfl rfl eqs) (WO.r (.mv rfl) ?_)))))))
 refine WO.guard rfl (fun _=>WO.r (.faddr rfl) ?_) (fun h=>absurd rfl h)
 refine WO.guard rfl (fun _=>WO.r (.load rfl .here rfl rfl rfl) ?_) (fun h=>absurd rfl h)
 refine WO.guard rfl (fun _=>WO.r (.lenS rfl (len h.hd he.2.1)) ?_) (fun h=>absurd rfl h)
 refine WO.guard rfl (fun _=>WO.r (.mv rfl) ?_) (fun h=>absurd rfl h)
 refine WO.guard rfl (fun _=>WO.r (.eql rfl rfl eqs) ?_) (fun h=>absurd rfl h)
 refine WO.r (.pick1 rfl rfl) (WO.r (.mv rfl) ?_)
 refine WO.guard rfl (fun _=>WO.r (.faddr rfl) ?_) (fun h=>absurd rfl h)
 refine WO.guard rfl (fun _=>WO.r (.load rfl .here rfl rfl rfl) ?_) (fun h=>absurd rfl h)
 refine WO.guard rfl (fun _=>WO.r (.lenS rfl (len h.gr he.2.2.1)) ?_) (fun h=>absurd rfl h)
 refine WO.guard rfl (fun _=>WO.r (.mv rfl) ?_) (fun h=>absurd rfl h)
 refine WO.guard rfl (fun _=>WO.r (.eql rfl rfl eqs) ?_) (fun h=>absurd rfl h)
 refine WO.r (.pick1 rfl rfl) (WO.r (.mv rfl) ?_)
 refine WO.guard rfl (fun _=>WO.r (.faddr rfl) ?_) (fun h=>absurd rfl h)
 refine WO.guard rfl (fun _=>WO.r (.load rfl .here rfl rfl rfl) ?_) (fun h=>absurd rfl h)
 refine WO.guard rfl (fun _=>WO.r (.lenS rfl (len h.ex he.2.2.2)) ?_) (fun h=>absurd rfl h)
 refine WO.guard rfl (fun _=>WO.r (.mv rfl) ?_) (fun h=>absurd rfl h)
 refine WO.guard rfl (fun _=>WO.r (.eql rfl rfl eqs) ?_) (fun h=>absurd rfl h)
 refine WO.r (.pick1 rfl rfl) (WO.r (.mv rfl) (WO.nil (WP.ret (Fin.mk (.tmp rfl .nil) ?_))))
 exact⟨rfl,[_],rfl⟩
end
end Go.Ev
namespace Go.Ev
section
variable {P:Program} {K:Orc} {rd:Option Nat} {nt:Nat} {l:Sl} {ds:List ADef} {s:SH} {Q Qn Qr:Po} {Qe:Nat->Po} {F:Nat->FuncId} {T:Nat->TypeId}
def WH (bw:Nat) (d:SD) (t s:SH):Prop:=∃ pv ov lv hv gv ev fv sv wv n,s.Perm ((bw,.r false [d.cells pv ov lv hv gv ev fv sv wv] 25)::(n++t))∧StG n pv ov lv hv gv ev fv sv wv d
theorem StG.junk {n m:SH} {pv ov lv hv gv ev fv sv wv:AV} {d:SD} (h:StG n pv ov lv hv gv ev fv sv wv d):StG (m++n) pv ov lv hv gv ev fv sv wv d:=by
 obtain⟨o1,o2,o3,o4,o5,o6,o7,o8,o9,j,hp,g⟩:=h.ex
 exact⟨o1,o2,o3,o4,o5,o6,o7,o8,o9,m++j,perm_ct fun c w h0 h1 h2 hq=>by simp only [h1,hq _ _ hp];omega,g⟩
theorem StG.perm {n m:SH} {pv ov lv hv gv ev fv sv wv:AV} {d:SD} (h:StG n pv ov lv hv gv ev fv sv wv d) (hp':n.Perm m):StG m pv ov lv hv gv ev fv sv wv d:=by
 obtain⟨o1,o2,o3,o4,o5,o6,o7,o8,o9,j,hp,g⟩:=h.ex
 exact⟨o1,o2,o3,o4,o5,o6,o7,o8,o9,j,hp'.symm.trans hp,g⟩
theorem StG.r {n s:SH} {pv ov lv hv gv ev fv sv wv:AV} {d:SD} (h:StG n pv ov lv hv gv ev fv sv wv d) (hn:∀ p,p∈n->p∈s):StD s pv ov lv hv gv ev fv sv wv d:=by
 obtain⟨o1,o2,o3,o4,o5,o6,o7,o8,o9,j,hp,g1,g2,g3,g4,g5,g6,g7,g8,g9⟩:=h.ex
 have up:∀ {o:SH},(∀ p,p∈o->p∈o1++(o2++(o3++(o4++(o5++(o6++(o7++(o8++(o9++j)))))))))->∀ p,p∈o->p∈s:=fun h p hpo=>hn p (hp.mem_iff.2 (h p hpo))
 exact⟨g1.out.src.mono (up fun p h=>by simp [h]),g2.out.src.mono (up fun p h=>by simp [h]),g3.sl (up fun p h=>by simp [h]),g4.sl (up fun p h=>by simp [h]),g5.sl (up fun p h=>by simp [h]),g6.sl (up fun p h=>by simp [h]),
  g7.out.src.mono (up fun p h=>by simp [h]),g8.out.src.mono (up fun p h=>by simp [h]),g9.out.src.mono (up fun p h=>by simp [h])⟩
structure SD.Even (d:SD):Prop where
 lb:d.lb.length=d.pl.length
 hd:d.hd.length=d.pl.length
 gr:d.gr.length=d.pl.length
 ex:d.ex.length=d.pl.length
theorem geq_n {a b:Nat} (h:a < b):binV .geq (.int .i64 (.ofNat a)) (.int .i64 (.ofNat b))=some (.bool false):=by
 show some (AV.bool (!Nat.blt a b))=_
 rw [blt_iff.2 h];rfl
theorem WS.pre {op:AOp} {s':SH} {R:AV->List ADef->SH->Prop} (hp:s.Perm s') (h:WS P K op l ds s' R):WS P K op l ds s R:=
 fun H0 e H he hH=>h H0 e H he (hH.perm hp)
theorem WP.pre {c:AC} {s':SH} (hp:s.Perm s') (h:WP P K rd nt c l ds s' Qn Qe Qr):WP P K rd nt c l ds s Qn Qe Qr:=
 WP.weak (fun _ _ h=>h) (fun _ _ h=>h.perm hp) h
theorem add_i {n:Int} (h0:0≤n) (h1:n≤4611686018427387904):binV .add (iv n) (.int .i64 (.ofNat 1))=some (iv (n+1)):=by
 obtain⟨k,rfl⟩:=Int.eq_ofNat_of_zero_le h0
 exact add_n (a:=k) (b:=1) (by omega)
end
end Go.Ev
