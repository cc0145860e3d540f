/- Walks of package state: taking an object away (where nothing names it). Walks of package state: guarded operations where the order is open; may an event be done. Walks of package state: may an event be done. Walks of package state: the rules of events. Walks of package state: the rule of an event. Walks of package state: what events do, and Apply. Walks of package log: an event is added. Walks of packages log and board: the state now, an event is added to a board. Walks of package board: an event is done. The states of the law BoardLimit: what holds of them, and is kept. The code of the law BoardLimit, its operations looked up; numbers by F. The walk of the law BoardLimit: a token is made. The walk of the law BoardLimit: an object leaves. The walk of the law BoardLimit: a round, and the loop. What the fast machine's memory and slots say to a walk; a function's first steps by the fast machine. The law BoardLimit: what lies in memory when its loop begins. The law BoardLimit: from the memory when its loop begins to its answer. A function's slots when it begins, on the fast machine. Conditions: none. -/
import Derived.Test.YtcmplhmbmmclaaaGreatEvJ
import Derived.Test.YtcmplhmbmmclaaaGreatEvH
set_option linter.unusedVariables false
set_option linter.unusedSectionVars false
namespace Go.Ev
section
variable {P:Program} {K:Orc} {rd:Option Nat} {nt:Nat} {l:Sl} {ds:List ADef} {s:SH} {Q Qn Qr:Po} {Qe:Nat->Po} {F:Nat->FuncId} {T:Nat->TypeId}
theorem WP.unroll {b:AC} (h:WP P K rd nt b l ds s (fun l ds s=>WP P K rd nt (.loop b) l ds s Qn Qe Qr) Qe Qr):WP P K rd nt (.loop b) l ds s Qn Qe Qr:=by
 intro c0 hc H0 e H he hH
 cases c0 with
 | loop b0=>
  simp only [cc,AC.loop.injEq] at hc
  obtain⟨x,e1,ds1,H1,l1,s1,k1,k2,k3,k4⟩:=h b0 hc H0 e H he hH
  cases x with
  | normal=>
   obtain⟨x,e2,ds2,H2,l2,s2,j1,j2,j3,j4⟩:=k4 (.loop b0) (by simp only [cc,hc]) H0 e1 H1 k2 k3
   exact⟨_,_,_,_,_,_,Runs.again k1 j1,j2,j3,j4⟩
  | exit i=>exact⟨_,_,_,_,_,_,Runs.out k1 (by intro h;cases h),k2,k3,k4⟩
  | ret=>exact⟨_,_,_,_,_,_,Runs.out k1 (by intro h;cases h),k2,k3,k4⟩
 | region i ops d=>exact(cc_region hc).elim
 | _=>simp [cc] at hc
end
end Go.Ev
namespace Go.Ev
section
variable {P:Program} {K:Orc} {rd:Option Nat} {nt:Nat} {l:Sl} {ds:List ADef} {s:SH} {Q Qn Qr:Po} {Qe:Nat->Po} {F:Nat->FuncId} {T:Nat->TypeId}
variable {j:Nat} {bs:List Nat} {pd:List PD} {d:Option Nat} {op:AOp} {lo hi a:Nat} {rest:List DC} {v:AV} {hs:List SH} {os:List OB} {is:List Nat}
theorem cg_some {ops:List Oper} {g:Option (Nat × Bool)} {jj:Nat} {w:Bool} (h:cg ops g=some (some (jj,w))):∃ k o,g=some (k,w)∧lget ops k=some o∧o.dst=some jj:=by
 cases g with
 | none=>cases h
 | some x=>
  obtain⟨k,w'⟩:=x
  unfold cg at h
  dsimp only at h
  split at h
  ·rename_i o ho
   split at h
   ·rename_i d0 hd0
    cases h
    exact⟨k,o,rfl,ho,hd0⟩
   ·cases h
  ·cases h
theorem wanted_eq {ops:Array Oper} {e:Tr AV} {k jj:Nat} {w b:Bool} {o:Oper} (h1:lget ops.toList k=some o) (h2:o.dst=some jj) (h3:e.get jj=some (.bool b)):wanted e ops (some (k,w))=some (b == w):=by
 unfold wanted
 simp only [h1,h2,h3]
theorem WD.yes {jj:Nat} {w b:Bool} {cls:Cls} (hj:Go.Ev.lk l jj=some (.bool b)) (hb:b=w) (h:WD P K rd (⟨⟨d,op,none⟩,cls,lo,hi,a⟩::rest) j bs pd hs os is l ds s Q):WD P K rd (⟨⟨d,op,some (jj,w)⟩,cls,lo,hi,a⟩::rest) j bs pd hs os is l ds s Q:=by
 subst hb
 intro ops anc l0 hd H0 S hS
 obtain⟨d0,r0,rfl,h1,h2,h3,h4,h5,h6,h7,h8⟩:=dcs_cons hd
 obtain⟨k,o,g1,g2,g3⟩:=cg_some h3
 have hw:wanted S.e ops d0.o.guard=some true:=by
  rw [g1,wanted_eq g2 g3 (hS.en _ _ hj),beq_self_eq_true]
 have hd':dcs ops.toList anc j ({ d0 with o:={ d0.o with guard:=none } }::r0)=some (⟨⟨d,op,none⟩,cls,lo,hi,a⟩::rest):=by
  unfold dcs
  simp only [cg,h7,h8,h1,h2,h4,h5,h6]
 obtain⟨n,S',k1,k2⟩:=h ops anc _ hd' H0 S hS
 refine⟨n,S',?_,k2⟩
 obtain⟨S1,j1,j2⟩:=(lfold_cons _ _ _ _ _).1 k1
 refine(lfold_cons _ _ _ _ _).2 ⟨S1,?_,j2⟩
 rw [<- j1]
 unfold dstep
 simp only [hw]
 rfl
theorem WD.skip {jj:Nat} {w b:Bool} {cls:Cls} (hj:Go.Ev.lk l jj=some (.bool b)) (hb:(b == w)=false) (hc:(match cls with | .pure=>true | .read=>true | _=>false)=true) (h:WD P K rd rest (j+1) bs pd hs os is (pl d .undef l) ds s Q):WD P K rd (⟨⟨d,op,some (jj,w)⟩,cls,lo,hi,a⟩::rest) j bs pd hs os is l ds s Q:=by
 intro ops anc l0 hd H0 S hS
 obtain⟨d0,r0,rfl,h1,h2,h3,h4,h5,h6,h7,h8⟩:=dcs_cons hd
 obtain⟨k,o,g1,g2,g3⟩:=cg_some h3
 have hw:wanted S.e ops d0.o.guard=some false:=by
  rw [g1,wanted_eq g2 g3 (hS.en _ _ hj),hb]
 obtain⟨n,S',k1,k2⟩:=h ops anc r0 h8 H0 { S with e:=Ev.putO S.e d .undef,j:=Nat.succ S.j } ⟨hS.en.putO d _,hS.ds,hS.hp,by show S.j+1=_;rw [hS.j],hS.bs,hS.pd,hS.hs,hS.os,hS.pi,hS.mi⟩
 refine⟨n,S',(lfold_cons _ _ _ _ _).2 ⟨_,?_,k1⟩,k2⟩
 unfold dstep
 simp only [hw,h4,h1]
 cases cls <;> first | rfl | cases hc
theorem WD.skipc {jj:Nat} {w b:Bool} (hj:Go.Ev.lk l jj=some (.bool b)) (hb:(b == w)=false) (h:WD P K rd rest (j+1) bs pd (s::hs) os is (pl d .undef l) ds s Q):WD P K rd (⟨⟨d,op,some (jj,w)⟩,.chain,lo,hi,a⟩::rest) j bs pd hs os is l ds s Q:=by
 intro ops anc l0 hd H0 S hS
 obtain⟨d0,r0,rfl,h1,h2,h3,h4,h5,h6,h7,h8⟩:=dcs_cons hd
 obtain⟨k,o,g1,g2,g3⟩:=cg_some h3
 have hw:wanted S.e ops d0.o.guard=some false:=by
  rw [g1,wanted_eq g2 g3 (hS.en _ _ hj),hb]
 obtain⟨n,S',k1,k2⟩:=h ops anc r0 h8 H0 { S with e:=Ev.putO S.e d .undef,Hs:=S.H::S.Hs,j:=Nat.succ S.j } ⟨hS.en.putO d _,hS.ds,hS.hp,by show S.j+1=_;rw [hS.j],hS.bs,hS.pd,⟨hS.hp,hS.hs⟩,hS.os,hS.pi,hS.mi⟩
 refine⟨n,S',(lfold_cons _ _ _ _ _).2 ⟨_,?_,k1⟩,k2⟩
 unfold dstep
 simp only [hw,h4,h1]
theorem WO.yes {jj:Nat} {w b:Bool} {rest:List AOper} (hj:Go.Ev.lk l jj=some (.bool b)) (hb:b=w) (h:WO P K (⟨d,op,none⟩::rest) l ds s Q):WO P K (⟨d,op,some (jj,w)⟩::rest) l ds s Q:=
 WO.guard hj (fun _=>h) (fun h=>absurd hb h)
theorem WO.skip {jj:Nat} {w b:Bool} {rest:List AOper} (hj:Go.Ev.lk l jj=some (.bool b)) (hb:(b == w)=false) (h:WO P K rest (pl d .undef l) ds s Q):WO P K (⟨d,op,some (jj,w)⟩::rest) l ds s Q:=
 WO.guard hj (fun h=>by subst h;rw [beq_self_eq_true] at hb;cases hb) (fun _=>h)
theorem wanted_und {ops:Array Oper} {e:Tr AV} {k jj:Nat} {w:Bool} {o:Oper} (h1:lget ops.toList k=some o) (h2:o.dst=some jj) (h3:e.get jj=some .undef):wanted e ops (some (k,w))=some false:=by
 unfold wanted
 simp only [h1,h2,h3]
 rfl
theorem WD.skipu {jj:Nat} {w:Bool} {cls:Cls} (hj:Go.Ev.lk l jj=some .undef) (hc:(match cls with | .pure=>true | .read=>true | _=>false)=true) (h:WD P K rd rest (j+1) bs pd hs os is (pl d .undef l) ds s Q):WD P K rd (⟨⟨d,op,some (jj,w)⟩,cls,lo,hi,a⟩::rest) j bs pd hs os is l ds s Q:=by
 intro ops anc l0 hd H0 S hS
 obtain⟨d0,r0,rfl,h1,h2,h3,h4,h5,h6,h7,h8⟩:=dcs_cons hd
 obtain⟨k,o,g1,g2,g3⟩:=cg_some h3
 have hw:wanted S.e ops d0.o.guard=some false:=by
  rw [g1,wanted_und g2 g3 (hS.en _ _ hj)]
 obtain⟨n,S',k1,k2⟩:=h ops anc r0 h8 H0 { S with e:=Ev.putO S.e d .undef,j:=Nat.succ S.j } ⟨hS.en.putO d _,hS.ds,hS.hp,by show S.j+1=_;rw [hS.j],hS.bs,hS.pd,hS.hs,hS.os,hS.pi,hS.mi⟩
 refine⟨n,S',(lfold_cons _ _ _ _ _).2 ⟨_,?_,k1⟩,k2⟩
 unfold dstep
 simp only [hw,h4,h1]
 cases cls <;> first | rfl | cases hc
theorem WD.dm {b:Nat} (k:WD P K rd rest (j+1) bs (⟨j,b,.m []⟩::pd) hs os (j::is) (pl d (.map (some b)) l) ds s Q):WD P K rd (⟨⟨d,.mkmap,none⟩,.dmap,lo,hi,a⟩::rest) j (b::bs) pd hs os is l ds s Q:=by
 refine WD.step rfl ?_ k
 intro ops anc d0 H0 S h1 h2 h3 h4 h5 h6 h7 hS
 obtain⟨rfl,hb⟩:=hS.bs
 refine⟨0,{ S with e:=Ev.putO S.e d (.map (some S.nid)),j:=Nat.succ S.j,nid:=Nat.succ S.nid,pend:=⟨S.j,S.nid,.map [],0,[]⟩::S.pend },?_,⟨hS.en.putO d _,hS.ds,hS.hp,by show S.j+1=_;rw [hS.j],hb,⟨⟨hS.j,rfl,(fun h=>by cases h),rfl⟩,hS.pd⟩,hS.hs,hS.os,fun p hp=>?_,fun p hp=>List.mem_cons_of_mem _ (hS.mi p hp)⟩⟩
 ·unfold dstep
  rw [h3,h4]
  simp only [wanted,h2,allocOf,h1]
 ·cases hp with
  | head=>rw [show (⟨S.j,S.nid,.map [],0,[]⟩:Pend).i=j from hS.j];exact List.mem_cons_self ..
  | tail _ hp=>exact List.mem_cons_of_mem _ (hS.pi p hp)
theorem WD.in1 {b i:Nat} {lit:Bool} {kk:EqP} {m q x:Operand} {kv vv:AV} {es:List (AV × AV)} (hm:opl l m=some (.map (some b))) (hk:opl l q=some kv) (hx:opl l x=some vv) (ha:bit a i=true) (hl:lookIn kk kv es=some none) (hp:primEq kk kv kv=some true)
  (k:WD P K rd rest (j+1) bs [⟨i,b,.m (lapp es [(kv,vv)])⟩] hs os is (pl d .undef l) ds s Q):WD P K rd (⟨⟨d,.ins lit kk m q x,none⟩,.dins,lo,hi,a⟩::rest) j bs [⟨i,b,.m es⟩] hs os is l ds s Q:=by
 refine WD.step rfl ?_ k
 intro ops anc d0 H0 S h1 h2 h3 h4 h5 h6 h7 hS
 obtain⟨p,hp1,q1,q2,q3,q4⟩:∃ p,S.pend=[p]∧p.i=i∧p.id=b∧p.o=.map es∧p.i∈is:=by
  have h:=hS.pd
  have hpi:=hS.pi
  cases hpd:S.pend with
  | nil=>rw [hpd] at h;exact h.elim
  | cons p ps=>
   rw [hpd] at h
   cases ps with
   | nil=>
    obtain⟨⟨w1,w2,w3,w4⟩,_⟩:=h
    exact⟨p,rfl,w1,w2,Option.some.inj w4,hpi p (by rw [hpd];exact List.mem_cons_self ..)⟩
   | cons _ _=>exact h.2.elim
 refine⟨0,{ S with e:=Ev.putO S.e d .undef,j:=Nat.succ S.j,pend:=[⟨p.i,p.id,.map (lapp es [(kv,vv)]),Nat.lor p.ins (Nat.shiftLeft 1 j),lapp p.ent [(j,kv,vv)]⟩] },?_,⟨hS.en.putO d _,hS.ds,hS.hp,by show S.j+1=_;rw [hS.j],hS.bs,⟨⟨q1,q2,(fun h=>by cases h),rfl⟩,trivial⟩,hS.hs,hS.os,fun p' hp'=>?_,hS.mi⟩⟩
 ·have hins:insPend kk kv vv b j a [p]=some (true,[⟨p.i,p.id,.map (lapp es [(kv,vv)]),Nat.lor p.ins (Nat.shiftLeft 1 j),lapp p.ent [(j,kv,vv)]⟩]):=by
   unfold insPend
   refine(lfold_cons _ _ _ _ _).2 ⟨_,?_,rfl⟩
   rw [q2,bq_self,q1,ha,q3]
   dsimp only
   rw [hl]
   dsimp only
   rw [hp]
  unfold dstep
  rw [h3,h4,hS.j]
  simp only [wanted,h7,h2,opl_ok hS.en hm,opl_ok hS.en hk,opl_ok hS.en hx,hp1,hins,h1]
  try rw [hS.j]
 ·rw [List.mem_singleton.1 hp']
  exact q4
end
end Go.Ev
namespace Go.Ev
section
variable {P:Program} {K:Orc} {rd:Option Nat} {nt:Nat} {l:Sl} {ds:List ADef} {s:SH} {Q Qn Qr:Po} {Qe:Nat->Po} {F:Nat->FuncId} {T:Nat->TypeId}
@[reducible] def evRow (k a b n m:Int) (it:ID):List AV:=[iv k,iv a,iv b,iv n,iv m,nilS,iv it.id,iv it.kind,iv it.ctrl,iv it.obj,iv it.card,iv it.abil,nilS]
end
end Go.Ev
set_option maxRecDepth 4000
namespace Go.Ev
section
variable {P:Program} {K:Orc} {rd:Option Nat} {nt:Nat} {l:Sl} {ds:List ADef} {s:SH} {Q Qn Qr:Po} {Qe:Nat->Po} {F:Nat->FuncId} {T:Nat->TypeId}
theorem same_p (b r o:Nat):sameV (.ptr (some ⟨b,r,o⟩)) (.ptr (some ⟨b,r,o⟩))=true:=by
 simp [sameV,sameN,same0]
end
end Go.Ev
namespace Go.Ev
section
variable {P:Program} {K:Orc} {rd:Option Nat} {nt:Nat} {l:Sl} {ds:List ADef} {s:SH} {Q Qn Qr:Po} {Qe:Nat->Po} {F:Nat->FuncId} {T:Nat->TypeId}
theorem pullc {p:Nat × HO} {x n s:SH} (h:x=n++s):p::x=(p::n)++s:=by rw [h];rfl
theorem pull1 {p:Nat × HO} {s:SH}:p::s=[p]++s:=rfl
theorem bsrows3 {l:Sl} {sz:Nat} {x y z:Operand} {u v w:AV} {cs es fs:List AV} (hx:opl l x=some u) (hc:partCells sz u=some cs) (hy:opl l y=some v) (he:partCells sz v=some es) (hz:opl l z=some w) (hf:partCells sz w=some fs):bsrows l sz 0 [(0,x),(1,y),(2,z)]=some [cs,es,fs]:=by
 simp [bsrows,hx,hc,hy,he,hz,hf]
end
end Go.Ev
namespace Go.Ev
section
variable {P:Program} {K:Orc} {rd:Option Nat} {nt:Nat} {l:Sl} {ds:List ADef} {s:SH} {Q Qn Qr:Po} {Qe:Nat->Po} {F:Nat->FuncId} {T:Nat->TypeId}
theorem pull3 {p q r:Nat × HO} {s:SH}:p::q::r::s=[p,q,r]++s:=rfl
end
end Go.Ev
namespace Go.Ev
section
variable {P:Program} {K:Orc} {rd:Option Nat} {nt:Nat} {l:Sl} {ds:List ADef} {s:SH} {Q Qn Qr:Po} {Qe:Nat->Po} {F:Nat->FuncId} {T:Nat->TypeId}
theorem ownEvent_ok (hB:Base P K F T) {k a b n m:Int} {it:ID}:Tri P K (F 165) [.agg (evRow k a b n m it)] s (fun v s'=>v=.agg (evRow k a b n m it)∧∃ m,s'=m++s):=by
 refine hB.f165.tri (by simp) ?_
 unfold a165
 refine WP.seq (WP.ops (WO.a (.box rfl rfl) fun b1=>WO.a (.alloc rfl) fun b2=>WO.nil ?_))
 refine WP.seq (WP.drawn0 (WD.pu (.faddr rfl) (WD.ld rfl .nil (.load rfl (.there .here) rfl rfl rfl) (WD.ch .nil (WS.callF (first:=[]) (vs:=[nilS]) (cap:=[]) rfl rfl hB.c51.cloneNil ?_)))))
 rintro w _ ⟨rfl,rfl⟩
 refine WD.pu (.faddr rfl) (WD.pu (.faddr rfl) (WD.lk rfl .nil (.load rfl (.there .here) rfl rfl rfl) (WD.ch .nil (WS.callF (first:=[]) (vs:=[nilS]) (cap:=[]) rfl rfl hB.c163.cloneNil ?_))))
 rintro w _ ⟨rfl,rfl⟩
 refine WD.pu (.faddr rfl) (WD.ch .nil (WS.store rfl rfl rfl (.there .here) rfl rfl (WD.pu (.faddr rfl) (WD.pu (.faddr rfl) (WD.ch .nil (WS.store rfl rfl rfl (.there .here) rfl rfl (WD.nil .nil ?_ ?_)))))))
 rotate_left
 ·intro o ho
  rw [List.mem_singleton.1 ho]
  refine⟨(fun i hi=>nomatch hi),Nat.zero_le _,rfl,fun k _ hk=>?_⟩
  rcases(by have:k≤1:=hk;omega:k=0∨k=1) with rfl|rfl
  ·exact⟨_,rfl,.load rfl (.there .here) rfl rfl rfl⟩
  ·exact⟨_,rfl,.load rfl (.there .here) rfl rfl rfl⟩
 refine WP.seq (WP.ops (WO.r (.load rfl (.there .here) rfl rfl rfl) (WO.w (WS.store rfl rfl rfl .here rfl rfl (WO.nil (WP.ret (Fin.mk (.cell rfl hB.t50.1 hB.t50.2 (.inl rfl) .here rfl rfl rfl .nil) ?_)))))))
 exact⟨rfl,[_,_],rfl⟩
theorem take_at {a b c:List AV} {i n:Nat} (ha:a.length=i) (hb:b.length=n):ltake n (ldrop i (a++(b++c)))=some b:=by
 subst ha hb
 rw [ldrop_eq,List.drop_left,ltake_some _ _ (by rw [List.length_append];omega),List.take_left]
theorem put_at {a b c b':List AV} {i:Nat} (ha:a.length=i) (hb:b.length=b'.length):lput (a++(b++c)) i b'=some (a++(b'++c)):=by
 subst ha
 unfold lput
 have h1:ltake a.length (a++(b++c))=some a:=by rw [ltake_some _ _ (by rw [List.length_append];omega),List.take_left]
 have h2:ldrop a.length (a++(b++c))=b++c:=by rw [ldrop_eq,List.drop_left]
 have h3:ltake (llen b') (b++c)=some b:=by rw [llen_eq,<- hb,ltake_some _ _ (by rw [List.length_append];omega),List.take_left]
 simp only [h1,h2,h3]
 rw [lapp_eq,lapp_eq,llen_eq,ldrop_eq,<- hb,List.drop_left]
theorem Src.sameN {sz:Nat} {v:AV} {L:List (List AV)} (h:Src s sz v L) (n:Nat):Ev.sameN (n+1) v v=true:=by
 cases h with
 | nil=>simp [Ev.sameN,same0]
 | @zero a c sl rw=>cases a <;> simp [Ev.sameN,same0]
 | emp=>rfl
 | rows _ _=>simp [Ev.sameN,same0]
theorem SL.sameN {v:AV} {LL:List (List (List AV))} (h:SL s v LL) (n:Nat):Ev.sameN (n+1) v v=true:=by
 obtain⟨L,h1,_⟩:=h
 exact h1.sameN n
theorem sameN_i (n:Nat) (k:Int):sameN (n+1) (iv k) (iv k)=true:=by
 have:ieq k k=true:=ieq_iff.2 rfl
 simp [sameN,same0,keq,this]
theorem sameN_b (n:Nat) (b:Bool):sameN (n+1) (.bool b) (.bool b)=true:=by simp [sameN,same0]
theorem StD.same {pv ov lv hv gv ev fv sv wv:AV} {d:SD} (h:StD s pv ov lv hv gv ev fv sv wv d):sameV (.agg (d.cells pv ov lv hv gv ev fv sv wv)) (.agg (d.cells pv ov lv hv gv ev fv sv wv))=true:=by
 show sameL (sameN 5) _ _=true
 unfold SD.cells
 simp only [sameL,h.pl.sameN,h.ob.sameN,h.lb.sameN,h.hd.sameN,h.gr.sameN,h.ex.sameN,h.fi.sameN,h.st.sameN,h.wa.sameN,sameN_i,sameN_b,Bool.and_true,Bool.true_and]
 rfl
theorem put_now {sc b b' c:List AV} {x:AV} (hs:sc.length=25) (hb:b.length=b'.length):lput (sc++([x]++(b++c))) 26 b'=some (sc++([x]++(b'++c))):=by
 have:=put_at (a:=sc++[x]) (b:=b) (b':=b') (c:=c) (i:=26) (by simp [hs]) hb
 simpa [List.append_assoc] using this
def LogH (bl:Nat) (EL:List (List AV)) (d:SD) (t s:SH):Prop:=∃ sc lv pv ov lv' hv gv ev fv sv wv oL n,s.Perm ((bl,.r false [sc++([lv]++(d.cells pv ov lv' hv gv ev fv sv wv++[]))] 51)::(oL++(n++t)))∧sc.length=25∧Gr 13 lv EL oL∧StD n pv ov lv' hv gv ev fv sv wv d
theorem StD.mono {pv ov lv hv gv ev fv sv wv:AV} {d:SD} {s':SH} (h:StD s pv ov lv hv gv ev fv sv wv d) (hs:∀ p,p∈s->p∈s'):StD s' pv ov lv hv gv ev fv sv wv d:=
 ⟨h.pl.mono hs,h.ob.mono hs,h.lb.mono hs,h.hd.mono hs,h.gr.mono hs,h.ex.mono hs,h.fi.mono hs,h.st.mono hs,h.wa.mono hs⟩
theorem logAdd_ok (hB:Base P K F T) {bl:Nat} {EL:List (List AV)} {d d':SD} {t:SH} {k a b n m:Int} {it:ID} (hs:LogH bl EL d t s) (hE:EL.length≤1000)
  (hap:∀ {pv ov lv hv gv ev fv sv wv:AV} (s:SH),StD s pv ov lv hv gv ev fv sv wv d->Tri P K (F 164) [.agg (d.cells pv ov lv hv gv ev fv sv wv),.agg (evRow k a b n m it)] s (fun v s'=>∃ pv ov lv hv gv ev fv sv wv nn,v=.tuple [.agg (d'.cells pv ov lv hv gv ev fv sv wv),iv 0]∧s'=nn++s∧StG nn pv ov lv hv gv ev fv sv wv d')) :
  Tri P K (F 108) [.ptr (some ⟨bl,0,0⟩),.agg (evRow k a b n m it)] s (fun v s'=>v=iv 0∧LogH bl (EL++[evRow k a b n m it]) d' t s'):=by
 obtain⟨sc,lv,pv,ov,lv',hv,gv,ev,fv,sv,wv,oL,nn,k1,k2,k3,k4⟩:=hs
 refine Tri.perm k1.symm ?_
 refine hB.f108.tri (by simp) ?_
 unfold a108
 refine WP.seq (WP.ops (WO.a (.box rfl rfl) fun b3=>WO.r (.mv rfl) (WO.nil ?_)))
 refine WP.seq (WP.seq (WP.ops (WO.r (.mv rfl) (WO.r (.eql (b:=false) rfl rfl rfl) (WO.nil (WP.cond rfl (fun h=>by cases h) (fun _=>WP.skip ?_)))))))
 have hnow:ltake 25 (ldrop 26 (sc++([lv]++(d.cells pv ov lv' hv gv ev fv sv wv++[]))))=some (d.cells pv ov lv' hv gv ev fv sv wv):=by
  have:=take_at (a:=sc++[lv]) (b:=d.cells pv ov lv' hv gv ev fv sv wv) (c:=[]) (i:=26) (n:=25) (by simp [k2]) rfl
  rwa [List.append_assoc] at this
 have hl:ltake 1 (ldrop 25 (sc++([lv]++(d.cells pv ov lv' hv gv ev fv sv wv++[]))))=some [lv]:=take_at k2 rfl
 refine WP.seq (WP.drawn1 fun b5=>WD.pu (.mv rfl) (WD.pu (.nilchk rfl rfl) (WD.pu (.faddr rfl) (WD.ld rfl .nil (.load rfl (.there (.there .here)) rfl hnow rfl) (WD.ld rfl .nil (.load rfl (.there .here) rfl rfl rfl) (WD.ch .nil (WS.callF (first:=[]) (vs:=[.agg (d.cells pv ov lv' hv gv ev fv sv wv),.agg (evRow k a b n m it)]) (cap:=[]) rfl rfl (hap _ (k4.mono fun p hp=>by simp [hp])) ?_)))))))
 rintro w _ ⟨pv2,ov2,lv2,hv2,gv2,ev2,fv2,sv2,wv2,n2,rfl,rfl,g2⟩
 have hR2:StD n2 pv2 ov2 lv2 hv2 gv2 ev2 fv2 sv2 wv2 d':=g2.r fun p hp=>hp
 refine WD.pu (.mv rfl) (WD.pu (.extract rfl rfl) (WD.pu (.extract rfl rfl) (WD.al (.alloc rfl) rfl (WD.ch (.yes (show bit 767 9=true from rfl) rfl (.app .here) .nil) (WS.store rfl rfl rfl (.app .here) rfl rfl (WD.pu (.mv rfl) (WD.nil .nil ?_ (fun o h=>nomatch h))))))))
 refine WP.weak (s':=n2++((b5,.r false [d'.cells pv2 ov2 lv2 hv2 gv2 ev2 fv2 sv2 wv2] 25)::(b3,.r false [evRow k a b n m it] 13)::(bl,.r false [sc++([lv]++(d.cells pv ov lv' hv gv ev fv sv wv++[]))] 51)::(oL++(nn++t)))) (fun _ _ h=>h) (fun _ _ h=>h) ?_
 refine WP.seq (WP.seq (WP.ops (WO.r (.mv rfl) (WO.r (.eql rfl rfl (eqB_i _ _)) (WO.nil (WP.cond rfl (fun h=>Bool.noConfusion (show false=true from h)) (fun _=>WP.skip ?_)))))))
 refine WP.seq (WP.drawn1 fun b8=>WD.pu (.mv rfl) (WD.pu (.mv rfl) (WD.pu (.mv rfl) (WD.pu (.nilchk rfl rfl) (WD.pu (.faddr rfl) (WD.lk rfl .nil (.load rfl (.there (.app (.there (.there .here)))) rfl hl rfl) (WD.ld rfl .nil (.load rfl (.there (.app (.there .here))) rfl rfl rfl) (WD.ch .nil (WS.callF (first:=[]) (vs:=[.agg (evRow k a b n m it)]) (cap:=[]) rfl rfl (ownEvent_ok hB) ?_)))))))))
 rintro w _ ⟨rfl,m3,rfl⟩
 refine WD.al (.bslice (L:=[evRow k a b n m it]) (bsrows1 rfl rfl) rfl) rfl ?_
 refine WD.ch (.yes (show bit 508 8=true from rfl) rfl (.app .here) .nil) (WS.pre (s':=(m3++((b8,.r false [evRow k a b n m it] 13)::(n2++[(b5,.r false [d'.cells pv2 ov2 lv2 hv2 gv2 ev2 fv2 sv2 wv2] 25),(b3,.r false [evRow k a b n m it] 13),(bl,.r false [sc++([lv]++(d.cells pv ov lv' hv gv ev fv sv wv++[]))] 51)])))++(oL++(nn++t))) (perm_ct fun c w h0 h1 h2 hq=>by simp only [h1,h2,h0];omega) (WS.append_gr rfl k3 rfl (Src.all (L:=[evRow k a b n m it]) (.left (.app .here))) (by omega) (by omega) (by omega) fun v6 o6 j6 hG=>?_))
 refine WD.lk rfl .nil (.load rfl (.app (.left (.app (.there (.app .here))))) rfl rfl rfl) (WD.pu (.nilchk rfl rfl) (WD.pu (.faddr rfl) (WD.ch .nil (WS.store rfl rfl hG.part (.app (.left (.app (.there (.app (.there (.there .here))))))) rfl (put_at k2 rfl) (WD.pu (.nilchk rfl rfl) (WD.pu (.faddr rfl) (WD.ch .nil (WS.store rfl rfl rfl (.app (.left (.app (.there (.app (.there (.there .here))))))) rfl (put_now k2 rfl) (WD.nil .nil ?_ ?_)))))))))
 ·refine WP.seq (WP.ops (WO.r (.mv rfl) (WO.nil (WP.ret (Fin.mk (.tmp rfl .nil) ?_)))))
  have fin:∀ y1 y2 y3,LogH bl (EL++[evRow k a b n m it]) d' t (o6++((m3++(y1::(n2++[y2,y3,(bl,.r false [sc++([v6]++(d'.cells pv2 ov2 lv2 hv2 gv2 ev2 fv2 sv2 wv2++[]))] 51)])))++(j6++(nn++t)))):=fun y1 y2 y3=>
   ⟨sc,v6,pv2,ov2,lv2,hv2,gv2,ev2,fv2,sv2,wv2,o6,n2++(m3++(y1::y2::y3::(j6++nn))),perm_ct fun c w h0 h1 h2 hq=>by simp only [h1,h2,h0];omega,k2,hG,hR2.mono fun p hp=>by simp [hp]⟩
  exact⟨rfl,fin _ _ _⟩
 ·intro o ho
  rcases List.mem_cons.1 ho with rfl|ho
  ·refine⟨(fun i hi=>by rw [List.mem_singleton.1 hi];exact(show bit 0 8=false from rfl)),Nat.zero_le _,hR2.same,fun k _ hk=>?_⟩
   rcases(by have:k≤3:=hk;omega:k=0∨k=1∨k=2∨k=3) with rfl|rfl|rfl|rfl
   ·exact⟨_,rfl,.load rfl (.there (.app .here)) rfl rfl rfl⟩
   ·exact⟨_,rfl,.load rfl (.app (.there (.app .here))) rfl rfl rfl⟩
   ·exact⟨_,rfl,.load rfl (.app (.left (.app (.there (.app .here))))) rfl rfl rfl⟩
   ·exact⟨_,rfl,.load rfl (.app (.left (.app (.there (.app .here))))) rfl rfl rfl⟩
  ·rw [List.mem_singleton.1 ho]
   refine⟨(fun i hi=>by rw [List.mem_singleton.1 hi];exact(show bit 28 8=false from rfl)),Nat.zero_le _,k3.out.src.same,fun k _ hk=>?_⟩
   rcases(by have:k≤1:=hk;omega:k=0∨k=1) with rfl|rfl
   ·exact⟨_,rfl,.load rfl (.there (.app (.there (.there .here)))) rfl hl rfl⟩
   ·exact⟨_,rfl,.load rfl (.app (.there (.app (.there (.there .here))))) rfl hl rfl⟩
end
end Go.Ev
namespace Go.Ev
section
variable {P:Program} {K:Orc} {rd:Option Nat} {nt:Nat} {l:Sl} {ds:List ADef} {s:SH} {Q Qn Qr:Po} {Qe:Nat->Po} {F:Nat->FuncId} {T:Nat->TypeId}
theorem LogH.junk {bl:Nat} {EL:List (List AV)} {d:SD} {t s m:SH} (h:LogH bl EL d t s):LogH bl EL d t (m++s):=by
 obtain⟨sc,lv,pv,ov,lv',hv,gv,ev,fv,sv,wv,oL,nn,k1,k2,k3,k4⟩:=h
 exact⟨sc,lv,pv,ov,lv',hv,gv,ev,fv,sv,wv,oL,nn++m,perm_ct fun c w h0 h1 h2 hq=>by simp only [h1,h2,hq _ _ k1];omega,k2,k3,k4.mono fun p hp=>by simp [hp]⟩
theorem LogH.perm {bl:Nat} {EL:List (List AV)} {d:SD} {t s s':SH} (h:LogH bl EL d t s) (hp:s.Perm s'):LogH bl EL d t s':=by
 obtain⟨sc,lv,pv,ov,lv',hv,gv,ev,fv,sv,wv,oL,nn,k1,k2,k3,k4⟩:=h
 exact⟨sc,lv,pv,ov,lv',hv,gv,ev,fv,sv,wv,oL,nn,hp.symm.trans k1,k2,k3,k4⟩
theorem LogH.absorb {bl:Nat} {EL:List (List AV)} {d:SD} {x t s:SH} (h:LogH bl EL d (x++t) s):LogH bl EL d t s:=by
 obtain⟨sc,lv,pv,ov,lv',hv,gv,ev,fv,sv,wv,oL,nn,k1,k2,k3,k4⟩:=h
 exact⟨sc,lv,pv,ov,lv',hv,gv,ev,fv,sv,wv,oL,nn++x,perm_ct fun c w h0 h1 h2 hq=>by simp only [h1,h2,hq _ _ k1];omega,k2,k3,k4.mono fun p hp=>by simp [hp]⟩
theorem LogH.mem {bl:Nat} {EL:List (List AV)} {d:SD} {t s:SH} (h:LogH bl EL d t s) {b:Nat} {o:HO} (hb:Has b o t):Has b o s:=by
 obtain⟨sc,lv,pv,ov,lv',hv,gv,ev,fv,sv,wv,oL,nn,k1,k2,k3,k4⟩:=h
 exact .of_mem (k1.mem_iff.2 (by simp [hb.mem]))
theorem now_ok (hB:Base P K F T) {bl:Nat} {EL:List (List AV)} {d:SD} {t:SH} (hs:LogH bl EL d t s) (hd:d.Small) :
  Tri P K (F 52) [.ptr (some ⟨bl,0,0⟩)] s (fun v s'=>LogH bl EL d t s'∧∃ pv ov lv hv gv ev fv sv wv,v=.agg (d.cells pv ov lv hv gv ev fv sv wv)∧StD s' pv ov lv hv gv ev fv sv wv d):=by
 have hs0:=hs
 obtain⟨sc,lv,pv,ov,lv',hv,gv,ev,fv,sv,wv,oL,nn,k1,k2,k3,k4⟩:=hs
 refine Tri.perm k1.symm ?_
 have hs1:=hs0.perm k1
 refine hB.f52.tri (by simp) ?_
 unfold a52
 have hnow:ltake 25 (ldrop 26 (sc++([lv]++(d.cells pv ov lv' hv gv ev fv sv wv++[]))))=some (d.cells pv ov lv' hv gv ev fv sv wv):=by
  have:=take_at (a:=sc++[lv]) (b:=d.cells pv ov lv' hv gv ev fv sv wv) (c:=[]) (i:=26) (n:=25) (by simp [k2]) rfl
  rwa [List.append_assoc] at this
 refine WP.seq (WP.ops (WO.a (.alloc rfl) fun b2=>WO.nil ?_))
 refine WP.seq (WP.seq (WP.ops (WO.r (.mv rfl) (WO.r (.eql (b:=false) rfl rfl rfl) (WO.nil (WP.cond rfl (fun h=>by cases h) (fun _=>WP.skip ?_)))))))
 refine WP.seq (WP.ops (WO.r (.mv rfl) (WO.r (.nilchk rfl rfl) (WO.r (.faddr rfl) (WO.r (.load rfl (.there .here) rfl hnow rfl) (WO.w (WS.callF (first:=[]) (vs:=[.agg (d.cells pv ov lv' hv gv ev fv sv wv)]) (cap:=[]) rfl rfl (stCopy_ok hB (k4.mono fun p hp=>by simp [hp]) hd) ?_)))))))
 rintro w _ ⟨pv2,ov2,lv2,hv2,gv2,ev2,fv2,sv2,wv2,n2,rfl,rfl,g2⟩
 refine WO.w (WS.store rfl rfl rfl (.app .here) rfl rfl (WO.nil (WP.ret (Fin.mk (.cell rfl hB.t41.1 hB.t41.2 (.inl rfl) (.app .here) rfl rfl rfl .nil) ?_))))
 exact⟨LogH.junk (m:=n2) (LogH.junk (m:=[_]) hs1),pv2,ov2,lv2,hv2,gv2,ev2,fv2,sv2,wv2,rfl,g2.r fun p hp=>by simp [hp]⟩
theorem Src.mono2 {sz:Nat} {v:AV} {L:List (List AV)} {s':SH} (h:Src s sz v L) (hs:∀ b ro L,(b,HO.r ro L sz)∈s->(b,HO.r ro L sz)∈s'):Src s' sz v L:=by
 cases h with
 | nil=>exact .nil
 | zero=>exact .zero
 | emp=>exact .emp
 | rows hb hn=>exact .rows (.of_mem (hs _ _ _ hb.mem)) hn
theorem SI.mono2 {L:List (List AV)} {LL:List (List (List AV))} {s':SH} (h:SI s L LL) (hs:∀ b ro L,(b,HO.r ro L 1)∈s->(b,HO.r ro L 1)∈s'):SI s' L LL:=by
 induction h with
 | nil=>exact .nil
 | cons k1 k2 ih=>exact .cons (k1.mono2 hs) ih
theorem SL.mono2 {v:AV} {LL:List (List (List AV))} {s':SH} (h:SL s v LL) (hs:∀ b ro L,(b,HO.r ro L 1)∈s->(b,HO.r ro L 1)∈s'):SL s' v LL:=by
 obtain⟨L,h1,h2⟩:=h
 exact⟨L,h1.mono2 hs,h2.mono2 hs⟩
theorem StD.mono2 {pv ov lv hv gv ev fv sv wv:AV} {d:SD} {s':SH} (h:StD s pv ov lv hv gv ev fv sv wv d) (hs:∀ b ro L sz,sz≠25->(b,HO.r ro L sz)∈s->(b,HO.r ro L sz)∈s'):StD s' pv ov lv hv gv ev fv sv wv d:=
 ⟨h.pl.mono2 fun b ro L=>hs b ro L 8 (by omega),h.ob.mono2 fun b ro L=>hs b ro L 14 (by omega),h.lb.mono2 fun b ro L=>hs b ro L 1 (by omega),h.hd.mono2 fun b ro L=>hs b ro L 1 (by omega),h.gr.mono2 fun b ro L=>hs b ro L 1 (by omega),h.ex.mono2 fun b ro L=>hs b ro L 1 (by omega),
  h.fi.mono2 fun b ro L=>hs b ro L 1 (by omega),h.st.mono2 fun b ro L=>hs b ro L 7 (by omega),h.wa.mono2 fun b ro L=>hs b ro L 7 (by omega)⟩
@[reducible] def foldRow (bl:Nat) (cards:AV) (c0 c1 c2 c3 c4:Int) (draws:AV):List AV:=[.ptr (some ⟨bl,0,0⟩),cards,iv c0,iv c1,iv c2,iv c3,iv c4,draws]
theorem boardLog_ok (hB:Base P K F T) {bf bl:Nat} {cards draws:AV} {c0 c1 c2 c3 c4:Int} (hf:Has bf (.r false [foldRow bl cards c0 c1 c2 c3 c4 draws] 8) s):Tri P K (F 24) [.ptr (some ⟨bf,0,0⟩)] s (fun v s'=>v=.ptr (some ⟨bl,0,0⟩)∧s'=s):=by
 refine hB.f24.tri (by simp) ?_
 unfold a24
 refine WP.seq (WP.ops (WO.r (.mv rfl) (WO.nil ?_)))
 refine WP.seq (WP.seq (WP.ops (WO.r (.mv rfl) (WO.r (.eql (b:=false) rfl rfl rfl) (WO.nil (WP.cond rfl (fun h=>by cases h) (fun _=>WP.skip ?_)))))))
 refine WP.seq (WP.ops (WO.r (.mv rfl) (WO.r (.nilchk rfl rfl) (WO.r (.faddr rfl) (WO.r (.faddr rfl) (WO.r (.load rfl hf rfl rfl rfl) (WO.r (.mv rfl) (WO.nil (WP.ret (Fin.mk (.tmp rfl .nil) ?_))))))))))
 exact⟨rfl,rfl⟩
theorem boardState_ok (hB:Base P K F T) {bf bl:Nat} {cards draws:AV} {c0 c1 c2 c3 c4:Int} {EL:List (List AV)} {d:SD} {t:SH} (hs:LogH bl EL d t s) (hd:d.Small) (hf:Has bf (.r false [foldRow bl cards c0 c1 c2 c3 c4 draws] 8) t) :
  Tri P K (F 14) [.ptr (some ⟨bf,0,0⟩)] s (fun v s'=>LogH bl EL d t s'∧∃ pv ov lv hv gv ev fv sv wv,v=.agg (d.cells pv ov lv hv gv ev fv sv wv)∧StD s' pv ov lv hv gv ev fv sv wv d):=by
 refine hB.f14.tri (by simp) ?_
 unfold a14
 refine WP.seq (WP.ops (WO.a (.alloc rfl) fun b2=>WO.nil ?_))
 have hs2:LogH bl EL d ([(b2,.r false [zState] 25)]++t) ((b2,.r false [zState] 25)::s):=by
  obtain⟨sc,lv,pv,ov,lv',hv,gv,ev,fv,sv,wv,oL,nn,k1,k2,k3,k4⟩:=hs
  exact⟨sc,lv,pv,ov,lv',hv,gv,ev,fv,sv,wv,oL,nn,perm_ct fun c w h0 h1 h2 hq=>by simp only [h1,h2,h0,hq _ _ k1];omega,k2,k3,k4⟩
 refine WP.seq (WP.ops (WO.r (.mv rfl) (WO.w (WS.callF (first:=[]) (vs:=[.ptr (some ⟨bf,0,0⟩)]) (cap:=[]) rfl rfl (boardLog_ok hB (.there (hs.mem hf))) ?_))))
 rintro w _ ⟨rfl,rfl⟩
 refine WO.w (WS.callF (first:=[]) (vs:=[.ptr (some ⟨bl,0,0⟩)]) (cap:=[]) rfl rfl (now_ok hB hs2 hd) ?_)
 rintro w s3 ⟨hs3,pv,ov,lv,hv,gv,ev,fv,sv,wv,rfl,hR⟩
 obtain⟨sc,lv2,pv2,ov2,lv',hv2,gv2,ev2,fv2,sv2,wv2,oL,nn,k1,k2,k3,k4⟩:=hs3
 refine WO.w (WS.pre (s':=[(b2,.r false [zState] 25)]++((bl,.r false [sc++([lv2]++(d.cells pv2 ov2 lv' hv2 gv2 ev2 fv2 sv2 wv2++[]))] 51)::(oL++(nn++t)))) (perm_ct fun c w h0 h1 h2 hq=>by simp only [h1,h2,h0,hq _ _ k1];omega) (WS.store rfl rfl rfl .here rfl rfl (WO.nil (WP.ret (Fin.mk (.cell rfl hB.t41.1 hB.t41.2 (.inl rfl) .here rfl rfl rfl .nil) ?_)))))
 have fin:∀ y,LogH bl EL d t ((b2,y)::((bl,.r false [sc++([lv2]++(d.cells pv2 ov2 lv' hv2 gv2 ev2 fv2 sv2 wv2++[]))] 51)::(oL++(nn++t))))∧StD ((b2,y)::((bl,.r false [sc++([lv2]++(d.cells pv2 ov2 lv' hv2 gv2 ev2 fv2 sv2 wv2++[]))] 51)::(oL++(nn++t)))) pv ov lv hv gv ev fv sv wv d:=fun y=>
  ⟨LogH.junk (m:=[_]) ⟨sc,lv2,pv2,ov2,lv',hv2,gv2,ev2,fv2,sv2,wv2,oL,nn,.refl _,k2,k3,k4⟩,hR.mono2 fun b ro L sz hsz hm=>by
   have:=k1.mem_iff.1 hm
   simp only [List.mem_cons,List.mem_append,Prod.mk.injEq,HO.r.injEq] at this ⊢
   rcases this with h|h|h|h|h
   ·exact .inr (.inl h)
   ·exact .inr (.inr (.inl h))
   ·exact .inr (.inr (.inr (.inl h)))
   ·rcases h with h | h
    ·exact absurd h.2.2.2 hsz
    ·cases h
   ·exact .inr (.inr (.inr (.inr h)))⟩
 exact⟨(fin _).1,pv,ov,lv,hv,gv,ev,fv,sv,wv,rfl,(fin _).2⟩
end
end Go.Ev
namespace Go.Ev
section
variable {P:Program} {K:Orc} {rd:Option Nat} {nt:Nat} {l:Sl} {ds:List ADef} {s:SH} {Q Qn Qr:Po} {Qe:Nat->Po} {F:Nat->FuncId} {T:Nat->TypeId}
theorem LogH.cons {bl:Nat} {EL:List (List AV)} {d:SD} {t s:SH} {p:Nat × HO} (h:LogH bl EL d t s):LogH bl EL d (p::t) (p::s):=by
 obtain⟨sc,lv,pv,ov,lv',hv,gv,ev,fv,sv,wv,oL,nn,k1,k2,k3,k4⟩:=h
 exact⟨sc,lv,pv,ov,lv',hv,gv,ev,fv,sv,wv,oL,nn,perm_ct fun c w h0 h1 h2 hq=>by simp only [h1,h2,hq _ _ k1];omega,k2,k3,k4⟩
theorem LogH.tail {bl:Nat} {EL:List (List AV)} {d:SD} {t s:SH} {p:Nat × HO} (h:LogH bl EL d (p::t) s):LogH bl EL d t s:=LogH.absorb (x:=[p]) h
theorem sub_i {n:Int} (h0:1≤n) (h1:n≤4611686018427387904):binV .sub (iv n) (.int .i64 (.ofNat 1))=some (iv (n - 1)):=by
 obtain⟨k,rfl⟩:=Int.eq_ofNat_of_zero_le (by omega:0≤n)
 have hk:1≤k:=by omega
 show mkI .i64 (isub (.ofNat k) (.ofNat 1))=_
 have:isub (.ofNat k) (.ofNat 1)=.ofNat (k - 1):=by
  show (match Nat.ble 1 k with | true=>Int.ofNat (Nat.sub k 1) | false=>.negSucc (Nat.pred (Nat.sub 1 k)))=_
  rw [Nat.ble_eq_true_of_le hk];rfl
 rw [this,mkI_n (by omega)]
 congr 2
 show ((k - 1:Nat):Int)=(k:Int) - 1
 omega
def Ap (P:Program) (K:Orc) (F:Nat->FuncId) (k a b n m:Int) (it:ID) (d d':SD):Prop:=∀ {pv ov lv hv gv ev fv sv wv:AV} (s:SH),StD s pv ov lv hv gv ev fv sv wv d->Tri P K (F 164) [.agg (d.cells pv ov lv hv gv ev fv sv wv),.agg (evRow k a b n m it)] s (fun v s'=>∃ pv ov lv hv gv ev fv sv wv nn,v=.tuple [.agg (d'.cells pv ov lv hv gv ev fv sv wv),iv 0]∧s'=nn++s∧StG nn pv ov lv hv gv ev fv sv wv d')
theorem boardAdd_ok (hB:Base P K F T) {bl:Nat} {EL:List (List AV)} {d d':SD} {t:SH} {k a b n m:Int} {it:ID} (hs:LogH bl EL d t s) (hE:EL.length≤1000) (hap:Ap P K F k a b n m it d d') :
  Tri P K (F 53) [.agg [.ptr (some ⟨bl,0,0⟩)],.agg (evRow k a b n m it)] s (fun v s'=>v=iv 0∧LogH bl (EL++[evRow k a b n m it]) d' t s'):=by
 refine hB.f53.tri (by simp) ?_
 unfold a53
 refine WP.seq (WP.ops (WO.a (.box rfl rfl) fun b2=>WO.a (.box rfl rfl) fun b3=>WO.r (.mv rfl) (WO.nil ?_)))
 refine WP.seq (WP.ops (WO.r (.faddr rfl) (WO.r (.load rfl (.there .here) rfl rfl rfl) (WO.r (.load rfl .here rfl rfl rfl) (WO.w (WS.callF (first:=[]) (vs:=[.ptr (some ⟨bl,0,0⟩),.agg (evRow k a b n m it)]) (cap:=[]) rfl rfl (logAdd_ok hB (LogH.junk (m:=[_,_]) hs) hE hap) ?_))))))
 rintro w s2 ⟨rfl,h2⟩
 exact WO.r (.mv rfl) (WO.nil (WP.ret (Fin.mk (.tmp rfl .nil) ⟨rfl,h2⟩)))
end
end Go.Ev
namespace Go.Ev
section
variable {P:Program} {K:Orc} {rd:Option Nat} {nt:Nat} {l:Sl} {ds:List ADef} {s:SH} {Q Qn Qr:Po} {Qe:Nat->Po} {F:Nat->FuncId} {T:Nat->TypeId}
end
end Go.Ev
namespace Go.Ev
end Go.Ev
namespace Go.Ev
section
variable {P:Program} {K:Orc} {rd:Option Nat} {nt:Nat} {l:Sl} {ds:List ADef} {s:SH} {Q Qn Qr:Po} {Qe:Nat->Po} {F:Nat->FuncId} {T:Nat->TypeId}
@[reducible] def it0:ID:=⟨0,0,0,0,0,0⟩
def RestR (t:SH):Po:=fun l ds s=>ds=[]∧lk l 4=some (.bool true)∧∀ b o,Has b o t->Has b o s
def NoQ:Po:=fun _ _ _=>False
end
end Go.Ev
namespace Go.Ev
section
variable {P:Program} {K:Orc} {rd:Option Nat} {nt:Nat} {l:Sl} {ds:List ADef} {s:SH} {Q Qn Qr:Po} {Qe:Nat->Po} {F:Nat->FuncId} {T:Nat->TypeId}
theorem LogH.first {bl:Nat} {EL:List (List AV)} {d:SD} {t s:SH} {p:Nat × HO} (h:LogH bl EL d (p::t) s):∃ s',s.Perm (p::s')∧LogH bl EL d t s':=by
 obtain⟨sc,lv,pv,ov,lv',hv,gv,ev,fv,sv,wv,oL,nn,k1,k2,k3,k4⟩:=h
 exact⟨(bl,.r false [sc++([lv]++(d.cells pv ov lv' hv gv ev fv sv wv++[]))] 51)::(oL++(nn++t)),perm_ct fun c w h0 h1 h2 hq=>by simp only [h1,h2,hq _ _ k1];omega,sc,lv,pv,ov,lv',hv,gv,ev,fv,sv,wv,oL,nn,.refl _,k2,k3,k4⟩
theorem rem_i {k:IntKind} {a b:Nat} (hb:0 < b):binV .rem (.int k (.ofNat a)) (.int k (.ofNat b))=some (.int k (.ofNat (a % b))):=by
 cases b with
 | zero=>exact absurd hb (Nat.lt_irrefl _)
 | succ b=>
  cases k <;> simp only [binV,keq,force_eq] <;> rfl
end
end Go.Ev
namespace Go.Ev
section
variable {P:Program} {K:Orc} {rd:Option Nat} {nt:Nat} {l:Sl} {ds:List ADef} {s:SH} {Q Qn Qr:Po} {Qe:Nat->Po} {F:Nat->FuncId} {T:Nat->TypeId}
structure Byts (t:SH) (lv:AV) (L:List (List AV)):Prop where
 len:lenOf lv=some L.length
 at':0 < L.length->∃ rb cap sl,lv=.slice (some ⟨rb,0,0⟩) L.length cap sl 1∧Has rb (.r true L 1) t
 b:∀ i,i < L.length->∃ x:Nat,x≤255∧L[i]?=some [.int .u8 (.ofNat x)]
end
end Go.Ev
namespace Go.Ev
def spine:Nat->Code->List Code × Code
 | 0,c=>([],c)
 | n+1,.seq a b=>((a::(spine n b).1),(spine n b).2)
 | _+1,c=>([],c)
theorem spine_eq:∀ (n:Nat) (c:Code),(spine n c).1.foldr .seq (spine n c).2=c:=by
 intro n
 induction n with
 | zero=>intro c;rfl
 | succ n ih=>
  intro c
  cases c with
  | seq a b=>show Code.seq a ((spine n b).1.foldr .seq (spine n b).2)=_;rw [ih b]
  | _=>rfl
noncomputable def preF (P:Program) (nt:Nat) (ih:CallT) (cs:List Code) (k:Kt):Kt:=List.rec (motive:=fun _=>Kt) k (fun c _ r e h=>(codeF P nt 1000 c).run ih (fun _ _ _=>false) (fun _ _=>false) e h r) cs
section
variable [Sg] {P:Program} {K:Orc} {rd:Option Nat} {nt:Nat} {ih:CallT}
theorem preF_ok (hC:CallR P K ih):∀ (cs:List Code) {k:Kt} {e:Env} {E:Tr AV} {h:FH} {H:Heap} {ds:List ADef},EnvR nt e E->FHr h H->FrR h.fr ds rd->preF P nt ih cs k e h=true ->
  ∃ E' H' ds' e' h',EnvR nt e' E'∧FHr h' H'∧FrR h'.fr ds' rd∧k e' h'=true∧∀ (rest:Code) R,Runs P K rd nt rest E' ds' H' R->Runs P K rd nt (cs.foldr .seq rest) E ds H R:=by
 intro cs
 induction cs with
 | nil=>intro k e E h H ds hE hH hF hk;exact⟨E,H,ds,e,h,hE,hH,hF,hk,fun _ _ hr=>hr⟩
 | cons c cs ihs=>
  intro k e E h H ds hE hH hF hk
  obtain⟨m,x,E1,ds1,H1,e1,h1,k1,k2,k3,k4,k5⟩:=codeF_ok hC 1000 hE hH hF hk
  cases x with
  | normal=>
   obtain⟨E',H',ds',e',h',q1,q2,q3,q4,q5⟩:=ihs k2 k3 k4 k5
   exact⟨E',H',ds',e',h',q1,q2,q3,q4,fun rest R hr=>Runs.seq ⟨m,k1⟩ (q5 rest R hr)⟩
  | ret=>cases k5
  | exit i=>cases k5
noncomputable def isA (v:V) (a:AV):Bool:=match av v with | some b=>sameV b a | none=>false
theorem isA_ok {v:V} {a b:AV} (h:VA v a) (hb:isA v b=true):a=b:=by
 unfold isA at hb
 split at hb
 ·rename_i c hc
  rw [av_ok h hc];exact sameV_eq hb
 ·cases hb
noncomputable def rowCk (R:R V):Nat->List AV->Bool
 | _,[]=>true
 | j,a::l=>isA (atR j R) a && rowCk R (j+1) l
noncomputable def rowsCk (rs:Ev.R (Ev.R V)) (sz:Nat):Nat->List (List AV)->Bool
 | _,[]=>true
 | r,l::L=>Nat.beq l.length sz && (rowCk (atR r rs) 0 l && rowsCk rs sz (r+1) L)
noncomputable def blkCk (h:FH) (b sz:Nat) (L:List (List AV)):Bool:=Nat.blt b 262144 && (Nat.blt b h.next && (Nat.beq (hget b h).t 1 && (Nat.beq (hget b h).n L.length && (Nat.beq (hget b h).sz sz && rowsCk (hget b h).rs sz 0 L))))
theorem rowCk_ok {R:Ev.R V} {row:List AV} (hr:∀ i a,row[i]?=some a->VA (atR i R) a):∀ (l:List AV) (j:Nat),rowCk R j l=true->row.length=j+l.length->row.drop j=l:=by
 intro l
 induction l with
 | nil=>intro j _ hl;exact List.drop_eq_nil_of_le (by rw [hl];exact Nat.le_refl _)
 | cons a l ih=>
  intro j h hl
  obtain⟨h1,h2⟩:=(Bool.and_eq_true _ _).mp h
  rw [List.length_cons] at hl
  have hj:j < row.length:=by omega
  rw [List.drop_eq_getElem_cons hj,ih (j+1) h2 (by omega),isA_ok (hr j _ (List.getElem?_eq_getElem hj)) h1]
theorem rowsCk_ok {rs:Ev.R (Ev.R V)} {sz:Nat} {T:Tr (List AV)}:∀ (L:List (List AV)) (r:Nat),rowsCk rs sz r L=true->(∀ i,r≤i->i < r+L.length->∃ row,T.get i=some row∧RVA sz (atR i rs) row) ->
  ∀ (i:Nat) row,L[i]?=some row->T.get (r+i)=some row∧row.length=sz:=by
 intro L
 induction L with
 | nil=>intro r _ _ i row hi;cases hi
 | cons l L ih=>
  intro r h hT i row hi
  obtain⟨h1,h2⟩:=(Bool.and_eq_true _ _).mp h
  obtain⟨h2,h3⟩:=(Bool.and_eq_true _ _).mp h2
  rw [List.length_cons] at hT
  cases i with
  | zero=>
   cases hi
   obtain⟨row,e1,e2⟩:=hT r (Nat.le_refl _) (by omega)
   have h1:l.length=sz:=Nat.eq_of_beq_eq_true h1
   have:=rowCk_ok e2.cell l 0 h2 (by rw [e2.len,h1];omega)
   rw [List.drop_zero] at this
   subst this
   exact⟨e1,h1⟩
  | succ i=>
   have:=ih (r+1) h3 (fun i h1 h2=>hT i (by omega) (by omega)) i row hi
   rw [show r+1+i=r+(i+1) by omega] at this
   exact this
theorem blkCk_ok {h:FH} {H:Heap} (hH:FHr h H) {b sz:Nat} {L:List (List AV)} (hc:blkCk h b sz L=true):b < H.next∧(HO.r false L sz).ok (H.get b):=by
 obtain⟨h1,hc⟩:=(Bool.and_eq_true _ _).mp hc
 obtain⟨h2,hc⟩:=(Bool.and_eq_true _ _).mp hc
 obtain⟨h3,hc⟩:=(Bool.and_eq_true _ _).mp hc
 obtain⟨h4,hc⟩:=(Bool.and_eq_true _ _).mp hc
 obtain⟨h5,hc⟩:=(Bool.and_eq_true _ _).mp hc
 have h1:b < 262144:=blt_iff.1 h1
 have h2:b < h.next:=blt_iff.1 h2
 have h3:(hget b h).t=1:=Nat.eq_of_beq_eq_true h3
 have h4:(hget b h).n=L.length:=Nat.eq_of_beq_eq_true h4
 have h5:(hget b h).sz=sz:=Nat.eq_of_beq_eq_true h5
 refine⟨by rw [<- hH.next];exact h2,?_⟩
 obtain⟨T,e1,e2,e3,e4⟩:=(hH.block b h1).rows h3
 rw [h4,h5] at e1
 refine⟨T,e1,fun i row hi=>?_⟩
 have:=rowsCk_ok L 0 hc (fun i _ hi=>by
  have:=e4 i (by rw [h4];omega)
  rwa [h5] at this) i row hi
 rwa [Nat.zero_add] at this
noncomputable def memCk (h:FH):List (Nat × Nat × List (List AV))->Bool
 | []=>true
 | (b,sz,L)::r=>blkCk h b sz L && memCk h r
def memS (l:List (Nat × Nat × List (List AV))):SH:=l.map fun p=>(p.1,.r false p.2.2 p.2.1)
theorem memCk_ok {h:FH} {H:Heap} (hH:FHr h H):∀ {l:List (Nat × Nat × List (List AV))},memCk h l=true->∀ b o,(b,o)∈memS l->b < H.next∧o.ok (H.get b):=by
 intro l
 induction l with
 | nil=>intro _ b o hb;cases hb
 | cons p l ih=>
  intro hc b o hb
  obtain⟨b1,sz,L⟩:=p
  obtain⟨h1,h2⟩:=(Bool.and_eq_true _ _).mp hc
  cases hb with
  | head=>exact blkCk_ok hH h1
  | tail _ hb=>exact ih h2 b o hb
noncomputable def slotCk (e:Env):List (Nat × AV)->Bool
 | []=>true
 | (t,a)::r=>isA (atR t e) a && slotCk e r
theorem slotCk_ok {e:Env} {E:Tr AV} (hE:EnvR nt e E):∀ {l:List (Nat × AV)},slotCk e l=true->(∀ p∈l,p.1 < nt)->∀ t a,(t,a)∈l->E.get t=some a:=by
 intro l
 induction l with
 | nil=>intro _ _ t a hb;cases hb
 | cons p l ih=>
  intro hc hn t a hb
  obtain⟨t1,a1⟩:=p
  obtain⟨h1,h2⟩:=(Bool.and_eq_true _ _).mp hc
  cases hb with
  | head=>
   obtain⟨x,e1,e2⟩:=hE.slot t (hn _ (List.mem_cons_self ..))
   rw [e1,isA_ok e2 h1]
  | tail _ hb=>exact ih h2 (fun p hp=>hn p (List.mem_cons_of_mem _ hp)) t a hb
end
end Go.Ev
namespace Go.Ev
@[reducible] def ob0 (id card owner:Int):OD:=⟨id,card,owner,owner,0,false,false,false,0,0,0,0,false⟩
@[reducible] def slA (b n sz:Nat):AV:=.slice (some ⟨b,0,0⟩) n n true sz
end Go.Ev
namespace Go.Ev
section
variable {P:Program} {K:Orc} {F:Nat->FuncId} {T:Nat->TypeId} {l:Sl} {s:SH}
end
end Go.Ev
namespace Go.Ev
section
variable [Sg] {P:Program} {K:Orc}
theorem envStart {nt:Nat} {args:List V} {as:List AV} (ha:VAs args as) (g1:nt≤4180) (q':as.length≤nt):∃ e0,argsEnv nt as=some e0∧EnvR nt (wrV args 0 row0) e0:=by
 obtain⟨s0,hs0⟩:=lfold_total (f:=fun (s:Tr AV × Nat) (v:AV)=>some (s.1.put s.2 v,Nat.succ s.2)) (fun b a=>⟨_,rfl⟩) as (undefs nt,0)
 have he0:argsEnv nt as=some s0.1:=by unfold argsEnv;rw [hs0]
 refine⟨s0.1,he0,g1,fun t ht=>?_⟩
 rw [argsEnv_get he0]
 cases hat:as[t]? with
 | some a=>
  refine⟨a,rfl,?_⟩
  have:=ha.row (o:=0) (r:=row0) (by omega) t a hat
  rwa [Nat.zero_add] at this
 | none=>
  refine⟨.undef,by simp only [if_pos ht],?_⟩
  have hge:as.length≤t:=List.getElem?_eq_none_iff.1 hat
  rw [wrV_get _ _ _ _ (by rw [ha.length];omega) (by omega),dif_neg (by rw [ha.length];omega)]
  show VA (atR t (rpR vU)) .undef
  rw [at_rpR]
  exact VA.undef
end
end Go.Ev
