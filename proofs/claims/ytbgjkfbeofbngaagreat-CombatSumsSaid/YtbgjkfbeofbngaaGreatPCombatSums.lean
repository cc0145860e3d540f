/- Proved here: the law CombatSums, as the given statement says it. Conditions: none. -/
import Derived.Test.YtbgjkfbeofbngaaGreatKWCombatSums
import Derived.Test.YtbgjkfbeofbngaaGreatKCombatSums
import Derived.Test.YtbgjkfbeofbngaaGreatKCCombatSums
import Derived.Test.YtbgjkfbeofbngaaGreatBCombatSums
import Derived.Test.YtbgjkfbeofbngaaGreatFCombatSums
import Derived.Test.YtbgjkfbeofbngaaGreatOCombatSums
import Derived.Test.YtbgjkfbeofbngaaGreatEvN
import Derived.ProofKit
import Derived.OpenShut
namespace Go.Proofs.YtbgjkfbeofbngaaGreat.combatSums
open Go.ChangeShapes Go.WideShapes Go.ChangeAt Go.RowKit
set_option linter.unusedVariables false

theorem own:ownKnob Tryz.prog.godebug=none:=by kernel_rfl
theorem mixed:Tryz.prog.follows .mixedOrders=true:=by kernel_rfl
/-- An event with numbers that are not known. -/
@[reducible] noncomputable def sg2 (c k:Int):Go.Ev.Sg:=Go.Ev.mkSg (λi=>match i with | 0=>c | _=>k) (λ_=>.undef) (λ_=>.deferred)
theorem evNV (a b:Int)(h:0<=a/\a<=1)(h2:1<=b/\b<=8):@Go.Ev.VAs (sg2 a b) [evN] [.agg (Go.Ev.evRow 1 a b 2 0 Go.Ev.it0)]:=by
 letI:Go.Ev.Sg:=sg2 a b
 refine .cons (@Go.Ev.VA.ofList _ _ (Go.Ev.evRow 1 a b 2 0 Go.Ev.it0) ?_ (show 13<=4180 by decide)) .nil
 exact(.cons (Go.Ev.VA.mkV _) (.cons (Go.Ev.VA.symV (i:=0) (n:=a) rfl (by omega) (by omega) (by decide) (λm hm=>by cases hm)) (.cons (Go.Ev.VA.symV (i:=1) (n:=b) rfl (by omega) (by omega) (by decide) (λm hm=>by cases hm)) (.cons (Go.Ev.VA.mkV _) (.cons (Go.Ev.VA.mkV _) (.cons (Go.Ev.VA.mkV _) (.cons (Go.Ev.VA.mkV _) (.cons (Go.Ev.VA.mkV _) (.cons (Go.Ev.VA.mkV _) (.cons (Go.Ev.VA.mkV _) (.cons (Go.Ev.VA.mkV _) (.cons (Go.Ev.VA.mkV _) (.cons (Go.Ev.VA.mkV _) .nil)))))))))))))
theorem evSV (a:Int)(h:1<=a/\a<=8):@Go.Ev.VAs (sg2 a 0) [evS] [.agg (Go.Ev.evRow 4 a 0 0 0 Go.Ev.it0)]:=by
 letI:Go.Ev.Sg:=sg2 a 0
 refine .cons (@Go.Ev.VA.ofList _ _ (Go.Ev.evRow 4 a 0 0 0 Go.Ev.it0) ?_ (show 13<=4180 by decide)) .nil
 exact(.cons (Go.Ev.VA.mkV _) (.cons (Go.Ev.VA.symV (i:=0) (n:=a) rfl (by omega) (by omega) (by decide) (λm hm=>by cases hm)) (.cons (Go.Ev.VA.mkV _) (.cons (Go.Ev.VA.mkV _) (.cons (Go.Ev.VA.mkV _) (.cons (Go.Ev.VA.mkV _) (.cons (Go.Ev.VA.mkV _) (.cons (Go.Ev.VA.mkV _) (.cons (Go.Ev.VA.mkV _) (.cons (Go.Ev.VA.mkV _) (.cons (Go.Ev.VA.mkV _) (.cons (Go.Ev.VA.mkV _) (.cons (Go.Ev.VA.mkV _) .nil)))))))))))))
theorem evTV (a:Int)(h:1<=a/\a<=8):@Go.Ev.VAs (sg2 a 0) [evT] [.agg (Go.Ev.evRow 3 a 0 1 0 Go.Ev.it0)]:=by
 letI:Go.Ev.Sg:=sg2 a 0
 refine .cons (@Go.Ev.VA.ofList _ _ (Go.Ev.evRow 3 a 0 1 0 Go.Ev.it0) ?_ (show 13<=4180 by decide)) .nil
 exact(.cons (Go.Ev.VA.mkV _) (.cons (Go.Ev.VA.symV (i:=0) (n:=a) rfl (by omega) (by omega) (by decide) (λm hm=>by cases hm)) (.cons (Go.Ev.VA.mkV _) (.cons (Go.Ev.VA.mkV _) (.cons (Go.Ev.VA.mkV _) (.cons (Go.Ev.VA.mkV _) (.cons (Go.Ev.VA.mkV _) (.cons (Go.Ev.VA.mkV _) (.cons (Go.Ev.VA.mkV _) (.cons (Go.Ev.VA.mkV _) (.cons (Go.Ev.VA.mkV _) (.cons (Go.Ev.VA.mkV _) (.cons (Go.Ev.VA.mkV _) .nil)))))))))))))
theorem evAV (a:Int)(h:1<=a/\a<=8):@Go.Ev.VAs (sg2 a 0) [evA] [.agg (Go.Ev.evRow 12 a 2 0 0 Go.Ev.it0)]:=by
 letI:Go.Ev.Sg:=sg2 a 0
 refine .cons (@Go.Ev.VA.ofList _ _ (Go.Ev.evRow 12 a 2 0 0 Go.Ev.it0) ?_ (show 13<=4180 by decide)) .nil
 exact(.cons (Go.Ev.VA.mkV _) (.cons (Go.Ev.VA.symV (i:=0) (n:=a) rfl (by omega) (by omega) (by decide) (λm hm=>by cases hm)) (.cons (Go.Ev.VA.mkV _) (.cons (Go.Ev.VA.mkV _) (.cons (Go.Ev.VA.mkV _) (.cons (Go.Ev.VA.mkV _) (.cons (Go.Ev.VA.mkV _) (.cons (Go.Ev.VA.mkV _) (.cons (Go.Ev.VA.mkV _) (.cons (Go.Ev.VA.mkV _) (.cons (Go.Ev.VA.mkV _) (.cons (Go.Ev.VA.mkV _) (.cons (Go.Ev.VA.mkV _) .nil)))))))))))))
theorem evPV (a:Int)(h:1<=a/\a<=8):@Go.Ev.VAs (sg2 a 0) [evP] [.agg (Go.Ev.evRow 14 a 0 1 0 Go.Ev.it0)]:=by
 letI:Go.Ev.Sg:=sg2 a 0
 refine .cons (@Go.Ev.VA.ofList _ _ (Go.Ev.evRow 14 a 0 1 0 Go.Ev.it0) ?_ (show 13<=4180 by decide)) .nil
 exact(.cons (Go.Ev.VA.mkV _) (.cons (Go.Ev.VA.symV (i:=0) (n:=a) rfl (by omega) (by omega) (by decide) (λm hm=>by cases hm)) (.cons (Go.Ev.VA.mkV _) (.cons (Go.Ev.VA.mkV _) (.cons (Go.Ev.VA.mkV _) (.cons (Go.Ev.VA.mkV _) (.cons (Go.Ev.VA.mkV _) (.cons (Go.Ev.VA.mkV _) (.cons (Go.Ev.VA.mkV _) (.cons (Go.Ev.VA.mkV _) (.cons (Go.Ev.VA.mkV _) (.cons (Go.Ev.VA.mkV _) (.cons (Go.Ev.VA.mkV _) .nil)))))))))))))
theorem evBV (a b:Int)(h:1<=a/\a<=8)(h2:1<=b/\b<=8):@Go.Ev.VAs (sg2 a b) [evB] [.agg (Go.Ev.evRow 13 a b 0 0 Go.Ev.it0)]:=by
 letI:Go.Ev.Sg:=sg2 a b
 refine .cons (@Go.Ev.VA.ofList _ _ (Go.Ev.evRow 13 a b 0 0 Go.Ev.it0) ?_ (show 13<=4180 by decide)) .nil
 exact(.cons (Go.Ev.VA.mkV _) (.cons (Go.Ev.VA.symV (i:=0) (n:=a) rfl (by omega) (by omega) (by decide) (λm hm=>by cases hm)) (.cons (Go.Ev.VA.symV (i:=1) (n:=b) rfl (by omega) (by omega) (by decide) (λm hm=>by cases hm)) (.cons (Go.Ev.VA.mkV _) (.cons (Go.Ev.VA.mkV _) (.cons (Go.Ev.VA.mkV _) (.cons (Go.Ev.VA.mkV _) (.cons (Go.Ev.VA.mkV _) (.cons (Go.Ev.VA.mkV _) (.cons (Go.Ev.VA.mkV _) (.cons (Go.Ev.VA.mkV _) (.cons (Go.Ev.VA.mkV _) (.cons (Go.Ev.VA.mkV _) .nil)))))))))))))
theorem evHV (a b:Int)(h:1<=a/\a<=8)(h2:1<=b/\b<=6):@Go.Ev.VAs (sg2 a b) [evH] [.agg (Go.Ev.evRow 5 a 0 b 0 Go.Ev.it0)]:=by
 letI:Go.Ev.Sg:=sg2 a b
 refine .cons (@Go.Ev.VA.ofList _ _ (Go.Ev.evRow 5 a 0 b 0 Go.Ev.it0) ?_ (show 13<=4180 by decide)) .nil
 exact(.cons (Go.Ev.VA.mkV _) (.cons (Go.Ev.VA.symV (i:=0) (n:=a) rfl (by omega) (by omega) (by decide) (λm hm=>by cases hm)) (.cons (Go.Ev.VA.mkV _) (.cons (Go.Ev.VA.symV (i:=1) (n:=b) rfl (by omega) (by omega) (by decide) (λm hm=>by cases hm)) (.cons (Go.Ev.VA.mkV _) (.cons (Go.Ev.VA.mkV _) (.cons (Go.Ev.VA.mkV _) (.cons (Go.Ev.VA.mkV _) (.cons (Go.Ev.VA.mkV _) (.cons (Go.Ev.VA.mkV _) (.cons (Go.Ev.VA.mkV _) (.cons (Go.Ev.VA.mkV _) (.cons (Go.Ev.VA.mkV _) .nil)))))))))))))
theorem evLV (b:Int)(h2:-6<=b/\b<=-1):@Go.Ev.VAs (sg2 b 0) [evL] [.agg (Go.Ev.evRow 7 (.ofNat 1) 0 b 0 Go.Ev.it0)]:=by
 letI:Go.Ev.Sg:=sg2 b 0
 refine .cons (@Go.Ev.VA.ofList _ _ (Go.Ev.evRow 7 (.ofNat 1) 0 b 0 Go.Ev.it0) ?_ (show 13<=4180 by decide)) .nil
 exact(.cons (Go.Ev.VA.mkV _) (.cons (Go.Ev.VA.mkV _) (.cons (Go.Ev.VA.mkV _) (.cons (Go.Ev.VA.symV (i:=0) (n:=b) rfl (by omega) (by omega) (by decide) (λm hm=>by cases hm)) (.cons (Go.Ev.VA.mkV _) (.cons (Go.Ev.VA.mkV _) (.cons (Go.Ev.VA.mkV _) (.cons (Go.Ev.VA.mkV _) (.cons (Go.Ev.VA.mkV _) (.cons (Go.Ev.VA.mkV _) (.cons (Go.Ev.VA.mkV _) (.cons (Go.Ev.VA.mkV _) (.cons (Go.Ev.VA.mkV _) .nil)))))))))))))
theorem orcOk:Go.Ev.OrcOk Tryz.prog orc:=by
 refine Go.Ev.orc10_ok (Go.Ev.works_kc mixed combatSumsWorks) (λp c h1 h2=>?_) (λa h=>?_) (λa h=>?_) (λa h=>?_) (λa b h1 h2=>?_) (λa h=>?_) (λa b h1 h2=>?_) (λb h=>?_)
 ·exact@Go.Ev.fast_kcon (sg2 p c) _ mixed _ _ _ _ _ (evNV p c h1 h2) trivial chkN
 ·exact@Go.Ev.fast_kcon (sg2 a 0) _ mixed _ _ _ _ _ (evSV a h) trivial chkS
 ·exact@Go.Ev.fast_kcon (sg2 a 0) _ mixed _ _ _ _ _ (evTV a h) trivial chkT
 ·exact@Go.Ev.fast_kcon (sg2 a 0) _ mixed _ _ _ _ _ (evAV a h) trivial chkA
 ·exact@Go.Ev.fast_kcon (sg2 a b) _ mixed _ _ _ _ _ (evBV a b h1 h2) trivial chkB
 ·exact@Go.Ev.fast_kcon (sg2 a 0) _ mixed _ _ _ _ _ (evPV a h) trivial chkP
 ·exact@Go.Ev.fast_kcon (sg2 a b) _ mixed _ _ _ _ _ (evHV a b h1 h2) trivial chkH
 ·exact@Go.Ev.fast_kcon (sg2 b 0) _ mixed _ _ _ _ _ (evLV b h) trivial chkL
theorem trn:Go.Ev.TrnK Tryz.prog orc fF fT 3 Tryz.f3 (Tryz.f3.body.getD .skip) Tryz.f10 (Tryz.f10.body.getD .skip) (Go.Ev.ruleG 20 253) 1000 where
 mixed:=mixed
 orc:=orcOk
 base:=lawS
 baseM:=myBaseM
 baseK:=myBaseK
 says:=Go.Ev.says10 (by decide)
 rule:=λS=>@Go.Ev.ruleG_ok S _ _ _ (λH=>Go.Ev.orc10_w (by decide) H) λf args H h1 h2=>Go.Ev.orc10_none h1 h2 args H
 func:=Tryz.func3
 body:=by kernel_rfl
 nt:=by kernel_rfl
 res:=by kernel_rfl
 name:=by kernel_rfl
 rest:=by kernel_rfl
 free:=λargs H=>Go.Ev.orc10_none (by decide) (by decide) args H
 func31:=Tryz.func10
 body31:=by kernel_rfl
 nt31:=by kernel_rfl
 res31:=by kernel_rfl
 name31:=by kernel_rfl
 rest31:=by kernel_rfl
 free31:=λargs H=>Go.Ev.orc10_none (by decide) (by decide) args H
 runN:=runN
 runE:=runE
 runS:=λq n h0 h8=>match n,h0,h8 with
  | 1,_,_=>runS1 q
  | 2,_,_=>runS2 q
  | 3,_,_=>runS3 q
  | 4,_,_=>runS4 q
  | 5,_,_=>runS5 q
  | 6,_,_=>runS6 q
  | 7,_,_=>runS7 q
  | 8,_,_=>runS8 q
  | n+9,_,h=>absurd h (by omega)
 runL:=runL
theorem okWide_at {P:Program}{w:World}{r:Reach}{base:Nat}{t e:TypeId}{a:Addr}{len cap:Nat}(ht:P.underlying t=some (.slice e))(h:Value.okWide P w r base t (.slice (some a) len cap)):a.block<w.heap.size/\a.spot=none:=by
 unfold Value.okWide at h
 rw[ht]at h
 have h:Cell.okWide P w r base t (.slice (some a) len cap):=h
 unfold Cell.okWide at h
 rw[ht]at h
 have h:Cell.ok P w r base t (.slice (some a) len cap):=h
 unfold Cell.ok at h
 rw[ht]at h
 obtain⟨_,_,_,h2,row,cells,hs,_⟩:=h
 unfold World.shape? at hs
 split at hs
 ·rename_i hb
  exact⟨(Array.getElem?_eq_some_iff.1 hb).1,h2⟩
 ·cases hs
theorem cells_at {W:World}{ab o:Nat}{v:Value}(h:W.cell? ⟨ab,o,none⟩=some v):∃c el fz,W.heap[ab]?=some (.cells c el fz)/\∀(o:Nat)v,W.cell? ⟨ab,o,none⟩=some v->c[o]?=some v:=by
 unfold World.cell? at h
 split at h
 ·rename_i c el fz hc
  have hc:W.heap[ab]?=some (.cells c el fz):=hc
  refine⟨c,el,fz,hc,λo v h=>?_⟩
  unfold World.cell? at h
  simpa[hc]using h
 ·cases h
theorem listF {H:Type}{enc:TypeId × Value->H}{W:World}{a:Option Addr}{len cap:Nat}{dd:DataW H}{pp:List MemPlace}(hd:DataW.Trod enc Tryz.prog W 0 (λ_=>true) true 22 (.slice a len cap) dd pp)(hat:∀x,a=some x->x.block<W.heap.size/\x.spot=none) :
  (∃q b,Go.Ev.FArg W (.slice a len cap) q b)/\∀W':World,W.keptBut W' (λ_=>False)->∃pa,DataW.Trod enc Tryz.prog W' 0 (λb=>decide (b<W.heap.size)) true 22 (.slice a len cap) dd pa:=by
 obtain⟨fuel,hf⟩:=hd
 rcases open4 hf with⟨h1,h2⟩|⟨a',len',cap',m,f,h1,hb0,hl,hm,hmm,h2,hcell⟩
 ·have h1:[Value.slice a len cap]=[.slice none 0 0]:=h1
  simp only[List.cons.injEq,Value.slice.injEq,and_true]at h1
  obtain⟨rfl,rfl,rfl⟩:=h1
  have hd:dd=.nil:=congrArg Prod.fst h2
  subst hd
  refine⟨⟨false,0,.nil⟩,λW' hg=>⟨[],1,?_⟩⟩
  show DataW.trod enc Tryz.prog W' 0 _ true 1 22 [.slice none 0 0]=_
  simp[DataW.trod,Tryz.underlying22]
 ·have h1:[Value.slice a len cap]=[.slice (some a') len' cap']:=h1
  simp only[List.cons.injEq,Value.slice.injEq,and_true]at h1
  obtain⟨rfl,rfl,rfl⟩:=h1
  have hmm:m=cap:=hmm
  subst hmm
  obtain⟨hblk,hsp⟩:=hat _ rfl
  obtain⟨ab,ao,sp⟩:=a'
  have hsp:sp=none:=hsp
  subst hsp
  have hc0:∀i,i<m->W.cell? ⟨ab,ao+i*4,none⟩=some (.int .u8 (f i).1)/\W.cell? ⟨ab,ao+i*4+1,none⟩=some (.int .u8 (f i).2.1)/\W.cell? ⟨ab,ao+i*4+2,none⟩=some (.int .u8 (f i).2.2.1)/\W.cell? ⟨ab,ao+i*4+3,none⟩=some (.int .u8 (f i).2.2.2):=λi hi=>by
   obtain⟨e0,e1,e2,e3,_⟩:=hcell i hi
   rw[add_plain]at e0 e1 e2 e3
   exact⟨e0,e1,e2,e3⟩
  refine⟨?_,λW' hg=>?_⟩
  ·by_cases h0:len=0
   ·subst h0
    exact⟨false,0,.emp⟩
   ·obtain⟨c,el,fz,hc,get⟩:=cells_at (hc0 0 (by omega)).1
    have hbd:∀(g:Nat->Int)(i:Nat),(i<m->(Lit.int .u8 (g i)).wf=true)->0<=(if i<m then g i else 0)/\(if i<m then g i else 0)<=255:=λg i h=>by
     by_cases hi:i<m
     ·rw[if_pos hi];exact Go.bounds_u8 (h hi)
     ·rw[if_neg hi];omega
    refine⟨true,ab,.full (x:=λi=>if i<m then(f i).1 else 0) (z:=λi=>if i<m then(f i).2.1 else 0) (y:=λi=>if i<m then(f i).2.2.1 else 0) (w:=λi=>if i<m then(f i).2.2.2 else 0) (λi=>hbd (λi=>(f i).1) i λhi=>(hcell i hi).2.2.2.2.1) (λi=>hbd (λi=>(f i).2.1) i λhi=>(hcell i hi).2.2.2.2.2.1) (λi=>hbd (λi=>(f i).2.2.1) i λhi=>(hcell i hi).2.2.2.2.2.2.1) (λi=>hbd (λi=>(f i).2.2.2) i λhi=>(hcell i hi).2.2.2.2.2.2.2) (by omega) hl (by have:maxLen=9223372036854775807:=rfl;omega) hc λi hi=>?_⟩
    have hi2:i<m:=by omega
    simp only[if_pos hi2]
    exact⟨get _ _ (hc0 i hi2).1,get _ _ (hc0 i hi2).2.1,get _ _ (hc0 i hi2).2.2.1,get _ _ (hc0 i hi2).2.2.2⟩
  ·have hd:dd=.slice ((List.range len).map (by4 f)) ((List.range (m-len)).map λj=>by4 f (len+j)):=h2
   obtain⟨k,p,hk⟩:=shut4 (enc:=enc) (w:=W') (base:=0) (spare:=λb=>decide (b<W.heap.size)) (held:=true) (b:=ab) (off:=ao) (len:=len) (cap:=m) (Nat.zero_le _) hl hm (decide_eq_true hblk) f (λi hi=>by
    obtain⟨e0,e1,e2,e3⟩:=hc0 i hi
    refine⟨?_,?_,?_,?_,(hcell i hi).2.2.2.2⟩
    ·rw[World.keptBut.cell hg hblk (λh=>h.elim)];exact e0
    ·rw[World.keptBut.cell hg hblk (λh=>h.elim)];exact e1
    ·rw[World.keptBut.cell hg hblk (λh=>h.elim)];exact e2
    ·rw[World.keptBut.cell hg hblk (λh=>h.elim)];exact e3)
   exact⟨p,k,by rw[hd];exact hk⟩
theorem listZ {H:Type}{enc:TypeId × Value->H}{W:World}{a:Option Addr}{len cap:Nat}{dd:DataW H}{pp:List MemPlace}(hd:DataW.Trod enc Tryz.prog W 0 (λ_=>true) true 23 (.slice a len cap) dd pp)(hat:∀x,a=some x->x.block<W.heap.size/\x.spot=none) :
  (∃q b,Go.Ev.ZArg W (.slice a len cap) q b)/\∀W':World,W.keptBut W' (λ_=>False)->∃pa,DataW.Trod enc Tryz.prog W' 0 (λb=>decide (b<W.heap.size)) true 23 (.slice a len cap) dd pa:=by
 obtain⟨fuel,hf⟩:=hd
 rcases openZ hf with⟨h1,h2⟩|⟨a',len',cap',m,f,h1,hb0,hl,hm,hmm,h2,hcell⟩
 ·have h1:[Value.slice a len cap]=[.slice none 0 0]:=h1
  simp only[List.cons.injEq,Value.slice.injEq,and_true]at h1
  obtain⟨rfl,rfl,rfl⟩:=h1
  have hd:dd=.nil:=congrArg Prod.fst h2
  subst hd
  refine⟨⟨false,0,.nil⟩,λW' hg=>⟨[],1,?_⟩⟩
  show DataW.trod enc Tryz.prog W' 0 _ true 1 23 [.slice none 0 0]=_
  simp[DataW.trod,Tryz.underlying23]
 ·have h1:[Value.slice a len cap]=[.slice (some a') len' cap']:=h1
  simp only[List.cons.injEq,Value.slice.injEq,and_true]at h1
  obtain⟨rfl,rfl,rfl⟩:=h1
  have hmm:m=cap:=hmm
  subst hmm
  obtain⟨hblk,hsp⟩:=hat _ rfl
  obtain⟨ab,ao,sp⟩:=a'
  have hsp:sp=none:=hsp
  subst hsp
  have hc0:∀i,i<m->W.cell? ⟨ab,ao+i,none⟩=some (.int .u8 (f i)):=λi hi=>by
   have e0:=(hcell i hi).1
   rw[add_plain]at e0
   exact e0
  refine⟨?_,λW' hg=>?_⟩
  ·by_cases h0:len=0
   ·subst h0
    exact⟨false,0,.emp⟩
   ·obtain⟨c,el,fz,hc,get⟩:=cells_at (hc0 0 (by omega))
    refine⟨true,ab,.full (t:=λi=>if i<m then f i else 0) (λi=>?_) (by omega) hc λi hi=>?_⟩
    ·by_cases hi:i<m
     ·simp only[if_pos hi];exact Go.bounds_u8 (hcell i hi).2
     ·simp only[if_neg hi];omega
    ·have hi2:i<m:=by omega
     simp only[if_pos hi2]
     exact get _ _ (hc0 i hi2)
  ·have hd:dd=.slice ((List.range len).map (byZ f)) ((List.range (m-len)).map λj=>byZ f (len+j)):=h2
   obtain⟨k,p,hk⟩:=shutZ (enc:=enc) (w:=W') (base:=0) (spare:=λb=>decide (b<W.heap.size)) (held:=true) (b:=ab) (off:=ao) (len:=len) (cap:=m) (Nat.zero_le _) hl hm (decide_eq_true hblk) f (λi hi=>⟨by rw[World.keptBut.cell hg hblk (λh=>h.elim)];exact hc0 i hi,(hcell i hi).2⟩)
   exact⟨p,k,by rw[hd];exact hk⟩
set_option maxRecDepth 100000 in
theorem lifted (os:Os)(started:os.Started)(H:Type)(enc:TypeId × Value->H) :
  ReturnsInHanded {} Tryz.checked os 3 .any (Rows.combatSumsSpec.pre6 enc Tryz.prog Tryz.f3 Rows.combatSumsRow.domain false) (Rows.combatSumsSpec.post enc Tryz.prog Tryz.f3 false true false false):=by
 refine returnsInHanded_of_change (C:=Tryz.checked) own started (by kernel_rfl) Tryz.func3
  (ChangeSpec.witness6 (enc:=enc) (C:=Tryz.checked) false ⟨#[],#[.slice none 0 0,.slice none 0 0],[]⟩ 8 (by kernel_rfl) (by kernel_rfl) (by kernel_rfl) (by kernel_rfl)) ?_
 intro W base args ds gs before hval0 hW hcnd _
 have hW':=hW
 obtain⟨p,q,hA0,hV,rfl,hfz,hnd⟩:=hW
 have hA:DataW.TrodAll enc Tryz.prog W 0 (λ_=>true) true Tryz.f3.params.toList args.toList ds p:=hA0
 rw[Tryz.params3]at hA
 obtain⟨v1,v2,d1,d2,p1,p2,rfl,rfl,rfl,hd1,hd2⟩:=trodAll_two hA
 obtain⟨rfl,rfl⟩:=trodVars_none hV
 obtain⟨a,len,cap,rfl⟩:=okWide_slice Tryz.underlying22 (hval0 0 _ _ rfl rfl)
 obtain⟨a2,len2,cap2,rfl⟩:=okWide_slice Tryz.underlying23 (hval0 1 _ _ rfl rfl)
 simp only[List.append_nil]at hW'
 obtain⟨⟨q1,b1,hF⟩,back1⟩:=listF hd1 λx e=>by subst e;exact okWide_at Tryz.underlying22 (hval0 0 _ _ rfl rfl)
 obtain⟨⟨q2,b2,hB⟩,back2⟩:=listZ hd2 λx e=>by subst e;exact okWide_at Tryz.underlying23 (hval0 1 _ _ rfl rfl)
 refine(Go.Ev.trnK_law trn hF hB).mono λe W'⟨he,hg⟩=>?_
 subst he
 obtain⟨pa,hpa⟩:=back1 W' hg
 obtain⟨pb,hpb⟩:=back2 W' hg
 exact⟨_,rfl,⟨_,[],_,[],_,[],hW',trodAll_cons_mk (shut_bool Tryz.underlying4 _) trodAll_mk0,trodAll_mk2 hpa hpb,rfl,World.keptBut_mono (λ_ hp=>hp.elim) hg,λh=>absurd h (by decide)⟩⟩

theorem isNamed:Tryz.pinned.checked.prog.funcNamed Rows.combatSumsRow.func=some 3:=by kernel_rfl
theorem isWrapped:Tryz.f3.isWrapper Tryz.pinned.checked.prog Rows.combatSumsRow.wrapper Rows.combatSumsRow.mainSum:=by
 unfold Func.isWrapper
 first | (rw[if_pos (by decide +kernel)];kernel_rfl) | (rw[if_neg (by decide +kernel)];exact⟨rfl,rfl⟩)

theorem over:Rows.combatSumsRow.holds Tryz.pinned (OpenSpec.ofChange Rows.combatSumsSpec):=
 OpenClaim.holds_of_wide 3 Tryz.f3 rfl rfl rfl rfl rfl rfl rfl ⟨rfl,rfl,rfl,rfl,rfl⟩ rfl rfl rfl rfl rfl isNamed Tryz.func3 facts
  (of_decide_eq_true (by kernel_rfl)) isWrapped
  (λos started H enc _=>lifted os started H enc)

theorem proved:Rows.CombatSumsSaid:=over
#print axioms proved
end Go.Proofs.YtbgjkfbeofbngaaGreat.combatSums
