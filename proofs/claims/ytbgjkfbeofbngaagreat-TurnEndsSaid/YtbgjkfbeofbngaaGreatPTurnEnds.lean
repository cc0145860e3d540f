/- Proved here: the law TurnEnds, as the given statement says it. Conditions: none. -/
import Derived.Test.YtbgjkfbeofbngaaGreatKWTurnEnds
import Derived.Test.YtbgjkfbeofbngaaGreatKTurnEnds
import Derived.Test.YtbgjkfbeofbngaaGreatKCTurnEnds
import Derived.Test.YtbgjkfbeofbngaaGreatBTurnEnds
import Derived.Test.YtbgjkfbeofbngaaGreatFTurnEnds
import Derived.Test.YtbgjkfbeofbngaaGreatOTurnEnds
import Derived.Test.YtbgjkfbeofbngaaGreatEvO
import Derived.ProofKit
import Derived.OpenShut
namespace Go.Proofs.YtbgjkfbeofbngaaGreat.turnEnds
open Go.Ev
open Go.ChangeShapes Go.WideShapes Go.ChangeAt Go.RowKit
set_option linter.unusedVariables false

theorem own:ownKnob Tryz.prog.godebug=none:=by kernel_rfl
theorem mixed:Tryz.prog.follows .mixedOrders=true:=by kernel_rfl
/-- An event with numbers that are not known. -/
@[reducible] noncomputable def sg4 (a b c e:Int):Sg:=mkSg (λi=>match i with | 0=>a | 1=>b | 2=>c | _=>e) (λ_=>.undef) (λ_=>.deferred)
theorem evTV (a b:Int)(h0:1<=a/\a<=1000)(h1:0<=b/\b<=1):@VAs (sg4 a b 0 0) [evT] [.agg (evRow 3 a 0 b 0 ⟨0,0,0,0,0,0⟩)]:=by
 letI:=sg4 a b 0 0
 exact evV <| Go.Ev.evM <| Go.Ev.evS <| Go.Ev.evM <| Go.Ev.evS <| Go.Ev.evM <| Go.Ev.evM <| Go.Ev.evM <| Go.Ev.evM <| Go.Ev.evM <| Go.Ev.evM <| Go.Ev.evM <| Go.Ev.evM <| Go.Ev.evM <| .nil
theorem evSV (a:Int)(h0:1<=a/\a<=1000):@VAs (sg4 a 0 0 0) [evS] [.agg (evRow 4 a 0 0 0 ⟨0,0,0,0,0,0⟩)]:=by
 letI:=sg4 a 0 0 0
 exact evV <| Go.Ev.evM <| Go.Ev.evS <| Go.Ev.evM <| Go.Ev.evM <| Go.Ev.evM <| Go.Ev.evM <| Go.Ev.evM <| Go.Ev.evM <| Go.Ev.evM <| Go.Ev.evM <| Go.Ev.evM <| Go.Ev.evM <| Go.Ev.evM <| .nil
theorem evMV (a b c:Int)(h0:0<=a/\a<=2)(h1:0<=b/\b<=3)(h2:-999<=c/\c<=999):@VAs (sg4 a b c 0) [evM] [.agg (evRow 8 a b c 0 ⟨0,0,0,0,0,0⟩)]:=by
 letI:=sg4 a b c 0
 exact evV <| Go.Ev.evM <| Go.Ev.evS <| Go.Ev.evS <| Go.Ev.evS <| Go.Ev.evM <| Go.Ev.evM <| Go.Ev.evM <| Go.Ev.evM <| Go.Ev.evM <| Go.Ev.evM <| Go.Ev.evM <| Go.Ev.evM <| Go.Ev.evM <| .nil
theorem evYV (a b:Int)(h0:1<=a/\a<=1000)(h1:1<=b/\b<=3):@VAs (sg4 a b 0 0) [evY] [.agg (evRow 2 a b 0 0 ⟨0,0,0,0,0,0⟩)]:=by
 letI:=sg4 a b 0 0
 exact evV <| Go.Ev.evM <| Go.Ev.evS <| Go.Ev.evS <| Go.Ev.evM <| Go.Ev.evM <| Go.Ev.evM <| Go.Ev.evM <| Go.Ev.evM <| Go.Ev.evM <| Go.Ev.evM <| Go.Ev.evM <| Go.Ev.evM <| Go.Ev.evM <| .nil
theorem evEV (a:Int)(h0:0<=a/\a<=2):@VAs (sg4 a 0 0 0) [evE] [.agg (evRow 24 a 0 0 0 ⟨0,0,0,0,0,0⟩)]:=by
 letI:=sg4 a 0 0 0
 exact evV <| Go.Ev.evM <| Go.Ev.evS <| Go.Ev.evM <| Go.Ev.evM <| Go.Ev.evM <| Go.Ev.evM <| Go.Ev.evM <| Go.Ev.evM <| Go.Ev.evM <| Go.Ev.evM <| Go.Ev.evM <| Go.Ev.evM <| Go.Ev.evM <| .nil
theorem evPV (a:Int)(h0:0<=a/\a<=9):@VAs (sg4 a 0 0 0) [evP] [.agg (evRow 19 a 0 0 0 ⟨0,0,0,0,0,0⟩)]:=by
 letI:=sg4 a 0 0 0
 exact evV <| Go.Ev.evM <| Go.Ev.evS <| Go.Ev.evM <| Go.Ev.evM <| Go.Ev.evM <| Go.Ev.evM <| Go.Ev.evM <| Go.Ev.evM <| Go.Ev.evM <| Go.Ev.evM <| Go.Ev.evM <| Go.Ev.evM <| Go.Ev.evM <| .nil
theorem evOV (a:Int)(h0:0<=a/\a<=2):@VAs (sg4 a 0 0 0) [evO] [.agg (evRow 21 a 0 0 0 ⟨0,0,0,0,0,0⟩)]:=by
 letI:=sg4 a 0 0 0
 exact evV <| Go.Ev.evM <| Go.Ev.evS <| Go.Ev.evM <| Go.Ev.evM <| Go.Ev.evM <| Go.Ev.evM <| Go.Ev.evM <| Go.Ev.evM <| Go.Ev.evM <| Go.Ev.evM <| Go.Ev.evM <| Go.Ev.evM <| Go.Ev.evM <| .nil
theorem evBV :@VAs (sg4 0 0 0 0) [evB] [.agg (evRow 22 1 0 0 0 ⟨0,0,0,0,0,0⟩)]:=by
 letI:=sg4 0 0 0 0
 exact evV <| Go.Ev.evM <| Go.Ev.evM <| Go.Ev.evM <| Go.Ev.evM <| Go.Ev.evM <| Go.Ev.evM <| Go.Ev.evM <| Go.Ev.evM <| Go.Ev.evM <| Go.Ev.evM <| Go.Ev.evM <| Go.Ev.evM <| Go.Ev.evM <| .nil
theorem evAV (a:Int)(h0:0<=a/\a<=2):@VAs (sg4 a 0 0 0) [evA] [.agg (evRow 20 a 0 0 0 ⟨0,0,0,0,0,0⟩)]:=by
 letI:=sg4 a 0 0 0
 exact evV <| Go.Ev.evM <| Go.Ev.evS <| Go.Ev.evM <| Go.Ev.evM <| Go.Ev.evM <| Go.Ev.evM <| Go.Ev.evM <| Go.Ev.evM <| Go.Ev.evM <| Go.Ev.evM <| Go.Ev.evM <| Go.Ev.evM <| Go.Ev.evM <| .nil
theorem evNV (a b c:Int)(h0:0<=a/\a<=2)(h1:0<=b/\b<=5)(h2:1<=c/\c<=2):@VAs (sg4 a b c 0) [evN] [.agg (evRow 1 a b c 0 ⟨0,0,0,0,0,0⟩)]:=by
 letI:=sg4 a b c 0
 exact evV <| Go.Ev.evM <| Go.Ev.evS <| Go.Ev.evS <| Go.Ev.evS <| Go.Ev.evM <| Go.Ev.evM <| Go.Ev.evM <| Go.Ev.evM <| Go.Ev.evM <| Go.Ev.evM <| Go.Ev.evM <| Go.Ev.evM <| Go.Ev.evM <| .nil
theorem evLV :@VAs (sg4 0 0 0 0) [evL] [.agg (evRow 23 1 0 0 0 ⟨0,0,0,0,0,0⟩)]:=by
 letI:=sg4 0 0 0 0
 exact evV <| Go.Ev.evM <| Go.Ev.evM <| Go.Ev.evM <| Go.Ev.evM <| Go.Ev.evM <| Go.Ev.evM <| Go.Ev.evM <| Go.Ev.evM <| Go.Ev.evM <| Go.Ev.evM <| Go.Ev.evM <| Go.Ev.evM <| Go.Ev.evM <| .nil
theorem evWV (a b c e:Int)(h0:0<=a/\a<=2)(h1:0<=b/\b<=1000)(h2:0<=c/\c<=5)(h3:0<=e/\e<=3):@VAs (sg4 a b c e) [evW] [.agg (evRow 17 0 0 0 0 ⟨0,3,a,b,c,e⟩)]:=by
 letI:=sg4 a b c e
 exact evV <| Go.Ev.evM <| Go.Ev.evM <| Go.Ev.evM <| Go.Ev.evM <| Go.Ev.evM <| Go.Ev.evM <| Go.Ev.evM <| Go.Ev.evM <| Go.Ev.evS (n:=a) <| Go.Ev.evS (n:=b) <| Go.Ev.evS (n:=c) <| Go.Ev.evS (n:=e) <| Go.Ev.evM <| .nil
theorem orcOk:OrcOk Tryz.prog orc:=by
 refine orc13_ok (works_kc mixed turnEndsWorks) λargs v H h=>?_
 generalize hf:fF 201=f at h
 cases h with
 | w=>exact absurd hf (by decide)
 | tap _ a b h0 h1=>letI:=sg4 a b 0 0;exact fast_kcon mixed (evTV a b h0 h1) trivial chkT
 | sick _ a h0=>letI:=sg4 a 0 0 0;exact fast_kcon mixed (evSV a h0) trivial chkS
 | mana _ a b c h0 h1 h2=>letI:=sg4 a b c 0;exact fast_kcon mixed (evMV a b c h0 h1 h2) trivial chkM
 | move _ a b h0 h1=>letI:=sg4 a b 0 0;exact fast_kcon mixed (evYV a b h0 h1) trivial chkY
 | empty _ a h0=>letI:=sg4 a 0 0 0;exact fast_kcon mixed (evEV a h0) trivial chkE
 | phase _ a h0=>letI:=sg4 a 0 0 0;exact fast_kcon mixed (evPV a h0) trivial chkP
 | prio _ a h0=>letI:=sg4 a 0 0 0;exact fast_kcon mixed (evOV a h0) trivial chkO
 | blocker _ =>letI:=sg4 0 0 0 0;exact fast_kcon mixed (evBV ) trivial chkB
 | turn _ a h0=>letI:=sg4 a 0 0 0;exact fast_kcon mixed (evAV a h0) trivial chkA
 | new _ a b c h0 h1 h2=>letI:=sg4 a b c 0;exact fast_kcon mixed (evNV a b c h0 h1 h2) trivial chkN
 | lose _ =>letI:=sg4 0 0 0 0;exact fast_kcon mixed (evLV ) trivial chkL
 | wait _ a b c e h0 h1 h2 h3=>letI:=sg4 a b c e;exact fast_kcon mixed (evWV a b c e h0 h1 h2 h3) trivial chkW
theorem trn:Trn13 Tryz.prog orc fF fT 7 Tryz.f7 (Tryz.f7.body.getD .skip) Tryz.f43 (Tryz.f43.body.getD .skip) (ruleG 42 253) 1000 where
 mixed:=mixed
 orc:=orcOk
 base:=nenv
 pool:=c22_pool
 rule:=λS=>@ruleG_ok S _ _ _ (λH=>orc13_w (by decide) H) λf args H h1 h2=>orc13_none h1 h2 args H
 func:=Tryz.func7
 body:=by kernel_rfl
 nt:=by kernel_rfl
 res:=by kernel_rfl
 name:=by kernel_rfl
 rest:=by kernel_rfl
 free:=λargs H=>orc13_none (by decide) (by decide) args H
 func35:=Tryz.func43
 body35:=by kernel_rfl
 nt35:=by kernel_rfl
 res35:=by kernel_rfl
 name35:=by kernel_rfl
 rest35:=by kernel_rfl
 free35:=λargs H=>orc13_none (by decide) (by decide) args H
 runQ:=λb=>match b with | true=>runQt | false=>runQf
 runP:=λb=>match b with | true=>runPt | false=>runPf
theorem okWide_at {P:Program}{w:World}{r:Reach}{base:Nat}{t e:TypeId}{a:Addr}{len cap:Nat}(ht:P.underlying t=some (.slice e))(h:Value.okWide P w r base t (.slice (some a) len cap)):a.block<w.heap.size/\a.spot=none:=by
 unfold Value.okWide at h
 rw[ht]at h
 have h:Cell.okWide P w r base t (.slice (some a) len cap):=h
 unfold Cell.okWide at h
 rw[ht]at h
 have h:Cell.ok P w r base t (.slice (some a) len cap):=h
 unfold Cell.ok at h
 rw[ht]at h
 obtain⟨_,_,_,h2,row,cells,hs,_⟩:=h
 unfold World.shape? at hs
 split at hs
 ·rename_i hb
  exact⟨(Array.getElem?_eq_some_iff.1 hb).1,h2⟩
 ·cases hs
set_option maxRecDepth 100000 in
theorem lifted (os:Os)(started:os.Started)(H:Type)(enc:TypeId × Value->H) :
  ReturnsInHanded {} Tryz.checked os 7 .any (Rows.turnEndsSpec.pre6 enc Tryz.prog Tryz.f7 Rows.turnEndsRow.domain false) (Rows.turnEndsSpec.post enc Tryz.prog Tryz.f7 false true false false):=by
 refine returnsInHanded_of_change (C:=Tryz.checked) own started (by kernel_rfl) Tryz.func7
  (ChangeSpec.witness6 (enc:=enc) (C:=Tryz.checked) false ⟨#[],#[.slice none 0 0,.int .u8 0,.bool false],[]⟩ 8 (by kernel_rfl) (by kernel_rfl) (by kernel_rfl) (by kernel_rfl)) ?_
 intro W base args ds gs before hval0 hW hcnd _
 have hW':=hW
 have hlt:=hW.lt
 obtain⟨p,q,hA0,hV,rfl,hfz,hnd⟩:=hW
 have hA:DataW.TrodAll enc Tryz.prog W 0 (λ_=>true) true Tryz.f7.params.toList args.toList ds p:=hA0
 rw[Tryz.params7]at hA
 obtain⟨v1,v2,v3,d1,d2,d3,p1,p2,p3,rfl,rfl,rfl,hd1,hd2,hd3⟩:=trodAll_three hA
 obtain⟨rfl,rfl⟩:=trodVars_none hV
 obtain⟨wh,rfl,rfl,rfl,w2⟩:=open_int Tryz.underlying5 (hval0 1 _ _ rfl rfl) hd2
 obtain⟨bb,rfl,rfl,rfl⟩:=open_bool Tryz.underlying4 (hval0 2 _ _ rfl rfl) hd3
 have bw:=Go.bounds_u8 w2
 obtain⟨a,len,cap,rfl⟩:=okWide_slice Tryz.underlying88 (hval0 0 _ _ rfl rfl)
 simp only[List.append_nil]at hW' hlt
 have fin:Calls Tryz.prog 7 #[.slice a len cap,.int .u8 wh,.bool bb] W (λe w'=>e=.returned (.bool true)/\W.keptBut w' (λ_=>False)) ->
   (∀W':World,W.keptBut W' (λ_=>False)->∃pa,DataW.Trod enc Tryz.prog W' 0 (λb=>decide (b<W.heap.size)) true 88 (.slice a len cap) d1 pa) ->
   Calls Tryz.prog 7 #[.slice a len cap,.int .u8 wh,.bool bb] W λe W'=>∃v,e=.returned v/\Rows.turnEndsSpec.post enc Tryz.prog Tryz.f7 false true false false W #[.slice a len cap,.int .u8 wh,.bool bb] v W':=by
  intro hcall hback
  refine hcall.mono λe W'⟨he,hg⟩=>?_
  subst he
  obtain⟨pa,hpa⟩:=hback W' hg
  exact⟨_,rfl,⟨_,[],_,[],_,[],hW',trodAll_cons_mk (shut_bool Tryz.underlying4 _) trodAll_mk0,trodAll_mk3 hpa (shut_int Tryz.underlying5 w2) (shut_bool Tryz.underlying4 _),rfl,World.keptBut_mono (λ_ hp=>hp.elim) hg,λh=>absurd h (by decide)⟩⟩
 obtain⟨fuel,hf⟩:=hd1
 rcases open3 hf with⟨h1,h2⟩|⟨a',len',cap',m,f,h1,hb0,hl,hm,hmm,h2,hcell⟩
 ·have h1:[Value.slice a len cap]=[.slice none 0 0]:=h1
  simp only[List.cons.injEq,Value.slice.injEq,and_true]at h1
  obtain⟨rfl,rfl,rfl⟩:=h1
  have hd:d1=.nil:=congrArg Prod.fst h2
  subst hd
  refine fin (trn13_none trn bw (lv:=.slice none 0 0 false 0) rfl Opq.slice ⟨rfl,rfl⟩ W) λW' hg=>⟨[],1,?_⟩
  show DataW.trod enc Tryz.prog W' 0 _ true 1 88 [.slice none 0 0]=_
  simp[DataW.trod,Tryz.underlying88]
 ·have h1:[Value.slice a len cap]=[.slice (some a') len' cap']:=h1
  simp only[List.cons.injEq,Value.slice.injEq,and_true]at h1
  obtain⟨rfl,rfl,rfl⟩:=h1
  have hmm:m=cap:=hmm
  subst hmm
  obtain⟨hblk,hsp⟩:=okWide_at Tryz.underlying88 (hval0 0 _ _ rfl rfl)
  obtain⟨ab,ao,sp⟩:=a'
  have hsp:sp=none:=hsp
  subst hsp
  have hc0:∀i,i<m->W.cell? ⟨ab,ao+i*3,none⟩=some (.int .u8 (f i).1)/\W.cell? ⟨ab,ao+i*3+1,none⟩=some (.int .u8 (f i).2.1)/\W.cell? ⟨ab,ao+i*3+2,none⟩=some (.int .u8 (f i).2.2):=λi hi=>by
   obtain⟨e0,e1,e2,_⟩:=hcell i hi
   rw[add_plain]at e0 e1 e2
   exact⟨e0,e1,e2⟩
  refine fin ?_ λW' hg=>?_
  ·by_cases h0:len=0
   ·subst h0
    exact trn13_none trn bw (lv:=.empty) rfl Opq.empty ⟨_,_,rfl⟩ W
   ·have hz0:=(hc0 0 (by omega)).1
    unfold World.cell? at hz0
    split at hz0
    ·rename_i c el fz hc
     have hc:W.heap[ab]?=some (.cells c el fz):=hc
     have get:∀(o:Nat)v,W.cell? ⟨ab,o,none⟩=some v->c[o]?=some v:=λo v h=>by
      unfold World.cell? at h
      simpa[hc]using h
     have hbd:∀(g:Nat->Int)(i:Nat),(i<m->(Lit.int .u8 (g i)).wf=true)->0<=(if i<m then g i else 0)/\(if i<m then g i else 0)<=255:=λg i h=>by
      by_cases hi:i<m
      ·rw[if_pos hi];exact Go.bounds_u8 (h hi)
      ·rw[if_neg hi];omega
     refine trn13_some trn bw (z:=λi=>if i<m then(f i).1 else 0) (q:=λi=>if i<m then(f i).2.1 else 0) (y:=λi=>if i<m then(f i).2.2 else 0) (λi=>hbd (λi=>(f i).1) i λhi=>(hcell i hi).2.2.2.1) (λi=>hbd (λi=>(f i).2.1) i λhi=>(hcell i hi).2.2.2.2.1) (λi=>hbd (λi=>(f i).2.2) i λhi=>(hcell i hi).2.2.2.2.2) (by omega) hc λi hi=>?_
     have hi2:i<m:=by omega
     simp only[if_pos hi2]
     exact⟨get _ _ (hc0 i hi2).1,get _ _ (hc0 i hi2).2.1,get _ _ (hc0 i hi2).2.2⟩
    ·cases hz0
  ·have hd:d1=.slice ((List.range len).map (by3 f)) ((List.range (m-len)).map λj=>by3 f (len+j)):=h2
   obtain⟨k,p,hk⟩:=shut3 (enc:=enc) (w:=W') (base:=0) (spare:=λb=>decide (b<W.heap.size)) (held:=true) (b:=ab) (off:=ao) (len:=len) (cap:=m) (Nat.zero_le _) hl hm (decide_eq_true hblk) f (λi hi=>by
    obtain⟨e0,e1,e2⟩:=hc0 i hi
    refine⟨?_,?_,?_,(hcell i hi).2.2.2⟩
    ·rw[World.keptBut.cell hg hblk (λh=>h.elim)];exact e0
    ·rw[World.keptBut.cell hg hblk (λh=>h.elim)];exact e1
    ·rw[World.keptBut.cell hg hblk (λh=>h.elim)];exact e2)
   exact⟨p,k,by rw[hd];exact hk⟩

theorem isNamed:Tryz.pinned.checked.prog.funcNamed Rows.turnEndsRow.func=some 7:=by kernel_rfl
theorem isWrapped:Tryz.f7.isWrapper Tryz.pinned.checked.prog Rows.turnEndsRow.wrapper Rows.turnEndsRow.mainSum:=by
 unfold Func.isWrapper
 first | (rw[if_pos (by decide +kernel)];kernel_rfl) | (rw[if_neg (by decide +kernel)];exact⟨rfl,rfl⟩)

theorem over:Rows.turnEndsRow.holds Tryz.pinned (OpenSpec.ofChange Rows.turnEndsSpec):=
 OpenClaim.holds_of_wide 7 Tryz.f7 rfl rfl rfl rfl rfl rfl rfl ⟨rfl,rfl,rfl,rfl,rfl⟩ rfl rfl rfl rfl rfl isNamed Tryz.func7 facts
  (of_decide_eq_true (by kernel_rfl)) isWrapped
  (λos started H enc _=>lifted os started H enc)

theorem proved:Rows.TurnEndsSaid:=over
#print axioms proved
end Go.Proofs.YtbgjkfbeofbngaaGreat.turnEnds
