/- Proved here: the law SbaSettled, as the given statement says it. Conditions: none. -/
import Derived.Test.YtbgjkfbeofbngaaGreatKWSbaSettled
import Derived.Test.YtbgjkfbeofbngaaGreatKSbaSettled
import Derived.Test.YtbgjkfbeofbngaaGreatKCSbaSettled
import Derived.Test.YtbgjkfbeofbngaaGreatBSbaSettled
import Derived.Test.YtbgjkfbeofbngaaGreatFSbaSettled
import Derived.Test.YtbgjkfbeofbngaaGreatOSbaSettled
import Derived.Test.YtbgjkfbeofbngaaGreatEvN
import Derived.ProofKit
import Derived.OpenShut
namespace Go.Proofs.YtbgjkfbeofbngaaGreat.sbaSettled
open Go.Ev
open Go.ChangeShapes Go.WideShapes Go.ChangeAt Go.RowKit
set_option linter.unusedVariables false

theorem own:ownKnob Tryz.prog.godebug=none:=by kernel_rfl
theorem mixed:Tryz.prog.follows .mixedOrders=true:=by kernel_rfl
/-- An event with numbers that are not known. -/
@[reducible] noncomputable def sg4 (a b c e:Int):Sg:=mkSg (λi=>match i with | 0=>a | 1=>b | 2=>c | _=>e) (λ_=>.undef) (λ_=>.deferred)
theorem evNV (a b c:Int)(h0:0<=a/\a<=2)(h1:0<=b/\b<=3)(h2:0<=c/\c<=1):@VAs (sg4 a b c 0) [evN] [.agg (evRow 1 a b 2 c ⟨0,0,0,0,0,0⟩)]:=by
 letI:=sg4 a b c 0
 exact evV<|evM<|evS<|evS<|evM<|evS<|evM<|evM<|evM<|evM<|evM<|evM<|evM<|evM<|.nil
theorem evIV (a b:Int)(h0:0<=a/\a<=2)(h1:-24<=b/\b<=0):@VAs (sg4 a b 0 0) [evI] [.agg (evRow 7 a 0 b 0 ⟨0,0,0,0,0,0⟩)]:=by
 letI:=sg4 a b 0 0
 exact evV<|evM<|evS<|evM<|evS<|evM<|evM<|evM<|evM<|evM<|evM<|evM<|evM<|evM<|.nil
theorem evHV (a b:Int)(h0:1<=a/\a<=1000000)(h1:0<=b/\b<=2):@VAs (sg4 a b 0 0) [evH] [.agg (evRow 5 a 0 b 0 ⟨0,0,0,0,0,0⟩)]:=by
 letI:=sg4 a b 0 0
 exact evV<|evM<|evS<|evM<|evS<|evM<|evM<|evM<|evM<|evM<|evM<|evM<|evM<|evM<|.nil
theorem evOV (a:Int)(h0:0<=a/\a<=2):@VAs (sg4 a 0 0 0) [evO] [.agg (evRow 5 0 0 a 0 ⟨0,0,0,0,0,0⟩)]:=by
 letI:=sg4 a 0 0 0
 exact evV<|evM<|evM<|evM<|evS<|evM<|evM<|evM<|evM<|evM<|evM<|evM<|evM<|evM<|.nil
theorem evEV (a:Int)(h0:0<=a/\a<=2):@VAs (sg4 a 0 0 0) [evE] [.agg (evRow 24 a 0 0 0 ⟨0,0,0,0,0,0⟩)]:=by
 letI:=sg4 a 0 0 0
 exact evV<|evM<|evS<|evM<|evM<|evM<|evM<|evM<|evM<|evM<|evM<|evM<|evM<|evM<|.nil
theorem evWV (a b c e:Int)(h0:0<=a/\a<=2)(h1:0<=b/\b<=1000000)(h2:0<=c/\c<=3)(h3:0<=e/\e<=3):@VAs (sg4 a b c e) [evW] [.agg (evRow 17 0 0 0 0 ⟨0,3,a,b,c,e⟩)]:=by
 letI:=sg4 a b c e
 exact evV<|evM<|evM<|evM<|evM<|evM<|evM<|evM<|evM<|evS (n:=a)<|evS (n:=b)<|evS (n:=c)<|evS (n:=e)<|evM<|.nil
theorem evLV (a:Int)(h0:0<=a/\a<=2):@VAs (sg4 a 0 0 0) [evL] [.agg (evRow 23 a 0 0 0 ⟨0,0,0,0,0,0⟩)]:=by
 letI:=sg4 a 0 0 0
 exact evV<|evM<|evS<|evM<|evM<|evM<|evM<|evM<|evM<|evM<|evM<|evM<|evM<|evM<|.nil
theorem evUV (a:Int)(h0:1<=a/\a<=1000000):@VAs (sg4 a 0 0 0) [evU] [.agg (evRow 18 a 0 0 0 ⟨0,0,0,0,0,0⟩)]:=by
 letI:=sg4 a 0 0 0
 exact evV<|evM<|evS<|evM<|evM<|evM<|evM<|evM<|evM<|evM<|evM<|evM<|evM<|evM<|.nil
theorem evCV (a:Int)(h0:1<=a/\a<=1000000):@VAs (sg4 a 0 0 0) [evC] [.agg (evRow 25 a 0 0 0 ⟨0,0,0,0,0,0⟩)]:=by
 letI:=sg4 a 0 0 0
 exact evV<|evM<|evS<|evM<|evM<|evM<|evM<|evM<|evM<|evM<|evM<|evM<|evM<|evM<|.nil
theorem evYV (a:Int)(h0:1<=a/\a<=1000000):@VAs (sg4 a 0 0 0) [evY] [.agg (evRow 2 a 3 0 0 ⟨0,0,0,0,0,0⟩)]:=by
 letI:=sg4 a 0 0 0
 exact evV<|evM<|evS<|evM<|evM<|evM<|evM<|evM<|evM<|evM<|evM<|evM<|evM<|evM<|.nil
theorem evXV (a:Int)(h0:0<=a/\a<=2):@VAs (sg4 a 0 0 0) [evX] [.agg (evRow 29 1 a 0 0 ⟨0,0,0,0,0,0⟩)]:=by
 letI:=sg4 a 0 0 0
 exact evV<|evM<|evM<|evS<|evM<|evM<|evM<|evM<|evM<|evM<|evM<|evM<|evM<|evM<|.nil
theorem evDV :@VAs (sg4 0 0 0 0) [evD] [.agg (evRow 29 2 0 0 0 ⟨0,0,0,0,0,0⟩)]:=by
 letI:=sg4 0 0 0 0
 exact evV<|evM<|evM<|evM<|evM<|evM<|evM<|evM<|evM<|evM<|evM<|evM<|evM<|evM<|.nil
theorem evGV (a b c e:Int)(h0:0<=a/\a<=2)(h1:-1<=b/\b<=1000000)(h2:0<=c/\c<=3)(h3:0<=e/\e<=3):@VAs (sg4 a b c e) [evG] [.agg (evRow 15 0 0 0 0 ⟨0,3,a,b,c,e⟩)]:=by
 letI:=sg4 a b c e
 exact evV<|evM<|evM<|evM<|evM<|evM<|evM<|evM<|evM<|evS (n:=a)<|evS (n:=b)<|evS (n:=c)<|evS (n:=e)<|evM<|.nil
theorem evTV :@VAs (sg4 0 0 0 0) [evT] [.agg (evRow 29 3 0 0 0 ⟨0,0,0,0,0,0⟩)]:=by
 letI:=sg4 0 0 0 0
 exact evV<|evM<|evM<|evM<|evM<|evM<|evM<|evM<|evM<|evM<|evM<|evM<|evM<|evM<|.nil
theorem orcOk:OrcOk Tryz.prog orc:=by
 refine orc12_ok (works_kc mixed sbaSettledWorks) λargs v H h=>?_
 generalize hf:fF 201=f at h
 cases h with
 | w=>exact absurd hf (by decide)
 | new _ a b c h0 h1 h2=>letI:=sg4 a b c 0;exact fast_kcon mixed (evNV a b c h0 h1 h2) trivial chkN
 | life _ a b h0 h1=>letI:=sg4 a b 0 0;exact fast_kcon mixed (evIV a b h0 h1) trivial chkI
 | hurt _ a b h0 h1=>letI:=sg4 a b 0 0;exact fast_kcon mixed (evHV a b h0 h1) trivial chkH
 | hurt0 _ a h0=>letI:=sg4 a 0 0 0;exact fast_kcon mixed (evOV a h0) trivial chkO
 | empty _ a h0=>letI:=sg4 a 0 0 0;exact fast_kcon mixed (evEV a h0) trivial chkE
 | wait _ a b c e h0 h1 h2 h3=>letI:=sg4 a b c e;exact fast_kcon mixed (evWV a b c e h0 h1 h2 h3) trivial chkW
 | lose _ a h0=>letI:=sg4 a 0 0 0;exact fast_kcon mixed (evLV a h0) trivial chkL
 | unwait _ a h0=>letI:=sg4 a 0 0 0;exact fast_kcon mixed (evUV a h0) trivial chkU
 | cease _ a h0=>letI:=sg4 a 0 0 0;exact fast_kcon mixed (evCV a h0) trivial chkC
 | move _ a h0=>letI:=sg4 a 0 0 0;exact fast_kcon mixed (evYV a h0) trivial chkY
 | win _ a h0=>letI:=sg4 a 0 0 0;exact fast_kcon mixed (evXV a h0) trivial chkX
 | draw _ =>letI:=sg4 0 0 0 0;exact fast_kcon mixed (evDV ) trivial chkD
 | push _ a b c e h0 h1 h2 h3=>letI:=sg4 a b c e;exact fast_kcon mixed (evGV a b c e h0 h1 h2 h3) trivial chkG
 | limit _ =>letI:=sg4 0 0 0 0;exact fast_kcon mixed (evTV ) trivial chkT
theorem trn:Trn12 Tryz.prog orc fF fT 5 Tryz.f5 (Tryz.f5.body.getD .skip) Tryz.f22 (Tryz.f22.body.getD .skip) (ruleG 21 253) 1000 where
 mixed:=mixed
 orc:=orcOk
 base:=lenv
 t50:=⟨by kernel_rfl,by kernel_rfl⟩
 se:=myBaseSe
 sp:=saysP12 (by decide)
 t24:=⟨by kernel_rfl,by kernel_rfl⟩
 t4:=⟨by kernel_rfl,by kernel_rfl⟩
 rule:=λS=>letI:=S;ruleG_ok (λH=>orc12_w (by decide) H) λf args H h1 h2=>orc12_none h1 h2 args H
 func:=Tryz.func5
 body:=by kernel_rfl
 nt:=by kernel_rfl
 res:=by kernel_rfl
 name:=by kernel_rfl
 rest:=by kernel_rfl
 free:=λargs H=>orc12_none (by decide) (by decide) args H
 func18:=Tryz.func22
 body18:=by kernel_rfl
 nt18:=by kernel_rfl
 res18:=by kernel_rfl
 name18:=by kernel_rfl
 rest18:=by kernel_rfl
 free18:=λargs H=>orc12_none (by decide) (by decide) args H
 runQ:=runQ
 runP:=runP
theorem okWide_at {P:Program}{w:World}{r:Reach}{base:Nat}{t e:TypeId}{a:Addr}{len cap:Nat}(ht:P.underlying t=some (.slice e))(h:Value.okWide P w r base t (.slice (some a) len cap)):a.block<w.heap.size/\a.spot=none:=by
 unfold Value.okWide at h
 rw[ht]at h
 have h:Cell.okWide P w r base t (.slice (some a) len cap):=h
 unfold Cell.okWide at h
 rw[ht]at h
 have h:Cell.ok P w r base t (.slice (some a) len cap):=h
 unfold Cell.ok at h
 rw[ht]at h
 obtain⟨_,_,_,h2,row,cells,hs,_⟩:=h
 unfold World.shape? at hs
 split at hs
 ·rename_i hb
  exact⟨(Array.getElem?_eq_some_iff.1 hb).1,h2⟩
 ·cases hs
set_option maxRecDepth 100000 in
theorem lifted (os:Os)(started:os.Started)(H:Type)(enc:TypeId × Value->H) :
  ReturnsInHanded {} Tryz.checked os 5 .any (Rows.sbaSettledSpec.pre6 enc Tryz.prog Tryz.f5 Rows.sbaSettledRow.domain false) (Rows.sbaSettledSpec.post enc Tryz.prog Tryz.f5 false true false false):=by
 refine returnsInHanded_of_change (C:=Tryz.checked) own started (by kernel_rfl) Tryz.func5
  (ChangeSpec.witness6 (enc:=enc) (C:=Tryz.checked) false ⟨#[],#[.slice none 0 0],[]⟩ 8 (by kernel_rfl) (by kernel_rfl) (by kernel_rfl) (by kernel_rfl)) ?_
 intro W base args ds gs before hval0 hW hcnd _
 have hW':=hW
 have hlt:=hW.lt
 obtain⟨p,q,hA0,hV,rfl,hfz,hnd⟩:=hW
 have hA:DataW.TrodAll enc Tryz.prog W 0 (λ_=>true) true Tryz.f5.params.toList args.toList ds p:=hA0
 rw[Tryz.params5]at hA
 obtain⟨v1,d1,rfl,rfl,hd1⟩:=trodAll_one hA
 obtain⟨rfl,rfl⟩:=trodVars_none hV
 obtain⟨a,len,cap,rfl⟩:=okWide_slice Tryz.underlying52 (hval0 0 _ _ rfl rfl)
 simp only[List.append_nil]at hW' hlt
 have fin:Calls Tryz.prog 5 #[.slice a len cap] W (λe w'=>e=.returned (.bool true)/\W.keptBut w' (λ_=>False)) ->
   (∀W':World,W.keptBut W' (λ_=>False)->∃pa,DataW.Trod enc Tryz.prog W' 0 (λb=>decide (b<W.heap.size)) true 52 (.slice a len cap) d1 pa) ->
   Calls Tryz.prog 5 #[.slice a len cap] W λe W'=>∃v,e=.returned v/\Rows.sbaSettledSpec.post enc Tryz.prog Tryz.f5 false true false false W #[.slice a len cap] v W':=by
  intro hcall hback
  refine hcall.mono λe W'⟨he,hg⟩=>?_
  subst he
  obtain⟨pa,hpa⟩:=hback W' hg
  exact⟨_,rfl,⟨_,[],_,[],_,[],hW',trodAll_cons_mk (shut_bool Tryz.underlying4 _) trodAll_mk0,trodAll_mk1 hpa,rfl,World.keptBut_mono (λ_ hp=>hp.elim) hg,λh=>absurd h (by decide)⟩⟩
 obtain⟨fuel,hf⟩:=hd1
 rcases open3 hf with⟨h1,h2⟩|⟨a',len',cap',m,f,h1,hb0,hl,hm,hmm,h2,hcell⟩
 ·have h1:[Value.slice a len cap]=[.slice none 0 0]:=h1
  simp only[List.cons.injEq,Value.slice.injEq,and_true]at h1
  obtain⟨rfl,rfl,rfl⟩:=h1
  have hd:d1=.nil:=congrArg Prod.fst h2
  subst hd
  refine fin (trn12_none trn (lv:=.slice none 0 0 false 0) rfl Opq.slice ⟨rfl,rfl⟩ W) λW' hg=>⟨[],1,?_⟩
  show DataW.trod enc Tryz.prog W' 0 _ true 1 52 [.slice none 0 0]=_
  simp[DataW.trod,Tryz.underlying52]
 ·have h1:[Value.slice a len cap]=[.slice (some a') len' cap']:=h1
  simp only[List.cons.injEq,Value.slice.injEq,and_true]at h1
  obtain⟨rfl,rfl,rfl⟩:=h1
  have hmm:m=cap:=hmm
  subst hmm
  obtain⟨hblk,hsp⟩:=okWide_at Tryz.underlying52 (hval0 0 _ _ rfl rfl)
  obtain⟨ab,ao,sp⟩:=a'
  have hsp:sp=none:=hsp
  subst hsp
  have hc0:∀i,i<m->W.cell? ⟨ab,ao+i*3,none⟩=some (.int .u8 (f i).1)/\W.cell? ⟨ab,ao+i*3+1,none⟩=some (.int .u8 (f i).2.1)/\W.cell? ⟨ab,ao+i*3+2,none⟩=some (.int .u8 (f i).2.2):=λi hi=>by
   obtain⟨e0,e1,e2,_⟩:=hcell i hi
   rw[add_plain]at e0 e1 e2
   exact⟨e0,e1,e2⟩
  refine fin ?_ λW' hg=>?_
  ·by_cases h0:len=0
   ·subst h0
    exact trn12_none trn (lv:=.empty) rfl Opq.empty ⟨_,_,rfl⟩ W
   ·have hz0:=(hc0 0 (by omega)).1
    unfold World.cell? at hz0
    split at hz0
    ·rename_i c el fz hc
     have hc:W.heap[ab]?=some (.cells c el fz):=hc
     have get:∀(o:Nat)v,W.cell? ⟨ab,o,none⟩=some v->c[o]?=some v:=λo v h=>by
      unfold World.cell? at h
      simpa[hc]using h
     have hbd:∀(g:Nat->Int)(i:Nat),(i<m->(Lit.int .u8 (g i)).wf=true)->0<=(if i<m then g i else 0)/\(if i<m then g i else 0)<=255:=λg i h=>by
      by_cases hi:i<m
      ·rw[if_pos hi];exact Go.bounds_u8 (h hi)
      ·rw[if_neg hi];omega
     refine trn12_some trn (z:=λi=>if i<m then(f i).1 else 0) (q:=λi=>if i<m then(f i).2.1 else 0) (y:=λi=>if i<m then(f i).2.2 else 0) (λi=>hbd (λi=>(f i).1) i λhi=>(hcell i hi).2.2.2.1) (λi=>hbd (λi=>(f i).2.1) i λhi=>(hcell i hi).2.2.2.2.1) (λi=>hbd (λi=>(f i).2.2) i λhi=>(hcell i hi).2.2.2.2.2) (by omega) hc λi hi=>?_
     have hi2:i<m:=by omega
     simp only[if_pos hi2]
     exact⟨get _ _ (hc0 i hi2).1,get _ _ (hc0 i hi2).2.1,get _ _ (hc0 i hi2).2.2⟩
    ·cases hz0
  ·have hd:d1=.slice ((List.range len).map (by3 f)) ((List.range (m-len)).map λj=>by3 f (len+j)):=h2
   obtain⟨k,p,hk⟩:=shut3 (enc:=enc) (w:=W') (base:=0) (spare:=λb=>decide (b<W.heap.size)) (held:=true) (b:=ab) (off:=ao) (len:=len) (cap:=m) (Nat.zero_le _) hl hm (decide_eq_true hblk) f (λi hi=>by
    obtain⟨e0,e1,e2⟩:=hc0 i hi
    refine⟨?_,?_,?_,(hcell i hi).2.2.2⟩
    ·rw[World.keptBut.cell hg hblk (λh=>h.elim)];exact e0
    ·rw[World.keptBut.cell hg hblk (λh=>h.elim)];exact e1
    ·rw[World.keptBut.cell hg hblk (λh=>h.elim)];exact e2)
   exact⟨p,k,by rw[hd];exact hk⟩

theorem isNamed:Tryz.pinned.checked.prog.funcNamed Rows.sbaSettledRow.func=some 5:=by kernel_rfl
theorem isWrapped:Tryz.f5.isWrapper Tryz.pinned.checked.prog Rows.sbaSettledRow.wrapper Rows.sbaSettledRow.mainSum:=by
 unfold Func.isWrapper
 first | (rw[if_pos (by decide +kernel)];kernel_rfl) | (rw[if_neg (by decide +kernel)];exact⟨rfl,rfl⟩)

theorem over:Rows.sbaSettledRow.holds Tryz.pinned (OpenSpec.ofChange Rows.sbaSettledSpec):=
 OpenClaim.holds_of_wide 5 Tryz.f5 rfl rfl rfl rfl rfl rfl rfl ⟨rfl,rfl,rfl,rfl,rfl⟩ rfl rfl rfl rfl rfl isNamed Tryz.func5 facts
  (of_decide_eq_true (by kernel_rfl)) isWrapped
  (λos started H enc _=>lifted os started H enc)

theorem proved:Rows.SbaSettledSaid:=over
#print axioms proved
end Go.Proofs.YtbgjkfbeofbngaaGreat.sbaSettled
