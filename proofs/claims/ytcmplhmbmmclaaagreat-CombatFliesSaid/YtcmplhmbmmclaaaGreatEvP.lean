/- Walks and rules. Conditions: none. -/
import Derived.Test.YtcmplhmbmmclaaaGreatEvO
set_option linter.unusedVariables false
set_option linter.unusedSectionVars false
namespace Go.Ev
section
variable {P:Program}{K:Orc}{rd:Option Nat}{nt:Nat}{l:Sl}{ds:List aD}{s:SH}{Q Qn Qr:Po}{Qe:Nat->Po}{F:Nat->FuncId}{T:Nat->TypeId}{bf bl:Nat}{aZ bE:AV}{c0 c1 c2 c3 c4:Int}{EL:List (List AV)}{d:SD}{t:SH}{tF:TypeId}{g:ED->CH->CH}{C:List CD}{tl:AD->List Nat}
theorem dN (a b:Nat):decide (Int.ofNat a=Int.ofNat b)=decide (a=b):=decide_eq_decide.2 ⟨λh=>Int.ofNat.inj h,λh=>by rw[h]⟩
structure LawU (P:Program)(K:Orc)(F:Nat->FuncId)(T:Nat->TypeId):Prop where
 hB:Base P K F T
 hC:BaseC P K F T
 hG:BaseG P K F T
 hT:TyC P T
 hM:gA P F (T 26)
 hU:BaseU P K F T
 hI:BaseB P K F T
 info:meth P (T 26) "Info"=some (F 58)
 t128:Ty P (T 128) 13
 hS:BaseT P K F T
 hL:BaseL P K F T
 hV:BaseV P K F T
 hJ:BaseI P K F T
theorem LawU.ge {P:Program}{K:Orc}{F:Nat->FuncId}{T:Nat->TypeId}{g:ED->CH->CH}{C:List CD}{d:SD}(h:LawU P K F T)(hd:d.Small)(he:d.kQ)(hO:nG P K F g d C):GE P K F T (T 26) g C d:=
 ⟨h.hB,h.hC,h.hG,h.hT,h.hM,h.hU,h.hI,h.info,h.t128,hd,he,hO⟩
def WOy (P:Program)(K:Orc)(ol:List bS)(l:Sl)(Q:Sl->Prop):Prop:=
 ∀(nt:Nat)(ops:Array Oper)(l0:List Oper)(e:Tr AV)(ds:List aD)(H:Heap),aI (co P nt ops.toList) l0=some ol->En l e->∃e' l',fj P K nt ops l0 e ds H (.mk .normal e' ds H)/\En l' e'/\Q l'
theorem WOy.nil {l:Sl}{Q:Sl->Prop}(h:Q l):WOy P K [] l Q:=by
 intro nt ops l0 e ds H hl he
 cases l0 with
 | nil=>exact⟨e,l,fj.nil,he,h⟩
 | cons a l0=>
  obtain⟨b,bs,h1,h2,h3⟩:=(aV _ a l0 _).1 hl
  cases h3
theorem WOy.r {d:Option Nat}{op:AOp}{rest:List bS}{v:AV}{l:Sl}{Q:Sl->Prop}(h:WR P op l [] v)(k:WOy P K rest (pl d v l) Q):WOy P K (⟨d,op,none⟩::rest) l Q:=by
 intro nt ops l0 e ds H hl he
 cases l0 with
 | nil=>cases hl
 | cons a l0=>
  obtain⟨b,bs,h1,h2,h3⟩:=(aV _ a l0 _).1 hl
  cases h3
  have hc:cOper P nt a=⟨d,op,none⟩:=by
   unfold co at h1
   generalize cOper P nt a=z at h1 |-
   obtain⟨d',op',g'⟩:=z
   dsimp only at h1
   cases g' with
   | none=>cases h1;rfl
   | some jw=>
    obtain⟨j,w⟩:=jw
    unfold cg at h1
    dsimp only at h1
    split at h1
    ·rename_i hq;split at hq
     ·split at hq
      ·cases hq;cases h1
      ·cases hq
     ·cases hq
    ·cases h1
  have hp:Hp ⟨.lf,0⟩ [] H:=⟨Nat.zero_le _,(λb o hb=>nomatch hb),List.Pairwise.nil,λb hb=>absurd hb<|Nat.not_lt_zero _⟩
  obtain⟨e',l',j1,j2,j3⟩:=k nt ops l0 (putO e d v) ds H h2<|he.putO d v
  exact⟨e',l',fj.cons hc rfl ⟨0,(h.q P _ (bL e) ds H).trans (by rw[h.h _ e H he hp])⟩ j1,j2,j3⟩
theorem WOy.seq2 {o1 o2:List bS}{b:AC}{l1:Sl}{Q1:Sl->Prop}{e:Tr AV}{ds:List aD}{H H0:Heap}{Qn Qr:Po}{Qe:Nat->Po}(h1:WOy P K o1 l1 Q1)(he:En l1 e)(h2:∀l' e',Q1 l'->En l' e'->WOa P K o2 e' ds H H0 (λl ds s=>WP P K none nt b l ds s Qn Qe Qr)){c0:Code}(hc:cc P nt c0=.seq (.ops o1) (.seq (.ops o2) b)) :
  ∃x e' ds' H' l' s',bt P K none nt c0 e ds H (.mk x e' ds' H')/\En l' e'/\Hp H0 s' H'/\(match x with | .normal=>Qn l' ds' s' | .exit i=>Qe i l' ds' s' | .ret=>Qr l' ds' s'):=by
 cases c0 with
 | seq a0 b0=>
  simp only[cc,AC.seq.injEq]at hc
  obtain⟨ha,hb⟩:=hc
  cases a0 with
  | region i ops d=>
   cases d with
   | true=>
    exfalso
    have hc:cdr P nt ops=.ops o1:=ha
    unfold cdr at hc
    split at hc
    ·split at hc<;>cases hc
    ·cases hc
   | false=>
    have hc:(match aI (co P nt ops.toList) ops.toList with | some l=>AC.ops l | none=>.bad)=.ops o1:=ha
    split at hc
    ·rename_i l' hl'
     cases hc
     obtain⟨e1,l2,k1,k2,k3⟩:=h1 nt ops ops.toList e ds H hl' he
     obtain⟨x,e2,ds2,H2,l2,s2,j1,j2,j3,j4⟩:=(h2 l2 e1 k3 k2).seq hb
     exact⟨x,e2,ds2,H2,l2,s2,bt.seq (bt.region k1) j1,j2,j3,j4⟩
    ·cases hc
  | _=>simp[cc]at ha
 | region i ops d=>exact(db hc).elim
 | _=>simp[cc]at hc
end
section
variable [Sg]{P:Program}{K:Orc}{F:Nat->FuncId}{T:Nat->TypeId}
end
section
variable {P:Program}{K:Orc}
theorem WOa.r {d:Option Nat}{op:AOp}{rest:List bS}{v:AV}{l:Sl}{e:Tr AV}{ds:List aD}{H H0:Heap}{Q:Po}(h:WR P op l [] v)(he:En l e)(k:WOa P K rest (putO e d v) ds H H0 Q):WOa P K (⟨d,op,none⟩::rest) e ds H H0 Q:=by
 have hp:Hp ⟨.lf,0⟩ [] H:=⟨Nat.zero_le _,(λb o hb=>nomatch hb),List.Pairwise.nil,λb hb=>absurd hb<|Nat.not_lt_zero _⟩
 exact WOa.cons ⟨0,(h.q P _ (bL e) ds H).trans (by rw[h.h _ e H he hp])⟩ k
end
section
variable [Sg]{P:Program}{K:Orc}{F:Nat->FuncId}{T:Nat->TypeId}
end
theorem ada {a m:Nat}(h:a<=m):(0:Int)<=.ofNat a/\(.ofNat a:Int)<=.ofNat m:=⟨Int.natCast_nonneg a,Int.ofNat_le.2 h⟩
section
variable {P:Program}{K:Orc}{F:Nat->FuncId}{T:Nat->TypeId}{f:FuncId}{fn:Func}{c:Code}{aek:Func}{c35:Code}{R:iB}{n:Nat}
variable {rd:Option Nat}{nt:Nat}{l:Sl}{ds:List aD}{s:SH}{Q:Po}{Qn:Po}{Qr:Po}{Qe:Nat->Po}{bf:Nat}{bl:Nat}{aZ:AV}{bE:AV}{c0:Int}{c1:Int}{c2:Int}{c3:Int}{c4:Int}{EL:List (List AV)}{d:SD}{t:SH}
variable {g:ED->CH->CH}{C:List CD}{tl:AD->List Nat}{p:Nat}
theorem acp {L:List OT}{i:Nat}(h:i<L.length):(otR L)[i]?=some L[i].row:=by rw[otR,List.getElem?_map,List.getElem?_eq_getElem h];rfl
theorem aaM (L:List OT):(otR L).length=L.length:=by simp[otR]
variable {tF:TypeId}
end
section
variable [Sg]{P:Program}{K:Orc}{F:Nat->FuncId}{T:Nat->TypeId}
end
section
variable {P:Program}{K:Orc}{F:Nat->FuncId}{T:Nat->TypeId}{f:FuncId}{fn:Func}{c:Code}{aek:Func}{c35:Code}{R:iB}{n:Nat}

end
end Go.Ev
