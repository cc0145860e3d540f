/- Walks and rules. Conditions: none. -/
import Derived.Test.YtcmplhmbmmclaaaGreatEvN
set_option linter.unusedVariables false
set_option linter.unusedSectionVars false
namespace Go.Ev
section
variable [Sg]{P:Program}{K:Orc}{F:Nat->FuncId}{T:Nat->TypeId}
end
section
variable {P:Program}{K:Orc}{F:Nat->FuncId}{T:Nat->TypeId}{f:FuncId}{fn:Func}{c:Code}{tc:Func}{Ib:Code}{R:iB}{n:Nat}
structure BaseU (P:Program)(K:Orc)(F:Nat->FuncId)(T:Nat->TypeId):Prop where
structure BaseV (P:Program)(K:Orc)(F:Nat->FuncId)(T:Nat->TypeId):Prop where
variable {rd:Option Nat}{nt:Nat}{l:Sl}{ds:List aD}{s:SH}{Q:Po}{Qn:Po}{Qr:Po}{Qe:Nat->Po}{bf:Nat}{bl:Nat}{aZ:AV}{bE:AV}{c0:Int}{c1:Int}{c2:Int}{c3:Int}{c4:Int}{EL:List (List AV)}{d:SD}{t:SH}
structure GE (P:Program)(K:Orc)(F:Nat->FuncId)(T:Nat->TypeId)(tF:TypeId)(g:ED->CH->CH)(C:List CD)(d:SD):Prop where
 hB:Base P K F T
 hC:BaseC P K F T
 hG:BaseG P K F T
 hT:TyC P T
 hM:gA P F tF
 hU:BaseU P K F T
 hI:BaseB P K F T
 info:meth P tF "Info"=some (F 58)
 t128:Ty P (T 128) 13
 hd:d.Small
 he:d.kQ
 hO:nG P K F g d C
@[reducible] def gm (tF:TypeId)(bf:Nat):AV:=.iface tF (.ptr (some ⟨bf,0,0⟩))
variable {tF:TypeId}{g:ED->CH->CH}{C:List CD}{tl:AD->List Nat}
def x6 (b k:Int):Bool:=match binV .and (iv k) (iv b)with | some (.int _ n)=>decide (n=0) | _=>false
theorem acL (a b:Int):∃n,binV .and (iv a) (iv b)=some (iv n)/\x6 b a=decide (n=0):=by
 obtain⟨n,h⟩:=Tl a b
 exact⟨n,h,by unfold x6;rw[h]⟩
structure OT where
 k:Int
 a:Int
 b:Int
deriving DecidableEq
@[reducible] def OT.row (x:OT):List AV:=[iv x.k,iv x.a,iv x.b]
def otR (l:List OT):List (List AV):=l.map OT.row
theorem acb {d:SD}{o:OD}{p:Nat}(hz:o.nq=2):d.add o p={ d with nx:=d.nx+1,sp:=d.sp+1,ob:=d.ob++[o.new2 d.nx d.sp],fi:=d.fi++[d.nx] }:=by
 unfold SD.add
 rw[if_pos hz,hz]
 rfl
theorem L0 {d:SD}{C:List CD}(h:∀c∈C,∀x∈c.ab,x.kind≠4)(b:OD):d.fi.flatMap (oneE d C b)=[]:=by
 refine List.flatMap_eq_nil_iff.2 λn _=>?_
 unfold oneE
 split
 ·rfl
 ·split
  ·rfl
  ·split
   ·rfl
   ·rename_i c hc
    unfold jU
    rw[List.map_eq_nil_iff]
    refine List.filter_eq_nil_iff.2 λx hx=>?_
    have:=h c (List.mem_of_getElem? hc) x hx
    simp[this]
theorem acO {P:Program}{K:Orc}{F:Nat->FuncId}{d:SD}{C:List CD}(h:∀c∈C,∀x∈c.ab,x.kind≠4)(hcd:∀o∈d.ob,∃j:Nat,o.gE=.ofNat j/\j<C.length):nG P K F (λ_ c=>c) d C where
 ok:=⟨hcd,λc hc x hx h4=>absurd h4<|h c hc x hx,λb=>by rw[L0 h];exact Nat.zero_le _⟩
 step o e he:=by
  unfold qy at he
  rw[L0 h]at he
  cases he
 any o c R hR:=by
  unfold qy at hR |-
  rw[L0 h]at hR |-
  rw[List.Perm.eq_nil hR]
  rfl

end
end Go.Ev
