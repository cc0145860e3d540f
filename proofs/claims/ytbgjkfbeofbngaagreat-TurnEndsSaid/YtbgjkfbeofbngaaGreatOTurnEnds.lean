/- A list of structures of three bytes, opened and shut. Conditions: none. -/
import Derived.Test.YtbgjkfbeofbngaaGreatProg
import Derived.KernelRfl
import Derived.ProofKit
import Derived.OpenShut
import Derived.Deep.Slices
import Derived.ChangeSame
set_option linter.unusedVariables false
namespace Go.Proofs.YtbgjkfbeofbngaaGreat.turnEnds
set_option maxRecDepth 1000000
open Go.ChangeShapes Go.WideShapes Go.Deep
theorem cellsI:Tryz.prog.cellsOf 5=1:=by kernel_rfl
theorem cellsC:Tryz.prog.cellsOf 188=3:=by kernel_rfl
def by3 {H:Type}(f:Nat->Int × Int × Int)(i:Nat):DataW H:=.agg [.lit (.int .u8 (f i).1),.lit (.int .u8 (f i).2.1),.lit (.int .u8 (f i).2.2)]
section
variable {H:Type}{enc:TypeId × Value->H}{w:World}{base:Nat}{spare:Nat->Bool}{held:Bool}
theorem open3 {fuel:Nat}{cs:List Value}{x:DataW H × List MemPlace}(h:DataW.trod enc Tryz.prog w base spare held fuel 88 cs=some x) :
  (cs=[.slice none 0 0]/\x=(.nil,[])) \/
  ∃(a:Addr)(len cap m:Nat)(f:Nat->Int × Int × Int),cs=[.slice (some a) len cap]/\base<=a.block/\len<=cap/\cap<=maxLen/\m=(if spare a.block then cap else len)/\x.1=.slice ((List.range len).map (by3 f)) ((List.range (m-len)).map λj=>by3 f (len+j)) /\
   ∀i,i<m->w.cell? (a.add (i*3))=some (.int .u8 (f i).1)/\w.cell? (a.add (i*3+1))=some (.int .u8 (f i).2.1)/\w.cell? (a.add (i*3+2))=some (.int .u8 (f i).2.2)/\(Lit.int .u8 (f i).1).wf=true/\(Lit.int .u8 (f i).2.1).wf=true/\(Lit.int .u8 (f i).2.2).wf=true:=by
 rcases open_slice Tryz.underlying88 h with h0|⟨a,len,cap,m,n,D,Pl,rfl,hb,hl,hm,hmm,rfl,hx⟩
 ·exact .inl h0
 right
 have hlm:len<=m:=by rw[hmm];split<;>omega
 have one:∀i,i<m->∃q:Int × Int × Int,w.cell? (a.add (i*3))=some (.int .u8 q.1)/\w.cell? (a.add (i*3+1))=some (.int .u8 q.2.1)/\w.cell? (a.add (i*3+2))=some (.int .u8 q.2.2)/\(Lit.int .u8 q.1).wf=true/\(Lit.int .u8 q.2.1).wf=true/\(Lit.int .u8 q.2.2).wf=true/\D i=.agg [.lit (.int .u8 q.1),.lit (.int .u8 q.2.1),.lit (.int .u8 q.2.2)]:=by
  intro i hi
  obtain⟨cs',h1,h2⟩:=hx i hi
  rw[cellsC]at h1
  obtain⟨_,hlen,hcell⟩:=World.cells?_some h1
  obtain⟨xs,k,_,hxy,_,hxl,hf⟩:=DataW.trod_struct Tryz.underlying188 h2
  match xs,hxl,cs',hlen with
  | [y0,y1,y2],_,[v0,v1,v2],_=>
   have g0:=hf 0 _ rfl
   have g1:=hf 1 _ rfl
   have g2:=hf 2 _ rfl
   simp[cellsI]at g0 g1 g2
   obtain⟨z0,r0,rfl,w0⟩:=DataW.trod_int Tryz.underlying5 g0
   obtain⟨z1,r1,rfl,w1⟩:=DataW.trod_int Tryz.underlying5 g1
   obtain⟨z2,r2,rfl,w2⟩:=DataW.trod_int Tryz.underlying5 g2
   cases r0
   cases r1
   cases r2
   have e0:=hcell 0 (by omega)
   have e1:=hcell 1 (by omega)
   have e2:=hcell 2 (by omega)
   rw[add_add]at e0 e1 e2
   simp only[Prod.mk.injEq]at hxy
   exact⟨(z0,z1,z2),by simpa using e0,by simpa using e1,by simpa using e2,w0,w1,w2,by simpa using hxy.1⟩
 obtain⟨f,hf⟩:=choose_lt one
 refine⟨a,len,cap,m,f,rfl,hb,hl,hm,hmm,?_,λi hi=>⟨(hf i hi).1,(hf i hi).2.1,(hf i hi).2.2.1,(hf i hi).2.2.2.1,(hf i hi).2.2.2.2.1,(hf i hi).2.2.2.2.2.1⟩⟩
 show DataW.slice _ _=_
 rw[List.map_congr_left λi hi=>(hf i (by have:=List.mem_range.1 hi;omega)).2.2.2.2.2.2,List.map_congr_left λj hj=>(hf (len+j) (by have:=List.mem_range.1 hj;omega)).2.2.2.2.2.2]
 rfl
theorem shut3 {b off len cap:Nat}(hb:base<=b)(hl:len<=cap)(hm:cap<=maxLen)(hsp:spare b=true)(f:Nat->Int × Int × Int)
  (hc:∀i,i<cap->w.cell? ⟨b,off+i*3,none⟩=some (.int .u8 (f i).1)/\w.cell? ⟨b,off+i*3+1,none⟩=some (.int .u8 (f i).2.1)/\w.cell? ⟨b,off+i*3+2,none⟩=some (.int .u8 (f i).2.2)/\(Lit.int .u8 (f i).1).wf=true/\(Lit.int .u8 (f i).2.1).wf=true/\(Lit.int .u8 (f i).2.2).wf=true) :
  ∃n p,DataW.trod enc Tryz.prog w base spare held n 88 [.slice (some ⟨b,off,none⟩) len cap]=some (.slice ((List.range len).map (by3 f)) ((List.range (cap-len)).map λj=>by3 f (len+j)),p):=by
 obtain⟨n,hn⟩:=shut_slice_whole_cells (enc:=enc) (P:=Tryz.prog) (w:=w) (base:=base) (spare:=spare) (held:=held) (a:=⟨b,off,none⟩) Tryz.underlying88 hb hl hm hsp (by3 f) (λ_=>[]) (λi hi=>by
  obtain⟨h0,h1,h2,w0,w1,w2⟩:=hc i hi
  refine⟨[.int .u8 (f i).1,.int .u8 (f i).2.1,.int .u8 (f i).2.2],2,?_,?_⟩
  ·rw[cellsC,add_plain]
   refine cells?_of hb rfl λj hj=>?_
   match j,hj with
   | 0,_=>simpa using h0
   | 1,_=>simpa[Nat.add_assoc]using h1
   | 2,_=>simpa[Nat.add_assoc]using h2
  ·have:=trod_struct_mk (enc:=enc) (P:=Tryz.prog) (w:=w) (base:=base) (spare:=spare) (held:=held) (n:=1) (cs:=[.int .u8 (f i).1,.int .u8 (f i).2.1,.int .u8 (f i).2.2]) (xs:=[(.lit (.int .u8 (f i).1),[]),(.lit (.int .u8 (f i).2.1),[]),(.lit (.int .u8 (f i).2.2),[])]) Tryz.underlying188 (by rw[cellsC];rfl) (by simp[cellsI,trod_int_mk 0 Tryz.underlying5 w0,trod_int_mk 0 Tryz.underlying5 w1,trod_int_mk 0 Tryz.underlying5 w2])
   simpa[by3]using this)
 exact⟨n,_,hn⟩
end
end Go.Proofs.YtbgjkfbeofbngaaGreat.turnEnds
