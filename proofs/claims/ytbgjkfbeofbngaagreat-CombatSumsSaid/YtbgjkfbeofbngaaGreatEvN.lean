/- Walks and rules. Conditions: none. -/
import Derived.Test.YtbgjkfbeofbngaaGreatEvM
import Derived.Test.YtbgjkfbeofbngaaGreatEvL
set_option linter.unusedVariables false
set_option linter.unusedSectionVars false
namespace Go.Ev
def Ty1 (P:Program)(t:TypeId):Prop:=isAggT P t=some false/\size? P t=some 1
section
variable {P:Program}{K:Orc}{rd:Option Nat}{nt:Nat}{l:Sl}{ds:List aD}{s:SH}{Q Qn Qr:Po}{Qe:Nat->Po}{F:Nat->FuncId}{T:Nat->TypeId}{bf bl:Nat}{aZ bE:AV}{c0 c1 c2 c3 c4:Int}{EL:List (List AV)}{d:SD}{t:SH}{tF:TypeId}{g:ED->CH->CH}{C:List CD}{tl:AD->List Nat}
theorem aaY (hX:BdX P K F T tF g C d)(ht3:Ty1 P (T 3))(ht4:Ty1 P (T 4))(hno:∀c∈C,c.ab=[])(hf:Has bf (.r false [bu bl aZ c0 c1 c2 c3 c4 bE] 8) t)(eQ:cI t aZ C)(hs:aH bl EL d t s){k:Int}{fv:AV}(VZ:partCells 1 fv=some [fv]) :
  bB P K (F 182) [gm tF bf,iv k,fv] s (λ_ s'=>aH bl EL d t s'):=by
 refine hX.hQ.f182.ZH ?_
 unfold afU
 refine Wq<|Wa (.box rfl VZ) λb5=>Wa (.alloc rfl) λb6=>Wa (.alloc rfl) λb7=>Wn ?_
 refine Ws<|Wq<|Wv rfl<|Wh (b:=false) rfl rfl rfl<|Wn<|Wd rfl fS<|λ_=>Wi ?_
 refine Ws<|Wq<|Wv rfl<|Wv rfl ?_
 refine Ww<|W1 (ab2 hX.hQ rfl) ?_
 rintro _ _ ⟨b17,c17,rfl,rfl⟩
 refine Wn ?_
 have nr:aH bl EL d ((c17,HO.r false [[iv k]] 1)::(b17,HO.r false [[gm tF bf]] 1)::(b7,HO.r false [[.bool false]] 1)::(b6,HO.r false [[iv 0]] 1)::t) ((c17,HO.r false [[iv k]] 1)::(b17,HO.r false [[gm tF bf]] 1)::(b7,HO.r false [[.bool false]] 1)::(b6,HO.r false [[iv 0]] 1)::(b5,HO.r false [[fv]] 1)::s):=(aH.bK (m:=[_]) hs).cons.cons.cons.cons
 refine Wb ?_
 refine Wg (l':=[(6,.ptr<|some ⟨b6,0,0⟩),(7,.ptr<|some ⟨b7,0,0⟩),(17,.func (F 240) [] [.ptr (some ⟨b17,0,0⟩),.ptr<|some ⟨c17,0,0⟩])]) (bq rfl) (λ_ _ h=>h) ?_
 generalize hl1:[(6,AV.ptr<|some ⟨b6,0,0⟩),(7,AV.ptr<|some ⟨b7,0,0⟩),(17,AV.func (F 240) [] [.ptr (some ⟨b17,0,0⟩),.ptr<|some ⟨c17,0,0⟩])]=l1
 refine WP.rf (first:=[]) (cap:=[.ptr (some ⟨b17,0,0⟩),.ptr<|some ⟨c17,0,0⟩]) (by rw[<- hl1];rfl) λasg body ha hb D lb=>?_
 have dt:=(nr.cons (p:=(D,HO.ob .deferred))).cons (p:=(lb,HO.lp l1 30 [18,19] asg body .ready none D))
 refine bB.canon<|(abk hX hno (.there<|.there<|.there<|.there<|.there<|.there hf) (eQ.mono λq hq=>by simp[hq]) dt (y:=.yield lb) (b2:=b17) (b3:=c17) (k:=k) (.there<|.there<|.there .here)<|.there<|.there .here).post ?_
 rintro _ s9 hs9
 obtain⟨u,hu,ot⟩:=hs9.split
 refine⟨(lb,HO.lp l1 30 [18,19] asg body .ready none D)::(u++((D,HO.ob .deferred)::(c17,HO.r false [[iv k]] 1)::(b17,HO.r false [[gm tF bf]] 1)::(b7,HO.r false [[.bool false]] 1)::(b6,HO.r false [[iv 0]] 1)::t)),ak (λc w h0 h1 h2 hq=>by have:=hq _ _ hu;simp only[h1,h2]at this |-;omega),l1,.ready,none,_,rfl,(λh=>LoopState.noConfusion h),?_⟩
 subst hl1
 refine Wq<|Wl rfl (.there<|.app<|.there<|.there<|.there<|.there .here) rfl rfl rfl<|Ww<|Wt (s':=_::_++(_::_::_::_::(b6,.r false [[iv 0]] 1)::_)) rfl rfl rfl (.there<|.app<|.there<|.there<|.there<|.there .here) rfl rfl<|Ww<|Wt (s':=_++(_::_::_::(b7,.r false [[AV.bool false]] 1)::_)) rfl rfl rfl (.app<|.there<|.there<|.there .here) rfl rfl<|Wn<|We ?_
 refine⟨[D],(lb,HO.gone)::(u++((c17,HO.r false [[iv k]] 1)::(b17,HO.r false [[gm tF bf]] 1)::(b7,HO.r false [[.bool false]] 1)::(b6,HO.r false [[iv 0]] 1)::t)),rfl,ak (λc w h0 h1 h2 hq=>by simp only[h1,h2,h0,List.map_cons,List.map_nil];omega),[iv 0,.bool false],.cell rfl ht3.1 ht3.2 (.inr rfl) (.there<|.there<|.app<|.there<|.there<|.there .here) rfl rfl rfl<|.cell rfl ht4.1 ht4.2 (.inr rfl) (.there<|.there<|.app<|.there<|.there .here) rfl rfl rfl .nil,?_⟩
 exact aH.bK (m:=[_,_])<|aH.fb (x:=[_,_,_,_])<|ot _
theorem abh (hX:BdX P K F T tF g C d)(ht3:Ty1 P (T 3))(ht4:Ty1 P (T 4))(hno:∀c∈C,c.ab=[])(hf:Has bf (.r false [bu bl aZ c0 c1 c2 c3 c4 bE] 8) t)(eQ:cI t aZ C)(hs:aH bl EL d t s){p:Int}{n:Int}(hn:0<=n) :
  bB P K (F 131) [gm tF bf,iv p,iv n] s (λv s'=>v=iv n/\aH bl EL d t s'):=by
 have hlt:binV .lss (iv n) (iv 0)=some (.bool false):=by
  rw[eT]
  exact congrArg (λb=>some<|AV.bool b)<|decide_eq_false<|by omega
 refine hX.hQ.f131.dT ?_
 unfold afP
 refine Wq<|Wa (.box rfl rfl) λb4=>Wa (.box rfl rfl) λb5=>Wv rfl<|Wn ?_
 refine Ws<|Wq<|Wv rfl<|Wh (b:=false) rfl rfl rfl<|Wv rfl<|Wy<|Wl rfl .here rfl rfl rfl<|Wy<|Wj rfl rfl hlt<|Wr (.bj rfl rfl)<|Wn<|Wd rfl fS<|λ_=>Wi ?_
 refine Wq<|Wv rfl<|Wr (.mkfn rfl rfl) ?_
 have nr:aH bl EL d ((b5,HO.r false [[iv n]] 1)::(b4,HO.r false [[iv p]] 1)::t) ((b5,HO.r false [[iv n]] 1)::(b4,HO.r false [[iv p]] 1)::s):=hs.cons.cons
 refine Ww<|W1 (aaY hX ht3 ht4 hno (.there<|.there hf) (eQ.mono λq hq=>by simp[hq]) nr rfl) ?_
 rintro _ s2 dt
 refine Wn ?_
 refine Wq<|Wl rfl (dt.mem .here) rfl rfl rfl<|Wv rfl<|Wn<|We<|Wm (.tmp rfl .nil) ?_
 exact⟨rfl,dt.tail.tail⟩
def dC (o:Nat->OD)(n:Nat)(lf:Int):SD:={ d7 with pl:=[Zz,{ Zz with Zl:=lf }],nx:=.ofNat (n+1),sp:=.ofNat (n+1),ob:=(List.range n).map o,fi:=fI n }
structure OI (o:Nat->OD)(n:Nat):Prop where
 id:∀j,j<n->(o j).id=.ofNat (j+1)
 gE:∀j,j<n->(o j).gE=.ofNat (j+1)
 ci:∀j,j<n->(o j).ci=2
def R0 (o:Nat->OD)(i:Nat)(x:OD)(j:Nat):OD:=if j=i then x else o j
theorem cq (o:Nat->OD)(i:Nat)(x:OD):R0 o i x i=x:=if_pos rfl
theorem dh (o:Nat->OD){i j:Nat}(x:OD)(h:j≠i):R0 o i x j=o j:=if_neg h
theorem OI.R0 {o:Nat->OD}{n i:Nat}{x:OD}(h:OI o n)(h1:x.id=(o i).id)(h2:x.gE=(o i).gE)(h3:x.ci=(o i).ci):OI (Ev.R0 o i x) n:=by
 refine⟨λj hj=>?_,λj hj=>?_,λj hj=>?_⟩<;>by_cases e:j=i
 ·subst e;rw[cq,h1];exact h.id j hj
 ·rw[dh o x e];exact h.id j hj
 ·subst e;rw[cq,h2];exact h.gE j hj
 ·rw[dh o x e];exact h.gE j hj
 ·subst e;rw[cq,h3];exact h.ci j hj
 ·rw[dh o x e];exact h.ci j hj
theorem aaJ (o:Nat->OD)(n:Nat)(lf:Int){i:Nat}(x:OD):({ dC o n lf with ob:=(dC o n lf).ob.set i x }:SD)=dC (R0 o i x) n lf:=by
 have h:((List.range n).map o).set i x=(List.range n).map (R0 o i x):=by
  refine List.ext_getElem (by simp) λj h1 h2=>?_
  rw[List.getElem_set]
  split
  ·rename_i e
   subst e
   rw[List.getElem_map,List.getElem_range,cq]
  ·rename_i e
   rw[List.getElem_map,List.getElem_map,List.getElem_range,dh o x<|λh=>e h.symm]
 show({ dC o n lf with ob:=((List.range n).map o).set i x }:SD)=_
 rw[h]
 rfl
theorem aee (o:Nat->OD)(n:Nat)(lf:Int):(dC o n lf).kQ:=⟨rfl,rfl,rfl,rfl⟩
theorem adt (o:Nat->OD){n:Nat}(hn:n<=8)(lf:Int):(dC o n lf).Small:=by
 refine⟨⟨by show 2<=1000;omega,by show((List.range n).map _).length<=1000;rw[List.length_map,List.length_range];omega,by show(fI n).length<=1000;simp[fI];omega,Nat.zero_le _,Nat.zero_le _⟩,λLL h=>?_⟩
 have:LL=[[],[]]:=by rcases h with rfl | rfl | rfl | rfl<;>rfl
 subst this
 exact⟨by show 2<=1000;omega,by decide⟩
theorem qc {o:Nat->OD}{n j:Nat}(hI:OI o n)(lf:Int)(hj:j<n):(dC o n lf).find (.ofNat (j+1))=some j/\(dC o n lf).ob[j]?=some (o j)/\(dC o n lf).obj (.ofNat (j+1))=some (o j):=by
 have h1:(dC o n lf).ob[j]?=some (o j):=by
  show((List.range n).map o)[j]?=_
  rw[List.getElem?_map,List.getElem?_range hj];rfl
 have h2:(dC o n lf).find (.ofNat<|j+1)=some j:=by
  unfold SD.find
  rw[List.findIdx?_eq_some_iff_getElem]
  refine⟨by show j<((List.range n).map _).length;rw[List.length_map,List.length_range];exact hj,?_,λi hi=>?_⟩
  ·have:(dC o n lf).ob[j]'(by show j<((List.range n).map _).length;rw[List.length_map,List.length_range];exact hj)=o j:=by
    show((List.range n).map o)[j]'_=_
    rw[List.getElem_map,List.getElem_range]
   rw[this]
   exact decide_eq_true<|hI.id j hj
  ·have:(dC o n lf).ob[i]'(by show i<((List.range n).map _).length;rw[List.length_map,List.length_range];omega)=o i:=by
    show((List.range n).map o)[i]'_=_
    rw[List.getElem_map,List.getElem_range]
   rw[this,hI.id i<|by omega]
   have:¬(Int.ofNat (i+1)=Int.ofNat (j+1)):=λe=>by have:=Int.ofNat.inj e;omega
   simpa using this
 exact⟨h2,h1,by unfold SD.obj;rw[h2];exact h1⟩
def chC (C:List CD)(j:Nat):CH:=match C[j+1]? with | some c=>(⟨c.power,c.qn,c.keys⟩:CH).fin.fin | none=>⟨0,0,0⟩
theorem ads {o:Nat->OD}{n j:Nat}{C:List CD}{kc:Nat->Int}(hI:OI o n)(lf:Int)(hC:rq C n kc)(hj:j<n):uY (λ_ c=>c) (dC o n lf) C (.ofNat (j+1))=some (chC C j):=by
 obtain⟨c,h1,h2,h3⟩:=hC.at' j hj
 obtain⟨hf,ho,_⟩:=qc hI lf hj
 have hF:(dC o n lf).onF C (.ofNat<|j+1)=some (o j,c):=by
  unfold SD.onF
  rw[hf]
  show(if Int.ofNat (j+1)∈(dC o n lf).fi then match (dC o n lf).ob[j]? with | none=>none | some o=>if o.gE<0 then none else match C[o.gE.toNat]? with | none=>none | some c=>some (o,c)else none)=_
  rw[if_pos (show Int.ofNat (j+1)∈(dC o n lf).fi from List.mem_map.2 ⟨j,List.mem_range.2 hj,rfl⟩),ho]
  show(if(o j).gE<0 then none else match C[(o j).gE.toNat]? with | none=>none | some c=>some (o j,c))=_
  rw[hI.gE j hj,if_neg<|show¬Int.ofNat (j+1)<0 from Int.not_lt.2<|Int.natCast_nonneg _]
  show(match C[j+1]? with | none=>none | some c=>some (o j,c))=_
  rw[h1]
 unfold uY
 rw[hF]
 show(if c.kind=2 then some (⟨c.power,c.qn,c.keys⟩:CH).fin.fin else none)=_
 rw[if_pos h2]
 unfold chC
 rw[h1]
def kj (o:Nat->OD)(C:List CD)(j:Nat):BT:=⟨o j,chC C j⟩
theorem TG {o:Nat->OD}{n:Nat}{C:List CD}{kc:Nat->Int}(hI:OI o n)(lf:Int)(hC:rq C n kc):eb (λ_ c=>c) (dC o n lf) C (dC o n lf).fi=(List.range n).map (kj o C):=by
 unfold eb
 show((List.range n).map λj=>Int.ofNat<|j+1).filterMap _=_
 rw[List.filterMap_map]
 refine aaX _ λj hj=>?_
 have hj:=List.mem_range.1 hj
 obtain⟨_,_,ho⟩:=qc hI lf hj
 show(match (dC o n lf).obj (.ofNat<|j+1),uY (λ_ c=>c) (dC o n lf) C (.ofNat<|j+1)with | some o,some c=>some (⟨o,c⟩:BT) | _,_=>none)=some (kj o C j)
 rw[ho,ads hI lf hC hj]
 rfl
def lw (L M:List BT):List HT:=(M.filter λx=>decide (0<x.o.NP)).flatMap (ofT L)
theorem aaN (L M:List BT)(x:BT):lw L (M++[x])=lw L M++if 0<x.o.NP then ofT L x else []:=by
 unfold lw
 rw[List.filter_append,List.flatMap_append]
 congr 1
 rw[List.filter_cons]
 by_cases h:0<x.o.NP
 ·rw[decide_eq_true h,if_pos rfl,if_pos h];simp
 ·rw[decide_eq_false h,if_neg<|by simp,if_neg h];rfl
def cr (st:(Nat->OD) × Int)(h:HT):(Nat->OD) × Int:=
 if h.n=0 then st else if 0<h.id then(R0 st.1 (h.id.toNat-1) { st.1 (h.id.toNat-1)with Y6:=oP ((st.1<|h.id.toNat-1).Y6+h.n) },st.2) else(st.1,oP<|st.2+-h.n)
theorem V0 (n:Int):-999<=oP n/\oP n<=999:=by
 have h:oP n=mnI (uS n<|.negSucc 998) 999:=rfl
 rw[h,aaU,x7]
 omega
structure aay (P:Program)(K:Orc)(F:Nat->FuncId):Prop where
 cF:ac7 P K F
 cB:∀a b:Nat,1<=a->a<=8->1<=b->b<=8->∀s,bB P K (F 201) [.agg (evRow 13 (.ofNat a) (.ofNat b) 0 0 it0)] s<|λv s'=>v=iv 0/\s'=s
 cP:∀a:Nat,1<=a->a<=8->∀s,bB P K (F 201) [.agg (evRow 14 (.ofNat a) 0 1 0 it0)] s<|λv s'=>v=iv 0/\s'=s
 cH:∀(a:Nat)(m:Int),1<=a->a<=8->1<=m->m<=6->∀s,bB P K (F 201) [.agg (evRow 5 (.ofNat a) 0 m 0 it0)] s<|λv s'=>v=iv 0/\s'=s
 cL:∀m:Int,-6<=m->m<=-1->∀s,bB P K (F 201) [.agg (evRow 7 (.ofNat 1) 0 m 0 it0)] s<|λv s'=>v=iv 0/\s'=s
structure LawS (P:Program)(K:Orc)(F:Nat->FuncId)(T:Nat->TypeId):Prop where
 hW:LawF P K F T
 hP:BaseP P K F T
 hQ:BaseQ P K F T
 hR:BaseR P K F T
 t3:Ty1 P (T 3)
 t4:Ty1 P (T 4)
 hv:meth P (T 26) "Having"=some (F 346)
 do_:meth P (T 26) "Do"=some (F 15)
theorem LawS.bd (hS:LawS P K F T){n:Nat}{kc:Nat->Int}(hC:rq C n kc)(hn:n<=8){o:Nat->OD}(hI:OI o n)(lf:Int):BdX P K F T (T 26) (λ_ c=>c) C (dC o n lf):=by
 have hcd:∀x∈(dC o n lf).ob,∃j:Nat,x.gE=.ofNat j/\j<C.length:=by
  intro x hx
  obtain⟨i,hi,rfl⟩:=List.mem_map.1 hx
  have hi:=List.mem_range.1 hi
  exact⟨i+1,hI.gE i hi,by rw[hC.len];omega⟩
 refine⟨hS.hW.hU.ge (adt o hn lf) (aee ..)<|aeZ hC.no hcd,hS.hQ,hS.hv,hS.do_,hcd,?_⟩
 intro id hid
 obtain⟨i,hi,rfl⟩:=List.mem_map.1 hid
 exact⟨_,(qc hI lf<|List.mem_range.1 hi).2.2⟩
theorem acv (hB:Base P K F T)(hX:BaseX P K F T)(hR:BaseR P K F T){a m:Int}{i:Nat}{o:OD}(hd:d.Small)(he:d.kQ)(hi:d.find a=some i)(ho:d.ob[i]?=some o)(hz:o.ci=2)(hb:-9223372036854775808<=o.Y6+m/\o.Y6+m<=9223372036854775807)(lm:∀s,bB P K (F 201) [.agg (evRow 5 a 0 m 0 it0)] s (λv s'=>v=iv 0/\s'=s)) :
  Ap P K F 5 a 0 m 0 it0 d { d with ob:=d.ob.set i { o with Y6:=oP (o.Y6+m) } }:=
 L0 (k:=5) hB hX hd he (.inr<|.inr<|.inl ⟨rfl,rfl⟩) hi ho hz (λhu hr=>abW hR hb hu hr) lm
theorem aap (a b:Int):binV .gtr (iv a) (iv b)=some (.bool (decide (b<a))):=by
 show some (AV.bool<|ilt b a)=_
 rw[du]
theorem acF (hS:LawS P K F T)(hc:aay P K F){n:Nat}{kc:Nat->Int}(hC:rq C n kc)(hn:n<=8){o:Nat->OD}(hI:OI o n){lf:Int}(hf:Has bf (.r false [bu bl aZ c0 c1 c2 c3 c4 bE] 8) t)(eQ:cI t aZ C)(hs:aH bl EL (dC o n lf) t s)(hEL:EL.length<=100)
  {L:List BT} (hL:L=(List.range n).map (kj o C)) (hB:∀y∈L,BB y) (hH:∀h∈lw L L,0<=h.n/\h.n<=6/\((∃k,k<n/\h.id=.ofNat (k+1))\/(h.id=0/\h.pl=1))) (hHl:(lw L L).length<=200) (hhu:∀j,j<n->-999<=(o j).Y6/\(o j).Y6<=999) (hlf:-999<=lf/\lf<=999) :
  bB P K (F 85) [gm (T 26) bf] s (λ_ s'=>∃Gg,Gg.length<=EL.length+200/\aH bl Gg (dC ((lw L L).foldl cr (o,lf)).1 n ((lw L L).foldl cr (o,lf)).2) t s'):=by
 have hX:=hS.bd hC hn hI lf
 have IH:L.length=n:=by rw[hL];simp
 refine hS.hP.f85.dT ?_
 unfold a85
 refine Wq<|Wv rfl ?_
 refine Ww<|W1 (Az hS.hW.hY rfl) ?_
 rintro _ _ ⟨b9,rfl,rfl⟩
 have nr:aH bl EL (dC o n lf) ((b9,HO.r false [[gm (T 26) bf]] 1)::t) ((b9,HO.r false [[gm (T 26) bf]] 1)::s):=hs.cons
 have hI1:=t6 (bl:=bl) (EL:=EL) (t:=(b9,HO.r false [[gm (T 26) bf]] 1)::t) hX.hE hS.hW.hY (.there hf) (eQ.mono λq hq=>by simp[hq]) .here (by show(fI n).length<=400;simp[fI];omega) hX.all
 rw[TG hI lf hC,<- hL]at hI1
 refine Ww<|W1 (abQ hS.hP nr hI1) ?_
 rintro av s2 ⟨m,dt,xD⟩
 have ahK:=xD.part
 have ahF:lenOf av=some L.length:=by rw[xD.lenOf];simp[btR]
 refine Wr (.build (cs:=[nilS,av]) (by simp only[bparts,aI,opl,lk,ahK];rfl) rfl)<|Wa (.box rfl rfl) λNQ=>Wv rfl<|Wn ?_
 refine Ws<|Wq<|Wv rfl<|Wr (.nilchk rfl rfl)<|Wf rfl<|Wl rfl .here rfl rfl rfl<|Wr (.lenS rfl ahF)<|Wv rfl<|Wn<|Wb ?_
 have gw:aH bl EL (dC o n lf) ((NQ,HO.r false [[nilS,av]] 2)::([]++([]++(m++((b9,HO.r false [[gm (T 26) bf]] 1)::t))))) ((NQ,HO.r false [[nilS,av]] 2)::s2):=dt.cons
 generalize hW:m++((b9,HO.r false [[gm (T 26) bf]] 1)::t)=W at gw
 have agx:Src W 17 av (btR L):=xD.mono λq hq=>by rw[<- hW];simp[hq]
 have hfW:Has bf (.r false [bu bl aZ c0 c1 c2 c3 c4 bE] 8) W:=by rw[<- hW];exact .app<|.there hf
 have hcW:cI W aZ C:=eQ.mono λq hq=>by rw[<- hW];simp[hq]
 have hlen:∀q,(lw L<|L.take q).length<=200:=by
  intro q
  refine Nat.le_trans ?_ hHl
  unfold lw
  have:∃R,L.filter (λx=>decide<|0<x.o.NP)=(L.take q).filter (λx=>decide<|0<x.o.NP)++R:=⟨(L.drop q).filter _,by rw[<- List.filter_append,List.take_append_drop]⟩
  obtain⟨R,hR⟩:=this
  rw[hR,List.flatMap_append,List.length_append]
  omega
 refine Wp (λk l ds s'=>ds=[]/\∃q lv og j,k=L.length-q/\q<=L.length/\aH bl EL (dC o n lf) ((NQ,HO.r false [[lv,av]] 2)::(og++(j++W))) s'/\GrE 3 lv (htR<|lw L<|L.take q) og/\∀i w,lk [(0,gm (T 26) bf),(2,.ptr<|some ⟨NQ,0,0⟩),(16,av),(17,iv<|.ofNat L.length),(18,iv<|.ofNat q)] i=some w->lk l i=some w) ?_ (n:=L.length-0)
  ⟨rfl,0,nilS,[],[],rfl,Nat.zero_le _,gw,.nil,bq rfl⟩
 rintro k l ds s5 ⟨rfl,q,lv,og,j,rfl,hq,tn,hG,hl⟩
 refine Wg hl (λ_ _ h=>h) ?_
 refine Wq<|Wj rfl rfl (eT _ _)<|Wn<|Ws<|Wd rfl (λht=>Wi ?_)<|λht=>Wx ?_
 rotate_left
 ·have hge:¬q<L.length:=λh=>of_decide_eq_false ht (Int.ofNat_lt.2 h)
  rw[List.take_of_length_le (by omega)]at hG
  have agE:lenOf lv=some (lw L L).length:=by rw[hG.gr.lenOf];simp[htR]
  refine Wq<|Wv rfl<|Wr (.nilchk rfl rfl)<|Wf rfl<|Wf rfl<|Wl rfl (tn.mem .here) rfl rfl rfl<|Wr (.lenS rfl agE)<|Wv rfl<|Wn<|Wb ?_
  have hlS:Src ((NQ,HO.r false [[lv,av]] 2)::(og++(j++W))) 3 lv (htR<|lw L L):=hG.out.src.mono λq hq=>by simp[hq]
  have hfV:Has bf (.r false [bu bl aZ c0 c1 c2 c3 c4 bE] 8) ((NQ,HO.r false [[lv,av]] 2)::(og++(j++W))):=.there<|.app<|.app hfW
  have hcV:cI ((NQ,HO.r false [[lv,av]] 2)::(og++(j++W))) aZ C:=hcW.mono λq hq=>by simp[hq]
  have hWt:∀{d2:SD}{E2:List (List AV)}{s9:SH},aH bl E2 d2 ((NQ,HO.r false [[lv,av]] 2)::(og++(j++W))) s9->aH bl E2 d2 t s9:=λ{d2 E2 s9} h=>by
   subst hW
   exact h.tail.fb.fb.fb.tail
  generalize (NQ,HO.r false [[lv,av]] 2)::(og++(j++W))=V at tn hlS hfV hcV hWt
  generalize hHL:lw L L=HL at hH hHl agE hlS |-
  refine Wp (λk l ds s'=>ds=[]/\∃q Gg,k=HL.length-q/\q<=HL.length/\Gg.length<=EL.length+q/\aH bl Gg (dC ((HL.take q).foldl cr (o,lf)).1 n ((HL.take q).foldl cr (o,lf)).2) V s'/\OI ((HL.take q).foldl cr (o,lf)).1 n/\(∀j,j<n->-999<=(((HL.take q).foldl cr (o,lf)).1 j).Y6/\(((HL.take q).foldl cr (o,lf)).1 j).Y6<=999)/\(-999<=((HL.take q).foldl cr (o,lf)).2/\((HL.take q).foldl cr (o,lf)).2<=999)/\∀i w,lk [(0,gm (T 26) bf),(34,lv),(35,iv<|.ofNat HL.length),(36,iv<|.ofNat q)] i=some w->lk l i=some w) ?_ (n:=HL.length-0)
   ⟨rfl,0,EL,rfl,Nat.zero_le _,Nat.le_refl _,tn,hI,hhu,hlf,bq rfl⟩
  rintro k l ds s6 ⟨rfl,q,Gg,rfl,hq,hE2,KL,hI6,adD,aeo,hl⟩
  refine Wg hl (λ_ _ h=>h) ?_
  refine Wq<|Wj rfl rfl (eT _ _)<|Wn<|Ws<|Wd rfl (λht=>Wi ?_)<|λht=>Wx ?_
  rotate_left
  ·have hge:¬q<HL.length:=λh=>of_decide_eq_false ht (Int.ofNat_lt.2 h)
   rw[List.take_of_length_le (by omega)]at KL
   exact Wm .nil ⟨Gg,by omega,hWt KL⟩
  have hlt:q<HL.length:=Int.ofNat_lt.1<|of_decide_eq_true ht
  have hx:HL[q]?=some HL[q]:=List.getElem?_eq_getElem hlt
  have KP:HL[q]∈HL:=List.getElem_mem _
  have htk:HL.take (q+1)=HL.take q++[HL[q]]:=by rw[List.take_add_one,hx];rfl
  generalize HL[q]=h at hx KP htk
  obtain⟨hn0,hn6,ahQ⟩:=hH h KP
  obtain⟨ba,ra,na,ca,J5,Sp,Ma,e4,hba,me,hra⟩:=hlS.at (i:=q)<|by simpa[htR]using hlt
  have hrow:Ma[ra+q]?=some h.row:=by rw[hra,htR,List.getElem?_map,hx];rfl
  have hst:(HL.take<|q+1).foldl cr (o,lf)=cr ((HL.take q).foldl cr (o,lf)) h:=by rw[htk,List.foldl_append];rfl
  generalize (HL.take q).foldl cr (o,lf)=st at KL hI6 adD aeo hst
  obtain⟨oq,lq⟩:=st
  have hbd:=hS.bd hC hn hI6 lq
  subst e4
  have fin:∀{l9:Sl}{s9:SH}{E3:List (List AV)}{st:(Nat->OD) × Int},cr (oq,lq) h=st->E3.length<=EL.length+(q+1)->aH bl E3 (dC st.1 n st.2) V s9->OI st.1 n->(∀j,j<n->-999<=(st.1 j).Y6/\(st.1 j).Y6<=999)->(-999<=st.2/\st.2<=999)->(∀i w,lk [(0,gm (T 26) bf),(34,.slice (some ⟨ba,ra,0⟩) na ca J5 3),(35,iv<|.ofNat HL.length),(36,iv<|.ofNat<|q+1)] i=some w->lk l9 i=some w) ->
    ∃m',m'<HL.length-q/\(([]:List aD)=[]/\∃q Gg,m'=HL.length-q/\q<=HL.length/\Gg.length<=EL.length+q/\aH bl Gg (dC ((HL.take q).foldl cr (o,lf)).1 n ((HL.take q).foldl cr (o,lf)).2) V s9/\OI ((HL.take q).foldl cr (o,lf)).1 n/\(∀j,j<n->-999<=(((HL.take q).foldl cr (o,lf)).1 j).Y6/\(((HL.take q).foldl cr (o,lf)).1 j).Y6<=999)/\(-999<=((HL.take q).foldl cr (o,lf)).2/\((HL.take q).foldl cr (o,lf)).2<=999)/\∀i w,lk [(0,gm (T 26) bf),(34,.slice (some ⟨ba,ra,0⟩) na ca J5 3),(35,iv<|.ofNat HL.length),(36,iv<|.ofNat q)] i=some w->lk l9 i=some w):=by
   intro l9 s9 E3 st h1 h2 h3 h4 h5 h6 h7
   rw[h1]at hst
   exact⟨HL.length-(q+1),by omega,rfl,q+1,E3,rfl,hlt,h2,by rw[hst];exact h3,by rw[hst];exact h4,by rw[hst];exact h5,by rw[hst];exact h6,h7⟩
  have heq:eqBy 20 .pi (iv h.n) (iv 0)=some (decide<|h.n=0):=bb _ _
  by_cases hz:h.n=0
  ·rw[decide_eq_true hz]at heq
   refine Ws<|Wb<|Wq<|Wr (.iaddrS rfl rfl (by omega)<|by decide)<|Wl (cs:=HT.row h) rfl (KL.mem hba) hrow rfl rfl<|Wa (.alloc rfl) λb6=>Ww<|Wt (s':=(b6,.r false [HT.row h] 3)::_) rfl rfl rfl .here rfl rfl<|Wn<|Wb ?_
   refine Wq<|Wf rfl<|Wl rfl .here rfl rfl rfl<|Wh rfl rfl heq<|Wv rfl<|Wn<|Wd rfl (λ_=>Wi<|Wo<|Wj rfl rfl (bM<|by omega)<|Wv rfl<|Wn ?_) Dz
   exact fin (st:=(oq,lq)) (if_pos hz) (by omega) (KL.bK (m:=[_])) hI6 adD aeo<|bq rfl
  ·rw[decide_eq_false hz]at heq
   have hn1:1<=h.n:=by omega
   rcases ahQ with⟨k,hk,hid⟩|⟨hid,uA⟩
   ·have hgt:binV .gtr (iv h.id) (iv 0)=some (.bool true):=by
     rw[aap,hid]
     exact congrArg (λb=>some<|AV.bool b)<|decide_eq_true<|show(0:Int)<((k+1:Nat):Int) by omega
    refine Ws<|Wb<|Wq<|Wr (.iaddrS rfl rfl (by omega)<|by decide)<|Wl (cs:=HT.row h) rfl (KL.mem hba) hrow rfl rfl<|Wa (.alloc rfl) λb6=>Ww<|Wt (s':=(b6,.r false [HT.row h] 3)::_) rfl rfl rfl .here rfl rfl<|Wn<|Wb ?_
    refine Wq<|Wf rfl<|Wl rfl .here rfl rfl rfl<|Wh rfl rfl heq<|Wv rfl<|Wn<|Wd rfl fS<|λ_=>?_
    refine Wq<|Wf rfl<|Wl rfl .here rfl rfl rfl<|Wj rfl rfl hgt<|Wv rfl<|Wn<|Wd rfl (λ_=>Wo<|Wv rfl<|Wf rfl<|Wl rfl .here rfl rfl rfl<|Wf rfl<|Wl rfl .here rfl rfl rfl<|Wr (.build (cs:=evRow (Int.ofNat 5) (HT.id h) 0 (HT.n h) 0 it0) rfl rfl) ?_) Dz
    have hs7:aH bl Gg (dC oq n lq) ((b6,HO.r false [h.row] 3)::V) ((b6,HO.r false [h.row] 3)::s6):=KL.cons
    obtain⟨hfi,zF,_⟩:=qc hI6 lq hk
    have Cs:=adD k hk
    have Cs:-999<=(oq k).Y6/\(oq k).Y6<=999:=Cs
    have hap:Ap P K F 5 h.id 0 h.n 0 it0 (dC oq n lq) (dC (R0 oq k { oq k with Y6:=oP ((oq k).Y6+h.n) }) n lq):=by
     have h5:=@acv P K F T (dC oq n lq) hbd.hE.hB hS.hW.hX hS.hR h.id h.n k (oq k) hbd.hE.hd hbd.hE.he (by rw[hid];exact hfi) zF (hI6.ci k hk) (by omega) (by rw[hid];exact hc.cH _ _ (by omega) (by omega) hn1 hn6)
     rw[<- aaJ]
     exact@h5
    refine Ww<|WS.invoke (vs:=[AV.agg (evRow (Int.ofNat 5) (HT.id h) 0 (HT.n h) 0 it0)]) rfl (hbd.do_ ) rfl ( x6 hbd.hE.hB hs7 hbd.hE.hd (.there hfV) (by have:=hEL;omega) (by decide) (by decide) (by decide) (by decide) hap) ?_
    rintro _ s8 ⟨_,hs8⟩
    refine Wn<|Wo<|Wj rfl rfl (bM<|by omega)<|Wv rfl<|Wn ?_
    have hstep:cr (oq,lq) h=(R0 oq k { oq k with Y6:=oP ((oq k).Y6+h.n) },lq):=by
     unfold cr
     rw[if_neg hz,if_pos (by rw[hid];show(0:Int)<((k+1:Nat):Int);omega),hid,show(Int.ofNat<|k+1).toNat-1=k from rfl]
    refine fin hstep (by rw[List.length_append];show Gg.length+1<=_;omega) hs8.tail (hI6.R0 rfl rfl rfl) (λj hj=>?_) aeo<|bq rfl
    show -999<=(R0 oq k _ j).Y6/\(R0 oq k _ j).Y6<=999
    by_cases e:j=k
    ·subst e;rw[cq];exact V0 _
    ·rw[dh oq _ e];exact adD j hj
   ·have hgt:binV .gtr (iv h.id) (iv 0)=some (.bool false):=by
     rw[aap,hid]
     rfl
    refine Ws<|Wb<|Wq<|Wr (.iaddrS rfl rfl (by omega)<|by decide)<|Wl (cs:=HT.row h) rfl (KL.mem hba) hrow rfl rfl<|Wa (.alloc rfl) λb6=>Ww<|Wt (s':=(b6,.r false [HT.row h] 3)::_) rfl rfl rfl .here rfl rfl<|Wn<|Wb ?_
    refine Wq<|Wf rfl<|Wl rfl .here rfl rfl rfl<|Wh rfl rfl heq<|Wv rfl<|Wn<|Wd rfl fS<|λ_=>?_
    refine Wq<|Wf rfl<|Wl rfl .here rfl rfl rfl<|Wj rfl rfl hgt<|Wv rfl<|Wn<|Wd rfl fS<|λ_=>?_
    refine Wq<|Wv rfl<|Wf rfl<|Wl rfl .here rfl rfl rfl ?_
    have hs7:aH bl Gg (dC oq n lq) ((b6,HO.r false [h.row] 3)::V) ((b6,HO.r false [h.row] 3)::s6):=KL.cons
    have uA:h.pl=.ofNat 1:=uA
    rw[uA]
    refine Ww<|W1 (aas hbd.hE hS.hP hs7 (.there hfV) (p:=1) (o:={ Zz with Zl:=lq }) rfl) ?_
    rintro _ s8 ⟨rfl,hs8⟩
    have hgn:binV .gtr (iv h.n) (iv 0)=some (.bool true):=by
     rw[aap]
     exact congrArg (λb=>some<|AV.bool b)<|decide_eq_true<|by omega
    have hneg:unV .neg (iv h.n)=some (iv<|-h.n):=by
     show Ev.mkI .i64 (0-h.n)=_
     rw[Int.zero_sub]
     exact@kD (mkSg (λ_=>0) (λ_=>.undef)<|λ_=>.deferred) (-h.n) (by omega)
    refine Wv rfl<|Wn<|Wd rfl (λ_=>?_) Dz
    refine Wq<|Wv rfl<|Wf rfl<|Wl rfl (hs8.mem .here) rfl rfl rfl<|Wf rfl<|Wl rfl (hs8.mem .here) rfl rfl rfl ?_
    refine Ww<|W1 (abh hbd hS.t3 hS.t4 hC.no (.there hfV) (hcV.mono λq hq=>by simp[hq]) hs8 hn0) ?_
    rintro _ s9 ⟨rfl,hs9⟩
    refine Wv rfl<|Wn ?_
    refine Wq<|Wv rfl<|Wj rfl rfl hgn<|Wn<|Wd rfl (λ_=>Wo<|Wv rfl<|Wf rfl<|Wl rfl (hs9.mem .here) rfl rfl rfl<|Wv rfl<|Wr (.un rfl hneg)<|Wr (.build (cs:=evRow (Int.ofNat 7) (HT.pl h) 0 (-HT.n h) 0 it0) rfl rfl) ?_) Dz
    have hap:Ap P K F 7 h.pl 0 (-h.n) 0 it0 (dC oq n lq) (dC oq n<|oP<|lq+-h.n):=by
     have hlq:-999<=lq/\lq<=999:=aeo
     have h5:=@acw P K F T hbd.hE.hB hS.hW.hU.hL.f264 hS.hR 1 { Zz with Zl:=lq } 0 (-h.n) 0 it0 (dC oq n lq) hbd.hE.hd hbd.hE.he rfl (by show -9223372036854775808<=lq+-h.n/\lq+-h.n<=9223372036854775807;omega)<|hc.cL _ (by omega)<|by omega
     rw[uA]
     exact@h5
    refine Ww<|WS.invoke (vs:=[AV.agg (evRow (Int.ofNat 7) (HT.pl h) 0 (-HT.n h) 0 it0)]) rfl (hbd.do_ ) rfl ( x6 hbd.hE.hB hs9 hbd.hE.hd (.there hfV) (by have:=hEL;omega) (by decide) (by decide) (by decide) (by decide) hap) ?_
    rintro _ s10 ⟨_,ahM⟩
    refine Wn<|Wo<|Wj rfl rfl (bM<|by omega)<|Wv rfl<|Wn ?_
    have hstep:cr (oq,lq) h=(oq,oP<|lq+-h.n):=by
     unfold cr
     rw[if_neg hz,if_neg (by rw[hid];omega)]
    exact fin hstep (by rw[List.length_append];show Gg.length+1<=_;omega) ahM.tail hI6 adD (V0 _)<|bq rfl
 have hlt:q<L.length:=Int.ofNat_lt.1<|of_decide_eq_true ht
 have hx:L[q]?=some L[q]:=List.getElem?_eq_getElem hlt
 have KP:L[q]∈L:=List.getElem_mem _
 have htk:L.take (q+1)=L.take q++[L[q]]:=by rw[List.take_add_one,hx];rfl
 generalize L[q]=x at hx KP htk
 have hsn:=aaN L (L.take q) x
 rw[<- htk]at hsn
 obtain⟨ba,ra,na,ca,J5,Sp,Ma,e4,hba,me,hra⟩:=agx.at (i:=q)<|by simpa[btR]using hlt
 have hrow:Ma[ra+q]?=some x.row:=by rw[hra,btR,List.getElem?_map,hx];rfl
 subst e4
 have hgt:binV .gtr (iv x.o.NP) (iv 0)=some (.bool<|decide<|0<x.o.NP):=aap _ _
 by_cases hat:0<x.o.NP
 ·rw[decide_eq_true hat]at hgt
  rw[if_pos hat]at hsn
  refine Ws<|Wb<|Wq<|Wr (.iaddrS rfl rfl (by omega)<|by decide)<|Wl (cs:=BT.row x) rfl (tn.mem<|.there<|.app<|.app hba) hrow rfl rfl<|Wa (.alloc rfl) λb4=>Ww<|Wt (s':=(b4,.r false [BT.row x] 17)::_) rfl rfl rfl .here rfl rfl<|Wn ?_
  refine Wq<|Wf rfl<|Wf rfl<|Wl rfl .here rfl rfl rfl<|Wj rfl rfl hgt<|Wn<|Wd rfl (λ_=>Wo<|Wv rfl<|Wl (cs:=BT.row x) rfl .here rfl rfl rfl ?_) Dz
  obtain⟨u,hu,ot⟩:=tn.split
  refine Ww<|WS.perm<|WS.pre (s':=(NQ,HO.r false [[lv,.slice (some ⟨ba,ra,0⟩) na ca J5 17]] 2)::(og++(((b4,HO.r false [x.row] 17)::j)++(u++W)))) (ak λc w h0 h1 h2 hq=>by have:=hq _ _ hu;simp only[h1,h2]at this |-;omega)<|W1 (adS (L:=L) hS.hW.hY hS.hP hB (hB x KP) (agx.mono λq hq=>List.mem_append_right _ hq) (by omega) (by have:=hlen q;omega) hG) ?_
  rintro _ s6 ⟨nw,A9,j2,hp6,xB⟩
  refine⟨_,hp6,?_⟩
  refine Wn<|Wo<|Wj rfl rfl (bM<|by omega)<|Wv rfl<|Wn ?_
  exact⟨L.length-(q+1),by omega,rfl,q+1,nw,A9,j2,rfl,hlt,(ot<|(NQ,HO.r false [[nw,.slice (some ⟨ba,ra,0⟩) na ca J5 17]] 2)::(A9++(j2++W))).perm (zt),by rw[hsn];exact xB,bq rfl⟩
 ·rw[decide_eq_false hat]at hgt
  rw[if_neg hat,List.append_nil]at hsn
  refine Ws<|Wb<|Wq<|Wr (.iaddrS rfl rfl (by omega)<|by decide)<|Wl (cs:=BT.row x) rfl (tn.mem<|.there<|.app<|.app hba) hrow rfl rfl<|Wa (.alloc rfl) λb4=>Ww<|Wt (s':=(b4,.r false [BT.row x] 17)::_) rfl rfl rfl .here rfl rfl<|Wn ?_
  refine Wq<|Wf rfl<|Wf rfl<|Wl rfl .here rfl rfl rfl<|Wj rfl rfl hgt<|Wn<|Wd rfl fS<|λ_=>Wi<|Wo<|Wj rfl rfl (bM<|by omega)<|Wv rfl<|Wn ?_
  exact⟨L.length-(q+1),by omega,rfl,q+1,lv,og,j,rfl,hlt,tn.bK (m:=[_]),by rw[hsn];exact hG,bq rfl⟩
def l8 (f:Nat->Int):Nat->Int
 | 0=>0
 | n+1=>l8 f n+f n
theorem t5 {f g:Nat->Int}:∀{n:Nat},(∀j,j<n->f j=g j)->l8 f n=l8 g n:=by
 intro n
 induction n with
 | zero=>intro _;rfl
 | succ n ih=>intro h;show l8 f n+f n=l8 g n+g n;rw[ih λj hj=>h j<|by omega,h n<|by omega]
theorem aaH (f g:Nat->Int):∀n,l8 (λj=>f j+g j) n=l8 f n+l8 g n:=by
 intro n
 induction n with
 | zero=>rfl
 | succ n ih=>show l8 (λj=>f j+g j) n+(f n+g n)=_;rw[ih];show _=l8 f n+f n+(l8 g n+g n);omega
theorem Sf {f:Nat->Int}{n:Nat}(h:∀j,j<n->f j=0):l8 f n=0:=by
 rw[t5 (g:=λ_=>0) h]
 induction n with
 | zero=>rfl
 | succ n ih=>show l8 (λ_=>0) n+0=0;rw[ih λj hj=>h j<|by omega];rfl
theorem acs {n k:Nat}(hk:k<n)(c:Int):l8 (λj=>if j=k then c else 0) n=c:=by
 induction n with
 | zero=>exact absurd hk<|Nat.not_lt_zero _
 | succ n ih=>
  show l8 _ n+(if n=k then c else 0)=c
  by_cases h:k=n
  ·subst h
   rw[if_pos rfl,Sf λj hj=>if_neg<|by omega]
   omega
  ·rw[if_neg (λe=>h e.symm),ih<|by omega]
   omega
theorem ad0 (f:Nat->Nat->Int):∀n m,l8 (λj=>l8 (λi=>f j i) m) n=l8 (λi=>l8 (λj=>f j i) n) m:=by
 intro n
 induction n with
 | zero=>intro m;exact(Sf λ_ _=>rfl).symm
 | succ n ih=>
  intro m
  show l8 (λj=>l8 (λi=>f j i) m) n+l8 (λi=>f n i) m=l8 (λi=>l8 (λj=>f j i) n+f n i) m
  rw[ih,aaH]
theorem aeB {o:Nat->OD}{n k:Nat}(hk:k<n)(x:OD):l8 (λj=>(R0 o k x j).Y6) n=l8 (λj=>(o j).Y6) n+(x.Y6-(o k).Y6):=by
 have h:l8 (λj=>(R0 o k x j).Y6) n=l8 (λj=>(o j).Y6+if j=k then x.Y6-(o k).Y6 else 0) n:=by
  refine t5 λj _=>?_
  by_cases e:j=k
  ·subst e;rw[cq,if_pos rfl];omega
  ·rw[dh o x e,if_neg e];omega
 rw[h,aaH,acs hk]
def Y3 (l:List HT):Int:=(l.map HT.n).sum
theorem aar (a b:List HT):Y3 (a++b)=Y3 a+Y3 b:=by
 unfold Y3
 rw[List.map_append,List.sum_append]
theorem acJ (a:HT)(b:List HT):Y3 (a::b)=a.n+Y3 b:=rfl
def tot (n:Nat)(st:(Nat->OD) × Int):Int:=20-st.2+l8 (λj=>(st.1 j).Y6) n
theorem wh {x:Int}(h:-999<=x/\x<=999):oP x=x:=by
 have e:oP x=mnI (uS x<|.negSucc 998) 999:=rfl
 rw[e,aaU,x7]
 omega
theorem adA {n:Nat}:∀(HL:List HT)(o:Nat->OD)(lf M:Int),(∀h∈HL,0<=h.n/\h.n<=6/\((∃k,k<n/\h.id=.ofNat (k+1))\/(h.id=0/\h.pl=1)))->(∀j,j<n->0<=(o j).Y6/\(o j).Y6<=M)->20-M<=lf/\lf<=20->M+6*(HL.length:Int)<=900 ->
  tot n (HL.foldl cr (o,lf))=tot n (o,lf)+Y3 HL:=by
 intro HL
 induction HL with
 | nil=>intro o lf M _ _ _ _;show _=_+0;rw[Int.add_zero];rfl
 | cons h HL ih=>
  intro o lf M hH ho hl hM
  rw[List.length_cons]at hM
  obtain⟨h0,h6,hw⟩:=hH h<|.head _
  rw[List.foldl_cons,acJ]
  have hr:=λx hx=>hH x<|.tail _ hx
  by_cases hz:h.n=0
  ·rw[show cr (o,lf) h=(o,lf)from if_pos hz,ih o lf M hr ho hl<|by omega,hz]
   omega
  ·rcases hw with⟨k,hk,hid⟩ | ⟨hid,_⟩
   ·have hok:=ho k hk
    have hstep:cr (o,lf) h=(R0 o k { o k with Y6:=(o k).Y6+h.n },lf):=by
     unfold cr
     rw[if_neg hz,if_pos (by rw[hid];show(0:Int)<((k+1:Nat):Int);omega),hid,show(Int.ofNat<|k+1).toNat-1=k from rfl,wh (by show -999<=(o k).Y6+h.n/\(o k).Y6+h.n<=999;omega)]
    rw[hstep,ih _ lf (M+6) hr (λj hj=>?_) (by omega)<|by omega]
    ·show 20-lf+l8 (λj=>(R0 o k _ j).Y6) n+Y3 HL=20-lf+l8 (λj=>(o j).Y6) n+(h.n+Y3 HL)
     rw[aeB hk]
     show 20-lf+(l8 (λj=>(o j).Y6) n+((o k).Y6+h.n-(o k).Y6))+Y3 HL=_
     omega
    ·by_cases e:j=k
     ·subst e;rw[cq];show 0<=(o j).Y6+h.n/\(o j).Y6+h.n<=_;omega
     ·rw[dh o _ e];have:=ho j hj;omega
   ·have hstep:cr (o,lf) h=(o,lf+-h.n):=by
     unfold cr
     rw[if_neg hz,if_neg (by rw[hid];omega),wh (by show -999<=lf+-h.n/\lf+-h.n<=999;omega)]
    rw[hstep,ih o _ (M+6) hr (λj hj=>by have:=ho j hj;omega) (by omega)<|by omega]
    show 20-(lf+-h.n)+l8 (λj=>(o j).Y6) n+Y3 HL=20-lf+l8 (λj=>(o j).Y6) n+(h.n+Y3 HL)
    omega
theorem adw (tr:Bool):∀(l:List BT)(a:Int),Y3 (nq tr a l).1=a-(nq tr a l).2:=by
 intro l
 induction l with
 | nil=>intro a;show(0:Int)=a-a;omega
 | cons y r ih=>
  intro a
  show(if(!r.isEmpty||tr)=true then mnI a (uS (y.c.t-y.o.Y6) 0)else a)+Y3 (nq tr (a-(if(!r.isEmpty||tr)=true then mnI a (uS (y.c.t-y.o.Y6) 0)else a)) r).1=a-(nq tr (a-(if(!r.isEmpty||tr)=true then mnI a (uS (y.c.t-y.o.Y6) 0)else a)) r).2
  rw[ih]
  omega
theorem acD:∀(l:List BT)(a:Int),l≠[]->(nq false a l).2=0:=by
 intro l
 induction l with
 | nil=>intro a h;exact absurd rfl h
 | cons y r ih=>
  intro a _
  cases r with
  | nil=>show a-a=0;omega
  | cons z r=>exact ih _<|by simp
theorem aeh (tr:Bool){n:Nat}:∀(l:List BT)(a:Int),0<=a->a<=6->(∀y∈l,∃k,k<n/\y.o.id=.ofNat (k+1))->(0<=(nq tr a l).2/\(nq tr a l).2<=6)/\(nq tr a l).1.length=l.length/\∀h∈(nq tr a l).1,0<=h.n/\h.n<=6/\∃k,k<n/\h.id=.ofNat (k+1):=by
 intro l
 induction l with
 | nil=>intro a h1 h2 _;exact⟨⟨h1,h2⟩,rfl,λh hh=>nomatch hh⟩
 | cons y r ih=>
  intro a h1 h2 hl
  have hnn:0<=(if(!r.isEmpty||tr)=true then mnI a (uS (y.c.t-y.o.Y6) 0)else a)/\(if(!r.isEmpty||tr)=true then mnI a (uS (y.c.t-y.o.Y6) 0)else a)<=a:=by
   split
   ·rw[aaU,x7];omega
   ·omega
  obtain⟨k1,k2,k3⟩:=ih (a-(if(!r.isEmpty||tr)=true then mnI a (uS (y.c.t-y.o.Y6) 0)else a)) (by omega) (by omega)<|λz hz=>hl z<|.tail _ hz
  refine⟨k1,by show(_::_:List HT).length=_;rw[List.length_cons,List.length_cons,k2],λh hh=>?_⟩
  rcases List.mem_cons.1 hh with rfl|hh
  ·exact⟨hnn.1,Int.le_trans hnn.2 h2,hl y<|.head _⟩
  ·exact k3 h hh
structure CI (o:Nat->OD)(n:Nat)(ps:Nat->Nat):Prop where
 I:OI o n
 own:∀j,j<n->(o j).aQ=.ofNat (ps j)
 Y6:∀j,j<n->(o j).Y6=0
 VK:∀j,j<n->(o j).VK=false
 att:∀j,j<n->(o j).NP=0\/((o j).NP=2/\ps j=0)
 iK:∀j,j<n->(o j).block=0\/(ps j=1/\∃k,k<n/\(o j).block=.ofNat (k+1)/\(o k).NP=2)
 stp:∀k,k<n->(o k).J9=true->∃j,j<n/\(o j).block=.ofNat (k+1)
def pw (C:List CD)(j:Nat):Int:=(chC C j).p
theorem aeX {o:Nat->OD}{C:List CD}(hp:∀j,0<=pw C j)(x:BT):∀n,Y3 ((byT ((List.range n).map (kj o C)) x).map λy=>⟨x.o.id,0,uS y.c.p 0⟩)=l8 (λi=>if(o i).block=x.o.id then pw C i else 0) n:=by
 intro n
 induction n with
 | zero=>rfl
 | succ n ih=>
  show _=l8 _ n+(if(o n).block=x.o.id then pw C n else 0)
  rw[<- ih]
  unfold byT
  rw[List.range_succ,List.map_append,List.filter_append,List.map_append,aar]
  congr 1
  show Y3 (((List.filter _ [kj o C n])).map _)=_
  rw[List.filter_cons]
  by_cases h:(o n).block=x.o.id
  ·rw[if_pos (show decide ((kj o C n).o.block=x.o.id)=true from decide_eq_true h),if_pos h]
   show uS (pw C n) 0+0=_
   have:=hp n
   rw[x7];omega
  ·rw[if_neg (show¬decide ((kj o C n).o.block=x.o.id)=true fromλe=>h<|of_decide_eq_true e),if_neg h]
   rfl
theorem agn {o:Nat->OD}{n:Nat}{C:List CD}{x:BT}{j:Nat}(hj:j<n)(h:(o j).block=x.o.id):byT ((List.range n).map (kj o C)) x≠[]:=by
 intro e
 have:kj o C j∈byT ((List.range n).map (kj o C)) x:=List.mem_filter.2 ⟨List.mem_map.2 ⟨j,List.mem_range.2 hj,rfl⟩,decide_eq_true h⟩
 rw[e]at this
 cases this
theorem aft {o:Nat->OD}{n:Nat}{C:List CD}{ps:Nat->Nat}(hC:CI o n ps)(hp:∀j,0<=pw C j){k:Nat}(hk:k<n):Y3 (ofT ((List.range n).map (kj o C)) (kj o C k))=pw C k+l8 (λi=>if(o i).block=.ofNat (k+1)then pw C i else 0) n:=by
 unfold ofT
 show Y3 ((nq _ _ _).1++(_++_))=_
 rw[aar,aar,aeX hp,adw,show(kj o C k).o.id=.ofNat (k+1)from hC.I.id k hk]
 have hpk:=hp k
 have hmx:uS (kj o C k).c.p 0=pw C k:=by show uS (pw C k) 0=_;rw[x7];omega
 rw[hmx]
 generalize hB:byT ((List.range n).map (kj o C)) (kj o C k)=B
 cases Y4:(!qa 8 (kj o C k).c.k) with
 | true=>
  show pw C k-(nq true (pw C k) B).2+(((nq true (pw C k) B).2+0)+_)=_
  omega
 | false=>
  cases B with
  | nil=>
   have hst:(kj o C k).o.J9=false:=by
    cases h:(o k).J9 with
    | false=>exact h
    | true=>
     obtain⟨j,hj,hb⟩:=hC.stp k hk h
     exact absurd hB<|agn hj (by rw[hb];exact(hC.I.id k hk).symm)
   rw[hst]
   show pw C k-pw C k+((pw C k+0)+_)=_
   omega
  | cons y r=>
   have h0:=acD (y::r) (pw C k)<|by simp
   rw[h0]
   show pw C k-0+(0+_)=_
   omega
theorem aek {o:Nat->OD}{n:Nat}{C:List CD}{ps:Nat->Nat}(hC:CI o n ps)(hp:∀j,0<=pw C j):∀q,q<=n->Y3 (lw ((List.range n).map (kj o C)) ((List.range q).map (kj o C)))=l8 (λk=>if 0<(o k).NP then pw C k+l8 (λi=>if(o i).block=.ofNat (k+1)then pw C i else 0) n else 0) q:=by
 intro q
 induction q with
 | zero=>intro _;rfl
 | succ q ih=>
  intro hq
  rw[List.range_succ,List.map_append]
  show Y3 (lw _<|_++[kj o C q])=l8 _ q+_
  rw[aaN,aar,ih<|by omega]
  congr 1
  show Y3 (if 0<(kj o C q).o.NP then _ else _)=if 0<(o q).NP then pw C q+l8 _ n else 0
  by_cases h:0<(o q).NP
  ·rw[if_pos h,if_pos<|show 0<(kj o C q).o.NP from h]
   exact aft hC hp<|by omega
  ·rw[if_neg h,if_neg<|show¬0<(kj o C q).o.NP from h]
   rfl
def gB (o:Nat->OD)(C:List CD)(j:Nat):Int:=if(o j).NP≠0\/(o j).block≠0 then pw C j else 0
theorem acG {o:Nat->OD}{n:Nat}{C:List CD}{ps:Nat->Nat}(hC:CI o n ps)(hp:∀j,0<=pw C j):Y3 (lw ((List.range n).map (kj o C)) ((List.range n).map (kj o C)))=l8 (gB o C) n:=by
 rw[aek hC hp n (Nat.le_refl _)]
 have h1:l8 (λk=>if 0<(o k).NP then pw C k+l8 (λi=>if(o i).block=.ofNat (k+1)then pw C i else 0) n else 0) n=l8 (λk=>(if 0<(o k).NP then pw C k else 0)+l8 (λi=>if 0<(o k).NP/\(o i).block=.ofNat (k+1)then pw C i else 0) n) n:=by
  refine t5 λk hk=>?_
  by_cases h:0<(o k).NP
  ·rw[if_pos h,if_pos h]
   congr 1
   exact t5 λi _=>by simp[h]
  ·rw[if_neg h,if_neg h,Sf λi _=>if_neg λe=>h e.1]
   rfl
 rw[h1,aaH,ad0]
 have h2:l8 (λi=>l8 (λk=>if 0<(o k).NP/\(o i).block=.ofNat (k+1)then pw C i else 0) n) n=l8 (λi=>if(o i).block≠0 then pw C i else 0) n:=by
  refine t5 λi hi=>?_
  rcases hC.iK i hi with h|⟨_,k,hk,hb,ha⟩
  ·rw[if_neg (by rw[h];simp),Sf λk _=>if_neg λe=>by
    rw[h]at e
    have:=e.2
    have:(0:Int)=((k+1:Nat):Int):=this
    omega]
  ·rw[if_pos (by rw[hb];show((k+1:Nat):Int)≠0;omega)]
   have:l8 (λj=>if 0<(o j).NP/\(o i).block=.ofNat (j+1)then pw C i else 0) n=l8 (λj=>if j=k then pw C i else 0) n:=by
    refine t5 λj _=>?_
    by_cases e:j=k
    ·subst e
     rw[if_pos rfl,if_pos ⟨by rw[ha];decide,hb⟩]
    ·rw[if_neg e,if_neg λh=>e ?_]
     have:=h.2
     rw[hb]at this
     have:=Int.ofNat.inj this
     omega
   rw[this,acs hk]
 rw[h2,<- aaH]
 refine t5 λj hj=>?_
 unfold gB
 rcases hC.att j hj with h|⟨h,hz⟩
 ·rw[if_neg (show¬0<(o j).NP by rw[h];decide),Int.zero_add]
  by_cases hb:(o j).block=0
  ·rw[if_neg (λe=>e hb),if_neg λe=>by rcases e with e | e;exact e h;exact e hb]
  ·rw[if_pos hb,if_pos<|.inr hb]
 ·rcases hC.iK j hj with hb | ⟨h1,_⟩
  ·rw[if_pos (show 0<(o j).NP by rw[h];decide),if_neg<|λe=>e hb,if_pos<|.inl (by rw[h];decide)];omega
  ·omega
theorem ack {o:Nat->OD}{n:Nat}{C:List CD}{ps:Nat->Nat}(hC:CI o n ps)(hp:∀j,0<=pw C j/\pw C j<=6)(hn:n<=8):(∀h∈lw ((List.range n).map (kj o C)) ((List.range n).map (kj o C)),0<=h.n/\h.n<=6/\((∃k,k<n/\h.id=.ofNat (k+1))\/(h.id=0/\h.pl=1)))/\(lw ((List.range n).map (kj o C)) ((List.range n).map (kj o C))).length<=136:=by
 have hid:∀y∈(List.range n).map (kj o C),∃k,k<n/\y.o.id=.ofNat (k+1)/\y=kj o C k:=by
  intro y hy
  obtain⟨k,hk,rfl⟩:=List.mem_map.1 hy
  exact⟨k,List.mem_range.1 hk,hC.I.id k<|List.mem_range.1 hk,rfl⟩
 generalize hL:(List.range n).map (kj o C)=L at hid
 have IH:L.length=n:=by rw[<- hL];simp
 have one:∀x∈L,0<x.o.NP->(∀h∈ofT L x,0<=h.n/\h.n<=6/\((∃k,k<n/\h.id=.ofNat (k+1))\/(h.id=0/\h.pl=1)))/\(ofT L x).length<=17:=by
  intro x hx ha
  obtain⟨kx,Ux,ahR,rfl⟩:=hid x hx
  have hB:∀y∈byT L (kj o C kx),∃k,k<n/\y.o.id=.ofNat (k+1)/\y=kj o C k:=λy hy=>hid y (List.mem_filter.1 hy).1
  have oZ:(byT L<|kj o C kx).length<=8:=Nat.le_trans (List.length_filter_le ..)<|by omega
  have hpx:0<=uS (kj o C kx).c.p 0/\uS (kj o C kx).c.p 0<=6:=by
   have:=hp kx
   show 0<=uS (pw C kx) 0/\uS (pw C kx) 0<=6
   rw[x7];omega
  obtain⟨d1,d2,d3⟩:=aeh (!qa 8 (kj o C kx).c.k) (n:=n) (byT L<|kj o C kx) _ hpx.1 hpx.2 (λy hy=>by obtain⟨k,h1,h2,_⟩:=hB y hy;exact⟨k,h1,h2⟩)
  have ael:(kj o C kx).o.NP-1=1:=by
   rcases hC.att kx Ux with h|⟨h,_⟩
   ·have ha:0<(o kx).NP:=ha
    omega
   ·show(o kx).NP-1=1
    rw[h];rfl
  unfold ofT
  refine⟨λh hh=>?_,?_⟩
  ·rcases List.mem_append.1 hh with hh | hh
   ·obtain⟨e1,e2,e3⟩:=d3 h hh
    exact⟨e1,e2,.inl e3⟩
   ·rcases List.mem_append.1 hh with hh | hh
    ·split at hh
     ·rw[List.mem_singleton.1 hh]
      exact⟨d1.1,d1.2,.inr ⟨rfl,ael⟩⟩
     ·cases hh
    ·obtain⟨y,hy,rfl⟩:=List.mem_map.1 hh
     obtain⟨k,hk,_,rfl⟩:=hB y hy
     have:=hp k
     refine⟨?_,?_,.inl ⟨kx,Ux,ahR⟩⟩
     ·show 0<=uS (pw C k) 0;rw[x7];omega
     ·show uS (pw C k) 0<=6;rw[x7];omega
  ·rw[List.length_append,List.length_append,List.length_map,d2]
   have:∀(b:Bool)(x:HT),(if b=true then [x] else([]:List HT)).length<=1:=λb x=>by cases b<;>simp
   have:=this (!qa 8 (kj o C kx).c.k||((byT L<|kj o C kx).isEmpty && !(kj o C kx).o.J9)) ⟨0,(kj o C kx).o.NP-1,(nq (!qa 8 (kj o C kx).c.k) (uS (kj o C kx).c.p 0)<|byT L<|kj o C kx).2⟩
   omega
 have all:∀M:List BT,(∀x∈M,x∈L)->(∀h∈lw L M,0<=h.n/\h.n<=6/\((∃k,k<n/\h.id=.ofNat (k+1))\/(h.id=0/\h.pl=1)))/\(lw L M).length<=17*M.length:=by
  intro M
  induction M with
  | nil=>intro _;exact⟨(λh hh=>nomatch hh),Nat.le_refl _⟩
  | cons x M ih=>
   intro hM
   obtain⟨i1,i2⟩:=ih λy hy=>hM y<|.tail _ hy
   have e:lw L (x::M)=(if 0<x.o.NP then ofT L x else [])++lw L M:=by
    unfold lw
    rw[List.filter_cons]
    by_cases h:0<x.o.NP
    ·rw[if_pos (decide_eq_true h),if_pos h];rfl
    ·rw[if_neg (λe=>h<|of_decide_eq_true e),if_neg h];rfl
   rw[e]
   by_cases h:0<x.o.NP
   ·obtain⟨o1,o2⟩:=one x (hM x<|.head _) h
    rw[if_pos h]
    refine⟨λy hy=>?_,by rw[List.length_append,List.length_cons];omega⟩
    rcases List.mem_append.1 hy with hy|hy
    ·exact o1 y hy
    ·exact i1 y hy
   ·rw[if_neg h]
    exact⟨i1,by rw[List.length_append,List.length_cons];show 0+_<=_;omega⟩
 obtain⟨a1,a2⟩:=all L λ_ h=>h
 exact⟨a1,by omega⟩
theorem adC {o:Nat->OD}{n:Nat}{C:List CD}{ps:Nat->Nat}(hC:CI o n ps)(hp:∀j,0<=pw C j/\pw C j<=6)(hn:n<=8):tot n ((lw ((List.range n).map (kj o C)) ((List.range n).map (kj o C))).foldl cr (o,20))=l8 (gB o C) n:=by
 obtain⟨h1,h2⟩:=ack hC hp hn
 rw[adA _ o 20 0 h1 (λj hj=>by rw[hC.Y6 j hj];omega) (by omega) (by omega),acG hC λj=>(hp j).1]
 show 20-20+l8 (λj=>(o j).Y6) n+_=_
 rw[Sf hC.Y6]
 omega
def agh:CF:=λF T=>(oN [zo 2 (.mv (zc 0))] (oN [zm 3 0,oF F 4 24 [3],oF F 5 25 [4],zm 2 5] .ret))
structure BaseK (P:Program)(K:Orc)(F:Nat->FuncId)(T:Nat->TypeId):Prop where
 f354:FnK P K (F 354) 6 [(.tmp 2)] (agh F T)
def adb:CF:=λF T=>(.seq (oN [zm 51 10,zm 52 9,zo 53 (.lenS 52),zo 54 (.arith .lss 51 53)] (.cond 54 .skip (.exit 2))) (.seq (.block 3 (oN [zm 58 5,zm 59 9,zm 60 10,zo 61 (.iaddrS 3 59 60),zf 62 1 61,zl 63 62,oF F 64 37 [58,63],zm 57 64,zo 65 (.extract 57 0),zo 66 (.extract 57 1),zo 11 (.alloc 14 dB),zn (.store 14 11 65),zm 12 66] (oN [zm 67 12,zo 68 (.un .not 67),zm 69 68,zg 70 (.faddr 3 11) 69 false,zg 71 (.load false 1 70) 69 false,zg 72 (.eql true .pi 71 (zc 0)) 69 false,zo 73 (.pick 69 (.const (.bool true)) 72),zm 74 73,zg 75 (.mv 9) 74 false,zg 76 (.mv 10) 74 false,zg 77 (.iaddrS 3 75 76) 74 false,zg 78 (.faddr 2 77) 74 false,zg 79 (.load false 1 78) 74 false,zg 80 (.eql true .pi 79 (zc 1)) 74 false,zo 81 (.pick 74 (.const (.bool true)) 80),zm 82 81,zg 83 (.faddr 5 11) 82 false,zg 84 (.load false 1 83) 82 false,zo 85 (.pick 82 (.const (.bool true)) 84),zm 86 85,zg 87 (.faddr 10 11) 86 false,zg 88 (.load false 1 87) 86 false,zg 89 (.eql true .pi 88 (zc 0)) 86 false,zo 90 (.pick 86 (.const (.bool true)) 89)] (.cond 90 (oN [zo 4 (.mv (.const (.bool false)))] .ret) .skip)))) (.ops [zm 55 10,zo 56 (.arith .add 55 (zc 1)),zm 10 56])))
def adc:CF:=λF T=>(.seq (oN [zm 94 14,zm 95 13,zo 96 (.lenS 95),zo 97 (.arith .lss 94 96)] (.cond 97 .skip (.exit 4))) (.seq (.block 5 (oN [zm 101 5,zm 102 13,zm 103 14,zo 104 (.iaddrS 3 102 103),zf 105 1 104,zl 106 105,oF F 107 37 [101,106],zm 100 107,zo 108 (.extract 100 0),zo 109 (.extract 100 1),zo 15 (.alloc 14 dB),zn (.store 14 15 108),zm 16 109] (oN [zm 111 5,zm 112 13,zm 113 14,zo 114 (.iaddrS 3 112 113),zf 115 2 114,zl 116 115,oF F 117 37 [111,116],zm 110 117,zo 118 (.extract 110 0),zo 119 (.extract 110 1),zo 17 (.alloc 14 dB),zn (.store 14 17 118),zm 18 119] (oN [zm 120 16,zo 121 (.un .not 120),zm 122 121,zg 123 (.mv 18) 122 false,zg 124 (.un .not 123) 122 false,zo 125 (.pick 122 (.const (.bool true)) 124),zm 126 125,zg 127 (.faddr 3 15) 126 false,zg 128 (.load false 1 127) 126 false,zg 129 (.eql true .pi 128 (zc 1)) 126 false,zo 130 (.pick 126 (.const (.bool true)) 129),zm 131 130,zg 132 (.faddr 10 17) 131 false,zg 133 (.load false 1 132) 131 false,zg 134 (.eql true .pi 133 (zc 2)) 131 false,zo 135 (.pick 131 (.const (.bool true)) 134),zm 136 135,zg 137 (.faddr 11 15) 136 false,zg 138 (.load false 1 137) 136 false,zg 139 (.eql true .pi 138 (zc 0)) 136 false,zo 140 (.pick 136 (.const (.bool true)) 139)] (.cond 140 (oN [zo 4 (.mv (.const (.bool false)))] .ret) .skip))))) (.ops [zm 98 14,zo 99 (.arith .add 98 (zc 1)),zm 14 99])))
def ada:CF:=λF T=>(.seq (oN [zm 36 7,zm 37 1,zo 38 (.lenS 37),zo 39 (.arith .lss 36 38),zm 40 39,zg 41 (.mv 7) 40 true,zg 42 (.arith .lss 41 (zc 12)) 40 true,zo 43 (.pick 40 42 (.const (.bool false)))] (.cond 43 .skip (.exit 0))) (.seq (.block 1 (oN [zm 46 5,oF F 47 354 [46],zm 8 47] (oN [zm 48 5,zo 49 (.mkif (T 26) 48),oF F 50 82 [49],zm 9 50] (.seq (oN [zo 10 (.mv (zc 0))] (.block 2 (.loop (adb F T)))) (oN [zm 91 5,zo 92 (.mkif (T 26) 91),oF F 93 32 [92,(zc 1)],zm 13 93] (.seq (oN [zo 14 (.mv (zc 0))] (.block 4 (.loop (adc F T)))) (.seq (oN [zm 141 5,oF F 142 354 [141],zm 143 8,zo 144 (.eql true .pi 142 143),zm 145 144,zg 146 (.mv 5) 145 false,zg 147 (.mkif (T 26) 146) 145 false,zg 148 (.call (.func (F 32)) [147,(zc 0)]) 145 false,zg 149 (.lenS 148) 145 false,zg 150 (.eql true .pi 149 (zc 0)) 145 false,zo 151 (.pick 145 (.const (.bool true)) 150)] (.cond 151 (oN [zo 4 (.mv (.const (.bool false)))] .ret) .skip)) (oN [zm 152 9,zo 153 (.lenS 152),zo 154 (.arith .gtr 153 (zc 0)),zm 155 154,zg 156 (.mv 1) 155 true,zg 157 (.mv 7) 155 true,zg 158 (.iaddrS 1 156 157) 155 true,zg 159 (.load false 1 158) 155 true,zg 160 (.arith .rem 159 (.const (.int .u8 (.ofNat 2)))) 155 true,zg 161 (.eql false .pi 160 (.const (.int .u8 (.ofNat 0)))) 155 true,zo 162 (.pick 155 161 (.const (.bool false)))] (.cond 162 (.ops [zm 163 5,zo 164 (.mkif (T 26) 163),zm 165 9,zm 166 1,zm 167 7,zo 168 (.iaddrS 1 166 167),zl 169 168,zo 170 (.arith .quo 169 (.const (.int .u8 (.ofNat 2)))),zo 171 (.convI .i64 170),zm 172 9,zo 173 (.lenS 172),zo 174 (.arith .rem 171 173),zo 175 (.iaddrS 3 165 174),zo 176 (.load true 3 175),oF F 177 83 [164,176]]) (oN [zm 178 13,zo 179 (.lenS 178),zo 180 (.arith .gtr 179 (zc 0))] (.cond 180 (.ops [zm 181 5,zo 182 (.mkif (T 26) 181),zm 183 13,zm 184 1,zm 185 7,zo 186 (.iaddrS 1 184 185),zl 187 186,zo 188 (.arith .quo 187 (.const (.int .u8 (.ofNat 2)))),zo 189 (.convI .i64 188),zm 190 13,zo 191 (.lenS 190),zo 192 (.arith .rem 189 191),zo 193 (.iaddrS 3 183 192),zo 194 (.load true 3 193),oF F 195 84 [182,194]]) .skip))))))))))) (.ops [zm 44 7,zo 45 (.arith .add 44 (zc 1)),zm 7 45])))
def ade:CF:=λF T=>(.seq (oN [zm 196 20,zm 197 6,zo 198 (.lenS 197),zo 199 (.arith .lss 196 198)] (.cond 199 .skip (.exit 6))) (.seq (.block 7 (oN [zm 203 5,zm 204 6,zm 205 20,zo 206 (.iaddrS 1 204 205),zl 207 206,oF F 208 37 [203,207],zm 202 208,zo 209 (.extract 202 0),zo 210 (.extract 202 1),zo 21 (.alloc 14 dB),zn (.store 14 21 209),zm 22 210] (oN [zm 212 5,zm 213 6,zm 214 20,zo 215 (.iaddrS 1 213 214),zl 216 215,oF F 217 30 [212,216],zm 211 217,zo 218 (.extract 211 0),zo 219 (.extract 211 1),zo 23 (.alloc 3 [(za 0),(za 0),(za 0)]),zn (.store 3 23 218),zm 24 219] (.seq (oN [zm 220 24,zo 221 (.un .not 220)] (.cond 221 (oN [zo 4 (.mv (.const (.bool false)))] .ret) .skip)) (oN [zf 222 10 21,zl 223 222,zo 224 (.eql true .pi 223 (zc 0)),zm 225 224,zg 226 (.faddr 11 21) 225 false,zg 227 (.load false 1 226) 225 false,zg 228 (.eql true .pi 227 (zc 0)) 225 false,zo 229 (.pick 225 (.const (.bool true)) 228)] (.cond 229 (.ops [zm 230 19,zf 231 0 23,zl 232 231,zo 233 (.arith .add 230 232),zm 19 233]) .skip)))))) (.ops [zm 200 20,zo 201 (.arith .add 200 (zc 1)),zm 20 201])))
def adf:CF:=λF T=>(.seq (oN [zm 241 26,zm 242 6,zo 243 (.lenS 242),zo 244 (.arith .lss 241 243)] (.cond 244 .skip (.exit 8))) (.seq (.block 9 (oN [zm 248 5,zm 249 6,zm 250 26,zo 251 (.iaddrS 1 249 250),zl 252 251,oF F 253 37 [248,252],zm 247 253,zo 254 (.extract 247 0),zo 255 (.extract 247 1),zo 27 (.alloc 14 dB),zn (.store 14 27 254),zm 28 255] (.ops [zm 256 25,zf 257 8 27,zl 258 257,zo 259 (.arith .add 256 258),zm 25 259]))) (.ops [zm 245 26,zo 246 (.arith .add 245 (zc 1)),zm 26 246])))
def acd:List bS:=[⟨(some 4),(.mv (.const (.bool false))),none⟩]
def adh (F:Nat->FuncId):List bS:=[⟨(some 30),(.mv (.tmp 0)),none⟩,⟨(some 31),(.call (.func (F 31)) [(.tmp 30)]),none⟩,⟨(some 29),(.mv (.tmp 31)),none⟩,⟨(some 32),(.extract (.tmp 29) 0),none⟩,⟨(some 33),(.extract (.tmp 29) 1),none⟩,⟨(some 5),(.mv (.tmp 32)),none⟩,⟨(some 6),(.mv (.tmp 33)),none⟩]
def ace:CF:=λF T=>(.seq (oN [zm 34 5,zo 35 (.eql false .ptr 34 (.const (.pointer none)))] (.cond 35 (oN [zo 4 (.mv (.const (.bool false)))] .ret) .skip)) (.seq (oN [zo 7 (.mv (zc 0))] (.block 0 (.loop (ada F T)))) (oN [zo 19 (.mv (zc 0))] (.seq (oN [zo 20 (.mv (zc 0))] (.block 6 (.loop (ade F T)))) (oN [zm 234 5,zo 235 (.mkif (T 26) 234),oF F 236 85 [235]] (oN [zm 237 5,oF F 238 43 [237,(zc 1)],zo 239 (.fld 0 1 false 238),zo 240 (.arith .sub (zc 20) 239),zm 25 240] (.seq (oN [zo 26 (.mv (zc 0))] (.block 8 (.loop (adf F T)))) (oN [zm 260 25,zm 261 19,zo 262 (.eql false .pi 260 261),zm 263 262,zg 264 (.mv 5) 263 true,zg 265 (.call (.func (F 43)) [264,(zc 0)]) 263 true,zg 266 (.fld 0 1 false 265) 263 true,zg 267 (.eql false .pi 266 (zc 20)) 263 true,zo 268 (.pick 263 267 (.const (.bool false))),zm 269 268,zg 270 (.call (.func (F 33)) []) 269 true,zo 271 (.pick 269 270 (.const (.bool false))),zm 4 271] .ret))))))))
theorem acg {o:Nat->OD}{n:Nat}{C:List CD}{ps:Nat->Nat}(hC:CI o n ps):∀x∈aan 0 1 ((List.range n).map (kj o C)),∃k,k<n/\x=⟨9,.ofNat (k+1),.ofNat 1⟩/\(o k).aQ=0/\(o k).NP=0/\(o k).RU=false:=by
 intro x hx
 obtain⟨y,hy,rfl⟩:=List.mem_map.1 hx
 obtain⟨h1,h2⟩:=List.mem_filter.1 hy
 obtain⟨k,hk,rfl⟩:=List.mem_map.1 h1
 have hk:=List.mem_range.1 hk
 unfold aae at h2
 simp only[Bool.and_eq_true,decide_eq_true_eq,Bool.not_eq_true']at h2
 exact⟨k,hk,by rw[show(kj o C k).o.id=.ofNat (k+1)from hC.I.id k hk],h2.1,h2.2.1,h2.2.2.1⟩
theorem ach {o:Nat->OD}{n:Nat}{C:List CD}{ps:Nat->Nat}(hC:CI o n ps):∀x∈gK 1 ((List.range n).map (kj o C)) ((List.range n).map (kj o C)),∃i k,i<n/\k<n/\x=⟨10,.ofNat (i+1),.ofNat (k+1)⟩/\(o i).aQ=1/\(o i).block=0/\(o k).NP=2:=by
 intro x hx
 obtain⟨y,hy,hx⟩:=List.mem_flatMap.1 hx
 obtain⟨i,hi,rfl⟩:=List.mem_map.1 hy
 have hi:=List.mem_range.1 hi
 split at hx
 ·rename_i hm
  unfold D1 at hx
  obtain⟨z,hz,rfl⟩:=List.mem_map.1 hx
  obtain⟨h1,h2⟩:=List.mem_filter.1 hz
  obtain⟨k,hk,rfl⟩:=List.mem_map.1 h1
  have hk:=List.mem_range.1 hk
  unfold aaf at hm
  unfold abs at h2
  simp only[Bool.and_eq_true,decide_eq_true_eq]at h2 hm
  exact⟨i,k,hi,hk,by rw[show(kj o C i).o.id=.ofNat (i+1)from hC.I.id i hi,show(kj o C k).o.id=.ofNat (k+1)from hC.I.id k hk],hm.1,hm.2.2,h2.1⟩
 ·cases hx
theorem aaS (hB:Base P K F T)(hL:BaseM P K F T)(hM:BaseK P K F T)(hs:aH bl EL d t s)(hf:Has bf (.r false [bu bl aZ c0 c1 c2 c3 c4 bE] 8) t) :
  bB P K (F 354) [.ptr (some ⟨bf,0,0⟩)] s (λv s'=>v=iv (.ofNat EL.length)/\aH bl EL d t s'):=by
 refine hM.f354.dT ?_
 unfold agh
 refine Wq<|Wv rfl<|Wn ?_
 refine Wq<|Wv rfl ?_
 refine Ww<|W1 (iT hB<|hs.mem hf) ?_
 rintro _ _ ⟨rfl,rfl⟩
 refine Ww<|W1 (pS hL hs) ?_
 rintro _ s2 ⟨rfl,dt⟩
 refine Wv rfl<|Wn<|We<|Wm (.tmp rfl .nil) ?_
 exact⟨rfl,dt⟩
theorem adO (hS:LawS P K F T){n:Nat}{kc:Nat->Int}(hC:rq C n kc)(hn:n<=8){o:Nat->OD}{ps:Nat->Nat}(hI:CI o n ps){m:SH}{cv va ids:AV}{i mk:Nat}(hf:Has bf (.r false [bu bl aZ c0 c1 c2 c3 c4 bE] 8) t)(hs:aH bl EL (dC o n 20) (m++t) s)(hA:Src m 3 va (otR (aan 0 1 ((List.range n).map (kj o C)))))
  (hl:∀y w,lk [(1,cv),(5,.ptr<|some ⟨bf,0,0⟩),(6,ids),(7,iv<|.ofNat i),(8,iv<|.ofNat mk),(9,va)] y=some w->lk l y=some w)
  (hk:∀l2 s2,aH bl EL (dC o n 20) (m++t) s2->(∀y w,lk [(1,cv),(5,.ptr<|some ⟨bf,0,0⟩),(6,ids),(7,iv<|.ofNat i),(8,iv<|.ofNat mk),(9,va)] y=some w->lk l2 y=some w)->Qn l2 [] s2) :
  WP P K none 272 (oN [zo 10 (.mv<|zc 0)]<|.block 2<|.loop<|adb F T) l [] s Qn Qe Qr:=by
 have hbd:=hS.bd hC hn hI.I 20
 have hmem:=acg (C:=C) hI
 have acl:=abq 0 1<|(List.range n).map (kj o C)
 rw[List.length_map,List.length_range]at acl
 generalize aan 0 1 ((List.range n).map (kj o C))=A at hA hmem acl
 have hla:lenOf va=some A.length:=by rw[hA.lenOf];simp[otR]
 refine Wg hl (λ_ _ h=>h) ?_
 refine Wq<|Wv rfl<|Wn<|Wb ?_
 unfold adb
 refine Wp (λkk l ds s'=>ds=[]/\∃q,kk=A.length-q/\q<=A.length/\aH bl EL (dC o n 20) (m++t) s'/\∀y w,lk [(1,cv),(5,.ptr<|some ⟨bf,0,0⟩),(6,ids),(7,iv<|.ofNat i),(8,iv<|.ofNat mk),(9,va),(10,iv<|.ofNat q)] y=some w->lk l y=some w) ?_ (n:=A.length-0)
  ⟨rfl,0,rfl,Nat.zero_le _,hs,bq rfl⟩
 rintro kk l ds s3 ⟨rfl,q,rfl,hq,gw,hl⟩
 refine Wg hl (λ_ _ h=>h) ?_
 refine Ws<|Wq<|Wv rfl<|Wv rfl<|Wr (.lenS rfl hla)<|Wj rfl rfl (eT _ _)<|Wn<|Wd rfl (λht=>Wi ?_)<|λht=>Wx ?_
 rotate_left
 ·exact hk _ _ gw<|bq rfl
 have hlt:q<A.length:=Int.ofNat_lt.1<|of_decide_eq_true ht
 have hx:A[q]?=some A[q]:=List.getElem?_eq_getElem hlt
 obtain⟨k,hk2,Zd,hct,hat,htp⟩:=hmem A[q] (List.getElem_mem _)
 rw[Zd]at hx
 obtain⟨ba,ra,na,ca,J5,Sp,Ma,e4,hba,me,hra⟩:=hA.at (i:=q)<|by simpa[otR]using hlt
 have hrow:Ma[ra+q]?=some (⟨9,.ofNat<|k+1,.ofNat 1⟩:OT).row:=by rw[hra,otR,List.getElem?_map,hx];rfl
 subst e4
 obtain⟨_,_,aaP⟩:=qc hI.I 20 hk2
 refine Ws<|Wb<|Wq<|Wv rfl<|Wv rfl<|Wv rfl<|Wr (.iaddrS rfl rfl (by omega)<|by decide)<|Wf rfl<|Wl rfl (gw.mem<|.left hba) hrow rfl rfl ?_
 refine Ww<|W1 (Qq hbd.hE.hB hbd.hE.hC gw hbd.hE.hd<|.app hf) ?_
 rintro _ s4 ⟨hv,pM⟩
 rw[aaP]at hv
 subst hv
 have h1:eqBy 20 .pi (iv (o k).aQ) (iv 0)=some true:=by rw[bb,hct];rfl
 have h2:eqBy 20 .pi (iv (o k).NP) (iv 0)=some true:=by rw[bb,hat];rfl
 have Se:bV 1 (cu 5 (o k).row)=some [.bool false]:=by show some [AV.bool (o k).RU]=_;rw[htp]
 have ahw:Has ba (.r Sp Ma 3) s4:=pM.mem<|.left hba
 refine Wv rfl<|Wr (.extract rfl rfl)<|Wr (.extract rfl rfl)<|Wa (.alloc rfl) λb11=>Ww<|Wt (s':=(b11,.r false [OD.row (o k)] 14)::_) rfl rfl rfl .here rfl rfl<|Wv rfl<|Wn ?_
 refine Wq<|Wv rfl<|Wr (.un rfl rfl)<|Wv rfl<|Wy<|Wf rfl<|Wy<|Wl rfl .here rfl rfl rfl<|Wy<|Wh rfl rfl h1<|Wr (.bj rfl rfl)<|Wv rfl<|Wy<|Wv rfl<|Wy<|Wv rfl<|Wy<|Wr (.iaddrS rfl rfl (by omega)<|by decide)<|Wy<|Wf rfl<|Wy<|Wl rfl (.there ahw) hrow rfl rfl<|Wy<|Wh (b:=true) rfl rfl rfl<|Wr (.bj rfl rfl)<|Wv rfl<|Wy<|Wf rfl<|Wy<|Wl rfl .here rfl Se rfl<|Wr (.bj rfl rfl)<|Wv rfl<|Wy<|Wf rfl<|Wy<|Wl rfl .here rfl rfl rfl<|Wy<|Wh rfl rfl h2<|Wr (.bj rfl rfl)<|Wn<|Wd rfl fS<|λ_=>Wi<|Wo<|Wv rfl<|Wj rfl rfl (bM<|by omega)<|Wv rfl<|Wn ?_
 exact⟨A.length-(q+1),by omega,rfl,q+1,rfl,hlt,pM.bK (m:=[_]),bq rfl⟩
theorem adP (hS:LawS P K F T){n:Nat}{kc:Nat->Int}(hC:rq C n kc)(hn:n<=8){o:Nat->OD}{ps:Nat->Nat}(hI:CI o n ps){m:SH}{cv va vb ids:AV}{i mk:Nat}(hf:Has bf (.r false [bu bl aZ c0 c1 c2 c3 c4 bE] 8) t)(hs:aH bl EL (dC o n 20) (m++t) s)(hA:Src m 3 vb (otR (gK 1 ((List.range n).map (kj o C)) ((List.range n).map (kj o C)))))
  (hl:∀y w,lk [(1,cv),(5,.ptr<|some ⟨bf,0,0⟩),(6,ids),(7,iv<|.ofNat i),(8,iv<|.ofNat mk),(9,va),(13,vb)] y=some w->lk l y=some w)
  (hk:∀l2 s2,aH bl EL (dC o n 20) (m++t) s2->(∀y w,lk [(1,cv),(5,.ptr<|some ⟨bf,0,0⟩),(6,ids),(7,iv<|.ofNat i),(8,iv<|.ofNat mk),(9,va),(13,vb)] y=some w->lk l2 y=some w)->Qn l2 [] s2) :
  WP P K none 272 (oN [zo 14 (.mv<|zc 0)]<|.block 4<|.loop<|adc F T) l [] s Qn Qe Qr:=by
 have hbd:=hS.bd hC hn hI.I 20
 have hmem:=ach (C:=C) hI
 have acl:(gK 1 ((List.range n).map (kj o C))<|(List.range n).map (kj o C)).length<=1000:=by
  have:=aaA 1 8 (L:=(List.range n).map (kj o C)) (by simpa using hn)<|(List.range n).map (kj o C)
  rw[List.length_map,List.length_range]at this
  omega
 generalize gK 1 ((List.range n).map (kj o C)) ((List.range n).map (kj o C))=A at hA hmem acl
 have hla:lenOf vb=some A.length:=by rw[hA.lenOf];simp[otR]
 refine Wg hl (λ_ _ h=>h) ?_
 refine Wq<|Wv rfl<|Wn<|Wb ?_
 unfold adc
 refine Wp (λkk l ds s'=>ds=[]/\∃q,kk=A.length-q/\q<=A.length/\aH bl EL (dC o n 20) (m++t) s'/\∀y w,lk [(1,cv),(5,.ptr<|some ⟨bf,0,0⟩),(6,ids),(7,iv<|.ofNat i),(8,iv<|.ofNat mk),(9,va),(13,vb),(14,iv<|.ofNat q)] y=some w->lk l y=some w) ?_ (n:=A.length-0)
  ⟨rfl,0,rfl,Nat.zero_le _,hs,bq rfl⟩
 rintro kk l ds s3 ⟨rfl,q,rfl,hq,gw,hl⟩
 refine Wg hl (λ_ _ h=>h) ?_
 refine Ws<|Wq<|Wv rfl<|Wv rfl<|Wr (.lenS rfl hla)<|Wj rfl rfl (eT _ _)<|Wn<|Wd rfl (λht=>Wi ?_)<|λht=>Wx ?_
 rotate_left
 ·exact hk _ _ gw<|bq rfl
 have hlt:q<A.length:=Int.ofNat_lt.1<|of_decide_eq_true ht
 have hx:A[q]?=some A[q]:=List.getElem?_eq_getElem hlt
 obtain⟨k,j,hk2,hj2,Zd,hct,Cs,hat⟩:=hmem A[q] (List.getElem_mem _)
 rw[Zd]at hx
 obtain⟨ba,ra,na,ca,J5,Sp,Ma,e4,hba,me,hra⟩:=hA.at (i:=q)<|by simpa[otR]using hlt
 have hrow:Ma[ra+q]?=some (⟨10,.ofNat<|k+1,.ofNat<|j+1⟩:OT).row:=by rw[hra,otR,List.getElem?_map,hx];rfl
 subst e4
 obtain⟨_,_,aaP⟩:=qc hI.I 20 hk2
 obtain⟨_,_,adI⟩:=qc hI.I 20 hj2
 refine Ws<|Wb<|Wq<|Wv rfl<|Wv rfl<|Wv rfl<|Wr (.iaddrS rfl rfl (by omega)<|by decide)<|Wf rfl<|Wl rfl (gw.mem<|.left hba) hrow rfl rfl ?_
 refine Ww<|W1 (Qq hbd.hE.hB hbd.hE.hC gw hbd.hE.hd<|.app hf) ?_
 rintro _ s4 ⟨hv,pM⟩
 rw[aaP]at hv
 subst hv
 refine Wv rfl<|Wr (.extract rfl rfl)<|Wr (.extract rfl rfl)<|Wa (.alloc rfl) λb15=>Ww<|Wt (s':=(b15,.r false [OD.row (o k)] 14)::_) rfl rfl rfl .here rfl rfl<|Wv rfl<|Wn ?_
 refine Wq<|Wv rfl<|Wv rfl<|Wv rfl<|Wr (.iaddrS rfl rfl (by omega)<|by decide)<|Wf rfl<|Wl rfl (.there<|pM.mem<|.left hba) hrow rfl rfl ?_
 have tn:aH bl EL (dC o n 20) ((b15,HO.r false [(o k).row] 14)::(m++t)) ((b15,HO.r false [(o k).row] 14)::s4):=pM.cons
 refine Ww<|W1 (Qq hbd.hE.hB hbd.hE.hC tn hbd.hE.hd<|.there<|.app hf) ?_
 rintro _ s6 ⟨hv,KL⟩
 rw[adI]at hv
 subst hv
 have h1:eqBy 20 .pi (iv (o k).aQ) (iv 1)=some true:=by rw[bb,hct];rfl
 have h2:eqBy 20 .pi (iv (o k).block) (iv 0)=some true:=by rw[bb,Cs];rfl
 have h3:eqBy 20 .pi (iv (o j).NP) (iv 2)=some true:=by rw[bb,hat];rfl
 refine Wv rfl<|Wr (.extract rfl rfl)<|Wr (.extract rfl rfl)<|Wa (.alloc rfl) λb17=>Ww<|Wt (s':=(b17,.r false [OD.row (o j)] 14)::_) rfl rfl rfl .here rfl rfl<|Wv rfl<|Wn ?_
 refine Wq<|Wv rfl<|Wr (.un rfl rfl)<|Wv rfl<|Wy<|Wv rfl<|Wy<|Wr (.un rfl rfl)<|Wr (.bj rfl rfl)<|Wv rfl<|Wy<|Wf rfl<|Wy<|Wl rfl (.there<|KL.mem .here) rfl rfl rfl<|Wy<|Wh rfl rfl h1<|Wr (.bj rfl rfl)<|Wv rfl<|Wy<|Wf rfl<|Wy<|Wl rfl .here rfl rfl rfl<|Wy<|Wh rfl rfl h3<|Wr (.bj rfl rfl)<|Wv rfl<|Wy<|Wf rfl<|Wy<|Wl rfl (.there<|KL.mem .here) rfl rfl rfl<|Wy<|Wh rfl rfl h2<|Wr (.bj rfl rfl)<|Wn<|Wd rfl fS<|λ_=>Wi<|Wo<|Wv rfl<|Wj rfl rfl (bM<|by omega)<|Wv rfl<|Wn ?_
 exact⟨A.length-(q+1),by omega,rfl,q+1,rfl,hlt,(KL.tail).bK (m:=[_]),bq rfl⟩
theorem CI.atk {o:Nat->OD}{n k:Nat}{ps:Nat->Nat}(h:CI o n ps)(hk:k<n)(hct:(o k).aQ=0){x:OD}(hx:x={ o k with NP:=2 }\/x={ o k with NP:=2,RU:=true }):CI (R0 o k x) n ps:=by
 have hp:ps k=0:=Int.ofNat.inj<|(h.own k hk).symm.trans hct
 have e:x.id=(o k).id/\x.gE=(o k).gE/\x.ci=(o k).ci/\x.aQ=(o k).aQ/\x.Y6=(o k).Y6/\x.VK=(o k).VK/\x.NP=2/\x.block=(o k).block/\x.J9=(o k).J9:=by
  rcases hx with rfl|rfl<;>exact⟨rfl,rfl,rfl,rfl,rfl,rfl,rfl,rfl,rfl⟩
 obtain⟨e1,e2,e3,e4,e5,e6,e7,e8,e9⟩:=e
 have hb:∀j,(R0 o k x j).block=(o j).block:=λj=>by
  by_cases e:j=k
  ·subst e;rw[cq,e8]
  ·rw[dh o x e]
 refine⟨h.I.R0 e1 e2 e3,λj hj=>?_,λj hj=>?_,λj hj=>?_,λj hj=>?_,λj hj=>?_,λj hj hst=>?_⟩
 ·by_cases e:j=k
  ·subst e;rw[cq,e4];exact h.own j hj
  ·rw[dh o x e];exact h.own j hj
 ·by_cases e:j=k
  ·subst e;rw[cq,e5];exact h.Y6 j hj
  ·rw[dh o x e];exact h.Y6 j hj
 ·by_cases e:j=k
  ·subst e;rw[cq,e6];exact h.VK j hj
  ·rw[dh o x e];exact h.VK j hj
 ·by_cases e:j=k
  ·subst e;rw[cq];exact .inr ⟨e7,hp⟩
  ·rw[dh o x e];exact h.att j hj
 ·rw[hb]
  rcases h.iK j hj with h1|⟨h1,q,hq,h2,h3⟩
  ·exact .inl h1
  ·refine .inr ⟨h1,q,hq,h2,?_⟩
   by_cases e:q=k
   ·subst e;rw[cq];exact e7
   ·rw[dh o x e];exact h3
 ·have hst:(o j).J9=true:=by
   by_cases e:j=k
   ·subst e;rw[cq,e9]at hst;exact hst
   ·rw[dh o x e]at hst;exact hst
  obtain⟨q,hq,h2⟩:=h.stp j hj hst
  exact⟨q,hq,by rw[hb];exact h2⟩
theorem CI.ahe {o:Nat->OD}{n i k:Nat}{ps:Nat->Nat}(h:CI o n ps)(hi:i<n)(hk:k<n)(hct:(o i).aQ=1)(hb0:(o i).block=0)(hat:(o k).NP=2):CI (R0 o i { o i with block:=.ofNat (k+1) }) n ps:=by
 have hp:ps i=1:=Int.ofNat.inj<|(h.own i hi).symm.trans hct
 generalize hx:({ o i with block:=.ofNat (k+1) }:OD)=x
 have e:x.id=(o i).id/\x.gE=(o i).gE/\x.ci=(o i).ci/\x.aQ=(o i).aQ/\x.Y6=(o i).Y6/\x.VK=(o i).VK/\x.NP=(o i).NP/\x.block=.ofNat (k+1)/\x.J9=(o i).J9:=by
  rw[<- hx];exact⟨rfl,rfl,rfl,rfl,rfl,rfl,rfl,rfl,rfl⟩
 obtain⟨e1,e2,e3,e4,e5,e6,e7,e8,e9⟩:=e
 have ha:∀j,(R0 o i x j).NP=(o j).NP:=λj=>by
  by_cases e:j=i
  ·subst e;rw[cq,e7]
  ·rw[dh o x e]
 refine⟨h.I.R0 e1 e2 e3,λj hj=>?_,λj hj=>?_,λj hj=>?_,λj hj=>?_,λj hj=>?_,λj hj hst=>?_⟩
 ·by_cases e:j=i
  ·subst e;rw[cq,e4];exact h.own j hj
  ·rw[dh o x e];exact h.own j hj
 ·by_cases e:j=i
  ·subst e;rw[cq,e5];exact h.Y6 j hj
  ·rw[dh o x e];exact h.Y6 j hj
 ·by_cases e:j=i
  ·subst e;rw[cq,e6];exact h.VK j hj
  ·rw[dh o x e];exact h.VK j hj
 ·rw[ha];exact h.att j hj
 ·by_cases e:j=i
  ·subst e;rw[cq,e8];exact .inr ⟨hp,k,hk,rfl,by rw[ha];exact hat⟩
  ·rw[dh o x e]
   rcases h.iK j hj with h1|⟨h1,q,hq,h2,h3⟩
   ·exact .inl h1
   ·exact .inr ⟨h1,q,hq,h2,by rw[ha];exact h3⟩
 ·have hst:(o j).J9=true:=by
   by_cases e:j=i
   ·subst e;rw[cq,e9]at hst;exact hst
   ·rw[dh o x e]at hst;exact hst
  obtain⟨q,hq,h2⟩:=h.stp j hj hst
  refine⟨q,hq,?_⟩
  by_cases e:q=i
  ·subst e
   rw[hb0]at h2
   have:(0:Int)=((j+1:Nat):Int):=h2
   omega
  ·rw[dh o x e];exact h2
theorem CI.stop {o:Nat->OD}{n i k:Nat}{ps:Nat->Nat}(h:CI o n ps)(hi:i<n)(hk:k<n)(hb:(o i).block=.ofNat (k+1)):CI (R0 o k { o k with J9:=true }) n ps:=by
 generalize hx:({ o k with J9:=true }:OD)=x
 have e:x.id=(o k).id/\x.gE=(o k).gE/\x.ci=(o k).ci/\x.aQ=(o k).aQ/\x.Y6=(o k).Y6/\x.VK=(o k).VK/\x.NP=(o k).NP/\x.block=(o k).block:=by
  rw[<- hx];exact⟨rfl,rfl,rfl,rfl,rfl,rfl,rfl,rfl⟩
 obtain⟨e1,e2,e3,e4,e5,e6,e7,e8⟩:=e
 have f:∀{α:Type}(g:OD->α),g x=g (o k)->∀j,g (R0 o k x j)=g (o j):=λg hg j=>by
  by_cases e:j=k
  ·subst e;rw[cq,hg]
  ·rw[dh o x e]
 refine⟨h.I.R0 e1 e2 e3,λj hj=>by rw[f OD.aQ e4];exact h.own j hj,λj hj=>by rw[f OD.Y6 e5];exact h.Y6 j hj,λj hj=>by rw[f OD.VK e6];exact h.VK j hj,λj hj=>by rw[f OD.NP e7];exact h.att j hj,λj hj=>?_,λj hj hst=>?_⟩
 ·rw[f OD.block e8]
  rcases h.iK j hj with h1|⟨h1,q,hq,h2,h3⟩
  ·exact .inl h1
  ·exact .inr ⟨h1,q,hq,h2,by rw[f OD.NP e7];exact h3⟩
 ·by_cases e:j=k
  ·subst e;exact⟨i,hi,by rw[f OD.block e8];exact hb⟩
  ·rw[dh o x e]at hst
   obtain⟨q,hq,h2⟩:=h.stp j hj hst
   exact⟨q,hq,by rw[f OD.block e8];exact h2⟩
structure aeT (t:SH)(cv:AV)(CL:List (List AV)):Prop where
 len:lenOf cv=some CL.length
 at':0<CL.length->∃rb cap sl,cv=.slice (some ⟨rb,0,0⟩) CL.length cap sl 1/\Has rb (.r true CL 1) t
 b:∀i,i<CL.length->∃x:Nat,x<=255/\CL[i]?=some [.int .u8 (.ofNat x)]
theorem agN {a:Nat}(h:a<=255):binV .quo (.int .u8 (.ofNat a)) (.int .u8 (.ofNat 2))=some (.int .u8 (.ofNat (a/2))):=by
 show force (Nat.mod (Nat.div a 2) 256) (λm=>some<|AV.int .u8<|.ofNat m)=_
 rw[aL,show Nat.mod (Nat.div a 2) 256=a/2 from Nat.mod_eq_of_lt<|show a/2<256 by omega]
theorem aco {a b:Nat}(h:a<b):binV .lss (iv (.ofNat a)) (iv (.ofNat b))=some (.bool true):=by
 have:=eT (.ofNat a)<|.ofNat b
 rw[show decide (Int.ofNat a<Int.ofNat b)=true from decide_eq_true<|Int.ofNat_lt.2 h]at this
 exact this
theorem acn {a b:Nat}(h:¬a<b):binV .lss (iv (.ofNat a)) (iv (.ofNat b))=some (.bool false):=by
 have:=eT (.ofNat a)<|.ofNat b
 rw[show decide (Int.ofNat a<Int.ofNat b)=false from decide_eq_false λe=>h<|Int.ofNat_lt.1 e]at this
 exact this
theorem aeM {a:Nat}(h:0<a):binV .gtr (iv (.ofNat a)) (iv 0)=some (.bool true):=by
 rw[aap,show decide ((0:Int)<Int.ofNat a)=true from decide_eq_true<|Int.ofNat_lt.2 h]
theorem aeW {o:Nat->OD}{n:Nat}{C:List CD}{ps:Nat->Nat}(hI:CI o n ps):gK 0 ((List.range n).map (kj o C)) ((List.range n).map (kj o C))=[]:=by
 unfold gK
 refine List.flatMap_eq_nil_iff.2 λx _=>?_
 split
 ·unfold D1
  rw[List.filter_eq_nil_iff.2 λy hy=>?_,List.map_nil]
  obtain⟨k,hk,rfl⟩:=List.mem_map.1 hy
  have hk:=List.mem_range.1 hk
  unfold abs
  rw[show decide ((kj o C k).o.NP=.ofNat (0+1))=false from decide_eq_false (by
   show¬(o k).NP=1
   rcases hI.att k hk with h|⟨h,_⟩<;>rw[h]<;>decide)]
  simp
 ·rfl
def adg:CF:=λF T=>(oN [zm 178 13,zo 179 (.lenS 178),zo 180 (.arith .gtr 179 (zc 0))] (.cond 180 (.ops [zm 181 5,zo 182 (.mkif (T 26) 181),zm 183 13,zm 184 1,zm 185 7,zo 186 (.iaddrS 1 184 185),zl 187 186,zo 188 (.arith .quo 187 (.const (.int .u8 (.ofNat 2)))),zo 189 (.convI .i64 188),zm 190 13,zo 191 (.lenS 190),zo 192 (.arith .rem 189 191),zo 193 (.iaddrS 3 183 192),zo 194 (.load true 3 193),oF F 195 84 [182,194]]) .skip))
def aeF:CF:=λF T=>(oN [zm 152 9,zo 153 (.lenS 152),zo 154 (.arith .gtr 153 (zc 0)),zm 155 154,zg 156 (.mv 1) 155 true,zg 157 (.mv 7) 155 true,zg 158 (.iaddrS 1 156 157) 155 true,zg 159 (.load false 1 158) 155 true,zg 160 (.arith .rem 159 (.const (.int .u8 (.ofNat 2)))) 155 true,zg 161 (.eql false .pi 160 (.const (.int .u8 (.ofNat 0)))) 155 true,zo 162 (.pick 155 161 (.const (.bool false)))] (.cond 162 (.ops [zm 163 5,zo 164 (.mkif (T 26) 163),zm 165 9,zm 166 1,zm 167 7,zo 168 (.iaddrS 1 166 167),zl 169 168,zo 170 (.arith .quo 169 (.const (.int .u8 (.ofNat 2)))),zo 171 (.convI .i64 170),zm 172 9,zo 173 (.lenS 172),zo 174 (.arith .rem 171 173),zo 175 (.iaddrS 3 165 174),zo 176 (.load true 3 175),oF F 177 83 [164,176]]) (adg F T)))
theorem acf (hS:LawS P K F T)(hc:aay P K F){n:Nat}{kc:Nat->Int}(hC:rq C n kc)(hn:n<=8){o:Nat->OD}{ps:Nat->Nat}(hI:CI o n ps){rb cap i x:Nat}{sl:Bool}{vb ids:AV}{CL:List (List AV)}(hrb:Has rb (.r true CL 1) t)(uB:CL[0+i]?=some [.int .u8 (.ofNat x)])(hx:x<=255)(hlt:i<CL.length)(hEL:EL.length<=900)(hf:Has bf (.r false [bu bl aZ c0 c1 c2 c3 c4 bE] 8) t)(eQ:cI t aZ C)(hs:aH bl EL (dC o n 20) t s)(hB:Src t 3 vb (otR (gK 1 ((List.range n).map (kj o C)) ((List.range n).map (kj o C)))))
  (hl:∀y w,lk [(1,.slice (some ⟨rb,0,0⟩) CL.length cap sl 1),(5,.ptr<|some ⟨bf,0,0⟩),(6,ids),(7,iv<|.ofNat i),(13,vb)] y=some w->lk l y=some w)
  (hk:∀l2 s2 o2 Gg,(∀y w,lk [(1,.slice (some ⟨rb,0,0⟩) CL.length cap sl 1),(5,.ptr<|some ⟨bf,0,0⟩),(6,ids),(7,iv<|.ofNat i)] y=some w->lk l2 y=some w)->Gg.length<=EL.length+2->CI o2 n ps->aH bl Gg (dC o2 n 20) t s2->Qn l2 [] s2) :
  WP P K none 272 (adg F T) l [] s Qn Qe Qr:=by
 have hbd:=hS.bd hC hn hI.I 20
 have hmem:=ach (C:=C) hI
 generalize gK 1 ((List.range n).map (kj o C)) ((List.range n).map (kj o C))=A at hB hmem
 have hlb:lenOf vb=some A.length:=by rw[hB.lenOf];simp[otR]
 refine Wg hl (λ_ _ h=>h) ?_
 unfold adg
 by_cases hA0:0<A.length
 rotate_left
 ·have h0:A.length=0:=by omega
  rw[h0]at hlb
  refine Wq<|Wv rfl<|Wr (.lenS rfl hlb)<|Wj (v:=.bool false) rfl rfl rfl<|Wn<|Wd rfl fS<|λ_=>Wi ?_
  exact hk _ _ _ _ (bq rfl) (by omega) hI hs
 have h1:=aeM hA0
 have h2:=agN hx
 have h3:mkI .i64 (.ofNat<|x/2)=some (iv<|.ofNat<|x/2):=tD<|by omega
 have h4:binV .rem (iv<|.ofNat<|x/2) (iv<|.ofNat A.length)=some (iv<|.ofNat<|x/2%A.length):=yi hA0
 have hq:=Nat.mod_lt (x/2) hA0
 generalize x/2%A.length=q at h4 hq
 have hA1:A[q]?=some A[q]:=List.getElem?_eq_getElem hq
 obtain⟨a,k,ha,hk2,Zd,hct,Cs,hat⟩:=hmem A[q] (List.getElem_mem _)
 rw[Zd]at hA1
 obtain⟨ba,ra,na,ca,J5,Sp,Ma,e4,hba,me,hra⟩:=hB.at (i:=q)<|by simpa[otR]using hq
 have hrow:Ma[ra+q]?=some (⟨10,.ofNat<|a+1,.ofNat<|k+1⟩:OT).row:=by rw[hra,otR,List.getElem?_map,hA1];rfl
 subst e4
 have hne:a≠k:=by
  rintro rfl
  have h5:=hI.own a ha
  rcases hI.att a ha with h|⟨_,h⟩
  ·rw[h]at hat;exact absurd hat<|by decide
  ·rw[hct,h]at h5;exact absurd h5<|by decide
 obtain⟨hf1,Gt,_⟩:=qc hI.I 20 ha
 obtain⟨hf2,ho2,_⟩:=qc hI.I 20 hk2
 have hI1:=hI.ahe ha hk2 hct Cs hat
 generalize ho':R0 o a { o a with block:=.ofNat (k+1) }=o1 at hI1
 have h1k:o1 k=o k:=by rw[<- ho',dh o _ hne.symm]
 have h1a:(o1 a).block=.ofNat (k+1):=by rw[<- ho',cq]
 have hI2:=hI1.stop ha hk2 h1a
 rw[h1k]at hI2
 have hd1:dC o1 n 20={ dC o n 20 with ob:=(dC o n 20).ob.set a { o a with block:=.ofNat (k+1) } }:=by rw[aaJ,ho']
 have hd2:dC (if(o k).J9 then o1 else R0 o1 k { o k with J9:=true }) n 20=if(o k).J9 then dC o1 n 20 else{ dC o1 n 20 with ob:=(dC o1 n 20).ob.set k { o k with J9:=true } }:=by
  cases (o k).J9
  ·exact(aaJ ..).symm
  ·rfl
 refine Wq<|Wv rfl<|Wr (.lenS rfl hlb)<|Wj rfl rfl h1<|Wn<|Wd rfl (λ_=>Wo<|Wv rfl<|Wr (.mkif rfl rfl)<|Wv rfl<|Wv rfl<|Wv rfl<|Wr (.iaddrS rfl rfl (by omega)<|by decide)<|Wl rfl (hs.mem hrb) uB rfl rfl<|Wj rfl rfl h2<|Wr (.convI rfl h3)<|Wv rfl<|Wr (.lenS rfl hlb)<|Wj rfl rfl h4<|Wr (.iaddrS rfl rfl (by omega)<|by decide)<|Wl (cs:=OT.row<|OT.mk 10 (Int.ofNat<|a+1)<|Int.ofNat<|k+1) rfl (hs.mem hba) hrow rfl rfl ?_) Dz
 refine Ww<|W1 (abO hbd hS.hW.hX hS.hR hS.hP hf hs hEL hf1 Gt (hI.I.ci a ha) hf2 ho2 (hI.I.ci k hk2) hne hd1 (hS.bd hC hn hI1.I 20) (d2:=dC (if(o k).J9 then o1 else R0 o1 k { o k with J9:=true }) n 20) hd2 (λs=>hc.cB (a+1) (k+1) (by omega) (by omega) (by omega) (by omega) s)<|λs=>hc.cP (k+1) (by omega) (by omega) s) ?_
 rintro _ s9 ⟨EL3,hE3,hs9⟩
 refine Wn ?_
 refine hk _ _ _ _ (bq rfl) hE3 ?_ hs9
 split
 ·exact hI1
 ·exact hI2
theorem aeb (hS:LawS P K F T)(hc:aay P K F){n:Nat}{kc:Nat->Int}(hC:rq C n kc)(hn:n<=8){o:Nat->OD}{ps:Nat->Nat}(hI:CI o n ps){rb cap i x:Nat}{sl:Bool}{va vb ids:AV}{CL:List (List AV)}(hrb:Has rb (.r true CL 1) t)(uB:CL[0+i]?=some [.int .u8 (.ofNat x)])(hx:x<=255)(hlt:i<CL.length)(hEL:EL.length<=900)(hf:Has bf (.r false [bu bl aZ c0 c1 c2 c3 c4 bE] 8) t)(eQ:cI t aZ C)(hs:aH bl EL (dC o n 20) t s)(hA:Src t 3 va (otR (aan 0 1 ((List.range n).map (kj o C)))))(hB:Src t 3 vb (otR (gK 1 ((List.range n).map (kj o C)) ((List.range n).map (kj o C)))))
  (hl:∀y w,lk [(1,.slice (some ⟨rb,0,0⟩) CL.length cap sl 1),(5,.ptr<|some ⟨bf,0,0⟩),(6,ids),(7,iv<|.ofNat i),(9,va),(13,vb)] y=some w->lk l y=some w)
  (hk:∀l2 s2 o2 Gg,(∀y w,lk [(1,.slice (some ⟨rb,0,0⟩) CL.length cap sl 1),(5,.ptr<|some ⟨bf,0,0⟩),(6,ids),(7,iv<|.ofNat i)] y=some w->lk l2 y=some w)->Gg.length<=EL.length+2->CI o2 n ps->aH bl Gg (dC o2 n 20) t s2->Qn l2 [] s2) :
  WP P K none 272 (aeF F T) l [] s Qn Qe Qr:=by
 have hbd:=hS.bd hC hn hI.I 20
 have hmem:=acg (C:=C) hI
 generalize aan 0 1 ((List.range n).map (kj o C))=A at hA hmem
 have hla:lenOf va=some A.length:=by rw[hA.lenOf];simp[otR]
 refine Wg hl (λ_ _ h=>h) ?_
 unfold aeF
 by_cases hA0:0<A.length
 rotate_left
 ·have h0:A.length=0:=by omega
  rw[h0]at hla
  refine Wq<|Wv rfl<|Wr (.lenS rfl hla)<|Wj (v:=.bool false) rfl rfl rfl<|Wv rfl<|Wk<|Wk<|Wk<|Wk<|Wk<|Wk<|Wr (.bj rfl rfl)<|Wn<|Wd rfl fS<|λ_=>?_
  exact acf hS hc hC hn hI hrb uB hx hlt hEL hf eQ hs hB (bq rfl) hk
 have h1:=aeM hA0
 have h6:binV .rem (.int .u8<|.ofNat x) (.int .u8<|.ofNat 2)=some (.int .u8<|.ofNat<|x%2):=yi<|by omega
 rcases(by omega:x%2=0\/x%2=1)with h7|h7
 rotate_left
 ·rw[h7]at h6
  refine Wq<|Wv rfl<|Wr (.lenS rfl hla)<|Wj rfl rfl h1<|Wv rfl<|Wy<|Wv rfl<|Wy<|Wv rfl<|Wy<|Wr (.iaddrS rfl rfl (by omega)<|by decide)<|Wy<|Wl rfl (hs.mem hrb) uB rfl rfl<|Wy<|Wj rfl rfl h6<|Wy<|Wh (b:=false) rfl rfl rfl<|Wr (.cV rfl rfl)<|Wn<|Wd rfl fS<|λ_=>?_
  exact acf hS hc hC hn hI hrb uB hx hlt hEL hf eQ hs hB (bq rfl) hk
 rw[h7]at h6
 have h2:=agN hx
 have h3:mkI .i64 (.ofNat<|x/2)=some (iv<|.ofNat<|x/2):=tD<|by omega
 have h4:binV .rem (iv<|.ofNat<|x/2) (iv<|.ofNat A.length)=some (iv<|.ofNat<|x/2%A.length):=yi hA0
 have hq:=Nat.mod_lt (x/2) hA0
 generalize x/2%A.length=q at h4 hq
 have hA1:A[q]?=some A[q]:=List.getElem?_eq_getElem hq
 obtain⟨k,hk2,Zd,hct,hat,htp⟩:=hmem A[q] (List.getElem_mem _)
 rw[Zd]at hA1
 obtain⟨ba,ra,na,ca,J5,Sp,Ma,e4,hba,me,hra⟩:=hA.at (i:=q)<|by simpa[otR]using hq
 have hrow:Ma[ra+q]?=some (⟨9,.ofNat<|k+1,.ofNat 1⟩:OT).row:=by rw[hra,otR,List.getElem?_map,hA1];rfl
 subst e4
 obtain⟨hf1,Gt,_⟩:=qc hI.I 20 hk2
 have hI1:=hI.atk hk2 hct<|.inl rfl
 have hI2:=hI.atk hk2 hct<|.inr rfl
 have hd2:dC (if qa 16 (chC C k).k then R0 o k { o k with NP:=2,RU:=true }else R0 o k { o k with NP:=2 }) n 20=if qa 16 (chC C k).k then{ dC o n 20 with ob:=(dC o n 20).ob.set k { o k with NP:=2,RU:=true } }else dC (R0 o k { o k with NP:=2 }) n 20:=by
  cases qa 16 (chC C k).k
  ·rfl
  ·exact(aaJ ..).symm
 have hX2:BdX P K F T (T 26) (λ_ c=>c) C (dC (if qa 16 (chC C k).k then R0 o k { o k with NP:=2,RU:=true }else R0 o k { o k with NP:=2 }) n 20):=by
  split
  ·exact hS.bd hC hn hI2.I 20
  ·exact hS.bd hC hn hI1.I 20
 refine Wq<|Wv rfl<|Wr (.lenS rfl hla)<|Wj rfl rfl h1<|Wv rfl<|Wy<|Wv rfl<|Wy<|Wv rfl<|Wy<|Wr (.iaddrS rfl rfl (by omega)<|by decide)<|Wy<|Wl rfl (hs.mem hrb) uB rfl rfl<|Wy<|Wj rfl rfl h6<|Wy<|Wh (b:=true) rfl rfl rfl<|Wr (.cV rfl rfl)<|Wn<|Wd rfl (λ_=>Wo<|Wv rfl<|Wr (.mkif rfl rfl)<|Wv rfl<|Wv rfl<|Wv rfl<|Wr (.iaddrS rfl rfl (by omega)<|by decide)<|Wl rfl (hs.mem hrb) uB rfl rfl<|Wj rfl rfl h2<|Wr (.convI rfl h3)<|Wv rfl<|Wr (.lenS rfl hla)<|Wj rfl rfl h4<|Wr (.iaddrS rfl rfl (by omega)<|by decide)<|Wl (cs:=OT.row<|OT.mk 9 (Int.ofNat<|k+1)<|Int.ofNat 1) rfl (hs.mem hba) hrow rfl rfl ?_) Dz
 refine Ww<|W1 (abr hbd hS.hW.hX hS.hR hS.hP hC.no hf eQ hs (q:=1) hEL hf1 Gt (hI.I.ci k hk2) (d1:=dC (R0 o k { o k with NP:=2 }) n 20) (aaJ ..).symm (hS.bd hC hn hI1.I 20) (ads hI1.I 20 hC hk2) (d2:=dC (if qa 16 (chC C k).k then R0 o k { o k with NP:=2,RU:=true }else R0 o k { o k with NP:=2 }) n 20) hd2 hX2 (by omega) (λs=>hc.cF.cA (k+1) (by omega) (by omega) s) (λs=>hc.cF.cT (k+1) (by omega) (by omega) s)) ?_
 rintro _ s9 ⟨EL3,hE3,hs9⟩
 refine Wn ?_
 refine hk _ _ _ _ (bq rfl) hE3 ?_ hs9
 split
 ·exact hI2
 ·exact hI1
theorem adN (hS:LawS P K F T)(hL:BaseM P K F T)(hM:BaseK P K F T)(hc:aay P K F){n:Nat}{kc:Nat->Int}(hC:rq C n kc)(hn:n<=8){o:Nat->OD}{ps:Nat->Nat}(hI:CI o n ps){cv ids:AV}{CL:List (List AV)}(dP:aeT t cv CL)(hEL:EL.length<=60)(hf:Has bf (.r false [bu bl aZ c0 c1 c2 c3 c4 bE] 8) t)(eQ:cI t aZ C)(hs:aH bl EL (dC o n 20) t s)
  (hl:∀y w,lk [(1,cv),(5,.ptr<|some ⟨bf,0,0⟩),(6,ids)] y=some w->lk l y=some w)
  (hk:∀l2 s2 o2 Gg,Gg.length<=84->CI o2 n ps->aH bl Gg (dC o2 n 20) t s2->(∀y w,lk [(1,cv),(5,.ptr<|some ⟨bf,0,0⟩),(6,ids)] y=some w->lk l2 y=some w)->Qn l2 [] s2) :
  WP P K none 272 (oN [zo 7 (.mv<|zc 0)]<|.block 0<|.loop<|ada F T) l [] s Qn Qe Qr:=by
 refine Wg hl (λ_ _ h=>h) ?_
 refine Wq<|Wv rfl<|Wn<|Wb ?_
 unfold ada
 refine Wp (λkk l ds s'=>ds=[]/\∃i o Gg,kk=12-i/\i<=12/\Gg.length<=60+2*i/\CI o n ps/\aH bl Gg (dC o n 20) t s'/\∀y w,lk [(1,cv),(5,.ptr<|some ⟨bf,0,0⟩),(6,ids),(7,iv<|.ofNat i)] y=some w->lk l y=some w) ?_ (n:=12-0)
  ⟨rfl,0,o,EL,rfl,Nat.zero_le _,hEL,hI,hs,bq rfl⟩
 clear hs hI hEL
 rintro kk l ds s1 ⟨rfl,i,o,Gg,rfl,hi,hEL,hI,hs,hl⟩
 refine Wg hl (λ_ _ h=>h) ?_
 have hbd:=hS.bd hC hn hI.I 20
 have afe:=dP.len
 have hout:∀{l2:Sl},(∀y w,lk [(1,cv),(5,.ptr<|some ⟨bf,0,0⟩),(6,ids)] y=some w->lk l2 y=some w)->Qn l2 [] s1:=λ{l2} h=>hk l2 s1 o Gg (by omega) hI hs h
 by_cases h1:i<CL.length
 rotate_left
 ·have e1:binV .lss (iv<|.ofNat i) (iv<|.ofNat CL.length)=some (.bool false):=acn h1
  refine Ws<|Wq<|Wv rfl<|Wv rfl<|Wr (.lenS rfl afe)<|Wj rfl rfl e1<|Wv rfl<|Wk<|Wk<|Wr (.bj rfl rfl)<|Wn<|Wd rfl fS<|λ_=>Wx ?_
  exact hout<|bq rfl
 have e1:binV .lss (iv<|.ofNat i) (iv<|.ofNat CL.length)=some (.bool true):=aco h1
 by_cases h2:i<12
 rotate_left
 ·have e2:binV .lss (iv<|.ofNat i) (iv 12)=some (.bool false):=acn h2
  refine Ws<|Wq<|Wv rfl<|Wv rfl<|Wr (.lenS rfl afe)<|Wj rfl rfl e1<|Wv rfl<|Wy<|Wv rfl<|Wy<|Wj rfl rfl e2<|Wr (.cV rfl rfl)<|Wn<|Wd rfl fS<|λ_=>Wx ?_
  exact hout<|bq rfl
 have e2:binV .lss (iv<|.ofNat i) (iv 12)=some (.bool true):=aco h2
 refine Ws<|Wq<|Wv rfl<|Wv rfl<|Wr (.lenS rfl afe)<|Wj rfl rfl e1<|Wv rfl<|Wy<|Wv rfl<|Wy<|Wj rfl rfl e2<|Wr (.cV rfl rfl)<|Wn<|Wd rfl (λ_=>Wi ?_) Dz
 refine Ws<|Wb<|Wq<|Wv rfl ?_
 refine Ww<|W1 (aaS hS.hW.hU.hB hL hM hs hf) ?_
 rintro _ s2 ⟨rfl,dt⟩
 refine Wv rfl<|Wn ?_
 refine Wq<|Wv rfl<|Wr (.mkif rfl rfl) ?_
 refine Ww<|W1 (abc hbd.hE hS.hW.hY hS.hP hf eQ dt (p0:=Zz) (p1:={ Zz with Zl:=20 }) rfl rfl rfl (by show(fI n).length<=400;simp[fI];omega) hbd.all) ?_
 rintro va s3 ⟨m1,gw,hA⟩
 rw[TG hI.I 20 hC]at hA
 refine Wv rfl<|Wn ?_
 refine Ws<|adO hS hC hn hI hf gw hA (i:=i) (mk:=Gg.length) (cv:=cv) (ids:=ids) (bq rfl) ?_
 intro l4 s4 pM hl4
 refine Wg hl4 (λ_ _ h=>h) ?_
 refine Wq<|Wv rfl<|Wr (.mkif rfl rfl) ?_
 have hf1:Has bf (.r false [bu bl aZ c0 c1 c2 c3 c4 bE] 8) (m1++t):=.app hf
 have agA:cI (m1++t) aZ C:=eQ.mono λq hq=>by simp[hq]
 refine Ww<|W1 (aaz (p:=1) hbd.hE hS.hW.hY hf1 agA pM (by omega) (by show(fI n).length<=400;simp[fI];omega) hbd.all) ?_
 rintro vb s5 ⟨m2,tn,hB⟩
 rw[TG hI.I 20 hC]at hB
 refine Wv rfl<|Wn ?_
 refine Ws<|adP hS hC hn hI hf1 tn hB (i:=i) (mk:=Gg.length) (cv:=cv) (ids:=ids) (va:=va) (bq rfl) ?_
 intro l6 s6 KL hl6
 refine Wg hl6 (λ_ _ h=>h) ?_
 have hf2:Has bf (.r false [bu bl aZ c0 c1 c2 c3 c4 bE] 8) (m2++(m1++t)):=.app hf1
 have acI:cI (m2++(m1++t)) aZ C:=agA.mono λq hq=>by simp[hq]
 refine Ws<|Wq<|Wv rfl ?_
 refine Ww<|W1 (aaS hS.hW.hU.hB hL hM KL hf2) ?_
 rintro _ s7 ⟨rfl,hs7⟩
 have hq1:eqBy 20 .pi (iv<|.ofNat Gg.length) (iv<|.ofNat Gg.length)=some true:=by rw[bb,decide_eq_true rfl]
 refine Wv rfl<|Wh rfl rfl hq1<|Wv rfl<|Wy<|Wv rfl<|Wy<|Wr (.mkif rfl rfl)<|Wy ?_
 refine Ww<|W1 (aaz (p:=0) hbd.hE hS.hW.hY hf2 acI hs7 (by omega) (by show(fI n).length<=400;simp[fI];omega) hbd.all) ?_
 rintro vz s8 ⟨m3,hs8,hZ⟩
 rw[TG hI.I 20 hC,aeW hI]at hZ
 have hlz:lenOf vz=some 0:=hZ.lenOf
 have hq2:eqBy 20 .pi (iv<|.ofNat 0) (iv 0)=some true:=rfl
 refine Wy<|Wr (.lenS rfl hlz)<|Wy<|Wh rfl rfl hq2<|Wr (.bj rfl rfl)<|Wn<|Wd rfl fS<|λ_=>Wi ?_
 obtain⟨x,hx,hrow⟩:=dP.b i h1
 have uB:CL[0+i]?=some [.int .u8 (.ofNat x)]:=by rw[Nat.zero_add];exact hrow
 obtain⟨rb,cap,sl,rfl,hrb⟩:=dP.at'<|by omega
 refine aeb hS hc hC hn hI (t:=m3++(m2++(m1++t))) (i:=i) (x:=x) (.app<|.app<|.app hrb) uB hx h1 (by omega) (.app hf2) (acI.mono λq hq=>by simp[hq]) hs8 (hA.mono λq hq=>by simp[hq]) (hB.mono λq hq=>by simp[hq]) (bq rfl) ?_
 intro l9 s9 o2 EL3 hl9 hE3 hI3 hs9
 refine Wg hl9 (λ_ _ h=>h) ?_
 refine Wo<|Wv rfl<|Wj rfl rfl (bM<|by omega)<|Wv rfl<|Wn ?_
 exact⟨12-(i+1),by omega,rfl,i+1,o2,EL3,rfl,by omega,by omega,hI3,hs9.fb.fb.fb,bq rfl⟩
theorem acE {n:Nat}:∀(HL:List HT)(o:Nat->OD)(lf:Int),(∀h∈HL,(∃k,k<n/\h.id=.ofNat (k+1))\/(h.id=0/\h.pl=1))->OI o n->(∀j,j<n->-999<=(o j).Y6/\(o j).Y6<=999)->-999<=lf/\lf<=999 ->
  OI (HL.foldl cr (o,lf)).1 n/\(∀j,j<n->-999<=((HL.foldl cr (o,lf)).1 j).Y6/\((HL.foldl cr (o,lf)).1 j).Y6<=999)/\(-999<=(HL.foldl cr (o,lf)).2/\(HL.foldl cr (o,lf)).2<=999):=by
 intro HL
 induction HL with
 | nil=>intro o lf _ h1 h2 h3;exact⟨h1,h2,h3⟩
 | cons h HL ih=>
  intro o lf hH h1 h2 h3
  rw[List.foldl_cons]
  have hr:=λx hx=>hH x<|.tail _ hx
  by_cases hz:h.n=0
  ·rw[show cr (o,lf) h=(o,lf)from if_pos hz]
   exact ih o lf hr h1 h2 h3
  rcases hH h (.head _) with⟨k,hk,hid⟩|⟨hid,_⟩
  ·have hstep:cr (o,lf) h=(R0 o k { o k with Y6:=oP ((o k).Y6+h.n) },lf):=by
    unfold cr
    rw[if_neg hz,if_pos (by rw[hid];show(0:Int)<((k+1:Nat):Int);omega),hid]
    rfl
   rw[hstep]
   refine ih _ lf hr (h1.R0 rfl rfl rfl) (λj hj=>?_) h3
   by_cases e:j=k
   ·subst e;rw[cq];exact V0 _
   ·rw[dh o _ e];exact h2 j hj
  ·have hstep:cr (o,lf) h=(o,oP<|lf+-h.n):=by
    unfold cr
    rw[if_neg hz,if_neg (by rw[hid];omega)]
   rw[hstep]
   exact ih o _ hr h1 h2<|V0 _
theorem adZ {f:Nat->Int}{a b:Int}:∀{n:Nat},(∀j,j<n->a<=f j/\f j<=b)->a*(n:Int)<=l8 f n/\l8 f n<=b*(n:Int):=by
 intro n
 induction n with
 | zero=>intro _;exact⟨by show a*0<=0;omega,by show 0<=b*0;omega⟩
 | succ n ih=>
  intro h
  have h1:=ih λj hj=>h j<|by omega
  have h2:=h n<|by omega
  show a*((n+1:Nat):Int)<=l8 f n+f n/\l8 f n+f n<=b*((n+1:Nat):Int)
  rw[Int.natCast_add,Int.mul_add,Int.mul_add]
  show a*(n:Int)+a*1<=_/\_<=b*(n:Int)+b*1
  omega
theorem adQ (hS:LawS P K F T){n:Nat}{kc:Nat->Int}(hC:rq C n kc)(hn:n<=8)(hp:∀j,0<=pw C j/\pw C j<=6){o:Nat->OD}{ps:Nat->Nat}(hI:CI o n ps){ids:AV}(CB:Src t 1 ids (nR (fI n)))(hf:Has bf (.r false [bu bl aZ c0 c1 c2 c3 c4 bE] 8) t)(eQ:cI t aZ C)(hs:aH bl EL (dC o n 20) t s)
  (hl:∀y w,lk [(5,.ptr<|some ⟨bf,0,0⟩),(6,ids),(19,iv 0)] y=some w->lk l y=some w)
  (hk:∀l2 s2,aH bl EL (dC o n 20) t s2->(∀y w,lk [(5,.ptr<|some ⟨bf,0,0⟩),(6,ids),(19,iv<|l8 (gB o C) n)] y=some w->lk l2 y=some w)->Qn l2 [] s2) :
  WP P K none 272 (oN [zo 20 (.mv<|zc 0)]<|.block 6<|.loop<|ade F T) l [] s Qn Qe Qr:=by
 have hbd:=hS.bd hC hn hI.I 20
 have hil:(nR<|fI n).length=n:=by simp[nR,fI]
 have hla:lenOf ids=some n:=by rw[CB.lenOf,hil]
 have hw:∀j,0<=gB o C j/\gB o C j<=6:=λj=>by
  unfold gB
  split
  ·exact hp j
  ·omega
 refine Wg hl (λ_ _ h=>h) ?_
 refine Wq<|Wv rfl<|Wn<|Wb ?_
 unfold ade
 refine Wp (λkk l ds s'=>ds=[]/\∃q,kk=n-q/\q<=n/\aH bl EL (dC o n 20) t s'/\∀y w,lk [(5,.ptr<|some ⟨bf,0,0⟩),(6,ids),(19,iv<|l8 (gB o C) q),(20,iv<|.ofNat q)] y=some w->lk l y=some w) ?_ (n:=n-0)
  ⟨rfl,0,rfl,Nat.zero_le _,hs,bq rfl⟩
 rintro kk l ds s3 ⟨rfl,q,rfl,hq,gw,hl⟩
 refine Wg hl (λ_ _ h=>h) ?_
 by_cases hlt:q<n
 rotate_left
 ·have e1:=acn hlt
  have:q=n:=by omega
  subst this
  refine Ws<|Wq<|Wv rfl<|Wv rfl<|Wr (.lenS rfl hla)<|Wj rfl rfl e1<|Wn<|Wd rfl fS<|λ_=>Wx ?_
  exact hk _ _ gw<|bq rfl
 have e1:=aco hlt
 obtain⟨ba,ra,na,ca,J5,Sp,Ma,e4,hba,me,hra⟩:=CB.at (i:=q)<|by omega
 have hrow:Ma[ra+q]?=some [iv (.ofNat<|q+1)]:=by
  rw[hra]
  show(((List.range n).map λj=>Int.ofNat<|j+1).map λx=>[iv x])[q]?=_
  rw[List.getElem?_map,List.getElem?_map,List.getElem?_range hlt];rfl
 subst e4
 obtain⟨_,_,aaP⟩:=qc hI.I 20 hlt
 have vo:=ads hI.I 20 hC hlt
 have Y3:=adZ (f:=gB o C) (n:=q)<|λj _=>hw j
 have hpq:=hp q
 refine Ws<|Wq<|Wv rfl<|Wv rfl<|Wr (.lenS rfl hla)<|Wj rfl rfl e1<|Wn<|Wd rfl (λ_=>Wi ?_) Dz
 refine Ws<|Wb<|Wq<|Wv rfl<|Wv rfl<|Wv rfl<|Wr (.iaddrS rfl rfl (by omega)<|by decide)<|Wl rfl (gw.mem hba) hrow rfl rfl ?_
 refine Ww<|W1 (Qq hbd.hE.hB hbd.hE.hC gw hbd.hE.hd hf) ?_
 rintro _ s4 ⟨hv,pM⟩
 rw[aaP]at hv
 subst hv
 refine Wv rfl<|Wr (.extract rfl rfl)<|Wr (.extract rfl rfl)<|Wa (.alloc rfl) λb21=>Ww<|Wt (s':=(b21,.r false [OD.row (o q)] 14)::_) rfl rfl rfl .here rfl rfl<|Wv rfl<|Wn ?_
 refine Wq<|Wv rfl<|Wv rfl<|Wv rfl<|Wr (.iaddrS rfl rfl (by omega)<|by decide)<|Wl rfl (.there<|pM.mem hba) hrow rfl rfl ?_
 have tn:aH bl EL (dC o n 20) ((b21,HO.r false [(o q).row] 14)::t) ((b21,HO.r false [(o q).row] 14)::s4):=pM.cons
 refine Ww<|W1 (pE hbd.hE.hB hbd.hE.hC hbd.hE.hT tn hbd.hE.hd (.there hf) (eQ.mono λq hq=>by simp[hq]) hbd.hE.hO) ?_
 rintro _ s6 ⟨hv,KL⟩
 rw[vo]at hv
 subst hv
 have fin:∀{l9:Sl}{s9:SH},aH bl EL (dC o n 20) t s9->(∀y w,lk [(5,.ptr<|some ⟨bf,0,0⟩),(6,.slice (some ⟨ba,ra,0⟩) na ca J5 1),(19,iv<|l8 (gB o C)<|q+1),(20,iv<|.ofNat<|q+1)] y=some w->lk l9 y=some w) ->
   ∃m',m'<n-q/\(([]:List aD)=[]/\∃q,m'=n-q/\q<=n/\aH bl EL (dC o n 20) t s9/\∀y w,lk [(5,.ptr<|some ⟨bf,0,0⟩),(6,.slice (some ⟨ba,ra,0⟩) na ca J5 1),(19,iv<|l8 (gB o C) q),(20,iv<|.ofNat q)] y=some w->lk l9 y=some w):=λ{l9 s9} h1 h2=>⟨n-(q+1),by omega,rfl,q+1,rfl,hlt,h1,h2⟩
 by_cases ha:(o q).NP=0
 ·have h1:eqBy 20 .pi (iv (o q).NP) (iv 0)=some true:=by rw[bb,ha];rfl
  by_cases hb:(o q).block=0
  ·have h2:eqBy 20 .pi (iv (o q).block) (iv 0)=some true:=by rw[bb,hb];rfl
   have h9:l8 (gB o C) (q+1)=l8 (gB o C) q:=by
    show _+gB o C q=_
    unfold gB
    rw[if_neg λe=>by rcases e with e | e;exact e ha;exact e hb,Int.add_zero]
   rw[h9]at fin
   refine Wv rfl<|Wr (.extract rfl rfl)<|Wr (.extract rfl rfl)<|Wa (.alloc rfl) λb23=>Ww<|Wt (s':=(b23,.r false [CH.row (chC C q)] 3)::_) rfl rfl rfl .here rfl rfl<|Wv rfl<|Wn ?_
   refine Ws<|Wq<|Wv rfl<|Wr (.un rfl rfl)<|Wn<|Wd rfl fS<|λ_=>Wi ?_
   refine Wq<|Wf rfl<|Wl rfl (.there<|KL.mem .here) rfl rfl rfl<|Wh rfl rfl h1<|Wv rfl<|Wy<|Wf rfl<|Wy<|Wl rfl (.there<|KL.mem .here) rfl rfl rfl<|Wy<|Wh rfl rfl h2<|Wr (.bj rfl rfl)<|Wn<|Wd rfl fS<|λ_=>Wi<|Wo<|Wv rfl<|Wj rfl rfl (bM<|by omega)<|Wv rfl<|Wn ?_
   exact fin (KL.tail.bK (m:=[_]))<|bq rfl
  ·have h2:eqBy 20 .pi (iv (o q).block) (iv 0)=some false:=by rw[bb,decide_eq_false hb]
   have h9:l8 (gB o C) (q+1)=l8 (gB o C) q+(chC C q).p:=by
    show _+gB o C q=_
    unfold gB
    rw[if_pos (.inr hb)];rfl
   rw[h9]at fin
   have h3:binV .add (iv<|l8 (gB o C) q) (iv (chC C q).p)=some (iv<|l8 (gB o C) q+(chC C q).p):=abo (by unfold pw at hpq;omega)
   refine Wv rfl<|Wr (.extract rfl rfl)<|Wr (.extract rfl rfl)<|Wa (.alloc rfl) λb23=>Ww<|Wt (s':=(b23,.r false [CH.row (chC C q)] 3)::_) rfl rfl rfl .here rfl rfl<|Wv rfl<|Wn ?_
   refine Ws<|Wq<|Wv rfl<|Wr (.un rfl rfl)<|Wn<|Wd rfl fS<|λ_=>Wi ?_
   refine Wq<|Wf rfl<|Wl rfl (.there<|KL.mem .here) rfl rfl rfl<|Wh rfl rfl h1<|Wv rfl<|Wy<|Wf rfl<|Wy<|Wl rfl (.there<|KL.mem .here) rfl rfl rfl<|Wy<|Wh rfl rfl h2<|Wr (.bj rfl rfl)<|Wn<|Wd rfl (λ_=>Wo<|Wv rfl<|Wf rfl<|Wl rfl .here rfl rfl rfl<|Wj rfl rfl h3<|Wv rfl<|Wn<|Wo<|Wv rfl<|Wj rfl rfl (bM<|by omega)<|Wv rfl<|Wn ?_) Dz
   exact fin (KL.tail.bK (m:=[_]))<|bq rfl
 ·have h1:eqBy 20 .pi (iv (o q).NP) (iv 0)=some false:=by rw[bb,decide_eq_false ha]
  have h9:l8 (gB o C) (q+1)=l8 (gB o C) q+(chC C q).p:=by
   show _+gB o C q=_
   unfold gB
   rw[if_pos (.inl ha)];rfl
  rw[h9]at fin
  have h3:binV .add (iv<|l8 (gB o C) q) (iv (chC C q).p)=some (iv<|l8 (gB o C) q+(chC C q).p):=abo (by unfold pw at hpq;omega)
  refine Wv rfl<|Wr (.extract rfl rfl)<|Wr (.extract rfl rfl)<|Wa (.alloc rfl) λb23=>Ww<|Wt (s':=(b23,.r false [CH.row (chC C q)] 3)::_) rfl rfl rfl .here rfl rfl<|Wv rfl<|Wn ?_
  refine Ws<|Wq<|Wv rfl<|Wr (.un rfl rfl)<|Wn<|Wd rfl fS<|λ_=>Wi ?_
  refine Wq<|Wf rfl<|Wl rfl (.there<|KL.mem .here) rfl rfl rfl<|Wh rfl rfl h1<|Wv rfl<|Wk<|Wk<|Wk<|Wr (.cV rfl rfl)<|Wn<|Wd rfl (λ_=>Wo<|Wv rfl<|Wf rfl<|Wl rfl .here rfl rfl rfl<|Wj rfl rfl h3<|Wv rfl<|Wn<|Wo<|Wv rfl<|Wj rfl rfl (bM<|by omega)<|Wv rfl<|Wn ?_) Dz
  exact fin (KL.tail.bK (m:=[_]))<|bq rfl
theorem adR (hS:LawS P K F T){n:Nat}{kc:Nat->Int}(hC:rq C n kc)(hn:n<=8){o:Nat->OD}{lf:Int}(hI:OI o n)(hh:∀j,j<n->-999<=(o j).Y6/\(o j).Y6<=999)(hlf:-999<=lf/\lf<=999){ids:AV}{w:Int}(CB:Src t 1 ids (nR (fI n)))(hf:Has bf (.r false [bu bl aZ c0 c1 c2 c3 c4 bE] 8) t)(hs:aH bl EL (dC o n lf) t s)
  (hl:∀y v,lk [(5,.ptr<|some ⟨bf,0,0⟩),(6,ids),(19,iv w),(25,iv<|20-lf)] y=some v->lk l y=some v)
  (hk:∀l2 s2,aH bl EL (dC o n lf) t s2->(∀y v,lk [(5,.ptr<|some ⟨bf,0,0⟩),(19,iv w),(25,iv<|tot n (o,lf))] y=some v->lk l2 y=some v)->Qn l2 [] s2) :
  WP P K none 272 (oN [zo 26 (.mv<|zc 0)]<|.block 8<|.loop<|adf F T) l [] s Qn Qe Qr:=by
 have hbd:=hS.bd hC hn hI lf
 have hil:(nR<|fI n).length=n:=by simp[nR,fI]
 have hla:lenOf ids=some n:=by rw[CB.lenOf,hil]
 refine Wg hl (λ_ _ h=>h) ?_
 refine Wq<|Wv rfl<|Wn<|Wb ?_
 unfold adf
 refine Wp (λkk l ds s'=>ds=[]/\∃q,kk=n-q/\q<=n/\aH bl EL (dC o n lf) t s'/\∀y v,lk [(5,.ptr<|some ⟨bf,0,0⟩),(6,ids),(19,iv w),(25,iv<|tot q (o,lf)),(26,iv<|.ofNat q)] y=some v->lk l y=some v) ?_ (n:=n-0)
  ⟨rfl,0,rfl,Nat.zero_le _,hs,aa rfl<|aa rfl<|aa rfl<|aa (by show _=some (iv<|20-lf+0);rw[Int.add_zero];rfl)<|bq rfl⟩
 rintro kk l ds s3 ⟨rfl,q,rfl,hq,gw,hl⟩
 refine Wg hl (λ_ _ h=>h) ?_
 by_cases hlt:q<n
 rotate_left
 ·have e1:=acn hlt
  have:q=n:=by omega
  subst this
  refine Ws<|Wq<|Wv rfl<|Wv rfl<|Wr (.lenS rfl hla)<|Wj rfl rfl e1<|Wn<|Wd rfl fS<|λ_=>Wx ?_
  exact hk _ _ gw<|bq rfl
 have e1:=aco hlt
 obtain⟨ba,ra,na,ca,J5,Sp,Ma,e4,hba,me,hra⟩:=CB.at (i:=q)<|by omega
 have hrow:Ma[ra+q]?=some [iv (.ofNat<|q+1)]:=by
  rw[hra]
  show(((List.range n).map λj=>Int.ofNat<|j+1).map λx=>[iv x])[q]?=_
  rw[List.getElem?_map,List.getElem?_map,List.getElem?_range hlt];rfl
 subst e4
 obtain⟨_,_,aaP⟩:=qc hI lf hlt
 have Y3:=adZ (f:=λj=>(o j).Y6) (n:=q)<|λj hj=>hh j<|by omega
 have hhq:=hh q hlt
 have htt:tot (q+1) (o,lf)=tot q (o,lf)+(o q).Y6:=by
  show 20-lf+(l8 (λj=>(o j).Y6) q+(o q).Y6)=20-lf+l8 (λj=>(o j).Y6) q+(o q).Y6
  omega
 have h3:binV .add (iv<|tot q (o,lf)) (iv (o q).Y6)=some (iv<|tot q (o,lf)+(o q).Y6):=abo (by
  show -9223372036854775808<=20-lf+l8 (λj=>(o j).Y6) q+(o q).Y6/\20-lf+l8 (λj=>(o j).Y6) q+(o q).Y6<=9223372036854775807
  omega)
 rw[<- htt]at h3
 refine Ws<|Wq<|Wv rfl<|Wv rfl<|Wr (.lenS rfl hla)<|Wj rfl rfl e1<|Wn<|Wd rfl (λ_=>Wi ?_) Dz
 refine Ws<|Wb<|Wq<|Wv rfl<|Wv rfl<|Wv rfl<|Wr (.iaddrS rfl rfl (by omega)<|by decide)<|Wl rfl (gw.mem hba) hrow rfl rfl ?_
 refine Ww<|W1 (Qq hbd.hE.hB hbd.hE.hC gw hbd.hE.hd hf) ?_
 rintro _ s4 ⟨hv,pM⟩
 rw[aaP]at hv
 subst hv
 refine Wv rfl<|Wr (.extract rfl rfl)<|Wr (.extract rfl rfl)<|Wa (.alloc rfl) λb27=>Ww<|Wt (s':=(b27,.r false [OD.row (o q)] 14)::_) rfl rfl rfl .here rfl rfl<|Wv rfl<|Wn<|Wo<|Wv rfl<|Wf rfl<|Wl rfl .here rfl rfl rfl<|Wj rfl rfl h3<|Wv rfl<|Wn<|Wo<|Wv rfl<|Wj rfl rfl (bM<|by omega)<|Wv rfl<|Wn ?_
 exact⟨n-(q+1),by omega,rfl,q+1,rfl,hlt,pM.bK (m:=[_]),bq rfl⟩
theorem abZ (hS:LawS P K F T)(hL:BaseM P K F T)(hM:BaseK P K F T)(hc:aay P K F){cv ids:AV}{og j:SH}{CL:List (List AV)}{ps:Nat->Nat}{n:Nat}{kc:Nat->Int}(hC:rq C n kc)(hn:n<=8)(dP:aeT t cv CL)(hp:∀j,0<=pw C j/\pw C j<=6)(ht:∀j,j<n->-1000000<=(chC C j).t/\(chC C j).t<=1000000)
  {o:Nat->OD} (hI:CI o n ps) (hs:aH bl EL (dC o n 20) (og++(j++t)) s) (hEL:EL.length<=60) (hG:Gr 1 ids (nR<|fI n) og) (hf:Has bf (.r false [bu bl aZ c0 c1 c2 c3 c4 bE] 8) t) (eQ:cI t aZ C)
  (hl:∀y w,lk [(1,cv),(5,.ptr<|some ⟨bf,0,0⟩),(6,ids)] y=some w->lk l y=some w) :
  WP P K none 272 (ace F T) l [] s Kj (λ_=>Kj) (λl ds s=>ds=[]/\lk l 4=some (.bool true)/\∀b o,Has b o t->Has b o s):=by
 refine Wg hl (λ_ _ h=>h) ?_
 have CB:Src (og++(j++t)) 1 ids (nR<|fI n):=hG.out.src.mono λq hq=>by simp[hq]
 have hf2:Has bf (.r false [bu bl aZ c0 c1 c2 c3 c4 bE] 8) (og++(j++t)):=.app<|.app hf
 have acI:cI (og++(j++t)) aZ C:=eQ.mono λq hq=>by simp[hq]
 have ahy:aeT (og++(j++t)) cv CL:=⟨dP.len,λh=>by
  obtain⟨rb,cap,sl,h1,h2⟩:=dP.at' h
  exact⟨rb,cap,sl,h1,.app (.app h2)⟩,dP.b⟩
 unfold ace
 refine Ws<|Wq<|Wv rfl<|Wh (b:=false) rfl rfl rfl<|Wn<|Wd rfl fS<|λ_=>Wi ?_
 refine Ws<|adN hS hL hM hc hC hn hI ahy hEL hf2 acI hs (bq rfl) ?_
 intro l2 s2 o2 Gg hE2 hI2 dt CG
 refine Wg CG (λ_ _ h=>h) ?_
 refine Wq<|Wv rfl<|Wn ?_
 refine Ws<|adQ hS hC hn hp hI2 CB hf2 acI dt (bq rfl) ?_
 intro l3 s3 gw PN
 refine Wg PN (λ_ _ h=>h) ?_
 obtain⟨hH,hHl⟩:=ack hI2 hp hn
 have agI:=adC hI2 hp hn
 have hBB:∀y∈(List.range n).map (kj o2 C),BB y:=by
  intro y hy
  obtain⟨k,hk,rfl⟩:=List.mem_map.1 hy
  have hk:=List.mem_range.1 hk
  have h1:0<=(chC C k).p/\(chC C k).p<=6:=hp k
  refine⟨by show -1000000<=(chC C k).p/\(chC C k).p<=1000000;omega,ht k hk,by show -1000000<=(o2 k).Y6/\(o2 k).Y6<=1000000;rw[hI2.Y6 k hk];decide,?_⟩
  show -1000000<=(o2 k).NP/\(o2 k).NP<=1000000
  rcases hI2.att k hk with h|⟨h,_⟩<;>rw[h]<;>decide
 have hkeep:=acE (lw ((List.range n).map (kj o2 C))<|(List.range n).map (kj o2 C)) o2 20 (λh hh=>(hH h hh).2.2) hI2.I (λj hj=>by rw[hI2.Y6 j hj];decide)<|by decide
 refine Wq<|Wv rfl<|Wr (.mkif rfl rfl) ?_
 refine Ww<|W1 (acF hS hc hC hn hI2.I hf2 acI gw (by omega) rfl hBB hH (Nat.le_trans hHl<|by omega) (λj hj=>by rw[hI2.Y6 j hj];decide)<|by decide) ?_
 rintro _ s4 ⟨EL4,hE4,pM⟩
 generalize (lw ((List.range n).map (kj o2 C))<|(List.range n).map (kj o2 C)).foldl cr (o2,20)=st at pM agI hkeep
 obtain⟨o4,lf⟩:=st
 obtain⟨hI4,hh4,ahG⟩:=hkeep
 have hbd:=hS.bd hC hn hI4 lf
 have hl1:binV .sub (iv 20) (iv lf)=some (iv<|20-lf):=act<|by omega
 refine Wn ?_
 refine Wq<|Wv rfl ?_
 refine Ww<|W1 (Ar (p:=1) (o:={ Zz with Zl:=lf }) hbd.hE.hB hbd.hE.hC hbd.hE.hT pM hbd.hE.hd hf2 rfl) ?_
 rintro _ s5 ⟨rfl,tn⟩
 refine Wr (.fld rfl rfl)<|Wj rfl rfl hl1<|Wv rfl<|Wn ?_
 refine Ws<|adR hS hC hn hI4 hh4 ahG CB hf2 tn (w:=l8 (gB o2 C) n) (bq rfl) ?_
 intro l6 s6 KL hl6
 rw[agI]at hl6
 refine Wg hl6 (λ_ _ h=>h) ?_
 have hq1:eqBy 20 .pi (iv<|l8 (gB o2 C) n) (iv<|l8 (gB o2 C) n)=some true:=by rw[bb,decide_eq_true rfl]
 refine Wq<|Wv rfl<|Wv rfl<|Wh rfl rfl hq1<|Wv rfl<|Wy<|Wv rfl<|Wy ?_
 refine Ww<|W1 (Ar (p:=0) (o:=Zz) hbd.hE.hB hbd.hE.hC hbd.hE.hT KL hbd.hE.hd hf2 rfl) ?_
 rintro _ s7 ⟨rfl,hs7⟩
 refine Wy<|Wr (.fld rfl rfl)<|Wy<|Wh (b:=true) rfl rfl rfl<|Wr (.cV rfl rfl)<|Wv rfl<|Wy ?_
 refine Ww<|W1 (hS.hW.hw _) ?_
 rintro _ _ ⟨rfl,rfl⟩
 refine Wr (.cV rfl rfl)<|Wv rfl<|Wn<|We ?_
 exact⟨rfl,rfl,λb o h=>hs7.mem<|.app<|.app h⟩
theorem adq {C:List CD}{n:Nat}{kc:Nat->Int}(hC:rq C n kc)(j:Nat):(0<=pw C j/\pw C j<=6)/\(0<=(chC C j).t/\(chC C j).t<=6):=by
 by_cases hj:j<n
 ·obtain⟨c,h1,h2,h3⟩:=hC.num j hj
  have e:chC C j=⟨c.power,c.qn,c.keys⟩:=by
   unfold chC
   rw[h1]
   show(⟨oP<|oP c.power,oP<|oP c.qn,c.keys⟩:CH)=_
   rw[wh (x:=c.power) (by omega),wh (x:=c.power)<|by omega,wh (x:=c.qn)<|by omega,wh (x:=c.qn)<|by omega]
  unfold pw
  rw[e]
  exact⟨h2,by show 0<=c.qn;omega,h3.2⟩
 ·have e:chC C j=⟨0,0,0⟩:=by
   unfold chC
   rw[List.getElem?_eq_none (by rw[hC.len];omega)]
  unfold pw
  rw[e]
  decide
theorem afs (ps:Nat->Nat)(tp:Nat->Bool)(n:Nat):CI (obF ps tp 0) n ps:=by
 have h:∀j,((decide (j<0)&&decide (ps j=0))=true)↔False:=λj=>by simp
 exact⟨⟨λ_ _=>rfl,λ_ _=>rfl,λ_ _=>rfl⟩,λ_ _=>rfl,λ_ _=>rfl,λ_ _=>rfl,λj _=>.inl<|show(if(decide (j<0)&&decide (ps j=0))=true then(2:Int)else 0)=0 from if_neg (h j).1,λ_ _=>.inl rfl,λ_ _ h=>nomatch h⟩
end
section
variable [Sg]{P:Program}{K:Orc}{F:Nat->FuncId}{T:Nat->TypeId}
theorem acM (hS:LawS P K F T) (hLm:BaseM P K F T) (hM:BaseK P K F T) (hc:aay P K F) {ih:bT} (hC:eL P K ih) {fn:Func} {c:Code} (hf:P.funcs[F 31]?=some fn) (hb:fn.body=some c) (hnt:fn.ntmps=97) (hres:fn.results.toList=[.tmp 2,.tmp 3]) (hname:(fn.name == "runtime.NumGoroutine")=false)
  (j5:cc P 97 (spine 6 c).2=ac9 F T) (hK:∀args H,K (F 31) args H=none) {f7:FuncId} {fn7:Func} {c7:Code} (hf7:P.funcs[f7]?=some fn7) (hb7:fn7.body=some c7) (afi:fn7.ntmps=272) (agF:fn7.results.toList=[.tmp 4]) (afh:(fn7.name == "runtime.NumGoroutine")=false)
  (afk:cc P 272 c7=.seq (.ops acd) (.seq (.ops<|adh F)<|ace F T)) (hK7:∀args H,K f7 args H=none) {k n:Nat} (hk0:1<=k) {ck:V->Bool} {p q:Bool} {w:V} (hpre:pre31 P ih c k n ck p q w (fhW p q)=true) {lv tv:AV} (hlv:VA w lv) (lm:∀v a,ck v=true->VA v a->a=lv)
  {L CL:List (List AV)} (XV:lenOf lv=some L.length) (XW:∀i,i<L.length->∃x z y w:Nat,x<=255/\z<=255/\y<=255/\w<=255/\L[i]?=some [.int .u8 (.ofNat x),.int .u8<|.ofNat z,.int .u8<|.ofNat y,.int .u8<|.ofNat w]/\(i<n->Sg.num (4*i+2)=(y:Int)))
  (hLc:∀a m c sl rw,lv=.slice a m c sl rw->m<=c) (hn:n=min L.length 8) (h0L:0<L.length->p=true/\∃cap sl,lv=.slice (some ⟨0,0,0⟩) L.length cap sl 4) (hp:p=true->(HO.r true L 4).ok (some<|Sg.iK 0))
  (qY:lenOf tv=some CL.length) (h0T:0<CL.length->q=true/\∃cap sl,tv=.slice (some ⟨1,0,0⟩) CL.length cap sl 1) (hq:q=true->(HO.r true CL 1).ok (some<|Sg.iK 1)) (hCb:∀i,i<CL.length->∃x:Nat,x<=255/\CL[i]?=some [.int .u8 (.ofNat x)]) :
  ∃H',CallsTo P K f7 [lv,tv] (H2b p q (Sg.iK 0)<|Sg.iK 1) (.bool true) H'/\(p=true->(HO.r true L 4).ok (H'.get 0))/\(q=true->(HO.r true CL 1).ok (H'.get 1)):=by
 obtain⟨e0,iL,XN⟩:=mG 272 [lv,tv]
 let ky:Nat->Nat:=λj=>match L[j]? with | some [_,_,.int .u8<|.ofNat y,_]=>y | _=>0
 let ps:Nat->Nat:=λj=>match L[j]? with | some [_,_,_,.int .u8<|.ofNat y]=>y%2 | _=>0
 have Pw:∀i,i<L.length->∃x z y w:Nat,x<=255/\z<=255/\y<=255/\w<=255/\L[i]?=some [.int .u8 (.ofNat x),.int .u8<|.ofNat z,.int .u8<|.ofNat y,.int .u8<|.ofNat w]/\y=ky i/\w%2=ps i:=by
  intro i hi
  obtain⟨x,z,y,w,h1,h2,h3,h4,h5,_⟩:=XW i hi
  refine⟨x,z,y,w,h1,h2,h3,h4,h5,?_,?_⟩
  ·show _=(match L[i]? with | some [_,_,.int .u8<|.ofNat y,_]=>y | _=>0)
   rw[h5]
  ·show _=(match L[i]? with | some [_,_,_,.int .u8<|.ofNat y]=>y%2 | _=>0)
   rw[h5]
 have PV:∀j,j<n->Sg.num (4*j+2)=(ky j:Int)/\ky j<256:=by
  intro j hj
  obtain⟨x,z,y,w,_,_,h3,_,h5,h6⟩:=XW j<|by omega
  have:ky j=y:=by
   show(match L[j]? with | some [_,_,.int .u8<|.ofNat y,_]=>y | _=>0)=_
   rw[h5]
  rw[this]
  exact⟨h6 hj,by omega⟩
 obtain⟨H3,s3,z0,ids,EL,og,j,C,w1,w2,w3,w4,wG,wC,wR,wp,wq⟩:=acB hS.hW.hU.hB hS.hW.hX hc.cF hC hf hb hnt hres hname j5 hK (ae4 p q) ⟨rfl,(λD hD=>by cases hD),rfl⟩ hk0 hpre hlv lm (λ_=>false) XV Pw hn h0L hp hq<|λj hj=>(PV j hj).1
 have hwy:WOy P K acd [(0,lv),(1,tv)] (λl'=>∀y w,lk [(0,lv),(1,tv)] y=some w->lk l' y=some w):=by
  unfold acd
  exact WOy.r (.mv rfl)<|WOy.nil<|bq rfl
 have UY:En [(0,lv),(1,tv)] e0:=by
  intro i v hi
  simp only[lu]at hi
  split at hi
  ·rename_i h;cases hi;rw[<- h];exact XN 0 _ rfl
  ·split at hi
   ·rename_i h;cases hi;rw[<- h];exact XN 1 _ rfl
   ·cases hi
 obtain⟨xx,e'',Xu,H2,l',s',r1,r2,r3,r4⟩:=hwy.seq2 UY (ds:=[]) (H:=H2b p q (Sg.iK 0)<|Sg.iK 1) (H0:=⟨.lf,0⟩) (nt:=272) (Qn:=Kj) (Qe:=λ_=>Kj) (Qr:=λl ds s=>ds=[]/\lk l 4=some (.bool true)/\∀b o,Has b o (tl7 k n C z0)->Has b o s) (λl6 e6 hl6 hE6=>by
  have g0:En [(0,lv),(1,tv)] e6:=λi v hi=>hE6 i v<|hl6 i v hi
  have g1:=g0.putO (some 30) lv
  unfold adh
  refine WOa.r (.mv rfl) g0<|WOa.cons (qu.call (fv:=.func (F 31) [] []) (vs:=[lv]) rfl ?_<|ki.func w1)<|WOa.of ?_ (g1.putO (some 31) _) w2
  ·simp only[aI,aG g1 (x:=.tmp 30) (v:=lv) rfl]
  ·refine Wv rfl (Wr (.extract rfl rfl)<|Wr (.extract rfl rfl)<|Wv rfl<|Wv rfl<|Wn ?_)
   exact abZ hS hLm hM hc wC (by omega) ⟨qY,λh=>by
    obtain⟨h1,cap,sl,h2⟩:=h0T h
    exact⟨1,cap,sl,h2,.there (.there (wq h1))⟩,hCb⟩ (λj=>(adq wC j).1) (λj _=>by have:=(adq wC j).2;omega) (afs ps (λ_=>false) n) w3 (by omega) wG .here wR (bq rfl)) afk
 cases xx with
 | normal=>exact r4.elim
 | exit i=>exact r4.elim
 | ret=>
  obtain⟨rfl,u4,hm⟩:=r4
  refine⟨H2,CallsTo.enter (hK7 _ _) hf7 hb7 (by rw[afi,afh];rfl) (by rw[afi];exact iL) (by rw[afi];exact r1) (.inl rfl) ?_,λh=>(r3.has<|hm _ _<|.there<|.there<|wp h).2,λh=>(r3.has<|hm _ _<|.there<|.there<|wq h).2⟩
  have e4:resultOf P e'' H2 (.tmp 4)=some (.bool true):=r2 4 _ u4
  rw[agF]
  show(match aI (resultOf P e'' H2) [.tmp 4]with | some [v]=>some v | some vs=>some (.tuple vs) | none=>none)=_
  simp only[aI,e4]
end
inductive C10 (F:Nat->FuncId):FuncId->List AV->Heap->AV->Heap->Prop
 | w (H:Heap):C10 F (F 33) [] H (.bool true) H
 | cN (H:Heap) (p c:Int):0<=p/\p<=1->1<=c/\c<=8->C10 F (F 201) [.agg (evRow 1 p c 2 0 it0)] H (iv 0) H
 | cS (H:Heap) (a:Int):1<=a/\a<=8->C10 F (F 201) [.agg (evRow 4 a 0 0 0 it0)] H (iv 0) H
 | cT (H:Heap) (a:Int):1<=a/\a<=8->C10 F (F 201) [.agg (evRow 3 a 0 1 0 it0)] H (iv 0) H
 | cA (H:Heap) (a:Int):1<=a/\a<=8->C10 F (F 201) [.agg (evRow 12 a 2 0 0 it0)] H (iv 0) H
 | cB (H:Heap) (a b:Int):1<=a/\a<=8->1<=b/\b<=8->C10 F (F 201) [.agg (evRow 13 a b 0 0 it0)] H (iv 0) H
 | cP (H:Heap) (a:Int):1<=a/\a<=8->C10 F (F 201) [.agg (evRow 14 a 0 1 0 it0)] H (iv 0) H
 | cH (H:Heap) (a m:Int):1<=a/\a<=8->1<=m/\m<=6->C10 F (F 201) [.agg (evRow 5 a 0 m 0 it0)] H (iv 0) H
 | cL (H:Heap) (m:Int):-6<=m/\m<=-1->C10 F (F 201) [.agg (evRow 7 (.ofNat 1) 0 m 0 it0)] H (iv 0) H
theorem C10.uniq {F:Nat->FuncId}(hne:F 33≠F 201){f:FuncId}{args:List AV}{H:Heap}{v u:AV}{H' I:Heap}(h:C10 F f args H v H')(h2:C10 F f args H u I):u=v/\I=H':=by
 have key:∀{f:FuncId}{args:List AV}{H:Heap}{v:AV}{H':Heap},C10 F f args H v H'->H'=H/\((f=F 33/\v=.bool true)\/(f=F 201/\v=iv 0)):=by
  intro f args H v H' h
  cases h<;>first | exact⟨rfl,.inl ⟨rfl,rfl⟩⟩ | exact⟨rfl,.inr ⟨rfl,rfl⟩⟩
 have q1:=key h
 have q2:=key h2
 refine⟨?_,by rw[q2.1,q1.1]⟩
 rcases q1.2 with⟨e1,w1⟩|⟨e1,w1⟩<;>rcases q2.2 with⟨e2,w2⟩|⟨e2,w2⟩<;>first|(rw[w1,w2];done)|exact absurd (e1.symm.trans e2) hne|exact absurd (e2.symm.trans e1) hne
theorem says10_known {P:Program}{F:Nat->FuncId}(hne:F 33≠F 201){f:FuncId}{args:List AV}{v:AV}(h:∀H,C10 F f args H v H):∀s,bB P (orcOf (C10 F)) f args s (λu s'=>u=v/\s'=s):=λs=>
 bB.known (λH=>kG (h H) λu I h2=>C10.uniq hne (h H) h2) ⟨rfl,rfl⟩
theorem says10 {P:Program}{F:Nat->FuncId}(hne:F 33≠F 201):aay P (orcOf (C10 F)) F where
 cF:={
  cN:=λp c hp h1 h2=>says10_known hne λH=>.cN H _ _ (afr (m:=1)<|by omega)<|C5 h1 h2
  cS:=λa h1 h2=>says10_known hne λH=>.cS H _<|C5 h1 h2
  cT:=λa h1 h2=>says10_known hne λH=>.cT H _<|C5 h1 h2
  cA:=λa h1 h2=>says10_known hne λH=>.cA H _ (C5 h1 h2) }
 cB:=λa b h1 h2 h3 h4=>says10_known hne λH=>.cB H _ _ (C5 h1 h2)<|C5 h3 h4
 cP:=λa h1 h2=>says10_known hne λH=>.cP H _<|C5 h1 h2
 cH:=λa m h1 h2 h3 h4=>says10_known hne λH=>.cH H _ m (C5 h1 h2) ⟨h3,h4⟩
 cL:=λm h1 h2=>says10_known hne λH=>.cL H m ⟨h1,h2⟩
theorem orc10_w {F:Nat->FuncId}(hne:F 33≠F 201)(H:Heap):orcOf (C10 F) (F 33) [] H=some (.bool true,H):=kG (.w H) λu I h=>C10.uniq hne (.w H) h
theorem orc10_none {F:Nat->FuncId}{f:FuncId}(h1:f≠F 33)(h2:f≠F 201)(args:List AV)(H:Heap):orcOf (C10 F) f args H=none:=
 wn λu I h=>by cases h<;>first | exact h1 rfl | exact h2 rfl
theorem orc10_ok {P:Program}{F:Nat->FuncId}(kw:gW P (F 33) [] vu (.bool true) vu)(kN:∀p c:Int,0<=p/\p<=1->1<=c/\c<=8->gW P (F 201) [.agg (evRow 1 p c 2 0 it0)] vu (iv 0) vu)
  (kS:∀a:Int,1<=a/\a<=8->gW P (F 201) [.agg (evRow 4 a 0 0 0 it0)] vu (iv 0) vu) (kT:∀a:Int,1<=a/\a<=8->gW P (F 201) [.agg (evRow 3 a 0 1 0 it0)] vu (iv 0) vu) (kA:∀a:Int,1<=a/\a<=8->gW P (F 201) [.agg (evRow 12 a 2 0 0 it0)] vu (iv 0) vu)
  (kB:∀a b:Int,1<=a/\a<=8->1<=b/\b<=8->gW P (F 201) [.agg (evRow 13 a b 0 0 it0)] vu (iv 0) vu) (kP:∀a:Int,1<=a/\a<=8->gW P (F 201) [.agg (evRow 14 a 0 1 0 it0)] vu (iv 0) vu)
  (kH:∀a m:Int,1<=a/\a<=8->1<=m/\m<=6->gW P (F 201) [.agg (evRow 5 a 0 m 0 it0)] vu (iv 0) vu) (kL:∀m:Int,-6<=m/\m<=-1->gW P (F 201) [.agg (evRow 7 (.ofNat 1) 0 m 0 it0)] vu (iv 0) vu):OrcOk P (orcOf<|C10 F):=by
 refine DX λf args H v H' h=>?_
 cases h with
 | w=>exact kw.anywhere (λ_=>rfl) (λ_=>rfl) _
 | cN _ p c h1 h2=>exact(kN p c h1 h2).anywhere (λ_=>rfl) (λ_=>rfl) _
 | cS _ a h1=>exact(kS a h1).anywhere (λ_=>rfl) (λ_=>rfl) _
 | cT _ a h1=>exact(kT a h1).anywhere (λ_=>rfl) (λ_=>rfl) _
 | cA _ a h1=>exact(kA a h1).anywhere (λ_=>rfl) (λ_=>rfl) _
 | cB _ a b h1 h2=>exact(kB a b h1 h2).anywhere (λ_=>rfl) (λ_=>rfl) _
 | cP _ a h1=>exact(kP a h1).anywhere (λ_=>rfl) (λ_=>rfl) _
 | cH _ a m h1 h2=>exact(kH a m h1 h2).anywhere (λ_=>rfl) (λ_=>rfl) _
 | cL _ m h1=>exact(kL m h1).anywhere (λ_=>rfl) (λ_=>rfl) _
structure TrnK (P:Program)(K:Orc)(F:Nat->FuncId)(T:Nat->TypeId)(f:FuncId)(fn:Func)(c:Code)(aaL:Func)(c31:Code)(R:iB)(m:Nat):Prop where
 mixed:P.follows .mixedOrders=true
 orc:OrcOk P K
 base:LawS P K F T
 baseM:BaseM P K F T
 baseK:BaseK P K F T
 says:aay P K F
 rule:∀S:Sg,@Bh S R K
 func:P.funcs[f]?=some fn
 body:fn.body=some c
 nt:fn.ntmps=272
 res:fn.results.toList=[.tmp 4]
 name:(fn.name == "runtime.NumGoroutine")=false
 rest:cc P 272 c=.seq (.ops acd) (.seq (.ops<|adh F)<|ace F T)
 free:∀args H,K f args H=none
 func31:P.funcs[F 31]?=some aaL
 body31:aaL.body=some c31
 nt31:aaL.ntmps=97
 res31:aaL.results.toList=[.tmp 2,.tmp 3]
 name31:(aaL.name == "runtime.NumGoroutine")=false
 rest31:cc P 97 (spine 6 c31).2=ac9 F T
 free31:∀args H,K (F 31) args H=none
 runN:∀q,pre31 P (callF P R m) c31 1 0 (λv=>isA v nilS) false q (mkV nilS) (fhW false q)=true
 runE:∀q,pre31 P (callF P R m) c31 1 0 (λv=>isA v .empty) false q (mkV .empty) (fhW false q)=true
 runS:∀q n,0<n->n<=8->pre31 P (callF P R m) c31 (23*n+1) n isFs true q (fgL n n 1) (fhW true q)=true
 runL:∀q,pre31 P (callF P R m) c31 185 8 isFs true q (fgL 8 9 0) (fhW true q)=true
section
variable {P:Program}{K:Orc}{F:Nat->FuncId}{T:Nat->TypeId}{f:FuncId}{fn:Func}{c:Code}{aaL:Func}{c31:Code}{R:iB}{m:Nat}
theorem V1 (hl:TrnK P K F T f fn c aaL c31 R m){p q:Bool}{k n:Nat}(hk0:1<=k){ck:V->Bool}{v1:V}(hpre:pre31 P (callF P R m) c31 k n ck p q v1 (fhW p q)=true){T1 T2:Tr (List AV)}{len cap sT:Nat}{x z y w:Nat->Int}{b:Nat->Int}
  (hx:∀i,0<=x i/\x i<=255) (hz:∀i,0<=z i/\z i<=255) (hy:∀i,0<=y i/\y i<=255) (hw:∀i,0<=w i/\w i<=255) (hT1:∀i,i<len->T1.get i=some (four x z y w i)) (hb:∀i,0<=b i/\b i<=255) (hT2:∀i,i<sT->T2.get i=some [.int .u8 (b i)])
  {lv tv:AV} (hlv:@VA (sg7 T1 T2 len cap sT x z y w) v1 lv) (lm:∀v a,ck v=true->@VA (sg7 T1 T2 len cap sT x z y w) v a->a=lv) (XV:lenOf lv=some len) (hLc:∀a m c sl rw,lv=.slice a m c sl rw->m<=c) (hn:n=min len 8) (h0L:0<len->p=true/\∃cap sl,lv=.slice (some ⟨0,0,0⟩) len cap sl 4)
  (qY:lenOf tv=some sT) (h0T:0<sT->q=true/\∃cap sl,tv=.slice (some ⟨1,0,0⟩) sT cap sl 1) {W:World} {b1 o1 b2 o2:Nat} {cs1 cs2:Array Value} {e1 e2:TypeId} {z1 z2:Nat × Nat}
  (hw1:p=true->W.heap[b1]?=some (.cells cs1 e1 z1)/\∀i,i<len->cs1[o1+i*4]?=some (.int .u8<|x i)/\cs1[o1+i*4+1]?=some (.int .u8<|z i)/\cs1[o1+i*4+2]?=some (.int .u8<|y i)/\cs1[o1+i*4+3]?=some (.int .u8<|w i))
  (Y8:q=true->W.heap[b2]?=some (.cells cs2 e2 z2)/\∀i,i<sT->cs2[o2+i]?=some (.int .u8<|b i)) {x1 x2:Value}
  (fe:VR (g7 p q ⟨b1,o1,0,4,some<|.cells cs1 e1 z1⟩ ⟨b2,o2,0,1,some<|.cells cs2 e2 z2⟩) lv x1) (iI:VR (g7 p q ⟨b1,o1,0,4,some<|.cells cs1 e1 z1⟩ ⟨b2,o2,0,1,some<|.cells cs2 e2 z2⟩) tv x2) :
  Calls P f #[x1,x2] W λe w'=>e=.returned (.bool true)/\W.keptBut w' (λ_=>False):=by
 letI:Sg:=sg7 T1 T2 len cap sT x z y w
 have IH:((List.range len).map (four x z y w)).length=len:=by rw[List.length_map,List.length_range]
 have hTl:((List.range sT).map λi=>[AV.int .u8 (b i)]).length=sT:=by rw[List.length_map,List.length_range]
 have T7:∀i,i<len->((List.range len).map (four x z y w))[i]?=some (four x z y w i):=λi hi=>by rw[List.getElem?_map,List.getElem?_range hi];rfl
 have hTi:∀i,i<sT->((List.range sT).map λi=>[AV.int .u8 (b i)])[i]?=some [AV.int .u8 (b i)]:=λi hi=>by rw[List.getElem?_map,List.getElem?_range hi];rfl
 obtain⟨H',⟨mm,h1⟩,h2,h3⟩:=acM hl.base hl.baseM hl.baseK hl.says (kX P (hl.rule _) m) hl.func31 hl.body31 hl.nt31 hl.res31 hl.name31 hl.rest31 hl.free31 hl.func hl.body hl.nt hl.res hl.name hl.rest hl.free hk0 hpre hlv lm (L:=(List.range len).map (four x z y w)) (CL:=(List.range sT).map λi=>[AV.int .u8 (b i)]) (tv:=tv)
  (by rw[IH];exact XV) (λi hi=>by
   rw[IH]at hi
   have g1:=hx i
   have g2:=hz i
   have g3:=hy i
   have g4:=hw i
   have e1:x i=.ofNat (x i).toNat:=(Int.toNat_of_nonneg g1.1).symm
   have e2:z i=.ofNat (z i).toNat:=(Int.toNat_of_nonneg g2.1).symm
   have e3:y i=.ofNat (y i).toNat:=(Int.toNat_of_nonneg g3.1).symm
   have e4:w i=.ofNat (w i).toNat:=(Int.toNat_of_nonneg g4.1).symm
   refine⟨(x i).toNat,(z i).toNat,(y i).toNat,(w i).toNat,by omega,by omega,by omega,by omega,by rw[T7 i hi,<- e1,<- e2,<- e3,<- e4];rfl,λhin=>?_⟩
   rw[show((y i).toNat:Int)=y i from e3.symm]
   show dec ((4*i+2)/1000) (if(4*i+2)%1000=900 then(len:Int)else if(4*i+2)%1000=901 then(cap:Int)else match (4*i+2)%1000%4 with | 0=>x ((4*i+2)%1000/4) | 1=>z ((4*i+2)%1000/4) | 2=>y ((4*i+2)%1000/4) | _=>w<|(4*i+2)%1000/4)=y i
   rw[show(4*i+2)/1000=0 by omega,show(4*i+2)%1000=4*i+2 by omega,if_neg<|by omega,if_neg<|by omega,show(4*i+2)%4=2 by omega,show(4*i+2)/4=i by omega]
   rfl)
  hLc (by rw[IH];exact hn) (by rw[IH];exact h0L) (λ_=>⟨T1,by rw[IH];rfl,λi row hi=>by
   have hlt:i<len:=by
    have:=(List.getElem?_eq_some_iff.1 hi).1
    rw[IH]at this;exact this
   rw[T7 i hlt]at hi
   cases hi
   exact⟨hT1 i hlt,rfl⟩⟩) (by rw[hTl];exact qY) (by rw[hTl];exact h0T) (λ_=>⟨T2,by rw[hTl];rfl,λi row hi=>by
   have hlt:i<sT:=by
    have:=(List.getElem?_eq_some_iff.1 hi).1
    rw[hTl]at this;exact this
   rw[hTi i hlt]at hi
   cases hi
   exact⟨hT2 i hlt,rfl⟩⟩) (λi hi=>by
   rw[hTl]at hi
   have g:=hb i
   have e:b i=.ofNat (b i).toNat:=(Int.toNat_of_nonneg g.1).symm
   exact⟨(b i).toNat,by omega,by rw[hTi i hi,<- e]⟩)
 have hHR:HR ⟨λk _=>k<W.heap.size/\(p=true->k≠b1)/\(q=true->k≠b2),λ_=>False⟩ W (g7 p q ⟨b1,o1,0,4,some<|.cells cs1 e1 z1⟩ ⟨b2,o2,0,1,some<|.cells cs2 e2 z2⟩) (H2b p q (Sg.iK 0)<|Sg.iK 1) W:=by
  have only:∀b o,(H2b p q (Sg.iK 0)<|Sg.iK 1).get b=some o->(p=true/\b=0/\o=.rows T1 len 4 true)\/(q=true/\b=1/\o=.rows T2 sT 1 true):=by
   intro b o hb
   rw[acb]at hb
   split at hb
   ·rename_i e
    obtain⟨h,rfl⟩:=l5 hb
    exact .inl ⟨h,e,rfl⟩
   ·split at hb
    ·rename_i e
     obtain⟨h,rfl⟩:=l5 hb
     exact .inr ⟨h,e,rfl⟩
    ·cases hb
  refine⟨?_,?_,?_,?_,λk _ hk=>⟨hk.1,rfl⟩,Nat.le_refl _,⟨rfl,rfl⟩,λb hb=>hb.elim,λk t h=>h,λb o d hb hw hd=>by rcases only b o hb with⟨_,_,rfl⟩ | ⟨_,_,rfl⟩<;>cases hw⟩
  ·intro b' o hb
   rcases only b' o hb with⟨hp,rfl,rfl⟩|⟨hq,rfl,rfl⟩
   ·subst hp
    obtain⟨hc,hcell⟩:=hw1 rfl
    refine⟨⟨b1,o1,0,4,some<|.cells cs1 e1 z1⟩,rfl,?_⟩
    refine⟨rfl,cs1,e1,z1,hc,hc,trivial,λi row hi ht=>?_⟩
    rw[hT1 i hi]at ht
    cases ht
    refine⟨rfl,λj v hj=>?_⟩
    match j,hj with
    | 0,hj=>cases hj;exact⟨_,(hcell i hi).1,rfl,rfl⟩
    | 1,hj=>cases hj;exact⟨_,(hcell i hi).2.1,rfl,rfl⟩
    | 2,hj=>cases hj;exact⟨_,(hcell i hi).2.2.1,rfl,rfl⟩
    | 3,hj=>cases hj;exact⟨_,(hcell i hi).2.2.2,rfl,rfl⟩
   ·subst hq
    obtain⟨hc,hcell⟩:=Y8 rfl
    refine⟨⟨b2,o2,0,1,some<|.cells cs2 e2 z2⟩,rfl,?_⟩
    refine⟨rfl,cs2,e2,z2,hc,hc,trivial,λi row hi ht=>?_⟩
    rw[hT2 i hi]at ht
    cases ht
    refine⟨rfl,λj v hj=>?_⟩
    match j,hj with
    | 0,hj=>cases hj;exact⟨_,(by show cs2[o2+i*1]?=_;rw[Nat.mul_one];exact hcell i hi),rfl,rfl⟩
  ·intro u u' o o' d d' hb hb' hd hd' he
   rcases only u o hb with⟨hp,rfl,rfl⟩|⟨hq,rfl,rfl⟩<;>rcases only u' o' hb' with⟨CL,rfl,rfl⟩|⟨vw,rfl,rfl⟩
   ·rfl
   ·exfalso
    obtain⟨_,rfl⟩:=l5<|show tf p _=some d from hd
    obtain⟨_,rfl⟩:=l5<|show tf q _=some d' from hd'
    exact(show¬(4=0\/1=0\/4=1) by decide) he.2
   ·exfalso
    obtain⟨_,rfl⟩:=l5<|show tf q _=some d from hd
    obtain⟨_,rfl⟩:=l5<|show tf p _=some d' from hd'
    exact(show¬(1=0\/4=0\/1=4) by decide) he.2
   ·rfl
  ·intro u hb
   have hb:2<=u:=hb
   show(if u=0 then _ else if u=1 then _ else none)=none
   rw[if_neg (by omega),if_neg<|by omega]
  ·intro u o d hb _ hd
   rcases only u o hb with⟨hp,rfl,rfl⟩|⟨hq,rfl,rfl⟩
   ·obtain⟨h,rfl⟩:=l5 (show tf p _=some d from hd)
    exactλk=>k.2.1 h rfl
   ·obtain⟨h,rfl⟩:=l5 (show tf q _=some d from hd)
    exactλk=>k.2.2 h rfl
 refine callsIn_wide.1<|CallsIn.mono (qO hl.mixed hl.orc hHR (args:=[lv,tv]) (xs:=[x1,x2]) ⟨_,_,fe,⟨_,_,iI,rfl,rfl⟩,rfl⟩ h1).2 ?_
 rintro e w' ⟨u,rfl,g',hle,hv,hh⟩
 have:u=.bool true:=hv
 subst this
 refine⟨rfl,pO (λk hk=>?_) hh.os.1 hh.os.2⟩
 by_cases hkp:p=true/\k=b1
 ·obtain⟨hp,rfl⟩:=hkp
  obtain⟨t,h3,h4⟩:=h2 hp
  obtain⟨d,hd,X8⟩:=hh.obj 0 _ h3
  have:=hle 0 ⟨k,o1,0,4,some<|.cells cs1 e1 z1⟩ (by subst hp;rfl)
  rw[hd]at this
  cases this
  obtain⟨_,_,_,_,_,e2,_⟩:=X8
  have e2:w'.heap[k]?=some (.cells cs1 e1 z1):=e2
  rw[e2,(hw1 hp).1]
 by_cases hkq:q=true/\k=b2
 ·obtain⟨hq,rfl⟩:=hkq
  obtain⟨t,h3,h4⟩:=h3 hq
  obtain⟨d,hd,X8⟩:=hh.obj 1 _ h3
  have:=hle 1 ⟨k,o2,0,1,some<|.cells cs2 e2 z2⟩ (by subst hq;rfl)
  rw[hd]at this
  cases this
  obtain⟨_,_,_,_,_,e2',_⟩:=X8
  have e2':w'.heap[k]?=some (.cells cs2 e2 z2):=e2'
  rw[e2',(Y8 hq).1]
 exact(hh.keep k 0 ⟨hk,λh e=>hkp ⟨h,e⟩,λh e=>hkq ⟨h,e⟩⟩).2
inductive ZArg (W:World):Value->Bool->Nat->Prop
 | nil {b:Nat}:ZArg W (.slice none 0 0) false b
 | emp {a:Addr} {cap b:Nat}:ZArg W (.slice (some a) 0 cap) false b
 | full {b o len cap:Nat} {cs:Array Value} {e:TypeId} {fz:Nat × Nat} {t:Nat->Int} (ht:∀i,0<=t i/\t i<=255) (h0:0<len) (hc:W.heap[b]?=some (.cells cs e fz)) (hcell:∀i,i<len->cs[o+i]?=some (.int .u8<|t i)):ZArg W (.slice (some ⟨b,o,none⟩) len cap) true b
theorem ZArg.ok {W:World}{x2:Value}{q:Bool}{b2:Nat}(h:ZArg W x2 q b2):∃(T2:Tr (List AV))(sT:Nat)(b:Nat->Int)(tv:AV)(o2:Nat)(cs2:Array Value)(e2:TypeId)(z2:Nat × Nat),(∀i,0<=b i/\b i<=255)/\(∀i,i<sT->T2.get i=some [.int .u8 (b i)])/\lenOf tv=some sT/\(0<sT->q=true/\∃cap sl,tv=.slice (some ⟨1,0,0⟩) sT cap sl 1) /\
  (q=true->W.heap[b2]?=some (.cells cs2 e2 z2)/\∀i,i<sT->cs2[o2+i]?=some (.int .u8<|b i))/\∀p d1,VR (g7 p q d1 ⟨b2,o2,0,1,some<|.cells cs2 e2 z2⟩) tv x2:=by
 cases h with
 | nil=>exact⟨.lf,0,λ_=>0,.slice none 0 0 false 0,0,#[],0,(0,0),(λ_=>⟨Int.le_refl 0,(by decide:(0:Int)<=255)⟩),λi h=>absurd h<|Nat.not_lt_zero _,rfl,λh=>absurd h<|Nat.not_lt_zero _,(λh=>nomatch h),λp d1=>⟨rfl,rfl⟩⟩
 | emp=>exact⟨.lf,0,λ_=>0,.empty,0,#[],0,(0,0),(λ_=>⟨Int.le_refl 0,(by decide:(0:Int)<=255)⟩),λi h=>absurd h<|Nat.not_lt_zero _,rfl,λh=>absurd h<|Nat.not_lt_zero _,(λh=>nomatch h),λp d1=>⟨_,_,rfl⟩⟩
 | @full b o len cap cs e fz t ht h0 hc hcell=>
  obtain⟨T',qY⟩:=em<|(List.range len).map λi=>[AV.int .u8 (t i)]
  refine⟨T',len,t,.slice (some ⟨1,0,0⟩) len cap false 1,o,cs,e,fz,ht,λi hi=>by rw[cM qY,List.getElem?_map,List.getElem?_range hi];rfl,rfl,λ_=>⟨rfl,cap,false,rfl⟩,λ_=>⟨hc,hcell⟩,λp d1=>⟨_,rfl,λ_=>⟨rfl,rfl⟩,by simp[gX]⟩⟩
theorem trnK_law (hl:TrnK P K F T f fn c aaL c31 R m){W:World}{x1 x2:Value}{p q:Bool}{b1 b2:Nat}(h1:FArg W x1 p b1)(h2:ZArg W x2 q b2):Calls P f #[x1,x2] W λe w'=>e=.returned (.bool true)/\W.keptBut w' (λ_=>False):=by
 obtain⟨T2,sT,b,tv,o2,cs2,e2,z2,hbb,hT2,qY,h0T,Y8,iI⟩:=h2.ok
 have b0:∀i:Nat,0<=(λ_=>0:Nat->Int) i/\(λ_=>0:Nat->Int) i<=255:=λ_=>⟨Int.le_refl 0,(by decide:(0:Int)<=255)⟩
 cases h1 with
 | nil=>exact V1 hl (k:=1) (n:=0) (Nat.le_refl 1) (hl.runN q) (T1:=.lf) (len:=0) (cap:=0) b0 b0 b0 b0 (λi h=>absurd h<|Nat.not_lt_zero _) hbb hT2 (lv:=.slice none 0 0 false 0) (@VA.mkV (sg7 ..) _) (λv a h hv=>@vD (sg7 ..) _ _ _ hv h) rfl (λa m c sl rw h=>by cases h;exact Nat.le_refl _) rfl (λh=>absurd h<|Nat.lt_irrefl 0) qY h0T (b1:=b1) (o1:=0) (cs1:=#[]) (e1:=0) (z1:=(0,0)) (λh=>nomatch h) Y8 ⟨rfl,rfl⟩<|iI _ _
 | emp=>exact V1 hl (k:=1) (n:=0) (Nat.le_refl 1) (hl.runE q) (T1:=.lf) (len:=0) (cap:=0) b0 b0 b0 b0 (λi h=>absurd h<|Nat.not_lt_zero _) hbb hT2 (lv:=.empty) (@VA.mkV (sg7 ..) _) (λv a h hv=>@vD (sg7 ..) _ _ _ hv h) rfl (λa m c sl rw h=>by cases h) rfl (λh=>absurd h<|Nat.lt_irrefl 0) qY h0T (b1:=b1) (o1:=0) (cs1:=#[]) (e1:=0) (z1:=(0,0)) (λh=>nomatch h) Y8 ⟨_,_,rfl⟩<|iI _ _
 | @full _ o len cap cs e fz x z y w hx hz hy hw h0 hle hmx hc hcell=>
  obtain⟨T1,ahu⟩:=em<|(List.range len).map (four x z y w)
  have hT1:∀i,i<len->T1.get i=some (four x z y w i):=λi hi=>by rw[cM ahu,List.getElem?_map,List.getElem?_range hi];rfl
  have fe:∀d2,VR (g7 true q ⟨b1,o,0,4,some<|.cells cs e fz⟩ d2) (.slice (some ⟨0,0,0⟩) len cap false 4) (.slice (some ⟨b1,o,none⟩) len cap):=λd2=>⟨_,rfl,λ_=>⟨rfl,rfl⟩,by simp[gX]⟩
  by_cases h8:len<=8
  ·refine V1 hl (k:=23*len+1) (n:=len) (by omega) (hl.runS q len h0 h8) (cap:=cap) hx hz hy hw hT1 hbb hT2 (lv:=.slice (some ⟨0,0,0⟩) len cap false 4) ?_ (λv a h hv=>@acm (sg7 ..) _ _ _ _ h hv rfl rfl) rfl (λa m c sl rw h=>by cases h;exact hle) (by omega) (λ_=>⟨rfl,cap,false,rfl⟩) qY h0T (λ_=>⟨hc,hcell⟩) Y8 (fe _) (iI _ _)
   exact@VA.fgL (sg7 ..) len len 1 len cap len x z y w T1 hx hz hy hw (.inr rfl) rfl rfl (Nat.le_refl _) (λ_=>rfl) hmx rfl (Nat.le_refl _) (Nat.le_refl _) h8 hT1 λi hi=>acr<|by omega
  ·refine V1 hl (k:=185) (n:=8) (by omega) (hl.runL q) (cap:=cap) hx hz hy hw hT1 hbb hT2 (lv:=.slice (some ⟨0,0,0⟩) len cap false 4) ?_ (λv a h hv=>@acm (sg7 ..) _ _ _ _ h hv rfl rfl) rfl (λa m c sl rw h=>by cases h;exact hle) (by omega) (λ_=>⟨rfl,cap,false,rfl⟩) qY h0T (λ_=>⟨hc,hcell⟩) Y8 (fe _) (iI _ _)
   exact@VA.fgL (sg7 ..) 8 9 0 len cap len x z y w T1 hx hz hy hw (.inl rfl) rfl rfl (by omega) (λh=>nomatch h) hmx rfl (by omega) (by omega) (Nat.le_refl _) (λi hi=>hT1 i<|by omega) λi hi=>acr hi

end
end Go.Ev
