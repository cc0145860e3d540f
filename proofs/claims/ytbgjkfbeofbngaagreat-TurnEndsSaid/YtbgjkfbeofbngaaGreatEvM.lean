/- Walks and rules. Conditions: none. -/
import Derived.Test.YtbgjkfbeofbngaaGreatEvL
set_option linter.unusedVariables false
set_option linter.unusedSectionVars false
namespace Go.Ev
section
variable {P:Program}{K:Orc}{rd:Option Nat}{nt:Nat}{l:Sl}{ds:List aD}{s:SH}{Q Qn Qr:Po}{Qe:Nat->Po}{F:Nat->FuncId}{T:Nat->TypeId}{bf bl:Nat}{aZ bE:AV}{c0 c1 c2 c3 c4:Int}{EL:List (List AV)}{d:SD}{t:SH}{tF:TypeId}{g:ED->CH->CH}{C:List CD}
variable {o:OD}{id:Int}{b:Nat}
theorem acJ (hQ:BaseQ P K F T)(hb:Has b (.r false [[iv id]] 1) s):bB P K (F 208) [.agg o.row,.ptr (some ⟨b,0,0⟩)] s (λv s'=>v=.bool (decide (o.id=id))/\∃m,s'=m++s):=by
 refine hQ.f208.cF ?_
 have h:eqBy 20 .pi (iv o.id) (iv id)=some (decide<|o.id=id):=cD _ _
 refine Vk (k:=λb2=>Vk (k:=We<|Wm (.tmp rfl .nil) ?_))
 exact⟨rfl,[_],rfl⟩
variable {p:Int}
theorem acp (hQ:BaseQ P K F T)(hb:Has b (.r false [[iv p]] 1) s):bB P K (F 209) [.agg o.row,.ptr (some ⟨b,0,0⟩)] s (λv s'=>v=.bool (decide (o.aQ=p))/\∃m,s'=m++s):=by
 refine hQ.f209.cF ?_
 have h:eqBy 20 .pi (iv o.aQ) (iv p)=some (decide<|o.aQ=p):=cD _ _
 refine Vk (k:=λb2=>Vk (k:=We<|Wm (.tmp rfl .nil) ?_))
 exact⟨rfl,[_],rfl⟩
theorem adl (hQ:BaseQ P K F T):bB P K (F 210) [.agg o.row] s (λv s'=>v=.bool true/\∃m,s'=m++s):=by
 refine hQ.f210.cF ?_
 refine Vk (k:=λb1=>Vk (k:=We<|Wm (.tmp rfl .nil) ?_))
 exact⟨rfl,[_],rfl⟩
structure AbT where
 a:AD
 o:OD
 i:Nat
@[reducible] def AbT.row (x:AbT):List AV:=x.a.row++(x.o.row++[iv (.ofNat x.i)])
def abO (k e:Int)(o:OD)(l:List AD)(n:Nat):List AbT:=(List.range n).filterMap λi=>match l[i]? with
 | some a=>if decide (a.kind=k)&&decide (a.ev=e)then some ⟨a,o,i⟩else none
 | none=>none
def abI (k e:Int)(d:SD)(C:List CD)(id:Int):List AbT:=match d.obj id with
 | some o=>(match C[o.gE.toNat]? with
  | some c=>abO k e o c.ab c.ab.length
  | none=>[])
 | none=>[]
def aae (k e:Int)(d:SD)(C:List CD)(l:List Int):List AbT:=l.flatMap (abI k e d C)
theorem acV (k e:Int)(o:OD)(l:List AD)(n:Nat):(abO k e o l n).length<=n:=Nat.le_trans (List.length_filterMap_le ..) (by rw[List.length_range];omega)
variable {k:Int}
theorem ad1 {e:Int}{l:List AD}{n:Nat}{a:AD}(h:l[n]?=some a):abO k e o l (n+1)=abO k e o l n++if decide (a.kind=k)&&decide (a.ev=e)then [⟨a,o,n⟩]else []:=by
 unfold abO
 rw[List.range_succ,List.filterMap_append]
 congr 1
 rw[List.filterMap_cons,h]
 cases hb:decide (a.kind=k)&&decide (a.ev=e)<;>simp[hb]
theorem ae3 {e:Int}(h:∀c∈C,c.ab.length<=4)(id:Int):(abI k e d C id).length<=4:=by
 unfold abI
 cases d.obj id with
 | none=>exact Nat.zero_le _
 | some o=>
  cases hc:C[o.gE.toNat]? with
  | none=>simp[hc]
  | some c=>simp only[hc];exact Nat.le_trans (acV ..)<|h c<|List.mem_of_getElem? hc
theorem abJ {e:Int}(h:∀c∈C,c.ab.length<=4)(l:List Int):(aae k e d C l).length<=4*l.length:=by
 induction l with
 | nil=>exact Nat.le_refl _
 | cons x r ih=>unfold aae at ih |-;rw[List.flatMap_cons,List.length_append,List.length_cons];have:=ae3 (k:=k) (e:=e) (d:=d) h x;omega
structure agP (P:Program)(K:Orc)(bl:Nat)(EL:List (List AV))(d:SD)(y:AV)(J:List AbT->SH->Prop):Prop where
 call:∀L t s(x:AbT)m,(x.a.who=0\/x.a.who=1\/x.a.who=2)->L.length<=400->J L t->aH bl EL d (m++t) s->c6 P K y [.agg x.row] s (λv s'=>v=.bool true/\∃t',aH bl EL d (m++t') s'/\J (L++[x]) t')
def agM (P:Program)(K:Orc)(bl:Nat)(EL:List (List AV))(d:SD)(f:FuncId)(cap:List AV)(t:SH)(out:List AbT):Prop:=
 ∀y J t' s',agP P K bl EL d y J->(∀L t2,J L t2->∀q∈t,q∈t2)->J [] t'->aH bl EL d t' s'->bB P K f (y::cap) s' (λ_ s''=>∃t'',aH bl EL d t'' s''/\J out t'')
def aaF (k:Int)(d:SD)(C:List CD):List Int:=aaO d C (λ_ c=>C5 3 k c) d.fi
variable {tl:AD->List Nat}
theorem ach (hX:BdX P K F T tF g C d)(hf:Has bf (.r false [bu bl aZ c0 c1 c2 c3 c4 bE] 8) t)(eQ:cI t aZ C){b2 b3:Nat}(h2:Has b2 (.r false [[gm tF bf]] 1) t)(h3:Has b3 (.r false [[iv k]] 1) t)(h4:∀c∈C,c.ab.length<=4)(h5:∀c∈C,∀a∈c.ab,a.who=0\/a.who=1\/a.who=2)(h90:d.fi.length<=90) :
  agM P K bl EL d (F 239) [.ptr (some ⟨b2,0,0⟩),.ptr<|some ⟨b3,0,0⟩] t (aae 3 k d C<|aaF k d C):=by
 intro y J t' s' hY hJ h0 hs
 have hfJ:∀{L t2},J L t2->Has bf (.r false [bu bl aZ c0 c1 c2 c3 c4 bE] 8) t2:=λh=>.ce<|hJ _ _ h _ hf.mem
 have hcJ:∀{L t2},J L t2->cI t2 aZ C:=λh=>eQ.mono λq hq=>hJ _ _ h q hq
 have h2J:∀{L t2},J L t2->Has b2 (.r false [[gm tF bf]] 1) t2:=λh=>.ce<|hJ _ _ h _ h2.mem
 have h3J:∀{L t2},J L t2->Has b3 (.r false [[iv k]] 1) t2:=λh=>.ce<|hJ _ _ h _ h3.mem
 refine hX.hQ.f239.cF ?_
 refine Wq<|Wl rfl (hs.mem<|h2J h0) rfl rfl rfl<|Ww<|WS.invoke (vs:=[]) rfl (hX.hE.hM.aZ ) rfl ( BS hX.hE.hG hs (hfJ h0) (hcJ h0)) ?_
 rintro v4 s2 ⟨m,dt,hS⟩
 refine Wv rfl<|Wn<|Wq<|Wl rfl (dt.mem<|.app<|h2J h0) rfl rfl rfl<|Wl rfl (dt.mem<|.app<|h3J h0) rfl rfl rfl<|Ww<|WS.invoke (vs:=[AV.int IntKind.i64 (Int.ofNat 3),iv k]) rfl (hX.hv ) rfl ( aas hX.hE hX.hQ (.app<|hfJ h0) ((hcJ h0).mono λq hq=>by simp[hq]) dt hX.cd hX.all) ?_
 rintro v15 s3 ⟨m3,ahG,hS3⟩
 have gw:aH bl EL d ((m3++m)++t') s3:=by rw[List.append_assoc];exact ahG
 clear ahG
 have hvl:(aaF k d C).length<=90:=Nat.le_trans (List.length_filter_le ..) h90
 have hid:∀id∈aaF k d C,∃o c,d.obj id=some o/\C[o.gE.toNat]?=some c/\∃j:Nat,o.gE=.ofNat j/\j<C.length:=by
  intro id hi
  obtain⟨o,ho⟩:=hX.all id (List.mem_filter.1 hi).1
  obtain⟨j,hj,hjl⟩:=hX.cd o (by unfold SD.obj at ho;cases h:d.find id with|none=>rw[h]at ho;cases ho|some i=>rw[h]at ho;exact List.mem_of_getElem? ho)
  refine⟨o,C[j],ho,?_,j,hj,hjl⟩
  rw[hj]
  exact List.getElem?_eq_getElem hjl
 have agc:Src m3 1 v15 (nR<|aaF k d C):=hS3
 clear hS3
 generalize hL:aaF k d C=L at hvl hid agc |-
 have ahz:lenOf v15=some L.length:=by rw[agc.lenOf,gq]
 refine Wr (.lenS rfl ahz)<|Wv rfl<|Wn<|Wb ?_
 refine Wp (λn l ds s'=>ds=[]/\∃q t2,n=L.length-q/\q<=L.length/\aH bl EL d ((m3++m)++t2) s'/\J (aae 3 k d C<|L.take q) t2/\∀x w,lk [(0,y),(1,.ptr<|some ⟨b2,0,0⟩),(2,.ptr<|some ⟨b3,0,0⟩),(4,v4),(15,v15),(16,iv<|.ofNat L.length),(17,iv<|.ofNat q)] x=some w->lk l x=some w) ?_ (n:=L.length-0)
  ⟨rfl,0,t',rfl,Nat.zero_le _,gw,h0,bX rfl⟩
 rintro n l ds s5 ⟨rfl,q,t2,rfl,hq,tn,hJ2,hl⟩
 refine Wg hl (λ_ _ h=>h) ?_
 refine Wq<|Wj rfl rfl (eT _ _)<|Wn<|Ws<|Wd rfl (λht=>Wi ?_)<|λht=>Wx ?_
 rotate_left
 ·have hge:¬q<L.length:=λh=>of_decide_eq_false ht (Int.ofNat_lt.2 h)
  rw[List.take_of_length_le (by omega)]at hJ2
  exact Wm .nil ⟨t2,tn.fb,hJ2⟩
 have hlt:q<L.length:=Int.ofNat_lt.1<|of_decide_eq_true ht
 have hx:L[q]?=some L[q]:=List.getElem?_eq_getElem hlt
 have KP:L[q]∈L:=List.getElem_mem _
 generalize L[q]=id at hx KP
 obtain⟨o,c,ho,hc,j,hoj,hjl⟩:=hid id KP
 have vp:C[j]?=some c:=by rw[hoj]at hc;exact hc
 have IR:c∈C:=List.mem_of_getElem? hc
 have hab:c.ab.length<=4:=h4 c IR
 have hlen:(aae 3 k d C<|L.take q).length<=360:=Nat.le_trans (abJ h4 _) (by rw[List.length_take];omega)
 have mN:aae 3 k d C (L.take<|q+1)=aae 3 k d C (L.take q)++abO 3 k o c.ab c.ab.length:=by
  unfold aae
  rw[List.take_add_one,hx,List.flatMap_append]
  congr 1
  show abI 3 k d C id++[]=_
  unfold abI
  rw[ho]
  simp only[hc,List.append_nil]
 obtain⟨ba,ra,na,ca,J5,Sp,Ma,e4,hba,me,hra⟩:=agc.at (i:=q) (by rw[gq];exact hlt)
 have hrow:Ma[ra+q]?=some [iv id]:=by rw[hra,nR,List.getElem?_map,hx];rfl
 refine Ws<|Wb<|Wq<|Wr (.iaddrS (congrArg some e4) rfl me<|by decide)<|Wl rfl (tn.mem<|.left<|.left hba) hrow rfl rfl<|Wv rfl<|Wn<|Wq<|Wl rfl (tn.mem<|.app<|h2J hJ2) rfl rfl rfl<|Wv rfl<|Ww<|WS.invoke (vs:=[iv id]) rfl hX.hE.hM.obj rfl (Qq hX.hE.hB hX.hE.hC tn hX.hE.hd<|.app<|hfJ hJ2) ?_
 rintro w s5b ⟨hv,afd⟩
 rw[ho]at hv
 subst hv
 refine Wv rfl<|Wr (.extract rfl rfl)<|Wr (.extract rfl rfl)<|Wa (.alloc rfl) λb7=>Ww<|Wt (s':=(b7,.r false [o.row] 14)::s5b) rfl rfl rfl .here rfl rfl<|Wv rfl<|Wn ?_
 have KL:aH bl EL d (((b7,.r false [o.row] 14)::(m3++m))++t2) ((b7,.r false [o.row] 14)::s5b):=afd.cons
 obtain⟨bc,rc,nc,cc',slc,roc,Mc,e5,hbc,CC,hrc⟩:=hS.at (i:=j) (by rw[List.length_map];exact hjl)
 have aaV:Mc[rc+j]?=some c.row:=by rw[hrc,List.getElem?_map,vp];rfl
 have xD:Src t2 13 c.av (c.ab.map AD.row):=(hcJ hJ2).ab c IR
 have ajm:lenOf c.av=some c.ab.length:=by rw[xD.lenOf,List.length_map]
 refine Wq<|Wv rfl<|Wf rfl<|Wl rfl .here rfl rfl rfl<|Wr (.iaddrS (congrArg some e5) (congrArg (λz=>some<|iv z) hoj) CC<|by decide)<|Wf rfl<|Wl rfl (KL.mem<|.left<|.there<|.app hbc) aaV rfl rfl<|Wr (.lenS rfl ajm)<|Wv rfl<|Wn<|Wb ?_
 refine Wp (λn l ds s'=>ds=[]/\∃i t2,n=c.ab.length-i/\i<=c.ab.length/\aH bl EL d (((b7,.r false [o.row] 14)::(m3++m))++t2) s'/\J (aae 3 k d C (L.take q)++abO 3 k o c.ab i) t2/\∀x w,lk [(0,y),(1,.ptr<|some ⟨b2,0,0⟩),(2,.ptr<|some ⟨b3,0,0⟩),(4,v4),(7,.ptr<|some ⟨b7,0,0⟩),(15,v15),(16,iv<|.ofNat L.length),(17,iv<|.ofNat q),(32,c.av),(33,iv<|.ofNat c.ab.length),(34,iv<|.ofNat i)] x=some w->lk l x=some w) ?_ (n:=c.ab.length-0)
  ⟨rfl,0,t2,rfl,Nat.zero_le _,KL,by rw[show abO 3 k o c.ab 0=[]from rfl,List.append_nil];exact hJ2,bX rfl⟩
 clear KL tn afd hJ2 xD
 rintro n l ds s7 ⟨rfl,i,t3,rfl,hi,hs7,qX,hl⟩
 refine Wg hl (λ_ _ h=>h) ?_
 refine Wq<|Wj rfl rfl (eT _ _)<|Wn<|Ws<|Wd rfl (λht=>Wi ?_)<|λht=>Wx ?_
 rotate_left
 ·have hge:¬i<c.ab.length:=λh=>of_decide_eq_false ht (Int.ofNat_lt.2 h)
  have Yx:i=c.ab.length:=by omega
  subst Yx
  refine Wo<|Wj rfl rfl (bM<|by omega)<|Wv rfl<|Wn ?_
  exact⟨L.length-(q+1),by omega,rfl,q+1,t3,rfl,hlt,aH.fb (x:=[_]) hs7,by rw[mN];exact qX,bX rfl⟩
 have aet:i<c.ab.length:=Int.ofNat_lt.1<|of_decide_eq_true ht
 have Qa:c.ab[i]?=some c.ab[i]:=List.getElem?_eq_getElem aet
 generalize c.ab[i]=a at Qa
 have afc:=ad1 (k:=3) (e:=k) (o:=o) Qa
 have xD:Src t3 13 c.av (c.ab.map AD.row):=(hcJ qX).ab c IR
 obtain⟨bv,rv,nv,cv,slv,rov,Mv,e6,hbv,hinv,UU⟩:=xD.at (i:=i) (by rw[List.length_map];exact aet)
 have ahE:Mv[rv+i]?=some a.row:=by rw[UU,List.getElem?_map,Qa];rfl
 refine Ws<|Wb<|Wq (Wv rfl<|Wr (.iaddrS (congrArg some e6) rfl hinv<|by decide)<|Wl (cs:=a.row) rfl (hs7.mem<|.app hbv) ahE rfl rfl<|Wa (.alloc rfl) λsf=>Wv rfl<|Ww<|Wt (s':=(sf,.r false [a.row] 13)::s7) rfl rfl rfl .here rfl rfl<|Wn ?_) 
 have hs8:aH bl EL d (((sf,.r false [a.row] 13)::(b7,.r false [o.row] 14)::(m3++m))++t3) ((sf,.r false [a.row] 13)::s7):=hs7.cons
 have hk0:eqBy 20 .pi (iv a.kind) (iv 3)=some (decide<|a.kind=3):=cD _ _
 have q7:eqBy 20 .pi (iv a.ev) (iv k)=some (decide<|a.ev=k):=cD _ _
 refine Wq<|Wf rfl<|Wl rfl .here rfl rfl rfl<|Wh rfl rfl hk0<|Wv rfl ?_
 have PG:∀{t4:SH}{S:SH},aH bl EL d (((sf,.r false [a.row] 13)::(b7,.r false [o.row] 14)::(m3++m))++t4) S->aH bl EL d (((b7,.r false [o.row] 14)::(m3++m))++t4) S:=λh=>h.tail
 have no:(decide (a.kind=3)&&decide (a.ev=k))=false->J (aae 3 k d C (L.take q)++abO 3 k o c.ab (i+1)) t3:=by
  intro h
  rw[afc,h]
  show J (_++(_++[])) t3
  rw[List.append_nil]
  exact qX
 cases hkd:decide (a.kind=3) with
 | false=>
  rw[hkd]at hk0 no
  refine Wk<|Wk<|Wk<|Wk<|Wr (.bj rfl rfl)<|Wv rfl<|Wk<|Wk<|Wk<|Wk<|Wk<|Wk<|Wk<|Wr (.bj rfl rfl)<|Wn<|Wd rfl fS<|λ_=>Wi<|Wo<|Wj rfl rfl (bM<|by omega)<|Wv rfl<|Wn ?_
  exact⟨c.ab.length-(i+1),by omega,rfl,i+1,t3,rfl,aet,PG hs8,no rfl,bX rfl⟩
 | true=>
  rw[hkd]at hk0 no afc
  refine Wy<|Wf rfl<|Wy<|Wl rfl .here rfl rfl rfl<|Wy<|Wl rfl (hs8.mem<|.app<|h3J qX) rfl rfl rfl<|Wy<|Wh rfl rfl q7<|Wr (.eb rfl rfl)<|Wv rfl ?_
  cases hev:decide (a.ev=k) with
  | false=>
   rw[hev]at q7 no
   refine Wk<|Wk<|Wk<|Wk<|Wk<|Wk<|Wk<|Wr (.bj rfl rfl)<|Wn<|Wd rfl fS<|λ_=>Wi<|Wo<|Wj rfl rfl (bM<|by omega)<|Wv rfl<|Wn ?_
   exact⟨c.ab.length-(i+1),by omega,rfl,i+1,t3,rfl,aet,PG hs8,no rfl,bX rfl⟩
  | true=>
   rw[hev]at q7 afc
   have hn3:(aae 3 k d C (L.take q)++abO 3 k o c.ab i).length<=400:=by
    have:=acV 3 k o c.ab i
    rw[List.length_append]
    omega
   refine Wy<|Wv rfl<|Wy<|Wl (cs:=a.row) rfl .here rfl rfl rfl<|Wy<|Wl (cs:=o.row) rfl (hs8.mem<|.there .here) rfl rfl rfl<|Wy<|Wv rfl<|Wy<|Wr (.build (cs:=(⟨a,o,i⟩:AbT).row) rfl rfl)<|Wy<|Ww<|WS.call (vs:=[.agg (⟨a,o,i⟩:AbT).row]) rfl rfl (hY.call _ _ _ _ ((sf,.r false [a.row] 13)::(b7,.r false [o.row] 14)::(m3++m)) (h5 c IR a<|List.mem_of_getElem? Qa) hn3 qX hs8) ?_
   rintro w9 s9 ⟨rfl,t9,hs9,hJ9⟩
   refine Wy<|Wr (.un (v:=.bool false) rfl rfl)<|Wr (.eb rfl rfl)<|Wn<|Wd rfl fS<|λ_=>Wi<|Wo<|Wj rfl rfl (bM<|by omega)<|Wv rfl<|Wn ?_
   exact⟨c.ab.length-(i+1),by omega,rfl,i+1,t9,rfl,aet,PG hs9,by rw[afc,<- List.append_assoc];exact hJ9,bX rfl⟩
open Go.Proofs
set_option maxRecDepth 100000
noncomputable def afA:AC:=NF (pt (af0 (λn=>n) λn=>n) [1,1,1,1,0,1,0,0]) _
noncomputable def afB (F:Nat->FuncId):AC:=NF (pt (af0 F λn=>n) [1,1,1,1,0,1,0,1]) _
def ab6 (w id p:Int)(o:OD):Bool:=if w=0 then decide (o.id=id)else if w=1 then decide (o.aQ=p)else true
def L0 (x:AbT):ID:=⟨0,3,x.o.aQ,x.o.id,x.o.gE,.ofNat x.i⟩
def N9 (id p:Int)(l:List AbT):List ID:=(l.filter λx=>ab6 x.a.who id p x.o).map L0
def adW (sf:Nat)(W:SH)(out:List ID)(t:SH):Prop:=∃lv og j,t.Perm ((sf,HO.r false [[lv]] 1)::(og++(j++W)))/\GrE 7 lv (CT out) og
variable {sf:Nat}{W:SH}
theorem adW.sub {out:List ID}(h:adW sf W out t):∀q∈W,q∈t:=by
 obtain⟨lv,og,j,hp,_⟩:=h
 exactλq hq=>hp.mem_iff.2<|by simp[hq]
def adO (F:Nat->FuncId)(b6 b7:Nat):List (AV × AV):=[(iv 0,.func (F 208) [] [.ptr (some ⟨b6,0,0⟩)]),(iv 1,.func (F 209) [] [.ptr (some ⟨b7,0,0⟩)]),(iv 2,.func (F 210) [] [])]
variable {b6 b7:Nat}
theorem agy (hQ:BaseQ P K F T){w:Int}(h6:Has b6 (.r false [[iv id]] 1) s)(h7:Has b7 (.r false [[iv p]] 1) s)(hw:w=0\/w=1\/w=2) :
  ∃f cap,lookIn .pi (iv w) (adO F b6 b7)=some (some<|.func f [] cap)/\bB P K f (.agg o.row::cap) s (λv s'=>v=.bool (ab6 w id p o)/\∃m,s'=m++s):=by
 rcases hw with rfl|rfl|rfl
 ·exact⟨_,_,rfl,acJ hQ h6⟩
 ·exact⟨_,_,rfl,acp hQ h7⟩
 ·exact⟨_,_,rfl,adl hQ⟩
theorem adI (hQ:BaseQ P K F T){lb D b9 b23:Nat}{l1:Sl}{asg body:Code}(ha:cc P 60 asg=afA)(hb:cc P 60 body=afB F)(e9:lk l1 9=some (.ptr (some ⟨b9,0,0⟩)))(e10:lk l1 10=some (.ptr (some ⟨sf,0,0⟩)))
  (h6:Has b6 (.r false [[iv id]] 1) W) (h7:Has b7 (.r false [[iv p]] 1) W) (h9:Has b9 (.r false [[AV.map (some b23)]] 1) W) (h23:Has b23 (.m<|adO F b6 b7) W) :
  agP P K bl EL d (.yield lb) (λL t=>adW sf ((lb,HO.lp l1 60 [30] asg body .ready none D)::W) (N9 id p L) t):=by
 refine⟨λL t s x m hw hL hJ hs=>?_⟩
 obtain⟨lv,og,j,hpm,hG⟩:=hJ
 obtain⟨u,hu,hback⟩:=hs.split
 refine c6.perm (s:=(lb,.lp l1 60 [30] asg body .ready none D)::(u++(m++((sf,.r false [[lv]] 1)::(og++(j++W)))))) (ak λc w h0 h1 h2 hq=>by have:=hq _ _ hu;simp only[h1,h2,hq _ _ hpm]at this |-;omega)<|c6.canon ?_
 refine AU (by omega) ha hb ?_
 unfold afA afB
 have hil:(N9 id p L).length<=400:=by unfold N9;rw[List.length_map];exact Nat.le_trans (List.length_filter_le ..) hL
 have ahu:N9 id p (L++[x])=N9 id p L++if ab6 x.a.who id p x.o then [L0 x]else []:=by
  unfold N9
  rw[List.filter_append,List.map_append]
  congr 1
  rw[List.filter_cons]
  cases ab6 x.a.who id p x.o<;>rfl
 refine Vk (k:=λb11=>Vk (k:=?_))
 refine⟨(b11,.r false [x.row] 28)::(u++(m++((sf,.r false [[lv]] 1)::(og++(j++W))))),List.Perm.swap ..,?_⟩
 refine Wg (l':=[(9,.ptr<|some ⟨b9,0,0⟩),(10,.ptr<|some ⟨sf,0,0⟩),(11,.ptr<|some ⟨b11,0,0⟩)]) (aa e9<|aa e10<|bX rfl) (λ_ _ h=>h) ?_
 have hW:∀{b:Nat}{o:HO},Has b o W->Has b o ((lb,.lp l1 60 [30] asg body .busy none D)::(b11,.r false [x.row] 28)::(u++(m++((sf,.r false [[lv]] 1)::(og++(j++W)))))):=λh=>.there<|.there<|.app<|.app<|.there<|.app<|.app h
 obtain⟨f,cap,hlk,hf⟩:=agy hQ (o:=x.o) (hW h6) (hW h7) hw
 refine Vk (k:=Wr (.look rfl rfl (hW h23) hlk)<|Vk (k:=?_))
 refine Vk (k:=Ww<|Wc (first:=[]) (vs:=[.agg x.o.row]) rfl rfl hf ?_)
 rintro _ _ ⟨rfl,mm,rfl⟩
 refine Vk (k:=?_)
 cases hm:ab6 x.a.who id p x.o with
 | false=>
  refine Vk (k:=?_)
  rw[ahu,hm]
  refine⟨mm++((b11,.r false [x.row] 28)::(u++(m++((sf,.r false [[lv]] 1)::(og++(j++W)))))),uS,u++(m++((sf,.r false [[lv]] 1)::(og++((mm++((b11,.r false [x.row] 28)::j))++((lb,.lp l1 60 [30] asg body .ready none D)::W))))),uS,rfl,_,hback _,lv,og,mm++((b11,.r false [x.row] 28)::j),.refl _,?_⟩
  show GrE 7 lv (CT<|N9 id p L++[]) og
  rw[List.append_nil]
  exact hG
 | true=>
  refine Wd rfl (λ_=>?_) Dz
  rw[ahu,hm]
  refine Wo<|Wl (v:=lv) rfl (.app<|.there<|.there<|.app<|.app .here) rfl rfl rfl<|Wf rfl<|Wf rfl<|Wl rfl (.app<|.there .here) rfl rfl rfl<|Wf rfl<|Wf rfl<|Wl rfl (.app<|.there .here) rfl rfl rfl<|Wf rfl<|Wf rfl<|Wl rfl (.app<|.there .here) rfl rfl rfl<|Wf rfl<|Wl rfl (.app<|.there .here) rfl rfl rfl<|Wr (.build (cs:=(L0 x).row) rfl rfl)<|Wa (.bslice (L:=[(L0 x).row]) rfl rfl) λb57=>Ww<|WS.pre (s':=((b57,.r false [(L0 x).row] 7)::(mm++((lb,.lp l1 60 [30] asg body .busy none D)::(b11,.r false [x.row] 28)::(sf,.r false [[lv]] 1)::(u++m))))++(og++(j++W))) (uS)<|WS.aaN (xv:=.slice (some ⟨b57,0,0⟩) 1 1 false 7) rfl hG rfl (Src.all (L:=[(L0 x).row]) .here) (by decide) (by simp only[CT,List.length_map,List.length_cons,List.length_nil];omega) (by decide) λnw A9 jk xB=>Ww<|Wt (s':=A9++(((b57,.r false [(L0 x).row] 7)::(mm++((lb,.lp l1 60 [30] asg body .busy none D)::(b11,.r false [x.row] 28)::(sf,.r false [[nw]] 1)::(u++m))))++(jk++(j++W)))) (row':=[nw]) rfl rfl xB.out.src.part (.app<|.left<|.there<|.app<|.there<|.there .here) rfl rfl<|Wn ?_
  refine⟨A9++(((b57,.r false [(L0 x).row] 7)::(mm++((b11,.r false [x.row] 28)::(sf,.r false [[nw]] 1)::(u++m))))++(jk++(j++W))),uS,u++(m++((sf,.r false [[nw]] 1)::(A9++(((b57,.r false [(L0 x).row] 7)::(mm++((b11,.r false [x.row] 28)::(jk++j))))++((lb,.lp l1 60 [30] asg body .ready none D)::W))))),uS,rfl,_,hback _,nw,A9,(b57,.r false [(L0 x).row] 7)::(mm++((b11,.r false [x.row] 28)::(jk++j))),.refl _,?_⟩
  show GrE 7 nw (CT<|N9 id p L++[L0 x]) A9
  simpa[CT]using xB
theorem abZ (hX:BdX P K F T tF g C d)(hf:Has bf (.r false [bu bl aZ c0 c1 c2 c3 c4 bE] 8) t)(eQ:cI t aZ C)(hs:aH bl EL d t s)(h4:∀c∈C,c.ab.length<=4)(h5:∀c∈C,∀a∈c.ab,a.who=0\/a.who=1\/a.who=2)(h90:d.fi.length<=90)(q7:binV .lss (iv k) (iv 1)=some (.bool false))(hk2:binV .gtr (iv k) (iv 6)=some (.bool false)) :
  bB P K (F 176) [gm tF bf,iv k,iv id,iv p] s (λv s'=>∃m,aH bl EL d (m++t) s'/\Src m 7 v (CT<|N9 id p<|aae 3 k d C<|aaF k d C)):=by
 refine hX.hQ.f176.ZH ?_
 refine Vk (k:=λb6=>Wa (.box rfl rfl) λb7=>Vk (k:=Wa .mkmap λb23=>Wr (.mkfn rfl rfl)<|Ww<|WS.ins rfl rfl rfl .here rfl<|Wr (.mkfn rfl rfl)<|Ww<|WS.ins rfl rfl rfl .here rfl<|Ww<|WS.ins rfl rfl rfl .here rfl<|Vk (k:=λb9=>Vk (k:=λsf=>Vk (k:=Ww<|W1 (acg hX.hQ rfl) ?_)))))
 rintro _ _ ⟨b29,c29,rfl,rfl⟩
 refine Vk (k:=?_)
 obtain⟨u,hu,hback⟩:=hs.split
 refine Wg (l':=[(9,.ptr<|some ⟨b9,0,0⟩),(10,.ptr<|some ⟨sf,0,0⟩),(29,.func (F 239) [] [.ptr (some ⟨b29,0,0⟩),.ptr<|some ⟨c29,0,0⟩])]) (bX rfl) (λ_ _ h=>h) ?_
 generalize hl1:[(9,AV.ptr<|some ⟨b9,0,0⟩),(10,AV.ptr<|some ⟨sf,0,0⟩),(29,AV.func (F 239) [] [.ptr (some ⟨b29,0,0⟩),.ptr<|some ⟨c29,0,0⟩])]=l1
 refine WP.rf (first:=[]) (cap:=[.ptr (some ⟨b29,0,0⟩),.ptr<|some ⟨c29,0,0⟩]) (by rw[<- hl1];rfl) λasg body ha hb D lb=>?_
 generalize hW:(D,HO.ob cN.deferred)::(c29,HO.r false [[iv k]] 1)::(b29,HO.r false [[gm tF bf]] 1)::(b9,HO.r false [[AV.map (some b23)]] 1)::(b23,HO.m<|adO F b6 b7)::(b7,HO.r false [[iv p]] 1)::(b6,HO.r false [[iv id]] 1)::t=W
 have hY:=adI (P:=P) (K:=K) (bl:=bl) (EL:=EL) (d:=d) hX.hQ (lb:=lb) (D:=D) (b6:=b6) (b7:=b7) (b9:=b9) (sf:=sf) (b23:=b23) (id:=id) (p:=p) (l1:=l1) (asg:=asg) (body:=body) (W:=W) ha hb (by rw[<- hl1];rfl) (by rw[<- hl1];rfl)
  (by rw[<- hW];exact .there<|.there<|.there<|.there<|.there<|.there .here) (by rw[<- hW];exact .there<|.there<|.there<|.there<|.there .here) (by rw[<- hW];exact .there<|.there<|.there .here) (by rw[<- hW];exact .there<|.there<|.there<|.there .here)
 have hs0:aH bl EL d ((sf,HO.r false [[nilS]] 1)::([]++([]++((lb,HO.lp l1 60 [30] asg body .ready none D)::W)))) ((lb,HO.lp l1 60 [30] asg body .ready none D)::(D,HO.ob .deferred)::(c29,HO.r false [[iv k]] 1)::(b29,HO.r false [[gm tF bf]] 1)::(sf,HO.r false [[nilS]] 1)::(b9,HO.r false [[AV.map (some b23)]] 1)::(b23,HO.m<|adO F b6 b7)::(b7,HO.r false [[iv p]] 1)::(b6,HO.r false [[iv id]] 1)::s):=(hback _).perm (ak λc w h0 h1 h2 hq=>by have:=hq _ _ hu;subst hW;simp only[h1,h2,h0]at this |-;omega)
 have hfW:Has bf (.r false [bu bl aZ c0 c1 c2 c3 c4 bE] 8) W:=by rw[<- hW];exact .there<|.there<|.there<|.there<|.there<|.there<|.there hf
 have hcW:cI W aZ C:=eQ.mono λq hq=>by rw[<- hW];simp[hq]
 refine bB.canon<|(ach (EL:=EL) hX hfW hcW (b2:=b29) (b3:=c29) (k:=k) (by rw[<- hW];exact .there<|.there .here) (by rw[<- hW];exact .there .here) h4 h5 h90 (.yield lb) _ _ _ hY (λL t2 h q hq=>h.sub q<|.tail _ hq) ⟨nilS,[],[],.refl _,.nil⟩ hs0).post ?_
 rintro _ s9 ⟨t9,hs9,nw,A9,j2,Gu,xB⟩
 obtain⟨u2,hu2,acx⟩:=(hs9.tT Gu).split
 refine⟨(lb,HO.lp l1 60 [30] asg body .ready none D)::(u2++((sf,HO.r false [[nw]] 1)::(A9++(j2++W)))),ak (λc w h0 h1 h2 hq=>by have:=hq _ _ hu2;simp only[h1,h2]at this |-;omega),l1,.ready,none,_,rfl,(λh=>LoopState.noConfusion h),?_⟩
 subst hl1
 refine Vk (k:=We ?_)
 subst hW
 refine⟨[D],(lb,HO.gone)::(u2++((sf,HO.r false [[nw]] 1)::(A9++(j2++((c29,HO.r false [[iv k]] 1)::(b29,HO.r false [[gm tF bf]] 1)::(b9,HO.r false [[AV.map (some b23)]] 1)::(b23,HO.m<|adO F b6 b7)::(b7,HO.r false [[iv p]] 1)::(b6,HO.r false [[iv id]] 1)::t))))),rfl,ak (λc w h0 h1 h2 hq=>by simp only[h1,h2,h0,List.map_cons,List.map_nil];omega),[nw],.tmp rfl .nil,A9++((D,HO.gone)::(lb,HO.gone)::(sf,HO.r false [[nw]] 1)::(c29,HO.r false [[iv k]] 1)::(b29,HO.r false [[gm tF bf]] 1)::(b9,HO.r false [[AV.map (some b23)]] 1)::(b23,HO.m<|adO F b6 b7)::(b7,HO.r false [[iv p]] 1)::(b6,HO.r false [[iv id]] 1)::j2),(acx _).perm (ak λc w h0 h1 h2 hq=>by simp only[h1,h2,h0,List.map_cons,List.map_nil];omega),xB.gr.out.src.mono λq hq=>by simp[hq]⟩
theorem aa3 (hX:BdX P K F T tF g C d)(hf:Has bf (.r false [bu bl aZ c0 c1 c2 c3 c4 bE] 8) t)(eQ:cI t aZ C)(hs:aH bl EL d t s)(h4:∀c∈C,c.ab.length<=4)(h5:∀c∈C,∀a∈c.ab,a.who=0\/a.who=1\/a.who=2)(h90:d.fi.length<=90)(q7:binV .lss (iv k) (iv 1)=some (.bool false))(hk2:binV .gtr (iv k) (iv 6)=some (.bool false))
  {J:Nat->List (List AV)->SD->Prop} {L:List ID} (hLe:N9 id p (aae 3 k d C<|aaF k d C)=L) (IH:L.length<=1000) (h0:J 0 EL d)
  (A2:∀(m:SH)q it EL1 d1 s1,L[q]?=some it->J q EL1 d1->aH bl EL1 d1 (m++t) s1->bB P K (F 15) [.ptr (some ⟨bf,0,0⟩),.agg<|evRow 17 0 0 0 0 it] s1 (λ_ s2=>∃Gg d2,J (q+1) Gg d2/\aH bl Gg d2 (m++t) s2)) :
  bB P K (F 128) [gm tF bf,iv k,iv id,iv p] s (λ_ s'=>∃Gg d2,J L.length Gg d2/\aH bl Gg d2 t s'):=by
 refine hX.hQ.f128.cF ?_
 refine Vk (k:=Ww<|W1 (abZ hX hf eQ hs h4 h5 h90 q7 hk2) ?_)
 rintro v s2 ⟨m,dt,hS⟩
 rw[hLe]at hS
 have hl:lenOf v=some L.length:=by rw[hS.lenOf];simp[CT]
 refine Vk (k:=?_)
 refine Wp (λn l ds s'=>ds=[]/\∃q EL1 d1,n=L.length-q/\q<=L.length/\J q EL1 d1/\aH bl EL1 d1 (m++t) s'/\∀x w,lk [(0,gm tF bf),(14,v),(15,iv<|.ofNat L.length),(16,iv<|.ofNat q)] x=some w->lk l x=some w) ?_ (n:=L.length-0)
  ⟨rfl,0,EL,d,rfl,Nat.zero_le _,h0,dt,bX rfl⟩
 rintro n l ds s5 ⟨rfl,q,EL1,d1,rfl,hq,hJ,tn,hl5⟩
 refine Wg hl5 (λ_ _ h=>h) ?_
 refine Wq<|Wj rfl rfl (eT _ _)<|Wn<|Ws<|Wd rfl (λht=>Wi ?_)<|λht=>Wx ?_
 rotate_left
 ·have hge:¬q<L.length:=λh=>of_decide_eq_false ht (Int.ofNat_lt.2 h)
  have hqL:q=L.length:=by omega
  subst hqL
  exact Wm .nil ⟨EL1,d1,hJ,tn.fb⟩
 have hlt:q<L.length:=Int.ofNat_lt.1<|of_decide_eq_true ht
 have hx:L[q]?=some L[q]:=List.getElem?_eq_getElem hlt
 generalize L[q]=it at hx
 obtain⟨ba,ra,na,ca,J5,Sp,Ma,e4,hba,me,hra⟩:=hS.at (i:=q)<|by simpa[CT]using hlt
 have hrow:Ma[ra+q]?=some it.row:=by rw[hra,CT,List.getElem?_map,hx];rfl
 refine Ws<|Wb<|Wq<|Wr (.iaddrS (congrArg some e4) rfl me<|by decide)<|Wl (cs:=it.row) rfl (tn.mem<|.left hba) hrow rfl rfl<|Wa (.alloc rfl) λb9=>Ww<|Wt (s':=(b9,.r false [it.row] 7)::s5) rfl rfl rfl .here rfl rfl<|Wn ?_
 have KL:aH bl EL1 d1 (((b9,.r false [it.row] 7)::m)++t) ((b9,.r false [it.row] 7)::s5):=tn.cons
 refine Wo<|Wv rfl<|Wl (cs:=it.row) rfl .here rfl rfl rfl<|Wr (.build (cs:=evRow 17 0 0 0 0 it) rfl rfl)<|Ww<|WS.invoke (vs:=[AV.agg (evRow 17 0 0 0 0 it)]) rfl hX.do_ rfl (A2 _ q it EL1 d1 _ hx hJ KL) ?_
 rintro _ s7 ⟨Gg,d2,hJ2,hs7⟩
 refine Vk (k:=?_)
 exact⟨L.length-(q+1),by omega,rfl,q+1,Gg,d2,rfl,hlt,hJ2,aH.fb (x:=[_]) hs7,bX rfl⟩
open Go.Proofs
set_option maxRecDepth 100000
variable {i:Nat}
theorem F8 (h:d.find id=some i):∃o,d.ob[i]?=some o/\o.id=id/\o∈d.ob:=by
 unfold SD.find at h
 obtain⟨hi,h2,_⟩:=List.findIdx?_eq_some_iff_getElem.1 h
 grind
theorem aah (h:o∈d.ob):∃i,d.find o.id=some i:=by
 unfold SD.find
 cases hf:d.ob.findIdx? λx=>decide (x.id=o.id) with
 | some i=>grind
 | none=>grind
theorem abF (h:d.obj id=some o):∃i,d.find id=some i/\d.ob[i]?=some o/\o.id=id/\o∈d.ob:=by
 unfold SD.obj at h
 cases hf:d.find id with
 | none=>grind
 | some i=>
  obtain⟨o',h1,h2,h3⟩:=F8 hf
  grind
theorem zt {l:List OD}(h:(l.map OD.id).Nodup){a b:OD}(ha:a∈l)(hb:b∈l)(he:a.id=b.id):a=b:=by
 induction l with
 | nil=>cases ha
 | cons c l ih=>
  grind
theorem aeJ (hn:(d.ob.map OD.id).Nodup)(h:o∈d.ob):d.obj o.id=some o:=by
 obtain⟨i,hi⟩:=aah h
 obtain⟨o',h1,h2,h3⟩:=F8 hi
 unfold SD.obj
 rw[hi]
 exact h1.trans<|by rw[zt hn h3 h h2]
theorem erase_filter {l:List OD}(h:(l.map OD.id).Nodup)(hi:l[i]?=some o):l.eraseIdx i=l.filter λx=>!decide (x.id=o.id):=by
 induction l generalizing i with
 | nil=>cases hi
 | cons c l ih=>
  cases i with
  | zero=>
   cases hi
   rw[List.eraseIdx_cons_zero,List.filter_cons_of_neg<|by simp]
   refine(List.filter_eq_self.2 λx hx=>?_).symm
   grind
  | succ i=>
   grind
theorem abH {n:Nat}{A:List (List Int)}{p:Nat}{l:List Int}(hA:∀l∈A,l.length<=n)(hl:l.length<=n):∀m∈A.set p l,m.length<=n:=λm hm=>by
 grind
variable {e:Nat}{n:Nat}{f:Nat}{w:Nat}
variable {D:SD}
end
section
variable [Sg]{P:Program}{K:Orc}{F:Nat->FuncId}{T:Nat->TypeId}
end
variable {vs:List V}{l:List AV}
theorem evM [Sg]{a:AV}(t:VAs vs l):VAs (mkV a::vs) (a::l):=.cons (VA.mkV _) t
theorem evS [Sg]{i lo hi:Nat}{n:Int}(t:VAs vs l)(hn:Sg.num i=n:=by rfl)(hl:(lo:Int)-9223372036854775808<=n:=by omega)(hh:n<=(hi:Int)-9223372036854775808:=by omega)(he:hi<18446744073709551616:=by decide):VAs (symV i lo hi []::vs) (.int .i64 n::l):=.cons (VA.symV hn hl hh he λm hm=>by cases hm) t
theorem evV [Sg]{l:List V}{row:List AV}(h:VAs l row)(XF:row.length=13:=by rfl):VAs [vAgg (rowV l) 0 13] [.agg row]:=by
 have:=VA.ofList h<|by omega
 rw[XF]at this
 exact .cons this .nil
open Go.Proofs
set_option maxRecDepth 100000
section
variable {P:Program}{K:Orc}{rd:Option Nat}{nt:Nat}{l:Sl}{ds:List aD}{s:SH}{Q Qn Qr:Po}{Qe:Nat->Po}{F:Nat->FuncId}{T:Nat->TypeId}{bf bl:Nat}{aZ bE:AV}{c0 c1 c2 c4:Int}{EL:List (List AV)}{d:SD}{t:SH}{tF:TypeId}
variable {c3:Int}{C:List CD}

end
end Go.Ev
