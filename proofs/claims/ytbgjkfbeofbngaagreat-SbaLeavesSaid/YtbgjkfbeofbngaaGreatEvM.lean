/- Walks and rules. Conditions: none. -/
import Derived.Test.YtbgjkfbeofbngaaGreatEvL
set_option linter.unusedVariables false
set_option linter.unusedSectionVars false
namespace Go.Ev
structure AbT where
 a:AD
 o:OD
 i:Nat
@[reducible] def AbT.row (x:AbT):List AV:=x.a.row++(x.o.row++[iv (.ofNat x.i)])
def abO (k e:Int)(o:OD)(l:List AD)(n:Nat):List AbT:=(List.range n).filterMap λi=>match l[i]? with
 | some a=>if decide (a.kind=k)&&decide (a.ev=e)then some ⟨a,o,i⟩else none
 | none=>none
def abI (k e:Int)(d:SD)(C:List CD)(id:Int):List AbT:=match d.obj id with
 | some o=>(match C[o.gE.toNat]? with
  | some c=>abO k e o c.ab c.ab.length
  | none=>[])
 | none=>[]
def t6 (k e:Int)(d:SD)(C:List CD)(l:List Int):List AbT:=l.flatMap (abI k e d C)
theorem aaE (k e:Int)(o:OD)(l:List AD)(n:Nat):(abO k e o l n).length<=n:=Nat.le_trans (List.length_filterMap_le ..) (by rw[List.length_range];omega)
theorem ac5 {k e:Int}{o:OD}{l:List AD}{n:Nat}{a:AD}(h:l[n]?=some a):abO k e o l (n+1)=abO k e o l n++if decide (a.kind=k)&&decide (a.ev=e)then [⟨a,o,n⟩]else []:=by
 unfold abO
 rw[List.range_succ,List.filterMap_append]
 congr 1
 rw[List.filterMap_cons,h]
 cases hb:decide (a.kind=k)&&decide (a.ev=e)<;>simp[hb]
theorem adP {k e:Int}{d:SD}{C:List CD}(h:∀c∈C,c.ab.length<=4)(id:Int):(abI k e d C id).length<=4:=by
 unfold abI
 cases d.obj id with
 | none=>exact Nat.zero_le _
 | some o=>
  cases hc:C[o.gE.toNat]? with
  | none=>simp[hc]
  | some c=>simp only[hc];exact Nat.le_trans (aaE ..)<|h c<|List.mem_of_getElem? hc
theorem ac6 {k e:Int}{d:SD}{C:List CD}(h:∀c∈C,c.ab.length<=4)(l:List Int):(t6 k e d C l).length<=4*l.length:=by
 induction l with
 | nil=>exact Nat.le_refl _
 | cons x r ih=>unfold t6 at ih |-;rw[List.flatMap_cons,List.length_append,List.length_cons];have:=adP (k:=k) (e:=e) (d:=d) h x;omega
structure afH (P:Program)(K:Orc)(bl:Nat)(EL:List (List AV))(d:SD)(y:AV)(J:List AbT->SH->Prop):Prop where
 call:∀L t s(x:AbT)m,(x.a.who=0\/x.a.who=1\/x.a.who=2)->L.length<=400->J L t->aH bl EL d (m++t) s->c6 P K y [.agg x.row] s (λv s'=>v=.bool true/\∃t',aH bl EL d (m++t') s'/\J (L++[x]) t')
def afG (P:Program)(K:Orc)(bl:Nat)(EL:List (List AV))(d:SD)(f:FuncId)(cap:List AV)(t:SH)(out:List AbT):Prop:=
 ∀y J t' s',afH P K bl EL d y J->(∀L t2,J L t2->∀q∈t,q∈t2)->J [] t'->aH bl EL d t' s'->bB P K f (y::cap) s' (λ_ s''=>∃t'',aH bl EL d t'' s''/\J out t'')
def aaJ (k:Int)(d:SD)(C:List CD):List Int:=uS d C (λ_ c=>tf 3 k c) d.fi
section
variable {P:Program}{K:Orc}{rd:Option Nat}{nt:Nat}{l:Sl}{ds:List aD}{s:SH}{Q Qn Qr:Po}{Qe:Nat->Po}{F:Nat->FuncId}{T:Nat->TypeId}{bf bl:Nat}{aZ bE:AV}{c0 c1 c2 c3 c4:Int}{EL:List (List AV)}{d:SD}{t:SH}{tF:TypeId}{g:ED->CH->CH}{C:List CD}{tl:AD->List Nat}
theorem abp (hX:BdX P K F T tF g C d)(hf:Has bf (.r false [bu bl aZ c0 c1 c2 c3 c4 bE] 8) t)(eQ:cI t aZ C){b2 b3:Nat}{k:Int}(h2:Has b2 (.r false [[gm tF bf]] 1) t)(h3:Has b3 (.r false [[iv k]] 1) t)(h4:∀c∈C,c.ab.length<=4)(h5:∀c∈C,∀a∈c.ab,a.who=0\/a.who=1\/a.who=2)(h90:d.fi.length<=90) :
  afG P K bl EL d (F 239) [.ptr (some ⟨b2,0,0⟩),.ptr<|some ⟨b3,0,0⟩] t (t6 3 k d C<|aaJ k d C):=by
 intro y J t' s' hY hJ h0 hs
 have hfJ:∀{L t2},J L t2->Has bf (.r false [bu bl aZ c0 c1 c2 c3 c4 bE] 8) t2:=λh=>.ce<|hJ _ _ h _ hf.mem
 have hcJ:∀{L t2},J L t2->cI t2 aZ C:=λh=>eQ.mono λq hq=>hJ _ _ h q hq
 have h2J:∀{L t2},J L t2->Has b2 (.r false [[gm tF bf]] 1) t2:=λh=>.ce<|hJ _ _ h _ h2.mem
 have h3J:∀{L t2},J L t2->Has b3 (.r false [[iv k]] 1) t2:=λh=>.ce<|hJ _ _ h _ h3.mem
 refine hX.hQ.f239.cF ?_
 refine Wq<|Wl rfl (hs.mem<|h2J h0) rfl rfl rfl ?_
 refine Ww<|WS.invoke (vs:=[]) rfl (hX.hE.hM.aZ ) rfl ( BS hX.hE.hG hs (hfJ h0) (hcJ h0)) ?_
 rintro v4 s2 ⟨m,dt,hS⟩
 refine Wv rfl<|Wn ?_
 refine Wq<|Wl rfl (dt.mem<|.app<|h2J h0) rfl rfl rfl<|Wl rfl (dt.mem<|.app<|h3J h0) rfl rfl rfl ?_
 refine Ww<|WS.invoke (vs:=[AV.int IntKind.i64 (Int.ofNat 3),iv k]) rfl (hX.hv ) rfl ( C5 hX.hE hX.hQ (.app<|hfJ h0) ((hcJ h0).mono λq hq=>by simp[hq]) dt hX.cd hX.all) ?_
 rintro v15 s3 ⟨m3,age,hS3⟩
 have gw:aH bl EL d ((m3++m)++t') s3:=by rw[List.append_assoc];exact age
 clear age
 have hvl:(aaJ k d C).length<=90:=Nat.le_trans (List.length_filter_le ..) h90
 have hid:∀id∈aaJ k d C,∃o c,d.obj id=some o/\C[o.gE.toNat]?=some c/\∃j:Nat,o.gE=.ofNat j/\j<C.length:=by
  intro id hi
  obtain⟨o,ho⟩:=hX.all id (List.mem_filter.1 hi).1
  obtain⟨j,hj,hjl⟩:=hX.cd o (by unfold SD.obj at ho;cases h:d.find id with|none=>rw[h]at ho;cases ho|some i=>rw[h]at ho;exact List.mem_of_getElem? ho)
  refine⟨o,C[j],ho,?_,j,hj,hjl⟩
  rw[hj]
  exact List.getElem?_eq_getElem hjl
 have aeW:Src m3 1 v15 (nR<|aaJ k d C):=hS3
 clear hS3
 generalize hL:aaJ k d C=L at hvl hid aeW |-
 have ae2:lenOf v15=some L.length:=by rw[aeW.lenOf,gq]
 refine Wr (.lenS rfl ae2)<|Wv rfl<|Wn<|Wb ?_
 refine Wp (λn l ds s'=>ds=[]/\∃q t2,n=L.length-q/\q<=L.length/\aH bl EL d ((m3++m)++t2) s'/\J (t6 3 k d C<|L.take q) t2/\∀x w,lk [(0,y),(1,.ptr<|some ⟨b2,0,0⟩),(2,.ptr<|some ⟨b3,0,0⟩),(4,v4),(15,v15),(16,iv<|.ofNat L.length),(17,iv<|.ofNat q)] x=some w->lk l x=some w) ?_ (n:=L.length-0)
  ⟨rfl,0,t',rfl,Nat.zero_le _,gw,h0,cr rfl⟩
 rintro n l ds s5 ⟨rfl,q,t2,rfl,hq,tn,hJ2,hl⟩
 refine Wg hl (λ_ _ h=>h) ?_
 refine Wq<|Wj rfl rfl (eT _ _)<|Wn<|Ws<|Wd rfl (λht=>Wi ?_)<|λht=>Wx ?_
 rotate_left
 ·have hge:¬q<L.length:=λh=>of_decide_eq_false ht (Int.ofNat_lt.2 h)
  rw[List.take_of_length_le (by omega)]at hJ2
  exact Wm .nil ⟨t2,tn.fb,hJ2⟩
 have hlt:q<L.length:=Int.ofNat_lt.1<|of_decide_eq_true ht
 have hx:L[q]?=some L[q]:=List.getElem?_eq_getElem hlt
 have KP:L[q]∈L:=List.getElem_mem _
 generalize L[q]=id at hx KP
 obtain⟨o,c,ho,hc,j,hoj,hjl⟩:=hid id KP
 have vp:C[j]?=some c:=by rw[hoj]at hc;exact hc
 have IR:c∈C:=List.mem_of_getElem? hc
 have hab:c.ab.length<=4:=h4 c IR
 have hlen:(t6 3 k d C<|L.take q).length<=360:=Nat.le_trans (ac6 h4 _) (by rw[List.length_take];omega)
 have mN:t6 3 k d C (L.take<|q+1)=t6 3 k d C (L.take q)++abO 3 k o c.ab c.ab.length:=by
  unfold t6
  rw[List.take_add_one,hx,List.flatMap_append]
  congr 1
  show abI 3 k d C id++[]=_
  unfold abI
  rw[ho]
  simp only[hc,List.append_nil]
 obtain⟨ba,ra,na,ca,J5,Sp,Ma,e4,hba,me,hra⟩:=aeW.at (i:=q) (by rw[gq];exact hlt)
 have hrow:Ma[ra+q]?=some [iv id]:=by rw[hra,nR,List.getElem?_map,hx];rfl
 refine Ws<|Wb<|Wq<|Wr (.iaddrS (congrArg some e4) rfl me<|by decide)<|Wl rfl (tn.mem<|.left<|.left hba) hrow rfl rfl<|Wv rfl<|Wn ?_
 refine Wq<|Wl rfl (tn.mem<|.app<|h2J hJ2) rfl rfl rfl<|Wv rfl<|Ww<|WS.invoke (vs:=[iv id]) rfl hX.hE.hM.obj rfl (Qq hX.hE.hB hX.hE.hC tn hX.hE.hd<|.app<|hfJ hJ2) ?_
 rintro w s5b ⟨hv,agf⟩
 rw[ho]at hv
 subst hv
 refine Wv rfl<|Wr (.extract rfl rfl)<|Wr (.extract rfl rfl)<|Wa (.alloc rfl) λb7=>Ww<|Wt (s':=(b7,.r false [o.row] 14)::s5b) rfl rfl rfl .here rfl rfl<|Wv rfl<|Wn ?_
 have KL:aH bl EL d (((b7,.r false [o.row] 14)::(m3++m))++t2) ((b7,.r false [o.row] 14)::s5b):=agf.cons
 obtain⟨bc,rc,nc,cc',slc,roc,Mc,e5,hbc,CC,hrc⟩:=hS.at (i:=j) (by rw[List.length_map];exact hjl)
 have aaj:Mc[rc+j]?=some c.row:=by rw[hrc,List.getElem?_map,vp];rfl
 have xD:Src t2 13 c.av (c.ab.map AD.row):=(hcJ hJ2).ab c IR
 have ah5:lenOf c.av=some c.ab.length:=by rw[xD.lenOf,List.length_map]
 refine Wq<|Wv rfl<|Wf rfl<|Wl rfl .here rfl rfl rfl<|Wr (.iaddrS (congrArg some e5) (congrArg (λz=>some<|iv z) hoj) CC<|by decide)<|Wf rfl<|Wl rfl (KL.mem<|.left<|.there<|.app hbc) aaj rfl rfl<|Wr (.lenS rfl ah5)<|Wv rfl<|Wn<|Wb ?_
 refine Wp (λn l ds s'=>ds=[]/\∃i t2,n=c.ab.length-i/\i<=c.ab.length/\aH bl EL d (((b7,.r false [o.row] 14)::(m3++m))++t2) s'/\J (t6 3 k d C (L.take q)++abO 3 k o c.ab i) t2/\∀x w,lk [(0,y),(1,.ptr<|some ⟨b2,0,0⟩),(2,.ptr<|some ⟨b3,0,0⟩),(4,v4),(7,.ptr<|some ⟨b7,0,0⟩),(15,v15),(16,iv<|.ofNat L.length),(17,iv<|.ofNat q),(32,c.av),(33,iv<|.ofNat c.ab.length),(34,iv<|.ofNat i)] x=some w->lk l x=some w) ?_ (n:=c.ab.length-0)
  ⟨rfl,0,t2,rfl,Nat.zero_le _,KL,by rw[show abO 3 k o c.ab 0=[]from rfl,List.append_nil];exact hJ2,cr rfl⟩
 clear KL tn agf hJ2 xD
 rintro n l ds s7 ⟨rfl,i,t3,rfl,hi,hs7,qX,hl⟩
 refine Wg hl (λ_ _ h=>h) ?_
 refine Wq<|Wj rfl rfl (eT _ _)<|Wn<|Ws<|Wd rfl (λht=>Wi ?_)<|λht=>Wx ?_
 rotate_left
 ·have hge:¬i<c.ab.length:=λh=>of_decide_eq_false ht (Int.ofNat_lt.2 h)
  have Yx:i=c.ab.length:=by omega
  subst Yx
  refine Wo<|Wj rfl rfl (bM<|by omega)<|Wv rfl<|Wn ?_
  exact⟨L.length-(q+1),by omega,rfl,q+1,t3,rfl,hlt,aH.fb (x:=[_]) hs7,by rw[mN];exact qX,cr rfl⟩
 have adn:i<c.ab.length:=Int.ofNat_lt.1<|of_decide_eq_true ht
 have Qa:c.ab[i]?=some c.ab[i]:=List.getElem?_eq_getElem adn
 generalize c.ab[i]=a at Qa
 have ad5:=ac5 (k:=3) (e:=k) (o:=o) Qa
 have xD:Src t3 13 c.av (c.ab.map AD.row):=(hcJ qX).ab c IR
 obtain⟨bv,rv,nv,cv,slv,rov,Mv,e6,hbv,hinv,UU⟩:=xD.at (i:=i) (by rw[List.length_map];exact adn)
 have agd:Mv[rv+i]?=some a.row:=by rw[UU,List.getElem?_map,Qa];rfl
 refine Ws<|Wb<|Wq (Wv rfl<|Wr (.iaddrS (congrArg some e6) rfl hinv<|by decide)<|Wl (cs:=a.row) rfl (hs7.mem<|.app hbv) agd rfl rfl<|Wa (.alloc rfl) λsf=>Wv rfl<|Ww<|Wt (s':=(sf,.r false [a.row] 13)::s7) rfl rfl rfl .here rfl rfl<|Wn ?_) 
 have hs8:aH bl EL d (((sf,.r false [a.row] 13)::(b7,.r false [o.row] 14)::(m3++m))++t3) ((sf,.r false [a.row] 13)::s7):=hs7.cons
 have hk0:eqBy 20 .pi (iv a.kind) (iv 3)=some (decide<|a.kind=3):=cD _ _
 have q7:eqBy 20 .pi (iv a.ev) (iv k)=some (decide<|a.ev=k):=cD _ _
 refine Wq<|Wf rfl<|Wl rfl .here rfl rfl rfl<|Wh rfl rfl hk0<|Wv rfl ?_
 have PG:∀{t4:SH}{S:SH},aH bl EL d (((sf,.r false [a.row] 13)::(b7,.r false [o.row] 14)::(m3++m))++t4) S->aH bl EL d (((b7,.r false [o.row] 14)::(m3++m))++t4) S:=λh=>h.tail
 have no:(decide (a.kind=3)&&decide (a.ev=k))=false->J (t6 3 k d C (L.take q)++abO 3 k o c.ab (i+1)) t3:=by
  intro h
  rw[ad5,h]
  show J (_++(_++[])) t3
  rw[List.append_nil]
  exact qX
 cases hkd:decide (a.kind=3) with
 | false=>
  rw[hkd]at hk0 no
  refine Wk<|Wk<|Wk<|Wk<|Wr (.bj rfl rfl)<|Wv rfl ?_
  refine Wk<|Wk<|Wk<|Wk<|Wk<|Wk<|Wk<|Wr (.bj rfl rfl)<|Wn<|Wd rfl fS<|λ_=>Wi ?_
  refine Wo<|Wj rfl rfl (bM<|by omega)<|Wv rfl<|Wn ?_
  exact⟨c.ab.length-(i+1),by omega,rfl,i+1,t3,rfl,adn,PG hs8,no rfl,cr rfl⟩
 | true=>
  rw[hkd]at hk0 no ad5
  refine Wy<|Wf rfl<|Wy<|Wl rfl .here rfl rfl rfl<|Wy<|Wl rfl (hs8.mem<|.app<|h3J qX) rfl rfl rfl<|Wy<|Wh rfl rfl q7<|Wr (.cV rfl rfl)<|Wv rfl ?_
  cases hev:decide (a.ev=k) with
  | false=>
   rw[hev]at q7 no
   refine Wk<|Wk<|Wk<|Wk<|Wk<|Wk<|Wk<|Wr (.bj rfl rfl)<|Wn<|Wd rfl fS<|λ_=>Wi ?_
   refine Wo<|Wj rfl rfl (bM<|by omega)<|Wv rfl<|Wn ?_
   exact⟨c.ab.length-(i+1),by omega,rfl,i+1,t3,rfl,adn,PG hs8,no rfl,cr rfl⟩
  | true=>
   rw[hev]at q7 ad5
   have hn3:(t6 3 k d C (L.take q)++abO 3 k o c.ab i).length<=400:=by
    have:=aaE 3 k o c.ab i
    rw[List.length_append]
    omega
   refine Wy<|Wv rfl<|Wy<|Wl (cs:=a.row) rfl .here rfl rfl rfl<|Wy<|Wl (cs:=o.row) rfl (hs8.mem<|.there .here) rfl rfl rfl<|Wy<|Wv rfl<|Wy<|Wr (.build (cs:=(⟨a,o,i⟩:AbT).row) rfl rfl)<|Wy<|Ww<|WS.call (vs:=[.agg (⟨a,o,i⟩:AbT).row]) rfl rfl (hY.call _ _ _ _ ((sf,.r false [a.row] 13)::(b7,.r false [o.row] 14)::(m3++m)) (h5 c IR a<|List.mem_of_getElem? Qa) hn3 qX hs8) ?_
   rintro w9 s9 ⟨rfl,t9,hs9,hJ9⟩
   refine Wy<|Wr (.un (v:=.bool false) rfl rfl)<|Wr (.cV rfl rfl)<|Wn<|Wd rfl fS<|λ_=>Wi ?_
   refine Wo<|Wj rfl rfl (bM<|by omega)<|Wv rfl<|Wn ?_
   exact⟨c.ab.length-(i+1),by omega,rfl,i+1,t9,rfl,adn,PG hs9,by rw[ad5,<- List.append_assoc];exact hJ9,cr rfl⟩
open Go.Proofs
set_option maxRecDepth 100000
noncomputable def aev:AC:=NF (pt (aeS (λn=>n) λn=>n) [1,1,1,1,0,1,0,0]) _
noncomputable def aew (F:Nat->FuncId):AC:=NF (pt (aeS F λn=>n) [1,1,1,1,0,1,0,1]) _
def abi (w id p:Int)(o:OD):Bool:=if w=0 then decide (o.id=id)else if w=1 then decide (o.aQ=p)else true
def kM (x:AbT):ID:=⟨0,3,x.o.aQ,x.o.id,x.o.gE,.ofNat x.i⟩
def l5 (id p:Int)(l:List AbT):List ID:=(l.filter λx=>abi x.a.who id p x.o).map kM
def ac1 (sf:Nat)(W:SH)(out:List ID)(t:SH):Prop:=∃lv og j,t.Perm ((sf,HO.r false [[lv]] 1)::(og++(j++W)))/\GrE 7 lv (CT out) og
theorem ac1.sub {sf:Nat}{W:SH}{out:List ID}{t:SH}(h:ac1 sf W out t):∀q∈W,q∈t:=by
 obtain⟨lv,og,j,hp,_⟩:=h
 exactλq hq=>hp.mem_iff.2<|by simp[hq]
def acR (F:Nat->FuncId)(b6 b7:Nat):List (AV × AV):=[(iv 0,.func (F 208) [] [.ptr (some ⟨b6,0,0⟩)]),(iv 1,.func (F 209) [] [.ptr (some ⟨b7,0,0⟩)]),(iv 2,.func (F 210) [] [])]
theorem afn (hQ:BaseQ P K F T){b6 b7:Nat}{id p w:Int}{o:OD}{s:SH}(h6:Has b6 (.r false [[iv id]] 1) s)(h7:Has b7 (.r false [[iv p]] 1) s)(hw:w=0\/w=1\/w=2) :
  ∃f cap,lookIn .pi (iv w) (acR F b6 b7)=some (some<|.func f [] cap)/\bB P K f (.agg o.row::cap) s (λv s'=>v=.bool (abi w id p o)/\∃m,s'=m++s):=by
 rcases hw with rfl|rfl|rfl
 ·exact⟨_,_,rfl,abV hQ h6⟩
 ·exact⟨_,_,rfl,abw hQ h7⟩
 ·exact⟨_,_,rfl,ack hQ⟩
theorem acG (hQ:BaseQ P K F T){lb D b6 b7 b9 sf b23:Nat}{id p:Int}{l1:Sl}{asg body:Code}{W:SH}(ha:cc P 60 asg=aev)(hb:cc P 60 body=aew F)(e9:lk l1 9=some (.ptr (some ⟨b9,0,0⟩)))(e10:lk l1 10=some (.ptr (some ⟨sf,0,0⟩)))
  (h6:Has b6 (.r false [[iv id]] 1) W) (h7:Has b7 (.r false [[iv p]] 1) W) (h9:Has b9 (.r false [[AV.map (some b23)]] 1) W) (h23:Has b23 (.m<|acR F b6 b7) W) :
  afH P K bl EL d (.yield lb) (λL t=>ac1 sf ((lb,HO.lp l1 60 [30] asg body .ready none D)::W) (l5 id p L) t):=by
 refine⟨λL t s x m hw hL hJ hs=>?_⟩
 obtain⟨lv,og,j,hpm,hG⟩:=hJ
 obtain⟨u,hu,hback⟩:=hs.split
 refine c6.perm (s:=(lb,.lp l1 60 [30] asg body .ready none D)::(u++(m++((sf,.r false [[lv]] 1)::(og++(j++W)))))) (ak λc w h0 h1 h2 hq=>by have:=hq _ _ hu;simp only[h1,h2,hq _ _ hpm]at this |-;omega)<|c6.canon ?_
 refine AU (by omega) ha hb ?_
 unfold aev aew
 have hil:(l5 id p L).length<=400:=by unfold l5;rw[List.length_map];exact Nat.le_trans (List.length_filter_le ..) hL
 have af0:l5 id p (L++[x])=l5 id p L++if abi x.a.who id p x.o then [kM x]else []:=by
  unfold l5
  rw[List.filter_append,List.map_append]
  congr 1
  rw[List.filter_cons]
  cases abi x.a.who id p x.o<;>rfl
 refine Wo<|Wa (.alloc rfl) λb11=>Ww<|Wt (s':=(b11,.r false [AbT.row x] 28)::_) rfl rfl rfl .here rfl rfl<|Wn ?_
 refine⟨(b11,.r false [x.row] 28)::(u++(m++((sf,.r false [[lv]] 1)::(og++(j++W))))),List.Perm.swap ..,?_⟩
 refine Wg (l':=[(9,.ptr<|some ⟨b9,0,0⟩),(10,.ptr<|some ⟨sf,0,0⟩),(11,.ptr<|some ⟨b11,0,0⟩)]) (aa e9<|aa e10<|cr rfl) (λ_ _ h=>h) ?_
 have hW:∀{b:Nat}{o:HO},Has b o W->Has b o ((lb,.lp l1 60 [30] asg body .busy none D)::(b11,.r false [x.row] 28)::(u++(m++((sf,.r false [[lv]] 1)::(og++(j++W)))))):=λh=>.there<|.there<|.app<|.app<|.there<|.app<|.app h
 obtain⟨f,cap,hlk,hf⟩:=afn hQ (o:=x.o) (hW h6) (hW h7) hw
 refine Wb<|Wq (Wl rfl (hW h9) rfl rfl rfl<|Wf rfl<|Wf rfl<|Wl rfl (.there .here) rfl rfl rfl<|Wr (.look rfl rfl (hW h23) hlk)<|Wv rfl<|Wn ?_) 
 refine Wq<|Wv rfl<|Wh (b:=false) rfl rfl rfl<|Wv rfl<|Wy<|Wv rfl<|Wy<|Wf rfl<|Wy<|Wl (cs:=x.o.row) rfl (.there .here) rfl rfl rfl<|Wy<|Ww<|Wc (first:=[]) (vs:=[.agg x.o.row]) rfl rfl hf ?_
 rintro _ _ ⟨rfl,mm,rfl⟩
 refine Wr (.cV rfl rfl)<|Wn ?_
 cases hm:abi x.a.who id p x.o with
 | false=>
  refine Wd rfl fS<|λ_=>Wi ?_
  rw[af0,hm]
  refine⟨mm++((b11,.r false [x.row] 28)::(u++(m++((sf,.r false [[lv]] 1)::(og++(j++W)))))),gK,u++(m++((sf,.r false [[lv]] 1)::(og++((mm++((b11,.r false [x.row] 28)::j))++((lb,.lp l1 60 [30] asg body .ready none D)::W))))),gK,rfl,_,hback _,lv,og,mm++((b11,.r false [x.row] 28)::j),.refl _,?_⟩
  show GrE 7 lv (CT<|l5 id p L++[]) og
  rw[List.append_nil]
  exact hG
 | true=>
  refine Wd rfl (λ_=>?_) Dz
  rw[af0,hm]
  refine Wo<|Wl (v:=lv) rfl (.app<|.there<|.there<|.app<|.app .here) rfl rfl rfl<|Wf rfl<|Wf rfl<|Wl rfl (.app<|.there .here) rfl rfl rfl<|Wf rfl<|Wf rfl<|Wl rfl (.app<|.there .here) rfl rfl rfl<|Wf rfl<|Wf rfl<|Wl rfl (.app<|.there .here) rfl rfl rfl<|Wf rfl<|Wl rfl (.app<|.there .here) rfl rfl rfl<|Wr (.build (cs:=(kM x).row) rfl rfl)<|Wa (.bslice (L:=[(kM x).row]) rfl rfl) λb57=>?_
  refine Ww<|WS.pre (s':=((b57,.r false [(kM x).row] 7)::(mm++((lb,.lp l1 60 [30] asg body .busy none D)::(b11,.r false [x.row] 28)::(sf,.r false [[lv]] 1)::(u++m))))++(og++(j++W))) (gK)<|WS.abt (xv:=.slice (some ⟨b57,0,0⟩) 1 1 false 7) rfl hG rfl (Src.all (L:=[(kM x).row]) .here) (by decide) (by simp only[CT,List.length_map,List.length_cons,List.length_nil];omega) (by decide) λnw A9 jk xB=>?_
  refine Ww<|Wt (s':=A9++(((b57,.r false [(kM x).row] 7)::(mm++((lb,.lp l1 60 [30] asg body .busy none D)::(b11,.r false [x.row] 28)::(sf,.r false [[nw]] 1)::(u++m))))++(jk++(j++W)))) (row':=[nw]) rfl rfl xB.out.src.part (.app<|.left<|.there<|.app<|.there<|.there .here) rfl rfl<|Wn ?_
  refine⟨A9++(((b57,.r false [(kM x).row] 7)::(mm++((b11,.r false [x.row] 28)::(sf,.r false [[nw]] 1)::(u++m))))++(jk++(j++W))),gK,u++(m++((sf,.r false [[nw]] 1)::(A9++(((b57,.r false [(kM x).row] 7)::(mm++((b11,.r false [x.row] 28)::(jk++j))))++((lb,.lp l1 60 [30] asg body .ready none D)::W))))),gK,rfl,_,hback _,nw,A9,(b57,.r false [(kM x).row] 7)::(mm++((b11,.r false [x.row] 28)::(jk++j))),.refl _,?_⟩
  show GrE 7 nw (CT<|l5 id p L++[kM x]) A9
  simpa[CT]using xB
theorem aba (hX:BdX P K F T tF g C d)(hf:Has bf (.r false [bu bl aZ c0 c1 c2 c3 c4 bE] 8) t)(eQ:cI t aZ C)(hs:aH bl EL d t s){k id p:Int}(h4:∀c∈C,c.ab.length<=4)(h5:∀c∈C,∀a∈c.ab,a.who=0\/a.who=1\/a.who=2)(h90:d.fi.length<=90)(q7:binV .lss (iv k) (iv 1)=some (.bool false))(hk2:binV .gtr (iv k) (iv 6)=some (.bool false)) :
  bB P K (F 176) [gm tF bf,iv k,iv id,iv p] s (λv s'=>∃m,aH bl EL d (m++t) s'/\Src m 7 v (CT<|l5 id p<|t6 3 k d C<|aaJ k d C)):=by
 refine hX.hQ.f176.ZH ?_
 refine Wq<|Wa (.box rfl rfl) λb6=>Wa (.box rfl rfl) λb7=>Wv rfl<|Wn ?_
 refine Ws<|Wq<|Wv rfl<|Wh (b:=false) rfl rfl rfl<|Wv rfl<|Wy<|Wv rfl<|Wy<|Wj rfl rfl q7<|Wr (.bj rfl rfl)<|Wv rfl<|Wy<|Wv rfl<|Wy<|Wj rfl rfl hk2<|Wr (.bj rfl rfl)<|Wn<|Wd rfl fS<|λ_=>Wi ?_
 refine Wq<|Wa .mkmap λb23=>Wr (.mkfn rfl rfl)<|Ww<|WS.ins rfl rfl rfl .here rfl<|Wr (.mkfn rfl rfl)<|Ww<|WS.ins rfl rfl rfl .here rfl<|Ww<|WS.ins rfl rfl rfl .here rfl<|Wv rfl<|Wa (.alloc rfl) λb9=>Ww<|Wt (s':=(b9,.r false [[AV.map (some b23)]] 1)::_) rfl rfl rfl .here rfl rfl<|Wn ?_
 refine Wq<|Wa (.alloc rfl) λsf=>Wn ?_
 refine Ws<|Wq<|Wv rfl<|Wv rfl ?_
 refine Ww<|W1 (abo hX.hQ rfl) ?_
 rintro _ _ ⟨b29,c29,rfl,rfl⟩
 refine Wn<|Wb ?_
 obtain⟨u,hu,hback⟩:=hs.split
 refine Wg (l':=[(9,.ptr<|some ⟨b9,0,0⟩),(10,.ptr<|some ⟨sf,0,0⟩),(29,.func (F 239) [] [.ptr (some ⟨b29,0,0⟩),.ptr<|some ⟨c29,0,0⟩])]) (cr rfl) (λ_ _ h=>h) ?_
 generalize hl1:[(9,AV.ptr<|some ⟨b9,0,0⟩),(10,AV.ptr<|some ⟨sf,0,0⟩),(29,AV.func (F 239) [] [.ptr (some ⟨b29,0,0⟩),.ptr<|some ⟨c29,0,0⟩])]=l1
 refine WP.rf (first:=[]) (cap:=[.ptr (some ⟨b29,0,0⟩),.ptr<|some ⟨c29,0,0⟩]) (by rw[<- hl1];rfl) λasg body ha hb D lb=>?_
 generalize hW:(D,HO.ob cM.deferred)::(c29,HO.r false [[iv k]] 1)::(b29,HO.r false [[gm tF bf]] 1)::(b9,HO.r false [[AV.map (some b23)]] 1)::(b23,HO.m<|acR F b6 b7)::(b7,HO.r false [[iv p]] 1)::(b6,HO.r false [[iv id]] 1)::t=W
 have hY:=acG (P:=P) (K:=K) (bl:=bl) (EL:=EL) (d:=d) hX.hQ (lb:=lb) (D:=D) (b6:=b6) (b7:=b7) (b9:=b9) (sf:=sf) (b23:=b23) (id:=id) (p:=p) (l1:=l1) (asg:=asg) (body:=body) (W:=W) ha hb (by rw[<- hl1];rfl) (by rw[<- hl1];rfl)
  (by rw[<- hW];exact .there<|.there<|.there<|.there<|.there<|.there .here) (by rw[<- hW];exact .there<|.there<|.there<|.there<|.there .here) (by rw[<- hW];exact .there<|.there<|.there .here) (by rw[<- hW];exact .there<|.there<|.there<|.there .here)
 have hs0:aH bl EL d ((sf,HO.r false [[nilS]] 1)::([]++([]++((lb,HO.lp l1 60 [30] asg body .ready none D)::W)))) ((lb,HO.lp l1 60 [30] asg body .ready none D)::(D,HO.ob .deferred)::(c29,HO.r false [[iv k]] 1)::(b29,HO.r false [[gm tF bf]] 1)::(sf,HO.r false [[nilS]] 1)::(b9,HO.r false [[AV.map (some b23)]] 1)::(b23,HO.m<|acR F b6 b7)::(b7,HO.r false [[iv p]] 1)::(b6,HO.r false [[iv id]] 1)::s):=(hback _).perm (ak λc w h0 h1 h2 hq=>by have:=hq _ _ hu;subst hW;simp only[h1,h2,h0]at this |-;omega)
 have hfW:Has bf (.r false [bu bl aZ c0 c1 c2 c3 c4 bE] 8) W:=by rw[<- hW];exact .there<|.there<|.there<|.there<|.there<|.there<|.there hf
 have hcW:cI W aZ C:=eQ.mono λq hq=>by rw[<- hW];simp[hq]
 refine bB.canon<|(abp (EL:=EL) hX hfW hcW (b2:=b29) (b3:=c29) (k:=k) (by rw[<- hW];exact .there<|.there .here) (by rw[<- hW];exact .there .here) h4 h5 h90 (.yield lb) _ _ _ hY (λL t2 h q hq=>h.sub q<|.tail _ hq) ⟨nilS,[],[],.refl _,.nil⟩ hs0).post ?_
 rintro _ s9 ⟨t9,hs9,nw,A9,j2,Gu,xB⟩
 obtain⟨u2,hu2,aeX⟩:=(hs9.tT Gu).split
 refine⟨(lb,HO.lp l1 60 [30] asg body .ready none D)::(u2++((sf,HO.r false [[nw]] 1)::(A9++(j2++W)))),ak (λc w h0 h1 h2 hq=>by have:=hq _ _ hu2;simp only[h1,h2]at this |-;omega),l1,.ready,none,_,rfl,(λh=>LoopState.noConfusion h),?_⟩
 subst hl1
 refine Wq<|Wl rfl (.there<|.app .here) rfl rfl rfl<|Wv rfl<|Wn<|We ?_
 subst hW
 refine⟨[D],(lb,HO.gone)::(u2++((sf,HO.r false [[nw]] 1)::(A9++(j2++((c29,HO.r false [[iv k]] 1)::(b29,HO.r false [[gm tF bf]] 1)::(b9,HO.r false [[AV.map (some b23)]] 1)::(b23,HO.m<|acR F b6 b7)::(b7,HO.r false [[iv p]] 1)::(b6,HO.r false [[iv id]] 1)::t))))),rfl,ak (λc w h0 h1 h2 hq=>by simp only[h1,h2,h0,List.map_cons,List.map_nil];omega),[nw],.tmp rfl .nil,A9++((D,HO.gone)::(lb,HO.gone)::(sf,HO.r false [[nw]] 1)::(c29,HO.r false [[iv k]] 1)::(b29,HO.r false [[gm tF bf]] 1)::(b9,HO.r false [[AV.map (some b23)]] 1)::(b23,HO.m<|acR F b6 b7)::(b7,HO.r false [[iv p]] 1)::(b6,HO.r false [[iv id]] 1)::j2),(aeX _).perm (ak λc w h0 h1 h2 hq=>by simp only[h1,h2,h0,List.map_cons,List.map_nil];omega),xB.gr.out.src.mono λq hq=>by simp[hq]⟩
theorem abQ (hX:BdX P K F T tF g C d)(hf:Has bf (.r false [bu bl aZ c0 c1 c2 c3 c4 bE] 8) t)(eQ:cI t aZ C)(hs:aH bl EL d t s){k id p:Int}(h4:∀c∈C,c.ab.length<=4)(h5:∀c∈C,∀a∈c.ab,a.who=0\/a.who=1\/a.who=2)(h90:d.fi.length<=90)(q7:binV .lss (iv k) (iv 1)=some (.bool false))(hk2:binV .gtr (iv k) (iv 6)=some (.bool false))
  {J:Nat->List (List AV)->SD->Prop} {L:List ID} (hLe:l5 id p (t6 3 k d C<|aaJ k d C)=L) (IH:L.length<=1000) (h0:J 0 EL d)
  (A2:∀(m:SH)q it EL1 d1 s1,L[q]?=some it->J q EL1 d1->aH bl EL1 d1 (m++t) s1->bB P K (F 15) [.ptr (some ⟨bf,0,0⟩),.agg<|evRow 17 0 0 0 0 it] s1 (λ_ s2=>∃Gg d2,J (q+1) Gg d2/\aH bl Gg d2 (m++t) s2)) :
  bB P K (F 128) [gm tF bf,iv k,iv id,iv p] s (λ_ s'=>∃Gg d2,J L.length Gg d2/\aH bl Gg d2 t s'):=by
 refine hX.hQ.f128.cF ?_
 refine Wq<|Wv rfl<|Wv rfl<|Wv rfl<|Wv rfl ?_
 refine Ww<|W1 (aba hX hf eQ hs h4 h5 h90 q7 hk2) ?_
 rintro v s2 ⟨m,dt,hS⟩
 rw[hLe]at hS
 have hl:lenOf v=some L.length:=by rw[hS.lenOf];simp[CT]
 refine Wr (.lenS rfl hl)<|Wv rfl<|Wn<|Wb ?_
 refine Wp (λn l ds s'=>ds=[]/\∃q EL1 d1,n=L.length-q/\q<=L.length/\J q EL1 d1/\aH bl EL1 d1 (m++t) s'/\∀x w,lk [(0,gm tF bf),(14,v),(15,iv<|.ofNat L.length),(16,iv<|.ofNat q)] x=some w->lk l x=some w) ?_ (n:=L.length-0)
  ⟨rfl,0,EL,d,rfl,Nat.zero_le _,h0,dt,cr rfl⟩
 rintro n l ds s5 ⟨rfl,q,EL1,d1,rfl,hq,hJ,tn,hl5⟩
 refine Wg hl5 (λ_ _ h=>h) ?_
 refine Wq<|Wj rfl rfl (eT _ _)<|Wn<|Ws<|Wd rfl (λht=>Wi ?_)<|λht=>Wx ?_
 rotate_left
 ·have hge:¬q<L.length:=λh=>of_decide_eq_false ht (Int.ofNat_lt.2 h)
  have hqL:q=L.length:=by omega
  subst hqL
  exact Wm .nil ⟨EL1,d1,hJ,tn.fb⟩
 have hlt:q<L.length:=Int.ofNat_lt.1<|of_decide_eq_true ht
 have hx:L[q]?=some L[q]:=List.getElem?_eq_getElem hlt
 generalize L[q]=it at hx
 obtain⟨ba,ra,na,ca,J5,Sp,Ma,e4,hba,me,hra⟩:=hS.at (i:=q)<|by simpa[CT]using hlt
 have hrow:Ma[ra+q]?=some it.row:=by rw[hra,CT,List.getElem?_map,hx];rfl
 refine Ws<|Wb<|Wq<|Wr (.iaddrS (congrArg some e4) rfl me<|by decide)<|Wl (cs:=it.row) rfl (tn.mem<|.left hba) hrow rfl rfl<|Wa (.alloc rfl) λb9=>Ww<|Wt (s':=(b9,.r false [it.row] 7)::s5) rfl rfl rfl .here rfl rfl<|Wn ?_
 have KL:aH bl EL1 d1 (((b9,.r false [it.row] 7)::m)++t) ((b9,.r false [it.row] 7)::s5):=tn.cons
 refine Wo<|Wv rfl<|Wl (cs:=it.row) rfl .here rfl rfl rfl<|Wr (.build (cs:=evRow 17 0 0 0 0 it) rfl rfl) ?_
 refine Ww<|WS.invoke (vs:=[AV.agg (evRow 17 0 0 0 0 it)]) rfl hX.do_ rfl (A2 _ q it EL1 d1 _ hx hJ KL) ?_
 rintro _ s7 ⟨Gg,d2,hJ2,hs7⟩
 refine Wn<|Wo<|Wj rfl rfl (bM<|by omega)<|Wv rfl<|Wn ?_
 exact⟨L.length-(q+1),by omega,rfl,q+1,Gg,d2,rfl,hlt,hJ2,aH.fb (x:=[_]) hs7,cr rfl⟩
theorem act (hN:BaseN P K F T)(hs:aH bl EL d t s){id:Int}(hno:∀s1,aH bl EL d t s1->bB P K (F 214) [gm tF bf,iv 2,iv id] s1 (λv s'=>v=.bool false/\aH bl EL d t s')) :
  bB P K (F 188) [gm tF bf,iv id] s (λv s'=>v=iv 3/\aH bl EL d t s'):=by
 refine hN.f188.cF ?_
 refine Wq<|Wv rfl<|Wn ?_
 refine Ws<|Wq<|Wv rfl<|Wv rfl ?_
 refine Ww<|W1 (hno _ hs) ?_
 rintro _ s2 ⟨rfl,dt⟩
 refine Wn<|Wd rfl fS<|λ_=>Wi ?_
 refine Wq<|Wv rfl<|Wn<|We<|Wm (.tmp rfl .nil) ?_
 exact⟨rfl,dt⟩
open Go.Proofs
set_option maxRecDepth 100000
noncomputable def aha:CF:=NF (cd 256 34) _
structure BaseO (P:Program)(K:Orc)(F:Nat->FuncId)(T:Nat->TypeId):Prop where
 f214:FnK P K (F 214) 34 [(.tmp 6)] (aha F T)
theorem aas (hX:BdX P K F T tF g C d)(hO:BaseO P K F T)(ht3:Ty1 P (T 3))(ht4:Ty1 P (T 4)){k:Int}(hno:∀c∈C,tf 5 k c=false)(hf:Has bf (.r false [bu bl aZ c0 c1 c2 c3 c4 bE] 8) t)(eQ:cI t aZ C)(hs:aH bl EL d t s){id:Int}{o:OD}(ho:d.obj id=some o)(hz:o.ci=2) :
  bB P K (F 214) [gm tF bf,iv k,iv id] s (λv s'=>v=.bool false/\aH bl EL d t s'):=by
 refine hO.f214.cF ?_
 refine Wq<|Wa (.box rfl rfl) λb5=>Wv rfl<|Wn ?_
 refine Ws<|Wq<|Wv rfl<|Wh (b:=false) rfl rfl rfl<|Wn<|Wd rfl fS<|λ_=>Wi ?_
 refine Wq<|Wv rfl<|Wl rfl .here rfl rfl rfl ?_
 have tn:aH bl EL d ((b5,HO.r false [[iv id]] 1)::t) ((b5,HO.r false [[iv id]] 1)::s):=hs.cons
 refine Ww<|WS.invoke (vs:=[iv id]) rfl (hX.hE.hM.obj ) rfl ( Qq hX.hE.hB hX.hE.hC tn hX.hE.hd (.there hf)) ?_
 rintro v s2 ⟨hv,dt⟩
 rw[ho]at hv
 subst hv
 have hq:eqBy 20 .pi (iv o.ci) (iv 2)=some true:=by rw[cD,decide_eq_true hz]
 have gw:∀b7,aH bl EL d ((b7,HO.r false [o.row] 14)::(b5,HO.r false [[iv id]] 1)::t) ((b7,HO.r false [o.row] 14)::s2):=λb7=>dt.cons
 refine Wv rfl<|Wr (.extract rfl rfl)<|Wr (.extract rfl rfl)<|Wa (.alloc rfl) λb7=>Ww<|Wt (s':=(b7,.r false [OD.row o] 14)::_) rfl rfl rfl .here rfl rfl<|Wv rfl<|Wn ?_
 refine Ws<|Wq<|Wv rfl<|Wr (.un rfl rfl)<|Wv rfl<|Wy<|Wf rfl<|Wy<|Wl rfl .here rfl rfl rfl<|Wy<|Wh rfl rfl hq<|Wr (.bj rfl rfl)<|Wn<|Wd rfl fS<|λ_=>Wi ?_
 refine Wq<|Wv rfl<|Wv rfl<|Wr (.mkfn rfl rfl) ?_
 refine Ww<|W1 (aar hX ht3 ht4 hno (.there<|.there hf) (eQ.mono λq hq=>by simp[hq]) (gw b7) rfl) ?_
 rintro v s4 ⟨rfl,pM⟩
 refine Wv rfl<|Wr (.extract rfl rfl)<|Wr (.extract rfl rfl)<|Wv rfl<|Wv rfl<|Wn ?_
 refine Wq<|Wv rfl<|Wv rfl<|Wn<|We<|Wm (.tmp rfl .nil) ?_
 exact⟨rfl,pM.fb (x:=[_,_])⟩
theorem aby (hX:BdX P K F T tF g C d)(hN:BaseN P K F T)(hO:BaseO P K F T)(ht3:Ty1 P (T 3))(ht4:Ty1 P (T 4))(hno:∀c∈C,tf 5 2 c=false)(hf:Has bf (.r false [bu bl aZ c0 c1 c2 c3 c4 bE] 8) t)(eQ:cI t aZ C)(hs:aH bl EL d t s){id:Int}{o:OD}(ho:d.obj id=some o)(hz:o.ci=2) :
  bB P K (F 188) [gm tF bf,iv id] s (λv s'=>v=iv 3/\aH bl EL d t s'):=
 act hN hs λs1 nr=>aas hX hO ht3 ht4 hno hf eQ nr ho hz
def loc (d:SD)(o:OD):Prop:=(o.ci=2/\o.id∈d.fi)\/(o.ci=0/\∃l,d.lb[o.owner.toNat]?=some l/\o.id∈l)\/(o.ci=3/\∃l,d.gr[o.owner.toNat]?=some l/\o.id∈l)
structure ObI (d:SD)(o:OD):Prop where
 i1:1<=o.id
 i2:o.id<d.nx
 bl:o.block=0
 cd:∃j:Nat,o.gE=.ofNat j/\j<4
 ow:∃p:Nat,o.owner=.ofNat p/\p<3
 ct:o.aQ=o.owner
def StO (fi:List Int)(ob:List OD):Prop:=fi.Pairwise λa b=>∀x∈ob,∀y∈ob,x.id=a->y.id=b->x.stamp<y.stamp
theorem StO.sub {fi fi':List Int}{ob ob':List OD}(h:StO fi ob)(h1:fi'.Sublist fi)(h2:∀a∈fi',∀x∈ob',x.id=a->∃y∈ob,y.id=a/\y.stamp=x.stamp):StO fi' ob':=by
 refine(h.sublist h1).imp_of_mem λha hb hab x hx y hy Qa hyb=>?_
 obtain⟨x2,h3,h4,h5⟩:=h2 _ ha x hx Qa
 obtain⟨y2,h6,h7,h8⟩:=h2 _ hb y hy hyb
 rw[<- h5,<- h8]
 exact hab x2 h3 y2 h6 h4 h7
structure LI (e n f w:Nat)(d:SD):Prop where
 pl:d.pl.length=3
 ev:d.kQ
 st:d.st=[]
 co:d.co=0
 ob:d.ob.length<=n
 nd:(d.ob.map OD.id).Nodup
 o:∀o∈d.ob,ObI d o
 lo:∀o∈d.ob,loc d o
 fi:d.fi.length<=f
 on:∀id∈d.fi,∃o∈d.ob,o.id=id/\o.ci=2
 ls:∀LL,(LL=d.lb\/LL=d.hd\/LL=d.gr\/LL=d.ex)->∀l∈LL,l.length<=n
 wa:d.wa.length<=w
 wn:(d.wa.map ID.id).Nodup
 wx:∀x∈d.wa,1<=x.id/\x.id<d.nx
 nx:1<=d.nx/\d.nx<=5+e
 sp:1<=d.sp/\d.sp<=5+e
 sm:∀o∈d.ob,o.stamp<d.sp
 so:StO d.fi d.ob
theorem LI.mono {e n f w e' n' f' w':Nat}{d:SD}(h:LI e n f w d)(h1:e<=e')(h2:n<=n')(h3:f<=f')(h4:w<=w'):LI e' n' f' w' d:=
 ⟨h.pl,h.ev,h.st,h.co,Nat.le_trans h.ob h2,h.nd,h.o,h.lo,Nat.le_trans h.fi h3,h.on,λLL hL l hl=>Nat.le_trans (h.ls LL hL l hl) h2,Nat.le_trans h.wa h4,h.wn,h.wx,⟨h.nx.1,by have:=h.nx.2;omega⟩,⟨h.sp.1,by have:=h.sp.2;omega⟩,h.sm,h.so⟩
theorem LI.small {e n f w:Nat}{d:SD}(h:LI e n f w d)(h2:n<=1000)(h3:f<=1000)(h4:w<=1000):d.Small:=by
 have a1:=h.pl
 have a2:=h.ob
 have a3:=h.fi
 have a4:=h.wa
 refine⟨⟨by omega,by omega,by omega,by rw[h.st];exact Nat.zero_le _,by omega⟩,λLL hL=>⟨?_,λl hl=>Nat.le_trans (h.ls LL hL l hl) h2⟩⟩
 rcases hL with rfl|rfl|rfl|rfl
 ·rw[h.ev.lb];omega
 ·rw[h.ev.hd];omega
 ·rw[h.ev.gr];omega
 ·rw[h.ev.ex];omega
theorem u3 {d:SD}{id:Int}{i:Nat}(h:d.find id=some i):∃o,d.ob[i]?=some o/\o.id=id/\o∈d.ob:=by
 unfold SD.find at h
 obtain⟨hi,h2,_⟩:=List.findIdx?_eq_some_iff_getElem.1 h
 exact⟨d.ob[i],List.getElem?_eq_getElem hi,of_decide_eq_true h2,List.getElem_mem hi⟩
theorem acy {d:SD}{o:OD}(h:o∈d.ob):∃i,d.find o.id=some i:=by
 unfold SD.find
 cases hf:d.ob.findIdx? λx=>decide (x.id=o.id) with
 | some i=>exact⟨i,rfl⟩
 | none=>have:=List.findIdx?_eq_none_iff.1 hf o h;simp at this
theorem N9 {d:SD}{id:Int}{o:OD}(h:d.obj id=some o):∃i,d.find id=some i/\d.ob[i]?=some o/\o.id=id/\o∈d.ob:=by
 unfold SD.obj at h
 cases hf:d.find id with
 | none=>rw[hf]at h;cases h
 | some i=>
  rw[hf]at h
  obtain⟨o',h1,h2,h3⟩:=u3 hf
  have:=h.symm.trans h1
  cases this
  exact⟨i,rfl,h,h2,h3⟩
theorem P1 {l:List OD}(h:(l.map OD.id).Nodup){a b:OD}(ha:a∈l)(hb:b∈l)(he:a.id=b.id):a=b:=by
 induction l with
 | nil=>cases ha
 | cons c l ih=>
  rw[List.map_cons,List.nodup_cons]at h
  rcases List.mem_cons.1 ha with h1|h1
  ·rcases List.mem_cons.1 hb with h2 | h2
   ·rw[h1,h2]
   ·exact absurd (List.mem_map.2 ⟨b,h2,by rw[<- he,h1]⟩) h.1
  ·rcases List.mem_cons.1 hb with h2 | h2
   ·exact absurd (List.mem_map.2 ⟨a,h1,by rw[he,h2]⟩) h.1
   ·exact ih h.2 h1 h2
theorem aaQ {d:SD}(hn:(d.ob.map OD.id).Nodup){o:OD}(h:o∈d.ob):d.obj o.id=some o:=by
 obtain⟨i,hi⟩:=acy h
 obtain⟨o',h1,h2,h3⟩:=u3 hi
 unfold SD.obj
 rw[hi]
 exact h1.trans<|by rw[P1 hn h3 h h2]
theorem erase_filter {l:List OD}(h:(l.map OD.id).Nodup){i:Nat}{o:OD}(hi:l[i]?=some o):l.eraseIdx i=l.filter λx=>!decide (x.id=o.id):=by
 induction l generalizing i with
 | nil=>cases hi
 | cons c l ih=>
  rw[List.map_cons,List.nodup_cons]at h
  cases i with
  | zero=>
   rw[List.getElem?_cons_zero]at hi
   cases hi
   rw[List.eraseIdx_cons_zero,List.filter_cons_of_neg<|by simp]
   refine(List.filter_eq_self.2 λx hx=>?_).symm
   have:x.id≠o.id:=λhh=>h.1<|List.mem_map.2 ⟨x,hx,hh⟩
   simp[this]
  | succ i=>
   rw[List.getElem?_cons_succ]at hi
   rw[List.eraseIdx_cons_succ,ih h.2 hi,List.filter_cons_of_pos]
   have:c.id≠o.id:=λhh=>h.1<|List.mem_map.2 ⟨o,List.mem_of_getElem? hi,hh.symm⟩
   simp[this]
theorem afl (id:Int)(l:List ID):(l.map (kN id)).map ID.id=l.map ID.id:=by
 rw[List.map_map]
 refine List.map_congr_left λx _=>?_
 show(kN id x).id=x.id
 unfold kN
 split<;>rfl
theorem aao (id:Int)(x:ID):(kN id x).aQ=x.aQ:=by unfold kN;split<;>rfl
theorem aep (id:Int)(x:ID):(kN id x).id=x.id:=by unfold kN;split<;>rfl
def aav (id:Int)(A B:List (List Int)):Prop:=∀(p:Nat)l,A[p]?=some l->∃l',B[p]?=some l'/\∀x∈l,x≠id->x∈l'
theorem aav.refl (id:Int)(A:List (List Int)):aav id A A:=λp l h=>⟨l,h,λx hx _=>hx⟩
theorem aav.set {id:Int}{A:List (List Int)}{p:Nat}{l l':List Int}(h:A[p]?=some l)(hl:∀x∈l,x≠id->x∈l'):aav id A (A.set p l'):=by
 intro q m hm
 by_cases hq:p=q
 ·subst hq
  rw[h]at hm
  cases hm
  exact⟨l',by rw[List.getElem?_set_self (List.getElem?_eq_some_iff.1 h).1],hl⟩
 ·exact⟨m,by rw[List.getElem?_set_ne hq];exact hm,λx hx _=>hx⟩
theorem LI.rem {e n f w:Nat}{d d':SD}{id:Int}(h:LI e n f w d)(uA:d'.pl=d.pl)(hev:d'.kQ)(hst:d'.st=d.st)(Sc:d'.co=d.co)(zF:d'.ob=d.ob.filter λo=>!decide (o.id=id))(hfi:d'.fi=d.fi.filter λx=>!decide (x=id))
  (hlb:aav id d.lb d'.lb) (hgr:aav id d.gr d'.gr) (hls:∀LL,(LL=d'.lb\/LL=d'.hd\/LL=d'.gr\/LL=d'.ex)->∀l∈LL,l.length<=n) (KO:d'.wa=d.wa.map (kN id)) (YI:d'.nx=d.nx) (hsp:d'.sp=d.sp):LI e n f w d':=by
 have hin:∀{o},o∈d'.ob->o∈d.ob/\o.id≠id:=λho=>by
  rw[zF]at ho
  obtain⟨h1,h2⟩:=List.mem_filter.1 ho
  exact⟨h1,λhh=>by simp[hh]at h2⟩
 have hto:∀{o},o∈d.ob->o.id≠id->o∈d'.ob:=λho hh=>by
  rw[zF]
  exact List.mem_filter.2 ⟨ho,by simp[hh]⟩
 refine⟨uA▸h.pl,hev,hst▸h.st,Sc▸h.co,?_,?_,λo ho=>?_,λo ho=>?_,?_,λx hx=>?_,hls,?_,?_,λx hx=>?_,YI▸h.nx,hsp▸h.sp,λo ho=>hsp▸h.sm o (hin ho).1,?_⟩
 ·rw[zF]
  exact Nat.le_trans (List.length_filter_le ..) h.ob
 ·rw[zF]
  exact h.nd.sublist<|List.Sublist.map _ List.filter_sublist
 ·have:=h.o o (hin ho).1
  exact⟨this.i1,YI▸this.i2,this.bl,this.cd,this.ow,this.ct⟩
 ·obtain⟨h1,h2⟩:=hin ho
  rcases h.lo o h1 with⟨hz,hl⟩|⟨hz,l,hl,hm⟩|⟨hz,l,hl,hm⟩
  ·refine .inl ⟨hz,?_⟩
   rw[hfi]
   exact List.mem_filter.2 ⟨hl,by simp[h2]⟩
  ·obtain⟨l',h3,h4⟩:=hlb _ _ hl
   exact .inr<|.inl ⟨hz,l',h3,h4 _ hm h2⟩
  ·obtain⟨l',h3,h4⟩:=hgr _ _ hl
   exact .inr<|.inr ⟨hz,l',h3,h4 _ hm h2⟩
 ·rw[hfi]
  exact Nat.le_trans (List.length_filter_le ..) h.fi
 ·rw[hfi]at hx
  obtain⟨h1,h2⟩:=List.mem_filter.1 hx
  obtain⟨o,h3,rfl,h5⟩:=h.on x h1
  exact⟨o,hto h3<|λhh=>by simp[hh]at h2,rfl,h5⟩
 ·rw[KO,List.length_map]
  exact h.wa
 ·rw[KO,afl]
  exact h.wn
 ·rw[KO]at hx
  obtain⟨y,hy,rfl⟩:=List.mem_map.1 hx
  rw[aep,YI]
  exact h.wx y hy
 ·rw[hfi]
  exact h.so.sub List.filter_sublist λa _ x hx Qa=>⟨x,(hin hx).1,Qa,rfl⟩
theorem abW {n:Nat}{A:List (List Int)}{p:Nat}{l:List Int}(hA:∀l∈A,l.length<=n)(hl:l.length<=n):∀m∈A.set p l,m.length<=n:=λm hm=>by
 rcases List.mem_or_eq_of_mem_set hm with h|h
 ·exact hA m h
 ·rw[h];exact hl
theorem LI.left {e n f w:Nat}{d:SD}(h:LI e n f w d){a:Int}{i p:Nat}{o:OD}(hi:d.find a=some i)(xG:d.ob[i]?=some o)(ho:o.owner=.ofNat p):LI e n f w { d.left a i o.ci p with wa:=d.wa.map (kN a) }/\(d.left a i o.ci p).ob=(d.ob.filter λo=>!decide (o.id=a))/\(d.left a i o.ci p).pl=d.pl/\(d.left a i o.ci p).nx=d.nx:=by
 obtain⟨o',h1,h2,h3⟩:=u3 hi
 have:=h1.symm.trans xG
 cases this
 have he:=erase_filter h.nd xG
 rw[h2]at he
 have hown:o.owner.toNat=p:=by rw[ho];rfl
 have vq:∀{l:List Int}(x:Int),x∈l->x≠a->x∈l.filter λn=>!decide (n=a):=λx hx hh=>List.mem_filter.2 ⟨hx,by simp[hh]⟩
 have af5:o.ci≠2->d.fi=d.fi.filter λx=>!decide (x=a):=λhz=>by
  refine(List.filter_eq_self.2 λx hx=>?_).symm
  obtain⟨o',h4,h5,h6⟩:=h.on x hx
  have:x≠a:=λhh=>hz<|by rw[<- h6,P1 h.nd h3 h4<|by rw[h2,h5,hh]]
  simp[this]
 rcases h.lo o h3 with⟨hz,hl⟩|⟨hz,l,hl,hm⟩|⟨hz,l,hl,hm⟩
 ·have hL:d.left a i o.ci p={ d with fi:=d.fi.filter λn=>!decide (n=a),ob:=d.ob.eraseIdx i }:=by rw[hz];rfl
  rw[hL]
  exact⟨h.rem rfl ⟨h.ev.lb,h.ev.hd,h.ev.gr,h.ev.ex⟩ rfl rfl he rfl (.refl _ _) (.refl _ _) h.ls rfl rfl rfl,he,rfl,rfl⟩
 ·rw[hown]at hl
  have hL:d.left a i o.ci p={ d with lb:=d.lb.set p<|l.filter λn=>!decide (n=a),ob:=d.ob.eraseIdx i }:=by rw[hz];unfold SD.left SD.ci;rw[if_neg (by decide),if_pos rfl,hl];rfl
  rw[hL]
  refine⟨h.rem rfl ⟨(List.length_set ..).trans h.ev.lb,h.ev.hd,h.ev.gr,h.ev.ex⟩ rfl rfl he (af5 (by rw[hz];decide)) (.set hl vq) (.refl _ _) (λLL hL=>?_) rfl rfl rfl,he,rfl,rfl⟩
  rcases hL with rfl|rfl|rfl|rfl
  ·exact abW (h.ls _<|.inl rfl)<|Nat.le_trans (List.length_filter_le ..)<|h.ls _ (.inl rfl) _<|List.mem_of_getElem? hl
  ·exact h.ls _<|.inr<|.inl rfl
  ·exact h.ls _<|.inr<|.inr<|.inl rfl
  ·exact h.ls _<|.inr<|.inr<|.inr rfl
 ·rw[hown]at hl
  have hL:d.left a i o.ci p={ d with gr:=d.gr.set p<|l.filter λn=>!decide (n=a),ob:=d.ob.eraseIdx i }:=by rw[hz];unfold SD.left SD.ci;rw[if_neg (by decide),if_neg<|by decide,if_neg<|by decide,if_pos rfl,hl];rfl
  rw[hL]
  refine⟨h.rem rfl ⟨h.ev.lb,h.ev.hd,(List.length_set ..).trans h.ev.gr,h.ev.ex⟩ rfl rfl he (af5 (by rw[hz];decide)) (.refl _ _) (.set hl vq) (λLL hL=>?_) rfl rfl rfl,he,rfl,rfl⟩
  rcases hL with rfl|rfl|rfl|rfl
  ·exact h.ls _<|.inl rfl
  ·exact h.ls _<|.inr<|.inl rfl
  ·exact abW (h.ls _<|.inr<|.inr<|.inl rfl)<|Nat.le_trans (List.length_filter_le ..)<|h.ls _ (.inr<|.inr<|.inl rfl) _<|List.mem_of_getElem? hl
  ·exact h.ls _<|.inr<|.inr<|.inr rfl
theorem LI.gone {e n f w:Nat}{d:SD}(h:LI e n f w d){a:Int}{i:Nat}{o:OD}(hi:d.find a=some i)(xG:d.ob[i]?=some o):LI e n f w { d.gone a i with wa:=d.wa.map (kN a) }/\(d.gone a i).ob=d.ob.filter λo=>!decide (o.id=a):=by
 obtain⟨o',h1,h2,h3⟩:=u3 hi
 have:=h1.symm.trans xG
 cases this
 have he:=erase_filter h.nd xG
 rw[h2]at he
 exact⟨h.rem rfl ⟨h.ev.lb,h.ev.hd,h.ev.gr,h.ev.ex⟩ rfl rfl he rfl (.refl _ _) (.refl _ _) h.ls rfl rfl rfl,he⟩
theorem LI.new {e n f w:Nat}{d:SD}(h:LI e n f w d){p c:Nat}(hp:p<3)(hc:c<4)(m:Int):LI (e+1) (n+1) (f+1) w (d.add (pY p (.ofNat c) 2 m) p)/\(d.add (pY p (.ofNat c) 2 m) p).pl=d.pl/\(d.add (pY p (.ofNat c) 2 m) p).oc=d.oc:=by
 have hL:d.add (pY p (.ofNat c) 2 m) p={ d with nx:=d.nx+1,sp:=d.sp+1,ob:=d.ob++[(pY p (.ofNat c) 2 m).new2 d.nx d.sp],fi:=d.fi++[d.nx] }:=rfl
 rw[hL]
 have a1:=h.nx
 have a2:=h.sp
 refine⟨⟨h.pl,⟨h.ev.lb,h.ev.hd,h.ev.gr,h.ev.ex⟩,h.st,h.co,?_,?_,λo ho=>?_,λo ho=>?_,?_,λx hx=>?_,λLL hL l hl=>Nat.le_succ_of_le<|h.ls LL hL l hl,h.wa,h.wn,λx hx=>⟨(h.wx x hx).1,Int.lt_add_one_of_le<|Int.le_of_lt (h.wx x hx).2⟩,⟨by show 1<=d.nx+1;omega,by show d.nx+1<=_;omega⟩,⟨by show 1<=d.sp+1;omega,by show d.sp+1<=_;omega⟩,λo ho=>?_,?_⟩,rfl,rfl⟩
 ·show(d.ob++[_]).length<=_
  rw[List.length_append,List.length_singleton]
  exact Nat.add_le_add_right h.ob 1
 ·show((d.ob++[_]).map OD.id).Nodup
  rw[List.map_append]
  refine List.nodup_append.2 ⟨h.nd,by simp,λx hx y hy hh=>?_⟩
  obtain⟨o,ho,rfl⟩:=List.mem_map.1 hx
  have:=(h.o o ho).i2
  rw[List.mem_singleton.1 hy]at hh
  have:o.id=d.nx:=hh
  omega
 ·rcases List.mem_append.1 ho with ho | ho
  ·have:=h.o o ho
   exact⟨this.i1,Int.lt_add_one_of_le<|Int.le_of_lt this.i2,this.bl,this.cd,this.ow,this.ct⟩
  ·rw[List.mem_singleton.1 ho]
   exact⟨a1.1,by show d.nx<d.nx+1;omega,rfl,⟨c,rfl,hc⟩,⟨p,rfl,hp⟩,rfl⟩
 ·rcases List.mem_append.1 ho with ho | ho
  ·rcases h.lo o ho with⟨hz,hl⟩ | h1 | h1
   ·exact .inl ⟨hz,List.mem_append_left _ hl⟩
   ·exact .inr<|.inl h1
   ·exact .inr<|.inr h1
  ·rw[List.mem_singleton.1 ho]
   exact .inl ⟨rfl,List.mem_append_right _<|List.mem_singleton.2 rfl⟩
 ·show(d.fi++[_]).length<=_
  rw[List.length_append,List.length_singleton]
  exact Nat.add_le_add_right h.fi 1
 ·rcases List.mem_append.1 hx with hx | hx
  ·obtain⟨o,h1,h2,h3⟩:=h.on x hx
   exact⟨o,List.mem_append_left _ h1,h2,h3⟩
  ·exact⟨_,List.mem_append_right _<|List.mem_singleton.2 rfl,(List.mem_singleton.1 hx).symm,rfl⟩
 ·show o.stamp<d.sp+1
  rcases List.mem_append.1 ho with ho|ho
  ·have:=h.sm o ho;omega
  ·rw[List.mem_singleton.1 ho]
   show d.sp<d.sp+1;omega
 ·have old:∀{x:OD},x∈d.ob++[(pY p (.ofNat c) 2 m).new2 d.nx d.sp]->x.id<d.nx->x∈d.ob:=λhx hlt=>by
   rcases List.mem_append.1 hx with hx|hx
   ·exact hx
   ·rw[List.mem_singleton.1 hx]at hlt
    exact absurd hlt<|Int.lt_irrefl _
  have fld:∀a∈d.fi,a<d.nx:=λa ha=>by
   obtain⟨o,h1,h2,_⟩:=h.on a ha
   exact h2▸(h.o o h1).i2
  refine List.pairwise_append.2 ⟨h.so.sub (List.Sublist.refl _) λa ha x hx Qa=>⟨x,old hx<|Qa▸fld a ha,Qa,rfl⟩,List.pairwise_singleton ..,λa ha b hb x hx y hy Qa hyb=>?_⟩
  have h1:=h.sm x<|old hx<|Qa▸fld a ha
  rcases List.mem_append.1 hy with hy|hy
  ·have:=(h.o y hy).i2
   rw[hyb,List.mem_singleton.1 hb]at this
   exact absurd this<|Int.lt_irrefl _
  ·rw[List.mem_singleton.1 hy]
   exact h1
theorem LI.ahF {e n f w:Nat}{d:SD}(h:LI e n f w d){p:Nat}{o:OD}(hp:p<3)(ho:o.owner=.ofNat p)(hc:∃j:Nat,o.gE=.ofNat j/\j<4):LI (e+1) (n+1) f w (d.add (pX o 3) p)/\(d.add (pX o 3) p).pl=d.pl/\(d.add (pX o 3) p).wa=d.wa/\(d.add (pX o 3) p).nx=d.nx+1/\(d.add (pX o 3) p).ob=d.ob++[(pX o 3).new1 d.nx]:=by
 obtain⟨l,hl⟩:∃l,d.gr[p]?=some l:=⟨_,List.getElem?_eq_getElem (by rw[h.ev.gr,h.pl];exact hp)⟩
 have hL:d.add (pX o 3) p={ d with nx:=d.nx+1,ob:=d.ob++[(pX o 3).new1 d.nx],gr:=d.gr.set p (l++[d.nx]) }:=by
  simp[SD.add,SD.ci,pX,SD.xR,SD.obs,hl,OD.new1]
 rw[hL]
 have a1:=h.nx
 have a2:=h.sp
 have hK:∀(q:Nat)m,d.gr[q]?=some m->∃m',(d.gr.set p<|l++[d.nx])[q]?=some m'/\∀x∈m,x∈m':=λq m hm=>by
  by_cases hq:p=q
  ·subst hq
   rw[hl]at hm
   cases hm
   exact⟨_,by rw[List.getElem?_set_self (List.getElem?_eq_some_iff.1 hl).1],λx hx=>List.mem_append_left _ hx⟩
  ·exact⟨m,by rw[List.getElem?_set_ne hq];exact hm,λx hx=>hx⟩
 refine⟨⟨h.pl,⟨h.ev.lb,h.ev.hd,(List.length_set ..).trans h.ev.gr,h.ev.ex⟩,h.st,h.co,?_,?_,λo ho=>?_,λo2 qa=>?_,h.fi,λx hx=>?_,λLL hL=>?_,h.wa,h.wn,λx hx=>⟨(h.wx x hx).1,Int.lt_add_one_of_le<|Int.le_of_lt (h.wx x hx).2⟩,⟨by show 1<=d.nx+1;omega,by show d.nx+1<=_;omega⟩,⟨a2.1,by show d.sp<=_;omega⟩,λo2 qa=>?_,?_⟩,rfl,rfl,rfl,rfl⟩
 ·show(d.ob++[_]).length<=_
  rw[List.length_append,List.length_singleton]
  exact Nat.add_le_add_right h.ob 1
 ·show((d.ob++[_]).map OD.id).Nodup
  rw[List.map_append]
  refine List.nodup_append.2 ⟨h.nd,by simp,λx hx y hy hh=>?_⟩
  obtain⟨o,ho,rfl⟩:=List.mem_map.1 hx
  have:=(h.o o ho).i2
  rw[List.mem_singleton.1 hy]at hh
  have:o.id=d.nx:=hh
  omega
 ·rcases List.mem_append.1 ho with ho | ho
  ·have:=h.o o ho
   exact⟨this.i1,Int.lt_add_one_of_le<|Int.le_of_lt this.i2,this.bl,this.cd,this.ow,this.ct⟩
  ·rw[List.mem_singleton.1 ho]
   exact⟨a1.1,by show d.nx<d.nx+1;omega,rfl,hc,⟨p,by assumption,hp⟩,rfl⟩
 ·rcases List.mem_append.1 qa with qa | qa
  ·rcases h.lo o2 qa with h1 | h1 | ⟨hz,m,h1,h2⟩
   ·exact .inl h1
   ·exact .inr<|.inl h1
   ·obtain⟨m',h3,h4⟩:=hK _ _ h1
    exact .inr<|.inr ⟨hz,m',h3,h4 _ h2⟩
  ·rw[List.mem_singleton.1 qa]
   refine .inr<|.inr ⟨rfl,l++[d.nx],?_,List.mem_append_right _<|List.mem_singleton.2 rfl⟩
   show(d.gr.set p<|l++[d.nx])[o.owner.toNat]?=_
   rw[ho]
   show(d.gr.set p<|l++[d.nx])[p]?=_
   rw[List.getElem?_set_self (List.getElem?_eq_some_iff.1 hl).1]
 ·obtain⟨o,h1,h2,h3⟩:=h.on x hx
  exact⟨o,List.mem_append_left _ h1,h2,h3⟩
 ·have hm:∀{A:List (List Int)},(∀l∈A,l.length<=n)->∀l∈A,l.length<=n+1:=λhA l hl=>Nat.le_succ_of_le (hA l hl)
  rcases hL with rfl|rfl|rfl|rfl
  ·exact hm<|h.ls _<|.inl rfl
  ·exact hm<|h.ls _<|.inr<|.inl rfl
  ·refine abW (hm<|h.ls _<|.inr<|.inr<|.inl rfl) ?_
   rw[List.length_append,List.length_singleton]
   exact Nat.add_le_add_right (h.ls _ (.inr<|.inr<|.inl rfl) _<|List.mem_of_getElem? hl) 1
  ·exact hm<|h.ls _<|.inr<|.inr<|.inr rfl
 ·show o2.stamp<d.sp
  rcases List.mem_append.1 qa with qa|qa
  ·exact h.sm o2 qa
  ·rw[List.mem_singleton.1 qa]
   show 0<d.sp;omega
 ·refine h.so.sub (List.Sublist.refl _) λa ha x hx Qa=>?_
  rcases List.mem_append.1 hx with hx|hx
  ·exact⟨x,hx,Qa,rfl⟩
  ·obtain⟨o3,h1,h2,_⟩:=h.on a ha
   have:=(h.o o3 h1).i2
   rw[h2,<- Qa,List.mem_singleton.1 hx]at this
   exact absurd this<|Int.lt_irrefl _
theorem LI.other {e n f w:Nat}{d:SD}(h:LI e n f w d){pl:List LD}(uA:pl.length=3){oc wi:Int}:LI e n f w { d with pl:=pl,oc:=oc,wi:=wi }:=
 ⟨uA,⟨h.ev.lb.trans<|h.pl.trans uA.symm,h.ev.hd.trans<|h.pl.trans uA.symm,h.ev.gr.trans<|h.pl.trans uA.symm,h.ev.ex.trans<|h.pl.trans uA.symm⟩,h.st,h.co,h.ob,h.nd,λo ho=>⟨(h.o o ho).i1,(h.o o ho).i2,(h.o o ho).bl,(h.o o ho).cd,(h.o o ho).ow,(h.o o ho).ct⟩,h.lo,h.fi,h.on,h.ls,h.wa,h.wn,h.wx,h.nx,h.sp,h.sm,h.so⟩
theorem LI.ahX {e n f w:Nat}{d:SD}(h:LI e n f w d){i:Nat}{o:OD}(xG:d.ob[i]?=some o)(x:Int):LI e n f w { d with ob:=d.ob.set i { o with hurt:=x } }:=by
 have ho:o∈d.ob:=List.mem_of_getElem? xG
 have hid:(d.ob.set i { o with hurt:=x }).map OD.id=d.ob.map OD.id:=by
  obtain⟨h1,h2⟩:=List.getElem?_eq_some_iff.1 xG
  have h3:({ o with hurt:=x }:OD).id=(d.ob.map OD.id)[i]'(by simpa using h1):=by rw[List.getElem_map,h2]
  rw[List.map_set,h3,List.set_getElem_self]
 have hin:∀{o2},o2∈d.ob.set i { o with hurt:=x }->o2∈d.ob\/o2={ o with hurt:=x }:=λh=>List.mem_or_eq_of_mem_set h
 have hto:∀{o2},o2∈d.ob->∃o3∈d.ob.set i { o with hurt:=x },o3.id=o2.id/\o3.ci=o2.ci:=λ{o2} h2=>by
  obtain⟨j,hj⟩:=List.getElem?_of_mem h2
  by_cases hij:i=j
  ·subst hij
   rw[xG]at hj
   cases hj
   exact⟨_,List.mem_iff_getElem?.2 ⟨i,List.getElem?_set_self (List.getElem?_eq_some_iff.1 xG).1⟩,rfl,rfl⟩
  ·exact⟨o2,List.mem_iff_getElem?.2 ⟨j,by rw[List.getElem?_set_ne hij];exact hj⟩,rfl,rfl⟩
 refine⟨h.pl,⟨h.ev.lb,h.ev.hd,h.ev.gr,h.ev.ex⟩,h.st,h.co,(List.length_set ..).symm▸h.ob,by show((d.ob.set i _).map OD.id).Nodup;rw[hid];exact h.nd,λo2 h2=>?_,λo2 h2=>?_,h.fi,λy hy=>?_,h.ls,h.wa,h.wn,h.wx,h.nx,h.sp,λo2 h2=>?_,h.so.sub (List.Sublist.refl _) λa ha x hx Qa=>?_⟩
 ·rcases hin h2 with h2 | rfl
  ·have:=h.o o2 h2
   exact⟨this.i1,this.i2,this.bl,this.cd,this.ow,this.ct⟩
  ·have:=h.o o ho
   exact⟨this.i1,this.i2,this.bl,this.cd,this.ow,this.ct⟩
 ·rcases hin h2 with h2 | rfl
  ·exact h.lo o2 h2
  ·exact h.lo o ho
 ·obtain⟨o2,h1,h2,h3⟩:=h.on y hy
  obtain⟨o3,h4,h5,h6⟩:=hto h1
  exact⟨o3,h4,h5.trans h2,h6.trans h3⟩
 ·rcases hin h2 with h2 | rfl
  ·exact h.sm o2 h2
  ·exact h.sm o ho
 ·rcases hin hx with h2 | rfl
  ·exact⟨x,h2,Qa,rfl⟩
  ·exact⟨o,ho,Qa,rfl⟩
theorem LI.wait {e n f w:Nat}{d:SD}(h:LI e n f w d)(it:ID):LI (e+1) n f (w+1) { d with nx:=d.nx+1,wa:=d.wa++[{ it with id:=d.nx }] }:=by
 have a1:=h.nx
 have a2:=h.sp
 refine⟨h.pl,⟨h.ev.lb,h.ev.hd,h.ev.gr,h.ev.ex⟩,h.st,h.co,h.ob,h.nd,λo ho=>?_,h.lo,h.fi,h.on,h.ls,?_,?_,λx hx=>?_,⟨by show 1<=d.nx+1;omega,by show d.nx+1<=_;omega⟩,⟨a2.1,by show d.sp<=_;omega⟩,h.sm,h.so⟩
 ·have:=h.o o ho
  exact⟨this.i1,Int.lt_add_one_of_le<|Int.le_of_lt this.i2,this.bl,this.cd,this.ow,this.ct⟩
 ·show(d.wa++[_]).length<=_
  rw[List.length_append,List.length_singleton]
  exact Nat.add_le_add_right h.wa 1
 ·show((d.wa++[_]).map ID.id).Nodup
  rw[List.map_append]
  refine List.nodup_append.2 ⟨h.wn,by simp,λx hx y hy hh=>?_⟩
  obtain⟨o,ho,rfl⟩:=List.mem_map.1 hx
  have:=h.wx o ho
  rw[List.mem_singleton.1 hy]at hh
  have:o.id=d.nx:=hh
  omega
 ·show 1<=x.id/\x.id<d.nx+1
  rcases List.mem_append.1 hx with hx|hx
  ·have:=h.wx x hx;omega
  ·rw[List.mem_singleton.1 hx]
   show 1<=d.nx/\d.nx<d.nx+1;omega
theorem LI.unwait {e n f w:Nat}{d:SD}(h:LI e n f w d)(q:ID->Bool):LI e n f w { d with wa:=d.wa.filter q }:=
 ⟨h.pl,⟨h.ev.lb,h.ev.hd,h.ev.gr,h.ev.ex⟩,h.st,h.co,h.ob,h.nd,λo ho=>⟨(h.o o ho).i1,(h.o o ho).i2,(h.o o ho).bl,(h.o o ho).cd,(h.o o ho).ow,(h.o o ho).ct⟩,h.lo,h.fi,h.on,h.ls,Nat.le_trans (List.length_filter_le ..) h.wa,h.wn.sublist<|List.Sublist.map _ List.filter_sublist,λx hx=>h.wx x (List.mem_filter.1 hx).1,h.nx,h.sp,h.sm,h.so⟩
def abq (a b:Int):Int:=match binV .add (iv a) (iv b)with | some (.int _ n)=>n | _=>0
def gA (e:ED)(c:CH):CH:=⟨abq c.p (oP e.a),abq c.t (oP e.b),c.k⟩
theorem ac8 (a b:Int):binV .add (iv a) (iv b)=some (iv (abq a b)):=by
 have:∃n,binV .add (iv a) (iv b)=some (iv n):=by
  show∃n,mkI .i64 (iadd a b)=some (iv n)
  generalize iadd a b=x
  cases x with
  | ofNat m=>
   show∃n,(match Nat.ble m 9223372036854775807 with | true=>force m λm=>some (AV.int .i64<|.ofNat m) | false=>some<|AV.int .i64<|IntKind.wrap .i64<|.ofNat m)=_
   cases Nat.ble m 9223372036854775807
   ·exact⟨_,rfl⟩
   ·exact⟨_,aL _ _⟩
  | negSucc m=>
   show∃n,(match Nat.ble m 9223372036854775807 with | true=>force m λm=>some (AV.int .i64<|.negSucc m) | false=>some<|AV.int .i64<|IntKind.wrap .i64<|.negSucc m)=_
   cases Nat.ble m 9223372036854775807
   ·exact⟨_,rfl⟩
   ·exact⟨_,aL _ _⟩
 obtain⟨n,h⟩:=this
 unfold abq
 rw[h]
structure x7 (C:List CD):Prop where
 n:C.length=4
 R8:∀c∈C,c.ab.length<=1
 x:∀c∈C,∀x∈c.ab,x.kind=3/\x.ev=2/\(x.who=0\/x.who=2)\/x.kind=4/\x.ev=0/\x.who=2/\x.op=4/\x.a=0/\x.b=.negSucc 0
theorem ac9 (hC:BaseC P K F T){e:ED}(he:e.op=4):lQ P K F gA e:=by
 refine⟨F 236,by unfold rowOf cx;rw[he];rfl,λb c s=>?_⟩
 refine hC.f236.cF ?_
 have e1:=ac8 c.p<|oP e.a
 have e2:=ac8 c.t<|oP e.b
 refine Wq<|Wa (.box rfl rfl) λb3=>Wn ?_
 refine Ws<|WP.bD<|Dp (.mv rfl)<|Dp (.nilchk rfl rfl)<|Dp (.faddr rfl)<|WD.lk rfl .nil (.load rfl (.there .here) rfl rfl rfl)<|Dp (.faddr rfl)<|Dl rfl .nil (.load rfl .here rfl rfl rfl) ?_
 refine Dc .nil<|W1 (lM hC) ?_
 rintro w _ ⟨rfl,rfl⟩
 refine Dp (.arith rfl rfl e1)<|Dp (.nilchk rfl rfl)<|Dp (.faddr rfl)<|Dc .nil<|Wt (s':=_::(b,.r false [[iv (abq (CH.p c)<|oP<|ED.a e),iv<|CH.t c,iv<|CH.k c]] 3)::_) rfl rfl rfl (.there .here) rfl rfl ?_
 refine D0 .nil ?_ ?_
 rotate_left
 ·intro x hx
  rw[List.mem_singleton.1 hx]
  refine⟨(λi hi=>nomatch hi),Nat.zero_le _,wC _,λk _ hk=>?_⟩
  rcases cN hk with rfl|rfl
  ·exact⟨_,rfl,.load rfl (.there .here) rfl rfl rfl⟩
  ·exact⟨_,rfl,.load rfl (.there .here) rfl rfl rfl⟩
 refine WP.bD<|Dp (.mv rfl)<|Dp (.nilchk rfl rfl)<|Dp (.faddr rfl)<|WD.lk rfl .nil (.load rfl (.there .here) rfl rfl rfl)<|Dp (.faddr rfl)<|Dl rfl .nil (.load rfl .here rfl rfl rfl) ?_
 refine Dc .nil<|W1 (lM hC) ?_
 rintro w _ ⟨rfl,rfl⟩
 refine Dp (.arith rfl rfl e2)<|Dp (.nilchk rfl rfl)<|Dp (.faddr rfl)<|Dc .nil<|Wt (s':=_::(b,.r false [[iv (abq (CH.p c)<|oP<|ED.a e),iv<|abq (CH.t c)<|oP<|ED.b e,iv<|CH.k c]] 3)::_) rfl rfl rfl (.there .here) rfl rfl ?_
 refine D0 .nil ?_ ?_
 rotate_left
 ·intro x hx
  rw[List.mem_singleton.1 hx]
  refine⟨(λi hi=>nomatch hi),Nat.zero_le _,wC _,λk _ hk=>?_⟩
  rcases cN hk with rfl|rfl
  ·exact⟨_,rfl,.load rfl (.there .here) rfl rfl rfl⟩
  ·exact⟨_,rfl,.load rfl (.there .here) rfl rfl rfl⟩
 refine Wm .nil ?_
 exact⟨[_],rfl⟩
theorem ach {d:SD}{b:OD}{n:Int}{e:ED}(h:e∈oneE d C b n):∃o∈d.ob,o.id=n/\e.st=o.stamp:=by
 unfold oneE at h
 split at h
 ·cases h
 ·rename_i i hi
  obtain⟨o',h1,h2,h3⟩:=u3 hi
  split at h
  ·cases h
  ·rename_i o ho
   have:=h1.symm.trans ho
   cases this
   split at h
   ·cases h
   ·obtain⟨x,_,rfl⟩:=List.mem_map.1 h
    exact⟨o',h3,h2,rfl⟩
theorem agw (hP:x7 C){d:SD}(hso:StO d.fi d.ob)(b:OD):(∀e∈qy d C b,e.op=4)/\(qy d C b).Pairwise λx y=>x.st<y.st:=by
 refine⟨λe he=>?_,(List.pairwise_flatMap.2 ⟨λn _=>?_,hso.imp λh x hx y hy=>?_⟩).sublist List.filter_sublist⟩
 ·obtain⟨c,hc,x,hx,hk,h1,_⟩:=sA he
  rcases hP.x c hc x hx with h|h
  ·rw[h.1]at hk;cases hk
  ·exact h1.trans h.2.2.2.1
 ·have:=DI (d:=d) hP.R8 b n
  match oneE d C b n,this with
  | [],_=>exact .nil
  | [x],_=>exact List.pairwise_singleton ..
  | _::_::_,h=>exact absurd h<|by simp
 ·obtain⟨o1,h1,h2,h3⟩:=ach hx
  obtain⟨o2,h4,h5,h6⟩:=ach hy
  rw[h3,h6]
  exact h o1 h1 o2 h4 h2 h5
theorem ahJ (hC:BaseC P K F T)(hP:x7 C){d:SD}(hcd:∀o∈d.ob,∃j:Nat,o.gE=.ofNat j/\j<4)(hf:d.fi.length<=39)(hso:StO d.fi d.ob):nG P K F gA d C where
 ok:=⟨λo ho=>by rw[hP.n];exact hcd o ho,λc hc x hx hk=>by
  rcases hP.x c hc x hx with h|h
  ·rw[h.1]at hk;cases hk
  ·exact .inr h.2.2.1,N4 hP.R8 hf,agw hP hso⟩
 step o e he:=by
  obtain⟨c,hc,x,hx,hk,h1,_⟩:=sA he
  rcases hP.x c hc x hx with h|h
  ·rw[h.1]at hk;cases hk
  ·exact ac9 hC (by rw[h1];exact h.2.2.2.1)
 any o c R hR:=by
  unfold tK
  rw[hR.foldl_eq' λx hx y hy z=>?_]
  have ha:∀e∈R,e.a=0/\e.b=.negSucc 0:=λe he=>by
   obtain⟨c,hc,x,hx,hk,_,h2,h3⟩:=sA<|hR.mem_iff.1 he
   rcases hP.x c hc x hx with h|h
   ·rw[h.1]at hk;cases hk
   ·exact⟨h2.trans h.2.2.2.2.1,h3.trans h.2.2.2.2.2⟩
  unfold gA
  rw[(ha x hx).1,(ha y hy).1,(ha x hx).2,(ha y hy).2]
structure aet (P:Program)(K:Orc)(F:Nat->FuncId):Prop where
 new:∀(p c:Nat)(m:Int)s,p<3->c<4->m=0\/m=1->bB P K (F 201) [.agg (evRow 1 (.ofNat p) (.ofNat c) 2 m qb)] s (λv s'=>v=iv 0/\s'=s)
 life:∀(p:Nat)(n:Int)s,p<3->-24<=n->n<=0->bB P K (F 201) [.agg (evRow 7 (.ofNat p) 0 n 0 qb)] s (λv s'=>v=iv 0/\s'=s)
 hurt:∀(a n:Int)s,1<=a->a<=1000000->0<=n->n<=2->bB P K (F 201) [.agg (evRow 5 a 0 n 0 qb)] s (λv s'=>v=iv 0/\s'=s)
 hurt0:∀(n:Int)s,0<=n->n<=2->bB P K (F 201) [.agg (evRow 5 0 0 n 0 qb)] s (λv s'=>v=iv 2/\s'=s)
 empty:∀(p:Nat)s,p<3->bB P K (F 201) [.agg (evRow 24 (.ofNat p) 0 0 0 qb)] s (λv s'=>v=iv 0/\s'=s)
 wait:∀(c o k a:Int)s,0<=c/\c<=2->0<=o/\o<=1000000->0<=k/\k<=3->0<=a/\a<=3->bB P K (F 201) [.agg (evRow 17 0 0 0 0 ⟨0,3,c,o,k,a⟩)] s (λv s'=>v=iv 0/\s'=s)
 lose:∀(p:Nat)s,p<3->bB P K (F 201) [.agg (evRow 23 (.ofNat p) 0 0 0 qb)] s (λv s'=>v=iv 0/\s'=s)
 unwait:∀(a:Int)s,1<=a->a<=1000000->bB P K (F 201) [.agg (evRow 18 a 0 0 0 qb)] s (λv s'=>v=iv 0/\s'=s)
 cease:∀(a:Int)s,1<=a->a<=1000000->bB P K (F 201) [.agg (evRow 25 a 0 0 0 qb)] s (λv s'=>v=iv 0/\s'=s)
 move:∀(a:Int)s,1<=a->a<=1000000->bB P K (F 201) [.agg (evRow 2 a 3 0 0 qb)] s (λv s'=>v=iv 0/\s'=s)
 win:∀(p:Nat)s,p<3->bB P K (F 201) [.agg (evRow 29 1 (.ofNat p) 0 0 qb)] s (λv s'=>v=iv 0/\s'=s)
 draw:∀s,bB P K (F 201) [.agg (evRow 29 2 0 0 0 qb)] s<|λv s'=>v=iv 0/\s'=s
structure LEnv (P:Program)(K:Orc)(F:Nat->FuncId)(T:Nat->TypeId)(tF:TypeId):Prop where
 hB:Base P K F T
 hC:BaseC P K F T
 hG:BaseG P K F T
 hT:TyC P T
 hM:ab6 P F tF
 hU:BaseU P K F T
 hI:BaseB P K F T
 info:meth P tF "Info"=some (F 58)
 t128:Ty P (T 128) 13
 hQ:BaseQ P K F T
 hv:meth P tF "Having"=some (F 346)
 weak:meth P tF "Weak"=some (F 56)
 bm:aau P F tF
 hN:BaseN P K F T
 hO:BaseO P K F T
 hS:BaseS P K F T
 hL:BaseL P K F T
 it:BaseI P K F T
 hR:BaseR P K F T
 hX:BaseX P K F T
 mv:BaseM P K F T
 t45:Ty P (T 45) 14
 t3:Ty1 P (T 3)
 t4:Ty1 P (T 4)
 says:aet P K F
variable {e:Nat}{n:Nat}{f:Nat}{w:Nat}
theorem LI.ge (L:LEnv P K F T tF)(hP:x7 C)(h:LI e n f w d)(h2:n<=1000)(h3:f<=30)(h4:w<=1000):GE P K F T tF gA C d where
 hB:=L.hB
 hC:=L.hC
 hG:=L.hG
 hT:=L.hT
 hM:=L.hM
 hU:=L.hU
 hI:=L.hI
 info:=L.info
 t128:=L.t128
 hd:=h.small h2 (by omega) h4
 he:=h.ev
 hO:=ahJ L.hC hP (λo ho=>(h.o o ho).cd) (Nat.le_trans h.fi<|by omega) h.so
theorem LI.all (h:LI e n f w d):∀id∈d.fi,∃o,d.obj id=some o:=λid hid=>by
 obtain⟨o,h1,h2,_⟩:=h.on id hid
 exact⟨o,h2▸aaQ h.nd h1⟩
theorem LI.bdx (L:LEnv P K F T tF)(hP:x7 C)(h:LI e n f w d)(h2:n<=1000)(h3:f<=30)(h4:w<=1000):BdX P K F T tF gA C d where
 hE:=h.ge L hP h2 h3 h4
 hQ:=L.hQ
 hv:=L.hv
 do_:=L.bm.do_
 cd o ho:=by rw[hP.n];exact(h.o o ho).cd
 all:=h.all
structure Cl (p:Nat)(d:SD):Prop where
 ob:∀o∈d.ob,o.owner≠.ofNat p
 wa:∀x∈d.wa,x.aQ≠.ofNat p
 lost:∃y,d.pl[p]?=some y/\y.f2=true
theorem Cl.sub {p:Nat}{d d':SD}(h:Cl p d)(h1:∀o∈d'.ob,∃o2∈d.ob,o2.owner=o.owner)(h2:∀x∈d'.wa,∃y∈d.wa,y.aQ=x.aQ)(h3:d'.pl=d.pl):Cl p d' where
 ob o ho hh:=by
  obtain⟨o2,h4,h5⟩:=h1 o ho
  exact h.ob o2 h4<|h5.trans hh
 wa x hx hh:=by
  obtain⟨y,h4,h5⟩:=h2 x hx
  exact h.wa y h4<|h5.trans hh
 lost:=h3▸h.lost
structure BdI (e n f w p:Nat)(c:Prop)(EL:List (List AV))(d:SD):Prop where
 len:EL.length<=e
 li:LI e n f w d
 cl:c->Cl p d
theorem BdI.mono {e n f w p:Nat}{c c':Prop}{EL:List (List AV)}{d:SD}(h:BdI e n f w p c EL d){e' n' f' w':Nat}(h1:e<=e')(h2:n<=n')(h3:f<=f')(h4:w<=w')(hc:c'->c):BdI e' n' f' w' p c' EL d:=⟨Nat.le_trans h.len h1,h.li.mono h1 h2 h3 h4,λx=>h.cl (hc x)⟩
theorem ab9 {e n f w p:Nat}{d:SD}(h:LI e n f w d){a:Int}{i q:Nat}{o:OD}(hi:d.find a=some i)(xG:d.ob[i]?=some o)(ho:o.owner=.ofNat q)(hc:Cl p d):Cl p { d.left a i o.ci q with wa:=d.wa.map (kN a) }:=by
 obtain⟨_,h1,h2,_⟩:=h.left hi xG ho
 refine hc.sub (λx hx=>⟨x,?_,rfl⟩) (λx hx=>?_) h2
 ·rw[show({ d.left a i o.ci q with wa:=d.wa.map (kN a) }:SD).ob=_ from h1]at hx
  exact(List.mem_filter.1 hx).1
 ·obtain⟨y,hy,rfl⟩:=List.mem_map.1 hx
  exact⟨y,hy,(aao a y).symm⟩
def F8 (q:Nat)(D:SD):Prop:=∃y,D.pl[q]?=some y/\y.f2=true
def noW (q:Nat)(D:SD):Prop:=∀x∈D.wa,x.aQ≠.ofNat q
def noZ (q i:Nat)(D:SD):Prop:=∀j z,j<i->zsL[j]?=some z->∀o∈D.ob,o.owner=.ofNat q->o.ci≠z
def loI (e n f w p q:Nat)(c:Prop):Nat->List (List AV)->SD->Prop
 | 0,EL,D=>BdI e n f w p c EL D
 | 1,EL,D=>BdI (e+1) n f w p c EL D/\F8 q D
 | i+2,EL,D=>BdI (e+1+w+i*n) n f w p c EL D/\F8 q D/\noW q D/\noZ q i D
structure LoW (e n f w p q:Nat)(c:Prop)(W:List ID)(k:Nat)(EL:List (List AV))(D:SD):Prop where
 b:BdI (e+1+k) n f w p c EL D
 lost:F8 q D
 wl:W.length<=w
 wn:(W.map ID.id).Nodup
 wa:D.wa=((W.take k).filter λx=>!decide (x.aQ=.ofNat q))++W.drop k
 wx:∀x∈W,1<=x.id/\x.id<=1000000
structure LoZ (e n f w p q:Nat)(c:Prop)(i:Nat)(L:List Int)(k:Nat)(EL:List (List AV))(D:SD):Prop where
 b:BdI (e+1+w+i*n+k) n f w p c EL D
 lost:F8 q D
 now:noW q D
 noz:noZ q i D
 ll:L.length<=n
 li:i<5
 on:∀z,zsL[i]?=some z->∀o∈D.ob,o.owner=.ofNat q->o.ci=z->o.id∈L.drop k
theorem take_succ {α:Type}{l:List α}{k:Nat}{x:α}(h:l[k]?=some x):l.take (k+1)=l.take k++[x]:=by
 rw[List.take_add_one,h];rfl
theorem drop_one {α:Type}{l:List α}{k:Nat}{x:α}(h:l[k]?=some x):l.drop k=x::l.drop (k+1):=by
 obtain⟨h1,rfl⟩:=List.getElem?_eq_some_iff.1 h
 exact List.drop_eq_getElem_cons h1
theorem aay {e n f w:Nat}{D:SD}(h:LI e n f w D)(he:e<=5000){x:Int}(hx:x<D.nx):x<=1000000:=by
 have:=h.nx.2
 omega
theorem adU {p q:Nat}{D:SD}{o:LD}(ho:D.pl[q]?=some o)(h:Cl p D):Cl p { D with pl:=D.pl.set q { o with f2:=true } } where
 ob:=h.ob
 wa:=h.wa
 lost:=by
  obtain⟨y,h1,h2⟩:=h.lost
  by_cases hq:q=p
  ·subst hq
   exact⟨_,List.getElem?_set_self (List.getElem?_eq_some_iff.1 ho).1,rfl⟩
  ·exact⟨y,(List.getElem?_set_ne hq).trans h1,h2⟩
theorem adG {e n f w q:Nat}{D:SD}(h:LI e n f w D)(h5:f<=n){z:Int}{bX:List Int}{put:List Int->SD}(hz:D.ci z q=some (bX,put)):bX.length<=n/\∀o∈D.ob,o.owner=.ofNat q->o.ci=z->o.id∈bX:=by
 have nat:(Int.ofNat q).toNat=q:=rfl
 unfold SD.ci at hz
 split at hz
 ·cases hz
  refine⟨Nat.le_trans h.fi h5,λo ho hoq hoz=>?_⟩
  rcases h.lo o ho with⟨h1,h2⟩|⟨h1,_⟩|⟨h1,_⟩
  ·exact h2
  ·omega
  ·omega
 ·split at hz
  ·obtain⟨l,h1,h2⟩:=Option.map_eq_some_iff.1 hz
   cases h2
   refine⟨h.ls _ (.inl rfl) _<|List.mem_of_getElem? h1,λo ho hoq hoz=>?_⟩
   rcases h.lo o ho with⟨h3,_⟩|⟨h3,m,h4,h5⟩|⟨h3,_⟩
   ·omega
   ·rw[hoq,nat,h1]at h4
    cases h4
    exact h5
   ·omega
  ·split at hz
   ·obtain⟨l,h1,h2⟩:=Option.map_eq_some_iff.1 hz
    cases h2
    refine⟨h.ls _ (.inr<|.inl rfl) _<|List.mem_of_getElem? h1,λo ho hoq hoz=>?_⟩
    rcases h.lo o ho with⟨h3,_⟩|⟨h3,_⟩|⟨h3,_⟩<;>omega
   ·split at hz
    ·obtain⟨l,h1,h2⟩:=Option.map_eq_some_iff.1 hz
     cases h2
     refine⟨h.ls _ (.inr<|.inr<|.inl rfl) _<|List.mem_of_getElem? h1,λo ho hoq hoz=>?_⟩
     rcases h.lo o ho with⟨h3,_⟩|⟨h3,_⟩|⟨h3,m,h4,h5⟩
     ·omega
     ·omega
     ·rw[hoq,nat,h1]at h4
      cases h4
      exact h5
    ·split at hz
     ·obtain⟨l,h1,h2⟩:=Option.map_eq_some_iff.1 hz
      cases h2
      refine⟨h.ls _ (.inr<|.inr<|.inr rfl) _<|List.mem_of_getElem? h1,λo ho hoq hoz=>?_⟩
      rcases h.lo o ho with⟨h3,_⟩|⟨h3,_⟩|⟨h3,_⟩<;>omega
     ·cases hz
theorem agm (L:LEnv P K F T tF){e n f w p q:Nat}{c:Prop}(hf:Has bf (.r false [bu bl aZ c0 c1 c2 c3 c4 bE] 8) t)(hq:q<3)(h1:e+1+w+6*n<=4900)(h2:n<=1000)(h3:f<=30)(h4:w<=1000)(h5:f<=n) :
  aes P K F tF bf bl q t (loI e n f w p q c) (LoW e n f w p q c) (LoZ e n f w p q c) where
 i:=λk EL D h=>by
  have key:∀{e'},BdI e' n f w p c EL D->D.Small/\D.kQ/\D.st=[]/\q<D.pl.length/\∀o∈D.ob,o.ci≠5:=λb=>by
   refine⟨b.li.small h2 (by omega) h4,b.li.ev,b.li.st,by rw[b.li.pl];exact hq,λo ho hz=>?_⟩
   rcases b.li.lo o ho with⟨h,_⟩|⟨h,_⟩|⟨h,_⟩<;>rw[h]at hz<;>cases hz
  match k,h with
  | 0,h=>exact key h
  | 1,h=>exact key h.1
  | k+2,h=>exact key h.1
 lose:=λm EL D s1 h nr=>by
  have h:BdI e n f w p c EL D:=h
  obtain⟨o,ho⟩:∃o,D.pl[q]?=some o:=⟨_,List.getElem?_eq_getElem (by rw[h.li.pl];exact hq)⟩
  refine aaH L.hS L.bm λb4=>(ij L.hB (aH.bK (m:=[_]) nr) (h.li.small h2 (by omega) h4) (.app hf) (Nat.le_trans h.len<|by omega) (by decide) (by decide) (by decide) (by decide) (acm L.hB L.hL (h.li.small h2 (by omega) h4) h.li.ev ho (L.says.lose q · hq))).post ?_
  rintro _ s2 ⟨_,dt⟩
  refine⟨_,_,⟨⟨?_,?_,λx=>adU ho<|h.cl x⟩,⟨_,List.getElem?_set_self (List.getElem?_eq_some_iff.1 ho).1,rfl⟩⟩,dt⟩
  ·rw[List.length_append]
   exact Nat.add_le_add_right h.len 1
  ·exact(h.li.other (pl:=D.pl.set q { o with f2:=true }) ((List.length_set ..).trans h.li.pl) (oc:=D.oc) (wi:=D.wi)).mono (Nat.le_succ _) (Nat.le_refl _) (Nat.le_refl _) (Nat.le_refl _)
 w0:=λEL D h=>by
  obtain⟨b,hl⟩:BdI (e+1) n f w p c EL D/\F8 q D:=h
  refine⟨b,hl,b.li.wa,b.li.wn,rfl,λx hx=>⟨(b.li.wx x hx).1,aay b.li (by omega) (b.li.wx x hx).2⟩⟩
 wno:=λW k x EL D hx h hc=>by
  refine⟨h.b.mono (by omega) (Nat.le_refl _) (Nat.le_refl _) (Nat.le_refl _) id,h.lost,h.wl,h.wn,?_,h.wx⟩
  rw[h.wa,take_succ hx,drop_one hx,List.filter_append,List.append_assoc,show [x].filter (λx=>!decide (x.aQ=Int.ofNat q))=[x]from List.filter_cons_of_pos (by rw[decide_eq_false hc];rfl)]
  rfl
 wdo:=λW m k x EL D s1 hx h hc nr=>by
  have hin:x∈D.wa:=by
   rw[h.wa,drop_one hx]
   exact List.mem_append_right _<|.head _
  have hk:k<W.length:=(List.getElem?_eq_some_iff.1 hx).1
  have hkw:=h.wl
  have kj:=h.b.li.small h2 (by omega) h4
  have hwx:=h.wx x<|List.mem_of_getElem? hx
  refine aaH L.hS L.bm λb4=>(ij L.hB (aH.bK (m:=[_]) nr) kj (.app hf) (Nat.le_trans h.b.len<|by omega) (by decide) (by decide) (by decide) (by decide) (aaW L.hB L.it kj h.b.li.ev ?_ (L.says.unwait x.id · hwx.1 hwx.2))).post ?_
  ·cases hfi:D.wa.findIdx? λy=>decide (y.id=x.id) with
   | some i=>rfl
   | none=>have:=List.findIdx?_eq_none_iff.1 hfi x hin;simp at this
  rintro _ s2 ⟨_,dt⟩
  refine⟨_,_,⟨⟨?_,(h.b.li.unwait _).mono (Nat.le_succ _) (Nat.le_refl _) (Nat.le_refl _) (Nat.le_refl _),λx=>(h.b.cl x).sub (λo ho=>⟨o,ho,rfl⟩) (λy hy=>⟨y,(List.mem_filter.1 hy).1,rfl⟩) rfl⟩,h.lost,h.wl,h.wn,?_,h.wx⟩,dt⟩
  ·rw[List.length_append]
   exact Nat.add_le_add_right h.b.len 1
  ·show D.wa.filter _=_
   have hnd:=h.wn
   rw[<- List.take_append_drop k W,drop_one hx,List.map_append,List.map_cons]at hnd
   obtain⟨n1,n2,n3⟩:=List.nodup_append.1 hnd
   rw[List.nodup_cons]at n2
   rw[h.wa,take_succ hx,drop_one hx,List.filter_append,List.filter_append,List.filter_cons_of_neg<|by simp,List.filter_filter]
   have e1:(W.drop<|k+1).filter (λy=>!decide (y.id=x.id))=W.drop (k+1):=List.filter_eq_self.2 λy hy=>by
    have:y.id≠x.id:=λhh=>n2.1<|List.mem_map.2 ⟨y,hy,hh⟩
    simp[this]
   have e2:∀y∈W.take k,(!decide (y.id=x.id))=true:=λy hy=>by
    have:y.id≠x.id:=λhh=>n3 y.id (List.mem_map.2 ⟨y,hy,rfl⟩) x.id (.head _) hh
    simp[this]
   rw[e1]
   have e3:[x].filter (λx=>!decide (x.aQ=.ofNat q))=[]:=by simp[hc]
   rw[e3,List.append_nil]
   congr 1
   refine List.filter_congr λy hy=>?_
   rw[e2 y hy,Bool.true_and]
 w1:=λW EL D h=>by
  have hwl:=h.wl
  refine⟨h.b.mono (by omega) (Nat.le_refl _) (Nat.le_refl _) (Nat.le_refl _) id,h.lost,λx hx=>?_,λj z hj=>absurd hj<|Nat.not_lt_zero _⟩
  rw[h.wa,List.take_of_length_le<|Nat.le_refl _,List.drop_of_length_le<|Nat.le_refl _,List.append_nil]at hx
  have:=(List.mem_filter.1 hx).2
  intro hh
  simp[hh]at this
 z0:=λi z EL D bX put hi hz h agk=>by
  rw[show 2+i=i+2 from Nat.add_comm ..]at h
  obtain⟨b,hl,hw,hn⟩:BdI (e+1+w+i*n) n f w p c EL D/\F8 q D/\noW q D/\noZ q i D:=h
  obtain⟨hl1,CG⟩:=adG b.li h5 agk
  refine⟨b,hl,hw,hn,hl1,hi,λz2 pN o ho hoq hoz=>?_⟩
  rw[hz]at pN
  cases pN
  exact CG o ho hoq hoz
 zs:=λi L k EL D h=>h.b.li.small h2 (by omega) h4
 zno:=λi L k id EL D hx h hno=>by
  refine⟨h.b.mono (by omega) (Nat.le_refl _) (Nat.le_refl _) (Nat.le_refl _)<|λx=>x,h.lost,h.now,h.noz,h.ll,h.li,λz hz o ho hoq hoz=>?_⟩
  have:=h.on z hz o ho hoq hoz
  rw[drop_one hx]at this
  rcases List.mem_cons.1 this with hh|hh
  ·exact absurd hoq<|hno o<|hh▸aaQ h.b.li.nd ho
  ·exact hh
 zdo:=λi LL m k id EL D o s1 hx h aaL hoq nr=>by
  obtain⟨j,hj,hoj,hid,hin⟩:=N9 aaL
  have ho:=h.b.li.o o hin
  have kj:=h.b.li.small h2 (by omega) h4
  have hk:k<LL.length:=(List.getElem?_eq_some_iff.1 hx).1
  have hkw:=h.ll
  have Yz:=h.li
  have ala:i*n<=4*n:=Nat.mul_le_mul_right _<|by omega
  have hlo:1<=id/\id<=1000000:=hid▸⟨ho.i1,aay h.b.li (by omega) ho.i2⟩
  refine aaH L.hS L.bm λb4=>(ij L.hB (aH.bK (m:=[_]) nr) kj (.app hf) (Nat.le_trans h.b.len<|by omega) (by decide) (by decide) (by decide) (by decide) (R2 L.hB kj h.b.li.ev hj hoj (by rw[h.b.li.pl];exact hq) hoq h.b.li.st (by rw[h.b.li.co];omega) (λo2 qa=>by rw[(h.b.li.o o2 qa).bl];omega) (L.says.cease id · hlo.1 hlo.2))).post ?_
  rintro _ s2 ⟨_,dt⟩
  obtain⟨hLI,zF,uA,_⟩:=h.b.li.left hj hoj hoq
  have ae0:∀o2∈({ D.left id j o.ci q with wa:=D.wa.map (kN id) }:SD).ob,o2∈D.ob/\o2.id≠id:=λo2 h2=>by
   rw[show({ D.left id j o.ci q with wa:=D.wa.map (kN id) }:SD).ob=_ from zF]at h2
   obtain⟨h3,h4⟩:=List.mem_filter.1 h2
   exact⟨h3,λhh=>by simp[hh]at h4⟩
  refine⟨_,_,⟨⟨?_,hLI.mono (Nat.le_succ _) (Nat.le_refl _) (Nat.le_refl _)<|Nat.le_refl _,λx=>ab9 h.b.li hj hoj hoq<|h.b.cl x⟩,?_,?_,?_,h.ll,h.li,?_⟩,dt⟩
  ·rw[List.length_append]
   exact Nat.add_le_add_right h.b.len 1
  ·obtain⟨y,h5,h6⟩:=h.lost
   exact⟨y,uA▸h5,h6⟩
  ·intro x hx
   obtain⟨y,hy,rfl⟩:=List.mem_map.1 hx
   rw[aao]
   exact h.now y hy
  ·exactλj z hj hz o2 h2=>h.noz j z hj hz o2 (ae0 o2 h2).1
  ·intro z hz o2 h2 ae5 hoz
   have:=h.on z hz o2 (ae0 o2 h2).1 ae5 hoz
   rw[drop_one hx]at this
   rcases List.mem_cons.1 this with hh|hh
   ·exact absurd hh (ae0 o2 h2).2
   ·exact hh
 z1:=λi L EL D h=>by
  rw[show 2+(i+1)=(i+1)+2 from by omega]
  have hll:=h.ll
  refine⟨h.b.mono (by rw[Nat.succ_mul];omega) (Nat.le_refl _) (Nat.le_refl _) (Nat.le_refl _) id,h.lost,h.now,λj z hj hz o ho hoq hoz=>?_⟩
  rcases Nat.lt_succ_iff_lt_or_eq.1 hj with hj|rfl
  ·exact h.noz j z hj hz o ho hoq hoz
  ·have:=h.on z hz o ho hoq hoz
   rw[List.drop_of_length_le (Nat.le_refl _)]at this
   cases this
 z5:=λEL D h=>by
  obtain⟨b,hl,hw,hn⟩:BdI (e+1+w+5*n) n f w p c EL D/\F8 q D/\noW q D/\noZ q 5 D:=h
  show BdI (e+1+w+6*n) n f w p c EL D/\F8 q D/\noW q D/\noZ q 6 D
  refine⟨b.mono (by omega) (Nat.le_refl _) (Nat.le_refl _) (Nat.le_refl _) id,hl,hw,λj z hj hz o ho hoq hoz=>?_⟩
  rcases Nat.lt_succ_iff_lt_or_eq.1 hj with hj|rfl
  ·exact hn j z hj hz o ho hoq hoz
  ·cases hz
   rcases b.li.lo o ho with⟨h,_⟩|⟨h,_⟩|⟨h,_⟩<;>rw[h]at hoz<;>cases hoz
theorem lo8 {e n f w p q:Nat}{c:Prop}{D:SD}(h:loI e n f w p q c 8 EL D):BdI (e+1+w+6*n) n f w p c EL D/\Cl q D:=by
 obtain⟨b,hl,hw,hn⟩:BdI (e+1+w+6*n) n f w p c EL D/\F8 q D/\noW q D/\noZ q 6 D:=h
 refine⟨b,λo ho hoq=>?_,hw,hl⟩
 rcases b.li.lo o ho with⟨hz,_⟩|⟨hz,_⟩|⟨hz,_⟩
 ·exact hn 4 2 (by omega) rfl o ho hoq hz
 ·exact hn 0 0 (by omega) rfl o ho hoq hz
 ·exact hn 2 3 (by omega) rfl o ho hoq hz
theorem adt {q:LD->Bool}{D:SD}{n k:Nat}{x:Int}(h:(ot q D n)[k]?=some x):∃p:Nat,x=.ofNat p/\p<n:=by
 obtain⟨p,hp,rfl⟩:=List.mem_map.1<|List.mem_of_getElem? h
 exact⟨p,rfl,List.mem_range.1 (List.mem_filter.1 hp).1⟩
theorem aee {q:LD->Bool}{D:SD}{n p:Nat}{o:LD}(hp:p<n)(ho:D.pl[p]?=some o)(h1:o.f2=false)(h2:q o=true):Int.ofNat p∈ot q D n:=by
 refine List.mem_map.2 ⟨p,List.mem_filter.2 ⟨List.mem_range.2 hp,?_⟩,rfl⟩
 unfold aaA
 rw[ho]
 show(!o.f2&&q o)=true
 rw[h1,h2]
 rfl
structure On0 (e n f w p:Nat)(b:Bool)(EL:List (List AV))(D:SD):Prop where
 bd:BdI e n f w p False EL D
 hp:p<3
 ex:∃o,D.pl[p]?=some o/\o.f2=false/\o.f3=true
structure On1 (e n f w p:Nat)(b:Bool)(EL:List (List AV))(D:SD):Prop where
 bd:BdI e n f w p True EL D
 r:b=true
theorem agp (L:LEnv P K F T tF)(hP:x7 C){e n f w p:Nat}(hf:Has bf (.r false [bu bl aZ c0 c1 c2 c3 c4 bE] 8) t)(h1:e+3*(1+w+6*n)<=4900)(h2:n<=1000)(h3:f<=30)(h4:w<=1000)(h5:f<=n) :
  abm P K tF bf bl t (F 98) (On0 e n f w p) (On1 (e+3*(1+w+6*n)) n f w p):=by
 intro m b EL D s1 h nr
 obtain⟨o,ho,hf2,KE⟩:=h.ex
 have uA:=h.bd.li.pl
 have hin:Int.ofNat p∈ot dM D D.pl.length:=aee (by rw[uA];exact h.hp) ho hf2 (by unfold dM;rw[KE,Bool.or_true])
 have hlen:(ot dM D D.pl.length).length<=3:=uA▸aak dM D D.pl.length
 refine(abh (h.bd.li.ge L hP h2 h3 h4) L.hN (.app hf) nr (J:=λk E D2=>BdI (e+k*(1+w+6*n)) n f w p (Int.ofNat p∈(ot dM D D.pl.length).take k) E D2) ?_ λm2 k x E D2 s2 hx hJ dt=>?_).post ?_
 ·exact h.bd.mono (by omega) (Nat.le_refl _) (Nat.le_refl _) (Nat.le_refl _)<|λhh=>by simp at hh
 ·obtain⟨q,rfl,hq⟩:=adt hx
  rw[uA]at hq
  have hk:k<(ot dM D D.pl.length).length:=(List.getElem?_eq_some_iff.1 hx).1
  have A4:k<=2:=by omega
  have hke:k*(1+w+6*n)<=2*(1+w+6*n):=Nat.mul_le_mul_right _ A4
  refine(abN L.hB L.hC L.hG L.hI L.hN L.bm L.hM (.app<|.app hf) dt (agm L (.app<|.app hf) hq (by omega) h2 h3 h4 h5) hJ).post ?_
  rintro _ s3 ⟨E3,D3,h8,gw⟩
  obtain⟨b3,c3⟩:=lo8 h8
  have hmul:e+k*(1+w+6*n)+1+w+6*n=e+(k+1)*(1+w+6*n):=by rw[Nat.succ_mul k];omega
  refine⟨E3,D3,⟨Nat.le_trans b3.len<|Nat.le_of_eq hmul,b3.li.mono (Nat.le_of_eq hmul) (Nat.le_refl _) (Nat.le_refl _)<|Nat.le_refl _,λhh=>?_⟩,gw⟩
  rw[take_succ hx]at hh
  rcases List.mem_append.1 hh with hh|hh
  ·exact b3.cl hh
  ·have:p=q:=Int.ofNat.inj (List.mem_singleton.1 hh)
   exact this▸c3
 ·rintro v s3 ⟨rfl,E3,D3,hJ,gw⟩
  refine⟨_,rfl,E3,D3,⟨⟨Nat.le_trans hJ.len<|Nat.add_le_add_left (Nat.mul_le_mul_right _ hlen) _,hJ.li.mono (Nat.add_le_add_left (Nat.mul_le_mul_right _ hlen) _) (Nat.le_refl _) (Nat.le_refl _)<|Nat.le_refl _,λ_=>hJ.cl ?_⟩,?_⟩,gw⟩
  ·rw[List.take_of_length_le (Nat.le_refl _)]
   exact hin
  ·rw[decide_eq_true (List.length_pos_of_mem hin),Bool.or_true]
theorem afj (L:LEnv P K F T tF)(hP:x7 C){e n f w p:Nat}(hf:Has bf (.r false [bu bl aZ c0 c1 c2 c3 c4 bE] 8) t)(h1:e<=4900)(h2:n<=1000)(h3:f<=30)(h4:w<=1000) :
  abm P K tF bf bl t (F 100) (On1 e n f w p) (On1 (e+1) n f w p):=by
 intro m b EL D s1 h nr
 have kj:=h.bd.li.small h2 (by omega) h4
 have step:∀(a x:Int)(m2:SH)s2,(∀s,bB P K (F 201) [.agg (evRow 29 a x 0 0 qb)] s<|λv s'=>v=iv 0/\s'=s)->aH bl EL D (m2++(m++t)) s2->bB P K (F 66) [.agg [gm tF bf],iv 29,iv a,iv x] s2 (λ_ s3=>∃E3 D3,On1 (e+1) n f w p true E3 D3/\aH bl E3 D3 (m++t) s3):=λa x m2 s2 lm dt=>by
  refine aaH L.hS L.bm λb4=>(ij L.hB (aH.bK (m:=[_]) dt) kj (.app<|.app hf) (Nat.le_trans h.bd.len<|by omega) (by decide) (by decide) (by decide) (by decide)<|aco L.hB kj h.bd.li.ev lm).post ?_
  rintro _ s3 ⟨_,gw⟩
  refine⟨_,_,⟨⟨?_,(h.bd.li.other (pl:=D.pl) h.bd.li.pl (oc:=a) (wi:=x)).mono (Nat.le_succ _) (Nat.le_refl _) (Nat.le_refl _) (Nat.le_refl _),λc=>(h.bd.cl c).sub (λo ho=>⟨o,ho,rfl⟩) (λy hy=>⟨y,hy,rfl⟩) rfl⟩,rfl⟩,gw.fb⟩
  rw[List.length_append]
  exact Nat.add_le_add_right h.bd.len 1
 refine(acx (h.bd.li.ge L hP h2 h3 h4) L.hN L.hS L.bm (.app hf) nr (R:=λs3=>∃E3 D3,On1 (e+1) n f w p true E3 D3/\aH bl E3 D3 (m++t) s3) (λs2 dt=>⟨EL,D,⟨h.bd.mono (Nat.le_succ _) (Nat.le_refl _) (Nat.le_refl _) (Nat.le_refl _) id,rfl⟩,dt⟩)
  (λm2 q s2 hq dt=>step 1 (.ofNat q) m2 s2 (L.says.win q · (h.bd.li.pl▸hq)) dt) (λm2 s2 dt=>step 2 0 m2 s2 L.says.draw dt)).post ?_
 rintro v s3 ⟨r,rfl,E3,D3,ho,gw⟩
 exact⟨r,rfl,E3,D3,⟨ho.bd,by rw[h.r,Bool.true_or]⟩,gw⟩
theorem adQ {C:List CD}(hP:x7 C){k e:Int}{D:SD}{id:Int}{x:AbT}(h:x∈abI k e D C id):x.o∈D.ob/\x.i=0:=by
 unfold abI at h
 split at h
 ·rename_i o ho
  split at h
  ·rename_i c hc
   unfold abO at h
   obtain⟨i,hi,hx⟩:=List.mem_filterMap.1 h
   split at hx
   ·split at hx
    ·cases hx
     have:=hP.R8 c<|List.mem_of_getElem? hc
     have:=List.mem_range.1 hi
     exact⟨(N9 ho).choose_spec.2.2.2,by show i=0;omega⟩
    ·cases hx
   ·cases hx
  ·cases h
 ·cases h
theorem adR {C:List CD}(hP:x7 C){k e:Int}{D:SD}(id:Int):(abI k e D C id).length<=1:=by
 unfold abI
 split
 ·split
  ·rename_i c hc
   exact Nat.le_trans (aaE ..)<|hP.R8 c<|List.mem_of_getElem? hc
  ·exact Nat.zero_le _
 ·exact Nat.zero_le _
theorem ac7 {C:List CD}(hP:x7 C){k e:Int}{D:SD}(l:List Int):(t6 k e D C l).length<=l.length:=by
 unfold t6
 induction l with
 | nil=>exact Nat.le_refl _
 | cons a l ih=>
  have:=adR hP (k:=k) (e:=e) (D:=D) a
  rw[List.flatMap_cons,List.length_append,List.length_cons]
  omega
theorem acF {C:List CD}(hP:x7 C){id p:Int}{D:SD}:(l5 id p (t6 3 2 D C (aaJ 2 D C))).length<=D.fi.length:=by
 unfold l5
 rw[List.length_map]
 exact Nat.le_trans (List.length_filter_le ..)<|Nat.le_trans (ac7 hP _)<|List.length_filter_le ..
theorem acE {C:List CD}(hP:x7 C){id p:Int}{D:SD}{it:ID}{l:List Int}(h:it∈l5 id p (t6 3 2 D C l)):∃o∈D.ob,it=⟨0,3,o.aQ,o.id,o.gE,0⟩:=by
 obtain⟨x,hx,rfl⟩:=List.mem_map.1 h
 obtain⟨y,hy,iI⟩:=List.mem_flatMap.1 (List.mem_filter.1 hx).1
 obtain⟨h1,h2⟩:=adQ hP iI
 exact⟨x.o,h1,by unfold kM;rw[h2];rfl⟩
structure DyJ (e n f w p:Nat)(d0:SD)(L:List Int)(k:Nat)(EL:List (List AV))(D:SD):Prop where
 bd:BdI (e+31*k) (n+k) f (w+30*k) p True EL D
 sub:∀id∈L,id∈d0.fi
 ll:L.length<=30
 kl:k<=L.length
 ob:∀o∈D.ob,o∈d0.ob\/d0.nx<=o.id
 nx:d0.nx<=D.nx
theorem adW (L:LEnv P K F T tF)(hP:x7 C){e n f w p:Nat}{d0:SD}{LL:List Int}{k:Nat}{D:SD}{id:Int}{o:OD}{s:SH}(hf:Has bf (.r false [bu bl aZ c0 c1 c2 c3 c4 bE] 8) t)(eQ:cI t aZ C)(h1:e<=3000)(h2:n<=900)(h3:f<=30)(h4:w<=60)(Un:LI e n f w d0)(hx:LL[k]?=some id)(h:DyJ e n f w p d0 LL k EL D)(aaL:D.obj id=some o)(hs:aH bl EL D t s) :
  bB P K (F 149) [gm tF bf,iv id] s (λ_ s2=>∃E2 D2,DyJ e n f w p d0 LL (k+1) E2 D2/\aH bl E2 D2 t s2):=by
 have hk:k<LL.length:=(List.getElem?_eq_some_iff.1 hx).1
 have hll:=h.ll
 have hB:=h.bd.li.bdx L hP (by omega) h3<|by omega
 obtain⟨i,hi,xG,hid,hin⟩:=N9 aaL
 have hoI:=h.bd.li.o o hin
 obtain⟨q,hoq,hq⟩:=hoI.ow
 obtain⟨j,hoc,hj⟩:=hoI.cd
 have ah1:=h.sub id<|List.mem_of_getElem? hx
 have hz:o.ci=2:=by
  obtain⟨o0,h5,h6,h7⟩:=Un.on id ah1
  rcases h.ob o hin with h8|h8
  ·rw[P1 Un.nd h8 h5 (hid.trans h6.symm)]
   exact h7
  ·have:=(Un.o o0 h5).i2
   rw[hid,<- h6]at h8
   omega
 have xR:∀{e' n' f' w':Nat}{D2:SD},LI e' n' f' w' D2->e'<=5000->1<=D2.nx/\D2.nx<=1000000:=λhh he=>⟨hh.nx.1,by have:=hh.nx.2;omega⟩
 refine acs hB.hE L.hN L.t45 hf eQ hs aaL hz (N:=λE2 D2=>BdI (e+31*k+30) (n+k) f (w+30*k+30) p True E2 D2/\D2.ob=D.ob/\D.nx<=D2.nx) (λm s1 nr=>aby hB L.hN L.hO L.t3 L.t4 (λc hc=>?_) (.app hf) (eQ.mono λq hq=>List.mem_append_right _ hq) nr aaL hz) ⟨h.bd.mono (by omega) (Nat.le_refl _) (Nat.le_refl _) (by omega)<|λx=>x,rfl,Int.le_refl _⟩ (λm s1 nr=>?_)<|λE2 D2 s1 hN nr=>?_
 ·unfold tf
  refine List.any_eq_false.2 λx hx=>?_
  rcases hP.x c hc x hx with⟨h5,_⟩|⟨h5,_⟩
  ·rw[h5,show decide ((3:Int)=5)=false from rfl,Bool.false_and];exact Bool.false_ne_true
  ·rw[h5,show decide ((4:Int)=5)=false from rfl,Bool.false_and];exact Bool.false_ne_true
 ·-- what ajj of it waits
  have IH:=acF hP (id:=id) (p:=o.aQ) (D:=D)
  have hfl:=h.bd.li.fi
  refine(abQ hB (.app hf) (eQ.mono λq hq=>List.mem_append_right _ hq) nr (λc hc=>Nat.le_trans (hP.R8 c hc)<|by decide) (λc hc x hx=>?_) (by omega) rfl rfl (J:=λq E2 D2=>BdI (e+31*k+q) (n+k) f (w+30*k+q) p True E2 D2/\D2.ob=D.ob/\D.nx<=D2.nx) rfl (by omega) ⟨h.bd,rfl,Int.le_refl _⟩ λm2 q it E2 D2 s2 hit hJ dt=>?_).post ?_
  ·rcases hP.x c hc x hx with⟨_,_,h5⟩ | ⟨_,_,h5,_⟩
   ·exact h5.elim .inl λh6=>.inr<|.inr h6
   ·exact .inr<|.inr h5
  ·obtain⟨b,zF,YI⟩:=hJ
   have hq:q<(l5 id o.aQ<|t6 3 2 D C<|aaJ 2 D C).length:=(List.getElem?_eq_some_iff.1 hit).1
   obtain⟨o2,qa,rfl⟩:=acE hP<|List.mem_of_getElem? hit
   have af7:o2∈D2.ob:=zF▸qa
   have hI2:=b.li.o o2 af7
   obtain⟨q2,ae5,hq2⟩:=hI2.ow
   obtain⟨j2,af8,hj2⟩:=hI2.cd
   have hct:o2.aQ=.ofNat q2:=hI2.ct.trans ae5
   have kj:=b.li.small (by omega) (by omega)<|by omega
   have hn1:=xR b.li<|by omega
   have hW:=b.li.wait ⟨0,3,o2.aQ,o2.id,o2.gE,0⟩
   refine(V1 L.hB dt kj (.app<|.app hf) (Nat.le_trans b.len<|by omega) (aax L.hB L.it kj b.li.ev ⟨by omega,hn1.2⟩ (L.says.wait _ _ _ _ · ⟨by rw[hct];exact Int.natCast_nonneg _,by rw[hct];show((q2:Nat):Int)<=2;omega⟩ ⟨by have:=hI2.i1;omega,aay b.li (by omega) hI2.i2⟩ ⟨by rw[af8];exact Int.natCast_nonneg _,by rw[af8];show((j2:Nat):Int)<=3;omega⟩ (by decide))) (hW.small (by omega) (by omega)<|by omega)<|xR hW<|by omega).post ?_
   rintro _ s3 ⟨_,gw⟩
   refine⟨_,_,⟨⟨?_,hW,λc=>?_⟩,zF,by show D.nx<=D2.nx+1;omega⟩,gw⟩
   ·rw[List.length_append]
    exact Nat.add_le_add_right b.len 1
   ·have hc:=b.cl c
    refine⟨hc.ob,λx hx=>?_,hc.lost⟩
    rcases List.mem_append.1 hx with hx|hx
    ·exact hc.wa x hx
    ·rw[List.mem_singleton.1 hx]
     show o2.aQ≠_
     rw[hI2.ct]
     exact hc.ob o2 af7
  ·rintro _ s2 ⟨E2,D2,⟨b,zF,YI⟩,dt⟩
   exact⟨E2,D2,⟨b.mono (by omega) (Nat.le_refl _) (Nat.le_refl _) (by omega)<|λx=>x,zF,YI⟩,dt⟩
 ·-- it leaves the field
  obtain⟨b,zF,YI⟩:=hN
  have ae1:o∈D2.ob:=zF▸hin
  have aeG:D2.obj id=some o:=hid▸aaQ b.li.nd ae1
  obtain⟨i2,hi2,ado,_,_⟩:=N9 aeG
  have kj:=b.li.small (by omega) (by omega)<|by omega
  have hn1:=xR b.li<|by omega
  have hI2:=b.li.o o ae1
  have hlo:1<=id/\id<=1000000:=hid▸⟨hI2.i1,aay b.li (by omega) hI2.i2⟩
  have Sc:D2.co≠id:=by rw[b.li.co];omega
  have oZ:∀o2∈D2.ob,o2.block≠id:=λo2 qa=>by rw[(b.li.o o2 qa).bl];omega
  refine abd (b.li.ge L hP (by omega) h3<|by omega) L.hN L.bm.do_ hf nr aeG λs2 dt=>?_
  by_cases htk:o.token=true
  ·rw[if_pos htk]
   refine(ij L.hB dt kj hf (Nat.le_trans b.len<|by omega) (by decide) (by decide) (by decide) (by decide) (R2 L.hB kj b.li.ev hi2 ado (by rw[b.li.pl];exact hq) hoq b.li.st Sc oZ (L.says.cease id · hlo.1 hlo.2))).post ?_
   rintro _ s3 ⟨_,gw⟩
   obtain⟨hLI,ah8,alq,ah7⟩:=b.li.left hi2 ado hoq
   refine⟨_,_,⟨⟨?_,hLI.mono (by omega) (by omega) (Nat.le_refl _)<|by omega,λx=>ab9 b.li hi2 ado hoq<|b.cl x⟩,h.sub,h.ll,hk,λo2 qa=>?_,?_⟩,gw⟩
   ·rw[List.length_append]
    exact Nat.le_trans (Nat.add_le_add_right b.len 1)<|by omega
   ·rw[show({ D2.left id i2 o.ci q with wa:=D2.wa.map (kN id) }:SD).ob=_ from ah8]at qa
    exact h.ob o2<|zF▸(List.mem_filter.1 qa).1
   ·show d0.nx<=(D2.left id i2 o.ci q).nx
    rw[ah7]
    exact Int.le_trans h.nx YI
  ·rw[if_neg htk]
   have h2s:0<=D2.sp/\D2.sp<=1000000:=by have:=b.li.sp;omega
   obtain⟨hG,ahU⟩:=b.li.gone hi2 ado
   obtain⟨hA,ahR,ahS,ahP,ahQ⟩:=hG.ahF hq hoq ⟨j,hoc,hj⟩
   refine(sP L.hB dt kj hf (Nat.le_trans b.len<|by omega) (abs L.hB L.mv kj b.li.ev hi2 ado (by rw[b.li.pl];exact hq) hoq hz b.li.st Sc oZ ⟨by omega,hn1.2⟩ h2s (L.says.move id · hlo.1 hlo.2)) (hA.small (by omega) (by omega)<|by omega)<|xR hA<|by omega).post ?_
   rintro _ s3 ⟨_,gw⟩
   have af3:∀o2∈(({ D2.gone id i2 with wa:=D2.wa.map (kN id) }:SD).add (pX o 3) q).ob,o2∈D2.ob\/o2=(pX o 3).new1 D2.nx:=λo2 qa=>by
    rw[ahQ]at qa
    rcases List.mem_append.1 qa with qa|qa
    ·rw[show({ D2.gone id i2 with wa:=D2.wa.map (kN id) }:SD).ob=_ from ahU]at qa
     exact .inl (List.mem_filter.1 qa).1
    ·exact .inr<|List.mem_singleton.1 qa
   refine⟨_,_,⟨⟨?_,hA.mono (by omega) (by omega) (Nat.le_refl _)<|by omega,λx=>(b.cl x).sub (λo2 qa=>?_) (λx hx=>?_) ahR⟩,h.sub,h.ll,hk,λo2 qa=>?_,?_⟩,gw⟩
   ·rw[List.length_append]
    exact Nat.le_trans (Nat.add_le_add_right b.len 1)<|by omega
   ·rcases af3 o2 qa with h5 | rfl
    ·exact⟨o2,h5,rfl⟩
    ·exact⟨o,ae1,rfl⟩
   ·rw[ahS]at hx
    obtain⟨y,hy,rfl⟩:=List.mem_map.1 hx
    exact⟨y,hy,(aao id y).symm⟩
   ·rcases af3 o2 qa with h5 | rfl
    ·exact h.ob o2<|zF▸h5
    ·exact .inr<|Int.le_trans h.nx YI
   ·rw[ahP]
    show d0.nx<=D2.nx+1
    have:=h.nx
    omega
theorem agq (L:LEnv P K F T tF)(hP:x7 C){e n f w p:Nat}(hf:Has bf (.r false [bu bl aZ c0 c1 c2 c3 c4 bE] 8) t)(eQ:cI t aZ C)(h1:e<=3000)(h2:n<=900)(h3:f<=30)(h4:w<=60) :
  abm P K tF bf bl t (F 99) (On1 e n f w p) (On1 (e+930) (n+30) f (w+900) p):=by
 intro m b EL D s1 h nr
 have hB:=h.bd.li.bdx L hP (by omega) h3<|by omega
 have hl:(uS D C (λo _=>zt gA D C o) D.fi).length<=30:=Nat.le_trans (List.length_filter_le ..)<|Nat.le_trans h.bd.li.fi h3
 refine(aa0 hB.hE L.hN L.hQ L.weak (.app hf) (eQ.mono λq hq=>List.mem_append_right _ hq) nr hB.cd hB.all (J:=DyJ e n f w p D) ⟨h.bd,λid hid=>(List.mem_filter.1 hid).1,hl,Nat.zero_le _,λo ho=>.inl ho,Int.le_refl _⟩ (λLL q E D2 hJ=>hJ.bd.li.small (by have:=hJ.ll;have:=hJ.kl;omega) (by omega) (by have:=hJ.ll;have:=hJ.kl;omega))
  (λLL q id E D2 hx hJ hno=>⟨hJ.bd.mono (by omega) (by omega) (Nat.le_refl _) (by omega)<|λx=>x,hJ.sub,hJ.ll,(List.getElem?_eq_some_iff.1 hx).1,hJ.ob,hJ.nx⟩)
  (λLL m2 q id E D2 o s2 hx hJ aaL dt=>adW L hP (.app (.app hf)) (eQ.mono λq hq=>List.mem_append_right _ (List.mem_append_right _ hq)) h1 h2 h3 h4 h.bd.li hx hJ aaL dt)).post ?_
 rintro v s3 ⟨r,rfl,E3,D3,hJ,gw⟩
 exact⟨r,rfl,E3,D3,⟨hJ.bd.mono (by omega) (by omega) (Nat.le_refl _) (by omega)<|λx=>x,by rw[h.r,Bool.true_or]⟩,gw⟩
theorem adx (L:LEnv P K F T tF)(hP:x7 C){e n f w p:Nat}(hf:Has bf (.r false [bu bl aZ c0 c1 c2 c3 c4 bE] 8) t)(eQ:cI t aZ C)(h1:e+3*(1+w+6*n)<=3000)(h2:n<=900)(h3:f<=30)(h4:w<=60)(h5:f<=n){s:SH}(hs:aH bl EL d t s)(h:BdI e n f w p False EL d)(hp:p<3)(ho:∃o,d.pl[p]?=some o/\o.f2=false/\o.f3=true)(hoc:d.oc=0) :
  bB P K (F 42) [gm tF bf] s (λv s'=>v=.bool true/\∃E2 D2,LI (e+3*(1+w+6*n)+931) (n+30) f (w+900) D2/\Cl p D2/\E2.length<=4900/\aH bl E2 D2 t s'):=by
 refine(acJ L.hB L.hI L.hS L.hN L.t128 L.bm hf hs (h.li.small (by omega) (by omega)<|by omega) hoc ⟨h,hp,ho⟩ (agp L hP hf (by omega) (by omega) h3 (by omega) h5) (agq L hP hf eQ h1 h2 h3 h4)<|afj L hP hf (by omega) (by omega) h3<|by omega).post ?_
 rintro v s2 ⟨b,rfl,E2,D2,hO,dt⟩
 exact⟨by rw[hO.r],E2,D2,hO.bd.li,hO.bd.cl trivial,Nat.le_trans hO.bd.len<|by omega,dt⟩
open Go.Proofs
set_option maxRecDepth 100000
noncomputable def afL:CF:=NF (λF T=>pt (cd 22 135 F T) [1,1,1,0,1,0,0,1,0,0,1,1,1,1]) _
noncomputable def ajI:CF:=NF (λF T=>pt (cd 22 135 F T) [1,1,1,0,1,0,0,1,0,0]) _
noncomputable def ajJ:CF:=NF (λF T=>pt (cd 22 135 F T) [1,1,1,0,1,0,0]) _
noncomputable def adM:CF:=NF (λF T=>pt (cd 22 135 F T) [1,1,1]) _
structure BtL (cv:AV)(L:List (List AV))(t:SH):Prop where
 len:lenOf cv=some L.length
 at':0<L.length->∃rb cap sl,cv=.slice (some ⟨rb,0,0⟩) L.length cap sl 3/\Has rb (.r true L 3) t
 b:∀i,i<L.length->∃x y z:Nat,x<=255/\y<=255/\z<=255/\L[i]?=some [.int .u8 (.ofNat x),.int .u8<|.ofNat y,.int .u8<|.ofNat z]
structure RO (i:Nat)(EL:List (List AV))(D:SD):Prop where
 bd:BdI i (4+i) i i 0 False EL D
 oc:D.oc=0
 pl:∀p,p<3->∃o,D.pl[p]?=some o/\o.f2=false/\-999<=o.life/\o.life<=999
 hu:∀o∈D.ob,-999<=o.hurt/\o.hurt<=999
theorem RO.mono {i k:Nat}{EL:List (List AV)}{D:SD}(h:RO i EL D)(hk:i<=k):RO k EL D:=⟨h.bd.mono (by omega) (by omega) (by omega) (by omega) (λx=>x),h.oc,h.pl,h.hu⟩
theorem RO.succ {i:Nat}{EL:List (List AV)}{D:SD}(h:RO i EL D):RO (i+1) EL D:=⟨h.bd.mono (by omega) (by omega) (by omega) (by omega) (λx=>x),h.oc,h.pl,h.hu⟩
theorem adz {D:SD}{p:Nat}{o o':LD}(h:∀p,p<3->∃o,D.pl[p]?=some o/\o.f2=false/\-999<=o.life/\o.life<=999)(ho:D.pl[p]?=some o)(h2:o'.f2=false)(h3:-999<=o'.life/\o'.life<=999):∀q,q<3->∃o,(D.pl.set p o')[q]?=some o/\o.f2=false/\-999<=o.life/\o.life<=999:=λq hq=>by
 by_cases hpq:p=q
 ·subst hpq
  exact⟨_,List.getElem?_set_self (List.getElem?_eq_some_iff.1 ho).1,h2,h3⟩
 ·rw[List.getElem?_set_ne hpq]
  exact h q hq
variable {D:SD}
theorem aaf (hN:BaseN P K F T)(h50:Ty P (T 50) 13){k a n:Int}:bB P K (F 41) [iv k,iv a,iv n] s (λv s'=>v=.agg (evRow k a 0 n 0 qb)/\∃m,s'=m++s):=by
 refine hN.f41.cF ?_
 refine Wq<|Wa (.alloc rfl) λb6=>Wn ?_
 refine Wq<|Wv rfl<|Wv rfl<|Wv rfl<|Wr (.build (cs:=evRow k a 0 n 0 qb) rfl rfl)<|Ww<|Wt (s':=(b6,.r false [evRow k a 0 n 0 qb] 13)::_) rfl rfl rfl .here rfl rfl<|Wn<|We<|Wm (.cell rfl h50.1 h50.2 (.inl rfl) .here rfl rfl rfl .nil) ?_
 exact⟨rfl,[_],rfl⟩
structure afF (P:Program)(K:Orc)(F:Nat->FuncId)(bf bl:Nat)(t:SH)(i:Nat)(EL:List (List AV))(D:SD)(p:Nat)(id:Int):Prop where
 new:∀(c m:Nat)(j:SH)s,c<4->m<2->aH bl EL D (j++t) s->bB P K (F 15) [.ptr (some ⟨bf,0,0⟩),.agg<|evRow 1 (.ofNat p) (.ofNat c) 2 (.ofNat m) qb] s (λ_ s'=>∃E2 D2,RO (i+1) E2 D2/\aH bl E2 D2 (j++t) s')
 life:∀(n:Int)(j:SH)s,-24<=n->n<=0->aH bl EL D (j++t) s->bB P K (F 15) [.ptr (some ⟨bf,0,0⟩),.agg<|evRow 7 (.ofNat p) 0 n 0 qb] s (λ_ s'=>∃E2 D2,RO (i+1) E2 D2/\aH bl E2 D2 (j++t) s')
 hurt:∀(n:Nat)(j:SH)s,n<=2->aH bl EL D (j++t) s->bB P K (F 15) [.ptr (some ⟨bf,0,0⟩),.agg<|evRow 5 id 0 (.ofNat n) 0 qb] s (λ_ s'=>∃E2 D2,RO (i+1) E2 D2/\aH bl E2 D2 (j++t) s')
 empty:∀(j:SH)s,aH bl EL D (j++t) s->bB P K (F 15) [.ptr (some ⟨bf,0,0⟩),.agg<|evRow 24 (.ofNat p) 0 0 0 qb] s (λ_ s'=>∃E2 D2,RO (i+1) E2 D2/\aH bl E2 D2 (j++t) s')
 wait:∀(j:SH)s,aH bl EL D (j++t) s->bB P K (F 15) [.ptr (some ⟨bf,0,0⟩),.agg<|evRow 17 0 0 0 0 ⟨0,3,.ofNat p,id,0,0⟩] s (λ_ s'=>∃E2 D2,RO (i+1) E2 D2/\aH bl E2 D2 (j++t) s')
theorem aai (L:LEnv P K F T tF)(hf:Has bf (.r false [bu bl aZ 60 c1 c2 c3 c4 bE] 8) t){i p:Nat}(hi:i<=30)(hp:p<3)(h:RO i EL D)(j:SH)(s:SH)(hs:aH bl EL D (j++t) s) :
  bB P K (F 15) [.ptr (some ⟨bf,0,0⟩),.agg<|evRow 24 (.ofNat p) 0 0 0 qb] s (λ_ s'=>∃E2 D2,(RO (i+1) E2 D2/\(∀r,BdI (i+1) (4+i) i i r False E2 D2)/\∃o,D2.pl[p]?=some o/\o.f2=false/\o.f3=true)/\aH bl E2 D2 (j++t) s'):=by
 obtain⟨o,ho,h2,h3⟩:=h.pl p hp
 have kj:=h.bd.li.small (by omega) (by omega)<|by omega
 refine(ij L.hB hs kj (.app hf) (Nat.le_trans h.bd.len<|by omega) (by decide) (by decide) (by decide) (by decide) (abr L.hB L.hL.f264 L.hR kj h.bd.li.ev ho (L.says.empty p · hp))).post ?_
 rintro _ s2 ⟨_,dt⟩
 have hlen:(EL++[evRow 24 (.ofNat p) 0 0 0 qb]).length<=i+1:=by
  rw[List.length_append]
  exact Nat.add_le_add_right h.bd.len 1
 have hO:=h.bd.li.other (pl:=D.pl.set p { o with f3:=true }) ((List.length_set ..).trans h.bd.li.pl) (oc:=D.oc) (wi:=D.wi)
 exact⟨_,_,⟨⟨⟨hlen,hO.mono (by omega) (by omega) (by omega)<|by omega,λx=>x.elim⟩,h.oc,adz h.pl ho h2 h3,h.hu⟩,λr=>⟨hlen,hO.mono (by omega) (by omega) (by omega)<|by omega,λx=>x.elim⟩,_,List.getElem?_set_self (List.getElem?_eq_some_iff.1 ho).1,h2,rfl⟩,dt⟩
theorem adj (L:LEnv P K F T tF)(hf:Has bf (.r false [bu bl aZ 60 c1 c2 c3 c4 bE] 8) t){i p:Nat}{id:Int}(hi:i<30)(hp:p<3)(hid:id=0\/id∈D.fi)(h:RO i EL D):afF P K F bf bl t i EL D p id where
 new c m j s hc hm hs:=by
  have kj:=h.bd.li.small (by omega) (by omega)<|by omega
  have zF:=h.bd.li.ob
  have YI:=h.bd.li.nx
  have hsp:=h.bd.li.sp
  obtain⟨hN,uA,hoc⟩:=h.bd.li.new hp hc<|.ofNat m
  refine(abA L.hB hs kj (.app hf) (Nat.le_trans h.bd.len<|by omega) (by rw[du];exact decide_eq_true<|show((D.ob.length:Nat):Int)<60 by omega) (ada L.hB kj h.bd.li.ev (by rw[h.bd.li.pl];exact hp) ⟨by omega,by omega⟩ ⟨by omega,by omega⟩ (L.says.new p c (.ofNat m) · hp hc (by rcases(by omega:m=0\/m=1)with rfl | rfl<;>simp))) (hN.small (by omega) (by omega)<|by omega) ⟨hN.nx.1,by have:=hN.nx.2;omega⟩).post ?_
  rintro _ s2 ⟨_,dt⟩
  refine⟨_,_,⟨⟨?_,hN.mono (by omega) (by omega) (by omega)<|by omega,λx=>x.elim⟩,hoc.trans h.oc,λq hq=>by rw[uA];exact h.pl q hq,λo ho=>?_⟩,dt⟩
  ·rw[List.length_append]
   exact Nat.add_le_add_right h.bd.len 1
  ·rcases List.mem_append.1 (show o∈D.ob++[(pY p (.ofNat c) 2<|.ofNat m).new2 D.nx D.sp]from ho)with ho | ho
   ·exact h.hu o ho
   ·rw[List.mem_singleton.1 ho]
    exact(by decide:-999<=(0:Int)/\(0:Int)<=999)
 life n j s hn hn2 hs:=by
  obtain⟨o,ho,h2,h3⟩:=h.pl p hp
  have kj:=h.bd.li.small (by omega) (by omega)<|by omega
  refine(ij L.hB hs kj (.app hf) (Nat.le_trans h.bd.len<|by omega) (by decide) (by decide) (by decide) (by decide) (acl L.hB L.hL.f264 L.hR kj h.bd.li.ev ho (by omega) (L.says.life p n · hp hn hn2))).post ?_
  rintro _ s2 ⟨_,dt⟩
  refine⟨_,_,⟨⟨?_,(h.bd.li.other (pl:=D.pl.set p { o with life:=oP (o.life+n) }) ((List.length_set ..).trans h.bd.li.pl) (oc:=D.oc) (wi:=D.wi)).mono (by omega) (by omega) (by omega) (by omega),λx=>x.elim⟩,h.oc,adz h.pl ho h2<|aaC _,h.hu⟩,dt⟩
  rw[List.length_append]
  exact Nat.add_le_add_right h.bd.len 1
 hurt n j s hn hs:=by
  have kj:=h.bd.li.small (by omega) (by omega)<|by omega
  rcases hid with rfl|hid
  ·refine(adX L.hB hs kj (.app hf) (by decide) (c:=2) (by decide) (L.says.hurt0 (.ofNat n) · (Int.natCast_nonneg _) (by show((n:Nat):Int)<=2;omega))).post ?_
   rintro _ s2 ⟨_,dt⟩
   exact⟨_,_,h.succ,dt⟩
  ·obtain⟨o,hin,rfl,hz⟩:=h.bd.li.on id hid
   obtain⟨q,hq,hoq,_,_⟩:=N9<|aaQ h.bd.li.nd hin
   have hI:=h.bd.li.o o hin
   have hh:=h.hu o hin
   refine(ij L.hB hs kj (.app hf) (Nat.le_trans h.bd.len<|by omega) (by decide) (by decide) (by decide) (by decide) (acn (k:=5) (g:=253) (o':={ o with hurt:=oP (o.hurt+.ofNat n) }) L.hB L.hX kj h.bd.li.ev (by omega) hq hoq hz (λhu hr=>abG L.hR (by show _<=o.hurt+(n:Int)/\o.hurt+(n:Int)<=_;omega) hu hr) (L.says.hurt o.id (.ofNat n) · hI.i1 (aay h.bd.li (by omega) hI.i2) (Int.natCast_nonneg _) (by show((n:Nat):Int)<=2;omega)))).post ?_
   rintro _ s2 ⟨_,dt⟩
   refine⟨_,_,⟨⟨?_,(h.bd.li.ahX hoq _).mono (by omega) (by omega) (by omega) (by omega),λx=>x.elim⟩,h.oc,h.pl,λo2 qa=>?_⟩,dt⟩
   ·rw[List.length_append]
    exact Nat.add_le_add_right h.bd.len 1
   ·rcases List.mem_or_eq_of_mem_set qa with qa | rfl
    ·exact h.hu o2 qa
    ·exact aaC _
 empty j s hs:=(aai L hf (by omega) hp h j s hs).post λ_ s'⟨E2,D2,h1,h2⟩=>⟨E2,D2,h1.1,h2⟩
 wait j s hs:=by
  have kj:=h.bd.li.small (by omega) (by omega)<|by omega
  have hW:=h.bd.li.wait ⟨0,3,.ofNat p,id,0,0⟩
  have YI:=h.bd.li.nx
  have hb:0<=id/\id<=1000000:=by
   rcases hid with rfl|hid
   ·decide
   ·obtain⟨o,hin,rfl,hz⟩:=h.bd.li.on id hid
    have hI:=h.bd.li.o o hin
    have:=hI.i1
    exact⟨by omega,aay h.bd.li (by omega) hI.i2⟩
  refine(V1 L.hB hs kj (.app hf) (Nat.le_trans h.bd.len<|by omega) (aax L.hB L.it kj h.bd.li.ev ⟨by omega,by omega⟩ (L.says.wait _ _ _ _ · ⟨Int.natCast_nonneg _,by show((p:Nat):Int)<=2;omega⟩ hb (by decide) (by decide))) (hW.small (by omega) (by omega)<|by omega) ⟨hW.nx.1,show D.nx+1<=1000000 by omega⟩).post ?_
  rintro _ s2 ⟨_,dt⟩
  refine⟨_,_,⟨⟨?_,hW.mono (by omega) (by omega) (by omega)<|by omega,λx=>x.elim⟩,h.oc,h.pl,h.hu⟩,dt⟩
  rw[List.length_append]
  exact Nat.add_le_add_right h.bd.len 1
theorem agt {a b:Nat}(h:a<=255)(hb:0<b):binV .quo (.int .u8 (.ofNat a)) (.int .u8 (.ofNat b))=some (.int .u8 (.ofNat (a/b))):=by
 cases b with
 | zero=>omega
 | succ b=>
  show force (Nat.mod (Nat.div a<|b+1) 256) (λm=>some<|AV.int .u8<|.ofNat m)=_
  rw[aL,show Nat.mod (Nat.div a<|b+1) 256=a/(b+1)from Nat.mod_eq_of_lt<|Nat.lt_of_le_of_lt (Nat.div_le_self ..)<|by omega]
theorem agn {n:Nat}(h:n<=1000):unV .neg (iv (.ofNat n))=some (iv (-(n:Int))):=by
 cases n with
 | zero=>rfl
 | succ m=>
  show mkI .i64 (0-Int.ofNat (m+1))=_
  rw[show(0:Int)-Int.ofNat (m+1)=.negSucc m from by rw[Int.zero_sub];rfl]
  show(match Nat.ble m 9223372036854775807 with | true=>force m λm=>some (AV.int .i64<|.negSucc m) | false=>some<|AV.int .i64<|IntKind.wrap .i64<|.negSucc m)=_
  rw[Nat.ble_eq_true_of_le (by omega)]
  exact aL _ _
theorem afg {n:Nat}:binV .lss (iv (.ofNat n)) (iv 30)=some (.bool (decide (n<30))):=by
 by_cases h:n<30
 ·rw[decide_eq_true h]
  exact d5 (b:=30) h
 ·rw[decide_eq_false h]
  exact dh (b:=30) h
theorem aca (L:LEnv P K F T tF)(h50:Ty P (T 50) 13){i p:Nat}{id:Int}{rb len cap:Nat}{sl:Bool}{LL:List (List AV)}{x y z:Nat}(hlen:LL.length=len)(hi:i<len)(hz:z<=255)(T7:LL[i]?=some [.int .u8 (.ofNat x),.int .u8 (.ofNat y),.int .u8 (.ofNat z)]){j:SH}(hrb:Has rb (.r true LL 3) t)(hs:aH bl EL D (j++t) s)(hH:afF P K F bf bl t i EL D p id)(h0:RO i EL D)
  (hl:∀q w,lk [(0,.slice (some ⟨rb,0,0⟩) len cap sl 3),(3,.ptr<|some ⟨bf,0,0⟩),(5,iv<|.ofNat i),(6,iv<|.ofNat p),(8,iv id)] q=some w->lk l q=some w)
  (hk:∀l2 s2 E2 D2 j2,RO (i+1) E2 D2->aH bl E2 D2 (j2++t) s2->(∀q w,lk [(0,.slice (some ⟨rb,0,0⟩) len cap sl 3),(3,.ptr<|some ⟨bf,0,0⟩),(5,iv<|.ofNat i)] q=some w->lk l2 q=some w)->Qn l2 [] s2):WP P K none 135 (afL F T) l [] s Qn Qe Qr:=by
 refine Wg hl (λ_ _ h=>h) ?_
 have hrow:LL[0+i]?=some [.int .u8 (.ofNat x),.int .u8<|.ofNat y,.int .u8<|.ofNat z]:=by rw[Nat.zero_add];exact T7
 have acB:Has rb (.r true LL 3) s:=hs.mem<|.app hrb
 have h7:binV .rem (.int .u8<|.ofNat x) (.int .u8<|.ofNat 7)=some (.int .u8<|.ofNat<|x%7):=yi<|by omega
 have r7:x%7=0\/x%7=1\/x%7=2\/x%7=3\/x%7=4\/x%7=5\/x%7=6:=by omega
 generalize x%7=r at h7 r7
 have z4:binV .rem (.int .u8<|.ofNat z) (.int .u8<|.ofNat 4)=some (.int .u8<|.ofNat<|z%4):=yi<|by omega
 have b4:z%4<4:=Nat.mod_lt _<|by omega
 rcases r7 with rfl|rfl|rfl|rfl|rfl|rfl|rfl
 rotate_right
 ·-- afC waits
  refine Wq<|W (k:=Wn<|Wb ?_)
  refine Ws<|Wq<|W (k:=Wn<|Wd rfl fS<|λ_=>?_)
  refine Wq<|Wh (b:=false) rfl rfl rfl<|Wv rfl<|Wn<|Wd rfl fS<|λ_=>Wo<|Wh (b:=false) rfl rfl rfl<|Wv rfl<|Wn<|Wd rfl fS<|λ_=>?_
  refine Wq<|W (k:=Wn<|Wd rfl fS<|λ_=>?_)
  refine Wq<|W (k:=Wn<|Wd rfl fS<|λ_=>?_)
  refine Wq<|Wh (b:=false) rfl rfl rfl<|Wv rfl<|Wn<|Wd rfl fS<|λ_=>Wo<|Wv rfl<|Wv rfl<|Wv rfl<|Wr (.build rfl rfl)<|Wr (.build (cs:=evRow 17 0 0 0 0 ⟨0,3,.ofNat p,id,0,0⟩) rfl rfl) ?_
  refine Ww<|W1 (hH.wait j s hs) ?_
  rintro _ s2 ⟨E2,D2,h2,dt⟩
  refine Wn ?_
  exact hk _ _ E2 D2 j h2 dt<|cr rfl
 rotate_right
 ·-- agv drew of nothing
  generalize z%4=q at z4 b4
  by_cases hq:q=0
  ·subst hq
   refine Wq<|W (k:=Wn<|Wb ?_)
   refine Ws<|Wq<|W (k:=Wn<|Wd rfl fS<|λ_=>?_)
   refine Wq<|Wh (b:=false) rfl rfl rfl<|Wv rfl<|Wn<|Wd rfl fS<|λ_=>Wo<|Wh (b:=false) rfl rfl rfl<|Wv rfl<|Wn<|Wd rfl fS<|λ_=>?_
   refine Wq<|W (k:=Wn<|Wd rfl fS<|λ_=>?_)
   refine Wq<|W (k:=Wn<|Wd rfl fS<|λ_=>?_)
   refine Wq<|W (k:=Wn<|Wd rfl (λ_=>?_) Dz)
   refine Wq<|Wv rfl<|Wv rfl<|Wr (.iaddrS rfl rfl (by omega)<|by decide)<|Wf rfl<|Wl rfl acB hrow rfl rfl<|Wj rfl rfl z4<|Wh (b:=true) rfl rfl rfl<|Wn<|Wd rfl (λ_=>Wo<|Wv rfl<|Wv rfl ?_) Dz
   refine Ww<|W1 (aaf L.hN h50) ?_
   rintro _ _ ⟨rfl,m,rfl⟩
   refine Ww<|W1 (hH.empty j _ hs.bK) ?_
   rintro _ s2 ⟨E2,D2,h2,dt⟩
   refine Wn ?_
   exact hk _ _ E2 D2 _ h2 dt<|cr rfl
  ·have e1:eqBy 20 .pi (.int .u8<|.ofNat q) (.int .u8<|.ofNat 0)=some false:=by rw[afT,decide_eq_false<|show¬Int.ofNat q=Int.ofNat 0 fromλh=>hq<|Int.ofNat.inj h]
   refine Wq<|W (k:=Wn<|Wb ?_)
   refine Ws<|Wq<|W (k:=Wn<|Wd rfl fS<|λ_=>?_)
   refine Wq<|Wh (b:=false) rfl rfl rfl<|Wv rfl<|Wn<|Wd rfl fS<|λ_=>Wo<|Wh (b:=false) rfl rfl rfl<|Wv rfl<|Wn<|Wd rfl fS<|λ_=>?_
   refine Wq<|W (k:=Wn<|Wd rfl fS<|λ_=>?_)
   refine Wq<|W (k:=Wn<|Wd rfl fS<|λ_=>?_)
   refine Wq<|W (k:=Wn<|Wd rfl (λ_=>?_) Dz)
   refine Wq<|W (k:=Wn<|Wd rfl fS<|λ_=>Wi ?_)
   exact hk _ _ EL D j h0.succ hs<|cr rfl
 rotate_right
 ·-- a aiw is ahY
  have b3:z%3<3:=Nat.mod_lt _<|by omega
  have z3:binV .rem (.int .u8<|.ofNat z) (.int .u8<|.ofNat 3)=some (.int .u8<|.ofNat<|z%3):=yi<|by omega
  have i3:mkI .i64 (.ofNat<|z%3)=some (iv<|.ofNat<|z%3):=tD<|by omega
  generalize z%3=q at z3 b3 i3
  refine Wq<|W (k:=Wn<|Wb ?_)
  refine Ws<|Wq<|W (k:=Wn<|Wd rfl fS<|λ_=>?_)
  refine Wq<|Wh (b:=false) rfl rfl rfl<|Wv rfl<|Wn<|Wd rfl fS<|λ_=>Wo<|Wh (b:=false) rfl rfl rfl<|Wv rfl<|Wn<|Wd rfl fS<|λ_=>?_
  refine Wq<|W (k:=Wn<|Wd rfl fS<|λ_=>?_)
  refine Wq<|Wh (b:=true) rfl rfl rfl<|Wv rfl<|Wn<|Wd rfl (λ_=>Wo<|Wv rfl<|Wv rfl<|Wv rfl<|Wv rfl<|Wr (.iaddrS rfl rfl (by omega)<|by decide)<|Wf rfl<|Wl rfl acB hrow rfl rfl<|Wj rfl rfl z3<|Wr (.convI rfl i3) ?_) Dz
  refine Ww<|W1 (aaf L.hN h50) ?_
  rintro _ _ ⟨rfl,m,rfl⟩
  refine Ww<|W1 (hH.hurt q j _ (by omega) hs.bK) ?_
  rintro _ s2 ⟨E2,D2,h2,dt⟩
  refine Wn ?_
  exact hk _ _ E2 D2 _ h2 dt<|cr rfl
 rotate_right
 ·-- afk life is less
  have b3:z%25<25:=Nat.mod_lt _<|by omega
  have z3:binV .rem (.int .u8<|.ofNat z) (.int .u8<|.ofNat 25)=some (.int .u8<|.ofNat<|z%25):=yi<|by omega
  have i3:mkI .i64 (.ofNat<|z%25)=some (iv<|.ofNat<|z%25):=tD<|by omega
  generalize z%25=q at z3 b3 i3
  have n3:=agn (n:=q)<|by omega
  obtain⟨w,hw⟩:∃w:Int,w=-(q:Int):=⟨_,rfl⟩
  rw[<- hw]at n3
  refine Wq<|W (k:=Wn<|Wb ?_)
  refine Ws<|Wq<|W (k:=Wn<|Wd rfl fS<|λ_=>?_)
  refine Wq<|Wh (b:=false) rfl rfl rfl<|Wv rfl<|Wn<|Wd rfl fS<|λ_=>Wo<|Wh (b:=false) rfl rfl rfl<|Wv rfl<|Wn<|Wd rfl fS<|λ_=>?_
  refine Wq<|Wh (b:=true) rfl rfl rfl<|Wv rfl<|Wn<|Wd rfl (λ_=>Wo<|Wv rfl<|Wv rfl<|Wv rfl<|Wv rfl<|Wr (.iaddrS rfl rfl (by omega)<|by decide)<|Wf rfl<|Wl rfl acB hrow rfl rfl<|Wj rfl rfl z3<|Wr (.convI rfl i3)<|Wr (.un rfl n3) ?_) Dz
  refine Ww<|W1 (aaf L.hN h50) ?_
  rintro _ _ ⟨rfl,m,rfl⟩
  refine Ww<|W1 (hH.life w j _ (by omega) (by omega) hs.bK) ?_
  rintro _ s2 ⟨E2,D2,h2,dt⟩
  refine Wn ?_
  exact hk _ _ E2 D2 _ h2 dt<|cr rfl
 all_goals
  have key:∀(Qe2:Nat->Po)(l2:Sl),(∀q w,lk [(0,.slice (some ⟨rb,0,0⟩) len cap sl 3),(3,.ptr<|some ⟨bf,0,0⟩),(5,iv<|.ofNat i),(6,iv<|.ofNat p),(71,.bool true)] q=some w->lk l2 q=some w)->WP P K none 135 (pt (afL F T) [1,0,1]) l2 [] s Qn Qe2 Qr:=by
   intro Qe2 l2 h2
   refine Wg h2 (λ_ _ h=>h) ?_
   have b2:z/4%2<2:=Nat.mod_lt _<|by omega
   have i4:mkI .i64 (.ofNat<|z%4)=some (iv<|.ofNat<|z%4):=tD<|by omega
   have q4:=agt (a:=z) (b:=4) hz<|by omega
   have z2:binV .rem (.int .u8<|.ofNat<|z/4) (.int .u8<|.ofNat 2)=some (.int .u8<|.ofNat<|z/4%2):=yi<|by omega
   have i2:mkI .i64 (.ofNat<|z/4%2)=some (iv<|.ofNat<|z/4%2):=tD<|by omega
   generalize z%4=c at z4 b4 i4
   generalize z/4%2=m at z2 b2 i2
   refine Wd rfl (λ_=>WP.bD<|Dp (.mv rfl)<|Dp (.mv rfl)<|Dp (.mv rfl)<|Dp (.mv rfl)<|Dp (.iaddrS rfl rfl (by omega)<|by decide)<|Dp (.faddr rfl)<|Dl rfl .nil (.load rfl acB hrow rfl rfl)<|Dp (.arith rfl rfl z4)<|Dp (.convI rfl i4)<|Dp (.mv rfl)<|Dp (.mv rfl)<|Dp (.iaddrS rfl rfl (by omega)<|by decide)<|Dp (.faddr rfl)<|Dl rfl .nil (.load rfl acB hrow rfl rfl)<|Dp (.arith rfl rfl q4)<|Dp (.arith rfl rfl z2)<|Dp (.convI rfl i2)<|Dp (.build (cs:=evRow (Int.ofNat 1) (Int.ofNat p) (Int.ofNat c) (Int.ofNat 2) (Int.ofNat m) qb) rfl rfl) ?_) Dz
   refine Dc .nil<|W1 (hH.new c m j s b4 b2 hs) ?_
   rintro _ s2 ⟨E2,D2,h2,dt⟩
   refine D0 .nil ?_<|λo h=>nomatch h
   exact hk _ _ E2 D2 _ h2 dt<|cr rfl
  refine Wq<|W (k:=Wn<|Wb ?_)
 ·refine Ws (Wq<|W (k:=Wn<|Wd rfl (λ_=>Wi ?_) Dz))
  exact key _ _<|cr rfl
 ·refine Ws (Wq<|W (k:=Wn<|Wd rfl fS<|λ_=>?_))
  refine Wq<|W (k:=Wn<|Wd rfl (λ_=>Wi ?_) Dz)
  exact key _ _<|cr rfl
 ·refine Ws (Wq<|W (k:=Wn<|Wd rfl fS<|λ_=>?_))
  refine Wq<|W (k:=Wn<|Wd rfl fS<|λ_=>?_)
  refine Wo<|W (k:=Wn ?_)
  exact key _ _<|cr rfl
theorem adY (L:LEnv P K F T tF)(h50:Ty P (T 50) 13){lv:AV}{LL:List (List AV)}(hL:BtL lv LL t)(hf:Has bf (.r false [bu bl aZ 60 c1 c2 c3 c4 bE] 8) t)(hs:aH bl EL D t s)(h0:RO 0 EL D)
  (hl:∀q w,lk [(0,lv),(3,.ptr<|some ⟨bf,0,0⟩)] q=some w->lk l q=some w)
  (hk:∀l2 s2 E2 D2,RO 30 E2 D2->aH bl E2 D2 t s2->lk l2 2=some (.ptr<|some ⟨bf,0,0⟩)->Qr l2 [] s2):WP P K none 135 (adM F T) l [] s Qn Qe Qr:=by
 refine Wg hl (λ_ _ h=>h) ?_
 refine Ws<|Wq<|Wv rfl<|Wn ?_
 refine Wb ?_
 refine Wp (λk l ds s'=>ds=[]/\∃q E2 D2 j,k=30-q/\q<=30/\q<=LL.length/\RO q E2 D2/\aH bl E2 D2 (j++t) s'/\∀i w,lk [(0,lv),(3,.ptr<|some ⟨bf,0,0⟩),(5,iv<|.ofNat q)] i=some w->lk l i=some w) ?_ (n:=30-0)
  ⟨rfl,0,EL,D,[],rfl,Nat.zero_le _,Nat.zero_le _,h0,hs,cr rfl⟩
 rintro k l ds s' ⟨rfl,q,E2,D2,j,rfl,hq,hqL,hH,hs',hl⟩
 refine Wg hl (λ_ _ h=>h) ?_
 have hlen:=hL.len
 have fin:∀{l2:Sl},(∀i w,lk [(0,lv),(3,.ptr<|some ⟨bf,0,0⟩),(5,iv<|.ofNat q)] i=some w->lk l2 i=some w)->WP P K none 135 (oN [zm 134 3,zm 2 134] .ret) l2 [] s' Qn Qe Qr:=by
  intro l2 h2
  refine Wg h2 (λ_ _ h=>h) ?_
  refine Wq<|W (k:=Wn<|We ?_)
  exact hk _ _ E2 D2 (hH.mono hq) hs'.fb rfl
 have e1:=afg (n:=q)
 by_cases hlt:q<LL.length
 rotate_left
 ·have e0:=dh hlt
  refine Ws<|Wq<|W (k:=Wn<|Wd rfl fS<|λ_=>Wx ?_)
  exact fin<|cr rfl
 have e0:=d5 hlt
 by_cases h30:q<30
 rotate_left
 ·rw[decide_eq_false h30]at e1
  refine Ws<|Wq<|W (k:=Wn<|Wd rfl fS<|λ_=>Wx ?_)
  exact fin<|cr rfl
 rw[decide_eq_true h30]at e1
 obtain⟨x,y,z,hx,hy,hz,hrow⟩:=hL.b q hlt
 obtain⟨rb,cap,sl,rfl,hrb⟩:=hL.at'<|by omega
 have aga:LL[0+q]?=some [.int .u8 (.ofNat x),.int .u8<|.ofNat y,.int .u8<|.ofNat z]:=by rw[Nat.zero_add];exact hrow
 have acB:Has rb (.r true LL 3) s':=hs'.mem<|.app hrb
 have b3:y%3<3:=Nat.mod_lt _<|by omega
 have z3:binV .rem (.int .u8<|.ofNat y) (.int .u8<|.ofNat 3)=some (.int .u8<|.ofNat<|y%3):=yi<|by omega
 have i3:mkI .i64 (.ofNat<|y%3)=some (iv<|.ofNat<|y%3):=tD<|by omega
 generalize y%3=p at z3 b3 i3
 have kj:=hH.bd.li.small (by omega) (by omega)<|by omega
 have nxt:∀{l9:Sl}{s9:SH}{E9:List (List AV)}{D9:SD}{j9:SH},RO (q+1) E9 D9->aH bl E9 D9 (j9++t) s9->(∀i w,lk [(0,.slice (some ⟨rb,0,0⟩) LL.length cap sl 3),(3,.ptr<|some ⟨bf,0,0⟩),(5,iv<|.ofNat<|q+1)] i=some w->lk l9 i=some w) ->
   ∃m',m'<30-q/\(([]:List aD)=[]/\∃q E2 D2 j,m'=30-q/\q<=30/\q<=LL.length/\RO q E2 D2/\aH bl E2 D2 (j++t) s9/\∀i w,lk [(0,.slice (some ⟨rb,0,0⟩) LL.length cap sl 3),(3,.ptr<|some ⟨bf,0,0⟩),(5,iv<|.ofNat q)] i=some w->lk l9 i=some w):=
  λh1 h2 h3=>⟨30-(q+1),by omega,rfl,q+1,_,_,_,rfl,h30,hlt,h1,h2,h3⟩
 refine Ws<|Wq<|W (k:=Wn<|Wd rfl (λ_=>Wi ?_) Dz)
 refine Ws<|Wb<|Wq<|W (k:=Wn ?_)
 refine Wq<|Wv rfl ?_
 refine Ww<|W1 (Gf L.hB L.hC hs' kj<|.app hf) ?_
 rintro v7 s2 ⟨m,dt,hS⟩
 have hlv:=hS.lenOf
 rw[gq]at hlv
 by_cases hn:0<D2.fi.length
 ·have e4:=afX hn
  have i7:mkI .i64 (.ofNat y)=some (iv<|.ofNat y):=tD<|by omega
  have r7:binV .rem (iv<|.ofNat y) (iv<|.ofNat D2.fi.length)=some (iv<|.ofNat<|y%D2.fi.length):=yi hn
  have ad3:y%D2.fi.length<D2.fi.length:=Nat.mod_lt _ hn
  generalize y%D2.fi.length=u at r7 ad3
  obtain⟨ba,ra,na,ca,J5,Sp,Ma,rfl,hba,me,hra⟩:=hS.at (i:=u) (by rw[gq];exact ad3)
  have iI:D2.fi[u]?=some (D2.fi[u]'(ad3)):=List.getElem?_eq_getElem _
  generalize D2.fi[u]'(ad3)=id at iI
  have agb:Ma[ra+u]?=some [iv id]:=by rw[hra,nR,List.getElem?_map,iI];rfl
  have acA:Has ba (.r Sp Ma 1) s2:=dt.mem<|.left hba
  have aic:Has rb (.r true LL 3) s2:=dt.mem<|.app<|.app hrb
  refine Wv rfl<|Wn ?_
  refine Wq<|Wv rfl<|Wn ?_
  refine Ws<|Wq<|Wv rfl<|Wr (.lenS rfl hlv)<|Wj rfl rfl e4<|Wn<|Wd rfl (λ_=>Wo<|Wv rfl<|Wv rfl<|Wv rfl<|Wr (.iaddrS rfl rfl (by omega)<|by decide)<|Wf rfl<|Wl rfl aic aga rfl rfl<|Wr (.convI rfl i7)<|Wv rfl<|Wr (.lenS rfl hlv)<|Wj rfl rfl r7<|Wr (.iaddrS rfl rfl (by omega)<|by decide)<|Wl rfl acA agb rfl rfl<|Wv rfl<|Wn ?_) Dz
  have ah2:id∈D2.fi:=List.mem_of_getElem? iI
  exact aca L h50 rfl hlt hz hrow (j:=m++j) hrb ((List.append_assoc ..).symm▸dt) (adj L hf h30 b3 (.inr ah2) hH) hH (cr rfl) λl9 s9 E9 D9 j9 h9 hs9 hl9=>Wg hl9 (λ_ _ h=>h) (by
   refine Wo<|Wv rfl<|Wj rfl rfl (bM<|by omega)<|Wv rfl<|Wn ?_
   exact nxt h9 hs9 (cr rfl))
 ·have e4:binV .gtr (iv<|.ofNat D2.fi.length) (iv 0)=some (.bool false):=abB (b:=0) hn
  refine Wv rfl<|Wn ?_
  refine Wq<|Wv rfl<|Wn ?_
  refine Ws<|Wq<|W (k:=Wn<|Wd rfl fS<|λ_=>Wi ?_)
  exact aca L h50 rfl hlt hz hrow (j:=m++j) hrb ((List.append_assoc ..).symm▸dt) (adj L hf h30 b3 (.inl rfl) hH) hH (cr rfl) λl9 s9 E9 D9 j9 h9 hs9 hl9=>Wg hl9 (λ_ _ h=>h) (by
   refine Wo<|Wv rfl<|Wj rfl rfl (bM<|by omega)<|Wv rfl<|Wn ?_
   exact nxt h9 hs9 (cr rfl))
open Go.Proofs
set_option maxRecDepth 100000
noncomputable def ajv:CF:=NF (λF T=>pt (cd 4 91 F T) [1,1,1,1,1,1,1,1,0,1,0,0]) _
noncomputable def ajw:CF:=NF (λF T=>pt (cd 4 91 F T) [1,1,1,1,1,1,1,1,1,0,1,0,0]) _
noncomputable def ajx:CF:=NF (λF T=>pt (cd 4 91 F T) [1,1,1,1,1,1,1,1,1,1,0,1,0,0]) _
noncomputable def agS:CF:=NF (λF T=>pt (cd 4 91 F T) [1,1,1,1,1,1,1,1]) _
noncomputable def adK:CF:=NF (λF T=>pt (cd 4 91 F T) [1,1,1]) _
noncomputable def aeQ (F:Nat->FuncId):List bS:=NF ((pt (cd 4 91 F λn=>n) [1,1,0]).opl) _
def ac3 (t:SH):Po:=λl ds s=>ds=[]/\lk l 4=some (.bool true)/\∀b o,Has b o t->Has b o s
theorem adJ {p b7:Nat}{pv ov lv hv gv ev fv sv wv:AV}{m:SH}(hC:Cl p D)(hst:D.st=[])(kj:D.Small)(hR:mD m pv ov lv hv gv ev fv sv wv D)(hs:aH bl EL D ((b7,.r false [D.cells pv ov lv hv gv ev fv sv wv] 25)::(m++t)) s)
  (hl:∀q w,lk [(6,iv<|.ofNat p),(7,.ptr<|some ⟨b7,0,0⟩)] q=some w->lk l q=some w):WP P K none 91 (agS F T) l [] s Kj (λ_=>Kj) (ac3 t):=by
 refine Wg hl (λ_ _ h=>h) ?_
 have h7:Has b7 (.r false [D.cells pv ov lv hv gv ev fv sv wv] 25) s:=hs.mem .here
 have hn:=kj.n1
 refine Ws<|Wq<|Wv rfl<|Wn ?_
 refine Wb ?_
 have lo:lenOf ov=some D.ob.length:=by have:=hR.ob.lenOf;rwa [fy,List.length_map]at this
 have ls:lenOf sv=some 0:=by have:=hR.st.lenOf;rw[hst]at this;exact this
 have lw:lenOf wv=some D.wa.length:=by have:=hR.wa.lenOf;rwa [CT,List.length_map]at this
 refine Wp (λk l ds s'=>ds=[]/\∃q,k=D.ob.length-q/\q<=D.ob.length/\s'=s/\∀i w,lk [(6,iv<|.ofNat p),(7,.ptr<|some ⟨b7,0,0⟩),(8,iv<|.ofNat q)] i=some w->lk l i=some w) ?_ (n:=D.ob.length-0)
  ⟨rfl,0,rfl,Nat.zero_le _,rfl,cr rfl⟩
 rintro k l ds s' ⟨rfl,q,rfl,hq,rfl,hl⟩
 refine Wg hl (λ_ _ h=>h) ?_
 by_cases hlt:q<D.ob.length
 ·have e1:=d5 hlt
  have hx:D.ob[q]?=some (D.ob[q]'hlt):=List.getElem?_eq_getElem _
  have hne:=hC.ob _<|List.getElem_mem hlt
  generalize D.ob[q]'hlt=o at hx hne
  obtain⟨ba,ra,na,ca,J5,Sp,Ma,rfl,hba,me,hra⟩:=hR.ob.at (i:=q)<|by simpa[fy]using hlt
  have hrow:Ma[ra+q]?=some o.row:=by rw[hra,fy,List.getElem?_map,hx];rfl
  have acA:Has ba (.r Sp Ma 14) s':=hs.mem<|.there<|.left hba
  have e2:eqBy 20 .pi (iv o.owner) (iv<|.ofNat p)=some false:=by rw[cD,decide_eq_false hne]
  refine Ws<|Wq<|W (k:=Wn<|Wd rfl (λ_=>Wi ?_) Dz)
  refine Ws<|Wb<|Wq<|Wf rfl<|Wl rfl h7 rfl rfl rfl<|Wv rfl<|Wr (.iaddrS rfl rfl (by omega)<|by decide)<|Wf rfl<|Wl rfl acA hrow rfl rfl<|Wv rfl<|Wh rfl rfl e2<|Wn<|Wd rfl fS<|λ_=>Wi<|Wo<|Wv rfl<|Wj rfl rfl (bM<|by omega)<|Wv rfl<|Wn ?_
  exact⟨D.ob.length-(q+1),by omega,rfl,q+1,rfl,hlt,rfl,cr rfl⟩
 have e1:=dh hlt
 refine Ws<|Wq<|W (k:=Wn<|Wd rfl fS<|λ_=>Wx ?_)
 have e9:binV .lss (iv<|.ofNat 0) (iv<|.ofNat 0)=some (.bool false):=rfl
 refine Ws<|Wq<|Wv rfl<|Wn ?_
 refine Wb<|WP.dA ?_
 refine Ws<|Wq<|W (k:=Wn<|Wd rfl fS<|λ_=>Wx ?_)
 refine Ws<|Wq<|Wv rfl<|Wn ?_
 refine Wb ?_
 refine Wp (λk l ds s''=>ds=[]/\∃q,k=D.wa.length-q/\q<=D.wa.length/\s''=s'/\∀i w,lk [(6,iv<|.ofNat p),(7,.ptr<|some ⟨b7,0,0⟩),(10,iv<|.ofNat q)] i=some w->lk l i=some w) ?_ (n:=D.wa.length-0)
  ⟨rfl,0,rfl,Nat.zero_le _,rfl,cr rfl⟩
 rintro k l ds s'' ⟨rfl,q,rfl,hq,rfl,hl⟩
 refine Wg hl (λ_ _ h=>h) ?_
 by_cases hlt:q<D.wa.length
 ·have e1:=d5 hlt
  have hx:D.wa[q]?=some (D.wa[q]'hlt):=List.getElem?_eq_getElem _
  have hne:=hC.wa _<|List.getElem_mem hlt
  generalize D.wa[q]'hlt=o at hx hne
  obtain⟨ba,ra,na,ca,J5,Sp,Ma,rfl,hba,me,hra⟩:=hR.wa.at (i:=q)<|by simpa[CT]using hlt
  have hrow:Ma[ra+q]?=some o.row:=by rw[hra,CT,List.getElem?_map,hx];rfl
  have acA:Has ba (.r Sp Ma 7) s'':=hs.mem<|.there<|.left hba
  have e2:eqBy 20 .pi (iv o.aQ) (iv<|.ofNat p)=some false:=by rw[cD,decide_eq_false hne]
  refine Ws<|Wq<|W (k:=Wn<|Wd rfl (λ_=>Wi ?_) Dz)
  refine Ws<|Wb<|Wq<|Wf rfl<|Wl rfl h7 rfl rfl rfl<|Wv rfl<|Wr (.iaddrS rfl rfl (by omega)<|by decide)<|Wf rfl<|Wl rfl acA hrow rfl rfl<|Wv rfl<|Wh rfl rfl e2<|Wv rfl<|Wk<|Wk<|Wk<|Wk<|Wk<|Wk<|Wk<|Wr (.bj rfl rfl)<|Wn<|Wd rfl fS<|λ_=>Wi<|Wo<|Wv rfl<|Wj rfl rfl (bM<|by omega)<|Wv rfl<|Wn ?_
  exact⟨D.wa.length-(q+1),by omega,rfl,q+1,rfl,hlt,rfl,cr rfl⟩
 have e1:=dh hlt
 refine Ws<|Wq<|W (k:=Wn<|Wd rfl fS<|λ_=>Wx ?_)
 refine Wq<|Wv rfl<|Wn<|We ?_
 exact⟨rfl,rfl,λb o hb=>hs.mem<|.there<|.app hb⟩
theorem adL (L:LEnv P K F T (T 26))(h50:Ty P (T 50) 13)(hP:x7 C){x:Nat}(hx:x<=255)(hf:Has bf (.r false [bu bl aZ 60 c1 c2 c3 c4 bE] 8) t)(eQ:cI t aZ C)(hs:aH bl EL D t s)(h0:RO 30 EL D)
  (hl:∀q w,lk [(1,.int .u8<|.ofNat x),(5,.ptr<|some ⟨bf,0,0⟩)] q=some w->lk l q=some w):WP P K none 91 (adK F T) l [] s Kj (λ_=>Kj) (ac3 t):=by
 refine Wg hl (λ_ _ h=>h) ?_
 have b3:x%3<3:=Nat.mod_lt _<|by omega
 have z3:binV .rem (.int .u8<|.ofNat x) (.int .u8<|.ofNat 3)=some (.int .u8<|.ofNat<|x%3):=yi<|by omega
 have i3:mkI .i64 (.ofNat<|x%3)=some (iv<|.ofNat<|x%3):=tD<|by omega
 generalize x%3=p at z3 b3 i3
 refine Ws<|Wq<|W (k:=Wn<|Wd rfl fS<|λ_=>Wi ?_)
 refine Wq<|W (k:=Wn ?_)
 refine Wq<|W (k:=?_)
 refine Ww<|W1 (aaf L.hN h50) ?_
 rintro _ _ ⟨rfl,m,rfl⟩
 refine Ww<|W1 (aai L hf (Nat.le_refl _) b3 h0 [] _ hs.bK) ?_
 rintro _ s2 ⟨E2,D2,⟨hH,hbd,ho⟩,dt⟩
 refine Wn ?_
 refine Ws<|Wq<|W (k:=?_)
 refine Ww<|W1 (adx L hP hf eQ (e:=31) (n:=34) (f:=30) (w:=30) (by decide) (by decide) (by decide) (by decide) (by decide) dt (hbd p) b3 ho hH.oc) ?_
 rintro _ s3 ⟨rfl,E3,D3,hLI,hCl,hE3,gw⟩
 obtain⟨o3,ho3,KE⟩:=hCl.lost
 have kj:=hLI.small (by decide) (by decide)<|by decide
 refine Wr (.un rfl rfl)<|Wv rfl<|Wy<|Wv rfl<|Wy<|Wv rfl<|Wy ?_
 refine Ww<|W1 (Ar L.hB L.hC L.hT gw kj hf ho3) ?_
 rintro _ s4 ⟨rfl,pM⟩
 rw[show o3.row=[iv o3.life,iv o3.m0,iv o3.m1,iv o3.m2,iv o3.m3,.bool o3.f1,.bool true,.bool o3.f3]from by unfold LD.row;rw[KE]]
 refine Wy<|Wr (.fld rfl rfl)<|Wy<|Wr (.un rfl rfl)<|Wr (.bj rfl rfl)<|Wn<|Wd rfl fS<|λ_=>Wi ?_
 refine Wq<|Wv rfl ?_
 refine Ww<|W1 (iU L.hB pM kj hf) ?_
 rintro _ s5 ⟨m5,tn,pv,ov,lv,hv,gv,ev,fv,sv,wv,rfl,hR⟩
 refine Wa (.alloc rfl) λb7=>Ww<|Wt (s':=(b7,.r false [SD.cells D3 pv ov lv hv gv ev fv sv wv] 25)::_) rfl rfl rfl .here rfl rfl<|Wn ?_
 exact adJ (F:=F) (T:=T) hCl hLI.st kj hR tn.cons<|cr rfl
def aeT:AD:=⟨3,2,0,0,0,0,0,false,nilS,.slice (some ⟨1,0,0⟩) 2 2 false 3,0,0,0⟩
def ac4:AD:=⟨3,2,2,0,0,0,0,false,nilS,.slice (some ⟨3,0,0⟩) 2 2 false 3,0,0,0⟩
def abn:AD:=⟨4,0,2,0,0,0,0,false,nilS,nilS,4,0,.negSucc 0⟩
def C20:List CD:=[⟨⟨#[98,101,97,115,116]⟩,2,0,0,0,0,0,2,2,0,nilS,[]⟩,⟨⟨#[105,109,112]⟩,2,0,0,0,0,0,1,1,0,.slice (some ⟨2,0,0⟩) 1 1 false 13,[aeT]⟩,⟨⟨#[98,101,108,108]⟩,4,0,0,0,0,0,0,0,0,.slice (some ⟨4,0,0⟩) 1 1 false 13,[ac4]⟩,⟨⟨#[102,114,111,115,116]⟩,4,0,0,0,0,0,0,0,0,.slice (some ⟨5,0,0⟩) 1 1 false 13,[abn]⟩]
theorem aaF {Q:CD->Prop}(h0:∀c:CD,c.ab=[]->c.av=nilS->Q c)(h1:∀c:CD,c.ab=[aeT]->c.av=.slice (some ⟨2,0,0⟩) 1 1 false 13->Q c)(h2:∀c:CD,c.ab=[ac4]->c.av=.slice (some ⟨4,0,0⟩) 1 1 false 13->Q c)(h3:∀c:CD,c.ab=[abn]->c.av=.slice (some ⟨5,0,0⟩) 1 1 false 13->Q c):∀c∈C20,Q c:=by
 intro c hc
 simp only[C20,List.mem_cons,List.not_mem_nil,or_false]at hc
 rcases hc with rfl|rfl|rfl|rfl
 ·exact h0 _ rfl rfl
 ·exact h1 _ rfl rfl
 ·exact h2 _ rfl rfl
 ·exact h3 _ rfl rfl
theorem aaY:x7 C20 where
 n:=rfl
 R8:=aaF (λc h _=>by rw[h];exact Nat.zero_le _) (λc h _=>by rw[h];exact Nat.le_refl _) (λc h _=>by rw[h];exact Nat.le_refl _) (λc h _=>by rw[h];exact Nat.le_refl _)
 x:=aaF (λc h _ x hx=>by rw[h]at hx;cases hx) (λc h _ x hx=>by rw[h]at hx;rw[List.mem_singleton.1 hx];exact .inl ⟨rfl,rfl,.inl rfl⟩) (λc h _ x hx=>by rw[h]at hx;rw[List.mem_singleton.1 hx];exact .inl ⟨rfl,rfl,.inr rfl⟩) (λc h _ x hx=>by rw[h]at hx;rw[List.mem_singleton.1 hx];exact .inr ⟨rfl,rfl,rfl,rfl,rfl,rfl⟩)
def p20:LD:=⟨20,0,0,0,0,false,false,false⟩
def d20:SD:=⟨[p20,p20,p20],[ob0 1 0 0,ob0 2 1 0,ob0 3 2 1,ob0 4 3 2],[[1,2],[3],[4]],[[],[],[]],[[],[],[]],[[],[],[]],[],[],[],1,0,0,0,0,0,5,1,0,0,0,0,false,0,0⟩
theorem aeV:RO 0 [] d20 where
 bd:={
  len:=Nat.le_refl _
  li:={
   pl:=rfl
   ev:=⟨rfl,rfl,rfl,rfl⟩
   st:=rfl
   co:=rfl
   ob:=Nat.le_refl _
   nd:=by decide
   o:=λo ho=>by
    simp only[d20,List.mem_cons,List.not_mem_nil,or_false]at ho
    rcases ho with rfl|rfl|rfl|rfl
    ·exact⟨by decide,by decide,rfl,⟨0,rfl,by decide⟩,⟨0,rfl,by decide⟩,rfl⟩
    ·exact⟨by decide,by decide,rfl,⟨1,rfl,by decide⟩,⟨0,rfl,by decide⟩,rfl⟩
    ·exact⟨by decide,by decide,rfl,⟨2,rfl,by decide⟩,⟨1,rfl,by decide⟩,rfl⟩
    ·exact⟨by decide,by decide,rfl,⟨3,rfl,by decide⟩,⟨2,rfl,by decide⟩,rfl⟩
   lo:=λo ho=>by
    simp only[d20,List.mem_cons,List.not_mem_nil,or_false]at ho
    rcases ho with rfl|rfl|rfl|rfl
    ·exact .inr<|.inl ⟨rfl,[1,2],rfl,by decide⟩
    ·exact .inr<|.inl ⟨rfl,[1,2],rfl,by decide⟩
    ·exact .inr<|.inl ⟨rfl,[3],rfl,by decide⟩
    ·exact .inr<|.inl ⟨rfl,[4],rfl,by decide⟩
   fi:=Nat.le_refl _
   on:=λid h=>nomatch h
   ls:=λLL hL l hl=>by
    have:∀l∈LL,l.length<=2:=by
     rcases hL with rfl|rfl|rfl|rfl<;>(intro l hl;simp only[d20,List.mem_cons,List.not_mem_nil,or_false]at hl;rcases hl with rfl|rfl|rfl<;>decide)
    exact Nat.le_trans (this l hl)<|by decide
   wa:=Nat.le_refl _
   wn:=List.nodup_nil
   wx:=λx hx=>nomatch hx
   nx:=by decide
   sp:=by decide
   sm:=λo ho=>by
    simp only[d20,List.mem_cons,List.not_mem_nil,or_false]at ho
    rcases ho with rfl|rfl|rfl|rfl<;>decide
   so:=.nil }
  cl:=λx=>x.elim }
 oc:=rfl
 pl:=λp hp=>by
  match p,hp with
  | 0,_=>exact⟨p20,rfl,rfl,by decide,by decide⟩
  | 1,_=>exact⟨p20,rfl,rfl,by decide,by decide⟩
  | 2,_=>exact⟨p20,rfl,rfl,by decide,by decide⟩
 hu:=λo ho=>by
  simp only[d20,List.mem_cons,List.not_mem_nil,or_false]at ho
  rcases ho with rfl|rfl|rfl|rfl<;>decide
@[reducible] def adu:List AV:=d20.cells (pn 266 3 8) (pn 286 4 14) (pn 298 3 1) (pn 304 3 1) (pn 310 3 1) (pn 316 3 1) nilS nilS nilS++([nilS]++(d20.cells (pn 320 3 8) (pn 340 4 14) (pn 352 3 1) (pn 358 3 1) (pn 364 3 1) (pn 370 3 1) nilS nilS nilS++[]))
@[reducible] def agl:List (List AV):=[[pn 342 2 1],[pn 346 1 1],[pn 350 1 1]]
def abX:List (Nat × Nat × List (List AV)):=[(320,8,Am d20.pl),(340,14,fy d20.ob),(352,1,agl),(358,1,n3),(364,1,n3),(370,1,n3),(342,1,nR [1,2]),(346,1,nR [3]),(350,1,nR [4])]
def t20:List (Nat × Nat × List (List AV)):=[(260,8,[bu 262 (pn 372 4 11) 60 8 80 20 20 nilS]),(372,11,C20.map CD.row),(2,13,[aeT.row]),(4,13,[ac4.row]),(5,13,[abn.row])]
def aaa:List (Nat × Nat × List (List AV)):=(262,51,[adu])::(abX++t20)
theorem aeh:mD (Dw abX) (pn 320 3 8) (pn 340 4 14) (pn 352 3 1) (pn 358 3 1) (pn 364 3 1) (pn 370 3 1) nilS nilS nilS d20 where
 pl:=Src.all (L:=Am d20.pl) .here
 ob:=Src.all (L:=fy d20.ob)<|.there .here
 lb:=⟨_,Src.all (L:=agl)<|.there<|.there .here,.cons (Src.all (L:=nR [1,2])<|.there<|.there<|.there<|.there<|.there<|.there .here)<|.cons (Src.all (L:=nR [3])<|.there<|.there<|.there<|.there<|.there<|.there<|.there .here)<|.cons (Src.all (L:=nR [4])<|.there<|.there<|.there<|.there<|.there<|.there<|.there<|.there .here) .nil⟩
 hd:=⟨_,Src.all (L:=n3)<|.there<|.there<|.there .here,.cons .nil<|.cons .nil<|.cons .nil .nil⟩
 gr:=⟨_,Src.all (L:=n3)<|.there<|.there<|.there<|.there .here,.cons .nil<|.cons .nil<|.cons .nil .nil⟩
 ex:=⟨_,Src.all (L:=n3)<|.there<|.there<|.there<|.there<|.there .here,.cons .nil<|.cons .nil<|.cons .nil .nil⟩
 fi:=.nil
 st:=.nil
 wa:=.nil
theorem adv (t:SH):aH 262 [] d20 t ((262,.r false [adu] 51)::([]++(Dw abX++t))):=
 ⟨_,nilS,pn 320 3 8,pn 340 4 14,pn 352 3 1,pn 358 3 1,pn 364 3 1,pn 370 3 1,nilS,nilS,nilS,[],Dw abX,.refl _,rfl,.nil,aeh⟩
theorem acq (z:SH):cI (Dw t20++z) (pn 372 4 11) C20 where
 src:=Src.all (L:=C20.map CD.row)<|.there .here
 ab:=aaF (λc h h'=>by rw[h,h'];exact .nil) (λc h h'=>by rw[h,h'];exact Src.all (L:=[_])<|.there<|.there .here) (λc h h'=>by rw[h,h'];exact Src.all (L:=[_])<|.there<|.there<|.there .here) (λc h h'=>by rw[h,h'];exact Src.all (L:=[_])<|.there<|.there<|.there<|.there .here)
 n:=by decide
 nb:=λc hc=>Nat.le_trans (aaY.R8 c hc)<|by decide
noncomputable def aeN (P:Program)(ih:bT)(c:Code)(z:Nat):FH->Bool:=
 RE P 135 ih (spine 3 c).1 (λe h=>Du h aaa&&(wI e [(3,.ptr<|some ⟨260,0,0⟩)]&&(aec (atR 0 e) 0&&(Nat.beq (ap 0 h).t z&&(Nat.beq (ap 0 h).lp.nt 0&&(match h.fr.ds with | []=>true | _=>false))))))
  (Ba [rJ] 0 cT)
theorem acI:(Dw aaa).Pairwise λp q=>p.1≠q.1:=by simp[Dw,aaa,abX,t20]
theorem abP:∀p∈Dw aaa,p.1≠0:=by
 intro p hp
 simp only[Dw,aaa,abX,t20,List.map_cons,List.map_nil,List.cons_append,List.nil_append,List.mem_cons,List.not_mem_nil,or_false]at hp
 rcases hp with rfl|rfl|rfl|rfl|rfl|rfl|rfl|rfl|rfl|rfl|rfl|rfl|rfl|rfl|rfl<;>exact Nat.succ_ne_zero _
end
section
variable [Sg]{P:Program}{K:Orc}{F:Nat->FuncId}{T:Nat->TypeId}
theorem acr (L0:LEnv P K F T (T 26)) (h50:Ty P (T 50) 13) {ih:bT} (hC:eL P K ih) {fn:Func} {c:Code} (hf:P.funcs[F 18]?=some fn) (hb:fn.body=some c) (hnt:fn.ntmps=135) (hres:fn.results.toList=[.tmp 2]) (hname:(fn.name == "runtime.NumGoroutine")=false)
  (j5:cc P 135 (spine 3 c).2=adM F T) (hK:∀args H,K (F 18) args H=none) {h0:FH} {H0:Heap} (hH:cj h0 H0) (hfr:xe h0.fr [] none) {z:Nat} (hpre:aeN P ih c z h0=true) {lv:AV} (hlv:VA rJ lv) {L:List (List AV)} (XV:lenOf lv=some L.length)
  (XW:∀i,i<L.length->∃x y z:Nat,x<=255/\y<=255/\z<=255/\L[i]?=some [.int .u8 (.ofNat x),.int .u8<|.ofNat y,.int .u8<|.ofNat z]) (XX:0<L.length->z=5/\(∃cap sl,lv=.slice (some ⟨0,0,0⟩) L.length cap sl 3)/\(HO.r true L 3).ok (some<|Sg.iK 0)) :
  ∃H' s' z0 EL D,CallsTo P K (F 18) [lv] H0 (.ptr<|some ⟨260,0,0⟩) H'/\Hp ⟨.lf,0⟩ s' H'/\aH 262 EL D (Dw t20++z0) s'/\RO 30 EL D/\(0<L.length->Has 0 (.r true L 3) z0):=by
 obtain⟨e0,iL,XN⟩:=sU (nt:=135) (.cons hlv .nil) (by omega)<|by simp
 obtain⟨E',H',ds',e',h',q1,q2,q3,q4,q5⟩:=ye (rd:=none) (ds:=[]) hC (spine 3 c).1 XN hH hfr hpre
 obtain⟨k1,q4⟩:=Bool.and_eq_true_iff.1 q4
 obtain⟨k2,q4⟩:=Bool.and_eq_true_iff.1 q4
 obtain⟨k3,q4⟩:=Bool.and_eq_true_iff.1 q4
 obtain⟨k5,q4⟩:=Bool.and_eq_true_iff.1 q4
 obtain⟨k6,k7⟩:=Bool.and_eq_true_iff.1 q4
 have hds:=adf q3 k7
 subst hds
 have hmem:=Dv q2 k1
 have e3':E'.get 3=some (.ptr<|some ⟨260,0,0⟩):=AH q1 k2 (λp hp=>by rw[List.mem_singleton.1 hp];exact Nat.le_of_ble_eq_true rfl) 3 _<|by simp
 obtain⟨a0,e0',v0⟩:=q1.slot 0<|by omega
 have ea0:=aaM k3 v0 hlv rfl rfl
 subst ea0
 have main:∀z0:SH,(∀b o,(b,o)∈z0->b=0/\b<H'.next/\o.ok (H'.get b))->z0.Pairwise (λp q=>p.1≠q.1)->(0<L.length->∃cap sl,a0=.slice (some ⟨0,0,0⟩) L.length cap sl 3/\Has 0 (.r true L 3) z0) ->
   ∃H3 s' z0 EL D,CallsTo P K (F 18) [a0] H0 (.ptr<|some ⟨260,0,0⟩) H3/\Hp ⟨.lf,0⟩ s' H3/\aH 262 EL D (Dw t20++z0) s'/\RO 30 EL D/\(0<L.length->Has 0 (.r true L 3) z0):=by
  intro z0 hz0 hzp mO
  have hp:Hp ⟨.lf,0⟩ (Dw aaa++z0) H':=by
   refine⟨Nat.zero_le _,?_,?_,λb hb=>absurd hb<|Nat.not_lt_zero _⟩
   ·intro b o hb
    rcases List.mem_append.1 hb with hb|hb
    ·exact hmem b o hb
    ·exact(hz0 b o hb).2
   ·refine List.pairwise_append.2 ⟨acI,hzp,?_⟩
    intro p hp q hq
    rw[(hz0 q.1 q.2 hq).1]
    exact abP p hp
  have hs:aH 262 [] d20 (Dw t20++z0) (Dw aaa++z0):=by
   have:=adv<|Dw t20++z0
   rw[show Dw aaa=(262,.r false [adu] 51)::(Dw abX++Dw t20)from rfl,List.cons_append,List.append_assoc]
   exact this
  have XO:En [(0,a0),(3,.ptr<|some ⟨260,0,0⟩)] E':=by
   intro i v hi
   simp only[lu]at hi
   split at hi
   ·rename_i h;cases hi;rw[<- h];exact e0'
   ·split at hi
    ·rename_i h;cases hi;rw[<- h];exact e3'
    ·cases hi
  obtain⟨xx,e'',Xu,H2,l',s',r1,r2,r3,r4⟩:=adY L0 h50 (aZ:=pn 372 4 11) (bE:=nilS) (c1:=8) (c2:=80) (c3:=20) (c4:=20) (t:=Dw t20++z0) (T:=T) (lv:=a0) (LL:=L) (Qn:=Kj) (Qe:=λ_=>Kj) (Qr:=λl ds s=>ds=[]/\∃EL D,aH 262 EL D (Dw t20++z0) s/\RO 30 EL D/\lk l 2=some (.ptr<|some ⟨260,0,0⟩))
   ⟨XV,λh=>by
    obtain⟨cap,sl,w1,w2⟩:=mO h
    exact⟨0,cap,sl,w1,.app w2⟩,XW⟩ .here hs aeV (λ_ _ h=>h) (λl2 s2 E2 D2 h1 h2 h3=>⟨rfl,E2,D2,h2,h1,h3⟩) (spine 3 c).2 j5 ⟨.lf,0⟩ E' H' XO hp
  have run:=q5 (spine 3 c).2 _ r1
  rw[ug]at run
  cases xx with
  | normal=>exact r4.elim
  | exit i=>exact r4.elim
  | ret=>
   obtain⟨rfl,EL,D,w1,w3,w4⟩:=r4
   refine⟨H2,s',z0,EL,D,CallsTo.enter (hK _ _) hf hb (by rw[hnt,hname];rfl) (by rw[hnt];exact iL) (by rw[hnt];exact run) (.inl rfl) ?_,r3,w1,w3,λh=>(mO h).choose_spec.choose_spec.2⟩
   have e8:resultOf P e'' H2 (.tmp 2)=some _:=r2 2 _ w4
   rw[hres]
   show(match aI (resultOf P e'' H2) [.tmp 2]with | some [v]=>some v | some vs=>some (.tuple vs) | none=>none)=_
   simp only[aI,e8]
 rcases Nat.eq_zero_or_pos L.length with h|h
 ·exact main [] (λb o hb=>nomatch hb) .nil<|λk=>by omega
 ·obtain⟨rfl,⟨cap,sl,hl⟩,hok⟩:=XX h
  have g0:=(q2.block 0<|by omega).DM (Nat.eq_of_beq_eq_true k5)
  rw[Nat.eq_of_beq_eq_true k6]at g0
  have hn:0<H'.next:=Nat.lt_of_le_of_lt (Nat.zero_le _) (hmem 262 _<|List.mem_cons_self ..).1
  refine main [(0,.r true L 3)] ?_ (List.pairwise_singleton ..)<|λ_=>⟨cap,sl,hl,.here⟩
  intro b o hb
  rw[List.mem_singleton]at hb
  cases hb
  exact⟨rfl,hn,by rw[g0];exact hok⟩
end
noncomputable def pre10 (P:Program)(ih:bT)(c c18:Code)(h0:FH)(z:Nat):Bool:=
 RE P 91 ih (spine 2 c).1 (λe h=>aec (atR 0 e) 0&&(aec (atR 1 e) 1&&((match h.fr.ds with | []=>true | _=>false)&&aeN P ih c18 z h)))
  (Ba [rJ,Ah] 0 cT) h0
section
variable [Sg]{P:Program}{K:Orc}{F:Nat->FuncId}{T:Nat->TypeId}
theorem abc (L0:LEnv P K F T (T 26)) (h50:Ty P (T 50) 13) {ih:bT} (hC:eL P K ih) {fn:Func} {c:Code} (hf:P.funcs[F 18]?=some fn) (hb:fn.body=some c) (hnt:fn.ntmps=135) (hres:fn.results.toList=[.tmp 2]) (hname:(fn.name == "runtime.NumGoroutine")=false)
  (j5:cc P 135 (spine 3 c).2=adM F T) (hK:∀args H,K (F 18) args H=none) {f8:FuncId} {fn8:Func} {c8:Code} (hf8:P.funcs[f8]?=some fn8) (hb8:fn8.body=some c8) (ae4:fn8.ntmps=91) (af9:fn8.results.toList=[.tmp 4]) (ae3:(fn8.name == "runtime.NumGoroutine")=false)
  (ae6:cc P 91 (spine 2 c8).2=.seq (.ops<|aeQ F) (adK F T)) (hK8:∀args H,K f8 args H=none) {h0:FH} {H0:Heap} (hH:cj h0 H0) (hfr:h0.fr=Kz) {z:Nat} (hpre:pre10 P ih c8 c h0 z=true) {x:Nat} (hx:x<=255) {lv:AV} (ha:VAs [rJ,Ah] [lv,.int .u8<|.ofNat x])
  {L:List (List AV)} (XV:lenOf lv=some L.length)
  (XW:∀i,i<L.length->∃x z y:Nat,x<=255/\z<=255/\y<=255/\L[i]?=some [.int .u8 (.ofNat x),.int .u8<|.ofNat z,.int .u8<|.ofNat y]) (XX:0<L.length->z=5/\(∃cap sl,lv=.slice (some ⟨0,0,0⟩) L.length cap sl 3)/\(HO.r true L 3).ok (some<|Sg.iK 0)) :
  ∃H',CallsTo P K f8 [lv,.int .u8<|.ofNat x] H0 (.bool true) H'/\(0<L.length->(HO.r true L 3).ok (H'.get 0)):=by
 obtain⟨e0,iL,XN⟩:=sU (nt:=91) ha (by omega)<|by simp
 obtain⟨E',H',ds',e',h',q1,q2,q3,q4,q5⟩:=ye (rd:=none) (ds:=[]) hC (spine 2 c8).1 XN hH (by rw[hfr];exact⟨rfl,(λD hD=>by cases hD),rfl⟩) hpre
 obtain⟨k3,q4⟩:=Bool.and_eq_true_iff.1 q4
 obtain⟨j3,q4⟩:=Bool.and_eq_true_iff.1 q4
 obtain⟨k7,ah9⟩:=Bool.and_eq_true_iff.1 q4
 have hds:=adf q3 k7
 subst hds
 obtain⟨a0,e0',v0⟩:=q1.slot 0<|by omega
 obtain⟨a1,Xv,v1⟩:=q1.slot 1<|by omega
 obtain⟨YG,aij⟩:VA rJ lv/\VA Ah (.int .u8<|.ofNat x):=by
  cases ha with
  | cons hv ha=>
   cases ha with
   | cons hw _=>exact⟨hv,hw⟩
 have ea0:=aaM k3 v0 YG rfl rfl
 have Xw:=aaM j3 v1 aij rfl rfl
 subst ea0 Xw
 obtain⟨H3,s3,z0,EL,D,w1,w2,w3,w5,w6⟩:=acr L0 h50 hC hf hb hnt hres hname j5 hK q2 q3 ah9 YG XV XW XX
 have hE7:En [(0,a0),(1,.int .u8<|.ofNat x)] E':=by
  intro i v hi
  simp only[lu]at hi
  split at hi
  ·rename_i h;cases hi;rw[<- h];exact e0'
  ·split at hi
   ·rename_i h;cases hi;rw[<- h];exact Xv
   ·cases hi
 have KO:WOa P K (aeQ F) E' [] H' ⟨.lf,0⟩ (λl ds s=>WP P K none 91 (adK F T) l ds s Kj (λ_=>Kj)<|ac3<|Dw t20++z0):=by
  refine WOa.r (.mv rfl) hE7<|WOa.cons (qu.call (fv:=.func (F 18) [] []) (vs:=[a0]) rfl ?_<|ki.func w1)<|WOa.of ?_ ((hE7.putO (some 13) _).putO (some 14) _) w2
  ·have hE8:=hE7.putO (some 13) a0
   simp only[aI,aG hE8 (x:=.tmp 13) (v:=a0) rfl]
  ·refine Wv rfl (Wn ?_)
   exact adL L0 h50 aaY hx .here (acq _) w3 w5<|cr rfl
 obtain⟨xx,e'',Xu,H2,l',s',r1,r2,r3,r4⟩:=KO.seq ae6
 have run:=q5 (spine 2 c8).2 _ r1
 rw[ug]at run
 cases xx with
 | normal=>exact r4.elim
 | exit i=>exact r4.elim
 | ret=>
  obtain⟨rfl,u4,hm⟩:=r4
  refine⟨H2,CallsTo.enter (hK8 _ _) hf8 hb8 (by rw[ae4,ae3];rfl) (by rw[ae4];exact iL) (by rw[ae4];exact run) (.inl rfl) ?_,λh=>(r3.has<|hm _ _<|.app<|w6 h).2⟩
  have e4:resultOf P e'' H2 (.tmp 4)=some (.bool true):=r2 4 _ u4
  rw[af9]
  show(match aI (resultOf P e'' H2) [.tmp 4]with | some [v]=>some v | some vs=>some (.tuple vs) | none=>none)=_
  simp only[aI,e4]
end
inductive C11 (F:Nat->FuncId):FuncId->List AV->Heap->AV->Heap->Prop
 | w (H:Heap):C11 F (F 17) [] H (.bool true) H
 | new (H:Heap) (p c m:Int):0<=p/\p<=2->0<=c/\c<=3->0<=m/\m<=1->C11 F (F 201) [.agg (evRow 1 p c 2 m qb)] H (iv 0) H
 | life (H:Heap) (p n:Int):0<=p/\p<=2->-24<=n/\n<=0->C11 F (F 201) [.agg (evRow 7 p 0 n 0 qb)] H (iv 0) H
 | hurt (H:Heap) (a n:Int):1<=a/\a<=1000000->0<=n/\n<=2->C11 F (F 201) [.agg (evRow 5 a 0 n 0 qb)] H (iv 0) H
 | hurt0 (H:Heap) (n:Int):0<=n/\n<=2->C11 F (F 201) [.agg (evRow 5 0 0 n 0 qb)] H (iv 2) H
 | empty (H:Heap) (p:Int):0<=p/\p<=2->C11 F (F 201) [.agg (evRow 24 p 0 0 0 qb)] H (iv 0) H
 | wait (H:Heap) (c o k a:Int):0<=c/\c<=2->0<=o/\o<=1000000->0<=k/\k<=3->0<=a/\a<=3->C11 F (F 201) [.agg (evRow 17 0 0 0 0 ⟨0,3,c,o,k,a⟩)] H (iv 0) H
 | lose (H:Heap) (p:Int):0<=p/\p<=2->C11 F (F 201) [.agg (evRow 23 p 0 0 0 qb)] H (iv 0) H
 | unwait (H:Heap) (a:Int):1<=a/\a<=1000000->C11 F (F 201) [.agg (evRow 18 a 0 0 0 qb)] H (iv 0) H
 | cease (H:Heap) (a:Int):1<=a/\a<=1000000->C11 F (F 201) [.agg (evRow 25 a 0 0 0 qb)] H (iv 0) H
 | move (H:Heap) (a:Int):1<=a/\a<=1000000->C11 F (F 201) [.agg (evRow 2 a 3 0 0 qb)] H (iv 0) H
 | win (H:Heap) (p:Int):0<=p/\p<=2->C11 F (F 201) [.agg (evRow 29 1 p 0 0 qb)] H (iv 0) H
 | draw (H:Heap):C11 F (F 201) [.agg (evRow 29 2 0 0 0 qb)] H (iv 0) H
def aeO:List AV->AV
 | [.agg (.int _ k::.int _ a::_)]=>if k=5/\a=0 then iv 2 else iv 0
 | _=>iv 0
theorem C11.uniq {F:Nat->FuncId}(hne:F 17≠F 201){f:FuncId}{args:List AV}{H:Heap}{v u:AV}{H' I:Heap}(h:C11 F f args H v H')(h2:C11 F f args H u I):u=v/\I=H':=by
 have key:∀{f:FuncId}{args:List AV}{H:Heap}{v:AV}{H':Heap},C11 F f args H v H'->H'=H/\((f=F 17/\v=.bool true)\/(f=F 201/\v=aeO args)):=by
  intro f args H v H' h
  have no:∀{k a:Int}{l:List AV},¬(k=5/\a=0)->iv 0=aeO [.agg (iv k::iv a::l)]:=λhh=>(if_neg hh).symm
  cases h with
  | w=>exact⟨rfl,.inl ⟨rfl,rfl⟩⟩
  | hurt _ a n h1 h2=>exact⟨rfl,.inr ⟨rfl,no<|λhh=>by omega⟩⟩
  | hurt0=>exact⟨rfl,.inr ⟨rfl,rfl⟩⟩
  | _=>exact⟨rfl,.inr ⟨rfl,no<|λhh=>absurd hh.1<|by decide⟩⟩
 have q1:=key h
 have q2:=key h2
 refine⟨?_,by rw[q2.1,q1.1]⟩
 rcases q1.2 with⟨e1,w1⟩|⟨e1,w1⟩<;>rcases q2.2 with⟨e2,w2⟩|⟨e2,w2⟩<;>first|(rw[w1,w2];done)|exact absurd (e1.symm.trans e2) hne|exact absurd (e2.symm.trans e1) hne
theorem says11 {P:Program}{F:Nat->FuncId}(hne:F 17≠F 201):aet P (orcOf (C11 F)) F:=by
 have known:∀{f:FuncId}{args:List AV}{w:AV},(∀H,C11 F f args H w H)->∀s,bB P (orcOf<|C11 F) f args s (λv s'=>v=w/\s'=s):=λh s=>
  bB.known (λH=>kG (h H) λu I h2=>C11.uniq hne (h H) h2) ⟨rfl,rfl⟩
 have nat:∀{p:Nat},p<3->(0:Int)<=.ofNat p/\(.ofNat p:Int)<=2:=λh=>⟨Int.natCast_nonneg _,Int.ofNat_le.2<|Nat.le_of_lt_succ h⟩
 exact{
  new:=λp c m s hp hc hm=>known (λH=>.new H _ _ _ (nat hp) ⟨Int.natCast_nonneg _,Int.ofNat_le.2<|Nat.le_of_lt_succ hc⟩<|by omega) s
  life:=λp n s hp h1 h2=>known (λH=>.life H _ _ (nat hp) ⟨h1,h2⟩) s
  hurt:=λa n s h1 h2 h3 h4=>known (λH=>.hurt H _ _ ⟨h1,h2⟩ ⟨h3,h4⟩) s
  hurt0:=λn s h3 h4=>known (λH=>.hurt0 H _ ⟨h3,h4⟩) s
  empty:=λp s hp=>known (λH=>.empty H _<|nat hp) s
  wait:=λc o k a s h1 h2 h3 h4=>known (λH=>.wait H _ _ _ _ h1 h2 h3 h4) s
  lose:=λp s hp=>known (λH=>.lose H _<|nat hp) s
  unwait:=λa s h1 h2=>known (λH=>.unwait H _ ⟨h1,h2⟩) s
  cease:=λa s h1 h2=>known (λH=>.cease H _ ⟨h1,h2⟩) s
  move:=λa s h1 h2=>known (λH=>.move H _ ⟨h1,h2⟩) s
  win:=λp s hp=>known (λH=>.win H _<|nat hp) s
  draw:=λs=>known (λH=>.draw H) s }
theorem orc11_w {F:Nat->FuncId}(hne:F 17≠F 201)(H:Heap):orcOf (C11 F) (F 17) [] H=some (.bool true,H):=kG (.w H) λu I h=>C11.uniq hne (.w H) h
theorem orc11_none {F:Nat->FuncId}{f:FuncId}(h1:f≠F 17)(h2:f≠F 201)(args:List AV)(H:Heap):orcOf (C11 F) f args H=none:=
 abS λu I h=>by cases h<;>first | exact h1 rfl | exact h2 rfl
theorem orc11_ok {P:Program}{F:Nat->FuncId}(kw:gW P (F 17) [] vu (.bool true) vu)
  (k:∀args v H,C11 F (F 201) args H v H->gW P (F 201) args vu v vu):OrcOk P (orcOf<|C11 F):=by
 refine DX λf args H v H' h=>?_
 have h0:=h
 cases h with
 | w=>exact kw.anywhere (λ_=>rfl) (λ_=>rfl) _
 | _=>exact(k _ _ _ h0).anywhere (λ_=>rfl) (λ_=>rfl) _
theorem evM [Sg]{a:AV}{vs:List V}{l:List AV}(t:VAs vs l):VAs (mkV a::vs) (a::l):=.cons (VA.mkV _) t
theorem evS [Sg]{i lo hi:Nat}{n:Int}{vs:List V}{l:List AV}(t:VAs vs l)(hn:Sg.num i=n:=by rfl)(hl:(lo:Int)-9223372036854775808<=n:=by omega)(hh:n<=(hi:Int)-9223372036854775808:=by omega)(he:hi<18446744073709551616:=by decide):VAs (symV i lo hi []::vs) (.int .i64 n::l):=.cons (VA.symV hn hl hh he λm hm=>by cases hm) t
theorem evV [Sg]{l:List V}{row:List AV}(h:VAs l row)(XF:row.length=13:=by rfl):VAs [vAgg (rowV l) 0 13] [.agg row]:=by
 have:=VA.ofList h<|by omega
 rw[XF]at this
 exact .cons this .nil
structure Trn11 (P:Program)(K:Orc)(F:Nat->FuncId)(T:Nat->TypeId)(f:FuncId)(fn:Func)(c:Code)(aa8:Func)(c18:Code)(R:iB)(n:Nat):Prop where
 mixed:P.follows .mixedOrders=true
 orc:OrcOk P K
 base:LEnv P K F T (T 26)
 t50:Ty P (T 50) 13
 rule:∀S:Sg,@Bh S R K
 func:P.funcs[f]?=some fn
 body:fn.body=some c
 nt:fn.ntmps=91
 res:fn.results.toList=[.tmp 4]
 name:(fn.name == "runtime.NumGoroutine")=false
 rest:cc P 91 (spine 2 c).2=.seq (.ops<|aeQ F) (adK F T)
 free:∀args H,K f args H=none
 func18:P.funcs[F 18]?=some aa8
 body18:aa8.body=some c18
 nt18:aa8.ntmps=135
 res18:aa8.results.toList=[.tmp 2]
 name18:(aa8.name == "runtime.NumGoroutine")=false
 rest18:cc P 135 (spine 3 c18).2=adM F T
 free18:∀args H,K (F 18) args H=none
 runQ:pre10 P (callF P R n) c c18 fhQ 0=true
 runP:pre10 P (callF P R n) c c18 fhP 5=true
section
variable {P:Program}{K:Orc}{F:Nat->FuncId}{T:Nat->TypeId}{f:FuncId}{fn:Func}{c:Code}{aa8:Func}{c18:Code}{R:iB}{n:Nat}
theorem trn11_none (hl:Trn11 P K F T f fn c aa8 c18 R n){wh:Int}(hw:0<=wh/\wh<=255){lv:AV}{x:Value}(hlv:lenOf lv=some 0)(ho:Opq lv)(hx:VR (λ_=>none) lv x)(w:World) :
  Calls P f #[x,.int .u8 wh] w λe w'=>e=.returned (.bool true)/\w.keptBut w' (λ_=>False):=by
 obtain⟨y,rfl⟩:=Int.eq_ofNat_of_zero_le hw.1
 letI:Sg:=mkSg (λ_=>0) (λi=>match i with | 0=>lv | 1=>.int .u8 (.ofNat y) | 2=>iv (.ofNat<|y%3) | _=>iv<|.ofNat<|y/3%10)<|λ_=>.deferred
 have ha:VAs [rJ,Ah] [lv,.int .u8<|.ofNat y]:=.cons (xV rfl ho)<|.cons (tN rfl Opq.U6) .nil
 obtain⟨H',⟨m,h1⟩,_⟩:=abc hl.base hl.t50 (kX P (hl.rule _) n) hl.func18 hl.body18 hl.nt18 hl.res18 hl.name18 hl.rest18 hl.free18 hl.func hl.body hl.nt hl.res hl.name hl.rest hl.free N6 rfl hl.runQ (by omega) ha (L:=[]) hlv (λi hi=>absurd hi<|Nat.not_lt_zero _)<|λh=>absurd h<|Nat.not_lt_zero _
 refine callsIn_wide.1<|CallsIn.mono (qO hl.mixed hl.orc (HR.one w) (args:=[lv,.int .u8<|.ofNat y]) (xs:=[x,.int .u8 (y:Int)]) ⟨_,_,hx,⟨_,_,rfl,rfl,rfl⟩,rfl⟩ h1).2 ?_
 rintro e w' ⟨y,rfl,g',_,hv,hh⟩
 have:y=.bool true:=hv
 subst this
 exact⟨rfl,pO (λk hk=>(hh.keep k 0 hk).2) hh.os.1 hh.os.2⟩
theorem trn11_some (hl:Trn11 P K F T f fn c aa8 c18 R n){wh:Int}(hw:0<=wh/\wh<=255){z q y:Nat->Int}(hz:∀i,0<=z i/\z i<=255)(hq:∀i,0<=q i/\q i<=255)(hy:∀i,0<=y i/\y i<=255){len cap:Nat}(hpos:0<len){w:World}{iK off:Nat}{cs:Array Value}{el:TypeId}{fz:Nat × Nat}
  (hc:w.heap[iK]?=some (.cells cs el fz)) (hcell:∀i,i<len->cs[off+i*3]?=some (.int .u8<|z i)/\cs[off+i*3+1]?=some (.int .u8<|q i)/\cs[off+i*3+2]?=some (.int .u8<|y i)) :
  Calls P f #[.slice (some ⟨iK,off,none⟩) len cap,.int .u8 wh] w λe w'=>e=.returned (.bool true)/\w.keptBut w' (λ_=>False):=by
 obtain⟨x0,rfl⟩:=Int.eq_ofNat_of_zero_le hw.1
 obtain⟨T',qY⟩:=em<|(List.range len).map λi=>[AV.int .u8 (z i),AV.int .u8<|q i,AV.int .u8<|y i]
 have T7:∀i,i<len->((List.range len).map λi=>[AV.int .u8 (z i),AV.int .u8<|q i,AV.int .u8<|y i])[i]?=some [AV.int .u8 (z i),AV.int .u8<|q i,AV.int .u8<|y i]:=λi hi=>by
  rw[List.getElem?_map,List.getElem?_range hi];rfl
 have hT:∀i,i<len->T'.get i=some [AV.int .u8 (z i),AV.int .u8<|q i,AV.int .u8<|y i]:=λi hi=>by rw[cB qY,T7 i hi]
 have IH:((List.range len).map λi=>[AV.int .u8 (z i),AV.int .u8<|q i,AV.int .u8<|y i]).length=len:=by rw[List.length_map,List.length_range]
 letI:Sg:=mkSg (λ_=>0) (λi=>match i with | 0=>.slice (some ⟨0,0,0⟩) len cap false 3 | 1=>.int .u8 (.ofNat x0) | 2=>iv (.ofNat<|x0%3) | _=>iv<|.ofNat<|x0/3%10)<|λ_=>.rows T' len 3 true
 have ha:VAs [rJ,Ah] [.slice (some ⟨0,0,0⟩) len cap false 3,.int .u8<|.ofNat x0]:=.cons (xV rfl .slice)<|.cons (tN rfl Opq.U6) .nil
 obtain⟨H',⟨m,h1⟩,h2⟩:=abc hl.base hl.t50 (kX P (hl.rule _) n) hl.func18 hl.body18 hl.nt18 hl.res18 hl.name18 hl.rest18 hl.free18 hl.func hl.body hl.nt hl.res hl.name hl.rest hl.free N5 rfl hl.runP (by omega) ha (L:=(List.range len).map λi=>[AV.int .u8 (z i),AV.int .u8<|q i,AV.int .u8<|y i])
  (by rw[IH];rfl) (λi hi=>by
   rw[IH]at hi
   have g1:=hz i
   have g2:=hy i
   have g3:=hq i
   have e1:z i=.ofNat (z i).toNat:=(Int.toNat_of_nonneg g1.1).symm
   have e2:y i=.ofNat (y i).toNat:=(Int.toNat_of_nonneg g2.1).symm
   have e3:q i=.ofNat (q i).toNat:=(Int.toNat_of_nonneg g3.1).symm
   exact⟨(z i).toNat,(q i).toNat,(y i).toNat,by omega,by omega,by omega,by rw[T7 i hi,<- e1,<- e2,<- e3]⟩)
  (λ_=>⟨rfl,⟨cap,false,by rw[IH]⟩,T',by rw[IH];rfl,λi row hi=>by
   have hlt:i<len:=by
    have:=(List.getElem?_eq_some_iff.1 hi).1
    rw[IH]at this;exact this
   rw[T7 i hlt]at hi
   cases hi
   exact⟨hT i hlt,rfl⟩⟩)
 obtain⟨t,h3,h4⟩:=h2 (by rw[IH];exact hpos)
 rw[IH]at h3
 have hHR:HR ⟨λk _=>k<w.heap.size/\k≠iK,λ_=>False⟩ w (gB iK off 0 3<|.cells cs el fz) (Su<|.rows T' len 3 true) w:=by
  have only:∀b o,(Su<|.rows T' len 3 true).get b=some o->b=0/\o=.rows T' len 3 true:=by
   intro b o hb
   rw[xf]at hb
   split at hb
   ·rename_i e;cases hb;exact⟨e.symm,rfl⟩
   ·cases hb
  refine⟨?_,?_,?_,?_,λk _ hk=>⟨hk.1,rfl⟩,Nat.le_refl _,⟨rfl,rfl⟩,λb hb=>hb.elim,λk t h=>h,λb o d hb hw hd=>by obtain⟨_,rfl⟩:=only b o hb;cases hw⟩
  ·intro b o hb
   obtain⟨rfl,rfl⟩:=only b o hb
   refine⟨⟨iK,off,0,3,some<|.cells cs el fz⟩,rfl,?_⟩
   refine⟨rfl,cs,el,fz,hc,hc,trivial,λi row hi ht=>?_⟩
   rw[hT i hi]at ht
   cases ht
   refine⟨rfl,λj v hj=>?_⟩
   match j,hj with
   | 0,hj=>cases hj;exact⟨_,(hcell i hi).1,rfl,rfl⟩
   | 1,hj=>cases hj;exact⟨_,(hcell i hi).2.1,rfl,rfl⟩
   | 2,hj=>cases hj;exact⟨_,(hcell i hi).2.2,rfl,rfl⟩
  ·intro b b' o o' d d' hb hb' _ _ _
   rw[(only b o hb).1,(only b' o' hb').1]
  ·intro b hb
   have hb:1<=b:=hb
   exact if_neg<|by omega
  ·intro b o d hb _ hd
   obtain⟨rfl,_⟩:=only b o hb
   have hd:some (⟨iK,off,0,3,some<|.cells cs el fz⟩:Gd)=some d:=hd
   cases hd
   exactλk=>k.2 rfl
 refine callsIn_wide.1<|CallsIn.mono (qO hl.mixed hl.orc hHR (args:=[.slice (some ⟨0,0,0⟩) len cap false 3,.int .u8<|.ofNat x0]) (xs:=[.slice (some ⟨iK,off,none⟩) len cap,.int .u8 (x0:Int)]) ⟨_,_,⟨_,rfl,λ_=>⟨rfl,rfl⟩,by simp[gX]⟩,⟨_,_,rfl,rfl,rfl⟩,rfl⟩ h1).2 ?_
 rintro e w' ⟨y,rfl,g',hle,hv,hh⟩
 have:y=.bool true:=hv
 subst this
 refine⟨rfl,pO (λk hk=>?_) hh.os.1 hh.os.2⟩
 by_cases hkb:k=iK
 ·subst hkb
  obtain⟨d,hd,X8⟩:=hh.obj 0 _ h3
  have:=hle 0 ⟨k,off,0,3,some<|.cells cs el fz⟩ rfl
  rw[hd]at this
  cases this
  obtain⟨_,_,_,_,_,e2,_⟩:=X8
  have e2:w'.heap[k]?=some (.cells cs el fz):=e2
  rw[e2,hc]
 ·exact(hh.keep k 0 ⟨hk,hkb⟩).2

end
end Go.Ev
