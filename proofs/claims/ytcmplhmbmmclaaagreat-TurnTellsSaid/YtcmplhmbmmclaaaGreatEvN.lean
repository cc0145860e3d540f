/- Walks and rules. Conditions: none. -/
import Derived.Test.YtcmplhmbmmclaaaGreatEvM
import Derived.Test.YtcmplhmbmmclaaaGreatEvK
set_option linter.unusedVariables false
set_option linter.unusedSectionVars false
namespace Go.Ev
section
variable {P:Program}{K:Orc}{rd:Option Nat}{nt:Nat}{l:Sl}{ds:List aD}{s:SH}{Q Qn Qr:Po}{Qe:Nat->Po}{F:Nat->FuncId}{T:Nat->TypeId}{bf bl:Nat}{aZ bE:AV}{c0 c1 c2 c3 c4:Int}{EL:List (List AV)}{d:SD}{t:SH}
theorem aH.split (h:aH bl EL d t s):∃u,s.Perm (u++t)/\∀t',aH bl EL d t' (u++t'):=by
 obtain⟨sc,lv,pv,ov,eo,hv,gv,ev,fv,sv,wv,oL,nn,k1,k2,k3,k4⟩:=h
 exact⟨(bl,.r false [sc++([lv]++(d.cells pv ov eo hv gv ev fv sv wv++[]))] 51)::(oL++nn),ak λc w h0 h1 h2 hq=>by simp only[h1,h2,hq _ _ k1];omega,λt'=>⟨sc,lv,pv,ov,eo,hv,gv,ev,fv,sv,wv,oL,nn,ak λc w h0 h1 h2 hq=>by simp only[h1,h2];omega,k2,k3,k4⟩⟩
theorem aH.tT {t':SH}(h:aH bl EL d t s)(hp:t.Perm t'):aH bl EL d t' s:=by
 obtain⟨sc,lv,pv,ov,eo,hv,gv,ev,fv,sv,wv,oL,nn,k1,k2,k3,k4⟩:=h
 exact⟨sc,lv,pv,ov,eo,hv,gv,ev,fv,sv,wv,oL,nn,ak λc w h0 h1 h2 hq=>by simp only[h1,h2,hq _ _ k1,hq _ _ hp],k2,k3,k4⟩
theorem c6.perm {f:AV}{args:List AV}{s s':SH}{R:AV->SH->Prop}(hp:s.Perm s')(h:c6 P K f args s R):c6 P K f args s' R:=
 λH0 H hH=>h H0 H<|hH.perm hp.symm
theorem c6.canon {f:AV}{args:List AV}{R:AV->SH->Prop}(h:c6 P K f args s (λv s'=>∃s'',s'.Perm s''/\R v s'')):c6 P K f args s R:=by
 intro H0 H hH
 obtain⟨v,s',H',h1,h2,s'',h3,h4⟩:=h H0 H hH
 exact⟨v,s'',H',h1,h2.perm h3,h4⟩
def K9 (P:Program)(K:Orc)(bl:Nat)(EL:List (List AV))(d:SD)(f:FuncId)(cap:List AV)(t:SH)(out:List TG):Prop:=
 ∀y J L0 t' s',L0.length<=3000->SA P K bl EL d y J->(∀L t2,J L t2->∀q∈t,q∈t2)->J L0 t'->aH bl EL d t' s'->bB P K f (y::cap) s' (λ_ s''=>∃t'',aH bl EL d t'' s''/\J (L0++out) t'')
def lR (P:Program)(K:Orc)(bl:Nat)(EL:List (List AV))(d:SD)(T0:SH)(fv:AV)(out:List TG):Prop:=
 ∀fr t s,(∀q∈T0,q∈t)->aH bl EL d (fr++t) s->c6 P K fv [] s (λv s'=>∃f cap m,v=.func f [] cap/\aH bl EL d (m++(fr++t)) s'/\K9 P K bl EL d f cap (m++t) out)
def Lr:AC:=(.ops [zo 12 (.alloc 2 [(za 0),(za 0)]),zn (.store 2 12 50)])
def Lt:AC:=(.block 3 (.ops [zl 51 9,zo 52 (.load true 2 12),zo 53 (.bslice 2 1 [(za 0),(za 0)] [⟨0,52⟩]),zo 54 (.append 2 16 51 53),zn (.store 1 9 54)]))
def Te:AC:=(oN [zo 45 (.arith .lss 44 43)] (.seq (.cond 45 .skip (.exit 0)) (.seq (.block 1 (oN [zo 46 (.iaddrS 1 42 44),zl 47 46,zm 11 47] (oN [zm 48 11,zo 49 (.call 48 [])] (.block 2 (.rf 49 [50] Lr Lt))))) (.ops [zo 55 (.arith .add 44 (zc 1)),zm 44 55]))))
def Lu:AC:=(oN [zl 56 9,zm 6 56] .ret)
inductive GrE (sz:Nat):AV->List (List AV)->SH->Prop
 | nil {rw:Nat}:GrE sz (.slice none 0 0 false rw) [] []
 | rows {b:Nat} {L:List (List AV)} (hL:L≠[]):GrE sz (.slice (some ⟨b,0,0⟩) L.length L.length true sz) L [(b,.r false L sz)]
theorem GrE.gr {sz:Nat}{v:AV}{L:List (List AV)}{o:SH}(h:GrE sz v L o):Gr sz v L o:=by
 cases h with
 | nil=>exact .nil
 | @rows b L hL=>
  have:=Gr.rows (b:=b) (sz:=sz) (L:=L) (T:=[]) rfl rfl<|List.length_pos_iff.2 hL
  rw[List.append_nil]at this
  exact this
theorem GrE.out {sz:Nat}{v:AV}{L:List (List AV)}{o:SH}(h:GrE sz v L o):gz o sz v L:=h.gr.out
theorem WS.aay {P:Program}{K:Orc}{l:Sl}{ds:List aD}{R:AV->List aD->SH->Prop}{sz bytes:Nat}{ss x:Operand}{sv xv:AV}{L N:List (List AV)}{m o t:SH}(hs:cr l ss=some sv)(ho:GrE sz sv L o)(hx:cr l x=some xv)(hN:Src (m++(o++t)) sz xv N)(hz:sz≠0)(h1:L.length+N.length<=901000)(h2:bytes<=100000)
  (k:∀v o' j,GrE sz v (L++N) o'->R v ds (o'++(m++(j++t)))):WS P K (.append sz bytes ss x) l ds (m++(o++t)) R:=by
 cases ho with
 | nil=>
  by_cases hN0:N=[]
  ·subst hN0
   exact WS.append_none hs hx hN hz (Nat.le_refl _)<|k _ [] [] .nil
  ·refine WS.append_nil (c:=0) hs hx hN hz hN0 (by simpa using h1) h2 λb=>?_
   exact k _ [(b,.r false N sz)] []<|.rows hN0
 | @rows b L hL=>
  by_cases hN0:N=[]
  ·subst hN0
   have:=k _ [(b,.r false L sz)] [] (by rw[List.append_nil];exact .rows hL)
   exact WS.perm<|WS.append_none hs hx hN hz (Nat.le_refl _) ⟨_,ak λc w h0 h1 h2 hq=>by simp only[h1,h2,h0];omega,this⟩
  ·refine WS.uN hs rfl (.app .here) hx hN hz hN0 h1 h2 λb'=>?_
   have:=k (.slice (some ⟨b',0,0⟩) (L.length+N.length) (L.length+N.length) true sz) [(b',.r false (L++N) sz)] [(b,.bK)] (by rw[<- List.length_append];exact .rows<|by simp[hL])
   exact this
def Coll (lb D:Nat)(lp:HO)(b9:Nat)(W:SH)(L:List TG)(t:SH):Prop:=
 ∃lv og j,t.Perm ((lb,lp)::(b9,.r false [[lv]] 1)::(og++(j++W)))/\GrE 2 lv (yu L) og
theorem BX {lb D b9:Nat}{l:Sl}{asg body:Code}{W:SH}(ha:cc P 57 asg=Lr)(hb:cc P 57 body=Lt)(h9:lk l 9=some (.ptr (some ⟨b9,0,0⟩))) :
  SA P K bl EL d (.yield lb) (Coll lb D (.lp l 57 [50] asg body .ready none D) b9 W):=by
 refine⟨λL t s x m hL hJ hs=>?_⟩
 obtain⟨lv,og,j,hp,hG⟩:=hJ
 obtain⟨u,hu,hback⟩:=hs.split
 refine c6.perm (s:=(lb,.lp l 57 [50] asg body .ready none D)::(u++(m++((b9,.r false [[lv]] 1)::(og++(j++W)))))) (ak λc w h0 h1 h2 hq=>by have:=hq _ _ hu;simp only[h1,h2,hq _ _ hp]at this |-;omega)<|c6.canon ?_
 refine AU (by omega) ha hb ?_
 unfold Lr Lt
 refine Wo<|Wa (.alloc rfl) λNQ=>Ww<|Wt (s':=(NQ,.r false [x.row] 2)::_) rfl rfl rfl .here rfl rfl<|Wn ⟨(NQ,.r false [x.row] 2)::(u++(m++((b9,.r false [[lv]] 1)::(og++(j++W))))),List.Perm.swap ..,?_⟩
 refine Wb<|Wo<|Wl (v:=lv) h9 (.there<|.there<|.app<|.app .here) rfl rfl rfl<|Wl rfl (.there .here) rfl rfl rfl<|Wa (.bslice (L:=[x.row]) rfl rfl) λR6=>?_
 refine Ww<|WS.pre (s':=((R6,.r false [x.row] 2)::(lb,.lp l 57 [50] asg body .busy none D)::(NQ,.r false [x.row] 2)::(b9,.r false [[lv]] 1)::(u++m))++(og++(j++W))) (ak λc w h0 h1 h2 hq=>by simp only[h1,h2];omega)<|WS.aay (xv:=.slice (some ⟨R6,0,0⟩) 1 1 false 2) rfl hG rfl (Src.all (L:=[x.row]) .here) (by decide) (by simp only[yu,List.length_map,List.length_cons,List.length_nil];omega) (by decide) λnw A9 jk xB=>?_
 refine Ww<|Wt (s':=A9++((R6,.r false [x.row] 2)::(lb,.lp l 57 [50] asg body .busy none D)::(NQ,.r false [x.row] 2)::(b9,.r false [[nw]] 1)::(u++m)++(jk++(j++W)))) (row':=[nw]) h9 rfl xB.out.src.part (.app<|.there<|.there<|.there .here) rfl rfl<|Wn ?_
 refine⟨A9++((R6,.r false [x.row] 2)::(NQ,.r false [x.row] 2)::(b9,.r false [[nw]] 1)::(u++m)++(jk++(j++W))),ak λc w h0 h1 h2 hq=>by simp only[h1,h2];omega,u++(m++((lb,.lp l 57 [50] asg body .ready none D)::(b9,.r false [[nw]] 1)::(A9++(((R6,.r false [x.row] 2)::(NQ,.r false [x.row] 2)::(jk++j))++W)))),ak λc w h0 h1 h2 hq=>by simp only[h1,h2];omega,rfl,_,hback _,nw,A9,(R6,.r false [x.row] 2)::(NQ,.r false [x.row] 2)::(jk++j),.refl _,?_⟩
 simpa[yu]using xB
theorem fW {T0 t0:SH}{b9:Nat}{v:AV}{fs:List (AV × List TG)}{Qn0:Po}{Qe0:Nat->Po}{R:AV->SH->Prop}(hv:Src t0 1 v (fs.map λx=>[x.1]))(Uu:∀x∈fs,lR P K bl EL d T0 x.1 x.2)(qY:∀q∈T0,q∈t0)(hn:fs.length<=1000)(Y3:(fs.flatMap (·.2)).length<=3000)
  (hs:aH bl EL d ((b9,.r false [[nilS]] 1)::t0) s) (hR:∀w s' o m,aH bl EL d (o++(m++t0)) s'->GrE 2 w (yu (fs.flatMap (·.2))) o->R w s') (hl:∀i x,lk [(9,.ptr<|some ⟨b9,0,0⟩),(42,v),(43,iv<|.ofNat fs.length),(44,iv 0)] i=some x->lk l i=some x) :
  WP P K none 57 (.block 0<|.loop Te) l [] s (λl ds s=>WP P K none 57 Lu l ds s Qn0 Qe0<|Bi P [.tmp 6] R) Qe (Bi P [.tmp 6] R):=by
 refine Wb ?_
 unfold Te
 refine Wp (λk l ds s'=>∃q Ds lv og j,k=fs.length-q/\q<=fs.length/\ds=Ds.map aD.mark/\aH bl EL d (Ds.map (λD=>(D,HO.ob .deferred))++((b9,.r false [[lv]] 1)::(og++(j++t0)))) s'/\GrE 2 lv (yu ((fs.take q).flatMap (·.2))) og /\
   ∀i x,lk [(9,.ptr (some ⟨b9,0,0⟩)),(42,v),(43,iv (.ofNat fs.length)),(44,iv (.ofNat q))] i=some x->lk l i=some x) ?_ (n:=fs.length-0)
  ⟨0,[],nilS,[],[],rfl,Nat.zero_le _,rfl,hs,.nil,hl⟩
 rintro k l ds s' ⟨q,Ds,lv,og,j,rfl,hq,rfl,hs',hG,hl⟩
 refine Wg hl (λ_ _ h=>h) ?_
 refine Wq<|Wj rfl rfl rfl<|Wn<|Ws<|Wd rfl (λht=>?_)<|λht=>?_
 ·have hlt:q<fs.length:=bh.1 ht
  have hx:fs[q]?=some fs[q]:=List.getElem?_eq_getElem hlt
  have KP:fs[q]∈fs:=List.getElem_mem _
  generalize fs[q]=x at hx KP
  have gc:(fs.take<|q+1).flatMap (·.2)=(fs.take q).flatMap (·.2)++x.2:=by rw[List.take_add_one,hx,List.flatMap_append];simp
  have hlen:((fs.take q).flatMap (·.2)).length<=3000:=by
   refine Nat.le_trans ?_ Y3
   conv=>rhs;rw[<- List.take_append_drop q fs,List.flatMap_append,List.length_append]
   omega
  obtain⟨ba,ra,na,ca,J5,Sp,Ma,rfl,hba,me,gH⟩:=hv.at (i:=q)<|by simpa using hlt
  have eE:Ma[ra+q]?=some [x.1]:=by rw[gH];simp only[List.getElem?_map,hx];rfl
  refine Wi<|Ws<|Wb<|Wq<|Wr (.iaddrS rfl rfl me<|by decide)<|Wl (v:=x.1) rfl (hs'.mem<|.app<|.there<|.app<|.app hba) eE rfl rfl<|Wv rfl<|Wn ?_
  refine Wq<|Wv rfl<|Ww<|WS.call (vs:=[]) rfl rfl (Uu x KP (Ds.map (λD=>(D,HO.ob .deferred))++((b9,.r false [[lv]] 1)::(og++j))) t0 s' qY<|hs'.tT (ak λc w h0 h1 h2 hq=>by simp only[h1,h2];omega)) ?_
  rintro w s2 ⟨f,cap,m,rfl,dt,hI⟩
  refine Wn<|Wb<|Wg (l':=[(9,.ptr<|some ⟨b9,0,0⟩),(42,.slice (some ⟨ba,ra,0⟩) na ca J5 1),(43,iv<|.ofNat fs.length),(44,iv<|.ofNat q),(49,.func f [] cap)]) (cM rfl) (λ_ _ h=>h)<|WP.rf (first:=[]) (cap:=cap) rfl λasg body X4 Ct D lb=>?_
  have gw:=(dt.cons (p:=(D,.ob .deferred))).cons (p:=(lb,.lp [(9,.ptr<|some ⟨b9,0,0⟩),(42,.slice (some ⟨ba,ra,0⟩) na ca J5 1),(43,iv<|.ofNat fs.length),(44,iv<|.ofNat q),(49,.func f [] cap)] 57 [50] asg body .ready none D))
  have hY:=BX (bl:=bl) (EL:=EL) (d:=d) (lb:=lb) (D:=D) (W:=(D,.ob .deferred)::(Ds.map (λD=>(D,HO.ob .deferred))++(m++(j++t0)))) (P:=P) (K:=K) X4 Ct (b9:=b9) (l:=[(9,.ptr<|some ⟨b9,0,0⟩),(42,.slice (some ⟨ba,ra,0⟩) na ca J5 1),(43,iv<|.ofNat fs.length),(44,iv<|.ofNat q),(49,.func f [] cap)]) rfl
  refine bB.canon ((hI (.yield lb) _ ((fs.take q).flatMap (·.2)) _ _ hlen hY ?_ ⟨lv,og,[],?_,hG⟩ gw).post ?_)
  ·rintro L t2 ⟨nw,A9,j2,Gu,_⟩ q hq
   refine Gu.mem_iff.2 ?_
   simp only[List.mem_append,List.mem_cons]at hq |-
   rcases hq with hq|hq
   ·exact .inr<|.inr<|.inr<|.inr<|.inr<|.inr<|.inl hq
   ·exact .inr<|.inr<|.inr<|.inr<|.inr<|.inr<|.inr<|.inr hq
  ·exact ak λc w h0 h1 h2 hq=>by simp only[h1,h2,h0];omega
  ·rintro _ s4 ⟨t4,pM,nw,A9,j2,Gu,xB⟩
   obtain⟨s5,hp5,tn⟩:=(pM.tT Gu).first
   refine⟨_,hp5,_,.ready,none,s5,rfl,(λh=>LoopState.noConfusion h),?_⟩
   refine Wo<|Wj rfl rfl (bM<|by omega)<|Wv rfl<|Wn ?_
   refine⟨fs.length-(q+1),by omega,q+1,D::Ds,nw,A9,j2++(m++j),rfl,hlt,rfl,aH.bK (m:=[_])<|tn.tT (ak λc w h0 h1 h2 hq=>by simp only[h1,h2,List.map_cons,List.cons_append];omega),by rw[gc];exact xB,cM rfl⟩
 ·refine Wx ?_
  have:q=fs.length:=by
   have:¬q<fs.length:=λh=>by rw[fw,show Nat.blt q fs.length=true from bh.2 h]at ht;cases ht
   omega
  subst this
  rw[List.take_length]at hG
  show WP P K none 57 Lu _ _ _ _ _ _
  unfold Lu
  obtain⟨u,hu,hback⟩:=hs'.split
  refine Wq<|Wl rfl (hs'.mem<|.app .here) rfl rfl rfl<|Wv rfl<|Wn<|We ?_
  refine⟨Ds,u++((b9,.r false [[lv]] 1)::(og++(j++t0))),rfl,ak λc w h0 h1 h2 hq=>by rw[hq _ _ hu];simp only[h1,h2];omega,[lv],.tmp rfl .nil,hR _ _ og ((b9,.r false [[lv]] 1)::j) (aH.bK ?_) hG⟩
  have:=hback<|(b9,.r false [[lv]] 1)::(og++(j++t0))
  exact this.tT (ak λc w h0 h1 h2 hq=>by simp only[h1,h2];omega)
def uY (g:ED->CH->CH)(d:SD)(C:List CD)(id:Int):Option CH:=
 match d.onF C id with
 | none=>none
 | some (o,c)=>if c.kind=2 then some (tK g ⟨c.power,c.qn,c.keys⟩<|qy d C o)else none
structure nG (P:Program)(K:Orc)(F:Nat->FuncId)(g:ED->CH->CH)(d:SD)(C:List CD):Prop where
 ok:nF d C
 step:∀o,∀e∈qy d C o,lQ P K F g e
 any:∀o(c:CH)R,R.Perm (qy d C o)->tK g c R=tK g c (qy d C o)
def rH (k:Int):Bool:=match binV .and (iv k) (iv 32)with | some (.int _ n)=>decide (n=0) | _=>false
def gY (g:ED->CH->CH)(d:SD)(C:List CD)(aQ:Int)(o:OD):Bool:=match uY g d C o.id with | some x=>decide (o.aQ=aQ)||rH x.k | none=>false
def wq (g:ED->CH->CH)(d:SD)(C:List CD)(aQ:Int)(o:OD):Bool:=match uY g d C o.id with | some _=>decide (o.aQ=aQ) | none=>false
def jf (C:List CD)(o:OD):Bool:=match C[o.gE.toNat]? with | some c=>decide (c.kind=4) | none=>false
theorem Tl (a b:Int):∃n,binV .and (iv a) (iv b)=some (iv n):=by
 show∃n,bits .and .i64 a b=some (iv n)
 unfold bits
 split
 ·split
  ·exact⟨_,aL _ _⟩
  ·exact⟨_,rfl⟩
 ·exact⟨_,rfl⟩
theorem qq.val {g:ED->CH->CH}{C:List CD}{id:Int}{v:AV}(h:qq g d C id v)(hO:nG P K F g d C):v=match uY g d C id with | some x=>.tuple [.agg x.row,.bool true] | none=>.tuple [.agg (⟨0,0,0⟩:CH).row,.bool false]:=by
 unfold uY
 rcases h with⟨o,c,R,h1,h2,_,_,h3,rfl⟩|⟨h1,rfl⟩
 ·rw[h1]
  simp only[if_pos h2,hO.any o _ R h3]
 ·cases ho:d.onF C id with
  | none=>rfl
  | some p=>
   obtain⟨o,c⟩:=p
   simp only[if_neg (h1 o c ho)]
theorem pE (hB:Base P K F T)(hC:BaseC P K F T)(hT:TyC P T){g:ED->CH->CH}{C:List CD}{id:Int}(hs:aH bl EL d t s)(hd:d.Small)(hf:Has bf (.r false [bu bl aZ c0 c1 c2 c3 c4 bE] 8) t)(eQ:cI t aZ C)(hO:nG P K F g d C) :
  bB P K (F 30) [.ptr (some ⟨bf,0,0⟩),iv id] s (λv s'=>v=(match uY g d C id with | some x=>.tuple [.agg x.row,.bool true] | none=>.tuple [.agg (⟨0,0,0⟩:CH).row,.bool false])/\aH bl EL d t s'):=
 (BT hB hC hT hs hd hf eQ hO.ok hO.step).post λv s'⟨h1,h2⟩=>⟨h1.val hO,h2⟩
theorem vE (hB:Base P K F T)(hC:BaseC P K F T)(hG:BaseG P K F T)(hT:TyC P T){tF:TypeId}(hM:gA P F tF){g:ED->CH->CH}{C:List CD}{o:OD}{b1:Nat}{aQ:Int}(hs:aH bl EL d t s)(hd:d.Small)(hf:Has bf (.r false [bu bl aZ c0 c1 c2 c3 c4 bE] 8) t)(h1:Has b1 (.r false [[.iface tF (.ptr (some ⟨bf,0,0⟩)),iv aQ]] 2) t)(eQ:cI t aZ C)(hO:nG P K F g d C) :
  bB P K (F 115) [.agg o.row,.ptr<|some ⟨b1,0,0⟩] s (λv s'=>v=.bool (gY g d C aQ o)/\aH bl EL d t s'):=by
 refine hG.f115.cF (by simp) ?_
 unfold SG
 refine Wq<|Wa (.box rfl rfl) λb2=>Wv rfl<|Wn ?_
 have nr:aH bl EL d ((b2,.r false [o.row] 14)::t) ((b2,.r false [o.row] 14)::s):=hs.cons
 refine Wq<|Wf rfl<|Wl rfl (.there<|hs.mem h1) rfl rfl rfl<|Wf rfl<|Wl rfl .here rfl rfl rfl<|Ww<|WS.invoke (vs:=[iv o.id]) rfl hM.chars rfl (pE hB hC hT nr hd (.there hf) (eQ.mono λp hp=>by simp[hp]) hO) ?_
 rintro w s2 ⟨rfl,dt⟩
 unfold gY
 cases hc:uY g d C o.id with
 | none=>
  refine Wv rfl<|Wr (.extract rfl rfl)<|Wr (.extract rfl rfl)<|Wa (.alloc rfl) λb4=>Ww<|Wt rfl rfl rfl .here rfl rfl<|Wv rfl<|Wn ?_
  refine Wq<|Wv rfl<|Wv rfl<|Wk rfl rfl<|Wk rfl rfl<|Wk rfl rfl<|Wk rfl rfl<|Wk rfl rfl<|Wk rfl rfl<|Wu rfl<|Wu rfl<|Wu rfl<|Wu rfl<|Wk rfl rfl<|Wr (.bj rfl rfl)<|Wv rfl<|Wn<|We<|Wm (.tmp rfl .nil) ?_
  exact⟨rfl,aH.bK (m:=[_]) dt.tail⟩
 | some x=>
  obtain⟨n,hn⟩:=Tl x.k 32
  have hw:rH x.k=decide (n=0):=by unfold rH;rw[hn]
  refine Wv rfl<|Wr (.extract rfl rfl)<|Wr (.extract rfl rfl)<|Wa (.alloc rfl) λb4=>Ww<|Wt (s':=(b4,.r false [x.row] 3)::_) rfl rfl rfl .here rfl rfl<|Wv rfl<|Wn ?_
  refine Wq<|Wv rfl<|Wv rfl<|Wy rfl rfl<|Wf rfl<|Wy rfl rfl<|Wl rfl (.there<|dt.mem .here) rfl rfl rfl<|Wy rfl rfl<|Wf rfl<|Wy rfl rfl<|Wl rfl (.there<|dt.mem<|.there h1) rfl rfl rfl<|Wy rfl rfl<|Wh rfl rfl (dM _ _)<|Wy rfl rfl<|Wv rfl ?_
  cases Sc:decide (o.aQ=aQ) with
  | true=>
   refine Wk rfl rfl<|Wk rfl rfl<|Wk rfl rfl<|Wk rfl rfl<|Wy rfl rfl<|Wr (.cV rfl rfl)<|Wr (.cV rfl rfl)<|Wv rfl<|Wn<|We<|Wm (.tmp rfl .nil) ?_
   exact⟨rfl,aH.bK (m:=[_]) dt.tail⟩
  | false=>
   refine Wy rfl rfl<|Wf rfl<|Wy rfl rfl<|Wl rfl .here rfl rfl rfl<|Wy rfl rfl<|Wj rfl rfl hn<|Wy rfl rfl<|Wh rfl rfl (dM _ _)<|Wy rfl rfl<|Wr (.bj rfl rfl)<|Wr (.cV rfl rfl)<|Wv rfl<|Wn<|We<|Wm (.tmp rfl .nil) ?_
   exact⟨by show _=AV.bool (false||rH x.k);rw[hw];rfl,aH.bK (m:=[_]) dt.tail⟩
theorem C3 (hB:Base P K F T)(hC:BaseC P K F T)(hG:BaseG P K F T)(hT:TyC P T){tF:TypeId}(hM:gA P F tF){g:ED->CH->CH}{C:List CD}{o:OD}{b1:Nat}{aQ:Int}(hs:aH bl EL d t s)(hd:d.Small)(hf:Has bf (.r false [bu bl aZ c0 c1 c2 c3 c4 bE] 8) t)(h1:Has b1 (.r false [[.iface tF (.ptr (some ⟨bf,0,0⟩)),iv aQ]] 2) t)(eQ:cI t aZ C)(hO:nG P K F g d C) :
  bB P K (F 117) [.agg o.row,.ptr<|some ⟨b1,0,0⟩] s (λv s'=>v=.bool (wq g d C aQ o)/\aH bl EL d t s'):=by
 refine hG.f117.cF (by simp) ?_
 unfold SK
 refine Wq<|Wa (.box rfl rfl) λb2=>Wv rfl<|Wn ?_
 have nr:aH bl EL d ((b2,.r false [o.row] 14)::t) ((b2,.r false [o.row] 14)::s):=hs.cons
 refine Wq<|Wf rfl<|Wl rfl (.there<|hs.mem h1) rfl rfl rfl<|Wf rfl<|Wl rfl .here rfl rfl rfl<|Ww<|WS.invoke (vs:=[iv o.id]) rfl hM.chars rfl (pE hB hC hT nr hd (.there hf) (eQ.mono λp hp=>by simp[hp]) hO) ?_
 rintro w s2 ⟨rfl,dt⟩
 unfold wq
 cases hc:uY g d C o.id with
 | none=>
  refine Wv rfl<|Wr (.extract rfl rfl)<|Wr (.extract rfl rfl)<|Wa (.alloc rfl) λb4=>Ww<|Wt rfl rfl rfl .here rfl rfl<|Wv rfl<|Wn ?_
  refine Wq<|Wv rfl<|Wv rfl<|Wk rfl rfl<|Wk rfl rfl<|Wk rfl rfl<|Wk rfl rfl<|Wk rfl rfl<|Wr (.bj rfl rfl)<|Wv rfl<|Wn<|We<|Wm (.tmp rfl .nil) ?_
  exact⟨rfl,aH.bK (m:=[_]) dt.tail⟩
 | some x=>
  refine Wv rfl<|Wr (.extract rfl rfl)<|Wr (.extract rfl rfl)<|Wa (.alloc rfl) λb4=>Ww<|Wt (s':=(b4,.r false [x.row] 3)::_) rfl rfl rfl .here rfl rfl<|Wv rfl<|Wn ?_
  refine Wq<|Wv rfl<|Wv rfl<|Wy rfl rfl<|Wf rfl<|Wy rfl rfl<|Wl rfl (.there<|dt.mem .here) rfl rfl rfl<|Wy rfl rfl<|Wf rfl<|Wy rfl rfl<|Wl rfl (.there<|dt.mem<|.there h1) rfl rfl rfl<|Wy rfl rfl<|Wh rfl rfl (dM _ _)<|Wr (.cV rfl rfl)<|Wv rfl<|Wn<|We<|Wm (.tmp rfl .nil) ?_
  exact⟨rfl,aH.bK (m:=[_]) dt.tail⟩
theorem vG (hG:BaseG P K F T){C:List CD}{o:OD}{b3:Nat}{cv:AV}(h3:Has b3 (.r false [[cv]] 1) s)(eQ:Src s 11 cv (C.map CD.row))(hcd:∃j:Nat,o.gE=.ofNat j/\j<C.length) :
  bB P K (F 118) [.agg o.row,.ptr<|some ⟨b3,0,0⟩] s (λv s'=>v=.bool (jf C o)/\∃m,s'=m++s):=by
 obtain⟨j,hj,A3⟩:=hcd
 have zC:C[j]?=some C[j]:=List.getElem?_eq_getElem A3
 generalize C[j]=c at zC
 have hge:binV .geq (iv o.gE) (iv 0)=some (.bool true):=by
  rw[hj,th,decide_eq_false<|show¬Int.ofNat j<0 from Int.not_lt.2<|Int.natCast_nonneg j];rfl
 have hlt:binV .lss (iv o.gE) (iv<|.ofNat C.length)=some (.bool true):=by
  rw[hj,eT,decide_eq_true<|show Int.ofNat j<Int.ofNat C.length from Int.ofNat_lt.2 A3]
 have hlen:lenOf cv=some C.length:=by rw[eQ.lenOf,List.length_map]
 have YY:jf C o=decide (c.kind=4):=by
  unfold jf
  rw[hj]
  show(match C[j]? with | some c=>decide (c.kind=4) | none=>false)=_
  rw[zC]
 rw[YY]
 obtain⟨bc,rc,nc,cc,slc,roc,Mc,rfl,hbc,CC,aa6⟩:=eQ.at (i:=j)<|by simpa using A3
 have n9:Mc[rc+j]?=some c.row:=by rw[aa6];simp only[List.getElem?_map,zC];rfl
 refine hG.f118.cF (by simp) ?_
 unfold SM
 refine Wq<|Wa (.box rfl rfl) λb2=>Wv rfl<|Wn ?_
 refine Wq<|Wf rfl<|Wl rfl .here rfl rfl rfl<|Wj rfl rfl hge<|Wv rfl<|Wy rfl rfl<|Wf rfl<|Wy rfl rfl<|Wl rfl .here rfl rfl rfl<|Wy rfl rfl<|Wl rfl (.there h3) rfl rfl rfl<|Wy rfl rfl<|Wr (.lenS rfl hlen)<|Wy rfl rfl<|Wj rfl rfl hlt<|Wr (.cV rfl rfl)<|Wv rfl ?_
 refine Wy rfl rfl<|Wl rfl (.there h3) rfl rfl rfl<|Wy rfl rfl<|Wf rfl<|Wy rfl rfl<|Wl rfl .here rfl rfl rfl<|Wy rfl rfl<|Wr (.iaddrS rfl (by rw[hj];rfl) CC<|by decide)<|Wy rfl rfl<|Wf rfl<|Wy rfl rfl<|Wl rfl (.there hbc) n9 rfl rfl<|Wy rfl rfl<|Wh rfl rfl (dM _ _)<|Wr (.cV rfl rfl)<|Wv rfl<|Wn<|We<|Wm (.tmp rfl .nil) ?_
 exact⟨rfl,[_],rfl⟩
def ct (g:ED->CH->CH)(d:SD)(C:List CD)(kind aQ:Int):List TG:=
 if kind=1 then fieldT d (gY g d C aQ) d.fi
 else if kind=2 then playersT d d.pl.length
 else if kind=3 then playersT d d.pl.length++fieldT d (gY g d C aQ) d.fi
 else if kind=4 then fieldT d (wq g d C aQ) d.fi
 else if kind=5 then fieldT d (jf C) d.fi
 else if kind=6 then fJ d.st
 else []
@[reducible] def aX (tF:TypeId)(bf:Nat)(aQ:Int):List AV:=[.iface tF (.ptr (some ⟨bf,0,0⟩)),iv aQ]
theorem F6 (hB:Base P K F T)(hC:BaseC P K F T)(hG:BaseG P K F T)(hT:TyC P T){tF:TypeId}(hM:gA P F tF){aQ:Int}{T0:SH}(hd:d.Small)(hf:Has bf (.r false [bu bl aZ c0 c1 c2 c3 c4 bE] 8) T0) :
  lR P K bl EL d T0 (.func (F 72) [.agg (aX tF bf aQ)] []) (playersT d d.pl.length):=by
 intro fr t s qY hs
 refine c6.func<|hG.f72.cF (by simp) ?_
 unfold Z4
 refine Wq<|Wa (.box rfl rfl) λb1=>Wv rfl<|Wn ?_
 refine Wq<|Wr (.mkfn rfl rfl)<|Wv rfl<|Wn<|We<|Wm (.tmp rfl .nil) ?_
 refine⟨F 116,[.ptr (some ⟨b1,0,0⟩)],[(b1,.r false [aX tF bf aQ] 2)],rfl,hs.cons,?_⟩
 intro y J L0 t' s' hL hY hJ h0 hs'
 exact tU hB hC hG hT hM hY hL hd (λL t2 h=>⟨.ce<|hJ L t2 h _<|List.mem_append_left _<|.head _,.ce<|hJ L t2 h _<|List.mem_append_right _<|qY _ hf.mem⟩) h0 hs'
theorem RZ (hB:Base P K F T)(hG:BaseG P K F T){tF:TypeId}(hM:gA P F tF){aQ:Int}{T0:SH}(hd:d.Small)(hf:Has bf (.r false [bu bl aZ c0 c1 c2 c3 c4 bE] 8) T0) :
  lR P K bl EL d T0 (.func (F 75) [.agg (aX tF bf aQ)] []) (fJ d.st):=by
 intro fr t s qY hs
 refine c6.func<|hG.f75.cF (by simp) ?_
 unfold Z7
 refine Wq<|Wa (.box rfl rfl) λb1=>Wv rfl<|Wn ?_
 refine Wq<|Wr (.mkfn rfl rfl)<|Wv rfl<|Wn<|We<|Wm (.tmp rfl .nil) ?_
 refine⟨F 119,[.ptr (some ⟨b1,0,0⟩)],[(b1,.r false [aX tF bf aQ] 2)],rfl,hs.cons,?_⟩
 intro y J L0 t' s' hL hY hJ h0 hs'
 exact zO hB hG hM hY hL hd (λL t2 h=>⟨.ce<|hJ L t2 h _<|List.mem_append_left _<|.head _,.ce<|hJ L t2 h _<|List.mem_append_right _<|qY _ hf.mem⟩) h0 hs'
theorem iZ (hG:BaseG P K F T){ch:List AV}{fn:AV}(hc:partCells 2 (.agg ch)=some ch)(hfn:partCells 1 fn=some [fn]) :
  bB P K (F 114) [.agg ch,fn] s (λv s'=>∃b2 b3,v=.func (F 166) [] [.ptr (some ⟨b2,0,0⟩),.ptr<|some ⟨b3,0,0⟩]/\s'=(b3,.r false [[fn]] 1)::(b2,.r false [ch] 2)::s):=by
 refine hG.f114.cF (by simp) ?_
 unfold SF
 refine Wq<|Wa (.box rfl hc) λb2=>Wa (.box rfl hfn) λb3=>Wv rfl<|Wn ?_
 exact Wq<|Wr (.mkfn rfl rfl)<|Wv rfl<|Wn<|We<|Wm (.tmp rfl .nil) ⟨b2,b3,rfl,rfl⟩
theorem F5 (hB:Base P K F T)(hC:BaseC P K F T)(hG:BaseG P K F T)(hT:TyC P T){tF:TypeId}(hM:gA P F tF){g:ED->CH->CH}{C:List CD}{aQ:Int}{T0:SH}(hd:d.Small)(hf:Has bf (.r false [bu bl aZ c0 c1 c2 c3 c4 bE] 8) T0)(eQ:cI T0 aZ C)(hO:nG P K F g d C) :
  lR P K bl EL d T0 (.func (F 71) [.agg (aX tF bf aQ)] []) (fieldT d (gY g d C aQ) d.fi):=by
 intro fr t s qY hs
 refine c6.func<|hG.f71.cF (by simp) ?_
 unfold Z3
 refine Wq<|Wa (.box rfl rfl) λb1=>Wv rfl<|Wn ?_
 refine Wq<|Wl rfl .here rfl rfl rfl<|Wr (.mkfn rfl rfl)<|Ww<|Wz [.agg (aX tF bf aQ),.func (F 115) [] [.ptr (some ⟨b1,0,0⟩)]] rfl rfl (iZ hG rfl rfl) ?_
 rintro w _ ⟨b2,b3,rfl,rfl⟩
 refine Wv rfl<|Wn<|We<|Wm (.tmp rfl .nil) ?_
 refine⟨F 166,_,[(b3,.r false [[.func (F 115) [] [.ptr (some ⟨b1,0,0⟩)]]] 1),(b2,.r false [aX tF bf aQ] 2),(b1,.r false [aX tF bf aQ] 2)],rfl,hs.cons.cons.cons,?_⟩
 intro y J L0 t' s' hL hY hJ h0 hs'
 refine lZ hB hC hG hM hY hL hd hJ (.there .here) .here (.app<|.ce<|qY _ hf.mem) (λo ho t2 s2 h2 dt=>c6.func ?_) h0 hs'
 exact vE hB hC hG hT hM dt hd (.ce<|h2 _<|List.mem_append_right _<|qY _ hf.mem) (.ce<|h2 _<|List.mem_append_left _<|.tail _<|.tail _<|.head _) (eQ.mono λp hp=>h2 p<|by simp[qY p hp]) hO
theorem RX (hB:Base P K F T)(hC:BaseC P K F T)(hG:BaseG P K F T)(hT:TyC P T){tF:TypeId}(hM:gA P F tF){g:ED->CH->CH}{C:List CD}{aQ:Int}{T0:SH}(hd:d.Small)(hf:Has bf (.r false [bu bl aZ c0 c1 c2 c3 c4 bE] 8) T0)(eQ:cI T0 aZ C)(hO:nG P K F g d C) :
  lR P K bl EL d T0 (.func (F 73) [.agg (aX tF bf aQ)] []) (fieldT d (wq g d C aQ) d.fi):=by
 intro fr t s qY hs
 refine c6.func<|hG.f73.cF (by simp) ?_
 unfold Z5
 refine Wq<|Wa (.box rfl rfl) λb1=>Wv rfl<|Wn ?_
 refine Wq<|Wl rfl .here rfl rfl rfl<|Wr (.mkfn rfl rfl)<|Ww<|Wz [.agg (aX tF bf aQ),.func (F 117) [] [.ptr (some ⟨b1,0,0⟩)]] rfl rfl (iZ hG rfl rfl) ?_
 rintro w _ ⟨b2,b3,rfl,rfl⟩
 refine Wv rfl<|Wn<|We<|Wm (.tmp rfl .nil) ?_
 refine⟨F 166,_,[(b3,.r false [[.func (F 117) [] [.ptr (some ⟨b1,0,0⟩)]]] 1),(b2,.r false [aX tF bf aQ] 2),(b1,.r false [aX tF bf aQ] 2)],rfl,hs.cons.cons.cons,?_⟩
 intro y J L0 t' s' hL hY hJ h0 hs'
 refine lZ hB hC hG hM hY hL hd hJ (.there .here) .here (.app<|.ce<|qY _ hf.mem) (λo ho t2 s2 h2 dt=>c6.func ?_) h0 hs'
 exact C3 hB hC hG hT hM dt hd (.ce<|h2 _<|List.mem_append_right _<|qY _ hf.mem) (.ce<|h2 _<|List.mem_append_left _<|.tail _<|.tail _<|.head _) (eQ.mono λp hp=>h2 p<|by simp[qY p hp]) hO
theorem RY (hB:Base P K F T)(hC:BaseC P K F T)(hG:BaseG P K F T){tF:TypeId}(hM:gA P F tF){C:List CD}{aQ:Int}{T0:SH}(hd:d.Small)(hf:Has bf (.r false [bu bl aZ c0 c1 c2 c3 c4 bE] 8) T0)(eQ:cI T0 aZ C)(hcd:nF d C) :
  lR P K bl EL d T0 (.func (F 74) [.agg (aX tF bf aQ)] []) (fieldT d (jf C) d.fi):=by
 intro fr t s qY hs
 refine c6.func<|hG.f74.cF (by simp) ?_
 unfold Z6
 refine Wq<|Wa (.box rfl rfl) λb1=>Wv rfl<|Wn ?_
 have nr:aH bl EL d ((b1,.r false [aX tF bf aQ] 2)::(fr++t)) ((b1,.r false [aX tF bf aQ] 2)::s):=hs.cons
 refine Wq<|Wf rfl<|Wl rfl .here rfl rfl rfl<|Ww<|WS.invoke (vs:=[]) rfl hM.aZ rfl (BS hG nr (.there<|.app<|.ce<|qY _ hf.mem)<|eQ.mono λp hp=>by simp[qY p hp]) ?_
 rintro w s2 ⟨m,dt,hw⟩
 refine Wa (.alloc rfl) λb3=>Ww<|Wt (s':=(b3,.r false [[w]] 1)::_) rfl rfl hw.part .here rfl rfl<|Wn ?_
 have gw:=dt.cons (p:=(b3,.r false [[w]] 1))
 refine Wq<|Wl rfl (gw.mem<|.there<|.app .here) rfl rfl rfl<|Wr (.mkfn rfl rfl)<|Ww<|Wz [.agg (aX tF bf aQ),.func (F 118) [] [.ptr (some ⟨b3,0,0⟩)]] rfl rfl (iZ hG rfl rfl) ?_
 rintro v _ ⟨b4,b5,rfl,rfl⟩
 refine Wv rfl<|Wn<|We<|Wm (.tmp rfl .nil) ?_
 refine⟨F 166,_,(b5,.r false [[.func (F 118) [] [.ptr (some ⟨b3,0,0⟩)]]] 1)::(b4,.r false [aX tF bf aQ] 2)::(b3,.r false [[w]] 1)::(m++[(b1,.r false [aX tF bf aQ] 2)]),rfl,(gw.cons.cons).tT (ak λc w h0 h1 h2 hq=>by simp only[h1,h2,h0];omega),?_⟩
 intro y J L0 t' s' hL hY hJ h0 hs'
 refine lZ hB hC hG hM hY hL hd hJ (.there .here) .here (.app<|.ce<|qY _ hf.mem) (λo ho t2 s2 h2 dt=>c6.func ?_) h0 hs'
 refine bB.post (vG hG (dt.mem<|.ce<|h2 _<|by simp) (hw.mono λp hp=>(dt.mem<|.ce<|h2 p<|by simp[hp]).mem)<|hcd.cd o ho) ?_
 rintro v _ ⟨rfl,m2,rfl⟩
 exact⟨rfl,dt.bK⟩
theorem aaW (hB:Base P K F T)(hC:BaseC P K F T)(hG:BaseG P K F T)(hT:TyC P T){tF:TypeId}(hM:gA P F tF){g:ED->CH->CH}{C:List CD}{kind:Nat}{aQ:Int}(hk:kind<8)(hs:aH bl EL d t s)(hd:d.Small)(hf:Has bf (.r false [bu bl aZ c0 c1 c2 c3 c4 bE] 8) t)(eQ:cI t aZ C)(hO:nG P K F g d C) :
  bB P K (F 26) [.iface tF (.ptr<|some ⟨bf,0,0⟩),iv<|.ofNat kind,iv aQ] s (λv s'=>∃o m,aH bl EL d (o++(m++t)) s'/\GrE 2 v (yu<|ct g d C (.ofNat kind) aQ) o):=by
 have hn:=hd.n1
 refine hG.f26.ZH (by simp) ?_
 unfold ZR
 refine Wq<|Wv rfl<|Wn ?_
 refine Ws<|Wq<|Wv rfl<|Wh (b:=false) rfl rfl rfl<|Wn<|Wd rfl fS<|λ_=>Wi ?_
 refine Wq<|Wv rfl<|Wv rfl<|Wr (.build (cs:=aX tF bf aQ) rfl rfl)<|Wa (.alloc rfl) λb7=>Ww<|Wt (s':=(b7,.r false [aX tF bf aQ] 2)::_) rfl rfl rfl .here rfl rfl<|Wn ?_
 refine Wq<|Wa .mkmap λbm=>Wl rfl (.there .here) rfl rfl rfl<|Wr (.mkfn rfl rfl)<|Wa (.bslice (L:=[[.func (F 71) [.agg (aX tF bf aQ)] []]]) rfl rfl) λb21=>Ww<|WS.ins rfl rfl rfl (.there .here) rfl ?_
 refine Wl rfl (.there<|.there .here) rfl rfl rfl<|Wr (.mkfn rfl rfl)<|Wa (.bslice (L:=[[.func (F 72) [.agg (aX tF bf aQ)] []]]) rfl rfl) λb24=>Ww<|WS.ins rfl rfl rfl (.there<|.there .here) rfl ?_
 refine Wl rfl (.there<|.there<|.there .here) rfl rfl rfl<|Wr (.mkfn rfl rfl)<|Wl rfl (.there<|.there<|.there .here) rfl rfl rfl<|Wr (.mkfn rfl rfl)<|Wa (.bslice (L:=[[.func (F 72) [.agg (aX tF bf aQ)] []],[.func (F 71) [.agg (aX tF bf aQ)] []]]) rfl rfl) λb29=>Ww<|WS.ins rfl rfl rfl (.there<|.there<|.there .here) rfl ?_
 refine Wl rfl (.there<|.there<|.there<|.there .here) rfl rfl rfl<|Wr (.mkfn rfl rfl)<|Wa (.bslice (L:=[[.func (F 73) [.agg (aX tF bf aQ)] []]]) rfl rfl) λb32=>Ww<|WS.ins rfl rfl rfl (.there<|.there<|.there<|.there .here) rfl ?_
 refine Wl rfl (.there<|.there<|.there<|.there<|.there .here) rfl rfl rfl<|Wr (.mkfn rfl rfl)<|Wa (.bslice (L:=[[.func (F 74) [.agg (aX tF bf aQ)] []]]) rfl rfl) λb35=>Ww<|WS.ins rfl rfl rfl (.there<|.there<|.there<|.there<|.there .here) rfl ?_
 refine Wl rfl (.there<|.there<|.there<|.there<|.there<|.there .here) rfl rfl rfl<|Wr (.mkfn rfl rfl)<|Wa (.bslice (L:=[[.func (F 75) [.agg (aX tF bf aQ)] []]]) rfl rfl) λb38=>Ww<|WS.ins rfl rfl rfl (.there<|.there<|.there<|.there<|.there<|.there .here) rfl ?_
 refine Wv rfl<|Wv rfl<|Wn ?_
 refine Wq<|Wa (.alloc rfl) λb9=>Wn ?_
 have l1:=d7 d (gY g d C aQ) d.fi
 have l2:=im d d.pl.length
 have l3:=d7 d (wq g d C aQ) d.fi
 have l4:=d7 d (jf C) d.fi
 have l5:=kB d.st
 have fin:∀{x0 x1 x2 x3 x4 x5 x6 x7:Nat × HO}{w:AV}{s2 o m:SH}{L:List TG},aH bl EL d (o++(m++(x0::x1::x2::x3::x4::x5::x6::x7::t))) s2->GrE 2 w (yu L) o->L=ct g d C (.ofNat kind) aQ->∃o m,aH bl EL d (o++(m++t)) s2/\GrE 2 w (yu<|ct g d C (.ofNat kind) aQ) o:=by
  rintro x0 x1 x2 x3 x4 x5 x6 x7 w s2 o m L h1 h2 rfl
  exact⟨o,m++[x0,x1,x2,x3,x4,x5,x6,x7],by rw[List.append_assoc m];exact h1,h2⟩
 rcases(by omega:kind=0\/kind=1\/kind=2\/kind=3\/kind=4\/kind=5\/kind=6\/kind=7)with rfl|rfl|rfl|rfl|rfl|rfl|rfl|rfl
 ·refine Ws (Wq<|Wv rfl<|Wv rfl<|Wr (.look rfl rfl (.there<|.there<|.there<|.there<|.there<|.there<|.there .here) (o:=none) rfl)<|Wr (.lenS rfl rfl)<|Wv rfl<|Wn ?_)
  exact fW (T0:=t) (fs:=[]) .nil (λx hx=>nomatch hx) (λq hq=>by simp[hq]) (Nat.le_of_ble_eq_true rfl) (Nat.zero_le _) hs.cons.cons.cons.cons.cons.cons.cons.cons.cons (λw s2 o m h1 h2=>fin h1 h2<|by simp[ct])<|cM rfl
 ·refine Ws (Wq<|Wv rfl<|Wv rfl<|Wr (.look rfl rfl (.there<|.there<|.there<|.there<|.there<|.there<|.there .here) (o:=some<|.slice (some ⟨b21,0,0⟩) 1 1 false 1) rfl)<|Wr (.lenS rfl rfl)<|Wv rfl<|Wn ?_)
  exact fW (T0:=t) (fs:=[(.func (F 71) [.agg (aX tF bf aQ)] [],fieldT d (gY g d C aQ) d.fi)]) (Src.all (L:=[[.func (F 71) [.agg (aX tF bf aQ)] []]])<|.there<|.there<|.there<|.there<|.there .here) (λx hx=>by rw[List.mem_singleton.1 hx];exact F5 hB hC hG hT hM hd hf eQ hO) (λq hq=>by simp[hq]) (Nat.le_of_ble_eq_true rfl) (by simp only[List.flatMap_cons,List.flatMap_nil,List.append_nil];omega) hs.cons.cons.cons.cons.cons.cons.cons.cons.cons (λw s2 o m h1 h2=>fin h1 h2<|by simp[ct])<|cM rfl
 ·refine Ws (Wq<|Wv rfl<|Wv rfl<|Wr (.look rfl rfl (.there<|.there<|.there<|.there<|.there<|.there<|.there .here) (o:=some<|.slice (some ⟨b24,0,0⟩) 1 1 false 1) rfl)<|Wr (.lenS rfl rfl)<|Wv rfl<|Wn ?_)
  exact fW (T0:=t) (fs:=[(.func (F 72) [.agg (aX tF bf aQ)] [],playersT d d.pl.length)]) (Src.all (L:=[[.func (F 72) [.agg (aX tF bf aQ)] []]])<|.there<|.there<|.there<|.there .here) (λx hx=>by rw[List.mem_singleton.1 hx];exact F6 hB hC hG hT hM hd hf) (λq hq=>by simp[hq]) (Nat.le_of_ble_eq_true rfl) (by simp only[List.flatMap_cons,List.flatMap_nil,List.append_nil];omega) hs.cons.cons.cons.cons.cons.cons.cons.cons.cons (λw s2 o m h1 h2=>fin h1 h2<|by simp[ct])<|cM rfl
 ·refine Ws (Wq<|Wv rfl<|Wv rfl<|Wr (.look rfl rfl (.there<|.there<|.there<|.there<|.there<|.there<|.there .here) (o:=some<|.slice (some ⟨b29,0,0⟩) 2 2 false 1) rfl)<|Wr (.lenS rfl rfl)<|Wv rfl<|Wn ?_)
  exact fW (T0:=t) (fs:=[(.func (F 72) [.agg (aX tF bf aQ)] [],playersT d d.pl.length),(.func (F 71) [.agg (aX tF bf aQ)] [],fieldT d (gY g d C aQ) d.fi)]) (Src.all (L:=[[.func (F 72) [.agg (aX tF bf aQ)] []],[.func (F 71) [.agg (aX tF bf aQ)] []]])<|.there<|.there<|.there .here) (λx hx=>by
   rcases List.mem_cons.1 hx with rfl|hx
   ·exact F6 hB hC hG hT hM hd hf
   ·rw[List.mem_singleton.1 hx];exact F5 hB hC hG hT hM hd hf eQ hO) (λq hq=>by simp[hq]) (Nat.le_of_ble_eq_true rfl) (by simp only[List.flatMap_cons,List.flatMap_nil,List.append_nil,List.length_append];omega) hs.cons.cons.cons.cons.cons.cons.cons.cons.cons (λw s2 o m h1 h2=>fin h1 h2 (by simp[ct])) (cM rfl)
 ·refine Ws (Wq<|Wv rfl<|Wv rfl<|Wr (.look rfl rfl (.there<|.there<|.there<|.there<|.there<|.there<|.there .here) (o:=some<|.slice (some ⟨b32,0,0⟩) 1 1 false 1) rfl)<|Wr (.lenS rfl rfl)<|Wv rfl<|Wn ?_)
  exact fW (T0:=t) (fs:=[(.func (F 73) [.agg (aX tF bf aQ)] [],fieldT d (wq g d C aQ) d.fi)]) (Src.all (L:=[[.func (F 73) [.agg (aX tF bf aQ)] []]])<|.there<|.there .here) (λx hx=>by rw[List.mem_singleton.1 hx];exact RX hB hC hG hT hM hd hf eQ hO) (λq hq=>by simp[hq]) (Nat.le_of_ble_eq_true rfl) (by simp only[List.flatMap_cons,List.flatMap_nil,List.append_nil];omega) hs.cons.cons.cons.cons.cons.cons.cons.cons.cons (λw s2 o m h1 h2=>fin h1 h2<|by simp[ct])<|cM rfl
 ·refine Ws (Wq<|Wv rfl<|Wv rfl<|Wr (.look rfl rfl (.there<|.there<|.there<|.there<|.there<|.there<|.there .here) (o:=some<|.slice (some ⟨b35,0,0⟩) 1 1 false 1) rfl)<|Wr (.lenS rfl rfl)<|Wv rfl<|Wn ?_)
  exact fW (T0:=t) (fs:=[(.func (F 74) [.agg (aX tF bf aQ)] [],fieldT d (jf C) d.fi)]) (Src.all (L:=[[.func (F 74) [.agg (aX tF bf aQ)] []]])<|.there .here) (λx hx=>by rw[List.mem_singleton.1 hx];exact RY hB hC hG hM hd hf eQ hO.ok) (λq hq=>by simp[hq]) (Nat.le_of_ble_eq_true rfl) (by simp only[List.flatMap_cons,List.flatMap_nil,List.append_nil];omega) hs.cons.cons.cons.cons.cons.cons.cons.cons.cons (λw s2 o m h1 h2=>fin h1 h2<|by simp[ct])<|cM rfl
 ·refine Ws (Wq<|Wv rfl<|Wv rfl<|Wr (.look rfl rfl (.there<|.there<|.there<|.there<|.there<|.there<|.there .here) (o:=some<|.slice (some ⟨b38,0,0⟩) 1 1 false 1) rfl)<|Wr (.lenS rfl rfl)<|Wv rfl<|Wn ?_)
  exact fW (T0:=t) (fs:=[(.func (F 75) [.agg (aX tF bf aQ)] [],fJ d.st)]) (Src.all (L:=[[.func (F 75) [.agg (aX tF bf aQ)] []]]) .here) (λx hx=>by rw[List.mem_singleton.1 hx];exact RZ hB hG hM hd hf) (λq hq=>by simp[hq]) (Nat.le_of_ble_eq_true rfl) (by simp only[List.flatMap_cons,List.flatMap_nil,List.append_nil];omega) hs.cons.cons.cons.cons.cons.cons.cons.cons.cons (λw s2 o m h1 h2=>fin h1 h2<|by simp[ct])<|cM rfl
 ·refine Ws (Wq<|Wv rfl<|Wv rfl<|Wr (.look rfl rfl (.there<|.there<|.there<|.there<|.there<|.there<|.there .here) (o:=none) rfl)<|Wr (.lenS rfl rfl)<|Wv rfl<|Wn ?_)
  exact fW (T0:=t) (fs:=[]) .nil (λx hx=>nomatch hx) (λq hq=>by simp[hq]) (Nat.le_of_ble_eq_true rfl) (Nat.zero_le _) hs.cons.cons.cons.cons.cons.cons.cons.cons.cons (λw s2 o m h1 h2=>fin h1 h2<|by simp[ct])<|cM rfl
theorem nT (hB:Base P K F T)(hC:BaseC P K F T)(hG:BaseG P K F T)(hT:TyC P T){tF:TypeId}(hM:gA P F tF){g:ED->CH->CH}{C:List CD}{kind:Nat}{aQ:Int}(hk:kind<8)(hs:aH bl EL d t s)(hd:d.Small)(hf:Has bf (.r false [bu bl aZ c0 c1 c2 c3 c4 bE] 8) t)(eQ:cI t aZ C)(hO:nG P K F g d C) :
  bB P K (F 26) [.iface tF (.ptr<|some ⟨bf,0,0⟩),iv<|.ofNat kind,iv aQ] s (λv s'=>∃m,aH bl EL d (m++t) s'/\Src m 2 v (yu<|ct g d C (.ofNat kind) aQ)):=
 (aaW hB hC hG hT hM hk hs hd hf eQ hO).post λv s'⟨o,m,h1,h2⟩=>⟨o++m,by rw[List.append_assoc];exact h1,h2.gr.out.src.mono λp hp=>by simp[hp]⟩
theorem sd (L:List TG):(yu L).length=L.length:=by simp[yu]
def ZQ (F:Nat->FuncId)(T:Nat->TypeId):AC:=(oN [zo 2 (.mv (zc 0))] (.seq (oN [zm 3 0,zo 4 (.eql false .ptr 3 (.const (.pointer none)))] (.cond 4 (oN [zo 2 (.mv (zc 0))] .ret) .skip)) (oN [zm 5 0,zo 6 (.nilchk 5),zf 7 25 6,zl 8 7,zo 9 (.lenS 8),zm 2 9] .ret)))
structure BaseM (P:Program)(K:Orc)(F:Nat->FuncId)(T:Nat->TypeId):Prop where
 f25:FnK P K (F 25) 10 [(.tmp 2)] (ZQ F T)
def Zz:LD:=⟨20,0,0,0,0,false,false,false⟩
def d5:SD:=⟨[Zz,Zz,Zz],[],[[],[],[]],[[],[],[]],[[],[],[]],[[],[],[]],[],[],[],1,0,0,0,0,0,1,1,0,0,0,0,false,0,0⟩
theorem pS (hM:BaseM P K F T)(hs:aH bl EL d t s):bB P K (F 25) [.ptr (some ⟨bl,0,0⟩)] s (λv s'=>v=iv (.ofNat EL.length)/\aH bl EL d t s'):=by
 have hs0:=hs
 obtain⟨sc,lv,pv,ov,eo,hv,gv,ev,fv,sv,wv,oL,nn,k1,k2,k3,k4⟩:=hs
 have hb:Has bl (.r false [sc++([lv]++(d.cells pv ov eo hv gv ev fv sv wv++[]))] 51) s:=.ce<|k1.mem_iff.2<|by simp
 have hl:bV 1 (cu 25<|sc++([lv]++(d.cells pv ov eo hv gv ev fv sv wv++[])))=some [lv]:=nA (a:=sc) (b:=[lv]) (c:=d.cells pv ov eo hv gv ev fv sv wv++[]) (i:=25) (n:=1) k2 rfl
 refine hM.f25.cF (by simp) ?_
 unfold ZQ
 refine Wq<|Wv rfl<|Wn ?_
 refine Ws<|Wq<|Wv rfl<|Wh (b:=false) rfl rfl rfl<|Wn<|Wd rfl (λh=>by cases h)<|λ_=>Wi ?_
 exact Wq<|Wv rfl<|Wr (.nilchk rfl rfl)<|Wf rfl<|Wl rfl hb rfl hl rfl<|Wr (.lenS rfl k3.out.lenOf)<|Wv rfl<|Wn<|We<|Wm (.tmp rfl .nil) ⟨rfl,hs0⟩
def WOa (P:Program)(K:Orc)(ol:List bS)(e:Tr AV)(ds:List aD)(H H0:Heap)(Q:Po):Prop:=
 ∀(nt:Nat)(ops:Array Oper)(l0:List Oper),aI (co P nt ops.toList) l0=some ol->∃e' ds' H' l' s',fj P K nt ops l0 e ds H (.mk .normal e' ds' H')/\En l' e'/\Hp H0 s' H'/\Q l' ds' s'
theorem WOa.cons {d:Option Nat}{op:AOp}{rest:List bS}{v:AV}{e:Tr AV}{ds ds1:List aD}{H H1 H0:Heap}{Q:Po}(k1:qu P K e op ds H (.mk v ds1 H1))(k3:WOa P K rest (putO e d v) ds1 H1 H0 Q):WOa P K (⟨d,op,none⟩::rest) e ds H H0 Q:=by
 intro nt ops l0 hl
 cases l0 with
 | nil=>cases hl
 | cons a l0=>
  obtain⟨b,bs,h1,h2,h3⟩:=(aV _ a l0 _).1 hl
  cases h3
  have hc:cOper P nt a=⟨d,op,none⟩:=by
   unfold co at h1
   generalize cOper P nt a=z at h1 |-
   obtain⟨d',op',g'⟩:=z
   cases g' with
   | none=>cases h1;rfl
   | some jw=>
    unfold cg at h1
    grind
  obtain⟨e',ds',H',l',s',j1,j2,j3,j4⟩:=k3 nt ops l0 h2
  exact⟨_,_,_,_,_,fj.cons hc rfl k1 j1,j2,j3,j4⟩
theorem WOa.of {ol:List bS}{l:Sl}{s:SH}{e:Tr AV}{ds:List aD}{H H0:Heap}{Q:Po}(h:WO P K ol l ds s Q)(he:En l e)(hH:Hp H0 s H):WOa P K ol e ds H H0 Q:=λnt ops l0 hl=>h nt ops l0 hl H0 e H he hH
theorem WOa.seq {ol:List bS}{b:AC}{e:Tr AV}{ds:List aD}{H H0:Heap}{Qn Qr:Po}{Qe:Nat->Po}(h:WOa P K ol e ds H H0 (λl ds s=>WP P K none nt b l ds s Qn Qe Qr)){c0:Code}(hc:cc P nt c0=.seq (.ops ol) b) :
  ∃x e' ds' H' l' s',bt P K none nt c0 e ds H (.mk x e' ds' H')/\En l' e'/\Hp H0 s' H'/\(match x with | .normal=>Qn l' ds' s' | .exit i=>Qe i l' ds' s' | .ret=>Qr l' ds' s'):=by
 cases c0 with
 | seq a0 b0=>
  simp only[cc,AC.seq.injEq]at hc
  obtain⟨ha,hb⟩:=hc
  cases a0 with
  | region i ops d=>
   cases d with
   | true=>
    exfalso
    have hc:cdr P nt ops=.ops ol:=ha
    unfold cdr at hc
    grind
   | false=>
    have hc:(match aI (co P nt ops.toList) ops.toList with | some l=>AC.ops l | none=>.bad)=.ops ol:=ha
    split at hc
    ·rename_i l' hl'
     cases hc
     obtain⟨e1,ds1,H1,l1,s1,h1,h2,h3,h4⟩:=h nt ops ops.toList hl'
     obtain⟨x,e2,ds2,H2,l2,s2,k1,k2,k3,k4⟩:=h4 b0 hb H0 e1 H1 h2 h3
     exact⟨x,e2,ds2,H2,l2,s2,bt.seq (bt.region h1) k1,k2,k3,k4⟩
    ·cases hc
  | _=>simp[cc]at ha
 | region i ops d=>exact(db hc).elim
 | _=>simp[cc]at hc
@[reducible] def n3:List (List AV):=[[nilS],[nilS],[nilS]]
noncomputable def Ah:V:={ vU with t:=13,a:=1 }
theorem Cl {h:FH}{ds:List aD}(q:xe h.fr ds none)(k:(match h.fr.ds with | []=>true | _=>false)=true):ds=[]:=by
 obtain⟨f1,_,_⟩:=q
 grind
end
section
variable [Sg]{P:Program}{K:Orc}{F:Nat->FuncId}{T:Nat->TypeId}
end
theorem works_kc {P:Program}(hm:P.follows .mixedOrders=true){n:Nat}{f:FuncId}(h:fastTrue P noneKnown n f=true):gW P f [] vu (.bool true) vu:=by
 letI:Sg:=sg0
 obtain⟨O,hO,hF⟩:=lB P
 obtain⟨m,b,v,h',H',h1,h2,_,_,h5⟩:=(kX P (hF _) n).call .nil Cd h
 have:=h2.U8<|ag h5
 subst this
 exact(gW.KV hm hO h1).eC ⟨rfl,Nat.zero_le _,λb o hb=>by rw[np]at hb;cases hb⟩ (Nat.le_refl _) trivial
theorem Opq.U6 {k:IntKind}{n:Int}:Opq (.int k n):=⟨rfl,λb h=>(by cases h),λm=>by
 have:ieq n n=true:=gd.2 rfl
 cases k<;>simp[sameN,same0,keq,this]⟩
theorem tN [Sg]{lv:AV}(h:Sg.val 1=lv)(ho:Opq lv):VA Ah lv:=by
 subst h
 exact VA.DM (v:=Ah) rfl ho.one ho.nb ho.same
noncomputable def ruleG (w c:FuncId):iB:=λf args h=>match Nat.beq f w with
 | true=>(match args with | []=>some (some (vT,h)) | _::_=>some none)
 | false=>(match Nat.beq f c with | true=>some none | false=>none)
theorem ruleG_ok [Sg]{w c:FuncId}{K:Orc}(hw:∀H,K w [] H=some (.bool true,H))(hK:∀f args H,f≠w->f≠c->K f args H=none):Bh (ruleG w c) K where
 res:=by
  intro f args as h H v h' ha hH hf
  unfold ruleG at hf
  cases hb:Nat.beq f w with
  | true=>
   rw[hb]at hf
   have:=Nat.eq_of_beq_eq_true hb
   subst this
   cases ha with
   | nil=>cases hf;exact⟨_,_,hw H,VA.bool true,hH,rfl⟩
   | cons _ _=>cases hf
  | false=>
   rw[hb]at hf
   dsimp only at hf
   split at hf<;>cases hf
 non:=by
  intro f args as h H ha hH hf
  unfold ruleG at hf
  cases hb:Nat.beq f w with
  | true=>
   rw[hb]at hf
   cases ha with
   | nil=>cases hf
   | cons _ _=>cases hf
  | false=>
   rw[hb]at hf
   dsimp only at hf
   split at hf
   ·cases hf
   ·rename_i hc
    exact hK f as H (λe=>by rw[e]at hb;simp at hb) (λe=>by rw[e]at hc;simp at hc)
section
variable {P:Program}{K:Orc}{F:Nat->FuncId}{T:Nat->TypeId}{f:FuncId}{fn:Func}{c:Code}{tc:Func}{Ib:Code}{R:iB}{n:Nat}
structure BaseL (P:Program)(K:Orc)(F:Nat->FuncId)(T:Nat->TypeId):Prop where
variable {rd:Option Nat}{nt:Nat}{l:Sl}{ds:List aD}{s:SH}{Q:Po}{Qn:Po}{Qr:Po}{Qe:Nat->Po}
def aby (t:SH):Po:=λl ds s=>ds=[]/\lk l 6=some (.bool true)/\∀b o,Has b o t->Has b o s
theorem abJ {a:Nat}(h:a<=255):binV .quo (.int .u8 (.ofNat a)) (.int .u8 (.ofNat 3))=some (.int .u8 (.ofNat (a/3))):=by
 show force (Nat.mod (Nat.div a 3) 256) (λm=>some<|AV.int .u8<|.ofNat m)=_
 rw[aL,show Nat.mod (Nat.div a 3) 256=a/3 from Nat.mod_eq_of_lt<|show a/3<256 by omega]
variable {bf:Nat}{bl:Nat}{aZ:AV}{bE:AV}{c0:Int}{c1:Int}{c2:Int}{c3:Int}{c4:Int}{EL:List (List AV)}{d:SD}{t:SH}

end
end Go.Ev
