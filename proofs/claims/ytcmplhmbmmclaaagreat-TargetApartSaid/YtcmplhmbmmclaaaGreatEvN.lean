/- Walks and rules. Conditions: none. -/
import Derived.Test.YtcmplhmbmmclaaaGreatEvM
import Derived.Test.YtcmplhmbmmclaaaGreatEvL
set_option linter.unusedVariables false
set_option linter.unusedSectionVars false
namespace Go.Ev
section
variable {P:Program}{K:Orc}{rd:Option Nat}{nt:Nat}{l:Sl}{ds:List aD}{s:SH}{Q Qn Qr:Po}{Qe:Nat->Po}{F:Nat->FuncId}{T:Nat->TypeId}{bf bl:Nat}{aZ bE:AV}{c0 c1 c2 c3 c4:Int}{EL:List (List AV)}{d:SD}{t:SH}
theorem aH.split (h:aH bl EL d t s):∃u,s.Perm (u++t)/\∀t',aH bl EL d t' (u++t'):=by
 obtain⟨sc,lv,pv,ov,eo,hv,gv,ev,fv,sv,wv,oL,nn,k1,k2,k3,k4⟩:=h
 exact⟨(bl,.r false [sc++([lv]++(d.cells pv ov eo hv gv ev fv sv wv++[]))] 51)::(oL++nn),ak λc w h0 h1 h2 hq=>by simp only[h1,h2,hq _ _ k1];omega,λt'=>⟨sc,lv,pv,ov,eo,hv,gv,ev,fv,sv,wv,oL,nn,ak λc w h0 h1 h2 hq=>by simp only[h1,h2];omega,k2,k3,k4⟩⟩
theorem aH.tT {t':SH}(h:aH bl EL d t s)(hp:t.Perm t'):aH bl EL d t' s:=by
 obtain⟨sc,lv,pv,ov,eo,hv,gv,ev,fv,sv,wv,oL,nn,k1,k2,k3,k4⟩:=h
 exact⟨sc,lv,pv,ov,eo,hv,gv,ev,fv,sv,wv,oL,nn,ak λc w h0 h1 h2 hq=>by simp only[h1,h2,hq _ _ k1,hq _ _ hp],k2,k3,k4⟩
theorem c6.perm {f:AV}{args:List AV}{s s':SH}{R:AV->SH->Prop}(hp:s.Perm s')(h:c6 P K f args s R):c6 P K f args s' R:=
 λH0 H hH=>h H0 H (hH.perm hp.symm)
theorem c6.canon {f:AV}{args:List AV}{R:AV->SH->Prop}(h:c6 P K f args s (λv s'=>∃s'',s'.Perm s''/\R v s'')):c6 P K f args s R:=by
 intro H0 H hH
 obtain⟨v,s',H',h1,h2,s'',h3,h4⟩:=h H0 H hH
 exact⟨v,s'',H',h1,h2.perm h3,h4⟩
def K9 (P:Program)(K:Orc)(bl:Nat)(EL:List (List AV))(d:SD)(f:FuncId)(cap:List AV)(t:SH)(out:List TG):Prop:=
 ∀y J L0 t' s',L0.length<=3000->SA P K bl EL d y J->(∀L t2,J L t2->∀q∈t,q∈t2)->J L0 t'->aH bl EL d t' s'->bB P K f (y::cap) s' (λ_ s''=>∃t'',aH bl EL d t'' s''/\J (L0++out) t'')
def lR (P:Program)(K:Orc)(bl:Nat)(EL:List (List AV))(d:SD)(T0:SH)(fv:AV)(out:List TG):Prop:=
 ∀fr t s,(∀q∈T0,q∈t)->aH bl EL d (fr++t) s->c6 P K fv [] s (λv s'=>∃f cap m,v=.func f [] cap/\aH bl EL d (m++(fr++t)) s'/\K9 P K bl EL d f cap (m++t) out)
def Lr:AC:=(.ops [zo 12 (.alloc 2 [(za 0),(za 0)]),zn (.store 2 (zt 12) (zt 50))])
def aaQ:AC:=(.block 3 (.ops [zl 51 9,zo 52 (.load true 2 (zt 12)),zo 53 (.bslice 2 1 [(za 0),(za 0)] [⟨0,(zt 52)⟩]),zo 54 (.append 2 16 (zt 51) (zt 53)),zn (.store 1 (zt 9) (zt 54))]))
def Te:AC:=(.seq (.ops [zo 45 (.arith .lss (zt 44) (zt 43))]) (.seq (.cond (zt 45) .skip (.exit 0)) (.seq (.block 1 (.seq (.ops [zo 46 (.iaddrS 1 (zt 42) (zt 44)),zl 47 46,zm 11 47]) (.seq (.ops [zm 48 11,zo 49 (.call (zt 48) [])]) (.block 2 (.rf (zt 49) [50] Lr aaQ))))) (.ops [zo 55 (.arith .add (zt 44) (zc 1)),zm 44 55]))))
def Lu:AC:=(.seq (.ops [zl 56 9,zm 6 56]) .ret)
inductive GrE (sz:Nat):AV->List (List AV)->SH->Prop
 | nil {rw:Nat}:GrE sz (.slice none 0 0 false rw) [] []
 | rows {b:Nat} {L:List (List AV)} (hL:L≠[]):GrE sz (.slice (some ⟨b,0,0⟩) L.length L.length true sz) L [(b,.r false L sz)]
theorem GrE.gr {sz:Nat}{v:AV}{L:List (List AV)}{o:SH}(h:GrE sz v L o):Gr sz v L o:=by
 cases h with
 | nil=>exact .nil
 | @rows b L hL=>
  have:=Gr.rows (b:=b) (sz:=sz) (L:=L) (T:=[]) rfl rfl (List.length_pos_iff.2 hL)
  rw[List.append_nil]at this
  exact this
theorem GrE.out {sz:Nat}{v:AV}{L:List (List AV)}{o:SH}(h:GrE sz v L o):gz o sz v L:=h.gr.out
theorem WS.aag {P:Program}{K:Orc}{l:Sl}{ds:List aD}{R:AV->List aD->SH->Prop}{sz bytes:Nat}{ss x:Operand}{sv xv:AV}{L N:List (List AV)}{m o t:SH}(hs:l7 l ss=some sv)(ho:GrE sz sv L o)(hx:l7 l x=some xv)(hN:Src (m++(o++t)) sz xv N)(hz:sz≠0)(h1:L.length+N.length<=901000)(h2:bytes<=100000)
  (k:∀v o' j,GrE sz v (L++N) o'->R v ds (o'++(m++(j++t)))):WS P K (.append sz bytes ss x) l ds (m++(o++t)) R:=by
 cases ho with
 | nil=>
  by_cases hN0:N=[]
  ·subst hN0
   exact WS.append_none hs hx hN hz (Nat.le_refl _) (k _ [] [] .nil)
  ·refine WS.append_nil (c:=0) hs hx hN hz hN0 (by simpa using h1) h2 λb=>?_
   exact k _ [(b,.r false N sz)] [] (.rows hN0)
 | @rows b L hL=>
  by_cases hN0:N=[]
  ·subst hN0
   have:=k _ [(b,.r false L sz)] [] (by rw[List.append_nil];exact .rows hL)
   exact WS.perm (WS.append_none hs hx hN hz (Nat.le_refl _) ⟨_,ak λc w h0 h1 h2 hq=>by simp only[h1,h2,h0];omega,this⟩)
  ·refine WS.uN hs rfl (.app .here) hx hN hz hN0 h1 h2 λb'=>?_
   have:=k (.slice (some ⟨b',0,0⟩) (L.length+N.length) (L.length+N.length) true sz) [(b',.r false (L++N) sz)] [(b,.bK)] (by rw[<- List.length_append];exact .rows (by simp[hL]))
   exact this
def Coll (lb D:Nat)(lp:HO)(b9:Nat)(W:SH)(L:List TG)(t:SH):Prop:=
 ∃lv og j,t.Perm ((lb,lp)::(b9,.r false [[lv]] 1)::(og++(j++W)))/\GrE 2 lv (yu L) og
theorem BX {lb D b9:Nat}{l:Sl}{asg body:Code}{W:SH}(ha:cc P 57 asg=Lr)(hb:cc P 57 body=aaQ)(h9:lk l 9=some (.ptr (some ⟨b9,0,0⟩))) :
  SA P K bl EL d (.yield lb) (Coll lb D (.lp l 57 [50] asg body .ready none D) b9 W):=by
 refine⟨λL t s x m hL hJ hs=>?_⟩
 obtain⟨lv,og,j,hp,hG⟩:=hJ
 obtain⟨u,hu,hback⟩:=hs.split
 refine c6.perm (s:=(lb,.lp l 57 [50] asg body .ready none D)::(u++(m++((b9,.r false [[lv]] 1)::(og++(j++W)))))) (ak λc w h0 h1 h2 hq=>by have:=hq _ _ hu;simp only[h1,h2,hq _ _ hp]at this |-;omega) (c6.canon ?_)
 refine AU (by omega) ha hb ?_
 unfold Lr aaQ
 refine Wo (Wa (.alloc rfl) λNQ=>Ww (Wt (s':=(NQ,.r false [x.row] 2)::_) rfl rfl rfl .here rfl rfl (Wn ⟨(NQ,.r false [x.row] 2)::(u++(m++((b9,.r false [[lv]] 1)::(og++(j++W))))),List.Perm.swap ..,?_⟩)))
 refine Wb (Wo (Wl (v:=lv) h9 (.there (.there (.app (.app .here)))) rfl rfl rfl (Wl rfl (.there .here) rfl rfl rfl (Wa (.bslice (L:=[x.row]) rfl rfl) λR6=>?_))))
 refine Ww (WS.pre (s':=((R6,.r false [x.row] 2)::(lb,.lp l 57 [50] asg body .busy none D)::(NQ,.r false [x.row] 2)::(b9,.r false [[lv]] 1)::(u++m))++(og++(j++W))) (ak λc w h0 h1 h2 hq=>by simp only[h1,h2];omega) (WS.aag (xv:=.slice (some ⟨R6,0,0⟩) 1 1 false 2) rfl hG rfl (Src.all (L:=[x.row]) .here) (by decide) (by simp only[yu,List.length_map,List.length_cons,List.length_nil];omega) (by decide) λnw A9 jk xB=>?_))
 refine Ww (Wt (s':=A9++((R6,.r false [x.row] 2)::(lb,.lp l 57 [50] asg body .busy none D)::(NQ,.r false [x.row] 2)::(b9,.r false [[nw]] 1)::(u++m)++(jk++(j++W)))) (row':=[nw]) h9 rfl xB.out.src.part (.app (.there (.there (.there .here)))) rfl rfl (Wn ?_))
 refine⟨A9++((R6,.r false [x.row] 2)::(NQ,.r false [x.row] 2)::(b9,.r false [[nw]] 1)::(u++m)++(jk++(j++W))),ak λc w h0 h1 h2 hq=>by simp only[h1,h2];omega,u++(m++((lb,.lp l 57 [50] asg body .ready none D)::(b9,.r false [[nw]] 1)::(A9++(((R6,.r false [x.row] 2)::(NQ,.r false [x.row] 2)::(jk++j))++W)))),ak λc w h0 h1 h2 hq=>by simp only[h1,h2];omega,rfl,_,hback _,nw,A9,(R6,.r false [x.row] 2)::(NQ,.r false [x.row] 2)::(jk++j),.refl _,?_⟩
 simpa[yu]using xB
theorem fW {T0 t0:SH}{b9:Nat}{v:AV}{fs:List (AV × List TG)}{Qn0:Po}{Qe0:Nat->Po}{R:AV->SH->Prop}(hv:Src t0 1 v (fs.map λx=>[x.1]))(Uu:∀x∈fs,lR P K bl EL d T0 x.1 x.2)(qY:∀q∈T0,q∈t0)(hn:fs.length<=1000)(Y3:(fs.flatMap (·.2)).length<=3000)
  (hs:aH bl EL d ((b9,.r false [[nilS]] 1)::t0) s) (hR:∀w s' o m,aH bl EL d (o++(m++t0)) s'->GrE 2 w (yu (fs.flatMap (·.2))) o->R w s') (hl:∀i x,lk [(9,.ptr (some ⟨b9,0,0⟩)),(42,v),(43,iv (.ofNat fs.length)),(44,iv 0)] i=some x->lk l i=some x) :
  WP P K none 57 (.block 0 (.loop Te)) l [] s (λl ds s=>WP P K none 57 Lu l ds s Qn0 Qe0 (Bi P [.tmp 6] R)) Qe (Bi P [.tmp 6] R):=by
 refine Wb ?_
 unfold Te
 refine Wp (λk l ds s'=>∃q Ds lv og j,k=fs.length-q/\q<=fs.length/\ds=Ds.map aD.mark/\aH bl EL d (Ds.map (λD=>(D,HO.ob .deferred))++((b9,.r false [[lv]] 1)::(og++(j++t0)))) s'/\GrE 2 lv (yu ((fs.take q).flatMap (·.2))) og /\
   ∀i x,lk [(9,.ptr (some ⟨b9,0,0⟩)),(42,v),(43,iv (.ofNat fs.length)),(44,iv (.ofNat q))] i=some x->lk l i=some x) ?_ (n:=fs.length-0)
  ⟨0,[],nilS,[],[],rfl,Nat.zero_le _,rfl,hs,.nil,hl⟩
 rintro k l ds s' ⟨q,Ds,lv,og,j,rfl,hq,rfl,hs',hG,hl⟩
 refine Wg hl (λ_ _ h=>h) ?_
 refine Wq (Wj rfl rfl rfl (Wn (Ws (Wd rfl (λht=>?_) (λht=>?_)))))
 ·have hlt:q<fs.length:=bh.1 ht
  have hx:fs[q]?=some fs[q]:=List.getElem?_eq_getElem hlt
  have KP:fs[q]∈fs:=List.getElem_mem _
  generalize fs[q]=x at hx KP
  have gc:(fs.take (q+1)).flatMap (·.2)=(fs.take q).flatMap (·.2)++x.2:=by rw[List.take_add_one,hx,List.flatMap_append];simp
  have hlen:((fs.take q).flatMap (·.2)).length<=3000:=by
   refine Nat.le_trans ?_ Y3
   conv=>rhs;rw[<- List.take_append_drop q fs,List.flatMap_append,List.length_append]
   omega
  obtain⟨ba,ra,na,ca,J5,Sp,Ma,rfl,hba,me,gH⟩:=hv.at (i:=q) (by simpa using hlt)
  have eE:Ma[ra+q]?=some [x.1]:=by rw[gH];simp only[List.getElem?_map,hx];rfl
  refine Wi (Ws (Wb (Wq (Wr (.iaddrS rfl rfl me (by decide)) (Wl (v:=x.1) rfl (hs'.mem (.app (.there (.app (.app hba))))) eE rfl rfl (Wv rfl (Wn ?_)))))))
  refine Wq (Wv rfl (Ww (WS.call (vs:=[]) rfl rfl (Uu x KP (Ds.map (λD=>(D,HO.ob .deferred))++((b9,.r false [[lv]] 1)::(og++j))) t0 s' qY (hs'.tT (ak λc w h0 h1 h2 hq=>by simp only[h1,h2];omega))) ?_)))
  rintro w s2 ⟨f,cap,m,rfl,dt,hI⟩
  refine Wn (Wb (Wg (l':=[(9,.ptr (some ⟨b9,0,0⟩)),(42,.slice (some ⟨ba,ra,0⟩) na ca J5 1),(43,iv (.ofNat fs.length)),(44,iv (.ofNat q)),(49,.func f [] cap)]) (aa rfl (aa rfl (aa rfl (aa rfl (aa rfl aB))))) (λ_ _ h=>h) (WP.rf (first:=[]) (cap:=cap) rfl λasg body X4 Ct D lb=>?_)))
  have gw:=(dt.cons (p:=(D,.ob .deferred))).cons (p:=(lb,.lp [(9,.ptr (some ⟨b9,0,0⟩)),(42,.slice (some ⟨ba,ra,0⟩) na ca J5 1),(43,iv (.ofNat fs.length)),(44,iv (.ofNat q)),(49,.func f [] cap)] 57 [50] asg body .ready none D))
  have hY:=BX (bl:=bl) (EL:=EL) (d:=d) (lb:=lb) (D:=D) (W:=(D,.ob .deferred)::(Ds.map (λD=>(D,HO.ob .deferred))++(m++(j++t0)))) (P:=P) (K:=K) X4 Ct (b9:=b9) (l:=[(9,.ptr (some ⟨b9,0,0⟩)),(42,.slice (some ⟨ba,ra,0⟩) na ca J5 1),(43,iv (.ofNat fs.length)),(44,iv (.ofNat q)),(49,.func f [] cap)]) rfl
  refine bB.canon ((hI (.yield lb) _ ((fs.take q).flatMap (·.2)) _ _ hlen hY ?_ ⟨lv,og,[],?_,hG⟩ gw).post ?_)
  ·rintro L t2 ⟨nw,A9,j2,Gu,_⟩ q hq
   refine Gu.mem_iff.2 ?_
   simp only[List.mem_append,List.mem_cons]at hq |-
   rcases hq with hq|hq
   ·exact .inr (.inr (.inr (.inr (.inr (.inr (.inl hq))))))
   ·exact .inr (.inr (.inr (.inr (.inr (.inr (.inr (.inr hq)))))))
  ·exact ak λc w h0 h1 h2 hq=>by simp only[h1,h2,h0];omega
  ·rintro _ s4 ⟨t4,pM,nw,A9,j2,Gu,xB⟩
   obtain⟨s5,hp5,tn⟩:=(pM.tT Gu).first
   refine⟨_,hp5,_,.ready,none,s5,rfl,(λh=>LoopState.noConfusion h),?_⟩
   refine Wo (Wj rfl rfl (bM (by omega)) (Wv rfl (Wn ?_)))
   refine⟨fs.length-(q+1),by omega,q+1,D::Ds,nw,A9,j2++(m++j),rfl,hlt,rfl,aH.bK (m:=[_]) (tn.tT (ak λc w h0 h1 h2 hq=>by simp only[h1,h2,List.map_cons,List.cons_append];omega)),by rw[gc];exact xB,aa rfl (aa rfl (aa rfl (aa rfl aB)))⟩
 ·refine Wx ?_
  have:q=fs.length:=by
   have:¬q<fs.length:=λh=>by rw[fw,show Nat.blt q fs.length=true from bh.2 h]at ht;cases ht
   omega
  subst this
  rw[List.take_length]at hG
  show WP P K none 57 Lu _ _ _ _ _ _
  unfold Lu
  obtain⟨u,hu,hback⟩:=hs'.split
  refine Wq (Wl rfl (hs'.mem (.app .here)) rfl rfl rfl (Wv rfl (Wn (We ?_))))
  refine⟨Ds,u++((b9,.r false [[lv]] 1)::(og++(j++t0))),rfl,ak λc w h0 h1 h2 hq=>by rw[hq _ _ hu];simp only[h1,h2];omega,[lv],.tmp rfl .nil,hR _ _ og ((b9,.r false [[lv]] 1)::j) (aH.bK ?_) hG⟩
  have:=hback ((b9,.r false [[lv]] 1)::(og++(j++t0)))
  exact this.tT (ak λc w h0 h1 h2 hq=>by simp only[h1,h2];omega)
def uY (g:ED->CH->CH)(d:SD)(C:List CD)(id:Int):Option CH:=
 match d.onF C id with
 | none=>none
 | some (o,c)=>if c.kind=2 then some (tK g ⟨c.power,c.qn,c.keys⟩ (qy d C o))else none
structure nG (P:Program)(K:Orc)(F:Nat->FuncId)(g:ED->CH->CH)(d:SD)(C:List CD):Prop where
 ok:nF d C
 step:∀o,∀e∈qy d C o,lQ P K F g e
 any:∀o(c:CH)R,R.Perm (qy d C o)->tK g c R=tK g c (qy d C o)
def rH (k:Int):Bool:=match binV .and (iv k) (iv 32)with | some (.int _ n)=>decide (n=0) | _=>false
def gY (g:ED->CH->CH)(d:SD)(C:List CD)(aQ:Int)(o:OD):Bool:=match uY g d C o.id with | some x=>decide (o.aQ=aQ)||rH x.k | none=>false
def wq (g:ED->CH->CH)(d:SD)(C:List CD)(aQ:Int)(o:OD):Bool:=match uY g d C o.id with | some _=>decide (o.aQ=aQ) | none=>false
def jf (C:List CD)(o:OD):Bool:=match C[o.gE.toNat]? with | some c=>decide (c.kind=4) | none=>false
theorem Tl (a b:Int):∃n,binV .and (iv a) (iv b)=some (iv n):=by
 show∃n,bits .and .i64 a b=some (iv n)
 unfold bits
 split
 ·split
  ·exact⟨_,aL _ _⟩
  ·exact⟨_,rfl⟩
 ·exact⟨_,rfl⟩
theorem qq.val {g:ED->CH->CH}{C:List CD}{id:Int}{v:AV}(h:qq g d C id v)(hO:nG P K F g d C):v=match uY g d C id with | some x=>.tuple [.agg x.row,.bool true] | none=>.tuple [.agg (⟨0,0,0⟩:CH).row,.bool false]:=by
 unfold uY
 rcases h with⟨o,c,R,h1,h2,_,_,h3,rfl⟩|⟨h1,rfl⟩
 ·rw[h1]
  simp only[if_pos h2,hO.any o _ R h3]
 ·cases ho:d.onF C id with
  | none=>rfl
  | some p=>
   obtain⟨o,c⟩:=p
   simp only[if_neg (h1 o c ho)]
theorem pE (hB:Base P K F T)(hC:BaseC P K F T)(hT:TyC P T){g:ED->CH->CH}{C:List CD}{id:Int}(hs:aH bl EL d t s)(hd:d.Small)(hf:Has bf (.r false [bu bl aZ c0 c1 c2 c3 c4 bE] 8) t)(eQ:cI t aZ C)(hO:nG P K F g d C) :
  bB P K (F 30) [.ptr (some ⟨bf,0,0⟩),iv id] s (λv s'=>v=(match uY g d C id with | some x=>.tuple [.agg x.row,.bool true] | none=>.tuple [.agg (⟨0,0,0⟩:CH).row,.bool false])/\aH bl EL d t s'):=
 (BT hB hC hT hs hd hf eQ hO.ok hO.step).post λv s'⟨h1,h2⟩=>⟨h1.val hO,h2⟩
theorem vE (hB:Base P K F T)(hC:BaseC P K F T)(hG:BaseG P K F T)(hT:TyC P T){tF:TypeId}(hM:gA P F tF){g:ED->CH->CH}{C:List CD}{o:OD}{b1:Nat}{aQ:Int}(hs:aH bl EL d t s)(hd:d.Small)(hf:Has bf (.r false [bu bl aZ c0 c1 c2 c3 c4 bE] 8) t)(h1:Has b1 (.r false [[.iface tF (.ptr (some ⟨bf,0,0⟩)),iv aQ]] 2) t)(eQ:cI t aZ C)(hO:nG P K F g d C) :
  bB P K (F 115) [.agg o.row,.ptr (some ⟨b1,0,0⟩)] s (λv s'=>v=.bool (gY g d C aQ o)/\aH bl EL d t s'):=by
 refine hG.f115.cF (by simp) ?_
 unfold SG
 refine Wq (Wa (.box rfl rfl) λb2=>Wv rfl (Wn ?_))
 have nr:aH bl EL d ((b2,.r false [o.row] 14)::t) ((b2,.r false [o.row] 14)::s):=hs.cons
 refine Wq (Wf rfl (Wl rfl (.there (hs.mem h1)) rfl rfl rfl (Wf rfl (Wl rfl .here rfl rfl rfl (Ww (WS.invoke (vs:=[iv o.id]) rfl hM.chars rfl (pE hB hC hT nr hd (.there hf) (eQ.mono λp hp=>by simp[hp]) hO) ?_))))))
 rintro w s2 ⟨rfl,dt⟩
 unfold gY
 cases hc:uY g d C o.id with
 | none=>
  refine Wv rfl (Wr (.extract rfl rfl) (Wr (.extract rfl rfl) (Wa (.alloc rfl) λb4=>Ww (Wt rfl rfl rfl .here rfl rfl (Wv rfl (Wn ?_))))))
  refine Wq (Wv rfl (Wv rfl (Wk rfl rfl (Wk rfl rfl (Wk rfl rfl (Wk rfl rfl (Wk rfl rfl (Wk rfl rfl (Wu rfl (Wu rfl (Wu rfl (Wu rfl (Wk rfl rfl (Wr (.bj rfl rfl) (Wv rfl (Wn (We (Wm (.tmp rfl .nil) ?_))))))))))))))))))
  exact⟨rfl,aH.bK (m:=[_]) dt.tail⟩
 | some x=>
  obtain⟨n,hn⟩:=Tl x.k 32
  have hw:rH x.k=decide (n=0):=by unfold rH;rw[hn]
  refine Wv rfl (Wr (.extract rfl rfl) (Wr (.extract rfl rfl) (Wa (.alloc rfl) λb4=>Ww (Wt (s':=(b4,.r false [x.row] 3)::_) rfl rfl rfl .here rfl rfl (Wv rfl (Wn ?_))))))
  refine Wq (Wv rfl (Wv rfl (Wy rfl rfl (Wf rfl (Wy rfl rfl (Wl rfl (.there (dt.mem .here)) rfl rfl rfl (Wy rfl rfl (Wf rfl (Wy rfl rfl (Wl rfl (.there (dt.mem (.there h1))) rfl rfl rfl (Wy rfl rfl (Wh rfl rfl (dM _ _) (Wy rfl rfl (Wv rfl ?_))))))))))))))
  cases Sc:decide (o.aQ=aQ) with
  | true=>
   refine Wk rfl rfl (Wk rfl rfl (Wk rfl rfl (Wk rfl rfl (Wy rfl rfl (Wr (.cV rfl rfl) (Wr (.cV rfl rfl) (Wv rfl (Wn (We (Wm (.tmp rfl .nil) ?_))))))))))
   exact⟨rfl,aH.bK (m:=[_]) dt.tail⟩
  | false=>
   refine Wy rfl rfl (Wf rfl (Wy rfl rfl (Wl rfl .here rfl rfl rfl (Wy rfl rfl (Wj rfl rfl hn (Wy rfl rfl (Wh rfl rfl (dM _ _) (Wy rfl rfl (Wr (.bj rfl rfl) (Wr (.cV rfl rfl) (Wv rfl (Wn (We (Wm (.tmp rfl .nil) ?_))))))))))))))
   exact⟨by show _=AV.bool (false||rH x.k);rw[hw];rfl,aH.bK (m:=[_]) dt.tail⟩
theorem C3 (hB:Base P K F T)(hC:BaseC P K F T)(hG:BaseG P K F T)(hT:TyC P T){tF:TypeId}(hM:gA P F tF){g:ED->CH->CH}{C:List CD}{o:OD}{b1:Nat}{aQ:Int}(hs:aH bl EL d t s)(hd:d.Small)(hf:Has bf (.r false [bu bl aZ c0 c1 c2 c3 c4 bE] 8) t)(h1:Has b1 (.r false [[.iface tF (.ptr (some ⟨bf,0,0⟩)),iv aQ]] 2) t)(eQ:cI t aZ C)(hO:nG P K F g d C) :
  bB P K (F 117) [.agg o.row,.ptr (some ⟨b1,0,0⟩)] s (λv s'=>v=.bool (wq g d C aQ o)/\aH bl EL d t s'):=by
 refine hG.f117.cF (by simp) ?_
 unfold SK
 refine Wq (Wa (.box rfl rfl) λb2=>Wv rfl (Wn ?_))
 have nr:aH bl EL d ((b2,.r false [o.row] 14)::t) ((b2,.r false [o.row] 14)::s):=hs.cons
 refine Wq (Wf rfl (Wl rfl (.there (hs.mem h1)) rfl rfl rfl (Wf rfl (Wl rfl .here rfl rfl rfl (Ww (WS.invoke (vs:=[iv o.id]) rfl hM.chars rfl (pE hB hC hT nr hd (.there hf) (eQ.mono λp hp=>by simp[hp]) hO) ?_))))))
 rintro w s2 ⟨rfl,dt⟩
 unfold wq
 cases hc:uY g d C o.id with
 | none=>
  refine Wv rfl (Wr (.extract rfl rfl) (Wr (.extract rfl rfl) (Wa (.alloc rfl) λb4=>Ww (Wt rfl rfl rfl .here rfl rfl (Wv rfl (Wn ?_))))))
  refine Wq (Wv rfl (Wv rfl (Wk rfl rfl (Wk rfl rfl (Wk rfl rfl (Wk rfl rfl (Wk rfl rfl (Wr (.bj rfl rfl) (Wv rfl (Wn (We (Wm (.tmp rfl .nil) ?_))))))))))))
  exact⟨rfl,aH.bK (m:=[_]) dt.tail⟩
 | some x=>
  refine Wv rfl (Wr (.extract rfl rfl) (Wr (.extract rfl rfl) (Wa (.alloc rfl) λb4=>Ww (Wt (s':=(b4,.r false [x.row] 3)::_) rfl rfl rfl .here rfl rfl (Wv rfl (Wn ?_))))))
  refine Wq (Wv rfl (Wv rfl (Wy rfl rfl (Wf rfl (Wy rfl rfl (Wl rfl (.there (dt.mem .here)) rfl rfl rfl (Wy rfl rfl (Wf rfl (Wy rfl rfl (Wl rfl (.there (dt.mem (.there h1))) rfl rfl rfl (Wy rfl rfl (Wh rfl rfl (dM _ _) (Wr (.cV rfl rfl) (Wv rfl (Wn (We (Wm (.tmp rfl .nil) ?_)))))))))))))))))
  exact⟨rfl,aH.bK (m:=[_]) dt.tail⟩
theorem vG (hG:BaseG P K F T){C:List CD}{o:OD}{b3:Nat}{cv:AV}(h3:Has b3 (.r false [[cv]] 1) s)(eQ:Src s 11 cv (C.map CD.row))(hcd:∃j:Nat,o.gE=.ofNat j/\j<C.length) :
  bB P K (F 118) [.agg o.row,.ptr (some ⟨b3,0,0⟩)] s (λv s'=>v=.bool (jf C o)/\∃m,s'=m++s):=by
 obtain⟨j,hj,A3⟩:=hcd
 have zC:C[j]?=some C[j]:=List.getElem?_eq_getElem A3
 generalize C[j]=c at zC
 have hge:binV .geq (iv o.gE) (iv 0)=some (.bool true):=by
  rw[hj,th,decide_eq_false (show¬Int.ofNat j<0 from Int.not_lt.2 (Int.natCast_nonneg j))];rfl
 have hlt:binV .lss (iv o.gE) (iv (.ofNat C.length))=some (.bool true):=by
  rw[hj,eT,decide_eq_true (show Int.ofNat j<Int.ofNat C.length from Int.ofNat_lt.2 A3)]
 have hlen:lenOf cv=some C.length:=by rw[eQ.lenOf,List.length_map]
 have YY:jf C o=decide (c.kind=4):=by
  unfold jf
  rw[hj]
  show(match C[j]? with | some c=>decide (c.kind=4) | none=>false)=_
  rw[zC]
 rw[YY]
 obtain⟨bc,rc,nc,cc,slc,roc,Mc,rfl,hbc,CC,tl⟩:=eQ.at (i:=j) (by simpa using A3)
 have n9:Mc[rc+j]?=some c.row:=by rw[tl];simp only[List.getElem?_map,zC];rfl
 refine hG.f118.cF (by simp) ?_
 unfold SM
 refine Wq (Wa (.box rfl rfl) λb2=>Wv rfl (Wn ?_))
 refine Wq (Wf rfl (Wl rfl .here rfl rfl rfl (Wj rfl rfl hge (Wv rfl (Wy rfl rfl (Wf rfl (Wy rfl rfl (Wl rfl .here rfl rfl rfl (Wy rfl rfl (Wl rfl (.there h3) rfl rfl rfl (Wy rfl rfl (Wr (.lenS rfl hlen) (Wy rfl rfl (Wj rfl rfl hlt (Wr (.cV rfl rfl) (Wv rfl ?_))))))))))))))))
 refine Wy rfl rfl (Wl rfl (.there h3) rfl rfl rfl (Wy rfl rfl (Wf rfl (Wy rfl rfl (Wl rfl .here rfl rfl rfl (Wy rfl rfl (Wr (.iaddrS rfl (by rw[hj];rfl) CC (by decide)) (Wy rfl rfl (Wf rfl (Wy rfl rfl (Wl rfl (.there hbc) n9 rfl rfl (Wy rfl rfl (Wh rfl rfl (dM _ _) (Wr (.cV rfl rfl) (Wv rfl (Wn (We (Wm (.tmp rfl .nil) ?_))))))))))))))))))
 exact⟨rfl,[_],rfl⟩
def ct (g:ED->CH->CH)(d:SD)(C:List CD)(kind aQ:Int):List TG:=
 if kind=1 then fieldT d (gY g d C aQ) d.fi
 else if kind=2 then playersT d d.pl.length
 else if kind=3 then playersT d d.pl.length++fieldT d (gY g d C aQ) d.fi
 else if kind=4 then fieldT d (wq g d C aQ) d.fi
 else if kind=5 then fieldT d (jf C) d.fi
 else if kind=6 then fJ d.st
 else []
@[reducible] def aX (tF:TypeId)(bf:Nat)(aQ:Int):List AV:=[.iface tF (.ptr (some ⟨bf,0,0⟩)),iv aQ]
theorem F6 (hB:Base P K F T)(hC:BaseC P K F T)(hG:BaseG P K F T)(hT:TyC P T){tF:TypeId}(hM:gA P F tF){aQ:Int}{T0:SH}(hd:d.Small)(hf:Has bf (.r false [bu bl aZ c0 c1 c2 c3 c4 bE] 8) T0) :
  lR P K bl EL d T0 (.func (F 72) [.agg (aX tF bf aQ)] []) (playersT d d.pl.length):=by
 intro fr t s qY hs
 refine c6.func (hG.f72.cF (by simp) ?_)
 unfold Z4
 refine Wq (Wa (.box rfl rfl) λb1=>Wv rfl (Wn ?_))
 refine Wq (Wr (.mkfn rfl rfl) (Wv rfl (Wn (We (Wm (.tmp rfl .nil) ?_)))))
 refine⟨F 116,[.ptr (some ⟨b1,0,0⟩)],[(b1,.r false [aX tF bf aQ] 2)],rfl,hs.cons,?_⟩
 intro y J L0 t' s' hL hY hJ h0 hs'
 exact tU hB hC hG hT hM hY hL hd (λL t2 h=>⟨.ce (hJ L t2 h _ (List.mem_append_left _ (.head _))),.ce (hJ L t2 h _ (List.mem_append_right _ (qY _ hf.mem)))⟩) h0 hs'
theorem RZ (hB:Base P K F T)(hG:BaseG P K F T){tF:TypeId}(hM:gA P F tF){aQ:Int}{T0:SH}(hd:d.Small)(hf:Has bf (.r false [bu bl aZ c0 c1 c2 c3 c4 bE] 8) T0) :
  lR P K bl EL d T0 (.func (F 75) [.agg (aX tF bf aQ)] []) (fJ d.st):=by
 intro fr t s qY hs
 refine c6.func (hG.f75.cF (by simp) ?_)
 unfold Z7
 refine Wq (Wa (.box rfl rfl) λb1=>Wv rfl (Wn ?_))
 refine Wq (Wr (.mkfn rfl rfl) (Wv rfl (Wn (We (Wm (.tmp rfl .nil) ?_)))))
 refine⟨F 119,[.ptr (some ⟨b1,0,0⟩)],[(b1,.r false [aX tF bf aQ] 2)],rfl,hs.cons,?_⟩
 intro y J L0 t' s' hL hY hJ h0 hs'
 exact zO hB hG hM hY hL hd (λL t2 h=>⟨.ce (hJ L t2 h _ (List.mem_append_left _ (.head _))),.ce (hJ L t2 h _ (List.mem_append_right _ (qY _ hf.mem)))⟩) h0 hs'
theorem iZ (hG:BaseG P K F T){ch:List AV}{fn:AV}(hc:partCells 2 (.agg ch)=some ch)(hfn:partCells 1 fn=some [fn]) :
  bB P K (F 114) [.agg ch,fn] s (λv s'=>∃b2 b3,v=.func (F 166) [] [.ptr (some ⟨b2,0,0⟩),.ptr (some ⟨b3,0,0⟩)]/\s'=(b3,.r false [[fn]] 1)::(b2,.r false [ch] 2)::s):=by
 refine hG.f114.cF (by simp) ?_
 unfold SF
 refine Wq (Wa (.box rfl hc) λb2=>Wa (.box rfl hfn) λb3=>Wv rfl (Wn ?_))
 exact Wq (Wr (.mkfn rfl rfl) (Wv rfl (Wn (We (Wm (.tmp rfl .nil) ⟨b2,b3,rfl,rfl⟩)))))
theorem F5 (hB:Base P K F T)(hC:BaseC P K F T)(hG:BaseG P K F T)(hT:TyC P T){tF:TypeId}(hM:gA P F tF){g:ED->CH->CH}{C:List CD}{aQ:Int}{T0:SH}(hd:d.Small)(hf:Has bf (.r false [bu bl aZ c0 c1 c2 c3 c4 bE] 8) T0)(eQ:cI T0 aZ C)(hO:nG P K F g d C) :
  lR P K bl EL d T0 (.func (F 71) [.agg (aX tF bf aQ)] []) (fieldT d (gY g d C aQ) d.fi):=by
 intro fr t s qY hs
 refine c6.func (hG.f71.cF (by simp) ?_)
 unfold Z3
 refine Wq (Wa (.box rfl rfl) λb1=>Wv rfl (Wn ?_))
 refine Wq (Wl rfl .here rfl rfl rfl (Wr (.mkfn rfl rfl) (Ww (Wz [.agg (aX tF bf aQ),.func (F 115) [] [.ptr (some ⟨b1,0,0⟩)]] rfl rfl (iZ hG rfl rfl) ?_))))
 rintro w _ ⟨b2,b3,rfl,rfl⟩
 refine Wv rfl (Wn (We (Wm (.tmp rfl .nil) ?_)))
 refine⟨F 166,_,[(b3,.r false [[.func (F 115) [] [.ptr (some ⟨b1,0,0⟩)]]] 1),(b2,.r false [aX tF bf aQ] 2),(b1,.r false [aX tF bf aQ] 2)],rfl,hs.cons.cons.cons,?_⟩
 intro y J L0 t' s' hL hY hJ h0 hs'
 refine lZ hB hC hG hM hY hL hd hJ (.there .here) .here (.app (.ce (qY _ hf.mem))) (λo ho t2 s2 h2 dt=>c6.func ?_) h0 hs'
 exact vE hB hC hG hT hM dt hd (.ce (h2 _ (List.mem_append_right _ (qY _ hf.mem)))) (.ce (h2 _ (List.mem_append_left _ (.tail _ (.tail _ (.head _)))))) (eQ.mono λp hp=>h2 p (by simp[qY p hp])) hO
theorem RX (hB:Base P K F T)(hC:BaseC P K F T)(hG:BaseG P K F T)(hT:TyC P T){tF:TypeId}(hM:gA P F tF){g:ED->CH->CH}{C:List CD}{aQ:Int}{T0:SH}(hd:d.Small)(hf:Has bf (.r false [bu bl aZ c0 c1 c2 c3 c4 bE] 8) T0)(eQ:cI T0 aZ C)(hO:nG P K F g d C) :
  lR P K bl EL d T0 (.func (F 73) [.agg (aX tF bf aQ)] []) (fieldT d (wq g d C aQ) d.fi):=by
 intro fr t s qY hs
 refine c6.func (hG.f73.cF (by simp) ?_)
 unfold Z5
 refine Wq (Wa (.box rfl rfl) λb1=>Wv rfl (Wn ?_))
 refine Wq (Wl rfl .here rfl rfl rfl (Wr (.mkfn rfl rfl) (Ww (Wz [.agg (aX tF bf aQ),.func (F 117) [] [.ptr (some ⟨b1,0,0⟩)]] rfl rfl (iZ hG rfl rfl) ?_))))
 rintro w _ ⟨b2,b3,rfl,rfl⟩
 refine Wv rfl (Wn (We (Wm (.tmp rfl .nil) ?_)))
 refine⟨F 166,_,[(b3,.r false [[.func (F 117) [] [.ptr (some ⟨b1,0,0⟩)]]] 1),(b2,.r false [aX tF bf aQ] 2),(b1,.r false [aX tF bf aQ] 2)],rfl,hs.cons.cons.cons,?_⟩
 intro y J L0 t' s' hL hY hJ h0 hs'
 refine lZ hB hC hG hM hY hL hd hJ (.there .here) .here (.app (.ce (qY _ hf.mem))) (λo ho t2 s2 h2 dt=>c6.func ?_) h0 hs'
 exact C3 hB hC hG hT hM dt hd (.ce (h2 _ (List.mem_append_right _ (qY _ hf.mem)))) (.ce (h2 _ (List.mem_append_left _ (.tail _ (.tail _ (.head _)))))) (eQ.mono λp hp=>h2 p (by simp[qY p hp])) hO
theorem RY (hB:Base P K F T)(hC:BaseC P K F T)(hG:BaseG P K F T){tF:TypeId}(hM:gA P F tF){C:List CD}{aQ:Int}{T0:SH}(hd:d.Small)(hf:Has bf (.r false [bu bl aZ c0 c1 c2 c3 c4 bE] 8) T0)(eQ:cI T0 aZ C)(hcd:nF d C) :
  lR P K bl EL d T0 (.func (F 74) [.agg (aX tF bf aQ)] []) (fieldT d (jf C) d.fi):=by
 intro fr t s qY hs
 refine c6.func (hG.f74.cF (by simp) ?_)
 unfold Z6
 refine Wq (Wa (.box rfl rfl) λb1=>Wv rfl (Wn ?_))
 have nr:aH bl EL d ((b1,.r false [aX tF bf aQ] 2)::(fr++t)) ((b1,.r false [aX tF bf aQ] 2)::s):=hs.cons
 refine Wq (Wf rfl (Wl rfl .here rfl rfl rfl (Ww (WS.invoke (vs:=[]) rfl hM.aZ rfl (BS hG nr (.there (.app (.ce (qY _ hf.mem)))) (eQ.mono λp hp=>by simp[qY p hp])) ?_))))
 rintro w s2 ⟨m,dt,hw⟩
 refine Wa (.alloc rfl) λb3=>Ww (Wt (s':=(b3,.r false [[w]] 1)::_) rfl rfl hw.part .here rfl rfl (Wn ?_))
 have gw:=dt.cons (p:=(b3,.r false [[w]] 1))
 refine Wq (Wl rfl (gw.mem (.there (.app .here))) rfl rfl rfl (Wr (.mkfn rfl rfl) (Ww (Wz [.agg (aX tF bf aQ),.func (F 118) [] [.ptr (some ⟨b3,0,0⟩)]] rfl rfl (iZ hG rfl rfl) ?_))))
 rintro v _ ⟨b4,b5,rfl,rfl⟩
 refine Wv rfl (Wn (We (Wm (.tmp rfl .nil) ?_)))
 refine⟨F 166,_,(b5,.r false [[.func (F 118) [] [.ptr (some ⟨b3,0,0⟩)]]] 1)::(b4,.r false [aX tF bf aQ] 2)::(b3,.r false [[w]] 1)::(m++[(b1,.r false [aX tF bf aQ] 2)]),rfl,(gw.cons.cons).tT (ak λc w h0 h1 h2 hq=>by simp only[h1,h2,h0];omega),?_⟩
 intro y J L0 t' s' hL hY hJ h0 hs'
 refine lZ hB hC hG hM hY hL hd hJ (.there .here) .here (.app (.ce (qY _ hf.mem))) (λo ho t2 s2 h2 dt=>c6.func ?_) h0 hs'
 refine bB.post (vG hG (dt.mem (.ce (h2 _ (by simp)))) (hw.mono λp hp=>(dt.mem (.ce (h2 p (by simp[hp])))).mem) (hcd.cd o ho)) ?_
 rintro v _ ⟨rfl,m2,rfl⟩
 exact⟨rfl,dt.bK⟩
theorem aaa (hB:Base P K F T)(hC:BaseC P K F T)(hG:BaseG P K F T)(hT:TyC P T){tF:TypeId}(hM:gA P F tF){g:ED->CH->CH}{C:List CD}{kind:Nat}{aQ:Int}(hk:kind<8)(hs:aH bl EL d t s)(hd:d.Small)(hf:Has bf (.r false [bu bl aZ c0 c1 c2 c3 c4 bE] 8) t)(eQ:cI t aZ C)(hO:nG P K F g d C) :
  bB P K (F 26) [.iface tF (.ptr (some ⟨bf,0,0⟩)),iv (.ofNat kind),iv aQ] s (λv s'=>∃o m,aH bl EL d (o++(m++t)) s'/\GrE 2 v (yu (ct g d C (.ofNat kind) aQ)) o):=by
 have hn:=hd.n1
 refine hG.f26.ZH (by simp) ?_
 unfold ZR
 refine Wq (Wv rfl (Wn ?_))
 refine Ws (Wq (Wv rfl (Wh (b:=false) rfl rfl rfl (Wn (Wd rfl fS (λ_=>Wi ?_))))))
 refine Wq (Wv rfl (Wv rfl (Wr (.build (cs:=aX tF bf aQ) rfl rfl) (Wa (.alloc rfl) λb7=>Ww (Wt (s':=(b7,.r false [aX tF bf aQ] 2)::_) rfl rfl rfl .here rfl rfl (Wn ?_))))))
 refine Wq (Wa .mkmap λbm=>Wl rfl (.there .here) rfl rfl rfl (Wr (.mkfn rfl rfl) (Wa (.bslice (L:=[[.func (F 71) [.agg (aX tF bf aQ)] []]]) rfl rfl) λb21=>Ww (WS.ins rfl rfl rfl (.there .here) rfl ?_))))
 refine Wl rfl (.there (.there .here)) rfl rfl rfl (Wr (.mkfn rfl rfl) (Wa (.bslice (L:=[[.func (F 72) [.agg (aX tF bf aQ)] []]]) rfl rfl) λb24=>Ww (WS.ins rfl rfl rfl (.there (.there .here)) rfl ?_)))
 refine Wl rfl (.there (.there (.there .here))) rfl rfl rfl (Wr (.mkfn rfl rfl) (Wl rfl (.there (.there (.there .here))) rfl rfl rfl (Wr (.mkfn rfl rfl) (Wa (.bslice (L:=[[.func (F 72) [.agg (aX tF bf aQ)] []],[.func (F 71) [.agg (aX tF bf aQ)] []]]) rfl rfl) λb29=>Ww (WS.ins rfl rfl rfl (.there (.there (.there .here))) rfl ?_)))))
 refine Wl rfl (.there (.there (.there (.there .here)))) rfl rfl rfl (Wr (.mkfn rfl rfl) (Wa (.bslice (L:=[[.func (F 73) [.agg (aX tF bf aQ)] []]]) rfl rfl) λb32=>Ww (WS.ins rfl rfl rfl (.there (.there (.there (.there .here)))) rfl ?_)))
 refine Wl rfl (.there (.there (.there (.there (.there .here))))) rfl rfl rfl (Wr (.mkfn rfl rfl) (Wa (.bslice (L:=[[.func (F 74) [.agg (aX tF bf aQ)] []]]) rfl rfl) λb35=>Ww (WS.ins rfl rfl rfl (.there (.there (.there (.there (.there .here))))) rfl ?_)))
 refine Wl rfl (.there (.there (.there (.there (.there (.there .here)))))) rfl rfl rfl (Wr (.mkfn rfl rfl) (Wa (.bslice (L:=[[.func (F 75) [.agg (aX tF bf aQ)] []]]) rfl rfl) λb38=>Ww (WS.ins rfl rfl rfl (.there (.there (.there (.there (.there (.there .here)))))) rfl ?_)))
 refine Wv rfl (Wv rfl (Wn ?_))
 refine Wq (Wa (.alloc rfl) λb9=>Wn ?_)
 have l1:=d7 d (gY g d C aQ) d.fi
 have l2:=im d d.pl.length
 have l3:=d7 d (wq g d C aQ) d.fi
 have l4:=d7 d (jf C) d.fi
 have l5:=kB d.st
 have fin:∀{x0 x1 x2 x3 x4 x5 x6 x7:Nat × HO}{w:AV}{s2 o m:SH}{L:List TG},aH bl EL d (o++(m++(x0::x1::x2::x3::x4::x5::x6::x7::t))) s2->GrE 2 w (yu L) o->L=ct g d C (.ofNat kind) aQ->∃o m,aH bl EL d (o++(m++t)) s2/\GrE 2 w (yu (ct g d C (.ofNat kind) aQ)) o:=by
  rintro x0 x1 x2 x3 x4 x5 x6 x7 w s2 o m L h1 h2 rfl
  exact⟨o,m++[x0,x1,x2,x3,x4,x5,x6,x7],by rw[List.append_assoc m];exact h1,h2⟩
 rcases(by omega:kind=0\/kind=1\/kind=2\/kind=3\/kind=4\/kind=5\/kind=6\/kind=7)with rfl|rfl|rfl|rfl|rfl|rfl|rfl|rfl
 ·refine Ws (Wq (Wv rfl (Wv rfl (Wr (.look rfl rfl (.there (.there (.there (.there (.there (.there (.there .here))))))) (o:=none) rfl) (Wr (.lenS rfl rfl) (Wv rfl (Wn ?_)))))))
  exact fW (T0:=t) (fs:=[]) .nil (λx hx=>nomatch hx) (λq hq=>by simp[hq]) (Nat.le_of_ble_eq_true rfl) (Nat.zero_le _) hs.cons.cons.cons.cons.cons.cons.cons.cons.cons (λw s2 o m h1 h2=>fin h1 h2 (by simp[ct])) (aa rfl (aa rfl (aa rfl (aa rfl aB))))
 ·refine Ws (Wq (Wv rfl (Wv rfl (Wr (.look rfl rfl (.there (.there (.there (.there (.there (.there (.there .here))))))) (o:=some (.slice (some ⟨b21,0,0⟩) 1 1 false 1)) rfl) (Wr (.lenS rfl rfl) (Wv rfl (Wn ?_)))))))
  exact fW (T0:=t) (fs:=[(.func (F 71) [.agg (aX tF bf aQ)] [],fieldT d (gY g d C aQ) d.fi)]) (Src.all (L:=[[.func (F 71) [.agg (aX tF bf aQ)] []]]) (.there (.there (.there (.there (.there .here)))))) (λx hx=>by rw[List.mem_singleton.1 hx];exact F5 hB hC hG hT hM hd hf eQ hO) (λq hq=>by simp[hq]) (Nat.le_of_ble_eq_true rfl) (by simp only[List.flatMap_cons,List.flatMap_nil,List.append_nil];omega) hs.cons.cons.cons.cons.cons.cons.cons.cons.cons (λw s2 o m h1 h2=>fin h1 h2 (by simp[ct])) (aa rfl (aa rfl (aa rfl (aa rfl aB))))
 ·refine Ws (Wq (Wv rfl (Wv rfl (Wr (.look rfl rfl (.there (.there (.there (.there (.there (.there (.there .here))))))) (o:=some (.slice (some ⟨b24,0,0⟩) 1 1 false 1)) rfl) (Wr (.lenS rfl rfl) (Wv rfl (Wn ?_)))))))
  exact fW (T0:=t) (fs:=[(.func (F 72) [.agg (aX tF bf aQ)] [],playersT d d.pl.length)]) (Src.all (L:=[[.func (F 72) [.agg (aX tF bf aQ)] []]]) (.there (.there (.there (.there .here))))) (λx hx=>by rw[List.mem_singleton.1 hx];exact F6 hB hC hG hT hM hd hf) (λq hq=>by simp[hq]) (Nat.le_of_ble_eq_true rfl) (by simp only[List.flatMap_cons,List.flatMap_nil,List.append_nil];omega) hs.cons.cons.cons.cons.cons.cons.cons.cons.cons (λw s2 o m h1 h2=>fin h1 h2 (by simp[ct])) (aa rfl (aa rfl (aa rfl (aa rfl aB))))
 ·refine Ws (Wq (Wv rfl (Wv rfl (Wr (.look rfl rfl (.there (.there (.there (.there (.there (.there (.there .here))))))) (o:=some (.slice (some ⟨b29,0,0⟩) 2 2 false 1)) rfl) (Wr (.lenS rfl rfl) (Wv rfl (Wn ?_)))))))
  exact fW (T0:=t) (fs:=[(.func (F 72) [.agg (aX tF bf aQ)] [],playersT d d.pl.length),(.func (F 71) [.agg (aX tF bf aQ)] [],fieldT d (gY g d C aQ) d.fi)]) (Src.all (L:=[[.func (F 72) [.agg (aX tF bf aQ)] []],[.func (F 71) [.agg (aX tF bf aQ)] []]]) (.there (.there (.there .here)))) (λx hx=>by
   rcases List.mem_cons.1 hx with rfl|hx
   ·exact F6 hB hC hG hT hM hd hf
   ·rw[List.mem_singleton.1 hx];exact F5 hB hC hG hT hM hd hf eQ hO) (λq hq=>by simp[hq]) (Nat.le_of_ble_eq_true rfl) (by simp only[List.flatMap_cons,List.flatMap_nil,List.append_nil,List.length_append];omega) hs.cons.cons.cons.cons.cons.cons.cons.cons.cons (λw s2 o m h1 h2=>fin h1 h2 (by simp[ct])) (aa rfl (aa rfl (aa rfl (aa rfl aB))))
 ·refine Ws (Wq (Wv rfl (Wv rfl (Wr (.look rfl rfl (.there (.there (.there (.there (.there (.there (.there .here))))))) (o:=some (.slice (some ⟨b32,0,0⟩) 1 1 false 1)) rfl) (Wr (.lenS rfl rfl) (Wv rfl (Wn ?_)))))))
  exact fW (T0:=t) (fs:=[(.func (F 73) [.agg (aX tF bf aQ)] [],fieldT d (wq g d C aQ) d.fi)]) (Src.all (L:=[[.func (F 73) [.agg (aX tF bf aQ)] []]]) (.there (.there .here))) (λx hx=>by rw[List.mem_singleton.1 hx];exact RX hB hC hG hT hM hd hf eQ hO) (λq hq=>by simp[hq]) (Nat.le_of_ble_eq_true rfl) (by simp only[List.flatMap_cons,List.flatMap_nil,List.append_nil];omega) hs.cons.cons.cons.cons.cons.cons.cons.cons.cons (λw s2 o m h1 h2=>fin h1 h2 (by simp[ct])) (aa rfl (aa rfl (aa rfl (aa rfl aB))))
 ·refine Ws (Wq (Wv rfl (Wv rfl (Wr (.look rfl rfl (.there (.there (.there (.there (.there (.there (.there .here))))))) (o:=some (.slice (some ⟨b35,0,0⟩) 1 1 false 1)) rfl) (Wr (.lenS rfl rfl) (Wv rfl (Wn ?_)))))))
  exact fW (T0:=t) (fs:=[(.func (F 74) [.agg (aX tF bf aQ)] [],fieldT d (jf C) d.fi)]) (Src.all (L:=[[.func (F 74) [.agg (aX tF bf aQ)] []]]) (.there .here)) (λx hx=>by rw[List.mem_singleton.1 hx];exact RY hB hC hG hM hd hf eQ hO.ok) (λq hq=>by simp[hq]) (Nat.le_of_ble_eq_true rfl) (by simp only[List.flatMap_cons,List.flatMap_nil,List.append_nil];omega) hs.cons.cons.cons.cons.cons.cons.cons.cons.cons (λw s2 o m h1 h2=>fin h1 h2 (by simp[ct])) (aa rfl (aa rfl (aa rfl (aa rfl aB))))
 ·refine Ws (Wq (Wv rfl (Wv rfl (Wr (.look rfl rfl (.there (.there (.there (.there (.there (.there (.there .here))))))) (o:=some (.slice (some ⟨b38,0,0⟩) 1 1 false 1)) rfl) (Wr (.lenS rfl rfl) (Wv rfl (Wn ?_)))))))
  exact fW (T0:=t) (fs:=[(.func (F 75) [.agg (aX tF bf aQ)] [],fJ d.st)]) (Src.all (L:=[[.func (F 75) [.agg (aX tF bf aQ)] []]]) .here) (λx hx=>by rw[List.mem_singleton.1 hx];exact RZ hB hG hM hd hf) (λq hq=>by simp[hq]) (Nat.le_of_ble_eq_true rfl) (by simp only[List.flatMap_cons,List.flatMap_nil,List.append_nil];omega) hs.cons.cons.cons.cons.cons.cons.cons.cons.cons (λw s2 o m h1 h2=>fin h1 h2 (by simp[ct])) (aa rfl (aa rfl (aa rfl (aa rfl aB))))
 ·refine Ws (Wq (Wv rfl (Wv rfl (Wr (.look rfl rfl (.there (.there (.there (.there (.there (.there (.there .here))))))) (o:=none) rfl) (Wr (.lenS rfl rfl) (Wv rfl (Wn ?_)))))))
  exact fW (T0:=t) (fs:=[]) .nil (λx hx=>nomatch hx) (λq hq=>by simp[hq]) (Nat.le_of_ble_eq_true rfl) (Nat.zero_le _) hs.cons.cons.cons.cons.cons.cons.cons.cons.cons (λw s2 o m h1 h2=>fin h1 h2 (by simp[ct])) (aa rfl (aa rfl (aa rfl (aa rfl aB))))
theorem nT (hB:Base P K F T)(hC:BaseC P K F T)(hG:BaseG P K F T)(hT:TyC P T){tF:TypeId}(hM:gA P F tF){g:ED->CH->CH}{C:List CD}{kind:Nat}{aQ:Int}(hk:kind<8)(hs:aH bl EL d t s)(hd:d.Small)(hf:Has bf (.r false [bu bl aZ c0 c1 c2 c3 c4 bE] 8) t)(eQ:cI t aZ C)(hO:nG P K F g d C) :
  bB P K (F 26) [.iface tF (.ptr (some ⟨bf,0,0⟩)),iv (.ofNat kind),iv aQ] s (λv s'=>∃m,aH bl EL d (m++t) s'/\Src m 2 v (yu (ct g d C (.ofNat kind) aQ))):=
 (aaa hB hC hG hT hM hk hs hd hf eQ hO).post λv s'⟨o,m,h1,h2⟩=>⟨o++m,by rw[List.append_assoc];exact h1,h2.gr.out.src.mono λp hp=>by simp[hp]⟩
theorem eqT (x y:TG):eqBy 20 (.agg [⟨0,⟨1,⟨false,.pi⟩⟩⟩,⟨1,⟨1,⟨false,.pi⟩⟩⟩]) (.agg x.row) (.agg y.row)=some (decide (x=y)):=by
 have h:eqBy 20 (.agg [⟨0,⟨1,⟨false,.pi⟩⟩⟩,⟨1,⟨1,⟨false,.pi⟩⟩⟩]) (.agg x.row) (.agg y.row)=some (ieq x.p y.p&&ieq x.o y.o):=by
  cases h1:ieq x.p y.p<;>cases h2:ieq x.o y.o<;>simp[eqBy,primEq,aw,part,dJ,keq,h1,h2]
 rw[h,rh,rh]
 obtain⟨a,b⟩:=x
 obtain⟨a',b'⟩:=y
 simp[TG.mk.injEq,Bool.decide_and]
theorem Kd {L:List TG}{i:Nat}(h:i<L.length):(yu L)[i]?=some L[i].row:=by rw[yu,List.getElem?_map,List.getElem?_eq_getElem h];rfl
theorem sd (L:List TG):(yu L).length=L.length:=by simp[yu]
theorem zL (hG:BaseG P K F T){v:AV}{L:List TG}{x:TG}(hv:Src s 2 v (yu L))(hn:L.length<=5000) :
  bB P K (F 120) [v,.agg x.row] s (λw s'=>(∃r:Int,w=iv r/\decide (r<0)=!decide (x∈L))/\∃m,s'=m++s):=by
 refine hG.f120.cF (by simp) ?_
 unfold SO
 have lv:lenOf v=some L.length:=by rw[hv.lenOf,sd]
 refine Wq (Wa (.box rfl rfl) λb3=>Wv rfl (Wn ?_))
 refine Ws (Wq (Wv rfl (Wr (.lenS rfl lv) (Wv rfl (Wn (Wb ?_))))))
 refine Wp (λk l ds s'=>ds=[]/\s'=(b3,.r false [x.row] 2)::s/\∃q,k=L.length-q/\q<=L.length/\(∀j,j<q->L[j]?≠some x)/\∀j w,lk [(0,v),(3,.ptr (some ⟨b3,0,0⟩)),(7,iv (.ofNat L.length)),(8,iv (.ofNat q)),(6,v)] j=some w->lk l j=some w) ?_ (n:=L.length-0) ⟨rfl,rfl,0,rfl,Nat.zero_le _,λj hj=>absurd hj (Nat.not_lt_zero _),aa rfl (aa rfl (aa rfl (aa rfl (aa rfl aB))))⟩
 rintro k l ds s' ⟨rfl,rfl,q,rfl,hq,hno,hl⟩
 refine Wg hl (λ_ _ h=>h) ?_
 refine Wq (Wj rfl rfl rfl (Wn (Ws (Wd rfl (λht=>Wi ?_) (λht=>?_)))))
 ·have hlt:q<L.length:=bh.1 ht
  obtain⟨b,r,no,c,so,ro,M,rfl,hb,PS,hM⟩:=hv.Ko (by rw[sd];omega)
  rw[sd]at PS hM
  refine Ws (Wb (Wq (Wv rfl (Wv rfl (Wn ?_)))))
  refine Ws (WP.bD (Dl rfl .nil (.load rfl .here rfl rfl rfl) (Dp (.mv rfl) (Dp (.mv rfl) (Dp (.iaddrS rfl rfl (by omega) (by omega)) (Dl rfl .nil (.load rfl (.there hb) ((hM q hlt).trans (Kd hlt)) rfl rfl) (Dp (.eql rfl rfl (eqT _ _)) (D0 .nil ?_ (λo ho=>nomatch ho)))))))))
  by_cases he:x=L[q]
  ·rw[decide_eq_true he]
   refine Wd rfl (λ_=>?_) (λh=>by cases h)
   refine Wq (Wv rfl (Wv rfl (Wn (We (Wm (.tmp rfl .nil) ?_)))))
   refine⟨⟨.ofNat q,rfl,?_⟩,[_],rfl⟩
   have:x∈L:=by rw[he];exact List.getElem_mem _
   rw[decide_eq_true this,decide_eq_false (by show¬((q:Nat):Int)<0;omega)]
   rfl
  ·rw[decide_eq_false he]
   refine Wd rfl (λh=>by cases h) (λ_=>Wi ?_)
   refine Wo (Wj rfl rfl (bM (by omega)) (Wv rfl (Wn ?_)))
   refine⟨L.length-(q+1),by omega,rfl,rfl,q+1,rfl,hlt,λj hj=>?_,aa rfl (aa rfl (aa rfl (aa rfl (aa rfl aB))))⟩
   by_cases YC:j=q
   ·subst YC
    rw[List.getElem?_eq_getElem hlt]
    intro h
    exact he (Option.some.inj h).symm
   ·exact hno j (by omega)
 ·refine Wx ?_
  have:q=L.length:=by
   have:¬q<L.length:=λh=>by rw[fw,show Nat.blt q L.length=true from bh.2 h]at ht;cases ht
   omega
  subst this
  refine Wq (Wv rfl (Wn (We (Wm (.tmp rfl .nil) ?_))))
  refine⟨⟨-1,rfl,?_⟩,[_],rfl⟩
  have:¬x∈L:=λh=>by
   obtain⟨j,hj,e⟩:=List.getElem_of_mem h
   exact hno j hj (by rw[List.getElem?_eq_getElem hj,e])
  rw[decide_eq_false this]
  rfl
theorem qK (hG:BaseG P K F T){v:AV}{L:List TG}{x:TG}(hv:Src s 2 v (yu L))(hn:L.length<=5000):bB P K (F 76) [v,.agg x.row] s (λw s'=>w=.bool (decide (x∈L))/\∃m,s'=m++s):=by
 refine hG.f76.cF (by simp) ?_
 unfold Z8
 refine Wq (Wa (.box rfl rfl) λb3=>Wv rfl (Wn ?_))
 refine Wq (Wv rfl (Wl rfl .here rfl rfl rfl (Ww (Wz [v,.agg x.row] rfl rfl (zL hG (hv.mono λp hp=>by simp[hp]) hn) ?_))))
 rintro w _ ⟨⟨r,rfl,hr⟩,m,rfl⟩
 refine Wj rfl rfl (th r 0) (Wv rfl (Wn (We (Wm (.tmp rfl .nil) ?_))))
 refine⟨?_,_,pull yg⟩
 show AV.bool (!decide (r<0))=_
 rw[hr,Bool.not_not]
theorem qJ {g:ED->CH->CH}{C:List CD}{kind aQ:Int}(hd:d.Small):(ct g d C kind aQ).length<=5000:=by
 have hn:=hd.n1
 have l1:=d7 d (gY g d C aQ) d.fi
 have l2:=im d d.pl.length
 have l3:=d7 d (wq g d C aQ) d.fi
 have l4:=d7 d (jf C) d.fi
 have l5:=kB d.st
 unfold ct
 repeat' split
 all_goals first | omega | (rw[List.length_append];omega) | exact Nat.zero_le _
theorem Db (hB:Base P K F T)(hC:BaseC P K F T)(hG:BaseG P K F T)(hT:TyC P T){tF:TypeId}(hM:gA P F tF){g:ED->CH->CH}{C:List CD}{kind:Nat}{aQ:Int}{x:TG}(hk:kind<8)(hs:aH bl EL d t s)(hd:d.Small)(hf:Has bf (.r false [bu bl aZ c0 c1 c2 c3 c4 bE] 8) t)(eQ:cI t aZ C)(hO:nG P K F g d C) :
  bB P K (F 27) [.iface tF (.ptr (some ⟨bf,0,0⟩)),iv (.ofNat kind),iv aQ,.agg x.row] s (λv s'=>v=.bool (decide (x∈ct g d C (.ofNat kind) aQ))/\aH bl EL d t s'):=by
 refine hG.f27.cF (by simp) ?_
 unfold ZS
 refine Wq (Wa (.box rfl rfl) λb7=>Wv rfl (Wn ?_))
 have nr:aH bl EL d ((b7,.r false [x.row] 2)::t) ((b7,.r false [x.row] 2)::s):=hs.cons
 refine Ws (WP.bD (Dp (.mv rfl) (Dp (.mv rfl) (Dp (.mv rfl) (Dc .nil (Wz [.iface tF (.ptr (some ⟨bf,0,0⟩)),iv (.ofNat kind),iv aQ] rfl rfl (nT hB hC hG hT hM hk nr hd (.there hf) (eQ.mono λp hp=>by simp[hp]) hO) ?_))))))
 rintro w s2 ⟨m,dt,hw⟩
 refine WD.lk rfl .nil (.load rfl (dt.mem (.app .here)) rfl rfl rfl) (Dc .nil (Wz [w,.agg x.row] rfl rfl (qK hG (hw.mono λp hp=>(dt.mem (.ce (List.mem_append_left _ hp))).mem) (qJ hd)) ?_))
 rintro w _ ⟨rfl,m2,rfl⟩
 refine Dp (.mv rfl) (D0 .nil ?_ ?_)
 rotate_left
 ·intro o ho
  rw[List.mem_singleton.1 ho]
  refine⟨(λi hi=>nomatch hi),Nat.zero_le _,by simp[dz,sameN,sameL,same0,keq,gd],λk _ hk=>?_⟩
  rcases(by have:k<=1:=hk;omega:k=0\/k=1)with rfl|rfl
  ·exact⟨_,rfl,.load rfl .here rfl rfl rfl⟩
  ·exact⟨_,rfl,.load rfl (dt.mem (.app .here)) rfl rfl rfl⟩
 exact We (Wm (.tmp rfl .nil) ⟨rfl,aH.bK (aH.tail dt.fb)⟩)
theorem Jp (hG:BaseG P K F T)(ht:Ty P (T 66) 2){id:Int}:bB P K (F 28) [iv id] s (λv s'=>v=.agg (⟨0,id⟩:TG).row/\∃m,s'=m++s):=by
 refine hG.f28.cF (by simp) ?_
 unfold ZT
 refine Wq (Wa (.alloc rfl) λb2=>Wn ?_)
 refine Wq (Wv rfl (Wr (.build rfl rfl) (Ww (Wt rfl rfl rfl .here rfl rfl (Wn (We (Wm (.cell rfl ht.1 ht.2 (.inl rfl) .here rfl rfl rfl .nil) ?_)))))))
 exact⟨rfl,[_],rfl⟩
structure BaseM (P:Program)(K:Orc)(F:Nat->FuncId)(T:Nat->TypeId):Prop where
def Zs (a b:Int):Int:=match binV .or (iv a) (iv b)with | some (.int _ n)=>n | _=>0
def gK (e:ED)(c:CH):CH:=⟨c.p,c.t,Zs c.k e.a⟩
theorem Zt (a b:Int):binV .or (iv a) (iv b)=some (iv (Zs a b)):=by
 have:∃n,binV .or (iv a) (iv b)=some (iv n):=by
  show∃n,bits .or .i64 a b=some (iv n)
  unfold bits
  split
  ·split
   ·exact⟨_,aL _ _⟩
   ·exact⟨_,rfl⟩
  ·exact⟨_,rfl⟩
 obtain⟨n,h⟩:=this
 unfold Zs
 rw[h]
theorem DI {d:SD}{C:List CD}(h:∀c∈C,c.ab.length<=1)(b:OD)(n:Int):(oneE d C b n).length<=1:=by
 unfold oneE
 split
 ·exact Nat.zero_le _
 ·split
  ·exact Nat.zero_le _
  ·split
   ·exact Nat.zero_le _
   ·rename_i c hc
    exact Nat.le_trans (sx _ _ _) (h c (List.mem_of_getElem? hc))
theorem N4 {d:SD}{C:List CD}(h:∀c∈C,c.ab.length<=1)(hf:d.fi.length<=20)(b:OD):(d.fi.flatMap (oneE d C b)).length<=20:=by
 refine Nat.le_trans ?_ hf
 generalize d.fi=l
 induction l with
 | nil=>exact Nat.le_refl _
 | cons n l ih=>
  have:=DI (d:=d) h b n
  rw[List.flatMap_cons,List.length_append,List.length_cons]
  omega
theorem sA {d:SD}{C:List CD}{b:OD}{e:ED}(h:e∈qy d C b):∃c∈C,∃x∈c.ab,x.kind=4/\e.op=x.op/\e.a=x.a/\e.b=x.b:=by
 obtain⟨h1,_⟩:=List.mem_filter.1 h
 obtain⟨n,_,h2⟩:=List.mem_flatMap.1 h1
 unfold oneE at h2
 split at h2
 ·cases h2
 ·split at h2
  ·cases h2
  ·split at h2
   ·cases h2
   ·rename_i c hc
    obtain⟨x,h3,rfl⟩:=List.mem_map.1 h2
    obtain⟨h4,h5⟩:=List.mem_filter.1 h3
    exact⟨c,List.mem_of_getElem? hc,x,h4,of_decide_eq_true (Bool.and_eq_true_iff.1 h5).1,rfl,rfl,rfl⟩
theorem C4 (hC:BaseC P K F T){e:ED}(he:e.op=1):lQ P K F gK e:=by
 refine⟨F 233,by unfold rowOf cx;rw[if_pos he,if_pos he],λb c s=>?_⟩
 refine hC.f233.cF (by simp) ?_
 unfold S9
 refine Wq (Wa (.box rfl rfl) λb3=>Wn ?_)
 refine WP.bD (Dp (.mv rfl) (Dp (.nilchk rfl rfl) (Dp (.faddr rfl) (Dl rfl .nil (.load rfl (.there .here) rfl rfl rfl) (Dp (.faddr rfl) (Dl rfl .nil (.load rfl .here rfl rfl rfl) (Dp (.arith rfl rfl (Zt _ _)) (Dp (.nilchk rfl rfl) (Dp (.faddr rfl) (Dc .nil (Wt (s':=_::(b,.r false [(gK e c).row] 3)::_) rfl rfl rfl (.there .here) rfl rfl (D0 .nil (Wm .nil ?_) (λo ho=>nomatch ho)))))))))))))
 exact⟨[_],rfl⟩
def sm:List CD:=[⟨⟨#[98,101,97,115,116]⟩,2,0,0,0,0,0,1,1,0,nilS,[]⟩,⟨⟨#[115,97,105,110,116]⟩,2,0,0,0,0,0,0,2,32,nilS,[]⟩,⟨⟨#[114,101,108,105,99]⟩,4,0,0,0,0,0,0,0,0,nilS,[]⟩,⟨⟨#[108,97,110,100]⟩,1,0,0,0,0,0,0,0,0,nilS,[]⟩,
 ⟨⟨#[100,111,109,101]⟩,4,0,0,0,0,0,0,0,0,.slice (some ⟨1,0,0⟩) 1 1 false 13,[⟨4,0,1,0,0,0,0,false,nilS,nilS,1,32,0⟩]⟩]
theorem nj {Q:CD->Prop}(h1:∀c:CD,c.ab=[]->c.av=nilS->Q c)(h2:∀c:CD,c.ab=[⟨4,0,1,0,0,0,0,false,nilS,nilS,1,32,0⟩]->c.av=.slice (some ⟨1,0,0⟩) 1 1 false 13->Q c):∀c∈sm,Q c:=by
 intro c hc
 simp only[sm,List.mem_cons,List.not_mem_nil,or_false]at hc
 rcases hc with rfl|rfl|rfl|rfl|rfl
 ·exact h1 _ rfl rfl
 ·exact h1 _ rfl rfl
 ·exact h1 _ rfl rfl
 ·exact h1 _ rfl rfl
 ·exact h2 _ rfl rfl
theorem BG {c:CD}(hc:c∈sm){x:AD}(hx:x∈c.ab):x.who=1/\x.op=1/\x.a=32:=by
 revert x
 refine nj (Q:=λc=>∀{x:AD},x∈c.ab->x.who=1/\x.op=1/\x.a=32) ?_ ?_ c hc
 ·intro c h _ x hx
  rw[h]at hx;cases hx
 ·intro c h _ x hx
  rw[h]at hx
  rw[List.mem_singleton.1 hx]
  exact⟨rfl,rfl,rfl⟩
theorem yT {s:SH}(h1:Has 200 (.r false (sm.map CD.row) 11) s)(h2:Has 1 (.r false [(⟨4,0,1,0,0,0,0,false,nilS,nilS,1,32,0⟩:AD).row] 13) s):cI s (.slice (some ⟨200,0,0⟩) 5 5 true 11) sm where
 src:=Src.all (L:=sm.map CD.row) h1
 ab:=nj (λc h h'=>by rw[h,h'];exact .nil) (λc h h'=>by rw[h,h'];exact Src.all (L:=[_]) h2)
 n:=by decide
 nb:=nj (λc h _=>by rw[h];exact Nat.zero_le _) (λc h _=>by rw[h];exact Nat.le_of_ble_eq_true rfl)
theorem Tu (hC:BaseC P K F T){d:SD}(hcd:∀o∈d.ob,∃j:Nat,o.gE=.ofNat j/\j<5)(hf:d.fi.length<=20):nG P K F gK d sm where
 ok:=⟨hcd,λc hc x hx _=>.inl (BG hc hx).1,N4 (nj (λc h _=>by rw[h];exact Nat.zero_le _) (λc h _=>by rw[h];exact Nat.le_refl _)) hf⟩
 step o e he:=by
  obtain⟨c,hc,x,hx,_,h1,_⟩:=sA he
  exact C4 hC (by rw[h1];exact(BG hc hx).2.1)
 any o c R hR:=by
  unfold tK
  rw[hR.foldl_eq' λx hx y hy z=>?_]
  have ha:∀e∈R,e.a=32:=λe he=>by
   obtain⟨c,hc,x,hx,_,_,h2,_⟩:=sA (hR.mem_iff.1 he)
   rw[h2];exact(BG hc hx).2.2
  unfold gK
  rw[ha x hx,ha y hy]
def Ta (F:Nat->FuncId)(T:Nat->TypeId):AC:=(.seq (.seq (.ops [zm 26 9,zm 27 1,zo 28 (.lenS (zt 27)),zo 29 (.arith .lss (zt 26) (zt 28)),zm 30 29,zg 31 (.mv (zt 9)) 30 true,zg 32 (.arith .lss (zt 31) (zc 20)) 30 true,zo 33 (.pick (zt 30) (zt 32) (.const (.bool false)))]) (.cond (zt 33) .skip (.exit 0))) (.seq (.block 1 (.drawn 1 [zp (zm 36 8) 0,zp (zm 37 6) 0,zp (zm 38 1) 0,zp (zm 39 9) 0,zp (zo 40 (.iaddrS 2 (zt 38) (zt 39))) 12,zp (zf 41 1 40) 28,zr (zl 42 41) 0 0 60,zp (zo 43 (.arith .rem (zt 42) (.const (.int .u8 (.ofNat 3))))) 124,zp (zo 44 (.convI .i64 (zt 43))) 252,zp (zm 45 1) 0,zp (zm 46 9) 0,zp (zo 47 (.iaddrS 2 (zt 45) (zt 46))) 1536,zp (zf 48 0 47) 3584,zr (zl 49 48) 0 0 7680,zp (zo 50 (.arith .rem (zt 49) (.const (.int .u8 (.ofNat 5))))) 15872,zp (zo 51 (.convI .i64 (zt 50))) 32256,zp (zo 52 (.build mB [⟨0,⟨1,(zc 1)⟩⟩,⟨1,⟨1,(zt 44)⟩⟩,⟨2,⟨1,(zt 51)⟩⟩,⟨3,⟨1,(zc 2)⟩⟩])) 65532,zh (zo 53 (.call (.func (F 15)) [(zt 37),(zt 52)])) 131070,⟨zo 54 (.bslice 1 1 [(za 0)] [⟨0,(zt 53)⟩]),.dalloc,0,0,262142⟩,zh (zo 55 (.append 1 8 (zt 36) (zt 54))) 524287,zp (zm 8 55) 1048575])) (.ops [zm 34 9,zo 35 (.arith .add (zt 34) (zc 1)),zm 9 35])))
def GG (F:Nat->FuncId)(T:Nat->TypeId):AC:=(.seq (.seq (.ops [zm 56 0]) (.cond (zt 56) (.ops [zm 57 6,zo 58 (.build mB [⟨0,⟨1,(zc 23)⟩⟩,⟨1,⟨1,(zc 2)⟩⟩]),zo 59 (.call (.func (F 15)) [(zt 57),(zt 58)])]) .skip)) (.seq (.ops [zm 60 6,zm 61 8,zm 4 60,zm 5 61]) .ret))
def Bp (F:Nat->FuncId)(T:Nat->TypeId):AC:=(.seq (.seq (.ops [zo 9 (.mv (zc 0))]) (.block 0 (.loop (Ta F T)))) (GG F T))
def Zz:LD:=⟨20,0,0,0,0,false,false,false⟩
def d5:SD:=⟨[Zz,Zz,Zz],[],[[],[],[]],[[],[],[]],[[],[],[]],[[],[],[]],[],[],[],1,0,0,0,0,0,1,1,0,0,0,0,false,0,0⟩
def Jo (ps cs:Nat->Nat)(j:Nat):OD:=⟨.ofNat (j+1),.ofNat (cs j),.ofNat (ps j),.ofNat (ps j),2,false,true,false,0,.ofNat (j+1),0,0,false⟩
def fI (n:Nat):List Int:=(List.range n).map λj=>.ofNat (j+1)
def dT (ps cs:Nat->Nat)(n:Nat):SD:={ d5 with nx:=.ofNat (n+1),sp:=.ofNat (n+1),ob:=(List.range n).map (Jo ps cs),fi:=fI n }
theorem Ij (ps cs:Nat->Nat)(n:Nat):(dT ps cs n).add (pY (ps n) (.ofNat (cs n)) 2 0) (ps n)=dT ps cs (n+1):=by
 have h:∀(d:SD)(o:OD)(p:Nat),o.ci=2->d.add o p={ d with nx:=d.nx+1,sp:=d.sp+1,ob:=d.ob++[o.new2 d.nx d.sp],fi:=d.fi++[d.nx] }:=by
  intro d o p hz
  unfold SD.add
  rw[if_pos hz,hz]
  rfl
 rw[h _ _ _ rfl]
 show({ dT ps cs n with nx:=.ofNat (n+1+1),sp:=.ofNat (n+1+1),ob:=(List.range n).map (Jo ps cs)++[Jo ps cs n],fi:=fI n++[.ofNat (n+1)] }:SD)=dT ps cs (n+1)
 unfold dT fI
 rw[List.range_succ,List.map_append,List.map_append]
 rfl
theorem xn (ps cs:Nat->Nat)(n:Nat):(dT ps cs n).kQ:=⟨rfl,rfl,rfl,rfl⟩
theorem iY (ps cs:Nat->Nat){n:Nat}(hn:n<=20):(dT ps cs n).Small:=by
 refine⟨⟨by show 3<=1000;omega,by simp only[dT,List.length_map,List.length_range];omega,by simp only[dT,fI,List.length_map,List.length_range];omega,Nat.zero_le _,Nat.zero_le _⟩,λLL hL=>?_⟩
 have:LL=[[],[],[]]:=by rcases hL with rfl | rfl | rfl | rfl<;>rfl
 subst this
 refine⟨by decide,λbX hl=>?_⟩
 simp only[List.mem_cons,List.not_mem_nil,or_false,or_self]at hl
 rw[hl]
 exact Nat.zero_le _
structure nH (P:Program)(K:Orc)(F:Nat->FuncId):Prop where
 cN:∀p c:Nat,p<3->c<5->∀s,bB P K (F 201) [.agg (evRow 1 (.ofNat p) (.ofNat c) 2 0 it0)] s (λv s'=>v=iv 0/\s'=s)
 cM:∀a:Int,1<=a/\a<=1000000->∀s,bB P K (F 201) [.agg (evRow 2 a 3 0 0 it0)] s (λv s'=>v=iv 0/\s'=s)
structure WI (t:SH)(lv:AV)(L:List (List AV))(ps cs:Nat->Nat):Prop where
 len:lenOf lv=some L.length
 at':0<L.length->∃rb cap sl,lv=.slice (some ⟨rb,0,0⟩) L.length cap sl 2/\Has rb (.r true L 2) t
 b:∀i,i<L.length->∃x y:Nat,x<=255/\y<=255/\L[i]?=some [.int .u8 (.ofNat x),.int .u8 (.ofNat y)]/\x%5=cs i/\y%3=ps i
theorem apT (hB:Base P K F T)(hc:nH P K F){ps cs:Nat->Nat}{n:Nat}(hn:n<=20)(hp:ps n<3)(hcs:cs n<5):Ap P K F 1 (.ofNat (ps n)) (.ofNat (cs n)) 2 0 it0 (dT ps cs n) (dT ps cs (n+1)):=by
 intro pv ov lv hv gv ev fv sv wv s h
 rw[<- Ij]
 exact sC hB h (iY ps cs hn) (xn ps cs n) hp ⟨by show(0:Int)<=((n+1:Nat):Int);omega,by show((n+1:Nat):Int)<=1000000;omega⟩ ⟨by show(0:Int)<=((n+1:Nat):Int);omega,by show((n+1:Nat):Int)<=1000000;omega⟩ (hc.cN _ _ hp hcs)
theorem N3 (hB:Base P K F T)(hc:nH P K F){lost:Bool}{lv:AV}{L:List (List AV)}{ps cs:Nat->Nat}(hL:WI t lv L ps cs)(hs:aH bl [] d5 t s)(hf:Has bf (.r false [bu bl aZ 60 c1 c2 c3 c4 bE] 8) t)
  (e0:lk l 0=some (.bool lost)) (e1:lk l 1=some lv) (e6:lk l 6=some (.ptr (some ⟨bf,0,0⟩))) (e8:lk l 8=some nilS)
  (hk:∀l2 s2 ids og j Gg n,n=min L.length 20->Gg.length<=20->aH bl Gg (dT ps cs n) (og++(j++t)) s2->Gr 1 ids (nR (fI n)) og->(∀i w,lk [(0,.bool lost),(6,.ptr (some ⟨bf,0,0⟩)),(8,ids)] i=some w->lk l2 i=some w)->WP P K none 62 (GG F T) l2 [] s2 Qn Qe Qr) :
  WP P K none 62 (Bp F T) l [] s Qn Qe Qr:=by
 unfold Bp
 refine Ws (Wq (Wv rfl (Wn (Wb ?_))))
 unfold Ta
 generalize hN:min L.length 20=N
 have hN1:N<=L.length/\N<=20/\(N=L.length\/N=20):=by omega
 refine Wp (λk l ds s'=>ds=[]/\∃q ids og j Gg,k=N-q/\q<=N/\Gg.length<=q/\aH bl Gg (dT ps cs q) (og++(j++t)) s'/\Gr 1 ids (nR (fI q)) og/\∀i w,lk [(0,.bool lost),(1,lv),(6,.ptr (some ⟨bf,0,0⟩)),(8,ids),(9,iv (.ofNat q))] i=some w->lk l i=some w) ?_ (n:=N-0)
  ⟨rfl,0,nilS,[],[],[],rfl,Nat.zero_le _,Nat.le_refl _,hs,.nil,aa e0 (aa e1 (aa e6 (aa e8 (aa rfl aB))))⟩
 rintro k l ds s' ⟨rfl,q,ids,og,j,Gg,rfl,hq,hE,hs',hG,hl⟩
 refine Wg hl (λ_ _ h=>h) ?_
 by_cases hlt:q<N
 ·have Pv:binV .lss (iv (.ofNat q)) (iv (.ofNat L.length))=some (.bool true):=by rw[eT,decide_eq_true (show Int.ofNat q<Int.ofNat L.length from Int.ofNat_lt.2 (by omega))]
  have XJ:binV .lss (iv (.ofNat q)) (iv 20)=some (.bool true):=by rw[eT,decide_eq_true (show Int.ofNat q<20 from(by omega:((q:Nat):Int)<20))]
  refine Ws (Wq (Wv rfl (Wv rfl (Wr (.lenS rfl hL.len) (Wj rfl rfl Pv (Wv rfl (Wy rfl rfl (Wv rfl (Wy rfl rfl (Wj rfl rfl XJ (Wr (.cV rfl rfl) (Wn (Wd rfl (λ_=>Wi ?_) Dz)))))))))))))
  obtain⟨x,y,hx,hy,hrow,hcx,hpy⟩:=hL.b q (by omega)
  obtain⟨rb,cap,sl,rfl,hrb⟩:=hL.at' (by omega)
  have UO:ps q<3:=by rw[<- hpy];exact Nat.mod_lt _ (by omega)
  have hc5:cs q<5:=by rw[<- hcx];exact Nat.mod_lt _ (by omega)
  have h43:binV .rem (.int .u8 (.ofNat y)) (.int .u8 (.ofNat 3))=some (.int .u8 (.ofNat (ps q))):=by rw[<- hpy];exact yi (by omega)
  have h50:binV .rem (.int .u8 (.ofNat x)) (.int .u8 (.ofNat 5))=some (.int .u8 (.ofNat (cs q))):=by rw[<- hcx];exact yi (by omega)
  have XK:mkI .i64 (.ofNat (ps q))=some (iv (.ofNat (ps q))):=tD (by omega)
  have h51:mkI .i64 (.ofNat (cs q))=some (iv (.ofNat (cs q))):=tD (by omega)
  have hsm:=iY ps cs (n:=q) (by omega)
  have Y0:=iY ps cs (n:=q+1) (by omega)
  refine Ws (Wb (WP.fd λTm=>?_))
  have dt:aH bl Gg (dT ps cs q) ((Tm,.gone)::(og++(j++t))) ((Tm,.gone)::s'):=hs'.cons
  refine Dp (.mv rfl) (Dp (.mv rfl) (Dp (.mv rfl) (Dp (.mv rfl) (Dp (.iaddrS rfl rfl (by omega) (by omega)) (Dp (.faddr rfl) (Dl rfl .nil (.load rfl (.there (hs'.mem (.app (.app hrb)))) (r:=0+q) (by rw[Nat.zero_add];exact hrow) rfl rfl) (Dp (.arith rfl rfl h43) (Dp (.convI rfl XK) ?_))))))))
  refine Dp (.mv rfl) (Dp (.mv rfl) (Dp (.iaddrS rfl rfl (by omega) (by omega)) (Dp (.faddr rfl) (Dl rfl .nil (.load rfl (.there (hs'.mem (.app (.app hrb)))) (r:=0+q) (by rw[Nat.zero_add];exact hrow) rfl rfl) (Dp (.arith rfl rfl h50) (Dp (.convI rfl h51) ?_))))))
  refine Dp (.build (cs:=evRow 1 (.ofNat (ps q)) (.ofNat (cs q)) 2 0 it0) rfl rfl) (Dc .nil (WS.perm (Wz [.ptr (some ⟨bf,0,0⟩),.agg (evRow 1 (.ofNat (ps q)) (.ofNat (cs q)) 2 0 it0)] rfl rfl (u5 hB dt hsm (.there (.app (.app hf))) (by omega) (by simp only[dT,List.length_map,List.length_range];rw[du];exact decide_eq_true (show((q:Nat):Int)<60 by omega)) (apT hB hc (by omega) UO hc5) Y0 ⟨by show(1:Int)<=((q+1+1:Nat):Int);omega,by show((q+1+1:Nat):Int)<=1000000;omega⟩) ?_)))
  rintro w s3 ⟨rfl,gw⟩
  obtain⟨u,hu,hback⟩:=gw.split
  have hid:(dT ps cs (q+1)).nx-1=.ofNat (q+1):=by show((q+1+1:Nat):Int)-1=((q+1:Nat):Int);omega
  rw[hid]
  refine⟨_,hu,WD.al (.bslice (L:=[[iv (.ofNat (q+1))]]) (fZ rfl rfl) rfl) rfl ?_⟩
  refine Dc (.yes rfl rfl (.app .here) .nil) (WS.pre (s':=((Tm,.r false [[iv (.ofNat (q+1))]] 1)::u)++(og++(j++t))) (ak λc w h0 h1 h2 hq=>by simp only[h1,h2];omega) (WS.append_gr rfl hG rfl (Src.all (L:=[[iv (.ofNat (q+1))]]) .here) (by omega) (by simp only[nR,fI,List.length_map,List.length_range];omega) (by omega) λv' o' jk xB=>?_))
  refine Dp (.mv rfl) (D0 .nil ?_ (λo ho=>nomatch ho))
  refine Wo (Wv rfl (Wj rfl rfl (bM (by omega)) (Wv rfl (Wn ?_))))
  refine⟨N-(q+1),by omega,rfl,q+1,v',o',(Tm,.r false [[iv (.ofNat (q+1))]] 1)::(jk++j),_,rfl,hlt,?_,(hback (o'++(((Tm,.r false [[iv (.ofNat (q+1))]] 1)::(jk++j))++t))).perm (ak λc w h0 h1 h2 hq=>by simp only[h1,h2];omega),?_,aa rfl (aa rfl (aa rfl (aa rfl (aa rfl aB))))⟩
  ·rw[List.length_append];exact Nat.succ_le_succ hE
  ·have:nR (fI (q+1))=nR (fI q)++[[iv (.ofNat (q+1))]]:=by unfold fI;rw[List.range_succ];simp[nR]
   rw[this];exact xB
 ·have hqN:q=N:=by omega
  have fin:∀{l2:Sl},(∀i w,lk [(0,.bool lost),(6,.ptr (some ⟨bf,0,0⟩)),(8,ids)] i=some w->lk l2 i=some w)->WP P K none 62 (GG F T) l2 [] s' Qn Qe Qr:=λh=>hk _ _ ids og j Gg N hN.symm (by omega) (hqN▸hs') (hqN▸hG) h
  by_cases hlen:q<L.length
  ·have Pv:binV .lss (iv (.ofNat q)) (iv (.ofNat L.length))=some (.bool true):=by rw[eT,decide_eq_true (show Int.ofNat q<Int.ofNat L.length from Int.ofNat_lt.2 hlen)]
   have XJ:binV .lss (iv (.ofNat q)) (iv 20)=some (.bool false):=by rw[eT,decide_eq_false (show¬Int.ofNat q<20 from(by omega:¬((q:Nat):Int)<20))]
   refine Ws (Wq (Wv rfl (Wv rfl (Wr (.lenS rfl hL.len) (Wj rfl rfl Pv (Wv rfl (Wy rfl rfl (Wv rfl (Wy rfl rfl (Wj rfl rfl XJ (Wr (.cV rfl rfl) (Wn (Wd rfl fS (λ_=>Wx ?_))))))))))))))
   exact fin (aa rfl (aa rfl (aa rfl aB)))
  ·have Pv:binV .lss (iv (.ofNat q)) (iv (.ofNat L.length))=some (.bool false):=by rw[eT,decide_eq_false (show¬Int.ofNat q<Int.ofNat L.length fromλh=>hlen (Int.ofNat_lt.1 h))]
   refine Ws (Wq (Wv rfl (Wv rfl (Wr (.lenS rfl hL.len) (Wj rfl rfl Pv (Wv rfl (Wk rfl rfl (Wk rfl rfl (Wr (.bj rfl rfl) (Wn (Wd rfl fS (λ_=>Wx ?_))))))))))))
   exact fin (aa rfl (aa rfl (aa rfl aB)))
theorem Ii (ps cs:Nat->Nat){n i:Nat}(hi:i<n):(dT ps cs n).find (.ofNat (i+1))=some i:=by
 unfold SD.find
 refine List.findIdx?_eq_some_iff_getElem.2 ⟨by simpa[dT]using hi,by simp[dT,Jo],λj hj=>?_⟩
 simp only[dT,Jo,List.getElem_map,List.getElem_range,decide_eq_true_eq]
 intro h
 have:=Int.ofNat.inj h
 omega
structure LawG (P:Program)(K:Orc)(F:Nat->FuncId)(T:Nat->TypeId):Prop where
 hB:Base P K F T
 hC:BaseC P K F T
 hG:BaseG P K F T
 hM:BaseM P K F T
 hT:TyC P T
 ht66:Ty P (T 66) 2
 meth:gA P F (T 26)
def WOa (P:Program)(K:Orc)(ol:List bS)(e:Tr AV)(ds:List aD)(H H0:Heap)(Q:Po):Prop:=
 ∀(nt:Nat)(ops:Array Oper)(l0:List Oper),aI (co P nt ops.toList) l0=some ol->∃e' ds' H' l' s',fj P K nt ops l0 e ds H (.mk .normal e' ds' H')/\En l' e'/\Hp H0 s' H'/\Q l' ds' s'
theorem WOa.cons {d:Option Nat}{op:AOp}{rest:List bS}{v:AV}{e:Tr AV}{ds ds1:List aD}{H H1 H0:Heap}{Q:Po}(k1:qu P K e op ds H (.mk v ds1 H1))(k3:WOa P K rest (putO e d v) ds1 H1 H0 Q):WOa P K (⟨d,op,none⟩::rest) e ds H H0 Q:=by
 intro nt ops l0 hl
 cases l0 with
 | nil=>cases hl
 | cons a l0=>
  obtain⟨b,bs,h1,h2,h3⟩:=(aV _ a l0 _).1 hl
  cases h3
  have hc:cOper P nt a=⟨d,op,none⟩:=by
   unfold co at h1
   generalize cOper P nt a=z at h1 |-
   obtain⟨d',op',g'⟩:=z
   dsimp only at h1
   cases g' with
   | none=>cases h1;rfl
   | some jw=>
    obtain⟨j,w⟩:=jw
    unfold cg at h1
    dsimp only at h1
    split at h1
    ·rename_i hq;split at hq
     ·split at hq
      ·cases hq;cases h1
      ·cases hq
     ·cases hq
    ·cases h1
  obtain⟨e',ds',H',l',s',j1,j2,j3,j4⟩:=k3 nt ops l0 h2
  exact⟨_,_,_,_,_,fj.cons hc rfl k1 j1,j2,j3,j4⟩
theorem WOa.of {ol:List bS}{l:Sl}{s:SH}{e:Tr AV}{ds:List aD}{H H0:Heap}{Q:Po}(h:WO P K ol l ds s Q)(he:En l e)(hH:Hp H0 s H):WOa P K ol e ds H H0 Q:=λnt ops l0 hl=>h nt ops l0 hl H0 e H he hH
theorem WOa.seq {ol:List bS}{b:AC}{e:Tr AV}{ds:List aD}{H H0:Heap}{Qn Qr:Po}{Qe:Nat->Po}(h:WOa P K ol e ds H H0 (λl ds s=>WP P K none nt b l ds s Qn Qe Qr)){c0:Code}(hc:cc P nt c0=.seq (.ops ol) b) :
  ∃x e' ds' H' l' s',bt P K none nt c0 e ds H (.mk x e' ds' H')/\En l' e'/\Hp H0 s' H'/\(match x with | .normal=>Qn l' ds' s' | .exit i=>Qe i l' ds' s' | .ret=>Qr l' ds' s'):=by
 cases c0 with
 | seq a0 b0=>
  simp only[cc,AC.seq.injEq]at hc
  obtain⟨ha,hb⟩:=hc
  cases a0 with
  | region i ops d=>
   cases d with
   | true=>
    exfalso
    have hc:cdr P nt ops=.ops ol:=ha
    unfold cdr at hc
    split at hc
    ·split at hc<;>cases hc
    ·cases hc
   | false=>
    have hc:(match aI (co P nt ops.toList) ops.toList with | some l=>AC.ops l | none=>.bad)=.ops ol:=ha
    split at hc
    ·rename_i l' hl'
     cases hc
     obtain⟨e1,ds1,H1,l1,s1,h1,h2,h3,h4⟩:=h nt ops ops.toList hl'
     obtain⟨x,e2,ds2,H2,l2,s2,k1,k2,k3,k4⟩:=h4 b0 hb H0 e1 H1 h2 h3
     exact⟨x,e2,ds2,H2,l2,s2,bt.seq (bt.region h1) k1,k2,k3,k4⟩
    ·cases hc
  | _=>simp[cc]at ha
 | region i ops d=>exact(db hc).elim
 | _=>simp[cc]at hc
@[reducible] def n3:List (List AV):=[[nilS],[nilS],[nilS]]
@[reducible] def Va:List AV:=d5.cells (pn 146 3 8) nilS (pn 152 3 1) (pn 158 3 1) (pn 164 3 1) (pn 170 3 1) nilS nilS nilS++([nilS]++(d5.cells (pn 174 3 8) nilS (pn 180 3 1) (pn 186 3 1) (pn 192 3 1) (pn 198 3 1) nilS nilS nilS++[]))
def m5:SH:=[(174,.r false (Am d5.pl) 8),(180,.r false n3 1),(186,.r false n3 1),(192,.r false n3 1),(198,.r false n3 1)]
theorem Qk:mD m5 (pn 174 3 8) nilS (pn 180 3 1) (pn 186 3 1) (pn 192 3 1) (pn 198 3 1) nilS nilS nilS d5 where
 pl:=Src.all (L:=Am d5.pl) .here
 ob:=.nil
 lb:=⟨_,Src.all (L:=n3) (.there .here),.cons .nil (.cons .nil (.cons .nil .nil))⟩
 hd:=⟨_,Src.all (L:=n3) (.there (.there .here)),.cons .nil (.cons .nil (.cons .nil .nil))⟩
 gr:=⟨_,Src.all (L:=n3) (.there (.there (.there .here))),.cons .nil (.cons .nil (.cons .nil .nil))⟩
 ex:=⟨_,Src.all (L:=n3) (.there (.there (.there (.there .here)))),.cons .nil (.cons .nil (.cons .nil .nil))⟩
 fi:=.nil
 st:=.nil
 wa:=.nil
theorem Je (t:SH):aH 142 [] d5 t ((142,.r false [Va] 51)::([]++(m5++t))):=
 ⟨_,nilS,pn 174 3 8,nilS,pn 180 3 1,pn 186 3 1,pn 192 3 1,pn 198 3 1,nilS,nilS,nilS,[],m5,.refl _,rfl,.nil,Qk⟩
@[reducible] def pH:List AV:=bu 142 (pn 200 5 11) 60 8 80 20 20 nilS
@[reducible] def zb:List AV:=(⟨4,0,1,0,0,0,0,false,nilS,nilS,1,32,0⟩:AD).row
def Dt:List (Nat × Nat × List (List AV)):=[(142,51,[Va]),(174,8,Am d5.pl),(180,1,n3),(186,1,n3),(192,1,n3),(198,1,n3),(140,8,[pH]),(200,11,sm.map CD.row),(1,13,[zb])]
noncomputable def Ah:V:={ vU with t:=13,a:=1 }
noncomputable def K1 (P:Program)(ih:bT)(c:Code)(lo:Bool)(z:Nat):FH->Bool:=
 RE P 62 ih (spine 4 c).1 (λe h=>Du h Dt&&(wI e [(0,.bool lo),(6,.ptr (some ⟨140,0,0⟩)),(8,nilS)]&&(Nat.beq (atR 1 e).t 13&&(Nat.beq (atR 1 e).a 0&&(Nat.beq (ap 0 h).t z&&(Nat.beq (ap 0 h).lp.nt 0&&(match h.fr.ds with | []=>true | _=>false)))))))
  (Ba [vB lo,rJ] 0 cT)
theorem Cl {h:FH}{ds:List aD}(q:xe h.fr ds none)(k:(match h.fr.ds with | []=>true | _=>false)=true):ds=[]:=by
 obtain⟨f1,_,_⟩:=q
 rw[f1]
 revert k
 cases h.fr.ds with
 | nil=>intro _;rfl
 | cons a l=>intro k;cases k
end
section
variable [Sg]{P:Program}{K:Orc}{F:Nat->FuncId}{T:Nat->TypeId}
end
theorem works_kc {P:Program}(hm:P.follows .mixedOrders=true){n:Nat}{f:FuncId}(h:fastTrue P noneKnown n f=true):gW P f [] vu (.bool true) vu:=by
 letI:Sg:=sg0
 obtain⟨O,hO,hF⟩:=lB P
 obtain⟨m,b,v,h',H',h1,h2,_,_,h5⟩:=(kX P (hF _) n).call .nil Cd h
 have:=h2.U8 (ag h5)
 subst this
 exact(gW.KV hm hO h1).eC ⟨rfl,Nat.zero_le _,λb o hb=>by rw[np]at hb;cases hb⟩ (Nat.le_refl _) trivial
theorem Opq.U6 {k:IntKind}{n:Int}:Opq (.int k n):=⟨rfl,λb h=>(by cases h),λm=>by
 have:ieq n n=true:=gd.2 rfl
 cases k<;>simp[sameN,same0,keq,this]⟩
theorem tN [Sg]{lv:AV}(h:Sg.val 1=lv)(ho:Opq lv):VA Ah lv:=by
 subst h
 exact VA.DM (v:=Ah) rfl ho.one ho.nb ho.same
noncomputable def ruleG (w c:FuncId):iB:=λf args h=>match Nat.beq f w with
 | true=>(match args with | []=>some (some (vT,h)) | _::_=>some none)
 | false=>(match Nat.beq f c with | true=>some none | false=>none)
theorem ruleG_ok [Sg]{w c:FuncId}{K:Orc}(hw:∀H,K w [] H=some (.bool true,H))(hK:∀f args H,f≠w->f≠c->K f args H=none):Bh (ruleG w c) K where
 res:=by
  intro f args as h H v h' ha hH hf
  unfold ruleG at hf
  cases hb:Nat.beq f w with
  | true=>
   rw[hb]at hf
   have:=Nat.eq_of_beq_eq_true hb
   subst this
   cases ha with
   | nil=>cases hf;exact⟨_,_,hw H,VA.bool true,hH,rfl⟩
   | cons _ _=>cases hf
  | false=>
   rw[hb]at hf
   dsimp only at hf
   split at hf<;>cases hf
 non:=by
  intro f args as h H ha hH hf
  unfold ruleG at hf
  cases hb:Nat.beq f w with
  | true=>
   rw[hb]at hf
   cases ha with
   | nil=>cases hf
   | cons _ _=>cases hf
  | false=>
   rw[hb]at hf
   dsimp only at hf
   split at hf
   ·cases hf
   ·rename_i hc
    exact hK f as H (λe=>by rw[e]at hb;simp at hb) (λe=>by rw[e]at hc;simp at hc)
section
variable {P:Program}{K:Orc}{F:Nat->FuncId}{T:Nat->TypeId}{f:FuncId}{fn:Func}{c:Code}{tc:Func}{Ib:Code}{R:iB}{n:Nat}
def plL (b:Bool):LD:=⟨20,0,0,0,0,false,b,false⟩
def dL (ps cs:Nat->Nat)(n:Nat)(b:Bool):SD:={ dT ps cs n with pl:=[Zz,Zz,plL b] }
theorem aan (ps cs:Nat->Nat){n:Nat}(hn:n<=20)(b:Bool):(dL ps cs n b).Small:=
 have h:=iY ps cs hn
 ⟨⟨Nat.le_of_ble_eq_true rfl,h.n1.2.1,h.n1.2.2.1,Nat.zero_le _,Nat.zero_le _⟩,h.n2⟩
theorem aa3 {P:Program}{K:Orc}{F:Nat->FuncId}{T:Nat->TypeId}(hC:BaseC P K F T){ps cs:Nat->Nat}{n:Nat}(hn:n<=20)(hc:∀j,j<n->cs j<5)(b:Bool):nG P K F gK (dL ps cs n b) sm:=by
 refine Tu hC (λo ho=>?_) (by simp[dL,dT,fI];exact hn)
 obtain⟨j,hj,rfl⟩:=List.mem_map.1 ho
 exact⟨cs j,rfl,hc j (List.mem_range.1 hj)⟩
theorem aaC (ps cs:Nat->Nat){n i:Nat}(hi:i<n)(b:Bool):(dL ps cs n b).obj (.ofNat (i+1))=some (Jo ps cs i):=by
 unfold SD.obj
 rw[show(dL ps cs n b).find (.ofNat (i+1))=some i from Ii ps cs hi]
 show((List.range n).map (Jo ps cs))[i]?=_
 rw[List.getElem?_map,List.getElem?_range hi]
 rfl
theorem aaj {α β:Type}{f:α->Option β}{l:List α}(hl:l.Nodup)(hf:∀a b c,a∈l->b∈l->f a=some c->f b=some c->a=b):(l.filterMap f).Nodup:=by
 induction l with
 | nil=>exact List.nodup_nil
 | cons a l ih=>
  have ih:=ih hl.of_cons λx y c hx hy=>hf x y c (.tail _ hx) (.tail _ hy)
  cases h:f a with
  | none=>rw[List.filterMap_cons_none h];exact ih
  | some c=>
   rw[List.filterMap_cons_some h]
   refine List.nodup_cons.2 ⟨λhc=>?_,ih⟩
   obtain⟨b,hb,e⟩:=List.mem_filterMap.1 hc
   have:=hf a b c (.head _) (.tail _ hb) h e
   subst this
   exact(List.nodup_cons.1 hl).1 hb
theorem aau (n:Nat):(fI n).Nodup:=by
 have:fI n=(List.range n).filterMap λj=>some (Int.ofNat (j+1)):=by simp[fI]
 rw[this]
 refine aaj List.nodup_range λa b c _ _ h1 h2=>?_
 have:=Int.ofNat.inj ((Option.some.inj h1).trans (Option.some.inj h2).symm)
 omega
theorem aaK {n:Nat}{x:Int}(h:x∈fI n):x≠0:=by
 obtain⟨j,_,rfl⟩:=List.mem_map.1 h
 intro h
 cases h
theorem aaE {d:SD}{p:OD->Bool}{l:List Int}{x:TG}(h:x∈fieldT d p l):x.p=0/\x.o∈l:=by
 obtain⟨i,hi,he⟩:=List.mem_filterMap.1 h
 split at he
 ·split at he
  ·cases he;exact⟨rfl,hi⟩
  ·cases he
 ·cases he
theorem aav {d:SD}{n:Nat}{x:TG}(h:x∈playersT d n):x.o=0:=by
 obtain⟨i,hi,he⟩:=List.mem_filterMap.1 h
 split at he
 ·split at he
  ·cases he
  ·cases he;rfl
 ·cases he
theorem aao {d:SD}{p:OD->Bool}{l:List Int}(h:l.Nodup):(fieldT d p l).Nodup:=by
 refine aaj h λa b c _ _ ha hb=>?_
 have key:∀a,(match d.obj a with | some o=>if p o then some (⟨0,a⟩:TG)else none | none=>none)=some c->a=c.o:=by
  intro a ha
  split at ha
  ·split at ha
   ·cases ha;rfl
   ·cases ha
  ·cases ha
 exact(key a ha).trans (key b hb).symm
theorem rq {d:SD}{n:Nat}:(playersT d n).Nodup:=by
 refine aaj List.nodup_range λa b c _ _ ha hb=>?_
 have key:∀a:Nat,(match d.pl[a]? with | some o=>if o.f2 then none else some (⟨.ofNat a,0⟩:TG) | none=>none)=some c->c.p=.ofNat a:=by
  intro a ha
  split at ha
  ·split at ha
   ·cases ha
   ·cases ha;rfl
  ·cases ha
 exact Int.ofNat.inj ((key a ha).symm.trans (key b hb))
theorem aak {g:ED->CH->CH}{C:List CD}(ps cs:Nat->Nat)(n:Nat)(b:Bool)(kind aQ:Int):(ct g (dL ps cs n b) C kind aQ).Nodup:=by
 have h1:∀p,(fieldT (dL ps cs n b) p (dL ps cs n b).fi).Nodup:=λp=>aao (aau n)
 unfold ct
 split
 ·exact h1 _
 ·split
  ·exact rq
  ·split
   ·refine List.nodup_append.2 ⟨rq,h1 _,λx hx y hy e=>?_⟩
    subst e
    exact aaK (aaE hy).2 (aav hx)
   ·split
    ·exact h1 _
    ·split
     ·exact h1 _
     ·split
      ·exact List.nodup_nil
      ·exact List.nodup_nil
theorem aal (ps cs:Nat->Nat){n i:Nat}(hi:i<n)(b:Bool)(p:OD->Bool):decide ((⟨0,.ofNat (i+1)⟩:TG)∈fieldT (dL ps cs n b) p (dL ps cs n b).fi)=p (Jo ps cs i):=by
 cases hp:p (Jo ps cs i) with
 | true=>
  refine decide_eq_true (List.mem_filterMap.2 ⟨.ofNat (i+1),List.mem_map.2 ⟨i,List.mem_range.2 hi,rfl⟩,?_⟩)
  rw[aaC ps cs hi b]
  dsimp only
  rw[if_pos hp]
 | false=>
  refine decide_eq_false λh=>?_
  obtain⟨x,hx,he⟩:=List.mem_filterMap.1 h
  split at he
  ·rename_i o ho
   split at he
   ·rename_i hq
    cases he
    rw[aaC ps cs hi b]at ho
    cases ho
    rw[hp]at hq
    cases hq
   ·cases he
  ·cases he
def a29 (F:Nat->FuncId)(T:Nat->TypeId):AC:=(.seq (.ops [zo 4 (.mv (.const (.bool false)))]) (.seq (.seq (.ops [zm 6 0,zo 7 (.lenS (zt 6)),zm 8 1,zo 9 (.lenS (zt 8)),zo 10 (.eql true .pi (zt 7) (zt 9))]) (.cond (zt 10) (.seq (.ops [zo 4 (.mv (.const (.bool false)))]) .ret) .skip)) (.seq (.seq (.ops [zo 5 (.mv (zc 0))]) (.block 0 (.loop (.seq (.seq (.ops [zm 11 5,zm 12 0,zo 13 (.lenS (zt 12)),zo 14 (.arith .lss (zt 11) (zt 13))]) (.cond (zt 14) .skip (.exit 0))) (.seq (.block 1 (.seq (.drawn 0 [zp (zm 17 0) 0,zp (zm 18 5) 0,zp (zo 19 (.iaddrS 2 (zt 17) (zt 18))) 3,zr (zo 20 (.load true 2 (zt 19))) 0 0 7,zp (zm 21 1) 0,zp (zm 22 5) 0,zp (zo 23 (.iaddrS 2 (zt 21) (zt 22))) 48,zr (zo 24 (.load true 2 (zt 23))) 0 0 112,zp (zo 25 (.eql true (.agg [⟨0,⟨1,⟨false,.pi⟩⟩⟩,⟨1,⟨1,⟨false,.pi⟩⟩⟩]) (zt 20) (zt 24))) 255]) (.cond (zt 25) (.seq (.ops [zo 4 (.mv (.const (.bool false)))]) .ret) .skip))) (.ops [zm 15 5,zo 16 (.arith .add (zt 15) (zc 1)),zm 5 16])))))) (.seq (.ops [zo 4 (.mv (.const (.bool true)))]) .ret))))
def aaX (F:Nat->FuncId)(T:Nat->TypeId):AC:=(.seq (.ops [zo 3 (.box 13 (zt 0))]) (.drawn 0 [zr (zl 4 1) 0 0 0,zr (zl 5 2) 0 0 0,zp (zo 6 (.nilchk (zt 5))) 2,zp (zf 7 0 6) 6,zp (zf 8 0 7) 14,zr (zl 9 8) 0 0 30,zp (zf 10 1 3) 0,zr (zl 11 10) 0 0 64,zp (zo 12 (.iaddrS 8 (zt 9) (zt 11))) 254,zr (zo 13 (.load true 13 (zt 3))) 0 0 0,zh (zo 14 (.call (zt 4) [(zt 12),(zt 13)])) 1023]))
def aaY (F:Nat->FuncId)(T:Nat->TypeId):AC:=(.seq (.ops [zo 3 (.box 13 (zt 1))]) (.ops [zm 4 0,zo 5 (.nilchk (zt 4)),zf 6 6 5,zn (.store 1 (zt 6) (.const (.bool true)))]))
structure BaseL (P:Program)(K:Orc)(F:Nat->FuncId)(T:Nat->TypeId):Prop where
 f29:FnK P K (F 29) 26 [(.tmp 4)] (a29 F T)
 f264:FnK P K (F 264) 15 [] (aaX F T)
 f269:FnK P K (F 269) 7 [] (aaY F T)
variable {rd:Option Nat}{nt:Nat}{l:Sl}{ds:List aD}{s:SH}{Q:Po}{Qn:Po}{Qr:Po}{Qe:Nat->Po}
theorem Gr.put {sz:Nat}{v:AV}{L:List (List AV)}{o:SH}(h:Gr sz v L o){p:Nat}(hp:p<L.length):∃b c M,v=.slice (some ⟨b,0,0⟩) L.length c true sz/\o=[(b,.r false (L++M) sz)]/\∀row',Gr sz (.slice (some ⟨b,0,0⟩) L.length c true sz) (L.set p row') [(b,.r false ((L++M).set p row') sz)]:=by
 cases h with
 | nil=>exact absurd hp (Nat.not_lt_zero _)
 | zero=>exact absurd hp (Nat.not_lt_zero _)
 | @rows b n c L M hn hc hL=>
  subst hn
  refine⟨b,c,M,rfl,rfl,λrow'=>?_⟩
  rw[List.set_append_left _ _ hp]
  exact .rows (by simp) (by simp[hc]) hL
theorem iJ.aba {n:SH}{pv ov lv hv gv ev fv sv wv:AV}{d:SD}(h:iJ n pv ov lv hv gv ev fv sv wv d):∃o r,n.Perm (o++r)/\Gr 8 pv (Am d.pl) o/\∀pv' l' o',Gr 8 pv' (Am l') o'->iJ (o'++r) pv' ov lv hv gv ev fv sv wv { d with pl:=l' }:=by
 obtain⟨o1,o2,o3,o4,o5,o6,o7,o8,o9,j,hp,g1,g2,g3,g4,g5,g6,g7,g8,g9⟩:=h.ex
 exact⟨o1,o2++(o3++(o4++(o5++(o6++(o7++(o8++(o9++j))))))),hp,g1,λv' l' o' g'=>⟨o',o2,o3,o4,o5,o6,o7,o8,o9,j,.refl _,g',g2,g3,g4,g5,g6,g7,g8,g9⟩⟩
theorem aaM (hL:BaseL P K F T){b r:Nat}{L:List (List AV)}{row row' ec:List AV}{s':SH}(hb:oY b (.r false L 8) (.r false (L.set r row') 8) s s')(hr:L[r]?=some row)(hc:fK row 6 [.bool true]=some row')(he:ec.length=13)(hec:partCells 13 (.agg ec)=some ec) :
  bB P K (F 269) [.ptr (some ⟨b,r,0⟩),.agg ec] s (λ_ s2=>∃m,s2=m++s'):=by
 refine hL.f269.cF (by simp) ?_
 unfold aaY
 refine Wq (Wa (.box rfl hec) λb3=>Wn ?_)
 exact Wo (Wv rfl (Wr (.nilchk rfl rfl) (Wf rfl (Ww (Wt rfl rfl rfl (.there hb) hr hc (Wn (Wm .nil ⟨[_],rfl⟩)))))))
theorem aaA (hL:BaseL P K F T){bw bd bx:Nat}{d:SD}{t:SH}(hs:WH bw d t s)(hbd:Has bd (.r false [[.func (F 269) [] []]] 1) t)(PA:Has bx (.r false [[.ptr (some ⟨bw,0,0⟩)]] 1) t){p:Nat}{o:LD}(ho:d.pl[p]?=some o){k b n m:Int}{it:ID} :
  c6 P K (.func (F 264) [] [.ptr (some ⟨bd,0,0⟩),.ptr (some ⟨bx,0,0⟩)]) [.agg (evRow k (.ofNat p) b n m it)] s (λ_ s'=>WH bw { d with pl:=d.pl.set p { o with f2:=true } } t s'):=by
 have hp:p<d.pl.length:=(List.getElem?_eq_some_iff.1 ho).1
 obtain⟨pv,ov,lv,hv,gv,ev,fv,sv,wv,nn,k1,k2⟩:=hs
 obtain⟨op,r,kp,g,back⟩:=k2.aba
 obtain⟨bp,c,M,rfl,rfl,put⟩:=g.put (p:=p) (by simpa[Am]using hp)
 have hlen:(Am d.pl).length=d.pl.length:=by simp[Am]
 have hrow:(Am d.pl++M)[p]?=some o.row:=by
  rw[List.getElem?_append_left (by omega),Am,List.getElem?_map,ho];rfl
 refine c6.func (bB.perm (s:=(bp,.r false (Am d.pl++M) 8)::(bw,.r false [d.cells (.slice (some ⟨bp,0,0⟩) (Am d.pl).length c true 8) ov lv hv gv ev fv sv wv] 25)::(r++t)) (ak λc w h0 h1 h2 hq=>by rw[hq _ _ k1];simp only[h1,h2,h0,hq _ _ kp];omega) ?_)
 refine hL.f264.cF (by simp) ?_
 unfold aaX
 refine Wq (Wa (.box rfl rfl) λb3=>Wn ?_)
 refine WP.bD (Dl rfl .nil (.load rfl (.there (.there (.there (.app hbd)))) rfl rfl rfl) (Dl rfl .nil (.load rfl (.there (.there (.there (.app PA)))) rfl rfl rfl) (Dp (.nilchk rfl rfl) (Dp (.faddr rfl) (Dp (.faddr rfl) (Dl rfl .nil (.load rfl (.there (.there .here)) rfl rfl rfl) (Dp (.faddr rfl) (Dl rfl .nil (.load rfl .here rfl rfl rfl) (Dp (.iaddrS rfl rfl (by omega) (by decide)) (Dl rfl .nil (.load rfl .here rfl rfl rfl) (Dc .nil (Wz [.ptr (some ⟨bp,0+p,0⟩),.agg (evRow k (.ofNat p) b n m it)] rfl rfl (aaM hL (.there .here) (by rw[Nat.zero_add];exact hrow) rfl rfl rfl) ?_))))))))))))
 rintro w _ ⟨mm,rfl⟩
 refine D0 .nil (Wm .nil ?_) (λo h=>nomatch h)
 have g':=back _ (d.pl.set p { o with f2:=true }) [(bp,.r false ((Am d.pl++M).set p ({ o with f2:=true }:LD).row) 8)] (by
  have:=put ({ o with f2:=true }:LD).row
  rw[show Am (d.pl.set p { o with f2:=true })=(Am d.pl).set p ({ o with f2:=true }:LD).row from by simp[Am,List.map_set]]
  exact this)
 refine⟨_,ov,lv,hv,gv,ev,fv,sv,wv,mm++[(b3,.r false [evRow k (.ofNat p) b n m it] 13)]++((bp,.r false ((Am d.pl++M).set p ({ o with f2:=true }:LD).row) 8)::r),?_,g'.bK⟩
 rw[Nat.zero_add]
 show List.Perm (mm++((b3,HO.r false [evRow k (.ofNat p) b n m it] 13)::(bp,HO.r false ((Am d.pl++M).set p ({ o with f2:=true }:LD).row) 8)::(bw,HO.r false [({ d with pl:=d.pl.set p { o with f2:=true } }:SD).cells (.slice (some ⟨bp,0,0⟩) (Am d.pl).length c true 8) ov lv hv gv ev fv sv wv] 25)::(r++t))) _
 exact ak λc w h0 h1 h2 hq=>by simp only[h1,h2,h0];omega
theorem aaz (hB:Base P K F T)(hL:BaseL P K F T){p:Nat}{o:LD}{b n m:Int}{it:ID}{d:SD}(hd:d.Small)(he:d.kQ)(ho:d.pl[p]?=some o)(lm:∀s,bB P K (F 201) [.agg (evRow 23 (.ofNat p) b n m it)] s (λv s'=>v=iv 0/\s'=s)) :
  Ap P K F 23 (.ofNat p) b n m it d { d with pl:=d.pl.set p { o with f2:=true } }:=
 yH (k:=23) hB hd lm (aaJ hB (by simp)) (λ{_ _ _ _ v} hv hW=>by
  obtain⟨bd,bx,rfl,_⟩:=(show iP F _ _ v true false false 264 269 from hv)
  exact aaN hB hW hd he (k:=23) (by omega) (by omega) (by omega) (by omega) (List.getElem?_eq_some_iff.1 ho).1) (λ{_ _ _ _ _ _ _} hv hW=>by
  obtain⟨bd,bx,hv,h1,h2⟩:=(show iP F _ _ _ true false false 264 269 from hv)
  cases hv
  exact aaA hL hW h1 h2 ho)
def a6I (F:Nat->FuncId)(T:Nat->TypeId):AC:=(.seq (.seq (.ops [zm 95 16,zm 96 8,zo 97 (.lenS (zt 96)),zo 98 (.arith .lss (zt 95) (zt 97))]) (.cond (zt 98) .skip (.exit 6))) (.seq (.block 7 (.seq (.ops [zm 102 7,zm 103 8,zm 104 16,zo 105 (.iaddrS 1 (zt 103) (zt 104)),zl 106 105,zo 107 (.call (.func (F 30)) [(zt 102),(zt 106)]),zm 101 107,zo 108 (.extract (zt 101) 0),zo 109 (.extract (zt 101) 1),zo 17 (.alloc 3 [(za 0),(za 0),(za 0)]),zn (.store 3 (zt 17) (zt 108)),zm 18 109]) (.seq (.ops [zf 110 2 17,zl 111 110,zo 112 (.arith .and (zt 111) (zc 32)),zo 113 (.eql true .pi (zt 112) (zc 0)),zm 19 113]) (.seq (.ops [zm 114 0,zm 115 16,zo 116 (.iaddrS 2 (zt 114) (zt 115)),zf 117 1 116,zl 118 117,zo 119 (.arith .rem (zt 118) (.const (.int .u8 (.ofNat 3)))),zo 120 (.convI .i64 (zt 119)),zm 20 120]) (.seq (.drawn 0 [zp (zm 121 7) 0,zp (zo 122 (.mkif (T 26) (zt 121))) 1,zp (zm 123 9) 0,zp (zm 124 8) 0,zp (zm 125 16) 0,zp (zo 126 (.iaddrS 1 (zt 124) (zt 125))) 24,zr (zl 127 126) 0 0 56,zh (zo 128 (.call (.func (F 28)) [(zt 127)])) 120,zh (zo 129 (.call (.func (F 27)) [(zt 122),(zc 1),(zt 123),(zt 128)])) 255,zp (zm 130 7) 0,zp (zo 131 (.mkif (T 26) (zt 130))) 512,zp (zm 132 10) 0,zp (zm 133 8) 0,zp (zm 134 16) 0,zp (zo 135 (.iaddrS 1 (zt 133) (zt 134))) 12288,zr (zl 136 135) 0 2 28672,zh (zo 137 (.call (.func (F 28)) [(zt 136)])) 61951,zh (zo 138 (.call (.func (F 27)) [(zt 131),(zc 1),(zt 132),(zt 137)])) 131071,zp (zm 21 129) 262143,zp (zm 22 138) 524287]) (.seq (.ops [zm 139 21,zm 140 18,zm 141 140,zg 142 (.mv (zt 19)) 141 true,zg 143 (.un .not (zt 142)) 141 true,zg 144 (.mv (zt 143)) 141 true,zg 145 (.mv (zt 20)) 144 false,zg 146 (.mv (zt 9)) 144 false,zg 147 (.eql false .pi (zt 145) (zt 146)) 144 false,zg 148 (.pick (zt 144) (.const (.bool true)) (zt 147)) 141 true,zo 149 (.pick (zt 141) (zt 148) (.const (.bool false))),zo 150 (.eql true .pb (zt 139) (zt 149)),zm 151 150,zg 152 (.mv (zt 19)) 151 false,zg 153 (.un .not (zt 152)) 151 false,zg 154 (.mv (zt 153)) 151 false,zg 155 (.mv (zt 21)) 154 true,zg 156 (.mv (zt 22)) 154 true,zg 157 (.eql true .pb (zt 155) (zt 156)) 154 true,zg 158 (.pick (zt 154) (zt 157) (.const (.bool false))) 151 false,zo 159 (.pick (zt 151) (.const (.bool true)) (zt 158)),zm 160 159,zg 161 (.mv (zt 7)) 160 false,zg 162 (.mkif (T 26) (zt 161)) 160 false,zg 163 (.mv (zt 9)) 160 false,zg 164 (.mv (zt 8)) 160 false,zg 165 (.mv (zt 16)) 160 false,zg 166 (.iaddrS 1 (zt 164) (zt 165)) 160 false,zg 167 (.load false 1 (zt 166)) 160 false,zg 168 (.call (.func (F 28)) [(zt 167)]) 160 false,zg 169 (.call (.func (F 27)) [(zt 162),(zc 4),(zt 163),(zt 168)]) 160 false,zg 170 (.mv (zt 18)) 160 false,zg 171 (.mv (zt 170)) 160 false,zg 172 (.mv (zt 20)) 171 true,zg 173 (.mv (zt 9)) 171 true,zg 174 (.eql false .pi (zt 172) (zt 173)) 171 true,zg 175 (.pick (zt 171) (zt 174) (.const (.bool false))) 160 false,zg 176 (.eql true .pb (zt 169) (zt 175)) 160 false,zo 177 (.pick (zt 160) (.const (.bool true)) (zt 176))]) (.cond (zt 177) (.seq (.ops [zo 6 (.mv (.const (.bool false)))]) .ret) .skip))))))) (.ops [zm 99 16,zo 100 (.arith .add (zt 99) (zc 1)),zm 16 100])))
def a6E (F:Nat->FuncId)(T:Nat->TypeId):AC:=(.seq (.seq (.ops [zm 65 14,zm 66 13,zo 67 (.arith .lss (zt 65) (zt 66))]) (.cond (zt 67) .skip (.exit 4))) (.seq (.block 5 (.seq (.drawn 0 [zp (zm 70 12) 0,zp (zm 71 14) 0,zp (zo 72 (.iaddrS 2 (zt 70) (zt 71))) 3,zr (zo 73 (.load true 2 (zt 72))) 0 0 7,zp (zm 74 12) 0,zp (zm 75 13) 0,zp (zo 76 (.iaddrS 2 (zt 74) (zt 75))) 48,zr (zo 77 (.load true 2 (zt 76))) 0 0 112,zp (zo 78 (.eql false (.agg [⟨0,⟨1,⟨false,.pi⟩⟩⟩,⟨1,⟨1,⟨false,.pi⟩⟩⟩]) (zt 73) (zt 77))) 255]) (.cond (zt 78) (.seq (.ops [zo 6 (.mv (.const (.bool false)))]) .ret) .skip))) (.ops [zm 68 14,zo 69 (.arith .add (zt 68) (zc 1)),zm 14 69])))
def a6L (F:Nat->FuncId)(T:Nat->TypeId):AC:=(.seq (.seq (.ops [zm 49 13,zm 50 12,zo 51 (.lenS (zt 50)),zo 52 (.arith .lss (zt 49) (zt 51))]) (.cond (zt 52) .skip (.exit 2))) (.seq (.block 3 (.seq (.seq (.ops [zm 55 7,zo 56 (.mkif (T 26) (zt 55)),zm 57 11,zm 58 9,zm 59 12,zm 60 13,zo 61 (.iaddrS 2 (zt 59) (zt 60)),zo 62 (.load true 2 (zt 61)),zo 63 (.call (.func (F 27)) [(zt 56),(zt 57),(zt 58),(zt 62)]),zo 64 (.un .not (zt 63))]) (.cond (zt 64) (.seq (.ops [zo 6 (.mv (.const (.bool false)))]) .ret) .skip)) (.seq (.ops [zo 14 (.mv (zc 0))]) (.block 4 (.loop (a6E F T)))))) (.ops [zm 53 13,zo 54 (.arith .add (zt 53) (zc 1)),zm 13 54])))
def a6K (F:Nat->FuncId)(T:Nat->TypeId):AC:=(.seq (.seq (.ops [zm 40 11,zo 41 (.arith .leq (zt 40) (zc 6))]) (.cond (zt 41) .skip (.exit 0))) (.seq (.block 1 (.seq (.ops [zm 44 7,zo 45 (.mkif (T 26) (zt 44)),zm 46 11,zm 47 9,zo 48 (.call (.func (F 26)) [(zt 45),(zt 46),(zt 47)]),zm 12 48]) (.seq (.ops [zo 13 (.mv (zc 0))]) (.block 2 (.loop (a6L F T)))))) (.ops [zm 42 11,zo 43 (.arith .add (zt 42) (zc 1)),zm 11 43])))
def a6X (F:Nat->FuncId):List bS:=[⟨(some 26),(.mv (.tmp 1)),none⟩,⟨(some 27),(.mv (.tmp 0)),none⟩,⟨(some 28),(.call (.func (F 23)) [(.tmp 26),(.tmp 27)]),none⟩,⟨(some 25),(.mv (.tmp 28)),none⟩,⟨(some 29),(.extract (.tmp 25) 0),none⟩,⟨(some 30),(.extract (.tmp 25) 1),none⟩,⟨(some 7),(.mv (.tmp 29)),none⟩,⟨(some 8),(.mv (.tmp 30)),none⟩]
def a6Z (F:Nat->FuncId)(T:Nat->TypeId):AC:=(.seq (.seq (.ops [zm 31 7,zo 32 (.eql false .ptr (zt 31) (.const (.pointer none)))]) (.cond (zt 32) (.seq (.ops [zo 6 (.mv (.const (.bool false)))]) .ret) .skip)) (.seq (.ops [zm 33 2,zo 34 (.arith .rem (zt 33) (.const (.int .u8 (.ofNat 3)))),zo 35 (.convI .i64 (zt 34)),zm 36 2,zo 37 (.arith .quo (zt 36) (.const (.int .u8 (.ofNat 3)))),zo 38 (.arith .rem (zt 37) (.const (.int .u8 (.ofNat 3)))),zo 39 (.convI .i64 (zt 38)),zm 9 35,zm 10 39]) (.seq (.seq (.ops [zo 11 (.mv (zc 1))]) (.block 0 (.loop (a6K F T)))) (.seq (.ops [zm 79 7,zo 80 (.mkif (T 26) (zt 79)),zm 81 9,zo 82 (.call (.func (F 26)) [(zt 80),(zc 2),(zt 81)]),zm 83 7,zo 84 (.mkif (T 26) (zt 83)),zm 85 9,zo 86 (.call (.func (F 26)) [(zt 84),(zc 1),(zt 85)]),zo 87 (.append 2 16 (zt 82) (zt 86)),zm 15 87]) (.seq (.seq (.ops [zm 88 15,zm 89 7,zo 90 (.mkif (T 26) (zt 89)),zm 91 9,zo 92 (.call (.func (F 26)) [(zt 90),(zc 3),(zt 91)]),zo 93 (.call (.func (F 29)) [(zt 88),(zt 92)]),zo 94 (.un .not (zt 93))]) (.cond (zt 94) (.seq (.ops [zo 6 (.mv (.const (.bool false)))]) .ret) .skip)) (.seq (.seq (.ops [zo 16 (.mv (zc 0))]) (.block 6 (.loop (a6I F T)))) (.seq (.ops [zo 6 (.mv (.const (.bool true)))]) .ret)))))))
def aaB (t:SH):Po:=λl ds s=>ds=[]/\lk l 6=some (.bool true)/\∀b o,Has b o t->Has b o s
theorem abb {a:Nat}(h:a<=255):binV .quo (.int .u8 (.ofNat a)) (.int .u8 (.ofNat 3))=some (.int .u8 (.ofNat (a/3))):=by
 show force (Nat.mod (Nat.div a 3) 256) (λm=>some (AV.int .u8 (.ofNat m)))=_
 rw[aL,show Nat.mod (Nat.div a 3) 256=a/3 from Nat.mod_eq_of_lt (show a/3<256 by omega)]
theorem px (a:Bool):eqBy 20 .pb (.bool a) (.bool a)=some true:=by cases a<;>rfl
variable {bf:Nat}{bl:Nat}{aZ:AV}{bE:AV}{c0:Int}{c1:Int}{c2:Int}{c3:Int}{c4:Int}{EL:List (List AV)}{d:SD}{t:SH}
theorem aaO (hL:BaseL P K F T){v1 v2:AV}{L:List TG}(h1:Src s 2 v1 (yu L))(h2:Src s 2 v2 (yu L))(hn:L.length<=9000):bB P K (F 29) [v1,v2] s (λw s'=>w=.bool true/\s'=s):=by
 refine hL.f29.cF (by simp) ?_
 unfold a29
 have l1:lenOf v1=some L.length:=by rw[h1.lenOf,sd]
 have l2:lenOf v2=some L.length:=by rw[h2.lenOf,sd]
 refine Wq (Wv rfl (Wn ?_))
 refine Ws (Wq (Wv rfl (Wr (.lenS rfl l1) (Wv rfl (Wr (.lenS rfl l2) (Wh rfl rfl (dM _ _) (Wn ?_)))))))
 rw[decide_eq_true rfl]
 refine Wd rfl fS (λ_=>Wi ?_)
 refine Ws (Wq (Wv rfl (Wn (Wb ?_))))
 refine Wp (λk l ds s'=>ds=[]/\s'=s/\∃q,k=L.length-q/\q<=L.length/\∀i w,lk [(0,v1),(1,v2),(5,iv (.ofNat q))] i=some w->lk l i=some w) ?_ (n:=L.length-0)
  ⟨rfl,rfl,0,rfl,Nat.zero_le _,aa rfl (aa rfl (aa rfl aB))⟩
 rintro k l ds s' ⟨rfl,rfl,q,rfl,hq,hl⟩
 refine Wg hl (λ_ _ h=>h) ?_
 refine Ws (Wq (Wv rfl (Wv rfl (Wr (.lenS rfl l1) (Wj rfl rfl (eT _ _) (Wn (Wd rfl (λht=>Wi ?_) (λht=>Wx ?_))))))))
 ·have hlt:q<L.length:=Int.ofNat_lt.1 (of_decide_eq_true ht)
  obtain⟨ba,ra,na,ca,J5,Sp,Ma,e1,hba,me,hra⟩:=h1.at (i:=q) (by rw[sd];exact hlt)
  obtain⟨bb,rb,nb,cb,slb,rob,Mb,e2,hbb,aaS,hrb⟩:=h2.at (i:=q) (by rw[sd];exact hlt)
  rw[Kd hlt]at hra hrb
  refine Ws (Wb (Ws (WP.bD (Dp (.mv rfl) (Dp (.mv rfl) (Dp (.iaddrS (congrArg some e1) rfl me (by decide)) (Dl rfl .nil (.load rfl hba hra rfl rfl) (Dp (.mv rfl) (Dp (.mv rfl) (Dp (.iaddrS (congrArg some e2) rfl aaS (by decide)) (Dl rfl .nil (.load rfl hbb hrb rfl rfl) (Dp (.eql rfl rfl (eqT _ _)) (D0 .nil ?_ (λo ho=>nomatch ho))))))))))))))
  rw[decide_eq_true rfl]
  refine Wd rfl fS (λ_=>Wi ?_)
  refine Wo (Wv rfl (Wj rfl rfl (bM (by omega)) (Wv rfl (Wn ?_))))
  exact⟨L.length-(q+1),by omega,rfl,rfl,q+1,rfl,hlt,aa rfl (aa rfl (aa rfl aB))⟩
 ·exact Wq (Wv rfl (Wn (We (Wm (.tmp rfl .nil) ⟨rfl,rfl⟩))))
theorem aaG (hW:LawG P K F T){ids lv:AV}{og j:SH}{ps cs:Nat->Nat}{n p q:Nat}{b:Bool}{L:List (List AV)}(hn:n<=20)(hs:aH bl EL (dL ps cs n b) (og++(j++t)) s)(hG:Gr 1 ids (nR (fI n)) og)
  (hf:Has bf (.r false [bu bl aZ 60 c1 c2 c3 c4 bE] 8) t) (eQ:cI t aZ sm) (vo:nG P K F gK (dL ps cs n b) sm) (hL:WI t lv L ps cs) (hnL:n<=L.length)
  (hl:∀y w,lk [(0,lv),(7,.ptr (some ⟨bf,0,0⟩)),(8,ids),(9,iv (.ofNat p)),(10,iv (.ofNat q))] y=some w->lk l y=some w) :
  WP P K none 178 (.seq (.seq (.ops [zo 16 (.mv (zc 0))]) (.block 6 (.loop (a6I F T)))) (.seq (.ops [zo 6 (.mv (.const (.bool true)))]) .ret)) l [] s Kj (λ_=>Kj) (aaB t):=by
 obtain⟨hB,hC,XR,hM,hT,ht66,hme⟩:=hW
 have hsm:=aan ps cs hn b
 have hlen:lenOf ids=some n:=by rw[hG.out.lenOf,gq];simp[fI]
 refine Wg hl (λ_ _ h=>h) ?_
 refine Ws (Wq (Wv rfl (Wn (Wb ?_))))
 unfold a6I
 refine Wp (λk l ds s'=>ds=[]/\∃i,k=n-i/\i<=n/\aH bl EL (dL ps cs n b) (og++(j++t)) s'/\∀y w,lk [(0,lv),(7,.ptr (some ⟨bf,0,0⟩)),(8,ids),(9,iv (.ofNat p)),(10,iv (.ofNat q)),(16,iv (.ofNat i))] y=some w->lk l y=some w) ?_ (n:=n-0)
  ⟨rfl,0,rfl,Nat.zero_le _,hs,aa rfl (aa rfl (aa rfl (aa rfl (aa rfl (aa rfl aB)))))⟩
 rintro k l2 ds s2 ⟨rfl,i,rfl,hi,dt,hl⟩
 refine Wg hl (λ_ _ h=>h) ?_
 refine Ws (Wq (Wv rfl (Wv rfl (Wr (.lenS rfl hlen) (Wj rfl rfl (eT _ _) (Wn (Wd rfl (λht=>Wi ?_) (λht=>Wx ?_))))))))
 rotate_left
 ·exact Wq (Wv rfl (Wn (We ⟨rfl,rfl,λb o h=>dt.mem (.app (.app h))⟩)))
 have hlt:i<n:=Int.ofNat_lt.1 (of_decide_eq_true ht)
 obtain⟨ba,ra,na,ca,J5,Sp,Ma,CB,hba,me,gH⟩:=hG.out.src.at (i:=i) (by rw[gq];simpa[fI]using hlt)
 have hrow:Ma[ra+i]?=some [iv (.ofNat (i+1))]:=by
  rw[gH,nR,fI,List.getElem?_map,List.getElem?_map,List.getElem?_range hlt];rfl
 obtain⟨x,y,hx,hy,aa8,hcx,hpy⟩:=hL.b i (by omega)
 obtain⟨rb,cap,sl,rfl,hrb⟩:=hL.at' (by omega)
 have abh:binV .rem (.int .u8 (.ofNat y)) (.int .u8 (.ofNat 3))=some (.int .u8 (.ofNat (ps i))):=by rw[<- hpy];exact yi (by omega)
 have abi:mkI .i64 (.ofNat (ps i))=some (iv (.ofNat (ps i))):=tD (by have:ps i<3:=(hpy▸Nat.mod_lt _ (by omega));omega)
 have aa9:∀c:Int,decide ((⟨0,.ofNat (i+1)⟩:TG)∈ct gK (dL ps cs n b) sm (.ofNat 1) c)=gY gK (dL ps cs n b) sm c (Jo ps cs i):=λc=>aal ps cs hlt b _
 have aaL:∀c:Int,decide ((⟨0,.ofNat (i+1)⟩:TG)∈ct gK (dL ps cs n b) sm (.ofNat 4) c)=wq gK (dL ps cs n b) sm c (Jo ps cs i):=λc=>aal ps cs hlt b _
 have hfS:∀{u v:SH},aH bl EL (dL ps cs n b) (og++(j++t)) v->Has bf (.r false [bu bl aZ 60 c1 c2 c3 c4 bE] 8) v:=λh=>h.mem (.app (.app hf))
 have aad:cI (og++(j++t)) aZ sm:=eQ.mono λp hp=>by simp[hp]
 refine Ws (Wb (Wq (Wv rfl (Wv rfl (Wv rfl (Wr (.iaddrS (congrArg some CB) rfl me (by decide)) (Wl rfl (dt.mem (.left hba)) hrow rfl rfl (Ww (Wz [.ptr (some ⟨bf,0,0⟩),iv (.ofNat (i+1))] rfl rfl (pE hB hC hT dt hsm (.app (.app hf)) aad vo) ?_)))))))))
 rintro w s5 ⟨hv0,tn⟩
 have hz:∃(cr:CH)(be:Bool),w=.tuple [.agg cr.row,.bool be]/\(∀c,gY gK (dL ps cs n b) sm c (Jo ps cs i)=(be&&(decide (Int.ofNat (ps i)=c)||rH cr.k)))/\∀c,wq gK (dL ps cs n b) sm c (Jo ps cs i)=(be&&decide (Int.ofNat (ps i)=c)):=by
  have hid:(Jo ps cs i).id=.ofNat (i+1):=rfl
  cases hc:uY gK (dL ps cs n b) sm (.ofNat (i+1)) with
  | none=>exact⟨⟨0,0,0⟩,false,by rw[hc]at hv0;exact hv0,λc=>by unfold gY;rw[hid,hc];rfl,λc=>by unfold wq;rw[hid,hc];rfl⟩
  | some z=>exact⟨z,true,by rw[hc]at hv0;exact hv0,λc=>by unfold gY;rw[hid,hc];rfl,λc=>by unfold wq;rw[hid,hc];rfl⟩
 obtain⟨cr,be,rfl,Pz,hown⟩:=hz
 obtain⟨nw,hnw⟩:=Tl cr.k 32
 have hw:rH cr.k=decide (nw=0):=by unfold rH;rw[hnw]
 refine Wv rfl (Wr (.extract rfl rfl) (Wr (.extract rfl rfl) (Wa (.alloc rfl) λb17=>Ww (Wt (s':=(b17,.r false [cr.row] 3)::s5) rfl rfl rfl .here rfl rfl (Wv rfl (Wn ?_))))))
 refine Wq (Wf rfl (Wl rfl .here rfl rfl rfl (Wj rfl rfl hnw (Wh rfl rfl (dM _ _) (Wv rfl (Wn ?_))))))
 refine Wq (Wv rfl (Wv rfl (Wr (.iaddrS rfl rfl (by omega) (by decide)) (Wf rfl (Wl rfl (.there (tn.mem (.app (.app hrb)))) (r:=0+i) (by rw[Nat.zero_add];exact aa8) rfl rfl (Wj rfl rfl abh (Wr (.convI rfl abi) (Wv rfl (Wn ?_)))))))))
 have KL:aH bl EL (dL ps cs n b) (og++(j++t)) ((b17,.r false [cr.row] 3)::s5):=aH.bK (m:=[_]) tn
 refine Ws (WP.bD (Dp (.mv rfl) (Dp (.mkif rfl rfl) (Dp (.mv rfl) (Dp (.mv rfl) (Dp (.mv rfl) (Dp (.iaddrS (congrArg some CB) rfl me (by decide)) (Dl rfl .nil (.load rfl (KL.mem (.left hba)) hrow rfl rfl) (Dc .nil (Wz [iv (.ofNat (i+1))] rfl rfl (Jp XR ht66) ?_))))))))))
 rintro w _ ⟨rfl,m7,rfl⟩
 refine Dc .nil (Wz [.iface (T 26) (.ptr (some ⟨bf,0,0⟩)),iv (.ofNat 1),iv (.ofNat p),.agg (⟨0,.ofNat (i+1)⟩:TG).row] rfl rfl (Db hB hC XR hT hme (by omega) (aH.bK KL) hsm (.app (.app hf)) aad vo) ?_)
 rintro w s8 ⟨rfl,hs8⟩
 refine Dp (.mv rfl) (Dp (.mkif rfl rfl) (Dp (.mv rfl) (Dp (.mv rfl) (Dp (.mv rfl) (Dp (.iaddrS (congrArg some CB) rfl me (by decide)) (WD.lk rfl .nil (.load rfl (hs8.mem (.left hba)) hrow rfl rfl) (Dc .nil (Wz [iv (.ofNat (i+1))] rfl rfl (Jp XR ht66) ?_))))))))
 rintro w _ ⟨rfl,m9,rfl⟩
 refine Dc .nil (Wz [.iface (T 26) (.ptr (some ⟨bf,0,0⟩)),iv (.ofNat 1),iv (.ofNat q),.agg (⟨0,.ofNat (i+1)⟩:TG).row] rfl rfl (Db hB hC XR hT hme (by omega) (aH.bK hs8) hsm (.app (.app hf)) aad vo) ?_)
 rintro w s10 ⟨rfl,aaq⟩
 refine Dp (.mv rfl) (Dp (.mv rfl) (D0 .nil ?_ ?_))
 rotate_left
 ·intro o ho
  rw[List.mem_singleton.1 ho]
  refine⟨(λi hi=>nomatch hi),Nat.zero_le _,iq 5 _,λk _ hk=>?_⟩
  rcases(by have:k<=2:=hk;omega:k=0\/k=1\/k=2)with rfl|rfl|rfl
  ·exact⟨_,rfl,.load rfl (KL.mem (.left hba)) hrow rfl rfl⟩
  ·exact⟨_,rfl,.load rfl (.app (KL.mem (.left hba))) hrow rfl rfl⟩
  ·exact⟨_,rfl,.load rfl (hs8.mem (.left hba)) hrow rfl rfl⟩
 have fin:∀{l9:Sl}{s9:SH}{Qe:Nat->Po}{Qr:Po},aH bl EL (dL ps cs n b) (og++(j++t)) s9->(∀y w,lk [(0,.slice (some ⟨rb,0,0⟩) L.length cap sl 2),(7,.ptr (some ⟨bf,0,0⟩)),(8,ids),(9,iv (.ofNat p)),(10,iv (.ofNat q)),(16,iv (.ofNat i))] y=some w->lk l9 y=some w) ->
   WP P K none 178 (.ops [zm 99 16,zo 100 (.arith .add (zt 99) (zc 1)),zm 16 100]) l9 [] s9 (λl ds s'=>∃m,m<n-i/\(ds=[]/\∃i,m=n-i/\i<=n/\aH bl EL (dL ps cs n b) (og++(j++t)) s'/\∀y w,lk [(0,.slice (some ⟨rb,0,0⟩) L.length cap sl 2),(7,.ptr (some ⟨bf,0,0⟩)),(8,ids),(9,iv (.ofNat p)),(10,iv (.ofNat q)),(16,iv (.ofNat i))] y=some w->lk l y=some w)) Qe Qr:=by
  intro l9 s9 _ _ h9 hl9
  refine Wg hl9 (λ_ _ h=>h) ?_
  refine Wo (Wv rfl (Wj rfl rfl (bM (by omega)) (Wv rfl (Wn ?_))))
  exact⟨n-(i+1),by omega,rfl,i+1,rfl,hlt,h9,aa rfl (aa rfl (aa rfl (aa rfl (aa rfl (aa rfl aB)))))⟩
 have hEp:eqBy 20 .pi (iv (.ofNat (ps i))) (iv (.ofNat p))=some (decide (Int.ofNat (ps i)=Int.ofNat p)):=dM _ _
 have hEo:∃ow oq,decide (Int.ofNat (ps i)=Int.ofNat p)=ow/\decide (Int.ofNat (ps i)=Int.ofNat q)=oq:=⟨_,_,rfl,rfl⟩
 obtain⟨ow,oq,hEo,hEq⟩:=hEo
 rw[aa9,aa9,Pz,Pz,hw,hEo,hEq]
 rw[hEo]at hEp
 clear Pz hv0 hw
 generalize decide (nw=0)=nz
 cases be with
 | true=>
  cases nz with
  | true=>
   rw[Bool.true_and,Bool.or_true,Bool.true_and,Bool.or_true]
   refine Wq (Wv rfl (Wv rfl (Wv rfl (Wy rfl rfl (Wv rfl (Wy rfl rfl (Wr (.un rfl rfl) (Wy rfl rfl (Wv rfl (Wk rfl rfl (Wk rfl rfl (Wk rfl rfl (Wy rfl rfl (Wr (.cV rfl rfl) (Wr (.cV rfl rfl) (Wh rfl rfl (px _) (Wv rfl (Wy rfl rfl (Wv rfl (Wy rfl rfl (Wr (.un rfl rfl) (Wy rfl rfl (Wv rfl (Wy rfl rfl (Wv rfl (Wy rfl rfl (Wv rfl (Wy rfl rfl (Wh rfl rfl (px _) (Wy rfl rfl (Wr (.cV rfl rfl) (Wr (.bj rfl rfl) (Wv rfl (Wy rfl rfl (Wv rfl (Wy rfl rfl (Wr (.mkif rfl rfl) (Wy rfl rfl (Wv rfl (Wy rfl rfl (Wv rfl (Wy rfl rfl (Wv rfl (Wy rfl rfl (Wr (.iaddrS (congrArg some CB) rfl me (by decide)) (Wy rfl rfl (Wl rfl (aaq.mem (.left hba)) hrow rfl rfl (Wy rfl rfl (Ww (Wz [iv (.ofNat (i+1))] rfl rfl (Jp XR ht66) ?_))))))))))))))))))))))))))))))))))))))))))))))))))
   rintro w _ ⟨rfl,m11,rfl⟩
   refine Wy rfl rfl (Ww (Wz [.iface (T 26) (.ptr (some ⟨bf,0,0⟩)),iv (.ofNat 4),iv (.ofNat p),.agg (⟨0,.ofNat (i+1)⟩:TG).row] rfl rfl (Db hB hC XR hT hme (by omega) (aH.bK aaq) hsm (.app (.app hf)) aad vo) ?_))
   rintro w s12 ⟨rfl,aas⟩
   rw[aaL,hown,hEo]
   rw[Bool.true_and]
   refine Wy rfl rfl (Wv rfl (Wy rfl rfl (Wv rfl (Wy rfl rfl (Wv rfl (Wy rfl rfl (Wv rfl (Wy rfl rfl (Wh rfl rfl hEp (Wy rfl rfl (Wr (.cV rfl rfl) (Wy rfl rfl (Wh rfl rfl (px _) (Wr (.bj rfl rfl) (Wn ?_)))))))))))))))
   exact Wd rfl fS (λ_=>Wi (fin aas (aa rfl (aa rfl (aa rfl (aa rfl (aa rfl (aa rfl aB))))))))
  | false=>
   rw[Bool.true_and,Bool.or_false,Bool.true_and,Bool.or_false]
   refine Wq (Wv rfl (Wv rfl (Wv rfl (Wy rfl rfl (Wv rfl (Wy rfl rfl (Wr (.un rfl rfl) (Wy rfl rfl (Wv rfl (Wy rfl rfl (Wv rfl (Wy rfl rfl (Wv rfl (Wy rfl rfl (Wh rfl rfl hEp (Wy rfl rfl (Wr (.bj rfl rfl) (Wr (.cV rfl rfl) (Wh rfl rfl (px _) (Wv rfl (Wy rfl rfl (Wv rfl (Wy rfl rfl (Wr (.un rfl rfl) (Wy rfl rfl (Wv rfl (Wk rfl rfl (Wk rfl rfl (Wk rfl rfl (Wy rfl rfl (Wr (.bj rfl rfl) (Wr (.bj rfl rfl) (Wv rfl (Wy rfl rfl (Wv rfl (Wy rfl rfl (Wr (.mkif rfl rfl) (Wy rfl rfl (Wv rfl (Wy rfl rfl (Wv rfl (Wy rfl rfl (Wv rfl (Wy rfl rfl (Wr (.iaddrS (congrArg some CB) rfl me (by decide)) (Wy rfl rfl (Wl rfl (aaq.mem (.left hba)) hrow rfl rfl (Wy rfl rfl (Ww (Wz [iv (.ofNat (i+1))] rfl rfl (Jp XR ht66) ?_))))))))))))))))))))))))))))))))))))))))))))))))))
   rintro w _ ⟨rfl,m11,rfl⟩
   refine Wy rfl rfl (Ww (Wz [.iface (T 26) (.ptr (some ⟨bf,0,0⟩)),iv (.ofNat 4),iv (.ofNat p),.agg (⟨0,.ofNat (i+1)⟩:TG).row] rfl rfl (Db hB hC XR hT hme (by omega) (aH.bK aaq) hsm (.app (.app hf)) aad vo) ?_))
   rintro w s12 ⟨rfl,aas⟩
   rw[aaL,hown,hEo]
   rw[Bool.true_and]
   refine Wy rfl rfl (Wv rfl (Wy rfl rfl (Wv rfl (Wy rfl rfl (Wv rfl (Wy rfl rfl (Wv rfl (Wy rfl rfl (Wh rfl rfl hEp (Wy rfl rfl (Wr (.cV rfl rfl) (Wy rfl rfl (Wh rfl rfl (px _) (Wr (.bj rfl rfl) (Wn ?_)))))))))))))))
   exact Wd rfl fS (λ_=>Wi (fin aas (aa rfl (aa rfl (aa rfl (aa rfl (aa rfl (aa rfl aB))))))))
 | false=>
  cases nz with
  | true=>
   rw[Bool.false_and,Bool.false_and]
   refine Wq (Wv rfl (Wv rfl (Wv rfl (Wk rfl rfl (Wk rfl rfl (Wk rfl rfl (Wu rfl (Wu rfl (Wu rfl (Wk rfl rfl (Wr (.bj rfl rfl) (Wh rfl rfl (px _) (Wv rfl (Wy rfl rfl (Wv rfl (Wy rfl rfl (Wr (.un rfl rfl) (Wy rfl rfl (Wv rfl (Wy rfl rfl (Wv rfl (Wy rfl rfl (Wv rfl (Wy rfl rfl (Wh rfl rfl (px _) (Wy rfl rfl (Wr (.cV rfl rfl) (Wr (.bj rfl rfl) (Wv rfl (Wy rfl rfl (Wv rfl (Wy rfl rfl (Wr (.mkif rfl rfl) (Wy rfl rfl (Wv rfl (Wy rfl rfl (Wv rfl (Wy rfl rfl (Wv rfl (Wy rfl rfl (Wr (.iaddrS (congrArg some CB) rfl me (by decide)) (Wy rfl rfl (Wl rfl (aaq.mem (.left hba)) hrow rfl rfl (Wy rfl rfl (Ww (Wz [iv (.ofNat (i+1))] rfl rfl (Jp XR ht66) ?_))))))))))))))))))))))))))))))))))))))))))))))
   rintro w _ ⟨rfl,m11,rfl⟩
   refine Wy rfl rfl (Ww (Wz [.iface (T 26) (.ptr (some ⟨bf,0,0⟩)),iv (.ofNat 4),iv (.ofNat p),.agg (⟨0,.ofNat (i+1)⟩:TG).row] rfl rfl (Db hB hC XR hT hme (by omega) (aH.bK aaq) hsm (.app (.app hf)) aad vo) ?_))
   rintro w s12 ⟨rfl,aas⟩
   rw[aaL,hown,hEo]
   refine Wy rfl rfl (Wv rfl (Wy rfl rfl (Wv rfl (Wk rfl rfl (Wk rfl rfl (Wk rfl rfl (Wy rfl rfl (Wr (.bj rfl rfl) (Wy rfl rfl (Wh rfl rfl (px _) (Wr (.bj rfl rfl) (Wn ?_))))))))))))
   exact Wd rfl fS (λ_=>Wi (fin aas (aa rfl (aa rfl (aa rfl (aa rfl (aa rfl (aa rfl aB))))))))
  | false=>
   rw[Bool.false_and,Bool.false_and]
   refine Wq (Wv rfl (Wv rfl (Wv rfl (Wk rfl rfl (Wk rfl rfl (Wk rfl rfl (Wu rfl (Wu rfl (Wu rfl (Wk rfl rfl (Wr (.bj rfl rfl) (Wh rfl rfl (px _) (Wv rfl (Wy rfl rfl (Wv rfl (Wy rfl rfl (Wr (.un rfl rfl) (Wy rfl rfl (Wv rfl (Wk rfl rfl (Wk rfl rfl (Wk rfl rfl (Wy rfl rfl (Wr (.bj rfl rfl) (Wr (.bj rfl rfl) (Wv rfl (Wy rfl rfl (Wv rfl (Wy rfl rfl (Wr (.mkif rfl rfl) (Wy rfl rfl (Wv rfl (Wy rfl rfl (Wv rfl (Wy rfl rfl (Wv rfl (Wy rfl rfl (Wr (.iaddrS (congrArg some CB) rfl me (by decide)) (Wy rfl rfl (Wl rfl (aaq.mem (.left hba)) hrow rfl rfl (Wy rfl rfl (Ww (Wz [iv (.ofNat (i+1))] rfl rfl (Jp XR ht66) ?_)))))))))))))))))))))))))))))))))))))))))))
   rintro w _ ⟨rfl,m11,rfl⟩
   refine Wy rfl rfl (Ww (Wz [.iface (T 26) (.ptr (some ⟨bf,0,0⟩)),iv (.ofNat 4),iv (.ofNat p),.agg (⟨0,.ofNat (i+1)⟩:TG).row] rfl rfl (Db hB hC XR hT hme (by omega) (aH.bK aaq) hsm (.app (.app hf)) aad vo) ?_))
   rintro w s12 ⟨rfl,aas⟩
   rw[aaL,hown,hEo]
   refine Wy rfl rfl (Wv rfl (Wy rfl rfl (Wv rfl (Wk rfl rfl (Wk rfl rfl (Wk rfl rfl (Wy rfl rfl (Wr (.bj rfl rfl) (Wy rfl rfl (Wh rfl rfl (px _) (Wr (.bj rfl rfl) (Wn ?_))))))))))))
   exact Wd rfl fS (λ_=>Wi (fin aas (aa rfl (aa rfl (aa rfl (aa rfl (aa rfl (aa rfl aB))))))))
theorem aaI {L:List TG}(h:L.Nodup){i k:Nat}(hi:i<L.length)(hk:k<i):¬L[k]'(by omega)=L[i]:=List.pairwise_iff_getElem.1 h k i (by omega) hi hk
theorem aaH (hW:LawG P K F T)(hL:BaseL P K F T){ids lv:AV}{og j:SH}{ps cs:Nat->Nat}{n x:Nat}{b:Bool}{L:List (List AV)}(hx:x<=255)(hn:n<=20)(hcs:∀j,j<n->cs j<5)(hs:aH bl EL (dL ps cs n b) (og++(j++t)) s)(hG:Gr 1 ids (nR (fI n)) og)
  (hf:Has bf (.r false [bu bl aZ 60 c1 c2 c3 c4 bE] 8) t) (eQ:cI t aZ sm) (XW:WI t lv L ps cs) (hnL:n<=L.length)
  (e0:lk l 0=some lv) (e2:lk l 2=some (.int .u8 (.ofNat x))) (e7:lk l 7=some (.ptr (some ⟨bf,0,0⟩))) (e8:lk l 8=some ids) :
  WP P K none 178 (a6Z F T) l [] s Kj (λ_=>Kj) (aaB t):=by
 have hW0:=hW
 obtain⟨hB,hC,XR,hM,hT,ht66,hme⟩:=hW
 have hsm:=aan ps cs hn b
 have vo:=aa3 hC (ps:=ps) hn hcs b
 have aad:∀m:SH,cI (m++(og++(j++t))) aZ sm:=λm=>eQ.mono λp hp=>by simp[hp]
 have hfS:∀m:SH,Has bf (.r false [bu bl aZ 60 c1 c2 c3 c4 bE] 8) (m++(og++(j++t))):=λm=>.app (.app (.app hf))
 have h34:binV .rem (.int .u8 (.ofNat x)) (.int .u8 (.ofNat 3))=some (.int .u8 (.ofNat (x%3))):=yi (by omega)
 have h35:mkI .i64 (.ofNat (x%3))=some (iv (.ofNat (x%3))):=tD (by omega)
 have h38:binV .rem (.int .u8 (.ofNat (x/3))) (.int .u8 (.ofNat 3))=some (.int .u8 (.ofNat (x/3%3))):=yi (by omega)
 have h39:mkI .i64 (.ofNat (x/3%3))=some (iv (.ofNat (x/3%3))):=tD (by omega)
 unfold a6Z
 refine Ws (Wq (Wv e7 (Wh (b:=false) rfl rfl rfl (Wn (Wd rfl fS (λ_=>Wi ?_))))))
 refine Wq (Wv e2 (Wj rfl rfl h34 (Wr (.convI rfl h35) (Wv e2 (Wj rfl rfl (abb hx) (Wj rfl rfl h38 (Wr (.convI rfl h39) (Wv rfl (Wv rfl (Wn ?_))))))))))
 generalize x%3=p
 generalize x/3%3=q
 -- the kinds
 refine Ws (Wq (Wv rfl (Wn (Wb ?_))))
 unfold a6K
 refine Wp (λk l ds s'=>ds=[]/\∃u,k=7-u/\1<=u/\u<=7/\aH bl EL (dL ps cs n b) (og++(j++t)) s'/\∀y w,lk [(0,lv),(7,.ptr (some ⟨bf,0,0⟩)),(8,ids),(9,iv (.ofNat p)),(10,iv (.ofNat q)),(11,iv (.ofNat u))] y=some w->lk l y=some w) ?_ (n:=7-1)
  ⟨rfl,1,rfl,Nat.le_refl _,Nat.le_of_ble_eq_true rfl,hs,aa e0 (aa e7 (aa e8 (aa rfl (aa rfl (aa rfl aB)))))⟩
 rintro k l2 ds s2 ⟨rfl,u,rfl,hu1,hu7,dt,hl⟩
 refine Wg hl (λ_ _ h=>h) ?_
 refine Ws (Wq (Wv rfl (Wj rfl rfl (vQ _ _) (Wn (Wd rfl (λht=>Wi ?_) (λht=>Wx ?_))))))
 ·have hu6:u<=6:=by
   have h6:¬(6:Int)<((u:Nat):Int):=of_decide_eq_false (by simpa using ht)
   omega
  refine Ws (Wb (Wq (Wv rfl (Wr (.mkif rfl rfl) (Wv rfl (Wv rfl (Ww (Wz [.iface (T 26) (.ptr (some ⟨bf,0,0⟩)),iv (.ofNat u),iv (.ofNat p)] rfl rfl (nT hB hC XR hT hme (by omega) dt hsm (hfS []) (aad []) vo) ?_))))))))
  rintro w s3 ⟨m,gw,hS⟩
  have hN:=aak (g:=gK) (C:=sm) ps cs n b (.ofNat u) (.ofNat p)
  have hLn:=qJ (g:=gK) (C:=sm) (kind:=.ofNat u) (aQ:=.ofNat p) hsm
  refine Wv rfl (Wn ?_)
  generalize hLt:ct gK (dL ps cs n b) sm (.ofNat u) (.ofNat p)=Lt at hS hN hLn
  have lw:lenOf w=some Lt.length:=by rw[hS.lenOf,sd]
  refine Wq (Wv rfl (Wn (Wb ?_)))
  unfold a6L
  refine Wp (λk l ds s'=>ds=[]/\∃i,k=Lt.length-i/\i<=Lt.length/\aH bl EL (dL ps cs n b) (m++(og++(j++t))) s'/\∀y x,lk [(0,lv),(7,.ptr (some ⟨bf,0,0⟩)),(8,ids),(9,iv (.ofNat p)),(10,iv (.ofNat q)),(11,iv (.ofNat u)),(12,w),(13,iv (.ofNat i))] y=some x->lk l y=some x) ?_ (n:=Lt.length-0)
   ⟨rfl,0,rfl,Nat.zero_le _,gw,aa rfl (aa rfl (aa rfl (aa rfl (aa rfl (aa rfl (aa rfl (aa rfl aB)))))))⟩
  rintro k l4 ds s4 ⟨rfl,i,rfl,hi,pM,hl⟩
  refine Wg hl (λ_ _ h=>h) ?_
  refine Ws (Wq (Wv rfl (Wv rfl (Wr (.lenS rfl lw) (Wj rfl rfl (eT _ _) (Wn (Wd rfl (λht=>Wi ?_) (λht=>Wx ?_))))))))
  ·have hlt:i<Lt.length:=Int.ofNat_lt.1 (of_decide_eq_true ht)
   obtain⟨ba,ra,na,ca,J5,Sp,Ma,e1,hba,me,hra⟩:=hS.at (i:=i) (by rw[sd];exact hlt)
   rw[Kd hlt]at hra
   refine Ws (Wb (Ws (Wq (Wv rfl (Wr (.mkif rfl rfl) (Wv rfl (Wv rfl (Wv rfl (Wv rfl (Wr (.iaddrS (congrArg some e1) rfl me (by decide)) (Wl (cs:=Lt[i].row) rfl (pM.mem (.left hba)) hra rfl rfl (Ww (Wz [.iface (T 26) (.ptr (some ⟨bf,0,0⟩)),iv (.ofNat u),iv (.ofNat p),.agg Lt[i].row] rfl rfl (Db hB hC XR hT hme (by omega) pM hsm (hfS m) (aad m) vo) ?_)))))))))))))
   rintro w2 s5 ⟨rfl,tn⟩
   rw[hLt,decide_eq_true (List.getElem_mem hlt)]
   refine Wr (.un rfl rfl) (Wn (Wd rfl fS (λ_=>Wi ?_)))
   refine Wq (Wv rfl (Wn (Wb ?_)))
   unfold a6E
   refine Wp (λk l ds s'=>ds=[]/\s'=s5/\∃e,k=i-e/\e<=i/\∀y x,lk [(0,lv),(7,.ptr (some ⟨bf,0,0⟩)),(8,ids),(9,iv (.ofNat p)),(10,iv (.ofNat q)),(11,iv (.ofNat u)),(12,w),(13,iv (.ofNat i)),(14,iv (.ofNat e))] y=some x->lk l y=some x) ?_ (n:=i-0)
    ⟨rfl,rfl,0,rfl,Nat.zero_le _,aa rfl (aa rfl (aa rfl (aa rfl (aa rfl (aa rfl (aa rfl (aa rfl (aa rfl aB))))))))⟩
   rintro k l6 ds s6 ⟨rfl,rfl,e,rfl,he,hl⟩
   refine Wg hl (λ_ _ h=>h) ?_
   refine Ws (Wq (Wv rfl (Wv rfl (Wj rfl rfl (eT _ _) (Wn (Wd rfl (λht=>Wi ?_) (λht=>Wx ?_)))))))
   ·have hei:e<i:=Int.ofNat_lt.1 (of_decide_eq_true ht)
    obtain⟨bb,rb,nb,cb,slb,rob,Mb,e2,hbb,aaS,hrb⟩:=hS.at (i:=e) (by rw[sd];omega)
    rw[Kd (by omega)]at hrb
    refine Ws (Wb (Ws (WP.bD (Dp (.mv rfl) (Dp (.mv rfl) (Dp (.iaddrS (congrArg some e2) rfl aaS (by decide)) (Dl rfl .nil (.load rfl (tn.mem (.left hbb)) hrb rfl rfl) (Dp (.mv rfl) (Dp (.mv rfl) (Dp (.iaddrS (congrArg some e1) rfl me (by decide)) (Dl rfl .nil (.load rfl (tn.mem (.left hba)) hra rfl rfl) (Dp (.eql rfl rfl (eqT _ _)) (D0 .nil ?_ (λo ho=>nomatch ho))))))))))))))
    rw[decide_eq_false (aaI hN hlt hei)]
    refine Wd rfl fS (λ_=>Wi ?_)
    refine Wo (Wv rfl (Wj rfl rfl (bM (by omega)) (Wv rfl (Wn ?_))))
    exact⟨i-(e+1),by omega,rfl,rfl,e+1,rfl,hei,aa rfl (aa rfl (aa rfl (aa rfl (aa rfl (aa rfl (aa rfl (aa rfl (aa rfl aB))))))))⟩
   ·refine Wo (Wv rfl (Wj rfl rfl (bM (by omega)) (Wv rfl (Wn ?_))))
    exact⟨Lt.length-(i+1),by omega,rfl,i+1,rfl,hlt,tn,aa rfl (aa rfl (aa rfl (aa rfl (aa rfl (aa rfl (aa rfl (aa rfl aB)))))))⟩
  ·refine Wo (Wv rfl (Wj rfl rfl (bM (by omega)) (Wv rfl (Wn ?_))))
   exact⟨7-(u+1),by omega,rfl,u+1,rfl,by omega,by omega,pM.fb,aa rfl (aa rfl (aa rfl (aa rfl (aa rfl (aa rfl aB)))))⟩
 -- all of acY
 refine Wq (Wv rfl (Wr (.mkif rfl rfl) (Wv rfl (Ww (Wz [.iface (T 26) (.ptr (some ⟨bf,0,0⟩)),iv (.ofNat 2),iv (.ofNat p)] rfl rfl (aaa hB hC XR hT hme (by omega) dt hsm (hfS []) (aad []) vo) ?_)))))
 rintro w1 s3 ⟨o1,m1,gw,hG1⟩
 have hT2:∀m:SH,cI (m++(og++(j++t))) aZ sm:=aad
 refine Wv rfl (Wr (.mkif rfl rfl) (Wv rfl (Ww (Wz [.iface (T 26) (.ptr (some ⟨bf,0,0⟩)),iv (.ofNat 1),iv (.ofNat p)] rfl rfl (nT hB hC XR hT hme (by omega) gw hsm (.app (.app (.app (.app hf)))) (eQ.mono λp hp=>by simp[hp]) vo) ?_))))
 rintro w2 s4 ⟨m2,pM,hS2⟩
 obtain⟨u4,hu4,aa2⟩:=pM.split
 have la:=qJ (g:=gK) (C:=sm) (kind:=.ofNat 2) (aQ:=.ofNat p) hsm
 have lb:=qJ (g:=gK) (C:=sm) (kind:=.ofNat 1) (aQ:=.ofNat p) hsm
 have lc:=qJ (g:=gK) (C:=sm) (kind:=.ofNat 3) (aQ:=.ofNat p) hsm
 refine Ww (WS.pre (s':=(u4++m2)++(o1++(m1++(og++(j++t))))) (hu4.trans (ak λc w h0 h1 h2 hq=>by simp only[h1];omega)) (WS.aag rfl hG1 rfl (hS2.mono λp hp=>by simp[hp]) (by decide) (by rw[sd,sd];omega) (by decide) λv15 o15 jk aa4=>?_))
 refine Wv rfl (Wn ?_)
 have h15:yu (ct gK (dL ps cs n b) sm (.ofNat 2) (.ofNat p))++yu (ct gK (dL ps cs n b) sm (.ofNat 1) (.ofNat p))=yu (ct gK (dL ps cs n b) sm (.ofNat 3) (.ofNat p)):=(List.map_append ..).symm
 rw[h15]at aa4
 have tn:aH bl EL (dL ps cs n b) (o15++(m2++(jk++(m1++(og++(j++t)))))) (o15++((u4++m2)++(jk++(m1++(og++(j++t)))))):=(aa2 _).perm (ak λc w h0 h1 h2 hq=>by simp only[h1];omega)
 refine Ws (Wq (Wv rfl (Wv rfl (Wr (.mkif rfl rfl) (Wv rfl (Ww (Wz [.iface (T 26) (.ptr (some ⟨bf,0,0⟩)),iv (.ofNat 3),iv (.ofNat p)] rfl rfl (nT hB hC XR hT hme (by omega) tn hsm (.app (.app (.app (.app (.app (.app hf)))))) (eQ.mono λp hp=>by simp[hp]) vo) ?_)))))))
 rintro w3 s6 ⟨m3,KL,hS3⟩
 refine Ww (Wz [v15,w3] rfl rfl (aaO hL (aa4.out.src.mono λp hp=>(KL.mem (.app (.left (.ce hp)))).mem) (hS3.mono λp hp=>(KL.mem (.left (.ce hp))).mem) (by omega)) ?_)
 rintro w4 _ ⟨rfl,rfl⟩
 refine Wr (.un rfl rfl) (Wn (Wd rfl fS (λ_=>Wi ?_)))
 exact aaG hW0 hn KL.fb.fb.fb.fb.fb hG hf eQ vo XW hnL (aa rfl (aa rfl (aa rfl (aa rfl (aa rfl aB)))))

end
end Go.Ev
