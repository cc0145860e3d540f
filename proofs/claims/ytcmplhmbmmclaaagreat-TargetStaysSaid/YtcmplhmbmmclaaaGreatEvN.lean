/- Walks and rules. Conditions: none. -/
import Derived.Test.YtcmplhmbmmclaaaGreatEvM
import Derived.Test.YtcmplhmbmmclaaaGreatEvL
set_option linter.unusedVariables false
set_option linter.unusedSectionVars false
namespace Go.Ev
section
variable {P:Program}{K:Orc}{rd:Option Nat}{nt:Nat}{l:Sl}{ds:List aD}{s:SH}{Q Qn Qr:Po}{Qe:Nat->Po}{F:Nat->FuncId}{T:Nat->TypeId}{bf bl:Nat}{aZ bE:AV}{c0 c1 c2 c3 c4:Int}{EL:List (List AV)}{d:SD}{t:SH}
theorem aH.split (h:aH bl EL d t s):∃u,s.Perm (u++t)/\∀t',aH bl EL d t' (u++t'):=by
 obtain⟨sc,lv,pv,ov,eo,hv,gv,ev,fv,sv,wv,oL,nn,k1,k2,k3,k4⟩:=h
 exact⟨(bl,.r false [sc++([lv]++(d.cells pv ov eo hv gv ev fv sv wv++[]))] 51)::(oL++nn),ak λc w h0 h1 h2 hq=>by simp only[h1,h2,hq _ _ k1];omega,λt'=>⟨sc,lv,pv,ov,eo,hv,gv,ev,fv,sv,wv,oL,nn,ak λc w h0 h1 h2 hq=>by simp only[h1,h2];omega,k2,k3,k4⟩⟩
theorem aH.tT {t':SH}(h:aH bl EL d t s)(hp:t.Perm t'):aH bl EL d t' s:=by
 obtain⟨sc,lv,pv,ov,eo,hv,gv,ev,fv,sv,wv,oL,nn,k1,k2,k3,k4⟩:=h
 exact⟨sc,lv,pv,ov,eo,hv,gv,ev,fv,sv,wv,oL,nn,ak λc w h0 h1 h2 hq=>by simp only[h1,h2,hq _ _ k1,hq _ _ hp],k2,k3,k4⟩
theorem c6.perm {f:AV}{args:List AV}{s s':SH}{R:AV->SH->Prop}(hp:s.Perm s')(h:c6 P K f args s R):c6 P K f args s' R:=
 λH0 H hH=>h H0 H (hH.perm hp.symm)
theorem c6.canon {f:AV}{args:List AV}{R:AV->SH->Prop}(h:c6 P K f args s (λv s'=>∃s'',s'.Perm s''/\R v s'')):c6 P K f args s R:=by
 intro H0 H hH
 obtain⟨v,s',H',h1,h2,s'',h3,h4⟩:=h H0 H hH
 exact⟨v,s'',H',h1,h2.perm h3,h4⟩
def K9 (P:Program)(K:Orc)(bl:Nat)(EL:List (List AV))(d:SD)(f:FuncId)(cap:List AV)(t:SH)(out:List TG):Prop:=
 ∀y J L0 t' s',L0.length<=3000->SA P K bl EL d y J->(∀L t2,J L t2->∀q∈t,q∈t2)->J L0 t'->aH bl EL d t' s'->bB P K f (y::cap) s' (λ_ s''=>∃t'',aH bl EL d t'' s''/\J (L0++out) t'')
def lR (P:Program)(K:Orc)(bl:Nat)(EL:List (List AV))(d:SD)(T0:SH)(fv:AV)(out:List TG):Prop:=
 ∀fr t s,(∀q∈T0,q∈t)->aH bl EL d (fr++t) s->c6 P K fv [] s (λv s'=>∃f cap m,v=.func f [] cap/\aH bl EL d (m++(fr++t)) s'/\K9 P K bl EL d f cap (m++t) out)
def Lr:AC:=(.ops [zo 12 (.alloc 2 [(za 0),(za 0)]),zn (.store 2 (zt 12) (zt 50))])
def Lt:AC:=(.block 3 (.ops [zl 51 9,zo 52 (.load true 2 (zt 12)),zo 53 (.bslice 2 1 [(za 0),(za 0)] [⟨0,(zt 52)⟩]),zo 54 (.append 2 16 (zt 51) (zt 53)),zn (.store 1 (zt 9) (zt 54))]))
def Te:AC:=(.seq (.ops [zo 45 (.arith .lss (zt 44) (zt 43))]) (.seq (.cond (zt 45) .skip (.exit 0)) (.seq (.block 1 (.seq (.ops [zo 46 (.iaddrS 1 (zt 42) (zt 44)),zl 47 46,zm 11 47]) (.seq (.ops [zm 48 11,zo 49 (.call (zt 48) [])]) (.block 2 (.rf (zt 49) [50] Lr Lt))))) (.ops [zo 55 (.arith .add (zt 44) (zc 1)),zm 44 55]))))
def Lu:AC:=(.seq (.ops [zl 56 9,zm 6 56]) .ret)
def Coll (lb D:Nat)(lp:HO)(b9:Nat)(W:SH)(L:List TG)(t:SH):Prop:=
 ∃lv og j,t.Perm ((lb,lp)::(b9,.r false [[lv]] 1)::(og++(j++W)))/\Gr 2 lv (yu L) og
theorem BX {lb D b9:Nat}{l:Sl}{asg body:Code}{W:SH}(ha:cc P 57 asg=Lr)(hb:cc P 57 body=Lt)(h9:lk l 9=some (.ptr (some ⟨b9,0,0⟩))) :
  SA P K bl EL d (.yield lb) (Coll lb D (.lp l 57 [50] asg body .ready none D) b9 W):=by
 refine⟨λL t s x m hL hJ hs=>?_⟩
 obtain⟨lv,og,j,hp,hG⟩:=hJ
 obtain⟨u,hu,hback⟩:=hs.split
 refine c6.perm (s:=(lb,.lp l 57 [50] asg body .ready none D)::(u++(m++((b9,.r false [[lv]] 1)::(og++(j++W)))))) (ak λc w h0 h1 h2 hq=>by have:=hq _ _ hu;simp only[h1,h2,hq _ _ hp]at this |-;omega) (c6.canon ?_)
 refine AU (by omega) ha hb ?_
 unfold Lr Lt
 refine Wo (Wa (.alloc rfl) λNQ=>Ww (Wt (s':=(NQ,.r false [x.row] 2)::_) rfl rfl rfl .here rfl rfl (Wn ⟨(NQ,.r false [x.row] 2)::(u++(m++((b9,.r false [[lv]] 1)::(og++(j++W))))),List.Perm.swap ..,?_⟩)))
 refine Wb (Wo (Wl (v:=lv) h9 (.there (.there (.app (.app .here)))) rfl rfl rfl (Wl rfl (.there .here) rfl rfl rfl (Wa (.bslice (L:=[x.row]) rfl rfl) λR6=>?_))))
 refine Ww (WS.pre (s':=((R6,.r false [x.row] 2)::(lb,.lp l 57 [50] asg body .busy none D)::(NQ,.r false [x.row] 2)::(b9,.r false [[lv]] 1)::(u++m))++(og++(j++W))) (ak λc w h0 h1 h2 hq=>by simp only[h1,h2];omega) (WS.append_gr (xv:=.slice (some ⟨R6,0,0⟩) 1 1 false 2) rfl hG rfl (Src.all (L:=[x.row]) .here) (by decide) (by simp only[yu,List.length_map];omega) (by decide) λnw A9 jk xB=>?_))
 refine Ww (Wt (s':=A9++((R6,.r false [x.row] 2)::(lb,.lp l 57 [50] asg body .busy none D)::(NQ,.r false [x.row] 2)::(b9,.r false [[nw]] 1)::(u++m)++(jk++(j++W)))) (row':=[nw]) h9 rfl xB.out.src.part (.app (.there (.there (.there .here)))) rfl rfl (Wn ?_))
 refine⟨A9++((R6,.r false [x.row] 2)::(NQ,.r false [x.row] 2)::(b9,.r false [[nw]] 1)::(u++m)++(jk++(j++W))),ak λc w h0 h1 h2 hq=>by simp only[h1,h2];omega,u++(m++((lb,.lp l 57 [50] asg body .ready none D)::(b9,.r false [[nw]] 1)::(A9++(((R6,.r false [x.row] 2)::(NQ,.r false [x.row] 2)::(jk++j))++W)))),ak λc w h0 h1 h2 hq=>by simp only[h1,h2];omega,rfl,_,hback _,nw,A9,(R6,.r false [x.row] 2)::(NQ,.r false [x.row] 2)::(jk++j),.refl _,?_⟩
 simpa[yu]using xB
theorem fW {T0 t0:SH}{b9:Nat}{v:AV}{fs:List (AV × List TG)}{Qn0:Po}{Qe0:Nat->Po}{R:AV->SH->Prop}(hv:Src t0 1 v (fs.map λx=>[x.1]))(Uu:∀x∈fs,lR P K bl EL d T0 x.1 x.2)(qY:∀q∈T0,q∈t0)(hn:fs.length<=1000)(Y3:(fs.flatMap (·.2)).length<=3000)
  (hs:aH bl EL d ((b9,.r false [[nilS]] 1)::t0) s) (hR:∀w s' m,aH bl EL d (m++t0) s'->Src m 2 w (yu (fs.flatMap (·.2)))->R w s') (hl:∀i x,lk [(9,.ptr (some ⟨b9,0,0⟩)),(42,v),(43,iv (.ofNat fs.length)),(44,iv 0)] i=some x->lk l i=some x) :
  WP P K none 57 (.block 0 (.loop Te)) l [] s (λl ds s=>WP P K none 57 Lu l ds s Qn0 Qe0 (Bi P [.tmp 6] R)) Qe (Bi P [.tmp 6] R):=by
 refine Wb ?_
 unfold Te
 refine Wp (λk l ds s'=>∃q Ds lv og j,k=fs.length-q/\q<=fs.length/\ds=Ds.map aD.mark/\aH bl EL d (Ds.map (λD=>(D,HO.ob .deferred))++((b9,.r false [[lv]] 1)::(og++(j++t0)))) s'/\Gr 2 lv (yu ((fs.take q).flatMap (·.2))) og /\
   ∀i x,lk [(9,.ptr (some ⟨b9,0,0⟩)),(42,v),(43,iv (.ofNat fs.length)),(44,iv (.ofNat q))] i=some x->lk l i=some x) ?_ (n:=fs.length-0)
  ⟨0,[],nilS,[],[],rfl,Nat.zero_le _,rfl,hs,.nil,hl⟩
 rintro k l ds s' ⟨q,Ds,lv,og,j,rfl,hq,rfl,hs',hG,hl⟩
 refine Wg hl (λ_ _ h=>h) ?_
 refine Wq (Wj rfl rfl rfl (Wn (Ws (Wd rfl (λht=>?_) (λht=>?_)))))
 ·have hlt:q<fs.length:=bh.1 ht
  have hx:fs[q]?=some fs[q]:=List.getElem?_eq_getElem hlt
  have KP:fs[q]∈fs:=List.getElem_mem _
  generalize fs[q]=x at hx KP
  have gc:(fs.take (q+1)).flatMap (·.2)=(fs.take q).flatMap (·.2)++x.2:=by rw[List.take_add_one,hx,List.flatMap_append];simp
  have hlen:((fs.take q).flatMap (·.2)).length<=3000:=by
   refine Nat.le_trans ?_ Y3
   conv=>rhs;rw[<- List.take_append_drop q fs,List.flatMap_append,List.length_append]
   omega
  obtain⟨ba,ra,na,ca,J5,Sp,Ma,rfl,hba,me,gH⟩:=hv.at (i:=q) (by simpa using hlt)
  have eE:Ma[ra+q]?=some [x.1]:=by rw[gH];simp only[List.getElem?_map,hx];rfl
  refine Wi (Ws (Wb (Wq (Wr (.iaddrS rfl rfl me (by decide)) (Wl (v:=x.1) rfl (hs'.mem (.app (.there (.app (.app hba))))) eE rfl rfl (Wv rfl (Wn ?_)))))))
  refine Wq (Wv rfl (Ww (WS.call (vs:=[]) rfl rfl (Uu x KP (Ds.map (λD=>(D,HO.ob .deferred))++((b9,.r false [[lv]] 1)::(og++j))) t0 s' qY (hs'.tT (ak λc w h0 h1 h2 hq=>by simp only[h1,h2];omega))) ?_)))
  rintro w s2 ⟨f,cap,m,rfl,dt,hI⟩
  refine Wn (Wb (Wg (l':=[(9,.ptr (some ⟨b9,0,0⟩)),(42,.slice (some ⟨ba,ra,0⟩) na ca J5 1),(43,iv (.ofNat fs.length)),(44,iv (.ofNat q)),(49,.func f [] cap)]) (aa rfl (aa rfl (aa rfl (aa rfl (aa rfl aB))))) (λ_ _ h=>h) (WP.rf (first:=[]) (cap:=cap) rfl λasg body X4 Ct D lb=>?_)))
  have gw:=(dt.cons (p:=(D,.ob .deferred))).cons (p:=(lb,.lp [(9,.ptr (some ⟨b9,0,0⟩)),(42,.slice (some ⟨ba,ra,0⟩) na ca J5 1),(43,iv (.ofNat fs.length)),(44,iv (.ofNat q)),(49,.func f [] cap)] 57 [50] asg body .ready none D))
  have hY:=BX (bl:=bl) (EL:=EL) (d:=d) (lb:=lb) (D:=D) (W:=(D,.ob .deferred)::(Ds.map (λD=>(D,HO.ob .deferred))++(m++(j++t0)))) (P:=P) (K:=K) X4 Ct (b9:=b9) (l:=[(9,.ptr (some ⟨b9,0,0⟩)),(42,.slice (some ⟨ba,ra,0⟩) na ca J5 1),(43,iv (.ofNat fs.length)),(44,iv (.ofNat q)),(49,.func f [] cap)]) rfl
  refine bB.canon ((hI (.yield lb) _ ((fs.take q).flatMap (·.2)) _ _ hlen hY ?_ ⟨lv,og,[],?_,hG⟩ gw).post ?_)
  ·rintro L t2 ⟨nw,A9,j2,Gu,_⟩ q hq
   refine Gu.mem_iff.2 ?_
   simp only[List.mem_append,List.mem_cons]at hq |-
   rcases hq with hq|hq
   ·exact .inr (.inr (.inr (.inr (.inr (.inr (.inl hq))))))
   ·exact .inr (.inr (.inr (.inr (.inr (.inr (.inr (.inr hq)))))))
  ·exact ak λc w h0 h1 h2 hq=>by simp only[h1,h2,h0];omega
  ·rintro _ s4 ⟨t4,pM,nw,A9,j2,Gu,xB⟩
   obtain⟨s5,hp5,tn⟩:=(pM.tT Gu).first
   refine⟨_,hp5,_,.ready,none,s5,rfl,(λh=>LoopState.noConfusion h),?_⟩
   refine Wo (Wj rfl rfl (bM (by omega)) (Wv rfl (Wn ?_)))
   refine⟨fs.length-(q+1),by omega,q+1,D::Ds,nw,A9,j2++(m++j),rfl,hlt,rfl,aH.bK (m:=[_]) (tn.tT (ak λc w h0 h1 h2 hq=>by simp only[h1,h2,List.map_cons,List.cons_append];omega)),by rw[gc];exact xB,aa rfl (aa rfl (aa rfl (aa rfl aB)))⟩
 ·refine Wx ?_
  have:q=fs.length:=by
   have:¬q<fs.length:=λh=>by rw[fw,show Nat.blt q fs.length=true from bh.2 h]at ht;cases ht
   omega
  subst this
  rw[List.take_length]at hG
  show WP P K none 57 Lu _ _ _ _ _ _
  unfold Lu
  obtain⟨u,hu,hback⟩:=hs'.split
  refine Wq (Wl rfl (hs'.mem (.app .here)) rfl rfl rfl (Wv rfl (Wn (We ?_))))
  refine⟨Ds,u++((b9,.r false [[lv]] 1)::(og++(j++t0))),rfl,ak λc w h0 h1 h2 hq=>by rw[hq _ _ hu];simp only[h1,h2];omega,[lv],.tmp rfl .nil,hR _ _ ((b9,.r false [[lv]] 1)::(og++j)) (aH.bK ?_) (hG.out.src.mono λp hp=>by simp[hp])⟩
  have:=hback ((b9,.r false [[lv]] 1)::(og++(j++t0)))
  exact this.tT (ak λc w h0 h1 h2 hq=>by simp only[h1,h2];omega)
def uY (g:ED->CH->CH)(d:SD)(C:List CD)(id:Int):Option CH:=
 match d.onF C id with
 | none=>none
 | some (o,c)=>if c.kind=2 then some (tK g ⟨c.power,c.qn,c.keys⟩ (qy d C o))else none
structure nG (P:Program)(K:Orc)(F:Nat->FuncId)(g:ED->CH->CH)(d:SD)(C:List CD):Prop where
 ok:nF d C
 step:∀o,∀e∈qy d C o,lQ P K F g e
 any:∀o(c:CH)R,R.Perm (qy d C o)->tK g c R=tK g c (qy d C o)
def rH (k:Int):Bool:=match binV .and (iv k) (iv 32)with | some (.int _ n)=>decide (n=0) | _=>false
def gY (g:ED->CH->CH)(d:SD)(C:List CD)(aQ:Int)(o:OD):Bool:=match uY g d C o.id with | some x=>decide (o.aQ=aQ)||rH x.k | none=>false
def wq (g:ED->CH->CH)(d:SD)(C:List CD)(aQ:Int)(o:OD):Bool:=match uY g d C o.id with | some _=>decide (o.aQ=aQ) | none=>false
def jf (C:List CD)(o:OD):Bool:=match C[o.gE.toNat]? with | some c=>decide (c.kind=4) | none=>false
theorem Tl (a b:Int):∃n,binV .and (iv a) (iv b)=some (iv n):=by
 show∃n,bits .and .i64 a b=some (iv n)
 unfold bits
 split
 ·split
  ·exact⟨_,aL _ _⟩
  ·exact⟨_,rfl⟩
 ·exact⟨_,rfl⟩
theorem qq.val {g:ED->CH->CH}{C:List CD}{id:Int}{v:AV}(h:qq g d C id v)(hO:nG P K F g d C):v=match uY g d C id with | some x=>.tuple [.agg x.row,.bool true] | none=>.tuple [.agg (⟨0,0,0⟩:CH).row,.bool false]:=by
 unfold uY
 rcases h with⟨o,c,R,h1,h2,_,_,h3,rfl⟩|⟨h1,rfl⟩
 ·rw[h1]
  simp only[if_pos h2,hO.any o _ R h3]
 ·cases ho:d.onF C id with
  | none=>rfl
  | some p=>
   obtain⟨o,c⟩:=p
   simp only[if_neg (h1 o c ho)]
theorem pE (hB:Base P K F T)(hC:BaseC P K F T)(hT:TyC P T){g:ED->CH->CH}{C:List CD}{id:Int}(hs:aH bl EL d t s)(hd:d.Small)(hf:Has bf (.r false [bu bl aZ c0 c1 c2 c3 c4 bE] 8) t)(eQ:cI t aZ C)(hO:nG P K F g d C) :
  bB P K (F 30) [.ptr (some ⟨bf,0,0⟩),iv id] s (λv s'=>v=(match uY g d C id with | some x=>.tuple [.agg x.row,.bool true] | none=>.tuple [.agg (⟨0,0,0⟩:CH).row,.bool false])/\aH bl EL d t s'):=
 (BT hB hC hT hs hd hf eQ hO.ok hO.step).post λv s'⟨h1,h2⟩=>⟨h1.val hO,h2⟩
theorem vE (hB:Base P K F T)(hC:BaseC P K F T)(hG:BaseG P K F T)(hT:TyC P T){tF:TypeId}(hM:gA P F tF){g:ED->CH->CH}{C:List CD}{o:OD}{b1:Nat}{aQ:Int}(hs:aH bl EL d t s)(hd:d.Small)(hf:Has bf (.r false [bu bl aZ c0 c1 c2 c3 c4 bE] 8) t)(h1:Has b1 (.r false [[.iface tF (.ptr (some ⟨bf,0,0⟩)),iv aQ]] 2) t)(eQ:cI t aZ C)(hO:nG P K F g d C) :
  bB P K (F 115) [.agg o.row,.ptr (some ⟨b1,0,0⟩)] s (λv s'=>v=.bool (gY g d C aQ o)/\aH bl EL d t s'):=by
 refine hG.f115.cF (by simp) ?_
 unfold SG
 refine Wq (Wa (.box rfl rfl) λb2=>Wv rfl (Wn ?_))
 have nr:aH bl EL d ((b2,.r false [o.row] 14)::t) ((b2,.r false [o.row] 14)::s):=hs.cons
 refine Wq (Wf rfl (Wl rfl (.there (hs.mem h1)) rfl rfl rfl (Wf rfl (Wl rfl .here rfl rfl rfl (Ww (WS.invoke (vs:=[iv o.id]) rfl hM.chars rfl (pE hB hC hT nr hd (.there hf) (eQ.mono λp hp=>by simp[hp]) hO) ?_))))))
 rintro w s2 ⟨rfl,dt⟩
 unfold gY
 cases hc:uY g d C o.id with
 | none=>
  refine Wv rfl (Wr (.extract rfl rfl) (Wr (.extract rfl rfl) (Wa (.alloc rfl) λb4=>Ww (Wt rfl rfl rfl .here rfl rfl (Wv rfl (Wn ?_))))))
  refine Wq (Wv rfl (Wv rfl (Wk rfl rfl (Wk rfl rfl (Wk rfl rfl (Wk rfl rfl (Wk rfl rfl (Wk rfl rfl (Wu rfl (Wu rfl (Wu rfl (Wu rfl (Wk rfl rfl (Wr (.bj rfl rfl) (Wv rfl (Wn (We (Wm (.tmp rfl .nil) ?_))))))))))))))))))
  exact⟨rfl,aH.bK (m:=[_]) dt.tail⟩
 | some x=>
  obtain⟨n,hn⟩:=Tl x.k 32
  have hw:rH x.k=decide (n=0):=by unfold rH;rw[hn]
  refine Wv rfl (Wr (.extract rfl rfl) (Wr (.extract rfl rfl) (Wa (.alloc rfl) λb4=>Ww (Wt (s':=(b4,.r false [x.row] 3)::_) rfl rfl rfl .here rfl rfl (Wv rfl (Wn ?_))))))
  refine Wq (Wv rfl (Wv rfl (Wy rfl rfl (Wf rfl (Wy rfl rfl (Wl rfl (.there (dt.mem .here)) rfl rfl rfl (Wy rfl rfl (Wf rfl (Wy rfl rfl (Wl rfl (.there (dt.mem (.there h1))) rfl rfl rfl (Wy rfl rfl (Wh rfl rfl (bb _ _) (Wy rfl rfl (Wv rfl ?_))))))))))))))
  cases Sc:decide (o.aQ=aQ) with
  | true=>
   refine Wk rfl rfl (Wk rfl rfl (Wk rfl rfl (Wk rfl rfl (Wy rfl rfl (Wr (.cV rfl rfl) (Wr (.cV rfl rfl) (Wv rfl (Wn (We (Wm (.tmp rfl .nil) ?_))))))))))
   exact⟨rfl,aH.bK (m:=[_]) dt.tail⟩
  | false=>
   refine Wy rfl rfl (Wf rfl (Wy rfl rfl (Wl rfl .here rfl rfl rfl (Wy rfl rfl (Wj rfl rfl hn (Wy rfl rfl (Wh rfl rfl (bb _ _) (Wy rfl rfl (Wr (.bj rfl rfl) (Wr (.cV rfl rfl) (Wv rfl (Wn (We (Wm (.tmp rfl .nil) ?_))))))))))))))
   exact⟨by show _=AV.bool (false||rH x.k);rw[hw];rfl,aH.bK (m:=[_]) dt.tail⟩
theorem C3 (hB:Base P K F T)(hC:BaseC P K F T)(hG:BaseG P K F T)(hT:TyC P T){tF:TypeId}(hM:gA P F tF){g:ED->CH->CH}{C:List CD}{o:OD}{b1:Nat}{aQ:Int}(hs:aH bl EL d t s)(hd:d.Small)(hf:Has bf (.r false [bu bl aZ c0 c1 c2 c3 c4 bE] 8) t)(h1:Has b1 (.r false [[.iface tF (.ptr (some ⟨bf,0,0⟩)),iv aQ]] 2) t)(eQ:cI t aZ C)(hO:nG P K F g d C) :
  bB P K (F 117) [.agg o.row,.ptr (some ⟨b1,0,0⟩)] s (λv s'=>v=.bool (wq g d C aQ o)/\aH bl EL d t s'):=by
 refine hG.f117.cF (by simp) ?_
 unfold SK
 refine Wq (Wa (.box rfl rfl) λb2=>Wv rfl (Wn ?_))
 have nr:aH bl EL d ((b2,.r false [o.row] 14)::t) ((b2,.r false [o.row] 14)::s):=hs.cons
 refine Wq (Wf rfl (Wl rfl (.there (hs.mem h1)) rfl rfl rfl (Wf rfl (Wl rfl .here rfl rfl rfl (Ww (WS.invoke (vs:=[iv o.id]) rfl hM.chars rfl (pE hB hC hT nr hd (.there hf) (eQ.mono λp hp=>by simp[hp]) hO) ?_))))))
 rintro w s2 ⟨rfl,dt⟩
 unfold wq
 cases hc:uY g d C o.id with
 | none=>
  refine Wv rfl (Wr (.extract rfl rfl) (Wr (.extract rfl rfl) (Wa (.alloc rfl) λb4=>Ww (Wt rfl rfl rfl .here rfl rfl (Wv rfl (Wn ?_))))))
  refine Wq (Wv rfl (Wv rfl (Wk rfl rfl (Wk rfl rfl (Wk rfl rfl (Wk rfl rfl (Wk rfl rfl (Wr (.bj rfl rfl) (Wv rfl (Wn (We (Wm (.tmp rfl .nil) ?_))))))))))))
  exact⟨rfl,aH.bK (m:=[_]) dt.tail⟩
 | some x=>
  refine Wv rfl (Wr (.extract rfl rfl) (Wr (.extract rfl rfl) (Wa (.alloc rfl) λb4=>Ww (Wt (s':=(b4,.r false [x.row] 3)::_) rfl rfl rfl .here rfl rfl (Wv rfl (Wn ?_))))))
  refine Wq (Wv rfl (Wv rfl (Wy rfl rfl (Wf rfl (Wy rfl rfl (Wl rfl (.there (dt.mem .here)) rfl rfl rfl (Wy rfl rfl (Wf rfl (Wy rfl rfl (Wl rfl (.there (dt.mem (.there h1))) rfl rfl rfl (Wy rfl rfl (Wh rfl rfl (bb _ _) (Wr (.cV rfl rfl) (Wv rfl (Wn (We (Wm (.tmp rfl .nil) ?_)))))))))))))))))
  exact⟨rfl,aH.bK (m:=[_]) dt.tail⟩
theorem vG (hG:BaseG P K F T){C:List CD}{o:OD}{b3:Nat}{cv:AV}(h3:Has b3 (.r false [[cv]] 1) s)(eQ:Src s 11 cv (C.map CD.row))(hcd:∃j:Nat,o.gE=.ofNat j/\j<C.length) :
  bB P K (F 118) [.agg o.row,.ptr (some ⟨b3,0,0⟩)] s (λv s'=>v=.bool (jf C o)/\∃m,s'=m++s):=by
 obtain⟨j,hj,A3⟩:=hcd
 have zC:C[j]?=some C[j]:=List.getElem?_eq_getElem A3
 generalize C[j]=c at zC
 have hge:binV .geq (iv o.gE) (iv 0)=some (.bool true):=by
  rw[hj,th,decide_eq_false (show¬Int.ofNat j<0 from Int.not_lt.2 (Int.natCast_nonneg j))];rfl
 have hlt:binV .lss (iv o.gE) (iv (.ofNat C.length))=some (.bool true):=by
  rw[hj,eT,decide_eq_true (show Int.ofNat j<Int.ofNat C.length from Int.ofNat_lt.2 A3)]
 have hlen:lenOf cv=some C.length:=by rw[eQ.lenOf,List.length_map]
 have YY:jf C o=decide (c.kind=4):=by
  unfold jf
  rw[hj]
  show(match C[j]? with | some c=>decide (c.kind=4) | none=>false)=_
  rw[zC]
 rw[YY]
 obtain⟨bc,rc,nc,cc,slc,roc,Mc,rfl,hbc,CC,tl⟩:=eQ.at (i:=j) (by simpa using A3)
 have n9:Mc[rc+j]?=some c.row:=by rw[tl];simp only[List.getElem?_map,zC];rfl
 refine hG.f118.cF (by simp) ?_
 unfold SM
 refine Wq (Wa (.box rfl rfl) λb2=>Wv rfl (Wn ?_))
 refine Wq (Wf rfl (Wl rfl .here rfl rfl rfl (Wj rfl rfl hge (Wv rfl (Wy rfl rfl (Wf rfl (Wy rfl rfl (Wl rfl .here rfl rfl rfl (Wy rfl rfl (Wl rfl (.there h3) rfl rfl rfl (Wy rfl rfl (Wr (.lenS rfl hlen) (Wy rfl rfl (Wj rfl rfl hlt (Wr (.cV rfl rfl) (Wv rfl ?_))))))))))))))))
 refine Wy rfl rfl (Wl rfl (.there h3) rfl rfl rfl (Wy rfl rfl (Wf rfl (Wy rfl rfl (Wl rfl .here rfl rfl rfl (Wy rfl rfl (Wr (.iaddrS rfl (by rw[hj];rfl) CC (by decide)) (Wy rfl rfl (Wf rfl (Wy rfl rfl (Wl rfl (.there hbc) n9 rfl rfl (Wy rfl rfl (Wh rfl rfl (bb _ _) (Wr (.cV rfl rfl) (Wv rfl (Wn (We (Wm (.tmp rfl .nil) ?_))))))))))))))))))
 exact⟨rfl,[_],rfl⟩
def ct (g:ED->CH->CH)(d:SD)(C:List CD)(kind aQ:Int):List TG:=
 if kind=1 then fieldT d (gY g d C aQ) d.fi
 else if kind=2 then playersT d d.pl.length
 else if kind=3 then playersT d d.pl.length++fieldT d (gY g d C aQ) d.fi
 else if kind=4 then fieldT d (wq g d C aQ) d.fi
 else if kind=5 then fieldT d (jf C) d.fi
 else if kind=6 then fJ d.st
 else []
@[reducible] def aX (tF:TypeId)(bf:Nat)(aQ:Int):List AV:=[.iface tF (.ptr (some ⟨bf,0,0⟩)),iv aQ]
theorem F6 (hB:Base P K F T)(hC:BaseC P K F T)(hG:BaseG P K F T)(hT:TyC P T){tF:TypeId}(hM:gA P F tF){aQ:Int}{T0:SH}(hd:d.Small)(hf:Has bf (.r false [bu bl aZ c0 c1 c2 c3 c4 bE] 8) T0) :
  lR P K bl EL d T0 (.func (F 72) [.agg (aX tF bf aQ)] []) (playersT d d.pl.length):=by
 intro fr t s qY hs
 refine c6.func (hG.f72.cF (by simp) ?_)
 unfold Z4
 refine Wq (Wa (.box rfl rfl) λb1=>Wv rfl (Wn ?_))
 refine Wq (Wr (.mkfn rfl rfl) (Wv rfl (Wn (We (Wm (.tmp rfl .nil) ?_)))))
 refine⟨F 116,[.ptr (some ⟨b1,0,0⟩)],[(b1,.r false [aX tF bf aQ] 2)],rfl,hs.cons,?_⟩
 intro y J L0 t' s' hL hY hJ h0 hs'
 exact tU hB hC hG hT hM hY hL hd (λL t2 h=>⟨.ce (hJ L t2 h _ (List.mem_append_left _ (.head _))),.ce (hJ L t2 h _ (List.mem_append_right _ (qY _ hf.mem)))⟩) h0 hs'
theorem RZ (hB:Base P K F T)(hG:BaseG P K F T){tF:TypeId}(hM:gA P F tF){aQ:Int}{T0:SH}(hd:d.Small)(hf:Has bf (.r false [bu bl aZ c0 c1 c2 c3 c4 bE] 8) T0) :
  lR P K bl EL d T0 (.func (F 75) [.agg (aX tF bf aQ)] []) (fJ d.st):=by
 intro fr t s qY hs
 refine c6.func (hG.f75.cF (by simp) ?_)
 unfold Z7
 refine Wq (Wa (.box rfl rfl) λb1=>Wv rfl (Wn ?_))
 refine Wq (Wr (.mkfn rfl rfl) (Wv rfl (Wn (We (Wm (.tmp rfl .nil) ?_)))))
 refine⟨F 119,[.ptr (some ⟨b1,0,0⟩)],[(b1,.r false [aX tF bf aQ] 2)],rfl,hs.cons,?_⟩
 intro y J L0 t' s' hL hY hJ h0 hs'
 exact zO hB hG hM hY hL hd (λL t2 h=>⟨.ce (hJ L t2 h _ (List.mem_append_left _ (.head _))),.ce (hJ L t2 h _ (List.mem_append_right _ (qY _ hf.mem)))⟩) h0 hs'
theorem iZ (hG:BaseG P K F T){ch:List AV}{fn:AV}(hc:partCells 2 (.agg ch)=some ch)(hfn:partCells 1 fn=some [fn]) :
  bB P K (F 114) [.agg ch,fn] s (λv s'=>∃b2 b3,v=.func (F 166) [] [.ptr (some ⟨b2,0,0⟩),.ptr (some ⟨b3,0,0⟩)]/\s'=(b3,.r false [[fn]] 1)::(b2,.r false [ch] 2)::s):=by
 refine hG.f114.cF (by simp) ?_
 unfold SF
 refine Wq (Wa (.box rfl hc) λb2=>Wa (.box rfl hfn) λb3=>Wv rfl (Wn ?_))
 exact Wq (Wr (.mkfn rfl rfl) (Wv rfl (Wn (We (Wm (.tmp rfl .nil) ⟨b2,b3,rfl,rfl⟩)))))
theorem F5 (hB:Base P K F T)(hC:BaseC P K F T)(hG:BaseG P K F T)(hT:TyC P T){tF:TypeId}(hM:gA P F tF){g:ED->CH->CH}{C:List CD}{aQ:Int}{T0:SH}(hd:d.Small)(hf:Has bf (.r false [bu bl aZ c0 c1 c2 c3 c4 bE] 8) T0)(eQ:cI T0 aZ C)(hO:nG P K F g d C) :
  lR P K bl EL d T0 (.func (F 71) [.agg (aX tF bf aQ)] []) (fieldT d (gY g d C aQ) d.fi):=by
 intro fr t s qY hs
 refine c6.func (hG.f71.cF (by simp) ?_)
 unfold Z3
 refine Wq (Wa (.box rfl rfl) λb1=>Wv rfl (Wn ?_))
 refine Wq (Wl rfl .here rfl rfl rfl (Wr (.mkfn rfl rfl) (Ww (Wz [.agg (aX tF bf aQ),.func (F 115) [] [.ptr (some ⟨b1,0,0⟩)]] rfl rfl (iZ hG rfl rfl) ?_))))
 rintro w _ ⟨b2,b3,rfl,rfl⟩
 refine Wv rfl (Wn (We (Wm (.tmp rfl .nil) ?_)))
 refine⟨F 166,_,[(b3,.r false [[.func (F 115) [] [.ptr (some ⟨b1,0,0⟩)]]] 1),(b2,.r false [aX tF bf aQ] 2),(b1,.r false [aX tF bf aQ] 2)],rfl,hs.cons.cons.cons,?_⟩
 intro y J L0 t' s' hL hY hJ h0 hs'
 refine lZ hB hC hG hM hY hL hd hJ (.there .here) .here (.app (.ce (qY _ hf.mem))) (λo ho t2 s2 h2 dt=>c6.func ?_) h0 hs'
 exact vE hB hC hG hT hM dt hd (.ce (h2 _ (List.mem_append_right _ (qY _ hf.mem)))) (.ce (h2 _ (List.mem_append_left _ (.tail _ (.tail _ (.head _)))))) (eQ.mono λp hp=>h2 p (by simp[qY p hp])) hO
theorem RX (hB:Base P K F T)(hC:BaseC P K F T)(hG:BaseG P K F T)(hT:TyC P T){tF:TypeId}(hM:gA P F tF){g:ED->CH->CH}{C:List CD}{aQ:Int}{T0:SH}(hd:d.Small)(hf:Has bf (.r false [bu bl aZ c0 c1 c2 c3 c4 bE] 8) T0)(eQ:cI T0 aZ C)(hO:nG P K F g d C) :
  lR P K bl EL d T0 (.func (F 73) [.agg (aX tF bf aQ)] []) (fieldT d (wq g d C aQ) d.fi):=by
 intro fr t s qY hs
 refine c6.func (hG.f73.cF (by simp) ?_)
 unfold Z5
 refine Wq (Wa (.box rfl rfl) λb1=>Wv rfl (Wn ?_))
 refine Wq (Wl rfl .here rfl rfl rfl (Wr (.mkfn rfl rfl) (Ww (Wz [.agg (aX tF bf aQ),.func (F 117) [] [.ptr (some ⟨b1,0,0⟩)]] rfl rfl (iZ hG rfl rfl) ?_))))
 rintro w _ ⟨b2,b3,rfl,rfl⟩
 refine Wv rfl (Wn (We (Wm (.tmp rfl .nil) ?_)))
 refine⟨F 166,_,[(b3,.r false [[.func (F 117) [] [.ptr (some ⟨b1,0,0⟩)]]] 1),(b2,.r false [aX tF bf aQ] 2),(b1,.r false [aX tF bf aQ] 2)],rfl,hs.cons.cons.cons,?_⟩
 intro y J L0 t' s' hL hY hJ h0 hs'
 refine lZ hB hC hG hM hY hL hd hJ (.there .here) .here (.app (.ce (qY _ hf.mem))) (λo ho t2 s2 h2 dt=>c6.func ?_) h0 hs'
 exact C3 hB hC hG hT hM dt hd (.ce (h2 _ (List.mem_append_right _ (qY _ hf.mem)))) (.ce (h2 _ (List.mem_append_left _ (.tail _ (.tail _ (.head _)))))) (eQ.mono λp hp=>h2 p (by simp[qY p hp])) hO
theorem RY (hB:Base P K F T)(hC:BaseC P K F T)(hG:BaseG P K F T){tF:TypeId}(hM:gA P F tF){C:List CD}{aQ:Int}{T0:SH}(hd:d.Small)(hf:Has bf (.r false [bu bl aZ c0 c1 c2 c3 c4 bE] 8) T0)(eQ:cI T0 aZ C)(hcd:nF d C) :
  lR P K bl EL d T0 (.func (F 74) [.agg (aX tF bf aQ)] []) (fieldT d (jf C) d.fi):=by
 intro fr t s qY hs
 refine c6.func (hG.f74.cF (by simp) ?_)
 unfold Z6
 refine Wq (Wa (.box rfl rfl) λb1=>Wv rfl (Wn ?_))
 have nr:aH bl EL d ((b1,.r false [aX tF bf aQ] 2)::(fr++t)) ((b1,.r false [aX tF bf aQ] 2)::s):=hs.cons
 refine Wq (Wf rfl (Wl rfl .here rfl rfl rfl (Ww (WS.invoke (vs:=[]) rfl hM.aZ rfl (BS hG nr (.there (.app (.ce (qY _ hf.mem)))) (eQ.mono λp hp=>by simp[qY p hp])) ?_))))
 rintro w s2 ⟨m,dt,hw⟩
 refine Wa (.alloc rfl) λb3=>Ww (Wt (s':=(b3,.r false [[w]] 1)::_) rfl rfl hw.part .here rfl rfl (Wn ?_))
 have gw:=dt.cons (p:=(b3,.r false [[w]] 1))
 refine Wq (Wl rfl (gw.mem (.there (.app .here))) rfl rfl rfl (Wr (.mkfn rfl rfl) (Ww (Wz [.agg (aX tF bf aQ),.func (F 118) [] [.ptr (some ⟨b3,0,0⟩)]] rfl rfl (iZ hG rfl rfl) ?_))))
 rintro v _ ⟨b4,b5,rfl,rfl⟩
 refine Wv rfl (Wn (We (Wm (.tmp rfl .nil) ?_)))
 refine⟨F 166,_,(b5,.r false [[.func (F 118) [] [.ptr (some ⟨b3,0,0⟩)]]] 1)::(b4,.r false [aX tF bf aQ] 2)::(b3,.r false [[w]] 1)::(m++[(b1,.r false [aX tF bf aQ] 2)]),rfl,(gw.cons.cons).tT (ak λc w h0 h1 h2 hq=>by simp only[h1,h2,h0];omega),?_⟩
 intro y J L0 t' s' hL hY hJ h0 hs'
 refine lZ hB hC hG hM hY hL hd hJ (.there .here) .here (.app (.ce (qY _ hf.mem))) (λo ho t2 s2 h2 dt=>c6.func ?_) h0 hs'
 refine bB.post (vG hG (dt.mem (.ce (h2 _ (by simp)))) (hw.mono λp hp=>(dt.mem (.ce (h2 p (by simp[hp])))).mem) (hcd.cd o ho)) ?_
 rintro v _ ⟨rfl,m2,rfl⟩
 exact⟨rfl,dt.bK⟩
theorem nT (hB:Base P K F T)(hC:BaseC P K F T)(hG:BaseG P K F T)(hT:TyC P T){tF:TypeId}(hM:gA P F tF){g:ED->CH->CH}{C:List CD}{kind:Nat}{aQ:Int}(hk:kind<8)(hs:aH bl EL d t s)(hd:d.Small)(hf:Has bf (.r false [bu bl aZ c0 c1 c2 c3 c4 bE] 8) t)(eQ:cI t aZ C)(hO:nG P K F g d C) :
  bB P K (F 26) [.iface tF (.ptr (some ⟨bf,0,0⟩)),iv (.ofNat kind),iv aQ] s (λv s'=>∃m,aH bl EL d (m++t) s'/\Src m 2 v (yu (ct g d C (.ofNat kind) aQ))):=by
 have hn:=hd.n1
 refine hG.f26.ZH (by simp) ?_
 unfold ZR
 refine Wq (Wv rfl (Wn ?_))
 refine Ws (Wq (Wv rfl (Wh (b:=false) rfl rfl rfl (Wn (Wd rfl fS (λ_=>Wi ?_))))))
 refine Wq (Wv rfl (Wv rfl (Wr (.build (cs:=aX tF bf aQ) rfl rfl) (Wa (.alloc rfl) λb7=>Ww (Wt (s':=(b7,.r false [aX tF bf aQ] 2)::_) rfl rfl rfl .here rfl rfl (Wn ?_))))))
 refine Wq (Wa .mkmap λbm=>Wl rfl (.there .here) rfl rfl rfl (Wr (.mkfn rfl rfl) (Wa (.bslice (L:=[[.func (F 71) [.agg (aX tF bf aQ)] []]]) rfl rfl) λb21=>Ww (WS.ins rfl rfl rfl (.there .here) rfl ?_))))
 refine Wl rfl (.there (.there .here)) rfl rfl rfl (Wr (.mkfn rfl rfl) (Wa (.bslice (L:=[[.func (F 72) [.agg (aX tF bf aQ)] []]]) rfl rfl) λb24=>Ww (WS.ins rfl rfl rfl (.there (.there .here)) rfl ?_)))
 refine Wl rfl (.there (.there (.there .here))) rfl rfl rfl (Wr (.mkfn rfl rfl) (Wl rfl (.there (.there (.there .here))) rfl rfl rfl (Wr (.mkfn rfl rfl) (Wa (.bslice (L:=[[.func (F 72) [.agg (aX tF bf aQ)] []],[.func (F 71) [.agg (aX tF bf aQ)] []]]) rfl rfl) λb29=>Ww (WS.ins rfl rfl rfl (.there (.there (.there .here))) rfl ?_)))))
 refine Wl rfl (.there (.there (.there (.there .here)))) rfl rfl rfl (Wr (.mkfn rfl rfl) (Wa (.bslice (L:=[[.func (F 73) [.agg (aX tF bf aQ)] []]]) rfl rfl) λb32=>Ww (WS.ins rfl rfl rfl (.there (.there (.there (.there .here)))) rfl ?_)))
 refine Wl rfl (.there (.there (.there (.there (.there .here))))) rfl rfl rfl (Wr (.mkfn rfl rfl) (Wa (.bslice (L:=[[.func (F 74) [.agg (aX tF bf aQ)] []]]) rfl rfl) λb35=>Ww (WS.ins rfl rfl rfl (.there (.there (.there (.there (.there .here))))) rfl ?_)))
 refine Wl rfl (.there (.there (.there (.there (.there (.there .here)))))) rfl rfl rfl (Wr (.mkfn rfl rfl) (Wa (.bslice (L:=[[.func (F 75) [.agg (aX tF bf aQ)] []]]) rfl rfl) λb38=>Ww (WS.ins rfl rfl rfl (.there (.there (.there (.there (.there (.there .here)))))) rfl ?_)))
 refine Wv rfl (Wv rfl (Wn ?_))
 refine Wq (Wa (.alloc rfl) λb9=>Wn ?_)
 have l1:=d7 d (gY g d C aQ) d.fi
 have l2:=im d d.pl.length
 have l3:=d7 d (wq g d C aQ) d.fi
 have l4:=d7 d (jf C) d.fi
 have l5:=kB d.st
 have fin:∀{x0 x1 x2 x3 x4 x5 x6 x7:Nat × HO}{w:AV}{s2 m:SH}{L:List TG},aH bl EL d (m++(x0::x1::x2::x3::x4::x5::x6::x7::t)) s2->Src m 2 w (yu L)->L=ct g d C (.ofNat kind) aQ->∃m,aH bl EL d (m++t) s2/\Src m 2 w (yu (ct g d C (.ofNat kind) aQ)):=by
  rintro x0 x1 x2 x3 x4 x5 x6 x7 w s2 m L h1 h2 rfl
  exact⟨m++[x0,x1,x2,x3,x4,x5,x6,x7],by rw[List.append_assoc];exact h1,h2.mono λp hp=>by simp[hp]⟩
 rcases(by omega:kind=0\/kind=1\/kind=2\/kind=3\/kind=4\/kind=5\/kind=6\/kind=7)with rfl|rfl|rfl|rfl|rfl|rfl|rfl|rfl
 ·refine Ws (Wq (Wv rfl (Wv rfl (Wr (.look rfl rfl (.there (.there (.there (.there (.there (.there (.there .here))))))) (o:=none) rfl) (Wr (.lenS rfl rfl) (Wv rfl (Wn ?_)))))))
  exact fW (T0:=t) (fs:=[]) .nil (λx hx=>nomatch hx) (λq hq=>by simp[hq]) (Nat.le_of_ble_eq_true rfl) (Nat.zero_le _) hs.cons.cons.cons.cons.cons.cons.cons.cons.cons (λw s2 m h1 h2=>fin h1 h2 (by simp[ct])) (aa rfl (aa rfl (aa rfl (aa rfl aB))))
 ·refine Ws (Wq (Wv rfl (Wv rfl (Wr (.look rfl rfl (.there (.there (.there (.there (.there (.there (.there .here))))))) (o:=some (.slice (some ⟨b21,0,0⟩) 1 1 false 1)) rfl) (Wr (.lenS rfl rfl) (Wv rfl (Wn ?_)))))))
  exact fW (T0:=t) (fs:=[(.func (F 71) [.agg (aX tF bf aQ)] [],fieldT d (gY g d C aQ) d.fi)]) (Src.all (L:=[[.func (F 71) [.agg (aX tF bf aQ)] []]]) (.there (.there (.there (.there (.there .here)))))) (λx hx=>by rw[List.mem_singleton.1 hx];exact F5 hB hC hG hT hM hd hf eQ hO) (λq hq=>by simp[hq]) (Nat.le_of_ble_eq_true rfl) (by simp only[List.flatMap_cons,List.flatMap_nil,List.append_nil];omega) hs.cons.cons.cons.cons.cons.cons.cons.cons.cons (λw s2 m h1 h2=>fin h1 h2 (by simp[ct])) (aa rfl (aa rfl (aa rfl (aa rfl aB))))
 ·refine Ws (Wq (Wv rfl (Wv rfl (Wr (.look rfl rfl (.there (.there (.there (.there (.there (.there (.there .here))))))) (o:=some (.slice (some ⟨b24,0,0⟩) 1 1 false 1)) rfl) (Wr (.lenS rfl rfl) (Wv rfl (Wn ?_)))))))
  exact fW (T0:=t) (fs:=[(.func (F 72) [.agg (aX tF bf aQ)] [],playersT d d.pl.length)]) (Src.all (L:=[[.func (F 72) [.agg (aX tF bf aQ)] []]]) (.there (.there (.there (.there .here))))) (λx hx=>by rw[List.mem_singleton.1 hx];exact F6 hB hC hG hT hM hd hf) (λq hq=>by simp[hq]) (Nat.le_of_ble_eq_true rfl) (by simp only[List.flatMap_cons,List.flatMap_nil,List.append_nil];omega) hs.cons.cons.cons.cons.cons.cons.cons.cons.cons (λw s2 m h1 h2=>fin h1 h2 (by simp[ct])) (aa rfl (aa rfl (aa rfl (aa rfl aB))))
 ·refine Ws (Wq (Wv rfl (Wv rfl (Wr (.look rfl rfl (.there (.there (.there (.there (.there (.there (.there .here))))))) (o:=some (.slice (some ⟨b29,0,0⟩) 2 2 false 1)) rfl) (Wr (.lenS rfl rfl) (Wv rfl (Wn ?_)))))))
  exact fW (T0:=t) (fs:=[(.func (F 72) [.agg (aX tF bf aQ)] [],playersT d d.pl.length),(.func (F 71) [.agg (aX tF bf aQ)] [],fieldT d (gY g d C aQ) d.fi)]) (Src.all (L:=[[.func (F 72) [.agg (aX tF bf aQ)] []],[.func (F 71) [.agg (aX tF bf aQ)] []]]) (.there (.there (.there .here)))) (λx hx=>by
   rcases List.mem_cons.1 hx with rfl|hx
   ·exact F6 hB hC hG hT hM hd hf
   ·rw[List.mem_singleton.1 hx];exact F5 hB hC hG hT hM hd hf eQ hO) (λq hq=>by simp[hq]) (Nat.le_of_ble_eq_true rfl) (by simp only[List.flatMap_cons,List.flatMap_nil,List.append_nil,List.length_append];omega) hs.cons.cons.cons.cons.cons.cons.cons.cons.cons (λw s2 m h1 h2=>fin h1 h2 (by simp[ct])) (aa rfl (aa rfl (aa rfl (aa rfl aB))))
 ·refine Ws (Wq (Wv rfl (Wv rfl (Wr (.look rfl rfl (.there (.there (.there (.there (.there (.there (.there .here))))))) (o:=some (.slice (some ⟨b32,0,0⟩) 1 1 false 1)) rfl) (Wr (.lenS rfl rfl) (Wv rfl (Wn ?_)))))))
  exact fW (T0:=t) (fs:=[(.func (F 73) [.agg (aX tF bf aQ)] [],fieldT d (wq g d C aQ) d.fi)]) (Src.all (L:=[[.func (F 73) [.agg (aX tF bf aQ)] []]]) (.there (.there .here))) (λx hx=>by rw[List.mem_singleton.1 hx];exact RX hB hC hG hT hM hd hf eQ hO) (λq hq=>by simp[hq]) (Nat.le_of_ble_eq_true rfl) (by simp only[List.flatMap_cons,List.flatMap_nil,List.append_nil];omega) hs.cons.cons.cons.cons.cons.cons.cons.cons.cons (λw s2 m h1 h2=>fin h1 h2 (by simp[ct])) (aa rfl (aa rfl (aa rfl (aa rfl aB))))
 ·refine Ws (Wq (Wv rfl (Wv rfl (Wr (.look rfl rfl (.there (.there (.there (.there (.there (.there (.there .here))))))) (o:=some (.slice (some ⟨b35,0,0⟩) 1 1 false 1)) rfl) (Wr (.lenS rfl rfl) (Wv rfl (Wn ?_)))))))
  exact fW (T0:=t) (fs:=[(.func (F 74) [.agg (aX tF bf aQ)] [],fieldT d (jf C) d.fi)]) (Src.all (L:=[[.func (F 74) [.agg (aX tF bf aQ)] []]]) (.there .here)) (λx hx=>by rw[List.mem_singleton.1 hx];exact RY hB hC hG hM hd hf eQ hO.ok) (λq hq=>by simp[hq]) (Nat.le_of_ble_eq_true rfl) (by simp only[List.flatMap_cons,List.flatMap_nil,List.append_nil];omega) hs.cons.cons.cons.cons.cons.cons.cons.cons.cons (λw s2 m h1 h2=>fin h1 h2 (by simp[ct])) (aa rfl (aa rfl (aa rfl (aa rfl aB))))
 ·refine Ws (Wq (Wv rfl (Wv rfl (Wr (.look rfl rfl (.there (.there (.there (.there (.there (.there (.there .here))))))) (o:=some (.slice (some ⟨b38,0,0⟩) 1 1 false 1)) rfl) (Wr (.lenS rfl rfl) (Wv rfl (Wn ?_)))))))
  exact fW (T0:=t) (fs:=[(.func (F 75) [.agg (aX tF bf aQ)] [],fJ d.st)]) (Src.all (L:=[[.func (F 75) [.agg (aX tF bf aQ)] []]]) .here) (λx hx=>by rw[List.mem_singleton.1 hx];exact RZ hB hG hM hd hf) (λq hq=>by simp[hq]) (Nat.le_of_ble_eq_true rfl) (by simp only[List.flatMap_cons,List.flatMap_nil,List.append_nil];omega) hs.cons.cons.cons.cons.cons.cons.cons.cons.cons (λw s2 m h1 h2=>fin h1 h2 (by simp[ct])) (aa rfl (aa rfl (aa rfl (aa rfl aB))))
 ·refine Ws (Wq (Wv rfl (Wv rfl (Wr (.look rfl rfl (.there (.there (.there (.there (.there (.there (.there .here))))))) (o:=none) rfl) (Wr (.lenS rfl rfl) (Wv rfl (Wn ?_)))))))
  exact fW (T0:=t) (fs:=[]) .nil (λx hx=>nomatch hx) (λq hq=>by simp[hq]) (Nat.le_of_ble_eq_true rfl) (Nat.zero_le _) hs.cons.cons.cons.cons.cons.cons.cons.cons.cons (λw s2 m h1 h2=>fin h1 h2 (by simp[ct])) (aa rfl (aa rfl (aa rfl (aa rfl aB))))
theorem eqT (x y:TG):eqBy 20 (.agg [⟨0,⟨1,⟨false,.pi⟩⟩⟩,⟨1,⟨1,⟨false,.pi⟩⟩⟩]) (.agg x.row) (.agg y.row)=some (decide (x=y)):=by
 have h:eqBy 20 (.agg [⟨0,⟨1,⟨false,.pi⟩⟩⟩,⟨1,⟨1,⟨false,.pi⟩⟩⟩]) (.agg x.row) (.agg y.row)=some (ieq x.p y.p&&ieq x.o y.o):=by
  cases h1:ieq x.p y.p<;>cases h2:ieq x.o y.o<;>simp[eqBy,primEq,aw,part,dJ,keq,h1,h2]
 rw[h,rh,rh]
 obtain⟨a,b⟩:=x
 obtain⟨a',b'⟩:=y
 simp[TG.mk.injEq,Bool.decide_and]
theorem Kd {L:List TG}{i:Nat}(h:i<L.length):(yu L)[i]?=some L[i].row:=by rw[yu,List.getElem?_map,List.getElem?_eq_getElem h];rfl
theorem sd (L:List TG):(yu L).length=L.length:=by simp[yu]
theorem zL (hG:BaseG P K F T){v:AV}{L:List TG}{x:TG}(hv:Src s 2 v (yu L))(hn:L.length<=5000) :
  bB P K (F 120) [v,.agg x.row] s (λw s'=>(∃r:Int,w=iv r/\decide (r<0)=!decide (x∈L))/\∃m,s'=m++s):=by
 refine hG.f120.cF (by simp) ?_
 unfold SO
 have lv:lenOf v=some L.length:=by rw[hv.lenOf,sd]
 refine Wq (Wa (.box rfl rfl) λb3=>Wv rfl (Wn ?_))
 refine Ws (Wq (Wv rfl (Wr (.lenS rfl lv) (Wv rfl (Wn (Wb ?_))))))
 refine Wp (λk l ds s'=>ds=[]/\s'=(b3,.r false [x.row] 2)::s/\∃q,k=L.length-q/\q<=L.length/\(∀j,j<q->L[j]?≠some x)/\∀j w,lk [(0,v),(3,.ptr (some ⟨b3,0,0⟩)),(7,iv (.ofNat L.length)),(8,iv (.ofNat q)),(6,v)] j=some w->lk l j=some w) ?_ (n:=L.length-0) ⟨rfl,rfl,0,rfl,Nat.zero_le _,λj hj=>absurd hj (Nat.not_lt_zero _),aa rfl (aa rfl (aa rfl (aa rfl (aa rfl aB))))⟩
 rintro k l ds s' ⟨rfl,rfl,q,rfl,hq,hno,hl⟩
 refine Wg hl (λ_ _ h=>h) ?_
 refine Wq (Wj rfl rfl rfl (Wn (Ws (Wd rfl (λht=>Wi ?_) (λht=>?_)))))
 ·have hlt:q<L.length:=bh.1 ht
  obtain⟨b,r,no,c,so,ro,M,rfl,hb,PS,hM⟩:=hv.Ko (by rw[sd];omega)
  rw[sd]at PS hM
  refine Ws (Wb (Wq (Wv rfl (Wv rfl (Wn ?_)))))
  refine Ws (WP.bD (Dl rfl .nil (.load rfl .here rfl rfl rfl) (Dp (.mv rfl) (Dp (.mv rfl) (Dp (.iaddrS rfl rfl (by omega) (by omega)) (Dl rfl .nil (.load rfl (.there hb) ((hM q hlt).trans (Kd hlt)) rfl rfl) (Dp (.eql rfl rfl (eqT _ _)) (D0 .nil ?_ (λo ho=>nomatch ho)))))))))
  by_cases he:x=L[q]
  ·rw[decide_eq_true he]
   refine Wd rfl (λ_=>?_) (λh=>by cases h)
   refine Wq (Wv rfl (Wv rfl (Wn (We (Wm (.tmp rfl .nil) ?_)))))
   refine⟨⟨.ofNat q,rfl,?_⟩,[_],rfl⟩
   have:x∈L:=by rw[he];exact List.getElem_mem _
   rw[decide_eq_true this,decide_eq_false (by show¬((q:Nat):Int)<0;omega)]
   rfl
  ·rw[decide_eq_false he]
   refine Wd rfl (λh=>by cases h) (λ_=>Wi ?_)
   refine Wo (Wj rfl rfl (bM (by omega)) (Wv rfl (Wn ?_)))
   refine⟨L.length-(q+1),by omega,rfl,rfl,q+1,rfl,hlt,λj hj=>?_,aa rfl (aa rfl (aa rfl (aa rfl (aa rfl aB))))⟩
   by_cases YC:j=q
   ·subst YC
    rw[List.getElem?_eq_getElem hlt]
    intro h
    exact he (Option.some.inj h).symm
   ·exact hno j (by omega)
 ·refine Wx ?_
  have:q=L.length:=by
   have:¬q<L.length:=λh=>by rw[fw,show Nat.blt q L.length=true from bh.2 h]at ht;cases ht
   omega
  subst this
  refine Wq (Wv rfl (Wn (We (Wm (.tmp rfl .nil) ?_))))
  refine⟨⟨-1,rfl,?_⟩,[_],rfl⟩
  have:¬x∈L:=λh=>by
   obtain⟨j,hj,e⟩:=List.getElem_of_mem h
   exact hno j hj (by rw[List.getElem?_eq_getElem hj,e])
  rw[decide_eq_false this]
  rfl
theorem qK (hG:BaseG P K F T){v:AV}{L:List TG}{x:TG}(hv:Src s 2 v (yu L))(hn:L.length<=5000):bB P K (F 76) [v,.agg x.row] s (λw s'=>w=.bool (decide (x∈L))/\∃m,s'=m++s):=by
 refine hG.f76.cF (by simp) ?_
 unfold Z8
 refine Wq (Wa (.box rfl rfl) λb3=>Wv rfl (Wn ?_))
 refine Wq (Wv rfl (Wl rfl .here rfl rfl rfl (Ww (Wz [v,.agg x.row] rfl rfl (zL hG (hv.mono λp hp=>by simp[hp]) hn) ?_))))
 rintro w _ ⟨⟨r,rfl,hr⟩,m,rfl⟩
 refine Wj rfl rfl (th r 0) (Wv rfl (Wn (We (Wm (.tmp rfl .nil) ?_))))
 refine⟨?_,_,pull yg⟩
 show AV.bool (!decide (r<0))=_
 rw[hr,Bool.not_not]
theorem qJ {g:ED->CH->CH}{C:List CD}{kind aQ:Int}(hd:d.Small):(ct g d C kind aQ).length<=5000:=by
 have hn:=hd.n1
 have l1:=d7 d (gY g d C aQ) d.fi
 have l2:=im d d.pl.length
 have l3:=d7 d (wq g d C aQ) d.fi
 have l4:=d7 d (jf C) d.fi
 have l5:=kB d.st
 unfold ct
 repeat' split
 all_goals first | omega | (rw[List.length_append];omega) | exact Nat.zero_le _
theorem Db (hB:Base P K F T)(hC:BaseC P K F T)(hG:BaseG P K F T)(hT:TyC P T){tF:TypeId}(hM:gA P F tF){g:ED->CH->CH}{C:List CD}{kind:Nat}{aQ:Int}{x:TG}(hk:kind<8)(hs:aH bl EL d t s)(hd:d.Small)(hf:Has bf (.r false [bu bl aZ c0 c1 c2 c3 c4 bE] 8) t)(eQ:cI t aZ C)(hO:nG P K F g d C) :
  bB P K (F 27) [.iface tF (.ptr (some ⟨bf,0,0⟩)),iv (.ofNat kind),iv aQ,.agg x.row] s (λv s'=>v=.bool (decide (x∈ct g d C (.ofNat kind) aQ))/\aH bl EL d t s'):=by
 refine hG.f27.cF (by simp) ?_
 unfold ZS
 refine Wq (Wa (.box rfl rfl) λb7=>Wv rfl (Wn ?_))
 have nr:aH bl EL d ((b7,.r false [x.row] 2)::t) ((b7,.r false [x.row] 2)::s):=hs.cons
 refine Ws (WP.bD (Dp (.mv rfl) (Dp (.mv rfl) (Dp (.mv rfl) (Dc .nil (Wz [.iface tF (.ptr (some ⟨bf,0,0⟩)),iv (.ofNat kind),iv aQ] rfl rfl (nT hB hC hG hT hM hk nr hd (.there hf) (eQ.mono λp hp=>by simp[hp]) hO) ?_))))))
 rintro w s2 ⟨m,dt,hw⟩
 refine WD.lk rfl .nil (.load rfl (dt.mem (.app .here)) rfl rfl rfl) (Dc .nil (Wz [w,.agg x.row] rfl rfl (qK hG (hw.mono λp hp=>(dt.mem (.ce (List.mem_append_left _ hp))).mem) (qJ hd)) ?_))
 rintro w _ ⟨rfl,m2,rfl⟩
 refine Dp (.mv rfl) (D0 .nil ?_ ?_)
 rotate_left
 ·intro o ho
  rw[List.mem_singleton.1 ho]
  refine⟨(λi hi=>nomatch hi),Nat.zero_le _,by simp[dz,sameN,sameL,same0,keq,gd],λk _ hk=>?_⟩
  rcases(by have:k<=1:=hk;omega:k=0\/k=1)with rfl|rfl
  ·exact⟨_,rfl,.load rfl .here rfl rfl rfl⟩
  ·exact⟨_,rfl,.load rfl (dt.mem (.app .here)) rfl rfl rfl⟩
 exact We (Wm (.tmp rfl .nil) ⟨rfl,aH.bK (aH.tail dt.fb)⟩)
theorem Jp (hG:BaseG P K F T)(ht:Ty P (T 66) 2){id:Int}:bB P K (F 28) [iv id] s (λv s'=>v=.agg (⟨0,id⟩:TG).row/\∃m,s'=m++s):=by
 refine hG.f28.cF (by simp) ?_
 unfold ZT
 refine Wq (Wa (.alloc rfl) λb2=>Wn ?_)
 refine Wq (Wv rfl (Wr (.build rfl rfl) (Ww (Wt rfl rfl rfl .here rfl rfl (Wn (We (Wm (.cell rfl ht.1 ht.2 (.inl rfl) .here rfl rfl rfl .nil) ?_)))))))
 exact⟨rfl,[_],rfl⟩
def ZQ (F:Nat->FuncId)(T:Nat->TypeId):AC:=(.seq (.ops [zo 2 (.mv (zc 0))]) (.seq (.seq (.ops [zm 3 0,zo 4 (.eql false .ptr (zt 3) (.const (.pointer none)))]) (.cond (zt 4) (.seq (.ops [zo 2 (.mv (zc 0))]) .ret) .skip)) (.seq (.ops [zm 5 0,zo 6 (.nilchk (zt 5)),zf 7 25 6,zl 8 7,zo 9 (.lenS (zt 8)),zm 2 9]) .ret)))
def Tb (F:Nat->FuncId)(T:Nat->TypeId):AC:=(.seq (.ops [zo 3 (.box 13 (zt 1))]) (.seq (.ops [zm 5 0,zf 6 1 3,zl 7 6,zo 8 (.call (.func (F 262)) [(zt 5),(zt 7)]),zo 4 (.alloc 14 dB),zn (.store 14 (zt 4) (zt 8))]) (.ops [zm 9 0,zf 10 1 4,zl 11 10,zf 12 2 4,zl 13 12,zf 14 2 4,zl 15 14,zf 16 2 3,zl 17 16,zf 18 7 4,zl 19 18,zo 20 (.build dB [⟨1,⟨1,(zt 11)⟩⟩,⟨2,⟨1,(zt 13)⟩⟩,⟨3,⟨1,(zt 15)⟩⟩,⟨4,⟨1,(zt 17)⟩⟩,⟨7,⟨1,(zt 19)⟩⟩]),zf 21 3 3,zl 22 21,zo 23 (.eql false .pi (zt 22) (zc 1)),zo 24 (.call (.func (F 105)) [(zt 9),(zt 20),(zt 23)])])))
structure BaseM (P:Program)(K:Orc)(F:Nat->FuncId)(T:Nat->TypeId):Prop where
 f25:FnK P K (F 25) 10 [(.tmp 2)] (ZQ F T)
 f260:FnK P K (F 260) 25 [] (Tb F T)
def pX (o:OD)(z:Int):OD:=⟨0,o.gE,o.owner,o.owner,z,false,false,o.token,0,0,0,0,false⟩
def SD.gone (d:SD)(a:Int)(i:Nat):SD:={ d with fi:=d.fi.filter λn=>!decide (n=a),ob:=d.ob.eraseIdx i }
theorem SD.IG (d:SD)(a:Int)(i p:Nat):d.left a i 2 p=d.gone a i:=by
 unfold SD.left SD.ci
 rw[if_pos rfl]
 rfl
theorem SD.vl {d:SD}(h:d.Small){a:Int}{i:Nat}:(d.gone a i).Small:=by
 have h1:=h.n1
 refine⟨⟨h1.1,Nat.le_trans (List.length_eraseIdx_le ..) h1.2.1,Nat.le_trans (List.length_filter_le ..) h1.2.2.1,h1.2.2.2⟩,h.n2⟩
theorem SD.zy {d:SD}(h:d.kQ){a:Int}{i:Nat}:(d.gone a i).kQ:=⟨h.lb,h.hd,h.gr,h.ex⟩
theorem WH.Ku {bw:Nat}{d:SD}{t s:SH}{p:Nat × HO}(h:WH bw d t s):WH bw d (p::t) (p::s):=by
 obtain⟨pv,ov,lv,hv,gv,ev,fv,sv,wv,nn,k1,k2⟩:=h
 exact⟨pv,ov,lv,hv,gv,ev,fv,sv,wv,nn,ak λc w h0 h1 h2 hq=>by simp only[h1,h2,hq _ _ k1];omega,k2⟩
theorem WH.Vb {bw:Nat}{d:SD}{t s:SH}(h:WH bw d t s){b:Nat}{o:HO}(hb:Has b o t):Has b o s:=by
 obtain⟨pv,ov,lv,hv,gv,ev,fv,sv,wv,nn,k1,k2⟩:=h
 exact .ce (k1.mem_iff.2 (by simp[hb.mem]))
theorem y9 (hB:Base P K F T)(hM:BaseM P K F T){bw:Nat}{d:SD}{t:SH}(hs:WH bw d t s)(hd:d.Small)(he:d.kQ){a b m:Int}{it:ID}{i:Nat}{o:OD}(hi:d.find a=some i)(xG:d.ob[i]?=some o){p:Nat}(hp:p<d.pl.length)(ho:o.owner=.ofNat p)(hz:o.ci=2)
  (hst:d.st=[]) (KO:d.wa=[]) (Sc:d.co≠a) (oZ:∀o∈d.ob,o.block≠a) (h1:0<=d.nx/\d.nx<=1000000) (h2:0<=d.sp/\d.sp<=1000000) :
  bB P K (F 260) [.ptr (some ⟨bw,0,0⟩),.agg (evRow 2 a b 0 m it)] s (λ_ s'=>WH bw ((d.gone a i).add (pX o b) p) t s'):=by
 refine hM.f260.cF (by simp) ?_
 unfold Tb
 refine Wq (Wa (.box rfl rfl) λb3=>Wn ?_)
 have nr:WH bw d ((b3,.r false [evRow 2 a b 0 m it] 13)::t) ((b3,.r false [evRow 2 a b 0 m it] 13)::s):=hs.Ku
 refine Wq (Wv rfl (Wf rfl (Wl rfl .here rfl rfl rfl (Ww (Wz [.ptr (some ⟨bw,0,0⟩),iv a] rfl rfl (zQ hB nr hd he hi xG hp ho hst KO Sc oZ) ?_)))))
 rintro w s2 ⟨rfl,dt⟩
 rw[hz,SD.IG]at dt
 refine Wa (.alloc rfl) λb4=>Ww (Wt (s':=(b4,.r false [o.row] 14)::_) rfl rfl rfl .here rfl rfl (Wn ?_))
 have gw:=dt.Ku (p:=(b4,.r false [o.row] 14))
 refine Wo (Wv rfl (Wf rfl (Wl rfl .here rfl rfl rfl (Wf rfl (Wl rfl .here rfl rfl rfl (Wf rfl (Wl rfl .here rfl rfl rfl (Wf rfl (Wl rfl (.there (dt.Vb .here)) rfl rfl rfl (Wf rfl (Wl rfl .here rfl rfl rfl (Wr (.build (cs:=(pX o b).row) rfl rfl) (Wf rfl (Wl rfl (.there (dt.Vb .here)) rfl rfl rfl (Wh (b:=false) rfl rfl rfl (Ww (Wz [.ptr (some ⟨bw,0,0⟩),.agg (pX o b).row,.bool false] rfl rfl (Br hB gw (SD.vl hd) (SD.zy he) hp ho h1 h2) ?_)))))))))))))))))
 intro w s4 pM
 exact Wn (Wm .nil (WH.fb (x:=[_,_]) pM))
theorem yF (hB:Base P K F T)(hM:BaseM P K F T){d:SD}(hd:d.Small)(he:d.kQ){a b m:Int}{it:ID}{i:Nat}{o:OD}(hi:d.find a=some i)(xG:d.ob[i]?=some o){p:Nat}(hp:p<d.pl.length)(ho:o.owner=.ofNat p)(hz:o.ci=2)
  (hst:d.st=[]) (KO:d.wa=[]) (Sc:d.co≠a) (oZ:∀o∈d.ob,o.block≠a) (h1:0<=d.nx/\d.nx<=1000000) (h2:0<=d.sp/\d.sp<=1000000) (lm:∀s,bB P K (F 201) [.agg (evRow 2 a b 0 m it)] s (λv s'=>v=iv 0/\s'=s)) :
  Ap P K F 2 a b 0 m it d ((d.gone a i).add (pX o b) p):=
 yH (k:=2) hB hd lm (FB hB (by simp)) (λ{_ _ _ _ v} hv hW=>by
  cases (show uH F _ v false true false 260 from hv)
  exact Jh hB hW hd he (k:=2) (by omega) (by omega) (by omega) (by omega) hi) (λ{_ _ _ _ _ _ _} hv hW=>by
  cases (show uH F _ _ false true false 260 from hv)
  exact c6.func (y9 hB hM hW hd he hi xG hp ho hz hst KO Sc oZ h1 h2))
theorem sP (hB:Base P K F T){bf bl:Nat}{aZ bE:AV}{c0 c1 c2 c3 c4:Int}{EL:List (List AV)}{d d':SD}{t:SH}{a:Int}{b n m:Int}{it:ID}(hs:aH bl EL d t s)(hd:d.Small)(hf:Has bf (.r false [bu bl aZ c0 c1 c2 c3 c4 bE] 8) t)(hE:EL.length<=1000)
  (hap:Ap P K F 2 a b n m it d d') (hd':d'.Small) (YI:1<=d'.nx/\d'.nx<=1000000) :
  bB P K (F 15) [.ptr (some ⟨bf,0,0⟩),.agg (evRow 2 a b n m it)] s (λv s'=>v=iv (d'.nx-1)/\aH bl (EL++[evRow 2 a b n m it]) d' t s'):=by
 refine hB.f15.cF (by simp) ?_
 unfold WN
 refine Wq (Wa (.box rfl rfl) λb3=>Wv rfl (Wn ?_))
 have gw:aH bl EL d ((b3,.r false [evRow 2 a b n m it] 13)::t) ((b3,.r false [evRow 2 a b n m it] 13)::s):=hs.cons
 refine Ws (Wb (Wq (Wv rfl (Wh (b:=false) rfl rfl rfl (Wv rfl (Wn (Wd rfl (λh=>by cases h) (λ_=>Ws (WP.bD ?_)))))))))
 refine(Dp (.faddr rfl) (Dl rfl .nil (.load rfl .here rfl rfl rfl) (Dp (.eql rfl rfl (bb _ _)) (Dp (.mv rfl) (Dk rfl rfl rfl (WD.jm rfl rfl (Dk rfl rfl rfl (Dk rfl rfl rfl (Dk rfl rfl rfl (Dk rfl rfl rfl (Dk rfl rfl rfl (Dk rfl rfl rfl (Dk rfl rfl rfl (Dk rfl rfl rfl (Dp (.bj rfl rfl) (Dp (.mv rfl) (D0 .nil ?_ (λo h=>nomatch h))))))))))))))))))
 refine Wd rfl fS (λ_=>?_)
 refine Ws (WP.bD (Dp (.mv rfl) (Dp (.nilchk rfl rfl) (Dp (.faddr rfl) (Dl rfl .nil (.load rfl (gw.mem (.there hf)) rfl rfl rfl) (Dl rfl .nil (.load rfl (gw.mem .here) rfl rfl rfl) (Dc .nil (Wz [.agg [.ptr (some ⟨bl,0,0⟩)],.agg (evRow 2 a b n m it)] rfl rfl (mI hB gw hE hap) ?_))))))))
 rintro w s5 ⟨rfl,tn⟩
 refine Dp (.eql rfl rfl (bb _ _)) (Dp (.mv rfl) (D0 .nil ?_ (λo h=>nomatch h)))
 refine Wd rfl fS (λ_=>Wi ?_)
 refine Ws (Wq (Wf rfl (Wl rfl (tn.mem .here) rfl rfl rfl (Wn (Wb ?_)))))
 refine Ws (Wq (Wh rfl rfl (bb _ _) (Wv rfl (Wn ?_))))
 refine Wd rfl fS (λ_=>Wq (Wh rfl rfl (bb _ _) (Wv rfl (Wn ?_))))
 refine Wd rfl (λ_=>Wi ?_) Dz
 refine Wd rfl (λ_=>?_) Dz
 refine Wq (Wv rfl (Ww (Wz [.ptr (some ⟨bf,0,0⟩)] rfl rfl (cz hB tn hd' (.there hf)) ?_)))
 rintro w s6 ⟨KL,pv,ov,lv,hv,gv,ev,fv,sv,wv,rfl,hR6⟩
 refine Wr (.fld rfl rfl) (Wj rfl rfl (F0 YI.1 (by omega)) (Wv rfl (Wn (We (Wm (.tmp rfl .nil) ⟨rfl,KL.tail⟩)))))
def Zs (a b:Int):Int:=match binV .or (iv a) (iv b)with | some (.int _ n)=>n | _=>0
def gK (e:ED)(c:CH):CH:=⟨c.p,c.t,Zs c.k e.a⟩
theorem Zt (a b:Int):binV .or (iv a) (iv b)=some (iv (Zs a b)):=by
 have:∃n,binV .or (iv a) (iv b)=some (iv n):=by
  show∃n,bits .or .i64 a b=some (iv n)
  unfold bits
  split
  ·split
   ·exact⟨_,aL _ _⟩
   ·exact⟨_,rfl⟩
  ·exact⟨_,rfl⟩
 obtain⟨n,h⟩:=this
 unfold Zs
 rw[h]
theorem DI {d:SD}{C:List CD}(h:∀c∈C,c.ab.length<=1)(b:OD)(n:Int):(oneE d C b n).length<=1:=by
 unfold oneE
 split
 ·exact Nat.zero_le _
 ·split
  ·exact Nat.zero_le _
  ·split
   ·exact Nat.zero_le _
   ·rename_i c hc
    exact Nat.le_trans (sx _ _ _) (h c (List.mem_of_getElem? hc))
theorem N4 {d:SD}{C:List CD}(h:∀c∈C,c.ab.length<=1)(hf:d.fi.length<=20)(b:OD):(d.fi.flatMap (oneE d C b)).length<=20:=by
 refine Nat.le_trans ?_ hf
 generalize d.fi=l
 induction l with
 | nil=>exact Nat.le_refl _
 | cons n l ih=>
  have:=DI (d:=d) h b n
  rw[List.flatMap_cons,List.length_append,List.length_cons]
  omega
theorem sA {d:SD}{C:List CD}{b:OD}{e:ED}(h:e∈qy d C b):∃c∈C,∃x∈c.ab,x.kind=4/\e.op=x.op/\e.a=x.a/\e.b=x.b:=by
 obtain⟨h1,_⟩:=List.mem_filter.1 h
 obtain⟨n,_,h2⟩:=List.mem_flatMap.1 h1
 unfold oneE at h2
 split at h2
 ·cases h2
 ·split at h2
  ·cases h2
  ·split at h2
   ·cases h2
   ·rename_i c hc
    obtain⟨x,h3,rfl⟩:=List.mem_map.1 h2
    obtain⟨h4,h5⟩:=List.mem_filter.1 h3
    exact⟨c,List.mem_of_getElem? hc,x,h4,of_decide_eq_true (Bool.and_eq_true_iff.1 h5).1,rfl,rfl,rfl⟩
theorem C4 (hC:BaseC P K F T){e:ED}(he:e.op=1):lQ P K F gK e:=by
 refine⟨F 233,by unfold rowOf cx;rw[if_pos he,if_pos he],λb c s=>?_⟩
 refine hC.f233.cF (by simp) ?_
 unfold S9
 refine Wq (Wa (.box rfl rfl) λb3=>Wn ?_)
 refine WP.bD (Dp (.mv rfl) (Dp (.nilchk rfl rfl) (Dp (.faddr rfl) (Dl rfl .nil (.load rfl (.there .here) rfl rfl rfl) (Dp (.faddr rfl) (Dl rfl .nil (.load rfl .here rfl rfl rfl) (Dp (.arith rfl rfl (Zt _ _)) (Dp (.nilchk rfl rfl) (Dp (.faddr rfl) (Dc .nil (Wt (s':=_::(b,.r false [(gK e c).row] 3)::_) rfl rfl rfl (.there .here) rfl rfl (D0 .nil (Wm .nil ?_) (λo ho=>nomatch ho)))))))))))))
 exact⟨[_],rfl⟩
def sm:List CD:=[⟨⟨#[98,101,97,115,116]⟩,2,0,0,0,0,0,1,1,0,nilS,[]⟩,⟨⟨#[115,97,105,110,116]⟩,2,0,0,0,0,0,0,2,32,nilS,[]⟩,⟨⟨#[114,101,108,105,99]⟩,4,0,0,0,0,0,0,0,0,nilS,[]⟩,⟨⟨#[108,97,110,100]⟩,1,0,0,0,0,0,0,0,0,nilS,[]⟩,
 ⟨⟨#[100,111,109,101]⟩,4,0,0,0,0,0,0,0,0,.slice (some ⟨1,0,0⟩) 1 1 false 13,[⟨4,0,1,0,0,0,0,false,nilS,nilS,1,32,0⟩]⟩]
theorem nj {Q:CD->Prop}(h1:∀c:CD,c.ab=[]->c.av=nilS->Q c)(h2:∀c:CD,c.ab=[⟨4,0,1,0,0,0,0,false,nilS,nilS,1,32,0⟩]->c.av=.slice (some ⟨1,0,0⟩) 1 1 false 13->Q c):∀c∈sm,Q c:=by
 intro c hc
 simp only[sm,List.mem_cons,List.not_mem_nil,or_false]at hc
 rcases hc with rfl|rfl|rfl|rfl|rfl
 ·exact h1 _ rfl rfl
 ·exact h1 _ rfl rfl
 ·exact h1 _ rfl rfl
 ·exact h1 _ rfl rfl
 ·exact h2 _ rfl rfl
theorem BG {c:CD}(hc:c∈sm){x:AD}(hx:x∈c.ab):x.who=1/\x.op=1/\x.a=32:=by
 revert x
 refine nj (Q:=λc=>∀{x:AD},x∈c.ab->x.who=1/\x.op=1/\x.a=32) ?_ ?_ c hc
 ·intro c h _ x hx
  rw[h]at hx;cases hx
 ·intro c h _ x hx
  rw[h]at hx
  rw[List.mem_singleton.1 hx]
  exact⟨rfl,rfl,rfl⟩
theorem yT {s:SH}(h1:Has 200 (.r false (sm.map CD.row) 11) s)(h2:Has 1 (.r false [(⟨4,0,1,0,0,0,0,false,nilS,nilS,1,32,0⟩:AD).row] 13) s):cI s (.slice (some ⟨200,0,0⟩) 5 5 true 11) sm where
 src:=Src.all (L:=sm.map CD.row) h1
 ab:=nj (λc h h'=>by rw[h,h'];exact .nil) (λc h h'=>by rw[h,h'];exact Src.all (L:=[_]) h2)
 n:=by decide
 nb:=nj (λc h _=>by rw[h];exact Nat.zero_le _) (λc h _=>by rw[h];exact Nat.le_of_ble_eq_true rfl)
theorem Tu (hC:BaseC P K F T){d:SD}(hcd:∀o∈d.ob,∃j:Nat,o.gE=.ofNat j/\j<5)(hf:d.fi.length<=20):nG P K F gK d sm where
 ok:=⟨hcd,λc hc x hx _=>.inl (BG hc hx).1,N4 (nj (λc h _=>by rw[h];exact Nat.zero_le _) (λc h _=>by rw[h];exact Nat.le_refl _)) hf⟩
 step o e he:=by
  obtain⟨c,hc,x,hx,_,h1,_⟩:=sA he
  exact C4 hC (by rw[h1];exact(BG hc hx).2.1)
 any o c R hR:=by
  unfold tK
  rw[hR.foldl_eq' λx hx y hy z=>?_]
  have ha:∀e∈R,e.a=32:=λe he=>by
   obtain⟨c,hc,x,hx,_,_,h2,_⟩:=sA (hR.mem_iff.1 he)
   rw[h2];exact(BG hc hx).2.2
  unfold gK
  rw[ha x hx,ha y hy]
def Ta (F:Nat->FuncId)(T:Nat->TypeId):AC:=(.seq (.seq (.ops [zm 26 9,zm 27 1,zo 28 (.lenS (zt 27)),zo 29 (.arith .lss (zt 26) (zt 28)),zm 30 29,zg 31 (.mv (zt 9)) 30 true,zg 32 (.arith .lss (zt 31) (zc 20)) 30 true,zo 33 (.pick (zt 30) (zt 32) (.const (.bool false)))]) (.cond (zt 33) .skip (.exit 0))) (.seq (.block 1 (.drawn 1 [zp (zm 36 8) 0,zp (zm 37 6) 0,zp (zm 38 1) 0,zp (zm 39 9) 0,zp (zo 40 (.iaddrS 2 (zt 38) (zt 39))) 12,zp (zf 41 1 40) 28,zr (zl 42 41) 0 0 60,zp (zo 43 (.arith .rem (zt 42) (.const (.int .u8 (.ofNat 3))))) 124,zp (zo 44 (.convI .i64 (zt 43))) 252,zp (zm 45 1) 0,zp (zm 46 9) 0,zp (zo 47 (.iaddrS 2 (zt 45) (zt 46))) 1536,zp (zf 48 0 47) 3584,zr (zl 49 48) 0 0 7680,zp (zo 50 (.arith .rem (zt 49) (.const (.int .u8 (.ofNat 5))))) 15872,zp (zo 51 (.convI .i64 (zt 50))) 32256,zp (zo 52 (.build mB [⟨0,⟨1,(zc 1)⟩⟩,⟨1,⟨1,(zt 44)⟩⟩,⟨2,⟨1,(zt 51)⟩⟩,⟨3,⟨1,(zc 2)⟩⟩])) 65532,zh (zo 53 (.call (.func (F 15)) [(zt 37),(zt 52)])) 131070,⟨zo 54 (.bslice 1 1 [(za 0)] [⟨0,(zt 53)⟩]),.dalloc,0,0,262142⟩,zh (zo 55 (.append 1 8 (zt 36) (zt 54))) 524287,zp (zm 8 55) 1048575])) (.ops [zm 34 9,zo 35 (.arith .add (zt 34) (zc 1)),zm 9 35])))
def GG (F:Nat->FuncId)(T:Nat->TypeId):AC:=(.seq (.seq (.ops [zm 56 0]) (.cond (zt 56) (.ops [zm 57 6,zo 58 (.build mB [⟨0,⟨1,(zc 23)⟩⟩,⟨1,⟨1,(zc 2)⟩⟩]),zo 59 (.call (.func (F 15)) [(zt 57),(zt 58)])]) .skip)) (.seq (.ops [zm 60 6,zm 61 8,zm 4 60,zm 5 61]) .ret))
def Bp (F:Nat->FuncId)(T:Nat->TypeId):AC:=(.seq (.seq (.ops [zo 9 (.mv (zc 0))]) (.block 0 (.loop (Ta F T)))) (GG F T))
def Zz:LD:=⟨20,0,0,0,0,false,false,false⟩
def d5:SD:=⟨[Zz,Zz,Zz],[],[[],[],[]],[[],[],[]],[[],[],[]],[[],[],[]],[],[],[],1,0,0,0,0,0,1,1,0,0,0,0,false,0,0⟩
def Jo (ps cs:Nat->Nat)(j:Nat):OD:=⟨.ofNat (j+1),.ofNat (cs j),.ofNat (ps j),.ofNat (ps j),2,false,true,false,0,.ofNat (j+1),0,0,false⟩
def fI (n:Nat):List Int:=(List.range n).map λj=>.ofNat (j+1)
def dT (ps cs:Nat->Nat)(n:Nat):SD:={ d5 with nx:=.ofNat (n+1),sp:=.ofNat (n+1),ob:=(List.range n).map (Jo ps cs),fi:=fI n }
theorem Ij (ps cs:Nat->Nat)(n:Nat):(dT ps cs n).add (pY (ps n) (.ofNat (cs n)) 2 0) (ps n)=dT ps cs (n+1):=by
 have h:∀(d:SD)(o:OD)(p:Nat),o.ci=2->d.add o p={ d with nx:=d.nx+1,sp:=d.sp+1,ob:=d.ob++[o.new2 d.nx d.sp],fi:=d.fi++[d.nx] }:=by
  intro d o p hz
  unfold SD.add
  rw[if_pos hz,hz]
  rfl
 rw[h _ _ _ rfl]
 show({ dT ps cs n with nx:=.ofNat (n+1+1),sp:=.ofNat (n+1+1),ob:=(List.range n).map (Jo ps cs)++[Jo ps cs n],fi:=fI n++[.ofNat (n+1)] }:SD)=dT ps cs (n+1)
 unfold dT fI
 rw[List.range_succ,List.map_append,List.map_append]
 rfl
theorem xn (ps cs:Nat->Nat)(n:Nat):(dT ps cs n).kQ:=⟨rfl,rfl,rfl,rfl⟩
theorem iY (ps cs:Nat->Nat){n:Nat}(hn:n<=20):(dT ps cs n).Small:=by
 refine⟨⟨by show 3<=1000;omega,by simp only[dT,List.length_map,List.length_range];omega,by simp only[dT,fI,List.length_map,List.length_range];omega,Nat.zero_le _,Nat.zero_le _⟩,λLL hL=>?_⟩
 have:LL=[[],[],[]]:=by rcases hL with rfl | rfl | rfl | rfl<;>rfl
 subst this
 refine⟨by decide,λbX hl=>?_⟩
 simp only[List.mem_cons,List.not_mem_nil,or_false,or_self]at hl
 rw[hl]
 exact Nat.zero_le _
structure nH (P:Program)(K:Orc)(F:Nat->FuncId):Prop where
 cN:∀p c:Nat,p<3->c<5->∀s,bB P K (F 201) [.agg (evRow 1 (.ofNat p) (.ofNat c) 2 0 it0)] s (λv s'=>v=iv 0/\s'=s)
 cM:∀a:Int,1<=a/\a<=1000000->∀s,bB P K (F 201) [.agg (evRow 2 a 3 0 0 it0)] s (λv s'=>v=iv 0/\s'=s)
structure WI (t:SH)(lv:AV)(L:List (List AV))(ps cs:Nat->Nat):Prop where
 len:lenOf lv=some L.length
 at':0<L.length->∃rb cap sl,lv=.slice (some ⟨rb,0,0⟩) L.length cap sl 2/\Has rb (.r true L 2) t
 b:∀i,i<L.length->∃x y:Nat,x<=255/\y<=255/\L[i]?=some [.int .u8 (.ofNat x),.int .u8 (.ofNat y)]/\x%5=cs i/\y%3=ps i
theorem apT (hB:Base P K F T)(hc:nH P K F){ps cs:Nat->Nat}{n:Nat}(hn:n<=20)(hp:ps n<3)(hcs:cs n<5):Ap P K F 1 (.ofNat (ps n)) (.ofNat (cs n)) 2 0 it0 (dT ps cs n) (dT ps cs (n+1)):=by
 intro pv ov lv hv gv ev fv sv wv s h
 rw[<- Ij]
 exact sC hB h (iY ps cs hn) (xn ps cs n) hp ⟨by show(0:Int)<=((n+1:Nat):Int);omega,by show((n+1:Nat):Int)<=1000000;omega⟩ ⟨by show(0:Int)<=((n+1:Nat):Int);omega,by show((n+1:Nat):Int)<=1000000;omega⟩ (hc.cN _ _ hp hcs)
theorem N3 (hB:Base P K F T)(hc:nH P K F){lost:Bool}{lv:AV}{L:List (List AV)}{ps cs:Nat->Nat}(hL:WI t lv L ps cs)(hs:aH bl [] d5 t s)(hf:Has bf (.r false [bu bl aZ 60 c1 c2 c3 c4 bE] 8) t)
  (e0:lk l 0=some (.bool lost)) (e1:lk l 1=some lv) (e6:lk l 6=some (.ptr (some ⟨bf,0,0⟩))) (e8:lk l 8=some nilS)
  (hk:∀l2 s2 ids og j Gg n,n=min L.length 20->Gg.length<=20->aH bl Gg (dT ps cs n) (og++(j++t)) s2->Gr 1 ids (nR (fI n)) og->(∀i w,lk [(0,.bool lost),(6,.ptr (some ⟨bf,0,0⟩)),(8,ids)] i=some w->lk l2 i=some w)->WP P K none 62 (GG F T) l2 [] s2 Qn Qe Qr) :
  WP P K none 62 (Bp F T) l [] s Qn Qe Qr:=by
 unfold Bp
 refine Ws (Wq (Wv rfl (Wn (Wb ?_))))
 unfold Ta
 generalize hN:min L.length 20=N
 have hN1:N<=L.length/\N<=20/\(N=L.length\/N=20):=by omega
 refine Wp (λk l ds s'=>ds=[]/\∃q ids og j Gg,k=N-q/\q<=N/\Gg.length<=q/\aH bl Gg (dT ps cs q) (og++(j++t)) s'/\Gr 1 ids (nR (fI q)) og/\∀i w,lk [(0,.bool lost),(1,lv),(6,.ptr (some ⟨bf,0,0⟩)),(8,ids),(9,iv (.ofNat q))] i=some w->lk l i=some w) ?_ (n:=N-0)
  ⟨rfl,0,nilS,[],[],[],rfl,Nat.zero_le _,Nat.le_refl _,hs,.nil,aa e0 (aa e1 (aa e6 (aa e8 (aa rfl aB))))⟩
 rintro k l ds s' ⟨rfl,q,ids,og,j,Gg,rfl,hq,hE,hs',hG,hl⟩
 refine Wg hl (λ_ _ h=>h) ?_
 by_cases hlt:q<N
 ·have Pv:binV .lss (iv (.ofNat q)) (iv (.ofNat L.length))=some (.bool true):=by rw[eT,decide_eq_true (show Int.ofNat q<Int.ofNat L.length from Int.ofNat_lt.2 (by omega))]
  have XJ:binV .lss (iv (.ofNat q)) (iv 20)=some (.bool true):=by rw[eT,decide_eq_true (show Int.ofNat q<20 from(by omega:((q:Nat):Int)<20))]
  refine Ws (Wq (Wv rfl (Wv rfl (Wr (.lenS rfl hL.len) (Wj rfl rfl Pv (Wv rfl (Wy rfl rfl (Wv rfl (Wy rfl rfl (Wj rfl rfl XJ (Wr (.cV rfl rfl) (Wn (Wd rfl (λ_=>Wi ?_) Dz)))))))))))))
  obtain⟨x,y,hx,hy,hrow,hcx,hpy⟩:=hL.b q (by omega)
  obtain⟨rb,cap,sl,rfl,hrb⟩:=hL.at' (by omega)
  have UO:ps q<3:=by rw[<- hpy];exact Nat.mod_lt _ (by omega)
  have hc5:cs q<5:=by rw[<- hcx];exact Nat.mod_lt _ (by omega)
  have h43:binV .rem (.int .u8 (.ofNat y)) (.int .u8 (.ofNat 3))=some (.int .u8 (.ofNat (ps q))):=by rw[<- hpy];exact yi (by omega)
  have h50:binV .rem (.int .u8 (.ofNat x)) (.int .u8 (.ofNat 5))=some (.int .u8 (.ofNat (cs q))):=by rw[<- hcx];exact yi (by omega)
  have XK:mkI .i64 (.ofNat (ps q))=some (iv (.ofNat (ps q))):=tD (by omega)
  have h51:mkI .i64 (.ofNat (cs q))=some (iv (.ofNat (cs q))):=tD (by omega)
  have hsm:=iY ps cs (n:=q) (by omega)
  have Y0:=iY ps cs (n:=q+1) (by omega)
  refine Ws (Wb (WP.fd λTm=>?_))
  have dt:aH bl Gg (dT ps cs q) ((Tm,.gone)::(og++(j++t))) ((Tm,.gone)::s'):=hs'.cons
  refine Dp (.mv rfl) (Dp (.mv rfl) (Dp (.mv rfl) (Dp (.mv rfl) (Dp (.iaddrS rfl rfl (by omega) (by omega)) (Dp (.faddr rfl) (Dl rfl .nil (.load rfl (.there (hs'.mem (.app (.app hrb)))) (r:=0+q) (by rw[Nat.zero_add];exact hrow) rfl rfl) (Dp (.arith rfl rfl h43) (Dp (.convI rfl XK) ?_))))))))
  refine Dp (.mv rfl) (Dp (.mv rfl) (Dp (.iaddrS rfl rfl (by omega) (by omega)) (Dp (.faddr rfl) (Dl rfl .nil (.load rfl (.there (hs'.mem (.app (.app hrb)))) (r:=0+q) (by rw[Nat.zero_add];exact hrow) rfl rfl) (Dp (.arith rfl rfl h50) (Dp (.convI rfl h51) ?_))))))
  refine Dp (.build (cs:=evRow 1 (.ofNat (ps q)) (.ofNat (cs q)) 2 0 it0) rfl rfl) (Dc .nil (WS.perm (Wz [.ptr (some ⟨bf,0,0⟩),.agg (evRow 1 (.ofNat (ps q)) (.ofNat (cs q)) 2 0 it0)] rfl rfl (u5 hB dt hsm (.there (.app (.app hf))) (by omega) (by simp only[dT,List.length_map,List.length_range];rw[du];exact decide_eq_true (show((q:Nat):Int)<60 by omega)) (apT hB hc (by omega) UO hc5) Y0 ⟨by show(1:Int)<=((q+1+1:Nat):Int);omega,by show((q+1+1:Nat):Int)<=1000000;omega⟩) ?_)))
  rintro w s3 ⟨rfl,gw⟩
  obtain⟨u,hu,hback⟩:=gw.split
  have hid:(dT ps cs (q+1)).nx-1=.ofNat (q+1):=by show((q+1+1:Nat):Int)-1=((q+1:Nat):Int);omega
  rw[hid]
  refine⟨_,hu,WD.al (.bslice (L:=[[iv (.ofNat (q+1))]]) (fZ rfl rfl) rfl) rfl ?_⟩
  refine Dc (.yes rfl rfl (.app .here) .nil) (WS.pre (s':=((Tm,.r false [[iv (.ofNat (q+1))]] 1)::u)++(og++(j++t))) (ak λc w h0 h1 h2 hq=>by simp only[h1,h2];omega) (WS.append_gr rfl hG rfl (Src.all (L:=[[iv (.ofNat (q+1))]]) .here) (by omega) (by simp only[nR,fI,List.length_map,List.length_range];omega) (by omega) λv' o' jk xB=>?_))
  refine Dp (.mv rfl) (D0 .nil ?_ (λo ho=>nomatch ho))
  refine Wo (Wv rfl (Wj rfl rfl (bM (by omega)) (Wv rfl (Wn ?_))))
  refine⟨N-(q+1),by omega,rfl,q+1,v',o',(Tm,.r false [[iv (.ofNat (q+1))]] 1)::(jk++j),_,rfl,hlt,?_,(hback (o'++(((Tm,.r false [[iv (.ofNat (q+1))]] 1)::(jk++j))++t))).perm (ak λc w h0 h1 h2 hq=>by simp only[h1,h2];omega),?_,aa rfl (aa rfl (aa rfl (aa rfl (aa rfl aB))))⟩
  ·rw[List.length_append];exact Nat.succ_le_succ hE
  ·have:nR (fI (q+1))=nR (fI q)++[[iv (.ofNat (q+1))]]:=by unfold fI;rw[List.range_succ];simp[nR]
   rw[this];exact xB
 ·have hqN:q=N:=by omega
  have fin:∀{l2:Sl},(∀i w,lk [(0,.bool lost),(6,.ptr (some ⟨bf,0,0⟩)),(8,ids)] i=some w->lk l2 i=some w)->WP P K none 62 (GG F T) l2 [] s' Qn Qe Qr:=λh=>hk _ _ ids og j Gg N hN.symm (by omega) (hqN▸hs') (hqN▸hG) h
  by_cases hlen:q<L.length
  ·have Pv:binV .lss (iv (.ofNat q)) (iv (.ofNat L.length))=some (.bool true):=by rw[eT,decide_eq_true (show Int.ofNat q<Int.ofNat L.length from Int.ofNat_lt.2 hlen)]
   have XJ:binV .lss (iv (.ofNat q)) (iv 20)=some (.bool false):=by rw[eT,decide_eq_false (show¬Int.ofNat q<20 from(by omega:¬((q:Nat):Int)<20))]
   refine Ws (Wq (Wv rfl (Wv rfl (Wr (.lenS rfl hL.len) (Wj rfl rfl Pv (Wv rfl (Wy rfl rfl (Wv rfl (Wy rfl rfl (Wj rfl rfl XJ (Wr (.cV rfl rfl) (Wn (Wd rfl fS (λ_=>Wx ?_))))))))))))))
   exact fin (aa rfl (aa rfl (aa rfl aB)))
  ·have Pv:binV .lss (iv (.ofNat q)) (iv (.ofNat L.length))=some (.bool false):=by rw[eT,decide_eq_false (show¬Int.ofNat q<Int.ofNat L.length fromλh=>hlen (Int.ofNat_lt.1 h))]
   refine Ws (Wq (Wv rfl (Wv rfl (Wr (.lenS rfl hL.len) (Wj rfl rfl Pv (Wv rfl (Wk rfl rfl (Wk rfl rfl (Wr (.bj rfl rfl) (Wn (Wd rfl fS (λ_=>Wx ?_))))))))))))
   exact fin (aa rfl (aa rfl (aa rfl aB)))
def Z0 (F:Nat->FuncId)(T:Nat->TypeId):AC:=(.seq (.seq (.ops [zm 35 9,zo 36 (.arith .lss (zt 35) (zc 8))]) (.cond (zt 36) .skip (.exit 0))) (.seq (.block 1 (.ops [zm 39 5,zo 40 (.mkif (T 26) (zt 39)),zm 41 9,zm 42 1,zo 43 (.convI .i64 (zt 42)),zo 44 (.arith .rem (zt 43) (zc 3)),zo 45 (.call (.func (F 26)) [(zt 40),(zt 41),(zt 44)])])) (.ops [zm 37 9,zo 38 (.arith .add (zt 37) (zc 1)),zm 9 38])))
def Z2 (F:Nat->FuncId)(T:Nat->TypeId):AC:=(.seq (.seq (.ops [zm 59 11,zo 60 (.arith .lss (zt 59) (zc 3))]) (.cond (zt 60) .skip (.exit 4))) (.seq (.block 5 (.seq (.ops [zm 63 5,zo 64 (.mkif (T 26) (zt 63)),zm 65 10,zm 66 11,zm 67 7,zo 68 (.call (.func (F 28)) [(zt 67)]),zo 69 (.call (.func (F 27)) [(zt 64),(zt 65),(zt 66),(zt 68)])]) (.cond (zt 69) (.seq (.ops [zo 4 (.mv (.const (.bool false)))]) .ret) .skip))) (.ops [zm 61 11,zo 62 (.arith .add (zt 61) (zc 1)),zm 11 62])))
def Z1 (F:Nat->FuncId)(T:Nat->TypeId):AC:=(.seq (.seq (.ops [zm 55 10,zo 56 (.arith .lss (zt 55) (zc 8))]) (.cond (zt 56) .skip (.exit 2))) (.seq (.block 3 (.seq (.ops [zo 11 (.mv (zc 0))]) (.block 4 (.loop (Z2 F T))))) (.ops [zm 57 10,zo 58 (.arith .add (zt 57) (zc 1)),zm 10 58])))
def Tj (F:Nat->FuncId)(T:Nat->TypeId):AC:=(.seq (.seq (.ops [zm 19 5,zo 20 (.eql false .ptr (zt 19) (.const (.pointer none)))]) (.cond (zt 20) (.seq (.ops [zo 4 (.mv (.const (.bool false)))]) .ret) .skip)) (.seq (.seq (.ops [zm 21 6,zo 22 (.lenS (zt 21)),zo 23 (.eql false .pi (zt 22) (zc 0))]) (.cond (zt 23) (.seq (.ops [zo 4 (.mv (.const (.bool true)))]) .ret) .skip)) (.seq (.ops [zm 24 6,zm 25 1,zo 26 (.convI .i64 (zt 25)),zm 27 6,zo 28 (.lenS (zt 27)),zo 29 (.arith .rem (zt 26) (zt 28)),zo 30 (.iaddrS 1 (zt 24) (zt 29)),zl 31 30,zm 7 31]) (.seq (.ops [zm 32 5,zo 33 (.call (.func (F 24)) [(zt 32)]),zo 34 (.call (.func (F 25)) [(zt 33)]),zm 8 34]) (.seq (.seq (.ops [zo 9 (.mv (zc 0))]) (.block 0 (.loop (Z0 F T)))) (.seq (.seq (.ops [zm 46 5,zo 47 (.call (.func (F 24)) [(zt 46)]),zo 48 (.call (.func (F 25)) [(zt 47)]),zm 49 8,zo 50 (.eql true .pi (zt 48) (zt 49))]) (.cond (zt 50) (.seq (.ops [zo 4 (.mv (.const (.bool false)))]) .ret) .skip)) (.seq (.ops [zm 51 5,zm 52 7,zo 53 (.build mB [⟨0,⟨1,(zc 2)⟩⟩,⟨1,⟨1,(zt 52)⟩⟩,⟨2,⟨1,(zc 3)⟩⟩]),zo 54 (.call (.func (F 15)) [(zt 51),(zt 53)])]) (.seq (.seq (.ops [zo 10 (.mv (zc 0))]) (.block 2 (.loop (Z1 F T)))) (.seq (.ops [zo 4 (.mv (.const (.bool true)))]) .ret)))))))))
def VO (F:Nat->FuncId):List bS:=[⟨(some 15),(.mv (.tmp 0)),none⟩,⟨(some 16),(.call (.func (F 23)) [(.const (.bool false)),(.tmp 15)]),none⟩,⟨(some 14),(.mv (.tmp 16)),none⟩,⟨(some 17),(.extract (.tmp 14) 0),none⟩,⟨(some 18),(.extract (.tmp 14) 1),none⟩,⟨(some 5),(.mv (.tmp 17)),none⟩,⟨(some 6),(.mv (.tmp 18)),none⟩]
def dM (ps cs:Nat->Nat)(n i:Nat):SD:={ dT ps cs n with nx:=.ofNat (n+2),ob:=((List.range n).map (Jo ps cs)).eraseIdx i++[(pX (Jo ps cs i) 3).new1 (.ofNat (n+1))],fi:=(fI n).filter λx=>!decide (x=.ofNat (i+1)),gr:=[[],[],[]].set (ps i) [.ofNat (n+1)] }
theorem Tx (ps cs:Nat->Nat)(n i:Nat)(hp:ps i<3):((dT ps cs n).gone (.ofNat (i+1)) i).add (pX (Jo ps cs i) 3) (ps i)=dM ps cs n i:=by
 have h:∀(d:SD)(o:OD)(p:Nat),o.ci=3->d.gr[p]?=some []->d.add o p={ d with nx:=d.nx+1,ob:=d.ob++[o.new1 d.nx],gr:=d.gr.set p [d.nx] }:=by
  intro d o p hz hg
  unfold SD.add
  rw[if_neg (by rw[hz];decide),hz]
  unfold SD.ci
  rw[if_neg (by decide),if_neg (by decide),if_neg (by decide),if_pos rfl]
  show(match (d.gr[p]?).map λl=>(l,λl'=>({ d.xR.obs (o.new1 d.nx)with gr:=(d.xR.obs (o.new1 d.nx)).gr.set p l' }:SD))with | some (bX,put)=>put (bX++[d.nx]) | none=>d.xR.obs (o.new1 d.nx))=_
  rw[hg]
  rfl
 rw[h _ _ _ rfl (by rcases(by omega:ps i=0\/ps i=1\/ps i=2)with h | h | h<;>rw[h]<;>rfl)]
 rfl
theorem B0 (ps cs:Nat->Nat){n i:Nat}(hn:n<=20):(dM ps cs n i).Small:=by
 have h:=iY ps cs hn
 refine⟨⟨h.n1.1,?_,?_,Nat.zero_le _,Nat.zero_le _⟩,λLL hL=>?_⟩
 ·have:=List.length_eraseIdx_le ((List.range n).map (Jo ps cs)) i
  simp only[dM,List.length_append,List.length_map,List.length_range,List.length_cons,List.length_nil]at this |-
  omega
 ·have:=List.length_filter_le (λx=>!decide (x=.ofNat (i+1))) (fI n)
  have h2:(fI n).length=n:=by simp[fI]
  simp only[dM]
  omega
 ·by_cases hg:LL=(dM ps cs n i).gr
  ·subst hg
   refine⟨by simp only[dM,List.length_set];decide,λbX hl=>?_⟩
   rcases List.mem_or_eq_of_mem_set hl with hl|rfl
   ·simp only[List.mem_cons,List.not_mem_nil,or_false,or_self]at hl
    rw[hl];exact Nat.zero_le _
   ·exact Nat.le_of_ble_eq_true rfl
  ·rcases hL with rfl | rfl | rfl | rfl
   ·exact h.n2 _ (.inl rfl)
   ·exact h.n2 _ (.inr (.inl rfl))
   ·exact absurd rfl hg
   ·exact h.n2 _ (.inr (.inr (.inr rfl)))
theorem Ii (ps cs:Nat->Nat){n i:Nat}(hi:i<n):(dT ps cs n).find (.ofNat (i+1))=some i:=by
 unfold SD.find
 refine List.findIdx?_eq_some_iff_getElem.2 ⟨by simpa[dT]using hi,by simp[dT,Jo],λj hj=>?_⟩
 simp only[dT,Jo,List.getElem_map,List.getElem_range,decide_eq_true_eq]
 intro h
 have:=Int.ofNat.inj h
 omega
theorem Tz {P:Program}{K:Orc}{F:Nat->FuncId}{T:Nat->TypeId}(hC:BaseC P K F T){ps cs:Nat->Nat}{n:Nat}(hn:n<=20)(hc:∀j,j<n->cs j<5):nG P K F gK (dT ps cs n) sm:=by
 refine Tu hC (λo ho=>?_) (by simp[dT,fI];exact hn)
 obtain⟨j,hj,rfl⟩:=List.mem_map.1 ho
 exact⟨cs j,rfl,hc j (List.mem_range.1 hj)⟩
theorem Tw {P:Program}{K:Orc}{F:Nat->FuncId}{T:Nat->TypeId}(hC:BaseC P K F T){ps cs:Nat->Nat}{n i:Nat}(hi:i<n)(hn:n<=20)(hc:∀j,j<n->cs j<5):nG P K F gK (dM ps cs n i) sm:=by
 refine Tu hC (λo ho=>?_) (Nat.le_trans (List.length_filter_le ..) (by simp[fI];exact hn))
 rcases List.mem_append.1 ho with ho|ho
 ·obtain⟨j,hj,rfl⟩:=List.mem_map.1 (List.mem_of_mem_eraseIdx ho)
  exact⟨cs j,rfl,hc j (List.mem_range.1 hj)⟩
 ·rw[List.mem_singleton.1 ho]
  exact⟨cs i,rfl,hc i hi⟩
theorem sL {g:ED->CH->CH}{d:SD}{C:List CD}{kind aQ id:Int}(hst:d.st=[])(h0:id≠0)(hf:id ∉ d.fi):(⟨0,id⟩:TG) ∉ ct g d C kind aQ:=by
 have h1:∀p,(⟨0,id⟩:TG) ∉ fieldT d p d.fi:=by
  intro p h
  obtain⟨x,hx,he⟩:=List.mem_filterMap.1 h
  split at he
  ·split at he
   ·cases he;exact hf hx
   ·cases he
  ·cases he
 have h2:∀n,(⟨0,id⟩:TG) ∉ playersT d n:=by
  intro n h
  obtain⟨x,hx,he⟩:=List.mem_filterMap.1 h
  split at he
  ·split at he
   ·cases he
   ·cases he;exact h0 rfl
  ·cases he
 unfold ct
 split
 ·exact h1 _
 ·split
  ·exact h2 _
  ·split
   ·intro h
    rcases List.mem_append.1 h with h|h
    ·exact h2 _ h
    ·exact h1 _ h
   ·split
    ·exact h1 _
    ·split
     ·exact h1 _
     ·split
      ·rw[hst];exactλh=>nomatch h
      ·exactλh=>nomatch h
theorem pS (hM:BaseM P K F T)(hs:aH bl EL d t s):bB P K (F 25) [.ptr (some ⟨bl,0,0⟩)] s (λv s'=>v=iv (.ofNat EL.length)/\aH bl EL d t s'):=by
 have hs0:=hs
 obtain⟨sc,lv,pv,ov,eo,hv,gv,ev,fv,sv,wv,oL,nn,k1,k2,k3,k4⟩:=hs
 have hb:Has bl (.r false [sc++([lv]++(d.cells pv ov eo hv gv ev fv sv wv++[]))] 51) s:=.ce (k1.mem_iff.2 (by simp))
 have hl:bV 1 (cu 25 (sc++([lv]++(d.cells pv ov eo hv gv ev fv sv wv++[]))))=some [lv]:=nA (a:=sc) (b:=[lv]) (c:=d.cells pv ov eo hv gv ev fv sv wv++[]) (i:=25) (n:=1) k2 rfl
 refine hM.f25.cF (by simp) ?_
 unfold ZQ
 refine Wq (Wv rfl (Wn ?_))
 refine Ws (Wq (Wv rfl (Wh (b:=false) rfl rfl rfl (Wn (Wd rfl (λh=>by cases h) (λ_=>Wi ?_))))))
 exact Wq (Wv rfl (Wr (.nilchk rfl rfl) (Wf rfl (Wl rfl hb rfl hl rfl (Wr (.lenS rfl k3.out.lenOf) (Wv rfl (Wn (We (Wm (.tmp rfl .nil) ⟨rfl,hs0⟩)))))))))
structure LawG (P:Program)(K:Orc)(F:Nat->FuncId)(T:Nat->TypeId):Prop where
 hB:Base P K F T
 hC:BaseC P K F T
 hG:BaseG P K F T
 hM:BaseM P K F T
 hT:TyC P T
 ht66:Ty P (T 66) 2
 meth:gA P F (T 26)
theorem C9 (hW:LawG P K F T)(hc:nH P K F){ids:AV}{og j:SH}{ps cs:Nat->Nat}{n x:Nat}(hx:x<=255)(hn:n<=20)(hps:∀j,j<n->ps j<3)(hcs:∀j,j<n->cs j<5)(hE:EL.length<=20)(hs:aH bl EL (dT ps cs n) (og++(j++t)) s)(hG:Gr 1 ids (nR (fI n)) og)
  (hf:Has bf (.r false [bu bl aZ 60 c1 c2 c3 c4 bE] 8) t) (eQ:cI t aZ sm)
  (e1:lk l 1=some (.int .u8 (.ofNat x))) (e5:lk l 5=some (.ptr (some ⟨bf,0,0⟩))) (e6:lk l 6=some ids):WP P K none 70 (Tj F T) l [] s Kj (λ_=>Kj) (Kk t):=by
 obtain⟨hB,hC,XR,hM,hT,ht66,hme⟩:=hW
 have UY:∀b o,Has b o t->Has b o s:=λb o h=>hs.mem (.app (.app h))
 unfold Tj
 refine Ws (Wq (Wv e5 (Wh (b:=false) rfl rfl rfl (Wn (Wd rfl fS (λ_=>Wi ?_))))))
 have hlen:lenOf ids=some n:=by rw[hG.out.lenOf,gq];simp[fI]
 refine Ws (Wq (Wv e6 (Wr (.lenS rfl hlen) (Wh rfl rfl (bb _ _) (Wn (Wd rfl (λhz=>?_) (λhz=>Wi ?_)))))))
 ·exact Wq (Wv rfl (Wn (We ⟨rfl,rfl,UY⟩)))
 have hn0:0<n:=by
  have hz:¬(Int.ofNat n=Int.ofNat 0):=of_decide_eq_false hz
  rcases Nat.eq_zero_or_pos n with h|h
  ·exact absurd (by rw[h]) hz
  ·exact h
 have hi:x%n<n:=Nat.mod_lt _ hn0
 generalize hxi:x%n=i at hi
 have VX:mkI .i64 (.ofNat x)=some (iv (.ofNat x)):=tD (by omega)
 have Pv:binV .rem (iv (.ofNat x)) (iv (.ofNat n))=some (iv (.ofNat i)):=by rw[<- hxi];exact yi hn0
 obtain⟨ba,ra,na,ca,J5,Sp,Ma,CB,hba,me,gH⟩:=hG.out.src.at (i:=i) (by rw[gq];simpa[fI]using hi)
 have eE:Ma[ra+i]?=some [iv (.ofNat (i+1))]:=by
  rw[gH,nR,fI,List.getElem?_map,List.getElem?_map,List.getElem?_range hi];rfl
 refine Wq (Wv e6 (Wv e1 (Wr (.convI rfl VX) (Wv e6 (Wr (.lenS rfl hlen) (Wj rfl rfl Pv (Wr (.iaddrS (congrArg some CB) rfl me (by decide)) (Wl rfl (hs.mem (.left hba)) eE rfl rfl (Wv rfl (Wn ?_))))))))))
 have hfS:=hs.mem (.app (.app hf))
 refine Wq (Wv e5 (Ww (Wz [.ptr (some ⟨bf,0,0⟩)] rfl rfl (iT hB hfS) ?_)))
 rintro w _ ⟨rfl,rfl⟩
 refine Ww (Wz [.ptr (some ⟨bl,0,0⟩)] rfl rfl (pS hM hs) ?_)
 rintro w s2 ⟨rfl,dt⟩
 refine Wv rfl (Wn ?_)
 have Yd:=Tz hC (ps:=ps) hn hcs
 have P4:=iY ps cs hn
 -- what may be Xh changes nothing
 refine Ws (Wq (Wv rfl (Wn (Wb ?_))))
 unfold Z0
 refine Wp (λk l ds s'=>ds=[]/\∃q,k=8-q/\q<=8/\aH bl EL (dT ps cs n) (og++(j++t)) s'/\∀y w,lk [(1,.int .u8 (.ofNat x)),(5,.ptr (some ⟨bf,0,0⟩)),(7,iv (.ofNat (i+1))),(8,iv (.ofNat EL.length)),(9,iv (.ofNat q))] y=some w->lk l y=some w) ?_ (n:=8-0)
  ⟨rfl,0,rfl,Nat.zero_le _,dt,aa e1 (aa e5 (aa rfl (aa rfl (aa rfl aB))))⟩
 rintro k l2 ds s3 ⟨rfl,q,rfl,hq,gw,hl⟩
 refine Wg hl (λ_ _ h=>h) ?_
 refine Ws (Wq (Wv rfl (Wj rfl rfl (eT _ _) (Wn (Wd rfl (λht=>Wi ?_) (λht=>Wx ?_))))))
 ·have hlt:q<8:=Int.ofNat_lt.1 (of_decide_eq_true ht)
  have XK:binV .rem (iv (.ofNat x)) (iv 3)=some (iv (.ofNat (x%3))):=yi (b:=3) (by omega)
  refine Ws (Wb (Wo (Wv rfl (Wr (.mkif rfl rfl) (Wv rfl (Wv rfl (Wr (.convI rfl VX) (Wj rfl rfl XK (Ww (Wz [.iface (T 26) (.ptr (some ⟨bf,0,0⟩)),iv (.ofNat q),iv (.ofNat (x%3))] rfl rfl (nT hB hC XR hT hme hlt gw P4 (.app (.app hf)) (eQ.mono λp hp=>by simp[hp]) Yd) ?_))))))))))
  rintro w s4 ⟨m,pM,_⟩
  refine Wn (Wo (Wv rfl (Wj rfl rfl (bM (by omega)) (Wv rfl (Wn ?_)))))
  exact⟨8-(q+1),by omega,rfl,q+1,rfl,hlt,pM.fb,aa rfl (aa rfl (aa rfl (aa rfl (aa rfl aB))))⟩
 refine Ws (Wq (Wv rfl (Ww (Wz [.ptr (some ⟨bf,0,0⟩)] rfl rfl (iT hB (gw.mem (.app (.app hf)))) ?_))))
 rintro w _ ⟨rfl,rfl⟩
 refine Ww (Wz [.ptr (some ⟨bl,0,0⟩)] rfl rfl (pS hM gw) ?_)
 rintro w s4 ⟨rfl,pM⟩
 refine Wv rfl (Wh rfl rfl (bb _ _) (Wn ?_))
 rw[decide_eq_true rfl]
 refine Wd rfl fS (λ_=>Wi ?_)
 -- one leaves
 have tj:=hps i hi
 have hap:Ap P K F 2 (.ofNat (i+1)) 3 0 0 it0 (dT ps cs n) (dM ps cs n i):=by
  rw[<- Tx ps cs n i tj]
  refine yF hB hM P4 (xn ps cs n) (Ii ps cs hi) (by simp only[dT,List.getElem?_map,List.getElem?_range hi];rfl) tj rfl rfl rfl rfl ?_ ?_ ⟨?_,?_⟩ ⟨?_,?_⟩ (hc.cM _ ⟨?_,?_⟩)
  ·intro h;cases h
  ·intro o ho
   obtain⟨k,_,rfl⟩:=List.mem_map.1 ho
   intro h;cases h
  ·show(0:Int)<=((n+1:Nat):Int);omega
  ·show((n+1:Nat):Int)<=1000000;omega
  ·show(0:Int)<=((n+1:Nat):Int);omega
  ·show((n+1:Nat):Int)<=1000000;omega
  ·show(1:Int)<=((i+1:Nat):Int);omega
  ·show((i+1:Nat):Int)<=1000000;omega
 have UW:=B0 ps cs (i:=i) hn
 have Yc:=Tw hC (ps:=ps) hi hn hcs
 refine Wq (Wv rfl (Wv rfl (Wr (.build (cs:=evRow 2 (.ofNat (i+1)) 3 0 0 it0) rfl rfl) (Ww (Wz [.ptr (some ⟨bf,0,0⟩),.agg (evRow 2 (.ofNat (i+1)) 3 0 0 it0)] rfl rfl (sP hB pM P4 (.app (.app hf)) (by omega) hap UW ⟨by show(1:Int)<=((n+2:Nat):Int);omega,by show((n+2:Nat):Int)<=1000000;omega⟩) ?_)))))
 rintro w s5 ⟨_,tn⟩
 refine Wn ?_
 generalize EL++[evRow 2 (.ofNat (i+1)) 3 0 0 it0]=ZI at tn
 have hnot:∀kind aQ:Int,(⟨0,.ofNat (i+1)⟩:TG) ∉ ct gK (dM ps cs n i) sm kind aQ:=λkind aQ=>sL rfl (by intro h;cases h) (λh=>by
  have:=(List.mem_filter.1 h).2
  simp at this)
 refine Ws (Wq (Wv rfl (Wn (Wb ?_))))
 unfold Z1
 refine Wp (λk l ds s'=>ds=[]/\∃q,k=8-q/\q<=8/\aH bl ZI (dM ps cs n i) (og++(j++t)) s'/\∀y w,lk [(5,.ptr (some ⟨bf,0,0⟩)),(7,iv (.ofNat (i+1))),(10,iv (.ofNat q))] y=some w->lk l y=some w) ?_ (n:=8-0)
  ⟨rfl,0,rfl,Nat.zero_le _,tn,aa rfl (aa rfl (aa rfl aB))⟩
 rintro k l6 ds s6 ⟨rfl,q,rfl,hq,KL,hl⟩
 refine Wg hl (λ_ _ h=>h) ?_
 refine Ws (Wq (Wv rfl (Wj rfl rfl (eT _ _) (Wn (Wd rfl (λht=>Wi ?_) (λht=>Wx ?_))))))
 ·have hlt:q<8:=Int.ofNat_lt.1 (of_decide_eq_true ht)
  refine Ws (Wb (Wq (Wv rfl (Wn (Wb ?_)))))
  unfold Z2
  refine Wp (λk l ds s'=>ds=[]/\∃p,k=3-p/\p<=3/\aH bl ZI (dM ps cs n i) (og++(j++t)) s'/\∀y w,lk [(5,.ptr (some ⟨bf,0,0⟩)),(7,iv (.ofNat (i+1))),(10,iv (.ofNat q)),(11,iv (.ofNat p))] y=some w->lk l y=some w) ?_ (n:=3-0)
   ⟨rfl,0,rfl,Nat.zero_le _,KL,aa rfl (aa rfl (aa rfl (aa rfl aB)))⟩
  rintro k l7 ds s7 ⟨rfl,p,rfl,hp,hs7,hl⟩
  refine Wg hl (λ_ _ h=>h) ?_
  refine Ws (Wq (Wv rfl (Wj rfl rfl (eT _ _) (Wn (Wd rfl (λht=>Wi ?_) (λht=>Wx ?_))))))
  ·have YF:p<3:=Int.ofNat_lt.1 (of_decide_eq_true ht)
   refine Ws (Wb (Wq (Wv rfl (Wr (.mkif rfl rfl) (Wv rfl (Wv rfl (Wv rfl (Ww (Wz [iv (.ofNat (i+1))] rfl rfl (Jp XR ht66) ?_)))))))))
   rintro w _ ⟨rfl,m,rfl⟩
   refine Ww (Wz [.iface (T 26) (.ptr (some ⟨bf,0,0⟩)),iv (.ofNat q),iv (.ofNat p),.agg (⟨0,.ofNat (i+1)⟩:TG).row] rfl rfl (Db hB hC XR hT hme hlt (aH.bK hs7) UW (.app (.app hf)) (eQ.mono λp hp=>by simp[hp]) Yc) ?_)
   rintro w s8 ⟨rfl,hs8⟩
   rw[decide_eq_false (hnot _ _)]
   refine Wn (Wd rfl fS (λ_=>Wi ?_))
   refine Wo (Wv rfl (Wj rfl rfl (bM (by omega)) (Wv rfl (Wn ?_))))
   exact⟨3-(p+1),by omega,rfl,p+1,rfl,YF,hs8,aa rfl (aa rfl (aa rfl (aa rfl aB)))⟩
  ·refine Wo (Wv rfl (Wj rfl rfl (bM (by omega)) (Wv rfl (Wn ?_))))
   exact⟨8-(q+1),by omega,rfl,q+1,rfl,hlt,hs7,aa rfl (aa rfl (aa rfl aB))⟩
 exact Wq (Wv rfl (Wn (We ⟨rfl,rfl,λb o h=>KL.mem (.app (.app h))⟩)))
def WOa (P:Program)(K:Orc)(ol:List bS)(e:Tr AV)(ds:List aD)(H H0:Heap)(Q:Po):Prop:=
 ∀(nt:Nat)(ops:Array Oper)(l0:List Oper),aI (co P nt ops.toList) l0=some ol->∃e' ds' H' l' s',fj P K nt ops l0 e ds H (.mk .normal e' ds' H')/\En l' e'/\Hp H0 s' H'/\Q l' ds' s'
theorem WOa.cons {d:Option Nat}{op:AOp}{rest:List bS}{v:AV}{e:Tr AV}{ds ds1:List aD}{H H1 H0:Heap}{Q:Po}(k1:qu P K e op ds H (.mk v ds1 H1))(k3:WOa P K rest (putO e d v) ds1 H1 H0 Q):WOa P K (⟨d,op,none⟩::rest) e ds H H0 Q:=by
 intro nt ops l0 hl
 cases l0 with
 | nil=>cases hl
 | cons a l0=>
  obtain⟨b,bs,h1,h2,h3⟩:=(aV _ a l0 _).1 hl
  cases h3
  have hc:cOper P nt a=⟨d,op,none⟩:=by
   unfold co at h1
   generalize cOper P nt a=z at h1 |-
   obtain⟨d',op',g'⟩:=z
   dsimp only at h1
   cases g' with
   | none=>cases h1;rfl
   | some jw=>
    obtain⟨j,w⟩:=jw
    unfold cg at h1
    dsimp only at h1
    split at h1
    ·rename_i hq;split at hq
     ·split at hq
      ·cases hq;cases h1
      ·cases hq
     ·cases hq
    ·cases h1
  obtain⟨e',ds',H',l',s',j1,j2,j3,j4⟩:=k3 nt ops l0 h2
  exact⟨_,_,_,_,_,fj.cons hc rfl k1 j1,j2,j3,j4⟩
theorem WOa.of {ol:List bS}{l:Sl}{s:SH}{e:Tr AV}{ds:List aD}{H H0:Heap}{Q:Po}(h:WO P K ol l ds s Q)(he:En l e)(hH:Hp H0 s H):WOa P K ol e ds H H0 Q:=λnt ops l0 hl=>h nt ops l0 hl H0 e H he hH
theorem WOa.seq {ol:List bS}{b:AC}{e:Tr AV}{ds:List aD}{H H0:Heap}{Qn Qr:Po}{Qe:Nat->Po}(h:WOa P K ol e ds H H0 (λl ds s=>WP P K none nt b l ds s Qn Qe Qr)){c0:Code}(hc:cc P nt c0=.seq (.ops ol) b) :
  ∃x e' ds' H' l' s',bt P K none nt c0 e ds H (.mk x e' ds' H')/\En l' e'/\Hp H0 s' H'/\(match x with | .normal=>Qn l' ds' s' | .exit i=>Qe i l' ds' s' | .ret=>Qr l' ds' s'):=by
 cases c0 with
 | seq a0 b0=>
  simp only[cc,AC.seq.injEq]at hc
  obtain⟨ha,hb⟩:=hc
  cases a0 with
  | region i ops d=>
   cases d with
   | true=>
    exfalso
    have hc:cdr P nt ops=.ops ol:=ha
    unfold cdr at hc
    split at hc
    ·split at hc<;>cases hc
    ·cases hc
   | false=>
    have hc:(match aI (co P nt ops.toList) ops.toList with | some l=>AC.ops l | none=>.bad)=.ops ol:=ha
    split at hc
    ·rename_i l' hl'
     cases hc
     obtain⟨e1,ds1,H1,l1,s1,h1,h2,h3,h4⟩:=h nt ops ops.toList hl'
     obtain⟨x,e2,ds2,H2,l2,s2,k1,k2,k3,k4⟩:=h4 b0 hb H0 e1 H1 h2 h3
     exact⟨x,e2,ds2,H2,l2,s2,bt.seq (bt.region h1) k1,k2,k3,k4⟩
    ·cases hc
  | _=>simp[cc]at ha
 | region i ops d=>exact(db hc).elim
 | _=>simp[cc]at hc
@[reducible] def n3:List (List AV):=[[nilS],[nilS],[nilS]]
@[reducible] def Va:List AV:=d5.cells (pn 146 3 8) nilS (pn 152 3 1) (pn 158 3 1) (pn 164 3 1) (pn 170 3 1) nilS nilS nilS++([nilS]++(d5.cells (pn 174 3 8) nilS (pn 180 3 1) (pn 186 3 1) (pn 192 3 1) (pn 198 3 1) nilS nilS nilS++[]))
def m5:SH:=[(174,.r false (Am d5.pl) 8),(180,.r false n3 1),(186,.r false n3 1),(192,.r false n3 1),(198,.r false n3 1)]
theorem Qk:mD m5 (pn 174 3 8) nilS (pn 180 3 1) (pn 186 3 1) (pn 192 3 1) (pn 198 3 1) nilS nilS nilS d5 where
 pl:=Src.all (L:=Am d5.pl) .here
 ob:=.nil
 lb:=⟨_,Src.all (L:=n3) (.there .here),.cons .nil (.cons .nil (.cons .nil .nil))⟩
 hd:=⟨_,Src.all (L:=n3) (.there (.there .here)),.cons .nil (.cons .nil (.cons .nil .nil))⟩
 gr:=⟨_,Src.all (L:=n3) (.there (.there (.there .here))),.cons .nil (.cons .nil (.cons .nil .nil))⟩
 ex:=⟨_,Src.all (L:=n3) (.there (.there (.there (.there .here)))),.cons .nil (.cons .nil (.cons .nil .nil))⟩
 fi:=.nil
 st:=.nil
 wa:=.nil
theorem Je (t:SH):aH 142 [] d5 t ((142,.r false [Va] 51)::([]++(m5++t))):=
 ⟨_,nilS,pn 174 3 8,nilS,pn 180 3 1,pn 186 3 1,pn 192 3 1,pn 198 3 1,nilS,nilS,nilS,[],m5,.refl _,rfl,.nil,Qk⟩
@[reducible] def pH:List AV:=bu 142 (pn 200 5 11) 60 8 80 20 20 nilS
@[reducible] def zb:List AV:=(⟨4,0,1,0,0,0,0,false,nilS,nilS,1,32,0⟩:AD).row
def Dt:List (Nat × Nat × List (List AV)):=[(142,51,[Va]),(174,8,Am d5.pl),(180,1,n3),(186,1,n3),(192,1,n3),(198,1,n3),(140,8,[pH]),(200,11,sm.map CD.row),(1,13,[zb])]
noncomputable def Ah:V:={ vU with t:=13,a:=1 }
noncomputable def K1 (P:Program)(ih:bT)(c:Code)(lo:Bool)(z:Nat):FH->Bool:=
 RE P 62 ih (spine 4 c).1 (λe h=>Du h Dt&&(wI e [(0,.bool lo),(6,.ptr (some ⟨140,0,0⟩)),(8,nilS)]&&(Nat.beq (atR 1 e).t 13&&(Nat.beq (atR 1 e).a 0&&(Nat.beq (ap 0 h).t z&&(Nat.beq (ap 0 h).lp.nt 0&&(match h.fr.ds with | []=>true | _=>false)))))))
  (Ba [vB lo,rJ] 0 cT)
noncomputable def pre5 (P:Program)(ih:bT)(c Ib:Code)(h0:FH)(z:Nat):Bool:=
 RE P 70 ih (spine 2 c).1 (λe h=>Nat.beq (atR 0 e).t 13&&(Nat.beq (atR 0 e).a 0&&(Nat.beq (atR 1 e).t 13&&(Nat.beq (atR 1 e).a 1&&((match h.fr.ds with | []=>true | _=>false)&&K1 P ih Ib false z h)))))
  (Ba [rJ,Ah] 0 cT) h0
theorem Cl {h:FH}{ds:List aD}(q:xe h.fr ds none)(k:(match h.fr.ds with | []=>true | _=>false)=true):ds=[]:=by
 obtain⟨f1,_,_⟩:=q
 rw[f1]
 revert k
 cases h.fr.ds with
 | nil=>intro _;rfl
 | cons a l=>intro k;cases k
end
section
variable [Sg]{P:Program}{K:Orc}{F:Nat->FuncId}{T:Nat->TypeId}
theorem yV (hB:Base P K F T) (hS:nH P K F) {ih:bT} (hC:eL P K ih) {fn:Func} {c:Code} (hf:P.funcs[F 23]?=some fn) (hb:fn.body=some c) (hnt:fn.ntmps=62) (hres:fn.results.toList=[.tmp 4,.tmp 5]) (hname:(fn.name == "runtime.NumGoroutine")=false)
  (j5:cc P 62 (spine 4 c).2=Bp F T) (hK:∀args H,K (F 23) args H=none) {h0:FH} {H0:Heap} (hH:cj h0 H0) (hfr:xe h0.fr [] none) {z:Nat} {lost:Bool} (hpre:K1 P ih c lost z h0=true) {lv:AV} (hlv:VA rJ lv) {L:List (List AV)} {ps cs:Nat->Nat} (XV:lenOf lv=some L.length)
  (XW:∀i,i<L.length->∃x y:Nat,x<=255/\y<=255/\L[i]?=some [.int .u8 (.ofNat x),.int .u8 (.ofNat y)]/\x%5=cs i/\y%3=ps i) (XX:0<L.length->z=5/\(∃cap sl,lv=.slice (some ⟨0,0,0⟩) L.length cap sl 2)/\(HO.r true L 2).ok (some (Sg.iK 0))) (UC:lost=false) :
  ∃H' s' z0 ids og j EL,cD P K (F 23) [.bool lost,lv] H0 (.tuple [.ptr (some ⟨140,0,0⟩),ids]) H'/\Hp ⟨.lf,0⟩ s' H'/\aH 142 EL (dT ps cs (min L.length 20)) (og++(j++((140,.r false [pH] 8)::(200,.r false (sm.map CD.row) 11)::(1,.r false [zb] 13)::z0))) s'/\Gr 1 ids (nR (fI (min L.length 20))) og/\EL.length<=20/\(0<L.length->Has 0 (.r true L 2) z0):=by
 have hvl:VA (vB lost) (.bool lost):=by cases lost<;>exact VA.bool _
 obtain⟨e0,iL,XN⟩:=sU (nt:=62) (.cons hvl (.cons hlv .nil)) (by omega) (by simp)
 obtain⟨E',H',ds',e',h',q1,q2,q3,q4,q5⟩:=ye (rd:=none) (ds:=[]) hC (spine 4 c).1 XN hH hfr hpre
 obtain⟨k1,q4⟩:=Bool.and_eq_true_iff.1 q4
 obtain⟨k2,q4⟩:=Bool.and_eq_true_iff.1 q4
 obtain⟨k3,q4⟩:=Bool.and_eq_true_iff.1 q4
 obtain⟨k4,q4⟩:=Bool.and_eq_true_iff.1 q4
 obtain⟨k5,q4⟩:=Bool.and_eq_true_iff.1 q4
 obtain⟨k6,k7⟩:=Bool.and_eq_true_iff.1 q4
 have hds:=Cl q3 k7
 subst hds
 have hmem:=Dv q2 k1
 have ng:=AH q1 k2 (λp hp=>by
  simp only[List.mem_cons,List.not_mem_nil,or_false]at hp
  rcases hp with rfl|rfl|rfl<;>exact Nat.le_of_ble_eq_true rfl)
 obtain⟨a1,Xv,v1⟩:=q1.slot 1 (by omega)
 have Xw:a1=lv:=by
  have h1:=(v1.mP (Nat.eq_of_beq_eq_true k3)).1
  rw[Nat.eq_of_beq_eq_true k4]at h1
  rw[h1,(hlv.mP rfl).1]
  rfl
 subst Xw
 have main:∀z0:SH,(∀b o,(b,o)∈z0->b=0/\b<H'.next/\o.ok (H'.get b))->z0.Pairwise (λp q=>p.1≠q.1)->(0<L.length->∃cap sl,a1=.slice (some ⟨0,0,0⟩) L.length cap sl 2/\Has 0 (.r true L 2) z0) ->
   ∃H3 s' z0 ids og j EL,cD P K (F 23) [.bool lost,a1] H0 (.tuple [.ptr (some ⟨140,0,0⟩),ids]) H3/\Hp ⟨.lf,0⟩ s' H3/\aH 142 EL (dT ps cs (min L.length 20)) (og++(j++((140,.r false [pH] 8)::(200,.r false (sm.map CD.row) 11)::(1,.r false [zb] 13)::z0))) s'/\Gr 1 ids (nR (fI (min L.length 20))) og/\EL.length<=20/\(0<L.length->Has 0 (.r true L 2) z0):=by
  intro z0 hz0 hzp mO
  have hp:Hp ⟨.lf,0⟩ (Dw Dt++z0) H':=by
   refine⟨Nat.zero_le _,?_,?_,λb hb=>absurd hb (Nat.not_lt_zero _)⟩
   ·intro b o hb
    rcases List.mem_append.1 hb with hb|hb
    ·exact hmem b o hb
    ·exact(hz0 b o hb).2
   ·refine List.pairwise_append.2 ⟨?_,hzp,?_⟩
    ·simp[Dw,Dt]
    ·intro p hp q hq
     have:=(hz0 q.1 q.2 hq).1
     rw[this]
     simp only[Dw,Dt,List.map_cons,List.map_nil,List.mem_cons,List.not_mem_nil,or_false]at hp
     rcases hp with rfl|rfl|rfl|rfl|rfl|rfl|rfl|rfl|rfl<;>exact Nat.succ_ne_zero _
  have hs:aH 142 [] d5 ((140,.r false [pH] 8)::(200,.r false (sm.map CD.row) 11)::(1,.r false [zb] 13)::z0) (Dw Dt++z0):=Je _
  have XO:En [(0,.bool lost),(1,a1),(6,.ptr (some ⟨140,0,0⟩)),(8,nilS)] E':=by
   intro i v hi
   simp only[lu]at hi
   split at hi
   ·rename_i h;cases hi;rw[<- h];exact ng 0 _ (by simp)
   ·split at hi
    ·rename_i h;cases hi;rw[<- h];exact Xv
    ·split at hi
     ·rename_i h;cases hi;rw[<- h];exact ng 6 _ (by simp)
     ·split at hi
      ·rename_i h;cases hi;rw[<- h];exact ng 8 _ (by simp)
      ·cases hi
  obtain⟨xx,e'',Xu,H2,l',s',r1,r2,r3,r4⟩:=N3 hB hS (T:=T) (Qn:=Kj) (Qe:=λ_=>Kj) (Qr:=λl ds s=>ds=[]/\∃ids og j EL,aH 142 EL (dT ps cs (min L.length 20)) (og++(j++((140,.r false [pH] 8)::(200,.r false (sm.map CD.row) 11)::(1,.r false [zb] 13)::z0))) s/\Gr 1 ids (nR (fI (min L.length 20))) og/\EL.length<=20/\lk l 4=some (.ptr (some ⟨140,0,0⟩))/\lk l 5=some ids)
   ⟨XV,λh=>by
    obtain⟨cap,sl,w1,w2⟩:=mO h
    exact⟨0,cap,sl,w1,.there (.there (.there w2))⟩,XW⟩ hs .here (lost:=lost) rfl rfl rfl rfl (by
   rintro l2 s2 ids og j Gg n rfl hE dt hG hl
   subst UC
   refine Wg hl (λ_ _ h=>h) ?_
   unfold GG
   refine Ws (Wq (Wv rfl (Wn (Wd rfl fS (λ_=>Wi ?_)))))
   exact Wq (Wv rfl (Wv rfl (Wv rfl (Wv rfl (Wn (We ⟨rfl,ids,og,j,Gg,dt,hG,hE,rfl,rfl⟩))))))) (spine 4 c).2 j5 ⟨.lf,0⟩ E' H' XO hp
  have run:=q5 (spine 4 c).2 _ r1
  rw[ug]at run
  cases xx with
  | normal=>exact r4.elim
  | exit i=>exact r4.elim
  | ret=>
   obtain⟨rfl,ids,og,j,EL,w1,w2,w3,w4,w5⟩:=r4
   refine⟨H2,s',z0,ids,og,j,EL,cD.enter (hK _ _) hf hb (by rw[hnt,hname];rfl) (by rw[hnt];exact iL) (by rw[hnt];exact run) (.inl rfl) ?_,r3,w1,w2,w3,λh=>(mO h).choose_spec.choose_spec.2⟩
   have e4:resultOf P e'' H2 (.tmp 4)=some _:=r2 4 _ w4
   have e5:resultOf P e'' H2 (.tmp 5)=some _:=r2 5 _ w5
   rw[hres]
   show(match aI (resultOf P e'' H2) [.tmp 4,.tmp 5]with | some [v]=>some v | some vs=>some (.tuple vs) | none=>none)=_
   simp only[aI,e4,e5]
 rcases Nat.eq_zero_or_pos L.length with h|h
 ·exact main [] (λb o hb=>nomatch hb) .nil (λk=>by omega)
 ·obtain⟨rfl,⟨cap,sl,hl⟩,hok⟩:=XX h
  have g0:=(q2.block 0 (by omega)).DM (Nat.eq_of_beq_eq_true k5)
  rw[Nat.eq_of_beq_eq_true k6]at g0
  have hn:0<H'.next:=Nat.lt_of_le_of_lt (Nat.zero_le _) (hmem 142 _ (List.mem_cons_self ..)).1
  refine main [(0,.r true L 2)] ?_ (List.pairwise_singleton ..) (λ_=>⟨cap,sl,hl,.here⟩)
  intro b o hb
  rw[List.mem_singleton]at hb
  cases hb
  exact⟨rfl,hn,by rw[g0];exact hok⟩
theorem xK (hW:LawG P K F T) (hS:nH P K F) {ih:bT} (hC:eL P K ih) {fn:Func} {c:Code} (hf:P.funcs[F 23]?=some fn) (hb:fn.body=some c) (hnt:fn.ntmps=62) (hres:fn.results.toList=[.tmp 4,.tmp 5]) (hname:(fn.name == "runtime.NumGoroutine")=false)
  (j5:cc P 62 (spine 4 c).2=Bp F T) (hK:∀args H,K (F 23) args H=none) {f5:FuncId} {TH:Func} {c5:Code} (hf5:P.funcs[f5]?=some TH) (hb5:TH.body=some c5) (PU:TH.ntmps=70) (US:TH.results.toList=[.tmp 4]) (PP:(TH.name == "runtime.NumGoroutine")=false)
  (PY:cc P 70 (spine 2 c5).2=.seq (.ops (VO F)) (Tj F T)) (hK5:∀args H,K f5 args H=none) {h0:FH} {H0:Heap} (hH:cj h0 H0) (hfr:h0.fr=Kz) {z:Nat} (hpre:pre5 P ih c5 c h0 z=true) {x:Nat} (hx:x<=255) {lv:AV} (ha:VAs [rJ,Ah] [lv,.int .u8 (.ofNat x)]) {L:List (List AV)} (XV:lenOf lv=some L.length)
  (XW:∀i,i<L.length->∃x y:Nat,x<=255/\y<=255/\L[i]?=some [.int .u8 (.ofNat x),.int .u8 (.ofNat y)]) (XX:0<L.length->z=5/\(∃cap sl,lv=.slice (some ⟨0,0,0⟩) L.length cap sl 2)/\(HO.r true L 2).ok (some (Sg.iK 0))) :
  ∃H',cD P K f5 [lv,.int .u8 (.ofNat x)] H0 (.bool true) H'/\(0<L.length->(HO.r true L 2).ok (H'.get 0)):=by
 obtain⟨e0,iL,XN⟩:=sU (nt:=70) ha (by omega) (by simp)
 obtain⟨E',H',ds',e',h',q1,q2,q3,q4,q5⟩:=ye (rd:=none) (ds:=[]) hC (spine 2 c5).1 XN hH (by rw[hfr];exact⟨rfl,(λD hD=>by cases hD),rfl⟩) hpre
 obtain⟨k3,q4⟩:=Bool.and_eq_true_iff.1 q4
 obtain⟨k4,q4⟩:=Bool.and_eq_true_iff.1 q4
 obtain⟨j3,q4⟩:=Bool.and_eq_true_iff.1 q4
 obtain⟨j4,q4⟩:=Bool.and_eq_true_iff.1 q4
 obtain⟨k7,YS⟩:=Bool.and_eq_true_iff.1 q4
 have hds:=Cl q3 k7
 subst hds
 obtain⟨a0,e0',v0⟩:=q1.slot 0 (by omega)
 obtain⟨a1,Xv,v1⟩:=q1.slot 1 (by omega)
 obtain⟨YG,hlv,hwh⟩:VA rJ lv/\Sg.val 0=lv/\Sg.val 1=.int .u8 (.ofNat x):=by
  cases ha with
  | cons hv ha=>
   cases ha with
   | cons hw _=>exact⟨hv,(hv.mP rfl).1.symm,(hw.mP rfl).1.symm⟩
 have ea0:a0=lv:=by
  have h1:=(v0.mP (Nat.eq_of_beq_eq_true k3)).1
  rw[Nat.eq_of_beq_eq_true k4]at h1
  rw[h1,hlv]
 have Xw:a1=.int .u8 (.ofNat x):=by
  have h1:=(v1.mP (Nat.eq_of_beq_eq_true j3)).1
  rw[Nat.eq_of_beq_eq_true j4]at h1
  rw[h1,hwh]
 subst ea0 Xw
 -- what the aZ are
 let cs:Nat->Nat:=λj=>match L[j]? with | some [.int .u8 (.ofNat y),_]=>y%5 | _=>0
 let ps:Nat->Nat:=λj=>match L[j]? with | some [_,.int .u8 (.ofNat y)]=>y%3 | _=>0
 have Pw:∀i,i<L.length->∃x y:Nat,x<=255/\y<=255/\L[i]?=some [.int .u8 (.ofNat x),.int .u8 (.ofNat y)]/\x%5=cs i/\y%3=ps i:=by
  intro i hi
  obtain⟨x,y,h1,h2,h3⟩:=XW i hi
  refine⟨x,y,h1,h2,h3,?_,?_⟩
  ·show _=(match L[i]? with | some [.int .u8 (.ofNat y),_]=>y%5 | _=>0)
   rw[h3]
  ·show _=(match L[i]? with | some [_,.int .u8 (.ofNat y)]=>y%3 | _=>0)
   rw[h3]
 have hps:∀j,j<min L.length 20->ps j<3:=by
  intro j hj
  obtain⟨_,y,_,_,_,_,h⟩:=Pw j (by omega)
  rw[<- h];exact Nat.mod_lt _ (by omega)
 have hcs:∀j,j<min L.length 20->cs j<5:=by
  intro j hj
  obtain⟨y,_,_,_,_,h,_⟩:=Pw j (by omega)
  rw[<- h];exact Nat.mod_lt _ (by omega)
 obtain⟨H3,s3,z0,ids,og,j,EL,w1,w2,w3,w4,w5,w6⟩:=yV hW.hB hS hC hf hb hnt hres hname j5 hK q2 q3 YS YG (ps:=ps) (cs:=cs) XV Pw XX rfl
 have YL:qu P K E' (.mv (.tmp 0)) [] H' (.mk a0 [] H'):=⟨0,by
  show(match aval P H' (bL E') (.mv (.tmp 0))with | some (v,H')=>some (OR.mk v [] H') | none=>none)=_
  simp only[aval,show bL E' (.tmp 0)=some a0 from e0']⟩
 have YM:qu P K (putO E' (some 15) a0) (.call (.func (F 23)) [(.const (.bool false)),(.tmp 15)]) [] H' (.mk (.tuple [.ptr (some ⟨140,0,0⟩),ids]) [] H3):=by
  have e15:bL (putO E' (some 15) a0) (.tmp 15)=some a0:=by show(E'.put 15 a0).get 15=_;exact Tr.a8 _ _ _
  have ec:bL (putO E' (some 15) a0) (.const (.bool false))=some (.bool false):=rfl
  exact qu.call (fv:=.func (F 23) [] []) (vs:=[.bool false,a0]) rfl (by simp only[aI,ec,e15]) (ki.func w1)
 have UY:∀i v,lk [(0,a0),(1,.int .u8 (.ofNat x))] i=some v->E'.get i=some v:=by
  intro i v hi
  simp only[lu]at hi
  split at hi
  ·rename_i h;cases hi;rw[<- h];exact e0'
  ·split at hi
   ·rename_i h;cases hi;rw[<- h];exact Xv
   ·cases hi
 have XO:En [(16,.tuple [.ptr (some ⟨140,0,0⟩),ids]),(15,a0),(0,a0),(1,.int .u8 (.ofNat x))] (putO (putO E' (some 15) a0) (some 16) (.tuple [.ptr (some ⟨140,0,0⟩),ids])):=En.put (En.put UY 15 a0) 16 _
 have KO:WOa P K (VO F) E' [] H' ⟨.lf,0⟩ (λl ds s=>WP P K none 70 (Tj F T) l ds s Kj (λ_=>Kj) (Kk ((140,.r false [pH] 8)::(200,.r false (sm.map CD.row) 11)::(1,.r false [zb] 13)::z0))):=by
  unfold VO
  refine WOa.cons YL (WOa.cons YM (WOa.of (l:=[(16,.tuple [.ptr (some ⟨140,0,0⟩),ids]),(15,a0),(0,a0),(1,.int .u8 (.ofNat x))]) ?_ XO w2))
  refine Wv rfl (Wr (.extract rfl rfl) (Wr (.extract rfl rfl) (Wv rfl (Wv rfl (Wn ?_)))))
  exact C9 hW hS hx (by omega) hps hcs w5 w3 w4 .here (yT (.there .here) (.there (.there .here))) rfl rfl rfl
 obtain⟨xx,e'',Xu,H2,l',s',r1,r2,r3,r4⟩:=KO.seq PY
 have run:=q5 (spine 2 c5).2 _ r1
 rw[ug]at run
 cases xx with
 | normal=>exact r4.elim
 | exit i=>exact r4.elim
 | ret=>
  obtain⟨rfl,u4,hm⟩:=r4
  refine⟨H2,cD.enter (hK5 _ _) hf5 hb5 (by rw[PU,PP];rfl) (by rw[PU];exact iL) (by rw[PU];exact run) (.inl rfl) ?_,λh=>(r3.has (hm _ _ (.there (.there (.there (w6 h)))))).2⟩
  have e4:resultOf P e'' H2 (.tmp 4)=some (.bool true):=r2 4 _ u4
  rw[US]
  show(match aI (resultOf P e'' H2) [.tmp 4]with | some [v]=>some v | some vs=>some (.tuple vs) | none=>none)=_
  simp only[aI,e4]
end
theorem works_kc {P:Program}(hm:P.follows .mixedOrders=true){n:Nat}{f:FuncId}(h:fastTrue P noneKnown n f=true):gW P f [] vu (.bool true) vu:=by
 letI:Sg:=sg0
 obtain⟨O,hO,hF⟩:=lB P
 obtain⟨m,b,v,h',H',h1,h2,_,_,h5⟩:=(kX P (hF _) n).call .nil Cd h
 have:=h2.U8 (ag h5)
 subst this
 exact(gW.KV hm hO h1).eC ⟨rfl,Nat.zero_le _,λb o hb=>by rw[np]at hb;cases hb⟩ (Nat.le_refl _) trivial
inductive C5 (F:Nat->FuncId):FuncId->List AV->Heap->AV->Heap->Prop
 | w (H:Heap):C5 F (F 22) [] H (.bool true) H
 | cN (H:Heap) (p c:Int):0<=p/\p<=2->0<=c/\c<=4->C5 F (F 201) [.agg (evRow 1 p c 2 0 it0)] H (iv 0) H
 | cM (H:Heap) (a:Int):1<=a/\a<=1000000->C5 F (F 201) [.agg (evRow 2 a 3 0 0 it0)] H (iv 0) H
theorem C5.uniq {F:Nat->FuncId}(hne:F 22≠F 201){f:FuncId}{args:List AV}{H:Heap}{v u:AV}{H' I:Heap}(h:C5 F f args H v H')(h2:C5 F f args H u I):u=v/\I=H':=by
 have key:∀{f:FuncId}{args:List AV}{H:Heap}{v:AV}{H':Heap},C5 F f args H v H'->H'=H/\((f=F 22/\v=.bool true)\/(f=F 201/\v=iv 0)):=by
  intro f args H v H' h
  cases h with
  | w=>exact⟨rfl,.inl ⟨rfl,rfl⟩⟩
  | cN=>exact⟨rfl,.inr ⟨rfl,rfl⟩⟩
  | cM=>exact⟨rfl,.inr ⟨rfl,rfl⟩⟩
 have q1:=key h
 have q2:=key h2
 refine⟨?_,by rw[q2.1,q1.1]⟩
 rcases q1.2 with⟨e1,w1⟩|⟨e1,w1⟩<;>rcases q2.2 with⟨e2,w2⟩|⟨e2,w2⟩<;>first|(rw[w1,w2];done)|exact absurd (e1.symm.trans e2) hne|exact absurd (e2.symm.trans e1) hne
theorem says5 {P:Program}{F:Nat->FuncId}(hne:F 22≠F 201):nH P (orcOf (C5 F)) F where
 cN p c hp hc s:=by
  have h1:(0:Int)<=.ofNat p/\(.ofNat p:Int)<=2:=⟨Int.natCast_nonneg p,by show((p:Nat):Int)<=2;omega⟩
  have h2:(0:Int)<=.ofNat c/\(.ofNat c:Int)<=4:=⟨Int.natCast_nonneg c,by show((c:Nat):Int)<=4;omega⟩
  exact bB.known (λH=>kG (.cN H _ _ h1 h2) λu I h=>C5.uniq hne (.cN H _ _ h1 h2) h) ⟨rfl,rfl⟩
 cM a h1 s:=bB.known (λH=>kG (.cM H a h1) λu I h=>C5.uniq hne (.cM H a h1) h) ⟨rfl,rfl⟩
theorem orc5_w {F:Nat->FuncId}(hne:F 22≠F 201)(H:Heap):orcOf (C5 F) (F 22) [] H=some (.bool true,H):=kG (.w H) λu I h=>C5.uniq hne (.w H) h
theorem orc5_none {F:Nat->FuncId}{f:FuncId}(h1:f≠F 22)(h2:f≠F 201)(args:List AV)(H:Heap):orcOf (C5 F) f args H=none:=
 wn λu I h=>by cases h<;>first | exact h1 rfl | exact h2 rfl
theorem orc5_ok {P:Program}{F:Nat->FuncId}(kw:gW P (F 22) [] vu (.bool true) vu)(kN:∀p c:Int,0<=p/\p<=2->0<=c/\c<=4->gW P (F 201) [.agg (evRow 1 p c 2 0 it0)] vu (iv 0) vu)
  (kM:∀a:Int,1<=a/\a<=1000000->gW P (F 201) [.agg (evRow 2 a 3 0 0 it0)] vu (iv 0) vu):OrcOk P (orcOf (C5 F)):=by
 refine DX λf args H v H' h=>?_
 cases h with
 | w=>exact kw.anywhere (λ_=>rfl) (λ_=>rfl) _
 | cN _ p c h1 h2=>exact(kN p c h1 h2).anywhere (λ_=>rfl) (λ_=>rfl) _
 | cM _ a h1=>exact(kM a h1).anywhere (λ_=>rfl) (λ_=>rfl) _
theorem Opq.U6 {k:IntKind}{n:Int}:Opq (.int k n):=⟨rfl,λb h=>(by cases h),λm=>by
 have:ieq n n=true:=gd.2 rfl
 cases k<;>simp[sameN,same0,keq,this]⟩
theorem tN [Sg]{lv:AV}(h:Sg.val 1=lv)(ho:Opq lv):VA Ah lv:=by
 subst h
 exact VA.DM (v:=Ah) rfl ho.one ho.nb ho.same
noncomputable def ruleG (w c:FuncId):iB:=λf args h=>match Nat.beq f w with
 | true=>(match args with | []=>some (some (vT,h)) | _::_=>some none)
 | false=>(match Nat.beq f c with | true=>some none | false=>none)
theorem ruleG_ok [Sg]{w c:FuncId}{K:Orc}(hw:∀H,K w [] H=some (.bool true,H))(hK:∀f args H,f≠w->f≠c->K f args H=none):Bh (ruleG w c) K where
 res:=by
  intro f args as h H v h' ha hH hf
  unfold ruleG at hf
  cases hb:Nat.beq f w with
  | true=>
   rw[hb]at hf
   have:=Nat.eq_of_beq_eq_true hb
   subst this
   cases ha with
   | nil=>cases hf;exact⟨_,_,hw H,VA.bool true,hH,rfl⟩
   | cons _ _=>cases hf
  | false=>
   rw[hb]at hf
   dsimp only at hf
   split at hf<;>cases hf
 non:=by
  intro f args as h H ha hH hf
  unfold ruleG at hf
  cases hb:Nat.beq f w with
  | true=>
   rw[hb]at hf
   cases ha with
   | nil=>cases hf
   | cons _ _=>cases hf
  | false=>
   rw[hb]at hf
   dsimp only at hf
   split at hf
   ·cases hf
   ·rename_i hc
    exact hK f as H (λe=>by rw[e]at hb;simp at hb) (λe=>by rw[e]at hc;simp at hc)
structure Trn5 (P:Program)(K:Orc)(F:Nat->FuncId)(T:Nat->TypeId)(f:FuncId)(fn:Func)(c:Code)(tc:Func)(Ib:Code)(R:iB)(n:Nat):Prop where
 mixed:P.follows .mixedOrders=true
 orc:OrcOk P K
 base:LawG P K F T
 says:nH P K F
 rule:∀S:Sg,@Bh S R K
 func:P.funcs[f]?=some fn
 body:fn.body=some c
 nt:fn.ntmps=70
 res:fn.results.toList=[.tmp 4]
 name:(fn.name == "runtime.NumGoroutine")=false
 rest:cc P 70 (spine 2 c).2=.seq (.ops (VO F)) (Tj F T)
 free:∀args H,K f args H=none
 func23:P.funcs[F 23]?=some tc
 body23:tc.body=some Ib
 nt23:tc.ntmps=62
 res23:tc.results.toList=[.tmp 4,.tmp 5]
 name23:(tc.name == "runtime.NumGoroutine")=false
 rest23:cc P 62 (spine 4 Ib).2=Bp F T
 free23:∀args H,K (F 23) args H=none
 runQ:pre5 P (callF P R n) c Ib fhQ 0=true
 runP:pre5 P (callF P R n) c Ib fhP 5=true
section
variable {P:Program}{K:Orc}{F:Nat->FuncId}{T:Nat->TypeId}{f:FuncId}{fn:Func}{c:Code}{tc:Func}{Ib:Code}{R:iB}{n:Nat}
theorem trn5_none (hl:Trn5 P K F T f fn c tc Ib R n){wh:Int}(hw:0<=wh/\wh<=255){lv:AV}{x:Value}(hlv:lenOf lv=some 0)(ho:Opq lv)(hx:VR (λ_=>none) lv x)(w:World) :
  Calls P f #[x,.int .u8 wh] w λe w'=>e=.returned (.bool true)/\w.keptBut w' (λ_=>False):=by
 obtain⟨y,rfl⟩:=Int.eq_ofNat_of_zero_le hw.1
 letI:Sg:=mkSg (λ_=>0) (λi=>match i with | 0=>lv | _=>.int .u8 (.ofNat y)) (λ_=>.deferred)
 have ha:VAs [rJ,Ah] [lv,.int .u8 (.ofNat y)]:=.cons (xV rfl ho) (.cons (tN rfl Opq.U6) .nil)
 obtain⟨H',⟨m,h1⟩,_⟩:=xK hl.base hl.says (kX P (hl.rule _) n) hl.func23 hl.body23 hl.nt23 hl.res23 hl.name23 hl.rest23 hl.free23 hl.func hl.body hl.nt hl.res hl.name hl.rest hl.free N6 rfl hl.runQ (by omega) ha (L:=[]) hlv (λi hi=>absurd hi (Nat.not_lt_zero _)) (λh=>absurd h (Nat.not_lt_zero _))
 refine callsIn_wide.1 (CallsIn.mono (qO hl.mixed hl.orc (HR.one w) (args:=[lv,.int .u8 (.ofNat y)]) (xs:=[x,.int .u8 (y:Int)]) ⟨_,_,hx,⟨_,_,rfl,rfl,rfl⟩,rfl⟩ h1).2 ?_)
 rintro e w' ⟨y,rfl,g',_,hv,hh⟩
 have:y=.bool true:=hv
 subst this
 exact⟨rfl,pO (λk hk=>(hh.keep k hk).2) hh.os.1 hh.os.2⟩
theorem trn5_some (hl:Trn5 P K F T f fn c tc Ib R n){wh:Int}(hw:0<=wh/\wh<=255){z y:Nat->Int}(hz:∀i,0<=z i/\z i<=255)(hy:∀i,0<=y i/\y i<=255){len cap:Nat}(hpos:0<len){w:World}{iK off:Nat}{cs:Array Value}{el:TypeId}{fz:Nat × Nat}
  (hc:w.heap[iK]?=some (.cells cs el fz)) (hcell:∀i,i<len->cs[off+i*2]?=some (.int .u8 (z i))/\cs[off+i*2+1]?=some (.int .u8 (y i))) :
  Calls P f #[.slice (some ⟨iK,off,none⟩) len cap,.int .u8 wh] w λe w'=>e=.returned (.bool true)/\w.keptBut w' (λ_=>False):=by
 obtain⟨x0,rfl⟩:=Int.eq_ofNat_of_zero_le hw.1
 obtain⟨T',qY⟩:=em ((List.range len).map λi=>[AV.int .u8 (z i),AV.int .u8 (y i)])
 have T7:∀i,i<len->((List.range len).map λi=>[AV.int .u8 (z i),AV.int .u8 (y i)])[i]?=some [AV.int .u8 (z i),AV.int .u8 (y i)]:=λi hi=>by
  rw[List.getElem?_map,List.getElem?_range hi];rfl
 have hT:∀i,i<len->T'.get i=some [AV.int .u8 (z i),AV.int .u8 (y i)]:=λi hi=>by rw[cB qY,T7 i hi]
 have IH:((List.range len).map λi=>[AV.int .u8 (z i),AV.int .u8 (y i)]).length=len:=by rw[List.length_map,List.length_range]
 letI:Sg:=mkSg (λ_=>0) (λi=>match i with | 0=>.slice (some ⟨0,0,0⟩) len cap false 2 | _=>.int .u8 (.ofNat x0)) (λ_=>.rows T' len 2 true)
 have ha:VAs [rJ,Ah] [.slice (some ⟨0,0,0⟩) len cap false 2,.int .u8 (.ofNat x0)]:=.cons (xV rfl .slice) (.cons (tN rfl Opq.U6) .nil)
 obtain⟨H',⟨m,h1⟩,h2⟩:=xK hl.base hl.says (kX P (hl.rule _) n) hl.func23 hl.body23 hl.nt23 hl.res23 hl.name23 hl.rest23 hl.free23 hl.func hl.body hl.nt hl.res hl.name hl.rest hl.free N5 rfl hl.runP (by omega) ha (L:=(List.range len).map λi=>[AV.int .u8 (z i),AV.int .u8 (y i)])
  (by rw[IH];rfl) (λi hi=>by
   rw[IH]at hi
   have g1:=hz i
   have g2:=hy i
   have e1:z i=.ofNat (z i).toNat:=(Int.toNat_of_nonneg g1.1).symm
   have e2:y i=.ofNat (y i).toNat:=(Int.toNat_of_nonneg g2.1).symm
   exact⟨(z i).toNat,(y i).toNat,by omega,by omega,by rw[T7 i hi,<- e1,<- e2]⟩)
  (λ_=>⟨rfl,⟨cap,false,by rw[IH]⟩,T',by rw[IH];rfl,λi row hi=>by
   have hlt:i<len:=by
    have:=(List.getElem?_eq_some_iff.1 hi).1
    rw[IH]at this;exact this
   rw[T7 i hlt]at hi
   cases hi
   exact⟨hT i hlt,rfl⟩⟩)
 obtain⟨t,h3,h4⟩:=h2 (by rw[IH];exact hpos)
 rw[IH]at h3
 have hHR:HR ⟨λk=>k<w.heap.size/\k≠iK,λ_=>False⟩ w (gB iK off 0 2 (.cells cs el fz)) (Su (.rows T' len 2 true)) w:=by
  have only:∀b o,(Su (.rows T' len 2 true)).get b=some o->b=0/\o=.rows T' len 2 true:=by
   intro b o hb
   rw[xf]at hb
   split at hb
   ·rename_i e;cases hb;exact⟨e.symm,rfl⟩
   ·cases hb
  refine⟨?_,?_,?_,?_,λk hk=>⟨hk.1,rfl⟩,Nat.le_refl _,⟨rfl,rfl⟩,λb hb=>hb.elim⟩
  ·intro b o hb
   obtain⟨rfl,rfl⟩:=only b o hb
   refine⟨⟨iK,off,0,2,some (.cells cs el fz)⟩,rfl,?_⟩
   refine⟨rfl,cs,el,fz,hc,hc,trivial,λi row hi ht=>?_⟩
   rw[hT i hi]at ht
   cases ht
   refine⟨rfl,λj v hj=>?_⟩
   match j,hj with
   | 0,hj=>cases hj;exact⟨_,(hcell i hi).1,rfl,rfl⟩
   | 1,hj=>cases hj;exact⟨_,(hcell i hi).2,rfl,rfl⟩
  ·intro b b' o o' d d' hb hb' _ _ _
   rw[(only b o hb).1,(only b' o' hb').1]
  ·intro b hb
   have hb:1<=b:=hb
   exact if_neg (by omega)
  ·intro b o d hb _ hd
   obtain⟨rfl,_⟩:=only b o hb
   have hd:some (⟨iK,off,0,2,some (.cells cs el fz)⟩:Gd)=some d:=hd
   cases hd
   exactλk=>k.2 rfl
 refine callsIn_wide.1 (CallsIn.mono (qO hl.mixed hl.orc hHR (args:=[.slice (some ⟨0,0,0⟩) len cap false 2,.int .u8 (.ofNat x0)]) (xs:=[.slice (some ⟨iK,off,none⟩) len cap,.int .u8 (x0:Int)]) ⟨_,_,⟨_,rfl,λ_=>⟨rfl,rfl⟩,by simp[gX]⟩,⟨_,_,rfl,rfl,rfl⟩,rfl⟩ h1).2 ?_)
 rintro e w' ⟨y,rfl,g',hle,hv,hh⟩
 have:y=.bool true:=hv
 subst this
 refine⟨rfl,pO (λk hk=>?_) hh.os.1 hh.os.2⟩
 by_cases hkb:k=iK
 ·subst hkb
  obtain⟨d,hd,X8⟩:=hh.obj 0 _ h3
  have:=hle 0 ⟨k,off,0,2,some (.cells cs el fz)⟩ rfl
  rw[hd]at this
  cases this
  obtain⟨_,_,_,_,_,e2,_⟩:=X8
  have e2:w'.heap[k]?=some (.cells cs el fz):=e2
  rw[e2,hc]
 ·exact(hh.keep k ⟨hk,hkb⟩).2

end
end Go.Ev
