/- Walks and rules. Conditions: none. -/
import Derived.Test.YtbgjkfbeofbngaaGreatEvL
set_option linter.unusedVariables false
set_option linter.unusedSectionVars false
namespace Go.Ev
noncomputable section
section
variable {P:Program}{K:Orc}{rd:Option Nat}{nt:Nat}{l:Sl}{ds:List aD}{s:SH}{Q Qn Qr:Po}{Qe:Nat->Po}{F:Nat->FuncId}{T:Nat->TypeId}{bf bl:Nat}{aZ bE:AV}{c0 c1 c2 c3 c4:Int}{EL:List (List AV)}{d:SD}{t:SH}{tF:TypeId}{g:ED->CH->CH}{C:List CD}{tl:AD->List Nat}
variable {k id:Int}
theorem abL (hX:BdX P K F T tF g C d)(hf:Has bf (.r false [bu bl aZ c0 c1 c2 c3 c4 bE] 8) t)(eQ:cI t aZ C)(hs:aH bl EL d t s){p:Int}(h4:∀c∈C,c.ab.length<=4)(h5:∀c∈C,∀a∈c.ab,a.who=0\/a.who=1\/a.who=2)(h90:d.fi.length<=90)(q7:binV .lss (iv k) (iv 1)=some (.bool false))(hk2:binV .gtr (iv k) (iv 6)=some (.bool false)) :
  bB P K (F 176) [gm tF bf,iv k,iv id,iv p] s (λv s'=>∃m,aH bl EL d (m++t) s'/\Src m 7 v (CT<|qd id p<|C5 3 k d C<|abj k d C)):=by
 refine hX.hQ.f176.ZH ?_
 refine Vk (k:=λb6=>Wa (.box rfl rfl) λb7=>Vk (k:=Wa .mkmap λb23=>Wr (.mkfn rfl rfl)<|Ww<|WS.ins rfl rfl rfl .here rfl<|Wr (.mkfn rfl rfl)<|Ww<|WS.ins rfl rfl rfl .here rfl<|Ww<|WS.ins rfl rfl rfl .here rfl<|Vk (k:=λb9=>Vk (k:=λsf=>Vk (k:=Ww<|W1 (ab2 hX.hQ rfl) ?_)))))
 rintro _ _ ⟨b29,c29,rfl,rfl⟩
 refine Vk (k:=?_)
 obtain⟨u,hu,hback⟩:=hs.split
 refine Wg (l':=[(9,.ptr<|some ⟨b9,0,0⟩),(10,.ptr<|some ⟨sf,0,0⟩),(29,.func (F 239) [] [.ptr (some ⟨b29,0,0⟩),.ptr<|some ⟨c29,0,0⟩])]) (bX rfl) (λ_ _ h=>h) ?_
 generalize hl1:[(9,AV.ptr<|some ⟨b9,0,0⟩),(10,AV.ptr<|some ⟨sf,0,0⟩),(29,AV.func (F 239) [] [.ptr (some ⟨b29,0,0⟩),.ptr<|some ⟨c29,0,0⟩])]=l1
 refine WP.rf (first:=[]) (cap:=[.ptr (some ⟨b29,0,0⟩),.ptr<|some ⟨c29,0,0⟩]) (by rw[<- hl1];rfl) λasg body ha hb D lb=>?_
 generalize hW:(D,HO.ob cN.deferred)::(c29,HO.r false [[iv k]] 1)::(b29,HO.r false [[gm tF bf]] 1)::(b9,HO.r false [[AV.map (some b23)]] 1)::(b23,HO.m<|adG F b6 b7)::(b7,HO.r false [[iv p]] 1)::(b6,HO.r false [[iv id]] 1)::t=W
 have hY:=adv (P:=P) (K:=K) (bl:=bl) (EL:=EL) (d:=d) hX.hQ (lb:=lb) (D:=D) (b6:=b6) (b7:=b7) (b9:=b9) (sf:=sf) (b23:=b23) (id:=id) (p:=p) (l1:=l1) (asg:=asg) (body:=body) (W:=W) ha hb (by rw[<- hl1];rfl) (by rw[<- hl1];rfl)
  (by rw[<- hW];exact .there<|.there<|.there<|.there<|.there<|.there .here) (by rw[<- hW];exact .there<|.there<|.there<|.there<|.there .here) (by rw[<- hW];exact .there<|.there<|.there .here) (by rw[<- hW];exact .there<|.there<|.there<|.there .here)
 have hs0:aH bl EL d ((sf,HO.r false [[nilS]] 1)::([]++([]++((lb,HO.lp l1 60 [30] asg body .ready none D)::W)))) ((lb,HO.lp l1 60 [30] asg body .ready none D)::(D,HO.ob .deferred)::(c29,HO.r false [[iv k]] 1)::(b29,HO.r false [[gm tF bf]] 1)::(sf,HO.r false [[nilS]] 1)::(b9,HO.r false [[AV.map (some b23)]] 1)::(b23,HO.m<|adG F b6 b7)::(b7,HO.r false [[iv p]] 1)::(b6,HO.r false [[iv id]] 1)::s):=(hback _).perm (ak λc w h0 h1 h2 hq=>by have:=hq _ _ hu;subst hW;simp only[h1,h2,h0]at this |-;omega)
 have hfW:Has bf (.r false [bu bl aZ c0 c1 c2 c3 c4 bE] 8) W:=by rw[<- hW];exact .there<|.there<|.there<|.there<|.there<|.there<|.there hf
 have hcW:cI W aZ C:=eQ.mono λq hq=>by rw[<- hW];simp[hq]
 refine bB.canon<|(ab4 (EL:=EL) hX hfW hcW (b2:=b29) (b3:=c29) (k:=k) (by rw[<- hW];exact .there<|.there .here) (by rw[<- hW];exact .there .here) h4 h5 h90 (.yield lb) _ _ _ hY (λL t2 h q hq=>h.sub q<|.tail _ hq) ⟨nilS,[],[],.refl _,.nil⟩ hs0).post ?_
 rintro _ s9 ⟨t9,hs9,nw,A9,j2,Gu,xB⟩
 obtain⟨u2,hu2,af2⟩:=(hs9.tT Gu).split
 refine⟨(lb,HO.lp l1 60 [30] asg body .ready none D)::(u2++((sf,HO.r false [[nw]] 1)::(A9++(j2++W)))),ak (λc w h0 h1 h2 hq=>by have:=hq _ _ hu2;simp only[h1,h2]at this |-;omega),l1,.ready,none,_,rfl,(λh=>LoopState.noConfusion h),?_⟩
 subst hl1
 refine Vk (k:=We ?_)
 subst hW
 refine⟨[D],(lb,HO.gone)::(u2++((sf,HO.r false [[nw]] 1)::(A9++(j2++((c29,HO.r false [[iv k]] 1)::(b29,HO.r false [[gm tF bf]] 1)::(b9,HO.r false [[AV.map (some b23)]] 1)::(b23,HO.m<|adG F b6 b7)::(b7,HO.r false [[iv p]] 1)::(b6,HO.r false [[iv id]] 1)::t))))),rfl,ak (λc w h0 h1 h2 hq=>by simp only[h1,h2,h0,List.map_cons,List.map_nil];omega),[nw],.tmp rfl .nil,A9++((D,HO.gone)::(lb,HO.gone)::(sf,HO.r false [[nw]] 1)::(c29,HO.r false [[iv k]] 1)::(b29,HO.r false [[gm tF bf]] 1)::(b9,HO.r false [[AV.map (some b23)]] 1)::(b23,HO.m<|adG F b6 b7)::(b7,HO.r false [[iv p]] 1)::(b6,HO.r false [[iv id]] 1)::j2),(af2 _).perm (ak λc w h0 h1 h2 hq=>by simp only[h1,h2,h0,List.map_cons,List.map_nil];omega),xB.gr.out.src.mono λq hq=>by simp[hq]⟩
theorem act (hX:BdX P K F T tF g C d)(hf:Has bf (.r false [bu bl aZ c0 c1 c2 c3 c4 bE] 8) t)(eQ:cI t aZ C)(hs:aH bl EL d t s){p:Int}(h4:∀c∈C,c.ab.length<=4)(h5:∀c∈C,∀a∈c.ab,a.who=0\/a.who=1\/a.who=2)(h90:d.fi.length<=90)(q7:binV .lss (iv k) (iv 1)=some (.bool false))(hk2:binV .gtr (iv k) (iv 6)=some (.bool false))
  {J:Nat->List (List AV)->SD->Prop} {L:List ID} (hLe:qd id p (C5 3 k d C<|abj k d C)=L) (IH:L.length<=1000) (h0:J 0 EL d)
  (A2:∀(m:SH)q it EL1 d1 s1,L[q]?=some it->J q EL1 d1->aH bl EL1 d1 (m++t) s1->bB P K (F 15) [.ptr (some ⟨bf,0,0⟩),.agg<|evRow 17 0 0 0 0 it] s1 (λ_ s2=>∃Gg d2,J (q+1) Gg d2/\aH bl Gg d2 (m++t) s2)) :
  bB P K (F 128) [gm tF bf,iv k,iv id,iv p] s (λ_ s'=>∃Gg d2,J L.length Gg d2/\aH bl Gg d2 t s'):=by
 refine hX.hQ.f128.cF ?_
 refine Vk (k:=Ww<|W1 (abL hX hf eQ hs h4 h5 h90 q7 hk2) ?_)
 rintro v s2 ⟨m,dt,hS⟩
 rw[hLe]at hS
 have hl:lenOf v=some L.length:=by rw[hS.lenOf];simp[CT]
 refine Vk (k:=?_)
 refine Wp (λn l ds s'=>ds=[]/\∃q EL1 d1,n=L.length-q/\q<=L.length/\J q EL1 d1/\aH bl EL1 d1 (m++t) s'/\∀x w,lk [(0,gm tF bf),(14,v),(15,iv<|.ofNat L.length),(16,iv<|.ofNat q)] x=some w->lk l x=some w) ?_ (n:=L.length-0)
  ⟨rfl,0,EL,d,rfl,Nat.zero_le _,h0,dt,bX rfl⟩
 rintro n l ds s5 ⟨rfl,q,EL1,d1,rfl,hq,hJ,dT,hl5⟩
 refine Wg hl5 (λ_ _ h=>h) ?_
 refine Wq<|Wj rfl rfl (eT _ _)<|Wn<|Ws<|Wd rfl (λht=>Wi ?_)<|λht=>Wx ?_
 rotate_left
 ·have hge:¬q<L.length:=λh=>of_decide_eq_false ht (Int.ofNat_lt.2 h)
  have hqL:q=L.length:=by omega
  subst hqL
  exact Wm .nil ⟨EL1,d1,hJ,dT.fb⟩
 have hlt:q<L.length:=Int.ofNat_lt.1<|of_decide_eq_true ht
 have hx:L[q]?=some L[q]:=List.getElem?_eq_getElem hlt
 generalize L[q]=it at hx
 obtain⟨ba,ra,na,ca,J5,Sp,Ma,e4,hba,me,hra⟩:=hS.at (i:=q)<|by simpa[CT]using hlt
 have hrow:Ma[ra+q]?=some it.row:=by rw[hra,CT,List.getElem?_map,hx];rfl
 refine Ws<|Wb<|Wq<|Wr (.iaddrS (congrArg some e4) rfl me<|by decide)<|Wl (cs:=it.row) rfl (dT.mem<|.left hba) hrow rfl rfl<|Wa (.alloc rfl) λb9=>Ww<|Wt (s':=(b9,.r false [it.row] 7)::s5) rfl rfl rfl .here rfl rfl<|Wn ?_
 have KL:aH bl EL1 d1 (((b9,.r false [it.row] 7)::m)++t) ((b9,.r false [it.row] 7)::s5):=dT.cons
 refine Wo<|Wv rfl<|Wl (cs:=it.row) rfl .here rfl rfl rfl<|Wr (.build (cs:=evRow 17 0 0 0 0 it) rfl rfl)<|Ww<|WS.invoke (vs:=[AV.agg (evRow 17 0 0 0 0 it)]) rfl hX.do_ rfl (A2 _ q it EL1 d1 _ hx hJ KL) ?_
 rintro _ s7 ⟨Gg,d2,hJ2,hs7⟩
 refine Vk (k:=?_)
 exact⟨L.length-(q+1),by omega,rfl,q+1,Gg,d2,rfl,hlt,hJ2,aH.fb (x:=[_]) hs7,bX rfl⟩
theorem adg (hN:BaseN P K F T)(hs:aH bl EL d t s)(hno:∀s1,aH bl EL d t s1->bB P K (F 214) [gm tF bf,iv 2,iv id] s1 (λv s'=>v=.bool false/\aH bl EL d t s')) :
  bB P K (F 188) [gm tF bf,iv id] s (λv s'=>v=iv 3/\aH bl EL d t s'):=by
 refine hN.f188.cF ?_
 refine Wq<|Wv rfl<|Wn ?_
 refine Ws<|Wq<|Wv rfl<|Wv rfl ?_
 refine Ww<|W1 (hno _ hs) ?_
 rintro _ s2 ⟨rfl,dt⟩
 refine Wn<|Wd rfl fS<|λ_=>Wi ?_
 refine Wq<|Wv rfl<|Wn<|We<|Wm (.tmp rfl .nil) ?_
 exact⟨rfl,dt⟩
open Go.Proofs
set_option maxRecDepth 100000
def ain:CF:=NF (cd 256 34) _
structure BaseO (P:Program)(K:Orc)(F:Nat->FuncId)(T:Nat->TypeId):Prop where
 f214:FnK P K (F 214) 34 [(.tmp 6)] (ain F T)
variable {o:OD}
theorem aaU (hX:BdX P K F T tF g C d)(hO:BaseO P K F T)(ht3:Ty1 P (T 3))(ht4:Ty1 P (T 4))(hno:∀c∈C,Az 5 k c=false)(hf:Has bf (.r false [bu bl aZ c0 c1 c2 c3 c4 bE] 8) t)(eQ:cI t aZ C)(hs:aH bl EL d t s)(ho:d.obj id=some o)(hz:o.ci=2) :
  bB P K (F 214) [gm tF bf,iv k,iv id] s (λv s'=>v=.bool false/\aH bl EL d t s'):=by
 refine hO.f214.cF ?_
 refine Vk (k:=λb5=>Vk (k:=?_))
 have dT:aH bl EL d ((b5,HO.r false [[iv id]] 1)::t) ((b5,HO.r false [[iv id]] 1)::s):=hs.cons
 refine Ww<|WS.invoke (vs:=[iv id]) rfl (hX.hE.hM.obj ) rfl ( Qq hX.hE.hB hX.hE.hC dT hX.hE.hd (.there hf)) ?_
 rintro v s2 ⟨hv,dt⟩
 rw[ho]at hv
 subst hv
 have hq:eqBy 20 .pi (iv o.ci) (iv 2)=some true:=by rw[cD,decide_eq_true hz]
 have gw:∀b7,aH bl EL d ((b7,HO.r false [o.row] 14)::(b5,HO.r false [[iv id]] 1)::t) ((b7,HO.r false [o.row] 14)::s2):=λb7=>dt.cons
 refine Vk (k:=λb7=>Vk (k:=Ww<|W1 (aaQ hX ht3 ht4 hno (.there<|.there hf) (eQ.mono λq hq=>by simp[hq]) (gw b7) rfl) ?_))
 rintro v s4 ⟨rfl,pM⟩
 refine Vk (k:=We<|Wm (.tmp rfl .nil) ?_)
 exact⟨rfl,pM.fb (x:=[_,_])⟩
theorem acf (hX:BdX P K F T tF g C d)(hN:BaseN P K F T)(hO:BaseO P K F T)(ht3:Ty1 P (T 3))(ht4:Ty1 P (T 4))(hno:∀c∈C,Az 5 2 c=false)(hf:Has bf (.r false [bu bl aZ c0 c1 c2 c3 c4 bE] 8) t)(eQ:cI t aZ C)(hs:aH bl EL d t s)(ho:d.obj id=some o)(hz:o.ci=2) :
  bB P K (F 188) [gm tF bf,iv id] s (λv s'=>v=iv 3/\aH bl EL d t s'):=
 adg hN hs λs1 nr=>aaU hX hO ht3 ht4 hno hf eQ nr ho hz
def loc (d:SD)(o:OD):Prop:=(o.ci=2/\o.id∈d.fi)\/(o.ci=0/\∃l,d.lb[o.owner.toNat]?=some l/\o.id∈l)\/(o.ci=3/\∃l,d.gr[o.owner.toNat]?=some l/\o.id∈l)
structure ObI (d:SD)(o:OD):Prop where
 i1:1<=o.id
 i2:o.id<d.nx
 bl:o.block=0
 cd:∃j:Nat,o.gE=.ofNat j/\j<4
 ow:∃p:Nat,o.owner=.ofNat p/\p<3
 ct:o.aQ=o.owner
def StO (fi:List Int)(ob:List OD):Prop:=fi.Pairwise λa b=>∀x∈ob,∀y∈ob,x.id=a->y.id=b->x.stamp<y.stamp
theorem StO.sub {fi fi':List Int}{ob ob':List OD}(h:StO fi ob)(h1:fi'.Sublist fi)(h2:∀a∈fi',∀x∈ob',x.id=a->∃y∈ob,y.id=a/\y.stamp=x.stamp):StO fi' ob':=by
 refine(h.sublist h1).imp_of_mem λha hb hab x hx y hy Qa hyb=>?_
 grind
structure ItB (x:ID):Prop where
 kd:x.kind=3
 ct:0<=x.aQ/\x.aQ<=2
 ob:-1<=x.obj/\x.obj<=1000000
 cd:0<=x.gE/\x.gE<=3
 ab:0<=x.Tk/\x.Tk<=3
theorem ItB.un {x:ID}(h:ItB x)(id:Int):ItB (qa id x):=by
 unfold qa
 split
 ·exact⟨h.kd,h.ct,⟨Int.le_refl _,by grind⟩,h.cd,h.ab⟩
 ·exact h
structure LI (e n f w:Nat)(d:SD):Prop where
 pl:d.pl.length=3
 ev:d.kQ
 st:d.st=[]
 co:d.co=0
 ob:d.ob.length<=n
 nd:(d.ob.map OD.id).Nodup
 o:∀o∈d.ob,ObI d o
 lo:∀o∈d.ob,loc d o
 fi:d.fi.length<=f
 on:∀id∈d.fi,∃o∈d.ob,o.id=id/\o.ci=2
 ls:∀LL,(LL=d.lb\/LL=d.hd\/LL=d.gr\/LL=d.ex)->∀l∈LL,l.length<=n
 wa:d.wa.length<=w
 wn:(d.wa.map ID.id).Nodup
 wx:∀x∈d.wa,1<=x.id/\x.id<d.nx/\ItB x
 nx:1<=d.nx/\d.nx<=5+e
 sp:1<=d.sp/\d.sp<=5+e
 sm:∀o∈d.ob,o.stamp<d.sp
 so:StO d.fi d.ob
 ac:d.ac=0
variable {e' n' f' w':Nat}
theorem LI.mono {e n f w:Nat}(h:LI e n f w d)(h1:e<=e')(h2:n<=n')(h3:f<=f')(h4:w<=w'):LI e' n' f' w' d:=
 ⟨h.pl,h.ev,h.st,h.co,Nat.le_trans h.ob h2,h.nd,h.o,h.lo,Nat.le_trans h.fi h3,h.on,λLL hL l hl=>Nat.le_trans (h.ls LL hL l hl) h2,Nat.le_trans h.wa h4,h.wn,h.wx,⟨h.nx.1,by have:=h.nx.2;omega⟩,⟨h.sp.1,by have:=h.sp.2;omega⟩,h.sm,h.so,h.ac⟩
theorem LI.small {e n f w:Nat}(h:LI e n f w d)(h2:n<=1000)(h3:f<=1000)(h4:w<=1000):d.Small:=by
 have a1:=h.pl
 have a2:=h.ob
 have a3:=h.fi
 have a4:=h.wa
 refine⟨⟨by omega,by omega,by omega,by rw[h.st];grind,by omega⟩,λLL hL=>⟨?_,λl hl=>Nat.le_trans (h.ls LL hL l hl) h2⟩⟩
 rcases hL with rfl|rfl|rfl|rfl
 ·rw[h.ev.lb];omega
 ·rw[h.ev.hd];omega
 ·rw[h.ev.gr];omega
 ·rw[h.ev.ex];omega
variable {i:Nat}
theorem Dh (h:d.find id=some i):∃o,d.ob[i]?=some o/\o.id=id/\o∈d.ob:=by
 unfold SD.find at h
 obtain⟨hi,h2,_⟩:=List.findIdx?_eq_some_iff_getElem.1 h
 grind
theorem adl (h:o∈d.ob):∃i,d.find o.id=some i:=by
 unfold SD.find
 cases hf:d.ob.findIdx? λx=>decide (x.id=o.id) with
 | some i=>grind
 | none=>grind
theorem sT (h:d.obj id=some o):∃i,d.find id=some i/\d.ob[i]?=some o/\o.id=id/\o∈d.ob:=by
 unfold SD.obj at h
 cases hf:d.find id with
 | none=>grind
 | some i=>
  obtain⟨o',h1,h2,h3⟩:=Dh hf
  grind
variable {b:OD}
theorem aah {l:List OD}(h:(l.map OD.id).Nodup){a:OD}(ha:a∈l)(hb:b∈l)(he:a.id=b.id):a=b:=by
 induction l with
 | nil=>cases ha
 | cons c l ih=>
  grind
theorem aai (hn:(d.ob.map OD.id).Nodup)(h:o∈d.ob):d.obj o.id=some o:=by
 obtain⟨i,hi⟩:=adl h
 obtain⟨o',h1,h2,h3⟩:=Dh hi
 unfold SD.obj
 rw[hi]
 exact h1.trans<|by rw[aah hn h3 h h2]
theorem erase_filter {l:List OD}(h:(l.map OD.id).Nodup)(hi:l[i]?=some o):l.eraseIdx i=l.filter λx=>!decide (x.id=o.id):=by
 induction l generalizing i with
 | nil=>cases hi
 | cons c l ih=>
  cases i with
  | zero=>
   cases hi
   rw[List.eraseIdx_cons_zero,List.filter_cons_of_neg<|by simp]
   refine(List.filter_eq_self.2 λx hx=>?_).symm
   grind
  | succ i=>
   grind
theorem agn (id:Int)(l:List ID):(l.map (qa id)).map ID.id=l.map ID.id:=by
 rw[List.map_map]
 refine List.map_congr_left λx _=>?_
 show(qa id x).id=x.id
 unfold qa
 split<;>rfl
theorem afo (id:Int)(x:ID):(qa id x).id=x.id:=by unfold qa;split<;>rfl
def aaV (id:Int)(A B:List (List Int)):Prop:=∀(p:Nat)l,A[p]?=some l->∃l',B[p]?=some l'/\∀x∈l,x≠id->x∈l'
theorem aaV.refl (id:Int)(A:List (List Int)):aaV id A A:=λp l h=>⟨l,h,λx hx _=>hx⟩
variable {p:Nat}{A:List (List Int)}
theorem aaV.set {l l':List Int}(h:A[p]?=some l)(hl:∀x∈l,x≠id->x∈l'):aaV id A (A.set p l'):=by
 intro q m hm
 by_cases hq:p=q
 ·grind
 grind
theorem LI.rem {e n f w:Nat}{d':SD}(h:LI e n f w d)(uA:d'.pl=d.pl)(hev:d'.kQ)(hst:d'.st=d.st)(Sc:d'.co=d.co)(zF:d'.ob=d.ob.filter λo=>!decide (o.id=id))(hfi:d'.fi=d.fi.filter λx=>!decide (x=id))
  (hlb:aaV id d.lb d'.lb) (hgr:aaV id d.gr d'.gr) (hls:∀LL,(LL=d'.lb\/LL=d'.hd\/LL=d'.gr\/LL=d'.ex)->∀l∈LL,l.length<=n) (KO:d'.wa=d.wa.map (qa id)) (YI:d'.nx=d.nx) (hsp:d'.sp=d.sp) (hac:d'.ac=d.ac):LI e n f w d':=by
 have hin:∀{o},o∈d'.ob->o∈d.ob/\o.id≠id:=λho=>by
  grind
 have hto:∀{o},o∈d.ob->o.id≠id->o∈d'.ob:=λho hh=>by
  grind
 refine⟨uA▸h.pl,hev,hst▸h.st,Sc▸h.co,?_,?_,λo ho=>?_,λo ho=>?_,?_,λx hx=>?_,hls,?_,?_,λx hx=>?_,YI▸h.nx,hsp▸h.sp,λo ho=>hsp▸h.sm o (hin ho).1,?_,hac▸h.ac⟩
 ·rw[zF]
  exact Nat.le_trans (List.length_filter_le ..) h.ob
 ·rw[zF]
  exact h.nd.sublist<|List.Sublist.map _ List.filter_sublist
 ·have:=h.o o (hin ho).1
  exact⟨this.i1,YI▸this.i2,this.bl,this.cd,this.ow,this.ct⟩
 ·obtain⟨h1,h2⟩:=hin ho
  rcases h.lo o h1 with⟨hz,hl⟩|⟨hz,l,hl,hm⟩|⟨hz,l,hl,hm⟩
  ·refine .inl ⟨hz,?_⟩
   grind
  ·obtain⟨l',h3,h4⟩:=hlb _ _ hl
   exact .inr<|.inl ⟨hz,l',h3,h4 _ hm h2⟩
  ·obtain⟨l',h3,h4⟩:=hgr _ _ hl
   exact .inr<|.inr ⟨hz,l',h3,h4 _ hm h2⟩
 ·rw[hfi]
  exact Nat.le_trans (List.length_filter_le ..) h.fi
 ·rw[hfi]at hx
  obtain⟨h1,h2⟩:=List.mem_filter.1 hx
  obtain⟨o,h3,rfl,h5⟩:=h.on x h1
  grind
 ·rw[KO,List.length_map]
  exact h.wa
 ·rw[KO,agn]
  exact h.wn
 ·rw[KO]at hx
  obtain⟨y,hy,rfl⟩:=List.mem_map.1 hx
  rw[afo,YI]
  exact⟨(h.wx y hy).1,(h.wx y hy).2.1,(h.wx y hy).2.2.un _⟩
 ·rw[hfi]
  exact h.so.sub List.filter_sublist λa _ x hx Qa=>⟨x,(hin hx).1,Qa,rfl⟩
theorem acB {n:Nat}{l:List Int}(hA:∀l∈A,l.length<=n)(hl:l.length<=n):∀m∈A.set p l,m.length<=n:=λm hm=>by
 grind
variable {a:Int}
theorem LI.left {e n f w:Nat}(h:LI e n f w d)(hi:d.find a=some i)(xG:d.ob[i]?=some o)(ho:o.owner=.ofNat p):LI e n f w { d.left a i o.ci p with wa:=d.wa.map (qa a) }/\(d.left a i o.ci p).ob=(d.ob.filter λo=>!decide (o.id=a))/\(d.left a i o.ci p).pl=d.pl/\(d.left a i o.ci p).nx=d.nx:=by
 obtain⟨o',h1,h2,h3⟩:=Dh hi
 have:=h1.symm.trans xG
 cases this
 have he:=erase_filter h.nd xG
 rw[h2]at he
 have hown:o.owner.toNat=p:=by rw[ho];rfl
 have vq:∀{l:List Int}(x:Int),x∈l->x≠a->x∈l.filter λn=>!decide (n=a):=λx hx hh=>List.mem_filter.2 ⟨hx,by simp[hh]⟩
 have aha:o.ci≠2->d.fi=d.fi.filter λx=>!decide (x=a):=λhz=>by
  refine(List.filter_eq_self.2 λx hx=>?_).symm
  obtain⟨o',h4,h5,h6⟩:=h.on x hx
  have:x≠a:=λhh=>hz<|by rw[<- h6,aah h.nd h3 h4<|by grind]
  simp[this]
 rcases h.lo o h3 with⟨hz,hl⟩|⟨hz,l,hl,hm⟩|⟨hz,l,hl,hm⟩
 ·have hL:d.left a i o.ci p={ d with fi:=d.fi.filter λn=>!decide (n=a),ob:=d.ob.eraseIdx i }:=by rw[hz];rfl
  rw[hL]
  exact⟨h.rem rfl ⟨h.ev.lb,h.ev.hd,h.ev.gr,h.ev.ex⟩ rfl rfl he rfl (.refl _ _) (.refl _ _) h.ls rfl rfl rfl rfl,he,rfl,rfl⟩
 ·rw[hown]at hl
  have hL:d.left a i o.ci p={ d with lb:=d.lb.set p<|l.filter λn=>!decide (n=a),ob:=d.ob.eraseIdx i }:=by unfold SD.left SD.ci;grind
  rw[hL]
  refine⟨h.rem rfl ⟨(List.length_set ..).trans h.ev.lb,h.ev.hd,h.ev.gr,h.ev.ex⟩ rfl rfl he (aha<|by grind) (.set hl vq) (.refl _ _) (λLL hL=>?_) rfl rfl rfl rfl,he,rfl,rfl⟩
  rcases hL with rfl|rfl|rfl|rfl
  ·exact acB (h.ls _<|.inl rfl)<|Nat.le_trans (List.length_filter_le ..)<|h.ls _ (.inl rfl) _<|List.mem_of_getElem? hl
  ·exact h.ls _<|.inr<|.inl rfl
  ·exact h.ls _<|.inr<|.inr<|.inl rfl
  ·exact h.ls _<|.inr<|.inr<|.inr rfl
 ·rw[hown]at hl
  have hL:d.left a i o.ci p={ d with gr:=d.gr.set p<|l.filter λn=>!decide (n=a),ob:=d.ob.eraseIdx i }:=by unfold SD.left SD.ci;grind
  rw[hL]
  refine⟨h.rem rfl ⟨h.ev.lb,h.ev.hd,(List.length_set ..).trans h.ev.gr,h.ev.ex⟩ rfl rfl he (aha<|by grind) (.refl _ _) (.set hl vq) (λLL hL=>?_) rfl rfl rfl rfl,he,rfl,rfl⟩
  rcases hL with rfl|rfl|rfl|rfl
  ·exact h.ls _<|.inl rfl
  ·exact h.ls _<|.inr<|.inl rfl
  ·exact acB (h.ls _<|.inr<|.inr<|.inl rfl)<|Nat.le_trans (List.length_filter_le ..)<|h.ls _ (.inr<|.inr<|.inl rfl) _<|List.mem_of_getElem? hl
  ·exact h.ls _<|.inr<|.inr<|.inr rfl
theorem LI.gone {e n f w:Nat}(h:LI e n f w d)(hi:d.find a=some i)(xG:d.ob[i]?=some o):LI e n f w { d.gone a i with wa:=d.wa.map (qa a) }/\(d.gone a i).ob=d.ob.filter λo=>!decide (o.id=a):=by
 obtain⟨o',h1,h2,h3⟩:=Dh hi
 have:=h1.symm.trans xG
 cases this
 have he:=erase_filter h.nd xG
 rw[h2]at he
 exact⟨h.rem rfl ⟨h.ev.lb,h.ev.hd,h.ev.gr,h.ev.ex⟩ rfl rfl he rfl (.refl _ _) (.refl _ _) h.ls rfl rfl rfl rfl,he⟩
theorem LI.new {e n f w:Nat}(h:LI e n f w d){c:Nat}(hp:p<3)(hc:c<4)(m:Int):LI (e+1) (n+1) (f+1) w (d.add (pY p (.ofNat c) 2 m) p)/\(d.add (pY p (.ofNat c) 2 m) p).pl=d.pl/\(d.add (pY p (.ofNat c) 2 m) p).oc=d.oc:=by
 have hL:d.add (pY p (.ofNat c) 2 m) p={ d with nx:=d.nx+1,sp:=d.sp+1,ob:=d.ob++[(pY p (.ofNat c) 2 m).new2 d.nx d.sp],fi:=d.fi++[d.nx] }:=rfl
 have a1:=h.nx
 have a2:=h.sp
 refine⟨⟨h.pl,⟨h.ev.lb,h.ev.hd,h.ev.gr,h.ev.ex⟩,h.st,h.co,?_,?_,λo ho=>?_,λo ho=>?_,?_,λx hx=>?_,λLL hL l hl=>Nat.le_succ_of_le<|h.ls LL hL l hl,h.wa,h.wn,λx hx=>⟨(h.wx x hx).1,Int.lt_add_one_of_le<|Int.le_of_lt (h.wx x hx).2.1,(h.wx x hx).2.2⟩,⟨by grind,by grind⟩,⟨by grind,by grind⟩,λo ho=>?_,?_,h.ac⟩,rfl,rfl⟩
 ·show(d.ob++[_]).length<=_
  rw[List.length_append,List.length_singleton]
  exact Nat.add_le_add_right h.ob 1
 ·show((d.ob++[_]).map OD.id).Nodup
  rw[List.map_append]
  refine List.nodup_append.2 ⟨h.nd,by simp,λx hx y hy hh=>?_⟩
  obtain⟨o,ho,rfl⟩:=List.mem_map.1 hx
  have:=(h.o o ho).i2
  rw[List.mem_singleton.1 hy]at hh
  have:o.id=d.nx:=hh
  omega
 ·rcases List.mem_append.1 ho with ho | ho
  ·have:=h.o o ho
   exact⟨this.i1,Int.lt_add_one_of_le<|Int.le_of_lt this.i2,this.bl,this.cd,this.ow,this.ct⟩
  ·rw[List.mem_singleton.1 ho]
   exact⟨a1.1,by show d.nx<d.nx+1;omega,rfl,⟨c,rfl,hc⟩,⟨p,rfl,hp⟩,rfl⟩
 ·rcases List.mem_append.1 ho with ho | ho
  ·rcases h.lo o ho with⟨hz,hl⟩ | h1 | h1
   ·exact .inl ⟨hz,List.mem_append_left _ hl⟩
   ·exact .inr<|.inl h1
   ·exact .inr<|.inr h1
  ·rw[List.mem_singleton.1 ho]
   exact .inl ⟨rfl,List.mem_append_right _<|List.mem_singleton.2 rfl⟩
 ·show(d.fi++[_]).length<=_
  rw[List.length_append,List.length_singleton]
  exact Nat.add_le_add_right h.fi 1
 ·rcases List.mem_append.1 hx with hx | hx
  ·obtain⟨o,h1,h2,h3⟩:=h.on x hx
   grind
  ·exact⟨_,List.mem_append_right _<|List.mem_singleton.2 rfl,(List.mem_singleton.1 hx).symm,rfl⟩
 ·show o.stamp<d.sp+1
  rcases List.mem_append.1 ho with ho|ho
  ·have:=h.sm o ho;omega
  ·rw[List.mem_singleton.1 ho]
   show d.sp<d.sp+1;omega
 ·have old:∀{x:OD},x∈d.ob++[(pY p (.ofNat c) 2 m).new2 d.nx d.sp]->x.id<d.nx->x∈d.ob:=λhx hlt=>by
   rcases List.mem_append.1 hx with hx|hx
   ·exact hx
   ·rw[List.mem_singleton.1 hx]at hlt
    exact absurd hlt<|Int.lt_irrefl _
  have fld:∀a∈d.fi,a<d.nx:=λa ha=>by
   obtain⟨o,h1,h2,_⟩:=h.on a ha
   exact h2▸(h.o o h1).i2
  refine List.pairwise_append.2 ⟨h.so.sub (List.Sublist.refl _) λa ha x hx Qa=>⟨x,old hx<|Qa▸fld a ha,Qa,rfl⟩,List.pairwise_singleton ..,λa ha b hb x hx y hy Qa hyb=>?_⟩
  have h1:=h.sm x<|old hx<|Qa▸fld a ha
  rcases List.mem_append.1 hy with hy|hy
  ·have:=(h.o y hy).i2
   grind
  ·rw[List.mem_singleton.1 hy]
   exact h1
theorem LI.aiV {e n f w:Nat}(h:LI e n f w d)(hp:p<3)(ho:o.owner=.ofNat p)(hc:∃j:Nat,o.gE=.ofNat j/\j<4):LI (e+1) (n+1) f w (d.add (pX o 3) p)/\(d.add (pX o 3) p).pl=d.pl/\(d.add (pX o 3) p).wa=d.wa/\(d.add (pX o 3) p).nx=d.nx+1/\(d.add (pX o 3) p).ob=d.ob++[(pX o 3).new1 d.nx]:=by
 obtain⟨l,hl⟩:∃l,d.gr[p]?=some l:=⟨_,List.getElem?_eq_getElem (by rw[h.ev.gr,h.pl];exact hp)⟩
 have hL:d.add (pX o 3) p={ d with nx:=d.nx+1,ob:=d.ob++[(pX o 3).new1 d.nx],gr:=d.gr.set p (l++[d.nx]) }:=by
  simp[SD.add,SD.ci,pX,SD.xR,SD.obs,hl,OD.new1]
 rw[hL]
 have a1:=h.nx
 have a2:=h.sp
 have hK:∀(q:Nat)m,d.gr[q]?=some m->∃m',(d.gr.set p<|l++[d.nx])[q]?=some m'/\∀x∈m,x∈m':=λq m hm=>by
  grind
 refine⟨⟨h.pl,⟨h.ev.lb,h.ev.hd,(List.length_set ..).trans h.ev.gr,h.ev.ex⟩,h.st,h.co,?_,?_,λo ho=>?_,λo2 uY=>?_,h.fi,λx hx=>?_,λLL hL=>?_,h.wa,h.wn,λx hx=>⟨(h.wx x hx).1,Int.lt_add_one_of_le<|Int.le_of_lt (h.wx x hx).2.1,(h.wx x hx).2.2⟩,⟨by grind,by grind⟩,⟨a2.1,by grind⟩,λo2 uY=>?_,?_,h.ac⟩,rfl,rfl,rfl,rfl⟩
 ·rw[List.length_append,List.length_singleton]
  exact Nat.add_le_add_right h.ob 1
 ·rw[List.map_append]
  refine List.nodup_append.2 ⟨h.nd,by simp,λx hx y hy hh=>?_⟩
  obtain⟨o,ho,rfl⟩:=List.mem_map.1 hx
  have:=(h.o o ho).i2
  rw[List.mem_singleton.1 hy]at hh
  have:o.id=d.nx:=hh
  omega
 ·rcases List.mem_append.1 ho with ho | ho
  ·have:=h.o o ho
   exact⟨this.i1,Int.lt_add_one_of_le<|Int.le_of_lt this.i2,this.bl,this.cd,this.ow,this.ct⟩
  ·rw[List.mem_singleton.1 ho]
   exact⟨a1.1,by show d.nx<d.nx+1;omega,rfl,hc,⟨p,by assumption,hp⟩,rfl⟩
 ·rcases List.mem_append.1 uY with uY | uY
  ·rcases h.lo o2 uY with h1 | h1 | ⟨hz,m,h1,h2⟩
   ·exact .inl h1
   ·exact .inr<|.inl h1
   ·obtain⟨m',h3,h4⟩:=hK _ _ h1
    exact .inr<|.inr ⟨hz,m',h3,h4 _ h2⟩
  ·rw[List.mem_singleton.1 uY]
   refine .inr<|.inr ⟨rfl,l++[d.nx],?_,List.mem_append_right _<|List.mem_singleton.2 rfl⟩
   show(d.gr.set p<|l++[d.nx])[o.owner.toNat]?=_
   grind
 ·obtain⟨o,h1,h2,h3⟩:=h.on x hx
  grind
 ·have hm:∀{A:List (List Int)},(∀l∈A,l.length<=n)->∀l∈A,l.length<=n+1:=λhA l hl=>Nat.le_succ_of_le (hA l hl)
  rcases hL with rfl|rfl|rfl|rfl
  ·exact hm<|h.ls _<|.inl rfl
  ·exact hm<|h.ls _<|.inr<|.inl rfl
  ·refine acB (hm<|h.ls _<|.inr<|.inr<|.inl rfl) ?_
   rw[List.length_append,List.length_singleton]
   exact Nat.add_le_add_right (h.ls _ (.inr<|.inr<|.inl rfl) _<|List.mem_of_getElem? hl) 1
  ·exact hm<|h.ls _<|.inr<|.inr<|.inr rfl
 ·show o2.stamp<d.sp
  rcases List.mem_append.1 uY with uY|uY
  ·exact h.sm o2 uY
  ·rw[List.mem_singleton.1 uY]
   show 0<d.sp;omega
 ·refine h.so.sub (List.Sublist.refl _) λa ha x hx Qa=>?_
  rcases List.mem_append.1 hx with hx|hx
  ·exact⟨x,hx,Qa,rfl⟩
  ·obtain⟨o3,h1,h2,_⟩:=h.on a ha
   have:=(h.o o3 h1).i2
   rw[h2,<- Qa,List.mem_singleton.1 hx]at this
   exact absurd this<|Int.lt_irrefl _
theorem LI.other {e n f w:Nat}(h:LI e n f w d){pl:List LD}(uA:pl.length=3){oc wi:Int}:LI e n f w { d with pl:=pl,oc:=oc,wi:=wi }:=
 ⟨uA,⟨h.ev.lb.trans<|h.pl.trans uA.symm,h.ev.hd.trans<|h.pl.trans uA.symm,h.ev.gr.trans<|h.pl.trans uA.symm,h.ev.ex.trans<|h.pl.trans uA.symm⟩,h.st,h.co,h.ob,h.nd,λo ho=>⟨(h.o o ho).i1,(h.o o ho).i2,(h.o o ho).bl,(h.o o ho).cd,(h.o o ho).ow,(h.o o ho).ct⟩,h.lo,h.fi,h.on,h.ls,h.wa,h.wn,h.wx,h.nx,h.sp,h.sm,h.so,h.ac⟩
theorem LI.aja {e n f w:Nat}(h:LI e n f w d)(xG:d.ob[i]?=some o)(x:Int):LI e n f w { d with ob:=d.ob.set i { o with hurt:=x } }:=by
 have ho:o∈d.ob:=List.mem_of_getElem? xG
 have hid:(d.ob.set i { o with hurt:=x }).map OD.id=d.ob.map OD.id:=by
  obtain⟨h1,h2⟩:=List.getElem?_eq_some_iff.1 xG
  have h3:({ o with hurt:=x }:OD).id=(d.ob.map OD.id)[i]'(by simpa using h1):=by grind
  rw[List.map_set,h3,List.set_getElem_self]
 have hin:∀{o2},o2∈d.ob.set i { o with hurt:=x }->o2∈d.ob\/o2={ o with hurt:=x }:=λh=>List.mem_or_eq_of_mem_set h
 have hto:∀{o2},o2∈d.ob->∃o3∈d.ob.set i { o with hurt:=x },o3.id=o2.id/\o3.ci=o2.ci:=λ{o2} h2=>by
  obtain⟨j,hj⟩:=List.getElem?_of_mem h2
  by_cases hij:i=j
  ·subst hij
   rw[xG]at hj
   cases hj
   exact⟨_,List.mem_iff_getElem?.2 ⟨i,List.getElem?_set_self (List.getElem?_eq_some_iff.1 xG).1⟩,rfl,rfl⟩
  ·exact⟨o2,List.mem_iff_getElem?.2 ⟨j,by grind⟩,rfl,rfl⟩
 refine⟨h.pl,⟨h.ev.lb,h.ev.hd,h.ev.gr,h.ev.ex⟩,h.st,h.co,(List.length_set ..).symm▸h.ob,by rw[hid];exact h.nd,λo2 h2=>?_,λo2 h2=>?_,h.fi,λy hy=>?_,h.ls,h.wa,h.wn,h.wx,h.nx,h.sp,λo2 h2=>?_,h.so.sub (List.Sublist.refl _) λa ha x hx Qa=>?_,h.ac⟩
 ·rcases hin h2 with h2 | rfl
  ·have:=h.o o2 h2
   exact⟨this.i1,this.i2,this.bl,this.cd,this.ow,this.ct⟩
  ·have:=h.o o ho
   exact⟨this.i1,this.i2,this.bl,this.cd,this.ow,this.ct⟩
 ·rcases hin h2 with h2 | rfl
  ·exact h.lo o2 h2
  ·exact h.lo o ho
 ·obtain⟨o2,h1,h2,h3⟩:=h.on y hy
  grind
 ·rcases hin h2 with h2 | rfl
  ·exact h.sm o2 h2
  ·exact h.sm o ho
 grind
theorem LI.wait {e n f w:Nat}(h:LI e n f w d)(it:ID)(hit:ItB it):LI (e+1) n f (w+1) { d with nx:=d.nx+1,wa:=d.wa++[{ it with id:=d.nx }] }:=by
 have a1:=h.nx
 have a2:=h.sp
 refine⟨h.pl,⟨h.ev.lb,h.ev.hd,h.ev.gr,h.ev.ex⟩,h.st,h.co,h.ob,h.nd,λo ho=>?_,h.lo,h.fi,h.on,h.ls,?_,?_,λx hx=>?_,⟨by grind,by grind⟩,⟨a2.1,by grind⟩,h.sm,h.so,h.ac⟩
 ·have:=h.o o ho
  exact⟨this.i1,Int.lt_add_one_of_le<|Int.le_of_lt this.i2,this.bl,this.cd,this.ow,this.ct⟩
 ·rw[List.length_append,List.length_singleton]
  exact Nat.add_le_add_right h.wa 1
 ·rw[List.map_append]
  refine List.nodup_append.2 ⟨h.wn,by simp,λx hx y hy hh=>?_⟩
  obtain⟨o,ho,rfl⟩:=List.mem_map.1 hx
  have:=h.wx o ho
  grind
 ·rcases List.mem_append.1 hx with hx | hx
  ·have:=h.wx x hx
   grind
  ·rw[List.mem_singleton.1 hx]
   exact⟨a1.1,by grind,hit.kd,hit.ct,hit.ob,hit.cd,hit.ab⟩
theorem LI.unwait {e n f w:Nat}(h:LI e n f w d)(q:ID->Bool):LI e n f w { d with wa:=d.wa.filter q }:=
 ⟨h.pl,⟨h.ev.lb,h.ev.hd,h.ev.gr,h.ev.ex⟩,h.st,h.co,h.ob,h.nd,λo ho=>⟨(h.o o ho).i1,(h.o o ho).i2,(h.o o ho).bl,(h.o o ho).cd,(h.o o ho).ow,(h.o o ho).ct⟩,h.lo,h.fi,h.on,h.ls,Nat.le_trans (List.length_filter_le ..) h.wa,h.wn.sublist<|List.Sublist.map _ List.filter_sublist,λx hx=>h.wx x (List.mem_filter.1 hx).1,h.nx,h.sp,h.sm,h.so,h.ac⟩
def ab5 (a b:Int):Int:=match binV .add (iv a) (iv b)with | some (.int _ n)=>n | _=>0
def gA (e:ED)(c:CH):CH:=⟨ab5 c.p (oP e.a),ab5 c.t (oP e.b),c.k⟩
theorem adY (a b:Int):binV .add (iv a) (iv b)=some (iv (ab5 a b)):=by
 have:∃n,binV .add (iv a) (iv b)=some (iv n):=by
  show∃n,mkI .i64 (iadd a b)=some (iv n)
  generalize iadd a b=x
  cases x with
  | ofNat m=>
   show∃n,(match Nat.ble m 9223372036854775807 with | true=>force m λm=>some (AV.int .i64<|.ofNat m) | false=>some<|AV.int .i64<|IntKind.wrap .i64<|.ofNat m)=_
   cases Nat.ble m 9223372036854775807
   ·grind
   ·exact⟨_,aL _ _⟩
  | negSucc m=>
   show∃n,(match Nat.ble m 9223372036854775807 with | true=>force m λm=>some (AV.int .i64<|.negSucc m) | false=>some<|AV.int .i64<|IntKind.wrap .i64<|.negSucc m)=_
   cases Nat.ble m 9223372036854775807
   ·grind
   ·exact⟨_,aL _ _⟩
 obtain⟨n,h⟩:=this
 unfold ab5
 rw[h]
structure uS (C:List CD):Prop where
 n:C.length=4
 R8:∀c∈C,c.ab.length<=1
 x:∀c∈C,∀x∈c.ab,x.kind=3/\x.ev=2/\(x.who=0\/x.who=2)\/x.kind=4/\x.ev=0/\x.who=2/\x.op=4/\x.a=0/\x.b=.negSucc 0
theorem adZ (hC:BaseC P K F T){e:ED}(he:e.op=4):lQ P K F gA e:=by
 refine⟨F 236,by unfold rowOf cx;rw[he];rfl,λb c s=>?_⟩
 refine hC.f236.cF ?_
 have e1:=adY c.p<|oP e.a
 have e2:=adY c.t<|oP e.b
 refine Wq<|Wa (.box rfl rfl) λb3=>Wn ?_
 refine Ws<|WP.bD<|Dp (.mv rfl)<|Dp (.nilchk rfl rfl)<|Dp (.faddr rfl)<|WD.lk rfl .nil (.load rfl (.there .here) rfl rfl rfl)<|Dp (.faddr rfl)<|Dl rfl .nil (.load rfl .here rfl rfl rfl) ?_
 refine Dc .nil<|W1 (lM hC) ?_
 rintro w _ ⟨rfl,rfl⟩
 refine Dp (.arith rfl rfl e1)<|Dp (.nilchk rfl rfl)<|Dp (.faddr rfl)<|Dc .nil<|Wt (s':=_::(b,.r false [[iv (ab5 (CH.p c)<|oP<|ED.a e),iv<|CH.t c,iv<|CH.k c]] 3)::_) rfl rfl rfl (.there .here) rfl rfl ?_
 refine D0 .nil ?_<|ob2 (wC _) (.load rfl (.there .here) rfl rfl rfl)<|.load rfl (.there .here) rfl rfl rfl
 refine WP.bD<|Dp (.mv rfl)<|Dp (.nilchk rfl rfl)<|Dp (.faddr rfl)<|WD.lk rfl .nil (.load rfl (.there .here) rfl rfl rfl)<|Dp (.faddr rfl)<|Dl rfl .nil (.load rfl .here rfl rfl rfl) ?_
 refine Dc .nil<|W1 (lM hC) ?_
 rintro w _ ⟨rfl,rfl⟩
 refine Dp (.arith rfl rfl e2)<|Dp (.nilchk rfl rfl)<|Dp (.faddr rfl)<|Dc .nil<|Wt (s':=_::(b,.r false [[iv (ab5 (CH.p c)<|oP<|ED.a e),iv<|ab5 (CH.t c)<|oP<|ED.b e,iv<|CH.k c]] 3)::_) rfl rfl rfl (.there .here) rfl rfl ?_
 refine D0 .nil ?_<|ob2 (wC _) (.load rfl (.there .here) rfl rfl rfl)<|.load rfl (.there .here) rfl rfl rfl
 refine Wm .nil ?_
 exact⟨[_],rfl⟩
theorem ac0 {n:Int}{e:ED}(h:e∈oneE d C b n):∃o∈d.ob,o.id=n/\e.st=o.stamp:=by
 unfold oneE at h
 split at h
 ·cases h
 ·rename_i i hi
  obtain⟨o',h1,h2,h3⟩:=Dh hi
  split at h
  ·cases h
  ·rename_i o ho
   have:=h1.symm.trans ho
   split at h
   ·cases h
   ·obtain⟨x,_,rfl⟩:=List.mem_map.1 h
    grind
theorem ahA (hP:uS C)(hso:StO d.fi d.ob)(b:OD):(∀e∈qy d C b,e.op=4)/\(qy d C b).Pairwise λx y=>x.st<y.st:=by
 refine⟨λe he=>?_,(List.pairwise_flatMap.2 ⟨λn _=>?_,hso.imp λh x hx y hy=>?_⟩).sublist List.filter_sublist⟩
 ·obtain⟨c,hc,x,hx,hk,h1,_⟩:=sA he
  rcases hP.x c hc x hx with h|h
  ·grind
  grind
 ·have:=DI (d:=d) hP.R8 b n
  match oneE d C b n,this with
  | [],_=>exact .nil
  | [x],_=>grind
  | _::_::_,h=>grind
 ·obtain⟨o1,h1,h2,h3⟩:=ac0 hx
  obtain⟨o2,h4,h5,h6⟩:=ac0 hy
  grind
theorem agS (hC:BaseC P K F T)(hP:uS C)(hcd:∀o∈d.ob,∃j:Nat,o.gE=.ofNat j/\j<4)(hf:d.fi.length<=39)(hso:StO d.fi d.ob):nG P K F gA d C where
 ok:=⟨λo ho=>by rw[hP.n];exact hcd o ho,λc hc x hx hk=>by
  rcases hP.x c hc x hx with h|h
  ·grind
  grind,N4 hP.R8 hf,ahA hP hso⟩
 step o e he:=by
  obtain⟨c,hc,x,hx,hk,h1,_⟩:=sA he
  rcases hP.x c hc x hx with h|h
  ·grind
  ·exact adZ hC<|by grind
 any o c R hR:=by
  unfold tK
  rw[hR.foldl_eq' λx hx y hy z=>?_]
  have ha:∀e∈R,e.a=0/\e.b=.negSucc 0:=λe he=>by
   obtain⟨c,hc,x,hx,hk,_,h2,h3⟩:=sA<|hR.mem_iff.1 he
   rcases hP.x c hc x hx with h|h
   ·grind
   grind
  unfold gA
  grind
structure aft (P:Program)(K:Orc)(F:Nat->FuncId):Prop where
 new:∀(p c:Nat)(m:Int)s,p<3->c<4->m=0\/m=1->bB P K (F 201) [.agg (evRow 1 (.ofNat p) (.ofNat c) 2 m l5)] s (λv s'=>v=iv 0/\s'=s)
 life:∀(p:Nat)(n:Int)s,p<3->-24<=n->n<=0->bB P K (F 201) [.agg (evRow 7 (.ofNat p) 0 n 0 l5)] s (λv s'=>v=iv 0/\s'=s)
 hurt:∀(a n:Int)s,1<=a->a<=1000000->0<=n->n<=2->bB P K (F 201) [.agg (evRow 5 a 0 n 0 l5)] s (λv s'=>v=iv 0/\s'=s)
 hurt0:∀(n:Int)s,0<=n->n<=2->bB P K (F 201) [.agg (evRow 5 0 0 n 0 l5)] s (λv s'=>v=iv 2/\s'=s)
 empty:∀(p:Nat)s,p<3->bB P K (F 201) [.agg (evRow 24 (.ofNat p) 0 0 0 l5)] s (λv s'=>v=iv 0/\s'=s)
 wait:∀(c o k a:Int)s,0<=c/\c<=2->0<=o/\o<=1000000->0<=k/\k<=3->0<=a/\a<=3->bB P K (F 201) [.agg (evRow 17 0 0 0 0 ⟨0,3,c,o,k,a⟩)] s (λv s'=>v=iv 0/\s'=s)
 lose:∀(p:Nat)s,p<3->bB P K (F 201) [.agg (evRow 23 (.ofNat p) 0 0 0 l5)] s (λv s'=>v=iv 0/\s'=s)
 unwait:∀(a:Int)s,1<=a->a<=1000000->bB P K (F 201) [.agg (evRow 18 a 0 0 0 l5)] s (λv s'=>v=iv 0/\s'=s)
 cease:∀(a:Int)s,1<=a->a<=1000000->bB P K (F 201) [.agg (evRow 25 a 0 0 0 l5)] s (λv s'=>v=iv 0/\s'=s)
 move:∀(a:Int)s,1<=a->a<=1000000->bB P K (F 201) [.agg (evRow 2 a 3 0 0 l5)] s (λv s'=>v=iv 0/\s'=s)
 win:∀(p:Nat)s,p<3->bB P K (F 201) [.agg (evRow 29 1 (.ofNat p) 0 0 l5)] s (λv s'=>v=iv 0/\s'=s)
 draw:∀s,bB P K (F 201) [.agg (evRow 29 2 0 0 0 l5)] s<|λv s'=>v=iv 0/\s'=s
structure LEnv (P:Program)(K:Orc)(F:Nat->FuncId)(T:Nat->TypeId)(tF:TypeId):Prop where
 hB:Base P K F T
 hC:BaseC P K F T
 hG:BaseG P K F T
 hT:TyC P T
 hM:acK P F tF
 hU:BaseU P K F T
 hI:BaseB P K F T
 info:meth P tF "Info"=some (F 58)
 t128:Ty P (T 128) 13
 hQ:BaseQ P K F T
 hv:meth P tF "Having"=some (F 346)
 weak:meth P tF "Weak"=some (F 56)
 bm:aaF P F tF
 hN:BaseN P K F T
 hO:BaseO P K F T
 hS:BaseS P K F T
 hL:BaseL P K F T
 it:BaseI P K F T
 hR:BaseR P K F T
 hX:BaseX P K F T
 mv:BaseM P K F T
 t45:Ty P (T 45) 14
 t3:Ty1 P (T 3)
 t4:Ty1 P (T 4)
 says:aft P K F
variable {e:Nat}{n:Nat}{f:Nat}{w:Nat}
theorem LI.ge (L:LEnv P K F T tF)(hP:uS C)(h:LI e n f w d)(h2:n<=1000)(h3:f<=30)(h4:w<=1000):GE P K F T tF gA C d where
 hB:=L.hB
 hC:=L.hC
 hG:=L.hG
 hT:=L.hT
 hM:=L.hM
 hU:=L.hU
 hI:=L.hI
 info:=L.info
 t128:=L.t128
 hd:=h.small h2 (by omega) h4
 he:=h.ev
 hO:=agS L.hC hP (λo ho=>(h.o o ho).cd) (Nat.le_trans h.fi<|by omega) h.so
theorem LI.all (h:LI e n f w d):∀id∈d.fi,∃o,d.obj id=some o:=λid hid=>by
 obtain⟨o,h1,h2,_⟩:=h.on id hid
 exact⟨o,h2▸aai h.nd h1⟩
theorem LI.bdx (L:LEnv P K F T tF)(hP:uS C)(h:LI e n f w d)(h2:n<=1000)(h3:f<=30)(h4:w<=1000):BdX P K F T tF gA C d where
 hE:=h.ge L hP h2 h3 h4
 hQ:=L.hQ
 hv:=L.hv
 do_:=L.bm.do_
 cd o ho:=by rw[hP.n];exact(h.o o ho).cd
 all:=h.all
structure Cl (p:Nat)(d:SD):Prop where
 ob:∀o∈d.ob,o.owner≠.ofNat p
 wa:∀x∈d.wa,x.aQ≠.ofNat p
 lost:∃y,d.pl[p]?=some y/\y.f2=true
structure BdI (e n f w p:Nat)(c:Prop)(EL:List (List AV))(d:SD):Prop where
 len:EL.length<=e
 li:LI e n f w d
 cl:c->Cl p d
theorem BdI.mono {c c':Prop}(h:BdI e n f w p c EL d)(h1:e<=e')(h2:n<=n')(h3:f<=f')(h4:w<=w')(hc:c'->c):BdI e' n' f' w' p c' EL d:=⟨Nat.le_trans h.len h1,h.li.mono h1 h2 h3 h4,λx=>h.cl (hc x)⟩
variable {α:Type}
theorem take_succ {l:List α}{k:Nat}{x:α}(h:l[k]?=some x):l.take (k+1)=l.take k++[x]:=by
 rw[List.take_add_one,h];rfl
theorem drop_one {l:List α}{k:Nat}{x:α}(h:l[k]?=some x):l.drop k=x::l.drop (k+1):=by
 obtain⟨h1,rfl⟩:=List.getElem?_eq_some_iff.1 h
 exact List.drop_eq_getElem_cons h1
variable {x:Int}
theorem aaI {D:SD}(h:LI e n f w D)(he:e<=5000)(hx:x<D.nx):x<=1000000:=by
 have:=h.nx.2
 omega
theorem aeA {q:Nat}{D:SD}(h:LI e n f w D)(h5:f<=n){z:Int}{lst:List Int}{put:List Int->SD}(hz:D.ci z q=some (lst,put)):lst.length<=n/\∀o∈D.ob,o.owner=.ofNat q->o.ci=z->o.id∈lst:=by
 have nat:(Int.ofNat q).toNat=q:=rfl
 unfold SD.ci at hz
 split at hz
 ·cases hz
  refine⟨Nat.le_trans h.fi h5,λo ho hoq hoz=>?_⟩
  rcases h.lo o ho with⟨h1,h2⟩|⟨h1,_⟩|⟨h1,_⟩
  ·exact h2
  ·omega
  ·omega
 ·split at hz
  ·obtain⟨l,h1,h2⟩:=Option.map_eq_some_iff.1 hz
   cases h2
   refine⟨h.ls _ (.inl rfl) _<|List.mem_of_getElem? h1,λo ho hoq hoz=>?_⟩
   rcases h.lo o ho with⟨h3,_⟩|⟨h3,m,h4,h5⟩|⟨h3,_⟩
   ·omega
   ·rw[hoq,nat,h1]at h4
    cases h4
    exact h5
   ·omega
  ·split at hz
   ·obtain⟨l,h1,h2⟩:=Option.map_eq_some_iff.1 hz
    cases h2
    refine⟨h.ls _ (.inr<|.inl rfl) _<|List.mem_of_getElem? h1,λo ho hoq hoz=>?_⟩
    rcases h.lo o ho with⟨h3,_⟩|⟨h3,_⟩|⟨h3,_⟩<;>omega
   ·split at hz
    ·obtain⟨l,h1,h2⟩:=Option.map_eq_some_iff.1 hz
     cases h2
     refine⟨h.ls _ (.inr<|.inr<|.inl rfl) _<|List.mem_of_getElem? h1,λo ho hoq hoz=>?_⟩
     rcases h.lo o ho with⟨h3,_⟩|⟨h3,_⟩|⟨h3,m,h4,h5⟩
     ·omega
     ·omega
     ·rw[hoq,nat,h1]at h4
      cases h4
      exact h5
    ·split at hz
     ·obtain⟨l,h1,h2⟩:=Option.map_eq_some_iff.1 hz
      cases h2
      refine⟨h.ls _ (.inr<|.inr<|.inr rfl) _<|List.mem_of_getElem? h1,λo ho hoq hoz=>?_⟩
      rcases h.lo o ho with⟨h3,_⟩|⟨h3,_⟩|⟨h3,_⟩<;>omega
     ·cases hz
variable {q:LD->Bool}
theorem aei {D:SD}{k:Nat}(h:(dM q D n)[k]?=some x):∃p:Nat,x=.ofNat p/\p<n:=by
 obtain⟨p,hp,rfl⟩:=List.mem_map.1<|List.mem_of_getElem? h
 exact⟨p,rfl,List.mem_range.1 (List.mem_filter.1 hp).1⟩
theorem ae9 {D:SD}{o:LD}(hp:p<n)(ho:D.pl[p]?=some o)(h1:o.f2=false)(h2:q o=true):Int.ofNat p∈dM q D n:=by
 refine List.mem_map.2 ⟨p,List.mem_filter.2 ⟨List.mem_range.2 hp,?_⟩,rfl⟩
 unfold B8
 rw[ho]
 show(!o.f2&&q o)=true
 rw[h1,h2]
 rfl
theorem aeI (hP:uS C){e:Int}{D:SD}{x:AbT}(h:x∈abI k e D C id):x.o∈D.ob/\x.i=0:=by
 unfold abI at h
 split at h
 ·rename_i o ho
  split at h
  ·rename_i c hc
   unfold abO at h
   obtain⟨i,hi,hx⟩:=List.mem_filterMap.1 h
   split at hx
   ·split at hx
    ·cases hx
     have:=hP.R8 c<|List.mem_of_getElem? hc
     have:=List.mem_range.1 hi
     exact⟨(sT ho).choose_spec.2.2.2,by grind⟩
    ·cases hx
   ·cases hx
  ·cases h
 ·cases h
theorem aeJ (hP:uS C){e:Int}{D:SD}(id:Int):(abI k e D C id).length<=1:=by
 unfold abI
 split
 ·split
  ·rename_i c hc
   exact Nat.le_trans (abe ..)<|hP.R8 c<|List.mem_of_getElem? hc
  grind
 grind
theorem adX (hP:uS C){e:Int}{D:SD}(l:List Int):(C5 k e D C l).length<=l.length:=by
 unfold C5
 induction l with
 | nil=>grind
 | cons a l ih=>
  have:=aeJ hP (k:=k) (e:=e) (D:=D) a
  grind
theorem adu (hP:uS C){p:Int}{D:SD}:(qd id p (C5 3 2 D C (abj 2 D C))).length<=D.fi.length:=by
 unfold qd
 rw[List.length_map]
 exact Nat.le_trans (List.length_filter_le ..)<|Nat.le_trans (adX hP _)<|List.length_filter_le ..
theorem adt (hP:uS C){p:Int}{D:SD}{it:ID}{l:List Int}(h:it∈qd id p (C5 3 2 D C l)):∃o∈D.ob,it=⟨0,3,o.aQ,o.id,o.gE,0⟩:=by
 obtain⟨x,hx,rfl⟩:=List.mem_map.1 h
 obtain⟨y,hy,iI⟩:=List.mem_flatMap.1 (List.mem_filter.1 hx).1
 obtain⟨h1,h2⟩:=aeI hP iI
 exact⟨x.o,h1,by unfold l4;rw[h2];rfl⟩
def afS (F:Nat->FuncId)(T:Nat->TypeId):AC:=(oN [zm 59 0,zm 60 5,zo 61 (.iaddrS 3 59 60),zf 62 0 61,zl 63 62,zo 64 (.arith .rem 63 (.const (.int .u8 (.ofNat 7))))] (.block 2 (.seq (oN [zo 72 (.eql false .pi 64 (.const (.int .u8 (.ofNat 0)))),zm 71 72] (.cond 71 .skip (oN [zo 73 (.eql false .pi 64 (.const (.int .u8 (.ofNat 1)))),zm 71 73] (.cond 71 .skip (.ops [zo 74 (.eql false .pi 64 (.const (.int .u8 (.ofNat 2)))),zm 71 74]))))) (.cond 71 (.drawn 0 [zp (zm 75 3) 0,zp (zm 76 6) 0,zp (zm 77 0) 0,zp (zm 78 5) 0,zp (zo 79 (.iaddrS 3 77 78)) 12,zp (zf 80 2 79) 28,zr (zl 81 80) 0 0 60,zp (zo 82 (.arith .rem 81 (.const (.int .u8 (.ofNat 4))))) 124,zp (zo 83 (.convI .i64 82)) 252,zp (zm 84 0) 0,zp (zm 85 5) 0,zp (zo 86 (.iaddrS 3 84 85)) 1536,zp (zf 87 2 86) 3584,zr (zl 88 87) 0 0 7680,zp (zo 89 (.arith .quo 88 (.const (.int .u8 (.ofNat 4))))) 15872,zp (zo 90 (.arith .rem 89 (.const (.int .u8 (.ofNat 2))))) 32256,zp (zo 91 (.convI .i64 90)) 65024,zp (zo 92 (.build mB [⟨0,⟨1,(zc 1)⟩⟩,⟨1,⟨1,76⟩⟩,⟨2,⟨1,83⟩⟩,⟨3,⟨1,(zc 2)⟩⟩,⟨4,⟨1,91⟩⟩])) 131070,zh (oF F 93 15 [75,92]) 262143]) (oN [zo 95 (.eql false .pi 64 (.const (.int .u8 (.ofNat 3)))),zm 94 95] (.cond 94 (.ops [zm 96 3,zm 97 6,zm 98 0,zm 99 5,zo 100 (.iaddrS 3 98 99),zf 101 2 100,zl 102 101,zo 103 (.arith .rem 102 (.const (.int .u8 (.ofNat 25)))),zo 104 (.convI .i64 103),zo 105 (.un .neg 104),oF F 106 41 [(zc 7),97,105],oF F 107 15 [96,106]]) (oN [zo 109 (.eql false .pi 64 (.const (.int .u8 (.ofNat 4)))),zm 108 109] (.cond 108 (.ops [zm 110 3,zm 111 8,zm 112 0,zm 113 5,zo 114 (.iaddrS 3 112 113),zf 115 2 114,zl 116 115,zo 117 (.arith .rem 116 (.const (.int .u8 (.ofNat 3)))),zo 118 (.convI .i64 117),oF F 119 41 [(zc 5),111,118],oF F 120 15 [110,119]]) (oN [zo 122 (.eql false .pi 64 (.const (.int .u8 (.ofNat 5)))),zm 121 122] (.cond 121 (oN [zm 123 0,zm 124 5,zo 125 (.iaddrS 3 123 124),zf 126 2 125,zl 127 126,zo 128 (.arith .rem 127 (.const (.int .u8 (.ofNat 4)))),zo 129 (.eql false .pi 128 (.const (.int .u8 (.ofNat 0))))] (.cond 129 (.ops [zm 130 3,zm 131 6,oF F 132 41 [(zc 24),131,(zc 0)],oF F 133 15 [130,132]]) .skip)) (.ops [zm 65 3,zm 66 6,zm 67 8,zo 68 (.build uv [⟨1,⟨1,(zc 3)⟩⟩,⟨2,⟨1,66⟩⟩,⟨3,⟨1,67⟩⟩]),zo 69 (.build mB [⟨0,⟨1,(zc 17)⟩⟩,⟨6,⟨7,68⟩⟩]),oF F 70 15 [65,69]])))))))))))
def aib (F:Nat->FuncId)(T:Nat->TypeId):AC:=(oN [zm 35 0,zm 36 5,zo 37 (.iaddrS 3 35 36),zf 38 1 37,zl 39 38,zo 40 (.arith .rem 39 (.const (.int .u8 (.ofNat 3)))),zo 41 (.convI .i64 40),zm 6 41] (oN [zm 42 3,oF F 43 36 [42,(zc 2),(zc 0)],zm 7 43] (oN [zo 8 (.mv (zc 0))] (.seq (oN [zm 44 7,zo 45 (.lenS 44),zo 46 (.arith .gtr 45 (zc 0))] (.cond 46 (.ops [zm 47 7,zm 48 0,zm 49 5,zo 50 (.iaddrS 3 48 49),zf 51 1 50,zl 52 51,zo 53 (.convI .i64 52),zm 54 7,zo 55 (.lenS 54),zo 56 (.arith .rem 53 55),zo 57 (.iaddrS 1 47 56),zl 58 57,zm 8 58]) .skip)) (afS F T)))))
def aic (F:Nat->FuncId)(T:Nat->TypeId):AC:=(.seq (oN [zm 25 5,zm 26 0,zo 27 (.lenS 26),zo 28 (.arith .lss 25 27),zm 29 28,zg 30 (.mv 5) 29 true,zg 31 (.arith .lss 30 (zc 30)) 29 true,zo 32 (.pick 29 31 (.const (.bool false)))] (.cond 32 .skip (.exit 0))) (.seq (.block 1 (aib F T)) (.ops [zm 33 5,zo 34 (.arith .add 33 (zc 1)),zm 5 34])))
def aeE (F:Nat->FuncId)(T:Nat->TypeId):AC:=(.seq (oN [zo 5 (.mv (zc 0))] (.block 0 (.loop (aic F T)))) (oN [zm 134 3,zm 2 134] .ret))
structure BtL (cv:AV)(L:List (List AV))(t:SH):Prop where
 len:lenOf cv=some L.length
 at':0<L.length->∃rb cap sl,cv=.slice (some ⟨rb,0,0⟩) L.length cap sl 3/\Has rb (.r true L 3) t
 b:∀i,i<L.length->∃x y z:Nat,x<=255/\y<=255/\z<=255/\L[i]?=some [.int .u8 (.ofNat x),.int .u8<|.ofNat y,.int .u8<|.ofNat z]
structure HpI (i:Nat)(EL:List (List AV))(D:SD):Prop where
 bd:BdI i (4+i) i i 0 False EL D
 oc:D.oc=0
 pl:∀p,p<3->∃o,D.pl[p]?=some o/\o.f2=false/\-999<=o.life/\o.life<=999
 hu:∀o∈D.ob,-999<=o.hurt/\o.hurt<=999
theorem HpI.mono {k:Nat}{D:SD}(h:HpI i EL D)(hk:i<=k):HpI k EL D:=⟨h.bd.mono (by omega) (by omega) (by omega) (by omega) (λx=>x),h.oc,h.pl,h.hu⟩
theorem HpI.succ {D:SD}(h:HpI i EL D):HpI (i+1) EL D:=⟨h.bd.mono (by omega) (by omega) (by omega) (by omega) (λx=>x),h.oc,h.pl,h.hu⟩
theorem aep {D:SD}{o o':LD}(h:∀p,p<3->∃o,D.pl[p]?=some o/\o.f2=false/\-999<=o.life/\o.life<=999)(ho:D.pl[p]?=some o)(h2:o'.f2=false)(h3:-999<=o'.life/\o'.life<=999):∀q,q<3->∃o,(D.pl.set p o')[q]?=some o/\o.f2=false/\-999<=o.life/\o.life<=999:=λq hq=>by
 grind
variable {D:SD}
theorem abh (hN:BaseN P K F T)(h50:Ty P (T 50) 13){n:Int}:bB P K (F 41) [iv k,iv a,iv n] s (λv s'=>v=.agg (evRow k a 0 n 0 l5)/\∃m,s'=m++s):=by
 refine hN.f41.cF ?_
 unfold a41
 refine Vk (k:=λb6=>Wn<|Vk (k:=Wr (.build (cs:=evRow k a 0 n 0 l5) rfl rfl)<|Ww<|Wt (s':=(b6,.r false [evRow k a 0 n 0 l5] 13)::_) rfl rfl rfl .here rfl rfl<|Wn<|We<|Wm (.cell rfl h50.1 h50.2 (.inl rfl) .here rfl rfl rfl .nil) ?_))
 exact⟨rfl,[_],rfl⟩
structure agA (P:Program)(K:Orc)(F:Nat->FuncId)(bf bl:Nat)(t:SH)(i:Nat)(EL:List (List AV))(D:SD)(p:Nat)(id:Int):Prop where
 new:∀(c m:Nat)(j:SH)s,c<4->m<2->aH bl EL D (j++t) s->bB P K (F 15) [.ptr (some ⟨bf,0,0⟩),.agg<|evRow 1 (.ofNat p) (.ofNat c) 2 (.ofNat m) l5] s (λ_ s'=>∃E2 D2,HpI (i+1) E2 D2/\aH bl E2 D2 (j++t) s')
 life:∀(n:Int)(j:SH)s,-24<=n->n<=0->aH bl EL D (j++t) s->bB P K (F 15) [.ptr (some ⟨bf,0,0⟩),.agg<|evRow 7 (.ofNat p) 0 n 0 l5] s (λ_ s'=>∃E2 D2,HpI (i+1) E2 D2/\aH bl E2 D2 (j++t) s')
 hurt:∀(n:Nat)(j:SH)s,n<=2->aH bl EL D (j++t) s->bB P K (F 15) [.ptr (some ⟨bf,0,0⟩),.agg<|evRow 5 id 0 (.ofNat n) 0 l5] s (λ_ s'=>∃E2 D2,HpI (i+1) E2 D2/\aH bl E2 D2 (j++t) s')
 empty:∀(j:SH)s,aH bl EL D (j++t) s->bB P K (F 15) [.ptr (some ⟨bf,0,0⟩),.agg<|evRow 24 (.ofNat p) 0 0 0 l5] s (λ_ s'=>∃E2 D2,HpI (i+1) E2 D2/\aH bl E2 D2 (j++t) s')
 wait:∀(j:SH)s,aH bl EL D (j++t) s->bB P K (F 15) [.ptr (some ⟨bf,0,0⟩),.agg<|evRow 17 0 0 0 0 ⟨0,3,.ofNat p,id,0,0⟩] s (λ_ s'=>∃E2 D2,HpI (i+1) E2 D2/\aH bl E2 D2 (j++t) s')
theorem aci (L:LEnv P K F T tF)(hf:Has bf (.r false [bu bl aZ 60 c1 c2 c3 c4 bE] 8) t)(hi:i<=30)(hp:p<3)(h:HpI i EL D)(j:SH)(s:SH)(hs:aH bl EL D (j++t) s) :
  bB P K (F 15) [.ptr (some ⟨bf,0,0⟩),.agg<|evRow 24 (.ofNat p) 0 0 0 l5] s (λ_ s'=>∃E2 D2,(HpI (i+1) E2 D2/\(∀r,BdI (i+1) (4+i) i i r False E2 D2)/\∃o,D2.pl[p]?=some o/\o.f2=false/\o.f3=true)/\aH bl E2 D2 (j++t) s'):=by
 obtain⟨o,ho,h2,h3⟩:=h.pl p hp
 have gK:=h.bd.li.small (by omega) (by omega)<|by omega
 refine(kM L.hB hs gK (.app hf) (Nat.le_trans h.bd.len<|by omega) (by decide) (by decide) (by decide) (by decide) (ab6 L.hB L.hL.f264 L.hR gK h.bd.li.ev ho (L.says.empty p · hp))).post ?_
 rintro _ s2 ⟨_,dt⟩
 have hlen:(EL++[evRow 24 (.ofNat p) 0 0 0 l5]).length<=i+1:=by
  rw[List.length_append]
  exact Nat.add_le_add_right h.bd.len 1
 have hO:=h.bd.li.other (pl:=D.pl.set p { o with f3:=true }) ((List.length_set ..).trans h.bd.li.pl) (oc:=D.oc) (wi:=D.wi)
 exact⟨_,_,⟨⟨⟨hlen,hO.mono (by omega) (by omega) (by omega)<|by omega,λx=>x.elim⟩,h.oc,aep h.pl ho h2 h3,h.hu⟩,λr=>⟨hlen,hO.mono (by omega) (by omega) (by omega)<|by omega,λx=>x.elim⟩,_,List.getElem?_set_self (List.getElem?_eq_some_iff.1 ho).1,h2,rfl⟩,dt⟩
theorem ad8 (L:LEnv P K F T tF)(hf:Has bf (.r false [bu bl aZ 60 c1 c2 c3 c4 bE] 8) t)(hi:i<30)(hp:p<3)(hid:id=0\/id∈D.fi)(h:HpI i EL D):agA P K F bf bl t i EL D p id where
 new c m j s hc hm hs:=by
  have gK:=h.bd.li.small (by omega) (by omega)<|by omega
  have zF:=h.bd.li.ob
  have YI:=h.bd.li.nx
  have hsp:=h.bd.li.sp
  obtain⟨hN,uA,P0⟩:=h.bd.li.new hp hc<|.ofNat m
  refine(ach L.hB hs gK (.app hf) (Nat.le_trans h.bd.len<|by omega) (by rw[du];exact decide_eq_true<|show((D.ob.length:Nat):Int)<60 by omega) (ad0 L.hB gK h.bd.li.ev (by rw[h.bd.li.pl];exact hp) ⟨by omega,by omega⟩ ⟨by omega,by omega⟩ (L.says.new p c (.ofNat m) · hp hc (by rcases(by omega:m=0\/m=1)with rfl | rfl<;>simp))) (hN.small (by omega) (by omega)<|by omega) ⟨hN.nx.1,by have:=hN.nx.2;omega⟩).post ?_
  rintro _ s2 ⟨_,dt⟩
  refine⟨_,_,⟨⟨?_,hN.mono (by omega) (by omega) (by omega)<|by omega,λx=>x.elim⟩,P0.trans h.oc,λq hq=>by rw[uA];exact h.pl q hq,λo ho=>?_⟩,dt⟩
  ·rw[List.length_append]
   exact Nat.add_le_add_right h.bd.len 1
  ·rcases List.mem_append.1 (show o∈D.ob++[(pY p (.ofNat c) 2<|.ofNat m).new2 D.nx D.sp]from ho)with ho | ho
   ·exact h.hu o ho
   ·rw[List.mem_singleton.1 ho]
    exact(by decide:-999<=(0:Int)/\(0:Int)<=999)
 life n j s hn hn2 hs:=by
  obtain⟨o,ho,h2,h3⟩:=h.pl p hp
  have gK:=h.bd.li.small (by omega) (by omega)<|by omega
  refine(kM L.hB hs gK (.app hf) (Nat.le_trans h.bd.len<|by omega) (by decide) (by decide) (by decide) (by decide) (ac5 L.hB L.hL.f264 L.hR gK h.bd.li.ev ho (by omega) (L.says.life p n · hp hn hn2))).post ?_
  rintro _ s2 ⟨_,dt⟩
  refine⟨_,_,⟨⟨?_,(h.bd.li.other (pl:=D.pl.set p { o with life:=oP (o.life+n) }) ((List.length_set ..).trans h.bd.li.pl) (oc:=D.oc) (wi:=D.wi)).mono (by omega) (by omega) (by omega) (by omega),λx=>x.elim⟩,h.oc,aep h.pl ho h2<|abb _,h.hu⟩,dt⟩
  rw[List.length_append]
  exact Nat.add_le_add_right h.bd.len 1
 hurt n j s hn hs:=by
  have gK:=h.bd.li.small (by omega) (by omega)<|by omega
  rcases hid with rfl|hid
  ·refine(aeR L.hB hs gK (.app hf) (by decide) (c:=2) (by decide) (L.says.hurt0 (.ofNat n) · (Int.natCast_nonneg _) (by show((n:Nat):Int)<=2;omega))).post ?_
   rintro _ s2 ⟨_,dt⟩
   exact⟨_,_,h.succ,dt⟩
  ·obtain⟨o,hin,rfl,hz⟩:=h.bd.li.on id hid
   obtain⟨q,hq,hoq,_,_⟩:=sT<|aai h.bd.li.nd hin
   have hI:=h.bd.li.o o hin
   have hh:=h.hu o hin
   refine(kM L.hB hs gK (.app hf) (Nat.le_trans h.bd.len<|by omega) (by decide) (by decide) (by decide) (by decide) (ac7 (k:=5) (g:=253) (o':={ o with hurt:=oP (o.hurt+.ofNat n) }) L.hB L.hX gK h.bd.li.ev (by omega) hq hoq hz (λhu hr=>acm L.hR (by show _<=o.hurt+(n:Int)/\o.hurt+(n:Int)<=_;omega) hu hr) (L.says.hurt o.id (.ofNat n) · hI.i1 (aaI h.bd.li (by omega) hI.i2) (Int.natCast_nonneg _) (by show((n:Nat):Int)<=2;omega)))).post ?_
   rintro _ s2 ⟨_,dt⟩
   refine⟨_,_,⟨⟨?_,(h.bd.li.aja hoq _).mono (by omega) (by omega) (by omega) (by omega),λx=>x.elim⟩,h.oc,h.pl,λo2 uY=>?_⟩,dt⟩
   ·rw[List.length_append]
    exact Nat.add_le_add_right h.bd.len 1
   ·rcases List.mem_or_eq_of_mem_set uY with uY | rfl
    ·exact h.hu o2 uY
    ·exact abb _
 empty j s hs:=(aci L hf (by omega) hp h j s hs).post λ_ s'⟨E2,D2,h1,h2⟩=>⟨E2,D2,h1.1,h2⟩
 wait j s hs:=by
  have gK:=h.bd.li.small (by omega) (by omega)<|by omega
  have YI:=h.bd.li.nx
  have hb:0<=id/\id<=1000000:=by
   rcases hid with rfl|hid
   ·decide
   ·obtain⟨o,hin,rfl,hz⟩:=h.bd.li.on id hid
    have hI:=h.bd.li.o o hin
    have:=hI.i1
    exact⟨by omega,aaI h.bd.li (by omega) hI.i2⟩
  have hW:=h.bd.li.wait ⟨0,3,.ofNat p,id,0,0⟩ ⟨rfl,⟨Int.natCast_nonneg _,by show((p:Nat):Int)<=2;omega⟩,⟨by show -1<=id;omega,hb.2⟩,⟨Int.le_refl _,by show(0:Int)<=3;decide⟩,⟨Int.le_refl _,by show(0:Int)<=3;decide⟩⟩
  refine(aaq L.hB hs gK (.app hf) (Nat.le_trans h.bd.len<|by omega) (aaY L.hB L.it gK h.bd.li.ev ⟨by omega,by omega⟩ (L.says.wait _ _ _ _ · ⟨Int.natCast_nonneg _,by show((p:Nat):Int)<=2;omega⟩ hb (by decide) (by decide))) (hW.small (by omega) (by omega)<|by omega) ⟨hW.nx.1,show D.nx+1<=1000000 by omega⟩).post ?_
  rintro _ s2 ⟨_,dt⟩
  refine⟨_,_,⟨⟨?_,hW.mono (by omega) (by omega) (by omega)<|by omega,λx=>x.elim⟩,h.oc,h.pl,h.hu⟩,dt⟩
  rw[List.length_append]
  exact Nat.add_le_add_right h.bd.len 1
theorem ahx {a b:Nat}(h:a<=255)(hb:0<b):binV .quo (.int .u8 (.ofNat a)) (.int .u8 (.ofNat b))=some (.int .u8 (.ofNat (a/b))):=by
 cases b with
 | zero=>omega
 | succ b=>
  show force (Nat.mod (Nat.div a<|b+1) 256) (λm=>some<|AV.int .u8<|.ofNat m)=_
  rw[aL,show Nat.mod (Nat.div a<|b+1) 256=a/(b+1)from Nat.mod_eq_of_lt<|Nat.lt_of_le_of_lt (Nat.div_le_self ..)<|by omega]
theorem ahr (h:n<=1000):unV .neg (iv (.ofNat n))=some (iv (-(n:Int))):=by
 cases n with
 | zero=>rfl
 | succ m=>
  show(match Nat.ble m 9223372036854775807 with | true=>force m λm=>some (AV.int .i64<|.negSucc m) | false=>some<|AV.int .i64<|IntKind.wrap .i64<|.negSucc m)=_
  rw[Nat.ble_eq_true_of_le (by omega)]
  exact aL _ _
theorem agi:binV .lss (iv (.ofNat n)) (iv 30)=some (.bool (decide (n<30))):=by
 by_cases h:n<30
 ·rw[decide_eq_true h]
  exact ij (b:=30) h
 ·rw[decide_eq_false h]
  exact d5 (b:=30) h
variable {LL:List (List AV)}
theorem acO (L:LEnv P K F T tF)(h50:Ty P (T 50) 13){rb len cap:Nat}{sl:Bool}{x y z:Nat}(hlen:LL.length=len)(hi:i<len)(hz:z<=255)(T7:LL[i]?=some [.int .u8 (.ofNat x),.int .u8 (.ofNat y),.int .u8 (.ofNat z)]){j:SH}(hrb:Has rb (.r true LL 3) t)(hs:aH bl EL D (j++t) s)(hH:agA P K F bf bl t i EL D p id)(h0:HpI i EL D)
  (hl:∀q w,lk [(0,.slice (some ⟨rb,0,0⟩) len cap sl 3),(3,.ptr<|some ⟨bf,0,0⟩),(5,iv<|.ofNat i),(6,iv<|.ofNat p),(8,iv id)] q=some w->lk l q=some w)
  (hk:∀l2 s2 E2 D2 j2,HpI (i+1) E2 D2->aH bl E2 D2 (j2++t) s2->(∀q w,lk [(0,.slice (some ⟨rb,0,0⟩) len cap sl 3),(3,.ptr<|some ⟨bf,0,0⟩),(5,iv<|.ofNat i)] q=some w->lk l2 q=some w)->Qn l2 [] s2):WP P K none 135 (afS F T) l [] s Qn Qe Qr:=by
 refine Wg hl (λ_ _ h=>h) ?_
 have hrow:LL[0+i]?=some [.int .u8 (.ofNat x),.int .u8<|.ofNat y,.int .u8<|.ofNat z]:=by rw[Nat.zero_add];exact T7
 have adp:Has rb (.r true LL 3) s:=hs.mem<|.app hrb
 have h7:binV .rem (.int .u8<|.ofNat x) (.int .u8<|.ofNat 7)=some (.int .u8<|.ofNat<|x%7):=yi<|by omega
 have r7:x%7=0\/x%7=1\/x%7=2\/x%7=3\/x%7=4\/x%7=5\/x%7=6:=by omega
 generalize x%7=r at h7 r7
 have z4:binV .rem (.int .u8<|.ofNat z) (.int .u8<|.ofNat 4)=some (.int .u8<|.ofNat<|z%4):=yi<|by omega
 have b4:z%4<4:=Nat.mod_lt _<|by omega
 rcases r7 with rfl|rfl|rfl|rfl|rfl|rfl|rfl
 rotate_right
 ·-- agw waits
  refine Wq<|W (k:=Wn<|Wb ?_)
  refine Ws<|Wq<|W (k:=Wn<|Wd rfl fS<|λ_=>?_)
  refine Wq<|Wh (b:=false) rfl rfl rfl<|Wv rfl<|Wn<|Wd rfl fS<|λ_=>Wo<|Wh (b:=false) rfl rfl rfl<|Wv rfl<|Wn<|Wd rfl fS<|λ_=>?_
  refine Wq<|W (k:=Wn<|Wd rfl fS<|λ_=>?_)
  refine Wq<|W (k:=Wn<|Wd rfl fS<|λ_=>?_)
  refine Wq<|Wh (b:=false) rfl rfl rfl<|Wv rfl<|Wn<|Wd rfl fS<|λ_=>Wo<|Wv rfl<|Wv rfl<|Wv rfl<|Wr (.build rfl rfl)<|Wr (.build (cs:=evRow 17 0 0 0 0 ⟨0,3,.ofNat p,id,0,0⟩) rfl rfl) ?_
  refine Ww<|W1 (hH.wait j s hs) ?_
  rintro _ s2 ⟨E2,D2,h2,dt⟩
  refine Wn ?_
  exact hk _ _ E2 D2 j h2 dt<|bX rfl
 rotate_right
 ·-- ahz drew of nothing
  generalize z%4=q at z4 b4
  by_cases hq:q=0
  ·subst hq
   refine Wq<|W (k:=Wn<|Wb ?_)
   refine Ws<|Wq<|W (k:=Wn<|Wd rfl fS<|λ_=>?_)
   refine Wq<|Wh (b:=false) rfl rfl rfl<|Wv rfl<|Wn<|Wd rfl fS<|λ_=>Wo<|Wh (b:=false) rfl rfl rfl<|Wv rfl<|Wn<|Wd rfl fS<|λ_=>?_
   refine Wq<|W (k:=Wn<|Wd rfl fS<|λ_=>?_)
   refine Wq<|W (k:=Wn<|Wd rfl fS<|λ_=>?_)
   refine Wq<|W (k:=Wn<|Wd rfl (λ_=>?_) Dz)
   refine Wq<|Wv rfl<|Wv rfl<|Wr (.iaddrS rfl rfl (by omega)<|by decide)<|Wf rfl<|Wl rfl adp hrow rfl rfl<|Wj rfl rfl z4<|Wh (b:=true) rfl rfl rfl<|Wn<|Wd rfl (λ_=>Wo<|Wv rfl<|Wv rfl ?_) Dz
   refine Ww<|W1 (abh L.hN h50) ?_
   rintro _ _ ⟨rfl,m,rfl⟩
   refine Ww<|W1 (hH.empty j _ hs.bK) ?_
   rintro _ s2 ⟨E2,D2,h2,dt⟩
   refine Wn ?_
   exact hk _ _ E2 D2 _ h2 dt<|bX rfl
  ·have e1:eqBy 20 .pi (.int .u8<|.ofNat q) (.int .u8<|.ofNat 0)=some false:=by rw[agU,decide_eq_false<|show¬Int.ofNat q=Int.ofNat 0 fromλh=>hq<|Int.ofNat.inj h]
   refine Wq<|W (k:=Wn<|Wb ?_)
   refine Ws<|Wq<|W (k:=Wn<|Wd rfl fS<|λ_=>?_)
   refine Wq<|Wh (b:=false) rfl rfl rfl<|Wv rfl<|Wn<|Wd rfl fS<|λ_=>Wo<|Wh (b:=false) rfl rfl rfl<|Wv rfl<|Wn<|Wd rfl fS<|λ_=>?_
   refine Wq<|W (k:=Wn<|Wd rfl fS<|λ_=>?_)
   refine Wq<|W (k:=Wn<|Wd rfl fS<|λ_=>?_)
   refine Wq<|W (k:=Wn<|Wd rfl (λ_=>?_) Dz)
   refine Wq<|W (k:=Wn<|Wd rfl fS<|λ_=>Wi ?_)
   exact hk _ _ EL D j h0.succ hs<|bX rfl
 rotate_right
 ·-- a ajV is ajb
  have b3:z%3<3:=Nat.mod_lt _<|by omega
  have z3:binV .rem (.int .u8<|.ofNat z) (.int .u8<|.ofNat 3)=some (.int .u8<|.ofNat<|z%3):=yi<|by omega
  have i3:mkI .i64 (.ofNat<|z%3)=some (iv<|.ofNat<|z%3):=tD<|by omega
  generalize z%3=q at z3 b3 i3
  refine Wq<|W (k:=Wn<|Wb ?_)
  refine Ws<|Wq<|W (k:=Wn<|Wd rfl fS<|λ_=>?_)
  refine Wq<|Wh (b:=false) rfl rfl rfl<|Wv rfl<|Wn<|Wd rfl fS<|λ_=>Wo<|Wh (b:=false) rfl rfl rfl<|Wv rfl<|Wn<|Wd rfl fS<|λ_=>?_
  refine Wq<|W (k:=Wn<|Wd rfl fS<|λ_=>?_)
  refine Wq<|Wh (b:=true) rfl rfl rfl<|Wv rfl<|Wn<|Wd rfl (λ_=>Wo<|Wv rfl<|Wv rfl<|Wv rfl<|Wv rfl<|Wr (.iaddrS rfl rfl (by omega)<|by decide)<|Wf rfl<|Wl rfl adp hrow rfl rfl<|Wj rfl rfl z3<|Wr (.convI rfl i3) ?_) Dz
  refine Ww<|W1 (abh L.hN h50) ?_
  rintro _ _ ⟨rfl,m,rfl⟩
  refine Ww<|W1 (hH.hurt q j _ (by omega) hs.bK) ?_
  rintro _ s2 ⟨E2,D2,h2,dt⟩
  refine Wn ?_
  exact hk _ _ E2 D2 _ h2 dt<|bX rfl
 rotate_right
 ·-- agm life is less
  have b3:z%25<25:=Nat.mod_lt _<|by omega
  have z3:binV .rem (.int .u8<|.ofNat z) (.int .u8<|.ofNat 25)=some (.int .u8<|.ofNat<|z%25):=yi<|by omega
  have i3:mkI .i64 (.ofNat<|z%25)=some (iv<|.ofNat<|z%25):=tD<|by omega
  generalize z%25=q at z3 b3 i3
  have n3:=ahr (n:=q)<|by omega
  obtain⟨w,hw⟩:∃w:Int,w=-(q:Int):=⟨_,rfl⟩
  rw[<- hw]at n3
  refine Wq<|W (k:=Wn<|Wb ?_)
  refine Ws<|Wq<|W (k:=Wn<|Wd rfl fS<|λ_=>?_)
  refine Wq<|Wh (b:=false) rfl rfl rfl<|Wv rfl<|Wn<|Wd rfl fS<|λ_=>Wo<|Wh (b:=false) rfl rfl rfl<|Wv rfl<|Wn<|Wd rfl fS<|λ_=>?_
  refine Wq<|Wh (b:=true) rfl rfl rfl<|Wv rfl<|Wn<|Wd rfl (λ_=>Wo<|Wv rfl<|Wv rfl<|Wv rfl<|Wv rfl<|Wr (.iaddrS rfl rfl (by omega)<|by decide)<|Wf rfl<|Wl rfl adp hrow rfl rfl<|Wj rfl rfl z3<|Wr (.convI rfl i3)<|Wr (.un rfl n3) ?_) Dz
  refine Ww<|W1 (abh L.hN h50) ?_
  rintro _ _ ⟨rfl,m,rfl⟩
  refine Ww<|W1 (hH.life w j _ (by omega) (by omega) hs.bK) ?_
  rintro _ s2 ⟨E2,D2,h2,dt⟩
  refine Wn ?_
  exact hk _ _ E2 D2 _ h2 dt<|bX rfl
 all_goals
  have key:∀(Qe2:Nat->Po)(l2:Sl),(∀q w,lk [(0,.slice (some ⟨rb,0,0⟩) len cap sl 3),(3,.ptr<|some ⟨bf,0,0⟩),(5,iv<|.ofNat i),(6,iv<|.ofNat p),(71,.bool true)] q=some w->lk l2 q=some w)->WP P K none 135 (pt (afS F T) [1,0,1]) l2 [] s Qn Qe2 Qr:=by
   intro Qe2 l2 h2
   refine Wg h2 (λ_ _ h=>h) ?_
   have b2:z/4%2<2:=Nat.mod_lt _<|by omega
   have i4:mkI .i64 (.ofNat<|z%4)=some (iv<|.ofNat<|z%4):=tD<|by omega
   have q4:=ahx (a:=z) (b:=4) hz<|by omega
   have z2:binV .rem (.int .u8<|.ofNat<|z/4) (.int .u8<|.ofNat 2)=some (.int .u8<|.ofNat<|z/4%2):=yi<|by omega
   have i2:mkI .i64 (.ofNat<|z/4%2)=some (iv<|.ofNat<|z/4%2):=tD<|by omega
   generalize z%4=c at z4 b4 i4
   generalize z/4%2=m at z2 b2 i2
   refine Wd rfl (λ_=>WP.bD<|Dp (.mv rfl)<|Dp (.mv rfl)<|Dp (.mv rfl)<|Dp (.mv rfl)<|Dp (.iaddrS rfl rfl (by omega)<|by decide)<|Dp (.faddr rfl)<|Dl rfl .nil (.load rfl adp hrow rfl rfl)<|Dp (.arith rfl rfl z4)<|Dp (.convI rfl i4)<|Dp (.mv rfl)<|Dp (.mv rfl)<|Dp (.iaddrS rfl rfl (by omega)<|by decide)<|Dp (.faddr rfl)<|Dl rfl .nil (.load rfl adp hrow rfl rfl)<|Dp (.arith rfl rfl q4)<|Dp (.arith rfl rfl z2)<|Dp (.convI rfl i2)<|Dp (.build (cs:=evRow (Int.ofNat 1) (Int.ofNat p) (Int.ofNat c) (Int.ofNat 2) (Int.ofNat m) l5) rfl rfl) ?_) Dz
   refine Dc .nil<|W1 (hH.new c m j s b4 b2 hs) ?_
   rintro _ s2 ⟨E2,D2,h2,dt⟩
   refine D0 .nil ?_<|λo h=>nomatch h
   exact hk _ _ E2 D2 _ h2 dt<|bX rfl
  refine Wq<|W (k:=Wn<|Wb ?_)
 ·refine Ws (Wq<|W (k:=Wn<|Wd rfl (λ_=>Wi ?_) Dz))
  exact key _ _<|bX rfl
 ·refine Ws (Wq<|W (k:=Wn<|Wd rfl fS<|λ_=>?_))
  refine Wq<|W (k:=Wn<|Wd rfl (λ_=>Wi ?_) Dz)
  exact key _ _<|bX rfl
 ·refine Ws (Wq<|W (k:=Wn<|Wd rfl fS<|λ_=>?_))
  refine Wq<|W (k:=Wn<|Wd rfl fS<|λ_=>?_)
  refine Wo<|W (k:=Wn ?_)
  exact key _ _<|bX rfl
theorem aeU (L:LEnv P K F T tF)(h50:Ty P (T 50) 13){lv:AV}(hL:BtL lv LL t)(hf:Has bf (.r false [bu bl aZ 60 c1 c2 c3 c4 bE] 8) t)(hs:aH bl EL D t s)(h0:HpI 0 EL D)
  (hl:∀q w,lk [(0,lv),(3,.ptr<|some ⟨bf,0,0⟩)] q=some w->lk l q=some w)
  (hk:∀l2 s2 E2 D2,HpI 30 E2 D2->aH bl E2 D2 t s2->lk l2 2=some (.ptr<|some ⟨bf,0,0⟩)->Qr l2 [] s2):WP P K none 135 (aeE F T) l [] s Qn Qe Qr:=by
 refine Wg hl (λ_ _ h=>h) ?_
 refine Ws<|Wq<|Wv rfl<|Wn<|Wb ?_
 refine Wp (λk l ds s'=>ds=[]/\∃q E2 D2 j,k=30-q/\q<=30/\q<=LL.length/\HpI q E2 D2/\aH bl E2 D2 (j++t) s'/\∀i w,lk [(0,lv),(3,.ptr<|some ⟨bf,0,0⟩),(5,iv<|.ofNat q)] i=some w->lk l i=some w) ?_ (n:=30-0)
  ⟨rfl,0,EL,D,[],rfl,Nat.zero_le _,Nat.zero_le _,h0,hs,bX rfl⟩
 rintro k l ds s' ⟨rfl,q,E2,D2,j,rfl,hq,hqL,hH,hs',hl⟩
 refine Wg hl (λ_ _ h=>h) ?_
 have hlen:=hL.len
 have fin:∀{l2:Sl},(∀i w,lk [(0,lv),(3,.ptr<|some ⟨bf,0,0⟩),(5,iv<|.ofNat q)] i=some w->lk l2 i=some w)->WP P K none 135 (oN [zm 134 3,zm 2 134] .ret) l2 [] s' Qn Qe Qr:=by
  intro l2 h2
  refine Wg h2 (λ_ _ h=>h) ?_
  refine Wq<|W (k:=Wn<|We ?_)
  exact hk _ _ E2 D2 (hH.mono hq) hs'.fb rfl
 have e1:=agi (n:=q)
 by_cases hlt:q<LL.length
 rotate_left
 ·have e0:=d5 hlt
  refine Ws<|Wq<|W (k:=Wn<|Wd rfl fS<|λ_=>Wx ?_)
  exact fin<|bX rfl
 have e0:=ij hlt
 by_cases h30:q<30
 rotate_left
 ·rw[decide_eq_false h30]at e1
  refine Ws<|Wq<|W (k:=Wn<|Wd rfl fS<|λ_=>Wx ?_)
  exact fin<|bX rfl
 rw[decide_eq_true h30]at e1
 obtain⟨x,y,z,hx,hy,hz,hrow⟩:=hL.b q hlt
 obtain⟨rb,cap,sl,rfl,hrb⟩:=hL.at'<|by omega
 have ahf:LL[0+q]?=some [.int .u8 (.ofNat x),.int .u8<|.ofNat y,.int .u8<|.ofNat z]:=by rw[Nat.zero_add];exact hrow
 have adp:Has rb (.r true LL 3) s':=hs'.mem<|.app hrb
 have b3:y%3<3:=Nat.mod_lt _<|by omega
 have z3:binV .rem (.int .u8<|.ofNat y) (.int .u8<|.ofNat 3)=some (.int .u8<|.ofNat<|y%3):=yi<|by omega
 have i3:mkI .i64 (.ofNat<|y%3)=some (iv<|.ofNat<|y%3):=tD<|by omega
 generalize y%3=p at z3 b3 i3
 have gK:=hH.bd.li.small (by omega) (by omega)<|by omega
 have nxt:∀{l9:Sl}{s9:SH}{E9:List (List AV)}{D9:SD}{j9:SH},HpI (q+1) E9 D9->aH bl E9 D9 (j9++t) s9->(∀i w,lk [(0,.slice (some ⟨rb,0,0⟩) LL.length cap sl 3),(3,.ptr<|some ⟨bf,0,0⟩),(5,iv<|.ofNat<|q+1)] i=some w->lk l9 i=some w) ->
   ∃m',m'<30-q/\(([]:List aD)=[]/\∃q E2 D2 j,m'=30-q/\q<=30/\q<=LL.length/\HpI q E2 D2/\aH bl E2 D2 (j++t) s9/\∀i w,lk [(0,.slice (some ⟨rb,0,0⟩) LL.length cap sl 3),(3,.ptr<|some ⟨bf,0,0⟩),(5,iv<|.ofNat q)] i=some w->lk l9 i=some w):=
  λh1 h2 h3=>⟨30-(q+1),by omega,rfl,q+1,_,_,_,rfl,h30,hlt,h1,h2,h3⟩
 refine Ws<|Wq<|W (k:=Wn<|Wd rfl (λ_=>Wi ?_) Dz)
 refine Ws<|Wb<|Wq<|W (k:=Wn ?_)
 refine Wq<|Wv rfl ?_
 refine Ww<|W1 (Gf L.hB L.hC hs' gK<|.app hf) ?_
 rintro v7 s2 ⟨m,dt,hS⟩
 have hlv:=hS.lenOf
 rw[gq]at hlv
 by_cases hn:0<D2.fi.length
 ·have e4:=agY hn
  have i7:mkI .i64 (.ofNat y)=some (iv<|.ofNat y):=tD<|by omega
  have r7:binV .rem (iv<|.ofNat y) (iv<|.ofNat D2.fi.length)=some (iv<|.ofNat<|y%D2.fi.length):=yi hn
  have aeZ:y%D2.fi.length<D2.fi.length:=Nat.mod_lt _ hn
  generalize y%D2.fi.length=u at r7 aeZ
  obtain⟨ba,ra,na,ca,J5,Sp,Ma,rfl,hba,me,hra⟩:=hS.at (i:=u) (by rw[gq];exact aeZ)
  have iI:D2.fi[u]?=some (D2.fi[u]'(aeZ)):=List.getElem?_eq_getElem _
  generalize D2.fi[u]'(aeZ)=id at iI
  have ahg:Ma[ra+u]?=some [iv id]:=by rw[hra,nR,List.getElem?_map,iI];rfl
  have af1:Has ba (.r Sp Ma 1) s2:=dt.mem<|.left hba
  have ajA:Has rb (.r true LL 3) s2:=dt.mem<|.app<|.app hrb
  refine Wv rfl<|Wn<|Wq<|Wv rfl<|Wn<|Ws<|Wq<|Wv rfl<|Wr (.lenS rfl hlv)<|Wj rfl rfl e4<|Wn<|Wd rfl (λ_=>Wo<|Wv rfl<|Wv rfl<|Wv rfl<|Wr (.iaddrS rfl rfl (by omega)<|by decide)<|Wf rfl<|Wl rfl ajA ahf rfl rfl<|Wr (.convI rfl i7)<|Wv rfl<|Wr (.lenS rfl hlv)<|Wj rfl rfl r7<|Wr (.iaddrS rfl rfl (by omega)<|by decide)<|Wl rfl af1 ahg rfl rfl<|Wv rfl<|Wn ?_) Dz
  have ajh:id∈D2.fi:=List.mem_of_getElem? iI
  exact acO L h50 rfl hlt hz hrow (j:=m++j) hrb ((List.append_assoc ..).symm▸dt) (ad8 L hf h30 b3 (.inr ajh) hH) hH (bX rfl) λl9 s9 E9 D9 j9 h9 hs9 hl9=>Wg hl9 (λ_ _ h=>h) (by
   refine Wo<|Wv rfl<|Wj rfl rfl (bM<|by omega)<|Wv rfl<|Wn ?_
   exact nxt h9 hs9 (bX rfl))
 ·have e4:binV .gtr (iv<|.ofNat D2.fi.length) (iv 0)=some (.bool false):=acj (b:=0) hn
  refine Wv rfl<|Wn<|Wq<|Wv rfl<|Wn<|Ws<|Wq<|W (k:=Wn<|Wd rfl fS<|λ_=>Wi ?_)
  exact acO L h50 rfl hlt hz hrow (j:=m++j) hrb ((List.append_assoc ..).symm▸dt) (ad8 L hf h30 b3 (.inl rfl) hH) hH (bX rfl) λl9 s9 E9 D9 j9 h9 hs9 hl9=>Wg hl9 (λ_ _ h=>h) (by
   refine Wo<|Wv rfl<|Wj rfl rfl (bM<|by omega)<|Wv rfl<|Wn ?_
   exact nxt h9 hs9 (bX rfl))
def afT:AD:=⟨3,2,0,0,0,0,0,false,nilS,.slice (some ⟨1,0,0⟩) 2 2 false 3,0,0,0⟩
def adU:AD:=⟨3,2,2,0,0,0,0,false,nilS,.slice (some ⟨3,0,0⟩) 2 2 false 3,0,0,0⟩
def ab1:AD:=⟨4,0,2,0,0,0,0,false,nilS,nilS,4,0,.negSucc 0⟩
def C20:List CD:=[⟨⟨#[98,101,97,115,116]⟩,2,0,0,0,0,0,2,2,0,nilS,[]⟩,⟨⟨#[105,109,112]⟩,2,0,0,0,0,0,1,1,0,.slice (some ⟨2,0,0⟩) 1 1 false 13,[afT]⟩,⟨⟨#[98,101,108,108]⟩,4,0,0,0,0,0,0,0,0,.slice (some ⟨4,0,0⟩) 1 1 false 13,[adU]⟩,⟨⟨#[102,114,111,115,116]⟩,4,0,0,0,0,0,0,0,0,.slice (some ⟨5,0,0⟩) 1 1 false 13,[ab1]⟩]
theorem abf {Q:CD->Prop}(h0:∀c:CD,c.ab=[]->c.av=nilS->Q c)(h1:∀c:CD,c.ab=[afT]->c.av=.slice (some ⟨2,0,0⟩) 1 1 false 13->Q c)(h2:∀c:CD,c.ab=[adU]->c.av=.slice (some ⟨4,0,0⟩) 1 1 false 13->Q c)(h3:∀c:CD,c.ab=[ab1]->c.av=.slice (some ⟨5,0,0⟩) 1 1 false 13->Q c):∀c∈C20,Q c:=by
 intro c hc
 simp only[C20,List.mem_cons,List.not_mem_nil,or_false]at hc
 rcases hc with rfl|rfl|rfl|rfl
 ·grind
 ·grind
 ·grind
 grind
theorem abB:uS C20 where
 n:=rfl
 R8:=abf (λc h _=>by grind) (λc h _=>by grind) (λc h _=>by grind)<|λc h _=>by grind
 x:=abf (λc h _ x hx=>by grind) (λc h _ x hx=>by rw[h]at hx;rw[List.mem_singleton.1 hx];exact .inl ⟨rfl,rfl,.inl rfl⟩) (λc h _ x hx=>by rw[h]at hx;rw[List.mem_singleton.1 hx];exact .inl ⟨rfl,rfl,.inr rfl⟩) (λc h _ x hx=>by rw[h]at hx;rw[List.mem_singleton.1 hx];exact .inr ⟨rfl,rfl,rfl,rfl,rfl,rfl⟩)
def p20:LD:=⟨20,0,0,0,0,false,false,false⟩
def d20:SD:=⟨[p20,p20,p20],[ob0 1 0 0,ob0 2 1 0,ob0 3 2 1,ob0 4 3 2],[[1,2],[3],[4]],[[],[],[]],[[],[],[]],[[],[],[]],[],[],[],1,0,0,0,0,0,5,1,0,0,0,0,false,0,0⟩
theorem afX:HpI 0 [] d20 where
 bd:={
  len:=Nat.le_refl _
  li:={
   pl:=rfl
   ev:=⟨rfl,rfl,rfl,rfl⟩
   st:=rfl
   co:=rfl
   ob:=Nat.le_refl _
   nd:=by decide
   o:=λo ho=>by
    simp only[d20,List.mem_cons,List.not_mem_nil,or_false]at ho
    rcases ho with rfl|rfl|rfl|rfl
    ·exact⟨by decide,by decide,rfl,⟨0,rfl,by decide⟩,⟨0,rfl,by decide⟩,rfl⟩
    ·exact⟨by decide,by decide,rfl,⟨1,rfl,by decide⟩,⟨0,rfl,by decide⟩,rfl⟩
    ·exact⟨by decide,by decide,rfl,⟨2,rfl,by decide⟩,⟨1,rfl,by decide⟩,rfl⟩
    ·exact⟨by decide,by decide,rfl,⟨3,rfl,by decide⟩,⟨2,rfl,by decide⟩,rfl⟩
   lo:=λo ho=>by
    simp only[d20,List.mem_cons,List.not_mem_nil,or_false]at ho
    rcases ho with rfl|rfl|rfl|rfl
    ·exact .inr<|.inl ⟨rfl,[1,2],rfl,by decide⟩
    ·exact .inr<|.inl ⟨rfl,[1,2],rfl,by decide⟩
    ·exact .inr<|.inl ⟨rfl,[3],rfl,by decide⟩
    ·exact .inr<|.inl ⟨rfl,[4],rfl,by decide⟩
   fi:=Nat.le_refl _
   on:=λid h=>nomatch h
   ls:=λLL hL l hl=>by
    have:∀l∈LL,l.length<=2:=by
     rcases hL with rfl|rfl|rfl|rfl<;>(intro l hl;simp only[d20,List.mem_cons,List.not_mem_nil,or_false]at hl;grind)
    grind
   wa:=Nat.le_refl _
   wn:=List.nodup_nil
   wx:=λx hx=>nomatch hx
   nx:=by decide
   sp:=by decide
   sm:=λo ho=>by
    simp only[d20,List.mem_cons,List.not_mem_nil,or_false]at ho
    rcases ho with rfl|rfl|rfl|rfl<;>decide
   so:=.nil
   ac:=rfl }
  cl:=λx=>x.elim }
 oc:=rfl
 pl:=λp hp=>by
  match p,hp with
  | 0,_=>exact⟨p20,rfl,rfl,by decide,by decide⟩
  | 1,_=>exact⟨p20,rfl,rfl,by decide,by decide⟩
  | 2,_=>exact⟨p20,rfl,rfl,by decide,by decide⟩
 hu:=λo ho=>by
  simp only[d20,List.mem_cons,List.not_mem_nil,or_false]at ho
  grind
@[reducible] def afN:List AV:=d20.cells (pn 266 3 8) (pn 286 4 14) (pn 298 3 1) (pn 304 3 1) (pn 310 3 1) (pn 316 3 1) nilS nilS nilS++([nilS]++(d20.cells (pn 320 3 8) (pn 340 4 14) (pn 352 3 1) (pn 358 3 1) (pn 364 3 1) (pn 370 3 1) nilS nilS nilS++[]))
@[reducible] def ahp:List (List AV):=[[pn 342 2 1],[pn 346 1 1],[pn 350 1 1]]
def adC:List (Nat × Nat × List (List AV)):=[(320,8,Am d20.pl),(340,14,fy d20.ob),(352,1,ahp),(358,1,n3),(364,1,n3),(370,1,n3),(342,1,nR [1,2]),(346,1,nR [3]),(350,1,nR [4])]
def t20:List (Nat × Nat × List (List AV)):=[(260,8,[bu 262 (pn 372 4 11) 60 8 80 20 20 nilS]),(372,11,C20.map CD.row),(2,13,[afT.row]),(4,13,[adU.row]),(5,13,[ab1.row])]
def aaJ:List (Nat × Nat × List (List AV)):=(262,51,[afN])::(adC++t20)
theorem afd:mD (Dw adC) (pn 320 3 8) (pn 340 4 14) (pn 352 3 1) (pn 358 3 1) (pn 364 3 1) (pn 370 3 1) nilS nilS nilS d20 where
 pl:=Src.all (L:=Am d20.pl) .here
 ob:=Src.all (L:=fy d20.ob)<|.there .here
 lb:=⟨_,Src.all (L:=ahp)<|.there<|.there .here,.cons (Src.all (L:=nR [1,2])<|.there<|.there<|.there<|.there<|.there<|.there .here)<|.cons (Src.all (L:=nR [3])<|.there<|.there<|.there<|.there<|.there<|.there<|.there .here)<|.cons (Src.all (L:=nR [4])<|.there<|.there<|.there<|.there<|.there<|.there<|.there<|.there .here) .nil⟩
 hd:=⟨_,Src.all (L:=n3)<|.there<|.there<|.there .here,.cons .nil<|.cons .nil<|.cons .nil .nil⟩
 gr:=⟨_,Src.all (L:=n3)<|.there<|.there<|.there<|.there .here,.cons .nil<|.cons .nil<|.cons .nil .nil⟩
 ex:=⟨_,Src.all (L:=n3)<|.there<|.there<|.there<|.there<|.there .here,.cons .nil<|.cons .nil<|.cons .nil .nil⟩
 fi:=.nil
 st:=.nil
 wa:=.nil
theorem aej (t:SH):aH 262 [] d20 t ((262,.r false [afN] 51)::([]++(Dw adC++t))):=
 ⟨_,nilS,pn 320 3 8,pn 340 4 14,pn 352 3 1,pn 358 3 1,pn 364 3 1,pn 370 3 1,nilS,nilS,nilS,[],Dw adC,.refl _,rfl,.nil,afd⟩
theorem adb (z:SH):cI (Dw t20++z) (pn 372 4 11) C20 where
 src:=Src.all (L:=C20.map CD.row)<|.there .here
 ab:=abf (λc h h'=>by rw[h,h'];exact .nil) (λc h h'=>by rw[h,h'];exact Src.all (L:=[_])<|.there<|.there .here) (λc h h'=>by rw[h,h'];exact Src.all (L:=[_])<|.there<|.there<|.there .here) (λc h h'=>by rw[h,h'];exact Src.all (L:=[_])<|.there<|.there<|.there<|.there .here)
 n:=by decide
 nb:=λc hc=>Nat.le_trans (abB.R8 c hc)<|by decide
def pre18 (P:Program)(ih:bT)(c:Code)(z:Nat):FH->Bool:=
 RE P 135 ih (spine 3 c).1 (λe h=>Du h aaJ&&(wI e [(3,.ptr<|some ⟨260,0,0⟩)]&&(af9 (atR 0 e) 0&&(Nat.beq (ap 0 h).t z&&(Nat.beq (ap 0 h).lp.nt 0&&(match h.fr.ds with | []=>true | _=>false))))))
  (Ba [rJ] 0 cT)
theorem adw:(Dw aaJ).Pairwise λp q=>p.1≠q.1:=by simp[Dw,aaJ,adC,t20]
theorem acs:∀p∈Dw aaJ,p.1≠0:=by
 intro p hp
 simp only[Dw,aaJ,adC,t20,List.map_cons,List.map_nil,List.cons_append,List.nil_append,List.mem_cons,List.not_mem_nil,or_false]at hp
 rcases hp with rfl|rfl|rfl|rfl|rfl|rfl|rfl|rfl|rfl|rfl|rfl|rfl|rfl|rfl|rfl<;>exact Nat.succ_ne_zero _
end
section
variable [Sg]{P:Program}{K:Orc}{F:Nat->FuncId}{T:Nat->TypeId}
theorem adc (L0:LEnv P K F T (T 26)) (h50:Ty P (T 50) 13) {ih:bT} (hC:eL P K ih) {fn:Func} {c:Code} (hf:P.funcs[F 18]?=some fn) (hb:fn.body=some c) (hnt:fn.ntmps=135) (hres:fn.results.toList=[.tmp 2]) (hname:(fn.name == "runtime.NumGoroutine")=false)
  (j5:cc P 135 (spine 3 c).2=aeE F T) (hK:∀args H,K (F 18) args H=none) {h0:FH} {H0:Heap} (hH:cj h0 H0) (hfr:xe h0.fr [] none) {z:Nat} (hpre:pre18 P ih c z h0=true) {lv:AV} (hlv:VA rJ lv) {L:List (List AV)} (XV:lenOf lv=some L.length)
  (XW:∀i,i<L.length->∃x y z:Nat,x<=255/\y<=255/\z<=255/\L[i]?=some [.int .u8 (.ofNat x),.int .u8<|.ofNat y,.int .u8<|.ofNat z]) (XX:0<L.length->z=5/\(∃cap sl,lv=.slice (some ⟨0,0,0⟩) L.length cap sl 3)/\(HO.r true L 3).ok (some<|Sg.iK 0)) :
  ∃H' s' z0 EL D,CallsTo P K (F 18) [lv] H0 (.ptr<|some ⟨260,0,0⟩) H'/\Hp ⟨.lf,0⟩ s' H'/\aH 262 EL D (Dw t20++z0) s'/\HpI 30 EL D/\(0<L.length->Has 0 (.r true L 3) z0):=by
 obtain⟨e0,iL,XN⟩:=sU (nt:=135) (.cons hlv .nil) (by omega)<|by simp
 obtain⟨E',H',ds',e',h',q1,q2,q3,q4,q5⟩:=ye (rd:=none) (ds:=[]) hC (spine 3 c).1 XN hH hfr hpre
 obtain⟨k1,q4⟩:=Bool.and_eq_true_iff.1 q4
 obtain⟨k2,q4⟩:=Bool.and_eq_true_iff.1 q4
 obtain⟨k3,q4⟩:=Bool.and_eq_true_iff.1 q4
 obtain⟨k5,q4⟩:=Bool.and_eq_true_iff.1 q4
 obtain⟨k6,k7⟩:=Bool.and_eq_true_iff.1 q4
 have hds:=fr_nil q3 k7
 subst hds
 have hmem:=Dv q2 k1
 have e3':E'.get 3=some (.ptr<|some ⟨260,0,0⟩):=AH q1 k2 (λp hp=>by grind) 3 _<|by simp
 obtain⟨a0,e0',v0⟩:=q1.slot 0<|by omega
 have ea0:=acR k3 v0 hlv rfl rfl
 subst ea0
 have main:∀z0:SH,(∀b o,(b,o)∈z0->b=0/\b<H'.next/\o.ok (H'.get b))->z0.Pairwise (λp q=>p.1≠q.1)->(0<L.length->∃cap sl,a0=.slice (some ⟨0,0,0⟩) L.length cap sl 3/\Has 0 (.r true L 3) z0) ->
   ∃H3 s' z0 EL D,CallsTo P K (F 18) [a0] H0 (.ptr<|some ⟨260,0,0⟩) H3/\Hp ⟨.lf,0⟩ s' H3/\aH 262 EL D (Dw t20++z0) s'/\HpI 30 EL D/\(0<L.length->Has 0 (.r true L 3) z0):=by
  intro z0 hz0 hzp mO
  have hp:Hp ⟨.lf,0⟩ (Dw aaJ++z0) H':=by
   refine⟨Nat.zero_le _,?_,?_,λb hb=>absurd hb<|Nat.not_lt_zero _⟩
   ·intro b o hb
    rcases List.mem_append.1 hb with hb|hb
    ·exact hmem b o hb
    ·exact(hz0 b o hb).2
   ·refine List.pairwise_append.2 ⟨adw,hzp,?_⟩
    intro p hp q hq
    rw[(hz0 q.1 q.2 hq).1]
    exact acs p hp
  have hs:aH 262 [] d20 (Dw t20++z0) (Dw aaJ++z0):=by
   have:=aej<|Dw t20++z0
   exact this
  have XO:En [(0,a0),(3,.ptr<|some ⟨260,0,0⟩)] E':=by
   intro i v hi
   simp only[lu]at hi
   split at hi
   ·grind
   ·split at hi
    ·rename_i h;cases hi;rw[<- h];exact e3'
    ·cases hi
  obtain⟨xx,e'',Xu,H2,l',s',r1,r2,r3,r4⟩:=aeU L0 h50 (aZ:=pn 372 4 11) (bE:=nilS) (c1:=8) (c2:=80) (c3:=20) (c4:=20) (t:=Dw t20++z0) (T:=T) (lv:=a0) (LL:=L) (Qn:=Kj) (Qe:=λ_=>Kj) (Qr:=λl ds s=>ds=[]/\∃EL D,aH 262 EL D (Dw t20++z0) s/\HpI 30 EL D/\lk l 2=some (.ptr<|some ⟨260,0,0⟩))
   ⟨XV,λh=>by
    obtain⟨cap,sl,w1,w2⟩:=mO h
    exact⟨0,cap,sl,w1,.app w2⟩,XW⟩ .here hs afX (λ_ _ h=>h) (λl2 s2 E2 D2 h1 h2 h3=>⟨rfl,E2,D2,h2,h1,h3⟩) (spine 3 c).2 j5 ⟨.lf,0⟩ E' H' XO hp
  have run:=q5 (spine 3 c).2 _ r1
  rw[ug]at run
  cases xx with
  | normal=>exact r4.elim
  | exit i=>exact r4.elim
  | ret=>
   obtain⟨rfl,EL,D,w1,w3,w4⟩:=r4
   refine⟨H2,s',z0,EL,D,CallsTo.enter (hK _ _) hf hb (by rw[hnt,hname];rfl) (by rw[hnt];exact iL) (by rw[hnt];exact run) (.inl rfl) ?_,r3,w1,w3,λh=>(mO h).choose_spec.choose_spec.2⟩
   have e8:resultOf P e'' H2 (.tmp 2)=some _:=r2 2 _ w4
   rw[hres]
   simp only[aI,e8]
 rcases Nat.eq_zero_or_pos L.length with h|h
 ·exact main [] (λb o hb=>nomatch hb) .nil<|λk=>by omega
 ·obtain⟨rfl,⟨cap,sl,hl⟩,hok⟩:=XX h
  have g0:=(q2.block 0<|by omega).DM (Nat.eq_of_beq_eq_true k5)
  rw[Nat.eq_of_beq_eq_true k6]at g0
  have hn:0<H'.next:=Nat.lt_of_le_of_lt (Nat.zero_le _) (hmem 262 _<|List.mem_cons_self ..).1
  refine main [(0,.r true L 3)] ?_ (List.pairwise_singleton ..)<|λ_=>⟨cap,sl,hl,.here⟩
  intro b o hb
  rw[List.mem_singleton]at hb
  cases hb
  exact⟨rfl,hn,by rw[g0];exact hok⟩
end
variable {vs:List V}{l:List AV}
theorem evM [Sg]{a:AV}(t:VAs vs l):VAs (mkV a::vs) (a::l):=.cons (VA.mkV _) t
theorem evS [Sg]{i lo hi:Nat}{n:Int}(t:VAs vs l)(hn:Sg.num i=n:=by rfl)(hl:(lo:Int)-9223372036854775808<=n:=by omega)(hh:n<=(hi:Int)-9223372036854775808:=by omega)(he:hi<18446744073709551616:=by decide):VAs (symV i lo hi []::vs) (.int .i64 n::l):=.cons (VA.symV hn hl hh he λm hm=>by cases hm) t
theorem evV [Sg]{l:List V}{row:List AV}(h:VAs l row)(XF:row.length=13:=by rfl):VAs [vAgg (rowV l) 0 13] [.agg row]:=by
 have:=VA.ofList h<|by omega
 rw[XF]at this
 exact .cons this .nil
open Go.Proofs
set_option maxRecDepth 100000
section
variable {P:Program}{K:Orc}{rd:Option Nat}{nt:Nat}{l:Sl}{ds:List aD}{s:SH}{Q Qn Qr:Po}{Qe:Nat->Po}{F:Nat->FuncId}{T:Nat->TypeId}{bf bl:Nat}{aZ bE:AV}{c0 c1 c2 c4:Int}{EL:List (List AV)}{d:SD}{t:SH}{tF:TypeId}
def aiR (F:Nat->FuncId):AC:=NF (cd 27 28 F λn=>n) _
structure BaseSe (P:Program)(K:Orc)(F:Nat->FuncId):Prop where
 f406:FnK P K (F 406) 28 [] (aiR F)
theorem aaN (hB:Base P K F T)(hG:BaseB P K F T)(hS:BaseS P K F T)(hV:BaseSe P K F)(N9:Ty P (T 24) 5)(ht:Ty P (T 128) 13)(hM:aaF P F tF)(hf:Has bf (.r false [bu bl aZ c0 c1 c2 20 c4 bE] 8) t)(hs:aH bl EL d t s){A O:Nat->List (List AV)->SD->Prop}{U:Nat->Bool->List (List AV)->SD->Prop}{Z:List (List AV)->SD->Prop}
  (h0:A 0 EL d) (hA:∀k E D,A k E D->k<20)
  (h1:∀(m:SH)k E D s1,A k E D->aH bl E D (m++t) s1->bB P K (F 42) [gm tF bf] s1 (λv s'=>∃b,v=.bool b/\∃E2 D2,(if b then U k true E2 D2 else O k E2 D2)/\aH bl E2 D2 (m++t) s'))
  (h2:∀(m:SH)k E D s1,O k E D->aH bl E D (m++t) s1->bB P K (F 19) [gm tF bf] s1 (λv s'=>∃b,v=.bool b/\∃E2 D2,U k b E2 D2/\aH bl E2 D2 (m++t) s'))
  (hU:∀k E D,U k true E D->D.Small/\(D.oc≠0->Z E D)/\(D.oc=0->A (k+1) E D)) (hF:∀k E D,U k false E D->Z E D) :
  bB P K (F 406) [gm tF bf] s (λ_ s'=>∃E2 D2,Z E2 D2/\aH bl E2 D2 t s'):=by
 refine hV.f406.cF ?_
 refine Ws<|Wq<|Wv rfl<|Wh (b:=false) rfl rfl rfl<|Wn<|Wd rfl fS<|λ_=>Wi<|Wq<|Wv rfl<|Wr (.build rfl rfl)<|Wa (.alloc rfl) λb3=>Vk (k:=?_)
 have gw:aH bl EL d ((b3,HO.r false [[gm tF bf]] 1)::t) ((b3,HO.r false [[gm tF bf]] 1)::s):=hs.cons
 refine Vk (k:=Ww<|WS.invoke (vs:=[]) rfl hM.config rfl (aa2 hG N9<|.there<|hs.mem hf) ?_)
 rintro _ _ ⟨rfl,m9,rfl⟩
 refine Wr (.fld rfl rfl)<|Wv rfl<|Wn ?_
 have pM:aH bl EL d ((b3,HO.r false [[gm tF bf]] 1)::t) (m9++(b3,HO.r false [[gm tF bf]] 1)::s):=gw.bK
 refine Wb ?_
 refine Wp (λn l ds s'=>ds=[]/\∃k E D,n=20-k/\A k E D/\aH bl E D ((b3,HO.r false [[gm tF bf]] 1)::t) s'/\∀j w,lk [(0,gm tF bf),(2,.ptr<|some ⟨b3,0,0⟩),(10,iv 20),(11,iv<|.ofNat k)] j=some w->lk l j=some w) ?_ (n:=20) ⟨rfl,0,EL,d,rfl,h0,pM,bX rfl⟩
 rintro n l ds s' ⟨rfl,k,E,D,rfl,hk,hL,hl⟩
 refine Wg hl (λ_ _ h=>h) ?_
 have ajj:=hA k E D hk
 refine Wq<|Wj rfl rfl (ij (b:=20) ajj)<|Wn<|Ws<|Wd rfl (λ_=>Wi<|Ws<|Wb<|Wq<|Wv rfl<|Ww<|W1 (h1 [(b3,HO.r false [[gm tF bf]] 1)] k E D s' hk hL) ?_)<|λh=>by cases h
 rintro _ s5 ⟨b,rfl,E5,D5,h5,hL5⟩
 have hnext:∀(l2:Sl)s7 E7 D7,U k true E7 D7->D7.oc=0->aH bl E7 D7 ((b3,HO.r false [[gm tF bf]] 1)::t) s7->(∀j w,lk [(0,gm tF bf),(2,.ptr<|some ⟨b3,0,0⟩),(10,iv 20),(11,iv<|.ofNat<|k+1)] j=some w->lk l2 j=some w)->∃m,m<20-k/\([]:List aD)=[]/\∃k E D,m=20-k/\A k E D/\aH bl E D ((b3,HO.r false [[gm tF bf]] 1)::t) s7/\∀j w,lk [(0,gm tF bf),(2,.ptr<|some ⟨b3,0,0⟩),(10,iv 20),(11,iv<|.ofNat k)] j=some w->lk l2 j=some w:=
  λl2 s7 E7 D7 h7 P0 hs7 hl7=>⟨20-(k+1),by omega,rfl,k+1,E7,D7,rfl,(hU k E7 D7 h7).2.2 P0,hs7,hl7⟩
 cases b with
 | true=>
  have h5:U k true E5 D5:=h5
  refine Vk (k:=Ww<|W1 (zY hB hG hS ht hM hL5 (hU k E5 D5 h5).1 (.there hf)) ?_)
  rintro _ s6 ⟨rfl,hL6⟩
  refine Wr (.bj rfl rfl)<|Wn<|Wd rfl (λh=>We<|Wm .nil ⟨E5,D5,(hU k E5 D5 h5).2.1 (of_decide_eq_false<|by simpa using h),hL6.tail⟩)<|λh=>Vk (k:=?_)
  exact hnext _ _ E5 D5 h5 (of_decide_eq_true<|by simpa using h) hL6<|bX rfl
 | false=>
  have h5:O k E5 D5:=h5
  refine Vk (k:=Ww<|W1 (h2 [(b3,HO.r false [[gm tF bf]] 1)] k E5 D5 s5 h5 hL5) ?_)
  rintro _ s6 ⟨c,rfl,E6,D6,h6,hL6⟩
  cases c with
  | false=>
   refine Wy<|Wr (.un rfl rfl)<|Wr (.cV rfl rfl)<|Wv rfl<|Wk<|Wk<|Wr (.cV rfl rfl)<|Wn ?_
   exact Wd rfl (λ_=>We<|Wm .nil ⟨E6,D6,hF k E6 D6 h6,hL6.tail⟩) Dz
  | true=>
   refine Vk (k:=Ww<|W1 (zY hB hG hS ht hM hL6 (hU k E6 D6 h6).1 (.there hf)) ?_)
   rintro _ s8 ⟨rfl,hL8⟩
   refine Wr (.bj rfl rfl)<|Wn<|Wd rfl (λh=>We<|Wm .nil ⟨E6,D6,(hU k E6 D6 h6).2.1 (of_decide_eq_false<|by simpa using h),hL8.tail⟩)<|λh=>Vk (k:=?_)
   exact hnext _ _ E6 D6 h6 (of_decide_eq_true<|by simpa using h) hL8<|bX rfl
structure Calm (C:List CD)(d:SD):Prop where
 ls:dM dh d d.pl.length=[]
 wk:k8 d C (λo _=>weakP gA d C o) d.fi=[]
 lv:1<(dM (λ_=>true) d d.pl.length).length
variable {c3:Int}{C:List CD}
theorem abT (L:LEnv P K F T tF)(hB:BdX P K F T tF gA C d)(hc:Calm C d)(P0:d.oc=0)(hf:Has bf (.r false [bu bl aZ c0 c1 c2 c3 c4 bE] 8) t)(eQ:cI t aZ C)(hs:aH bl EL d t s) :
  bB P K (F 42) [gm tF bf] s (λv s'=>v=.bool false/\aH bl EL d t s'):=by
 have hE:=hB.hE
 refine(aba L.hB L.hI L.hS L.hN L.t128 L.bm hf hs hE.hd P0 (I0:=λb E D=>b=false/\E=EL/\D=d) (I1:=λb E D=>b=false/\E=EL/\D=d) (I2:=λb E D=>b=false/\E=EL/\D=d) (I3:=λb E D=>b=false/\E=EL/\D=d) ⟨rfl,rfl,rfl⟩ ?_ ?_ ?_).post ?_
 ·rintro m _ E D s1 ⟨rfl,rfl,rfl⟩ nr
  refine(aaw hE L.hN (.app hf) nr (J:=λk E2 D2=>E2=E/\D2=D) ⟨rfl,rfl⟩ λm2 k x E1 D1 s2 hx=>by rw[hc.ls]at hx;simp at hx).post ?_
  rintro _ s2 ⟨rfl,E2,D2,⟨rfl,rfl⟩,dt⟩
  exact⟨_,rfl,E2,D2,⟨by rw[hc.ls];rfl,rfl,rfl⟩,dt⟩
 ·rintro m _ E D s1 ⟨rfl,rfl,rfl⟩ nr
  refine(aap hE L.hN L.hQ L.weak (.app hf) (eQ.mono λq hq=>List.mem_append_right _ hq) nr hB.cd hB.all (J:=λl k E2 D2=>l=[]/\E2=E/\D2=D) ⟨hc.wk,rfl,rfl⟩ (λl k E2 D2 h=>h.2.2▸hE.hd) (λl k id E2 D2 hx h=>by rw[h.1]at hx;simp at hx) (λl m2 k id E2 D2 o s2 hx h=>by rw[h.1]at hx;simp at hx)).post ?_
  rintro _ s2 ⟨b,rfl,hb,E2,D2,⟨_,rfl,rfl⟩,dt⟩
  exact⟨b,rfl,E2,D2,⟨by rw[hb hc.wk];rfl,rfl,rfl⟩,dt⟩
 ·rintro m _ E D s1 ⟨rfl,rfl,rfl⟩ nr
  refine(aa3 hE L.hN L.hS L.bm (.app hf) nr (R:=λb s2=>b=false/\aH bl E D (m++t) s2) (λs2 _ dt=>⟨rfl,dt⟩) (λm2 q s2 hh=>absurd hc.lv hh)<|λm2 s2 hh=>absurd hc.lv hh).post ?_
  rintro _ s2 ⟨b,rfl,rfl,dt⟩
  exact⟨false,rfl,E,D,⟨rfl,rfl,rfl⟩,dt⟩
 ·rintro _ s2 ⟨b,rfl,E2,D2,⟨rfl,rfl,rfl⟩,dt⟩
  exact⟨rfl,dt⟩
theorem aem (L:LEnv P K F T tF)(hd:d.Small)(P0:d.oc≠0)(hf:Has bf (.r false [bu bl aZ c0 c1 c2 c3 c4 bE] 8) t)(hs:aH bl EL d t s) :
  bB P K (F 42) [gm tF bf] s (λv s'=>v=.bool false/\aH bl EL d t s'):=by
 refine L.hN.f42.cF ?_
 unfold a42
 refine Wq<|Wv rfl<|Wn<|Ws<|Wq<|Wv rfl<|Wh (b:=false) rfl rfl rfl<|Wn<|Wd rfl fS<|λ_=>Wi<|Wq<|Wv rfl<|Wr (.build rfl rfl)<|Wa (.alloc rfl) λb3=>Vk (k:=?_)
 have gw:aH bl EL d ((b3,HO.r false [[gm tF bf]] 1)::t) ((b3,HO.r false [[gm tF bf]] 1)::s):=hs.cons
 refine Ww<|W1 (zY L.hB L.hI L.hS L.t128 L.bm gw hd<|.there hf) ?_
 rintro _ s4 ⟨hv,pM⟩
 rw[decide_eq_false P0]at hv
 have hv:_=AV.bool true:=hv
 subst hv
 refine Wr (.un rfl rfl)<|Wv rfl<|Wk<|Wk<|Wk<|Wk<|Wk<|Wk<|Wk<|Wk<|Wr (.bj rfl rfl)<|Wv rfl<|Wn<|We<|Wm (.tmp rfl .nil) ⟨rfl,pM.tail⟩
structure TG (e n f w:Nat)(A:List LD)(EL:List (List AV))(d:SD):Prop where
 len:EL.length<=e
 li:LI e n f w d
 pl:d.pl=A
 oc:d.oc=0
variable {A:List LD}{e n f w:Nat}
theorem TG.mono (h:TG e n f w A EL d){e' n' f' w':Nat}(h1:e<=e')(h2:n<=n')(h3:f<=f')(h4:w<=w'):TG e' n' f' w' A EL d:=⟨Nat.le_trans h.len h1,h.li.mono h1 h2 h3 h4,h.pl,h.oc⟩
theorem acT (d:SD)(a:Int)(i:Nat)(z:Int)(p:Nat):(d.left a i z p).oc=d.oc:=by
 unfold SD.left
 cases hz:d.ci z p with
 | none=>rfl
 | some x=>
  unfold SD.ci at hz
  grind
def seL (e n f w:Nat)(A B:List LD):Nat->List (List AV)->SD->Prop
 | 0=>TG e n f w A
 | 1=>TG (e+1) n f w B
 | i+2=>TG (e+1+w+i*n) n f w B
structure SeW (e n f w:Nat)(B:List LD)(W:List ID)(k:Nat)(EL:List (List AV))(D:SD):Prop where
 b:TG (e+1+k) n f w B EL D
 wl:W.length<=w
 wn:(W.map ID.id).Nodup
 wa:∀x∈W.drop k,x∈D.wa
 wx:∀x∈W,1<=x.id/\x.id<=1000000
structure SeZ (e n f w:Nat)(B:List LD)(i:Nat)(L:List Int)(k:Nat)(EL:List (List AV))(D:SD):Prop where
 b:TG (e+1+w+i*n+k) n f w B EL D
 ll:L.length<=n
 li:i<5
theorem ahq (L:LEnv P K F T tF)(hf:Has bf (.r false [bu bl aZ c0 c1 c2 c3 c4 bE] 8) t){q:Nat}{a:LD}(hq:q<3)(ha:A[q]?=some a)(h1:e+1+w+6*n<=4900)(h2:n<=1000)(h3:f<=30)(h4:w<=1000)(h5:f<=n) :
  afs P K F tF bf bl q t (seL e n f w A<|A.set q { a with f2:=true }) (SeW e n f w<|A.set q { a with f2:=true }) (SeZ e n f w<|A.set q { a with f2:=true }) where
 i:=λk EL D h=>by
  have key:∀{e' A},TG e' n f w A EL D->D.Small/\D.kQ/\D.st=[]/\q<D.pl.length/\∀o∈D.ob,o.ci≠5:=λb=>by
   refine⟨b.li.small h2 (by omega) h4,b.li.ev,b.li.st,by rw[b.li.pl];exact hq,λo ho hz=>?_⟩
   rcases b.li.lo o ho with⟨h,_⟩|⟨h,_⟩|⟨h,_⟩<;>rw[h]at hz<;>cases hz
  match k,h with
  | 0,h=>exact key h
  | 1,h=>exact key h
  | k+2,h=>exact key h
 lose:=λm EL D s1 h nr=>by
  have h:TG e n f w A EL D:=h
  have ho:D.pl[q]?=some a:=h.pl▸ha
  refine aag L.hS L.bm λb4=>(kM L.hB (aH.bK (m:=[_]) nr) (h.li.small h2 (by omega) h4) (.app hf) (Nat.le_trans h.len<|by omega) (by decide) (by decide) (by decide) (by decide) (ac6 L.hB L.hL (h.li.small h2 (by omega) h4) h.li.ev ho (L.says.lose q · hq))).post ?_
  rintro _ s2 ⟨_,dt⟩
  refine⟨_,_,⟨?_,?_,?_,?_⟩,dt⟩
  ·rw[List.length_append]
   exact Nat.add_le_add_right h.len 1
  ·exact(h.li.other (pl:=D.pl.set q { a with f2:=true }) ((List.length_set ..).trans h.li.pl) (oc:=D.oc) (wi:=D.wi)).mono (Nat.le_succ _) (Nat.le_refl _) (Nat.le_refl _) (Nat.le_refl _)
  ·exact congrArg (λl=>l.set q { a with f2:=true }) h.pl
  ·exact h.oc
 w0:=λEL D h=>by
  have b:TG (e+1) n f w _ EL D:=h
  exact⟨b,b.li.wa,b.li.wn,λx hx=>hx,λx hx=>⟨(b.li.wx x hx).1,aaI b.li (by omega) (b.li.wx x hx).2.1⟩⟩
 wno:=λW k x EL D hx h hc=>⟨h.b.mono (by omega) (Nat.le_refl _) (Nat.le_refl _)<|Nat.le_refl _,h.wl,h.wn,λy hy=>h.wa y (by rw[drop_one hx];exact .tail _ hy),h.wx⟩
 wdo:=λW m k x EL D s1 hx h hc nr=>by
  have hin:x∈D.wa:=h.wa x (by rw[drop_one hx];exact .head _)
  have hk:k<W.length:=(List.getElem?_eq_some_iff.1 hx).1
  have hkw:=h.wl
  have gK:=h.b.li.small h2 (by omega) h4
  have hwx:=h.wx x<|List.mem_of_getElem? hx
  refine aag L.hS L.bm λb4=>(kM L.hB (aH.bK (m:=[_]) nr) gK (.app hf) (Nat.le_trans h.b.len<|by omega) (by decide) (by decide) (by decide) (by decide) (aam L.hB L.it gK h.b.li.ev ?_ (L.says.unwait x.id · hwx.1 hwx.2))).post ?_
  ·cases hfi:D.wa.findIdx? λy=>decide (y.id=x.id) with
   | some i=>rfl
   | none=>have:=List.findIdx?_eq_none_iff.1 hfi x hin;simp at this
  rintro _ s2 ⟨_,dt⟩
  refine⟨_,_,⟨⟨?_,(h.b.li.unwait _).mono (Nat.le_succ _) (Nat.le_refl _) (Nat.le_refl _) (Nat.le_refl _),?_,?_⟩,h.wl,h.wn,λy hy=>?_,h.wx⟩,dt⟩
  ·rw[List.length_append]
   exact Nat.add_le_add_right h.b.len 1
  ·exact h.b.pl
  ·exact h.b.oc
  ·have hnd:=h.wn
   rw[<- List.take_append_drop k W,drop_one hx,List.map_append,List.map_cons]at hnd
   have n2:=(List.nodup_append.1 hnd).2.1
   rw[List.nodup_cons]at n2
   refine List.mem_filter.2 ⟨h.wa y (by rw[drop_one hx];exact .tail _ hy),?_⟩
   have:y.id≠x.id:=λhh=>n2.1<|List.mem_map.2 ⟨y,hy,hh⟩
   simp[this]
 w1:=λW EL D h=>by
  have hwl:=h.wl
  exact h.b.mono (by omega) (Nat.le_refl _) (Nat.le_refl _)<|Nat.le_refl _
 z0:=λi z EL D lst put hi hz h aho=>by
  rw[show 2+i=i+2 from Nat.add_comm ..]at h
  have b:TG (e+1+w+i*n) n f w _ EL D:=h
  exact⟨b,(aeA b.li h5 aho).1,hi⟩
 zs:=λi L k EL D h=>h.b.li.small h2 (by omega) h4
 zno:=λi L k id EL D hx h hno=>⟨h.b.mono (by omega) (Nat.le_refl _) (Nat.le_refl _)<|Nat.le_refl _,h.ll,h.li⟩
 zdo:=λi LL m k id EL D o s1 hx h abl hoq nr=>by
  obtain⟨j,hj,hoj,hid,hin⟩:=sT abl
  have ho:=h.b.li.o o hin
  have gK:=h.b.li.small h2 (by omega) h4
  have hk:k<LL.length:=(List.getElem?_eq_some_iff.1 hx).1
  have hkw:=h.ll
  have Yz:=h.li
  have amF:i*n<=4*n:=Nat.mul_le_mul_right _<|by omega
  have hlo:1<=id/\id<=1000000:=hid▸⟨ho.i1,aaI h.b.li (by omega) ho.i2⟩
  refine aag L.hS L.bm λb4=>(kM L.hB (aH.bK (m:=[_]) nr) gK (.app hf) (Nat.le_trans h.b.len<|by omega) (by decide) (by decide) (by decide) (by decide) (aal L.hB gK h.b.li.ev hj hoj (by rw[h.b.li.pl];exact hq) hoq h.b.li.st (by rw[h.b.li.co];omega) (λo2 uY=>by rw[(h.b.li.o o2 uY).bl];omega) (L.says.cease id · hlo.1 hlo.2))).post ?_
  rintro _ s2 ⟨_,dt⟩
  obtain⟨hLI,zF,uA,_⟩:=h.b.li.left hj hoj hoq
  refine⟨_,_,⟨⟨?_,hLI.mono (Nat.le_succ _) (Nat.le_refl _) (Nat.le_refl _)<|Nat.le_refl _,uA.trans h.b.pl,?_⟩,h.ll,h.li⟩,dt⟩
  ·rw[List.length_append]
   exact Nat.add_le_add_right h.b.len 1
  ·exact(acT ..).trans h.b.oc
 z1:=λi L EL D h=>by
  rw[show 2+(i+1)=(i+1)+2 from by omega]
  have hll:=h.ll
  exact h.b.mono (by rw[Nat.succ_mul];omega) (Nat.le_refl _) (Nat.le_refl _)<|Nat.le_refl _
 z5:=λEL D h=>by
  have b:TG (e+1+w+5*n) n f w _ EL D:=h
  show TG (e+1+w+6*n) n f w _ EL D
  exact b.mono (by omega) (Nat.le_refl _) (Nat.le_refl _)<|Nat.le_refl _
structure LoJ (e n f w:Nat)(d:SD)(k:Nat)(EL:List (List AV))(D:SD):Prop where
 b:TG e n f w D.pl EL D
 old:∀(p:Nat)o,D.pl[p]?=some o->o.f2=true\/d.pl[p]?=some o
 new:∀(p:Nat)o,D.pl[p]?=some o->Int.ofNat p∈(dM dh d d.pl.length).take k->o.f2=true
variable {k:Nat}
theorem LoJ.none {D:SD}(h:LoJ e n f w d k EL D)(hd:d.pl.length=3)(hk:(dM dh d d.pl.length).length<=k):dM dh D D.pl.length=[]:=by
 refine List.eq_nil_iff_forall_not_mem.2 λx hx=>?_
 obtain⟨p,hp,rfl⟩:=List.mem_map.1 hx
 obtain⟨YR,Gu⟩:=List.mem_filter.1 hp
 have UO:=List.mem_range.1 YR
 unfold B8 at Gu
 rw[List.getElem?_eq_getElem UO]at Gu
 have Gu:(!(D.pl[p]).f2&&dh D.pl[p])=true:=Gu
 rw[Bool.and_eq_true]at Gu
 have hf:(D.pl[p]).f2=false:=by grind
 have ho:D.pl[p]?=some D.pl[p]:=List.getElem?_eq_getElem UO
 rcases h.old p _ ho with h1|h1
 ·grind
 ·have hin:Int.ofNat p∈dM dh d d.pl.length:=ae9 (by grind) h1 hf Gu.2
  have:=h.new p _ ho (by rw[List.take_of_length_le hk];exact hin)
  grind
theorem acr (L:LEnv P K F T tF)(hP:uS C)(hf:Has bf (.r false [bu bl aZ c0 c1 c2 c3 c4 bE] 8) t)(h1:e+3*(1+w+6*n)<=4900)(h2:n<=1000)(h3:f<=30)(h4:w<=1000)(h5:f<=n)(hs:aH bl EL d t s)(h:TG e n f w d.pl EL d) :
  bB P K (F 98) [.agg [gm tF bf]] s (λv s'=>∃b,v=.bool b/\∃E2 D2,TG (e+3*(1+w+6*n)) n f w D2.pl E2 D2/\dM dh D2 D2.pl.length=[]/\aH bl E2 D2 t s'):=by
 have uA:=h.li.pl
 have hlen:(dM dh d d.pl.length).length<=3:=uA▸Pu dh d d.pl.length
 refine(aaw (h.li.ge L hP h2 h3 h4) L.hN hf hs (J:=λk E D2=>LoJ (e+k*(1+w+6*n)) n f w d k E D2) ?_ λm2 k x E D2 s2 hx hJ dt=>?_).post ?_
 ·exact⟨h.mono (by omega) (Nat.le_refl _) (Nat.le_refl _)<|Nat.le_refl _,λp o ho=>.inr ho,λp o ho hh=>by simp at hh⟩
 ·obtain⟨q,rfl,hq⟩:=aei hx
  rw[uA]at hq
  have hk:k<(dM dh d d.pl.length).length:=(List.getElem?_eq_some_iff.1 hx).1
  have A4:k<=2:=by omega
  have hke:k*(1+w+6*n)<=2*(1+w+6*n):=Nat.mul_le_mul_right _ A4
  obtain⟨a,ha⟩:∃a,D2.pl[q]?=some a:=⟨_,List.getElem?_eq_getElem (by rw[hJ.b.li.pl];exact hq)⟩
  refine(acq L.hB L.hC L.hG L.hI L.hN L.bm L.hM (.app hf) dt (ahq L (.app hf) hq ha (by omega) h2 h3 h4 h5) hJ.b).post ?_
  rintro _ s3 ⟨E3,D3,h8,gw⟩
  have b3:TG (e+k*(1+w+6*n)+1+w+6*n) n f w (D2.pl.set q { a with f2:=true }) E3 D3:=h8
  have hmul:e+k*(1+w+6*n)+1+w+6*n=e+(k+1)*(1+w+6*n):=by
   grind
  refine⟨E3,D3,⟨⟨hmul▸b3.len,hmul▸b3.li,rfl,b3.oc⟩,λp o ho=>?_,λp o ho hin=>?_⟩,gw⟩
  ·rw[b3.pl]at ho
   by_cases hqp:q=p
   ·grind
   ·rw[List.getElem?_set_ne hqp]at ho
    exact hJ.old p o ho
  ·rw[b3.pl]at ho
   by_cases hqp:q=p
   ·grind
   ·rw[List.getElem?_set_ne hqp]at ho
    rw[take_succ hx]at hin
    rcases List.mem_append.1 hin with hh|hh
    ·exact hJ.new p o ho hh
    grind
 ·rintro _ s2 ⟨rfl,E2,D2,hJ,dt⟩
  refine⟨_,rfl,E2,D2,hJ.b.mono ?_ (Nat.le_refl _) (Nat.le_refl _)<|Nat.le_refl _,hJ.none uA<|Nat.le_refl _,dt⟩
  exact Nat.add_le_add_left (Nat.mul_le_mul_right _ hlen) _
theorem oneE_obj (d:SD)(C:List CD)(b:OD)(n:Int):oneE d C b n=match d.obj n with | none=>[] | some o=>(match C[o.gE.toNat]? with | none=>[] | some c=>jU o b c.ab):=by
 unfold oneE SD.obj
 grind
theorem abs (d:SD)(C:List CD)(n:Int)(h:n∈d.fi):d.onF C n=match d.obj n with | none=>none | some o=>if o.gE<0 then none else(match C[o.gE.toNat]? with | none=>none | some c=>some (o,c)):=by
 unfold SD.onF SD.obj
 grind
theorem aau {α β:Type}{f:α->List β}{p:α->Bool}:∀{l:List α},(∀x∈l,p x=false->f x=[])->(l.filter p).flatMap f=l.flatMap f
 | [],_=>rfl
 | x::l,h=>by
  have ih:=aau (f:=f) (p:=p) (l:=l) λy hy=>h y<|.tail _ hy
  grind
variable {p:Int->Bool}
theorem ac2 {D:SD}(h1:D.fi=d.fi.filter p)(h2:∀y∈D.fi,D.obj y=d.obj y)(h3:∀y∈d.fi,p y=false->∀b,oneE d C b y=[])(b:OD):qy D C b=qy d C b:=by
 unfold qy
 congr 1
 rw[<- aau (λx hx hp=>h3 x hx hp b),<- h1]
 rw[List.flatMap_def,List.flatMap_def]
 congr 1
 refine List.map_congr_left λy hy=>?_
 rw[oneE_obj,oneE_obj,h2 y hy]
variable {y:Int}
theorem adF {D:SD}(h1:D.fi=d.fi.filter p)(h2:∀y∈D.fi,D.obj y=d.obj y)(h3:∀y∈d.fi,p y=false->∀b,oneE d C b y=[])(hy:y∈D.fi):isAt D C (λo _=>weakP gA D C o) y=isAt d C (λo _=>weakP gA d C o) y:=by
 have hy0:y∈d.fi:=by
  grind
 unfold isAt
 rw[h2 y hy]
 cases ho:d.obj y with
 | none=>rfl
 | some o=>
  obtain⟨_,_,_,hid,_⟩:=sT ho
  have:chOf gA D C o.id=chOf gA d C o.id:=by
   unfold chOf
   rw[hid,abs D C y hy,abs d C y hy0,h2 y hy]
   split
   ·rfl
   ·rw[ac2 h1 h2 h3]
  have hw:weakP gA D C o=weakP gA d C o:=by
   unfold weakP
   rw[this]
  simp only[hw]
theorem aca (hB:∀c∈C,c.kind=2->∀x∈c.ab,x.kind=3)(hy:isAt d C (λo _=>weakP gA d C o) y=true)(b:OD):oneE d C b y=[]:=by
 rw[oneE_obj]
 unfold isAt at hy
 cases ho:d.obj y with
 | none=>rfl
 | some o=>
  rw[ho]at hy
  obtain⟨_,_,_,hid,_⟩:=sT ho
  cases hc:C[o.gE.toNat]? with
  | none=>simp only[hc]
  | some c=>
   have hy:(match C[o.gE.toNat]? with | some _=>weakP gA d C o | none=>false)=true:=hy
   rw[hc]at hy
   have hy:weakP gA d C o=true:=hy
   have hk:c.kind=2:=by
    by_cases hin:y∈d.fi
    ·unfold weakP chOf at hy
     rw[hid,abs d C y hin,ho]at hy
     grind
    ·unfold weakP chOf SD.onF at hy
     grind
   simp only[hc]
   unfold jU
   rw[List.filter_eq_nil_iff.2 λx hx=>by grind]
   rfl
variable {o:OD}
theorem ael {d':SD}(hn:(d.ob.map OD.id).Nodup)(hn':(d'.ob.map OD.id).Nodup)(h1:o∈d.ob)(h2:o.id=y)(h3:o∈d'.ob):d'.obj y=d.obj y:=by
 rw[<- h2,aai hn h1,aai hn' h3]
theorem aa0 (d:SD)(o:OD)(p:Nat):(d.add (pX o 3) p).fi=d.fi/\(d.add (pX o 3) p).oc=d.oc:=by
 cases h:d.gr[p]?<;>simp[SD.add,SD.ci,pX,SD.xR,SD.obs,h]
theorem aeL (d:SD)(o:OD)(p:Nat):(d.add (pX o 3) p).fi=d.fi:=(aa0 d o p).1
theorem aeM (d:SD)(o:OD)(p:Nat):(d.add (pX o 3) p).oc=d.oc:=(aa0 d o p).2
structure DyS (e n f w:Nat)(d0:SD)(L:List Int)(k:Nat)(EL:List (List AV))(D:SD):Prop where
 bd:TG (e+31*k) (n+k) f (w+30*k) d0.pl EL D
 sub:∀id∈L,id∈d0.fi
 ll:L.length<=30
 kl:k<=L.length
 ob:∀o∈D.ob,o∈d0.ob\/d0.nx<=o.id
 nx:d0.nx<=D.nx
 fi:D.fi=d0.fi.filter λy=>!decide (y∈L.take k)
 same:∀y∈D.fi,D.obj y=d0.obj y
variable {d0:SD}{id:Int}
theorem DyS.next {L:List Int}{D D3:SD}(h:DyS e n f w d0 L k EL D)(hx:L[k]?=some id)(hn:(D.ob.map OD.id).Nodup)(hn3:(D3.ob.map OD.id).Nodup)(on:∀y∈D.fi,∃o∈D.ob,o.id=y)(zF:∀o∈D.ob,o.id≠id->o∈D3.ob)(hfi:D3.fi=D.fi.filter λy=>!decide (y=id)) :
  (D3.fi=d0.fi.filter λy=>!decide (y∈L.take (k+1)))/\∀y∈D3.fi,D3.obj y=d0.obj y:=by
 refine⟨?_,λy hy=>?_⟩
 ·rw[hfi,h.fi,List.filter_filter]
  refine List.filter_congr λy _=>?_
  rw[take_succ hx]
  grind
 ·rw[hfi]at hy
  obtain⟨h1,h2⟩:=List.mem_filter.1 hy
  have h2:y≠id:=by simpa using h2
  obtain⟨o,h3,h4⟩:=on y h1
  rw[ael hn hn3 h3 h4 (zF o h3<|h4▸h2)]
  exact h.same y h1
theorem aiZ (L:LEnv P K F T tF)(hP:uS C){LL:List Int}{D:SD}(hf:Has bf (.r false [bu bl aZ c0 c1 c2 c3 c4 bE] 8) t)(eQ:cI t aZ C)(h1:e<=3000)(h2:n<=900)(h3:f<=30)(h4:w<=60)(Un:LI e n f w d0)(hx:LL[k]?=some id)(h:DyS e n f w d0 LL k EL D)(abl:D.obj id=some o)(hs:aH bl EL D t s) :
  bB P K (F 149) [gm tF bf,iv id] s (λ_ s2=>∃E2 D2,DyS e n f w d0 LL (k+1) E2 D2/\aH bl E2 D2 t s2):=by
 have hk:k<LL.length:=(List.getElem?_eq_some_iff.1 hx).1
 have hll:=h.ll
 have hB:=h.bd.li.bdx L hP (by omega) h3<|by omega
 obtain⟨i,hi,xG,hid,hin⟩:=sT abl
 have hoI:=h.bd.li.o o hin
 obtain⟨q,hoq,hq⟩:=hoI.ow
 obtain⟨j,P0,hj⟩:=hoI.cd
 have ajg:=h.sub id<|List.mem_of_getElem? hx
 have hz:o.ci=2:=by
  obtain⟨o0,h5,h6,h7⟩:=Un.on id ajg
  rcases h.ob o hin with h8|h8
  ·rw[aah Un.nd h8 h5 (hid.trans h6.symm)]
   exact h7
  ·have:=(Un.o o0 h5).i2
   rw[hid,<- h6]at h8
   omega
 have xR:∀{e' n' f' w':Nat}{D2:SD},LI e' n' f' w' D2->e'<=5000->1<=D2.nx/\D2.nx<=1000000:=λhh he=>⟨hh.nx.1,by have:=hh.nx.2;omega⟩
 refine adf hB.hE L.hN L.t45 hf eQ hs abl hz (N:=λE2 D2=>TG (e+31*k+30) (n+k) f (w+30*k+30) d0.pl E2 D2/\D2.ob=D.ob/\D.nx<=D2.nx/\D2.fi=D.fi) (λm s1 nr=>acf hB L.hN L.hO L.t3 L.t4 (λc hc=>?_) (.app hf) (eQ.mono λq hq=>List.mem_append_right _ hq) nr abl hz) ⟨h.bd.mono (by omega) (Nat.le_refl _) (Nat.le_refl _)<|by omega,rfl,Int.le_refl _,rfl⟩ (λm s1 nr=>?_)<|λE2 D2 s1 hN nr=>?_
 ·unfold Az
  refine List.any_eq_false.2 λx hx=>?_
  rcases hP.x c hc x hx with⟨h5,_⟩|⟨h5,_⟩
  ·rw[h5,show decide ((3:Int)=5)=false from rfl,Bool.false_and];exact Bool.false_ne_true
  ·rw[h5,show decide ((4:Int)=5)=false from rfl,Bool.false_and];exact Bool.false_ne_true
 ·-- what akL of it waits
  have IH:=adu hP (id:=id) (p:=o.aQ) (D:=D)
  have hfl:=h.bd.li.fi
  refine(act hB (.app hf) (eQ.mono λq hq=>List.mem_append_right _ hq) nr (λc hc=>Nat.le_trans (hP.R8 c hc)<|by decide) (λc hc x hx=>?_) (by omega) rfl rfl (J:=λq E2 D2=>TG (e+31*k+q) (n+k) f (w+30*k+q) d0.pl E2 D2/\D2.ob=D.ob/\D.nx<=D2.nx/\D2.fi=D.fi) rfl (by omega) ⟨h.bd,rfl,Int.le_refl _,rfl⟩ λm2 q it E2 D2 s2 hit hJ dt=>?_).post ?_
  ·rcases hP.x c hc x hx with⟨_,_,h5⟩ | ⟨_,_,h5,_⟩
   ·exact h5.elim .inl λh6=>.inr<|.inr h6
   ·exact .inr<|.inr h5
  ·obtain⟨b,zF,YI,hfi⟩:=hJ
   have hq:q<(qd id o.aQ<|C5 3 2 D C<|abj 2 D C).length:=(List.getElem?_eq_some_iff.1 hit).1
   obtain⟨o2,uY,rfl⟩:=adt hP<|List.mem_of_getElem? hit
   have ajr:o2∈D2.ob:=zF▸uY
   have hI2:=b.li.o o2 ajr
   obtain⟨q2,ajs,hq2⟩:=hI2.ow
   obtain⟨j2,ae0,hj2⟩:=hI2.cd
   have hct:o2.aQ=.ofNat q2:=hI2.ct.trans ajs
   have gK:=b.li.small (by omega) (by omega)<|by omega
   have hn1:=xR b.li<|by omega
   have hW:=b.li.wait ⟨0,3,o2.aQ,o2.id,o2.gE,0⟩ ⟨rfl,⟨by rw[hct];exact Int.natCast_nonneg _,by rw[hct];show((q2:Nat):Int)<=2;omega⟩,⟨by have:=hI2.i1;show -1<=o2.id;omega,aaI b.li (by omega) hI2.i2⟩,⟨by rw[ae0];exact Int.natCast_nonneg _,by rw[ae0];show((j2:Nat):Int)<=3;omega⟩,⟨Int.le_refl _,by show(0:Int)<=3;decide⟩⟩
   refine(aaq L.hB dt gK (.app<|.app hf) (Nat.le_trans b.len<|by omega) (aaY L.hB L.it gK b.li.ev ⟨by omega,hn1.2⟩ (L.says.wait _ _ _ _ · ⟨by rw[hct];exact Int.natCast_nonneg _,by rw[hct];show((q2:Nat):Int)<=2;omega⟩ ⟨by have:=hI2.i1;omega,aaI b.li (by omega) hI2.i2⟩ ⟨by rw[ae0];exact Int.natCast_nonneg _,by rw[ae0];show((j2:Nat):Int)<=3;omega⟩ (by decide))) (hW.small (by omega) (by omega)<|by omega)<|xR hW<|by omega).post ?_
   rintro _ s3 ⟨_,gw⟩
   refine⟨_,_,⟨⟨?_,hW,?_,?_⟩,zF,by show D.nx<=D2.nx+1;omega,hfi⟩,gw⟩
   ·rw[List.length_append]
    exact Nat.add_le_add_right b.len 1
   ·exact b.pl
   ·exact b.oc
  ·rintro _ s2 ⟨E2,D2,⟨b,zF,YI,hfi⟩,dt⟩
   exact⟨E2,D2,⟨b.mono (by omega) (Nat.le_refl _) (Nat.le_refl _)<|by omega,zF,YI,hfi⟩,dt⟩
 ·-- it leaves the field
  obtain⟨b,zF,YI,hfi⟩:=hN
  have ag7:o∈D2.ob:=zF▸hin
  have afH:D2.obj id=some o:=hid▸aai b.li.nd ag7
  obtain⟨i2,hi2,ae1,_,_⟩:=sT afH
  have gK:=b.li.small (by omega) (by omega)<|by omega
  have hn1:=xR b.li<|by omega
  have hI2:=b.li.o o ag7
  have hlo:1<=id/\id<=1000000:=hid▸⟨hI2.i1,aaI b.li (by omega) hI2.i2⟩
  have Sc:D2.co≠id:=by rw[b.li.co];omega
  have oZ:∀o2∈D2.ob,o2.block≠id:=λo2 uY=>by rw[(b.li.o o2 uY).bl];omega
  refine abN (b.li.ge L hP (by omega) h3<|by omega) L.hN L.bm.do_ hf nr afH λs2 dt=>?_
  by_cases htk:o.token=true
  ·rw[if_pos htk]
   refine(kM L.hB dt gK hf (Nat.le_trans b.len<|by omega) (by decide) (by decide) (by decide) (by decide) (aal L.hB gK b.li.ev hi2 ae1 (by rw[b.li.pl];exact hq) hoq b.li.st Sc oZ (L.says.cease id · hlo.1 hlo.2))).post ?_
   rintro _ s3 ⟨_,gw⟩
   obtain⟨hLI,ahc,ajy,ajq⟩:=b.li.left hi2 ae1 hoq
   have hnext:=h.next hx h.bd.li.nd hLI.nd (λy hy=>by obtain⟨o2,h5,h6,_⟩:=h.bd.li.on y hy;exact⟨o2,h5,h6⟩) (λo2 h5 h6=>by
    rw[show({ D2.left id i2 o.ci q with wa:=D2.wa.map (qa id) }:SD).ob=_ from ahc]
    exact List.mem_filter.2 ⟨zF▸h5,by simp[h6]⟩) (by
    show(D2.left id i2 o.ci q).fi=_
    rw[hz,SD.IG,<- hfi]
    rfl)
   refine⟨_,_,⟨⟨?_,hLI.mono (by omega) (by omega) (Nat.le_refl _)<|by omega,?_,?_⟩,h.sub,h.ll,hk,λo2 uY=>?_,?_,hnext.1,hnext.2⟩,gw⟩
   ·rw[List.length_append]
    exact Nat.le_trans (Nat.add_le_add_right b.len 1)<|by omega
   ·exact ajy.trans b.pl
   ·exact(acT ..).trans b.oc
   ·rw[show({ D2.left id i2 o.ci q with wa:=D2.wa.map (qa id) }:SD).ob=_ from ahc]at uY
    exact h.ob o2<|zF▸(List.mem_filter.1 uY).1
   ·show d0.nx<=(D2.left id i2 o.ci q).nx
    rw[ajq]
    exact Int.le_trans h.nx YI
  ·rw[if_neg htk]
   have h2s:0<=D2.sp/\D2.sp<=1000000:=by have:=b.li.sp;omega
   obtain⟨hG,ag1⟩:=b.li.gone hi2 ae1
   obtain⟨hA,ai4,al3,ai3,ag0⟩:=hG.aiV hq hoq ⟨j,P0,hj⟩
   refine(sP L.hB dt gK hf (Nat.le_trans b.len<|by omega) (ab7 L.hB L.mv gK b.li.ev hi2 ae1 (by rw[b.li.pl];exact hq) hoq hz b.li.st Sc oZ ⟨by omega,hn1.2⟩ h2s (L.says.move id · hlo.1 hlo.2)) (hA.small (by omega) (by omega)<|by omega)<|xR hA<|by omega).post ?_
   rintro _ s3 ⟨_,gw⟩
   have aji:∀o2∈(({ D2.gone id i2 with wa:=D2.wa.map (qa id) }:SD).add (pX o 3) q).ob,o2∈D2.ob\/o2=(pX o 3).new1 D2.nx:=λo2 uY=>by
    rw[ag0]at uY
    rcases List.mem_append.1 uY with uY|uY
    ·rw[show({ D2.gone id i2 with wa:=D2.wa.map (qa id) }:SD).ob=_ from ag1]at uY
     exact .inl (List.mem_filter.1 uY).1
    ·exact .inr<|List.mem_singleton.1 uY
   have hnext:=h.next hx h.bd.li.nd hA.nd (λy hy=>by obtain⟨o2,h5,h6,_⟩:=h.bd.li.on y hy;exact⟨o2,h5,h6⟩) (λo2 h5 h6=>by
    rw[ag0]
    refine List.mem_append_left _ ?_
    rw[show({ D2.gone id i2 with wa:=D2.wa.map (qa id) }:SD).ob=_ from ag1]
    exact List.mem_filter.2 ⟨zF▸h5,by simp[h6]⟩) (by
    rw[aeL]
    show D2.fi.filter _=_
    rw[<- hfi])
   refine⟨_,_,⟨⟨?_,hA.mono (by omega) (by omega) (Nat.le_refl _)<|by omega,?_,?_⟩,h.sub,h.ll,hk,λo2 uY=>?_,?_,hnext.1,hnext.2⟩,gw⟩
   ·rw[List.length_append]
    exact Nat.le_trans (Nat.add_le_add_right b.len 1)<|by omega
   ·exact ai4.trans b.pl
   ·exact(aeM ..).trans b.oc
   ·rcases aji o2 uY with h5 | rfl
    ·exact h.ob o2<|zF▸h5
    ·exact .inr<|Int.le_trans h.nx YI
   ·rw[ai3]
    show d0.nx<=D2.nx+1
    have:=h.nx
    omega
theorem ace (L:LEnv P K F T tF)(hP:uS C)(hBe:∀c∈C,c.kind=2->∀x∈c.ab,x.kind=3)(hf:Has bf (.r false [bu bl aZ c0 c1 c2 c3 c4 bE] 8) t)(eQ:cI t aZ C)(h1:e<=3000)(h2:n<=900)(h3:f<=30)(h4:w<=60)(hs:aH bl EL d t s)(h:TG e n f w d.pl EL d) :
  bB P K (F 99) [.agg [gm tF bf]] s (λv s'=>∃b,v=.bool b/\∃E2 D2,TG (e+930) (n+30) f (w+900) d.pl E2 D2/\k8 D2 C (λo _=>weakP gA D2 C o) D2.fi=[]/\aH bl E2 D2 t s'):=by
 have hB:=h.li.bdx L hP (by omega) h3<|by omega
 have hl:(k8 d C (λo _=>weakP gA d C o) d.fi).length<=30:=Nat.le_trans (List.length_filter_le ..)<|Nat.le_trans h.li.fi h3
 refine(aap hB.hE L.hN L.hQ L.weak hf eQ hs hB.cd hB.all (J:=λLL k E D=>LL=k8 d C (λo _=>weakP gA d C o) d.fi/\DyS e n f w d LL k E D) ⟨rfl,h,λid hid=>(List.mem_filter.1 hid).1,hl,Nat.zero_le _,λo ho=>.inl ho,Int.le_refl _,(List.filter_eq_self.2 λy _=>by simp).symm,λy _=>rfl⟩ (λLL q E2 D2 hJ=>hJ.2.bd.li.small (by have:=hJ.2.ll;have:=hJ.2.kl;omega) (by omega) (by have:=hJ.2.ll;have:=hJ.2.kl;omega))
  (λLL q id E D2 hx hJ hno=>⟨hJ.1,?_⟩)
  (λLL m2 q id E D2 o s2 hx hJ abl dt=>(aiZ L hP (.app hf) (eQ.mono λq hq=>List.mem_append_right _ hq) h1 h2 h3 h4 h.li hx hJ.2 abl dt).post ?_)).post ?_
 ·have hJ:=hJ.2
  refine⟨hJ.bd.mono (by omega) (by omega) (Nat.le_refl _)<|by omega,hJ.sub,hJ.ll,(List.getElem?_eq_some_iff.1 hx).1,hJ.ob,hJ.nx,hJ.fi.trans<|List.filter_congr λy hy=>?_,hJ.same⟩
  rw[take_succ hx]
  by_cases h5:y∈LL.take q
  ·simp[h5]
  ·by_cases h6:y=id
   ·have:y∈D2.fi:=by
     rw[hJ.fi]
     grind
    obtain⟨o,h7,h8,_⟩:=hJ.bd.li.on y this
    rw[<- h6,<- h8,aai hJ.bd.li.nd h7]at hno
    cases hno
   grind
 ·grind
 ·rintro v s3 ⟨r,rfl,_,E3,D3,⟨_,hJ⟩,gw⟩
  refine⟨r,rfl,E3,D3,hJ.bd.mono (by omega) (by omega) (Nat.le_refl _)<|by omega,?_,gw⟩
  have hfi:=hJ.fi
  refine List.filter_eq_nil_iff.2 λy hy=>?_
  rw[adF hfi hJ.same (λy hy hp b=>?_) hy]
  ·intro hw
   rw[hfi]at hy
   obtain⟨h5,h6⟩:=List.mem_filter.1 hy
   have h6:y ∉ k8 d C (λo _=>weakP gA d C o) d.fi:=by simpa using h6
   exact h6<|List.mem_filter.2 ⟨h5,hw⟩
  ·have hp:y∈k8 d C (λo _=>weakP gA d C o) d.fi:=by simpa using hp
   exact aca hBe (List.mem_filter.1 hp).2 b
theorem afa {q:LD->Bool}{D:SD}(h:D.pl=d.pl)(n:Nat):dM q D n=dM q d n:=by
 unfold dM
 congr 2
 funext p
 unfold B8
 rw[h]
structure Stl (e n f w:Nat)(C:List CD)(EL:List (List AV))(D:SD):Prop where
 len:EL.length<=e
 li:LI e n f w D
 ok:D.oc≠0\/D.oc=0/\Calm C D
theorem aeT (L:LEnv P K F T tF)(hP:uS C)(hf:Has bf (.r false [bu bl aZ c0 c1 c2 c3 c4 bE] 8) t)(h1:e<=4900)(h2:n<=1000)(h3:f<=30)(h4:w<=1000)(hs:aH bl EL d t s)(h:TG e n f w d.pl EL d)(hl:dM dh d d.pl.length=[])(hw:k8 d C (λo _=>weakP gA d C o) d.fi=[]) :
  bB P K (F 100) [.agg [gm tF bf]] s (λv s'=>∃b,v=.bool b/\∃E2 D2,Stl (e+1) n f w C E2 D2/\aH bl E2 D2 t s'):=by
 have gK:=h.li.small h2 (by omega) h4
 have step:∀(a x:Int)(m:SH)s2,a≠0->(∀s,bB P K (F 201) [.agg (evRow 29 a x 0 0 l5)] s<|λv s'=>v=iv 0/\s'=s)->aH bl EL d (m++t) s2->bB P K (F 66) [.agg [gm tF bf],iv 29,iv a,iv x] s2 (λ_ s3=>∃E2 D2,Stl (e+1) n f w C E2 D2/\aH bl E2 D2 t s3):=λa x m s2 ha lm dt=>by
  refine aag L.hS L.bm λb4=>(kM L.hB (aH.bK (m:=[_]) dt) gK (.app hf) (Nat.le_trans h.len<|by omega) (by decide) (by decide) (by decide) (by decide)<|aaX L.hB gK h.li.ev lm).post ?_
  rintro _ s3 ⟨_,gw⟩
  refine⟨_,_,⟨?_,(h.li.other (pl:=d.pl) h.li.pl (oc:=a) (wi:=x)).mono (Nat.le_succ _) (Nat.le_refl _) (Nat.le_refl _) (Nat.le_refl _),.inl ha⟩,gw.fb⟩
  rw[List.length_append]
  exact Nat.add_le_add_right h.len 1
 exact aa3 (h.li.ge L hP h2 h3 h4) L.hN L.hS L.bm hf hs (R:=λ_ s3=>∃E2 D2,Stl (e+1) n f w C E2 D2/\aH bl E2 D2 t s3) (λs2 hh dt=>⟨EL,d,⟨Nat.le_trans h.len<|Nat.le_succ _,h.li.mono (Nat.le_succ _) (Nat.le_refl _) (Nat.le_refl _)<|Nat.le_refl _,hh.elim .inl λh5=>.inr ⟨h.oc,hl,hw,h5⟩⟩,dt⟩)
  (λm q s2 _ hq dt=>step 1 (.ofNat q) m s2 (by decide) (L.says.win q · (h.li.pl▸hq)) dt) (λm s2 _ dt=>step 2 0 m s2 (by decide) L.says.draw dt)
theorem aen (L:LEnv P K F T tF)(hP:uS C)(hBe:∀c∈C,c.kind=2->∀x∈c.ab,x.kind=3)(hf:Has bf (.r false [bu bl aZ c0 c1 c2 c3 c4 bE] 8) t)(eQ:cI t aZ C)(h1:e+3*(1+w+6*n)<=3000)(h2:n<=900)(h3:f<=30)(h4:w<=60)(h5:f<=n)(hs:aH bl EL d t s)(h:TG e n f w d.pl EL d) :
  bB P K (F 42) [gm tF bf] s (λv s'=>∃b,v=.bool b/\∃E2 D2,Stl (e+3*(1+w+6*n)+931) (n+30) f (w+900) C E2 D2/\aH bl E2 D2 t s'):=by
 refine(aba L.hB L.hI L.hS L.hN L.t128 L.bm hf hs (h.li.small (by omega) (by omega)<|by omega) h.oc (I0:=λ_ E D=>TG e n f w D.pl E D) (I1:=λ_ E D=>TG (e+3*(1+w+6*n)) n f w D.pl E D/\dM dh D D.pl.length=[]) (I2:=λ_ E D=>TG (e+3*(1+w+6*n)+930) (n+30) f (w+900) D.pl E D/\dM dh D D.pl.length=[]/\k8 D C (λo _=>weakP gA D C o) D.fi=[]) (I3:=λ_ E D=>Stl (e+3*(1+w+6*n)+931) (n+30) f (w+900) C E D) h (λm b E D s1 hI nr=>?_) (λm b E D s1 hI nr=>?_)<|λm b E D s1 hI nr=>?_).post ?_
 ·refine(acr L hP (.app hf) (by omega) (by omega) h3 (by omega) h5 nr hI).post ?_
  grind
 ·refine(ace L hP hBe (.app hf) (eQ.mono λq hq=>List.mem_append_right _ hq) h1 h2 h3 h4 nr hI.1).post ?_
  rintro _ s2 ⟨r,rfl,E2,D2,h6,h7,dt⟩
  exact⟨r,rfl,E2,D2,⟨⟨h6.len,h6.li,rfl,h6.oc⟩,by rw[afa h6.pl,h6.pl];exact hI.2,h7⟩,dt⟩
 ·exact aeT L hP (.app hf) (by omega) (by omega) h3 (by omega) nr hI.1 hI.2.1 hI.2.2
 grind
open Go.Proofs
set_option maxRecDepth 100000
@[reducible] def pS (d:SD)(W S:List ID):SD:={ d with wa:=W,nx:=d.nx+(S.length:Int),st:=S }
theorem abW (h:d.st=[]):pS d d.wa []=d:=by
 cases d
 grind
variable {W S:List ID}
theorem afj {y:ID}:({ pS d W S with nx:=(pS d W S).nx+1,st:=S++[y] }:SD)=pS d W (S++[y]):=by
 grind
structure V0 (d:SD)(B:Nat)(W S:List ID)(EL:List (List AV)):Prop where
 sub:W.Sublist d.wa
 s8:S.length<=8
 len:EL.length+2*W.length<=B
variable {B:Nat}
theorem V0.small (hI:V0 d B W S EL)(h:LI e n f w d)(h2:n<=1000)(h3:f<=1000)(h4:w<=1000):(pS d W S).Small:=by
 have a:=h.small h2 h3 h4
 exact⟨⟨a.n1.1,a.n1.2.1,a.n1.2.2.1,Nat.le_trans hI.s8<|by decide,Nat.le_trans hI.sub.length_le a.n1.2.2.2.2⟩,a.n2⟩
structure aak (P:Program)(K:Orc)(F:Nat->FuncId):Prop where
 push:∀(c o k a:Int)s,0<=c/\c<=2->-1<=o/\o<=1000000->0<=k/\k<=3->0<=a/\a<=3->bB P K (F 201) [.agg (evRow 15 0 0 0 0 ⟨0,3,c,o,k,a⟩)] s (λv s'=>v=iv 0/\s'=s)
 limit:∀s,bB P K (F 201) [.agg (evRow 29 3 0 0 0 l5)] s<|λv s'=>v=iv 0/\s'=s
theorem filter_lt {α:Type}(p:α->Bool):∀(l:List α)(x:α),x∈l->p x=false->(l.filter p).length+1<=l.length:=by
 intro l
 induction l with
 | nil=>grind
 | cons a l ih=>
  grind
def aig (F:Nat->FuncId):AC:=NF (pt (a19 F λn=>n) [1,1,1,1,0,1,0,1,0,1,1,0,0]) _
@[reducible] def ahu (b2 b3:Nat)(v:AV)(n q:Nat):Sl:=[(2,.ptr (some ⟨b2,0,0⟩)),(3,.ptr (some ⟨b3,0,0⟩)),(36,v),(37,iv (.ofNat n)),(38,iv (.ofNat q))]
variable {a b:Int}
theorem ad5:binV .geq (iv a) (iv b)=some (.bool (!decide (a<b))):=by
 show some (AV.bool<|!ilt a b)=_
 rw[du]
variable {b2 b3:Nat}{v:AV}
theorem afi (L:LEnv P K F T tF)(hc:aak P K F)(N9:Ty P (T 24) 5)(hli:LI e n f w d)(h1:e<=5000)(h2:n<=1000)(h3:f<=1000)(h4:w<=1000)(hBl:B<=4900){own:List ID}
  (hs:aH bl EL (pS d W S) ((b2,.r false [[.bool false]] 1)::t) s) (hI:V0 d B W S EL) (hf:Has bf (.r false [bu bl aZ c0 8 c2 c3 c4 bE] 8) t) (hg:Has b3 (.r false [[gm tF bf]] 1) t) (hv:Src t 7 v (CT own)) (hown:∀x∈own,x∈W) (hnd:(own.map ID.id).Nodup) (UG:own.length<=1000)
  (hl:∀j w,lk (ahu b2 b3 v own.length 0) j=some w->lk l j=some w)
  (hQ:∀(vj:List (List AV))(W' S':List ID)(s':SH)(l':Sl),aH bl vj (pS d W' S') ((b2,.r false [[.bool false]] 1)::t) s'->V0 d B W' S' vj->(∀y∈W',y∈W/\∀x∈own,y.id≠x.id)->Qn l' [] s')
  (hR:∀(vj:List (List AV))(W' S':List ID)(s':SH)(l':Sl),aH bl vj { pS d W' S' with oc:=3,wi:=0 } t s'->V0 d (B+1) W' S' vj->Qr l' [] ((b2,.r false [[.bool true]] 1)::s')) :
  WP P K rd 64 (.block 2<|.loop<|aig F) l [] s Qn Qe Qr:=by
 refine Wb ?_
 refine Wp (λk l ds s'=>ds=[]/\∃q vj W' S',k=own.length-q/\q<=own.length/\aH bl vj (pS d W' S') ((b2,.r false [[.bool false]] 1)::t) s'/\V0 d B W' S' vj/\(∀x∈own.drop q,x∈W')/\(∀y∈W',y∈W/\∀x∈own.take q,y.id≠x.id)/\∀j w,lk (ahu b2 b3 v own.length q) j=some w->lk l j=some w) ?_ (n:=own.length-0)
  ⟨rfl,0,EL,W,S,rfl,Nat.zero_le _,hs,hI,hown,λy hy=>⟨hy,λx hx=>nomatch hx⟩,hl⟩
 rintro k l ds s' ⟨rfl,q,vj,W',S',rfl,hq,hL,hI,j5,acP,hl⟩
 refine Wg hl (λ_ _ h=>h) ?_
 refine Vk (k:=Wd rfl (λht=>?_)<|λht=>?_)
 ·have hlt:q<own.length:=bh.1 ht
  have gK:=hI.small hli h2 h3 h4
  have hsrc:Src s' 7 v (CT own):=hv.mono λp hp=>(hL.mem<|.there<|.ce hp).mem
  obtain⟨bq,rq,nq,cq,sq,roq,Mq,rfl,hbq,hnq,hMq⟩:=hsrc.at (i:=q)<|by simpa[CT]using hlt
  have hrow:(CT own)[q]?=some (own[q]).row:=by rw[CT,List.getElem?_map,List.getElem?_eq_getElem hlt];rfl
  have hxw:own[q]∈W':=j5 _ (by rw[List.drop_eq_getElem_cons hlt];exact List.mem_cons_self ..)
  have gc:own.take (q+1)=own.take q++[own[q]]:=by rw[List.take_add_one,List.getElem?_eq_getElem hlt];rfl
  have aed:∀x∈own.drop (q+1),x∈W'/\x.id≠own[q].id:=by
   intro y hy
   have h1:y∈own.drop q:=by rw[List.drop_eq_getElem_cons hlt];exact List.mem_cons_of_mem _ hy
   refine⟨j5 y h1,?_⟩
   have h2:((own.drop q).map ID.id).Nodup:=hnd.sublist<|(List.drop_sublist q own).map _
   rw[List.drop_eq_getElem_cons hlt,List.map_cons,List.nodup_cons]at h2
   intro e
   exact h2.1<|e▸List.mem_map_of_mem hy
  generalize own[q]=x at *
  obtain⟨i1,i2,hit⟩:=hli.wx x<|hI.sub.mem hxw
  have YI:=hli.nx
  have hs8:=hI.s8
  have hlen:=hI.len
  have akq:=filter_lt (λy:ID=>!decide (y.id=x.id)) W' x hxw<|by simp
  have hE2:vj.length<=4900:=by omega
  refine Wi<|Ws<|Wb<|Wq<|Wr (.iaddrS rfl rfl hnq<|by omega)<|Wl rfl hbq (hMq.trans hrow) rfl rfl<|Wa (.alloc rfl) λb7=>Ww<|Wt rfl rfl rfl .here rfl rfl<|Wn ?_
  have hs7:aH bl vj (pS d W' S') ((b7,.r false [x.row] 7)::(b2,.r false [[.bool false]] 1)::t) ((b7,.r false [x.row] 7)::s'):=hL.cons
  have KF:Has b3 (.r false [[gm tF bf]] 1) ((b7,.r false [x.row] 7)::(b2,.r false [[.bool false]] 1)::t):=.there<|.there hg
  have hf2:Has bf (.r false [bu bl aZ c0 8 c2 c3 c4 bE] 8) ((b7,.r false [x.row] 7)::(b2,.r false [[.bool false]] 1)::t):=.there<|.there hf
  -- is there room
  refine Ws<|Ws<|WP.bD<|Dp (.faddr rfl)<|Dl rfl .nil (.load rfl (hs7.mem KF) rfl rfl rfl)<|Dc .nil<|WS.invoke (vs:=[]) rfl L.bm.stack rfl (aev L.hB L.hI hs7 gK hf2) ?_
  rintro w s8 ⟨ae4,hst⟩
  have lst:lenOf w=some S'.length:=by rw[hst.lenOf];simp[CT]
  refine Dp (.lenS rfl lst)<|Dp (.faddr rfl)<|WD.lk rfl .nil (.load rfl (ae4.mem KF) rfl rfl rfl)<|Dc .nil<|WS.invoke (vs:=[]) rfl L.bm.config rfl (aa2 L.hI N9<|ae4.mem hf2) ?_
  rintro w2 _ ⟨rfl,m9,rfl⟩
  have hs9:aH bl vj (pS d W' S') ((b7,.r false [x.row] 7)::(b2,.r false [[.bool false]] 1)::t) (m9++s8):=ae4.bK
  refine Dp (.fld rfl rfl)<|Dp (.arith rfl rfl ad5)<|D0 .nil ?_<|ob2 (by simp[dz,sameN,same0]) (.load rfl (hs7.mem KF) rfl rfl rfl)<|.load rfl (ae4.mem KF) rfl rfl rfl
  refine Wd rfl (λCw=>?_)<|λhroom=>Wi ?_
  ·-- there is none
   have apO:Ap P K F 29 3 0 0 0 l5 (pS d W' S') { pS d W' S' with oc:=3,wi:=0 }:=aaX L.hB gK ⟨hli.ev.lb,hli.ev.hd,hli.ev.gr,hli.ev.ex⟩ hc.limit
   refine Vk (k:=Ww<|W1 (aag L.hS L.bm (R:=λs'=>aH bl (vj++[evRow 29 3 0 0 0 l5]) { pS d W' S' with oc:=3,wi:=0 } ((b7,.r false [x.row] 7)::(b2,.r false [[.bool false]] 1)::t) s') λb4=>(kM L.hB hs9.cons gK (.there hf2) (by omega) (by omega) (by omega) (by omega) (by omega) apO).post λv s' h=>h.2.tail) ?_)
   intro w3 s10 acl
   refine Wn ?_
   obtain⟨s11,p11,aef⟩:=acl.first
   obtain⟨s12,p12,af8⟩:=aef.first
   refine WP.pre (s':=(b2,.r false [[.bool false]] 1)::(b7,.r false [x.row] 7)::s12) (ak λc w h0 h1 h2 hq=>by simp only[h2,hq _ _ p11,hq _ _ p12];omega)<|Vk (k:=We ?_)
   refine hR _ W' S' _ _ (aH.bK (m:=[_]) af8) ⟨hI.sub,hs8,?_⟩
   rw[List.length_append,List.length_singleton]
   omega
  have hroom:S'.length<8:=by
   have h5:=of_decide_eq_true (Bool.not_eq_false' ..▸hroom:decide ((S'.length:Int)<8)=true)
   omega
  -- it waits no more
  have apU:Ap P K F 18 x.id 0 0 0 l5 (pS d W' S') (pS d (W'.filter λy=>!decide (y.id=x.id)) S'):=aam L.hB L.it (a:=x.id) (b:=0) (n:=0) (m:=0) (it:=l5) gK ⟨hli.ev.lb,hli.ev.hd,hli.ev.gr,hli.ev.ex⟩ (by rw[List.findIdx?_isSome];exact List.any_eq_true.2 ⟨x,hxw,by simp⟩)<|λs=>L.says.unwait x.id s i1<|by omega
  have Y0:(pS d (W'.filter λy=>!decide (y.id=x.id)) S').Small:=⟨⟨gK.n1.1,gK.n1.2.1,gK.n1.2.2.1,gK.n1.2.2.2.1,Nat.le_trans (List.length_filter_le _ _) gK.n1.2.2.2.2⟩,gK.n2⟩
  refine Vk (k:=Ww<|W1 (aag L.hS L.bm (R:=λs'=>aH bl (vj++[evRow 18 x.id 0 0 0 l5]) (pS d (W'.filter λy=>!decide (y.id=x.id)) S') ((b7,.r false [x.row] 7)::(b2,.r false [[.bool false]] 1)::t) s') λb4=>(kM L.hB hs9.cons gK (.there hf2) (by omega) (by omega) (by omega) (by omega) (by omega) apU).post λv s' h=>h.2.tail) ?_)
  intro w3 s10 acl
  refine Wn ?_
  -- it alY anp the stack
  obtain⟨s11,ajt,aef⟩:=acl.first
  refine WP.pre ajt<|Vk (k:=?_)
  have hxe:({ x with id:=0 }:ID)=⟨0,3,x.aQ,x.obj,x.gE,x.Tk⟩:=by
   have h1:=hit.kd
   cases x
   simp_all
  have af8:aH bl (vj++[evRow 18 x.id 0 0 0 l5]) (pS d (W'.filter λy=>!decide (y.id=x.id)) S') ((b7,.r false [({ x with id:=0 }:ID).row] 7)::(b2,.r false [[.bool false]] 1)::t) ((b7,.r false [({ x with id:=0 }:ID).row] 7)::s11):=aef.cons
  have apP:Ap P K F 15 0 0 0 0 { x with id:=0 } (pS d (W'.filter λy=>!decide (y.id=x.id)) S') (pS d (W'.filter λy=>!decide (y.id=x.id))<|S'++[{ x with id:=d.nx+(S'.length:Int) }]):=
   afj▸ac8 L.hB L.it (a:=0) (b:=0) (n:=0) (m:=0) (it:={ x with id:=0 }) Y0 ⟨hli.ev.lb,hli.ev.hd,hli.ev.gr,hli.ev.ex⟩ ⟨by show 0<=d.nx+(S'.length:Int);omega,by show d.nx+(S'.length:Int)<=1000000;omega⟩ (by rw[hxe];exactλs=>hc.push _ _ _ _ s hit.ct hit.ob hit.cd hit.ab)
  have hI2:V0 d B (W'.filter λy=>!decide (y.id=x.id)) (S'++[{ x with id:=d.nx+(S'.length:Int) }]) (vj++[evRow 18 x.id 0 0 0 l5]++[evRow 15 0 0 0 0 { x with id:=0 }]):=by
   refine⟨List.filter_sublist.trans hI.sub,?_,?_⟩
   ·rw[List.length_append,List.length_singleton];omega
   ·rw[List.length_append,List.length_append,List.length_singleton,List.length_singleton];omega
  refine Vk (k:=Wr (.build rfl rfl)<|Ww<|WS.invoke (vs:=[.agg (evRow 15 0 0 0 0 { x with id:=0 })]) rfl L.bm.do_ rfl (abD L.hB af8 Y0 (.there<|.there hf) (by rw[List.length_append,List.length_singleton];omega) apP (hI2.small hli h2 h3 h4) ⟨by show 1<=d.nx+(_:Int);omega,by show d.nx+((S'++[_]).length:Int)<=1000000;rw[List.length_append,List.length_singleton];omega⟩) ?_)
  rintro w4 s13 ⟨rfl,ajC⟩
  refine Vk (k:=?_)
  refine⟨own.length-(q+1),by omega,rfl,q+1,_,_,_,rfl,hlt,ajC.tail,hI2,λy hy=>?_,λy hy=>?_,bX rfl⟩
  ·exact List.mem_filter.2 ⟨(aed y hy).1,by simp[(aed y hy).2]⟩
  ·obtain⟨h5,h6⟩:=List.mem_filter.1 hy
   refine⟨(acP y h5).1,λz hz=>?_⟩
   rw[gc]at hz
   rcases List.mem_append.1 hz with hz|hz
   ·exact(acP y h5).2 z hz
   ·rw[List.mem_singleton.1 hz]
    intro hh
    simp[hh]at h6
 ·refine Wx ?_
  have:q=own.length:=by
   have:¬q<own.length:=λh=>by rw[fw,show Nat.blt q own.length=true from bh.2 h]at ht;cases ht
   omega
  subst this
  rw[List.take_length]at acP
  exact hQ vj W' S' s' _ hL hI acP
open Go.Proofs
set_option maxRecDepth 100000
def aaM (p:Int):List AV->Bool
 | _::_::.int _ n::_=>!decide (n=p)
 | _=>true
theorem agl (t:TypeId)(b r o:Nat):dz (.iface t (.ptr (some ⟨b,r,o⟩))) (.iface t (.ptr (some ⟨b,r,o⟩)))=true:=by
 simp[dz,sameN,same0]
def aif (F:Nat->FuncId):AC:=NF (pt (a19 F λn=>n) [1,1,1,1,0,1,0,1]) _
variable {b4:Nat}
theorem ade (hB:Base P K F T)(hI:BaseI P K F T)(hS:BaseS P K F T){L:List ID}{p:Int}{m o:SH}(h:Gr 7 v (CT L) o)(hn:L.length<=1000)(hb:Has b4 (.r false [[iv p]] 1) t) :
  bB P K (F 63) [v,.func (F 65) [] [.ptr (some ⟨b4,0,0⟩)]] (m++(o++t)) (λv' s'=>∃o' x,s'=x++(m++(o'++t))/\Gr 7 v' (CT<|L.filter λy=>decide<|y.aQ=p) o'):=by
 have dP:∀row∈CT L,∀y:SH,Has b4 (.r false [[iv p]] 1) y->c6 P K (.func (F 65) [] [.ptr (some ⟨b4,0,0⟩)]) [N0 true row] y (λw s'=>w=.bool (aaM p row)/\∃m,s'=m++y):=λrow hr y hy=>by
  obtain⟨q,_,rfl⟩:=List.mem_map.1 hr
  exact c6.func<|adx hS hy
 have hlen:∀row∈CT L,row.length=7:=λrow hr=>by
  obtain⟨q,_,rfl⟩:=List.mem_map.1 hr
  rfl
 have vq:(CT L).filter (λr=>!aaM p r)=CT (L.filter λy=>decide<|y.aQ=p):=by
  rw[aaH L (λy=>!decide (y.aQ=p)) (aaM p) (λ_=>rfl)]
  grind
 refine hI.c63.cF<|xq (aaM p) h (by omega) rfl (.inl rfl) (by simp only[CT,List.length_map];omega) hlen (λh=>by cases h) ?_ (λrow hr y hy=>dP row hr y<|.ce<|hy _ hb.mem) λv' o' y hG=>⟨o',y,rfl,by grind⟩
 exact hB.afV.cF<|vz (aaM p) h.src (by omega) (.inl rfl) (by simp only[CT,List.length_map];omega) hlen (λrow hr y=>dP row hr _<|.app<|.app<|.app hb) λn=>⟨rfl,n,rfl⟩
theorem BaseS.c64 (hS:BaseS P K F T):FnK P K (F 64) 8 [.tmp 2] (fc 7 72 uv):=hS.f64
theorem ad2 (L:LEnv P K F T tF)(hc:aak P K F)(N9:Ty P (T 24) 5)(hli:LI e n f w d)(h1:e<=5000)(h2:n<=1000)(h3:f<=1000)(h4:w<=1000)(hBl:B<=4900){p:Int}
  (hs:aH bl EL (pS d W S) ((b2,.r false [[.bool false]] 1)::t) s) (hI:V0 d B W S EL) (hf:Has bf (.r false [bu bl aZ c0 8 c2 c3 c4 bE] 8) t) (hg:Has b3 (.r false [[gm tF bf]] 1) t) (h5:Has b4 (.r false [[iv p]] 1) t)
  (e2:lk l 2=some (.ptr<|some ⟨b2,0,0⟩)) (e3:lk l 3=some (.ptr<|some ⟨b3,0,0⟩)) (e4:lk l 4=some (.ptr<|some ⟨b4,0,0⟩))
  (hQ:∀(vj:List (List AV))(W' S':List ID)(s':SH)(l':Sl),aH bl vj (pS d W' S') ((b2,.r false [[.bool false]] 1)::t) s'->V0 d B W' S' vj->(∀y∈W',y∈W/\y.aQ≠p)->Qn l' [] s')
  (hR:∀(vj:List (List AV))(W' S':List ID)(s':SH)(l':Sl),aH bl vj { pS d W' S' with oc:=3,wi:=0 } t s'->V0 d (B+1) W' S' vj->Qr l' [] ((b2,.r false [[.bool true]] 1)::s')) :
  WP P K rd 64 (aif F) l [] s Qn Qe Qr:=by
 have gK:=hI.small hli h2 h3 h4
 have hW:W.length<=1000:=Nat.le_trans hI.sub.length_le<|Nat.le_trans hli.wa h4
 refine Wb<|Wq<|Wf e3<|Wl rfl (hs.mem<|.there hg) rfl rfl rfl<|Ww<|WS.invoke (vs:=[]) rfl L.bm.waits rfl (aad L.hB L.hI hs gK<|.there hf) ?_
 rintro w s2 ⟨dt,hw⟩
 refine Ww<|W1 (L.hS.c64.BV hw (by omega) (by simp only[CT,List.length_map];omega)<|by omega) ?_
 rintro v _ ⟨n,rfl,o,j,hp,hGr⟩
 have e4':lk (pl (some 33) v<|pl (some 32) w<|pl (some 31) (gm tF bf)<|pl (some 30) (.ptr<|some ⟨b3,0,0⟩) l) 4=some (.ptr<|some ⟨b4,0,0⟩):=e4
 refine Wr (.mkfn rfl<|(aV _ _ _ _).2 ⟨_,[],e4',rfl,rfl⟩)<|WO.pre (s':=[]++(o++(j++s2))) (ak λc w h0 h1 h2 hq=>by grind)<|Ww<|W1 (ade L.hB L.it L.hS hGr hW<|.app<|dt.mem<|.there h5) ?_
 rintro v' _ ⟨o',x,rfl,hGo⟩
 have gw:aH bl EL (pS d W S) ((b2,.r false [[.bool false]] 1)::(o'++t)) (x++([]++(o'++(j++s2)))):=((((aH.HW (x:=o') dt).tT List.perm_middle).bK (m:=j)).bK (m:=x)).perm (ak λc w h0 h1 h2 hq=>by simp only[h1];omega)
 refine Vk (k:=Wr (.lenS rfl hGo.lenOf)<|Wv rfl<|Wn ?_)
 have hlo:(CT<|W.filter λy=>decide<|y.aQ=p).length=(W.filter λy=>decide<|y.aQ=p).length:=by simp[CT]
 refine afi L hc N9 hli h1 h2 h3 h4 hBl (b2:=b2) (b3:=b3) (v:=v') gw hI (.app hf) (.app hg) (own:=W.filter λy=>decide<|y.aQ=p) (Src.mono hGo.out.src λq hq=>List.mem_append_left _ hq) (λy hy=>(List.mem_filter.1 hy).1) (((hli.wn.sublist<|hI.sub.map _)).sublist (List.Sublist.map _ List.filter_sublist)) (Nat.le_trans (List.length_filter_le _ _) hW) ?_ ?_ ?_
 ·refine aa e2 (aa e3<|aa rfl<|aa ?_<|bX rfl)
  show some (AV.int .i64<|.ofNat _)=_
  rw[hlo]
 ·intro vj W' S' s' l' h6 h7 h8
  refine hQ vj W' S' s' l' (aH.fb (x:=o')<|h6.tT List.perm_middle.symm) h7 λy hy=>⟨(h8 y hy).1,λhh=>?_⟩
  exact(h8 y hy).2 y (List.mem_filter.2 ⟨(h8 y hy).1,by simp[hh]⟩) rfl
 ·intro vj W' S' s' l' h6 h7
  exact hR vj W' S' s' l' h6.fb h7
theorem abX (hS:BaseS P K F T){y:AV}{fr:Nat}(hn:0<n)(hn1:n<=1000)(hf1:fr<=1000)(I:Nat->SH->Prop)(J:SH->Prop)(hb:∀i s,I i s->Has b3 (.r false [[iv (.ofNat n)]] 1) s/\Has b2 (.r false [[iv (.ofNat fr)]] 1) s)
  (hy:∀i s,i<n->I i s->c6 P K y [iv (.ofNat<|(fr+i)%n)] s (λv s'=>v=.bool true/\I (i+1) s'\/v=.bool false/\J s')) (h0:I 0 s):bB P K (F 112) [y,.ptr<|some ⟨b3,0,0⟩,.ptr<|some ⟨b2,0,0⟩] s (λ_ s'=>I n s'\/J s'):=by
 refine hS.f112.cF ?_
 refine Vk (k:=Wl rfl (hb 0 _ h0).1 rfl rfl rfl (Wv rfl<|Wn<|Wb ?_))
 refine Wp (λk l ds s'=>ds=[]/\∃q,k=n-q/\q<=n/\I q s'/\∀j w,lk [(0,y),(1,.ptr<|some ⟨b3,0,0⟩),(2,.ptr<|some ⟨b2,0,0⟩),(5,iv<|.ofNat n),(6,iv<|.ofNat q)] j=some w->lk l j=some w) ?_ (n:=n-0) ⟨rfl,0,rfl,Nat.zero_le _,h0,bX rfl⟩
 rintro k l ds s' ⟨rfl,q,rfl,hq,hI,hl⟩
 refine Wg hl (λ_ _ h=>h) ?_
 refine Vk (k:=Wd rfl (λht=>?_)<|λht=>?_)
 ·have hlt:q<n:=bh.1 ht
  refine Vk (k:=Wl rfl (hb q _ hI).2 rfl rfl rfl (Wv rfl<|Wj rfl rfl (bM<|by omega)<|Wl rfl (hb q _ hI).1 rfl rfl rfl (Wj rfl rfl (yi hn)<|Ww<|WS.call (vs:=[iv (.ofNat<|(fr+q)%n)]) rfl rfl (hy q _ hlt hI) ?_)))
  rintro w s2 (⟨rfl,hI2⟩|⟨rfl,hJ⟩)
  rotate_left
  ·exact Wr (.un rfl rfl)<|Wn<|Wd rfl (λ_=>We<|Wm .nil<|.inr hJ) Dz
  refine Vk (k:=?_)
  exact⟨n-(q+1),by omega,rfl,q+1,rfl,hlt,hI2,bX rfl⟩
 ·refine Wx ?_
  have:q=n:=by
   have:¬q<n:=λh=>by rw[fw,show Nat.blt q n=true from bh.2 h]at ht;cases ht
   omega
  subst this
  exact Wm .nil<|.inl hI
theorem aaE (L:LEnv P K F T tF)(ht4:isAggT P (T 4)=some false/\size? P (T 4)=some 1)(hd:d.Small)(h0:d.oc≠0\/d.wa=[])(hf:Has bf (.r false [bu bl aZ c0 c1 c2 c3 c4 bE] 8) t)(hs:aH bl EL d t s) :
  bB P K (F 19) [gm tF bf] s (λv s'=>v=.bool false/\aH bl EL d t s'):=by
 refine L.hS.f19.ZH ?_
 refine Wq<|Wa (.alloc rfl) λb2=>Wn<|Ws<|Wq<|Wv rfl<|Wh (b:=false) rfl rfl rfl<|Wn<|Wd rfl fS<|λ_=>Wi<|Wq<|Wv rfl<|Wr (.build rfl rfl)<|Wa (.alloc rfl) λb3=>Vk (k:=?_)
 have nr:aH bl EL d ((b3,.r false [[gm tF bf]] 1)::(b2,.r false [[.bool false]] 1)::t) ((b3,.r false [[gm tF bf]] 1)::(b2,.r false [[.bool false]] 1)::s):=hs.cons.cons
 have fin:∀{s3:SH}{Qn:Po}{Qe:Nat->Po}(l:Sl),lk l 2=some (.ptr<|some ⟨b2,0,0⟩)->aH bl EL d ((b3,.r false [[gm tF bf]] 1)::(b2,.r false [[.bool false]] 1)::t) s3->WP P K none 64 (oN [zn (.store 1 2<|.const<|.bool false)] .ret) l [] s3 Qn Qe (Bi P [.cell 2 (T 4)] λv s'=>v=.bool false/\aH bl EL d t s'):=λ{s3 Qn Qe} l hl gw=>by
  obtain⟨s4,p4,pM⟩:=gw.first
  obtain⟨s5,p5,dT⟩:=pM.first
  refine WP.pre (s':=(b2,.r false [[.bool false]] 1)::(b3,.r false [[gm tF bf]] 1)::s5) (ak λc w h0 h1 h2 hq=>by simp only[h2,hq _ _ p4,hq _ _ p5];omega) ?_
  exact Wq<|Ww<|Wt hl rfl rfl .here rfl rfl<|Wn<|We ⟨[],_,rfl,.refl _,_,.cell hl ht4.1 ht4.2 (.inr rfl) .here rfl rfl rfl .nil,rfl,aH.bK (m:=[_,_]) dT⟩
 refine Vk (k:=Ww<|W1 (zY L.hB L.hI L.hS L.t128 L.bm nr hd<|.there<|.there hf) ?_)
 rintro w s2 ⟨rfl,dt⟩
 by_cases P0:d.oc=0
 ·have KO:d.wa=[]:=h0.resolve_left (λh=>h P0)
  rw[decide_eq_true P0]
  refine Vk (k:=Ww<|WS.invoke (vs:=[]) rfl L.bm.waits rfl (aad L.hB L.hI dt hd<|.there<|.there hf) ?_)
  rintro w s3 ⟨gw,hw⟩
  have lw:lenOf w=some 0:=by rw[hw.lenOf,KO];rfl
  refine Wy<|Wr (.lenS rfl lw)<|Wy<|Wh (b:=true) rfl rfl rfl<|Wr (.bj rfl rfl)<|Wn ?_
  exact Wd rfl (λ_=>fin _ rfl gw) Dz
 ·rw[decide_eq_false P0]
  refine Wv rfl<|Wk<|Wk<|Wk<|Wk<|Wk<|Wr (.cV rfl rfl)<|Wn ?_
  exact Wd rfl (λ_=>fin _ rfl dt) Dz
theorem afk (L:LEnv P K F T tF)(hc:aak P K F)(N9:Ty P (T 24) 5)(ht4:isAggT P (T 4)=some false/\size? P (T 4)=some 1)(hli:LI e n f w d)(h1:e<=5000)(h2:n<=1000)(h3:f<=1000)(h4:w<=1000)(hBl:B<=4900)(P0:d.oc=0)(KO:d.wa≠[])(hE:EL.length+2*d.wa.length<=B)
  (hf:Has bf (.r false [bu bl aZ c0 8 c2 c3 c4 bE] 8) t) (hs:aH bl EL d t s) :
  bB P K (F 19) [gm tF bf] s (λv s'=>v=.bool true/\∃E2 W S,V0 d (B+1) W S E2/\(W=[]/\aH bl E2 (pS d W S) t s'\/aH bl E2 { pS d W S with oc:=3,wi:=0 } t s')):=by
 have hd:=hli.small h2 h3 h4
 refine L.hS.f19.ZH ?_
 refine Wq<|Wa (.alloc rfl) λb2=>Wn<|Ws<|Wq<|Wv rfl<|Wh (b:=false) rfl rfl rfl<|Wn<|Wd rfl fS<|λ_=>Wi<|Wq<|Wv rfl<|Wr (.build rfl rfl)<|Wa (.alloc rfl) λb3=>Vk (k:=?_)
 have nr:aH bl EL d ((b3,.r false [[gm tF bf]] 1)::(b2,.r false [[.bool false]] 1)::t) ((b3,.r false [[gm tF bf]] 1)::(b2,.r false [[.bool false]] 1)::s):=hs.cons.cons
 refine Vk (k:=Ww<|W1 (zY L.hB L.hI L.hS L.t128 L.bm nr hd<|.there<|.there hf) ?_)
 rintro w s2 ⟨rfl,dt⟩
 rw[show decide (d.oc=0)=true from decide_eq_true P0]
 refine Vk (k:=Ww<|WS.invoke (vs:=[]) rfl L.bm.waits rfl (aad L.hB L.hI dt hd<|.there<|.there hf) ?_)
 rintro w s3 ⟨gw,hw⟩
 have lw:lenOf w=some d.wa.length:=by rw[hw.lenOf];simp[CT]
 have hne:¬(Int.ofNat d.wa.length=Int.ofNat 0):=λh=>KO<|List.eq_nil_of_length_eq_zero<|Int.ofNat.inj h
 have e19:eqBy 20 .pi (iv<|.ofNat d.wa.length) (iv<|.ofNat 0)=some false:=by rw[cD,decide_eq_false hne]
 refine Vk (k:=WP.bD<|Dp (.faddr rfl)<|Dl rfl .nil (.load rfl (gw.mem .here) rfl rfl rfl)<|Dc .nil<|WS.invoke (vs:=[]) rfl L.bm.info rfl (abm L.hB L.hI L.t128 gw hd<|.there<|.there hf) ?_)
 rintro w4 s4 ⟨rfl,pM⟩
 refine Dp (.fld rfl rfl)<|Dp (.faddr rfl)<|WD.lk rfl .nil (.load rfl (pM.mem .here) rfl rfl rfl)<|Dc .nil<|WS.invoke (vs:=[]) rfl L.bm.yd rfl (acx L.hB L.hI pM hd<|.there<|.there hf) ?_
 rintro w5 s5 ⟨rfl,dT⟩
 refine Dc .nil<|W1 (adA L.hS) ?_
 rintro w6 _ ⟨br,bn,rfl,rfl⟩
 refine D0 .nil ?_<|ob2 (agl _ _ _ _) (.load rfl (gw.mem .here) rfl rfl rfl)<|.load rfl (pM.mem .here) rfl rfl rfl
 rw[hli.ac,hli.pl]
 have KL:aH bl EL d ((bn,.r false [[iv (.ofNat 3)]] 1)::(br,.r false [[iv 0]] 1)::(b3,.r false [[gm tF bf]] 1)::(b2,.r false [[.bool false]] 1)::t) ((bn,.r false [[iv (.ofNat 3)]] 1)::(br,.r false [[iv 0]] 1)::s5):=dT.cons.cons
 refine Wb<|Wg (l':=[(2,.ptr<|some ⟨b2,0,0⟩),(3,.ptr<|some ⟨b3,0,0⟩),(28,.func (F 112) [] [.ptr (some ⟨bn,0,0⟩),.ptr<|some ⟨br,0,0⟩])]) (bX rfl) (λ_ _ h=>h) ?_
 refine(WP.rf (first:=[]) (cap:=[.ptr (some ⟨bn,0,0⟩),.ptr<|some ⟨br,0,0⟩]) rfl λasg body X4 Ct D lb=>?_)
 show bB P K (F 112) [.yield lb,.ptr<|some ⟨bn,0,0⟩,.ptr<|some ⟨br,0,0⟩] _ _
 generalize hTT:((D,HO.ob .deferred)::(bn,.r false [[iv (.ofNat 3)]] 1)::(br,.r false [[iv 0]] 1)::(b3,.r false [[gm tF bf]] 1)::t:SH)=TT
 have tn:Has bn (.r false [[iv (.ofNat 3)]] 1) TT:=hTT▸.there .here
 have tr:Has br (.r false [[iv (.ofNat 0)]] 1) TT:=hTT▸.there (.there .here)
 have tg:Has b3 (.r false [[gm tF bf]] 1) TT:=hTT▸.there (.there<|.there .here)
 have tf:Has bf (.r false [bu bl aZ c0 8 c2 c3 c4 bE] 8) TT:=hTT▸.there (.there<|.there<|.there hf)
 have hs7:aH bl EL (pS d d.wa []) ((b2,.r false [[.bool false]] 1)::TT) ((D,.ob .deferred)::(bn,.r false [[iv (.ofNat 3)]] 1)::(br,.r false [[iv 0]] 1)::s5):=by
  rw[abW hli.st]
  subst hTT
  exact(KL.cons).tT (List.perm_middle (l₁:=[_,_,_,_]))
 refine(abX L.hS (fr:=0) (n:=3) (by omega) (by omega) (by omega)
  (λi s'=>∃vj W' S' s1,s'=(lb,.lp [(2,.ptr<|some ⟨b2,0,0⟩),(3,.ptr<|some ⟨b3,0,0⟩),(28,.func (F 112) [] [.ptr (some ⟨bn,0,0⟩),.ptr<|some ⟨br,0,0⟩])] 64 [29] asg body .ready none D)::s1/\aH bl vj (pS d W' S') ((b2,.r false [[.bool false]] 1)::TT) s1/\V0 d B W' S' vj/\∀y∈W',∀j:Nat,j<i->y.aQ≠.ofNat j)
  (λs'=>∃vj W' S' s1,s'=(lb,.lp [(2,.ptr (some ⟨b2,0,0⟩)),(3,.ptr (some ⟨b3,0,0⟩)),(28,.func (F 112) [] [.ptr (some ⟨bn,0,0⟩),.ptr (some ⟨br,0,0⟩)])] 64 [29] asg body .done (some .ret) D)::(b2,.r false [[.bool true]] 1)::s1/\aH bl vj { pS d W' S' with oc:=3,wi:=0 } TT s1/\V0 d (B+1) W' S' vj) ?_ ?_ ?_).post ?_
 ·rintro i _ ⟨vj,W',S',s1,rfl,h5,_⟩
  exact⟨.there<|h5.mem<|.there tn,.there<|h5.mem<|.there tr⟩
 ·rintro i _ hi ⟨vj,W',S',s1,rfl,h5,h6,h7⟩
  refine AU (by omega) X4 Ct ?_
  refine Wo<|Wa (.alloc rfl) λb4=>Ww<|Wt rfl rfl rfl .here rfl rfl<|Wn ⟨(b4,.r false [[iv (.ofNat<|(0+i)%3)]] 1)::s1,List.Perm.swap ..,?_⟩
  rw[show(0+i)%3=i by omega]
  have h8:=((h5.cons (p:=(b4,.r false [[iv (.ofNat i)]] 1))).cons (p:=(lb,.lp [(2,.ptr<|some ⟨b2,0,0⟩),(3,.ptr<|some ⟨b3,0,0⟩),(28,.func (F 112) [] [.ptr (some ⟨bn,0,0⟩),.ptr<|some ⟨br,0,0⟩])] 64 [29] asg body .busy none D))).tT (List.perm_middle (l₁:=[_,_]))
  refine ad2 L hc N9 hli h1 h2 h3 h4 hBl (b2:=b2) (b3:=b3) (p:=.ofNat i) h8 h6 (.there<|.there tf) (.there<|.there tg) (.there .here) rfl rfl rfl ?_ ?_
  ·intro Gg W2 S2 s2 l2 k1 k2 k3
   obtain⟨s3,p3,k4⟩:=(k1.tT (List.perm_middle (l₁:=[_,_])).symm).first
   refine⟨s3,p3,.inl ⟨rfl,Gg,W2,S2,s3,rfl,k4.tail,k2,λy hy j hj=>?_⟩⟩
   rcases Nat.lt_succ_iff_lt_or_eq.1 hj with hj|rfl
   ·exact h7 y (k3 y hy).1 j hj
   ·exact(k3 y hy).2
  ·intro Gg W2 S2 s2 l2 k1 k2
   obtain⟨s3,p3,k4⟩:=k1.first
   exact⟨_,(p3.cons _).trans (List.Perm.swap ..),.inr ⟨rfl,Gg,W2,S2,s3,rfl,k4.tail,k2⟩⟩
 ·exact⟨EL,d.wa,[],_,rfl,hs7,⟨List.Sublist.refl _,Nat.zero_le _,hE⟩,λy hy j hj=>absurd hj<|Nat.not_lt_zero _⟩
 ·rintro v _ (⟨vj,W',S',s1,rfl,h5,h6,h7⟩ | ⟨vj,W',S',s1,rfl,h5,h6⟩)
  ·refine⟨_,.ready,none,s1,rfl,(λh=>LoopState.noConfusion h),?_⟩
   show WP P K none 64 _ _ _ _ _ _ _
   subst hTT
   obtain⟨u1,q1,h5⟩:=h5.first
   obtain⟨u2,q2,h5⟩:=h5.first
   obtain⟨u3,q3,h5⟩:=h5.first
   obtain⟨u4,q4,h5⟩:=h5.first
   obtain⟨u5,q5,h5⟩:=h5.first
   refine WP.pre (s':=(b2,.r false [[.bool false]] 1)::(D,.ob .deferred)::(lb,.gone)::(bn,.r false [[iv (.ofNat 3)]] 1)::(br,.r false [[iv 0]] 1)::(b3,.r false [[gm tF bf]] 1)::u5) (ak λc w h0 h1 h2 hq=>by simp only[h2,hq _ _ q1,hq _ _ q2,hq _ _ q3,hq _ _ q4,hq _ _ q5];omega)<|Wq<|Ww<|Wt rfl rfl rfl .here rfl rfl<|Wn<|We ⟨[D],(b2,.r false [[.bool true]] 1)::(lb,.gone)::(bn,.r false [[iv (.ofNat 3)]] 1)::(br,.r false [[iv 0]] 1)::(b3,.r false [[gm tF bf]] 1)::u5,rfl,List.Perm.swap ..,_,.cell rfl ht4.1 ht4.2 (.inr rfl) (.there .here) rfl rfl rfl .nil,?_⟩
   have hW:W'=[]:=by
    refine List.eq_nil_iff_forall_not_mem.2 λy hy=>?_
    have h8:=(hli.wx y<|h6.sub.mem hy).2.2.ct
    obtain⟨j,hj⟩:=Int.eq_ofNat_of_zero_le h8.1
    exact h7 y hy j (by omega) hj
   exact⟨rfl,vj,W',S',⟨h6.sub,h6.s8,Nat.le_succ_of_le h6.len⟩,.inl ⟨hW,aH.bK (m:=[_,_,_,_,_,_]) h5⟩⟩
  ·refine⟨_,.done,some .ret,_,rfl,(λh=>LoopState.noConfusion h),?_⟩
   subst hTT
   obtain⟨u2,q2,h5⟩:=h5.first
   obtain⟨u3,q3,h5⟩:=h5.first
   obtain⟨u4,q4,h5⟩:=h5.first
   obtain⟨u5,q5,h5⟩:=h5.first
   refine⟨[D],(b2,.r false [[.bool true]] 1)::(lb,.gone)::(bn,.r false [[iv (.ofNat 3)]] 1)::(br,.r false [[iv 0]] 1)::(b3,.r false [[gm tF bf]] 1)::u5,rfl,(ak λc w h0 h1 h2 hq=>by simp only[h2,List.map,List.cons_append,List.nil_append,hq _ _ q2,hq _ _ q3,hq _ _ q4,hq _ _ q5];omega),_,.cell rfl ht4.1 ht4.2 (.inr rfl) (.there .here) rfl rfl rfl .nil,?_⟩
   exact⟨rfl,vj,W',S',h6,.inr<|aH.bK (m:=[_,_,_,_,_,_]) h5⟩
theorem Calm.pS (h:Calm C d)(W S:List ID):Calm C (pS d W S):=⟨h.ls,h.wk,h.lv⟩
def ab0 (C:List CD)(EL:List (List AV))(D:SD):Prop:=EL.length<=3527/\∃D1 S,LI 1666 64 30 930 D1/\Calm C D1/\D1.oc=0/\S.length<=8/\D=pS D1 [] S
def Std (C:List CD)(EL:List (List AV))(D:SD):Prop:=ab0 C EL D\/EL.length<=3527/\D.oc≠0/\D.Small
theorem abV (h:LI e n f w d)(h2:n<=1000)(h3:f<=1000)(h4:w<=1000)(hS:S.length<=8):(pS d [] S).Small:=V0.small (EL:=[]) (B:=0) ⟨List.nil_sublist _,hS,Nat.le_refl _⟩ h h2 h3 h4
theorem ab0.small (h:ab0 C EL d):d.Small/\d.oc=0/\d.wa=[]:=by
 obtain⟨_,D1,S,h1,_,h2,h3,rfl⟩:=h
 exact⟨abV h1 (by decide) (by decide) (by decide) h3,h2,rfl⟩
theorem Std.small (h:Std C EL d):d.Small:=h.elim (λh=>h.small.1) λh=>h.2.2
theorem Std.none (h:Std C EL d):d.oc≠0\/d.wa=[]:=h.elim (λh=>.inr h.small.2.2) λh=>.inl h.2.1
theorem LI.agQ (L:LEnv P K F T tF)(hP:uS C)(h:LI e n f w d)(h2:n<=1000)(h3:f<=30)(h4:w<=1000)(hS:S.length<=8):BdX P K F T tF gA C (pS d [] S) where
 hE:={
  hB:=L.hB
  hC:=L.hC
  hG:=L.hG
  hT:=L.hT
  hM:=L.hM
  hU:=L.hU
  hI:=L.hI
  info:=L.info
  t128:=L.t128
  hd:=abV h h2 (by omega) h4 hS
  he:=⟨h.ev.lb,h.ev.hd,h.ev.gr,h.ev.ex⟩
  hO:=agS L.hC hP (λo ho=>(h.o o ho).cd) (Nat.le_trans h.fi (by omega)) h.so }
 hQ:=L.hQ
 hv:=L.hv
 do_:=L.bm.do_
 cd o ho:=by rw[hP.n];exact(h.o o ho).cd
 all:=h.all
theorem abU (L:LEnv P K F T tF)(hP:uS C)(h:ab0 C EL d)(hf:Has bf (.r false [bu bl aZ c0 c1 c2 c3 c4 bE] 8) t)(eQ:cI t aZ C)(hs:aH bl EL d t s) :
  bB P K (F 42) [gm tF bf] s (λv s'=>v=.bool false/\aH bl EL d t s'):=by
 obtain⟨_,D1,S,h1,h2,h3,h4,rfl⟩:=h
 exact abT L (h1.agQ L hP (by decide) (by decide) (by decide) h4) (h2.pS _ _) h3 hf eQ hs
theorem acC (L:LEnv P K F T tF)(hV:BaseSe P K F)(hc:aak P K F)(N9:Ty P (T 24) 5)(ht4:isAggT P (T 4)=some false/\size? P (T 4)=some 1)(hP:uS C)(hBe:∀c∈C,c.kind=2->∀x∈c.ab,x.kind=3)(hf:Has bf (.r false [bu bl aZ c0 8 c2 20 c4 bE] 8) t)(eQ:cI t aZ C)(hs:aH bl EL d t s)(h:TG 30 34 30 30 d.pl EL d) :
  bB P K (F 406) [gm tF bf] s (λ_ s'=>∃E2 D2,Std C E2 D2/\aH bl E2 D2 t s'):=by
 refine aaN L.hB L.hI L.hS hV N9 L.t128 L.bm hf hs
  (A:=λk E D=>k=0/\TG 30 34 30 30 D.pl E D\/k=1/\Stl 1666 64 30 930 C E D/\D.oc=0\/k<=2/\ab0 C E D)
  (O:=λk E D=>k<=1/\Stl 1666 64 30 930 C E D\/k<=2/\ab0 C E D)
  (U:=λk b E D=>if b then k=0/\Stl 1666 64 30 930 C E D\/k<=1/\ab0 C E D\/E.length<=3527/\D.oc≠0/\D.Small else Std C E D)
  (Z:=Std C) (.inl ⟨rfl,h⟩) (λk E D h=>by grind) (λm k E D s1 hA nr=>?_) (λm k E D s1 hO nr=>?_) (λk E D hU=>?_) (λk E D hU=>hU)
 ·rcases hA with⟨rfl,h1⟩ | ⟨rfl,h1,h2⟩ | ⟨h0,h1⟩
  ·refine(aen L hP hBe (.app hf) (eQ.mono λq hq=>List.mem_append_right _ hq) (by decide) (by decide) (by decide) (by decide) (by decide) nr h1).post ?_
   grind
  ·refine(abT L (h1.li.bdx L hP (by decide) (by decide)<|by decide) (h1.ok.resolve_left λh=>h h2).2 h2 (.app hf) (eQ.mono λq hq=>List.mem_append_right _ hq) nr).post ?_
   grind
  ·refine(abU L hP h1 (.app hf) (eQ.mono λq hq=>List.mem_append_right _ hq) nr).post ?_
   grind
 ·rcases hO with⟨h0,h1⟩ | ⟨h0,h1⟩
  ·have gK:=h1.li.small (by decide) (by decide) (by decide)
   have hlen:=h1.len
   by_cases P0:D.oc=0
   ·have afE:=(h1.ok.resolve_left λh=>h P0).2
    by_cases KO:D.wa=[]
    ·refine(aaE L ht4 gK (.inr KO) (.app hf) nr).post ?_
     rintro _ s2 ⟨rfl,dt⟩
     refine⟨false,rfl,E,D,.inl ⟨by omega,D,[],h1.li,afE,P0,Nat.zero_le _,?_⟩,dt⟩
     have:=(abW h1.li.st).symm
     grind
    ·have hw:=h1.li.wa
     refine(afk L hc N9 ht4 h1.li (by decide) (by decide) (by decide) (by decide) (B:=3526) (by decide) P0 KO (by omega) (.app hf) nr).post ?_
     rintro _ s2 ⟨rfl,E2,W,S,h2,⟨rfl,dt⟩|dt⟩
     ·exact⟨true,rfl,E2,_,.inr<|.inl ⟨h0,by have:=h2.len;omega,D,S,h1.li,afE,P0,h2.s8,rfl⟩,dt⟩
     ·refine⟨true,rfl,E2,_,.inr<|.inr ⟨by have:=h2.len;omega,by grind,?_⟩,dt⟩
      have:=h2.small h1.li (by decide) (by decide)<|by decide
      exact⟨this.n1,this.n2⟩
   ·refine(aaE L ht4 gK (.inl P0) (.app hf) nr).post ?_
    rintro _ s2 ⟨rfl,dt⟩
    exact⟨false,rfl,E,D,.inr ⟨by omega,P0,gK⟩,dt⟩
  ·refine(aaE L ht4 h1.small.1 (.inr h1.small.2.2) (.app hf) nr).post ?_
   rintro _ s2 ⟨rfl,dt⟩
   exact⟨false,rfl,E,D,.inl h1,dt⟩
 ·rcases hU with⟨rfl,h1⟩ | ⟨h0,h1⟩ | h1
  ·have gK:=h1.li.small (by decide) (by decide) (by decide)
   exact⟨gK,λP0=>.inr ⟨by have:=h1.len;omega,P0,gK⟩,λP0=>.inr<|.inl ⟨rfl,h1,P0⟩⟩
  ·exact⟨h1.small.1,λP0=>absurd h1.small.2.1 P0,λ_=>.inr<|.inr ⟨by omega,h1⟩⟩
  ·exact⟨h1.2.2,λ_=>.inr h1,λP0=>absurd P0 h1.2.1⟩
theorem acD (L:LEnv P K F T tF)(hV:BaseSe P K F)(N9:Ty P (T 24) 5)(ht4:isAggT P (T 4)=some false/\size? P (T 4)=some 1)(hP:uS C)(hf:Has bf (.r false [bu bl aZ c0 c1 c2 20 c4 bE] 8) t)(eQ:cI t aZ C)(hs:aH bl EL d t s)(h:Std C EL d) :
  bB P K (F 406) [gm tF bf] s (λ_ s'=>aH bl EL d t s'):=by
 refine(aaN L.hB L.hI L.hS hV N9 L.t128 L.bm hf hs (A:=λk E D=>k=0/\E=EL/\D=d) (O:=λk E D=>E=EL/\D=d) (U:=λk b E D=>b=false/\E=EL/\D=d) (Z:=λE D=>E=EL/\D=d)
  ⟨rfl,rfl,rfl⟩ (λk E D h=>by omega) (λm k E D s1 hA nr=>?_) (λm k E D s1 hO nr=>?_) (λk E D hU=>Bool.noConfusion hU.1) (λk E D hU=>hU.2)).post ?_
 ·obtain⟨_,rfl,rfl⟩:=hA
  have key:bB P K (F 42) [gm tF bf] s1 (λv s'=>v=.bool false/\aH bl E D (m++t) s'):=h.elim (λh=>abU L hP h (.app hf) (eQ.mono λq hq=>List.mem_append_right _ hq) nr) λh=>aem L h.2.2 h.2.1 (.app hf) nr
  grind
 ·obtain⟨rfl,rfl⟩:=hO
  refine(aaE L ht4 h.small h.none (.app hf) nr).post ?_
  grind
 grind
open Go.Proofs
set_option maxRecDepth 100000
def agN:CF:=NF (λF T=>pt (cd 5 119 F T) [1,1,1,1,1,1,1,1,1,1,0,1,0,0]) _
def agM:CF:=NF (λF T=>pt (cd 5 119 F T) [1,1,1,1,1,1,1,1,1,1,1,1,0,1,0,0]) _
def agO:CF:=NF (λF T=>pt (cd 5 119 F T) [1,1,1,1,1,1,1,1,1]) _
def acM:CF:=NF (λF T=>pt (cd 5 119 F T) [1,1,1]) _
def acL (F:Nat->FuncId):List bS:=NF ((pt (cd 5 119 F λn=>n) [1,1,0]).cr) _
def adP (t:SH):Po:=λl ds s=>ds=[]/\lk l 2=some (.bool true)/\∀b o,Has b o t->Has b o s
theorem aeW (h:a<b):binV .geq (iv a) (iv b)=some (.bool false):=by rw[ad5,decide_eq_true h];rfl
theorem afp (h:k8 d C (λo _=>weakP gA d C o) d.fi=[])(hcd:∀o∈d.ob,∃j:Nat,o.gE=.ofNat j/\j<C.length)(hid:id∈d.fi)(ho:d.obj id=some o):∀x,chOf gA d C id=some x->¬x.t<=0/\¬x.t<=o.hurt:=by
 have h1:=List.filter_eq_nil_iff.1 h id hid
 unfold isAt at h1
 obtain⟨i,_,_,h2,h3⟩:=sT ho
 obtain⟨j,h4,h5⟩:=hcd o h3
 simp only[ho,h4,show(Int.ofNat j).toNat=j from rfl,List.getElem?_eq_getElem h5]at h1
 intro x hx
 rw[<- h2]at hx
 simpa[weakP,hx]using h1
variable {D:SD}
theorem adR (L:LEnv P K F T (T 26))(gK:D.Small)(hc:Calm C D)(h3:D.pl.length=3)(hf:Has bf (.r false [bu bl aZ c0 c1 c2 c3 c4 bE] 8) t)(hs:aH bl EL D t s)(hl:∀q w,lk [(3,.ptr (some ⟨bf,0,0⟩)),(5,iv 0),(6,iv 0)] q=some w->lk l q=some w)
  (hk:∀s' l',aH bl EL D t s'->(∀q w,lk [(3,.ptr<|some ⟨bf,0,0⟩),(5,iv<|.ofNat (dM (λ_=>true) D 3).length)] q=some w->lk l' q=some w)->Qn l' [] s') :
  WP P K none 119 (.block 0<|.loop<|agN F T) l [] s Qn Qe Qr:=by
 refine Wb ?_
 refine Wp (λk l ds s'=>ds=[]/\∃p,k=3-p/\p<=3/\aH bl EL D t s'/\∀i w,lk [(3,.ptr<|some ⟨bf,0,0⟩),(5,iv<|.ofNat (dM (λ_=>true) D p).length),(6,iv<|.ofNat p)] i=some w->lk l i=some w) ?_ (n:=3-0)
  ⟨rfl,0,rfl,Nat.zero_le _,hs,hl⟩
 rintro k l ds s' ⟨rfl,p,rfl,hp,hs',hl⟩
 refine Wg hl (λ_ _ h=>h) ?_
 by_cases hlt:p<3
 rotate_left
 ·have e1:binV .lss (iv<|.ofNat p) (iv 3)=some (.bool false):=d5 (b:=3) hlt
  have:p=3:=by omega
  subst this
  refine Vk (k:=Wx ?_)
  exact hk _ _ hs'<|bX rfl
 have e1:binV .lss (iv<|.ofNat p) (iv 3)=some (.bool true):=ij (b:=3) hlt
 obtain⟨o,ho⟩:∃o,D.pl[p]?=some o:=⟨_,List.getElem?_eq_getElem<|h3.symm▸hlt⟩
 have hml:=Pu (λ_=>true) D p
 have hsn:=aa7 (λ_=>true) D p
 have hlp:B8 (λ_=>true) D p=!o.f2:=by unfold B8;rw[ho];exact Bool.and_true _
 rw[hlp]at hsn
 refine Vk (k:=?_)
 refine Ww<|W1 (Ar L.hB L.hC L.hT hs' gK hf ho) ?_
 rintro _ s2 ⟨rfl,dt⟩
 cases hq:o.f2 with
 | true=>
  rw[hq]at hsn
  have l6:bV 1 (cu 6 o.row)=some [.bool true]:=by show some [AV.bool o.f2]=_;rw[hq]
  refine Wa (.alloc rfl) λb7=>Vk (k:=?_)
  refine⟨3-(p+1),by omega,rfl,p+1,rfl,hlt,dt.bK (m:=[_]),aa rfl<|aa ?_<|bX rfl⟩
  rw[hsn]
  simp only[Bool.not_true,Bool.false_eq_true,if_false,List.append_nil]
  rfl
 | false=>
  rw[hq]at hsn
  have hno:dh o=false:=by
   have h1:B8 dh D p=false:=by
    have h4:=hc.ls
    unfold dM at h4
    have h5:=List.filter_eq_nil_iff.1 (List.map_eq_nil_iff.1 h4) p<|List.mem_range.2<|h3.symm▸hlt
    exact Bool.eq_false_iff.2 h5
   unfold B8 at h1
   rw[ho]at h1
   simpa[hq]using h1
  obtain⟨hlf,hem⟩:¬o.life<=0/\o.f3=false:=by
   unfold dh at hno
   simpa using hno
  have l6:bV 1 (cu 6 o.row)=some [.bool false]:=by show some [AV.bool o.f2]=_;rw[hq]
  have l7:bV 1 (cu 7 o.row)=some [.bool false]:=by show some [AV.bool o.f3]=_;rw[hem]
  have l0:bV 1 (cu 0 o.row)=some [iv o.life]:=rfl
  have e2:binV .leq (iv o.life) (iv 0)=some (.bool false):=by rw[vQ,decide_eq_true<|by omega];rfl
  have e3:binV .add (iv<|.ofNat (dM (λ_=>true) D p).length) (iv<|.ofNat 1)=some (iv<|.ofNat<|(dM (λ_=>true) D p).length+1):=bM<|by omega
  refine Wa (.alloc rfl) λb7=>Vk (k:=?_)
  refine Vk (k:=?_)
  refine⟨3-(p+1),by omega,rfl,p+1,rfl,hlt,dt.bK (m:=[_]),aa rfl<|aa ?_<|bX rfl⟩
  rw[hsn]
  simp only[Bool.not_false,if_true,List.length_append,List.length_singleton]
  rfl
theorem adQ (L:LEnv P K F T (T 26))(hB:BdX P K F T (T 26) gA C D)(hc:Calm C D)(hf:Has bf (.r false [bu bl aZ c0 c1 c2 c3 c4 bE] 8) t)(eQ:cI t aZ C)(hv:Src t 1 v (nR D.fi))(hs:aH bl EL D t s)(hl:∀q w,lk [(3,.ptr (some ⟨bf,0,0⟩)),(5,iv (.ofNat n)),(8,v),(9,iv 0)] q=some w->lk l q=some w)
  (hk:∀s' l',aH bl EL D t s'->(∀q w,lk [(3,.ptr<|some ⟨bf,0,0⟩),(5,iv<|.ofNat n)] q=some w->lk l' q=some w)->Qn l' [] s') :
  WP P K none 119 (.block 2<|.loop<|agM F T) l [] s Qn Qe Qr:=by
 have hn:=hB.hE.hd.n1
 refine Wb ?_
 refine Wp (λk l ds s'=>ds=[]/\∃p,k=D.fi.length-p/\p<=D.fi.length/\aH bl EL D t s'/\∀i w,lk [(3,.ptr<|some ⟨bf,0,0⟩),(5,iv<|.ofNat n),(8,v),(9,iv<|.ofNat p)] i=some w->lk l i=some w) ?_ (n:=D.fi.length-0)
  ⟨rfl,0,rfl,Nat.zero_le _,hs,hl⟩
 rintro k l ds s' ⟨rfl,p,rfl,hp,hs',hl⟩
 refine Wg hl (λ_ _ h=>h) ?_
 have lv:lenOf v=some D.fi.length:=by rw[hv.lenOf,gq]
 by_cases hlt:p<D.fi.length
 rotate_left
 ·have e1:=d5 hlt
  refine Vk (k:=Wx ?_)
  exact hk _ _ hs'<|bX rfl
 have e1:=ij hlt
 have hid:=List.getElem_mem hlt
 obtain⟨ba,ra,na,ca,J5,Sp,Ma,rfl,hba,me,hra⟩:=hv.at (i:=p) (by rw[gq];exact hlt)
 rw[Qp hlt]at hra
 generalize D.fi[p]=id at hid hra
 obtain⟨o,ho⟩:=hB.all id hid
 have hwk:=afp hc.wk hB.cd hid ho
 have aml:=hs'.mem hba
 refine Vk (k:=?_)
 refine Ww<|W1 (Qq L.hB L.hC hs' hB.hE.hd hf) ?_
 rintro _ s2 ⟨Gw,dt⟩
 rw[ho]at Gw
 subst Gw
 have af1:=dt.mem hba
 refine Vk (k:=λsf=>Vk (k:=?_))
 have gw:aH bl EL D ((sf,HO.r false [o.row] 14)::t) ((sf,HO.r false [o.row] 14)::s2):=dt.cons
 refine Ww<|W1 (BT L.hB L.hC L.hT gw hB.hE.hd (.there hf) (eQ.mono λq hq=>List.mem_cons_of_mem _ hq) hB.hE.hO.ok hB.hE.hO.step) ?_
 rintro _ s4 ⟨vo,pM⟩
 have vo:=vo.val hB.hE.hO
 obtain⟨s5,hp5,dT⟩:=pM.first
 refine WO.pre hp5 ?_
 cases hx:chOf gA D C id with
 | none=>
  rw[hx]at vo
  subst vo
  refine Vk (k:=λNQ=>Vk (k:=?_))
  exact⟨D.fi.length-(p+1),by omega,rfl,p+1,rfl,hlt,dT.bK (m:=[_,_]),bX rfl⟩
 | some x=>
  rw[hx]at vo
  subst vo
  obtain⟨h1,h2⟩:=hwk x hx
  have e2:binV .leq (iv x.t) (iv 0)=some (.bool false):=by rw[vQ,decide_eq_true<|by omega];rfl
  have e3:binV .geq (iv o.hurt) (iv x.t)=some (.bool false):=aeW<|by omega
  have l1:bV 1 (cu 1 x.row)=some [iv x.t]:=rfl
  have l8:bV 1 (cu 8 o.row)=some [iv o.hurt]:=rfl
  refine Vk (k:=λNQ=>Vk (k:=?_))
  exact⟨D.fi.length-(p+1),by omega,rfl,p+1,rfl,hlt,dT.bK (m:=[_,_]),bX rfl⟩
theorem adS (L:LEnv P K F T (T 26))(hB:BdX P K F T (T 26) gA C D)(hc:Calm C D)(h3:D.pl.length=3)(KO:D.wa=[])(hf:Has bf (.r false [bu bl aZ c0 c1 c2 c3 c4 bE] 8) t)(eQ:cI t aZ C)(hs:aH bl EL D t s)(hl:∀q w,lk [(3,.ptr (some ⟨bf,0,0⟩))] q=some w->lk l q=some w) :
  WP P K none 119 (agO F T) l [] s Kj (λ_=>Kj) (adP t):=by
 have gK:=hB.hE.hd
 refine Wg hl (λ_ _ h=>h) ?_
 refine Wq<|Wv rfl<|Wn<|Ws<|Wq<|Wv rfl<|Wn ?_
 refine adR L gK hc h3 hf hs (bX rfl) λs1 l1 nr hl1=>?_
 refine Wg hl1 (λ_ _ h=>h) ?_
 have hlv:=hc.lv
 rw[h3]at hlv
 have CI:=Pu (λ_=>true) D 3
 generalize (dM (λ_=>true) D 3).length=n at hlv CI
 refine Vk (k:=Ww<|W1 (Gf L.hB L.hC nr gK hf) ?_)
 rintro v s2 ⟨m,dt,hv⟩
 refine Wv rfl<|Wn<|Ws<|Wq<|Wv rfl<|Wn ?_
 refine adQ L hB hc (.app hf) (eQ.mono λq hq=>List.mem_append_right _ hq) (n:=n) (hv.mono λq hq=>List.mem_append_left _ hq) dt (bX rfl) λs3 l3 gw PN=>?_
 refine Wg PN (λ_ _ h=>h) ?_
 have e1:binV .geq (iv<|.ofNat n) (iv 2)=some (.bool true):=by rw[ad5,decide_eq_false (by show¬((n:Nat):Int)<2;omega)];rfl
 refine Vk (k:=Ww<|W1 (abc hB.hE L.hN L.hQ (.app hf) (eQ.mono λq hq=>List.mem_append_right _ hq) gw hB.cd hB.all) ?_)
 rintro v2 s4 ⟨m2,pM,Gw⟩
 have nw:lenOf v2=some 0:=by rw[Gw.lenOf,hc.wk];rfl
 refine Vk (k:=Ww<|W1 (aad L.hB L.hI pM gK<|.app<|.app hf) ?_)
 rintro v3 s5 ⟨dT,hv3⟩
 have lv3:lenOf v3=some 0:=by rw[hv3.lenOf,KO];rfl
 refine Vk (k:=We ?_)
 exact⟨rfl,rfl,λb o hb=>dT.mem<|.app<|.app hb⟩
theorem adT (L:LEnv P K F T (T 26))(hV:BaseSe P K F)(hc:aak P K F)(N9:Ty P (T 24) 5)(ht4:isAggT P (T 4)=some false/\size? P (T 4)=some 1)(hP:uS C)(hBe:∀c∈C,c.kind=2->∀x∈c.ab,x.kind=3)(hf:Has bf (.r false [bu bl aZ 60 8 c2 20 c4 bE] 8) t)(eQ:cI t aZ C)(hs:aH bl EL D t s)(h0:HpI 30 EL D)
  (hl:∀q w,lk [(3,.ptr<|some ⟨bf,0,0⟩)] q=some w->lk l q=some w):WP P K none 119 (acM F T) l [] s Kj (λ_=>Kj) (adP t):=by
 refine Wg hl (λ_ _ h=>h) ?_
 refine Vk (k:=Ww<|W1 (acC L hV hc N9 ht4 hP hBe hf eQ hs ⟨h0.bd.len,h0.bd.li,rfl,h0.oc⟩) ?_)
 rintro _ s2 ⟨E2,D2,hS,dt⟩
 have gK:=hS.small
 refine Vk (k:=Ww<|W1 (iT L.hB<|dt.mem hf) ?_)
 rintro _ _ ⟨rfl,rfl⟩
 refine Ww<|W1 (aa8 L.mv dt) ?_
 rintro _ s3 ⟨rfl,gw⟩
 refine Vk (k:=Ww<|W1 (acD L hV N9 ht4 hP hf eQ gw hS) ?_)
 rintro _ s4 pM
 refine Vk (k:=Ww<|W1 (iT L.hB<|pM.mem hf) ?_)
 rintro _ _ ⟨rfl,rfl⟩
 refine Ww<|W1 (aa8 L.mv pM) ?_
 rintro _ s5 ⟨rfl,dT⟩
 have e1:eqBy 20 .pi (iv<|.ofNat E2.length) (iv<|.ofNat E2.length)=some true:=by rw[cD,decide_eq_true rfl]
 refine Vk (k:=Ww<|W1 (abm L.hB L.hI L.t128 dT gK hf) ?_)
 rintro _ s6 ⟨rfl,KL⟩
 have l11:bV 1 (cu 11<|acQ D2)=some [iv D2.oc]:=rfl
 rcases hS with⟨_,D1,S,h1,h2,h3,h4,rfl⟩|⟨_,h1,_⟩
 ·have e2:eqBy 20 .pi (iv (pS D1 [] S).oc) (iv 0)=some true:=by rw[cD,decide_eq_true h3]
  refine Wr (.fld rfl rfl)<|Wh rfl rfl e2<|Wn<|Wd rfl fS<|λ_=>Wi ?_
  exact adS (F:=F) (T:=T) L (h1.agQ L hP (by decide) (by decide) (by decide) h4) (h2.pS _ _) h1.pl rfl hf eQ KL<|bX rfl
 ·have e2:eqBy 20 .pi (iv D2.oc) (iv 0)=some false:=by rw[cD,decide_eq_false h1]
  refine Vk (k:=We ?_)
  exact⟨rfl,rfl,λb o hb=>KL.mem hb⟩

end
end
end Go.Ev
