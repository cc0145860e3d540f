/- Walks and rules. Conditions: none. -/
import Derived.Test.YtbgjkfbeofbngaaGreatEvL
set_option linter.unusedVariables false
set_option linter.unusedSimpArgs false
set_option linter.unusedSectionVars false
namespace Go.Ev
open Go.Proofs
set_option maxRecDepth 100000
def adZ (F:Nat->FuncId)(T:Nat->TypeId)(r:AC):AC:=(oN [zm 53 13,zo 54 (.iaddrA 3 1 9 53),zl 55 54,zo 56 (.build [(za 0),(za 0),(za 0)] [⟨0,⟨1,(zc 3)⟩⟩,⟨1,⟨1,55⟩⟩]),zo 14 (.alloc 3 [(za 0),(za 0),(za 0)]),zn (.store 3 14 56)] (.seq (oN [zm 57 13,zo 58 (.eql false .pi 57 (zc 2))] (.cond 58 (.ops [zm 59 13,zo 60 (.iaddrA 3 1 9 59),zl 61 60,zo 62 (.build [(za 0),(za 0),(za 0)] [⟨0,⟨1,(zc 4)⟩⟩,⟨1,⟨1,61⟩⟩]),zn (.store 3 14 62)]) .skip)) (oN [zm 63 8,zo 64 (.mkif (T 26) 63),zo 65 (.load true 3 14),oF F 66 408 [64,65]] r)))
noncomputable def afp:CF:=NF (λF T=>pt (cd 6 248 F T) [1,1,1,1,1,1,1,1,1,1,0,1,0,0,1,0,0,1,1,1,1,1,0,1,0,0]) _
noncomputable def afr:CF:=NF (λF T=>pt (cd 6 248 F T) [1,1,1,1,1,1,1,1,1,1,0,1,0,0,1,0,0,1,1,1,1,1,1,0,1,0,0]) _
noncomputable def afq:CF:=NF (λF T=>pt (cd 6 248 F T) [1,1,1,1,1,1,1,1,1,1,0,1,0,0,1,0,0,1,1,1,1]) _
noncomputable def aft:CF:=NF (λF T=>pt (cd 6 248 F T) [1,1,1,1,1,1,1,1,1,1,0,1,0,0]) _
noncomputable def afs:CF:=NF (λF T=>pt (cd 6 248 F T) [1,1,1,1,1,1,1,1,1,1,1,0]) _
noncomputable def afv:CF:=NF (λF T=>pt (cd 6 248 F T) [1,1,1,1,1,1,1,1,1,1,1,1]) _
noncomputable def afu:CF:=NF (λF T=>pt (cd 6 248 F T) [1,1,1,1,1,1,1,1,1,1]) _
noncomputable def adg (F:Nat->FuncId)(T:Nat->TypeId):AC:=(.seq (oN [zm 38 8,zo 39 (.eql false .ptr 38 (.const (.pointer none))),zm 40 39,zg 41 (.mv 10) 40 false,zg 42 (.lenS 41) 40 false,zg 43 (.mv 7) 40 false,zg 44 (.eql true .pi 42 43) 40 false,zo 45 (.pick 40 (.const (.bool true)) 44)] (.cond (.tmp 45) (oN [zo 6 (.mv (.const (.bool false)))] .ret) .skip)) (oN [zm 46 8,oF F 47 354 [46],zm 48 8,oF F 49 14 [48],zo 12 (.alloc 25 cC),zm 11 47,zn (.store 25 12 49)] (oN [zm 50 1,zo 51 (.arith .rem 50 (.const (.int .u8 (.ofNat 3)))),zo 52 (.convI .i64 51),zm 13 52] (adZ F T (oN [zo 15 (.mv (.const (.bool false)))] (afu F T))))))
noncomputable def adh:AC:=NF (pt (cd 6 248 (λn=>n) λn=>n) [0]) _
noncomputable def adi:AC:=NF (pt (cd 6 248 (λn=>n) λn=>n) [1,0]) _
noncomputable def ad0 (F:Nat->FuncId):List bS:=NF ((pt (cd 6 248 F λn=>n) [1,1,0]).opl) _
noncomputable def ab6:CF:=NF (λF T=>pt (cd 34 56 F T) [1,1,1,1]) _
section
variable {P:Program}{K:Orc}{rd:Option Nat}{nt:Nat}{l:Sl}{ds:List cD}{s:SH}{Q Qn Qr:Po}{Qe:Nat->Po}{F:Nat->FuncId}{T:Nat->TypeId}{bf bl:Nat}{aZ ap:AV}{c0 c1 c2 c3 c4:Int}{EL:List (List AV)}{d:SD}{t:SH}{tF:TypeId}{g:ED->CH->CH}{C:List CD}{tl:AD->List Nat}{n w:Nat}{tp:Nat->Bool}{m:Int}{lv v2 v9 v11 v12 v16:AV}{dM:Bool}
theorem aeo (o:LD){j:Nat}(h:j<4):part false [iv o.m0,iv o.m1,iv o.m2,iv o.m3] (Nat.mul j 1) 1=some (iv (o.mn j)):=by
 match j,h with
 | 0,_=>rfl
 | 1,_=>rfl
 | 2,_=>rfl
 | 3,_=>rfl
structure Mes (n w:Nat)(tp:Nat->Bool)(m:Int)(dM:Bool)(d:SD):Prop where
 ob:∀k,k<n->d.obj (gW k)=some (kT tp k)
 pl:d.pl=[P1 m,P1 0]
 mn:m=.ofNat (jL n tp)-(if dM then 1 else 0)
 wp:dM=true->w<2
 st:d.st.length=if dM then 1 else 0
 hd:∃bX:List Int,d.hd=[bX,[]]/\bX.length=if !dM||decide (w=2)then 2 else 1
@[reducible] def Az (v2 v9 v11 v12 v16 lv:AV)(n w bf:Nat)(dM:Bool):Sl:=[(2,v2),(7,iv (.ofNat n)),(8,.ptr (some ⟨bf,0,0⟩)),(9,v9),(10,lv),(11,v11),(12,v12),(13,iv (.ofNat w)),(15,.bool dM),(16,v16)]
theorem afj (hE:GE P K F T tF g C d)(hM:Mes n w tp m dM d)(hn:n<=6)(hf:Has bf (.r false [bu bl aZ c0 c1 c2 c3 c4 ap] 8) t)(hlv:Src t 1 lv (nR ((List.range n).map gW)))(hs:aH bl EL d t s)
  (hl:∀i x,lk ((19,iv 0)::(20,iv 0)::(21,iv 0)::Az v2 v9 v11 v12 v16 lv n w bf dM) i=some x->lk l i=some x) :
  WP P K none 248 (.block 2<|.loop<|afp F T) l [] s (λl2 ds2 s2=>ds2=[]/\aH bl EL d t s2/\∀i x,lk ((19,iv<|.ofNat<|jL n tp)::(20,iv 0)::Az v2 v9 v11 v12 v16 lv n w bf dM) i=some x->lk l2 i=some x) Qe Qr:=by
 refine Wb ?_
 refine Wp (λk l ds s'=>ds=[]/\aH bl EL d t s'/\∃q,k=n-q/\q<=n/\∀i x,lk ((19,iv<|.ofNat<|jL q tp)::(20,iv 0)::(21,iv<|.ofNat q)::Az v2 v9 v11 v12 v16 lv n w bf dM) i=some x->lk l i=some x) ?_ (n:=n-0) ⟨rfl,hs,0,rfl,Nat.zero_le _,hl⟩
 rintro k l ds s' ⟨rfl,hs,q,rfl,hq,hl⟩
 refine Wg hl (λ_ _ h=>h) ?_
 try unfold afp
 by_cases hlt:q<n
 ·have agh:binV .lss (iv<|.ofNat q) (iv<|.ofNat n)=some (.bool true):=by rw[eT,decide_eq_true<|show Int.ofNat q<Int.ofNat n from(by omega:(q:Int)<(n:Int))]
  have X1:binV .add (iv<|.ofNat q) (iv<|.ofNat 1)=some (iv<|.ofNat<|q+1):=bM<|by omega
  have xE:=abd (n:=q) (tp:=tp)
  have aif:binV .add (iv<|.ofNat<|jL q tp) (iv<|.ofNat 1)=some (iv<|.ofNat<|jL q tp+1):=bM<|by omega
  have aeY:=aaO (n:=q) (tp:=tp)
  obtain⟨bc,rc,nc,cc',slc,roc,Mc,rfl,hbc,CC,hrc⟩:=hlv.at (i:=q)<|by simpa[nR]using hlt
  have aaW:Mc[rc+q]?=some [iv (gW q)]:=by rw[hrc];simp[nR,hlt]
  have aod:=hs.mem hbc
  refine Vr (k:=Ww<|W1 (vu hE hs hf<|hM.ob q hlt) ?_)
  rintro _ _ ⟨u,rfl,rfl,hb⟩
  refine Vr (k:=λb22=>Vr (k:=?_))
  cases htq:tp q with
  | true=>
   rw[htq]at aeY
   refine Wd (t:=true) (by show some (AV.bool<|tp q)=_;rw[htq]) (λ_=>?_)<|λh=>nomatch h
   refine Vr (k:=?_)
   exact⟨n-(q+1),by omega,rfl,aH.bK (m:=[_])<|hb t,q+1,rfl,hlt,by rw[aeY];exact aa rfl qb⟩
  | false=>
   rw[htq]at aeY
   refine Wd (t:=false) (by show some (AV.bool<|tp q)=_;rw[htq]) (λh=>nomatch h)<|λ_=>Vr (k:=?_)
   exact⟨n-(q+1),by omega,rfl,aH.bK (m:=[_])<|hb t,q+1,rfl,hlt,by rw[aeY];exact aa rfl qb⟩
 ·obtain rfl:q=n:=by omega
  have agh:binV .lss (iv<|.ofNat q) (iv<|.ofNat q)=some (.bool false):=by rw[eT,decide_eq_false<|Int.lt_irrefl _]
  refine Vk (k:=Wx ?_)
  exact⟨rfl,hs,aa rfl<|aa rfl<|aa rfl<|aa rfl<|aa rfl<|aa rfl<|aa rfl<|aa rfl<|aa rfl<|aa rfl<|aa rfl<|aa rfl<|aB⟩
theorem ae6 (hE:GE P K F T tF g C d)(hM:Mes n w tp m dM d)(hm0:0<=m/\m<=6)(hf:Has bf (.r false [bu bl aZ c0 c1 c2 c3 c4 ap] 8) t)(hs:aH bl EL d t s){v19:AV}
  (hl:∀i x,lk ((19,v19)::(20,iv 0)::(24,iv 0)::Az v2 v9 v11 v12 v16 lv n w bf dM) i=some x->lk l i=some x) :
  WP P K none 248 (.block 4<|.loop<|afr F T) l [] s (λl2 ds2 s2=>ds2=[]/\aH bl EL d t s2/\∀i x,lk ((19,v19)::(20,iv m)::Az v2 v9 v11 v12 v16 lv n w bf dM) i=some x->lk l2 i=some x) Qe Qr:=by
 refine Wb ?_
 refine Wp (λk l ds s'=>ds=[]/\aH bl EL d t s'/\∃q,k=4-q/\q<=4/\∀i x,lk ((19,v19)::(20,iv<|if q=0 then 0 else m)::(24,iv<|.ofNat q)::Az v2 v9 v11 v12 v16 lv n w bf dM) i=some x->lk l i=some x) ?_ (n:=4-0) ⟨rfl,hs,0,rfl,Nat.zero_le _,hl⟩
 rintro k l ds s' ⟨rfl,hs,q,rfl,hq,hl⟩
 refine Wg hl (λ_ _ h=>h) ?_
 try unfold afr
 by_cases hlt:q<4
 ·have agh:binV .lss (iv<|.ofNat q) (iv<|.ofNat 4)=some (.bool true):=by rw[eT,decide_eq_true<|show Int.ofNat q<Int.ofNat 4 from(by omega:(q:Int)<(4:Int))]
  have X1:binV .add (iv<|.ofNat q) (iv<|.ofNat 1)=some (iv<|.ofNat<|q+1):=bM<|by omega
  have aif:binV .add (iv<|if q=0 then 0 else m) (iv<|(P1 m).mn q)=some (iv m):=by
   match q,hlt with
   | 0,_=>exact(ab7 (by show _<=0+m/\0+m<=_;omega)).trans (by show some (iv<|0+m)=_;rw[Int.zero_add])
   | 1,_=>exact(ab7 (by show _<=m+0/\m+0<=_;omega)).trans (by show some (iv<|m+0)=_;rw[Int.add_zero])
   | 2,_=>exact(ab7 (by show _<=m+0/\m+0<=_;omega)).trans (by show some (iv<|m+0)=_;rw[Int.add_zero])
   | 3,_=>exact(ab7 (by show _<=m+0/\m+0<=_;omega)).trans (by show some (iv<|m+0)=_;rw[Int.add_zero])
  have hpart:=aeo (P1 m) hlt
  refine Vr (k:=Ww<|W1 (Ar hE.hB hE.hC hE.hT hs hE.hd hf (p:=0) (o:=P1 m) (by rw[hM.pl];rfl)) ?_)
  rintro _ s2 ⟨rfl,dt⟩
  refine Vr (k:=Wr (.idxA rfl rfl hlt hpart)<|Vr (k:=?_))
  exact⟨4-(q+1),by omega,rfl,dt,q+1,rfl,hlt,aa rfl<|aa rfl<|aa rfl<|aa rfl<|aa rfl<|aa rfl<|aa rfl<|aa rfl<|aa rfl<|aa rfl<|aa rfl<|aa rfl<|aa rfl<|aB⟩
 ·obtain rfl:q=4:=by omega
  have agh:binV .lss (iv<|.ofNat 4) (iv<|.ofNat 4)=some (.bool false):=rfl
  refine Vk (k:=Wx ?_)
  exact⟨rfl,hs,aa rfl<|aa rfl<|aa rfl<|aa rfl<|aa rfl<|aa rfl<|aa rfl<|aa rfl<|aa rfl<|aa rfl<|aa rfl<|aa rfl<|aB⟩
theorem ae8 (hE:GE P K F T tF g C d)(hM:Mes n w tp m dM d)(hm0:0<=m/\m<=6)(hn:n<=6)(hw:w<3)(hf:Has bf (.r false [bu bl aZ c0 c1 c2 c3 c4 ap] 8) t)(hlv:Src t 1 lv (nR ((List.range n).map gW)))(hs:aH bl EL d t s)
  (hl:∀i x,lk (Az v2 v9 v11 v12 v16 lv n w bf dM) i=some x->lk l i=some x) :
  WP P K none 248 (afq F T) l [] s (λl2 ds2 s2=>ds2=[]/\aH bl EL d t s2/\∀i x,lk (Az v2 v9 v11 v12 v16 lv n w bf dM) i=some x->lk l2 i=some x) Qe Qr:=by
 refine Wg hl (λ_ _ h=>h) ?_
 try unfold afq
 refine Wq<|Wv rfl<|Wv rfl<|Wn<|Ws<|Wq<|Wv rfl<|Wn<|WP.post (afj (v2:=v2) (v9:=v9) (v11:=v11) (v12:=v12) (v16:=v16) hE hM hn hf hlv hs<|aa rfl<|aa rfl<|aa rfl<|aa rfl<|aa rfl<|aa rfl<|aa rfl<|aa rfl<|aa rfl<|aa rfl<|aa rfl<|aa rfl<|aa rfl<|aB) ?_ (λ_ _ _ _ h=>h)<|λ_ _ _ h=>h
 rintro l2 _ s2 ⟨rfl,dt,CG⟩
 refine Wg CG (λ_ _ h=>h) ?_
 refine Ws<|Wq<|Wv rfl<|Wn<|WP.post (ae6 (v2:=v2) (v9:=v9) (v11:=v11) (v12:=v12) (v16:=v16) (v19:=iv<|.ofNat<|jL n tp) hE hM hm0 hf dt<|aa rfl<|aa rfl<|aa rfl<|aa rfl<|aa rfl<|aa rfl<|aa rfl<|aa rfl<|aa rfl<|aa rfl<|aa rfl<|aa rfl<|aa rfl<|aB) ?_ (λ_ _ _ _ h=>h)<|λ_ _ _ h=>h
 rintro l3 _ s3 ⟨rfl,gw,PN⟩
 have xE:=abd (n:=n) (tp:=tp)
 refine Wg PN (λ_ _ h=>h) ?_
 refine Wq<|Wv rfl<|Wn<|Ws<|WP.post (Qn:=λl2 ds2 s2=>ds2=[]/\aH bl EL d t s2/\∀i x,lk ((25,iv<|if dM then 1 else 0)::(19,iv<|.ofNat<|jL n tp)::(20,iv m)::Az v2 v9 v11 v12 v16 lv n w bf dM) i=some x->lk l2 i=some x) ?_ ?_ (λ_ _ _ _ h=>h)<|λ_ _ _ h=>h
 ·cases YT:dM with
  | false=>
   refine Wq<|Wv rfl<|Wn<|Wd rfl fS<|λ_=>Wi ?_
   exact⟨rfl,gw,aa rfl<|aa rfl<|aa rfl<|aa rfl<|aa rfl<|aa rfl<|aa rfl<|aa rfl<|aa rfl<|aa rfl<|aa rfl<|aa rfl<|aa rfl<|aB⟩
  | true=>
   rcases(by have:=hM.wp YT;omega:w=0\/w=1)with rfl|rfl
   ·refine Vr (k:=?_)
    refine Wa (.bslice rfl rfl) λaji=>Vr (k:=?_)
    exact⟨rfl,gw.bK (m:=[_]),aa rfl<|aa rfl<|aa rfl<|aa rfl<|aa rfl<|aa rfl<|aa rfl<|aa rfl<|aa rfl<|aa rfl<|aa rfl<|aa rfl<|aa rfl<|aB⟩
   ·refine Vr (k:=?_)
    refine Wa (.bslice rfl rfl) λaji=>Vr (k:=?_)
    exact⟨rfl,gw.bK (m:=[_]),aa rfl<|aa rfl<|aa rfl<|aa rfl<|aa rfl<|aa rfl<|aa rfl<|aa rfl<|aa rfl<|aa rfl<|aa rfl<|aa rfl<|aa rfl<|aB⟩
 rintro l4 _ s4 ⟨rfl,pM,hl4⟩
 have hmn:=hM.mn
 have hst:=hM.st
 have hsub:binV .sub (iv<|.ofNat<|jL n tp) (iv<|if dM then 1 else 0)=some (iv m):=by
  rw[hmn]
  exact aew (by simp only[Int.ofNat_eq_natCast];split<;>omega)
 have anA:eqBy 20 .pi (iv m) (iv m)=some true:=by rw[dh,decide_eq_true rfl]
 refine Wg hl4 (λ_ _ h=>h) ?_
 obtain⟨bX,hhd,agl⟩:=hM.hd
 have hz:d.ci 1 0=some (bX,λl'=>{ d with hd:=d.hd.set 0 l' }):=by unfold SD.ci;rw[hhd];rfl
 have hp0:0<d.pl.length:=by rw[hM.pl];exact(by decide:0<2)
 refine Vr (k:=Ww<|W1 (AK hE.hB hE.hG pM hE.hd hf) ?_)
 rintro v5 s5 ⟨ms,tn,hsv⟩
 have ao3:lenOf v5=some d.st.length:=by
  obtain⟨L,k1,k2⟩:=hsv
  rw[k1.lenOf,k2.len]
 have hm5:aH bl EL d t s5:=aH.fb tn
 have hq:=acx hE hm5 hf hp0 hz (by rw[agl];split<;>decide)
 have hwp:=hM.wp
 clear hM hsub hz hl CG PN hl4 hmn hs dt gw pM
 cases dM with
 | false=>
  have aj6:eqBy 20 .pi (iv<|.ofNat d.st.length) (iv<|.ofNat 1)=some false:=by rw[hst];rfl
  have aj7:eqBy 20 .pb (.bool false) (.bool false)=some true:=rfl
  refine Vr (k:=Ww<|W1 (hq) ?_)
  rintro v6 _ ⟨m6,u6,hS6,rfl,hb6⟩
  have akP:lenOf v6=some 2:=by
   have h2:bX.length=2:=agl
   rw[hS6.lenOf,show(nR bX).length=bX.length by simp[nR],h2]
  have hs7:aH bl EL d t (u6++(m6++t)):=(hb6<|m6++t).fb
  have aj8:eqBy 20 .pi (iv<|.ofNat 2) (iv<|.ofNat 2)=some true:=rfl
  have aj9:eqBy 20 .pb (.bool true) (.bool true)=some true:=rfl
  refine Vr (k:=?_)
  exact⟨rfl,hs7,aa rfl<|aa rfl<|aa rfl<|aa rfl<|aa rfl<|aa rfl<|aa rfl<|aa rfl<|aa rfl<|aa rfl<|aB⟩
 | true=>
  have Y8:=hwp rfl
  have aj6:eqBy 20 .pi (iv<|.ofNat d.st.length) (iv<|.ofNat 1)=some true:=by rw[hst];rfl
  have aj7:eqBy 20 .pb (.bool true) (.bool true)=some true:=rfl
  refine Vr (k:=Ww<|W1 (hq) ?_)
  rintro v6 _ ⟨m6,u6,hS6,rfl,hb6⟩
  have akP:lenOf v6=some 1:=by
   have h2:bX.length=1:=by rw[agl];simp;omega
   rw[hS6.lenOf,show(nR bX).length=bX.length by simp[nR],h2]
  have hs7:aH bl EL d t (u6++(m6++t)):=(hb6<|m6++t).fb
  have aj8:eqBy 20 .pi (iv<|.ofNat 1) (iv<|.ofNat 2)=some false:=rfl
  have anE:eqBy 20 .pi (iv<|.ofNat w) (iv<|.ofNat 2)=some false:=by rw[dh,decide_eq_false<|λh=>absurd (Int.ofNat.inj h)<|by omega]
  have aj9:eqBy 20 .pb (.bool false) (.bool false)=some true:=rfl
  refine Vr (k:=?_)
  exact⟨rfl,hs7,aa rfl<|aa rfl<|aa rfl<|aa rfl<|aa rfl<|aa rfl<|aa rfl<|aa rfl<|aa rfl<|aa rfl<|aB⟩
inductive UnA (n:Nat):Nat->(Nat->Bool)->SD->Prop
 | aim:UnA n 0 (λ_=>false) (aD n (λ_=>false) 0 1 1 0 [] false)
 | pay (w:Bool) (tp:Nat->Bool) (ct:List TG) (h:CtA w ct):UnA n (if w then 0 else 1) tp (aD n tp (.ofNat<|jL n tp) 1 (if w then 1 else 2) 0 ct true)
 | aey:UnA n 2 (λ_=>false) (aD n (λ_=>false) 0 2 3 0 [] false)
inductive PdA (n:Nat):Nat->(Nat->Bool)->SD->Prop
 | pd (w:Bool) (tp:Nat->Bool) (ct:List TG) (h:CtA w ct) (h1:1<=jL n tp):PdA n (if w then 0 else 1) tp (qD n tp (.ofNat (jL n tp)+-1) w 0 0 0 [] false (.ofNat<|n+6) [itA n w ct])
def EiA (n w:Nat)(tp:Nat->Bool)(dM:Bool)(d:SD):Prop:=(dM=true/\PdA n w tp d)\/(dM=false/\UnA n w tp d)
def Gon (k:Nat)(A B:List (List AV)):Prop:=∃M,B=A++M/\M.length<=k
theorem UnA.ge (N:AEnv P K F T tF)(hP:gK C tl)(hn:n<=6)(h:UnA n w tp d):GE P K F T tF (λ_ c=>c) C d:=by
 cases h with
 | aim=>exact N.aD hP hn<|by decide
 | pay w tp ct h=>exact N.aD hP hn h.len
 | aey=>exact N.aD hP hn<|by decide
theorem CtA.sm {w:Bool}{ct:List TG}(h:CtA w ct):[itA n w ct].length<=1/\∀x∈[itA n w ct],x.tg.length<=1000:=
 ⟨Nat.le_refl 1,λy hy=>by rw[List.mem_singleton.1 hy];exact Nat.le_trans h.len<|by decide⟩
theorem PdA.ge (N:AEnv P K F T tF)(hP:gK C tl)(hn:n<=6)(h:PdA n w tp d):GE P K F T tF (λ_ c=>c) C d:=by
 cases h with
 | pd w tp ct h h1=>exact N.ge hP (AB hn (by decide) h.sm) abg aet<|afT hP
theorem UnA.mes (h:UnA n w tp d):Mes n w tp (.ofNat (jL n tp)) false d:=by
 cases h with
 | aim=>exact⟨λk hk=>aas hk,by rw[aak];rfl,by simp,(λh=>nomatch h),rfl,[1,2],rfl,rfl⟩
 | pay w tp ct h=>exact⟨λk hk=>aas hk,rfl,by simp,(λh=>nomatch h),rfl,[1,2],rfl,rfl⟩
 | aey=>exact⟨λk hk=>aas hk,by rw[aak];rfl,by simp,(λh=>nomatch h),rfl,[1,2],rfl,rfl⟩
theorem PdA.mes (h:PdA n w tp d):Mes n w tp (.ofNat (jL n tp)+-1) true d:=by
 cases h with
 | pd w tp ct h h1=>exact⟨λk hk=>ada hk,rfl,rfl,λ_=>by cases w<;>decide,rfl,[aiF w],rfl,by cases w<;>rfl⟩
theorem aiN (N:AEnv P K F T tF)(hP:gK C tl)(hm:kj bf bl aZ ap c0 8 c2 c3 c4 C tl t)(hn:n<=6)(hu:UnA n w tp d) :
  ∃L0:List OC,L0.length<=8000/\(∀EL x s,aH bl EL d (x++t) s->bB P K (F 409) [gm tF bf] s (λv s'=>∃m',aH bl EL d (m'++(x++t)) s'/\Src m' 3 v (V1<|L0++[⟨6,0,0⟩]))) /\
   ∀EL s(y:OC),EL.length<=4000->aH bl EL d t s->y∈L0++[⟨6,0,0⟩]->bB P K (F 410) [gm tF bf,.agg y.row] s (λv s'=>∃dM tp' d' E2,v=.bool dM/\Gon 4 EL E2/\aH bl E2 d' t s'/\EiA n w tp' dM d'):=by
 have hE:=hu.ge N hP hn
 cases hu with
 | aim=>
  have hc:([]:List TG).length<=1:=by decide
  obtain⟨am,hp⟩:=adx N hP hm hn hc (tp:=λ_=>false) (m:=0) (ck:=1) (co:=1) (ca:=0) (py:=false)
  have vo:=qJ (kind:=.ofNat 3) (aQ:=0) (g:=λ_ c=>c) (C:=C) hE.hd
  have p8:∀EL x s,aH bl EL (aD n (λ_=>false) 0 1 1 0 [] false) (x++t) s->bB P K (F 409) [gm tF bf] s (λv s'=>∃m',aH bl EL (aD n (λ_=>false) 0 1 1 0 [] false) (m'++(x++t)) s'/\Src m' 3 v (V1<|ocT (dT (λ_ c=>c) (aD n (λ_=>false) 0 1 1 0 [] false) C (.ofNat 3) 0)++[⟨6,0,0⟩])):=
   λEL x s hs=>aiD hE N.ac (hm.up x) (hp.up x) (acC hP) (by decide:0<2) hE.hd.n1.2.2.1 rfl vo hs
  refine⟨_,by rw[ocT,List.length_map];omega,p8,λEL s y hEL hs hy=>?_⟩
  have hL:(ocT (dT (λ_ c=>c) (aD n (λ_=>false) 0 1 1 0 [] false) C (.ofNat 3) 0)++[(⟨6,0,0⟩:OC)]).length<=9000:=by rw[List.length_append,ocT,List.length_map,List.length_singleton];omega
  rcases List.mem_append.1 hy with h|h
  ·obtain⟨x,hx,rfl⟩:=List.mem_map.1 h
   have key:∀p:Int,0<=p/\p<=1->x=⟨p,0⟩->bB P K (F 410) [gm tF bf,.agg (⟨5,x.p,x.o⟩:OC).row] s (λv s'=>∃dM tp' d' E2,v=.bool dM/\Gon 4 EL E2/\aH bl E2 d' t s'/\EiA n 0 tp' dM d'):=by
    rintro p Gu rfl
    refine(ajv N hP hm hn (by omega) hs hL (p8 EL) Gu hy).post ?_
    rintro v s' ⟨rfl,E2,⟨row,rfl⟩,h2⟩
    refine⟨false,λ_=>false,_,_,rfl,⟨[row],rfl,(by decide:1<=4)⟩,h2,.inr ⟨rfl,?_⟩⟩
    have:=UnA.pay (n:=n) true (λ_=>false) [⟨p,0⟩]<|.inl ⟨rfl,p,Gu,rfl⟩
    rw[aak]at this
    exact this
   rcases abj.1 hx with h|h
   ·exact key 0 (by decide) h
   ·exact key 1 (by decide) h
  ·obtain rfl:=List.mem_singleton.1 h
   refine(af5 hE N hm hs hp hL (p8 EL) hy).post ?_
   rintro v s' ⟨rfl,h2⟩
   exact⟨false,_,_,_,rfl,⟨[],(List.append_nil _).symm,by decide⟩,h2,.inr ⟨rfl,.aim⟩⟩
 | pay w tp ct h=>
  obtain⟨am,hp⟩:=afQ N hP hm hn h.len w (tp:=tp) (m:=.ofNat<|jL n tp) (ck:=1) (co:=if w then 1 else 2) (ca:=0) (py:=true)
  have xE:=abd (n:=n) (tp:=tp)
  have hk:(if w then [3]else []:List Nat).length<=ct.length:=by
   rcases h with⟨rfl,p,_,rfl⟩|⟨rfl,rfl⟩<;>exact Nat.le_refl _
  have p8:∀EL x s,aH bl EL (aD n tp (.ofNat<|jL n tp) 1 (if w then 1 else 2) 0 ct true) (x++t) s->bB P K (F 409) [gm tF bf] s (λv s'=>∃m',aH bl EL (aD n tp (.ofNat<|jL n tp) 1 (if w then 1 else 2) 0 ct true) (m'++(x++t)) s'/\Src m' 3 v (V1<|((if decide (1<=jL n tp)then [⟨7,0,0⟩]else [])++ocL (kN (aD n tp (.ofNat<|jL n tp) 1 (if w then 1 else 2) 0 ct true) C 0 true (aD n tp (.ofNat<|jL n tp) 1 (if w then 1 else 2) 0 ct true).fi))++[⟨6,0,0⟩])):=λEL x s hs=>by
   rw[List.append_assoc]
   exact akT N hE (hm.up x) (hp.up x) (acC hP) (by decide:0<2) hE.hd.n1.2.2.1 hk rfl (lp:=P1<|.ofNat<|jL n tp) rfl rfl (by decide) (λs=>N.says.can _ w s<|by omega) hs
  have hfi:(kN (aD n tp (.ofNat<|jL n tp) 1 (if w then 1 else 2) 0 ct true) C 0 true (aD n tp (.ofNat<|jL n tp) 1 (if w then 1 else 2) 0 ct true).fi).length<=1000:=Nat.le_trans (List.length_filter_le ..) hE.hd.n1.2.2.1
  have Uy:((if decide (1<=jL n tp)then [(⟨7,0,0⟩:OC)]else [])++ocL (kN (aD n tp (.ofNat<|jL n tp) 1 (if w then 1 else 2) 0 ct true) C 0 true (aD n tp (.ofNat<|jL n tp) 1 (if w then 1 else 2) 0 ct true).fi)).length<=8000:=by
   rw[List.length_append,ocL,List.length_map]
   split<;>simp only[List.length_nil,List.length_singleton]<;>omega
  refine⟨_,Uy,p8,λEL s y hEL hs hy=>?_⟩
  have hL:=Nat.le_trans (Nat.le_of_eq<|@List.length_append OC _ [(⟨6,0,0⟩:OC)])<|Nat.add_le_add Uy<|Nat.le_refl 1
  have hL:=Nat.le_trans hL (by decide:8000+1<=9000)
  rcases List.mem_append.1 hy with h'|h'
  ·rcases List.mem_append.1 h' with h' | h'
   ·by_cases hb:1<=jL n tp
    ·rw[if_pos (decide_eq_true hb)]at h'
     obtain rfl:=List.mem_singleton.1 h'
     refine(aju N hP hm hn hEL ⟨hb,by omega⟩ h hs hL (p8 EL) hy).post ?_
     rintro v s' ⟨rfl,E2,⟨r1,r2,r3,r4,rfl⟩,h2⟩
     exact⟨true,_,_,_,rfl,⟨[r1,r2,r3,r4],by simp,(by decide:4<=4)⟩,h2,.inl ⟨rfl,.pd w tp ct h hb⟩⟩
    ·rw[if_neg (by rw[decide_eq_true_eq];exact hb)]at h'
     cases h'
   ·obtain⟨id,hid,rfl⟩:=List.mem_map.1 h'
    obtain⟨_,k,hk,rfl,htk⟩:=ad3 hP hid
    refine(ajt N hP hm hn h.len hEL hs hp hL (p8 EL) hk htk ⟨Int.natCast_nonneg _,Int.ofNat_le.2 (by omega:jL n tp<=900)⟩ hy).post ?_
    rintro v s' ⟨rfl,E2,⟨r1,r2,rfl⟩,h2⟩
    refine⟨false,λj=>decide (j=k)||tp j,_,_,rfl,⟨[r1,r2],by simp,(by decide:2<=4)⟩,h2,.inr ⟨rfl,?_⟩⟩
    have:=UnA.pay (n:=n) w (λj=>decide (j=k)||tp j) ct h
    rw[ad9 hk htk]at this
    exact this
  ·obtain rfl:=List.mem_singleton.1 h'
   refine(af5 hE N hm hs hp hL (p8 EL) hy).post ?_
   rintro v s' ⟨rfl,h2⟩
   exact⟨false,_,_,_,rfl,⟨[],(List.append_nil _).symm,by decide⟩,h2,.inr ⟨rfl,.pay w tp ct h⟩⟩
 | aey=>
  have hc:([]:List TG).length<=1:=by decide
  obtain⟨am,n0,n1,n2,n3,tap,hp⟩:=afP N hP hm hn hc (tp:=λ_=>false) (m:=0) (ck:=2) (co:=3) (ca:=0) (py:=false)
  have vo:=qJ (kind:=.ofNat 1) (aQ:=0) (g:=λ_ c=>c) (C:=C) hE.hd
  have p8:∀EL x s,aH bl EL (aD n (λ_=>false) 0 2 3 0 [] false) (x++t) s->bB P K (F 409) [gm tF bf] s (λv s'=>∃m',aH bl EL (aD n (λ_=>false) 0 2 3 0 [] false) (m'++(x++t)) s'/\Src m' 3 v (V1<|ocT (dT (λ_ c=>c) (aD n (λ_=>false) 0 2 3 0 [] false) C (.ofNat 1) 0)++[⟨6,0,0⟩])):=
   λEL x s hs=>aiD hE N.ac (hm.up x) (hp.up x) (acC hP) (by decide:0<2) hE.hd.n1.2.2.1 rfl vo hs
  refine⟨_,by rw[ocT,List.length_map];omega,p8,λEL s y hEL hs hy=>?_⟩
  have hL:(ocT (dT (λ_ c=>c) (aD n (λ_=>false) 0 2 3 0 [] false) C (.ofNat 1) 0)++[(⟨6,0,0⟩:OC)]).length<=9000:=by rw[List.length_append,ocT,List.length_map,List.length_singleton];omega
  rcases List.mem_append.1 hy with h|h
  ·obtain⟨x,hx,rfl⟩:=List.mem_map.1 h
   exact absurd hx abj.2
  ·obtain rfl:=List.mem_singleton.1 h
   refine(af5 hE N hm hs hp hL (p8 EL) hy).post ?_
   rintro v s' ⟨rfl,h2⟩
   exact⟨false,_,_,_,rfl,⟨[],(List.append_nil _).symm,by decide⟩,h2,.inr ⟨rfl,.aey⟩⟩
open Go.Proofs
set_option maxRecDepth 100000
noncomputable def aho:CF:=NF (cd 11 6) _
structure BaseMk (P:Program)(K:Orc)(F:Nat->FuncId)(T:Nat->TypeId):Prop where
 f354:FnK P K (F 354) 6 [(.tmp 2)] (aho F T)
variable {cv:AV}
theorem Src.ats {sz:Nat}{v:AV}{L:List (List AV)}(h:Src s sz v L)(hp:0<L.length):∃b r n c sl ro M,v=.slice (some ⟨b,r,0⟩) n c sl sz/\Has b (.r ro M sz) s/\∀i,i<L.length->i<n/\M[r+i]?=L[i]?:=by
 cases h with
 | nil=>exact absurd hp<|Nat.lt_irrefl _
 | zero=>exact absurd hp<|Nat.lt_irrefl _
 | emp=>exact absurd hp<|Nat.lt_irrefl _
 | rows hb hn=>
  refine⟨_,_,_,_,_,_,_,rfl,hb,λi hi=>?_⟩
  rw[List.length_take]at hi
  have hi:i<_:=Nat.lt_of_lt_of_le hi<|Nat.min_le_left _ _
  exact⟨hi,by rw[List.getElem?_take,if_pos hi,List.getElem?_drop]⟩
theorem EiA.ge (N:AEnv P K F T tF)(hP:gK C tl)(hn:n<=6)(h:EiA n w tp dM d):GE P K F T tF (λ_ c=>c) C d:=by
 rcases h with⟨_,h⟩|⟨_,h⟩
 ·exact h.ge N hP hn
 ·exact h.ge N hP hn
theorem EiA.mes (hn:n<=6)(h:EiA n w tp dM d):∃m,(0<=m/\m<=6)/\Mes n w tp m dM d:=by
 have hc:=abd (n:=n) (tp:=tp)
 rcases h with⟨rfl,h⟩|⟨rfl,h⟩
 ·refine⟨_,?_,h.mes⟩
  cases h with
  | pd w tp ct h h1=>simp only[Int.ofNat_eq_natCast];omega
 ·refine⟨_,?_,h.mes⟩
  simp only[Int.ofNat_eq_natCast]
  omega
theorem ac2 (hM:BaseM P K F T)(hs:aH bl EL d t s):bB P K (F 25) [.ptr (some ⟨bl,0,0⟩)] s (λv s'=>v=iv (.ofNat EL.length)/\aH bl EL d t s'):=by
 have hs0:=hs
 obtain⟨sc,lv,pv,ov,IO,hv,gv,ev,fv,sv,wv,kv,oL,nn,k1,k2,k3,k4⟩:=hs
 have hb:Has bl (.r false [sc++([lv]++(d.cells pv ov IO hv gv ev fv sv wv kv++[]))] 51) s:=.d5<|k1.mem_iff.2<|by simp
 have hl:bV 1 (cu 25<|sc++([lv]++(d.cells pv ov IO hv gv ev fv sv wv kv++[])))=some [lv]:=nA k2.len rfl
 have hn:lenOf lv=some EL.length:=k3.out.src.lenOf
 refine hM.f25.cF ?_
 unfold ZQ
 refine Vk (k:=We<|Wm (.tmp rfl .nil) ?_)
 exact⟨rfl,hs0⟩
theorem abu (hB:Base P K F T)(hL:BaseM P K F T)(hM:BaseMk P K F T)(hs:aH bl EL d t s)(hf:Has bf (.r false [bu bl aZ c0 c1 c2 c3 c4 ap] 8) t) :
  bB P K (F 354) [.ptr (some ⟨bf,0,0⟩)] s (λv s'=>v=iv (.ofNat EL.length)/\aH bl EL d t s'):=by
 refine hM.f354.cF ?_
 unfold aho
 refine Vr (k:=Ww<|W1 (iT hB<|hs.mem hf) ?_)
 rintro _ _ ⟨rfl,rfl⟩
 refine Ww<|W1 (ac2 hL hs) ?_
 rintro _ s2 ⟨rfl,dt⟩
 refine Vk (k:=We<|Wm (.tmp rfl .nil) ?_)
 exact⟨rfl,dt⟩
theorem aen (N:AEnv P K F T (T 26))(hMk:BaseMk P K F T)(hP:gK C tl)(hm:kj bf bl aZ ap c0 8 c2 c3 c4 C tl t)(hn:n<=6)(hw:w<3)(hlv:Src t 1 lv (nR ((List.range n).map gW))){L:List (List AV)}(XV:lenOf cv=some L.length)(sg:0<L.length->Src t 1 cv L)(hLr:∀i,i<L.length->∃x:Nat,x<=255/\L[i]?=some [.int .u8 (.ofNat x)])
  {EL1:List (List AV)} (hE1:EL1.length<=20) {d0:SD} (hu:UnA n w tp d0) (hs:aH bl EL1 d0 t s) (hl:∀i x,lk (Az cv v9 v11 v12 (iv 0) lv n w bf false) i=some x->lk l i=some x) :
  WP P K none 248 (.block 0<|.loop<|aft F T) l [] s (λl2 ds2 s2=>ds2=[]/\∃dM tp d EL v16,EiA n w tp dM d/\Gon 80 EL1 EL/\aH bl EL d t s2/\∀i x,lk (Az cv v9 v11 v12 v16 lv n w bf dM) i=some x->lk l2 i=some x) Qe Qr:=by
 refine Wb ?_
 refine Wp (λk l ds s'=>ds=[]/\∃i dM tp d EL,k=20-i/\i<=20/\EiA n w tp dM d/\Gon (4*i) EL1 EL/\aH bl EL d t s'/\∀j x,lk (Az cv v9 v11 v12 (iv<|.ofNat i) lv n w bf dM) j=some x->lk l j=some x) ?_ (n:=20-0)
  ⟨rfl,0,false,tp,d0,EL1,rfl,Nat.zero_le _,.inr ⟨rfl,hu⟩,⟨[],(List.append_nil _).symm,Nat.zero_le _⟩,hs,hl⟩
 rintro k l ds s' ⟨rfl,i,dM,tp,d,EL,rfl,hi,hei,⟨M,rfl,hM⟩,hs,hl⟩
 have hf:=hm.hf
 refine Wg hl (λ_ _ h=>h) ?_
 unfold aft
 try unfold akW
 by_cases hlt:i<L.length
 ·have h70:binV .lss (iv<|.ofNat i) (iv<|.ofNat L.length)=some (.bool true):=by rw[eT,decide_eq_true<|show Int.ofNat i<Int.ofNat L.length from Int.ofNat_lt.2 hlt]
  by_cases h20:i<20
  ·have h73:binV .lss (iv<|.ofNat i) (iv<|.ofNat 20)=some (.bool true):=by rw[eT,decide_eq_true<|show Int.ofNat i<Int.ofNat 20 from Int.ofNat_lt.2 h20]
   cases dM with
   | true=>
    refine Vk (k:=Wx ?_)
    exact⟨rfl,true,tp,d,_,_,hei,⟨M,rfl,by omega⟩,hs,aa rfl<|aa rfl<|aa rfl<|aa rfl<|aa rfl<|aa rfl<|aa rfl<|aa rfl<|aa rfl<|aa rfl<|aB⟩
   | false=>
    obtain hud:UnA n w tp d:=by
     rcases hei with⟨h,_⟩|⟨_,h⟩
     ·cases h
     ·exact h
    obtain⟨L0,hL8,p8,ako⟩:=aiN N hP hm hn hud
    obtain⟨bc,rc,nc,cc',slc,roc,Mc,rfl,hbc,CC⟩:=(sg<|by omega).ats (by omega)
    obtain⟨x,hx,hLx⟩:=hLr i hlt
    obtain⟨hic,aaW⟩:=CC i hlt
    rw[hLx]at aaW
    refine Vr (k:=Ww<|W1 (abu N.hB N.mv hMk hs hf) ?_)
    rintro _ s2 ⟨rfl,dt⟩
    refine Vr (k:=Ww<|W1 (p8 (EL1++M) [] _ dt) ?_)
    rintro v18 s3 ⟨m',gw,hS⟩
    have hlen:(V1<|L0++[(⟨6,0,0⟩:OC)]).length=L0.length+1:=by rw[Dh,List.length_append,List.length_singleton]
    obtain⟨b8,r8,n8,c8,sl8,ro8,M8,rfl,hb8,adK⟩:=hS.ats<|by omega
    obtain⟨hi8,abK⟩:=adK L0.length<|by omega
    have abK:M8[r8+L0.length]?=some [iv 6,iv 0,iv 0]:=by rw[abK,V1,List.getElem?_map,List.getElem?_append_right<|Nat.le_refl _,Nat.sub_self];rfl
    have l87:lenOf (.slice (some ⟨b8,r8,0⟩) n8 c8 sl8 3)=some (L0.length+1):=by rw[hS.lenOf,hlen]
    have h88:eqBy 20 .pi (iv<|.ofNat<|L0.length+1) (iv<|.ofNat 0)=some false:=by rw[dh,decide_eq_false<|λh=>absurd (Int.ofNat.inj h)<|by omega]
    have h93:binV .sub (iv<|.ofNat<|L0.length+1) (iv<|.ofNat 1)=some (iv<|.ofNat L0.length):=by
     rw[aew (by simp only[Int.ofNat_eq_natCast];omega)]
     congr 2
     simp only[Int.ofNat_eq_natCast]
     omega
    have h97:eqBy 20 .pi (iv 6) (iv<|.ofNat 6)=some true:=rfl
    have aig:=gw.mem<|Has.left (s:=[]++t) hb8
    have KE:Has bf (.r false [bu bl aZ c0 8 c2 c3 c4 ap] 8) (m'++([]++t)):=.app zP
    refine Vk (k:=Ww<|W1 (abu N.hB N.mv hMk gw KE) ?_)
    rintro _ s4 ⟨rfl,pM⟩
    have anw:eqBy 20 .pi (iv<|.ofNat (EL1++M).length) (iv<|.ofNat (EL1++M).length)=some true:=by rw[dh,decide_eq_true rfl]
    have hj:x%(L0.length+1)<L0.length+1:=Nat.mod_lt _<|by omega
    obtain⟨hi9,afI⟩:=adK (x%(L0.length+1))<|by omega
    have hj':x%(L0.length+1)<(L0++[(⟨6,0,0⟩:OC)]).length:=by rw[List.length_append,List.length_singleton];exact hj
    obtain⟨y,hy⟩:∃y,(L0++[(⟨6,0,0⟩:OC)])[x%(L0.length+1)]?=some y:=⟨_,List.getElem?_eq_getElem hj'⟩
    have akM:=List.mem_of_getElem? hy
    have afI:M8[r8+x%(L0.length+1)]?=some y.row:=by rw[afI,V1,List.getElem?_map,hy];rfl
    have anx:mkI .i64 (.ofNat x)=some (iv<|.ofNat x):=tD<|by omega
    have anz:binV .rem (iv<|.ofNat x) (iv<|.ofNat<|L0.length+1)=some (iv<|.ofNat<|x%(L0.length+1)):=yi<|by omega
    have aob:=pM.mem<|Has.left (s:=[]++t) hb8
    have aoe:=pM.mem zP
    have tn:aH bl (EL1++M) d t s4:=aH.fb (x:=m') pM
    refine Vk (k:=Ww<|W1 (ako (EL1++M) _ y (by rw[List.length_append];omega) tn akM) ?_)
    rintro _ s6 ⟨dM,tp',d',_,rfl,⟨M2,rfl,T9⟩,KL,agk⟩
    obtain⟨m6,hm6,akw⟩:=agk.mes hn
    refine Wv rfl<|Wn<|WP.post (ae8 (v2:=.slice (some ⟨bc,rc,0⟩) nc cc' slc 1) (v9:=v9) (v11:=v11) (v12:=v12) (v16:=iv<|.ofNat i) (agk.ge N hP hn) akw hm6 hn hw hf hlv KL<|aa rfl<|aa rfl<|aa rfl<|aa rfl<|aa rfl<|aa rfl<|aa rfl<|aa rfl<|aa rfl<|aa rfl<|aB) ?_ (λ_ _ _ _ h=>h)<|λ_ _ _ h=>h
    rintro l7 _ s7 ⟨rfl,hs7,hl7⟩
    have X1:binV .add (iv<|.ofNat i) (iv<|.ofNat 1)=some (iv<|.ofNat<|i+1):=bM<|by omega
    refine Wg hl7 (λ_ _ h=>h) ?_
    refine Vr (k:=?_)
    exact⟨20-(i+1),by omega,rfl,i+1,dM,tp',d',_,rfl,h20,agk,⟨M++M2,by rw[List.append_assoc],by rw[List.length_append];omega⟩,hs7,aa rfl<|aa rfl<|aa rfl<|aa rfl<|aa rfl<|aa rfl<|aa rfl<|aa rfl<|aa rfl<|aa rfl<|aB⟩
  ·have h73:binV .lss (iv<|.ofNat i) (iv<|.ofNat 20)=some (.bool false):=by rw[eT,decide_eq_false<|show¬Int.ofNat i<Int.ofNat 20 fromλh=>h20<|Int.ofNat_lt.1 h]
   refine Vk (k:=Wx ?_)
   exact⟨rfl,dM,tp,d,_,_,hei,⟨M,rfl,by omega⟩,hs,aa rfl<|aa rfl<|aa rfl<|aa rfl<|aa rfl<|aa rfl<|aa rfl<|aa rfl<|aa rfl<|aa rfl<|aB⟩
 ·have h70:binV .lss (iv<|.ofNat i) (iv<|.ofNat L.length)=some (.bool false):=by rw[eT,decide_eq_false<|show¬Int.ofNat i<Int.ofNat L.length fromλh=>hlt<|Int.ofNat_lt.1 h]
  refine Vk (k:=Wx ?_)
  exact⟨rfl,dM,tp,d,_,_,hei,⟨M,rfl,by omega⟩,hs,aa rfl<|aa rfl<|aa rfl<|aa rfl<|aa rfl<|aa rfl<|aa rfl<|aa rfl<|aa rfl<|aa rfl<|aB⟩
theorem agH (N:AEnv P K F T tF)(hE:GE P K F T tF g C d)(hm:kj bf bl aZ ap c0 c1 c2 c3 c4 C tl t)(hs:aH bl EL d t s)(Sc:d.obj d.co=none):bB P K (F 409) [gm tF bf] s (λv s'=>v=nilS/\aH bl EL d t s'):=
 aa8 hE N.ac hm.hf hs λkv⟨s0,h0⟩x s hs=>ac6 hE N.ac N.t420 (hm.up x) hs h0 Sc
theorem aes (N:AEnv P K F T (T 26))(hP:gK C tl)(hm:kj bf bl aZ ap c0 8 c2 c3 c4 C tl t)(hn:n<=6){b9:Nat}(h9:Has b9 (.r false [[iv 1,iv 2,iv 3]] 3) t)(hei:EiA n w tp dM d)(hs:aH bl EL d t s)(hl:∀i x,lk (Az cv (.ptr (some ⟨b9,0,0⟩)) v11 v12 v16 lv n w bf dM) i=some x->lk l i=some x) :
  WP P K none 248 (afs F T) l [] s (λl2 ds2 s2=>ds2=[]/\aH bl EL d t s2/\∀i x,lk (Az cv (.ptr<|some ⟨b9,0,0⟩) v11 v12 v16 lv n w bf dM) i=some x->lk l2 i=some x) Qe Qr:=by
 refine Wg hl (λ_ _ h=>h) ?_
 try unfold afs
 have hf:=hm.hf
 rcases hei with⟨rfl,YT⟩|⟨rfl,hu⟩
 rotate_left
 ·refine Vr (k:=?_)
  exact⟨rfl,hs,qb⟩
 have hE:=YT.ge N hP hn
 cases YT with
 | pd w tp ct h h1=>
  rcases h with⟨rfl,p,hpp,rfl⟩|⟨rfl,rfl⟩
  ·refine Vr (k:=Ww<|W1 (AK hE.hB hE.hG hs hE.hd hf) ?_)
   rintro v5 s5 ⟨m5,tn,L5,hS5,hN5⟩
   obtain⟨kv,hL5,hkv⟩:=hN5.at (i:=0) (x:=itA n true [⟨p,0⟩]) rfl
   have hlen:=hN5.len
   obtain⟨b8,r8,n8,c8,sl8,ro8,M8,rfl,hb8,adK⟩:=hS5.ats (by rw[hlen];exact(by decide:0<1))
   obtain⟨hi8,abK⟩:=adK 0 (by rw[hlen];exact(by decide:0<1))
   rw[hL5]at abK
   have aig:=tn.mem<|Has.left hb8
   have lkv:lenOf kv=some 1:=by rw[hkv.lenOf,sd];rfl
   have KL:aH bl EL _ t s5:=aH.fb tn
   have h9':=KL.mem h9
   refine Vk (k:=λb26=>Vk (k:=Wr (.iaddrA rfl rfl<|by decide)<|Vk (k:=Ww<|W1 (vu hE KL.cons zP (id:=3) abh) ?_)))
   rintro _ _ ⟨u6,rfl,rfl,hb6⟩
   refine Vr (k:=λb27=>Vr (k:=WP.fd λbd1=>Vr (k:=?_)))
   have hs7:∀q1 q2 q3:Nat × HO,aH bl EL _ (q2::q1::t) (q3::q2::(u6++(q1::t))):=λq1 q2 q3=>(aH.bK (m:=[q3])<|hb6<|q2::q1::t).perm (ak λc w h0 h1 h2 hq=>by simp only[h1,h2,h0,List.cons_append,List.nil_append];omega)
   refine WD.al (.bslice rfl rfl) rfl<|Vr (k:=Dp (.iaddrS rfl rfl (by decide)<|by decide)<|Dy<|Dl rfl (.yes (show bit 116735 14=true from rfl) rfl .here .nil) .ld<|Dy<|Dp (.eql rfl rfl rfl)<|Dp (.bj rfl rfl)<|Dp (.mv rfl)<|Dy<|Dp (.mv rfl)<|Dy<|Dp (.mkif rfl rfl)<|Dy ?_)
   refine(Dc (.yes (show bit 8388607 14=true from rfl) rfl .here .nil)<|W1 (agH N hE (hm.mono λp hp=>List.mem_cons_of_mem _<|List.mem_cons_of_mem _ hp) (hs7 _ _ _) ady) ?_)
   rintro _ s8 ⟨rfl,hs8⟩
   have h27:=hs8.mem .here
   refine Vr (k:=?_)
   exact⟨rfl,aH.fb (x:=[_,_]) hs8,qb⟩
  ·refine Vr (k:=Ww<|W1 (AK hE.hB hE.hG hs hE.hd hf) ?_)
   rintro v5 s5 ⟨m5,tn,L5,hS5,hN5⟩
   obtain⟨kv,hL5,hkv⟩:=hN5.at (i:=0) (x:=itA n false []) rfl
   have hlen:=hN5.len
   obtain⟨b8,r8,n8,c8,sl8,ro8,M8,rfl,hb8,adK⟩:=hS5.ats (by rw[hlen];exact(by decide:0<1))
   obtain⟨hi8,abK⟩:=adK 0 (by rw[hlen];exact(by decide:0<1))
   rw[hL5]at abK
   have aig:=tn.mem<|Has.left hb8
   have lkv:lenOf kv=some 0:=by rw[hkv.lenOf,sd];rfl
   have KL:aH bl EL _ t s5:=aH.fb tn
   have h9':=KL.mem h9
   refine Vk (k:=λb26=>Vk (k:=Wr (.iaddrA rfl rfl<|by decide)<|Vk (k:=Ww<|W1 (vu hE KL.cons zP (id:=3) abh) ?_)))
   rintro _ _ ⟨u6,rfl,rfl,hb6⟩
   refine Vr (k:=λb27=>Vr (k:=WP.fd λbd1=>Vr (k:=?_)))
   have hs7:∀q1 q2 q3:Nat × HO,aH bl EL _ (q2::q1::t) (q3::q2::(u6++(q1::t))):=λq1 q2 q3=>(aH.bK (m:=[q3])<|hb6<|q2::q1::t).perm (ak λc w h0 h1 h2 hq=>by simp only[h1,h2,h0,List.cons_append,List.nil_append];omega)
   refine WD.al (.bslice rfl rfl) rfl<|Vr (k:=Dp (.iaddrS rfl rfl (by decide)<|by decide)<|Dy<|Dl rfl (.yes (show bit 116735 14=true from rfl) rfl .here .nil) .ld<|Dy<|Dp (.eql rfl rfl rfl)<|Dp (.bj rfl rfl)<|Dp (.mv rfl)<|Dy<|Dp (.mv rfl)<|Dy<|Dp (.mkif rfl rfl)<|Dy ?_)
   refine(Dc (.yes (show bit 8388607 14=true from rfl) rfl .here .nil)<|W1 (agH N hE (hm.mono λp hp=>List.mem_cons_of_mem _<|List.mem_cons_of_mem _ hp) (hs7 _ _ _) ady) ?_)
   rintro _ s8 ⟨rfl,hs8⟩
   have h27:=hs8.mem .here
   refine Vr (k:=?_)
   exact⟨rfl,aH.fb (x:=[_,_]) hs8,qb⟩
def adY (t:SH):Po:=λl ds s=>ds=[]/\lk l 6=some (.bool true)/\∀b o,Has b o t->Has b o s
theorem aeP (N:AEnv P K F T (T 26))(hP:gK C tl)(hm:kj bf bl aZ ap c0 8 c2 c3 c4 C tl t)(hn:n<=6){NQ mk:Nat}{pv ov IO hv gv ev fv sv wv kv:AV}(h12:Has NQ (.r false [(aD n (λ_=>false) 0 0 0 0 [] false).cells pv ov IO hv gv ev fv sv wv kv] 25) t)(aeU:mD t pv ov IO hv gv ev fv sv wv kv (aD n (λ_=>false) 0 0 0 0 [] false))
  (hs:aH bl EL d t s) {D:Nat->SD} (hD:acA P K F EL mk D) (hDn:D mk=aD n (λ_=>false) 0 0 0 0 [] false) (h1:0<mk) (h2:mk<EL.length) (hN:EL.length<=5000)
  (hl:∀i x,lk (Az cv v9 (iv<|.ofNat mk) (.ptr<|some ⟨NQ,0,0⟩) v16 lv n w bf dM) i=some x->lk l i=some x) :
  WP P K none 248 (afv F T) l [] s Qn Qe (adY t):=by
 refine Wg hl (λ_ _ h=>h) ?_
 try unfold afv
 have hf:=hm.hf
 have hE:=N.aD hP hn (by decide:([]:List TG).length<=1) (tp:=λ_=>false) (m:=0) (ck:=0) (co:=0) (ca:=0) (py:=false)
 refine Vr (k:=Ww<|W1 (ad7 N.hB N.ab N.t27 hf hs h1 h2 hN hD) ?_)
 rintro _ s2 dt
 rw[hDn]at dt
 refine Vr (k:=Dc .nil<|W1 (iU N.hB dt hE.hd hf) ?_)
 rintro v3 s3 ⟨m3,gw,pv3,ov3,lv3,hv3,gv3,ev3,fv3,sv3,wv3,kv3,rfl,hD3⟩
 have hd3:=hD3.mono (s':=s3) λp hp=>(gw.mem<|.d5<|List.mem_append_left _ hp).mem
 have akr:=aeU.mono (s':=s3) λp hp=>(gw.mem<|.d5<|List.mem_append_right _ hp).mem
 refine WD.lk rfl .nil .ld<|Dc .nil<|W1 (adb N.sm N.t431 hd3 akr hE.hd rfl rfl) ?_
 rintro _ _ ⟨rfl,m4,rfl⟩
 refine Vr (k:=Dc .nil<|W1 (agH N hE hm (aH.bK<|aH.fb (x:=m3) gw) aeM) ?_)
 rintro _ s5 ⟨rfl,tn⟩
 refine Vr (k:=Dc .nil<|W1 (N.says.w _) ?_)
 rintro _ _ ⟨rfl,rfl⟩
 refine Vr (k:=?_)
 refine D0 .nil (We ⟨rfl,rfl,λb o hb=>tn.mem hb⟩) ?_
 intro o' ho'
 rw[List.mem_singleton.1 ho']
 refine⟨(λi hi=>nomatch hi),Nat.zero_le _,aeU.same,λk' _ hk'=>?_⟩
 rcases(by have:k'<=1:=hk';omega:k'=0\/k'=1)with rfl|rfl
 ·exact⟨_,rfl,.load rfl (dt.mem h12) rfl rfl rfl⟩
 ·exact⟨_,rfl,.load rfl (gw.mem zP) rfl rfl rfl⟩
@[reducible] def afK (v2 v9 v11 v12 lv:AV)(n w bf:Nat):Sl:=[(2,v2),(7,iv (.ofNat n)),(8,.ptr (some ⟨bf,0,0⟩)),(9,v9),(10,lv),(11,v11),(12,v12),(13,iv (.ofNat w))]
theorem aeO (N:AEnv P K F T (T 26))(hP:gK C tl)(hm:kj bf bl aZ ap c0 8 c2 c3 c4 C tl t)(hn:n<=6)(hw:w<3){b9:Nat}(h9:Has b9 (.r false [[iv 1,iv 2,iv 3]] 3) t)(hEL:EL.length<=5000)(hs:aH bl EL (aD n (λ_=>false) 0 0 0 0 [] false) t s){r:AC}
  (hl:∀i x,lk (afK cv (.ptr<|some ⟨b9,0,0⟩) v11 v12 lv n w bf) i=some x->lk l i=some x)
  (hk:∀l2 s2 row d0 tp,UnA n w tp d0->aH bl (EL++[row]) d0 t s2->(∀i x,lk (afK cv (.ptr<|some ⟨b9,0,0⟩) v11 v12 lv n w bf) i=some x->lk l2 i=some x)->WP P K none 248 r l2 [] s2 Qn Qe Qr) :
  WP P K none 248 (adZ F T r) l [] s Qn Qe Qr:=by
 refine Wg hl (λ_ _ h=>h) ?_
 unfold adZ
 have h9':=hs.mem h9
 have h1:=UnA.pay (n:=n) false (λ_=>false) []<|.inr ⟨rfl,rfl⟩
 rw[aak]at h1
 rcases(by omega:w=0\/w=1\/w=2)with rfl|rfl|rfl
 ·refine Vr (k:=?_)
  refine Wr (.iaddrA (j:=0) rfl rfl<|by decide)<|Vr (k:=λb14=>Vr (k:=Ww<|W1 (ahY N hP hm hn hEL<|aH.bK (m:=[_]) hs) ?_))
  rintro _ s2 ⟨row,dt⟩
  exact Wn<|hk _ _ row _ _ .aim dt<|aa rfl<|aa rfl<|aa rfl<|aa rfl<|aa rfl<|aa rfl<|aa rfl<|aa rfl<|aB
 ·refine Vr (k:=?_)
  refine Wr (.iaddrA (j:=1) rfl rfl<|by decide)<|Vr (k:=λb14=>Vr (k:=Ww<|W1 (ahZ N hP hm hn hEL<|aH.bK (m:=[_]) hs) ?_))
  rintro _ s2 ⟨row,dt⟩
  exact Wn<|hk _ _ row _ _ h1 dt<|aa rfl<|aa rfl<|aa rfl<|aa rfl<|aa rfl<|aa rfl<|aa rfl<|aa rfl<|aB
 ·refine Vr (k:=?_)
  refine Wr (.iaddrA (j:=2) rfl rfl<|by decide)<|Vr (k:=λb14=>Vr (k:=Wr (.iaddrA (j:=2) rfl rfl<|by decide)<|Vr (k:=Ww<|W1 (ah0 N hP hm hn hEL<|aH.bK (m:=[_]) hs) ?_)))
  rintro _ s2 ⟨row,dt⟩
  exact Wn<|hk _ _ row _ _ .aey dt<|aa rfl<|aa rfl<|aa rfl<|aa rfl<|aa rfl<|aa rfl<|aa rfl<|aa rfl<|aB
theorem acA.gon {D:Nat->SD}{k mk:Nat}{Gg:List (List AV)}(h:acA P K F EL mk D)(hg:Gon k EL Gg)(hm:mk<=EL.length):acA P K F Gg mk D:=by
 obtain⟨M,rfl,_⟩:=hg
 refine⟨h.1,λi hi=>?_⟩
 obtain⟨kk,a,b,m,c,it,h1,h2,h3⟩:=h.2 i hi
 exact⟨kk,a,b,m,c,it,by rw[List.getElem?_append_left (by omega)];exact h1,h2,h3⟩
theorem ae4 (N:AEnv P K F T (T 26))(hMk:BaseMk P K F T)(hP:gK C tl)(hm:kj bf bl aZ ap c0 8 c2 c3 c4 C tl t)(hn:n<=6){x:Nat}(hx:x<=255){b9:Nat}(h9:Has b9 (.r false [[iv 1,iv 2,iv 3]] 3) t)(hlv:Src t 1 lv (nR ((List.range n).map gW)))
  {L:List (List AV)} (XV:lenOf cv=some L.length) (sg:0<L.length->Src t 1 cv L) (hLr:∀i,i<L.length->∃x:Nat,x<=255/\L[i]?=some [.int .u8 (.ofNat x)])
  {D:Nat->SD} (hD:acA P K F EL EL.length D) (hDn:D EL.length=aD n (λ_=>false) 0 0 0 0 [] false) (hpos:0<EL.length) (hE1:EL.length<=19) (hs:aH bl EL (aD n (λ_=>false) 0 0 0 0 [] false) t s)
  (hl:∀i y,lk [(1,.int .u8<|.ofNat x),(2,cv),(7,iv<|.ofNat n),(8,.ptr<|some ⟨bf,0,0⟩),(9,.ptr<|some ⟨b9,0,0⟩),(10,lv)] i=some y->lk l i=some y) :
  WP P K none 248 (adg F T) l [] s Kj (λ_=>Kj) (adY t):=by
 refine Wg hl (λ_ _ h=>h) ?_
 unfold adg
 have hE:=N.aD hP hn (by decide:([]:List TG).length<=1) (tp:=λ_=>false) (m:=0) (ck:=0) (co:=0) (ca:=0) (py:=false)
 have hf:=hm.hf
 have llv:lenOf lv=some n:=by rw[hlv.lenOf];simp[nR]
 have XK:eqBy 20 .pi (iv<|.ofNat n) (iv<|.ofNat n)=some true:=by rw[dh,decide_eq_true rfl]
 have h51:binV .rem (.int .u8<|.ofNat x) (.int .u8<|.ofNat 3)=some (.int .u8<|.ofNat<|x%3):=yi<|by omega
 have h52:mkI .i64 (.ofNat<|x%3)=some (iv<|.ofNat<|x%3):=tD<|by omega
 have hw:x%3<3:=Nat.mod_lt _<|by omega
 generalize x%3=w at h51 h52 hw
 refine Vr (k:=Ww<|W1 (abu N.hB N.mv hMk hs hf) ?_)
 rintro _ s2 ⟨rfl,dt⟩
 refine Vr (k:=Ww<|W1 (iU N.hB dt hE.hd hf) ?_)
 rintro v3 s3 ⟨m3,gw,pv3,ov3,lv3,hv3,gv3,ev3,fv3,sv3,wv3,kv3,rfl,hD3⟩
 refine Vr (k:=λNQ=>Wv rfl<|Ww<|WS.st<|Wn<|Wq<|Wv rfl<|Wj rfl rfl h51<|Wr (.convI rfl h52)<|Wv rfl<|Wn ?_)
 generalize hT:((NQ,HO.r false [(aD n (λ_=>false) 0 0 0 0 [] false).cells pv3 ov3 lv3 hv3 gv3 ev3 fv3 sv3 wv3 kv3] 25)::(m3++t):SH)=t'
 have hin:∀p,p∈t->p∈t':=λp hp=>by subst hT;simp[hp]
 have UY:∀{b o},Has b o t->Has b o t':=λh=>h.mono hin
 have h12:Has NQ (.r false [(aD n (λ_=>false) 0 0 0 0 [] false).cells pv3 ov3 lv3 hv3 gv3 ev3 fv3 sv3 wv3 kv3] 25) t':=by subst hT;exact .here
 have aeU:=hD3.mono (s':=t') λp hp=>by subst hT;simp[hp]
 have hm':=hm.mono hin
 have pM:aH bl EL (aD n (λ_=>false) 0 0 0 0 [] false) t' ((NQ,HO.r false [(aD n (λ_=>false) 0 0 0 0 [] false).cells pv3 ov3 lv3 hv3 gv3 ev3 fv3 sv3 wv3 kv3] 25)::s3):=by subst hT;exact gw.cons
 refine aeO (cv:=cv) (v11:=iv<|.ofNat EL.length) (v12:=.ptr<|some ⟨NQ,0,0⟩) (lv:=lv) N hP hm' hn hw (UY h9) (by omega) pM (aa rfl<|aa rfl<|aa rfl<|aa rfl<|aa rfl<|aa rfl<|aa rfl<|aa rfl<|aB) ?_
 intro l5 s5 row d0 tp0 hu tn hl5
 have hE2:(EL++[row]).length<=20:=by rw[List.length_append,List.length_singleton];omega
 refine Wg hl5 (λ_ _ h=>h) ?_
 refine Wq<|Wv rfl<|Wn ?_
 try unfold afu
 refine Ws<|Wq<|Wv rfl<|Wn<|WP.post (aen (cv:=cv) (v9:=.ptr<|some ⟨b9,0,0⟩) (v11:=iv<|.ofNat EL.length) (v12:=.ptr<|some ⟨NQ,0,0⟩) (lv:=lv) N hMk hP hm' hn hw (hlv.mono hin) XV (λh=>(sg h).mono hin) hLr hE2 hu tn<|aa rfl<|aa rfl<|aa rfl<|aa rfl<|aa rfl<|aa rfl<|aa rfl<|aa rfl<|aa rfl<|aa rfl<|aB) ?_ (λ_ _ _ _ h=>h)<|λ_ _ _ h=>h
 rintro l6 _ s6 ⟨rfl,dM,tp1,d1,Gg,v16,hei,ail,KL,hl6⟩
 refine Wg hl6 (λ_ _ h=>h) ?_
 refine Ws<|WP.post (aes (cv:=cv) (v11:=iv<|.ofNat EL.length) (v12:=.ptr<|some ⟨NQ,0,0⟩) (v16:=v16) (lv:=lv) N hP hm' hn (UY h9) hei KL<|λ_ _ h=>h) ?_ (λ_ _ _ _ h=>h)<|λ_ _ _ h=>h
 rintro l7 _ s7 ⟨rfl,hs7,hl7⟩
 have KF:Gon 81 EL Gg:=by
  obtain⟨M,rfl,hM⟩:=ail
  exact⟨row::M,by simp,by simpa using hM⟩
 have hlen:EL.length<Gg.length/\Gg.length<=5000:=by
  obtain⟨M,rfl,hM⟩:=ail
  simp only[List.length_append,List.length_singleton]
  omega
 refine WP.post (aeP N hP hm' hn h12 aeU hs7 (hD.gon KF<|Nat.le_refl _) hDn hpos hlen.1 hlen.2 hl7) (λ_ _ _ h=>h) (λ_ _ _ _ h=>h) λl8 ds8 s8 h8=>⟨h8.1,h8.2.1,λb o hb=>h8.2.2 b o<|UY hb⟩
def gS:Nat->SD
 | 0=>d00
 | 1=>d00.add (pY 0 1 1 0) 0
 | 2=>(d00.add (pY 0 1 1 0) 0).add (pY 0 2 1 0) 0
 | n+3=>aD n (λ_=>false) 0 0 0 0 [] false
def gE:Nat->List AV
 | 0=>cr 1 0 1 1 0 Pu
 | 1=>cr 1 0 2 1 0 Pu
 | 2=>cr 1 0 3 2 0 Pu
 | _+3=>cr 1 0 0 2 0 Pu
def gL (n:Nat):List (List AV):=(List.range n).map gE
theorem aeS (n:Nat):gL (n+1)=gL n++[gE n]:=by simp[gL,List.range_succ]
theorem abn (n:Nat):(gL n).length=n:=by simp[gL]
theorem age {n i:Nat}(h:i<n):(gL n)[i]?=some (gE i):=by simp[gL,h]
theorem sm1:(gS 1).Small where
 n1:=by decide
 n2:=by
  intro LL h
  rcases h with rfl|rfl|rfl|rfl<;>exact⟨(by decide:2<=1000),λbX hl=>by rcases List.mem_cons.1 hl with rfl|hl<;>first|decide|(rcases List.mem_cons.1 hl with rfl|hl<;>first|decide|cases hl)⟩
 n3:=⟨Nat.zero_le _,(λx hx=>nomatch hx),(λx hx=>nomatch hx)⟩
theorem sm2:(gS 2).Small where
 n1:=by decide
 n2:=by
  intro LL h
  rcases h with rfl|rfl|rfl|rfl<;>exact⟨(by decide:2<=1000),λbX hl=>by rcases List.mem_cons.1 hl with rfl|hl<;>first|decide|(rcases List.mem_cons.1 hl with rfl|hl<;>first|decide|cases hl)⟩
 n3:=⟨Nat.zero_le _,(λx hx=>nomatch hx),(λx hx=>nomatch hx)⟩
theorem abo {i:Nat}(h:i<=9):(gS i).Small:=by
 match i,h with
 | 0,_=>exact aaP
 | 1,_=>exact sm1
 | 2,_=>exact sm2
 | i+3,h=>exact kM (by omega)<|by decide
theorem abe (i:Nat):(gS i).kQ:=by
 match i with
 | 0=>exact⟨rfl,rfl,rfl,rfl⟩
 | 1=>exact⟨rfl,rfl,rfl,rfl⟩
 | 2=>exact⟨rfl,rfl,rfl,rfl⟩
 | i+3=>exact YR
theorem afC (i:Nat):(gS i).nx=.ofNat (i+1):=by
 match i with
 | 0=>rfl
 | 1=>rfl
 | 2=>rfl
 | i+3=>rfl
theorem aib (i:Nat):(gS i).ob.length=i:=by
 match i with
 | 0=>rfl
 | 1=>rfl
 | 2=>rfl
 | i+3=>simp[gS,aD]
theorem afB (N:AEnv P K F T tF){i:Nat}(h:i<9):∃c z:Int,gE i=cr 1 0 c z 0 Pu/\Ap P K F 1 0 c z 0 Pu (gS i) (gS (i+1)):=by
 have key:∀(c z:Int)(d d':SD),d.Small->d.kQ->d.pl.length=2->(0<=d.nx/\d.nx<=1000000)->(0<=d.sp/\d.sp<=1000000)->0<=c/\c<=3->1<=z/\z<=2->d.add (pY 0 c z 0) 0=d'->Ap P K F 1 0 c z 0 Pu d d':=by
  rintro c z d d' h1 h2 h3 h4 h5 h6 h7 rfl
  exact ad5 N.hB h1 h2 (by rw[h3];decide) h4 h5 λs=>N.says.new c z s h6 h7
 match i,h with
 | 0,_=>exact⟨1,1,rfl,key _ _ _ _ aaP (abe 0) rfl (by decide) (by decide) (by decide) (by decide) rfl⟩
 | 1,_=>exact⟨2,1,rfl,key _ _ _ _ sm1 (abe 1) rfl (by decide) (by decide) (by decide) (by decide) rfl⟩
 | 2,_=>exact⟨3,2,rfl,key _ _ _ _ sm2 (abe 2) rfl (by decide) (by decide) (by decide) (by decide) rfl⟩
 | i+3,h=>exact⟨0,2,rfl,key _ _ _ _ (abo<|by omega) (abe<|i+3) rfl ⟨Int.natCast_nonneg _,Int.ofNat_le.2 (by omega:i+4<=1000000)⟩ ⟨Int.natCast_nonneg _,Int.ofNat_le.2 (by omega:i+2<=1000000)⟩ (by decide) (by decide) af2⟩
theorem aia (N:AEnv P K F T tF){k:Nat}(h:k<=9):acA P K F (gL k) (gL k).length gS:=by
 rw[abn]
 refine⟨rfl,λi hi=>?_⟩
 obtain⟨c,z,h1,h2⟩:=afB N (i:=i)<|by omega
 exact⟨1,0,c,z,0,Pu,by rw[age hi,h1],⟨[],.nil,λp hp=>nomatch hp⟩,h2⟩
theorem gDo (N:AEnv P K F T tF){i:Nat}(h:i<9)(hf:Has bf (.r false [bu bl aZ 60 c1 c2 c3 c4 ap] 8) t)(hs:aH bl (gL i) (gS i) t s):bB P K (F 15) [.ptr (some ⟨bf,0,0⟩),.agg (gE i)] s (λv s'=>v=iv (.ofNat (i+1))/\aH bl (gL (i+1)) (gS (i+1)) t s'):=by
 obtain⟨c,z,h1,h2⟩:=afB N h
 rw[aeS,h1]
 refine(acO N.hB hs (abo<|by omega) hf (by rw[abn];omega) (by rw[aib,du];exact decide_eq_true<|Int.ofNat_lt.2 (by omega:i<60)) h2 (abo<|by omega) (by rw[afC];exact⟨Int.ofNat_le.2 (by omega:1<=i+1+1),Int.ofNat_le.2 (by omega:i+1+1<=1000000)⟩)).post ?_
 rintro v s' ⟨rfl,h3⟩
 refine⟨?_,h3⟩
 rw[afC]
 congr 1
 simp only[Int.ofNat_eq_natCast]
 omega
theorem aeR (N:AEnv P K F T tF){i:Nat}(h:i<9)(hf:Has bf (.r false [bu bl aZ 60 c1 c2 c3 c4 ap] 8) t)(hs:aH bl (gL i) (gS i) t s):bB P K (F 15) [.ptr (some ⟨bf,0,0⟩),.agg (gE i)] s (λv s'=>∃u,v=iv (.ofNat (i+1))/\s'=u++t/\∀t',aH bl (gL (i+1)) (gS (i+1)) t' (u++t')):=
 bB.aaE (gDo N h hf hs)
theorem aed (N:AEnv P K F T tF)(hn:n<=6){b3 b5:Nat}(hf:Has bf (.r false [bu bl aZ 60 c1 c2 c3 c4 ap] 8) t)(hs:aH bl [] d00 ((b5,.r false [[iv 0,iv 0,iv 0]] 3)::(b3,.r false [[iv 0,iv 0,iv 0]] 3)::t) s)
  (hl:∀i y,lk [(0,iv<|.ofNat n),(3,.ptr<|some ⟨b3,0,0⟩),(5,.ptr<|some ⟨b5,0,0⟩),(6,.ptr<|some ⟨bf,0,0⟩)] i=some y->lk l i=some y) :
  WP P K none 56 (ab6 F T) l [] s Kj (λ_=>Kj) (λl2 ds2 s2=>ds2=[]/\∃lv og,aH bl (gL<|n+3) (gS<|n+3) (og++((b3,.r false [[iv 1,iv 2,iv 3]] 3)::t)) s2/\Src og 1 lv (nR<|(List.range n).map gW)/\lk l2 2=some (.ptr<|some ⟨bf,0,0⟩)/\lk l2 3=some (.ptr<|some ⟨b3,0,0⟩)/\lk l2 4=some lv):=by
 refine Wg hl (λ_ _ h=>h) ?_
 unfold ab6
 obtain⟨u0,hu0,hb0⟩:=hs.split
 refine WP.pre hu0<|Ws<|Wq<|Wv rfl<|Wn<|Wb ?_
 try unfold akY
 refine WP.dA<|Vr (k:=?_)
 refine Wa (.bslice rfl rfl) λb35=>Wv rfl<|Wr (.iaddrS rfl rfl (by omega)<|by decide)<|Wr .ld<|Wr (.build rfl rfl) ?_
 refine Ww<|W1 (aeR N (i:=0) (by decide) zP (hb0 _).cons) ?_
 rintro _ _ ⟨u1,rfl,rfl,vn⟩
 refine Wr (.iaddrA rfl rfl<|by decide)<|Vr (k:=WP.dA<|Vr (k:=?_))
 refine Wa (.bslice rfl rfl) λb35=>Wv rfl<|Wr (.iaddrS rfl rfl (by omega)<|by decide)<|Wr .ld<|Wr (.build rfl rfl) ?_
 refine Ww<|W1 (aeR N (by decide) zP (vn _).cons) ?_
 rintro _ _ ⟨u2,rfl,rfl,zB⟩
 refine Wr (.iaddrA rfl rfl<|by decide)<|Vr (k:=WP.dA<|Vr (k:=?_))
 refine Wa (.bslice rfl rfl) λb35=>Wv rfl<|Wr (.iaddrS rfl rfl (by omega)<|by decide)<|Wr .ld<|Wr (.build rfl rfl) ?_
 refine Ww<|W1 (aeR N (by decide) zP (zB _).cons) ?_
 rintro _ _ ⟨u3,rfl,rfl,hb3⟩
 refine Wr (.iaddrA rfl rfl<|by decide)<|Vr (k:=WP.dA<|Vk (k:=Wx<|Wq<|Wv rfl<|Wn<|Ws<|Wq<|Wv rfl<|Wn ?_))
 refine Wg (l':=[(0,iv<|.ofNat n),(3,.ptr<|some ⟨b3,0,0⟩),(5,.ptr<|some ⟨b5,0,0⟩),(6,.ptr<|some ⟨bf,0,0⟩),(9,nilS),(10,iv<|.ofNat 0)]) (aa rfl<|aa rfl<|aa rfl<|aa rfl<|aa rfl<|aa rfl<|aB) (λ_ _ h=>h) ?_
 refine WP.pre (s':=u3++([]++([_,_,_]++((b5,.r false [[iv 1,iv 2,iv 3]] 3)::(b3,.r false [[iv 0,iv 0,iv 0]] 3)::t)))) (.refl _) ?_
 generalize ([_,_,_]:SH)=jj
 refine Wb ?_
 try unfold akX
 refine Wp (λk l ds s'=>ds=[]/\∃q lv og jj u,k=n-q/\q<=n/\s'.Perm (u++(og++(jj++((b5,.r false [[iv 1,iv 2,iv 3]] 3)::(b3,.r false [[iv 0,iv 0,iv 0]] 3)::t))))/\(∀t',aH bl (gL<|q+3) (gS<|q+3) t'<|u++t')/\GrE 1 lv (nR<|(List.range q).map gW) og/\∀i x,lk [(0,iv<|.ofNat n),(3,.ptr<|some ⟨b3,0,0⟩),(5,.ptr<|some ⟨b5,0,0⟩),(6,.ptr<|some ⟨bf,0,0⟩),(9,lv),(10,iv<|.ofNat q)] i=some x->lk l i=some x) ?_ (n:=n-0)
  ⟨rfl,0,nilS,[],jj,u3,rfl,Nat.zero_le _,.refl _,hb3,.nil,aa rfl<|aa rfl<|aa rfl<|aa rfl<|aa rfl<|aa rfl<|aB⟩
 rintro k l ds s' ⟨rfl,q,lv,og,jj,u,rfl,hq,CO,hbu,hG,hl⟩
 refine Wg hl (λ_ _ h=>h)<|WP.pre CO ?_
 by_cases hlt:q<n
 ·have XK:binV .lss (iv<|.ofNat q) (iv<|.ofNat n)=some (.bool true):=by rw[eT,decide_eq_true<|show Int.ofNat q<Int.ofNat n from Int.ofNat_lt.2 hlt]
  have X1:binV .add (iv<|.ofNat q) (iv<|.ofNat 1)=some (iv<|.ofNat<|q+1):=bM<|by omega
  refine Vr (k:=?_)
  refine Ww<|W1 (aeR N (by omega) zP<|hbu _) ?_
  rintro _ _ ⟨u4,rfl,rfl,hb4⟩
  refine Wa (.bslice (fZ rfl rfl) rfl) λb51=>Ww<|WS.pre (s':=((b51,.r false [[iv (.ofNat<|q+3+1)]] 1)::u4)++(og++(jj++((b5,.r false [[iv 1,iv 2,iv 3]] 3)::(b3,.r false [[iv 0,iv 0,iv 0]] 3)::t)))) (.refl _)<|WS.aau (xv:=.slice (some ⟨b51,0,0⟩) 1 1 false 1) rfl hG rfl (Src.all (L:=[[iv (.ofNat<|q+3+1)]]) .here) (by decide) (by simp[nR];omega) (by decide) λnw A9 j2 xB=>Wv rfl<|Wn<|Wo<|Wv rfl<|Wj rfl rfl X1<|Wv rfl<|Wn ?_
  have hG3:GrE 1 nw (nR<|(List.range<|q+1).map gW) A9:=by
   have e:nR ((List.range<|q+1).map gW)=nR ((List.range q).map gW)++[[iv (.ofNat<|q+3+1)]]:=by simp[nR,List.range_succ,gW];omega
   rw[e]
   exact xB
  exact⟨n-(q+1),by omega,rfl,q+1,nw,A9,(b51,.r false [[iv (.ofNat<|q+3+1)]] 1)::(j2++jj),u4,rfl,hlt,qc,(λt'=>by rw[show q+1+3=q+3+1 by omega];exact hb4 t'),hG3,aa rfl<|aa rfl<|aa rfl<|aa rfl<|aa rfl<|aa rfl<|aB⟩
 ·obtain rfl:q=n:=by omega
  have XK:binV .lss (iv<|.ofNat q) (iv<|.ofNat q)=some (.bool false):=by rw[eT,decide_eq_false<|Int.lt_irrefl _]
  refine Vr (k:=Dc .nil<|Wt (s':=_++(_++(_++(_::(b3,.r false [[iv 1,iv 2,iv 3]] 3)::_)))) rfl rfl rfl uP rfl rfl<|Vr (k:=We ?_))
  refine⟨rfl,lv,og++(jj++[(b5,.r false [[iv 1,iv 2,iv 3]] 3)]),?_,hG.out.src.mono λp hp=>by simp[hp],rfl,rfl,rfl⟩
  exact(hbu _).tT (qc)
def aBo:AD:=⟨1,0,0,0,0,0,0,false,.slice (some ⟨4,0,0⟩) 1 1 false 1,.slice (some ⟨3,0,0⟩) 2 2 false 3,0,0,0⟩
def aWa:AD:=⟨2,0,0,0,0,0,2,true,.slice (some ⟨6,0,0⟩) 1 1 false 1,.slice (some ⟨3,0,0⟩) 2 2 false 3,0,0,0⟩
def cHi:CD:=⟨⟨#[104,105,108,108]⟩,1,0,0,0,0,0,0,0,0,nilS,[]⟩
def cBo:CD:=⟨⟨#[98,111,108,116]⟩,3,1,0,0,0,0,0,0,0,.slice (some ⟨5,0,0⟩) 1 1 false 13,[aBo]⟩
def cBe:CD:=⟨⟨#[98,101,97,114]⟩,2,0,0,0,1,0,2,2,0,nilS,[]⟩
def cWa:CD:=⟨⟨#[119,97,110,100]⟩,4,0,0,0,0,0,0,0,0,.slice (some ⟨7,0,0⟩) 1 1 false 13,[aWa]⟩
def C23:List CD:=[cHi,cBo,cBe,cWa]
theorem abc {Q:CD->Prop}(h0:Q cHi)(h1:Q cBo)(h2:Q cBe)(h3:Q cWa):∀c∈C23,Q c:=by
 intro c hc
 simp only[C23,List.mem_cons,List.not_mem_nil,or_false]at hc
 rcases hc with rfl|rfl|rfl|rfl
 ·exact h0
 ·exact h1
 ·exact h2
 ·exact h3
def aiO (a:AD):List Nat:=if a.kind=2 then [1]else [3]
theorem ad8:gK C23 aiO:=⟨cHi,cBo,cBe,cWa,aBo,aWa,rfl,⟨rfl,rfl,rfl⟩,⟨rfl,rfl,rfl⟩,⟨rfl,rfl,rfl⟩,⟨rfl,rfl⟩,⟨by decide,rfl⟩,⟨by decide,rfl⟩,abc rfl rfl rfl rfl⟩
@[reducible] def afN:List AV:=d00.cells (pn 229 2 8) nilS (pn 233 2 1) (pn 237 2 1) (pn 241 2 1) (pn 245 2 1) nilS nilS nilS nilS++([nilS]++(d00.cells (pn 249 2 8) nilS (pn 253 2 1) (pn 257 2 1) (pn 261 2 1) (pn 265 2 1) nilS nilS nilS nilS++[]))
@[reducible] def n2:List (List AV):=[[nilS],[nilS]]
@[reducible] def aee:List AV:=bu 225 (pn 267 4 11) 60 8 60 20 20 nilS
@[reducible] def z3:List (List AV):=[[iv 0,iv 0,iv 0]]
def stA:List (Nat × Nat × List (List AV)):=[(229,8,Am d00.pl),(233,1,n2),(237,1,n2),(241,1,n2),(245,1,n2),(249,8,Am d00.pl),(253,1,n2),(257,1,n2),(261,1,n2),(265,1,n2)]
def tA:List (Nat × Nat × List (List AV)):=[(223,8,[aee]),(267,11,C23.map CD.row),(5,13,[aBo.row]),(7,13,[aWa.row]),(4,1,nR [3]),(6,1,nR [1])]
def ac4:List (Nat × Nat × List (List AV)):=(225,51,[afN])::(stA++((2,3,z3)::(1,3,z3)::tA))
theorem aa0 {s:SH}{b:Nat}(h:Has b (.r false n2 1) s):SL s (pn b 2 1) (lA [[],[]]):=⟨_,Src.all (L:=n2) h,.cons .nil (.cons .nil .nil)⟩
theorem afg:mD (Dw stA) (pn 229 2 8) nilS (pn 233 2 1) (pn 237 2 1) (pn 241 2 1) (pn 245 2 1) nilS nilS nilS nilS d00 where
 pl:=Src.all (L:=Am d00.pl) .here
 ob:=.nil
 lb:=aa0 zP
 hd:=aa0 zP
 gr:=aa0 zP
 ex:=aa0 zP
 fi:=.nil
 st:=⟨_,.nil,.nil⟩
 wa:=⟨_,.nil,.nil⟩
 ct:=⟨[],.nil,λp hp=>nomatch hp⟩
theorem afh:mD (Dw stA) (pn 249 2 8) nilS (pn 253 2 1) (pn 257 2 1) (pn 261 2 1) (pn 265 2 1) nilS nilS nilS nilS d00 where
 pl:=Src.all (L:=Am d00.pl) zP
 ob:=.nil
 lb:=aa0 zP
 hd:=aa0 zP
 gr:=aa0 zP
 ex:=aa0 zP
 fi:=.nil
 st:=⟨_,.nil,.nil⟩
 wa:=⟨_,.nil,.nil⟩
 ct:=⟨[],.nil,λp hp=>nomatch hp⟩
theorem aem (t:SH):aH 225 [] d00 t ((225,.r false [afN] 51)::(Dw stA++t)):=
 ⟨_,nilS,pn 249 2 8,nilS,pn 253 2 1,pn 257 2 1,pn 261 2 1,pn 265 2 1,nilS,nilS,nilS,nilS,[],Dw stA,.refl _,⟨_,_,_,_,_,_,_,_,_,_,rfl,afg⟩,.nil,afh⟩
theorem aj4 (z:SH):kj 223 225 (pn 267 4 11) nilS 60 8 60 20 20 C23 aiO (Dw tA++z) where
 hf:=.here
 eQ:={
  src:=Src.all (L:=C23.map CD.row) zP
  ab:=abc .nil (Src.all (L:=[aBo.row]) zP) .nil<|Src.all (L:=[aWa.row]) zP
  n:=Nat.le_of_ble_eq_true rfl
  nb:=abc (by decide) (by decide) (by decide) (by decide) }
 htg:=by
  have ng:dz (.slice (some ⟨3,0,0⟩) 2 2 false 3) (.slice (some ⟨3,0,0⟩) 2 2 false 3)=true:=by simp[dz,sameN,same0]
  refine abc (λa ha=>nomatch ha) (λa ha=>?_) (λa ha=>nomatch ha)<|λa ha=>?_
  ·rw[List.mem_singleton.1 ha]
   refine⟨Src.all (L:=nR [3]) zP,λj hj=>?_,by decide,ng⟩
   rw[List.mem_singleton.1 (show j∈[3]from hj)]
   decide
  ·rw[List.mem_singleton.1 ha]
   refine⟨Src.all (L:=nR [1]) zP,λj hj=>?_,by decide,ng⟩
   rw[List.mem_singleton.1 (show j∈[1]from hj)]
   decide
noncomputable def fhQ:FH:=⟨fV (fV (fV l9)),1,Kz⟩
theorem N6 [Sg]:cj fhQ ⟨.lf,1⟩:=by
 refine⟨rfl,by show 1<=262144;omega,λb hb=>?_⟩
 have:hget b fhQ=l9:=by
  rw[ia]
  show cX b (cX (b/64)<|cX (b/4096)<|fV<|fV<|fV l9)=l9
  rw[dU,dU,dU]
 rw[this]
 exact gy.gone _ rfl rfl
theorem HR.one (w:World):HR ⟨λk _=>k<w.heap.size,λ_=>False⟩ w (λ_=>none) ⟨.lf,1⟩ w:=
 ⟨λb o h=>by simp[Heap.get,Tr.get]at h,λb b' o o' d d' h=>by grind,λ_ _=>rfl,λb o d h=>by grind,λk _ hk=>⟨hk,rfl⟩,Nat.le_refl _,⟨rfl,rfl⟩,λb h=>h.elim,λk t h=>h,λb o d h=>by simp[Heap.get,Tr.get]at h⟩
structure Opq (a:AV):Prop where
 one:a.one=true
 nb:∀b,a≠.bool b
 same:∀n,sameN (n+1) a a=true
noncomputable def Ah:V:={ vU with t:=13,a:=1 }
theorem fr_nil {h:FH}{ds:List cD}(q:xe h.fr ds none)(k:(match h.fr.ds with | []=>true | _=>false)=true):ds=[]:=by
 obtain⟨f1,_,_⟩:=q
 grind
theorem works_kc {P:Program}(hm:P.follows .mixedOrders=true){n:Nat}{f:FuncId}(h:fastTrue P noneKnown n f=true):KCon P f [] hp0 (.bool true) hp0:=by
 letI:Sg:=sg0
 obtain⟨O,hO,hF⟩:=lB P
 obtain⟨m,b,v,h',H',h1,h2,_,_,h5⟩:=(kX P (hF _) n).call .nil Cd h
 have:=h2.U8<|ag h5
 subst this
 exact(KCon.KV hm hO h1).eC ⟨rfl,Nat.zero_le _,λb o hb=>by rw[np]at hb;cases hb⟩ (Nat.le_refl _) trivial
theorem Opq.U6 {k:IntKind}{n:Int}:Opq (.int k n):=⟨rfl,λb h=>(by cases h),λm=>by
 have:ieq n n=true:=gd.2 rfl
 cases k<;>simp[sameN,same0,keq,this]⟩
theorem tN [Sg]{lv:AV}(h:Sg.val 1=lv)(ho:Opq lv):VA Ah lv:=by
 subst h
 exact VA.DM rfl ho.one ho.nb ho.same
noncomputable def aiz (v:V)(i:Nat):Bool:=Nat.beq v.t 13&&Nat.beq v.a i
end
section
variable [Sg]{P:Program}{K:Orc}{F:Nat->FuncId}{T:Nat->TypeId}
theorem ae1 {v w:V}{i:Nat}{a b:AV}(h:aiz v i=true)(hv:VA v a)(hw:VA w b)(h1:w.t=13)(h2:w.a=i):a=b:=by
 obtain⟨k1,k2⟩:=Bool.and_eq_true_iff.1 h
 have e1:=(hv.mP<|Nat.eq_of_beq_eq_true k1).1
 rw[Nat.eq_of_beq_eq_true k2]at e1
 have e2:=(hw.mP h1).1
 rw[h2]at e2
 rw[e1,e2]
end
section
variable {P:Program}{K:Orc}{nt:Nat}
def WOa (P:Program)(K:Orc)(ol:List bS)(e:Tr AV)(ds:List cD)(H H0:Heap)(Q:Po):Prop:=
 ∀(nt:Nat)(ops:Array Oper)(l0:List Oper),aI (co P nt ops.toList) l0=some ol->∃e' ds' H' l' s',fj P K nt ops l0 e ds H (.mk .normal e' ds' H')/\En l' e'/\Hp H0 s' H'/\Q l' ds' s'
theorem WOa.cons {d:Option Nat}{op:AOp}{rest:List bS}{v:AV}{e:Tr AV}{ds ds1:List cD}{H H1 H0:Heap}{Q:Po}(k1:qu P K e op ds H (.mk v ds1 H1))(k3:WOa P K rest (putO e d v) ds1 H1 H0 Q):WOa P K (⟨d,op,none⟩::rest) e ds H H0 Q:=by
 intro nt ops l0 hl
 cases l0 with
 | nil=>cases hl
 | cons a l0=>
  obtain⟨b,bs,h1,h2,h3⟩:=(aV _ a l0 _).1 hl
  cases h3
  have hc:cOper P nt a=⟨d,op,none⟩:=by
   unfold co at h1
   generalize cOper P nt a=z at h1 |-
   obtain⟨d',op',g'⟩:=z
   cases g' with
   | none=>cases h1;rfl
   | some jw=>
    unfold cg at h1
    grind
  obtain⟨e',ds',H',l',s',j1,j2,j3,j4⟩:=k3 nt ops l0 h2
  exact⟨_,_,_,_,_,fj.cons hc rfl k1 j1,j2,j3,j4⟩
theorem WOa.of {ol:List bS}{l:Sl}{s:SH}{e:Tr AV}{ds:List cD}{H H0:Heap}{Q:Po}(h:WO P K ol l ds s Q)(he:En l e)(hH:Hp H0 s H):WOa P K ol e ds H H0 Q:=λnt ops l0 hl=>h nt ops l0 hl H0 e H he hH
theorem WOa.seq {ol:List bS}{b:AC}{e:Tr AV}{ds:List cD}{H H0:Heap}{Qn Qr:Po}{Qe:Nat->Po}(h:WOa P K ol e ds H H0 (λl ds s=>WP P K none nt b l ds s Qn Qe Qr)){c0:Code}(hc:cc P nt c0=.seq (.ops ol) b) :
  ∃x e' ds' H' l' s',bt P K none nt c0 e ds H (.mk x e' ds' H')/\En l' e'/\Hp H0 s' H'/\(match x with | .normal=>Qn l' ds' s' | .exit i=>Qe i l' ds' s' | .ret=>Qr l' ds' s'):=by
 cases c0 with
 | seq a0 b0=>
  simp only[cc,AC.seq.injEq]at hc
  obtain⟨ha,hb⟩:=hc
  cases a0 with
  | region i ops d=>
   cases d with
   | true=>
    exfalso
    have hc:cdr P nt ops=.ops ol:=ha
    unfold cdr at hc
    grind
   | false=>
    have hc:(match aI (co P nt ops.toList) ops.toList with | some l=>AC.ops l | none=>.bad)=.ops ol:=ha
    split at hc
    ·rename_i l' hl'
     cases hc
     obtain⟨e1,ds1,H1,l1,s1,h1,h2,h3,h4⟩:=h nt ops ops.toList hl'
     obtain⟨x,e2,ds2,H2,l2,s2,k1,k2,k3,k4⟩:=h4 b0 hb H0 e1 H1 h2 h3
     exact⟨x,e2,ds2,H2,l2,s2,bt.seq (bt.region h1) k1,k2,k3,k4⟩
    ·cases hc
  | _=>simp[cc]at ha
 | region i ops d=>exact(db hc).elim
 | _=>simp[cc]at hc
theorem WOa.r {d:Option Nat}{op:AOp}{rest:List bS}{v:AV}{l:Sl}{e:Tr AV}{ds:List cD}{H H0:Heap}{Q:Po}(h:WR P op l [] v)(he:En l e)(k:WOa P K rest (putO e d v) ds H H0 Q):WOa P K (⟨d,op,none⟩::rest) e ds H H0 Q:=by
 have hp:Hp ⟨.lf,0⟩ [] H:=⟨Nat.zero_le _,(λb o hb=>nomatch hb),List.Pairwise.nil,λb hb=>absurd hb<|Nat.not_lt_zero _⟩
 exact WOa.cons ⟨0,(h.q P _ (bL e) ds H).trans (by rw[h.h _ e H he hp])⟩ k
def WOy (P:Program)(K:Orc)(ol:List bS)(l:Sl)(Q:Sl->Prop):Prop:=
 ∀(nt:Nat)(ops:Array Oper)(l0:List Oper)(e:Tr AV)(ds:List cD)(H:Heap),aI (co P nt ops.toList) l0=some ol->En l e->∃e' l',fj P K nt ops l0 e ds H (.mk .normal e' ds H)/\En l' e'/\Q l'
theorem WOy.nil {l:Sl}{Q:Sl->Prop}(h:Q l):WOy P K [] l Q:=by
 intro nt ops l0 e ds H hl he
 cases l0 with
 | nil=>exact⟨e,l,fj.nil,he,h⟩
 | cons a l0=>
  obtain⟨b,bs,h1,h2,h3⟩:=(aV _ a l0 _).1 hl
  cases h3
theorem WOy.r {d:Option Nat}{op:AOp}{rest:List bS}{v:AV}{l:Sl}{Q:Sl->Prop}(h:WR P op l [] v)(k:WOy P K rest (pl d v l) Q):WOy P K (⟨d,op,none⟩::rest) l Q:=by
 intro nt ops l0 e ds H hl he
 cases l0 with
 | nil=>cases hl
 | cons a l0=>
  obtain⟨b,bs,h1,h2,h3⟩:=(aV _ a l0 _).1 hl
  cases h3
  have hc:cOper P nt a=⟨d,op,none⟩:=by
   unfold co at h1
   generalize cOper P nt a=z at h1 |-
   obtain⟨d',op',g'⟩:=z
   dsimp only at h1
   cases g' with
   | none=>cases h1;rfl
   | some jw=>
    obtain⟨j,w⟩:=jw
    unfold cg at h1
    dsimp only at h1
    split at h1
    ·rename_i hq;split at hq
     ·split at hq
      ·cases hq;cases h1
      ·cases hq
     ·cases hq
    ·cases h1
  have hp:Hp ⟨.lf,0⟩ [] H:=⟨Nat.zero_le _,(λb o hb=>nomatch hb),List.Pairwise.nil,λb hb=>absurd hb<|Nat.not_lt_zero _⟩
  obtain⟨e',l',j1,j2,j3⟩:=k nt ops l0 (putO e d v) ds H h2<|he.putO d v
  exact⟨e',l',fj.cons hc rfl ⟨0,(h.q P _ (bL e) ds H).trans (by rw[h.h _ e H he hp])⟩ j1,j2,j3⟩
def CY (P:Program)(K:Orc)(c:AC)(l:Sl)(Q:Sl->Prop):Prop:=∀(nt:Nat)(c0:Code)(e:Tr AV)(ds:List cD)(H:Heap),cc P nt c0=c->En l e->∃e' l',bt P K none nt c0 e ds H (.mk .normal e' ds H)/\En l' e'/\Q l'
theorem CY.ops {ol:List bS}{l:Sl}{Q:Sl->Prop}(h:WOy P K ol l Q):CY P K (.ops ol) l Q:=by
 intro nt c0 e ds H ha he
 cases c0 with
 | region i ops d=>
  cases d with
  | true=>
   exfalso
   have hc:cdr P nt ops=.ops ol:=ha
   unfold cdr at hc
   split at hc
   ·split at hc<;>cases hc
   ·cases hc
  | false=>
   have hc:(match aI (co P nt ops.toList) ops.toList with | some l=>AC.ops l | none=>.bad)=.ops ol:=ha
   split at hc
   ·rename_i l' hl'
    cases hc
    obtain⟨e1,l2,k1,k2,k3⟩:=h nt ops ops.toList e ds H hl' he
    exact⟨e1,l2,bt.region k1,k2,k3⟩
   ·cases hc
 | _=>simp[cc]at ha
def afm (P:Program)(K:Orc)(nt:Nat)(c0:Code)(e:Tr AV)(ds:List cD)(H H0:Heap)(Qn:Po)(Qe:Nat->Po)(Qr:Po):Prop:=
 ∃x e' ds' H' l' s',bt P K none nt c0 e ds H (.mk x e' ds' H')/\En l' e'/\Hp H0 s' H'/\(match x with | .normal=>Qn l' ds' s' | .exit i=>Qe i l' ds' s' | .ret=>Qr l' ds' s')
theorem CY.then {a b:AC}{l:Sl}{Q1:Sl->Prop}{e:Tr AV}{ds:List cD}{H H0:Heap}{Qn Qr:Po}{Qe:Nat->Po}(h1:CY P K a l Q1)(he:En l e)(h2:∀l' e',Q1 l'->En l' e'->∀b0,cc P nt b0=b->afm P K nt b0 e' ds H H0 Qn Qe Qr){c0:Code}(hc:cc P nt c0=.seq a b):afm P K nt c0 e ds H H0 Qn Qe Qr:=by
 cases c0 with
 | seq a0 b0=>
  simp only[cc,AC.seq.injEq]at hc
  obtain⟨ha,hb⟩:=hc
  obtain⟨e1,l1,k1,k2,k3⟩:=h1 nt a0 e ds H ha he
  obtain⟨x,e2,ds2,H2,l2,s2,j1,j2,j3,j4⟩:=h2 l1 e1 k3 k2 b0 hb
  exact⟨x,e2,ds2,H2,l2,s2,bt.seq k1 j1,j2,j3,j4⟩
 | region i ops d=>exact(db hc).elim
 | _=>simp[cc]at hc
noncomputable def ruleH (w c a b:FuncId):iB:=λf args h=>match Nat.beq f w with
 | true=>(match args with | []=>some (some (vT,h)) | _::_=>some none)
 | false=>(match (Nat.beq f c||(Nat.beq f a||Nat.beq f b))with | true=>some none | false=>none)
theorem ruleH_ok [Sg]{w c a b:FuncId}{K:Orc}(hw:∀H,K w [] H=some (.bool true,H))(hK:∀f args H,f≠w->f≠c->f≠a->f≠b->K f args H=none):Bh (ruleH w c a b) K where
 res:=by
  intro f args xs0 h H v h' ha hH hf
  unfold ruleH at hf
  cases hb:Nat.beq f w with
  | true=>
   rw[hb]at hf
   have:=Nat.eq_of_beq_eq_true hb
   subst this
   cases ha with
   | nil=>cases hf;exact⟨_,_,hw H,VA.bool true,hH,rfl⟩
   | cons _ _=>cases hf
  | false=>
   rw[hb]at hf
   dsimp only at hf
   split at hf<;>cases hf
 non:=by
  intro f args xs0 h H ha hH hf
  unfold ruleH at hf
  cases hb:Nat.beq f w with
  | true=>
   rw[hb]at hf
   cases ha with
   | nil=>cases hf
   | cons _ _=>cases hf
  | false=>
   rw[hb]at hf
   dsimp only at hf
   split at hf
   ·cases hf
   ·rename_i hc
    exact hK f xs0 H (λe=>by rw[e]at hb;simp at hb) (λe=>by rw[e]at hc;simp at hc) (λe=>by rw[e]at hc;simp at hc) (λe=>by rw[e]at hc;simp at hc)
noncomputable def pre407 (P:Program)(ih:bT)(c:Code)(h0:FH)(z:Nat):Bool:=
 RE P 56 ih (spine 4 c).1 (λe h=>Du h ac4&&(wI e [(3,.ptr<|some ⟨1,0,0⟩),(5,.ptr<|some ⟨2,0,0⟩),(6,.ptr<|some ⟨223,0,0⟩)]&&(aiz (atR 0 e) 1&&(Nat.beq (hget 0 h).t z&&(Nat.beq (hget 0 h).lp.nt 0&&(match h.fr.ds with | []=>true | _=>false))))))
  (Ba [Ah] 0 cT) h0
theorem ajw:(Dw ac4).Pairwise λp q=>p.1≠q.1:=by
 simp[Dw,ac4,stA,tA]
theorem ah3:∀p∈Dw ac4,p.1≠0:=by
 intro p hp
 simp only[Dw,ac4,stA,tA,List.map_cons,List.map_nil,List.cons_append,List.nil_append,List.mem_cons,List.not_mem_nil,or_false]at hp
 rcases hp with rfl|rfl|rfl|rfl|rfl|rfl|rfl|rfl|rfl|rfl|rfl|rfl|rfl|rfl|rfl|rfl|rfl|rfl|rfl<;>exact Nat.succ_ne_zero _
end
section
variable [Sg]{P:Program}{K:Orc}{F:Nat->FuncId}{T:Nat->TypeId}{tF:TypeId}
theorem acJ (N:AEnv P K F T tF) (ht:Ty P (T 402) 3) {ih:bT} (hC:eL P K ih) {fn:Func} {c:Code} (hf:P.funcs[F 407]?=some fn) (hb:fn.body=some c) (hnt:fn.ntmps=56) (hres:fn.results.toList=[.tmp 2,.cell 3 (T 402),.tmp 4]) (hname:(fn.name == "runtime.NumGoroutine")=false)
  (aap:cc P 56 (spine 4 c).2=ab6 F T) (hK:∀args H,K (F 407) args H=none) {h0:FH} {H0:Heap} (hH:cj h0 H0) (hfr:xe h0.fr [] none) {z:Nat} (hpre:pre407 P ih c h0 z=true) {n:Nat} (hn:n<=6) (hv:VA Ah (iv<|.ofNat n)) {L:List (List AV)} (XX:0<L.length->z=5/\(HO.r true L 1).ok (some<|Sg.iK 0)) :
  ∃H' s' z0 ids m,CallsTo P K (F 407) [iv (.ofNat n)] H0 (.tuple [.ptr (some ⟨223,0,0⟩),.agg [iv 1,iv 2,iv 3],ids]) H'/\Hp ⟨.lf,0⟩ s' H'/\aH 225 (gL<|n+3) (gS<|n+3) (m++((1,.r false [[iv 1,iv 2,iv 3]] 3)::(Dw tA++z0))) s'/\Src m 1 ids (nR<|(List.range n).map gW)/\(0<L.length->Has 0 (.r true L 1) z0):=by
 obtain⟨e0,iL,XN⟩:=sU (nt:=56) (.cons hv .nil) (by omega)<|by simp
 obtain⟨E',H',ds',e',h',q1,q2,q3,q4,q5⟩:=ye (rd:=none) (ds:=[]) hC (spine 4 c).1 XN hH hfr hpre
 obtain⟨k1,q4⟩:=Bool.and_eq_true_iff.1 q4
 obtain⟨k2,q4⟩:=Bool.and_eq_true_iff.1 q4
 obtain⟨k3,q4⟩:=Bool.and_eq_true_iff.1 q4
 obtain⟨k5,q4⟩:=Bool.and_eq_true_iff.1 q4
 obtain⟨k6,k7⟩:=Bool.and_eq_true_iff.1 q4
 have hds:=fr_nil q3 k7
 subst hds
 have hmem:=Dv q2 k1
 have ng:=AH q1 k2 (λp hp=>by
  simp only[List.mem_cons,List.not_mem_nil,or_false]at hp
  rcases hp with rfl|rfl|rfl<;>exact Nat.le_of_ble_eq_true rfl)
 obtain⟨a0,e0',v0⟩:=q1.slot 0<|by omega
 have ea0:=ae1 k3 v0 hv rfl rfl
 subst ea0
 have main:∀z0:SH,(∀b o,(b,o)∈z0->b=0/\b<H'.next/\o.ok (H'.get b))->z0.Pairwise (λp q=>p.1≠q.1)->(0<L.length->Has 0 (.r true L 1) z0) ->
   ∃H3 s' z0 ids m,CallsTo P K (F 407) [iv (.ofNat n)] H0 (.tuple [.ptr (some ⟨223,0,0⟩),.agg [iv 1,iv 2,iv 3],ids]) H3/\Hp ⟨.lf,0⟩ s' H3/\aH 225 (gL<|n+3) (gS<|n+3) (m++((1,.r false [[iv 1,iv 2,iv 3]] 3)::(Dw tA++z0))) s'/\Src m 1 ids (nR<|(List.range n).map gW)/\(0<L.length->Has 0 (.r true L 1) z0):=by
  intro z0 hz0 hzp mO
  have hp:Hp ⟨.lf,0⟩ (Dw ac4++z0) H':=by
   refine⟨Nat.zero_le _,?_,?_,λb hb=>absurd hb<|Nat.not_lt_zero _⟩
   ·intro b o hb
    rcases List.mem_append.1 hb with hb|hb
    ·exact hmem b o hb
    ·exact(hz0 b o hb).2
   ·refine List.pairwise_append.2 ⟨ajw,hzp,?_⟩
    intro p hp q hq
    rw[(hz0 q.1 q.2 hq).1]
    exact ah3 p hp
  have hs:aH 225 [] d00 ((2,.r false z3 3)::(1,.r false z3 3)::(Dw tA++z0)) (Dw ac4++z0):=aem _
  have XO:En [(0,iv<|.ofNat n),(3,.ptr<|some ⟨1,0,0⟩),(5,.ptr<|some ⟨2,0,0⟩),(6,.ptr<|some ⟨223,0,0⟩)] E':=by
   intro i v hi
   simp only[lu]at hi
   split at hi
   ·rename_i h;cases hi;rw[<- h];exact e0'
   ·split at hi
    ·rename_i h;cases hi;rw[<- h];exact ng 3 _<|by simp
    ·split at hi
     ·rename_i h;cases hi;rw[<- h];exact ng 5 _<|by simp
     ·split at hi
      ·rename_i h;cases hi;rw[<- h];exact ng 6 _<|by simp
      ·cases hi
  obtain⟨xx,e'',Xu,H2,l',s',r1,r2,r3,r4⟩:=aed N hn (.here:Has 223 (.r false [aee] 8) (Dw tA++z0)) hs (λ_ _ h=>h) (spine 4 c).2 aap ⟨.lf,0⟩ E' H' XO hp
  have run:=q5 (spine 4 c).2 _ r1
  rw[ug]at run
  cases xx with
  | normal=>exact r4.elim
  | exit i=>exact r4.elim
  | ret=>
   obtain⟨rfl,lv,og,w1,w2,w3,w4,w5⟩:=r4
   refine⟨H2,s',z0,lv,og,CallsTo.enter (hK _ _) hf hb (by rw[hnt,hname];rfl) (by rw[hnt];exact iL) (by rw[hnt];exact run) (.inl rfl) ?_,r3,w1,w2,mO⟩
   have hR:Rs P l' s' [.tmp 2,.cell 3<|T 402,.tmp 4] [.ptr (some ⟨223,0,0⟩),.agg [iv 1,iv 2,iv 3],lv]:=.tmp w3<|.cell w4 ht.1 ht.2 (.inl rfl) (w1.mem zP) rfl rfl rfl<|.tmp w5 .nil
   rw[hres]
   show(match aI (resultOf P e'' H2) _ with | some [v]=>some v | some vs=>some (.tuple vs) | none=>none)=_
   rw[hR.ok r2 r3]
 rcases Nat.eq_zero_or_pos L.length with h|h
 ·exact main [] (λb o hb=>nomatch hb) .nil<|λk=>by omega
 ·obtain⟨rfl,hok⟩:=XX h
  have g0:=(q2.block 0<|by omega).DM (Nat.eq_of_beq_eq_true k5)
  rw[Nat.eq_of_beq_eq_true k6]at g0
  have hn0:0<H'.next:=Nat.lt_of_le_of_lt (Nat.zero_le _) (hmem 225 _<|List.mem_cons_self ..).1
  refine main [(0,.r true L 1)] ?_ (List.pairwise_singleton ..)<|λ_=>.here
  intro b o hb
  rw[List.mem_singleton]at hb
  cases hb
  exact⟨rfl,hn0,by rw[g0];exact hok⟩
theorem abL (N:AEnv P K F T (T 26)) (hMk:BaseMk P K F T) (ht:Ty P (T 402) 3) {ih:bT} (hC:eL P K ih) {fn:Func} {c:Code} (hf:P.funcs[F 407]?=some fn) (hb:fn.body=some c) (hnt:fn.ntmps=56) (hres:fn.results.toList=[.tmp 2,.cell 3 (T 402),.tmp 4]) (hname:(fn.name == "runtime.NumGoroutine")=false)
  (aap:cc P 56 (spine 4 c).2=ab6 F T) (hK:∀args H,K (F 407) args H=none) {f4:FuncId} {fn4:Func} {c4:Code} (hf4:P.funcs[f4]?=some fn4) (hb4:fn4.body=some c4) (agn:fn4.ntmps=248) (ait:fn4.results.toList=[.tmp 6]) (agm:(fn4.name == "runtime.NumGoroutine")=false)
  (agq:cc P 248 c4=.seq adh (.seq adi<|.seq (.ops<|ad0 F)<|adg F T)) (hK4:∀args H,K f4 args H=none) {h0:FH} {H0:Heap} (hH:cj h0 H0) (hfr:h0.fr=Kz) {z:Nat} (hpre:pre407 P ih c h0 z=true) {x0 x:Nat} (hx0:x0<=255) (hx:x<=255) (hv:VA Ah (iv<|.ofNat<|x0%7)) {cv:AV} {L:List (List AV)} (XV:lenOf cv=some L.length)
  (XW:∀i,i<L.length->∃y:Nat,y<=255/\L[i]?=some [.int .u8 (.ofNat y)]) (XX:0<L.length->z=5/\(∃cap sl,cv=.slice (some ⟨0,0,0⟩) L.length cap sl 1)/\(HO.r true L 1).ok (some<|Sg.iK 0)) :
  ∃H',CallsTo P K f4 [.int .u8 (.ofNat x0),.int .u8<|.ofNat x,cv] H0 (.bool true) H'/\(0<L.length->(HO.r true L 1).ok (H'.get 0)):=by
 obtain⟨e0,iL,h1⟩:=mG 248 [.int .u8 (.ofNat x0),.int .u8<|.ofNat x,cv]
 have UY:En [(0,.int .u8<|.ofNat x0),(1,.int .u8<|.ofNat x),(2,cv)] e0:=by
  intro i v hi
  simp only[lu]at hi
  split at hi
  ·rename_i h;cases hi;rw[<- h];exact h1 0 _ rfl
  ·split at hi
   ·rename_i h;cases hi;rw[<- h];exact h1 1 _ rfl
   ·split at hi
    ·rename_i h;cases hi;rw[<- h];exact h1 2 _ rfl
    ·cases hi
 have hn:x0%7<=6:=Nat.le_of_lt_succ<|Nat.mod_lt _<|by omega
 have h30:binV .rem (.int .u8<|.ofNat x0) (.int .u8<|.ofNat 7)=some (.int .u8<|.ofNat<|x0%7):=yi<|by omega
 have h31:mkI .i64 (.ofNat<|x0%7)=some (iv<|.ofNat<|x0%7):=tD<|by omega
 obtain⟨H3,s3,z0,ids,m,w1,w2,w3,w4,w5⟩:=acJ N ht hC hf hb hnt hres hname aap hK hH (by rw[hfr];exact⟨rfl,(λD hD=>by cases hD),rfl⟩) hpre hn hv<|λh=>⟨(XX h).1,(XX h).2.2⟩
 generalize x0%7=n at hn h30 h31 w1 w3 w4 hv
 have cV:CY P K adh [(0,.int .u8<|.ofNat x0),(1,.int .u8<|.ofNat x),(2,cv)] (λl'=>∀y w,lk [(0,.int .u8<|.ofNat x0),(1,.int .u8<|.ofNat x),(2,cv)] y=some w->lk l' y=some w):=by
  unfold adh
  exact CY.ops<|WOy.r (.mv rfl)<|WOy.nil qb
 have cW:CY P K adi [(0,.int .u8<|.ofNat x0),(1,.int .u8<|.ofNat x),(2,cv)] (λl'=>∀y w,lk [(1,.int .u8<|.ofNat x),(2,cv),(7,iv<|.ofNat n)] y=some w->lk l' y=some w):=by
  unfold adi
  exact CY.ops<|WOy.r (.mv rfl)<|WOy.r (.arith rfl rfl h30)<|WOy.r (.convI rfl h31)<|WOy.r (.mv rfl)<|WOy.nil qb
 obtain⟨xx,e'',Xu,H2,l',s',r1,r2,r3,r4⟩:=cV.then (H:=H0) UY (ds:=[]) (H0:=⟨.lf,0⟩) (Qn:=Kj) (Qe:=λ_=>Kj) (Qr:=adY z0) (λl4 e4 hl4 hE4 b4 hb4=>cW.then (H:=H0) (λi v hi=>hE4 i v<|hl4 i v hi) (λl6 e6 hl6 hE6 b6 hb6=>by
  have g0:En [(1,.int .u8<|.ofNat x),(2,cv),(7,iv<|.ofNat n)] e6:=λi v hi=>hE6 i v<|hl6 i v hi
  have g1:=g0.putO (some 33)<|iv<|.ofNat n
  refine WOa.seq ?_ hb6
  unfold ad0
  refine WOa.r (.mv rfl) g0<|WOa.cons (qu.call (fv:=.func (F 407) [] []) (vs:=[iv (.ofNat n)]) rfl ?_<|ki.func w1)<|WOa.of ?_ (g1.putO (some 34) _) w2
  ·simp only[aI,aG g1 (x:=.tmp 33) (v:=iv<|.ofNat n) rfl]
  ·refine Vr (k:=λb9=>Wv rfl<|Ww<|WS.st<|Wv rfl<|Wn ?_)
   have hz:∀p,p∈z0->p∈(b9,HO.r false [[iv 1,iv 2,iv 3]] 3)::(m++((1,.r false [[iv 1,iv 2,iv 3]] 3)::(Dw tA++z0))):=λp hp=>by simp[hp]
   have akv:=ae4 (lv:=ids) (cv:=cv) (D:=gS) N hMk ad8 ((aj4 z0).mono λp hp=>List.mem_cons_of_mem _<|List.mem_append_right _<|List.mem_cons_of_mem _ hp) hn hx (.here:Has b9 (.r false [[iv 1,iv 2,iv 3]] 3) ((b9,HO.r false [[iv 1,iv 2,iv 3]] 3)::(m++((1,.r false [[iv 1,iv 2,iv 3]] 3)::(Dw tA++z0))))) (w4.mono λp hp=>by simp[hp]) XV
    (λh=>by
     obtain⟨cap,sl,rfl⟩:=(XX h).2.1
     exact Src.all ((w5 h).mono hz)) XW (aia N (by omega)) (by rw[abn];rfl) (by rw[abn];omega) (by rw[abn];omega) w3.cons
    (l:=pl (some 10) ids<|pl none .undef<|pl (some 8) (.ptr<|some ⟨223,0,0⟩)<|pl (some 9) (.ptr<|some ⟨b9,0,0⟩)<|pl (some 37) ids<|pl (some 36) (.agg [iv 1,iv 2,iv 3])<|pl (some 35) (.ptr<|some ⟨223,0,0⟩)<|pl (some 32) (.tuple [.ptr (some ⟨223,0,0⟩),.agg [iv 1,iv 2,iv 3],ids])<|pl (some 34) (.tuple [.ptr (some ⟨223,0,0⟩),.agg [iv 1,iv 2,iv 3],ids])<|pl (some 33) (iv<|.ofNat n) [(1,.int .u8<|.ofNat x),(2,cv),(7,iv<|.ofNat n)]) qb
   exact WP.post akv (λ_ _ _ h=>h) (λ_ _ _ _ h=>h) λl8 ds8 s8 h8=>⟨h8.1,h8.2.1,λb o hb=>h8.2.2 b o (hb.mono hz)⟩) hb4) agq
 cases xx with
 | normal=>exact r4.elim
 | exit i=>exact r4.elim
 | ret=>
  obtain⟨rfl,u4,hm⟩:=r4
  refine⟨H2,CallsTo.enter (hK4 _ _) hf4 hb4 (by rw[agn,agm];rfl) (by rw[agn];exact iL) (by rw[agn];exact r1) (.inl rfl) ?_,λh=>(r3.has<|hm _ _<|w5 h).2⟩
  have e4:resultOf P e'' H2 (.tmp 6)=some (.bool true):=r2 6 _ u4
  rw[ait]
  show(match aI (resultOf P e'' H2) [.tmp 6]with | some [v]=>some v | some vs=>some (.tuple vs) | none=>none)=_
  simp only[aI,e4]
end
inductive aar (F:Nat->FuncId):FuncId->List AV->AV->Prop
 | w:aar F (F 412) [] (.bool true)
 | new (c z:Int):0<=c/\c<=3->1<=z/\z<=2->aar F (F 201) [.agg (cr 1 0 c z 0 Pu)] (iv 0)
 | cast0:aar F (F 201) [.agg (cr 28 0 0 0 0 Pu)] (iv 0)
 | cast (k o n:Int):1<=k/\k<=2->1<=o/\o<=3->0<=n/\n<=1->aar F (F 201) [.agg (cr 28 0 0 n 0 ⟨0,k,0,o,0,0,[],nilS⟩)] (iv 0)
 | tap (a:Int):4<=a/\a<=9->aar F (F 201) [.agg (cr 3 a 0 1 0 Pu)] (iv 0)
 | mana (x:Int):-1<=x/\x<=1->aar F (F 201) [.agg (cr 8 0 0 x 0 Pu)] (iv 0)
 | move (a:Int):1<=a/\a<=2->aar F (F 201) [.agg (cr 2 a 5 0 0 Pu)] (iv 0)
 | push (o:Int):1<=o/\o<=1000->aar F (F 201) [.agg (cr 15 0 0 0 0 ⟨0,1,0,o,2,0,[],nilS⟩)] (iv 0)
 | can (x:Nat) (w:Bool):x<=6->aar F (F 449) [.agg [iv (.ofNat x),iv 0,iv 0,iv 0],.agg [iv (if w then 1 else 0),iv 0,iv 0,iv<|if w then 0 else 1]] (.bool<|decide<|1<=x)
 | pay (x:Nat) (w:Bool):1<=x->x<=6->aar F (F 452) [.agg [iv (.ofNat x),iv 0,iv 0,iv 0],.agg [iv (if w then 1 else 0),iv 0,iv 0,iv<|if w then 0 else 1]] (.tuple [.agg [iv (.ofNat x-1),iv 0,iv 0,iv 0],iv 0])
@[reducible] def afz (p:Int)(b:Nat):List AV:=cr 28 0 0 1 0 ⟨0,1,0,1,0,0,[⟨p,0⟩],.slice (some ⟨b,0,0⟩) 1 1 true 2⟩
@[reducible] def afR (p o:Int)(b:Nat):List AV:=cr 15 0 0 0 0 ⟨0,1,0,o,1,0,[⟨p,0⟩],.slice (some ⟨b,0,0⟩) 1 1 true 2⟩
inductive C14 (F:Nat->FuncId):FuncId->List AV->Heap->AV->Heap->Prop
 | p {f:FuncId} {args:List AV} {v:AV} (H:Heap) (h:aar F f args v):C14 F f args H v H
 | aaV (H:Heap) (p:Int) (b:Nat):0<=p/\p<=1->b<H.next->(HO.r false [[iv p,iv 0]] 2).ok (H.get b)->C14 F (F 201) [.agg (afz p b)] H (iv 0) H
 | aa4 (H:Heap) (p o:Int) (b:Nat):0<=p/\p<=1->1<=o/\o<=1000->b<H.next->(HO.r false [[iv p,iv 0]] 2).ok (H.get b)->C14 F (F 201) [.agg (afR p o b)] H (iv 0) H
def acw (F:Nat->FuncId)(f:FuncId)(args:List AV):Option AV:=
 if f=F 412 then some (.bool true)else if f=F 201 then some (iv 0) else
  match args with
  | [.agg (.int _ n::_),_]=>if f=F 449 then some (.bool<|decide<|1<=n.toNat)else some (.tuple [.agg [iv (n-1),iv 0,iv 0,iv 0],iv 0])
  | _=>none
structure NeA (F:Nat->FuncId):Prop where
 a:F 201≠F 412
 b:F 449≠F 412
 c:F 449≠F 201
 d:F 452≠F 412
 e:F 452≠F 201
 f:F 452≠F 449
section
variable {F:Nat->FuncId}{f:FuncId}{args:List AV}{H H' I:Heap}{v u:AV}
theorem aar.val (hne:NeA F)(h:aar F f args v):acw F f args=some v:=by
 have ck:∀args,acw F (F 201) args=some (iv 0):=λargs=>by unfold acw;rw[if_neg hne.a,if_pos rfl]
 cases h with
 | w=>exact if_pos rfl
 | can x w hx=>unfold acw;rw[if_neg hne.b,if_neg hne.c];exact if_pos rfl
 | pay x w h1 h2=>unfold acw;rw[if_neg hne.d,if_neg hne.e];exact if_neg hne.f
 | _=>exact ck _
theorem C14.val (hne:NeA F)(h:C14 F f args H v H'):acw F f args=some v/\H'=H:=by
 have ck:∀args,acw F (F 201) args=some (iv 0):=λargs=>by unfold acw;rw[if_neg hne.a,if_pos rfl]
 cases h with
 | p _ h=>exact⟨h.val hne,rfl⟩
 | aaV=>exact⟨ck _,rfl⟩
 | aa4=>exact⟨ck _,rfl⟩
theorem C14.uniq (hne:NeA F)(h:C14 F f args H v H')(h2:C14 F f args H u I):u=v/\I=H':=by
 obtain⟨a1,a2⟩:=h.val hne
 obtain⟨b1,b2⟩:=h2.val hne
 exact⟨Option.some.inj<|b1.symm.trans a1,b2.trans a2.symm⟩
theorem says14 {P:Program}(hne:NeA F):afn P (orcOf (C14 F)) F:=by
 have known:∀{f:FuncId}{args:List AV}{a:AV},aar F f args a->∀s,bB P (orcOf<|C14 F) f args s (λv s'=>v=a/\s'=s):=λh s=>
  bB.known (λH=>kG (.p H h) λu I h2=>C14.uniq hne (.p H h) h2) ⟨rfl,rfl⟩
 have one:∀{kv:AV}{p:Int}{s:SH},Kv s kv [⟨p,0⟩]->∃b,kv=.slice (some ⟨b,0,0⟩) 1 1 true 2/\Has b (.r false [[iv p,iv 0]] 2) s:=by
  rintro kv p s ⟨o,hg,ho⟩
  generalize hL:[(⟨p,0⟩:TG)]=L at hg
  cases hg with
  | nil=>cases hL
  | @rows b _ hL2=>
   subst hL
   exact⟨b,rfl,.d5<|ho _<|List.mem_cons_self ..⟩
 exact{
  w:=λs=>known .w s
  new:=λc z s h1 h2=>known (.new c z h1 h2) s
  cast0:=λs=>known .cast0 s
  cast:=λk o n s h1 h2 h3=>known (.cast k o n h1 h2 h3) s
  aaV:=λp kv s hp hk=>by
   obtain⟨b,rfl,hb⟩:=one hk
   exact bB.adt hb (λH hlt hok=>kG (.aaV H p b hp hlt hok) λu I h2=>C14.uniq hne (.aaV H p b hp hlt hok) h2) ⟨rfl,rfl⟩
  tap:=λa s h=>known (.tap a h) s
  mana:=λx s h=>known (.mana x h) s
  move:=λa s h=>known (.move a h) s
  push:=λo s h=>known (.push o h) s
  aa4:=λp o kv s hp ho hk=>by
   obtain⟨b,rfl,hb⟩:=one hk
   exact bB.adt hb (λH hlt hok=>kG (.aa4 H p o b hp ho hlt hok) λu I h2=>C14.uniq hne (.aa4 H p o b hp ho hlt hok) h2) ⟨rfl,rfl⟩
  can:=λx w s hx=>known (.can x w hx) s
  pay:=λx w s h1 h2=>known (.pay x w h1 h2) s }
theorem orc14_w (hne:NeA F)(H:Heap):orcOf (C14 F) (F 412) [] H=some (.bool true,H):=kG (.p H .w) λu I h=>C14.uniq hne (.p H .w) h
theorem orc14_none (h1:f≠F 412)(h2:f≠F 201)(h3:f≠F 449)(h4:f≠F 452)(args:List AV)(H:Heap):orcOf (C14 F) f args H=none:=
 wn λu I h=>by
  cases h with
  | p _ h=>cases h<;>first | exact h1 rfl | exact h2 rfl | exact h3 rfl | exact h4 rfl
  | aaV=>exact h2 rfl
  | aa4=>exact h2 rfl
theorem orc14_ok {P:Program}(k:∀f args v,aar F f args v->KCon P f args hp0 v hp0)
  (kC:∀p:Int,0<=p/\p<=1->KCon P (F 201) [.agg (afz p 0)] (hp1 [iv p,iv 0] 2) (iv 0) (hp1 [iv p,iv 0] 2))
  (kP:∀p o:Int,0<=p/\p<=1->1<=o/\o<=1000->KCon P (F 201) [.agg (afR p o 0)] (hp1 [iv p,iv 0] 2) (iv 0) (hp1 [iv p,iv 0] 2)):OrcOk P (orcOf<|C14 F):=by
 refine DX λf args H v H' h=>?_
 cases h with
 | p _ h=>
  have h0:=h
  cases h<;>exact(k _ _ _ h0).anywhere (λ_=>rfl) (λ_=>rfl) _
 | aaV _ p b hp hlt hok=>exact(kC p hp).ahX (λ_=>rfl) hlt hok (λ_=>rfl) rfl
 | aa4 _ p o b hp ho hlt hok=>exact(kP p o hp ho).ahX (λ_=>rfl) hlt hok (λ_=>rfl) rfl
structure Trn14 (P:Program)(K:Orc)(F:Nat->FuncId)(T:Nat->TypeId)(f:FuncId)(fn:Func)(c:Code)(fg:Func)(cg:Code)(R:iB)(n:Nat):Prop where
 mixed:P.follows .mixedOrders=true
 orc:OrcOk P K
 base:AEnv P K F T (T 26)
 hmk:BaseMk P K F T
 t402:Ty P (T 402) 3
 rule:∀S:Sg,@Bh S R K
 func:P.funcs[f]?=some fn
 body:fn.body=some c
 nt:fn.ntmps=248
 res:fn.results.toList=[.tmp 6]
 name:(fn.name == "runtime.NumGoroutine")=false
 rest:cc P 248 c=.seq adh (.seq adi<|.seq (.ops<|ad0 F)<|adg F T)
 free:∀args H,K f args H=none
 funcg:P.funcs[F 407]?=some fg
 bodyg:fg.body=some cg
 ntg:fg.ntmps=56
 resg:fg.results.toList=[.tmp 2,.cell 3<|T 402,.tmp 4]
 nameg:(fg.name == "runtime.NumGoroutine")=false
 restg:cc P 56 (spine 4 cg).2=ab6 F T
 freeg:∀args H,K (F 407) args H=none
 runQ:pre407 P (callF P R n) cg fhQ 0=true
 runP:pre407 P (callF P R n) cg fhP 5=true
variable {P:Program}{K:Orc}{T:Nat->TypeId}{fn:Func}{c:Code}{fg:Func}{cg:Code}{R:iB}{n:Nat}
theorem trn14_none (hl:Trn14 P K F T f fn c fg cg R n){wl wh:Int}(hwl:0<=wl/\wl<=255)(hw:0<=wh/\wh<=255){lv:AV}{x:Value}(hlv:lenOf lv=some 0)(hx:VR (λ_=>none) lv x)(w:World) :
  Calls P f #[.int .u8 wl,.int .u8 wh,x] w λe w'=>e=.returned (.bool true)/\w.keptBut w' (λ_=>False):=by
 obtain⟨yl,rfl⟩:=Int.eq_ofNat_of_zero_le hwl.1
 obtain⟨y,rfl⟩:=Int.eq_ofNat_of_zero_le hw.1
 letI:Sg:=mkSg (λ_=>0) (λ_=>iv<|.ofNat<|yl%7)<|λ_=>.deferred
 obtain⟨H',⟨m,h1⟩,_⟩:=abL (x0:=yl) (x:=y) (cv:=lv) hl.base hl.hmk hl.t402 (kX P (hl.rule _) n) hl.funcg hl.bodyg hl.ntg hl.resg hl.nameg hl.restg hl.freeg hl.func hl.body hl.nt hl.res hl.name hl.rest hl.free N6 rfl hl.runQ (by omega) (by omega) (tN rfl Opq.U6) (L:=[]) hlv (λi hi=>absurd hi<|Nat.not_lt_zero _)<|λh=>absurd h<|Nat.not_lt_zero _
 refine callsIn_wide.1<|CallsIn.mono (qO hl.mixed hl.orc (HR.one w) (args:=[.int .u8 (.ofNat yl),.int .u8<|.ofNat y,lv]) (xs:=[.int .u8 (yl:Int),.int .u8 (y:Int),x]) ⟨_,_,rfl,⟨_,_,rfl,⟨_,_,hx,rfl,rfl⟩,rfl⟩,rfl⟩ h1).2 ?_
 rintro e w' ⟨y,rfl,g',_,hv,hh⟩
 have:y=.bool true:=hv
 subst this
 exact⟨rfl,pO (λk hk=>(hh.keep k 0 hk).2) hh.os.1 hh.os.2⟩
theorem trn14_some (hl:Trn14 P K F T f fn c fg cg R n){wl wh:Int}(hwl:0<=wl/\wl<=255)(hw:0<=wh/\wh<=255){z:Nat->Int}(hz:∀i,0<=z i/\z i<=255){len cap:Nat}(hpos:0<len){w:World}{iK off:Nat}{cs:Array Value}{el:TypeId}{fz:Nat × Nat}
  (hc:w.heap[iK]?=some (.cells cs el fz)) (hfit:off+len<=cs.size) (hcell:∀i,i<len->cs[off+i]?=some (.int .u8<|z i)) :
  Calls P f #[.int .u8 wl,.int .u8 wh,.slice (some ⟨iK,off,none⟩) len cap] w λe w'=>e=.returned (.bool true)/\w.keptBut w' (λ_=>False):=by
 obtain⟨yl,rfl⟩:=Int.eq_ofNat_of_zero_le hwl.1
 obtain⟨y0,rfl⟩:=Int.eq_ofNat_of_zero_le hw.1
 obtain⟨T',qY⟩:=em<|(List.range len).map λi=>[AV.int .u8 (z i)]
 have T7:∀i,i<len->((List.range len).map λi=>[AV.int .u8 (z i)])[i]?=some [AV.int .u8 (z i)]:=λi hi=>by
  grind
 have hT:∀i,i<len->T'.get i=some [AV.int .u8 (z i)]:=λi hi=>by rw[cB qY,T7 i hi]
 have IH:((List.range len).map λi=>[AV.int .u8 (z i)]).length=len:=by grind
 letI:Sg:=mkSg (λ_=>0) (λ_=>iv<|.ofNat<|yl%7)<|λ_=>.rows T' len 1 true
 obtain⟨H',⟨m,h1⟩,h2⟩:=abL (x0:=yl) (x:=y0) (cv:=.slice (some ⟨0,0,0⟩) len cap false 1) hl.base hl.hmk hl.t402 (kX P (hl.rule _) n) hl.funcg hl.bodyg hl.ntg hl.resg hl.nameg hl.restg hl.freeg hl.func hl.body hl.nt hl.res hl.name hl.rest hl.free N5 rfl hl.runP (by omega) (by omega) (tN rfl Opq.U6) (L:=(List.range len).map λi=>[AV.int .u8 (z i)])
  (by rw[IH];rfl) (λi hi=>by
   rw[IH]at hi
   have:=hz i
   exact⟨(z i).toNat,by omega,by rw[T7 i hi];congr 3;exact(Int.toNat_of_nonneg this.1).symm⟩)
  (λ_=>⟨rfl,⟨cap,false,by rw[IH]⟩,T',by rw[IH];rfl,λi row hi=>by
   have hlt:i<len:=by
    grind
   rw[T7 i hlt]at hi
   cases hi
   exact⟨hT i hlt,rfl⟩⟩)
 obtain⟨t,h3,h4⟩:=h2 (by rw[IH];exact hpos)
 have hsz:cs.size=off+(len+(cs.size-off-len))*1:=by omega
 have hHR:HR ⟨λk _=>k<w.heap.size/\k≠iK,λ_=>False⟩ w (gB iK off (cs.size-off-len) 1<|.cells cs el fz) (Su<|.rows T' len 1 true) w:=by
  have only:∀b o,(Su<|.rows T' len 1 true).get b=some o->b=0/\o=.rows T' len 1 true:=by
   intro b o hb
   rw[xf]at hb
   split at hb
   ·rename_i e;cases hb;exact⟨e.symm,rfl⟩
   ·cases hb
  refine⟨?_,?_,?_,?_,λk _ hk=>⟨hk.1,rfl⟩,Nat.le_refl _,⟨rfl,rfl⟩,λb hb=>hb.elim,λk t h=>h,λb o d hb hw hd=>by obtain⟨_,rfl⟩:=only b o hb;cases hw⟩
  ·intro b o hb
   obtain⟨rfl,rfl⟩:=only b o hb
   refine⟨⟨iK,off,cs.size-off-len,1,some<|.cells cs el fz⟩,rfl,?_⟩
   refine⟨rfl,cs,el,fz,hc,hc,trivial,λi row hi ht=>?_⟩
   rw[hT i hi]at ht
   cases ht
   refine⟨rfl,λj v hj=>?_⟩
   match j,hj with
   | 0,hj=>cases hj;exact⟨_,by rw[Nat.mul_one,Nat.add_zero];exact hcell i hi,rfl,rfl⟩
  ·intro b b' o o' d d' hb hb' _ _ _
   rw[(only b o hb).1,(only b' o' hb').1]
  ·intro b hb
   have hb:1<=b:=hb
   exact if_neg<|by omega
  ·intro b o d hb _ hd
   obtain⟨rfl,_⟩:=only b o hb
   have hd:some (⟨iK,off,cs.size-off-len,1,some<|.cells cs el fz⟩:Gd)=some d:=hd
   cases hd
   exactλk=>k.2 rfl
 refine callsIn_wide.1<|CallsIn.mono (qO hl.mixed hl.orc hHR (args:=[.int .u8 (.ofNat yl),.int .u8<|.ofNat y0,.slice (some ⟨0,0,0⟩) len cap false 1]) (xs:=[.int .u8 (yl:Int),.int .u8 (y0:Int),.slice (some ⟨iK,off,none⟩) len cap]) ⟨_,_,rfl,⟨_,_,rfl,⟨_,_,⟨_,rfl,λ_=>⟨rfl,rfl⟩,by simp[gX]⟩,rfl,rfl⟩,rfl⟩,rfl⟩ h1).2 ?_
 rintro e w' ⟨y,rfl,g',hle,hv,hh⟩
 have:y=.bool true:=hv
 subst this
 refine⟨rfl,pO (λk hk=>?_) hh.os.1 hh.os.2⟩
 by_cases hkb:k=iK
 ·subst hkb
  obtain⟨d,hd,X8⟩:=hh.obj 0 _ h3
  have:=hle 0 ⟨k,off,cs.size-off-len,1,some<|.cells cs el fz⟩ rfl
  rw[hd]at this
  cases this
  obtain⟨_,_,_,_,_,e2,_⟩:=X8
  have e2:w'.heap[k]?=some (.cells cs el fz):=e2
  rw[e2,hc]
 ·exact(hh.keep k 0 ⟨hk,hkb⟩).2

end
end Go.Ev
