/- Walks and rules. Conditions: none. -/
import Derived.Test.YtcmplhmbmmclaaaGreatEvJ
import Derived.Test.YtcmplhmbmmclaaaGreatEvH
set_option linter.unusedVariables false
set_option linter.unusedSectionVars false
namespace Go.Ev
section
variable {P:Program}{K:Orc}{rd:Option Nat}{nt:Nat}{l:Sl}{ds:List aD}{s:SH}{Q Qn Qr:Po}{Qe:Nat->Po}{F:Nat->FuncId}{T:Nat->TypeId}
variable {j:Nat}{bs:List Nat}{pd:List PD}{d:Option Nat}{op:AOp}{lo hi a:Nat}{rest:List DC}{v:AV}{hs:List SH}{os:List OB}{is:List Nat}
theorem kZ {ops:List Oper}{g:Option (Nat × Bool)}{jj:Nat}{w:Bool}(h:cg ops g=some (some (jj,w))):∃k o,g=some (k,w)/\dJ ops k=some o/\o.dst=some jj:=by
 cases g with
 | none=>cases h
 | some x=>
  obtain⟨k,w'⟩:=x
  unfold cg at h
  dsimp only at h
  split at h
  ·rename_i o ho
   split at h
   ·rename_i d0 Un
    cases h
    exact⟨k,o,rfl,ho,Un⟩
   ·cases h
  ·cases h
theorem mz {ops:Array Oper}{e:Tr AV}{k jj:Nat}{w b:Bool}{o:Oper}(h1:dJ ops.toList k=some o)(h2:o.dst=some jj)(h3:e.get jj=some (.bool b)):wanted e ops (some (k,w))=some (b==w):=by
 unfold wanted
 simp only[h1,h2,h3]
theorem WD.yes {jj:Nat}{w b:Bool}{cls:Ki}(hj:Go.Ev.lk l jj=some (.bool b))(hb:b=w)(h:WD P K rd (⟨⟨d,op,none⟩,cls,lo,hi,a⟩::rest) j bs pd hs os is l ds s Q):WD P K rd (⟨⟨d,op,some (jj,w)⟩,cls,lo,hi,a⟩::rest) j bs pd hs os is l ds s Q:=by
 subst hb
 intro ops aC l0 hd H0 S hS
 obtain⟨d0,r0,rfl,h1,h2,h3,h4,h5,h6,h7,h8⟩:=gF hd
 obtain⟨k,o,g1,g2,g3⟩:=kZ h3
 have hw:wanted S.e ops d0.o.guard=some true:=by
  rw[g1,mz g2 g3<|hS.en _ _ hj,beq_self_eq_true]
 have hd':dcs ops.toList aC j ({ d0 with o:={ d0.o with guard:=none } }::r0)=some (⟨⟨d,op,none⟩,cls,lo,hi,a⟩::rest):=by
  unfold dcs
  simp only[cg,h7,h8,h1,h2,h4,h5,h6]
 obtain⟨n,S',k1,k2⟩:=h ops aC _ hd' H0 S hS
 refine⟨n,S',?_,k2⟩
 obtain⟨S1,j1,j2⟩:=(ah _ _ _ _ _).1 k1
 refine(ah _ _ _ _ _).2 ⟨S1,?_,j2⟩
 rw[<- j1]
 unfold dstep
 simp only[hw]
 rfl
theorem Dy:type_of% @WD.yes:=@WD.yes
theorem WD.skip {jj:Nat}{w b:Bool}{cls:Ki}(hj:Go.Ev.lk l jj=some (.bool b))(hb:(b==w)=false)(hc:(match cls with | .pure=>true | .read=>true | _=>false)=true)(h:WD P K rd rest (j+1) bs pd hs os is (pl d .undef l) ds s Q):WD P K rd (⟨⟨d,op,some (jj,w)⟩,cls,lo,hi,a⟩::rest) j bs pd hs os is l ds s Q:=by
 intro ops aC l0 hd H0 S hS
 obtain⟨d0,r0,rfl,h1,h2,h3,h4,h5,h6,h7,h8⟩:=gF hd
 obtain⟨k,o,g1,g2,g3⟩:=kZ h3
 have hw:wanted S.e ops d0.o.guard=some false:=by
  rw[g1,mz g2 g3<|hS.en _ _ hj,hb]
 obtain⟨n,S',k1,k2⟩:=h ops aC r0 h8 H0 { S with e:=Ev.putO S.e d .undef,j:=Nat.succ S.j } ⟨hS.en.putO d _,hS.ds,hS.hp,by show S.j+1=_;rw[hS.j],hS.bs,hS.pd,hS.hs,hS.os,hS.pi,hS.mi⟩
 refine⟨n,S',(ah _ _ _ _ _).2 ⟨_,?_,k1⟩,k2⟩
 unfold dstep
 simp only[hw,h4,h1]
 cases cls<;>first | rfl | cases hc
theorem Dk:type_of% @WD.skip:=@WD.skip
theorem WD.jm {jj:Nat}{w b:Bool}(hj:Go.Ev.lk l jj=some (.bool b))(hb:(b==w)=false)(h:WD P K rd rest (j+1) bs pd (s::hs) os is (pl d .undef l) ds s Q):WD P K rd (⟨⟨d,op,some (jj,w)⟩,.chain,lo,hi,a⟩::rest) j bs pd hs os is l ds s Q:=by
 intro ops aC l0 hd H0 S hS
 obtain⟨d0,r0,rfl,h1,h2,h3,h4,h5,h6,h7,h8⟩:=gF hd
 obtain⟨k,o,g1,g2,g3⟩:=kZ h3
 have hw:wanted S.e ops d0.o.guard=some false:=by
  rw[g1,mz g2 g3<|hS.en _ _ hj,hb]
 obtain⟨n,S',k1,k2⟩:=h ops aC r0 h8 H0 { S with e:=Ev.putO S.e d .undef,Hs:=S.H::S.Hs,j:=Nat.succ S.j } ⟨hS.en.putO d _,hS.ds,hS.hp,by show S.j+1=_;rw[hS.j],hS.bs,hS.pd,⟨hS.hp,hS.hs⟩,hS.os,hS.pi,hS.mi⟩
 refine⟨n,S',(ah _ _ _ _ _).2 ⟨_,?_,k1⟩,k2⟩
 unfold dstep
 simp only[hw,h4,h1]
theorem WO.yes {jj:Nat}{w b:Bool}{rest:List bS}(hj:Go.Ev.lk l jj=some (.bool b))(hb:b=w)(h:WO P K (⟨d,op,none⟩::rest) l ds s Q):WO P K (⟨d,op,some (jj,w)⟩::rest) l ds s Q:=
 WO.guard hj (λ_=>h) (λh=>absurd hb h)
theorem Wy:type_of% @WO.yes:=@WO.yes
theorem WO.skip {jj:Nat}{w b:Bool}{rest:List bS}(hj:Go.Ev.lk l jj=some (.bool b))(hb:(b==w)=false)(h:WO P K rest (pl d .undef l) ds s Q):WO P K (⟨d,op,some (jj,w)⟩::rest) l ds s Q:=
 WO.guard hj (λh=>by subst h;rw[beq_self_eq_true]at hb;cases hb) (λ_=>h)
theorem Wk:type_of% @WO.skip:=@WO.skip
theorem oV {ops:Array Oper}{e:Tr AV}{k jj:Nat}{w:Bool}{o:Oper}(h1:dJ ops.toList k=some o)(h2:o.dst=some jj)(h3:e.get jj=some .undef):wanted e ops (some (k,w))=some false:=by
 unfold wanted
 simp only[h1,h2,h3]
 rfl
theorem WD.kg {jj:Nat}{w:Bool}{cls:Ki}(hj:Go.Ev.lk l jj=some .undef)(hc:(match cls with | .pure=>true | .read=>true | _=>false)=true)(h:WD P K rd rest (j+1) bs pd hs os is (pl d .undef l) ds s Q):WD P K rd (⟨⟨d,op,some (jj,w)⟩,cls,lo,hi,a⟩::rest) j bs pd hs os is l ds s Q:=by
 intro ops aC l0 hd H0 S hS
 obtain⟨d0,r0,rfl,h1,h2,h3,h4,h5,h6,h7,h8⟩:=gF hd
 obtain⟨k,o,g1,g2,g3⟩:=kZ h3
 have hw:wanted S.e ops d0.o.guard=some false:=by
  rw[g1,oV g2 g3<|hS.en _ _ hj]
 obtain⟨n,S',k1,k2⟩:=h ops aC r0 h8 H0 { S with e:=Ev.putO S.e d .undef,j:=Nat.succ S.j } ⟨hS.en.putO d _,hS.ds,hS.hp,by show S.j+1=_;rw[hS.j],hS.bs,hS.pd,hS.hs,hS.os,hS.pi,hS.mi⟩
 refine⟨n,S',(ah _ _ _ _ _).2 ⟨_,?_,k1⟩,k2⟩
 unfold dstep
 simp only[hw,h4,h1]
 cases cls<;>first | rfl | cases hc
theorem WO.kg {jj:Nat}{w:Bool}{rest:List bS}(hj:Go.Ev.lk l jj=some .undef)(h:WO P K rest (pl d .undef l) ds s Q):WO P K (⟨d,op,some (jj,w)⟩::rest) l ds s Q:=by
 intro nt ops l0 hl H0 e H he hH
 cases l0 with
 | nil=>cases hl
 | cons x l0=>
  obtain⟨c,cs,g1,g2,g3⟩:=(aV _ x l0 _).1 hl
  cases g3
  obtain⟨k,o,hc,ho,hd⟩:∃k o,cOper P nt x=⟨d,op,some (k,w)⟩/\dJ ops.toList k=some o/\o.dst=some jj:=by
   unfold co at g1
   generalize cOper P nt x=z at g1 |-
   obtain⟨d',op',g'⟩:=z
   dsimp only at g1
   split at g1
   ·rename_i g hg
    cases g1
    obtain⟨k,o,rfl,h1,h2⟩:=kZ hg
    exact⟨k,o,rfl,h1,h2⟩
   ·cases g1
  obtain⟨e',ds',H',l',s',j1,j2,j3,j4⟩:=h nt ops l0 g2 H0 (putO e d .undef) H (he.putO d .undef) hH
  exact⟨_,_,_,_,_,fj.pass hc (oV ho hd<|he _ _ hj) j1,j2,j3,j4⟩
theorem Wu:type_of% @WO.kg:=@WO.kg
theorem WD.dm {b:Nat}(k:WD P K rd rest (j+1) bs (⟨j,b,.m []⟩::pd) hs os (j::is) (pl d (.map (some b)) l) ds s Q):WD P K rd (⟨⟨d,.mkmap,none⟩,.dmap,lo,hi,a⟩::rest) j (b::bs) pd hs os is l ds s Q:=by
 refine WD.step rfl ?_ k
 intro ops aC d0 H0 S h1 h2 h3 h4 h5 h6 h7 hS
 obtain⟨rfl,hb⟩:=hS.bs
 refine⟨0,{ S with e:=Ev.putO S.e d<|.map<|some S.cG,j:=Nat.succ S.j,cG:=Nat.succ S.cG,pend:=⟨S.j,S.cG,.map [],0,[]⟩::S.pend },?_,⟨hS.en.putO d _,hS.ds,hS.hp,by show S.j+1=_;rw[hS.j],hb,⟨⟨hS.j,rfl,(λh=>by cases h),rfl⟩,hS.pd⟩,hS.hs,hS.os,λp hp=>?_,λp hp=>List.mem_cons_of_mem _<|hS.mi p hp⟩⟩
 ·unfold dstep
  rw[h3,h4]
  simp only[wanted,h2,allocOf,h1]
 ·cases hp with
  | head=>rw[show(⟨S.j,S.cG,.map [],0,[]⟩:aF).i=j from hS.j];exact List.mem_cons_self ..
  | tail _ hp=>exact List.mem_cons_of_mem _<|hS.pi p hp
theorem WD.gV {b i:Nat}{lit:Bool}{kk:dC}{m q x:Operand}{kv vv:AV}{es:List (AV × AV)}(hm:cr l m=some (.map (some b)))(hk:cr l q=some kv)(hx:cr l x=some vv)(ha:bit a i=true)(hl:lookIn kk kv es=some none)(hp:primEq kk kv kv=some true)
  (k:WD P K rd rest (j+1) bs [⟨i,b,.m<|bI es [(kv,vv)]⟩] hs os is (pl d .undef l) ds s Q):WD P K rd (⟨⟨d,.ins lit kk m q x,none⟩,.d4,lo,hi,a⟩::rest) j bs [⟨i,b,.m es⟩] hs os is l ds s Q:=by
 refine WD.step rfl ?_ k
 intro ops aC d0 H0 S h1 h2 h3 h4 h5 h6 h7 hS
 obtain⟨p,YR,q1,q2,q3,q4⟩:∃p,S.pend=[p]/\p.i=i/\p.id=b/\p.o=.map es/\p.i∈is:=by
  have h:=hS.pd
  have tj:=hS.pi
  cases YT:S.pend with
  | nil=>rw[YT]at h;exact h.elim
  | cons p ps=>
   rw[YT]at h
   cases ps with
   | nil=>
    obtain⟨⟨w1,w2,w3,w4⟩,_⟩:=h
    exact⟨p,rfl,w1,w2,Option.some.inj w4,tj p (by rw[YT];exact List.mem_cons_self ..)⟩
   | cons _ _=>exact h.2.elim
 refine⟨0,{ S with e:=Ev.putO S.e d .undef,j:=Nat.succ S.j,pend:=[⟨p.i,p.id,.map<|bI es [(kv,vv)],Nat.lor p.ins<|Nat.shiftLeft 1 j,bI p.kP [(j,kv,vv)]⟩] },?_,⟨hS.en.putO d _,hS.ds,hS.hp,by show S.j+1=_;rw[hS.j],hS.bs,⟨⟨q1,q2,(λh=>by cases h),rfl⟩,trivial⟩,hS.hs,hS.os,λp' CL=>?_,hS.mi⟩⟩
 ·have CE:ib kk kv vv b j a [p]=some (true,[⟨p.i,p.id,.map<|bI es [(kv,vv)],Nat.lor p.ins<|Nat.shiftLeft 1 j,bI p.kP [(j,kv,vv)]⟩]):=by
   unfold ib
   refine(ah _ _ _ _ _).2 ⟨_,?_,rfl⟩
   rw[q2,dn,q1,ha,q3]
   dsimp only
   rw[hl]
   dsimp only
   rw[hp]
  unfold dstep
  rw[h3,h4,hS.j]
  simp only[wanted,h7,h2,aG hS.en hm,aG hS.en hk,aG hS.en hx,YR,CE,h1]
  try rw[hS.j]
 ·rw[List.mem_singleton.1 CL]
  exact q4
@[reducible] def evRow (k a b n m:Int)(it:ID):List AV:=[iv k,iv a,iv b,iv n,iv m,nilS,iv it.id,iv it.kind,iv it.aQ,iv it.obj,iv it.gE,iv it.Tk,nilS]
theorem z8 (hB:Base P K F T){bw:Nat}{d:SD}{t:SH}(hs:WH bw d t s)(hd:d.Small)(he:d.kQ){b n m:Int}{it:ID}{fn:AV}{p:Nat}(hp:p<d.pl.length) :
  bB P K (F 203) [.ptr (some ⟨bw,0,0⟩),.agg<|evRow 1 (.ofNat p) b n m it,.agg [.bool true,.bool false,.bool false,fn]] s (λw s'=>w=iv 0/\WH bw d t s'):=by
 obtain⟨pv,ov,lv,hv,gv,ev,fv,sv,wv,nn,k1,k2⟩:=hs
 refine bB.perm k1.symm ?_
 refine hB.f203.cF (by simp) ?_
 unfold Lj
 refine Wq<|Wa (.box rfl rfl) λb4=>Wa (.box rfl rfl) λb5=>Wv rfl<|Wn ?_
 refine Wq<|Wr (.mkfn rfl rfl)<|Wv rfl<|Wn<|Ws<|Wb ?_
 have hR:∀x y z,mD (x::y::z::(nn++t)) pv ov lv hv gv ev fv sv wv d:=λx y z=>k2.r λp hp=>by simp[hp]
 have lp:lenOf pv=some d.pl.length:=by rw[(hR (0,.bK) (0,.bK) (0,.bK)).pl.lenOf];simp[Am]
 refine Ws<|WP.bD<|Dp (.mv rfl)<|Dp (.nilchk rfl rfl)<|Dp (.faddr rfl)<|Dl rfl .nil (.load rfl (.there<|.there .here) rfl rfl rfl)<|Dc .nil<|Wc rfl rfl (qQ hB (hR _ _ _) ⟨he.lb,he.hd,he.gr,he.ex⟩) ?_
 rintro w _ ⟨rfl,m1,rfl⟩
 refine(Dp (.un rfl rfl)<|Dp (.mv rfl)<|Dy rfl rfl<|Dp (.faddr rfl)<|Dy rfl rfl<|Dl rfl .nil (.load rfl (.app .here) rfl rfl rfl)<|Dy rfl rfl<|Dp (.mv rfl)<|Dy rfl rfl<|Dp (.faddr rfl)<|Dy rfl rfl<|Dl rfl .nil (.load rfl (.app<|.there .here) rfl rfl rfl)<|Dy rfl rfl<|Dp (.arith rfl rfl rfl)<|Dy rfl rfl<|Dp (.mv rfl)<|Dy rfl rfl<|Dp (.faddr rfl)<|Dy rfl rfl<|Dl rfl .nil (.load rfl (.app<|.there .here) rfl rfl rfl)<|Dy rfl rfl<|Dp (.mv rfl)<|Dy rfl rfl<|Dp (.nilchk rfl rfl)<|Dy rfl rfl<|Dp (.faddr rfl)<|Dy rfl rfl<|Dp (.faddr rfl)<|Dy rfl rfl<|Dl rfl .nil (.load rfl (.app<|.there<|.there .here) rfl rfl rfl)<|Dy rfl rfl<|Dp (.lenS rfl lp)<|Dy rfl rfl<|Dp (.arith rfl rfl<|Cm hp)<|Dy rfl rfl<|Dp (.bj rfl rfl)<|Dy rfl rfl<|Dp (.cV rfl rfl)<|Dp (.bj rfl rfl)<|Dp (.mv rfl)<|D0 .nil ?_<|λo h=>nomatch h)
 refine Wd rfl fS<|λ_=>?_
 refine Ws<|Ws<|WP.bD<|Dp (.faddr rfl)<|Dl rfl .nil (.load rfl (.app .here) rfl rfl rfl)<|Dp (.mv rfl)<|Dk rfl rfl rfl<|Dk rfl rfl rfl<|Dk rfl rfl rfl<|Dk rfl rfl rfl<|Dk rfl rfl rfl<|Dk rfl rfl rfl<|WD.jm rfl rfl<|Dk rfl rfl rfl<|Dp (.bj rfl rfl)<|Dp (.mv rfl)<|D0 .nil ?_<|λo h=>nomatch h
 refine Wd rfl fS<|λ_=>Wo<|Wf rfl<|Wl rfl (.app .here) rfl rfl rfl<|Wv rfl<|Wk rfl rfl<|Wk rfl rfl<|Wk rfl rfl<|Wk rfl rfl<|Wk rfl rfl<|Wr (.bj rfl rfl)<|Wv rfl<|Wn ?_
 refine Wd rfl fS<|λ_=>Wq<|Wf rfl<|Wl rfl (.app<|.there .here) rfl rfl rfl<|Wh rfl rfl (bb _ _)<|Wv rfl<|Wk rfl rfl<|Wk rfl rfl<|Wk rfl rfl<|Wr (.bj rfl rfl)<|Wv rfl<|Wk rfl rfl<|Wk rfl rfl<|Wk rfl rfl<|Wk rfl rfl<|Wk rfl rfl<|Wr (.bj rfl rfl)<|Wv rfl<|Wn ?_
 refine Wd rfl fS<|λ_=>Ws<|Wq<|Wf rfl<|Wl rfl (.app<|.there .here) rfl rfl rfl<|Wh rfl rfl (bb _ _)<|Wv rfl<|Wk rfl rfl<|Wk rfl rfl<|Wk rfl rfl<|Wk rfl rfl<|Wk rfl rfl<|Wk rfl rfl<|Wk rfl rfl<|Wk rfl rfl<|Wr (.bj rfl rfl)<|Wv rfl<|Wn ?_
 refine Wd rfl fS<|λ_=>Wo<|Wf rfl<|Wl rfl (.app<|.there .here) rfl rfl rfl<|Wh rfl rfl (bb _ _)<|Wv rfl<|Wk rfl rfl<|Wk rfl rfl<|Wk rfl rfl<|Wk rfl rfl<|Wk rfl rfl<|Wk rfl rfl<|Wk rfl rfl<|Wk rfl rfl<|Wr (.bj rfl rfl)<|Wv rfl<|Wn ?_
 refine Wd rfl fS<|λ_=>Ws<|WP.bD<|Dp (.faddr rfl)<|Dl rfl .nil (.load rfl (.app<|.there .here) rfl rfl rfl)<|Dp (.eql rfl rfl<|bb _ _)<|Dp (.mv rfl)<|Dk rfl rfl rfl<|Dk rfl rfl rfl<|Dk rfl rfl rfl<|Dk rfl rfl rfl<|Dk rfl rfl rfl<|Dk rfl rfl rfl<|Dk rfl rfl rfl<|Dk rfl rfl rfl<|Dk rfl rfl rfl<|Dk rfl rfl rfl<|Dk rfl rfl rfl<|Dk rfl rfl rfl<|WD.jm rfl rfl<|Dk rfl rfl rfl<|Dp (.bj rfl rfl)<|Dp (.mv rfl)<|D0 .nil ?_<|λo h=>nomatch h
 refine Wd rfl fS<|λ_=>Wi ?_
 refine Wq<|Wv rfl<|Wn<|We<|Wm (.tmp rfl .nil) ?_
 refine⟨rfl,?_⟩
 have fin:∀x y,WH bw d t (m1++(x::y::(bw,.r false [d.cells pv ov lv hv gv ev fv sv wv] 25)::(nn++t))):=λx y=>⟨pv,ov,lv,hv,gv,ev,fv,sv,wv,(m1++[x,y])++nn,cM λc w h0 h1 h2 hq=>by simp only[h1,h2,h0];omega,k2.bK⟩
 exact fin _ _
set_option maxRecDepth 4000
theorem ji (b r o:Nat):dz (.ptr (some ⟨b,r,o⟩)) (.ptr (some ⟨b,r,o⟩))=true:=by
 simp[dz,sameN,same0]
theorem dx (hB:Base P K F T){f x:AV}(hf:partCells 1 f=some [f]):bB P K (F 247) [f,x] s (λv s'=>∃g m,v=.agg [.bool false,.bool true,.bool true,g]/\s'=m++s):=by
 refine hB.f247.cF (by simp) ?_
 unfold Lp
 refine Wq<|Wa (.box rfl hf) λb2=>Wa (.alloc rfl) λb3=>Wn ?_
 refine Wq<|Wr (.mkfn rfl rfl)<|Wr (.build rfl rfl)<|Ww<|Wt rfl rfl rfl .here rfl rfl<|Wn<|We<|Wm (.cell rfl hB.t290.1 hB.t290.2 (.inl rfl) .here rfl rfl rfl .nil) ?_
 exact⟨_,[_,_],rfl,rfl⟩
theorem tL (hB:Base P K F T){f x:AV}(hf:partCells 1 f=some [f]):bB P K (F 263) [f,x] s (λv s'=>∃g m,v=.agg [.bool true,.bool false,.bool false,g]/\s'=m++s):=by
 refine hB.f263.cF (by simp) ?_
 unfold Lq
 refine Wq<|Wa (.box rfl hf) λb2=>Wa (.alloc rfl) λb3=>Wn ?_
 refine Wq<|Wr (.mkfn rfl rfl)<|Wr (.build rfl rfl)<|Ww<|Wt rfl rfl rfl .here rfl rfl<|Wn<|We<|Wm (.cell rfl hB.t290.1 hB.t290.2 (.inl rfl) .here rfl rfl rfl .nil) ?_
 exact⟨_,[_,_],rfl,rfl⟩
theorem AQ (hB:Base P K F T){bw:Nat}:bB P K (F 224) [.ptr (some ⟨bw,0,0⟩)] s (λv s'=>∃b b1 es m,v=.map (some b)/\s'=m++s/\Has b (.m es) m/\Has b1 (.r false [[.ptr (some ⟨bw,0,0⟩)]] 1) m/\lookIn .pi (iv 25) es=some (some (.agg [.bool false,.bool true,.bool false,.func (F 261) [] [.ptr (some ⟨b1,0,0⟩)]]))/\lookIn .pi (iv 1) es=some none/\lookIn .pi (iv 29) es=some none):=by
 refine hB.f224.cF (by simp) ?_
 unfold Ll
 refine Wq<|Wa (.box rfl rfl) λb1=>Wv rfl<|Wn ?_
 refine Wq<|Wr (.mkfn rfl rfl)<|Wv rfl<|Wn<|Ws<|WP.fd λb5=>?_
 refine(WD.dm<|Dp (.mv rfl)<|Dc (.no (show bit 2 0=false from rfl) .nil)<|Wc (first:=[]) (vs:=[.func (F 250) [] []]) (cap:=[.ptr (some ⟨b1,0,0⟩)]) rfl rfl (dx (f:=(.func (F 250) [] [])) (x:=.ptr<|some ⟨b1,0,0⟩) hB rfl) ?_)
 rintro w1 _ ⟨f1,m1,rfl,rfl⟩
 refine(WD.gV rfl rfl rfl rfl rfl rfl<|Dp (.mv rfl)<|Dc (.no (show bit 22 0=false from rfl) .nil)<|Wc (first:=[]) (vs:=[.func (F 251) [] []]) (cap:=[.ptr (some ⟨b1,0,0⟩)]) rfl rfl (dx (f:=(.func (F 251) [] [])) (x:=.ptr<|some ⟨b1,0,0⟩) hB rfl) ?_)
 rintro w2 _ ⟨f2,m2,rfl,rfl⟩
 refine(WD.gV rfl rfl rfl rfl rfl rfl<|Dp (.mv rfl)<|Dc (.no (show bit 182 0=false from rfl) .nil)<|Wc (first:=[]) (vs:=[.func (F 252) [] []]) (cap:=[.ptr (some ⟨b1,0,0⟩)]) rfl rfl (dx (f:=(.func (F 252) [] [])) (x:=.ptr<|some ⟨b1,0,0⟩) hB rfl) ?_)
 rintro w3 _ ⟨f3,m3,rfl,rfl⟩
 refine(WD.gV rfl rfl rfl rfl rfl rfl<|Dp (.mv rfl)<|Dc (.no (show bit 1462 0=false from rfl) .nil)<|Wc (first:=[]) (vs:=[.func (F 253) [] []]) (cap:=[.ptr (some ⟨b1,0,0⟩)]) rfl rfl (dx (f:=(.func (F 253) [] [])) (x:=.ptr<|some ⟨b1,0,0⟩) hB rfl) ?_)
 rintro w4 _ ⟨f4,m4,rfl,rfl⟩
 refine(WD.gV rfl rfl rfl rfl rfl rfl<|Dp (.mv rfl)<|Dc (.no (show bit 11702 0=false from rfl) .nil)<|Wc (first:=[]) (vs:=[.func (F 255) [] []]) (cap:=[.ptr (some ⟨b1,0,0⟩)]) rfl rfl (dx (f:=(.func (F 255) [] [])) (x:=.ptr<|some ⟨b1,0,0⟩) hB rfl) ?_)
 rintro w5 _ ⟨f5,m5,rfl,rfl⟩
 refine(WD.gV rfl rfl rfl rfl rfl rfl<|Dp (.mv rfl)<|Dc (.no (show bit 93622 0=false from rfl) .nil)<|Wc (first:=[]) (vs:=[.func (F 256) [] []]) (cap:=[.ptr (some ⟨b1,0,0⟩)]) rfl rfl (dx (f:=(.func (F 256) [] [])) (x:=.ptr<|some ⟨b1,0,0⟩) hB rfl) ?_)
 rintro w6 _ ⟨f6,m6,rfl,rfl⟩
 refine(WD.gV rfl rfl rfl rfl rfl rfl<|Dp (.mv rfl)<|Dc (.no (show bit 748982 0=false from rfl) .nil)<|Wc (first:=[]) (vs:=[.func (F 257) [] []]) (cap:=[.ptr (some ⟨b1,0,0⟩)]) rfl rfl (dx (f:=(.func (F 257) [] [])) (x:=.ptr<|some ⟨b1,0,0⟩) hB rfl) ?_)
 rintro w7 _ ⟨f7,m7,rfl,rfl⟩
 refine(WD.gV rfl rfl rfl rfl rfl rfl<|Dp (.mv rfl)<|Dc (.no (show bit 5991862 0=false from rfl) .nil)<|Wc (first:=[]) (vs:=[.func (F 258) [] []]) (cap:=[.ptr (some ⟨b1,0,0⟩)]) rfl rfl (dx (f:=(.func (F 258) [] [])) (x:=.ptr<|some ⟨b1,0,0⟩) hB rfl) ?_)
 rintro w8 _ ⟨f8,m8,rfl,rfl⟩
 refine(WD.gV rfl rfl rfl rfl rfl rfl<|WD.lk rfl (.no (show bit 0 0=false from rfl) .nil) (.load rfl (.app<|.app<|.app<|.app<|.app<|.app<|.app<|.app<|.there .here) rfl rfl rfl)<|Dp (.mkfn rfl rfl)<|Dp (.build rfl rfl)<|WD.gV rfl rfl rfl rfl rfl rfl<|WD.lk rfl (.no (show bit 0 0=false from rfl) .nil) (.load rfl (.app<|.app<|.app<|.app<|.app<|.app<|.app<|.app<|.there .here) rfl rfl rfl)<|Dp (.mkfn rfl rfl)<|Dp (.build rfl rfl)<|WD.gV rfl rfl rfl rfl rfl rfl<|Dp (.mkfn rfl rfl)<|Dp (.build rfl rfl)<|WD.gV rfl rfl rfl rfl rfl rfl<|Dp (.mv rfl)<|Dp (.mv rfl)<|D0 (.cons (.app<|.app<|.app<|.app<|.app<|.app<|.app<|.app .here) .nil) ?_ ?_)
 rotate_left
 ·intro o ho
  rcases List.mem_cons.1 ho with rfl|ho
  ·refine⟨(λi hi=>by simp only[List.mem_singleton]at hi;subst hi;rfl),Nat.zero_le _,ji _ _ _,λk _ hk=>?_⟩
   rcases(by have:k<=8:=hk;omega:k=0\/k=1\/k=2\/k=3\/k=4\/k=5\/k=6\/k=7\/k=8)with rfl|rfl|rfl|rfl|rfl|rfl|rfl|rfl|rfl
   ·exact⟨_,rfl,.load rfl (.there .here) rfl rfl rfl⟩
   ·exact⟨_,rfl,.load rfl (.app<|.there .here) rfl rfl rfl⟩
   ·exact⟨_,rfl,.load rfl (.app<|.app<|.there .here) rfl rfl rfl⟩
   ·exact⟨_,rfl,.load rfl (.app<|.app<|.app<|.there .here) rfl rfl rfl⟩
   ·exact⟨_,rfl,.load rfl (.app<|.app<|.app<|.app<|.there .here) rfl rfl rfl⟩
   ·exact⟨_,rfl,.load rfl (.app<|.app<|.app<|.app<|.app<|.there .here) rfl rfl rfl⟩
   ·exact⟨_,rfl,.load rfl (.app<|.app<|.app<|.app<|.app<|.app<|.there .here) rfl rfl rfl⟩
   ·exact⟨_,rfl,.load rfl (.app<|.app<|.app<|.app<|.app<|.app<|.app<|.there .here) rfl rfl rfl⟩
   ·exact⟨_,rfl,.load rfl (.app<|.app<|.app<|.app<|.app<|.app<|.app<|.app<|.there .here) rfl rfl rfl⟩
  ·rw[List.mem_singleton.1 ho]
   refine⟨(λi hi=>by simp only[List.mem_singleton]at hi;subst hi;rfl),Nat.zero_le _,ji _ _ _,λk _ hk=>?_⟩
   rcases(by have:k<=8:=hk;omega:k=0\/k=1\/k=2\/k=3\/k=4\/k=5\/k=6\/k=7\/k=8)with rfl|rfl|rfl|rfl|rfl|rfl|rfl|rfl|rfl
   ·exact⟨_,rfl,.load rfl (.there .here) rfl rfl rfl⟩
   ·exact⟨_,rfl,.load rfl (.app<|.there .here) rfl rfl rfl⟩
   ·exact⟨_,rfl,.load rfl (.app<|.app<|.there .here) rfl rfl rfl⟩
   ·exact⟨_,rfl,.load rfl (.app<|.app<|.app<|.there .here) rfl rfl rfl⟩
   ·exact⟨_,rfl,.load rfl (.app<|.app<|.app<|.app<|.there .here) rfl rfl rfl⟩
   ·exact⟨_,rfl,.load rfl (.app<|.app<|.app<|.app<|.app<|.there .here) rfl rfl rfl⟩
   ·exact⟨_,rfl,.load rfl (.app<|.app<|.app<|.app<|.app<|.app<|.there .here) rfl rfl rfl⟩
   ·exact⟨_,rfl,.load rfl (.app<|.app<|.app<|.app<|.app<|.app<|.app<|.there .here) rfl rfl rfl⟩
   ·exact⟨_,rfl,.load rfl (.app<|.app<|.app<|.app<|.app<|.app<|.app<|.app<|.there .here) rfl rfl rfl⟩
 refine We<|Wm (.tmp rfl .nil) ?_
 exact⟨b5,b1,_,_,rfl,(pull<|pull<|pull<|pull<|pull<|pull<|pull<|pull eW),(.app<|.app<|.app<|.app<|.app<|.app<|.app<|.app .here),(.app<|.app<|.app<|.app<|.app<|.app<|.app<|.app<|.there .here),rfl,rfl,rfl⟩
theorem Al (hB:Base P K F T){bw:Nat}:bB P K (F 225) [.ptr (some ⟨bw,0,0⟩)] s (λv s'=>∃b b1 es m,v=.map (some b)/\s'=m++s/\Has b (.m es) m/\Has b1 (.r false [[.ptr (some ⟨bw,0,0⟩)]] 1) m/\lookIn .pi (iv 1) es=some (some (.agg [.bool true,.bool false,.bool false,.func (F 265) [] [.ptr (some ⟨b1,0,0⟩)]]))/\lookIn .pi (iv 29) es=some none):=by
 refine hB.f225.cF (by simp) ?_
 unfold Lm
 refine Wq<|Wa (.box rfl rfl) λb1=>Wv rfl<|Wn ?_
 refine Wq<|Wr (.mkfn rfl rfl)<|Wv rfl<|Wn<|Ws<|WP.fd λb5=>?_
 refine(WD.dm<|Dp (.mkfn rfl rfl)<|Dp (.build rfl rfl)<|WD.gV rfl rfl rfl rfl rfl rfl<|Dp (.mv rfl)<|Dc (.no (show bit 16 0=false from rfl) .nil)<|Wc (first:=[]) (vs:=[.func (F 266) [] []]) (cap:=[.ptr (some ⟨b1,0,0⟩)]) rfl rfl (tL (f:=(.func (F 266) [] [])) (x:=.ptr<|some ⟨b1,0,0⟩) hB rfl) ?_)
 rintro w1 _ ⟨f1,m1,rfl,rfl⟩
 refine(WD.gV rfl rfl rfl rfl rfl rfl<|Dp (.mv rfl)<|Dc (.no (show bit 176 0=false from rfl) .nil)<|Wc (first:=[]) (vs:=[.func (F 267) [] []]) (cap:=[.ptr (some ⟨b1,0,0⟩)]) rfl rfl (tL (f:=(.func (F 267) [] [])) (x:=.ptr<|some ⟨b1,0,0⟩) hB rfl) ?_)
 rintro w2 _ ⟨f2,m2,rfl,rfl⟩
 refine(WD.gV rfl rfl rfl rfl rfl rfl<|Dp (.mv rfl)<|Dc (.no (show bit 1456 0=false from rfl) .nil)<|Wc (first:=[]) (vs:=[.func (F 268) [] []]) (cap:=[.ptr (some ⟨b1,0,0⟩)]) rfl rfl (tL (f:=(.func (F 268) [] [])) (x:=.ptr<|some ⟨b1,0,0⟩) hB rfl) ?_)
 rintro w3 _ ⟨f3,m3,rfl,rfl⟩
 refine(WD.gV rfl rfl rfl rfl rfl rfl<|Dp (.mv rfl)<|Dc (.no (show bit 11696 0=false from rfl) .nil)<|Wc (first:=[]) (vs:=[.func (F 269) [] []]) (cap:=[.ptr (some ⟨b1,0,0⟩)]) rfl rfl (tL (f:=(.func (F 269) [] [])) (x:=.ptr<|some ⟨b1,0,0⟩) hB rfl) ?_)
 rintro w4 _ ⟨f4,m4,rfl,rfl⟩
 refine(WD.gV rfl rfl rfl rfl rfl rfl<|Dp (.mv rfl)<|Dc (.no (show bit 93616 0=false from rfl) .nil)<|Wc (first:=[]) (vs:=[.func (F 270) [] []]) (cap:=[.ptr (some ⟨b1,0,0⟩)]) rfl rfl (tL (f:=(.func (F 270) [] [])) (x:=.ptr<|some ⟨b1,0,0⟩) hB rfl) ?_)
 rintro w5 _ ⟨f5,m5,rfl,rfl⟩
 refine(WD.gV rfl rfl rfl rfl rfl rfl<|WD.lk rfl (.no (show bit 0 0=false from rfl) .nil) (.load rfl (.app<|.app<|.app<|.app<|.app<|.there .here) rfl rfl rfl)<|Dp (.mkfn rfl rfl)<|Dp (.build rfl rfl)<|WD.gV rfl rfl rfl rfl rfl rfl<|Dp (.mkfn rfl rfl)<|Dp (.build rfl rfl)<|WD.gV rfl rfl rfl rfl rfl rfl<|WD.lk rfl (.no (show bit 0 0=false from rfl) .nil) (.load rfl (.app<|.app<|.app<|.app<|.app<|.there .here) rfl rfl rfl)<|Dp (.mkfn rfl rfl)<|Dp (.build rfl rfl)<|WD.gV rfl rfl rfl rfl rfl rfl<|Dp (.mv rfl)<|Dp (.mv rfl)<|D0 (.cons (.app<|.app<|.app<|.app<|.app .here) .nil) ?_ ?_)
 rotate_left
 ·intro o ho
  rcases List.mem_cons.1 ho with rfl|ho
  ·refine⟨(λi hi=>by simp only[List.mem_singleton]at hi;subst hi;rfl),Nat.zero_le _,ji _ _ _,λk _ hk=>?_⟩
   rcases(by have:k<=5:=hk;omega:k=0\/k=1\/k=2\/k=3\/k=4\/k=5)with rfl|rfl|rfl|rfl|rfl|rfl
   ·exact⟨_,rfl,.load rfl (.there .here) rfl rfl rfl⟩
   ·exact⟨_,rfl,.load rfl (.app<|.there .here) rfl rfl rfl⟩
   ·exact⟨_,rfl,.load rfl (.app<|.app<|.there .here) rfl rfl rfl⟩
   ·exact⟨_,rfl,.load rfl (.app<|.app<|.app<|.there .here) rfl rfl rfl⟩
   ·exact⟨_,rfl,.load rfl (.app<|.app<|.app<|.app<|.there .here) rfl rfl rfl⟩
   ·exact⟨_,rfl,.load rfl (.app<|.app<|.app<|.app<|.app<|.there .here) rfl rfl rfl⟩
  ·rw[List.mem_singleton.1 ho]
   refine⟨(λi hi=>by simp only[List.mem_singleton]at hi;subst hi;rfl),Nat.zero_le _,ji _ _ _,λk _ hk=>?_⟩
   rcases(by have:k<=5:=hk;omega:k=0\/k=1\/k=2\/k=3\/k=4\/k=5)with rfl|rfl|rfl|rfl|rfl|rfl
   ·exact⟨_,rfl,.load rfl (.there .here) rfl rfl rfl⟩
   ·exact⟨_,rfl,.load rfl (.app<|.there .here) rfl rfl rfl⟩
   ·exact⟨_,rfl,.load rfl (.app<|.app<|.there .here) rfl rfl rfl⟩
   ·exact⟨_,rfl,.load rfl (.app<|.app<|.app<|.there .here) rfl rfl rfl⟩
   ·exact⟨_,rfl,.load rfl (.app<|.app<|.app<|.app<|.there .here) rfl rfl rfl⟩
   ·exact⟨_,rfl,.load rfl (.app<|.app<|.app<|.app<|.app<|.there .here) rfl rfl rfl⟩
 refine We<|Wm (.tmp rfl .nil) ?_
 exact⟨b5,b1,_,_,rfl,(pull<|pull<|pull<|pull<|pull eW),(.app<|.app<|.app<|.app<|.app .here),(.app<|.app<|.app<|.app<|.app<|.there .here),rfl,rfl⟩
theorem Ai (hB:Base P K F T){bw:Nat}:bB P K (F 226) [.ptr (some ⟨bw,0,0⟩)] s (λv s'=>∃b b1 es m,v=.map (some b)/\s'=m++s/\Has b (.m es) m/\Has b1 (.r false [[.ptr (some ⟨bw,0,0⟩)]] 1) m/\lookIn .pi (iv 29) es=some (some (.agg [.bool false,.bool false,.bool false,.func (F 284) [] [.ptr (some ⟨b1,0,0⟩)]]))):=by
 refine hB.f226.cF (by simp) ?_
 unfold Ln
 refine Wq<|Wa (.box rfl rfl) λb1=>Wv rfl<|Wn ?_
 refine Wq<|Wa .mkmap λb5=>(Wr (.mkfn rfl rfl)<|Wr (.build rfl rfl)<|Ww<|WS.ins rfl rfl rfl .here rfl<|Wr (.mkfn rfl rfl)<|Wr (.build rfl rfl)<|Ww<|WS.ins rfl rfl rfl .here rfl<|Wr (.mkfn rfl rfl)<|Wr (.build rfl rfl)<|Ww<|WS.ins rfl rfl rfl .here rfl<|Wr (.mkfn rfl rfl)<|Wr (.build rfl rfl)<|Ww<|WS.ins rfl rfl rfl .here rfl<|Wr (.mkfn rfl rfl)<|Wr (.build rfl rfl)<|Ww<|WS.ins rfl rfl rfl .here rfl<|Wr (.mkfn rfl rfl)<|Wr (.build rfl rfl)<|Ww<|WS.ins rfl rfl rfl .here rfl<|Wr (.mkfn rfl rfl)<|Wr (.build rfl rfl)<|Ww<|WS.ins rfl rfl rfl .here rfl<|Wl rfl (.there .here) rfl rfl rfl<|Wr (.mkfn rfl rfl)<|Wr (.build rfl rfl)<|Ww<|WS.ins rfl rfl rfl .here rfl<|Wr (.mkfn rfl rfl)<|Wr (.build rfl rfl)<|Ww<|WS.ins rfl rfl rfl .here rfl<|Wv rfl<|Wv rfl<|Wn ?_)
 refine We<|Wm (.tmp rfl .nil) ?_
 exact⟨b5,b1,_,_,rfl,eW,.here,(.there .here),rfl⟩
theorem fN {p:Nat × HO}{x n s:SH}(h:x=n++s):p::x=(p::n)++s:=by rw[h];rfl
theorem yg {p:Nat × HO}{s:SH}:p::s=[p]++s:=rfl
theorem abe {l:Sl}{sz:Nat}{x y z:Operand}{u v w:AV}{cs es fs:List AV}(hx:cr l x=some u)(hc:partCells sz u=some cs)(hy:cr l y=some v)(he:partCells sz v=some es)(hz:cr l z=some w)(hf:partCells sz w=some fs):bsrows l sz 0 [(0,x),(1,y),(2,z)]=some [cs,es,fs]:=by
 simp[bsrows,hx,hc,hy,he,hz,hf]
theorem wz (hB:Base P K F T){bw:Nat}:bB P K (F 202) [.ptr (some ⟨bw,0,0⟩),iv 1] s (λv s'=>∃bx m,s'=m++s/\Has bx (.r false [[.ptr (some ⟨bw,0,0⟩)]] 1) m/\v=.agg [.bool true,.bool false,.bool false,.func (F 265) [] [.ptr (some ⟨bx,0,0⟩)]]):=by
 refine hB.f202.cF (by simp) ?_
 unfold Li
 refine Wq<|Wa (.alloc rfl) λb4=>Wn ?_
 refine Ws<|Wq<|Wv rfl<|Ww<|Wz [.ptr (some ⟨bw,0,0⟩)] rfl rfl (AQ hB) ?_
 rintro w1 _ ⟨c1,d1,es1,m1,rfl,rfl,t1,t2,t3,t4,t5⟩
 refine Wv rfl<|Ww<|Wz [.ptr (some ⟨bw,0,0⟩)] rfl rfl (Al hB) ?_
 rintro w2 _ ⟨c2,d2,es2,m2,rfl,rfl,u1,u2,u3,u4⟩
 refine Wv rfl<|Ww<|Wz [.ptr (some ⟨bw,0,0⟩)] rfl rfl (Ai hB) ?_
 rintro w3 _ ⟨c3,d3,es3,m3,rfl,rfl,x1,x2,x3⟩
 refine Wa (.bslice (abe rfl rfl rfl rfl rfl rfl) rfl) λb15=>Wr (.lenS rfl rfl)<|Wv rfl<|Wn<|Wb ?_
 refine WP.dA<|Wq<|Wj rfl rfl rfl<|Wn<|Ws<|Wd rfl (λ_=>Wi ?_)<|λh=>by cases h
 refine Ws<|Wb<|Wq<|Wr (.iaddrS rfl rfl (by omega)<|by omega)<|Wl rfl .here rfl rfl rfl<|Wv rfl<|Wn ?_
 refine Wq<|Wv rfl<|Wv rfl<|Wr (.look rfl rfl (.there<|.app<|.app<|.left t1) t4)<|Wv rfl<|Wr (.extract rfl rfl)<|Wr (.extract rfl rfl)<|Wa (.alloc rfl) λb7=>Ww<|Wt rfl rfl rfl .here rfl rfl<|Wv rfl<|Wn<|Wq<|Wv rfl<|Wn ?_
 refine Wd rfl (λh=>by cases h)<|λ_=>Wi ?_
 refine Wo<|Wj rfl rfl (bM<|by omega)<|Wv rfl<|Wn ?_
 refine WP.dA<|Wq<|Wj rfl rfl rfl<|Wn<|Ws<|Wd rfl (λ_=>Wi ?_)<|λh=>by cases h
 refine Ws<|Wb<|Wq<|Wr (.iaddrS rfl rfl (by omega)<|by omega)<|Wl rfl (.there .here) rfl rfl rfl<|Wv rfl<|Wn ?_
 refine Wq<|Wv rfl<|Wv rfl<|Wr (.look rfl rfl (.there<|.there<|.app<|.left u1) u3)<|Wv rfl<|Wr (.extract rfl rfl)<|Wr (.extract rfl rfl)<|Wa (.alloc rfl) λb7=>Ww<|Wt rfl rfl rfl .here rfl rfl<|Wv rfl<|Wn<|Wq<|Wv rfl<|Wn ?_
 refine Wd rfl (λ_=>?_)<|λh=>by cases h
 refine Wq<|Wl rfl .here rfl rfl rfl<|Ww<|Wt rfl rfl rfl (.there<|.there<|.there<|.app<|.app<|.app .here) rfl rfl<|Wn<|We<|Wm (.cell rfl hB.t290.1 hB.t290.2 (.inl rfl) (.there<|.there<|.there<|.app<|.app<|.app .here) rfl rfl rfl .nil) ?_
 have fin:∀(p0 p1 p2 y:Nat × HO),Has d2 (.r false [[.ptr (some ⟨bw,0,0⟩)]] 1) (p0::p1::p2::(m3++(m2++(m1++[y])))):=λp0 p1 p2 y=>(.there<|.there<|.there<|.app<|.left u2)
 exact⟨d2,_,(fN<|fN<|fN<|pull<|pull<|pull yg),fin _ _ _ _,rfl⟩
def pY (p:Nat)(b n m:Int):OD:=⟨0,b,.ofNat p,.ofNat p,n,false,false,decide (m=1),0,0,0,0,false⟩
theorem B1 (hB:Base P K F T){bw bx p:Nat}{d:SD}{t:SH}(hs:WH bw d t s)(hx:Has bx (.r false [[.ptr (some ⟨bw,0,0⟩)]] 1) t)(hd:d.Small)(he:d.kQ)(hp:p<d.pl.length){b n m:Int}{it:ID}(h1:0<=d.nx/\d.nx<=1000000)(h2:0<=d.sp/\d.sp<=1000000) :
  bB P K (F 265) [.agg (evRow 1 (.ofNat p) b n m it),.ptr<|some ⟨bx,0,0⟩] s (λ_ s'=>WH bw (d.add (pY p b n m) p) t s'):=by
 obtain⟨pv,ov,lv,hv,gv,ev,fv,sv,wv,nn,k1,k2⟩:=hs
 refine bB.perm k1.symm ?_
 refine hB.f265.cF (by simp) ?_
 unfold Td
 refine Wq<|Wa (.box rfl rfl) λb2=>Wn ?_
 have hW:WH bw d t ((b2,.r false [evRow 1 (.ofNat p) b n m it] 13)::(bw,.r false [d.cells pv ov lv hv gv ev fv sv wv] 25)::(nn++t)):=WH.bK (m:=[_]) ⟨pv,ov,lv,hv,gv,ev,fv,sv,wv,nn,.refl _,k2⟩
 refine Wo<|Wl rfl (.there<|.there<|.app hx) rfl rfl rfl<|Wf rfl<|Wl rfl .here rfl rfl rfl<|Wf rfl<|Wl rfl .here rfl rfl rfl<|Wf rfl<|Wl rfl .here rfl rfl rfl<|Wf rfl<|Wl rfl .here rfl rfl rfl<|Wf rfl<|Wl rfl .here rfl rfl rfl<|Wh rfl rfl (bb _ _)<|Wr (.build rfl rfl)<|Ww<|Wz [.ptr (some ⟨bw,0,0⟩),.agg (pY p b n m).row,.bool false] rfl rfl (Br hB hW hd he hp rfl h1 h2) ?_
 intro w s' hw
 exact Wn<|Wm .nil hw
theorem yh {p q r:Nat × HO}{s:SH}:p::q::r::s=[p,q,r]++s:=rfl
theorem sC (hB:Base P K F T){pv ov lv hv gv ev fv sv wv:AV}{d:SD}(h:mD s pv ov lv hv gv ev fv sv wv d)(hd:d.Small)(he:d.kQ){p:Nat}{b n m:Int}{it:ID}(hp:p<d.pl.length)(h1:0<=d.nx/\d.nx<=1000000)(h2:0<=d.sp/\d.sp<=1000000)
  (lm:∀s,bB P K (F 201) [.agg (evRow 1 (.ofNat p) b n m it)] s<|λv s'=>v=iv 0/\s'=s) :
  bB P K (F 164) [.agg (d.cells pv ov lv hv gv ev fv sv wv),.agg<|evRow 1 (.ofNat p) b n m it] s (λv s'=>∃pv ov lv hv gv ev fv sv wv nn,v=.tuple [.agg (((d.add (pY p b n m) p):SD).cells pv ov lv hv gv ev fv sv wv),iv 0]/\s'=nn++s/\iJ nn pv ov lv hv gv ev fv sv wv (d.add (pY p b n m) p)):=by
 refine hB.f164.cF (by simp) ?_
 unfold Lg
 refine Wq<|Wa (.box rfl rfl) λb2=>Wa (.box rfl rfl) λb3=>Wa (.alloc rfl) λb4=>Wv rfl<|Wn ?_
 have hR:mD ((b4,.r false [cC] 25)::(b3,.r false [evRow 1 (.ofNat p) b n m it] 13)::(b2,.r false [d.cells pv ov lv hv gv ev fv sv wv] 25)::s) pv ov lv hv gv ev fv sv wv d:=⟨h.pl.mono λp hp=>by simp[hp],h.ob.mono λp hp=>by simp[hp],h.lb.mono λp hp=>by simp[hp],h.hd.mono λp hp=>by simp[hp],h.gr.mono λp hp=>by simp[hp],h.ex.mono λp hp=>by simp[hp],h.fi.mono λp hp=>by simp[hp],h.st.mono λp hp=>by simp[hp],h.wa.mono λp hp=>by simp[hp]⟩
 refine Wq<|Wl rfl (.there<|.there .here) rfl rfl rfl<|Ww<|Wz [.agg (d.cells pv ov lv hv gv ev fv sv wv)] rfl rfl (mw hB hR hd) ?_
 rintro w _ ⟨pv,ov,lv,hv,gv,ev,fv,sv,wv,n1,rfl,rfl,g1⟩
 refine Wr (.build rfl rfl)<|Wa (.box rfl rfl) λbw=>Wv rfl<|Wn ?_
 refine Wg (s':=(bw,.r false [d.cells pv ov lv hv gv ev fv sv wv] 25)::(n1++((b4,.r false [cC] 25)::(b3,.r false [evRow 1 (.ofNat p) b n m it] 13)::(b2,.r false [d.cells _ _ _ _ _ _ _ _ _] 25)::s))) (λ_ _ h=>h) (λ_ _ h=>h) ?_
 refine Ws<|Wq<|Wl rfl (.there<|.app<|.there .here) rfl rfl rfl<|Ww<|Wz [.agg (evRow 1 (.ofNat p) b n m it)] rfl rfl (lm _) ?_
 rintro w _ ⟨rfl,rfl⟩
 refine Wv rfl<|Wn<|Wq<|Wv rfl<|Wh rfl rfl (bb _ _)<|Wn<|Wd rfl fS<|λ_=>Wi ?_
 refine Wq<|Wv rfl<|Wf rfl<|Wl rfl (.there<|.app<|.there .here) rfl rfl rfl<|Ww<|Wz [.ptr (some ⟨bw,0,0⟩),iv 1] rfl rfl (wz hB) ?_
 rintro w _ ⟨bx,m2,rfl,hx,rfl⟩
 refine Wa (.alloc rfl) λb8=>Ww<|Wt rfl rfl rfl .here rfl rfl<|Wn ?_
 -- may it be done
 have hW:∀y,WH bw d ((b8,.r false [[.bool true,.bool false,.bool false,.func (F 265) [] [.ptr (some ⟨bx,0,0⟩)]]] 4)::(m2++((b4,.r false [cC] 25)::(b3,.r false [evRow 1 (.ofNat p) b n m it] 13)::(b2,y)::s)))
   ((b8,.r false [[.bool true,.bool false,.bool false,.func (F 265) [] [.ptr (some ⟨bx,0,0⟩)]]] 4)::(m2++((bw,.r false [d.cells pv ov lv hv gv ev fv sv wv] 25)::(n1++((b4,.r false [cC] 25)::(b3,.r false [evRow 1 (.ofNat p) b n m it] 13)::(b2,y)::s))))):=λy=>
  ⟨pv,ov,lv,hv,gv,ev,fv,sv,wv,n1,cM λc w h0 h1 h2 hq=>by simp only[h1,h2];omega,g1⟩
 refine Wg (s':=(b8,.r false [[.bool true,.bool false,.bool false,.func (F 265) [] [.ptr (some ⟨bx,0,0⟩)]]] 4)::(m2++((bw,.r false [d.cells pv ov lv hv gv ev fv sv wv] 25)::(n1++((b4,.r false [cC] 25)::(b3,.r false [evRow 1 (.ofNat p) b n m it] 13)::(b2,.r false [d.cells _ _ _ _ _ _ _ _ _] 25)::s))))) (λ_ _ h=>h) (λ_ _ h=>h) ?_
 refine Ws<|Wq<|Wv rfl<|Wl rfl (.there<|.app<|.there<|.app<|.there .here) rfl rfl rfl<|Wl rfl .here rfl rfl rfl<|Ww<|Wz [.ptr (some ⟨bw,0,0⟩),.agg<|evRow 1 (.ofNat p) b n m it,.agg [.bool true,.bool false,.bool false,.func (F 265) [] [.ptr (some ⟨bx,0,0⟩)]]] rfl rfl (z8 hB (hW _) hd he hp) ?_
 rintro w s5 ⟨rfl,XY⟩
 obtain⟨pv,ov,lv,hv,gv,ev,fv,sv,wv,n5,k5,g5⟩:=XY
 refine Wv rfl<|Wn<|Wq<|Wv rfl<|Wh rfl rfl (bb _ _)<|Wn<|Wd rfl fS<|λ_=>Wi ?_
 refine WP.pre k5 ?_
 have XZ:∀t,WH bw d t ((bw,.r false [d.cells pv ov lv hv gv ev fv sv wv] 25)::(n5++t)):=λt=>⟨pv,ov,lv,hv,gv,ev,fv,sv,wv,n5,.refl _,g5⟩
 refine Wq<|Wf rfl<|Wl rfl (.there<|.app .here) rfl rfl rfl<|Wl rfl (.there<|.app<|.there<|.app<|.there .here) rfl rfl rfl<|Ww<|Wc (first:=[]) (vs:=[.agg (evRow 1 (.ofNat p) b n m it)]) (cap:=[.ptr (some ⟨bx,0,0⟩)]) rfl rfl (B1 hB (XZ _) (.there<|.left hx) hd he hp h1 h2) ?_
 rintro w s7 X0
 obtain⟨pv,ov,lv,hv,gv,ev,fv,sv,wv,n7,k7,g7⟩:=X0
 refine Wn<|WP.pre k7 ?_
 refine Wq<|Wv rfl<|Wr (.nilchk rfl rfl)<|Wf rfl<|Wl rfl .here rfl rfl rfl<|Ww<|Wt rfl rfl rfl (.there<|.app<|.there<|.app .here) rfl rfl<|Wv rfl<|Wn<|We<|Wm (.cell rfl hB.t41.1 hB.t41.2 (.inl rfl) (.there<|.app<|.there<|.app .here) rfl rfl rfl<|.tmp rfl .nil) ?_
 have fin:∀y1 y2 y3 y4 y5,iJ (y1::(n7++(y2::(m2++[y3,y4,y5])))) pv ov lv hv gv ev fv sv wv (d.add (pY p b n m) p):=λy1 y2 y3 y4 y5=>
  (g7.bK (m:=y1::y2::(m2++[y3,y4,y5]))).perm (cM λc w h0 h1 h2 hq=>by simp only[h1,h2,h0];omega)
 exact⟨pv,ov,lv,hv,gv,ev,fv,sv,wv,_,rfl,fN<|pull<|fN<|pull yh,fin _ _ _ _ _⟩
theorem tS (hB:Base P K F T){k a b n m:Int}{it:ID}:bB P K (F 165) [.agg (evRow k a b n m it)] s (λv s'=>v=.agg (evRow k a b n m it)/\∃m,s'=m++s):=by
 refine hB.f165.cF (by simp) ?_
 unfold SW
 refine Wq<|Wa (.box rfl rfl) λb1=>Wa (.alloc rfl) λb2=>Wn ?_
 refine Ws<|WP.bD<|Dp (.faddr rfl)<|Dl rfl .nil (.load rfl (.there .here) rfl rfl rfl)<|Dc .nil<|Wz [nilS] rfl rfl hB.VS.iX ?_
 rintro w _ ⟨rfl,rfl⟩
 refine Dp (.faddr rfl)<|Dp (.faddr rfl)<|WD.lk rfl .nil (.load rfl (.there .here) rfl rfl rfl)<|Dc .nil<|Wz [nilS] rfl rfl hB.NT.iX ?_
 rintro w _ ⟨rfl,rfl⟩
 refine Dp (.faddr rfl)<|Dc .nil<|Wt rfl rfl rfl (.there .here) rfl rfl<|Dp (.faddr rfl)<|Dp (.faddr rfl)<|Dc .nil<|Wt rfl rfl rfl (.there .here) rfl rfl<|D0 .nil ?_ ?_
 rotate_left
 ·intro o ho
  rw[List.mem_singleton.1 ho]
  refine⟨(λi hi=>nomatch hi),Nat.zero_le _,rfl,λk _ hk=>?_⟩
  rcases(by have:k<=1:=hk;omega:k=0\/k=1)with rfl|rfl
  ·exact⟨_,rfl,.load rfl (.there .here) rfl rfl rfl⟩
  ·exact⟨_,rfl,.load rfl (.there .here) rfl rfl rfl⟩
 refine Wq<|Wl rfl (.there .here) rfl rfl rfl<|Ww<|Wt rfl rfl rfl .here rfl rfl<|Wn<|We<|Wm (.cell rfl hB.t50.1 hB.t50.2 (.inl rfl) .here rfl rfl rfl .nil) ?_
 exact⟨rfl,[_,_],rfl⟩
theorem nA {a b c:List AV}{i n:Nat}(ha:a.length=i)(hb:b.length=n):bV n (cu i (a++(b++c)))=some b:=by
 subst ha hb
 rw[cw,List.drop_left,cK _ _ (by rw[List.length_append];omega),List.take_left]
theorem D7 {a b c b':List AV}{i:Nat}(ha:a.length=i)(hb:b.length=b'.length):fK (a++(b++c)) i b'=some (a++(b'++c)):=by
 subst ha
 unfold fK
 have h1:bV a.length (a++(b++c))=some a:=by rw[cK _ _ (by rw[List.length_append];omega),List.take_left]
 have h2:cu a.length (a++(b++c))=b++c:=by rw[cw,List.drop_left]
 have h3:bV (aK b') (b++c)=some b:=by rw[ar,<- hb,cK _ _ (by rw[List.length_append];omega),List.take_left]
 simp only[h1,h2,h3]
 rw[aN,aN,ar,cw,<- hb,List.drop_left]
theorem Src.sameN {sz:Nat}{v:AV}{L:List (List AV)}(h:Src s sz v L)(n:Nat):Ev.sameN (n+1) v v=true:=by
 cases h with
 | nil=>simp[Ev.sameN,same0]
 | @zero a c sl rw=>cases a<;>simp[Ev.sameN,same0]
 | emp=>rfl
 | rows _ _=>simp[Ev.sameN,same0]
theorem SL.sameN {v:AV}{LL:List (List (List AV))}(h:SL s v LL)(n:Nat):Ev.sameN (n+1) v v=true:=by
 obtain⟨L,h1,_⟩:=h
 exact h1.sameN n
theorem iq (n:Nat)(k:Int):sameN (n+1) (iv k) (iv k)=true:=by
 have:ieq k k=true:=gd.2 rfl
 simp[sameN,same0,keq,this]
theorem J1 (n:Nat)(b:Bool):sameN (n+1) (.bool b) (.bool b)=true:=by simp[sameN,same0]
theorem mD.same {pv ov lv hv gv ev fv sv wv:AV}{d:SD}(h:mD s pv ov lv hv gv ev fv sv wv d):dz (.agg (d.cells pv ov lv hv gv ev fv sv wv)) (.agg (d.cells pv ov lv hv gv ev fv sv wv))=true:=by
 show sameL (sameN 5) _ _=true
 unfold SD.cells
 simp only[sameL,h.pl.sameN,h.ob.sameN,h.lb.sameN,h.hd.sameN,h.gr.sameN,h.ex.sameN,h.fi.sameN,h.st.sameN,h.wa.sameN,iq,J1,Bool.and_true,Bool.true_and]
 rfl
theorem Jx {sc b b' c:List AV}{x:AV}(hs:sc.length=25)(hb:b.length=b'.length):fK (sc++([x]++(b++c))) 26 b'=some (sc++([x]++(b'++c))):=by
 have:=D7 (a:=sc++[x]) (b:=b) (b':=b') (c:=c) (i:=26) (by simp[hs]) hb
 simpa[List.append_assoc]using this
def aH (bl:Nat)(EL:List (List AV))(d:SD)(t s:SH):Prop:=∃sc lv pv ov eo hv gv ev fv sv wv oL n,s.Perm ((bl,.r false [sc++([lv]++(d.cells pv ov eo hv gv ev fv sv wv++[]))] 51)::(oL++(n++t)))/\sc.length=25/\Gr 13 lv EL oL/\mD n pv ov eo hv gv ev fv sv wv d
theorem mD.mono {pv ov lv hv gv ev fv sv wv:AV}{d:SD}{s':SH}(h:mD s pv ov lv hv gv ev fv sv wv d)(hs:∀p,p∈s->p∈s'):mD s' pv ov lv hv gv ev fv sv wv d:=
 ⟨h.pl.mono hs,h.ob.mono hs,h.lb.mono hs,h.hd.mono hs,h.gr.mono hs,h.ex.mono hs,h.fi.mono hs,h.st.mono hs,h.wa.mono hs⟩
theorem zW (hB:Base P K F T){bl:Nat}{EL:List (List AV)}{d d':SD}{t:SH}{k a b n m:Int}{it:ID}(hs:aH bl EL d t s)(hE:EL.length<=1000)
  (hap:∀{pv ov lv hv gv ev fv sv wv:AV}(s:SH),mD s pv ov lv hv gv ev fv sv wv d->bB P K (F 164) [.agg (d.cells pv ov lv hv gv ev fv sv wv),.agg<|evRow k a b n m it] s (λv s'=>∃pv ov lv hv gv ev fv sv wv nn,v=.tuple [.agg (d'.cells pv ov lv hv gv ev fv sv wv),iv 0]/\s'=nn++s/\iJ nn pv ov lv hv gv ev fv sv wv d')) :
  bB P K (F 108) [.ptr (some ⟨bl,0,0⟩),.agg<|evRow k a b n m it] s (λv s'=>v=iv 0/\aH bl (EL++[evRow k a b n m it]) d' t s'):=by
 obtain⟨sc,lv,pv,ov,eo,hv,gv,ev,fv,sv,wv,oL,nn,k1,k2,k3,k4⟩:=hs
 refine bB.perm k1.symm ?_
 refine hB.f108.cF (by simp) ?_
 unfold SE
 refine Wq<|Wa (.box rfl rfl) λb3=>Wv rfl<|Wn ?_
 refine Ws<|Wq<|Wv rfl<|Wh (b:=false) rfl rfl rfl<|Wn<|Wd rfl (λh=>by cases h)<|λ_=>Wi ?_
 have PT:bV 25 (cu 26<|sc++([lv]++(d.cells pv ov eo hv gv ev fv sv wv++[])))=some (d.cells pv ov eo hv gv ev fv sv wv):=by
  have:=nA (a:=sc++[lv]) (b:=d.cells pv ov eo hv gv ev fv sv wv) (c:=[]) (i:=26) (n:=25) (by simp[k2]) rfl
  rwa [List.append_assoc]at this
 have hl:bV 1 (cu 25<|sc++([lv]++(d.cells pv ov eo hv gv ev fv sv wv++[])))=some [lv]:=nA k2 rfl
 refine Ws<|WP.fd λb5=>Dp (.mv rfl)<|Dp (.nilchk rfl rfl)<|Dp (.faddr rfl)<|Dl rfl .nil (.load rfl (.there<|.there .here) rfl PT rfl)<|Dl rfl .nil (.load rfl (.there .here) rfl rfl rfl)<|Dc .nil<|Wz [.agg (d.cells pv ov eo hv gv ev fv sv wv),.agg<|evRow k a b n m it] rfl rfl (hap _<|k4.mono λp hp=>by simp[hp]) ?_
 rintro w _ ⟨Gz,Gy,nw,Gw,Gl,Gj,Gk,GA,GB,n2,rfl,rfl,g2⟩
 have R9:mD n2 Gz Gy nw Gw Gl Gj Gk GA GB d':=g2.r λp hp=>hp
 refine Dp (.mv rfl)<|Dp (.extract rfl rfl)<|Dp (.extract rfl rfl)<|WD.al (.alloc rfl) rfl<|Dc (.yes (show bit 767 9=true from rfl) rfl (.app .here) .nil)<|Wt rfl rfl rfl (.app .here) rfl rfl<|Dp (.mv rfl)<|D0 .nil ?_<|λo h=>nomatch h
 refine Wg (s':=n2++((b5,.r false [d'.cells Gz Gy nw Gw Gl Gj Gk GA GB] 25)::(b3,.r false [evRow k a b n m it] 13)::(bl,.r false [sc++([lv]++(d.cells pv ov eo hv gv ev fv sv wv++[]))] 51)::(oL++(nn++t)))) (λ_ _ h=>h) (λ_ _ h=>h) ?_
 refine Ws<|Wq<|Wv rfl<|Wh rfl rfl (bb _ _)<|Wn<|Wd rfl fS<|λ_=>Wi ?_
 refine Ws<|WP.fd λb8=>Dp (.mv rfl)<|Dp (.mv rfl)<|Dp (.mv rfl)<|Dp (.nilchk rfl rfl)<|Dp (.faddr rfl)<|WD.lk rfl .nil (.load rfl (.there<|.app<|.there<|.there .here) rfl hl rfl)<|Dl rfl .nil (.load rfl (.there<|.app<|.there .here) rfl rfl rfl)<|Dc .nil<|Wz [.agg (evRow k a b n m it)] rfl rfl (tS hB) ?_
 rintro w _ ⟨rfl,m3,rfl⟩
 refine WD.al (.bslice (L:=[evRow k a b n m it]) (fZ rfl rfl) rfl) rfl ?_
 refine Dc (.yes (show bit 508 8=true from rfl) rfl (.app .here) .nil)<|WS.pre (s':=(m3++((b8,.r false [evRow k a b n m it] 13)::(n2++[(b5,.r false [d'.cells Gz Gy nw Gw Gl Gj Gk GA GB] 25),(b3,.r false [evRow k a b n m it] 13),(bl,.r false [sc++([lv]++(d.cells pv ov eo hv gv ev fv sv wv++[]))] 51)])))++(oL++(nn++t))) (cM λc w h0 h1 h2 hq=>by simp only[h1,h2,h0];omega)<|WS.append_gr rfl k3 rfl (Src.all (L:=[evRow k a b n m it])<|.left<|.app .here) (by omega) (by omega) (by omega) λv6 o6 j6 hG=>?_
 refine WD.lk rfl .nil (.load rfl (.app<|.left<|.app<|.there<|.app .here) rfl rfl rfl)<|Dp (.nilchk rfl rfl)<|Dp (.faddr rfl)<|Dc .nil<|Wt rfl rfl hG.part (.app<|.left<|.app<|.there<|.app<|.there<|.there .here) rfl (D7 k2 rfl)<|Dp (.nilchk rfl rfl)<|Dp (.faddr rfl)<|Dc .nil<|Wt rfl rfl rfl (.app<|.left<|.app<|.there<|.app<|.there<|.there .here) rfl (Jx k2 rfl)<|D0 .nil ?_ ?_
 ·refine Wq (Wv rfl<|Wn<|We<|Wm (.tmp rfl .nil) ?_)
  have fin:∀y1 y2 y3,aH bl (EL++[evRow k a b n m it]) d' t (o6++((m3++(y1::(n2++[y2,y3,(bl,.r false [sc++([v6]++(d'.cells Gz Gy nw Gw Gl Gj Gk GA GB++[]))] 51)])))++(j6++(nn++t)))):=λy1 y2 y3=>
   ⟨sc,v6,Gz,Gy,nw,Gw,Gl,Gj,Gk,GA,GB,o6,n2++(m3++(y1::y2::y3::(j6++nn))),cM λc w h0 h1 h2 hq=>by simp only[h1,h2,h0];omega,k2,hG,R9.mono λp hp=>by simp[hp]⟩
  exact⟨rfl,fin _ _ _⟩
 ·intro o ho
  rcases List.mem_cons.1 ho with rfl|ho
  ·refine⟨(λi hi=>by rw[List.mem_singleton.1 hi];exact(show bit 0 8=false from rfl)),Nat.zero_le _,R9.same,λk _ hk=>?_⟩
   rcases(by have:k<=3:=hk;omega:k=0\/k=1\/k=2\/k=3)with rfl|rfl|rfl|rfl
   ·exact⟨_,rfl,.load rfl (.there<|.app .here) rfl rfl rfl⟩
   ·exact⟨_,rfl,.load rfl (.app<|.there<|.app .here) rfl rfl rfl⟩
   ·exact⟨_,rfl,.load rfl (.app<|.left<|.app<|.there<|.app .here) rfl rfl rfl⟩
   ·exact⟨_,rfl,.load rfl (.app<|.left<|.app<|.there<|.app .here) rfl rfl rfl⟩
  ·rw[List.mem_singleton.1 ho]
   refine⟨(λi hi=>by rw[List.mem_singleton.1 hi];exact(show bit 28 8=false from rfl)),Nat.zero_le _,k3.out.src.same,λk _ hk=>?_⟩
   rcases(by have:k<=1:=hk;omega:k=0\/k=1)with rfl|rfl
   ·exact⟨_,rfl,.load rfl (.there<|.app<|.there<|.there .here) rfl hl rfl⟩
   ·exact⟨_,rfl,.load rfl (.app<|.there<|.app<|.there<|.there .here) rfl hl rfl⟩
theorem aH.bK {bl:Nat}{EL:List (List AV)}{d:SD}{t s m:SH}(h:aH bl EL d t s):aH bl EL d t (m++s):=by
 obtain⟨sc,lv,pv,ov,eo,hv,gv,ev,fv,sv,wv,oL,nn,k1,k2,k3,k4⟩:=h
 exact⟨sc,lv,pv,ov,eo,hv,gv,ev,fv,sv,wv,oL,nn++m,cM λc w h0 h1 h2 hq=>by simp only[h1,h2,hq _ _ k1];omega,k2,k3,k4.mono λp hp=>by simp[hp]⟩
theorem aH.perm {bl:Nat}{EL:List (List AV)}{d:SD}{t s s':SH}(h:aH bl EL d t s)(hp:s.Perm s'):aH bl EL d t s':=by
 obtain⟨sc,lv,pv,ov,eo,hv,gv,ev,fv,sv,wv,oL,nn,k1,k2,k3,k4⟩:=h
 exact⟨sc,lv,pv,ov,eo,hv,gv,ev,fv,sv,wv,oL,nn,hp.symm.trans k1,k2,k3,k4⟩
theorem aH.fb {bl:Nat}{EL:List (List AV)}{d:SD}{x t s:SH}(h:aH bl EL d (x++t) s):aH bl EL d t s:=by
 obtain⟨sc,lv,pv,ov,eo,hv,gv,ev,fv,sv,wv,oL,nn,k1,k2,k3,k4⟩:=h
 exact⟨sc,lv,pv,ov,eo,hv,gv,ev,fv,sv,wv,oL,nn++x,cM λc w h0 h1 h2 hq=>by simp only[h1,h2,hq _ _ k1];omega,k2,k3,k4.mono λp hp=>by simp[hp]⟩
theorem aH.mem {bl:Nat}{EL:List (List AV)}{d:SD}{t s:SH}(h:aH bl EL d t s){b:Nat}{o:HO}(hb:Has b o t):Has b o s:=by
 obtain⟨sc,lv,pv,ov,eo,hv,gv,ev,fv,sv,wv,oL,nn,k1,k2,k3,k4⟩:=h
 exact .ce<|k1.mem_iff.2<|by simp[hb.mem]
theorem aH.HW {bl:Nat}{EL:List (List AV)}{d:SD}{t s x:SH}(h:aH bl EL d t s):aH bl EL d (x++t) (x++s):=by
 obtain⟨sc,lv,pv,ov,eo,hv,gv,ev,fv,sv,wv,oL,nn,k1,k2,k3,k4⟩:=h
 exact⟨sc,lv,pv,ov,eo,hv,gv,ev,fv,sv,wv,oL,nn,cM λc w h0 h1 h2 hq=>by simp only[h1,h2,hq _ _ k1];omega,k2,k3,k4⟩
theorem Jn (hB:Base P K F T){bl:Nat}{EL:List (List AV)}{d:SD}{t:SH}(hs:aH bl EL d t s)(hd:d.Small) :
  bB P K (F 52) [.ptr (some ⟨bl,0,0⟩)] s (λv s'=>∃m,aH bl EL d (m++t) s'/\∃pv ov lv hv gv ev fv sv wv,v=.agg (d.cells pv ov lv hv gv ev fv sv wv)/\iJ m pv ov lv hv gv ev fv sv wv d):=by
 have hs0:=hs
 obtain⟨sc,lv,pv,ov,eo,hv,gv,ev,fv,sv,wv,oL,nn,k1,k2,k3,k4⟩:=hs
 refine bB.perm k1.symm ?_
 have nr:=hs0.perm k1
 refine hB.f52.cF (by simp) ?_
 unfold ZY
 have PT:bV 25 (cu 26<|sc++([lv]++(d.cells pv ov eo hv gv ev fv sv wv++[])))=some (d.cells pv ov eo hv gv ev fv sv wv):=by
  have:=nA (a:=sc++[lv]) (b:=d.cells pv ov eo hv gv ev fv sv wv) (c:=[]) (i:=26) (n:=25) (by simp[k2]) rfl
  rwa [List.append_assoc]at this
 refine Wq<|Wa (.alloc rfl) λb2=>Wn ?_
 refine Ws<|Wq<|Wv rfl<|Wh (b:=false) rfl rfl rfl<|Wn<|Wd rfl (λh=>by cases h)<|λ_=>Wi ?_
 refine Wq<|Wv rfl<|Wr (.nilchk rfl rfl)<|Wf rfl<|Wl rfl (.there .here) rfl PT rfl<|Ww<|Wz [.agg (d.cells pv ov eo hv gv ev fv sv wv)] rfl rfl (mw hB (k4.mono λp hp=>by simp[hp]) hd) ?_
 rintro w _ ⟨Gz,Gy,nw,Gw,Gl,Gj,Gk,GA,GB,n2,rfl,rfl,g2⟩
 refine Ww<|Wt rfl rfl rfl (.app .here) rfl rfl<|Wn<|We<|Wm (.cell rfl hB.t41.1 hB.t41.2 (.inl rfl) (.app .here) rfl rfl rfl .nil) ?_
 exact⟨n2,aH.HW<|aH.bK (m:=[_]) nr,Gz,Gy,nw,Gw,Gl,Gj,Gk,GA,GB,rfl,g2⟩
@[reducible] def bu (bl:Nat)(aZ:AV)(c0 c1 c2 c3 c4:Int)(bE:AV):List AV:=[.ptr (some ⟨bl,0,0⟩),aZ,iv c0,iv c1,iv c2,iv c3,iv c4,bE]
theorem iT (hB:Base P K F T){bf bl:Nat}{aZ bE:AV}{c0 c1 c2 c3 c4:Int}(hf:Has bf (.r false [bu bl aZ c0 c1 c2 c3 c4 bE] 8) s):bB P K (F 24) [.ptr (some ⟨bf,0,0⟩)] s (λv s'=>v=.ptr (some ⟨bl,0,0⟩)/\s'=s):=by
 refine hB.f24.cF (by simp) ?_
 unfold ZP
 refine Wq<|Wv rfl<|Wn ?_
 refine Ws<|Wq<|Wv rfl<|Wh (b:=false) rfl rfl rfl<|Wn<|Wd rfl (λh=>by cases h)<|λ_=>Wi ?_
 refine Wq<|Wv rfl<|Wr (.nilchk rfl rfl)<|Wf rfl<|Wf rfl<|Wl rfl hf rfl rfl rfl<|Wv rfl<|Wn<|We<|Wm (.tmp rfl .nil) ?_
 exact⟨rfl,rfl⟩
theorem aau (hB:Base P K F T){bf bl:Nat}{aZ bE:AV}{c0 c1 c2 c3 c4:Int}{EL:List (List AV)}{d:SD}{t:SH}(hs:aH bl EL d t s)(hd:d.Small)(hf:Has bf (.r false [bu bl aZ c0 c1 c2 c3 c4 bE] 8) t) :
  bB P K (F 14) [.ptr (some ⟨bf,0,0⟩)] s (λv s'=>∃m,aH bl EL d (m++t) s'/\∃pv ov lv hv gv ev fv sv wv,v=.agg (d.cells pv ov lv hv gv ev fv sv wv)/\iJ m pv ov lv hv gv ev fv sv wv d):=by
 refine hB.f14.cF (by simp) ?_
 unfold ZN
 refine Wq<|Wa (.alloc rfl) λb2=>Wn ?_
 have dt:aH bl EL d ([(b2,.r false [cC] 25)]++t) ((b2,.r false [cC] 25)::s):=hs.HW (x:=[_])
 refine Wq<|Wv rfl<|Ww<|Wz [.ptr (some ⟨bf,0,0⟩)] rfl rfl (iT hB<|.there<|hs.mem hf) ?_
 rintro w _ ⟨rfl,rfl⟩
 refine Ww<|Wz [.ptr (some ⟨bl,0,0⟩)] rfl rfl (Jn hB dt hd) ?_
 rintro w s3 ⟨m,gw,pv,ov,lv,hv,gv,ev,fv,sv,wv,rfl,hR⟩
 obtain⟨sc,nw,Gz,Gy,eo,Gw,Gl,Gj,Gk,GA,GB,oL,nn,k1,k2,k3,k4⟩:=gw
 refine Ww<|WS.pre (s':=[(b2,.r false [cC] 25)]++((bl,.r false [sc++([nw]++(d.cells Gz Gy eo Gw Gl Gj Gk GA GB++[]))] 51)::(oL++(nn++(m++t))))) (cM λc w h0 h1 h2 hq=>by simp only[h1,h2,h0,hq _ _ k1];omega)<|Wt rfl rfl rfl .here rfl rfl<|Wn<|We<|Wm (.cell rfl hB.t41.1 hB.t41.2 (.inl rfl) .here rfl rfl rfl .nil) ?_
 exact⟨m,aH.bK (m:=[_]) ⟨sc,nw,Gz,Gy,eo,Gw,Gl,Gj,Gk,GA,GB,oL,nn,.refl _,k2,k3,k4⟩,pv,ov,lv,hv,gv,ev,fv,sv,wv,rfl,hR⟩
theorem iU (hB:Base P K F T){bf bl:Nat}{aZ bE:AV}{c0 c1 c2 c3 c4:Int}{EL:List (List AV)}{d:SD}{t:SH}(hs:aH bl EL d t s)(hd:d.Small)(hf:Has bf (.r false [bu bl aZ c0 c1 c2 c3 c4 bE] 8) t) :
  bB P K (F 14) [.ptr (some ⟨bf,0,0⟩)] s (λv s'=>∃m,aH bl EL d (m++t) s'/\∃pv ov lv hv gv ev fv sv wv,v=.agg (d.cells pv ov lv hv gv ev fv sv wv)/\mD m pv ov lv hv gv ev fv sv wv d):=
 (aau hB hs hd hf).post λv s'⟨m,h1,pv,ov,lv,hv,gv,ev,fv,sv,wv,h2,h3⟩=>⟨m,h1,pv,ov,lv,hv,gv,ev,fv,sv,wv,h2,h3.r λp hp=>hp⟩
theorem cz (hB:Base P K F T){bf bl:Nat}{aZ bE:AV}{c0 c1 c2 c3 c4:Int}{EL:List (List AV)}{d:SD}{t:SH}(hs:aH bl EL d t s)(hd:d.Small)(hf:Has bf (.r false [bu bl aZ c0 c1 c2 c3 c4 bE] 8) t) :
  bB P K (F 14) [.ptr (some ⟨bf,0,0⟩)] s (λv s'=>aH bl EL d t s'/\∃pv ov lv hv gv ev fv sv wv,v=.agg (d.cells pv ov lv hv gv ev fv sv wv)/\mD s' pv ov lv hv gv ev fv sv wv d):=
 (iU hB hs hd hf).post λv s'⟨m,h,pv,ov,lv,hv,gv,ev,fv,sv,wv,KN,hR⟩=>⟨h.fb,pv,ov,lv,hv,gv,ev,fv,sv,wv,KN,hR.mono λp hp=>(h.mem<|.ce<|List.mem_append_left _ hp).mem⟩
theorem aH.cons {bl:Nat}{EL:List (List AV)}{d:SD}{t s:SH}{p:Nat × HO}(h:aH bl EL d t s):aH bl EL d (p::t) (p::s):=by
 obtain⟨sc,lv,pv,ov,eo,hv,gv,ev,fv,sv,wv,oL,nn,k1,k2,k3,k4⟩:=h
 exact⟨sc,lv,pv,ov,eo,hv,gv,ev,fv,sv,wv,oL,nn,cM λc w h0 h1 h2 hq=>by simp only[h1,h2,hq _ _ k1];omega,k2,k3,k4⟩
theorem aH.tail {bl:Nat}{EL:List (List AV)}{d:SD}{t s:SH}{p:Nat × HO}(h:aH bl EL d (p::t) s):aH bl EL d t s:=aH.fb (x:=[p]) h
theorem F0 {n:Int}(h0:1<=n)(h1:n<=4611686018427387904):binV .sub (iv n) (.int .i64 (.ofNat 1))=some (iv (n-1)):=by
 obtain⟨k,rfl⟩:=Int.eq_ofNat_of_zero_le (by omega:0<=n)
 have hk:1<=k:=by omega
 show mkI .i64 (vH (.ofNat k)<|.ofNat 1)=_
 have:vH (.ofNat k) (.ofNat 1)=.ofNat (k-1):=by
  show(match Nat.ble 1 k with | true=>Int.ofNat (Nat.sub k 1) | false=>.negSucc<|Nat.pred<|Nat.sub 1 k)=_
  rw[Nat.ble_eq_true_of_le hk];rfl
 rw[this,tD<|by omega]
 congr 2
 show((k-1:Nat):Int)=(k:Int)-1
 omega
def Ap (P:Program)(K:Orc)(F:Nat->FuncId)(k a b n m:Int)(it:ID)(d d':SD):Prop:=∀{pv ov lv hv gv ev fv sv wv:AV}(s:SH),mD s pv ov lv hv gv ev fv sv wv d->bB P K (F 164) [.agg (d.cells pv ov lv hv gv ev fv sv wv),.agg (evRow k a b n m it)] s (λv s'=>∃pv ov lv hv gv ev fv sv wv nn,v=.tuple [.agg (d'.cells pv ov lv hv gv ev fv sv wv),iv 0]/\s'=nn++s/\iJ nn pv ov lv hv gv ev fv sv wv d')
theorem mI (hB:Base P K F T){bl:Nat}{EL:List (List AV)}{d d':SD}{t:SH}{k a b n m:Int}{it:ID}(hs:aH bl EL d t s)(hE:EL.length<=1000)(hap:Ap P K F k a b n m it d d') :
  bB P K (F 53) [.agg [.ptr (some ⟨bl,0,0⟩)],.agg<|evRow k a b n m it] s (λv s'=>v=iv 0/\aH bl (EL++[evRow k a b n m it]) d' t s'):=by
 refine hB.f53.cF (by simp) ?_
 unfold ZZ
 refine Wq<|Wa (.box rfl rfl) λb2=>Wa (.box rfl rfl) λb3=>Wv rfl<|Wn ?_
 refine Wq<|Wf rfl<|Wl rfl (.there .here) rfl rfl rfl<|Wl rfl .here rfl rfl rfl<|Ww<|Wz [.ptr (some ⟨bl,0,0⟩),.agg<|evRow k a b n m it] rfl rfl (zW hB (aH.bK (m:=[_,_]) hs) hE hap) ?_
 rintro w s2 ⟨rfl,h2⟩
 exact Wv rfl<|Wn<|We<|Wm (.tmp rfl .nil) ⟨rfl,h2⟩
theorem u5 (hB:Base P K F T){bf bl:Nat}{aZ bE:AV}{c0 c1 c2 c3 c4:Int}{EL:List (List AV)}{d d':SD}{t:SH}{a:Int}{b n m:Int}{it:ID}(hs:aH bl EL d t s)(hd:d.Small)(hf:Has bf (.r false [bu bl aZ c0 c1 c2 c3 c4 bE] 8) t)(hE:EL.length<=1000)
  (hlen:ilt (.ofNat d.ob.length) c0=true) (hap:Ap P K F 1 a b n m it d d') (hd':d'.Small) (YI:1<=d'.nx/\d'.nx<=1000000) :
  bB P K (F 15) [.ptr (some ⟨bf,0,0⟩),.agg<|evRow 1 a b n m it] s (λv s'=>v=iv (d'.nx-1)/\aH bl (EL++[evRow 1 a b n m it]) d' t s'):=by
 refine hB.f15.cF (by simp) ?_
 unfold WN
 refine Wq<|Wa (.box rfl rfl) λb3=>Wv rfl<|Wn ?_
 have gw:aH bl EL d ((b3,.r false [evRow 1 a b n m it] 13)::t) ((b3,.r false [evRow 1 a b n m it] 13)::s):=hs.cons
 refine Ws<|Wb<|Wq<|Wv rfl<|Wh (b:=false) rfl rfl rfl<|Wv rfl<|Wn<|Wd rfl (λh=>by cases h)<|λ_=>Ws<|WP.bD ?_
 refine(Dp (.faddr rfl)<|Dl rfl .nil (.load rfl .here rfl rfl rfl)<|Dp (.eql rfl rfl<|bb _ _)<|Dp (.mv rfl)<|Dy rfl rfl<|Dp (.mv rfl)<|Dy rfl rfl<|Dc .nil<|Wz [.ptr (some ⟨bf,0,0⟩)] rfl rfl (cz hB gw hd<|.there hf) ?_)
 rintro w s4 ⟨pM,pv,ov,lv,hv,gv,ev,fv,sv,wv,rfl,hR⟩
 have lo:lenOf ov=some d.ob.length:=by rw[hR.ob.lenOf];simp[fy]
 refine(Dy rfl rfl<|Dp (.fld rfl rfl)<|Dy rfl rfl<|Dp (.lenS rfl lo)<|Dy rfl rfl<|Dp (.mv rfl)<|Dy rfl rfl<|Dp (.nilchk rfl rfl)<|Dy rfl rfl<|Dp (.faddr rfl)<|Dy rfl rfl<|Dp (.faddr rfl)<|Dy rfl rfl<|WD.lk rfl .nil (.load rfl (pM.mem<|.there hf) rfl rfl rfl)<|Dy rfl rfl<|Dp (.arith rfl rfl rfl)<|Dp (.cV rfl rfl)<|Dp (.mv rfl)<|D0 .nil ?_ ?_)
 rotate_left
 ·intro o ho
  rw[List.mem_singleton.1 ho]
  refine⟨(λi hi=>nomatch hi),Nat.zero_le _,aa7 _,λk _ hk=>?_⟩
  rcases(by have:k<=1:=hk;omega:k=0\/k=1)with rfl|rfl
  ·exact⟨_,rfl,.load rfl (.there<|hs.mem hf) rfl rfl rfl⟩
  ·exact⟨_,rfl,.load rfl (pM.mem<|.there hf) rfl rfl rfl⟩
 refine Wd rfl (λh=>by rw[hlen]at h;cases h)<|λ_=>?_
 refine Ws<|WP.bD<|Dp (.mv rfl)<|Dp (.nilchk rfl rfl)<|Dp (.faddr rfl)<|Dl rfl .nil (.load rfl (pM.mem<|.there hf) rfl rfl rfl)<|Dl rfl .nil (.load rfl (pM.mem .here) rfl rfl rfl)<|Dc .nil<|Wz [.agg [.ptr (some ⟨bl,0,0⟩)],.agg<|evRow 1 a b n m it] rfl rfl (mI hB pM hE hap) ?_
 rintro w s5 ⟨rfl,tn⟩
 refine Dp (.eql rfl rfl<|bb _ _)<|Dp (.mv rfl)<|D0 .nil ?_<|λo h=>nomatch h
 refine Wd rfl fS<|λ_=>Wi ?_
 refine Ws<|Wq<|Wf rfl<|Wl rfl (tn.mem .here) rfl rfl rfl<|Wn<|Wb ?_
 refine Ws<|Wq<|Wh rfl rfl (bb _ _)<|Wv rfl<|Wn<|Wd rfl (λ_=>Wi ?_) Dz
 refine Wd rfl (λ_=>?_) Dz
 refine Wq<|Wv rfl<|Ww<|Wz [.ptr (some ⟨bf,0,0⟩)] rfl rfl (cz hB tn hd'<|.there hf) ?_
 rintro w s6 ⟨KL,pv,ov,lv,hv,gv,ev,fv,sv,wv,rfl,hR6⟩
 refine Wr (.fld rfl rfl)<|Wj rfl rfl (F0 YI.1<|by omega)<|Wv rfl<|Wn<|We<|Wm (.tmp rfl .nil) ⟨rfl,KL.tail⟩
@[reducible] def it0:ID:=⟨0,0,0,0,0,0⟩
def Kj:Po:=λ_ _ _=>False
theorem aH.first {bl:Nat}{EL:List (List AV)}{d:SD}{t s:SH}{p:Nat × HO}(h:aH bl EL d (p::t) s):∃s',s.Perm (p::s')/\aH bl EL d t s':=by
 obtain⟨sc,lv,pv,ov,eo,hv,gv,ev,fv,sv,wv,oL,nn,k1,k2,k3,k4⟩:=h
 exact⟨(bl,.r false [sc++([lv]++(d.cells pv ov eo hv gv ev fv sv wv++[]))] 51)::(oL++(nn++t)),cM λc w h0 h1 h2 hq=>by simp only[h1,h2,hq _ _ k1];omega,sc,lv,pv,ov,eo,hv,gv,ev,fv,sv,wv,oL,nn,.refl _,k2,k3,k4⟩
theorem abk {k:IntKind}{a b:Nat}(hb:0<b):binV .rem (.int k (.ofNat a)) (.int k (.ofNat b))=some (.int k (.ofNat (a%b))):=by
 cases b with
 | zero=>exact absurd hb<|Nat.lt_irrefl _
 | succ b=>
  cases k<;>simp only[binV,keq,aL]<;>rfl
def spine:Nat->Code->List Code × Code
 | 0,c=>([],c)
 | n+1,.seq a b=>((a::(spine n b).1),(spine n b).2)
 | _+1,c=>([],c)
theorem ug:∀(n:Nat)(c:Code),(spine n c).1.foldr .seq (spine n c).2=c:=by
 intro n
 induction n with
 | zero=>intro c;rfl
 | succ n ih=>
  intro c
  cases c with
  | seq a b=>show Code.seq a ((spine n b).1.foldr .seq (spine n b).2)=_;rw[ih b]
  | _=>rfl
noncomputable def RE (P:Program)(nt:Nat)(ih:bT)(cs:List Code)(k:Kt):Kt:=List.rec (motive:=λ_=>Kt) k (λc _ r e h=>(fk P nt 1000 c).run ih (λ_ _ _=>false) (λ_ _=>false) e h r) cs
end
section
variable [Sg]{P:Program}{K:Orc}{rd:Option Nat}{nt:Nat}{ih:bT}
theorem ye (hC:eL P K ih):∀(cs:List Code){k:Kt}{e:Env}{E:Tr AV}{h:FH}{H:Heap}{ds:List aD},cW nt e E->cj h H->xe h.fr ds rd->RE P nt ih cs k e h=true ->
  ∃E' H' ds' e' h',cW nt e' E'/\cj h' H'/\xe h'.fr ds' rd/\k e' h'=true/\∀(rest:Code)R,bt P K rd nt rest E' ds' H' R->bt P K rd nt (cs.foldr .seq rest) E ds H R:=by
 intro cs
 induction cs with
 | nil=>intro k e E h H ds hE hH hF hk;exact⟨E,H,ds,e,h,hE,hH,hF,hk,λ_ _ hr=>hr⟩
 | cons c cs ihs=>
  intro k e E h H ds hE hH hF hk
  obtain⟨m,x,E1,ds1,H1,e1,h1,k1,k2,k3,k4,k5⟩:=aae hC 1000 hE hH hF hk
  cases x with
  | normal=>
   obtain⟨E',H',ds',e',h',q1,q2,q3,q4,q5⟩:=ihs k2 k3 k4 k5
   exact⟨E',H',ds',e',h',q1,q2,q3,q4,λrest R hr=>bt.seq ⟨m,k1⟩<|q5 rest R hr⟩
  | ret=>cases k5
  | exit i=>cases k5
noncomputable def isA (v:V)(a:AV):Bool:=match av v with | some b=>dz b a | none=>false
theorem vD {v:V}{a b:AV}(h:VA v a)(hb:isA v b=true):a=b:=by
 unfold isA at hb
 split at hb
 ·rename_i c hc
  rw[eM h hc];exact oM hb
 ·cases hb
noncomputable def Fw (R:R V):Nat->List AV->Bool
 | _,[]=>true
 | j,a::l=>isA (atR j R) a&&Fw R (j+1) l
noncomputable def wx (rs:Ev.R (Ev.R V))(sz:Nat):Nat->List (List AV)->Bool
 | _,[]=>true
 | r,l::L=>Nat.beq l.length sz&&(Fw (atR r rs) 0 l&&wx rs sz (r+1) L)
noncomputable def Ks (h:FH)(b sz:Nat)(L:List (List AV)):Bool:=Nat.blt b 262144&&(Nat.blt b h.next&&(Nat.beq (ap b h).t 1&&(Nat.beq (ap b h).n L.length&&(Nat.beq (ap b h).sz sz&&wx (ap b h).rs sz 0 L))))
theorem Fy {R:Ev.R V}{row:List AV}(hr:∀i a,row[i]?=some a->VA (atR i R) a):∀(l:List AV)(j:Nat),Fw R j l=true->row.length=j+l.length->row.drop j=l:=by
 intro l
 induction l with
 | nil=>simp_all
 | cons a l ih=>
  intro j h hl
  obtain⟨h1,h2⟩:=(Bool.and_eq_true _ _).mp h
  rw[List.length_cons]at hl
  have hj:j<row.length:=by omega
  rw[List.drop_eq_getElem_cons hj,ih (j+1) h2<|by omega,vD (hr j _<|List.getElem?_eq_getElem hj) h1]
theorem AA {rs:Ev.R (Ev.R V)}{sz:Nat}{T:Tr (List AV)}:∀(L:List (List AV))(r:Nat),wx rs sz r L=true->(∀i,r<=i->i<r+L.length->∃row,T.get i=some row/\fQ sz (atR i rs) row) ->
  ∀(i:Nat)row,L[i]?=some row->T.get (r+i)=some row/\row.length=sz:=by
 intro L
 induction L with
 | nil=>grind
 | cons l L ih=>
  intro r h hT i row hi
  obtain⟨h1,h2⟩:=(Bool.and_eq_true _ _).mp h
  obtain⟨h2,h3⟩:=(Bool.and_eq_true _ _).mp h2
  rw[List.length_cons]at hT
  cases i with
  | zero=>
   obtain⟨row,e1,e2⟩:=hT r (Nat.le_refl _)<|by omega
   have h1:l.length=sz:=Nat.eq_of_beq_eq_true h1
   have:=Fy e2.cell l 0 h2 (by rw[e2.len,h1];omega)
   grind
  | succ i=>
   grind
theorem BB {h:FH}{H:Heap}(hH:cj h H){b sz:Nat}{L:List (List AV)}(hc:Ks h b sz L=true):b<H.next/\(HO.r false L sz).ok (H.get b):=by
 obtain⟨h1,hc⟩:=(Bool.and_eq_true _ _).mp hc
 obtain⟨h2,hc⟩:=(Bool.and_eq_true _ _).mp hc
 obtain⟨h3,hc⟩:=(Bool.and_eq_true _ _).mp hc
 obtain⟨h4,hc⟩:=(Bool.and_eq_true _ _).mp hc
 obtain⟨h5,hc⟩:=(Bool.and_eq_true _ _).mp hc
 have h1:b<262144:=bh.1 h1
 have h2:b<h.next:=bh.1 h2
 have h3:(ap b h).t=1:=Nat.eq_of_beq_eq_true h3
 have h4:(ap b h).n=L.length:=Nat.eq_of_beq_eq_true h4
 have h5:(ap b h).sz=sz:=Nat.eq_of_beq_eq_true h5
 refine⟨by rw[<- hH.next];exact h2,?_⟩
 obtain⟨T,e1,e2,e3,e4⟩:=(hH.block b h1).rows h3
 rw[h4,h5]at e1
 refine⟨T,e1,λi row hi=>?_⟩
 have:=AA L 0 hc (λi _ hi=>by
  have:=e4 i<|by omega
  rwa [h5]at this) i row hi
 grind
noncomputable def Du (h:FH):List (Nat × Nat × List (List AV))->Bool
 | []=>true
 | (b,sz,L)::r=>Ks h b sz L&&Du h r
def Dw (l:List (Nat × Nat × List (List AV))):SH:=l.map λp=>(p.1,.r false p.2.2 p.2.1)
theorem Dv {h:FH}{H:Heap}(hH:cj h H):∀{l:List (Nat × Nat × List (List AV))},Du h l=true->∀b o,(b,o)∈Dw l->b<H.next/\o.ok (H.get b):=by
 intro l
 induction l with
 | nil=>intro _ b o hb;cases hb
 | cons p l ih=>
  intro hc b o hb
  obtain⟨b1,sz,L⟩:=p
  obtain⟨h1,h2⟩:=(Bool.and_eq_true _ _).mp hc
  cases hb with
  | head=>exact BB hH h1
  | tail _ hb=>exact ih h2 b o hb
noncomputable def wI (e:Env):List (Nat × AV)->Bool
 | []=>true
 | (t,a)::r=>isA (atR t e) a&&wI e r
theorem AH {e:Env}{E:Tr AV}(hE:cW nt e E):∀{l:List (Nat × AV)},wI e l=true->(∀p∈l,p.1<nt)->∀t a,(t,a)∈l->E.get t=some a:=by
 intro l
 induction l with
 | nil=>grind
 | cons p l ih=>
  intro hc hn t a hb
  obtain⟨h1,h2⟩:=(Bool.and_eq_true _ _).mp hc
  cases hb with
  | head=>
   obtain⟨x,e1,e2⟩:=hE.slot t<|hn _<|List.mem_cons_self ..
   rw[e1,vD e2 h1]
  | tail _ hb=>exact ih h2 (λp hp=>hn p<|List.mem_cons_of_mem _ hp) t a hb
end
@[reducible] def pn (b n sz:Nat):AV:=.slice (some ⟨b,0,0⟩) n n true sz
section
variable {P:Program}{K:Orc}{F:Nat->FuncId}{T:Nat->TypeId}{l:Sl}{s:SH}
end
section
variable [Sg]{P:Program}{K:Orc}
theorem sU {nt:Nat}{args:List V}{as:List AV}(ha:VAs args as)(g1:nt<=4180)(q':as.length<=nt):∃e0,argsEnv nt as=some e0/\cW nt (Ba args 0 l5) e0:=by
 obtain⟨s0,hs0⟩:=i9 (f:=λ(s:Tr AV × Nat)(v:AV)=>some (s.1.put s.2 v,Nat.succ s.2)) (λb a=>⟨_,rfl⟩) as (aag nt,0)
 have iL:argsEnv nt as=some s0.1:=by unfold argsEnv;rw[hs0]
 refine⟨s0.1,iL,g1,λt ht=>?_⟩
 rw[argsEnv_get iL]
 cases hat:as[t]? with
 | some a=>
  refine⟨a,rfl,?_⟩
  have:=ha.row (o:=0) (r:=l5) (by omega) t a hat
  rwa [Nat.zero_add]at this
 | none=>
  refine⟨.undef,by simp only[if_pos ht],?_⟩
  have hge:as.length<=t:=List.getElem?_eq_none_iff.1 hat
  rw[nC _ _ _ _ (by rw[ha.length];omega) (by omega),dif_neg (by rw[ha.length];omega)]
  show VA (atR t<|AB vU) .undef
  rw[qD]
  exact VA.undef
end
section
variable [Sg]{P:Program}{K:Orc}{F:Nat->FuncId}{T:Nat->TypeId}
end
@[reducible] noncomputable def vu:Heap:=⟨.lf,0⟩
theorem np (b:Nat):vu.get b=none:=by simp[Heap.get,Tr.get]
theorem gW.anywhere {P:Program}{f:FuncId}{args:List AV}{v:AV}(h:gW P f args vu v vu)(ha:∀ρ,AV.rens ρ args=args)(hv:∀ρ,v.ren ρ=v)(Hb:Heap):gW P f args Hb v Hb:=by
 refine⟨λ{X w0 g w xs} hH hx=>?_⟩
 have top:∀b,Hb.next<=b->Hb.get b=none:=λb hb=>hH.lC hb
 have hf:=h.frame (ρ:=λb=>Hb.next+b) (Hb:=Hb) (Gh:=Hb) ⟨λb hb=>absurd hb<|Nat.not_lt_zero _,λb hb=>absurd hb<|Nat.not_lt_zero _,λb _=>by grind,λb c e=>by grind⟩
  (λb _=>np b) ⟨λb=>by rw[np];grind,λ_ _=>rfl,by grind,Nat.le_refl _⟩
 rw[ha,hv]at hf
 exact hf.call hH hx
theorem fast_kcon [Sg]{P:Program}(hm:P.follows .mixedOrders=true){n:Nat}{f:FuncId}{args:List V}{as:List AV}{a:AV}(ha:VAs args as)(hb:AV.AZ 0 a)(h:((callF P noneKnown n).call f args fh0 λv _=>isA v a)=true):gW P f as vu a vu:=by
 obtain⟨O,hO,hF⟩:=lB P
 obtain⟨m,b,v,h',H',h1,h2,_,_,h5⟩:=(kX P (hF _) n).call ha Cd h
 have:=vD h2 h5
 subst this
 exact(gW.KV hm hO h1).eC ⟨rfl,Nat.zero_le _,λb o hb=>by rw[np]at hb;cases hb⟩ (Nat.le_refl _) hb
section
variable {P:Program}{K:Orc}{F:Nat->FuncId}{T:Nat->TypeId}{f:FuncId}{fn:Func}{c:Code}{R:iB}{n:Nat}

end
end Go.Ev
