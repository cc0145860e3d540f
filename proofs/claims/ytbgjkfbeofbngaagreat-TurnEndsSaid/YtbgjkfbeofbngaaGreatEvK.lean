/- Walks and rules. Conditions: none. -/
import Derived.Test.YtbgjkfbeofbngaaGreatEvJ
set_option linter.unusedVariables false
set_option linter.unusedSectionVars false
namespace Go.Ev
noncomputable section
section
variable {P:Program}{K:Orc}{rd:Option Nat}{nt:Nat}{l:Sl}{ds:List aD}{s:SH}{Q Qn Qr:Po}{Qe:Nat->Po}{F:Nat->FuncId}{T:Nat->TypeId}
variable {p:Nat}{Bu sG:AC}{R:AV->SH->Prop}
theorem AU {lb D:Nat}{a:AV}{asg body:Code}{pend:Option AX}(hp:p<nt)(ha:cc P nt asg=Bu)(hb:cc P nt body=sG)
  (h:WP P K (some lb) nt Bu ((p,a)::l) [] ((lb,.lp l nt [p] asg body .ready pend D)::s) (λl2 ds2 s2=>∃t2,s2.Perm ((lb,.lp l nt [p] asg body .ready pend D)::t2) /\
   WP P K (some lb) nt sG l2 ds2 ((lb,.lp l nt [p] asg body .busy pend D)::t2) (λ_ _ s3=>∃t3,s3.Perm ((lb,.lp l nt [p] asg body .busy pend D)::t3)/\R (.bool true) ((lb,.lp l nt [p] asg body .ready none D)::t3))
    (λi _ _ s3=>∃t3,s3.Perm ((lb,.lp l nt [p] asg body .busy pend D)::t3)/\R (.bool false) ((lb,.lp l nt [p] asg body .done (some<|.exit i) D)::t3))
    (λ_ _ s3=>∃t3,s3.Perm ((lb,.lp l nt [p] asg body .busy pend D)::t3)/\R (.bool false) ((lb,.lp l nt [p] asg body .done (some .ret) D)::t3))) (λ_=>Kj) Kj) :
  c6 P K (.yield lb) [a] ((lb,.lp l nt [p] asg body .ready pend D)::s) R:=by
 intro H0 H hH
 obtain⟨_,e,hg,he⟩:=hH.has .here
 obtain⟨x,e2,ds2,H2,l2,s2,⟨n1,r1⟩,k2,k3,k4⟩:=h asg ha H0 (e.put p a) H (he.put p a) hH
 cases x with
 | exit i=>exact k4.elim
 | ret=>exact k4.elim
 | normal=>
  obtain⟨t2,Gu,Ct⟩:=k4
  have k3:=k3.perm Gu
  obtain⟨_,e',KF,he'⟩:=k3.has .here
  have k5:Hp H0 ((lb,.lp l nt [p] asg body .busy pend D)::t2) (H2.put lb<|.loop e' nt [p] asg body .busy pend D):=k3.R0 .here (x:=some<|.loop e' nt [p] asg body .busy pend D) ⟨e',rfl,he'⟩ rfl<|λc=>Heap.aR _ _ _ _
  obtain⟨x,e3,ds3,H3,l3,s3,⟨n2,r2⟩,j2,j3,j4⟩:=Ct body hb H0 e2 _ k2 k5
  have fin:∀(st:LoopState)(pe:Option AX)(v:AV)(t3:SH),s3.Perm ((lb,.lp l nt [p] asg body .busy pend D)::t3)->R v ((lb,.lp l nt [p] asg body st pe D)::t3) ->
    (∀e4,H3.get lb=some (.loop e4 nt [p] asg body .busy pend D)->roundOf (ev P K<|max n1 n2) lb [a] H=some (v,H3.put lb<|.loop e4 nt [p] asg body st pe D))->∃v s' H',ki P K (.yield lb) [a] H v H'/\Hp H0 s' H'/\R v s':=by
   intro st pe v t3 UO hR hrun
   have j3:=j3.perm UO
   obtain⟨_,e4,Uv,Ur⟩:=j3.has .here
   exact⟨v,(lb,.lp l nt [p] asg body st pe D)::t3,_,⟨max n1 n2,hrun e4 Uv⟩,j3.R0 .here (x:=some<|.loop e4 nt [p] asg body st pe D) ⟨e4,rfl,Ur⟩ rfl<|λc=>Heap.aR _ _ _ _,hR⟩
  have q1:=(eP P K<|Nat.le_max_left n1 n2).code r1
  have q2:=(eP P K<|Nat.le_max_right n1 n2).code r2
  have hs:setAll [p] [a] nt e=some (e.put p a):=by
   unfold setAll
   simp only[show Nat.blt p nt=true from Nat.ble_eq_true_of_le hp]
  cases x with
  | normal=>
   obtain⟨t3,h1,h2⟩:=j4
   exact fin _ _ _ t3 h1 h2 λe4 h4=>by unfold roundOf;simp only[hg,hs,q1,KF,q2,h4]
  | exit i=>
   obtain⟨t3,h1,h2⟩:=j4
   exact fin _ _ _ t3 h1 h2 λe4 h4=>by unfold roundOf;simp only[hg,hs,q1,KF,q2,h4]
  | ret=>
   obtain⟨t3,h1,h2⟩:=j4
   exact fin _ _ _ t3 h1 h2 λe4 h4=>by unfold roundOf;simp only[hg,hs,q1,KF,q2,h4]
variable {H0 H:Heap}
theorem Hp.gone {b:Nat}{o:HO}(h:Hp H0 ((b,o)::s) H):Hp H0 ((b,.gone)::s) (H.del b):=
 h.R0 .here (x:=none) trivial rfl (λc=>Heap.gb _ _ _)
variable {f:FuncId}
theorem WP.rf {g:Operand}{ps0:List Nat}{first cap:List AV}(hg:opl l g=some (.func f first cap))
  (h:∀(asg body:Code),cc P nt asg=Bu->cc P nt body=sG->∀D lb,bB P K f (first++(.yield lb::cap)) ((lb,.lp l nt ps0 asg body .ready none D)::(D,.ob .deferred)::s) (λ_ s'=>∃l' st pend t',s'=(lb,.lp l' nt ps0 asg body st pend D)::t'/\st≠.busy /\
   (match pend with | none=>Qn l (.mark D::ds) ((lb,.gone)::t') | some .normal=>Qn l (.mark D::ds) ((lb,.gone)::t') | some (.exit i)=>Qe i l (.mark D::ds) ((lb,.gone)::t') | some .ret=>Qr l (.mark D::ds) ((lb,.gone)::t')))) :
  WP P K none nt (.rf g ps0 Bu sG) l ds s Qn Qe Qr:=by
 intro c0 hc H0 e H he hH
 cases c0 with
 | rangeFunc g0 ps asg body=>
  simp only[cc,AC.rf.injEq]at hc
  obtain⟨rfl,hps,ha,hb⟩:=hc
  have h1:Hp H0 ((H.next,.ob .deferred)::s) (H.new .deferred).2:=hH.alloc (o:=.deferred) rfl
  have h2:=h1.alloc (o':=.lp l nt ps0 asg body .ready none H.next) (o:=.loop e nt ps0 asg body .ready none H.next) ⟨e,rfl,he⟩
  obtain⟨v,s',H',⟨n,r1⟩,k2,l',st,pend,t',rfl,hst,k3⟩:=h asg body ha hb H.next _ H0 _ h2
  obtain⟨_,e4,hg4,_⟩:=k2.has .here
  have run:∀x,(match pend with | none=>AX.normal | some y=>y)=x->bt P K none nt (.rangeFunc g0 ps asg body) e ds H (.mk x e (.mark H.next::ds)<|H'.del (H.new .deferred).2.next):=by
   rintro x rfl
   refine⟨n+1,?_⟩
   rw[bO]
   have hnew:H.new .deferred=(H.next,(H.new .deferred).2):=rfl
   have hnew2:(H.new .deferred).2.new (.loop e nt ps0 asg body .ready none H.next)=((H.new .deferred).2.next,((H.new .deferred).2.new (.loop e nt ps0 asg body .ready none H.next)).2):=rfl
   have hcall:(ev P K n).call f (bI first<|.yield (H.new .deferred).2.next::cap) ((H.new .deferred).2.new (.loop e nt ps0 asg body .ready none H.next)).2=some (v,H'):=by rw[aN];exact r1
   unfold stepCode
   simp only[aG he hg,hps]
   show(match (ev P K n).call f (bI first<|.yield (H.new .deferred).2.next::cap) ((H.new .deferred).2.new (.loop e nt ps0 asg body .ready none H.next)).2 with
    | some (_,H3)=>(match H3.get (H.new .deferred).2.next with
     | some (.loop _ _ _ _ _ st pend _)=>(match st with
      | .busy=>none
      | _=>match pend with
       | none=>some<|CR.mk .normal e (.mark H.next::ds)<|H3.del (H.new .deferred).2.next
       | some x=>some (.mk x e (.mark H.next::ds) (H3.del (H.new .deferred).2.next)))
     | _=>none)
    | none=>none)=_
   simp only[hcall,hg4]
   cases st with
   | busy=>exact absurd rfl hst
   | ready=>cases pend<;>rfl
   | done=>cases pend<;>rfl
   | exhausted=>cases pend<;>rfl
  have k5:=k2.gone
  cases pend with
  | none=>exact⟨_,_,_,_,_,_,run _ rfl,he,k5,k3⟩
  | some x=>
   cases x with
   | normal=>exact⟨_,_,_,_,_,_,run _ rfl,he,k5,k3⟩
   | exit i=>exact⟨_,_,_,_,_,_,run _ rfl,he,k5,k3⟩
   | ret=>exact⟨_,_,_,_,_,_,run _ rfl,he,k5,k3⟩
 | region i ops d=>exact(db hc).elim
 | _=>simp[cc]at hc
def Bi (P:Program)(rs:List ResultVar)(R:AV->SH->Prop):Po:=λl ds s=>∃(Ds:List Nat)(t:SH),ds=Ds.map aD.mark/\s.Perm (Ds.map (λD=>(D,HO.ob .deferred))++t)/\∃vs,Rs P l (Ds.map (λD=>(D,HO.gone))++t) rs vs/\R (tupV vs) (Ds.map (λD=>(D,HO.gone))++t)
theorem yY:∀(Ds:List Nat)(t:SH)(H:Heap),Hp H0 (Ds.map (λD=>(D,HO.ob .deferred))++t) H->∃H',(∀ih:fP,runDefers ih (Ds.map aD.mark) H=some H')/\Hp H0 (Ds.map (λD=>(D,HO.gone))++t) H':=by
 intro Ds
 induction Ds with
 | nil=>intro t H h;exact⟨H,λ_=>rfl,h⟩
 | cons D Ds ih=>
  intro t H h
  have hg:H.get D=some .deferred:=(h.has .here).2
  have h1:Hp H0 ((D,.gone)::(Ds.map (λD=>(D,HO.ob .deferred))++t)) (H.del D):=Hp.gone h
  obtain⟨H',h2,h3⟩:=ih ((D,.gone)::t) (H.del D)<|h1.perm List.perm_middle.symm
  exact⟨H',λe=>by show(match H.get D with | some .deferred=>runDefers e (Ds.map aD.mark) (H.del D) | _=>none)=_;rw[hg];exact h2 e,h3.perm List.perm_middle⟩
variable {args:List AV}{v:AV}
theorem CallsTo.N1 {fn:Func} {c:Code}   {e0 e1:Tr AV} {x:AX} {H1 H2:Heap}  (hK:K f args H=none) (hf:P.funcs[f]?=some fn) (hb:fn.body=some c) (hn:(Nat.ble (aK args) fn.ntmps && !(fn.name == "runtime.NumGoroutine"))=true)
  (h0:argsEnv fn.ntmps args=some e0) (h:bt P K none fn.ntmps c e0 [] H (.mk x e1 ds H1)) (hx:x=.ret\/x=.normal) (hd:∀ih:fP,runDefers ih ds H1=some H2) (hr:(match aI (resultOf P e1 H2) fn.results.toList with | some [v]=>some v | some vs=>some (.tuple vs) | none=>none)=some v) :
  CallsTo P K f args H v H2:=by
 obtain⟨n,h⟩:=h
 refine⟨n+1,?_⟩
 show knownCall K f args H (stepCall P (ev P K n) f args H)=_
 unfold knownCall
 rw[hK]
 unfold stepCall
 simp only[hf,hb,hn,h0,h]
 have key:(match aI (resultOf P e1 H2) fn.results.toList with
   | some [v]=>some (v,H2)
   | some vs=>some (AV.tuple vs,H2)
   | none=>none)=some (v,H2):=by
  cases hl:aI (resultOf P e1 H2) fn.results.toList with
  | none=>rw[hl]at hr;cases hr
  | some l=>
   rw[hl]at hr
   match l,hr with
   | [],hr=>cases hr;rfl
   | [_],hr=>cases hr;rfl
   | _::_::_,hr=>cases hr;rfl
 rcases hx with rfl|rfl<;>(simp only[hd];exact key)
theorem FnK.ZH {rs:List ResultVar}{ac:AC}(hF:FnK P K f nt rs ac)(h:WP P K none nt ac (sl0 0 args) [] s (Bi P rs R) (λ_ _ _ _=>False) (Bi P rs R))(ha:args.length<=nt:=by simp):bB P K f args s R:=by
 obtain⟨fn,hf,hc,rfl,rfl,h5⟩:=hF.ex
 have hn:(Nat.ble (aK args) fn.ntmps && !(fn.name == "runtime.NumGoroutine"))=true:=by
  rw[h5,ar,Nat.ble_eq_true_of_le ha];rfl
 intro H0 H hH
 obtain⟨c,hb,hc⟩:∃c,fn.body=some c/\cc P fn.ntmps c=ac:=by
  cases hb:fn.body with
  | none=>rw[hb]at hc;cases hc
  | some c=>rw[hb]at hc;exact⟨c,rfl,Option.some.inj hc⟩
 obtain⟨e0,h0,h1⟩:=mG fn.ntmps args
 have he:En (sl0 0 args) e0:=λi v hi=>by
  obtain⟨_,h2⟩:=yp args 0 i v hi
  exact h1 i v h2
 obtain⟨x,e',ds',H',l',s',k1,k2,k3,k4⟩:=h c hc H0 e0 H he hH
 have key:∀x,(x=.ret\/x=.normal)->bt P K none fn.ntmps c e0 [] H (.mk x e' ds' H')->Bi P fn.results.toList R l' ds' s'->∃v s' H',CallsTo P K f args H v H'/\Hp H0 s' H'/\R v s':=by
  rintro x hx k1 ⟨Ds,t,rfl,hp,vs,k5,k6⟩
  obtain⟨H2,hd,k7⟩:=yY Ds t H'<|k3.perm hp
  refine⟨tupV vs,_,H2,CallsTo.N1 (hF.k _ H) hf hb hn h0 k1 hx hd ?_,k7,k6⟩
  rw[k5.ok k2 k7]
  match vs with
  | []=>rfl
  | [_]=>rfl
  | _::_::_=>rfl
 cases x with
 | normal=>exact key _ (.inr rfl) k1 k4
 | ret=>exact key _ (.inl rfl) k1 k4
 | exit i=>exact k4.elim
variable {a b:Int}
theorem qM (h:a≠b):eqBy 20 .pi (iv a) (iv b)=some false:=by rw[cD];simp[h]
variable {o:OD}{bw i:Nat}{pv ov lv hv gv ev fv sv wv:AV}{id:Int}
theorem aay (hB:Base P K F T){d:SD}(hb:Has bw (.r false [d.cells pv ov lv hv gv ev fv sv wv] 25) s)(h:Src s 14 ov (fy d.ob))(hd:d.Small)(hi:d.find id=some i)(xG:d.ob[i]?=some o) :
  bB P K (F 231) [.ptr (some ⟨bw,0,0⟩),iv id] s (λw s'=>w=.bool (decide<|o.ci=2)/\∃m,s'=m++s):=by
 refine hB.f231.cF ?_
 have hil:i<d.ob.length:=(List.getElem?_eq_some_iff.1 xG).1
 refine Vk (k:=Ww<|Wc rfl rfl (lg hB (d:=d) h hd) ?_)
 rintro w _ ⟨rfl,m,rfl⟩
 rw[hi]
 refine Vk (k:=?_)
 obtain⟨bo,ro,no,co,so,WE,MO,rfl,IM,hno,hMo⟩:=h.at (i:=i)<|by simpa[fy]using hil
 have hrow:(fy d.ob)[i]?=some o.row:=by rw[fy,List.getElem?_map,xG];rfl
 refine Vk (k:=Wl rfl (.app IM) (hMo.trans hrow) rfl rfl<|Wy<|Wh rfl rfl (cD _ _)<|Wr (.eb rfl rfl)<|Wv rfl<|Wn ?_)
 exact We<|Wm (.tmp rfl .nil) ⟨rfl,m,rfl⟩
variable {fn:AV}{k n m:Int}{it:ID}
theorem aaj (hB:Base P K F T){d:SD}{t:SH}(hs:WH bw d t s)(hd:d.Small)(he:d.kQ)(k13:k≠13)(k16:k≠16)(k18:k≠18)(k26:k≠26)(hp:p<d.pl.length) :
  bB P K (F 203) [.ptr (some ⟨bw,0,0⟩),.agg<|evRow k (.ofNat p) b n m it,.agg [.bool true,.bool false,.bool false,fn]] s (λw s'=>w=iv 0/\WH bw d t s'):=by
 obtain⟨pv,ov,lv,hv,gv,ev,fv,sv,wv,nn,k1,k2⟩:=hs
 refine bB.perm k1.symm ?_
 refine hB.f203.cF ?_
 refine Wq<|Wa (.box rfl rfl) λb4=>Wa (.box rfl rfl) λb5=>Wv rfl<|Wn<|Wq<|W (k:=Wn<|Ws<|Wb ?_)
 have hR:∀x y z,mD (x::y::z::(nn++t)) pv ov lv hv gv ev fv sv wv d:=λx y z=>k2.r λp hp=>by simp[hp]
 have lp:lenOf pv=some d.pl.length:=by rw[(hR (0,.bK) (0,.bK) (0,.bK)).pl.lenOf];simp[Am]
 refine Ws<|WP.bD<|Dp (.mv rfl)<|Dp (.nilchk rfl rfl)<|Dp (.faddr rfl)<|Dl rfl .nil (.load rfl (.there<|.there .here) rfl rfl rfl)<|Dc .nil<|Wc rfl rfl (qQ hB (hR _ _ _) ⟨he.lb,he.hd,he.gr,he.ex⟩) ?_
 rintro w _ ⟨rfl,m1,rfl⟩
 refine(Dp (.un rfl rfl)<|Dp (.mv rfl)<|Dy<|Dp (.faddr rfl)<|Dy<|Dl rfl .nil (.load rfl (.app .here) rfl rfl rfl)<|Dy<|Dp (.mv rfl)<|Dy<|Dp (.faddr rfl)<|Dy<|Dl rfl .nil (.load rfl (.app<|.there .here) rfl rfl rfl)<|Dy<|Dp (.arith rfl rfl rfl)<|Dy<|Dp (.mv rfl)<|Dy<|Dp (.faddr rfl)<|Dy<|Dl rfl .nil (.load rfl (.app<|.there .here) rfl rfl rfl)<|Dy<|Dp (.mv rfl)<|Dy<|Dp (.nilchk rfl rfl)<|Dy<|Dp (.faddr rfl)<|Dy<|Dp (.faddr rfl)<|Dy<|Dl rfl .nil (.load rfl (.app<|.there<|.there .here) rfl rfl rfl)<|Dy<|Dp (.lenS rfl lp)<|Dy<|Dp (.arith rfl rfl<|Cm hp)<|Dy<|Dp (.bj rfl rfl)<|Dy<|Dp (.eb rfl rfl)<|Dp (.bj rfl rfl)<|Dp (.mv rfl)<|D0 .nil ?_<|λo h=>nomatch h)
 refine Wd rfl fS<|λ_=>Ws<|Ws<|WP.bD<|Dp (.faddr rfl)<|Dl rfl .nil (.load rfl (.app .here) rfl rfl rfl)<|Dp (.mv rfl)<|Dk<|Dk<|Dk<|Dk<|Dk<|Dk<|WD.jm rfl rfl<|Dk<|Dp (.bj rfl rfl)<|Dp (.mv rfl)<|D0 .nil ?_<|λo h=>nomatch h
 refine Wd rfl fS<|λ_=>Wo<|W (k:=Wn ?_)
 refine Wd rfl fS<|λ_=>Wq<|Wf rfl<|Wl rfl (.app<|.there .here) rfl rfl rfl<|Wh rfl rfl (qM k13)<|Wv rfl<|Wk<|Wk<|Wk<|Wr (.bj rfl rfl)<|Wv rfl<|Wk<|Wk<|Wk<|Wk<|Wk<|Wr (.bj rfl rfl)<|Wv rfl<|Wn ?_
 refine Wd rfl fS<|λ_=>Ws<|Wq<|Wf rfl<|Wl rfl (.app<|.there .here) rfl rfl rfl<|Wh rfl rfl (qM k16)<|Wv rfl<|Wk<|Wk<|Wk<|Wk<|Wk<|Wk<|Wk<|Wk<|Wr (.bj rfl rfl)<|Wv rfl<|Wn ?_
 refine Wd rfl fS<|λ_=>Wo<|Wf rfl<|Wl rfl (.app<|.there .here) rfl rfl rfl<|Wh rfl rfl (qM k18)<|Wv rfl<|Wk<|Wk<|Wk<|Wk<|Wk<|Wk<|Wk<|Wk<|Wr (.bj rfl rfl)<|Wv rfl<|Wn ?_
 refine Wd rfl fS<|λ_=>Ws<|WP.bD<|Dp (.faddr rfl)<|Dl rfl .nil (.load rfl (.app<|.there .here) rfl rfl rfl)<|Dp (.eql rfl rfl<|qM k26)<|Dp (.mv rfl)<|Dk<|Dk<|Dk<|Dk<|Dk<|Dk<|Dk<|Dk<|Dk<|Dk<|Dk<|Dk<|WD.jm rfl rfl<|Dk<|Dp (.bj rfl rfl)<|Dp (.mv rfl)<|D0 .nil ?_<|λo h=>nomatch h
 refine Wd rfl fS<|λ_=>Wi<|Wq<|Wv rfl<|Wn<|We<|Wm (.tmp rfl .nil) ?_
 refine⟨rfl,?_⟩
 have fin:∀x y,WH bw d t (m1++(x::y::(bw,.r false [d.cells pv ov lv hv gv ev fv sv wv] 25)::(nn++t))):=λx y=>⟨pv,ov,lv,hv,gv,ev,fv,sv,wv,(m1++[x,y])++nn,uS,k2.bK⟩
 exact fin _ _
theorem Jh (hB:Base P K F T){d:SD}{t:SH}(hs:WH bw d t s)(hd:d.Small)(he:d.kQ)(k13:k≠13)(k16:k≠16)(k18:k≠18)(k26:k≠26)(hi:d.find a=some i) :
  bB P K (F 203) [.ptr (some ⟨bw,0,0⟩),.agg<|evRow k a b n m it,.agg [.bool false,.bool true,.bool false,fn]] s (λw s'=>w=iv 0/\WH bw d t s'):=by
 obtain⟨pv,ov,lv,hv,gv,ev,fv,sv,wv,nn,k1,k2⟩:=hs
 refine bB.perm k1.symm ?_
 refine hB.f203.cF ?_
 refine Wq<|Wa (.box rfl rfl) λb4=>Wa (.box rfl rfl) λb5=>Wv rfl<|Wn<|Wq<|W (k:=Wn<|Ws<|Wb ?_)
 have hR:∀x y z,mD (x::y::z::(nn++t)) pv ov lv hv gv ev fv sv wv d:=λx y z=>k2.r λp hp=>by simp[hp]
 refine Ws<|WP.bD<|Dp (.mv rfl)<|Dp (.nilchk rfl rfl)<|Dp (.faddr rfl)<|Dl rfl .nil (.load rfl (.there<|.there .here) rfl rfl rfl)<|Dc .nil<|Wc rfl rfl (qQ hB (hR _ _ _) ⟨he.lb,he.hd,he.gr,he.ex⟩) ?_
 rintro w _ ⟨rfl,m1,rfl⟩
 refine(Dp (.un rfl rfl)<|Dp (.mv rfl)<|Dy<|Dp (.faddr rfl)<|Dy<|Dl rfl .nil (.load rfl (.app .here) rfl rfl rfl)<|Dy<|Dp (.mv rfl)<|Dk<|Dk<|Dk<|Dk<|WD.kg rfl rfl<|WD.kg rfl rfl<|WD.kg rfl rfl<|WD.kg rfl rfl<|WD.kg rfl rfl<|WD.kg rfl rfl<|WD.kg rfl rfl<|WD.kg rfl rfl<|WD.kg rfl rfl<|Dk<|Dy<|Dp (.bj rfl rfl)<|Dp (.bj rfl rfl)<|Dp (.mv rfl)<|D0 .nil ?_<|λo h=>nomatch h)
 refine Wd rfl fS<|λ_=>Ws<|Ws<|WP.bD<|Dp (.faddr rfl)<|Dl rfl .nil (.load rfl (.app .here) rfl rfl rfl)<|Dp (.mv rfl)<|Dy<|Dp (.mv rfl)<|Dy<|Dp (.nilchk rfl rfl)<|Dy<|Dp (.faddr rfl)<|Dy<|Dl rfl .nil (.load rfl (.app<|.there<|.there .here) rfl rfl rfl)<|Dy<|Dp (.faddr rfl)<|Dy<|Dl rfl .nil (.load rfl (.app<|.there .here) rfl rfl rfl)<|Dy<|Dc .nil<|Wc rfl rfl (lg hB (d:=d) ((k2.r (s:=_) λp hp=>by simp[hp]).ob) hd) ?_
 rintro w _ ⟨rfl,m2,rfl⟩
 rw[hi]
 refine(Dy<|Dp (.arith rfl rfl rfl)<|Dp (.eb rfl rfl)<|Dp (.mv rfl)<|D0 .nil ?_<|λo h=>nomatch h)
 refine Wd rfl fS<|λ_=>Wo<|W (k:=Wn ?_)
 refine Wd rfl fS<|λ_=>Wq<|Wf rfl<|Wl rfl (.app<|.app<|.there .here) rfl rfl rfl<|Wh rfl rfl (qM k13)<|Wv rfl<|Wk<|Wk<|Wk<|Wr (.bj rfl rfl)<|Wv rfl<|Wk<|Wk<|Wk<|Wk<|Wk<|Wr (.bj rfl rfl)<|Wv rfl<|Wn ?_
 refine Wd rfl fS<|λ_=>Ws<|Wq<|Wf rfl<|Wl rfl (.app<|.app<|.there .here) rfl rfl rfl<|Wh rfl rfl (qM k16)<|Wv rfl<|Wk<|Wk<|Wk<|Wk<|Wk<|Wk<|Wk<|Wk<|Wr (.bj rfl rfl)<|Wv rfl<|Wn ?_
 refine Wd rfl fS<|λ_=>Wo<|Wf rfl<|Wl rfl (.app<|.app<|.there .here) rfl rfl rfl<|Wh rfl rfl (qM k18)<|Wv rfl<|Wk<|Wk<|Wk<|Wk<|Wk<|Wk<|Wk<|Wk<|Wr (.bj rfl rfl)<|Wv rfl<|Wn ?_
 refine Wd rfl fS<|λ_=>Ws<|WP.bD<|Dp (.faddr rfl)<|Dl rfl .nil (.load rfl (.app<|.app<|.there .here) rfl rfl rfl)<|Dp (.eql rfl rfl<|qM k26)<|Dp (.mv rfl)<|Dk<|Dk<|Dk<|Dk<|Dk<|Dk<|Dk<|Dk<|Dk<|Dk<|Dk<|Dk<|WD.jm rfl rfl<|Dk<|Dp (.bj rfl rfl)<|Dp (.mv rfl)<|D0 .nil ?_<|λo h=>nomatch h
 refine Wd rfl fS<|λ_=>Wi<|Wq<|Wv rfl<|Wn<|We<|Wm (.tmp rfl .nil) ?_
 refine⟨rfl,?_⟩
 have fin:∀x y,WH bw d t (m2++(m1++(x::y::(bw,.r false [d.cells pv ov lv hv gv ev fv sv wv] 25)::(nn++t)))):=λx y=>⟨pv,ov,lv,hv,gv,ev,fv,sv,wv,(m2++(m1++[x,y]))++nn,uS,k2.bK⟩
 exact fin _ _
theorem afl (hB:Base P K F T){d:SD}{t:SH}(hs:WH bw d t s)(hd:d.Small)(he:d.kQ)(k13:k≠13)(k16:k≠16)(k18:k≠18)(k26:k≠26)(hi:d.find a=some i)(xG:d.ob[i]?=some o)(hz:o.ci=2) :
  bB P K (F 203) [.ptr (some ⟨bw,0,0⟩),.agg<|evRow k a b n m it,.agg [.bool false,.bool true,.bool true,fn]] s (λw s'=>w=iv 0/\WH bw d t s'):=by
 obtain⟨pv,ov,lv,hv,gv,ev,fv,sv,wv,nn,k1,k2⟩:=hs
 refine bB.perm k1.symm ?_
 refine hB.f203.cF ?_
 refine Wq<|Wa (.box rfl rfl) λb4=>Wa (.box rfl rfl) λb5=>Wv rfl<|Wn<|Wq<|W (k:=Wn<|Ws<|Wb ?_)
 have hR:∀x y z,mD (x::y::z::(nn++t)) pv ov lv hv gv ev fv sv wv d:=λx y z=>k2.r λp hp=>by simp[hp]
 refine Ws<|WP.bD<|Dp (.mv rfl)<|Dp (.nilchk rfl rfl)<|Dp (.faddr rfl)<|Dl rfl .nil (.load rfl (.there<|.there .here) rfl rfl rfl)<|Dc .nil<|Wc rfl rfl (qQ hB (hR _ _ _) ⟨he.lb,he.hd,he.gr,he.ex⟩) ?_
 rintro w _ ⟨rfl,m1,rfl⟩
 refine(Dp (.un rfl rfl)<|Dp (.mv rfl)<|Dy<|Dp (.faddr rfl)<|Dy<|Dl rfl .nil (.load rfl (.app .here) rfl rfl rfl)<|Dy<|Dp (.mv rfl)<|Dk<|Dk<|Dk<|Dk<|WD.kg rfl rfl<|WD.kg rfl rfl<|WD.kg rfl rfl<|WD.kg rfl rfl<|WD.kg rfl rfl<|WD.kg rfl rfl<|WD.kg rfl rfl<|WD.kg rfl rfl<|WD.kg rfl rfl<|Dk<|Dy<|Dp (.bj rfl rfl)<|Dp (.bj rfl rfl)<|Dp (.mv rfl)<|D0 .nil ?_<|λo h=>nomatch h)
 refine Wd rfl fS<|λ_=>Ws<|Ws<|WP.bD<|Dp (.faddr rfl)<|Dl rfl .nil (.load rfl (.app .here) rfl rfl rfl)<|Dp (.mv rfl)<|Dy<|Dp (.mv rfl)<|Dy<|Dp (.nilchk rfl rfl)<|Dy<|Dp (.faddr rfl)<|Dy<|Dl rfl .nil (.load rfl (.app<|.there<|.there .here) rfl rfl rfl)<|Dy<|Dp (.faddr rfl)<|Dy<|Dl rfl .nil (.load rfl (.app<|.there .here) rfl rfl rfl)<|Dy<|Dc .nil<|Wc rfl rfl (lg hB (d:=d) ((k2.r (s:=_) λp hp=>by simp[hp]).ob) hd) ?_
 rintro w _ ⟨rfl,m2,rfl⟩
 rw[hi]
 refine(Dy<|Dp (.arith rfl rfl rfl)<|Dp (.eb rfl rfl)<|Dp (.mv rfl)<|D0 .nil ?_<|λo h=>nomatch h)
 refine Wd rfl fS<|λ_=>Wo<|Wf rfl<|Wl rfl (.app<|.app .here) rfl rfl rfl<|Wv rfl<|Wy<|Wv rfl<|Wy<|Wf rfl<|Wy<|Wl rfl (.app<|.app<|.there .here) rfl rfl rfl<|Wy<|Ww<|Wc rfl rfl (aay hB (d:=d) (.app<|.app<|.there<|.there .here) ((k2.r (s:=_) λp hp=>by simp[hp]).ob) hd hi xG) ?_
 rintro w _ ⟨rfl,m3,rfl⟩
 rw[show decide (o.ci=2)=true from decide_eq_true hz]
 refine(Wy<|Wr (.un rfl rfl)<|Wr (.eb rfl rfl)<|Wv rfl<|Wn ?_)
 refine Wd rfl fS<|λ_=>Wq<|Wf rfl<|Wl rfl (.app<|.app<|.app<|.there .here) rfl rfl rfl<|Wh rfl rfl (qM k13)<|Wv rfl<|Wk<|Wk<|Wk<|Wr (.bj rfl rfl)<|Wv rfl<|Wk<|Wk<|Wk<|Wk<|Wk<|Wr (.bj rfl rfl)<|Wv rfl<|Wn<|Wd rfl fS<|λ_=>Ws<|Wq<|Wf rfl<|Wl rfl (.app<|.app<|.app<|.there .here) rfl rfl rfl<|Wh rfl rfl (qM k16)<|Wv rfl<|Wk<|Wk<|Wk<|Wk<|Wk<|Wk<|Wk<|Wk<|Wr (.bj rfl rfl)<|Wv rfl<|Wn<|Wd rfl fS<|λ_=>Wo<|Wf rfl<|Wl rfl (.app<|.app<|.app<|.there .here) rfl rfl rfl<|Wh rfl rfl (qM k18)<|Wv rfl<|Wk<|Wk<|Wk<|Wk<|Wk<|Wk<|Wk<|Wk<|Wr (.bj rfl rfl)<|Wv rfl<|Wn<|Wd rfl fS<|λ_=>Ws<|WP.bD<|Dp (.faddr rfl)<|Dl rfl .nil (.load rfl (.app<|.app<|.app<|.there .here) rfl rfl rfl)<|Dp (.eql rfl rfl<|qM k26)<|Dp (.mv rfl)<|Dk<|Dk<|Dk<|Dk<|Dk<|Dk<|Dk<|Dk<|Dk<|Dk<|Dk<|Dk<|WD.jm rfl rfl<|Dk<|Dp (.bj rfl rfl)<|Dp (.mv rfl)<|D0 .nil ?_<|λo h=>nomatch h
 refine Wd rfl fS<|λ_=>Wi<|Wq<|Wv rfl<|Wn<|We<|Wm (.tmp rfl .nil) ?_
 refine⟨rfl,?_⟩
 have fin:∀x y,WH bw d t (m3++(m2++(m1++(x::y::(bw,.r false [d.cells pv ov lv hv gv ev fv sv wv] 25)::(nn++t))))):=λx y=>⟨pv,ov,lv,hv,gv,ev,fv,sv,wv,(m3++(m2++(m1++[x,y])))++nn,uS,k2.bK⟩
 exact fin _ _
theorem abD (hB:Base P K F T){d:SD}{t:SH}(hs:WH bw d t s)(hd:d.Small)(he:d.kQ)(k13:k≠13)(k16:k≠16)(k18:k≠18)(k26:k≠26) :
  bB P K (F 203) [.ptr (some ⟨bw,0,0⟩),.agg<|evRow k a b n m it,.agg [.bool false,.bool false,.bool false,fn]] s (λw s'=>w=iv 0/\WH bw d t s'):=by
 obtain⟨pv,ov,lv,hv,gv,ev,fv,sv,wv,nn,k1,k2⟩:=hs
 refine bB.perm k1.symm ?_
 refine hB.f203.cF ?_
 refine Wq<|Wa (.box rfl rfl) λb4=>Wa (.box rfl rfl) λb5=>Wv rfl<|Wn<|Wq<|W (k:=Wn<|Ws<|Wb ?_)
 have hR:∀x y z,mD (x::y::z::(nn++t)) pv ov lv hv gv ev fv sv wv d:=λx y z=>k2.r λp hp=>by simp[hp]
 refine Ws<|WP.bD<|Dp (.mv rfl)<|Dp (.nilchk rfl rfl)<|Dp (.faddr rfl)<|Dl rfl .nil (.load rfl (.there<|.there .here) rfl rfl rfl)<|Dc .nil<|Wc rfl rfl (qQ hB (hR _ _ _) ⟨he.lb,he.hd,he.gr,he.ex⟩) ?_
 rintro w _ ⟨rfl,m1,rfl⟩
 refine(Dp (.un rfl rfl)<|Dp (.mv rfl)<|Dy<|Dp (.faddr rfl)<|Dy<|Dl rfl .nil (.load rfl (.app .here) rfl rfl rfl)<|Dy<|Dp (.mv rfl)<|Dk<|Dk<|Dk<|Dk<|WD.kg rfl rfl<|WD.kg rfl rfl<|WD.kg rfl rfl<|WD.kg rfl rfl<|WD.kg rfl rfl<|WD.kg rfl rfl<|WD.kg rfl rfl<|WD.kg rfl rfl<|WD.kg rfl rfl<|Dk<|Dy<|Dp (.bj rfl rfl)<|Dp (.bj rfl rfl)<|Dp (.mv rfl)<|D0 .nil ?_<|λo h=>nomatch h)
 refine Wd rfl fS<|λ_=>Ws<|Ws<|WP.bD<|Dp (.faddr rfl)<|Dl rfl .nil (.load rfl (.app .here) rfl rfl rfl)<|Dp (.mv rfl)<|Dk<|Dk<|Dk<|Dk<|Dk<|Dk<|WD.jm rfl rfl<|Dk<|Dp (.bj rfl rfl)<|Dp (.mv rfl)<|D0 .nil ?_<|λo h=>nomatch h
 refine Wd rfl fS<|λ_=>Wo<|W (k:=Wn ?_)
 refine Wd rfl fS<|λ_=>Wq<|Wf rfl<|Wl rfl (.app<|.there .here) rfl rfl rfl<|Wh rfl rfl (qM k13)<|Wv rfl<|Wk<|Wk<|Wk<|Wr (.bj rfl rfl)<|Wv rfl<|Wk<|Wk<|Wk<|Wk<|Wk<|Wr (.bj rfl rfl)<|Wv rfl<|Wn ?_
 refine Wd rfl fS<|λ_=>Ws<|Wq<|Wf rfl<|Wl rfl (.app<|.there .here) rfl rfl rfl<|Wh rfl rfl (qM k16)<|Wv rfl<|Wk<|Wk<|Wk<|Wk<|Wk<|Wk<|Wk<|Wk<|Wr (.bj rfl rfl)<|Wv rfl<|Wn ?_
 refine Wd rfl fS<|λ_=>Wo<|Wf rfl<|Wl rfl (.app<|.there .here) rfl rfl rfl<|Wh rfl rfl (qM k18)<|Wv rfl<|Wk<|Wk<|Wk<|Wk<|Wk<|Wk<|Wk<|Wk<|Wr (.bj rfl rfl)<|Wv rfl<|Wn ?_
 refine Wd rfl fS<|λ_=>Ws<|WP.bD<|Dp (.faddr rfl)<|Dl rfl .nil (.load rfl (.app<|.there .here) rfl rfl rfl)<|Dp (.eql rfl rfl<|qM k26)<|Dp (.mv rfl)<|Dk<|Dk<|Dk<|Dk<|Dk<|Dk<|Dk<|Dk<|Dk<|Dk<|Dk<|Dk<|WD.jm rfl rfl<|Dk<|Dp (.bj rfl rfl)<|Dp (.mv rfl)<|D0 .nil ?_<|λo h=>nomatch h
 refine Wd rfl fS<|λ_=>Wi<|Wq<|Wv rfl<|Wn<|We<|Wm (.tmp rfl .nil) ?_
 refine⟨rfl,?_⟩
 have fin:∀x y,WH bw d t (m1++(x::y::(bw,.r false [d.cells pv ov lv hv gv ev fv sv wv] 25)::(nn++t))):=λx y=>⟨pv,ov,lv,hv,gv,ev,fv,sv,wv,(m1++[x,y])++nn,uS,k2.bK⟩
 exact fin _ _
variable {s':SH}
theorem oY.has {b:Nat}{o o':HO}(h:oY b o o' s s'):Has b o s/\Has b o' s':=by
 obtain⟨x,y,rfl,rfl⟩:=h.split
 exact⟨.app .here,.app .here⟩
theorem iJ.ahW {n:SH}{d:SD}(h:iJ n pv ov lv hv gv ev fv sv wv d):∃o r,n.Perm (o++r)/\Gr 7 wv (CT d.wa) o/\∀wv' l' o',Gr 7 wv' (CT l') o'->iJ (o'++r) pv ov lv hv gv ev fv sv wv' { d with wa:=l' }:=by
 obtain⟨o1,o2,o3,o4,o5,o6,o7,o8,o9,j,hp,g1,g2,g3,g4,g5,g6,g7,g8,g9⟩:=h.ex
 refine⟨o9,o1++(o2++(o3++(o4++(o5++(o6++(o7++(o8++j))))))),ak λc w h0 h1 h2 hq=>by rw[hq _ _ hp];simp only[h1];omega,g9,λv' l' o' g'=>⟨o1,o2,o3,o4,o5,o6,o7,o8,o',j,ak λc w h0 h1 h2 hq=>by simp only[h1];omega,g1,g2,g3,g4,g5,g6,g7,g8,g'⟩⟩
theorem afg (hB:Base P K F T)(hI:BaseI P K F T){d:SD}{s2:SH}{k a b n m:Int}{it:ID}(hu:oY bw (.r false [d.cells pv ov lv hv gv ev fv sv wv] 25) (.r false [({ d with nx:=d.nx+1 }:SD).cells pv ov lv hv gv ev fv sv wv] 25) s s2)(h1:0<=d.nx/\d.nx<=1000000) :
  bB P K (F 275) [.ptr (some ⟨bw,0,0⟩),.agg<|evRow k a b n m it] s (λv s'=>v=.agg ({ it with id:=d.nx }:ID).row/\∃m,s'=m++s2):=by
 refine hI.f275.cF ?_
 refine Wq<|Wa (.box rfl rfl) λb3=>Wa (.alloc rfl) λb4=>Vk (k:=Ww<|Wc rfl rfl (wp hB) ?_)
 rintro w _ ⟨rfl,m1,rfl⟩
 refine Wa (.alloc rfl) λb5=>Ww<|Wt rfl rfl rfl .here rfl rfl<|Wn<|Wq<|Wv rfl<|Wr (.nilchk rfl rfl)<|Wf rfl<|Wf rfl<|Wl rfl (.there<|.app<|.there<|.there hu.has.1) rfl rfl rfl<|Wf rfl<|Ww<|Wt rfl rfl rfl .here rfl rfl<|Wn<|Wq<|Wv rfl<|Wr (.nilchk rfl rfl)<|Wf rfl<|Wf rfl<|Wl rfl (.there<|.app<|.there<|.there hu.has.1) rfl rfl rfl<|Wj rfl rfl (Km h1.1<|by omega)<|Wr (.nilchk rfl rfl)<|Wf rfl<|Wf rfl<|Ww<|Wt rfl rfl rfl (.there<|.app<|.there<|.there hu) rfl rfl<|Vk (k:=Ww<|Wt rfl rfl rfl (.there<|.app .here) rfl rfl<|Wn<|We<|Wm (.cell rfl hB.t48.1 hB.t48.2 (.inl rfl) (.there<|.app .here) rfl rfl rfl .nil) ?_)
 have fin:∀(p q r:Nat × HO),∃m,p::(m1++(q::r::s2))=m++s2:=λp q r=>⟨p::(m1++[q,r]),by simp⟩
 exact⟨rfl,fin _ _ _⟩
theorem adx (hB:Base P K F T)(hI:BaseI P K F T){bx:Nat}{d:SD}{t:SH}(hs:WH bw d t s)(hx:Has bx (.r false [[.ptr (some ⟨bw,0,0⟩)]] 1) t)(hd:d.Small)(h1:0<=d.nx/\d.nx<=1000000) :
  bB P K (F 276) [.agg (evRow k a b n m it),.ptr<|some ⟨bx,0,0⟩] s (λ_ s'=>WH bw { d with nx:=d.nx+1,wa:=d.wa++[{ it with id:=d.nx }] } t s'):=by
 obtain⟨pv,ov,lv,hv,gv,ev,fv,sv,wv,nn,k1,k2⟩:=hs
 refine bB.perm k1.symm ?_
 refine hI.f276.cF ?_
 refine Vk (k:=λb2=>Wn<|WP.fd λb'=>?_)
 refine WD.lk rfl .nil (.load rfl (.there<|.there<|.there<|.app hx) rfl rfl rfl)<|WD.lk rfl .nil (.load rfl (.there<|.there<|.there<|.app hx) rfl rfl rfl)<|Dp (.nilchk rfl rfl)<|Dp (.faddr rfl)<|Dp (.faddr rfl)<|WD.lk rfl .nil (.load rfl (.there<|.there .here) rfl rfl rfl)<|Dl rfl .nil (.load rfl (.there<|.there<|.there<|.app hx) rfl rfl rfl)<|Dl rfl .nil (.load rfl (.there .here) rfl rfl rfl)<|Dc .nil<|W1 (afg hB hI (.there<|.there .here) h1) ?_
 rintro w _ ⟨rfl,m1,rfl⟩
 obtain⟨oo,r,e1,e2,e3⟩:=k2.ahW
 refine WD.al (.bslice (L:=[({ it with id:=d.nx }:ID).row]) (fZ rfl rfl) rfl) rfl ?_
 refine Dc (.yes rfl rfl (.app .here) .nil)<|WS.pre (s':=[(b',.r false [({ it with id:=d.nx }:ID).row] 7),(b2,.r false [evRow k a b n m it] 13),(bw,.r false [({ d with nx:=d.nx+1 }:SD).cells pv ov lv hv gv ev fv sv wv] 25)]++(oo++(m1++(r++t)))) (ak λc w h0 h1 h2 hq=>by simp only[h1,h2,h0,hq _ _ e1];omega)<|WS.append_gr rfl e2 rfl (Src.all (L:=[({ it with id:=d.nx }:ID).row]) .here) (by omega) (by have:=hd.n1;simp only[CT,List.length_map];omega) (by omega) λv' o' j hG=>?_
 have pI:Gr 7 v' (CT<|d.wa++[{ it with id:=d.nx }]) o':=by
  have:CT (d.wa++[{ it with id:=d.nx }])=CT d.wa++[({ it with id:=d.nx }:ID).row]:=by simp[CT]
  rw[this];exact hG
 have k3:=e3 v' (d.wa++[{ it with id:=d.nx }]) o' pI
 refine Dp (.nilchk rfl rfl)<|Dp (.faddr rfl)<|Dp (.faddr rfl)<|Dc .nil<|Wt rfl rfl hG.part (.app<|.there<|.there .here) rfl rfl<|D0 .nil (Wm .nil ?_) ?_
 ·exact⟨pv,ov,lv,hv,gv,ev,fv,sv,v',[(b',.r false [({ it with id:=d.nx }:ID).row] 7),(b2,.r false [evRow k a b n m it] 13)]++(j++(m1++(o'++r))),
   (show List.Perm (o'++([(b',.r false [({ it with id:=d.nx }:ID).row] 7),(b2,.r false [evRow k a b n m it] 13),(bw,HO.r false [({ d with nx:=d.nx+1,wa:=d.wa++[{ it with id:=d.nx }] }:SD).cells pv ov lv hv gv ev fv sv v'] 25)]++(j++(m1++(r++t))))) _ from uS),
   (show iJ _ pv ov lv hv gv ev fv sv v' { d with nx:=d.nx+1,wa:=d.wa++[{ it with id:=d.nx }] } from⟨(((k3.bK (m:=m1)).bK (m:=j)).bK (m:=[(b',.r false [({ it with id:=d.nx }:ID).row] 7),(b2,.r false [evRow k a b n m it] 13)])).ex⟩)⟩
 ·intro o ho
  rcases List.mem_cons.1 ho with rfl|ho
  ·refine⟨(λi hi=>by simp only[List.mem_singleton]at hi;subst hi;exact(show bit 30 9=false from rfl)),Nat.zero_le _,Src.sameN (s:=[]++(oo++[])) e2.src _,λk _ hk=>?_⟩
   rcases B8 hk with rfl|rfl
   ·exact⟨_,rfl,.load rfl (.there<|.there .here) rfl rfl rfl⟩
   ·exact⟨_,rfl,.load rfl (.app<|.there<|.there .here) rfl rfl rfl⟩
  ·rcases List.mem_cons.1 ho with rfl | ho
   ·refine⟨(λi hi=>by simp only[List.mem_singleton]at hi;subst hi;exact(show bit 0 9=false from rfl)),Nat.zero_le _,ji _ _ _,λk _ hk=>?_⟩
    rcases B8 hk with rfl|rfl
    ·exact⟨_,rfl,.load rfl (.there<|.there<|.there<|.app hx) rfl rfl rfl⟩
    ·exact⟨_,rfl,.load rfl (.app<|.there<|.there<|.there<|.app hx) rfl rfl rfl⟩
   ·rw[List.mem_singleton.1 ho]
    refine⟨(λi hi=>by simp only[List.mem_singleton]at hi;subst hi;exact(show bit 0 9=false from rfl)),Nat.zero_le _,ji _ _ _,λk _ hk=>?_⟩
    rcases(by have:k<=2:=hk;omega:k=0\/k=1\/k=2)with rfl|rfl|rfl
    ·exact⟨_,rfl,.load rfl (.there<|.there<|.there<|.app hx) rfl rfl rfl⟩
    ·exact⟨_,rfl,.load rfl (.app<|.there<|.there<|.there<|.app hx) rfl rfl rfl⟩
    ·exact⟨_,rfl,.load rfl (.a4<|.app hx) rfl rfl rfl⟩
variable {d':SD}
theorem yH (hB:Base P K F T){k:Nat}{d:SD}(hd:d.Small)
  (lm:∀s,bB P K (F 201) [.agg (evRow (.ofNat k) a b n m it)] s<|λv s'=>v=iv 0/\s'=s)
  (UT:∀{bw:Nat}{s:SH},bB P K (F 202) [.ptr (some ⟨bw,0,0⟩),iv<|.ofNat k] s (λv s'=>∃m,s'=m++s/\RV F bw m k v))
  (hmay:∀{bw:Nat}{t s m':SH}{v:AV},RV F bw m' k v->WH bw d t s->bB P K (F 203) [.ptr (some ⟨bw,0,0⟩),.agg<|evRow (.ofNat k) a b n m it,v] s (λw s'=>w=iv 0/\WH bw d t s'))
  (A2:∀{bw:Nat}{t s:SH}{p o f:Bool}{fn:AV},RV F bw t k (.agg [.bool p,.bool o,.bool f,fn])->WH bw d t s->c6 P K fn [.agg (evRow (.ofNat k) a b n m it)] s (λ_ s'=>WH bw d' t s')):Ap P K F (.ofNat k) a b n m it d d':=by
 intro pv ov lv hv gv ev fv sv wv s h
 refine hB.f164.cF ?_
 refine Wq<|Wa (.box rfl rfl) λb2=>Wa (.box rfl rfl) λb3=>Wa (.alloc rfl) λb4=>Vk (k:=?_)
 have hR:mD ((b4,.r false [zY] 25)::(b3,.r false [evRow (.ofNat k) a b n m it] 13)::(b2,.r false [d.cells pv ov lv hv gv ev fv sv wv] 25)::s) pv ov lv hv gv ev fv sv wv d:=⟨h.pl.mono λp hp=>by simp[hp],h.ob.mono λp hp=>by simp[hp],h.lb.mono λp hp=>by simp[hp],h.hd.mono λp hp=>by simp[hp],h.gr.mono λp hp=>by simp[hp],h.ex.mono λp hp=>by simp[hp],h.fi.mono λp hp=>by simp[hp],h.st.mono λp hp=>by simp[hp],h.wa.mono λp hp=>by simp[hp]⟩
 refine Vk (k:=Ww<|W1 (mw hB hR hd) ?_)
 rintro w _ ⟨pv,ov,lv,hv,gv,ev,fv,sv,wv,n1,rfl,rfl,g1⟩
 refine Wr (.build rfl rfl)<|Wa (.box rfl rfl) λbw=>Wv rfl<|Wn ?_
 refine Wg (s':=(bw,.r false [d.cells pv ov lv hv gv ev fv sv wv] 25)::(n1++((b4,.r false [zY] 25)::(b3,.r false [evRow (.ofNat k) a b n m it] 13)::(b2,.r false [d.cells _ _ _ _ _ _ _ _ _] 25)::s))) (λ_ _ h=>h) (λ_ _ h=>h) ?_
 refine Vk (k:=Ww<|W1 (lm _) ?_)
 rintro w _ ⟨rfl,rfl⟩
 refine Vk (k:=?_)
 refine Vk (k:=Ww<|W1 UT ?_)
 rintro w _ ⟨m2,rfl,UZ⟩
 obtain⟨p,o,f,fn,rfl,hfn⟩:=UZ.agg
 refine Wa (.alloc rfl) λb8=>Ww<|Wt rfl rfl rfl .here rfl rfl<|Wn ?_
 have hW:∀y,WH bw d ((b8,.r false [[.bool p,.bool o,.bool f,fn]] 4)::(m2++((b4,.r false [zY] 25)::(b3,.r false [evRow (.ofNat k) a b n m it] 13)::(b2,y)::s)))
   ((b8,.r false [[.bool p,.bool o,.bool f,fn]] 4)::(m2++((bw,.r false [d.cells pv ov lv hv gv ev fv sv wv] 25)::(n1++((b4,.r false [zY] 25)::(b3,.r false [evRow (.ofNat k) a b n m it] 13)::(b2,y)::s))))):=λy=>
  ⟨pv,ov,lv,hv,gv,ev,fv,sv,wv,n1,uS,g1⟩
 refine Wg (s':=(b8,.r false [[.bool p,.bool o,.bool f,fn]] 4)::(m2++((bw,.r false [d.cells pv ov lv hv gv ev fv sv wv] 25)::(n1++((b4,.r false [zY] 25)::(b3,.r false [evRow (.ofNat k) a b n m it] 13)::(b2,.r false [d.cells _ _ _ _ _ _ _ _ _] 25)::s))))) (λ_ _ h=>h) (λ_ _ h=>h) ?_
 refine Vk (k:=Ww<|W1 (hmay UZ<|hW _) ?_)
 rintro w s5 ⟨rfl,XY⟩
 obtain⟨pv,ov,lv,hv,gv,ev,fv,sv,wv,n5,k5,g5⟩:=XY
 refine Wv rfl<|Wn<|Wq<|W (k:=Wn<|Wd rfl fS<|λ_=>Wi<|WP.pre k5 ?_)
 have XZ:∀t,WH bw d t ((bw,.r false [d.cells pv ov lv hv gv ev fv sv wv] 25)::(n5++t)):=λt=>⟨pv,ov,lv,hv,gv,ev,fv,sv,wv,n5,.refl _,g5⟩
 refine Vk (k:=Ww<|WS.call (fv:=fn) (vs:=[.agg (evRow (.ofNat k) a b n m it)]) rfl rfl (A2 (UZ.mono λb o hh=>.there<|.left hh)<|XZ _) ?_)
 rintro w s7 X0
 obtain⟨pv,ov,lv,hv,gv,ev,fv,sv,wv,n7,k7,g7⟩:=X0
 refine Wn<|WP.pre k7<|Vk (k:=Ww<|Wt rfl rfl rfl (.there<|.app<|.there<|.app .here) rfl rfl<|Vk (k:=We<|Wm (.cell rfl hB.t41.1 hB.t41.2 (.inl rfl) (.there<|.app<|.there<|.app .here) rfl rfl rfl<|.tmp rfl .nil) ?_))
 have fin:∀y1 y2 y3 y4 y5,iJ (y1::(n7++(y2::(m2++[y3,y4,y5])))) pv ov lv hv gv ev fv sv wv d':=λy1 y2 y3 y4 y5=>
  (g7.bK (m:=y1::y2::(m2++[y3,y4,y5]))).perm (uS)
 exact⟨pv,ov,lv,hv,gv,ev,fv,sv,wv,_,rfl,fN<|pull<|fN<|pull yh,fin _ _ _ _ _⟩
theorem ado (hB:Base P K F T)(hI:BaseI P K F T){d:SD}(hd:d.Small)(he:d.kQ)(h1:0<=d.nx/\d.nx<=1000000)(lm:∀s,bB P K (F 201) [.agg (evRow 17 a b n m it)] s (λv s'=>v=iv 0/\s'=s)) :
  Ap P K F 17 a b n m it d { d with nx:=d.nx+1,wa:=d.wa++[{ it with id:=d.nx }] }:=
 yH (k:=17) hB hd lm (aa4 hB<|by simp) (λ{_ _ _ _ v} hv hW=>by
  obtain⟨bx,rfl,_⟩:=(show km F _ _ v false false false 276 from hv)
  exact abD hB hW hd he (k:=17) (by omega) (by omega) (by omega) (by omega)) (λ{_ _ _ _ _ _ _} hv hW=>by
  obtain⟨bx,hv,hx⟩:=(show km F _ _ _ false false false 276 from hv)
  cases hv
  exact c6.func (adx hB hI hW hx hd h1))
theorem Cl (hB:Base P K F T){bf bl:Nat}{aZ bE:AV}{c0 c1 c2 c3 c4:Int}{EL:List (List AV)}{d:SD}{t:SH}(hs:aH bl EL d t s)(hd:d.Small)(hf:Has bf (.r false [bu bl aZ c0 c1 c2 c3 c4 bE] 8) t)(hE:EL.length<=5000)
  (k1:k≠1) (k2:k≠2) (k15:k≠15) (k17:k≠17) (hap:Ap P K F k a b n m it d d') :
  bB P K (F 15) [.ptr (some ⟨bf,0,0⟩),.agg<|evRow k a b n m it] s (λv s'=>v=iv 0/\aH bl (EL++[evRow k a b n m it]) d' t s'):=by
 refine hB.f15.cF ?_
 refine Vk (k:=λb3=>Vk (k:=?_))
 have gw:aH bl EL d ((b3,.r false [evRow k a b n m it] 13)::t) ((b3,.r false [evRow k a b n m it] 13)::s):=hs.cons
 refine Vk (k:=WP.bD ?_)
 refine(Dp (.faddr rfl)<|Dl rfl .nil (.load rfl .here rfl rfl rfl)<|Dp (.eql rfl rfl<|qM k1)<|Dp (.mv rfl)<|Dk<|WD.jm rfl rfl<|Dk<|Dk<|Dk<|Dk<|Dk<|Dk<|Dk<|Dk<|Dp (.bj rfl rfl)<|Dp (.mv rfl)<|D0 .nil ?_<|λo h=>nomatch h)
 refine Vk (k:=WP.bD<|Dp (.mv rfl)<|Dp (.nilchk rfl rfl)<|Dp (.faddr rfl)<|Dl rfl .nil (.load rfl (gw.mem<|.there hf) rfl rfl rfl)<|Dl rfl .nil (.load rfl (gw.mem .here) rfl rfl rfl)<|Dc .nil<|W1 (mI hB gw hE hap) ?_)
 rintro w s5 ⟨rfl,tn⟩
 refine Dp (.eql rfl rfl<|cD _ _)<|Dp (.mv rfl)<|D0 .nil ?_<|λo h=>nomatch h
 refine Wd rfl fS<|λ_=>Wi ?_
 refine Ws<|Wq<|W (k:=Wn<|Wb ?_)
 refine Ws<|Wq<|Wh rfl rfl (qM k1)<|Wv rfl<|Wn ?_
 refine Wd rfl fS<|λ_=>Wq<|Wh rfl rfl (qM k2)<|Wv rfl<|Wn ?_
 refine Wd rfl fS<|λ_=>Wq<|Wh rfl rfl (qM k15)<|Wv rfl<|Wn ?_
 refine Wd rfl fS<|λ_=>Wo<|Wh rfl rfl (qM k17)<|Wv rfl<|Wn ?_
 refine Wd rfl fS<|λ_=>Wi ?_
 refine Wq<|Wv rfl<|Wn<|We<|Wm (.tmp rfl .nil) ⟨rfl,tn.tail⟩
theorem abP (hB:Base P K F T){bf bl:Nat}{aZ bE:AV}{c0 c1 c2 c3 c4:Int}{EL:List (List AV)}{d:SD}{t:SH}(hs:aH bl EL d t s)(hd:d.Small)(hf:Has bf (.r false [bu bl aZ c0 c1 c2 c3 c4 bE] 8) t)(hE:EL.length<=5000)
  (hap:Ap P K F 17 a b n m it d d') (hd':d'.Small) (YI:1<=d'.nx/\d'.nx<=1000000) :
  bB P K (F 15) [.ptr (some ⟨bf,0,0⟩),.agg<|evRow 17 a b n m it] s (λv s'=>v=iv (d'.nx-1)/\aH bl (EL++[evRow 17 a b n m it]) d' t s'):=by
 refine hB.f15.cF ?_
 refine Vk (k:=λb3=>Vk (k:=?_))
 have gw:aH bl EL d ((b3,.r false [evRow 17 a b n m it] 13)::t) ((b3,.r false [evRow 17 a b n m it] 13)::s):=hs.cons
 refine Vk (k:=WP.bD ?_)
 refine(Dp (.faddr rfl)<|Dl rfl .nil (.load rfl .here rfl rfl rfl)<|Dp (.eql rfl rfl<|cD _ _)<|Dp (.mv rfl)<|Dk<|WD.jm rfl rfl<|Dk<|Dk<|Dk<|Dk<|Dk<|Dk<|Dk<|Dk<|Dp (.bj rfl rfl)<|Dp (.mv rfl)<|D0 .nil ?_<|λo h=>nomatch h)
 refine Vk (k:=WP.bD<|Dp (.mv rfl)<|Dp (.nilchk rfl rfl)<|Dp (.faddr rfl)<|Dl rfl .nil (.load rfl (gw.mem<|.there hf) rfl rfl rfl)<|Dl rfl .nil (.load rfl (gw.mem .here) rfl rfl rfl)<|Dc .nil<|W1 (mI hB gw hE hap) ?_)
 rintro w s5 ⟨rfl,tn⟩
 refine Dp (.eql rfl rfl<|cD _ _)<|Dp (.mv rfl)<|D0 .nil ?_<|λo h=>nomatch h
 refine Vk (k:=?_)
 refine Vk (k:=?_)
 refine Vk (k:=?_)
 refine Vk (k:=?_)
 refine Vk (k:=?_)
 refine Vk (k:=?_)
 refine Vk (k:=?_)
 refine Vk (k:=Ww<|W1 (cz hB tn hd'<|.there hf) ?_)
 rintro w s6 ⟨KL,pv,ov,lv,hv,gv,ev,fv,sv,wv,rfl,hR6⟩
 refine Wr (.fld rfl rfl)<|Wj rfl rfl (F0 YI.1<|by omega)<|Wv rfl<|Wn<|We<|Wm (.tmp rfl .nil) ⟨rfl,KL.tail⟩
theorem adw (hI:FnK P K (F 271) 19 [] (adi F T)){d:SD}{t:SH}(hs:WH bw d t s)(h1:0<=d.tu/\d.tu<=1000000) :
  bB P K (F 271) [.ptr (some ⟨bw,0,0⟩),.agg<|evRow k a b n m it] s (λ_ s'=>WH bw { d with tu:=d.tu+1,ac:=a } t s'):=by
 obtain⟨pv,ov,lv,hv,gv,ev,fv,sv,wv,nn,k1,k2⟩:=hs
 refine bB.perm k1.symm ?_
 refine hI.cF ?_
 unfold adi
 refine Wq<|Wa (.box rfl rfl) λb2=>Wn ?_
 refine Wq<|Wv rfl<|Wr (.nilchk rfl rfl)<|Wf rfl<|Wf rfl<|Wl rfl (.there .here) rfl rfl rfl<|Wj rfl rfl (Km h1.1<|by omega)<|Wr (.nilchk rfl rfl)<|Wf rfl<|Wf rfl<|Ww<|Wt rfl rfl rfl (.there .here) rfl rfl<|Wn ?_
 refine Wo<|Wv rfl<|Wf rfl<|Wl rfl .here rfl rfl rfl<|Wr (.nilchk rfl rfl)<|Wf rfl<|Wf rfl<|Ww<|Wt rfl rfl rfl (.there .here) rfl rfl<|Wn<|Wm .nil ?_
 exact⟨pv,ov,lv,hv,gv,ev,fv,sv,wv,[(b2,.r false [evRow k a b n m it] 13)]++nn,(show List.Perm ((b2,HO.r false [evRow k a b n m it] 13)::(bw,.r false [({ d with tu:=d.tu+1,ac:=a }:SD).cells pv ov lv hv gv ev fv sv wv] 25)::(nn++t)) _ from uS),(show iJ _ pv ov lv hv gv ev fv sv wv { d with tu:=d.tu+1,ac:=a } from⟨(k2.bK (m:=[_])).ex⟩)⟩
theorem abj (hB:Base P K F T)(hT:FnK P K (F 271) 19 [] (adi F T)){d:SD}(hd:d.Small)(he:d.kQ)(hp:p<d.pl.length)(h1:0<=d.tu/\d.tu<=1000000)(lm:∀s,bB P K (F 201) [.agg (evRow 20 (.ofNat p) b n m it)] s (λv s'=>v=iv 0/\s'=s)) :
  Ap P K F 20 (.ofNat p) b n m it d { d with tu:=d.tu+1,ac:=.ofNat p }:=
 yH (k:=20) hB hd lm (R2 hB<|by simp) (λ{_ _ _ _ v} hv hW=>by
  have hv:=(show uH F _ v true false false 271 from hv)
  subst hv
  exact aaj hB hW hd he (k:=20) (by omega) (by omega) (by omega) (by omega) hp) (λ{_ _ _ _ _ _ _} hv hW=>by
  have hv:=(show uH F _ _ true false false 271 from hv)
  cases hv
  exact c6.func (adw hT hW h1))
structure afw (P:Program)(F:Nat->FuncId)(tF:TypeId):Prop where
 do_:meth P tF "Do"=some (F 15)
 waits:meth P tF "Waits"=some (F 20)
 stack:meth P tF "Stack"=some (F 21)
 info:meth P tF "Info"=some (F 58)
 config:meth P tF "Config"=some (F 345)
 yd:meth P tF "Players"=some (F 347)
@[reducible] def dh (d:SD):List AV:=[iv d.tu,iv d.ac,iv d.ph,iv d.pr,iv d.pa,iv d.bl,iv d.ck,iv d.co,iv d.ca,nilS,.bool d.py,iv d.oc,iv d.wi]
variable {bf:Nat}{bl:Nat}{aZ:AV}{bE:AV}{c0:Int}{c1:Int}{c2:Int}{c3:Int}{c4:Int}{EL:List (List AV)}{d:SD}{t:SH}
theorem WO.pre {ol:List bS}(hp:s.Perm s')(h:WO P K ol l ds s' Q):WO P K ol l ds s Q:=
 λnt ops l0 h0 H0 e H he hH=>h nt ops l0 h0 H0 e H he<|hH.perm hp
variable {sz:Nat}
theorem Src.Ko {L:List (List AV)}(h:Src s sz v L)(hne:0<L.length):∃b r n c sl ro M,v=.slice (some ⟨b,r,0⟩) n c sl sz/\Has b (.r ro M sz) s/\L.length<=n/\∀i,i<L.length->M[r+i]?=L[i]?:=by
 cases h with
 | nil=>exact absurd hne<|Nat.lt_irrefl _
 | zero=>exact absurd hne<|Nat.lt_irrefl _
 | emp=>exact absurd hne<|Nat.lt_irrefl _
 | @rows b r n c sl ro M hb hn=>
  refine⟨b,r,n,c,sl,ro,M,rfl,hb,by rw[List.length_take];omega,λi hi=>?_⟩
  have hi2:i<n:=by rw[List.length_take]at hi;omega
  rw[List.getElem?_take,if_pos hi2,List.getElem?_drop]
theorem Ka (h:p<=1000):binV .sub (iv (.ofNat (p+1))) (iv (.ofNat 1))=some (iv (.ofNat p)):=by
 have:=F0 (n:=((p+1:Nat):Int)) (by omega)<|by omega
 rw[show(((p+1:Nat):Int)-1)=((p:Nat):Int)from by omega]at this
 exact this
theorem kM (hB:Base P K F T)(hG:BaseB P K F T)(ht:Ty P (T 128) 13)(hs:aH bl EL d t s)(hd:d.Small)(hf:Has bf (.r false [bu bl aZ c0 c1 c2 c3 c4 bE] 8) t) :
  bB P K (F 58) [.ptr (some ⟨bf,0,0⟩)] s (λv s'=>v=.agg (dh d)/\aH bl EL d t s'):=by
 refine hG.f58.cF ?_
 refine Vk (k:=λb2=>Vk (k:=Ww<|W1 (cz hB hs.cons hd<|.there hf) ?_))
 rintro w s2 ⟨dt,pv,ov,lv,hv,gv,ev,fv,sv,wv,rfl,hR⟩
 obtain⟨s3,hp,gw⟩:=dt.first
 refine WO.pre hp<|Wa (.alloc rfl) λb3=>Vk (k:=Wr (.build rfl rfl)<|Ww<|Wt rfl rfl rfl (.there .here) rfl rfl<|Wn<|We<|Wm (.cell rfl ht.1 ht.2 (.inl rfl) (.there .here) rfl rfl rfl .nil) ?_)
 exact⟨rfl,aH.bK (m:=[_,_]) gw⟩
theorem adt (hG:BaseB P K F T)(ht:Ty P (T 24) 5)(hf:Has bf (.r false [bu bl aZ c0 c1 c2 c3 c4 bE] 8) s) :
  bB P K (F 345) [.ptr (some ⟨bf,0,0⟩)] s (λv s'=>v=.agg [iv c0,iv c1,iv c2,iv c3,iv c4]/\∃m,s'=m++s):=by
 refine hG.f345.cF ?_
 refine Vk (k:=λb2=>Vk (k:=We<|Wm (.cell rfl ht.1 ht.2 (.inl rfl) .here rfl rfl rfl .nil) ?_))
 exact⟨rfl,[_],rfl⟩
open Go.Proofs
set_option maxRecDepth 100000
def ZU:CF:=NF (cd 17 19) _
def ZV:CF:=NF (cd 31 12) _
def ZW:CF:=NF (cd 13 21) _
def ZX:CF:=NF (cd 19 23) _
def Z9:CF:=NF (cd 61 34) _
def a90:CF:=NF (cd 77 62) _
def SP:CF:=NF (cd 139 51) _
def SQ:CF:=NF (cd 140 41) _
def SR:CF:=NF (cd 141 57) _
def SY:CF:=NF (cd 197 9) _
def SZ:CF:=NF (cd 198 6) _
def S0:CF:=NF (cd 199 16) _
def S3:CF:=NF (cd 200 51) _
def Lh:CF:=NF (cd 201 48) _
def WY:CF:=NF (cd 202 42) _
def S4:CF:=NF (cd 203 7) _
def S5:CF:=NF (cd 204 9) _
def S6:CF:=NF (cd 205 30) _
def S7:CF:=NF (cd 248 19) _
def S8:CF:=NF (cd 249 7) _
def W0:CF:=NF (cd 250 19) _
def Lk:CF:=NF (cd 251 63) _
def S9:CF:=NF (cd 275 13) _
def ak7:CF:=NF (cd 276 13) _
def ak8:CF:=NF (cd 277 16) _
def ak9:CF:=NF (cd 278 24) _
def Lo:CF:=NF (cd 279 53) _
def ae0:CF:=NF (cd 280 220) _
def alo:CF:=NF (cd 301 58) _
def alq:CF:=NF (cd 346 38) _
structure BaseC (P:Program)(K:Orc)(F:Nat->FuncId)(T:Nat->TypeId):Prop where
 f30:FnK P K (F 30) 19 [(.cell 4<|T 71),(.tmp 5)] (ZU F T)
 f36:FnK P K (F 36) 12 [(.tmp 6)] (ZV F T)
 f37:FnK P K (F 37) 21 [(.cell 4<|T 45),(.tmp 5)] (ZW F T)
 f43:FnK P K (F 43) 23 [(.cell 4<|T 107)] (ZX F T)
 f77:FnK P K (F 77) 34 [(.cell 6<|T 71),(.tmp 7)] (Z9 F T)
 f90:FnK P K (F 90) 62 [(.tmp 6)] (a90 F T)
 f121:FnK P K (F 121) 51 [(.cell 6<|T 45),(.cell 7<|T 99),(.tmp 8)] (SP F T)
 f122:FnK P K (F 122) 41 [(.cell 4<|T 71)] (SQ F T)
 f123:FnK P K (F 123) 57 [(.tmp 6)] (SR F T)
 f167:FnK P K (F 167) 9 [(.tmp 4)] (SY F T)
 f168:FnK P K (F 168) 6 [(.tmp 2)] (SZ F T)
 f169:FnK P K (F 169) 16 [(.cell 2<|T 264)] (S0 F T)
 f170:FnK P K (F 170) 51 [] (S3 F T)
 f171:FnK P K (F 171) 48 [(.tmp 6)] (Lh F T)
 f172:FnK P K (F 172) 42 [(.tmp 4)] (WY F T)
 f173:FnK P K (F 173) 7 [(.tmp 2)] (S4 F T)
 f174:FnK P K (F 174) 9 [] (S5 F T)
 f175:FnK P K (F 175) 30 [(.tmp 6)] (S6 F T)
 f204:FnK P K (F 204) 19 [(.tmp 4)] (S7 F T)
 f205:FnK P K (F 205) 7 [(.cell 0<|T 294)] (S8 F T)
 f206:FnK P K (F 206) 19 [(.tmp 4)] (W0 F T)
 f207:FnK P K (F 207) 63 [] (Lk F T)
 f237:FnK P K (F 237) 53 [] (Lo F T)
 f238:FnK P K (F 238) 220 [] (ae0 F T)
structure TyC (P:Program)(T:Nat->TypeId):Prop where
 t71:Ty P (T 71) 3
 t99:Ty P (T 99) 11
 t107:Ty P (T 107) 8
 t264:Ty P (T 264) 2
 t294:Ty P (T 294) 10
def rowOf (F:Nat->FuncId)(op:Int):List AV:=if op=1 then [iv 1,.func (F 233) [] []]else if op=2 then [iv 1,.func (F 234) [] []]else if op=3 then [iv 2,.func (F 235) [] []]else if op=4 then [iv 3,.func (F 236) [] []]else [iv 0,.nilFunc]
def cx (op:Int):Int:=if op=1 then 1 else if op=2 then 1 else if op=3 then 2 else if op=4 then 3 else 0
theorem jM (F:Nat->FuncId)(op:Int):∃fn,rowOf F op=[iv (cx op),fn]:=by
 unfold rowOf cx
 split
 ·exact⟨_,rfl⟩
 ·split
  ·exact⟨_,rfl⟩
  ·split
   ·exact⟨_,rfl⟩
   ·split<;>exact⟨_,rfl⟩
def K3 (F:Nat->FuncId):List AV:=[iv 0,.nilFunc,iv 1,.func (F 233) [] [],iv 1,.func (F 234) [] [],iv 2,.func (F 235) [] [],iv 3,.func (F 236) [] []]
structure ED where
 op:Int
 a:Int
 b:Int
 st:Int
@[reducible] def ED.row (e:ED):List AV:=[iv e.op,iv e.a,iv e.b,iv e.st]
def ey (l:List ED):List (List AV):=l.map ED.row
theorem JZ (hC:BaseC P K F T)(hT:TyC P T):bB P K (F 205) [] s (λv s'=>v=.agg (K3 F)/\∃m,s'=m++s):=by
 refine hC.f205.cF ?_
 refine Vk (k:=λb0=>Vk (k:=Wr (.build rfl rfl)<|Wr (.build rfl rfl)<|Wr (.build rfl rfl)<|Wr (.build rfl rfl)<|Wr (.build rfl rfl)<|Wr (.build rfl rfl)<|Vk (k:=We<|Wm (.cell rfl hT.t294.1 hT.t294.2 (.inl rfl) .here rfl rfl rfl .nil) ?_)))
 exact⟨rfl,[_],rfl⟩
theorem eT (a b:Int):binV .lss (iv a) (iv b)=some (.bool (decide (a<b))):=by show some (AV.bool (ilt a b))=_;rw[du]
theorem xA (a b:Int):binV .gtr (iv a) (iv b)=some (.bool (decide (b<a))):=by show some (AV.bool (ilt b a))=_;rw[du]
theorem th (a b:Int):binV .geq (iv a) (iv b)=some (.bool (!decide (a<b))):=by show some (AV.bool (!ilt a b))=_;rw[du]
variable {e:ED}
theorem lD (hC:BaseC P K F T)(hT:TyC P T):bB P K (F 169) [.agg e.row] s (λv s'=>v=.agg (rowOf F e.op)/\∃m,s'=m++s):=by
 refine hC.f169.cF ?_
 refine Wq<|Wa (.box rfl rfl) λb1=>Wa (.alloc rfl) λb2=>Wn ?_
 have out:¬(0<=e.op/\e.op<=4)->rowOf F e.op=[iv 0,.nilFunc]:=by
  intro h
  unfold rowOf
  rw[if_neg (by omega),if_neg<|by omega,if_neg<|by omega,if_neg<|by omega]
 have zero:∀{l2:Sl}(h2:lk l2 2=some (.ptr<|some ⟨b2,0,0⟩)),rowOf F e.op=[iv 0,.nilFunc]->WP P K none 16 (oN [zo 11 (.build [(za 0),.nilFunc] []),zn<|.store 2 2 11] .ret) l2 [] ((b2,.r false [[(.int .i64<|.ofNat 0),.nilFunc]] 2)::(b1,.r false [e.row] 4)::s) (λ_ _ _=>False) (λ_ _ _ _=>False) (Fin P [.cell 2 (T 264)] λv s'=>v=.agg (rowOf F e.op)/\∃m,s'=m++s):=by
  intro l2 h2 hr
  refine Wq<|Wr (.build rfl rfl)<|Ww<|Wt h2 rfl rfl .here rfl rfl<|Wn<|We<|Wm (.cell h2 hT.t264.1 hT.t264.2 (.inl rfl) .here rfl rfl rfl .nil) ?_
  exact⟨by rw[hr];rfl,[_,_],rfl⟩
 by_cases h0:e.op<0
 ·refine Ws (Wq<|Wf rfl<|Wl rfl (.there .here) rfl rfl rfl<|Wj rfl rfl (eT e.op 0) ?_)
  rw[decide_eq_true h0]
  refine W (k:=Wn ?_)
  exact Wd rfl (λ_=>(zero rfl<|out<|by omega).post (λ_ _ _ h=>h.elim) (λ_ _ _ _ h=>h) (λ_ _ _ h=>h))<|λh=>by cases h
 ·by_cases h4:4<e.op
  ·refine Ws (Wq<|Wf rfl<|Wl rfl (.there .here) rfl rfl rfl<|Wj rfl rfl (eT e.op 0) ?_)
   rw[decide_eq_false h0]
   refine Wv rfl<|Wy<|Wf rfl<|Wy<|Wl rfl (.there .here) rfl rfl rfl<|Wy<|Wj rfl rfl (xA e.op 4) ?_
   rw[decide_eq_true h4]
   refine Wr (.bj rfl rfl)<|Wn ?_
   exact Wd rfl (λ_=>(zero rfl<|out<|by omega).post (λ_ _ _ h=>h.elim) (λ_ _ _ _ h=>h) (λ_ _ _ h=>h))<|λh=>by cases h
  ·refine Ws (Wq<|Wf rfl<|Wl rfl (.there .here) rfl rfl rfl<|Wj rfl rfl (eT e.op 0) ?_)
   rw[decide_eq_false h0]
   refine Wv rfl<|Wy<|Wf rfl<|Wy<|Wl rfl (.there .here) rfl rfl rfl<|Wy<|Wj rfl rfl (xA e.op 4) ?_
   rw[decide_eq_false h4]
   refine Vk (k:=WP.bD<|Dc .nil<|W1 (JZ hC hT) ?_)
   rintro w _ ⟨rfl,m,rfl⟩
   have hidx:∃j:Nat,e.op=.ofNat j/\j<5/\part true (K3 F) (Nat.mul j 2) 2=some (.agg<|rowOf F e.op):=by
    rcases(by omega:e.op=0\/e.op=1\/e.op=2\/e.op=3\/e.op=4)with h|h|h|h|h<;>rw[h]
    ·exact⟨0,rfl,by omega,rfl⟩
    ·exact⟨1,rfl,by omega,rfl⟩
    ·exact⟨2,rfl,by omega,rfl⟩
    ·exact⟨3,rfl,by omega,rfl⟩
    ·exact⟨4,rfl,by omega,rfl⟩
   obtain⟨j,hj,hj5,hp⟩:=hidx
   obtain⟨fn,hfn⟩:=jM F e.op
   refine Dp (.faddr rfl)<|WD.lk rfl .nil (.load rfl (.app<|.there .here) rfl rfl rfl) ?_
   refine Dp (.idxA rfl (show lk _ 14=some (.int .i64<|.ofNat j)from by rw[<- hj];rfl) hj5 hp) ?_
   rw[hfn]
   refine Dc .nil<|Wt rfl rfl rfl (.app .here) rfl rfl<|D0 .nil ?_ ?_
   ·refine We (Wm (.cell rfl hT.t264.1 hT.t264.2 (.inl rfl) (.app .here) rfl rfl rfl .nil) ?_)
    exact⟨rfl,_,pull eW⟩
   ·intro o ho
    rw[List.mem_singleton.1 ho]
    refine⟨(λi hi=>nomatch hi),Nat.zero_le _,wC _,λk _ hk=>?_⟩
    rcases B8 hk with rfl|rfl
    ·exact⟨_,rfl,.load rfl (.there .here) rfl rfl rfl⟩
    ·exact⟨_,rfl,.load rfl (.app<|.there .here) rfl rfl rfl⟩
theorem wc (hC:BaseC P K F T)(hT:TyC P T):bB P K (F 173) [.agg e.row] s (λv s'=>v=.bool (decide (cx e.op=0))/\∃m,s'=m++s):=by
 refine hC.f173.cF ?_
 refine Vk (k:=λb1=>Vk (k:=Ww<|W1 (lD hC hT) ?_))
 rintro w _ ⟨rfl,m,rfl⟩
 obtain⟨fn,hfn⟩:=jM F e.op
 rw[hfn]
 refine Wr (.fld rfl rfl)<|Wh rfl rfl (cD _ _)<|Wv rfl<|Wn<|We<|Wm (.tmp rfl .nil) ?_
 exact⟨rfl,_,pull yg⟩
theorem Cf (hC:BaseC P K F T){b:OD}:bB P K (F 171) [iv 1,.agg o.row,.agg b.row] s (λv s'=>v=.bool (decide (o.aQ=b.aQ))/\∃m,s'=m++s):=by
 refine hC.f171.cF ?_
 refine Wq<|Wa (.box rfl rfl) λb4=>Wa (.box rfl rfl) λb5=>Wv rfl<|Wn<|Wq<|W (k:=Wn ?_)
 by_cases hc:o.aQ=b.aQ
 ·have Uk:eqBy 20 .pi (iv o.aQ) (iv b.aQ)=some true:=by rw[cD,decide_eq_true hc]
  rw[decide_eq_true hc]
  exact Wq<|Wv rfl<|Wh rfl rfl (cD _ _)<|Wv rfl<|Wk<|Wr (.bj rfl rfl)<|Wv rfl<|Wy<|Wv rfl<|Wy<|Wh rfl rfl (cD _ _)<|Wy<|Wv rfl<|Wy<|Wf rfl<|Wy<|Wl rfl (.there .here) rfl rfl rfl<|Wy<|Wf rfl<|Wy<|Wl rfl .here rfl rfl rfl<|Wy<|Wh rfl rfl Uk<|Wy<|Wr (.eb rfl rfl)<|Wr (.bj rfl rfl)<|Wv rfl<|Wk<|Wk<|Wr (.eb rfl rfl)<|Wv rfl<|Wk<|Wk<|Wk<|Wu rfl<|Wu rfl<|Wu rfl<|Wu rfl<|Wu rfl<|Wk<|Wk<|Wu rfl<|Wu rfl<|Wk<|Wr (.eb rfl rfl)<|Wv rfl<|Wn<|We<|Wm (.tmp rfl .nil) ⟨rfl,[_,_],rfl⟩
 ·have Uk:eqBy 20 .pi (iv o.aQ) (iv b.aQ)=some false:=by rw[cD,decide_eq_false hc]
  rw[decide_eq_false hc]
  exact Wq<|Wv rfl<|Wh rfl rfl (cD _ _)<|Wv rfl<|Wk<|Wr (.bj rfl rfl)<|Wv rfl<|Wy<|Wv rfl<|Wy<|Wh rfl rfl (cD _ _)<|Wy<|Wv rfl<|Wy<|Wf rfl<|Wy<|Wl rfl (.there .here) rfl rfl rfl<|Wy<|Wf rfl<|Wy<|Wl rfl .here rfl rfl rfl<|Wy<|Wh rfl rfl Uk<|Wy<|Wr (.eb rfl rfl)<|Wr (.bj rfl rfl)<|Wv rfl<|Wy<|Wv rfl<|Wy<|Wh rfl rfl (cD _ _)<|Wr (.bj rfl rfl)<|Wv rfl<|Wy<|Wv rfl<|Wy<|Wh rfl rfl (cD _ _)<|Wy<|Wv rfl<|Wk<|Wk<|Wk<|Wk<|Wk<|Wy<|Wr (.bj rfl rfl)<|Wy<|Wv rfl<|Wk<|Wk<|Wy<|Wr (.bj rfl rfl)<|Wr (.bj rfl rfl)<|Wv rfl<|Wn<|We<|Wm (.tmp rfl .nil) ⟨rfl,[_,_],rfl⟩
theorem Cg (hC:BaseC P K F T){b:OD}:bB P K (F 171) [iv 2,.agg o.row,.agg b.row] s (λv s'=>v=.bool true/\∃m,s'=m++s):=by
 refine hC.f171.cF ?_
 refine Wq<|Wa (.box rfl rfl) λb4=>Wa (.box rfl rfl) λb5=>Wv rfl<|Wn<|Wq<|W (k:=Wn ?_)
 exact Wq<|Wv rfl<|Wh rfl rfl (cD _ _)<|Wv rfl<|Wk<|Wr (.bj rfl rfl)<|Wv rfl<|Wy<|Wv rfl<|Wy<|Wh rfl rfl (cD _ _)<|Wy<|Wv rfl<|Wk<|Wk<|Wk<|Wk<|Wk<|Wy<|Wr (.bj rfl rfl)<|Wr (.bj rfl rfl)<|Wv rfl<|Wy<|Wv rfl<|Wy<|Wh rfl rfl (cD _ _)<|Wr (.bj rfl rfl)<|Wv rfl<|Wk<|Wk<|Wk<|Wu rfl<|Wu rfl<|Wu rfl<|Wu rfl<|Wu rfl<|Wk<|Wk<|Wu rfl<|Wu rfl<|Wk<|Wr (.eb rfl rfl)<|Wv rfl<|Wn<|We<|Wm (.tmp rfl .nil) ⟨rfl,[_,_],rfl⟩
theorem Qp {L:List Int}(h:i<L.length):(nR L)[i]?=some [iv L[i]]:=by rw[nR,List.getElem?_map,List.getElem?_eq_getElem h];rfl
theorem gq (L:List Int):(nR L).length=L.length:=by simp[nR]
theorem aex (hC:BaseC P K F T){L:List Int}(hv:Src s 1 v (nR L))(hn:L.length<=1000) :
  bB P K (F 204) [v,iv id] s (λw s'=>(∃r:Int,w=iv r/\decide (r<0)=!decide (id∈L))/\s'=s):=by
 refine hC.f204.cF ?_
 have lv:lenOf v=some L.length:=by rw[hv.lenOf,gq]
 refine Vk (k:=?_)
 refine Wp (λk l ds s'=>ds=[]/\s'=s/\∃q,k=L.length-q/\q<=L.length/\(∀j,j<q->L[j]?≠some id)/\∀j w,lk [(0,v),(1,iv id),(7,iv<|.ofNat L.length),(8,iv<|.ofNat q),(6,v)] j=some w->lk l j=some w) ?_ (n:=L.length-0) ⟨rfl,rfl,0,rfl,Nat.zero_le _,λj hj=>absurd hj<|Nat.not_lt_zero _,bX rfl⟩
 rintro k l ds s' ⟨rfl,rfl,q,rfl,hq,hno,hl⟩
 refine Wg hl (λ_ _ h=>h) ?_
 refine Vk (k:=Wd rfl (λht=>Wi ?_)<|λht=>?_)
 ·have hlt:q<L.length:=bh.1 ht
  obtain⟨b,r,no,c,so,ro,M,rfl,hb,PS,hM⟩:=hv.Ko (by rw[gq];omega)
  rw[gq]at PS hM
  refine Vk (k:=Wl rfl hb ((hM q hlt).trans (Qp hlt)) rfl rfl<|Wh rfl rfl (cD _ _)<|Wn ?_)
  by_cases he:id=L[q]
  ·rw[decide_eq_true he]
   refine Vk (k:=We<|Wm (.tmp rfl .nil) ?_)
   refine⟨⟨.ofNat q,rfl,?_⟩,rfl⟩
   have:id∈L:=by rw[he];exact List.getElem_mem _
   rw[decide_eq_true this,decide_eq_false (by show¬((q:Nat):Int)<0;omega)]
   rfl
  ·rw[decide_eq_false he]
   refine Vk (k:=?_)
   refine⟨L.length-(q+1),by omega,rfl,rfl,q+1,rfl,hlt,λj hj=>?_,bX rfl⟩
   by_cases YC:j=q
   ·subst YC
    rw[List.getElem?_eq_getElem hlt]
    intro h
    exact he (Option.some.inj h).symm
   ·exact hno j<|by omega
 ·refine Wx ?_
  have:q=L.length:=by
   have:¬q<L.length:=λh=>by rw[fw,show Nat.blt q L.length=true from bh.2 h]at ht;cases ht
   omega
  subst this
  refine Vk (k:=We<|Wm (.tmp rfl .nil) ?_)
  refine⟨⟨-1,rfl,?_⟩,rfl⟩
  have:¬id∈L:=λh=>by
   obtain⟨j,hj,e⟩:=List.getElem_of_mem h
   exact hno j hj<|by rw[List.getElem?_eq_getElem hj,e]
  rw[decide_eq_false this]
  rfl
theorem mJ (hC:BaseC P K F T){L:List Int}(hv:Src s 1 v (nR L))(hn:L.length<=1000):bB P K (F 167) [v,iv id] s (λw s'=>w=.bool (decide (id∈L))/\s'=s):=by
 refine hC.f167.cF ?_
 refine Vk (k:=Ww<|W1 (aex hC hv hn) ?_)
 rintro w _ ⟨⟨r,rfl,hr⟩,rfl⟩
 refine Wj rfl rfl (th r 0)<|Wv rfl<|Wn<|We<|Wm (.tmp rfl .nil) ?_
 grind
variable {X:List (List AV)}
theorem jC {R:List ED}(h:i<R.length):(ey R++X)[i]?=some (R[i]).row:=by
 rw[List.getElem?_append_left (by simpa[ey]using h),ey,List.getElem?_map,List.getElem?_eq_getElem h];rfl
@[reducible] def zM (bq n c:Nat)(sl:Bool)(a b:Nat)(sv:AV)(F:Nat->FuncId)(i:Nat):Sl:=[(0,.slice (some ⟨bq,0,0⟩) n c sl 4),(1,iv (.ofNat a)),(2,iv (.ofNat b)),(3,.func (F 175) [sv] []),(8,iv (.ofNat i))]
open Go.Proofs
set_option maxRecDepth 100000
def ag1:CF:=NF (λF T=>pt (ae0 F T) [0,1,0,1,1,0,0,0]) _
def ag2:CF:=NF (λF T=>pt (ae0 F T) [1,0,1,0,1,1,0,0,0]) _
def ag3:CF:=NF (λF T=>pt (ae0 F T) [1,1,1,1,1,1,1,0,0,0]) _
def Srt (L:List ED):Prop:=(∀e∈L,e.op=4)/\L.Pairwise λx y=>x.st<y.st
theorem vQ (a b:Int):binV .leq (iv a) (iv b)=some (.bool (!decide (b<a))):=by show some (AV.bool (!ilt b a))=_;rw[du]
theorem qb {a b:Nat}(h:a<b):binV .lss (iv (.ofNat a)) (iv (.ofNat b))=some (.bool true):=by
 have:=eT (.ofNat a)<|.ofNat b
 grind
theorem qa {a b:Nat}(h:¬a<b):binV .lss (iv (.ofNat a)) (iv (.ofNat b))=some (.bool false):=by
 have:=eT (.ofNat a)<|.ofNat b
 grind
variable {x:ED}
theorem aaD {R:List ED}(h:R[i]?=some x):(ey R++X)[0+i]?=some x.row:=by
 obtain⟨h1,rfl⟩:=List.getElem?_eq_some_iff.1 h
 rw[Nat.zero_add]
 exact jC h1
theorem aaE {a b:Nat}(h:b<=a)(ha:a<=9223372036854775807):binV .sub (iv (.ofNat a)) (iv (.ofNat b))=some (iv (.ofNat (a-b))):=by
 have h1:vH (.ofNat a) (.ofNat b)=.ofNat (a-b):=by
  show(match Nat.ble b a with | true=>Int.ofNat (Nat.sub a b) | false=>.negSucc<|Nat.pred<|Nat.sub b a)=_
  rw[Nat.ble_eq_true_of_le h]
  rfl
 show mkI .i64 (vH (.ofNat a)<|.ofNat b)=_
 rw[h1]
 exact tD<|by omega
theorem ac3 {a:Nat}(h:a<=4000):mkI .u64 (.ofNat a)=some (.int .u64 (.ofNat a)):=by
 show force (Nat.mod a 18446744073709551616) (λm=>some<|AV.int .u64<|.ofNat m)=_
 rw[aL,show Nat.mod a 18446744073709551616=a from Nat.mod_eq_of_lt<|by omega]
theorem ac2 (a:Nat):binV .shr (.int .u64 (.ofNat a)) (.int .u64 (.ofNat 1))=some (.int .u64 (.ofNat (a/2))):=by
 show force (Nat.div a 2) (λr=>some<|AV.int .u64<|.ofNat r)=_
 rw[aL]
 rfl
theorem aeo {a b:Nat}(h:b<a):binV .gtr (iv (.ofNat a)) (iv (.ofNat b))=some (.bool true):=by rw[xA,decide_eq_true (show Int.ofNat b<Int.ofNat a from Int.ofNat_lt.2 h)]
theorem aen {a b:Nat}(h:¬b<a):binV .gtr (iv (.ofNat a)) (iv (.ofNat b))=some (.bool false):=by rw[xA,decide_eq_false (show¬Int.ofNat b<Int.ofNat a fromλx=>h (Int.ofNat_lt.1 x))]
@[reducible] def abE (F:Nat->FuncId)(bq N c a m b:Nat)(sl:Bool)(sv:AV):Sl:=[(0,.slice (some ⟨bq,0,0⟩) N c sl 4),(1,iv (.ofNat a)),(2,iv (.ofNat m)),(3,iv (.ofNat b)),(4,.func (F 175) [sv] [])]
variable {L:List ED}{y:ED}
theorem Srt.at (h:Srt L){j:Nat}(hi:L[i]?=some x)(hj:L[j]?=some y)(hij:j<i):x.op=4/\y.op=4/\y.st<x.st:=by
 obtain⟨h1,rfl⟩:=List.getElem?_eq_some_iff.1 hi
 obtain⟨h2,rfl⟩:=List.getElem?_eq_some_iff.1 hj
 exact⟨h.1 _<|List.getElem_mem h1,h.1 _<|List.getElem_mem h2,List.pairwise_iff_getElem.1 h.2 _ _ h2 h1 hij⟩
theorem V0 (hC:BaseC P K F T)(hT:TyC P T)(h:x.op=4/\y.op=4/\y.st<x.st):bB P K (F 175) [sv,.agg x.row,.agg y.row] s (λv s'=>v=iv 1/\∃m,s'=m++s):=by
 obtain⟨hx,hy,hst⟩:=h
 refine hC.f175.cF ?_
 have hl:binV .lss (iv x.st) (iv y.st)=some (.bool false):=by rw[eT,decide_eq_false<|by omega]
 have hg:binV .gtr (iv x.st) (iv y.st)=some (.bool true):=by rw[xA,decide_eq_true hst]
 have r1:rowOf F x.op=[iv 3,.func (F 236) [] []]:=by rw[hx];rfl
 have r2:rowOf F y.op=[iv 3,.func (F 236) [] []]:=by rw[hy];rfl
 refine Vk (k:=λb4=>Wa (.box rfl rfl) λb5=>Vk (k:=WP.bD<|Dl rfl .nil (.load (cs:=ED.row x) rfl (.there .here) rfl rfl rfl) ?_))
 refine Dc .nil<|W1 (lD hC hT) ?_
 rintro w1 _ ⟨rfl,m1,rfl⟩
 rw[r1]
 refine Dp (.fld rfl rfl)<|WD.lk rfl .nil (.load (cs:=ED.row y) rfl (.app .here) rfl rfl rfl) ?_
 refine Dc .nil<|W1 (lD hC hT) ?_
 rintro w2 _ ⟨rfl,m2,rfl⟩
 rw[r2]
 refine Dp (.fld rfl rfl)<|Dp (.arith rfl rfl rfl)<|Dp (.mv rfl) ?_
 refine D0 .nil ?_ ?_
 rotate_left
 ·intro o ho
  rw[List.mem_singleton.1 ho]
  refine⟨(λi hi=>nomatch hi),Nat.zero_le _,?_,λk _ hk=>?_⟩
  ·show sameL (sameN 5) [iv y.op,iv y.a,iv y.b,iv y.st] [iv y.op,iv y.a,iv y.b,iv y.st]=true
   simp only[sameL,iq,Bool.and_true]
  rcases B8 hk with rfl|rfl
  ·exact⟨_,rfl,.load rfl .here rfl rfl rfl⟩
  ·exact⟨_,rfl,.load rfl (.app .here) rfl rfl rfl⟩
 refine Vk (k:=Vk (k:=Vk (k:=Vk (k:=We<|Wm (.tmp rfl .nil) ?_))))
 exact⟨rfl,_,pull<|pull eW⟩
variable {c bq i0 j0:Nat}{sl:Bool}{m0:SH}
theorem afn (hC:BaseC P K F T)(hT:TyC P T){a m b:Nat}(hS:Srt L)(hn:L.length<=1000)(h0:i0<=j0)(hj0:j0<=L.length)(ha:a<i0)
  (hl:∀q w,lk ((10,iv<|.ofNat i0)::(11,iv<|.ofNat j0)::abE F bq L.length c a m b sl sv) q=some w->lk l q=some w)
  (hk:∀l2 m2,(∀q w,lk ((10,iv<|.ofNat i0)::abE F bq L.length c a m b sl sv) q=some w->lk l2 q=some w)->Qn l2 [] (m2++((bq,.r false (ey L++X) 4)::t))) :
  WP P K none 220 (.block 0<|.loop<|ag1 F T) l [] (m0++((bq,.r false (ey L++X) 4)::t)) Qn Qe Qr:=by
 refine Wg hl (λ_ _ h=>h)<|Wb ?_
 refine Wp (λk l ds s'=>ds=[]/\∃i j m2,k=j-i/\i0<=i/\i<=j/\j<=j0/\i=i0/\s'=m2++((bq,.r false (ey L++X) 4)::t)/\∀q w,lk ((10,iv<|.ofNat i)::(11,iv<|.ofNat j)::abE F bq L.length c a m b sl sv) q=some w->lk l q=some w) ?_ (n:=j0-i0) ⟨rfl,i0,j0,m0,rfl,Nat.le_refl _,h0,Nat.le_refl _,rfl,rfl,bX rfl⟩
 rintro k l ds s' ⟨rfl,i,j,m1,rfl,hi,hij,hj,he,rfl,hl⟩
 refine Wg hl (λ_ _ h=>h) ?_
 by_cases hlt:i<j
 rotate_left
 ·have e1:=qa hlt
  have:i=j:=by omega
  subst this
  subst he
  refine Vk (k:=Wx ?_)
  exact hk _ m1<|bX rfl
 have e1:=qb hlt
 have c37:mkI .u64 (.ofNat<|i+j)=some (.int .u64<|.ofNat<|i+j):=ac3<|by omega
 have c38:=ac2<|i+j
 have c39:mkI .i64 (.ofNat<|(i+j)/2)=some (iv<|.ofNat<|(i+j)/2):=tD<|by omega
 generalize hh:(i+j)/2=h at c38 c39
 have g1:L[h]?=some (L[h]'(by omega)):=List.getElem?_eq_getElem _
 have g2:L[a]?=some (L[a]'(by omega)):=List.getElem?_eq_getElem _
 generalize L[h]'(by omega)=x at g1
 generalize L[a]'(by omega)=y at g2
 have hb:=hS.at g1 g2<|by omega
 have e2:(ey L++X)[0+h]?=some x.row:=aaD g1
 have e3:(ey L++X)[0+a]?=some y.row:=aaD g2
 refine Vk (k:=?_)
 refine Vk (k:=WP.bD<|Dp (.mv rfl)<|Dp (.mv rfl)<|Dp (.mv rfl)<|Dp (.iaddrS rfl rfl (by omega)<|by decide)<|Dl rfl .nil (.load (cs:=ED.row x) rfl (.app .here) e2 rfl rfl)<|Dp (.mv rfl)<|Dp (.mv rfl)<|Dp (.iaddrS rfl rfl (by omega)<|by decide)<|Dl rfl .nil (.load (cs:=ED.row y) rfl (.app .here) e3 rfl rfl) ?_)
 refine Dc .nil<|Wc (first:=[sv]) (vs:=[AV.agg (ED.row x),AV.agg<|ED.row y]) (cap:=[]) rfl rfl (V0 hC hT hb) ?_
 rintro w _ ⟨rfl,m2,rfl⟩
 refine Dp (.arith rfl rfl<|eT _ _)<|D0 .nil (Vk (k:=?_))<|λo h=>nomatch h
 exact⟨h-i,by omega,rfl,i,h,m2++m1,rfl,by omega,by omega,by omega,he,(List.append_assoc ..).symm,bX rfl⟩
theorem afo (hC:BaseC P K F T)(hT:TyC P T){a m b:Nat}(hS:Srt L)(hn:L.length<=1000)(h0:i0<=j0)(hj0:j0<=L.length)(ha:j0<=m)(hm:m<L.length)
  (hl:∀q w,lk ((14,iv<|.ofNat i0)::(15,iv<|.ofNat j0)::abE F bq L.length c a m b sl sv) q=some w->lk l q=some w)
  (hk:∀l2 m2,(∀q w,lk ((14,iv<|.ofNat j0)::abE F bq L.length c a m b sl sv) q=some w->lk l2 q=some w)->Qn l2 [] (m2++((bq,.r false (ey L++X) 4)::t))) :
  WP P K none 220 (.block 4<|.loop<|ag2 F T) l [] (m0++((bq,.r false (ey L++X) 4)::t)) Qn Qe Qr:=by
 refine Wg hl (λ_ _ h=>h)<|Wb ?_
 refine Wp (λk l ds s'=>ds=[]/\∃i j m2,k=j-i/\i0<=i/\i<=j/\j<=j0/\j=j0/\s'=m2++((bq,.r false (ey L++X) 4)::t)/\∀q w,lk ((14,iv<|.ofNat i)::(15,iv<|.ofNat j)::abE F bq L.length c a m b sl sv) q=some w->lk l q=some w) ?_ (n:=j0-i0) ⟨rfl,i0,j0,m0,rfl,Nat.le_refl _,h0,Nat.le_refl _,rfl,rfl,bX rfl⟩
 rintro k l ds s' ⟨rfl,i,j,m1,rfl,hi,hij,hj,he,rfl,hl⟩
 refine Wg hl (λ_ _ h=>h) ?_
 by_cases hlt:i<j
 rotate_left
 ·have e1:=qa hlt
  have:i=j:=by omega
  subst this
  subst he
  refine Vk (k:=Wx ?_)
  exact hk _ m1<|bX rfl
 have e1:=qb hlt
 have c37:mkI .u64 (.ofNat<|i+j)=some (.int .u64<|.ofNat<|i+j):=ac3<|by omega
 have c38:=ac2<|i+j
 have c39:mkI .i64 (.ofNat<|(i+j)/2)=some (iv<|.ofNat<|(i+j)/2):=tD<|by omega
 generalize hh:(i+j)/2=h at c38 c39
 have g1:L[m]?=some (L[m]'(by omega)):=List.getElem?_eq_getElem _
 have g2:L[h]?=some (L[h]'(by omega)):=List.getElem?_eq_getElem _
 generalize L[m]'(by omega)=x at g1
 generalize L[h]'(by omega)=y at g2
 have hb:=hS.at g1 g2<|by omega
 have e2:(ey L++X)[0+m]?=some x.row:=aaD g1
 have e3:(ey L++X)[0+h]?=some y.row:=aaD g2
 refine Vk (k:=?_)
 refine Vk (k:=WP.bD<|Dp (.mv rfl)<|Dp (.mv rfl)<|Dp (.mv rfl)<|Dp (.iaddrS rfl rfl (by omega)<|by decide)<|Dl rfl .nil (.load (cs:=ED.row x) rfl (.app .here) e2 rfl rfl)<|Dp (.mv rfl)<|Dp (.mv rfl)<|Dp (.iaddrS rfl rfl (by omega)<|by decide)<|Dl rfl .nil (.load (cs:=ED.row y) rfl (.app .here) e3 rfl rfl) ?_)
 refine Dc .nil<|Wc (first:=[sv]) (vs:=[AV.agg (ED.row x),AV.agg<|ED.row y]) (cap:=[]) rfl rfl (V0 hC hT hb) ?_
 rintro w _ ⟨rfl,m2,rfl⟩
 refine Dp (.arith rfl rfl<|eT _ _)<|Dp (.un rfl rfl)<|D0 .nil (Vk (k:=?_))<|λo h=>nomatch h
 exact⟨j-(h+1),by omega,rfl,h+1,j,m2++m1,rfl,by omega,by omega,by omega,he,(List.append_assoc ..).symm,bX rfl⟩
theorem ac5 (hC:BaseC P K F T)(hT:TyC P T){a m b v18 v19:Nat}(hS:Srt L)(hn:L.length<=1000)(h0:i0<=j0)(hj0:j0<=L.length)(hp:p<=4000)(hpc:∀c,i0<=c->c<j0->c<=p/\p-c<L.length/\c<p-c)
  (hl:∀q w,lk ((18,iv<|.ofNat v18)::(19,iv<|.ofNat v19)::(20,iv<|.ofNat i0)::(21,iv<|.ofNat j0)::(22,iv<|.ofNat p)::abE F bq L.length c a m b sl sv) q=some w->lk l q=some w)
  (hk:∀l2 m2,(∀q w,lk ((18,iv<|.ofNat v18)::(19,iv<|.ofNat v19)::(20,iv<|.ofNat j0)::abE F bq L.length c a m b sl sv) q=some w->lk l2 q=some w)->Qn l2 [] (m2++((bq,.r false (ey L++X) 4)::t))) :
  WP P K none 220 (.block 8<|.loop<|ag3 F T) l [] (m0++((bq,.r false (ey L++X) 4)::t)) Qn Qe Qr:=by
 refine Wg hl (λ_ _ h=>h)<|Wb ?_
 refine Wp (λk l ds s'=>ds=[]/\∃i j m2,k=j-i/\i0<=i/\i<=j/\j<=j0/\j=j0/\s'=m2++((bq,.r false (ey L++X) 4)::t)/\∀q w,lk ((18,iv<|.ofNat v18)::(19,iv<|.ofNat v19)::(20,iv<|.ofNat i)::(21,iv<|.ofNat j)::(22,iv<|.ofNat p)::abE F bq L.length c a m b sl sv) q=some w->lk l q=some w) ?_ (n:=j0-i0) ⟨rfl,i0,j0,m0,rfl,Nat.le_refl _,h0,Nat.le_refl _,rfl,rfl,bX rfl⟩
 rintro k l ds s' ⟨rfl,i,j,m1,rfl,hi,hij,hj,he,rfl,hl⟩
 refine Wg hl (λ_ _ h=>h) ?_
 by_cases hlt:i<j
 rotate_left
 ·have e1:=qa hlt
  have:i=j:=by omega
  subst this
  subst he
  refine Vk (k:=Wx ?_)
  exact hk _ m1<|bX rfl
 have e1:=qb hlt
 have c37:mkI .u64 (.ofNat<|i+j)=some (.int .u64<|.ofNat<|i+j):=ac3<|by omega
 have c38:=ac2<|i+j
 have c39:mkI .i64 (.ofNat<|(i+j)/2)=some (iv<|.ofNat<|(i+j)/2):=tD<|by omega
 generalize hh:(i+j)/2=h at c38 c39
 obtain⟨YR,Gu,UO⟩:=hpc h (by omega)<|by omega
 have s1:=aaE YR<|by omega
 have g1:L[p-h]?=some (L[p-h]'(by omega)):=List.getElem?_eq_getElem _
 have g2:L[h]?=some (L[h]'(by omega)):=List.getElem?_eq_getElem _
 generalize L[p-h]'(by omega)=x at g1
 generalize L[h]'(by omega)=y at g2
 have hb:=hS.at g1 g2<|by omega
 have e2:(ey L++X)[0+(p-h)]?=some x.row:=aaD g1
 have e3:(ey L++X)[0+h]?=some y.row:=aaD g2
 refine Vk (k:=?_)
 refine Vk (k:=WP.bD<|Dp (.mv rfl)<|Dp (.mv rfl)<|Dp (.mv rfl)<|Dp (.mv rfl)<|Dp (.arith rfl rfl s1)<|Dp (.iaddrS rfl rfl (by omega)<|by decide)<|Dl rfl .nil (.load (cs:=ED.row x) rfl (.app .here) e2 rfl rfl)<|Dp (.mv rfl)<|Dp (.mv rfl)<|Dp (.iaddrS rfl rfl (by omega)<|by decide)<|Dl rfl .nil (.load (cs:=ED.row y) rfl (.app .here) e3 rfl rfl) ?_)
 refine Dc .nil<|Wc (first:=[sv]) (vs:=[AV.agg (ED.row x),AV.agg<|ED.row y]) (cap:=[]) rfl rfl (V0 hC hT hb) ?_
 rintro w _ ⟨rfl,m2,rfl⟩
 refine Dp (.arith rfl rfl<|eT _ _)<|Dp (.un rfl rfl)<|D0 .nil (Vk (k:=?_))<|λo h=>nomatch h
 exact⟨j-(h+1),by omega,rfl,h+1,j,m2++m1,rfl,by omega,by omega,by omega,he,(List.append_assoc ..).symm,bX rfl⟩
theorem aao (hC:BaseC P K F T)(hT:TyC P T){a b:Nat}(hS:Srt L)(hb:b<=L.length)(hn:L.length<=1000)(ha:a<=1000) :
  bB P K (F 237) [.slice (some ⟨bq,0,0⟩) L.length c sl 4,iv<|.ofNat a,iv<|.ofNat b,.func (F 175) [sv] []] (m0++((bq,.r false (ey L++X) 4)::t)) (λ_ s'=>∃m,s'=m++((bq,.r false (ey L++X) 4)::t)):=by
 refine hC.f237.cF ?_
 refine Vk (k:=?_)
 refine Wp (λk l ds s'=>ds=[]/\∃i m,k=3000-i/\a<i/\i<=2000/\s'=m++((bq,.r false (ey L++X) 4)::t)/\∀j w,lk (zM bq L.length c sl a b sv F i) j=some w->lk l j=some w) ?_ (n:=3000-(a+1)) ⟨rfl,a+1,m0,rfl,Nat.lt_succ_self _,by omega,rfl,bX rfl⟩
 rintro k l ds s' ⟨rfl,i,m,rfl,Px,hi2,rfl,hl⟩
 refine Wg hl (λ_ _ h=>h) ?_
 by_cases Yv:i<b
 rotate_left
 ·have e1:=qa Yv
  refine Vk (k:=Wx<|Wm .nil ?_)
  exact⟨m,rfl⟩
 have e1:=qb Yv
 obtain⟨p,rfl⟩:∃p,i=p+1:=⟨i-1,by omega⟩
 have e2:=aeo Px
 have s1:binV .sub (iv<|.ofNat<|p+1) (iv 1)=some (iv<|.ofNat p):=Ka<|by omega
 have g1:L[p+1]?=some (L[p+1]'(by omega)):=List.getElem?_eq_getElem _
 have g2:L[p]?=some (L[p]'(by omega)):=List.getElem?_eq_getElem _
 generalize L[p+1]'(by omega)=x at g1
 generalize L[p]'(by omega)=y at g2
 have hb:=hS.at g1 g2<|by omega
 have e3:(ey L++X)[0+(p+1)]?=some x.row:=aaD g1
 have e4:(ey L++X)[0+p]?=some y.row:=aaD g2
 refine Ws<|Wq<|W (k:=Wn<|Wd rfl (λ_=>Wi ?_) Dz)
 refine Ws<|Wb<|Wq<|W (k:=Wn ?_)
 refine Wb<|WP.dA ?_
 refine Vk (k:=WP.bD<|Dp (.mv rfl)<|Dp (.mv rfl)<|Dp (.arith rfl rfl e2)<|Dp (.mv rfl)<|Dy<|Dp (.mv rfl)<|Dy<|Dp (.mv rfl)<|Dy<|Dp (.mv rfl)<|Dy<|Dp (.iaddrS rfl rfl (by omega)<|by decide)<|Dy<|Dl rfl .nil (.load (cs:=ED.row x) rfl (.app .here) e3 rfl rfl)<|Dy<|Dp (.mv rfl)<|Dy<|Dp (.mv rfl)<|Dy<|Dp (.arith rfl rfl s1)<|Dy<|Dp (.iaddrS rfl rfl (by omega)<|by decide)<|Dy<|Dl rfl .nil (.load (cs:=ED.row y) rfl (.app .here) e4 rfl rfl)<|Dy ?_)
 refine Dc .nil<|Wc (first:=[sv]) (vs:=[AV.agg (ED.row x),AV.agg<|ED.row y]) (cap:=[]) rfl rfl (V0 hC hT hb) ?_
 rintro w _ ⟨rfl,m2,rfl⟩
 refine Dy<|Dp (.arith rfl rfl<|eT _ _)<|Dp (.eb rfl rfl)<|D0 .nil (Vk (k:=Wx<|Vk (k:=?_)))<|λo h=>nomatch h
 exact⟨3000-(p+1+1),by omega,rfl,p+1+1,m2++m,rfl,by omega,by omega,(List.append_assoc ..).symm,bX rfl⟩
theorem abm (hC:BaseC P K F T)(hT:TyC P T){L:List ED}{X:List (List AV)}{bq c:Nat}{sl:Bool}{sv:AV}{t:SH}(hS:Srt L)(hn:L.length<=1000):∀(n a m b:Nat)(m0:SH),b-a<=n->a<m->m<b->b<=L.length ->
  bB P K (F 238) [.slice (some ⟨bq,0,0⟩) L.length c sl 4,iv<|.ofNat a,iv<|.ofNat m,iv<|.ofNat b,.func (F 175) [sv] []] (m0++((bq,.r false (ey L++X) 4)::t)) (λ_ s'=>∃m,s'=m++((bq,.r false (ey L++X) 4)::t))
 | 0,a,m,b,_,h,h1,h2,_=>absurd h<|by omega
 | n+1,a,m,b,m0,h,h1,h2,hb=>by
  have IH:=abm hC hT (X:=X) (bq:=bq) (c:=c) (sl:=sl) (sv:=sv) (t:=t) hS hn n
  refine hC.f238.cF ?_
  have s1:=aaE (a:=m) (b:=a) (by omega)<|by omega
  have s2:=aaE (a:=b) (b:=m) (by omega)<|by omega
  by_cases hm1:m-a=1
  ·have e1:eqBy 20 .pi (iv<|.ofNat<|m-a) (iv 1)=some true:=by rw[hm1];rfl
   have s3:=aaE (a:=m) (b:=1) (by omega)<|by omega
   have e2:=qa (a:=a) (b:=m-1)<|by omega
   refine Ws<|Wq<|W (k:=Wn<|Wd rfl (λ_=>?_) Dz)
   refine Wq<|W (k:=Wn ?_)
   refine Wq<|W (k:=Wn ?_)
   refine Ws<|afn hC hT (F:=F) (T:=T) (i0:=m) (j0:=b) (c:=c) (a:=a) (m:=m) (b:=b) (sl:=sl) (sv:=sv) hS hn (by omega) hb h1 (bX rfl) λl2 m2 CG=>Wg CG (λ_ _ h=>h) ?_
   refine Ws<|Wq<|W (k:=Wn ?_)
   refine Wb<|WP.dA ?_
   refine Ws<|Wq<|W (k:=Wn<|Wd rfl fS<|λ_=>Wx<|We<|Wm .nil ?_)
   exact⟨m2,rfl⟩
  have e1:eqBy 20 .pi (iv<|.ofNat<|m-a) (iv 1)=some false:=by rw[cD,decide_eq_false<|show¬Int.ofNat (m-a)=1 fromλhh=>hm1<|Int.ofNat.inj hh]
  by_cases hm2:b-m=1
  ·have e2:eqBy 20 .pi (iv<|.ofNat<|b-m) (iv 1)=some true:=by rw[hm2];rfl
   have e3:=aen (a:=m) (b:=m)<|by omega
   refine Ws<|Wq<|W (k:=Wn<|Wd rfl fS<|λ_=>Wi ?_)
   refine Ws<|Wq<|W (k:=Wn<|Wd rfl (λ_=>?_) Dz)
   refine Wq<|W (k:=Wn ?_)
   refine Wq<|W (k:=Wn ?_)
   refine Ws<|afo hC hT (F:=F) (T:=T) (i0:=a) (j0:=m) (c:=c) (a:=a) (m:=m) (b:=b) (sl:=sl) (sv:=sv) hS hn (by omega) (by omega) (Nat.le_refl _) (by omega) (bX rfl) λl2 m2 CG=>Wg CG (λ_ _ h=>h) ?_
   refine Ws<|Wq<|W (k:=Wn ?_)
   refine Wb<|WP.dA ?_
   refine Ws<|Wq<|W (k:=Wn<|Wd rfl fS<|λ_=>Wx<|We<|Wm .nil ?_)
   exact⟨m2,rfl⟩
  have e2:eqBy 20 .pi (iv<|.ofNat<|b-m) (iv 1)=some false:=by rw[cD,decide_eq_false<|show¬Int.ofNat (b-m)=1 fromλhh=>hm2<|Int.ofNat.inj hh]
  have c37:mkI .u64 (.ofNat<|a+b)=some (.int .u64<|.ofNat<|a+b):=ac3<|by omega
  have c38:=ac2<|a+b
  have c39:mkI .i64 (.ofNat<|(a+b)/2)=some (iv<|.ofNat<|(a+b)/2):=tD<|by omega
  generalize hh:(a+b)/2=h0 at c38 c39
  have s4:=aaE (a:=h0+m) (b:=1) (by omega)<|by omega
  by_cases hc:h0<m
  ·have e3:=aeo hc
   have s3:=aaE (a:=h0+m) (b:=b) (by omega)<|by omega
   have s5:=aaE (a:=h0+m) (b:=h0) (by omega)<|by omega
   rw[show h0+m-h0=m from by omega]at s5
   have t1:=qb hc
   have t2:=qa (a:=m) (b:=m)<|by omega
   have t3:=qb (a:=a) (b:=h0)<|by omega
   have t4:=qa (a:=h0) (b:=h0)<|by omega
   have t5:=qb h2
   refine Ws<|Wq<|W (k:=Wn<|Wd rfl fS<|λ_=>Wi ?_)
   refine Ws<|Wq<|W (k:=Wn<|Wd rfl fS<|λ_=>Wi ?_)
   refine Wq<|Wv rfl<|Wv rfl<|Wj rfl rfl (bM<|by omega)<|Wr (.convI rfl c37)<|Wj rfl rfl c38<|Wr (.convI rfl c39)<|Wv rfl<|Wn ?_
   refine Wq<|Wv rfl<|Wv rfl<|Wj rfl rfl (bM<|by omega)<|Wv rfl<|Wn ?_
   refine Wq<|W (k:=Wn ?_)
   refine Ws<|Wq<|W (k:=Wn<|Wd rfl (λ_=>?_) Dz)
   refine Wq<|Wv rfl<|Wv rfl<|Wj rfl rfl s3<|Wv rfl<|Wn<|Wo<|Wv rfl<|Wv rfl<|Wn ?_
   refine Wq<|W (k:=Wn ?_)
   refine Ws<|ac5 hC hT (F:=F) (T:=T) (i0:=h0+m-b) (j0:=h0) (p:=h0+m-1) (v18:=h0) (v19:=h0+m) (c:=c) (a:=a) (m:=m) (b:=b) (sl:=sl) (sv:=sv) hS hn (by omega) (by omega) (by omega) (λc h1 h2=>by omega) (bX rfl) λl2 m2 CG=>Wg CG (λ_ _ h=>h) ?_
   refine Wq<|W (k:=Wn ?_)
   refine Ws<|Wq<|W (k:=Wn<|Wd rfl fS<|λ_=>Wi ?_)
   refine Ws<|Wq<|W (k:=Wn<|Wd rfl fS<|λ_=>Wi ?_)
   refine Wq<|Wv rfl<|Wv rfl<|Wj rfl rfl t1<|Wv rfl<|Wy<|Wv rfl<|Wy<|Wv rfl<|Wy<|Wj rfl rfl t5<|Wr (.eb rfl rfl)<|Wn<|Wd rfl (λ_=>Wo<|Wv rfl<|Wv rfl<|Wv rfl<|Wv rfl<|Wv rfl ?_) Dz
   refine Ww<|W1 (IH h0 m b m2 (by omega) hc h2 hb) ?_
   rintro w _ ⟨m3,rfl⟩
   refine Wn<|Wm .nil ?_
   exact⟨m3,rfl⟩
  ·have e3:=aen hc
   have s5:=aaE (a:=h0+m) (b:=m) (by omega)<|by omega
   rw[show h0+m-m=h0 from by omega]at s5
   have t2:=qa (a:=m) (b:=m)<|by omega
   have t3:=qb h1
   have t4:=qa (a:=h0) (b:=h0)<|by omega
   refine Ws<|Wq<|W (k:=Wn<|Wd rfl fS<|λ_=>Wi ?_)
   refine Ws<|Wq<|W (k:=Wn<|Wd rfl fS<|λ_=>Wi ?_)
   refine Wq<|Wv rfl<|Wv rfl<|Wj rfl rfl (bM<|by omega)<|Wr (.convI rfl c37)<|Wj rfl rfl c38<|Wr (.convI rfl c39)<|Wv rfl<|Wn ?_
   refine Wq<|Wv rfl<|Wv rfl<|Wj rfl rfl (bM<|by omega)<|Wv rfl<|Wn ?_
   refine Wq<|W (k:=Wn ?_)
   refine Ws<|Wq<|W (k:=Wn<|Wd rfl fS<|λ_=>?_)
   refine Wq<|Wv rfl<|Wv rfl<|Wn<|Wo<|Wv rfl<|Wv rfl<|Wn ?_
   refine Wq<|W (k:=Wn ?_)
   refine Ws<|ac5 hC hT (F:=F) (T:=T) (i0:=a) (j0:=m) (p:=h0+m-1) (v18:=h0) (v19:=h0+m) (c:=c) (a:=a) (m:=m) (b:=b) (sl:=sl) (sv:=sv) hS hn (by omega) (by omega) (by omega) (λc h1 h2=>by omega) (bX rfl) λl2 m2 CG=>Wg CG (λ_ _ h=>h) ?_
   by_cases hd:m<h0
   ·have t5:=qb hd
    refine Wq<|W (k:=Wn ?_)
    refine Ws<|Wq<|W (k:=Wn<|Wd rfl fS<|λ_=>Wi ?_)
    refine Ws<|Wq<|Wv rfl<|Wv rfl<|Wj rfl rfl t3<|Wv rfl<|Wy<|Wv rfl<|Wy<|Wv rfl<|Wy<|Wj rfl rfl t5<|Wr (.eb rfl rfl)<|Wn<|Wd rfl (λ_=>Wo<|Wv rfl<|Wv rfl<|Wv rfl<|Wv rfl<|Wv rfl ?_) Dz
    refine Ww<|W1 (IH a m h0 m2 (by omega) h1 hd<|by omega) ?_
    rintro w _ ⟨m3,rfl⟩
    refine Wn<|Wq<|W (k:=Wn<|Wd rfl fS<|λ_=>Wi<|Wm .nil ?_)
    exact⟨m3,rfl⟩
   ·have t5:=qa hd
    refine Wq<|W (k:=Wn ?_)
    refine Ws<|Wq<|W (k:=Wn<|Wd rfl fS<|λ_=>Wi ?_)
    refine Ws<|Wq<|W (k:=Wn<|Wd rfl fS<|λ_=>Wi ?_)
    refine Wq<|W (k:=Wn<|Wd rfl fS<|λ_=>Wi<|Wm .nil ?_)
    exact⟨m2,rfl⟩
theorem acL (hC:BaseC P K F T)(hT:TyC P T)(hS:Srt L)(hn:L.length<=39) :
  bB P K (F 207) [.slice (some ⟨bq,0,0⟩) L.length c sl 4,iv<|.ofNat L.length,.func (F 175) [sv] []] ((bq,.r false (ey L++X) 4)::t) (λ_ s'=>∃m,s'=m++((bq,.r false (ey L++X) 4)::t)):=by
 refine hC.f207.cF ?_
 have h12:binV .leq (iv 40) (iv<|.ofNat L.length)=some (.bool false):=by
  rw[vQ,decide_eq_true (show Int.ofNat L.length<(40:Int)from by show((L.length:Nat):Int)<40;omega)];rfl
 have Pv:binV .lss (iv 40) (iv<|.ofNat L.length)=some (.bool false):=qa (a:=40)<|by omega
 refine Vk (k:=WP.dA ?_)
 by_cases h20:20<=L.length
 ·have h11:binV .leq (iv 20) (iv<|.ofNat L.length)=some (.bool true):=by
   rw[vQ,decide_eq_false (show¬Int.ofNat L.length<(20:Int)from by show¬((L.length:Nat):Int)<20;omega)];rfl
  refine Vk (k:=?_)
  refine Vk (k:=Ww<|W1 (aao hC hT (m0:=[]) (a:=0) (b:=20) hS (by omega) (by omega)<|by omega) ?_)
  rintro w _ ⟨m,rfl⟩
  refine Wn ?_
  refine Vk (k:=?_)
  refine WP.dA ?_
  refine Vk (k:=Wx ?_)
  refine Vk (k:=?_)
  refine Ww<|W1 (aao hC hT (a:=20) (b:=L.length) hS (Nat.le_refl _) (by omega)<|by omega) ?_
  rintro w2 _ ⟨m2,rfl⟩
  refine Vk (k:=WP.dA ?_)
  by_cases ahw:20<L.length
  ·have h28:binV .lss (iv 20) (iv<|.ofNat L.length)=some (.bool true):=qb (a:=20) ahw
   refine Vk (k:=?_)
   refine Vk (k:=?_)
   refine Vk (k:=?_)
   refine WP.dA ?_
   refine Vk (k:=Wx ?_)
   refine Vk (k:=?_)
   refine Vk (k:=?_)
   refine Ww<|W1 (abm hC hT hS (by omega) 39 0 20 L.length m2 (by omega) (by omega) (by omega)<|Nat.le_refl _) ?_
   rintro w3 _ ⟨m3,rfl⟩
   refine Vk (k:=?_)
   refine WP.dA ?_
   refine Vk (k:=Wx<|Wm .nil ?_)
   exact⟨m3,rfl⟩
  ·have h28:binV .lss (iv 20) (iv<|.ofNat L.length)=some (.bool false):=qa (a:=20) ahw
   refine Vk (k:=Wx<|Wm .nil ?_)
   exact⟨m2,rfl⟩
 ·have h11:binV .leq (iv 20) (iv<|.ofNat L.length)=some (.bool false):=by
   rw[vQ,decide_eq_true (show Int.ofNat L.length<(20:Int)from by show((L.length:Nat):Int)<20;omega)];rfl
  have h28:binV .lss (iv 20) (iv<|.ofNat L.length)=some (.bool false):=qa (a:=20)<|by omega
  refine Vk (k:=Wx ?_)
  refine Vk (k:=?_)
  refine Ww<|W1 (aao hC hT (m0:=[]) (a:=0) (b:=L.length) hS (Nat.le_refl _) (by omega)<|by omega) ?_
  rintro w _ ⟨m,rfl⟩
  refine Vk (k:=WP.dA<|Vk (k:=Wx<|Wm .nil ?_))
  exact⟨m,rfl⟩
theorem vC (hC:BaseC P K F T){f:AV}:bB P K (F 237) [v,iv (.ofNat 0),iv (.ofNat 0),f] s (λ_ s'=>s'=s):=by
 refine hC.f237.cF ?_
 refine Vk (k:=WP.dA<|Vk (k:=Wx ?_))
 exact Wm .nil rfl
theorem wK (hC:BaseC P K F T){f:AV}:bB P K (F 207) [v,iv (.ofNat 0),f] s (λ_ s'=>s'=s):=by
 refine hC.f207.cF ?_
 refine Vk (k:=?_)
 refine Vk (k:=?_)
 refine Vk (k:=?_)
 refine WP.dA<|Vk (k:=Wx ?_)
 refine Vk (k:=Ww<|W1 (vC hC) ?_)
 rintro w _ rfl
 refine Vk (k:=WP.dA<|Vk (k:=Wx ?_))
 exact Wm .nil rfl
theorem J7 (hC:BaseC P K F T)(hT:TyC P T){m o:SH}(h:Gr 4 v (ey L) o)(hS:Srt L)(hn:L.length<=39) :
  bB P K (F 174) [v,.func (F 175) [sv] []] (m++(o++t)) (λ_ s'=>∃R o' j,s'.Perm (m++(o'++(j++t)))/\Gr 4 v (ey R) o'/\R.Perm L):=by
 refine hC.f174.cF ?_
 have hl:(ey L).length=L.length:=by simp[ey]
 have nil:ey L=[]->∀{u:AV},lenOf u=some 0->Gr 4 u [] []->WP P K none 9 (.ops [zm 4 0,zm 5 0,zo 6<|.lenS 5,zm 7 1,oF F 8 207 [4,6,7]]) (sl0 0 [u,.func (F 175) [sv] []]) [] (m++([]++t)) (Fin P [] λ_ s'=>∃R o' j,s'.Perm (m++(o'++(j++t)))/\Gr 4 u (ey R) o'/\R.Perm L) (λ_ _ _ _=>False) (Fin P [] λ_ s'=>∃R o' j,s'.Perm (m++(o'++(j++t)))/\Gr 4 u (ey R) o'/\R.Perm L):=by
  intro he u hu hG
  have hL:L=[]:=by
   grind
  refine Wo<|W (k:=Ww<|W1 (wK hC) ?_)
  rintro w _ rfl
  exact Wn<|Wm .nil ⟨[],[],[],.refl _,hG,by rw[hL]⟩
 generalize hE:ey L=E at h
 cases h with
 | nil=>exact nil hE rfl .nil
 | zero=>exact nil hE rfl .zero
 | @rows b n c _ X hn2 hc hL=>
  subst hE
  rw[hl]at hn2
  subst hn2
  refine WP.pre (s':=(b,.r false (ey L++X) 4)::(m++t)) (uS)<|Wo<|W (k:=Ww<|W1 (acL hC hT hS hn) ?_)
  rintro w _ ⟨m2,rfl⟩
  refine Wn<|Wm .nil ⟨L,[(b,.r false (ey L++X) 4)],m2,uS,Gr.rows hl.symm hc hL,.refl _⟩
theorem BaseC.Xc (hC:BaseC P K F T):FnK P K (F 172) 42 [.tmp 4] (xp true (F 206) 4 [iv 0,iv 0,iv 0,iv 0]):=hC.f172
theorem BaseC.Xe (hC:BaseC P K F T):FnK P K (F 206) 19 [.tmp 4] (CU true 4):=hC.f206
def yl:List AV->Bool
 | .int _ op::_=>decide<|cx op=0
 | _=>false
theorem yZ (hC:BaseC P K F T)(hT:TyC P T){m o:SH}(h:Gr 4 v (ey L) o)(hn:L.length<=1000) :
  bB P K (F 172) [v,.func (F 173) [] []] (m++(o++t)) (λv' s'=>∃o' x,s'=x++(m++(o'++t))/\Gr 4 v' (ey<|L.filter λe=>!decide (cx e.op=0)) o'):=by
 have dP:∀row∈ey L,∀y:SH,c6 P K (.func (F 173) [] []) [N0 true row] y (λw s'=>w=.bool (yl row)/\∃m,s'=m++y):=λrow hr y=>by
  obtain⟨q,_,rfl⟩:=List.mem_map.1 hr
  exact c6.func<|wc hC hT
 have hlen:∀row∈ey L,row.length=4:=λrow hr=>by
  obtain⟨q,_,rfl⟩:=List.mem_map.1 hr
  rfl
 have vq:(ey L).filter (λr=>!yl r)=ey (L.filter λe=>!decide (cx e.op=0)):=by
  unfold ey
  rw[List.filter_map]
  rfl
 refine hC.Xc.cF<|xq yl h (by omega) rfl (.inl rfl) (by simp only[ey,List.length_map];omega) hlen (λh=>by cases h) ?_ (λrow hr y hy=>dP row hr y) λv' o' y hG=>⟨o',y,rfl,by grind⟩
 exact hC.Xe.cF<|vz yl h.src (by omega) (.inl rfl) (by simp only[ey,List.length_map];omega) hlen (λrow hr y=>dP row hr _) λn=>⟨rfl,n,rfl⟩
structure AD where
 kind:Int
 ev:Int
 who:Int
 n3:Int
 n4:Int
 n5:Int
 n6:Int
 tap:Bool
 tg:AV
 cd:AV
 op:Int
 a:Int
 b:Int
@[reducible] def AD.row (x:AD):List AV:=[iv x.kind,iv x.ev,iv x.who,iv x.n3,iv x.n4,iv x.n5,iv x.n6,.bool x.tap,x.tg,x.cd,iv x.op,iv x.a,iv x.b]
structure CD where
 nm:ByteArray
 kind:Int
 n2:Int
 n3:Int
 n4:Int
 n5:Int
 n6:Int
 power:Int
 qn:Int
 keys:Int
 av:AV
 ab:List AD
@[reducible] def CD.row (c:CD):List AV:=[.str c.nm,iv c.kind,iv c.n2,iv c.n3,iv c.n4,iv c.n5,iv c.n6,iv c.power,iv c.qn,iv c.keys,c.av]
structure cI (s:SH)(cv:AV)(C:List CD):Prop where
 src:Src s 11 cv (C.map CD.row)
 ab:∀c∈C,Src s 13 c.av<|c.ab.map AD.row
 n:C.length<=1000
 nb:∀c∈C,c.ab.length<=1000
variable {cv:AV}{C:List CD}
theorem cI.mono (h:cI s cv C)(hs:∀p,p∈s->p∈s'):cI s' cv C:=⟨h.src.mono hs,λc hc=>(h.ab c hc).mono hs,h.n,h.nb⟩
def SD.onF (d:SD)(C:List CD)(id:Int):Option (OD × CD):=
 match d.find id with
 | none=>none
 | some i=>if id∈d.fi then match d.ob[i]? with
  | none=>none
  | some o=>if o.gE<0 then none else match C[o.gE.toNat]? with
   | none=>none
   | some c=>some (o,c)
  else none
def Bj (d:SD)(C:List CD)(id:Int)(v:AV):Prop:=
 (∃o c,d.onF C id=some (o,c)/\c.kind=2/\o∈d.ob/\c∈C/\v=.tuple [.agg o.row,.agg c.row,.bool true]) \/
  ((∀o c,d.onF C id=some (o,c)->c.kind≠2)/\∃(o:OD)(c:CD),v=.tuple [.agg o.row,.agg c.row,.bool false])
theorem J3 (c:CD)(h:Src s 13 c.av (c.ab.map AD.row)):dz (.agg c.row) (.agg c.row)=true:=by
 have hs:=h.sameN 4
 show sameL (sameN 5) c.row c.row=true
 simp only[sameL,hs,Bool.and_true]
 simp[sameN,same0,gd,keq]
@[reducible] def yz:List AV:=zL0
theorem ta (hB:Base P K F T)(hC:BaseC P K F T)(q9:Ty P (T 45) 14)(IZ:Ty P (T 99) 11)(eQ:cI s cv C)(h:mD s pv ov lv hv gv ev fv sv wv d)(hd:d.Small)(hcd:∀o∈d.ob,∃j:Nat,o.gE=.ofNat j/\j<C.length) :
  bB P K (F 121) [cv,.agg<|d.cells pv ov lv hv gv ev fv sv wv,iv id] s (λv s'=>Bj d C id v/\∃m,s'=m++s):=by
 have hn:=hd.n1
 refine hC.f121.cF ?_
 refine Wq<|Wa (.box rfl rfl) λb4=>Wa (.alloc rfl) λb6=>Wa (.alloc rfl) λb7=>Vk (k:=Ww<|W1 (lg hB (h.ob.mono λp hp=>by simp[hp]) hd) ?_)
 rintro w _ ⟨rfl,m1,rfl⟩
 refine Wv rfl<|Wn ?_
 by_cases hf:(∃i,d.find id=some i)/\id∈d.fi
 ·obtain⟨⟨i,hi⟩,hm⟩:=hf
  obtain⟨Uw,ho⟩:∃h:i<d.ob.length,d.ob[i]?=some d.ob[i]:=by
   obtain⟨h1,_⟩:=List.findIdx?_eq_some_iff_getElem.1 hi
   exact⟨h1,List.getElem?_eq_getElem h1⟩
  have hmem:d.ob[i]∈d.ob:=List.getElem_mem _
  obtain⟨j,hj,A3⟩:=hcd _ hmem
  generalize d.ob[i]=o at ho hmem hj
  have zC:C[j]?=some C[j]:=List.getElem?_eq_getElem A3
  have IR:C[j]∈C:=List.getElem_mem _
  generalize C[j]=c at zC IR
  have sj:d.onF C id=some (o,c):=by
   simp only[SD.onF,hi,if_pos hm,ho,hj]
   rw[if_neg (by show¬Int.ofNat j<0;exact Int.not_lt.2<|Int.natCast_nonneg j)]
   show(match C[j]? with | none=>none | some c=>some (o,c))=_
   rw[zC]
  rw[hi]
  refine Ws<|Wq<|W (k:=Ww<|W1 (mJ hC (h.fi.mono λp hp=>by simp[hp])<|by omega) ?_)
  rintro w _ ⟨rfl,rfl⟩
  rw[decide_eq_true hm]
  refine Wy<|Wr (.un (v:=.bool false) rfl rfl)<|Wr (.bj rfl rfl)<|Wn<|Wd rfl fS<|λ_=>Wi ?_
  obtain⟨bo,ro,no,co,ZE,WE,Mo,rfl,IM,hin,hrow⟩:=h.ob.at (i:=i)<|by simpa[fy]using Uw
  have n8:Mo[ro+i]?=some o.row:=by rw[hrow];simp only[fy,List.getElem?_map,ho];rfl
  refine Wq<|W (k:=Ww<|Wt rfl rfl rfl (.app<|.there .here) rfl rfl<|Wn ?_)
  have hge:binV .geq (iv o.gE) (iv<|.ofNat C.length)=some (.bool false):=by
   rw[hj,th,decide_eq_true<|show Int.ofNat j<Int.ofNat C.length from Int.ofNat_lt.2 A3];rfl
  have hlt:binV .lss (iv o.gE) (iv 0)=some (.bool false):=by
   rw[hj,eT,decide_eq_false<|show¬Int.ofNat j<0 from Int.not_lt.2<|Int.natCast_nonneg j]
  have hlen:lenOf cv=some C.length:=by rw[eQ.src.lenOf,List.length_map]
  refine Ws<|Wq<|W (k:=Wn<|Wd rfl fS<|λ_=>Wi ?_)
  obtain⟨bc,rc,nc,cc,slc,roc,Mc,rfl,hbc,CC,aaV⟩:=eQ.src.at (i:=j)<|by simpa using A3
  have n9:Mc[rc+j]?=some c.row:=by rw[aaV];simp only[List.getElem?_map,zC];rfl
  refine Wq<|Wv rfl<|Wf rfl<|Wl rfl (.app<|.there .here) rfl rfl rfl<|Wr (.iaddrS rfl (by rw[hj];rfl) CC<|by decide)<|Wl rfl (.app<|.there<|.there<|.there hbc) n9 rfl rfl<|Ww<|Wt rfl rfl rfl (.app .here) rfl rfl<|Wn<|Ws<|WP.bD<|Dl rfl .nil (.load rfl (.app<|.there .here) rfl rfl rfl)<|WD.lk rfl .nil (.load rfl (.app .here) rfl rfl rfl)<|Dp (.faddr rfl)<|Dl rfl .nil (.load rfl (.app .here) rfl rfl rfl)<|Dp (.eql rfl rfl<|cD _ _)<|Dc .nil<|Wt rfl rfl rfl (.app<|.there .here) rfl rfl<|Dc .nil<|Wt rfl rfl rfl (.app .here) rfl rfl<|Dp (.mv rfl)<|D0 .nil ?_<|ob2 (J3 c<|eQ.ab c IR) (.load rfl (.app .here) rfl rfl rfl)<|.load rfl (.app .here) rfl rfl rfl
  refine We<|Wm (.cell rfl q9.1 q9.2 (.inl rfl) (.app<|.there .here) rfl rfl rfl<|.cell rfl IZ.1 IZ.2 (.inl rfl) (.app .here) rfl rfl rfl<|.tmp rfl .nil) ⟨?_,_,pull yh⟩
  by_cases hk:c.kind=2
  ·exact .inl ⟨o,c,sj,hk,hmem,IR,by show AV.tuple [_,_,.bool<|decide<|c.kind=2]=_;rw[decide_eq_true hk]⟩
  ·refine .inr ⟨λo2 c2 h2=>?_,o,c,by show AV.tuple [_,_,.bool<|decide<|c.kind=2]=_;rw[decide_eq_false hk]⟩
   rw[sj]at h2
   cases h2
   exact hk
 ·have hno:∀o c,d.onF C id=some (o,c)->c.kind≠2:=by
   intro o c h2
   unfold SD.onF at h2
   split at h2
   ·cases h2
   ·rename_i i hi
    split at h2
    ·rename_i hm
     exact absurd ⟨⟨i,hi⟩,hm⟩ hf
    ·cases h2
  have fin:∀{l2:Sl}{m:SH},lk l2 6=some (.ptr<|some ⟨b6,0,0⟩)->lk l2 7=some (.ptr<|some ⟨b7,0,0⟩)->WP P K none 51 (.seq (.drawn 0 [zr (zo 22<|.load true 14 6) 0 0 0,zr (zo 23<|.load true 11 7) 0 1 0,zh (zn<|.store 14 6 22) 1,zh (zn<|.store 11 7 23) 7,zp (zo 8<|.mv<|.const<|.bool false) 15]) .ret) l2 [] (m++((b7,.r false [yz] 11)::(b6,.r false [dB] 14)::(b4,.r false [d.cells pv ov lv hv gv ev fv sv wv] 25)::s)) (λ_ _ _=>False) (λ_ _ _ _=>False) (Fin P [.cell 6 (T 45),.cell 7<|T 99,.tmp 8] λv s'=>Bj d C id v/\∃m,s'=m++s):=by
   intro l2 m h6 h7
   refine Ws<|WP.bD<|Dl rfl .nil (.load h6 (.app<|.there .here) rfl rfl rfl)<|WD.lk rfl .nil (.load h7 (.app .here) rfl rfl rfl)<|Dc .nil<|Wt h6 rfl rfl (.app<|.there .here) rfl rfl<|Dc .nil<|Wt h7 rfl rfl (.app .here) rfl rfl<|Dp (.mv rfl)<|D0 .nil ?_<|ob2 (by show sameL (sameN 5) yz yz=true;simp[sameL,sameN,same0,gd,keq]) (.load h7 (.app .here) rfl rfl rfl)<|.load h7 (.app .here) rfl rfl rfl
   exact We<|Wm (.cell h6 q9.1 q9.2 (.inl rfl) (.app<|.there .here) rfl rfl rfl<|.cell h7 IZ.1 IZ.2 (.inl rfl) (.app .here) rfl rfl rfl<|.tmp rfl .nil) ⟨.inr ⟨hno,⟨0,0,0,0,0,false,false,false,0,0,0,0,false⟩,⟨⟨#[]⟩,0,0,0,0,0,0,0,0,0,nilS,[]⟩,rfl⟩,_,pull yh⟩
  cases hi:d.find id with
  | none=>
   refine Ws<|Wq<|W (k:=Wn<|Wd rfl (λ_=>?_) Dz)
   exact(fin rfl rfl).post (λ_ _ _ h=>h.elim) (λ_ _ _ _ h=>h) (λ_ _ _ h=>h)
  | some i=>
   have hm:¬id∈d.fi:=λhm=>hf ⟨⟨i,hi⟩,hm⟩
   refine Vk (k:=Ww<|W1 (mJ hC (h.fi.mono λp hp=>by simp[hp])<|by omega) ?_)
   rintro w _ ⟨rfl,rfl⟩
   rw[decide_eq_false hm]
   refine Wy<|Wr (.un (v:=.bool true) rfl rfl)<|Wr (.bj rfl rfl)<|Wn<|Wd rfl (λ_=>?_) Dz
   exact(fin rfl rfl).post (λ_ _ _ h=>h.elim) (λ_ _ _ _ h=>h) (λ_ _ _ h=>h)
def Ch (w:Int)(o b:OD):Bool:=if w=1 then decide (o.aQ=b.aQ)else true
def jU (o b:OD)(l:List AD):List ED:=(l.filter λx=>decide (x.kind=4)&&Ch x.who o b).map λx=>⟨x.op,x.a,x.b,o.stamp⟩
theorem lS (o b:OD)(l:List AD)(x:AD):jU o b (l++[x])=jU o b l++if(decide (x.kind=4)&&Ch x.who o b)=true then [⟨x.op,x.a,x.b,o.stamp⟩]else []:=by
 unfold jU
 rw[List.filter_append,List.map_append]
 congr 1
 split
 ·rename_i h
  simp only[List.filter_cons,h,List.filter_nil,if_true,List.map_cons,List.map_nil]
 ·rename_i h
  simp only[List.filter_cons,h,List.filter_nil]
  rfl
theorem sx (o b:OD)(l:List AD):(jU o b l).length<=l.length:=by
 unfold jU
 rw[List.length_map]
 exact List.length_filter_le ..
theorem Ci (hC:BaseC P K F T){b:OD}{w:Int}(hw:w=1\/w=2):bB P K (F 171) [iv w,.agg o.row,.agg b.row] s (λv s'=>v=.bool (Ch w o b)/\∃m,s'=m++s):=by
 rcases hw with rfl|rfl
 ·exact Cf hC
 ·exact Cg hC
theorem Lv (hC:BaseC P K F T){b3 b7 sf:Nat}{ro3 ro7:Bool}{b:OD}{c:CD}{m og:SH}(eQ:cI t cv C)(h3:Has b3 (.r ro3 [[cv]] 1) t)(h7:Has b7 (.r ro7 [b.row] 14) t)
  (hj:∃j:Nat,o.gE=.ofNat j/\C[j]?=some c) (hw:∀x∈c.ab,x.kind=4->x.who=1\/x.who=2) (hG:Gr 4 lv (ey L) og) (hL:L.length<=100000) :
  bB P K (F 170) [.agg o.row,.ptr<|some ⟨b3,0,0⟩,.ptr<|some ⟨b7,0,0⟩,.ptr<|some ⟨sf,0,0⟩] ((sf,.r false [[lv]] 1)::(m++(og++t)))
   (λ_ s'=>∃tf tM m',s'.Perm ((sf,.r false [[tf]] 1)::(m'++(tM++t)))/\Gr 4 tf (ey<|L++jU o b c.ab) tM):=by
 obtain⟨j,hj,vp⟩:=hj
 obtain⟨A3,zC⟩:=List.getElem?_eq_some_iff.1 vp
 have IR:c∈C:=zC▸List.getElem_mem _
 have hab:=eQ.ab c IR
 have hnb:=eQ.nb c IR
 refine hC.f170.cF ?_
 refine Vk (k:=λb4=>Wn ?_)
 have hge:binV .geq (iv o.gE) (iv<|.ofNat C.length)=some (.bool false):=by
  rw[hj,th,decide_eq_true<|show Int.ofNat j<Int.ofNat C.length from Int.ofNat_lt.2 A3];rfl
 have hlt:binV .lss (iv o.gE) (iv 0)=some (.bool false):=by
  rw[hj,eT,decide_eq_false<|show¬Int.ofNat j<0 from Int.not_lt.2<|Int.natCast_nonneg j]
 have hlen:lenOf cv=some C.length:=by rw[eQ.src.lenOf,List.length_map]
 refine Vk (k:=?_)
 obtain⟨bc,rc,nc,cc,slc,roc,Mc,rfl,hbc,CC,aaV⟩:=eQ.src.at (i:=j)<|by simpa using A3
 have n9:Mc[rc+j]?=some c.row:=by rw[aaV];simp only[List.getElem?_map,vp];rfl
 have YD:lenOf c.av=some c.ab.length:=by rw[hab.lenOf,List.length_map]
 refine Vk (k:=Wr (.iaddrS rfl (by rw[hj];rfl) CC<|by decide)<|Wf rfl<|Wl rfl (.there<|.there<|.app<|.app hbc) n9 rfl rfl<|Wr (.lenS rfl YD)<|Wv rfl<|Wn<|Wb ?_)
 refine Wp (λk l ds s'=>ds=[]/\∃q tf tM m',k=c.ab.length-q/\q<=c.ab.length/\s'.Perm ((sf,.r false [[tf]] 1)::(b4,.r false [o.row] 14)::(m'++(tM++t)))/\Gr 4 tf (ey<|L++jU o b (c.ab.take q)) tM /\
   ∀i w,lk [(2,.ptr (some ⟨b7,0,0⟩)),(3,.ptr (some ⟨sf,0,0⟩)),(4,.ptr (some ⟨b4,0,0⟩)),(22,c.av),(23,iv (.ofNat c.ab.length)),(24,iv (.ofNat q))] i=some w->lk l i=some w) ?_ (n:=c.ab.length-0)
  ⟨rfl,0,lv,og,m,rfl,Nat.zero_le _,.swap _ _ _,by rw[List.take_zero];simpa[jU]using hG,bX rfl⟩
 rintro k l ds s' ⟨rfl,q,tf,tM,m',rfl,hq,hp,pI,hl⟩
 refine WP.pre hp<|Wg hl (λ_ _ h=>h)<|Vk (k:=Wd rfl (λht=>?_)<|λht=>?_)
 ·have hlt:q<c.ab.length:=bh.1 ht
  have hx:c.ab[q]?=some c.ab[q]:=List.getElem?_eq_getElem hlt
  have KP:c.ab[q]∈c.ab:=List.getElem_mem _
  generalize c.ab[q]=x at hx KP
  have gc:c.ab.take (q+1)=c.ab.take q++[x]:=by rw[List.take_add_one,hx];rfl
  obtain⟨ba,ra,na,ca,J5,Sp,Ma,xD,hba,me,gH⟩:=hab.at (i:=q)<|by simpa using hlt
  have eE:Ma[ra+q]?=some x.row:=by rw[gH];simp only[List.getElem?_map,hx];rfl
  refine Wi<|Ws<|Wb<|Wq<|Wr (.iaddrS (congrArg some xD) rfl me<|by decide)<|Wl rfl (.there<|.there<|.app<|.app hba) eE rfl rfl<|Wa (.alloc rfl) λb6=>Ww<|Wt (s':=(b6,.r false [x.row] 13)::_) rfl rfl rfl .here rfl rfl<|Wn ?_
  by_cases hk:x.kind=4
  ·have hkk:eqBy 20 .pi (iv x.kind) (iv 4)=some true:=by rw[cD,decide_eq_true hk]
   refine Wq<|W (k:=Ww<|W1 (Ci hC<|hw x KP hk) ?_)
   rintro w _ ⟨rfl,m1,rfl⟩
   refine Vk (k:=Wd rfl (λhb=>?_)<|λhb=>Wi ?_)
   ·have X1:jU o b (c.ab.take<|q+1)=jU o b (c.ab.take q)++[⟨x.op,x.a,x.b,o.stamp⟩]:=by
     rw[gc,lS,hb,hk];rfl
    have UA:(ey<|L++jU o b (c.ab.take q)).length+1<=901000:=by
     have:=sx o b<|c.ab.take q
     have h2:(c.ab.take q).length<=c.ab.length:=by rw[List.length_take];omega
     simp only[ey,List.length_map,List.length_append];omega
    refine Wo<|Wl rfl (.app<|.there .here) rfl rfl rfl<|Wf rfl<|Wl rfl (.app .here) rfl rfl rfl<|Wf rfl<|Wl rfl (.app .here) rfl rfl rfl<|Wf rfl<|Wl rfl (.app .here) rfl rfl rfl<|Wf rfl<|Wl rfl (.app<|.there<|.there .here) rfl rfl rfl<|Wr (.build (cs:=(⟨x.op,x.a,x.b,o.stamp⟩:ED).row) rfl rfl)<|Wa (.bslice (L:=[(⟨x.op,x.a,x.b,o.stamp⟩:ED).row]) rfl rfl) λW5=>Ww<|WS.pre (s':=((W5,.r false [(⟨x.op,x.a,x.b,o.stamp⟩:ED).row] 4)::(sf,.r false [[tf]] 1)::(b4,.r false [o.row] 14)::(b6,.r false [x.row] 13)::(m1++m'))++(tM++t)) (uS)<|WS.append_gr rfl pI rfl (Src.all (L:=[(⟨x.op,x.a,x.b,o.stamp⟩:ED).row]) .here) (by decide) UA (by decide) λnw A9 jk xB=>Ww<|Wt (s':=A9++((W5,.r false [(⟨x.op,x.a,x.b,o.stamp⟩:ED).row] 4)::(sf,.r false [[nw]] 1)::(b4,.r false [o.row] 14)::(b6,.r false [x.row] 13)::(m1++m')++(jk++t))) rfl rfl xB.out.src.part (.app<|.there .here) rfl rfl<|Vk (k:=?_)
    refine⟨c.ab.length-(q+1),by omega,rfl,q+1,nw,A9,(W5,.r false [(⟨x.op,x.a,x.b,o.stamp⟩:ED).row] 4)::(b6,.r false [x.row] 13)::(m1++(m'++jk)),rfl,hlt,uS,?_,bX rfl⟩
    have:ey (L++jU o b (c.ab.take<|q+1))=ey (L++jU o b (c.ab.take q))++[(⟨x.op,x.a,x.b,o.stamp⟩:ED).row]:=by
     rw[X1];simp[ey]
    rw[this]
    exact xB
   ·refine Vk (k:=?_)
    refine⟨c.ab.length-(q+1),by omega,rfl,q+1,tf,tM,(b6,.r false [x.row] 13)::(m1++m'),rfl,hlt,uS,?_,bX rfl⟩
    rw[gc,lS,hb]
    simpa using pI
  ·have hkk:eqBy 20 .pi (iv x.kind) (iv 4)=some false:=by rw[cD,decide_eq_false hk]
   refine Vk (k:=?_)
   refine Vk (k:=?_)
   refine Vk (k:=?_)
   refine⟨c.ab.length-(q+1),by omega,rfl,q+1,tf,tM,(b6,.r false [x.row] 13)::m',rfl,hlt,uS,?_,bX rfl⟩
   rw[gc,lS,decide_eq_false hk]
   simpa using pI
 ·refine Wx ?_
  have:q=c.ab.length:=by
   have:¬q<c.ab.length:=λh=>by rw[fw,show Nat.blt q c.ab.length=true from bh.2 h]at ht;cases ht
   omega
  rw[this,List.take_length]at pI
  exact Wm .nil ⟨tf,tM,(b4,.r false [o.row] 14)::m',.refl _,pI⟩
def oneE (d:SD)(C:List CD)(b:OD)(n:Int):List ED:=
 match d.find n with
 | none=>[]
 | some i=>match d.ob[i]? with
  | none=>[]
  | some o=>match C[o.gE.toNat]? with
   | none=>[]
   | some c=>jU o b c.ab
def qy (d:SD)(C:List CD)(b:OD):List ED:=(d.fi.flatMap (oneE d C b)).filter λe=>!decide (cx e.op=0)
structure abp (d:SD)(C:List CD):Prop where
 cd:∀o∈d.ob,∃j:Nat,o.gE=.ofNat j/\j<C.length
 who:∀c∈C,∀x∈c.ab,x.kind=4->x.who=1\/x.who=2
 R8:∀b,(d.fi.flatMap<|oneE d C b).length<=39
 srt:∀b,Srt<|qy d C b
variable {bytes:Nat}{ss:Operand}{xv:AV}
theorem WS.uL {R:AV->List aD->SH->Prop}{x:Operand}{L:List (List AV)}{o:SH}(hs:opl l ss=some sv)(hG:Gr sz sv L o)(hx:opl l x=some xv)(hN:Src s sz xv [])(hz:sz≠0)(k:R sv ds s) :
  WS P K (.append sz bytes ss x) l ds s R:=by
 cases hG with
 | nil=>exact WS.append_none hs hx hN hz (Nat.le_refl _) k
 | zero=>exact WS.append_none hs hx hN hz (Nat.le_refl _) k
 | rows hn hc hL=>exact WS.append_none hs hx hN hz (by omega) k
theorem u7 (hB:Base P K F T)(hC:BaseC P K F T)(hT:TyC P T)(q9:Ty P (T 45) 14){c:CD}(eQ:cI s cv C)(h:mD s pv ov lv hv gv ev fv sv wv d)(hd:d.Small)(hcd:abp d C)
  (sj:d.onF C id=some (o,c)) (hk:c.kind=2) :
  bB P K (F 123) [cv,.agg<|d.cells pv ov lv hv gv ev fv sv wv,iv id] s (λv s'=>∃R m,R.Perm (qy d C o)/\s'.Perm (m++s)/\Src s' 4 v (ey R)):=by
 have hn:=hd.n1
 refine hC.f123.cF ?_
 refine Wq<|Wa (.box rfl eQ.src.part) λb3=>Wa (.box rfl rfl) λb4=>Wv rfl<|Wn<|Wq<|W (k:=Ww<|W1 (ta hB hC q9 hT.t99 (eQ.mono λp hp=>by simp[hp]) (h.mono λp hp=>by simp[hp]) hd hcd.cd) ?_)
 rintro w _ ⟨hF,m1,rfl⟩
 rcases hF with⟨o2,c2,UI,hk2,V4,IR,rfl⟩|⟨hno,_⟩
 rotate_left
 ·exact absurd hk<|hno o c sj
 rw[sj]at UI
 cases UI
 refine Wv rfl<|Wr (.extract rfl rfl)<|Wr (.extract rfl rfl)<|Wr (.extract rfl rfl)<|Wa (.alloc rfl) λb7=>Wa (.alloc rfl) λb8=>Ww<|Wt (s':=(b8,.r false [_] 11)::(b7,.r false [o.row] 14)::_) rfl rfl rfl (.there .here) rfl rfl<|Ww<|Wt (s':=(b8,.r false [c.row] 11)::_) rfl rfl rfl .here rfl rfl<|Wv rfl<|Wn<|Ws<|Wq<|Wv rfl<|Wr (.un (v:=.bool false) rfl rfl)<|Wn<|Wd rfl fS<|λ_=>Wi<|Wq<|Wa (.alloc rfl) λsf=>Wn<|Wq<|W (k:=Wn ?_)
 have YE:lenOf fv=some d.fi.length:=by rw[h.fi.lenOf,gq]
 refine Ws<|Wq<|W (k:=Wn<|Wb ?_)
 generalize ht:((b8,HO.r false [c.row] 11)::(b7,HO.r false [o.row] 14)::(m1++((b4,HO.r false [d.cells pv ov lv hv gv ev fv sv wv] 25)::(b3,HO.r false [[cv]] 1)::s)):SH)=t
 have h3:Has b3 (.r false [[cv]] 1) t:=by rw[<- ht];exact .there<|.there<|.app<|.there .here
 have h4:Has b4 (.r false [d.cells pv ov lv hv gv ev fv sv wv] 25) t:=by rw[<- ht];exact .there<|.there<|.app .here
 have h7:Has b7 (.r false [o.row] 14) t:=by rw[<- ht];exact .there .here
 have hst:∀p,p∈s->p∈t:=λp hp=>by rw[<- ht];simp[hp]
 have hts:∃m,t=m++s:=⟨_,by rw[<- ht];exact fN<|fN<|pull eW⟩
 refine Wp (λk l ds s'=>ds=[]/\∃q tf tM m',k=d.fi.length-q/\q<=d.fi.length/\s'.Perm ((sf,.r false [[tf]] 1)::(m'++(tM++t)))/\Gr 4 tf (ey<|(d.fi.take q).flatMap (oneE d C o)) tM /\
   ∀i w,lk [(3,.ptr (some ⟨b3,0,0⟩)),(4,.ptr (some ⟨b4,0,0⟩)),(7,.ptr (some ⟨b7,0,0⟩)),(10,.ptr (some ⟨sf,0,0⟩)),(11,.func (F 170) [] [.ptr (some ⟨b3,0,0⟩),.ptr (some ⟨b7,0,0⟩),.ptr (some ⟨sf,0,0⟩)]),(27,fv),(28,iv (.ofNat d.fi.length)),(29,iv (.ofNat q))] i=some w->lk l i=some w) ?_ (n:=d.fi.length-0)
  ⟨rfl,0,nilS,[],[],rfl,Nat.zero_le _,.refl _,.nil,bX rfl⟩
 rintro k l ds s' ⟨rfl,q,tf,tM,m',rfl,hq,hp,pI,hl⟩
 refine WP.pre hp<|Wg hl (λ_ _ h=>h)<|Wq<|W (k:=Wn<|Ws<|Wd rfl (λht=>?_)<|λht=>?_)
 ·have hlt:q<d.fi.length:=bh.1 ht
  have hx:d.fi[q]?=some d.fi[q]:=List.getElem?_eq_getElem hlt
  generalize d.fi[q]=n at hx
  have gc:(d.fi.take<|q+1).flatMap (oneE d C o)=(d.fi.take q).flatMap (oneE d C o)++oneE d C o n:=by rw[List.take_add_one,hx,List.flatMap_append];simp
  obtain⟨ba,ra,na,ca,J5,Sp,Ma,rfl,hba,me,gH⟩:=h.fi.at (i:=q) (by rw[gq];exact hlt)
  have eE:Ma[ra+q]?=some [iv n]:=by rw[gH,nR,List.getElem?_map,hx];rfl
  refine Wi<|Ws<|Wb<|Wq<|Wr (.iaddrS rfl rfl me<|by decide)<|Wl rfl (.there<|.app<|.app<|.ce<|hst _ hba.mem) eE rfl rfl<|Wv rfl<|Wn<|Wq<|Wl rfl (.there<|.app<|.app h4) rfl rfl rfl<|Wv rfl<|Ww<|W1 (lg hB (h.ob.mono λp hp=>by simp[hst p hp]) hd) ?_
  rintro w _ ⟨rfl,m2,rfl⟩
  refine Wv rfl<|Wn ?_
  have R8:((d.fi.take q).flatMap (oneE d C o)).length<=39:=by
   refine Nat.le_trans ?_<|hcd.R8 o
   conv=>rhs;rw[<- List.take_append_drop q d.fi,List.flatMap_append,List.length_append]
   omega
  cases hf:d.find n with
  | none=>
   refine Wq<|W (k:=Wn<|Wd rfl fS<|λ_=>Wi ?_)
   refine Wo<|Wj rfl rfl (bM<|by omega)<|Wv rfl<|Wn ?_
   refine⟨d.fi.length-(q+1),by omega,rfl,q+1,tf,tM,m2++m',rfl,hlt,uS,?_,bX rfl⟩
   rw[gc,oneE,hf]
   simpa using pI
  | some i=>
   obtain⟨Uw,ho⟩:∃h:i<d.ob.length,d.ob[i]?=some d.ob[i]:=by
    obtain⟨h1,_⟩:=List.findIdx?_eq_some_iff_getElem.1 hf
    exact⟨h1,List.getElem?_eq_getElem h1⟩
   have hmem:d.ob[i]∈d.ob:=List.getElem_mem _
   obtain⟨j,hj,A3⟩:=hcd.cd _ hmem
   generalize d.ob[i]=x at ho hmem hj
   have zC:C[j]?=some C[j]:=List.getElem?_eq_getElem A3
   have Ul:C[j]∈C:=List.getElem_mem _
   generalize C[j]=y at zC Ul
   have hone:oneE d C o n=jU x o y.ab:=by
    simp only[oneE,hf,ho,hj]
    show(match C[j]? with | none=>[] | some c=>jU x o c.ab)=_
    rw[zC]
   obtain⟨bo,ro,no,co,ZE,WE,Mo,rfl,IM,hin,hrow⟩:=h.ob.at (i:=i)<|by simpa[fy]using Uw
   have n8:Mo[ro+i]?=some x.row:=by rw[hrow];simp only[fy,List.getElem?_map,ho];rfl
   refine Wq<|W (k:=Wn<|Wd rfl (λ_=>?_) Dz)
   refine Wo<|WO.pre (s':=(sf,.r false [[tf]] 1)::((m2++m')++(tM++t))) (uS)<|Wv rfl<|Wf rfl<|Wl rfl (.there<|.app<|.app h4) rfl rfl rfl<|Wv rfl<|Wr (.iaddrS rfl rfl hin<|by decide)<|Wl rfl (.there<|.app<|.app<|.ce<|hst _ IM.mem) n8 rfl rfl<|Ww<|Wc (first:=[]) (vs:=[.agg x.row]) (cap:=[.ptr (some ⟨b3,0,0⟩),.ptr<|some ⟨b7,0,0⟩,.ptr<|some ⟨sf,0,0⟩]) rfl rfl (Lv hC (eQ.mono hst) h3 h7 ⟨j,hj,zC⟩ (hcd.who y Ul) pI<|by omega) ?_
   rintro w s2 ⟨nw,A9,m3,Gu,xB⟩
   refine Wn<|Wo<|Wj rfl rfl (bM<|by omega)<|Wv rfl<|Wn ?_
   refine⟨d.fi.length-(q+1),by omega,rfl,q+1,nw,A9,m3,rfl,hlt,Gu,?_,bX rfl⟩
   rw[gc,hone]
   exact xB
 ·refine Wx ?_
  have:q=d.fi.length:=by
   have:¬q<d.fi.length:=λh=>by rw[fw,show Nat.blt q d.fi.length=true from bh.2 h]at ht;cases ht
   omega
  rw[this,List.take_length]at pI
  have R8:=hcd.R8 o
  obtain⟨mt,UD⟩:=hts
  -- the VP own VT are none
  refine Wq<|W (k:=Ww<|WS.uL rfl pI rfl .nil (by decide) ?_)
  refine Ww<|Wt (s':=(sf,.r false [[tf]] 1)::_) rfl rfl pI.out.src.part .here rfl rfl<|Wn ?_
  refine Wq<|W (k:=Ww<|WS.pre (s':=((sf,.r false [[tf]] 1)::m')++(tM++t)) (.refl _)<|W1 (yZ hC hT pI<|by omega) ?_)
  rintro v2 _ ⟨o2,x2,rfl,xB⟩
  refine Ww<|Wt (s':=x2++((sf,.r false [[v2]] 1)::m'++(o2++t))) rfl rfl xB.out.src.part (.app .here) rfl rfl<|Wn<|Wq<|W (k:=Ww<|WS.pre (s':=(x2++((sf,.r false [[v2]] 1)::m'))++(o2++t)) (uS)<|W1 (J7 hC hT xB (hcd.srt _)<|Nat.le_trans (List.length_filter_le ..) R8) ?_)
  rintro w s3 ⟨R,o3,j3,UO,hG3,hR⟩
  refine WO.pre UO<|Wn<|Wq<|Wl rfl (.left<|.app .here) rfl rfl rfl<|Wv rfl<|Wn<|We<|Wm (.tmp rfl .nil) ?_
  refine⟨R,x2++((sf,.r false [[v2]] 1)::m')++(o3++(j3++mt)),hR,?_,hG3.out.src.mono λp hp=>by simp[hp]⟩
  rw[UD]
  exact uS
structure CH where
 p:Int
 t:Int
 k:Int
@[reducible] def CH.row (c:CH):List AV:=[iv c.p,iv c.t,iv c.k]
def FT (n:Int):Int:=match ilt n (.negSucc 998)with | true=>.negSucc 998 | false=>n
def oP (n:Int):Int:=match ilt 999 (FT n)with | true=>999 | false=>FT n
def CH.fin (c:CH):CH:=⟨oP c.p,oP c.t,c.k⟩
def tK (g:ED->CH->CH)(c:CH)(R:List ED):CH:=(R.foldl (λc e=>g e c) c.fin).fin
def lQ (P:Program)(K:Orc)(F:Nat->FuncId)(g:ED->CH->CH)(e:ED):Prop:=
 ∃fid,rowOf F e.op=[iv (cx e.op),.func fid [] []]/\∀(b:Nat)(c:CH)(s:SH),bB P K fid [.ptr (some ⟨b,0,0⟩),.agg e.row] ((b,.r false [c.row] 3)::s) (λ_ s'=>∃m,s'=m++((b,.r false [(g e c).row] 3)::s))
theorem bB.canon (h:bB P K f args s (λv s'=>∃s'',s'.Perm s''/\R v s'')):bB P K f args s R:=by
 intro H0 H hH
 obtain⟨v,s',H',h1,h2,s'',h3,h4⟩:=h H0 H hH
 exact⟨v,s'',H',h1,h2.perm h3,h4⟩
theorem WR.mmx {mx:Bool}{args:List Operand}{r:AV}{vs:List AV}(ha:aI (opl l) args=some (v::vs))(hv:aw (mm mx) vs v=some r):WR P (.minmax mx args) l s r:=
 WR.mk' (λ_ _ _ _ _=>rfl) (λe H he=>by simp only[aval,lG he ha,hv])
theorem lM (hC:BaseC P K F T):bB P K (F 168) [iv n] s (λv s'=>v=iv (oP n)/\s'=s):=by
 refine hC.f168.cF ?_
 refine Wq<|Wv rfl<|Wn ?_
 exact Wq<|Wv rfl<|Wr (.mmx rfl rfl)<|Wr (.mmx rfl rfl)<|Wv rfl<|Wn<|We<|Wm (.tmp rfl .nil) ⟨rfl,rfl⟩
variable {g:ED->CH->CH}
theorem Ir (hC:BaseC P K F T)(hT:TyC P T){c:CH}{R:List ED}(hv:Src s 4 v (ey R))(hR:R.length<=1000)(hg:∀e∈R,lQ P K F g e) :
  bB P K (F 122) [.agg c.row,v] s (λw s'=>w=.agg (tK g c R).row/\∃m,s'=m++s):=by
 refine hC.f122.cF ?_
 refine Wq<|Wa (.box rfl rfl) λb2=>Wa (.alloc rfl) λb4=>Vk (k:=WP.bD<|Dp (.faddr rfl)<|Dl rfl .nil (.load rfl (.there .here) rfl rfl rfl)<|Dc .nil<|W1 (lM hC) ?_)
 rintro w _ ⟨rfl,rfl⟩
 refine Dp (.faddr rfl)<|WD.lk rfl .nil (.load rfl (.there .here) rfl rfl rfl)<|Dc .nil<|W1 (lM hC) ?_
 rintro w _ ⟨rfl,rfl⟩
 refine Dp (.faddr rfl)<|Dc .nil<|Wt (s':=_::(b2,.r false [[iv (oP c.p),iv c.t,iv c.k]] 3)::_) rfl rfl rfl (.there .here) rfl rfl<|Dp (.faddr rfl)<|Dc .nil<|Wt (s':=_::(b2,.r false [c.fin.row] 3)::_) rfl rfl rfl (.there .here) rfl rfl<|D0 .nil ?_<|ob2 (iq 5 _) (.load rfl (.there .here) rfl rfl rfl)<|.load rfl (.there .here) rfl rfl rfl
 have hl:lenOf v=some R.length:=by rw[hv.lenOf];simp[ey]
 refine WP.pre (.swap _ _ _)<|Vk (k:=?_)
 refine Wp (λk l ds s'=>ds=[]/\∃q m,k=R.length-q/\q<=R.length/\s'=m++((b2,.r false [((R.take q).foldl (λc e=>g e c) c.fin).row] 3)::(b4,.r false [[iv 0,iv 0,iv 0]] 3)::s) /\
   ∀i w,lk [(2,.ptr (some ⟨b2,0,0⟩)),(4,.ptr (some ⟨b4,0,0⟩)),(16,v),(17,iv (.ofNat R.length)),(18,iv (.ofNat q))] i=some w->lk l i=some w) ?_ (n:=R.length-0)
  ⟨rfl,0,[],rfl,Nat.zero_le _,rfl,bX rfl⟩
 rintro k l ds s' ⟨rfl,q,m,rfl,hq,rfl,hl⟩
 refine Wg hl (λ_ _ h=>h) ?_
 refine Vk (k:=Wd rfl (λht=>?_)<|λht=>?_)
 ·have hlt:q<R.length:=bh.1 ht
  have hx:R[q]?=some R[q]:=List.getElem?_eq_getElem hlt
  have KP:R[q]∈R:=List.getElem_mem _
  generalize R[q]=e at hx KP
  obtain⟨fid,hrow,hstep⟩:=hg e KP
  have gc:(R.take<|q+1).foldl (λc e=>g e c) c.fin=g e ((R.take q).foldl (λc e=>g e c) c.fin):=by rw[List.take_add_one,hx,List.foldl_append];rfl
  generalize (R.take q).foldl (λc e=>g e c) c.fin=cq at gc
  obtain⟨ba,ra,na,ca,J5,Sp,Ma,rfl,hba,me,gH⟩:=hv.at (i:=q)<|by simpa[ey]using hlt
  have eE:Ma[ra+q]?=some e.row:=by rw[gH];simp only[ey,List.getElem?_map,hx];rfl
  refine Wi<|Ws<|Wb<|Wq<|Wr (.iaddrS rfl rfl me<|by decide)<|Wl rfl (.app<|.there<|.there hba) eE rfl rfl<|Wa (.alloc rfl) λb6=>Ww<|Wt (s':=(b6,.r false [e.row] 4)::_) rfl rfl rfl .here rfl rfl<|Wn<|Wq<|W (k:=Ww<|W1 (lD hC hT) ?_)
  rintro w _ ⟨rfl,m1,rfl⟩
  rw[hrow]
  refine Wa (.alloc rfl) λb7=>Ww<|Wt (s':=(b7,.r false [[iv (cx e.op),.func fid [] []]] 2)::_) rfl rfl rfl .here rfl rfl<|Wn ?_
  refine Wq<|W (k:=Wn ?_)
  refine Wd rfl (λ_=>?_) Dz
  refine Wo<|W (k:=Ww<|WS.pre (s':=(b2,.r false [cq.row] 3)::((b7,.r false [[iv (cx e.op),.func fid [] []]] 2)::(m1++((b6,.r false [e.row] 4)::(m++((b4,.r false [[iv 0,iv 0,iv 0]] 3)::s)))))) (uS)<|WS.perm<|W1 (hstep b2 cq _) ?_)
  rintro w _ ⟨m3,rfl⟩
  refine⟨((m3++((b7,.r false [[iv (cx e.op),.func fid [] []]] 2)::m1))++((b6,.r false [e.row] 4)::m))++((b2,.r false [(g e cq).row] 3)::(b4,.r false [[iv 0,iv 0,iv 0]] 3)::s),uS,Wn ?_⟩
  refine Vk (k:=?_)
  exact⟨R.length-(q+1),by omega,rfl,q+1,_,rfl,hlt,by rw[gc],bX rfl⟩
 ·refine Wx ?_
  have:q=R.length:=by
   have:¬q<R.length:=λh=>by rw[fw,show Nat.blt q R.length=true from bh.2 h]at ht;cases ht
   omega
  rw[this,List.take_length]
  unfold tK
  generalize R.foldl (λc e=>g e c) c.fin=cq
  refine Ws<|WP.bD<|Dp (.faddr rfl)<|Dl rfl .nil (.load rfl (.app .here) rfl rfl rfl)<|Dc .nil<|W1 (lM hC) ?_
  rintro w _ ⟨rfl,rfl⟩
  refine Dp (.faddr rfl)<|WD.lk rfl .nil (.load rfl (.app .here) rfl rfl rfl)<|Dc .nil<|W1 (lM hC) ?_
  rintro w _ ⟨rfl,rfl⟩
  refine Dp (.faddr rfl)<|Dc .nil<|Wt (s':=m++((b2,.r false [[iv (oP cq.p),iv cq.t,iv cq.k]] 3)::_)) rfl rfl rfl (.app .here) rfl rfl<|Dp (.faddr rfl)<|Dc .nil<|Wt (s':=m++((b2,.r false [cq.fin.row] 3)::_)) rfl rfl rfl (.app .here) rfl rfl<|D0 .nil ?_<|ob2 (iq 5 _) (.load rfl (.app .here) rfl rfl rfl)<|.load rfl (.app .here) rfl rfl rfl
  refine Vk (k:=Ww<|Wt (s':=m++((b2,_)::(b4,.r false [cq.fin.row] 3)::s)) rfl rfl rfl (.app<|.there .here) rfl rfl<|Wn<|We<|Wm (.cell rfl hT.t71.1 hT.t71.2 (.inl rfl) (.app<|.there .here) rfl rfl rfl .nil) ?_)
  exact⟨rfl,_,pull eW⟩
def qq (g:ED->CH->CH)(d:SD)(C:List CD)(id:Int)(v:AV):Prop:=
 (∃o c R,d.onF C id=some (o,c)/\c.kind=2/\o∈d.ob/\c∈C/\R.Perm (qy d C o)/\v=.tuple [.agg (tK g ⟨c.power,c.qn,c.keys⟩ R).row,.bool true]) \/
  ((∀o c,d.onF C id=some (o,c)->c.kind≠2)/\v=.tuple [.agg [iv 0,iv 0,iv 0],.bool false])
theorem Qs (hB:Base P K F T)(hC:BaseC P K F T)(hT:TyC P T)(q9:Ty P (T 45) 14)(eQ:cI s cv C)(h:mD s pv ov lv hv gv ev fv sv wv d)(hd:d.Small)(hcd:abp d C)
  (hg:∀o,∀e∈qy d C o,lQ P K F g e) :
  bB P K (F 77) [cv,.agg<|d.cells pv ov lv hv gv ev fv sv wv,iv id] s (λv s'=>qq g d C id v/\∃m,s'=m++s):=by
 refine hC.f77.cF ?_
 refine Wq<|Wa (.box rfl rfl) λb4=>Wa (.alloc rfl) λb6=>Vk (k:=Ww<|W1 (ta hB hC q9 hT.t99 (eQ.mono λp hp=>by simp[hp]) (h.mono λp hp=>by simp[hp]) hd hcd.cd) ?_)
 rintro w _ ⟨hF,m1,rfl⟩
 rcases hF with⟨o,c,sj,hk,V4,IR,rfl⟩|⟨hno,o,c,rfl⟩
 ·refine Wv rfl (Wr (.extract rfl rfl)<|Wr (.extract rfl rfl)<|Wr (.extract rfl rfl)<|Wa (.alloc rfl) λb8=>Wa (.alloc rfl) λb9=>Ww<|Wt (s':=(b9,.r false [_] 11)::(b8,.r false [o.row] 14)::_) rfl rfl rfl (.there .here) rfl rfl<|Vk (k:=WP.bD<|Dp (.faddr rfl)<|WD.lk rfl .nil (.load rfl .here rfl rfl rfl)<|Dp (.faddr rfl)<|WD.lk rfl .nil (.load rfl .here rfl rfl rfl)<|Dp (.faddr rfl)<|WD.lk rfl .nil (.load rfl .here rfl rfl rfl)<|Dp (.build (cs:=(⟨c.power,c.qn,c.keys⟩:CH).row) rfl rfl)<|Dp (.mv rfl)<|Dl rfl .nil (.load rfl (.there<|.there<|.app<|.there .here) rfl rfl rfl)<|Dp (.mv rfl)<|Dc .nil<|WS.perm<|W1 (u7 hB hC hT q9 (eQ.mono λp hp=>by simp[hp]) (h.mono λp hp=>by simp[hp]) hd hcd sj hk) ?_))
  rintro w s2 ⟨R,m2,hR,Gu,hw⟩
  have hg':∀e∈R,lQ P K F g e:=λe he=>hg o e<|hR.mem_iff.1 he
  have hlen:R.length<=1000:=by
   rw[hR.length_eq]
   exact Nat.le_trans (Nat.le_trans (List.length_filter_le ..)<|hcd.R8 o)<|by omega
  refine⟨_,Gu,Dc .nil<|W1 (Ir hC hT (hw.mono λp hp=>Gu.mem_iff.1 hp) hlen hg') ?_⟩
  rintro w2 _ ⟨rfl,m3,rfl⟩
  refine Dc .nil<|Wt (s':=m3++(m2++(_::_::(m1++((b6,.r false [(tK g ⟨c.power,c.qn,c.keys⟩ R).row] 3)::_))))) rfl rfl rfl (.app<|.app<|.there<|.there<|.app .here) rfl rfl<|Dp (.mv rfl)<|D0 .nil ?_ ?_
  rotate_left
  ·intro x hx
   rcases List.mem_cons.1 hx with rfl|hx
   ·refine⟨(λi hi=>nomatch hi),Nat.zero_le _,iq 5 _,λk _ hk=>?_⟩
    rcases B8 hk with rfl|rfl
    ·exact⟨_,rfl,.load rfl .here rfl rfl rfl⟩
    ·exact⟨_,rfl,.load rfl (.app .here) rfl rfl rfl⟩
   rcases List.mem_cons.1 hx with rfl|hx
   ·refine⟨(λi hi=>nomatch hi),Nat.zero_le _,iq 5 _,λk _ hk=>?_⟩
    rcases B8 hk with rfl|rfl
    ·exact⟨_,rfl,.load rfl .here rfl rfl rfl⟩
    ·exact⟨_,rfl,.load rfl (.app .here) rfl rfl rfl⟩
   rw[List.mem_singleton.1 hx]
   refine⟨(λi hi=>nomatch hi),Nat.zero_le _,iq 5 _,λk _ hk=>?_⟩
   rcases B8 hk with rfl|rfl
   ·exact⟨_,rfl,.load rfl .here rfl rfl rfl⟩
   ·exact⟨_,rfl,.load rfl (.app .here) rfl rfl rfl⟩
  refine We<|Wm (.cell rfl hT.t71.1 hT.t71.2 (.inl rfl) (.app<|.app<|.there<|.there<|.app .here) rfl rfl rfl<|.tmp rfl .nil) ⟨.inl ⟨o,c,R,sj,hk,V4,IR,hR,rfl⟩,_,pull<|pull<|fN<|fN<|pull eW⟩
 ·refine Wv rfl<|Wr (.extract rfl rfl)<|Wr (.extract rfl rfl)<|Wr (.extract rfl rfl)<|Wa (.alloc rfl) λb8=>Wa (.alloc rfl) λb9=>Ww<|Wt (s':=(b9,.r false [_] 11)::(b8,.r false [o.row] 14)::_) rfl rfl rfl (.there .here) rfl rfl<|Ww<|Wt (s':=(b9,.r false [c.row] 11)::_) rfl rfl rfl .here rfl rfl<|Wv rfl<|Wn<|Ws<|Wq<|Wv rfl<|Wr (.un (v:=.bool true) rfl rfl)<|Wn<|Wd rfl (λ_=>Wq<|Wr (.build rfl rfl)<|Ww<|Wt (s':=_::_::(m1++((b6,.r false [[iv 0,iv 0,iv 0]] 3)::_))) rfl rfl rfl (.there<|.there<|.app .here) rfl rfl<|Wv rfl<|Wn<|We<|Wm (.cell rfl hT.t71.1 hT.t71.2 (.inl rfl) (.there<|.there<|.app .here) rfl rfl rfl<|.tmp rfl .nil) ⟨.inr ⟨hno,rfl⟩,_,fN<|fN<|pull eW⟩) Dz
theorem cI.part (h:cI s cv C):dz cv cv=true:=h.src.same
theorem aef (hB:Base P K F T)(hC:BaseC P K F T)(hT:TyC P T)(hs:aH bl EL d t s)(hd:d.Small)(hf:Has bf (.r false [bu bl aZ c0 c1 c2 c3 c4 bE] 8) t)(eQ:cI t aZ C)(hcd:abp d C)
  (hg:∀o,∀e∈qy d C o,lQ P K F g e) :
  bB P K (F 30) [.ptr (some ⟨bf,0,0⟩),iv id] s (λv s'=>qq g d C id v/\aH bl EL d t s'):=by
 refine hC.f30.cF ?_
 refine Vk (k:=λb4=>Vk (k:=WP.bD<|Dp (.mv rfl)<|Dp (.nilchk rfl rfl)<|Dp (.faddr rfl)<|WD.lk rfl .nil (.load rfl (.there<|hs.mem hf) rfl rfl rfl)<|Dp (.mv rfl)<|Dc .nil<|WS.perm<|W1 (cz hB hs.cons hd<|.there hf) ?_))
 rintro w s2 ⟨dt,pv,ov,lv,hv,gv,ev,fv,sv,wv,rfl,hR⟩
 obtain⟨s3,hp,gw⟩:=dt.first
 have Yk:cI s3 aZ C:=eQ.mono λp hp=>(gw.mem<|.ce hp).mem
 refine⟨_,hp,Dp (.mv rfl)<|Dc .nil<|W1 (Qs hB hC hT hB.t45 (Yk.mono λp hp=>by simp[hp]) (hR.mono λp h=>hp.mem_iff.1 h) hd hcd hg) ?_⟩
 rintro w _ ⟨hw,m,rfl⟩
 have Y8:∃(x:CH)(b:Bool),w=.tuple [.agg x.row,.bool b]:=by
  rcases hw with⟨o,c,R,_,_,_,_,_,rfl⟩|⟨_,rfl⟩
  ·exact⟨_,_,rfl⟩
  ·exact⟨⟨0,0,0⟩,_,rfl⟩
 obtain⟨x,b,rfl⟩:=Y8
 refine Dp (.extract rfl rfl)<|Dp (.extract rfl rfl)<|Dc .nil<|Wt (s':=m++((b4,.r false [x.row] 3)::_)) rfl rfl rfl (.app .here) rfl rfl<|Dp (.mv rfl)<|D0 .nil ?_<|ob2 eQ.part (.load rfl (.there<|hs.mem hf) rfl rfl rfl)<|.load rfl (.there<|gw.mem hf) rfl rfl rfl
 exact We<|Wm (.cell rfl hT.t71.1 hT.t71.2 (.inl rfl) (.app .here) rfl rfl rfl<|.tmp rfl .nil) ⟨hw,(aH.bK (m:=m)<|aH.bK (m:=[_]) gw)⟩
theorem Gf (hB:Base P K F T)(hC:BaseC P K F T){q:Int}(hs:aH bl EL d t s)(hd:d.Small)(hf:Has bf (.r false [bu bl aZ c0 c1 c2 c3 c4 bE] 8) t) :
  bB P K (F 36) [.ptr (some ⟨bf,0,0⟩),iv 2,iv q] s (λv s'=>∃m,aH bl EL d (m++t) s'/\Src m 1 v (nR d.fi)):=by
 have hn:=hd.n1
 refine hC.f36.cF ?_
 refine Vk (k:=Ww<|W1 (cz hB hs hd hf) ?_)
 rintro w s2 ⟨dt,pv,ov,lv,hv,gv,ev,fv,sv,wv,rfl,hR⟩
 have h90:bB P K (F 90) [.agg (d.cells pv ov lv hv gv ev fv sv wv),iv 2,iv q] s2 (λv s'=>∃m,s'=m++s2/\Src m 1 v (nR d.fi)):=by
  refine hC.f90.cF ?_
  refine Vk (k:=λb3=>Vk (k:=Wr (.build (cs:=d.cells pv ov lv hv gv ev fv sv wv) rfl rfl)<|Wa (.box rfl rfl) λb7=>Vk (k:=?_)))
  have XH:bB P K (F 136) [.ptr (some ⟨b7,0,0⟩),iv 2,iv q] ((b7,.r false [d.cells pv ov lv hv gv ev fv sv wv] 25)::(b3,.r false [d.cells pv ov lv hv gv ev fv sv wv] 25)::s2) (λv s'=>v=.ptr (some ⟨b7,0,6⟩)/\s'=(b7,.r false [d.cells pv ov lv hv gv ev fv sv wv] 25)::(b3,.r false [d.cells pv ov lv hv gv ev fv sv wv] 25)::s2):=by
   refine hB.f136.cF ?_
   refine Wq<|Wv rfl<|Wn<|Ws<|Wq<|Wv rfl<|Wh (b:=true) rfl rfl rfl<|Wn<|Wd rfl (λ_=>?_)<|λh=>by cases h
   exact Wq<|Wv rfl<|Wr (.nilchk rfl rfl)<|Wf rfl<|Wf rfl<|Wv rfl<|Wn<|We<|Wm (.tmp rfl .nil) ⟨rfl,rfl⟩
  refine Vk (k:=Ww<|W1 XH ?_)
  rintro w _ ⟨rfl,rfl⟩
  refine Vk (k:=Ww<|W1 (hB.VS.clone (hR.fi.mono λp hp=>by simp[hp]) (by omega) (by rw[gq];omega)<|by omega) ?_)
  rintro w _ ⟨m,rfl,hO⟩
  refine Wv rfl<|Wn<|We<|Wm (.tmp rfl .nil) ⟨_,pull eW,hO.src.mono λp hp=>by simp[hp]⟩
 refine W (k:=Ww<|W1 h90 ?_)
 rintro w _ ⟨m,rfl,hS⟩
 exact Wv rfl<|Wn<|We<|Wm (.tmp rfl .nil) ⟨m,dt.HW,hS⟩
def SD.obj (d:SD)(id:Int):Option OD:=
 match d.find id with
 | none=>none
 | some i=>d.ob[i]?
theorem Qq (hB:Base P K F T)(hC:BaseC P K F T)(hs:aH bl EL d t s)(hd:d.Small)(hf:Has bf (.r false [bu bl aZ c0 c1 c2 c3 c4 bE] 8) t) :
  bB P K (F 37) [.ptr (some ⟨bf,0,0⟩),iv id] s (λv s'=>v=(match d.obj id with | some o=>.tuple [.agg o.row,.bool true] | none=>.tuple [.agg dB,.bool false])/\aH bl EL d t s'):=by
 refine hC.f37.cF ?_
 refine Vk (k:=λb4=>Vk (k:=Ww<|W1 (cz hB hs.cons hd<|.there hf) ?_))
 rintro w s2 ⟨dt,pv,ov,lv,hv,gv,ev,fv,sv,wv,rfl,hR⟩
 obtain⟨s3,hp,gw⟩:=dt.first
 have VY:=hR.mono λp h=>hp.mem_iff.1 h
 refine WO.pre hp<|Wa (.alloc rfl) λb6=>Vk (k:=Ww<|W1 (lg hB (VY.ob.mono λp hp=>by simp at hp |-;exact .inr hp) hd) ?_)
 rintro w _ ⟨rfl,m,rfl⟩
 refine Wv rfl<|Wn ?_
 unfold SD.obj
 cases hi:d.find id with
 | none=>
  refine Ws<|Wq<|W (k:=Wn<|Wd rfl (λ_=>?_) Dz)
  refine Wq<|Wr (.build (cs:=dB) rfl rfl)<|Ww<|Wt (s':=m++(_::(b4,.r false [dB] 14)::_)) rfl rfl rfl (.app<|.there .here) rfl rfl<|Wv rfl<|Wn<|We<|Wm (.cell rfl hB.t45.1 hB.t45.2 (.inl rfl) (.app<|.there .here) rfl rfl rfl<|.tmp rfl .nil) ⟨rfl,aH.bK (m:=m)<|aH.bK (m:=[_,_]) gw⟩
 | some i=>
  obtain⟨Uw,ho⟩:∃h:i<d.ob.length,d.ob[i]?=some d.ob[i]:=by
   obtain⟨h1,_⟩:=List.findIdx?_eq_some_iff_getElem.1 hi
   exact⟨h1,List.getElem?_eq_getElem h1⟩
  generalize d.ob[i]=o at ho
  simp only[ho]
  obtain⟨bo,ro,no,co,ZE,WE,Mo,rfl,IM,hin,hrow⟩:=VY.ob.at (i:=i)<|by simpa[fy]using Uw
  have n8:Mo[ro+i]?=some o.row:=by rw[hrow];simp only[fy,List.getElem?_map,ho];rfl
  refine Ws<|Wq<|W (k:=Wn<|Wd rfl fS<|λ_=>Wi ?_)
  refine Wq<|Wf rfl<|Wl rfl (.app .here) rfl rfl rfl<|Wv rfl<|Wr (.iaddrS rfl rfl hin<|by decide)<|Wl rfl (.app<|.there IM) n8 rfl rfl<|Ww<|Wt (s':=m++(_::(b4,.r false [o.row] 14)::_)) rfl rfl rfl (.app<|.there .here) rfl rfl<|Wv rfl<|Wn<|We<|Wm (.cell rfl hB.t45.1 hB.t45.2 (.inl rfl) (.app<|.there .here) rfl rfl rfl<|.tmp rfl .nil) ⟨rfl,aH.bK (m:=m)<|aH.bK (m:=[_,_]) gw⟩
theorem Ar (hB:Base P K F T)(hC:BaseC P K F T)(hT:TyC P T){o:LD}(hs:aH bl EL d t s)(hd:d.Small)(hf:Has bf (.r false [bu bl aZ c0 c1 c2 c3 c4 bE] 8) t)(ho:d.pl[p]?=some o) :
  bB P K (F 43) [.ptr (some ⟨bf,0,0⟩),iv<|.ofNat p] s (λv s'=>v=.agg o.row/\aH bl EL d t s'):=by
 obtain⟨uA,_⟩:=List.getElem?_eq_some_iff.1 ho
 refine hC.f43.cF ?_
 refine Vk (k:=λb4=>Vk (k:=Ww<|W1 (cz hB hs.cons hd<|.there hf) ?_))
 rintro w s2 ⟨dt,pv,ov,lv,hv,gv,ev,fv,sv,wv,rfl,hR⟩
 obtain⟨s3,hp,gw⟩:=dt.first
 have VY:=hR.mono λp h=>hp.mem_iff.1 h
 refine WO.pre hp<|Wa (.alloc rfl) λb6=>Ww<|Wt (s':=(b6,.r false [d.cells pv ov lv hv gv ev fv sv wv] 25)::_) rfl rfl rfl .here rfl rfl<|Wn ?_
 have hlen:lenOf pv=some d.pl.length:=by rw[hR.pl.lenOf];simp[Am]
 refine Ws<|Wq<|Wv rfl<|Wj (v:=.bool false) rfl rfl rfl<|Wv rfl<|Wy<|Wv rfl<|Wy<|Wf rfl<|Wy<|Wl rfl .here rfl rfl rfl<|Wy<|Wr (.lenS rfl hlen)<|Wy<|Wj rfl rfl (Cm uA)<|Wr (.bj rfl rfl)<|Wn<|Wd rfl fS<|λ_=>Wi ?_
 obtain⟨bo,ro,no,co,ZE,WE,Mo,rfl,IM,hin,hrow⟩:=VY.pl.at (i:=p)<|by simpa[Am]using uA
 have n8:Mo[ro+p]?=some o.row:=by rw[hrow];simp only[Am,List.getElem?_map,ho];rfl
 refine Wq<|Wf rfl<|Wl rfl .here rfl rfl rfl<|Wv rfl<|Wr (.iaddrS rfl rfl hin<|by decide)<|Wl rfl (.there IM) n8 rfl rfl<|Ww<|Wt (s':=_::(b4,.r false [o.row] 8)::_) rfl rfl rfl (.there .here) rfl rfl<|Wn<|We<|Wm (.cell rfl hT.t107.1 hT.t107.2 (.inl rfl) (.there .here) rfl rfl rfl .nil) ⟨rfl,aH.bK (m:=[_,_]) gw⟩
open Go.Proofs
set_option maxRecDepth 100000
def ZR:CF:=NF (cd 163 57) _
def a50:CF:=NF (cd 128 8) _
def Z3:CF:=NF (cd 222 6) _
def Z4:CF:=NF (cd 223 4) _
def Z5:CF:=NF (cd 224 6) _
def Z6:CF:=NF (cd 225 10) _
def Z7:CF:=NF (cd 226 4) _
def SF:CF:=NF (cd 258 6) _
def SG:CF:=NF (cd 259 28) _
def SJ:CF:=NF (cd 260 24) _
def SK:CF:=NF (cd 261 22) _
def SM:CF:=NF (cd 262 23) _
def SN:CF:=NF (cd 263 20) _
def SX:CF:=NF (cd 295 37) _
def Th:CF:=NF (cd 402 10) _
structure BaseG (P:Program)(K:Orc)(F:Nat->FuncId)(T:Nat->TypeId):Prop where
 f347:FnK P K (F 347) 7 [(.tmp 2)] (Ti F T)
 f50:FnK P K (F 50) 8 [(.tmp 2)] (a50 F T)
 f344:FnK P K (F 344) 10 [(.tmp 2)] (Th F T)
structure gA (P:Program)(F:Nat->FuncId)(tF:TypeId):Prop where
 stack:meth P tF "Stack"=some (F 21)
 chars:meth P tF "Chars"=some (F 30)
 ci:meth P tF "Zone"=some (F 36)
 obj:meth P tF "Obj"=some (F 37)
 RD:meth P tF "Player"=some (F 43)
 aZ:meth P tF "Cards"=some (F 344)
 yd:meth P tF "Players"=some (F 347)
theorem tV (hB:Base P K F T)(hG:BaseG P K F T)(hs:aH bl EL d t s)(hd:d.Small)(hf:Has bf (.r false [bu bl aZ c0 c1 c2 c3 c4 bE] 8) t) :
  bB P K (F 347) [.ptr (some ⟨bf,0,0⟩)] s (λv s'=>v=iv (.ofNat d.pl.length)/\aH bl EL d t s'):=by
 refine hG.f347.cF ?_
 refine Vk (k:=Ww<|W1 (cz hB hs hd hf) ?_)
 rintro w s2 ⟨dt,pv,ov,lv,hv,gv,ev,fv,sv,wv,rfl,hR⟩
 have lp:lenOf pv=some d.pl.length:=by rw[hR.pl.lenOf];simp[Am]
 exact Wr (.fld rfl rfl)<|Wr (.lenS rfl lp)<|Wv rfl<|Wn<|We<|Wm (.tmp rfl .nil) ⟨rfl,dt⟩
theorem BaseG.c50 (hG:BaseG P K F T):FnK P K (F 50) 8 [.tmp 2] (fc 11 112 yz):=hG.f50
theorem BS (hG:BaseG P K F T)(hs:aH bl EL d t s)(hf:Has bf (.r false [bu bl aZ c0 c1 c2 c3 c4 bE] 8) t)(eQ:cI t aZ C) :
  bB P K (F 344) [.ptr (some ⟨bf,0,0⟩)] s (λv s'=>∃m,aH bl EL d (m++t) s'/\Src m 11 v (C.map CD.row)):=by
 have hn:=eQ.n
 refine hG.f344.cF ?_
 refine Vk (k:=Ww<|W1 (hG.c50.clone (eQ.src.mono λp hp=>(hs.mem<|.ce hp).mem) (by decide) (by rw[List.length_map];omega)<|by decide) ?_)
 rintro w _ ⟨m,rfl,hO⟩
 exact Wv rfl<|Wn<|We<|Wm (.tmp rfl .nil) ⟨m,hs.HW,hO.src⟩
theorem aH.split (h:aH bl EL d t s):∃u,s.Perm (u++t)/\∀t',aH bl EL d t' (u++t'):=by
 obtain⟨sc,lv,pv,ov,tf,hv,gv,ev,fv,sv,wv,oL,nn,k1,k2,k3,k4⟩:=h
 exact⟨(bl,.r false [sc++([lv]++(d.cells pv ov tf hv gv ev fv sv wv++[]))] 51)::(oL++nn),ak λc w h0 h1 h2 hq=>by simp only[h1,h2,hq _ _ k1];omega,λt'=>⟨sc,lv,pv,ov,tf,hv,gv,ev,fv,sv,wv,oL,nn,uS,k2,k3,k4⟩⟩
theorem aH.tT {t':SH}(h:aH bl EL d t s)(hp:t.Perm t'):aH bl EL d t' s:=by
 obtain⟨sc,lv,pv,ov,tf,hv,gv,ev,fv,sv,wv,oL,nn,k1,k2,k3,k4⟩:=h
 exact⟨sc,lv,pv,ov,tf,hv,gv,ev,fv,sv,wv,oL,nn,ak λc w h0 h1 h2 hq=>by simp only[h1,h2,hq _ _ k1,hq _ _ hp],k2,k3,k4⟩
theorem c6.perm {f:AV}(hp:s.Perm s')(h:c6 P K f args s R):c6 P K f args s' R:=
 λH0 H hH=>h H0 H<|hH.perm hp.symm
theorem c6.canon {f:AV}(h:c6 P K f args s (λv s'=>∃s'',s'.Perm s''/\R v s'')):c6 P K f args s R:=by
 intro H0 H hH
 obtain⟨v,s',H',h1,h2,s'',h3,h4⟩:=h H0 H hH
 exact⟨v,s'',H',h1,h2.perm h3,h4⟩
inductive GrE (sz:Nat):AV->List (List AV)->SH->Prop
 | nil {rw:Nat}:GrE sz (.slice none 0 0 false rw) [] []
 | rows {b:Nat} {L:List (List AV)} (hL:L≠[]):GrE sz (.slice (some ⟨b,0,0⟩) L.length L.length true sz) L [(b,.r false L sz)]
theorem GrE.gr {L:List (List AV)}{o:SH}(h:GrE sz v L o):Gr sz v L o:=by
 cases h with
 | nil=>exact .nil
 | @rows b L hL=>
  have:=Gr.rows (b:=b) (sz:=sz) (L:=L) (T:=[]) rfl rfl<|List.length_pos_iff.2 hL
  rw[List.append_nil]at this
  exact this
theorem GrE.out {L:List (List AV)}{o:SH}(h:GrE sz v L o):gz o sz v L:=h.gr.out
theorem WS.aaN {R:AV->List aD->SH->Prop}{x:Operand}{L N:List (List AV)}{m o:SH}(hs:opl l ss=some sv)(ho:GrE sz sv L o)(hx:opl l x=some xv)(hN:Src (m++(o++t)) sz xv N)(hz:sz≠0)(h1:L.length+N.length<=901000)(h2:bytes<=100000)
  (k:∀v o' j,GrE sz v (L++N) o'->R v ds (o'++(m++(j++t)))):WS P K (.append sz bytes ss x) l ds (m++(o++t)) R:=by
 cases ho with
 | nil=>
  by_cases hN0:N=[]
  ·subst hN0
   exact WS.append_none hs hx hN hz (Nat.le_refl _)<|k _ [] [] .nil
  ·refine WS.append_nil (c:=0) hs hx hN hz hN0 (by simpa using h1) h2 λb=>?_
   exact k _ [(b,.r false N sz)] []<|.rows hN0
 | @rows b L hL=>
  by_cases hN0:N=[]
  ·subst hN0
   have:=k _ [(b,.r false L sz)] [] (by rw[List.append_nil];exact .rows hL)
   exact WS.perm<|WS.append_none hs hx hN hz (Nat.le_refl _) ⟨_,uS,this⟩
  ·refine WS.uN hs rfl (.app .here) hx hN hz hN0 h1 h2 λb'=>?_
   have:=k (.slice (some ⟨b',0,0⟩) (L.length+N.length) (L.length+N.length) true sz) [(b',.r false (L++N) sz)] [(b,.bK)] (by rw[<- List.length_append];exact .rows<|by simp[hL])
   exact this
def chOf (g:ED->CH->CH)(d:SD)(C:List CD)(id:Int):Option CH:=
 match d.onF C id with
 | none=>none
 | some (o,c)=>if c.kind=2 then some (tK g ⟨c.power,c.qn,c.keys⟩<|qy d C o)else none
structure nG (P:Program)(K:Orc)(F:Nat->FuncId)(g:ED->CH->CH)(d:SD)(C:List CD):Prop where
 ok:abp d C
 step:∀o,∀e∈qy d C o,lQ P K F g e
 any:∀o(c:CH)R,R.Perm (qy d C o)->tK g c R=tK g c (qy d C o)
theorem qq.val (h:qq g d C id v)(hO:nG P K F g d C):v=match chOf g d C id with | some x=>.tuple [.agg x.row,.bool true] | none=>.tuple [.agg (⟨0,0,0⟩:CH).row,.bool false]:=by
 unfold chOf
 rcases h with⟨o,c,R,h1,h2,_,_,h3,rfl⟩|⟨h1,rfl⟩
 ·rw[h1]
  simp only[if_pos h2,hO.any o _ R h3]
 ·cases ho:d.onF C id with
  | none=>rfl
  | some p=>
   obtain⟨o,c⟩:=p
   simp only[if_neg (h1 o c ho)]
theorem pE (hB:Base P K F T)(hC:BaseC P K F T)(hT:TyC P T)(hs:aH bl EL d t s)(hd:d.Small)(hf:Has bf (.r false [bu bl aZ c0 c1 c2 c3 c4 bE] 8) t)(eQ:cI t aZ C)(hO:nG P K F g d C) :
  bB P K (F 30) [.ptr (some ⟨bf,0,0⟩),iv id] s (λv s'=>v=(match chOf g d C id with | some x=>.tuple [.agg x.row,.bool true] | none=>.tuple [.agg (⟨0,0,0⟩:CH).row,.bool false])/\aH bl EL d t s'):=
 (aef hB hC hT hs hd hf eQ hO.ok hO.step).post λv s'⟨h1,h2⟩=>⟨h1.val hO,h2⟩
open Go.Proofs
set_option maxRecDepth 100000
def ZQ:CF:=NF (cd 29 10) _
def Tb:CF:=NF (cd 318 25) _
structure BaseM (P:Program)(K:Orc)(F:Nat->FuncId)(T:Nat->TypeId):Prop where
 f260:FnK P K (F 260) 25 [] (Tb F T)
def pX (o:OD)(z:Int):OD:=⟨0,o.gE,o.owner,o.owner,z,false,false,o.token,0,0,0,0,false⟩
theorem WH.Ku {p:Nat × HO}(h:WH bw d t s):WH bw d (p::t) (p::s):=by
 obtain⟨pv,ov,lv,hv,gv,ev,fv,sv,wv,nn,k1,k2⟩:=h
 exact⟨pv,ov,lv,hv,gv,ev,fv,sv,wv,nn,ak λc w h0 h1 h2 hq=>by simp only[h1,h2,hq _ _ k1];omega,k2⟩
theorem WH.Vb (h:WH bw d t s){b:Nat}{o:HO}(hb:Has b o t):Has b o s:=by
 obtain⟨pv,ov,lv,hv,gv,ev,fv,sv,wv,nn,k1,k2⟩:=h
 exact .ce<|k1.mem_iff.2<|by simp[hb.mem]
theorem sP (hB:Base P K F T)(hs:aH bl EL d t s)(hd:d.Small)(hf:Has bf (.r false [bu bl aZ c0 c1 c2 c3 c4 bE] 8) t)(hE:EL.length<=5000)
  (hap:Ap P K F 2 a b n m it d d') (hd':d'.Small) (YI:1<=d'.nx/\d'.nx<=1000000) :
  bB P K (F 15) [.ptr (some ⟨bf,0,0⟩),.agg<|evRow 2 a b n m it] s (λv s'=>v=iv (d'.nx-1)/\aH bl (EL++[evRow 2 a b n m it]) d' t s'):=by
 refine hB.f15.cF ?_
 refine Vk (k:=λb3=>Vk (k:=?_))
 have gw:aH bl EL d ((b3,.r false [evRow 2 a b n m it] 13)::t) ((b3,.r false [evRow 2 a b n m it] 13)::s):=hs.cons
 refine Vk (k:=WP.bD ?_)
 refine(Dp (.faddr rfl)<|Dl rfl .nil (.load rfl .here rfl rfl rfl)<|Dp (.eql rfl rfl<|cD _ _)<|Dp (.mv rfl)<|Dk<|WD.jm rfl rfl<|Dk<|Dk<|Dk<|Dk<|Dk<|Dk<|Dk<|Dk<|Dp (.bj rfl rfl)<|Dp (.mv rfl)<|D0 .nil ?_<|λo h=>nomatch h)
 refine Vk (k:=WP.bD<|Dp (.mv rfl)<|Dp (.nilchk rfl rfl)<|Dp (.faddr rfl)<|Dl rfl .nil (.load rfl (gw.mem<|.there hf) rfl rfl rfl)<|Dl rfl .nil (.load rfl (gw.mem .here) rfl rfl rfl)<|Dc .nil<|W1 (mI hB gw hE hap) ?_)
 rintro w s5 ⟨rfl,tn⟩
 refine Dp (.eql rfl rfl<|cD _ _)<|Dp (.mv rfl)<|D0 .nil ?_<|λo h=>nomatch h
 refine Vk (k:=?_)
 refine Vk (k:=Ww<|W1 (cz hB tn hd'<|.there hf) ?_)
 rintro w s6 ⟨KL,pv,ov,lv,hv,gv,ev,fv,sv,wv,rfl,hR6⟩
 refine Wr (.fld rfl rfl)<|Wj rfl rfl (F0 YI.1<|by omega)<|Wv rfl<|Wn<|We<|Wm (.tmp rfl .nil) ⟨rfl,KL.tail⟩

end
end
end Go.Ev
