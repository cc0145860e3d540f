/- Walks and rules. Conditions: none. -/
import Derived.Test.YtbgjkfbeofbngaaGreatEvJ
set_option linter.unusedVariables false
set_option linter.unusedSimpArgs false
set_option linter.unusedSectionVars false
namespace Go.Ev
section
variable {P:Program}{K:Orc}{rd:Option Nat}{nt:Nat}{l:Sl}{ds:List cD}{s:SH}{Q Qn Qr:Po}{Qe:Nat->Po}{F:Nat->FuncId}{T:Nat->TypeId}
theorem AU {lb D p:Nat}{a:AV}{asg body:Code}{Bu sG:AC}{pend:Option AX}{R:AV->SH->Prop}(hp:p<nt)(ha:cc P nt asg=Bu)(hb:cc P nt body=sG)
  (h:WP P K (some lb) nt Bu ((p,a)::l) [] ((lb,.lp l nt [p] asg body .ready pend D)::s) (λl2 ds2 s2=>∃t2,s2.Perm ((lb,.lp l nt [p] asg body .ready pend D)::t2) /\
   WP P K (some lb) nt sG l2 ds2 ((lb,.lp l nt [p] asg body .busy pend D)::t2) (λ_ _ s3=>∃t3,s3.Perm ((lb,.lp l nt [p] asg body .busy pend D)::t3)/\R (.bool true) ((lb,.lp l nt [p] asg body .ready none D)::t3))
    (λi _ _ s3=>∃t3,s3.Perm ((lb,.lp l nt [p] asg body .busy pend D)::t3)/\R (.bool false) ((lb,.lp l nt [p] asg body .done (some<|.exit i) D)::t3))
    (λ_ _ s3=>∃t3,s3.Perm ((lb,.lp l nt [p] asg body .busy pend D)::t3)/\R (.bool false) ((lb,.lp l nt [p] asg body .done (some .ret) D)::t3))) (λ_=>Kj) Kj) :
  c6 P K (.yield lb) [a] ((lb,.lp l nt [p] asg body .ready pend D)::s) R:=by
 intro H0 H hH
 obtain⟨_,e,hg,he⟩:=hH.has .here
 obtain⟨x,e2,ds2,H2,l2,s2,⟨n1,r1⟩,k2,k3,k4⟩:=h asg ha H0 (e.put p a) H (he.put p a) hH
 cases x with
 | exit i=>exact k4.elim
 | ret=>exact k4.elim
 | normal=>
  obtain⟨t2,Gu,Ct⟩:=k4
  have k3:=k3.perm Gu
  obtain⟨_,e',KF,he'⟩:=k3.has .here
  have k5:Hp H0 ((lb,.lp l nt [p] asg body .busy pend D)::t2) (H2.put lb<|.loop e' nt [p] asg body .busy pend D):=k3.R0 .here (x:=some<|.loop e' nt [p] asg body .busy pend D) ⟨e',rfl,he'⟩ rfl<|λc=>Heap.aR _ _ _ _
  obtain⟨x,e3,ds3,H3,l3,s3,⟨n2,r2⟩,j2,j3,j4⟩:=Ct body hb H0 e2 _ k2 k5
  have fin:∀(st:LoopState)(pe:Option AX)(v:AV)(t3:SH),s3.Perm ((lb,.lp l nt [p] asg body .busy pend D)::t3)->R v ((lb,.lp l nt [p] asg body st pe D)::t3) ->
    (∀e4,H3.get lb=some (.loop e4 nt [p] asg body .busy pend D)->roundOf (ev P K<|max n1 n2) lb [a] H=some (v,H3.put lb<|.loop e4 nt [p] asg body st pe D))->∃v s' H',ki P K (.yield lb) [a] H v H'/\Hp H0 s' H'/\R v s':=by
   intro st pe v t3 UO hR hrun
   have j3:=j3.perm UO
   obtain⟨_,e4,Uv,Ur⟩:=j3.has .here
   exact⟨v,(lb,.lp l nt [p] asg body st pe D)::t3,_,⟨max n1 n2,hrun e4 Uv⟩,j3.R0 .here (x:=some<|.loop e4 nt [p] asg body st pe D) ⟨e4,rfl,Ur⟩ rfl<|λc=>Heap.aR _ _ _ _,hR⟩
  have q1:=(eP P K<|Nat.le_max_left n1 n2).code r1
  have q2:=(eP P K<|Nat.le_max_right n1 n2).code r2
  have hs:setAll [p] [a] nt e=some (e.put p a):=by
   unfold setAll
   simp only[show Nat.blt p nt=true from Nat.ble_eq_true_of_le hp]
  cases x with
  | normal=>
   obtain⟨t3,h1,h2⟩:=j4
   exact fin _ _ _ t3 h1 h2 λe4 h4=>by unfold roundOf;simp only[hg,hs,q1,KF,q2,h4]
  | exit i=>
   obtain⟨t3,h1,h2⟩:=j4
   exact fin _ _ _ t3 h1 h2 λe4 h4=>by unfold roundOf;simp only[hg,hs,q1,KF,q2,h4]
  | ret=>
   obtain⟨t3,h1,h2⟩:=j4
   exact fin _ _ _ t3 h1 h2 λe4 h4=>by unfold roundOf;simp only[hg,hs,q1,KF,q2,h4]
theorem Hp.gone {H0 H:Heap}{s:SH}{b:Nat}{o:HO}(h:Hp H0 ((b,o)::s) H):Hp H0 ((b,.gone)::s) (H.del b):=
 h.R0 .here (x:=none) trivial rfl (λc=>Heap.gb _ _ _)
theorem WP.rf {g:Operand}{ps0:List Nat}{Bu sG:AC}{f:FuncId}{first cap:List AV}(hg:opl l g=some (.func f first cap))
  (h:∀(asg body:Code),cc P nt asg=Bu->cc P nt body=sG->∀D lb,bB P K f (first++(.yield lb::cap)) ((lb,.lp l nt ps0 asg body .ready none D)::(D,.ob .deferred)::s) (λ_ s'=>∃l' st pend t',s'=(lb,.lp l' nt ps0 asg body st pend D)::t'/\st≠.busy /\
   (match pend with | none=>Qn l (.mark D::ds) ((lb,.gone)::t') | some .normal=>Qn l (.mark D::ds) ((lb,.gone)::t') | some (.exit i)=>Qe i l (.mark D::ds) ((lb,.gone)::t') | some .ret=>Qr l (.mark D::ds) ((lb,.gone)::t')))) :
  WP P K none nt (.rf g ps0 Bu sG) l ds s Qn Qe Qr:=by
 intro c0 hc H0 e H he hH
 cases c0 with
 | rangeFunc g0 ps asg body=>
  simp only[cc,AC.rf.injEq]at hc
  obtain⟨rfl,hps,ha,hb⟩:=hc
  have h1:Hp H0 ((H.next,.ob .deferred)::s) (H.new .deferred).2:=hH.alloc (o:=.deferred) rfl
  have h2:=h1.alloc (o':=.lp l nt ps0 asg body .ready none H.next) (o:=.loop e nt ps0 asg body .ready none H.next) ⟨e,rfl,he⟩
  obtain⟨v,s',H',⟨n,r1⟩,k2,l',st,pend,t',rfl,hst,k3⟩:=h asg body ha hb H.next _ H0 _ h2
  obtain⟨_,e4,hg4,_⟩:=k2.has .here
  have run:∀x,(match pend with | none=>AX.normal | some y=>y)=x->bt P K none nt (.rangeFunc g0 ps asg body) e ds H (.mk x e (.mark H.next::ds)<|H'.del (H.new .deferred).2.next):=by
   rintro x rfl
   refine⟨n+1,?_⟩
   rw[bO]
   have hnew:H.new .deferred=(H.next,(H.new .deferred).2):=rfl
   have hnew2:(H.new .deferred).2.new (.loop e nt ps0 asg body .ready none H.next)=((H.new .deferred).2.next,((H.new .deferred).2.new (.loop e nt ps0 asg body .ready none H.next)).2):=rfl
   have hcall:(ev P K n).call f (bI first<|.yield (H.new .deferred).2.next::cap) ((H.new .deferred).2.new (.loop e nt ps0 asg body .ready none H.next)).2=some (v,H'):=by rw[aN];exact r1
   unfold stepCode
   simp only[aG he hg,hps]
   show(match (ev P K n).call f (bI first<|.yield (H.new .deferred).2.next::cap) ((H.new .deferred).2.new (.loop e nt ps0 asg body .ready none H.next)).2 with
    | some (_,H3)=>(match H3.get (H.new .deferred).2.next with
     | some (.loop _ _ _ _ _ st pend _)=>(match st with
      | .busy=>none
      | _=>match pend with
       | none=>some<|CR.mk .normal e (.mark H.next::ds)<|H3.del (H.new .deferred).2.next
       | some x=>some (.mk x e (.mark H.next::ds) (H3.del (H.new .deferred).2.next)))
     | _=>none)
    | none=>none)=_
   simp only[hcall,hg4]
   cases st with
   | busy=>exact absurd rfl hst
   | ready=>cases pend<;>rfl
   | done=>cases pend<;>rfl
   | exhausted=>cases pend<;>rfl
  have k5:=k2.gone
  cases pend with
  | none=>exact⟨_,_,_,_,_,_,run _ rfl,he,k5,k3⟩
  | some x=>
   cases x with
   | normal=>exact⟨_,_,_,_,_,_,run _ rfl,he,k5,k3⟩
   | exit i=>exact⟨_,_,_,_,_,_,run _ rfl,he,k5,k3⟩
   | ret=>exact⟨_,_,_,_,_,_,run _ rfl,he,k5,k3⟩
 | region i ops d=>exact(db hc).elim
 | _=>simp[cc]at hc
def Bi (P:Program)(rs:List ResultVar)(R:AV->SH->Prop):Po:=λl ds s=>∃(Ds:List Nat)(t:SH),ds=Ds.map cD.mark/\s.Perm (Ds.map (λD=>(D,HO.ob .deferred))++t)/\∃vs,Rs P l (Ds.map (λD=>(D,HO.gone))++t) rs vs/\R (tupV vs) (Ds.map (λD=>(D,HO.gone))++t)
theorem yY {H0:Heap}:∀(Ds:List Nat)(t:SH)(H:Heap),Hp H0 (Ds.map (λD=>(D,HO.ob .deferred))++t) H->∃H',(∀ih:fP,runDefers ih (Ds.map cD.mark) H=some H')/\Hp H0 (Ds.map (λD=>(D,HO.gone))++t) H':=by
 intro Ds
 induction Ds with
 | nil=>intro t H h;exact⟨H,λ_=>rfl,h⟩
 | cons D Ds ih=>
  intro t H h
  have hg:H.get D=some .deferred:=(h.has .here).2
  have h1:Hp H0 ((D,.gone)::(Ds.map (λD=>(D,HO.ob .deferred))++t)) (H.del D):=Hp.gone h
  obtain⟨H',h2,h3⟩:=ih ((D,.gone)::t) (H.del D)<|h1.perm List.perm_middle.symm
  exact⟨H',λe=>by show(match H.get D with | some .deferred=>runDefers e (Ds.map cD.mark) (H.del D) | _=>none)=_;rw[hg];exact h2 e,h3.perm List.perm_middle⟩
theorem CallsTo.N1 {f:FuncId} {fn:Func} {c:Code} {args:List AV} {v:AV} {e0 e1:Tr AV} {x:AX} {H H1 H2:Heap} {ds:List cD} (hK:K f args H=none) (hf:P.funcs[f]?=some fn) (hb:fn.body=some c) (hn:(Nat.ble (aK args) fn.ntmps && !(fn.name == "runtime.NumGoroutine"))=true)
  (h0:argsEnv fn.ntmps args=some e0) (h:bt P K none fn.ntmps c e0 [] H (.mk x e1 ds H1)) (hx:x=.ret\/x=.normal) (hd:∀ih:fP,runDefers ih ds H1=some H2) (hr:(match aI (resultOf P e1 H2) fn.results.toList with | some [v]=>some v | some vs=>some (.tuple vs) | none=>none)=some v) :
  CallsTo P K f args H v H2:=by
 obtain⟨n,h⟩:=h
 refine⟨n+1,?_⟩
 show knownCall K f args H (stepCall P (ev P K n) f args H)=_
 unfold knownCall
 rw[hK]
 unfold stepCall
 simp only[hf,hb,hn,h0,h]
 have key:(match aI (resultOf P e1 H2) fn.results.toList with
   | some [v]=>some (v,H2)
   | some vs=>some (AV.tuple vs,H2)
   | none=>none)=some (v,H2):=by
  cases hl:aI (resultOf P e1 H2) fn.results.toList with
  | none=>rw[hl]at hr;cases hr
  | some l=>
   rw[hl]at hr
   match l,hr with
   | [],hr=>cases hr;rfl
   | [_],hr=>cases hr;rfl
   | _::_::_,hr=>cases hr;rfl
 rcases hx with rfl|rfl<;>(simp only[hd];exact key)
theorem FnK.ZH {f:FuncId}{nt:Nat}{rs:List ResultVar}{ac:AC}(hF:FnK P K f nt rs ac){args:List AV}{R:AV->SH->Prop}(h:WP P K none nt ac (sl0 0 args) [] s (Bi P rs R) (λ_ _ _ _=>False) (Bi P rs R))(ha:args.length<=nt:=by simp):bB P K f args s R:=by
 obtain⟨fn,hf,hc,rfl,rfl,h5⟩:=hF.ex
 have hn:(Nat.ble (aK args) fn.ntmps && !(fn.name == "runtime.NumGoroutine"))=true:=by
  rw[h5,ar,Nat.ble_eq_true_of_le ha];rfl
 intro H0 H hH
 obtain⟨c,hb,hc⟩:∃c,fn.body=some c/\cc P fn.ntmps c=ac:=by
  cases hb:fn.body with
  | none=>rw[hb]at hc;cases hc
  | some c=>rw[hb]at hc;exact⟨c,rfl,Option.some.inj hc⟩
 obtain⟨e0,h0,h1⟩:=mG fn.ntmps args
 have he:En (sl0 0 args) e0:=λi v hi=>by
  obtain⟨_,h2⟩:=yp args 0 i v hi
  exact h1 i v h2
 obtain⟨x,e',ds',H',l',s',k1,k2,k3,k4⟩:=h c hc H0 e0 H he hH
 have key:∀x,(x=.ret\/x=.normal)->bt P K none fn.ntmps c e0 [] H (.mk x e' ds' H')->Bi P fn.results.toList R l' ds' s'->∃v s' H',CallsTo P K f args H v H'/\Hp H0 s' H'/\R v s':=by
  rintro x hx k1 ⟨Ds,t,rfl,hp,vs,k5,k6⟩
  obtain⟨H2,hd,k7⟩:=yY Ds t H'<|k3.perm hp
  refine⟨tupV vs,_,H2,CallsTo.N1 (hF.k _ H) hf hb hn h0 k1 hx hd ?_,k7,k6⟩
  rw[k5.ok k2 k7]
  match vs with
  | []=>rfl
  | [_]=>rfl
  | _::_::_=>rfl
 cases x with
 | normal=>exact key _ (.inr rfl) k1 k4
 | ret=>exact key _ (.inl rfl) k1 k4
 | exit i=>exact k4.elim
theorem qM {a b:Int}(h:a≠b):eqBy 20 .pi (iv a) (iv b)=some false:=by rw[dh];simp[h]
theorem abZ (hB:Base P K F T){bw:Nat}{pv ov lv hv gv ev fv sv wv kv:AV}{d:SD}(hb:Has bw (.r false [d.cells pv ov lv hv gv ev fv sv wv kv] 25) s)(h:Src s 14 ov (fy d.ob))(hd:d.Small){id:Int}{i:Nat}{o:OD}(hi:d.find id=some i)(xG:d.ob[i]?=some o) :
  bB P K (F 231) [.ptr (some ⟨bw,0,0⟩),iv id] s (λw s'=>w=.bool (decide<|o.ci=2)/\∃m,s'=m++s):=by
 refine hB.f231.cF ?_
 unfold ahb
 have hil:i<d.ob.length:=(List.getElem?_eq_some_iff.1 xG).1
 refine Vr (k:=Ww<|Wc rfl rfl (lg hB (d:=d) h hd) ?_)
 rintro w _ ⟨rfl,m,rfl⟩
 rw[hi]
 refine Vr (k:=?_)
 obtain⟨bo,ro,no,co,so,WE,MO,rfl,IM,hno,hMo⟩:=h.at (i:=i)<|by simpa[fy]using hil
 have hrow:(fy d.ob)[i]?=some o.row:=by rw[fy,List.getElem?_map,xG];rfl
 refine Vr (k:=Wl rfl zP (hMo.trans hrow) rfl rfl<|Wy<|Wh rfl rfl (dh _ _)<|Wr (.uS rfl rfl)<|Wv rfl<|Wn ?_)
 exact We<|Wm (.tmp rfl .nil) ⟨rfl,m,rfl⟩
theorem adv (hB:Base P K F T){bw:Nat}{d:SD}{t:SH}(hs:WH bw d t s)(hd:d.Small)(he:d.kQ){k b n m:Int}{it:ID}{fn:AV}(k13:k≠13)(k16:k≠16)(k18:k≠18)(k26:k≠26){p:Nat}(hp:p<d.pl.length) :
  bB P K (F 203) [.ptr (some ⟨bw,0,0⟩),.agg<|cr k (.ofNat p) b n m it,.agg [.bool true,.bool false,.bool false,fn]] s (λw s'=>w=iv 0/\WH bw d t s'):=by
 obtain⟨pv,ov,lv,hv,gv,ev,fv,sv,wv,kv,nn,k1,k2⟩:=hs
 refine bB.perm k1.symm ?_
 refine hB.f203.cF ?_
 unfold Lj
 refine Vr (k:=λb4=>Vr (k:=λb5=>Wv rfl<|Wn<|Wq<|Wr (.mkfn rfl rfl)<|Wv rfl<|Wn<|Ws<|Wb ?_))
 have hR:∀x y z,mD (x::y::z::(nn++t)) pv ov lv hv gv ev fv sv wv kv d:=λx y z=>k2.r λp hp=>by simp[hp]
 have lp:lenOf pv=some d.pl.length:=by rw[(hR (0,.bK) (0,.bK) (0,.bK)).pl.lenOf];simp[Am]
 refine Vr (k:=Dc .nil<|Wc rfl rfl (qQ hB (hR _ _ _) ⟨he.lb,he.hd,he.gr,he.ex⟩) ?_)
 rintro w _ ⟨rfl,m1,rfl⟩
 refine(Dp (.un rfl rfl)<|Dp (.mv rfl)<|Dy<|Dp (.faddr rfl)<|Dy<|Dl rfl .nil .ld<|Dy<|Dp (.mv rfl)<|Dy<|Dp (.faddr rfl)<|Dy<|Dl rfl .nil .ld<|Dy<|Dp (.arith rfl rfl rfl)<|Dy<|Dp (.mv rfl)<|Dy<|Dp (.faddr rfl)<|Dy<|Dl rfl .nil .ld<|Dy<|Dp (.mv rfl)<|Dy<|Dp (.nilchk rfl rfl)<|Dy<|Dp (.faddr rfl)<|Dy<|Dp (.faddr rfl)<|Dy<|Dl rfl .nil .ld<|Dy<|Dp (.lenS rfl lp)<|Dy<|Dp (.arith rfl rfl<|Cm hp)<|Dy<|Dp (.bj rfl rfl)<|Dy<|Dp (.uS rfl rfl)<|Dp (.bj rfl rfl)<|Dp (.mv rfl)<|WD.n0 ?_)
 refine Vr (k:=?_)
 refine WD.jm rfl rfl<|Dk<|Dp (.bj rfl rfl)<|Dp (.mv rfl)<|WD.n0<|Wd rfl fS<|λ_=>Wo<|Wf rfl<|Wr .ld<|Wv rfl<|Wk<|Wk<|Wk<|Wk<|Wk<|Wr (.bj rfl rfl)<|Wv rfl<|Wn<|Wd rfl fS<|λ_=>Wq<|Wf rfl<|Wr .ld<|Wh rfl rfl (qM k13)<|Wv rfl<|Wk<|Wk<|Wk<|Wr (.bj rfl rfl)<|Wv rfl<|Wk<|Wk<|Wk<|Wk<|Wk<|Wr (.bj rfl rfl)<|Wv rfl<|Wn<|Wd rfl fS<|λ_=>Ws<|Wq<|Wf rfl<|Wr .ld<|Wh rfl rfl (qM k16)<|Wv rfl<|Wk<|Wk<|Wk<|Wk<|Wk<|Wk<|Wk<|Wk<|Wr (.bj rfl rfl)<|Wv rfl<|Wn<|Wd rfl fS<|λ_=>Wo<|Wf rfl<|Wr .ld<|Wh rfl rfl (qM k18)<|Wv rfl<|Wk<|Wk<|Wk<|Wk<|Wk<|Wk<|Wk<|Wk<|Wr (.bj rfl rfl)<|Wv rfl<|Wn<|Wd rfl fS<|λ_=>Ws<|WP.bD<|Dp (.faddr rfl)<|Dl rfl .nil .ld<|Dp (.eql rfl rfl<|qM k26)<|Vr (k:=WD.jm rfl rfl<|Dk<|Dp (.bj rfl rfl)<|Dp (.mv rfl)<|WD.n0<|Vk (k:=We<|Wm (.tmp rfl .nil) ?_))
 refine⟨rfl,?_⟩
 have fin:∀x y,WH bw d t (m1++(x::y::(bw,.r false [d.cells pv ov lv hv gv ev fv sv wv kv] 25)::(nn++t))):=λx y=>⟨pv,ov,lv,hv,gv,ev,fv,sv,wv,kv,(m1++[x,y])++nn,qc,k2.bK⟩
 exact fin _ _
theorem Jh (hB:Base P K F T){bw:Nat}{d:SD}{t:SH}(hs:WH bw d t s)(hd:d.Small)(he:d.kQ){k a b n m:Int}{it:ID}{fn:AV}(k13:k≠13)(k16:k≠16)(k18:k≠18)(k26:k≠26){i:Nat}(hi:d.find a=some i) :
  bB P K (F 203) [.ptr (some ⟨bw,0,0⟩),.agg<|cr k a b n m it,.agg [.bool false,.bool true,.bool false,fn]] s (λw s'=>w=iv 0/\WH bw d t s'):=by
 obtain⟨pv,ov,lv,hv,gv,ev,fv,sv,wv,kv,nn,k1,k2⟩:=hs
 refine bB.perm k1.symm ?_
 refine hB.f203.cF ?_
 unfold Lj
 refine Vr (k:=λb4=>Vr (k:=λb5=>Wv rfl<|Wn<|Wq<|Wr (.mkfn rfl rfl)<|Wv rfl<|Wn<|Ws<|Wb ?_))
 have hR:∀x y z,mD (x::y::z::(nn++t)) pv ov lv hv gv ev fv sv wv kv d:=λx y z=>k2.r λp hp=>by simp[hp]
 refine Vr (k:=Dc .nil<|Wc rfl rfl (qQ hB (hR _ _ _) ⟨he.lb,he.hd,he.gr,he.ex⟩) ?_)
 rintro w _ ⟨rfl,m1,rfl⟩
 refine(Dp (.un rfl rfl)<|Dp (.mv rfl)<|Dy<|Dp (.faddr rfl)<|Dy<|Dl rfl .nil .ld<|Dy<|Dp (.mv rfl)<|Dk<|Dk<|Dk<|Dk<|WD.kg rfl rfl<|WD.kg rfl rfl<|WD.kg rfl rfl<|WD.kg rfl rfl<|WD.kg rfl rfl<|WD.kg rfl rfl<|WD.kg rfl rfl<|WD.kg rfl rfl<|WD.kg rfl rfl<|Dk<|Dy<|Dp (.bj rfl rfl)<|Dp (.bj rfl rfl)<|Dp (.mv rfl)<|WD.n0 ?_)
 refine Vr (k:=?_)
 refine Dc .nil<|Wc rfl rfl (lg hB (d:=d) ((k2.r (s:=_) λp hp=>by simp[hp]).ob) hd) ?_
 rintro w _ ⟨rfl,m2,rfl⟩
 rw[hi]
 refine(Dy<|Dp (.arith rfl rfl rfl)<|Dp (.uS rfl rfl)<|Dp (.mv rfl)<|WD.n0 ?_)
 refine Wd rfl fS<|λ_=>Wo<|Wf rfl<|Wr .ld<|Wv rfl<|Wk<|Wk<|Wk<|Wk<|Wk<|Wr (.bj rfl rfl)<|Wv rfl<|Wn<|Wd rfl fS<|λ_=>Wq<|Wf rfl<|Wr .ld<|Wh rfl rfl (qM k13)<|Wv rfl<|Wk<|Wk<|Wk<|Wr (.bj rfl rfl)<|Wv rfl<|Wk<|Wk<|Wk<|Wk<|Wk<|Wr (.bj rfl rfl)<|Wv rfl<|Wn<|Wd rfl fS<|λ_=>Ws<|Wq<|Wf rfl<|Wr .ld<|Wh rfl rfl (qM k16)<|Wv rfl<|Wk<|Wk<|Wk<|Wk<|Wk<|Wk<|Wk<|Wk<|Wr (.bj rfl rfl)<|Wv rfl<|Wn<|Wd rfl fS<|λ_=>Wo<|Wf rfl<|Wr .ld<|Wh rfl rfl (qM k18)<|Wv rfl<|Wk<|Wk<|Wk<|Wk<|Wk<|Wk<|Wk<|Wk<|Wr (.bj rfl rfl)<|Wv rfl<|Wn<|Wd rfl fS<|λ_=>Ws<|WP.bD<|Dp (.faddr rfl)<|Dl rfl .nil .ld<|Dp (.eql rfl rfl<|qM k26)<|Vr (k:=WD.jm rfl rfl<|Dk<|Dp (.bj rfl rfl)<|Dp (.mv rfl)<|WD.n0<|Vk (k:=We<|Wm (.tmp rfl .nil) ?_))
 refine⟨rfl,?_⟩
 have fin:∀x y,WH bw d t (m2++(m1++(x::y::(bw,.r false [d.cells pv ov lv hv gv ev fv sv wv kv] 25)::(nn++t)))):=λx y=>⟨pv,ov,lv,hv,gv,ev,fv,sv,wv,kv,(m2++(m1++[x,y]))++nn,qc,k2.bK⟩
 exact fin _ _
theorem ae7 (hB:Base P K F T){bw:Nat}{d:SD}{t:SH}(hs:WH bw d t s)(hd:d.Small)(he:d.kQ){k a b n m:Int}{it:ID}{fn:AV}(k13:k≠13)(k16:k≠16)(k18:k≠18)(k26:k≠26){i:Nat}(hi:d.find a=some i){o:OD}(xG:d.ob[i]?=some o)(hz:o.ci=2) :
  bB P K (F 203) [.ptr (some ⟨bw,0,0⟩),.agg<|cr k a b n m it,.agg [.bool false,.bool true,.bool true,fn]] s (λw s'=>w=iv 0/\WH bw d t s'):=by
 obtain⟨pv,ov,lv,hv,gv,ev,fv,sv,wv,kv,nn,k1,k2⟩:=hs
 refine bB.perm k1.symm ?_
 refine hB.f203.cF ?_
 unfold Lj
 refine Vr (k:=λb4=>Vr (k:=λb5=>Wv rfl<|Wn<|Wq<|Wr (.mkfn rfl rfl)<|Wv rfl<|Wn<|Ws<|Wb ?_))
 have hR:∀x y z,mD (x::y::z::(nn++t)) pv ov lv hv gv ev fv sv wv kv d:=λx y z=>k2.r λp hp=>by simp[hp]
 refine Vr (k:=Dc .nil<|Wc rfl rfl (qQ hB (hR _ _ _) ⟨he.lb,he.hd,he.gr,he.ex⟩) ?_)
 rintro w _ ⟨rfl,m1,rfl⟩
 refine(Dp (.un rfl rfl)<|Dp (.mv rfl)<|Dy<|Dp (.faddr rfl)<|Dy<|Dl rfl .nil .ld<|Dy<|Dp (.mv rfl)<|Dk<|Dk<|Dk<|Dk<|WD.kg rfl rfl<|WD.kg rfl rfl<|WD.kg rfl rfl<|WD.kg rfl rfl<|WD.kg rfl rfl<|WD.kg rfl rfl<|WD.kg rfl rfl<|WD.kg rfl rfl<|WD.kg rfl rfl<|Dk<|Dy<|Dp (.bj rfl rfl)<|Dp (.bj rfl rfl)<|Dp (.mv rfl)<|WD.n0 ?_)
 refine Vr (k:=?_)
 refine Dc .nil<|Wc rfl rfl (lg hB (d:=d) ((k2.r (s:=_) λp hp=>by simp[hp]).ob) hd) ?_
 rintro w _ ⟨rfl,m2,rfl⟩
 rw[hi]
 refine(Dy<|Dp (.arith rfl rfl rfl)<|Dp (.uS rfl rfl)<|Dp (.mv rfl)<|WD.n0 ?_)
 refine Vr (k:=?_)
 refine Ww<|Wc rfl rfl (abZ hB (d:=d) zP ((k2.r (s:=_) λp hp=>by simp[hp]).ob) hd hi xG) ?_
 rintro w _ ⟨rfl,m3,rfl⟩
 rw[show decide (o.ci=2)=true from decide_eq_true hz]
 refine(Wy<|Wr (.un rfl rfl)<|Wr (.uS rfl rfl)<|Wv rfl<|Wn ?_)
 refine Wd rfl fS<|λ_=>Wq<|Wf rfl<|Wr .ld<|Wh rfl rfl (qM k13)<|Wv rfl<|Wk<|Wk<|Wk<|Wr (.bj rfl rfl)<|Wv rfl<|Wk<|Wk<|Wk<|Wk<|Wk<|Wr (.bj rfl rfl)<|Wv rfl<|Wn<|Wd rfl fS<|λ_=>Ws<|Wq<|Wf rfl<|Wr .ld<|Wh rfl rfl (qM k16)<|Wv rfl<|Wk<|Wk<|Wk<|Wk<|Wk<|Wk<|Wk<|Wk<|Wr (.bj rfl rfl)<|Wv rfl<|Wn<|Wd rfl fS<|λ_=>Wo<|Wf rfl<|Wr .ld<|Wh rfl rfl (qM k18)<|Wv rfl<|Wk<|Wk<|Wk<|Wk<|Wk<|Wk<|Wk<|Wk<|Wr (.bj rfl rfl)<|Wv rfl<|Wn<|Wd rfl fS<|λ_=>Ws<|WP.bD<|Dp (.faddr rfl)<|Dl rfl .nil .ld<|Dp (.eql rfl rfl<|qM k26)<|Vr (k:=WD.jm rfl rfl<|Dk<|Dp (.bj rfl rfl)<|Dp (.mv rfl)<|WD.n0<|Vk (k:=We<|Wm (.tmp rfl .nil) ?_))
 refine⟨rfl,?_⟩
 have fin:∀x y,WH bw d t (m3++(m2++(m1++(x::y::(bw,.r false [d.cells pv ov lv hv gv ev fv sv wv kv] 25)::(nn++t))))):=λx y=>⟨pv,ov,lv,hv,gv,ev,fv,sv,wv,kv,(m3++(m2++(m1++[x,y])))++nn,qc,k2.bK⟩
 exact fin _ _
theorem adu (hB:Base P K F T){bw:Nat}{d:SD}{t:SH}(hs:WH bw d t s)(hd:d.Small)(he:d.kQ){k a b n m:Int}{it:ID}{fn:AV}(k13:k≠13)(k16:k≠16)(k18:k≠18)(k26:k≠26) :
  bB P K (F 203) [.ptr (some ⟨bw,0,0⟩),.agg<|cr k a b n m it,.agg [.bool false,.bool false,.bool false,fn]] s (λw s'=>w=iv 0/\WH bw d t s'):=by
 obtain⟨pv,ov,lv,hv,gv,ev,fv,sv,wv,kv,nn,k1,k2⟩:=hs
 refine bB.perm k1.symm ?_
 refine hB.f203.cF ?_
 unfold Lj
 refine Vr (k:=λb4=>Vr (k:=λb5=>Wv rfl<|Wn<|Wq<|Wr (.mkfn rfl rfl)<|Wv rfl<|Wn<|Ws<|Wb ?_))
 have hR:∀x y z,mD (x::y::z::(nn++t)) pv ov lv hv gv ev fv sv wv kv d:=λx y z=>k2.r λp hp=>by simp[hp]
 refine Vr (k:=Dc .nil<|Wc rfl rfl (qQ hB (hR _ _ _) ⟨he.lb,he.hd,he.gr,he.ex⟩) ?_)
 rintro w _ ⟨rfl,m1,rfl⟩
 refine(Dp (.un rfl rfl)<|Dp (.mv rfl)<|Dy<|Dp (.faddr rfl)<|Dy<|Dl rfl .nil .ld<|Dy<|Dp (.mv rfl)<|Dk<|Dk<|Dk<|Dk<|WD.kg rfl rfl<|WD.kg rfl rfl<|WD.kg rfl rfl<|WD.kg rfl rfl<|WD.kg rfl rfl<|WD.kg rfl rfl<|WD.kg rfl rfl<|WD.kg rfl rfl<|WD.kg rfl rfl<|Dk<|Dy<|Dp (.bj rfl rfl)<|Dp (.bj rfl rfl)<|Dp (.mv rfl)<|WD.n0 ?_)
 refine Vr (k:=?_)
 refine WD.jm rfl rfl<|Dk<|Dp (.bj rfl rfl)<|Dp (.mv rfl)<|WD.n0<|Wd rfl fS<|λ_=>Wo<|Wf rfl<|Wr .ld<|Wv rfl<|Wk<|Wk<|Wk<|Wk<|Wk<|Wr (.bj rfl rfl)<|Wv rfl<|Wn<|Wd rfl fS<|λ_=>Wq<|Wf rfl<|Wr .ld<|Wh rfl rfl (qM k13)<|Wv rfl<|Wk<|Wk<|Wk<|Wr (.bj rfl rfl)<|Wv rfl<|Wk<|Wk<|Wk<|Wk<|Wk<|Wr (.bj rfl rfl)<|Wv rfl<|Wn<|Wd rfl fS<|λ_=>Ws<|Wq<|Wf rfl<|Wr .ld<|Wh rfl rfl (qM k16)<|Wv rfl<|Wk<|Wk<|Wk<|Wk<|Wk<|Wk<|Wk<|Wk<|Wr (.bj rfl rfl)<|Wv rfl<|Wn<|Wd rfl fS<|λ_=>Wo<|Wf rfl<|Wr .ld<|Wh rfl rfl (qM k18)<|Wv rfl<|Wk<|Wk<|Wk<|Wk<|Wk<|Wk<|Wk<|Wk<|Wr (.bj rfl rfl)<|Wv rfl<|Wn<|Wd rfl fS<|λ_=>Ws<|WP.bD<|Dp (.faddr rfl)<|Dl rfl .nil .ld<|Dp (.eql rfl rfl<|qM k26)<|Vr (k:=WD.jm rfl rfl<|Dk<|Dp (.bj rfl rfl)<|Dp (.mv rfl)<|WD.n0<|Vk (k:=We<|Wm (.tmp rfl .nil) ?_))
 refine⟨rfl,?_⟩
 have fin:∀x y,WH bw d t (m1++(x::y::(bw,.r false [d.cells pv ov lv hv gv ev fv sv wv kv] 25)::(nn++t))):=λx y=>⟨pv,ov,lv,hv,gv,ev,fv,sv,wv,kv,(m1++[x,y])++nn,qc,k2.bK⟩
 exact fin _ _
theorem oY.has {b:Nat}{o o':HO}{s s':SH}(h:oY b o o' s s'):Has b o s/\Has b o' s':=by
 obtain⟨x,y,rfl,rfl⟩:=h.split
 exact⟨.app .here,.app .here⟩
theorem iJ.aiM {n:SH}{pv ov lv hv gv ev fv sv wv kv:AV}{d:SD}(h:iJ n pv ov lv hv gv ev fv sv wv kv d):∃o r,n.Perm (o++r)/\GIt sv d.st o/\∀sv' l' o',GIt sv' l' o'->iJ (o'++r) pv ov lv hv gv ev fv sv' wv kv { d with st:=l' }:=by
 obtain⟨o1,o2,o3,o4,o5,o6,o7,o8,o9,o10,j,hp,g1,g2,g3,g4,g5,g6,g7,g8,g9,g10⟩:=h.ex
 refine⟨o8,o1++(o2++(o3++(o4++(o5++(o6++(o7++(o9++(o10++j)))))))),ak λc w h0 h1 h2 hq=>by rw[hq _ _ hp];simp only[h1];omega,g8,λv' l' o' g'=>⟨o1,o2,o3,o4,o5,o6,o7,o',o9,o10,j,ak λc w h0 h1 h2 hq=>by simp only[h1];omega,g1,g2,g3,g4,g5,g6,g7,g',g9,g10⟩⟩
theorem iJ.ah2 {n:SH}{pv ov lv hv gv ev fv sv wv kv:AV}{d:SD}(h:iJ n pv ov lv hv gv ev fv sv wv kv d):∃r,∀kv' l' o',GK kv' l' o'->∃j,n.Perm (r++j)/\iJ (o'++(r++j)) pv ov lv hv gv ev fv sv wv kv' { d with ct:=l' }:=by
 obtain⟨o1,o2,o3,o4,o5,o6,o7,o8,o9,o10,j,hp,g1,g2,g3,g4,g5,g6,g7,g8,g9,g10⟩:=h.ex
 refine⟨n,λv' l' o' g'=>⟨[],by simp,o1,o2,o3,o4,o5,o6,o7,o8,o9,o',o10++j,ak λc w h0 h1 h2 hq=>by simp only[h1,h0,hq _ _ hp];omega,g1,g2,g3,g4,g5,g6,g7,g8,g9,g'⟩⟩
theorem ae3 (hB:Base P K F T)(hI:BaseI P K F T){bw:Nat}{pv ov lv hv gv ev fv sv wv kv:AV}{d:SD}{s2:SH}{k a b n m:Int}{it:ID}(hu:oY bw (.r false [d.cells pv ov lv hv gv ev fv sv wv kv] 25) (.r false [({ d with nx:=d.nx+1 }:SD).cells pv ov lv hv gv ev fv sv wv kv] 25) s s2)(h1:0<=d.nx/\d.nx<=1000000)(hk:Kv s it.tv it.tg)(hkl:it.tg.length<=901000) :
  bB P K (F 275) [.ptr (some ⟨bw,0,0⟩),.agg<|cr k a b n m it] s (λv s'=>∃tv o x y,v=.agg (({ it with id:=d.nx,tv:=nilS }:ID).rw tv)/\GK tv it.tg o/\s'=x++(o++(y++s2))):=by
 refine hI.f275.cF ?_
 unfold ahj
 refine Vr (k:=λb3=>Vr (k:=λb4=>Vr (k:=Ww<|W1 (aa3 hB (hk.mono λp hp=>by simp[hp]) hkl) ?_)))
 rintro w _ ⟨tv,og,j,rfl,hg,rfl⟩
 refine Vr (k:=λb5=>Vk (k:=Wl rfl (.there<|.app<|.there<|.there hu.has.1) rfl rfl rfl<|Vk (k:=Wl rfl (.there<|.app<|.there<|.there hu.has.1) rfl rfl rfl<|Wj rfl rfl (Km h1.1<|by omega)<|Vk (k:=Ww<|Wt rfl rfl rfl (.there<|.app<|.there<|.there hu) rfl rfl<|Vk (k:=Ww<|WS.st<|Wn<|We<|Wm (.cell rfl hB.t48.1 hB.t48.2 (.inl rfl) (.there<|.app .here) rfl rfl rfl .nil) ?_)))))
 have fin:∀(p q r:Nat × HO),p::((og++j)++(q::r::s2))=[p]++(og++((j++[q,r])++s2)):=λp q r=>by simp
 exact⟨tv,og,_,_,rfl,hg,fin _ _ _⟩
theorem adG (hB:Base P K F T)(hI:BaseI P K F T){bw bx:Nat}{d:SD}{t:SH}(hs:WH bw d t s)(hx:Has bx (.r false [[.ptr (some ⟨bw,0,0⟩)]] 1) t)(hd:d.Small){k a b n m:Int}{it:ID}(h1:0<=d.nx/\d.nx<=1000000)(hk:Kv t it.tv it.tg)(hkl:it.tg.length<=901000) :
  bB P K (F 274) [.agg (cr k a b n m it),.ptr<|some ⟨bx,0,0⟩] s (λ_ s'=>WH bw { d with nx:=d.nx+1,st:=d.st++[{ it with id:=d.nx,tv:=nilS }] } t s'):=by
 obtain⟨pv,ov,lv,hv,gv,ev,fv,sv,wv,kv,nn,k1,k2⟩:=hs
 refine bB.perm k1.symm ?_
 refine hI.f274.cF ?_
 unfold ahi
 refine Vr (k:=λb2=>Wn<|WP.fd λb'=>?_)
 refine WD.lk rfl .nil .ld<|WD.lk rfl .nil (.load rfl (.there<|.there<|.there<|.app hx) rfl rfl rfl)<|Dp (.nilchk rfl rfl)<|Dp (.faddr rfl)<|Dp (.faddr rfl)<|WD.lk rfl .nil .ld<|Vr (k:=?_)
 refine Dc .nil<|W1 (ae3 hB hI (.there<|.there .here) h1 (hk.mono λp hp=>by simp[hp]) hkl) ?_
 rintro w _ ⟨tv,og,x1,y1,rfl,hg,rfl⟩
 obtain⟨oo,r,e1,e2,e3⟩:=k2.aiM
 obtain⟨LL,o1,oi,e4,e5,rfl⟩:=e2
 refine WD.al (.bslice (fZ rfl rfl) rfl) rfl<|Dc (.yes rfl rfl uP .nil)<|WS.pre (s':=[(b',.r false [({ it with id:=d.nx,tv:=nilS }:ID).rw tv] 7),(b2,.r false [cr k a b n m it] 13),(bw,.r false [({ d with nx:=d.nx+1 }:SD).cells pv ov lv hv gv ev fv sv wv kv] 25)]++(o1++(oi++(x1++(og++(y1++(r++t))))))) (ak λc w h0 h1 h2 hq=>by simp only[h1,h2,h0,hq _ _ e1];omega)<|WS.append_gr rfl e4 rfl (Src.all (L:=[({ it with id:=d.nx,tv:=nilS }:ID).rw tv]) .here) (by omega) (by have:=hd.n1;have:=e5.len;omega) (by omega) λv' o' j hG=>?_
 have pI:GIt v' (d.st++[{ it with id:=d.nx,tv:=nilS }]) (o'++(og++oi)):=⟨_,o',og++oi,hG,.snoc e5 hg.gr,rfl⟩
 have k3:=e3 v' (d.st++[{ it with id:=d.nx,tv:=nilS }]) _ pI
 refine Vr (k:=Dc .nil<|Wt rfl rfl hG.part uP rfl rfl<|D0 .nil (Wm .nil ?_) ?_)
 ·exact⟨pv,ov,lv,hv,gv,ev,fv,v',wv,kv,[(b',.r false [({ it with id:=d.nx,tv:=nilS }:ID).rw tv] 7),(b2,.r false [cr k a b n m it] 13)]++(j++(x1++(y1++((o'++(og++oi))++r)))),
   (show List.Perm (o'++([(b',.r false [({ it with id:=d.nx,tv:=nilS }:ID).rw tv] 7),(b2,.r false [cr k a b n m it] 13),(bw,HO.r false [({ d with nx:=d.nx+1,st:=d.st++[{ it with id:=d.nx,tv:=nilS }] }:SD).cells pv ov lv hv gv ev fv v' wv kv] 25)]++(j++(oi++(x1++(og++(y1++(r++t)))))))) _ from qc),
   (show iJ _ pv ov lv hv gv ev fv v' wv kv { d with nx:=d.nx+1,st:=d.st++[{ it with id:=d.nx,tv:=nilS }] } from⟨(((((k3.bK (m:=y1))).bK (m:=x1)).bK (m:=j)).bK).ex⟩)⟩
 ·intro o ho
  rcases List.mem_cons.1 ho with rfl|ho
  ·refine⟨(λi hi=>by simp only[List.mem_singleton]at hi;subst hi;exact(show bit 30 9=false from rfl)),Nat.zero_le _,e4.out.src.sameN _,λk _ hk=>?_⟩
   rcases j9 hk with rfl|rfl
   ·exact⟨_,rfl,.load rfl (.there<|.there .here) rfl rfl rfl⟩
   ·exact⟨_,rfl,.load rfl (.app<|.app<|.app<|.there<|.there .here) rfl rfl rfl⟩
  ·rcases List.mem_cons.1 ho with rfl | ho
   ·refine⟨(λi hi=>by simp only[List.mem_singleton]at hi;subst hi;exact(show bit 0 9=false from rfl)),Nat.zero_le _,ji _ _ _,λk _ hk=>?_⟩
    rcases j9 hk with rfl|rfl
    ·exact⟨_,rfl,.load rfl (.there<|.there<|.there<|.app hx) rfl rfl rfl⟩
    ·exact⟨_,rfl,.load rfl (.app<|.app<|.app<|.there<|.there<|.there<|.app hx) rfl rfl rfl⟩
   ·rw[List.mem_singleton.1 ho]
    refine⟨(λi hi=>by simp only[List.mem_singleton]at hi;subst hi;exact(show bit 0 9=false from rfl)),Nat.zero_le _,ji _ _ _,λk _ hk=>?_⟩
    rcases(by have:k<=2:=hk;omega:k=0\/k=1\/k=2)with rfl|rfl|rfl
    ·exact⟨_,rfl,.load rfl (.there<|.there<|.there<|.app hx) rfl rfl rfl⟩
    ·exact⟨_,rfl,.load rfl (.app<|.app<|.app<|.there<|.there<|.there<|.app hx) rfl rfl rfl⟩
    ·exact⟨_,rfl,.load rfl (.app<|.app<|.app<|.app<|.app<|.app<|.app<|.app hx) rfl rfl rfl⟩
theorem aav (hB:Base P K F T){k:Nat}{a b n m:Int}{it:ID}{d d':SD}(hd:d.Small)
  (lm:∀s,Kv s it.tv it.tg->bB P K (F 201) [.agg (cr (.ofNat k) a b n m it)] s (λv s'=>v=iv 0/\s'=s))
  (UT:∀{bw:Nat}{s:SH},bB P K (F 202) [.ptr (some ⟨bw,0,0⟩),iv<|.ofNat k] s (λv s'=>∃m,s'=m++s/\RV F bw m k v))
  (hmay:∀{bw:Nat}{t s m':SH}{v:AV},RV F bw m' k v->WH bw d t s->bB P K (F 203) [.ptr (some ⟨bw,0,0⟩),.agg<|cr (.ofNat k) a b n m it,v] s (λw s'=>w=iv 0/\WH bw d t s'))
  (A2:∀{bw:Nat}{t s:SH}{p o f:Bool}{fn:AV},RV F bw t k (.agg [.bool p,.bool o,.bool f,fn])->WH bw d t s->Kv t it.tv it.tg->c6 P K fn [.agg (cr (.ofNat k) a b n m it)] s (λ_ s'=>WH bw d' t s')):Ap P K F (.ofNat k) a b n m it d d':=by
 intro pv ov lv hv gv ev fv sv wv kv s h hkv
 refine hB.f164.cF ?_
 unfold Lg
 refine Vr (k:=λb2=>Vr (k:=λb3=>Vr (k:=λb4=>Vr (k:=?_))))
 have hR:mD ((b4,.r false [cC] 25)::(b3,.r false [cr (.ofNat k) a b n m it] 13)::(b2,.r false [d.cells pv ov lv hv gv ev fv sv wv kv] 25)::s) pv ov lv hv gv ev fv sv wv kv d:=⟨h.pl.mono λp hp=>by simp[hp],h.ob.mono λp hp=>by simp[hp],h.lb.mono λp hp=>by simp[hp],h.hd.mono λp hp=>by simp[hp],h.gr.mono λp hp=>by simp[hp],h.ex.mono λp hp=>by simp[hp],h.fi.mono λp hp=>by simp[hp],h.st.mono λp hp=>by simp[hp],h.wa.mono λp hp=>by simp[hp],h.ct.mono λp hp=>by simp[hp]⟩
 refine Vr (k:=Ww<|W1 (mw hB hR hd) ?_)
 rintro w _ ⟨pv,ov,lv,hv,gv,ev,fv,sv,wv,kv,n1,rfl,rfl,g1⟩
 refine Vr (k:=λbw=>Wv rfl<|Wn ?_)
 refine Wg (λ_ _ h=>h) (λ_ _ h=>h) ?_
 refine Vr (k:=Ww<|W1 (lm _<|hkv.mono λp hp=>by simp[hp]) ?_)
 rintro w _ ⟨rfl,rfl⟩
 refine Vr (k:=Ww<|W1 UT ?_)
 rintro w _ ⟨m2,rfl,UZ⟩
 obtain⟨p,o,f,fn,rfl,hfn⟩:=UZ.agg
 refine Vr (k:=λb8=>Ww<|WS.st<|Wn ?_)
 have hW:∀y,WH bw d ((b8,.r false [[.bool p,.bool o,.bool f,fn]] 4)::(m2++((b4,.r false [cC] 25)::(b3,.r false [cr (.ofNat k) a b n m it] 13)::(b2,y)::s)))
   ((b8,.r false [[.bool p,.bool o,.bool f,fn]] 4)::(m2++((bw,.r false [d.cells pv ov lv hv gv ev fv sv wv kv] 25)::(n1++((b4,.r false [cC] 25)::(b3,.r false [cr (.ofNat k) a b n m it] 13)::(b2,y)::s))))):=λy=>
  ⟨pv,ov,lv,hv,gv,ev,fv,sv,wv,kv,n1,qc,g1⟩
 refine Wg (λ_ _ h=>h) (λ_ _ h=>h) ?_
 refine Vr (k:=Ww<|W1 (hmay UZ<|hW _) ?_)
 rintro w s5 ⟨rfl,XY⟩
 obtain⟨pv,ov,lv,hv,gv,ev,fv,sv,wv,kv,n5,k5,g5⟩:=XY
 have XZ:∀t,WH bw d t ((bw,.r false [d.cells pv ov lv hv gv ev fv sv wv kv] 25)::(n5++t)):=λt=>⟨pv,ov,lv,hv,gv,ev,fv,sv,wv,kv,n5,.refl _,g5⟩
 refine Wv rfl<|Wn<|Wq<|Wv rfl<|Wh rfl rfl (dh _ _)<|Wn<|Wd rfl fS<|λ_=>Wi<|WP.pre k5<|Vr (k:=Ww<|WS.call (fv:=fn) rfl rfl (A2 (UZ.mono λb o hh=>.there zP) (XZ _)<|hkv.mono λp hp=>by simp[hp]) ?_)
 rintro w s7 X0
 obtain⟨pv,ov,lv,hv,gv,ev,fv,sv,wv,kv,n7,k7,g7⟩:=X0
 have fin:∀y1 y2 y3 y4 y5,iJ (y1::(n7++(y2::(m2++[y3,y4,y5])))) pv ov lv hv gv ev fv sv wv kv d':=λy1 y2 y3 y4 y5=>
  (g7.bK (m:=y1::y2::(m2++[y3,y4,y5]))).perm (qc)
 refine Wn<|WP.pre k7<|Vr (k:=We<|Wm (.ce hB.t41) ?_)
 exact⟨pv,ov,lv,hv,gv,ev,fv,sv,wv,kv,_,rfl,fN<|pull<|fN<|pull yh,fin _ _ _ _ _⟩
theorem yH (hB:Base P K F T){k:Nat}{a b n m:Int}{it:ID}{d d':SD}(hd:d.Small)
  (lm:∀s,bB P K (F 201) [.agg (cr (.ofNat k) a b n m it)] s<|λv s'=>v=iv 0/\s'=s)
  (UT:∀{bw:Nat}{s:SH},bB P K (F 202) [.ptr (some ⟨bw,0,0⟩),iv<|.ofNat k] s (λv s'=>∃m,s'=m++s/\RV F bw m k v))
  (hmay:∀{bw:Nat}{t s m':SH}{v:AV},RV F bw m' k v->WH bw d t s->bB P K (F 203) [.ptr (some ⟨bw,0,0⟩),.agg<|cr (.ofNat k) a b n m it,v] s (λw s'=>w=iv 0/\WH bw d t s'))
  (A2:∀{bw:Nat}{t s:SH}{p o f:Bool}{fn:AV},RV F bw t k (.agg [.bool p,.bool o,.bool f,fn])->WH bw d t s->c6 P K fn [.agg (cr (.ofNat k) a b n m it)] s (λ_ s'=>WH bw d' t s')):Ap P K F (.ofNat k) a b n m it d d':=
 aav hB hd (λs _=>lm s) UT hmay λh1 h2 _=>A2 h1 h2
theorem adB (hB:Base P K F T)(hI:BaseI P K F T){a b n m:Int}{it:ID}{d:SD}(hd:d.Small)(he:d.kQ)(h1:0<=d.nx/\d.nx<=1000000)(hkl:it.tg.length<=901000)(lm:∀s,Kv s it.tv it.tg->bB P K (F 201) [.agg (cr 15 a b n m it)] s (λv s'=>v=iv 0/\s'=s)) :
  Ap P K F 15 a b n m it d { d with nx:=d.nx+1,st:=d.st++[{ it with id:=d.nx,tv:=nilS }] }:=
 aav (k:=15) hB hd lm (acu hB<|by simp) (λ{_ _ _ _ v} hv hW=>by
  obtain⟨bx,rfl,_⟩:=(show km F _ _ v false false false 274 from hv)
  exact adu hB hW hd he (k:=15) (by omega) (by omega) (by omega) (by omega)) (λ{_ _ _ _ _ _ _} hv hW hkv=>by
  obtain⟨bx,hv,hx⟩:=(show km F _ _ _ false false false 274 from hv)
  cases hv
  exact c6.func (adG hB hI hW hx hd h1 hkv hkl))
theorem aaF (hB:Base P K F T){bf bl:Nat}{aZ ap:AV}{c0 c1 c2 c3 c4:Int}{EL:List (List AV)}{d d':SD}{t:SH}{k a:Int}{b n m:Int}{it:ID}(hs:aH bl EL d t s)(hd:d.Small)(hf:Has bf (.r false [bu bl aZ c0 c1 c2 c3 c4 ap] 8) t)(hE:EL.length<=5000)
  (k1:k≠1) (k2:k≠2) (k15:k≠15) (k17:k≠17) (hap:Ap P K F k a b n m it d d') (hz:it.tg=[]/\it.tv=nilS:=by exact⟨rfl,rfl⟩) :
  bB P K (F 15) [.ptr (some ⟨bf,0,0⟩),.agg<|cr k a b n m it] s (λv s'=>v=iv 0/\aH bl (EL++[cr k a b n m it]) d' t s'):=by
 refine hB.f15.cF ?_
 unfold WN
 refine Vr (k:=λb3=>Wv rfl<|Wn ?_)
 have gw:aH bl EL d ((b3,.r false [cr k a b n m it] 13)::t) ((b3,.r false [cr k a b n m it] 13)::s):=hs.cons
 refine Ws<|Wb<|Wq<|Wv rfl<|Wh rfl rfl rfl<|Wv rfl<|Wn<|Wd rfl (λh=>by cases h)<|λ_=>Ws<|WP.bD ?_
 refine(Dp (.faddr rfl)<|Dl rfl .nil .ld<|Dp (.eql rfl rfl<|qM k1)<|Dp (.mv rfl)<|Dk<|WD.jm rfl rfl<|Dk<|Dk<|Dk<|Dk<|Dk<|Dk<|Dk<|Dk<|Dp (.bj rfl rfl)<|Dp (.mv rfl)<|WD.n0 ?_)
 refine Vr (k:=Dc .nil<|W1 (mI hB gw hE hap (hz:=hz)) ?_)
 rintro w s5 ⟨rfl,tn⟩
 refine Dp (.eql rfl rfl<|dh _ _)<|Dp (.mv rfl)<|WD.n0<|Wd rfl fS<|λ_=>Wi<|Ws<|Wq<|Wf rfl<|Wr .ld<|Wn<|Wb<|Ws<|Wq<|Wh rfl rfl (qM k1)<|Wv rfl<|Wn<|Wd rfl fS<|λ_=>Wq<|Wh rfl rfl (qM k2)<|Wv rfl<|Wn<|Wd rfl fS<|λ_=>Wq<|Wh rfl rfl (qM k15)<|Wv rfl<|Wn<|Wd rfl fS<|λ_=>Wo<|Wh rfl rfl (qM k17)<|Wv rfl<|Wn<|Wd rfl fS<|λ_=>Wi<|Wq<|Wv rfl<|Wn<|We<|Wm (.tmp rfl .nil) ⟨rfl,tn.tail⟩
theorem acd (hB:Base P K F T){bf bl:Nat}{aZ ap:AV}{c0 c1 c2 c3 c4:Int}{EL:List (List AV)}{d d':SD}{t:SH}{k a:Int}{b n m:Int}{it:ID}(hs:aH bl EL d t s)(hd:d.Small)(hf:Has bf (.r false [bu bl aZ c0 c1 c2 c3 c4 ap] 8) t)(hE:EL.length<=5000)
  (k1:k≠1) (k2:k≠2) (k15:k≠15) (k17:k≠17) (hap:Ap P K F k a b n m it d d') (hkv:Kv t it.tv it.tg) (hkl:it.tg.length<=901000) :
  bB P K (F 15) [.ptr (some ⟨bf,0,0⟩),.agg<|cr k a b n m it] s (λv s'=>v=iv 0/\∃row,aH bl (EL++[row]) d' t s'):=by
 refine hB.f15.cF ?_
 unfold WN
 refine Vr (k:=λb3=>Wv rfl<|Wn ?_)
 have gw:aH bl EL d ((b3,.r false [cr k a b n m it] 13)::t) ((b3,.r false [cr k a b n m it] 13)::s):=hs.cons
 refine Ws<|Wb<|Wq<|Wv rfl<|Wh rfl rfl rfl<|Wv rfl<|Wn<|Wd rfl (λh=>by cases h)<|λ_=>Ws<|WP.bD ?_
 refine(Dp (.faddr rfl)<|Dl rfl .nil .ld<|Dp (.eql rfl rfl<|qM k1)<|Dp (.mv rfl)<|Dk<|WD.jm rfl rfl<|Dk<|Dk<|Dk<|Dk<|Dk<|Dk<|Dk<|Dk<|Dp (.bj rfl rfl)<|Dp (.mv rfl)<|WD.n0 ?_)
 refine Vr (k:=Dc .nil<|W1 (aaD hB gw hE hap (hkv.mono λp hp=>by simp[hp]) hkl) ?_)
 rintro w s5 ⟨rfl,tvn,_,tn⟩
 refine Dp (.eql rfl rfl<|dh _ _)<|Dp (.mv rfl)<|WD.n0<|Wd rfl fS<|λ_=>Wi<|Ws<|Wq<|Wf rfl<|Wr .ld<|Wn<|Wb<|Ws<|Wq<|Wh rfl rfl (qM k1)<|Wv rfl<|Wn<|Wd rfl fS<|λ_=>Wq<|Wh rfl rfl (qM k2)<|Wv rfl<|Wn<|Wd rfl fS<|λ_=>Wq<|Wh rfl rfl (qM k15)<|Wv rfl<|Wn<|Wd rfl fS<|λ_=>Wo<|Wh rfl rfl (qM k17)<|Wv rfl<|Wn<|Wd rfl fS<|λ_=>Wi<|Wq<|Wv rfl<|Wn<|We<|Wm (.tmp rfl .nil) ⟨rfl,_,tn.tail⟩
theorem acb (hB:Base P K F T){bf bl:Nat}{aZ ap:AV}{c0 c1 c2 c3 c4:Int}{EL:List (List AV)}{d d':SD}{t:SH}{a:Int}{b n m:Int}{it:ID}(hs:aH bl EL d t s)(hd:d.Small)(hf:Has bf (.r false [bu bl aZ c0 c1 c2 c3 c4 ap] 8) t)(hE:EL.length<=5000)
  (hap:Ap P K F 15 a b n m it d d') (hd':d'.Small) (YI:1<=d'.nx/\d'.nx<=1000000) (hkv:Kv t it.tv it.tg) (hkl:it.tg.length<=901000) :
  bB P K (F 15) [.ptr (some ⟨bf,0,0⟩),.agg<|cr 15 a b n m it] s (λv s'=>v=iv (d'.nx-1)/\∃row,aH bl (EL++[row]) d' t s'):=by
 refine hB.f15.cF ?_
 unfold WN
 refine Vr (k:=λb3=>Vk (k:=?_))
 have gw:aH bl EL d ((b3,.r false [cr 15 a b n m it] 13)::t) ((b3,.r false [cr 15 a b n m it] 13)::s):=hs.cons
 refine Vk (k:=WP.bD ?_)
 refine(Dp (.faddr rfl)<|Dl rfl .nil .ld<|Dp (.eql rfl rfl<|dh _ _)<|Dp (.mv rfl)<|Dk<|WD.jm rfl rfl<|Dk<|Dk<|Dk<|Dk<|Dk<|Dk<|Dk<|Dk<|Dp (.bj rfl rfl)<|Dp (.mv rfl)<|WD.n0 ?_)
 refine Vr (k:=Dc .nil<|W1 (aaD hB gw hE hap (hkv.mono λp hp=>by simp[hp]) hkl) ?_)
 rintro w s5 ⟨rfl,tvn,_,tn⟩
 refine Vr (k:=Ww<|W1 (cz hB tn hd' zP) ?_)
 rintro w s6 ⟨KL,pv,ov,lv,hv,gv,ev,fv,sv,wv,kv,rfl,hR6⟩
 refine Wr (.fld rfl rfl)<|Wj rfl rfl (aev YI.1<|by omega)<|Wv rfl<|Wn<|We<|Wm (.tmp rfl .nil) ⟨rfl,_,KL.tail⟩
@[reducible] def ads (d:SD)(kv:AV):List AV:=[iv d.tu,iv d.ac,iv d.ph,iv d.pr,iv d.pa,iv d.bl,iv d.ck,iv d.co,iv d.ca,kv,.bool d.py,iv d.oc,iv d.wi]
variable {bf:Nat}{bl:Nat}{aZ:AV}{ap:AV}{c0:Int}{c1:Int}{c2:Int}{c3:Int}{c4:Int}{EL:List (List AV)}{d:SD}{t:SH}
theorem WO.pre {ol:List bS}{s':SH}(hp:s.Perm s')(h:WO P K ol l ds s' Q):WO P K ol l ds s Q:=
 λnt ops l0 h0 H0 e H he hH=>h nt ops l0 h0 H0 e H he<|hH.perm hp
theorem Src.Ko {sz:Nat}{v:AV}{L:List (List AV)}(h:Src s sz v L)(hne:0<L.length):∃b r n c sl ro M,v=.slice (some ⟨b,r,0⟩) n c sl sz/\Has b (.r ro M sz) s/\L.length<=n/\∀i,i<L.length->M[r+i]?=L[i]?:=by
 cases h with
 | nil=>exact absurd hne<|Nat.lt_irrefl _
 | zero=>exact absurd hne<|Nat.lt_irrefl _
 | emp=>exact absurd hne<|Nat.lt_irrefl _
 | @rows b r n c sl ro M hb hn=>
  refine⟨b,r,n,c,sl,ro,M,rfl,hb,by rw[List.length_take];omega,λi hi=>?_⟩
  have hi2:i<n:=by rw[List.length_take]at hi;omega
  rw[List.getElem?_take,if_pos hi2,List.getElem?_drop]
theorem iJ.ctp {n:SH}{pv ov lv hv gv ev fv sv wv kv:AV}(h:iJ n pv ov lv hv gv ev fv sv wv kv d):∃o j,n.Perm (o++j)/\GK kv d.ct o:=by
 obtain⟨o1,o2,o3,o4,o5,o6,o7,o8,o9,o10,j,hp,g1,g2,g3,g4,g5,g6,g7,g8,g9,g10⟩:=h.ex
 exact⟨o10,o1++(o2++(o3++(o4++(o5++(o6++(o7++(o8++(o9++j)))))))),ak λc w h0 h1 h2 hq=>by rw[hq _ _ hp];simp only[h1];omega,g10⟩
theorem ae0 (hB:Base P K F T)(hG:BaseB P K F T)(ht:Ty P (T 128) 13)(hs:aH bl EL d t s)(hd:d.Small)(hf:Has bf (.r false [bu bl aZ c0 c1 c2 c3 c4 ap] 8) t) :
  bB P K (F 58) [.ptr (some ⟨bf,0,0⟩)] s (λv s'=>∃kv m,v=.agg (ads d kv)/\GK kv d.ct m/\aH bl EL d (m++t) s'):=by
 refine hG.f58.cF ?_
 unfold a58
 refine Vr (k:=λb2=>Vr (k:=Ww<|W1 (zY hB hs.cons hd<|.there hf) ?_))
 rintro w s2 ⟨m,dt,pv,ov,lv,hv,gv,ev,fv,sv,wv,kv,rfl,hR⟩
 obtain⟨o,j,hm,hg⟩:=hR.ctp
 have akz:=dt.pick hm
 obtain⟨s3,hp,gw⟩:=akz.first
 refine WO.pre hp<|Vr (k:=λb3=>Vr (k:=We<|Wm (.cell rfl ht.1 ht.2 (.inl rfl) (.there .here) rfl rfl rfl .nil) ?_))
 exact⟨kv,o,rfl,hg,aH.bK (m:=[_,_]) gw⟩
theorem adE (hG:BaseB P K F T)(ht:Ty P (T 24) 5)(hf:Has bf (.r false [bu bl aZ c0 c1 c2 c3 c4 ap] 8) s) :
  bB P K (F 345) [.ptr (some ⟨bf,0,0⟩)] s (λv s'=>v=.agg [iv c0,iv c1,iv c2,iv c3,iv c4]/\∃m,s'=m++s):=by
 refine hG.f345.cF ?_
 unfold ahm
 refine Vr (k:=λb2=>Vr (k:=We<|Wm (.ce ht) ?_))
 exact⟨rfl,[_],rfl⟩
open Go.Proofs
set_option maxRecDepth 100000
noncomputable def ZU:CF:=NF (cd 17 19) _
noncomputable def ZV:CF:=NF (cd 31 12) _
noncomputable def ZW:CF:=NF (cd 13 21) _
noncomputable def ZX:CF:=NF (cd 19 23) _
noncomputable def Z9:CF:=NF (cd 61 34) _
noncomputable def a90:CF:=NF (cd 77 62) _
noncomputable def SP:CF:=NF (cd 139 51) _
noncomputable def SQ:CF:=NF (cd 140 41) _
noncomputable def SR:CF:=NF (cd 141 57) _
noncomputable def SY:CF:=NF (cd 197 9) _
noncomputable def SZ:CF:=NF (cd 198 6) _
noncomputable def S0:CF:=NF (cd 199 16) _
noncomputable def S3:CF:=NF (cd 200 51) _
noncomputable def Lh:CF:=NF (cd 201 48) _
noncomputable def WY:CF:=NF (cd 202 42) _
noncomputable def S4:CF:=NF (cd 203 7) _
noncomputable def S5:CF:=NF (cd 204 9) _
noncomputable def S6:CF:=NF (cd 205 30) _
noncomputable def S7:CF:=NF (cd 248 19) _
noncomputable def S8:CF:=NF (cd 249 7) _
noncomputable def W0:CF:=NF (cd 250 19) _
noncomputable def Lk:CF:=NF (cd 251 63) _
noncomputable def S9:CF:=NF (cd 275 13) _
noncomputable def amy:CF:=NF (cd 276 13) _
noncomputable def amz:CF:=NF (cd 277 16) _
noncomputable def amA:CF:=NF (cd 278 24) _
noncomputable def Lo:CF:=NF (cd 279 53) _
noncomputable def amB:CF:=NF (cd 280 220) _
noncomputable def amT:CF:=NF (cd 301 58) _
noncomputable def amV:CF:=NF (cd 346 38) _
structure BaseC (P:Program)(K:Orc)(F:Nat->FuncId)(T:Nat->TypeId):Prop where
 f30:FnK P K (F 30) 19 [(.cell 4<|T 71),(.tmp 5)] (ZU F T)
 f36:FnK P K (F 36) 12 [(.tmp 6)] (ZV F T)
 f37:FnK P K (F 37) 21 [(.cell 4<|T 45),(.tmp 5)] (ZW F T)
 f43:FnK P K (F 43) 23 [(.cell 4<|T 107)] (ZX F T)
 f77:FnK P K (F 77) 34 [(.cell 6<|T 71),(.tmp 7)] (Z9 F T)
 f90:FnK P K (F 90) 62 [(.tmp 6)] (a90 F T)
 f121:FnK P K (F 121) 51 [(.cell 6<|T 45),(.cell 7<|T 99),(.tmp 8)] (SP F T)
 f167:FnK P K (F 167) 9 [(.tmp 4)] (SY F T)
 f204:FnK P K (F 204) 19 [(.tmp 4)] (S7 F T)
structure TyC (P:Program)(T:Nat->TypeId):Prop where
 t71:Ty P (T 71) 3
 t99:Ty P (T 99) 11
 t107:Ty P (T 107) 8
 t264:Ty P (T 264) 2
 t294:Ty P (T 294) 10
structure ED where
 op:Int
 a:Int
 b:Int
 st:Int
theorem Qp {L:List Int}{i:Nat}(h:i<L.length):(nR L)[i]?=some [iv L[i]]:=by rw[nR,List.getElem?_map,List.getElem?_eq_getElem h];rfl
theorem gq (L:List Int):(nR L).length=L.length:=by simp[nR]
theorem aek (hC:BaseC P K F T){v:AV}{L:List Int}{id:Int}(hv:Src s 1 v (nR L))(hn:L.length<=1000) :
  bB P K (F 204) [v,iv id] s (λw s'=>(∃r:Int,w=iv r/\decide (r<0)=!decide (id∈L))/\s'=s):=by
 refine hC.f204.cF ?_
 have lv:lenOf v=some L.length:=by rw[hv.lenOf,gq]
 refine Vr (k:=?_)
 refine Wp (λk l ds s'=>ds=[]/\s'=s/\∃q,k=L.length-q/\q<=L.length/\(∀j,j<q->L[j]?≠some id)/\∀j w,lk [(0,v),(1,iv id),(7,iv<|.ofNat L.length),(8,iv<|.ofNat q),(6,v)] j=some w->lk l j=some w) ?_ (n:=L.length-0) ⟨rfl,rfl,0,rfl,Nat.zero_le _,λj hj=>absurd hj<|Nat.not_lt_zero _,aa rfl qb⟩
 rintro k l ds s' ⟨rfl,rfl,q,rfl,hq,hno,hl⟩
 refine Wg hl (λ_ _ h=>h) ?_
 refine Vk (k:=Wd rfl (λht=>Wi ?_)<|λht=>?_)
 ·have hlt:q<L.length:=bh.1 ht
  obtain⟨b,r,no,c,so,ro,M,rfl,hb,PS,hM⟩:=hv.Ko (by rw[gq];omega)
  rw[gq]at PS hM
  refine Vr (k:=Wl rfl hb ((hM q hlt).trans (Qp hlt)) rfl rfl<|Wh rfl rfl (dh _ _)<|Wn ?_)
  by_cases he:id=L[q]
  ·rw[decide_eq_true he]
   refine Vk (k:=We<|Wm (.tmp rfl .nil) ?_)
   refine⟨⟨.ofNat q,rfl,?_⟩,rfl⟩
   have:id∈L:=by rw[he];exact List.getElem_mem _
   rw[decide_eq_true this,decide_eq_false (by show¬((q:Nat):Int)<0;omega)]
   rfl
  ·rw[decide_eq_false he]
   refine Vr (k:=?_)
   refine⟨L.length-(q+1),by omega,rfl,rfl,q+1,rfl,hlt,λj hj=>?_,aa rfl qb⟩
   by_cases YC:j=q
   ·subst YC
    rw[List.getElem?_eq_getElem hlt]
    intro h
    exact he (Option.some.inj h).symm
   ·exact hno j<|by omega
 ·refine Wx ?_
  have:q=L.length:=by
   have:¬q<L.length:=λh=>by rw[fw,show Nat.blt q L.length=true from bh.2 h]at ht;cases ht
   omega
  subst this
  refine Vk (k:=We<|Wm (.tmp rfl .nil) ?_)
  refine⟨⟨-1,rfl,?_⟩,rfl⟩
  have:¬id∈L:=λh=>by
   obtain⟨j,hj,e⟩:=List.getElem_of_mem h
   exact hno j hj<|by rw[List.getElem?_eq_getElem hj,e]
  rw[decide_eq_false this]
  rfl
theorem mJ (hC:BaseC P K F T){v:AV}{L:List Int}{id:Int}(hv:Src s 1 v (nR L))(hn:L.length<=1000):bB P K (F 167) [v,iv id] s (λw s'=>w=.bool (decide (id∈L))/\s'=s):=by
 refine hC.f167.cF ?_
 refine Vr (k:=Ww<|W1 (aek hC hv hn) ?_)
 rintro w _ ⟨⟨r,rfl,hr⟩,rfl⟩
 refine Wj rfl rfl (th r 0)<|Wv rfl<|Wn<|We<|Wm (.tmp rfl .nil) ?_
 grind
structure AD where
 kind:Int
 ev:Int
 who:Int
 n3:Int
 n4:Int
 n5:Int
 n6:Int
 tap:Bool
 tg:AV
 cd:AV
 op:Int
 a:Int
 b:Int
@[reducible] def AD.row (x:AD):List AV:=[iv x.kind,iv x.ev,iv x.who,iv x.n3,iv x.n4,iv x.n5,iv x.n6,.bool x.tap,x.tg,x.cd,iv x.op,iv x.a,iv x.b]
structure CD where
 nm:ByteArray
 kind:Int
 n2:Int
 n3:Int
 n4:Int
 n5:Int
 n6:Int
 power:Int
 qn:Int
 keys:Int
 av:AV
 ab:List AD
@[reducible] def CD.row (c:CD):List AV:=[.str c.nm,iv c.kind,iv c.n2,iv c.n3,iv c.n4,iv c.n5,iv c.n6,iv c.power,iv c.qn,iv c.keys,c.av]
structure cI (s:SH)(cv:AV)(C:List CD):Prop where
 src:Src s 11 cv (C.map CD.row)
 ab:∀c∈C,Src s 13 c.av<|c.ab.map AD.row
 n:C.length<=1000
 nb:∀c∈C,c.ab.length<=1000
theorem cI.mono {s s':SH}{cv:AV}{C:List CD}(h:cI s cv C)(hs:∀p,p∈s->p∈s'):cI s' cv C:=⟨h.src.mono hs,λc hc=>(h.ab c hc).mono hs,h.n,h.nb⟩
def SD.onF (d:SD)(C:List CD)(id:Int):Option (OD × CD):=
 match d.find id with
 | none=>none
 | some i=>if id∈d.fi then match d.ob[i]? with
  | none=>none
  | some o=>if o.gt<0 then none else match C[o.gt.toNat]? with
   | none=>none
   | some c=>some (o,c)
  else none
def Bj (d:SD)(C:List CD)(id:Int)(v:AV):Prop:=
 (∃o c,d.onF C id=some (o,c)/\c.kind=2/\o∈d.ob/\c∈C/\v=.tuple [.agg o.row,.agg c.row,.bool true]) \/
  ((∀o c,d.onF C id=some (o,c)->c.kind≠2)/\∃(o:OD)(c:CD),v=.tuple [.agg o.row,.agg c.row,.bool false])
theorem J3 (c:CD)(h:Src s 13 c.av (c.ab.map AD.row)):dz (.agg c.row) (.agg c.row)=true:=by
 have hs:=h.sameN 4
 show sameL (sameN 5) c.row c.row=true
 simp only[sameL,hs,Bool.and_true]
 simp[sameN,same0,gd,keq]
@[reducible] def yz:List AV:=[(.str ⟨#[]⟩),(.int .i64 (.ofNat 0)),(.int .i64 (.ofNat 0)),(.int .i64 (.ofNat 0)),(.int .i64 (.ofNat 0)),(.int .i64 (.ofNat 0)),(.int .i64 (.ofNat 0)),(.int .i64 (.ofNat 0)),(.int .i64 (.ofNat 0)),(.int .i64 (.ofNat 0)),(.slice none 0 0 false 0)]
theorem ta (hB:Base P K F T)(hC:BaseC P K F T)(q9:Ty P (T 45) 14)(IZ:Ty P (T 99) 11){cv pv ov lv hv gv ev fv sv wv kv:AV}{d:SD}{C:List CD}{id:Int}(eQ:cI s cv C)(h:mD s pv ov lv hv gv ev fv sv wv kv d)(hd:d.Small)(hcd:∀o∈d.ob,∃j:Nat,o.gt=.ofNat j/\j<C.length) :
  bB P K (F 121) [cv,.agg<|d.cells pv ov lv hv gv ev fv sv wv kv,iv id] s (λv s'=>Bj d C id v/\∃m,s'=m++s):=by
 have hn:=hd.n1
 refine hC.f121.cF ?_
 unfold SP
 refine Vr (k:=λb4=>Vr (k:=λb6=>Vr (k:=λb7=>Vr (k:=Ww<|W1 (lg hB (h.ob.mono λp hp=>by simp[hp]) hd) ?_))))
 rintro w _ ⟨rfl,m1,rfl⟩
 refine Wv rfl<|Wn ?_
 by_cases hf:(∃i,d.find id=some i)/\id∈d.fi
 ·obtain⟨⟨i,hi⟩,hm⟩:=hf
  obtain⟨Uw,ho⟩:∃h:i<d.ob.length,d.ob[i]?=some d.ob[i]:=by
   obtain⟨h1,_⟩:=List.findIdx?_eq_some_iff_getElem.1 hi
   exact⟨h1,List.getElem?_eq_getElem h1⟩
  have hmem:d.ob[i]∈d.ob:=List.getElem_mem _
  obtain⟨j,hj,A3⟩:=hcd _ hmem
  generalize d.ob[i]=o at ho hmem hj
  have zC:C[j]?=some C[j]:=List.getElem?_eq_getElem A3
  have IR:C[j]∈C:=List.getElem_mem _
  generalize C[j]=c at zC IR
  have sj:d.onF C id=some (o,c):=by
   simp only[SD.onF,hi,if_pos hm,ho,hj]
   rw[if_neg (by show¬Int.ofNat j<0;exact Int.not_lt.2<|Int.natCast_nonneg j)]
   show(match C[j]? with | none=>none | some c=>some (o,c))=_
   rw[zC]
  rw[hi]
  refine Vr (k:=Ww<|W1 (mJ hC (h.fi.mono λp hp=>by simp[hp])<|by omega) ?_)
  rintro w _ ⟨rfl,rfl⟩
  rw[decide_eq_true hm]
  refine Wy<|Wr (.un rfl rfl)<|Wr (.bj rfl rfl)<|Wn<|Wd rfl fS<|λ_=>Wi ?_
  obtain⟨bo,ro,no,co,ZE,WE,Mo,rfl,IM,hin,hrow⟩:=h.ob.at<|by simpa[fy]using Uw
  have afH:Mo[ro+i]?=some o.row:=by rw[hrow];simp only[fy,List.getElem?_map,ho];rfl
  have hge:binV .geq (iv o.gt) (iv<|.ofNat C.length)=some (.bool false):=by
   rw[hj,th,decide_eq_true<|show Int.ofNat j<Int.ofNat C.length from Int.ofNat_lt.2 A3];rfl
  have hlt:binV .lss (iv o.gt) (iv 0)=some (.bool false):=by
   rw[hj,eT,decide_eq_false<|show¬Int.ofNat j<0 from Int.not_lt.2<|Int.natCast_nonneg j]
  have hlen:lenOf cv=some C.length:=by rw[eQ.src.lenOf,List.length_map]
  refine Wq<|Wf rfl<|Wr .ld<|Wv rfl<|Wr (.iaddrS rfl rfl hin<|by decide)<|Wr .ld<|Ww<|Wt rfl rfl rfl (.app<|.there .here) rfl rfl<|Wn<|Ws<|Wq<|Wf rfl<|Wr .ld<|Wj rfl rfl hlt<|Wv rfl<|Wy<|Wf rfl<|Wy<|Wr .ld<|Wy<|Wv rfl<|Wy<|Wr (.lenS rfl hlen)<|Wy<|Wj rfl rfl hge<|Wr (.bj rfl rfl)<|Wn<|Wd rfl fS<|λ_=>Wi ?_
  obtain⟨bc,rc,nc,cc,slc,roc,Mc,rfl,hbc,CC,aaW⟩:=eQ.src.at<|by simpa using A3
  have n9:Mc[rc+j]?=some c.row:=by rw[aaW];simp only[List.getElem?_map,zC];rfl
  refine Vr (k:=?_)
  refine Wr (.iaddrS rfl (by rw[hj];rfl) CC<|by decide)<|Vr (k:=WD.lk rfl .nil .ld<|Vr (k:=Dc .nil<|WS.st<|Dc .nil<|Wt rfl rfl rfl (.app .here) rfl rfl<|Vr (k:=D0 .nil ?_ ?_)))
  rotate_left
  ·intro o ho
   rw[List.mem_singleton.1 ho]
   refine⟨(λi hi=>nomatch hi),Nat.zero_le _,J3 c<|eQ.ab c IR,λk _ hk=>?_⟩
   rcases j9 hk with rfl|rfl
   ·exact⟨_,rfl,.load rfl (.app .here) rfl rfl rfl⟩
   ·exact⟨_,rfl,.load rfl (.app .here) rfl rfl rfl⟩
  refine We<|Wm (.ce q9<|.cell rfl IZ.1 IZ.2 (.inl rfl) (.app .here) rfl rfl rfl<|.tmp rfl .nil) ⟨?_,_,pull yh⟩
  by_cases hk:c.kind=2
  ·exact .inl ⟨o,c,sj,hk,hmem,IR,by show AV.tuple [_,_,.bool<|decide<|c.kind=2]=_;rw[decide_eq_true hk]⟩
  ·refine .inr ⟨λo2 c2 h2=>?_,o,c,by show AV.tuple [_,_,.bool<|decide<|c.kind=2]=_;rw[decide_eq_false hk]⟩
   rw[sj]at h2
   cases h2
   exact hk
 ·have hno:∀o c,d.onF C id=some (o,c)->c.kind≠2:=by
   intro o c h2
   unfold SD.onF at h2
   split at h2
   ·cases h2
   ·rename_i i hi
    split at h2
    ·rename_i hm
     exact absurd ⟨⟨i,hi⟩,hm⟩ hf
    ·cases h2
  have fin:∀{l2:Sl}{m:SH},lk l2 6=some (.ptr<|some ⟨b6,0,0⟩)->lk l2 7=some (.ptr<|some ⟨b7,0,0⟩)->WP P K none 51 (.seq (.drawn 0 [zr (zo 22<|.load true 14 6) 0 0 0,zr (zo 23<|.load true 11 7) 0 1 0,zh (zn<|.store 14 6 22) 1,zh (zn<|.store 11 7 23) 7,zp (zo 8<|.mv<|.const<|.bool false) 15]) .ret) l2 [] (m++((b7,.r false [yz] 11)::(b6,.r false [dB] 14)::(b4,.r false [d.cells pv ov lv hv gv ev fv sv wv kv] 25)::s)) (λ_ _ _=>False) (λ_ _ _ _=>False) (Fin P [.cell 6 (T 45),.cell 7<|T 99,.tmp 8] λv s'=>Bj d C id v/\∃m,s'=m++s):=by
   intro l2 m h6 h7
   refine Ws<|WP.bD<|Dl rfl .nil (.load h6 (.app<|.there .here) rfl rfl rfl)<|WD.lk rfl .nil (.load h7 (.app .here) rfl rfl rfl)<|Dc .nil<|Wt h6 rfl rfl uP rfl rfl<|Dc .nil<|Wt h7 rfl rfl uP rfl rfl<|Dp (.mv rfl)<|D0 .nil ?_ ?_
   rotate_left
   ·intro o ho
    rw[List.mem_singleton.1 ho]
    refine⟨(λi hi=>nomatch hi),Nat.zero_le _,(by show sameL (sameN 5) yz yz=true;simp[sameL,sameN,same0,gd,keq]),λk _ hk=>?_⟩
    rcases j9 hk with rfl|rfl
    ·exact⟨_,rfl,.load h7 (.app .here) rfl rfl rfl⟩
    ·exact⟨_,rfl,.load h7 (.app .here) rfl rfl rfl⟩
   exact We<|Wm (.cell h6 q9.1 q9.2 (.inl rfl) (.app<|.there .here) rfl rfl rfl<|.cell h7 IZ.1 IZ.2 (.inl rfl) (.app .here) rfl rfl rfl<|.tmp rfl .nil) ⟨.inr ⟨hno,⟨0,0,0,0,0,false,false,false,0,0,0,0,false⟩,⟨⟨#[]⟩,0,0,0,0,0,0,0,0,0,nilS,[]⟩,rfl⟩,_,pull yh⟩
  cases hi:d.find id with
  | none=>
   refine Ws<|Wq<|Wv rfl<|Wj rfl rfl rfl<|Wv rfl<|Wk<|Wk<|Wk<|Wk<|Wk<|Wr (.uS rfl rfl)<|Wn<|Wd rfl (λ_=>?_) Dz
   exact(fin rfl rfl).post (λ_ _ _ h=>h.elim) (λ_ _ _ _ h=>h) (λ_ _ _ h=>h)
  | some i=>
   have hm:¬id∈d.fi:=λhm=>hf ⟨⟨i,hi⟩,hm⟩
   refine Vr (k:=Ww<|W1 (mJ hC (h.fi.mono λp hp=>by simp[hp])<|by omega) ?_)
   rintro w _ ⟨rfl,rfl⟩
   rw[decide_eq_false hm]
   refine Wy<|Wr (.un rfl rfl)<|Wr (.bj rfl rfl)<|Wn<|Wd rfl (λ_=>?_) Dz
   exact(fin rfl rfl).post (λ_ _ _ h=>h.elim) (λ_ _ _ _ h=>h) (λ_ _ _ h=>h)
structure CH where
 p:Int
 t:Int
 k:Int
def FT (n:Int):Int:=match ilt n (.negSucc 998)with | true=>.negSucc 998 | false=>n
def oP (n:Int):Int:=match ilt 999 (FT n)with | true=>999 | false=>FT n
theorem bB.canon {f:FuncId}{args:List AV}{R:AV->SH->Prop}(h:bB P K f args s (λv s'=>∃s'',s'.Perm s''/\R v s'')):bB P K f args s R:=by
 intro H0 H hH
 obtain⟨v,s',H',h1,h2,s'',h3,h4⟩:=h H0 H hH
 exact⟨v,s'',H',h1,h2.perm h3,h4⟩
theorem WR.mmx {mx:Bool}{args:List Operand}{v r:AV}{vs:List AV}(ha:aI (opl l) args=some (v::vs))(hv:aw (mm mx) vs v=some r):WR P (.minmax mx args) l s r:=
 WR.mk' (λ_ _ _ _ _=>rfl) (λe H he=>by simp only[aval,lG he ha,hv])
theorem Qs (hB:Base P K F T)(hC:BaseC P K F T)(hT:TyC P T)(q9:Ty P (T 45) 14){cv pv ov lv hv gv ev fv sv wv kv:AV}{d:SD}{C:List CD}{id:Int}(eQ:cI s cv C)(h:mD s pv ov lv hv gv ev fv sv wv kv d)(hd:d.Small)(hcd:∀o∈d.ob,∃j:Nat,o.gt=.ofNat j/\j<C.length)
  (hnb:∀o c,d.onF C id=some (o,c)->c.kind≠2) :
  bB P K (F 77) [cv,.agg<|d.cells pv ov lv hv gv ev fv sv wv kv,iv id] s (λv s'=>v=.tuple [.agg [iv 0,iv 0,iv 0],.bool false]/\∃m,s'=m++s):=by
 refine hC.f77.cF ?_
 unfold Z9
 refine Vr (k:=λb4=>Vr (k:=λb6=>Vr (k:=Ww<|W1 (ta hB hC q9 hT.t99 (eQ.mono λp hp=>by simp[hp]) (h.mono λp hp=>by simp[hp]) hd hcd) ?_)))
 rintro w _ ⟨hF,m1,rfl⟩
 rcases hF with⟨o,c,sj,hk,V4,IR,rfl⟩|⟨hno,o,c,rfl⟩
 ·exact absurd hk<|hnb o c sj
 ·refine Wv rfl<|Wr (.extract rfl rfl)<|Wr (.extract rfl rfl)<|Wr (.extract rfl rfl)<|Wa (.alloc rfl) λb8=>Wa (.alloc rfl) λb9=>Ww<|WS.st<|Ww<|Wt rfl rfl rfl .here rfl rfl<|Wv rfl<|Wn<|Ws<|Wq<|Wv rfl<|Wr (.un rfl rfl)<|Wn<|Wd rfl (λ_=>Wq<|Wr (.build rfl rfl)<|Ww<|Wt rfl rfl rfl (.there<|.there<|.app .here) rfl rfl<|Wv rfl<|Wn<|We<|Wm (.cell rfl hT.t71.1 hT.t71.2 (.inl rfl) (.there<|.there<|.app .here) rfl rfl rfl<|.tmp rfl .nil) ⟨rfl,_,fN<|fN<|pull eW⟩) Dz
theorem cI.part {s:SH}{cv:AV}{C:List CD}(h:cI s cv C):dz cv cv=true:=h.src.same
theorem BT (hB:Base P K F T)(hC:BaseC P K F T)(hT:TyC P T){C:List CD}{id:Int}(hs:aH bl EL d t s)(hd:d.Small)(hf:Has bf (.r false [bu bl aZ c0 c1 c2 c3 c4 ap] 8) t)(eQ:cI t aZ C)(hcd:∀o∈d.ob,∃j:Nat,o.gt=.ofNat j/\j<C.length)
  (hnb:∀o c,d.onF C id=some (o,c)->c.kind≠2) :
  bB P K (F 30) [.ptr (some ⟨bf,0,0⟩),iv id] s (λv s'=>v=.tuple [.agg [iv 0,iv 0,iv 0],.bool false]/\aH bl EL d t s'):=by
 refine hC.f30.cF ?_
 unfold ZU
 refine Vr (k:=λb4=>Vr (k:=WD.lk rfl .nil .ld<|Vr (k:=Dc .nil<|WS.perm<|W1 (cz hB hs.cons hd zP) ?_)))
 rintro w s2 ⟨dt,pv,ov,lv,hv,gv,ev,fv,sv,wv,kv,rfl,hR⟩
 obtain⟨s3,hp,gw⟩:=dt.first
 have Yk:cI s3 aZ C:=eQ.mono λp hp=>(gw.mem<|.d5 hp).mem
 refine⟨_,hp,Dp (.mv rfl)<|Dc .nil<|W1 (Qs hB hC hT hB.t45 (Yk.mono λp hp=>by simp[hp]) (hR.mono λp h=>hp.mem_iff.1 h) hd hcd hnb) ?_⟩
 rintro w _ ⟨rfl,m,rfl⟩
 refine Vr (k:=Dc .nil<|Wt rfl rfl rfl uP rfl rfl<|Vr (k:=D0 .nil ?_ ?_))
 rotate_left
 ·intro o ho
  rw[List.mem_singleton.1 ho]
  refine⟨(λi hi=>nomatch hi),Nat.zero_le _,eQ.part,λk _ hk=>?_⟩
  rcases j9 hk with rfl|rfl
  ·exact⟨_,rfl,.load rfl (.there<|hs.mem hf) rfl rfl rfl⟩
  ·exact⟨_,rfl,.load rfl (.there<|gw.mem hf) rfl rfl rfl⟩
 exact We<|Wm (.ce hT.t71) ⟨rfl,(aH.bK (m:=m)<|aH.bK (m:=[_]) gw)⟩
theorem Gf (hB:Base P K F T)(hC:BaseC P K F T){q:Int}(hs:aH bl EL d t s)(hd:d.Small)(hf:Has bf (.r false [bu bl aZ c0 c1 c2 c3 c4 ap] 8) t) :
  bB P K (F 36) [.ptr (some ⟨bf,0,0⟩),iv 2,iv q] s (λv s'=>∃m,aH bl EL d (m++t) s'/\Src m 1 v (nR d.fi)):=by
 have hn:=hd.n1
 refine hC.f36.cF ?_
 unfold ZV
 refine Vr (k:=Ww<|W1 (cz hB hs hd hf) ?_)
 rintro w s2 ⟨dt,pv,ov,lv,hv,gv,ev,fv,sv,wv,kv,rfl,hR⟩
 have h90:bB P K (F 90) [.agg (d.cells pv ov lv hv gv ev fv sv wv kv),iv 2,iv q] s2 (λv s'=>∃m,s'=m++s2/\Src m 1 v (nR d.fi)):=by
  refine hC.f90.cF ?_
  unfold a90
  refine Vr (k:=λb3=>Vk (k:=Wr (.build rfl rfl)<|Wa (.box rfl rfl) λb7=>Vr (k:=?_)))
  have XH:bB P K (F 136) [.ptr (some ⟨b7,0,0⟩),iv 2,iv q] ((b7,.r false [d.cells pv ov lv hv gv ev fv sv wv kv] 25)::(b3,.r false [d.cells pv ov lv hv gv ev fv sv wv kv] 25)::s2) (λv s'=>v=.ptr (some ⟨b7,0,6⟩)/\s'=(b7,.r false [d.cells pv ov lv hv gv ev fv sv wv kv] 25)::(b3,.r false [d.cells pv ov lv hv gv ev fv sv wv kv] 25)::s2):=by
   refine hB.f136.cF ?_
   unfold Lf
   refine Wq<|Wv rfl<|Wn<|Ws<|Wq<|Wv rfl<|Wh rfl rfl rfl<|Wn<|Wd rfl (λ_=>?_)<|λh=>by cases h
   exact Wq<|Wv rfl<|Wr (.nilchk rfl rfl)<|Wf rfl<|Wf rfl<|Wv rfl<|Wn<|We<|Wm (.tmp rfl .nil) ⟨rfl,rfl⟩
  refine Vr (k:=Ww<|W1 XH ?_)
  rintro w _ ⟨rfl,rfl⟩
  refine Vr (k:=Ww<|W1 (hB.VS.clone (hR.fi.mono λp hp=>by simp[hp]) (by omega) (by rw[gq];omega)<|by omega) ?_)
  rintro w _ ⟨m,rfl,hO⟩
  refine Wv rfl<|Wn<|We<|Wm (.tmp rfl .nil) ⟨_,pull eW,hO.src.mono λp hp=>by simp[hp]⟩
 refine Vr (k:=Ww<|W1 h90 ?_)
 rintro w _ ⟨m,rfl,hS⟩
 exact Wv rfl<|Wn<|We<|Wm (.tmp rfl .nil) ⟨m,dt.HW,hS⟩
def SD.obj (d:SD)(id:Int):Option OD:=
 match d.find id with
 | none=>none
 | some i=>d.ob[i]?
theorem Qq (hB:Base P K F T)(hC:BaseC P K F T){id:Int}(hs:aH bl EL d t s)(hd:d.Small)(hf:Has bf (.r false [bu bl aZ c0 c1 c2 c3 c4 ap] 8) t) :
  bB P K (F 37) [.ptr (some ⟨bf,0,0⟩),iv id] s (λv s'=>v=(match d.obj id with | some o=>.tuple [.agg o.row,.bool true] | none=>.tuple [.agg dB,.bool false])/\aH bl EL d t s'):=by
 refine hC.f37.cF ?_
 unfold ZW
 refine Vr (k:=λb4=>Vr (k:=Ww<|W1 (cz hB hs.cons hd<|.there hf) ?_))
 rintro w s2 ⟨dt,pv,ov,lv,hv,gv,ev,fv,sv,wv,kv,rfl,hR⟩
 obtain⟨s3,hp,gw⟩:=dt.first
 have VY:=hR.mono λp h=>hp.mem_iff.1 h
 refine WO.pre hp<|Vr (k:=λb6=>Vr (k:=Ww<|W1 (lg hB (VY.ob.mono λp hp=>by simp at hp |-;exact .inr hp) hd) ?_))
 rintro w _ ⟨rfl,m,rfl⟩
 refine Wv rfl<|Wn ?_
 unfold SD.obj
 cases hi:d.find id with
 | none=>
  refine Ws<|Wq<|Wv rfl<|Wj (v:=.bool true) rfl rfl rfl<|Wn<|Wd rfl (λ_=>Wq<|Wr (.build (cs:=dB) rfl rfl)<|Ww<|WS.st<|Wv rfl<|Wn<|We<|Wm (.cell rfl hB.t45.1 hB.t45.2 (.inl rfl) (.app<|.there .here) rfl rfl rfl<|.tmp rfl .nil) ⟨rfl,aH.bK (m:=m)<|aH.bK (m:=[_,_]) gw⟩) Dz
 | some i=>
  obtain⟨Uw,ho⟩:∃h:i<d.ob.length,d.ob[i]?=some d.ob[i]:=by
   obtain⟨h1,_⟩:=List.findIdx?_eq_some_iff_getElem.1 hi
   exact⟨h1,List.getElem?_eq_getElem h1⟩
  generalize d.ob[i]=o at ho
  simp only[ho]
  obtain⟨bo,ro,no,co,ZE,WE,Mo,rfl,IM,hin,hrow⟩:=VY.ob.at (i:=i)<|by simpa[fy]using Uw
  have afH:Mo[ro+i]?=some o.row:=by rw[hrow];simp only[fy,List.getElem?_map,ho];rfl
  refine Ws<|Wq<|Wv rfl<|Wj (v:=.bool false) rfl rfl rfl<|Wn<|Wd rfl fS<|λ_=>Wi<|Wq<|Wf rfl<|Wr .ld<|Wv rfl<|Wr (.iaddrS rfl rfl hin<|by decide)<|Wr .ld<|Ww<|WS.st<|Wv rfl<|Wn<|We<|Wm (.cell rfl hB.t45.1 hB.t45.2 (.inl rfl) (.app<|.there .here) rfl rfl rfl<|.tmp rfl .nil) ⟨rfl,aH.bK (m:=m)<|aH.bK (m:=[_,_]) gw⟩
theorem Ar (hB:Base P K F T)(hC:BaseC P K F T)(hT:TyC P T){p:Nat}{o:LD}(hs:aH bl EL d t s)(hd:d.Small)(hf:Has bf (.r false [bu bl aZ c0 c1 c2 c3 c4 ap] 8) t)(ho:d.pl[p]?=some o) :
  bB P K (F 43) [.ptr (some ⟨bf,0,0⟩),iv<|.ofNat p] s (λv s'=>v=.agg o.row/\aH bl EL d t s'):=by
 obtain⟨uA,_⟩:=List.getElem?_eq_some_iff.1 ho
 refine hC.f43.cF ?_
 unfold ZX
 refine Vr (k:=λb4=>Vr (k:=Ww<|W1 (cz hB hs.cons hd<|.there hf) ?_))
 rintro w s2 ⟨dt,pv,ov,lv,hv,gv,ev,fv,sv,wv,kv,rfl,hR⟩
 obtain⟨s3,hp,gw⟩:=dt.first
 have VY:=hR.mono λp h=>hp.mem_iff.1 h
 refine WO.pre hp<|Vr (k:=λb6=>Ww<|WS.st<|Wn ?_)
 have hlen:lenOf pv=some d.pl.length:=by rw[hR.pl.lenOf];simp[Am]
 refine Ws<|Wq<|Wv rfl<|Wj (v:=.bool false) rfl rfl rfl<|Wv rfl<|Wy<|Wv rfl<|Wy<|Wf rfl<|Wy<|Wr .ld<|Wy<|Wr (.lenS rfl hlen)<|Wy<|Wj rfl rfl (Cm uA)<|Wr (.bj rfl rfl)<|Wn<|Wd rfl fS<|λ_=>Wi ?_
 obtain⟨bo,ro,no,co,ZE,WE,Mo,rfl,IM,hin,hrow⟩:=VY.pl.at (i:=p)<|by simpa[Am]using uA
 have afH:Mo[ro+p]?=some o.row:=by rw[hrow];simp only[Am,List.getElem?_map,ho];rfl
 refine Wq<|Wf rfl<|Wr .ld<|Wv rfl<|Wr (.iaddrS rfl rfl hin<|by decide)<|Wr .ld<|Ww<|WS.st<|Wn<|We<|Wm (.cell rfl hT.t107.1 hT.t107.2 (.inl rfl) (.there .here) rfl rfl rfl .nil) ⟨rfl,aH.bK (m:=[_,_]) gw⟩
open Go.Proofs
set_option maxRecDepth 100000
noncomputable def ZR:CF:=NF (cd 163 57) _
noncomputable def a50:CF:=NF (cd 128 8) _
noncomputable def Z3:CF:=NF (cd 222 6) _
noncomputable def Z4:CF:=NF (cd 223 4) _
noncomputable def Z5:CF:=NF (cd 224 6) _
noncomputable def Z6:CF:=NF (cd 225 10) _
noncomputable def Z7:CF:=NF (cd 226 4) _
noncomputable def SF:CF:=NF (cd 258 6) _
noncomputable def SG:CF:=NF (cd 259 28) _
noncomputable def SJ:CF:=NF (cd 260 24) _
noncomputable def SK:CF:=NF (cd 261 22) _
noncomputable def SM:CF:=NF (cd 262 23) _
noncomputable def amg:CF:=NF (cd 263 20) _
noncomputable def SX:CF:=NF (cd 295 37) _
noncomputable def Th:CF:=NF (cd 402 10) _
structure BaseG (P:Program)(K:Orc)(F:Nat->FuncId)(T:Nat->TypeId):Prop where
 f21:FnK P K (F 21) 6 [(.tmp 2)] (ZO F T)
 f347:FnK P K (F 347) 7 [(.tmp 2)] (Ti F T)
 f26:FnK P K (F 26) 57 [(.tmp 6)] (ZR F T)
 f50:FnK P K (F 50) 8 [(.tmp 2)] (a50 F T)
 f71:FnK P K (F 71) 6 [(.tmp 2)] (Z3 F T)
 f72:FnK P K (F 72) 4 [(.tmp 2)] (Z4 F T)
 f114:FnK P K (F 114) 6 [(.tmp 4)] (SF F T)
 f115:FnK P K (F 115) 28 [(.tmp 3)] (SG F T)
 f116:FnK P K (F 116) 24 [] (SJ F T)
 f166:FnK P K (F 166) 37 [] (SX F T)
 f344:FnK P K (F 344) 10 [(.tmp 2)] (Th F T)
structure gA (P:Program)(F:Nat->FuncId)(tF:TypeId):Prop where
 stack:meth P tF "Stack"=some (F 21)
 chars:meth P tF "Chars"=some (F 30)
 ci:meth P tF "Zone"=some (F 36)
 obj:meth P tF "Obj"=some (F 37)
 RD:meth P tF "Player"=some (F 43)
 aZ:meth P tF "Cards"=some (F 344)
 yd:meth P tF "Players"=some (F 347)
structure SA (P:Program)(K:Orc)(bl:Nat)(EL:List (List AV))(d:SD)(y:AV)(J:List TG->SH->Prop):Prop where
 call:∀L t s(x:TG)m,L.length<=5000->J L t->aH bl EL d (m++t) s->c6 P K y [.agg x.row] s (λv s'=>v=.bool true/\∃t',aH bl EL d (m++t') s'/\J (L++[x]) t')
def playersT (d:SD)(n:Nat):List TG:=(List.range n).filterMap λp=>match d.pl[p]? with | some o=>if o.f2 then none else some ⟨.ofNat p,0⟩ | none=>none
def fieldT (d:SD)(p:OD->Bool)(l:List Int):List TG:=l.filterMap λid=>match d.obj id with | some o=>if p o then some ⟨0,id⟩else none | none=>none
theorem im (d:SD)(n:Nat):(playersT d n).length<=n:=by
 unfold playersT
 exact Nat.le_trans (List.length_filterMap_le ..) (by rw[List.length_range];exact Nat.le_refl _)
theorem d7 (d:SD)(p:OD->Bool)(l:List Int):(fieldT d p l).length<=l.length:=List.length_filterMap_le ..
theorem AK (hB:Base P K F T)(hG:BaseG P K F T)(hs:aH bl EL d t s)(hd:d.Small)(hf:Has bf (.r false [bu bl aZ c0 c1 c2 c3 c4 ap] 8) t) :
  bB P K (F 21) [.ptr (some ⟨bf,0,0⟩)] s (λv s'=>∃m,aH bl EL d (m++t) s'/\SIt m v d.st):=by
 refine hG.f21.cF ?_
 unfold ZO
 refine Vk (k:=Ww<|W1 (iU hB hs hd hf) ?_)
 rintro w s2 ⟨m,dt,pv,ov,lv,hv,gv,ev,fv,sv,wv,kv,rfl,hR⟩
 exact Wr (.fld rfl rfl)<|Wv rfl<|Wn<|We<|Wm (.tmp rfl .nil) ⟨m,dt,hR.st⟩
theorem tV (hB:Base P K F T)(hG:BaseG P K F T)(hs:aH bl EL d t s)(hd:d.Small)(hf:Has bf (.r false [bu bl aZ c0 c1 c2 c3 c4 ap] 8) t) :
  bB P K (F 347) [.ptr (some ⟨bf,0,0⟩)] s (λv s'=>v=iv (.ofNat d.pl.length)/\aH bl EL d t s'):=by
 refine hG.f347.cF ?_
 unfold Ti
 refine Vk (k:=Ww<|W1 (cz hB hs hd hf) ?_)
 rintro w s2 ⟨dt,pv,ov,lv,hv,gv,ev,fv,sv,wv,kv,rfl,hR⟩
 have lp:lenOf pv=some d.pl.length:=by rw[hR.pl.lenOf];simp[Am]
 exact Wr (.fld rfl rfl)<|Wr (.lenS rfl lp)<|Wv rfl<|Wn<|We<|Wm (.tmp rfl .nil) ⟨rfl,dt⟩
theorem BaseG.c50 (hG:BaseG P K F T):FnK P K (F 50) 8 [.tmp 2] (qa 11 112 yz):=hG.f50
theorem BS (hG:BaseG P K F T){C:List CD}(hs:aH bl EL d t s)(hf:Has bf (.r false [bu bl aZ c0 c1 c2 c3 c4 ap] 8) t)(eQ:cI t aZ C) :
  bB P K (F 344) [.ptr (some ⟨bf,0,0⟩)] s (λv s'=>∃m,aH bl EL d (m++t) s'/\Src m 11 v (C.map CD.row)):=by
 have hn:=eQ.n
 refine hG.f344.cF ?_
 unfold Th
 refine Vk (k:=Ww<|W1 (hG.c50.clone (eQ.src.mono λp hp=>(hs.mem<|.d5 hp).mem) (by decide) (by rw[List.length_map];omega)<|by decide) ?_)
 rintro w _ ⟨m,rfl,hO⟩
 exact Wv rfl<|Wn<|We<|Wm (.tmp rfl .nil) ⟨m,hs.HW,hO.src⟩
theorem tU (hB:Base P K F T)(hC:BaseC P K F T)(hG:BaseG P K F T)(hT:TyC P T){tF:TypeId}(hM:gA P F tF){y:AV}{J:List TG->SH->Prop}(hY:SA P K bl EL d y J){b1:Nat}{aQ:Int}{L0:List TG}(hL:L0.length<=3000)(hd:d.Small)
  (hJ:∀L t,J L t->Has b1 (.r false [[.iface tF (.ptr<|some ⟨bf,0,0⟩),iv aQ]] 2) t/\Has bf (.r false [bu bl aZ c0 c1 c2 c3 c4 ap] 8) t) (h0:J L0 t) (hs:aH bl EL d t s) :
  bB P K (F 116) [y,.ptr<|some ⟨b1,0,0⟩] s (λ_ s'=>∃t',aH bl EL d t' s'/\J (L0++playersT d d.pl.length) t'):=by
 have hn:=hd.n1
 refine hG.f116.cF ?_
 unfold SJ
 refine Vk (k:=Wl rfl (hs.mem (hJ _ _ h0).1) rfl rfl rfl<|Ww<|WS.invoke rfl hM.yd rfl (tV hB hG hs hd (hJ _ _ h0).2) ?_)
 rintro w s2 ⟨rfl,dt⟩
 refine Vk (k:=?_)
 refine Wp (λk l ds s'=>ds=[]/\∃q t',k=d.pl.length-q/\q<=d.pl.length/\aH bl EL d t' s'/\J (L0++playersT d q) t'/\∀i w,lk [(0,y),(1,.ptr<|some ⟨b1,0,0⟩),(6,iv<|.ofNat d.pl.length),(7,iv<|.ofNat q)] i=some w->lk l i=some w) ?_
  ⟨rfl,0,t,rfl,Nat.zero_le _,dt,by simpa[playersT]using h0,aa rfl qb⟩
 rintro k l ds s' ⟨rfl,q,t',rfl,hq,gw,qX,hl⟩
 refine Wg hl (λ_ _ h=>h) ?_
 refine Vk (k:=Wd rfl (λht=>?_)<|λht=>?_)
 ·have hlt:q<d.pl.length:=bh.1 ht
  have hx:d.pl[q]?=some d.pl[q]:=List.getElem?_eq_getElem hlt
  generalize d.pl[q]=o at hx
  have mN:playersT d (q+1)=playersT d q++if o.f2 then []else [⟨.ofNat q,0⟩]:=by
   unfold playersT
   rw[List.range_succ,List.filterMap_append]
   congr 1
   cases ho:o.f2<;>simp[hx,ho]
  refine Vk (k:=Wl rfl (gw.mem (hJ _ _ qX).1) rfl rfl rfl<|Vk (k:=Ww<|WS.invoke rfl hM.RD rfl (Ar hB hC hT gw hd (hJ _ _ qX).2 hx) ?_))
  rintro w s4 ⟨rfl,pM⟩
  cases ho:o.f2 with
  | true=>
   have ho':part false o.row 6 1=some (.bool true):=(show _=some (AV.bool o.f2)from rfl).trans (by rw[ho])
   refine Wr (.fld rfl ho')<|Vk (k:=?_)
   exact⟨d.pl.length-(q+1),by omega,rfl,q+1,t',rfl,hlt,pM,by rw[mN,ho];simpa using qX,aa rfl qb⟩
  | false=>
   have ho':part false o.row 6 1=some (.bool false):=(show _=some (AV.bool o.f2)from rfl).trans (by rw[ho])
   refine Wr (.fld rfl ho')<|Vr (k:=Ww<|WS.call (vs:=[.agg (⟨.ofNat q,0⟩:TG).row]) rfl rfl (hY.call _ _ _ _ [] (by have:=im d q;rw[List.length_append];omega) qX pM) ?_)
   rintro w s5 ⟨rfl,t5,tn,XT⟩
   refine Vk (k:=?_)
   exact⟨d.pl.length-(q+1),by omega,rfl,q+1,t5,rfl,hlt,tn,by rw[mN,ho];simpa using XT,aa rfl qb⟩
 ·refine Wx ?_
  have:q=d.pl.length:=by
   have:¬q<d.pl.length:=λh=>by rw[fw,show Nat.blt q d.pl.length=true from bh.2 h]at ht;cases ht
   omega
  subst this
  exact Wm .nil ⟨t',gw,qX⟩
theorem adI (hB:Base P K F T)(hC:BaseC P K F T)(hG:BaseG P K F T){tF:TypeId}(hM:gA P F tF){y fn:AV}{J:List TG->SH->Prop}(hY:SA P K bl EL d y J){b1 b2:Nat}{aQ:Int}{L0:List TG}(hL:L0.length<=3000){p:OD->Bool}(hd:d.Small){T0:SH}
  (hJ:∀L t,J L t->∀q∈T0,q∈t) (h1:Has b1 (.r false [[.iface tF (.ptr<|some ⟨bf,0,0⟩),iv aQ]] 2) T0) (h2:Has b2 (.r false [[fn]] 1) T0) (hf:Has bf (.r false [bu bl aZ c0 c1 c2 c3 c4 ap] 8) T0)
  (hp:∀o∈d.ob,∀t s,(∀q∈T0,q∈t)->aH bl EL d t s->c6 P K fn [.agg o.row] s (λv s'=>v=.bool (p o)/\aH bl EL d t s')) (h0:J L0 t) (hs:aH bl EL d t s) :
  bB P K (F 166) [y,.ptr<|some ⟨b1,0,0⟩,.ptr<|some ⟨b2,0,0⟩] s (λ_ s'=>∃t',aH bl EL d t' s'/\J (L0++fieldT d p d.fi) t'):=by
 have hn:=hd.n1
 have up:∀{L t b o},J L t->Has b o T0->Has b o t:=λh hb=>.d5<|hJ _ _ h _ hb.mem
 refine hG.f166.cF ?_
 unfold SX
 refine Vr (k:=Ww<|WS.invoke (vs:=[iv 2,iv 0]) rfl hM.ci rfl (Gf hB hC hs hd<|up h0 hf) ?_)
 rintro w s2 ⟨m,dt,hw⟩
 have YH:lenOf w=some d.fi.length:=by rw[hw.lenOf,gq]
 refine Vk (k:=?_)
 refine Wp (λk l ds s'=>ds=[]/\∃q t',k=d.fi.length-q/\q<=d.fi.length/\aH bl EL d (m++t') s'/\J (L0++fieldT d p (d.fi.take q)) t'/\∀i x,lk [(0,y),(1,.ptr<|some ⟨b1,0,0⟩),(2,.ptr<|some ⟨b2,0,0⟩),(10,w),(11,iv<|.ofNat d.fi.length),(12,iv<|.ofNat q)] i=some x->lk l i=some x) ?_ (n:=d.fi.length-0)
  ⟨rfl,0,t,rfl,Nat.zero_le _,dt,by simpa[fieldT]using h0,aa rfl qb⟩
 rintro k l ds s' ⟨rfl,q,t',rfl,hq,gw,qX,hl⟩
 refine Wg hl (λ_ _ h=>h) ?_
 refine Vk (k:=Wd rfl (λht=>?_)<|λht=>?_)
 ·have hlt:q<d.fi.length:=bh.1 ht
  have hx:d.fi[q]?=some d.fi[q]:=List.getElem?_eq_getElem hlt
  generalize d.fi[q]=id at hx
  have mN:fieldT d p (d.fi.take<|q+1)=fieldT d p (d.fi.take q)++(match d.obj id with | some o=>if p o then [⟨0,id⟩]else [] | none=>[]):=by
   unfold fieldT
   rw[List.take_add_one,hx,List.filterMap_append]
   congr 1
   cases ho:d.obj id with
   | none=>simp[ho]
   | some o=>cases hp:p o<;>simp[ho,hp]
  obtain⟨ba,ra,na,ca,J5,Sp,Ma,rfl,hba,aaf,gH⟩:=hw.at (i:=q) (by rw[gq];exact hlt)
  have eE:Ma[ra+q]?=some [iv id]:=by rw[gH,nR,List.getElem?_map,hx];rfl
  refine Vk (k:=Wl rfl (gw.mem zP) eE rfl rfl<|Vk (k:=Wr .ld<|Vk (k:=Ww<|WS.invoke (vs:=[iv id]) rfl hM.obj rfl (Qq hB hC gw hd<|.app<|up qX hf) ?_)))
  rintro w s4 ⟨rfl,pM⟩
  cases ho:d.obj id with
  | none=>
   refine Vk (k:=λb6=>Vk (k:=?_))
   exact⟨d.fi.length-(q+1),by omega,rfl,q+1,t',rfl,hlt,aH.bK (m:=[_]) pM,by rw[mN,ho];simpa using qX,aa rfl qb⟩
  | some o=>
   have V4:o∈d.ob:=by
    unfold SD.obj at ho
    split at ho
    ·cases ho
    ·exact List.mem_of_getElem? ho
   refine Vk (k:=λb6=>Vr (k:=Ww<|WS.call (vs:=[.agg o.row]) rfl rfl (hp o V4 (m++t') _ (λq hq=>List.mem_append_right _<|hJ _ _ qX q hq)<|aH.bK (m:=[_]) pM) ?_))
   rintro w s5 ⟨rfl,tn⟩
   refine Vk (k:=?_)
   cases Sh:p o with
   | false=>
    refine Vk (k:=?_)
    exact⟨d.fi.length-(q+1),by omega,rfl,q+1,t',rfl,hlt,tn,by rw[mN,ho];simpa[Sh]using qX,aa rfl qb⟩
   | true=>
    refine Vr (k:=?_)
    refine Ww<|WS.call (vs:=[.agg (⟨0,id⟩:TG).row]) rfl rfl (hY.call _ _ _ _ m (by have:=d7 d p (d.fi.take q);rw[List.length_take]at this;rw[List.length_append];omega) qX tn) ?_
    rintro w s6 ⟨rfl,t6,KL,hJ6⟩
    refine Vk (k:=?_)
    exact⟨d.fi.length-(q+1),by omega,rfl,q+1,t6,rfl,hlt,KL,by rw[mN,ho];simpa[Sh]using hJ6,aa rfl qb⟩
 ·refine Wx ?_
  have:q=d.fi.length:=by
   have:¬q<d.fi.length:=λh=>by rw[fw,show Nat.blt q d.fi.length=true from bh.2 h]at ht;cases ht
   omega
  subst this
  rw[List.take_length]at qX
  exact Wm .nil ⟨t',gw.fb,qX⟩
open Go.Proofs
set_option maxRecDepth 100000
theorem aH.split (h:aH bl EL d t s):∃u,s.Perm (u++t)/\∀t',aH bl EL d t' (u++t'):=by
 obtain⟨sc,lv,pv,ov,IO,hv,gv,ev,fv,sv,wv,kv,oL,nn,k1,k2,k3,k4⟩:=h
 exact⟨(bl,.r false [sc++([lv]++(d.cells pv ov IO hv gv ev fv sv wv kv++[]))] 51)::(oL++nn),ak λc w h0 h1 h2 hq=>by simp only[h1,h2,hq _ _ k1];omega,λt'=>⟨sc,lv,pv,ov,IO,hv,gv,ev,fv,sv,wv,kv,oL,nn,qc,k2,k3,k4⟩⟩
theorem c6.perm {f:AV}{args:List AV}{s s':SH}{R:AV->SH->Prop}(hp:s.Perm s')(h:c6 P K f args s R):c6 P K f args s' R:=
 λH0 H hH=>h H0 H<|hH.perm hp.symm
theorem c6.canon {f:AV}{args:List AV}{R:AV->SH->Prop}(h:c6 P K f args s (λv s'=>∃s'',s'.Perm s''/\R v s'')):c6 P K f args s R:=by
 intro H0 H hH
 obtain⟨v,s',H',h1,h2,s'',h3,h4⟩:=h H0 H hH
 exact⟨v,s'',H',h1,h2.perm h3,h4⟩
def K9 (P:Program)(K:Orc)(bl:Nat)(EL:List (List AV))(d:SD)(f:FuncId)(cap:List AV)(t:SH)(out:List TG):Prop:=
 ∀y J L0 t' s',L0.length<=3000->SA P K bl EL d y J->(∀L t2,J L t2->∀q∈t,q∈t2)->J L0 t'->aH bl EL d t' s'->bB P K f (y::cap) s' (λ_ s''=>∃t'',aH bl EL d t'' s''/\J (L0++out) t'')
def lR (P:Program)(K:Orc)(bl:Nat)(EL:List (List AV))(d:SD)(T0:SH)(fv:AV)(out:List TG):Prop:=
 ∀fr t s,(∀q∈T0,q∈t)->aH bl EL d (fr++t) s->c6 P K fv [] s (λv s'=>∃f cap m,v=.func f [] cap/\aH bl EL d (m++(fr++t)) s'/\K9 P K bl EL d f cap (m++t) out)
noncomputable def Lr:AC:=NF (pt (cd 163 57 (λn=>n) λn=>n) [1,1,1,1,1,0,1,0,0,1,1,0,0,1,1,0,0]) _
noncomputable def Lt:AC:=NF (pt (cd 163 57 (λn=>n) λn=>n) [1,1,1,1,1,0,1,0,0,1,1,0,0,1,1,0,1]) _
noncomputable def Te:AC:=NF (pt (cd 163 57 (λn=>n) λn=>n) [1,1,1,1,1,0,1,0,0]) _
noncomputable def Lu:AC:=NF (pt (cd 163 57 (λn=>n) λn=>n) [1,1,1,1,1,1]) _
inductive GrE (sz:Nat):AV->List (List AV)->SH->Prop
 | nil {rw:Nat}:GrE sz (.slice none 0 0 false rw) [] []
 | rows {b:Nat} {L:List (List AV)} (hL:L≠[]):GrE sz (.slice (some ⟨b,0,0⟩) L.length L.length true sz) L [(b,.r false L sz)]
theorem GrE.gr {sz:Nat}{v:AV}{L:List (List AV)}{o:SH}(h:GrE sz v L o):Gr sz v L o:=by
 cases h with
 | nil=>exact .nil
 | @rows b L hL=>
  have:=Gr.rows (b:=b) (sz:=sz) (L:=L) (T:=[]) rfl rfl<|List.length_pos_iff.2 hL
  rw[List.append_nil]at this
  exact this
theorem GrE.out {sz:Nat}{v:AV}{L:List (List AV)}{o:SH}(h:GrE sz v L o):gz o sz v L:=h.gr.out
theorem WS.aau {P:Program}{K:Orc}{l:Sl}{ds:List cD}{R:AV->List cD->SH->Prop}{sz bytes:Nat}{ss x:Operand}{sv xv:AV}{L N:List (List AV)}{m o t:SH}(hs:opl l ss=some sv)(ho:GrE sz sv L o)(hx:opl l x=some xv)(hN:Src (m++(o++t)) sz xv N)(hz:sz≠0)(h1:L.length+N.length<=901000)(h2:bytes<=100000)
  (k:∀v o' j,GrE sz v (L++N) o'->R v ds (o'++(m++(j++t)))):WS P K (.append sz bytes ss x) l ds (m++(o++t)) R:=by
 cases ho with
 | nil=>
  by_cases hN0:N=[]
  ·subst hN0
   exact WS.append_none hs hx hN hz (Nat.le_refl _)<|k _ [] [] .nil
  ·refine WS.append_nil (c:=0) hs hx hN hz hN0 (by simpa using h1) h2 λb=>?_
   exact k _ [(b,.r false N sz)] []<|.rows hN0
 | @rows b L hL=>
  by_cases hN0:N=[]
  ·subst hN0
   have:=k _ [(b,.r false L sz)] [] (by rw[List.append_nil];exact .rows hL)
   exact WS.perm<|WS.append_none hs hx hN hz (Nat.le_refl _) ⟨_,qc,this⟩
  ·refine WS.uN hs rfl uP hx hN hz hN0 h1 h2 λb'=>?_
   have:=k (.slice (some ⟨b',0,0⟩) (L.length+N.length) (L.length+N.length) true sz) [(b',.r false (L++N) sz)] [(b,.bK)] (by rw[<- List.length_append];exact .rows<|by simp[hL])
   exact this
def Coll (lb D:Nat)(lp:HO)(b9:Nat)(W:SH)(L:List TG)(t:SH):Prop:=
 ∃lv og j,t.Perm ((lb,lp)::(b9,.r false [[lv]] 1)::(og++(j++W)))/\GrE 2 lv (yu L) og
theorem BX {lb D b9:Nat}{l:Sl}{asg body:Code}{W:SH}(ha:cc P 57 asg=Lr)(hb:cc P 57 body=Lt)(h9:lk l 9=some (.ptr (some ⟨b9,0,0⟩))) :
  SA P K bl EL d (.yield lb) (Coll lb D (.lp l 57 [50] asg body .ready none D) b9 W):=by
 refine⟨λL t s x m hL hJ hs=>?_⟩
 obtain⟨lv,og,j,hp,hG⟩:=hJ
 obtain⟨u,hu,hback⟩:=hs.split
 refine c6.perm (s:=(lb,.lp l 57 [50] asg body .ready none D)::(u++(m++((b9,.r false [[lv]] 1)::(og++(j++W)))))) (ak λc w h0 h1 h2 hq=>by have:=hq _ _ hu;simp only[h1,h2,hq _ _ hp]at this |-;omega)<|c6.canon ?_
 refine AU (by omega) ha hb ?_
 unfold Lr Lt
 refine Vr (k:=?_)
 refineλNQ=>Ww<|WS.st<|Wn ⟨(NQ,.r false [x.row] 2)::(u++(m++((b9,.r false [[lv]] 1)::(og++(j++W))))),List.Perm.swap ..,?_⟩
 refine Wb<|Wo<|Wl h9 zP rfl rfl rfl<|Wr .ld<|Wa (.bslice (L:=[x.row]) rfl rfl) λR6=>Ww<|WS.pre (s':=((R6,.r false [x.row] 2)::(lb,.lp l 57 [50] asg body .busy none D)::(NQ,.r false [x.row] 2)::(b9,.r false [[lv]] 1)::(u++m))++(og++(j++W))) (qc)<|WS.aau (xv:=.slice (some ⟨R6,0,0⟩) 1 1 false 2) rfl hG rfl (Src.all .here) (by decide) (by simp only[yu,List.length_map,List.length_cons,List.length_nil];omega) (by decide) λnw A9 jk xB=>Ww<|Wt (s':=A9++((R6,.r false [x.row] 2)::(lb,.lp l 57 [50] asg body .busy none D)::(NQ,.r false [x.row] 2)::(b9,.r false [[nw]] 1)::(u++m)++(jk++(j++W)))) (row':=[nw]) h9 rfl xB.out.src.part uP rfl rfl<|Wn ?_
 refine⟨A9++((R6,.r false [x.row] 2)::(NQ,.r false [x.row] 2)::(b9,.r false [[nw]] 1)::(u++m)++(jk++(j++W))),qc,u++(m++((lb,.lp l 57 [50] asg body .ready none D)::(b9,.r false [[nw]] 1)::(A9++(((R6,.r false [x.row] 2)::(NQ,.r false [x.row] 2)::(jk++j))++W)))),qc,rfl,_,hback _,nw,A9,(R6,.r false [x.row] 2)::(NQ,.r false [x.row] 2)::(jk++j),.refl _,?_⟩
 simpa[yu]using xB
theorem fW {T0 t0:SH}{b9:Nat}{v:AV}{fs:List (AV × List TG)}{Qn0:Po}{Qe0:Nat->Po}{R:AV->SH->Prop}(hv:Src t0 1 v (fs.map λx=>[x.1]))(Uu:∀x∈fs,lR P K bl EL d T0 x.1 x.2)(qY:∀q∈T0,q∈t0)(hn:fs.length<=1000)(Y3:(fs.flatMap (·.2)).length<=3000)
  (hs:aH bl EL d ((b9,.r false [[nilS]] 1)::t0) s) (hR:∀w s' o m,aH bl EL d (o++(m++t0)) s'->GrE 2 w (yu (fs.flatMap (·.2))) o->R w s') (hl:∀i x,lk [(9,.ptr<|some ⟨b9,0,0⟩),(42,v),(43,iv<|.ofNat fs.length),(44,iv 0)] i=some x->lk l i=some x) :
  WP P K none 57 (.block 0<|.loop Te) l [] s (λl ds s=>WP P K none 57 Lu l ds s Qn0 Qe0<|Bi P [.tmp 6] R) Qe (Bi P [.tmp 6] R):=by
 refine Wb ?_
 unfold Te
 refine Wp (λk l ds s'=>∃q Ds lv og j,k=fs.length-q/\q<=fs.length/\ds=Ds.map cD.mark/\aH bl EL d (Ds.map (λD=>(D,HO.ob .deferred))++((b9,.r false [[lv]] 1)::(og++(j++t0)))) s'/\GrE 2 lv (yu ((fs.take q).flatMap (·.2))) og /\
   ∀i x,lk [(9,.ptr (some ⟨b9,0,0⟩)),(42,v),(43,iv (.ofNat fs.length)),(44,iv (.ofNat q))] i=some x->lk l i=some x) ?_ (n:=fs.length-0)
  ⟨0,[],nilS,[],[],rfl,Nat.zero_le _,rfl,hs,.nil,hl⟩
 rintro k l ds s' ⟨q,Ds,lv,og,j,rfl,hq,rfl,hs',hG,hl⟩
 refine Wg hl (λ_ _ h=>h) ?_
 refine Vk (k:=Wd rfl (λht=>?_)<|λht=>?_)
 ·have hlt:q<fs.length:=bh.1 ht
  have hx:fs[q]?=some fs[q]:=List.getElem?_eq_getElem hlt
  have KP:fs[q]∈fs:=List.getElem_mem _
  generalize fs[q]=x at hx KP
  have gc:(fs.take<|q+1).flatMap (·.2)=(fs.take q).flatMap (·.2)++x.2:=by rw[List.take_add_one,hx,List.flatMap_append];simp
  have hlen:((fs.take q).flatMap (·.2)).length<=3000:=by
   refine Nat.le_trans ?_ Y3
   conv=>rhs;rw[<- List.take_append_drop q fs,List.flatMap_append,List.length_append]
   omega
  obtain⟨ba,ra,na,ca,J5,Sp,Ma,rfl,hba,aaf,gH⟩:=hv.at (i:=q)<|by simpa using hlt
  have eE:Ma[ra+q]?=some [x.1]:=by rw[gH];simp only[List.getElem?_map,hx];rfl
  refine Vr (k:=Ww<|WS.call (vs:=[]) rfl rfl (Uu x KP (Ds.map (λD=>(D,HO.ob .deferred))++((b9,.r false [[lv]] 1)::(og++j))) t0 s' qY<|hs'.tT<|qc) ?_)
  rintro w s2 ⟨f,cap,m,rfl,dt,hI⟩
  refine Vr (k:=Wg (l':=[(9,.ptr<|some ⟨b9,0,0⟩),(42,.slice (some ⟨ba,ra,0⟩) na ca J5 1),(43,iv<|.ofNat fs.length),(44,iv<|.ofNat q),(49,.func f [] cap)]) qb (λ_ _ h=>h)<|WP.rf (first:=[]) (cap:=cap) rfl λasg body X4 Ct D lb=>?_)
  have gw:=(dt.cons (p:=(D,.ob .deferred))).cons (p:=(lb,.lp [(9,.ptr<|some ⟨b9,0,0⟩),(42,.slice (some ⟨ba,ra,0⟩) na ca J5 1),(43,iv<|.ofNat fs.length),(44,iv<|.ofNat q),(49,.func f [] cap)] 57 [50] asg body .ready none D))
  have hY:=BX (bl:=bl) (EL:=EL) (d:=d) (lb:=lb) (D:=D) (W:=(D,.ob .deferred)::(Ds.map (λD=>(D,HO.ob .deferred))++(m++(j++t0)))) (P:=P) (K:=K) X4 Ct (b9:=b9) (l:=[(9,.ptr<|some ⟨b9,0,0⟩),(42,.slice (some ⟨ba,ra,0⟩) na ca J5 1),(43,iv<|.ofNat fs.length),(44,iv<|.ofNat q),(49,.func f [] cap)]) rfl
  refine bB.canon ((hI (.yield lb) _ ((fs.take q).flatMap (·.2)) _ _ hlen hY ?_ ⟨lv,og,[],?_,hG⟩ gw).post ?_)
  ·rintro L t2 ⟨nw,A9,j2,Gu,_⟩ q hq
   refine Gu.mem_iff.2 ?_
   simp only[List.mem_append,List.mem_cons]at hq |-
   rcases hq with hq|hq
   ·exact .inr<|.inr<|.inr<|.inr<|.inr<|.inr<|.inl hq
   ·exact .inr<|.inr<|.inr<|.inr<|.inr<|.inr<|.inr<|.inr hq
  ·exact qc
  ·rintro _ s4 ⟨t4,pM,nw,A9,j2,Gu,xB⟩
   obtain⟨s5,hp5,tn⟩:=(pM.tT Gu).first
   refine⟨_,hp5,_,.ready,none,s5,rfl,(λh=>LoopState.noConfusion h),?_⟩
   refine Vr (k:=?_)
   refine⟨fs.length-(q+1),by omega,q+1,D::Ds,nw,A9,j2++(m++j),rfl,hlt,rfl,aH.bK (m:=[_])<|tn.tT (ak λc w h0 h1 h2 hq=>by simp only[h1,h2,List.map_cons,List.cons_append];omega),by rw[gc];exact xB,aa rfl qb⟩
 ·refine Wx ?_
  have:q=fs.length:=by
   have:¬q<fs.length:=λh=>by rw[fw,show Nat.blt q fs.length=true from bh.2 h]at ht;cases ht
   omega
  subst this
  rw[List.take_length]at hG
  show WP P K none 57 Lu _ _ _ _ _ _
  unfold Lu
  obtain⟨u,hu,hback⟩:=hs'.split
  refine Vr (k:=We ?_)
  refine⟨Ds,u++((b9,.r false [[lv]] 1)::(og++(j++t0))),rfl,ak λc w h0 h1 h2 hq=>by rw[hq _ _ hu];simp only[h1,h2];omega,[lv],.tmp rfl .nil,hR _ _ og ((b9,.r false [[lv]] 1)::j) (aH.bK ?_) hG⟩
  have:=hback<|(b9,.r false [[lv]] 1)::(og++(j++t0))
  exact this.tT<|qc
structure nG (P:Program)(K:Orc)(F:Nat->FuncId)(g:ED->CH->CH)(d:SD)(C:List CD):Prop where
 cd:∀o∈d.ob,∃j:Nat,o.gt=.ofNat j/\j<C.length
 nb:∀id o c,d.onF C id=some (o,c)->c.kind≠2
def gY (g:ED->CH->CH)(d:SD)(C:List CD)(aQ:Int)(o:OD):Bool:=false
theorem vE (hB:Base P K F T)(hC:BaseC P K F T)(hG:BaseG P K F T)(hT:TyC P T){tF:TypeId}(hM:gA P F tF){g:ED->CH->CH}{C:List CD}{o:OD}{b1:Nat}{aQ:Int}(hs:aH bl EL d t s)(hd:d.Small)(hf:Has bf (.r false [bu bl aZ c0 c1 c2 c3 c4 ap] 8) t)(h1:Has b1 (.r false [[.iface tF (.ptr (some ⟨bf,0,0⟩)),iv aQ]] 2) t)(eQ:cI t aZ C)(hO:nG P K F g d C) :
  bB P K (F 115) [.agg o.row,.ptr<|some ⟨b1,0,0⟩] s (λv s'=>v=.bool (gY g d C aQ o)/\aH bl EL d t s'):=by
 refine hG.f115.cF ?_
 unfold SG
 refine Vr (k:=λb2=>Vr (k:=?_))
 have nr:aH bl EL d ((b2,.r false [o.row] 14)::t) ((b2,.r false [o.row] 14)::s):=hs.cons
 refine Vr (k:=Ww<|WS.invoke (vs:=[iv o.id]) rfl hM.chars rfl (BT hB hC hT nr hd zP (eQ.mono λp hp=>by simp[hp]) hO.cd<|hO.nb _) ?_)
 rintro w s2 ⟨rfl,dt⟩
 refine Vr (k:=λb4=>Vk (k:=We<|Wm (.tmp rfl .nil) ?_))
 exact⟨rfl,aH.bK (m:=[_]) dt.tail⟩
def dT (g:ED->CH->CH)(d:SD)(C:List CD)(kind aQ:Int):List TG:=
 if kind=1 then fieldT d (gY g d C aQ) d.fi else playersT d d.pl.length++fieldT d (gY g d C aQ) d.fi
@[reducible] def aX (tF:TypeId)(bf:Nat)(aQ:Int):List AV:=[.iface tF (.ptr (some ⟨bf,0,0⟩)),iv aQ]
theorem F6 (hB:Base P K F T)(hC:BaseC P K F T)(hG:BaseG P K F T)(hT:TyC P T){tF:TypeId}(hM:gA P F tF){aQ:Int}{T0:SH}(hd:d.Small)(hf:Has bf (.r false [bu bl aZ c0 c1 c2 c3 c4 ap] 8) T0) :
  lR P K bl EL d T0 (.func (F 72) [.agg (aX tF bf aQ)] []) (playersT d d.pl.length):=by
 intro fr t s qY hs
 refine c6.func<|hG.f72.cF ?_
 unfold Z4
 refine Vr (k:=λb1=>Vk (k:=We<|Wm (.tmp rfl .nil) ?_))
 refine⟨F 116,[.ptr (some ⟨b1,0,0⟩)],[(b1,.r false [aX tF bf aQ] 2)],rfl,hs.cons,?_⟩
 intro y J L0 t' s' hL hY hJ h0 hs'
 exact tU hB hC hG hT hM hY hL hd (λL t2 h=>⟨.d5<|hJ L t2 h _<|List.mem_append_left _<|.head _,.d5<|hJ L t2 h _<|List.mem_append_right _<|qY _ hf.mem⟩) h0 hs'
theorem iZ (hG:BaseG P K F T){ch:List AV}{fn:AV}(hc:partCells 2 (.agg ch)=some ch)(hfn:partCells 1 fn=some [fn]) :
  bB P K (F 114) [.agg ch,fn] s (λv s'=>∃b2 b3,v=.func (F 166) [] [.ptr (some ⟨b2,0,0⟩),.ptr<|some ⟨b3,0,0⟩]/\s'=(b3,.r false [[fn]] 1)::(b2,.r false [ch] 2)::s):=by
 refine hG.f114.cF ?_
 unfold SF
 refine Vr (k:=Wa (.box rfl hc) λb2=>Wa (.box rfl hfn) λb3=>Wv rfl<|Wn ?_)
 exact Wq<|Wr (.mkfn rfl rfl)<|Wv rfl<|Wn<|We<|Wm (.tmp rfl .nil) ⟨b2,b3,rfl,rfl⟩
theorem F5 (hB:Base P K F T)(hC:BaseC P K F T)(hG:BaseG P K F T)(hT:TyC P T){tF:TypeId}(hM:gA P F tF){g:ED->CH->CH}{C:List CD}{aQ:Int}{T0:SH}(hd:d.Small)(hf:Has bf (.r false [bu bl aZ c0 c1 c2 c3 c4 ap] 8) T0)(eQ:cI T0 aZ C)(hO:nG P K F g d C) :
  lR P K bl EL d T0 (.func (F 71) [.agg (aX tF bf aQ)] []) (fieldT d (gY g d C aQ) d.fi):=by
 intro fr t s qY hs
 refine c6.func<|hG.f71.cF ?_
 unfold Z3
 refine Vr (k:=λb1=>Vr (k:=Ww<|W1 (iZ hG rfl rfl) ?_))
 rintro w _ ⟨b2,b3,rfl,rfl⟩
 refine Vk (k:=We<|Wm (.tmp rfl .nil) ?_)
 refine⟨F 166,_,[(b3,.r false [[.func (F 115) [] [.ptr (some ⟨b1,0,0⟩)]]] 1),(b2,.r false [aX tF bf aQ] 2),(b1,.r false [aX tF bf aQ] 2)],rfl,hs.cons.cons.cons,?_⟩
 intro y J L0 t' s' hL hY hJ h0 hs'
 refine adI hB hC hG hM hY hL hd hJ zP .here (.app<|.d5<|qY _ hf.mem) (λo ho t2 s2 h2 dt=>c6.func ?_) h0 hs'
 exact vE hB hC hG hT hM dt hd (.d5<|h2 _<|List.mem_append_right _<|qY _ hf.mem) (.d5<|h2 _<|List.mem_append_left _<|.tail _<|.tail _<|.head _) (eQ.mono λp hp=>h2 p<|by simp[qY p hp]) hO
theorem ab9 (hB:Base P K F T)(hC:BaseC P K F T)(hG:BaseG P K F T)(hT:TyC P T){tF:TypeId}(hM:gA P F tF){g:ED->CH->CH}{C:List CD}{kind:Nat}{aQ:Int}(hk:kind=1\/kind=3)(hs:aH bl EL d t s)(hd:d.Small)(hf:Has bf (.r false [bu bl aZ c0 c1 c2 c3 c4 ap] 8) t)(eQ:cI t aZ C)(hO:nG P K F g d C) :
  bB P K (F 26) [.iface tF (.ptr<|some ⟨bf,0,0⟩),iv<|.ofNat kind,iv aQ] s (λv s'=>∃o m,aH bl EL d (o++(m++t)) s'/\GrE 2 v (yu<|dT g d C (.ofNat kind) aQ) o):=by
 have hn:=hd.n1
 refine hG.f26.ZH ?_
 unfold ZR
 refine Vr (k:=λb7=>Vr (k:=Wa .mkmap λbm=>Vr (k:=?_)))
 refine Wa (.bslice rfl rfl) λb21=>Ww<|WS.ins rfl rfl rfl uP rfl<|Vr (k:=?_)
 refine Wa (.bslice rfl rfl) λb24=>Ww<|WS.ins rfl rfl rfl uP rfl<|Vr (k:=?_)
 refine Wa (.bslice rfl rfl) λb29=>Ww<|WS.ins rfl rfl rfl uP rfl<|Vr (k:=?_)
 refine Wa (.bslice rfl rfl) λb32=>Ww<|WS.ins rfl rfl rfl uP rfl<|Vr (k:=?_)
 refine Wa (.bslice rfl rfl) λb35=>Ww<|WS.ins rfl rfl rfl uP rfl<|Vr (k:=?_)
 refine Wa (.bslice rfl rfl) λb38=>Ww<|WS.ins rfl rfl rfl uP rfl<|Vr (k:=λb9=>Wn ?_)
 have l1:=d7 d (gY g d C aQ) d.fi
 have l2:=im d d.pl.length
 have fin:∀{x0 x1 x2 x3 x4 x5 x6 x7:Nat × HO}{w:AV}{s2 o m:SH}{L:List TG},aH bl EL d (o++(m++(x0::x1::x2::x3::x4::x5::x6::x7::t))) s2->GrE 2 w (yu L) o->L=dT g d C (.ofNat kind) aQ->∃o m,aH bl EL d (o++(m++t)) s2/\GrE 2 w (yu<|dT g d C (.ofNat kind) aQ) o:=by
  rintro x0 x1 x2 x3 x4 x5 x6 x7 w s2 o m L h1 h2 rfl
  exact⟨o,m++[x0,x1,x2,x3,x4,x5,x6,x7],by rw[List.append_assoc m];exact h1,h2⟩
 rcases hk with rfl|rfl
 ·refine Vk (k:=Wr (.look rfl rfl zP rfl)<|Wr (.lenS rfl rfl)<|Wv rfl<|Wn ?_)
  exact fW (T0:=t) (fs:=[(.func (F 71) [.agg (aX tF bf aQ)] [],fieldT d (gY g d C aQ) d.fi)]) (Src.all zP) (λx hx=>by rw[List.mem_singleton.1 hx];exact F5 hB hC hG hT hM hd hf eQ hO) (λq hq=>by simp[hq]) (Nat.le_of_ble_eq_true rfl) (by simp only[List.flatMap_cons,List.flatMap_nil,List.append_nil];omega) hs.cons.cons.cons.cons.cons.cons.cons.cons.cons (λw s2 o m h1 h2=>fin h1 h2<|by simp[dT]) qb
 ·refine Vk (k:=Wr (.look rfl rfl zP rfl)<|Wr (.lenS rfl rfl)<|Wv rfl<|Wn ?_)
  exact fW (T0:=t) (fs:=[(.func (F 72) [.agg (aX tF bf aQ)] [],playersT d d.pl.length),(.func (F 71) [.agg (aX tF bf aQ)] [],fieldT d (gY g d C aQ) d.fi)]) (Src.all zP) (λx hx=>by
   rcases List.mem_cons.1 hx with rfl|hx
   ·exact F6 hB hC hG hT hM hd hf
   ·rw[List.mem_singleton.1 hx];exact F5 hB hC hG hT hM hd hf eQ hO) (λq hq=>by simp[hq]) (Nat.le_of_ble_eq_true rfl) (by simp only[List.flatMap_cons,List.flatMap_nil,List.append_nil,List.length_append];omega) hs.cons.cons.cons.cons.cons.cons.cons.cons.cons (λw s2 o m h1 h2=>fin h1 h2 (by simp[dT])) qb
theorem eqT (x y:TG):eqBy 20 (.agg [⟨0,⟨1,⟨false,.pi⟩⟩⟩,⟨1,⟨1,⟨false,.pi⟩⟩⟩]) (.agg x.row) (.agg y.row)=some (decide (x=y)):=by
 have h:eqBy 20 (.agg [⟨0,⟨1,⟨false,.pi⟩⟩⟩,⟨1,⟨1,⟨false,.pi⟩⟩⟩]) (.agg x.row) (.agg y.row)=some (ieq x.p y.p&&ieq x.o y.o):=by
  cases h1:ieq x.p y.p<;>cases h2:ieq x.o y.o<;>simp[eqBy,primEq,aw,part,dJ,keq,h1,h2]
 rw[h,rh,rh]
 obtain⟨a,b⟩:=x
 obtain⟨a',b'⟩:=y
 simp[TG.mk.injEq,Bool.decide_and]
theorem sd (L:List TG):(yu L).length=L.length:=by simp[yu]
theorem qJ {g:ED->CH->CH}{C:List CD}{kind aQ:Int}(hd:d.Small):(dT g d C kind aQ).length<=5000:=by
 have q1:=im d d.pl.length
 have q2:=d7 d (gY g d C aQ) d.fi
 have hn:=hd.n1
 unfold dT
 split
 ·omega
 ·rw[List.length_append]
  omega
open Go.Proofs
set_option maxRecDepth 100000
noncomputable def ZQ:CF:=NF (cd 29 10) _
noncomputable def Tb:CF:=NF (cd 318 25) _
structure BaseM (P:Program)(K:Orc)(F:Nat->FuncId)(T:Nat->TypeId):Prop where
 f25:FnK P K (F 25) 10 [(.tmp 2)] (ZQ F T)
 f260:FnK P K (F 260) 25 [] (Tb F T)
def pX (o:OD)(z:Int):OD:=⟨0,o.gt,o.owner,o.owner,z,false,false,o.token,0,0,0,0,false⟩
theorem WH.Ku {bw:Nat}{d:SD}{t s:SH}{p:Nat × HO}(h:WH bw d t s):WH bw d (p::t) (p::s):=by
 obtain⟨pv,ov,lv,hv,gv,ev,fv,sv,wv,kv,nn,k1,k2⟩:=h
 exact⟨pv,ov,lv,hv,gv,ev,fv,sv,wv,kv,nn,ak λc w h0 h1 h2 hq=>by simp only[h1,h2,hq _ _ k1];omega,k2⟩
theorem WH.Vb {bw:Nat}{d:SD}{t s:SH}(h:WH bw d t s){b:Nat}{o:HO}(hb:Has b o t):Has b o s:=by
 obtain⟨pv,ov,lv,hv,gv,ev,fv,sv,wv,kv,nn,k1,k2⟩:=h
 exact .d5<|k1.mem_iff.2<|by simp[hb.mem]
theorem sP (hB:Base P K F T){bf bl:Nat}{aZ ap:AV}{c0 c1 c2 c3 c4:Int}{EL:List (List AV)}{d d':SD}{t:SH}{a:Int}{b n m:Int}{it:ID}(hs:aH bl EL d t s)(hd:d.Small)(hf:Has bf (.r false [bu bl aZ c0 c1 c2 c3 c4 ap] 8) t)(hE:EL.length<=5000)
  (hap:Ap P K F 2 a b n m it d d') (hd':d'.Small) (YI:1<=d'.nx/\d'.nx<=1000000) (hz:it.tg=[]/\it.tv=nilS:=by exact⟨rfl,rfl⟩) :
  bB P K (F 15) [.ptr (some ⟨bf,0,0⟩),.agg<|cr 2 a b n m it] s (λv s'=>v=iv (d'.nx-1)/\aH bl (EL++[cr 2 a b n m it]) d' t s'):=by
 refine hB.f15.cF ?_
 unfold WN
 refine Vr (k:=λb3=>Vk (k:=?_))
 have gw:aH bl EL d ((b3,.r false [cr 2 a b n m it] 13)::t) ((b3,.r false [cr 2 a b n m it] 13)::s):=hs.cons
 refine Vk (k:=WP.bD ?_)
 refine(Dp (.faddr rfl)<|Dl rfl .nil .ld<|Dp (.eql rfl rfl<|dh _ _)<|Dp (.mv rfl)<|Dk<|WD.jm rfl rfl<|Dk<|Dk<|Dk<|Dk<|Dk<|Dk<|Dk<|Dk<|Dp (.bj rfl rfl)<|Dp (.mv rfl)<|WD.n0 ?_)
 refine Vr (k:=Dc .nil<|W1 (mI hB gw hE hap (hz:=hz)) ?_)
 rintro w s5 ⟨rfl,tn⟩
 refine Vr (k:=Ww<|W1 (cz hB tn hd' zP) ?_)
 rintro w s6 ⟨KL,pv,ov,lv,hv,gv,ev,fv,sv,wv,kv,rfl,hR6⟩
 refine Wr (.fld rfl rfl)<|Wj rfl rfl (aev YI.1<|by omega)<|Wv rfl<|Wn<|We<|Wm (.tmp rfl .nil) ⟨rfl,KL.tail⟩
open Go.Proofs
set_option maxRecDepth 100000
noncomputable def aeI:CF:=NF (cd 322 15) _
theorem Gr.put {sz:Nat}{v:AV}{L:List (List AV)}{o:SH}(h:Gr sz v L o){p:Nat}(hp:p<L.length):∃b c M,v=.slice (some ⟨b,0,0⟩) L.length c true sz/\o=[(b,.r false (L++M) sz)]/\∀row',Gr sz (.slice (some ⟨b,0,0⟩) L.length c true sz) (L.set p row') [(b,.r false ((L++M).set p row') sz)]:=by
 cases h with
 | nil=>exact absurd hp<|Nat.not_lt_zero _
 | zero=>exact absurd hp<|Nat.not_lt_zero _
 | @rows b n c L M hn hc hL=>
  subst hn
  refine⟨b,c,M,rfl,rfl,λrow'=>?_⟩
  rw[List.set_append_left _ _ hp]
  exact .rows (by simp) (by simp[hc]) hL
theorem iJ.aiI {n:SH}{pv ov lv hv gv ev fv sv wv kv:AV}{d:SD}(h:iJ n pv ov lv hv gv ev fv sv wv kv d):∃o r,n.Perm (o++r)/\Gr 8 pv (Am d.pl) o/\∀pv' l' o',Gr 8 pv' (Am l') o'->iJ (o'++r) pv' ov lv hv gv ev fv sv wv kv { d with pl:=l' }:=by
 obtain⟨o1,o2,o3,o4,o5,o6,o7,o8,o9,o10,j,hp,g1,g2,g3,g4,g5,g6,g7,g8,g9,g10⟩:=h.ex
 exact⟨o1,o2++(o3++(o4++(o5++(o6++(o7++(o8++(o9++(o10++j)))))))),hp,g1,λv' l' o' g'=>⟨o',o2,o3,o4,o5,o6,o7,o8,o9,o10,j,.refl _,g',g2,g3,g4,g5,g6,g7,g8,g9,g10⟩⟩
open Go.Proofs
set_option maxRecDepth 100000
noncomputable def a38:CF:=NF (cd 106 18) _
noncomputable def a92:CF:=NF (cd 175 21) _
noncomputable def a93:CF:=NF (cd 176 5) _
noncomputable def a94:CF:=NF (cd 177 6) _
noncomputable def a95:CF:=NF (cd 178 6) _
noncomputable def ami:CF:=NF (cd 233 72) _
noncomputable def amj:CF:=NF (cd 234 30) _
noncomputable def amk:CF:=NF (cd 235 40) _
noncomputable def aml:CF:=NF (cd 236 35) _
noncomputable def amm:CF:=NF (cd 237 73) _
noncomputable def amn:CF:=NF (cd 238 30) _
noncomputable def amo:CF:=NF (cd 239 24) _
structure BaseU (P:Program)(K:Orc)(F:Nat->FuncId)(T:Nat->TypeId):Prop where
theorem aez (hB:Base P K F T)(hC:BaseC P K F T){z:Int}{p:Nat}{bX:List Int}{put:List Int->SD}(hs:aH bl EL d t s)(hd:d.Small)(he:d.kQ)(hf:Has bf (.r false [bu bl aZ c0 c1 c2 c3 c4 ap] 8) t)(hp:p<d.pl.length)(hz:d.ci z p=some (bX,put))(hn:bX.length<=1000) :
  bB P K (F 36) [.ptr (some ⟨bf,0,0⟩),iv z,iv<|.ofNat p] s (λv s'=>∃m,aH bl EL d (m++t) s'/\gz m 1 v (nR bX)):=by
 refine hC.f36.cF ?_
 unfold ZV
 refine Vr (k:=Ww<|W1 (zY hB hs hd hf) ?_)
 rintro w s2 ⟨m,dt,pv,ov,lv,hv,gv,ev,fv,sv,wv,kv,rfl,hR⟩
 obtain⟨u,hu,back⟩:=dt.split
 have h90:bB P K (F 90) [.agg (d.cells pv ov lv hv gv ev fv sv wv kv),iv z,iv<|.ofNat p] s2 (λv s'=>∃m,aH bl EL d (m++t) s'/\gz m 1 v (nR bX)):=by
  refine hC.f90.cF ?_
  unfold a90
  refine Vr (k:=λb3=>Vk (k:=Wr (.build rfl rfl)<|Wa (.box rfl rfl) λb7=>Vr (k:=?_)))
  have hW:WH b7 d ((b3,.r false [d.cells pv ov lv hv gv ev fv sv wv kv] 25)::(u++t)) ((b7,.r false [d.cells pv ov lv hv gv ev fv sv wv kv] 25)::(b3,.r false [d.cells pv ov lv hv gv ev fv sv wv kv] 25)::s2):=
   ⟨pv,ov,lv,hv,gv,ev,fv,sv,wv,kv,m,ak λc w h0 h1 h2 hq=>by simp only[h1,h2,hq _ _ hu];omega,hR⟩
  refine Vr (k:=Ww<|W1 (ry hB hW he hp) ?_)
  rintro w s4 ⟨_,zP⟩
  rw[hz]at zP
  obtain⟨b,r,o,sz,L,row,x,oi,rest,rfl,hq4,hr,hx,hG,_⟩:=zP
  refine Wv rfl<|Wn<|WP.pre hq4<|Vr (k:=Ww<|W1 (hB.VS.clone (hG.out.src.mono λp hp=>by simp[hp]) (by omega) (by rw[gq];omega)<|by omega) ?_)
  rintro w _ ⟨m5,rfl,hO⟩
  refine Wv rfl<|Wn<|We<|Wm (.tmp rfl .nil) ⟨m5++((b,.r false L sz)::(oi++(rest++[(b3,.r false [d.cells pv ov lv hv gv ev fv sv wv kv] 25)]))),?_,hO.mono λp hp=>by simp[hp]⟩
  exact(back _).perm (qc)
 exact Vr (k:=Ww<|W1 h90 λw s5 h5=>Vk (k:=We<|Wm (.tmp rfl .nil) h5))
theorem afk (hB:Base P K F T)(hC:BaseC P K F T){z:Int}{p:Nat}{bX:List Int}{put:List Int->SD}(hs:aH bl EL d t s)(hd:d.Small)(he:d.kQ)(hf:Has bf (.r false [bu bl aZ c0 c1 c2 c3 c4 ap] 8) t)(hp:p<d.pl.length)(hz:d.ci z p=some (bX,put))(hn:bX.length<=1000) :
  bB P K (F 36) [.ptr (some ⟨bf,0,0⟩),iv z,iv<|.ofNat p] s (λv s'=>∃m,aH bl EL d (m++t) s'/\Src m 1 v (nR bX)):=
 (aez hB hC hs hd he hf hp hz hn).post λ_ _⟨m,h1,h2⟩=>⟨m,h1,h2.src⟩
structure GE (P:Program)(K:Orc)(F:Nat->FuncId)(T:Nat->TypeId)(tF:TypeId)(g:ED->CH->CH)(C:List CD)(d:SD):Prop where
 hB:Base P K F T
 hC:BaseC P K F T
 hG:BaseG P K F T
 hT:TyC P T
 hM:gA P F tF
 hU:BaseU P K F T
 hI:BaseB P K F T
 info:meth P tF "Info"=some (F 58)
 t128:Ty P (T 128) 13
 hd:d.Small
 he:d.kQ
 hO:nG P K F g d C
structure kj (bf bl:Nat)(aZ ap:AV)(c0 c1 c2 c3 c4:Int)(C:List CD)(tl:AD->List Nat)(t:SH):Prop where
 hf:Has bf (.r false [bu bl aZ c0 c1 c2 c3 c4 ap] 8) t
 eQ:cI t aZ C
 htg:∀c∈C,∀a∈c.ab,Src t 1 a.tg (nR<|(tl a).map Int.ofNat)/\(∀k∈tl a,k<8)/\(tl a).length<=1000/\dz a.cd a.cd=true
theorem kj.mono {bf bl:Nat}{aZ ap:AV}{c0 c1 c2 c3 c4:Int}{C:List CD}{tl:AD->List Nat}{t t':SH}(h:kj bf bl aZ ap c0 c1 c2 c3 c4 C tl t)(hs:∀p,p∈t->p∈t'):kj bf bl aZ ap c0 c1 c2 c3 c4 C tl t':=
 ⟨.d5<|hs _ h.hf.mem,h.eQ.mono hs,λc hc a ha=>⟨(h.htg c hc a ha).1.mono hs,(h.htg c hc a ha).2⟩⟩
@[reducible] def gm (tF:TypeId)(bf:Nat):AV:=.iface tF (.ptr (some ⟨bf,0,0⟩))
variable {tF:TypeId}{g:ED->CH->CH}{C:List CD}{tl:AD->List Nat}
theorem aeb (h264:FnK P K (F 264) 15 [] (aeI F T)){fn:FuncId}{o':LD}{bw bd bx:Nat}{d:SD}{t:SH}(hs:WH bw d t s)(hbd:Has bd (.r false [[.func fn [] []]] 1) t)(PA:Has bx (.r false [[.ptr (some ⟨bw,0,0⟩)]] 1) t){p:Nat}{o:LD}(ho:d.pl[p]?=some o){k b n m:Int}{it:ID}
  (hin:∀{s s':SH}{bp:Nat}{L:List (List AV)},oY bp (.r false L 8) (.r false (L.set p o'.row) 8) s s'->L[p]?=some o.row->bB P K fn [.ptr (some ⟨bp,p,0⟩),.agg<|cr k (.ofNat p) b n m it] s (λ_ s2=>∃m,s2=m++s')) :
  c6 P K (.func (F 264) [] [.ptr (some ⟨bd,0,0⟩),.ptr<|some ⟨bx,0,0⟩]) [.agg (cr k (.ofNat p) b n m it)] s (λ_ s'=>WH bw { d with pl:=d.pl.set p o' } t s'):=by
 have hp:p<d.pl.length:=(List.getElem?_eq_some_iff.1 ho).1
 obtain⟨pv,ov,lv,hv,gv,ev,fv,sv,wv,kv,nn,k1,k2⟩:=hs
 obtain⟨op,r,kp,g,back⟩:=k2.aiI
 obtain⟨bp,c,M,rfl,rfl,put⟩:=g.put<|by simpa[Am]using hp
 have hlen:(Am d.pl).length=d.pl.length:=by simp[Am]
 have hrow:(Am d.pl++M)[p]?=some o.row:=by
  rw[List.getElem?_append_left (by omega),Am,List.getElem?_map,ho];rfl
 refine c6.func<|bB.perm (s:=(bp,.r false (Am d.pl++M) 8)::(bw,.r false [d.cells (.slice (some ⟨bp,0,0⟩) (Am d.pl).length c true 8) ov lv hv gv ev fv sv wv kv] 25)::(r++t)) (ak λc w h0 h1 h2 hq=>by rw[hq _ _ k1];simp only[h1,h2,h0,hq _ _ kp];omega) ?_
 refine h264.cF ?_
 unfold aeI
 refine Vr (k:=?_)
 refineλb3=>Wn<|WP.bD<|Dl rfl .nil .ld<|Dl rfl .nil .ld<|Dp (.nilchk rfl rfl)<|Dp (.faddr rfl)<|Dp (.faddr rfl)<|Dl rfl .nil .ld<|Dp (.faddr rfl)<|Dl rfl .nil .ld<|Dp (.iaddrS rfl rfl (by omega)<|by decide) ?_
 rw[show Nat.add 0 p=p from Nat.zero_add p]
 refine Vr (k:=Dc .nil<|W1 (hin uP hrow) ?_)
 rintro w _ ⟨mm,rfl⟩
 have g':=back _ (d.pl.set p o') [(bp,.r false ((Am d.pl++M).set p o'.row) 8)] (by
  have:=put o'.row
  rw[show Am (d.pl.set p o')=(Am d.pl).set p o'.row from by simp[Am,List.map_set]]
  exact this)
 refine WD.n0<|Wm .nil ?_
 refine⟨_,ov,lv,hv,gv,ev,fv,sv,wv,kv,mm++[(b3,.r false [cr k (.ofNat p) b n m it] 13)]++((bp,.r false ((Am d.pl++M).set p o'.row) 8)::r),?_,g'.bK⟩
 show List.Perm (mm++((b3,HO.r false [cr k (.ofNat p) b n m it] 13)::(bp,HO.r false ((Am d.pl++M).set p o'.row) 8)::(bw,HO.r false [({ d with pl:=d.pl.set p o' }:SD).cells (.slice (some ⟨bp,0,0⟩) (Am d.pl).length c true 8) ov lv hv gv ev fv sv wv kv] 25)::(r++t))) _
 exact qc
open Go.Proofs
set_option maxRecDepth 100000
noncomputable def ahd:CF:=NF (cd 306 11) _
noncomputable def ahe:CF:=NF (cd 307 17) _
noncomputable def ahf:CF:=NF (cd 308 10) _
noncomputable def amD:CF:=NF (cd 309 10) _
noncomputable def amI:CF:=NF (cd 315 9) _
structure BaseX (P:Program)(K:Orc)(F:Nat->FuncId)(T:Nat->TypeId):Prop where
 f248:FnK P K (F 248) 11 [] (ahd F T)
 f249:FnK P K (F 249) 17 [(.tmp 4)] (ahe F T)
 f250:FnK P K (F 250) 10 [] (ahf F T)
theorem afc (k a b n m:Int)(it:ID)(hz:it.tv=nilS):dz (.agg (cr k a b n m it)) (.agg (cr k a b n m it))=true:=by
 have e:cr k a b n m it=[iv k,iv a,iv b,iv n,iv m,nilS,iv it.id,iv it.kind,iv it.aQ,iv it.obj,iv it.gt,iv it.Tk,nilS]:=by unfold cr;rw[hz]
 rw[e]
 show sameL (sameN 5) _ _=true
 simp[sameL,sameN,same0,gd,keq]
theorem afd (f:FuncId):dz (.func f [] []) (.func f [] [])=true:=by
 simp[dz,sameN,sameL]
theorem adS (hB:Base P K F T)(hX:BaseX P K F T){bw bp n c i:Nat}{pv lv hv gv ev fv sv wv kv:AV}{d:SD}{a:Int}(hb:Has bw (.r false [d.cells pv (.slice (some ⟨bp,0,0⟩) n c true 14) lv hv gv ev fv sv wv kv] 25) s)(hs:Src s 14 (.slice (some ⟨bp,0,0⟩) n c true 14) (fy d.ob))(hsm:d.Small)(hi:d.find a=some i)(hin:i<n) :
  bB P K (F 249) [.ptr (some ⟨bw,0,0⟩),iv a] s (λv s'=>v=.ptr (some ⟨bp,0+i,0⟩)/\∃m,s'=m++s):=by
 have Y0:=hsm.n1
 refine hX.f249.cF ?_
 unfold ahe
 refine Vr (k:=WD.lk rfl .nil .ld<|Vr (k:=Dc .nil<|W1 (lg hB hs hsm) ?_))
 rintro w _ ⟨rfl,m,rfl⟩
 rw[hi]
 refine Vr (k:=?_)
 refine D0 .nil (We<|Wm (.tmp rfl .nil) ⟨rfl,m,rfl⟩) ?_
 intro o ho
 rw[List.mem_singleton.1 ho]
 refine⟨λi hi=>(nomatch hi),Nat.zero_le _,hs.same,λk _ hk=>?_⟩
 rcases j9 hk with rfl|rfl
 ·exact⟨_,rfl,.load rfl hb rfl rfl rfl⟩
 ·exact⟨_,rfl,.load rfl zP rfl rfl rfl⟩
theorem aea (hB:Base P K F T)(hX:BaseX P K F T){fn:FuncId}{o o':OD}{bw bd bx i:Nat}{d:SD}{t:SH}(hs:WH bw d t s)(hbd:Has bd (.r false [[.func fn [] []]] 1) t)(PA:Has bx (.r false [[.ptr (some ⟨bw,0,0⟩)]] 1) t)(hsm:d.Small){k a b n m:Int}{it:ID}(hi:d.find a=some i)(ho:d.ob[i]?=some o)
  (hin:∀{s s':SH}{bp:Nat}{L:List (List AV)},oY bp (.r false L 14) (.r false (L.set i o'.row) 14) s s'->L[i]?=some o.row->bB P K fn [.ptr (some ⟨bp,i,0⟩),.agg<|cr k a b n m it] s (λ_ s2=>∃m,s2=m++s')) (hit:it.tg=[]/\it.tv=nilS:=by exact⟨rfl,rfl⟩) :
  c6 P K (.func (F 248) [] [.ptr (some ⟨bd,0,0⟩),.ptr<|some ⟨bx,0,0⟩]) [.agg (cr k a b n m it)] s (λ_ s'=>WH bw { d with ob:=d.ob.set i o' } t s'):=by
 have hil:i<d.ob.length:=(List.getElem?_eq_some_iff.1 ho).1
 obtain⟨pv,ov,lv,hv,gv,ev,fv,sv,wv,kv,nn,k1,k2⟩:=hs
 obtain⟨op,r,kp,g,back⟩:=k2.xS
 have gs:=g
 obtain⟨bp,c,M,rfl,rfl,put⟩:=g.put (p:=i)<|by simpa[fy]using hil
 have hrow:(fy d.ob++M)[i]?=some o.row:=by
  rw[List.getElem?_append_left (by simpa[fy]using hil),fy,List.getElem?_map,ho];rfl
 refine c6.func<|bB.perm (s:=(bp,.r false (fy d.ob++M) 14)::(bw,.r false [d.cells pv (.slice (some ⟨bp,0,0⟩) (fy d.ob).length c true 14) lv hv gv ev fv sv wv kv] 25)::(r++t)) (ak λc w h0 h1 h2 hq=>by rw[hq _ _ k1];simp only[h1,h2,h0,hq _ _ kp];omega) ?_
 refine hX.f248.cF ?_
 unfold ahd
 refine Vr (k:=λb3=>Vr (k:=WD.lk rfl .nil .ld<|Vr (k:=Dc .nil<|W1 (adS hB hX (.there<|.there .here) (gs.src (m:=[(b3,.r false [cr k a b n m it] 13)])) hsm hi<|by simpa[fy]using hil) ?_)))
 rintro w _ ⟨rfl,m4,rfl⟩
 refine WD.lk rfl .nil .ld<|Dc .nil<|Wc (first:=[]) (cap:=[]) rfl (by rw[Nat.zero_add];rfl) (hin (.app<|.there .here) hrow) ?_
 rintro w _ ⟨mm,rfl⟩
 refine D0 .nil (Wm .nil ?_) ?_
 ·have g':=back _ (d.ob.set i o') [(bp,.r false ((fy d.ob++M).set i o'.row) 14)] (by
   have:=put o'.row
   rw[show fy (d.ob.set i o')=(fy d.ob).set i o'.row from by simp[fy,List.map_set]]
   exact this)
  refine⟨pv,_,lv,hv,gv,ev,fv,sv,wv,kv,(mm++(m4++[(b3,.r false [cr k a b n m it] 13)]))++((bp,.r false ((fy d.ob++M).set i o'.row) 14)::r),?_,g'.bK⟩
  show List.Perm (mm++(m4++((b3,HO.r false [cr k a b n m it] 13)::(bp,HO.r false ((fy d.ob++M).set i o'.row) 14)::(bw,HO.r false [({ d with ob:=d.ob.set i o' }:SD).cells pv (.slice (some ⟨bp,0,0⟩) (fy d.ob).length c true 14) lv hv gv ev fv sv wv kv] 25)::(r++t)))) _
  exact qc
 ·intro o2 ho2
  rcases List.mem_cons.1 ho2 with rfl|ho2
  ·refine⟨λj hj=>(nomatch hj),Nat.zero_le _,afc _ _ _ _ _ _ hit.2,λj _ hj=>?_⟩
   rcases(by have:j<=1:=hj;omega:j=0\/j=1)with rfl|rfl
   ·exact⟨_,rfl,.load (cs:=cr k a b n m it) rfl .here rfl rfl rfl⟩
   ·exact⟨_,rfl,.load (cs:=cr k a b n m it) rfl (.app .here) rfl rfl rfl⟩
  ·rw[List.mem_singleton.1 ho2]
   refine⟨λj hj=>(nomatch hj),Nat.zero_le _,afd _,λj _ hj=>?_⟩
   rcases(by have:j<=1:=hj;omega:j=0\/j=1)with rfl|rfl
   ·exact⟨_,rfl,.load rfl (.there<|.there<|.there<|.app hbd) rfl rfl rfl⟩
   ·exact⟨_,rfl,.load rfl (.app<|.there<|.there<|.there<|.app hbd) rfl rfl rfl⟩
theorem adW (hX:BaseX P K F T){o:OD}{i bp:Nat}{k a b n m:Int}{it:ID}{s':SH}{L:List (List AV)}(hu:oY bp (.r false L 14) (.r false (L.set i ({ o with RU:=decide (n=1) }:OD).row) 14) s s')(hr:L[i]?=some o.row) :
  bB P K (F 250) [.ptr (some ⟨bp,i,0⟩),.agg<|cr k a b n m it] s (λ_ s2=>∃m,s2=m++s'):=by
 refine hX.f250.cF ?_
 unfold ahf
 refine Wq<|Wa (.box rfl rfl) λb3=>Wn<|Wo<|Wv rfl<|Wf rfl<|Wr .ld<|Wh rfl rfl (dh _ _)<|Wr (.nilchk rfl rfl)<|Wf rfl<|Ww<|Wt rfl rfl rfl uP hr rfl<|Wn<|Wm .nil ⟨[_],rfl⟩
theorem aex {k g bw:Nat}{m:SH}{v:AV}(hk:k=3/\g=250\/k=4/\g=251\/k=5/\g=253\/k=6/\g=255\/k=12/\g=257\/k=14/\g=252)(hv:RV F bw m k v):iP F bw m v false true true 248 g:=by
 rcases hk with⟨rfl,rfl⟩|⟨rfl,rfl⟩|⟨rfl,rfl⟩|⟨rfl,rfl⟩|⟨rfl,rfl⟩|⟨rfl,rfl⟩<;>exact hv
theorem aco {k g:Nat}(hk:k=3/\g=250\/k=4/\g=251\/k=5/\g=253\/k=6/\g=255\/k=12/\g=257\/k=14/\g=252):k∈[3,4,14,5,6,11,12,13,10,2,25]/\(k:Int)≠13/\(k:Int)≠16/\(k:Int)≠18/\(k:Int)≠26:=by
 rcases hk with⟨rfl,_⟩|⟨rfl,_⟩|⟨rfl,_⟩|⟨rfl,_⟩|⟨rfl,_⟩|⟨rfl,_⟩<;>decide
theorem adA (hB:Base P K F T)(hX:BaseX P K F T){k i:Nat}{g:Nat}{o o':OD}{a b n m:Int}{it:ID}{d:SD}(hd:d.Small)(he:d.kQ)(hk:k=3/\g=250\/k=4/\g=251\/k=5/\g=253\/k=6/\g=255\/k=12/\g=257\/k=14/\g=252)(hi:d.find a=some i)(ho:d.ob[i]?=some o)(hz:o.ci=2)
  (hin:∀{s s':SH}{bp:Nat}{L:List (List AV)},oY bp (.r false L 14) (.r false (L.set i o'.row) 14) s s'->L[i]?=some o.row->bB P K (F g) [.ptr (some ⟨bp,i,0⟩),.agg<|cr k a b n m it] s (λ_ s2=>∃m,s2=m++s'))
  (lm:∀s,bB P K (F 201) [.agg (cr k a b n m it)] s<|λv s'=>v=iv 0/\s'=s) (hit:it.tg=[]/\it.tv=nilS:=by exact⟨rfl,rfl⟩) :
  Ap P K F k a b n m it d { d with ob:=d.ob.set i o' }:=
 yH (k:=k) hB hd lm (FB hB (aco hk).1) (λ{_ _ _ _ v} hv hW=>by
  obtain⟨bd,bx,rfl,_⟩:=aex hk hv
  exact ae7 hB hW hd he (aco hk).2.1 (aco hk).2.2.1 (aco hk).2.2.2.1 (aco hk).2.2.2.2 hi ho hz) (λ{_ _ _ _ _ _ fn} hv hW=>by
  obtain⟨bd,bx,hv,h1,h2⟩:=aex hk hv
  cases hv
  exact aea hB hX hW h1 h2 hd hi ho hin (hit:=hit))
theorem ad5 (hB:Base P K F T){p:Nat}{b n m:Int}{it:ID}{d:SD}(hd:d.Small)(he:d.kQ)(hp:p<d.pl.length)(h1:0<=d.nx/\d.nx<=1000000)(h2:0<=d.sp/\d.sp<=1000000)(lm:∀s,bB P K (F 201) [.agg (cr 1 (.ofNat p) b n m it)] s (λv s'=>v=iv 0/\s'=s)) :
  Ap P K F 1 (.ofNat p) b n m it d (d.add (pY p b n m) p):=
 yH (k:=1) hB hd lm (acv hB<|by simp) (λ{_ _ _ _ v} hv hW=>by
  obtain⟨bx,rfl,_⟩:=(show km F _ _ v true false false 265 from hv)
  exact adv hB hW hd he (k:=1) (by omega) (by omega) (by omega) (by omega) hp) (λ{_ _ _ _ _ _ _} hv hW=>by
  obtain⟨bx,hv,hx⟩:=(show km F _ _ _ true false false 265 from hv)
  cases hv
  exact c6.func (B1 hB hW hx hd he hp h1 h2))
open Go.Proofs
set_option maxRecDepth 100000
noncomputable def ag7:CF:=NF (cd 78 53) _
noncomputable def ag8:CF:=NF (cd 60 25) _
noncomputable def amh:CF:=NF (cd 64 17) _
noncomputable def ag9:CF:=NF (cd 138 60) _
noncomputable def amp:CF:=NF (cd 147 30) _
noncomputable def amq:CF:=NF (cd 148 17) _
noncomputable def amr:CF:=NF (cd 193 8) _
noncomputable def ams:CF:=NF (cd 194 8) _
noncomputable def amt:CF:=NF (cd 195 3) _
noncomputable def aha:CF:=NF (cd 196 6) _
noncomputable def amu:CF:=NF (cd 207 6) _
noncomputable def ahc:CF:=NF (cd 247 59) _
noncomputable def amC:CF:=NF (cd 252 70) _
noncomputable def ajc:CF:=NF (cd 50 10) _
noncomputable def ajd:CF:=NF (cd 132 11) _
noncomputable def aje:CF:=NF (cd 133 9) _
noncomputable def ahn:CF:=NF (cd 134 15) _
noncomputable def ajf:CF:=NF (cd 192 19) _
structure BaseQ (P:Program)(K:Orc)(F:Nat->FuncId)(T:Nat->TypeId):Prop where
 f109:FnK P K (F 109) 53 [(.tmp 4)] (ag7 F T)
 f128:FnK P K (F 128) 25 [] (ag8 F T)
 f176:FnK P K (F 176) 60 [(.tmp 8)] (ag9 F T)
 f211:FnK P K (F 211) 6 [(.tmp 4)] (aha F T)
 f239:FnK P K (F 239) 59 [] (ahc F T)
 f346:FnK P K (F 346) 10 [(.tmp 6)] (ajc F T)
 f348:FnK P K (F 348) 11 [(.tmp 6)] (ajd F T)
 f349:FnK P K (F 349) 9 [(.tmp 4)] (aje F T)
 f350:FnK P K (F 350) 15 [(.tmp 4)] (ahn F T)
 f351:FnK P K (F 351) 19 [(.tmp 4)] (ajf F T)
noncomputable def amE:CF:=NF (cd 310 10) _
noncomputable def amF:CF:=NF (cd 311 15) _
noncomputable def ahg:CF:=NF (cd 312 6) _
noncomputable def amG:CF:=NF (cd 313 7) _
noncomputable def amH:CF:=NF (cd 314 7) _
noncomputable def amJ:CF:=NF (cd 316 9) _
noncomputable def amL:CF:=NF (cd 324 15) _
noncomputable def ahh:CF:=NF (cd 325 22) _
noncomputable def amM:CF:=NF (cd 328 7) _
noncomputable def amN:CF:=NF (cd 330 15) _
structure BaseR (P:Program)(K:Orc)(F:Nat->FuncId)(T:Nat->TypeId):Prop where
 f254:FnK P K (F 254) 6 [(.tmp 2)] (ahg F T)
 f267:FnK P K (F 267) 22 [] (ahh F T)
theorem ab7 {m n:Int}(h:-9223372036854775808<=m+n/\m+n<=9223372036854775807):binV .add (iv m) (iv n)=some (iv (m+n)):=
 @Bq (mkSg (λ_=>0) (λ_=>.undef)<|λ_=>.deferred) m n h
theorem aew {m n:Int}(h:-9223372036854775808<=m-n/\m-n<=9223372036854775807):binV .sub (iv m) (iv n)=some (iv (m-n)):=
 @F1 (mkSg (λ_=>0) (λ_=>.undef)<|λ_=>.deferred) m n h
theorem aca (hR:BaseR P K F T){n:Int}:bB P K (F 254) [iv n] s (λv s'=>v=iv (oP n)/\s'=s):=by
 refine hR.f254.cF ?_
 unfold ahg
 refine Vr (k:=Wr (.mmx rfl rfl)<|Wr (.mmx rfl rfl)<|Vk (k:=We<|Wm (.tmp rfl .nil) ?_))
 exact⟨rfl,rfl⟩
def acT (d:SD)(C:List CD)(p:OD->CD->Bool)(id:Int):Bool:=match d.obj id with
 | some o=>(match C[o.gt.toNat]? with | some c=>p o c | none=>false)
 | none=>false
def abO (d:SD)(C:List CD)(p:OD->CD->Bool)(l:List Int):List Int:=l.filter (acT d C p)
theorem adC (d:SD)(C:List CD)(p:OD->CD->Bool)(l:List Int)(x:Int):abO d C p (l++[x])=abO d C p l++if acT d C p x then [x]else []:=by
 unfold abO
 rw[List.filter_append]
 congr 1
 rw[List.filter_cons]
 cases acT d C p x<;>rfl
theorem ach (hE:GE P K F T tF g C d)(hQ:BaseQ P K F T)(hf:Has bf (.r false [bu bl aZ c0 c1 c2 c3 c4 ap] 8) t)(eQ:cI t aZ C)(hs:aH bl EL d t s)(hcd:∀o∈d.ob,∃j:Nat,o.gt=.ofNat j/\j<C.length)(hall:∀id∈d.fi,∃o,d.obj id=some o)
  {fv:AV} {p:OD->CD->Bool} (VZ:∀o c t' s',o∈d.ob->c∈C->(∀q∈t,q∈t')->aH bl EL d t' s'->c6 P K fv [.agg o.row,.agg c.row] s' (λv s''=>v=.bool (p o c)/\aH bl EL d t' s'')) :
  bB P K (F 109) [.ptr (some ⟨bf,0,0⟩),fv] s (λv s'=>∃m,aH bl EL d (m++t) s'/\Src m 1 v (nR<|abO d C p d.fi)):=by
 have hn:=hE.hd.n1
 refine hQ.f109.cF ?_
 unfold ag7
 refine Vr (k:=Ww<|W1 (iU hE.hB hs hE.hd hf) ?_)
 rintro _ s2 ⟨m,dt,pv,ov,lv,hv,gv,ev,fi,sv,wv,kv,rfl,hR⟩
 refine Vr (k:=λb6=>Ww<|Wt (s':=(b6,.r false [SD.cells d pv ov lv hv gv ev fi sv wv kv] 25)::_) rfl rfl rfl .here rfl rfl<|Wn<|Ws<|Wq<|Wf rfl<|Wl rfl .here rfl rfl rfl ?_)
 have gw:aH bl EL d ((b6,.r false [d.cells pv ov lv hv gv ev fi sv wv kv] 25)::(m++t)) ((b6,.r false [d.cells pv ov lv hv gv ev fi sv wv kv] 25)::s2):=dt.cons
 generalize (b6,HO.r false [d.cells pv ov lv hv gv ev fi sv wv kv] 25)::s2=s3 at gw |-
 have hlf:lenOf fi=some d.fi.length:=by rw[hR.fi.lenOf,gq]
 refine Wr (.lenS rfl hlf)<|Wv rfl<|Wn<|Wb ?_
 refine Wp (λk l ds s'=>ds=[]/\∃q out og j,k=d.fi.length-q/\q<=d.fi.length/\aH bl EL d (og++(j++((b6,.r false [d.cells pv ov lv hv gv ev fi sv wv kv] 25)::(m++t)))) s'/\Gr 1 out (nR<|abO d C p<|d.fi.take q) og/\∀x w,lk [(0,.ptr<|some ⟨bf,0,0⟩),(1,fv),(5,out),(6,.ptr<|some ⟨b6,0,0⟩),(13,fi),(14,iv<|.ofNat d.fi.length),(15,iv<|.ofNat q)] x=some w->lk l x=some w) ?_ (n:=d.fi.length-0)
  ⟨rfl,0,nilS,[],[],rfl,Nat.zero_le _,gw,.nil,aa rfl qb⟩
 rintro k l ds s5 ⟨rfl,q,out,og,j,rfl,hq,tn,hG,hl⟩
 refine Wg hl (λ_ _ h=>h) ?_
 refine Vr (k:=Wd rfl (λht=>Wi ?_)<|λht=>Wx ?_)
 rotate_left
 ·have hge:¬q<d.fi.length:=λh=>of_decide_eq_false ht (Int.ofNat_lt.2 h)
  rw[List.take_of_length_le (by omega)]at hG
  refine Vk (k:=We<|Wm (.tmp rfl .nil) ?_)
  exact⟨og++(j++((b6,.r false [d.cells pv ov lv hv gv ev fi sv wv kv] 25)::m)),tn.tT<|qc,hG.out.src.mono λq hq=>by simp[hq]⟩
 have hlt:q<d.fi.length:=Int.ofNat_lt.1<|of_decide_eq_true ht
 have hx:d.fi[q]?=some d.fi[q]:=List.getElem?_eq_getElem hlt
 have KP:d.fi[q]∈d.fi:=List.getElem_mem _
 generalize d.fi[q]=id at hx KP
 obtain⟨o,ho⟩:=hall id KP
 obtain⟨i,hi,xG⟩:∃i,d.find id=some i/\d.ob[i]?=some o:=by
  unfold SD.obj at ho
  cases h:d.find id with
  | none=>rw[h]at ho;cases ho
  | some i=>rw[h]at ho;exact⟨i,rfl,ho⟩
 have V4:o∈d.ob:=List.mem_of_getElem? xG
 obtain⟨k,hk,hkl⟩:=hcd o V4
 have hc:C[k]?=some C[k]:=List.getElem?_eq_getElem hkl
 have IR:C[k]∈C:=List.getElem_mem _
 generalize C[k]=c at hc IR
 have hsn:=adC d C p (d.fi.take q) id
 rw[show d.fi.take q++[id]=d.fi.take (q+1) by rw[List.take_add_one,hx];rfl]at hsn
 have hpc:acT d C p id=p o c:=by unfold acT;rw[ho];show(match C[o.gt.toNat]? with | some c=>p o c | none=>false)=_;rw[hk,show(Int.ofNat k).toNat=k from rfl,hc]
 rw[hpc]at hsn
 obtain⟨ba,ra,na,ca,J5,Sp,Ma,e4,hba,aaf,hra⟩:=hR.fi.at (by rw[gq];exact hlt)
 have hrow:Ma[ra+q]?=some [iv id]:=by rw[hra,nR,List.getElem?_map,hx];rfl
 subst e4
 have aoc:Has ba (.r Sp Ma 1) (m++t):=.left hba
 refine Vr (k:=WP.fd λbd1=>Dp (.faddr rfl)<|WD.lk rfl .nil .ld<|Vr (k:=Dc .nil<|W1 (lg hE.hB (hR.ob.mono λq hq=>.tail _ (tn.mem<|.d5<|by simp[hq]).mem) hE.hd) ?_))
 rintro _ _ ⟨rfl,mF,rfl⟩
 rw[hi]
 obtain⟨bo,ro,no,co,ZE,WE,Mo,eo,IM,Uw,hro⟩:=hR.ob.at (by rw[fy,List.length_map];exact(List.getElem?_eq_some_iff.1 xG).1)
 have alH:Mo[ro+i]?=some o.row:=by rw[hro,fy,List.getElem?_map,xG];rfl
 have akA:=hR.ob.same
 subst eo
 have aoh:Has bo (.r WE Mo 14) (m++t):=.left IM
 refine Vr (k:=?_)
 refine WD.al (.alloc rfl) rfl<|Dc (.yes (show bit 255 7=true from rfl) rfl uP .nil)<|Wt (s':=mF++((bd1,.r false [o.row] 14)::s5)) rfl rfl rfl uP rfl rfl<|D0 .nil ?_ ?_
 rotate_left
 ·intro x hx
  rw[List.mem_singleton.1 hx]
  refine⟨(λi hi=>by rw[List.mem_singleton.1 hi];exact(show bit 1 7=false from rfl)),Nat.zero_le _,akA,λk _ hk=>?_⟩
  rcases j9 hk with rfl|rfl
  ·exact⟨_,rfl,.load rfl (.there<|tn.mem zP) rfl rfl rfl⟩
  ·exact⟨_,rfl,.load rfl (.app<|.there<|tn.mem zP) rfl rfl rfl⟩
 have KL:aH bl EL d ((bd1,.r false [o.row] 14)::(og++(j++((b6,.r false [d.cells pv (.slice (some ⟨bo,ro,0⟩) no co ZE 14) lv hv gv ev (.slice (some ⟨ba,ra,0⟩) na ca J5 1) sv wv kv] 25)::(m++t))))) (mF++((bd1,.r false [o.row] 14)::s5)):=tn.cons.bK
 generalize mF++((bd1,HO.r false [o.row] 14)::s5)=s6 at KL |-
 obtain⟨bc,rc,nc,cc',slc,roc,Mc,ec,hbc,hic,hrc⟩:=eQ.src.at (i:=k) (by rw[List.length_map];exact hkl)
 have aaW:Mc[rc+k]?=some c.row:=by rw[hrc,List.getElem?_map,hc];rfl
 have hlc:lenOf aZ=some C.length:=by rw[eQ.src.lenOf,List.length_map]
 have aio:binV .lss (iv o.gt) (iv<|.ofNat C.length)=some (.bool true):=by
  rw[eT,hk];exact congrArg (λb=>some<|AV.bool b)<|decide_eq_true<|Int.ofNat_lt.2 hkl
 refine Vr (k:=?_)
 refine Dp (.iaddrS (congrArg some ec) (congrArg (λx=>some<|iv x) hk) hic<|by decide)<|Vr (k:=?_)
 refine Dc .nil<|WS.call rfl rfl (VZ o c _ s6 V4 IR (λq hq=>by simp[hq]) KL) ?_
 rintro _ s7 ⟨rfl,hs7⟩
 cases Sh:p o c with
 | false=>
  rw[Sh]at hsn
  refine Vr (k:=?_)
  exact⟨d.fi.length-(q+1),by omega,rfl,q+1,out,og,j,rfl,hlt,hs7.tail,by rw[hsn];simpa using hG,aa rfl qb⟩
 | true=>
  rw[Sh]at hsn
  obtain⟨u,hu,hback⟩:=hs7.tail.split
  refine Vr (k:=Wa (.bslice (fZ rfl rfl) rfl) λb49=>Ww<|WS.pre (s':=((b49,.r false [[iv id]] 1)::u)++(og++(j++((b6,.r false [d.cells pv (.slice (some ⟨bo,ro,0⟩) no co ZE 14) lv hv gv ev (.slice (some ⟨ba,ra,0⟩) na ca J5 1) sv wv kv] 25)::(m++t))))) (ak λc w h0 h1 h2 hq=>by have:=hq _ _ hu;simp only[h1,h2]at this |-;omega)<|WS.append_gr rfl hG rfl (Src.all .here) (by omega) (by rw[gq];have:=List.length_filter_le (acT d C p) (d.fi.take q);have:=List.length_take_le q d.fi;unfold abO;show _+1<=_;omega) (by omega) λv' o' jk xB=>Vr (k:=?_))
  refine⟨d.fi.length-(q+1),by omega,rfl,q+1,v',o',(b49,.r false [[iv id]] 1)::(jk++j),rfl,hlt,(hback<|o'++(((b49,.r false [[iv id]] 1)::(jk++j))++((b6,.r false [d.cells pv (.slice (some ⟨bo,ro,0⟩) no co ZE 14) lv hv gv ev (.slice (some ⟨ba,ra,0⟩) na ca J5 1) sv wv kv] 25)::(m++t)))).perm (qc),?_,aa rfl qb⟩
  rw[hsn]
  simpa[nR]using xB
def aao (k e:Int)(c:CD):Bool:=c.ab.any λa=>decide (a.kind=k)&&decide (a.ev=e)
theorem acS (hQ:BaseQ P K F T){a:AD}{k e:Int}{bk be:Nat}(hk:Has bk (.r false [[iv k]] 1) s)(he:Has be (.r false [[iv e]] 1) s):bB P K (F 350) [.agg a.row,.ptr (some ⟨bk,0,0⟩),.ptr (some ⟨be,0,0⟩)] s (λw s'=>w=.bool (decide (a.kind=k)&&decide (a.ev=e))/\∃m,s'=m++s):=by
 refine hQ.f350.cF ?_
 unfold ahn
 have h8:eqBy 20 .pi (iv a.kind) (iv k)=some (decide<|a.kind=k):=dh _ _
 cases h1:decide (a.kind=k) with
 | false=>
  rw[h1]at h8
  refine Vr (k:=λb3=>Vk (k:=We<|Wm (.tmp rfl .nil) ?_))
  exact⟨rfl,[_],rfl⟩
 | true=>
  rw[h1]at h8
  refine Vr (k:=?_)
  refineλb3=>Wv rfl<|Wn<|Wq<|Wf rfl<|Wr .ld<|Wr .ld<|Wh rfl rfl h8<|Wv rfl<|Wy<|Wf rfl<|Wy<|Wr .ld<|Wy<|Wr .ld<|Wy<|Wh rfl rfl (dh _ _)<|Wr (.uS rfl rfl)<|Wv rfl<|Wn<|We<|Wm (.tmp rfl .nil) ?_
  exact⟨rfl,[_],rfl⟩
def aeu (k e:Int):List AV->Bool
 | .int _ a::.int _ b::_=>decide (a=k)&&decide (b=e)
 | _=>false
theorem BaseQ.ajm (hQ:BaseQ P K F T):FnK P K (F 349) 9 [.tmp 4] (af6 (F 351)):=hQ.f349
theorem BaseQ.ajn (hQ:BaseQ P K F T):FnK P K (F 351) 19 [.tmp 4] (CU true 13):=hQ.f351
theorem adJ (k e:Int)(l:List AD):((l.map AD.row).findIdx? (aeu k e)).isSome=l.any λa=>decide (a.kind=k)&&decide (a.ev=e):=by
 rw[List.findIdx?_isSome,List.any_map]
 rfl
theorem abT (hQ:BaseQ P K F T){o:OD}{c:CD}{k e:Int}{bk be:Nat}(hk:Has bk (.r false [[iv k]] 1) s)(he:Has be (.r false [[iv e]] 1) s)(hc:Src s 13 c.av (c.ab.map AD.row))(hn:c.ab.length<=1000) :
  bB P K (F 348) [.agg o.row,.agg c.row,.ptr<|some ⟨bk,0,0⟩,.ptr<|some ⟨be,0,0⟩] s (λw s'=>w=.bool (aao k e c)/\∃m,s'=m++s):=by
 refine hQ.f348.cF ?_
 refine Vr (k:=λb4=>Vr (k:=λb5=>Vr (k:=?_)))
 have hidx:∀{x y:Nat × HO},bB P K (F 351) [c.av,.func (F 350) [] [.ptr (some ⟨bk,0,0⟩),.ptr<|some ⟨be,0,0⟩]] (x::y::s) (λw s'=>w=CV ((c.ab.map AD.row).findIdx? (aeu k e))/\∃n,s'=n++(x::y::s)):=by
  intro x y
  refine hQ.ajn.cF<|vz (aeu k e) (hc.mono λq hq=>by simp[hq]) (by decide) (.inl rfl) (by rw[List.length_map];omega) (λrow hr=>?_) (λrow hr z=>?_) λn=>⟨rfl,n,rfl⟩
  ·obtain⟨a,_,rfl⟩:=List.mem_map.1 hr
   rfl
  ·obtain⟨a,_,rfl⟩:=List.mem_map.1 hr
   exact c6.func<|acS hQ zP zP
 have akp:∀{x y:Nat × HO},bB P K (F 349) [c.av,.func (F 350) [] [.ptr (some ⟨bk,0,0⟩),.ptr<|some ⟨be,0,0⟩]] (x::y::s) (λw s'=>w=.bool (aao k e c)/\∃n,s'=n++(x::y::s)):=by
  intro x y
  refine hQ.ajm.cF<|af7 hidx λn=>⟨?_,n,rfl⟩
  rw[adJ]
  rfl
 refine Ww<|Wc rfl rfl (akp) ?_
 rintro _ _ ⟨rfl,m,rfl⟩
 refine Vk (k:=We<|Wm (.tmp rfl .nil) ?_)
 exact⟨rfl,m++[(b5,.r false [c.row] 11),(b4,.r false [o.row] 14)],by simp⟩
theorem abS (hE:GE P K F T tF g C d)(hQ:BaseQ P K F T)(hf:Has bf (.r false [bu bl aZ c0 c1 c2 c3 c4 ap] 8) t)(eQ:cI t aZ C)(hs:aH bl EL d t s)(hcd:∀o∈d.ob,∃j:Nat,o.gt=.ofNat j/\j<C.length)(hall:∀id∈d.fi,∃o,d.obj id=some o){k e:Int} :
  bB P K (F 346) [.ptr (some ⟨bf,0,0⟩),iv k,iv e] s (λv s'=>∃m,aH bl EL d (m++t) s'/\Src m 1 v (nR<|abO d C (λ_ c=>aao k e c) d.fi)):=by
 refine hQ.f346.cF ?_
 refine Vr (k:=λb4=>Vr (k:=λb5=>Vr (k:=?_)))
 have nr:aH bl EL d ((b5,.r false [[iv e]] 1)::(b4,.r false [[iv k]] 1)::t) ((b5,.r false [[iv e]] 1)::(b4,.r false [[iv k]] 1)::s):=hs.cons.cons
 refine Ww<|Wc rfl rfl (ach (p:=λ_ c=>aao k e c) hE hQ zP (eQ.mono λq hq=>by simp[hq]) nr hcd hall<|λo c t' s' ho hc hq h=>c6.func<|(abT hQ (h.mem<|.d5<|hq _<|by simp) (h.mem<|.d5<|hq _<|by simp) ((eQ.ab c hc).mono λq h2=>(h.mem<|.d5<|hq _<|by simp[h2]).mem)<|eQ.nb c hc).post λw s2 h2=>⟨h2.1,by obtain⟨m,rfl⟩:=h2.2;exact h.bK⟩) ?_
 rintro v s2 ⟨m,dt,hS⟩
 refine Vk (k:=We<|Wm (.tmp rfl .nil) ?_)
 exact⟨m++[(b5,.r false [[iv e]] 1),(b4,.r false [[iv k]] 1)],by rw[List.append_assoc];exact dt,hS.mono λq hq=>by simp[hq]⟩
structure BdX (P:Program)(K:Orc)(F:Nat->FuncId)(T:Nat->TypeId)(tF:TypeId)(g:ED->CH->CH)(C:List CD)(d:SD):Prop where
 hE:GE P K F T tF g C d
 hQ:BaseQ P K F T
 hv:meth P tF "Having"=some (F 346)
 do_:meth P tF "Do"=some (F 15)
 cd:∀o∈d.ob,∃j:Nat,o.gt=.ofNat j/\j<C.length
 all:∀id∈d.fi,∃o,d.obj id=some o
theorem aeN {k e:Int}(h:∀c∈C,aao k e c=false)(l:List Int):abO d C (λ_ c=>aao k e c) l=[]:=by
 unfold abO
 refine List.filter_eq_nil_iff.2 λid _=>?_
 unfold acT
 cases d.obj id with
 | none=>simp
 | some o=>
  cases hc:C[o.gt.toNat]? with
  | none=>simp[hc]
  | some c=>simp[hc,h c<|List.mem_of_getElem? hc]
theorem abN {k:Int}(hX:BdX P K F T tF g C d)(hno:∀c∈C,aao 3 k c=false)(hf:Has bf (.r false [bu bl aZ c0 c1 c2 c3 c4 ap] 8) t)(eQ:cI t aZ C)(hs:aH bl EL d t s){y:AV}{b2 b3:Nat}(h2:Has b2 (.r false [[gm tF bf]] 1) t)(h3:Has b3 (.r false [[iv k]] 1) t) :
  bB P K (F 239) [y,.ptr<|some ⟨b2,0,0⟩,.ptr<|some ⟨b3,0,0⟩] s (λ_ s'=>aH bl EL d t s'):=by
 refine hX.hQ.f239.cF ?_
 unfold ahc
 refine Vr (k:=Ww<|WS.invoke rfl (hX.hE.hM.aZ ) rfl ( BS hX.hE.hG hs hf eQ) ?_)
 rintro v4 s2 ⟨m,dt,hS⟩
 refine Vr (k:=Ww<|WS.invoke rfl (hX.hv ) rfl ( abS hX.hE hX.hQ zP (eQ.mono λq hq=>by simp[hq]) dt hX.cd hX.all) ?_)
 rintro v15 s3 ⟨m3,gw,hS3⟩
 rw[aeN (k:=Int.ofNat 3) hno]at hS3
 have aox:lenOf v15=some 0:=hS3.lenOf
 refine Vr (k:=WP.dA<|Vk (k:=Wx<|Wm .nil ?_))
 exact gw.fb.fb
theorem acD (hQ:BaseQ P K F T){v:AV}{k:Int}(hv:partCells 1 v=some [v]):bB P K (F 211) [v,iv k] s (λw s'=>∃b b',w=.func (F 239) [] [.ptr (some ⟨b,0,0⟩),.ptr (some ⟨b',0,0⟩)]/\s'=(b',.r false [[iv k]] 1)::(b,.r false [[v]] 1)::s):=by
 refine hQ.f211.cF ?_
 unfold aha
 refine Vr (k:=Wa (.box rfl hv) λb2=>Vr (k:=λb3=>Vk (k:=We<|Wm (.tmp rfl .nil) ?_)))
 exact⟨b2,b3,rfl,rfl⟩
theorem abE {k:Int}(hX:BdX P K F T tF g C d)(hno:∀c∈C,aao 3 k c=false)(hf:Has bf (.r false [bu bl aZ c0 c1 c2 c3 c4 ap] 8) t)(eQ:cI t aZ C)(hs:aH bl EL d t s){id p:Int}(q7:binV .lss (iv k) (iv 1)=some (.bool false))(hk2:binV .gtr (iv k) (iv 6)=some (.bool false)) :
  bB P K (F 176) [gm tF bf,iv k,iv id,iv p] s (λv s'=>lenOf v=some 0/\aH bl EL d t s'):=by
 refine hX.hQ.f176.ZH ?_
 unfold ag9
 refine Vr (k:=λb6=>Vr (k:=λb7=>Vr (k:=Wa .mkmap λb23=>Vr (k:=Ww<|WS.ins rfl rfl rfl .here rfl<|Vr (k:=Ww<|WS.ins rfl rfl rfl .here rfl<|Ww<|WS.ins rfl rfl rfl .here rfl<|Vr (k:=λb9=>Vr (k:=λsf=>Vr (k:=Ww<|W1 (acD hX.hQ rfl) ?_))))))))
 rintro _ _ ⟨b29,c29,rfl,rfl⟩
 have nr:∀es,aH bl EL d ((c29,.r false [[iv k]] 1)::(b29,.r false [[gm tF bf]] 1)::(sf,.r false [[nilS]] 1)::t) ((c29,.r false [[iv k]] 1)::(b29,.r false [[gm tF bf]] 1)::(sf,.r false [[nilS]] 1)::(b9,.r false [[AV.map (some b23)]] 1)::(b23,.m es)::(b7,.r false [[iv p]] 1)::(b6,.r false [[iv id]] 1)::s):=by
  intro es
  have h0:aH bl EL d t ((b9,.r false [[AV.map (some b23)]] 1)::(b23,.m es)::(b7,.r false [[iv p]] 1)::(b6,.r false [[iv id]] 1)::s):=aH.bK (m:=[_,_,_,_]) hs
  exact h0.cons.cons.cons
 refine Wn<|Wb ?_
 refine Wg (l':=[(10,.ptr<|some ⟨sf,0,0⟩),(29,.func (F 239) [] [.ptr (some ⟨b29,0,0⟩),.ptr<|some ⟨c29,0,0⟩])]) qb (λ_ _ h=>h) ?_
 generalize hl1:[(10,AV.ptr<|some ⟨sf,0,0⟩),(29,AV.func (F 239) [] [.ptr (some ⟨b29,0,0⟩),.ptr<|some ⟨c29,0,0⟩])]=l1
 refine WP.rf (first:=[]) (by rw[<- hl1];rfl) λasg body ha hb D lb=>?_
 have dt:=λes=>((nr es).cons (p:=(D,.ob .deferred))).cons (p:=(lb,.lp l1 60 [30] asg body .ready none D))
 refine bB.canon<|(abN hX hno zP (eQ.mono λq hq=>by simp[hq]) (dt _) (y:=.yield lb) (b2:=b29) (b3:=c29) (k:=k) zP zP).post ?_
 rintro _ s9 hs9
 obtain⟨u,hu,hback⟩:=hs9.split
 refine⟨(lb,.lp l1 60 [30] asg body .ready none D)::(u++((D,.ob .deferred)::(c29,.r false [[iv k]] 1)::(b29,.r false [[gm tF bf]] 1)::(sf,.r false [[nilS]] 1)::t)),ak (λc w h0 h1 h2 hq=>by have:=hq _ _ hu;simp only[h1,h2]at this |-;omega),l1,.ready,none,_,rfl,(λh=>LoopState.noConfusion h),?_⟩
 subst hl1
 refine Vr (k:=We ?_)
 refine⟨[D],(lb,.gone)::(u++((c29,.r false [[iv k]] 1)::(b29,.r false [[gm tF bf]] 1)::(sf,.r false [[nilS]] 1)::t)),rfl,ak (λc w h0 h1 h2 hq=>by simp only[h1,h2,h0,List.map_cons,List.map_nil];omega),[nilS],.tmp rfl .nil,rfl,?_⟩
 exact aH.bK (m:=[_,_])<|aH.fb (x:=[_,_,_])<|hback _
theorem abX {k:Int}(hX:BdX P K F T tF g C d)(hno:∀c∈C,aao 3 k c=false)(hf:Has bf (.r false [bu bl aZ c0 c1 c2 c3 c4 ap] 8) t)(eQ:cI t aZ C)(hs:aH bl EL d t s){id p:Int}(q7:binV .lss (iv k) (iv 1)=some (.bool false))(hk2:binV .gtr (iv k) (iv 6)=some (.bool false)) :
  bB P K (F 128) [gm tF bf,iv k,iv id,iv p] s (λ_ s'=>aH bl EL d t s'):=by
 refine hX.hQ.f128.cF ?_
 unfold ag8
 refine Vr (k:=Ww<|W1 (abE hX hno hf eQ hs q7 hk2) ?_)
 rintro v s2 ⟨hl,dt⟩
 refine Vr (k:=WP.dA<|Vk (k:=Wx<|Wm .nil ?_))
 exact dt
theorem ad6 (hB:Base P K F T)(hX:BaseX P K F T){a:Int}{i:Nat}{o:OD}(hd:d.Small)(he:d.kQ)(hi:d.find a=some i)(ho:d.ob[i]?=some o)(hz:o.ci=2)(hT:∀s,bB P K (F 201) [.agg (cr 3 a 0 1 0 Pu)] s (λv s'=>v=iv 0/\s'=s)) :
  Ap P K F 3 a 0 1 0 Pu d { d with ob:=d.ob.set i { o with RU:=decide ((1:Int)=1) } }:=
 adA (k:=3) hB hX hd he (.inl ⟨rfl,rfl⟩) hi ho hz (λhu hr=>adW hX hu hr) hT
def LD.mn (o:LD):Nat->Int
 | 0=>o.m0
 | 1=>o.m1
 | 2=>o.m2
 | _=>o.m3
def LD.aff (o:LD)(j:Nat)(x:Int):LD:=match j with
 | 0=>{ o with m0:=x }
 | 1=>{ o with m1:=x }
 | 2=>{ o with m2:=x }
 | _=>{ o with m3:=x }
theorem agE (o:LD){j:Nat}(h:j<4):bV 1 (cu (Nat.add 1 (Nat.mul j 1)) o.row)=some [iv (o.mn j)]:=by
 match j,h with
 | 0,_=>rfl
 | 1,_=>rfl
 | 2,_=>rfl
 | 3,_=>rfl
theorem agD (o:LD){j:Nat}(h:j<4)(x:Int):fK o.row (Nat.add 1 (Nat.mul j 1)) [iv x]=some (o.aff j x).row:=by
 match j,h with
 | 0,_=>rfl
 | 1,_=>rfl
 | 2,_=>rfl
 | 3,_=>rfl
def mxI (a b:Int):Int:=match ilt a b with | true=>b | false=>a
def mnI (a b:Int):Int:=match ilt b a with | true=>b | false=>a
theorem aep (a b:Int):mxI a b=max a b:=by
 unfold mxI
 rw[du]
 by_cases h:a<b
 ·rw[decide_eq_true h];show b=_;omega
 ·rw[decide_eq_false h];show a=_;omega
theorem agC (a b:Int):mnI a b=min a b:=by
 unfold mnI
 rw[du]
 by_cases h:b<a
 ·rw[decide_eq_true h];show b=_;omega
 ·rw[decide_eq_false h];show a=_;omega
theorem WR.iaddrA {n sz:Nat}{x i:Operand}{b r o:Nat}{q:IntKind}{j:Nat}(hx:opl l x=some (.ptr (some ⟨b,r,o⟩)))(hi:opl l i=some (.int q (.ofNat j)))(hj:j<n):WR P (.iaddrA n sz x i) l s (.ptr (some ⟨b,r,Nat.add o (Nat.mul j sz)⟩)):=by
 have h1:Nat.blt j n=true:=Nat.ble_eq_true_of_le hj
 exact WR.mk' (λ_ _ _ _ _=>rfl)<|λe H he=>by simp only[aval,aG he hx,aG he hi,h1,elemAt]
theorem adV {x:Int}(h:-999<=x/\x<=999):oP x=x:=by
 have e:oP x=mnI (mxI x<|.negSucc 998) 999:=rfl
 rw[e,agC,aep]
 omega
theorem ac3 (hR:BaseR P K F T){o:LD}{i bp j:Nat}{k a n m:Int}{it:ID}{s':SH}{L:List (List AV)}(hj:j<4)(hb:0<=o.mn j+n/\o.mn j+n<=999)(hu:oY bp (.r false L 8) (.r false (L.set i (o.aff j (o.mn j+n)).row) 8) s s')(hr:L[i]?=some o.row) :
  bB P K (F 267) [.ptr (some ⟨bp,i,0⟩),.agg<|cr k a (.ofNat j) n m it] s (λ_ s2=>∃m,s2=m++s'):=by
 refine hR.f267.cF ?_
 unfold ahh
 have hh:=hu.has.1
 have had:binV .add (iv<|o.mn j) (iv n)=some (iv<|o.mn j+n):=ab7 ⟨by omega,by omega⟩
 have Se:=agE o hj
 refine Vr (k:=λb3=>Vr (k:=WD.lk rfl .nil .ld<|Vr (k:=Dc .nil<|W1 (aca hR) ?_)))
 rintro _ _ ⟨rfl,rfl⟩
 rw[adV ⟨by omega,hb.2⟩]
 have hmx:aw (mm true) [iv 0] (iv<|o.mn j+n)=some (iv<|o.mn j+n):=by
  show some (iv<|mxI (o.mn j+n) 0)=_
  rw[aep,Int.max_eq_left hb.1]
 refine Dp (.mmx rfl hmx)<|Vr (k:=?_)
 refine Dc .nil<|Wt rfl rfl rfl uP hr (agD o hj _)<|D0 .nil (Wm .nil ⟨[_],rfl⟩) λx hx=>?_
 rw[List.mem_singleton.1 hx]
 refine⟨(λi hi=>nomatch hi),Nat.zero_le _,wC _,λk' _ hk=>?_⟩
 rcases(by have:k'<=1:=hk;omega:k'=0\/k'=1)with rfl|rfl
 ·exact⟨_,rfl,.load rfl .here rfl rfl rfl⟩
 ·exact⟨_,rfl,.load rfl .here rfl rfl rfl⟩
theorem abI (hB:Base P K F T)(h264:FnK P K (F 264) 15 [] (aeI F T))(hR:BaseR P K F T){p j:Nat}{o:LD}{n m:Int}{it:ID}{d:SD}(hd:d.Small)(he:d.kQ)(ho:d.pl[p]?=some o)(hj:j<4)(hb:0<=o.mn j+n/\o.mn j+n<=999)(lm:∀s,bB P K (F 201) [.agg (cr 8 (.ofNat p) (.ofNat j) n m it)] s (λv s'=>v=iv 0/\s'=s)) :
  Ap P K F 8 (.ofNat p) (.ofNat j) n m it d { d with pl:=d.pl.set p (o.aff j<|o.mn j+n) }:=
 yH (k:=8) hB hd lm (acv hB<|by simp) (λ{_ _ _ _ v} hv hW=>by
  obtain⟨bd,bx,rfl,_⟩:=(show iP F _ _ v true false false 264 267 from hv)
  exact adv hB hW hd he (k:=8) (by omega) (by omega) (by omega) (by omega) (List.getElem?_eq_some_iff.1 ho).1) (λ{_ _ _ _ _ _ _} hv hW=>by
  obtain⟨bd,bx,hv,h1,h2⟩:=(show iP F _ _ _ true false false 264 267 from hv)
  cases hv
  exact aeb (o':=o.aff j (o.mn j+n)) h264 hW h1 h2 ho λ{s s' bp L} hu hr=>ac3 hR hj hb hu hr)
theorem adO {d:SD}(he:d.kQ){a:Int}{i:Nat}{z:Int}{p:Nat}:(d.left a i z p).kQ:=by
 unfold SD.left
 cases hz:d.ci z p with
 | none=>exact⟨he.lb,he.hd,he.gr,he.ex⟩
 | some x=>
  obtain⟨bX,put⟩:=x
  have h:=(SD.abz hz λn=>!decide (n=a)).2.1 he
  exact⟨h.lb,h.hd,h.gr,h.ex⟩
theorem abs (d:SD)(a:Int)(i:Nat)(z:Int)(p:Nat):(d.left a i z p).pl=d.pl/\(d.left a i z p).nx=d.nx/\(d.left a i z p).sp=d.sp:=by
 unfold SD.left
 cases hz:d.ci z p with
 | none=>exact⟨rfl,rfl,rfl⟩
 | some x=>
  obtain⟨bX,put⟩:=x
  obtain⟨k1,_,_,_,k5,k6,_⟩:=SD.abz hz λn=>!decide (n=a)
  exact⟨k1,k5,k6⟩
theorem ac1 {d:SD}(hd:d.Small)(he:d.kQ){a:Int}{i:Nat}{z:Int}{p:Nat}:(d.left a i z p).Small:=by
 have h1:=hd.n1
 unfold SD.left
 cases hz:d.ci z p with
 | none=>exact⟨⟨h1.1,Nat.le_trans (List.length_eraseIdx_le ..) h1.2.1,h1.2.2⟩,hd.n2,hd.n3⟩
 | some x=>
  obtain⟨bX,put⟩:=x
  obtain⟨k1,k2,k3,k4,_⟩:=SD.abz hz λn=>!decide (n=a)
  obtain⟨_,j2,j3,_,j5⟩:=SD.AY hz<|bX.filter λn=>!decide (n=a)
  have k2:=k2 he
  refine⟨⟨by show(put _).pl.length<=_;rw[k1];exact h1.1,Nat.le_trans (List.length_eraseIdx_le ..) h1.2.1,Nat.le_trans k3 h1.2.2.1,by show(put _).st.length<=_;rw[j2];exact h1.2.2.2.1,by show(put _).wa.length<=_;rw[j3];exact h1.2.2.2.2⟩,λLL hL=>⟨?_,k4 (λLL hL=>(hd.n2 LL hL).2) LL hL⟩,⟨by show(put _).ct.length<=_;rw[j5];exact hd.n3.1,by show∀x∈(put _).st,_;rw[j2];exact hd.n3.2.1,by show∀x∈(put _).wa,_;rw[j3];exact hd.n3.2.2⟩⟩
  have hp:(put<|bX.filter λn=>!decide (n=a)).pl.length<=1000:=by rw[k1];exact h1.1
  rcases hL with rfl|rfl|rfl|rfl
  ·exact Nat.le_trans (Nat.le_of_eq k2.lb) hp
  ·exact Nat.le_trans (Nat.le_of_eq k2.hd) hp
  ·exact Nat.le_trans (Nat.le_of_eq k2.gr) hp
  ·exact Nat.le_trans (Nat.le_of_eq k2.ex) hp
theorem acM (hB:Base P K F T)(hM:BaseM P K F T){bw:Nat}{d:SD}{t:SH}(hs:WH bw d t s)(hd:d.Small)(he:d.kQ){a b m:Int}{it:ID}{i:Nat}{o:OD}(hi:d.find a=some i)(xG:d.ob[i]?=some o){p:Nat}(hp:p<d.pl.length)(ho:o.owner=.ofNat p)
  (hst:d.st=[]) (KO:d.wa=[]) (hct:∀x∈d.ct,x.o≠a) (oZ:∀o∈d.ob,o.block≠a) (h1:0<=d.nx/\d.nx<=1000000) (h2:0<=d.sp/\d.sp<=1000000) :
  bB P K (F 260) [.ptr (some ⟨bw,0,0⟩),.agg<|cr 2 a b 0 m it] s (λ_ s'=>WH bw ((d.left a i o.ci p).add (pX o b) p) t s'):=by
 refine hM.f260.cF ?_
 unfold Tb
 refine Vr (k:=λb3=>Wn ?_)
 have nr:WH bw d ((b3,.r false [cr 2 a b 0 m it] 13)::t) ((b3,.r false [cr 2 a b 0 m it] 13)::s):=hs.Ku
 refine Vr (k:=Ww<|Wz [.ptr (some ⟨bw,0,0⟩),iv a] rfl rfl (zQ hB nr hd he hi xG hp ho hst KO hct oZ) ?_)
 rintro w s2 ⟨rfl,dt⟩
 refine Vr (k:=λb4=>Vr (k:=?_))
 have gw:=dt.Ku (p:=(b4,.r false [o.row] 14))
 refine Vr (k:=Wl rfl (.there<|dt.Vb .here) rfl rfl rfl<|Vr (k:=Wl rfl (.there<|dt.Vb .here) rfl rfl rfl<|Vr (k:=?_)))
 refine Ww<|Wz [.ptr (some ⟨bw,0,0⟩),.agg (pX o b).row,.bool false] rfl rfl (Br hB gw (ac1 hd he) (adO he) ((abs d a i o.ci p).1▸hp) ho ((abs d a i o.ci p).2.1▸h1)<|(abs d a i o.ci p).2.2▸h2) ?_
 intro w s4 pM
 exact Wn<|Wm .nil<|WH.fb (x:=[_,_]) pM
theorem acF (hB:Base P K F T)(hM:BaseM P K F T){d:SD}(hd:d.Small)(he:d.kQ){a b m:Int}{it:ID}{i:Nat}{o:OD}(hi:d.find a=some i)(xG:d.ob[i]?=some o){p:Nat}(hp:p<d.pl.length)(ho:o.owner=.ofNat p)
  (hst:d.st=[]) (KO:d.wa=[]) (hct:∀x∈d.ct,x.o≠a) (oZ:∀o∈d.ob,o.block≠a) (h1:0<=d.nx/\d.nx<=1000000) (h2:0<=d.sp/\d.sp<=1000000) (lm:∀s,bB P K (F 201) [.agg (cr 2 a b 0 m it)] s<|λv s'=>v=iv 0/\s'=s) :
  Ap P K F 2 a b 0 m it d ((d.left a i o.ci p).add (pX o b) p):=
 yH (k:=2) hB hd lm (FB hB<|by simp) (λ{_ _ _ _ v} hv hW=>by
  cases (show uH F _ v false true false 260 from hv)
  exact Jh hB hW hd he (k:=2) (by omega) (by omega) (by omega) (by omega) hi) (λ{_ _ _ _ _ _ _} hv hW=>by
  cases (show uH F _ _ false true false 260 from hv)
  exact c6.func (acM hB hM hW hd he hi xG hp ho hst KO hct oZ h1 h2))
open Go.Proofs
set_option maxRecDepth 100000
noncomputable def ahk:CF:=NF (cd 341 24) _
noncomputable def afW:CF:=NF (cd 35 35) _
noncomputable def afX:CF:=NF (cd 36 27) _
noncomputable def ad1:CF:=NF (cd 37 42) _
noncomputable def ahq:CF:=NF (cd 82 33) _
noncomputable def aeJ:CF:=NF (cd 83 116) _
noncomputable def ahr:CF:=NF (cd 84 3) _
noncomputable def ahs:CF:=NF (cd 85 18) _
noncomputable def afY:CF:=NF (cd 86 41) _
noncomputable def afZ:CF:=NF (cd 87 40) _
noncomputable def aht:CF:=NF (cd 88 43) _
noncomputable def ahu:CF:=NF (cd 89 9) _
noncomputable def ahv:CF:=NF (cd 90 23) _
noncomputable def ahw:CF:=NF (cd 91 37) _
noncomputable def ahx:CF:=NF (cd 92 111) _
noncomputable def ahI:CF:=NF (cd 164 11) _
noncomputable def ahJ:CF:=NF (cd 166 31) _
def ahK (F:Nat->FuncId)(T:Nat->TypeId):AC:=(oN [zo 3 (.box 3 1),zo 4 (.mv (zc 0))] (.seq (oN [zm 6 0,zo 7 (.lenS 6),zo 8 (.mv (zc 0))] (.block 0 (.loop (oN [zo 9 (.arith .lss 8 7)] (.seq (.cond 9 .skip (.exit 0)) (.seq (.block 1 (oN [zm 10 8,zm 5 10] (.seq (.drawn 0 [zr (zo 11 (.load true 3 3)) 0 0 0,zp (zm 12 0) 0,zp (zm 13 5) 0,zp (zo 14 (.iaddrS 3 12 13)) 6,zr (zo 15 (.load true 3 14)) 0 0 14,zp (zo 16 (.eql false (.agg [⟨0,⟨1,⟨false,.pi⟩⟩⟩,⟨1,⟨1,⟨false,.pi⟩⟩⟩,⟨2,⟨1,⟨false,.pi⟩⟩⟩]) 11 15)) 31]) (.cond 16 (oN [zm 17 5,zm 4 17] .ret) .skip)))) (.ops [zo 18 (.arith .add 8 (zc 1)),zm 8 18]))))))) (oN [zo 4 (.mv (.const (.int .i64 (.negSucc 0))))] .ret)))
structure BaseAc (P:Program)(K:Orc)(F:Nat->FuncId)(T:Nat->TypeId):Prop where
 f283:FnK P K (F 283) 24 [] (ahk F T)
 ah5:FnK P K (F 408) 35 [] (afW F T)
 ah6:FnK P K (F 409) 27 [(.tmp 2)] (afX F T)
 aeQ:FnK P K (F 410) 42 [(.tmp 4)] (ad1 F T)
 ajz:FnK P K (F 419) 33 [] (ahq F T)
 aga:FnK P K (F 420) 116 [(.cell 4<|T 420),(.tmp 5)] (aeJ F T)
 ajA:FnK P K (F 421) 3 [(.tmp 0)] (ahr F T)
 ajB:FnK P K (F 422) 18 [(.tmp 2)] (ahs F T)
 ah7:FnK P K (F 423) 41 [(.tmp 2)] (afY F T)
 ah8:FnK P K (F 424) 40 [(.tmp 2)] (afZ F T)
 ajC:FnK P K (F 425) 43 [(.tmp 2)] (aht F T)
 ajD:FnK P K (F 426) 9 [(.tmp 4)] (ahu F T)
 ajE:FnK P K (F 427) 23 [(.tmp 4)] (ahv F T)
 ajF:FnK P K (F 428) 37 [(.tmp 4)] (ahw F T)
 ajG:FnK P K (F 429) 111 [(.tmp 4)] (ahx F T)
 ajR:FnK P K (F 448) 11 [(.tmp 2)] (ahI F T)
 ajS:FnK P K (F 450) 31 [(.tmp 4)] (ahJ F T)
 ajT:FnK P K (F 451) 19 [(.tmp 4)] (ahK F T)
noncomputable def ahp:CF:=NF (cd 40 85) _
noncomputable def ahz:CF:=NF (cd 94 8) _
noncomputable def ahA:CF:=NF (cd 95 32) _
noncomputable def ahB:CF:=NF (cd 96 8) _
noncomputable def ahC:CF:=NF (cd 97 26) _
noncomputable def ahD:CF:=NF (cd 98 8) _
noncomputable def ahE:CF:=NF (cd 99 32) _
noncomputable def ahF:CF:=NF (cd 100 101) _
noncomputable def ahG:CF:=NF (cd 101 32) _
noncomputable def amW:CF:=NF (cd 102 52) _
noncomputable def ahH:CF:=NF (cd 103 38) _
noncomputable def ahM:CF:=NF (cd 171 26) _
def ahN (F:Nat->FuncId)(T:Nat->TypeId):AC:=(oN [zo 4 (.mv (.const (.bool false)))] (.seq (oN [zm 6 0,zo 7 (.lenS 6),zm 8 1,zo 9 (.lenS 8),zo 10 (.eql true .pi 7 9)] (.cond 10 (oN [zo 4 (.mv (.const (.bool false)))] .ret) .skip)) (.seq (oN [zm 11 0,zo 12 (.lenS 11),zo 13 (.mv (zc 0))] (.block 0 (.loop (oN [zo 14 (.arith .lss 13 12)] (.seq (.cond 14 .skip (.exit 0)) (.seq (.block 1 (oN [zm 15 13,zm 5 15] (.seq (.drawn 0 [zp (zm 16 0) 0,zp (zm 17 5) 0,zp (zo 18 (.iaddrS 8 16 17)) 3,zr (zo 19 (.load true 8 18)) 0 0 7,zp (zm 20 1) 0,zp (zm 21 5) 0,zp (zo 22 (.iaddrS 8 20 21)) 48,zr (zo 23 (.load true 8 22)) 0 0 112,zp (zo 24 (.eql true (.agg [⟨0,⟨1,⟨false,.pi⟩⟩⟩,⟨1,⟨4,⟨true,(.agg [⟨0,⟨1,⟨false,.pi⟩⟩⟩,⟨1,⟨1,⟨false,.pi⟩⟩⟩,⟨2,⟨1,⟨false,.pi⟩⟩⟩,⟨3,⟨1,⟨false,.pi⟩⟩⟩])⟩⟩⟩,⟨5,⟨1,⟨false,.pb⟩⟩⟩,⟨6,⟨1,⟨false,.pb⟩⟩⟩,⟨7,⟨1,⟨false,.pb⟩⟩⟩]) 19 23)) 255]) (.cond 24 (oN [zo 4 (.mv (.const (.bool false)))] .ret) .skip)))) (.ops [zo 25 (.arith .add 13 (zc 1)),zm 13 25]))))))) (oN [zo 4 (.mv (.const (.bool true)))] .ret))))
noncomputable def ahO:CF:=NF (cd 173 8) _
noncomputable def ahP:CF:=NF (cd 174 8) _
def ahR (F:Nat->FuncId)(T:Nat->TypeId):AC:=(oN [zo 4 (.mv (.const (.bool false)))] (.seq (oN [zm 6 0,zo 7 (.lenS 6),zm 8 1,zo 9 (.lenS 8),zo 10 (.eql true .pi 7 9)] (.cond 10 (oN [zo 4 (.mv (.const (.bool false)))] .ret) .skip)) (.seq (oN [zm 11 0,zo 12 (.lenS 11),zo 13 (.mv (zc 0))] (.block 0 (.loop (oN [zo 14 (.arith .lss 13 12)] (.seq (.cond 14 .skip (.exit 0)) (.seq (.block 1 (oN [zm 15 13,zm 5 15] (.seq (.drawn 0 [zp (zm 16 0) 0,zp (zm 17 5) 0,zp (zo 18 (.iaddrS 4 16 17)) 3,zr (zo 19 (.load true 4 18)) 0 0 7,zp (zm 20 1) 0,zp (zm 21 5) 0,zp (zo 22 (.iaddrS 4 20 21)) 48,zr (zo 23 (.load true 4 22)) 0 0 112,zp (zo 24 (.eql true (.agg [⟨0,⟨1,⟨false,.pi⟩⟩⟩,⟨1,⟨1,⟨false,.pi⟩⟩⟩,⟨2,⟨1,⟨false,.pi⟩⟩⟩,⟨3,⟨1,⟨false,.pi⟩⟩⟩]) 19 23)) 255]) (.cond 24 (oN [zo 4 (.mv (.const (.bool false)))] .ret) .skip)))) (.ops [zo 25 (.arith .add 13 (zc 1)),zm 13 25]))))))) (oN [zo 4 (.mv (.const (.bool true)))] .ret))))
def ahS (F:Nat->FuncId)(T:Nat->TypeId):AC:=(oN [zo 4 (.mv (.const (.bool false)))] (.seq (oN [zm 6 0,zo 7 (.lenS 6),zm 8 1,zo 9 (.lenS 8),zo 10 (.eql true .pi 7 9)] (.cond 10 (oN [zo 4 (.mv (.const (.bool false)))] .ret) .skip)) (.seq (oN [zm 11 0,zo 12 (.lenS 11),zo 13 (.mv (zc 0))] (.block 0 (.loop (oN [zo 14 (.arith .lss 13 12)] (.seq (.cond 14 .skip (.exit 0)) (.seq (.block 1 (oN [zm 15 13,zm 5 15] (.seq (.drawn 0 [zp (zm 16 0) 0,zp (zm 17 5) 0,zp (zo 18 (.iaddrS 2 16 17)) 3,zr (zo 19 (.load true 2 18)) 0 0 7,zp (zm 20 1) 0,zp (zm 21 5) 0,zp (zo 22 (.iaddrS 2 20 21)) 48,zr (zo 23 (.load true 2 22)) 0 0 112,zp (zo 24 (.eql true (.agg [⟨0,⟨1,⟨false,.pi⟩⟩⟩,⟨1,⟨1,⟨false,.pi⟩⟩⟩]) 19 23)) 255]) (.cond 24 (oN [zo 4 (.mv (.const (.bool false)))] .ret) .skip)))) (.ops [zo 25 (.arith .add 13 (zc 1)),zm 13 25]))))))) (oN [zo 4 (.mv (.const (.bool true)))] .ret))))
structure BaseAs (P:Program)(K:Orc)(F:Nat->FuncId)(T:Nat->TypeId):Prop where
 ajy:FnK P K (F 411) 85 [(.tmp 4)] (ahp F T)
 ajI:FnK P K (F 431) 8 [(.tmp 4)] (ahz F T)
 ajJ:FnK P K (F 432) 32 [(.tmp 6)] (ahA F T)
 ajK:FnK P K (F 433) 8 [(.tmp 4)] (ahB F T)
 ajL:FnK P K (F 434) 26 [(.cell 2<|T 431)] (ahC F T)
 ajM:FnK P K (F 435) 8 [(.tmp 4)] (ahD F T)
 ajN:FnK P K (F 436) 32 [(.tmp 6)] (ahE F T)
 ajO:FnK P K (F 437) 101 [(.tmp 4)] (ahF F T)
 ajP:FnK P K (F 438) 32 [(.tmp 6)] (ahG F T)
 ajQ:FnK P K (F 440) 38 [(.tmp 4)] (ahH F T)
 ajV:FnK P K (F 454) 26 [(.tmp 4)] (ahM F T)
 ajW:FnK P K (F 455) 26 [(.tmp 4)] (ahN F T)
 ajX:FnK P K (F 456) 8 [(.tmp 4)] (ahO F T)
 ajY:FnK P K (F 457) 8 [(.tmp 4)] (ahP F T)
 aj0:FnK P K (F 465) 26 [(.tmp 4)] (ahR F T)
 aj1:FnK P K (F 466) 26 [(.tmp 4)] (ahS F T)
noncomputable def ahl:CF:=NF (cd 39 8) _
noncomputable def ahy:CF:=NF (cd 93 35) _
noncomputable def ahL:CF:=NF (cd 170 35) _
noncomputable def ahQ:CF:=NF (cd 230 4) _
noncomputable def ahT:CF:=NF (cd 265 36) _
structure BaseAb (P:Program)(K:Orc)(F:Nat->FuncId)(T:Nat->TypeId):Prop where
 f343:FnK P K (F 343) 8 [] (ahl F T)
 ajH:FnK P K (F 430) 35 [(.tmp 4)] (ahy F T)
 ajU:FnK P K (F 453) 35 [(.cell 4<|T 41),(.cell 5<|T 27)] (ahL F T)
 ajZ:FnK P K (F 464) 4 [(.tmp 2)] (ahQ F T)
 aj2:FnK P K (F 469) 36 [] (ahT F T)
@[reducible] def SD.cast (d:SD)(it:ID)(n:Int):SD:={ d with ck:=it.kind,co:=it.obj,ca:=it.Tk,ct:=it.tg,py:=decide (n=1) }
theorem adF (hB:Base P K F T)(hA:BaseAc P K F T){bw:Nat}{d:SD}{t:SH}(hs:WH bw d t s){k a b n m:Int}{it:ID}(hk:Kv t it.tv it.tg)(hkl:it.tg.length<=901000) :
  bB P K (F 283) [.ptr (some ⟨bw,0,0⟩),.agg<|cr k a b n m it] s (λ_ s'=>WH bw (d.cast it n) t s'):=by
 obtain⟨pv,ov,lv,hv,gv,ev,fv,sv,wv,kv,nn,k1,k2⟩:=hs
 refine bB.perm k1.symm ?_
 refine hA.f283.cF ?_
 unfold ahk
 have q7:=hk.mono (s':=(bw,HO.r false [d.cells pv ov lv hv gv ev fv sv wv kv] 25)::(nn++t)) λp hp=>by simp[hp]
 refine Vr (k:=λb3=>Vr (k:=Ww<|W1 (aa3 hB (q7.mono λp hp=>List.mem_cons_of_mem _ hp) hkl) ?_))
 rintro w _ ⟨tv,og,j,rfl,hg,rfl⟩
 refine Vr (k:=λb4=>Ww<|WS.st<|Wn ?_)
 have Si:=hg.gr.part
 refine Vr (k:=?_)
 refine Wr (.build (by simp only[bparts,aI,opl,lk,Si];rfl) rfl)<|Vk (k:=Ww<|WS.st<|Wn<|Wm .nil ?_)
 obtain⟨r,hr⟩:=k2.ah2
 obtain⟨j2,e1,e2⟩:=hr tv it.tg og hg
 have fin:∀q1 q2:Nat × HO,WH bw (d.cast it n) t ((q1::(og++j))++(q2::(bw,.r false [(d.cast it n).cells pv ov lv hv gv ev fv sv wv tv] 25)::(nn++t))):=λq1 q2=>
  ⟨pv,ov,lv,hv,gv,ev,fv,sv,wv,tv,([q1,q2]++j)++(og++(r++j2)),ak λc w h0 h1 h2 hq=>by simp only[h1,h2,h0,hq _ _ e1];omega,(show iJ _ pv ov lv hv gv ev fv sv wv tv (d.cast it n) from⟨(e2.bK).ex⟩)⟩
 exact fin _ _
theorem abH (hB:Base P K F T)(hA:BaseAc P K F T){a b n m:Int}{it:ID}{d:SD}(hd:d.Small)(he:d.kQ)(hkl:it.tg.length<=901000)(lm:∀s,Kv s it.tv it.tg->bB P K (F 201) [.agg (cr 28 a b n m it)] s (λv s'=>v=iv 0/\s'=s)) :
  Ap P K F 28 a b n m it d (d.cast it n):=
 aav (k:=28) hB hd lm (acu hB<|by simp) (λ{_ _ _ _ v} hv hW=>by
  cases (show uH F _ v false false false 283 from hv)
  exact adu hB hW hd he (k:=28) (by omega) (by omega) (by omega) (by omega)) (λ{_ _ _ _ _ _ _} hv hW hkv=>by
  cases (show uH F _ _ false false false 283 from hv)
  exact c6.func (adF hB hA hW hkv hkl))

end
end Go.Ev
