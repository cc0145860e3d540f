/- Walks and rules. Conditions: none. -/
import Derived.Test.YtbgjkfbeofbngaaGreatEvG
import Derived.ChangeSame
set_option linter.unusedVariables false
set_option linter.unusedSectionVars false
namespace Go.Ev
variable [Sg]
def Out (k:V->FH->Bool)(fr:sw)(r:Option (AV × Heap)):Prop:=∃a v h' H',r=some (a,H')/\VA v a/\cj h' H'/\h'.fr=fr/\k v h'=true
section
variable {P:Program}{nt:Nat}{e:Env}{E:Tr AV}{h:FH}{H:Heap}{ih:bT}{k:V->FH->Bool}
theorem Out.same {a:AV}{v:V}{r:Option (AV × Heap)}(hH:cj h H)(hr:r=some (a,H))(hv:VA v a)(hk:k v h=true):Out k h.fr r:=⟨a,v,h,H,hr,hv,hH,rfl,hk⟩
theorem aP {l:List Operand}(h:gG nt l=true){x:Operand}(hx:x∈l):ez nt x=true:=(gI _ _).1 h x hx
theorem eD (hE:ij nt e E){l:List Operand}(hx:gG nt l=true):∀y∈l,∀u,gZ e y=some u->bL E y=some u:=by
 intro y hy u hu
 obtain⟨a,ha,hv⟩:=a7 hE<|aP hx hy
 rw[ha,eM hv hu]
theorem fE (hH:cj h H){op:AOp}(hm:∀{a:AV}{H0:Heap},aval P bW (gZ e) op=some (a,H0)->aval P H (bL E) op=some (a,H))(hk:aE (aval P bW (gZ e) op) (λr=>k (mkV r.1) h)=true) :
  Out k h.fr (aval P H (bL E) op):=by
 obtain⟨r,h1,h2⟩:=aY hk
 exact .same hH (hm h1) (VA.mkV _) h2
noncomputable def BC (ρ:Operand->Option AV)(p:Nat × Nat × Operand):Option (Nat × List AV):=match ρ p.2.2 with
 | some v=>match partCells p.2.1 v with | some cs=>some (p.1,cs) | none=>none
 | none=>none
theorem yR (H:Heap)(ρ:Operand->Option AV)(z:List AV)(parts:List (Nat × Nat × Operand)):aval P H ρ (.build z parts)=match aI (BC ρ) parts with
  | some l=>match mM z l with | some cs=>some (.agg cs,H) | none=>none
  | none=>none:=rfl
theorem tH {ρ:Operand->Option AV}{x:Operand}{a:AV}{H':Heap}(h3:aval P H ρ (.nilchk x)=some (a,H')):ρ x=some a:=by
 simp only[aval]at h3
 grind
theorem elemAt_rows {b n:Nat}:∀(sz:Nat),1<=sz->elemAt ⟨b,0,0⟩ sz sz n=some ⟨b,n,0⟩:=by
 intro sz hs
 match sz,hs with
 | k+1,_=>
  have e:elemAt ⟨b,0,0⟩ (k+1) (k+1) n=(match Nat.beq (k+1) (k+1)with | true=>(match Nat.beq 0 0 with | true=>some (⟨b,Nat.add 0 n,0⟩:Pl) | false=>none) | false=>none):=rfl
  simp_all
theorem VA.oe {v:V}{a:AV}(hv:VA v a)(ht:v.t=16):∃r T N row,a=.ptr (some ⟨v.c,v.e,v.b⟩)/\v.r=[r]/\v.c<262144/\Sg.iK v.d=.rows T N v.f true/\v.e<N/\T.get v.e=some row/\row.length=v.f/\v.a+v.f<=4180 /\
  ∀i x,row[i]?=some x->VA (atR (v.a+i) r) x:=by
 cases hv with
 | pf h hr hb T N hB he row hT hrow hl hv=>
  refine⟨_,T,N,row,rfl,hr,hb,hB,he,hT,hrow,hl,λi x hx=>?_⟩
  grind
 | oH k _ _ _ _ _ _ _=>grind
 | te k _ _ _ _ _ _ _ _ _ _ _ _ _ _ _ _ _ _ _=>grind
 | sym k _ _ _ _ _=>grind
 | bits k _ _ _ _ _=>grind
 | _=>simp_all
theorem VA.rk {v:V}{a:AV}(hv:VA v a)(ht:v.t=15):∃r n cap T N cs,a=.slice (some ⟨v.f,0,0⟩) n cap false (v.e/2)/\v.r=[r]/\v.f<262144/\Sg.num v.a=((n:Nat):Int)/\Sg.num (v.a+1)=((cap:Nat):Int)/\v.b<=n/\(v.e%2=1->n=v.b)/\n<9223372036854775808/\Sg.iK v.d=.rows T N (v.e/2) true/\v.c<=N/\v.c<=n /\
  (∀i,i<v.c->T.get i=some (cs i))/\(∀i,i<v.c->((cs:Nat->List AV) i).length=v.e/2)/\v.c*(v.e/2)<=4180/\∀i,i<v.c->∀j x,(cs i)[j]?=some x->VA (atR (i*(v.e/2)+j) r) x:=by
 cases hv with
 | te h hr hb n cap hn hc hlo hhi pj T N hB hk hkn cs hT hrow hl hv=>
  refine⟨_,n,cap,T,N,cs,rfl,hr,hb,hn,hc,hlo,hhi,pj,hB,hk,hkn,hT,hrow,hl,λi hi j x hx=>?_⟩
  grind
 | oH k _ _ _ _ _ _ _=>grind
 | pf k _ _ _ _ _ _ _ _ _ _ _=>grind
 | sym k _ _ _ _ _=>grind
 | bits k _ _ _ _ _=>grind
 | _=>simp_all
variable (hE:ij nt e E)(hH:cj h H)
include hE hH
theorem Vg {x:Operand}(hx:gG nt [x]=true)(hk:(aiE x).run ih e h k=true):Out k h.fr (aval P H (bL E) (.mv x)):=by
 obtain⟨a,ha,hv⟩:=a7 hE<|aP hx<|List.mem_cons_self ..
 exact .same hH (by simp only[aval,ha]<;>rfl) hv hk
theorem Jv {c x y:Operand}(hx:gG nt [c,x,y]=true)(hk:(DW c x y).run ih e h k=true):Out k h.fr (aval P H (bL E) (.pick c x y)):=by
 obtain⟨ac,hac,A5⟩:=a7 hE<|aP hx (x:=c)<|by simp
 obtain⟨ax,dS,dg⟩:=a7 hE<|aP hx (x:=x)<|by simp
 obtain⟨ay,IK,uC⟩:=a7 hE<|aP hx (x:=y)<|by simp
 have hk:gj ((fx c).get e) (k ((fx x).get e) h) (k ((fx y).get e) h)=true:=hk
 rcases kF A5 hk with⟨rfl,hk⟩|⟨rfl,hk⟩
 ·exact .same hH (by simp only[aval,hac,dS]<;>rfl) dg hk
 ·exact .same hH (by simp only[aval,hac,IK]<;>rfl) uC hk
theorem Bt {op:BinOp}{x y:Operand}(hx:gG nt [x,y]=true)(hk:(xW op x y).run ih e h k=true):Out k h.fr (aval P H (bL E) (.arith op x y)):=by
 obtain⟨ax,dS,dg⟩:=a7 hE<|aP hx (x:=x)<|by simp
 obtain⟨ay,IK,uC⟩:=a7 hE<|aP hx (x:=y)<|by simp
 obtain⟨r,v,h1,h2,h3⟩:=H8 (op:=op) (f:=λv=>k v h) dg uC hk
 exact .same hH (by simp only[aval,dS,IK,h1]<;>rfl) h2 h3
theorem N2 {neg:Bool}{p:dC}{x y:Operand}(hx:gG nt [x,y]=true)(hk:(KX neg p x y).run ih e h k=true):Out k h.fr (aval P H (bL E) (.eql neg p x y)):=by
 obtain⟨ax,dS,dg⟩:=a7 hE<|aP hx (x:=x)<|by simp
 obtain⟨ay,IK,uC⟩:=a7 hE<|aP hx (x:=y)<|by simp
 obtain⟨r,v,h1,h2,h3⟩:=Io (neg:=neg) (p:=p) (f:=λv=>k v h) dg uC hk
 refine .same hH ?_ h2 h3
 simp only[aval,dS,IK,h1]
 cases neg<;>rfl
theorem VM {op:UnOp}{x:Operand}(hx:gG nt [x]=true)(hk:(Vl P op x).run ih e h k=true):Out k h.fr (aval P H (bL E) (.un op x)):=by
 obtain⟨ax,dS,dg⟩:=a7 hE<|aP hx (x:=x)<|by simp
 cases op with
 | not=>
  have hk:gj ((fx x).get e) (k vF h) (k vT h)=true:=hk
  rcases kF dg hk with⟨rfl,hk⟩|⟨rfl,hk⟩
  ·exact .same hH (by simp only[aval,dS];rfl) (VA.bool false) hk
  ·exact .same hH (by simp only[aval,dS];rfl) (VA.bool true) hk
 | neg=>
  have hk:af (Nat.beq ((fx x).get e).t 12) (aE (oS<|(fx x).get e) λv=>k v h) (aE (aval P bW (gZ e)<|.un .neg x) λr=>k (mkV r.1) h)=true:=hk
  rcases aJ hk with⟨_,hk⟩|⟨_,hk⟩
  ·obtain⟨w,h1,hk⟩:=aY hk
   obtain⟨m,rfl,h2,h3⟩:=qm dg h1
   refine .same hH ?_ h2 hk
   have e1:unV .neg (.int .i64 m)=some (.int .i64<|-m):=by
    show mkI .i64 (0-m)=_
    rw[Int.zero_sub,kD h3]
   simp only[aval,dS,e1]<;>rfl
  ·exact fE hH (KA<|eD hE hx) hk
 | _=>exact fE hH (KA<|eD hE hx) hk
theorem BZ {q:IntKind}{x:Operand}(hx:gG nt [x]=true)(hk:(xX P q x).run ih e h k=true):Out k h.fr (aval P H (bL E) (.convI q x)):=by
 obtain⟨ax,dS,dg⟩:=a7 hE<|aP hx (x:=x)<|by simp
 have hk:af (Nat.blt 11 ((fx x).get e).t) (aE (symConv q<|(fx x).get e) λv=>k v h) (aE (aval P bW (gZ e)<|.convI q x) λr=>k (mkV r.1) h)=true:=hk
 rcases aJ hk with⟨_,hk⟩|⟨_,hk⟩
 ·obtain⟨w,h1,hk⟩:=aY hk
  obtain⟨kk,n,rfl,h2,h3⟩:=wP dg h1
  exact .same hH (by simp only[aval,dS,h2]<;>rfl) h3 hk
 ·exact fE hH (Cn<|eD hE hx) hk
theorem Vf {mx:Bool}{args:List Operand}(hx:gG nt args=true)(hk:(Vj P mx args).run ih e h k=true):Out k h.fr (aval P H (bL E) (.minmax mx args)):=by
 have hk:af (Kn<|iG args e) (aE (Qm mx<|iG args e) λv=>k v h) (aE (aval P bW (gZ e)<|.minmax mx args) λr=>k (mkV r.1) h)=true:=hk
 rcases aJ hk with⟨_,hk⟩|⟨_,hk⟩
 ·obtain⟨w,h1,hk⟩:=aY hk
  obtain⟨as,ha,hv⟩:=lj hE hx
  obtain⟨a,l,r,rfl,h2,h3⟩:=mmSy_ok hv h1
  exact .same hH (by simp only[aval,ha,h2]<;>rfl) h3 hk
 ·exact fE hH (zu<|eD hE hx) hk
theorem Ab {x:Operand}(hx:gG nt [x]=true)(hk:(tR P x).run ih e h k=true):Out k h.fr (aval P H (bL E) (.nilchk x)):=by
 obtain⟨ax,dS,dg⟩:=a7 hE<|aP hx (x:=x)<|by simp
 have hk:af (Nat.beq ((fx x).get e).t 4) (k ((fx x).get e) h) (af (Nat.beq ((fx x).get e).t 8) (k ((fx x).get e) h)<|aE (aval P bW (gZ e)<|.nilchk x) λ_=>k ((fx x).get e) h)=true:=hk
 rcases aJ hk with⟨hb,hk⟩|⟨_,hk⟩
 ·obtain⟨rfl,_⟩:=dg.C0 (ag hb)
  exact .same hH (by simp only[aval,dS]<;>rfl) dg hk
 ·rcases aJ hk with⟨hb,hk⟩ | ⟨_,hk⟩
  ·obtain⟨r,xs,ys,rfl,_⟩:=dg.Zj (ag hb)
   exact .same hH (by simp only[aval,dS]<;>rfl) dg hk
  ·obtain⟨r,h1,h2⟩:=aY hk
   have h3:=zw (H:=H) (eD hE hx) h1
   refine .same hH h3 ?_ h2
   have:=tH h3
   grind
theorem Jk {f:FuncId}{x y:List Operand}(hx:gG nt (bI x y)=true)(hk:(wm f x y).run ih e h k=true):Out k h.fr (aval P H (bL E) (.mkfn f x y)):=by
 rw[aN]at hx
 have fe:gG nt x=true:=(gI _ _).2 λz hz=>aP hx<|List.mem_append_left _ hz
 have iI:gG nt y=true:=(gI _ _).2 λz hz=>aP hx<|List.mem_append_right _ hz
 obtain⟨as,ha,CS⟩:=lj hE fe
 obtain⟨bs,hb,U0⟩:=lj hE iI
 unfold wm at hk
 split at hk
 ·rename_i hl
  have hl:aK x+aK y<=4180:=aj.1 hl
  have la:as.length=aK x:=by rw[ar];exact(gJ ha).1
  have lb:bs.length=aK y:=by rw[ar];exact(gJ hb).1
  refine .same (v:=R1 f (aK x) (aK y)<|rowV<|bI (iG x e)<|iG y e) hH (by simp only[aval,ha,hb]<;>rfl) ?_ hk
  have hr:∀(i:Nat)(c:AV),(as++bs)[i]?=some c->VA (atR i<|rowV<|bI (iG x e)<|iG y e) c:=by
   intro i c hc
   rw[aN]
   have:=(CS.append U0).row (o:=0) (r:=cT) (by grind) i c hc
   rwa [Nat.zero_add]at this
  refine VA.Ve la lb hl (λi c hc=>hr i c ?_)<|λi c hc=>hr _ c ?_
  ·grind
  grind
 ·cases hk
theorem Cc {off:Nat}{x:Operand}(hx:gG nt [x]=true)(hk:(xY off x).run ih e h k=true):Out k h.fr (aval P H (bL E) (.faddr off x)):=by
 obtain⟨ax,dS,dg⟩:=a7 hE<|aP hx (x:=x)<|by simp
 have hk:af (Nat.beq ((fx x).get e).t 4) (k (vP ((fx x).get e).c ((fx x).get e).b (Nat.add ((fx x).get e).a off)) h) (af (Nat.beq ((fx x).get e).t 16) (k (Cj ((fx x).get e) off) h) false)=true:=hk
 rcases aJ hk with⟨hb,hk⟩|⟨_,hk⟩
 ·obtain⟨rfl,hlt⟩:=dg.C0 (ag hb)
  exact .same hH (by simp only[aval,dS]<;>rfl) (VA.Sm hlt) hk
 ·obtain⟨hb,hk⟩:=au hk
  obtain⟨r,T,N,row,rfl,hr,hb',hB,he,hT,hrow,hl,hcell⟩:=dg.oe<|ag hb
  refine .same hH (by simp only[aval,dS]<;>rfl) ?_ hk
  exact .pf (v:=Cj ((fx x).get e) off) (r:=r) rfl hr hb' T N hB he row hT hrow hl<|λi hi=>hcell i _<|List.getElem?_eq_getElem hi
theorem N8 {off n:Nat}{g:Bool}{x:Operand}(hx:gG nt [x]=true)(hk:(KY off n g x).run ih e h k=true):Out k h.fr (aval P H (bL E) (.fld off n g x)):=by
 obtain⟨ax,dS,dg⟩:=a7 hE<|aP hx (x:=x)<|by simp
 cases g with
 | true=>
  have hk:af (aU (Nat.beq ((fx x).get e).t 9)<|Nat.ble (Nat.add off n) ((fx x).get e).b) (c9 ((fx x).get e).r λr=>k (vAgg r (Nat.add ((fx x).get e).a off) n) h) false=true:=hk
  obtain⟨hb,hk⟩:=au hk
  obtain⟨h1,h2⟩:=aW hb
  obtain⟨cs,r,rfl,hr,hc,hl,hcell⟩:=dg.A8<|ag h1
  have hk:=dW hk hr
  have h2:off+n<=_:=aj.1 h2
  have hp:part true cs off n=some (.agg<|(cs.drop off).take n):=by
   unfold part
   rw[cw,RO<|by grind]
  refine .same hH (by simp only[aval,dS,hp]<;>rfl) ?_ hk
  refine VA.pV (by grind) (by grind)<|λi c hi=>?_
  grind
 | false=>
  have hk:af (aU (Nat.beq ((fx x).get e).t 9)<|Nat.blt off ((fx x).get e).b) (c9 ((fx x).get e).r λr=>j8 (Nat.add ((fx x).get e).a off) λo=>k (rg o r) h) false=true:=hk
  obtain⟨hb,hk⟩:=au hk
  obtain⟨h1,h2⟩:=aW hb
  obtain⟨cs,r,rfl,hr,hc,hl,hcell⟩:=dg.A8<|ag h1
  have hk:=dW hk hr
  rw[a6]at hk
  have h2:=aA.1 h2
  have hlt:off<cs.length:=by grind
  have hp:part false cs off n=some cs[off]:=by
   unfold part
   rw[cY,List.getElem?_eq_getElem hlt]
  refine .same hH (by simp only[aval,dS,hp]<;>rfl) ?_ hk
  rw[eX]
  grind
theorem zK {sz:Nat}{x i:Operand}(hx:gG nt [x,i]=true)(hk:(oG sz x i).run ih e h k=true):Out k h.fr (aval P H (bL E) (.iaddrS sz x i)):=by
 obtain⟨ax,dS,dg⟩:=a7 hE<|aP hx (x:=x)<|by simp
 obtain⟨ai,Px,P6⟩:=a7 hE<|aP hx (x:=i)<|by simp
 unfold oG at hk
 split at hk
 ·rename_i hsz
  obtain⟨s1,s2⟩:=(Bool.and_eq_true _ _).mp hsz
  have s1:=aj.1 s1
  have s2:=aj.1 s2
  have hk:af (Nat.beq ((fx x).get e).t 5) (dk ((fx i).get e) λn=>af (Nat.blt n ((fx x).get e).c)
    (mL ((fx x).get e).f ((fx x).get e).e ((fx x).get e).d (Nat.div ((fx x).get e).a 2) sz n λr o=>k (vP ((fx x).get e).f r o) h) false) (af (aU (Nat.beq ((fx x).get e).t 15) (Nat.beq (Nat.div ((fx x).get e).e 2) sz)) (dk ((fx i).get e) λn=>af (Nat.blt n ((fx x).get e).c) (k (Oa ((fx x).get e) sz n) h) false) false)=true:=hk
  rcases aJ hk with⟨hb,hk⟩|⟨_,hk⟩
  rotate_left
  ·obtain⟨hb,hk⟩:=au hk
   obtain⟨hb,hs⟩:=aW hb
   have hs:((fx x).get e).e/2=sz:=ag hs
   obtain⟨r,n0,cap,T,N,cs,rfl,hr,hb',hn,hc,hlo,hhi,pj,hB,hkN,hkn,hT,hrow,hl,hcell⟩:=dg.rk<|ag hb
   obtain⟨n,rfl,hk⟩:=ek P6 hk
   obtain⟨hn,hk⟩:=au hk
   have hn:n<((fx x).get e).c:=aA.1 hn
   rw[hs]at hB hrow hl hcell
   have hmul:n*sz+sz<=((fx x).get e).c*sz:=by
    have:=Nat.mul_le_mul_right sz<|show n+1<=((fx x).get e).c from hn
    grind
   have IU:elemAt ⟨((fx x).get e).f,0,0⟩ (((fx x).get e).e/2) sz n=some ⟨((fx x).get e).f,n,0⟩:=by
    rw[hs]
    exact elemAt_rows _ s1
   refine .same hH (a:=.ptr<|some ⟨((fx x).get e).f,n,0⟩) ?_ ?_ hk
   ·simp only[aval,dS,Px,aA.2<|show n<n0 by omega,IU]
   ·refine .pf (v:=Oa ((fx x).get e) sz n) (r:=r) rfl hr hb' T N hB (show n<N by omega) (cs n) (hT n hn) (hrow n hn) (show n*sz+sz<=4180 by omega)<|λj hj=>hcell n hn j _<|List.getElem?_eq_getElem hj
  obtain⟨rfl,hlt⟩:=dg.A7<|ag hb
  obtain⟨n,rfl,hk⟩:=ek P6 hk
  obtain⟨hn,hk⟩:=au hk
  obtain⟨r',o',he,hk⟩:=nV hk s1 s2
  refine .same hH ?_ (VA.Sm hlt) hk
  have he:elemAt ⟨((fx x).get e).f,((fx x).get e).e,((fx x).get e).d⟩ (((fx x).get e).a/2) sz n=some ⟨((fx x).get e).f,r',o'⟩:=he
  simp only[aval,dS,Px,hn,he]
 ·cases hk
theorem zJ {len sz:Nat}{x i:Operand}(hx:gG nt [x,i]=true)(hk:(tQ len sz x i).run ih e h k=true):Out k h.fr (aval P H (bL E) (.iaddrA len sz x i)):=by
 obtain⟨ax,dS,dg⟩:=a7 hE<|aP hx (x:=x)<|by simp
 obtain⟨ai,Px,P6⟩:=a7 hE<|aP hx (x:=i)<|by simp
 have hk:af (Nat.beq ((fx x).get e).t 4) (dk ((fx i).get e) λn=>af (Nat.blt n len) (k (vP ((fx x).get e).c ((fx x).get e).b (Nat.add ((fx x).get e).a (Nat.mul n sz))) h) false) false=true:=hk
 obtain⟨hb,hk⟩:=au hk
 obtain⟨rfl,hlt⟩:=dg.C0<|ag hb
 obtain⟨n,rfl,hk⟩:=ek P6 hk
 obtain⟨hn,hk⟩:=au hk
 exact .same hH (by simp only[aval,dS,Px,hn];rfl) (VA.Sm hlt) hk
theorem I2 {len sz:Nat}{g:Bool}{x i:Operand}(hx:gG nt [x,i]=true)(hk:(DN len sz g x i).run ih e h k=true):Out k h.fr (aval P H (bL E) (.idxA len sz g x i)):=by
 obtain⟨ax,dS,dg⟩:=a7 hE<|aP hx (x:=x)<|by simp
 obtain⟨ai,Px,P6⟩:=a7 hE<|aP hx (x:=i)<|by simp
 cases g with
 | true=>
  have hk:af (Nat.beq ((fx x).get e).t 9) (dk ((fx i).get e) λn=>af (aU (Nat.blt n len)<|Nat.ble (Nat.add (Nat.mul n sz) sz) ((fx x).get e).b) (c9 ((fx x).get e).r λr=>k (vAgg r (Nat.add ((fx x).get e).a (Nat.mul n sz)) sz) h) false) false=true:=hk
  obtain⟨hb,hk⟩:=au hk
  obtain⟨cs,r,rfl,hr,hc,hl,hcell⟩:=dg.A8<|ag hb
  obtain⟨n,rfl,hk⟩:=ek P6 hk
  obtain⟨hn,hk⟩:=au hk
  obtain⟨h1,h2⟩:=aW hn
  have hk:=dW hk hr
  have h2:n*sz+sz<=_:=aj.1 h2
  have hp:part true cs (Nat.mul n sz) sz=some (.agg<|(cs.drop<|n*sz).take sz):=by
   unfold part
   rw[cw]
   exact congrArg (λz=>match z with | some l=>some (AV.agg l) | none=>none)<|RO (by rw[List.length_drop];show sz<=cs.length-n*sz;omega)
  refine .same hH (by simp only[aval,dS,Px,h1,hp]<;>rfl) ?_ hk
  refine VA.pV (by grind) (by grind)<|λi c hi=>?_
  grind
 | false=>
  have hk:af (Nat.beq ((fx x).get e).t 9) (dk ((fx i).get e) λn=>af (aU (Nat.blt n len)<|Nat.blt (Nat.mul n sz) ((fx x).get e).b) (c9 ((fx x).get e).r λr=>j8 (Nat.add ((fx x).get e).a (Nat.mul n sz)) λo=>k (rg o r) h) false) false=true:=hk
  obtain⟨hb,hk⟩:=au hk
  obtain⟨cs,r,rfl,hr,hc,hl,hcell⟩:=dg.A8<|ag hb
  obtain⟨n,rfl,hk⟩:=ek P6 hk
  obtain⟨hn,hk⟩:=au hk
  obtain⟨h1,h2⟩:=aW hn
  have hk:=dW hk hr
  rw[a6]at hk
  have h2:n*sz<_:=aA.1 h2
  have hlt:n*sz<cs.length:=by grind
  have hp:part false cs (Nat.mul n sz) sz=some cs[n*sz]:=by
   unfold part
   rw[cY]
   grind
  refine .same hH (by simp only[aval,dS,Px,h1,hp]<;>rfl) ?_ hk
  rw[eX]
  exact hcell (n*sz) _<|List.getElem?_eq_getElem hlt
theorem ve {x:Operand}{i:Nat}(hx:gG nt [x]=true)(hk:(qe x i).run ih e h k=true):Out k h.fr (aval P H (bL E) (.extract x i)):=by
 obtain⟨ax,dS,dg⟩:=a7 hE<|aP hx (x:=x)<|by simp
 have hk:af (aU (Nat.beq ((fx x).get e).t 10)<|Nat.blt i ((fx x).get e).b) (c9 ((fx x).get e).r λr=>k ((da i).g V r) h) false=true:=hk
 obtain⟨hb,hk⟩:=au hk
 obtain⟨h1,h2⟩:=aW hb
 obtain⟨cs,r,rfl,hr,hc,hl,hcell⟩:=dg.Zi<|ag h1
 have hk:=dW hk hr
 have hlt:i<cs.length:=by rw[hc];exact aA.1 h2
 have hp:dJ cs i=some cs[i]:=by rw[cY,List.getElem?_eq_getElem hlt]
 refine .same hH (by simp only[aval,dS,hp]<;>rfl) ?_ hk
 rw[(dr i V).1]
 grind
omit hE hH in
theorem zR {H:Heap}{ρ:Operand->Option AV}{x:Operand}{f sz m:Nat}(h:ρ x=some (oslA f sz m)):aval P H ρ (.lenS x)=some (.int .i64 (.ofNat m),H):=by
 cases m<;>(simp only[aval,h,oslA])
theorem Jc {x:Operand}(hx:gG nt [x]=true)(hk:(DT P x).run ih e h k=true):Out k h.fr (aval P H (bL E) (.lenS x)):=by
 obtain⟨ax,dS,dg⟩:=a7 hE<|aP hx (x:=x)<|by simp
 have hk:af (aU (Nat.beq ((fx x).get e).t 5)<|Nat.blt ((fx x).get e).c ae) (k (vI<|Nat.add ((fx x).get e).c ae) h) (af (Nat.beq ((fx x).get e).t 15) (k (Kx<|(fx x).get e) h)<|af (Nat.beq ((fx x).get e).t 17) (k (Ky<|(fx x).get e) h)<|aE (aval P bW (gZ e)<|.lenS x) λr=>k (mkV r.1) h)=true:=hk
 rcases aJ hk with⟨hb,hk⟩|⟨_,hk⟩
 rotate_left
 ·rcases aJ hk with⟨hb,hk⟩ | ⟨_,hk⟩
  ·obtain⟨r,n,cap,T,N,cs,rfl,hr,hb',hn,hc,hlo,hhi,pj,_⟩:=dg.rk (ag hb)
   refine .same hH (a:=.int .i64<|.ofNat n) (by simp only[aval,dS]<;>rfl) ?_ hk
   have lN:ae=4611686018427387904:=rfl
   refine VA.xP rfl rfl ?_ ?_ ?_ ?_ rfl
   ·show Sg.num ((fx x).get e).a+((ae:Int)-ae)=_
    grind
   ·show((((fx x).get e).b+(ae+ae):Nat):Int)-2*ae<=(n:Int)
    omega
   ·show(n:Int)<=((Bool.rec (motive:=λ_=>Nat) 18446744073709551615 (((fx x).get e).b+(ae+ae)) (Nat.beq (((fx x).get e).e%2) 1):Nat):Int)-2*ae
    cases hq:Nat.beq (((fx x).get e).e%2) 1 with
    | true=>
     simp_all
    | false=>
     grind
   ·show(Bool.rec (motive:=λ_=>Nat) 18446744073709551615 (((fx x).get e).b+(ae+ae)) (Nat.beq (((fx x).get e).e%2) 1):Nat)<18446744073709551616
    cases hq:Nat.beq (((fx x).get e).e%2) 1 with
    | true=>grind
    | false=>grind
  rcases aJ hk with⟨hb,hk⟩|⟨_,hk⟩
  ·obtain⟨n,rfl,hb',hn,hlo,hhi,pj,hm2⟩:=dg.xJ (ag hb)
   have lN:ae=4611686018427387904:=rfl
   have ha:aval P H (bL E) (.lenS x)=some (.int .i64<|.ofNat<|n+((fx x).get e).b,H):=zR dS
   refine .same hH ha ?_ hk
   refine VA.xP rfl rfl ?_ ?_ ?_ ?_ rfl
   ·show Sg.num ((fx x).get e).a+(((ae+((fx x).get e).b:Nat):Int)-ae)=((n+((fx x).get e).b:Nat):Int)
    grind
   ·show(((((fx x).get e).c+((fx x).get e).b)+(ae+ae):Nat):Int)-2*ae<=((n+((fx x).get e).b:Nat):Int)
    omega
   ·show((n+((fx x).get e).b:Nat):Int)<=(((((fx x).get e).d+((fx x).get e).b)+(ae+ae):Nat):Int)-2*ae
    omega
   ·show(((fx x).get e).d+((fx x).get e).b)+(ae+ae)<18446744073709551616
    omega
  ·exact fE hH (Ix<|eD hE hx) hk
 ·obtain⟨h1,h2⟩:=aW hb
  obtain⟨rfl,_⟩:=dg.A7<|ag h1
  refine .same hH (a:=.int .i64<|.ofNat ((fx x).get e).c) (by simp only[aval,dS]<;>rfl) ?_ hk
  have:=VA.mkI (kV<|aA.1 h2).1
  rw[nB]at this
  exact this
theorem Jb {x:Operand}(hx:gG nt [x]=true)(hk:(DQ P x).run ih e h k=true):Out k h.fr (aval P H (bL E) (.lenM x)):=by
 obtain⟨ax,dS,dg⟩:=a7 hE<|aP hx (x:=x)<|by simp
 have hk:af (Nat.beq ((fx x).get e).t 7) (j8 ((fx x).get e).a λb=>af (Nat.beq (hget b h).t 2) (k (mkV<|.int .i64<|.ofNat<|aK (hget b h).m) h) false) (af (Nat.beq ((fx x).get e).t 0) (aE (aval P bW (gZ e)<|.lenM x) λr=>k (mkV r.1) h) false)=true:=hk
 rcases aJ hk with⟨hb,hk⟩|⟨_,hk⟩
 ·obtain⟨rfl,hlt⟩:=dg.Qi (ag hb)
  rw[a6]at hk
  obtain⟨hb,hk⟩:=au hk
  have hm:=(hH.block _ hlt).map (ag hb)
  exact .same hH (by simp only[aval,dS,hm]<;>rfl) (VA.mkV _) hk
 ·obtain⟨_,hk⟩:=au hk
  exact fE hH (Iw<|eD hE hx) hk
theorem Jf {kk:dC}{z:AV}{ok:Bool}{m q:Operand}(hx:gG nt [m,q]=true)(hk:(DV P kk z ok m q).run ih e h k=true):Out k h.fr (aval P H (bL E) (.look kk z ok m q)):=by
 obtain⟨am,KB,P7⟩:=a7 hE<|aP hx (x:=m)<|by simp
 obtain⟨aq,KC,I0⟩:=a7 hE<|aP hx (x:=q)<|by simp
 have hk:af (Nat.beq ((fx m).get e).t 7)
    (j8 ((fx m).get e).a λb=>af (Nat.beq (hget b h).t 2) (aE (av<|(fx q).get e) λkv=>aE (lookInF kk kv (hget b h).m) λo=>k (mapVal (mkV z) ok o) h) false)
    (af (Nat.beq ((fx m).get e).t 0) (aE (aval P bW (gZ e)<|.look kk z ok m q) λr=>k (mkV r.1) h) false)=true:=hk
 rcases aJ hk with⟨hb,hk⟩|⟨_,hk⟩
 ·obtain⟨rfl,hlt⟩:=P7.Qi (ag hb)
  rw[a6]at hk
  obtain⟨hb,hk⟩:=au hk
  have hm:=(hH.block _ hlt).map (ag hb)
  obtain⟨kv,h1,hk⟩:=aY hk
  obtain⟨o,h2,hk⟩:=aY hk
  rw[ik,<- eM I0 h1]at h2
  have Sq:∀{v:AV}{w:V}{b:Bool}{u:V},VA w v->VA u (.bool b)->VA (oU (rowV [w,u]) 2) (.tuple [v,.bool b]):=by
   intro v w b u hw hu
   refine VA.tE rfl (by omega)<|λi c hc=>?_
   have:=(VAs.cons hw<|VAs.cons hu .nil).row (o:=0) (r:=cT) (by simp) i c hc
   rwa [Nat.zero_add]at this
  cases o with
  | none=>
   refine .same hH (a:=jp ok z false) (by simp only[aval,KB,KC,hm,h2]<;>rfl) ?_ hk
   cases ok with
   | true=>exact Sq (VA.mkV z)<|VA.bool false
   | false=>exact VA.mkV z
  | some v=>
   refine .same hH (a:=jp ok v true) (by simp only[aval,KB,KC,hm,h2]<;>rfl) ?_ hk
   cases ok with
   | true=>exact Sq (VA.mkV v)<|VA.bool true
   | false=>exact VA.mkV v
 ·obtain⟨_,hk⟩:=au hk
  exact fE hH (Iz<|eD hE hx) hk
theorem RM {sz:Nat}{x:Operand}{lo hi mx:Option Operand}(hx:gG nt (AOp.slc sz x lo hi mx).opers=true)(hk:(K0 P sz x lo hi mx).run ih e h k=true):Out k h.fr (aval P H (bL E) (.slc sz x lo hi mx)):=by
 cases mx with
 | none=>
  have hk:af (Nat.beq ((fx x).get e).t 5) (aE (aval P bW (gZ e)<|.slc sz x lo hi none) λr=>k (mkV r.1) h) (aE (aval P bW (gZ e)<|.slc sz x lo hi none) λr=>k (mkV r.1) h)=true:=hk
  rcases aJ hk with⟨_,hk⟩|⟨_,hk⟩<;>exact fE hH (Cp<|eD hE hx) hk
 | some m=>exact fE hH (Cp<|eD hE hx) hk
omit hE in
theorem t9 {b r o n:Nat}{f:R V->Bool}(hb:b<262144)(hk:rowAt h b r o n f=true):∃row,H.read ⟨b,r,o⟩ n=some ((row.drop o).take n)/\fQ (hget b h).sz (atR r (hget b h).rs) row/\o+n<=(hget b h).sz/\f (atR r (hget b h).rs)=true:=by
 unfold rowAt at hk
 rw[a6,a6]at hk
 obtain⟨hc,hk⟩:=au hk
 obtain⟨h1,h2⟩:=aW hc
 have h2:o+n<=(hget b h).sz:=aj.1 h2
 obtain⟨row,h3,h4⟩:=hH.read hb (aA.1 h1) h2
 rw[eX]at hk
 exact⟨row,h3,h4,h2,hk⟩
omit hE in
theorem xT {v:V}{a:AV}{n:Nat}{f:R V->Nat->Bool}(hv:VA v a)(hk:we v h n f=true):∃(row:List AV)(r:R V),a=.ptr (some ⟨v.c,v.e,v.b⟩)/\H.read ⟨v.c,v.e,v.b⟩ n=some ((row.drop v.b).take n)/\v.b+n<=row.length/\v.a+row.length<=4180 /\
  (∀i x,row[i]?=some x->VA (atR (v.a+i) r) x)/\f r (v.a+v.b)=true:=by
 unfold we at hk
 obtain⟨hc,hk⟩:=au hk
 obtain⟨h1,h2⟩:=aW hc
 obtain⟨h1,h3⟩:=aW h1
 obtain⟨h4,h5⟩:=aW h2
 have h4:(hget v.c h).lp.nt=v.d:=ag h4
 have h5:v.b+n<=v.f:=aj.1 h5
 obtain⟨r,T,N,row,rfl,hr,hb,hB,he,hT,hrow,hl,hcell⟩:=hv.oe<|ag h1
 have ho:=(hH.block v.c hb).DM (ag h3)
 rw[h4,hB]at ho
 have hk:=dW (f:=λr=>f r<|Nat.add v.a v.b) hk hr
 refine⟨row,r,rfl,?_,by omega,by omega,hcell,hk⟩
 unfold Heap.read
 simp only[ho,aA.2 he,hT,cw]
 exact RO (by rw[List.length_drop];omega)
omit hE in
theorem loadF_ok {n:Nat}{g:Bool}{x:Fx}{a:AV}(hv:VA (x.get e) a)(hk:(mS n g x).run ih e h k=true) :
  ∃p l u v,a=.ptr (some p)/\H.read p n=some l/\(match g with | true=>some (.agg l) | false=>(match l with | [v]=>some v | _=>none))=some u/\VA v u/\k v h=true:=by
 cases g with
 | true=>
  have hk:af (Nat.beq (x.get e).t 4) (rowAt h (x.get e).c (x.get e).b (x.get e).a n λrow=>k (vAgg row (x.get e).a n) h) (we (x.get e) h n λr o=>k (vAgg r o n) h)=true:=hk
  rcases aJ hk with⟨hb,hk⟩|⟨_,hk⟩
  ·obtain⟨rfl,hlt⟩:=hv.C0 (ag hb)
   obtain⟨row,h1,h2,h3,h4⟩:=t9 hH hlt hk
   exact⟨_,_,_,_,rfl,h1,rfl,h2.agg _ _ h3,h4⟩
  ·obtain⟨row,r,rfl,h1,h2,h3,h4,h5⟩:=xT hH hv hk
   refine⟨_,_,_,_,rfl,h1,rfl,?_,h5⟩
   refine VA.pV (by rw[List.length_take,List.length_drop];omega) (by omega) λi c hc=>?_
   have hi:i<n:=by
    have:=(List.getElem?_eq_some_iff.1 hc).1
    rw[List.length_take]at this
    omega
   rw[List.getElem?_take_of_lt hi,List.getElem?_drop]at hc
   rw[Nat.add_assoc]
   exact h4 _ _ hc
 | false=>
  match n,hk with
  | 0,hk=>cases hk
  | n+2,hk=>cases hk
  | 1,hk=>
   have hk:af (Nat.beq (x.get e).t 4) (rowAt h (x.get e).c (x.get e).b (x.get e).a 1 λrow=>j8 (x.get e).a λo=>k (rg o row) h) (we (x.get e) h 1 λr o=>j8 o λo=>k (rg o r) h)=true:=hk
   rcases aJ hk with⟨hb,hk⟩|⟨_,hk⟩
   ·obtain⟨rfl,hlt⟩:=hv.C0 (ag hb)
    obtain⟨row,h1,h2,h3,h4⟩:=t9 hH hlt hk
    rw[a6,eX]at h4
    obtain⟨c,hc,A5⟩:=h2.get (i:=(x.get e).a)<|by omega
    have hl:(row.drop (x.get e).a).take 1=[c]:=by
     obtain⟨hi,rfl⟩:=List.getElem?_eq_some_iff.1 hc
     rw[List.drop_eq_getElem_cons hi]
     rfl
    refine⟨_,_,c,_,rfl,h1,?_,A5,h4⟩
    rw[hl]
   ·obtain⟨row,r,rfl,h1,h2,h3,h4,h5⟩:=xT hH hv hk
    have h5:(j8 ((x.get e).a+(x.get e).b) λo=>k (rg o r) h)=true:=h5
    rw[a6,eX]at h5
    have hi:(x.get e).b<row.length:=by omega
    have hl:(row.drop (x.get e).b).take 1=[row[(x.get e).b]]:=by
     rw[List.drop_eq_getElem_cons hi]
     rfl
    refine⟨_,_,row[(x.get e).b],_,rfl,h1,?_,h4 _ _<|List.getElem?_eq_getElem hi,h5⟩
    rw[hl]
theorem Jd {n:Nat}{g:Bool}{x:Operand}(hx:gG nt [x]=true)(hk:(DU g n x).run ih e h k=true):Out k h.fr (aval P H (bL E) (.load g n x)):=by
 obtain⟨ax,dS,dg⟩:=a7 hE<|aP hx (x:=x)<|by simp
 obtain⟨p,l,u,v,rfl,h1,h2,h3,h4⟩:=loadF_ok (x:=fx x) hH dg hk
 refine .same hH (a:=u) ?_ h3 h4
 simp only[aval,dS,h1]
 grind
omit hH in
theorem BD {z:List AV}{n:Nat}:∀(parts:List (Nat × Nat × Operand))(cs:List AV)(r:R V)(f:R V->Bool),gG nt (parts.map λp=>p.2.2)=true->x9 n parts=true->fQ n r cs->qH parts e f r=true ->
  ∃l cs' r',aI (BC<|bL E) parts=some l/\mM cs l=some cs'/\fQ n r' cs'/\f r'=true:=by
 intro parts
 induction parts with
 | nil=>intro cs r f _ _ hr hf;exact⟨[],cs,r,rfl,rfl,hr,hf⟩
 | cons p parts ih=>
  intro cs r f hx hin hr hf
  obtain⟨fe,iI⟩:=(bR _ _ _).1 hx
  obtain⟨hi1,hi2⟩:=(bR _ _ _).1 hin
  obtain⟨a,ha,hv⟩:=a7 hE fe
  have hf:(Zy p.2.1 p.1).run ((fx p.2.2).get e) r (qH parts e f)=true:=hf
  have hi1:p.1+p.2.1<=n:=aj.1 hi1
  have hsm:=hr.small
  obtain⟨ps,r1,h1,h2,h3,h4,h5⟩:=RC hv (by omega) hf
  have hput:fK cs p.1 ps=some (cs.take p.1++(ps++cs.drop (p.1+ps.length))):=xO (by rw[hr.len,h2];exact hi1)
  have UR:fQ n r1 (cs.take p.1++(ps++cs.drop (p.1+ps.length))):=hr.fK (by rw[h2];exact hi1) h3<|λj hj hn=>h4 j (by omega) (by rw[<- h2];exact hn)
  obtain⟨l,cs',r',k1,k2,k3,k4⟩:=ih _ r1 f iI hi2 UR h5
  refine⟨(p.1,ps)::l,cs',r',?_,?_,k3,k4⟩
  ·rw[aV]
   exact⟨(p.1,ps),l,by simp only[BC,ha,h1],k1,rfl⟩
  ·unfold mM at k2 |-
   rw[ah]
   exact⟨_,hput,k2⟩
theorem BE {z:List AV}{parts:List (Nat × Nat × Operand)}(hx:gG nt (AOp.build z parts).opers=true)(hk:(rK z parts).run ih e h k=true):Out k h.fr (aval P H (bL E) (.build z parts)):=by
 unfold rK at hk
 split at hk
 ·rename_i hc
  obtain⟨hc,hp⟩:=(Bool.and_eq_true _ _).mp hc
  obtain⟨hl,_⟩:=(Bool.and_eq_true _ _).mp hc
  have hl:=aj.1 hl
  rw[ar]at hl
  rw[ar]at hp
  have hk:qH parts e (λr=>k (vAgg r 0<|aK z) h) (rowA z)=true:=hk
  obtain⟨l,cs',r',h1,h2,h3,h4⟩:=BD (z:=z) hE parts z (rowA z) _ hx hp (rowA_ok hl) hk
  refine .same hH (a:=.agg cs') (by rw[yR,h1];simp only[h2]) ?_ h4
  rw[ar]
  refine VA.pV h3.len (by omega)<|λi c hc=>?_
  rw[Nat.zero_add]
  exact h3.cell i c hc
 ·cases hk
end
end Go.Ev
namespace Go.Ev
variable [Sg]
theorem pz (α:Type)(x:α)(d:Nat):sel4 d (rp x)=x:=by
 unfold sel4;split<;>rfl
theorem dU {α:Type}(x:α)(i:Nat):cX i (fV x)=x:=by
 unfold cX fV FA
 rw[pz,pz,pz]
theorem at_rpR {α:Type}(x:α)(i:Nat):atR i (rpR x)=x:=by
 unfold atR
 split
 ·exact pz α x _
 ·split
  ·show sD (i-4) (FA x)=x
   unfold sD FA
   rw[pz,pz]
  ·split
   ·exact dU x _
   ·show cX (i-84) (cX ((i-84)/64)<|fV<|fV x)=x
    rw[dU,dU]
theorem Aa {x:AV}{f:Bool}(h:DA x f=true):(∃rw,x=.slice none 0 0 false rw)/\f=true:=by
 cases x with
 | slice p l c s rw=>
  cases p with
  | none=>
   have h:af (Nat.beq (Nat.add l c) 0) (af s false f) false=true:=h
   obtain⟨h1,h⟩:=au h
   have h1:l+c=0:=ag h1
   rcases aJ h with⟨_,h⟩|⟨hs,h⟩
   ·cases h
   simp_all
  | some p=>cases h
 | _=>cases h
theorem u9 {x:AV}{f:Bool}(h:xu x f=true):((∃rw,x=.slice none 0 0 false rw)\/x=.empty)/\f=true:=by
 cases x with
 | slice p l c s rw=>
  cases p with
  | none=>
   have h:af (Nat.beq (Nat.add l c) 0) (af s false f) false=true:=h
   obtain⟨h1,h⟩:=au h
   have h1:l+c=0:=ag h1
   rcases aJ h with⟨_,h⟩|⟨hs,h⟩
   ·cases h
   simp_all
  | some p=>cases h
 | empty=>exact⟨.inr rfl,h⟩
 | _=>cases h
theorem jc {v:V}{a:AV}{f:Bool}(hv:VA v a)(h:iD v f=true):(∃rw,a=.slice none 0 0 false rw)/\f=true:=by
 unfold iD at h
 obtain⟨h0,h⟩:=au h
 obtain⟨rfl,_⟩:=hv.U7<|ag h0
 exact Aa h
theorem jD {v:V}{a:AV}{f:Bool}(hv:VA v a)(h:lX v f=true):((∃rw,a=.slice none 0 0 false rw)\/a=.empty)/\f=true:=by
 unfold lX at h
 obtain⟨h0,h⟩:=au h
 obtain⟨rfl,_⟩:=hv.U7<|ag h0
 exact u9 h
theorem RR.get {sz:Nat}{rs:List (R V)}{ls:List (List AV)}(h:RR sz rs ls):∀i,i<ls.length->∃r l,rs[i]?=some r/\ls[i]?=some l/\fQ sz r l:=by
 induction h with
 | nil=>grind
 | cons h _ ih=>
  grind
theorem jg:∀(l:List (R V))(o:Nat)(rs:R (R V))(i:Nat),o+l.length<=4180->i<4180->atR i (dL l o rs)=if h:o<=i/\i-o<l.length then l[i-o]'h.2 else atR i rs:=by
 intro vs
 induction vs with
 | nil=>intro o r i _ _;rw[dif_neg (by simp)];rfl
 | cons v vs ih=>
  intro o r i h1 h2
  have e:dL (v::vs) o r=dL vs (o+1) (jh o v r):=rfl
  simp only[List.length_cons]at h1
  rw[e,ih (o+1) _ i (by omega) h2,jN,dV (by omega) h2]
  by_cases hi:o=i
  ·grind
  grind
theorem io {l:List (R V)}{o:Nat}{rs:R (R V)}{i:Nat}{r:R V}(hl:o+l.length<=4180)(h:l[i]?=some r):atR (o+i) (dL l o rs)=r:=by
 obtain⟨hi,rfl⟩:=List.getElem?_eq_some_iff.1 h
 rw[jg _ _ _ _ hl (by omega),dif_pos<|by omega]
 grind
theorem i9 {α β:Type}{f:β->α->Option β}(hf:∀b a,∃c,f b a=some c):∀(l:List α)(b:β),∃c,aw f l b=some c:=by
 intro l
 induction l with
 | nil=>intro b;exact⟨b,rfl⟩
 | cons a l ih=>
  intro b
  obtain⟨c,hc⟩:=hf b a
  obtain⟨d,hd⟩:=ih c
  exact⟨d,(ah _ _ _ _ _).2 ⟨c,hc,hd⟩⟩
noncomputable def D6 (s:Tr (List AV) × Nat)(row:List AV):Option (Tr (List AV) × Nat):=some (s.1.put s.2 row,Nat.succ s.2)
theorem wy (l:List (List AV)):rowsOf l=match aw D6 l (.lf,0)with | some s=>some s.1 | none=>none:=rfl
theorem fO (l:List (List AV)):∃t,rowsOf l=some t/\∀i:Nat,t.get i=l[i]?:=by
 obtain⟨c,hc⟩:=i9 (f:=D6) (λb a=>⟨_,rfl⟩) l (.lf,0)
 have:rowsOf l=some c.1:=by rw[wy,hc]
 exact⟨c.1,this,cB this⟩
theorem qf:∀(l:List (List AV))(t:Tr (List AV))(n:Nat),∃s,aw D6 l (t,n)=some s/\(∀i,i<n->s.1.get i=t.get i)/\∀(i:Nat)row,l[i]?=some row->s.1.get (n+i)=some row:=by
 intro l
 induction l with
 | nil=>intro t n;exact⟨(t,n),rfl,λi _=>rfl,λi row h=>by simp at h⟩
 | cons a l ih=>
  intro t n
  obtain⟨s,h1,h2,h3⟩:=ih (t.put n a)<|n+1
  refine⟨s,(ah _ _ _ _ _).2 ⟨_,rfl,h1⟩,λi hi=>?_,λi row hr=>?_⟩
  ·rw[h2 i (by omega),Tr.bi _ _<|by omega]
  ·cases i with
   | zero=>
    simp at hr
    subst hr
    rw[Nat.add_zero,h2 n<|by omega,Tr.a8]
   | succ i=>
    grind
section
variable {P:Program}{nt:Nat}{e:Env}{E:Tr AV}{h:FH}{H:Heap}{ih:bT}{k:V->FH->Bool}
theorem ma (hH:cj h H){bytes need sz:Nat}{rs:R (R V)}{T:Tr (List AV)}(hs:sz<=4180)(hk:aay h bytes need sz rs k=true)(hT:need<=4180->∀r,r<need->∃row,T.get r=some row/\fQ sz (atR r rs) row) :
  Out k h.fr (grown H bytes need sz T):=by
 unfold aay at hk
 obtain⟨hc,hk⟩:=au hk
 obtain⟨h1,h2⟩:=aW hc
 have h2:=aj.1 h2
 obtain⟨h',k1,k2,k3,k4⟩:=hH.new hk<|gy.ow (o:=Kw rs need sz) (T:=T) rfl h2 hs<|hT h2
 refine⟨_,_,h',(H.new<|.rows T need sz false).2,?_,VA.Sn k1,k2,k3,k4⟩
 unfold grown
 rw[h1]
 have e1:Nat.beq (Nat.succ (Nat.mul sz 2)%2) 1=true:=by
  simp_all
 have e2:Nat.succ (Nat.mul sz 2)/2=sz:=by grind
 rw[e1,e2]
 rfl
noncomputable def elemsA (H:Heap)(sz:Nat)(a:AV):Option (List (List AV)):=match a with
 | .slice base n _ _ rw=>(match base with
  | none=>(match n with | 0=>some [] | _=>none)
  | some p=>H.gather p rw sz n)
 | .empty=>some []
 | _=>none
theorem ze (hH:cj h H){sz:Nat}{x:V}{a:AV}{f:List (R V)->Bool}(h1:1<=sz)(h2:sz<=4180)(hx:VA x a)(hk:aaw h sz x f=true):∃l ls,RR sz l ls/\f l=true/\elemsA H sz a=some ls:=by
 unfold aaw at hk
 rcases aJ hk with⟨hb,hk⟩|⟨_,hk⟩
 ·obtain⟨rfl,hlt⟩:=hx.A7 (ag hb)
  obtain⟨l,ls,k1,k2,k3,k4⟩:=aaa hH hlt h1 h2 hk
  exact⟨l,ls,k1,k3,k4⟩
 ·obtain⟨hc,hk⟩:=jD hx hk
  rcases hc with⟨rw,rfl⟩|rfl
  ·exact⟨[],[],.nil,hk,rfl⟩
  ·exact⟨[],[],.nil,hk,rfl⟩
theorem append_def {ρ:Operand->Option AV}{sz bytes:Nat}{s x:Operand}{sv xa:AV}{ls:List (List AV)}(hs:ρ s=some sv)(hx:ρ x=some xa)(hl:elemsA H sz xa=some ls):aval P H ρ (.append sz bytes s x)=appendV H sz bytes sv ls:=by
 simp only[aval,hs,hx]
 cases xa with
 | slice base n c sl rw=>
  simp only[elemsA]at hl
  grind
 | empty=>cases hl;rfl
 | _=>cases hl
theorem cj.forget (hH:cj h H){b:Nat}(hb:b<262144):cj (Ev.hput b l9 h) H:=by
 refine⟨hH.next,hH.small,λc hc=>?_⟩
 rw[jE hb hc]
 by_cases hbc:b=c
 ·rw[if_pos hbc];exact gy.gone _ rfl rfl
 ·rw[if_neg hbc];exact hH.block c hc
theorem vf {need bytes:Nat}(h1:need<=901000)(h2:bytes<=100000):fits need bytes=true:=by
 unfold fits
 have a:(2*need+2000)*bytes<=1804000*100000:=Nat.mul_le_mul (by omega) h2
 rw[aj.2 (by omega),aj.2<|by omega]
 rfl
theorem H5 (hH:cj h H){sz bytes:Nat}{s:V}{sv:AV}{new:List (R V)}{ls:List (List AV)}(h1:1<=sz)(h2:sz<=4180)(hs:VA s sv)(ht:s.t=17)(hn:RR sz new ls)(hne:ls≠[])(hk:HZ h sz bytes s new k=true) :
  Out k h.fr (appendV H sz bytes sv ls):=by
 obtain⟨n,rfl,hb,PV,hlo,hhi,pj,hm2⟩:=hs.xJ ht
 have hlen:aK new=aK ls:=by rw[ar,ar,hn.length]
 have hlen':=hn.length
 unfold HZ at hk
 obtain⟨hc,hk⟩:=au hk
 obtain⟨c1,c2⟩:=aW hc
 obtain⟨c0,c1⟩:=aW c1
 obtain⟨c2,c3⟩:=aW c2
 obtain⟨c2,VQ⟩:=aW c2
 obtain⟨c3,c4⟩:=aW c3
 obtain⟨c4,c5⟩:=aW c4
 have c0:=ag c0
 have c1:(hget s.f h).lp.pend=s.a:=ag c1
 have c2:(hget s.f h).lp.st=s.b:=ag c2
 have VQ:(hget s.f h).lp.D=sz:=ag VQ
 have c3:s.e=sz:=ag c3
 have c4:s.b+aK new<=1000:=aj.1 c4
 have c5:bytes<=100000:=aj.1 c5
 rw[ar]at c4
 rw[a6,a6]at hk
 obtain⟨m,T0,ro,e1,e3,e4,eB,e5⟩:=(hH.block s.f hb).ext c0
 rw[c1,PV]at e1
 have e1:=Int.ofNat.inj e1
 subst e1
 rw[c2]at e3
 rw[c2,VQ]at e5
 rw[VQ]at e4 eB
 have hl1:1<=ls.length:=by cases ls with | nil=>exact absurd rfl hne | cons _ _=>simp
 -- what the RN machine acN
 have main:∃(T:Tr (List AV))(H1:Heap),appendV H sz bytes (oslA s.f s.e<|n+s.b) ls=grown H1 bytes (n+s.b+ls.length) sz T/\cj (Ev.hput s.f l9 h) H1 /\
   (∀i,i<n->T.get i=T0.get i)/\(∀i,i<s.b->∃row,T.get (n+i)=some row/\fQ sz (atR i (hget s.f h).rs) row)/\(∀(i:Nat)row,ls[i]?=some row->T.get (n+s.b+i)=some row):=by
  rw[c3]
  cases hN:n+s.b with
  | zero=>
   obtain⟨t,t1,t2⟩:=fO ls
   refine⟨t,H,?_,hH.forget hb,λi hi=>absurd hi<|by omega,λi hi=>absurd hi<|by omega,λi row hr=>by rw[t2,Nat.zero_add];exact hr⟩
   unfold appendV oslA
   simp only
   rw[aL]
   have q:Nat.ble (Nat.add 0<|aK ls) 0=false:=by rw[ju,ar];show¬0+ls.length<=0;omega
   rw[q]
   simp only
   rw[show(false || !Nat.beq 0 0)=false from rfl]
   simp only[t1,ar]
   rfl
  | succ N=>
   obtain⟨T,x1,x2,x3⟩:=e5<|by omega
   obtain⟨st,p1,p2,p3⟩:=qf ls T<|N+1
   have p1:aw (λ(s:Tr (List AV) × Nat)row=>some (s.1.put s.2 row,Nat.succ s.2)) ls (T,N+1)=some st:=p1
   refine⟨st.1,H.del s.f,?_,hH.del hb,λi hi=>by rw[p2 i (by omega)];exact x2 i hi,λi hi=>?_,λi row hr=>p3 i row hr⟩
   ·unfold appendV oslA
    simp only
    rw[aL]
    have q:Nat.ble (Nat.add (N+1)<|aK ls) (N+1)=false:=by rw[ju,ar];show¬(N+1)+ls.length<=N+1;omega
    rw[q]
    rw[hN]at x1
    simp only[x1]
    have c:(Nat.beq sz sz&&Nat.beq sz sz&&Nat.beq 0 0&&Nat.beq (Nat.add 0<|N+1) (N+1)&&Nat.beq (N+1) (N+1))=true:=by
     have:Nat.add 0 (N+1)=N+1:=Nat.zero_add _
     rw[this,bN,bN,bN];rfl
    rw[c]
    simp only[p1,ar]
    rfl
   ·obtain⟨row,y1,y2⟩:=x3 i hi
    exact⟨row,by rw[p2 _ (by omega)];exact y1,y2⟩
 obtain⟨T,H1,m1,m2,m3,m4,m5⟩:=main
 rw[m1]
 have hk:nX (Ev.hput s.f l9 h) (XA (hget s.f h).lp.nt s.a (s.b+aK new) sz (dL new s.b (hget s.f h).rs)) (λb' h=>k (vX b' s.a (s.b+aK new) s.c s.d sz) h)=true:=hk
 rw[ar]at hk
 have hx:gy (XA (hget s.f h).lp.nt s.a (s.b+new.length) sz (dL new s.b (hget s.f h).rs)) (some<|.rows T (n+s.b+ls.length) sz false):=by
  refine gy.Vd rfl rfl ⟨n,T0,ro,PV,by show s.b+new.length<=1000;omega,h2,eB,λ_=>⟨T,?_,m3,λi hi=>?_⟩⟩
  ·show some (bv.rows T (n+s.b+ls.length) sz false)=some (.rows T (n+(s.b+new.length)) sz false)
   rw[hlen',Nat.add_assoc]
  ·have hi:i<s.b+new.length:=hi
   show∃row,T.get (n+i)=some row/\fQ sz (atR i<|dL new s.b (hget s.f h).rs) row
   by_cases Yv:i<s.b
   ·obtain⟨row,y1,y2⟩:=m4 i Yv
    refine⟨row,y1,?_⟩
    rw[jg _ _ _ _ (by omega) (by omega),dif_neg<|by omega]
    exact y2
   ·obtain⟨j,rfl⟩:∃j,i=s.b+j:=⟨i-s.b,by omega⟩
    obtain⟨rr,l,w1,w2,w3⟩:=hn.get j<|by omega
    refine⟨l,by rw[<- Nat.add_assoc];exact m5 j l w2,?_⟩
    rw[io (by omega) w1]
    exact w3
 obtain⟨h',k1,k2,k3,k4⟩:=m2.new hk hx
 have hv:=VA.oH (v:=vX H1.next s.a (s.b+new.length) s.c s.d sz) rfl k1 n PV hlo hhi pj (by show s.b+new.length<=1000;omega)
 have hv:VA (vX H1.next s.a (s.b+new.length) s.c s.d sz) (oslA H1.next sz<|n+(s.b+new.length)):=hv
 obtain⟨q,hq⟩:∃q,n+s.b+ls.length=q+1:=⟨n+s.b+ls.length-1,by omega⟩
 rw[show n+(s.b+new.length)=q+1 by omega]at hv
 refine⟨.slice (some ⟨H1.next,0,0⟩) (q+1) (q+1) true sz,_,h',(H1.new<|.rows T (n+s.b+ls.length) sz false).2,?_,hv,k2,k3,k4⟩
 unfold grown
 rw[vf (by omega) c5,hq]
 rfl
theorem nJ (hH:cj h H){sz bytes:Nat}{s:V}{sv:AV}{new:List (R V)}{ls:List (List AV)}(h1:1<=sz)(h2:sz<=4180)(hs:VA s sv)(hn:RR sz new ls)(hk:jt h sz bytes s new k=true) :
  Out k h.fr (appendV H sz bytes sv ls):=by
 have hlen:aK new=aK ls:=by rw[ar,ar,hn.length]
 have hlen':=hn.length
 unfold jt at hk
 rcases aJ hk with⟨hb,hk⟩|⟨_,hk⟩
 ·obtain⟨rfl,hlt⟩:=hs.A7 (ag hb)
  unfold appendV
  simp only
  rw[aL]
  rcases aJ hk with⟨hc,hk⟩|⟨hc,hk⟩
  ·-- there is room
   rw[hlen]at hc
   have hc:Nat.ble (s.c+aK ls) s.b=true:=hc
   obtain⟨h',H',k1,k2,k3,k4⟩:=jl hH hlt h1 h2 hn hk
   rw[hlen]at k4
   cases hn with
   | nil=>
    have k1:some H=some H':=k1
    cases k1
    refine⟨_,_,h',H,?_,VA.Sn hlt,k2,k3,k4⟩
    show(match Nat.ble (s.c+aK []) s.b with | true=>_ | false=>_)=_
    rw[hc]
   | cons hr V5=>
    refine⟨_,_,h',H',?_,VA.Sn hlt,k2,k3,k4⟩
    show(match Nat.ble (s.c+aK _) s.b with | true=>_ | false=>_)=_
    rw[hc]
    have k1:H.scatter ⟨s.f,s.e,s.d⟩ (s.a/2) sz s.c _=some H':=k1
    rw[k1]
  ·rw[hlen]at hc
   have hc:Nat.ble (s.c+aK ls) s.b=false:=hc
   show Out k h.fr (match Nat.ble (s.c+aK ls) s.b with | true=>_ | false=>_)
   rw[hc]
   rcases aJ hk with⟨hm,hk⟩|⟨hm,hk⟩
   ·-- it lies whole in its block
    obtain⟨hq,hk⟩:=au hk
    obtain⟨q1,q2⟩:=aW hq
    obtain⟨q0,q1⟩:=aW q1
    obtain⟨q2,q3⟩:=aW q2
    obtain⟨q3,q4⟩:=aW q3
    obtain⟨q4,q5⟩:=aW q4
    rw[a6,a6]at hk
    have q0:=ag q0
    have q1:sz=(hget s.f h).sz:=ag q1
    have q2:s.a/2=sz:=ag q2
    have q3:s.d+s.e=0:=ag q3
    have q4:s.b=(hget s.f h).n:=ag q4
    have q5:s.c=s.b:=ag q5
    obtain⟨T,g1,g2,g3,g4⟩:=(hH.block s.f hlt).rows q0
    have hm:Nat.beq (s.a%2) 1=true:=hm
    rw[hm]
    simp only[g1]
    have e0:s.e=0:=by omega
    have d0:s.d=0:=by omega
    have c1:(Nat.beq sz (hget s.f h).sz&&Nat.beq (s.a/2) sz&&Nat.beq s.d 0&&Nat.beq (Nat.add s.e s.b) (hget s.f h).n&&Nat.beq s.c s.b)=true:=by
     rw[q2,<- q1,d0,e0,bN]
     grind
    rw[c1]
    simp only
    rw[e0]
    obtain⟨st,p1,p2,p3⟩:=qf ls T s.c
    have p1:aw (λ(s:Tr (List AV) × Nat)row=>some (s.1.put s.2 row,Nat.succ s.2)) ls (T,s.c)=some st:=p1
    rw[p1]
    have hk:aay (Ev.hput s.f l9 h) bytes (s.c+aK new) sz (dL new s.c (hget s.f h).rs) k=true:=hk
    rw[hlen]at hk
    refine ma (hH.del hlt) h2 hk<|λi7 r hr=>?_
    rw[ar]at i7 hr
    have i7:s.c+ls.length<=4180:=i7
    have hr:r<s.c+ls.length:=hr
    by_cases hrc:r<s.c
    ·obtain⟨row,w1,w2⟩:=g4 r (by rw[<- q4,<- q5];exact hrc)
     refine⟨row,by rw[p2 r hrc,w1],?_⟩
     rw[jg _ _ _ _ (by omega) (by omega),dif_neg<|by omega,q1]
     exact w2
    ·obtain⟨i,rfl⟩:∃i,r=s.c+i:=⟨r-s.c,by omega⟩
     obtain⟨rr,l,w1,w2,w3⟩:=hn.get i<|by omega
     refine⟨l,p3 i l w2,?_⟩
     rw[io (by omega) w1]
     exact w3
   ·-- it is copied
    have hm:Nat.beq (s.a%2) 1=false:=hm
    rw[hm]
    simp only
    obtain⟨old,lo,k1,k2,k3,k4⟩:=aaa hH hlt h1 h2 hk
    have k4:H.gather ⟨s.f,s.e,s.d⟩ (s.a/2) sz s.c=some lo:=k4
    have k2:old.length=s.c:=k2
    rw[k4]
    simp only
    obtain⟨t,t1,t2⟩:=fO<|bI lo ls
    rw[t1]
    simp only
    rw[hlen]at k3
    refine ma hH h2 k3<|λi7 r hr=>?_
    have i7:s.c+aK ls<=4180:=i7
    have hr:r<s.c+aK ls:=hr
    rw[ar]at i7 hr
    have hlo:lo.length=s.c:=by rw[<- k1.length];exact k2
    obtain⟨rr,l,w1,w2,w3⟩:=(k1.append hn).get r (by rw[List.length_append];omega)
    refine⟨l,by rw[t2,aN];exact w2,?_⟩
    rw[aN]
    have:=io (o:=0) (rs:=mW) (by rw[List.length_append,k2];omega) w1
    rw[Nat.zero_add]at this
    rw[this]
    exact w3
 ·cases hn with
  | nil=>
   obtain⟨hc,hk⟩:=jD hs hk
   rcases hc with⟨rw,rfl⟩|rfl
   ·exact .same hH rfl hs hk
   ·exact .same hH rfl hs hk
  | @cons r l rs ls hr V5=>
   have hk:af (Nat.beq s.t 17) (HZ h sz bytes s (r::rs) k) (iD s<|aay h bytes (aK<|r::rs) sz (dL (r::rs) 0 mW) k)=true:=hk
   have hn:RR sz (r::rs) (l::ls):=.cons hr V5
   rcases aJ hk with⟨h17,hk⟩|⟨_,hk⟩
   ·exact H5 hH h1 h2 hs (ag h17) hn (by simp) hk
   obtain⟨⟨rw',rfl⟩,hk⟩:=jc hs hk
   have hne:Nat.ble (0+aK (l::ls)) 0=false:=by
    rw[ju,ar];simp
   unfold appendV
   simp only
   rw[aL]
   have hne:Nat.ble (Nat.add 0<|aK<|l::ls) 0=false:=hne
   rw[hne]
   obtain⟨t,t1,t2⟩:=fO<|l::ls
   have e0:(false || !Nat.beq 0 0)=false:=rfl
   rw[e0]
   simp only[t1]
   rw[hlen]at hk
   have e:Nat.add 0 (aK<|l::ls)=aK (l::ls):=Nat.zero_add _
   rw[e]
   refine ma hH h2 hk<|λi7 r' hr'=>?_
   rw[ar]at i7 hr'
   obtain⟨rr,l',w1,w2,w3⟩:=hn.get r' hr'
   refine⟨l',by rw[t2];exact w2,?_⟩
   have:=io (o:=0) (rs:=mW) (by rw[hn.length];omega) w1
   rw[Nat.zero_add]at this
   rw[this]
   exact w3
end
end Go.Ev
namespace Go.Ev
variable [Sg]
section
variable {P:Program}{nt:Nat}{e:Env}{E:Tr AV}{h:FH}{H:Heap}{ih:bT}{k:V->FH->Bool}
variable (hE:ij nt e E)(hH:cj h H)
include hE hH
theorem FY {n:Nat}{x y:Operand}(hx:gG nt [x,y]=true)(hk:(xZ n x y).run ih e h k=true):Out k h.fr (aval P H (bL E) (.store n x y)):=by
 obtain⟨ax,dS,dg⟩:=a7 hE<|aP hx (x:=x)<|by simp
 obtain⟨ay,IK,uC⟩:=a7 hE<|aP hx (x:=y)<|by simp
 have Kr:∀n,(af (aU (Nat.beq ((fx x).get e).t 4)<|aU (Nat.beq ((fx y).get e).t 9)<|Nat.beq ((fx y).get e).b n)
   (j8 ((fx x).get e).c λb=>j8 ((fx x).get e).b λr=>j8 ((fx x).get e).a λo=>af (aU (Nat.blt r (hget b h).n)<|Nat.ble (Nat.add o n) (hget b h).sz)
    (c9 ((fx y).get e).r λs=>j8 ((fx y).get e).a λi=>af (Nat.beq (Nat.add (Nat.add o i)<|Nat.sub (hget b h).sz n) 0)
     (k vU<|mf b (gu r λ_=>s) h)
     (k vU (mf b (gu r (uy s n i o)) h))) false) false)=true->Out k h.fr (aval P H (bL E) (.store n x y)):=by
  intro n hk
  obtain⟨hb,hk⟩:=au hk
  obtain⟨h1,h2⟩:=aW hb
  obtain⟨h2,h3⟩:=aW h2
  obtain⟨rfl,hlt⟩:=dg.C0<|ag h1
  obtain⟨cs,s,rfl,hr,hc,hl,hcell⟩:=uC.A8<|ag h2
  rw[a6,a6,a6]at hk
  obtain⟨hq,hk⟩:=au hk
  obtain⟨q1,q2⟩:=aW hq
  have q1:=aA.1 q1
  have q2:((fx x).get e).a+n<=(hget ((fx x).get e).c h).sz:=aj.1 q2
  have hk:=dW hk hr
  rw[a6]at hk
  have xE:cs.length=n:=by rw[hc];exact ag h3
  have hsz:(hget ((fx x).get e).c h).sz<=4180:=by obtain⟨_,_,_,_,h3,_⟩:=hH.rows hlt q1;exact h3
  rcases aJ hk with⟨hw,hk⟩|⟨_,hk⟩
  ·have hw:((fx x).get e).a+((fx y).get e).a+((hget ((fx x).get e).c h).sz-n)=0:=ag hw
   obtain⟨H',w1,w2⟩:=hH.write (vs:=cs) (f:=λ_=>s) hlt q1 (by rw[xE];exact q2)
    (λi c hi=>by
     grind)
    (λj hj hn=>by grind)
   refine⟨.undef,vU,_,H',?_,VA.undef,w2,rfl,hk⟩
   simp only[aval,dS,IK,de xE,w1]
  ·obtain⟨H',w1,w2⟩:=hH.write (vs:=cs) (f:=uy s n ((fx y).get e).a ((fx x).get e).a) hlt q1 (by rw[xE];exact q2)
    (λi c hi=>by
     obtain⟨hlt',_⟩:=List.getElem?_eq_some_iff.1 hi
     rw[f9 _ _ _ _ _ _ (by omega) (by omega),if_pos<|by omega,show((fx y).get e).a+(((fx x).get e).a+i-((fx x).get e).a)=((fx y).get e).a+i by omega]
     grind)
    (λj hj hn=>by rw[f9 _ _ _ _ _ _ (by omega) (by omega),if_neg (by rw[<- xE];exact hn)])
   refine⟨.undef,vU,_,H',?_,VA.undef,w2,rfl,hk⟩
   simp only[aval,dS,IK,de xE,w1]
 match n,hk with
 | 0,hk=>exact Kr 0 hk
 | n+2,hk=>exact Kr (n+2) hk
 | 1,hk=>
  have hk:af (Nat.beq ((fx x).get e).t 4) (j8 ((fx x).get e).c λb=>j8 ((fx x).get e).b λr=>j8 ((fx x).get e).a λo=>af (aU (Nat.blt r (hget b h).n)<|Nat.blt o (hget b h).sz)
   (Ae ((fx y).get e) λv=>k vU (mf b (gu r ((da o).p V v)) h)) false) false=true:=hk
  obtain⟨h1,hk⟩:=au hk
  obtain⟨rfl,hlt⟩:=dg.C0<|ag h1
  rw[a6,a6,a6]at hk
  obtain⟨hq,hk⟩:=au hk
  obtain⟨q1,q2⟩:=aW hq
  have q1:=aA.1 q1
  have q2:((fx x).get e).a<(hget ((fx x).get e).c h).sz:=aA.1 q2
  obtain⟨c,w,k1,k2,k3⟩:=rI uC hk
  have hsz:(hget ((fx x).get e).c h).sz<=4180:=by obtain⟨_,_,_,_,h3,_⟩:=hH.rows hlt q1;exact h3
  obtain⟨H',w1,w2⟩:=hH.write (vs:=[c]) (f:=(da ((fx x).get e).a).p V w) hlt q1 (by exact q2)
   (λi z hi=>by
    match i,hi with
    | 0,hi=>
     cases hi
     rw[(dr _ V).2,dV (by omega)<|by omega,if_pos<|by omega]
     exact k2)
   (λj hj hn=>by
    have hn:¬(((fx x).get e).a<=j/\j<((fx x).get e).a+1):=hn
    rw[(dr _ V).2,dV (by omega) (by omega),if_neg (by omega)])
  refine⟨.undef,vU,_,H',?_,VA.undef,w2,rfl,k3⟩
  simp only[aval,dS,IK,k1,w1]
theorem Qf {lit:Bool}{kk:dC}{m q v:Operand}(hx:gG nt [m,q,v]=true)(hk:(KZ kk m q v).run ih e h k=true):Out k h.fr (aval P H (bL E) (.ins lit kk m q v)):=by
 obtain⟨am,KB,P7⟩:=a7 hE<|aP hx (x:=m)<|by simp
 obtain⟨aq,KC,I0⟩:=a7 hE<|aP hx (x:=q)<|by simp
 obtain⟨ax,dS,dg⟩:=a7 hE<|aP hx (x:=v)<|by simp
 have hk:af (Nat.beq ((fx m).get e).t 7) (j8 ((fx m).get e).a λb=>af (Nat.beq (hget b h).t 2) (aE (av<|(fx q).get e) λkv=>aE (av<|(fx v).get e) λvv=>aE (putInF kk kv vv (hget b h).m) λes=>k vU<|hput b ⟨pU,mW,es,2,0,0⟩ h) false) false=true:=hk
 obtain⟨hb,hk⟩:=au hk
 obtain⟨rfl,hlt⟩:=P7.Qi<|ag hb
 rw[a6]at hk
 obtain⟨hb,hk⟩:=au hk
 have hm:=(hH.block _ hlt).map (ag hb)
 obtain⟨kv,h1,hk⟩:=aY hk
 obtain⟨vv,h2,hk⟩:=aY hk
 obtain⟨es,h3,hk⟩:=aY hk
 rw[Aw,<- eM I0 h1,<- eM dg h2]at h3
 refine⟨.undef,vU,_,H.put ((fx m).get e).a (.map es),?_,VA.undef,hH.hput hlt<|gy.mkMap (o:=⟨pU,mW,es,2,0,0⟩) rfl rfl,rfl,hk⟩
 simp only[aval,KB,KC,dS,hm]
 grind
theorem y7 {kk:dC}{m q:Operand}(hx:gG nt [m,q]=true)(hk:(tP kk m q).run ih e h k=true):Out k h.fr (aval P H (bL E) (.delete kk m q)):=by
 obtain⟨am,KB,P7⟩:=a7 hE<|aP hx (x:=m)<|by simp
 obtain⟨aq,KC,I0⟩:=a7 hE<|aP hx (x:=q)<|by simp
 have hk:af (Nat.beq ((fx m).get e).t 7) (j8 ((fx m).get e).a λb=>af (Nat.beq (hget b h).t 2) (aE (av<|(fx q).get e) λkv=>aE (qL kk kv (hget b h).m) λes=>k vU<|hput b ⟨pU,mW,es,2,0,0⟩ h) false) false=true:=hk
 obtain⟨hb,hk⟩:=au hk
 obtain⟨rfl,hlt⟩:=P7.Qi<|ag hb
 rw[a6]at hk
 obtain⟨hb,hk⟩:=au hk
 have hm:=(hH.block _ hlt).map (ag hb)
 obtain⟨kv,h1,hk⟩:=aY hk
 obtain⟨es,h3,hk⟩:=aY hk
 rw[y6,<- eM I0 h1]at h3
 refine⟨.undef,vU,_,H.put ((fx m).get e).a (.map es),?_,VA.undef,hH.hput hlt<|gy.mkMap (o:=⟨pU,mW,es,2,0,0⟩) rfl rfl,rfl,hk⟩
 simp only[aval,KB,KC,hm]
 grind
omit hE hH in
theorem sb {sz:Nat}(h:AP sz=true):1<=sz/\sz<=4180:=by
 obtain⟨s1,s2⟩:=(Bool.and_eq_true _ _).mp h
 exact⟨aj.1 s1,aj.1 s2⟩
theorem yG {sz bytes:Nat}{s x:Operand}(hx:gG nt [s,x]=true)(hk:(oE sz bytes s x).run ih e h k=true):Out k h.fr (aval P H (bL E) (.append sz bytes s x)):=by
 obtain⟨as,has,hvs⟩:=a7 hE<|aP hx (x:=s)<|by simp
 obtain⟨ax,dS,dg⟩:=a7 hE<|aP hx (x:=x)<|by simp
 unfold oE at hk
 split at hk
 ·rename_i hs
  obtain⟨s1,s2⟩:=sb hs
  have hk:(aaw h sz ((fx x).get e) λnew=>jt h sz bytes ((fx s).get e) new k)=true:=hk
  obtain⟨l,ls,k1,k2,k3⟩:=ze hH s1 s2 dg hk
  rw[append_def has dS k3]
  exact nJ hH s1 s2 hvs k1 k2
 ·cases hk
theorem uK {sz bytes:Nat}{z:List AV}{s x:Operand}(hx:gG nt [s,x]=true)(hk:(mq sz bytes z s x).run ih e h k=true):Out k h.fr (aval P H (bL E) (.appendZ sz bytes z s x)):=by
 obtain⟨as,has,hvs⟩:=a7 hE<|aP hx (x:=s)<|by simp
 obtain⟨ax,dS,dg⟩:=a7 hE<|aP hx (x:=x)<|by simp
 unfold mq at hk
 split at hk
 ·rename_i hs
  obtain⟨hs,_⟩:=(Bool.and_eq_true _ _).mp hs
  obtain⟨hz,hs⟩:=(Bool.and_eq_true _ _).mp hs
  obtain⟨s1,s2⟩:=sb hs
  have hz:=ag hz
  rw[ar]at hz
  have hk:(dk ((fx x).get e) λn=>af (aU (Nat.ble n 4180)<|Nat.ble (Nat.mul n bytes) 281474976710656) (jt h sz bytes ((fx s).get e) (ep n<|rowA z) k) false)=true:=hk
  obtain⟨n,rfl,hk⟩:=ek dg hk
  obtain⟨hc,hk⟩:=au hk
  obtain⟨c1,c2⟩:=aW hc
  have hr:fQ sz (rowA z) z:=by have:=rowA_ok (cs:=z) (by omega);grind
  have c3:(Nat.ble n 1000000&&Nat.ble (n*bytes) 281474976710656)=true:=by
   rw[Bool.and_eq_true]
   exact⟨aj.2 (by have:=aj.1 c1;omega),c2⟩
  have e:aval P H (bL E) (.appendZ sz bytes z s x)=appendV H sz bytes as (ep n z):=by
   simp only[aval,has,dS,c3]
  rw[e]
  exact nJ hH s1 s2 hvs (RR.ep hr n) hk
 ·cases hk
omit hE hH in
theorem VA.zero:VA (vI ae) (.int .i64 (.ofNat 0)):=by
 have hb:0<ae:=by rw[qE];omega
 have:=VA.mkI (kV hb).1
 rw[nB,Nat.zero_add]at this
 exact this
noncomputable def ZF (H:Heap)(sz:Nat)(n:Nat)(rw:Nat)(b2:Option Pl):Option (List (List AV)):=match b2 with
 | none=>some []
 | some p=>H.gather p rw sz n
noncomputable def copyA (H:Heap)(sz n rw:Nat)(base:Option Pl)(l:List (List AV)):Option (AV × Heap):=match base,l with
   | some p,_::_=>(match H.scatter p rw sz 0 l with | some H'=>some (.int .i64<|.ofNat n,H') | none=>none)
   | _,[]=>some (.int .i64<|.ofNat n,H)
   | none,_=>none
omit hE hH in
theorem k9 {ρ:Operand->Option AV}{sz:Nat}{d s:Operand}{base b2:Option Pl}{dl c sl c2 rw rw2:Nat}{k1 k2:Bool}{l:List (List AV)}(hd:ρ d=some (.slice base dl c k1 rw))(hs:ρ s=some (.slice b2 sl c2 k2 rw2))
  (hl:ZF H sz (Nat.min sl dl) rw2 b2=some l):aval P H ρ (.copy sz d s)=copyA H sz (Nat.min sl dl) rw base l:=by
 simp only[aval,hd,hs,aL]
 cases b2 with
 | none=>cases hl;cases base<;>rfl
 | some p=>
  have hl:H.gather p rw2 sz (Nat.min sl dl)=some l:=hl
  simp only[hl]
  cases base<;>cases l<;>rfl
theorem Ie {sz:Nat}{d s:Operand}(hx:gG nt [d,s]=true)(hk:(ac7 sz d s).run ih e h k=true):Out k h.fr (aval P H (bL E) (.copy sz d s)):=by
 obtain⟨ad,had,V6⟩:=a7 hE<|aP hx (x:=d)<|by simp
 obtain⟨as,has,hvs⟩:=a7 hE<|aP hx (x:=s)<|by simp
 unfold ac7 at hk
 split at hk
 ·rename_i hs
  obtain⟨s1,s2⟩:=sb hs
  have hk:af (aU (Nat.beq ((fx d).get e).t 5)<|Nat.beq ((fx s).get e).t 5)
     (lh h ((fx s).get e).f ((fx s).get e).e ((fx s).get e).d (Nat.div ((fx s).get e).a 2) sz (Nat.min ((fx s).get e).c ((fx d).get e).c) λl=>
      gR h ((fx d).get e).f ((fx d).get e).e ((fx d).get e).d (Nat.div ((fx d).get e).a 2) sz 0 l λh=>k (mkV (.int .i64 (.ofNat (Nat.min ((fx s).get e).c ((fx d).get e).c)))) h)
     (af (Nat.beq ((fx d).get e).t 5) (iD ((fx s).get e)<|k (vI ae) h)<|af (Nat.beq ((fx s).get e).t 5) (iD ((fx d).get e)<|k (vI ae) h)<|iD ((fx d).get e)<|iD ((fx s).get e)<|k (vI ae) h)=true:=hk
  rcases aJ hk with⟨hc,hk⟩|⟨_,hk⟩
  ·obtain⟨c1,c2⟩:=aW hc
   obtain⟨rfl,hd⟩:=V6.A7<|ag c1
   obtain⟨rfl,hs⟩:=hvs.A7<|ag c2
   obtain⟨l,ls,k1,k2,k3,k4⟩:=aaa hH hs s1 s2 hk
   obtain⟨h',H',p1,p2,p3,p4⟩:=jl hH hd s1 s2 k1 k3
   have p1:H.scatter ⟨((fx d).get e).f,((fx d).get e).e,((fx d).get e).d⟩ (((fx d).get e).a/2) sz 0 ls=some H':=p1
   rw[k9 had has k4]
   cases ls with
   | nil=>
    have p1:some H=some H':=p1
    cases p1
    exact⟨.int .i64<|.ofNat<|Nat.min ((fx s).get e).c ((fx d).get e).c,_,h',H,rfl,VA.mkV _,p2,p3,p4⟩
   | cons r ls=>
    refine⟨.int .i64<|.ofNat<|Nat.min ((fx s).get e).c ((fx d).get e).c,_,h',H',?_,VA.mkV _,p2,p3,p4⟩
    simp only[copyA,p1]
  ·rcases aJ hk with⟨c1,hk⟩ | ⟨_,hk⟩
   ·obtain⟨rfl,hd⟩:=V6.A7 (ag c1)
    obtain⟨⟨rw',rfl⟩,hk⟩:=jc hvs hk
    refine .same hH (a:=.int .i64<|.ofNat 0) ?_ VA.zero hk
    rw[k9 had has (l:=[]) rfl]
    have:Nat.min 0 ((fx d).get e).c=0:=Nat.zero_min _
    rw[this];rfl
   ·rcases aJ hk with⟨c1,hk⟩ | ⟨_,hk⟩
    ·obtain⟨rfl,hd⟩:=hvs.A7 (ag c1)
     obtain⟨⟨rw',rfl⟩,hk⟩:=jc V6 hk
     refine .same hH (a:=.int .i64<|.ofNat 0) ?_ VA.zero hk
     have hm:Nat.min ((fx s).get e).c 0=0:=Nat.min_zero _
     rw[k9 had has (l:=[]) (by rw[hm];rfl)]
     rw[hm];rfl
    ·obtain⟨⟨rw',rfl⟩,hk⟩:=jc V6 hk
     obtain⟨⟨rw2,rfl⟩,hk⟩:=jc hvs hk
     refine .same hH (a:=.int .i64<|.ofNat 0) ?_ VA.zero hk
     rw[k9 had has (l:=[]) rfl]
     rfl
 ·cases hk
theorem BU {sz:Nat}{z:List AV}{x:Operand}(hx:gG nt [x]=true)(hk:(rL sz z x).run ih e h k=true):Out k h.fr (aval P H (bL E) (.clear sz z x)):=by
 obtain⟨ax,dS,dg⟩:=a7 hE<|aP hx (x:=x)<|by simp
 unfold rL at hk
 split at hk
 ·rename_i hs
  obtain⟨hs,_⟩:=(Bool.and_eq_true _ _).mp hs
  obtain⟨hz,hs⟩:=(Bool.and_eq_true _ _).mp hs
  obtain⟨s1,s2⟩:=sb hs
  have hz:=ag hz
  rw[ar]at hz
  have hr:fQ sz (rowA z) z:=by have:=rowA_ok (cs:=z) (by omega);grind
  have hk:af (Nat.beq ((fx x).get e).t 5) (gR h ((fx x).get e).f ((fx x).get e).e ((fx x).get e).d (Nat.div ((fx x).get e).a 2) sz 0 (ep ((fx x).get e).c (rowA z)) λh=>k vU h) (lX ((fx x).get e)<|k vU h)=true:=hk
  rcases aJ hk with⟨c1,hk⟩|⟨_,hk⟩
  ·obtain⟨rfl,hlt⟩:=dg.A7 (ag c1)
   obtain⟨h',H',p1,p2,p3,p4⟩:=jl hH hlt s1 s2 (RR.ep hr _) hk
   have p1:H.scatter ⟨((fx x).get e).f,((fx x).get e).e,((fx x).get e).d⟩ (((fx x).get e).a/2) sz 0 (ep ((fx x).get e).c z)=some H':=p1
   refine⟨.undef,vU,h',H',?_,VA.undef,p2,p3,p4⟩
   simp only[aval,dS]
   cases hc:((fx x).get e).c with
   | zero=>
    rw[hc]at p1
    have p1:some H=some H':=p1
    grind
   | succ n=>
    grind
  ·obtain⟨hc,hk⟩:=jD dg hk
   rcases hc with⟨rw',rfl⟩|rfl
   ·exact .same hH (by simp only[aval,dS]<;>rfl) VA.undef hk
   ·exact .same hH (by simp only[aval,dS]<;>rfl) VA.undef hk
 ·cases hk
omit hE hH in
theorem b2s_go:∀{l:List (R V)}{ls:List (List AV)},RR 1 l ls->∀(s s':ByteArray),aw (λ(s:ByteArray)(r:R V)=>match av (rg 0 r) with
 | some (.int .u8<|.ofNat b)=>some<|s.push<|UInt8.ofNat b
 | _=>none) l s=some s'->aw (λ(s:ByteArray)(r:List AV)=>match r with
     | [.int .u8 (.ofNat b)]=>some<|s.push<|UInt8.ofNat b
     | _=>none) ls s=some s':=by
 intro l ls hl
 induction hl with
 | nil=>intro s s' h;exact h
 | @cons r row rs ls hr _ ih=>
  intro s s' h
  rw[ah]at h |-
  obtain⟨s1,h1,h2⟩:=h
  refine⟨s1,?_,ih _ _ h2⟩
  split at h1
  ·rename_i b hb
   obtain⟨c,hc,hv⟩:=hr.get (i:=0)<|by omega
   rw[eX]at hb
   have:=eM hv hb
   subst this
   match row,hr.len,hc with
   | [x],_,hc=>cases hc;exact h1
  ·cases h1
theorem NR {x:Operand}(hx:gG nt [x]=true)(hk:(KW x).run ih e h k=true):Out k h.fr (aval P H (bL E) (.b2s x)):=by
 obtain⟨ax,dS,dg⟩:=a7 hE<|aP hx (x:=x)<|by simp
 have hk:(aaw h 1 ((fx x).get e) λl=>aE (aw (λ(s:ByteArray)(r:R V)=>match av (rg 0 r) with
 | some (.int .u8<|.ofNat b)=>some<|s.push<|UInt8.ofNat b
 | _=>none) l ByteArray.empty) λs=>k (cH (.str s)) h)=true:=hk
 unfold aaw at hk
 rcases aJ hk with⟨c1,hk⟩|⟨_,hk⟩
 ·obtain⟨rfl,hlt⟩:=dg.A7 (ag c1)
  obtain⟨l,ls,k1,k2,k3,k4⟩:=aaa hH hlt (by omega) (by omega) hk
  have k4:H.gather ⟨((fx x).get e).f,((fx x).get e).e,((fx x).get e).d⟩ (((fx x).get e).a/2) 1 ((fx x).get e).c=some ls:=k4
  obtain⟨s,k5,k6⟩:=aY k3
  have k7:=b2s_go k1 _ _ k5
  refine .same hH (a:=.str s) ?_ (VA.eU rfl) k6
  simp only[aval,dS,k4]
  exact congrArg (λz=>match z with | some s=>some (AV.str s,H) | none=>none) k7
 ·obtain⟨hc,hk⟩:=jD dg hk
  have hk:k (cH<|.str ByteArray.empty) h=true:=hk
  rcases hc with⟨rw',rfl⟩|rfl
  ·exact .same hH (a:=.str .empty) (by simp only[aval,dS]) (VA.eU rfl) hk
  ·exact .same hH (a:=.str .empty) (by simp only[aval,dS]) (VA.eU rfl) hk
end
end Go.Ev
namespace Go.Ev
variable [Sg]
noncomputable def D8 (ρ:Operand->Option AV)(sz len:Nat)(p:Nat × Operand):Option (Nat × List AV):=match ρ p.2 with
 | some v=>match partCells sz v with
  | some cs=>match Nat.blt p.1 len with | true=>some (p.1,cs) | false=>none
  | none=>none
 | none=>none
noncomputable def K6 (t:Tr (List AV))(p:Nat × List AV):Option (Tr (List AV)):=some (t.put p.1 p.2)
theorem bslice_def (ρ:Operand->Option AV)(sz len:Nat)(z:List AV)(parts:List (Nat × Operand)):allocOf ρ (.bslice sz len z parts)=match aI (D8 ρ sz len) parts with
  | some l=>(match rowsOf (ep len z) with
   | some t=>(match aw K6 l t with
    | some t'=>some (.rows t' len sz false,λb=>.slice (some ⟨b,0,0⟩) len len false sz)
    | none=>none)
   | none=>none)
  | none=>none:=rfl
theorem t7 {α:Type}(n i:Nat)(x:α)(h:i<n):(ep n x)[i]?=some x:=by
 unfold ep
 grind
section
variable {P:Program}{K:Orc}{nt:Nat}{e:Env}{E:Tr AV}{h:FH}{H:Heap}{ih:bT}{k:V->FH->Bool}
variable (hE:ij nt e E)
include hE
theorem D2 {sz len:Nat}(hsz:sz<=4180)(hlen:len<=4180){f:R (R V)->Bool}:∀(parts:List (Nat × Operand))(T:Tr (List AV))(rs:R (R V)),d9 (λp:Nat × Operand=>ez nt p.2&&Nat.blt p.1 len) parts=true ->
  (∀r,r<len->∃row,T.get r=some row/\fQ sz (atR r rs) row)->rM sz len parts e f rs=true ->
  ∃l T' rs',aI (D8 (bL E) sz len) parts=some l/\aw K6 l T=some T'/\(∀r,r<len->∃row,T'.get r=some row/\fQ sz (atR r rs') row)/\f rs'=true:=by
 intro parts
 induction parts with
 | nil=>intro T rs _ hr hf;exact⟨[],T,rs,rfl,rfl,hr,hf⟩
 | cons p parts ih=>
  intro T rs hx hr hf
  obtain⟨fe,iI⟩:=(bR _ _ _).1 hx
  obtain⟨fe,A6⟩:=(Bool.and_eq_true _ _).mp fe
  obtain⟨a,ha,hv⟩:=a7 hE fe
  have hf:((VE sz).run ((fx p.2).get e) λr=>rM sz len parts e f<|jh p.1 r rs)=true:=hf
  obtain⟨cs,r,h1,h2,h3⟩:=D3 hv hsz hf
  have hlt:=aA.1 A6
  obtain⟨l,T',rs',k1,k2,k3,k4⟩:=ih (T.put p.1 cs) (jh p.1 r rs) iI (λi hi=>by
   rw[Tr.aR,jN,dV (by omega)<|by omega]
   by_cases tj:p.1=i
   ·grind
   grind) h3
  refine⟨(p.1,cs)::l,T',rs',?_,?_,k3,k4⟩
  ·rw[aV]
   exact⟨(p.1,cs),l,by simp only[D8,ha,h1,A6],k1,rfl⟩
  ·rw[ah]
   exact⟨_,rfl,k2⟩
theorem pq {op:AOp}{f:FO->(Nat->V)->Bool}(hk:(nI nt op).run e f=true) :
  ∃o fn fo g,allocOf (bL E) op=some (o,fn)/\(gy fo (some o)/\(fo.t=1\/fo.t=2))/\(∀b,b<262144->VA (g b) (fn b))/\f fo g=true:=by
 have one:∀{n:Nat}{r:R V}{cs:List AV},fQ n r cs->gy (TI r n) (some<|.rows (Tr.lf.put 0 cs) 1 n false):=by
  intro n r cs hr
  refine gy.ow (o:=TI r n) rfl (by show 1<=4180;omega) hr.small λi hi=>?_
  have hi:i<1:=hi
  have:i=0:=by omega
  subst this
  refine⟨cs,Tr.a8 _ _ _,?_⟩
  exact hr
 cases op with
 | alloc n cs=>
  have hk:(qR nt n cs).run e f=true:=hk
  unfold qR at hk
  split at hk
  ·rename_i hc
   obtain⟨hc,_⟩:=(Bool.and_eq_true _ _).mp hc
   obtain⟨h1,h2⟩:=(Bool.and_eq_true _ _).mp hc
   have h1:=ag h1
   rw[ar]at h1
   have h2:=aj.1 h2
   have hr:fQ n (rowA cs) cs:=by have:=rowA_ok (cs:=cs) (by omega);grind
   exact⟨_,_,_,_,rfl,⟨one hr,.inl rfl⟩,λb hb=>VA.Sm hb,hk⟩
  ·cases hk
 | box n x=>
  have hk:(Cb nt n x).run e f=true:=hk
  unfold Cb at hk
  split at hk
  ·rename_i hc
   obtain⟨h1,h2⟩:=(Bool.and_eq_true _ _).mp hc
   obtain⟨a,ha,hv⟩:=a7 hE h1
   have hk:((VE n).run ((fx x).get e) λr=>f (TI r n) λb=>vP b 0 0)=true:=hk
   obtain⟨cs,r,k1,k2,k3⟩:=D3 hv (aj.1 h2) hk
   refine⟨.rows (Tr.lf.put 0 cs) 1 n false,λb=>.ptr<|some ⟨b,0,0⟩,_,_,?_,⟨one k2,.inl rfl⟩,λb hb=>VA.Sm hb,k3⟩
   simp only[allocOf,ha,k1]
  ·cases hk
 | bslice sz len z parts=>
  have hk:(nW nt sz len z parts).run e f=true:=hk
  unfold nW at hk
  split at hk
  ·rename_i hc
   obtain⟨hc,h5⟩:=(Bool.and_eq_true _ _).mp hc
   obtain⟨hc,_⟩:=(Bool.and_eq_true _ _).mp hc
   obtain⟨hc,h3⟩:=(Bool.and_eq_true _ _).mp hc
   obtain⟨h1,h2⟩:=(Bool.and_eq_true _ _).mp hc
   have h1:=ag h1
   rw[ar]at h1
   have h2:=aj.1 h2
   have h3:=aj.1 h3
   have hr:fQ sz (rowA z) z:=by have:=rowA_ok (cs:=z) (by omega);grind
   obtain⟨t,t1,t2⟩:=fO<|ep len z
   have hk:rM sz len parts e (λrs=>f (Kw rs len sz) λb=>vS b 0 0 len len<|Nat.mul sz 2) (rpR<|rowA z)=true:=hk
   obtain⟨l,T',rs',k1,k2,k3,k4⟩:=D2 hE h2 h3 parts t (rpR<|rowA z) h5 (λr hr'=>⟨z,by rw[t2,t7 _ _ _ hr'],by rw[at_rpR];exact hr⟩) hk
   refine⟨.rows T' len sz false,λb=>.slice (some ⟨b,0,0⟩) len len false sz,_,_,?_,⟨gy.ow (o:=Kw rs' len sz) rfl h3 h2 k3,.inl rfl⟩,λb hb=>?_,k4⟩
   ·rw[bslice_def,k1]
    grind
   ·have:=VA.Sn (r:=0) (o:=0) (l:=len) (c:=len) (a:=sz*2) hb
    have e1:Nat.beq (sz*2%2) 1=false:=by
     have:sz*2%2=0:=by omega
     rw[this];rfl
    grind
  ·cases hk
 | mkslice sz bytes z l c=>
  have hk:(lY nt sz bytes z l c).run e f=true:=hk
  unfold lY at hk
  split at hk
  ·rename_i hc
   obtain⟨hc,h5⟩:=(Bool.and_eq_true _ _).mp hc
   obtain⟨hc,h4⟩:=(Bool.and_eq_true _ _).mp hc
   obtain⟨hc,_⟩:=(Bool.and_eq_true _ _).mp hc
   obtain⟨h1,h2⟩:=(Bool.and_eq_true _ _).mp hc
   have h1:=ag h1
   rw[ar]at h1
   have h2:=aj.1 h2
   have hr:fQ sz (rowA z) z:=by have:=rowA_ok (cs:=z) (by omega);grind
   obtain⟨al,Sb,hvl⟩:=a7 hE h4
   obtain⟨ac,hac,A5⟩:=a7 hE h5
   have hk:(dk ((fx l).get e) λln=>dk ((fx c).get e) λcn=>
    af (aU (Nat.ble ln cn) (aU (Nat.ble cn 4180) (Nat.ble (Nat.mul bytes cn) 281474976710656))) (f (Kw (rpR (rowA z)) cn sz) λb=>vS b 0 0 ln cn (Nat.mul sz 2)) false)=true:=hk
   obtain⟨ln,rfl,hk⟩:=ek hvl hk
   obtain⟨cn,rfl,hk⟩:=ek A5 hk
   obtain⟨hq,hk⟩:=au hk
   obtain⟨q1,q2⟩:=aW hq
   obtain⟨q2,q3⟩:=aW q2
   have q2:=aj.1 q2
   obtain⟨t,t1,t2⟩:=fO<|ep cn z
   have c3:(Nat.ble ln cn&&Nat.ble cn 1000000&&Nat.ble (bytes*cn) 281474976710656)=true:=by
    rw[Bool.and_eq_true,Bool.and_eq_true]
    exact⟨⟨q1,aj.2<|by omega⟩,q3⟩
   refine⟨.rows t cn sz false,λb=>.slice (some ⟨b,0,0⟩) ln cn false sz,_,_,?_,⟨gy.ow (o:=Kw (rpR<|rowA z) cn sz) rfl q2 h2<|λr hr'=>⟨z,by rw[t2];exact t7 cn r z hr',?_⟩,.inl rfl⟩,λb hb=>?_,hk⟩
   ·simp only[allocOf,Sb,hac,c3,t1]
   ·show fQ sz (atR r<|rpR<|rowA z) z
    rw[at_rpR];exact hr
   ·have:=VA.Sn (r:=0) (o:=0) (l:=ln) (c:=cn) (a:=sz*2) hb
    have e1:Nat.beq (sz*2%2) 1=false:=by
     have:sz*2%2=0:=by omega
     rw[this];rfl
    grind
  ·cases hk
 | mkmap=>exact⟨_,_,_,_,rfl,⟨gy.mkMap (o:=⟨pU,mW,[],2,0,0⟩) rfl rfl,.inr rfl⟩,λb hb=>VA.mkM hb,hk⟩
 | _=>cases hk
theorem Ju (hH:cj h H){op:AOp}(hop:∀o fn,allocOf (bL E) op=some (o,fn)->aval P H (bL E) op=some (fn (H.new o).1,(H.new o).2))(hk:(wk nt op).run ih e h k=true):Out k h.fr (aval P H (bL E) op):=by
 have hk:((nI nt op).run e λo f=>nX h o λb h=>k (f b) h)=true:=hk
 obtain⟨o,fn,fo,g,h1,⟨h2,_⟩,h3,h4⟩:=pq hE hk
 obtain⟨h',k1,k2,k3,k4⟩:=hH.new h4 h2
 exact⟨_,_,h',_,hop o fn h1,h3 _ k1,k2,k3,k4⟩
def AOp.kJ:AOp->Prop
 | .call ..=>False
 | .invoke ..=>False
 | _=>True
theorem Qu (hH:cj h H){op:AOp}(hq:op.kJ)(hx:gG nt op.opers=true)(hk:(Zr P nt op).run ih e h k=true):Out k h.fr (aval P H (bL E) op):=by
 have al:∀{op:AOp},(∀o fn,allocOf (bL E) op=some (o,fn)->aval P H (bL E) op=some (fn (H.new o).1,(H.new o).2))->(wk nt op).run ih e h k=true->Out k h.fr (aval P H (bL E) op):=λh1 h2=>Ju hE hH h1 h2
 cases op with
 | mv x=>exact Vg hE hH hx hk
 | pick c a b=>exact Jv hE hH hx hk
 | alloc n cs=>exact al (λo fn ho=>by simp only[aval,ho]) hk
 | box n x=>exact al (λo fn ho=>by simp only[aval,ho]) hk
 | build z parts=>exact BE hE hH hx hk
 | bslice sz len z parts=>exact al (λo fn ho=>by simp only[aval,ho]) hk
 | load g n x=>exact Jd hE hH hx hk
 | store n a x=>exact FY hE hH hx hk
 | nilchk x=>exact Ab hE hH hx hk
 | arith op x y=>exact Bt hE hH hx hk
 | eql neg p x y=>exact N2 hE hH hx hk
 | un op x=>exact VM hE hH hx hk
 | convI t x=>exact BZ hE hH hx hk
 | convS x=>exact fE hH (Co<|eD hE hx) hk
 | b2s x=>exact NR hE hH hx hk
 | mkif t x=>exact fE hH (IA<|eD hE hx) hk
 | mkfn f a b=>exact Jk hE hH hx hk
 | mkmf n x=>exact fE hH (IB<|eD hE hx) hk
 | mkmap=>exact al (λo fn ho=>by simp only[aval,ho]) hk
 | ins lit kk m q v=>exact Qf hE hH hx hk
 | mkslice sz bytes z l c=>exact al (λo fn ho=>by simp only[aval,ho]) hk
 | slc sz x lo hi mx=>exact RM hE hH hx hk
 | slcA n sz x lo hi mx=>exact fE hH (IC<|eD hE hx) hk
 | slcS x lo hi=>exact fE hH (IE<|eD hE hx) hk
 | faddr off x=>exact Cc hE hH hx hk
 | fld off n g x=>exact N8 hE hH hx hk
 | iaddrS sz x i=>exact zK hE hH hx hk
 | iaddrA len sz x i=>exact zJ hE hH hx hk
 | idxA len sz g x i=>exact I2 hE hH hx hk
 | idxS x i=>exact fE hH (Iu<|eD hE hx) hk
 | look kk z ok m q=>exact Jf hE hH hx hk
 | extract x i=>exact ve hE hH hx hk
 | lenS x=>exact Jc hE hH hx hk
 | lenT x=>exact fE hH (Iy<|eD hE hx) hk
 | lenM x=>exact Jb hE hH hx hk
 | lenC n=>exact fE (e:=e) hH Iv hk
 | cap x=>exact fE hH (Ps<|eD hE hx) hk
 | minmax mx args=>exact Vf hE hH hx hk
 | append sz bytes s x=>exact yG hE hH hx hk
 | appendZ sz bytes z s x=>exact uK hE hH hx hk
 | copy sz d s=>exact Ie hE hH hx hk
 | clear sz z x=>exact BU hE hH hx hk
 | delete kk m q=>exact y7 hE hH hx hk
 | call f args=>exact hq.elim
 | invoke r name args=>exact hq.elim
 | defr f args=>cases hk
 | bad=>cases hk
omit hE in
theorem oC {op:AOp}(hk:(B8 P nt op).run ih e h k=true):gG nt op.opers=true/\(Zr P nt op).run ih e h k=true:=by
 unfold B8 at hk
 rw[Ag]at hk
 cases hx:gG nt op.opers with
 | true=>rw[hx]at hk;exact⟨rfl,hk⟩
 | false=>rw[hx]at hk;cases hk
theorem gP (hH:cj h H){op:AOp}(hq:op.kJ)(hk:(B8 P nt op).run ih e h k=true):Out k h.fr (aval P H (bL E) op):=
 Qu hE hH hq (oC hk).1 (oC hk).2
end
structure eL (P:Program)(K:Orc)(ih:bT):Prop where
 call:∀{f:FuncId}{args:List V}{as:List AV}{h:FH}{H:Heap}{k:V->FH->Bool},VAs args as->cj h H->ih.call f args h k=true ->
  ∃m a v h' H',(ev P K m).call f as H=some (a,H')/\VA v a/\cj h' H'/\h'.fr=h.fr/\k v h'=true
 WG:∀{l:Nat}{args:List V}{as:List AV}{h:FH}{H:Heap}{k:V->FH->Bool},VAs args as->cj h H->ih.WG l args h k=true ->
  ∃m a v h' H',roundOf (ev P K m) l as H=some (a,H')/\VA v a/\cj h' H'/\h'.fr=h.fr/\k v h'=true
theorem Ac (P:Program)(K:Orc):eL P K dw:=⟨λ_ _ h=>absurd h Bool.false_ne_true,λ_ _ h=>absurd h Bool.false_ne_true⟩
def Lc (P:Program)(K:Orc)(ρ:Operand->Option AV)(op:AOp)(ds:List cD)(H:Heap)(k:V->FH->Bool)(fr:sw):Prop:=
 ∃m a v h' H',oper P (ev P K m) ρ op ds H=some (.mk a ds H')/\VA v a/\cj h' H'/\h'.fr=fr/\k v h'=true
theorem wj {P:Program}{ih:fP}{ρ:Operand->Option AV}{op:AOp}{ds:List cD}{H:Heap}(hq:op.kJ):oper P ih ρ op ds H=match aval P H ρ op with | some (v,H')=>some (.mk v ds H') | none=>none:=by
 cases op<;>first | rfl | exact hq.elim
theorem BQ {P:Program}{K:Orc}{ih:bT}(hC:eL P K ih){x:AV}{args:List V}{as:List AV}{h:FH}{H:Heap}{k:V->FH->Bool}(ha:VAs args as)(hH:cj h H)(hk:BP P ih x args h k=true) :
  ∃m a v h' H',callV P (ev P K m) x as H=some (a,H')/\VA v a/\cj h' H'/\h'.fr=h.fr/\k v h'=true:=by
 cases x with
 | mfunc name r=>
  cases r with
  | iface t w=>
   have hk:aE (meth P t name) (λf=>ih.call f (mkV w::args) h k)=true:=hk
   obtain⟨f,h1,h2⟩:=aY hk
   obtain⟨m,a,v,h',H',k1,k2⟩:=hC.call (.cons (VA.mkV w) ha) hH h2
   exact⟨m,a,v,h',H',by simp only[callV,h1,k1],k2⟩
  | _=>cases hk
 | yield l=>exact hC.WG ha hH hk
 | _=>cases hk
theorem I5 {P:Program}{name:String}{x:AV}{args:List V}{k:FuncId->List V->Bool}(hk:Qh P name x args k=true):∃t w f,x=.iface t w/\meth P t name=some f/\k f (mkV w::args)=true:=by
 cases x with
 | iface t w=>
  have hk:aE (meth P t name) (λf=>k f<|mkV w::args)=true:=hk
  obtain⟨f,h1,h2⟩:=aY hk
  grind
 | _=>cases hk
theorem DK {P:Program}{K:Orc}{nt:Nat}{e:Env}{E:Tr AV}{h:FH}{H:Heap}{ih:bT}{k:V->FH->Bool}(hC:eL P K ih)(hE:ij nt e E)(hH:cj h H){op:AOp}{ds:List cD}(hk:(B8 P nt op).run ih e h k=true) :
  Lc P K (bL E) op ds H k h.fr:=by
 have quiet:op.kJ->Lc P K (bL E) op ds H k h.fr:=by
  intro hq
  obtain⟨a,v,h',H',h1,h2,h3,h4,h5⟩:=gP hE hH hq hk
  exact⟨0,a,v,h',H',by rw[wj hq,h1],h2,h3,h4,h5⟩
 obtain⟨hx,hk'⟩:=oC hk
 cases op with
 | call f args=>
  have Qa:gG nt args=true:=((bR _ _ _).1 hx).2
  have Zb:ez nt f=true:=((bR _ _ _).1 hx).1
  obtain⟨as,has,CS⟩:=lj hE Qa
  obtain⟨fv,VZ,V7⟩:=a7 hE Zb
  have gen:af (Nat.beq ((fx f).get e).t 8) (c9 ((fx f).get e).r λr=>j8 ((fx f).get e).a λg=>ih.call g (bI (bJ r ((fx f).get e).c 0)<|bI (iG args e)<|bJ r ((fx f).get e).b ((fx f).get e).c) h k)
     (af (Nat.beq ((fx f).get e).t 0) (BP P ih ((fx f).get e).x (iG args e) h k) false)=true->Lc P K (bL E) (.call f args) ds H k h.fr:=by
   intro hk
   rcases aJ hk with⟨hb,hk⟩|⟨_,hk⟩
   ·obtain⟨r,xs,ys,rfl,hr,hx,hy,hl,h1,h2⟩:=V7.Zj (ag hb)
    have hk:=dW hk hr
    rw[a6]at hk
    have v1:VAs (bJ r ((fx f).get e).c 0) xs:=by
     rw[<- hx];exact VAs.cells λi a ha=>by grind
    have v2:VAs (bJ r ((fx f).get e).b ((fx f).get e).c) ys:=by
     rw[<- hy];exact VAs.cells h2
    rw[aN,aN]at hk
    obtain⟨m,a,v,h',H',k1,k2⟩:=hC.call (v1.append<|CS.append v2) hH hk
    refine⟨m,a,v,h',H',?_,k2⟩
    simp only[oper,VZ,has,callV,aN,k1]
   ·obtain⟨hb,hk⟩:=au hk
    obtain⟨rfl,_⟩:=V7.U7<|ag hb
    obtain⟨m,a,v,h',H',k1,k2⟩:=BQ hC CS hH hk
    refine⟨m,a,v,h',H',?_,k2⟩
    simp only[oper,VZ,has]
    grind
  cases f with
  | func g=>
   obtain⟨m,a,v,h',H',k1,k2⟩:=hC.call CS hH hk'
   refine⟨m,a,v,h',H',?_,k2⟩
   have e0:bL E (.func g)=some (.func g [] []):=rfl
   have e1:bI [] (bI as [])=as:=by rw[aN,aN,List.append_nil];rfl
   simp only[oper,e0,has,callV,e1,k1]
  | _=>exact gen hk'
 | invoke r name args=>
  have Qa:gG nt args=true:=((bR _ _ _).1 hx).2
  have Zb:ez nt r=true:=((bR _ _ _).1 hx).1
  obtain⟨as,has,CS⟩:=lj hE Qa
  obtain⟨fv,VZ,V7⟩:=a7 hE Zb
  have hk:af (Nat.beq ((fx r).get e).t 0) (Qh P name ((fx r).get e).x (iG args e) λf args=>ih.call f args h k) false=true:=hk'
  obtain⟨hb,hk⟩:=au hk
  obtain⟨e1,_⟩:=V7.U7<|ag hb
  obtain⟨t,w,f,e2,h1,h2⟩:=I5 hk
  have e2:((fx r).get e).x=.iface t w:=e2
  rw[e2]at e1
  subst e1
  obtain⟨m,a,v,h',H',k1,k2⟩:=hC.call (.cons (VA.mkV w) CS) hH h2
  refine⟨m,a,v,h',H',?_,k2⟩
  simp only[oper,VZ,h1,has,k1]
 | _=>exact quiet trivial
end Go.Ev
namespace Go.Ev
variable [Sg]
theorem pC {P:Program}{nt:Nat}{o:Oper}{t:Nat}(h:(cOper P nt o).dst=some t):t<nt:=by
 unfold cOper at h
 split at h
 ·cases h
 ·rename_i d hd
  split at h
  ·rename_i hb;cases h;exact aA.1 hb
  ·cases h
theorem dH {nt:Nat}{ops:Array Oper}{g:Option (Nat × Bool)}{e:Env}{E:Tr AV}{y n:Bool}(hE:ij nt e E)(hk:(guardF nt ops g).run e y n=true) :
  (wanted E ops g=some true/\y=true)\/(wanted E ops g=some false/\n=true):=by
 unfold guardF at hk
 split at hk
 ·exact .inl ⟨rfl,hk⟩
 ·rename_i j w
  split at hk
  ·rename_i o ho
   split at hk
   ·rename_i d hd
    split at hk
    ·rename_i hb
     obtain⟨a,ha,hv⟩:=hE.slot d<|aA.1 hb
     have hk:af (Nat.beq ((da d).g V e).t 2) y (af (Nat.beq ((da d).g V e).t 0) false n)=true:=hk
     rw[(dr d V).1]at hk
     unfold wanted
     simp only[ho,hd,ha]
     rcases aJ hk with⟨h1,hk⟩|⟨h1,hk⟩
     ·have:=hv.U8 (ag h1)
      grind
     ·rcases aJ hk with⟨_,hk⟩ | ⟨h2,hk⟩
      ·cases hk
      ·refine .inr ⟨?_,hk⟩
       have h1:=kU h1
       have h2:=kU h2
       cases hv with
       | gen k _=>grind
       | tt k=>grind
       | Df k k1=>
        generalize (atR d e).x=x at k1
        cases x<;>first | rfl | cases k1
       | DM k k1 k2 k3=>
        grind
       | oH k _ n _ _ _ _ _=>generalize n+(atR d e).b=m;cases m<;>rfl
       | _=>rfl
    ·rename_i hb
     obtain⟨a,ha,hv⟩:=hE.slot d<|aA.1 hb
     have hk:af (Nat.beq ((da d).g V e).t 3) y (af (Nat.beq ((da d).g V e).t 0) false n)=true:=hk
     rw[(dr d V).1]at hk
     unfold wanted
     simp only[ho,hd,ha]
     rcases aJ hk with⟨h1,hk⟩|⟨h1,hk⟩
     ·have:=hv.V8 (ag h1)
      grind
     ·rcases aJ hk with⟨_,hk⟩ | ⟨h2,hk⟩
      ·cases hk
      ·refine .inr ⟨?_,hk⟩
       have h1:=kU h1
       have h2:=kU h2
       cases hv with
       | gen k _=>grind
       | ff k=>grind
       | Df k k1=>
        generalize (atR d e).x=x at k1
        cases x<;>first | rfl | cases k1
       | DM k k1 k2 k3=>
        grind
       | oH k _ n _ _ _ _ _=>generalize n+(atR d e).b=m;cases m<;>rfl
       | _=>rfl
    ·cases hk
   ·cases hk
  ·cases hk
noncomputable def rstep (P:Program)(ih:fP)(nt:Nat)(ops:Array Oper)(s:CR)(o:Oper):Option CR:=match s with
  | .mk _ e ds H=>match cOper P nt o with
   | ⟨d,op,g⟩=>match wanted e ops g with
    | some true=>match oper P ih (bL e) op ds H with
     | some (.mk v ds' H')=>some<|.mk .normal (putO e d v) ds' H'
     | none=>none
    | some false=>some<|.mk .normal (putO e d .undef) ds H
    | none=>none
theorem ua {P:Program}{a b:fP}(hle:lO a b){nt:Nat}{ops:Array Oper}{s c:CR}{o:Oper}(hc:rstep P a nt ops s o=some c):rstep P b nt ops s o=some c:=by
 cases s with
 | mk x e ds H=>
  simp only[rstep]at hc |-
  split at hc
  ·split at hc
   ·rename_i hop
    rw[lF hle hop]
    exact hc
   ·cases hc
  ·exact hc
  ·cases hc
theorem om {P:Program}{K:Orc}{n m:Nat}(h:n<=m){nt:Nat}{ops:Array Oper}{l:List Oper}{s c:CR}(hc:aw (rstep P (ev P K n) nt ops) l s=some c):aw (rstep P (ev P K m) nt ops) l s=some c:=
 eS (λ_ _ _ hf=>ua (eP P K h) hf) _ _ _ hc
section
variable {P:Program}{K:Orc}{nt:Nat}{ops:Array Oper}{ih:bT}
theorem Jq (hC:eL P K ih){o:Oper}{e:Env}{E:Tr AV}{h:FH}{H:Heap}{ds:List cD}{k:Env->FH->Bool}(hE:ij nt e E)(hH:cj h H)(hk:(oneF P nt ops o).run ih e h k=true) :
  ∃m E' H' e' h',rstep P (ev P K m) nt ops (.mk .normal E ds H) o=some (.mk .normal E' ds H')/\ij nt e' E'/\cj h' H'/\h'.fr=h.fr/\k e' h'=true:=by
 unfold oneF at hk
 rw[jy]at hk
 have hd:=@pC _ P nt o
 simp only[rstep]
 cases hc:cOper P nt o with
 | mk d op g=>
  rw[hc]at hk hd
  have run:(B8 P nt op).run ih e h (λv h=>k ((fs d).put v e) h)=true->wanted E ops g=some true->∃m E' H' e' h',(match wanted E ops g with
    | some true=>(match oper P (ev P K m) (bL E) op ds H with
     | some (.mk v ds' H')=>some<|CR.mk .normal (putO E d v) ds' H'
     | none=>none)
    | some false=>some<|.mk .normal (putO E d .undef) ds H
    | none=>none)=some (.mk .normal E' ds H')/\ij nt e' E'/\cj h' H'/\h'.fr=h.fr/\k e' h'=true:=by
   intro hk hw
   obtain⟨m,a,v,h',H',h1,h2,h3,h4,h5⟩:=DK (ds:=ds) hC hE hH hk
   exact⟨m,putO E d a,H',(fs d).put v e,h',by grind,jY hE (λt ht=>hd ht) h2,h3,h4,h5⟩
  cases g with
  | none=>exact run hk rfl
  | some g=>
   have hk:(guardF nt ops<|some g).run e ((B8 P nt op).run ih e h λv h=>k ((fs d).put v e) h) (k ((fs d).put vU e) h)=true:=hk
   rcases dH hE hk with⟨hw,hk⟩|⟨hw,hk⟩
   ·exact run hk hw
   ·exact⟨0,putO E d .undef,H,(fs d).put vU e,h,by rw[hw],jY hE (λt ht=>hd ht) VA.undef,hH,rfl,hk⟩
theorem DJ {o:Oper}{r:Fr}{e:Env}{h:FH}{k:Kt}:(Jr P nt ops o r).run ih e h k=(oneF P nt ops o).run ih e h λe h=>r.run ih e h k:=by
 unfold Jr oneF
 cases iV P nt o with
 | mk d op g=>cases g<;>rfl
theorem Jt (hC:eL P K ih):∀{l:List Oper}{e:Env}{E:Tr AV}{h:FH}{H:Heap}{ds:List cD}{k:Env->FH->Bool},ij nt e E->cj h H->(Qw P nt ops l).run ih e h k=true ->
  ∃m E' H' e' h',aw (rstep P (ev P K m) nt ops) l (.mk .normal E ds H)=some (.mk .normal E' ds H')/\ij nt e' E'/\cj h' H'/\h'.fr=h.fr/\k e' h'=true:=by
 intro l
 induction l with
 | nil=>intro e E h H ds k hE hH hk;exact⟨0,E,H,e,h,rfl,hE,hH,rfl,hk⟩
 | cons o l ihl=>
  intro e E h H ds k hE hH hk
  have hk:(Jr P nt ops o<|Qw P nt ops l).run ih e h k=true:=hk
  rw[DJ]at hk
  obtain⟨m1,E1,H1,e1,h1,k1,k2,k3,k4,k5⟩:=Jq (ds:=ds) hC hE hH hk
  obtain⟨m2,E2,H2,e2,h2,p1,p2,p3,p4,p5⟩:=ihl (ds:=ds) k2 k3 k5
  refine⟨max m1 m2,E2,H2,e2,h2,?_,p2,p3,p4.trans k4,p5⟩
  rw[ah]
  exact⟨_,ua (eP P K<|Nat.le_max_left ..) k1,om (Nat.le_max_right ..) p1⟩
end
theorem jP {n:Nat}{x y:AV}(h:same0 x y=true):sameN (n+1) x y=true:=by
 unfold sameN
 cases x<;>cases y<;>first | exact h | cases h
theorem FI {n:Nat}{u v:V}{a b:AV}(hu:VA u a)(hv:VA v b)(ht:u.t=v.t)(h0:0<u.t)(h8:u.t<8)(h:yn u v=true):sameN (n+1) a b=true:=by
 obtain⟨ha,h⟩:=au h
 have ha:u.a=v.a:=ag ha
 have CW:∀a:Int,ieq a a=true:=λa=>by rw[et];simp
 apply jP
 rcases aJ h with⟨h4,_⟩|⟨h4,h⟩
 ·have h4:u.t<4:=aA.1 h4
  have key:u.t=1\/u.t=2\/u.t=3:=by omega
  rcases key with k|k|k
  ·obtain⟨rfl,_⟩:=hu.CZ k
   obtain⟨rfl,_⟩:=hv.CZ<|by omega
   rw[ha]
   show(keq .i64 .i64&&ieq _ _)=true
   rw[CW];rfl
  ·have:=hu.U8 k
   have:=hv.U8<|by omega
   subst_vars;rfl
  ·have:=hu.V8 k
   have:=hv.V8<|by omega
   subst_vars;rfl
 ·have h4:¬u.t<4:=fB.1 h4
  obtain⟨hb,h⟩:=au h
  obtain⟨hc,h⟩:=au h
  obtain⟨hd,h⟩:=au h
  obtain⟨he,Gp⟩:=au h
  have hb:u.b=v.b:=ag hb
  have hc:u.c=v.c:=ag hc
  have hd:u.d=v.d:=ag hd
  have he:u.e=v.e:=ag he
  have Gp:u.f=v.f:=ag Gp
  have key:u.t=4\/u.t=5\/u.t=6\/u.t=7:=by omega
  rcases key with k|k|k|k
  ·obtain⟨rfl,_⟩:=hu.C0 k
   obtain⟨rfl,_⟩:=hv.C0<|by omega
   rw[ha,hb,hc]
   show(Nat.beq _ _&&Nat.beq _ _&&Nat.beq _ _)=true
   rw[bN,bN,bN];rfl
  ·obtain⟨rfl,_⟩:=hu.A7 k
   obtain⟨rfl,_⟩:=hv.A7<|by omega
   rw[ha,hb,hc,hd,he,Gp]
   show(Nat.beq _ _&&Nat.beq _ _&&Nat.beq _ _&&Nat.beq _ _&&Nat.beq _ _&&(_==_)&&Nat.beq _ _)=true
   simp only[bN,beq_self_eq_true,Bool.and_self]
  ·cases hu<;>cases hv<;>first | rfl | (exfalso;omega)
  ·obtain⟨rfl,_⟩:=hu.Qi k
   obtain⟨rfl,_⟩:=hv.Qi<|by omega
   rw[ha]
   exact bN _
theorem VA.mP {v:V}{a:AV}(h:VA v a)(ht:v.t=13):a=Sg.val v.a/\∀n,sameN (n+1) (Sg.val v.a) (Sg.val v.a)=true:=by
 cases h with
 | DM h h1 h2 h3=>grind
 | sym h _ _ _ _ _=>grind
 | bits h _ _ _ _ _=>grind
 | oH k _ _ _ _ _ _ _=>grind
 | te k _ _ _ _ _ _ _ _ _ _ _ _ _ _ _ _ _ _ _=>grind
 | pf k _ _ _ _ _ _ _ _ _ _ _=>grind
 | _=>simp_all
theorem J2 {n:Nat}{u v:V}{a b:AV}(hu:VA u a)(hv:VA v b)(ht:u.t=v.t)(h11:11<u.t)(h:yn u v=true):sameN (n+1) a b=true:=by
 obtain⟨ha,h⟩:=au h
 have ha:u.a=v.a:=ag ha
 rcases aJ h with⟨h4,_⟩|⟨_,h⟩
 ·have h4:u.t<4:=aA.1 h4
  omega
 obtain⟨hb,h⟩:=au h
 obtain⟨hc,h⟩:=au h
 obtain⟨hd,h⟩:=au h
 obtain⟨he,Gp⟩:=au h
 have hb:u.b=v.b:=ag hb
 have hc:u.c=v.c:=ag hc
 have Gp:u.f=v.f:=ag Gp
 have hk:=hu.kind
 have key:u.t=12\/u.t=13\/u.t=14\/u.t=15\/u.t=16\/u.t=17:=by omega
 have hd:u.d=v.d:=ag hd
 have he:u.e=v.e:=ag he
 rcases key with k|k|k|k|k|k
 ·obtain⟨rfl,_⟩:=hu.mQ k
  obtain⟨rfl,_⟩:=hv.mQ<|by omega
  apply jP
  have e:ed u=ed v:=by unfold ed;grind
  rw[e,Gp]
  show(keq (kindOf v.f) (kindOf v.f)&&ieq (ed v) (ed v))=true
  rw[et,ic];simp
 ·obtain⟨rfl,hs⟩:=hu.mP k
  obtain⟨rfl,_⟩:=hv.mP<|by omega
  grind
 ·obtain⟨m,m1,_,_,_,rfl⟩:=hu.od k
  obtain⟨m',m2,_,_,_,rfl⟩:=hv.od<|by omega
  apply jP
  rw[ha,m2]at m1
  rw[Int.ofNat.inj m1,hb,Gp]
  show(keq (kindOf v.f) (kindOf v.f)&&ieq _ _)=true
  rw[et,ic];simp
 ·obtain⟨_,n,cap,_,_,_,rfl,_,_,hn,Yi,_⟩:=hu.rk k
  obtain⟨_,n',cap',_,_,_,rfl,_,_,hn',Yj,_⟩:=hv.rk<|by omega
  apply jP
  rw[ha]at hn Yi
  rw[hn']at hn
  rw[Yj]at Yi
  rw[Int.ofNat.inj hn,Int.ofNat.inj Yi,Gp,he]
  show(Nat.beq _ _&&Nat.beq _ _&&Nat.beq _ _&&Nat.beq _ _&&Nat.beq _ _&&(_==_)&&Nat.beq _ _)=true
  simp only[bN,beq_self_eq_true,Bool.and_self]
 ·obtain⟨_,_,_,_,rfl,_⟩:=hu.oe k
  obtain⟨_,_,_,_,rfl,_⟩:=hv.oe<|by omega
  apply jP
  show(Nat.beq _ _&&Nat.beq _ _&&Nat.beq _ _)=true
  grind
 ·obtain⟨n,rfl,_,hn,_⟩:=hu.xJ k
  obtain⟨n',rfl,_,hn',_⟩:=hv.xJ<|by omega
  apply jP
  rw[ha,hn']at hn
  rw[Int.ofNat.inj hn,hb,Gp,he]
  unfold oslA
  split
  ·rfl
  ·show(Nat.beq _ _&&Nat.beq _ _&&Nat.beq _ _&&Nat.beq _ _&&Nat.beq _ _&&(_==_)&&Nat.beq _ _)=true
   simp only[bN,beq_self_eq_true,Bool.and_self]
theorem FF {n:Nat}{f:V->V->Bool}(hf:∀{u v:V}{a b:AV},VA u a->VA v b->f u v=true->sameN n a b=true){r s:R V}:∀(m i j:Nat)(cs cs':List AV),cs.length=m->cs'.length=m->(∀(k:Nat)a,cs[k]?=some a->VA (atR (i+k) r) a)->(∀(k:Nat)a,cs'[k]?=some a->VA (atR (j+k) s) a) ->
  FE f r s m i j=true->sameL (sameN n) cs cs'=true:=by
 intro m
 induction m with
 | zero=>
  intro i j cs cs' h1 h2 _ _ _
  match cs,cs',h1,h2 with
  | [],[],_,_=>rfl
 | succ m ihm=>
  intro i j cs cs' h1 h2 h3 h4 h
  match cs,cs',h1,h2 with
  | c::cs,c'::cs',h1,h2=>
   have h:(j8 i λi=>j8 j λj=>af (f (rg i r)<|rg j s) (FE f r s m (Nat.succ i)<|Nat.succ j) false)=true:=h
   rw[a6,a6]at h
   obtain⟨h5,h6⟩:=au h
   rw[eX,eX]at h5
   have e1:=hf (h3 0 c rfl) (h4 0 c' rfl) h5
   have e2:=ihm (i+1) (j+1) cs cs' (by simpa using h1) (by simpa using h2) (λk a ha=>by have:=h3 (k+1) a (by simpa using ha);grind) (λk a ha=>by have:=h4 (k+1) a (by simpa using ha);grind) h6
   show(sameN n c c'&&sameL (sameN n) cs cs')=true
   grind
theorem ub {n:Nat}{f:V->V->Bool}(hf:∀{u v:V}{a b:AV},VA u a->VA v b->f u v=true->sameN n a b=true){u v:V}{a b:AV}(hu:VA u a)(hv:VA v b)(h:ym (n+1) f u v=true):sameN (n+1) a b=true:=by
 have gen:mX (n+1) u v=true->sameN (n+1) a b=true:=by
  intro h
  unfold mX at h
  obtain⟨a',h1,h⟩:=aY h
  obtain⟨b',h2,h⟩:=aY h
  rw[eM hu h1,eM hv h2]
  exact h
 obtain⟨ht,h⟩:=au h
 have ht:u.t=v.t:=ag ht
 rcases aJ h with⟨h8,h⟩|⟨_,h⟩
 ·rcases aJ h with⟨h0,h⟩ | ⟨_,h⟩
  ·exact FI hu hv ht (aA.1 h0) (aA.1 h8) h
  ·exact gen h
 ·rcases aJ h with⟨h11,h⟩ | ⟨_,h⟩
  ·exact J2 hu hv ht (aA.1 h11) h
  rcases aJ h with⟨h9,h⟩|⟨_,h⟩
  ·have h9:u.t=9:=ag h9
   obtain⟨cs,r,rfl,hr,dP,hl,hcell⟩:=hu.A8 h9
   obtain⟨cs',s,rfl,hs,Ye,hl',mc⟩:=hv.A8<|by omega
   obtain⟨hb,h⟩:=au h
   have hb:u.b=v.b:=ag hb
   have h:=dW h hr
   have h:=dW h hs
   show sameL (sameN n) cs cs'=true
   exact FF hf u.b u.a v.a cs cs' dP (by rw[Ye,hb]) hcell mc h
  ·exact gen h
theorem lJ {u v:V}{a b:AV}(hu:VA u a)(hv:VA v b)(h:gQ u v=true):dz a b=true:=by
 refine ub (n:=5) (f:=ym 5<|mX 4) (λhu hv h=>ub (n:=4) (f:=mX 4) (λhu hv h=>?_) hu hv h) hu hv h
 unfold mX at h
 obtain⟨a',h1,h⟩:=aY h
 obtain⟨b',h2,h⟩:=aY h
 rw[eM hu h1,eM hv h2]
 exact h
end Go.Ev
namespace Go.Ev
variable [Sg]
inductive L2 {α β:Type}(R:α->β->Prop):List α->List β->Prop
 | nil:L2 R [] []
 | cons {a:α} {b:β} {l:List α} {m:List β}:R a b->L2 R l m->L2 R (a::l) (b::m)
theorem L2.length {α β:Type}{R:α->β->Prop}{l:List α}{m:List β}(h:L2 R l m):l.length=m.length:=by
 induction h with
 | nil=>rfl
 | cons _ _ ih=>simp[ih]
theorem L2.append {α β:Type}{R:α->β->Prop}{l l':List α}{m m':List β}(h:L2 R l m)(h':L2 R l' m'):L2 R (l++l') (m++m'):=by
 induction h with
 | nil=>exact h'
 | cons h _ ih=>exact .cons h ih
theorem L2.reverse {α β:Type}{R:α->β->Prop}{l:List α}{m:List β}(h:L2 R l m):L2 R l.reverse m.reverse:=by
 induction h with
 | nil=>exact .nil
 | cons h _ ih=>rw[List.reverse_cons,List.reverse_cons];exact ih.append<|.cons h .nil
theorem L2.get {α β:Type}{R:α->β->Prop}{l:List α}{m:List β}(h:L2 R l m):∀{i:Nat}{a:α},l[i]?=some a->∃b,m[i]?=some b/\R a b:=by
 induction h with
 | nil=>grind
 | cons h _ ih=>
  grind
structure PR (p:FP)(q:aF):Prop where
 i:p.i=q.i
 id:p.id=q.id
 lt:p.id<262144
 ins:p.ins=q.ins
 o:gy p.o (some q.o)
 kind:p.o.t=1\/p.o.t=2
theorem PR.a9 {p:FP}{q:aF}(h:PR p q):q.o.a9=Nat.beq p.o.t 1:=by
 rcases h.kind with k|k
 ·obtain⟨T,h1,_⟩:=h.o.rows k
  cases pg:q.o with
  | rows=>rw[k];rfl
  | _=>grind
 ·have h1:=h.o.map k
  cases pg:q.o with
  | map=>rw[k];rfl
  | _=>grind
def La (a:FP × Nat)(b:aF × Nat):Prop:=PR a.1 b.1/\a.2=b.2
structure LR (nt:Nat)(l:FL)(L:lP):Prop where
 env:ij nt l.e L.e
 op:l.d.o.op=L.op
 quiet:l.d.o.op.kJ
 aC:l.aC=L.aC
 lo:l.d.lo=L.lo
 hi:l.d.hi=L.hi
 v:VA l.v L.v
 ptr:∀g n x,l.d.o.op=.load g n x->ez nt x=true
structure GD (nt:Nat)(fr:sw)(s:FD)(S:DS):Prop where
 env:ij nt s.e S.e
 heap:cj s.h S.H
 fr:s.h.fr=fr
 Hs:L2 cj s.Hs S.Hs
 c:S.Hs.length=s.c+1
 cG:s.cG=S.cG
 pend:L2 PR s.pend S.pend
 mats:L2 La s.mats S.mats
 aO:L2 (LR nt) s.aO S.aO
theorem withF_ok {a:Nat}{l:List FP}{m:List aF}(hl:L2 PR l m):∀{h:FH}{H:Heap},cj h H->∃H',bH a m H=some H'/\cj (eY a l h) H'/\(eY a l h).fr=h.fr:=by
 induction hl with
 | nil=>intro h H hH;exact⟨H,rfl,hH,rfl⟩
 | @cons p q l m hp _ ih=>
  intro h H hH
  have hb:(bit a q.i&&q.o.a9)=aU (bit a p.i) (Nat.beq p.o.t 1):=by
   rw[<- hp.i,hp.a9]
   cases bit a p.i<;>rfl
  have e1:eY a (p::l) h=eY a l (Bool.rec (motive:=λ_=>FH) h (hput p.id p.o h)<|aU (bit a p.i)<|Nat.beq p.o.t 1):=rfl
  have e2:bH a (q::m) H=(match (match bit a q.i&&q.o.a9 with | true=>some (H.put q.id q.o) | false=>some H)with | none=>none | some H1=>bH a m H1):=by
   unfold bH
   rw[eg]
   cases bit a q.i&&q.o.a9<;>rfl
  rw[e1,e2,hb]
  cases aU (bit a p.i) (Nat.beq p.o.t 1) with
  | true=>
   have:=hH.hput hp.lt (x:=q.o) hp.o
   rw[hp.id]at this
   obtain⟨H',k1,k2,k3⟩:=ih this
   rw[<- hp.id]at k1 k2 k3
   refine⟨H',?_,k2,k3⟩
   simp only
   rw[<- hp.id]
   exact k1
  | false=>exact ih hH
theorem AR {a k:Nat}{l:List (FP × Nat)}{m:List (aF × Nat)}(hl:L2 La l m):∀{h:FH}{H:Heap},cj h H->∃H',bP a k m H=some H'/\cj (jo a k l h) H':=by
 induction hl with
 | nil=>intro h H hH;exact⟨H,rfl,hH⟩
 | @cons p q l m hp _ ih=>
  intro h H hH
  obtain⟨hp,hn⟩:=hp
  have hb:(bit a q.1.i&&q.1.o.a9&&Nat.blt k q.2)=aU (bit a p.1.i) (aU (Nat.beq p.1.o.t 1)<|Nat.blt k p.2):=by
   rw[<- hp.i,hp.a9,<- hn]
   cases bit a p.1.i<;>cases Nat.beq p.1.o.t 1<;>rfl
  have e1:jo a k (p::l) h=jo a k l (Bool.rec (motive:=λ_=>FH) h (hput p.1.id p.1.o h)<|aU (bit a p.1.i)<|aU (Nat.beq p.1.o.t 1)<|Nat.blt k p.2):=rfl
  have e2:bP a k (q::m) H=(match (match bit a q.1.i&&q.1.o.a9&&Nat.blt k q.2 with | true=>some (H.put q.1.id q.1.o) | false=>some H)with | none=>none | some H1=>bP a k m H1):=by
   unfold bP
   rw[eg]
   cases bit a q.1.i&&q.1.o.a9&&Nat.blt k q.2<;>rfl
  rw[e1,e2,hb]
  cases aU (bit a p.1.i) (aU (Nat.beq p.1.o.t 1)<|Nat.blt k p.2) with
  | true=>
   have:=hH.hput hp.lt (x:=q.1.o) hp.o
   rw[hp.id]at this
   obtain⟨H',k1,k2⟩:=ih this
   rw[<- hp.id]at k1 k2
   refine⟨H',?_,k2⟩
   simp only
   rw[<- hp.id]
   exact k1
  | false=>exact ih hH
noncomputable def iz (a b:Nat)(m:List aF)(H:Heap):Heap:=m.foldl (λH p=>match Nat.beq p.id b&&(bit a p.i&&p.o.a9)with | true=>H.put p.id p.o | false=>H) H
noncomputable def fA (a b k:Nat)(m:List (aF × Nat))(H:Heap):Heap:=m.foldl (λH p=>match Nat.beq p.1.id b&&(bit a p.1.i&&p.1.o.a9&&Nat.blt k p.2)with | true=>H.put p.1.id p.1.o | false=>H) H
theorem mA {a b:Nat}{l:List FP}{m:List aF}(hl:L2 PR l m):∀{h:FH}{H:Heap},cj h H->cj (dQ a b l h) (iz a b m H):=by
 induction hl with
 | nil=>intro h H hH;exact hH
 | @cons p q l m hp _ ih=>
  intro h H hH
  have hb:(Nat.beq q.id b&&(bit a q.i&&q.o.a9))=aU (Nat.beq p.id b) (aU (bit a p.i)<|Nat.beq p.o.t 1):=by
   rw[<- hp.i,hp.a9,<- hp.id]
   cases Nat.beq p.id b<;>cases bit a p.i<;>rfl
  have e1:dQ a b (p::l) h=dQ a b l (Bool.rec (motive:=λ_=>FH) h (hput p.id p.o h)<|aU (Nat.beq p.id b)<|aU (bit a p.i)<|Nat.beq p.o.t 1):=rfl
  have e2:iz a b (q::m) H=iz a b m (match Nat.beq q.id b&&(bit a q.i&&q.o.a9)with | true=>H.put q.id q.o | false=>H):=rfl
  rw[e1,e2,hb]
  cases aU (Nat.beq p.id b) (aU (bit a p.i)<|Nat.beq p.o.t 1) with
  | true=>
   have:=hH.hput hp.lt (x:=q.o) hp.o
   rw[hp.id]at this
   have:=ih this
   rw[<- hp.id]at this
   rw[<- hp.id]
   exact this
  | false=>exact ih hH
theorem wZ {a b k:Nat}{l:List (FP × Nat)}{m:List (aF × Nat)}(hl:L2 La l m):∀{h:FH}{H:Heap},cj h H->cj (D1 a b k l h) (fA a b k m H):=by
 induction hl with
 | nil=>intro h H hH;exact hH
 | @cons p q l m hp _ ih=>
  intro h H hH
  obtain⟨hp,hn⟩:=hp
  have hb:(Nat.beq q.1.id b&&(bit a q.1.i&&q.1.o.a9&&Nat.blt k q.2))=aU (Nat.beq p.1.id b) (aU (bit a p.1.i)<|aU (Nat.beq p.1.o.t 1)<|Nat.blt k p.2):=by
   rw[<- hp.i,hp.a9,<- hp.id,<- hn]
   cases Nat.beq p.1.id b<;>cases bit a p.1.i<;>cases Nat.beq p.1.o.t 1<;>rfl
  have e1:D1 a b k (p::l) h=D1 a b k l (Bool.rec (motive:=λ_=>FH) h (hput p.1.id p.1.o h)<|aU (Nat.beq p.1.id b)<|aU (bit a p.1.i)<|aU (Nat.beq p.1.o.t 1)<|Nat.blt k p.2):=rfl
  have e2:fA a b k (q::m) H=fA a b k m (match Nat.beq q.1.id b&&(bit a q.1.i&&q.1.o.a9&&Nat.blt k q.2)with | true=>H.put q.1.id q.1.o | false=>H):=rfl
  rw[e1,e2,hb]
  cases aU (Nat.beq p.1.id b) (aU (bit a p.1.i)<|aU (Nat.beq p.1.o.t 1)<|Nat.blt k p.2) with
  | true=>
   have:=hH.hput hp.lt (x:=q.1.o) hp.o
   rw[hp.id]at this
   have:=ih this
   rw[<- hp.id]at this
   rw[<- hp.id]
   exact this
  | false=>exact ih hH
theorem iA {a b:Nat}:∀(m:List aF)(H H2:Heap),H.get b=H2.get b->∃H1,bH a m H=some H1/\H1.get b=(iz a b m H2).get b:=by
 intro m
 induction m with
 | nil=>intro H H2 h;exact⟨H,rfl,h⟩
 | cons q m ih=>
  intro H H2 h
  have e2:bH a (q::m) H=(match (match bit a q.i&&q.o.a9 with | true=>some (H.put q.id q.o) | false=>some H)with | none=>none | some H1=>bH a m H1):=by
   unfold bH
   rw[eg]
   cases bit a q.i&&q.o.a9<;>rfl
  have e3:iz a b (q::m) H2=iz a b m (match Nat.beq q.id b&&(bit a q.i&&q.o.a9)with | true=>H2.put q.id q.o | false=>H2):=rfl
  rw[e2,e3]
  cases hb:bit a q.i&&q.o.a9 with
  | true=>
   cases hid:Nat.beq q.id b with
   | true=>
    have:=ag hid
    exact ih (H.put q.id q.o) (H2.put q.id q.o)<|by rw[Heap.aR,Heap.aR,if_pos this,if_pos this]
   | false=>
    have:=kU hid
    exact ih (H.put q.id q.o) H2 (by rw[Heap.aR,if_neg this];exact h)
  | false=>
   grind
theorem aa6 {a b k:Nat}:∀(m:List (aF × Nat))(H H2:Heap),H.get b=H2.get b->∃H1,bP a k m H=some H1/\H1.get b=(fA a b k m H2).get b:=by
 intro m
 induction m with
 | nil=>intro H H2 h;exact⟨H,rfl,h⟩
 | cons q m ih=>
  intro H H2 h
  have e2:bP a k (q::m) H=(match (match bit a q.1.i&&q.1.o.a9&&Nat.blt k q.2 with | true=>some (H.put q.1.id q.1.o) | false=>some H)with | none=>none | some H1=>bP a k m H1):=by
   unfold bP
   rw[eg]
   cases bit a q.1.i&&q.1.o.a9&&Nat.blt k q.2<;>rfl
  have e3:fA a b k (q::m) H2=fA a b k m (match Nat.beq q.1.id b&&(bit a q.1.i&&q.1.o.a9&&Nat.blt k q.2)with | true=>H2.put q.1.id q.1.o | false=>H2):=rfl
  rw[e2,e3]
  cases hb:bit a q.1.i&&q.1.o.a9&&Nat.blt k q.2 with
  | true=>
   cases hid:Nat.beq q.1.id b with
   | true=>
    have:=ag hid
    exact ih (H.put q.1.id q.1.o) (H2.put q.1.id q.1.o)<|by rw[Heap.aR,Heap.aR,if_pos this,if_pos this]
   | false=>
    have:=kU hid
    exact ih (H.put q.1.id q.1.o) H2 (by rw[Heap.aR,if_neg this];exact h)
  | false=>
   grind
theorem DD {a b:Nat}{l:List FP}{m:List aF}(hl:L2 PR l m)(h:tI b l=true):∀H,iz a b m H=H:=by
 induction hl with
 | nil=>intro H;rfl
 | @cons p q l m hp _ ih=>
  intro H
  obtain⟨h1,h2⟩:=(bR _ _ _).1 h
  have hq:Nat.beq q.id b=false:=by
   rw[<- hp.id]
   rcases aJ (c:=Nat.beq p.id b) h1 with⟨_,hx⟩|⟨hx,_⟩
   ·cases hx
   ·exact hx
  have e3:iz a b (q::m) H=iz a b m (match Nat.beq q.id b&&(bit a q.i&&q.o.a9)with | true=>H.put q.id q.o | false=>H):=rfl
  rw[e3,hq]
  exact ih h2 H
theorem DE {a b k:Nat}{l:List (FP × Nat)}{m:List (aF × Nat)}(hl:L2 La l m)(h:tJ b l=true):∀H,fA a b k m H=H:=by
 induction hl with
 | nil=>intro H;rfl
 | @cons p q l m hp _ ih=>
  intro H
  obtain⟨h1,h2⟩:=(bR _ _ _).1 h
  have hq:Nat.beq q.1.id b=false:=by
   rw[<- hp.1.id]
   rcases aJ (c:=Nat.beq p.1.id b) h1 with⟨_,hx⟩|⟨hx,_⟩
   ·cases hx
   ·exact hx
  have e3:fA a b k (q::m) H=fA a b k m (match Nat.beq q.1.id b&&(bit a q.1.i&&q.1.o.a9&&Nat.blt k q.2)with | true=>H.put q.1.id q.1.o | false=>H):=rfl
  rw[e3,hq]
  exact ih h2 H
theorem nQ {op:AOp}{x:Operand}(h:nP op=some x):∃g n,op=.load g n x:=by
 cases op<;>first | (cases h;grind) | cases h
theorem Ck {v:V}{h:FH}{n:Nat}{f:R V->Nat->Bool}(hk:we v h n f=true):v.t=16:=ag (aW (aW (au hk).1).1).1
theorem acq {e:Env}{h:FH}{ih:bT}{k:V->FH->Bool}{g:Bool}{n:Nat}{x:Fx}(hk:(mS n g x).run ih e h k=true):(x.get e).t=4\/(x.get e).t=16:=by
 cases g with
 | true=>
  rcases aJ (c:=Nat.beq (x.get e).t 4) hk with⟨h1,_⟩|⟨_,h1⟩
  ·exact .inl<|ag h1
  ·exact .inr<|Ck h1
 | false=>
  match n,hk with
  | 0,hk=>cases hk
  | n+2,hk=>cases hk
  | 1,hk=>
   rcases aJ (c:=Nat.beq (x.get e).t 4) hk with⟨h1,_⟩|⟨_,h1⟩
   ·exact .inl<|ag h1
   ·exact .inr<|Ck h1
theorem De {P:Program}{nt:Nat}{e:Env}{h:FH}{ih:bT}{k:V->FH->Bool}{g:Bool}{n:Nat}{x:Operand}(hk:(B8 P nt (.load g n x)).run ih e h k=true):ez nt x=true/\(((fx x).get e).t=4\/((fx x).get e).t=16):=by
 obtain⟨hx,hk⟩:=oC hk
 refine⟨aP hx (x:=x)<|List.mem_cons_self ..,?_⟩
 exact acq hk
theorem nv {P:Program}{nt:Nat}{e:Env}{E:Tr AV}{h:FH}{H2 H1:Heap}{ih:bT}{k:V->FH->Bool}{g:Bool}{n:Nat}{x:Operand}(hE:ij nt e E)(hH:cj h H2)(hb:H1.get ((fx x).get e).c=H2.get ((fx x).get e).c)
  (hk:(B8 P nt<|.load g n x).run ih e h k=true):∃a v,aval P H1 (bL E) (.load g n x)=some (a,H1)/\VA v a/\k v h=true:=by
 obtain⟨hx,hk⟩:=oC hk
 obtain⟨ax,dS,dg⟩:=a7 hE<|aP hx (x:=x)<|List.mem_cons_self ..
 have hk:(mS n g<|fx x).run ih e h k=true:=hk
 obtain⟨p,l,u,v,h1,h2,h3,h4,h5⟩:=loadF_ok (x:=fx x) hH dg hk
 have Sf:p.b=((fx x).get e).c:=by
  rcases acq hk with ht|ht
  ·obtain⟨h6,_⟩:=dg.C0 ht
   rw[h6]at h1
   cases h1;rfl
  ·obtain⟨_,_,_,_,h6,_⟩:=dg.oe ht
   rw[h6]at h1
   cases h1;rfl
 have tk:H1.read p n=some l:=by
  rw[<- h2]
  unfold Heap.read
  rw[Sf,hb]
 refine⟨u,v,?_,h4,h5⟩
 simp only[aval,dS]
 grind
noncomputable def ab2 (a n:Nat)(s:List aF × List (aF × Nat) × Heap)(p:aF):Option (List aF × List (aF × Nat) × Heap):=match bit a p.i with
  | false=>some (p::s.1,s.2.1,s.2.2)
  | true=>match Nat.beq (Nat.land p.ins a) p.ins with
   | true=>some (s.1,(p,n)::s.2.1,s.2.2.put p.id p.o)
   | false=>none
theorem wF (a n:Nat)(pend:List aF)(mats:List (aF × Nat))(H:Heap):settle a n pend mats H=aw (ab2 a n) pend ([],mats,H):=rfl
theorem wE {a n:Nat}{k:List FP->List (FP × Nat)->FH->Bool}{l:List FP}{m:List aF}(hl:L2 PR l m):∀{r:List FP}{r':List aF}{t:List (FP × Nat)}{t':List (aF × Nat)}{h:FH}{H:Heap},L2 PR r r'->L2 La t t'->cj h H ->
  (List.rec (motive:=λ_=>List FP->List (FP × Nat)->FH->Bool) (λr m h=>k r m h)
  (λp _ ih r m h=>af (bit a p.i) (af (Nat.beq (Nat.land p.ins a) p.ins) (ih r ((p,n)::m) (hput p.id p.o h)) false) (ih (p::r) m h)) l r t h:Bool)=true ->
  ∃S r1 t1 h1,aw (ab2 a n) m (r',t',H)=some S/\L2 PR r1 S.1/\L2 La t1 S.2.1/\cj h1 S.2.2/\h1.fr=h.fr/\k r1 t1 h1=true:=by
 induction hl with
 | nil=>intro r r' t t' h H hr ht hH hk;exact⟨(r',t',H),r,t,h,rfl,hr,ht,hH,rfl,hk⟩
 | @cons p q l m hp _ ih=>
  intro r r' t t' h H hr ht hH hk
  rcases aJ hk with⟨hb,hk⟩|⟨hb,hk⟩
  ·obtain⟨hi,hk⟩:=au hk
   have hb:bit a p.i=true:=hb
   have hi:Nat.beq (Nat.land p.ins a) p.ins=true:=hi
   have hput:=hH.hput hp.lt (x:=q.o) hp.o
   obtain⟨S,r1,t1,h1,k1,k2⟩:=ih (t':=(q,n)::t') hr (.cons ⟨hp,rfl⟩ ht) hput hk
   refine⟨S,r1,t1,h1,?_,k2⟩
   rw[ah]
   refine⟨_,?_,k1⟩
   unfold ab2
   rw[<- hp.i,hb,<- hp.ins]
   simp only[hi]
   rw[hp.id]
  ·have hb:bit a p.i=false:=hb
   obtain⟨S,r1,t1,h1,k1,k2⟩:=ih (r':=q::r') (.cons hp hr) ht hH hk
   refine⟨S,r1,t1,h1,?_,k2⟩
   rw[ah]
   refine⟨_,?_,k1⟩
   unfold ab2
   rw[<- hp.i,hb]
noncomputable def instep (kk:dC)(k v:AV)(b j a:Nat)(s:Bool × List aF)(p:aF):Option (Bool × List aF):=match Nat.beq p.id b with
  | false=>some (s.1,p::s.2)
  | true=>match bit a p.i with
   | false=>none
   | true=>match p.o with
    | .map es=>match lookIn kk k es with
     | some none=>match primEq kk k k with
      | some true=>some (true,⟨p.i,p.id,.map<|bI es [(k,v)],Nat.lor p.ins<|Nat.shiftLeft 1 j,bI p.kP [(j,k,v)]⟩::s.2)
      | _=>none
     | _=>none
    | _=>none
theorem tw (kk:dC)(k v:AV)(b j a:Nat)(pend:List aF):ib kk k v b j a pend=aw (instep kk k v b j a) pend (false,[]):=rfl
theorem I4 {kk:dC}{kv vv:AV}{b j a:Nat}{k:List FP->Bool}{l:List FP}{m:List aF}(hl:L2 PR l m):∀{f:Bool}{r:List FP}{r':List aF},L2 PR r r' ->
  (List.rec (motive:=λ_=>Bool->List FP->Bool) (λf r=>af f (k r) false)
  (λp _ ih f r=>af (Nat.beq p.id b)
   (af (aU (bit a p.i)<|Nat.beq p.o.t 2) (aE (lookInF kk kv p.o.m) λo=>Option.rec (motive:=λ_=>Bool)
    (aE (primEqF kk kv kv) λt=>af t (ih true (⟨p.i,p.id,⟨pU,mW,bI p.o.m [(kv,vv)],2,0,0⟩,Nat.lor p.ins (Nat.shiftLeft 1 j)⟩::r)) false) (λ_=>false) o) false)
   (ih f (p::r))) l f r:Bool)=true ->
  ∃r1 S,aw (instep kk kv vv b j a) m (f,r')=some (true,S)/\L2 PR r1 S/\k r1=true:=by
 induction hl with
 | nil=>
  intro f r r' hr hk
  obtain⟨hf,hk⟩:=au hk
  subst hf
  exact⟨r,r',rfl,hr,hk⟩
 | @cons p q l m hp _ ih=>
  intro f r r' hr hk
  rcases aJ hk with⟨hb,hk⟩|⟨hb,hk⟩
  ·have hb:Nat.beq p.id b=true:=hb
   obtain⟨hc,hk⟩:=au hk
   obtain⟨h1,h2⟩:=aW hc
   have h1:bit a p.i=true:=h1
   have h2:p.o.t=2:=ag h2
   obtain⟨o,h3,hk⟩:=aY hk
   have hm:=hp.o.map h2
   cases o with
   | some _=>cases hk
   | none=>
    obtain⟨t,h4,hk⟩:=aY hk
    obtain⟨ht,hk⟩:=au hk
    have h3:lookInF kk kv p.o.m=some none:=h3
    rw[ik]at h3
    rw[eG]at h4
    have hnew:PR ⟨p.i,p.id,⟨pU,mW,bI p.o.m [(kv,vv)],2,0,0⟩,Nat.lor p.ins<|Nat.shiftLeft 1 j⟩ ⟨q.i,q.id,.map<|bI p.o.m [(kv,vv)],Nat.lor q.ins<|Nat.shiftLeft 1 j,bI q.kP [(j,kv,vv)]⟩:=
     ⟨hp.i,hp.id,hp.lt,by rw[hp.ins],gy.mkMap (o:=⟨pU,mW,bI p.o.m [(kv,vv)],2,0,0⟩) rfl rfl,.inr rfl⟩
    obtain⟨r1,S,k1,k2⟩:=ih (.cons hnew hr) hk
    refine⟨r1,S,?_,k2⟩
    rw[ah]
    refine⟨_,?_,k1⟩
    have Sj:q.o=.map p.o.m:=by injection hm
    unfold instep
    rw[<- hp.id,hb,<- hp.i,h1,Sj]
    grind
  ·have hb:Nat.beq p.id b=false:=hb
   obtain⟨r1,S,k1,k2⟩:=ih (r':=q::r') (.cons hp hr) hk
   refine⟨r1,S,?_,k2⟩
   rw[ah]
   refine⟨_,?_,k1⟩
   unfold instep
   rw[<- hp.id,hb]
section
variable {P:Program}{K:Orc}{nt:Nat}{ops:Array Oper}{ih:bT}{aC:Tr Nat}{rd:Option Nat}
theorem GD.put {fr:sw}{s:FD}{S:DS}(hR:GD nt fr s S){d:Option Nat}(hd:∀t,d=some t->t<nt){v:V}{a:AV}(hv:VA v a)(j:Nat):GD nt fr (cA s d v) { S with e:=putO S.e d a,j:=j }:=
 ⟨jY hR.env hd hv,hR.heap,hR.fr,hR.Hs,hR.c,hR.cG,hR.pend,hR.mats,hR.aO⟩
theorem B2 (hC:eL P K ih){d:qr}(IQ:d.cls=clsOf d.o.op)(iH:∀t,d.o.dst=some t->t<nt){fr:sw}{s:FD}{S:DS}{k:FD->Bool}(hR:GD nt fr s S)(hk:(jX P nt ops aC S.j d).run ih s k=true) :
  ∃m S' s',dstep P (ev P K m) rd ops aC S d=some S'/\GD nt fr s' S'/\S'.j=S.j+1/\S'.ds=S.ds/\k s'=true:=by
 obtain⟨⟨dst,op,g⟩,cls,lo,hi⟩:=d
 have IQ:cls=clsOf op:=IQ
 have iH:∀t,dst=some t->t<nt:=iH
 have abG:∀{f:Nat->Bool},dN aC S.j f=true->∃a,aC.get S.j=some a/\f a=true:=λh=>aY h
 have alloc:∀cls,cls=.dalloc\/cls=.dmap->((guardF nt ops g).run s.e
   ((nI nt op).run s.e λo f=>j8 s.cG λb=>af (Nat.blt b 262144) (k ⟨(fs dst).put (f b) s.e,s.h,s.Hs,Nat.succ b,⟨S.j,b,o,0⟩::s.pend,s.mats,s.aO,s.c⟩) false)
   (k ⟨(fs dst).put vU s.e,s.h,s.Hs,Nat.succ s.cG,s.pend,s.mats,s.aO,s.c⟩))=true ->
   ∃m S' s',dstep P (ev P K m) rd ops aC S ⟨⟨dst,op,g⟩,cls,lo,hi⟩=some S'/\GD nt fr s' S'/\S'.j=S.j+1/\S'.ds=S.ds/\k s'=true:=by
  intro cls hc hk
  rcases dH hR.env hk with⟨hw,hk⟩|⟨hw,hk⟩
  ·obtain⟨o,fn,fo,gv,h1,⟨h2,aeg⟩,h3,h4⟩:=pq hR.env hk
   rw[a6]at h4
   obtain⟨h5,h6⟩:=au h4
   have h5:s.cG<262144:=aA.1 h5
   have hp:PR ⟨S.j,s.cG,fo,0⟩ ⟨S.j,S.cG,o,0,[]⟩:=⟨rfl,hR.cG,h5,rfl,h2,aeg⟩
   refine⟨0,{ S with e:=putO S.e dst<|fn S.cG,j:=Nat.succ S.j,cG:=Nat.succ S.cG,pend:=⟨S.j,S.cG,o,0,[]⟩::S.pend },⟨(fs dst).put (gv s.cG) s.e,s.h,s.Hs,Nat.succ s.cG,⟨S.j,s.cG,fo,0⟩::s.pend,s.mats,s.aO,s.c⟩,?_,
    ⟨jY hR.env iH (by rw[<- hR.cG];exact h3 _ h5),hR.heap,hR.fr,hR.Hs,hR.c,by show Nat.succ s.cG=Nat.succ S.cG;rw[hR.cG],.cons hp hR.pend,hR.mats,hR.aO⟩,rfl,rfl,h6⟩
   rcases hc with rfl|rfl<;>simp only[dstep,hw,h1]
  ·refine⟨0,{ S with e:=putO S.e dst .undef,j:=Nat.succ S.j,cG:=Nat.succ S.cG },⟨(fs dst).put vU s.e,s.h,s.Hs,Nat.succ s.cG,s.pend,s.mats,s.aO,s.c⟩,?_,
    ⟨jY hR.env iH VA.undef,hR.heap,hR.fr,hR.Hs,hR.c,by show Nat.succ s.cG=Nat.succ S.cG;rw[hR.cG],hR.pend,hR.mats,hR.aO⟩,rfl,rfl,hk⟩
   rcases hc with rfl|rfl<;>simp only[dstep,hw]
 cases cls with
 | pure=>
  have hq:op.kJ:=by cases op<;>first | trivial | cases IQ
  have hk:(guardF nt ops g).run s.e ((B8 P nt op).run ih s.e s.h λv _=>k<|cA s dst v) (k<|cA s dst vU)=true:=hk
  rcases dH hR.env hk with⟨hw,hk⟩|⟨hw,hk⟩
  ·obtain⟨a,v,h',H',h1,h2,_,_,h5⟩:=gP hR.env hR.heap hq hk
   exact⟨0,_,_,by simp only[dstep,hw,h1],hR.put (v:=v) iH h2<|S.j+1,rfl,rfl,h5⟩
  ·exact⟨0,_,_,by simp only[dstep,hw],hR.put (v:=vU) iH VA.undef<|S.j+1,rfl,rfl,hk⟩
 | read=>
  have hq:op.kJ:=by cases op<;>first | trivial | cases IQ
  cases Cs:nP op with
  | some x=>
   obtain⟨gg,n,rfl⟩:=nQ Cs
   cases zD:Nat.beq lo hi with
   | true=>
    have hk:(guardF nt ops g).run s.e (dN aC S.j λa=>j8 ((fx x).get s.e).c λb=>(B8 P nt<|.load gg n x).run ih s.e (dQ a b s.pend s.h) λv _=>k<|cA s dst v) (k<|cA s dst vU)=true:=by
     have e:jX P nt ops aC S.j ⟨⟨dst,.load gg n x,g⟩,.read,lo,hi⟩=(match Nat.beq lo hi with
      | true=>⟨λih s k=>(guardF nt ops g).run s.e (dN aC S.j λa=>j8 ((fx x).get s.e).c λb=>(B8 P nt<|.load gg n x).run ih s.e (dQ a b s.pend s.h) λv _=>k<|cA s dst v) (k<|cA s dst vU)⟩
      | false=>⟨λih s k=>(guardF nt ops g).run s.e (dN aC S.j λa=>j8 ((fx x).get s.e).c λb=>(B8 P nt<|.load gg n x).run ih s.e (dQ a b s.pend s.h) λv _=>
        k ⟨(fs dst).put v s.e,s.h,s.Hs,s.cG,s.pend,s.mats,⟨s.e,⟨⟨dst,.load gg n x,g⟩,.read,lo,hi⟩,a,v⟩::s.aO,s.c⟩) (k (cA s dst vU))⟩):=rfl
     rw[e,zD]at hk
     exact hk
    rcases dH hR.env hk with⟨hw,hk⟩|⟨hw,hk⟩
    ·obtain⟨a,ha,hk⟩:=abG hk
     rw[a6]at hk
     obtain⟨H1,w1,w2⟩:=iA (a:=a) (b:=((fx x).get s.e).c) S.pend S.H S.H rfl
     obtain⟨a',v,h1,h2,h5⟩:=nv hR.env (mA (a:=a) hR.pend hR.heap) w2 hk
     exact⟨0,_,_,by simp only[dstep,hw,ha,w1,h1,zD],hR.put (v:=v) iH h2<|S.j+1,rfl,rfl,h5⟩
    ·exact⟨0,_,_,by simp only[dstep,hw],hR.put (v:=vU) iH VA.undef<|S.j+1,rfl,rfl,hk⟩
   | false=>
    have hk:(guardF nt ops g).run s.e (dN aC S.j λa=>j8 ((fx x).get s.e).c λb=>(B8 P nt<|.load gg n x).run ih s.e (dQ a b s.pend s.h) λv _=>
        k ⟨(fs dst).put v s.e,s.h,s.Hs,s.cG,s.pend,s.mats,⟨s.e,⟨⟨dst,.load gg n x,g⟩,.read,lo,hi⟩,a,v⟩::s.aO,s.c⟩) (k (cA s dst vU))=true:=by
     have e:jX P nt ops aC S.j ⟨⟨dst,.load gg n x,g⟩,.read,lo,hi⟩=(match Nat.beq lo hi with
      | true=>⟨λih s k=>(guardF nt ops g).run s.e (dN aC S.j λa=>j8 ((fx x).get s.e).c λb=>(B8 P nt<|.load gg n x).run ih s.e (dQ a b s.pend s.h) λv _=>k<|cA s dst v) (k<|cA s dst vU)⟩
      | false=>⟨λih s k=>(guardF nt ops g).run s.e (dN aC S.j λa=>j8 ((fx x).get s.e).c λb=>(B8 P nt<|.load gg n x).run ih s.e (dQ a b s.pend s.h) λv _=>
        k ⟨(fs dst).put v s.e,s.h,s.Hs,s.cG,s.pend,s.mats,⟨s.e,⟨⟨dst,.load gg n x,g⟩,.read,lo,hi⟩,a,v⟩::s.aO,s.c⟩) (k (cA s dst vU))⟩):=rfl
     rw[e,zD]at hk
     exact hk
    rcases dH hR.env hk with⟨hw,hk⟩|⟨hw,hk⟩
    ·obtain⟨a,ha,hk⟩:=abG hk
     rw[a6]at hk
     obtain⟨H1,w1,w2⟩:=iA (a:=a) (b:=((fx x).get s.e).c) S.pend S.H S.H rfl
     obtain⟨a',v,h1,h2,h5⟩:=nv hR.env (mA (a:=a) hR.pend hR.heap) w2 hk
     refine⟨0,{ S with e:=putO S.e dst a',j:=Nat.succ S.j,aO:=⟨S.e,.load gg n x,a,lo,hi,a'⟩::S.aO },⟨(fs dst).put v s.e,s.h,s.Hs,s.cG,s.pend,s.mats,⟨s.e,⟨⟨dst,.load gg n x,g⟩,.read,lo,hi⟩,a,v⟩::s.aO,s.c⟩,by simp only[dstep,hw,ha,w1,h1,zD],
      ⟨jY hR.env iH h2,hR.heap,hR.fr,hR.Hs,hR.c,hR.cG,hR.pend,hR.mats,.cons ⟨hR.env,rfl,hq,rfl,rfl,rfl,h2,λg n y hy=>by cases hy;exact(De hk).1⟩ hR.aO⟩,rfl,rfl,h5⟩
    ·exact⟨0,_,_,by simp only[dstep,hw],hR.put (v:=vU) iH VA.undef<|S.j+1,rfl,rfl,hk⟩
  | none=>
   cases zD:Nat.beq lo hi with
   | true=>
    have hk:(guardF nt ops g).run s.e (dN aC S.j λa=>(B8 P nt op).run ih s.e (eY a s.pend s.h) λv _=>k<|cA s dst v) (k<|cA s dst vU)=true:=by
     have e0:jX P nt ops aC S.j ⟨⟨dst,op,g⟩,.read,lo,hi⟩=sQ P nt ops aC S.j dst op g lo hi:=rfl
     have e:jX P nt ops aC S.j ⟨⟨dst,op,g⟩,.read,lo,hi⟩=(match Nat.beq lo hi with
      | true=>⟨λih s k=>(guardF nt ops g).run s.e (dN aC S.j λa=>(B8 P nt op).run ih s.e (eY a s.pend s.h) λv _=>k<|cA s dst v) (k<|cA s dst vU)⟩
      | false=>⟨λih s k=>(guardF nt ops g).run s.e (dN aC S.j λa=>(B8 P nt op).run ih s.e (eY a s.pend s.h) λv _=>
        k ⟨(fs dst).put v s.e,s.h,s.Hs,s.cG,s.pend,s.mats,⟨s.e,⟨⟨dst,op,g⟩,.read,lo,hi⟩,a,v⟩::s.aO,s.c⟩) (k (cA s dst vU))⟩):=by
      rw[e0];unfold sQ;rw[Cs];rfl
     rw[e,zD]at hk
     exact hk
    rcases dH hR.env hk with⟨hw,hk⟩|⟨hw,hk⟩
    ·obtain⟨a,ha,hk⟩:=abG hk
     obtain⟨H1,w1,w2,_⟩:=withF_ok (a:=a) hR.pend hR.heap
     obtain⟨a',v,h',H',h1,h2,_,_,h5⟩:=gP hR.env w2 hq hk
     exact⟨0,_,_,by simp only[dstep,hw,ha,w1,h1,zD],hR.put (v:=v) iH h2<|S.j+1,rfl,rfl,h5⟩
    ·exact⟨0,_,_,by simp only[dstep,hw],hR.put (v:=vU) iH VA.undef<|S.j+1,rfl,rfl,hk⟩
   | false=>
    have hk:(guardF nt ops g).run s.e (dN aC S.j λa=>(B8 P nt op).run ih s.e (eY a s.pend s.h) λv _=>
        k ⟨(fs dst).put v s.e,s.h,s.Hs,s.cG,s.pend,s.mats,⟨s.e,⟨⟨dst,op,g⟩,.read,lo,hi⟩,a,v⟩::s.aO,s.c⟩) (k (cA s dst vU))=true:=by
     have e0:jX P nt ops aC S.j ⟨⟨dst,op,g⟩,.read,lo,hi⟩=sQ P nt ops aC S.j dst op g lo hi:=rfl
     have e:jX P nt ops aC S.j ⟨⟨dst,op,g⟩,.read,lo,hi⟩=(match Nat.beq lo hi with
      | true=>⟨λih s k=>(guardF nt ops g).run s.e (dN aC S.j λa=>(B8 P nt op).run ih s.e (eY a s.pend s.h) λv _=>k<|cA s dst v) (k<|cA s dst vU)⟩
      | false=>⟨λih s k=>(guardF nt ops g).run s.e (dN aC S.j λa=>(B8 P nt op).run ih s.e (eY a s.pend s.h) λv _=>
        k ⟨(fs dst).put v s.e,s.h,s.Hs,s.cG,s.pend,s.mats,⟨s.e,⟨⟨dst,op,g⟩,.read,lo,hi⟩,a,v⟩::s.aO,s.c⟩) (k (cA s dst vU))⟩):=by
      rw[e0];unfold sQ;rw[Cs];rfl
     rw[e,zD]at hk
     exact hk
    rcases dH hR.env hk with⟨hw,hk⟩|⟨hw,hk⟩
    ·obtain⟨a,ha,hk⟩:=abG hk
     obtain⟨H1,w1,w2,_⟩:=withF_ok (a:=a) hR.pend hR.heap
     obtain⟨a',v,h',H',h1,h2,_,_,h5⟩:=gP hR.env w2 hq hk
     refine⟨0,{ S with e:=putO S.e dst a',j:=Nat.succ S.j,aO:=⟨S.e,op,a,lo,hi,a'⟩::S.aO },⟨(fs dst).put v s.e,s.h,s.Hs,s.cG,s.pend,s.mats,⟨s.e,⟨⟨dst,op,g⟩,.read,lo,hi⟩,a,v⟩::s.aO,s.c⟩,by simp only[dstep,hw,ha,w1,h1,zD],
      ⟨jY hR.env iH h2,hR.heap,hR.fr,hR.Hs,hR.c,hR.cG,hR.pend,hR.mats,.cons ⟨hR.env,rfl,hq,rfl,rfl,rfl,h2,λg n y hy=>by have hy:op=.load g n y:=hy;rw[hy]at Cs;cases Cs⟩ hR.aO⟩,rfl,rfl,h5⟩
    ·exact⟨0,_,_,by simp only[dstep,hw],hR.put (v:=vU) iH VA.undef<|S.j+1,rfl,rfl,hk⟩
 | chain=>
  have hk:(guardF nt ops g).run s.e
   (dN aC S.j λa=>yo a (Nat.succ s.c) s.pend s.mats s.h λpend mats h=>(B8 P nt op).run ih s.e h λv h=>k ⟨(fs dst).put v s.e,h,h::s.Hs,s.cG,pend,mats,s.aO,Nat.succ s.c⟩)
   (k ⟨(fs dst).put vU s.e,s.h,s.h::s.Hs,s.cG,s.pend,s.mats,s.aO,Nat.succ s.c⟩)=true:=hk
  rcases dH hR.env hk with⟨hw,hk⟩|⟨hw,hk⟩
  ·obtain⟨a,ha,hk⟩:=abG hk
   obtain⟨T,r1,t1,h1,k1,k2,k3,k4,k5,k6⟩:=wE hR.pend (r:=[]) (r':=[]) .nil hR.mats hR.heap hk
   have d8:settle a (aK S.Hs) S.pend S.mats S.H=some T:=by rw[wF,ar,hR.c];exact k1
   obtain⟨m,a',v,h',H',p1,p2,p3,p4,p5⟩:=DK (ds:=S.ds) hC hR.env k4 k6
   refine⟨m,{ S with e:=putO S.e dst a',H:=H',Hs:=H'::S.Hs,j:=Nat.succ S.j,pend:=T.1,mats:=T.2.1 },⟨(fs dst).put v s.e,h',h'::s.Hs,s.cG,r1,t1,s.aO,Nat.succ s.c⟩,?_,
    ⟨jY hR.env iH p2,p3,p4.trans (k5.trans hR.fr),.cons p3 hR.Hs,by show(H'::S.Hs).length=_;rw[List.length_cons,hR.c],hR.cG,k2,k3,hR.aO⟩,rfl,rfl,p5⟩
   simp only[dstep,hw,ha,d8,p1]
  ·refine⟨0,{ S with e:=putO S.e dst .undef,Hs:=S.H::S.Hs,j:=Nat.succ S.j },⟨(fs dst).put vU s.e,s.h,s.h::s.Hs,s.cG,s.pend,s.mats,s.aO,Nat.succ s.c⟩,by simp only[dstep,hw],
    ⟨jY hR.env iH VA.undef,hR.heap,hR.fr,.cons hR.heap hR.Hs,by show(S.H::S.Hs).length=_;rw[List.length_cons,hR.c],hR.cG,hR.pend,hR.mats,hR.aO⟩,rfl,rfl,hk⟩
 | dalloc=>exact alloc .dalloc (.inl rfl) hk
 | dmap=>exact alloc .dmap (.inr rfl) hk
 | abl=>
  cases op with
  | ins lit kk m q v=>
   have e:jX P nt ops aC S.j ⟨⟨dst,.ins lit kk m q v,g⟩,.abl,lo,hi⟩=(match ez nt m&&ez nt q&&ez nt v with
    | true=>⟨λih s k=>(guardF nt ops g).run s.e
     (dN aC S.j λa=>af (Nat.beq ((fx m).get s.e).t 7) (aE (av<|(fx q).get s.e) λkv=>aE (av<|(fx v).get s.e) λvv=>Qd kk kv vv ((fx m).get s.e).a S.j a s.pend λpend=>k ⟨(fs dst).put vU s.e,s.h,s.Hs,s.cG,pend,s.mats,s.aO,s.c⟩) false)
     (k (cA s dst vU))⟩
    | false=>⟨λ_ _ _=>false⟩):=rfl
   rw[e]at hk
   cases hx:ez nt m&&ez nt q&&ez nt v with
   | false=>rw[hx]at hk;cases hk
   | true=>
    rw[hx]at hk
    obtain⟨hx,A6⟩:=(Bool.and_eq_true _ _).mp hx
    obtain⟨fe,iI⟩:=(Bool.and_eq_true _ _).mp hx
    have hk:(guardF nt ops g).run s.e
     (dN aC S.j λa=>af (Nat.beq ((fx m).get s.e).t 7) (aE (av<|(fx q).get s.e) λkv=>aE (av<|(fx v).get s.e) λvv=>Qd kk kv vv ((fx m).get s.e).a S.j a s.pend λpend=>k ⟨(fs dst).put vU s.e,s.h,s.Hs,s.cG,pend,s.mats,s.aO,s.c⟩) false)
     (k<|cA s dst vU)=true:=hk
    rcases dH hR.env hk with⟨hw,hk⟩|⟨hw,hk⟩
    ·obtain⟨a,ha,hk⟩:=abG hk
     obtain⟨am,KB,P7⟩:=a7 hR.env fe
     obtain⟨aq,KC,I0⟩:=a7 hR.env iI
     obtain⟨ax,dS,dg⟩:=a7 hR.env A6
     obtain⟨hb,hk⟩:=au hk
     obtain⟨rfl,_⟩:=P7.Qi<|ag hb
     obtain⟨kv,h1,hk⟩:=aY hk
     obtain⟨vv,h2,hk⟩:=aY hk
     have h1:=eM I0 h1
     have h2:=eM dg h2
     subst h1 h2
     obtain⟨r1,T,k1,k2,k3⟩:=I4 hR.pend (r:=[]) (r':=[]) .nil hk
     have CE:ib kk aq ax ((fx m).get s.e).a S.j a S.pend=some (true,T):=by rw[tw];exact k1
     refine⟨0,{ S with e:=putO S.e dst .undef,j:=Nat.succ S.j,pend:=T },⟨(fs dst).put vU s.e,s.h,s.Hs,s.cG,r1,s.mats,s.aO,s.c⟩,?_,
      ⟨jY hR.env iH VA.undef,hR.heap,hR.fr,hR.Hs,hR.c,hR.cG,k2,hR.mats,hR.aO⟩,rfl,rfl,k3⟩
     simp only[dstep,hw,ha,KB,KC,dS,CE]
    ·exact⟨0,_,_,by simp only[dstep,hw],hR.put (v:=vU) iH VA.undef<|S.j+1,rfl,rfl,hk⟩
  | _=>cases hk
theorem oj {n m:Nat}(h:n<=m){l:List qr}{s c:DS}(hc:aw (dstep P (ev P K n) rd ops aC) l s=some c):aw (dstep P (ev P K m) rd ops aC) l s=some c:=
 eS (λ_ _ _ hf=>fH (eP P K h) hf) _ _ _ hc
theorem B3 (hC:eL P K ih):∀{l:List qr}{fr:sw}{s:FD}{S:DS}{k:FD->Bool},(∀d∈l,d.cls=clsOf d.o.op/\∀t,d.o.dst=some t->t<nt)->GD nt fr s S->(sR P nt ops aC l S.j).run ih s k=true ->
  ∃m S' s',aw (dstep P (ev P K m) rd ops aC) l S=some S'/\GD nt fr s' S'/\S'.ds=S.ds/\k s'=true:=by
 intro l
 induction l with
 | nil=>intro fr s S k _ hR hk;exact⟨0,S,s,rfl,hR,rfl,hk⟩
 | cons d l ihl=>
  intro fr s S k hl hR hk
  have hk:((jX P nt ops aC S.j d).run ih s λs=>(sR P nt ops aC l<|Nat.succ S.j).run ih s k)=true:=hk
  obtain⟨hd1,hd2⟩:=hl d<|List.mem_cons_self ..
  obtain⟨m1,S1,s1,k1,k2,k3,k4,k5⟩:=B2 (rd:=rd) hC hd1 hd2 hR hk
  have k5:(sR P nt ops aC l<|S.j+1).run ih s1 k=true:=k5
  rw[<- k3]at k5
  obtain⟨m2,S2,s2,p1,p2,p3,p4⟩:=ihl (λd hd=>hl d<|List.mem_cons_of_mem _ hd) k2 k5
  refine⟨max m1 m2,S2,s2,?_,p2,p3.trans k4,p4⟩
  rw[ah]
  exact⟨_,fH (eP P K<|Nat.le_max_left ..) k1,oj (Nat.le_max_right ..) p1⟩
def Sy (P:Program)(HS:List Heap)(aF:List aF)(iO:List (Ev.aF × Nat))(L:lP)(k:Nat):Prop:=
 ∃H H1 H2 v w,HS[k]?=some H/\bP L.aC k iO H=some H1/\bH L.aC aF H1=some H2/\aval P H2 (bL L.e) L.op=some (v,w)/\dz v L.v=true
theorem looksOk_of {HS:List Heap}{aF:List aF}{iO:List (Ev.aF × Nat)}{L:lP}(h:∀k,L.lo<=k->k<=L.lo+(L.hi-L.lo)->Sy P HS aF iO L k):looksOk P HS aF iO L=true:=by
 have go:∀(n i:Nat),(∀k,i<=k->k<i+n->Sy P HS aF iO L k)->eh (λk(u:Unit)=>match dJ HS k with
  | some H=>match bP L.aC k iO H with
   | some H=>match bH L.aC aF H with
    | some H=>match aval P H (bL L.e) L.op with
     | some (v,_)=>match dz v L.v with | true=>some u | false=>none
     | none=>none
    | none=>none
   | none=>none
  | none=>none) n i ()=some ():=by
  intro n
  induction n with
  | zero=>intro i _;rfl
  | succ n ihn=>
   intro i hi
   obtain⟨H,H1,H2,v,w,h1,h2,h3,h4,h5⟩:=hi i (by omega)<|by omega
   rw[cZ]
   refine⟨(),?_,ihn (i+1)<|λk h1 h2=>hi k (by omega)<|by omega⟩
   simp only[cY,h1,h2,h3,h4,h5]
 unfold looksOk
 have:=go (Nat.succ<|Nat.sub L.hi L.lo) L.lo<|λk h1 h2=>h k h1<|by grind
 exact congrArg (λz=>match z with | some _=>true | none=>false) this
theorem kL {Hs:List FH}{F:Nat->FH->FH}{l:FL}:∀(n i:Nat),(Nat.rec (motive:=λ_=>Nat->Bool) (λ_=>true) (λ_ ih k=>aE (dJ Hs k) λh=>
  (B8 P nt l.d.o.op).run dw l.e (F k h) λv _=>af (gQ v l.v) (ih (Nat.succ k)) false) n i:Bool)=true ->
  (∀(k:Nat)(h:FH)(kk:V->FH->Bool),Hs[k]?=some h->(B8 P nt l.d.o.op).run dw l.e (F k h) kk=true->∃v h',kk v h'=true) ->
  ∀k,i<=k->k<i+n->∃h r,Hs[k]?=some h/\(B8 P nt l.d.o.op).run dw l.e (F k h) (λv _=>af (gQ v l.v) r false)=true:=by
 intro n
 induction n with
 | zero=>grind
 | succ n ihn=>
  intro i hk hF k h1 h2
  obtain⟨h,h3,hk⟩:=aY hk
  rw[cY]at h3
  by_cases hik:i=k
  ·subst hik
   exact⟨h,_,h3,hk⟩
  ·obtain⟨v,h',h4⟩:=hF i h _ h3 hk
   obtain⟨_,h5⟩:=au h4
   exact ihn (i+1) h5 hF k (by omega)<|by omega
section
variable {Hs:List FH}{HS:List Heap}(Gm:L2 cj Hs HS){pend:List FP}{aF:List aF}(hp:L2 PR pend aF){mats:List (FP × Nat)}{iO:List (Ev.aF × Nat)}(hm:L2 La mats iO)
include Gm hp hm
theorem Dg {l:FL}{L:lP}(hl:LR nt l L)(hk:pT P nt Hs pend mats l=true):looksOk P HS aF iO L=true:=by
 refine looksOk_of λk k1 k2=>?_
 rw[<- hl.lo]at k1 k2
 rw[<- hl.hi]at k2
 have IT:k<l.d.lo+Nat.succ (Nat.sub l.d.hi l.d.lo):=by grind
 cases Cs:nP l.d.o.op with
 | none=>
  have hk:(match nP l.d.o.op with
   | none=>Nat.rec (motive:=λ_=>Nat->Bool) (λ_=>true) (λ_ ih k=>aE (dJ Hs k) λh=>
    (B8 P nt l.d.o.op).run dw l.e (eY l.aC pend (jo l.aC k mats h)) λv _=>af (gQ v l.v) (ih (Nat.succ k)) false) (Nat.succ (Nat.sub l.d.hi l.d.lo)) l.d.lo
   | some x=>j8 ((fx x).get l.e).c λb=>
    (Nat.rec (motive:=λ_=>Nat->Bool) (λ_=>true) (λ_ ih k=>aE (dJ Hs k) λh=>
     (B8 P nt l.d.o.op).run dw l.e (dQ l.aC b pend (D1 l.aC b k mats h)) λv _=>af (gQ v l.v) (ih (Nat.succ k)) false) (Nat.succ (Nat.sub l.d.hi l.d.lo)) l.d.lo))=true:=hk
  rw[Cs]at hk
  have run:∀(k:Nat)(h:FH)(kk:V->FH->Bool),Hs[k]?=some h->(B8 P nt l.d.o.op).run dw l.e (eY l.aC pend<|jo l.aC k mats h) kk=true ->
    ∃H H1 H2 a v h' H',HS[k]?=some H/\bP l.aC k iO H=some H1/\bH l.aC aF H1=some H2/\aval P H2 (bL L.e) l.d.o.op=some (a,H')/\VA v a/\kk v h'=true:=by
   intro k h kk h1 hk
   obtain⟨H,h2,hH⟩:=Gm.get h1
   obtain⟨H1,h3,A0⟩:=AR (a:=l.aC) (k:=k) hm hH
   obtain⟨H2,h4,xC,_⟩:=withF_ok (a:=l.aC) hp A0
   obtain⟨a,v,h',H',h5,h6,_,_,h7⟩:=gP hl.env xC hl.quiet hk
   grind
  obtain⟨h,r,h1,h2⟩:=kL (F:=λk h=>eY l.aC pend<|jo l.aC k mats h) _ _ hk (λk h kk h1 hk=>by
   grind) k k1 IT
  obtain⟨H,H1,H2,a,v,h',H',e1,e2,e3,e4,e5,e6⟩:=run k h _ h1 h2
  obtain⟨e7,_⟩:=au e6
  exact⟨H,H1,H2,a,H',e1,by rw[<- hl.aC];exact e2,by rw[<- hl.aC];exact e3,by rw[<- hl.op];exact e4,lJ e5 hl.v e7⟩
 | some x=>
  have hk:(match nP l.d.o.op with
   | none=>Nat.rec (motive:=λ_=>Nat->Bool) (λ_=>true) (λ_ ih k=>aE (dJ Hs k) λh=>
    (B8 P nt l.d.o.op).run dw l.e (eY l.aC pend (jo l.aC k mats h)) λv _=>af (gQ v l.v) (ih (Nat.succ k)) false) (Nat.succ (Nat.sub l.d.hi l.d.lo)) l.d.lo
   | some x=>j8 ((fx x).get l.e).c λb=>
    (Nat.rec (motive:=λ_=>Nat->Bool) (λ_=>true) (λ_ ih k=>aE (dJ Hs k) λh=>
     (B8 P nt l.d.o.op).run dw l.e (dQ l.aC b pend (D1 l.aC b k mats h)) λv _=>af (gQ v l.v) (ih (Nat.succ k)) false) (Nat.succ (Nat.sub l.d.hi l.d.lo)) l.d.lo))=true:=hk
  rw[Cs]at hk
  simp only at hk
  rw[a6]at hk
  obtain⟨g,n,hop⟩:=nQ Cs
  have run:∀(k:Nat)(h:FH)(kk:V->FH->Bool),Hs[k]?=some h->(B8 P nt l.d.o.op).run dw l.e (dQ l.aC ((fx x).get l.e).c pend (D1 l.aC ((fx x).get l.e).c k mats h)) kk=true ->
    ∃H H1 H2 a v h' H',HS[k]?=some H/\bP l.aC k iO H=some H1/\bH l.aC aF H1=some H2/\aval P H2 (bL L.e) l.d.o.op=some (a,H')/\VA v a/\kk v h'=true:=by
   intro k h kk h1 hk
   obtain⟨H,h2,hH⟩:=Gm.get h1
   obtain⟨H1,w1,w2⟩:=aa6 (a:=l.aC) (b:=((fx x).get l.e).c) (k:=k) iO H H rfl
   obtain⟨H3,w3,w4⟩:=iA (a:=l.aC) (b:=((fx x).get l.e).c) aF H1 _ w2
   rw[hop]at hk
   obtain⟨a,v,e1,e2,e3⟩:=nv hl.env (mA hp<|wZ hm hH) w4 hk
   grind
  obtain⟨h,r,h1,h2⟩:=kL (F:=λk h=>dQ l.aC ((fx x).get l.e).c pend (D1 l.aC ((fx x).get l.e).c k mats h)) _ _ hk (λk h kk h1 hk=>by
   obtain⟨_,_,_,_,v,h',_,_,_,_,_,_,h7⟩:=run k h kk h1 hk;exact⟨v,h',h7⟩) k k1 IT
  obtain⟨H,H1,H2,a,v,h',H',e1,e2,e3,e4,e5,e6⟩:=run k h _ h1 h2
  obtain⟨e7,_⟩:=au e6
  exact⟨H,H1,H2,a,H',e1,by rw[<- hl.aC];exact e2,by rw[<- hl.aC];exact e3,by rw[<- hl.op];exact e4,lJ e5 hl.v e7⟩
noncomputable def rdS (H:Heap)(g:Bool)(n:Nat)(p:Pl):Option AV:=match H.read p n with
 | some l=>(match g with | true=>some (.agg l) | false=>(match l with | [v]=>some v | _=>none))
 | none=>none
omit Gm hp hm in
theorem load_rd {ρ:Operand->Option AV}{x:Operand}{p:Pl}{g:Bool}{n:Nat}{H:Heap}(hx:ρ x=some (.ptr (some p))):aval P H ρ (.load g n x)=match rdS H g n p with | some v=>some (v,H) | none=>none:=by
 simp only[aval,hx,rdS]
 cases H.read p n with
 | none=>rfl
 | some l=>
  cases g with
  | true=>rfl
  | false=>
   match l with
   | []=>rfl
   | [_]=>rfl
   | _::_::_=>rfl
omit Gm hp hm in
theorem Ax {H H':Heap}{g:Bool}{n:Nat}{p:Pl}(h:H.get p.b=H'.get p.b):rdS H g n p=rdS H' g n p:=by
 unfold rdS Heap.read
 rw[h]
noncomputable def gN (g:Bool):Nat:=Bool.rec (motive:=λ_=>Nat) 0 1 g
def WK (HS:List Heap)(pend:List FP)(mats:List (FP × Nat))(d:Dn):Prop:=
 ∃g n w,d.c=n*2+gN g/\tI d.b pend=true/\tJ d.b mats=true/\VA d.v w/\∀k,d.lo<=k->k<=d.en->∃H,HS[k]?=some H/\rdS H g n ⟨d.b,d.r,d.o⟩=some w
omit Gm hp hm in
theorem adN {op:AOp}{p:Nat × Operand}(h:Ja op=some p):∃g n,op=.load g n p.2/\p.1=n*2+gN g:=by
 cases op<;>first | (cases h;exact⟨_,_,rfl,rfl⟩) | cases h
omit Gm hp hm in
theorem Ih {c b r o lo en:Nat}{v:V}:∀{done:List Dn},Ig c b r o lo en v done=true->∃d∈done,d.b=b/\d.o=o/\d.r=r/\d.c=c/\d.lo<=lo/\en<=d.en/\gQ d.v v=true:=by
 intro done
 induction done with
 | nil=>intro h;cases h
 | cons d done ih=>
  intro h
  have h:af (aU (Nat.beq d.b b)<|aU (Nat.beq d.o o)<|aU (Nat.beq d.r r)<|aU (Nat.beq d.c c)<|aU (Nat.ble d.lo lo)<|Nat.ble en d.en) (gQ d.v v) (Ig c b r o lo en v done)=true:=h
  rcases aJ h with⟨h1,h⟩|⟨_,h⟩
  ·obtain⟨h1,h2⟩:=aW h1
   obtain⟨h2,h3⟩:=aW h2
   obtain⟨h3,h4⟩:=aW h3
   obtain⟨h4,h5⟩:=aW h4
   obtain⟨h5,h6⟩:=aW h5
   exact⟨d,List.mem_cons_self ..,ag h1,ag h2,ag h3,ag h4,aj.1 h5,aj.1 h6,h⟩
  ·obtain⟨d',hd,h⟩:=ih h
   exact⟨d',List.mem_cons_of_mem _ hd,h⟩
omit Gm in
theorem Aq {a b k:Nat}(n1:tI b pend=true)(n2:tJ b mats=true)(H:Heap):∃H1 H2,bP a k iO H=some H1/\bH a aF H1=some H2/\H2.get b=H.get b:=by
 obtain⟨H1,w1,w2⟩:=aa6 (a:=a) (b:=b) (k:=k) iO H H rfl
 obtain⟨H3,w3,w4⟩:=iA (a:=a) (b:=b) aF H1 _ w2
 rw[DD hp n1,DE hm n2]at w4
 exact⟨H1,H3,w1,w3,w4⟩
theorem looksF_ok:∀{l:List FL}{L:List lP},L2 (LR nt) l L->∀{done:List Dn},(∀d∈done,WK HS pend mats d)->jb P nt Hs pend mats l done=true->d9 (looksOk P HS aF iO) L=true:=by
 intro l L hl
 induction hl with
 | nil=>intro done _ _;rfl
 | @cons l L ls Ls hl _ ih=>
  intro done xF hk
  have hk:(match Ja l.d.o.op with
   | none=>af (pT P nt Hs pend mats l) (jb P nt Hs pend mats ls done) false
   | some p=>Di P nt Hs pend mats l (jb P nt Hs pend mats ls) done p.1 (Nat.add l.d.lo (Nat.sub l.d.hi l.d.lo)) ((fx p.2).get l.e))=true:=hk
  have RN:af (pT P nt Hs pend mats l) (jb P nt Hs pend mats ls done) false=true->d9 (looksOk P HS aF iO) (L::Ls)=true:=by
   intro hk
   obtain⟨h1,h2⟩:=au hk
   exact(bR _ _ _).2 ⟨Dg Gm hp hm hl h1,ih xF h2⟩
  cases Se:Ja l.d.o.op with
  | none=>grind
  | some p=>
   rw[Se]at hk
   obtain⟨g,n,hop,hc⟩:=adN Se
   have hk:(j8 ((fx p.2).get l.e).c λb=>af (aU (Nat.beq ((fx p.2).get l.e).t 4)<|aU (tI b pend)<|tJ b mats)
    (af (Ig p.1 b ((fx p.2).get l.e).b ((fx p.2).get l.e).a l.d.lo (Nat.add l.d.lo<|Nat.sub l.d.hi l.d.lo) l.v done) (jb P nt Hs pend mats ls done)
     (af (KU P nt Hs l) (jb P nt Hs pend mats ls (⟨p.1,b,((fx p.2).get l.e).b,((fx p.2).get l.e).a,l.d.lo,Nat.add l.d.lo (Nat.sub l.d.hi l.d.lo),l.v⟩::done)) false))
    (af (pT P nt Hs pend mats l) (jb P nt Hs pend mats ls done) false))=true:=hk
   rw[a6]at hk
   rcases aJ hk with⟨hn,hk⟩|⟨_,hk⟩
   ·obtain⟨ht,hn⟩:=aW hn
    have ht:=ag ht
    obtain⟨n1,n2⟩:=aW hn
    -- the place
    have hx:=hl.ptr g n p.2 hop
    obtain⟨ax,dS,dg⟩:=a7 hl.env hx
    obtain⟨rfl,hlt⟩:=dg.C0 ht
    -- from what is found at each FU
    have Kp:(∀k,l.d.lo<=k->k<=l.d.lo+(l.d.hi-l.d.lo)->∃H v,HS[k]?=some H/\rdS H g n ⟨((fx p.2).get l.e).c,((fx p.2).get l.e).b,((fx p.2).get l.e).a⟩=some v/\dz v L.v=true)->looksOk P HS aF iO L=true:=by
     intro h
     refine looksOk_of λk k1 k2=>?_
     rw[<- hl.lo]at k1 k2
     rw[<- hl.hi]at k2
     obtain⟨H,v,h1,h2,h3⟩:=h k k1 k2
     obtain⟨H1,H2,w1,w2,w3⟩:=Aq hp hm (a:=L.aC) (k:=k) n1 n2 H
     refine⟨H,H1,H2,v,H2,h1,w1,w2,?_,h3⟩
     rw[<- hl.op,hop,load_rd dS,Ax w3,h2]
    rcases aJ hk with⟨IT,hk⟩|⟨_,hk⟩
    ·refine(bR _ _ _).2 ⟨?_,ih xF hk⟩
     obtain⟨d,hd,e1,e2,e3,e4,e5,e6,e7⟩:=Ih IT
     obtain⟨g',n',w,f1,f2,f3,f4,f5⟩:=xF d hd
     have hgn:g'=g/\n'=n:=by
      rw[e4,hc]at f1
      cases g<;>cases g'<;>simp only[gN]at f1<;>first | grind | grind
     obtain⟨rfl,rfl⟩:=hgn
     refine Kp λk k1 k2=>?_
     have e6:l.d.lo+(l.d.hi-l.d.lo)<=d.en:=e6
     obtain⟨H,h1,h2⟩:=f5 k (by omega)<|by omega
     rw[e1,e2,e3]at h2
     exact⟨H,w,h1,h2,lJ f4 hl.v e7⟩
    ·obtain⟨h1,hk⟩:=au hk
     -- each FU was looked at
     have run:∀(k:Nat)(h:FH)(kk:V->FH->Bool),Hs[k]?=some h->(B8 P nt l.d.o.op).run dw l.e h kk=true ->
       ∃H v a,HS[k]?=some H/\rdS H g n ⟨((fx p.2).get l.e).c,((fx p.2).get l.e).b,((fx p.2).get l.e).a⟩=some a/\VA v a/\kk v h=true:=by
      intro k h kk h1 hk
      obtain⟨H,h2,hH⟩:=Gm.get h1
      rw[hop]at hk
      obtain⟨a,v,e1,e2,e3⟩:=nv hl.env hH (H1:=H) rfl hk
      rw[load_rd dS]at e1
      split at e1
      ·rename_i u hu
       cases e1
       exact⟨H,v,a,h2,hu,e2,e3⟩
      ·cases e1
     have st:∀k,l.d.lo<=k->k<=l.d.lo+(l.d.hi-l.d.lo)->∃H v,HS[k]?=some H/\rdS H g n ⟨((fx p.2).get l.e).c,((fx p.2).get l.e).b,((fx p.2).get l.e).a⟩=some v/\dz v L.v=true:=by
      intro k k1 k2
      obtain⟨h,r,e1,e2⟩:=kL (F:=λ_ h=>h) _ _ h1 (λk h kk h1 hk=>by
       obtain⟨_,v,_,_,_,_,h7⟩:=run k h kk h1 hk;exact⟨v,h,h7⟩) k k1 (by show k<l.d.lo+(l.d.hi-l.d.lo+1);omega)
      obtain⟨H,v,a,f1,f2,f3,f4⟩:=run k h _ e1 e2
      obtain⟨f5,_⟩:=au f4
      exact⟨H,a,f1,f2,lJ f3 hl.v f5⟩
     refine(bR _ _ _).2 ⟨Kp st,ih (λd hd=>?_) hk⟩
     rcases List.mem_cons.1 hd with rfl|hd
     ·refine⟨g,n,L.v,hc,n1,n2,hl.v,λk k1 k2=>?_⟩
      obtain⟨H,v,h1,h2,h3⟩:=st k k1 k2
      have:v=L.v:=oM h3
      rw[this]at h2
      exact⟨H,h1,h2⟩
     ·exact xF d hd
   grind
end
theorem Jy {l:List FP}{L:List aF}(hl:L2 PR l L):∀{h:FH}{H:Heap},cj h H->∃H',aw (λ(H:Heap)(p:aF)=>some (H.put p.id p.o)) L H=some H' /\
  cj (List.rec (motive:=λ_=>FH->FH) (λh=>h) (λp _ ih h=>ih<|hput p.id p.o h) l h) H'/\(List.rec (motive:=λ_=>FH->FH) (λh=>h) (λp _ ih h=>ih<|hput p.id p.o h) l h:FH).fr=h.fr:=by
 induction hl with
 | nil=>intro h H hH;exact⟨H,rfl,hH,rfl⟩
 | @cons p q l m hp _ ih=>
  intro h H hH
  have h1:=hH.hput hp.lt (x:=q.o) hp.o
  obtain⟨H',k1,k2,k3⟩:=ih h1
  refine⟨H',?_,k2,k3⟩
  rw[ah]
  exact⟨_,by rw[<- hp.id],k1⟩
theorem B4 (hC:eL P K ih){e:Env}{E:Tr AV}{h:FH}{H:Heap}{ds:List cD}{k:Env->FH->Bool}(hE:ij nt e E)(hH:cj h H)(hk:(drawF P nt ops).run ih e h k=true) :
  ∃m E' H' e' h',runDraw P (ev P K m) rd nt ops E ds H=some (.mk .normal E' ds H')/\ij nt e' E'/\cj h' H'/\h'.fr=h.fr/\k e' h'=true:=by
 unfold drawF at hk
 rw[y8]at hk
 split at hk
 ·cases hk
 ·rename_i I hI
  obtain⟨W,hW⟩:=sO hI
  have hk:(j8 h.next λb=>af (Nat.ble (Nat.add b I.nd) 262144)
   ((sR P nt ops I.aC I.ops 0).run ih ⟨e,⟨h.h,Nat.add b I.nd,h.fr⟩,[⟨h.h,Nat.add b I.nd,h.fr⟩],b,[],[],[],0⟩ λs=>N7 P nt s k) false)=true:=hk
  rw[a6]at hk
  obtain⟨h1,hk⟩:=au hk
  have h1:h.next+I.nd<=262144:=aj.1 h1
  have A0:cj ⟨h.h,Nat.add h.next I.nd,h.fr⟩ ⟨H.t,Nat.add H.next I.nd⟩:=⟨by rw[hH.next],h1,λb hb=>by exact hH.block b hb⟩
  have hR:GD nt h.fr ⟨e,⟨h.h,Nat.add h.next I.nd,h.fr⟩,[⟨h.h,Nat.add h.next I.nd,h.fr⟩],h.next,[],[],[],0⟩
   ⟨E,ds,⟨H.t,Nat.add H.next I.nd⟩,[⟨H.t,Nat.add H.next I.nd⟩],0,H.next,[],[],[]⟩:=⟨hE,A0,rfl,.cons A0 .nil,rfl,hH.next,.nil,.nil,.nil⟩
  have IX:∀d∈I.ops,d.cls=clsOf d.o.op/\∀t,d.o.dst=some t->t<nt:=by
   intro d hd
   obtain⟨j,hj,rfl⟩:=List.getElem_of_mem hd
   have PM:j<ops.size:=by rw[<- hW.len];exact hj
   obtain⟨d',h1,h2,h3,_⟩:=hW.TA j ops[j] (Array.getElem?_eq_getElem PM)
   rw[List.getElem?_eq_getElem hj]at h1
   cases h1
   rw[h2]
   exact⟨h3,λt ht=>pC ht⟩
  obtain⟨m,S',s',k1,k2,k3,k4⟩:=B3 (rd:=rd) hC IX hR hk
  unfold N7 at k4
  obtain⟨k5,k6⟩:=au k4
  have k7:=looksF_ok k2.Hs.reverse k2.pend k2.mats k2.aO (done:=[]) (λd hd=>by cases hd) k5
  obtain⟨H',p1,p2,p3⟩:=Jy k2.pend k2.heap
  refine⟨m,S'.e,H',s'.e,_,?_,k2.env,p2,p3.trans k2.fr,k6⟩
  unfold runDraw
  grind
end
end Go.Ev
namespace Go.Ev
variable [Sg]
def xe (fr:sw)(ds:List cD)(rd:Option Nat):Prop:=ds=fr.ds.map cD.mark/\(∀D∈fr.ds,D<262144)/\(match rd with | none=>fr.rd=0 | some l=>fr.rd=l+1/\l<262144)
def ZJ (x:AX)(kx:Nat->Kt)(kr k:Kt)(e:Env)(h:FH):Prop:=match x with | .normal=>k e h=true | .ret=>kr e h=true | .exit i=>kx i e h=true
def GC (P:Program)(K:Orc)(rd:Option Nat)(nt:Nat)(c:Code)(E:Tr AV)(ds:List cD)(H:Heap)(kx:Nat->Kt)(kr k:Kt):Prop:=
 ∃m x E' ds' H' e' h',(ev P K m).code rd nt c E ds H=some (.mk x E' ds' H')/\ij nt e' E'/\cj h' H'/\xe h'.fr ds' rd/\ZJ x kx kr k e' h'
section
variable {P:Program}{K:Orc}{rd:Option Nat}{nt:Nat}{ih:bT}
theorem jA {n m:Nat}(h:n<=m){c:Code}{E:Tr AV}{ds:List cD}{H:Heap}{R:CR}(hc:(ev P K n).code rd nt c E ds H=some R):(ev P K m).code rd nt c E ds H=some R:=(eP P K h).code hc
theorem bQ (n:Nat)(c:Code)(E:Tr AV)(ds:List cD)(H:Heap):(ev P K (n+1)).code rd nt c E ds H=stepCode P (ev P K n) rd nt c E ds H:=rfl
theorem GF {n:Nat}{p:Option AX}(h:Sx n p):(n=0/\p=none)\/(n=1/\p=some .ret)\/∃i,n=i+2/\p=some (.exit i):=by
 cases p with
 | none=>exact .inl ⟨h,rfl⟩
 | some x=>
  cases x with
  | normal=>exact h.elim
  | ret=>exact .inr<|.inl ⟨h,rfl⟩
  | exit i=>exact .inr<|.inr ⟨i,h,rfl⟩
theorem range_ok (hC:eL P K ih){g:Operand}{ps:Array Nat}{asg body:Code}{kx:Nat->Kt}{kr k:Kt}{e:Env}{E:Tr AV}{h:FH}{H:Heap}{ds:List cD}(hg:ez nt g=true)(hE:ij nt e E)(hH:cj h H)(hF:xe h.fr ds rd)
  (hk:rT nt g ps.toList asg body ih kx kr e h k=true):GC P K rd nt (.rangeFunc g ps asg body) E ds H kx kr k:=by
 obtain⟨gv,hgv,hvg⟩:=a7 hE hg
 unfold rT at hk
 obtain⟨h8,hk⟩:=au hk
 obtain⟨r,xs,ys,rfl,hr,hx,hy,hl,hc1,Uj⟩:=hvg.Zj<|ag h8
 -- the Zm block is laid,and the function called
 have go:∀{D:Nat}{h1:FH}{H1:Heap}{ds1:List cD},D<262144->cj h1 H1->xe h1.fr ds1 rd->gk nt ps.toList asg body ih kx kr e k ((fx g).get e) D h1=true ->
   ∃m x H' h',(match H1.new (.loop E nt ps.toList asg body .ready none D) with
    | (l,H2)=>match (ev P K m).call ((fx g).get e).a (bI xs<|.yield l::ys) H2 with
     | some (_,H3)=>match H3.get l with
      | some (.loop _ _ _ _ _ st pend D')=>match st with
       | .busy=>none
       | _=>match pend with
        | none=>some<|CR.mk .normal E ds1<|H3.del l
        | some x=>some<|CR.mk x E ds1<|H3.del l
      | _=>none
     | none=>none)=some (.mk x E ds1 H')/\cj h' H'/\xe h'.fr ds1 rd/\ZJ x kx kr k e h':=by
  intro D h1 H1 ds1 hD A0 XP hk
  unfold gk at hk
  have hk:=dW hk hr
  rw[a6]at hk
  obtain⟨h2,hlt,xC,Ys,hk⟩:=A0.new hk<|gy.vW (o:=ml e nt ps.toList asg body 0 0 D) (E:=E) (st:=.ready) (pend:=none) rfl rfl hE rfl rfl hD
  have v1:VAs (bJ r ((fx g).get e).c 0) xs:=by
   rw[<- hx];exact VAs.cells λi a ha=>by grind
  have v2:VAs (bJ r ((fx g).get e).b ((fx g).get e).c) ys:=by
   rw[<- hy];exact VAs.cells Uj
  have v3:VAs (bI (bJ r ((fx g).get e).c 0)<|cH (.yield H1.next)::bJ r ((fx g).get e).b ((fx g).get e).c) (bI xs<|.yield H1.next::ys):=by
   rw[aN,aN]
   exact v1.append<|.cons (VA.eU rfl) v2
  obtain⟨m,a,v,h3,H3,k1,k2,k3,k4,k5⟩:=hC.call v3 xC hk
  unfold tX at k5
  obtain⟨q,k5⟩:=au k5
  obtain⟨q1,q2⟩:=aW q
  obtain⟨E',st,pend,w1,w2,w3,w4,_⟩:=(k3.block _ hlt).loop (ag q1)
  have hst:st≠.busy:=by
   rintro rfl
   have:(hget H1.next h3).lp.st=1:=w3
   rcases aJ q2 with⟨_,hq⟩|⟨hq,_⟩
   ·cases hq
   ·exact kU hq this
  have qZ:=k3.del hlt
  have hfr:xe (hput H1.next l9 h3).fr ds1 rd:=by
   show xe h3.fr ds1 rd
   grind
  have k1:(ev P K m).call ((fx g).get e).a (bI xs<|.yield H1.next::ys) (H1.new<|.loop E nt ps.toList asg body .ready none D).2=some (a,H3):=k1
  have e0:H1.new (.loop E nt ps.toList asg body .ready none D)=(H1.next,(H1.new<|.loop E nt ps.toList asg body .ready none D).2):=rfl
  refine⟨m,match pend with | none=>.normal | some x=>x,H3.del H1.next,hput H1.next l9 h3,?_,qZ,hfr,?_⟩
  ·grind
  ·rcases GF w4 with⟨hn,rfl⟩ | ⟨hn,rfl⟩ | ⟨i,hn,rfl⟩
   ·have k5:yb kx kr k (hget H1.next h3).lp.pend e (hput H1.next l9 h3)=true:=k5
    rw[hn]at k5;exact k5
   ·have k5:yb kx kr k (hget H1.next h3).lp.pend e (hput H1.next l9 h3)=true:=k5
    rw[hn]at k5;exact k5
   ·have k5:yb kx kr k (hget H1.next h3).lp.pend e (hput H1.next l9 h3)=true:=k5
    rw[hn]at k5;exact k5
 obtain⟨hf1,hf2,KE⟩:=hF
 cases rd with
 | none=>
  have KE:h.fr.rd=0:=KE
  have hk:(Nat.rec (motive:=λ_=>Bool) (nX h ⟨pU,mW,[],4,0,0⟩ λD h=>gk nt ps.toList asg body ih kx kr e k ((fx g).get e) D ⟨h.h,h.next,⟨D::h.fr.ds,h.fr.rd⟩⟩)
   (λl _=>af (Nat.beq (hget l h).t 3) (gk nt ps.toList asg body ih kx kr e k ((fx g).get e) (hget l h).lp.D h) false) h.fr.rd:Bool)=true:=hk
  rw[KE]at hk
  obtain⟨h1,hlt,A0,PH,hk⟩:=hH.new hk<|gy.Ql (o:=⟨pU,mW,[],4,0,0⟩) rfl rfl
  have XP:xe ⟨H.next::h1.fr.ds,h1.fr.rd⟩ (cD.mark H.next::ds) none:=by
   refine⟨?_,?_,?_⟩
   ·show cD.mark H.next::ds=cD.mark H.next::h1.fr.ds.map cD.mark
    rw[PH,hf1]
   ·intro D hD
    rcases List.mem_cons.1 hD with rfl|hD
    ·exact hlt
    ·rw[PH]at hD;exact hf2 D hD
   grind
  obtain⟨m,x,H',h',k1,k2,k3,k4⟩:=go hlt (A0.frame _) XP hk
  refine⟨m+1,x,E,cD.mark H.next::ds,H',e,h',?_,hE,k2,k3,k4⟩
  rw[bQ]
  simp only[stepCode,hgv]
  exact k1
 | some l=>
  obtain⟨KE,hl⟩:=KE
  have hk:(Nat.rec (motive:=λ_=>Bool) (nX h ⟨pU,mW,[],4,0,0⟩ λD h=>gk nt ps.toList asg body ih kx kr e k ((fx g).get e) D ⟨h.h,h.next,⟨D::h.fr.ds,h.fr.rd⟩⟩)
   (λl _=>af (Nat.beq (hget l h).t 3) (gk nt ps.toList asg body ih kx kr e k ((fx g).get e) (hget l h).lp.D h) false) h.fr.rd:Bool)=true:=hk
  rw[KE]at hk
  obtain⟨q,hk⟩:=au hk
  obtain⟨E',st,pend,w1,_,_,_,w5⟩:=(hH.block _ hl).loop (ag q)
  obtain⟨m,x,H',h',k1,k2,k3,k4⟩:=go w5 hH ⟨hf1,hf2,KE,hl⟩ hk
  refine⟨m+1,x,E,ds,H',e,h',?_,hE,k2,k3,k4⟩
  rw[bQ]
  simp only[stepCode,hgv,w1]
  exact k1
theorem Jg {b:Code}{bF:Fc}(hb:∀{kx:Nat->Kt}{kr k:Kt}{e:Env}{E:Tr AV}{h:FH}{H:Heap}{ds:List cD},ij nt e E->cj h H->xe h.fr ds rd->bF.run ih kx kr e h k=true->GC P K rd nt b E ds H kx kr k){kx:Nat->Kt}{kr kn:Kt} :
  ∀(N:Nat){e:Env}{E:Tr AV}{h:FH}{H:Heap}{ds:List cD},ij nt e E->cj h H->xe h.fr ds rd->xN ih kx kr kn bF N e h=true->GC P K rd nt (.loop b) E ds H kx kr kn:=by
 intro N
 induction N with
 | zero=>intro e E h H ds _ _ _ hk;cases hk
 | succ N ihN=>
  intro e E h H ds hE hH hF hk
  have hk:bF.run ih kx kr e h (xN ih kx kr kn bF N)=true:=hk
  obtain⟨m1,x1,E1,ds1,H1,e1,h1,k1,k2,k3,k4,k5⟩:=hb hE hH hF hk
  cases x1 with
  | normal=>
   obtain⟨m2,x2,E2,ds2,H2,e2,h2,p1,p2⟩:=ihN k2 k3 k4 k5
   refine⟨max m1 m2+1,x2,E2,ds2,H2,e2,h2,?_,p2⟩
   rw[bQ]
   simp only[stepCode,jA (Nat.le_max_left m1 m2) k1,jA (Nat.le_max_right m1 m2) p1]
  | ret=>exact⟨m1+1,.ret,E1,ds1,H1,e1,h1,by rw[bQ];simp only[stepCode,k1],k2,k3,k4,k5⟩
  | exit i=>exact⟨m1+1,.exit i,E1,ds1,H1,e1,h1,by rw[bQ];simp only[stepCode,k1],k2,k3,k4,k5⟩
theorem codeF_ok (hC:eL P K ih):∀(n:Nat){c:Code}{kx:Nat->Kt}{kr k:Kt}{e:Env}{E:Tr AV}{h:FH}{H:Heap}{ds:List cD},ij nt e E->cj h H->xe h.fr ds rd->(fk P nt n c).run ih kx kr e h k=true->GC P K rd nt c E ds H kx kr k:=by
 intro n
 induction n with
 | zero=>intro c kx kr k e E h H ds _ _ _ hk;cases hk
 | succ n ihn=>
  intro c kx kr k e E h H ds hE hH hF hk
  cases c with
  | skip=>exact⟨1,.normal,E,ds,H,e,h,rfl,hE,hH,hF,hk⟩
  | label l=>exact⟨1,.normal,E,ds,H,e,h,rfl,hE,hH,hF,hk⟩
  | exit i=>exact⟨1,.exit i,E,ds,H,e,h,rfl,hE,hH,hF,hk⟩
  | ret=>exact⟨1,.ret,E,ds,H,e,h,rfl,hE,hH,hF,hk⟩
  | region id ops d=>
   cases d with
   | false=>
    obtain⟨m,E',H',e',h',k1,k2,k3,k4,k5⟩:=Jt (ds:=ds) hC hE hH hk
    exact⟨m+1,.normal,E',ds,H',e',h',by exact k1,k2,k3,by grind,k5⟩
   | true=>
    obtain⟨m,E',H',e',h',k1,k2,k3,k4,k5⟩:=B4 (ds:=ds) (rd:=rd) hC hE hH hk
    exact⟨m+1,.normal,E',ds,H',e',h',by exact k1,k2,k3,by grind,k5⟩
  | seq a b=>
   have hk:(fk P nt n a).run ih kx kr e h (λe h=>(fk P nt n b).run ih kx kr e h k)=true:=hk
   obtain⟨m1,x1,E1,ds1,H1,e1,h1,k1,k2,k3,k4,k5⟩:=ihn hE hH hF hk
   cases x1 with
   | normal=>
    obtain⟨m2,x2,E2,ds2,H2,e2,h2,p1,p2⟩:=ihn k2 k3 k4 k5
    refine⟨max m1 m2+1,x2,E2,ds2,H2,e2,h2,?_,p2⟩
    rw[bQ]
    simp only[stepCode,jA (Nat.le_max_left m1 m2) k1,jA (Nat.le_max_right m1 m2) p1]
   | ret=>exact⟨m1+1,.ret,E1,ds1,H1,e1,h1,by rw[bQ];simp only[stepCode,k1],k2,k3,k4,k5⟩
   | exit i=>exact⟨m1+1,.exit i,E1,ds1,H1,e1,h1,by rw[bQ];simp only[stepCode,k1],k2,k3,k4,k5⟩
  | cond c a b=>
   have e0:fk P nt (n+1) (.cond c a b)=(match ez nt c with
    | true=>⟨λih kx kr e h k=>gj ((fx c).get e) ((fk P nt n a).run ih kx kr e h k)<|(fk P nt n b).run ih kx kr e h k⟩
    | false=>⟨λ_ _ _ _ _ _=>false⟩):=rfl
   rw[e0]at hk
   cases hc:ez nt c with
   | false=>grind
   | true=>
    rw[hc]at hk
    obtain⟨cv,eQ,A5⟩:=a7 hE hc
    rcases kF A5 hk with⟨rfl,hk⟩|⟨rfl,hk⟩
    ·obtain⟨m1,x1,E1,ds1,H1,e1,h1,k1,k2⟩:=ihn hE hH hF hk
     exact⟨m1+1,x1,E1,ds1,H1,e1,h1,by rw[bQ];simp only[stepCode,eQ,k1],k2⟩
    ·obtain⟨m1,x1,E1,ds1,H1,e1,h1,k1,k2⟩:=ihn hE hH hF hk
     exact⟨m1+1,x1,E1,ds1,H1,e1,h1,by rw[bQ];simp only[stepCode,eQ,k1],k2⟩
  | block id b=>
   have hk:(fk P nt n b).run ih (λi e h=>af (Nat.beq i id) (k e h)<|kx i e h) kr e h k=true:=hk
   obtain⟨m1,x1,E1,ds1,H1,e1,h1,k1,k2,k3,k4,k5⟩:=ihn hE hH hF hk
   cases x1 with
   | normal=>exact⟨m1+1,.normal,E1,ds1,H1,e1,h1,by rw[bQ];simp only[stepCode,k1],k2,k3,k4,k5⟩
   | ret=>exact⟨m1+1,.ret,E1,ds1,H1,e1,h1,by rw[bQ];simp only[stepCode,k1],k2,k3,k4,k5⟩
   | exit i=>
    rcases aJ k5 with⟨hi,k5⟩|⟨hi,k5⟩
    ·exact⟨m1+1,.normal,E1,ds1,H1,e1,h1,by rw[bQ];simp only[stepCode,k1,hi],k2,k3,k4,k5⟩
    ·exact⟨m1+1,.exit i,E1,ds1,H1,e1,h1,by rw[bQ];simp only[stepCode,k1,hi],k2,k3,k4,k5⟩
  | loop b=>
   have e0:fk P nt (n+1) (.loop b)=⟨λih kx kr e h k=>xN ih kx kr k (fk P nt n b) 100000 e h⟩:=rfl
   rw[e0]at hk
   generalize 100000=N at hk
   exact Jg (b:=b) (bF:=fk P nt n b) (λa1 a2 a3 a4=>ihn a1 a2 a3 a4) N hE hH hF hk
  | rangeFunc g ps asg body=>
   have e0:fk P nt (n+1) (.rangeFunc g ps asg body)=(match ez nt g with
    | true=>⟨λih kx kr e h k=>rT nt g ps.toList asg body ih kx kr e h k⟩
    | false=>⟨λ_ _ _ _ _ _=>false⟩):=rfl
   rw[e0]at hk
   cases hc:ez nt g with
   | false=>grind
   | true=>rw[hc]at hk;exact range_ok hC hc hE hH hF hk
  | _=>cases hk
theorem z6 {k:FH->Bool}{Xy:fP}:∀{l:List Nat}{h:FH}{H:Heap},(∀D∈l,D<262144)->cj h H->rE l h k=true->∃H' h',runDefers Xy (l.map cD.mark) H=some H'/\cj h' H'/\k h'=true:=by
 intro l
 induction l with
 | nil=>intro h H _ hH hk;exact⟨H,h,rfl,hH,hk⟩
 | cons D l ihl=>
  intro h H hl hH hk
  have hk:af (Nat.beq (hget D h).t 4) (rE l (hput D l9 h) k) false=true:=hk
  obtain⟨q,hk⟩:=au hk
  have hD:=hl D<|List.mem_cons_self ..
  have hm:=(hH.block D hD).mark (ag q)
  obtain⟨H',h',k1,k2⟩:=ihl (λD hD=>hl D<|List.mem_cons_of_mem _ hD) (hH.del hD) hk
  refine⟨H',h',?_,k2⟩
  show runDefers Xy (cD.mark D::l.map cD.mark) H=some H'
  simp only[runDefers,hm]
  exact k1
theorem resF_ok {r:ResultVar}{e:Env}{E:Tr AV}{h:FH}{H:Heap}{k:V->FH->Bool}(hE:ij nt e E)(hH:cj h H)(hk:(Ft P nt r).run ih e h k=true):∃a v,resultOf P E H r=some a/\VA v a/\k v h=true:=by
 cases r with
 | tmp t=>
  have e0:Ft P nt (.tmp t)=(match Nat.blt t nt with | true=>⟨λ_ e h k=>k ((da t).g V e) h⟩ | false=>jd):=rfl
  rw[e0]at hk
  cases hc:Nat.blt t nt with
  | false=>rw[hc]at hk;cases hk
  | true=>
   rw[hc]at hk
   obtain⟨a,h1,h2⟩:=hE.slot t<|aA.1 hc
   exact⟨a,_,h1,by rw[(dr t V).1];exact h2,hk⟩
 | cell a t=>
  have e0:Ft P nt (.cell a t)=(match Nat.blt a nt with
   | false=>jd
   | true=>match i8 (ri P) t,sizeG (ri P) t with
    | some true,some n=>mS n true ⟨(da a).g V⟩
    | some false,some 1=>mS 1 false ⟨(da a).g V⟩
    | _,_=>jd):=rfl
  rw[e0]at hk
  cases hc:Nat.blt a nt with
  | false=>rw[hc]at hk;cases hk
  | true=>
   rw[hc]at hk
   obtain⟨av,h1,h2⟩:=hE.slot a<|aA.1 hc
   have h2:VA ((⟨(da a).g V⟩:Fx).get e) av:=by
    show VA ((da a).g V e) av
    rw[(dr a V).1];exact h2
   simp only[resultOf,h1]
   simp only at hk
   rw[show i8 (ri P) t=isAggT P t by rw[rj];rfl,show sizeG (ri P) t=size? P t by rw[rj];rfl]at hk
   split at hk
   ·rename_i n hg hs
    obtain⟨p,l,u,v,rfl,h3,h4,h5,h6⟩:=loadF_ok (x:=⟨(da a).g V⟩) hH h2 hk
    grind
   ·rename_i hg hs
    obtain⟨p,l,u,v,rfl,h3,h4,h5,h6⟩:=loadF_ok (x:=⟨(da a).g V⟩) hH h2 hk
    grind
   ·cases hk
theorem Fv {e:Env}{E:Tr AV}{h:FH}{H:Heap}(hE:ij nt e E)(hH:cj h H):∀{l:List ResultVar}{k:List V->Bool},(yk P nt l).run e h k=true->∃as vs,aI (resultOf P E H) l=some as/\VAs vs as/\k vs=true:=by
 intro l
 induction l with
 | nil=>intro k hk;exact⟨[],[],rfl,.nil,hk⟩
 | cons r l ihl=>
  intro k hk
  have hk:((Ft P nt r).run dw e h λv _=>(yk P nt l).run e h λvs=>k<|v::vs)=true:=hk
  obtain⟨a,v,h1,h2,h3⟩:=resF_ok hE hH hk
  obtain⟨as,vs,h4,h5,h6⟩:=ihl h3
  exact⟨a::as,v::vs,(aV _ _ _ _).2 ⟨a,as,h1,h4,rfl⟩,.cons h2 h5,h6⟩
def x8 (as:List AV):AV:=match as with | [v]=>v | vs=>.tuple vs
theorem DZ {vs:List V}{as:List AV}(h:VAs vs as)(hl:as.length<=4180):VA (DY vs) (x8 as):=by
 cases h with
 | nil=>exact VA.tE (cs:=[]) rfl (by omega)<|λi a h=>by simp at h
 | cons h1 h2=>
  cases h2 with
  | nil=>exact h1
  | @cons v a vs as h3 h4=>
   rename_i v0 a0
   have hv:VAs (v0::v::vs) (a0::a::as):=.cons h1<|.cons h3 h4
   refine VA.tE (r:=rowV<|v0::v::vs) (n:=aK<|v0::v::vs) (cs:=a0::a::as) (by rw[ar,hv.length]) (by rw[ar,hv.length];exact hl)<|λi c hc=>?_
   have:=hv.row (o:=0) (r:=cT) (by omega) i c hc
   rwa [Nat.zero_add]at this
theorem J4 {k:Env->Bool}{ps:List Nat}{args:List V}{as:List AV}{e:Env}{E:Tr AV}(hl:aK ps<=2)(hE:ij nt e E)(ha:VAs args as)(hk:VJ nt ps args e k=true):∃E' e',setAll ps as nt E=some E'/\ij nt e' E'/\k e'=true:=by
 match ps,hl with
 | [],_=>
  cases ha with
  | nil=>exact⟨E,e,rfl,hE,hk⟩
  | cons=>cases hk
 | [p],_=>
  cases ha with
  | nil=>cases hk
  | cons h1 h2=>
   obtain⟨q,hk⟩:=au (c:=Nat.blt p nt) hk
   cases h2 with
   | nil=>exact⟨_,_,by simp only[setAll,q],hE.put (aA.1 q) h1,hk⟩
   | cons=>cases hk
 | [p,p2],_=>
  cases ha with
  | nil=>cases hk
  | cons h1 h2=>
   obtain⟨q,hk⟩:=au (c:=Nat.blt p nt) hk
   cases h2 with
   | nil=>cases hk
   | cons h3 h4=>
    obtain⟨q2,hk⟩:=au (c:=Nat.blt p2 nt) hk
    cases h4 with
    | nil=>exact⟨_,_,by simp only[setAll,q,q2,Bool.and_self],(hE.put (aA.1 q) h1).put (aA.1 q2) h3,hk⟩
    | cons=>cases hk
 | _::_::_::l,hl=>rw[ar]at hl;simp at hl
theorem fnF_ok (hC:eL P K ih){f:FuncId}{args:List V}{as:List AV}{h:FH}{H:Heap}{k:V->FH->Bool}(ha:VAs args as)(hH:cj h H)(hk:(fnF P f).run ih args h k=true) :
  ∃m a v h' H',stepCall P (ev P K m) f as H=some (a,H')/\VA v a/\cj h' H'/\h'.fr=h.fr/\k v h'=true:=by
 unfold fnF at hk
 split at hk
 ·rename_i fn hfn
  rw[cY,Array.getElem?_toList]at hfn
  split at hk
  ·rename_i c hc
   split at hk
   ·rename_i hg
    obtain⟨g1,g2⟩:=(Bool.and_eq_true _ _).mp hg
    obtain⟨g2,g3⟩:=(Bool.and_eq_true _ _).mp g2
    have g1:fn.ntmps<=4180:=aj.1 g1
    have g2:=aj.1 g2
    have hk:af (Nat.ble (aK args) fn.ntmps) ((fk P fn.ntmps 1000 c).run ih (λ_ _ _=>false) (Ay P fn.ntmps fn.results.toList h.fr k) (Ba args 0 cT) ⟨h.h,h.next,Kz⟩
     (Ay P fn.ntmps fn.results.toList h.fr k)) false=true:=hk
    obtain⟨q,hk⟩:=au hk
    have hlen:aK args=aK as:=by rw[ar,ar,ha.length]
    rw[hlen]at q
    have q':=aj.1 q
    rw[ar]at q'
    -- the FS
    obtain⟨s0,hs0⟩:=i9 (f:=λ(s:Tr AV × Nat)(v:AV)=>some (s.1.put s.2 v,Nat.succ s.2)) (λb a=>⟨_,rfl⟩) as (my fn.ntmps,0)
    have iL:argsEnv fn.ntmps as=some s0.1:=by unfold argsEnv;rw[hs0]
    have hE:ij fn.ntmps (Ba args 0 cT) s0.1:=by
     refine⟨g1,λt ht=>?_⟩
     rw[argsEnv_get iL]
     cases Ue:as[t]? with
     | some a=>
      refine⟨a,rfl,?_⟩
      have:=ha.row (o:=0) (r:=cT) (by omega) t a Ue
      grind
     | none=>
      refine⟨.undef,by grind,?_⟩
      have hge:as.length<=t:=List.getElem?_eq_none_iff.1 Ue
      rw[nC _ _ _ _ (by rw[ha.length];omega) (by omega),dif_neg (by rw[ha.length];omega)]
      show VA (atR t<|rpR vU) .undef
      rw[at_rpR]
      exact VA.undef
    obtain⟨m,x,E',ds',H',e',h',k1,k2,k3,k4,k5⟩:=codeF_ok (rd:=none) (ds:=[]) hC 1000 hE (hH.frame Kz) ⟨rfl,(λD hD=>by cases hD),rfl⟩ hk
    have fin:Ay P fn.ntmps fn.results.toList h.fr k e' h'=true->∃H2 as' h2 v,runDefers (ev P K m) ds' H'=some H2/\aI (resultOf P E' H2) fn.results.toList=some as'/\as'.length<=4180/\VA v (x8 as')/\cj h2 H2/\h2.fr=h.fr/\k v h2=true:=by
     intro hr
     have hr:(rE h'.fr.ds h' λh1=>(yk P fn.ntmps fn.results.toList).run e' h1 λvs=>k (DY vs) ⟨h1.h,h1.next,h.fr⟩)=true:=hr
     obtain⟨f1,f2,_⟩:=k4
     obtain⟨H2,h2,p1,p2,p3⟩:=z6 (Xy:=ev P K m) f2 k3 hr
     obtain⟨as',vs,w1,w2,w3⟩:=Fv k2 p2 p3
     have hl:as'.length<=4180:=by rw[(gJ w1).1,<- ar];exact g2
     exact⟨H2,as',_,_,by grind,w1,hl,DZ w2 hl,p2.frame h.fr,rfl,w3⟩
    have hxr:x=.normal\/x=.ret:=by
     cases x with
     | normal=>exact .inl rfl
     | ret=>exact .inr rfl
     | exit i=>cases k5
    have hr:Ay P fn.ntmps fn.results.toList h.fr k e' h'=true:=by
     rcases hxr with rfl|rfl<;>exact k5
    obtain⟨H2,as',h2,v,p1,p2,p3,p4,p5,p6,p7⟩:=fin hr
    refine⟨m,x8 as',v,h2,H2,?_,p4,p5,p6,p7⟩
    unfold stepCall
    have c1:(Nat.ble (aK as) fn.ntmps && !(fn.name == "runtime.NumGoroutine"))=true:=by grind
    have e1:(match aI (resultOf P E' H2) fn.results.toList with
      | some [v]=>some (v,H2)
      | some vs=>some (AV.tuple vs,H2)
      | none=>none)=some (x8 as',H2):=by
     rw[p2]
     match as' with
     | []=>rfl
     | [_]=>rfl
     | _::_::_=>rfl
    grind
   ·cases hk
  ·cases hk
 ·cases hk
structure Bh (F:iB)(K:Orc):Prop where
 res:∀{f:FuncId}{args:List V}{as:List AV}{h:FH}{H:Heap}{v:V}{h':FH},VAs args as->cj h H->F f args h=some (some (v,h'))->∃a H',K f as H=some (a,H')/\VA v a/\cj h' H'/\h'.fr=h.fr
 non:∀{f:FuncId}{args:List V}{as:List AV}{h:FH}{H:Heap},VAs args as->cj h H->F f args h=none->K f as H=none
theorem BN {F:iB}(hF:Bh F K)(hC:eL P K ih){f:FuncId}{args:List V}{as:List AV}{h:FH}{H:Heap}{k:V->FH->Bool}(ha:VAs args as)(hH:cj h H)(hk:BM F f args h k ((fnF P f).run ih args h k)=true) :
  ∃m a v h' H',(ev P K m).call f as H=some (a,H')/\VA v a/\cj h' H'/\h'.fr=h.fr/\k v h'=true:=by
 unfold BM at hk
 cases hr:F f args h with
 | none=>
  rw[hr]at hk
  obtain⟨m,a,v,h',H',h1,h2⟩:=fnF_ok hC ha hH hk
  refine⟨m+1,a,v,h',H',?_,h2⟩
  show knownCall K f as H (stepCall P (ev P K m) f as H)=_
  rw[h1]
  unfold knownCall
  rw[hF.non ha hH hr]
 | some o=>
  rw[hr]at hk
  cases o with
  | none=>cases hk
  | some p=>
   obtain⟨v,h'⟩:=p
   have hk:k v h'=true:=hk
   obtain⟨a,H',k1,k2,k3,k4⟩:=hF.res ha hH hr
   refine⟨1,a,v,h',H',?_,k2,k3,k4,hk⟩
   show knownCall K f as H (stepCall P (ev P K 0) f as H)=_
   unfold knownCall
   rw[k1]
theorem Im {l:Nat}{fr:sw}{st pend:Nat}{v:V}{h:FH}{H:Heap}{k:V->FH->Bool}{st':LoopState}{pend':Option AX}(hl:l<262144)(hs:VN st st')(hp:Sx pend pend')(hH:cj h H)(hk:zi l fr st pend v h k=true) :
  ∃E nt ps asg body s0 p0 D h',H.get l=some (.loop E nt ps asg body s0 p0 D)/\cj h' (H.put l<|.loop E nt ps asg body st' pend' D)/\h'.fr=fr/\k v h'=true:=by
 unfold zi at hk
 obtain⟨q,hk⟩:=au hk
 obtain⟨E,s0,p0,w1,w2,w3,w4,w5⟩:=(hH.block l hl).loop (ag q)
 have:=hH.hput hl<|gy.vW (o:=ml (hget l h).lp.e (hget l h).lp.nt (hget l h).lp.ps (hget l h).lp.asg (hget l h).lp.body st pend (hget l h).lp.D) (E:=E) (st:=st') (pend:=pend') rfl rfl w2 hs hp w5
 exact⟨E,_,_,_,_,s0,p0,_,_,w1,this.frame fr,rfl,hk⟩
theorem roundF_ok (hC:eL P K ih){l:Nat}{args:List V}{as:List AV}{h:FH}{H:Heap}{k:V->FH->Bool}(ha:VAs args as)(hH:cj h H)(hk:wu P ih l args h k=true) :
  ∃m a v h' H',roundOf (ev P K m) l as H=some (a,H')/\VA v a/\cj h' H'/\h'.fr=h.fr/\k v h'=true:=by
 unfold wu at hk
 rw[a6]at hk
 obtain⟨q,hk⟩:=au hk
 obtain⟨q1,q2⟩:=aW q
 obtain⟨q0,q1⟩:=aW q1
 obtain⟨q2,q3⟩:=aW q2
 have hl:l<262144:=aA.1 q0
 have q1:aK (hget l h).lp.ps<=2:=aj.1 q1
 obtain⟨E,st,pend,w1,w2,w3,w4,w5⟩:=(hH.block l hl).loop (ag q2)
 have q3:(hget l h).lp.st=0:=ag q3
 have hst:st=.ready:=by
  rw[q3]at w3
  cases st<;>first | rfl | cases w3
 subst hst
 obtain⟨E1,e1,a1,a2,a3⟩:=J4 q1 w2 ha hk
 obtain⟨m1,x1,E2,ds2,H2,e2,h2,k1,k2,k3,k4,k5⟩:=codeF_ok (rd:=some l) (ds:=[]) hC 1000 a2 (hH.frame ⟨[],Nat.succ l⟩) ⟨rfl,(λD hD=>by cases hD),rfl,hl⟩ a3
 cases x1 with
 | ret=>cases k5
 | exit i=>cases k5
 | normal=>
  obtain⟨q,k5⟩:=au k5
  obtain⟨q4,q5⟩:=aW q
  obtain⟨E',J8,ke,z1,z2,z3,z4,z5⟩:=(k3.block l hl).loop (ag q4)
  have q5:(hget l h2).lp.st=0:=ag q5
  have pk:J8=.ready:=by
   rw[q5]at z3
   cases J8<;>first | rfl | cases z3
  subst pk
  have Ui:=(k3.hput hl<|gy.vW (o:=ml (hget l h2).lp.e (hget l h2).lp.nt (hget l h2).lp.ps (hget l h2).lp.asg (hget l h2).lp.body 1 (hget l h2).lp.pend (hget l h2).lp.D) (E:=E') (st:=.busy) (pend:=ke) rfl rfl z2 rfl z4 z5).frame h2.fr
  obtain⟨m2,x3,E3,ds3,H3,e3,h3,p1,p2,p3,p4,p5⟩:=codeF_ok (rd:=some l) hC 1000 k2 Ui k4 k5
  have p1:(ev P K m2).code (some l) (hget l h).lp.nt (hget l h).lp.body E2 ds2 (H2.put l<|.loop E' (hget l h2).lp.nt (hget l h2).lp.ps (hget l h2).lp.asg (hget l h2).lp.body .busy ke (hget l h2).lp.D)=some (.mk x3 E3 ds3 H3):=p1
  have run:∀{st':LoopState}{pend':Option AX}{b:Bool}{v:V}{s p:Nat},VN s st'->Sx p pend'->VA v (.bool b)->zi l h.fr s p v h3 k=true ->
    (∀E nt ps asg body s0 p0 D,H3.get l=some (.loop E nt ps asg body s0 p0 D)->(match x3 with
       | .normal=>some (AV.bool true,H3.put l<|.loop E nt ps asg body .ready none D)
       | x=>some (.bool false,H3.put l (.loop E nt ps asg body .done (some x) D)))=some (.bool b,H3.put l (.loop E nt ps asg body st' pend' D))) ->
    ∃m a v h' H',roundOf (ev P K m) l as H=some (a,H')/\VA v a/\cj h' H'/\h'.fr=h.fr/\k v h'=true:=by
   intro st' pend' b v s p hs hp hv he hx
   obtain⟨E4,nt4,ps4,W4,Tq,s4,p4',D4,h4,y1,y2,y3,y4⟩:=Im hl hs hp p3 he
   refine⟨max m1 m2,.bool b,v,h4,_,?_,hv,y2,y3,y4⟩
   unfold roundOf
   simp only[w1,a1,jA (Nat.le_max_left m1 m2) k1,z1,jA (Nat.le_max_right m1 m2) p1,y1]
   grind
  cases x3 with
  | normal=>exact run (st':=.ready) (pend':=none) (b:=true) rfl rfl (VA.bool true) p5<|λ_ _ _ _ _ _ _ _ _=>rfl
  | ret=>exact run (st':=.done) (pend':=some .ret) (b:=false) rfl rfl (VA.bool false) p5<|λ_ _ _ _ _ _ _ _ _=>rfl
  | exit i=>exact run (st':=.done) (pend':=some<|.exit i) (b:=false) rfl rfl (VA.bool false) p5<|λ_ _ _ _ _ _ _ _ _=>rfl
end
theorem kX (P:Program){F:iB}{K:Orc}(hF:Bh F K):∀n,eL P K (callF P F n):=by
 intro n
 induction n with
 | zero=>exact Ac P K
 | succ n ihn=>exact⟨λha hH hk=>BN hF ihn ha hH hk,λha hH hk=>roundF_ok ihn ha hH hk⟩
theorem Cd:cj fh0 ⟨.lf,0⟩:=by
 refine⟨rfl,by show 0<=262144;omega,λb hb=>?_⟩
 have:hget b fh0=l9:=by
  rw[ia]
  show cX b (cX (b/64)<|cX (b/4096)<|fV<|fV<|fV l9)=l9
  rw[dU,dU,dU]
 rw[this]
 exact gy.gone _ rfl rfl
end Go.Ev
namespace Go.Ev
theorem pO {w w':World}{may:MemPlace->Prop}(h:∀k,k<w.heap.size->w'.heap[k]?=w.heap[k]?)(ho:w'.os=w.os)(hp:w'.output=w.output):w.keptBut w' may:=by
 refine⟨ho,hp,λi hi=>?_⟩
 grind
def aeG (P:Program)(F:iB):Prop:=∃K,OrcOk P K/\∀S:Sg,@Bh S F K
theorem lB (P:Program):aeG P noneKnown:=
 ⟨λ_ _ _=>none,⟨λ_ _ h=>by cases h⟩,λ_=>⟨λ_ _ h=>(by cases h),λ_ _ _=>rfl⟩⟩
@[reducible] noncomputable def mkSg (base:Nat->Int)(val:Nat->AV)(iK:Nat->bv):Sg:=⟨λn=>dec (n/1000) (base (n%1000)),λi c hi=>by
 show dec ((i+1000*c)/1000) (base<|(i+1000*c)%1000)=dec c (dec (i/1000)<|base<|i%1000)
 rw[show(i+1000*c)/1000=c by omega,show(i+1000*c)%1000=i by omega,show i/1000=0 by omega,show i%1000=i by omega]
 rfl,val,iK⟩
@[reducible] noncomputable def sg0:Sg:=mkSg (λ_=>0) (λ_=>.undef) (λ_=>.deferred)
theorem VA.symV [Sg]{i lo hi:Nat}{ex:List AV}{n:Int}(hn:Sg.num i=n)(hl:(lo:Int)-9223372036854775808<=n)(hh:n<=(hi:Int)-9223372036854775808)(he:hi<18446744073709551616)(hx:∀m,AV.int .i64 m∈ex->m≠n) :
  VA (Ev.symV i lo hi ex) (.int .i64 n):=by
 have e:ed (Ev.symV i lo hi ex)=n:=by
  show Sg.num i+((ae:Int)-ae)=n
  omega
 have hb:(ae:Int)=4611686018427387904:=rfl
 have:=VA.sym (v:=Ev.symV i lo hi ex) rfl (by rw[e];show(lo:Int)-2*ae<=n;omega) (by rw[e];show n<=(hi:Int)-2*ae;omega) he (by rw[e];exact hx)<|λm lo hi hr=>by cases hr
 rw[e]at this
 exact this
theorem VA.ofList [Sg]{vs:List V}{as:List AV}(h:VAs vs as)(hl:as.length<=4180):VA (vAgg (rowV vs) 0 as.length) (.agg as):=
 VA.pV rfl (by omega) λi a ha=>by
  have:=VAs.row h (o:=0) (r:=cT) (by omega) i a ha
  exact this
noncomputable def Su (o:bv):Heap:=⟨Tr.lf.put 0 o,1⟩
theorem xf (o:bv)(b:Nat):(Su o).get b=if 0=b then some o else none:=by
 have e:(Su o).get b=((⟨.lf,0⟩:Heap).put 0 o).get b:=rfl
 rw[e,Heap.aR]
 by_cases h:0=b
 ·grind
 ·simp[Heap.get,Tr.get]
theorem N5 [Sg]:cj fhP (Su (Sg.iK 0)):=by
 refine⟨rfl,by show 1<=262144;omega,λb hb=>?_⟩
 have e:hget b fhP=if 0=b then Xz 0 else l9:=by
  have h0:hget b fh0=l9:=by
   rw[ia]
   show cX b (cX (b/64)<|cX (b/4096)<|fV<|fV<|fV l9)=l9
   rw[dU,dU,dU]
  show hget b ⟨(Ev.hput 0 (Xz 0) fh0).h,1,Kz⟩=_
  rw[nl,jE (by omega) hb,h0]
 rw[e,xf]
 by_cases h:0=b
 ·rw[if_pos h,if_pos h]
  exact⟨λ_=>rfl,λk=>absurd k<|by decide,λk=>absurd k<|by decide,λk=>absurd k<|by decide,λk=>absurd k<|by decide,λ_=>rfl,λk=>absurd k<|by decide⟩
 ·rw[if_neg h,if_neg h]
  exact gy.gone _ rfl rfl
def gB (iK off xi sz:Nat)(ob:Obj):G:=λb=>if b=0 then some ⟨iK,off,xi,sz,some ob⟩else none
end Go.Ev
