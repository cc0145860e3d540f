/- Walks and rules. Conditions: none. -/
import Derived.Test.YtbgjkfbeofbngaaGreatEvJ
import Derived.Test.YtbgjkfbeofbngaaGreatEvH
set_option linter.unusedVariables false
set_option linter.unusedSectionVars false
namespace Go.Ev
section
variable {P:Program}{K:Orc}{rd:Option Nat}{nt:Nat}{l:Sl}{ds:List aD}{s:SH}{Q Qn Qr:Po}{Qe:Nat->Po}{F:Nat->FuncId}{T:Nat->TypeId}
theorem aH.cons {bl:Nat}{EL:List (List AV)}{d:SD}{t s:SH}{p:Nat × HO}(h:aH bl EL d t s):aH bl EL d (p::t) (p::s):=by
 obtain⟨sc,lv,pv,ov,F8,hv,gv,ev,fv,sv,wv,oL,nn,k1,k2,k3,k4⟩:=h
 exact⟨sc,lv,pv,ov,F8,hv,gv,ev,fv,sv,wv,oL,nn,ak λc w h0 h1 h2 hq=>by simp only[h1,h2,hq _ _ k1];omega,k2,k3,k4⟩
theorem aH.tail {bl:Nat}{EL:List (List AV)}{d:SD}{t s:SH}{p:Nat × HO}(h:aH bl EL d (p::t) s):aH bl EL d t s:=aH.fb (x:=[p]) h
theorem F0 {n:Int}(h0:1<=n)(h1:n<=4611686018427387904):binV .sub (iv n) (.int .i64 (.ofNat 1))=some (iv (n-1)):=by
 obtain⟨k,rfl⟩:=Int.eq_ofNat_of_zero_le (by omega:0<=n)
 have hk:1<=k:=by omega
 show mkI .i64 (vH (.ofNat k)<|.ofNat 1)=_
 have:vH (.ofNat k) (.ofNat 1)=.ofNat (k-1):=by
  show(match Nat.ble 1 k with | true=>Int.ofNat (Nat.sub k 1) | false=>.negSucc<|Nat.pred<|Nat.sub 1 k)=_
  rw[Nat.ble_eq_true_of_le hk];rfl
 rw[this,tD<|by omega]
 congr 2
 show((k-1:Nat):Int)=(k:Int)-1
 omega
def Ap (P:Program)(K:Orc)(F:Nat->FuncId)(k a b n m:Int)(it:ID)(d d':SD):Prop:=∀{pv ov lv hv gv ev fv sv wv:AV}(s:SH),mD s pv ov lv hv gv ev fv sv wv d->bB P K (F 164) [.agg (d.cells pv ov lv hv gv ev fv sv wv),.agg (evRow k a b n m it)] s (λv s'=>∃pv ov lv hv gv ev fv sv wv nn,v=.tuple [.agg (d'.cells pv ov lv hv gv ev fv sv wv),iv 0]/\s'=nn++s/\iJ nn pv ov lv hv gv ev fv sv wv d')
theorem mI (hB:Base P K F T){bl:Nat}{EL:List (List AV)}{d d':SD}{t:SH}{k a b n m:Int}{it:ID}(hs:aH bl EL d t s)(hE:EL.length<=1000)(hap:Ap P K F k a b n m it d d') :
  bB P K (F 53) [.agg [.ptr (some ⟨bl,0,0⟩)],.agg<|evRow k a b n m it] s (λv s'=>v=iv 0/\aH bl (EL++[evRow k a b n m it]) d' t s'):=by
 refine hB.f53.dT ?_
 unfold ZZ
 refine Wq<|Wa (.box rfl rfl) λb2=>Wa (.box rfl rfl) λb3=>Wv rfl<|Wn ?_
 refine Wq<|Wf rfl<|Wl rfl (.there .here) rfl rfl rfl<|Wl rfl .here rfl rfl rfl<|Ww<|W1 (zW hB (aH.bK (m:=[_,_]) hs) hE hap) ?_
 rintro w s2 ⟨rfl,h2⟩
 exact Wv rfl<|Wn<|We<|Wm (.tmp rfl .nil) ⟨rfl,h2⟩
theorem u5 (hB:Base P K F T){bf bl:Nat}{aZ bE:AV}{c0 c1 c2 c3 c4:Int}{EL:List (List AV)}{d d':SD}{t:SH}{a:Int}{b n m:Int}{it:ID}(hs:aH bl EL d t s)(hd:d.Small)(hf:Has bf (.r false [bu bl aZ c0 c1 c2 c3 c4 bE] 8) t)(hE:EL.length<=1000)
  (hlen:ilt (.ofNat d.ob.length) c0=true) (hap:Ap P K F 1 a b n m it d d') (hd':d'.Small) (YI:1<=d'.nx/\d'.nx<=1000000) :
  bB P K (F 15) [.ptr (some ⟨bf,0,0⟩),.agg<|evRow 1 a b n m it] s (λv s'=>v=iv (d'.nx-1)/\aH bl (EL++[evRow 1 a b n m it]) d' t s'):=by
 refine hB.f15.dT ?_
 unfold WN
 refine Wq<|Wa (.box rfl rfl) λb3=>Wv rfl<|Wn ?_
 have gw:aH bl EL d ((b3,.r false [evRow 1 a b n m it] 13)::t) ((b3,.r false [evRow 1 a b n m it] 13)::s):=hs.cons
 refine Ws<|Wb<|Wq<|Wv rfl<|Wh (b:=false) rfl rfl rfl<|Wv rfl<|Wn<|Wd rfl (λh=>by cases h)<|λ_=>Ws<|WP.bD ?_
 refine(Dp (.faddr rfl)<|Dl rfl .nil (.load rfl .here rfl rfl rfl)<|Dp (.eql rfl rfl<|bb _ _)<|Dp (.mv rfl)<|Dy<|Dp (.mv rfl)<|Dy<|Dc .nil<|W1 (cz hB gw hd<|.there hf) ?_)
 rintro w s4 ⟨pM,pv,ov,lv,hv,gv,ev,fv,sv,wv,rfl,hR⟩
 have lo:lenOf ov=some d.ob.length:=by rw[hR.ob.lenOf];simp[fy]
 refine(Dy<|Dp (.fld rfl rfl)<|Dy<|Dp (.lenS rfl lo)<|Dy<|Dp (.mv rfl)<|Dy<|Dp (.nilchk rfl rfl)<|Dy<|Dp (.faddr rfl)<|Dy<|Dp (.faddr rfl)<|Dy<|WD.lk rfl .nil (.load rfl (pM.mem<|.there hf) rfl rfl rfl)<|Dy<|Dp (.arith rfl rfl rfl)<|Dp (.cV rfl rfl)<|Dp (.mv rfl)<|D0 .nil ?_ ?_)
 rotate_left
 ·intro o ho
  rw[List.mem_singleton.1 ho]
  refine⟨(λi hi=>nomatch hi),Nat.zero_le _,abl _,λk _ hk=>?_⟩
  rcases cD hk with rfl|rfl
  ·exact⟨_,rfl,.load rfl (.there<|hs.mem hf) rfl rfl rfl⟩
  ·exact⟨_,rfl,.load rfl (pM.mem<|.there hf) rfl rfl rfl⟩
 refine Wd rfl (λh=>by rw[hlen]at h;cases h)<|λ_=>?_
 refine Ws<|WP.bD<|Dp (.mv rfl)<|Dp (.nilchk rfl rfl)<|Dp (.faddr rfl)<|Dl rfl .nil (.load rfl (pM.mem<|.there hf) rfl rfl rfl)<|Dl rfl .nil (.load rfl (pM.mem .here) rfl rfl rfl)<|Dc .nil<|W1 (mI hB pM hE hap) ?_
 rintro w s5 ⟨rfl,tn⟩
 refine Dp (.eql rfl rfl<|bb _ _)<|Dp (.mv rfl)<|D0 .nil ?_<|λo h=>nomatch h
 refine Wd rfl fS<|λ_=>Wi ?_
 refine Ws<|Wq<|Wf rfl<|Wl rfl (tn.mem .here) rfl rfl rfl<|Wn<|Wb ?_
 refine Ws<|Wq<|Wh rfl rfl (bb _ _)<|Wv rfl<|Wn<|Wd rfl (λ_=>Wi ?_) Dz
 refine Wd rfl (λ_=>?_) Dz
 refine Wq<|Wv rfl<|Ww<|W1 (cz hB tn hd'<|.there hf) ?_
 rintro w s6 ⟨KL,pv,ov,lv,hv,gv,ev,fv,sv,wv,rfl,hR6⟩
 refine Wr (.fld rfl rfl)<|Wj rfl rfl (F0 YI.1<|by omega)<|Wv rfl<|Wn<|We<|Wm (.tmp rfl .nil) ⟨rfl,KL.tail⟩
@[reducible] def it0:ID:=⟨0,0,0,0,0,0⟩
def Kj:Po:=λ_ _ _=>False
theorem aH.first {bl:Nat}{EL:List (List AV)}{d:SD}{t s:SH}{p:Nat × HO}(h:aH bl EL d (p::t) s):∃s',s.Perm (p::s')/\aH bl EL d t s':=by
 obtain⟨sc,lv,pv,ov,F8,hv,gv,ev,fv,sv,wv,oL,nn,k1,k2,k3,k4⟩:=h
 exact⟨(bl,.r false [sc++([lv]++(d.cells pv ov F8 hv gv ev fv sv wv++[]))] 51)::(oL++(nn++t)),ak λc w h0 h1 h2 hq=>by simp only[h1,h2,hq _ _ k1];omega,sc,lv,pv,ov,F8,hv,gv,ev,fv,sv,wv,oL,nn,.refl _,k2,k3,k4⟩
theorem yi {k:IntKind}{a b:Nat}(hb:0<b):binV .rem (.int k (.ofNat a)) (.int k (.ofNat b))=some (.int k (.ofNat (a%b))):=by
 cases b with
 | zero=>exact absurd hb<|Nat.lt_irrefl _
 | succ b=>
  cases k<;>simp only[binV,keq,aL]<;>rfl
def spine:Nat->Code->List Code × Code
 | 0,c=>([],c)
 | n+1,.seq a b=>((a::(spine n b).1),(spine n b).2)
 | _+1,c=>([],c)
theorem ug:∀(n:Nat)(c:Code),(spine n c).1.foldr .seq (spine n c).2=c:=by
 intro n
 induction n with
 | zero=>intro c;rfl
 | succ n ih=>
  intro c
  cases c with
  | seq a b=>show Code.seq a ((spine n b).1.foldr .seq (spine n b).2)=_;rw[ih b]
  | _=>rfl
noncomputable def RE (P:Program)(nt:Nat)(ih:bT)(cs:List Code)(k:Kt):Kt:=List.rec (motive:=λ_=>Kt) k (λc _ r e h=>(fk P nt 1000 c).run ih (λ_ _ _=>false) (λ_ _=>false) e h r) cs
end
section
variable [Sg]{P:Program}{K:Orc}{rd:Option Nat}{nt:Nat}{ih:bT}
theorem ye (hC:eL P K ih):∀(cs:List Code){k:Kt}{e:Env}{E:Tr AV}{h:FH}{H:Heap}{ds:List aD},cW nt e E->cj h H->xe h.fr ds rd->RE P nt ih cs k e h=true ->
  ∃E' H' ds' e' h',cW nt e' E'/\cj h' H'/\xe h'.fr ds' rd/\k e' h'=true/\∀(rest:Code)R,bt P K rd nt rest E' ds' H' R->bt P K rd nt (cs.foldr .seq rest) E ds H R:=by
 intro cs
 induction cs with
 | nil=>intro k e E h H ds hE hH hF hk;exact⟨E,H,ds,e,h,hE,hH,hF,hk,λ_ _ hr=>hr⟩
 | cons c cs ihs=>
  intro k e E h H ds hE hH hF hk
  obtain⟨m,x,E1,ds1,H1,e1,h1,k1,k2,k3,k4,k5⟩:=codeF_ok hC 1000 hE hH hF hk
  cases x with
  | normal=>
   obtain⟨E',H',ds',e',h',q1,q2,q3,q4,q5⟩:=ihs k2 k3 k4 k5
   exact⟨E',H',ds',e',h',q1,q2,q3,q4,λrest R hr=>bt.seq ⟨m,k1⟩<|q5 rest R hr⟩
  | ret=>cases k5
  | exit i=>cases k5
noncomputable def isA (v:V)(a:AV):Bool:=match av v with | some b=>dz b a | none=>false
theorem vD {v:V}{a b:AV}(h:VA v a)(hb:isA v b=true):a=b:=by
 unfold isA at hb
 split at hb
 ·rename_i c hc
  rw[eM h hc];exact oM hb
 ·cases hb
noncomputable def Fw (R:R V):Nat->List AV->Bool
 | _,[]=>true
 | j,a::l=>isA (atR j R) a&&Fw R (j+1) l
noncomputable def wx (rs:Ev.R (Ev.R V))(sz:Nat):Nat->List (List AV)->Bool
 | _,[]=>true
 | r,l::L=>Nat.beq l.length sz&&(Fw (atR r rs) 0 l&&wx rs sz (r+1) L)
noncomputable def Ks (h:FH)(b sz:Nat)(L:List (List AV)):Bool:=Nat.blt b 262144&&(Nat.blt b h.next&&(Nat.beq (ap b h).t 1&&(Nat.beq (ap b h).n L.length&&(Nat.beq (ap b h).sz sz&&wx (ap b h).rs sz 0 L))))
theorem Fy {R:Ev.R V}{row:List AV}(hr:∀i a,row[i]?=some a->VA (atR i R) a):∀(l:List AV)(j:Nat),Fw R j l=true->row.length=j+l.length->row.drop j=l:=by
 intro l
 induction l with
 | nil=>simp_all
 | cons a l ih=>
  intro j h hl
  obtain⟨h1,h2⟩:=(Bool.and_eq_true _ _).mp h
  rw[List.length_cons]at hl
  have hj:j<row.length:=by omega
  rw[List.drop_eq_getElem_cons hj,ih (j+1) h2<|by omega,vD (hr j _<|List.getElem?_eq_getElem hj) h1]
theorem AA {rs:Ev.R (Ev.R V)}{sz:Nat}{T:Tr (List AV)}:∀(L:List (List AV))(r:Nat),wx rs sz r L=true->(∀i,r<=i->i<r+L.length->∃row,T.get i=some row/\fQ sz (atR i rs) row) ->
  ∀(i:Nat)row,L[i]?=some row->T.get (r+i)=some row/\row.length=sz:=by
 intro L
 induction L with
 | nil=>grind
 | cons l L ih=>
  intro r h hT i row hi
  obtain⟨h1,h2⟩:=(Bool.and_eq_true _ _).mp h
  obtain⟨h2,h3⟩:=(Bool.and_eq_true _ _).mp h2
  rw[List.length_cons]at hT
  cases i with
  | zero=>
   obtain⟨row,e1,e2⟩:=hT r (Nat.le_refl _)<|by omega
   have h1:l.length=sz:=Nat.eq_of_beq_eq_true h1
   have:=Fy e2.cell l 0 h2 (by rw[e2.len,h1];omega)
   grind
  | succ i=>
   grind
theorem adn {h:FH}{H:Heap}(hH:cj h H){b sz:Nat}{L:List (List AV)}(hc:Ks h b sz L=true):b<H.next/\(HO.r false L sz).ok (H.get b):=by
 obtain⟨h1,hc⟩:=(Bool.and_eq_true _ _).mp hc
 obtain⟨h2,hc⟩:=(Bool.and_eq_true _ _).mp hc
 obtain⟨h3,hc⟩:=(Bool.and_eq_true _ _).mp hc
 obtain⟨h4,hc⟩:=(Bool.and_eq_true _ _).mp hc
 obtain⟨h5,hc⟩:=(Bool.and_eq_true _ _).mp hc
 have h1:b<262144:=bh.1 h1
 have h2:b<h.next:=bh.1 h2
 have h3:(ap b h).t=1:=Nat.eq_of_beq_eq_true h3
 have h4:(ap b h).n=L.length:=Nat.eq_of_beq_eq_true h4
 have h5:(ap b h).sz=sz:=Nat.eq_of_beq_eq_true h5
 refine⟨by rw[<- hH.next];exact h2,?_⟩
 obtain⟨T,e1,e2,e3,e4⟩:=(hH.block b h1).rows h3
 rw[h4,h5]at e1
 refine⟨T,e1,λi row hi=>?_⟩
 have:=AA L 0 hc (λi _ hi=>by
  have:=e4 i<|by omega
  rwa [h5]at this) i row hi
 grind
noncomputable def Du (h:FH):List (Nat × Nat × List (List AV))->Bool
 | []=>true
 | (b,sz,L)::r=>Ks h b sz L&&Du h r
def Dw (l:List (Nat × Nat × List (List AV))):SH:=l.map λp=>(p.1,.r false p.2.2 p.2.1)
theorem Dv {h:FH}{H:Heap}(hH:cj h H):∀{l:List (Nat × Nat × List (List AV))},Du h l=true->∀b o,(b,o)∈Dw l->b<H.next/\o.ok (H.get b):=by
 intro l
 induction l with
 | nil=>intro _ b o hb;cases hb
 | cons p l ih=>
  intro hc b o hb
  obtain⟨b1,sz,L⟩:=p
  obtain⟨h1,h2⟩:=(Bool.and_eq_true _ _).mp hc
  cases hb with
  | head=>exact adn hH h1
  | tail _ hb=>exact ih h2 b o hb
noncomputable def wI (e:Env):List (Nat × AV)->Bool
 | []=>true
 | (t,a)::r=>isA (atR t e) a&&wI e r
theorem AH {e:Env}{E:Tr AV}(hE:cW nt e E):∀{l:List (Nat × AV)},wI e l=true->(∀p∈l,p.1<nt)->∀t a,(t,a)∈l->E.get t=some a:=by
 intro l
 induction l with
 | nil=>grind
 | cons p l ih=>
  intro hc hn t a hb
  obtain⟨h1,h2⟩:=(Bool.and_eq_true _ _).mp hc
  cases hb with
  | head=>
   obtain⟨x,e1,e2⟩:=hE.slot t<|hn _<|List.mem_cons_self ..
   rw[e1,vD e2 h1]
  | tail _ hb=>exact ih h2 (λp hp=>hn p<|List.mem_cons_of_mem _ hp) t a hb
end
@[reducible] def pn (b n sz:Nat):AV:=.slice (some ⟨b,0,0⟩) n n true sz
section
variable [Sg]{P:Program}{K:Orc}
theorem sU {nt:Nat}{args:List V}{as:List AV}(ha:VAs args as)(g1:nt<=4180)(q':as.length<=nt):∃e0,argsEnv nt as=some e0/\cW nt (Ba args 0 l7) e0:=by
 obtain⟨s0,hs0⟩:=i9 (f:=λ(s:Tr AV × Nat)(v:AV)=>some (s.1.put s.2 v,Nat.succ s.2)) (λb a=>⟨_,rfl⟩) as (my nt,0)
 have iL:argsEnv nt as=some s0.1:=by unfold argsEnv;rw[hs0]
 refine⟨s0.1,iL,g1,λt ht=>?_⟩
 rw[argsEnv_get iL]
 cases hat:as[t]? with
 | some a=>
  refine⟨a,rfl,?_⟩
  have:=ha.row (o:=0) (r:=l7) (by omega) t a hat
  rwa [Nat.zero_add]at this
 | none=>
  refine⟨.undef,by simp only[if_pos ht],?_⟩
  have hge:as.length<=t:=List.getElem?_eq_none_iff.1 hat
  rw[nC _ _ _ _ (by rw[ha.length];omega) (by omega),dif_neg (by rw[ha.length];omega)]
  show VA (atR t<|AB vU) .undef
  rw[qD]
  exact VA.undef
end
@[reducible] noncomputable def vu:Heap:=⟨.lf,0⟩
theorem np (b:Nat):vu.get b=none:=by simp[Heap.get,Tr.get]
theorem gW.anywhere {P:Program}{f:FuncId}{args:List AV}{v:AV}(h:gW P f args vu v vu)(ha:∀ρ,AV.rens ρ args=args)(hv:∀ρ,v.ren ρ=v)(Hb:Heap):gW P f args Hb v Hb:=by
 refine⟨λ{X w0 g w xs} hH hx=>?_⟩
 have top:∀b,Hb.next<=b->Hb.get b=none:=λb hb=>hH.lC hb
 have hf:=h.frame (ρ:=λb=>Hb.next+b) (Hb:=Hb) (Gh:=Hb) ⟨λb hb=>absurd hb<|Nat.not_lt_zero _,λb hb=>absurd hb<|Nat.not_lt_zero _,λb _=>by grind,λb c e=>by grind⟩
  (λb _=>np b) ⟨λb=>by rw[np];grind,λ_ _=>rfl,by grind,Nat.le_refl _⟩
 rw[ha,hv]at hf
 exact hf.call hH hx
theorem fast_kcon [Sg]{P:Program}(hm:P.follows .mixedOrders=true){n:Nat}{f:FuncId}{args:List V}{as:List AV}{a:AV}(ha:VAs args as)(hb:AV.AZ 0 a)(h:((callF P noneKnown n).call f args fh0 λv _=>isA v a)=true):gW P f as vu a vu:=by
 obtain⟨O,hO,hF⟩:=lB P
 obtain⟨m,b,v,h',H',h1,h2,_,_,h5⟩:=(kX P (hF _) n).call ha Cd h
 have:=vD h2 h5
 subst this
 exact(gW.KV hm hO h1).eC ⟨rfl,Nat.zero_le _,λb o hb=>by rw[np]at hb;cases hb⟩ (Nat.le_refl _) hb
set_option maxRecDepth 4000
def km (F:Nat->FuncId)(bw:Nat)(m:SH)(v:AV)(p o f:Bool)(fn:Nat):Prop:=∃bx,v=.agg [.bool p,.bool o,.bool f,.func (F fn) [] [.ptr (some ⟨bx,0,0⟩)]]/\Has bx (.r false [[.ptr (some ⟨bw,0,0⟩)]] 1) m
def iP (F:Nat->FuncId)(bw:Nat)(m:SH)(v:AV)(p o f:Bool)(fn g:Nat):Prop:=∃bd bx,v=.agg [.bool p,.bool o,.bool f,.func (F fn) [] [.ptr (some ⟨bd,0,0⟩),.ptr (some ⟨bx,0,0⟩)]]/\Has bd (.r false [[.func (F g) [] []]] 1) m/\Has bx (.r false [[.ptr (some ⟨bw,0,0⟩)]] 1) m
def uH (F:Nat->FuncId)(bw:Nat)(v:AV)(p o f:Bool)(fn:Nat):Prop:=v=.agg [.bool p,.bool o,.bool f,.func (F fn) [.ptr (some ⟨bw,0,0⟩)] []]
def RV (F:Nat->FuncId)(bw:Nat)(m:SH)(k:Nat)(v:AV):Prop:=match k with
 | 1=>km F bw m v true false false 265
 | 2=>uH F bw v false true false 260
 | 3=>iP F bw m v false true true 248 250
 | 4=>iP F bw m v false true true 248 251
 | 5=>iP F bw m v false true true 248 253
 | 6=>iP F bw m v false true true 248 255
 | 7=>iP F bw m v true false false 264 266
 | 8=>iP F bw m v true false false 264 267
 | 9=>iP F bw m v true false false 264 268
 | 10=>uH F bw v false true true 259
 | 11=>iP F bw m v false true true 248 256
 | 12=>iP F bw m v false true true 248 257
 | 13=>iP F bw m v false true true 248 258
 | 14=>iP F bw m v false true true 248 252
 | 15=>km F bw m v false false false 274
 | 16=>km F bw m v false false false 277
 | 17=>km F bw m v false false false 276
 | 18=>km F bw m v false false false 279
 | 19=>km F bw m v false false false 280
 | 20=>uH F bw v true false false 271
 | 21=>km F bw m v true false false 272
 | 22=>km F bw m v false false false 281
 | 23=>iP F bw m v true false false 264 269
 | 24=>iP F bw m v true false false 264 270
 | 25=>km F bw m v false true false 261
 | 26=>uH F bw v true false false 273
 | 27=>km F bw m v false false false 282
 | 28=>uH F bw v false false false 283
 | 29=>km F bw m v false false false 284
 | _=>False
theorem km.mono {F:Nat->FuncId}{bw:Nat}{m m':SH}{v:AV}{p o f:Bool}{fn:Nat}(h:km F bw m v p o f fn)(hm:∀b o,Has b o m->Has b o m'):km F bw m' v p o f fn:=by
 obtain⟨bx,h1,h2⟩:=h
 exact⟨bx,h1,hm _ _ h2⟩
theorem iP.mono {F:Nat->FuncId}{bw:Nat}{m m':SH}{v:AV}{p o f:Bool}{fn g:Nat}(h:iP F bw m v p o f fn g)(hm:∀b o,Has b o m->Has b o m'):iP F bw m' v p o f fn g:=by
 obtain⟨bd,bx,h1,h2,h3⟩:=h
 exact⟨bd,bx,h1,hm _ _ h2,hm _ _ h3⟩
theorem RV.mono {F:Nat->FuncId}{bw:Nat}{m m':SH}{k:Nat}{v:AV}(h:RV F bw m k v)(hm:∀b o,Has b o m->Has b o m'):RV F bw m' k v:=by
 unfold RV at h |-
 split at h<;>first | exact h | exact km.mono h hm | exact iP.mono h hm
theorem RV.agg {F:Nat->FuncId}{bw:Nat}{m:SH}{k:Nat}{v:AV}(h:RV F bw m k v):∃p o f fn,v=.agg [.bool p,.bool o,.bool f,fn]/\partCells 1 fn=some [fn]:=by
 unfold RV at h
 split at h<;>first | exact h.elim | (obtain⟨_,h,_⟩:=h;exact⟨_,_,_,_,h,rfl⟩) | (obtain⟨_,_,h,_⟩:=h;exact⟨_,_,_,_,h,rfl⟩) | exact⟨_,_,_,_,h,rfl⟩
structure Ld (F:Nat->FuncId)(bw:Nat)(m:SH)(es:List (AV × AV))(ks ns:List Nat):Prop where
 yes:∀k∈ks,∃v,lookIn .pi (iv<|.ofNat k) es=some (some v)/\RV F bw m k v
 no:∀k∈ns,lookIn .pi (iv<|.ofNat k) es=some none
section
variable {P:Program}{K:Orc}{rd:Option Nat}{nt:Nat}{l:Sl}{ds:List aD}{s:SH}{Q Qn Qr:Po}{Qe:Nat->Po}{F:Nat->FuncId}{T:Nat->TypeId}
theorem cU (hB:Base P K F T){f x:AV}(hf:partCells 1 f=some [f]):bB P K (F 247) [f,x] s (λv s'=>∃bd m,v=.agg [.bool false,.bool true,.bool true,.func (F 248) [] [.ptr (some ⟨bd,0,0⟩),x]]/\s'=m++s/\Has bd (.r false [[f]] 1) m):=by
 refine hB.f247.dT ?_
 unfold Lp
 refine Wq<|Wa (.box rfl hf) λb2=>Wa (.alloc rfl) λb3=>Wn ?_
 refine Wq<|Wr (.mkfn rfl rfl)<|Wr (.build rfl rfl)<|Ww<|Wt rfl rfl rfl .here rfl rfl<|Wn<|We<|Wm (.cell rfl hB.t290.1 hB.t290.2 (.inl rfl) .here rfl rfl rfl .nil) ?_
 exact⟨b2,[_,_],rfl,rfl,.there .here⟩
theorem oA (hB:Base P K F T){f x:AV}(hf:partCells 1 f=some [f]):bB P K (F 263) [f,x] s (λv s'=>∃bd m,v=.agg [.bool true,.bool false,.bool false,.func (F 264) [] [.ptr (some ⟨bd,0,0⟩),x]]/\s'=m++s/\Has bd (.r false [[f]] 1) m):=by
 refine hB.f263.dT ?_
 unfold Lq
 refine Wq<|Wa (.box rfl hf) λb2=>Wa (.alloc rfl) λb3=>Wn ?_
 refine Wq<|Wr (.mkfn rfl rfl)<|Wr (.build rfl rfl)<|Ww<|Wt rfl rfl rfl .here rfl rfl<|Wn<|We<|Wm (.cell rfl hB.t290.1 hB.t290.2 (.inl rfl) .here rfl rfl rfl .nil) ?_
 exact⟨b2,[_,_],rfl,rfl,.there .here⟩
theorem wU (hB:Base P K F T){bw:Nat}:bB P K (F 224) [.ptr (some ⟨bw,0,0⟩)] s (λv s'=>∃b es m,v=.map (some b)/\s'=m++s/\Has b (.m es) m/\Ld F bw m es [3,4,14,5,6,11,12,13,10,2,25] [1,7,8,9,23,24,20,21,26,15,17,16,18,19,22,27,28,29]):=by
 refine hB.f224.dT ?_
 unfold Ll
 refine Wq<|Wa (.box rfl rfl) λb1=>Wv rfl<|Wn ?_
 refine Wq<|Wr (.mkfn rfl rfl)<|Wv rfl<|Wn<|Ws<|WP.fd λb5=>?_
 refine(WD.dm<|Dp (.mv rfl)<|Dc (.no (show bit 2 0=false from rfl) .nil)<|Wc (first:=[]) (vs:=[.func (F 250) [] []]) (cap:=[.ptr (some ⟨b1,0,0⟩)]) rfl rfl (cU (f:=(.func (F 250) [] [])) (x:=.ptr<|some ⟨b1,0,0⟩) hB rfl) ?_)
 rintro w1 _ ⟨f1,m1,rfl,rfl,h1⟩
 refine(WD.gV rfl rfl rfl rfl rfl rfl<|Dp (.mv rfl)<|Dc (.no (show bit 22 0=false from rfl) .nil)<|Wc (first:=[]) (vs:=[.func (F 251) [] []]) (cap:=[.ptr (some ⟨b1,0,0⟩)]) rfl rfl (cU (f:=(.func (F 251) [] [])) (x:=.ptr<|some ⟨b1,0,0⟩) hB rfl) ?_)
 rintro w2 _ ⟨f2,m2,rfl,rfl,h2⟩
 refine(WD.gV rfl rfl rfl rfl rfl rfl<|Dp (.mv rfl)<|Dc (.no (show bit 182 0=false from rfl) .nil)<|Wc (first:=[]) (vs:=[.func (F 252) [] []]) (cap:=[.ptr (some ⟨b1,0,0⟩)]) rfl rfl (cU (f:=(.func (F 252) [] [])) (x:=.ptr<|some ⟨b1,0,0⟩) hB rfl) ?_)
 rintro w3 _ ⟨f3,m3,rfl,rfl,h3⟩
 refine(WD.gV rfl rfl rfl rfl rfl rfl<|Dp (.mv rfl)<|Dc (.no (show bit 1462 0=false from rfl) .nil)<|Wc (first:=[]) (vs:=[.func (F 253) [] []]) (cap:=[.ptr (some ⟨b1,0,0⟩)]) rfl rfl (cU (f:=(.func (F 253) [] [])) (x:=.ptr<|some ⟨b1,0,0⟩) hB rfl) ?_)
 rintro w4 _ ⟨f4,m4,rfl,rfl,h4⟩
 refine(WD.gV rfl rfl rfl rfl rfl rfl<|Dp (.mv rfl)<|Dc (.no (show bit 11702 0=false from rfl) .nil)<|Wc (first:=[]) (vs:=[.func (F 255) [] []]) (cap:=[.ptr (some ⟨b1,0,0⟩)]) rfl rfl (cU (f:=(.func (F 255) [] [])) (x:=.ptr<|some ⟨b1,0,0⟩) hB rfl) ?_)
 rintro w5 _ ⟨f5,m5,rfl,rfl,h5⟩
 refine(WD.gV rfl rfl rfl rfl rfl rfl<|Dp (.mv rfl)<|Dc (.no (show bit 93622 0=false from rfl) .nil)<|Wc (first:=[]) (vs:=[.func (F 256) [] []]) (cap:=[.ptr (some ⟨b1,0,0⟩)]) rfl rfl (cU (f:=(.func (F 256) [] [])) (x:=.ptr<|some ⟨b1,0,0⟩) hB rfl) ?_)
 rintro w6 _ ⟨f6,m6,rfl,rfl,h6⟩
 refine(WD.gV rfl rfl rfl rfl rfl rfl<|Dp (.mv rfl)<|Dc (.no (show bit 748982 0=false from rfl) .nil)<|Wc (first:=[]) (vs:=[.func (F 257) [] []]) (cap:=[.ptr (some ⟨b1,0,0⟩)]) rfl rfl (cU (f:=(.func (F 257) [] [])) (x:=.ptr<|some ⟨b1,0,0⟩) hB rfl) ?_)
 rintro w7 _ ⟨f7,m7,rfl,rfl,h7⟩
 refine(WD.gV rfl rfl rfl rfl rfl rfl<|Dp (.mv rfl)<|Dc (.no (show bit 5991862 0=false from rfl) .nil)<|Wc (first:=[]) (vs:=[.func (F 258) [] []]) (cap:=[.ptr (some ⟨b1,0,0⟩)]) rfl rfl (cU (f:=(.func (F 258) [] [])) (x:=.ptr<|some ⟨b1,0,0⟩) hB rfl) ?_)
 rintro w8 _ ⟨f8,m8,rfl,rfl,h8⟩
 refine(WD.gV rfl rfl rfl rfl rfl rfl<|WD.lk rfl (.no (show bit 0 0=false from rfl) .nil) (.load rfl (.app<|.app<|.app<|.app<|.app<|.app<|.app<|.app<|.there .here) rfl rfl rfl)<|Dp (.mkfn rfl rfl)<|Dp (.build rfl rfl)<|WD.gV rfl rfl rfl rfl rfl rfl<|WD.lk rfl (.no (show bit 0 0=false from rfl) .nil) (.load rfl (.app<|.app<|.app<|.app<|.app<|.app<|.app<|.app<|.there .here) rfl rfl rfl)<|Dp (.mkfn rfl rfl)<|Dp (.build rfl rfl)<|WD.gV rfl rfl rfl rfl rfl rfl<|Dp (.mkfn rfl rfl)<|Dp (.build rfl rfl)<|WD.gV rfl rfl rfl rfl rfl rfl<|Dp (.mv rfl)<|Dp (.mv rfl)<|D0 (.cons (.app<|.app<|.app<|.app<|.app<|.app<|.app<|.app .here) .nil) ?_ ?_)
 rotate_left
 ·intro o ho
  rcases List.mem_cons.1 ho with rfl|ho
  ·refine⟨(λi hi=>by simp only[List.mem_singleton]at hi;subst hi;rfl),Nat.zero_le _,ji _ _ _,λk _ hk=>?_⟩
   rcases(by have:k<=8:=hk;omega:k=0\/k=1\/k=2\/k=3\/k=4\/k=5\/k=6\/k=7\/k=8)with rfl|rfl|rfl|rfl|rfl|rfl|rfl|rfl|rfl
   ·exact⟨_,rfl,.load rfl (.there .here) rfl rfl rfl⟩
   ·exact⟨_,rfl,.load rfl (.app<|.there .here) rfl rfl rfl⟩
   ·exact⟨_,rfl,.load rfl (.app<|.app<|.there .here) rfl rfl rfl⟩
   ·exact⟨_,rfl,.load rfl (.app<|.app<|.app<|.there .here) rfl rfl rfl⟩
   ·exact⟨_,rfl,.load rfl (.app<|.app<|.app<|.app<|.there .here) rfl rfl rfl⟩
   ·exact⟨_,rfl,.load rfl (.app<|.app<|.app<|.app<|.app<|.there .here) rfl rfl rfl⟩
   ·exact⟨_,rfl,.load rfl (.app<|.app<|.app<|.app<|.app<|.app<|.there .here) rfl rfl rfl⟩
   ·exact⟨_,rfl,.load rfl (.app<|.app<|.app<|.app<|.app<|.app<|.app<|.there .here) rfl rfl rfl⟩
   ·exact⟨_,rfl,.load rfl (.app<|.app<|.app<|.app<|.app<|.app<|.app<|.app<|.there .here) rfl rfl rfl⟩
  ·rw[List.mem_singleton.1 ho]
   refine⟨(λi hi=>by simp only[List.mem_singleton]at hi;subst hi;rfl),Nat.zero_le _,ji _ _ _,λk _ hk=>?_⟩
   rcases(by have:k<=8:=hk;omega:k=0\/k=1\/k=2\/k=3\/k=4\/k=5\/k=6\/k=7\/k=8)with rfl|rfl|rfl|rfl|rfl|rfl|rfl|rfl|rfl
   ·exact⟨_,rfl,.load rfl (.there .here) rfl rfl rfl⟩
   ·exact⟨_,rfl,.load rfl (.app<|.there .here) rfl rfl rfl⟩
   ·exact⟨_,rfl,.load rfl (.app<|.app<|.there .here) rfl rfl rfl⟩
   ·exact⟨_,rfl,.load rfl (.app<|.app<|.app<|.there .here) rfl rfl rfl⟩
   ·exact⟨_,rfl,.load rfl (.app<|.app<|.app<|.app<|.there .here) rfl rfl rfl⟩
   ·exact⟨_,rfl,.load rfl (.app<|.app<|.app<|.app<|.app<|.there .here) rfl rfl rfl⟩
   ·exact⟨_,rfl,.load rfl (.app<|.app<|.app<|.app<|.app<|.app<|.there .here) rfl rfl rfl⟩
   ·exact⟨_,rfl,.load rfl (.app<|.app<|.app<|.app<|.app<|.app<|.app<|.there .here) rfl rfl rfl⟩
   ·exact⟨_,rfl,.load rfl (.app<|.app<|.app<|.app<|.app<|.app<|.app<|.app<|.there .here) rfl rfl rfl⟩
 refine We<|Wm (.tmp rfl .nil) ?_
 have hx:∀y,Has b1 (.r false [[.ptr (some ⟨bw,0,0⟩)]] 1) (m8++(m7++(m6++(m5++(m4++(m3++(m2++(m1++([y,(b1,.r false [[.ptr (some ⟨bw,0,0⟩)]] 1)]))))))))):=λy=>(.app<|.app<|.app<|.app<|.app<|.app<|.app<|.app<|.there .here)
 refine⟨b5,_,_,rfl,(pull<|pull<|pull<|pull<|pull<|pull<|pull<|pull eW),(.app<|.app<|.app<|.app<|.app<|.app<|.app<|.app .here),λk hk=>?_,λk hk=>?_⟩
 ·simp only[List.mem_cons,List.not_mem_nil,or_false]at hk
  rcases hk with rfl|rfl|rfl|rfl|rfl|rfl|rfl|rfl|rfl|rfl|rfl
  ·exact⟨_,rfl,f1,b1,rfl,(.app<|.app<|.app<|.app<|.app<|.app<|.app<|.left h1),hx _⟩
  ·exact⟨_,rfl,f2,b1,rfl,(.app<|.app<|.app<|.app<|.app<|.app<|.left h2),hx _⟩
  ·exact⟨_,rfl,f3,b1,rfl,(.app<|.app<|.app<|.app<|.app<|.left h3),hx _⟩
  ·exact⟨_,rfl,f4,b1,rfl,(.app<|.app<|.app<|.app<|.left h4),hx _⟩
  ·exact⟨_,rfl,f5,b1,rfl,(.app<|.app<|.app<|.left h5),hx _⟩
  ·exact⟨_,rfl,f6,b1,rfl,(.app<|.app<|.left h6),hx _⟩
  ·exact⟨_,rfl,f7,b1,rfl,(.app<|.left h7),hx _⟩
  ·exact⟨_,rfl,f8,b1,rfl,(.left h8),hx _⟩
  ·exact⟨_,rfl,rfl⟩
  ·exact⟨_,rfl,rfl⟩
  ·exact⟨_,rfl,b1,rfl,hx _⟩
 ·simp only[List.mem_cons,List.not_mem_nil,or_false]at hk
  rcases hk with rfl|rfl|rfl|rfl|rfl|rfl|rfl|rfl|rfl|rfl|rfl|rfl|rfl|rfl|rfl|rfl|rfl|rfl<;>rfl
theorem ws (hB:Base P K F T){bw:Nat}:bB P K (F 225) [.ptr (some ⟨bw,0,0⟩)] s (λv s'=>∃b es m,v=.map (some b)/\s'=m++s/\Has b (.m es) m/\Ld F bw m es [1,7,8,9,23,24,20,21,26] [3,4,14,5,6,11,12,13,10,2,25,15,17,16,18,19,22,27,28,29]):=by
 refine hB.f225.dT ?_
 unfold Lm
 refine Wq<|Wa (.box rfl rfl) λb1=>Wv rfl<|Wn ?_
 refine Wq<|Wr (.mkfn rfl rfl)<|Wv rfl<|Wn<|Ws<|WP.fd λb5=>?_
 refine(WD.dm<|Dp (.mkfn rfl rfl)<|Dp (.build rfl rfl)<|WD.gV rfl rfl rfl rfl rfl rfl<|Dp (.mv rfl)<|Dc (.no (show bit 16 0=false from rfl) .nil)<|Wc (first:=[]) (vs:=[.func (F 266) [] []]) (cap:=[.ptr (some ⟨b1,0,0⟩)]) rfl rfl (oA (f:=(.func (F 266) [] [])) (x:=.ptr<|some ⟨b1,0,0⟩) hB rfl) ?_)
 rintro w1 _ ⟨f1,m1,rfl,rfl,h1⟩
 refine(WD.gV rfl rfl rfl rfl rfl rfl<|Dp (.mv rfl)<|Dc (.no (show bit 176 0=false from rfl) .nil)<|Wc (first:=[]) (vs:=[.func (F 267) [] []]) (cap:=[.ptr (some ⟨b1,0,0⟩)]) rfl rfl (oA (f:=(.func (F 267) [] [])) (x:=.ptr<|some ⟨b1,0,0⟩) hB rfl) ?_)
 rintro w2 _ ⟨f2,m2,rfl,rfl,h2⟩
 refine(WD.gV rfl rfl rfl rfl rfl rfl<|Dp (.mv rfl)<|Dc (.no (show bit 1456 0=false from rfl) .nil)<|Wc (first:=[]) (vs:=[.func (F 268) [] []]) (cap:=[.ptr (some ⟨b1,0,0⟩)]) rfl rfl (oA (f:=(.func (F 268) [] [])) (x:=.ptr<|some ⟨b1,0,0⟩) hB rfl) ?_)
 rintro w3 _ ⟨f3,m3,rfl,rfl,h3⟩
 refine(WD.gV rfl rfl rfl rfl rfl rfl<|Dp (.mv rfl)<|Dc (.no (show bit 11696 0=false from rfl) .nil)<|Wc (first:=[]) (vs:=[.func (F 269) [] []]) (cap:=[.ptr (some ⟨b1,0,0⟩)]) rfl rfl (oA (f:=(.func (F 269) [] [])) (x:=.ptr<|some ⟨b1,0,0⟩) hB rfl) ?_)
 rintro w4 _ ⟨f4,m4,rfl,rfl,h4⟩
 refine(WD.gV rfl rfl rfl rfl rfl rfl<|Dp (.mv rfl)<|Dc (.no (show bit 93616 0=false from rfl) .nil)<|Wc (first:=[]) (vs:=[.func (F 270) [] []]) (cap:=[.ptr (some ⟨b1,0,0⟩)]) rfl rfl (oA (f:=(.func (F 270) [] [])) (x:=.ptr<|some ⟨b1,0,0⟩) hB rfl) ?_)
 rintro w5 _ ⟨f5,m5,rfl,rfl,h5⟩
 refine(WD.gV rfl rfl rfl rfl rfl rfl<|WD.lk rfl (.no (show bit 0 0=false from rfl) .nil) (.load rfl (.app<|.app<|.app<|.app<|.app<|.there .here) rfl rfl rfl)<|Dp (.mkfn rfl rfl)<|Dp (.build rfl rfl)<|WD.gV rfl rfl rfl rfl rfl rfl<|Dp (.mkfn rfl rfl)<|Dp (.build rfl rfl)<|WD.gV rfl rfl rfl rfl rfl rfl<|WD.lk rfl (.no (show bit 0 0=false from rfl) .nil) (.load rfl (.app<|.app<|.app<|.app<|.app<|.there .here) rfl rfl rfl)<|Dp (.mkfn rfl rfl)<|Dp (.build rfl rfl)<|WD.gV rfl rfl rfl rfl rfl rfl<|Dp (.mv rfl)<|Dp (.mv rfl)<|D0 (.cons (.app<|.app<|.app<|.app<|.app .here) .nil) ?_ ?_)
 rotate_left
 ·intro o ho
  rcases List.mem_cons.1 ho with rfl|ho
  ·refine⟨(λi hi=>by simp only[List.mem_singleton]at hi;subst hi;rfl),Nat.zero_le _,ji _ _ _,λk _ hk=>?_⟩
   rcases(by have:k<=5:=hk;omega:k=0\/k=1\/k=2\/k=3\/k=4\/k=5)with rfl|rfl|rfl|rfl|rfl|rfl
   ·exact⟨_,rfl,.load rfl (.there .here) rfl rfl rfl⟩
   ·exact⟨_,rfl,.load rfl (.app<|.there .here) rfl rfl rfl⟩
   ·exact⟨_,rfl,.load rfl (.app<|.app<|.there .here) rfl rfl rfl⟩
   ·exact⟨_,rfl,.load rfl (.app<|.app<|.app<|.there .here) rfl rfl rfl⟩
   ·exact⟨_,rfl,.load rfl (.app<|.app<|.app<|.app<|.there .here) rfl rfl rfl⟩
   ·exact⟨_,rfl,.load rfl (.app<|.app<|.app<|.app<|.app<|.there .here) rfl rfl rfl⟩
  ·rw[List.mem_singleton.1 ho]
   refine⟨(λi hi=>by simp only[List.mem_singleton]at hi;subst hi;rfl),Nat.zero_le _,ji _ _ _,λk _ hk=>?_⟩
   rcases(by have:k<=5:=hk;omega:k=0\/k=1\/k=2\/k=3\/k=4\/k=5)with rfl|rfl|rfl|rfl|rfl|rfl
   ·exact⟨_,rfl,.load rfl (.there .here) rfl rfl rfl⟩
   ·exact⟨_,rfl,.load rfl (.app<|.there .here) rfl rfl rfl⟩
   ·exact⟨_,rfl,.load rfl (.app<|.app<|.there .here) rfl rfl rfl⟩
   ·exact⟨_,rfl,.load rfl (.app<|.app<|.app<|.there .here) rfl rfl rfl⟩
   ·exact⟨_,rfl,.load rfl (.app<|.app<|.app<|.app<|.there .here) rfl rfl rfl⟩
   ·exact⟨_,rfl,.load rfl (.app<|.app<|.app<|.app<|.app<|.there .here) rfl rfl rfl⟩
 refine We<|Wm (.tmp rfl .nil) ?_
 have hx:∀y,Has b1 (.r false [[.ptr (some ⟨bw,0,0⟩)]] 1) (m5++(m4++(m3++(m2++(m1++([y,(b1,.r false [[.ptr (some ⟨bw,0,0⟩)]] 1)])))))):=λy=>(.app<|.app<|.app<|.app<|.app<|.there .here)
 refine⟨b5,_,_,rfl,(pull<|pull<|pull<|pull<|pull eW),(.app<|.app<|.app<|.app<|.app .here),λk hk=>?_,λk hk=>?_⟩
 ·simp only[List.mem_cons,List.not_mem_nil,or_false]at hk
  rcases hk with rfl|rfl|rfl|rfl|rfl|rfl|rfl|rfl|rfl
  ·exact⟨_,rfl,b1,rfl,hx _⟩
  ·exact⟨_,rfl,f1,b1,rfl,(.app<|.app<|.app<|.app<|.left h1),hx _⟩
  ·exact⟨_,rfl,f2,b1,rfl,(.app<|.app<|.app<|.left h2),hx _⟩
  ·exact⟨_,rfl,f3,b1,rfl,(.app<|.app<|.left h3),hx _⟩
  ·exact⟨_,rfl,f4,b1,rfl,(.app<|.left h4),hx _⟩
  ·exact⟨_,rfl,f5,b1,rfl,(.left h5),hx _⟩
  ·exact⟨_,rfl,rfl⟩
  ·exact⟨_,rfl,b1,rfl,hx _⟩
  ·exact⟨_,rfl,rfl⟩
 ·simp only[List.mem_cons,List.not_mem_nil,or_false]at hk
  rcases hk with rfl|rfl|rfl|rfl|rfl|rfl|rfl|rfl|rfl|rfl|rfl|rfl|rfl|rfl|rfl|rfl|rfl|rfl|rfl|rfl<;>rfl
theorem wo (hB:Base P K F T){bw:Nat}:bB P K (F 226) [.ptr (some ⟨bw,0,0⟩)] s (λv s'=>∃b es m,v=.map (some b)/\s'=m++s/\Has b (.m es) m/\Ld F bw m es [15,17,16,18,19,22,27,28,29] [3,4,14,5,6,11,12,13,10,2,25,1,7,8,9,23,24,20,21,26]):=by
 refine hB.f226.dT ?_
 unfold Ln
 refine Wq<|Wa (.box rfl rfl) λb1=>Wv rfl<|Wn ?_
 refine Wq<|Wa .mkmap λb5=>(Wr (.mkfn rfl rfl)<|Wr (.build rfl rfl)<|Ww<|WS.ins rfl rfl rfl .here rfl<|Wr (.mkfn rfl rfl)<|Wr (.build rfl rfl)<|Ww<|WS.ins rfl rfl rfl .here rfl<|Wr (.mkfn rfl rfl)<|Wr (.build rfl rfl)<|Ww<|WS.ins rfl rfl rfl .here rfl<|Wr (.mkfn rfl rfl)<|Wr (.build rfl rfl)<|Ww<|WS.ins rfl rfl rfl .here rfl<|Wr (.mkfn rfl rfl)<|Wr (.build rfl rfl)<|Ww<|WS.ins rfl rfl rfl .here rfl<|Wr (.mkfn rfl rfl)<|Wr (.build rfl rfl)<|Ww<|WS.ins rfl rfl rfl .here rfl<|Wr (.mkfn rfl rfl)<|Wr (.build rfl rfl)<|Ww<|WS.ins rfl rfl rfl .here rfl<|Wl rfl (.there .here) rfl rfl rfl<|Wr (.mkfn rfl rfl)<|Wr (.build rfl rfl)<|Ww<|WS.ins rfl rfl rfl .here rfl<|Wr (.mkfn rfl rfl)<|Wr (.build rfl rfl)<|Ww<|WS.ins rfl rfl rfl .here rfl<|Wv rfl<|Wv rfl<|Wn ?_)
 refine We<|Wm (.tmp rfl .nil) ?_
 have hx:∀y,Has b1 (.r false [[.ptr (some ⟨bw,0,0⟩)]] 1) ([y,(b1,.r false [[.ptr (some ⟨bw,0,0⟩)]] 1)]):=λy=>(.there .here)
 refine⟨b5,_,_,rfl,eW,.here,λk hk=>?_,λk hk=>?_⟩
 ·simp only[List.mem_cons,List.not_mem_nil,or_false]at hk
  rcases hk with rfl|rfl|rfl|rfl|rfl|rfl|rfl|rfl|rfl
  ·exact⟨_,rfl,b1,rfl,hx _⟩
  ·exact⟨_,rfl,b1,rfl,hx _⟩
  ·exact⟨_,rfl,b1,rfl,hx _⟩
  ·exact⟨_,rfl,b1,rfl,hx _⟩
  ·exact⟨_,rfl,b1,rfl,hx _⟩
  ·exact⟨_,rfl,b1,rfl,hx _⟩
  ·exact⟨_,rfl,b1,rfl,hx _⟩
  ·exact⟨_,rfl,rfl⟩
  ·exact⟨_,rfl,b1,rfl,hx _⟩
 ·simp only[List.mem_cons,List.not_mem_nil,or_false]at hk
  rcases hk with rfl|rfl|rfl|rfl|rfl|rfl|rfl|rfl|rfl|rfl|rfl|rfl|rfl|rfl|rfl|rfl|rfl|rfl|rfl|rfl<;>rfl
theorem FB (hB:Base P K F T){bw k:Nat}(hk:k∈[3,4,14,5,6,11,12,13,10,2,25]):bB P K (F 202) [.ptr (some ⟨bw,0,0⟩),iv (.ofNat k)] s (λv s'=>∃m,s'=m++s/\RV F bw m k v):=by
 refine hB.f202.dT ?_
 unfold Li
 refine Wq<|Wa (.alloc rfl) λb4=>Wn ?_
 refine Ws<|Wq<|Wv rfl<|Ww<|W1 (wU hB) ?_
 rintro w1 _ ⟨c1,es1,m1,rfl,rfl,t1,t2⟩
 refine Wv rfl<|Ww<|W1 (ws hB) ?_
 rintro w2 _ ⟨c2,es2,m2,rfl,rfl,u1,u2⟩
 refine Wv rfl<|Ww<|W1 (wo hB) ?_
 rintro w3 _ ⟨c3,es3,m3,rfl,rfl,x1,x2⟩
 obtain⟨v,look,hv⟩:=t2.yes k hk
 obtain⟨p,o,f,fn,rfl,hfn⟩:=hv.agg
 refine Wa (.bslice (xk rfl rfl rfl rfl rfl rfl) rfl) λb15=>Wr (.lenS rfl rfl)<|Wv rfl<|Wn<|Wb ?_
 refine WP.dA<|Wq<|Wj rfl rfl rfl<|Wn<|Ws<|Wd rfl (λ_=>Wi ?_)<|λh=>by cases h
 refine Ws<|Wb<|Wq<|Wr (.iaddrS rfl rfl (by omega)<|by omega)<|Wl rfl .here rfl rfl rfl<|Wv rfl<|Wn ?_
 refine Wq<|Wv rfl<|Wv rfl<|Wr (.look rfl rfl (.there<|.app<|.app<|.left t1) look)<|Wv rfl<|Wr (.extract rfl rfl)<|Wr (.extract rfl rfl)<|Wa (.alloc rfl) λb7=>Ww<|Wt rfl rfl rfl .here rfl rfl<|Wv rfl<|Wn<|Wq<|Wv rfl<|Wn ?_
 refine Wd rfl (λ_=>?_)<|λh=>by cases h
 refine Wq<|Wl rfl .here rfl rfl rfl<|Ww<|Wt rfl rfl rfl (.there<|.there<|.app<|.app<|.app .here) rfl rfl<|Wn<|We<|Wm (.cell rfl hB.t290.1 hB.t290.2 (.inl rfl) (.there<|.there<|.app<|.app<|.app .here) rfl rfl rfl .nil) ?_
 have fin:∀(p0 p1 y:Nat × HO),RV F bw (p0::p1::(m3++(m2++(m1++[y])))) k _:=λp0 p1 y=>hv.mono λb o hh=>(.there<|.there<|.app<|.app<|.left hh)
 exact⟨_,(fN<|fN<|pull<|pull<|pull yg),fin _ _ _⟩
theorem abJ (hB:Base P K F T){bw k:Nat}(hk:k∈[1,7,8,9,23,24,20,21,26]):bB P K (F 202) [.ptr (some ⟨bw,0,0⟩),iv (.ofNat k)] s (λv s'=>∃m,s'=m++s/\RV F bw m k v):=by
 refine hB.f202.dT ?_
 unfold Li
 refine Wq<|Wa (.alloc rfl) λb4=>Wn ?_
 refine Ws<|Wq<|Wv rfl<|Ww<|W1 (wU hB) ?_
 rintro w1 _ ⟨c1,es1,m1,rfl,rfl,t1,t2⟩
 refine Wv rfl<|Ww<|W1 (ws hB) ?_
 rintro w2 _ ⟨c2,es2,m2,rfl,rfl,u1,u2⟩
 refine Wv rfl<|Ww<|W1 (wo hB) ?_
 rintro w3 _ ⟨c3,es3,m3,rfl,rfl,x1,x2⟩
 have n0:=t2.no k (by simp only[List.mem_cons,List.not_mem_nil,or_false]at hk |-;omega)
 obtain⟨v,look,hv⟩:=u2.yes k hk
 obtain⟨p,o,f,fn,rfl,hfn⟩:=hv.agg
 refine Wa (.bslice (xk rfl rfl rfl rfl rfl rfl) rfl) λb15=>Wr (.lenS rfl rfl)<|Wv rfl<|Wn<|Wb ?_
 refine WP.dA<|Wq<|Wj rfl rfl rfl<|Wn<|Ws<|Wd rfl (λ_=>Wi ?_)<|λh=>by cases h
 refine Ws<|Wb<|Wq<|Wr (.iaddrS rfl rfl (by omega)<|by omega)<|Wl rfl .here rfl rfl rfl<|Wv rfl<|Wn ?_
 refine Wq<|Wv rfl<|Wv rfl<|Wr (.look rfl rfl (.there<|.app<|.app<|.left t1) n0)<|Wv rfl<|Wr (.extract rfl rfl)<|Wr (.extract rfl rfl)<|Wa (.alloc rfl) λb7=>Ww<|Wt rfl rfl rfl .here rfl rfl<|Wv rfl<|Wn<|Wq<|Wv rfl<|Wn ?_
 refine Wd rfl (λh=>by cases h)<|λ_=>Wi ?_
 refine Wo<|Wj rfl rfl (bM<|by omega)<|Wv rfl<|Wn ?_
 refine WP.dA<|Wq<|Wj rfl rfl rfl<|Wn<|Ws<|Wd rfl (λ_=>Wi ?_)<|λh=>by cases h
 refine Ws<|Wb<|Wq<|Wr (.iaddrS rfl rfl (by omega)<|by omega)<|Wl rfl (.there .here) rfl rfl rfl<|Wv rfl<|Wn ?_
 refine Wq<|Wv rfl<|Wv rfl<|Wr (.look rfl rfl (.there<|.there<|.app<|.left u1) look)<|Wv rfl<|Wr (.extract rfl rfl)<|Wr (.extract rfl rfl)<|Wa (.alloc rfl) λb7=>Ww<|Wt rfl rfl rfl .here rfl rfl<|Wv rfl<|Wn<|Wq<|Wv rfl<|Wn ?_
 refine Wd rfl (λ_=>?_)<|λh=>by cases h
 refine Wq<|Wl rfl .here rfl rfl rfl<|Ww<|Wt rfl rfl rfl (.there<|.there<|.there<|.app<|.app<|.app .here) rfl rfl<|Wn<|We<|Wm (.cell rfl hB.t290.1 hB.t290.2 (.inl rfl) (.there<|.there<|.there<|.app<|.app<|.app .here) rfl rfl rfl .nil) ?_
 have fin:∀(p0 p1 p2 y:Nat × HO),RV F bw (p0::p1::p2::(m3++(m2++(m1++[y])))) k _:=λp0 p1 p2 y=>hv.mono λb o hh=>(.there<|.there<|.there<|.app<|.left hh)
 exact⟨_,(fN<|fN<|fN<|pull<|pull<|pull yg),fin _ _ _ _⟩
structure BaseI (P:Program)(K:Orc)(F:Nat->FuncId)(T:Nat->TypeId):Prop where
def a58:CF:=λF T=>(oN [zo 2 (.alloc 13 zL3)] (oN [zm 4 0,oF F 5 14 [4],zo 3 (.alloc 25 cC),zn (.store 25 3 5)] (oN [zf 6 9 3,zl 7 6,zf 8 10 3,zl 9 8,zf 10 11 3,zl 11 10,zf 12 12 3,zl 13 12,zf 14 13 3,zl 15 14,zf 16 14 3,zl 17 16,zf 18 18 3,zo 19 (.load true 5 18),zf 20 23 3,zl 21 20,zf 22 24 3,zl 23 22,zo 24 (.build zL3 [⟨0,⟨1,7⟩⟩,⟨1,⟨1,9⟩⟩,⟨2,⟨1,11⟩⟩,⟨3,⟨1,13⟩⟩,⟨4,⟨1,15⟩⟩,⟨5,⟨1,17⟩⟩,⟨6,⟨5,19⟩⟩,⟨11,⟨1,21⟩⟩,⟨12,⟨1,23⟩⟩]),zn (.store 13 2 24)] .ret)))
def Ti:CF:=λF T=>(oN [zo 2 (.mv (zc 0))] (oN [zm 3 0,oF F 4 14 [3],zo 5 (.fld 0 1 false 4),zo 6 (.lenS 5),zm 2 6] .ret))
structure BaseB (P:Program)(K:Orc)(F:Nat->FuncId)(T:Nat->TypeId):Prop where
 f58:FnK P K (F 58) 25 [(.cell 2<|T 128)] (a58 F T)
structure BaseT (P:Program)(K:Orc)(F:Nat->FuncId)(T:Nat->TypeId):Prop where
theorem AU {lb D p:Nat}{a:AV}{asg body:Code}{Bu sG:AC}{pend:Option AX}{R:AV->SH->Prop}(hp:p<nt)(ha:cc P nt asg=Bu)(hb:cc P nt body=sG)
  (h:WP P K (some lb) nt Bu ((p,a)::l) [] ((lb,.lp l nt [p] asg body .ready pend D)::s) (λl2 ds2 s2=>∃t2,s2.Perm ((lb,.lp l nt [p] asg body .ready pend D)::t2) /\
   WP P K (some lb) nt sG l2 ds2 ((lb,.lp l nt [p] asg body .busy pend D)::t2) (λ_ _ s3=>∃t3,s3.Perm ((lb,.lp l nt [p] asg body .busy pend D)::t3)/\R (.bool true) ((lb,.lp l nt [p] asg body .ready none D)::t3))
    (λi _ _ s3=>∃t3,s3.Perm ((lb,.lp l nt [p] asg body .busy pend D)::t3)/\R (.bool false) ((lb,.lp l nt [p] asg body .done (some<|.exit i) D)::t3))
    (λ_ _ s3=>∃t3,s3.Perm ((lb,.lp l nt [p] asg body .busy pend D)::t3)/\R (.bool false) ((lb,.lp l nt [p] asg body .done (some .ret) D)::t3))) (λ_=>Kj) Kj) :
  c6 P K (.yield lb) [a] ((lb,.lp l nt [p] asg body .ready pend D)::s) R:=by
 intro H0 H hH
 obtain⟨_,e,hg,he⟩:=hH.has .here
 obtain⟨x,e2,ds2,H2,l2,s2,⟨n1,r1⟩,k2,k3,k4⟩:=h asg ha H0 (e.put p a) H (he.put p a) hH
 cases x with
 | exit i=>exact k4.elim
 | ret=>exact k4.elim
 | normal=>
  obtain⟨t2,Gu,Ct⟩:=k4
  have k3:=k3.perm Gu
  obtain⟨_,e',KF,he'⟩:=k3.has .here
  have k5:Hp H0 ((lb,.lp l nt [p] asg body .busy pend D)::t2) (H2.put lb<|.loop e' nt [p] asg body .busy pend D):=k3.R0 .here (x:=some<|.loop e' nt [p] asg body .busy pend D) ⟨e',rfl,he'⟩ rfl<|λc=>Heap.aR _ _ _ _
  obtain⟨x,e3,ds3,H3,l3,s3,⟨n2,r2⟩,j2,j3,j4⟩:=Ct body hb H0 e2 _ k2 k5
  have fin:∀(st:LoopState)(pe:Option AX)(v:AV)(t3:SH),s3.Perm ((lb,.lp l nt [p] asg body .busy pend D)::t3)->R v ((lb,.lp l nt [p] asg body st pe D)::t3) ->
    (∀e4,H3.get lb=some (.loop e4 nt [p] asg body .busy pend D)->roundOf (ev P K<|max n1 n2) lb [a] H=some (v,H3.put lb<|.loop e4 nt [p] asg body st pe D))->∃v s' H',ki P K (.yield lb) [a] H v H'/\Hp H0 s' H'/\R v s':=by
   intro st pe v t3 UO hR hrun
   have j3:=j3.perm UO
   obtain⟨_,e4,Uv,Ur⟩:=j3.has .here
   exact⟨v,(lb,.lp l nt [p] asg body st pe D)::t3,_,⟨max n1 n2,hrun e4 Uv⟩,j3.R0 .here (x:=some<|.loop e4 nt [p] asg body st pe D) ⟨e4,rfl,Ur⟩ rfl<|λc=>Heap.aR _ _ _ _,hR⟩
  have q1:=(eP P K<|Nat.le_max_left n1 n2).code r1
  have q2:=(eP P K<|Nat.le_max_right n1 n2).code r2
  have hs:setAll [p] [a] nt e=some (e.put p a):=by
   unfold setAll
   simp only[show Nat.blt p nt=true from Nat.ble_eq_true_of_le hp]
  cases x with
  | normal=>
   obtain⟨t3,h1,h2⟩:=j4
   exact fin _ _ _ t3 h1 h2 λe4 h4=>by unfold roundOf;simp only[hg,hs,q1,KF,q2,h4]
  | exit i=>
   obtain⟨t3,h1,h2⟩:=j4
   exact fin _ _ _ t3 h1 h2 λe4 h4=>by unfold roundOf;simp only[hg,hs,q1,KF,q2,h4]
  | ret=>
   obtain⟨t3,h1,h2⟩:=j4
   exact fin _ _ _ t3 h1 h2 λe4 h4=>by unfold roundOf;simp only[hg,hs,q1,KF,q2,h4]
theorem Hp.gone {H0 H:Heap}{s:SH}{b:Nat}{o:HO}(h:Hp H0 ((b,o)::s) H):Hp H0 ((b,.gone)::s) (H.del b):=
 h.R0 .here (x:=none) trivial rfl (λc=>Heap.gb _ _ _)
theorem WP.rf {g:Operand}{ps0:List Nat}{Bu sG:AC}{f:FuncId}{first cap:List AV}(hg:opl l g=some (.func f first cap))
  (h:∀(asg body:Code),cc P nt asg=Bu->cc P nt body=sG->∀D lb,bB P K f (first++(.yield lb::cap)) ((lb,.lp l nt ps0 asg body .ready none D)::(D,.ob .deferred)::s) (λ_ s'=>∃l' st pend t',s'=(lb,.lp l' nt ps0 asg body st pend D)::t'/\st≠.busy /\
   (match pend with | none=>Qn l (.mark D::ds) ((lb,.gone)::t') | some .normal=>Qn l (.mark D::ds) ((lb,.gone)::t') | some (.exit i)=>Qe i l (.mark D::ds) ((lb,.gone)::t') | some .ret=>Qr l (.mark D::ds) ((lb,.gone)::t')))) :
  WP P K none nt (.rf g ps0 Bu sG) l ds s Qn Qe Qr:=by
 intro c0 hc H0 e H he hH
 cases c0 with
 | rangeFunc g0 ps asg body=>
  simp only[cc,AC.rf.injEq]at hc
  obtain⟨rfl,hps,ha,hb⟩:=hc
  have h1:Hp H0 ((H.next,.ob .deferred)::s) (H.new .deferred).2:=hH.alloc (o:=.deferred) rfl
  have h2:=h1.alloc (o':=.lp l nt ps0 asg body .ready none H.next) (o:=.loop e nt ps0 asg body .ready none H.next) ⟨e,rfl,he⟩
  obtain⟨v,s',H',⟨n,r1⟩,k2,l',st,pend,t',rfl,hst,k3⟩:=h asg body ha hb H.next _ H0 _ h2
  obtain⟨_,e4,hg4,_⟩:=k2.has .here
  have run:∀x,(match pend with | none=>AX.normal | some y=>y)=x->bt P K none nt (.rangeFunc g0 ps asg body) e ds H (.mk x e (.mark H.next::ds)<|H'.del (H.new .deferred).2.next):=by
   rintro x rfl
   refine⟨n+1,?_⟩
   rw[bO]
   have hnew:H.new .deferred=(H.next,(H.new .deferred).2):=rfl
   have hnew2:(H.new .deferred).2.new (.loop e nt ps0 asg body .ready none H.next)=((H.new .deferred).2.next,((H.new .deferred).2.new (.loop e nt ps0 asg body .ready none H.next)).2):=rfl
   have aa8:(ev P K n).call f (bI first<|.yield (H.new .deferred).2.next::cap) ((H.new .deferred).2.new (.loop e nt ps0 asg body .ready none H.next)).2=some (v,H'):=by rw[aN];exact r1
   unfold stepCode
   simp only[aG he hg,hps]
   show(match (ev P K n).call f (bI first<|.yield (H.new .deferred).2.next::cap) ((H.new .deferred).2.new (.loop e nt ps0 asg body .ready none H.next)).2 with
    | some (_,H3)=>(match H3.get (H.new .deferred).2.next with
     | some (.loop _ _ _ _ _ st pend _)=>(match st with
      | .busy=>none
      | _=>match pend with
       | none=>some<|CR.mk .normal e (.mark H.next::ds)<|H3.del (H.new .deferred).2.next
       | some x=>some (.mk x e (.mark H.next::ds) (H3.del (H.new .deferred).2.next)))
     | _=>none)
    | none=>none)=_
   simp only[aa8,hg4]
   cases st with
   | busy=>exact absurd rfl hst
   | ready=>cases pend<;>rfl
   | done=>cases pend<;>rfl
   | exhausted=>cases pend<;>rfl
  have k5:=k2.gone
  cases pend with
  | none=>exact⟨_,_,_,_,_,_,run _ rfl,he,k5,k3⟩
  | some x=>
   cases x with
   | normal=>exact⟨_,_,_,_,_,_,run _ rfl,he,k5,k3⟩
   | exit i=>exact⟨_,_,_,_,_,_,run _ rfl,he,k5,k3⟩
   | ret=>exact⟨_,_,_,_,_,_,run _ rfl,he,k5,k3⟩
 | region i ops d=>exact(db hc).elim
 | _=>simp[cc]at hc
def Bi (P:Program)(rs:List ResultVar)(R:AV->SH->Prop):Po:=λl ds s=>∃(Ds:List Nat)(t:SH),ds=Ds.map aD.mark/\s.Perm (Ds.map (λD=>(D,HO.ob .deferred))++t)/\∃vs,Rs P l (Ds.map (λD=>(D,HO.gone))++t) rs vs/\R (tupV vs) (Ds.map (λD=>(D,HO.gone))++t)
theorem yY {H0:Heap}:∀(Ds:List Nat)(t:SH)(H:Heap),Hp H0 (Ds.map (λD=>(D,HO.ob .deferred))++t) H->∃H',(∀ih:fP,runDefers ih (Ds.map aD.mark) H=some H')/\Hp H0 (Ds.map (λD=>(D,HO.gone))++t) H':=by
 intro Ds
 induction Ds with
 | nil=>intro t H h;exact⟨H,λ_=>rfl,h⟩
 | cons D Ds ih=>
  intro t H h
  have hg:H.get D=some .deferred:=(h.has .here).2
  have h1:Hp H0 ((D,.gone)::(Ds.map (λD=>(D,HO.ob .deferred))++t)) (H.del D):=Hp.gone h
  obtain⟨H',h2,h3⟩:=ih ((D,.gone)::t) (H.del D)<|h1.perm List.perm_middle.symm
  exact⟨H',λe=>by show(match H.get D with | some .deferred=>runDefers e (Ds.map aD.mark) (H.del D) | _=>none)=_;rw[hg];exact h2 e,h3.perm List.perm_middle⟩
theorem CallsTo.N1 {f:FuncId} {fn:Func} {c:Code} {args:List AV} {v:AV} {e0 e1:Tr AV} {x:AX} {H H1 H2:Heap} {ds:List aD} (hK:K f args H=none) (hf:P.funcs[f]?=some fn) (hb:fn.body=some c) (hn:(Nat.ble (aK args) fn.ntmps && !(fn.name == "runtime.NumGoroutine"))=true)
  (h0:argsEnv fn.ntmps args=some e0) (h:bt P K none fn.ntmps c e0 [] H (.mk x e1 ds H1)) (hx:x=.ret\/x=.normal) (hd:∀ih:fP,runDefers ih ds H1=some H2) (hr:(match aI (resultOf P e1 H2) fn.results.toList with | some [v]=>some v | some vs=>some (.tuple vs) | none=>none)=some v) :
  CallsTo P K f args H v H2:=by
 obtain⟨n,h⟩:=h
 refine⟨n+1,?_⟩
 show knownCall K f args H (stepCall P (ev P K n) f args H)=_
 unfold knownCall
 rw[hK]
 unfold stepCall
 simp only[hf,hb,hn,h0,h]
 have key:(match aI (resultOf P e1 H2) fn.results.toList with
   | some [v]=>some (v,H2)
   | some vs=>some (AV.tuple vs,H2)
   | none=>none)=some (v,H2):=by
  cases hl:aI (resultOf P e1 H2) fn.results.toList with
  | none=>rw[hl]at hr;cases hr
  | some l=>
   rw[hl]at hr
   match l,hr with
   | [],hr=>cases hr;rfl
   | [_],hr=>cases hr;rfl
   | _::_::_,hr=>cases hr;rfl
 rcases hx with rfl|rfl<;>(simp only[hd];exact key)
theorem FnK.ZH {f:FuncId}{nt:Nat}{rs:List ResultVar}{ac:AC}(hF:FnK P K f nt rs ac){args:List AV}{R:AV->SH->Prop}(h:WP P K none nt ac (sl0 0 args) [] s (Bi P rs R) (λ_ _ _ _=>False) (Bi P rs R))(ha:args.length<=nt:=by simp):bB P K f args s R:=by
 obtain⟨fn,hf,hc,rfl,rfl,h5⟩:=hF.ex
 have hn:(Nat.ble (aK args) fn.ntmps && !(fn.name == "runtime.NumGoroutine"))=true:=by
  rw[h5,ar,Nat.ble_eq_true_of_le ha];rfl
 intro H0 H hH
 obtain⟨c,hb,hc⟩:∃c,fn.body=some c/\cc P fn.ntmps c=ac:=by
  cases hb:fn.body with
  | none=>rw[hb]at hc;cases hc
  | some c=>rw[hb]at hc;exact⟨c,rfl,Option.some.inj hc⟩
 obtain⟨e0,h0,h1⟩:=mG fn.ntmps args
 have he:En (sl0 0 args) e0:=λi v hi=>by
  obtain⟨_,h2⟩:=yp args 0 i v hi
  exact h1 i v h2
 obtain⟨x,e',ds',H',l',s',k1,k2,k3,k4⟩:=h c hc H0 e0 H he hH
 have key:∀x,(x=.ret\/x=.normal)->bt P K none fn.ntmps c e0 [] H (.mk x e' ds' H')->Bi P fn.results.toList R l' ds' s'->∃v s' H',CallsTo P K f args H v H'/\Hp H0 s' H'/\R v s':=by
  rintro x hx k1 ⟨Ds,t,rfl,hp,vs,k5,k6⟩
  obtain⟨H2,hd,k7⟩:=yY Ds t H'<|k3.perm hp
  refine⟨tupV vs,_,H2,CallsTo.N1 (hF.k _ H) hf hb hn h0 k1 hx hd ?_,k7,k6⟩
  rw[k5.ok k2 k7]
  match vs with
  | []=>rfl
  | [_]=>rfl
  | _::_::_=>rfl
 cases x with
 | normal=>exact key _ (.inr rfl) k1 k4
 | ret=>exact key _ (.inl rfl) k1 k4
 | exit i=>exact k4.elim
theorem qM {a b:Int}(h:a≠b):eqBy 20 .pi (iv a) (iv b)=some false:=by rw[bb];simp[h]
theorem aav (hB:Base P K F T){bw:Nat}{pv ov lv hv gv ev fv sv wv:AV}{d:SD}(hb:Has bw (.r false [d.cells pv ov lv hv gv ev fv sv wv] 25) s)(h:Src s 14 ov (fy d.ob))(hd:d.Small){id:Int}{i:Nat}{o:OD}(hi:d.find id=some i)(xG:d.ob[i]?=some o) :
  bB P K (F 231) [.ptr (some ⟨bw,0,0⟩),iv id] s (λw s'=>w=.bool (decide<|o.ci=2)/\∃m,s'=m++s):=by
 refine hB.f231.dT ?_
 unfold afX
 have hil:i<d.ob.length:=(List.getElem?_eq_some_iff.1 xG).1
 refine Wq<|Wv rfl<|Wn ?_
 refine Wq<|Wv rfl<|Wr (.nilchk rfl rfl)<|Wf rfl<|Wl rfl hb rfl rfl rfl<|Wv rfl<|Ww<|Wc rfl rfl (lg hB (d:=d) h hd) ?_
 rintro w _ ⟨rfl,m,rfl⟩
 rw[hi]
 refine Wv rfl<|Wn ?_
 obtain⟨bo,ro,no,co,so,WE,MO,rfl,IM,hno,hMo⟩:=h.at (i:=i)<|by simpa[fy]using hil
 have hrow:(fy d.ob)[i]?=some o.row:=by rw[fy,List.getElem?_map,xG];rfl
 refine Wq<|Wv rfl<|Wj rfl rfl rfl<|Wv rfl<|Wy<|Wv rfl<|Wy<|Wr (.nilchk rfl rfl)<|Wy<|Wf rfl<|Wy<|Wf rfl<|Wy<|Wl rfl (.app hb) rfl rfl rfl<|Wy<|Wv rfl<|Wy<|Wr (.iaddrS rfl rfl hno<|by omega)<|Wy<|Wf rfl<|Wy<|Wl rfl (.app IM) (hMo.trans hrow) rfl rfl<|Wy<|Wh rfl rfl (bb _ _)<|Wr (.cV rfl rfl)<|Wv rfl<|Wn ?_
 exact We<|Wm (.tmp rfl .nil) ⟨rfl,m,rfl⟩
theorem acp (hB:Base P K F T){bw:Nat}{d:SD}{t:SH}(hs:WH bw d t s)(hd:d.Small)(he:d.kQ){k b n m:Int}{it:ID}{fn:AV}(k13:k≠13)(k16:k≠16)(k18:k≠18)(k26:k≠26){p:Nat}(hp:p<d.pl.length) :
  bB P K (F 203) [.ptr (some ⟨bw,0,0⟩),.agg<|evRow k (.ofNat p) b n m it,.agg [.bool true,.bool false,.bool false,fn]] s (λw s'=>w=iv 0/\WH bw d t s'):=by
 obtain⟨pv,ov,lv,hv,gv,ev,fv,sv,wv,nn,k1,k2⟩:=hs
 refine bB.perm k1.symm ?_
 refine hB.f203.dT ?_
 unfold Lj
 refine Wq<|Wa (.box rfl rfl) λb4=>Wa (.box rfl rfl) λb5=>Wv rfl<|Wn ?_
 refine Wq<|Wr (.mkfn rfl rfl)<|Wv rfl<|Wn<|Ws<|Wb ?_
 have hR:∀x y z,mD (x::y::z::(nn++t)) pv ov lv hv gv ev fv sv wv d:=λx y z=>k2.r λp hp=>by simp[hp]
 have lp:lenOf pv=some d.pl.length:=by rw[(hR (0,.bK) (0,.bK) (0,.bK)).pl.lenOf];simp[Am]
 refine Ws<|WP.bD<|Dp (.mv rfl)<|Dp (.nilchk rfl rfl)<|Dp (.faddr rfl)<|Dl rfl .nil (.load rfl (.there<|.there .here) rfl rfl rfl)<|Dc .nil<|Wc rfl rfl (qQ hB (hR _ _ _) ⟨he.lb,he.hd,he.gr,he.ex⟩) ?_
 rintro w _ ⟨rfl,m1,rfl⟩
 refine(Dp (.un rfl rfl)<|Dp (.mv rfl)<|Dy<|Dp (.faddr rfl)<|Dy<|Dl rfl .nil (.load rfl (.app .here) rfl rfl rfl)<|Dy<|Dp (.mv rfl)<|Dy<|Dp (.faddr rfl)<|Dy<|Dl rfl .nil (.load rfl (.app<|.there .here) rfl rfl rfl)<|Dy<|Dp (.arith rfl rfl rfl)<|Dy<|Dp (.mv rfl)<|Dy<|Dp (.faddr rfl)<|Dy<|Dl rfl .nil (.load rfl (.app<|.there .here) rfl rfl rfl)<|Dy<|Dp (.mv rfl)<|Dy<|Dp (.nilchk rfl rfl)<|Dy<|Dp (.faddr rfl)<|Dy<|Dp (.faddr rfl)<|Dy<|Dl rfl .nil (.load rfl (.app<|.there<|.there .here) rfl rfl rfl)<|Dy<|Dp (.lenS rfl lp)<|Dy<|Dp (.arith rfl rfl<|Cm hp)<|Dy<|Dp (.bj rfl rfl)<|Dy<|Dp (.cV rfl rfl)<|Dp (.bj rfl rfl)<|Dp (.mv rfl)<|D0 .nil ?_<|λo h=>nomatch h)
 refine Wd rfl fS<|λ_=>?_
 refine Ws<|Ws<|WP.bD<|Dp (.faddr rfl)<|Dl rfl .nil (.load rfl (.app .here) rfl rfl rfl)<|Dp (.mv rfl)<|Dk<|Dk<|Dk<|Dk<|Dk<|Dk<|WD.jm rfl rfl<|Dk<|Dp (.bj rfl rfl)<|Dp (.mv rfl)<|D0 .nil ?_<|λo h=>nomatch h
 refine Wd rfl fS<|λ_=>Wo<|Wf rfl<|Wl rfl (.app .here) rfl rfl rfl<|Wv rfl<|Wk<|Wk<|Wk<|Wk<|Wk<|Wr (.bj rfl rfl)<|Wv rfl<|Wn ?_
 refine Wd rfl fS<|λ_=>Wq<|Wf rfl<|Wl rfl (.app<|.there .here) rfl rfl rfl<|Wh rfl rfl (qM k13)<|Wv rfl<|Wk<|Wk<|Wk<|Wr (.bj rfl rfl)<|Wv rfl<|Wk<|Wk<|Wk<|Wk<|Wk<|Wr (.bj rfl rfl)<|Wv rfl<|Wn ?_
 refine Wd rfl fS<|λ_=>Ws<|Wq<|Wf rfl<|Wl rfl (.app<|.there .here) rfl rfl rfl<|Wh rfl rfl (qM k16)<|Wv rfl<|Wk<|Wk<|Wk<|Wk<|Wk<|Wk<|Wk<|Wk<|Wr (.bj rfl rfl)<|Wv rfl<|Wn ?_
 refine Wd rfl fS<|λ_=>Wo<|Wf rfl<|Wl rfl (.app<|.there .here) rfl rfl rfl<|Wh rfl rfl (qM k18)<|Wv rfl<|Wk<|Wk<|Wk<|Wk<|Wk<|Wk<|Wk<|Wk<|Wr (.bj rfl rfl)<|Wv rfl<|Wn ?_
 refine Wd rfl fS<|λ_=>Ws<|WP.bD<|Dp (.faddr rfl)<|Dl rfl .nil (.load rfl (.app<|.there .here) rfl rfl rfl)<|Dp (.eql rfl rfl<|qM k26)<|Dp (.mv rfl)<|Dk<|Dk<|Dk<|Dk<|Dk<|Dk<|Dk<|Dk<|Dk<|Dk<|Dk<|Dk<|WD.jm rfl rfl<|Dk<|Dp (.bj rfl rfl)<|Dp (.mv rfl)<|D0 .nil ?_<|λo h=>nomatch h
 refine Wd rfl fS<|λ_=>Wi ?_
 refine Wq<|Wv rfl<|Wn<|We<|Wm (.tmp rfl .nil) ?_
 refine⟨rfl,?_⟩
 have fin:∀x y,WH bw d t (m1++(x::y::(bw,.r false [d.cells pv ov lv hv gv ev fv sv wv] 25)::(nn++t))):=λx y=>⟨pv,ov,lv,hv,gv,ev,fv,sv,wv,(m1++[x,y])++nn,zt,k2.bK⟩
 exact fin _ _
theorem aex (hB:Base P K F T){bw:Nat}{d:SD}{t:SH}(hs:WH bw d t s)(hd:d.Small)(he:d.kQ){k a b n m:Int}{it:ID}{fn:AV}(k13:k≠13)(k16:k≠16)(k18:k≠18)(k26:k≠26){i:Nat}(hi:d.find a=some i){o:OD}(xG:d.ob[i]?=some o)(hz:o.ci=2) :
  bB P K (F 203) [.ptr (some ⟨bw,0,0⟩),.agg<|evRow k a b n m it,.agg [.bool false,.bool true,.bool true,fn]] s (λw s'=>w=iv 0/\WH bw d t s'):=by
 obtain⟨pv,ov,lv,hv,gv,ev,fv,sv,wv,nn,k1,k2⟩:=hs
 refine bB.perm k1.symm ?_
 refine hB.f203.dT ?_
 unfold Lj
 refine Wq<|Wa (.box rfl rfl) λb4=>Wa (.box rfl rfl) λb5=>Wv rfl<|Wn ?_
 refine Wq<|Wr (.mkfn rfl rfl)<|Wv rfl<|Wn<|Ws<|Wb ?_
 have hR:∀x y z,mD (x::y::z::(nn++t)) pv ov lv hv gv ev fv sv wv d:=λx y z=>k2.r λp hp=>by simp[hp]
 refine Ws<|WP.bD<|Dp (.mv rfl)<|Dp (.nilchk rfl rfl)<|Dp (.faddr rfl)<|Dl rfl .nil (.load rfl (.there<|.there .here) rfl rfl rfl)<|Dc .nil<|Wc rfl rfl (qQ hB (hR _ _ _) ⟨he.lb,he.hd,he.gr,he.ex⟩) ?_
 rintro w _ ⟨rfl,m1,rfl⟩
 refine(Dp (.un rfl rfl)<|Dp (.mv rfl)<|Dy<|Dp (.faddr rfl)<|Dy<|Dl rfl .nil (.load rfl (.app .here) rfl rfl rfl)<|Dy<|Dp (.mv rfl)<|Dk<|Dk<|Dk<|Dk<|WD.kg rfl rfl<|WD.kg rfl rfl<|WD.kg rfl rfl<|WD.kg rfl rfl<|WD.kg rfl rfl<|WD.kg rfl rfl<|WD.kg rfl rfl<|WD.kg rfl rfl<|WD.kg rfl rfl<|Dk<|Dy<|Dp (.bj rfl rfl)<|Dp (.bj rfl rfl)<|Dp (.mv rfl)<|D0 .nil ?_<|λo h=>nomatch h)
 refine Wd rfl fS<|λ_=>?_
 refine Ws<|Ws<|WP.bD<|Dp (.faddr rfl)<|Dl rfl .nil (.load rfl (.app .here) rfl rfl rfl)<|Dp (.mv rfl)<|Dy<|Dp (.mv rfl)<|Dy<|Dp (.nilchk rfl rfl)<|Dy<|Dp (.faddr rfl)<|Dy<|Dl rfl .nil (.load rfl (.app<|.there<|.there .here) rfl rfl rfl)<|Dy<|Dp (.faddr rfl)<|Dy<|Dl rfl .nil (.load rfl (.app<|.there .here) rfl rfl rfl)<|Dy<|Dc .nil<|Wc rfl rfl (lg hB (d:=d) ((k2.r (s:=_) λp hp=>by simp[hp]).ob) hd) ?_
 rintro w _ ⟨rfl,m2,rfl⟩
 rw[hi]
 refine(Dy<|Dp (.arith rfl rfl rfl)<|Dp (.cV rfl rfl)<|Dp (.mv rfl)<|D0 .nil ?_<|λo h=>nomatch h)
 refine Wd rfl fS<|λ_=>Wo<|Wf rfl<|Wl rfl (.app<|.app .here) rfl rfl rfl<|Wv rfl<|Wy<|Wv rfl<|Wy<|Wf rfl<|Wy<|Wl rfl (.app<|.app<|.there .here) rfl rfl rfl<|Wy<|Ww<|Wc rfl rfl (aav hB (d:=d) (.app<|.app<|.there<|.there .here) ((k2.r (s:=_) λp hp=>by simp[hp]).ob) hd hi xG) ?_
 rintro w _ ⟨rfl,m3,rfl⟩
 rw[show decide (o.ci=2)=true from decide_eq_true hz]
 refine(Wy<|Wr (.un rfl rfl)<|Wr (.cV rfl rfl)<|Wv rfl<|Wn ?_)
 refine Wd rfl fS<|λ_=>Wq<|Wf rfl<|Wl rfl (.app<|.app<|.app<|.there .here) rfl rfl rfl<|Wh rfl rfl (qM k13)<|Wv rfl<|Wk<|Wk<|Wk<|Wr (.bj rfl rfl)<|Wv rfl<|Wk<|Wk<|Wk<|Wk<|Wk<|Wr (.bj rfl rfl)<|Wv rfl<|Wn ?_
 refine Wd rfl fS<|λ_=>Ws<|Wq<|Wf rfl<|Wl rfl (.app<|.app<|.app<|.there .here) rfl rfl rfl<|Wh rfl rfl (qM k16)<|Wv rfl<|Wk<|Wk<|Wk<|Wk<|Wk<|Wk<|Wk<|Wk<|Wr (.bj rfl rfl)<|Wv rfl<|Wn ?_
 refine Wd rfl fS<|λ_=>Wo<|Wf rfl<|Wl rfl (.app<|.app<|.app<|.there .here) rfl rfl rfl<|Wh rfl rfl (qM k18)<|Wv rfl<|Wk<|Wk<|Wk<|Wk<|Wk<|Wk<|Wk<|Wk<|Wr (.bj rfl rfl)<|Wv rfl<|Wn ?_
 refine Wd rfl fS<|λ_=>Ws<|WP.bD<|Dp (.faddr rfl)<|Dl rfl .nil (.load rfl (.app<|.app<|.app<|.there .here) rfl rfl rfl)<|Dp (.eql rfl rfl<|qM k26)<|Dp (.mv rfl)<|Dk<|Dk<|Dk<|Dk<|Dk<|Dk<|Dk<|Dk<|Dk<|Dk<|Dk<|Dk<|WD.jm rfl rfl<|Dk<|Dp (.bj rfl rfl)<|Dp (.mv rfl)<|D0 .nil ?_<|λo h=>nomatch h
 refine Wd rfl fS<|λ_=>Wi ?_
 refine Wq<|Wv rfl<|Wn<|We<|Wm (.tmp rfl .nil) ?_
 refine⟨rfl,?_⟩
 have fin:∀x y,WH bw d t (m3++(m2++(m1++(x::y::(bw,.r false [d.cells pv ov lv hv gv ev fv sv wv] 25)::(nn++t))))):=λx y=>⟨pv,ov,lv,hv,gv,ev,fv,sv,wv,(m3++(m2++(m1++[x,y])))++nn,zt,k2.bK⟩
 exact fin _ _
theorem oY.has {b:Nat}{o o':HO}{s s':SH}(h:oY b o o' s s'):Has b o s/\Has b o' s':=by
 obtain⟨x,y,rfl,rfl⟩:=h.split
 exact⟨.app .here,.app .here⟩
theorem yH (hB:Base P K F T){k:Nat}{a b n m:Int}{it:ID}{d d':SD}(hd:d.Small)
  (lm:∀s,bB P K (F 201) [.agg (evRow (.ofNat k) a b n m it)] s<|λv s'=>v=iv 0/\s'=s)
  (UT:∀{bw:Nat}{s:SH},bB P K (F 202) [.ptr (some ⟨bw,0,0⟩),iv<|.ofNat k] s (λv s'=>∃m,s'=m++s/\RV F bw m k v))
  (hmay:∀{bw:Nat}{t s m':SH}{v:AV},RV F bw m' k v->WH bw d t s->bB P K (F 203) [.ptr (some ⟨bw,0,0⟩),.agg<|evRow (.ofNat k) a b n m it,v] s (λw s'=>w=iv 0/\WH bw d t s'))
  (A2:∀{bw:Nat}{t s:SH}{p o f:Bool}{fn:AV},RV F bw t k (.agg [.bool p,.bool o,.bool f,fn])->WH bw d t s->c6 P K fn [.agg (evRow (.ofNat k) a b n m it)] s (λ_ s'=>WH bw d' t s')):Ap P K F (.ofNat k) a b n m it d d':=by
 intro pv ov lv hv gv ev fv sv wv s h
 refine hB.f164.dT ?_
 unfold Lg
 refine Wq<|Wa (.box rfl rfl) λb2=>Wa (.box rfl rfl) λb3=>Wa (.alloc rfl) λb4=>Wv rfl<|Wn ?_
 have hR:mD ((b4,.r false [cC] 25)::(b3,.r false [evRow (.ofNat k) a b n m it] 13)::(b2,.r false [d.cells pv ov lv hv gv ev fv sv wv] 25)::s) pv ov lv hv gv ev fv sv wv d:=⟨h.pl.mono λp hp=>by simp[hp],h.ob.mono λp hp=>by simp[hp],h.lb.mono λp hp=>by simp[hp],h.hd.mono λp hp=>by simp[hp],h.gr.mono λp hp=>by simp[hp],h.ex.mono λp hp=>by simp[hp],h.fi.mono λp hp=>by simp[hp],h.st.mono λp hp=>by simp[hp],h.wa.mono λp hp=>by simp[hp]⟩
 refine Wq<|Wl rfl (.there<|.there .here) rfl rfl rfl<|Ww<|W1 (mw hB hR hd) ?_
 rintro w _ ⟨pv,ov,lv,hv,gv,ev,fv,sv,wv,n1,rfl,rfl,g1⟩
 refine Wr (.build rfl rfl)<|Wa (.box rfl rfl) λbw=>Wv rfl<|Wn ?_
 refine Wg (s':=(bw,.r false [d.cells pv ov lv hv gv ev fv sv wv] 25)::(n1++((b4,.r false [cC] 25)::(b3,.r false [evRow (.ofNat k) a b n m it] 13)::(b2,.r false [d.cells _ _ _ _ _ _ _ _ _] 25)::s))) (λ_ _ h=>h) (λ_ _ h=>h) ?_
 refine Ws<|Wq<|Wl rfl (.there<|.app<|.there .here) rfl rfl rfl<|Ww<|W1 (lm _) ?_
 rintro w _ ⟨rfl,rfl⟩
 refine Wv rfl<|Wn<|Wq<|Wv rfl<|Wh rfl rfl (bb _ _)<|Wn<|Wd rfl fS<|λ_=>Wi ?_
 refine Wq<|Wv rfl<|Wf rfl<|Wl rfl (.there<|.app<|.there .here) rfl rfl rfl<|Ww<|W1 UT ?_
 rintro w _ ⟨m2,rfl,UZ⟩
 obtain⟨p,o,f,fn,rfl,hfn⟩:=UZ.agg
 refine Wa (.alloc rfl) λb8=>Ww<|Wt rfl rfl rfl .here rfl rfl<|Wn ?_
 have hW:∀y,WH bw d ((b8,.r false [[.bool p,.bool o,.bool f,fn]] 4)::(m2++((b4,.r false [cC] 25)::(b3,.r false [evRow (.ofNat k) a b n m it] 13)::(b2,y)::s)))
   ((b8,.r false [[.bool p,.bool o,.bool f,fn]] 4)::(m2++((bw,.r false [d.cells pv ov lv hv gv ev fv sv wv] 25)::(n1++((b4,.r false [cC] 25)::(b3,.r false [evRow (.ofNat k) a b n m it] 13)::(b2,y)::s))))):=λy=>
  ⟨pv,ov,lv,hv,gv,ev,fv,sv,wv,n1,zt,g1⟩
 refine Wg (s':=(b8,.r false [[.bool p,.bool o,.bool f,fn]] 4)::(m2++((bw,.r false [d.cells pv ov lv hv gv ev fv sv wv] 25)::(n1++((b4,.r false [cC] 25)::(b3,.r false [evRow (.ofNat k) a b n m it] 13)::(b2,.r false [d.cells _ _ _ _ _ _ _ _ _] 25)::s))))) (λ_ _ h=>h) (λ_ _ h=>h) ?_
 refine Ws<|Wq<|Wv rfl<|Wl rfl (.there<|.app<|.there<|.app<|.there .here) rfl rfl rfl<|Wl rfl .here rfl rfl rfl<|Ww<|W1 (hmay UZ<|hW _) ?_
 rintro w s5 ⟨rfl,XY⟩
 obtain⟨pv,ov,lv,hv,gv,ev,fv,sv,wv,n5,k5,g5⟩:=XY
 refine Wv rfl<|Wn<|Wq<|Wv rfl<|Wh rfl rfl (bb _ _)<|Wn<|Wd rfl fS<|λ_=>Wi ?_
 refine WP.pre k5 ?_
 have XZ:∀t,WH bw d t ((bw,.r false [d.cells pv ov lv hv gv ev fv sv wv] 25)::(n5++t)):=λt=>⟨pv,ov,lv,hv,gv,ev,fv,sv,wv,n5,.refl _,g5⟩
 refine Wq<|Wf rfl<|Wl rfl (.there<|.app .here) rfl rfl rfl<|Wl rfl (.there<|.app<|.there<|.app<|.there .here) rfl rfl rfl<|Ww<|WS.call (fv:=fn) (vs:=[.agg (evRow (.ofNat k) a b n m it)]) rfl rfl (A2 (UZ.mono λb o hh=>.there<|.left hh)<|XZ _) ?_
 rintro w s7 X0
 obtain⟨pv,ov,lv,hv,gv,ev,fv,sv,wv,n7,k7,g7⟩:=X0
 refine Wn<|WP.pre k7 ?_
 refine Wq<|Wv rfl<|Wr (.nilchk rfl rfl)<|Wf rfl<|Wl rfl .here rfl rfl rfl<|Ww<|Wt rfl rfl rfl (.there<|.app<|.there<|.app .here) rfl rfl<|Wv rfl<|Wn<|We<|Wm (.cell rfl hB.t41.1 hB.t41.2 (.inl rfl) (.there<|.app<|.there<|.app .here) rfl rfl rfl<|.tmp rfl .nil) ?_
 have fin:∀y1 y2 y3 y4 y5,iJ (y1::(n7++(y2::(m2++[y3,y4,y5])))) pv ov lv hv gv ev fv sv wv d':=λy1 y2 y3 y4 y5=>
  (g7.bK (m:=y1::y2::(m2++[y3,y4,y5]))).perm (zt)
 exact⟨pv,ov,lv,hv,gv,ev,fv,sv,wv,_,rfl,fN<|pull<|fN<|pull yh,fin _ _ _ _ _⟩
theorem x6 (hB:Base P K F T){bf bl:Nat}{aZ bE:AV}{c0 c1 c2 c3 c4:Int}{EL:List (List AV)}{d d':SD}{t:SH}{k a:Int}{b n m:Int}{it:ID}(hs:aH bl EL d t s)(hd:d.Small)(hf:Has bf (.r false [bu bl aZ c0 c1 c2 c3 c4 bE] 8) t)(hE:EL.length<=1000)
  (k1:k≠1) (k2:k≠2) (k15:k≠15) (k17:k≠17) (hap:Ap P K F k a b n m it d d') :
  bB P K (F 15) [.ptr (some ⟨bf,0,0⟩),.agg<|evRow k a b n m it] s (λv s'=>v=iv 0/\aH bl (EL++[evRow k a b n m it]) d' t s'):=by
 refine hB.f15.dT ?_
 unfold WN
 refine Wq<|Wa (.box rfl rfl) λb3=>Wv rfl<|Wn ?_
 have gw:aH bl EL d ((b3,.r false [evRow k a b n m it] 13)::t) ((b3,.r false [evRow k a b n m it] 13)::s):=hs.cons
 refine Ws<|Wb<|Wq<|Wv rfl<|Wh (b:=false) rfl rfl rfl<|Wv rfl<|Wn<|Wd rfl (λh=>by cases h)<|λ_=>Ws<|WP.bD ?_
 refine(Dp (.faddr rfl)<|Dl rfl .nil (.load rfl .here rfl rfl rfl)<|Dp (.eql rfl rfl<|qM k1)<|Dp (.mv rfl)<|Dk<|WD.jm rfl rfl<|Dk<|Dk<|Dk<|Dk<|Dk<|Dk<|Dk<|Dk<|Dp (.bj rfl rfl)<|Dp (.mv rfl)<|D0 .nil ?_<|λo h=>nomatch h)
 refine Wd rfl fS<|λ_=>?_
 refine Ws<|WP.bD<|Dp (.mv rfl)<|Dp (.nilchk rfl rfl)<|Dp (.faddr rfl)<|Dl rfl .nil (.load rfl (gw.mem<|.there hf) rfl rfl rfl)<|Dl rfl .nil (.load rfl (gw.mem .here) rfl rfl rfl)<|Dc .nil<|W1 (mI hB gw hE hap) ?_
 rintro w s5 ⟨rfl,tn⟩
 refine Dp (.eql rfl rfl<|bb _ _)<|Dp (.mv rfl)<|D0 .nil ?_<|λo h=>nomatch h
 refine Wd rfl fS<|λ_=>Wi ?_
 refine Ws<|Wq<|Wf rfl<|Wl rfl (tn.mem .here) rfl rfl rfl<|Wn<|Wb ?_
 refine Ws<|Wq<|Wh rfl rfl (qM k1)<|Wv rfl<|Wn ?_
 refine Wd rfl fS<|λ_=>Wq<|Wh rfl rfl (qM k2)<|Wv rfl<|Wn ?_
 refine Wd rfl fS<|λ_=>Wq<|Wh rfl rfl (qM k15)<|Wv rfl<|Wn ?_
 refine Wd rfl fS<|λ_=>Wo<|Wh rfl rfl (qM k17)<|Wv rfl<|Wn ?_
 refine Wd rfl fS<|λ_=>Wi ?_
 refine Wq<|Wv rfl<|Wn<|We<|Wm (.tmp rfl .nil) ⟨rfl,tn.tail⟩
@[reducible] def aet (d:SD):List AV:=[iv d.tu,iv d.ac,iv d.ph,iv d.pr,iv d.pa,iv d.bl,iv d.ck,iv d.co,iv d.ca,nilS,.bool d.py,iv d.oc,iv d.wi]
variable {bf:Nat}{bl:Nat}{aZ:AV}{bE:AV}{c0:Int}{c1:Int}{c2:Int}{c3:Int}{c4:Int}{EL:List (List AV)}{d:SD}{t:SH}
theorem WO.pre {ol:List bS}{s':SH}(hp:s.Perm s')(h:WO P K ol l ds s' Q):WO P K ol l ds s Q:=
 λnt ops l0 h0 H0 e H he hH=>h nt ops l0 h0 H0 e H he<|hH.perm hp
theorem Src.Ko {sz:Nat}{v:AV}{L:List (List AV)}(h:Src s sz v L)(hne:0<L.length):∃b r n c sl ro M,v=.slice (some ⟨b,r,0⟩) n c sl sz/\Has b (.r ro M sz) s/\L.length<=n/\∀i,i<L.length->M[r+i]?=L[i]?:=by
 cases h with
 | nil=>exact absurd hne<|Nat.lt_irrefl _
 | zero=>exact absurd hne<|Nat.lt_irrefl _
 | emp=>exact absurd hne<|Nat.lt_irrefl _
 | @rows b r n c sl ro M hb hn=>
  refine⟨b,r,n,c,sl,ro,M,rfl,hb,by rw[List.length_take];omega,λi hi=>?_⟩
  have hi2:i<n:=by rw[List.length_take]at hi;omega
  rw[List.getElem?_take,if_pos hi2,List.getElem?_drop]
theorem Ka {p:Nat}(h:p<=1000):binV .sub (iv (.ofNat (p+1))) (iv (.ofNat 1))=some (iv (.ofNat p)):=by
 have:=F0 (n:=((p+1:Nat):Int)) (by omega)<|by omega
 rw[show(((p+1:Nat):Int)-1)=((p:Nat):Int)from by omega]at this
 exact this
theorem aeu (hB:Base P K F T)(hG:BaseB P K F T)(ht:Ty P (T 128) 13)(hs:aH bl EL d t s)(hd:d.Small)(hf:Has bf (.r false [bu bl aZ c0 c1 c2 c3 c4 bE] 8) t) :
  bB P K (F 58) [.ptr (some ⟨bf,0,0⟩)] s (λv s'=>v=.agg (aet d)/\aH bl EL d t s'):=by
 refine hG.f58.dT ?_
 unfold a58
 refine Wq<|Wa (.alloc rfl) λb2=>Wn ?_
 refine Wq<|Wv rfl<|Ww<|W1 (cz hB hs.cons hd<|.there hf) ?_
 rintro w s2 ⟨dt,pv,ov,lv,hv,gv,ev,fv,sv,wv,rfl,hR⟩
 obtain⟨s3,hp,gw⟩:=dt.first
 refine WO.pre hp<|Wa (.alloc rfl) λb3=>Ww<|Wt rfl rfl rfl .here rfl rfl<|Wn ?_
 refine Wq<|Wf rfl<|Wl rfl .here rfl rfl rfl<|Wf rfl<|Wl rfl .here rfl rfl rfl<|Wf rfl<|Wl rfl .here rfl rfl rfl<|Wf rfl<|Wl rfl .here rfl rfl rfl<|Wf rfl<|Wl rfl .here rfl rfl rfl<|Wf rfl<|Wl rfl .here rfl rfl rfl<|Wf rfl<|Wl rfl .here rfl rfl rfl<|Wf rfl<|Wl rfl .here rfl rfl rfl<|Wf rfl<|Wl rfl .here rfl rfl rfl<|Wr (.build rfl rfl)<|Ww<|Wt rfl rfl rfl (.there .here) rfl rfl<|Wn<|We<|Wm (.cell rfl ht.1 ht.2 (.inl rfl) (.there .here) rfl rfl rfl .nil) ?_
 exact⟨rfl,aH.bK (m:=[_,_]) gw⟩
def ZU:CF:=λF T=>(oN [zo 4 (.alloc 3 [(za 0),(za 0),(za 0)]),zo 5 (.mv (.const (.bool false)))] (.seq (oN [zm 6 0,zo 7 (.eql false .ptr 6 (.const (.pointer none)))] (.cond 7 (oN [zo 8 (.build [(za 0),(za 0),(za 0)] []),zn (.store 3 4 8),zo 5 (.mv (.const (.bool false)))] .ret) .skip)) (.seq (.drawn 0 [zp (zm 9 0) 0,zp (zo 10 (.nilchk 9)) 1,zp (zf 11 1 10) 3,zr (zl 12 11) 0 1 7,zp (zm 13 0) 0,zh (oF F 14 14 [13]) 16,zp (zm 15 1) 0,zh (oF F 16 77 [12,14,15]) 127,zp (zo 17 (.extract 16 0)) 255,zp (zo 18 (.extract 16 1)) 255,zh (zn (.store 3 4 17)) 1023,zp (zm 5 18) 2047]) .ret)))
def ZV:CF:=λF T=>(oN [zo 6 (.mv (.const (.slice none 0 0)))] (oN [zm 7 0,oF F 8 14 [7],zm 9 1,zm 10 2,oF F 11 90 [8,9,10],zm 6 11] .ret))
def ZW:CF:=λF T=>(oN [zo 4 (.alloc 14 dB),zo 5 (.mv (.const (.bool false)))] (oN [zm 8 0,oF F 9 14 [8],zo 6 (.alloc 25 cC),zn (.store 25 6 9)] (oN [zo 10 (.load true 25 6),zm 11 1,oF F 12 91 [10,11],zm 7 12] (.seq (oN [zm 13 7,zo 14 (.arith .lss 13 (zc 0))] (.cond 14 (oN [zo 15 (.build dB []),zn (.store 14 4 15),zo 5 (.mv (.const (.bool false)))] .ret) .skip)) (oN [zf 16 1 6,zl 17 16,zm 18 7,zo 19 (.iaddrS 14 17 18),zo 20 (.load true 14 19),zn (.store 14 4 20),zo 5 (.mv (.const (.bool true)))] .ret)))))
def ZX:CF:=λF T=>(oN [zo 4 (.alloc 8 nD)] (oN [zm 6 0,oF F 7 14 [6],zo 5 (.alloc 25 cC),zn (.store 25 5 7)] (.seq (oN [zm 8 1,zo 9 (.arith .lss 8 (zc 0)),zm 10 9,zg 11 (.mv 1) 10 false,zg 12 (.faddr 0 5) 10 false,zg 13 (.load false 1 12) 10 false,zg 14 (.lenS 13) 10 false,zg 15 (.arith .geq 11 14) 10 false,zo 16 (.pick 10 (.const (.bool true)) 15)] (.cond 16 (oN [zo 17 (.build nD []),zn (.store 8 4 17)] .ret) .skip)) (oN [zf 18 0 5,zl 19 18,zm 20 1,zo 21 (.iaddrS 8 19 20),zo 22 (.load true 8 21),zn (.store 8 4 22)] .ret))))
def Z9:CF:=λF T=>(oN [zo 4 (.box 25 1),zo 6 (.alloc 3 [(za 0),(za 0),(za 0)]),zo 7 (.mv (.const (.bool false)))] (oN [zm 12 0,zo 13 (.load true 25 4),zm 14 2,oF F 15 121 [12,13,14],zm 11 15,zo 16 (.extract 11 0),zo 17 (.extract 11 1),zo 18 (.extract 11 2),zo 8 (.alloc 14 dB),zo 9 (.alloc 11 zL1),zn (.store 14 8 16),zn (.store 11 9 17),zm 10 18] (.seq (oN [zm 19 10,zo 20 (.un .not 19)] (.cond 20 (oN [zo 21 (.build [(za 0),(za 0),(za 0)] []),zn (.store 3 6 21),zo 7 (.mv (.const (.bool false)))] .ret) .skip)) (.seq (.drawn 0 [zp (zf 22 7 9) 0,zr (zl 23 22) 0 1 1,zp (zf 24 8 9) 0,zr (zl 25 24) 0 1 4,zp (zf 26 9 9) 0,zr (zl 27 26) 0 1 16,zp (zo 28 (.build [(za 0),(za 0),(za 0)] [⟨0,⟨1,23⟩⟩,⟨1,⟨1,25⟩⟩,⟨2,⟨1,27⟩⟩])) 63,zp (zm 29 0) 0,zr (zo 30 (.load true 25 4)) 0 0 0,zp (zm 31 2) 0,zh (oF F 32 123 [29,30,31]) 896,zh (oF F 33 122 [28,32]) 2047,zh (zn (.store 3 6 33)) 4095,zp (zo 7 (.mv (.const (.bool true)))) 8191]) .ret))))
def a90:CF:=λF T=>(oN [zo 3 (.box 25 0),zo 6 (.mv (.const (.slice none 0 0)))] (oN [zo 12 (.load true 25 3),zo 13 (.build cC [⟨0,⟨25,12⟩⟩]),zo 14 (.box 25 13),zm 7 14] (.seq (oN [zm 15 7,zm 16 1,zm 17 2,oF F 18 136 [15,16,17],zm 8 18] (oN [zm 19 8,zo 20 (.eql true .ptr 19 (.const (.pointer none)))] (.cond 20 (oN [zm 21 8,zo 22 (.nilchk 21),zl 23 22,oF F 24 51 [23],zm 6 24] .ret) .skip))) (oN [zo 9 (.mv (.const (.slice none 0 0)))] (.seq (oN [zf 25 1 3,zl 26 25,zo 27 (.lenS 26),zo 28 (.mv (zc 0))] (.block 0 (.loop (oN [zo 29 (.arith .lss 28 27)] (.seq (.cond 29 .skip (.exit 0)) (.seq (.block 1 (oN [zo 30 (.iaddrS 14 26 28),zo 31 (.load true 14 30),zo 11 (.alloc 14 dB),zn (.store 14 11 31)] (oN [zm 32 1,zo 33 (.eql false .pi 32 (zc 5)),zm 34 33,zg 35 (.faddr 4 11) 34 true,zg 36 (.load false 1 35) 34 true,zg 37 (.mv 1) 34 true,zg 38 (.eql false .pi 36 37) 34 true,zo 39 (.pick 34 38 (.const (.bool false))),zm 40 39,zg 41 (.mv 2) 40 true,zg 42 (.arith .geq 41 (zc 0)) 40 true,zo 43 (.pick 40 42 (.const (.bool false))),zm 44 43,zg 45 (.mv 2) 44 true,zg 46 (.faddr 0 3) 44 true,zg 47 (.load false 1 46) 44 true,zg 48 (.lenS 47) 44 true,zg 49 (.arith .lss 45 48) 44 true,zo 50 (.pick 44 49 (.const (.bool false))),zm 51 50,zg 52 (.load true 25 3) 51 true,zg 53 (.call (.func (F 137)) [52]) 51 true,zo 54 (.pick 51 53 (.const (.bool false)))] (.cond 54 (.ops [zm 55 9,zf 56 0 11,zl 57 56,zo 58 (.bslice 1 1 [(za 0)] [⟨0,57⟩]),zo 59 (.append 1 8 55 58),zm 9 59]) .skip)))) (.ops [zo 60 (.arith .add 28 (zc 1)),zm 28 60]))))))) (oN [zm 61 9,zm 6 61] .ret))))))
def SP:CF:=λF T=>(oN [zo 4 (.box 25 1),zo 6 (.alloc 14 dB),zo 7 (.alloc 11 zL1),zo 8 (.mv (.const (.bool false)))] (oN [zo 10 (.load true 25 4),zm 11 2,oF F 12 91 [10,11],zm 9 12] (.seq (oN [zm 13 9,zo 14 (.arith .lss 13 (zc 0)),zm 15 14,zg 16 (.faddr 6 4) 15 false,zg 17 (.load false 1 16) 15 false,zg 18 (.mv 2) 15 false,zg 19 (.call (.func (F 167)) [17,18]) 15 false,zg 20 (.un .not 19) 15 false,zo 21 (.pick 15 (.const (.bool true)) 20)] (.cond 21 (.seq (.drawn 0 [zr (zo 22 (.load true 14 6)) 0 0 0,zr (zo 23 (.load true 11 7)) 0 1 0,zh (zn (.store 14 6 22)) 1,zh (zn (.store 11 7 23)) 7,zp (zo 8 (.mv (.const (.bool false)))) 15]) .ret) .skip)) (oN [zf 24 1 4,zl 25 24,zm 26 9,zo 27 (.iaddrS 14 25 26),zo 28 (.load true 14 27),zn (.store 14 6 28)] (.seq (oN [zf 29 1 6,zl 30 29,zo 31 (.arith .lss 30 (zc 0)),zm 32 31,zg 33 (.faddr 1 6) 32 false,zg 34 (.load false 1 33) 32 false,zg 35 (.mv 0) 32 false,zg 36 (.lenS 35) 32 false,zg 37 (.arith .geq 34 36) 32 false,zo 38 (.pick 32 (.const (.bool true)) 37)] (.cond 38 (.seq (.drawn 0 [zr (zo 39 (.load true 14 6)) 0 0 0,zr (zo 40 (.load true 11 7)) 0 1 0,zh (zn (.store 14 6 39)) 1,zh (zn (.store 11 7 40)) 7,zp (zo 8 (.mv (.const (.bool false)))) 15]) .ret) .skip)) (oN [zm 41 0,zf 42 1 6,zl 43 42,zo 44 (.iaddrS 11 41 43),zo 45 (.load true 11 44),zn (.store 11 7 45)] (.seq (.drawn 0 [zr (zo 46 (.load true 14 6)) 0 0 0,zr (zo 47 (.load true 11 7)) 0 1 0,zp (zf 48 1 7) 0,zr (zl 49 48) 0 0 4,zp (zo 50 (.eql false .pi 49 (zc 2))) 12,zh (zn (.store 14 6 46)) 13,zh (zn (.store 11 7 47)) 47,zp (zm 8 50) 127]) .ret)))))))
def SQ:CF:=λF T=>(oN [zo 2 (.box 3 0),zo 4 (.alloc 3 [(za 0),(za 0),(za 0)])] (.seq (.drawn 0 [zp (zf 8 0 2) 0,zr (zl 9 8) 0 0 1,zh (oF F 10 168 [9]) 3,zp (zf 11 1 2) 0,zr (zl 12 11) 0 1 8,zh (oF F 13 168 [12]) 31,zp (zf 14 0 2) 63,zh (zn (.store 1 14 10)) 127,zp (zf 15 1 2) 255,zh (zn (.store 1 15 13)) 511]) (.seq (oN [zm 16 1,zo 17 (.lenS 16),zo 18 (.mv (zc 0))] (.block 0 (.loop (oN [zo 19 (.arith .lss 18 17)] (.seq (.cond 19 .skip (.exit 0)) (.seq (.block 1 (oN [zo 20 (.iaddrS 4 16 18),zo 21 (.load true 4 20),zo 6 (.alloc 4 [(za 0),(za 0),(za 0),(za 0)]),zn (.store 4 6 21)] (oN [zo 22 (.load true 4 6),oF F 23 169 [22],zo 7 (.alloc 2 [(za 0),.nilFunc]),zn (.store 2 7 23)] (oN [zf 24 1 7,zl 25 24,zo 26 (.eql true .V9 25 (.const .nilFunc))] (.cond 26 (.ops [zf 27 1 7,zl 28 27,zo 29 (.load true 4 6),zo 30 (.call 28 [2,29])]) .skip))))) (.ops [zo 31 (.arith .add 18 (zc 1)),zm 18 31]))))))) (.seq (.drawn 0 [zp (zf 32 0 2) 0,zr (zl 33 32) 0 0 1,zh (oF F 34 168 [33]) 3,zp (zf 35 1 2) 0,zr (zl 36 35) 0 1 8,zh (oF F 37 168 [36]) 31,zp (zf 38 0 2) 63,zh (zn (.store 1 38 34)) 127,zp (zf 39 1 2) 255,zh (zn (.store 1 39 37)) 511]) (oN [zo 40 (.load true 3 2),zn (.store 3 4 40)] .ret)))))
def SR:CF:=λF T=>(oN [zo 3 (.box 1 0),zo 4 (.box 25 1),zo 6 (.mv (.const (.slice none 0 0)))] (oN [zl 16 3,zo 17 (.load true 25 4),zm 18 2,oF F 19 121 [16,17,18],zm 15 19,zo 20 (.extract 15 0),zo 21 (.extract 15 1),zo 22 (.extract 15 2),zo 7 (.alloc 14 dB),zo 8 (.alloc 11 zL1),zn (.store 14 7 20),zn (.store 11 8 21),zm 9 22] (.seq (oN [zm 23 9,zo 24 (.un .not 23)] (.cond 24 (oN [zo 6 (.mv (.const (.slice none 0 0)))] .ret) .skip)) (oN [zo 10 (.alloc 1 [(.slice none 0 0 false 0)])] (oN [zo 25 (.mkfn (F 170) [] [3,7,10]),zm 11 25] (.seq (oN [zf 26 6 4,zl 27 26,zo 28 (.lenS 27),zo 29 (.mv (zc 0))] (.block 0 (.loop (oN [zo 30 (.arith .lss 29 28)] (.seq (.cond 30 .skip (.exit 0)) (.seq (.block 1 (oN [zo 31 (.iaddrS 1 27 29),zl 32 31,zm 13 32] (oN [zo 33 (.load true 25 4),zm 34 13,oF F 35 91 [33,34],zm 14 35] (oN [zm 36 14,zo 37 (.arith .geq 36 (zc 0))] (.cond 37 (.ops [zm 38 11,zf 39 1 4,zl 40 39,zm 41 14,zo 42 (.iaddrS 14 40 41),zo 43 (.load true 14 42),zo 44 (.call 38 [43])]) .skip))))) (.ops [zo 45 (.arith .add 29 (zc 1)),zm 29 45]))))))) (oN [zl 46 10,zf 47 13 7,zl 48 47,zo 49 (.append 4 32 46 48),zn (.store 1 10 49)] (oN [zl 50 10,oF F 51 172 [50,(.func (F 173))],zn (.store 1 10 51)] (oN [zl 52 10,zl 53 10,zo 54 (.mkfn (F 175) [53] []),oF F 55 174 [52,54]] (oN [zl 56 10,zm 6 56] .ret))))))))))
def SY:CF:=λF T=>(oN [zo 4 (.mv (.const (.bool false)))] (oN [zm 5 0,zm 6 1,oF F 7 204 [5,6],zo 8 (.arith .geq 7 (zc 0)),zm 4 8] .ret))
def SZ:CF:=λF T=>(oN [zo 2 (.mv (zc 0))] (oN [zm 3 0,zo 4 (.minmax true [3,(.const (.int .i64 (.negSucc 998)))]),zo 5 (.minmax false [4,(zc 999)]),zm 2 5] .ret))
def S3:CF:=λF T=>(oN [zo 4 (.box 14 0)] (.seq (oN [zf 7 1 4,zl 8 7,zo 9 (.arith .lss 8 (zc 0)),zm 10 9,zg 11 (.faddr 1 4) 10 false,zg 12 (.load false 1 11) 10 false,zg 13 (.load false 1 1) 10 false,zg 14 (.lenS 13) 10 false,zg 15 (.arith .geq 12 14) 10 false,zo 16 (.pick 10 (.const (.bool true)) 15)] (.cond 16 .ret .skip)) (oN [zl 17 1,zf 18 1 4,zl 19 18,zo 20 (.iaddrS 11 17 19),zf 21 10 20,zl 22 21,zo 23 (.lenS 22),zo 24 (.mv (zc 0))] (.block 0 (.loop (oN [zo 25 (.arith .lss 24 23)] (.seq (.cond 25 .skip (.exit 0)) (.seq (.block 1 (oN [zo 26 (.iaddrS 13 22 24),zo 27 (.load true 13 26),zo 6 (.alloc 13 zL2),zn (.store 13 6 27)] (oN [zf 28 0 6,zl 29 28,zo 30 (.eql false .pi 29 (zc 4)),zm 31 30,zg 32 (.faddr 2 6) 31 true,zg 33 (.load false 1 32) 31 true,zg 34 (.load true 14 4) 31 true,zg 35 (.load true 14 2) 31 true,zg 36 (.call (.func (F 171)) [33,34,35]) 31 true,zo 37 (.pick 31 36 (.const (.bool false)))] (.cond 37 (.ops [zl 38 3,zf 39 10 6,zl 40 39,zf 41 11 6,zl 42 41,zf 43 12 6,zl 44 43,zf 45 9 4,zl 46 45,zo 47 (.build [(za 0),(za 0),(za 0),(za 0)] [⟨0,⟨1,40⟩⟩,⟨1,⟨1,42⟩⟩,⟨2,⟨1,44⟩⟩,⟨3,⟨1,46⟩⟩]),zo 48 (.bslice 4 1 [(za 0),(za 0),(za 0),(za 0)] [⟨0,47⟩]),zo 49 (.append 4 32 38 48),zn (.store 1 3 49)]) .skip)))) (.ops [zo 50 (.arith .add 24 (zc 1)),zm 24 50])))))))))
def WY:CF:=λF T=>(oN [zo 4 (.mv (.const (.slice none 0 0)))] (oN [zm 8 0,zm 9 1,oF F 10 206 [8,9],zm 5 10] (.seq (oN [zm 11 5,zo 12 (.eql false .pi 11 (.const (.int .i64 (.negSucc 0))))] (.cond 12 (oN [zm 13 0,zm 4 13] .ret) .skip)) (.seq (oN [zm 14 5,zo 15 (.arith .add 14 (zc 1)),zm 6 15] (.block 0 (.loop (.seq (oN [zm 16 6,zm 17 0,zo 18 (.lenS 17),zo 19 (.arith .lss 16 18)] (.cond 19 .skip (.exit 0))) (.seq (.block 1 (oN [zm 22 0,zm 23 6,zo 24 (.iaddrS 4 22 23),zo 25 (.load true 4 24),zo 7 (.alloc 4 [(za 0),(za 0),(za 0),(za 0)]),zn (.store 4 7 25)] (oN [zm 26 1,zo 27 (.load true 4 7),zo 28 (.call 26 [27]),zo 29 (.un .not 28)] (.cond 29 (oN [zm 30 0,zm 31 5,zo 32 (.load true 4 7),zo 33 (.iaddrS 4 30 31),zn (.store 4 33 32)] (.ops [zm 34 5,zo 35 (.arith .add 34 (zc 1)),zm 5 35])) .skip)))) (.ops [zm 20 6,zo 21 (.arith .add 20 (zc 1)),zm 6 21])))))) (oN [zm 36 0,zm 37 5,zo 38 (.slc 4 36 (some 37) none none),zn (.clear 4 [(za 0),(za 0),(za 0),(za 0)] 38)] (oN [zm 39 0,zm 40 5,zo 41 (.slc 4 39 none (some 40) none),zm 4 41] .ret))))))
def S5:CF:=λF T=>(.ops [zm 4 0,zm 5 0,zo 6 (.lenS 5),zm 7 1,oF F 8 207 [4,6,7]])
def S7:CF:=λF T=>(oN [zo 4 (.mv (zc 0))] (.seq (oN [zm 6 0,zo 7 (.lenS 6),zo 8 (.mv (zc 0))] (.block 0 (.loop (oN [zo 9 (.arith .lss 8 7)] (.seq (.cond 9 .skip (.exit 0)) (.seq (.block 1 (oN [zm 10 8,zm 5 10] (oN [zm 11 1,zm 12 0,zm 13 5,zo 14 (.iaddrS 1 12 13),zl 15 14,zo 16 (.eql false .pi 11 15)] (.cond 16 (oN [zm 17 5,zm 4 17] .ret) .skip)))) (.ops [zo 18 (.arith .add 8 (zc 1)),zm 8 18]))))))) (oN [zo 4 (.mv (.const (.int .i64 (.negSucc 0))))] .ret)))
def W0:CF:=λF T=>(oN [zo 4 (.mv (zc 0))] (.seq (oN [zm 6 0,zo 7 (.lenS 6),zo 8 (.mv (zc 0))] (.block 0 (.loop (oN [zo 9 (.arith .lss 8 7)] (.seq (.cond 9 .skip (.exit 0)) (.seq (.block 1 (oN [zm 10 8,zm 5 10] (oN [zm 11 1,zm 12 0,zm 13 5,zo 14 (.iaddrS 4 12 13),zo 15 (.load true 4 14),zo 16 (.call 11 [15])] (.cond 16 (oN [zm 17 5,zm 4 17] .ret) .skip)))) (.ops [zo 18 (.arith .add 8 (zc 1)),zm 8 18]))))))) (oN [zo 4 (.mv (.const (.int .i64 (.negSucc 0))))] .ret)))
def Lk:CF:=λF T=>(oN [zo 6 (.mv (zc 20))] (oN [zm 10 6,zo 7 (.mv (zc 0)),zm 8 10] (.seq (.block 0 (.loop (.seq (oN [zm 11 8,zm 12 1,zo 13 (.arith .leq 11 12)] (.cond 13 .skip (.exit 0))) (.block 1 (oN [zm 14 0,zm 15 7,zm 16 8,zm 17 2,oF F 18 237 [14,15,16,17]] (oN [zm 19 8,zm 7 19] (.ops [zm 20 8,zm 21 6,zo 22 (.arith .add 20 21),zm 8 22]))))))) (oN [zm 23 0,zm 24 7,zm 25 1,zm 26 2,oF F 27 237 [23,24,25,26]] (.block 2 (.loop (.seq (oN [zm 28 6,zm 29 1,zo 30 (.arith .lss 28 29)] (.cond 30 .skip (.exit 2))) (.block 3 (oN [zm 31 6,zo 32 (.arith .mul (zc 2) 31),zo 7 (.mv (zc 0)),zm 8 32] (.seq (.block 4 (.loop (.seq (oN [zm 33 8,zm 34 1,zo 35 (.arith .leq 33 34)] (.cond 35 .skip (.exit 4))) (.block 5 (oN [zm 36 0,zm 37 7,zm 38 7,zm 39 6,zo 40 (.arith .add 38 39),zm 41 8,zm 42 2,oF F 43 238 [36,37,40,41,42]] (oN [zm 44 8,zm 7 44] (.ops [zm 45 8,zm 46 6,zo 47 (.arith .mul (zc 2) 46),zo 48 (.arith .add 45 47),zm 8 48]))))))) (.seq (oN [zm 49 7,zm 50 6,zo 51 (.arith .add 49 50),zm 9 51] (oN [zm 52 9,zm 53 1,zo 54 (.arith .lss 52 53)] (.cond 54 (.ops [zm 55 0,zm 56 7,zm 57 9,zm 58 1,zm 59 2,oF F 60 238 [55,56,57,58,59]]) .skip))) (.ops [zm 61 6,zo 62 (.arith .mul 61 (zc 2)),zm 6 62]))))))))))))
def Lo:CF:=λF T=>(oN [zm 10 1,zo 11 (.arith .add 10 (zc 1)),zm 8 11] (.block 0 (.loop (.seq (oN [zm 12 8,zm 13 2,zo 14 (.arith .lss 12 13)] (.cond 14 .skip (.exit 0))) (.seq (.block 1 (oN [zm 17 8,zm 9 17] (.block 2 (.loop (.seq (.seq (.drawn 0 [zp (zm 18 9) 0,zp (zm 19 1) 0,zp (zo 20 (.arith .gtr 18 19)) 3,zp (zm 21 20) 7,zp (zg 22 (.mv 3) 21 true) 15,zp (zg 23 (.mv 0) 21 true) 15,zp (zg 24 (.mv 9) 21 true) 15,zp (zg 25 (.iaddrS 4 23 24) 21 true) 111,zr (zg 26 (.load true 4 25) 21 true) 0 0 239,zp (zg 27 (.mv 0) 21 true) 15,zp (zg 28 (.mv 9) 21 true) 15,zp (zg 29 (.arith .sub 28 (zc 1)) 21 true) 1039,zp (zg 30 (.iaddrS 4 27 29) 21 true) 3599,zr (zg 31 (.load true 4 30) 21 true) 0 0 7695,zh (zg 32 (.call 22 [26,31]) 21 true) 16383,zp (zg 33 (.arith .lss 32 (zc 0)) 21 true) 32767,zp (zo 34 (.pick 21 33 (.const (.bool false)))) 65535]) (.cond 34 .skip (.exit 2))) (.seq (.block 3 (.drawn 0 [zp (zm 37 0) 0,zp (zm 38 9) 0,zp (zm 39 0) 0,zp (zm 40 9) 0,zp (zo 41 (.arith .sub 40 (zc 1))) 8,zp (zm 42 0) 0,zp (zm 43 9) 0,zp (zo 44 (.arith .sub 43 (zc 1))) 64,zp (zo 45 (.iaddrS 4 42 44)) 224,zr (zo 46 (.load true 4 45)) 0 0 480,zp (zm 47 0) 0,zp (zm 48 9) 0,zp (zo 49 (.iaddrS 4 47 48)) 3072,zr (zo 50 (.load true 4 49)) 0 0 7168,zp (zo 51 (.iaddrS 4 37 38)) 16355,zh (zn (.store 4 51 46)) 32739,zp (zo 52 (.iaddrS 4 39 41)) 65535,zh (zn (.store 4 52 50)) 131071])) (.ops [zm 35 9,zo 36 (.arith .sub 35 (zc 1)),zm 9 36]))))))) (.ops [zm 15 8,zo 16 (.arith .add 15 (zc 1)),zm 8 16]))))))
structure BaseC (P:Program)(K:Orc)(F:Nat->FuncId)(T:Nat->TypeId):Prop where
 f30:FnK P K (F 30) 19 [(.cell 4<|T 71),(.tmp 5)] (ZU F T)
 f36:FnK P K (F 36) 12 [(.tmp 6)] (ZV F T)
 f37:FnK P K (F 37) 21 [(.cell 4<|T 45),(.tmp 5)] (ZW F T)
 f43:FnK P K (F 43) 23 [(.cell 4<|T 107)] (ZX F T)
 f77:FnK P K (F 77) 34 [(.cell 6<|T 71),(.tmp 7)] (Z9 F T)
 f90:FnK P K (F 90) 62 [(.tmp 6)] (a90 F T)
 f121:FnK P K (F 121) 51 [(.cell 6<|T 45),(.cell 7<|T 99),(.tmp 8)] (SP F T)
 f122:FnK P K (F 122) 41 [(.cell 4<|T 71)] (SQ F T)
 f123:FnK P K (F 123) 57 [(.tmp 6)] (SR F T)
 f167:FnK P K (F 167) 9 [(.tmp 4)] (SY F T)
 f168:FnK P K (F 168) 6 [(.tmp 2)] (SZ F T)
 f170:FnK P K (F 170) 51 [] (S3 F T)
 f172:FnK P K (F 172) 42 [(.tmp 4)] (WY F T)
 f174:FnK P K (F 174) 9 [] (S5 F T)
 f204:FnK P K (F 204) 19 [(.tmp 4)] (S7 F T)
 f206:FnK P K (F 206) 19 [(.tmp 4)] (W0 F T)
 f207:FnK P K (F 207) 63 [] (Lk F T)
 f237:FnK P K (F 237) 53 [] (Lo F T)
structure TyC (P:Program)(T:Nat->TypeId):Prop where
 t71:Ty P (T 71) 3
 t99:Ty P (T 99) 11
 t107:Ty P (T 107) 8
structure ED where
 op:Int
theorem eT (a b:Int):binV .lss (iv a) (iv b)=some (.bool (decide (a<b))):=by show some (AV.bool (ilt a b))=_;rw[du]
theorem th (a b:Int):binV .geq (iv a) (iv b)=some (.bool (!decide (a<b))):=by show some (AV.bool (!ilt a b))=_;rw[du]
theorem Qp {L:List Int}{i:Nat}(h:i<L.length):(nR L)[i]?=some [iv L[i]]:=by rw[nR,List.getElem?_map,List.getElem?_eq_getElem h];rfl
theorem gq (L:List Int):(nR L).length=L.length:=by simp[nR]
theorem CY (hC:BaseC P K F T){v:AV}{L:List Int}{id:Int}(hv:Src s 1 v (nR L))(hn:L.length<=1000) :
  bB P K (F 204) [v,iv id] s (λw s'=>(∃r:Int,w=iv r/\decide (r<0)=!decide (id∈L))/\s'=s):=by
 refine hC.f204.dT ?_
 unfold S7
 have lv:lenOf v=some L.length:=by rw[hv.lenOf,gq]
 refine Wq<|Wv rfl<|Wn ?_
 refine Ws<|Wq<|Wv rfl<|Wr (.lenS rfl lv)<|Wv rfl<|Wn<|Wb ?_
 refine Wp (λk l ds s'=>ds=[]/\s'=s/\∃q,k=L.length-q/\q<=L.length/\(∀j,j<q->L[j]?≠some id)/\∀j w,lk [(0,v),(1,iv id),(7,iv<|.ofNat L.length),(8,iv<|.ofNat q),(6,v)] j=some w->lk l j=some w) ?_ (n:=L.length-0) ⟨rfl,rfl,0,rfl,Nat.zero_le _,λj hj=>absurd hj<|Nat.not_lt_zero _,bq rfl⟩
 rintro k l ds s' ⟨rfl,rfl,q,rfl,hq,hno,hl⟩
 refine Wg hl (λ_ _ h=>h) ?_
 refine Wq<|Wj rfl rfl rfl<|Wn<|Ws<|Wd rfl (λht=>Wi ?_)<|λht=>?_
 ·have hlt:q<L.length:=bh.1 ht
  obtain⟨b,r,no,c,so,ro,M,rfl,hb,PS,hM⟩:=hv.Ko (by rw[gq];omega)
  rw[gq]at PS hM
  refine Ws<|Wb<|Wq<|Wv rfl<|Wv rfl<|Wn ?_
  refine Wq<|Wv rfl<|Wv rfl<|Wv rfl<|Wr (.iaddrS rfl rfl (by omega)<|by omega)<|Wl rfl hb ((hM q hlt).trans (Qp hlt)) rfl rfl<|Wh rfl rfl (bb _ _)<|Wn ?_
  by_cases he:id=L[q]
  ·rw[decide_eq_true he]
   refine Wd rfl (λ_=>?_)<|λh=>by cases h
   refine Wq<|Wv rfl<|Wv rfl<|Wn<|We<|Wm (.tmp rfl .nil) ?_
   refine⟨⟨.ofNat q,rfl,?_⟩,rfl⟩
   have:id∈L:=by rw[he];exact List.getElem_mem _
   rw[decide_eq_true this,decide_eq_false (by show¬((q:Nat):Int)<0;omega)]
   rfl
  ·rw[decide_eq_false he]
   refine Wd rfl (λh=>by cases h)<|λ_=>Wi ?_
   refine Wo<|Wj rfl rfl (bM<|by omega)<|Wv rfl<|Wn ?_
   refine⟨L.length-(q+1),by omega,rfl,rfl,q+1,rfl,hlt,λj hj=>?_,bq rfl⟩
   by_cases YC:j=q
   ·subst YC
    rw[List.getElem?_eq_getElem hlt]
    intro h
    exact he (Option.some.inj h).symm
   ·exact hno j<|by omega
 ·refine Wx ?_
  have:q=L.length:=by
   have:¬q<L.length:=λh=>by rw[fw,show Nat.blt q L.length=true from bh.2 h]at ht;cases ht
   omega
  subst this
  refine Wq<|Wv rfl<|Wn<|We<|Wm (.tmp rfl .nil) ?_
  refine⟨⟨-1,rfl,?_⟩,rfl⟩
  have:¬id∈L:=λh=>by
   obtain⟨j,hj,e⟩:=List.getElem_of_mem h
   exact hno j hj<|by rw[List.getElem?_eq_getElem hj,e]
  rw[decide_eq_false this]
  rfl
theorem mJ (hC:BaseC P K F T){v:AV}{L:List Int}{id:Int}(hv:Src s 1 v (nR L))(hn:L.length<=1000):bB P K (F 167) [v,iv id] s (λw s'=>w=.bool (decide (id∈L))/\s'=s):=by
 refine hC.f167.dT ?_
 unfold SY
 refine Wq<|Wv rfl<|Wn ?_
 refine Wq<|Wv rfl<|Wv rfl<|Ww<|W1 (CY hC hv hn) ?_
 rintro w _ ⟨⟨r,rfl,hr⟩,rfl⟩
 refine Wj rfl rfl (th r 0)<|Wv rfl<|Wn<|We<|Wm (.tmp rfl .nil) ?_
 refine⟨?_,rfl⟩
 show AV.bool (!decide (r<0))=_
 rw[hr,Bool.not_not]
theorem vC (hC:BaseC P K F T){v f:AV}:bB P K (F 237) [v,iv (.ofNat 0),iv (.ofNat 0),f] s (λ_ s'=>s'=s):=by
 refine hC.f237.dT ?_
 unfold Lo
 refine Wq<|Wv rfl<|Wj rfl rfl (bM (a:=0) (b:=1)<|by omega)<|Wv rfl<|Wn<|Wb ?_
 refine WP.dA<|Ws<|Wq<|Wv rfl<|Wv rfl<|Wj (v:=.bool false) rfl rfl rfl<|Wn<|Wd rfl (λh=>by cases h)<|λ_=>Wx ?_
 exact Wm .nil rfl
theorem wK (hC:BaseC P K F T){v f:AV}:bB P K (F 207) [v,iv (.ofNat 0),f] s (λ_ s'=>s'=s):=by
 refine hC.f207.dT ?_
 unfold Lk
 refine Wq<|Wv rfl<|Wn ?_
 refine Wq<|Wv rfl<|Wv rfl<|Wv rfl<|Wn ?_
 refine Ws<|Wb ?_
 refine WP.dA<|Ws<|Wq<|Wv rfl<|Wv rfl<|Wj (v:=.bool false) rfl rfl rfl<|Wn<|Wd rfl (λh=>by cases h)<|λ_=>Wx ?_
 refine Wq<|Wv rfl<|Wv rfl<|Wv rfl<|Wv rfl<|Ww<|W1 (vC hC) ?_
 rintro w _ rfl
 refine Wn<|Wb ?_
 refine WP.dA<|Ws<|Wq<|Wv rfl<|Wv rfl<|Wj (v:=.bool false) rfl rfl rfl<|Wn<|Wd rfl (λh=>by cases h)<|λ_=>Wx ?_
 exact Wm .nil rfl
theorem ad1 (hC:BaseC P K F T){v f:AV}(hv:lenOf v=some 0):bB P K (F 174) [v,f] s (λ_ s'=>s'=s):=by
 refine hC.f174.dT ?_
 unfold S5
 refine Wo<|Wv rfl<|Wv rfl<|Wr (.lenS rfl hv)<|Wv rfl<|Ww<|W1 (wK hC) ?_
 rintro w _ rfl
 exact Wn<|Wm .nil rfl
theorem BaseC.Xc (hC:BaseC P K F T):FnK P K (F 172) 42 [.tmp 4] (xp true (F 206) 4 [iv 0,iv 0,iv 0,iv 0]):=hC.f172
theorem BaseC.Xe (hC:BaseC P K F T):FnK P K (F 206) 19 [.tmp 4] (CU true 4):=hC.f206
theorem abS (hC:BaseC P K F T):bB P K (F 172) [nilS,.func (F 173) [] []] s (λv' s'=>lenOf v'=some 0/\partCells 1 v'=some [v']/\∃m,s'=m++s):=by
 have no:∀{C:List AV->Prop},∀row∈([]:List (List AV)),C row:=λrow hr=>nomatch hr
 refine hC.Xc.dT<|xq (m:=[]) (o:=[]) (t:=s) (λ_=>false) .nil (by omega) rfl (.inl rfl) (Nat.zero_le _) no (λh=>by cases h) ?_ no λv' o' y hG=>⟨hG.out.lenOf,hG.out.src.part,y++o',by simp⟩
 exact hC.Xe.dT<|abi (λ_=>false) .nil (by omega) (.inl rfl) (Nat.zero_le _) no no λn=>⟨rfl,n,rfl⟩
structure AD where
 kind:Int
 ev:Int
 who:Int
 n3:Int
 n4:Int
 n5:Int
 n6:Int
 tap:Bool
 tg:AV
 cd:AV
 op:Int
 a:Int
 b:Int
@[reducible] def AD.row (x:AD):List AV:=[iv x.kind,iv x.ev,iv x.who,iv x.n3,iv x.n4,iv x.n5,iv x.n6,.bool x.tap,x.tg,x.cd,iv x.op,iv x.a,iv x.b]
structure CD where
 nm:ByteArray
 kind:Int
 n2:Int
 n3:Int
 n4:Int
 n5:Int
 n6:Int
 power:Int
 qn:Int
 keys:Int
 av:AV
 ab:List AD
@[reducible] def CD.row (c:CD):List AV:=[.str c.nm,iv c.kind,iv c.n2,iv c.n3,iv c.n4,iv c.n5,iv c.n6,iv c.power,iv c.qn,iv c.keys,c.av]
structure cI (s:SH)(cv:AV)(C:List CD):Prop where
 src:Src s 11 cv (C.map CD.row)
 ab:∀c∈C,Src s 13 c.av<|c.ab.map AD.row
 n:C.length<=1000
 nb:∀c∈C,c.ab.length<=1000
theorem cI.mono {s s':SH}{cv:AV}{C:List CD}(h:cI s cv C)(hs:∀p,p∈s->p∈s'):cI s' cv C:=⟨h.src.mono hs,λc hc=>(h.ab c hc).mono hs,h.n,h.nb⟩
def SD.onF (d:SD)(C:List CD)(id:Int):Option (OD × CD):=
 match d.find id with
 | none=>none
 | some i=>if id∈d.fi then match d.ob[i]? with
  | none=>none
  | some o=>if o.gE<0 then none else match C[o.gE.toNat]? with
   | none=>none
   | some c=>some (o,c)
  else none
def Bj (d:SD)(C:List CD)(id:Int)(v:AV):Prop:=
 (∃o c,d.onF C id=some (o,c)/\c.kind=2/\o∈d.ob/\c∈C/\v=.tuple [.agg o.row,.agg c.row,.bool true]) \/
  ((∀o c,d.onF C id=some (o,c)->c.kind≠2)/\∃(o:OD)(c:CD),v=.tuple [.agg o.row,.agg c.row,.bool false])
theorem J3 (c:CD)(h:Src s 13 c.av (c.ab.map AD.row)):dz (.agg c.row) (.agg c.row)=true:=by
 have hs:=h.sameN 4
 show sameL (sameN 5) c.row c.row=true
 simp only[sameL,hs,Bool.and_true]
 simp[sameN,same0,gd,keq]
@[reducible] def yz:List AV:=zL1
theorem ta (hB:Base P K F T)(hC:BaseC P K F T)(q9:Ty P (T 45) 14)(IZ:Ty P (T 99) 11){cv pv ov lv hv gv ev fv sv wv:AV}{d:SD}{C:List CD}{id:Int}(eQ:cI s cv C)(h:mD s pv ov lv hv gv ev fv sv wv d)(hd:d.Small)(hcd:∀o∈d.ob,∃j:Nat,o.gE=.ofNat j/\j<C.length) :
  bB P K (F 121) [cv,.agg<|d.cells pv ov lv hv gv ev fv sv wv,iv id] s (λv s'=>Bj d C id v/\∃m,s'=m++s):=by
 have hn:=hd.n1
 refine hC.f121.dT ?_
 unfold SP
 refine Wq<|Wa (.box rfl rfl) λb4=>Wa (.alloc rfl) λb6=>Wa (.alloc rfl) λb7=>Wv rfl<|Wn ?_
 refine Wq<|Wl rfl (.there<|.there .here) rfl rfl rfl<|Wv rfl<|Ww<|W1 (lg hB (h.ob.mono λp hp=>by simp[hp]) hd) ?_
 rintro w _ ⟨rfl,m1,rfl⟩
 refine Wv rfl<|Wn ?_
 by_cases hf:(∃i,d.find id=some i)/\id∈d.fi
 ·obtain⟨⟨i,hi⟩,hm⟩:=hf
  obtain⟨Uw,ho⟩:∃h:i<d.ob.length,d.ob[i]?=some d.ob[i]:=by
   obtain⟨h1,_⟩:=List.findIdx?_eq_some_iff_getElem.1 hi
   exact⟨h1,List.getElem?_eq_getElem h1⟩
  have hmem:d.ob[i]∈d.ob:=List.getElem_mem _
  obtain⟨j,hj,A3⟩:=hcd _ hmem
  generalize d.ob[i]=o at ho hmem hj
  have zC:C[j]?=some C[j]:=List.getElem?_eq_getElem A3
  have IR:C[j]∈C:=List.getElem_mem _
  generalize C[j]=c at zC IR
  have sj:d.onF C id=some (o,c):=by
   simp only[SD.onF,hi,if_pos hm,ho,hj]
   rw[if_neg (by show¬Int.ofNat j<0;exact Int.not_lt.2<|Int.natCast_nonneg j)]
   show(match C[j]? with | none=>none | some c=>some (o,c))=_
   rw[zC]
  rw[hi]
  refine Ws<|Wq<|Wv rfl<|Wj (v:=.bool false) rfl rfl rfl<|Wv rfl<|Wy<|Wf rfl<|Wy<|Wl rfl (.app<|.there<|.there .here) rfl rfl rfl<|Wy<|Wv rfl<|Wy<|Ww<|W1 (mJ hC (h.fi.mono λp hp=>by simp[hp])<|by omega) ?_
  rintro w _ ⟨rfl,rfl⟩
  rw[decide_eq_true hm]
  refine Wy<|Wr (.un (v:=.bool false) rfl rfl)<|Wr (.bj rfl rfl)<|Wn<|Wd rfl fS<|λ_=>Wi ?_
  obtain⟨bo,ro,no,co,ZE,WE,Mo,rfl,IM,hin,hrow⟩:=h.ob.at (i:=i)<|by simpa[fy]using Uw
  have n8:Mo[ro+i]?=some o.row:=by rw[hrow];simp only[fy,List.getElem?_map,ho];rfl
  refine Wq<|Wf rfl<|Wl rfl (.app<|.there<|.there .here) rfl rfl rfl<|Wv rfl<|Wr (.iaddrS rfl rfl hin<|by decide)<|Wl rfl (.app<|.there<|.there<|.there IM) n8 rfl rfl<|Ww<|Wt rfl rfl rfl (.app<|.there .here) rfl rfl<|Wn ?_
  have hge:binV .geq (iv o.gE) (iv<|.ofNat C.length)=some (.bool false):=by
   rw[hj,th,decide_eq_true<|show Int.ofNat j<Int.ofNat C.length from Int.ofNat_lt.2 A3];rfl
  have hlt:binV .lss (iv o.gE) (iv 0)=some (.bool false):=by
   rw[hj,eT,decide_eq_false<|show¬Int.ofNat j<0 from Int.not_lt.2<|Int.natCast_nonneg j]
  have hlen:lenOf cv=some C.length:=by rw[eQ.src.lenOf,List.length_map]
  refine Ws<|Wq<|Wf rfl<|Wl rfl (.app<|.there .here) rfl rfl rfl<|Wj rfl rfl hlt<|Wv rfl<|Wy<|Wf rfl<|Wy<|Wl rfl (.app<|.there .here) rfl rfl rfl<|Wy<|Wv rfl<|Wy<|Wr (.lenS rfl hlen)<|Wy<|Wj rfl rfl hge<|Wr (.bj rfl rfl)<|Wn<|Wd rfl fS<|λ_=>Wi ?_
  obtain⟨bc,rc,nc,cc,slc,roc,Mc,rfl,hbc,CC,abA⟩:=eQ.src.at (i:=j)<|by simpa using A3
  have n9:Mc[rc+j]?=some c.row:=by rw[abA];simp only[List.getElem?_map,zC];rfl
  refine Wq<|Wv rfl<|Wf rfl<|Wl rfl (.app<|.there .here) rfl rfl rfl<|Wr (.iaddrS rfl (by rw[hj];rfl) CC<|by decide)<|Wl rfl (.app<|.there<|.there<|.there hbc) n9 rfl rfl<|Ww<|Wt rfl rfl rfl (.app .here) rfl rfl<|Wn ?_
  refine Ws<|WP.bD<|Dl rfl .nil (.load rfl (.app<|.there .here) rfl rfl rfl)<|WD.lk rfl .nil (.load rfl (.app .here) rfl rfl rfl)<|Dp (.faddr rfl)<|Dl rfl .nil (.load rfl (.app .here) rfl rfl rfl)<|Dp (.eql rfl rfl<|bb _ _)<|Dc .nil<|Wt rfl rfl rfl (.app<|.there .here) rfl rfl<|Dc .nil<|Wt rfl rfl rfl (.app .here) rfl rfl<|Dp (.mv rfl)<|D0 .nil ?_ ?_
  rotate_left
  ·intro o ho
   rw[List.mem_singleton.1 ho]
   refine⟨(λi hi=>nomatch hi),Nat.zero_le _,J3 c<|eQ.ab c IR,λk _ hk=>?_⟩
   rcases cD hk with rfl|rfl
   ·exact⟨_,rfl,.load rfl (.app .here) rfl rfl rfl⟩
   ·exact⟨_,rfl,.load rfl (.app .here) rfl rfl rfl⟩
  refine We<|Wm (.cell rfl q9.1 q9.2 (.inl rfl) (.app<|.there .here) rfl rfl rfl<|.cell rfl IZ.1 IZ.2 (.inl rfl) (.app .here) rfl rfl rfl<|.tmp rfl .nil) ⟨?_,_,pull yh⟩
  by_cases hk:c.kind=2
  ·exact .inl ⟨o,c,sj,hk,hmem,IR,by show AV.tuple [_,_,.bool<|decide<|c.kind=2]=_;rw[decide_eq_true hk]⟩
  ·refine .inr ⟨λo2 c2 h2=>?_,o,c,by show AV.tuple [_,_,.bool<|decide<|c.kind=2]=_;rw[decide_eq_false hk]⟩
   rw[sj]at h2
   cases h2
   exact hk
 ·have hno:∀o c,d.onF C id=some (o,c)->c.kind≠2:=by
   intro o c h2
   unfold SD.onF at h2
   split at h2
   ·cases h2
   ·rename_i i hi
    split at h2
    ·rename_i hm
     exact absurd ⟨⟨i,hi⟩,hm⟩ hf
    ·cases h2
  have fin:∀{l2:Sl}{m:SH},lk l2 6=some (.ptr<|some ⟨b6,0,0⟩)->lk l2 7=some (.ptr<|some ⟨b7,0,0⟩)->WP P K none 51 (.seq (.drawn 0 [zr (zo 22<|.load true 14 6) 0 0 0,zr (zo 23<|.load true 11 7) 0 1 0,zh (zn<|.store 14 6 22) 1,zh (zn<|.store 11 7 23) 7,zp (zo 8<|.mv<|.const<|.bool false) 15]) .ret) l2 [] (m++((b7,.r false [yz] 11)::(b6,.r false [dB] 14)::(b4,.r false [d.cells pv ov lv hv gv ev fv sv wv] 25)::s)) (λ_ _ _=>False) (λ_ _ _ _=>False) (Fin P [.cell 6 (T 45),.cell 7<|T 99,.tmp 8] λv s'=>Bj d C id v/\∃m,s'=m++s):=by
   intro l2 m h6 h7
   refine Ws<|WP.bD<|Dl rfl .nil (.load h6 (.app<|.there .here) rfl rfl rfl)<|WD.lk rfl .nil (.load h7 (.app .here) rfl rfl rfl)<|Dc .nil<|Wt h6 rfl rfl (.app<|.there .here) rfl rfl<|Dc .nil<|Wt h7 rfl rfl (.app .here) rfl rfl<|Dp (.mv rfl)<|D0 .nil ?_ ?_
   rotate_left
   ·intro o ho
    rw[List.mem_singleton.1 ho]
    refine⟨(λi hi=>nomatch hi),Nat.zero_le _,(by show sameL (sameN 5) yz yz=true;simp[sameL,sameN,same0,gd,keq]),λk _ hk=>?_⟩
    rcases cD hk with rfl|rfl
    ·exact⟨_,rfl,.load h7 (.app .here) rfl rfl rfl⟩
    ·exact⟨_,rfl,.load h7 (.app .here) rfl rfl rfl⟩
   exact We<|Wm (.cell h6 q9.1 q9.2 (.inl rfl) (.app<|.there .here) rfl rfl rfl<|.cell h7 IZ.1 IZ.2 (.inl rfl) (.app .here) rfl rfl rfl<|.tmp rfl .nil) ⟨.inr ⟨hno,⟨0,0,0,0,0,false,false,false,0,0,0,0,false⟩,⟨⟨#[]⟩,0,0,0,0,0,0,0,0,0,nilS,[]⟩,rfl⟩,_,pull yh⟩
  cases hi:d.find id with
  | none=>
   refine Ws<|Wq<|Wv rfl<|Wj (v:=.bool true) rfl rfl rfl<|Wv rfl<|Wk<|Wk<|Wk<|Wk<|Wk<|Wr (.cV rfl rfl)<|Wn<|Wd rfl (λ_=>?_) Dz
   exact(fin rfl rfl).post (λ_ _ _ h=>h.elim) (λ_ _ _ _ h=>h) (λ_ _ _ h=>h)
  | some i=>
   have hm:¬id∈d.fi:=λhm=>hf ⟨⟨i,hi⟩,hm⟩
   refine Ws<|Wq<|Wv rfl<|Wj (v:=.bool false) rfl rfl rfl<|Wv rfl<|Wy<|Wf rfl<|Wy<|Wl rfl (.app<|.there<|.there .here) rfl rfl rfl<|Wy<|Wv rfl<|Wy<|Ww<|W1 (mJ hC (h.fi.mono λp hp=>by simp[hp])<|by omega) ?_
   rintro w _ ⟨rfl,rfl⟩
   rw[decide_eq_false hm]
   refine Wy<|Wr (.un (v:=.bool true) rfl rfl)<|Wr (.bj rfl rfl)<|Wn<|Wd rfl (λ_=>?_) Dz
   exact(fin rfl rfl).post (λ_ _ _ h=>h.elim) (λ_ _ _ _ h=>h) (λ_ _ _ h=>h)
theorem aea (hC:BaseC P K F T){b3:Nat}{ro3:Bool}{cv v2 v3:AV}{C:List CD}{o:OD}{c:CD}(eQ:cI s cv C)(h3:Has b3 (.r ro3 [[cv]] 1) s)(hj:∃j:Nat,o.gE=.ofNat j/\C[j]?=some c)(hno:c.ab=[]) :
  bB P K (F 170) [.agg o.row,.ptr<|some ⟨b3,0,0⟩,v2,v3] s (λ_ s'=>∃m,s'=m++s):=by
 obtain⟨j,hj,vp⟩:=hj
 obtain⟨A3,zC⟩:=List.getElem?_eq_some_iff.1 vp
 have IR:c∈C:=zC▸List.getElem_mem _
 have hab:=eQ.ab c IR
 refine hC.f170.dT ?_
 unfold S3
 refine Wq<|Wa (.box rfl rfl) λb4=>Wn ?_
 have hge:binV .geq (iv o.gE) (iv<|.ofNat C.length)=some (.bool false):=by
  rw[hj,th,decide_eq_true<|show Int.ofNat j<Int.ofNat C.length from Int.ofNat_lt.2 A3];rfl
 have hlt:binV .lss (iv o.gE) (iv 0)=some (.bool false):=by
  rw[hj,eT,decide_eq_false<|show¬Int.ofNat j<0 from Int.not_lt.2<|Int.natCast_nonneg j]
 have hlen:lenOf cv=some C.length:=by rw[eQ.src.lenOf,List.length_map]
 refine Ws<|Wq<|Wf rfl<|Wl rfl .here rfl rfl rfl<|Wj rfl rfl hlt<|Wv rfl<|Wy<|Wf rfl<|Wy<|Wl rfl .here rfl rfl rfl<|Wy<|Wl rfl (.there h3) rfl rfl rfl<|Wy<|Wr (.lenS rfl hlen)<|Wy<|Wj rfl rfl hge<|Wr (.bj rfl rfl)<|Wn<|Wd rfl fS<|λ_=>Wi ?_
 obtain⟨bc,rc,nc,cc,slc,roc,Mc,rfl,hbc,CC,abA⟩:=eQ.src.at (i:=j)<|by simpa using A3
 have n9:Mc[rc+j]?=some c.row:=by rw[abA];simp only[List.getElem?_map,vp];rfl
 have YD:lenOf c.av=some 0:=by rw[hab.lenOf,hno];rfl
 refine Wq<|Wl rfl (.there h3) rfl rfl rfl<|Wf rfl<|Wl rfl .here rfl rfl rfl<|Wr (.iaddrS rfl (by rw[hj];rfl) CC<|by decide)<|Wf rfl<|Wl rfl (.there hbc) n9 rfl rfl<|Wr (.lenS rfl YD)<|Wv rfl<|Wn<|Wb ?_
 refine WP.dA<|Wq<|Wj (v:=.bool false) rfl rfl rfl<|Wn<|Ws<|Wd rfl fS<|λ_=>Wx ?_
 exact Wm .nil ⟨[_],rfl⟩
structure nF (d:SD)(C:List CD):Prop where
 cd:∀o∈d.ob,∃j:Nat,o.gE=.ofNat j/\j<C.length
 no:∀c∈C,c.ab=[]
theorem WS.uL {R:AV->List aD->SH->Prop}{sz bytes:Nat}{ss x:Operand}{sv xv:AV}{L:List (List AV)}{o:SH}(hs:opl l ss=some sv)(hG:Gr sz sv L o)(hx:opl l x=some xv)(hN:Src s sz xv [])(hz:sz≠0)(k:R sv ds s) :
  WS P K (.append sz bytes ss x) l ds s R:=by
 cases hG with
 | nil=>exact WS.append_none hs hx hN hz (Nat.le_refl _) k
 | zero=>exact WS.append_none hs hx hN hz (Nat.le_refl _) k
 | rows hn hc hL=>exact WS.append_none hs hx hN hz (by omega) k
theorem abv (hB:Base P K F T)(hC:BaseC P K F T)(hT:TyC P T)(q9:Ty P (T 45) 14){cv pv ov lv hv gv ev fv sv wv:AV}{d:SD}{C:List CD}{id:Int}{o:OD}{c:CD}(eQ:cI s cv C)(h:mD s pv ov lv hv gv ev fv sv wv d)(hd:d.Small)(hcd:nF d C)
  (sj:d.onF C id=some (o,c)) (hk:c.kind=2) :
  bB P K (F 123) [cv,.agg<|d.cells pv ov lv hv gv ev fv sv wv,iv id] s (λv s'=>lenOf v=some 0/\∃m,s'=m++s):=by
 have hn:=hd.n1
 refine hC.f123.dT ?_
 unfold SR
 refine Wq<|Wa (.box rfl eQ.src.part) λb3=>Wa (.box rfl rfl) λb4=>Wv rfl<|Wn ?_
 refine Wq<|Wl rfl (.there .here) rfl rfl rfl<|Wl rfl .here rfl rfl rfl<|Wv rfl<|Ww<|W1 (ta hB hC q9 hT.t99 (eQ.mono λp hp=>by simp[hp]) (h.mono λp hp=>by simp[hp]) hd hcd.cd) ?_
 rintro w _ ⟨hF,m1,rfl⟩
 rcases hF with⟨o2,c2,UI,hk2,V4,IR,rfl⟩|⟨hno,_⟩
 rotate_left
 ·exact absurd hk<|hno o c sj
 rw[sj]at UI
 cases UI
 refine Wv rfl<|Wr (.extract rfl rfl)<|Wr (.extract rfl rfl)<|Wr (.extract rfl rfl)<|Wa (.alloc rfl) λb7=>Wa (.alloc rfl) λb8=>Ww<|Wt (s':=(b8,.r false [_] 11)::(b7,.r false [o.row] 14)::_) rfl rfl rfl (.there .here) rfl rfl<|Ww<|Wt (s':=(b8,.r false [c.row] 11)::_) rfl rfl rfl .here rfl rfl<|Wv rfl<|Wn ?_
 refine Ws<|Wq<|Wv rfl<|Wr (.un (v:=.bool false) rfl rfl)<|Wn<|Wd rfl fS<|λ_=>Wi ?_
 refine Wq<|Wa (.alloc rfl) λsf=>Wn ?_
 refine Wq<|Wr (.mkfn rfl rfl)<|Wv rfl<|Wn ?_
 have YE:lenOf fv=some d.fi.length:=by rw[h.fi.lenOf,gq]
 refine Ws<|Wq<|Wf rfl<|Wl rfl (.there<|.there<|.there<|.app .here) rfl rfl rfl<|Wr (.lenS rfl YE)<|Wv rfl<|Wn<|Wb ?_
 generalize ht:((b8,HO.r false [c.row] 11)::(b7,HO.r false [o.row] 14)::(m1++((b4,HO.r false [d.cells pv ov lv hv gv ev fv sv wv] 25)::(b3,HO.r false [[cv]] 1)::s)):SH)=t
 have h3:Has b3 (.r false [[cv]] 1) t:=by rw[<- ht];exact .there<|.there<|.app<|.there .here
 have h4:Has b4 (.r false [d.cells pv ov lv hv gv ev fv sv wv] 25) t:=by rw[<- ht];exact .there<|.there<|.app .here
 have h7:Has b7 (.r false [o.row] 14) t:=by rw[<- ht];exact .there .here
 have hst:∀p,p∈s->p∈t:=λp hp=>by rw[<- ht];simp[hp]
 have hts:∃m,t=m++s:=⟨_,by rw[<- ht];exact fN<|fN<|pull eW⟩
 refine Wp (λk l ds s'=>ds=[]/\∃q m',k=d.fi.length-q/\q<=d.fi.length/\s'=m'++((sf,.r false [[nilS]] 1)::t) /\
   ∀i w,lk [(3,.ptr (some ⟨b3,0,0⟩)),(4,.ptr (some ⟨b4,0,0⟩)),(7,.ptr (some ⟨b7,0,0⟩)),(10,.ptr (some ⟨sf,0,0⟩)),(11,.func (F 170) [] [.ptr (some ⟨b3,0,0⟩),.ptr (some ⟨b7,0,0⟩),.ptr (some ⟨sf,0,0⟩)]),(27,fv),(28,iv (.ofNat d.fi.length)),(29,iv (.ofNat q))] i=some w->lk l i=some w) ?_ (n:=d.fi.length-0)
  ⟨rfl,0,[],rfl,Nat.zero_le _,rfl,bq rfl⟩
 rintro k l ds s' ⟨rfl,q,m',rfl,hq,rfl,hl⟩
 refine Wg hl (λ_ _ h=>h) ?_
 refine Wq<|Wj rfl rfl rfl<|Wn<|Ws<|Wd rfl (λht=>?_)<|λht=>?_
 ·have hlt:q<d.fi.length:=bh.1 ht
  have hx:d.fi[q]?=some d.fi[q]:=List.getElem?_eq_getElem hlt
  generalize d.fi[q]=n at hx
  obtain⟨ba,ra,na,ca,J5,Sp,Ma,rfl,hba,me,gH⟩:=h.fi.at (i:=q) (by rw[gq];exact hlt)
  have eE:Ma[ra+q]?=some [iv n]:=by rw[gH,nR,List.getElem?_map,hx];rfl
  refine Wi<|Ws<|Wb<|Wq<|Wr (.iaddrS rfl rfl me<|by decide)<|Wl rfl (.app<|.there<|.ce<|hst _ hba.mem) eE rfl rfl<|Wv rfl<|Wn ?_
  refine Wq<|Wl rfl (.app<|.there h4) rfl rfl rfl<|Wv rfl<|Ww<|W1 (lg hB (h.ob.mono λp hp=>by simp[hst p hp]) hd) ?_
  rintro w _ ⟨rfl,m2,rfl⟩
  refine Wv rfl<|Wn ?_
  cases hf:d.find n with
  | none=>
   refine Wq<|Wv rfl<|Wj (v:=.bool false) rfl rfl rfl<|Wn<|Wd rfl fS<|λ_=>Wi ?_
   refine Wo<|Wj rfl rfl (bM<|by omega)<|Wv rfl<|Wn ?_
   exact⟨d.fi.length-(q+1),by omega,rfl,q+1,m2++m',rfl,hlt,(List.append_assoc ..).symm,bq rfl⟩
  | some i=>
   obtain⟨Uw,ho⟩:∃h:i<d.ob.length,d.ob[i]?=some d.ob[i]:=by
    obtain⟨h1,_⟩:=List.findIdx?_eq_some_iff_getElem.1 hf
    exact⟨h1,List.getElem?_eq_getElem h1⟩
   have hmem:d.ob[i]∈d.ob:=List.getElem_mem _
   obtain⟨j,hj,A3⟩:=hcd.cd _ hmem
   generalize d.ob[i]=x at ho hmem hj
   have zC:C[j]?=some C[j]:=List.getElem?_eq_getElem A3
   have Ul:C[j]∈C:=List.getElem_mem _
   generalize C[j]=y at zC Ul
   obtain⟨bo,ro,no,co,ZE,WE,Mo,rfl,IM,hin,hrow⟩:=h.ob.at (i:=i)<|by simpa[fy]using Uw
   have n8:Mo[ro+i]?=some x.row:=by rw[hrow];simp only[fy,List.getElem?_map,ho];rfl
   refine Wq<|Wv rfl<|Wj (v:=.bool true) rfl rfl rfl<|Wn<|Wd rfl (λ_=>?_) Dz
   refine Wo<|Wv rfl<|Wf rfl<|Wl rfl (.app<|.app<|.there h4) rfl rfl rfl<|Wv rfl<|Wr (.iaddrS rfl rfl hin<|by decide)<|Wl rfl (.app<|.app<|.there<|.ce<|hst _ IM.mem) n8 rfl rfl<|Ww<|Wc (first:=[]) (vs:=[.agg x.row]) (cap:=[.ptr (some ⟨b3,0,0⟩),.ptr<|some ⟨b7,0,0⟩,.ptr<|some ⟨sf,0,0⟩]) rfl rfl (aea hC (eQ.mono λp hp=>by simp[hst p hp]) (.app<|.app<|.there h3) ⟨j,hj,zC⟩<|hcd.no y Ul) ?_
   rintro w _ ⟨m3,rfl⟩
   refine Wn ?_
   refine Wo<|Wj rfl rfl (bM<|by omega)<|Wv rfl<|Wn ?_
   exact⟨d.fi.length-(q+1),by omega,rfl,q+1,m3++(m2++m'),rfl,hlt,by simp only[List.append_assoc],bq rfl⟩
 ·refine Wx ?_
  obtain⟨mt,UD⟩:=hts
  refine Wq<|Wl rfl (.app .here) rfl rfl rfl<|Wf rfl<|Wl rfl (.app<|.there h7) rfl rfl rfl<|Ww<|WS.uL rfl .nil rfl .nil (by decide) ?_
  refine Ww<|Wt (s':=m'++((sf,.r false [[nilS]] 1)::_)) rfl rfl rfl (.app .here) rfl rfl<|Wn ?_
  refine Wq<|Wl rfl (.app .here) rfl rfl rfl<|Ww<|W1 (abS hC) ?_
  rintro v2 _ ⟨Gw,Gu,m2,rfl⟩
  refine Ww<|Wt (s':=m2++(m'++((sf,.r false [[v2]] 1)::_))) rfl rfl Gu (.app<|.app .here) rfl rfl<|Wn ?_
  refine Wq<|Wl rfl (.app<|.app .here) rfl rfl rfl<|Wl rfl (.app<|.app .here) rfl rfl rfl<|Wr (.mkfn rfl rfl)<|Ww<|W1 (ad1 hC Gw) ?_
  rintro w _ rfl
  refine Wn ?_
  refine Wq<|Wl rfl (.app<|.app .here) rfl rfl rfl<|Wv rfl<|Wn<|We<|Wm (.tmp rfl .nil) ⟨Gw,m2++(m'++((sf,.r false [[v2]] 1)::mt)),?_⟩
  rw[UD]
  simp
structure CH where
 p:Int
 t:Int
 k:Int
@[reducible] def CH.row (c:CH):List AV:=[iv c.p,iv c.t,iv c.k]
def FT (n:Int):Int:=match ilt n (.negSucc 998)with | true=>.negSucc 998 | false=>n
def oP (n:Int):Int:=match ilt 999 (FT n)with | true=>999 | false=>FT n
def CH.fin (c:CH):CH:=⟨oP c.p,oP c.t,c.k⟩
def uY (g:ED->CH->CH)(d:SD)(C:List CD)(id:Int):Option CH:=
 match d.onF C id with
 | none=>none
 | some (o,c)=>if c.kind=2 then some (⟨c.power,c.qn,c.keys⟩:CH).fin.fin else none
theorem bB.canon {f:FuncId}{args:List AV}{R:AV->SH->Prop}(h:bB P K f args s (λv s'=>∃s'',s'.Perm s''/\R v s'')):bB P K f args s R:=by
 intro H0 H hH
 obtain⟨v,s',H',h1,h2,s'',h3,h4⟩:=h H0 H hH
 exact⟨v,s'',H',h1,h2.perm h3,h4⟩
theorem WR.mmx {mx:Bool}{args:List Operand}{v r:AV}{vs:List AV}(ha:aI (opl l) args=some (v::vs))(hv:aw (mm mx) vs v=some r):WR P (.minmax mx args) l s r:=
 WR.mk' (λ_ _ _ _ _=>rfl) (λe H he=>by simp only[aval,lG he ha,hv])
theorem lM (hC:BaseC P K F T){n:Int}:bB P K (F 168) [iv n] s (λv s'=>v=iv (oP n)/\s'=s):=by
 refine hC.f168.dT ?_
 unfold SZ
 refine Wq<|Wv rfl<|Wn ?_
 exact Wq<|Wv rfl<|Wr (.mmx rfl rfl)<|Wr (.mmx rfl rfl)<|Wv rfl<|Wn<|We<|Wm (.tmp rfl .nil) ⟨rfl,rfl⟩
theorem ady (hC:BaseC P K F T)(hT:TyC P T){c:CH}{v:AV}(hl:lenOf v=some 0) :
  bB P K (F 122) [.agg c.row,v] s (λw s'=>w=.agg c.fin.fin.row/\∃m,s'=m++s):=by
 refine hC.f122.dT ?_
 unfold SQ
 refine Wq<|Wa (.box rfl rfl) λb2=>Wa (.alloc rfl) λb4=>Wn ?_
 refine Ws<|WP.bD<|Dp (.faddr rfl)<|Dl rfl .nil (.load rfl (.there .here) rfl rfl rfl)<|Dc .nil<|W1 (lM hC) ?_
 rintro w _ ⟨rfl,rfl⟩
 refine Dp (.faddr rfl)<|WD.lk rfl .nil (.load rfl (.there .here) rfl rfl rfl)<|Dc .nil<|W1 (lM hC) ?_
 rintro w _ ⟨rfl,rfl⟩
 refine Dp (.faddr rfl)<|Dc .nil<|Wt (s':=_::(b2,.r false [[iv (oP c.p),iv c.t,iv c.k]] 3)::_) rfl rfl rfl (.there .here) rfl rfl<|Dp (.faddr rfl)<|Dc .nil<|Wt (s':=_::(b2,.r false [c.fin.row] 3)::_) rfl rfl rfl (.there .here) rfl rfl<|D0 .nil ?_ ?_
 rotate_left
 ·intro o ho
  rw[List.mem_singleton.1 ho]
  refine⟨(λi hi=>nomatch hi),Nat.zero_le _,iq 5 _,λk _ hk=>?_⟩
  rcases cD hk with rfl|rfl
  ·exact⟨_,rfl,.load rfl (.there .here) rfl rfl rfl⟩
  ·exact⟨_,rfl,.load rfl (.there .here) rfl rfl rfl⟩
 refine WP.pre (.swap _ _ _)<|Ws<|Wq<|Wv rfl<|Wr (.lenS rfl hl)<|Wv rfl<|Wn<|Wb ?_
 refine WP.dA<|Wq<|Wj (v:=.bool false) rfl rfl rfl<|Wn<|Ws<|Wd rfl fS<|λ_=>Wx ?_
 refine Ws<|WP.bD<|Dp (.faddr rfl)<|Dl rfl .nil (.load rfl .here rfl rfl rfl)<|Dc .nil<|W1 (lM hC) ?_
 rintro w _ ⟨rfl,rfl⟩
 refine Dp (.faddr rfl)<|WD.lk rfl .nil (.load rfl .here rfl rfl rfl)<|Dc .nil<|W1 (lM hC) ?_
 rintro w _ ⟨rfl,rfl⟩
 refine Dp (.faddr rfl)<|Dc .nil<|Wt (s':=((b2,.r false [[iv (oP c.fin.p),iv c.fin.t,iv c.fin.k]] 3)::_)) rfl rfl rfl .here rfl rfl<|Dp (.faddr rfl)<|Dc .nil<|Wt (s':=((b2,.r false [c.fin.fin.row] 3)::_)) rfl rfl rfl .here rfl rfl<|D0 .nil ?_ ?_
 rotate_left
 ·intro o ho
  rw[List.mem_singleton.1 ho]
  refine⟨(λi hi=>nomatch hi),Nat.zero_le _,iq 5 _,λk _ hk=>?_⟩
  rcases cD hk with rfl|rfl
  ·exact⟨_,rfl,.load rfl .here rfl rfl rfl⟩
  ·exact⟨_,rfl,.load rfl .here rfl rfl rfl⟩
 refine Wq<|Wl rfl .here rfl rfl rfl<|Ww<|Wt (s':=((b2,_)::(b4,.r false [c.fin.fin.row] 3)::s)) rfl rfl rfl (.there .here) rfl rfl<|Wn<|We<|Wm (.cell rfl hT.t71.1 hT.t71.2 (.inl rfl) (.there .here) rfl rfl rfl .nil) ?_
 exact⟨rfl,[_,_],rfl⟩
theorem Qs (hB:Base P K F T)(hC:BaseC P K F T)(hT:TyC P T)(q9:Ty P (T 45) 14){g:ED->CH->CH}{cv pv ov lv hv gv ev fv sv wv:AV}{d:SD}{C:List CD}{id:Int}(eQ:cI s cv C)(h:mD s pv ov lv hv gv ev fv sv wv d)(hd:d.Small)(hcd:nF d C) :
  bB P K (F 77) [cv,.agg<|d.cells pv ov lv hv gv ev fv sv wv,iv id] s (λv s'=>v=(match uY g d C id with | some x=>.tuple [.agg x.row,.bool true] | none=>.tuple [.agg (⟨0,0,0⟩:CH).row,.bool false])/\∃m,s'=m++s):=by
 refine hC.f77.dT ?_
 unfold Z9
 refine Wq<|Wa (.box rfl rfl) λb4=>Wa (.alloc rfl) λb6=>Wv rfl<|Wn ?_
 refine Wq<|Wv rfl<|Wl rfl (.there .here) rfl rfl rfl<|Wv rfl<|Ww<|W1 (ta hB hC q9 hT.t99 (eQ.mono λp hp=>by simp[hp]) (h.mono λp hp=>by simp[hp]) hd hcd.cd) ?_
 rintro w _ ⟨hF,m1,rfl⟩
 rcases hF with⟨o,c,sj,hk,V4,IR,rfl⟩|⟨hno,o,c,rfl⟩
 ·refine Wv rfl (Wr (.extract rfl rfl)<|Wr (.extract rfl rfl)<|Wr (.extract rfl rfl)<|Wa (.alloc rfl) λb8=>Wa (.alloc rfl) λb9=>Ww<|Wt (s':=(b9,.r false [_] 11)::(b8,.r false [o.row] 14)::_) rfl rfl rfl (.there .here) rfl rfl<|Ww<|Wt (s':=(b9,.r false [c.row] 11)::_) rfl rfl rfl .here rfl rfl<|Wv rfl<|Wn ?_)
  refine Ws<|Wq<|Wv rfl<|Wr (.un (v:=.bool false) rfl rfl)<|Wn<|Wd rfl fS<|λ_=>Wi ?_
  refine Ws<|WP.bD<|Dp (.faddr rfl)<|WD.lk rfl .nil (.load rfl .here rfl rfl rfl)<|Dp (.faddr rfl)<|WD.lk rfl .nil (.load rfl .here rfl rfl rfl)<|Dp (.faddr rfl)<|WD.lk rfl .nil (.load rfl .here rfl rfl rfl)<|Dp (.build (cs:=(⟨c.power,c.qn,c.keys⟩:CH).row) rfl rfl)<|Dp (.mv rfl)<|Dl rfl .nil (.load rfl (.there<|.there<|.app<|.there .here) rfl rfl rfl)<|Dp (.mv rfl)<|Dc .nil<|W1 (abv hB hC hT q9 (eQ.mono λp hp=>by simp[hp]) (h.mono λp hp=>by simp[hp]) hd hcd sj hk) ?_
  rintro w _ ⟨hw,m2,rfl⟩
  refine Dc .nil<|W1 (ady hC hT hw) ?_
  rintro w2 _ ⟨rfl,m3,rfl⟩
  refine Dc .nil<|Wt (s':=m3++(m2++(_::_::(m1++((b6,.r false [(⟨c.power,c.qn,c.keys⟩:CH).fin.fin.row] 3)::_))))) rfl rfl rfl (.app<|.app<|.there<|.there<|.app .here) rfl rfl<|Dp (.mv rfl)<|D0 .nil ?_ ?_
  rotate_left
  ·intro x hx
   rcases List.mem_cons.1 hx with rfl|hx
   ·refine⟨(λi hi=>nomatch hi),Nat.zero_le _,iq 5 _,λk _ hk=>?_⟩
    rcases cD hk with rfl|rfl
    ·exact⟨_,rfl,.load rfl .here rfl rfl rfl⟩
    ·exact⟨_,rfl,.load rfl (.app .here) rfl rfl rfl⟩
   rcases List.mem_cons.1 hx with rfl|hx
   ·refine⟨(λi hi=>nomatch hi),Nat.zero_le _,iq 5 _,λk _ hk=>?_⟩
    rcases cD hk with rfl|rfl
    ·exact⟨_,rfl,.load rfl .here rfl rfl rfl⟩
    ·exact⟨_,rfl,.load rfl (.app .here) rfl rfl rfl⟩
   rw[List.mem_singleton.1 hx]
   refine⟨(λi hi=>nomatch hi),Nat.zero_le _,iq 5 _,λk _ hk=>?_⟩
   rcases cD hk with rfl|rfl
   ·exact⟨_,rfl,.load rfl .here rfl rfl rfl⟩
   ·exact⟨_,rfl,.load rfl (.app .here) rfl rfl rfl⟩
  refine We<|Wm (.cell rfl hT.t71.1 hT.t71.2 (.inl rfl) (.app<|.app<|.there<|.there<|.app .here) rfl rfl rfl<|.tmp rfl .nil) ⟨by unfold uY;rw[sj];simp only[if_pos hk],_,pull<|pull<|fN<|fN<|pull eW⟩
 ·refine Wv rfl (Wr (.extract rfl rfl)<|Wr (.extract rfl rfl)<|Wr (.extract rfl rfl)<|Wa (.alloc rfl) λb8=>Wa (.alloc rfl) λb9=>Ww<|Wt (s':=(b9,.r false [_] 11)::(b8,.r false [o.row] 14)::_) rfl rfl rfl (.there .here) rfl rfl<|Ww<|Wt (s':=(b9,.r false [c.row] 11)::_) rfl rfl rfl .here rfl rfl<|Wv rfl<|Wn ?_)
  refine Ws<|Wq<|Wv rfl<|Wr (.un (v:=.bool true) rfl rfl)<|Wn<|Wd rfl (λ_=>?_) Dz
  refine Wq<|Wr (.build rfl rfl)<|Ww<|Wt (s':=_::_::(m1++((b6,.r false [[iv 0,iv 0,iv 0]] 3)::_))) rfl rfl rfl (.there<|.there<|.app .here) rfl rfl<|Wv rfl<|Wn<|We<|Wm (.cell rfl hT.t71.1 hT.t71.2 (.inl rfl) (.there<|.there<|.app .here) rfl rfl rfl<|.tmp rfl .nil) ⟨by unfold uY;cases ho:d.onF C id with | none=>rfl | some p=>obtain⟨o,c⟩:=p;simp only[if_neg (hno o c ho)],_,fN<|fN<|pull eW⟩
structure nG (P:Program)(K:Orc)(F:Nat->FuncId)(g:ED->CH->CH)(d:SD)(C:List CD):Prop where
 ok:nF d C
theorem cI.part {s:SH}{cv:AV}{C:List CD}(h:cI s cv C):dz cv cv=true:=h.src.same
theorem pE (hB:Base P K F T)(hC:BaseC P K F T)(hT:TyC P T){g:ED->CH->CH}{C:List CD}{id:Int}(hs:aH bl EL d t s)(hd:d.Small)(hf:Has bf (.r false [bu bl aZ c0 c1 c2 c3 c4 bE] 8) t)(eQ:cI t aZ C)(hO:nG P K F g d C) :
  bB P K (F 30) [.ptr (some ⟨bf,0,0⟩),iv id] s (λv s'=>v=(match uY g d C id with | some x=>.tuple [.agg x.row,.bool true] | none=>.tuple [.agg (⟨0,0,0⟩:CH).row,.bool false])/\aH bl EL d t s'):=by
 refine hC.f30.dT ?_
 unfold ZU
 refine Wq<|Wa (.alloc rfl) λb4=>Wv rfl<|Wn ?_
 refine Ws<|Wq<|Wv rfl<|Wh (b:=false) rfl rfl rfl<|Wn<|Wd rfl (λh=>by cases h)<|λ_=>Wi ?_
 refine Ws<|WP.bD<|Dp (.mv rfl)<|Dp (.nilchk rfl rfl)<|Dp (.faddr rfl)<|WD.lk rfl .nil (.load rfl (.there<|hs.mem hf) rfl rfl rfl)<|Dp (.mv rfl)<|Dc .nil<|WS.perm<|W1 (cz hB hs.cons hd<|.there hf) ?_
 rintro w s2 ⟨dt,pv,ov,lv,hv,gv,ev,fv,sv,wv,rfl,hR⟩
 obtain⟨s3,hp,gw⟩:=dt.first
 have Yk:cI s3 aZ C:=eQ.mono λp hp=>(gw.mem<|.ce hp).mem
 refine⟨_,hp,Dp (.mv rfl)<|Dc .nil<|W1 (Qs hB hC hT hB.t45 (Yk.mono λp hp=>by simp[hp]) (hR.mono λp h=>hp.mem_iff.1 h) hd hO.ok (g:=g)) ?_⟩
 rintro w _ ⟨hw,m,rfl⟩
 have Y8:∃(x:CH)(b:Bool),w=.tuple [.agg x.row,.bool b]:=by
  rw[hw]
  split
  ·exact⟨_,_,rfl⟩
  ·exact⟨⟨0,0,0⟩,_,rfl⟩
 obtain⟨x,b,rfl⟩:=Y8
 refine Dp (.extract rfl rfl)<|Dp (.extract rfl rfl)<|Dc .nil<|Wt (s':=m++((b4,.r false [x.row] 3)::_)) rfl rfl rfl (.app .here) rfl rfl<|Dp (.mv rfl)<|D0 .nil ?_ ?_
 rotate_left
 ·intro o ho
  rw[List.mem_singleton.1 ho]
  refine⟨(λi hi=>nomatch hi),Nat.zero_le _,eQ.part,λk _ hk=>?_⟩
  rcases cD hk with rfl|rfl
  ·exact⟨_,rfl,.load rfl (.there<|hs.mem hf) rfl rfl rfl⟩
  ·exact⟨_,rfl,.load rfl (.there<|gw.mem hf) rfl rfl rfl⟩
 exact We<|Wm (.cell rfl hT.t71.1 hT.t71.2 (.inl rfl) (.app .here) rfl rfl rfl<|.tmp rfl .nil) ⟨hw,(aH.bK (m:=m)<|aH.bK (m:=[_]) gw)⟩
theorem Gf (hB:Base P K F T)(hC:BaseC P K F T){q:Int}(hs:aH bl EL d t s)(hd:d.Small)(hf:Has bf (.r false [bu bl aZ c0 c1 c2 c3 c4 bE] 8) t) :
  bB P K (F 36) [.ptr (some ⟨bf,0,0⟩),iv 2,iv q] s (λv s'=>∃m,aH bl EL d (m++t) s'/\Src m 1 v (nR d.fi)):=by
 have hn:=hd.n1
 refine hC.f36.dT ?_
 unfold ZV
 refine Wq<|Wv rfl<|Wn ?_
 refine Wq<|Wv rfl<|Ww<|W1 (cz hB hs hd hf) ?_
 rintro w s2 ⟨dt,pv,ov,lv,hv,gv,ev,fv,sv,wv,rfl,hR⟩
 have h90:bB P K (F 90) [.agg (d.cells pv ov lv hv gv ev fv sv wv),iv 2,iv q] s2 (λv s'=>∃m,s'=m++s2/\Src m 1 v (nR d.fi)):=by
  refine hC.f90.dT ?_
  unfold a90
  refine Wq<|Wa (.box rfl rfl) λb3=>Wv rfl<|Wn ?_
  refine Wq<|Wl rfl .here rfl rfl rfl<|Wr (.build (cs:=d.cells pv ov lv hv gv ev fv sv wv) rfl rfl)<|Wa (.box rfl rfl) λb7=>Wv rfl<|Wn ?_
  have XH:bB P K (F 136) [.ptr (some ⟨b7,0,0⟩),iv 2,iv q] ((b7,.r false [d.cells pv ov lv hv gv ev fv sv wv] 25)::(b3,.r false [d.cells pv ov lv hv gv ev fv sv wv] 25)::s2) (λv s'=>v=.ptr (some ⟨b7,0,6⟩)/\s'=(b7,.r false [d.cells pv ov lv hv gv ev fv sv wv] 25)::(b3,.r false [d.cells pv ov lv hv gv ev fv sv wv] 25)::s2):=by
   refine hB.f136.dT ?_
   unfold Lf
   refine Wq<|Wv rfl<|Wn ?_
   refine Ws<|Wq<|Wv rfl<|Wh (b:=true) rfl rfl rfl<|Wn<|Wd rfl (λ_=>?_)<|λh=>by cases h
   exact Wq<|Wv rfl<|Wr (.nilchk rfl rfl)<|Wf rfl<|Wf rfl<|Wv rfl<|Wn<|We<|Wm (.tmp rfl .nil) ⟨rfl,rfl⟩
  refine Ws<|Wq<|Wv rfl<|Wv rfl<|Wv rfl<|Ww<|W1 XH ?_
  rintro w _ ⟨rfl,rfl⟩
  refine Wv rfl<|Wn ?_
  refine Wq<|Wv rfl<|Wh (b:=false) rfl rfl rfl<|Wn<|Wd rfl (λ_=>?_)<|λh=>by cases h
  refine Wq<|Wv rfl<|Wr (.nilchk rfl rfl)<|Wl rfl .here rfl rfl rfl<|Ww<|W1 (hB.VS.clone (hR.fi.mono λp hp=>by simp[hp]) (by omega) (by rw[gq];omega)<|by omega) ?_
  rintro w _ ⟨m,rfl,hO⟩
  refine Wv rfl<|Wn<|We<|Wm (.tmp rfl .nil) ⟨_,pull eW,hO.src.mono λp hp=>by simp[hp]⟩
 refine Wv rfl<|Wv rfl<|Ww<|W1 h90 ?_
 rintro w _ ⟨m,rfl,hS⟩
 exact Wv rfl<|Wn<|We<|Wm (.tmp rfl .nil) ⟨m,dt.HW,hS⟩
def SD.obj (d:SD)(id:Int):Option OD:=
 match d.find id with
 | none=>none
 | some i=>d.ob[i]?
theorem Qq (hB:Base P K F T)(hC:BaseC P K F T){id:Int}(hs:aH bl EL d t s)(hd:d.Small)(hf:Has bf (.r false [bu bl aZ c0 c1 c2 c3 c4 bE] 8) t) :
  bB P K (F 37) [.ptr (some ⟨bf,0,0⟩),iv id] s (λv s'=>v=(match d.obj id with | some o=>.tuple [.agg o.row,.bool true] | none=>.tuple [.agg dB,.bool false])/\aH bl EL d t s'):=by
 refine hC.f37.dT ?_
 unfold ZW
 refine Wq<|Wa (.alloc rfl) λb4=>Wv rfl<|Wn ?_
 refine Wq<|Wv rfl<|Ww<|W1 (cz hB hs.cons hd<|.there hf) ?_
 rintro w s2 ⟨dt,pv,ov,lv,hv,gv,ev,fv,sv,wv,rfl,hR⟩
 obtain⟨s3,hp,gw⟩:=dt.first
 have VY:=hR.mono λp h=>hp.mem_iff.1 h
 refine WO.pre hp<|Wa (.alloc rfl) λb6=>Ww<|Wt (s':=(b6,.r false [d.cells pv ov lv hv gv ev fv sv wv] 25)::_) rfl rfl rfl .here rfl rfl<|Wn ?_
 refine Wq<|Wl rfl .here rfl rfl rfl<|Wv rfl<|Ww<|W1 (lg hB (VY.ob.mono λp hp=>by simp at hp |-;exact .inr hp) hd) ?_
 rintro w _ ⟨rfl,m,rfl⟩
 refine Wv rfl<|Wn ?_
 unfold SD.obj
 cases hi:d.find id with
 | none=>
  refine Ws<|Wq<|Wv rfl<|Wj (v:=.bool true) rfl rfl rfl<|Wn<|Wd rfl (λ_=>?_) Dz
  refine Wq<|Wr (.build (cs:=dB) rfl rfl)<|Ww<|Wt (s':=m++(_::(b4,.r false [dB] 14)::_)) rfl rfl rfl (.app<|.there .here) rfl rfl<|Wv rfl<|Wn<|We<|Wm (.cell rfl hB.t45.1 hB.t45.2 (.inl rfl) (.app<|.there .here) rfl rfl rfl<|.tmp rfl .nil) ⟨rfl,aH.bK (m:=m)<|aH.bK (m:=[_,_]) gw⟩
 | some i=>
  obtain⟨Uw,ho⟩:∃h:i<d.ob.length,d.ob[i]?=some d.ob[i]:=by
   obtain⟨h1,_⟩:=List.findIdx?_eq_some_iff_getElem.1 hi
   exact⟨h1,List.getElem?_eq_getElem h1⟩
  generalize d.ob[i]=o at ho
  simp only[ho]
  obtain⟨bo,ro,no,co,ZE,WE,Mo,rfl,IM,hin,hrow⟩:=VY.ob.at (i:=i)<|by simpa[fy]using Uw
  have n8:Mo[ro+i]?=some o.row:=by rw[hrow];simp only[fy,List.getElem?_map,ho];rfl
  refine Ws<|Wq<|Wv rfl<|Wj (v:=.bool false) rfl rfl rfl<|Wn<|Wd rfl fS<|λ_=>Wi ?_
  refine Wq<|Wf rfl<|Wl rfl (.app .here) rfl rfl rfl<|Wv rfl<|Wr (.iaddrS rfl rfl hin<|by decide)<|Wl rfl (.app<|.there IM) n8 rfl rfl<|Ww<|Wt (s':=m++(_::(b4,.r false [o.row] 14)::_)) rfl rfl rfl (.app<|.there .here) rfl rfl<|Wv rfl<|Wn<|We<|Wm (.cell rfl hB.t45.1 hB.t45.2 (.inl rfl) (.app<|.there .here) rfl rfl rfl<|.tmp rfl .nil) ⟨rfl,aH.bK (m:=m)<|aH.bK (m:=[_,_]) gw⟩
theorem Ar (hB:Base P K F T)(hC:BaseC P K F T)(hT:TyC P T){p:Nat}{o:LD}(hs:aH bl EL d t s)(hd:d.Small)(hf:Has bf (.r false [bu bl aZ c0 c1 c2 c3 c4 bE] 8) t)(ho:d.pl[p]?=some o) :
  bB P K (F 43) [.ptr (some ⟨bf,0,0⟩),iv<|.ofNat p] s (λv s'=>v=.agg o.row/\aH bl EL d t s'):=by
 obtain⟨uA,_⟩:=List.getElem?_eq_some_iff.1 ho
 refine hC.f43.dT ?_
 unfold ZX
 refine Wq<|Wa (.alloc rfl) λb4=>Wn ?_
 refine Wq<|Wv rfl<|Ww<|W1 (cz hB hs.cons hd<|.there hf) ?_
 rintro w s2 ⟨dt,pv,ov,lv,hv,gv,ev,fv,sv,wv,rfl,hR⟩
 obtain⟨s3,hp,gw⟩:=dt.first
 have VY:=hR.mono λp h=>hp.mem_iff.1 h
 refine WO.pre hp<|Wa (.alloc rfl) λb6=>Ww<|Wt (s':=(b6,.r false [d.cells pv ov lv hv gv ev fv sv wv] 25)::_) rfl rfl rfl .here rfl rfl<|Wn ?_
 have hlen:lenOf pv=some d.pl.length:=by rw[hR.pl.lenOf];simp[Am]
 refine Ws<|Wq<|Wv rfl<|Wj (v:=.bool false) rfl rfl rfl<|Wv rfl<|Wy<|Wv rfl<|Wy<|Wf rfl<|Wy<|Wl rfl .here rfl rfl rfl<|Wy<|Wr (.lenS rfl hlen)<|Wy<|Wj rfl rfl (Cm uA)<|Wr (.bj rfl rfl)<|Wn<|Wd rfl fS<|λ_=>Wi ?_
 obtain⟨bo,ro,no,co,ZE,WE,Mo,rfl,IM,hin,hrow⟩:=VY.pl.at (i:=p)<|by simpa[Am]using uA
 have n8:Mo[ro+p]?=some o.row:=by rw[hrow];simp only[Am,List.getElem?_map,ho];rfl
 refine Wq<|Wf rfl<|Wl rfl .here rfl rfl rfl<|Wv rfl<|Wr (.iaddrS rfl rfl hin<|by decide)<|Wl rfl (.there IM) n8 rfl rfl<|Ww<|Wt (s':=_::(b4,.r false [o.row] 8)::_) rfl rfl rfl (.there .here) rfl rfl<|Wn<|We<|Wm (.cell rfl hT.t107.1 hT.t107.2 (.inl rfl) (.there .here) rfl rfl rfl .nil) ⟨rfl,aH.bK (m:=[_,_]) gw⟩

end
end Go.Ev
