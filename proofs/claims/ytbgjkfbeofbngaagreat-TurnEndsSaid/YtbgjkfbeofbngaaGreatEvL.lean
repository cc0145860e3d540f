/- Walks and rules. Conditions: none. -/
import Derived.Test.YtbgjkfbeofbngaaGreatEvK
import Derived.Test.YtbgjkfbeofbngaaGreatEvJ
set_option linter.unusedVariables false
set_option linter.unusedSectionVars false
namespace Go.Ev
noncomputable section
section
variable {P:Program}{K:Orc}{rd:Option Nat}{nt:Nat}{l:Sl}{ds:List aD}{s:SH}{Q Qn Qr:Po}{Qe:Nat->Po}{F:Nat->FuncId}{T:Nat->TypeId}
def Zz:LD:=⟨20,0,0,0,0,false,false,false⟩
def d5:SD:=⟨[Zz,Zz,Zz],[],[[],[],[]],[[],[],[]],[[],[],[]],[[],[],[]],[],[],[],1,0,0,0,0,0,1,1,0,0,0,0,false,0,0⟩
variable {bf:Nat}{bl:Nat}{aZ:AV}{bE:AV}{c0:Int}{c1:Int}{c2:Int}{c3:Int}{c4:Int}{EL:List (List AV)}{d:SD}{t:SH}
def WOa (P:Program)(K:Orc)(ol:List bS)(e:Tr AV)(ds:List aD)(H H0:Heap)(Q:Po):Prop:=
 ∀(nt:Nat)(ops:Array Oper)(l0:List Oper),aI (co P nt ops.toList) l0=some ol->∃e' ds' H' l' s',fj P K nt ops l0 e ds H (.mk .normal e' ds' H')/\En l' e'/\Hp H0 s' H'/\Q l' ds' s'
variable {e:Tr AV}{H H0:Heap}
theorem WOa.cons {d:Option Nat}{op:AOp}{rest:List bS}{v:AV}{ds1:List aD}{H1:Heap}(k1:qu P K e op ds H (.mk v ds1 H1))(k3:WOa P K rest (putO e d v) ds1 H1 H0 Q):WOa P K (⟨d,op,none⟩::rest) e ds H H0 Q:=by
 intro nt ops l0 hl
 cases l0 with
 | nil=>cases hl
 | cons a l0=>
  obtain⟨b,bs,h1,h2,h3⟩:=(aV _ a l0 _).1 hl
  cases h3
  have hc:cOper P nt a=⟨d,op,none⟩:=by
   unfold co at h1
   generalize cOper P nt a=z at h1 |-
   obtain⟨d',op',g'⟩:=z
   cases g' with
   | none=>cases h1;rfl
   | some jw=>
    unfold cg at h1
    grind
  obtain⟨e',ds',H',l',s',j1,j2,j3,j4⟩:=k3 nt ops l0 h2
  exact⟨_,_,_,_,_,fj.cons hc rfl k1 j1,j2,j3,j4⟩
variable {ol:List bS}
theorem WOa.of (h:WO P K ol l ds s Q)(he:En l e)(hH:Hp H0 s H):WOa P K ol e ds H H0 Q:=λnt ops l0 hl=>h nt ops l0 hl H0 e H he hH
theorem WOa.seq {b:AC}(h:WOa P K ol e ds H H0 (λl ds s=>WP P K none nt b l ds s Qn Qe Qr)){c0:Code}(hc:cc P nt c0=.seq (.ops ol) b) :
  ∃x e' ds' H' l' s',bt P K none nt c0 e ds H (.mk x e' ds' H')/\En l' e'/\Hp H0 s' H'/\(match x with | .normal=>Qn l' ds' s' | .exit i=>Qe i l' ds' s' | .ret=>Qr l' ds' s'):=by
 cases c0 with
 | seq a0 b0=>
  simp only[cc,AC.seq.injEq]at hc
  obtain⟨ha,hb⟩:=hc
  cases a0 with
  | region i ops d=>
   cases d with
   | true=>
    exfalso
    have hc:cdr P nt ops=.ops ol:=ha
    unfold cdr at hc
    grind
   | false=>
    have hc:(match aI (co P nt ops.toList) ops.toList with | some l=>AC.ops l | none=>.bad)=.ops ol:=ha
    split at hc
    ·rename_i l' hl'
     cases hc
     obtain⟨e1,ds1,H1,l1,s1,h1,h2,h3,h4⟩:=h nt ops ops.toList hl'
     obtain⟨x,e2,ds2,H2,l2,s2,k1,k2,k3,k4⟩:=h4 b0 hb H0 e1 H1 h2 h3
     exact⟨x,e2,ds2,H2,l2,s2,bt.seq (bt.region h1) k1,k2,k3,k4⟩
    ·cases hc
  | _=>simp[cc]at ha
 | region i ops d=>exact(db hc).elim
 | _=>simp[cc]at hc
@[reducible] def n3:List (List AV):=[[nilS],[nilS],[nilS]]
def Ah:V:={ vU with t:=13,a:=1 }
theorem fr_nil {h:FH}(q:xe h.fr ds none)(k:(match h.fr.ds with | []=>true | _=>false)=true):ds=[]:=by
 obtain⟨f1,_,_⟩:=q
 grind
end
section
variable [Sg]{P:Program}{K:Orc}{F:Nat->FuncId}{T:Nat->TypeId}
end
theorem works_kc {P:Program}(hm:P.follows .mixedOrders=true){n:Nat}{f:FuncId}(h:fastTrue P noneKnown n f=true):gW P f [] vu (.bool true) vu:=by
 letI:Sg:=sg0
 obtain⟨O,hO,hF⟩:=lB P
 obtain⟨m,b,v,h',H',h1,h2,_,_,h5⟩:=(kX P (hF _) n).call .nil Cd h
 have:=h2.U8<|ag h5
 subst this
 exact(gW.KV hm hO h1).eC ⟨rfl,Nat.zero_le _,λb o hb=>by rw[np]at hb;cases hb⟩ (Nat.le_refl _) trivial
theorem Opq.U6 {k:IntKind}{n:Int}:Opq (.int k n):=⟨rfl,λb h=>(by cases h),λm=>by
 have:ieq n n=true:=gd.2 rfl
 cases k<;>simp[sameN,same0,keq,this]⟩
variable {lv:AV}
theorem tN [Sg](h:Sg.val 1=lv)(ho:Opq lv):VA Ah lv:=by
 subst h
 exact VA.DM (v:=Ah) rfl ho.one ho.nb ho.same
def ruleG (w c:FuncId):iB:=λf args h=>match Nat.beq f w with
 | true=>(match args with | []=>some (some (vT,h)) | _::_=>some none)
 | false=>(match Nat.beq f c with | true=>some none | false=>none)
theorem ruleG_ok [Sg]{w c:FuncId}{K:Orc}(hw:∀H,K w [] H=some (.bool true,H))(hK:∀f args H,f≠w->f≠c->K f args H=none):Bh (ruleG w c) K where
 res:=by
  intro f args xs0 h H v h' ha hH hf
  unfold ruleG at hf
  cases hb:Nat.beq f w with
  | true=>
   rw[hb]at hf
   have:=Nat.eq_of_beq_eq_true hb
   subst this
   cases ha with
   | nil=>cases hf;exact⟨_,_,hw H,VA.bool true,hH,rfl⟩
   | cons _ _=>cases hf
  | false=>
   rw[hb]at hf
   dsimp only at hf
   split at hf<;>cases hf
 non:=by
  intro f args xs0 h H ha hH hf
  unfold ruleG at hf
  cases hb:Nat.beq f w with
  | true=>
   rw[hb]at hf
   cases ha with
   | nil=>cases hf
   | cons _ _=>cases hf
  | false=>
   rw[hb]at hf
   dsimp only at hf
   split at hf
   ·cases hf
   ·rename_i hc
    exact hK f xs0 H (λe=>by rw[e]at hb;simp at hb) (λe=>by rw[e]at hc;simp at hc)
section
variable {P:Program}{K:Orc}{F:Nat->FuncId}{T:Nat->TypeId}{f:FuncId}{fn:Func}{c:Code}{tc:Func}{Ib:Code}{R:iB}{n:Nat}
open Go.Proofs
set_option maxRecDepth 100000
def ae1:CF:=NF (cd 322 15) _
def aiv:CF:=NF (cd 327 7) _
structure BaseL (P:Program)(K:Orc)(F:Nat->FuncId)(T:Nat->TypeId):Prop where
 f264:FnK P K (F 264) 15 [] (ae1 F T)
 f269:FnK P K (F 269) 7 [] (aiv F T)
variable {rd:Option Nat}{nt:Nat}{l:Sl}{ds:List aD}{s:SH}{Q:Po}{Qn:Po}{Qr:Po}{Qe:Nat->Po}
variable {sz p:Nat}{v:AV}{L:List (List AV)}
theorem Gr.put {o:SH}(h:Gr sz v L o)(hp:p<L.length):∃b c M,v=.slice (some ⟨b,0,0⟩) L.length c true sz/\o=[(b,.r false (L++M) sz)]/\∀row',Gr sz (.slice (some ⟨b,0,0⟩) L.length c true sz) (L.set p row') [(b,.r false ((L++M).set p row') sz)]:=by
 cases h with
 | nil=>exact absurd hp<|Nat.not_lt_zero _
 | zero=>exact absurd hp<|Nat.not_lt_zero _
 | @rows b n c L M hn hc hL=>
  subst hn
  refine⟨b,c,M,rfl,rfl,λrow'=>?_⟩
  rw[List.set_append_left _ _ hp]
  exact .rows (by simp) (by simp[hc]) hL
theorem iJ.afY {n:SH}{pv ov lv hv gv ev fv sv wv:AV}{d:SD}(h:iJ n pv ov lv hv gv ev fv sv wv d):∃o r,n.Perm (o++r)/\Gr 8 pv (Am d.pl) o/\∀pv' l' o',Gr 8 pv' (Am l') o'->iJ (o'++r) pv' ov lv hv gv ev fv sv wv { d with pl:=l' }:=by
 obtain⟨o1,o2,o3,o4,o5,o6,o7,o8,o9,j,hp,g1,g2,g3,g4,g5,g6,g7,g8,g9⟩:=h.ex
 exact⟨o1,o2++(o3++(o4++(o5++(o6++(o7++(o8++(o9++j))))))),hp,g1,λv' l' o' g'=>⟨o',o2,o3,o4,o5,o6,o7,o8,o9,j,.refl _,g',g2,g3,g4,g5,g6,g7,g8,g9⟩⟩
theorem afi (hL:BaseL P K F T){b r:Nat}{row row' ec:List AV}{s':SH}(hb:oY b (.r false L 8) (.r false (L.set r row') 8) s s')(hr:L[r]?=some row)(hc:fK row 6 [.bool true]=some row')(he:ec.length=13)(hec:partCells 13 (.agg ec)=some ec) :
  bB P K (F 269) [.ptr (some ⟨b,r,0⟩),.agg ec] s (λ_ s2=>∃m,s2=m++s'):=by
 refine hL.f269.cF ?_
 refine Vk (k:=Wa (.box rfl hec) λb3=>Wn ?_)
 exact Wo<|Wv rfl<|Wr (.nilchk rfl rfl)<|Wf rfl<|Ww<|Wt rfl rfl rfl (.there hb) hr hc<|Wn<|Wm .nil ⟨[_],rfl⟩
variable {o:LD}{b k m:Int}{bw bd bx:Nat}{it:ID}
theorem adu (hL:BaseL P K F T){d:SD}{t:SH}(hs:WH bw d t s)(hbd:Has bd (.r false [[.func (F 269) [] []]] 1) t)(PA:Has bx (.r false [[.ptr (some ⟨bw,0,0⟩)]] 1) t)(ho:d.pl[p]?=some o){n:Int} :
  c6 P K (.func (F 264) [] [.ptr (some ⟨bd,0,0⟩),.ptr<|some ⟨bx,0,0⟩]) [.agg (evRow k (.ofNat p) b n m it)] s (λ_ s'=>WH bw { d with pl:=d.pl.set p { o with f2:=true } } t s'):=by
 have hp:p<d.pl.length:=(List.getElem?_eq_some_iff.1 ho).1
 obtain⟨pv,ov,lv,hv,gv,ev,fv,sv,wv,nn,k1,k2⟩:=hs
 obtain⟨op,r,kp,g,back⟩:=k2.afY
 obtain⟨bp,c,M,rfl,rfl,put⟩:=g.put (p:=p)<|by simpa[Am]using hp
 have hlen:(Am d.pl).length=d.pl.length:=by simp[Am]
 have hrow:(Am d.pl++M)[p]?=some o.row:=by
  rw[List.getElem?_append_left (by omega),Am,List.getElem?_map,ho];rfl
 refine c6.func<|bB.perm (s:=(bp,.r false (Am d.pl++M) 8)::(bw,.r false [d.cells (.slice (some ⟨bp,0,0⟩) (Am d.pl).length c true 8) ov lv hv gv ev fv sv wv] 25)::(r++t)) (ak λc w h0 h1 h2 hq=>by rw[hq _ _ k1];simp only[h1,h2,h0,hq _ _ kp];omega) ?_
 refine hL.f264.cF ?_
 refine Wq<|Wa (.box rfl rfl) λb3=>Wn<|WP.bD<|Dl rfl .nil (.load rfl (.there<|.there<|.there<|.app hbd) rfl rfl rfl)<|Dl rfl .nil (.load rfl (.there<|.there<|.there<|.app PA) rfl rfl rfl)<|Dp (.nilchk rfl rfl)<|Dp (.faddr rfl)<|Dp (.faddr rfl)<|Dl rfl .nil (.load rfl (.there<|.there .here) rfl rfl rfl)<|Dp (.faddr rfl)<|Dl rfl .nil (.load rfl .here rfl rfl rfl)<|Dp (.iaddrS rfl rfl (by omega)<|by decide)<|Dl rfl .nil (.load rfl .here rfl rfl rfl)<|Dc .nil<|Wz [.ptr (some ⟨bp,0+p,0⟩),.agg<|evRow k (.ofNat p) b n m it] rfl rfl (afi hL (.there .here) (by rw[Nat.zero_add];exact hrow) rfl rfl rfl) ?_
 rintro w _ ⟨mm,rfl⟩
 refine D0 .nil (Wm .nil ?_)<|λo h=>nomatch h
 have g':=back _ (d.pl.set p { o with f2:=true }) [(bp,.r false ((Am d.pl++M).set p ({ o with f2:=true }:LD).row) 8)] (by
  have:=put ({ o with f2:=true }:LD).row
  rw[show Am (d.pl.set p { o with f2:=true })=(Am d.pl).set p ({ o with f2:=true }:LD).row from by simp[Am,List.map_set]]
  exact this)
 refine⟨_,ov,lv,hv,gv,ev,fv,sv,wv,mm++[(b3,.r false [evRow k (.ofNat p) b n m it] 13)]++((bp,.r false ((Am d.pl++M).set p ({ o with f2:=true }:LD).row) 8)::r),?_,g'.bK⟩
 rw[Nat.zero_add]
 show List.Perm (mm++((b3,HO.r false [evRow k (.ofNat p) b n m it] 13)::(bp,HO.r false ((Am d.pl++M).set p ({ o with f2:=true }:LD).row) 8)::(bw,HO.r false [({ d with pl:=d.pl.set p { o with f2:=true } }:SD).cells (.slice (some ⟨bp,0,0⟩) (Am d.pl).length c true 8) ov lv hv gv ev fv sv wv] 25)::(r++t))) _
 exact uS
theorem adm (hB:Base P K F T)(hL:BaseL P K F T){n:Int}{d:SD}(hd:d.Small)(he:d.kQ)(ho:d.pl[p]?=some o)(lm:∀s,bB P K (F 201) [.agg (evRow 23 (.ofNat p) b n m it)] s (λv s'=>v=iv 0/\s'=s)) :
  Ap P K F 23 (.ofNat p) b n m it d { d with pl:=d.pl.set p { o with f2:=true } }:=
 yH (k:=23) hB hd lm (R2 hB<|by simp) (λ{_ _ _ _ v} hv hW=>by
  obtain⟨bd,bx,rfl,_⟩:=(show iP F _ _ v true false false 264 269 from hv)
  exact aaj hB hW hd he (k:=23) (by omega) (by omega) (by omega) (by omega) (List.getElem?_eq_some_iff.1 ho).1) (λ{_ _ _ _ _ _ _} hv hW=>by
  obtain⟨bd,bx,hv,h1,h2⟩:=(show iP F _ _ _ true false false 264 269 from hv)
  cases hv
  exact adu hL hW h1 h2 ho)
def adX (t:SH):Po:=λl ds s=>ds=[]/\lk l 6=some (.bool true)/\∀b o,Has b o t->Has b o s
theorem ahR {a:Nat}(h:a<=255):binV .quo (.int .u8 (.ofNat a)) (.int .u8 (.ofNat 3))=some (.int .u8 (.ofNat (a/3))):=by
 show force (Nat.mod (Nat.div a 3) 256) (λm=>some<|AV.int .u8<|.ofNat m)=_
 rw[aL,show Nat.mod (Nat.div a 3) 256=a/3 from Nat.mod_eq_of_lt<|show a/3<256 by omega]
variable {bf:Nat}{bl:Nat}{aZ:AV}{bE:AV}{c0:Int}{c1:Int}{c2:Int}{c3:Int}{c4:Int}{EL:List (List AV)}{d:SD}{t:SH}
open Go.Proofs
set_option maxRecDepth 100000
def a38:CF:=NF (cd 106 18) _
def a92:CF:=NF (cd 175 21) _
def a93:CF:=NF (cd 176 5) _
def a94:CF:=NF (cd 177 6) _
def a95:CF:=NF (cd 178 6) _
def akR:CF:=NF (cd 233 72) _
def akS:CF:=NF (cd 234 30) _
def akT:CF:=NF (cd 235 40) _
def akU:CF:=NF (cd 236 35) _
def akV:CF:=NF (cd 237 73) _
def akW:CF:=NF (cd 238 30) _
def akX:CF:=NF (cd 239 24) _
structure BaseU (P:Program)(K:Orc)(F:Nat->FuncId)(T:Nat->TypeId):Prop where
variable {z:Int}{lst:List Int}
theorem afv (hB:Base P K F T)(hC:BaseC P K F T){put:List Int->SD}(hs:aH bl EL d t s)(hd:d.Small)(he:d.kQ)(hf:Has bf (.r false [bu bl aZ c0 c1 c2 c3 c4 bE] 8) t)(hp:p<d.pl.length)(hz:d.ci z p=some (lst,put))(hn:lst.length<=1000) :
  bB P K (F 36) [.ptr (some ⟨bf,0,0⟩),iv z,iv<|.ofNat p] s (λv s'=>∃m,aH bl EL d (m++t) s'/\Src m 1 v (nR lst)):=by
 refine hC.f36.cF ?_
 refine Vk (k:=Ww<|W1 (D1 hB hs hd hf) ?_)
 rintro w s2 ⟨m,dt,pv,ov,lv,hv,gv,ev,fv,sv,wv,rfl,hR⟩
 obtain⟨u,hu,back⟩:=dt.split
 have h90:bB P K (F 90) [.agg (d.cells pv ov lv hv gv ev fv sv wv),iv z,iv<|.ofNat p] s2 (λv s'=>∃m,aH bl EL d (m++t) s'/\Src m 1 v (nR lst)):=by
  refine hC.f90.cF ?_
  refine Vk (k:=λb3=>Vk (k:=Wr (.build (cs:=d.cells pv ov lv hv gv ev fv sv wv) rfl rfl)<|Wa (.box rfl rfl) λb7=>Vk (k:=?_)))
  have hW:WH b7 d ((b3,.r false [d.cells pv ov lv hv gv ev fv sv wv] 25)::(u++t)) ((b7,.r false [d.cells pv ov lv hv gv ev fv sv wv] 25)::(b3,.r false [d.cells pv ov lv hv gv ev fv sv wv] 25)::s2):=
   ⟨pv,ov,lv,hv,gv,ev,fv,sv,wv,m,ak λc w h0 h1 h2 hq=>by simp only[h1,h2,hq _ _ hu];omega,hR⟩
  refine Vk (k:=Ww<|W1 (list_ok hB hW he hp) ?_)
  rintro w s4 ⟨_,hP⟩
  rw[hz]at hP
  obtain⟨b,r,o,sz,L,row,x,oi,rest,rfl,hq4,hr,hx,hG,_⟩:=hP
  refine Wv rfl<|Wn<|WP.pre hq4<|Vk (k:=Ww<|W1 (hB.VS.clone (hG.out.src.mono λp hp=>by simp[hp]) (by omega) (by rw[gq];omega)<|by omega) ?_)
  rintro w _ ⟨m5,rfl,hO⟩
  refine Wv rfl<|Wn<|We<|Wm (.tmp rfl .nil) ⟨m5++((b,.r false L sz)::(oi++(rest++[(b3,.r false [d.cells pv ov lv hv gv ev fv sv wv] 25)]))),?_,hO.src.mono λp hp=>by simp[hp]⟩
  exact(back _).perm (uS)
 exact Vk (k:=Ww<|W1 h90 λw s5 h5=>Vk (k:=We<|Wm (.tmp rfl .nil) h5))
theorem aeT (hB:Base P K F T)(hC:BaseC P K F T){put:List Int->SD}(hs:aH bl EL d t s)(hd:d.Small)(he:d.kQ)(hf:Has bf (.r false [bu bl aZ c0 c1 c2 c3 c4 bE] 8) t)(hp:p<d.pl.length)(hz:d.ci z p=some (lst,put))(hn:lst.length<=1000) :
  bB P K (F 36) [.ptr (some ⟨bf,0,0⟩),iv z,iv<|.ofNat p] s (λv s'=>∃m,aH bl EL d (m++t) s'/\gz m 1 v (nR lst)):=by
 refine hC.f36.cF ?_
 unfold ZV
 refine Wq<|Wv rfl<|Wn ?_
 refine Wq<|Wv rfl<|Ww<|Wz [.ptr (some ⟨bf,0,0⟩)] rfl rfl (D1 hB hs hd hf) ?_
 rintro w s2 ⟨m,dt,pv,ov,lv,hv,gv,ev,fv,sv,wv,rfl,hR⟩
 obtain⟨u,hu,back⟩:=dt.split
 have h90:bB P K (F 90) [.agg (d.cells pv ov lv hv gv ev fv sv wv),iv z,iv<|.ofNat p] s2 (λv s'=>∃m,aH bl EL d (m++t) s'/\gz m 1 v (nR lst)):=by
  refine hC.f90.cF ?_
  unfold a90
  refine Wq<|Wa (.box rfl rfl) λb3=>Wv rfl<|Wn ?_
  refine Wq<|Wl rfl .here rfl rfl rfl<|Wr (.build (cs:=d.cells pv ov lv hv gv ev fv sv wv) rfl rfl)<|Wa (.box rfl rfl) λb7=>Wv rfl<|Wn ?_
  have hW:WH b7 d ((b3,.r false [d.cells pv ov lv hv gv ev fv sv wv] 25)::(u++t)) ((b7,.r false [d.cells pv ov lv hv gv ev fv sv wv] 25)::(b3,.r false [d.cells pv ov lv hv gv ev fv sv wv] 25)::s2):=
   ⟨pv,ov,lv,hv,gv,ev,fv,sv,wv,m,ak λc w h0 h1 h2 hq=>by simp only[h1,h2,hq _ _ hu];omega,hR⟩
  refine Ws<|Wq<|Wv rfl<|Wv rfl<|Wv rfl<|Ww<|Wz [.ptr (some ⟨b7,0,0⟩),iv z,iv<|.ofNat p] rfl rfl (list_ok hB hW he hp) ?_
  rintro w s4 ⟨_,hP⟩
  rw[hz]at hP
  obtain⟨b,r,o,sz,L,row,x,oi,rest,rfl,hq4,hr,hx,hG,_⟩:=hP
  refine Wv rfl<|Wn<|WP.pre hq4 ?_
  refine Wq<|Wv rfl<|Wh (b:=false) rfl rfl rfl<|Wn<|Wd rfl (λ_=>?_)<|λh=>by cases h
  refine Wq<|Wv rfl<|Wr (.nilchk rfl rfl)<|Wl rfl .here hr hx rfl<|Ww<|Wz [x] rfl rfl (hB.VS.clone (hG.out.src.mono λp hp=>by simp[hp]) (by omega) (by rw[gq];omega)<|by omega) ?_
  rintro w _ ⟨m5,rfl,hO⟩
  refine Wv rfl<|Wn<|We<|Wm (.tmp rfl .nil) ⟨m5++((b,.r false L sz)::(oi++(rest++[(b3,.r false [d.cells pv ov lv hv gv ev fv sv wv] 25)]))),?_,hO.mono λp hp=>by simp[hp]⟩
  exact(back _).perm (uS)
 exact Wv rfl<|Wv rfl<|Ww<|Wz [.agg (d.cells pv ov lv hv gv ev fv sv wv),iv z,iv<|.ofNat p] rfl rfl h90 λw s5 h5=>Wv rfl<|Wn<|We<|Wm (.tmp rfl .nil) h5
structure GE (P:Program)(K:Orc)(F:Nat->FuncId)(T:Nat->TypeId)(tF:TypeId)(g:ED->CH->CH)(C:List CD)(d:SD):Prop where
 hB:Base P K F T
 hC:BaseC P K F T
 hG:BaseG P K F T
 hT:TyC P T
 hM:gA P F tF
 hU:BaseU P K F T
 hI:BaseB P K F T
 info:meth P tF "Info"=some (F 58)
 t128:Ty P (T 128) 13
 hd:d.Small
 he:d.kQ
 hO:nG P K F g d C
@[reducible] def gm (tF:TypeId)(bf:Nat):AV:=.iface tF (.ptr (some ⟨bf,0,0⟩))
variable {tF:TypeId}{g:ED->CH->CH}{C:List CD}{tl:AD->List Nat}
theorem aft (tF:TypeId)(b:Nat):dz (.agg [gm tF b]) (.agg [gm tF b])=true:=by
 show(Nat.beq tF tF&&(Nat.beq b b&&Nat.beq 0 0&&Nat.beq 0 0)&&true)=true
 rw[Nat.beq_refl,Nat.beq_refl]
 rfl
theorem abQ (aep:FnK P K (F 264) 15 [] (ae1 F T)){fn:FuncId}{o':LD}(hs:WH bw d t s)(hbd:Has bd (.r false [[.func fn [] []]] 1) t)(PA:Has bx (.r false [[.ptr (some ⟨bw,0,0⟩)]] 1) t)(ho:d.pl[p]?=some o){n:Int}
  (hin:∀{s s':SH}{bp:Nat}{L:List (List AV)},oY bp (.r false L 8) (.r false (L.set p o'.row) 8) s s'->L[p]?=some o.row->bB P K fn [.ptr (some ⟨bp,p,0⟩),.agg<|evRow k (.ofNat p) b n m it] s (λ_ s2=>∃m,s2=m++s')) :
  c6 P K (.func (F 264) [] [.ptr (some ⟨bd,0,0⟩),.ptr<|some ⟨bx,0,0⟩]) [.agg (evRow k (.ofNat p) b n m it)] s (λ_ s'=>WH bw { d with pl:=d.pl.set p o' } t s'):=by
 have hp:p<d.pl.length:=(List.getElem?_eq_some_iff.1 ho).1
 obtain⟨pv,ov,lv,hv,gv,ev,fv,sv,wv,nn,k1,k2⟩:=hs
 obtain⟨op,r,kp,g,back⟩:=k2.afY
 obtain⟨bp,c,M,rfl,rfl,put⟩:=g.put (p:=p)<|by simpa[Am]using hp
 have hlen:(Am d.pl).length=d.pl.length:=by simp[Am]
 have hrow:(Am d.pl++M)[p]?=some o.row:=by
  rw[List.getElem?_append_left (by omega),Am,List.getElem?_map,ho];rfl
 refine c6.func<|bB.perm (s:=(bp,.r false (Am d.pl++M) 8)::(bw,.r false [d.cells (.slice (some ⟨bp,0,0⟩) (Am d.pl).length c true 8) ov lv hv gv ev fv sv wv] 25)::(r++t)) (ak λc w h0 h1 h2 hq=>by rw[hq _ _ k1];simp only[h1,h2,h0,hq _ _ kp];omega) ?_
 refine aep.cF ?_
 refine Wq<|Wa (.box rfl rfl) λb3=>Wn ?_
 refine WP.bD<|Dl rfl .nil (.load rfl (.there<|.there<|.there<|.app hbd) rfl rfl rfl)<|Dl rfl .nil (.load rfl (.there<|.there<|.there<|.app PA) rfl rfl rfl)<|Dp (.nilchk rfl rfl)<|Dp (.faddr rfl)<|Dp (.faddr rfl)<|Dl rfl .nil (.load rfl (.there<|.there .here) rfl rfl rfl)<|Dp (.faddr rfl)<|Dl rfl .nil (.load rfl .here rfl rfl rfl)<|Dp (.iaddrS rfl rfl (by omega)<|by decide) ?_
 rw[show Nat.add 0 p=p from Nat.zero_add p]
 refine Dl rfl .nil (.load rfl .here rfl rfl rfl)<|Dc .nil<|W1 (hin (s':=(b3,.r false [evRow k (.ofNat p) b n m it] 13)::(bp,.r false ((Am d.pl++M).set p o'.row) 8)::(bw,.r false [d.cells (.slice (some ⟨bp,0,0⟩) (Am d.pl).length c true 8) ov lv hv gv ev fv sv wv] 25)::(r++t)) (.there .here) hrow) ?_
 rintro w _ ⟨mm,rfl⟩
 refine D0 .nil (Wm .nil ?_)<|λo h=>nomatch h
 have g':=back _ (d.pl.set p o') [(bp,.r false ((Am d.pl++M).set p o'.row) 8)] (by
  have:=put o'.row
  rw[show Am (d.pl.set p o')=(Am d.pl).set p o'.row from by simp[Am,List.map_set]]
  exact this)
 refine⟨_,ov,lv,hv,gv,ev,fv,sv,wv,mm++[(b3,.r false [evRow k (.ofNat p) b n m it] 13)]++((bp,.r false ((Am d.pl++M).set p o'.row) 8)::r),?_,g'.bK⟩
 show List.Perm (mm++((b3,HO.r false [evRow k (.ofNat p) b n m it] 13)::(bp,HO.r false ((Am d.pl++M).set p o'.row) 8)::(bw,HO.r false [({ d with pl:=d.pl.set p o' }:SD).cells (.slice (some ⟨bp,0,0⟩) (Am d.pl).length c true 8) ov lv hv gv ev fv sv wv] 25)::(r++t))) _
 exact uS
variable {a:Int}
theorem acr (act:FnK P K (F 280) 9 [] (adj F T))(hs:WH bw d t s)(hx:Has bx (.r false [[.ptr (some ⟨bw,0,0⟩)]] 1) t){n:Int} :
  bB P K (F 280) [.agg (evRow k a b n m it),.ptr<|some ⟨bx,0,0⟩] s (λ_ s'=>WH bw { d with ph:=a } t s'):=by
 obtain⟨pv,ov,lv,hv,gv,ev,fv,sv,wv,nn,k1,k2⟩:=hs
 refine bB.perm k1.symm ?_
 refine act.cF ?_
 unfold adj
 refine Wq<|Wa (.box rfl rfl) λb2=>Wn ?_
 refine Wo<|Wl rfl (.there<|.there<|.app hx) rfl rfl rfl<|Wf rfl<|Wl rfl .here rfl rfl rfl<|Wr (.nilchk rfl rfl)<|Wf rfl<|Wf rfl<|Ww<|Wt rfl rfl rfl (.there .here) rfl rfl<|Wn<|Wm .nil ?_
 exact⟨pv,ov,lv,hv,gv,ev,fv,sv,wv,[(b2,.r false [evRow k a b n m it] 13)]++nn,(show List.Perm ((b2,HO.r false [evRow k a b n m it] 13)::(bw,.r false [({ d with ph:=a }:SD).cells pv ov lv hv gv ev fv sv wv] 25)::(nn++t)) _ from uS),(show iJ _ pv ov lv hv gv ev fv sv wv { d with ph:=a } from⟨(k2.bK (m:=[_])).ex⟩)⟩
theorem aaM (hB:Base P K F T)(act:FnK P K (F 280) 9 [] (adj F T)){n:Int}(hd:d.Small)(he:d.kQ)(lm:∀s,bB P K (F 201) [.agg (evRow 19 a b n m it)] s (λv s'=>v=iv 0/\s'=s)) :
  Ap P K F 19 a b n m it d { d with ph:=a }:=
 yH (k:=19) hB hd lm (aa4 hB<|by simp) (λ{_ _ _ _ v} hv hW=>by
  obtain⟨bx,rfl,_⟩:=(show km F _ _ v false false false 280 from hv)
  exact abD hB hW hd he (k:=19) (by omega) (by omega) (by omega) (by omega)) (λ{_ _ _ _ _ _ _} hv hW=>by
  obtain⟨bx,hv,hx⟩:=(show km F _ _ _ false false false 280 from hv)
  cases hv
  exact c6.func (acr act hW hx))
def obU (id gE own:Int):OD:=⟨id,gE,own,own,0,false,false,false,0,0,0,0,false⟩
def d22:SD:={ d5 with ob:=[obU 1 0 0,obU 2 1 0,obU 3 2 0,obU 4 1 1,obU 5 1 1,obU 6 0 2],lb:=[[1,2,3],[4,5],[6]],nx:=7 }
theorem acW {o:OD}(hz:o.ci=2):d.add o p={ d with nx:=d.nx+1,sp:=d.sp+1,ob:=d.ob++[o.new2 d.nx d.sp],fi:=d.fi++[d.nx] }:=by
 unfold SD.add
 rw[if_pos hz,hz]
 rfl
theorem add_one {o:OD}(hz:o.ci=1)(hl:d.hd[p]?=some lst):d.add o p={ d with nx:=d.nx+1,ob:=d.ob++[o.new1 d.nx],hd:=d.hd.set p (lst++[d.nx]) }:=by
 unfold SD.add
 rw[if_neg (by rw[hz];decide),hz]
 have:(d.xR.obs<|o.new1 d.nx).ci 1 p=some (lst,λl'=>{ (d.xR.obs<|o.new1 d.nx)with hd:=d.hd.set p l' }):=by
  unfold SD.ci
  rw[if_neg (by decide),if_neg<|by decide,if_pos rfl]
  show(d.hd[p]?).map _=_
  rw[hl]
  rfl
 rw[this]
 rfl
theorem aag (h:∀c∈C,∀x∈c.ab,x.kind≠4)(b:OD):d.fi.flatMap (oneE d C b)=[]:=by
 refine List.flatMap_eq_nil_iff.2 λn _=>?_
 unfold oneE
 split
 ·rfl
 ·split
  ·rfl
  ·split
   ·rfl
   ·rename_i c hc
    unfold jU
    rw[List.map_eq_nil_iff]
    refine List.filter_eq_nil_iff.2 λx hx=>?_
    have:=h c (List.mem_of_getElem? hc) x hx
    simp[this]
theorem aee (h:∀c∈C,∀x∈c.ab,x.kind≠4)(hcd:∀o∈d.ob,∃j:Nat,o.gE=.ofNat j/\j<C.length):nG P K F (λ_ c=>c) d C where
 ok:=⟨hcd,λc hc x hx h4=>absurd h4<|h c hc x hx,λb=>by rw[aag h];exact Nat.zero_le _,λb=>by unfold qy;rw[aag h];exact⟨λe he=>(nomatch he),.nil⟩⟩
 step o e he:=by
  unfold qy at he
  rw[aag h]at he
  cases he
 any o c R hR:=by
  unfold qy at hR |-
  rw[aag h]at hR |-
  rw[List.Perm.eq_nil hR]
  rfl
theorem WR.iaddrA {x i:Operand}{b r o:Nat}{q:IntKind}{j:Nat}(hx:opl l x=some (.ptr (some ⟨b,r,o⟩)))(hi:opl l i=some (.int q (.ofNat j)))(hj:j<n):WR P (.iaddrA n sz x i) l s (.ptr (some ⟨b,r,Nat.add o (Nat.mul j sz)⟩)):=by
 have h1:Nat.blt j n=true:=Nat.ble_eq_true_of_le hj
 exact WR.mk' (λ_ _ _ _ _=>rfl)<|λe H he=>by simp only[aval,aG he hx,aG he hi,h1,elemAt]
open Go.Proofs
set_option maxRecDepth 100000
def adY:CF:=NF (λF T=>pt (cd 43 82 F T) [1,1,1,1]) _
def ag8:CF:=NF (λF T=>pt (cd 43 82 F T) [1,1,1,1,1,1]) _
def dU (ps cs zs:Nat->Nat):Nat->SD
 | 0=>d22
 | n+1=>(dU ps cs zs n).add (pY (ps n) (.ofNat<|cs n) (.ofNat<|1+zs n) 0) (ps n)
structure aif (t:SH)(lv:AV)(L:List (List AV))(ps cs zs:Nat->Nat):Prop where
 len:lenOf lv=some L.length
 at':0<L.length->∃rb cap sl,lv=.slice (some ⟨rb,0,0⟩) L.length cap sl 3/\Has rb (.r true L 3) t
 b:∀i,i<L.length->∃x z y:Nat,x<=255/\z<=255/\y<=255/\L[i]?=some [.int .u8 (.ofNat x),.int .u8<|.ofNat z,.int .u8<|.ofNat y]/\x%6=cs i/\z%2=zs i/\y%3=ps i
def dF (ps cs zs:Nat->Nat)(n ac ph:Nat):SD:={ dU ps cs zs n with tu:=(dU ps cs zs n).tu+1,ac:=.ofNat ac,ph:=.ofNat ph }
def RO (P:Program)(K:Orc)(ol:List bS)(l:Sl)(Q:Sl->Prop):Prop:=
 ∀(nt:Nat)(ops:Array Oper)(l0:List Oper)(e:Tr AV)(ds:List aD)(H:Heap),aI (co P nt ops.toList) l0=some ol->En l e->∃e' l',fj P K nt ops l0 e ds H (.mk .normal e' ds H)/\En l' e'/\Q l'
theorem RO.nil {Q:Sl->Prop}(h:Q l):RO P K [] l Q:=by
 intro nt ops l0 e ds H hl he
 cases l0 with
 | nil=>exact⟨e,l,fj.nil,he,h⟩
 | cons a l0=>
  obtain⟨b,bs,h1,h2,h3⟩:=(aV _ a l0 _).1 hl
  cases h3
theorem RO.r {d:Option Nat}{op:AOp}{rest:List bS}{Q:Sl->Prop}(h:WR P op l [] v)(k:RO P K rest (pl d v l) Q):RO P K (⟨d,op,none⟩::rest) l Q:=by
 intro nt ops l0 e ds H hl he
 cases l0 with
 | nil=>cases hl
 | cons a l0=>
  obtain⟨b,bs,h1,h2,h3⟩:=(aV _ a l0 _).1 hl
  cases h3
  have hc:cOper P nt a=⟨d,op,none⟩:=by
   unfold co at h1
   generalize cOper P nt a=z at h1 |-
   obtain⟨d',op',g'⟩:=z
   dsimp only at h1
   cases g' with
   | none=>cases h1;rfl
   | some jw=>
    obtain⟨j,w⟩:=jw
    unfold cg at h1
    dsimp only at h1
    split at h1
    ·rename_i hq;split at hq
     ·split at hq
      ·cases hq;cases h1
      ·cases hq
     ·cases hq
    ·cases h1
  have hp:Hp ⟨.lf,0⟩ [] H:=⟨Nat.zero_le _,(λb o hb=>nomatch hb),List.Pairwise.nil,λb hb=>absurd hb<|Nat.not_lt_zero _⟩
  obtain⟨e',l',j1,j2,j3⟩:=k nt ops l0 (putO e d v) ds H h2<|he.putO d v
  exact⟨e',l',fj.cons hc rfl ⟨0,(h.q P _ (bL e) ds H).trans (by rw[h.h _ e H he hp])⟩ j1,j2,j3⟩
def aSp (k:Nat):AD:=⟨1,0,0,0,0,0,0,false,.slice (some ⟨1+k,0,0⟩) 1 1 false 1,.slice (some ⟨2+k,0,0⟩) 2 2 false 3,0,0,0⟩
def aQu (k:Nat):AD:=⟨1,0,0,0,0,0,0,false,nilS,.slice (some ⟨4+k,0,0⟩) 2 2 false 3,0,0,0⟩
def aMo (k:Nat):AD:=⟨2,0,0,0,0,0,0,true,nilS,.slice (some ⟨6+k,0,0⟩) 2 2 false 3,0,0,0⟩
def aHo (k:Nat):AD:=⟨3,3,1,0,0,0,0,false,nilS,.slice (some ⟨8+k,0,0⟩) 2 2 false 3,0,0,0⟩
def aHp (k:Nat):AD:=⟨2,0,0,0,0,0,0,false,nilS,.slice (some ⟨9+k,0,0⟩) 2 2 false 3,0,0,0⟩
def C22 (k:Nat):List CD:=[⟨⟨#[108,97,110,100]⟩,1,0,0,0,0,0,0,0,0,nilS,[]⟩,⟨⟨#[98,101,97,115,116]⟩,2,0,0,0,0,0,1,1,0,nilS,[]⟩,⟨⟨#[115,112,101,108,108]⟩,3,0,0,0,0,0,0,0,0,.slice (some ⟨3+k,0,0⟩) 1 1 false 13,[aSp k]⟩,⟨⟨#[113,117,105,99,107]⟩,3,0,0,0,0,0,0,0,64,.slice (some ⟨5+k,0,0⟩) 1 1 false 13,[aQu k]⟩,⟨⟨#[109,111,110,107]⟩,2,0,0,0,0,0,0,1,0,.slice (some ⟨7+k,0,0⟩) 1 1 false 13,[aMo k]⟩,⟨⟨#[104,111,114,110]⟩,4,0,0,0,0,0,0,0,0,.slice (some ⟨10+k,0,0⟩) 2 2 false 13,[aHo k,aHp k]⟩]
theorem V1 {k:Nat}{Q:CD->Prop}(h0:∀c∈C22 k,c.ab=[]->c.av=nilS->Q c)(h1:∀c∈C22 k,c.ab=[aSp k]->c.av=.slice (some ⟨3+k,0,0⟩) 1 1 false 13->Q c)(h2:∀c∈C22 k,c.ab=[aQu k]->c.av=.slice (some ⟨5+k,0,0⟩) 1 1 false 13->Q c)
  (h3:∀c∈C22 k,c.ab=[aMo k]->c.av=.slice (some ⟨7+k,0,0⟩) 1 1 false 13->Q c) (h4:∀c∈C22 k,c.ab=[aHo k,aHp k]->c.av=.slice (some ⟨10+k,0,0⟩) 2 2 false 13->Q c):∀c∈C22 k,Q c:=by
 intro c hc
 have uz:=hc
 simp only[C22,List.mem_cons,List.not_mem_nil,or_false]at uz
 rcases uz with h|h|h|h|h|h
 ·exact h0 c hc (by rw[h])<|by rw[h]
 ·exact h0 c hc (by rw[h])<|by rw[h]
 ·exact h1 c hc (by rw[h])<|by rw[h]
 ·exact h2 c hc (by rw[h])<|by rw[h]
 ·exact h3 c hc (by rw[h])<|by rw[h]
 ·exact h4 c hc (by rw[h])<|by rw[h]
@[reducible] def aez (k:Nat):List AV:=d22.cells (pn (479+k) 3 8) (pn (509+k) 6 14) (pn (521+k) 3 1) (pn (527+k) 3 1) (pn (533+k) 3 1) (pn (539+k) 3 1) nilS nilS nilS++([nilS]++(d22.cells (pn (543+k) 3 8) (pn (573+k) 6 14) (pn (585+k) 3 1) (pn (591+k) 3 1) (pn (597+k) 3 1) (pn (603+k) 3 1) nilS nilS nilS++[]))
@[reducible] def ahL (k:Nat):List (List AV):=[[pn (575+k) 3 1],[pn (579+k) 2 1],[pn (583+k) 1 1]]
@[reducible] def af9 (k:Nat):List AV:=bu (475+k) (pn (605+k) 6 11) 60 8 80 20 20 nilS
def stL (k:Nat):List (Nat × Nat × List (List AV)):=[(543+k,8,Am d22.pl),(573+k,14,fy d22.ob),(585+k,1,ahL k),(591+k,1,n3),(597+k,1,n3),(603+k,1,n3),(575+k,1,nR [1,2,3]),(579+k,1,nR [4,5]),(583+k,1,nR [6])]
def tL (k:Nat):List (Nat × Nat × List (List AV)):=[(473+k,8,[af9 k]),(605+k,11,(C22 k).map CD.row),(3+k,13,[(aSp k).row]),(5+k,13,[(aQu k).row]),(7+k,13,[(aMo k).row]),(10+k,13,[(aHo k).row,(aHp k).row]),(1+k,1,nR [1])]
def aak (k:Nat):List (Nat × Nat × List (List AV)):=(475+k,51,[aez k])::(stL k++tL k)
theorem afj (k:Nat):mD (Dw (stL k)) (pn (543+k) 3 8) (pn (573+k) 6 14) (pn (585+k) 3 1) (pn (591+k) 3 1) (pn (597+k) 3 1) (pn (603+k) 3 1) nilS nilS nilS d22 where
 pl:=Src.all (L:=Am d22.pl) .here
 ob:=Src.all (L:=fy d22.ob)<|.there .here
 lb:=⟨_,Src.all (L:=ahL k)<|.there<|.there .here,.cons (Src.all (L:=nR [1,2,3])<|.there<|.there<|.there<|.there<|.there<|.there .here)<|.cons (Src.all (L:=nR [4,5])<|.there<|.there<|.there<|.there<|.there<|.there<|.there .here)<|.cons (Src.all (L:=nR [6])<|.there<|.there<|.there<|.there<|.there<|.there<|.there<|.there .here) .nil⟩
 hd:=⟨_,Src.all (L:=n3)<|.there<|.there<|.there .here,.cons .nil<|.cons .nil<|.cons .nil .nil⟩
 gr:=⟨_,Src.all (L:=n3)<|.there<|.there<|.there<|.there .here,.cons .nil<|.cons .nil<|.cons .nil .nil⟩
 ex:=⟨_,Src.all (L:=n3)<|.there<|.there<|.there<|.there<|.there .here,.cons .nil<|.cons .nil<|.cons .nil .nil⟩
 fi:=.nil
 st:=.nil
 wa:=.nil
theorem aeA (k:Nat)(t:SH):aH (475+k) [] d22 t ((475+k,.r false [aez k] 51)::([]++(Dw (stL k)++t))):=
 ⟨_,nilS,pn (543+k) 3 8,pn (573+k) 6 14,pn (585+k) 3 1,pn (591+k) 3 1,pn (597+k) 3 1,pn (603+k) 3 1,nilS,nilS,nilS,[],Dw<|stL k,.refl _,rfl,.nil,afj k⟩
def adH (v:V)(i:Nat):Bool:=Nat.beq v.t 13&&Nat.beq v.a i
def acG:V:={ vU with t:=13,a:=2 }
def acH:V:={ vU with t:=13,a:=3 }
end
section
variable [Sg]{P:Program}{K:Orc}{F:Nat->FuncId}{T:Nat->TypeId}
theorem aaw {v w:V}{i:Nat}{a b:AV}(h:adH v i=true)(hv:VA v a)(hw:VA w b)(h1:w.t=13)(h2:w.a=i):a=b:=by
 obtain⟨k1,k2⟩:=Bool.and_eq_true_iff.1 h
 have e1:=(hv.mP<|Nat.eq_of_beq_eq_true k1).1
 rw[Nat.eq_of_beq_eq_true k2]at e1
 have e2:=(hw.mP h1).1
 rw[h2]at e2
 rw[e1,e2]
theorem aeC (a b:List (Nat × Nat × List (List AV))):Dw (a++b)=Dw a++Dw b:=by unfold Dw;rw[List.map_append]
end
section
variable {P:Program}{K:Orc}
theorem WOa.r {d:Option Nat}{op:AOp}{rest:List bS}{v:AV}{l:Sl}{e:Tr AV}{ds:List aD}{H H0:Heap}{Q:Po}(h:WR P op l [] v)(he:En l e)(k:WOa P K rest (putO e d v) ds H H0 Q):WOa P K (⟨d,op,none⟩::rest) e ds H H0 Q:=by
 have hp:Hp ⟨.lf,0⟩ [] H:=⟨Nat.zero_le _,(λb o hb=>nomatch hb),List.Pairwise.nil,λb hb=>absurd hb<|Nat.not_lt_zero _⟩
 exact WOa.cons ⟨0,(h.q P _ (bL e) ds H).trans (by rw[h.h _ e H he hp])⟩ k
end
section
variable [Sg]{P:Program}{K:Orc}{F:Nat->FuncId}{T:Nat->TypeId}
end
theorem ac7 [Sg](h:Sg.val 2=lv)(ho:Opq lv):VA acG lv:=by
 subst h
 exact VA.DM (v:=acG) rfl ho.one ho.nb ho.same
theorem ac8 [Sg](h:Sg.val 3=lv)(ho:Opq lv):VA acH lv:=by
 subst h
 exact VA.DM (v:=acH) rfl ho.one ho.nb ho.same
section
variable {P:Program}{K:Orc}{F:Nat->FuncId}{T:Nat->TypeId}{f:FuncId}{fn:Func}{c:Code}{abv:Func}{c35:Code}{R:iB}{n:Nat}
theorem aeI (d:SD)(id:Int):d.obj id=d.ob.find? λo=>decide (o.id=id):=by
 unfold SD.obj SD.find
 generalize d.ob=l
 induction l with
 | nil=>rfl
 | cons o l ih=>
  rw[List.findIdx?_cons,List.find?_cons]
  cases decide (o.id=id) with
  | true=>rfl
  | false=>
   rw[<- ih]
   cases l.findIdx? λo=>decide (o.id=id)<;>rfl
theorem ags {d:SD}{id:Int}{o:OD}(h:d.obj id=some o):o.id=id/\o∈d.ob:=by
 rw[aeI]at h
 exact⟨by simpa using List.find?_some h,List.mem_of_find?_eq_some h⟩
theorem ahn:(Dw (aak 0++[])).Pairwise λp q=>p.1≠q.1:=by
 simp[Dw,aak,stL,tL]
theorem ae7:∀p∈Dw (aak 0++[]),p.1≠0:=by
 intro p hp
 simp only[Dw,aak,stL,tL,List.map_cons,List.map_nil,List.cons_append,List.nil_append,List.append_nil,List.mem_cons,List.not_mem_nil,or_false]at hp
 rcases hp with rfl|rfl|rfl|rfl|rfl|rfl|rfl|rfl|rfl|rfl|rfl|rfl|rfl|rfl|rfl|rfl|rfl<;>exact Nat.succ_ne_zero _
end
section
variable [Sg]{P:Program}{K:Orc}{F:Nat->FuncId}{T:Nat->TypeId}
end
open Go.Proofs
set_option maxRecDepth 100000
def ais:CF:=NF (cd 306 11) _
def ait:CF:=NF (cd 307 17) _
def ag4:CF:=NF (cd 308 10) _
def ag5:CF:=NF (cd 309 10) _
def ale:CF:=NF (cd 315 9) _
structure BaseX (P:Program)(K:Orc)(F:Nat->FuncId)(T:Nat->TypeId):Prop where
 f248:FnK P K (F 248) 11 [] (ais F T)
 f249:FnK P K (F 249) 17 [(.tmp 4)] (ait F T)
 f250:FnK P K (F 250) 10 [] (ag4 F T)
 f251:FnK P K (F 251) 10 [] (ag5 F T)
def a32:CF:=NF (cd 14 56) _
def a79:CF:=NF (cd 56 4) _
def a80:CF:=NF (cd 55 11) _
def agR:CF:=NF (cd 135 40) _
structure BaseY (P:Program)(K:Orc)(F:Nat->FuncId)(T:Nat->TypeId):Prop where
 f79:FnK P K (F 79) 4 [(.tmp 2)] (a79 F T)
 f124:FnK P K (F 124) 40 [] (agR F T)
section
variable {P:Program}{K:Orc}{rd:Option Nat}{nt:Nat}{l:Sl}{ds:List aD}{s:SH}{Q Qn Qr:Po}{Qe:Nat->Po}{F:Nat->FuncId}{T:Nat->TypeId}
theorem afr (k a b n m:Int)(it:ID):dz (.agg (evRow k a b n m it)) (.agg (evRow k a b n m it))=true:=by
 show sameL (sameN 5) (evRow k a b n m it) (evRow k a b n m it)=true
 simp[sameL,sameN,same0,gd,keq]
theorem afs (f:FuncId):dz (.func f [] []) (.func f [] [])=true:=by
 simp[dz,sameN,sameL]
variable {bw bp i:Nat}{fv:AV}{a:Int}
theorem adL (hB:Base P K F T)(hX:BaseX P K F T){n c:Nat}{pv lv hv gv ev sv wv:AV}{d:SD}(hb:Has bw (.r false [d.cells pv (.slice (some ⟨bp,0,0⟩) n c true 14) lv hv gv ev fv sv wv] 25) s)(hs:Src s 14 (.slice (some ⟨bp,0,0⟩) n c true 14) (fy d.ob))(vj:d.Small)(hi:d.find a=some i)(hin:i<n) :
  bB P K (F 249) [.ptr (some ⟨bw,0,0⟩),iv a] s (λv s'=>v=.ptr (some ⟨bp,0+i,0⟩)/\∃m,s'=m++s):=by
 have Y0:=vj.n1
 refine hX.f249.cF ?_
 refine Vk (k:=WP.bD<|Dp (.mv rfl)<|Dp (.nilchk rfl rfl)<|Dp (.faddr rfl)<|Dp (.faddr rfl)<|WD.lk rfl .nil (.load rfl hb rfl rfl rfl)<|Dp (.mv rfl)<|Dp (.nilchk rfl rfl)<|Dp (.faddr rfl)<|Dl rfl .nil (.load (cs:=d.cells pv (.slice (some ⟨bp,0,0⟩) n c true 14) lv hv gv ev fv sv wv) rfl hb rfl rfl rfl)<|Dp (.mv rfl)<|Dc .nil<|W1 (lg hB hs vj) ?_)
 rintro w _ ⟨rfl,m,rfl⟩
 rw[hi]
 refine Dp (.iaddrS rfl rfl hin<|by decide)<|Dp (.mv rfl)<|D0 .nil (We<|Wm (.tmp rfl .nil) ⟨rfl,m,rfl⟩) ?_
 intro o ho
 rw[List.mem_singleton.1 ho]
 refine⟨λi hi=>(nomatch hi),Nat.zero_le _,hs.same,λk _ hk=>?_⟩
 rcases B8 hk with rfl|rfl
 ·exact⟨_,rfl,.load rfl hb rfl rfl rfl⟩
 ·exact⟨_,rfl,.load rfl (.app hb) rfl rfl rfl⟩
variable {n k b m:Int}{o o':OD}{it:ID}
theorem aek (hB:Base P K F T)(hX:BaseX P K F T){fn:FuncId}{bd bx:Nat}{d:SD}{t:SH}(hs:WH bw d t s)(hbd:Has bd (.r false [[.func fn [] []]] 1) t)(PA:Has bx (.r false [[.ptr (some ⟨bw,0,0⟩)]] 1) t)(vj:d.Small)(hi:d.find a=some i)(ho:d.ob[i]?=some o)
  (hin:∀{s s':SH}{bp:Nat}{L:List (List AV)},oY bp (.r false L 14) (.r false (L.set i o'.row) 14) s s'->L[i]?=some o.row->bB P K fn [.ptr (some ⟨bp,i,0⟩),.agg<|evRow k a b n m it] s (λ_ s2=>∃m,s2=m++s')) :
  c6 P K (.func (F 248) [] [.ptr (some ⟨bd,0,0⟩),.ptr<|some ⟨bx,0,0⟩]) [.agg (evRow k a b n m it)] s (λ_ s'=>WH bw { d with ob:=d.ob.set i o' } t s'):=by
 have hil:i<d.ob.length:=(List.getElem?_eq_some_iff.1 ho).1
 obtain⟨pv,ov,lv,hv,gv,ev,fv,sv,wv,nn,k1,k2⟩:=hs
 obtain⟨op,r,kp,g,back⟩:=k2.xS
 have gs:=g
 obtain⟨bp,c,M,rfl,rfl,put⟩:=g.put (p:=i)<|by simpa[fy]using hil
 have hrow:(fy d.ob++M)[i]?=some o.row:=by
  rw[List.getElem?_append_left (by simpa[fy]using hil),fy,List.getElem?_map,ho];rfl
 refine c6.func<|bB.perm (s:=(bp,.r false (fy d.ob++M) 14)::(bw,.r false [d.cells pv (.slice (some ⟨bp,0,0⟩) (fy d.ob).length c true 14) lv hv gv ev fv sv wv] 25)::(r++t)) (ak λc w h0 h1 h2 hq=>by rw[hq _ _ k1];simp only[h1,h2,h0,hq _ _ kp];omega) ?_
 refine hX.f248.cF ?_
 refine Wq<|Wa (.box rfl rfl) λb3=>Wn<|WP.bD<|WD.lk rfl .nil (.load rfl (.there<|.there<|.there<|.app hbd) rfl rfl rfl)<|Dl rfl .nil (.load rfl (.there<|.there<|.there<|.app PA) rfl rfl rfl)<|Dp (.faddr rfl)<|Dl rfl .nil (.load rfl .here rfl rfl rfl)<|Dc .nil<|W1 (adL hB hX (.there<|.there .here) (gs.src (m:=[(b3,.r false [evRow k a b n m it] 13)])) vj hi<|by simpa[fy]using hil) ?_
 rintro w _ ⟨rfl,m4,rfl⟩
 refine WD.lk rfl .nil (.load (cs:=evRow k a b n m it) rfl (.app .here) rfl rfl rfl)<|Dc .nil<|Wz [.ptr (some ⟨bp,i,0⟩),.agg<|evRow k a b n m it] rfl (by rw[Nat.zero_add];rfl) (hin (s':=m4++((b3,.r false [evRow k a b n m it] 13)::(bp,.r false ((fy d.ob++M).set i o'.row) 14)::(bw,.r false [d.cells pv (.slice (some ⟨bp,0,0⟩) (fy d.ob).length c true 14) lv hv gv ev fv sv wv] 25)::(r++t))) (.app<|.there .here) hrow) ?_
 rintro w _ ⟨mm,rfl⟩
 refine D0 .nil (Wm .nil ?_) ?_
 ·have g':=back _ (d.ob.set i o') [(bp,.r false ((fy d.ob++M).set i o'.row) 14)] (by
   have:=put o'.row
   rw[show fy (d.ob.set i o')=(fy d.ob).set i o'.row from by simp[fy,List.map_set]]
   exact this)
  refine⟨pv,_,lv,hv,gv,ev,fv,sv,wv,(mm++(m4++[(b3,.r false [evRow k a b n m it] 13)]))++((bp,.r false ((fy d.ob++M).set i o'.row) 14)::r),?_,g'.bK⟩
  show List.Perm (mm++(m4++((b3,HO.r false [evRow k a b n m it] 13)::(bp,HO.r false ((fy d.ob++M).set i o'.row) 14)::(bw,HO.r false [({ d with ob:=d.ob.set i o' }:SD).cells pv (.slice (some ⟨bp,0,0⟩) (fy d.ob).length c true 14) lv hv gv ev fv sv wv] 25)::(r++t)))) _
  exact uS
 ·intro o2 ho2
  rcases List.mem_cons.1 ho2 with rfl|ho2
  ·refine⟨λj hj=>(nomatch hj),Nat.zero_le _,afr _ _ _ _ _ _,λj _ hj=>?_⟩
   rcases(by have:j<=1:=hj;omega:j=0\/j=1)with rfl|rfl
   ·exact⟨_,rfl,.load (cs:=evRow k a b n m it) rfl .here rfl rfl rfl⟩
   ·exact⟨_,rfl,.load (cs:=evRow k a b n m it) rfl (.app .here) rfl rfl rfl⟩
  ·rw[List.mem_singleton.1 ho2]
   refine⟨λj hj=>(nomatch hj),Nat.zero_le _,afs _,λj _ hj=>?_⟩
   rcases(by have:j<=1:=hj;omega:j=0\/j=1)with rfl|rfl
   ·exact⟨_,rfl,.load rfl (.there<|.there<|.there<|.app hbd) rfl rfl rfl⟩
   ·exact⟨_,rfl,.load rfl (.app<|.there<|.there<|.there<|.app hbd) rfl rfl rfl⟩
variable {v:AV}
theorem acM {k g:Nat}{m:SH}(hk:k=3/\g=250\/k=4/\g=251\/k=5/\g=253\/k=6/\g=255\/k=12/\g=257\/k=14/\g=252)(hv:RV F bw m k v):iP F bw m v false true true 248 g:=by
 rcases hk with⟨rfl,rfl⟩|⟨rfl,rfl⟩|⟨rfl,rfl⟩|⟨rfl,rfl⟩|⟨rfl,rfl⟩|⟨rfl,rfl⟩<;>exact hv
theorem abk {k g:Nat}(hk:k=3/\g=250\/k=4/\g=251\/k=5/\g=253\/k=6/\g=255\/k=12/\g=257\/k=14/\g=252):k∈[3,4,14,5,6,11,12,13,10,2,25]/\(k:Int)≠13/\(k:Int)≠16/\(k:Int)≠18/\(k:Int)≠26:=by
 rcases hk with⟨rfl,_⟩|⟨rfl,_⟩|⟨rfl,_⟩|⟨rfl,_⟩|⟨rfl,_⟩|⟨rfl,_⟩<;>decide
theorem aaz (hB:Base P K F T)(hX:BaseX P K F T){k:Nat}{g:Nat}{d:SD}(hd:d.Small)(he:d.kQ)(hk:k=3/\g=250\/k=4/\g=251\/k=5/\g=253\/k=6/\g=255\/k=12/\g=257\/k=14/\g=252)(hi:d.find a=some i)(ho:d.ob[i]?=some o)(hz:o.ci=2)
  (hin:∀{s s':SH}{bp:Nat}{L:List (List AV)},oY bp (.r false L 14) (.r false (L.set i o'.row) 14) s s'->L[i]?=some o.row->bB P K (F g) [.ptr (some ⟨bp,i,0⟩),.agg<|evRow k a b n m it] s (λ_ s2=>∃m,s2=m++s'))
  (lm:∀s,bB P K (F 201) [.agg (evRow k a b n m it)] s<|λv s'=>v=iv 0/\s'=s) :
  Ap P K F k a b n m it d { d with ob:=d.ob.set i o' }:=
 yH (k:=k) hB hd lm (FB hB (abk hk).1) (λ{_ _ _ _ v} hv hW=>by
  obtain⟨bd,bx,rfl,_⟩:=acM hk hv
  exact afl hB hW hd he (abk hk).2.1 (abk hk).2.2.1 (abk hk).2.2.2.1 (abk hk).2.2.2.2 hi ho hz) (λ{_ _ _ _ _ _ fn} hv hW=>by
  obtain⟨bd,bx,hv,h1,h2⟩:=acM hk hv
  cases hv
  exact aek hB hX hW h1 h2 hd hi ho hin)
variable {p:Nat}
theorem ad3 (hB:Base P K F T){d:SD}(hd:d.Small)(he:d.kQ)(hp:p<d.pl.length)(h1:0<=d.nx/\d.nx<=1000000)(h2:0<=d.sp/\d.sp<=1000000)(lm:∀s,bB P K (F 201) [.agg (evRow 1 (.ofNat p) b n m it)] s (λv s'=>v=iv 0/\s'=s)) :
  Ap P K F 1 (.ofNat p) b n m it d (d.add (pY p b n m) p):=
 yH (k:=1) hB hd lm (R2 hB<|by simp) (λ{_ _ _ _ v} hv hW=>by
  obtain⟨bx,rfl,_⟩:=(show km F _ _ v true false false 265 from hv)
  exact aaj hB hW hd he (k:=1) (by omega) (by omega) (by omega) (by omega) hp) (λ{_ _ _ _ _ _ _} hv hW=>by
  obtain⟨bx,hv,hx⟩:=(show km F _ _ _ true false false 265 from hv)
  cases hv
  exact c6.func (B1 hB hW hx hd he hp h1 h2))
variable {s':SH}{L:List (List AV)}
theorem abn (hX:BaseX P K F T){k a b m:Int}{it:ID}(hu:oY bp (.r false L 14) (.r false (L.set i ({ o with RU:=decide (n=1) }:OD).row) 14) s s')(hr:L[i]?=some o.row) :
  bB P K (F 250) [.ptr (some ⟨bp,i,0⟩),.agg<|evRow k a b n m it] s (λ_ s2=>∃m,s2=m++s'):=by
 refine hX.f250.cF ?_
 unfold ag4
 refine Wq<|Wa (.box rfl rfl) λb3=>Wn<|Wo<|Wv rfl<|Wf rfl<|Wl rfl .here rfl rfl rfl<|Wh rfl rfl (cD _ _)<|Wr (.nilchk rfl rfl)<|Wf rfl<|Ww<|Wt rfl rfl rfl (.there hu) hr rfl<|Wn<|Wm .nil ⟨[_],rfl⟩
theorem acK (hX:BaseX P K F T){k a b m:Int}{it:ID}(hu:oY bp (.r false L 14) (.r false (L.set i ({ o with sick:=decide (n=1) }:OD).row) 14) s s')(hr:L[i]?=some o.row) :
  bB P K (F 251) [.ptr (some ⟨bp,i,0⟩),.agg<|evRow k a b n m it] s (λ_ s2=>∃m,s2=m++s'):=by
 refine hX.f251.cF ?_
 unfold ag5
 refine Wq<|Wa (.box rfl rfl) λb3=>Wn<|Wo<|Wv rfl<|Wf rfl<|Wl rfl .here rfl rfl rfl<|Wh rfl rfl (cD _ _)<|Wr (.nilchk rfl rfl)<|Wf rfl<|Ww<|Wt rfl rfl rfl (.there hu) hr rfl<|Wn<|Wm .nil ⟨[_],rfl⟩
structure BT where
 o:OD
 c:CH
@[reducible] def BT.row (x:BT):List AV:=[iv x.o.id,iv x.o.gE,iv x.o.owner,iv x.o.aQ,iv x.o.ci,.bool x.o.RU,.bool x.o.sick,.bool x.o.token,iv x.o.Y6,iv x.o.stamp,iv x.o.NP,iv x.o.block,.bool x.o.J9,nilS,iv x.c.p,iv x.c.t,iv x.c.k]
def beastsT (g:ED->CH->CH)(d:SD)(C:List CD)(l:List Int):List BT:=l.filterMap λid=>match d.obj id,chOf g d C id with | some o,some c=>some ⟨o,c⟩ | _,_=>none
structure agQ (P:Program)(K:Orc)(bl:Nat)(EL:List (List AV))(d:SD)(y:AV)(J:List BT->SH->Prop):Prop where
 call:∀L t s(x:BT)m,L.length<=400->J L t->aH bl EL d (m++t) s->c6 P K y [.agg x.row] s (λv s'=>v=.bool true/\∃t',aH bl EL d (m++t') s'/\J (L++[x]) t')
def afy (P:Program)(K:Orc)(bl:Nat)(EL:List (List AV))(d:SD)(f:FuncId)(cap:List AV)(t:SH)(out:List BT):Prop:=
 ∀y J t' s',agQ P K bl EL d y J->(∀L t2,J L t2->∀q∈t,q∈t2)->J [] t'->aH bl EL d t' s'->bB P K f (y::cap) s' (λ_ s''=>∃t'',aH bl EL d t'' s''/\J out t'')
variable {bf:Nat}{bl:Nat}{aZ:AV}{bE:AV}{c0:Int}{c1:Int}{c2:Int}{c3:Int}{c4:Int}{EL:List (List AV)}{d:SD}{t:SH}{tF:TypeId}{g:ED->CH->CH}{C:List CD}{tl:AD->List Nat}
theorem abr (hE:GE P K F T tF g C d)(hX:BaseY P K F T)(hf:Has bf (.r false [bu bl aZ c0 c1 c2 c3 c4 bE] 8) t)(eQ:cI t aZ C){b1:Nat}(vn:Has b1 (.r false [[gm tF bf]] 1) t)(hn4:d.fi.length<=400)(hall:∀id∈d.fi,∃o,d.obj id=some o) :
  afy P K bl EL d (F 124) [.ptr (some ⟨b1,0,0⟩)] t (beastsT g d C d.fi):=by
 intro y J t' s' hY hJ h0 hs
 have hn:d.fi.length<=1000:=by have:=hE.hd.n1;omega
 have hfJ:∀{L t2},J L t2->Has bf (.r false [bu bl aZ c0 c1 c2 c3 c4 bE] 8) t2:=λh=>.ce<|hJ _ _ h _ hf.mem
 have hcJ:∀{L t2},J L t2->cI t2 aZ C:=λh=>eQ.mono λq hq=>hJ _ _ h q hq
 have hbJ:∀{L t2},J L t2->Has b1 (.r false [[gm tF bf]] 1) t2:=λh=>.ce<|hJ _ _ h _ vn.mem
 refine hX.f124.cF ?_
 unfold agR
 refine Ws<|Wq<|Wl rfl (hs.mem<|hbJ h0) rfl rfl rfl<|Wh (b:=false) rfl rfl rfl<|Wn<|Wd rfl fS<|λ_=>Wi<|Wq<|Wl rfl (hs.mem<|hbJ h0) rfl rfl rfl<|Ww<|WS.invoke (vs:=[iv 2,iv 0]) rfl hE.hM.ci rfl (Gf hE.hB hE.hC hs hE.hd<|hfJ h0) ?_
 rintro w12 s4 ⟨m,pM,hS⟩
 have YH:lenOf w12=some d.fi.length:=by rw[hS.lenOf,gq]
 refine Wr (.lenS rfl YH)<|Wv rfl<|Wn<|Wb ?_
 refine Wp (λk l ds s'=>ds=[]/\∃q t2,k=d.fi.length-q/\q<=d.fi.length/\aH bl EL d (m++t2) s'/\J (beastsT g d C<|d.fi.take q) t2/\∀x w,lk [(0,y),(1,.ptr<|some ⟨b1,0,0⟩),(12,w12),(13,iv<|.ofNat d.fi.length),(14,iv<|.ofNat q)] x=some w->lk l x=some w) ?_ (n:=d.fi.length-0)
  ⟨rfl,0,t',rfl,Nat.zero_le _,pM,h0,bX rfl⟩
 rintro k l ds s5 ⟨rfl,q,t2,rfl,hq,tn,hJ2,hl⟩
 refine Wg hl (λ_ _ h=>h) ?_
 refine Wq<|Wj rfl rfl (eT _ _)<|Wn<|Ws<|Wd rfl (λht=>Wi ?_)<|λht=>Wx ?_
 rotate_left
 ·have hge:¬q<d.fi.length:=λh=>of_decide_eq_false ht (Int.ofNat_lt.2 h)
  rw[List.take_of_length_le (by omega)]at hJ2
  exact Wm .nil ⟨t2,tn.fb,hJ2⟩
 have hlt:q<d.fi.length:=Int.ofNat_lt.1<|of_decide_eq_true ht
 have hx:d.fi[q]?=some d.fi[q]:=List.getElem?_eq_getElem hlt
 have KP:d.fi[q]∈d.fi:=List.getElem_mem _
 generalize d.fi[q]=id at hx KP
 obtain⟨o,ho⟩:=hall id KP
 have hlen:(beastsT g d C<|d.fi.take q).length<=q:=Nat.le_trans (List.length_filterMap_le ..) (by rw[List.length_take];omega)
 have mN:beastsT g d C (d.fi.take<|q+1)=beastsT g d C (d.fi.take q)++(match chOf g d C id with | some c=>[⟨o,c⟩] | none=>[]):=by
  unfold beastsT
  rw[List.take_add_one,hx,List.filterMap_append]
  congr 1
  show [id].filterMap _=_
  rw[List.filterMap_cons,ho]
  cases chOf g d C id<;>rfl
 obtain⟨ba,ra,na,ca,J5,Sp,Ma,e4,hba,me,hra⟩:=hS.at (i:=q) (by rw[gq];exact hlt)
 have hrow:Ma[ra+q]?=some [iv id]:=by rw[hra,nR,List.getElem?_map,hx];rfl
 refine Ws<|Wb<|Wq<|Wr (.iaddrS (congrArg some e4) rfl me<|by decide)<|Wl rfl (tn.mem<|.left hba) hrow rfl rfl<|Wv rfl<|Wn<|Wq<|Wl rfl (tn.mem<|.app<|hbJ hJ2) rfl rfl rfl<|Wv rfl<|Ww<|WS.invoke (vs:=[iv id]) rfl hE.hM.obj rfl (Qq hE.hB hE.hC tn hE.hd<|.app<|hfJ hJ2) ?_
 rintro w s5b ⟨hv,afd⟩
 rw[ho]at hv
 subst hv
 refine Wv rfl<|Wr (.extract rfl rfl)<|Wr (.extract rfl rfl)<|Wa (.alloc rfl) λb5=>Ww<|Wt (s':=(b5,.r false [o.row] 14)::s5b) rfl rfl rfl .here rfl rfl<|Wv rfl<|Wn ?_
 have KL:aH bl EL d ((b5,.r false [o.row] 14)::(m++t2)) ((b5,.r false [o.row] 14)::s5b):=afd.cons
 refine Wq<|Wl rfl (KL.mem<|.there<|.app<|hbJ hJ2) rfl rfl rfl<|Wv rfl<|Ww<|WS.invoke (vs:=[iv id]) rfl hE.hM.chars rfl (pE hE.hB hE.hC hE.hT KL hE.hd (.there<|.app<|hfJ hJ2) ((hcJ hJ2).mono λp hp=>by simp[hp]) hE.hO) ?_
 rintro w s7 ⟨hv,hs7⟩
 cases vo:chOf g d C id with
 | none=>
  rw[vo]at hv mN
  subst hv
  refine Wv rfl<|Wr (.extract rfl rfl)<|Wr (.extract rfl rfl)<|Wa (.alloc rfl) λb7=>Ww<|Wt (s':=(b7,.r false [(⟨0,0,0⟩:CH).row] 3)::s7) rfl rfl rfl .here rfl rfl<|Wv rfl<|Wn<|Wq<|Wv rfl<|Wv rfl<|Wk<|Wk<|Wk<|Wk<|Wk<|Wk<|Wr (.bj rfl rfl)<|Wn<|Wd rfl fS<|λ_=>Wi<|Wo<|Wj rfl rfl (bM<|by omega)<|Wv rfl<|Wn ?_
  exact⟨d.fi.length-(q+1),by omega,rfl,q+1,t2,rfl,hlt,aH.bK (m:=[_])<|aH.fb (x:=[_]) hs7,by rw[mN,List.append_nil];exact hJ2,bX rfl⟩
 | some c=>
  rw[vo]at hv mN
  subst hv
  refine Wv rfl<|Wr (.extract rfl rfl)<|Wr (.extract rfl rfl)<|Wa (.alloc rfl) λb7=>Ww<|Wt (s':=(b7,.r false [c.row] 3)::s7) rfl rfl rfl .here rfl rfl<|Wv rfl<|Wn ?_
  have hs8:aH bl EL d (((b7,.r false [c.row] 3)::(b5,.r false [o.row] 14)::m)++t2) ((b7,.r false [c.row] 3)::s7):=hs7.cons
  refine Wq<|Wv rfl<|Wv rfl<|Wy<|Wv rfl<|Wy<|Wl (cs:=o.row) rfl (hs8.mem<|.there .here) rfl rfl rfl<|Wy<|Wl (cs:=c.row) rfl .here rfl rfl rfl<|Wy<|Wr (.build (cs:=(⟨o,c⟩:BT).row) rfl rfl)<|Wy<|Ww<|WS.call (vs:=[.agg (⟨o,c⟩:BT).row]) rfl rfl (hY.call _ _ _ _ ((b7,.r false [c.row] 3)::(b5,.r false [o.row] 14)::m) (by omega) hJ2 hs8) ?_
  rintro w9 s9 ⟨rfl,t9,hs9,hJ9⟩
  refine Wy<|Wr (.un (v:=.bool false) rfl rfl)<|Wr (.eb rfl rfl)<|Wn<|Wd rfl fS<|λ_=>Wi<|Wo<|Wj rfl rfl (bM<|by omega)<|Wv rfl<|Wn ?_
  exact⟨d.fi.length-(q+1),by omega,rfl,q+1,t9,rfl,hlt,aH.fb (x:=[_,_]) hs9,by rw[mN];exact hJ9,bX rfl⟩
theorem abK (hX:BaseY P K F T)(hv:partCells 1 v=some [v]):bB P K (F 79) [v] s (λw s'=>∃b,w=.func (F 124) [] [.ptr (some ⟨b,0,0⟩)]/\s'=(b,.r false [[v]] 1)::s):=by
 refine hX.f79.cF ?_
 unfold a79
 refine Vk (k:=Wa (.box rfl hv) λb1=>Wv rfl<|Wn ?_)
 exact Wq<|Wr (.mkfn rfl rfl)<|Wv rfl<|Wn<|We<|Wm (.tmp rfl .nil) ⟨b1,rfl,rfl⟩
open Go.Proofs
set_option maxRecDepth 100000
def aih:CF:=NF (cd 78 53) _
def aii:CF:=NF (cd 60 25) _
def akQ:CF:=NF (cd 64 17) _
def af0:CF:=NF (cd 138 60) _
def aij:CF:=NF (cd 147 30) _
def ak2:CF:=NF (cd 148 17) _
def aik:CF:=NF (cd 193 8) _
def ail:CF:=NF (cd 194 8) _
def aim:CF:=NF (cd 195 3) _
def ain:CF:=NF (cd 196 6) _
def aio:CF:=NF (cd 207 6) _
def aiq:CF:=NF (cd 247 59) _
def air:CF:=NF (cd 252 70) _
def aiB:CF:=NF (cd 50 10) _
def aiC:CF:=NF (cd 132 11) _
def aiD:CF:=NF (cd 133 9) _
def aiE:CF:=NF (cd 134 15) _
def aiF:CF:=NF (cd 192 19) _
structure BaseQ (P:Program)(K:Orc)(F:Nat->FuncId)(T:Nat->TypeId):Prop where
 f109:FnK P K (F 109) 53 [(.tmp 4)] (aih F T)
 f128:FnK P K (F 128) 25 [] (aii F T)
 f176:FnK P K (F 176) 60 [(.tmp 8)] (af0 F T)
 f182:FnK P K (F 182) 30 [(.cell 6<|T 3),(.cell 7<|T 4)] (aij F T)
 f208:FnK P K (F 208) 8 [(.tmp 3)] (aik F T)
 f209:FnK P K (F 209) 8 [(.tmp 3)] (ail F T)
 f210:FnK P K (F 210) 3 [(.tmp 2)] (aim F T)
 f211:FnK P K (F 211) 6 [(.tmp 4)] (ain F T)
 f213:FnK P K (F 213) 6 [(.tmp 4)] (aio F T)
 f239:FnK P K (F 239) 59 [] (aiq F T)
 f240:FnK P K (F 240) 70 [] (air F T)
 f346:FnK P K (F 346) 10 [(.tmp 6)] (aiB F T)
 f348:FnK P K (F 348) 11 [(.tmp 6)] (aiC F T)
 f349:FnK P K (F 349) 9 [(.tmp 4)] (aiD F T)
 f350:FnK P K (F 350) 15 [(.tmp 4)] (aiE F T)
 f351:FnK P K (F 351) 19 [(.tmp 4)] (aiF F T)
def ala:CF:=NF (cd 310 10) _
def alb:CF:=NF (cd 311 15) _
def aiu:CF:=NF (cd 312 6) _
def alc:CF:=NF (cd 313 7) _
def ald:CF:=NF (cd 314 7) _
def alf:CF:=NF (cd 316 9) _
def alh:CF:=NF (cd 324 15) _
def ag6:CF:=NF (cd 325 22) _
def aiw:CF:=NF (cd 328 7) _
def ag7:CF:=NF (cd 330 15) _
structure BaseR (P:Program)(K:Orc)(F:Nat->FuncId)(T:Nat->TypeId):Prop where
 f254:FnK P K (F 254) 6 [(.tmp 2)] (aiu F T)
 f267:FnK P K (F 267) 22 [] (ag6 F T)
 f270:FnK P K (F 270) 7 [] (aiw F T)
 f272:FnK P K (F 272) 15 [] (ag7 F T)
def a82:CF:=NF (cd 12 48) _
def a83:CF:=NF (cd 15 55) _
def a84:CF:=NF (cd 16 48) _
def a85:CF:=NF (cd 18 76) _
def akM:CF:=NF (cd 54 36) _
def akN:CF:=NF (cd 57 20) _
def akO:CF:=NF (cd 59 24) _
def agS:CF:=NF (cd 62 5) _
def akP:CF:=NF (cd 63 108) _
def agX:CF:=NF (cd 142 13) _
def akY:CF:=NF (cd 143 42) _
def akZ:CF:=NF (cd 144 8) _
def ak0:CF:=NF (cd 145 11) _
def ak1:CF:=NF (cd 146 13) _
def ak3:CF:=NF (cd 206 19) _
structure BaseP (P:Program)(K:Orc)(F:Nat->FuncId)(T:Nat->TypeId):Prop where
 f85:FnK P K (F 85) 76 [] (a85 F T)
 f129:FnK P K (F 129) 5 [(.tmp 2)] (agS F T)
 f177:FnK P K (F 177) 13 [(.tmp 4)] (agX F T)
theorem ac0 (h:-9223372036854775808<=m+n/\m+n<=9223372036854775807):binV .add (iv m) (iv n)=some (iv (m+n)):=
 @Bq (mkSg (λ_=>0) (λ_=>.undef)<|λ_=>.deferred) m n h
theorem abN (hR:BaseR P K F T):bB P K (F 254) [iv n] s (λv s'=>v=iv (oP n)/\s'=s):=by
 refine hR.f254.cF ?_
 refine Vk (k:=Wr (.mmx rfl rfl)<|Wr (.mmx rfl rfl)<|Vk (k:=We<|Wm (.tmp rfl .nil) ?_))
 exact⟨rfl,rfl⟩
def isAt (d:SD)(C:List CD)(p:OD->CD->Bool)(id:Int):Bool:=match d.obj id with
 | some o=>(match C[o.gE.toNat]? with | some c=>p o c | none=>false)
 | none=>false
def aaO (d:SD)(C:List CD)(p:OD->CD->Bool)(l:List Int):List Int:=l.filter (isAt d C p)
theorem adp (d:SD)(C:List CD)(p:OD->CD->Bool)(l:List Int)(x:Int):aaO d C p (l++[x])=aaO d C p l++if isAt d C p x then [x]else []:=by
 unfold aaO
 rw[List.filter_append]
 congr 1
 rw[List.filter_cons]
 cases isAt d C p x<;>rfl
theorem abS (hE:GE P K F T tF g C d)(hQ:BaseQ P K F T)(hf:Has bf (.r false [bu bl aZ c0 c1 c2 c3 c4 bE] 8) t)(eQ:cI t aZ C)(hs:aH bl EL d t s)(hcd:∀o∈d.ob,∃j:Nat,o.gE=.ofNat j/\j<C.length)(hall:∀id∈d.fi,∃o,d.obj id=some o)
  {fv:AV} {p:OD->CD->Bool} (VZ:∀o c t' s',o∈d.ob->c∈C->(∀q∈t,q∈t')->aH bl EL d t' s'->c6 P K fv [.agg o.row,.agg c.row] s' (λv s''=>v=.bool (p o c)/\aH bl EL d t' s'')) :
  bB P K (F 109) [.ptr (some ⟨bf,0,0⟩),fv] s (λv s'=>∃m,aH bl EL d (m++t) s'/\Src m 1 v (nR<|aaO d C p d.fi)):=by
 have hn:=hE.hd.n1
 refine hQ.f109.cF ?_
 refine Vk (k:=Ww<|W1 (iU hE.hB hs hE.hd hf) ?_)
 rintro _ s2 ⟨m,dt,pv,ov,lv,hv,gv,ev,fi,sv,wv,rfl,hR⟩
 refine Wa (.alloc rfl) λb6=>Ww<|Wt (s':=(b6,.r false [SD.cells d pv ov lv hv gv ev fi sv wv] 25)::_) rfl rfl rfl .here rfl rfl<|Wn<|Ws<|Wq<|W (k:=?_)
 have gw:aH bl EL d ((b6,.r false [d.cells pv ov lv hv gv ev fi sv wv] 25)::(m++t)) ((b6,.r false [d.cells pv ov lv hv gv ev fi sv wv] 25)::s2):=dt.cons
 generalize (b6,HO.r false [d.cells pv ov lv hv gv ev fi sv wv] 25)::s2=s3 at gw |-
 have hlf:lenOf fi=some d.fi.length:=by rw[hR.fi.lenOf,gq]
 refine W (k:=Wn<|Wb ?_)
 refine Wp (λk l ds s'=>ds=[]/\∃q out og j,k=d.fi.length-q/\q<=d.fi.length/\aH bl EL d (og++(j++((b6,.r false [d.cells pv ov lv hv gv ev fi sv wv] 25)::(m++t)))) s'/\Gr 1 out (nR<|aaO d C p<|d.fi.take q) og/\∀x w,lk [(0,.ptr<|some ⟨bf,0,0⟩),(1,fv),(5,out),(6,.ptr<|some ⟨b6,0,0⟩),(13,fi),(14,iv<|.ofNat d.fi.length),(15,iv<|.ofNat q)] x=some w->lk l x=some w) ?_ (n:=d.fi.length-0)
  ⟨rfl,0,nilS,[],[],rfl,Nat.zero_le _,gw,.nil,bX rfl⟩
 rintro k l ds s5 ⟨rfl,q,out,og,j,rfl,hq,tn,hG,hl⟩
 refine Wg hl (λ_ _ h=>h) ?_
 refine Wq<|Wj rfl rfl (eT _ _)<|Wn<|Ws<|Wd rfl (λht=>Wi ?_)<|λht=>Wx ?_
 rotate_left
 ·have hge:¬q<d.fi.length:=λh=>of_decide_eq_false ht (Int.ofNat_lt.2 h)
  rw[List.take_of_length_le (by omega)]at hG
  refine Vk (k:=We<|Wm (.tmp rfl .nil) ?_)
  exact⟨og++(j++((b6,.r false [d.cells pv ov lv hv gv ev fi sv wv] 25)::m)),tn.tT<|uS,hG.out.src.mono λq hq=>by simp[hq]⟩
 have hlt:q<d.fi.length:=Int.ofNat_lt.1<|of_decide_eq_true ht
 have hx:d.fi[q]?=some d.fi[q]:=List.getElem?_eq_getElem hlt
 have KP:d.fi[q]∈d.fi:=List.getElem_mem _
 generalize d.fi[q]=id at hx KP
 obtain⟨o,ho⟩:=hall id KP
 obtain⟨i,hi,xG⟩:∃i,d.find id=some i/\d.ob[i]?=some o:=by
  unfold SD.obj at ho
  cases h:d.find id with
  | none=>rw[h]at ho;cases ho
  | some i=>rw[h]at ho;exact⟨i,rfl,ho⟩
 have V4:o∈d.ob:=List.mem_of_getElem? xG
 obtain⟨k,hk,hkl⟩:=hcd o V4
 have hc:C[k]?=some C[k]:=List.getElem?_eq_getElem hkl
 have IR:C[k]∈C:=List.getElem_mem _
 generalize C[k]=c at hc IR
 have hsn:=adp d C p (d.fi.take q) id
 rw[show d.fi.take q++[id]=d.fi.take (q+1) by rw[List.take_add_one,hx];rfl]at hsn
 have hpc:isAt d C p id=p o c:=by unfold isAt;rw[ho];show(match C[o.gE.toNat]? with | some c=>p o c | none=>false)=_;rw[hk,show(Int.ofNat k).toNat=k from rfl,hc]
 rw[hpc]at hsn
 obtain⟨ba,ra,na,ca,J5,Sp,Ma,e4,hba,me,hra⟩:=hR.fi.at (i:=q) (by rw[gq];exact hlt)
 have hrow:Ma[ra+q]?=some [iv id]:=by rw[hra,nR,List.getElem?_map,hx];rfl
 subst e4
 have amo:Has ba (.r Sp Ma 1) (m++t):=.left hba
 refine Vk (k:=WP.fd λbd1=>Dp (.faddr rfl)<|WD.lk rfl .nil (.load rfl (.there<|tn.mem<|.app<|.app .here) rfl rfl rfl)<|Dl rfl .nil (.load (cs:=SD.cells d pv ov lv hv gv ev (AV.slice (some<|Pl.mk ba ra 0) na ca J5 1) sv wv) rfl (.there<|tn.mem<|.app<|.app .here) rfl rfl rfl)<|Dp (.mv rfl) ?_)
 refine Dc .nil<|W1 (lg hE.hB (hR.ob.mono λq hq=>.tail _ (tn.mem<|.ce<|by simp[hq]).mem) hE.hd) ?_
 rintro _ _ ⟨rfl,mF,rfl⟩
 rw[hi]
 obtain⟨bo,ro,no,co,ZE,WE,Mo,eo,IM,Uw,hro⟩:=hR.ob.at (i:=i) (by rw[fy,List.length_map];exact(List.getElem?_eq_some_iff.1 xG).1)
 have ahD:Mo[ro+i]?=some o.row:=by rw[hro,fy,List.getElem?_map,xG];rfl
 have ajG:=hR.ob.same
 subst eo
 have ams:Has bo (.r WE Mo 14) (m++t):=.left IM
 refine Dp (.iaddrS rfl rfl (by omega)<|by decide)<|Dl rfl .nil (.load rfl (.app<|.there<|tn.mem<|.app<|.app<|.there<|.left IM) ahD rfl rfl)<|WD.al (.alloc rfl) rfl ?_
 refine Dc (.yes (show bit 255 7=true from rfl) rfl (.app .here) .nil)<|Wt (s':=mF++((bd1,.r false [o.row] 14)::s5)) rfl rfl rfl (.app .here) rfl rfl<|D0 .nil ?_ ?_
 rotate_left
 ·intro x hx
  rw[List.mem_singleton.1 hx]
  refine⟨(λi hi=>by rw[List.mem_singleton.1 hi];exact(show bit 1 7=false from rfl)),Nat.zero_le _,ajG,λk _ hk=>?_⟩
  rcases B8 hk with rfl|rfl
  ·exact⟨_,rfl,.load rfl (.there<|tn.mem<|.app<|.app .here) rfl rfl rfl⟩
  ·exact⟨_,rfl,.load rfl (.app<|.there<|tn.mem<|.app<|.app .here) rfl rfl rfl⟩
 have KL:aH bl EL d ((bd1,.r false [o.row] 14)::(og++(j++((b6,.r false [d.cells pv (.slice (some ⟨bo,ro,0⟩) no co ZE 14) lv hv gv ev (.slice (some ⟨ba,ra,0⟩) na ca J5 1) sv wv] 25)::(m++t))))) (mF++((bd1,.r false [o.row] 14)::s5)):=tn.cons.bK
 generalize mF++((bd1,HO.r false [o.row] 14)::s5)=s6 at KL |-
 obtain⟨bc,rc,nc,cc',slc,roc,Mc,ec,hbc,hic,hrc⟩:=eQ.src.at (i:=k) (by rw[List.length_map];exact hkl)
 have aaV:Mc[rc+k]?=some c.row:=by rw[hrc,List.getElem?_map,hc];rfl
 have hlc:lenOf aZ=some C.length:=by rw[eQ.src.lenOf,List.length_map]
 have ajq:binV .lss (iv o.gE) (iv<|.ofNat C.length)=some (.bool true):=by
  rw[eT,hk];exact congrArg (λb=>some<|AV.bool b)<|decide_eq_true<|Int.ofNat_lt.2 hkl
 refine Ws<|WP.bD<|Dp (.faddr rfl)<|Dl rfl .nil (.load rfl (KL.mem .here) rfl rfl rfl)<|Dp (.mv rfl)<|Dp (.nilchk rfl rfl)<|Dp (.faddr rfl)<|Dl rfl .nil (.load rfl (KL.mem<|.there<|.app<|.app<|.there<|.app hf) rfl rfl rfl)<|Dp (.lenS rfl hlc)<|Dp (.arith rfl rfl ajq)<|Dp (.mv rfl)<|Dy<|Dp (.mv rfl)<|Dy<|Dl rfl .nil (.load (cs:=OD.row o) rfl (KL.mem .here) rfl rfl rfl)<|Dy<|Dp (.mv rfl)<|Dy<|Dp (.nilchk rfl rfl)<|Dy<|Dp (.faddr rfl)<|Dy<|Dl rfl .nil (.load rfl (KL.mem<|.there<|.app<|.app<|.there<|.app hf) rfl rfl rfl)<|Dy<|Dp (.faddr rfl)<|Dy<|Dl rfl .nil (.load rfl (KL.mem .here) rfl rfl rfl)<|Dy<|Dp (.iaddrS (congrArg some ec) (congrArg (λx=>some<|iv x) hk) hic<|by decide)<|Dy<|Dl rfl .nil (.load rfl (KL.mem<|.there<|.app<|.app<|.there<|.app hbc) aaV rfl rfl)<|Dy ?_
 refine Dc .nil<|WS.call (vs:=[AV.agg (OD.row o),AV.agg [AV.str (CD.nm c),iv<|CD.kind c,iv<|CD.n2 c,iv<|CD.n3 c,iv<|CD.n4 c,iv<|CD.n5 c,iv<|CD.n6 c,iv<|CD.power c,iv<|CD.qn c,iv<|CD.keys c,CD.av c]]) rfl rfl (VZ o c _ s6 V4 IR (λq hq=>by simp[hq]) KL) ?_
 rintro _ s7 ⟨rfl,hs7⟩
 cases Sh:p o c with
 | false=>
  rw[Sh]at hsn
  refine Dp (.eb rfl rfl)<|D0 .nil (Vk (k:=?_))<|λo h=>nomatch h
  exact⟨d.fi.length-(q+1),by omega,rfl,q+1,out,og,j,rfl,hlt,hs7.tail,by rw[hsn];simpa using hG,bX rfl⟩
 | true=>
  rw[Sh]at hsn
  obtain⟨u,hu,hback⟩:=hs7.tail.split
  refine Dp (.eb rfl rfl)<|D0 .nil (Vk (k:=Wa (.bslice (fZ rfl rfl) rfl) λb49=>?_))<|λo h=>nomatch h
  refine Ww<|WS.pre (s':=((b49,.r false [[iv id]] 1)::u)++(og++(j++((b6,.r false [d.cells pv (.slice (some ⟨bo,ro,0⟩) no co ZE 14) lv hv gv ev (.slice (some ⟨ba,ra,0⟩) na ca J5 1) sv wv] 25)::(m++t))))) (ak λc w h0 h1 h2 hq=>by have:=hq _ _ hu;simp only[h1,h2]at this |-;omega)<|WS.append_gr rfl hG rfl (Src.all (L:=[[iv id]]) .here) (by omega) (by rw[gq];have:=List.length_filter_le (isAt d C p) (d.fi.take q);have:=List.length_take_le q d.fi;unfold aaO;show _+1<=_;omega) (by omega) λv' o' jk xB=>Vk (k:=?_)
  refine⟨d.fi.length-(q+1),by omega,rfl,q+1,v',o',(b49,.r false [[iv id]] 1)::(jk++j),rfl,hlt,(hback<|o'++(((b49,.r false [[iv id]] 1)::(jk++j))++((b6,.r false [d.cells pv (.slice (some ⟨bo,ro,0⟩) no co ZE 14) lv hv gv ev (.slice (some ⟨ba,ra,0⟩) na ca J5 1) sv wv] 25)::(m++t)))).perm (uS),?_,bX rfl⟩
  rw[hsn]
  simpa[nR]using xB
def C5 (k e:Int)(c:CD):Bool:=c.ab.any λa=>decide (a.kind=k)&&decide (a.ev=e)
variable {e:Int}{bk be:Nat}
theorem acB (hQ:BaseQ P K F T){a:AD}(hk:Has bk (.r false [[iv k]] 1) s)(he:Has be (.r false [[iv e]] 1) s):bB P K (F 350) [.agg a.row,.ptr (some ⟨bk,0,0⟩),.ptr (some ⟨be,0,0⟩)] s (λw s'=>w=.bool (decide (a.kind=k)&&decide (a.ev=e))/\∃m,s'=m++s):=by
 refine hQ.f350.cF ?_
 have h8:eqBy 20 .pi (iv a.kind) (iv k)=some (decide<|a.kind=k):=cD _ _
 cases h1:decide (a.kind=k) with
 | false=>
  rw[h1]at h8
  refine Vk (k:=λb3=>Vk (k:=We<|Wm (.tmp rfl .nil) ?_))
  exact⟨rfl,[_],rfl⟩
 | true=>
  rw[h1]at h8
  refine Wq<|Wa (.box rfl rfl) λb3=>Wv rfl<|Wn<|Wq<|Wf rfl<|Wl rfl .here rfl rfl rfl<|Wl rfl (.there hk) rfl rfl rfl<|Wh rfl rfl h8<|Wv rfl<|Wy<|Wf rfl<|Wy<|Wl rfl .here rfl rfl rfl<|Wy<|Wl rfl (.there he) rfl rfl rfl<|Wy<|Wh rfl rfl (cD _ _)<|Wr (.eb rfl rfl)<|Wv rfl<|Wn<|We<|Wm (.tmp rfl .nil) ?_
  exact⟨rfl,[_],rfl⟩
def aeO (k e:Int):List AV->Bool
 | .int _ a::.int _ b::_=>decide (a=k)&&decide (b=e)
 | _=>false
theorem BaseQ.aiO (hQ:BaseQ P K F T):FnK P K (F 349) 9 [.tmp 4] (af4 (F 351)):=hQ.f349
theorem BaseQ.aiP (hQ:BaseQ P K F T):FnK P K (F 351) 19 [.tmp 4] (CU true 13):=hQ.f351
theorem adB (k e:Int)(l:List AD):((l.map AD.row).findIdx? (aeO k e)).isSome=l.any λa=>decide (a.kind=k)&&decide (a.ev=e):=by
 rw[List.findIdx?_isSome,List.any_map]
 rfl
theorem abx (hQ:BaseQ P K F T){c:CD}(hk:Has bk (.r false [[iv k]] 1) s)(he:Has be (.r false [[iv e]] 1) s)(hc:Src s 13 c.av (c.ab.map AD.row))(hn:c.ab.length<=1000) :
  bB P K (F 348) [.agg o.row,.agg c.row,.ptr<|some ⟨bk,0,0⟩,.ptr<|some ⟨be,0,0⟩] s (λw s'=>w=.bool (C5 k e c)/\∃m,s'=m++s):=by
 refine hQ.f348.cF ?_
 refine Vk (k:=λb4=>Wa (.box rfl rfl) λb5=>Vk (k:=?_))
 have hidx:∀{x y:Nat × HO},bB P K (F 351) [c.av,.func (F 350) [] [.ptr (some ⟨bk,0,0⟩),.ptr<|some ⟨be,0,0⟩]] (x::y::s) (λw s'=>w=CV ((c.ab.map AD.row).findIdx? (aeO k e))/\∃n,s'=n++(x::y::s)):=by
  intro x y
  refine hQ.aiP.cF<|vz (aeO k e) (hc.mono λq hq=>by simp[hq]) (by decide) (.inl rfl) (by rw[List.length_map];omega) (λrow hr=>?_) (λrow hr z=>?_) λn=>⟨rfl,n,rfl⟩
  ·obtain⟨a,_,rfl⟩:=List.mem_map.1 hr
   rfl
  ·obtain⟨a,_,rfl⟩:=List.mem_map.1 hr
   exact c6.func<|acB hQ (.app<|.there<|.there hk)<|.app<|.there<|.there he
 have aji:∀{x y:Nat × HO},bB P K (F 349) [c.av,.func (F 350) [] [.ptr (some ⟨bk,0,0⟩),.ptr<|some ⟨be,0,0⟩]] (x::y::s) (λw s'=>w=.bool (C5 k e c)/\∃n,s'=n++(x::y::s)):=by
  intro x y
  refine hQ.aiO.cF<|af5 hidx λn=>⟨?_,n,rfl⟩
  rw[adB]
  rfl
 refine Ww<|Wz [CD.av c,AV.func (F 350) [] [AV.ptr (some<|Pl.mk bk 0 0),AV.ptr<|some<|Pl.mk be 0 0]] rfl rfl (aji) ?_
 rintro _ _ ⟨rfl,m,rfl⟩
 refine Vk (k:=We<|Wm (.tmp rfl .nil) ?_)
 exact⟨rfl,m++[(b5,.r false [c.row] 11),(b4,.r false [o.row] 14)],by simp⟩
theorem aas (hE:GE P K F T tF g C d)(hQ:BaseQ P K F T)(hf:Has bf (.r false [bu bl aZ c0 c1 c2 c3 c4 bE] 8) t)(eQ:cI t aZ C)(hs:aH bl EL d t s)(hcd:∀o∈d.ob,∃j:Nat,o.gE=.ofNat j/\j<C.length)(hall:∀id∈d.fi,∃o,d.obj id=some o) :
  bB P K (F 346) [.ptr (some ⟨bf,0,0⟩),iv k,iv e] s (λv s'=>∃m,aH bl EL d (m++t) s'/\Src m 1 v (nR<|aaO d C (λ_ c=>C5 k e c) d.fi)):=by
 refine hQ.f346.cF ?_
 refine Vk (k:=λb4=>Wa (.box rfl rfl) λb5=>Vk (k:=?_))
 have nr:aH bl EL d ((b5,.r false [[iv e]] 1)::(b4,.r false [[iv k]] 1)::t) ((b5,.r false [[iv e]] 1)::(b4,.r false [[iv k]] 1)::s):=hs.cons.cons
 refine Ww<|Wz [AV.ptr (some<|Pl.mk bf 0 0),AV.func (F 348) [] [AV.ptr (some<|Pl.mk b4 0 0),AV.ptr<|some<|Pl.mk b5 0 0]] rfl rfl (abS (p:=λ_ c=>C5 k e c) hE hQ (.there<|.there hf) (eQ.mono λq hq=>by simp[hq]) nr hcd hall<|λo c t' s' ho hc hq h=>c6.func<|(abx hQ (h.mem<|.ce<|hq _<|by simp) (h.mem<|.ce<|hq _<|by simp) ((eQ.ab c hc).mono λq h2=>(h.mem<|.ce<|hq _<|by simp[h2]).mem)<|eQ.nb c hc).post λw s2 h2=>⟨h2.1,by obtain⟨m,rfl⟩:=h2.2;exact h.bK⟩) ?_
 rintro v s2 ⟨m,dt,hS⟩
 refine Vk (k:=We<|Wm (.tmp rfl .nil) ?_)
 exact⟨m++[(b5,.r false [[iv e]] 1),(b4,.r false [[iv k]] 1)],by rw[List.append_assoc];exact dt,hS.mono λq hq=>by simp[hq]⟩
structure BdX (P:Program)(K:Orc)(F:Nat->FuncId)(T:Nat->TypeId)(tF:TypeId)(g:ED->CH->CH)(C:List CD)(d:SD):Prop where
 hE:GE P K F T tF g C d
 hQ:BaseQ P K F T
 hv:meth P tF "Having"=some (F 346)
 do_:meth P tF "Do"=some (F 15)
 cd:∀o∈d.ob,∃j:Nat,o.gE=.ofNat j/\j<C.length
 all:∀id∈d.fi,∃o,d.obj id=some o
theorem ac1 (h:∀c∈C,C5 k e c=false)(l:List Int):aaO d C (λ_ c=>C5 k e c) l=[]:=by
 unfold aaO
 refine List.filter_eq_nil_iff.2 λid _=>?_
 unfold isAt
 cases d.obj id with
 | none=>simp
 | some o=>
  cases hc:C[o.gE.toNat]? with
  | none=>simp[hc]
  | some c=>simp[hc,h c<|List.mem_of_getElem? hc]
theorem acg (hQ:BaseQ P K F T)(hv:partCells 1 v=some [v]):bB P K (F 211) [v,iv k] s (λw s'=>∃b b',w=.func (F 239) [] [.ptr (some ⟨b,0,0⟩),.ptr (some ⟨b',0,0⟩)]/\s'=(b',.r false [[iv k]] 1)::(b,.r false [[v]] 1)::s):=by
 refine hQ.f211.cF ?_
 refine Wq<|Wa (.box rfl hv) λb2=>Wa (.box rfl rfl) λb3=>Wv rfl<|Wn ?_
 refine Wq<|Wr (.mkfn rfl rfl)<|Wv rfl<|Wn<|We<|Wm (.tmp rfl .nil) ?_
 exact⟨b2,b3,rfl,rfl⟩
theorem aem (ho:d.ob[i]?=some o)(hid:o'.id=o.id)(id:Int):({ d with ob:=d.ob.set i o' }:SD).find id=d.find id:=by
 have hm:(d.ob.set i o').map OD.id=d.ob.map OD.id:=by
  rw[List.map_set,hid]
  refine List.ext_getElem? λj=>?_
  rw[List.getElem?_set]
  split
  ·rename_i e
   subst e
   split
   ·rw[List.getElem?_map,ho];rfl
   ·rename_i h
    rw[List.length_map]at h
    exact absurd (List.getElem?_eq_some_iff.1 ho).1 h
  ·rfl
 have key:∀l:List OD,l.findIdx? (λo=>decide<|o.id=id)=(l.map OD.id).findIdx? λa=>decide (a=id):=λl=>(findIdx?_map' OD.id (λa=>decide<|a=id) l).symm
 show(d.ob.set i o').findIdx? _=d.ob.findIdx? _
 rw[key,key,hm]
def mxI (a b:Int):Int:=match ilt a b with | true=>b | false=>a
def mnI (a b:Int):Int:=match ilt b a with | true=>b | false=>a
theorem aeD (a b:Int):mxI a b=max a b:=by
 unfold mxI
 rw[du]
 by_cases h:a<b
 ·rw[decide_eq_true h];show b=_;omega
 ·rw[decide_eq_false h];show a=_;omega
theorem agp (a b:Int):mnI a b=min a b:=by
 unfold mnI
 rw[du]
 by_cases h:b<a
 ·rw[decide_eq_true h];show b=_;omega
 ·rw[decide_eq_false h];show a=_;omega
def btR (l:List BT):List (List AV):=l.map BT.row
open Go.Proofs
set_option maxRecDepth 100000
@[reducible] def afC:AC:=NF (pt (cd 142 13 (λn=>n) λn=>n) [1,0,1,0,0]) _
@[reducible] def afD:AC:=NF (pt (cd 142 13 (λn=>n) λn=>n) [1,0,1,0,1]) _
def adV (b2:Nat)(W:SH)(out:List BT)(t:SH):Prop:=∃lv og j,t.Perm ((b2,HO.r false [[lv]] 1)::(og++(j++W)))/\GrE 17 lv (btR out) og
variable {b2:Nat}
theorem abG (hX:BdX P K F T tF g C d)(hno:∀c∈C,C5 5 k c=false)(hf:Has bf (.r false [bu bl aZ c0 c1 c2 c3 c4 bE] 8) t)(eQ:cI t aZ C)(hs:aH bl EL d t s){y:AV}{b3:Nat}(h2:Has b2 (.r false [[gm tF bf]] 1) t)(h3:Has b3 (.r false [[iv k]] 1) t) :
  bB P K (F 240) [y,.ptr<|some ⟨b2,0,0⟩,.ptr<|some ⟨b3,0,0⟩] s (λ_ s'=>aH bl EL d t s'):=by
 refine hX.hQ.f240.cF ?_
 refine Vk (k:=Ww<|WS.invoke (vs:=[]) rfl (hX.hE.hM.aZ ) rfl ( BS hX.hE.hG hs hf eQ) ?_)
 rintro v4 s2 ⟨m,dt,hS⟩
 refine Vk (k:=Ww<|WS.invoke (vs:=[AV.int IntKind.i64 (Int.ofNat 5),iv k]) rfl (hX.hv ) rfl ( aas hX.hE hX.hQ (.app hf) (eQ.mono λq hq=>by simp[hq]) dt hX.cd hX.all) ?_)
 rintro v15 s3 ⟨m3,gw,hS3⟩
 rw[ac1 (k:=Int.ofNat 5) hno]at hS3
 have ahz:lenOf v15=some 0:=hS3.lenOf
 refine Vk (k:=WP.dA<|Vk (k:=Wx<|Wm .nil ?_))
 exact gw.fb.fb
theorem acI (hQ:BaseQ P K F T)(hv:partCells 1 v=some [v]):bB P K (F 213) [v,iv k] s (λw s'=>∃b b',w=.func (F 240) [] [.ptr (some ⟨b,0,0⟩),.ptr (some ⟨b',0,0⟩)]/\s'=(b',.r false [[iv k]] 1)::(b,.r false [[v]] 1)::s):=by
 refine hQ.f213.cF ?_
 refine Vk (k:=Wa (.box rfl hv) λb2=>Wa (.box rfl rfl) λb3=>Vk (k:=We<|Wm (.tmp rfl .nil) ?_))
 exact⟨b2,b3,rfl,rfl⟩
variable {W:SH}{out:List BT}
theorem adV.sub (h:adV b2 W out t):∀q∈W,q∈t:=by
 obtain⟨lv,og,j,hp,_⟩:=h
 exactλq hq=>hp.mem_iff.2<|by simp[hq]
theorem ads {lb D:Nat}{l1:Sl}{asg body:Code}(ha:cc P 13 asg=afC)(hb:cc P 13 body=afD)(e2:lk l1 2=some (.ptr (some ⟨b2,0,0⟩))) :
  agQ P K bl EL d (.yield lb) (λL t=>adV b2 ((lb,HO.lp l1 13 [7] asg body .ready none D)::W) L t):=by
 refine⟨λL t s y m hL hJ hs=>?_⟩
 obtain⟨lv,og,j,hpm,hG⟩:=hJ
 obtain⟨u,hu,hback⟩:=hs.split
 refine c6.perm (s:=(lb,.lp l1 13 [7] asg body .ready none D)::(u++(m++((b2,.r false [[lv]] 1)::(og++(j++W)))))) (ak λc w h0 h1 h2 hq=>by have:=hq _ _ hu;simp only[h1,h2,hq _ _ hpm]at this |-;omega)<|c6.canon ?_
 refine AU (by omega) ha hb ?_
 unfold afC afD
 refine Vk (k:=λb5=>Vk (k:=?_))
 refine⟨(b5,.r false [y.row] 17)::(u++(m++((b2,.r false [[lv]] 1)::(og++(j++W))))),List.Perm.swap ..,?_⟩
 refine Wg (l':=[(2,.ptr<|some ⟨b2,0,0⟩),(5,.ptr<|some ⟨b5,0,0⟩)]) (aa e2<|bX rfl) (λ_ _ h=>h) ?_
 refine Vk (k:=Wa (.bslice (fZ rfl rfl) rfl) λsf=>Ww<|WS.pre (s':=((sf,HO.r false [y.row] 17)::(lb,HO.lp l1 13 [7] asg body .busy none D)::(b5,HO.r false [y.row] 17)::(b2,HO.r false [[lv]] 1)::(u++m))++(og++(j++W))) (uS)<|WS.aaN (xv:=.slice (some ⟨sf,0,0⟩) 1 1 false 17) rfl hG rfl (Src.all (L:=[y.row]) .here) (by decide) (by simp only[btR,List.length_map,List.length_cons,List.length_nil];omega) (by decide) λnw A9 jk xB=>Ww<|Wt (s':=A9++(((sf,HO.r false [y.row] 17)::(lb,HO.lp l1 13 [7] asg body .busy none D)::(b5,HO.r false [y.row] 17)::(b2,HO.r false [[nw]] 1)::(u++m))++(jk++(j++W)))) (row':=[nw]) rfl rfl xB.out.src.part (.app<|.left<|.there<|.there<|.there .here) rfl rfl<|Wn ?_)
 refine⟨A9++(((sf,HO.r false [y.row] 17)::(b5,HO.r false [y.row] 17)::(b2,HO.r false [[nw]] 1)::(u++m))++(jk++(j++W))),uS,u++(m++((b2,HO.r false [[nw]] 1)::(A9++(((sf,HO.r false [y.row] 17)::(b5,HO.r false [y.row] 17)::(jk++j))++((lb,HO.lp l1 13 [7] asg body .ready none D)::W))))),uS,rfl,_,hback _,nw,A9,(sf,HO.r false [y.row] 17)::(b5,HO.r false [y.row] 17)::(jk++j),.refl _,?_⟩
 rw[show btR (L++[y])=btR L++[y.row] by simp[btR]]
 exact xB
theorem acn (hP:BaseP P K F T){f:FuncId}{cap:List AV}(hs:aH bl EL d t s)(hI:afy P K bl EL d f cap t out) :
  bB P K (F 129) [.func f [] cap] s (λv s'=>∃m,aH bl EL d (m++t) s'/\Src m 17 v (btR out)):=by
 have ai8:bB P K (F 177) [nilS,.func f [] cap] s (λv s'=>∃m,aH bl EL d (m++t) s'/\Src m 17 v (btR out)):=by
  refine hP.f177.ZH ?_
  unfold agX
  refine Vk (k:=λb2=>Vk (k:=?_))
  refine Wg (l':=[(2,.ptr<|some ⟨b2,0,0⟩),(6,.func f [] cap)]) (bX rfl) (λ_ _ h=>h) ?_
  generalize hl1:[(2,AV.ptr<|some ⟨b2,0,0⟩),(6,AV.func f [] cap)]=l1
  refine WP.rf (first:=[]) (cap:=cap) (by rw[<- hl1];rfl) λasg body ha hb D lb=>?_
  generalize hW:(D,HO.ob cN.deferred)::t=W
  have hY:=ads (P:=P) (K:=K) (bl:=bl) (EL:=EL) (d:=d) (lb:=lb) (D:=D) (b2:=b2) (l1:=l1) (asg:=asg) (body:=body) (W:=W) ha hb (by rw[<- hl1];rfl)
  obtain⟨u,hu,hback⟩:=hs.split
  have hs0:aH bl EL d ((b2,HO.r false [[nilS]] 1)::([]++([]++((lb,HO.lp l1 13 [7] asg body .ready none D)::W)))) ((lb,HO.lp l1 13 [7] asg body .ready none D)::(D,HO.ob .deferred)::(b2,HO.r false [[nilS]] 1)::s):=(hback _).perm (ak λc w h0 h1 h2 hq=>by have:=hq _ _ hu;subst hW;simp only[h1,h2,h0]at this |-;omega)
  refine bB.canon<|(hI (.yield lb) _ _ _ hY (λL t2 h q hq=>h.sub q<|.tail _ (by rw[<- hW];exact .tail _ hq)) ⟨nilS,[],[],.refl _,.nil⟩ hs0).post ?_
  rintro _ s9 ⟨t9,hs9,nw,A9,j2,Gu,xB⟩
  obtain⟨u2,hu2,acx⟩:=(hs9.tT Gu).split
  refine⟨(lb,HO.lp l1 13 [7] asg body .ready none D)::(u2++((b2,HO.r false [[nw]] 1)::(A9++(j2++W)))),ak (λc w h0 h1 h2 hq=>by have:=hq _ _ hu2;simp only[h1,h2]at this |-;omega),l1,.ready,none,_,rfl,(λh=>LoopState.noConfusion h),?_⟩
  subst hl1
  refine Vk (k:=We ?_)
  subst hW
  refine⟨[D],(lb,HO.gone)::(u2++((b2,HO.r false [[nw]] 1)::(A9++(j2++t)))),rfl,ak (λc w h0 h1 h2 hq=>by simp only[h1,h2,h0,List.map_cons,List.map_nil];omega),[nw],.tmp rfl .nil,A9++((D,HO.gone)::(lb,HO.gone)::(b2,HO.r false [[nw]] 1)::j2),(acx _).perm (ak λc w h0 h1 h2 hq=>by simp only[h1,h2,h0,List.map_cons,List.map_nil];omega),xB.gr.out.src.mono λq hq=>by simp[hq]⟩
 refine hP.f129.cF ?_
 unfold agS
 refine Vk (k:=Ww<|W1 (ai8) ?_)
 rintro v s2 ⟨m,h1,h2⟩
 refine Vk (k:=We<|Wm (.tmp rfl .nil) ?_)
 exact⟨m,h1,h2⟩
def Ty1 (P:Program)(t:TypeId):Prop:=isAggT P t=some false/\size? P t=some 1
theorem abe (hX:BdX P K F T tF g C d)(ht3:Ty1 P (T 3))(ht4:Ty1 P (T 4))(hno:∀c∈C,C5 5 k c=false)(hf:Has bf (.r false [bu bl aZ c0 c1 c2 c3 c4 bE] 8) t)(eQ:cI t aZ C)(hs:aH bl EL d t s)(VZ:partCells 1 fv=some [fv]) :
  bB P K (F 182) [gm tF bf,iv k,fv] s (λv s'=>v=.tuple [iv 0,.bool false]/\aH bl EL d t s'):=by
 refine hX.hQ.f182.ZH ?_
 refine Wq<|Wa (.box rfl VZ) λb5=>Wa (.alloc rfl) λb6=>Wa (.alloc rfl) λb7=>Vk (k:=Ww<|W1 (acI hX.hQ rfl) ?_)
 rintro _ _ ⟨b17,c17,rfl,rfl⟩
 refine Wn ?_
 have nr:aH bl EL d ((c17,HO.r false [[iv k]] 1)::(b17,HO.r false [[gm tF bf]] 1)::(b7,HO.r false [[.bool false]] 1)::(b6,HO.r false [[iv 0]] 1)::t) ((c17,HO.r false [[iv k]] 1)::(b17,HO.r false [[gm tF bf]] 1)::(b7,HO.r false [[.bool false]] 1)::(b6,HO.r false [[iv 0]] 1)::(b5,HO.r false [[fv]] 1)::s):=(aH.bK (m:=[_]) hs).cons.cons.cons.cons
 refine Wb ?_
 refine Wg (l':=[(6,.ptr<|some ⟨b6,0,0⟩),(7,.ptr<|some ⟨b7,0,0⟩),(17,.func (F 240) [] [.ptr (some ⟨b17,0,0⟩),.ptr<|some ⟨c17,0,0⟩])]) (bX rfl) (λ_ _ h=>h) ?_
 generalize hl1:[(6,AV.ptr<|some ⟨b6,0,0⟩),(7,AV.ptr<|some ⟨b7,0,0⟩),(17,AV.func (F 240) [] [.ptr (some ⟨b17,0,0⟩),.ptr<|some ⟨c17,0,0⟩])]=l1
 refine WP.rf (first:=[]) (cap:=[.ptr (some ⟨b17,0,0⟩),.ptr<|some ⟨c17,0,0⟩]) (by rw[<- hl1];rfl) λasg body ha hb D lb=>?_
 have dt:=(nr.cons (p:=(D,HO.ob .deferred))).cons (p:=(lb,HO.lp l1 30 [18,19] asg body .ready none D))
 refine bB.canon<|(abG hX hno (.there<|.there<|.there<|.there<|.there<|.there hf) (eQ.mono λq hq=>by simp[hq]) dt (y:=.yield lb) (b2:=b17) (b3:=c17) (k:=k) (.there<|.there<|.there .here)<|.there<|.there .here).post ?_
 rintro _ s9 hs9
 obtain⟨u,hu,hback⟩:=hs9.split
 refine⟨(lb,HO.lp l1 30 [18,19] asg body .ready none D)::(u++((D,HO.ob .deferred)::(c17,HO.r false [[iv k]] 1)::(b17,HO.r false [[gm tF bf]] 1)::(b7,HO.r false [[.bool false]] 1)::(b6,HO.r false [[iv 0]] 1)::t)),ak (λc w h0 h1 h2 hq=>by have:=hq _ _ hu;simp only[h1,h2]at this |-;omega),l1,.ready,none,_,rfl,(λh=>LoopState.noConfusion h),?_⟩
 subst hl1
 refine Vk (k:=Ww<|Wt (s':=_::_++(_::_::_::_::(b6,.r false [[iv 0]] 1)::_)) rfl rfl rfl (.there<|.app<|.there<|.there<|.there<|.there .here) rfl rfl<|Ww<|Wt (s':=_++(_::_::_::(b7,.r false [[AV.bool false]] 1)::_)) rfl rfl rfl (.app<|.there<|.there<|.there .here) rfl rfl<|Wn<|We ?_)
 refine⟨[D],(lb,HO.gone)::(u++((c17,HO.r false [[iv k]] 1)::(b17,HO.r false [[gm tF bf]] 1)::(b7,HO.r false [[.bool false]] 1)::(b6,HO.r false [[iv 0]] 1)::t)),rfl,ak (λc w h0 h1 h2 hq=>by simp only[h1,h2,h0,List.map_cons,List.map_nil];omega),[iv 0,.bool false],.cell rfl ht3.1 ht3.2 (.inr rfl) (.there<|.there<|.app<|.there<|.there<|.there .here) rfl rfl rfl<|.cell rfl ht4.1 ht4.2 (.inr rfl) (.there<|.there<|.app<|.there<|.there .here) rfl rfl rfl .nil,?_⟩
 exact⟨rfl,aH.bK (m:=[_,_])<|aH.fb (x:=[_,_,_,_])<|hback _⟩
theorem aaI (a b:Int):binV .gtr (iv a) (iv b)=some (.bool (decide (b<a))):=by
 show some (AV.bool<|ilt b a)=_
 rw[du]
theorem adN {x:Int}(h:-999<=x/\x<=999):oP x=x:=by
 have e:oP x=mnI (mxI x<|.negSucc 998) 999:=rfl
 rw[e,agp,aeD]
 omega
open Go.Proofs
set_option maxRecDepth 100000
theorem abR (hR:BaseR P K F T){o:LD}{k a b n m:Int}{it:ID}(hu:oY bp (.r false L 8) (.r false (L.set i ({ o with f3:=true }:LD).row) 8) s s')(hr:L[i]?=some o.row) :
  bB P K (F 270) [.ptr (some ⟨bp,i,0⟩),.agg<|evRow k a b n m it] s (λ_ s2=>∃m,s2=m++s'):=by
 refine hR.f270.cF ?_
 refine Wq<|Wa (.box rfl rfl) λb3=>Wn ?_
 refine Wo<|Wv rfl<|Wr (.nilchk rfl rfl)<|Wf rfl<|Ww<|Wt rfl rfl rfl (.there hu) hr rfl<|Wn<|Wm .nil ⟨[_],rfl⟩
theorem acj (hB:Base P K F T)(aep:FnK P K (F 264) 15 [] (ae1 F T))(hR:BaseR P K F T){o:LD}(hd:d.Small)(he:d.kQ)(ho:d.pl[p]?=some o)(lm:∀s,bB P K (F 201) [.agg (evRow 24 (.ofNat p) b n m it)] s (λv s'=>v=iv 0/\s'=s)) :
  Ap P K F 24 (.ofNat p) b n m it d { d with pl:=d.pl.set p { o with f3:=true } }:=
 yH (k:=24) hB hd lm (R2 hB<|by simp) (λ{_ _ _ _ v} hv hW=>by
  obtain⟨bd,bx,rfl,_⟩:=(show iP F _ _ v true false false 264 270 from hv)
  exact aaj hB hW hd he (k:=24) (by omega) (by omega) (by omega) (by omega) (List.getElem?_eq_some_iff.1 ho).1) (λ{_ _ _ _ _ _ _} hv hW=>by
  obtain⟨bd,bx,hv,h1,h2⟩:=(show iP F _ _ _ true false false 264 270 from hv)
  cases hv
  exact abQ (o':={ o with f3:=true }) aep hW h1 h2 ho λ{s s' bp L} hu hr=>abR hR hu hr)
def adU (P:Program)(K:Orc)(F:Nat->FuncId)(k a b n m:Int)(it:ID)(c:Int)(d:SD):Prop:=∀{pv ov lv hv gv ev fv sv wv:AV}(s:SH),mD s pv ov lv hv gv ev fv sv wv d ->
  bB P K (F 164) [.agg (d.cells pv ov lv hv gv ev fv sv wv),.agg<|evRow k a b n m it] s (λv s'=>∃pv ov lv hv gv ev fv sv wv nn,v=.tuple [.agg (d.cells pv ov lv hv gv ev fv sv wv),iv c]/\s'=nn++s/\iJ nn pv ov lv hv gv ev fv sv wv d)
variable {c:Int}
theorem aeB (hB:Base P K F T)(hs:aH bl EL d t s)(hd:d.Small)(hc:c≠0)(hap:adU P K F k a b n m it c d) :
  bB P K (F 108) [.ptr (some ⟨bl,0,0⟩),.agg<|evRow k a b n m it] s (λv s'=>v=iv c/\aH bl EL d t s'):=by
 obtain⟨sc,lv,pv,ov,tf,hv,gv,ev,fv,sv,wv,oL,nn,k1,k2,k3,k4⟩:=hs
 refine bB.perm k1.symm ?_
 refine hB.f108.cF ?_
 refine Wq<|Wa (.box rfl rfl) λb3=>Wv rfl<|Wn<|Ws<|Wq<|Wv rfl<|Wh (b:=false) rfl rfl rfl<|Wn<|Wd rfl (λh=>by cases h)<|λ_=>Wi ?_
 have PT:bV 25 (cu 26<|sc++([lv]++(d.cells pv ov tf hv gv ev fv sv wv++[])))=some (d.cells pv ov tf hv gv ev fv sv wv):=by
  have:=nA (a:=sc++[lv]) (b:=d.cells pv ov tf hv gv ev fv sv wv) (c:=[]) (i:=26) (n:=25) (by simp[k2]) rfl
  rwa [List.append_assoc]at this
 have hl:bV 1 (cu 25<|sc++([lv]++(d.cells pv ov tf hv gv ev fv sv wv++[])))=some [lv]:=nA k2 rfl
 refine Ws<|WP.fd λb5=>Dp (.mv rfl)<|Dp (.nilchk rfl rfl)<|Dp (.faddr rfl)<|Dl rfl .nil (.load rfl (.there<|.there .here) rfl PT rfl)<|Dl rfl .nil (.load rfl (.there .here) rfl rfl rfl)<|Dc .nil<|W1 (hap _<|k4.mono λp hp=>by simp[hp]) ?_
 rintro w _ ⟨Gz,Gy,nw,Gw,Gl,Gj,Gk,GA,GB,n2,rfl,rfl,g2⟩
 have R9:mD n2 Gz Gy nw Gw Gl Gj Gk GA GB d:=g2.r λp hp=>hp
 have hq:eqBy 20 .pi (iv c) (iv 0)=some false:=by rw[cD,decide_eq_false hc]
 refine Dp (.mv rfl)<|Dp (.extract rfl rfl)<|Dp (.extract rfl rfl)<|WD.al (.alloc rfl) rfl<|Dc (.yes (show bit 767 9=true from rfl) rfl (.app .here) .nil)<|Wt rfl rfl rfl (.app .here) rfl rfl<|Dp (.mv rfl)<|D0 .nil ?_<|λo h=>nomatch h
 refine Wg (s':=n2++((b5,.r false [d.cells Gz Gy nw Gw Gl Gj Gk GA GB] 25)::(b3,.r false [evRow k a b n m it] 13)::(bl,.r false [sc++([lv]++(d.cells pv ov tf hv gv ev fv sv wv++[]))] 51)::(oL++(nn++t)))) (λ_ _ h=>h) (λ_ _ h=>h) ?_
 refine Vk (k:=We<|Wm (.tmp rfl .nil) ?_)
 have fin:∀y1 y2,aH bl EL d t (n2++(y1::y2::(bl,.r false [sc++([lv]++(d.cells pv ov tf hv gv ev fv sv wv++[]))] 51)::(oL++(nn++t)))):=λy1 y2=>
  ⟨sc,lv,pv,ov,tf,hv,gv,ev,fv,sv,wv,oL,n2++(y1::y2::nn),uS,k2,k3,k4.mono λp hp=>by simp[hp]⟩
 exact⟨rfl,fin _ _⟩
theorem acl (hB:Base P K F T)(hs:aH bl EL d t s)(hd:d.Small)(hc:c≠0)(hap:adU P K F k a b n m it c d) :
  bB P K (F 53) [.agg [.ptr (some ⟨bl,0,0⟩)],.agg<|evRow k a b n m it] s (λv s'=>v=iv c/\aH bl EL d t s'):=by
 refine hB.f53.cF ?_
 refine Vk (k:=λb2=>Wa (.box rfl rfl) λb3=>Vk (k:=Ww<|W1 (aeB hB (aH.bK (m:=[_,_]) hs) hd hc hap) ?_))
 rintro w s2 ⟨rfl,h2⟩
 exact Wv rfl<|Wn<|We<|Wm (.tmp rfl .nil) ⟨rfl,h2⟩
theorem aej (hB:Base P K F T)(hs:aH bl EL d t s)(hd:d.Small)(hf:Has bf (.r false [bu bl aZ c0 c1 c2 c3 c4 bE] 8) t)
  (k1:k≠1) (hc:c≠0) (hap:adU P K F k a b n m it c d) :
  bB P K (F 15) [.ptr (some ⟨bf,0,0⟩),.agg<|evRow k a b n m it] s (λv s'=>v=iv (.negSucc 0)/\aH bl EL d t s'):=by
 refine hB.f15.cF ?_
 refine Vk (k:=λb3=>Vk (k:=?_))
 have gw:aH bl EL d ((b3,.r false [evRow k a b n m it] 13)::t) ((b3,.r false [evRow k a b n m it] 13)::s):=hs.cons
 refine Vk (k:=WP.bD ?_)
 refine(Dp (.faddr rfl)<|Dl rfl .nil (.load rfl .here rfl rfl rfl)<|Dp (.eql rfl rfl<|qM k1)<|Dp (.mv rfl)<|Dk<|WD.jm rfl rfl<|Dk<|Dk<|Dk<|Dk<|Dk<|Dk<|Dk<|Dk<|Dp (.bj rfl rfl)<|Dp (.mv rfl)<|D0 .nil ?_<|λo h=>nomatch h)
 refine Vk (k:=WP.bD<|Dp (.mv rfl)<|Dp (.nilchk rfl rfl)<|Dp (.faddr rfl)<|Dl rfl .nil (.load rfl (gw.mem<|.there hf) rfl rfl rfl)<|Dl rfl .nil (.load rfl (gw.mem .here) rfl rfl rfl)<|Dc .nil<|W1 (acl hB gw hd hc hap) ?_)
 rintro w s5 ⟨rfl,tn⟩
 have hq:eqBy 20 .pi (iv c) (iv 0)=some false:=by rw[cD,decide_eq_false hc]
 refine Dp (.eql rfl rfl hq)<|Dp (.mv rfl)<|D0 .nil (Vk (k:=?_))<|λo h=>nomatch h
 refine Vk (k:=We<|Wm (.tmp rfl .nil) ?_)
 exact⟨rfl,tn.tail⟩
open Go.Proofs
set_option maxRecDepth 100000

end
end
end Go.Ev
