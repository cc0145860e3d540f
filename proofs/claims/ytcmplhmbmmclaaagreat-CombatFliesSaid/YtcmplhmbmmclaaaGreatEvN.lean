/- Walks and rules. Conditions: none. -/
import Derived.Test.YtcmplhmbmmclaaaGreatEvM
import Derived.Test.YtcmplhmbmmclaaaGreatEvK
set_option linter.unusedVariables false
set_option linter.unusedSectionVars false
namespace Go.Ev
section
variable {P:Program}{K:Orc}{rd:Option Nat}{nt:Nat}{l:Sl}{ds:List aD}{s:SH}{Q Qn Qr:Po}{Qe:Nat->Po}{F:Nat->FuncId}{T:Nat->TypeId}{bf bl:Nat}{aZ bE:AV}{c0 c1 c2 c3 c4:Int}{EL:List (List AV)}{d:SD}{t:SH}
theorem aH.split (h:aH bl EL d t s):∃u,s.Perm (u++t)/\∀t',aH bl EL d t' (u++t'):=by
 obtain⟨sc,lv,pv,ov,eo,hv,gv,ev,fv,sv,wv,oL,nn,k1,k2,k3,k4⟩:=h
 exact⟨(bl,.r false [sc++([lv]++(d.cells pv ov eo hv gv ev fv sv wv++[]))] 51)::(oL++nn),cM λc w h0 h1 h2 hq=>by simp only[h1,h2,hq _ _ k1];omega,λt'=>⟨sc,lv,pv,ov,eo,hv,gv,ev,fv,sv,wv,oL,nn,cM λc w h0 h1 h2 hq=>by simp only[h1,h2];omega,k2,k3,k4⟩⟩
theorem aH.tT {t':SH}(h:aH bl EL d t s)(hp:t.Perm t'):aH bl EL d t' s:=by
 obtain⟨sc,lv,pv,ov,eo,hv,gv,ev,fv,sv,wv,oL,nn,k1,k2,k3,k4⟩:=h
 exact⟨sc,lv,pv,ov,eo,hv,gv,ev,fv,sv,wv,oL,nn,cM λc w h0 h1 h2 hq=>by simp only[h1,h2,hq _ _ k1,hq _ _ hp],k2,k3,k4⟩
theorem c6.perm {f:AV}{args:List AV}{s s':SH}{R:AV->SH->Prop}(hp:s.Perm s')(h:c6 P K f args s R):c6 P K f args s' R:=
 λH0 H hH=>h H0 H<|hH.perm hp.symm
theorem c6.canon {f:AV}{args:List AV}{R:AV->SH->Prop}(h:c6 P K f args s (λv s'=>∃s'',s'.Perm s''/\R v s'')):c6 P K f args s R:=by
 intro H0 H hH
 obtain⟨v,s',H',h1,h2,s'',h3,h4⟩:=h H0 H hH
 exact⟨v,s'',H',h1,h2.perm h3,h4⟩
inductive GrE (sz:Nat):AV->List (List AV)->SH->Prop
 | nil {rw:Nat}:GrE sz (.slice none 0 0 false rw) [] []
 | rows {b:Nat} {L:List (List AV)} (hL:L≠[]):GrE sz (.slice (some ⟨b,0,0⟩) L.length L.length true sz) L [(b,.r false L sz)]
theorem GrE.gr {sz:Nat}{v:AV}{L:List (List AV)}{o:SH}(h:GrE sz v L o):Gr sz v L o:=by
 cases h with
 | nil=>exact .nil
 | @rows b L hL=>
  have:=Gr.rows (b:=b) (sz:=sz) (L:=L) (T:=[]) rfl rfl<|List.length_pos_iff.2 hL
  rw[List.append_nil]at this
  exact this
theorem GrE.out {sz:Nat}{v:AV}{L:List (List AV)}{o:SH}(h:GrE sz v L o):gz o sz v L:=h.gr.out
theorem WS.aaW {P:Program}{K:Orc}{l:Sl}{ds:List aD}{R:AV->List aD->SH->Prop}{sz bytes:Nat}{ss x:Operand}{sv xv:AV}{L N:List (List AV)}{m o t:SH}(hs:cr l ss=some sv)(ho:GrE sz sv L o)(hx:cr l x=some xv)(hN:Src (m++(o++t)) sz xv N)(hz:sz≠0)(h1:L.length+N.length<=901000)(h2:bytes<=100000)
  (k:∀v o' j,GrE sz v (L++N) o'->R v ds (o'++(m++(j++t)))):WS P K (.append sz bytes ss x) l ds (m++(o++t)) R:=by
 cases ho with
 | nil=>
  by_cases hN0:N=[]
  ·subst hN0
   exact WS.append_none hs hx hN hz (Nat.le_refl _)<|k _ [] [] .nil
  ·refine WS.append_nil (c:=0) hs hx hN hz hN0 (by simpa using h1) h2 λb=>?_
   exact k _ [(b,.r false N sz)] []<|.rows hN0
 | @rows b L hL=>
  by_cases hN0:N=[]
  ·subst hN0
   have:=k _ [(b,.r false L sz)] [] (by rw[List.append_nil];exact .rows hL)
   exact WS.perm<|WS.append_none hs hx hN hz (Nat.le_refl _) ⟨_,cM λc w h0 h1 h2 hq=>by simp only[h1,h2,h0];omega,this⟩
  ·refine WS.uN hs rfl (.app .here) hx hN hz hN0 h1 h2 λb'=>?_
   have:=k (.slice (some ⟨b',0,0⟩) (L.length+N.length) (L.length+N.length) true sz) [(b',.r false (L++N) sz)] [(b,.bK)] (by rw[<- List.length_append];exact .rows<|by simp[hL])
   exact this
def uY (g:ED->CH->CH)(d:SD)(C:List CD)(id:Int):Option CH:=
 match d.onF C id with
 | none=>none
 | some (o,c)=>if c.kind=2 then some (tK g ⟨c.power,c.qn,c.keys⟩<|qy d C o)else none
structure nG (P:Program)(K:Orc)(F:Nat->FuncId)(g:ED->CH->CH)(d:SD)(C:List CD):Prop where
 ok:nF d C
 step:∀o,∀e∈qy d C o,lQ P K F g e
 any:∀o(c:CH)R,R.Perm (qy d C o)->tK g c R=tK g c (qy d C o)
theorem Tl (a b:Int):∃n,binV .and (iv a) (iv b)=some (iv n):=by
 show∃n,bits .and .i64 a b=some (iv n)
 unfold bits
 split
 ·split
  ·exact⟨_,aL _ _⟩
  ·exact⟨_,rfl⟩
 ·exact⟨_,rfl⟩
theorem qq.val {g:ED->CH->CH}{C:List CD}{id:Int}{v:AV}(h:qq g d C id v)(hO:nG P K F g d C):v=match uY g d C id with | some x=>.tuple [.agg x.row,.bool true] | none=>.tuple [.agg (⟨0,0,0⟩:CH).row,.bool false]:=by
 unfold uY
 rcases h with⟨o,c,R,h1,h2,_,_,h3,rfl⟩|⟨h1,rfl⟩
 ·rw[h1]
  simp only[if_pos h2,hO.any o _ R h3]
 ·cases ho:d.onF C id with
  | none=>rfl
  | some p=>
   obtain⟨o,c⟩:=p
   simp only[if_neg (h1 o c ho)]
theorem pE (hB:Base P K F T)(hC:BaseC P K F T)(hT:TyC P T){g:ED->CH->CH}{C:List CD}{id:Int}(hs:aH bl EL d t s)(hd:d.Small)(hf:Has bf (.r false [bu bl aZ c0 c1 c2 c3 c4 bE] 8) t)(eQ:cI t aZ C)(hO:nG P K F g d C) :
  bB P K (F 30) [.ptr (some ⟨bf,0,0⟩),iv id] s (λv s'=>v=(match uY g d C id with | some x=>.tuple [.agg x.row,.bool true] | none=>.tuple [.agg (⟨0,0,0⟩:CH).row,.bool false])/\aH bl EL d t s'):=
 (abP hB hC hT hs hd hf eQ hO.ok hO.step).post λv s'⟨h1,h2⟩=>⟨h1.val hO,h2⟩
def Zz:LD:=⟨20,0,0,0,0,false,false,false⟩
def d5:SD:=⟨[Zz,Zz,Zz],[],[[],[],[]],[[],[],[]],[[],[],[]],[[],[],[]],[],[],[],1,0,0,0,0,0,1,1,0,0,0,0,false,0,0⟩
def fI (n:Nat):List Int:=(List.range n).map λj=>.ofNat (j+1)
def WOa (P:Program)(K:Orc)(ol:List bS)(e:Tr AV)(ds:List aD)(H H0:Heap)(Q:Po):Prop:=
 ∀(nt:Nat)(ops:Array Oper)(l0:List Oper),aI (co P nt ops.toList) l0=some ol->∃e' ds' H' l' s',fj P K nt ops l0 e ds H (.mk .normal e' ds' H')/\En l' e'/\Hp H0 s' H'/\Q l' ds' s'
theorem WOa.cons {d:Option Nat}{op:AOp}{rest:List bS}{v:AV}{e:Tr AV}{ds ds1:List aD}{H H1 H0:Heap}{Q:Po}(k1:qu P K e op ds H (.mk v ds1 H1))(k3:WOa P K rest (putO e d v) ds1 H1 H0 Q):WOa P K (⟨d,op,none⟩::rest) e ds H H0 Q:=by
 intro nt ops l0 hl
 cases l0 with
 | nil=>cases hl
 | cons a l0=>
  obtain⟨b,bs,h1,h2,h3⟩:=(aV _ a l0 _).1 hl
  cases h3
  have hc:cOper P nt a=⟨d,op,none⟩:=by
   unfold co at h1
   generalize cOper P nt a=z at h1 |-
   obtain⟨d',op',g'⟩:=z
   cases g' with
   | none=>cases h1;rfl
   | some jw=>
    unfold cg at h1
    grind
  obtain⟨e',ds',H',l',s',j1,j2,j3,j4⟩:=k3 nt ops l0 h2
  exact⟨_,_,_,_,_,fj.cons hc rfl k1 j1,j2,j3,j4⟩
theorem WOa.of {ol:List bS}{l:Sl}{s:SH}{e:Tr AV}{ds:List aD}{H H0:Heap}{Q:Po}(h:WO P K ol l ds s Q)(he:En l e)(hH:Hp H0 s H):WOa P K ol e ds H H0 Q:=λnt ops l0 hl=>h nt ops l0 hl H0 e H he hH
theorem WOa.seq {ol:List bS}{b:AC}{e:Tr AV}{ds:List aD}{H H0:Heap}{Qn Qr:Po}{Qe:Nat->Po}(h:WOa P K ol e ds H H0 (λl ds s=>WP P K none nt b l ds s Qn Qe Qr)){c0:Code}(hc:cc P nt c0=.seq (.ops ol) b) :
  ∃x e' ds' H' l' s',bt P K none nt c0 e ds H (.mk x e' ds' H')/\En l' e'/\Hp H0 s' H'/\(match x with | .normal=>Qn l' ds' s' | .exit i=>Qe i l' ds' s' | .ret=>Qr l' ds' s'):=by
 cases c0 with
 | seq a0 b0=>
  simp only[cc,AC.seq.injEq]at hc
  obtain⟨ha,hb⟩:=hc
  cases a0 with
  | region i ops d=>
   cases d with
   | true=>
    exfalso
    have hc:cdr P nt ops=.ops ol:=ha
    unfold cdr at hc
    grind
   | false=>
    have hc:(match aI (co P nt ops.toList) ops.toList with | some l=>AC.ops l | none=>.bad)=.ops ol:=ha
    split at hc
    ·rename_i l' hl'
     cases hc
     obtain⟨e1,ds1,H1,l1,s1,h1,h2,h3,h4⟩:=h nt ops ops.toList hl'
     obtain⟨x,e2,ds2,H2,l2,s2,k1,k2,k3,k4⟩:=h4 b0 hb H0 e1 H1 h2 h3
     exact⟨x,e2,ds2,H2,l2,s2,bt.seq (bt.region h1) k1,k2,k3,k4⟩
    ·cases hc
  | _=>simp[cc]at ha
 | region i ops d=>exact(db hc).elim
 | _=>simp[cc]at hc
theorem Cl {h:FH}{ds:List aD}(q:xe h.fr ds none)(k:(match h.fr.ds with | []=>true | _=>false)=true):ds=[]:=by
 obtain⟨f1,_,_⟩:=q
 grind
end
section
variable [Sg]{P:Program}{K:Orc}{F:Nat->FuncId}{T:Nat->TypeId}
end
theorem works_kc {P:Program}(hm:P.follows .mixedOrders=true){n:Nat}{f:FuncId}(h:fastTrue P noneKnown n f=true):gW P f [] vu (.bool true) vu:=by
 letI:Sg:=sg0
 obtain⟨O,hO,hF⟩:=lB P
 obtain⟨m,b,v,h',H',h1,h2,_,_,h5⟩:=(kX P (hF _) n).call .nil Cd h
 have:=h2.U8<|ag h5
 subst this
 exact(gW.KV hm hO h1).eC ⟨rfl,Nat.zero_le _,λb o hb=>by rw[np]at hb;cases hb⟩ (Nat.le_refl _) trivial
noncomputable def ruleG (w c:FuncId):iB:=λf args h=>match Nat.beq f w with
 | true=>(match args with | []=>some (some (vT,h)) | _::_=>some none)
 | false=>(match Nat.beq f c with | true=>some none | false=>none)
theorem ruleG_ok [Sg]{w c:FuncId}{K:Orc}(hw:∀H,K w [] H=some (.bool true,H))(hK:∀f args H,f≠w->f≠c->K f args H=none):Bh (ruleG w c) K where
 res:=by
  intro f args as h H v h' ha hH hf
  unfold ruleG at hf
  cases hb:Nat.beq f w with
  | true=>
   rw[hb]at hf
   have:=Nat.eq_of_beq_eq_true hb
   subst this
   cases ha with
   | nil=>cases hf;exact⟨_,_,hw H,VA.bool true,hH,rfl⟩
   | cons _ _=>cases hf
  | false=>
   rw[hb]at hf
   dsimp only at hf
   split at hf<;>cases hf
 non:=by
  intro f args as h H ha hH hf
  unfold ruleG at hf
  cases hb:Nat.beq f w with
  | true=>
   rw[hb]at hf
   cases ha with
   | nil=>cases hf
   | cons _ _=>cases hf
  | false=>
   rw[hb]at hf
   dsimp only at hf
   split at hf
   ·cases hf
   ·rename_i hc
    exact hK f as H (λe=>by rw[e]at hb;simp at hb) (λe=>by rw[e]at hc;simp at hc)
section
variable {P:Program}{K:Orc}{F:Nat->FuncId}{T:Nat->TypeId}{f:FuncId}{fn:Func}{c:Code}{tc:Func}{Ib:Code}{R:iB}{n:Nat}
structure BaseL (P:Program)(K:Orc)(F:Nat->FuncId)(T:Nat->TypeId):Prop where
variable {rd:Option Nat}{nt:Nat}{l:Sl}{ds:List aD}{s:SH}{Q:Po}{Qn:Po}{Qr:Po}{Qe:Nat->Po}
theorem Gr.put {sz:Nat}{v:AV}{L:List (List AV)}{o:SH}(h:Gr sz v L o){p:Nat}(hp:p<L.length):∃b c M,v=.slice (some ⟨b,0,0⟩) L.length c true sz/\o=[(b,.r false (L++M) sz)]/\∀row',Gr sz (.slice (some ⟨b,0,0⟩) L.length c true sz) (L.set p row') [(b,.r false ((L++M).set p row') sz)]:=by
 cases h with
 | nil=>exact absurd hp<|Nat.not_lt_zero _
 | zero=>exact absurd hp<|Nat.not_lt_zero _
 | @rows b n c L M hn hc hL=>
  subst hn
  refine⟨b,c,M,rfl,rfl,λrow'=>?_⟩
  rw[List.set_append_left _ _ hp]
  exact .rows (by simp) (by simp[hc]) hL
theorem adC (a:Bool):eqBy 20 .pb (.bool a) (.bool a)=some true:=by cases a<;>rfl
variable {bf:Nat}{bl:Nat}{aZ:AV}{bE:AV}{c0:Int}{c1:Int}{c2:Int}{c3:Int}{c4:Int}{EL:List (List AV)}{d:SD}{t:SH}

end
end Go.Ev
