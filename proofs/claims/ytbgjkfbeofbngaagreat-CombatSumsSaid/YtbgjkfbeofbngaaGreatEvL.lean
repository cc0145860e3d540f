/- Walks and rules. Conditions: none. -/
import Derived.Test.YtbgjkfbeofbngaaGreatEvK
set_option linter.unusedVariables false
set_option linter.unusedSectionVars false
namespace Go.Ev
def a50:CF:=λF T=>(oN [zo 2 (.mv (.const (.slice none 0 0)))] (.seq (oN [zm 3 0,zo 4 (.eql false .DB 3 (.const (.slice none 0 0)))] (.cond 4 (oN [zo 2 (.mv (.const (.slice none 0 0)))] .ret) .skip)) (oN [zo 5 (.bslice 11 0 zL1 []),zm 6 0,zo 7 (.append 11 112 5 6),zm 2 7] .ret)))
def Th:CF:=λF T=>(oN [zo 2 (.mv (.const (.slice none 0 0)))] (.seq (oN [zm 3 0,zo 4 (.eql false .ptr 3 (.const (.pointer none)))] (.cond 4 (oN [zo 2 (.mv (.const (.slice none 0 0)))] .ret) .skip)) (oN [zm 5 0,zo 6 (.nilchk 5),zf 7 1 6,zl 8 7,oF F 9 50 [8],zm 2 9] .ret)))
structure BaseG (P:Program)(K:Orc)(F:Nat->FuncId)(T:Nat->TypeId):Prop where
 f347:FnK P K (F 347) 7 [(.tmp 2)] (Ti F T)
 f50:FnK P K (F 50) 8 [(.tmp 2)] (a50 F T)
 f344:FnK P K (F 344) 10 [(.tmp 2)] (Th F T)
structure gA (P:Program)(F:Nat->FuncId)(tF:TypeId):Prop where
 stack:meth P tF "Stack"=some (F 21)
 chars:meth P tF "Chars"=some (F 30)
 ci:meth P tF "Zone"=some (F 36)
 obj:meth P tF "Obj"=some (F 37)
 RD:meth P tF "Player"=some (F 43)
 aZ:meth P tF "Cards"=some (F 344)
 yd:meth P tF "Players"=some (F 347)
section
variable {P:Program}{K:Orc}{rd:Option Nat}{nt:Nat}{l:Sl}{ds:List aD}{s:SH}{Q Qn Qr:Po}{Qe:Nat->Po}{F:Nat->FuncId}{T:Nat->TypeId}{bf bl:Nat}{aZ bE:AV}{c0 c1 c2 c3 c4:Int}{EL:List (List AV)}{d:SD}{t:SH}
theorem tV (hB:Base P K F T)(hG:BaseG P K F T)(hs:aH bl EL d t s)(hd:d.Small)(hf:Has bf (.r false [bu bl aZ c0 c1 c2 c3 c4 bE] 8) t) :
  bB P K (F 347) [.ptr (some ⟨bf,0,0⟩)] s (λv s'=>v=iv (.ofNat d.pl.length)/\aH bl EL d t s'):=by
 refine hG.f347.dT ?_
 unfold Ti
 refine Wq<|Wv rfl<|Wn ?_
 refine Wq<|Wv rfl<|Ww<|W1 (cz hB hs hd hf) ?_
 rintro w s2 ⟨dt,pv,ov,lv,hv,gv,ev,fv,sv,wv,rfl,hR⟩
 have lp:lenOf pv=some d.pl.length:=by rw[hR.pl.lenOf];simp[Am]
 exact Wr (.fld rfl rfl)<|Wr (.lenS rfl lp)<|Wv rfl<|Wn<|We<|Wm (.tmp rfl .nil) ⟨rfl,dt⟩
theorem BaseG.c50 (hG:BaseG P K F T):FnK P K (F 50) 8 [.tmp 2] (fc 11 112 yz):=hG.f50
theorem BS (hG:BaseG P K F T){C:List CD}(hs:aH bl EL d t s)(hf:Has bf (.r false [bu bl aZ c0 c1 c2 c3 c4 bE] 8) t)(eQ:cI t aZ C) :
  bB P K (F 344) [.ptr (some ⟨bf,0,0⟩)] s (λv s'=>∃m,aH bl EL d (m++t) s'/\Src m 11 v (C.map CD.row)):=by
 have hn:=eQ.n
 refine hG.f344.dT ?_
 unfold Th
 refine Wq<|Wv rfl<|Wn ?_
 refine Ws<|Wq<|Wv rfl<|Wh (b:=false) rfl rfl rfl<|Wn<|Wd rfl (λh=>by cases h)<|λ_=>Wi ?_
 refine Wq<|Wv rfl<|Wr (.nilchk rfl rfl)<|Wf rfl<|Wl rfl (hs.mem hf) rfl rfl rfl<|Ww<|W1 (hG.c50.clone (eQ.src.mono λp hp=>(hs.mem<|.ce hp).mem) (by decide) (by rw[List.length_map];omega)<|by decide) ?_
 rintro w _ ⟨m,rfl,hO⟩
 exact Wv rfl<|Wn<|We<|Wm (.tmp rfl .nil) ⟨m,hs.HW,hO.src⟩
theorem aH.split (h:aH bl EL d t s):∃u,s.Perm (u++t)/\∀t',aH bl EL d t' (u++t'):=by
 obtain⟨sc,lv,pv,ov,F8,hv,gv,ev,fv,sv,wv,oL,nn,k1,k2,k3,k4⟩:=h
 exact⟨(bl,.r false [sc++([lv]++(d.cells pv ov F8 hv gv ev fv sv wv++[]))] 51)::(oL++nn),ak λc w h0 h1 h2 hq=>by simp only[h1,h2,hq _ _ k1];omega,λt'=>⟨sc,lv,pv,ov,F8,hv,gv,ev,fv,sv,wv,oL,nn,zt,k2,k3,k4⟩⟩
theorem aH.tT {t':SH}(h:aH bl EL d t s)(hp:t.Perm t'):aH bl EL d t' s:=by
 obtain⟨sc,lv,pv,ov,F8,hv,gv,ev,fv,sv,wv,oL,nn,k1,k2,k3,k4⟩:=h
 exact⟨sc,lv,pv,ov,F8,hv,gv,ev,fv,sv,wv,oL,nn,ak λc w h0 h1 h2 hq=>by simp only[h1,h2,hq _ _ k1,hq _ _ hp],k2,k3,k4⟩
theorem c6.perm {f:AV}{args:List AV}{s s':SH}{R:AV->SH->Prop}(hp:s.Perm s')(h:c6 P K f args s R):c6 P K f args s' R:=
 λH0 H hH=>h H0 H<|hH.perm hp.symm
theorem c6.canon {f:AV}{args:List AV}{R:AV->SH->Prop}(h:c6 P K f args s (λv s'=>∃s'',s'.Perm s''/\R v s'')):c6 P K f args s R:=by
 intro H0 H hH
 obtain⟨v,s',H',h1,h2,s'',h3,h4⟩:=h H0 H hH
 exact⟨v,s'',H',h1,h2.perm h3,h4⟩
inductive GrE (sz:Nat):AV->List (List AV)->SH->Prop
 | nil {rw:Nat}:GrE sz (.slice none 0 0 false rw) [] []
 | rows {b:Nat} {L:List (List AV)} (hL:L≠[]):GrE sz (.slice (some ⟨b,0,0⟩) L.length L.length true sz) L [(b,.r false L sz)]
theorem GrE.gr {sz:Nat}{v:AV}{L:List (List AV)}{o:SH}(h:GrE sz v L o):Gr sz v L o:=by
 cases h with
 | nil=>exact .nil
 | @rows b L hL=>
  have:=Gr.rows (b:=b) (sz:=sz) (L:=L) (T:=[]) rfl rfl<|List.length_pos_iff.2 hL
  rw[List.append_nil]at this
  exact this
theorem GrE.out {sz:Nat}{v:AV}{L:List (List AV)}{o:SH}(h:GrE sz v L o):gz o sz v L:=h.gr.out
theorem WS.N9 {P:Program}{K:Orc}{l:Sl}{ds:List aD}{R:AV->List aD->SH->Prop}{sz bytes:Nat}{ss x:Operand}{sv xv:AV}{L N:List (List AV)}{m o t:SH}(hs:opl l ss=some sv)(ho:GrE sz sv L o)(hx:opl l x=some xv)(hN:Src (m++(o++t)) sz xv N)(hz:sz≠0)(h1:L.length+N.length<=901000)(h2:bytes<=100000)
  (k:∀v o' j,GrE sz v (L++N) o'->R v ds (o'++(m++(j++t)))):WS P K (.append sz bytes ss x) l ds (m++(o++t)) R:=by
 cases ho with
 | nil=>
  by_cases hN0:N=[]
  ·subst hN0
   exact WS.append_none hs hx hN hz (Nat.le_refl _)<|k _ [] [] .nil
  ·refine WS.append_nil (c:=0) hs hx hN hz hN0 (by simpa using h1) h2 λb=>?_
   exact k _ [(b,.r false N sz)] []<|.rows hN0
 | @rows b L hL=>
  by_cases hN0:N=[]
  ·subst hN0
   have:=k _ [(b,.r false L sz)] [] (by rw[List.append_nil];exact .rows hL)
   exact WS.perm<|WS.append_none hs hx hN hz (Nat.le_refl _) ⟨_,zt,this⟩
  ·refine WS.uN hs rfl (.app .here) hx hN hz hN0 h1 h2 λb'=>?_
   have:=k (.slice (some ⟨b',0,0⟩) (L.length+N.length) (L.length+N.length) true sz) [(b',.r false (L++N) sz)] [(b,.bK)] (by rw[<- List.length_append];exact .rows<|by simp[hL])
   exact this
theorem Tl (a b:Int):∃n,binV .and (iv a) (iv b)=some (iv n):=by
 show∃n,bits .and .i64 a b=some (iv n)
 unfold bits
 split
 ·split
  ·exact⟨_,aL _ _⟩
  ·exact⟨_,rfl⟩
 ·exact⟨_,rfl⟩
def ZQ:CF:=λF T=>(oN [zo 2 (.mv (zc 0))] (.seq (oN [zm 3 0,zo 4 (.eql false .ptr 3 (.const (.pointer none)))] (.cond 4 (oN [zo 2 (.mv (zc 0))] .ret) .skip)) (oN [zm 5 0,zo 6 (.nilchk 5),zf 7 25 6,zl 8 7,zo 9 (.lenS 8),zm 2 9] .ret)))
structure BaseM (P:Program)(K:Orc)(F:Nat->FuncId)(T:Nat->TypeId):Prop where
 f25:FnK P K (F 25) 10 [(.tmp 2)] (ZQ F T)
def Zz:LD:=⟨20,0,0,0,0,false,false,false⟩
def d5:SD:=⟨[Zz,Zz,Zz],[],[[],[],[]],[[],[],[]],[[],[],[]],[[],[],[]],[],[],[],1,0,0,0,0,0,1,1,0,0,0,0,false,0,0⟩
def fI (n:Nat):List Int:=(List.range n).map λj=>.ofNat (j+1)
theorem pS (hM:BaseM P K F T)(hs:aH bl EL d t s):bB P K (F 25) [.ptr (some ⟨bl,0,0⟩)] s (λv s'=>v=iv (.ofNat EL.length)/\aH bl EL d t s'):=by
 have hs0:=hs
 obtain⟨sc,lv,pv,ov,F8,hv,gv,ev,fv,sv,wv,oL,nn,k1,k2,k3,k4⟩:=hs
 have hb:Has bl (.r false [sc++([lv]++(d.cells pv ov F8 hv gv ev fv sv wv++[]))] 51) s:=.ce<|k1.mem_iff.2<|by simp
 have hl:bV 1 (cu 25<|sc++([lv]++(d.cells pv ov F8 hv gv ev fv sv wv++[])))=some [lv]:=nA (a:=sc) (b:=[lv]) (c:=d.cells pv ov F8 hv gv ev fv sv wv++[]) (i:=25) (n:=1) k2 rfl
 refine hM.f25.dT ?_
 unfold ZQ
 refine Wq<|Wv rfl<|Wn ?_
 refine Ws<|Wq<|Wv rfl<|Wh (b:=false) rfl rfl rfl<|Wn<|Wd rfl (λh=>by cases h)<|λ_=>Wi ?_
 exact Wq<|Wv rfl<|Wr (.nilchk rfl rfl)<|Wf rfl<|Wl rfl hb rfl hl rfl<|Wr (.lenS rfl k3.out.lenOf)<|Wv rfl<|Wn<|We<|Wm (.tmp rfl .nil) ⟨rfl,hs0⟩
def WOa (P:Program)(K:Orc)(ol:List bS)(e:Tr AV)(ds:List aD)(H H0:Heap)(Q:Po):Prop:=
 ∀(nt:Nat)(ops:Array Oper)(l0:List Oper),aI (co P nt ops.toList) l0=some ol->∃e' ds' H' l' s',fj P K nt ops l0 e ds H (.mk .normal e' ds' H')/\En l' e'/\Hp H0 s' H'/\Q l' ds' s'
theorem WOa.cons {d:Option Nat}{op:AOp}{rest:List bS}{v:AV}{e:Tr AV}{ds ds1:List aD}{H H1 H0:Heap}{Q:Po}(k1:qu P K e op ds H (.mk v ds1 H1))(k3:WOa P K rest (putO e d v) ds1 H1 H0 Q):WOa P K (⟨d,op,none⟩::rest) e ds H H0 Q:=by
 intro nt ops l0 hl
 cases l0 with
 | nil=>cases hl
 | cons a l0=>
  obtain⟨b,bs,h1,h2,h3⟩:=(aV _ a l0 _).1 hl
  cases h3
  have hc:cOper P nt a=⟨d,op,none⟩:=by
   unfold co at h1
   generalize cOper P nt a=z at h1 |-
   obtain⟨d',op',g'⟩:=z
   cases g' with
   | none=>cases h1;rfl
   | some jw=>
    unfold cg at h1
    grind
  obtain⟨e',ds',H',l',s',j1,j2,j3,j4⟩:=k3 nt ops l0 h2
  exact⟨_,_,_,_,_,fj.cons hc rfl k1 j1,j2,j3,j4⟩
theorem WOa.of {ol:List bS}{l:Sl}{s:SH}{e:Tr AV}{ds:List aD}{H H0:Heap}{Q:Po}(h:WO P K ol l ds s Q)(he:En l e)(hH:Hp H0 s H):WOa P K ol e ds H H0 Q:=λnt ops l0 hl=>h nt ops l0 hl H0 e H he hH
theorem WOa.seq {ol:List bS}{b:AC}{e:Tr AV}{ds:List aD}{H H0:Heap}{Qn Qr:Po}{Qe:Nat->Po}(h:WOa P K ol e ds H H0 (λl ds s=>WP P K none nt b l ds s Qn Qe Qr)){c0:Code}(hc:cc P nt c0=.seq (.ops ol) b) :
  ∃x e' ds' H' l' s',bt P K none nt c0 e ds H (.mk x e' ds' H')/\En l' e'/\Hp H0 s' H'/\(match x with | .normal=>Qn l' ds' s' | .exit i=>Qe i l' ds' s' | .ret=>Qr l' ds' s'):=by
 cases c0 with
 | seq a0 b0=>
  simp only[cc,AC.seq.injEq]at hc
  obtain⟨ha,hb⟩:=hc
  cases a0 with
  | region i ops d=>
   cases d with
   | true=>
    exfalso
    have hc:cdr P nt ops=.ops ol:=ha
    unfold cdr at hc
    grind
   | false=>
    have hc:(match aI (co P nt ops.toList) ops.toList with | some l=>AC.ops l | none=>.bad)=.ops ol:=ha
    split at hc
    ·rename_i l' hl'
     cases hc
     obtain⟨e1,ds1,H1,l1,s1,h1,h2,h3,h4⟩:=h nt ops ops.toList hl'
     obtain⟨x,e2,ds2,H2,l2,s2,k1,k2,k3,k4⟩:=h4 b0 hb H0 e1 H1 h2 h3
     exact⟨x,e2,ds2,H2,l2,s2,bt.seq (bt.region h1) k1,k2,k3,k4⟩
    ·cases hc
  | _=>simp[cc]at ha
 | region i ops d=>exact(db hc).elim
 | _=>simp[cc]at hc
theorem Cl {h:FH}{ds:List aD}(q:xe h.fr ds none)(k:(match h.fr.ds with | []=>true | _=>false)=true):ds=[]:=by
 obtain⟨f1,_,_⟩:=q
 grind
end
section
variable [Sg]{P:Program}{K:Orc}{F:Nat->FuncId}{T:Nat->TypeId}
end
theorem works_kc {P:Program}(hm:P.follows .mixedOrders=true){n:Nat}{f:FuncId}(h:fastTrue P noneKnown n f=true):gW P f [] vu (.bool true) vu:=by
 letI:Sg:=sg0
 obtain⟨O,hO,hF⟩:=lB P
 obtain⟨m,b,v,h',H',h1,h2,_,_,h5⟩:=(kX P (hF _) n).call .nil Cd h
 have:=h2.U8<|ag h5
 subst this
 exact(gW.KV hm hO h1).eC ⟨rfl,Nat.zero_le _,λb o hb=>by rw[np]at hb;cases hb⟩ (Nat.le_refl _) trivial
noncomputable def ruleG (w c:FuncId):iB:=λf args h=>match Nat.beq f w with
 | true=>(match args with | []=>some (some (vT,h)) | _::_=>some none)
 | false=>(match Nat.beq f c with | true=>some none | false=>none)
theorem ruleG_ok [Sg]{w c:FuncId}{K:Orc}(hw:∀H,K w [] H=some (.bool true,H))(hK:∀f args H,f≠w->f≠c->K f args H=none):Bh (ruleG w c) K where
 res:=by
  intro f args as h H v h' ha hH hf
  unfold ruleG at hf
  cases hb:Nat.beq f w with
  | true=>
   rw[hb]at hf
   have:=Nat.eq_of_beq_eq_true hb
   subst this
   cases ha with
   | nil=>cases hf;exact⟨_,_,hw H,VA.bool true,hH,rfl⟩
   | cons _ _=>cases hf
  | false=>
   rw[hb]at hf
   dsimp only at hf
   split at hf<;>cases hf
 non:=by
  intro f args as h H ha hH hf
  unfold ruleG at hf
  cases hb:Nat.beq f w with
  | true=>
   rw[hb]at hf
   cases ha with
   | nil=>cases hf
   | cons _ _=>cases hf
  | false=>
   rw[hb]at hf
   dsimp only at hf
   split at hf
   ·cases hf
   ·rename_i hc
    exact hK f as H (λe=>by rw[e]at hb;simp at hb) (λe=>by rw[e]at hc;simp at hc)
section
variable {P:Program}{K:Orc}{F:Nat->FuncId}{T:Nat->TypeId}{f:FuncId}{fn:Func}{c:Code}{tc:Func}{Ib:Code}{R:iB}{n:Nat}
def ad9:CF:=λF T=>(oN [zo 3 (.box 13 0)] (.drawn 0 [zr (zl 4 1) 0 0 0,zr (zl 5 2) 0 0 0,zp (zo 6 (.nilchk 5)) 2,zp (zf 7 0 6) 6,zp (zf 8 0 7) 14,zr (zl 9 8) 0 0 30,zp (zf 10 1 3) 0,zr (zl 11 10) 0 0 64,zp (zo 12 (.iaddrS 8 9 11)) 254,zr (zo 13 (.load true 13 3)) 0 0 0,zh (zo 14 (.call 4 [12,13])) 1023]))
structure BaseL (P:Program)(K:Orc)(F:Nat->FuncId)(T:Nat->TypeId):Prop where
 f264:FnK P K (F 264) 15 [] (ad9 F T)
variable {rd:Option Nat}{nt:Nat}{l:Sl}{ds:List aD}{s:SH}{Q:Po}{Qn:Po}{Qr:Po}{Qe:Nat->Po}
theorem Gr.put {sz:Nat}{v:AV}{L:List (List AV)}{o:SH}(h:Gr sz v L o){p:Nat}(hp:p<L.length):∃b c M,v=.slice (some ⟨b,0,0⟩) L.length c true sz/\o=[(b,.r false (L++M) sz)]/\∀row',Gr sz (.slice (some ⟨b,0,0⟩) L.length c true sz) (L.set p row') [(b,.r false ((L++M).set p row') sz)]:=by
 cases h with
 | nil=>exact absurd hp<|Nat.not_lt_zero _
 | zero=>exact absurd hp<|Nat.not_lt_zero _
 | @rows b n c L M hn hc hL=>
  subst hn
  refine⟨b,c,M,rfl,rfl,λrow'=>?_⟩
  rw[List.set_append_left _ _ hp]
  exact .rows (by simp) (by simp[hc]) hL
theorem iJ.agM {n:SH}{pv ov lv hv gv ev fv sv wv:AV}{d:SD}(h:iJ n pv ov lv hv gv ev fv sv wv d):∃o r,n.Perm (o++r)/\Gr 8 pv (Am d.pl) o/\∀pv' l' o',Gr 8 pv' (Am l') o'->iJ (o'++r) pv' ov lv hv gv ev fv sv wv { d with pl:=l' }:=by
 obtain⟨o1,o2,o3,o4,o5,o6,o7,o8,o9,j,hp,g1,g2,g3,g4,g5,g6,g7,g8,g9⟩:=h.ex
 exact⟨o1,o2++(o3++(o4++(o5++(o6++(o7++(o8++(o9++j))))))),hp,g1,λv' l' o' g'=>⟨o',o2,o3,o4,o5,o6,o7,o8,o9,j,.refl _,g',g2,g3,g4,g5,g6,g7,g8,g9⟩⟩
structure BaseU (P:Program)(K:Orc)(F:Nat->FuncId)(T:Nat->TypeId):Prop where
structure BaseV (P:Program)(K:Orc)(F:Nat->FuncId)(T:Nat->TypeId):Prop where
structure GE (P:Program)(K:Orc)(F:Nat->FuncId)(T:Nat->TypeId)(tF:TypeId)(g:ED->CH->CH)(C:List CD)(d:SD):Prop where
 hB:Base P K F T
 hC:BaseC P K F T
 hG:BaseG P K F T
 hT:TyC P T
 hM:gA P F tF
 hU:BaseU P K F T
 hI:BaseB P K F T
 info:meth P tF "Info"=some (F 58)
 t128:Ty P (T 128) 13
 hd:d.Small
 he:d.kQ
 hO:nG P K F g d C
@[reducible] def gm (tF:TypeId)(bf:Nat):AV:=.iface tF (.ptr (some ⟨bf,0,0⟩))
variable {bf:Nat}{bl:Nat}{aZ:AV}{bE:AV}{c0:Int}{c1:Int}{c2:Int}{c3:Int}{c4:Int}{EL:List (List AV)}{d:SD}{t:SH}{tF:TypeId}{g:ED->CH->CH}{C:List CD}{tl:AD->List Nat}
def qa (b k:Int):Bool:=match binV .and (iv k) (iv b)with | some (.int _ n)=>decide (n=0) | _=>false
theorem abN (a b:Int):∃n,binV .and (iv a) (iv b)=some (iv n)/\qa b a=decide (n=0):=by
 obtain⟨n,h⟩:=Tl a b
 exact⟨n,h,by unfold qa;rw[h]⟩
structure OT where
 k:Int
 a:Int
 b:Int
deriving DecidableEq
@[reducible] def OT.row (x:OT):List AV:=[iv x.k,iv x.a,iv x.b]
def otR (l:List OT):List (List AV):=l.map OT.row
theorem adx (ae5:FnK P K (F 264) 15 [] (ad9 F T)){fn:FuncId}{o':LD}{bw bd bx:Nat}{d:SD}{t:SH}(hs:WH bw d t s)(hbd:Has bd (.r false [[.func fn [] []]] 1) t)(PA:Has bx (.r false [[.ptr (some ⟨bw,0,0⟩)]] 1) t){p:Nat}{o:LD}(ho:d.pl[p]?=some o){k b n m:Int}{it:ID}
  (hin:∀{s s':SH}{bp:Nat}{L:List (List AV)},oY bp (.r false L 8) (.r false (L.set p o'.row) 8) s s'->L[p]?=some o.row->bB P K fn [.ptr (some ⟨bp,p,0⟩),.agg<|evRow k (.ofNat p) b n m it] s (λ_ s2=>∃m,s2=m++s')) :
  c6 P K (.func (F 264) [] [.ptr (some ⟨bd,0,0⟩),.ptr<|some ⟨bx,0,0⟩]) [.agg (evRow k (.ofNat p) b n m it)] s (λ_ s'=>WH bw { d with pl:=d.pl.set p o' } t s'):=by
 have hp:p<d.pl.length:=(List.getElem?_eq_some_iff.1 ho).1
 obtain⟨pv,ov,lv,hv,gv,ev,fv,sv,wv,nn,k1,k2⟩:=hs
 obtain⟨op,r,kp,g,back⟩:=k2.agM
 obtain⟨bp,c,M,rfl,rfl,put⟩:=g.put (p:=p)<|by simpa[Am]using hp
 have hlen:(Am d.pl).length=d.pl.length:=by simp[Am]
 have hrow:(Am d.pl++M)[p]?=some o.row:=by
  rw[List.getElem?_append_left (by omega),Am,List.getElem?_map,ho];rfl
 refine c6.func<|bB.perm (s:=(bp,.r false (Am d.pl++M) 8)::(bw,.r false [d.cells (.slice (some ⟨bp,0,0⟩) (Am d.pl).length c true 8) ov lv hv gv ev fv sv wv] 25)::(r++t)) (ak λc w h0 h1 h2 hq=>by rw[hq _ _ k1];simp only[h1,h2,h0,hq _ _ kp];omega) ?_
 refine ae5.dT ?_
 unfold ad9
 refine Wq<|Wa (.box rfl rfl) λb3=>Wn ?_
 refine WP.bD<|Dl rfl .nil (.load rfl (.there<|.there<|.there<|.app hbd) rfl rfl rfl)<|Dl rfl .nil (.load rfl (.there<|.there<|.there<|.app PA) rfl rfl rfl)<|Dp (.nilchk rfl rfl)<|Dp (.faddr rfl)<|Dp (.faddr rfl)<|Dl rfl .nil (.load rfl (.there<|.there .here) rfl rfl rfl)<|Dp (.faddr rfl)<|Dl rfl .nil (.load rfl .here rfl rfl rfl)<|Dp (.iaddrS rfl rfl (by omega)<|by decide) ?_
 rw[show Nat.add 0 p=p from Nat.zero_add p]
 refine Dl rfl .nil (.load rfl .here rfl rfl rfl)<|Dc .nil<|W1 (hin (s':=(b3,.r false [evRow k (.ofNat p) b n m it] 13)::(bp,.r false ((Am d.pl++M).set p o'.row) 8)::(bw,.r false [d.cells (.slice (some ⟨bp,0,0⟩) (Am d.pl).length c true 8) ov lv hv gv ev fv sv wv] 25)::(r++t)) (.there .here) hrow) ?_
 rintro w _ ⟨mm,rfl⟩
 refine D0 .nil (Wm .nil ?_)<|λo h=>nomatch h
 have g':=back _ (d.pl.set p o') [(bp,.r false ((Am d.pl++M).set p o'.row) 8)] (by
  have:=put o'.row
  rw[show Am (d.pl.set p o')=(Am d.pl).set p o'.row from by simp[Am,List.map_set]]
  exact this)
 refine⟨_,ov,lv,hv,gv,ev,fv,sv,wv,mm++[(b3,.r false [evRow k (.ofNat p) b n m it] 13)]++((bp,.r false ((Am d.pl++M).set p o'.row) 8)::r),?_,g'.bK⟩
 show List.Perm (mm++((b3,HO.r false [evRow k (.ofNat p) b n m it] 13)::(bp,HO.r false ((Am d.pl++M).set p o'.row) 8)::(bw,HO.r false [({ d with pl:=d.pl.set p o' }:SD).cells (.slice (some ⟨bp,0,0⟩) (Am d.pl).length c true 8) ov lv hv gv ev fv sv wv] 25)::(r++t))) _
 exact zt
theorem aec {d:SD}{o:OD}{p:Nat}(hz:o.ci=2):d.add o p={ d with nx:=d.nx+1,sp:=d.sp+1,ob:=d.ob++[o.new2 d.nx d.sp],fi:=d.fi++[d.nx] }:=by
 unfold SD.add
 rw[if_pos hz,hz]
 rfl
theorem aeZ {P:Program}{K:Orc}{F:Nat->FuncId}{d:SD}{C:List CD}(h:∀c∈C,c.ab=[])(hcd:∀o∈d.ob,∃j:Nat,o.gE=.ofNat j/\j<C.length):nG P K F (λ_ c=>c) d C:=⟨⟨hcd,h⟩⟩
structure LawU (P:Program)(K:Orc)(F:Nat->FuncId)(T:Nat->TypeId):Prop where
 hB:Base P K F T
 hC:BaseC P K F T
 hG:BaseG P K F T
 hT:TyC P T
 hM:gA P F (T 26)
 hU:BaseU P K F T
 hI:BaseB P K F T
 info:meth P (T 26) "Info"=some (F 58)
 t128:Ty P (T 128) 13
 hS:BaseT P K F T
 hL:BaseL P K F T
 hV:BaseV P K F T
 hJ:BaseI P K F T
theorem LawU.ge {P:Program}{K:Orc}{F:Nat->FuncId}{T:Nat->TypeId}{g:ED->CH->CH}{C:List CD}{d:SD}(h:LawU P K F T)(hd:d.Small)(he:d.kQ)(hO:nG P K F g d C):GE P K F T (T 26) g C d:=
 ⟨h.hB,h.hC,h.hG,h.hT,h.hM,h.hU,h.hI,h.info,h.t128,hd,he,hO⟩
def WOy (P:Program)(K:Orc)(ol:List bS)(l:Sl)(Q:Sl->Prop):Prop:=
 ∀(nt:Nat)(ops:Array Oper)(l0:List Oper)(e:Tr AV)(ds:List aD)(H:Heap),aI (co P nt ops.toList) l0=some ol->En l e->∃e' l',fj P K nt ops l0 e ds H (.mk .normal e' ds H)/\En l' e'/\Q l'
theorem WOy.nil {l:Sl}{Q:Sl->Prop}(h:Q l):WOy P K [] l Q:=by
 intro nt ops l0 e ds H hl he
 cases l0 with
 | nil=>exact⟨e,l,fj.nil,he,h⟩
 | cons a l0=>
  obtain⟨b,bs,h1,h2,h3⟩:=(aV _ a l0 _).1 hl
  cases h3
theorem WOy.r {d:Option Nat}{op:AOp}{rest:List bS}{v:AV}{l:Sl}{Q:Sl->Prop}(h:WR P op l [] v)(k:WOy P K rest (pl d v l) Q):WOy P K (⟨d,op,none⟩::rest) l Q:=by
 intro nt ops l0 e ds H hl he
 cases l0 with
 | nil=>cases hl
 | cons a l0=>
  obtain⟨b,bs,h1,h2,h3⟩:=(aV _ a l0 _).1 hl
  cases h3
  have hc:cOper P nt a=⟨d,op,none⟩:=by
   unfold co at h1
   generalize cOper P nt a=z at h1 |-
   obtain⟨d',op',g'⟩:=z
   dsimp only at h1
   cases g' with
   | none=>cases h1;rfl
   | some jw=>
    obtain⟨j,w⟩:=jw
    unfold cg at h1
    dsimp only at h1
    split at h1
    ·rename_i hq;split at hq
     ·split at hq
      ·cases hq;cases h1
      ·cases hq
     ·cases hq
    ·cases h1
  have hp:Hp ⟨.lf,0⟩ [] H:=⟨Nat.zero_le _,(λb o hb=>nomatch hb),List.Pairwise.nil,λb hb=>absurd hb<|Nat.not_lt_zero _⟩
  obtain⟨e',l',j1,j2,j3⟩:=k nt ops l0 (putO e d v) ds H h2<|he.putO d v
  exact⟨e',l',fj.cons hc rfl ⟨0,(h.q P _ (bL e) ds H).trans (by rw[h.h _ e H he hp])⟩ j1,j2,j3⟩
theorem WOy.seq2 {o1 o2:List bS}{b:AC}{l1:Sl}{Q1:Sl->Prop}{e:Tr AV}{ds:List aD}{H H0:Heap}{Qn Qr:Po}{Qe:Nat->Po}(h1:WOy P K o1 l1 Q1)(he:En l1 e)(h2:∀l' e',Q1 l'->En l' e'->WOa P K o2 e' ds H H0 (λl ds s=>WP P K none nt b l ds s Qn Qe Qr)){c0:Code}(hc:cc P nt c0=.seq (.ops o1) (.seq (.ops o2) b)) :
  ∃x e' ds' H' l' s',bt P K none nt c0 e ds H (.mk x e' ds' H')/\En l' e'/\Hp H0 s' H'/\(match x with | .normal=>Qn l' ds' s' | .exit i=>Qe i l' ds' s' | .ret=>Qr l' ds' s'):=by
 cases c0 with
 | seq a0 b0=>
  simp only[cc,AC.seq.injEq]at hc
  obtain⟨ha,hb⟩:=hc
  cases a0 with
  | region i ops d=>
   cases d with
   | true=>
    exfalso
    have hc:cdr P nt ops=.ops o1:=ha
    unfold cdr at hc
    split at hc
    ·split at hc<;>cases hc
    ·cases hc
   | false=>
    have hc:(match aI (co P nt ops.toList) ops.toList with | some l=>AC.ops l | none=>.bad)=.ops o1:=ha
    split at hc
    ·rename_i l' hl'
     cases hc
     obtain⟨e1,l2,k1,k2,k3⟩:=h1 nt ops ops.toList e ds H hl' he
     obtain⟨x,e2,ds2,H2,l2,s2,j1,j2,j3,j4⟩:=(h2 l2 e1 k3 k2).seq hb
     exact⟨x,e2,ds2,H2,l2,s2,bt.seq (bt.region k1) j1,j2,j3,j4⟩
    ·cases hc
  | _=>simp[cc]at ha
 | region i ops d=>exact(db hc).elim
 | _=>simp[cc]at hc
theorem WOa.r {d:Option Nat}{op:AOp}{rest:List bS}{v:AV}{l:Sl}{e:Tr AV}{ds:List aD}{H H0:Heap}{Q:Po}(h:WR P op l [] v)(he:En l e)(k:WOa P K rest (putO e d v) ds H H0 Q):WOa P K (⟨d,op,none⟩::rest) e ds H H0 Q:=by
 have hp:Hp ⟨.lf,0⟩ [] H:=⟨Nat.zero_le _,(λb o hb=>nomatch hb),List.Pairwise.nil,λb hb=>absurd hb<|Nat.not_lt_zero _⟩
 exact WOa.cons ⟨0,(h.q P _ (bL e) ds H).trans (by rw[h.h _ e H he hp])⟩ k
end
section
variable [Sg]{P:Program}{K:Orc}{F:Nat->FuncId}{T:Nat->TypeId}
end
theorem afr {a m:Nat}(h:a<=m):(0:Int)<=.ofNat a/\(.ofNat a:Int)<=.ofNat m:=⟨Int.natCast_nonneg a,Int.ofNat_le.2 h⟩
section
variable {P:Program}{K:Orc}{F:Nat->FuncId}{T:Nat->TypeId}{f:FuncId}{fn:Func}{c:Code}{ajn:Func}{c35:Code}{R:iB}{n:Nat}
def af0:CF:=λF T=>(oN [zo 3 (.box 13 0)] (.drawn 0 [zr (zl 4 1) 0 1 0,zr (zl 5 2) 0 0 0,zp (zf 6 1 3) 0,zr (zl 7 6) 0 0 4,zh (oF F 8 249 [5,7]) 14,zr (zo 9 (.load true 13 3)) 0 1 0,zh (zo 10 (.call 4 [8,9])) 63]))
def af1:CF:=λF T=>(oN [zo 4 (.mv (.const (.pointer none)))] (.seq (.drawn 0 [zp (zm 5 0) 0,zp (zo 6 (.nilchk 5)) 1,zp (zf 7 0 6) 3,zp (zf 8 1 7) 7,zr (zl 9 8) 0 1 15,zp (zm 10 0) 0,zp (zo 11 (.nilchk 10)) 32,zp (zf 12 0 11) 96,zr (zo 13 (.load true 25 12)) 0 0 224,zp (zm 14 1) 0,zh (oF F 15 91 [13,14]) 992,zp (zo 16 (.iaddrS 14 9 15)) 2047,zp (zm 4 16) 4095]) .ret))
def af2:CF:=λF T=>(oN [zo 3 (.box 13 1)] (.ops [zm 4 0,zf 5 3 3,zl 6 5,zo 7 (.eql false .pi 6 (zc 1)),zo 8 (.nilchk 4),zf 9 5 8,zn (.store 1 9 7)]))
def af3:CF:=λF T=>(oN [zo 3 (.box 13 1)] (.ops [zm 4 0,zf 5 3 3,zl 6 5,zo 7 (.eql false .pi 6 (zc 1)),zo 8 (.nilchk 4),zf 9 6 8,zn (.store 1 9 7)]))
def af7:CF:=λF T=>(oN [zo 3 (.box 13 1)] (.ops [zm 4 0,zf 5 2 3,zl 6 5,zo 7 (.nilchk 4),zf 8 10 7,zn (.store 1 8 6)]))
structure BaseX (P:Program)(K:Orc)(F:Nat->FuncId)(T:Nat->TypeId):Prop where
 f248:FnK P K (F 248) 11 [] (af0 F T)
 f249:FnK P K (F 249) 17 [(.tmp 4)] (af1 F T)
 f250:FnK P K (F 250) 10 [] (af2 F T)
 f251:FnK P K (F 251) 10 [] (af3 F T)
 f257:FnK P K (F 257) 9 [] (af7 F T)
def a32:CF:=λF T=>(oN [zo 2 (.box 1 0),zo 3 (.box 1 1),zo 4 (.mv (.const (.slice none 0 0)))] (oN [zo 5 (.alloc 1 [(.slice none 0 0 false 0)])] (.seq (oN [zl 8 2,oF F 9 79 [8]] (.block 0 (.rf 9 [10] (.ops [zo 6 (.alloc 17 zL0),zn (.store 17 6 10)]) (.block 1 (.seq (oN [zf 11 0 6,zf 12 3 11,zl 13 12,zl 14 3,zo 15 (.eql true .pi 13 14),zm 16 15,zg 17 (.faddr 0 6) 16 false,zg 18 (.faddr 5 17) 16 false,zg 19 (.load false 1 18) 16 false,zo 20 (.pick 16 (.const (.bool true)) 19),zm 21 20,zg 22 (.faddr 0 6) 21 false,zg 23 (.faddr 11 22) 21 false,zg 24 (.load false 1 23) 21 false,zg 25 (.eql true .pi 24 (zc 0)) 21 false,zo 26 (.pick 21 (.const (.bool true)) 25)] (.cond 26 (.exit 1) .skip)) (oN [zl 27 2,oF F 28 79 [27]] (.block 2 (.rf 28 [29] (.ops [zo 7 (.alloc 17 zL0),zn (.store 17 7 29)]) (.block 3 (oN [zf 30 0 7,zf 31 10 30,zl 32 31,zl 33 3,zo 34 (.arith .add 33 (zc 1)),zo 35 (.eql false .pi 32 34),zm 36 35,zg 37 (.load true 17 6) 36 true,zg 38 (.call (.func (F 80)) [37,(zc 1)]) 36 true,zg 39 (.mv 38) 36 true,zg 40 (.load true 17 7) 39 false,zg 41 (.call (.func (F 80)) [40,(zc 1)]) 39 false,zg 42 (.un .not 41) 39 false,zg 43 (.pick 39 (.const (.bool true)) 42) 36 true,zo 44 (.pick 36 43 (.const (.bool false)))] (.cond 44 (.ops [zl 45 5,zf 46 0 6,zf 47 0 46,zl 48 47,zf 49 0 7,zf 50 0 49,zl 51 50,zo 52 (.build [(za 0),(za 0),(za 0)] [⟨0,⟨1,(zc 10)⟩⟩,⟨1,⟨1,48⟩⟩,⟨2,⟨1,51⟩⟩]),zo 53 (.bslice 3 1 [(za 0),(za 0),(za 0)] [⟨0,52⟩]),zo 54 (.append 3 24 45 53),zn (.store 1 5 54)]) .skip))))))))))) (oN [zl 55 5,zm 4 55] .ret))))
def a79:CF:=λF T=>(oN [zo 1 (.box 1 0),zo 2 (.mv (.const .nilFunc))] (oN [zo 3 (.mkfn (F 124) [] [1]),zm 2 3] .ret))
def a80:CF:=λF T=>(oN [zo 2 (.box 17 0),zo 4 (.mv (.const (.bool false)))] (oN [zf 5 14 2,zf 6 2 5,zl 7 6,zm 8 1,zo 9 (.arith .and 7 8),zo 10 (.eql true .pi 9 (zc 0)),zm 4 10] .ret))
def afI:CF:=λF T=>(.seq (oN [zl 9 1,zo 10 (.eql false (.iface true) 9 (.const .nilIface))] (.cond 10 .ret .skip)) (oN [zl 11 1,zo 12 (.invoke 11 "Zone" [(zc 2),(zc 0)]),zo 13 (.lenS 12),zo 14 (.mv (zc 0))] (.block 0 (.loop (oN [zo 15 (.arith .lss 14 13)] (.seq (.cond 15 .skip (.exit 0)) (.seq (.block 1 (oN [zo 16 (.iaddrS 1 12 14),zl 17 16,zm 4 17] (oN [zl 19 1,zm 20 4,zo 21 (.invoke 19 "Obj" [20]),zm 18 21,zo 22 (.extract 18 0),zo 23 (.extract 18 1),zo 5 (.alloc 14 dB),zn (.store 14 5 22),zm 6 23] (oN [zl 25 1,zm 26 4,zo 27 (.invoke 25 "Chars" [26]),zm 24 27,zo 28 (.extract 24 0),zo 29 (.extract 24 1),zo 7 (.alloc 3 [(za 0),(za 0),(za 0)]),zn (.store 3 7 28),zm 8 29] (oN [zm 30 8,zm 31 30,zg 32 (.mv 0) 31 true,zg 33 (.load true 14 5) 31 true,zg 34 (.load true 3 7) 31 true,zg 35 (.build zL0 [⟨0,⟨14,33⟩⟩,⟨14,⟨3,34⟩⟩]) 31 true,zg 36 (.call 32 [35]) 31 true,zg 37 (.un .not 36) 31 true,zo 38 (.pick 31 37 (.const (.bool false)))] (.cond 38 .ret .skip)))))) (.ops [zo 39 (.arith .add 14 (zc 1)),zm 14 39]))))))))
structure BaseY (P:Program)(K:Orc)(F:Nat->FuncId)(T:Nat->TypeId):Prop where
 f32:FnK P K (F 32) 56 [(.tmp 4)] (a32 F T)
 f79:FnK P K (F 79) 4 [(.tmp 2)] (a79 F T)
 f80:FnK P K (F 80) 11 [(.tmp 4)] (a80 F T)
 f124:FnK P K (F 124) 40 [] (afI F T)
variable {rd:Option Nat}{nt:Nat}{l:Sl}{ds:List aD}{s:SH}{Q:Po}{Qn:Po}{Qr:Po}{Qe:Nat->Po}
theorem aez (k a b n m:Int)(it:ID):dz (.agg (evRow k a b n m it)) (.agg (evRow k a b n m it))=true:=by
 show sameL (sameN 5) (evRow k a b n m it) (evRow k a b n m it)=true
 simp[sameL,sameN,same0,gd,keq]
theorem aeA (f:FuncId):dz (.func f [] []) (.func f [] [])=true:=by
 simp[dz,sameN,sameL]
theorem acU (hB:Base P K F T)(hX:BaseX P K F T){bw bp n c i:Nat}{pv lv hv gv ev fv sv wv:AV}{d:SD}{a:Int}(hb:Has bw (.r false [d.cells pv (.slice (some ⟨bp,0,0⟩) n c true 14) lv hv gv ev fv sv wv] 25) s)(hs:Src s 14 (.slice (some ⟨bp,0,0⟩) n c true 14) (fy d.ob))(hsm:d.Small)(hi:d.find a=some i)(hin:i<n) :
  bB P K (F 249) [.ptr (some ⟨bw,0,0⟩),iv a] s (λv s'=>v=.ptr (some ⟨bp,0+i,0⟩)/\∃m,s'=m++s):=by
 have Y0:=hsm.n1
 refine hX.f249.dT ?_
 unfold af1
 refine Wq<|Wv rfl<|Wn ?_
 refine Ws<|WP.bD<|Dp (.mv rfl)<|Dp (.nilchk rfl rfl)<|Dp (.faddr rfl)<|Dp (.faddr rfl)<|WD.lk rfl .nil (.load rfl hb rfl rfl rfl)<|Dp (.mv rfl)<|Dp (.nilchk rfl rfl)<|Dp (.faddr rfl)<|Dl rfl .nil (.load (cs:=d.cells pv (.slice (some ⟨bp,0,0⟩) n c true 14) lv hv gv ev fv sv wv) rfl hb rfl rfl rfl)<|Dp (.mv rfl)<|Dc .nil<|W1 (lg hB hs hsm) ?_
 rintro w _ ⟨rfl,m,rfl⟩
 rw[hi]
 refine Dp (.iaddrS rfl rfl hin<|by decide)<|Dp (.mv rfl)<|D0 .nil (We<|Wm (.tmp rfl .nil) ⟨rfl,m,rfl⟩) ?_
 intro o ho
 rw[List.mem_singleton.1 ho]
 refine⟨λi hi=>(nomatch hi),Nat.zero_le _,hs.same,λk _ hk=>?_⟩
 rcases cD hk with rfl|rfl
 ·exact⟨_,rfl,.load rfl hb rfl rfl rfl⟩
 ·exact⟨_,rfl,.load rfl (.app hb) rfl rfl rfl⟩
theorem abu (hB:Base P K F T)(hX:BaseX P K F T){fn:FuncId}{o o':OD}{bw bd bx i:Nat}{d:SD}{t:SH}(hs:WH bw d t s)(hbd:Has bd (.r false [[.func fn [] []]] 1) t)(PA:Has bx (.r false [[.ptr (some ⟨bw,0,0⟩)]] 1) t)(hsm:d.Small){k a b n m:Int}{it:ID}(hi:d.find a=some i)(ho:d.ob[i]?=some o)
  (hin:∀{s s':SH}{bp:Nat}{L:List (List AV)},oY bp (.r false L 14) (.r false (L.set i o'.row) 14) s s'->L[i]?=some o.row->bB P K fn [.ptr (some ⟨bp,i,0⟩),.agg<|evRow k a b n m it] s (λ_ s2=>∃m,s2=m++s')) :
  c6 P K (.func (F 248) [] [.ptr (some ⟨bd,0,0⟩),.ptr<|some ⟨bx,0,0⟩]) [.agg (evRow k a b n m it)] s (λ_ s'=>WH bw { d with ob:=d.ob.set i o' } t s'):=by
 have hil:i<d.ob.length:=(List.getElem?_eq_some_iff.1 ho).1
 obtain⟨pv,ov,lv,hv,gv,ev,fv,sv,wv,nn,k1,k2⟩:=hs
 obtain⟨op,r,kp,g,back⟩:=k2.xS
 have gs:=g
 obtain⟨bp,c,M,rfl,rfl,put⟩:=g.put (p:=i)<|by simpa[fy]using hil
 have hrow:(fy d.ob++M)[i]?=some o.row:=by
  rw[List.getElem?_append_left (by simpa[fy]using hil),fy,List.getElem?_map,ho];rfl
 refine c6.func<|bB.perm (s:=(bp,.r false (fy d.ob++M) 14)::(bw,.r false [d.cells pv (.slice (some ⟨bp,0,0⟩) (fy d.ob).length c true 14) lv hv gv ev fv sv wv] 25)::(r++t)) (ak λc w h0 h1 h2 hq=>by rw[hq _ _ k1];simp only[h1,h2,h0,hq _ _ kp];omega) ?_
 refine hX.f248.dT ?_
 unfold af0
 refine Wq<|Wa (.box rfl rfl) λb3=>Wn ?_
 refine WP.bD<|WD.lk rfl .nil (.load rfl (.there<|.there<|.there<|.app hbd) rfl rfl rfl)<|Dl rfl .nil (.load rfl (.there<|.there<|.there<|.app PA) rfl rfl rfl)<|Dp (.faddr rfl)<|Dl rfl .nil (.load rfl .here rfl rfl rfl)<|Dc .nil<|W1 (acU hB hX (.there<|.there .here) (gs.src (m:=[(b3,.r false [evRow k a b n m it] 13)])) hsm hi<|by simpa[fy]using hil) ?_
 rintro w _ ⟨rfl,m4,rfl⟩
 refine WD.lk rfl .nil (.load (cs:=evRow k a b n m it) rfl (.app .here) rfl rfl rfl)<|Dc .nil<|Wz [.ptr (some ⟨bp,i,0⟩),.agg<|evRow k a b n m it] rfl (by rw[Nat.zero_add];rfl) (hin (s':=m4++((b3,.r false [evRow k a b n m it] 13)::(bp,.r false ((fy d.ob++M).set i o'.row) 14)::(bw,.r false [d.cells pv (.slice (some ⟨bp,0,0⟩) (fy d.ob).length c true 14) lv hv gv ev fv sv wv] 25)::(r++t))) (.app<|.there .here) hrow) ?_
 rintro w _ ⟨mm,rfl⟩
 refine D0 .nil (Wm .nil ?_) ?_
 ·have g':=back _ (d.ob.set i o') [(bp,.r false ((fy d.ob++M).set i o'.row) 14)] (by
   have:=put o'.row
   rw[show fy (d.ob.set i o')=(fy d.ob).set i o'.row from by simp[fy,List.map_set]]
   exact this)
  refine⟨pv,_,lv,hv,gv,ev,fv,sv,wv,(mm++(m4++[(b3,.r false [evRow k a b n m it] 13)]))++((bp,.r false ((fy d.ob++M).set i o'.row) 14)::r),?_,g'.bK⟩
  show List.Perm (mm++(m4++((b3,HO.r false [evRow k a b n m it] 13)::(bp,HO.r false ((fy d.ob++M).set i o'.row) 14)::(bw,HO.r false [({ d with ob:=d.ob.set i o' }:SD).cells pv (.slice (some ⟨bp,0,0⟩) (fy d.ob).length c true 14) lv hv gv ev fv sv wv] 25)::(r++t)))) _
  exact zt
 ·intro o2 ho2
  rcases List.mem_cons.1 ho2 with rfl|ho2
  ·refine⟨λj hj=>(nomatch hj),Nat.zero_le _,aez _ _ _ _ _ _,λj _ hj=>?_⟩
   rcases(by have:j<=1:=hj;omega:j=0\/j=1)with rfl|rfl
   ·exact⟨_,rfl,.load (cs:=evRow k a b n m it) rfl .here rfl rfl rfl⟩
   ·exact⟨_,rfl,.load (cs:=evRow k a b n m it) rfl (.app .here) rfl rfl rfl⟩
  ·rw[List.mem_singleton.1 ho2]
   refine⟨λj hj=>(nomatch hj),Nat.zero_le _,aeA _,λj _ hj=>?_⟩
   rcases(by have:j<=1:=hj;omega:j=0\/j=1)with rfl|rfl
   ·exact⟨_,rfl,.load rfl (.there<|.there<|.there<|.app hbd) rfl rfl rfl⟩
   ·exact⟨_,rfl,.load rfl (.app<|.there<|.there<|.there<|.app hbd) rfl rfl rfl⟩
theorem ac0 (hX:BaseX P K F T){o:OD}{i bp:Nat}{k a b n m:Int}{it:ID}{s':SH}{L:List (List AV)}(hu:oY bp (.r false L 14) (.r false (L.set i ({ o with RU:=decide (n=1) }:OD).row) 14) s s')(hr:L[i]?=some o.row) :
  bB P K (F 250) [.ptr (some ⟨bp,i,0⟩),.agg<|evRow k a b n m it] s (λ_ s2=>∃m,s2=m++s'):=by
 refine hX.f250.dT ?_
 unfold af2
 refine Wq<|Wa (.box rfl rfl) λb3=>Wn ?_
 refine Wo<|Wv rfl<|Wf rfl<|Wl rfl .here rfl rfl rfl<|Wh rfl rfl (bb _ _)<|Wr (.nilchk rfl rfl)<|Wf rfl<|Ww<|Wt rfl rfl rfl (.there hu) hr rfl<|Wn<|Wm .nil ⟨[_],rfl⟩
theorem ab7 (hX:BaseX P K F T){o:OD}{i bp:Nat}{k a b n m:Int}{it:ID}{s':SH}{L:List (List AV)}(hu:oY bp (.r false L 14) (.r false (L.set i ({ o with VK:=decide (n=1) }:OD).row) 14) s s')(hr:L[i]?=some o.row) :
  bB P K (F 251) [.ptr (some ⟨bp,i,0⟩),.agg<|evRow k a b n m it] s (λ_ s2=>∃m,s2=m++s'):=by
 refine hX.f251.dT ?_
 unfold af3
 refine Wq<|Wa (.box rfl rfl) λb3=>Wn ?_
 refine Wo<|Wv rfl<|Wf rfl<|Wl rfl .here rfl rfl rfl<|Wh rfl rfl (bb _ _)<|Wr (.nilchk rfl rfl)<|Wf rfl<|Ww<|Wt rfl rfl rfl (.there hu) hr rfl<|Wn<|Wm .nil ⟨[_],rfl⟩
theorem abb (hX:BaseX P K F T){o:OD}{i bp:Nat}{k a b n m:Int}{it:ID}{s':SH}{L:List (List AV)}(hu:oY bp (.r false L 14) (.r false (L.set i ({ o with NP:=b }:OD).row) 14) s s')(hr:L[i]?=some o.row) :
  bB P K (F 257) [.ptr (some ⟨bp,i,0⟩),.agg<|evRow k a b n m it] s (λ_ s2=>∃m,s2=m++s'):=by
 refine hX.f257.dT ?_
 unfold af7
 refine Wq<|Wa (.box rfl rfl) λb3=>Wn ?_
 refine Wo<|Wv rfl<|Wf rfl<|Wl rfl .here rfl rfl rfl<|Wr (.nilchk rfl rfl)<|Wf rfl<|Ww<|Wt rfl rfl rfl (.there hu) hr rfl<|Wn<|Wm .nil ⟨[_],rfl⟩
theorem ad2 {k g bw:Nat}{m:SH}{v:AV}(hk:k=3/\g=250\/k=4/\g=251\/k=5/\g=253\/k=6/\g=255\/k=12/\g=257\/k=14/\g=252)(hv:RV F bw m k v):iP F bw m v false true true 248 g:=by
 rcases hk with⟨rfl,rfl⟩|⟨rfl,rfl⟩|⟨rfl,rfl⟩|⟨rfl,rfl⟩|⟨rfl,rfl⟩|⟨rfl,rfl⟩<;>exact hv
theorem abD {k g:Nat}(hk:k=3/\g=250\/k=4/\g=251\/k=5/\g=253\/k=6/\g=255\/k=12/\g=257\/k=14/\g=252):k∈[3,4,14,5,6,11,12,13,10,2,25]/\(k:Int)≠13/\(k:Int)≠16/\(k:Int)≠18/\(k:Int)≠26:=by
 rcases hk with⟨rfl,_⟩|⟨rfl,_⟩|⟨rfl,_⟩|⟨rfl,_⟩|⟨rfl,_⟩|⟨rfl,_⟩<;>decide
theorem L0 (hB:Base P K F T)(hX:BaseX P K F T){k i:Nat}{g:Nat}{o o':OD}{a b n m:Int}{it:ID}{d:SD}(hd:d.Small)(he:d.kQ)(hk:k=3/\g=250\/k=4/\g=251\/k=5/\g=253\/k=6/\g=255\/k=12/\g=257\/k=14/\g=252)(hi:d.find a=some i)(ho:d.ob[i]?=some o)(hz:o.ci=2)
  (hin:∀{s s':SH}{bp:Nat}{L:List (List AV)},oY bp (.r false L 14) (.r false (L.set i o'.row) 14) s s'->L[i]?=some o.row->bB P K (F g) [.ptr (some ⟨bp,i,0⟩),.agg<|evRow k a b n m it] s (λ_ s2=>∃m,s2=m++s'))
  (lm:∀s,bB P K (F 201) [.agg (evRow k a b n m it)] s<|λv s'=>v=iv 0/\s'=s) :
  Ap P K F k a b n m it d { d with ob:=d.ob.set i o' }:=
 yH (k:=k) hB hd lm (FB hB (abD hk).1) (λ{_ _ _ _ v} hv hW=>by
  obtain⟨bd,bx,rfl,_⟩:=ad2 hk hv
  exact aex hB hW hd he (abD hk).2.1 (abD hk).2.2.1 (abD hk).2.2.2.1 (abD hk).2.2.2.2 hi ho hz) (λ{_ _ _ _ _ _ fn} hv hW=>by
  obtain⟨bd,bx,hv,h1,h2⟩:=ad2 hk hv
  cases hv
  exact abu hB hX hW h1 h2 hd hi ho hin)
theorem adj (hB:Base P K F T){p:Nat}{b n m:Int}{it:ID}{d:SD}(hd:d.Small)(he:d.kQ)(hp:p<d.pl.length)(h1:0<=d.nx/\d.nx<=1000000)(h2:0<=d.sp/\d.sp<=1000000)(lm:∀s,bB P K (F 201) [.agg (evRow 1 (.ofNat p) b n m it)] s (λv s'=>v=iv 0/\s'=s)) :
  Ap P K F 1 (.ofNat p) b n m it d (d.add (pY p b n m) p):=
 yH (k:=1) hB hd lm (abJ hB<|by simp) (λ{_ _ _ _ v} hv hW=>by
  obtain⟨bx,rfl,_⟩:=(show km F _ _ v true false false 265 from hv)
  exact acp hB hW hd he (k:=1) (by omega) (by omega) (by omega) (by omega) hp) (λ{_ _ _ _ _ _ _} hv hW=>by
  obtain⟨bx,hv,hx⟩:=(show km F _ _ _ true false false 265 from hv)
  cases hv
  exact c6.func (B1 hB hW hx hd he hp h1 h2))
theorem WP.rf2 {g:Operand}{p lo D nt0:Nat}{l0:Sl}{ps0:List Nat}{aha agm:Code}{st0:LoopState}{agK:Option AX}{Bu sG:AC}{f:FuncId}{first cap:List AV}(hg:opl l g=some (.func f first cap))(hlo:Has lo (.lp l0 nt0 ps0 aha agm st0 agK D) s)
  (h:∀(asg body:Code),cc P nt asg=Bu->cc P nt body=sG->∀lb,bB P K f (first++(.yield lb::cap)) ((lb,.lp l nt [p] asg body .ready none D)::s) (λ_ s'=>∃l' st pend t',s'=(lb,.lp l' nt [p] asg body st pend D)::t'/\st≠.busy /\
   (match pend with | none=>Qn l ds ((lb,.gone)::t') | some .normal=>Qn l ds ((lb,.gone)::t') | some (.exit i)=>Qe i l ds ((lb,.gone)::t') | some .ret=>Qr l ds ((lb,.gone)::t')))) :
  WP P K (some lo) nt (.rf g [p] Bu sG) l ds s Qn Qe Qr:=by
 intro c0 hc H0 e H he hH
 cases c0 with
 | rangeFunc g0 ps asg body=>
  simp only[cc,AC.rf.injEq]at hc
  obtain⟨rfl,hps,ha,hb⟩:=hc
  obtain⟨_,e0,hg0,_⟩:=hH.has hlo
  have h2:=hH.alloc (o':=.lp l nt [p] asg body .ready none D) (o:=.loop e nt [p] asg body .ready none D) ⟨e,rfl,he⟩
  obtain⟨v,s',H',⟨n,r1⟩,k2,l',st,pend,t',rfl,hst,k3⟩:=h asg body ha hb _ H0 _ h2
  obtain⟨_,e4,hg4,_⟩:=k2.has .here
  have run:∀x,(match pend with | none=>AX.normal | some y=>y)=x->bt P K (some lo) nt (.rangeFunc g0 ps asg body) e ds H (.mk x e ds<|H'.del H.next):=by
   rintro x rfl
   refine⟨n+1,?_⟩
   rw[bO]
   have aa8:(ev P K n).call f (bI first<|.yield H.next::cap) (H.new<|.loop e nt [p] asg body .ready none D).2=some (v,H'):=by rw[aN];exact r1
   unfold stepCode
   simp only[aG he hg,hps,hg0]
   show(match (ev P K n).call f (bI first<|.yield H.next::cap) (H.new<|.loop e nt [p] asg body .ready none D).2 with
    | some (_,H3)=>(match H3.get H.next with
     | some (.loop _ _ _ _ _ st pend _)=>(match st with
      | .busy=>none
      | _=>match pend with
       | none=>some<|CR.mk .normal e ds<|H3.del H.next
       | some x=>some (.mk x e ds (H3.del H.next)))
     | _=>none)
    | none=>none)=_
   simp only[aa8,hg4]
   cases st with
   | busy=>exact absurd rfl hst
   | ready=>cases pend<;>rfl
   | done=>cases pend<;>rfl
   | exhausted=>cases pend<;>rfl
  have k5:=k2.gone
  cases pend with
  | none=>exact⟨_,_,_,_,_,_,run _ rfl,he,k5,k3⟩
  | some x=>
   cases x with
   | normal=>exact⟨_,_,_,_,_,_,run _ rfl,he,k5,k3⟩
   | exit i=>exact⟨_,_,_,_,_,_,run _ rfl,he,k5,k3⟩
   | ret=>exact⟨_,_,_,_,_,_,run _ rfl,he,k5,k3⟩
 | region i ops d=>exact(db hc).elim
 | _=>simp[cc]at hc
structure BT where
 o:OD
 c:CH
@[reducible] def BT.row (x:BT):List AV:=[iv x.o.id,iv x.o.gE,iv x.o.owner,iv x.o.aQ,iv x.o.ci,.bool x.o.RU,.bool x.o.VK,.bool x.o.token,iv x.o.Y6,iv x.o.stamp,iv x.o.NP,iv x.o.block,.bool x.o.J9,nilS,iv x.c.p,iv x.c.t,iv x.c.k]
def eb (g:ED->CH->CH)(d:SD)(C:List CD)(l:List Int):List BT:=l.filterMap λid=>match d.obj id,uY g d C id with | some o,some c=>some ⟨o,c⟩ | _,_=>none
structure ac8 (P:Program)(K:Orc)(bl:Nat)(EL:List (List AV))(d:SD)(y:AV)(J:List BT->SH->Prop):Prop where
 call:∀L t s(x:BT)m,L.length<=400->J L t->aH bl EL d (m++t) s->c6 P K y [.agg x.row] s (λv s'=>v=.bool true/\∃t',aH bl EL d (m++t') s'/\J (L++[x]) t')
def aeC (P:Program)(K:Orc)(bl:Nat)(EL:List (List AV))(d:SD)(f:FuncId)(cap:List AV)(t:SH)(out:List BT):Prop:=
 ∀y J t' s',ac8 P K bl EL d y J->(∀L t2,J L t2->∀q∈t,q∈t2)->J [] t'->aH bl EL d t' s'->bB P K f (y::cap) s' (λ_ s''=>∃t'',aH bl EL d t'' s''/\J out t'')
variable {bf:Nat}{bl:Nat}{aZ:AV}{bE:AV}{c0:Int}{c1:Int}{c2:Int}{c3:Int}{c4:Int}{EL:List (List AV)}{d:SD}{t:SH}{tF:TypeId}{g:ED->CH->CH}{C:List CD}{tl:AD->List Nat}
theorem t6 (hE:GE P K F T tF g C d)(hX:BaseY P K F T)(hf:Has bf (.r false [bu bl aZ c0 c1 c2 c3 c4 bE] 8) t)(eQ:cI t aZ C){b1:Nat}(vn:Has b1 (.r false [[gm tF bf]] 1) t)(hn4:d.fi.length<=400)(hall:∀id∈d.fi,∃o,d.obj id=some o) :
  aeC P K bl EL d (F 124) [.ptr (some ⟨b1,0,0⟩)] t (eb g d C d.fi):=by
 intro y J t' s' hY hJ h0 hs
 have hn:d.fi.length<=1000:=by have:=hE.hd.n1;omega
 have hfJ:∀{L t2},J L t2->Has bf (.r false [bu bl aZ c0 c1 c2 c3 c4 bE] 8) t2:=λh=>.ce<|hJ _ _ h _ hf.mem
 have hcJ:∀{L t2},J L t2->cI t2 aZ C:=λh=>eQ.mono λq hq=>hJ _ _ h q hq
 have hbJ:∀{L t2},J L t2->Has b1 (.r false [[gm tF bf]] 1) t2:=λh=>.ce<|hJ _ _ h _ vn.mem
 refine hX.f124.dT ?_
 unfold afI
 refine Ws<|Wq<|Wl rfl (hs.mem<|hbJ h0) rfl rfl rfl<|Wh (b:=false) rfl rfl rfl<|Wn<|Wd rfl fS<|λ_=>Wi ?_
 refine Wq<|Wl rfl (hs.mem<|hbJ h0) rfl rfl rfl<|Ww<|WS.invoke (vs:=[iv 2,iv 0]) rfl hE.hM.ci rfl (Gf hE.hB hE.hC hs hE.hd<|hfJ h0) ?_
 rintro w12 s4 ⟨m,pM,hS⟩
 have YH:lenOf w12=some d.fi.length:=by rw[hS.lenOf,gq]
 refine Wr (.lenS rfl YH)<|Wv rfl<|Wn<|Wb ?_
 refine Wp (λk l ds s'=>ds=[]/\∃q t2,k=d.fi.length-q/\q<=d.fi.length/\aH bl EL d (m++t2) s'/\J (eb g d C<|d.fi.take q) t2/\∀x w,lk [(0,y),(1,.ptr<|some ⟨b1,0,0⟩),(12,w12),(13,iv<|.ofNat d.fi.length),(14,iv<|.ofNat q)] x=some w->lk l x=some w) ?_ (n:=d.fi.length-0)
  ⟨rfl,0,t',rfl,Nat.zero_le _,pM,h0,bq rfl⟩
 rintro k l ds s5 ⟨rfl,q,t2,rfl,hq,tn,hJ2,hl⟩
 refine Wg hl (λ_ _ h=>h) ?_
 refine Wq<|Wj rfl rfl (eT _ _)<|Wn<|Ws<|Wd rfl (λht=>Wi ?_)<|λht=>Wx ?_
 rotate_left
 ·have hge:¬q<d.fi.length:=λh=>of_decide_eq_false ht (Int.ofNat_lt.2 h)
  rw[List.take_of_length_le (by omega)]at hJ2
  exact Wm .nil ⟨t2,tn.fb,hJ2⟩
 have hlt:q<d.fi.length:=Int.ofNat_lt.1<|of_decide_eq_true ht
 have hx:d.fi[q]?=some d.fi[q]:=List.getElem?_eq_getElem hlt
 have KP:d.fi[q]∈d.fi:=List.getElem_mem _
 generalize d.fi[q]=id at hx KP
 obtain⟨o,ho⟩:=hall id KP
 have hlen:(eb g d C<|d.fi.take q).length<=q:=Nat.le_trans (List.length_filterMap_le ..) (by rw[List.length_take];omega)
 have mN:eb g d C (d.fi.take<|q+1)=eb g d C (d.fi.take q)++(match uY g d C id with | some c=>[⟨o,c⟩] | none=>[]):=by
  unfold eb
  rw[List.take_add_one,hx,List.filterMap_append]
  congr 1
  show [id].filterMap _=_
  rw[List.filterMap_cons,ho]
  cases uY g d C id<;>rfl
 obtain⟨ba,ra,na,ca,J5,Sp,Ma,e4,hba,me,hra⟩:=hS.at (i:=q) (by rw[gq];exact hlt)
 have hrow:Ma[ra+q]?=some [iv id]:=by rw[hra,nR,List.getElem?_map,hx];rfl
 refine Ws<|Wb<|Wq<|Wr (.iaddrS (congrArg some e4) rfl me<|by decide)<|Wl rfl (tn.mem<|.left hba) hrow rfl rfl<|Wv rfl<|Wn ?_
 refine Wq<|Wl rfl (tn.mem<|.app<|hbJ hJ2) rfl rfl rfl<|Wv rfl<|Ww<|WS.invoke (vs:=[iv id]) rfl hE.hM.obj rfl (Qq hE.hB hE.hC tn hE.hd<|.app<|hfJ hJ2) ?_
 rintro w s5b ⟨hv,ahN⟩
 rw[ho]at hv
 subst hv
 refine Wv rfl<|Wr (.extract rfl rfl)<|Wr (.extract rfl rfl)<|Wa (.alloc rfl) λb5=>Ww<|Wt (s':=(b5,.r false [o.row] 14)::s5b) rfl rfl rfl .here rfl rfl<|Wv rfl<|Wn ?_
 have KL:aH bl EL d ((b5,.r false [o.row] 14)::(m++t2)) ((b5,.r false [o.row] 14)::s5b):=ahN.cons
 refine Wq<|Wl rfl (KL.mem<|.there<|.app<|hbJ hJ2) rfl rfl rfl<|Wv rfl<|Ww<|WS.invoke (vs:=[iv id]) rfl hE.hM.chars rfl (pE hE.hB hE.hC hE.hT KL hE.hd (.there<|.app<|hfJ hJ2) ((hcJ hJ2).mono λp hp=>by simp[hp]) hE.hO) ?_
 rintro w s7 ⟨hv,hs7⟩
 cases vo:uY g d C id with
 | none=>
  rw[vo]at hv mN
  subst hv
  refine Wv rfl<|Wr (.extract rfl rfl)<|Wr (.extract rfl rfl)<|Wa (.alloc rfl) λb7=>Ww<|Wt (s':=(b7,.r false [(⟨0,0,0⟩:CH).row] 3)::s7) rfl rfl rfl .here rfl rfl<|Wv rfl<|Wn ?_
  refine Wq<|Wv rfl<|Wv rfl<|Wk<|Wk<|Wk<|Wk<|Wk<|Wk<|Wr (.bj rfl rfl)<|Wn<|Wd rfl fS<|λ_=>Wi ?_
  refine Wo<|Wj rfl rfl (bM<|by omega)<|Wv rfl<|Wn ?_
  exact⟨d.fi.length-(q+1),by omega,rfl,q+1,t2,rfl,hlt,aH.bK (m:=[_])<|aH.fb (x:=[_]) hs7,by rw[mN,List.append_nil];exact hJ2,bq rfl⟩
 | some c=>
  rw[vo]at hv mN
  subst hv
  refine Wv rfl<|Wr (.extract rfl rfl)<|Wr (.extract rfl rfl)<|Wa (.alloc rfl) λb7=>Ww<|Wt (s':=(b7,.r false [c.row] 3)::s7) rfl rfl rfl .here rfl rfl<|Wv rfl<|Wn ?_
  have hs8:aH bl EL d (((b7,.r false [c.row] 3)::(b5,.r false [o.row] 14)::m)++t2) ((b7,.r false [c.row] 3)::s7):=hs7.cons
  refine Wq<|Wv rfl<|Wv rfl<|Wy<|Wv rfl<|Wy<|Wl (cs:=o.row) rfl (hs8.mem<|.there .here) rfl rfl rfl<|Wy<|Wl (cs:=c.row) rfl .here rfl rfl rfl<|Wy<|Wr (.build (cs:=(⟨o,c⟩:BT).row) rfl rfl)<|Wy<|Ww<|WS.call (vs:=[.agg (⟨o,c⟩:BT).row]) rfl rfl (hY.call _ _ _ _ ((b7,.r false [c.row] 3)::(b5,.r false [o.row] 14)::m) (by omega) hJ2 hs8) ?_
  rintro w9 s9 ⟨rfl,t9,hs9,hJ9⟩
  refine Wy<|Wr (.un (v:=.bool false) rfl rfl)<|Wr (.cV rfl rfl)<|Wn<|Wd rfl fS<|λ_=>Wi ?_
  refine Wo<|Wj rfl rfl (bM<|by omega)<|Wv rfl<|Wn ?_
  exact⟨d.fi.length-(q+1),by omega,rfl,q+1,t9,rfl,hlt,aH.fb (x:=[_,_]) hs9,by rw[mN];exact hJ9,bq rfl⟩
theorem Az (hX:BaseY P K F T){v:AV}(hv:partCells 1 v=some [v]):bB P K (F 79) [v] s (λw s'=>∃b,w=.func (F 124) [] [.ptr (some ⟨b,0,0⟩)]/\s'=(b,.r false [[v]] 1)::s):=by
 refine hX.f79.dT ?_
 unfold a79
 refine Wq<|Wa (.box rfl hv) λb1=>Wv rfl<|Wn ?_
 exact Wq<|Wr (.mkfn rfl rfl)<|Wv rfl<|Wn<|We<|Wm (.tmp rfl .nil) ⟨b1,rfl,rfl⟩
theorem abz (hX:BaseY P K F T){x:BT}:bB P K (F 80) [.agg x.row,iv 1] s (λw s'=>w=.bool (!qa 1 x.c.k)/\∃m,s'=m++s):=by
 refine hX.f80.dT ?_
 unfold a80
 obtain⟨n,hn1,hn2⟩:=abN x.c.k 1
 have hn0:eqBy 20 .pi (iv n) (iv 0)=some (qa 1 x.c.k):=by rw[bb,<- hn2]
 refine Wq<|Wa (.box (cs:=x.row) rfl rfl) λb2=>Wv rfl<|Wn ?_
 refine Wq<|Wf rfl<|Wf rfl<|Wl rfl .here rfl rfl rfl<|Wv rfl<|Wj rfl rfl hn1<|Wh rfl rfl hn0<|Wv rfl<|Wn<|We<|Wm (.tmp rfl .nil) ?_
 exact⟨rfl,[_],rfl⟩
@[reducible] def aai:List AV:=zL0
def aeU:AC:=(.ops [zo 7 (.alloc 17 aai),zn (.store 17 7 29)])
def aeV (F:Nat->FuncId):AC:=(.block 3 (oN [zf 30 0 7,zf 31 10 30,zl 32 31,zl 33 3,zo 34 (.arith .add 33 (zc 1)),zo 35 (.eql false .pi 32 34),zm 36 35,zg 37 (.load true 17 6) 36 true,zg 38 (.call (.func (F 80)) [37,(zc 1)]) 36 true,zg 39 (.mv 38) 36 true,zg 40 (.load true 17 7) 39 false,zg 41 (.call (.func (F 80)) [40,(zc 1)]) 39 false,zg 42 (.un .not 41) 39 false,zg 43 (.pick 39 (.const (.bool true)) 42) 36 true,zo 44 (.pick 36 43 (.const (.bool false)))] (.cond 44 (.ops [zl 45 5,zf 46 0 6,zf 47 0 46,zl 48 47,zf 49 0 7,zf 50 0 49,zl 51 50,zo 52 (.build [(za 0),(za 0),(za 0)] [⟨0,⟨1,(zc 10)⟩⟩,⟨1,⟨1,48⟩⟩,⟨2,⟨1,51⟩⟩]),zo 53 (.bslice 3 1 [(za 0),(za 0),(za 0)] [⟨0,52⟩]),zo 54 (.append 3 24 45 53),zn (.store 1 5 54)]) .skip)))
def agb:AC:=(.ops [zo 6 (.alloc 17 aai),zn (.store 17 6 10)])
def agc (F:Nat->FuncId):AC:=(.block 1 (.seq (oN [zf 11 0 6,zf 12 3 11,zl 13 12,zl 14 3,zo 15 (.eql true .pi 13 14),zm 16 15,zg 17 (.faddr 0 6) 16 false,zg 18 (.faddr 5 17) 16 false,zg 19 (.load false 1 18) 16 false,zo 20 (.pick 16 (.const (.bool true)) 19),zm 21 20,zg 22 (.faddr 0 6) 21 false,zg 23 (.faddr 11 22) 21 false,zg 24 (.load false 1 23) 21 false,zg 25 (.eql true .pi 24 (zc 0)) 21 false,zo 26 (.pick 21 (.const (.bool true)) 25)] (.cond 26 (.exit 1) .skip)) (oN [zl 27 2,oF F 28 79 [27]] (.block 2 (.rf 28 [29] aeU (aeV F))))))
def abs (p:Nat)(x y:BT):Bool:=decide (y.o.NP=.ofNat (p+1))&&(!qa 1 x.c.k||qa 1 y.c.k)
def D1 (p:Nat)(x:BT)(l:List BT):List OT:=(l.filter (abs p x)).map λy=>⟨10,x.o.id,y.o.id⟩
def aaf (p:Nat)(x:BT):Bool:=decide (x.o.aQ=.ofNat p)&&(!x.o.RU&&decide (x.o.block=0))
def gK (p:Nat)(L l:List BT):List OT:=l.flatMap λx=>if aaf p x then D1 p x L else []
def aal (b5:Nat)(W:SH)(out:List OT)(t:SH):Prop:=∃lv og j,t.Perm ((b5,.r false [[lv]] 1)::(og++(j++W)))/\GrE 3 lv (otR out) og
theorem aal.sub {b5:Nat}{W:SH}{out:List OT}{t:SH}(h:aal b5 W out t):∀q∈W,q∈t:=by
 obtain⟨lv,og,j,hp,_⟩:=h
 exactλq hq=>hp.mem_iff.2<|by simp[hq]
theorem acL (hX:BaseY P K F T){lb2 lb D b3 b5 b6 p:Nat}{l1 l2:Sl}{asg body Pu sq:Code}{W:SH}{x:BT}{O:List OT}(hO:O.length<=500000)(ha:cc P 56 Pu=aeU)(hb:cc P 56 sq=aeV F)(hp:p<=1000)
  (e3:lk l2 3=some (.ptr<|some ⟨b3,0,0⟩)) (e5:lk l2 5=some (.ptr<|some ⟨b5,0,0⟩)) (e6:lk l2 6=some (.ptr<|some ⟨b6,0,0⟩)) (hb3:Has b3 (.r false [[iv (.ofNat p)]] 1) W) :
  ac8 P K bl EL d (.yield lb2) (λL t=>aal b5 ((lb2,.lp l2 56 [29] Pu sq .ready none D)::(lb,.lp l1 56 [10] asg body .busy none D)::(b6,.r false [x.row] 17)::W) (O++D1 p x L) t):=by
 refine⟨λL t s y m hL hJ hs=>?_⟩
 obtain⟨lv,og,j,hpm,hG⟩:=hJ
 obtain⟨u,hu,ot⟩:=hs.split
 refine c6.perm (s:=(lb2,.lp l2 56 [29] Pu sq .ready none D)::(u++(m++((b5,.r false [[lv]] 1)::(og++(j++((lb,.lp l1 56 [10] asg body .busy none D)::(b6,.r false [x.row] 17)::W))))))) (ak λc w h0 h1 h2 hq=>by have:=hq _ _ hu;simp only[h1,h2,hq _ _ hpm]at this |-;omega)<|c6.canon ?_
 refine AU (by omega) ha hb ?_
 unfold aeU aeV
 refine Wo<|Wa (.alloc rfl) λb7=>Ww<|Wt (s':=(b7,.r false [y.row] 17)::_) rfl rfl rfl .here rfl rfl<|Wn ⟨(b7,.r false [y.row] 17)::(u++(m++((b5,.r false [[lv]] 1)::(og++(j++((lb,.lp l1 56 [10] asg body .busy none D)::(b6,.r false [x.row] 17)::W)))))),List.Perm.swap ..,?_⟩
 have oZ:(D1 p x L).length<=9000:=by
  unfold D1
  rw[List.length_map]
  exact Nat.le_trans (List.length_filter_le ..)<|by omega
 have hat:eqBy 20 .pi (iv y.o.NP) (iv<|.ofNat<|p+1)=some (decide<|y.o.NP=.ofNat (p+1)):=bb _ _
 have aaM:D1 p x (L++[y])=D1 p x L++if abs p x y then [⟨10,x.o.id,y.o.id⟩]else []:=by
  unfold D1
  rw[List.filter_append,List.map_append]
  congr 1
  rw[List.filter_cons]
  cases abs p x y<;>rfl
 -- it is no option
 have no:∀(mm:SH),abs p x y=false->∃t3,(mm++((lb2,.lp l2 56 [29] Pu sq .busy none D)::(b7,.r false [y.row] 17)::(u++(m++((b5,.r false [[lv]] 1)::(og++(j++((lb,.lp l1 56 [10] asg body .busy none D)::(b6,.r false [x.row] 17)::W)))))))).Perm ((lb2,.lp l2 56 [29] Pu sq .busy none D)::t3)/\∃s'',((lb2,.lp l2 56 [29] Pu sq .ready none D)::t3).Perm s''/\((AV.bool true)=.bool true/\∃t',aH bl EL d (m++t') s''/\aal b5 ((lb2,.lp l2 56 [29] Pu sq .ready none D)::(lb,.lp l1 56 [10] asg body .busy none D)::(b6,.r false [x.row] 17)::W) (O++D1 p x (L++[y])) t'):=by
  intro mm hno
  rw[aaM,hno]
  refine⟨mm++((b7,.r false [y.row] 17)::(u++(m++((b5,.r false [[lv]] 1)::(og++(j++((lb,.lp l1 56 [10] asg body .busy none D)::(b6,.r false [x.row] 17)::W))))))),zt,u++(m++((b5,.r false [[lv]] 1)::(og++((mm++((b7,.r false [y.row] 17)::j))++((lb2,.lp l2 56 [29] Pu sq .ready none D)::(lb,.lp l1 56 [10] asg body .busy none D)::(b6,.r false [x.row] 17)::W))))),zt,rfl,_,ot _,lv,og,mm++((b7,.r false [y.row] 17)::j),.refl _,?_⟩
  rw[show O++(D1 p x L++if false=true then [⟨10,x.o.id,y.o.id⟩]else [])=O++D1 p x L by simp]
  exact hG
 -- it is one
 have yes:∀{Qe:Nat->Po}{Qr:Po}(mm:SH)(l9:Sl)(ds9:List aD),abs p x y=true->(∀i v,lk [(5,.ptr<|some ⟨b5,0,0⟩),(6,.ptr<|some ⟨b6,0,0⟩),(7,.ptr<|some ⟨b7,0,0⟩)] i=some v->lk l9 i=some v) ->
   WP P K (some lb2) 56 (.ops [zl 45 5,zf 46 0 6,zf 47 0 46,zl 48 47,zf 49 0 7,zf 50 0 49,zl 51 50,zo 52<|.build [(za 0),(za 0),(za 0)] [⟨0,⟨1,(zc 10)⟩⟩,⟨1,⟨1,48⟩⟩,⟨2,⟨1,51⟩⟩],zo 53<|.bslice 3 1 [(za 0),(za 0),(za 0)] [⟨0,52⟩],zo 54<|.append 3 24 45 53,zn<|.store 1 5 54]) l9 ds9 (mm++((lb2,.lp l2 56 [29] Pu sq .busy none D)::(b7,.r false [y.row] 17)::(u++(m++((b5,.r false [[lv]] 1)::(og++(j++((lb,.lp l1 56 [10] asg body .busy none D)::(b6,.r false [x.row] 17)::W))))))))
    (λ_ _ s3=>∃t3,s3.Perm ((lb2,.lp l2 56 [29] Pu sq .busy none D)::t3)/\∃s'',((lb2,.lp l2 56 [29] Pu sq .ready none D)::t3).Perm s''/\((AV.bool true)=.bool true/\∃t',aH bl EL d (m++t') s''/\aal b5 ((lb2,.lp l2 56 [29] Pu sq .ready none D)::(lb,.lp l1 56 [10] asg body .busy none D)::(b6,.r false [x.row] 17)::W) (O++D1 p x (L++[y])) t')) Qe Qr:=by
  intro Qe Qr mm l9 ds9 hyes hl9
  rw[aaM,hyes]
  refine Wg hl9 (λ_ _ h=>h) ?_
  refine Wo<|Wl (v:=lv) rfl (.app<|.there<|.there<|.app<|.app .here) rfl rfl rfl<|Wf rfl<|Wf rfl<|Wl rfl (.app<|.there<|.there<|.app<|.app<|.there<|.app<|.app<|.there .here) rfl rfl rfl<|Wf rfl<|Wf rfl<|Wl rfl (.app<|.there .here) rfl rfl rfl<|Wr (.build (cs:=(⟨10,x.o.id,y.o.id⟩:OT).row) rfl rfl)<|Wa (.bslice (L:=[(⟨10,x.o.id,y.o.id⟩:OT).row]) rfl rfl) λR6=>?_
  refine Ww<|WS.pre (s':=((R6,.r false [(⟨10,x.o.id,y.o.id⟩:OT).row] 3)::(mm++((lb2,.lp l2 56 [29] Pu sq .busy none D)::(b7,.r false [y.row] 17)::(b5,.r false [[lv]] 1)::(u++m))))++(og++(j++((lb,.lp l1 56 [10] asg body .busy none D)::(b6,.r false [x.row] 17)::W)))) (zt)<|WS.N9 (xv:=.slice (some ⟨R6,0,0⟩) 1 1 false 3) rfl hG rfl (Src.all (L:=[(⟨10,x.o.id,y.o.id⟩:OT).row]) .here) (by decide) (by simp only[otR,List.length_map,List.length_append,List.length_cons,List.length_nil];omega) (by decide) λnw A9 jk xB=>?_
  refine Ww<|Wt (s':=A9++(((R6,.r false [(⟨10,x.o.id,y.o.id⟩:OT).row] 3)::(mm++((lb2,.lp l2 56 [29] Pu sq .busy none D)::(b7,.r false [y.row] 17)::(b5,.r false [[nw]] 1)::(u++m))))++(jk++(j++((lb,.lp l1 56 [10] asg body .busy none D)::(b6,.r false [x.row] 17)::W))))) (row':=[nw]) rfl rfl xB.out.src.part (.app<|.left<|.there<|.app<|.there<|.there .here) rfl rfl<|Wn ?_
  refine⟨A9++(((R6,.r false [(⟨10,x.o.id,y.o.id⟩:OT).row] 3)::(mm++((b7,.r false [y.row] 17)::(b5,.r false [[nw]] 1)::(u++m))))++(jk++(j++((lb,.lp l1 56 [10] asg body .busy none D)::(b6,.r false [x.row] 17)::W)))),zt,u++(m++((b5,.r false [[nw]] 1)::(A9++(((R6,.r false [(⟨10,x.o.id,y.o.id⟩:OT).row] 3)::(mm++((b7,.r false [y.row] 17)::(jk++j))))++((lb2,.lp l2 56 [29] Pu sq .ready none D)::(lb,.lp l1 56 [10] asg body .busy none D)::(b6,.r false [x.row] 17)::W))))),zt,rfl,_,ot _,nw,A9,(R6,.r false [(⟨10,x.o.id,y.o.id⟩:OT).row] 3)::(mm++((b7,.r false [y.row] 17)::(jk++j))),.refl _,?_⟩
  rw[show O++(D1 p x L++if true=true then [⟨10,x.o.id,y.o.id⟩]else [])=(O++D1 p x L)++[⟨10,x.o.id,y.o.id⟩] by simp]
  simpa[otR]using xB
 have hbb:abs p x y=(decide (y.o.NP=.ofNat (p+1))&&(!qa 1 x.c.k||qa 1 y.c.k)):=rfl
 refine Wg (l':=[(3,.ptr<|some ⟨b3,0,0⟩),(5,.ptr<|some ⟨b5,0,0⟩),(6,.ptr<|some ⟨b6,0,0⟩),(7,.ptr<|some ⟨b7,0,0⟩)]) (aa e3<|aa e5<|aa e6<|bq rfl) (λ_ _ h=>h) ?_
 refine Wb<|Wq<|Wf rfl<|Wf rfl<|Wl rfl (.there .here) rfl rfl rfl<|Wl rfl (.there<|.there<|.app<|.app<|.there<|.app<|.app<|.there<|.there hb3) rfl rfl rfl<|Wj rfl rfl (bM<|by omega)<|Wh rfl rfl hat<|Wv rfl ?_
 cases afa:decide (y.o.NP=.ofNat (p+1)) with
 | false=>
  rw[afa]at hbb hat
  refine Wk<|Wk<|Wk<|Wu rfl<|Wu rfl<|Wu rfl<|Wk<|Wr (.bj rfl rfl)<|Wn<|Wd rfl fS<|λ_=>Wi<|no [] hbb
 | true=>
  rw[afa,Bool.true_and]at hbb
  rw[afa]at hat
  refine Wy<|Wl (cs:=x.row) rfl (.there<|.there<|.app<|.app<|.there<|.app<|.app<|.there .here) rfl rfl rfl<|Wy<|Ww<|W1 (abz hX) ?_
  rintro _ _ ⟨rfl,m1,rfl⟩
  cases hfx:qa 1 x.c.k with
  | false=>
   rw[hfx]at hbb
   refine Wy<|Wv rfl<|Wk<|Wk<|Wk<|Wy<|Wr (.cV rfl rfl)<|Wr (.cV rfl rfl)<|Wn<|Wd rfl (λ_=>?_) Dz
   refine yes m1 _ _ hbb ?_
   exact bq rfl
  | true=>
   rw[hfx]at hbb
   refine Wy<|Wv rfl<|Wy<|Wl (cs:=y.row) rfl (.app<|.there .here) rfl rfl rfl<|Wy<|Ww<|W1 (abz hX) ?_
   rintro _ _ ⟨rfl,m2,rfl⟩
   cases hfy:qa 1 y.c.k with
   | false=>
    rw[hfy]at hbb
    refine Wy<|Wr (.un rfl rfl)<|Wy<|Wr (.bj rfl rfl)<|Wr (.cV rfl rfl)<|Wn<|Wd rfl fS<|λ_=>Wi ?_
    have:=no (m2++m1) hbb
    rw[List.append_assoc]at this
    exact this
   | true=>
    rw[hfy]at hbb
    refine Wy<|Wr (.un rfl rfl)<|Wy<|Wr (.bj rfl rfl)<|Wr (.cV rfl rfl)<|Wn<|Wd rfl (λ_=>?_) Dz
    rw[<- List.append_assoc]
    refine yes (m2++m1) _ _ hbb ?_
    exact bq rfl
theorem adp (p:Nat)(x:BT)(l:List BT):(D1 p x l).length<=l.length:=by
 unfold D1
 rw[List.length_map]
 exact List.length_filter_le ..
theorem aaA (p n:Nat){L:List BT}(hL:L.length<=n):∀l:List BT,(gK p L l).length<=l.length*n:=by
 intro l
 induction l with
 | nil=>exact Nat.zero_le _
 | cons x l ih=>
  show(List.flatMap _<|x::l).length<=_
  rw[List.flatMap_cons,List.length_append,List.length_cons,Nat.add_mul,Nat.one_mul,Nat.add_comm]
  refine Nat.add_le_add ih ?_
  split
  ·exact Nat.le_trans (adp p x L) hL
  ·exact Nat.zero_le _
theorem abd (p:Nat)(LL L:List BT)(x:BT):gK p LL (L++[x])=gK p LL L++if aaf p x then D1 p x LL else []:=by
 unfold gK
 rw[List.flatMap_append]
 congr 1
 show(if aaf p x then D1 p x LL else [])++[]=_
 rw[List.append_nil]
theorem acT (hE:GE P K F T tF g C d)(hX:BaseY P K F T){lb D b2 b3 b5 p:Nat}{l1:Sl}{asg body:Code}{W:SH}(ha:cc P 56 asg=agb)(hb:cc P 56 body=agc F)(hp:p<=1000)(hn4:d.fi.length<=400)(hall:∀id∈d.fi,∃o,d.obj id=some o)
  (e2:lk l1 2=some (.ptr<|some ⟨b2,0,0⟩)) (e3:lk l1 3=some (.ptr<|some ⟨b3,0,0⟩)) (e5:lk l1 5=some (.ptr<|some ⟨b5,0,0⟩)) (zB:Has b2 (.r false [[gm tF bf]] 1) W) (hb3:Has b3 (.r false [[iv (.ofNat p)]] 1) W) (hf:Has bf (.r false [bu bl aZ c0 c1 c2 c3 c4 bE] 8) W) (eQ:cI W aZ C) :
  ac8 P K bl EL d (.yield lb) (λL t=>aal b5 ((lb,.lp l1 56 [10] asg body .ready none D)::W) (gK p (eb g d C d.fi) L) t):=by
 refine⟨λL t s x m hL hJ hs=>?_⟩
 have hLL:(eb g d C d.fi).length<=400:=Nat.le_trans (List.length_filterMap_le ..) hn4
 obtain⟨lv,og,j,hpm,hG⟩:=hJ
 obtain⟨u,hu,ot⟩:=hs.split
 refine c6.perm (s:=(lb,.lp l1 56 [10] asg body .ready none D)::(u++(m++((b5,.r false [[lv]] 1)::(og++(j++W)))))) (ak λc w h0 h1 h2 hq=>by have:=hq _ _ hu;simp only[h1,h2,hq _ _ hpm]at this |-;omega)<|c6.canon ?_
 refine AU (by omega) ha hb ?_
 unfold agb agc
 refine Wo<|Wa (.alloc rfl) λb6=>Ww<|Wt (s':=(b6,.r false [x.row] 17)::_) rfl rfl rfl .here rfl rfl<|Wn ⟨(b6,.r false [x.row] 17)::(u++(m++((b5,.r false [[lv]] 1)::(og++(j++W))))),List.Perm.swap ..,?_⟩
 have aaM:=abd p (eb g d C d.fi) L x
 have hOl:(gK p (eb g d C d.fi) L).length<=500000:=by
  have h1:=aaA p 400 hLL L
  have h2:L.length*400<=400*400:=Nat.mul_le_mul_right 400 hL
  omega
 generalize ahs:eb g d C d.fi=LL at aaM hLL hOl hG |-
 have no:aaf p x=false->∃t3,((lb,.lp l1 56 [10] asg body .busy none D)::(b6,.r false [x.row] 17)::(u++(m++((b5,.r false [[lv]] 1)::(og++(j++W)))))).Perm ((lb,.lp l1 56 [10] asg body .busy none D)::t3)/\∃s'',((lb,.lp l1 56 [10] asg body .ready none D)::t3).Perm s''/\((AV.bool true)=.bool true/\∃t',aH bl EL d (m++t') s''/\aal b5 ((lb,.lp l1 56 [10] asg body .ready none D)::W) (gK p LL<|L++[x]) t'):=by
  intro hno
  rw[aaM,hno]
  refine⟨(b6,.r false [x.row] 17)::(u++(m++((b5,.r false [[lv]] 1)::(og++(j++W))))),.refl _,u++(m++((b5,.r false [[lv]] 1)::(og++(((b6,.r false [x.row] 17)::j)++((lb,.lp l1 56 [10] asg body .ready none D)::W))))),zt,rfl,_,ot _,lv,og,(b6,.r false [x.row] 17)::j,.refl _,?_⟩
  rw[show(if false=true then D1 p x LL else [])=[]from rfl,List.append_nil]
  exact hG
 have hmb:aaf p x=(decide (x.o.aQ=.ofNat p)&&(!x.o.RU&&decide (x.o.block=0))):=rfl
 have hct:eqBy 20 .pi (iv x.o.aQ) (iv<|.ofNat p)=some (decide<|x.o.aQ=.ofNat p):=bb _ _
 have Cs:eqBy 20 .pi (iv x.o.block) (iv 0)=some (decide<|x.o.block=0):=bb _ _
 refine Wg (l':=[(2,.ptr<|some ⟨b2,0,0⟩),(3,.ptr<|some ⟨b3,0,0⟩),(5,.ptr<|some ⟨b5,0,0⟩),(6,.ptr<|some ⟨b6,0,0⟩)]) (aa e2<|aa e3<|aa e5<|bq rfl) (λ_ _ h=>h) ?_
 refine Wb<|Ws<|Wq<|Wf rfl<|Wf rfl<|Wl rfl (.there .here) rfl rfl rfl<|Wl rfl (.there<|.there<|.app<|.app<|.there<|.app<|.app hb3) rfl rfl rfl<|Wh rfl rfl hct<|Wv rfl ?_
 cases afd:decide (x.o.aQ=.ofNat p) with
 | false=>
  rw[afd]at hmb hct
  refine Wk<|Wk<|Wk<|Wr (.cV rfl rfl)<|Wv rfl<|Wk<|Wk<|Wk<|Wk<|Wr (.cV rfl rfl)<|Wn<|Wd rfl (λ_=>Wx<|no hmb) Dz
 | true=>
  rw[afd,Bool.true_and]at hmb
  rw[afd]at hct
  cases htp:x.o.RU with
  | true=>
   rw[htp]at hmb
   have Se:bV 1 (cu 5 x.row)=some [.bool true]:=by show some [AV.bool x.o.RU]=_;rw[htp]
   refine Wy<|Wf rfl<|Wy<|Wf rfl<|Wy<|Wl rfl (.there .here) rfl Se rfl<|Wr (.bj rfl rfl)<|Wv rfl<|Wk<|Wk<|Wk<|Wk<|Wr (.cV rfl rfl)<|Wn<|Wd rfl (λ_=>Wx<|no hmb) Dz
  | false=>
   rw[htp]at hmb
   have hmb:aaf p x=decide (x.o.block=0):=hmb
   have Se:bV 1 (cu 5 x.row)=some [.bool false]:=by show some [AV.bool x.o.RU]=_;rw[htp]
   refine Wy<|Wf rfl<|Wy<|Wf rfl<|Wy<|Wl rfl (.there .here) rfl Se rfl<|Wr (.bj rfl rfl)<|Wv rfl<|Wy<|Wf rfl<|Wy<|Wf rfl<|Wy<|Wl rfl (.there .here) rfl rfl rfl<|Wy<|Wh rfl rfl Cs<|Wr (.bj rfl rfl)<|Wn ?_
   cases hbb:decide (x.o.block=0) with
   | false=>
    rw[hbb]at hmb
    exact Wd rfl (λ_=>Wx<|no hmb) Dz
   | true=>
    rw[hbb]at hmb
    refine Wd rfl fS<|λ_=>Wi ?_
    refine Wq<|Wl rfl (.there<|.there<|.app<|.app<|.there<|.app<|.app zB) rfl rfl rfl<|Ww<|W1 (Az hX rfl) ?_
    rintro _ _ ⟨b9,rfl,rfl⟩
    refine Wn<|Wb<|Wg (l':=[(2,.ptr<|some ⟨b2,0,0⟩),(3,.ptr<|some ⟨b3,0,0⟩),(5,.ptr<|some ⟨b5,0,0⟩),(6,.ptr<|some ⟨b6,0,0⟩),(28,.func (F 124) [] [.ptr (some ⟨b9,0,0⟩)])]) (bq rfl) (λ_ _ h=>h) ?_
    generalize aen:[(2,AV.ptr<|some ⟨b2,0,0⟩),(3,AV.ptr<|some ⟨b3,0,0⟩),(5,AV.ptr<|some ⟨b5,0,0⟩),(6,AV.ptr<|some ⟨b6,0,0⟩),(28,AV.func (F 124) [] [.ptr (some ⟨b9,0,0⟩)])]=l2c
    refine WP.rf2 (first:=[]) (cap:=[.ptr (some ⟨b9,0,0⟩)]) (by rw[<- aen];rfl) (.there .here) λPu sq ha2 ahv lb2=>?_
    have hY:=acL (bl:=bl) (EL:=EL) (d:=d) (P:=P) (K:=K) hX (lb2:=lb2) (lb:=lb) (D:=D) (b3:=b3) (b5:=b5) (b6:=b6) (p:=p) (l1:=l1) (l2:=l2c) (asg:=asg) (body:=body) (W:=(b9,.r false [[gm tF bf]] 1)::(m++W)) (x:=x) hOl ha2 ahv hp (by rw[<- aen];rfl) (by rw[<- aen];rfl) (by rw[<- aen];rfl)<|.there<|.app hb3
    have hI:=t6 (bl:=bl) (EL:=EL) (t:=(b9,.r false [[gm tF bf]] 1)::(m++W)) hE hX (.there<|.app hf) (eQ.mono λq hq=>by simp[hq]) .here hn4 hall
    rw[ahs]at hI
    have hs0:aH bl EL d ((b5,.r false [[lv]] 1)::(og++(j++((lb2,.lp l2c 56 [29] Pu sq .ready none D)::(lb,.lp l1 56 [10] asg body .busy none D)::(b6,.r false [x.row] 17)::(b9,.r false [[gm tF bf]] 1)::(m++W))))) ((lb2,.lp l2c 56 [29] Pu sq .ready none D)::(b9,.r false [[gm tF bf]] 1)::(lb,.lp l1 56 [10] asg body .busy none D)::(b6,.r false [x.row] 17)::(u++(m++((b5,.r false [[lv]] 1)::(og++(j++W)))))):=(ot _).perm (zt)
    refine bB.canon<|(hI (.yield lb2) _ _ _ hY (λL t2 h q hq=>h.sub q<|.tail _<|.tail _<|.tail _ hq) ⟨lv,og,j,.refl _,by simpa[D1]using hG⟩ hs0).post ?_
    rintro _ s9 ⟨t9,hs9,nw,A9,j2,Gu,xB⟩
    obtain⟨u2,hu2,RO⟩:=(hs9.tT Gu).split
    refine⟨(lb2,.lp l2c 56 [29] Pu sq .ready none D)::(u2++((b5,.r false [[nw]] 1)::(A9++(j2++((lb,.lp l1 56 [10] asg body .busy none D)::(b6,.r false [x.row] 17)::(b9,.r false [[gm tF bf]] 1)::(m++W)))))),ak (λc w h0 h1 h2 hq=>by have:=hq _ _ hu2;simp only[h1,h2]at this |-;omega),l2c,.ready,none,_,rfl,(λh=>LoopState.noConfusion h),?_⟩
    dsimp only
    rw[aaM,hmb]
    refine⟨(lb2,.gone)::(u2++((b5,.r false [[nw]] 1)::(A9++(j2++((b6,.r false [x.row] 17)::(b9,.r false [[gm tF bf]] 1)::(m++W)))))),zt,u2++(m++((b5,.r false [[nw]] 1)::(A9++(((lb2,.gone)::(b6,.r false [x.row] 17)::(b9,.r false [[gm tF bf]] 1)::j2)++((lb,.lp l1 56 [10] asg body .ready none D)::W))))),zt,rfl,_,RO _,nw,A9,(lb2,.gone)::(b6,.r false [x.row] 17)::(b9,.r false [[gm tF bf]] 1)::j2,.refl _,xB⟩
theorem aaz (hE:GE P K F T tF g C d)(hX:BaseY P K F T)(hf:Has bf (.r false [bu bl aZ c0 c1 c2 c3 c4 bE] 8) t)(eQ:cI t aZ C)(hs:aH bl EL d t s){p:Nat}(hp:p<=1000)(hn4:d.fi.length<=400)(hall:∀id∈d.fi,∃o,d.obj id=some o) :
  bB P K (F 32) [gm tF bf,iv<|.ofNat p] s (λv s'=>∃m,aH bl EL d (m++t) s'/\Src m 3 v (otR<|gK p (eb g d C d.fi)<|eb g d C d.fi)):=by
 refine hX.f32.ZH ?_
 unfold a32
 refine Wq<|Wa (.box rfl rfl) λb2=>Wa (.box rfl rfl) λb3=>Wv rfl<|Wn ?_
 refine Wq<|Wa (.alloc rfl) λb5=>Wn ?_
 refine Ws<|Wq<|Wl rfl (.there<|.there .here) rfl rfl rfl<|Ww<|W1 (Az hX rfl) ?_
 rintro _ _ ⟨b8,rfl,rfl⟩
 refine Wn<|Wb<|Wg (l':=[(2,.ptr<|some ⟨b2,0,0⟩),(3,.ptr<|some ⟨b3,0,0⟩),(5,.ptr<|some ⟨b5,0,0⟩),(9,.func (F 124) [] [.ptr (some ⟨b8,0,0⟩)])]) (bq rfl) (λ_ _ h=>h) ?_
 generalize hl1:[(2,AV.ptr<|some ⟨b2,0,0⟩),(3,AV.ptr<|some ⟨b3,0,0⟩),(5,AV.ptr<|some ⟨b5,0,0⟩),(9,AV.func (F 124) [] [.ptr (some ⟨b8,0,0⟩)])]=l1
 refine WP.rf (first:=[]) (cap:=[.ptr (some ⟨b8,0,0⟩)]) (by rw[<- hl1];rfl) λasg body ha hb D lb=>?_
 have hY:=acT (bl:=bl) (EL:=EL) (lb:=lb) (D:=D) (b2:=b2) (b3:=b3) (b5:=b5) (p:=p) (l1:=l1) (asg:=asg) (body:=body) (W:=(D,.ob .deferred)::(b8,.r false [[gm tF bf]] 1)::(b3,.r false [[iv (.ofNat p)]] 1)::(b2,.r false [[gm tF bf]] 1)::t) hE hX ha hb hp hn4 hall (by rw[<- hl1];rfl) (by rw[<- hl1];rfl) (by rw[<- hl1];rfl) (.there<|.there<|.there .here) (.there<|.there .here) (.there<|.there<|.there<|.there hf)<|eQ.mono λq hq=>by simp[hq]
 have hI:=t6 (bl:=bl) (EL:=EL) (t:=(D,.ob .deferred)::(b8,.r false [[gm tF bf]] 1)::(b3,.r false [[iv (.ofNat p)]] 1)::(b2,.r false [[gm tF bf]] 1)::t) hE hX (.there<|.there<|.there<|.there hf) (eQ.mono λq hq=>by simp[hq]) (.there .here) hn4 hall
 generalize eb g d C d.fi=LL at hY hI |-
 obtain⟨u,hu,ot⟩:=hs.split
 have hs0:aH bl EL d ((b5,.r false [[nilS]] 1)::([]++([]++((lb,.lp l1 56 [10] asg body .ready none D)::(D,.ob .deferred)::(b8,.r false [[gm tF bf]] 1)::(b3,.r false [[iv (.ofNat p)]] 1)::(b2,.r false [[gm tF bf]] 1)::t)))) ((lb,.lp l1 56 [10] asg body .ready none D)::(D,.ob .deferred)::(b8,.r false [[gm tF bf]] 1)::(b5,.r false [[nilS]] 1)::(b3,.r false [[iv (.ofNat p)]] 1)::(b2,.r false [[gm tF bf]] 1)::s):=(ot _).perm (ak λc w h0 h1 h2 hq=>by have:=hq _ _ hu;simp only[h1,h2,h0]at this |-;omega)
 refine bB.canon<|(hI (.yield lb) _ _ _ hY (λL t2 h q hq=>h.sub q<|.tail _ hq) ⟨nilS,[],[],.refl _,.nil⟩ hs0).post ?_
 rintro _ s9 ⟨t9,hs9,nw,A9,j2,Gu,xB⟩
 obtain⟨u2,hu2,RO⟩:=(hs9.tT Gu).split
 refine⟨(lb,.lp l1 56 [10] asg body .ready none D)::(u2++((b5,.r false [[nw]] 1)::(A9++(j2++((D,.ob .deferred)::(b8,.r false [[gm tF bf]] 1)::(b3,.r false [[iv (.ofNat p)]] 1)::(b2,.r false [[gm tF bf]] 1)::t))))),ak (λc w h0 h1 h2 hq=>by have:=hq _ _ hu2;simp only[h1,h2]at this |-;omega),l1,.ready,none,_,rfl,(λh=>LoopState.noConfusion h),?_⟩
 subst hl1
 refine Wq<|Wl rfl (.there<|.app .here) rfl rfl rfl<|Wv rfl<|Wn<|We ?_
 refine⟨[D],(lb,.gone)::(u2++((b5,.r false [[nw]] 1)::(A9++(j2++((b8,.r false [[gm tF bf]] 1)::(b3,.r false [[iv (.ofNat p)]] 1)::(b2,.r false [[gm tF bf]] 1)::t))))),rfl,ak (λc w h0 h1 h2 hq=>by simp only[h1,h2,h0,List.map_cons,List.map_nil];omega),[nw],.tmp rfl .nil,A9++((D,.gone)::(lb,.gone)::(b5,.r false [[nw]] 1)::(j2++[(b8,.r false [[gm tF bf]] 1),(b3,.r false [[iv (.ofNat p)]] 1),(b2,.r false [[gm tF bf]] 1)])),(RO _).perm (ak λc w h0 h1 h2 hq=>by simp only[h1,h2,h0,List.map_cons,List.map_nil];omega),xB.gr.out.src.mono λq hq=>by simp[hq]⟩
def aga:CF:=λF T=>(.seq (oN [zm 69 9,zm 70 4,zo 71 (.lenS 70),zo 72 (.arith .lss 69 71)] (.cond 72 .skip (.exit 2))) (.seq (.block 3 (oN [zm 75 6,zm 76 0,zm 77 9,zo 78 (.arith .sub 77 (zc 1)),zo 79 (.iaddrS 4 76 78),zf 80 3 79,zl 81 80,zo 82 (.arith .rem 81 (.const (.int .u8 (.ofNat 2)))),zo 83 (.convI .i64 82),zm 84 9,zo 85 (.build mB [⟨0,⟨1,(zc 1)⟩⟩,⟨1,⟨1,83⟩⟩,⟨2,⟨1,84⟩⟩,⟨3,⟨1,(zc 2)⟩⟩]),oF F 86 15 [75,85],zm 10 86] (oN [zm 87 6,zm 88 10,zo 89 (.build mB [⟨0,⟨1,(zc 4)⟩⟩,⟨1,⟨1,88⟩⟩]),oF F 90 15 [87,89]] (.ops [zm 91 8,zm 92 10,zo 93 (.bslice 1 1 [(za 0)] [⟨0,92⟩]),zo 94 (.append 1 8 91 93),zm 8 94])))) (.ops [zm 73 9,zo 74 (.arith .add 73 (zc 1)),zm 9 74])))
def ac9:CF:=λF T=>(.seq (oN [zo 9 (.mv (zc 1))] (.block 2 (.loop (aga F T)))) (oN [zm 95 6,zm 96 8,zm 2 95,zm 3 96] .ret))
def d7:SD:={ d5 with pl:=[Zz,Zz],lb:=[[],[]],hd:=[[],[]],gr:=[[],[]],ex:=[[],[]] }
def obF (ps:Nat->Nat)(tp:Nat->Bool)(q j:Nat):OD:=⟨.ofNat (j+1),.ofNat (j+1),.ofNat (ps j),.ofNat (ps j),2,decide (j<q)&&(!decide (ps j=0)&&tp j),false,false,0,.ofNat (j+1),if decide (j<q)&&decide (ps j=0)then 2 else 0,0,false⟩
def dW (ps:Nat->Nat)(tp:Nat->Bool)(n q:Nat):SD:={ d7 with nx:=.ofNat (n+1),sp:=.ofNat (n+1),ob:=(List.range n).map (obF ps tp q),fi:=fI n }
theorem aef (ps:Nat->Nat)(tp:Nat->Bool)(n q:Nat):(dW ps tp n q).kQ:=⟨rfl,rfl,rfl,rfl⟩
theorem adu (ps:Nat->Nat)(tp:Nat->Bool){n:Nat}(hn:n<=8)(q:Nat):(dW ps tp n q).Small:=by
 refine⟨⟨by show 2<=1000;omega,by show((List.range n).map _).length<=1000;rw[List.length_map,List.length_range];omega,by show(fI n).length<=1000;simp[fI];omega,Nat.zero_le _,Nat.zero_le _⟩,λLL h=>?_⟩
 have:LL=[[],[]]:=by rcases h with rfl | rfl | rfl | rfl<;>rfl
 subst this
 exact⟨by show 2<=1000;omega,by decide⟩
structure ac7 (P:Program)(K:Orc)(F:Nat->FuncId):Prop where
 cN:∀p c:Nat,p<2->1<=c->c<=8->∀s,bB P K (F 201) [.agg (evRow 1 (.ofNat p) (.ofNat c) 2 0 it0)] s<|λv s'=>v=iv 0/\s'=s
 cS:∀a:Nat,1<=a->a<=8->∀s,bB P K (F 201) [.agg (evRow 4 (.ofNat a) 0 0 0 it0)] s<|λv s'=>v=iv 0/\s'=s
 cT:∀a:Nat,1<=a->a<=8->∀s,bB P K (F 201) [.agg (evRow 3 (.ofNat a) 0 1 0 it0)] s<|λv s'=>v=iv 0/\s'=s
 cA:∀a:Nat,1<=a->a<=8->∀s,bB P K (F 201) [.agg (evRow 12 (.ofNat a) 2 0 0 it0)] s<|λv s'=>v=iv 0/\s'=s
structure afF (t:SH)(lv:AV)(L:List (List AV))(ps ky:Nat->Nat):Prop where
 len:lenOf lv=some L.length
 at':0<L.length->∃rb cap sl,lv=.slice (some ⟨rb,0,0⟩) L.length cap sl 4/\Has rb (.r true L 4) t
 b:∀i,i<L.length->∃x z y w:Nat,x<=255/\z<=255/\y<=255/\w<=255/\L[i]?=some [.int .u8 (.ofNat x),.int .u8<|.ofNat z,.int .u8<|.ofNat y,.int .u8<|.ofNat w]/\y=ky i/\w%2=ps i
def dWn (ps:Nat->Nat)(tp:Nat->Bool)(q:Nat):SD:={ dW ps tp q 0 with nx:=.ofNat (q+2),sp:=.ofNat (q+2),ob:=(List.range q).map (obF ps tp 0)++[{ obF ps tp 0 q with VK:=true }],fi:=fI q++[.ofNat (q+1)] }
theorem aaK (ps:Nat->Nat)(tp:Nat->Bool)(q:Nat):(dW ps tp q 0).add (pY (ps q) (.ofNat (q+1)) 2 0) (ps q)=dWn ps tp q:=by
 rw[aec rfl]
 rfl
theorem aeg (ps:Nat->Nat)(tp:Nat->Bool)(q:Nat):({ dWn ps tp q with ob:=(dWn ps tp q).ob.set q { ({ obF ps tp 0 q with VK:=true }:OD)with VK:=decide ((0:Int)=1) } }:SD)=dW ps tp (q+1) 0:=by
 have h1:(dWn ps tp q).ob.set q { ({ obF ps tp 0 q with VK:=true }:OD)with VK:=decide ((0:Int)=1) }=(List.range<|q+1).map (obF ps tp 0):=by
  show((List.range q).map (obF ps tp 0)++[{ obF ps tp 0 q with VK:=true }]).set q _=_
  rw[List.set_append_right _ _ (by simp),List.range_succ,List.map_append]
  simp[obF]
 have h2:(dWn ps tp q).fi=fI (q+1):=by
  show fI q++[.ofNat (q+1)]=_
  unfold fI
  rw[List.range_succ,List.map_append]
  rfl
 rw[h1]
 unfold dW
 rw[<- h2]
 rfl
theorem ae3 (hB:Base P K F T)(hX:BaseX P K F T)(hc:ac7 P K F){lv cv:AV}{L:List (List AV)}{ps ky:Nat->Nat}{tp:Nat->Bool}{n:Nat}(hL:afF t lv L ps ky)(hn:n<=8)(hnL:n<=L.length)(eQ:lenOf cv=some (n+1))(hs:aH bl [] (dW ps tp 0 0) t s)
  (hf:Has bf (.r false [bu bl aZ 60 c1 c2 c3 c4 bE] 8) t) (hl:∀y w,lk [(0,lv),(4,cv),(6,.ptr<|some ⟨bf,0,0⟩),(8,nilS)] y=some w->lk l y=some w)
  (hk:∀l2 s2 ids og j Gg,Gg.length<=16->aH bl Gg (dW ps tp n 0) (og++(j++t)) s2->Gr 1 ids (nR<|fI n) og->lk l2 2=some (.ptr<|some ⟨bf,0,0⟩)->lk l2 3=some ids->Qr l2 [] s2) :
  WP P K none 97 (ac9 F T) l [] s Qn Qe Qr:=by
 have hin:∀j,j<L.length->ps j<2:=λj hj=>by
  obtain⟨x,z,y,w,_,_,_,_,_,_,h⟩:=hL.b j hj
  rw[<- h]
  exact Nat.mod_lt _<|by omega
 refine Wg hl (λ_ _ h=>h) ?_
 unfold ac9
 refine Ws<|Wq<|Wv rfl<|Wn<|Wb ?_
 unfold aga
 refine Wp (λk l ds s'=>ds=[]/\∃q ids og j Gg,k=n-q/\q<=n/\Gg.length<=2*q/\aH bl Gg (dW ps tp q 0) (og++(j++t)) s'/\Gr 1 ids (nR<|fI q) og/\∀i w,lk [(0,lv),(4,cv),(6,.ptr<|some ⟨bf,0,0⟩),(8,ids),(9,iv<|.ofNat<|q+1)] i=some w->lk l i=some w) ?_ (n:=n-0)
  ⟨rfl,0,nilS,[],[],[],rfl,Nat.zero_le _,Nat.le_refl _,hs,.nil,bq rfl⟩
 rintro k l ds s' ⟨rfl,q,ids,og,j,Gg,rfl,hq,hE,hs',hG,hl⟩
 refine Wg hl (λ_ _ h=>h) ?_
 refine Ws<|Wq<|Wv rfl<|Wv rfl<|Wr (.lenS rfl eQ)<|Wj rfl rfl (eT _ _)<|Wn<|Wd rfl (λht=>Wi ?_)<|λht=>Wx ?_
 rotate_left
 ·have hqn:q=n:=by
   have:¬q+1<n+1:=λh=>of_decide_eq_false ht<|Int.ofNat_lt.2 h
   omega
  subst hqn
  exact Wq<|Wv rfl<|Wv rfl<|Wv rfl<|Wv rfl<|Wn<|We<|hk _ _ ids og j Gg (by omega) hs' hG rfl rfl
 have hlt:q<n:=by
  have:=Int.ofNat_lt.1<|of_decide_eq_true ht
  omega
 obtain⟨x,z,y,w,hx,hz,hy,hw,hrow,hky,hps⟩:=hL.b q<|by omega
 obtain⟨rb,cap,sl,rfl,hrb⟩:=hL.at'<|by omega
 have Gu:=hin q<|by omega
 have h82:binV .rem (.int .u8<|.ofNat w) (.int .u8<|.ofNat 2)=some (.int .u8<|.ofNat<|ps q):=by rw[<- hps];exact yi<|by omega
 have h83:mkI .i64 (.ofNat<|ps q)=some (iv<|.ofNat<|ps q):=tD<|by omega
 have hsm:=adu ps tp (n:=q) (by omega) 0
 have Y0:((dW ps tp q 0).add (pY (ps q) (.ofNat<|q+1) 2 0) (ps q)).Small:=by
  rw[aaK]
  refine⟨⟨by show 2<=1000;omega,by show(List.map _ _++_).length<=1000;rw[List.length_append,List.length_map,List.length_range];show q+1<=1000;omega,by show(fI q++_).length<=1000;rw[List.length_append];simp[fI];omega,Nat.zero_le _,Nat.zero_le _⟩,hsm.n2⟩
 have agB:((dW ps tp q 0).add (pY (ps q) (.ofNat<|q+1) 2 0) (ps q)).kQ:=by rw[aaK];exact⟨rfl,rfl,rfl,rfl⟩
 have hap:Ap P K F 1 (.ofNat<|ps q) (.ofNat<|q+1) 2 0 it0 (dW ps tp q 0) ((dW ps tp q 0).add (pY (ps q) (.ofNat<|q+1) 2 0) (ps q)):=by
  exact adj hB hsm (aef ..) (by show ps q<2;exact Gu) ⟨Int.natCast_nonneg _,by show((q+1:Nat):Int)<=1000000;omega⟩ ⟨Int.natCast_nonneg _,by show((q+1:Nat):Int)<=1000000;omega⟩<|hc.cN _ _ Gu (by omega)<|by omega
 refine Ws<|Wb<|Wq<|Wv rfl<|Wv rfl<|Wv rfl<|Wj rfl rfl (Ka<|by omega)<|Wr (.iaddrS rfl rfl (by omega)<|by omega)<|Wf rfl<|Wl rfl (hs'.mem<|.app<|.app hrb) (r:=0+q) (by rw[Nat.zero_add];exact hrow) rfl rfl<|Wj rfl rfl h82<|Wr (.convI rfl h83)<|Wv rfl<|Wr (.build (cs:=evRow 1 (.ofNat<|ps q) (.ofNat<|q+1) 2 0 it0) rfl rfl)<|Ww<|W1 (u5 hB hs' hsm (.app<|.app hf) (by omega) (by show ilt (.ofNat ((List.range q).map _).length) 60=true;rw[List.length_map,List.length_range,du];exact decide_eq_true<|show((q:Nat):Int)<60 by omega) hap Y0 (by rw[aaK];exact⟨by show(1:Int)<=((q+2:Nat):Int);omega,by show((q+2:Nat):Int)<=1000000;omega⟩)) ?_
 rintro _ s3 ⟨rfl,gw⟩
 have PQ:((dW ps tp q 0).add (pY (ps q) (.ofNat<|q+1) 2 0) (ps q)).nx-1=.ofNat (q+1):=by rw[aaK];show((q+2:Nat):Int)-1=((q+1:Nat):Int);omega
 rw[PQ]
 refine Wv rfl<|Wn ?_
 rw[aaK]at gw Y0 agB
 have hfi:(dWn ps tp q).find (.ofNat<|q+1)=some q:=by
  unfold SD.find
  show((List.range q).map (obF ps tp 0)++[{ obF ps tp 0 q with VK:=true }]).findIdx? _=_
  rw[List.findIdx?_append,List.findIdx?_eq_none_iff.2 (λo ho=>by
   obtain⟨i,hi,rfl⟩:=List.mem_map.1 ho
   have hi:=List.mem_range.1 hi
   have:¬(Int.ofNat (i+1)=Int.ofNat (q+1)):=λe=>by have:=Int.ofNat.inj e;omega
   simpa[obF]using this)]
  rw[List.findIdx?_cons,show decide ((({ obF ps tp 0 q with VK:=true }:OD)).id=Int.ofNat (q+1))=true from decide_eq_true rfl]
  simp
 have xG:(dWn ps tp q).ob[q]?=some { obF ps tp 0 q with VK:=true }:=by
  show((List.range q).map (obF ps tp 0)++[{ obF ps tp 0 q with VK:=true }])[q]?=_
  rw[List.getElem?_append_right (by simp)]
  simp
 have hsk:Ap P K F 4 (.ofNat<|q+1) 0 0 0 it0 (dWn ps tp q) (dW ps tp (q+1) 0):=by
  rw[<- aeg]
  exact L0 (k:=4) hB hX Y0 agB (.inr<|.inl ⟨rfl,rfl⟩) hfi xG rfl (λhu hr=>ab7 hX hu hr)<|hc.cS _ (by omega)<|by omega
 refine Wq<|Wv rfl<|Wv rfl<|Wr (.build (cs:=evRow 4 (.ofNat<|q+1) 0 0 0 it0) rfl rfl)<|Ww<|W1 (x6 hB gw Y0 (.app<|.app hf) (by rw[List.length_append];show Gg.length+1<=1000;omega) (by decide) (by decide) (by decide) (by decide) hsk) ?_
 rintro _ s4 ⟨_,pM⟩
 refine Wn ?_
 obtain⟨u,hu,ot⟩:=pM.split
 refine Wo<|Wv rfl<|Wv rfl<|Wa (.bslice (L:=[[iv (.ofNat<|q+1)]]) (fZ rfl rfl) rfl) λb93=>?_
 refine Ww<|WS.pre (s':=((b93,.r false [[iv (.ofNat<|q+1)]] 1)::u)++(og++(j++t))) (ak λc w h0 h1 h2 hq=>by have:=hq _ _ hu;simp only[h1,h2]at this |-;omega)<|WS.append_gr rfl hG rfl (Src.all (L:=[[iv (.ofNat<|q+1)]]) .here) (by omega) (by rw[gq];simp[fI];omega) (by omega) λv' o' jk xB=>?_
 refine Wv rfl<|Wn ?_
 refine Wo<|Wv rfl<|Wj rfl rfl (bM<|by omega)<|Wv rfl<|Wn ?_
 refine⟨n-(q+1),by omega,rfl,q+1,v',o',(b93,.r false [[iv (.ofNat<|q+1)]] 1)::(jk++j),_,rfl,hlt,?_,(ot<|o'++(((b93,.r false [[iv (.ofNat<|q+1)]] 1)::(jk++j))++t)).perm (zt),?_,bq rfl⟩
 ·rw[List.length_append,List.length_append];show Gg.length+1+1<=2*(q+1);omega
 ·have:nR (fI<|q+1)=nR (fI q)++[[iv (.ofNat<|q+1)]]:=by unfold fI nR;rw[List.range_succ,List.map_append,List.map_append];rfl
  rw[this];exact xB
structure rq (C:List CD)(n:Nat)(kc:Nat->Int):Prop where
 len:C.length=n+1
 no:∀c∈C,c.ab=[]
 at':∀j,j<n->∃c,C[j+1]?=some c/\c.kind=2/\c.keys=kc j
 num:∀j,j<n->∃c,C[j+1]?=some c/\(0<=c.power/\c.power<=6)/\1<=c.qn/\c.qn<=6
theorem aaX {α β:Type}{f:α->Option β}{g:α->β}:∀(l:List α),(∀x∈l,f x=some (g x))->l.filterMap f=l.map g:=by
 intro l
 induction l with
 | nil=>intro _;rfl
 | cons x l ih=>
  intro h
  rw[List.filterMap_cons,h x<|.head _,List.map_cons,ih λy hy=>h y<|.tail _ hy]
structure LawF (P:Program)(K:Orc)(F:Nat->FuncId)(T:Nat->TypeId):Prop where
 hU:LawU P K F T
 hX:BaseX P K F T
 hY:BaseY P K F T
 hw:∀s,bB P K (F 33) [] s<|λv s'=>v=.bool true/\s'=s
inductive Pz where
 | l (a:AV)
 | s
 | r (lo hi:Nat)
 | k (i:Nat)
noncomputable def ptCk (v:V):Pz->Bool
 | .l a=>isA v a
 | .s=>match av v with | some (.str _)=>true | _=>false
 | .r lo hi=>Nat.beq v.t 12&&(Nat.beq v.f 0&&(Nat.ble (9223372036854775808+lo) v.d&&Nat.ble v.e (9223372036854775808+hi)))
 | .k i=>Nat.beq v.t 14&&(Nat.beq v.f 0&&(Nat.beq v.b 127&&Nat.beq v.a i))
def Pz.ok [Sg](a:AV):Pz->Prop
 | .l b=>a=b
 | .s=>∃s,a=.str s
 | .r lo hi=>∃m:Int,a=iv m/\(lo:Int)<=m/\m<=(hi:Int)
 | .k i=>∃y:Nat,Sg.num i=(y:Int)/\y<256/\a=iv (.ofNat<|Nat.land y 127)
noncomputable def adV (R:Ev.R V):Nat->List Pz->Bool
 | _,[]=>true
 | j,p::l=>ptCk (atR j R) p&&adV R (j+1) l
noncomputable def ab4 (rs:Ev.R (Ev.R V))(sz:Nat):Nat->List (List Pz)->Bool
 | _,[]=>true
 | r,l::L=>Nat.beq l.length sz&&(adV (atR r rs) 0 l&&ab4 rs sz (r+1) L)
noncomputable def aeI (h:FH)(b sz:Nat)(L:List (List Pz)):Bool:=Nat.blt b 262144&&(Nat.blt b h.next&&(Nat.beq (ap b h).t 1&&(Nat.beq (ap b h).n L.length&&(Nat.beq (ap b h).sz sz&&ab4 (ap b h).rs sz 0 L))))
inductive aaa {α β:Type}(R:α->β->Prop):List α->List β->Prop
 | nil:aaa R [] []
 | cons {a:α} {b:β} {l:List α} {m:List β}:R a b->aaa R l m->aaa R (a::l) (b::m)
theorem aaa.len {α β:Type}{R:α->β->Prop}{l:List α}{m:List β}(h:aaa R l m):l.length=m.length:=by
 induction h with
 | nil=>rfl
 | cons _ _ ih=>simp[ih]
end
section
variable [Sg]
theorem aey {v:V}{a:AV}{p:Pz}(h:VA v a)(hp:ptCk v p=true):p.ok a:=by
 cases p with
 | l b=>exact vD h hp
 | s=>
  have hp:(match av v with | some (.str _)=>true | _=>false)=true:=hp
  split at hp
  ·rename_i s hs
   exact⟨s,eM h hs⟩
  ·cases hp
 | r lo hi=>
  obtain⟨h1,hp⟩:=Bool.and_eq_true_iff.1 hp
  obtain⟨h2,hp⟩:=Bool.and_eq_true_iff.1 hp
  obtain⟨h3,h4⟩:=Bool.and_eq_true_iff.1 hp
  obtain⟨e1,e2,e3,_⟩:=h.mQ<|Nat.eq_of_beq_eq_true h1
  have h3:=Nat.le_of_ble_eq_true h3
  have h4:=Nat.le_of_ble_eq_true h4
  have hb:(ae:Int)=4611686018427387904:=rfl
  rw[Nat.eq_of_beq_eq_true h2]at e1
  exact⟨ed v,e1,by omega,by omega⟩
 | k i=>
  obtain⟨h1,hp⟩:=Bool.and_eq_true_iff.1 hp
  obtain⟨h2,hp⟩:=Bool.and_eq_true_iff.1 hp
  obtain⟨h3,h4⟩:=Bool.and_eq_true_iff.1 hp
  obtain⟨n,e1,e2,_,_,e3⟩:=h.od<|Nat.eq_of_beq_eq_true h1
  rw[Nat.eq_of_beq_eq_true h4]at e1
  rw[Nat.eq_of_beq_eq_true h2,Nat.eq_of_beq_eq_true h3]at e3
  exact⟨n,e1,e2,e3⟩
theorem adW {R:Ev.R V}{row:List AV}(hr:∀i a,row[i]?=some a->VA (atR i R) a):∀(l:List Pz)(j:Nat),adV R j l=true->row.length=j+l.length->aaa (λa p=>Pz.ok a p) (row.drop j) l:=by
 intro l
 induction l with
 | nil=>
  intro j _ hl
  rw[List.drop_eq_nil_of_le (by rw[hl];exact Nat.le_refl _)]
  exact .nil
 | cons p l ih=>
  intro j h hl
  obtain⟨h1,h2⟩:=(Bool.and_eq_true _ _).mp h
  rw[List.length_cons]at hl
  have hj:j<row.length:=by omega
  rw[List.drop_eq_getElem_cons hj]
  exact .cons (aey (hr j _<|List.getElem?_eq_getElem hj) h1)<|ih (j+1) h2<|by omega
theorem acW {rs:Ev.R (Ev.R V)}{sz:Nat}{T:Tr (List AV)}:∀(L:List (List Pz))(r:Nat),ab4 rs sz r L=true->(∀i,r<=i->i<r+L.length->∃row,T.get i=some row/\fQ sz (atR i rs) row) ->
  ∃M:List (List AV),aaa (λrow l=>aaa (λa p=>Pz.ok a p) row l) M L/\∀(i:Nat)row,M[i]?=some row->T.get (r+i)=some row/\row.length=sz:=by
 intro L
 induction L with
 | nil=>intro r _ _;exact⟨[],.nil,λi row h=>by cases h⟩
 | cons l L ih=>
  intro r h hT
  obtain⟨h1,h2⟩:=(Bool.and_eq_true _ _).mp h
  obtain⟨h2,h3⟩:=(Bool.and_eq_true _ _).mp h2
  rw[List.length_cons]at hT
  obtain⟨row,e1,e2⟩:=hT r (Nat.le_refl _)<|by omega
  have h1:l.length=sz:=Nat.eq_of_beq_eq_true h1
  obtain⟨M,m1,m2⟩:=ih (r+1) h3<|λi hi hj=>hT i (by omega)<|by omega
  refine⟨row::M,.cons (adW e2.cell l 0 h2 (by rw[e2.len,h1];omega)) m1,λi row' hi=>?_⟩
  cases i with
  | zero=>cases hi;exact⟨e1,e2.len⟩
  | succ i=>
   have:=m2 i row' hi
   rw[show r+(i+1)=r+1+i by omega]
   exact this
theorem ado {h:FH}{H:Heap}(hH:cj h H){b sz:Nat}{L:List (List Pz)}(hc:aeI h b sz L=true):b<H.next/\∃M,aaa (λrow l=>aaa (λa p=>Pz.ok a p) row l) M L/\(HO.r false M sz).ok (H.get b):=by
 obtain⟨h1,hc⟩:=(Bool.and_eq_true _ _).mp hc
 obtain⟨h2,hc⟩:=(Bool.and_eq_true _ _).mp hc
 obtain⟨h3,hc⟩:=(Bool.and_eq_true _ _).mp hc
 obtain⟨h4,hc⟩:=(Bool.and_eq_true _ _).mp hc
 obtain⟨h5,hc⟩:=(Bool.and_eq_true _ _).mp hc
 have h1:b<262144:=bh.1 h1
 have h2:b<h.next:=bh.1 h2
 have h3:(ap b h).t=1:=Nat.eq_of_beq_eq_true h3
 have h4:(ap b h).n=L.length:=Nat.eq_of_beq_eq_true h4
 have h5:(ap b h).sz=sz:=Nat.eq_of_beq_eq_true h5
 refine⟨by rw[<- hH.next];exact h2,?_⟩
 obtain⟨T,e1,e2,e3,e4⟩:=(hH.block b h1).rows h3
 rw[h4,h5]at e1
 obtain⟨M,m1,m2⟩:=acW L 0 hc (λi _ hi=>by
  have:=e4 i<|by omega
  rwa [h5]at this)
 refine⟨M,m1,T,by rw[m1.len];exact e1,λi row hi=>?_⟩
 have:=m2 i row hi
 rwa [Nat.zero_add]at this
end
noncomputable def fgt (j:Nat):List V:=[iC 255 (4*j),iC 255 (4*j+1),BA 1 0 0 255 (4*j+2),iC 255 (4*j+3)]
noncomputable def fgL (n least ex:Nat):V:=⟨[rowV ((List.range n).flatMap fgt)],.undef,15,0,8+ex,0,n,least,900⟩
noncomputable def isFs (v:V):Bool:=Nat.beq v.t 15&&(Nat.beq v.f 0&&(Nat.beq v.a 900&&Nat.beq (v.e/2) 4))
def four (x z y w:Nat->Int)(i:Nat):List AV:=[.int .u8 (x i),.int .u8 (z i),.int .u8 (y i),.int .u8 (w i)]
section
variable [Sg]
theorem acm {v:V}{len cap:Nat}{a:AV}(hs:isFs v=true)(hv:VA v a)(h1:Sg.num 900=(len:Int))(h2:Sg.num 901=(cap:Int)):a=.slice (some ⟨0,0,0⟩) len cap false 4:=by
 obtain⟨k1,hs⟩:=Bool.and_eq_true_iff.1 hs
 obtain⟨k2,hs⟩:=Bool.and_eq_true_iff.1 hs
 obtain⟨k3,k4⟩:=Bool.and_eq_true_iff.1 hs
 obtain⟨r,n,c,T,N,cs,rfl,_,_,e1,e2,_⟩:=hv.rk<|Nat.eq_of_beq_eq_true k1
 rw[Nat.eq_of_beq_eq_true k3]at e1 e2
 have e1:len=n:=Int.ofNat.inj<|h1.symm.trans e1
 have e2:cap=c:=Int.ofNat.inj<|h2.symm.trans e2
 rw[Nat.eq_of_beq_eq_true k2,Nat.eq_of_beq_eq_true k4,e1,e2]
theorem VAs.app:∀{a:List V}{b:List AV}{c:List V}{d:List AV},VAs a b->VAs c d->VAs (a++c) (b++d):=by
 intro a b c d h
 induction h with
 | nil=>exactλh=>h
 | cons h _ ih=>exactλk=>.cons h<|ih k
theorem VAs.agr {x z y w:Nat->Int}(hx:∀i,0<=x i/\x i<=255)(hz:∀i,0<=z i/\z i<=255)(hy:∀i,0<=y i/\y i<=255)(hw:∀i,0<=w i/\w i<=255):∀(l:List Nat),(∀i∈l,Sg.num (4*i)=x i/\Sg.num (4*i+1)=z i/\Sg.num (4*i+2)=y i/\Sg.num (4*i+3)=w i) ->
  VAs (l.flatMap fgt) (l.flatMap<|four x z y w):=by
 intro l
 induction l with
 | nil=>intro _;exact .nil
 | cons i l ih=>
  intro h
  obtain⟨h1,h2,h3,h4⟩:=h i<|.head _
  have hl:Nat.land (y i).toNat 0=0:=Nat.and_zero _
  exact VAs.app (.cons (VA.abP h1<|hx i)<|.cons (VA.abP h2<|hz i)<|.cons (VA.agl h3 (hy i) hl)<|.cons (VA.abP h4<|hw i) .nil)<|ih λj hj=>h j<|.tail _ hj
theorem adB {x z y w:Nat->Int}:∀(n i j:Nat),i<n->j<4->((List.range n).flatMap (four x z y w))[i*4+j]?=(four x z y w i)[j]?:=by
 intro n
 induction n with
 | zero=>intro i j h;exact absurd h<|Nat.not_lt_zero _
 | succ n ih=>
  intro i j hi hj
  have hlen:∀m,((List.range m).flatMap (four x z y w)).length=m*4:=by
   intro m
   induction m with
   | zero=>rfl
   | succ m ih=>rw[List.range_succ,List.flatMap_append,List.length_append,ih];show m*4+4=_;omega
  rw[List.range_succ,List.flatMap_append]
  by_cases h:i<n
  ·rw[List.getElem?_append_left (by rw[hlen];omega)]
   exact ih i j h hj
  ·have:i=n:=by omega
   subst this
   rw[List.getElem?_append_right (by rw[hlen];omega),hlen,show i*4+j-i*4=j by omega]
   show((four x z y w i)++[])[j]?=_
   rw[List.append_nil]
theorem VA.fgL {n least ex len cap N:Nat}{x z y w:Nat->Int}{T:Tr (List AV)}(hx:∀i,0<=x i/\x i<=255)(hz:∀i,0<=z i/\z i<=255)(hy:∀i,0<=y i/\y i<=255)(hw:∀i,0<=w i/\w i<=255)(hex:ex=0\/ex=1)(hlen:Sg.num 900=(len:Int))(hcap:Sg.num 901=(cap:Int))(h1:least<=len)(h2:ex=1->len=least)(h3:len<9223372036854775808)
  (hB:Sg.iK 0=.rows T N 4 true) (hN:n<=N) (hn:n<=len) (hn2:n<=8) (hT:∀i,i<n->T.get i=some (four x z y w i)) (hv:∀i,i<n->Sg.num (4*i)=x i/\Sg.num (4*i+1)=z i/\Sg.num (4*i+2)=y i/\Sg.num (4*i+3)=w i):VA (Ev.fgL n least ex) (.slice (some ⟨0,0,0⟩) len cap false 4):=by
 have hrow:=VAs.row (VAs.agr hx hz hy hw (List.range n) λi hi=>hv i<|List.mem_range.1 hi) (o:=0) (r:=l7) (by
  have:∀m,((List.range m).flatMap (four x z y w)).length=m*4:=by
   intro m
   induction m with
   | zero=>rfl
   | succ m ih=>rw[List.range_succ,List.flatMap_append,List.length_append,ih];show m*4+4=_;omega
  rw[this];omega)
 have he:(8+ex)/2=4:=by rcases hex with rfl | rfl<;>rfl
 have:=VA.te (v:=Ev.fgL n least ex) (r:=rowV<|(List.range n).flatMap fgt) rfl rfl (by show 0<262144;omega) len cap hlen hcap h1 (λh=>h2 (by
  have h:(8+ex)%2=1:=h
  omega)) h3 T N (by show Sg.iK 0=bv.rows T N ((8+ex)/2) true;rw[he];exact hB) hN hn (four x z y w) hT (λ_ _=>he.symm) (by show n*((8+ex)/2)<=4180;rw[he];omega) (λi hi j hj=>by
   have hj:j<4:=hj
   have:=hrow (i*4+j) (four x z y w i)[j] (by rw[adB n i j hi hj,List.getElem?_eq_getElem hj])
   rw[Nat.zero_add]at this
   show VA (atR (i*((8+ex)/2)+j) _) _
   rw[he]
   exact this)
 have e:(Ev.fgL n least ex).e/2=4:=he
 rw[e]at this
 exact this
end
@[reducible] def n2:List (List AV):=[[nilS],[nilS]]
@[reducible] def afp (k:Nat):List AV:=d7.cells (pn (50+k) 2 8) nilS (pn (54+k) 2 1) (pn (58+k) 2 1) (pn (62+k) 2 1) (pn (66+k) 2 1) nilS nilS nilS++([nilS]++(d7.cells (pn (70+k) 2 8) nilS (pn (74+k) 2 1) (pn (78+k) 2 1) (pn (82+k) 2 1) (pn (86+k) 2 1) nilS nilS nilS++[]))
@[reducible] def adz (k n:Nat):List AV:=bu (46+k) (pn (88+k) (n+1) 11) 60 8 60 20 20 nilS
def st7 (k:Nat):List (Nat × Nat × List (List AV)):=[(70+k,8,Am d7.pl),(74+k,1,n2),(78+k,1,n2),(82+k,1,n2),(86+k,1,n2)]
def acS (k n:Nat):List (Nat × Nat × List (List AV)):=(46+k,51,[afp k])::(st7 k++[(44+k,8,[adz k n])])
def tl7 (k n:Nat)(C:List CD)(z:SH):SH:=(44+k,.r false [adz k n] 8)::(88+k,.r false (C.map CD.row) 11)::z
theorem afq (k:Nat):mD (Dw (st7 k)) (pn (70+k) 2 8) nilS (pn (74+k) 2 1) (pn (78+k) 2 1) (pn (82+k) 2 1) (pn (86+k) 2 1) nilS nilS nilS d7 where
 pl:=Src.all (L:=Am d7.pl) .here
 ob:=.nil
 lb:=⟨_,Src.all (L:=n2)<|.there .here,.cons .nil<|.cons .nil .nil⟩
 hd:=⟨_,Src.all (L:=n2)<|.there<|.there .here,.cons .nil<|.cons .nil .nil⟩
 gr:=⟨_,Src.all (L:=n2)<|.there<|.there<|.there .here,.cons .nil<|.cons .nil .nil⟩
 ex:=⟨_,Src.all (L:=n2)<|.there<|.there<|.there<|.there .here,.cons .nil<|.cons .nil .nil⟩
 fi:=.nil
 st:=.nil
 wa:=.nil
theorem aew (k:Nat)(t:SH):aH (46+k) [] d7 t ((46+k,.r false [afp k] 51)::([]++(Dw (st7 k)++t))):=
 ⟨_,nilS,pn (70+k) 2 8,nilS,pn (74+k) 2 1,pn (78+k) 2 1,pn (82+k) 2 1,pn (86+k) 2 1,nilS,nilS,nilS,[],Dw<|st7 k,.refl _,rfl,.nil,afq k⟩
def ldP:List Pz:=[.s,.l (iv 1),.l (iv 0),.l (iv 0),.l (iv 0),.l (iv 0),.l (iv 0),.l (iv 0),.l (iv 0),.l (iv 0),.l nilS]
def bsP (j:Nat):List Pz:=[.s,.l (iv 2),.l (iv 0),.l (iv 0),.l (iv 0),.l (iv 0),.l (iv 0),.r 0 6,.r 1 6,.k (4*j+2),.l nilS]
def cdP (n:Nat):List (List Pz):=ldP::(List.range n).map bsP
def z7 (p q:Bool)(L TL:List (List AV)):SH:=(match p with | true=>[(0,.r true L 4)] | false=>[])++(match q with | true=>[(1,.r true TL 1)] | false=>[])
theorem agO {p q:Bool}{L TL:List (List AV)}{b:Nat}{o:HO}(h:(b,o)∈z7 p q L TL):(p=true/\b=0/\o=.r true L 4)\/(q=true/\b=1/\o=.r true TL 1):=by
 unfold z7 at h
 cases p<;>cases q<;>simp_all
theorem agP (p q:Bool)(L TL:List (List AV)):(z7 p q L TL).Pairwise λp q=>p.1≠q.1:=by
 unfold z7
 cases p<;>cases q<;>simp
noncomputable def adT (p:Bool)(b:Nat)(h:FH):Bool:=match p with | true=>Nat.beq (ap b h).t 5&&Nat.beq (ap b h).lp.nt b | false=>true
noncomputable def isLen (v:V)(m:Nat):Bool:=Nat.beq v.t 5&&Nat.beq v.c m
noncomputable def pre31 (P:Program)(ih:bT)(c:Code)(k n:Nat)(ck:V->Bool)(p q:Bool)(w:V):FH->Bool:=
 RE P 97 ih (spine 6 c).1 (λe h=>Du h (acS k n)&&(aeI h (88+k) 11 (cdP n)&&(wI e [(6,.ptr<|some ⟨44+k,0,0⟩),(8,nilS)]&&(isLen (atR 4 e) (n+1)&&(ck (atR 0 e)&&(adT p 0 h&&(adT q 1 h&&(match h.fr.ds with | []=>true | _=>false))))))))
  (Ba [w] 0 l7)
section
variable [Sg]{P:Program}{K:Orc}{F:Nat->FuncId}{T:Nat->TypeId}
theorem adX {row:List AV}(h:aaa (λa p=>Pz.ok a p) row ldP):∃c:CD,row=c.row/\c.ab=[]/\c.av=nilS:=by
 unfold ldP at h
 cases h with | cons h0 h=>cases h with | cons h1 h=>cases h with | cons h2 h=>cases h with | cons h3 h=>cases h with | cons h4 h=>cases h with | cons h5 h=>cases h with | cons h6 h=>cases h with | cons h7 h=>cases h with | cons h8 h=>cases h with | cons h9 h=>cases h with | cons h10 h=>cases h with | nil=>
 obtain⟨s,rfl⟩:=h0
 cases h1;cases h2;cases h3;cases h4;cases h5;cases h6;cases h7;cases h8;cases h9;cases h10
 exact⟨⟨s,1,0,0,0,0,0,0,0,0,nilS,[]⟩,rfl,rfl,rfl⟩
theorem acV {row:List AV}{j:Nat}(h:aaa (λa p=>Pz.ok a p) row (bsP j)):∃c:CD,row=c.row/\(c.ab=[]/\c.av=nilS)/\c.kind=2/\∃y:Nat,Sg.num (4*j+2)=(y:Int)/\y<256/\c.keys=.ofNat (Nat.land y 127)/\(0<=c.power/\c.power<=6)/\1<=c.qn/\c.qn<=6:=by
 unfold bsP at h
 cases h with | cons h0 h=>cases h with | cons h1 h=>cases h with | cons h2 h=>cases h with | cons h3 h=>cases h with | cons h4 h=>cases h with | cons h5 h=>cases h with | cons h6 h=>cases h with | cons h7 h=>cases h with | cons h8 h=>cases h with | cons h9 h=>cases h with | cons h10 h=>cases h with | nil=>
 obtain⟨s,rfl⟩:=h0
 obtain⟨m,rfl,b1,b2⟩:=h7
 obtain⟨m',rfl,b3,b4⟩:=h8
 obtain⟨y,e1,e2,rfl⟩:=h9
 cases h1;cases h2;cases h3;cases h4;cases h5;cases h6;cases h10
 exact⟨⟨s,2,0,0,0,0,0,m,m',.ofNat<|Nat.land y 127,nilS,[]⟩,rfl,⟨rfl,rfl⟩,rfl,y,e1,e2,rfl,⟨b1,b2⟩,b3,b4⟩
theorem ab5:∀(l:List Nat)(M:List (List AV)),aaa (λrow q=>aaa (λa p=>Pz.ok a p) row q) M (l.map bsP)->∃C:List CD,M=C.map CD.row/\(∀c∈C,c.ab=[]/\c.av=nilS)/\C.length=l.length/\∀(i j:Nat),l[i]?=some j->∃c:CD,C[i]?=some c/\c.kind=2/\∃y:Nat,Sg.num (4*j+2)=(y:Int)/\y<256/\c.keys=.ofNat (Nat.land y 127)/\(0<=c.power/\c.power<=6)/\1<=c.qn/\c.qn<=6:=by
 intro l
 induction l with
 | nil=>
  intro M h
  cases h
  exact⟨[],rfl,(λc hc=>nomatch hc),rfl,(λi j h=>nomatch h)⟩
 | cons j l ih=>
  intro M h
  cases h with
  | cons h1 h2=>
   obtain⟨c,rfl,c1,c2⟩:=acV h1
   obtain⟨C,rfl,C1,C2,C3⟩:=ih _ h2
   refine⟨c::C,rfl,λx hx=>?_,by simp[C2],λi j' hi=>?_⟩
   ·rcases List.mem_cons.1 hx with rfl | hx
    ·exact c1
    ·exact C1 x hx
   ·cases i with
    | zero=>cases hi;exact⟨c,rfl,c2⟩
    | succ i=>exact C3 i j' hi
theorem aeY {n:Nat}{M:List (List AV)}(h:aaa (λrow q=>aaa (λa p=>Pz.ok a p) row q) M (cdP n)){ky:Nat->Nat}(hky:∀j,j<n->Sg.num (4*j+2)=(ky j:Int)):∃C:List CD,M=C.map CD.row/\(∀c∈C,c.ab=[]/\c.av=nilS)/\rq C n λj=>.ofNat (Nat.land (ky j) 127):=by
 unfold cdP at h
 cases h with
 | cons h1 h2=>
  obtain⟨c,rfl,c1,c2⟩:=adX h1
  obtain⟨C,rfl,C1,C2,C3⟩:=ab5 _ _ h2
  have hall:∀x∈c::C,x.ab=[]/\x.av=nilS:=λx hx=>by
   rcases List.mem_cons.1 hx with rfl|hx
   ·exact⟨c1,c2⟩
   ·exact C1 x hx
  refine⟨c::C,rfl,hall,by rw[List.length_cons,C2,List.length_range],λx hx=>(hall x hx).1,λj hj=>?_,λj hj=>?_⟩
  rotate_left
  ·obtain⟨x,x1,_,_,_,_,_,x5⟩:=C3 j j (List.getElem?_range hj)
   exact⟨x,x1,x5⟩
  obtain⟨x,x1,x2,y,x3,_,x4,_⟩:=C3 j j<|List.getElem?_range hj
  refine⟨x,x1,x2,?_⟩
  rw[x4]
  have:y=ky j:=Int.ofNat.inj<|x3.symm.trans<|hky j hj
  rw[this]
theorem adJ {v:V}{a:AV}{m:Nat}(h:isLen v m=true)(hv:VA v a):lenOf a=some m:=by
 obtain⟨k1,k2⟩:=Bool.and_eq_true_iff.1 h
 rw[(hv.A7<|Nat.eq_of_beq_eq_true k1).1,Nat.eq_of_beq_eq_true k2]
 rfl
theorem abH {h:FH}{H:Heap}{p:Bool}{b:Nat}(hH:cj h H)(hb:b<262144)(hc:adT p b h=true)(hp:p=true):H.get b=some (Sg.iK b):=by
 subst hp
 obtain⟨k1,k2⟩:=Bool.and_eq_true_iff.1 hc
 have g0:=(hH.block b hb).DM (Nat.eq_of_beq_eq_true k1)
 rw[Nat.eq_of_beq_eq_true k2]at g0
 exact g0
theorem acB (hB:Base P K F T) (hX:BaseX P K F T) (hc:ac7 P K F) {ih:bT} (hC:eL P K ih) {fn:Func} {c:Code} (hf:P.funcs[F 31]?=some fn) (hb:fn.body=some c) (hnt:fn.ntmps=97) (hres:fn.results.toList=[.tmp 2,.tmp 3]) (hname:(fn.name == "runtime.NumGoroutine")=false)
  (j5:cc P 97 (spine 6 c).2=ac9 F T) (hK:∀args H,K (F 31) args H=none) {h0:FH} {H0:Heap} (hH:cj h0 H0) (hfr:xe h0.fr [] none) {k n:Nat} (hk0:1<=k) {ck:V->Bool} {p q:Bool} {w:V} (hpre:pre31 P ih c k n ck p q w h0=true) {lv:AV} (hlv:VA w lv) (lm:∀v a,ck v=true->VA v a->a=lv)
  {L TL:List (List AV)} {ps ky:Nat->Nat} (tp:Nat->Bool) (XV:lenOf lv=some L.length) (XW:∀i,i<L.length->∃x z y w:Nat,x<=255/\z<=255/\y<=255/\w<=255/\L[i]?=some [.int .u8 (.ofNat x),.int .u8<|.ofNat z,.int .u8<|.ofNat y,.int .u8<|.ofNat w]/\y=ky i/\w%2=ps i)
  (hn:n=min L.length 8) (h0L:0<L.length->p=true/\∃cap sl,lv=.slice (some ⟨0,0,0⟩) L.length cap sl 4) (hp:p=true->(HO.r true L 4).ok (some<|Sg.iK 0)) (hq:q=true->(HO.r true TL 1).ok (some<|Sg.iK 1)) (PV:∀j,j<n->Sg.num (4*j+2)=(ky j:Int)) :
  ∃H' s' z0 ids EL og j C,CallsTo P K (F 31) [lv] H0 (.tuple [.ptr (some ⟨44+k,0,0⟩),ids]) H'/\Hp ⟨.lf,0⟩ s' H'/\aH (46+k) EL (dW ps tp n 0) (og++(j++tl7 k n C z0)) s'/\EL.length<=16/\Gr 1 ids (nR<|fI n) og/\rq C n (λj=>.ofNat<|Nat.land (ky j) 127)/\cI (tl7 k n C z0) (pn (88+k) (n+1) 11) C /\
   (p=true->Has 0 (.r true L 4) z0)/\(q=true->Has 1 (.r true TL 1) z0):=by
 obtain⟨e0,iL,XN⟩:=sU (nt:=97) (.cons hlv .nil) (by omega)<|by simp
 obtain⟨E',H',ds',e',h',q1,q2,q3,q4,q5⟩:=ye (rd:=none) (ds:=[]) hC (spine 6 c).1 XN hH hfr hpre
 obtain⟨k1,q4⟩:=Bool.and_eq_true_iff.1 q4
 obtain⟨k2,q4⟩:=Bool.and_eq_true_iff.1 q4
 obtain⟨k3,q4⟩:=Bool.and_eq_true_iff.1 q4
 obtain⟨k4,q4⟩:=Bool.and_eq_true_iff.1 q4
 obtain⟨k5,q4⟩:=Bool.and_eq_true_iff.1 q4
 obtain⟨k6,q4⟩:=Bool.and_eq_true_iff.1 q4
 obtain⟨k8,k7⟩:=Bool.and_eq_true_iff.1 q4
 have hds:=Cl q3 k7
 subst hds
 have hmem:=Dv q2 k1
 obtain⟨YI,M,hM,aht⟩:=ado q2 k2
 obtain⟨C,rfl,hC1,hC2⟩:=aeY hM PV
 have ng:=AH q1 k3 (λp hp=>by
  simp only[List.mem_cons,List.not_mem_nil,or_false]at hp
  rcases hp with rfl|rfl<;>exact Nat.le_of_ble_eq_true rfl)
 obtain⟨a0,e0',v0⟩:=q1.slot 0<|by omega
 obtain⟨a4,e4',v4⟩:=q1.slot 4<|by omega
 have ea0:=lm _ _ k5 v0
 subst ea0
 have hl4:=adJ k4 v4
 have hz:∀b o,(b,o)∈z7 p q L TL->b<2/\o.ok (H'.get b):=by
  intro b o hb
  rcases agO hb with⟨h,rfl,rfl⟩|⟨h,rfl,rfl⟩
  ·exact⟨by omega,by rw[abH q2 (by omega) k6 h];exact hp h⟩
  ·exact⟨by omega,by rw[abH q2 (by omega) k8 h];exact hq h⟩
 have hzp:=agP p q L TL
 have hpz:p=true->Has 0 (.r true L 4) (z7 p q L TL):=λh=>by subst h;exact .here
 have hqz:q=true->Has 1 (.r true TL 1) (z7 p q L TL):=λh=>by subst h;exact .app .here
 have hHp:Hp ⟨.lf,0⟩ (Dw (acS k n)++((88+k,.r false (C.map CD.row) 11)::(z7 p q L TL))) H':=by
  refine⟨Nat.zero_le _,?_,?_,λb hb=>absurd hb<|Nat.not_lt_zero _⟩
  ·intro b o hb
   rcases List.mem_append.1 hb with hb|hb
   ·exact hmem b o hb
   ·rcases List.mem_cons.1 hb with hb | hb
    ·cases hb;exact⟨YI,aht⟩
    ·have:=hz b o hb
     exact⟨by omega,this.2⟩
  ·refine List.pairwise_append.2 ⟨?_,List.pairwise_cons.2 ⟨λr hr=>?_,hzp⟩,?_⟩
   ·simp[Dw,acS,st7]
   ·have:=(hz r.1 r.2 hr).1
    show 88+k≠r.1
    omega
   ·intro u hu r hr
    have hu2:44+k<=u.1/\u.1≠88+k:=by
     simp only[Dw,acS,st7,List.map_cons,List.map_nil,List.cons_append,List.nil_append,List.mem_cons,List.not_mem_nil,or_false]at hu
     rcases hu with rfl|rfl|rfl|rfl|rfl|rfl|rfl<;>exact⟨by show _<=_+k;omega,by show _+k≠_;omega⟩
    rcases List.mem_cons.1 hr with rfl|hr
    ·exact hu2.2
    ·have:=(hz r.1 r.2 hr).1
     omega
 have hs:aH (46+k) [] (dW ps tp 0 0) (tl7 k n C<|z7 p q L TL) (Dw (acS k n)++((88+k,.r false (C.map CD.row) 11)::(z7 p q L TL))):=by
  have:=aew k<|tl7 k n C<|z7 p q L TL
  rw[show Dw (acS k n)=(46+k,.r false [afp k] 51)::(Dw (st7 k)++[(44+k,.r false [adz k n] 8)])from rfl,List.cons_append,List.append_assoc]
  exact this
 have XO:En [(0,a0),(4,a4),(6,.ptr<|some ⟨44+k,0,0⟩),(8,nilS)] E':=by
  intro i v hi
  simp only[lu]at hi
  split at hi
  ·rename_i h;cases hi;rw[<- h];exact e0'
  ·split at hi
   ·rename_i h;cases hi;rw[<- h];exact e4'
   ·split at hi
    ·rename_i h;cases hi;rw[<- h];exact ng 6 _<|by simp
    ·split at hi
     ·rename_i h;cases hi;rw[<- h];exact ng 8 _<|by simp
     ·cases hi
 have hby:afF (tl7 k n C<|z7 p q L TL) a0 L ps ky:=⟨XV,λh=>by
  obtain⟨h1,cap,sl,h2⟩:=h0L h
  exact⟨0,cap,sl,h2,.there (.there (hpz h1))⟩,XW⟩
 obtain⟨xx,e'',Xu,H2,l',s',r1,r2,r3,r4⟩:=ae3 hB hX hc (T:=T) (tp:=tp) (Qn:=Kj) (Qe:=λ_=>Kj) (Qr:=λl ds s=>ds=[]/\∃ids EL og j,aH (46+k) EL (dW ps tp n 0) (og++(j++tl7 k n C (z7 p q L TL))) s/\EL.length<=16/\Gr 1 ids (nR<|fI n) og/\lk l 2=some (.ptr<|some ⟨44+k,0,0⟩)/\lk l 3=some ids)
  hby (n:=n) (by omega) (by omega) hl4 hs .here (λ_ _ h=>h) (λl2 s2 ids og j Gg hE2 dt hG h8 h9=>⟨rfl,ids,Gg,og,j,dt,hE2,hG,h8,h9⟩) (spine 6 c).2 j5 ⟨.lf,0⟩ E' H' XO hHp
 have run:=q5 (spine 6 c).2 _ r1
 rw[ug]at run
 cases xx with
 | normal=>exact r4.elim
 | exit i=>exact r4.elim
 | ret=>
  obtain⟨rfl,ids,EL,og,j,w1,w3,wG,w4,w5⟩:=r4
  refine⟨H2,s',(z7 p q L TL),ids,EL,og,j,C,CallsTo.enter (hK _ _) hf hb (by rw[hnt,hname];rfl) (by rw[hnt];exact iL) (by rw[hnt];exact run) (.inl rfl) ?_,r3,w1,w3,wG,hC2,?_,hpz,hqz⟩
  ·have e8:resultOf P e'' H2 (.tmp 2)=some _:=r2 2 _ w4
   have e9:resultOf P e'' H2 (.tmp 3)=some _:=r2 3 _ w5
   rw[hres]
   show(match aI (resultOf P e'' H2) [.tmp 2,.tmp 3]with | some [v]=>some v | some vs=>some (.tuple vs) | none=>none)=_
   simp only[aI,e8,e9]
  ·have hlen:(C.map CD.row).length=n+1:=by rw[List.length_map,hC2.len]
   refine⟨?_,λc hc=>?_,by rw[hC2.len];omega,λc hc=>by rw[(hC1 c hc).1];exact Nat.zero_le _⟩
   ·have:=Src.all (L:=C.map CD.row) (sz:=11) (c:=n+1) (sl:=true) (b:=88+k) (s:=tl7 k n C<|z7 p q L TL) (.there .here)
    rw[hlen]at this
    exact this
   ·rw[(hC1 c hc).1,(hC1 c hc).2]
    exact .nil
end
noncomputable def fhA (p:Bool):FH:=match p with | true=>hput 0 (Xz 0) fh0 | false=>fh0
noncomputable def fhW (p q:Bool):FH:=⟨(match q with | true=>hput 1 (Xz 1) (fhA p) | false=>fhA p:FH).h,2,Kz⟩
noncomputable def H2a (p:Bool)(a:bv):Tr bv:=match p with | true=>Tr.lf.put 0 a | false=>.lf
noncomputable def H2b (p q:Bool)(a b:bv):Heap:=⟨match q with | true=>(H2a p a).put 1 b | false=>H2a p a,2⟩
def tf {α:Type}(p:Bool)(a:α):Option α:=match p with | true=>some a | false=>none
theorem acb (p q:Bool)(a b:bv)(k:Nat):(H2b p q a b).get k=if k=0 then tf p a else if k=1 then tf q b else none:=by
 have h0:(⟨Tr.lf,0⟩:Heap).get k=none:=by simp[Heap.get,Tr.get]
 have hp:(⟨H2a p a,0⟩:Heap).get k=if k=0 then tf p a else none:=by
  cases p
  ·show(⟨Tr.lf,0⟩:Heap).get k=_
   rw[h0];split<;>rfl
  ·show((⟨.lf,0⟩:Heap).put 0 a).get k=_
   rw[Heap.aR,h0]
   by_cases h:k=0
   ·subst h;rfl
   ·rw[if_neg (λe=>h e.symm),if_neg h]
 cases q
 ·show(⟨H2a p a,0⟩:Heap).get k=_
  rw[hp]
  split
  ·rfl
  ·split<;>rfl
 ·show((⟨H2a p a,0⟩:Heap).put 1 b).get k=_
  rw[Heap.aR,hp]
  by_cases h:k=1
  ·subst h;rfl
  ·rw[if_neg (λe=>h e.symm),if_neg h]
noncomputable def foO (p:Bool)(i:Nat):FO:=match p with | true=>Xz i | false=>l9
theorem ae4 [Sg](p q:Bool):cj (fhW p q) (H2b p q (Sg.iK 0) (Sg.iK 1)):=by
 refine⟨rfl,by show 2<=262144;omega,λb hb=>?_⟩
 have h0:ap b fh0=l9:=by
  rw[ia]
  show cX b (cX (b/64)<|cX (b/4096)<|fV<|fV<|fV l9)=l9
  rw[dU,dU,dU]
 have hp:ap b (fhA p)=if b=0 then foO p 0 else l9:=by
  cases p
  ·show ap b fh0=_
   rw[h0];split<;>rfl
  ·show ap b (hput 0 (Xz 0) fh0)=_
   rw[jE (by omega) hb,h0]
   by_cases h:b=0
   ·subst h;rfl
   ·rw[if_neg (λe=>h e.symm),if_neg h]
 have hq:ap b (fhW p q)=if b=0 then foO p 0 else if b=1 then foO q 1 else l9:=by
  cases q
  ·show ap b ⟨(fhA p).h,2,Kz⟩=_
   rw[nl,hp]
   split
   ·rfl
   ·split<;>rfl
  ·show ap b ⟨(hput 1 (Xz 1)<|fhA p).h,2,Kz⟩=_
   rw[nl,jE (by omega) hb,hp]
   by_cases h:b=1
   ·subst h;rfl
   ·rw[if_neg (λe=>h e.symm),if_neg h]
 rw[hq,acb]
 have hP:∀(p:Bool)i,gy (foO p i) (tf p<|Sg.iK i):=λp i=>by
  cases p
  ·exact gy.gone _ rfl rfl
  ·exact⟨λ_=>rfl,λk=>absurd (show 5=1 from k)<|by decide,λk=>absurd (show 5=2 from k)<|by decide,λk=>absurd (show 5=3 from k)<|by decide,λk=>absurd (show 5=4 from k)<|by decide,λ_=>rfl,λk=>absurd (show 5=6 from k)<|by decide⟩
 split
 ·exact hP p 0
 ·split
  ·exact hP q 1
  ·exact gy.gone _ rfl rfl
theorem C5 {a m:Nat}(h1:1<=a)(h:a<=m):(1:Int)<=.ofNat a/\(.ofNat a:Int)<=.ofNat m:=⟨Int.ofNat_le.2 h1,Int.ofNat_le.2 h⟩
def g7 (p q:Bool)(d1 d2:Gd):G:=λb=>if b=0 then tf p d1 else if b=1 then tf q d2 else none
@[reducible] noncomputable def sg7 (T1 T2:Tr (List AV))(len cap sT:Nat)(x z y w:Nat->Int):Sg:=
 mkSg (λi=>if i=900 then(len:Int)else if i=901 then(cap:Int)else match i%4 with | 0=>x (i/4) | 1=>z (i/4) | 2=>y (i/4) | _=>w<|i/4) (λ_=>.undef) (λi=>match i with | 0=>.rows T1 len 4 true | _=>.rows T2 sT 1 true)
theorem l5 {α:Type}{p:Bool}{a b:α}(h:tf p a=some b):p=true/\b=a:=by
 cases p
 ·cases h
 ·cases h;exact⟨rfl,rfl⟩
section
variable {P:Program}{K:Orc}{F:Nat->FuncId}{T:Nat->TypeId}{f:FuncId}{fn:Func}{c:Code}{aaL:Func}{c31:Code}{R:iB}{m:Nat}
inductive FArg (W:World):Value->Bool->Nat->Prop
 | nil {b:Nat}:FArg W (.slice none 0 0) false b
 | emp {a:Addr} {cap b:Nat}:FArg W (.slice (some a) 0 cap) false b
 | full {b o len cap:Nat} {cs:Array Value} {e:TypeId} {fz:Nat × Nat} {x z y w:Nat->Int} (hx:∀i,0<=x i/\x i<=255) (hz:∀i,0<=z i/\z i<=255) (hy:∀i,0<=y i/\y i<=255) (hw:∀i,0<=w i/\w i<=255) (h0:0<len) (hle:len<=cap) (hmx:len<9223372036854775808) (hc:W.heap[b]?=some (.cells cs e fz))
   (hcell:∀i,i<len->cs[o+i*4]?=some (.int .u8<|x i)/\cs[o+i*4+1]?=some (.int .u8<|z i)/\cs[o+i*4+2]?=some (.int .u8<|y i)/\cs[o+i*4+3]?=some (.int .u8<|w i)):FArg W (.slice (some ⟨b,o,none⟩) len cap) true b
theorem acr {T1 T2:Tr (List AV)}{len cap sT:Nat}{x z y w:Nat->Int}{i:Nat}(hi:i<8):(sg7 T1 T2 len cap sT x z y w).num (4*i)=x i/\(sg7 T1 T2 len cap sT x z y w).num (4*i+1)=z i/\(sg7 T1 T2 len cap sT x z y w).num (4*i+2)=y i/\(sg7 T1 T2 len cap sT x z y w).num (4*i+3)=w i:=by
 match i,hi with
 | 0,_=>exact⟨rfl,rfl,rfl,rfl⟩
 | 1,_=>exact⟨rfl,rfl,rfl,rfl⟩
 | 2,_=>exact⟨rfl,rfl,rfl,rfl⟩
 | 3,_=>exact⟨rfl,rfl,rfl,rfl⟩
 | 4,_=>exact⟨rfl,rfl,rfl,rfl⟩
 | 5,_=>exact⟨rfl,rfl,rfl,rfl⟩
 | 6,_=>exact⟨rfl,rfl,rfl,rfl⟩
 | 7,_=>exact⟨rfl,rfl,rfl,rfl⟩

end
end Go.Ev
