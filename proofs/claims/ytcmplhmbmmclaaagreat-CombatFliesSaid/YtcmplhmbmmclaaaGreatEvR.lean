/- Walks and rules. Conditions: none. -/
import Derived.Test.YtcmplhmbmmclaaaGreatEvQ
import Derived.Test.YtcmplhmbmmclaaaGreatEvP
set_option linter.unusedVariables false
set_option linter.unusedSectionVars false
namespace Go.Ev
inductive C9 (F:Nat->FuncId):FuncId->List AV->Heap->AV->Heap->Prop
 | w (H:Heap):C9 F (F 33) [] H (.bool true) H
 | cN (H:Heap) (p c:Int):0<=p/\p<=1->1<=c/\c<=8->C9 F (F 201) [.agg (evRow 1 p c 2 0 it0)] H (iv 0) H
 | cS (H:Heap) (a:Int):1<=a/\a<=8->C9 F (F 201) [.agg (evRow 4 a 0 0 0 it0)] H (iv 0) H
 | cT (H:Heap) (a:Int):1<=a/\a<=8->C9 F (F 201) [.agg (evRow 3 a 0 1 0 it0)] H (iv 0) H
 | cA (H:Heap) (a:Int):1<=a/\a<=8->C9 F (F 201) [.agg (evRow 12 a 2 0 0 it0)] H (iv 0) H
theorem C9.uniq {F:Nat->FuncId}(hne:F 33≠F 201){f:FuncId}{args:List AV}{H:Heap}{v u:AV}{H' I:Heap}(h:C9 F f args H v H')(h2:C9 F f args H u I):u=v/\I=H':=by
 have key:∀{f:FuncId}{args:List AV}{H:Heap}{v:AV}{H':Heap},C9 F f args H v H'->H'=H/\((f=F 33/\v=.bool true)\/(f=F 201/\v=iv 0)):=by
  intro f args H v H' h
  cases h<;>first | exact⟨rfl,.inl ⟨rfl,rfl⟩⟩ | exact⟨rfl,.inr ⟨rfl,rfl⟩⟩
 have q1:=key h
 have q2:=key h2
 refine⟨?_,by rw[q2.1,q1.1]⟩
 rcases q1.2 with⟨e1,w1⟩|⟨e1,w1⟩<;>rcases q2.2 with⟨e2,w2⟩|⟨e2,w2⟩<;>first|(rw[w1,w2];done)|exact absurd (e1.symm.trans e2) hne|exact absurd (e2.symm.trans e1) hne
theorem says9_known {P:Program}{F:Nat->FuncId}(hne:F 33≠F 201){f:FuncId}{args:List AV}{v:AV}(h:∀H,C9 F f args H v H):∀s,bB P (orcOf (C9 F)) f args s (λu s'=>u=v/\s'=s):=λs=>
 bB.known (λH=>kG (h H) λu I h2=>C9.uniq hne (h H) h2) ⟨rfl,rfl⟩
theorem aao {a m:Nat}(h1:1<=a)(h:a<=m):(1:Int)<=.ofNat a/\(.ofNat a:Int)<=.ofNat m:=⟨Int.ofNat_le.2 h1,Int.ofNat_le.2 h⟩
theorem says9 {P:Program}{F:Nat->FuncId}(hne:F 33≠F 201):aaq P (orcOf (C9 F)) F where
 cN:=λp c hp h1 h2=>says9_known hne λH=>.cN H _ _ (ada (m:=1)<|by omega)<|aao h1 h2
 cS:=λa h1 h2=>says9_known hne λH=>.cS H _<|aao h1 h2
 cT:=λa h1 h2=>says9_known hne λH=>.cT H _<|aao h1 h2
 cA:=λa h1 h2=>says9_known hne λH=>.cA H _<|aao h1 h2
theorem orc9_w {F:Nat->FuncId}(hne:F 33≠F 201)(H:Heap):orcOf (C9 F) (F 33) [] H=some (.bool true,H):=kG (.w H) λu I h=>C9.uniq hne (.w H) h
theorem orc9_none {F:Nat->FuncId}{f:FuncId}(h1:f≠F 33)(h2:f≠F 201)(args:List AV)(H:Heap):orcOf (C9 F) f args H=none:=
 wn λu I h=>by cases h<;>first | exact h1 rfl | exact h2 rfl
theorem orc9_ok {P:Program}{F:Nat->FuncId}(kw:gW P (F 33) [] vu (.bool true) vu)(kN:∀p c:Int,0<=p/\p<=1->1<=c/\c<=8->gW P (F 201) [.agg (evRow 1 p c 2 0 it0)] vu (iv 0) vu)
  (kS:∀a:Int,1<=a/\a<=8->gW P (F 201) [.agg (evRow 4 a 0 0 0 it0)] vu (iv 0) vu) (kT:∀a:Int,1<=a/\a<=8->gW P (F 201) [.agg (evRow 3 a 0 1 0 it0)] vu (iv 0) vu) (kA:∀a:Int,1<=a/\a<=8->gW P (F 201) [.agg (evRow 12 a 2 0 0 it0)] vu (iv 0) vu):OrcOk P (orcOf<|C9 F):=by
 refine DX λf args H v H' h=>?_
 cases h with
 | w=>exact kw.anywhere (λ_=>rfl) (λ_=>rfl) _
 | cN _ p c h1 h2=>exact(kN p c h1 h2).anywhere (λ_=>rfl) (λ_=>rfl) _
 | cS _ a h1=>exact(kS a h1).anywhere (λ_=>rfl) (λ_=>rfl) _
 | cT _ a h1=>exact(kT a h1).anywhere (λ_=>rfl) (λ_=>rfl) _
 | cA _ a h1=>exact(kA a h1).anywhere (λ_=>rfl) (λ_=>rfl) _
structure Trn7 (P:Program)(K:Orc)(F:Nat->FuncId)(T:Nat->TypeId)(f:FuncId)(fn:Func)(c:Code)(aaG:Func)(c31:Code)(R:iB)(m:Nat):Prop where
 mixed:P.follows .mixedOrders=true
 orc:OrcOk P K
 base:LawF P K F T
 says:aaq P K F
 rule:∀S:Sg,@Bh S R K
 func:P.funcs[f]?=some fn
 body:fn.body=some c
 nt:fn.ntmps=174
 res:fn.results.toList=[.tmp 4]
 name:(fn.name == "runtime.NumGoroutine")=false
 rest:cc P 174 c=.seq (.ops a7W) (.seq (.ops<|a7X F)<|a7Z F T)
 free:∀args H,K f args H=none
 func31:P.funcs[F 31]?=some aaG
 body31:aaG.body=some c31
 nt31:aaG.ntmps=97
 res31:aaG.results.toList=[.tmp 2,.tmp 3]
 name31:(aaG.name == "runtime.NumGoroutine")=false
 rest31:cc P 97 (spine 6 c31).2=abL F T
 free31:∀args H,K (F 31) args H=none
 runN:∀q,pre31 P (callF P R m) c31 1 0 (λv=>isA v nilS) false q (mkV nilS) (fhW false q)=true
 runE:∀q,pre31 P (callF P R m) c31 1 0 (λv=>isA v .empty) false q (mkV .empty) (fhW false q)=true
 runS:∀q n,0<n->n<=8->pre31 P (callF P R m) c31 (23*n+1) n isFs true q (fgL n n 1) (fhW true q)=true
 runL:∀q,pre31 P (callF P R m) c31 185 8 isFs true q (fgL 8 9 0) (fhW true q)=true
def g7 (p q:Bool)(d1 d2:Gd):G:=λb=>if b=0 then sq p d1 else if b=1 then sq q d2 else none
@[reducible] noncomputable def sg7 (T1 T2:Tr (List AV))(len cap rq:Nat)(x z y w:Nat->Int):Sg:=
 mkSg (λi=>if i=900 then(len:Int)else if i=901 then(cap:Int)else match i%4 with | 0=>x (i/4) | 1=>z (i/4) | 2=>y (i/4) | _=>w<|i/4) (λ_=>.undef) (λi=>match i with | 0=>.rows T1 len 4 true | _=>.rows T2 rq 1 true)
theorem kM {α:Type}{p:Bool}{a b:α}(h:sq p a=some b):p=true/\b=a:=by
 cases p
 ·cases h
 ·cases h;exact⟨rfl,rfl⟩
section
variable {P:Program}{K:Orc}{F:Nat->FuncId}{T:Nat->TypeId}{f:FuncId}{fn:Func}{c:Code}{aaG:Func}{c31:Code}{R:iB}{m:Nat}
theorem Mq (hl:Trn7 P K F T f fn c aaG c31 R m){p q:Bool}{k n:Nat}(hk0:1<=k){ck:V->Bool}{v1:V}(hpre:pre31 P (callF P R m) c31 k n ck p q v1 (fhW p q)=true){T1 T2:Tr (List AV)}{len cap rq:Nat}{x z y w:Nat->Int}{b:Nat->Bool}
  (hx:∀i,0<=x i/\x i<=255) (hz:∀i,0<=z i/\z i<=255) (hy:∀i,0<=y i/\y i<=255) (hw:∀i,0<=w i/\w i<=255) (hT1:∀i,i<len->T1.get i=some (four x z y w i)) (hT2:∀i,i<rq->T2.get i=some [.bool (b i)])
  {lv tv:AV} (hlv:@VA (sg7 T1 T2 len cap rq x z y w) v1 lv) (lm:∀v a,ck v=true->@VA (sg7 T1 T2 len cap rq x z y w) v a->a=lv) (XV:lenOf lv=some len) (hLc:∀a m c sl rw,lv=.slice a m c sl rw->m<=c) (hn:n=min len 8) (h0L:0<len->p=true/\∃cap sl,lv=.slice (some ⟨0,0,0⟩) len cap sl 4)
  (qY:lenOf tv=some rq) (h0T:0<rq->q=true/\∃cap sl,tv=.slice (some ⟨1,0,0⟩) rq cap sl 1) {W:World} {b1 o1 b2 o2:Nat} {cs1 cs2:Array Value} {e1 e2:TypeId} {z1 z2:Nat × Nat}
  (hw1:p=true->W.heap[b1]?=some (.cells cs1 e1 z1)/\∀i,i<len->cs1[o1+i*4]?=some (.int .u8<|x i)/\cs1[o1+i*4+1]?=some (.int .u8<|z i)/\cs1[o1+i*4+2]?=some (.int .u8<|y i)/\cs1[o1+i*4+3]?=some (.int .u8<|w i))
  (Y8:q=true->W.heap[b2]?=some (.cells cs2 e2 z2)/\∀i,i<rq->cs2[o2+i]?=some (.bool<|b i)) {x1 x2:Value}
  (fe:VR (g7 p q ⟨b1,o1,0,4,some<|.cells cs1 e1 z1⟩ ⟨b2,o2,0,1,some<|.cells cs2 e2 z2⟩) lv x1) (iI:VR (g7 p q ⟨b1,o1,0,4,some<|.cells cs1 e1 z1⟩ ⟨b2,o2,0,1,some<|.cells cs2 e2 z2⟩) tv x2) :
  Calls P f #[x1,x2] W λe w'=>e=.returned (.bool true)/\W.keptBut w' (λ_=>False):=by
 letI:Sg:=sg7 T1 T2 len cap rq x z y w
 have IH:((List.range len).map (four x z y w)).length=len:=by rw[List.length_map,List.length_range]
 have hTl:((List.range rq).map b).length=rq:=by rw[List.length_map,List.length_range]
 have T7:∀i,i<len->((List.range len).map (four x z y w))[i]?=some (four x z y w i):=λi hi=>by rw[List.getElem?_map,List.getElem?_range hi];rfl
 have hTi:∀i,i<rq->(((List.range rq).map b).map λb=>[AV.bool b])[i]?=some [AV.bool (b i)]:=λi hi=>by rw[List.getElem?_map,List.getElem?_map,List.getElem?_range hi];rfl
 obtain⟨H',⟨mm,h1⟩,h2,h3⟩:=acl hl.base hl.says (kX P (hl.rule _) m) hl.func31 hl.body31 hl.nt31 hl.res31 hl.name31 hl.rest31 hl.free31 hl.func hl.body hl.nt hl.res hl.name hl.rest hl.free hk0 hpre hlv lm (L:=(List.range len).map (four x z y w)) (TL:=(List.range rq).map b) (tv:=tv)
  (by rw[IH];exact XV) (λi hi=>by
   rw[IH]at hi
   have g1:=hx i
   have g2:=hz i
   have g3:=hy i
   have g4:=hw i
   have e1:x i=.ofNat (x i).toNat:=(Int.toNat_of_nonneg g1.1).symm
   have e2:z i=.ofNat (z i).toNat:=(Int.toNat_of_nonneg g2.1).symm
   have e3:y i=.ofNat (y i).toNat:=(Int.toNat_of_nonneg g3.1).symm
   have e4:w i=.ofNat (w i).toNat:=(Int.toNat_of_nonneg g4.1).symm
   refine⟨(x i).toNat,(z i).toNat,(y i).toNat,(w i).toNat,by omega,by omega,by omega,by omega,by rw[T7 i hi,<- e1,<- e2,<- e3,<- e4];rfl,λhin=>?_⟩
   rw[show((y i).toNat:Int)=y i from e3.symm]
   show dec ((4*i+2)/1000) (if(4*i+2)%1000=900 then(len:Int)else if(4*i+2)%1000=901 then(cap:Int)else match (4*i+2)%1000%4 with | 0=>x ((4*i+2)%1000/4) | 1=>z ((4*i+2)%1000/4) | 2=>y ((4*i+2)%1000/4) | _=>w<|(4*i+2)%1000/4)=y i
   rw[show(4*i+2)/1000=0 by omega,show(4*i+2)%1000=4*i+2 by omega,if_neg<|by omega,if_neg<|by omega,show(4*i+2)%4=2 by omega,show(4*i+2)/4=i by omega]
   rfl)
  hLc (by rw[IH];exact hn) (by rw[IH];exact h0L) (λ_=>⟨T1,by rw[IH];rfl,λi row hi=>by
   have hlt:i<len:=by
    have:=(List.getElem?_eq_some_iff.1 hi).1
    rw[IH]at this;exact this
   rw[T7 i hlt]at hi
   cases hi
   exact⟨hT1 i hlt,rfl⟩⟩) (by rw[hTl];exact qY) (by rw[hTl];exact h0T) (λ_=>⟨T2,by rw[List.length_map,hTl];rfl,λi row hi=>by
   have hlt:i<rq:=by
    have:=(List.getElem?_eq_some_iff.1 hi).1
    rw[List.length_map,hTl]at this;exact this
   rw[hTi i hlt]at hi
   cases hi
   exact⟨hT2 i hlt,rfl⟩⟩)
 have hHR:HR ⟨λk _=>k<W.heap.size/\(p=true->k≠b1)/\(q=true->k≠b2),λ_=>False⟩ W (g7 p q ⟨b1,o1,0,4,some<|.cells cs1 e1 z1⟩ ⟨b2,o2,0,1,some<|.cells cs2 e2 z2⟩) (H2b p q (Sg.iK 0)<|Sg.iK 1) W:=by
  have only:∀b o,(H2b p q (Sg.iK 0)<|Sg.iK 1).get b=some o->(p=true/\b=0/\o=.rows T1 len 4 true)\/(q=true/\b=1/\o=.rows T2 rq 1 true):=by
   intro b o hb
   rw[abd]at hb
   split at hb
   ·rename_i e
    obtain⟨h,rfl⟩:=kM hb
    exact .inl ⟨h,e,rfl⟩
   ·split at hb
    ·rename_i e
     obtain⟨h,rfl⟩:=kM hb
     exact .inr ⟨h,e,rfl⟩
    ·cases hb
  refine⟨?_,?_,?_,?_,λk _ hk=>⟨hk.1,rfl⟩,Nat.le_refl _,⟨rfl,rfl⟩,λb hb=>hb.elim,λk t h=>h,λb o d hb hw hd=>by rcases only b o hb with⟨_,_,rfl⟩ | ⟨_,_,rfl⟩<;>cases hw⟩
  ·intro b' o hb
   rcases only b' o hb with⟨hp,rfl,rfl⟩|⟨hq,rfl,rfl⟩
   ·subst hp
    obtain⟨hc,hcell⟩:=hw1 rfl
    refine⟨⟨b1,o1,0,4,some<|.cells cs1 e1 z1⟩,rfl,?_⟩
    refine⟨rfl,cs1,e1,z1,hc,hc,trivial,λi row hi ht=>?_⟩
    rw[hT1 i hi]at ht
    cases ht
    refine⟨rfl,λj v hj=>?_⟩
    match j,hj with
    | 0,hj=>cases hj;exact⟨_,(hcell i hi).1,rfl,rfl⟩
    | 1,hj=>cases hj;exact⟨_,(hcell i hi).2.1,rfl,rfl⟩
    | 2,hj=>cases hj;exact⟨_,(hcell i hi).2.2.1,rfl,rfl⟩
    | 3,hj=>cases hj;exact⟨_,(hcell i hi).2.2.2,rfl,rfl⟩
   ·subst hq
    obtain⟨hc,hcell⟩:=Y8 rfl
    refine⟨⟨b2,o2,0,1,some<|.cells cs2 e2 z2⟩,rfl,?_⟩
    refine⟨rfl,cs2,e2,z2,hc,hc,trivial,λi row hi ht=>?_⟩
    rw[hT2 i hi]at ht
    cases ht
    refine⟨rfl,λj v hj=>?_⟩
    match j,hj with
    | 0,hj=>cases hj;exact⟨_,(by show cs2[o2+i*1]?=_;rw[Nat.mul_one];exact hcell i hi),rfl,rfl⟩
  ·intro u u' o o' d d' hb hb' hd hd' he
   rcases only u o hb with⟨hp,rfl,rfl⟩|⟨hq,rfl,rfl⟩<;>rcases only u' o' hb' with⟨CL,rfl,rfl⟩|⟨vw,rfl,rfl⟩
   ·rfl
   ·exfalso
    obtain⟨_,rfl⟩:=kM<|show sq p _=some d from hd
    obtain⟨_,rfl⟩:=kM<|show sq q _=some d' from hd'
    exact(show¬(4=0\/1=0\/4=1) by decide) he.2
   ·exfalso
    obtain⟨_,rfl⟩:=kM<|show sq q _=some d from hd
    obtain⟨_,rfl⟩:=kM<|show sq p _=some d' from hd'
    exact(show¬(1=0\/4=0\/1=4) by decide) he.2
   ·rfl
  ·intro u hb
   have hb:2<=u:=hb
   show(if u=0 then _ else if u=1 then _ else none)=none
   rw[if_neg (by omega),if_neg<|by omega]
  ·intro u o d hb _ hd
   rcases only u o hb with⟨hp,rfl,rfl⟩|⟨hq,rfl,rfl⟩
   ·obtain⟨h,rfl⟩:=kM (show sq p _=some d from hd)
    exactλk=>k.2.1 h rfl
   ·obtain⟨h,rfl⟩:=kM (show sq q _=some d from hd)
    exactλk=>k.2.2 h rfl
 refine callsIn_wide.1<|CallsIn.mono (qO hl.mixed hl.orc hHR (args:=[lv,tv]) (xs:=[x1,x2]) ⟨_,_,fe,⟨_,_,iI,rfl,rfl⟩,rfl⟩ h1).2 ?_
 rintro e w' ⟨u,rfl,g',hle,hv,hh⟩
 have:u=.bool true:=hv
 subst this
 refine⟨rfl,pO (λk hk=>?_) hh.os.1 hh.os.2⟩
 by_cases hkp:p=true/\k=b1
 ·obtain⟨hp,rfl⟩:=hkp
  obtain⟨t,h3,h4⟩:=h2 hp
  obtain⟨d,hd,X8⟩:=hh.obj 0 _ h3
  have:=hle 0 ⟨k,o1,0,4,some<|.cells cs1 e1 z1⟩ (by subst hp;rfl)
  rw[hd]at this
  cases this
  obtain⟨_,_,_,_,_,e2,_⟩:=X8
  have e2:w'.heap[k]?=some (.cells cs1 e1 z1):=e2
  rw[e2,(hw1 hp).1]
 by_cases hkq:q=true/\k=b2
 ·obtain⟨hq,rfl⟩:=hkq
  obtain⟨t,h3,h4⟩:=h3 hq
  obtain⟨d,hd,X8⟩:=hh.obj 1 _ h3
  have:=hle 1 ⟨k,o2,0,1,some<|.cells cs2 e2 z2⟩ (by subst hq;rfl)
  rw[hd]at this
  cases this
  obtain⟨_,_,_,_,_,e2',_⟩:=X8
  have e2':w'.heap[k]?=some (.cells cs2 e2 z2):=e2'
  rw[e2',(Y8 hq).1]
 exact(hh.keep k 0 ⟨hk,λh e=>hkp ⟨h,e⟩,λh e=>hkq ⟨h,e⟩⟩).2
inductive FArg (W:World):Value->Bool->Nat->Prop
 | nil {b:Nat}:FArg W (.slice none 0 0) false b
 | emp {a:Addr} {cap b:Nat}:FArg W (.slice (some a) 0 cap) false b
 | full {b o len cap:Nat} {cs:Array Value} {e:TypeId} {fz:Nat × Nat} {x z y w:Nat->Int} (hx:∀i,0<=x i/\x i<=255) (hz:∀i,0<=z i/\z i<=255) (hy:∀i,0<=y i/\y i<=255) (hw:∀i,0<=w i/\w i<=255) (h0:0<len) (hle:len<=cap) (hmx:len<9223372036854775808) (hc:W.heap[b]?=some (.cells cs e fz))
   (hcell:∀i,i<len->cs[o+i*4]?=some (.int .u8<|x i)/\cs[o+i*4+1]?=some (.int .u8<|z i)/\cs[o+i*4+2]?=some (.int .u8<|y i)/\cs[o+i*4+3]?=some (.int .u8<|w i)):FArg W (.slice (some ⟨b,o,none⟩) len cap) true b
inductive BArg (W:World):Value->Bool->Nat->Prop
 | nil {b:Nat}:BArg W (.slice none 0 0) false b
 | emp {a:Addr} {cap b:Nat}:BArg W (.slice (some a) 0 cap) false b
 | full {b o len cap:Nat} {cs:Array Value} {e:TypeId} {fz:Nat × Nat} {t:Nat->Bool} (h0:0<len) (hc:W.heap[b]?=some (.cells cs e fz)) (hcell:∀i,i<len->cs[o+i]?=some (.bool<|t i)):BArg W (.slice (some ⟨b,o,none⟩) len cap) true b
theorem BArg.ok {W:World}{x2:Value}{q:Bool}{b2:Nat}(h:BArg W x2 q b2):∃(T2:Tr (List AV))(rq:Nat)(b:Nat->Bool)(tv:AV)(o2:Nat)(cs2:Array Value)(e2:TypeId)(z2:Nat × Nat),(∀i,i<rq->T2.get i=some [.bool (b i)])/\lenOf tv=some rq/\(0<rq->q=true/\∃cap sl,tv=.slice (some ⟨1,0,0⟩) rq cap sl 1) /\
  (q=true->W.heap[b2]?=some (.cells cs2 e2 z2)/\∀i,i<rq->cs2[o2+i]?=some (.bool<|b i))/\∀p d1,VR (g7 p q d1 ⟨b2,o2,0,1,some<|.cells cs2 e2 z2⟩) tv x2:=by
 cases h with
 | nil=>exact⟨.lf,0,λ_=>false,.slice none 0 0 false 0,0,#[],0,(0,0),λi h=>absurd h<|Nat.not_lt_zero _,rfl,λh=>absurd h<|Nat.not_lt_zero _,(λh=>nomatch h),λp d1=>⟨rfl,rfl⟩⟩
 | emp=>exact⟨.lf,0,λ_=>false,.empty,0,#[],0,(0,0),λi h=>absurd h<|Nat.not_lt_zero _,rfl,λh=>absurd h<|Nat.not_lt_zero _,(λh=>nomatch h),λp d1=>⟨_,_,rfl⟩⟩
 | @full b o len cap cs e fz t h0 hc hcell=>
  obtain⟨T',qY⟩:=em<|(List.range len).map λi=>[AV.bool (t i)]
  refine⟨T',len,t,.slice (some ⟨1,0,0⟩) len cap false 1,o,cs,e,fz,λi hi=>by rw[cB qY,List.getElem?_map,List.getElem?_range hi];rfl,rfl,λ_=>⟨rfl,cap,false,rfl⟩,λ_=>⟨hc,hcell⟩,λp d1=>⟨_,rfl,λ_=>⟨rfl,rfl⟩,by simp[gX]⟩⟩
theorem abm {T1 T2:Tr (List AV)}{len cap rq:Nat}{x z y w:Nat->Int}{i:Nat}(hi:i<8):(sg7 T1 T2 len cap rq x z y w).num (4*i)=x i/\(sg7 T1 T2 len cap rq x z y w).num (4*i+1)=z i/\(sg7 T1 T2 len cap rq x z y w).num (4*i+2)=y i/\(sg7 T1 T2 len cap rq x z y w).num (4*i+3)=w i:=by
 match i,hi with
 | 0,_=>exact⟨rfl,rfl,rfl,rfl⟩
 | 1,_=>exact⟨rfl,rfl,rfl,rfl⟩
 | 2,_=>exact⟨rfl,rfl,rfl,rfl⟩
 | 3,_=>exact⟨rfl,rfl,rfl,rfl⟩
 | 4,_=>exact⟨rfl,rfl,rfl,rfl⟩
 | 5,_=>exact⟨rfl,rfl,rfl,rfl⟩
 | 6,_=>exact⟨rfl,rfl,rfl,rfl⟩
 | 7,_=>exact⟨rfl,rfl,rfl,rfl⟩
theorem trn7_law (hl:Trn7 P K F T f fn c aaG c31 R m){W:World}{x1 x2:Value}{p q:Bool}{b1 b2:Nat}(h1:FArg W x1 p b1)(h2:BArg W x2 q b2):Calls P f #[x1,x2] W λe w'=>e=.returned (.bool true)/\W.keptBut w' (λ_=>False):=by
 obtain⟨T2,rq,b,tv,o2,cs2,e2,z2,hT2,qY,h0T,Y8,iI⟩:=h2.ok
 have b0:∀i:Nat,0<=(λ_=>0:Nat->Int) i/\(λ_=>0:Nat->Int) i<=255:=λ_=>⟨Int.le_refl 0,(by decide:(0:Int)<=255)⟩
 cases h1 with
 | nil=>exact Mq hl (k:=1) (n:=0) (Nat.le_refl 1) (hl.runN q) (T1:=.lf) (len:=0) (cap:=0) b0 b0 b0 b0 (λi h=>absurd h<|Nat.not_lt_zero _) hT2 (lv:=.slice none 0 0 false 0) (@VA.mkV (sg7 ..) _) (λv a h hv=>@vD (sg7 ..) _ _ _ hv h) rfl (λa m c sl rw h=>by cases h;exact Nat.le_refl _) rfl (λh=>absurd h<|Nat.lt_irrefl 0) qY h0T (b1:=b1) (o1:=0) (cs1:=#[]) (e1:=0) (z1:=(0,0)) (λh=>nomatch h) Y8 ⟨rfl,rfl⟩<|iI _ _
 | emp=>exact Mq hl (k:=1) (n:=0) (Nat.le_refl 1) (hl.runE q) (T1:=.lf) (len:=0) (cap:=0) b0 b0 b0 b0 (λi h=>absurd h<|Nat.not_lt_zero _) hT2 (lv:=.empty) (@VA.mkV (sg7 ..) _) (λv a h hv=>@vD (sg7 ..) _ _ _ hv h) rfl (λa m c sl rw h=>by cases h) rfl (λh=>absurd h<|Nat.lt_irrefl 0) qY h0T (b1:=b1) (o1:=0) (cs1:=#[]) (e1:=0) (z1:=(0,0)) (λh=>nomatch h) Y8 ⟨_,_,rfl⟩<|iI _ _
 | @full _ o len cap cs e fz x z y w hx hz hy hw h0 hle hmx hc hcell=>
  obtain⟨T1,aeq⟩:=em<|(List.range len).map (four x z y w)
  have hT1:∀i,i<len->T1.get i=some (four x z y w i):=λi hi=>by rw[cB aeq,List.getElem?_map,List.getElem?_range hi];rfl
  have fe:∀d2,VR (g7 true q ⟨b1,o,0,4,some<|.cells cs e fz⟩ d2) (.slice (some ⟨0,0,0⟩) len cap false 4) (.slice (some ⟨b1,o,none⟩) len cap):=λd2=>⟨_,rfl,λ_=>⟨rfl,rfl⟩,by simp[gX]⟩
  by_cases h8:len<=8
  ·refine Mq hl (k:=23*len+1) (n:=len) (by omega) (hl.runS q len h0 h8) (cap:=cap) hx hz hy hw hT1 hT2 (lv:=.slice (some ⟨0,0,0⟩) len cap false 4) ?_ (λv a h hv=>@abj (sg7 ..) _ _ _ _ h hv rfl rfl) rfl (λa m c sl rw h=>by cases h;exact hle) (by omega) (λ_=>⟨rfl,cap,false,rfl⟩) qY h0T (λ_=>⟨hc,hcell⟩) Y8 (fe _) (iI _ _)
   exact@VA.fgL (sg7 ..) len len 1 len cap len x z y w T1 hx hz hy hw (.inr rfl) rfl rfl (Nat.le_refl _) (λ_=>rfl) hmx rfl (Nat.le_refl _) (Nat.le_refl _) h8 hT1 λi hi=>abm<|by omega
  ·refine Mq hl (k:=185) (n:=8) (by omega) (hl.runL q) (cap:=cap) hx hz hy hw hT1 hT2 (lv:=.slice (some ⟨0,0,0⟩) len cap false 4) ?_ (λv a h hv=>@abj (sg7 ..) _ _ _ _ h hv rfl rfl) rfl (λa m c sl rw h=>by cases h;exact hle) (by omega) (λ_=>⟨rfl,cap,false,rfl⟩) qY h0T (λ_=>⟨hc,hcell⟩) Y8 (fe _) (iI _ _)
   exact@VA.fgL (sg7 ..) 8 9 0 len cap len x z y w T1 hx hz hy hw (.inl rfl) rfl rfl (by omega) (λh=>nomatch h) hmx rfl (by omega) (by omega) (Nat.le_refl _) (λi hi=>hT1 i<|by omega) λi hi=>abm hi

end
end Go.Ev
