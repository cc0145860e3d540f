/- Walks and rules. Conditions: none. -/
import Derived.Test.YtbgjkfbeofbngaaGreatEvF
import Derived.Test.YtbgjkfbeofbngaaGreatEvB
import Derived.IntWalk
import Derived.Laws.Strings
set_option linter.unusedVariables false
set_option linter.unusedSectionVars false
namespace Go.Ev
structure lO (a b:fP):Prop where
 code:∀{rd nt c e ds H R},a.code rd nt c e ds H=some R->b.code rd nt c e ds H=some R
 call:∀{f args H r},a.call f args H=some r->b.call f args H=some r
theorem lO.refl (a:fP):lO a a:=⟨λh=>h,λh=>h⟩
theorem lO.trans {a b c:fP}(h:lO a b)(h':lO b c):lO a c:=⟨λk=>h'.code (h.code k),λk=>h'.call (h.call k)⟩
theorem eS {α β:Type}{f f':β->α->Option β}(h:∀b a c,f b a=some c->f' b a=some c):∀(l:List α)(b c:β),aw f l b=some c->aw f' l b=some c:=by
 intro l
 induction l with
 | nil=>intro b c h;exact h
 | cons a l ih=>
  intro b c hf
  rw[ah]at hf |-
  grind
section
variable {P:Program}{a b:fP}(hle:lO a b)
include hle
theorem ww {l:Nat}{args:List AV}{H:Heap}{r:AV × Heap}(h:roundOf a l args H=some r):roundOf b l args H=some r:=by
 unfold roundOf at h |-
 split at h
 ·rename_i e nt ps asg body pend D hl
  (try simp only[hl])
  split at h
  ·rename_i e1 Yp
   (try grind)
   split at h
   ·rename_i e2 ds2 H2 hc
    rw[hle.code hc]
    simp only
    split at h
    ·rename_i e' nt' ps' asg' body' pend' D' CG
     (try grind)
     split at h
     ·rename_i x e3 ds3 H3 X9
      rw[hle.code X9]
      exact h
     ·cases h
    ·cases h
   ·cases h
  ·cases h
 ·cases h
theorem BO {fv:AV}{args:List AV}{H:Heap}{r:AV × Heap}(h:callV P a fv args H=some r):callV P b fv args H=some r:=by
 unfold callV at h |-
 split at h
 ·exact hle.call h
 ·exact ww hle h
 ·split at h
  ·split at h
   ·rename_i hm
    (try simp only[hm])
    exact hle.call h
   ·cases h
  ·cases h
 ·cases h
theorem lF {ρ:Operand->Option AV}{op:AOp}{ds:List cD}{H:Heap}{r:OR}(h:oper P a ρ op ds H=some r):oper P b ρ op ds H=some r:=by
 unfold oper at h |-
 split at h
 ·split at h
  ·rename_i fv hf
   split at h
   ·rename_i vs hvs
    split at h
    ·rename_i v H' hc
     simp only[BO hle hc]
     exact h
    ·cases h
   ·cases h
  ·cases h
 ·split at h
  ·rename_i t v hf
   split at h
   ·rename_i f hm
    split at h
    ·rename_i vs hvs
     split at h
     ·rename_i v H' hc
      simp only[hle.call hc]
      exact h
     ·cases h
    ·cases h
   ·cases h
  ·cases h
 ·exact h
theorem AE {rd:Option Nat}{nt:Nat}{ops:Array Oper}{e:Tr AV}{ds:List cD}{H:Heap}{R:CR}(h:runOps P a rd nt ops e ds H=some R):runOps P b rd nt ops e ds H=some R:=by
 unfold runOps at h |-
 refine eS ?_ _ _ _ h
 intro s o c hc
 cases s with
 | mk x e ds H=>
  simp only at hc |-
  split at hc
  ·split at hc
   ·rename_i hop
    rw[lF hle hop]
    exact hc
   ·cases hc
  ·exact hc
  ·cases hc
theorem fH {rd:Option Nat}{ops:Array Oper}{aC:Tr Nat}{s:DS}{d:qr}{s':DS}(h:dstep P a rd ops aC s d=some s'):dstep P b rd ops aC s d=some s':=by
 unfold dstep at h |-
 split at h
 ·cases h
 ·grind
 ·rename_i hw
  (try simp only[hw])
  split at h
  ·grind
  ·grind
  ·rename_i hc
   (try simp only[hc])
   split at h
   ·cases h
   ·rename_i x hx
    (try simp only[hx])
    split at h
    ·cases h
    ·rename_i pend mats H1 d8
     (try grind)
     split at h
     ·rename_i v ds' H' hop
      rw[lF hle hop]
      exact h
     ·cases h
  ·grind
  ·grind
  grind
theorem wA {rd:Option Nat}{nt:Nat}{ops:Array Oper}{e:Tr AV}{ds:List cD}{H:Heap}{R:CR}(h:runDraw P a rd nt ops e ds H=some R):runDraw P b rd nt ops e ds H=some R:=by
 unfold runDraw at h |-
 split at h
 ·cases h
 ·rename_i I hI
  (try simp only[hI])
  split at h
  ·cases h
  ·rename_i s hs
   rw[eS (λ_ _ _=>fH hle) _ _ _ hs]
   exact h
theorem uj {rd:Option Nat}{nt:Nat}{c:Code}{e:Tr AV}{ds:List cD}{H:Heap}{R:CR}(h:stepCode P a rd nt c e ds H=some R):stepCode P b rd nt c e ds H=some R:=by
 cases c with
 | region id ops d=>
  cases d with
  | false=>exact AE (rd:=rd) hle h
  | true=>exact wA hle h
 | seq x y=>
  simp only[stepCode]at h |-
  split at h
  ·rename_i x1 e1 ds1 H1 hx
   rw[hle.code hx]
   simp only
   split at h
   ·exact hle.code h
   ·exact h
  ·cases h
 | cond c x y=>
  simp only[stepCode]at h |-
  split at h
  ·split at h
   ·exact hle.code h
   ·exact hle.code h
  ·cases h
 | block id x=>
  simp only[stepCode]at h |-
  split at h
  ·rename_i x1 e1 ds1 H1 hx
   rw[hle.code hx]
   exact h
  ·cases h
 | loop x=>
  simp only[stepCode]at h |-
  split at h
  ·rename_i x1 e1 ds1 H1 hx
   rw[hle.code hx]
   simp only
   split at h
   ·exact hle.code h
   ·exact h
  ·cases h
 | rangeFunc gx ps asg body=>
  simp only[stepCode]at h |-
  split at h
  ·rename_i f first cap hg
   split at h
   ·rename_i D H1 ds1 hD
    split at h
    ·rename_i u H3 hc
     simp only[hle.call hc]
     exact h
    ·cases h
   ·cases h
  ·cases h
 | _=>exact h
omit hle in
theorem rX:∀{ds:List cD}{H H':Heap},runDefers a ds H=some H'->runDefers b ds H=some H':=by
 intro ds
 induction ds with
 | nil=>intro H H' h;exact h
 | cons m ds ih=>
  intro H H' h
  cases m with
  | mark D=>
   simp only[runDefers]at h |-
   split at h
   ·exact ih h
   ·cases h
theorem ui {f:FuncId}{args:List AV}{H:Heap}{r:AV × Heap}(h:stepCall P a f args H=some r):stepCall P b f args H=some r:=by
 unfold stepCall at h |-
 split at h
 ·split at h
  ·split at h
   ·cases h
   ·split at h
    ·cases h
    ·split at h
     ·rename_i x e ds H1 hc
      rw[hle.code hc]
      simp only
      split at h
      ·cases h
      ·split at h
       ·rename_i H2 hd
        rw[rX hd]
        exact h
       ·cases h
     ·cases h
  ·cases h
 ·cases h
theorem C7 {K:Orc}{f:FuncId}{args:List AV}{H:Heap}{r:AV × Heap}(h:knownCall K f args H (stepCall P a f args H)=some r):knownCall K f args H (stepCall P b f args H)=some r:=by
 unfold knownCall at h |-
 split at h
 ·exact h
 ·exact ui hle h
theorem zj {K:Orc}:lO (qN P K a) (qN P K b):=⟨λh=>uj hle h,λh=>C7 hle h⟩
end
theorem vd (P:Program)(K:Orc):∀n,lO (ev P K n) (ev P K (n+1)):=by
 intro n
 induction n with
 | zero=>rw[xw K];exact⟨(λh=>by cases h),(λh=>by cases h)⟩
 | succ n ih=>rw[qP K,qP K<|n+1];exact zj ih
theorem eP (P:Program)(K:Orc){n m:Nat}(h:n<=m):lO (ev P K n) (ev P K m):=by
 induction m with
 | zero=>
  have:n=0:=by omega
  subst this;exact lO.refl _
 | succ m ih=>
  by_cases he:n=m+1
  ·subst he;exact lO.refl _
  ·exact(ih<|by omega).trans (vd P K m)
end Go.Ev
namespace Go.Ev
def sel4 {α:Type}(d:Nat)(t:T4 α):α:=match d with | 0=>t.a | 1=>t.b | 2=>t.c | _=>t.d
def rR {α:Type}(d:Nat)(v:α)(t:T4 α):T4 α:=match d with | 0=>⟨v,t.b,t.c,t.d⟩ | 1=>⟨t.a,v,t.c,t.d⟩ | 2=>⟨t.a,t.b,v,t.d⟩ | _=>⟨t.a,t.b,t.c,v⟩
theorem cy {α:Type}{d:Nat}(v:α)(t:T4 α):sel4 d (rR d v t)=v:=by
 match d with
 | 0=>rfl
 | 1=>rfl
 | 2=>rfl
 | _+3=>rfl
theorem df {α:Type}{d e:Nat}(hd:d<4)(he:e<4)(h:d≠e)(v:α)(t:T4 α):sel4 e (rR d v t)=sel4 e t:=by
 have h1:d=0\/d=1\/d=2\/d=3:=by omega
 have h2:e=0\/e=1\/e=2\/e=3:=by omega
 rcases h1 with rfl|rfl|rfl|rfl<;>rcases h2 with rfl|rfl|rfl|rfl<;>first|rfl|grind
def cX {α:Type}(n:Nat)(t:az α):α:=sel4 (n%4) (sel4 (n/4%4) (sel4 (n/16%4) t))
def eu {α:Type}(n:Nat)(v:α)(t:az α):az α:=
 rR (n/16%4) (rR (n/4%4) (rR (n%4) v<|sel4 (n/4%4)<|sel4 (n/16%4) t)<|sel4 (n/16%4) t) t
theorem abW (n:Nat)(α:Type):(∀t:T4 α,(lnK n).g α t=sel4 (n%4) t)/\(∀(v:α)(t:T4 α),(lnK n).p α v t=rR (n%4) v t):=by
 have h3:n%4=0\/n%4=1\/n%4=2\/n%4=3:=by omega
 have e3:Nat.mod n 4=n%4:=rfl
 unfold lnK
 rw[e3]
 rcases h3 with h3|h3|h3|h3<;>rw[h3]<;>exact⟨λ_=>rfl,λ_ _=>rfl⟩
theorem afL (n:Nat):(lnK n).g=λ_ t=>sel4 (n%4) t:=funext λα=>funext (abW n α).1
theorem afM (n:Nat):(lnK n).p=λ_ v t=>rR (n%4) v t:=funext λα=>funext λv=>funext ((abW n α).2 v)
theorem GH (n:Nat)(α:Type):(∀t:az α,(yC n).g α t=cX n t)/\(∀(v:α)(t:az α),(yC n).p α v t=eu n v t):=by
 unfold yC abD
 simp only[afL,afM]
 exact⟨λ_=>rfl,λ_ _=>rfl⟩
theorem kS {α:Type}{i j:Nat}(hi:i<64)(hj:j<64)(v:α)(t:az α):cX j (eu i v t)=if i=j then v else cX j t:=by
 unfold cX eu
 by_cases h:i=j
 ·subst h
  rw[if_pos rfl,cy,cy,cy]
 ·rw[if_neg h]
  by_cases h1:i/16%4=j/16%4
  ·rw[h1,cy]
   by_cases h2:i/4%4=j/4%4
   ·rw[h2,cy,df (by omega) (by omega)<|by omega]
   ·rw[df (by omega) (by omega) h2]
  ·rw[df (by omega) (by omega) h1]
theorem iQ {α:Type}(n:Nat)(t:az α):cX (n%64) t=cX n t:=by
 unfold cX
 grind
theorem mr {α:Type}(n:Nat)(v:α)(t:az α):eu (n%64) v t=eu n v t:=by
 unfold eu
 grind
theorem dF (n:Nat)(α:Type):(∀t:az α,(dE n).g α t=cX n t)/\(∀(v:α)(t:az α),(dE n).p α v t=eu n v t):=by
 have h:dE n=Vc (n%64):=by
  unfold dE
  show Nat.rec (motive:=λ_=>Acc) (Vc 0) (λm _=>Vc<|Nat.succ m) (n%64)=_
  cases n%64<;>rfl
 obtain⟨h1,h2⟩:=GH (n%64) α
 rw[h]
 exact⟨λt=>(h1 t).trans (iQ n t),λv t=>(h2 v t).trans (mr n v t)⟩
def sD {α:Type}(n:Nat)(t:Le α):α:=sel4 (n%4) (sel4 (n/4%4) t)
def ue {α:Type}(n:Nat)(v:α)(t:Le α):Le α:=rR (n/4%4) (rR (n%4) v (sel4 (n/4%4) t)) t
theorem Bw {α:Type}{i j:Nat}(hi:i<16)(hj:j<16)(v:α)(t:Le α):sD j (ue i v t)=if i=j then v else sD j t:=by
 unfold sD ue
 by_cases h:i=j
 ·subst h
  rw[if_pos rfl,cy,cy]
 ·rw[if_neg h]
  by_cases h2:i/4%4=j/4%4
  ·rw[h2,cy,df (by omega) (by omega)<|by omega]
  ·rw[df (by omega) (by omega) h2]
def atR {α:Type}(i:Nat)(t:R α):α:=if i<4 then sel4 (i%4) t.a else if i<20 then sD (i-4) t.b else if i<84 then cX (i-20) t.c else cX (i-84) (cX ((i-84)/64) t.d)
def FK {α:Type}(i:Nat)(v:α)(t:R α):R α:=
 if i<4 then⟨rR (i%4) v t.a,t.b,t.c,t.d⟩else if i<20 then⟨t.a,ue (i-4) v t.b,t.c,t.d⟩else if i<84 then⟨t.a,t.b,eu (i-20) v t.c,t.d⟩
 else⟨t.a,t.b,t.c,eu ((i-84)/64) (eu (i-84) v<|cX ((i-84)/64) t.d) t.d⟩
theorem JB (n:Nat)(α:Type):(∀t:R α,(agx (lnK n)).g α t=sel4 (n%4) t.a)/\(∀(v:α)(t:R α),(agx (lnK n)).p α v t=⟨rR (n%4) v t.a,t.b,t.c,t.d⟩):=
 ⟨λt=>(abW n α).1 t.a,λv t=>congrArg (R.mk · t.b t.c t.d)<|(abW n α).2 v t.a⟩
theorem JD (n:Nat)(α:Type):(∀t:R α,(ae5 (abD T4 (lnK (n/4)) (lnK n))).g α t=sD n t.b)/\(∀(v:α)(t:R α),(ae5 (abD T4 (lnK (n/4)) (lnK n))).p α v t=⟨t.a,ue n v t.b,t.c,t.d⟩):=by
 unfold ae5 abD
 simp only[afL,afM]
 exact⟨λ_=>rfl,λ_ _=>rfl⟩
theorem JF (n:Nat)(α:Type):(∀t:R α,(agy (yC n)).g α t=cX n t.c)/\(∀(v:α)(t:R α),(agy (yC n)).p α v t=⟨t.a,t.b,eu n v t.c,t.d⟩):=
 ⟨λt=>(GH n α).1 t.c,λv t=>congrArg (R.mk t.a t.b · t.d)<|(GH n α).2 v t.c⟩
theorem JG (n:Nat)(α:Type):(∀t:R α,(agz (abD az (dE (n/64)) (dE n))).g α t=cX n (cX (n/64) t.d))/\(∀(v:α)(t:R α),(agz (abD az (dE (n/64)) (dE n))).p α v t=⟨t.a,t.b,t.c,eu (n/64) (eu n v (cX (n/64) t.d)) t.d⟩):=by
 refine⟨λt=>?_,λv t=>?_⟩
 ·show(dE n).g α ((dE<|n/64).g (az α) t.d)=_
  rw[(dF n α).1,(dF (n/64)<|az α).1]
 ·show R.mk t.a t.b t.c ((dE<|n/64).p (az α) ((dE n).p α v ((dE<|n/64).g (az α) t.d)) t.d)=_
  rw[(dF (n/64)<|az α).2,(dF n α).2,(dF (n/64)<|az α).1]
theorem dr (n:Nat)(α:Type):(∀t:R α,(da n).g α t=atR n t)/\(∀(v:α)(t:R α),(da n).p α v t=FK n v t):=by
 have hb:∀m,Nat.blt n m=decide (n<m):=λm=>by
  cases h:Nat.blt n m with
  | true=>
   have:n<m:=Nat.le_of_ble_eq_true h
   simp[this]
  | false=>
   have:¬n<m:=λhlt=>by
    have:Nat.blt n m=true:=Nat.ble_eq_true_of_le hlt
    grind
   simp[this]
 unfold da atR FK
 rw[hb 4,hb 20,hb 84]
 by_cases h1:n<4
 ·simp only[h1,decide_true,if_true];exact JB n α
 ·by_cases h2:n<20
  ·simp only[h1,h2,decide_true,decide_false,if_true,if_false];exact JD (n-4) α
  ·by_cases h3:n<84
   ·simp only[h1,h2,h3,decide_true,decide_false,if_true,if_false];exact JF (n-20) α
   ·simp only[h1,h2,h3,decide_false,if_false];exact JG (n-84) α
theorem dV {α:Type}{i j:Nat}(hi:i<4180)(hj:j<4180)(v:α)(t:R α):atR j (FK i v t)=if i=j then v else atR j t:=by
 unfold atR FK
 by_cases a1:i<4
 ·by_cases b1:j<4
  ·simp only[a1,b1,if_true]
   by_cases h:i=j
   ·subst h;rw[if_pos rfl,cy]
   ·rw[if_neg h,df (by omega) (by omega)<|by omega]
  ·simp only[a1,b1,if_true,if_false];rw[if_neg (show¬i=j by omega)]
 ·by_cases a2:i<20
  ·simp only[a1,a2,if_true,if_false]
   by_cases b1:j<4
   ·simp only[b1,if_true];rw[if_neg (show¬i=j by omega)]
   ·by_cases b2:j<20
    ·simp only[b1,b2,if_true,if_false]
     rw[Bw (by omega) (by omega)]
     by_cases h:i=j
     ·rw[if_pos h,if_pos<|by omega]
     ·rw[if_neg h,if_neg<|by omega]
    ·simp only[b1,b2,if_false];rw[if_neg (show¬i=j by omega)]
  ·by_cases a3:i<84
   ·simp only[a1,a2,a3,if_true,if_false]
    by_cases b2:j<20
    ·rw[if_neg (show¬i=j by omega)]
     by_cases b1:j<4<;>simp only[b1,b2,if_true,if_false]
    ·have b1:¬j<4:=by omega
     by_cases b3:j<84
     ·simp only[b1,b2,b3,if_true,if_false]
      rw[kS (by omega) (by omega)]
      by_cases h:i=j
      ·rw[if_pos h,if_pos<|by omega]
      ·rw[if_neg h,if_neg<|by omega]
     ·simp only[b1,b2,b3,if_false];rw[if_neg (show¬i=j by omega)]
   ·simp only[a1,a2,a3,if_false]
    by_cases b3:j<84
    ·rw[if_neg (show¬i=j by omega)]
     by_cases b1:j<4<;>by_cases b2:j<20<;>simp only[b1,b2,b3,if_true,if_false]
    ·have b1:¬j<4:=by omega
     have b2:¬j<20:=by omega
     simp only[b1,b2,b3,if_false]
     rw[kS (by omega) (by omega)]
     by_cases hd:(i-84)/64=(j-84)/64
     ·rw[if_pos hd,<- iQ (j-84),<- mr (i-84),kS (by omega)<|by omega,iQ,hd]
      by_cases h:i=j
      ·rw[if_pos h,if_pos<|by omega]
      ·rw[if_neg h,if_neg<|by omega]
     ·rw[if_neg hd,if_neg<|by omega]
theorem eX {α:Type}(i:Nat)(t:R α):rg i t=atR i t:=(dr i α).1 t
theorem jN {α:Type}(i:Nat)(v:α)(t:R α):jh i v t=FK i v t:=(dr i α).2 v t
end Go.Ev
namespace Go.Ev
def kindOf (f:Nat):IntKind:=match f with | 0=>.i64 | _=>.u8
class Sg where
 num:Nat->Int
 law:∀i c,i<1000->num (i+1000*c)=dec c (num i)
 val:Nat->AV
 iK:Nat->bv
variable [Sg]
noncomputable def ed (v:V):Int:=(match v.c with | 0=>Sg.num v.a | _=>-(Sg.num v.a))+((v.b:Int)-ae)
def oslA (f sz n:Nat):AV:=match n with | 0=>.slice none 0 0 false 0 | n+1=>.slice (some ⟨f,0,0⟩) (n+1) (n+1) true sz
inductive VA:V->AV->Prop
 | gen {v:V} (h:v.t=0) (h1:v.x.one=true):VA v v.x
 | int {v:V} (h:v.t=1) (h1:v.a<9223372036854775808):VA v (.int .i64<|eZ v.a)
 | tt {v:V} (h:v.t=2):VA v (.bool true)
 | ff {v:V} (h:v.t=3):VA v (.bool false)
 | ptr {v:V} (h:v.t=4) (hb:v.c<262144):VA v (.ptr<|some ⟨v.c,v.b,v.a⟩)
 | slice {v:V} (h:v.t=5) (hb:v.f<262144):VA v (.slice (some ⟨v.f,v.e,v.d⟩) v.c v.b (Nat.beq (v.a%2) 1)<|v.a/2)
 | nil {v:V} (h:v.t=6):VA v (.ptr none)
 | map {v:V} (h:v.t=7) (hb:v.a<262144):VA v (.map<|some v.a)
 | fn {v:V} {r:R V} {xs ys:List AV} (h:v.t=8) (hr:v.r=[r]) (hx:xs.length=v.c) (hy:ys.length=v.b) (hl:v.c+v.b<=4180) (h1:∀i(hi:i<v.c),VA (atR i r)<|xs[i]'(hx▸hi))
   (h2:∀i(hi:i<v.b),VA (atR (v.c+i) r)<|ys[i]'(hy▸hi)):VA v (.func v.a xs ys)
 | agg {v:V} {r:R V} {cs:List AV} (h:v.t=9) (hr:v.r=[r]) (hc:cs.length=v.b) (hl:v.a+v.b<=4180) (h1:∀i(hi:i<v.b),VA (atR (v.a+i) r)<|cs[i]'(hc▸hi)):VA v (.agg cs)
 | Sq {v:V} {r:R V} {cs:List AV} (h:v.t=10) (hr:v.r=[r]) (hc:cs.length=v.b) (hl:v.b<=4180) (h1:∀i(hi:i<v.b),VA (atR i r)<|cs[i]'(hc▸hi)):VA v (.tuple cs)
 | Df {v:V} (h:v.t=11) (h1:v.x.one=false):VA v v.x
 | sym {v:V} (h:v.t=12) (hl:(v.d:Int)-2*ae<=ed v) (hh:ed v<=(v.e:Int)-2*ae) (he:v.e<18446744073709551616)
   (hx:∀n,AV.int .i64 n∈zk v.x->n≠ed v)
   (hr:∀m lo hi,qg v.x=some (m,lo,hi)->(lo:Int)<=ed v%(m:Int)/\ed v%(m:Int)<=hi):VA v (.int (kindOf v.f)<|ed v)
 | bits {v:V} (h:v.t=14) (n:Nat) (hn:Sg.num v.a=(n:Int)) (hs:n<256) (he:Nat.land n v.d=v.e) (hb:v.b<256):VA v (.int (kindOf v.f) ((Nat.land n v.b:Nat):Int))
 | te {v:V} {r:R V} (h:v.t=15) (hr:v.r=[r]) (hb:v.f<262144) (n cap:Nat) (hn:Sg.num v.a=(n:Int)) (hc:Sg.num (v.a+1)=(cap:Int)) (hlo:v.b<=n) (hhi:v.e%2=1->n=v.b) (pj:n<9223372036854775808)
   (T:Tr (List AV)) (N:Nat) (hB:Sg.iK v.d=.rows T N (v.e/2) true) (hk:v.c<=N) (hkn:v.c<=n) (cs:Nat->List AV) (hT:∀i,i<v.c->T.get i=some (cs i)) (hrow:∀i,i<v.c->(cs i).length=v.e/2)
   (hl:v.c*(v.e/2)<=4180) (hv:∀i(hi:i<v.c)j(hj:j<(cs i).length),VA (atR (i*(v.e/2)+j) r) (cs i)[j]):VA v (.slice (some ⟨v.f,0,0⟩) n cap false<|v.e/2)
 | pf {v:V} {r:R V} (h:v.t=16) (hr:v.r=[r]) (hb:v.c<262144) (T:Tr (List AV)) (N:Nat) (hB:Sg.iK v.d=.rows T N v.f true) (he:v.e<N) (row:List AV) (hT:T.get v.e=some row) (hrow:row.length=v.f)
   (hl:v.a+v.f<=4180) (hv:∀i(hi:i<row.length),VA (atR (v.a+i) r) row[i]):VA v (.ptr<|some ⟨v.c,v.e,v.b⟩)
 | oH {v:V} (h:v.t=17) (hb:v.f<262144) (n:Nat) (hn:Sg.num v.a=(n:Int)) (hlo:v.c<=n) (hhi:n<=v.d) (pj:v.d<900000) (UE:v.b<=1000):VA v (oslA v.f v.e<|n+v.b)
 | DM {v:V} (h:v.t=13) (h1:(Sg.val v.a).one=true) (h2:∀b,Sg.val v.a≠.bool b) (h3:∀n,sameN (n+1) (Sg.val v.a) (Sg.val v.a)=true):VA v (Sg.val v.a)
theorem uW (r:R V):∀(n o i:Nat),(bJ r n o)[i]?=if i<n then some (atR (o+i) r)else none:=by
 intro n
 induction n with
 | zero=>intro o i;rfl
 | succ n ih=>
  intro o i
  have e:bJ r (n+1) o=rg o r::bJ r n (o+1):=rfl
  rw[e,eX]
  grind
theorem o0 (r:R V):∀(n o:Nat),(bJ r n o).length=n:=by
 intro n
 induction n with
 | zero=>intro o;rfl
 | succ n ih=>
  intro o;have e:bJ r (n+1) o=rg o r::bJ r n (o+1):=rfl
  grind
theorem avN_ok:∀(n:Nat){v:V}{a b:AV},VA v a->Kq n v=some b->a=b:=by
 intro n
 induction n with
 | zero=>intro v a b h hb;cases hb
 | succ n ih=>
  intro v a b h hb
  have e:Kq (n+1) v=(match v.t with
   | 0=>some v.x
   | 1=>some<|.int .i64<|eZ v.a
   | 2=>some<|.bool true
   | 3=>some<|.bool false
   | 4=>some<|.ptr<|some ⟨v.c,v.b,v.a⟩
   | 5=>some<|.slice (some ⟨v.f,v.e,v.d⟩) v.c v.b (Nat.beq (Nat.mod v.a 2) 1)<|Nat.div v.a 2
   | 6=>some<|.ptr none
   | 7=>some<|.map<|some v.a
   | 8=>match v.r with
    | [r]=>match aI (Kq n) (bJ r v.c 0),aI (Kq n) (bJ r v.b v.c) with
     | some x,some y=>some<|.func v.a x y
     | _,_=>none
    | _=>none
   | 9=>match v.r with
    | [r]=>match aI (Kq n) (bJ r v.b v.a)with | some x=>some (.agg x) | none=>none
    | _=>none
   | 10=>match v.r with
    | [r]=>match aI (Kq n) (bJ r v.b 0)with | some x=>some (.tuple x) | none=>none
    | _=>none
   | 11=>some v.x
   | _=>none):=rfl
  rw[e]at hb
  have bX:∀{r:R V}{cs xs:List AV}{k o:Nat},cs.length=k->(∀i(hi:i<k)(hc:i<cs.length),VA (atR (o+i) r) cs[i])->aI (Kq n) (bJ r k o)=some xs->cs=xs:=by
   intro r cs xs k o hk h1 hm
   obtain⟨hl,hg⟩:=gJ hm
   rw[o0]at hl
   refine List.ext_getElem (by rw[hk,hl])<|λi h3 h4=>?_
   have hi:i<k:=by omega
   obtain⟨y,vy,Qb⟩:=hg i (atR (o+i) r)<|by rw[uW,if_pos hi]
   grind
  cases h with
  | gen k k1=>rw[k]at hb;cases hb;rfl
  | int k k1=>rw[k]at hb;cases hb;rfl
  | tt k=>rw[k]at hb;cases hb;rfl
  | ff k=>rw[k]at hb;cases hb;rfl
  | ptr k kb=>rw[k]at hb;cases hb;rfl
  | slice k kb=>rw[k]at hb;cases hb;rfl
  | nil k=>rw[k]at hb;cases hb;rfl
  | map k kb=>rw[k]at hb;cases hb;rfl
  | Df k k1=>rw[k]at hb;cases hb;rfl
  | sym k _ _ _ _ _=>rw[k]at hb;cases hb
  | bits k _ _ _ _ _=>rw[k]at hb;cases hb
  | te k _ _ _ _ _ _ _ _ _ _ _ _ _ _ _ _ _ _ _=>rw[k]at hb;cases hb
  | pf k _ _ _ _ _ _ _ _ _ _ _=>rw[k]at hb;cases hb
  | DM k k1 k2 k3=>rw[k]at hb;cases hb
  | oH k _ _ _ _ _ _ _=>rw[k]at hb;cases hb
  | fn k kr kx ky kl k1 k2=>
   rw[k]at hb
   simp only[kr]at hb
   split at hb
   ·rename_i x y hx hy
    cases hb
    rw[bX kx (λi hi hc=>by rw[Nat.zero_add];exact k1 i hi) hx,bX ky (λi hi hc=>k2 i hi) hy]
   ·cases hb
  | agg k kr kc kl k1=>
   rw[k]at hb
   simp only[kr]at hb
   split at hb
   ·rename_i x hx
    cases hb
    rw[bX kc (λi hi hc=>k1 i hi) hx]
   ·cases hb
  | Sq k kr kc kl k1=>
   rw[k]at hb
   simp only[kr]at hb
   split at hb
   ·rename_i x hx
    cases hb
    rw[bX kc (λi hi hc=>by rw[Nat.zero_add];exact k1 i hi) hx]
   ·cases hb
theorem eM {v:V}{a b:AV}(h:VA v a)(hb:av v=some b):a=b:=avN_ok 6 h hb
end Go.Ev
namespace Go.Ev
variable [Sg]
theorem nC:∀(vs:List V)(o:Nat)(r:R V)(i:Nat),o+vs.length<=4180->i<4180->atR i (Ba vs o r)=if h:o<=i/\i-o<vs.length then vs[i-o]'h.2 else atR i r:=by
 intro vs
 induction vs with
 | nil=>intro o r i _ _;rw[dif_neg (by simp)];rfl
 | cons v vs ih=>
  intro o r i h1 h2
  have e:Ba (v::vs) o r=Ba vs (o+1) (jh o v r):=rfl
  simp only[List.length_cons]at h1
  rw[e,ih (o+1) _ i (by omega) h2,jN,dV (by omega) h2]
  by_cases hi:o=i
  ·grind
  grind
theorem f9:∀(n:Nat)(src:R V)(i o:Nat)(r:R V)(j:Nat),o+n<=4180->j<4180->atR j (uy src n i o r)=if o<=j/\j<o+n then atR (i+(j-o)) src else atR j r:=by
 intro n
 induction n with
 | zero=>intro src i o r j _ _;rw[if_neg (by omega)];rfl
 | succ n ih=>
  intro src i o r j h1 h2
  have e:uy src (n+1) i o r=uy src n (i+1) (o+1) (jh o (rg i src) r):=rfl
  rw[e,ih src (i+1) (o+1) _ j (by omega) h2,jN,dV (by omega) h2,eX]
  grind
end Go.Ev
namespace Go.Ev
variable [Sg]
theorem VA.bool (b:Bool):VA (vB b) (.bool b):=by cases b<;>first | exact .ff rfl | exact .tt rfl
noncomputable def wV (B a:Nat):Int:=Bool.rec (motive:=λ_=>Int) (Int.negSucc (Nat.pred (Nat.sub B a))) (Int.ofNat (Nat.sub a B)) (Nat.ble B a)
theorem yx (a:Nat):eZ a=wV ae a:=rfl
theorem uo (B m:Nat):wV B (m+B)=Int.ofNat m:=by
 unfold wV
 have h:Nat.ble B (m+B)=true:=Nat.ble_eq_true_of_le<|by omega
 rw[h]
 grind
theorem yw {B a:Nat}(h:B<=a):wV B a=Int.ofNat (a-B):=by
 have:=uo B<|a-B
 grind
theorem uq {B m:Nat}(h:m<B):wV B (B-(m+1))=Int.negSucc m:=by
 unfold wV
 have h1:Nat.ble B (B-(m+1))=false:=by
  cases hb:Nat.ble B (B-(m+1)) with
  | false=>rfl
  | true=>have:=Nat.le_of_ble_eq_true hb;omega
 rw[h1]
 show Int.negSucc (Nat.pred<|B-(B-(m+1)))=_
 congr 1
 show(B-(B-(m+1)))-1=m
 omega
theorem nB {m:Nat}:eZ (m+ae)=Int.ofNat m:=(yx _).trans (uo ae m)
theorem Kg {m:Nat}(h:m<ae):eZ (ae-(m+1))=Int.negSucc m:=(yx _).trans (uq h)
theorem Ga {a:Nat}(h:ae<=a):eZ a=Int.ofNat (a-ae):=(yx _).trans (yw h)
theorem kV {m:Nat}(h:m<ae):m+ae<9223372036854775808/\ae-(m+1)<9223372036854775808:=by
 have h1:ae=4611686018427387904:=rfl
 grind
theorem VA.mkInt (k:IntKind)(n:Int):VA (mkInt k n) (.int k n):=by
 unfold Go.Ev.mkInt
 split
 ·split
  ·rename_i m
   split
   ·rename_i hb
    have hlt:m<ae:=Nat.le_of_ble_eq_true hb
    have:=VA.int (v:=vI<|Nat.add m ae) rfl (kV hlt).1
    have e:eZ (vI<|Nat.add m ae).a=Int.ofNat m:=nB
    grind
   ·exact .gen (v:=cH _) rfl rfl
  ·rename_i m
   split
   ·rename_i hb
    have hlt:m<ae:=Nat.le_of_ble_eq_true hb
    have:=VA.int (v:=vI<|Nat.sub ae<|Nat.succ m) rfl (kV hlt).2
    have e:eZ (vI<|Nat.sub ae<|Nat.succ m).a=Int.negSucc m:=Kg hlt
    grind
   ·exact .gen (v:=cH _) rfl rfl
 ·exact .gen (v:=cH _) rfl rfl
end Go.Ev
namespace Go.Ev
variable [Sg]
structure fQ (n:Nat)(r:R V)(l:List AV):Prop where
 len:l.length=n
 small:n<=4180
 cell:∀i a,l[i]?=some a->VA (atR i r) a
theorem fQ.get {n:Nat}{r:R V}{l:List AV}(h:fQ n r l){i:Nat}(hi:i<n):∃a,l[i]?=some a/\VA (atR i r) a:=by
 have hl:i<l.length:=h.len▸hi
 exact⟨l[i],List.getElem?_eq_getElem hl,h.cell i _<|List.getElem?_eq_getElem hl⟩
theorem fQ.agg {n:Nat}{r:R V}{l:List AV}(h:fQ n r l)(o k:Nat)(hk:o+k<=n):VA (vAgg r o k) (.agg ((l.drop o).take k)):=by
 have hl:((l.drop o).take k).length=k:=by rw[List.length_take,List.length_drop,h.len];omega
 refine .agg (v:=vAgg r o k) (r:=r) rfl rfl hl ?_ ?_
 ·show o+k<=4180
  have:=h.small;omega
 ·intro i hi
  have hi:i<k:=hi
  refine h.cell (o+i) _ ?_
  grind
theorem VA.A8 {v:V}{a:AV}(h:VA v a)(ht:v.t=9):∃cs r,a=.agg cs/\v.r=[r]/\cs.length=v.b/\v.a+v.b<=4180/\∀i a,cs[i]?=some a->VA (atR (v.a+i) r) a:=by
 cases h with
 | agg h hr hc hl h1=>
  grind
 | _=>simp_all
theorem VA.Zi {v:V}{a:AV}(h:VA v a)(ht:v.t=10):∃cs r,a=.tuple cs/\v.r=[r]/\cs.length=v.b/\v.b<=4180/\∀i a,cs[i]?=some a->VA (atR i r) a:=by
 cases h with
 | Sq h hr hc hl h1=>
  grind
 | _=>simp_all
theorem VA.C0 {v:V}{a:AV}(h:VA v a)(ht:v.t=4):a=.ptr (some ⟨v.c,v.b,v.a⟩)/\v.c<262144:=by
 cases h<;>simp_all
theorem VA.A7 {v:V}{a:AV}(h:VA v a)(ht:v.t=5):a=.slice (some ⟨v.f,v.e,v.d⟩) v.c v.b (Nat.beq (v.a%2) 1) (v.a/2)/\v.f<262144:=by
 cases h<;>simp_all
theorem VA.Qi {v:V}{a:AV}(h:VA v a)(ht:v.t=7):a=.map (some v.a)/\v.a<262144:=by
 cases h<;>simp_all
theorem VA.CZ {v:V}{a:AV}(h:VA v a)(ht:v.t=1):a=.int .i64 (eZ v.a)/\v.a<9223372036854775808:=by
 cases h<;>simp_all
theorem VA.U8 {v:V}{a:AV}(h:VA v a)(ht:v.t=2):a=.bool true:=by
 cases h<;>simp_all
theorem VA.V8 {v:V}{a:AV}(h:VA v a)(ht:v.t=3):a=.bool false:=by
 cases h<;>simp_all
theorem VA.U7 {v:V}{a:AV}(h:VA v a)(ht:v.t=0):a=v.x/\v.x.one=true:=by
 cases h<;>simp_all
theorem VA.Zj {v:V}{a:AV}(h:VA v a)(ht:v.t=8):∃r xs ys,a=.func v.a xs ys/\v.r=[r]/\xs.length=v.c/\ys.length=v.b/\v.c+v.b<=4180/\(∀i x,xs[i]?=some x->VA (atR i r) x)/\(∀i x,ys[i]?=some x->VA (atR (v.c+i) r) x):=by
 cases h with
 | fn h hr hx hy hl h1 h2=>
  grind
 | _=>simp_all
theorem VA.xJ {v:V}{a:AV}(h:VA v a)(ht:v.t=17):∃n:Nat,a=oslA v.f v.e (n+v.b)/\v.f<262144/\Sg.num v.a=(n:Int)/\v.c<=n/\n<=v.d/\v.d<900000/\v.b<=1000:=by
 cases h with
 | oH h hb n hn hlo hhi pj UE=>grind
 | DM h h1 h2 h3=>grind
 | sym h _ _ _ _ _=>grind
 | bits h _ _ _ _ _=>grind
 | te k _ _ _ _ _ _ _ _ _ _ _ _ _ _ _ _ _ _ _=>grind
 | pf k _ _ _ _ _ _ _ _ _ _ _=>grind
 | _=>simp_all
theorem VA.one {v:V}{a:AV}(h:VA v a)(ht:v.t<9):a.one=true:=by
 cases h<;>first | rfl | assumption | grind
theorem VA.pV {r:R V}{o n:Nat}{cs:List AV}(hc:cs.length=n)(hl:o+n<=4180)(h1:∀i a,cs[i]?=some a->VA (atR (o+i) r) a):VA (vAgg r o n) (.agg cs):=
 .agg (v:=vAgg r o n) (r:=r) rfl rfl hc hl λi hi=>h1 i _<|List.getElem?_eq_getElem _
theorem VA.tE {r:R V}{n:Nat}{cs:List AV}(hc:cs.length=n)(hl:n<=4180)(h1:∀i a,cs[i]?=some a->VA (atR i r) a):VA (oU r n) (.tuple cs):=
 .Sq (v:=oU r n) (r:=r) rfl rfl hc hl λi hi=>h1 i _<|List.getElem?_eq_getElem _
theorem VA.Ve {f:Nat}{r:R V}{n m:Nat}{xs ys:List AV}(hx:xs.length=n)(hy:ys.length=m)(hl:n+m<=4180)(h1:∀i a,xs[i]?=some a->VA (atR i r) a)(h2:∀i a,ys[i]?=some a->VA (atR (n+i) r) a):VA (R1 f n m r) (.func f xs ys):=
 .fn (v:=R1 f n m r) (r:=r) rfl rfl hx hy hl (λi hi=>h1 i _<|List.getElem?_eq_getElem _) (λi hi=>h2 i _<|List.getElem?_eq_getElem _)
theorem VA.undef:VA vU .undef:=VA.tE (cs:=[]) rfl (by omega) (λi a h=>by simp at h)
theorem VA.Sm {b r o:Nat}(hb:b<262144):VA (vP b r o) (.ptr (some ⟨b,r,o⟩)):=.ptr (v:=vP b r o) rfl hb
theorem VA.Sn {b r o l c a:Nat}(hb:b<262144):VA (vS b r o l c a) (.slice (some ⟨b,r,o⟩) l c (Nat.beq (a%2) 1) (a/2)):=.slice (v:=vS b r o l c a) rfl hb
theorem VA.mkM {b:Nat}(hb:b<262144):VA (vM b) (.map (some b)):=.map (v:=vM b) rfl hb
theorem VA.eU {x:AV}(h:x.one=true):VA (cH x) x:=.gen (v:=cH x) rfl h
theorem aA {a b:Nat}:Nat.blt a b=true↔a<b:=⟨λh=>Nat.le_of_ble_eq_true h,λh=>Nat.ble_eq_true_of_le h⟩
theorem fB {a b:Nat}:Nat.blt a b=false↔¬a<b:=by
 cases h:Nat.blt a b with
 | true=>simp[aA.1 h]
 | false=>simp only[true_iff];intro hlt;rw[aA.2 hlt]at h;cases h
theorem aj {a b:Nat}:Nat.ble a b=true↔a<=b:=⟨λh=>Nat.le_of_ble_eq_true h,λh=>Nat.ble_eq_true_of_le h⟩
theorem ju {a b:Nat}:Nat.ble a b=false↔¬a<=b:=by
 cases h:Nat.ble a b with
 | true=>simp[aj.1 h]
 | false=>simp only[true_iff];intro hlt;rw[aj.2 hlt]at h;cases h
noncomputable def mT (cs:List AV)(o:Nat)(r:R V):R V:=Ba (cs.map mkV) o r
theorem ny:∀(cs:List AV)(o:Nat)(r:R V),
  (AV.rec_1 (motive_1:=λ_=>V) (motive_2:=λ_=>Nat->R V->R V)
 (λb=>vB b) (λk n=>mkInt k n) (λs=>cH<|.str s) (λp=>Option.rec (motive:=λ_=>V) vN (λp=>Bool.rec (motive:=λ_=>V) (cH<|.ptr<|some p) (vP p.b p.r p.o)<|Nat.blt p.b 262144) p)
 (λp l c s w=>Option.rec (motive:=λ_=>V) (cH<|.slice none l c s w) (λp=>Bool.rec (motive:=λ_=>V) (cH<|.slice (some p) l c s w) (vS p.b p.r p.o l c<|Nat.add (Nat.mul w 2)<|Bool.rec (motive:=λ_=>Nat) 0 1 s)<|Nat.blt p.b 262144) p)
 (cH .empty) (λp=>Option.rec (motive:=λ_=>V) (cH<|.map none) (λp=>Bool.rec (motive:=λ_=>V) (cH<|.map<|some p) (vM p)<|Nat.blt p 262144) p)
 (λf x y ix iy=>Bool.rec (motive:=λ_=>V) (cH<|.func f x y) (R1 f (aK x) (aK y)<|iy (aK x)<|ix 0 cT)<|Nat.ble (Nat.add (aK x)<|aK y) 4180)
 (λn v _=>cH<|.mfunc n v) (λl=>cH<|.yield l) (cH .nilFunc) (λt v _=>cH<|.iface t v) (cH .nilIface)
 (λcs ih=>Bool.rec (motive:=λ_=>V) (mZ<|.agg cs) (vAgg (ih 0 cT) 0<|aK cs)<|Nat.ble (aK cs) 4180)
 (λcs ih=>Bool.rec (motive:=λ_=>V) (mZ<|.tuple cs) (oU (ih 0 cT)<|aK cs)<|Nat.ble (aK cs) 4180)
 (λ_ r=>r) (λ_ _ v ih o r=>ih (Nat.succ o) (jh o v r)) cs) o r=mT cs o r:=by
 intro cs
 induction cs with
 | nil=>intro o r;rfl
 | cons c cs ih=>intro o r;exact ih (o+1)<|jh o (mkV c) r
theorem Ji (cs:List AV):mkV (.agg cs)=Bool.rec (motive:=λ_=>V) (mZ (.agg cs)) (vAgg (mT cs 0 cT) 0 (aK cs)) (Nat.ble (aK cs) 4180):=by
 rw[<- ny];rfl
theorem Jj (cs:List AV):mkV (.tuple cs)=Bool.rec (motive:=λ_=>V) (mZ (.tuple cs)) (oU (mT cs 0 cT) (aK cs)) (Nat.ble (aK cs) 4180):=by
 rw[<- ny];rfl
theorem Dx (f:FuncId)(x y:List AV):mkV (.func f x y)=Bool.rec (motive:=λ_=>V) (cH (.func f x y)) (R1 f (aK x) (aK y) (mT y (aK x) (mT x 0 cT))) (Nat.ble (Nat.add (aK x) (aK y)) 4180):=by
 rw[<- ny,<- ny];rfl
theorem pW {cs:List AV}{o:Nat}{r:R V}{i:Nat}(hl:o+cs.length<=4180)(hi:i<4180):atR i (mT cs o r)=if h:o<=i/\i-o<cs.length then mkV (cs[i-o]'h.2)else atR i r:=by
 unfold mT
 rw[nC _ _ _ _ (by simpa using hl) hi]
 grind
theorem fL {cs:List AV}{o:Nat}{r:R V}(hl:o+cs.length<=4180)(h:∀c∈cs,VA (mkV c) c)(i:Nat)(a:AV)(ha:cs[i]?=some a):VA (atR (o+i) (mT cs o r)) a:=by
 obtain⟨hi,rfl⟩:=List.getElem?_eq_some_iff.1 ha
 rw[pW hl (by omega),dif_pos<|by omega]
 grind
theorem VA.mkV (a:AV):VA (mkV a) a:=by
 refine AV.rec (motive_1:=λa=>VA (Ev.mkV a) a) (motive_2:=λcs=>∀c∈cs,VA (Ev.mkV c) c) ?_ ?_ ?_ ?_ ?_ ?_ ?_ ?_ ?_ ?_ ?_ ?_ ?_ ?_ ?_ ?_ ?_ a
 ·exactλb=>VA.bool b
 ·exactλk n=>VA.mkInt k n
 ·exactλs=>VA.eU rfl
 ·intro p
  cases p with
  | none=>exact .nil (v:=vN) rfl
  | some p=>
   show VA (Bool.rec (motive:=λ_=>V) (cH<|.ptr<|some p) (vP p.b p.r p.o)<|Nat.blt p.b 262144) _
   cases h:Nat.blt p.b 262144 with
   | true=>exact VA.Sm<|aA.1 h
   | false=>exact VA.eU rfl
 ·intro p l c s w
  cases p with
  | none=>exact VA.eU rfl
  | some p=>
   show VA (Bool.rec (motive:=λ_=>V) (cH<|.slice (some p) l c s w) (vS p.b p.r p.o l c<|Nat.add (Nat.mul w 2)<|Bool.rec (motive:=λ_=>Nat) 0 1 s)<|Nat.blt p.b 262144) _
   cases h:Nat.blt p.b 262144 with
   | true=>
    have:=VA.Sn (r:=p.r) (o:=p.o) (l:=l) (c:=c) (a:=w*2+Bool.rec (motive:=λ_=>Nat) 0 1 s)<|aA.1 h
    have e1:(w*2+Bool.rec (motive:=λ_=>Nat) 0 1 s)/2=w:=by cases s<;>(grind)
    have e2:Nat.beq ((w*2+Bool.rec (motive:=λ_=>Nat) 0 1 s)%2) 1=s:=by
     cases s
     ·have:(w*2+Bool.rec (motive:=λ_=>Nat) 0 1 false)%2=0:=by grind
      rw[this];rfl
     simp_all
    rw[e1,e2]at this
    exact this
   | false=>exact VA.eU rfl
 ·exact VA.eU rfl
 ·intro p
  cases p with
  | none=>exact VA.eU rfl
  | some p=>
   show VA (Bool.rec (motive:=λ_=>V) (cH<|.map<|some p) (vM p)<|Nat.blt p 262144) _
   cases h:Nat.blt p 262144 with
   | true=>exact VA.mkM<|aA.1 h
   | false=>exact VA.eU rfl
 ·intro f x y hx hy
  rw[Dx]
  cases h:Nat.ble (Nat.add (aK x)<|aK y) 4180 with
  | false=>exact VA.eU rfl
  | true=>
   have hl:aK x+aK y<=4180:=aj.1 h
   rw[ar,ar]at hl
   refine VA.Ve (ar x).symm (ar y).symm (by rw[ar,ar];exact hl) (λi a ha=>?_) (λi a ha=>?_)
   ·obtain⟨hi,rfl⟩:=List.getElem?_eq_some_iff.1 ha
    rw[ar,pW hl<|by omega,dif_neg<|by omega]
    have:=fL (o:=0) (r:=cT) (by omega) hx i _ ha
    grind
   ·rw[ar]
    exact fL hl hy i a ha
 ·exactλn v _=>VA.eU rfl
 ·exactλl=>VA.eU rfl
 ·exact VA.eU rfl
 ·exactλt v _=>VA.eU rfl
 ·exact VA.eU rfl
 ·intro cs hcs
  rw[Ji]
  cases h:Nat.ble (aK cs) 4180 with
  | false=>exact .Df (v:=mZ _) rfl rfl
  | true=>
   have hl:=aj.1 h
   rw[ar]at hl
   exact VA.pV (ar cs).symm (by rw[ar];omega) (λi a ha=>fL (by omega) hcs i a ha)
 ·intro cs hcs
  rw[Jj]
  cases h:Nat.ble (aK cs) 4180 with
  | false=>exact .Df (v:=mZ _) rfl rfl
  | true=>
   have hl:=aj.1 h
   rw[ar]at hl
   refine VA.tE (ar cs).symm (by rw[ar];omega) (λi a ha=>?_)
   have:=fL (o:=0) (r:=cT) (by omega) hcs i a ha
   grind
 ·grind
 grind
structure ij (nt:Nat)(e:Env)(E:Tr AV):Prop where
 small:nt<=4180
 slot:∀t,t<nt->∃a,E.get t=some a/\VA (atR t e) a
theorem ij.put {nt:Nat}{e:Env}{E:Tr AV}(h:ij nt e E){d:Nat}(hd:d<nt){v:V}{a:AV}(hv:VA v a):ij nt (jh d v e) (E.put d a):=by
 refine⟨h.small,λt ht=>?_⟩
 have:=h.small
 rw[jN,dV (by omega)<|by omega,Tr.aR]
 by_cases hdt:d=t
 ·grind
 ·rw[if_neg hdt,if_neg hdt];exact h.slot t ht
theorem jY {nt:Nat}{e:Env}{E:Tr AV}(h:ij nt e E){d:Option Nat}(hd:∀t,d=some t->t<nt){v:V}{a:AV}(hv:VA v a):ij nt ((fs d).put v e) (putO E d a):=by
 cases d with
 | none=>exact h
 | some d=>exact h.put (hd d rfl) hv
theorem a7 {nt:Nat}{e:Env}{E:Tr AV}(h:ij nt e E){x:Operand}(hx:ez nt x=true):∃a,bL E x=some a/\VA ((fx x).get e) a:=by
 cases x with
 | tmp t=>
  obtain⟨a,h1,h2⟩:=h.slot t<|aA.1 hx
  exact⟨a,h1,by rw[<- eX]at h2;exact h2⟩
 | const v=>
  have:(ofVal v).isSome=true:=hx
  obtain⟨a,ha⟩:=Option.isSome_iff_exists.1 this
  refine⟨a,ha,?_⟩
  show VA (mkV<|(ofVal v).getD .undef) a
  rw[ha]
  exact VA.mkV a
 | global g=>cases hx
 | func f=>
  refine⟨_,rfl,?_⟩
  show VA (mkV<|.func f [] []) _
  exact VA.mkV _
inductive VAs:List V->List AV->Prop
 | nil:VAs [] []
 | cons {v:V} {a:AV} {vs:List V} {as:List AV}:VA v a->VAs vs as->VAs (v::vs) (a::as)
theorem VAs.length {vs:List V}{as:List AV}(h:VAs vs as):vs.length=as.length:=by
 induction h with
 | nil=>rfl
 | cons _ _ ih=>simp[ih]
theorem VAs.append {vs vs':List V}{as as':List AV}(h:VAs vs as)(h':VAs vs' as'):VAs (vs++vs') (as++as'):=by
 induction h with
 | nil=>exact h'
 | cons h _ ih=>exact .cons h ih
theorem VAs.get {vs:List V}{as:List AV}(h:VAs vs as):∀(i:Nat)(a:AV),as[i]?=some a->∃v,vs[i]?=some v/\VA v a:=by
 induction h with
 | nil=>grind
 | cons h _ ih=>
  grind
theorem VAs.cells {r:R V}:∀{as:List AV}{o:Nat},(∀(i:Nat)(a:AV),as[i]?=some a->VA (atR (o+i) r) a)->VAs (bJ r as.length o) as:=by
 intro as
 induction as with
 | nil=>intro o _;exact .nil
 | cons a as ih=>
  intro o h
  have e:bJ r (as.length+1) o=rg o r::bJ r as.length (o+1):=rfl
  refine .cons ?_<|ih λi b hb=>?_
  ·rw[eX];exact h 0 a rfl
  ·have:=h (i+1) b (by simpa using hb)
   grind
theorem VAs.row {vs:List V}{as:List AV}(h:VAs vs as){o:Nat}{r:R V}(hl:o+as.length<=4180)(i:Nat)(a:AV)(ha:as[i]?=some a):VA (atR (o+i) (Ba vs o r)) a:=by
 obtain⟨v,h1,h2⟩:=h.get i a ha
 obtain⟨hi,rfl⟩:=List.getElem?_eq_some_iff.1 h1
 have:=h.length
 rw[nC _ _ _ _ (by omega) (by omega),dif_pos<|by omega]
 grind
theorem lj {nt:Nat}{e:Env}{E:Tr AV}(h:ij nt e E):∀{l:List Operand},gG nt l=true->∃as,aI (bL E) l=some as/\VAs (iG l e) as:=by
 intro l
 induction l with
 | nil=>intro _;exact⟨[],rfl,.nil⟩
 | cons x l ih=>
  intro hl
  obtain⟨h1,h2⟩:=(bR _ _ _).1 hl
  obtain⟨a,ha,hv⟩:=a7 h h1
  obtain⟨as,has,hg⟩:=ih h2
  exact⟨a::as,(aV _ _ _ _).2 ⟨a,as,ha,has,rfl⟩,.cons hv hg⟩
end Go.Ev
namespace Go.Ev
variable [Sg]
theorem a6 (n:Nat)(k:Nat->Bool):j8 n k=k n:=by cases n<;>rfl
theorem au {c y:Bool}(h:af c y false=true):c=true/\y=true:=by
 cases c with
 | true=>exact⟨rfl,h⟩
 | false=>cases h
theorem Qc (y n:Bool):af true y n=y:=rfl
theorem CX (y n:Bool):af false y n=n:=rfl
theorem aW {a b:Bool}(h:aU a b=true):a=true/\b=true:=by
 cases a with
 | true=>exact⟨rfl,h⟩
 | false=>cases h
theorem aY {α:Type}{x:Option α}{f:α->Bool}(h:aE x f=true):∃a,x=some a/\f a=true:=by
 cases x with
 | none=>cases h
 | some a=>exact⟨a,rfl,h⟩
theorem xU {α:Type}{a:α}{f:α->Bool}:c9 [a] f=f a:=rfl
theorem ag {a b:Nat}(h:Nat.beq a b=true):a=b:=Nat.eq_of_beq_eq_true h
theorem kU {a b:Nat}(h:Nat.beq a b=false):a≠b:=Nat.ne_of_beq_eq_false h
theorem bN (a:Nat):Nat.beq a a=true:=Nat.beq_refl a
theorem ia (b:Nat)(h:FH):hget b h=cX b (cX (b/64) (cX (b/4096) h.h)):=by
 show(dE b).g FO ((dE<|b/64).g (az FO) ((dE<|b/4096).g (az<|az FO) h.h))=_
 rw[(dF b FO).1,(dF (b/64)<|az FO).1,(dF (b/4096)<|az<|az FO).1]
theorem P5 (b:Nat)(f:FO->FO)(h:FH):(mf b f h).h =
  eu (b/4096) (eu (b/64) (eu b (f<|hget b h)<|cX (b/64)<|cX (b/4096) h.h)<|cX (b/4096) h.h) h.h:=by
 show(dE<|b/4096).p (az<|az FO) ((dE<|b/64).p (az FO) ((dE b).p FO (f<|hget b h) ((dE<|b/64).g (az FO) ((dE<|b/4096).g (az<|az FO) h.h))) ((dE<|b/4096).g (az<|az FO) h.h)) h.h=_
 rw[(dF (b/4096)<|az<|az FO).2,(dF (b/64)<|az FO).2,(dF b FO).2,(dF (b/64)<|az FO).1,(dF (b/4096)<|az<|az FO).1]
theorem lT {α:Type}(i j:Nat)(v:α)(t:az α):cX j (eu i v t)=if i%64=j%64 then v else cX j t:=by
 rw[<- iQ j,<- mr i,kS (by omega)<|by omega,iQ]
theorem pK {b c:Nat}(hb:b<262144)(hc:c<262144)(f:FO->FO)(h:FH):hget c (mf b f h)=if b=c then f (hget b h)else hget c h:=by
 rw[ia c,P5,lT,ia c h]
 by_cases h1:b/4096%64=c/4096%64
 ·rw[if_pos h1,lT]
  have e1:b/4096=c/4096:=by omega
  by_cases h2:b/64%64=c/64%64
  ·rw[if_pos h2,lT]
   grind
  grind
 grind
theorem jE {b c:Nat}(hb:b<262144)(hc:c<262144)(o:FO)(h:FH):hget c (hput b o h)=if b=c then o else hget c h:=pK hb hc _ h
theorem nl (b n:Nat)(h:FH)(fr:sw):hget b ⟨h.h,n,fr⟩=hget b h:=by rw[ia,ia]
def VN (n:Nat):LoopState->Prop
 | .ready=>n=0
 | .busy=>n=1
 | .done=>n=2
 | _=>False
def Sx (n:Nat):Option AX->Prop
 | none=>n=0
 | some .normal=>False
 | some .ret=>n=1
 | some (.exit i)=>n=i+2
structure gy (o:FO)(x:Option bv):Prop where
 none:o.t≠1->o.n=0
 rows:o.t=1->∃T,x=some (.rows T o.n o.sz false)/\o.n<=4180/\o.sz<=4180/\∀r,r<o.n->∃row,T.get r=some row/\fQ o.sz (atR r o.rs) row
 map:o.t=2->x=some (.map o.m)
 loop:o.t=3->∃E st pend,x=some (.loop E o.lp.nt o.lp.ps o.lp.asg o.lp.body st pend o.lp.D)/\ij o.lp.nt o.lp.e E/\VN o.lp.st st/\Sx o.lp.pend pend/\o.lp.D<262144
 mark:o.t=4->x=some .deferred
 DM:o.t=5->x=some (Sg.iK o.lp.nt)
 ext:o.t=6->∃(n:Nat)(T0:Tr (List AV))(ro:Bool),Sg.num o.lp.pend=(n:Int)/\o.lp.st<=1000/\o.lp.D<=4180/\Sg.iK o.lp.nt=.rows T0 n o.lp.D ro/\(n+o.lp.st≠0->∃T,x=some (.rows T (n+o.lp.st) o.lp.D false)/\(∀i,i<n->T.get i=T0.get i) /\
  ∀i,i<o.lp.st->∃row,T.get (n+i)=some row/\fQ o.lp.D (atR i o.rs) row)
theorem gy.gone {o:FO}(x:Option bv)(h:o.t=0)(hn:o.n=0):gy o x:=
 ⟨λ_=>hn,λk=>absurd (h.symm.trans k)<|by decide,λk=>absurd (h.symm.trans k)<|by decide,λk=>absurd (h.symm.trans k)<|by decide,λk=>absurd (h.symm.trans k)<|by decide,λk=>absurd (h.symm.trans k)<|by decide,λk=>absurd (h.symm.trans k)<|by decide⟩
theorem gy.a9 {o:FO}{x:Option bv}(h:gy o x){r:Nat}(hr:r<o.n):o.t=1:=by
 by_cases h1:o.t=1
 ·exact h1
 ·have:=h.none h1;omega
theorem gy.ow {o:FO}{T:Tr (List AV)}(ht:o.t=1)(hn:o.n<=4180)(hs:o.sz<=4180)(h:∀r,r<o.n->∃row,T.get r=some row/\fQ o.sz (atR r o.rs) row):gy o (some (.rows T o.n o.sz false)):=
 ⟨λk=>absurd ht k,λ_=>⟨T,rfl,hn,hs,h⟩,λk=>absurd (ht.symm.trans k)<|by decide,λk=>absurd (ht.symm.trans k)<|by decide,λk=>absurd (ht.symm.trans k)<|by decide,λk=>absurd (ht.symm.trans k)<|by decide,λk=>absurd (ht.symm.trans k)<|by decide⟩
theorem gy.Vd {o:FO}{x:Option bv}(ht:o.t=6)(hn:o.n=0) (h:∃(n:Nat)(T0:Tr (List AV))(ro:Bool),Sg.num o.lp.pend=(n:Int)/\o.lp.st<=1000/\o.lp.D<=4180/\Sg.iK o.lp.nt=.rows T0 n o.lp.D ro/\(n+o.lp.st≠0->∃T,x=some (.rows T (n+o.lp.st) o.lp.D false)/\(∀i,i<n->T.get i=T0.get i) /\
  ∀i,i<o.lp.st->∃row,T.get (n+i)=some row/\fQ o.lp.D (atR i o.rs) row)):gy o x:=
 ⟨λ_=>hn,λk=>absurd (ht.symm.trans k)<|by decide,λk=>absurd (ht.symm.trans k)<|by decide,λk=>absurd (ht.symm.trans k)<|by decide,λk=>absurd (ht.symm.trans k)<|by decide,λk=>absurd (ht.symm.trans k)<|by decide,λ_=>h⟩
theorem gy.mkMap {o:FO}(ht:o.t=2)(hn:o.n=0):gy o (some (.map o.m)):=
 ⟨λ_=>hn,λk=>absurd (ht.symm.trans k)<|by decide,λ_=>rfl,λk=>absurd (ht.symm.trans k)<|by decide,λk=>absurd (ht.symm.trans k)<|by decide,λk=>absurd (ht.symm.trans k)<|by decide,λk=>absurd (ht.symm.trans k)<|by decide⟩
theorem gy.Ql {o:FO}(ht:o.t=4)(hn:o.n=0):gy o (some .deferred):=
 ⟨λ_=>hn,λk=>absurd (ht.symm.trans k)<|by decide,λk=>absurd (ht.symm.trans k)<|by decide,λk=>absurd (ht.symm.trans k)<|by decide,λ_=>rfl,λk=>absurd (ht.symm.trans k)<|by decide,λk=>absurd (ht.symm.trans k)<|by decide⟩
theorem gy.vW {o:FO}{E:Tr AV}{st:LoopState}{pend:Option AX}(ht:o.t=3)(hn:o.n=0)(he:ij o.lp.nt o.lp.e E)(hs:VN o.lp.st st)(hp:Sx o.lp.pend pend)(hD:o.lp.D<262144) :
  gy o (some<|.loop E o.lp.nt o.lp.ps o.lp.asg o.lp.body st pend o.lp.D):=
 ⟨λ_=>hn,λk=>absurd (ht.symm.trans k)<|by decide,λk=>absurd (ht.symm.trans k)<|by decide,λ_=>⟨E,st,pend,rfl,he,hs,hp,hD⟩,λk=>absurd (ht.symm.trans k)<|by decide,λk=>absurd (ht.symm.trans k)<|by decide,λk=>absurd (ht.symm.trans k)<|by decide⟩
structure cj (h:FH)(H:Heap):Prop where
 next:h.next=H.next
 small:h.next<=262144
 block:∀b,b<262144->gy (hget b h) (H.get b)
theorem cj.put {h:FH}{H:Heap}(hh:cj h H){b:Nat}(hb:b<262144){f:FO->FO}{x:bv}(hx:gy (f (hget b h)) (some x)):cj (mf b f h) (H.put b x):=by
 refine⟨hh.next,hh.small,λc hc=>?_⟩
 rw[pK hb hc,Heap.aR]
 by_cases hbc:b=c
 ·grind
 ·rw[if_neg hbc,if_neg hbc];exact hh.block c hc
theorem cj.hput {h:FH}{H:Heap}(hh:cj h H){b:Nat}(hb:b<262144){o:FO}{x:bv}(hx:gy o (some x)):cj (Ev.hput b o h) (H.put b x):=cj.put (f:=λ_=>o) hh hb hx
theorem cj.del {h:FH}{H:Heap}(hh:cj h H){b:Nat}(hb:b<262144):cj (Ev.hput b l9 h) (H.del b):=by
 refine⟨hh.next,hh.small,λc hc=>?_⟩
 rw[jE hb hc,Heap.gb]
 by_cases hbc:b=c
 ·rw[if_pos hbc,if_pos hbc];exact gy.gone _ rfl rfl
 ·rw[if_neg hbc,if_neg hbc];exact hh.block c hc
theorem cj.frame {h:FH}{H:Heap}(hh:cj h H)(fr:sw):cj ⟨h.h,h.next,fr⟩ H:=⟨hh.next,hh.small,λb hb=>by rw[nl];exact hh.block b hb⟩
theorem cj.new {h:FH}{H:Heap}(hh:cj h H){o:FO}{x:bv}{k:Nat->FH->Bool}(hk:nX h o k=true)(hx:gy o (some x)) :
  ∃h',H.next<262144/\cj h' (H.new x).2/\h'.fr=h.fr/\k H.next h'=true:=by
 unfold nX at hk
 rw[a6]at hk
 obtain⟨h1,h2⟩:=au hk
 have h1:h.next<262144:=aA.1 h1
 have h2:k h.next ⟨(Ev.hput h.next o h).h,h.next+1,h.fr⟩=true:=h2
 refine⟨⟨(Ev.hput h.next o h).h,h.next+1,h.fr⟩,hh.next▸h1,⟨?_,?_,λc hc=>?_⟩,rfl,hh.next▸h2⟩
 ·show h.next+1=H.next+1
  rw[hh.next]
 ·grind
 ·rw[nl,jE h1 hc,Heap.Cl,<- hh.next]
  by_cases hbc:h.next=c
  ·grind
  ·rw[if_neg hbc,if_neg hbc];exact hh.block c hc
theorem RO {α:Type}{n:Nat}{l:List α}(h:n<=l.length):bV n l=some (l.take n):=cK n l h
theorem cj.rows {h:FH}{H:Heap}(hh:cj h H){b r:Nat}(hb:b<262144)(hr:r<(hget b h).n) :
  ∃T row,H.get b=some (.rows T (hget b h).n (hget b h).sz false)/\(hget b h).n<=4180/\(hget b h).sz<=4180/\(hget b h).t=1/\T.get r=some row/\fQ (hget b h).sz (atR r (hget b h).rs) row /\
   ∀r,r<(hget b h).n->∃row,T.get r=some row/\fQ (hget b h).sz (atR r (hget b h).rs) row:=by
 have ho:=hh.block b hb
 have ht:=ho.a9 hr
 obtain⟨T,h1,h2,h3,h4⟩:=ho.rows ht
 grind
theorem cj.read {h:FH}{H:Heap}(hh:cj h H){b r o n:Nat}(hb:b<262144)(hr:r<(hget b h).n)(ho:o+n<=(hget b h).sz) :
  ∃row,H.read ⟨b,r,o⟩ n=some ((row.drop o).take n)/\fQ (hget b h).sz (atR r (hget b h).rs) row:=by
 obtain⟨T,row,h1,h2,h3,h4,h5,h6,_⟩:=hh.rows hb hr
 refine⟨row,?_,h6⟩
 unfold Heap.read
 simp only[h1]
 rw[aA.2 hr]
 simp only[h5]
 rw[cw,RO (by rw[List.length_drop,h6.len];omega)]
theorem fQ.sub {n:Nat}{r:R V}{l:List AV}(h:fQ n r l){o k:Nat}(hk:o+k<=n){r':R V}(h1:∀i,i<k->atR i r'=atR (o+i) r):fQ k r' ((l.drop o).take k):=by
 refine⟨by rw[List.length_take,List.length_drop,h.len];omega,by have:=h.small;omega,λi a ha=>?_⟩
 have hi':i<k:=by grind
 rw[h1 i hi']
 refine h.cell (o+i) a ?_
 grind
theorem xO {row vs:List AV}{o:Nat}(h:o+vs.length<=row.length):fK row o vs=some (row.take o++(vs++row.drop (o+vs.length))):=by
 unfold fK
 rw[RO (by omega)]
 simp only
 rw[ar,cw,RO<|by grind]
 rw[cw,List.drop_drop,aN,aN]
theorem fQ.fK {n:Nat}{r r':R V}{row vs:List AV}{o:Nat}(h:fQ n r row)(ho:o+vs.length<=n)(h1:∀i a,vs[i]?=some a->VA (atR (o+i) r') a)(h2:∀j,j<n->¬(o<=j/\j<o+vs.length)->atR j r'=atR j r) :
  fQ n r' (row.take o++(vs++row.drop (o+vs.length))):=by
 have hl:=h.len
 refine⟨by grind,h.small,λi a ha=>?_⟩
 have hlt:(row.take o).length=o:=by grind
 by_cases c1:i<o
 ·rw[List.getElem?_append_left (by omega),List.getElem?_take,if_pos c1]at ha
  rw[h2 i (by omega) (by omega)]
  exact h.cell i a ha
 ·rw[List.getElem?_append_right (by omega),hlt]at ha
  by_cases c2:i-o<vs.length
  ·grind
  ·rw[List.getElem?_append_right (by omega),List.getElem?_drop,show o+vs.length+(i-o-vs.length)=i by omega]at ha
   obtain⟨hi,_⟩:=List.getElem?_eq_some_iff.1 ha
   rw[h2 i (by omega) (by omega)]
   exact h.cell i a ha
theorem Bv {α:Type}{i j:Nat}(hi:i<4180)(hj:j<4180)(f:α->α)(t:R α):atR j (J0 i f t)=if i=j then f (atR i t)else atR j t:=by
 have:J0 i f t=(da i).p α (f<|(da i).g α t) t:=rfl
 rw[this,(dr i α).1,(dr i α).2,dV hi hj]
theorem cj.write {h:FH}{H:Heap}(hh:cj h H){b r o:Nat}(hb:b<262144)(hr:r<(hget b h).n){vs:List AV}(ho:o+vs.length<=(hget b h).sz){f:R V->R V}
  (h1:∀i a,vs[i]?=some a->VA (atR (o+i)<|f<|atR r (hget b h).rs) a) (h2:∀j,j<(hget b h).sz->¬(o<=j/\j<o+vs.length)->atR j (f<|atR r (hget b h).rs)=atR j (atR r (hget b h).rs)) :
  ∃H',H.write ⟨b,r,o⟩ vs=some H'/\cj (mf b (gu r f) h) H':=by
 obtain⟨T,row,e1,e2,e3,e4,e5,e6,e7⟩:=hh.rows hb hr
 have hrow:fQ (hget b h).sz (f<|atR r (hget b h).rs) (row.take o++(vs++row.drop (o+vs.length))):=e6.fK ho h1 h2
 refine⟨H.put b<|.rows (T.put r<|row.take o++(vs++row.drop (o+vs.length))) (hget b h).n (hget b h).sz false,?_,?_⟩
 ·unfold Heap.write
  simp only[e1]
  rw[aA.2 hr]
  simp only[e5]
  rw[xO (by rw[e6.len];exact ho)]
 ·refine hh.put hb ?_
  refine gy.ow (o:=gu r f<|hget b h) e4 e2 e3 λi hi=>?_
  have hi:i<(hget b h).n:=hi
  show∃row',(T.put r _).get i=some row'/\fQ (hget b h).sz (atR i<|J0 r f (hget b h).rs) row'
  rw[Tr.aR,Bv (by omega)<|by omega]
  by_cases uB:r=i
  ·grind
  grind
inductive RR (sz:Nat):List (R V)->List (List AV)->Prop
 | nil:RR sz [] []
 | cons {r:R V} {l:List AV} {rs:List (R V)} {ls:List (List AV)}:fQ sz r l->RR sz rs ls->RR sz (r::rs) (l::ls)
theorem RR.length {sz:Nat}{rs:List (R V)}{ls:List (List AV)}(h:RR sz rs ls):rs.length=ls.length:=by
 induction h with
 | nil=>rfl
 | cons _ _ ih=>simp[ih]
theorem RR.append {sz:Nat}{rs rs':List (R V)}{ls ls':List (List AV)}(h:RR sz rs ls)(h':RR sz rs' ls'):RR sz (rs++rs') (ls++ls'):=by
 induction h with
 | nil=>exact h'
 | cons h _ ih=>exact .cons h ih
theorem RR.ep {sz:Nat}{r:R V}{l:List AV}(h:fQ sz r l):∀n,RR sz (Ev.ep n r) (Ev.ep n l)
 | 0=>.nil
 | n+1=>.cons h<|RR.ep h n
theorem nV {b r o rw sz i:Nat}{f:Nat->Nat->Bool}(h:mL b r o rw sz i f=true)(h1:1<=sz)(h2:sz<=4180):∃r' o',elemAt ⟨b,r,o⟩ rw sz i=some ⟨b,r',o'⟩/\f r' o'=true:=by
 unfold mL at h
 cases hb:Nat.beq (Nat.add (Nat.mul o 8192) rw) sz with
 | true=>
  rw[hb]at h
  have e:=ag hb
  simp only[Nat.add_eq,Nat.mul_eq]at e
  have ho:o=0:=by omega
  subst ho
  have hrw:rw=sz:=by omega
  subst hrw
  clear hb e
  refine⟨r+i,0,?_,h⟩
  unfold elemAt
  split
  ·omega
  ·rw[bN];rfl
 | false=>
  rw[hb,CX]at h
  obtain⟨h3,h4⟩:=au h
  have:=ag h3
  subst this
  exact⟨r,o+i*sz,rfl,h4⟩
noncomputable def gstep (H:Heap)(p:Pl)(rw sz:Nat)(i:Nat)(acc:List (List AV)):Option (List (List AV)):=
 match elemAt p rw sz i with
 | some q=>match H.read q sz with
  | some c=>some<|c::acc
  | none=>none
 | none=>none
theorem vh (H:Heap)(p:Pl)(rw sz n:Nat):H.gather p rw sz n=match eh (gstep H p rw sz) n 0 []with | some l=>some l.reverse | none=>none:=rfl
theorem vg {h:FH}{H:Heap}(hh:cj h H){b r o rw sz:Nat}(hb:b<262144)(h1:1<=sz)(h2:sz<=4180):∀(n i:Nat)(f:List (R V)->Bool),
  (Nat.rec (motive:=λ_=>Nat->(List (R V)->Bool)->Bool) (λ_ f=>f [])
   (λ_ ih i f=>mL b r o rw sz i λr o=>j8 o λo=>rowAt h b r o sz λrow=>ih (Nat.succ i) λl=>f (Bool.rec (motive:=λ_=>R V) (uy row sz o 0 cT) row (Nat.beq o 0)::l)) n i f:Bool)=true ->
  ∃l ls,RR sz l ls/\l.length=n/\f l=true/\∀acc,eh (gstep H ⟨b,r,o⟩ rw sz) n i acc=some (ls.reverse++acc):=by
 intro n
 induction n with
 | zero=>intro i f hf;exact⟨[],[],.nil,rfl,hf,λacc=>rfl⟩
 | succ n ih=>
  intro i f hf
  obtain⟨r',o',e1,e2⟩:=nV hf h1 h2
  rw[a6]at e2
  unfold rowAt at e2
  rw[a6,a6]at e2
  obtain⟨e3,e4⟩:=au e2
  obtain⟨e5,e6⟩:=aW e3
  have e5:=aA.1 e5
  have e6:o'+sz<=_:=aj.1 e6
  obtain⟨row,tk,hrow⟩:=hh.read hb e5 e6
  obtain⟨l,ls,k1,k2,k3,k4⟩:=ih (i+1) _ e4
  refine⟨_,((row.drop o').take sz)::ls,.cons ?_ k1,by simp[k2],k3,λacc=>?_⟩
  ·cases ho:Nat.beq o' 0 with
   | true=>
    have:=ag ho
    subst this
    exact hrow.sub e6<|λi hi=>by rw[eX,Nat.zero_add]
   | false=>
    refine hrow.sub e6<|λi hi=>?_
    rw[f9 _ _ _ _ _ _ (by omega) (by omega),if_pos<|by omega,eX,Nat.sub_zero]
  ·rw[cZ]
   refine⟨((row.drop o').take sz)::acc,?_,?_⟩
   ·unfold gstep
    grind
   grind
theorem aaa {h:FH}{H:Heap}(hh:cj h H){b r o rw sz n:Nat}{f:List (R V)->Bool}(hb:b<262144)(h1:1<=sz)(h2:sz<=4180)(hf:lh h b r o rw sz n f=true) :
  ∃l ls,RR sz l ls/\l.length=n/\f l=true/\H.gather ⟨b,r,o⟩ rw sz n=some ls:=by
 obtain⟨l,ls,k1,k2,k3,k4⟩:=vg hh hb h1 h2 n 0 f hf
 refine⟨l,ls,k1,k2,k3,?_⟩
 rw[vh,k4]
 simp
noncomputable def sstep (p:Pl)(rw sz:Nat)(s:Heap × Nat)(row:List AV):Option (Heap × Nat):=
 match elemAt p rw sz s.2 with
 | some q=>match s.1.write q row with
  | some H'=>some (H',Nat.succ s.2)
  | none=>none
 | none=>none
theorem ud (H:Heap)(p:Pl)(rw sz i:Nat)(l:List (List AV)):H.scatter p rw sz i l=match aw (sstep p rw sz) l (H,i)with | some s=>some s.1 | none=>none:=rfl
theorem uc {b r o rw sz:Nat}(hb:b<262144)(h1:1<=sz)(h2:sz<=4180){l:List (R V)}{ls:List (List AV)}(hl:RR sz l ls):∀(i:Nat)(h:FH)(H:Heap)(f:FH->Bool),cj h H ->
  (List.rec (motive:=λ_=>Nat->FH->(FH->Bool)->Bool) (λ_ h f=>f h)
   (λrow _ ih i h f=>mL b r o rw sz i λr o=>j8 b λb=>j8 r λr=>j8 o λo=>af (aU (Nat.blt r (hget b h).n) (Nat.ble (Nat.add o sz) (hget b h).sz)) (ih (Nat.succ i) (mf b (gu r (uy row sz 0 o)) h) f) false) l i h f:Bool)=true ->
  ∃h' s,aw (sstep ⟨b,r,o⟩ rw sz) ls (H,i)=some s/\cj h' s.1/\h'.fr=h.fr/\f h'=true:=by
 induction hl with
 | nil=>intro i h H f hh hf;exact⟨h,(H,i),rfl,hh,rfl,hf⟩
 | cons hrow aap ih=>
  rename_i row Zn rs ls
  intro i h H f hh hf
  obtain⟨r',o',e1,e2⟩:=nV hf h1 h2
  rw[a6,a6,a6]at e2
  obtain⟨e3,e4⟩:=au e2
  obtain⟨e5,e6⟩:=aW e3
  have e5:=aA.1 e5
  have e6:o'+sz<=_:=aj.1 e6
  have hsz:(hget b h).sz<=4180:=by obtain⟨_,_,_,_,h3,_⟩:=hh.rows hb e5;exact h3
  obtain⟨H',w1,w2⟩:=hh.write (vs:=Zn) (f:=uy row sz 0 o') hb e5 (by rw[hrow.len];exact e6)
   (λi a ha=>by
    obtain⟨hi,_⟩:=List.getElem?_eq_some_iff.1 ha
    rw[hrow.len]at hi
    rw[f9 _ _ _ _ _ _ (by omega) (by omega),if_pos<|by omega,show 0+(o'+i-o')=i by omega]
    exact hrow.cell i a ha)
   (λj hj hn=>by rw[hrow.len]at hn;rw[f9 _ _ _ _ _ _ (by omega) (by omega),if_neg hn])
  obtain⟨h',s,k1,k2,k3,k4⟩:=ih (i+1) _ H' f w2 e4
  refine⟨h',s,?_,k2,k3,k4⟩
  rw[ah]
  refine⟨(H',i+1),?_,k1⟩
  unfold sstep
  grind
theorem jl {h:FH}{H:Heap}(hh:cj h H){b r o rw sz i:Nat}(hb:b<262144)(h1:1<=sz)(h2:sz<=4180){l:List (R V)}{ls:List (List AV)}(hl:RR sz l ls){f:FH->Bool}(hf:gR h b r o rw sz i l f=true) :
  ∃h' H',H.scatter ⟨b,r,o⟩ rw sz i ls=some H'/\cj h' H'/\h'.fr=h.fr/\f h'=true:=by
 obtain⟨h',s,k1,k2,k3,k4⟩:=uc hb h1 h2 hl i h H f hh hf
 refine⟨h',s.1,?_,k2,k3,k4⟩
 rw[ud,k1]
end Go.Ev
namespace Go.Ev
variable [Sg]
section
variable {P:Program}{H0 H:Heap}{ρ ρ':Operand->Option AV}{a:AV}
theorem eq {y d n:Nat}{o:Option Operand}(hρ:∀x,o=some x->∀u,ρ x=some u->ρ' x=some u)(h:cL ρ y d o=some n):cL ρ' y d o=some n:=by
 cases o with
 | none=>exact h
 | some x=>
  simp only[cL]at h |-
  grind
theorem Dd {α β:Type}{f f':α->Option β}:∀{l:List α}{r:List β},(∀x∈l,∀u,f x=some u->f' x=some u)->aI f l=some r->aI f' l=some r:=by
 intro l
 induction l with
 | nil=>intro r _ h;exact h
 | cons x l ih=>
  intro r hf h
  rw[aV]at h |-
  grind
theorem KA {op:UnOp}{x:Operand}(hρ:∀y∈[x],∀u,ρ y=some u->ρ' y=some u)(h:aval P bW ρ (.un op x)=some (a,H0)):aval P H ρ' (.un op x)=some (a,H):=by
 simp only[aval]at h |-
 grind
theorem Cn {k:IntKind}{x:Operand}(hρ:∀y∈[x],∀u,ρ y=some u->ρ' y=some u)(h:aval P bW ρ (.convI k x)=some (a,H0)):aval P H ρ' (.convI k x)=some (a,H):=by
 simp only[aval]at h |-
 grind
theorem Co {x:Operand}(hρ:∀y∈[x],∀u,ρ y=some u->ρ' y=some u)(h:aval P bW ρ (.convS x)=some (a,H0)):aval P H ρ' (.convS x)=some (a,H):=by
 simp only[aval]at h |-
 grind
theorem IA {t:TypeId}{x:Operand}(hρ:∀y∈[x],∀u,ρ y=some u->ρ' y=some u)(h:aval P bW ρ (.mkif t x)=some (a,H0)):aval P H ρ' (.mkif t x)=some (a,H):=by
 simp only[aval]at h |-
 grind
theorem IB {n:String}{x:Operand}(hρ:∀y∈[x],∀u,ρ y=some u->ρ' y=some u)(h:aval P bW ρ (.mkmf n x)=some (a,H0)):aval P H ρ' (.mkmf n x)=some (a,H):=by
 simp only[aval]at h |-
 grind
theorem Iu {x i:Operand}(hρ:∀y∈[x,i],∀u,ρ y=some u->ρ' y=some u)(h:aval P bW ρ (.idxS x i)=some (a,H0)):aval P H ρ' (.idxS x i)=some (a,H):=by
 simp only[aval]at h |-
 cases hx:ρ x with
 | none=>grind
 | some u=>
  rw[hx]at h;cases u with
  | str s=>
   cases hi:ρ i with
   | none=>grind
   | some w=>
    rw[hi]at h;rw[hρ i (by simp) w hi]
    cases w with
    | int k n=>
     cases n with
     | ofNat n=>
      simp only at h |-
      split at h
      ·grind
      ·cases h
     | negSucc n=>cases h
    | _=>cases h
  | _=>cases h
theorem Iy {x:Operand}(hρ:∀y∈[x],∀u,ρ y=some u->ρ' y=some u)(h:aval P bW ρ (.lenT x)=some (a,H0)):aval P H ρ' (.lenT x)=some (a,H):=by
 simp only[aval]at h |-
 grind
theorem Iv {n:Nat}(h:aval P bW ρ (.lenC n)=some (a,H0)):aval P H ρ' (.lenC n)=some (a,H):=by
 simp only[aval]at h |-
 cases h;rfl
theorem Ix {x:Operand}(hρ:∀y∈[x],∀u,ρ y=some u->ρ' y=some u)(h:aval P bW ρ (.lenS x)=some (a,H0)):aval P H ρ' (.lenS x)=some (a,H):=by
 simp only[aval]at h |-
 grind
theorem Ps {x:Operand}(hρ:∀y∈[x],∀u,ρ y=some u->ρ' y=some u)(h:aval P bW ρ (.cap x)=some (a,H0)):aval P H ρ' (.cap x)=some (a,H):=by
 simp only[aval]at h |-
 grind
theorem Iw {x:Operand}(hρ:∀y∈[x],∀u,ρ y=some u->ρ' y=some u)(h:aval P bW ρ (.lenM x)=some (a,H0)):aval P H ρ' (.lenM x)=some (a,H):=by
 simp only[aval]at h |-
 cases hx:ρ x with
 | none=>grind
 | some u=>
  rw[hx]at h;rw[hρ x (by simp) u hx]
  cases u with
  | map r=>
   cases r with
   | none=>cases h;rfl
   | some b=>
    have:bW.get b=none:=Tr.vk b
    grind
  | _=>cases h
theorem Iz {kk:dC}{z:AV}{ok:Bool}{m k:Operand}(hρ:∀y∈[m,k],∀u,ρ y=some u->ρ' y=some u)(h:aval P bW ρ (.look kk z ok m k)=some (a,H0)):aval P H ρ' (.look kk z ok m k)=some (a,H):=by
 simp only[aval]at h |-
 cases hx:ρ m with
 | none=>grind
 | some u=>
  rw[hx]at h;cases u with
  | map r=>
   cases hk:ρ k with
   | none=>grind
   | some kv=>
    cases r with
    | none=>
     grind
    | some b=>
     have:bW.get b=none:=Tr.vk b
     grind
  | _=>cases h
theorem zu {mx:Bool}{args:List Operand}(hρ:∀y∈args,∀u,ρ y=some u->ρ' y=some u)(h:aval P bW ρ (.minmax mx args)=some (a,H0)):aval P H ρ' (.minmax mx args)=some (a,H):=by
 simp only[aval]at h |-
 cases hx:aI ρ args with
 | none=>grind
 | some l=>
  rw[hx]at h;rw[Dd hρ hx]
  cases l with
  | nil=>cases h
  | cons v vs=>
   simp only at h |-
   split at h
   ·grind
   ·cases h
theorem zw {x:Operand}(hρ:∀y∈[x],∀u,ρ y=some u->ρ' y=some u)(h:aval P bW ρ (.nilchk x)=some (a,H0)):aval P H ρ' (.nilchk x)=some (a,H):=by
 simp only[aval]at h |-
 grind
theorem IE {x:Operand}{lo hi:Option Operand}(hρ:∀y∈(AOp.slcS x lo hi).opers,∀u,ρ y=some u->ρ' y=some u)(h:aval P bW ρ (.slcS x lo hi)=some (a,H0)):aval P H ρ' (.slcS x lo hi)=some (a,H):=by
 have hx':∀u,ρ x=some u->ρ' x=some u:=hρ x<|by simp[AOp.opers]
 have hlo:∀y,lo=some y->∀u,ρ y=some u->ρ' y=some u:=λy e=>hρ y<|by simp[AOp.opers,aN,oopt,e]
 have hhi:∀y,hi=some y->∀u,ρ y=some u->ρ' y=some u:=λy e=>hρ y<|by simp[AOp.opers,aN,oopt,e]
 simp only[aval]at h |-
 cases hx:ρ x with
 | none=>grind
 | some u=>
  rw[hx]at h;rw[hx' u hx]
  cases u with
  | str s=>
   simp only at h |-
   split at h
   ·rename_i hh h1
    rw[eq hhi h1]
    split at h
    ·rename_i l h2;rw[eq hlo h2];cases h;rfl
    ·cases h
   ·cases h
  | _=>cases h
theorem IC {n sz:Nat}{x:Operand}{lo hi mx:Option Operand}(hρ:∀y∈(AOp.slcA n sz x lo hi mx).opers,∀u,ρ y=some u->ρ' y=some u)(h:aval P bW ρ (.slcA n sz x lo hi mx)=some (a,H0)):aval P H ρ' (.slcA n sz x lo hi mx)=some (a,H):=by
 have hx':∀u,ρ x=some u->ρ' x=some u:=hρ x<|by simp[AOp.opers]
 have hlo:∀y,lo=some y->∀u,ρ y=some u->ρ' y=some u:=λy e=>hρ y<|by simp[AOp.opers,aN,oopt,e]
 have hhi:∀y,hi=some y->∀u,ρ y=some u->ρ' y=some u:=λy e=>hρ y<|by simp[AOp.opers,aN,oopt,e]
 simp only[aval]at h |-
 cases hx:ρ x with
 | none=>grind
 | some u=>
  rw[hx]at h;cases u with
  | ptr p=>
   cases p with
   | none=>cases h
   | some p=>
    cases mx with
    | some m=>cases h
    | none=>
     simp only at h |-
     split at h
     ·rename_i hh h1
      rw[eq hhi h1]
      split at h
      ·rename_i l h2
       rw[eq hlo h2]
       grind
      ·cases h
     ·cases h
  | _=>cases h
theorem Cp {sz:Nat}{x:Operand}{lo hi mx:Option Operand}(hρ:∀y∈(AOp.slc sz x lo hi mx).opers,∀u,ρ y=some u->ρ' y=some u)(h:aval P bW ρ (.slc sz x lo hi mx)=some (a,H0)):aval P H ρ' (.slc sz x lo hi mx)=some (a,H):=by
 have hx':∀u,ρ x=some u->ρ' x=some u:=hρ x<|by simp[AOp.opers]
 have hlo:∀y,lo=some y->∀u,ρ y=some u->ρ' y=some u:=λy e=>hρ y<|by simp[AOp.opers,aN,oopt,e]
 have hhi:∀y,hi=some y->∀u,ρ y=some u->ρ' y=some u:=λy e=>hρ y<|by simp[AOp.opers,aN,oopt,e]
 have hmx:∀y,mx=some y->∀u,ρ y=some u->ρ' y=some u:=λy e=>hρ y<|by simp[AOp.opers,aN,oopt,e]
 simp only[aval,aL]at h |-
 cases hx:ρ x with
 | none=>grind
 | some u=>
  rw[hx]at h;rw[hx' u hx]
  cases u with
  | slice p len cap slack rw=>
   cases mx with
   | none=>
    simp only at h |-
    split at h
    ·rename_i hh h1
     rw[eq hhi h1]
     simp only
     split at h
     ·rename_i l h2
      rw[eq hlo h2]
      simp only
      split at h
      ·rename_i hb;cases h;rfl
      ·rename_i hb
       split at h
       ·cases h
       ·split at h
        ·rename_i hc
         split at h
         ·rename_i q hq;cases h;rfl
         ·cases h
        ·rename_i hc
         split at h
         ·rename_i hd
          split at h
          ·cases h;rfl
          ·split at h
           ·rename_i hn;cases h;rfl
           ·cases h
         ·cases h
     ·cases h
    ·cases h
   | some m=>
    simp only at h |-
    split at h
    ·rename_i m' h0
     rw[eq hmx h0]
     simp only
     split at h
     ·cases h
     ·rename_i hi' x'
      split at h
      ·rename_i hh h1
       rw[eq hhi h1]
       simp only
       split at h
       ·rename_i l h2
        rw[eq hlo h2]
        simp only
        split at h
        ·rename_i hb;cases h;rfl
        ·rename_i hb
         split at h
         ·cases h
         ·split at h
          ·rename_i q hq;cases h;rfl
          ·cases h
       ·cases h
      ·cases h
    ·cases h
  | empty=>
   cases mx with
   | none=>
    simp only at h |-
    split at h
    ·rename_i hh h1
     rw[eq hhi h1]
     simp only
     split at h
     ·rename_i l h2;rw[eq hlo h2];cases h;rfl
     ·cases h
    ·cases h
   | some m=>cases h
  | _=>cases h
end
end Go.Ev
namespace Go.Ev
variable [Sg]
theorem yS:∀{a b:List UInt8},qI a b=decide (a=b):=by
 intro a
 induction a with
 | nil=>intro b;cases b with | nil=>rfl | cons y t=>rfl
 | cons x a ih=>
  intro b
  cases b with
  | nil=>rfl
  | cons y t=>
   show af (Nat.beq x.toNat y.toNat) (qI a t) false=_
   rw[ih]
   cases hb:Nat.beq x.toNat y.toNat with
   | true=>
    have:x=y:=UInt8.toNat_inj.1<|ag hb
    subst this
    rw[Qc]
    simp
   | false=>
    have:x≠y:=λe=>kU hb<|by rw[e]
    rw[CX]
    simp[this]
theorem H7 (a b:ByteArray):NS a b=(a.toList==b.toList):=by
 unfold NS
 rw[yS,ByteArray.toList_eq,ByteArray.toList_eq,Bool.eq_iff_iff]
 simp
theorem eG (p:dC)(x y:AV):primEqF p x y=primEq p x y:=by
 unfold primEqF
 split
 ·unfold primEq
  cases x<;>first | rfl | skip
  cases y<;>first | rfl | skip
  simp only[H7]
 ·rfl
theorem ik (p:dC)(k:AV)(es:List (AV × AV)):lookInF p k es=lookIn p k es:=by
 unfold lookInF lookIn
 simp only[eG]
 rfl
theorem Aw (p:dC)(k v:AV)(es:List (AV × AV)):putInF p k v es=putIn p k v es:=by
 unfold putInF putIn
 simp only[eG,ik]
 rfl
theorem y6 (p:dC)(k:AV)(es:List (AV × AV)):qL p k es=sN p k es:=by
 unfold qL sN
 simp only[eG,ik]
 rfl
theorem eqBy_succ (d:Nat)(p:dC)(x y:AV):eqBy (d+1) p x y=(match p with
  | .pb=>primEq .pb x y
  | .pi=>primEq .pi x y
  | .ps=>primEq .ps x y
  | .agg ps=>(match x,y with
   | .agg xs,.agg ys=>aw (λ(b:Bool)q=>match b with
     | false=>some false
     | true=>match part q.2.2.1 xs q.1 q.2.1,part q.2.2.1 ys q.1 q.2.1 with
      | some u,some v=>eqBy d q.2.2.2 u v
      | _,_=>none) ps true
   | _,_=>none)
  | p=>eqBy (d+1) p x y):=by
 cases p<;>rfl
theorem eqByF_eq (p:dC)(x y:AV):eqByF 20 p x y=eqBy 20 p x y:=by
 have hin:∀(d:Nat)(r:dC)(u v:AV),(match r with | .ps=>(match d with | 0=>none | _+1=>primEqF .ps u v) | r=>eqBy d r u v)=eqBy d r u v:=by
  intro d r u v
  cases r<;>first | rfl | skip
  cases d with
  | zero=>rfl
  | succ d=>simp only[eG];rfl
 rw[eqBy_succ 19]
 unfold eqByF
 cases p<;>first | rfl | skip
 ·exact eG _ _ _
 ·cases x<;>first | rfl | skip
  cases y<;>first | rfl | skip
  grind
theorem F9 (B a:Nat):wV B a=(a:Int)-B:=by
 by_cases h:B<=a
 ·rw[yw h];simp;omega
 ·have e:a=B-((B-a-1)+1):=by omega
  have:=uq (B:=B) (m:=B-a-1)<|by omega
  grind
theorem cP (a:Nat):eZ a=(a:Int)-(ae:Nat):=(yx a).trans (F9 ae a)
theorem Gb (a b:Nat):eZ a<eZ b↔a<b:=by rw[cP,cP];omega
theorem Kf (a b:Nat):eZ a=eZ b↔a=b:=by rw[cP,cP];omega
theorem nu (a b:Nat):ilt (eZ a) (eZ b)=Nat.blt a b:=by
 rw[du]
 cases h:Nat.blt a b with
 | true=>simp only[decide_eq_true_eq];exact(Gb a b).2 (aA.1 h)
 | false=>simp only[decide_eq_false_iff_not];exactλk=>fB.1 h<|(Gb a b).1 k
theorem xh (a b:Nat):Nat.ble a b=!Nat.blt b a:=by
 cases h:Nat.ble a b with
 | true=>
  have:=aj.1 h
  rw[fB.2 (by omega)];rfl
 | false=>
  have:=ju.1 h
  rw[aA.2 (by omega)];rfl
theorem xI (a b:Nat):ieq (eZ a) (eZ b)=Nat.beq a b:=by
 rw[et]
 cases h:Nat.beq a b with
 | true=>rw[ag h];simp
 | false=>
  have:=kU h
  simp only[beq_eq_false_iff_ne,ne_eq,Kf];exact this
theorem VA.kind {v:V}{a:AV}(h:VA v a):v.t<=17:=by
 cases h with
 | oH k _ _ _ _ _ _ _=>grind
 | te k _ _ _ _ _ _ _ _ _ _ _ _ _ _ _ _ _ _ _=>grind
 | pf k _ _ _ _ _ _ _ _ _ _ _=>grind
 | sym k _ _ _ _ _=>grind
 | bits k _ _ _ _ _=>grind
 | _=>omega
theorem fX {x y:V}{a b:AV}(hx:VA x a)(hy:VA y b)(h:eO x y=true):a=.int .i64 (eZ x.a)/\b=.int .i64 (eZ y.a):=by
 have h:x.t*32+y.t=33:=ag h
 have h1:=hx.kind
 have h2:=hy.kind
 exact⟨(hx.CZ<|by omega).1,(hy.CZ<|by omega).1⟩
theorem VA.mkI {n:Nat}(h:n<9223372036854775808):VA (vI n) (.int .i64 (eZ n)):=.int (v:=vI n) rfl h
theorem kD {n:Int}(h:-9223372036854775808<=n/\n<=9223372036854775807):mkI .i64 n=some (.int .i64 n):=by
 rw[N9,IntWalk.i64_in n h]
theorem RT {B x y:Nat}(hB:B=4611686018427387904)(h:(x+y)/B=2\/(x+y)/B=1) :
  x+y-B<9223372036854775808/\((x+y-B:Nat):Int)-B=((x:Int)-B)+((y:Int)-B)/\(-9223372036854775808<=((x:Int)-B)+((y:Int)-B)/\((x:Int)-B)+((y:Int)-B)<=9223372036854775807):=by
 grind
theorem Ik {B x y:Nat}(hB:B=4611686018427387904)(h:(x+B-y)/B=1) :
  x+B-y<9223372036854775808/\((x+B-y:Nat):Int)-B=((x:Int)-B)-((y:Int)-B)/\(-9223372036854775808<=((x:Int)-B)-((y:Int)-B)/\((x:Int)-B)-((y:Int)-B)<=9223372036854775807):=by
 grind
theorem qE:ae=4611686018427387904:=rfl
theorem xg {x y:Nat}(h:(x+y)/ae=2\/(x+y)/ae=1):x+y-ae<9223372036854775808/\binV .add (.int .i64 (eZ x)) (.int .i64 (eZ y))=some (.int .i64 (eZ (x+y-ae))):=by
 obtain⟨h1,h2,h3⟩:=RT qE h
 refine⟨h1,?_⟩
 show Ev.mkI .i64 (iadd (eZ x)<|eZ y)=_
 rw[abV,cP,cP,cP,h2,kD h3]
theorem FZ {x y:Nat}(h:(x+ae-y)/ae=1):x+ae-y<9223372036854775808/\binV .sub (.int .i64 (eZ x)) (.int .i64 (eZ y))=some (.int .i64 (eZ (x+ae-y))):=by
 obtain⟨h1,h2,h3⟩:=Ik qE h
 refine⟨h1,?_⟩
 show Ev.mkI .i64 (vH (eZ x)<|eZ y)=_
 rw[rl,cP,cP,cP,h2,kD h3]
theorem aJ {c y n:Bool}(h:af c y n=true):(c=true/\y=true)\/(c=false/\n=true):=by
 cases c with
 | true=>exact .inl ⟨rfl,h⟩
 | false=>exact .inr ⟨rfl,h⟩
theorem VA.mQ {v:V}{a:AV}(h:VA v a)(ht:v.t=12):a=.int (kindOf v.f) (ed v)/\(v.d:Int)-2*ae<=ed v/\ed v<=(v.e:Int)-2*ae/\v.e<18446744073709551616/\∀n,AV.int .i64 n∈zk v.x->n≠ed v:=by
 cases h with
 | sym h hl hh he hx hr=>grind
 | _=>simp_all
theorem VA.od {v:V}{a:AV}(h:VA v a)(ht:v.t=14):∃n:Nat,Sg.num v.a=(n:Int)/\n<256/\Nat.land n v.d=v.e/\v.b<256/\a=.int (kindOf v.f) ((Nat.land n v.b:Nat):Int):=by
 cases h with
 | bits h n hn hs he hb=>grind
 | sym h hl hh he hx hr=>grind
 | oH k _ _ _ _ _ _ _=>grind
 | te k _ _ _ _ _ _ _ _ _ _ _ _ _ _ _ _ _ _ _=>grind
 | pf k _ _ _ _ _ _ _ _ _ _ _=>grind
 | _=>simp_all
theorem ig (n m:Nat):Nat.land n m<=m:=Nat.and_le_right
theorem gl {v:V}{a:AV}(h:VA v a)(hk:po v=true):∃n,a=.int .i64 n/\(Gx v:Int)-2*ae<=n/\n<=(Gq v:Int)-2*ae/\(v.t=1->n=eZ v.a)/\(v.t=12->n=ed v/\∀m,AV.int .i64 m∈zk v.x->m≠n)/\(v.t=1\/v.t=12\/v.t=14):=by
 unfold po at hk
 rcases Bool.or_eq_true_iff.1 hk with h1|h1
 ·have h1:v.t=1:=ag h1
  obtain⟨rfl,_⟩:=h.CZ h1
  have e:Nat.beq v.t 12=false:=by rw[h1];rfl
  have e':Nat.beq v.t 14=false:=by rw[h1];rfl
  refine⟨eZ v.a,rfl,?_,?_,λ_=>rfl,λk=>absurd (h1.symm.trans k)<|by decide,.inl h1⟩
  ·unfold Gx;rw[cP];grind
  ·unfold Gq;rw[cP];grind
 ·obtain⟨h1,h2⟩:=Bool.and_eq_true_iff.1 h1
  have h2:v.f=0:=ag h2
  have e:kindOf v.f=.i64:=by rw[h2];rfl
  have key:v.t=12\/v.t=14:=(Bool.or_eq_true_iff.1 h1).imp (λq=>ag q) (λq=>ag q)
  rcases key with pg|pg
  ·have q1:Nat.beq v.t 12=true:=by rw[pg];rfl
   obtain⟨rfl,k1,k2,k3,k4⟩:=h.mQ pg
   rw[e]
   refine⟨_,rfl,?_,?_,λk=>absurd (pg.symm.trans k)<|by decide,λ_=>⟨rfl,k4⟩,.inr<|.inl pg⟩
   ·unfold Gx;grind
   ·unfold Gq;grind
  ·have q1:Nat.beq v.t 12=false:=by rw[pg];rfl
   have q2:Nat.beq v.t 14=true:=by rw[pg];rfl
   obtain⟨n,k1,k2,k3,k4,rfl⟩:=h.od pg
   rw[e]
   have:=ig n v.b
   refine⟨_,rfl,?_,?_,λk=>absurd (pg.symm.trans k)<|by decide,λk=>absurd (pg.symm.trans k)<|by decide,.inr<|.inr pg⟩
   ·unfold Gx;grind
   ·unfold Gq;grind
theorem sW {u v:V}{n m:Int}(hu:u.t=12->∀c,AV.int .i64 c∈zk u.x->c≠n)(hv:v.t=1->m=eZ v.a)(h:xy u v=true):n≠m:=by
 unfold xy at h
 split at h
 ·rename_i h1
  obtain⟨h1,h2⟩:=Bool.and_eq_true_iff.1 h1
  intro e
  have hn:d9 (neSy<|eZ v.a) (zk u.x)=true:=by
   rw[gI]
   intro c hc
   unfold neSy
   split
   ·rename_i k
    have:=hu (ag h1) k hc
    rw[e,hv<|ag h2]at this
    rw[et]
    simp[this]
   ·rfl
  grind
 ·cases h
theorem F4 {u v:V}{a b:AV}(hu:VA u a)(hv:VA v b)(ku:po u=true)(kv:po v=true)(h:F3 u v=true):∃n m,a=.int .i64 n/\b=.int .i64 m/\n≠m:=by
 obtain⟨n,rfl,a1,a2,a3,a4,_⟩:=gl hu ku
 obtain⟨m,rfl,b1,b2,b3,b4,_⟩:=gl hv kv
 refine⟨n,m,rfl,rfl,?_⟩
 unfold F3 at h
 rcases Bool.or_eq_true_iff.1 h with h|h
 ·have:=aA.1 h;omega
 rcases Bool.or_eq_true_iff.1 h with h|h
 ·have:=aA.1 h;omega
 rcases Bool.or_eq_true_iff.1 h with h|h
 ·exact sW (λk=>(a4 k).2) b3 h
 ·exactλe=>sW (λk=>(b4 k).2) a3 h e.symm
theorem ul {u v:V}{a b:AV}{r:Bool}(hu:VA u a)(hv:VA v b)(h:yr u v=some r):primEq .pi a b=some r:=by
 unfold yr at h
 split at h
 ·rename_i hk
  obtain⟨ku,kv⟩:=Bool.and_eq_true_iff.1 hk
  split at h
  ·rename_i hne
   obtain⟨n,m,rfl,rfl,hnm⟩:=F4 hu hv ku kv hne
   cases h
   show some (ieq n m)=_
   rw[et];simp[hnm]
  ·split at h
   ·rename_i hs
    cases h
    obtain⟨n,rfl,a1,a2,a3,a4,a5⟩:=gl hu ku
    obtain⟨m,rfl,b1,b2,b3,b4,b5⟩:=gl hv kv
    unfold FJ at hs
    obtain⟨h1,hs⟩:=Bool.and_eq_true_iff.1 hs
    obtain⟨h2,hs⟩:=Bool.and_eq_true_iff.1 hs
    have h1:u.t=v.t:=ag h1
    have h2:u.a=v.a:=ag h2
    have:n=m:=by
     rcases Bool.or_eq_true_iff.1 hs with h3|h3
     ·simp_all
     ·obtain⟨h0,h3⟩:=Bool.and_eq_true_iff.1 h3
      have h0:u.t=12:=ag h0
      obtain⟨h3,h4⟩:=Bool.and_eq_true_iff.1 h3
      have h3:u.b=v.b:=ag h3
      have h4:u.c=v.c:=ag h4
      rw[(a4 h0).1,(b4<|by omega).1]
      unfold ed
      grind
    subst this
    show some (ieq n n)=_
    rw[et];simp
   ·cases h
 ·cases h
theorem Kc {p:dC}{x y:V}{a b:AV}{r:Bool}(hx:VA x a)(hy:VA y b)(h:symE p x y=some r):eqBy 20 p a b=some r:=by
 unfold symE at h
 split at h
 ·exact ul hx hy h
 ·rename_i ps
  split at h
  ·rename_i ht
   obtain⟨h1,h2⟩:=Bool.and_eq_true_iff.1 ht
   obtain⟨cs,r1,rfl,hr,hc,hl,hcell⟩:=hx.A8<|ag h1
   obtain⟨cs',r2,rfl,hr',uz,hl',mc⟩:=hy.A8<|ag h2
   have e1:qh x=r1:=by unfold qh;rw[hr]
   have e2:qh y=r2:=by unfold qh;rw[hr']
   rw[e1,e2]at h
   refine eS (λb0 q c hq=>?_) _ _ _ h
   cases b0 with
   | false=>exact hq
   | true=>
    simp only at hq |-
    split at hq
    ·rename_i hp
     split at hq
     ·rename_i hb
      obtain⟨g1,hb⟩:=Bool.and_eq_true_iff.1 hb
      obtain⟨g2,g3⟩:=Bool.and_eq_true_iff.1 hb
      have g1:q.2.2.1=false:=by grind
      have g2:q.1<cs.length:=by rw[hc];exact aA.1 g2
      have g3:q.1<cs'.length:=by rw[uz];exact aA.1 g3
      have p1:part q.2.2.1 cs q.1 q.2.1=some cs[q.1]:=by rw[g1];show dJ cs q.1=_;rw[cY];grind
      have p2:part q.2.2.1 cs' q.1 q.2.1=some cs'[q.1]:=by rw[g1];show dJ cs' q.1=_;rw[cY];grind
      rw[p1,p2,hp]
      rw[eX,eX]at hq
      exact ul (hcell _ _<|List.getElem?_eq_getElem g2) (mc _ _<|List.getElem?_eq_getElem g3) hq
     ·cases hq
    ·cases hq
  ·cases h
 ·cases h
theorem symLt_ok {x y w:V}{a b:AV}{s:Bool}(hx:VA x a)(hy:VA y b)(h:ql x y s=some w):∃n m,a=.int .i64 n/\b=.int .i64 m/\w=vB (match ilt n m with | true=>s | false=>!s):=by
 unfold ql at h
 split at h
 ·rename_i hk
  obtain⟨ku,kv⟩:=Bool.and_eq_true_iff.1 hk
  obtain⟨n,rfl,a1,a2,_⟩:=gl hx ku
  obtain⟨m,rfl,b1,b2,_⟩:=gl hy kv
  refine⟨n,m,rfl,rfl,?_⟩
  rw[du]
  split at h
  ·rename_i hb
   have:=aA.1 hb
   grind
  ·split at h
   ·rename_i hb
    have:=aj.1 hb
    grind
   ·cases h
 ·cases h
theorem NW {c:Nat}(n:Int)(h1:1<=c)(h2:c<=15):dec c n=n%(c:Int):=by
 unfold dec
 match c,h1 with
 | c+1,_=>
  show(match Nat.blt (c+1) 16 with | true=>n%((c+1:Nat):Int) | false=>_)=_
  rw[aA.2 (by omega)]
theorem xo {c:Nat}(n:Int)(h2:c<=15):dec (16+c) n=n/(c:Int):=by
 unfold dec
 have e:16+c=(15+c)+1:=by omega
 rw[e]
 show(match Nat.blt (15+c+1) 16 with | true=>_ | false=>(match Nat.blt (15+c+1) 32 with | true=>n/((15+c+1-16:Nat):Int) | false=>_))=_
 rw[fB.2 (by omega),aA.2<|by omega,show 15+c+1-16=c by omega]
theorem NU {q c:Nat}(n:Int)(h2:c<=15):dec (32+(16*q+c)) n=(n/(q:Int))%(c:Int):=by
 unfold dec
 have e:32+(16*q+c)=(31+(16*q+c))+1:=by omega
 rw[e]
 show(match Nat.blt (31+(16*q+c)+1) 16 with | true=>_ | false=>(match Nat.blt (31+(16*q+c)+1) 32 with | true=>_ | false=>(n/(((31+(16*q+c)+1-32)/16:Nat):Int))%(((31+(16*q+c)+1-32)%16:Nat):Int)))=_
 rw[fB.2 (by omega),fB.2<|by omega,show(31+(16*q+c)+1-32)/16=q by omega,show(31+(16*q+c)+1-32)%16=c by omega]
theorem se {v:V}{a:AV}{c:Nat}(h:VA v a)(hk:u8K v=some c):a=.int .u8 (.ofNat c)/\c<=255:=by
 unfold u8K at hk
 split at hk
 ·rename_i ht
  obtain⟨rfl,_⟩:=h.U7<|ag ht
  split at hk
  ·rename_i n hx
   split at hk
   ·simp_all
   ·cases hk
  ·cases hk
 ·cases hk
theorem xH {v:V}{a:AV}{c:Nat}(h:VA v a)(hk:I1 v=some c):a=.int .i64 (.ofNat c)/\c<ae:=by
 unfold I1 at hk
 split at hk
 ·rename_i ht
  obtain⟨h1,h2⟩:=Bool.and_eq_true_iff.1 ht
  obtain⟨rfl,h3⟩:=h.CZ<|ag h1
  have hk:v.a-ae=c:=Option.some.inj hk
  have h2:=aj.1 h2
  rw[Ga h2,hk]
  have hb:ae=4611686018427387904:=rfl
  grind
 ·cases hk
theorem Jm {f:Nat}{v:V}{a:AV}{c:Nat}(h:VA v a)(hk:Vh f v=some c):a=.int (kindOf f) (.ofNat c)/\c<ae/\(f≠0->c<=255):=by
 match f with
 | 0=>obtain⟨h1,h2⟩:=xH h hk;exact⟨h1,h2,λk=>absurd rfl k⟩
 | f+1=>
  obtain⟨h1,h2⟩:=se h hk
  have hb:ae=4611686018427387904:=rfl
  exact⟨h1,by omega,λ_=>h2⟩
theorem VA.oy {f n:Nat}(h:n<ae):VA (Ev.oy f n) (.int (kindOf f) (.ofNat n)):=by
 match f with
 | 0=>
  have:=VA.int (v:=vI<|Nat.add n ae) rfl (kV h).1
  have e:eZ (vI<|Nat.add n ae).a=Int.ofNat n:=nB
  rw[e]at this
  exact this
 | f+1=>exact .gen (v:=cH _) rfl rfl
theorem VA.Fu {v:V}{a:AV}(h:VA v a)(ht:v.t=12){m lo hi:Nat}(hr:qg v.x=some (m,lo,hi)):(lo:Int)<=ed v%(m:Int)/\ed v%(m:Int)<=hi:=by
 cases h with
 | sym h hl hh he hx hr'=>grind
 | bits h _ _ _ _ _=>grind
 | _=>simp_all
theorem nS {v:V}{a:AV}(h:VA v a)(hk:sI v=true):∃n:Int,a=.int .u8 n/\n=Sg.num v.a/\0<=n/\n<=255/\∀m lo hi,qg v.x=some (m,lo,hi)->(lo:Int)<=n%(m:Int)/\n%(m:Int)<=hi:=by
 unfold sI at hk
 obtain⟨h1,hk⟩:=Bool.and_eq_true_iff.1 hk
 obtain⟨h2,hk⟩:=Bool.and_eq_true_iff.1 hk
 obtain⟨h3,hk⟩:=Bool.and_eq_true_iff.1 hk
 obtain⟨h4,hk⟩:=Bool.and_eq_true_iff.1 hk
 obtain⟨h5,h6⟩:=Bool.and_eq_true_iff.1 hk
 have h2:v.f=1:=ag h2
 have h3:v.c=0:=ag h3
 have h4:v.b=ae:=ag h4
 have h5:ae+ae<=v.d:=aj.1 h5
 have h6:v.e<=255+(ae+ae):=aj.1 h6
 have hres:=λm lo hi hr=>h.Fu (ag h1) (m:=m) (lo:=lo) (hi:=hi) hr
 obtain⟨rfl,k1,k2,_⟩:=h.mQ<|ag h1
 have e:ed v=Sg.num v.a:=by
  unfold ed
  rw[h3,h4]
  show Sg.num v.a+((ae:Int)-ae)=_
  omega
 exact⟨ed v,by rw[h2];rfl,e,by omega,by omega,hres⟩
theorem VA.pB {lo hi a:Nat}(h1:(lo:Int)<=Sg.num a)(h2:Sg.num a<=hi)(h3:hi<=255):VA (Ev.pB lo hi a) (.int .u8 (Sg.num a)):=by
 have hb:ae=4611686018427387904:=rfl
 have e:ed (Ev.pB lo hi a)=Sg.num a:=by
  show Sg.num a+((ae:Int)-ae)=_
  omega
 have:=VA.sym (v:=Ev.pB lo hi a) rfl (by rw[e];show((lo+(ae+ae):Nat):Int)-2*ae<=_;omega) (by rw[e];show _<=((hi+(ae+ae):Nat):Int)-2*ae;omega)
  (by show hi+(ae+ae)<_;omega) (λn hn=>by cases hn) (λm lo hi hr=>by cases hr)
 rw[e]at this
 exact this
theorem VA.iC {hi a:Nat}(h1:0<=Sg.num a)(h2:Sg.num a<=hi)(h3:hi<=255):VA (Ev.iC hi a) (.int .u8 (Sg.num a)):=by
 have hb:ae=4611686018427387904:=rfl
 have e:ed (Ev.iC hi a)=Sg.num a:=by
  show Sg.num a+((ae:Int)-ae)=_
  omega
 have:=VA.sym (v:=Ev.iC hi a) rfl (by rw[e];show((ae+ae:Nat):Int)-2*ae<=_;omega) (by rw[e];show _<=((hi+(ae+ae):Nat):Int)-2*ae;omega)
  (by show hi+(ae+ae)<_;omega) (λn hn=>by cases hn) (λm lo hi hr=>by cases hr)
 rw[e]at this
 exact this
theorem yj {n:Int}{c:Nat}(h0:0<=n)(hc:1<=c):binV .rem (.int .u8 n) (.int .u8 (.ofNat c))=some (.int .u8 (n%(c:Int))):=by
 obtain⟨k,rfl⟩:=Int.eq_ofNat_of_zero_le h0
 match c,hc with
 | c+1,_=>
  show(force (Nat.mod k<|c+1) λr=>some<|AV.int .u8<|.ofNat r)=_
  rw[aL]
  rfl
theorem Jz {n:Int}{c:Nat}(h0:0<=n)(h1:n<=255)(hc:1<=c):binV .quo (.int .u8 n) (.int .u8 (.ofNat c))=some (.int .u8 (n/(c:Int))):=by
 obtain⟨k,rfl⟩:=Int.eq_ofNat_of_zero_le h0
 match c,hc with
 | c+1,_=>
  show(force (Nat.mod (Nat.div k<|c+1) 256) λm=>some<|AV.int .u8<|.ofNat m)=_
  rw[aL]
  have hk:k/(c+1)<=k:=Nat.div_le_self _ _
  have:Nat.mod (Nat.div k<|c+1) 256=k/(c+1):=Nat.mod_eq_of_lt (by show k/(c+1)<256;omega)
  grind
theorem emod_le {n:Int}{c:Nat}(hc:1<=c):0<=n%(c:Int)/\n%(c:Int)<=((c-1:Nat):Int):=by
 have h1:=Int.emod_nonneg n (b:=(c:Int))<|by omega
 have h2:=Int.emod_lt_of_pos n (b:=(c:Int))<|by omega
 omega
theorem wT {x y w:V}{a b:AV}(hx:VA x a)(hy:VA y b)(h:sa x y=some w):∃r,binV .rem a b=some r/\VA w r:=by
 unfold sa at h
 split at h
 ·rename_i hs
  obtain⟨h1,hs⟩:=Bool.and_eq_true_iff.1 hs
  obtain⟨h2,h3⟩:=Bool.and_eq_true_iff.1 hs
  have h1:=ag h1
  have h2:x.f=0:=ag h2
  have h3:ae+ae<=x.d:=aj.1 h3
  split at h
  ·rename_i m lo hi hr
   split at h
   ·rename_i c hc
    split at h
    ·rename_i hb
     obtain⟨g1,hb⟩:=Bool.and_eq_true_iff.1 hb
     obtain⟨g2,hb⟩:=Bool.and_eq_true_iff.1 hb
     obtain⟨g3,g4⟩:=Bool.and_eq_true_iff.1 hb
     have g1:m=c:=ag g1
     have g2:lo=hi:=ag g2
     have g3:=aj.1 g3
     have g4:=aj.1 g4
     subst g1;subst g2
     obtain⟨r1,r2⟩:=hx.Fu h1 hr
     obtain⟨rfl,k1,k2,k3,_⟩:=hx.mQ h1
     obtain⟨rfl,_⟩:=xH hy hc
     cases h
     have h0:0<=ed x:=by omega
     obtain⟨k,hk⟩:=Int.eq_ofNat_of_zero_le h0
     rw[hk]at r1 r2 |-
     rw[h2]
     have e:k%m=lo:=by omega
     have lN:ae=4611686018427387904:=rfl
     refine⟨.int .i64<|.ofNat lo,?_,VA.oy (f:=0)<|by omega⟩
     match m,g3 with
     | m+1,_=>
      show(force (Nat.mod k<|m+1) λr=>some<|AV.int .i64<|.ofNat r)=_
      rw[aL]
      have e:Nat.mod k (m+1)=lo:=e
      rw[e]
    ·cases h
   ·cases h
  ·cases h
 ·cases h
theorem wS {x y w:V}{a b:AV}{c:Nat}(hx:VA x a)(hy:VA y b)(hs:sI x=true)(hc:u8K y=some c)(h:r9 x c=some w):∃r,binV .rem a b=some r/\VA w r:=by
 unfold r9 at h
 split at h
 ·rename_i m lo hi hr
  split at h
  ·rename_i hb
   obtain⟨g1,hb⟩:=Bool.and_eq_true_iff.1 hb
   obtain⟨g2,hb⟩:=Bool.and_eq_true_iff.1 hb
   obtain⟨g3,g4⟩:=Bool.and_eq_true_iff.1 hb
   have g1:m=c:=ag g1
   have g2:lo=hi:=ag g2
   have g3:=aj.1 g3
   have g4:=aj.1 g4
   subst g1;subst g2
   obtain⟨rfl,_⟩:=se hy hc
   obtain⟨n,rfl,hn,hl,hh,hres⟩:=nS hx hs
   refine⟨_,yj hl g3,?_⟩
   obtain⟨r1,r2⟩:=hres _ _ _ hr
   cases h
   have en:n%(m:Int)=(lo:Int):=by omega
   rw[en]
   have hb:ae=4611686018427387904:=rfl
   exact VA.oy (f:=1)<|by omega
  ·cases h
 ·cases h
theorem AN {x y w:V}{a b:AV}(hx:VA x a)(hy:VA y b)(h:wR x y=some w):∃r,binV .rem a b=some r/\VA w r:=by
 unfold wR at h
 split at h
 ·rename_i hs
  split at h
  ·rename_i c hc
   split at h
   ·rename_i hb
    obtain⟨h1,h2⟩:=Bool.and_eq_true_iff.1 hb
    have h1:=aj.1 h1
    have h2:=aj.1 h2
    obtain⟨rfl,_⟩:=se hy hc
    obtain⟨n,rfl,hn,hl,hh,hres⟩:=nS hx hs
    refine⟨_,yj hl h1,?_⟩
    have hm:=emod_le (n:=n) h1
    split at h
    ·rename_i ha
     have ha:x.a<1000:=aA.1 ha
     cases h
     have e:Sg.num (x.a+1000*c)=n%(c:Int):=by rw[Sg.law _ _ ha,NW _ h1 h2,hn]
     have dflt:VA (iC (Nat.pred c)<|Nat.add x.a<|Nat.mul 1000 c) (.int .u8<|n%(c:Int)):=by
      have:=VA.iC (hi:=c-1) (a:=x.a+1000*c) (by grind) (by grind)<|by omega
      rw[e]at this
      exact this
     unfold symRes
     split
     ·rename_i m lo hi hr
      split
      ·rename_i zB
       obtain⟨g1,g2⟩:=Bool.and_eq_true_iff.1 zB
       have g1:m=c:=ag g1
       have g2:=aj.1 g2
       subst g1
       obtain⟨r1,r2⟩:=hres _ _ _ hr
       split
       ·rename_i zD
        have zD:lo=hi:=ag zD
        subst zD
        have en:n%(m:Int)=(lo:Int):=by omega
        rw[en]
        have hb:ae=4611686018427387904:=rfl
        exact VA.oy (f:=1)<|by omega
       ·have:=VA.pB (lo:=lo) (hi:=hi) (a:=x.a+1000*m) (by grind) (by rw[e];exact r2) g2
        grind
      ·exact dflt
     ·exact dflt
    ·split at h
     ·rename_i ha
      obtain⟨g1,g2⟩:=Bool.and_eq_true_iff.1 ha
      have g1:=aj.1 g1
      have g2:x.a<32000:=aA.1 g2
      cases h
      have e0:Sg.num x.a=Sg.num (x.a%1000)/((x.a/1000-16:Nat):Int):=by
       have:=Sg.law (x.a%1000) (x.a/1000)<|by omega
       rw[show x.a%1000+1000*(x.a/1000)=x.a by omega]at this
       rw[this,show x.a/1000=16+(x.a/1000-16) by omega,xo _<|by omega,show 16+(x.a/1000-16)-16=x.a/1000-16 by omega]
      have e:Sg.num (x.a%1000+1000*(32+(16*(x.a/1000-16)+c)))=n%(c:Int):=by
       rw[Sg.law _ _ (by omega),NU _ h2,<- e0,hn]
      have:=VA.iC (hi:=c-1) (a:=x.a%1000+1000*(32+(16*(x.a/1000-16)+c))) (by rw[e];exact hm.1) (by rw[e];exact hm.2)<|by omega
      rw[e]at this
      exact this
     ·cases h
   ·exact wS hx hy hs hc h
  ·cases h
 ·exact wT hx hy h
theorem AM {x y w:V}{a b:AV}(hx:VA x a)(hy:VA y b)(h:wQ x y=some w):∃r,binV .quo a b=some r/\VA w r:=by
 unfold wQ at h
 split at h
 ·rename_i hs
  split at h
  ·rename_i c hc
   split at h
   ·rename_i hb
    obtain⟨h1,h2⟩:=Bool.and_eq_true_iff.1 hb
    obtain⟨h2,h3⟩:=Bool.and_eq_true_iff.1 h2
    have h1:=aj.1 h1
    have h2:=aj.1 h2
    have ha:x.a<1000:=aA.1 h3
    obtain⟨rfl,_⟩:=se hy hc
    obtain⟨n,rfl,hn,hl,hh,hres⟩:=nS hx hs
    refine⟨_,Jz hl hh h1,?_⟩
    cases h
    have e:Sg.num (x.a+1000*(16+c))=n/(c:Int):=by rw[Sg.law _ _ ha,xo _ h2,hn]
    have b1:0<=n/(c:Int):=Int.ediv_nonneg hl<|by omega
    have b2:n/(c:Int)<=((255/c:Nat):Int):=by
     have:=Int.ediv_le_ediv (c:=(c:Int)) (by omega) hh
     grind
    have:=VA.iC (hi:=255/c) (a:=x.a+1000*(16+c)) (by grind) (by grind)<|Nat.div_le_self _ _
    rw[e]at this
    exact this
   ·cases h
  ·cases h
 ·cases h
theorem aaA (a b c:Nat):Nat.land (Nat.land a b) c=Nat.land a (Nat.land b c):=Nat.and_assoc a b c
theorem mj (a b:Nat):Nat.land a b=Nat.land b a:=Nat.and_comm a b
theorem wf (w n:Nat):(BitVec.ofInt w (Int.ofNat n)).toNat=n%2 ^ w:=by
 grind
theorem qp {n:Nat}(h:n<256):IntKind.u8.wrap (n:Int)=(n:Int):=by
 have e:∀m:Int,IntKind.u8.wrap m=m%256:=λm=>rfl
 rw[e];omega
theorem MJ {f n m:Nat}(hn:n<256)(hm:m<ae)(hf:f≠0->m<=255):binV .and (.int (kindOf f) (.ofNat n)) (.int (kindOf f) (.ofNat m))=some (.int (kindOf f) (.ofNat (Nat.land n m))):=by
 have hb:ae=4611686018427387904:=rfl
 match f with
 | 0=>
  show(match Nat.ble n 9223372036854775807&&Nat.ble m 9223372036854775807 with
   | true=>(force (Nat.land n m) λr=>some<|AV.int .i64<|.ofNat r)
   | false=>bitsOp .and .i64 (.ofNat n) (.ofNat m))=_
  rw[aj.2 (by omega),aj.2<|by omega]
  show(force (Nat.land n m) λr=>some<|AV.int .i64<|.ofNat r)=_
  rw[aL];rfl
 | f+1=>
  have hm:=hf<|by omega
  show some (AV.int .u8<|IntKind.u8.wrap (BitVec.ofInt 8 (.ofNat n) &&& BitVec.ofInt 8 (.ofNat m)).toNat)=_
  rw[BitVec.toNat_and,wf,wf,Nat.mod_eq_of_lt (by omega:n<2 ^ 8),Nat.mod_eq_of_lt (by omega:m<2 ^ 8),qp<|Nat.lt_of_le_of_lt Nat.and_le_left hn]
  rfl
theorem HY {n x:Nat}(hn:n<256):n &&& x=n &&& (x%256):=by
 have h1:n &&& 255=n:=by rw[show(255:Nat)=2 ^ 8-1 from rfl,Nat.and_two_pow_sub_one_eq_mod];omega
 have h2:x%256=x &&& 255:=by rw[show(255:Nat)=2 ^ 8-1 from rfl,Nat.and_two_pow_sub_one_eq_mod]
 grind
theorem yD {f n m:Nat}(hn:n<256)(hm:m<=255):binV .andNot (.int (kindOf f) (.ofNat n)) (.int (kindOf f) (.ofNat m))=some (.int (kindOf f) (.ofNat (Nat.land n (255-m)))):=by
 have hle:Nat.land n (255-m)<=n:=Nat.and_le_left
 match f with
 | 0=>
  show(match Nat.ble n 9223372036854775807&&Nat.ble m 9223372036854775807 with
   | true=>bitsOp .andNot .i64 (.ofNat n)<|.ofNat m
   | false=>bitsOp .andNot .i64 (.ofNat n) (.ofNat m))=_
  rw[aj.2 (by omega),aj.2<|by omega]
  show some (AV.int .i64<|IntKind.i64.wrap (BitVec.ofInt 64 (.ofNat n) &&& ~~~ BitVec.ofInt 64 (.ofNat m)).toNat)=_
  rw[BitVec.toNat_and,BitVec.toNat_not,wf,wf,Nat.mod_eq_of_lt (by omega:n<2 ^ 64),Nat.mod_eq_of_lt (by omega:m<2 ^ 64),HY hn,show(2 ^ 64-1-m)%256=255-m by omega]
  have hle:n &&& (255-m)<=n:=hle
  rw[IntWalk.i64_in _ (by omega)]
  rfl
 | f+1=>
  show some (AV.int .u8<|IntKind.u8.wrap (BitVec.ofInt 8 (.ofNat n) &&& ~~~ BitVec.ofInt 8 (.ofNat m)).toNat)=_
  rw[BitVec.toNat_and,BitVec.toNat_not,wf,wf,Nat.mod_eq_of_lt (by omega:n<2 ^ 8),Nat.mod_eq_of_lt (by omega:m<2 ^ 8),show 2 ^ 8-1-m=255-m by omega]
  have:=qp<|Nat.lt_of_le_of_lt hle hn
  show some (AV.int .u8<|IntKind.u8.wrap ((Nat.land n (255-m):Nat):Int))=_
  rw[this]
  rfl
theorem oQ {neg:Bool}{x y w:V}{a b:AV}(hx:VA x a)(hy:VA y b)(h:nz neg x y=some w):∃r,binV (match neg with | true=>.andNot | false=>.and) a b=some r/\VA w r:=by
 unfold nz at h
 split at h
 ·rename_i ht
  obtain⟨n,k1,k2,k3,k4,rfl⟩:=hx.od<|ag ht
  split at h
  ·rename_i m hm
   obtain⟨rfl,m1,m2⟩:=Jm hy hm
   split at h
   ·rename_i hneg
    have main:∀b':Nat,b'<=x.b->(match Nat.beq (Nat.land b' x.d) b' with | true=>some (oy x.f<|Nat.land x.e b') | false=>some<|BA x.f x.e x.d b' x.a)=some w->VA w (.int (kindOf x.f)<|.ofNat<|Nat.land n b'):=by
     intro b' hb' hw
     split at hw
     ·rename_i hk
      have hk:Nat.land b' x.d=b':=ag hk
      cases hw
      have e:Nat.land n b'=Nat.land x.e b':=by
       rw[<- k3,aaA,mj x.d b',hk]
      rw[e]
      refine VA.oy<|Nat.lt_of_le_of_lt (ig _ _) ?_
      have hb:ae=4611686018427387904:=rfl
      omega
     ·cases hw
      exact .bits (v:=BA x.f x.e x.d b' x.a) rfl n k1 k2 k3 (by show b'<256;omega)
    cases neg with
    | false=>
     refine⟨_,MJ (Nat.lt_of_le_of_lt (ig _ _) k4) m1 m2,?_⟩
     rw[aaA]
     exact main _ (by rw[mj];exact Nat.le_trans (ig _ _)<|Nat.le_refl _) h
    | true=>
     have hm2:m<=255:=aj.1<|by grind
     refine⟨_,yD (Nat.lt_of_le_of_lt (ig _ _) k4) hm2,?_⟩
     rw[aaA]
     exact main _ (by rw[mj];exact ig _ _) h
   ·cases h
  ·cases h
 ·cases h
theorem VA.xP {v:V}{n:Int}(ht:v.t=12)(hf:v.f=0)(hn:ed v=n)(hl:(v.d:Int)-2*ae<=n)(hh:n<=(v.e:Int)-2*ae)(he:v.e<18446744073709551616)(hx:v.x=.undef):VA v (.int .i64 n):=by
 have:=VA.sym (v:=v) ht (by grind) (by grind) he (λm hm=>by rw[hx]at hm;cases hm) (λm lo hi hr=>by rw[hx]at hr;cases hr)
 rw[hn,hf]at this
 exact this
theorem iw {x w:V}{a:AV}{n:Nat}(hx:VA x a)(h:jQ x n=some w):∃m:Int,a=.int .i64 m/\VA w (.int .i64 (m+((n:Int)-ae)))/\(-9223372036854775808<=m+((n:Int)-ae)/\m+((n:Int)-ae)<=9223372036854775807):=by
 unfold jQ at h
 split at h
 ·rename_i hk
  obtain⟨h1,hk⟩:=Bool.and_eq_true_iff.1 hk
  obtain⟨h2,hk⟩:=Bool.and_eq_true_iff.1 hk
  obtain⟨h3,hk⟩:=Bool.and_eq_true_iff.1 hk
  obtain⟨h4,hk⟩:=Bool.and_eq_true_iff.1 hk
  obtain⟨h5,h6⟩:=Bool.and_eq_true_iff.1 hk
  have h2:x.f=0:=ag h2
  have h3:ae<=x.b+n:=aj.1 h3
  have h4:ae<=x.d+n:=aj.1 h4
  have h5:ae<=x.e+n:=aj.1 h5
  have h6:x.e+n-ae<18446744073709551616:=aA.1 h6
  obtain⟨rfl,k1,k2,k3,_⟩:=hx.mQ<|ag h1
  cases h
  have hb:(ae:Int)=4611686018427387904:=rfl
  refine⟨ed x,by rw[h2];rfl,?_,?_⟩
  ·refine VA.xP rfl rfl ?_ ?_ ?_ h6 rfl
   ·unfold ed
    grind
   ·grind
   grind
  ·omega
 ·cases h
theorem qm {x w:V}{a:AV}(hx:VA x a)(h:oS x=some w):∃m:Int,a=.int .i64 m/\VA w (.int .i64 (-m))/\(-9223372036854775808<=-m/\-m<=9223372036854775807):=by
 unfold oS at h
 split at h
 ·rename_i hk
  obtain⟨h1,hk⟩:=Bool.and_eq_true_iff.1 hk
  obtain⟨h2,hk⟩:=Bool.and_eq_true_iff.1 hk
  obtain⟨h3,hk⟩:=Bool.and_eq_true_iff.1 hk
  obtain⟨h4,hk⟩:=Bool.and_eq_true_iff.1 hk
  obtain⟨h5,hk⟩:=Bool.and_eq_true_iff.1 hk
  obtain⟨h6,h7⟩:=Bool.and_eq_true_iff.1 hk
  have h2:x.f=0:=ag h2
  have h3:x.c<=1:=aj.1 h3
  have h4:x.b<=ae+ae:=aj.1 h4
  have h5:1<=x.d:=aj.1 h5
  have h6:=aj.1 h6
  have h7:=aj.1 h7
  obtain⟨rfl,k1,k2,k3,_⟩:=hx.mQ<|ag h1
  cases h
  have hb:(ae:Int)=4611686018427387904:=rfl
  refine⟨ed x,by rw[h2];rfl,?_,?_⟩
  ·refine VA.xP rfl rfl ?_ ?_ ?_ (by grind) rfl
   ·have key:x.c=0\/x.c=1:=by omega
    unfold ed
    grind
   ·grind
   grind
  ·omega
 ·cases h
theorem Bq {m n:Int}(h:-9223372036854775808<=m+n/\m+n<=9223372036854775807):binV .add (.int .i64 m) (.int .i64 n)=some (.int .i64 (m+n)):=by
 show Ev.mkI .i64 (iadd m n)=_
 rw[abV,kD h]
theorem F1 {m n:Int}(h:-9223372036854775808<=m-n/\m-n<=9223372036854775807):binV .sub (.int .i64 m) (.int .i64 n)=some (.int .i64 (m-n)):=by
 show Ev.mkI .i64 (vH m n)=_
 rw[rl,kD h]
theorem AL {x y w:V}{a b:AV}(hx:VA x a)(hy:VA y b)(h:wO x y=some w):∃r,binV .add a b=some r/\VA w r:=by
 unfold wO at h
 split at h
 ·rename_i ht
  obtain⟨rfl,_⟩:=hy.CZ<|ag ht
  obtain⟨m,rfl,h1,h2⟩:=iw hx h
  rw[cP]
  exact⟨_,Bq h2,h1⟩
 ·split at h
  ·rename_i ht
   obtain⟨rfl,_⟩:=hx.CZ<|ag ht
   obtain⟨m,rfl,h1,h2⟩:=iw hy h
   rw[cP]
   rw[Int.add_comm]at h1 h2
   exact⟨_,Bq h2,h1⟩
  ·cases h
theorem AO {x y w:V}{a b:AV}(hx:VA x a)(hy:VA y b)(h:symSub x y=some w):∃r,binV .sub a b=some r/\VA w r:=by
 unfold symSub at h
 split at h
 ·rename_i ht
  split at h
  ·rename_i hb
   have hb:y.a<=ae+ae:=aj.1 hb
   obtain⟨rfl,_⟩:=hy.CZ<|ag ht
   obtain⟨m,rfl,h1,h2⟩:=iw hx h
   have e:((ae+ae-y.a:Nat):Int)-ae=-((y.a:Int)-ae):=by omega
   have e2:m+(((ae+ae-y.a:Nat):Int)-ae)=m-eZ y.a:=by rw[e,cP];omega
   have h1:VA w (.int .i64<|m+(((ae+ae-y.a:Nat):Int)-ae)):=h1
   have h2:-9223372036854775808<=m+(((ae+ae-y.a:Nat):Int)-ae)/\m+(((ae+ae-y.a:Nat):Int)-ae)<=9223372036854775807:=h2
   rw[e2]at h1 h2
   exact⟨_,F1 h2,h1⟩
  ·cases h
 ·split at h
  ·rename_i ht
   obtain⟨rfl,_⟩:=hx.CZ<|ag ht
   split at h
   ·rename_i z hz
    obtain⟨m,rfl,h1,h2⟩:=qm hy hz
    obtain⟨m',h3,h4,h5⟩:=iw h1 h
    cases h3
    have e2:-m+((x.a:Int)-ae)=eZ x.a-m:=by rw[cP];omega
    rw[e2]at h4 h5
    exact⟨_,F1 h5,h4⟩
   ·cases h
  ·cases h
theorem Kb {op:BinOp}{x y w:V}{a b:AV}(hx:VA x a)(hy:VA y b)(h:symB op x y=some w):∃r,binV op a b=some r/\VA w r:=by
 unfold symB at h
 split at h
 ·obtain⟨n,m,rfl,rfl,rfl⟩:=symLt_ok hx hy h
  refine⟨.bool<|ilt n m,rfl,?_⟩
  cases ilt n m<;>exact VA.bool _
 ·obtain⟨n,m,rfl,rfl,rfl⟩:=symLt_ok hy hx h
  refine⟨.bool<|ilt n m,rfl,?_⟩
  cases ilt n m<;>exact VA.bool _
 ·obtain⟨n,m,rfl,rfl,rfl⟩:=symLt_ok hy hx h
  refine⟨.bool<|!ilt n m,rfl,?_⟩
  cases ilt n m<;>exact VA.bool _
 ·obtain⟨n,m,rfl,rfl,rfl⟩:=symLt_ok hx hy h
  refine⟨.bool<|!ilt n m,rfl,?_⟩
  cases ilt n m<;>exact VA.bool _
 ·exact AL hx hy h
 ·exact AO hx hy h
 ·exact AN hx hy h
 ·exact AM hx hy h
 ·exact oQ (neg:=false) hx hy h
 ·exact oQ (neg:=true) hx hy h
 ·cases h
theorem wP {q:IntKind}{x w:V}{a:AV}(hx:VA x a)(h:symConv q x=some w):∃k n,a=.int k n/\mkI q n=some (.int q n)/\VA w (.int q n):=by
 unfold symConv at h
 split at h
 ·split at h
  ·rename_i ht
   split at h
   ·rename_i hf
    have hf:=aj.1 hf
    cases h
    have hb:(ae:Int)=4611686018427387904:=rfl
    rcases Bool.or_eq_true_iff.1 ht with h1|h1
    ·have h1:x.t=12:=ag h1
     have hres:=λm lo hi hr=>hx.Fu h1 (m:=m) (lo:=lo) (hi:=hi) hr
     obtain⟨rfl,k1,k2,k3,k4⟩:=hx.mQ h1
     refine⟨_,_,rfl,kD<|by omega,?_⟩
     exact VA.sym (v:=⟨[],x.x,x.t,0,x.e,x.d,x.c,x.b,x.a⟩) h1 k1 k2 k3 k4 hres
    ·have h1:x.t=14:=ag h1
     obtain⟨n,k1,k2,k3,k4,rfl⟩:=hx.od h1
     have:=ig n x.b
     refine⟨_,_,rfl,kD<|by omega,?_⟩
     exact .bits (v:=⟨[],x.x,x.t,0,x.e,x.d,x.c,x.b,x.a⟩) h1 n k1 k2 k3 k4
   ·cases h
  ·cases h
 ·cases h
theorem F2 {mx:Bool}{x y w:V}{a b:AV}(hx:VA x a)(hy:VA y b)(h:R2 mx x y=some w):∃r,mm mx a b=some r/\VA w r:=by
 unfold R2 at h
 split at h
 ·rename_i hk
  obtain⟨ku,kv⟩:=Bool.and_eq_true_iff.1 hk
  obtain⟨n,rfl,a1,a2,_⟩:=gl hx ku
  obtain⟨m,rfl,b1,b2,_⟩:=gl hy kv
  split at h
  ·rename_i hb
   have hb:=aj.1 hb
   cases mx with
   | true=>
    refine⟨_,rfl,?_⟩
    rw[du]
    grind
   | false=>
    cases h
    refine⟨_,rfl,?_⟩
    rw[du,decide_eq_false (by omega:¬m<n)]
    exact hx
  ·split at h
   ·rename_i hb
    have hb:=aj.1 hb
    cases mx with
    | true=>
     cases h
     refine⟨_,rfl,?_⟩
     rw[du,decide_eq_false (by omega:¬n<m)]
     exact hx
    | false=>
     refine⟨_,rfl,?_⟩
     rw[du]
     grind
   ·cases h
 ·cases h
theorem mmSy_ok {mx:Bool}:∀{vs:List V}{as:List AV}{w:V},VAs vs as->Qm mx vs=some w->∃a l r,as=a::l/\aw (mm mx) l a=some r/\VA w r:=by
 have go:∀{vs:List V}{as:List AV},VAs vs as->∀{v w:V}{a:AV},VA v a->aw (λu w=>R2 mx u w) vs v=some w->∃r,aw (mm mx) as a=some r/\VA w r:=by
  intro vs as h
  induction h with
  | nil=>intro v w a hv h;cases h;exact⟨a,rfl,hv⟩
  | @cons u b us bs hu _ ih=>
   intro v w a hv h
   have h:(match R2 mx v u with | some s=>aw (λu w=>R2 mx u w) us s | none=>none)=some w:=by
    cases hs:R2 mx v u with
    | none=>
     have e:aw (λu w=>R2 mx u w) (u::us) v=(Option.rec (motive:=λ_=>Option V) none (aw (λu w=>R2 mx u w) us)<|R2 mx v u):=rfl
     rw[e,hs]at h;exact h
    | some s=>
     have e:aw (λu w=>R2 mx u w) (u::us) v=(Option.rec (motive:=λ_=>Option V) none (aw (λu w=>R2 mx u w) us)<|R2 mx v u):=rfl
     rw[e,hs]at h;exact h
   split at h
   ·rename_i s hs
    obtain⟨r,h1,h2⟩:=F2 hv hu hs
    obtain⟨r',h3,h4⟩:=ih h2 h
    refine⟨r',?_,h4⟩
    have e:aw (mm mx) (b::bs) a=(Option.rec (motive:=λ_=>Option AV) none (aw (mm mx) bs)<|mm mx a b):=rfl
    rw[e,h1];exact h3
   ·cases h
 intro vs as w h hk
 cases h with
 | nil=>cases hk
 | cons hv hl=>obtain⟨r,h1,h2⟩:=go hl hv hk;grind
theorem fu {op:BinOp}{x y:V}{a b:AV}{f:V->Bool}(hx:VA x a)(hy:VA y b)(h:aab op x y f=true):∃r v,binV op a b=some r/\VA v r/\f v=true:=by
 unfold aab at h
 rcases aJ h with⟨_,h⟩|⟨_,h⟩
 ·obtain⟨w,h1,h⟩:=aY h
  obtain⟨r,h2,h3⟩:=Kb hx hy h1
  grind
 obtain⟨a',h1,h⟩:=aY h
 obtain⟨b',h2,h⟩:=aY h
 obtain⟨r,h3,h⟩:=aY h
 rw[eM hx h1,eM hy h2]
 exact⟨r,_,h3,VA.mkV r,h⟩
theorem H8 {op:BinOp}{x y:V}{a b:AV}{f:V->Bool}(hx:VA x a)(hy:VA y b)(h:(Tn op).run x y f=true):∃r v,binV op a b=some r/\VA v r/\f v=true:=by
 cases op with
 | add=>
  have h:af (eO x y) (RS (Nat.add x.a y.a) f<|aab .add x y f) (aab .add x y f)=true:=h
  rcases aJ h with⟨hb,h⟩|⟨_,h⟩
  ·obtain⟨rfl,rfl⟩:=fX hx hy hb
   unfold RS at h
   rcases aJ h with⟨h2,h⟩|⟨_,h⟩
   ·obtain⟨k1,k2⟩:=xg (.inl<|ag h2)
    exact⟨_,_,k2,VA.mkI k1,h⟩
   ·rcases aJ h with⟨h2,h⟩ | ⟨_,h⟩
    ·obtain⟨k1,k2⟩:=xg (.inr<|ag h2)
     exact⟨_,_,k2,VA.mkI k1,h⟩
    ·exact fu hx hy h
  ·exact fu hx hy h
 | sub=>
  have h:af (eO x y) (af (Nat.beq (Nat.div (Nat.sub (Nat.add x.a ae) y.a) ae) 1) (f<|vI<|Nat.sub (Nat.add x.a ae) y.a)<|aab .sub x y f) (aab .sub x y f)=true:=h
  rcases aJ h with⟨hb,h⟩|⟨_,h⟩
  ·obtain⟨rfl,rfl⟩:=fX hx hy hb
   rcases aJ h with⟨h2,h⟩|⟨_,h⟩
   ·obtain⟨k1,k2⟩:=FZ (ag h2)
    exact⟨_,_,k2,VA.mkI k1,h⟩
   ·exact fu hx hy h
  ·exact fu hx hy h
 | lss=>
  have h:af (eO x y) (f<|vB<|Nat.blt x.a y.a) (aab .lss x y f)=true:=h
  rcases aJ h with⟨hb,h⟩|⟨_,h⟩
  ·obtain⟨rfl,rfl⟩:=fX hx hy hb
   refine⟨.bool<|ilt (eZ x.a)<|eZ y.a,_,rfl,?_,h⟩
   rw[nu];exact VA.bool _
  ·exact fu hx hy h
 | leq=>
  have h:af (eO x y) (f<|vB<|Nat.ble x.a y.a) (aab .leq x y f)=true:=h
  rcases aJ h with⟨hb,h⟩|⟨_,h⟩
  ·obtain⟨rfl,rfl⟩:=fX hx hy hb
   refine⟨.bool<|!ilt (eZ y.a) (eZ x.a),_,rfl,?_,h⟩
   rw[nu,<- xh];exact VA.bool _
  ·exact fu hx hy h
 | gtr=>
  have h:af (eO x y) (f<|vB<|Nat.blt y.a x.a) (aab .gtr x y f)=true:=h
  rcases aJ h with⟨hb,h⟩|⟨_,h⟩
  ·obtain⟨rfl,rfl⟩:=fX hx hy hb
   refine⟨.bool<|ilt (eZ y.a)<|eZ x.a,_,rfl,?_,h⟩
   rw[nu];exact VA.bool _
  ·exact fu hx hy h
 | geq=>
  have h:af (eO x y) (f<|vB<|Nat.ble y.a x.a) (aab .geq x y f)=true:=h
  rcases aJ h with⟨hb,h⟩|⟨_,h⟩
  ·obtain⟨rfl,rfl⟩:=fX hx hy hb
   refine⟨.bool<|!ilt (eZ x.a) (eZ y.a),_,rfl,?_,h⟩
   rw[nu,<- xh];exact VA.bool _
  ·exact fu hx hy h
 | _=>exact fu hx hy h
def Zo (neg r:Bool):Bool:=match neg with | true=>!r | false=>r
theorem qV {neg:Bool}{p:dC}{x y:V}{a b:AV}{f:V->Bool}(hx:VA x a)(hy:VA y b)(h:vi neg p x y f=true):∃r v,eqBy 20 p a b=some r/\VA v (.bool (Zo neg r))/\f v=true:=by
 unfold vi at h
 have sy:aE (symE p x y) (λb=>f<|vB<|af neg (af b false true) b)=true->∃r v,eqBy 20 p a b=some r/\VA v (.bool<|Zo neg r)/\f v=true:=by
  intro h
  obtain⟨r,h3,h⟩:=aY h
  refine⟨r,_,Kc hx hy h3,?_,h⟩
  cases neg<;>cases r<;>exact VA.bool _
 cases h1:av x with
 | none=>rw[h1]at h;exact sy h
 | some a'=>
  rw[h1]at h
  cases h2:av y with
  | none=>rw[h2]at h;exact sy h
  | some b'=>
   rw[h2]at h
   obtain⟨r,h3,h⟩:=aY h
   rw[eM hx h1,eM hy h2]
   rw[eqByF_eq]at h3
   refine⟨r,_,h3,?_,h⟩
   cases neg<;>cases r<;>exact VA.bool _
theorem Io {neg:Bool}{p:dC}{x y:V}{a b:AV}{f:V->Bool}(hx:VA x a)(hy:VA y b)(h:(TD neg p).run x y f=true):∃r v,eqBy 20 p a b=some r/\VA v (.bool (Zo neg r))/\f v=true:=by
 cases p with
 | pi=>
  cases neg with
  | true=>
   have h:af (eO x y) (f<|vB<|af (Nat.beq x.a y.a) false true) (vi true .pi x y f)=true:=h
   rcases aJ h with⟨hb,h⟩|⟨_,h⟩
   ·obtain⟨rfl,rfl⟩:=fX hx hy hb
    refine⟨ieq (eZ x.a)<|eZ y.a,_,rfl,?_,h⟩
    rw[xI]
    cases Nat.beq x.a y.a<;>exact VA.bool _
   ·exact qV hx hy h
  | false=>
   have h:af (eO x y) (f<|vB<|Nat.beq x.a y.a) (vi false .pi x y f)=true:=h
   rcases aJ h with⟨hb,h⟩|⟨_,h⟩
   ·obtain⟨rfl,rfl⟩:=fX hx hy hb
    refine⟨ieq (eZ x.a)<|eZ y.a,_,rfl,?_,h⟩
    rw[xI]
    exact VA.bool _
   ·exact qV hx hy h
 | _=>exact qV hx hy h
theorem kF {v:V}{a:AV}{y n:Bool}(hv:VA v a)(h:gj v y n=true):(a=.bool true/\y=true)\/(a=.bool false/\n=true):=by
 unfold gj at h
 rcases aJ h with⟨hb,h⟩|⟨_,h⟩
 ·exact .inl ⟨hv.U8<|ag hb,h⟩
 ·obtain⟨hb,h⟩:=au h
  exact .inr ⟨hv.V8<|ag hb,h⟩
theorem ek {v:V}{a:AV}{f:Nat->Bool}(hv:VA v a)(h:dk v f=true):∃n,a=.int .i64 (.ofNat n)/\f n=true:=by
 unfold dk at h
 obtain⟨hb,h⟩:=au h
 obtain⟨h1,h2⟩:=aW hb
 obtain⟨e,_⟩:=hv.CZ<|ag h1
 have hle:ae<=v.a:=aj.1 h2
 rw[Ga hle]at e
 grind
theorem dW {α:Type}{x:List α}{r:α}{f:α->Bool}(h:c9 x f=true)(hr:x=[r]):f r=true:=by subst hr;exact h
theorem kd {a:AV}(h:a.one=true):partCells 1 a=some [a]:=by
 cases a<;>first | rfl | cases h
theorem de {cs:List AV}{n:Nat}(h:cs.length=n):partCells n (.agg cs)=some cs:=by
 show(match Nat.beq (aK cs) n with | true=>some cs | false=>none)=_
 rw[ar,h,bN]
theorem VA.Qt {v:V}{a:AV}(h:VA v a)(ht:11<v.t):a.one=true:=by
 cases h with
 | sym h hl hh he hx hr=>rfl
 | bits h n hn hs he hb=>rfl
 | te=>rfl
 | pf=>rfl
 | DM h h1 h2 h3=>exact h1
 | oH h hb n hn _ _ _ _=>unfold oslA;split<;>rfl
 | _=>omega
theorem rI {v:V}{a:AV}{f:V->Bool}(hv:VA v a)(h:Ae v f=true):∃c w,partCells 1 a=some [c]/\VA w c/\f w=true:=by
 unfold Ae at h
 rcases aJ h with⟨hb,h⟩|⟨_,h⟩
 ·exact⟨a,v,kd<|hv.one<|aA.1 hb,hv,h⟩
 ·rcases aJ h with⟨hb,h⟩ | ⟨_,h⟩
  rotate_left
  ·obtain⟨hb,h⟩:=au h
   exact⟨a,v,kd<|hv.Qt<|aA.1 hb,hv,h⟩
  obtain⟨h1,h2⟩:=aW hb
  obtain⟨cs,r,rfl,hr,hc,hl,hcell⟩:=hv.A8<|ag h1
  have h:=dW h hr
  rw[a6]at h
  have vn:v.b=1:=ag h2
  rw[vn]at hc
  match cs,hc with
  | [c],_=>
   refine⟨c,_,de rfl,?_,h⟩
   rw[eX]
   exact hcell 0 c rfl
theorem RC {n o:Nat}{v:V}{a:AV}{r:R V}{f:R V->Bool}(hv:VA v a)(hl:o+n<=4180)(h:(Zy n o).run v r f=true) :
  ∃cs r',partCells n a=some cs/\cs.length=n/\(∀i c,cs[i]?=some c->VA (atR (o+i) r') c)/\(∀j,j<4180->¬(o<=j/\j<o+n)->atR j r'=atR j r)/\f r'=true:=by
 have Kr:∀n,o+n<=4180->af (aU (Nat.beq v.t 9)<|Nat.beq v.b n) (c9 v.r λs=>j8 v.a λi=>f<|uy s n i o r) false=true->
   ∃cs r',partCells n a=some cs/\cs.length=n/\(∀i c,cs[i]?=some c->VA (atR (o+i) r') c)/\(∀j,j<4180->¬(o<=j/\j<o+n)->atR j r'=atR j r)/\f r'=true:=by
  intro n hl h
  obtain⟨hb,h⟩:=au h
  obtain⟨h1,h2⟩:=aW hb
  obtain⟨cs,s,rfl,hr,hc,hl',hcell⟩:=hv.A8<|ag h1
  rw[hr,xU,a6]at h
  have Uf:=ag h2
  rw[Uf]at hc hl'
  refine⟨cs,_,de hc,hc,λi c hi=>?_,λj hj hn=>?_,h⟩
  ·obtain⟨hlt,_⟩:=List.getElem?_eq_some_iff.1 hi
   rw[f9 _ _ _ _ _ _ hl (by omega),if_pos<|by omega,show v.a+(o+i-o)=v.a+i by omega]
   grind
  ·rw[f9 _ _ _ _ _ _ hl hj,if_neg hn]
 match n,hl,h with
 | 0,hl,h=>exact Kr 0 hl h
 | 1,hl,h=>
  obtain⟨c,w,k1,k2,k3⟩:=rI hv (f:=λv=>f<|(da o).p V v r) h
  refine⟨[c],_,k1,rfl,λi x hi=>?_,λj hj hn=>?_,k3⟩
  ·match i,hi with
   | 0,hi=>
    cases hi
    rw[(dr o V).2,dV (by omega)<|by omega,if_pos<|by omega]
    exact k2
  ·rw[(dr o V).2,dV (by omega) hj,if_neg<|by omega]
 | n+2,hl,h=>exact Kr (n+2) hl h
theorem D3 {n:Nat}{v:V}{a:AV}{f:R V->Bool}(hv:VA v a)(hl:n<=4180)(h:(VE n).run v f=true):∃cs r,partCells n a=some cs/\fQ n r cs/\f r=true:=by
 have Kr:∀n,n<=4180->af (aU (Nat.beq v.t 9)<|Nat.beq v.b n) (c9 v.r λs=>j8 v.a λi=>af (Nat.beq i 0) (f s)<|f<|uy s n i 0 cT) false=true->∃cs r,partCells n a=some cs/\fQ n r cs/\f r=true:=by
  intro n hl h
  obtain⟨hb,h⟩:=au h
  obtain⟨h1,h2⟩:=aW hb
  obtain⟨cs,s,rfl,hr,hc,hl',hcell⟩:=hv.A8<|ag h1
  rw[hr,xU,a6]at h
  have Uf:=ag h2
  rw[Uf]at hc hl'
  rcases aJ h with⟨h0,h⟩|⟨_,h⟩
  ·have h0:=ag h0
   refine⟨cs,s,de hc,⟨hc,hl,λi c hi=>?_⟩,h⟩
   grind
  ·refine⟨cs,_,de hc,⟨hc,hl,λi c hi=>?_⟩,h⟩
   obtain⟨hlt,_⟩:=List.getElem?_eq_some_iff.1 hi
   rw[f9 _ _ _ _ _ _ (by omega) (by omega),if_pos<|by omega,Nat.sub_zero]
   grind
 match n,hl,h with
 | 0,hl,h=>exact Kr 0 hl h
 | 1,hl,h=>
  obtain⟨c,w,k1,k2,k3⟩:=rI hv (f:=λv=>f<|(da 0).p V v cT) h
  refine⟨[c],_,k1,⟨rfl,hl,λi x hi=>?_⟩,k3⟩
  match i,hi with
  | 0,hi=>
   cases hi
   exact k2
 | n+2,hl,h=>exact Kr (n+2) hl h
theorem rowA_ok {cs:List AV}(h:cs.length<=4180):fQ cs.length (rowA cs) cs:=by
 refine⟨rfl,h,λi a ha=>?_⟩
 have:=fL (o:=0) (r:=cT) (by omega) (λc _=>VA.mkV c) i a ha
 rwa [Nat.zero_add]at this
end Go.Ev
