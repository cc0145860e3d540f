/- Walks and rules. Conditions: none. -/
import Derived.Test.YtbgjkfbeofbngaaGreatEvA
import Derived.Laws.AppendOwn
import Derived.Laws.CopyRow
import Derived.Laws.StructEq
import Derived.Laws.Tables
set_option linter.unusedVariables false
set_option linter.unusedSectionVars false
namespace Go.Ev
section lists
variable {α β:Type}
theorem zT (a:α)(l:List α)(n:Nat):dJ (a::l) (n+1)=dJ l n:=rfl
theorem cY (l:List α):∀n,dJ l n=l[n]?:=by
 induction l with
 | nil=>intro n;rfl
 | cons a l ih=>intro n;cases n with
  | zero=>rfl
  | succ n=>rw[zT,ih n];rfl
theorem vL (a:α)(l:List α)(n:Nat):cu (n+1) (a::l)=cu n l:=rfl
theorem cw:∀(n:Nat)(l:List α),cu n l=l.drop n:=by
 intro n
 induction n with
 | zero=>intro l;rfl
 | succ n ih=>intro l;cases l with
  | nil=>rfl
  | cons a l=>rw[vL,ih l];rfl
theorem ou (a:α)(l:List α)(n:Nat):bV (n+1) (a::l)=Option.rec (motive:=λ_=>Option (List α)) none (λr=>some (a::r)) (bV n l):=rfl
theorem ly:∀(n:Nat)(l r:List α),bV n l=some r->r=l.take n/\n<=l.length:=by
 intro n
 induction n with
 | zero=>intro l r h;cases h;simp
 | succ n ih=>intro l r h;cases l with
  | nil=>cases h
  | cons a l=>
   rw[ou]at h
   cases h':bV n l with
   | none=>rw[h']at h;cases h
   | some q=>
    rw[h']at h
    grind
theorem cK (n:Nat)(l:List α)(h:n<=l.length):bV n l=some (l.take n):=by
 induction n generalizing l with
 | zero=>rfl
 | succ n ih=>cases l with
  | nil=>simp at h
  | cons a l=>rw[ou,ih l<|by simpa using h];simp
theorem aN (l m:List α):bI l m=l++m:=by
 induction l with
 | nil=>rfl
 | cons a l ih=>exact congrArg (a::·) ih
theorem ar (l:List α):aK l=l.length:=by
 induction l with
 | nil=>rfl
 | cons a l ih=>exact congrArg Nat.succ ih
theorem ja (f:α->Option β)(a:α)(l:List α):aI f (a::l)=Option.rec (motive:=λ_=>Option (List β)) none (λb=>Option.rec (motive:=λ_=>Option (List β)) none (λbs=>some (b::bs)) (aI f l)) (f a):=rfl
theorem aV (f:α->Option β)(a:α)(l:List α)(r:List β):aI f (a::l)=some r↔∃b bs,f a=some b/\aI f l=some bs/\r=b::bs:=by
 rw[ja]
 cases f a with
 | none=>simp
 | some b=>cases aI f l with
  | none=>simp
  | some bs=>simp[eq_comm]
theorem dI (f:β->α->Option β)(b:β):aw f [] b=some b:=rfl
theorem eg (f:β->α->Option β)(a:α)(l:List α)(b:β):aw f (a::l) b=Option.rec (motive:=λ_=>Option β) none (aw f l) (f b a):=rfl
theorem ah (f:β->α->Option β)(a:α)(l:List α)(b c:β):aw f (a::l) b=some c↔∃b',f b a=some b'/\aw f l b'=some c:=by
 rw[eg]
 cases f b a with
 | none=>simp
 | some b'=>simp
theorem C8 (f:α->Bool):d9 f []=true:=rfl
theorem vK (f:α->Bool)(a:α)(l:List α):d9 f (a::l)=Bool.rec (motive:=λ_=>Bool) false (d9 f l) (f a):=rfl
theorem bR (f:α->Bool)(a:α)(l:List α):d9 f (a::l)=true↔f a=true/\d9 f l=true:=by
 rw[vK]
 cases f a<;>simp
theorem gI (f:α->Bool)(l:List α):d9 f l=true↔∀a∈l,f a=true:=by
 induction l with
 | nil=>simp[C8]
 | cons a l ih=>simp[bR,ih]
theorem kE (f:Nat->β->Option β)(i:Nat)(b:β):eh f 0 i b=some b:=rfl
theorem tG (f:Nat->β->Option β)(n i:Nat)(b:β):eh f (n+1) i b=Option.rec (motive:=λ_=>Option β) none (λb'=>eh f n (Nat.succ i) b') (f i b):=rfl
theorem cZ (f:Nat->β->Option β)(n i:Nat)(b c:β):eh f (n+1) i b=some c↔∃b',f i b=some b'/\eh f n (i+1) b'=some c:=by
 rw[tG]
 cases f i b with
 | none=>simp
 | some b'=>simp
theorem aL (n:Nat)(k:Nat->α):force n k=k n:=by cases n<;>rfl
end lists
section tries
variable {α:Type}
@[simp] theorem Tr.eK (p:qv):(Tr.lf:Tr α).lH p=none:=by cases p <;> rfl
section eqs
variable (v x:Option α)(a b c d:Tr α)(p:qv)
theorem Tr.oJ:(Tr.nd v a b c d).lH .z=v:=rfl
theorem Tr.jH:(Tr.nd v a b c d).lH (.c0 p)=a.lH p:=rfl
theorem Tr.jI:(Tr.nd v a b c d).lH (.c1 p)=b.lH p:=rfl
theorem Tr.jJ:(Tr.nd v a b c d).lH (.c2 p)=c.lH p:=rfl
theorem Tr.jK:(Tr.nd v a b c d).lH (.c3 p)=d.lH p:=rfl
theorem Tr.D5:(Tr.nd v a b c d).fU x .z=.nd x a b c d:=rfl
theorem Tr.rN:(Tr.nd v a b c d).fU x (.c0 p)=.nd v (a.fU x p) b c d:=rfl
theorem Tr.rO:(Tr.nd v a b c d).fU x (.c1 p)=.nd v a (b.fU x p) c d:=rfl
theorem Tr.rP:(Tr.nd v a b c d).fU x (.c2 p)=.nd v a b (c.fU x p) d:=rfl
theorem Tr.rQ:(Tr.nd v a b c d).fU x (.c3 p)=.nd v a b c (d.fU x p):=rfl
theorem Tr.Dq:(Tr.lf:Tr α).fU x .z=.nd x .lf .lf .lf .lf:=rfl
theorem Tr.rA:(Tr.lf:Tr α).fU x (.c0 p)=.nd none ((Tr.lf:Tr α).fU x p) .lf .lf .lf:=rfl
theorem Tr.rB:(Tr.lf:Tr α).fU x (.c1 p)=.nd none .lf ((Tr.lf:Tr α).fU x p) .lf .lf:=rfl
theorem Tr.rC:(Tr.lf:Tr α).fU x (.c2 p)=.nd none .lf .lf ((Tr.lf:Tr α).fU x p) .lf:=rfl
theorem Tr.rD:(Tr.lf:Tr α).fU x (.c3 p)=.nd none .lf .lf .lf ((Tr.lf:Tr α).fU x p):=rfl
end eqs
theorem Tr.je (x:Option α)(p:qv):∀t:Tr α,(t.fU x p).lH p=x:=by
 induction p with
 | z=>intro t;cases t<;>simp only[Tr.Dq,Tr.D5,Tr.oJ]
 | c0 p ih=>intro t;cases t<;>simp only[Tr.rA,Tr.rN,Tr.jH,ih]
 | c1 p ih=>intro t;cases t<;>simp only[Tr.rB,Tr.rO,Tr.jI,ih]
 | c2 p ih=>intro t;cases t<;>simp only[Tr.rC,Tr.rP,Tr.jJ,ih]
 | c3 p ih=>intro t;cases t<;>simp only[Tr.rD,Tr.rQ,Tr.jK,ih]
theorem Tr.iE (x:Option α)(p:qv):∀(q:qv)(t:Tr α),p≠q->(t.fU x p).lH q=t.lH q:=by
 induction p with
 | z=>intro q t h;cases t<;>cases q<;>first | grind | simp only[Tr.Dq,Tr.D5,Tr.jH,Tr.jI,Tr.jJ,Tr.jK,Tr.eK]
 | c0 p ih=>
  intro q t h
  cases q with
  | c0 q=>
   have hq:p≠q:=λe=>h<|by rw[e]
   cases t<;>simp only[Tr.rA,Tr.rN,Tr.jH,ih q _ hq,Tr.eK]
  | _=>cases t<;>simp only[Tr.rA,Tr.rN,Tr.oJ,Tr.jI,Tr.jJ,Tr.jK,Tr.eK]
 | c1 p ih=>
  intro q t h
  cases q with
  | c1 q=>
   have hq:p≠q:=λe=>h<|by rw[e]
   cases t<;>simp only[Tr.rB,Tr.rO,Tr.jI,ih q _ hq,Tr.eK]
  | _=>cases t<;>simp only[Tr.rB,Tr.rO,Tr.oJ,Tr.jH,Tr.jJ,Tr.jK,Tr.eK]
 | c2 p ih=>
  intro q t h
  cases q with
  | c2 q=>
   have hq:p≠q:=λe=>h<|by rw[e]
   cases t<;>simp only[Tr.rC,Tr.rP,Tr.jJ,ih q _ hq,Tr.eK]
  | _=>cases t<;>simp only[Tr.rC,Tr.rP,Tr.oJ,Tr.jH,Tr.jI,Tr.jK,Tr.eK]
 | c3 p ih=>
  intro q t h
  cases q with
  | c3 q=>
   have hq:p≠q:=λe=>h<|by rw[e]
   cases t<;>simp only[Tr.rD,Tr.rQ,Tr.jK,ih q _ hq,Tr.eK]
  | _=>cases t<;>simp only[Tr.rD,Tr.rQ,Tr.oJ,Tr.jH,Tr.jI,Tr.jJ,Tr.eK]
theorem kI (f:Nat):fm f 0=.z:=by cases f<;>rfl
theorem fM (f m:Nat):fm (f+1) (m+1) =
  if m%4=0 then .c0 (fm f<|m/4)else if m%4=1 then .c1 (fm f<|m/4)else if m%4=2 then .c2 (fm f<|m/4)else .c3 (fm f<|m/4):=by
 have h:fm (f+1) (m+1)=Nat.rec (motive:=λ_=>qv) (.c0<|fm f<|m/4) (λr1 _=>Nat.rec (motive:=λ_=>qv) (.c1<|fm f<|m/4) (λr2 _=>Nat.rec (motive:=λ_=>qv) (.c2<|fm f<|m/4) (λ_ _=>.c3<|fm f<|m/4) r2) r1) (m%4):=rfl
 rw[h]
 have h4:m%4<4:=Nat.mod_lt _<|by decide
 generalize m%4=r at *
 match r,h4 with
 | 0,_=>rfl
 | 1,_=>rfl
 | 2,_=>rfl
 | 3,_=>rfl
theorem Au:∀(f i j:Nat),i<=f->∀g,j<=g->fm f i=fm g j->i=j:=by
 intro f
 induction f with
 | zero=>
  intro i j hi g hj h
  have:i=0:=by omega
  subst this
  cases j with
  | zero=>rfl
  | succ m=>
   cases g with
   | zero=>omega
   | succ g=>
    rw[kI,fM]at h
    repeat' split at h
    all_goals cases h
 | succ f ih=>
  intro i j hi g hj h
  cases i with
  | zero=>
   cases j with
   | zero=>rfl
   | succ m=>
    cases g with
    | zero=>omega
    | succ g=>
     rw[kI,fM]at h
     repeat' split at h
     all_goals cases h
  | succ m=>
   cases j with
   | zero=>
    rw[kI,fM]at h
    repeat' split at h
    all_goals cases h
   | succ k=>
    cases g with
    | zero=>omega
    | succ g=>
     rw[fM,fM]at h
     grind
theorem yf {i j:Nat}(h:So i=So j):i=j:=Au i i j (Nat.le_refl _) j (Nat.le_refl _) h
theorem Tr.vk (i:Nat):(Tr.lf:Tr α).get i=none:=Tr.eK _
theorem Tr.a8 (t:Tr α)(i:Nat)(x:α):(t.put i x).get i=some x:=Tr.je _ _ _
theorem Tr.bi (t:Tr α){i j:Nat}(x:α)(h:i≠j):(t.put i x).get j=t.get j:=Tr.iE _ _ _ _ (λe=>h (yf e))
theorem Tr.aR (t:Tr α)(i j:Nat)(x:α):(t.put i x).get j=if i=j then some x else t.get j:=by
 by_cases h:i=j
 ·subst h;rw[if_pos rfl];exact Tr.a8 t i x
 ·rw[if_neg h];exact Tr.bi t x h
theorem Tr.gb (t:Tr α)(i j:Nat):(t.del i).get j=if i=j then none else t.get j:=by
 by_cases h:i=j
 ·subst h;rw[if_pos rfl];exact Tr.je _ _ _
 ·rw[if_neg h];exact Tr.iE _ _ _ _<|λe=>h<|yf e
end tries
theorem Heap.aR (H:Heap)(i j:Nat)(o:bv):(H.put i o).get j=if i=j then some o else H.get j:=Tr.aR _ _ _ _
theorem Heap.gb (H:Heap)(i j:Nat):(H.del i).get j=if i=j then none else H.get j:=Tr.gb _ _ _
theorem Heap.oz (H:Heap)(i:Nat):(H.del i).next=H.next:=rfl
theorem Heap.Cl (H:Heap)(o:bv)(j:Nat):(H.new o).2.get j=if H.next=j then some o else H.get j:=Tr.aR _ _ _ _
theorem Heap.gO (H:Heap)(o:bv):(H.new o).2.next=H.next+1:=rfl
theorem qi (l:List (List AV)):∀(t:Tr (List AV))(k:Nat)(r:Tr (List AV) × Nat),aw (λ(s:Tr (List AV) × Nat)row=>some (s.1.put s.2 row,Nat.succ s.2)) l (t,k)=some r ->
  r.2=k+l.length/\∀i,r.1.get i=if k<=i/\i<k+l.length then l[i-k]? else t.get i:=by
 induction l with
 | nil=>intro t k r h;cases h;grind
 | cons a l ih=>
  intro t k r h
  obtain⟨b',hb,hr⟩:=(ah _ _ _ _ _).1 h
  cases hb
  obtain⟨h1,h2⟩:=ih _ _ _ hr
  refine⟨by grind,λi=>?_⟩
  rw[h2]
  by_cases hi:k=i
  ·subst hi
   rw[if_neg (by omega),if_pos<|by simp,Tr.a8]
   simp
  ·rw[Tr.bi _ _ hi]
   by_cases hc:k+1<=i/\i<k+1+l.length
   ·rw[if_pos hc,if_pos<|by grind]
    have e:i-k=(i-(k+1))+1:=by omega
    rw[e,List.getElem?_cons_succ]
   grind
theorem cB {l:List (List AV)}{t:Tr (List AV)}(h:rowsOf l=some t)(i:Nat):t.get i=l[i]?:=by
 unfold rowsOf at h
 split at h
 ·rename_i s hs
  cases h
  obtain⟨_,h2⟩:=qi l _ _ _ hs
  rw[h2]
  by_cases hi:i<l.length
  ·grind
  ·rw[if_neg (by omega),Tr.vk,List.getElem?_eq_none<|by omega]
 ·cases h
end Go.Ev
namespace Go.Ev
structure Gd where
 b:Nat
 sh:Nat
 xi:Nat
 sz:Nat
 /-- aa5 lies there,if it is never written. -/
 ro:Option Obj
abbrev G:=Nat->Option Gd
def G.le (g g':G):Prop:=∀b d,g b=some d->g' b=some d
theorem G.le.refl (g:G):G.le g g:=λ_ _ h=>h
theorem G.le.trans {g g' VW:G}(h:G.le g g')(h':G.le g' VW):G.le g VW:=λb d e=>h' b d (h b d e)
def G.put (g:G)(b:Nat)(d:Gd):G:=λi=>if b=i then some d else g i
theorem G.bz (g:G)(b:Nat)(d:Gd):g.put b d b=some d:=if_pos rfl
theorem G.cM (g:G){b i:Nat}(d:Gd)(h:b≠i):g.put b d i=g i:=if_neg h
theorem G.vO (g:G)(b:Nat)(d:Gd)(h:g b=none):G.le g (g.put b d):=by
 intro i e hi
 by_cases hb:b=i
 ·grind
 ·rw[G.cM g d hb];exact hi
def gX (d:Gd)(p:Pl):Addr:=⟨d.b,d.sh+p.r*d.sz+p.o,none⟩
mutual
def VR (g:G):AV->Value->Prop
 | .bool b,x=>x=.bool b
 | .int k n,x=>x=.int k n
 | .str s,x=>x=.string s
 | .ptr none,x=>x=.pointer none
 | .ptr (some p),x=>∃d,g p.b=some d/\x=.pointer (some<|gX d p)
 | .slice none l c s _,x=>s=false/\x=.slice none l c
 | .slice (some p) l c s rw,x=>∃d,g p.b=some d/\(rw≠0->rw=d.sz/\p.o=0)/\x=.slice (some<|gX d p) l (if s=true then c+d.xi else c)
 | .empty,x=>∃a c,x=.slice (some a) 0 c
 | .map none,x=>x=.map none
 | .map (some b),x=>∃d,g b=some d/\x=.map (some d.b)
 | .func f a b,x=>∃xs ys,VRs g a xs/\VRs g b ys/\x=.func (.func f) xs.toArray ys.toArray
 | .mfunc n r,x=>∃y,VR g r y/\x=.func (.method n) #[y] #[]
 | .yield l,x=>∃d,g l=some d/\x=.func (.yield d.b) #[] #[]
 | .nilFunc,x=>x=.nilFunc
 | .iface t v,x=>∃y,VR g v y/\x=.iface t y
 | .nilIface,x=>x=.nilIface
 | .agg cs,x=>∃xs,VRs g cs xs/\(∀y∈xs,y.oneCell'=true)/\x=.agg xs.toArray
 | .tuple vs,x=>∃xs,VRs g vs xs/\x=.tuple xs.toArray
def VRs (g:G):List AV->List Value->Prop
 | [],xs=>xs=[]
 | v::vs,xs=>∃y ys,VR g v y/\VRs g vs ys/\xs=y::ys
end
mutual
theorem VR.mono {g g':G}(hg:G.le g g'):∀(v:AV)(x:Value),VR g v x->VR g' v x
 | .bool _,_,h=>h
 | .int _ _,_,h=>h
 | .str _,_,h=>h
 | .ptr none,_,h=>h
 | .ptr (some p),_,⟨d,hd,e⟩=>⟨d,hg _ _ hd,e⟩
 | .slice none _ _ _ _,_,h=>h
 | .slice (some p) _ _ _ _,_,⟨d,hd,e⟩=>⟨d,hg _ _ hd,e⟩
 | .empty,_,h=>h
 | .map none,_,h=>h
 | .map (some b),_,⟨d,hd,e⟩=>⟨d,hg _ _ hd,e⟩
 | .func f a b,_,⟨xs,ys,h1,h2,e⟩=>⟨xs,ys,VRs.mono hg a xs h1,VRs.mono hg b ys h2,e⟩
 | .mfunc n r,_,⟨y,hy,e⟩=>⟨y,VR.mono hg r y hy,e⟩
 | .yield l,_,⟨d,hd,e⟩=>⟨d,hg _ _ hd,e⟩
 | .nilFunc,_,h=>h
 | .iface t v,_,⟨y,hy,e⟩=>⟨y,VR.mono hg v y hy,e⟩
 | .nilIface,_,h=>h
 | .agg cs,_,⟨xs,h1,h2⟩=>⟨xs,VRs.mono hg cs xs h1,h2⟩
 | .tuple cs,_,⟨xs,h1,h2⟩=>⟨xs,VRs.mono hg cs xs h1,h2⟩
theorem VRs.mono {g g':G}(hg:G.le g g'):∀(vs:List AV)(xs:List Value),VRs g vs xs->VRs g' vs xs
 | [],_,h=>h
 | v::vs,_,⟨y,ys,h1,h2,e⟩=>⟨y,ys,VR.mono hg v y h1,VRs.mono hg vs ys h2,e⟩
end
section lists
variable {g:G}
theorem VRs.cons {v:AV}{y:Value}{vs:List AV}{ys:List Value}(h:VR g v y)(hs:VRs g vs ys):VRs g (v::vs) (y::ys):=⟨y,ys,h,hs,rfl⟩
theorem VRs.length {vs:List AV}:∀{xs:List Value},VRs g vs xs->xs.length=vs.length:=by
 induction vs with
 | nil=>intro xs h;cases h;rfl
 | cons v vs ih=>intro xs ⟨y,ys,_,hs,e⟩;grind
theorem VRs.get {vs:List AV}:∀{xs:List Value},VRs g vs xs->∀{i:Nat}{v:AV},vs[i]?=some v->∃x,xs[i]?=some x/\VR g v x:=by
 induction vs with
 | nil=>grind
 | cons u vs ih=>
  intro xs ⟨y,ys,h1,hs,e⟩ i v hv
  grind
theorem VRs.append {vs us:List AV}:∀{xs ys:List Value},VRs g vs xs->VRs g us ys->VRs g (vs++us) (xs++ys):=by
 induction vs with
 | nil=>intro xs ys h h';cases h;exact h'
 | cons v vs ih=>intro xs ys ⟨y,zs,h1,hs,e⟩ h';subst e;exact⟨y,zs++ys,h1,ih hs h',rfl⟩
theorem VRs.take {vs:List AV}:∀{xs:List Value}(n:Nat),VRs g vs xs->VRs g (vs.take n) (xs.take n):=by
 induction vs with
 | nil=>intro xs n h;cases h;simp[VRs]
 | cons v vs ih=>
  intro xs n ⟨y,ys,h1,hs,e⟩
  subst e
  cases n with
  | zero=>exact rfl
  | succ n=>exact⟨y,ys.take n,h1,ih n hs,rfl⟩
theorem VRs.drop {vs:List AV}:∀{xs:List Value}(n:Nat),VRs g vs xs->VRs g (vs.drop n) (xs.drop n):=by
 induction vs with
 | nil=>intro xs n h;cases h;simp[VRs]
 | cons v vs ih=>
  intro xs n ⟨y,ys,h1,hs,e⟩
  subst e
  cases n with
  | zero=>exact⟨y,ys,h1,hs,rfl⟩
  | succ n=>exact ih n hs
theorem VRs.DH {vs:List AV}:∀{xs:List Value},xs.length=vs.length->(∀(i:Nat)(v:AV),vs[i]?=some v->∃x,xs[i]?=some x/\VR g v x)->VRs g vs xs:=by
 induction vs with
 | nil=>intro xs h _;exact List.eq_nil_of_length_eq_zero<|by simpa using h
 | cons v vs ih=>
  intro xs h hi
  cases xs with
  | nil=>simp at h
  | cons y ys=>
   obtain⟨x,hx,hv⟩:=hi 0 v rfl
   simp at hx;subst hx
   exact⟨y,ys,hv,ih (by simpa using h)<|λi u hu=>by simpa using hi (i+1) u (by simpa using hu),rfl⟩
end lists
theorem VR.one {g:G}{v:AV}{x:Value}(h:VR g v x)(h1:∀cs,v≠.agg cs)(h2:∀cs,v≠.tuple cs):x.oneCell'=true:=by
 cases v with
 | bool b=>subst h;rfl
 | int k n=>subst h;rfl
 | str s=>subst h;rfl
 | ptr a=>cases a with
  | none=>subst h;rfl
  | some p=>obtain⟨d,_,e⟩:=h;subst e;rfl
 | slice a l c s r=>cases a with
  | none=>obtain⟨_,e⟩:=h;subst e;rfl
  | some p=>obtain⟨d,_,_,e⟩:=h;subst e;rfl
 | empty=>obtain⟨a,c,e⟩:=h;subst e;rfl
 | map a=>cases a with
  | none=>subst h;rfl
  | some p=>obtain⟨d,_,e⟩:=h;subst e;rfl
 | func f a b=>obtain⟨_,_,_,_,e⟩:=h;subst e;rfl
 | mfunc n r=>obtain⟨_,_,e⟩:=h;subst e;rfl
 | yield l=>obtain⟨d,_,e⟩:=h;subst e;rfl
 | nilFunc=>subst h;rfl
 | iface t v=>obtain⟨_,_,e⟩:=h;subst e;rfl
 | nilIface=>subst h;rfl
 | agg cs=>grind
 | tuple cs=>grind
def ER (g:G)(e:Tr AV)(tm:Array Value):Prop:=∀t v,e.get t=some v->∃x,tm[t]?=some x/\VR g v x
theorem ER.mono {g g':G}(hg:G.le g g'){e:Tr AV}{tm:Array Value}(h:ER g e tm):ER g' e tm:=
 λt v ht=>let⟨x,hx,hv⟩:=h t v ht;⟨x,hx,VR.mono hg _ _ hv⟩
def keyV:AV->Option Value
 | .bool b=>some<|.bool b
 | .int k n=>some<|.int k n
 | .str s=>some<|.string s
 | _=>none
structure MR (g:G)(es:List (AV × AV))(cs:List MapEntry):Prop where
 len:cs.length=es.length
 get:∀(i:Nat)(k v:AV),es[i]?=some (k,v)->∃(j:Nat)(c:MapEntry),cs[j]?=some c/\keyV k=some c.key/\VR g v c.val
 back:∀(j:Nat)(c:MapEntry),cs[j]?=some c->∃(i:Nat)(k v:AV),es[i]?=some (k,v)/\keyV k=some c.key/\VR g v c.val
 ck:∀(j j':Nat)(c c':MapEntry),cs[j]?=some c->cs[j']?=some c'->j≠j'->c.key≠c'.key
 keys:∀(i j:Nat)(k k' v v':AV),es[i]?=some (k,v)->es[j]?=some (k',v')->i≠j->keyV k≠keyV k'
theorem MR.mono {g g':G}(hg:G.le g g'){es:List (AV × AV)}{cs:List MapEntry}(h:MR g es cs):MR g' es cs:=
 ⟨h.len,λi k v hi=>let⟨j,c,h1,h2,h3⟩:=h.get i k v hi;⟨j,c,h1,h2,VR.mono hg _ _ h3⟩,
  λj c hj=>let⟨i,k,v,h1,h2,h3⟩:=h.back j c hj;⟨i,k,v,h1,h2,VR.mono hg _ _ h3⟩,h.ck,h.keys⟩
def rm:AX->Option Code
 | .normal=>none
 | .exit id=>some<|.exit id
 | .ret=>some .ret
def bv.gU (_:bv):Bool:=true
def bv.wr:bv->Bool
 | .rows _ _ _ ro=>!ro
 | _=>true
def Gd.tag (d:Gd):Nat:=match d.ro with
 | none=>0
 | some _=>d.sz
def Gd.ah1 (d d':Gd):Prop:=d.b=d'.b/\(d.tag=0\/d'.tag=0\/d.tag=d'.tag)
theorem Gd.ot {d:Gd}(h:d.ro=none):d.tag=0:=by unfold Gd.tag;rw[h]
structure Pt where
 iK:Nat->Nat->Prop
 ids:Nat->Prop
instance:CoeFun Pt (λ_=>Nat->Nat->Prop):=⟨Pt.iK⟩
def BR (g:G)(ob:Option Obj)(o:bv)(d:Gd):Prop:=
 match o with
 | .rows t n sz ro=>d.sz=sz/\∃c el fz,ob=some (.cells c el fz)/\(match ro with | true=>ob=d.ro | false=>fz=(0,0))/\(match ro with | true=>True | false=>c.size=d.sh+(n+d.xi)*sz) /\
   ∀i row,i<n->t.get i=some row->row.length=sz/\∀j v,row[j]?=some v->∃x,c[d.sh+i*sz+j]?=some x/\VR g v x/\x.oneCell'=true
 | .map es=>∃cs clock,ob=some (.map cs clock)/\MR g es cs.toList
 | .deferred=>ob=some (.deferred<|some [])
 | .loop e nt ps asg body st pend D=>∃fn tm dD,ob=some (.loop { state:=st,pending:=pend.bind rm,fn,tmps:=tm,params:=ps.toArray,assign:=asg,body,defers:=dD.b }) /\
   g D=some dD/\tm.size=nt/\ER g e tm/\(∀x,pend=some x->x≠.normal)
theorem BR.mono {g g':G}(hg:G.le g g'){ob:Option Obj}{o:bv}{d:Gd}(h:BR g ob o d):BR g' ob o d:=by
 cases o with
 | rows t n sz ro=>
  obtain⟨h1,c,el,fz,h2,hz,h3,h4⟩:=h
  refine⟨h1,c,el,fz,h2,hz,h3,λi row hi ht=>⟨(h4 i row hi ht).1,λj v hj=>?_⟩⟩
  obtain⟨x,hx,hv,h1⟩:=(h4 i row hi ht).2 j v hj
  exact⟨x,hx,VR.mono hg _ _ hv,h1⟩
 | map es=>obtain⟨cs,cl,h1,h2⟩:=h;exact⟨cs,cl,h1,h2.mono hg⟩
 | deferred=>exact h
 | loop e nt ps asg body st pend D=>
  obtain⟨fn,tm,dD,h1,h2,h3,h4,h5⟩:=h
  exact⟨fn,tm,dD,h1,hg _ _ h2,h3,h4.mono hg,h5⟩
theorem BR.some {g:G}{ob:Option Obj}{o:bv}{d:Gd}(h:BR g ob o d):∃x,ob=some x:=by
 cases o with
 | rows t n sz ro=>obtain⟨_,c,el,fz,e,_⟩:=h;grind
 | map es=>obtain⟨cs,cl,e,_⟩:=h;grind
 | deferred=>exact⟨_,h⟩
 | loop e nt ps asg body st pend D=>obtain⟨fn,tm,dD,e,_⟩:=h;grind
structure HR (X:Pt)(w0:World)(g:G)(H:Heap)(w:World):Prop where
 obj:∀b o,H.get b=some o->∃d,g b=some d/\BR g w.heap[d.b]? o d
 inj:∀b b' o o' d d',H.get b=some o->H.get b'=some o'->g b=some d->g b'=some d'->d.ah1 d'->b=b'
 fresh:∀b,H.next<=b->g b=none
 eV:∀b o d,H.get b=some o->o.gU=true->g b=some d->¬X d.b d.tag
 keep:∀k t,X k t->k<w0.heap.size/\w.heap[k]?=w0.heap[k]?
 size:w0.heap.size<=w.heap.size
 os:w.os=w0.os/\w.output=w0.output
 hole:∀b,X.ids b->b<H.next/\g b=none
 down:∀k t,X k t->X k 0
 ot:∀b o d,H.get b=some o->o.wr=true->g b=some d->d.ro=none
section
variable {X:Pt}{w0:World}{g:G}{H:Heap}{w:World}
theorem HR.lC (h:HR X w0 g H w){b:Nat}(hb:H.next<=b):H.get b=none:=by
 cases hg:H.get b with
 | none=>rfl
 | some o=>obtain⟨d,hd,_⟩:=h.obj b o hg;rw[h.fresh b hb]at hd;cases hd
theorem HR.lt (h:HR X w0 g H w){b:Nat}{o:bv}{d:Gd}(hb:H.get b=some o)(hd:g b=some d):d.b<w.heap.size:=by
 obtain⟨d',hd',ho⟩:=h.obj b o hb
 obtain⟨x,hx⟩:=ho.some
 grind
theorem HR.congr (h:HR X w0 g H w){w':World}(h1:w'.heap=w.heap)(h2:w'.os=w.os)(h3:w'.output=w.output):HR X w0 g H w':=
 ⟨λb o hb=>by rw[h1];exact h.obj b o hb,h.inj,h.fresh,h.eV,λk t hk=>by rw[h1];exact h.keep k t hk,by rw[h1];exact h.size,by rw[h2,h3];exact h.os,h.hole,h.down,h.ot⟩
theorem HR.drew (h:HR X w0 g H w):HR X w0 g H w.drew:=h.congr rfl rfl rfl
theorem HR.del (h:HR X w0 g H w)(b:Nat):HR X w0 g (H.del b) w:=by
 have hs:∀i o,(H.del b).get i=some o->H.get i=some o:=λi o hi=>by
  rw[Heap.gb]at hi
  split at hi
  ·cases hi
  ·exact hi
 exact⟨λi o hi=>h.obj i o<|hs i o hi,λi j o o' d d' hi hj=>h.inj i j o o' d d' (hs i o hi)<|hs j o' hj,h.fresh,λi o d hi=>h.eV i o d<|hs i o hi,h.keep,h.size,h.os,h.hole,h.down,λi o d hi=>h.ot i o d<|hs i o hi⟩
theorem HR.new (h:HR X w0 g H w)(o:bv)(ob:Obj)(d:Gd)(hd:d.b=w.heap.size)(hn:∀g',G.le g g'->g' H.next=some d->BR g' (some ob) o d)(hr:d.ro=none:=by rfl) :
  G.le g (g.put H.next d)/\HR X w0 (g.put H.next d) (H.new o).2 (w.alloc ob):=by
 have hle:=G.vO g H.next d<|h.fresh _<|Nat.le_refl _
 refine⟨hle,⟨?_,?_,?_,?_,?_,?_,?_,?_,h.down,?_⟩⟩
 ·intro b o' hb
  rw[Heap.Cl]at hb
  split at hb
  ·rename_i e;subst e;cases hb
   exact⟨d,G.bz _ _ _,by rw[hd,heap_alloc_new];exact hn _ hle<|G.bz _ _ _⟩
  ·rename_i e
   obtain⟨d',hd',ho⟩:=h.obj b o' hb
   refine⟨d',hle _ _ hd',?_⟩
   have hlt:=h.lt hb hd'
   rw[heap_alloc_old w ob d'.b hlt]
   exact ho.mono hle
 ·intro b b' o1 o2 d1 d2 hb hb' h1 h2 e
  rw[Heap.Cl]at hb hb'
  split at hb
  ·rename_i e1
   split at hb'
   ·grind
   ·rename_i e2
    rw[G.cM _ _ e2]at h2
    subst e1
    rw[G.bz]at h1;cases h1
    have:=h.lt hb' h2
    have:=e.1
    omega
  ·rename_i e1
   rw[G.cM _ _ e1]at h1
   split at hb'
   ·rename_i e2
    subst e2
    rw[G.bz]at h2;cases h2
    have:=h.lt hb h1
    have:=e.1
    omega
   ·rename_i e2
    rw[G.cM _ _ e2]at h2
    exact h.inj _ _ _ _ _ _ hb hb' h1 h2 e
 ·intro b hb
  rw[Heap.gO]at hb
  rw[G.cM _ _ (by omega)]
  exact h.fresh b<|by omega
 ·intro b o' d' hb hw hg hX
  rw[Heap.Cl]at hb
  split at hb
  ·rename_i e;subst e
   rw[G.bz]at hg;cases hg
   have:=(h.keep _ _ hX).1
   have:=h.size
   omega
  ·rename_i e
   rw[G.cM _ _ e]at hg
   exact h.eV b o' d' hb hw hg hX
 ·intro k t hk
  obtain⟨h1,h2⟩:=h.keep k t hk
  exact⟨h1,by rw[heap_alloc_old w ob k (Nat.lt_of_lt_of_le h1 h.size)];exact h2⟩
 ·simp;have:=h.size;omega
 ·exact h.os
 ·intro b hb
  obtain⟨h1,h2⟩:=h.hole b hb
  rw[Heap.gO,G.cM _ _<|by omega]
  grind
 ·intro b o' d' hb hw hg
  rw[Heap.Cl]at hb
  split at hb
  ·rename_i e;subst e
   rw[G.bz]at hg;cases hg
   exact hr
  ·rename_i e
   rw[G.cM _ _ e]at hg
   exact h.ot b o' d' hb hw hg
theorem HR.put (h:HR X w0 g H w){b:Nat}{o o':bv}{d:Gd}(hb:H.get b=some o)(hd:g b=some d)(hw:o.wr=true)(hw':o'.wr=true){w':World}
  (hs:w'.heap.size=w.heap.size) (CK:∀k,k≠d.b->w'.heap[k]?=w.heap[k]?) (hos:w'.os=w.os/\w'.output=w.output) (ho:BR g w'.heap[d.b]? o' d) :
  HR X w0 g (H.put b o') w':=by
 have hX:=h.eV b o d hb rfl hd
 have h0:=h.ot b o d hb hw hd
 refine⟨?_,?_,h.fresh,?_,?_,by rw[hs];exact h.size,by rw[hos.1,hos.2];exact h.os,h.hole,h.down,?_⟩
 ·intro i x hi
  rw[Heap.aR]at hi
  split at hi
  ·grind
  ·rename_i e
   obtain⟨d',hd',hx⟩:=h.obj i x hi
   refine⟨d',hd',?_⟩
   rw[CK d'.b (λe'=>e<|h.inj _ _ _ _ _ _ hb hi hd hd' ⟨e'.symm,.inl<|Gd.ot h0⟩)]
   exact hx
 ·intro i j o1 o2 d1 d2 hi hj h1 h2 e
  rw[Heap.aR]at hi hj
  have hi':∃y,H.get i=some y:=by
   grind
  have hj':∃y,H.get j=some y:=by
   grind
  obtain⟨y,hy⟩:=hi'
  obtain⟨z,hz⟩:=hj'
  exact h.inj i j y z d1 d2 hy hz h1 h2 e
 ·intro i x d' hi hx hd'
  rw[Heap.aR]at hi
  split at hi
  ·rename_i e
   subst e
   rw[hd]at hd';cases hd'
   exact hX
  ·exact h.eV i x d' hi hx hd'
 ·intro k t hk
  obtain⟨h1,h2⟩:=h.keep k t hk
  refine⟨h1,?_⟩
  rw[CK k λe=>hX (by rw[Gd.ot h0,<- e];exact h.down k t hk)]
  exact h2
 ·intro i x d' hi hx hd'
  rw[Heap.aR]at hi
  split at hi
  ·rename_i e
   subst e
   rw[hd]at hd';cases hd'
   exact h0
  ·exact h.ot i x d' hi hx hd'
end
end Go.Ev
namespace Go.Ev
theorem gC (b o j:Nat):(⟨b,o,none⟩:Addr).add j=⟨b,o+j,none⟩:=by unfold Addr.add;grind
theorem eJ (d:Gd)(p:Pl)(j:Nat):(gX d p).add j=⟨d.b,d.sh+p.r*d.sz+p.o+j,none⟩:=gC _ _ _
def Cells (w:World)(a:Addr)(xs:List Value):Prop:=∀(j:Nat)(x:Value),xs[j]?=some x->w.cell? (a.add j)=some x
theorem Cells.append {w:World}{b o:Nat}{xs ys:List Value}(h:Cells w ⟨b,o,none⟩ xs)(h':Cells w ⟨b,o+xs.length,none⟩ ys):Cells w ⟨b,o,none⟩ (xs++ys):=by
 intro j x hj
 by_cases hlt:j<xs.length
 ·exact h j x<|by grind
 ·rw[List.getElem?_append_right (by omega)]at hj
  have:=h' _ _ hj
  rw[gC]at this |-
  grind
theorem Cells.load {P:Program}{w:World}{a:Addr}{xs:List Value}(h:Cells w a xs):(loadCells a xs.length).run P w=.ok xs.toArray w:=
 run_loadCells_list w a xs h
section
variable {X:Pt}{w0:World}{g:G}{H:Heap}{w:World}
theorem Heap.JX {p:Pl}{n:Nat}{l:List AV}(h:H.read p n=some l) :
  ∃t m sz ro row,H.get p.b=some (.rows t m sz ro)/\p.r<m/\t.get p.r=some row/\l=(row.drop p.o).take n/\n<=(row.drop p.o).length:=by
 unfold Heap.read at h
 split at h
 ·rename_i t m sz ro hb
  split at h
  ·rename_i hlt
   split at h
   ·rename_i row hr
    obtain⟨e,hl⟩:=ly _ _ _ h
    rw[cw]at e hl
    exact⟨t,m,sz,ro,row,hb,by simpa[Nat.blt_eq]using hlt,hr,e,hl⟩
   ·cases h
  ·cases h
 ·cases h
theorem HR.read (h:HR X w0 g H w){p:Pl}{n:Nat}{l:List AV}(hr:H.read p n=some l) :
  ∃d xs,g p.b=some d/\VRs g l xs/\xs.length=n/\Cells w (gX d p) xs/\∀x∈xs,x.oneCell'=true:=by
 obtain⟨t,m,sz,ro,row,hb,hlt,ht,rfl,hn⟩:=Heap.JX hr
 obtain⟨d,hd,hsz,c,el,fz,hc,_,hcs,hrow⟩:=h.obj _ _ hb
 have hex:∀j,j<n->∃v x,row[p.o+j]?=some v/\c[d.sh+p.r*sz+(p.o+j)]?=some x/\VR g v x/\x.oneCell'=true:=by
  intro j hj
  have hj':p.o+j<row.length:=by grind
  simp_all
 let xs:List Value:=(List.range n).map λj=>(c[d.sh+p.r*sz+(p.o+j)]?).getD default
 have hxl:xs.length=n:=by simp[xs]
 have Zc:∀j,j<n->xs[j]?=c[d.sh+p.r*sz+(p.o+j)]?:=by
  intro j hj
  obtain⟨v,x,_,h2,_⟩:=hex j hj
  simp[xs,hj,h2]
 refine⟨d,xs,hd,VRs.DH (by grind) ?_,hxl,?_,?_⟩
 ·intro j v hj
  have hjn:j<n:=by
   grind
  rw[List.getElem?_take_of_lt hjn,List.getElem?_drop]at hj
  obtain⟨v',x,h1,h2,h3,_⟩:=hex j hjn
  rw[hj]at h1;cases h1
  exact⟨x,by rw[Zc j hjn,h2],h3⟩
 ·intro j x hj
  have hjn:j<n:=by have:=(List.getElem?_eq_some_iff.1 hj).1;omega
  rw[Zc j hjn]at hj
  rw[eJ]
  simp only[World.cell?,hc]
  subst hsz
  simpa[Nat.add_assoc]using hj
 ·intro x hx
  obtain⟨j,hj⟩:=List.getElem?_of_mem hx
  have hjn:j<n:=by have:=(List.getElem?_eq_some_iff.1 hj).1;omega
  obtain⟨v',y,_,h2,_,h4⟩:=hex j hjn
  rw[Zc j hjn,h2]at hj
  cases hj
  exact h4
theorem iu (L xs:List Value)(a k:Nat)(h:a+xs.length<=L.length) :
  (L.take a++xs++L.drop (a+xs.length))[k]?=if k<a then L[k]? else if k<a+xs.length then xs[k-a]? else L[k]?:=by
 grind
theorem rz {row row' vs:List AV}{o:Nat}(h:fK row o vs=some row'):row'=row.take o++vs++row.drop (o+vs.length)/\o+vs.length<=row.length:=by
 unfold fK at h
 split at h
 ·rename_i a ha
  split at h
  ·rename_i b hb
   obtain⟨rfl,h1⟩:=ly _ _ _ ha
   obtain⟨_,h2⟩:=ly _ _ _ hb
   rw[ar,cw]at h2
   cases h
   simp only[aN,cw,ar,List.drop_drop,List.append_assoc]
   grind
  ·cases h
 ·cases h
theorem Heap.Gc {p:Pl}{vs:List AV}{H':Heap}(h:H.write p vs=some H') :
  ∃t m sz row,H.get p.b=some (.rows t m sz false)/\p.r<m/\t.get p.r=some row/\p.o+vs.length<=row.length /\
   H'=H.put p.b (.rows (t.put p.r<|row.take p.o++vs++row.drop (p.o+vs.length)) m sz false):=by
 unfold Heap.write at h
 split at h
 ·rename_i t m sz hb
  split at h
  ·rename_i hlt
   split at h
   ·rename_i row hr
    split at h
    ·rename_i row' hp
     obtain⟨rfl,hl⟩:=rz hp
     cases h
     exact⟨t,m,sz,row,hb,by simpa[Nat.blt_eq]using hlt,hr,hl,rfl⟩
    ·cases h
   ·cases h
  ·cases h
 ·cases h
theorem qj {i r sz j o len sh:Nat}(hj:j<sz)(UG:o+len<=sz)(h:i≠r):¬(sh+r*sz+o<=sh+i*sz+j/\sh+i*sz+j<sh+r*sz+o+len):=by
 rintro⟨h1,h2⟩
 rcases Nat.lt_or_gt_of_ne h with hlt|hgt
 ·have:=Nat.mul_le_mul_right sz (show i+1<=r from hlt)
  grind
 ·have:=Nat.mul_le_mul_right sz (show r+1<=i from hgt)
  grind
theorem HR.write (h:HR X w0 g H w){p:Pl}{vs:List AV}{H':Heap}(hw:H.write p vs=some H'){xs:List Value}(hx:VRs g vs xs)(h1:∀x∈xs,x.oneCell'=true) :
  ∃d,g p.b=some d/\∃w',(∀(P:Program)(k o:Nat),o+k=d.sh+p.r*d.sz+p.o->(storeCells ⟨d.b,o,none⟩ xs k).run P w=.ok () w')/\HR X w0 g H' w'/\w'.tape=w.tape:=by
 obtain⟨t,m,sz,row,hb,hlt,ht,hl,rfl⟩:=Heap.Gc hw
 obtain⟨d,hd,hsz,c,el,fz,hc,hfz,hcs,hrow⟩:=h.obj _ _ hb
 have hfz:fz=(0,0):=hfz
 have hcs:c.size=d.sh+(m+d.xi)*sz:=hcs
 subst hfz
 obtain⟨hlen,hcell⟩:=hrow p.r row hlt ht
 subst hsz
 have hxl:=hx.length
 have hfit:d.sh+p.r*d.sz+p.o+xs.length<=c.size:=by
  rw[hcs,hxl]
  have:=Nat.mul_le_mul_right d.sz<|show p.r+1<=m+d.xi by omega
  rw[Nat.add_mul]at this
  omega
 let off:=d.sh+p.r*d.sz+p.o
 let c':Array Value:=(c.toList.take off++xs++c.toList.drop (off+xs.length)).toArray
 have uz:∀k,c'[k]?=if k<off then c[k]? else if k<off+xs.length then xs[k-off]? else c[k]?:=by
  intro k
  have:=iu c.toList xs off k<|by simpa[off]using hfit
  simpa[c',Array.getElem?_toList]using this
 refine⟨d,hd,w.setRow d.b c',?_,?_,rfl⟩
 ·intro P k o he
  have:=run_storeCells_at P d.b o el xs k c w hc (by omega) h1
  rw[he]at this
  exact this
 ·refine h.put hb hd rfl rfl (by simp) (λk hk=>setRow_other w d.b k _ hk) ⟨rfl,rfl⟩ ?_
  refine⟨rfl,c',el,_,setRow_heap w d.b c c' el _ hc,rfl,?_,?_⟩
  ·simp only[c',List.size_toArray,List.length_append,List.length_take,List.length_drop,Array.length_toList]
   omega
  ·intro i row' hi hr'
   rw[Tr.aR]at hr'
   split at hr'
   ·rename_i e
    subst e
    cases hr'
    refine⟨by simp;omega,λj v hj=>?_⟩
    rw[uz]
    have hjl:j<d.sz:=by have:=(List.getElem?_eq_some_iff.1 hj).1;simp at this;omega
    have key:(row.take p.o++vs++row.drop (p.o+vs.length))[j]?=if j<p.o then row[j]? else if j<p.o+vs.length then vs[j-p.o]? else row[j]?:=by
     have ha:(row.take p.o).length=p.o:=by simp;omega
     by_cases h1:j<p.o
     ·rw[if_pos h1,List.append_assoc,List.getElem?_append_left<|by omega,List.getElem?_take_of_lt h1]
     ·rw[if_neg h1]
      by_cases h2:j<p.o+vs.length
      ·rw[if_pos h2,List.getElem?_append_left (by simp;omega),List.getElem?_append_right<|by omega,ha]
      ·rw[if_neg h2,List.getElem?_append_right (by simp;omega),List.getElem?_drop]
       congr 1
       simp
       omega
    rw[key]at hj
    by_cases c1:j<p.o
    ·rw[if_pos c1]at hj
     rw[if_pos (by simp only[off];omega)]
     exact hcell j v hj
    ·rw[if_neg c1]at hj
     rw[if_neg (by simp only[off];omega)]
     by_cases c2:j<p.o+vs.length
     ·rw[if_pos c2]at hj
      rw[if_pos (by simp only[off];omega)]
      obtain⟨x,fe,iI⟩:=hx.get hj
      refine⟨x,?_,iI,h1 x<|List.mem_of_getElem? fe⟩
      rw[<- fe];congr 1;simp only[off];omega
     ·rw[if_neg c2]at hj
      rw[if_neg (by simp only[off];omega)]
      exact hcell j v hj
   ·rename_i e
    obtain⟨hl',mc⟩:=hrow i row' hi hr'
    refine⟨hl',λj v hj=>?_⟩
    have hjl:j<d.sz:=by have:=(List.getElem?_eq_some_iff.1 hj).1;omega
    have hap:=qj (sh:=d.sh) hjl (show p.o+vs.length<=d.sz by omega) (λe'=>e e'.symm:i≠p.r)
    rw[uz]
    by_cases c1:d.sh+i*d.sz+j<off
    ·rw[if_pos c1];exact mc j v hj
    ·rw[if_neg c1,if_neg (by simp only[off]at *;omega)];exact mc j v hj
theorem d6 {p q:Pl}{rw sz i:Nat}(h:elemAt p rw sz i=some q){d:Gd}(hd:g p.b=some d)(hrw:rw≠0->rw=d.sz/\p.o=0) :
  q.b=p.b/\gX d q=⟨d.b,d.sh+p.r*d.sz+p.o+i*sz,none⟩:=by
 unfold elemAt at h
 split at h
 ·cases h
  exact⟨rfl,by simp[gX,Nat.add_assoc]⟩
 ·rename_i r hr
  split at h
  ·rename_i hs
   split at h
   ·cases h
    have hs:rw=sz:=Nat.eq_of_beq_eq_true hs
    obtain⟨h1,h2⟩:=hrw<|λe=>hr e
    refine⟨rfl,?_⟩
    simp[gX,<- hs,h1,h2,Nat.add_mul,Nat.add_assoc]
   ·cases h
  ·cases h
theorem HR.gather (h:HR X w0 g H w){p:Pl}{d:Gd}(hd:g p.b=some d){rw sz n:Nat}(hrw:rw≠0->rw=d.sz/\p.o=0){rows:List (List AV)}(hg:H.gather p rw sz n=some rows) :
  rows.length=n/\∃xss:List (List Value),xss.length=n/\(∀(i:Nat)r,rows[i]?=some r->∃xs,xss[i]?=some xs/\VRs g r xs)/\(∀xs∈xss,xs.length=sz/\∀x∈xs,x.oneCell'=true)/\Cells w (gX d p) xss.flatten:=by
 unfold Heap.gather at hg
 split at hg
 ·rename_i l hl
  cases hg
  have key:∀(n i:Nat)(acc l:List (List AV)),eh (λi(acc:List (List AV))=>match elemAt p rw sz i with
     | some q=>match H.read q sz with
      | some c=>some<|c::acc
      | none=>none
     | none=>none) n i acc=some l ->
    ∃rs:List (List AV),l=rs.reverse++acc/\rs.length=n/\∃xss:List (List Value),xss.length=n/\(∀(k:Nat)r,rs[k]?=some r->∃xs,xss[k]?=some xs/\VRs g r xs) /\
     (∀xs∈xss,xs.length=sz/\∀x∈xs,x.oneCell'=true)/\Cells w ⟨d.b,d.sh+p.r*d.sz+p.o+i*sz,none⟩ xss.flatten:=by
   intro n
   induction n with
   | zero=>intro i acc l h;cases h;exact⟨[],rfl,rfl,[],rfl,by simp,by simp,by intro j x hj;simp at hj⟩
   | succ n ih=>
    intro i acc l hh
    obtain⟨b',hb,aap⟩:=(cZ _ _ _ _ _).1 hh
    split at hb
    ·rename_i q hq
     split at hb
     ·rename_i c hc
      cases hb
      obtain⟨rs,rfl,hrl,xss,hxl,hxs,hone,md⟩:=ih _ _ _ aap
      obtain⟨d',xs,hd',hv,hlen,dP,ho⟩:=h.read hc
      obtain⟨zH,zG⟩:=d6 hq hd hrw
      rw[zH,hd]at hd';cases hd'
      rw[zG]at dP
      refine⟨c::rs,by simp,by simp[hrl],xs::xss,by simp[hxl],?_,?_,?_⟩
      ·grind
      ·grind
      ·refine Cells.append dP ?_
       rw[hlen]
       grind
     ·cases hb
    ·cases hb
  obtain⟨rs,rfl,hrl,xss,hxl,hxs,hone,md⟩:=key n 0 [] l hl
  simp only[List.append_nil,List.reverse_reverse]
  refine⟨hrl,xss,hxl,hxs,hone,?_⟩
  simpa[gX]using md
 ·cases hg
theorem HR.scatter {p:Pl}{d:Gd}(hd:g p.b=some d){rw sz:Nat}(hrw:rw≠0->rw=d.sz/\p.o=0)(rows:List (List AV)) :
  ∀{H:Heap}{w:World}(i:Nat),HR X w0 g H w->∀(xss:List (List Value)),xss.length=rows.length->(∀(k:Nat)r,rows[k]?=some r->∃xs,xss[k]?=some xs/\VRs g r xs) ->
   (∀xs∈xss,xs.length=sz/\∀x∈xs,x.oneCell'=true)->∀{H':Heap},H.scatter p rw sz i rows=some H' ->
   ∃w',(∀(P:Program)(k o:Nat),o+k=d.sh+p.r*d.sz+p.o+i*sz->(storeCells ⟨d.b,o,none⟩ xss.flatten k).run P w=.ok () w')/\HR X w0 g H' w'/\w'.tape=w.tape:=by
 have app:∀(P:Program)(b o:Nat)(xs ys:List Value)(k:Nat)(w w1 w2:World),(storeCells ⟨b,o,none⟩ xs k).run P w=.ok () w1->(storeCells ⟨b,o,none⟩ ys<|k+xs.length).run P w1=.ok () w2 ->
   (storeCells ⟨b,o,none⟩ (xs++ys) k).run P w=.ok () w2:=by
  intro P b o xs
  induction xs with
  | nil=>intro ys k w w1 w2 h1 h2;simp[storeCells]at h1;grind
  | cons x xs ih=>
   intro ys k w w1 w2 h1 h2
   simp only[List.cons_append,storeCells,Sem.run_bind]at h1 |-
   cases hs:(store ((⟨b,o,none⟩:Addr).add k) x).run P w with
   | halt e w3=>rw[hs]at h1;simp at h1
   | ok u w3=>
    rw[hs]at h1
    exact ih ys (k+1) w3 w1 w2 h1<|by grind
 induction rows with
 | nil=>
  intro H w i h xss hl _ _ H' hs
  have:xss=[]:=List.eq_nil_of_length_eq_zero<|by simpa using hl
  subst this
  cases hs
  exact⟨w,λP k o _=>rfl,h,rfl⟩
 | cons r rows ih=>
  intro H w i h xss hl hv hone H' hs
  cases xss with
  | nil=>simp at hl
  | cons xs xss=>
   unfold Heap.scatter at hs
   split at hs
   ·rename_i s hf
    cases hs
    obtain⟨b',hb,aap⟩:=(ah _ _ _ _ _).1 hf
    split at hb
    ·rename_i q hq
     split at hb
     ·rename_i H1 hw1
      cases hb
      obtain⟨zH,zG⟩:=d6 hq hd hrw
      obtain⟨xs',fe,iI⟩:=hv 0 r rfl
      simp at fe;subst fe
      obtain⟨d',hd',w1,hst,UR,ht1⟩:=h.write hw1 iI (hone xs<|by simp).2
      rw[zH,hd]at hd';cases hd'
      have Sj:d.sh+q.r*d.sz+q.o=d.sh+p.r*d.sz+p.o+i*sz:=by
       have:=congrArg Addr.off zG
       simpa[gX]using this
      have P2:H1.scatter p rw sz (i+1) rows=some s.1:=by unfold Heap.scatter;rw[aap]
      obtain⟨w2,pk,YW,ht2⟩:=ih (i+1) UR xss (by simpa using hl) (λk r hk=>by simpa using hv (k+1) r (by simpa using hk)) (λys hy=>hone ys<|by simp[hy]) P2
      refine⟨w2,λP k o hko=>?_,YW,ht2.trans ht1⟩
      refine app P d.b o xs xss.flatten k w w1 w2 (hst P k o<|by omega)<|pk P _ o ?_
      grind
     ·cases hb
    ·cases hb
   ·cases hs
end
end Go.Ev
namespace Go.Ev
section tables
variable {P:Program}{t:TypeId}(w:World)
theorem size?_iff {n:Nat}:size? P t=some n↔∃i,P.info? t=some i/\i.size=n:=by
 unfold size?;grind
theorem bytes?_iff {n:Nat}:bytes? P t=some n↔∃i,P.info? t=some i/\i.bytes=n:=by
 unfold bytes?;grind
theorem cR {i:TypeInfo}(h:P.info? t=some i):(typeInfo t).run P w=.ok i w:=by simp[typeInfo,h]
theorem bA {n:Nat}(h:size? P t=some n):(sizeOf t).run P w=.ok n w:=by
 obtain⟨i,hi,rfl⟩:=size?_iff.1 h
 simp[sizeOf,cR w hi]
theorem jO {b:Bool}(h:isAggT P t=some b):(isAgg t).run P w=.ok b w:=by
 unfold isAggT at h
 split at h<;>first | grind | (rename_i hu;cases h;simp[isAgg,run_underlying hu];done)
end tables
section consts
variable (g:G)
theorem pZ {x:Value}{v:AV}(h:ofCell x=some v):VR g v x/\(∀cs,v≠.agg cs)/\(∀cs,v≠.tuple cs):=by
 unfold ofCell at h
 split at h<;>first | grind | (cases h;simp[VR])
theorem oB {x:Value}{v:AV}(h:ofIface x=some v):VR g v x/\(∀cs,v≠.agg cs)/\(∀cs,v≠.tuple cs):=by
 unfold ofIface at h
 split at h
 ·split at h
  ·rename_i ha
   cases h
   exact⟨⟨_,(pZ g ha).1,rfl⟩,by simp,by simp⟩
  ·cases h
 ·exact pZ g h
theorem pR {l:List Value}{r:List AV}(h:aI ofIface l=some r):VRs g r l/\∀x∈l,x.oneCell'=true:=by
 induction l generalizing r with
 | nil=>cases h;exact⟨rfl,by simp⟩
 | cons a l ih=>
  obtain⟨b,bs,h1,h2,rfl⟩:=(aV _ _ _ _).1 h
  obtain⟨hv,Gt,ho2⟩:=oB g h1
  obtain⟨ih1,ih2⟩:=ih h2
  exact⟨VRs.cons hv ih1,λx hx=>by rcases List.mem_cons.1 hx with rfl | hx;exact hv.one Gt ho2;exact ih2 x hx⟩
theorem lE {x:Value}{v:AV}(h:ofVal x=some v):VR g v x:=by
 unfold ofVal at h
 split at h
 ·split at h
  ·rename_i hl
   cases h
   obtain⟨h1,h2⟩:=pR g hl
   exact⟨_,h1,h2,by simp⟩
  ·cases h
 ·split at h
  ·rename_i hl
   cases h
   exact⟨_,(pR g hl).1,by simp⟩
  ·cases h
 ·exact(oB g h).1
end consts
theorem mo {g:G}{e:Tr AV}{a:Act}(h:ER g e a.tmps)(x:Operand)(v:AV)(hv:bL e x=some v):VR g v (a.eval x):=by
 cases x with
 | tmp t=>obtain⟨y,hy,Y7⟩:=h t v hv;simpa[Act.eval,Array.getD_eq_getD_getElem?,hy]using Y7
 | const c=>exact lE g hv
 | global _=>cases hv
 | func f=>cases hv;exact⟨[],[],rfl,rfl,rfl⟩
def cm (g:G)(ρ:Operand->Option AV)(ev:Operand->Value):Prop:=∀x v,ρ x=some v->VR g v (ev x)
theorem cm.list {g:G}{ρ:Operand->Option AV}{ev:Operand->Value}(h:cm g ρ ev){l:List Operand}:∀{vs:List AV},aI ρ l=some vs->VRs g vs (l.map ev):=by
 induction l with
 | nil=>intro vs hv;cases hv;rfl
 | cons a l ih=>
  intro vs hv
  obtain⟨b,bs,h1,h2,rfl⟩:=(aV _ _ _ _).1 hv
  exact VRs.cons (h a b h1)<|ih h2
def bg (P:Program)(g:G)(w:World)(s:Sem Value)(v:AV):Prop:=∃x,s.run P w=.ok x w/\VR g v x
section inv
variable {g:G}{x:Value}
theorem VR.eN {b:Bool}(h:VR g (.bool b) x):x=.bool b:=h
theorem VR.dp {k:IntKind}{n:Int}(h:VR g (.int k n) x):x=.int k n:=h
theorem VR.dY {s:ByteArray}(h:VR g (.str s) x):x=.string s:=h
end inv
theorem dK {g:G}{n:Nat}{v:AV}{cs:List AV}{x:Value}(h:partCells n v=some cs)(hv:VR g v x) :
  ∃xs,VRs g cs xs/\(∀y∈xs,y.oneCell'=true)/\x.cells=xs.toArray/\xs.length=n/\cs.length=n:=by
 unfold partCells at h
 split at h
 ·rename_i l
  split at h
  ·rename_i hl
   cases h
   have hl:=Nat.eq_of_beq_eq_true hl
   rw[ar]at hl
   obtain⟨xs,h1,h2,rfl⟩:=hv
   exact⟨xs,h1,h2,rfl,by rw[h1.length,hl],hl⟩
  ·cases h
 ·cases h
 ·rename_i h1 h2
  split at h
  ·cases h
   have hone:=hv.one h1 h2
   refine⟨[x],VRs.cons hv rfl,by grind,?_,rfl,rfl⟩
   cases x<;>first | rfl | cases hone
  ·cases h
theorem jG {P:Program}{g:G}{w:World}{t:TypeId}{b:Bool}{n off:Nat}{cs:List AV}{xs:List Value}{v:AV}(hb:isAggT P t=some b)(hn:size? P t=some n)(hx:VRs g cs xs)(h1:∀y∈xs,y.oneCell'=true)
  (h:part b cs off n=some v):bg P g w (Go.part t xs.toArray off) v:=by
 unfold part at h
 unfold bg Go.part
 simp only[Sem.run_bind,jO w hb,Result.andThen_ok]
 cases b with
 | true=>
  simp only[if_true]at h |-
  split at h
  ·rename_i l hl
   cases h
   obtain⟨rfl,hlen⟩:=ly _ _ _ hl
   rw[cw]
   refine⟨_,by simp[bA w hn];rfl,(xs.drop off).take n,VRs.take n<|VRs.drop off hx,λy hy=>h1 y<|List.mem_of_mem_drop<|List.mem_of_mem_take hy,?_⟩
   congr 1
  ·cases h
 | false=>
  simp only[Bool.false_eq_true,if_false]at h |-
  rw[cY]at h
  obtain⟨x,fe,iI⟩:=hx.get h
  refine⟨x,?_,iI⟩
  simp[fe]
theorem et (a b:Int):ieq a b=(a==b):=by
 rw[Bool.eq_iff_iff,beq_iff_eq]
 cases a<;>cases b<;>simp only[ieq,Nat.beq_eq,Int.ofNat.injEq,Int.negSucc.injEq,reduceCtorEq,Bool.false_eq_true]
theorem du (a b:Int):ilt a b=decide (a<b):=by
 rw[Bool.eq_iff_iff,decide_eq_true_iff]
 cases a<;>cases b<;>simp only[ilt,Nat.blt_eq,Int.negSucc_eq,Int.ofNat_eq_natCast,Bool.false_eq_true,true_iff,false_iff]<;>omega
theorem ic (a b:IntKind):keq a b=decide (a=b):=by cases a<;>cases b<;>rfl
theorem kH {P:Program}{g:G}(w:World){t:TypeId}{u v:AV}{x y:Value}{b:Bool}(n:Nat){p:dC}(hp:keyOk P t=some p)(hx:VR g u x)(hy:VR g v y)(h:primEq p u v=some b) :
  (Op.equalIn (n+1) t x y).run P w=.ok b w:=by
 unfold keyOk at hp
 split at hp<;>cases hp<;>rename_i ht<;>unfold primEq at h<;>simp only at h
 ·split at h
  ·split at h
   ·split at h
    ·rename_i hk
     cases h
     rw[ic]at hk
     have hk:=of_decide_eq_true hk
     subst hk
     rw[hx.dp,hy.dp,et]
     exact run_equalIn_int w n t _ _ _ _ ht
    ·cases h
   ·cases h
  ·cases h
 ·split at h
  ·split at h
   ·cases h
    rw[hx.dY,hy.dY]
    exact run_equalIn_string w n t _ _ ht
   ·cases h
  ·cases h
 ·split at h
  ·split at h
   ·cases h
    rw[hx.eN,hy.eN]
    exact run_equalIn_bool' w n t _ _ ht
   ·cases h
  ·cases h
theorem mR {α:Type}(f:Bool->α->Option Bool)(hf:∀a,f false a=some false)(l:List α):aw f l false=some false:=by
 induction l with
 | nil=>rfl
 | cons a l ih=>rw[eg,hf];exact ih
set_option maxHeartbeats 400000 in
theorem B9 {P:Program}{g:G}(w:World):∀(d:Nat)(cst:Bool)(t:TypeId)(p:dC),eqPlan P cst d t=some p->∀(m n:Nat)(u v:AV)(x y:Value)(b:Bool),d<=n->VR g u x->VR g v y->eqBy m p u v=some b ->
  (Op.equalIn n t x y).run P w=.ok b w:=by
 intro d
 induction d with
 | zero=>intro cst t p h;cases h
 | succ d ih=>
  intro cst t p hp m n u v x y b hn hx hy hb
  obtain⟨n,rfl⟩:∃k,n=k+1:=⟨n-1,by omega⟩
  cases m with
  | zero=>cases hb
  | succ m=>
  unfold eqPlan at hp
  split at hp
  ·rename_i ht;cases hp;exact kH w n (p:=.pb) (by simp[keyOk,ht]) hx hy hb
  ·rename_i ht;cases hp;exact kH w n (p:=.pi) (by simp[keyOk,ht]) hx hy hb
  ·rename_i ht;cases hp;exact kH w n (p:=.ps) (by simp[keyOk,ht]) hx hy hb
  ·-- VD
   rename_i e ht
   split at hp
   ·rename_i k hs
    cases hp
    simp only[eqBy]at hb
    split at hb
    ·rename_i b'
     cases hb
     have hx:x=.pointer none:=hx
     subst hx
     cases b' with
     | none=>
      have hy:y=.pointer none:=hy
      subst hy;simp[Op.equalIn,run_underlying ht]
     | some q=>obtain⟨dq,_,rfl⟩:=hy;simp[Op.equalIn,run_underlying ht]
    ·cases hb
     obtain⟨dq,_,rfl⟩:=hx
     have hy:y=.pointer none:=hy
     subst hy;simp[Op.equalIn,run_underlying ht]
    ·rename_i p q
     split at hb
     ·rename_i h1
      split at hb
      ·rename_i h2
       split at hb
       ·rename_i h3
        cases hb
        have h1:=Nat.eq_of_beq_eq_true h1
        have h2:=Nat.eq_of_beq_eq_true h2
        have h3:=Nat.eq_of_beq_eq_true h3
        obtain⟨d1,hd1,rfl⟩:=hx
        obtain⟨d2,hd2,rfl⟩:=hy
        rw[h1,hd2]at hd1
        cases hd1
        have he:gX d1 p=gX d1 q:=by simp[gX,h2,h3]
        rw[he]
        simp[Op.equalIn,run_underlying ht,bA w hs,sameAddr]
       ·cases hb
      ·cases hb
     ·cases hb
    ·cases hb
   ·cases hp
  ·-- FR
   rename_i e ht
   cases hp
   cases u with
   | slice a l c s r=>
    cases v with
    | slice a' l' c' s' r'=>
     cases a with
     | none=>
      obtain⟨_,rfl⟩:=hx
      cases a' with
      | none=>cases hb;obtain⟨_,rfl⟩:=hy;simp[Op.equalIn,run_underlying ht]
      | some q=>cases hb;obtain⟨dq,_,_,rfl⟩:=hy;simp[Op.equalIn,run_underlying ht]
     | some q=>
      cases a' with
      | none=>cases hb;obtain⟨dq,_,_,rfl⟩:=hx;obtain⟨_,rfl⟩:=hy;simp[Op.equalIn,run_underlying ht]
      | some q=>cases hb
    | empty=>
     cases a with
     | none=>cases hb;obtain⟨_,rfl⟩:=hx;obtain⟨a,c,rfl⟩:=hy;simp[Op.equalIn,run_underlying ht]
     | some q=>cases hb
    | _=>cases a<;>cases hb
   | empty=>
    cases v with
    | slice a' l' c' s' r'=>
     cases a' with
     | none=>cases hb;obtain⟨_,rfl⟩:=hy;obtain⟨a,c,rfl⟩:=hx;simp[Op.equalIn,run_underlying ht]
     | some q=>cases hb
    | _=>cases hb
   | _=>cases hb
  ·-- maps
   rename_i k e ht
   cases hp
   cases u with
   | map a=>
    cases v with
    | map a'=>
     cases a with
     | none=>
      have hx:x=.map none:=hx
      subst hx
      cases a' with
      | none=>
       cases hb;have hy:y=.map none:=hy
       subst hy;simp[Op.equalIn,run_underlying ht]
      | some q=>cases hb;obtain⟨_,_,rfl⟩:=hy;simp[Op.equalIn,run_underlying ht]
     | some q=>
      cases a' with
      | none=>
       cases hb;obtain⟨_,_,rfl⟩:=hx;have hy:y=.map none:=hy
       subst hy;simp[Op.equalIn,run_underlying ht]
      | some q=>cases hb
    | _=>cases a<;>cases hb
   | _=>cases hb
  ·-- functions
   rename_i k e r ht
   cases hp
   cases u with
   | nilFunc=>
    have hx:x=.nilFunc:=hx
    subst hx
    cases v with
    | nilFunc=>
     cases hb;have hy:y=.nilFunc:=hy
     subst hy;simp[Op.equalIn,run_underlying ht]
    | func f a b=>cases hb;obtain⟨_,_,_,_,rfl⟩:=hy;simp[Op.equalIn,run_underlying ht]
    | _=>cases hb
   | func f a b=>
    obtain⟨_,_,_,_,rfl⟩:=hx
    cases v with
    | nilFunc=>
     cases hb;have hy:y=.nilFunc:=hy
     subst hy;simp[Op.equalIn,run_underlying ht]
    | _=>cases hb
   | _=>cases hb
  ·-- Qg
   rename_i ms ht
   cases hp
   cases u with
   | nilIface=>
    have hx:x=.nilIface:=hx
    subst hx
    cases v with
    | nilIface=>
     have hy:y=.nilIface:=hy
     subst hy
     cases cst<;>cases hb
     simp[Op.equalIn,run_underlying ht]
    | iface t' v'=>cases hb;obtain⟨_,_,rfl⟩:=hy;simp[Op.equalIn,run_underlying ht]
    | _=>cases hb
   | iface t' v'=>
    obtain⟨_,_,rfl⟩:=hx
    cases v with
    | nilIface=>
     cases hb;have hy:y=.nilIface:=hy
     subst hy;simp[Op.equalIn,run_underlying ht]
    | _=>cases hb
   | _=>cases hb
  ·-- structs
   rename_i fs ht
   split at hp
   ·cases hp
   ·rename_i hst
    split at hp
    ·rename_i l hl
     cases hp
     simp only[eqBy]at hb
     split at hb
     ·rename_i xs ys
      obtain⟨xv,fe,iI,rfl⟩:=hx
      obtain⟨yv,vy,Qb,rfl⟩:=hy
      have Uu:P.fieldsOf t=fs:=by simp[Program.fieldsOf,ht]
      rw[run_equalIn_struct w n t _ _ (by rw[Uu];exact ht) hst,Uu]
      generalize fs.toList=L at hl
      clear ht Uu hst
      induction L generalizing l with
      | nil=>cases hl;cases hb;rfl
      | cons f L ihl=>
       obtain⟨q,qs,hq,YV,rfl⟩:=(aV _ _ _ _).1 hl
       split at hq
       ·rename_i n' g' p' hnm hsz ti uA
        cases hq
        obtain⟨b',vn,zB⟩:=(ah _ _ _ _ _).1 hb
        simp only at vn
        split at vn
        ·rename_i u' v' hu hv
         obtain⟨xa,Qa,CS⟩:=jG (P:=P) (w:=w) ti hsz fe iI hu
         obtain⟨ya,Zf,U0⟩:=jG (P:=P) (w:=w) ti hsz vy Qb hv
         have he:=ih false f.type p' uA m n u' v' xa ya b' (by omega) CS U0 vn
         have hne:f.name ≠ "_":=by simpa using hnm
         simp only[Op.eqFields,if_pos hne,Sem.run_bind,Qa,Zf,he,Result.andThen_ok]
         cases b' with
         | false=>
          rw[mR _ (λ_=>rfl)]at zB
          cases zB
          simp
         | true=>simpa using ihl qs zB YV
        ·cases vn
       ·cases hq
     ·cases hb
    ·cases hp
  ·-- W3
   rename_i len elem ht
   split at hp
   ·rename_i n' g' p' hsz ti uA
    cases hp
    simp only[eqBy]at hb
    split at hb
    ·rename_i xs ys
     obtain⟨xv,fe,iI,rfl⟩:=hx
     obtain⟨yv,vy,Qb,rfl⟩:=hy
     simp only[Op.equalIn,Sem.run_bind,run_underlying ht,Result.andThen_ok,bA w hsz]
     rw[Std.Legacy.Range.forIn_eq_forIn_range']
     have hL:List.range' 0 (Std.Legacy.Range.size { start:=0,stop:=len,step:=1,step_pos:=by decide }) 1=List.range len:=by
      simp[Std.Legacy.Range.size,List.range_eq_range']
     simp only[hL]
     generalize List.range len=L at hb
     clear hL
     induction L with
     | nil=>cases hb;simp
     | cons i L ihl=>
      obtain⟨b',vn,zB⟩:=(ah _ _ _ _ _).1 hb
      simp only at vn
      split at vn
      ·rename_i u' v' hu hv
       obtain⟨xa,Qa,CS⟩:=jG (P:=P) (w:=w) ti hsz fe iI hu
       obtain⟨ya,Zf,U0⟩:=jG (P:=P) (w:=w) ti hsz vy Qb hv
       have he:=ih false elem p' uA m n u' v' xa ya b' (by omega) CS U0 vn
       simp only[List.forIn_cons,Sem.run_bind,Qa,Zf,he,Result.andThen_ok]
       cases b' with
       | false=>
        rw[mR _ (λ_=>rfl)]at zB
        cases zB
        simp
       | true=>simpa using ihl zB
      ·cases vn
    ·cases hb
   ·cases hp
  ·cases hp
end Go.Ev
namespace Go.Ev
theorem wrap_i64 {n:Int}(h:-9223372036854775808<=n)(h':n<=9223372036854775807):IntKind.wrap .i64 n=n:=by
 simp only[IntKind.wrap,IntKind.bits,IntKind.signed,Int.reducePow,Nat.reduceSub,Bool.true_and]
 split
 ·grind
 grind
theorem N9 (k:IntKind)(n:Int):mkI k n=some (.int k (k.wrap n)):=by
 unfold mkI
 split
 ·rename_i m
  split
  ·split
   ·rename_i h
    have h:=Nat.le_of_ble_eq_true h
    rw[aL,wrap_i64 (by grind)<|by grind]
   ·rfl
  ·rw[aL]
   congr 2
  ·rw[aL]
   congr 2
  ·rfl
 ·rename_i m
  split
  ·split
   ·rename_i h
    have h:=Nat.le_of_ble_eq_true h
    rw[aL,wrap_i64 (by grind)<|by grind]
   ·rfl
  ·rfl
theorem abV (a b:Int):iadd a b=a+b:=by cases a<;>cases b<;>rfl
theorem I3 (a b:Int):U5 a b=a*b:=by cases a<;>cases b<;>rfl
theorem rl (a b:Int):vH a b=a-b:=by
 cases a with
 | ofNat a=>cases b with
  | ofNat b=>
   simp only[vH]
   split
   ·rename_i h
    have h:=Nat.le_of_ble_eq_true h
    grind
   ·rename_i h
    have h:¬b<=a:=λhle=>by rw[Nat.ble_eq_true_of_le hle]at h;cases h
    have e:Nat.pred (Nat.sub b a)=b-a-1:=rfl
    grind
  | negSucc b=>rfl
 | negSucc a=>cases b<;>rfl
theorem ofInt64 (x:Nat)(h:x<2 ^ 64):(BitVec.ofInt 64 (x:Int)).toNat=x:=by
 grind
theorem H9 (op:BinOp)(k:IntKind)(a b:Int):bits op k a b=bitsOp op k a b:=by
 unfold bits
 split
 ·rename_i x y
  split
  ·rename_i h
   simp only[Bool.and_eq_true]at h
   have h1:=Nat.le_of_ble_eq_true h.1
   have h2:=Nat.le_of_ble_eq_true h.2
   split
   ·rw[aL]
    show some (AV.int .i64<|Int.ofNat<|x &&& y)=some (AV.int .i64<|IntKind.wrap .i64 ((BitVec.ofInt 64 (x:Int) &&& BitVec.ofInt 64 (y:Int)).toNat:Nat))
    rw[BitVec.toNat_and,ofInt64 x<|by omega,ofInt64 y<|by omega]
    have hle:x &&& y<=x:=Nat.and_le_left
    rw[wrap_i64 (by omega) (by omega)]
    rfl
   ·rw[aL]
    show some (AV.int .i64<|Int.ofNat<|x ||| y)=some (AV.int .i64<|IntKind.wrap .i64 ((BitVec.ofInt 64 (x:Int) ||| BitVec.ofInt 64 (y:Int)).toNat:Nat))
    rw[BitVec.toNat_or,ofInt64 x<|by omega,ofInt64 y<|by omega]
    have hle:x ||| y<2 ^ 63:=Nat.or_lt_two_pow (by omega)<|by omega
    rw[wrap_i64 (by omega) (by omega)]
    rfl
   ·rfl
  ·rfl
 ·rfl
section
variable {P:Program}{g:G}{w:World}
theorem acI {op:BinOp}{k:IntKind}{a b:Int}{v:AV}(h:bitsOp op k a b=some v):bg P g w (Op.intBits op k a b) v:=by
 unfold bitsOp at h
 split at h<;>cases h<;>exact⟨_,rfl,rfl⟩
set_option maxHeartbeats 400000 in
theorem Bx {op:BinOp}{t:TypeId}{u v r:AV}{x y:Value}(hne:op≠.eql/\op≠.neq)(hx:VR g u x)(hy:VR g v y)(h:binV op u v=some r):bg P g w (binOp op t x y) r:=by
 unfold binV at h
 split at h
 ·rename_i k a k' b
  rw[hx.dp,hy.dp]
  split at h
  ·-- shl
   split at h
   ·rename_i a b
    rw[N9]at h;cases h
    refine⟨_,?_,rfl⟩
    simp only[binOp,Op.shift]
    rw[if_neg (by simp)]
    have e1:Nat.mul a (Nat.pow 2<|Nat.min b k.bits)=a*2 ^ (min b k.bits):=rfl
    simp
   ·rename_i a b hh
    rw[N9]at h;cases h
    refine⟨_,?_,rfl⟩
    simp only[binOp,Op.shift]
    rw[if_neg (by simp)]
    simp
   ·cases h
  ·-- shr
   split at h
   ·rename_i a b
    rw[aL]at h;cases h
    refine⟨_,?_,rfl⟩
    simp only[binOp,Op.shift]
    rw[if_neg (by simp)]
    have e1:Nat.div a (Nat.pow 2<|Nat.min b k.bits)=a/2 ^ (min b k.bits):=rfl
    have e2:Int.fdiv (a:Int) (2 ^ (min b k.bits))=((a/2 ^ (min b k.bits):Nat):Int):=by
     rw[Int.ofNat_fdiv];simp
    simp only[Int.toNat_natCast,Int.ofNat_eq_natCast]
    exact congrArg (λz=>Result.ok (Value.int k z) w) e2
   ·cases h
  ·rename_i nr dt
   split at h
   ·cases h
   ·rename_i hk
    rw[ic]at hk
    have hk:=of_decide_eq_true hk
    subst hk
    split at h
    ·rw[N9,abV]at h;cases h;exact⟨_,by simp[binOp,Op.intArith],rfl⟩
    ·rw[N9,rl]at h;cases h;exact⟨_,by simp[binOp,Op.intArith],rfl⟩
    ·rw[N9,I3]at h;cases h;exact⟨_,by simp[binOp,Op.intArith],rfl⟩
    ·split at h
     ·cases h
     ·rename_i a b hb
      rw[N9]at h;cases h
      have hb0:¬((b:Int)=0):=λe=>hb<|by simpa using e
      refine⟨_,?_,rfl⟩
      have e1:Nat.div a b=a/b:=rfl
      simp only[binOp,Op.intDiv,Int.ofNat_eq_natCast,ne_eq,not_true_eq_false,if_false,if_neg hb0,e1]
      rw[<- Int.ofNat_tdiv];rfl
     ·rename_i h1 h2
      rw[N9]at h;cases h
      have hb0:¬(b=0):=λe=>h1<|by simpa using e
      exact⟨_,by simp only[binOp,Op.intDiv,ne_eq,not_true_eq_false,if_false,if_neg hb0];rfl,rfl⟩
    ·split at h
     ·cases h
     ·rename_i a b hb
      rw[aL]at h;cases h
      have hb0:¬((b:Int)=0):=λe=>hb<|by simpa using e
      refine⟨_,?_,rfl⟩
      have e1:Nat.mod a b=a%b:=rfl
      simp only[binOp,Op.intDiv,Int.ofNat_eq_natCast,ne_eq,not_true_eq_false,if_false,if_neg hb0,e1]
      rw[<- Int.ofNat_tmod];rfl
     ·rename_i h1 h2
      cases h
      have hb0:¬(b=0):=λe=>h1<|by simpa using e
      exact⟨_,by simp only[binOp,Op.intDiv,ne_eq,not_true_eq_false,if_false,if_neg hb0];rfl,rfl⟩
    ·cases h;exact⟨_,by simp[binOp,Op.intCmp];rfl,by simp[VR,du]⟩
    ·cases h;exact⟨_,by simp[binOp,Op.intCmp];rfl,by simp only[VR,du];congr 1;rw[Bool.eq_iff_iff];simp⟩
    ·cases h;exact⟨_,by simp[binOp,Op.intCmp];rfl,by simp[VR,du]⟩
    ·cases h;exact⟨_,by simp[binOp,Op.intCmp];rfl,by simp only[VR,du];congr 1;rw[Bool.eq_iff_iff];simp⟩
    ·rename_i op' h1 h2 h3 h4 h5 h6 h7 h8 h9
     rw[H9]at h
     cases op<;>first | (cases h;done) | (exact absurd rfl<|by assumption) | skip
     all_goals first | (simp only[binOp,ne_eq,not_true_eq_false,if_false];exact acI h) | skip
 ·rw[hx.dY,hy.dY]
  split at h
  ·split at h
   ·rename_i a b hle
    cases h
    have hle:=Nat.le_of_ble_eq_true hle
    refine⟨_,?_,rfl⟩
    simp only[binOp,Op.stringOp]
    rw[if_neg (by simp[IntKind.max,IntKind.signed,IntKind.bits];omega)]
    rfl
   ·cases h
  all_goals first | (cases h;exact⟨_,rfl,rfl⟩) | skip
  cases h
 ·cases h
theorem Ke {op:UnOp}{u r:AV}{x:Value}(hx:VR g u x)(h:unV op u=some r):bg P g w (Op.unary op x) r:=by
 unfold unV at h
 split at h
 ·rw[N9]at h;cases h;rw[hx.dp];exact⟨_,rfl,rfl⟩
 ·cases h;rw[hx.eN];exact⟨_,rfl,rfl⟩
 ·cases h
end
end Go.Ev
namespace Go.Ev
section
variable {P:Program}{X:Pt}{w0:World}{g:G}{H H':Heap}{w:World}{ρ:Operand->Option AV}{ev:Operand->Value}{v:AV}
theorem bg.exec {s:Sem Value}(h:bg P g w s v):∃x,(do pure (Next.value (<- s)):Sem Next).run P w=.ok (.value x) w/\VR g v x:=by
 obtain⟨x,h1,h2⟩:=h
 exact⟨x,by simp[h1],h2⟩
theorem vV {t:TypeId}{x:Operand}{op:AOp}(hρ:cm g ρ ev)(hH:HR X w0 g H w)(hc:cOp P (.load t x)=some op)(h:aval P H ρ op=some (v,H')) :
  H'=H/\bg P g w (Instr.loadAt t<|ev x) v:=by
 unfold cOp at hc
 simp only at hc
 split at hc
 ·rename_i b n ti hsz
  have key:∀b,isAggT P t=some b->(b=false->n=0)->aval P H ρ (.load b (n+1) x)=some (v,H')->H'=H/\bg P g w (Instr.loadAt t<|ev x) v:=by
   intro b ti Uf h
   simp only[aval]at h
   split at h
   ·rename_i p hp
    obtain⟨d,hd,he⟩:=hρ _ _ hp
    split at h
    ·rename_i l hl
     obtain⟨d',xs,hd',hv,hlen,dP,hone⟩:=hH.read hl
     rw[hd]at hd';cases hd'
     unfold bg Instr.loadAt
     simp only[he,Instr.sureAddr,Sem.run_bind,Sem.run_pure,Result.andThen_ok,loadVar,jO w ti]
     cases b with
     | true=>
      cases h
      refine⟨rfl,_,?_,xs,hv,hone,rfl⟩
      have:=dP.load (P:=P)
      rw[hlen]at this
      simp[bA w hsz,this]
     | false=>
      have hn0:=Uf rfl
      simp only at h
      split at h
      ·cases h
       obtain⟨y,ys,hy,hys,rfl⟩:=hv
       have:=dP 0 y rfl
       refine⟨rfl,y,?_,hy⟩
       simp only[Bool.false_eq_true,if_false,run_load]
       have e:w.cell? (gX d p)=some y:=this
       rw[e]
      ·cases h
    ·cases h
   ·cases h
  split at hc
  ·cases hc
  ·rename_i hno
   cases hc
   exact key b ti (λe=>by cases n with | zero=>rfl | succ n=>grind) h
 ·cases hc
theorem sZ {t:TypeId}{x:Operand}{i:Nat}{op:AOp}(hρ:cm g ρ ev)(hc:cOp P (.field t x i)=some op)(h:aval P H ρ op=some (v,H')) :
  H'=H/\bg P g w (Instr.field t (ev x) i) v:=by
 unfold cOp at hc
 simp only at hc
 split at hc
 ·rename_i f hf
  split at hc
  ·rename_i n b hsz ti
   have key:aval P H ρ (.fld f.offset (n+1) b x)=some (v,H')->H'=H/\bg P g w (Instr.field t (ev x) i) v:=by
    intro h
    simp only[aval]at h
    split at h
    ·rename_i cs hx
     obtain⟨xs,h1,h2,he⟩:=hρ _ _ hx
     split at h
     ·rename_i v' hp
      cases h
      refine⟨rfl,?_⟩
      unfold fieldOf at hf
      split at hf
      ·rename_i fs hu
       unfold bg Instr.field
       simp only[Sem.run_bind,run_underlying hu,Result.andThen_ok,hf,he,asAgg,Sem.run_pure]
       exact jG ti hsz h1 h2 hp
      ·cases hf
     ·cases h
    ·cases h
   grind
  ·cases hc
 ·cases hc
theorem sX {t:TypeId}{x:Operand}{i:Nat}{op:AOp}(hρ:cm g ρ ev)(hc:cOp P (.fieldAddr t x i)=some op)(h:aval P H ρ op=some (v,H')) :
  H'=H/\bg P g w (Instr.fieldAt t (ev x) i) v:=by
 unfold cOp at hc
 simp only at hc
 split at hc
 ·rename_i f hf
  split at hc
  ·rename_i n hsz
   cases hc
   simp only[aval]at h
   split at h
   ·rename_i p hp
    cases h
    obtain⟨d,hd,he⟩:=hρ _ _ hp
    unfold fieldOf at hf
    split at hf
    ·rename_i fs hu
     refine⟨rfl,.pointer<|some<|gX d ⟨p.b,p.r,p.o+f.offset⟩,?_,d,hd,rfl⟩
     unfold Instr.fieldAt
     simp only[Sem.run_bind,run_underlying hu,Result.andThen_ok,hf,he,Instr.sureAddr,Sem.run_pure,fieldPlace,bA w hsz,Nat.succ_ne_zero,if_false]
     rw[eJ]
     simp[gX,Nat.add_assoc]
    ·cases hf
   ·cases h
  ·cases hc
 ·cases hc
theorem mh {k:IntKind}{n:Int}{x:Operand}(hρ:cm g ρ ev)(h:ρ x=some (.int k n)):ev x=.int k n:=hρ _ _ h
theorem acm {t:TypeId}{x i:Operand}{op:AOp}(hρ:cm g ρ ev)(hc:cOp P (.indexAddr t x i)=some op)(h:aval P H ρ op=some (v,H')) :
  H'=H/\bg P g w (Instr.indexAt t (ev x)<|ev i) v:=by
 unfold cOp at hc
 simp only at hc
 split at hc
 ·rename_i e hu
  split at hc
  ·rename_i n hsz
   cases hc
   simp only[aval]at h
   split at h
   ·rename_i p len cp s rw hx
    split at h
    ·rename_i k m hi
     split at h
     ·rename_i hlt
      have hlt:m<len:=by simpa[Nat.blt_eq]using hlt
      split at h
      ·rename_i q hq
       cases h
       obtain⟨d,hd,hrw,he⟩:=hρ _ _ hx
       obtain⟨zH,zG⟩:=d6 hq hd hrw
       refine⟨rfl,.pointer<|some<|gX d q,?_,d,by grind,rfl⟩
       have h1:(0:Int)<=Int.ofNat m/\Int.ofNat m<(len:Int):=by simp;omega
       unfold Instr.indexAt
       simp only[mh hρ hi,asIntOf,he,Sem.run_bind,Sem.run_pure,run_underlying hu,Result.andThen_ok,if_pos h1,bA w hsz]
       have e2:(Int.ofNat m).toNat=m:=rfl
       simp only[e2,eJ,zG]
      ·cases h
     ·cases h
    ·cases h
   ·cases h
  ·cases hc
 ·rename_i len e hu
  split at hc
  ·rename_i n hsz
   cases hc
   simp only[aval]at h
   split at h
   ·rename_i p hx
    split at h
    ·rename_i k m hi
     split at h
     ·rename_i hlt
      have hlt:m<len:=by simpa[Nat.blt_eq]using hlt
      split at h
      ·rename_i q hq
       cases h
       obtain⟨d,hd,he⟩:=hρ _ _ hx
       obtain⟨zH,zG⟩:=d6 hq hd<|λe=>absurd rfl e
       refine⟨rfl,.pointer<|some<|gX d q,?_,d,by grind,rfl⟩
       have h1:(0:Int)<=Int.ofNat m/\Int.ofNat m<(len:Int):=by simp;omega
       unfold Instr.indexAt
       simp only[mh hρ hi,asIntOf,he,Sem.run_bind,Sem.run_pure,run_underlying hu,Result.andThen_ok,if_pos h1,bA w hsz,Instr.sureAddr]
       have e2:(Int.ofNat m).toNat=m:=rfl
       simp only[e2,eJ,zG]
      ·cases h
     ·cases h
    ·cases h
   ·cases h
  ·cases hc
 ·cases hc
theorem acn {t:TypeId}{x i:Operand}{op:AOp}(hρ:cm g ρ ev)(hc:cOp P (.index t x i)=some op)(h:aval P H ρ op=some (v,H')) :
  H'=H/\bg P g w (Instr.index t (ev x)<|ev i) v:=by
 unfold cOp at hc
 simp only at hc
 split at hc
 ·rename_i len e hu
  split at hc
  ·rename_i n b hsz ti
   have key:aval P H ρ (.idxA len (n+1) b x i)=some (v,H')->H'=H/\bg P g w (Instr.index t (ev x)<|ev i) v:=by
    intro h
    simp only[aval]at h
    split at h
    ·rename_i cs hx
     obtain⟨xs,hv,hone,he⟩:=hρ _ _ hx
     split at h
     ·rename_i k m hi
      split at h
      ·rename_i hlt
       have hlt:m<len:=by simpa[Nat.blt_eq]using hlt
       split at h
       ·rename_i v' hp
        cases h
        refine⟨rfl,?_⟩
        have h1:(0:Int)<=Int.ofNat m/\Int.ofNat m<(len:Int):=by simp;omega
        unfold bg Instr.index
        simp only[mh hρ hi,asIntOf,he,Sem.run_bind,Sem.run_pure,run_underlying hu,Result.andThen_ok,if_pos h1,bA w hsz]
        exact jG ti hsz hv hone hp
       ·cases h
      ·cases h
     ·cases h
    ·cases h
   grind
  ·cases hc
 ·rename_i hu
  cases hc
  simp only[aval]at h
  split at h
  ·rename_i s hx
   have he:=(hρ _ _ hx).dY
   split at h
   ·rename_i k m hi
    split at h
    ·rename_i b hb
     cases h
     refine⟨rfl,_,?_,rfl⟩
     unfold Instr.index
     have h0:(0:Int)<=Int.ofNat m:=by simp
     simp only[mh hρ hi,asIntOf,he,Sem.run_bind,Sem.run_pure,run_underlying hu,Result.andThen_ok,if_pos h0]
     simp_all
    ·cases h
   ·cases h
  ·cases h
 ·cases hc
theorem wt {c a b:Operand}(hρ:cm g ρ ev)(h:aval P H ρ (.pick c a b)=some (v,H')) :
  H'=H/\bg P g w (do pure<|if <- asBool (ev c)then ev a else ev b) v:=by
 simp only[aval]at h
 split at h
 ·rename_i hc
  have he:=(hρ _ _ hc).eN
  split at h
  ·rename_i ha;cases h;exact⟨rfl,ev a,by simp[he,asBool],hρ _ _ ha⟩
  ·cases h
 ·rename_i hc
  have he:=(hρ _ _ hc).eN
  split at h
  ·rename_i ha;cases h;exact⟨rfl,ev b,by simp[he,asBool],hρ _ _ ha⟩
  ·cases h
 ·cases h
theorem pc {x:Operand}{i:Nat}(hρ:cm g ρ ev)(h:aval P H ρ (.extract x i)=some (v,H')):H'=H/\bg P g w (Instr.extract (ev x) i) v:=by
 simp only[aval]at h
 split at h
 ·rename_i vs hx
  obtain⟨xs,hv,he⟩:=hρ _ _ hx
  split at h
  ·rename_i v' hl
   cases h
   rw[cY]at hl
   obtain⟨y,hy,uC⟩:=hv.get hl
   refine⟨rfl,y,?_,uC⟩
   simp[Instr.extract,he,hy]
  ·cases h
 ·cases h
theorem vZ {t:TypeId}{x:Operand}{op:AOp}(hρ:cm g ρ ev)(hc:cOp P (.makeInterface t x)=some op)(h:aval P H ρ op=some (v,H')) :
  H'=H/\bg P g w (Instr.makeInterface t<|ev x) v:=by
 unfold cOp at hc
 simp only at hc
 split at hc
 ·cases hc
 ·rename_i d hd hu
  cases hc
  simp only[aval]at h
  split at h
  ·cases h
  ·rename_i v' hv hx
   cases h
   refine⟨rfl,.iface t<|ev x,?_,ev x,hρ _ _ hx,rfl⟩
   unfold Instr.makeInterface
   simp only[Sem.run_bind,run_underlying hu,Result.andThen_ok]
   rfl
  ·cases h
 ·cases hc
theorem vY {fn:Fn}{a b:Array Operand}{op:AOp}(hρ:cm g ρ ev)(hc:cOp P (.makeFunc fn a b)=some op)(h:aval P H ρ op=some (v,H')) :
  H'=H/\bg P g w (Instr.makeFunc fn (a.map ev)<|b.map ev) v:=by
 unfold cOp at hc
 split at hc<;>first | grind | skip
 all_goals first | grind | skip
 ·rename_i f a' b' e
  cases e
  cases hc
  simp only[aval]at h
  split at h
  ·rename_i as ha
   split at h
   ·rename_i bs hb
    cases h
    refine⟨rfl,_,rfl,a.toList.map ev,b.toList.map ev,hρ.list ha,hρ.list hb,?_⟩
    congr 1<;>(grind)
   ·cases h
  ·cases h
 ·rename_i n a' b' e
  cases e
  split at hc
  ·rename_i x ha hb
   cases hc
   simp only[aval]at h
   split at h
   ·rename_i t v' hx
    cases h
    refine⟨rfl,_,rfl,ev x,hρ _ _ hx,?_⟩
    have ea:a=#[x]:=by grind
    simp_all
   ·cases h
  ·cases hc
end
end Go.Ev
namespace Go.Ev
section
variable {P:Program}{X:Pt}{w0:World}{g:G}{H H':Heap}{w:World}{ρ:Operand->Option AV}{ev:Operand->Value}{v:AV}
theorem jx {y n c:Nat}{u:AV}{x:Value}(hb:bnd y u=some n)(hx:VR g u x)(hyc:y<=c)(code:BoundsCode):(Instr.sliceBound x c code).run P w=.ok n w/\n<=y:=by
 unfold bnd at hb
 split at hb
 ·split at hb
  ·rename_i k m hle
   cases hb
   have hle:=Nat.le_of_ble_eq_true hle
   rw[hx.dp]
   refine⟨?_,hle⟩
   have h1:(0:Int)<=Int.ofNat n/\Int.ofNat n<=(c:Int):=by simp;omega
   simp only[Instr.sliceBound,asIntOf,Sem.run_bind,Sem.run_pure,Result.andThen_ok,if_pos h1]
   rfl
  ·cases hb
 ·cases hb
theorem gD {y d n:Nat}(h:cL ρ y d none=some n):n=d:=by cases h;rfl
theorem fC {y d n:Nat}{x:Operand}(h:cL ρ y d (some x)=some n):∃u,ρ x=some u/\bnd y u=some n:=by
 simp only[cL]at h
 split at h
 ·grind
 ·cases h
theorem fY {Sk:Bool}{len cap cap' hn ln:Nat}{lo hi:Option Operand}(hρ:cm g ρ ev)(hcap:cap<=cap')(hh:cL ρ cap len hi=some hn)(hl:cL ρ hn 0 lo=some ln) :
  (Instr.sliceBounds Sk len cap' (lo.map ev) (hi.map ev) none).run P w=.ok (ln,hn,cap') w/\ln<=hn:=by
 have h2:∀code,(match lo with | some x=>Instr.sliceBound (ev x) hn code | none=>pure 0:Sem Nat).run P w=.ok ln w/\ln<=hn:=by
  intro code
  cases lo with
  | none=>have:=gD hl;subst this;exact⟨rfl,Nat.zero_le _⟩
  | some x=>obtain⟨u,hu,hb⟩:=fC hl;exact jx hb (hρ _ _ hu) (Nat.le_refl _) code
 have h1:∀code,(match hi with | some x=>Instr.sliceBound (ev x) cap' code | none=>pure len:Sem Nat).run P w=.ok hn w:=by
  intro code
  cases hi with
  | none=>have:=gD hh;subst this;rfl
  | some x=>obtain⟨u,hu,hb⟩:=fC hh;exact(jx hb (hρ _ _ hu) hcap code).1
 refine⟨?_,(h2 .sliceB).2⟩
 unfold Instr.sliceBounds
 cases lo<;>cases hi<;>simp only[Option.map_none,Option.map_some,Sem.run_bind,Sem.run_pure,Result.andThen_ok,Option.isSome_none,Bool.false_eq_true,if_false] <;>
  first
   | grind
   | simp_all
theorem AG {t:TypeId}{x:Operand}{lo hi mx:Option Operand}{op:AOp}(hρ:cm g ρ ev)(hc:cOp P (.slice t x lo hi mx)=some op)(h:aval P H ρ op=some (v,H')) :
  H'=H/\bg P g w (Instr.sliceAt t (ev x) (lo.map ev) (hi.map ev)<|mx.map ev) v:=by
 unfold cOp at hc
 simp only at hc
 split at hc
 ·-- of a slice
  rename_i e hu
  split at hc
  ·rename_i k hsz
   cases hc
   simp only[aval]at h
   split at h
   ·rename_i a len cap slack rw hx
    have hv:=hρ _ _ hx
    split at h
    ·-- two indexes
     split at h
     ·rename_i hn Cz
      split at h
      ·rename_i ln CI
       rw[aL,aL]at h
       have run:∀(A:Option Addr)(cap':Nat),ev x=.slice A len cap'->cap<=cap' ->
         (Instr.sliceAt t (ev x) (lo.map ev) (hi.map ev) none).run P w=.ok (.slice (if cap'=ln then A else A.map (·.add (ln*(k+1)))) (hn-ln)<|cap'-ln) w/\ln<=hn:=by
        intro A cap' hA hle
        obtain⟨hb,hl⟩:=fY (P:=P) (w:=w) (Sk:=true) (len:=len) (cap':=cap') hρ hle Cz CI
        refine⟨?_,hl⟩
        unfold Instr.sliceAt
        simp only[Sem.run_bind,run_underlying hu,Result.andThen_ok,Instr.slice,hA,hb,bA w hsz]
        rfl
       simp only[Option.map_none]
       split at h
       ·rename_i h0
        have h0:ln=0:=Nat.eq_of_beq_eq_true h0
        subst h0
        cases h
        refine⟨rfl,?_⟩
        cases a with
        | none=>
         obtain⟨rfl,he⟩:=hv
         refine⟨_,(run none cap he<|Nat.le_refl _).1,rfl,?_⟩
         simp
        | some p=>
         obtain⟨d,hd,hrw,he⟩:=hv
         refine⟨_,(run _ _ he (by split<;>omega)).1,d,hd,hrw,?_⟩
         simp[gC,gX]
       ·rename_i h0
        have h0:ln≠0:=λe=>by rw[e]at h0;cases h0
        split at h
        ·cases h
        ·rename_i p
         obtain⟨d,hd,hrw,he⟩:=hv
         have hrun:=run _ _ he (by split<;>omega)
         split at h
         ·rename_i hlt
          have hlt:ln<cap:=by simpa[Nat.blt_eq]using hlt
          split at h
          ·rename_i q hq
           cases h
           obtain⟨zH,zG⟩:=d6 hq hd hrw
           refine⟨rfl,_,hrun.1,d,by rw[zH];exact hd,λhr=>⟨(hrw hr).1,?_⟩,?_⟩
           ·unfold elemAt at hq
            split at hq
            ·exact absurd rfl hr
            ·split at hq
             ·split at hq
              ·cases hq;rfl
              ·cases hq
             ·cases hq
           ·have hne:¬((if slack=true then cap+d.xi else cap)=ln):=by split<;>omega
            rw[if_neg hne]
            simp only[Option.map_some,eJ,zG]
            congr 1
            have e1:Nat.sub cap ln=cap-ln:=rfl
            rw[e1]
            split<;>omega
          ·cases h
         ·split at h
          ·rename_i hnl heq
           have heq:ln=cap:=Nat.eq_of_beq_eq_true heq
           subst heq
           split at h
           ·cases h
            refine⟨rfl,_,hrun.1,d,hd,hrw,?_⟩
            simp
           ·split at h
            ·rename_i hz
             have hz:hn-ln=0:=Nat.eq_of_beq_eq_true hz
             cases h
             refine⟨rfl,_,hrun.1,?_⟩
             rw[hz]
             have hA:∀c',∃A,(if c'=ln then some (gX d p) else(some<|gX d p).map (·.add (ln*(k+1))))=some A:=λc'=>by
              split
              ·exact⟨_,rfl⟩
              ·exact⟨_,rfl⟩
             obtain⟨A,hA⟩:=hA<|if true=true then ln+d.xi else ln
             rw[hA]
             exact⟨A,_,rfl⟩
            ·cases h
          ·cases h
      ·cases h
     ·cases h
    ·-- three indexes
     rename_i m
     split at h
     ·rename_i m' hm
      split at h
      ·cases h
      ·rename_i hop
       split at h
       ·rename_i hn Cz
        split at h
        ·rename_i ln CI
         rw[aL,aL]at h
         obtain⟨um,hum,hbm⟩:=fC hm
         obtain⟨uh,huh,hbh⟩:=fC Cz
         have run:∀(A:Option Addr)(cap':Nat),ev x=.slice A len cap'->cap<=cap' ->
           (Instr.sliceAt t (ev x) (lo.map ev) (some<|ev hop)<|some<|ev m).run P w=.ok (.slice (if m'=ln then A else A.map (·.add (ln*(k+1)))) (hn-ln)<|m'-ln) w/\ln<=hn/\hn<=m':=by
          intro A cap' hA hle
          obtain⟨r1,l1⟩:=jx (P:=P) (w:=w) hbm (hρ _ _ hum) hle .slice3Acap
          obtain⟨r2,l2⟩:=jx (P:=P) (w:=w) hbh (hρ _ _ huh) (Nat.le_refl _) .slice3B
          have r3:(match lo.map ev with | some v=>Instr.sliceBound v hn .slice3C | none=>pure 0:Sem Nat).run P w=.ok ln w/\ln<=hn:=by
           cases lo with
           | none=>have:=gD CI;subst this;exact⟨rfl,Nat.zero_le _⟩
           | some y=>obtain⟨u,KM,hb⟩:=fC CI;exact jx hb (hρ _ _ KM) (Nat.le_refl _) _
          refine⟨?_,r3.2,l2⟩
          unfold Instr.sliceAt
          simp only[Sem.run_bind,run_underlying hu,Result.andThen_ok,Instr.slice,hA,Instr.sliceBounds,if_true,r1,r2,Option.isSome_some]
          cases lo with
          | none=>have:=gD CI;subst this;simp[bA w hsz]
          | some y=>have r3:=r3.1;simp only[Option.map_some]at r3 |-;simp[r3,bA w hsz]
         simp only[Option.map_some]
         split at h
         ·rename_i h0
          cases h
          have h0:ln=0\/ln=m':=by
           simp only[Bool.or_eq_true]at h0
           exact h0.imp Nat.eq_of_beq_eq_true Nat.eq_of_beq_eq_true
          refine⟨rfl,?_⟩
          cases a with
          | none=>
           obtain⟨rfl,he⟩:=hv
           refine⟨_,(run none cap he<|Nat.le_refl _).1,rfl,?_⟩
           simp
          | some p=>
           obtain⟨d,hd,hrw,he⟩:=hv
           refine⟨_,(run _ _ he (by split<;>omega)).1,d,hd,hrw,?_⟩
           rcases h0 with h0|h0
           ·subst h0;simp[gC,gX]
           ·subst h0;simp
         ·rename_i h0
          split at h
          ·cases h
          ·rename_i p
           obtain⟨d,hd,hrw,he⟩:=hv
           split at h
           ·rename_i q hq
            cases h
            obtain⟨zH,zG⟩:=d6 hq hd hrw
            have hne:¬m'=ln:=λe=>by
             subst e
             simp at h0
            refine⟨rfl,_,(run _ _ he (by split<;>omega)).1,d,by rw[zH];exact hd,λhr=>⟨(hrw hr).1,?_⟩,?_⟩
            ·unfold elemAt at hq
             split at hq
             ·exact absurd rfl hr
             ·split at hq
              ·split at hq
               ·cases hq;rfl
               ·cases hq
              ·cases hq
            ·rw[if_neg hne]
             simp only[Option.map_some,eJ,zG]
             rfl
           ·cases h
        ·cases h
       ·cases h
     ·cases h
   ·-- an empty one
    rename_i hx
    obtain⟨A,c,he⟩:=hρ _ _ hx
    split at h
    ·split at h
     ·rename_i hn Cz
      split at h
      ·rename_i ln CI
       cases h
       refine⟨rfl,?_⟩
       have hh0:hn=0:=by
        cases hi with
        | none=>exact gD Cz
        | some y=>obtain⟨u,KM,hb⟩:=fC Cz;have:=(jx (P:=P) (w:=w) hb (hρ _ _ KM) (Nat.le_refl _) .index).2;omega
       subst hh0
       obtain⟨hb,hl⟩:=fY (P:=P) (w:=w) (Sk:=true) (len:=0) (cap':=c) hρ (Nat.zero_le _) Cz CI
       have Uy:ln=0:=by omega
       subst Uy
       refine⟨.slice (some A) 0 c,?_,A,c,rfl⟩
       unfold Instr.sliceAt
       simp only[Option.map_none,Sem.run_bind,run_underlying hu,Result.andThen_ok,Instr.slice,he,hb,bA w hsz]
       simp[Addr.add]
      ·cases h
     ·cases h
    ·cases h
   ·cases h
  ·cases hc
 ·-- of an array
  rename_i n e hu
  split at hc
  ·rename_i k hsz
   cases hc
   simp only[aval]at h
   split at h
   ·rename_i p hx
    obtain⟨d,hd,he⟩:=hρ _ _ hx
    split at h
    ·cases h
    ·split at h
     ·rename_i hn Cz
      split at h
      ·rename_i ln CI
       obtain⟨hb,hl⟩:=fY (P:=P) (w:=w) (Sk:=false) (len:=n) (cap':=n) hρ (Nat.le_refl _) Cz CI
       have run:(Instr.sliceAt t (ev x) (lo.map ev) (hi.map ev) none).run P w=.ok (.slice (some<|if n=ln then gX d p else(gX d p).add (ln*(k+1))) (hn-ln)<|n-ln) w:=by
        unfold Instr.sliceAt
        simp only[Sem.run_bind,run_underlying hu,Result.andThen_ok,Instr.sureAddr,he,Sem.run_pure,hb,bA w hsz]
       simp only[Option.map_none]
       split at h
       ·rename_i heq
        have heq:ln=n:=Nat.eq_of_beq_eq_true heq
        subst heq
        cases h
        refine⟨rfl,_,run,d,hd,λe=>absurd rfl e,?_⟩
        simp
       ·rename_i hne
        split at h
        ·rename_i q hq
         cases h
         obtain⟨zH,zG⟩:=d6 hq hd<|λe=>absurd rfl e
         have hne:¬n=ln:=λe=>by subst e;simp at hne
         refine⟨rfl,_,run,d,by rw[zH];exact hd,λe=>absurd rfl e,?_⟩
         rw[if_neg hne]
         simp[eJ,zG]
        ·cases h
      ·cases h
     ·cases h
   ·cases h
  ·cases hc
 ·-- of a text
  rename_i hu
  split at hc
  ·cases hc
   simp only[aval]at h
   split at h
   ·rename_i s hx
    have he:=(hρ _ _ hx).dY
    split at h
    ·rename_i hn Cz
     split at h
     ·rename_i ln CI
      cases h
      obtain⟨hb,hl⟩:=fY (P:=P) (w:=w) (Sk:=false) (len:=s.size) (cap':=s.size) hρ (Nat.le_refl _) Cz CI
      refine⟨rfl,_,?_,rfl⟩
      unfold Instr.sliceAt
      simp only[Option.map_none,Sem.run_bind,run_underlying hu,Result.andThen_ok,Instr.slice,he,Option.isSome_none,Bool.false_eq_true,if_false,Sem.run_pure,hb]
     ·cases h
    ·cases h
   ·cases h
  ·cases hc
 ·cases hc
theorem dy {p:dC}{a b:AV}{r:Bool}(h:primEq p a b=some r):∃x y,keyV a=some x/\keyV b=some y/\(r=true↔x=y):=by
 unfold primEq at h
 split at h
 ·split at h
  ·split at h
   ·cases h;exact⟨_,_,rfl,rfl,by simp⟩
   ·cases h
  ·cases h
 ·split at h
  ·split at h
   ·split at h
    ·rename_i hk
     cases h
     rw[ic]at hk
     have hk:=of_decide_eq_true hk
     subst hk
     exact⟨_,_,rfl,rfl,by rw[et];simp⟩
    ·cases h
   ·cases h
  ·cases h
 ·split at h
  ·split at h
   ·rename_i a _ b
    cases h
    refine⟨_,_,rfl,rfl,?_⟩
    rw[beq_iff_eq,ByteArray.toList_eq,ByteArray.toList_eq,Value.string.injEq]
    exact⟨λh=>by cases a;cases b;congr 1;exact Array.ext' h,λh=>by rw[h]⟩
   ·cases h
  ·cases h
 ·cases h
theorem rt {a:AV}{x y:Value}(h:keyV a=some x)(hv:VR g a y):y=x:=by
 cases a<;>simp[keyV]at h<;>subst h<;>exact hv
theorem lookIn_spec {p:dC}{k:AV}:∀(es:List (AV × AV))(r0 r:Option AV),aw (λ(r:Option AV)(e:AV × AV)=>match primEq p k e.1 with | some true=>some (some e.2) | some false=>some r | none=>none) es r0=some r ->
  (∀e∈es,∃b,primEq p k e.1=some b)/\((∀e∈es,primEq p k e.1=some false)/\r=r0\/∃(i:Nat)(k' v:AV),es[i]?=some (k',v)/\primEq p k k'=some true/\r=some v):=by
 intro es
 induction es with
 | nil=>intro r0 r h;cases h;grind
 | cons e es ih=>
  intro r0 r h
  obtain⟨b',hb,hr⟩:=(ah _ _ _ _ _).1 h
  split at hb
  ·rename_i he
   cases hb
   obtain⟨h1,h2⟩:=ih _ _ hr
   refine⟨λx hx=>by grind,.inr ?_⟩
   rcases h2 with⟨_,rfl⟩|⟨i,k',v,hi,hk,rfl⟩
   ·exact⟨0,e.1,e.2,rfl,he,rfl⟩
   ·exact⟨i+1,k',v,by simpa using hi,hk,rfl⟩
  ·rename_i he
   obtain⟨h1,h2⟩:=ih _ _ hr
   refine⟨λx hx=>by grind,?_⟩
   rcases h2 with⟨hf,rfl⟩|⟨i,k',v,hi,hk,rfl⟩
   ·grind
   ·exact .inr ⟨i+1,k',v,by simpa using hi,hk,rfl⟩
  ·cases hb
theorem qT {d:TypeDesc}{kx:Value}:∀(cs:List MapEntry)(i:Nat),(∀c∈cs,Instr.sameNow d kx c.key=some false)->Instr.findNow d kx cs i=some none:=by
 intro cs
 induction cs with
 | nil=>intro i _;rfl
 | cons c cs ih=>intro i h;simp[Instr.findNow,h c<|by simp,ih (i+1)<|λc hc=>h c<|by simp[hc]]
theorem qU {d:TypeDesc}{kx:Value}:∀(cs:List MapEntry)(i:Nat),(∀c∈cs,∃b,Instr.sameNow d kx c.key=some b)->(∃c∈cs,Instr.sameNow d kx c.key=some true) ->
  ∃(j:Nat)(c:MapEntry),cs[j]?=some c/\Instr.sameNow d kx c.key=some true/\Instr.findNow d kx cs i=some (some (i+j,c.val)):=by
 intro cs
 induction cs with
 | nil=>grind
 | cons c cs ih=>
  intro i h he
  obtain⟨b,hb⟩:=h c<|by simp
  cases b with
  | true=>exact⟨0,c,rfl,hb,by simp[Instr.findNow,hb]⟩
  | false=>
   obtain⟨x,hx,Ze⟩:=he
   rcases List.mem_cons.1 hx with rfl|hx
   ·grind
   ·obtain⟨j,c',h1,h2,h3⟩:=ih (i+1) (λc hc=>h c<|by simp[hc]) ⟨x,hx,Ze⟩
    exact⟨j+1,c',by simpa using h1,h2,by simp only[Instr.findNow,hb,h3];congr 3;omega⟩
theorem lL {kt:TypeId}{p:dC}(hp:keyOk P kt=some p){k k':AV}{b:Bool}{x y:Value}(h:primEq p k k'=some b)(hx:keyV k=some x)(hy:keyV k'=some y) :
  ∃d,P.underlying kt=some d/\Instr.sameNow d x y=some b:=by
 unfold keyOk at hp
 split at hp<;>cases hp<;>rename_i ht<;>refine⟨_,ht,?_⟩<;>unfold primEq at h<;>simp only at h
 ·split at h
  ·split at h
   ·split at h
    ·rename_i hk
     cases h;cases hx;cases hy
     rw[ic]at hk
     have hk:=of_decide_eq_true hk
     subst hk
     simp[Instr.sameNow,et]
    ·cases h
   ·cases h
  ·cases h
 ·split at h
  ·split at h
   ·cases h;cases hx;cases hy
    simp[Instr.sameNow,beq_toListBytes]
   ·cases h
  ·cases h
 ·split at h
  ·split at h
   ·cases h;cases hx;cases hy
    simp[Instr.sameNow]
   ·cases h
  ·cases h
theorem ft {kt:TypeId}{p:dC}(hp:keyOk P kt=some p)(b:Bool)(n:Nat)(x:Value):(Instr.checkKey b (n+1) kt x).run P w=.ok () w:=by
 unfold keyOk at hp
 split at hp<;>cases hp<;>rename_i ht<;>simp[Instr.checkKey,run_underlying ht]
theorem ef {kt:TypeId}{p:dC}(hp:keyOk P kt=some p){k:AV}{kx:Value}(hk:VR g k kx){es:List (AV × AV)}{cs:List MapEntry}(hm:MR g es cs){r:Option AV}(h:lookIn p k es=some r) :
  match r with
  | none=>(Instr.findKey kt kx cs).run P w=.ok none w/\(∀(i:Nat)(k' v:AV),es[i]?=some (k',v)->primEq p k k'=some false)
  | some v=>∃(j:Nat)(c:MapEntry)(i:Nat)(k':AV),cs[j]?=some c/\c.key=kx/\VR g v c.val/\(Instr.findKey kt kx cs).run P w=.ok (some (j,c.val)) w/\es[i]?=some (k',v)/\primEq p k k'=some true/\keyV k'=some kx:=by
 obtain⟨hall,hr⟩:=lookIn_spec es none r h
 have hud:∃d,P.underlying kt=some d:=by unfold keyOk at hp;grind
 obtain⟨d,hd⟩:=hud
 have hsame:∀c∈cs,∃(b:Bool)(i:Nat)(k' v:AV),es[i]?=some (k',v)/\keyV k'=some c.key/\primEq p k k'=some b/\Instr.sameNow d kx c.key=some b/\(b=true↔c.key=kx):=by
  intro c hc
  obtain⟨j,hj⟩:=List.getElem?_of_mem hc
  obtain⟨i,k',v,h1,h2,h3⟩:=hm.back j c hj
  obtain⟨b,hb⟩:=hall _<|List.mem_of_getElem? h1
  obtain⟨x,y,hx,hy,hxy⟩:=dy hb
  have Zd:=rt hx hk
  obtain⟨d',hd',hs⟩:=lL hp hb hx h2
  grind
 have hfk:∀q,Instr.findNow d kx cs 0=some q->(Instr.findKey kt kx cs).run P w=.ok q w:=by
  intro q hq
  simp[Instr.findKey,run_underlying hd,hq]
 rcases hr with⟨hf,rfl⟩|⟨i,k',v,hi,hkk,rfl⟩
 ·refine⟨hfk _<|qT cs 0 λc hc=>?_,λi k' v hi=>hf _<|List.mem_of_getElem? hi⟩
  grind
 ·obtain⟨x,y,hx,hy,hxy⟩:=dy hkk
  have Zd:=rt hx hk
  subst Zd
  have hy':y=kx:=(hxy.1 rfl).symm
  subst hy'
  obtain⟨j0,c0,hj0,hk0,hv0⟩:=hm.get i k' v hi
  obtain⟨j,c,h1,h2,h3⟩:=qU (d:=d) cs 0 (λc hc=>let⟨b,_,_,_,_,_,_,hs,_⟩:=hsame c hc;⟨b,hs⟩)
   ⟨c0,List.mem_of_getElem? hj0,by
    obtain⟨b,_,_,_,_,_,_,hs,hb⟩:=hsame c0<|List.mem_of_getElem? hj0
    grind⟩
  obtain⟨b,i2,k2,v2,Yq,hk2,_,hs,hb⟩:=hsame c<|List.mem_of_getElem? h1
  rw[h2]at hs;cases hs
  have lm:=hb.1 rfl
  have Yz:i=i2:=by
   by_cases hne:i=i2
   ·exact hne
   ·exact absurd (hy.trans<|by rw[hk2,lm])<|hm.keys i i2 k' k2 v v2 hi Yq hne
  obtain⟨i4,k4,v4,Ur,Gs,hv4⟩:=hm.back j c h1
  have Yz:i=i4:=by
   by_cases hne:i=i4
   ·exact hne
   ·exact absurd (hy.trans<|by rw[Gs,lm])<|hm.keys i i4 k' k4 v v4 hi Ur hne
  grind
end
end Go.Ev
namespace Go.Ev
section
variable {P:Program}{X:Pt}{w0:World}{g:G}{H H':Heap}{w:World}{ρ:Operand->Option AV}{ev:Operand->Value}{v:AV}
theorem oX {t:TypeId}{z:AV}(h:zero? P t=some z):∃zv,(zeroValue t).run P w=.ok zv w/\VR g z zv/\∃i,P.info? t=some i/\i.zero=some zv:=by
 unfold zero? at h
 split at h
 ·rename_i i hi
  split at h
  ·rename_i zv hz
   exact⟨zv,by simp[zeroValue,cR w hi,hz],lE g h,i,hi,hz⟩
  ·cases h
 ·cases h
theorem lookup_gives {t:TypeId}{m k:Operand}{ok:Bool}{op:AOp}(hρ:cm g ρ ev)(hH:HR X w0 g H w)(hc:cOp P (.lookup t m k ok)=some op)(h:aval P H ρ op=some (v,H')) :
  H'=H/\bg P g w (Instr.lookup t (ev m) (ev k) ok) v:=by
 unfold cOp at hc
 simp only at hc
 split at hc
 ·rename_i kt e hu
  split at hc
  ·rename_i kk z hk hz
   cases hc
   simp only[aval]at h
   split at h
   ·rename_i r hm
    split at h
    ·rename_i kv hkv
     obtain⟨zv,hzr,KS,_⟩:=oX (P:=P) (g:=g) (w:=w) hz
     have main:∀(es:List (AV × AV))(cs:Array MapEntry),MR g es cs.toList ->
       (∀q zz,(Instr.findKey kt (ev k) cs.toList).run P w=.ok q w->(zeroValue e).run P w=.ok zz w ->
        (Instr.lookup t (ev m) (ev k) ok).run P w=.ok (match q with
         | some (_,x)=>if ok then .tuple #[x,.bool true]else x
         | none=>if ok then .tuple #[zz,.bool false]else zz) w) ->
       (match lookIn kk kv es with
        | some (some v)=>some (jp ok v true,H)
        | some none=>some (jp ok z false,H)
        | none=>none)=some (v,H')->H'=H/\bg P g w (Instr.lookup t (ev m) (ev k) ok) v:=by
      intro es cs hmr hrun h
      split at h
      ·rename_i v' hl
       cases h
       obtain⟨j,c,i,k',_,_,A5,hf,_⟩:=ef (P:=P) (w:=w) hk (hρ _ _ hkv) hmr hl
       refine⟨rfl,_,hrun _ _ hf hzr,?_⟩
       cases ok with
       | true=>exact⟨[c.val,.bool true],VRs.cons A5<|VRs.cons (show VR g (.bool true) _ from rfl) rfl,rfl⟩
       | false=>exact A5
      ·rename_i hl
       cases h
       obtain⟨hf,_⟩:=ef (P:=P) (w:=w) hk (hρ _ _ hkv) hmr hl
       refine⟨rfl,_,hrun _ _ hf hzr,?_⟩
       cases ok with
       | true=>exact⟨[zv,.bool false],VRs.cons KS<|VRs.cons (show VR g (.bool false) _ from rfl) rfl,rfl⟩
       | false=>exact KS
      ·cases h
     cases r with
     | none=>
      have he:ev m=.map none:=hρ _ _ hm
      simp only at h
      refine main [] #[] ⟨rfl,by simp,by simp,by simp,by simp⟩ (λq zz hq zI=>?_) h
      have lm:=ft (P:=P) (w:=w) hk (#[]:Array MapEntry).isEmpty 9999 (ev k)
      cases q with
      | none=>simp only[Instr.lookup,Sem.run_bind,run_underlying hu,Result.andThen_ok,he,Sem.run_pure,lm,hq,zI]
      | some q=>simp only[Instr.lookup,Sem.run_bind,run_underlying hu,Result.andThen_ok,he,Sem.run_pure,lm,hq]
     | some b=>
      obtain⟨d,hd,he⟩:=hρ _ _ hm
      simp only at h
      split at h
      ·rename_i es Sd
       split at Sd
       ·rename_i es' hb
        cases Sd
        obtain⟨d',hd',cs,clock,zF,hmr⟩:=hH.obj _ _ hb
        rw[hd]at hd';cases hd'
        have hg:(getObj d.b).run P w=.ok (.map cs clock) w:=by simp only[getObj,Sem.run,zF]
        have lm:=ft (P:=P) (w:=w) hk cs.isEmpty 9999<|ev k
        refine main es cs hmr (λq zz hq zI=>?_) h
        cases q with
        | none=>simp only[Instr.lookup,Sem.run_bind,run_underlying hu,Result.andThen_ok,he,Sem.run_pure,hg,lm,hq,zI]
        | some q=>simp only[Instr.lookup,Sem.run_bind,run_underlying hu,Result.andThen_ok,he,Sem.run_pure,hg,lm,hq]
       ·cases Sd
      ·cases h
    ·cases h
   ·cases h
  ·cases hc
 ·cases hc
end
end Go.Ev
namespace Go.Ev
section
variable {P:Program}{X:Pt}{w0:World}{g:G}{H H':Heap}{w:World}{ρ:Operand->Option AV}{ev:Operand->Value}{v:AV}
theorem rG {o:Oper}{x:Operand}(ho:o.op=.nilCheck x)(hρ:cm g ρ ev)(h:aval P H ρ (.nilchk x)=some (v,H')) :
  H'=H/\∃y,(execOp ev o).run P w=.ok (.value y) w/\VR g v y:=by
 simp only[aval]at h
 unfold execOp
 simp only[ho]
 split at h
 ·cases h
 ·cases h
 ·cases h
 ·rename_i name r hx
  split at h
  ·rename_i t v' 
   split at h
   ·rename_i f hf
    cases h
    obtain⟨y,hy,he⟩:=hρ _ _ hx
    obtain⟨z,hz,rfl⟩:=hy
    refine⟨rfl,ev x,?_,hρ _ _ hx⟩
    unfold meth at hf
    split at hf
    ·rename_i i hi
     split at hf
     ·rename_i mt UD
      split at hf
      ·rename_i f' pe hp Yt Si
       have hne:(nilAhead (P.types.size+Made.depth) t z name).run P w=.ok (some false) w:=by
        obtain⟨k,hk⟩:∃k,P.types.size+Made.depth=k+1:=⟨P.types.size+(Made.depth-1),by unfold Made.depth;omega⟩
        rw[hk]
        simp only[nilAhead,Sem.run_bind,cR w hi,Result.andThen_ok,UD,hp,followBlind,Sem.run_pure,Yt]
       simp_all
      ·cases hf
     ·cases hf
    ·cases hf
   ·cases h
  ·cases h
 ·rename_i v' h1 h2 h3 h4 hx
  cases h
  refine⟨rfl,ev x,?_,hρ _ _ hx⟩
  have hv:=hρ _ _ hx
  generalize ev x=y at *
  cases v with
  | ptr a=>
   cases a with
   | none=>grind
   | some p=>obtain⟨d,_,rfl⟩:=hv;rfl
  | nilIface=>grind
  | nilFunc=>grind
  | mfunc n r=>grind
  | bool b=>have:=hv.eN;subst this;rfl
  | int k n=>have:=hv.dp;subst this;rfl
  | str s=>have:=hv.dY;subst this;rfl
  | slice a l c s r=>cases a with
   | none=>obtain⟨_,rfl⟩:=hv;rfl
   | some p=>obtain⟨d,_,_,rfl⟩:=hv;rfl
  | empty=>obtain⟨a,c,rfl⟩:=hv;rfl
  | map a=>cases a with
   | none=>
    have hv:y=.map none:=hv
    subst hv;rfl
   | some p=>obtain⟨d,_,rfl⟩:=hv;rfl
  | func f a b=>obtain⟨_,_,_,_,rfl⟩:=hv;rfl
  | yield l=>obtain⟨d,_,rfl⟩:=hv;rfl
  | iface t v'=>obtain⟨_,_,rfl⟩:=hv;rfl
  | agg cs=>obtain⟨_,_,_,rfl⟩:=hv;rfl
  | tuple cs=>obtain⟨_,_,rfl⟩:=hv;rfl
 ·cases h
theorem exec_builtin {o:Oper}{c:Call}{b:Builtin}(ho:o.op=.call c)(hb:c.callee=.builtin b) :
  ∃cs,(execOp ev o).run P w=(builtin b c.argTypes o.type cs<|c.args.map ev).run P w:=by
 refine⟨c.args.map λ| .const _=>true | _=>false,?_⟩
 unfold execOp
 simp only[ho,resolve,hb,Sem.run_bind,Sem.run_pure,Result.andThen_ok,invoke]
 rfl
theorem yI {α:Type}{a:Array α}{x:α}(h:a.toList=[x]):a=#[x]:=by grind
theorem yJ {α:Type}{a:Array α}{x y:α}(h:a.toList=[x,y]):a=#[x,y]:=by grind
theorem zS {t:TypeId}{x:Operand}{op:AOp}(ty:TypeId)(hρ:cm g ρ ev)(hH:HR X w0 g H w)(hc:cBuiltin P .len [t] [x]=some op)(h:aval P H ρ op=some (v,H')) :
  H'=H/\bg P g w (Builtin.len_ #[t] ty #[ev x]) v:=by
 simp only[cBuiltin]at hc
 split at hc
 ·rename_i hu
  cases hc
  simp only[aval]at h
  split at h
  ·rename_i s hx
   cases h
   have he:=(hρ _ _ hx).dY
   exact⟨rfl,_,by simp[Builtin.len_,run_underlying hu,he,goInt],rfl⟩
  ·cases h
 ·rename_i e hu
  cases hc
  simp only[aval]at h
  split at h
  ·rename_i a n c s r hx
   cases h
   cases a with
   | none=>obtain⟨_,he⟩:=hρ _ _ hx;exact⟨rfl,_,by simp[Builtin.len_,run_underlying hu,he,goInt],rfl⟩
   | some p=>obtain⟨d,_,_,he⟩:=hρ _ _ hx;exact⟨rfl,_,by simp[Builtin.len_,run_underlying hu,he,goInt],rfl⟩
  ·rename_i hx
   cases h
   obtain⟨a,c,he⟩:=hρ _ _ hx
   exact⟨rfl,_,by simp[Builtin.len_,run_underlying hu,he,goInt],rfl⟩
  ·cases h
 ·rename_i k e hu
  cases hc
  simp only[aval]at h
  split at h
  ·rename_i hx
   cases h
   have he:ev x=.map none:=hρ _ _ hx
   exact⟨rfl,_,by simp[Builtin.len_,run_underlying hu,he,goInt],rfl⟩
  ·rename_i b hx
   obtain⟨d,hd,he⟩:=hρ _ _ hx
   split at h
   ·rename_i es hb
    cases h
    obtain⟨d',hd',cs,clock,zF,hmr⟩:=hH.obj _ _ hb
    rw[hd]at hd';cases hd'
    have hg:(getObj d.b).run P w=.ok (.map cs clock) w:=by simp only[getObj,Sem.run,zF]
    refine⟨rfl,goInt cs.size,by simp[Builtin.len_,run_underlying hu,he,hg],?_⟩
    have:=hmr.len
    simp only[Array.length_toList]at this
    rw[ar,<- this]
    rfl
   ·cases h
  ·cases h
 ·rename_i n e hu
  cases hc
  simp only[aval]at h
  cases h
  refine⟨rfl,goInt n,?_,rfl⟩
  simp only[Builtin.len_]
  generalize ev x=y
  cases y<;>simp[run_underlying hu]
 ·rename_i a hu
  split at hc
  ·rename_i n e hu2
   cases hc
   simp only[aval]at h
   cases h
   refine⟨rfl,goInt n,?_,rfl⟩
   simp only[Builtin.len_]
   generalize ev x=y
   cases y<;>simp[run_underlying hu,run_underlying hu2]
  ·cases hc
 ·cases hc
theorem yW {t:TypeId}{x:Operand}{op:AOp}(ty:TypeId)(hρ:cm g ρ ev)(hc:cBuiltin P .cap [t] [x]=some op)(h:aval P H ρ op=some (v,H')) :
  H'=H/\bg P g w (Builtin.cap_ #[t] ty #[ev x]) v:=by
 simp only[cBuiltin]at hc
 split at hc
 ·rename_i e hu
  cases hc
  simp only[aval]at h
  split at h
  ·rename_i a n c r hx
   cases h
   cases a with
   | none=>obtain⟨_,he⟩:=hρ _ _ hx;exact⟨rfl,_,by simp[Builtin.cap_,run_underlying hu,he,goInt],rfl⟩
   | some p=>obtain⟨d,_,_,he⟩:=hρ _ _ hx;exact⟨rfl,_,by simp[Builtin.cap_,run_underlying hu,he,goInt],rfl⟩
  ·cases h
 ·cases hc
theorem Qo {mx:Bool}{u u' r:AV}{x y:Value}(hx:VR g u x)(hy:VR g u' y)(h:mm mx u u'=some r):bg P g w (match mx with | true=>Builtin.max2 x y | false=>Builtin.min2 x y) r:=by
 unfold mm at h
 split at h
 ·rename_i k a k' b
  rw[hx.dp,hy.dp]
  cases mx with
  | true=>
   cases h
   refine⟨_,rfl,?_⟩
   simp only[VR,du]
   grind
  | false=>
   cases h
   refine⟨_,rfl,?_⟩
   simp only[VR,du]
   grind
 ·cases h
theorem Jl {mx:Bool}:∀(vs:List AV)(xs:List Value)(u r:AV)(x:Value),VRs g vs xs->VR g u x->aw (mm mx) vs u=some r->bg P g w (xs.foldlM (match mx with | true=>Builtin.max2 | false=>Builtin.min2) x) r:=by
 intro vs
 induction vs with
 | nil=>intro xs u r x hxs hx h;cases hxs;cases h;exact⟨x,rfl,hx⟩
 | cons a vs ih=>
  intro xs u r x ⟨y,ys,hy,hys,e⟩ hx h
  subst e
  obtain⟨b',hb,hr⟩:=(ah _ _ _ _ _).1 h
  obtain⟨z,hz,U1⟩:=Qo (P:=P) (w:=w) hx hy hb
  obtain⟨q,hq,I0⟩:=ih ys b' r z hys U1 hr
  refine⟨q,?_,I0⟩
  rw[List.foldlM_cons,Sem.run_bind]
  cases mx<;>simp only at hz hq |-<;>rw[hz,Result.andThen_ok,hq]
theorem lz {mx:Bool}{args:List Operand}(ty:TypeId)(ts:Array TypeId)(hρ:cm g ρ ev)(h:aval P H ρ (.minmax mx args)=some (v,H')) :
  H'=H/\bg P g w (match mx with | true=>Builtin.max_ ts ty (args.map ev).toArray | false=>Builtin.min_ ts ty (args.map ev).toArray) v:=by
 simp only[aval]at h
 split at h
 ·rename_i u vs ha
  split at h
  ·rename_i r hr
   cases h
   have hl:=hρ.list ha
   obtain⟨y,ys,hy,hys,e⟩:=hl
   refine⟨rfl,?_⟩
   have:=Jl (P:=P) (w:=w) vs ys u v y hys hy hr
   cases mx<;>simpa[Builtin.max_,Builtin.min_,e]using this
  ·cases h
 ·cases h
end
end Go.Ev
