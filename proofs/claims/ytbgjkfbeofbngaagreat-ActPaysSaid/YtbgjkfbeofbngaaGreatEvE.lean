/- Walks and rules. Conditions: none. -/
import Derived.Test.YtbgjkfbeofbngaaGreatEvD
import Derived.RangeFuncRecord
import Derived.RangeFuncLeaves
import Derived.LoopNIn
set_option linter.unusedVariables false
set_option linter.unusedSectionVars false
namespace Go.Ev
section
variable {P:Program}{X:Pt}{w0:World}{g:G}{H H':Heap}{w:World}{ρ:Operand->Option AV}{ev:Operand->Value}{v:AV}
theorem alloc_acts {o:Oper}{op:AOp}(hρ:cm g ρ ev)(hH:HR X w0 g H w)(hc:cOp P o.op=some op)
  (h:(match allocOf ρ op with | some (ob,f)=>(match H.new ob with | (b,H')=>some (f b,H')) | none=>none)=some (v,H')):Bb P X w0 g w (execOp ev o) v H':=by
 split at h
 ·rename_i ob f ha
  obtain⟨R7,x,d,hr,hd,hw,hv⟩:=mE (P:=P) (w:=w) hρ hc ha
  have hn:=hH.new ob R7 d hd (λg' hle hid=>(hv g' H.next hle hid).2) hw
  have he:H.new ob=(H.next,(H.new ob).2):=rfl
  rw[he]at h
  cases h
  exact⟨_,_,.value x,x,hn.1,hr,rfl,(hv _ _ hn.1<|G.bz _ _ _).1,hn.2⟩
 ·cases h
theorem pF {o:Oper}{op:AOp}(hρ:cm g ρ ev)(hH:HR X w0 g H w)(hc:cOp P o.op=some op)(h:aval P H ρ op=some (v,H')):Bb P X w0 g w (execOp ev o) v H':=by
 by_cases hq:(clsOf op).quiet=true
 ·obtain⟨rfl,x,hr,hv⟩:=mU hρ hH hc hq h
  exact⟨g,w,.value x,x,G.le.refl g,hr,rfl,hv,hH⟩
 ·cases ho:o.op with
  | store t a x=>rw[ho]at hc;exact wN ho hρ hH hc h
  | mapUpdate t m k x=>
   rw[ho]at hc
   simp only[cOp]at hc
   split at hc
   ·rename_i kt e hu
    split at hc
    ·rename_i kk hkk
     cases hc
     exact tx (by simp only[execOp,ho]) hu hkk hρ hH h
    ·cases hc
   ·cases hc
  | insert t m k x=>
   rw[ho]at hc
   simp only[cOp]at hc
   split at hc
   ·rename_i kt e hu
    split at hc
    ·rename_i kk hkk
     cases hc
     exact tx (by simp only[execOp,ho]) hu hkk hρ hH h
    ·cases hc
   ·cases hc
  | call c=>
   rw[ho]at hc
   simp only[cOp]at hc
   split at hc
   ·cases hc;cases h
   ·cases hc;cases h
   ·rename_i b hb
    have hargs:c.args.map ev=(c.args.toList.map ev).toArray:=by apply Array.ext';simp
    unfold cBuiltin at hc
    split at hc
    ·(repeat' split at hc)<;>first | (cases hc;done) | (cases hc;exact absurd rfl hq)
    ·(repeat' split at hc)<;>first | (cases hc;done) | (cases hc;exact absurd rfl hq)
    ·cases hc;exact absurd rfl hq
    ·cases hc;exact absurd rfl hq
    ·rename_i t u s x ht hx
     have hc:cBuiltin P .append [t,u] [s,x]=some op:=hc
     refine fq (s:=Builtin.append_ c.argTypes o.type<|c.args.map ev) ho hb (λcs=>rfl) ?_
     rw[yJ ht,yJ hx]
     simpa using sB o.type hρ hH hc h
    ·rename_i t u s x ht hx
     have hc:cBuiltin P .copy [t,u] [s,x]=some op:=hc
     refine fq (s:=Builtin.copy_ c.argTypes o.type<|c.args.map ev) ho hb (λcs=>rfl) ?_
     rw[yJ ht,yJ hx]
     simpa using copy_acts o.type hρ hH hc h
    ·rename_i t x ht hx
     have hc:cBuiltin P .clear [t] [x]=some op:=hc
     refine fq (s:=Builtin.clear_ c.argTypes o.type<|c.args.map ev) ho hb (λcs=>rfl) ?_
     rw[yI ht,yI hx]
     simpa using acL o.type hρ hH hc h
    ·rename_i t u s x ht hx
     have hc:cBuiltin P .delete [t,u] [s,x]=some op:=hc
     refine fq (s:=Builtin.delete_ c.argTypes o.type<|c.args.map ev) ho hb (λcs=>rfl) ?_
     rw[yJ ht,yJ hx]
     simpa using delete_acts o.type hρ hH hc h
    ·cases hc
  | makeFunc fn a b=>
   rw[ho]at hc
   cases fn<;>simp only[cOp,reduceCtorEq]at hc<;>(repeat' split at hc)<;>first | (cases hc;done) | (cases hc;exact absurd rfl hq)
  | build t parts=>
   rw[ho]at hc
   have hc:cBuild P t parts.toList=some op:=hc
   unfold cBuild at hc
   (repeat' split at hc)<;>first | (cases hc;done) | (cases hc;exact absurd rfl hq)
  | binOp pA t x y yt=>
   rw[ho]at hc
   have hc:cBin P pA t x y=some op:=hc
   unfold cBin at hc
   (repeat' split at hc)<;>first | (cases hc;done) | (cases hc;exact absurd rfl hq)
  | makeMap t r=>
   have uz:=hc
   rw[ho]at hc
   cases r<;>first | (cases hc;done) | (cases hc;exact alloc_acts hρ hH uz h)
  | _=>
   have uz:=hc
   rw[ho]at hc
   simp only[cOp,reduceCtorEq]at hc<;>(repeat' split at hc)<;>first | (cases hc;done) | (cases hc;exact absurd rfl hq) | (cases hc;exact alloc_acts hρ hH uz h) | (cases hc;cases h;done)
end
end Go.Ev
namespace Go.Ev
def Fn (r:Option Nat):Fence:={ Fence.wide with round:=r }
def DR (g:G):List cD->List Deferred->Prop
 | [],l=>l=[]
 | .mark D::ds,l=>∃d l',g D=some d/\l={ target:=.collected d.b,args:=#[] }::l'/\DR g ds l'
theorem DR.mono {g g':G}(hg:G.le g g'):∀{ds:List cD}{l:List Deferred},DR g ds l->DR g' ds l
 | [],_,h=>h
 | .mark D::ds,_,⟨d,l',h1,h2,h3⟩=>⟨d,l',hg _ _ h1,h2,h3.mono hg⟩
def Bo (g:G):Option Nat->Option Nat->Prop
 | none,r=>r=none
 | some l,r=>∃d,g l=some d/\r=some d.b
theorem Bo.mono {g g':G}(hg:G.le g g'):∀{rd r:Option Nat},Bo g rd r->Bo g' rd r
 | none,_,h=>h
 | some l,_,⟨d,h1,h2⟩=>⟨d,hg _ _ h1,h2⟩
def exOf:AX->Exit
 | .normal=>.normal
 | .exit id=>.exit id
 | .ret=>.ret
structure St (X:Pt)(w0:World)(g:G)(nt:Nat)(e:Tr AV)(ds:List cD)(H:Heap)(a:Act)(w:World):Prop where
 size:a.tmps.size=nt
 env:ER g e a.tmps
 defs:DR g ds a.defers
 heap:HR X w0 g H w
def dR (X:Pt)(w0:World)(g:G)(v:AV)(H':Heap)(e:Ending)(w':World):Prop:=
 ∃x,e=.returned x/\∃g',G.le g g'/\VR g' v x/\HR X w0 g' H' w'
def bC (X:Pt)(w0:World)(g:G)(nt:Nat)(r:CR)(ex:Exit)(a:Act)(w:World):Prop:=
 match r with
 | .mk x e ds H=>ex=exOf x/\∃g',G.le g g'/\St X w0 g' nt e ds H a w
structure SoundF (P:Program)(ih:fP):Prop where
 call:∀{X:Pt}{w0:World}{g:G}{H:Heap}{w:World}{f:FuncId}{args:List AV}{xs:List Value}{v:AV}{H':Heap},HR X w0 g H w->VRs g args xs->ih.call f args H=some (v,H') ->
  (∀(as:Array Value)(w:World),(callFunc f as).run P w=.ok (.enter f as) w)/\CallsIn Fence.wide 0 P f xs.toArray w (dR X w0 g v H')
 code:∀{X:Pt}{w0:World}{g:G}{rd r:Option Nat}{c:Code}{nt:Nat}{e:Tr AV}{ds:List cD}{H:Heap}{a:Act}{w:World}{R:CR},Bo g rd r->St X w0 g nt e ds H a w ->
  ih.code rd nt c e ds H=some R->c.wpIn (Fn r) 0 P (bC X w0 g nt R) a w
section
variable {P:Program}{X:Pt}{w0:World}{g:G}{H H':Heap}{w:World}{v:AV}{ih:fP}{nt:Nat}{e:Tr AV}{ds:List cD}{a:Act}{rd r:Option Nat}
theorem ER.put {tm:Array Value}(h:ER g e tm){d:Nat}{x:Value}(hd:d<tm.size)(hv:VR g v x):ER g (e.put d v) (tm.setIfInBounds d x):=by
 intro t u ht
 by_cases he:d=t
 ·subst he
  rw[Tr.a8]at ht;grind
 ·rw[Tr.bi _ _ he]at ht
  obtain⟨y,hy,uC⟩:=h t u ht
  grind
theorem tC {t:TypeId}{name:String}{f:FuncId}(h:meth P t name=some f)(z:Value)(w:World)(as:Array Value)(hc:∀(as:Array Value)(w:World),(callFunc f as).run P w=.ok (.enter f as) w) :
  (callMethod (.iface t z) name as).run P w=.ok (.enter f<|#[z]++as) w:=by
 unfold meth at h
 split at h
 ·rename_i i hi
  split at h
  ·rename_i mt UD
   split at h
   ·rename_i f' pe hp Yt Si
    cases h
    obtain⟨k,hk⟩:∃k,P.types.size+Made.depth=k+1:=⟨P.types.size+(Made.depth-1),by unfold Made.depth;omega⟩
    have hm:(method (P.types.size+Made.depth) t z name).run P w=.ok (f,z) w:=by
     rw[hk]
     simp only[method,Sem.run_bind,cR w hi,Result.andThen_ok,UD,hp,follow,Sem.run_pure,Yt,receiverAt,run_underlying Si,Place.get]
    simp only[callMethod,Sem.run_bind,run_program,Result.andThen_ok,hm,hc]
   ·cases h
  ·cases h
 ·cases h
end
end Go.Ev
namespace Go.Ev
section
variable {P:Program}{X:Pt}{w0:World}{g:G}{H H':Heap}{w:World}{v:AV}{ih:fP}{nt:Nat}{e:Tr AV}{ds:List cD}{a:Act}{rd r:Option Nat}
theorem wD {ps:List Nat}{args:List AV}{xs:List Value}{tm:Array Value}{e1:Tr AV}(he:ER g e tm)(hs:tm.size=nt)(hv:VRs g args xs)(h:setAll ps args nt e=some e1) :
  xs.length=ps.toArray.size/\((ps.toArray.zip xs.toArray).foldl (λtmps(t,a)=>tmps.setIfInBounds t a) tm).size=nt/\ER g e1 ((ps.toArray.zip xs.toArray).foldl (λtmps(t,a)=>tmps.setIfInBounds t a) tm):=by
 unfold setAll at h
 split at h
 ·have:xs=[]:=hv
  grind
 ·split at h
  ·rename_i p a _ hp
   cases h
   obtain⟨y,ys,h1,h2,rfl⟩:=hv
   have:ys=[]:=h2
   subst this
   have hp:p<tm.size:=by simp_all
   exact⟨rfl,by simpa using hs,by simpa using he.put hp h1⟩
  ·cases h
 ·split at h
  ·rename_i p q a b _ hp
   cases h
   obtain⟨y,ys,h1,⟨z,zs,h2,h3,rfl⟩,rfl⟩:=hv
   have:zs=[]:=h3
   subst this
   have hp:p<tm.size:=by simp_all
   have hq:q<(tm.setIfInBounds p y).size:=by simp_all
   exact⟨rfl,by simpa using hs,by simpa using (he.put hp h1).put hq h2⟩
  ·cases h
 ·cases h
theorem lx {l nt':Nat}{e':Tr AV}{ps:List Nat}{asg body:Code}{st J8:LoopState}{pend ke:Option AX}{D:Nat}{d:Gd}{rec:Loop}(hH:HR X w0 g H w)(hl:H.get l=some (.loop e' nt' ps asg body st pend D))(hd:g l=some d)
  (YX:w.heap[d.b]?=some (.loop rec)) (VF:Loop) (YW:VF={ rec with state:=J8,pending:=ke.bind rm }) (hp:∀x,ke=some x->x≠.normal) :
  HR X w0 g (H.put l<|.loop e' nt' ps asg body J8 ke D) (w.putObj d.b<|.loop VF):=by
 have hlt:=hH.lt hl hd
 obtain⟨d',hd',fn,tm,dD,h1,h2,h3,h4,h5⟩:=hH.obj _ _ hl
 rw[hd]at hd';cases hd'
 rw[YX]at h1;cases h1
 refine hH.put hl hd rfl rfl World.putObj_size (λk hk=>World.putObj_heap_other hk) ⟨rfl,rfl⟩ ?_
 rw[World.putObj_heap_same hlt]
 exact⟨fn,tm,dD,by rw[YW],h2,h3,h4,hp⟩
theorem t8 (hS:SoundF P ih)(hH:HR X w0 g H w){l:Nat}{d:Gd}(hd:g l=some d){args:List AV}{xs:List Value}(hargs:VRs g args xs)(h:roundOf ih l args H=some (v,H')) :
  ∃rec:Loop,w.heap[d.b]?=some (.loop rec)/\xs.length=rec.params.size /\
   RoundIn (Fn r) 0 P d.b rec.fn ((rec.params.zip xs.toArray).foldl (λtmps(t,a)=>tmps.setIfInBounds t a) rec.tmps) rec.assign rec.body w (dR X w0 g v H'):=by
 unfold roundOf at h
 split at h
 ·rename_i e0 nt0 ps asg body pend D hl
  obtain⟨d',hd',fn,tm,dD,h1,h2,h3,h4,h5⟩:=hH.obj _ _ hl
  rw[hd]at hd';cases hd'
  refine⟨_,h1,?_⟩
  split at h
  ·rename_i e1 Yp
   obtain⟨fe,iI,A6⟩:=wD h4 h3 hargs Yp
   refine⟨fe,?_⟩
   split at h
   ·rename_i e2 ds2 H2 hc1
    refine roundIn_of_wpIn trivial ?_
    have hw1:=hS.code (X:=X) (w0:=w0) (g:=g) (rd:=some l) (r:=some d.b) (ds:=[]) (a:={ tmps:=_,defers:=[] }) ⟨d,hd,rfl⟩ ⟨iI,A6,rfl,hH⟩ hc1
    refine wpIn_mono hw1 ?_
    rintro ex a1 w1 ⟨rfl,g1,jZ,eF⟩
    split at h
    ·rename_i e' nt' ps' asg' body' pend' D' CG
     have hd1:=jZ _ _ hd
     obtain⟨d',hd',VV,WF,Tv,k1,k2,k3,k4,k5⟩:=eF.heap.obj _ _ CG
     rw[hd1]at hd';cases hd'
     refine⟨_,run_beginRound k1 rfl,?_⟩
     have xC:=lx (J8:=.busy) (ke:=pend') eF.heap CG hd1 k1 _ rfl k5
     split at h
     ·rename_i x e3 ds3 H3 Uj
      have Y8:=hS.code (X:=X) (w0:=w0) (g:=g1) (rd:=some l) (r:=some d.b) ⟨d,hd1,rfl⟩ ⟨eF.size,eF.env,eF.defs,xC⟩ Uj
      refine wpIn_mono Y8 ?_
      rintro ex a2 w2 ⟨rfl,g2,KF,pk⟩
      split at h
      ·rename_i e4 nt4 ps4 W4 Tq st4 aaZ D4 PN
       have hd2:=KF _ _ hd1
       obtain⟨d',hd',fn3,tm3,dD3,m1,m2,m3,m4,m5⟩:=pk.heap.obj _ _ PN
       rw[hd2]at hd';cases hd'
       split at h
       ·cases h
        refine⟨_,_,run_endRound none m1,_,rfl,g2,jZ.trans KF,rfl,?_⟩
        exact lx (J8:=.ready) (ke:=none) pk.heap PN hd2 m1 _ rfl<|by simp
       ·rename_i hx
        cases h
        cases x with
        | normal=>grind
        | exit id=>
         refine⟨_,_,run_endRound (some<|.exit id) m1,_,rfl,g2,jZ.trans KF,rfl,?_⟩
         exact lx (J8:=.done) (ke:=some<|.exit id) pk.heap PN hd2 m1 _ rfl<|by simp
        | ret=>
         refine⟨_,_,run_endRound (some .ret) m1,_,rfl,g2,jZ.trans KF,rfl,?_⟩
         exact lx (J8:=.done) (ke:=some .ret) pk.heap PN hd2 m1 _ rfl<|by simp
      ·cases h
     ·cases h
    ·cases h
   ·cases h
  ·cases h
 ·cases h
end
end Go.Ev
namespace Go.Ev
section
variable {P:Program}{X:Pt}{w0:World}{g:G}{H H':Heap}{w:World}{v:AV}{ih:fP}{nt:Nat}{e:Tr AV}{ds ds':List cD}{a:Act}{rd r:Option Nat}
def Bg (P:Program)(X:Pt)(w0:World)(g:G)(r:Option Nat)(w:World)(v:AV)(H':Heap)(n:Next):Prop:=
 (∃f as,n=.enter f as/\CallsIn Fence.wide 0 P f as w (dR X w0 g v H')) \/
 (∃l f tm asg body,n=.round l f tm asg body/\RoundIn (Fn r) 0 P l f tm asg body w (dR X w0 g v H'))
theorem sJ (hS:SoundF P ih)(hH:HR X w0 g H w){fv:AV}{x:Value}{args:List AV}{xs:List Value}(hf:VR g fv x)(hargs:VRs g args xs)(h:callV P ih fv args H=some (v,H')) :
  ∃d n,(Deferred.ofValue x xs.toArray).run P w=.ok d w/\(invoke d.target d.args).run P w=.ok n w/\Bg P X w0 g r w v H' n:=by
 cases fv with
 | func f first cap=>
  obtain⟨ys,zs,h1,h2,rfl⟩:=hf
  simp only[callV,aN]at h
  have hv:=VRs.append h1<|VRs.append hargs h2
  obtain⟨PB,hc⟩:=hS.call hH hv h
  refine⟨{ target:=.fn (.func f) zs.toArray,args:=ys.toArray++xs.toArray },.enter f (ys++(xs++zs)).toArray,rfl,?_,.inl ⟨_,_,rfl,hc⟩⟩
  simp only[invoke,PB]
  grind
 | mfunc name rv=>
  obtain⟨y,hy,rfl⟩:=hf
  simp only[callV]at h
  split at h
  ·rename_i t u
   obtain⟨z,hz,rfl⟩:=hy
   split at h
   ·rename_i f hm
    obtain⟨PB,hc⟩:=hS.call hH (VRs.cons hz hargs) h
    refine⟨{ target:=.fn (.method name) #[],args:=#[.iface t z]++xs.toArray },.enter f (z::xs).toArray,rfl,?_,.inl ⟨_,_,rfl,hc⟩⟩
    have h0:(#[Value.iface t z]++xs.toArray:Array Value)[0]?=some (.iface t z):=by simp
    have h1:(#[Value.iface t z]++xs.toArray:Array Value).extract 1 (#[Value.iface t z]++xs.toArray).size=xs.toArray:=by
     apply Array.ext';simp
    simp only[invoke,h0,h1,tC hm z w xs.toArray PB]
    grind
   ·cases h
  ·cases h
 | yield l=>
  obtain⟨d,hd,rfl⟩:=hf
  obtain⟨rec,hr,hsz,PZ⟩:=t8 (r:=r) hS hH hd hargs h
  refine⟨{ target:=.fn (.yield d.b) #[],args:=#[]++xs.toArray },_,rfl,?_,.inr ⟨_,_,_,_,_,rfl,PZ⟩⟩
  have he:(#[]++xs.toArray:Array Value)=xs.toArray:=by simp
  simp only[invoke,he]
  exact run_yield hr<|by grind
 | _=>cases h
theorem mY {o:Oper}{next:Act->World->Prop}{Q:Exit->Act->World->Prop}{n:Next}(h:Bg P X w0 g r w v H' n)(hn:∀x g' w',G.le g g'->VR g' v x->HR X w0 g' H' w'->next (a.put o.dst x) w') :
  o.uponIn (Fn r) 0 P a next Q (.ok n w):=by
 rcases h with⟨f,as,rfl,hc⟩|⟨l,f,tm,asg,body,rfl,hr⟩
 ·refine⟨λh=>by simp[Fn,Fence.wide]at h,?_⟩
  refine CallsIn.mono (F:=Fn r) hc ?_
  rintro ex w' ⟨x,rfl,g',hg,hv,hh⟩
  grind
 ·refine⟨λh=>by simp[Fn,Fence.wide]at h,?_⟩
  refine RoundIn.mono hr ?_
  rintro ex w' ⟨x,rfl,g',hg,hv,hh⟩
  grind
theorem ir {o:Oper}(h:∀c,o.op≠.defer c)(r:Option Nat)(ev:Operand->Value):o.semAt r ev=execOp ev o:=by
 unfold Oper.semAt
 split
 ·grind
 ·rfl
theorem BK {op:Op}{f:Operand}{m:String}{args:List Operand}(h:cOp P op=some (.call f args)):∃c,op=.call c/\c.callee=(.value f)/\c.args.toList=args:=by
 cases op with
 | call c=>
  simp only[cOp]at h
  split at h
  ·grind
  ·grind
  ·unfold cBuiltin at h
   (repeat' split at h)<;>cases h
 | makeFunc fn a b=>cases fn<;>simp only[cOp,reduceCtorEq]at h<;>(grind)<;>cases h
 | build t parts=>
  have h:cBuild P t parts.toList=some (.call f args):=h
  unfold cBuild at h
  (repeat' split at h)<;>cases h
 | binOp pA t x y yt=>
  have h:cBin P pA t x y=some (.call f args):=h
  unfold cBin at h
  (repeat' split at h)<;>cases h
 | makeMap t r=>cases r<;>cases h
 | _=>simp only[cOp,reduceCtorEq]at h<;>(repeat' split at h)<;>cases h
theorem uT {op:Op}{f:Operand}{m:String}{args:List Operand}(h:cOp P op=some (.invoke f m args)):∃c,op=.call c/\c.callee=(.invoke f m)/\c.args.toList=args:=by
 cases op with
 | call c=>
  simp only[cOp]at h
  split at h
  ·grind
  ·grind
  ·unfold cBuiltin at h
   (repeat' split at h)<;>cases h
 | makeFunc fn a b=>cases fn<;>simp only[cOp,reduceCtorEq]at h<;>(grind)<;>cases h
 | build t parts=>
  have h:cBuild P t parts.toList=some (.invoke f m args):=h
  unfold cBuild at h
  (repeat' split at h)<;>cases h
 | binOp pA t x y yt=>
  have h:cBin P pA t x y=some (.invoke f m args):=h
  unfold cBin at h
  (repeat' split at h)<;>cases h
 | makeMap t r=>cases r<;>cases h
 | _=>simp only[cOp,reduceCtorEq]at h<;>(repeat' split at h)<;>cases h
theorem oD (hS:SoundF P ih){o:Oper}{op:AOp}{ρ:Operand->Option AV}(hρ:cm g ρ a.eval)(hds:DR g ds a.defers)(hH:HR X w0 g H w)(hc:cOp P o.op=some op)(h:oper P ih ρ op ds H=some (.mk v ds' H'))
  {next:Act->World->Prop} {Q:Exit->Act->World->Prop} (hn:∀x g' w',G.le g g'->VR g' v x->DR g' ds' a.defers->HR X w0 g' H' w'->next (a.put o.dst x) w') :
  o.wpIn (Fn r) 0 P a w next Q:=by
 refine⟨λ_ _=>trivial,?_⟩
 have hnd:∀c,o.op≠.defer c:=by
  intro c ho
  rw[ho]at hc
  simp only[cOp]at hc
  split at hc
  ·cases hc;cases h
  ·cases hc
 rw[ir hnd]
 -- Qv that call nothing
 have plain:∀u,aval P H ρ op=some (u,H')->u=v->ds'=ds->o.uponIn (Fn r) 0 P a next Q ((execOp a.eval o).run P w):=by
  intro u hu huv hds
  subst u ds'
  obtain⟨g',w',n,x,hg,hr,hN,hv,hh⟩:=pF hρ hH hc hu
  rw[hr]
  cases n with
  | value y=>cases hN;exact hn _ g' w' hg hv (hds.mono hg) hh
  | skip=>cases hN;exact hn _ g' w' hg hv (hds.mono hg) hh
  | _=>cases hN
 unfold oper at h
 split at h
 ·-- a call of a Ob value
  rename_i f args
  split at h
  ·rename_i fv hf
   split at h
   ·rename_i vs hvs
    split at h
    ·rename_i u H1 eQ
     cases h
     obtain⟨c,ho,hce,hca⟩:=BK (m := "") hc
     obtain⟨d,n,h1,h2,h3⟩:=sJ (r:=r) hS hH (hρ _ _ hf) (hρ.list hvs) eQ
     have hrun:(execOp a.eval o).run P w=.ok n w:=by
      have hargs:c.args.map a.eval=(args.map a.eval).toArray:=by grind
      unfold execOp
      simp only[ho,resolve,hce,hargs,Sem.run_bind,h1,Result.andThen_ok,h2]
     rw[hrun]
     exact mY h3<|λx g' w' hg hv hh=>hn x g' w' hg hv (hds.mono hg) hh
    ·cases h
   ·cases h
  ·cases h
 ·-- a call of an KT method
  rename_i rc name args
  split at h
  ·rename_i t u hrc
   split at h
   ·rename_i f hm
    split at h
    ·rename_i vs hvs
     split at h
     ·rename_i u' H1 eQ
      cases h
      obtain⟨c,ho,hce,hca⟩:=uT hc
      obtain⟨z,hz,UU⟩:=hρ _ _ hrc
      obtain⟨PB,Uk⟩:=hS.call hH (VRs.cons hz<|hρ.list hvs) eQ
      have hrun:(execOp a.eval o).run P w=.ok (.enter f (z::args.map a.eval).toArray) w:=by
       have hargs:c.args.map a.eval=(args.map a.eval).toArray:=by grind
       have h0:(#[Value.iface t z]++(args.map a.eval).toArray:Array Value)[0]?=some (.iface t z):=by simp
       have h1:(#[Value.iface t z]++(args.map a.eval).toArray:Array Value).extract 1 (#[Value.iface t z]++(args.map a.eval).toArray).size=(args.map a.eval).toArray:=by
        apply Array.ext';simp[List.take_of_length_le]
       unfold execOp
       simp only[ho,resolve,hce,hargs,UU,Sem.run_bind,Sem.run_pure,Result.andThen_ok,invoke,h0,h1,tC hm z w _ PB]
       congr 2
       simp
      rw[hrun]
      exact mY (.inl ⟨_,_,rfl,Uk⟩)<|λx g' w' hg hv hh=>hn x g' w' hg hv (hds.mono hg) hh
     ·cases h
    ·cases h
   ·cases h
  ·cases h
 grind
end
end Go.Ev
namespace Go.Ev
section
variable {P:Program}{X:Pt}{w0:World}{g:G}{H H':Heap}{w:World}{v:AV}{ih:fP}{nt:Nat}{e:Tr AV}{ds ds':List cD}{a:Act}{rd r:Option Nat}
theorem VR.xj {v:AV}{b:Bool}(h:VR g v (.bool b)):v=.bool b:=by
 cases v with
 | bool c=>cases h;rfl
 | ptr a=>cases a with
  | none=>cases h
  | some p=>obtain⟨d,_,e⟩:=h;cases e
 | slice a l c s r=>cases a with
  | none=>obtain⟨_,e⟩:=h;cases e
  | some p=>obtain⟨d,_,_,e⟩:=h;cases e
 | empty=>obtain⟨a,c,e⟩:=h;cases e
 | map a=>cases a with
  | none=>cases h
  | some p=>obtain⟨d,_,e⟩:=h;cases e
 | func f a b=>obtain⟨_,_,_,_,e⟩:=h;cases e
 | mfunc n r=>obtain⟨_,_,e⟩:=h;cases e
 | yield l=>obtain⟨d,_,e⟩:=h;cases e
 | iface t v=>obtain⟨_,_,e⟩:=h;cases e
 | agg cs=>obtain⟨_,_,_,e⟩:=h;cases e
 | tuple cs=>obtain⟨_,_,e⟩:=h;cases e
 | _=>cases h
theorem qo {ops:Array Oper}{o:Oper}{b:Bool}{tm:Array Value}(he:ER g e tm)(h:wanted e ops o.guard=some b):Region.wanted o (yielded ops tm)=b:=by
 unfold wanted at h
 unfold Region.wanted
 split at h
 ·grind
 ·rename_i j want hg
  simp only[hg]
  split at h
  ·rename_i o' ho'
   rw[cY]at ho'
   have ho':ops[j]?=some o':=by grind
   split at h
   ·rename_i d hd
    split at h
    ·rename_i c hc
     obtain⟨x,hx,hv⟩:=he _ _ hc
     cases h
     have:x=.bool c:=hv
     subst this
     simp[yielded,ho',hd,hx]
    ·rename_i u hu hc
     obtain⟨x,hx,hv⟩:=he _ _ hc
     cases h
     have:yielded ops tm j=none:=by
      unfold yielded
      simp only[ho',Option.bind_some,hd,hx]
      split
      ·rename_i c hx'
       cases hx'
       exact absurd (VR.xj hv)<|λh=>hu c h
      ·rfl
     simp[this]
    ·cases h
   ·cases h
  ·cases h
def effDst (nt:Nat)(d:Option Nat):Option Nat:=match d with | none=>none | some d=>match Nat.blt d nt with | true=>some d | false=>none
theorem iW (nt:Nat)(o:Oper):cOper P nt o=⟨effDst nt o.dst,(cOp P o.op).getD .bad,o.guard⟩:=by
 unfold cOper effDst
 grind
theorem lW {d:Option Nat}{t:Nat}(h:effDst nt d=some t):t<nt/\d=some t:=by
 unfold effDst at h
 split at h
 ·cases h
 ·split at h
  ·simp_all
  ·cases h
theorem Jw (hs:a.tmps.size=nt)(d:Option Nat)(x:Value):a.put d x=a.put (effDst nt d) x:=by
 unfold effDst
 split
 ·rfl
 ·rename_i t
  split
  ·rfl
  ·rename_i hb
   have:¬t<nt:=λhlt=>by
    have:Nat.blt t nt=true:=Nat.ble_eq_true_of_le hlt
    grind
   simp only[Act.put]
   rw[Array.setIfInBounds_eq_of_size_le (by omega)]
theorem St.put (hst:St X w0 g nt e ds H a w){d:Option Nat}{g':G}(hg:G.le g g'){v:AV}{x:Value}(hv:VR g' v x){w':World}{H':Heap}{ds':List cD}(hds:DR g' ds' a.defers)(hh:HR X w0 g' H' w') :
  St X w0 g' nt (putO e (effDst nt d) v) ds' H' (a.put d x) w':=by
 rw[Jw hst.size d x]
 cases hd:effDst nt d with
 | none=>exact⟨hst.size,hst.env.mono hg,hds,hh⟩
 | some t=>
  refine⟨by simp[Act.put,hst.size],?_,hds,hh⟩
  exact(hst.env.mono hg).put (by rw[hst.size];exact(lW hd).1) hv
theorem bC.mono {g':G}(hg:G.le g g'){R:CR}{ex:Exit}(h:bC X w0 g' nt R ex a w):bC X w0 g nt R ex a w:=by
 cases R with
 | mk x e ds H=>
  obtain⟨h1,VW,h2,h3⟩:=h
  exact⟨h1,VW,hg.trans h2,h3⟩
theorem Oper.w9 {F:Fence}{n:Nat}{o:Oper}{a:Act}{w:World}{K K':Act->World->Prop}{Q Q':Exit->Act->World->Prop}(hk:∀a w,K a w->K' a w)(hq:∀e a w,Q e a w->Q' e a w)
  (hh:o.wpIn F n P a w K Q):o.wpIn F n P a w K' Q':=by
 have lets:LetsOut Q->LetsOut Q':=λ⟨a,w,h⟩=>⟨a,w,hq _ _ _ h⟩
 unfold Oper.wpIn at *
 refine⟨hh.1,?_⟩
 have hh:=hh.2
 generalize (o.semAt F.round a.eval).run P w=r at *
 cases r with
 | ok x w'=>
  cases x<;>simp only[Oper.uponIn]at hh |- <;>
   first
    | grind
    | exact⟨hh.1,CallsIn.mono hh.2<|λe w'' he=>by grind⟩
    | exact⟨hh.1,RowsIn.mono hh.2<|λ_ _ he=>hk _ _ he⟩
    | exact⟨hh.1,RoundIn.mono hh.2<|λe w'' he=>by grind⟩
 | halt x w'=>cases x<;>simp only[Oper.uponIn]at hh |-<;>exact hq _ _ _ hh
theorem pp {F:Fence}{n:Nat}{ops:Array Oper}{Q Q':Exit->Act->World->Prop}(hq:∀e a w,Q e a w->Q' e a w):∀(L:List Nat)(a:Act)(w:World),wpOpsIn F n P ops Q L a w->wpOpsIn F n P ops Q' L a w:=by
 intro L
 induction L with
 | nil=>intro a w h;exact hq _ _ _ h
 | cons i L ih=>
  intro a w h
  simp only[wpOpsIn]at h |-
  split
  ·grind
  ·rename_i o ho
   simp only[ho]at h
   split
   ·rename_i hw;rw[if_pos hw]at h;exact Oper.w9 (λa w=>ih a w) hq h
   grind
theorem runOps_list (hS:SoundF P ih){ops:Array Oper}{R:CR}:∀(l:List Oper)(i:Nat){g:G}{e:Tr AV}{ds:List cD}{H:Heap}{a:Act}{w:World},(∀k,l[k]?=ops[i+k]?)->Bo g rd r->St X w0 g nt e ds H a w ->
  aw (λ(s:CR)(o:Oper)=>match s with
  | .mk _ e ds H=>match cOper P nt o with
   | ⟨d,op,g⟩=>match wanted e ops g with
    | some true=>match oper P ih (bL e) op ds H with
     | some (.mk v ds' H')=>some<|.mk .normal (putO e d v) ds' H'
     | none=>none
    | some false=>some<|.mk .normal (putO e d .undef) ds H
    | none=>none) l (.mk .normal e ds H)=some R->wpOpsIn (Fn r) 0 P ops (bC X w0 g nt R) (List.range' i l.length) a w:=by
 intro l
 induction l with
 | nil=>
  intro i g e ds H a w _ _ hst h
  cases h
  exact⟨rfl,g,G.le.refl g,hst⟩
 | cons o l il=>
  intro i g e ds H a w IX hrd hst h
  rw[ah]at h
  obtain⟨b',hb,hl⟩:=h
  have ho:ops[i]?=some o:=by have:=IX 0;grind
  have KK:∀k,l[k]?=ops[i+1+k]?:=λk=>by have:=IX (k+1);grind
  rw[List.length_cons,List.range'_succ]
  simp only[wpOpsIn,ho]
  have mono:∀{g':G},G.le g g'->∀{a:Act}{w:World},wpOpsIn (Fn r) 0 P ops (bC X w0 g' nt R) (List.range' (i+1) l.length) a w->wpOpsIn (Fn r) 0 P ops (bC X w0 g nt R) (List.range' (i+1) l.length) a w:=by
   intro g' hg a w hw
   exact pp (λex a w h=>bC.mono hg h) _ a w hw
  simp only[iW]at hb
  split at hb
  ·rename_i hw
   rw[if_pos (qo hst.env hw)]
   split at hb
   ·rename_i v ds1 H1 hop
    cases hb
    cases hc:cOp P o.op with
    | none=>simp[hc,oper,aval,allocOf]at hop
    | some op=>
     simp only[hc,Option.getD_some]at hop
     refine oD hS (λx v hv=>mo hst.env x v hv) hst.defs hst.heap hc hop ?_
     intro x g' w' hg hv hds hh
     exact mono hg<|il (i+1) KK (hrd.mono hg) (hst.put hg hv hds hh) hl
   ·cases hb
  ·rename_i hw
   cases hb
   rw[if_neg (by rw[qo hst.env hw];simp)]
   exact⟨λ_ _=>trivial,il (i+1) KK hrd (hst.put (G.le.refl g) (cS g) hst.defs hst.heap) hl⟩
  ·cases hb
theorem rY (hS:SoundF P ih){id:Nat}{ops:Array Oper}{R:CR}(hrd:Bo g rd r)(hst:St X w0 g nt e ds H a w)(h:runOps P ih rd nt ops e ds H=some R) :
  (Code.region id ops false).wpIn (Fn r) 0 P (bC X w0 g nt R) a w:=by
 refine wpIn_region ?_
 have:=runOps_list hS (ops:=ops) ops.toList 0 (by intro k;simp) hrd hst h
 simpa[List.range_eq_range']using this
end
end Go.Ev
namespace Go.Ev
section
variable {P:Program}{X:Pt}{w0:World}{g:G}{H H':Heap}{w:World}{v:AV}{ih:fP}{nt:Nat}{e:Tr AV}{ds ds':List cD}{a:Act}{rd r:Option Nat}
theorem zU {α:Type}(f:α->Sem Value)(w:World):∀(as:List α)(ys:List Value),ys.length=as.length->(∀(i:Nat)(x:α)(y:Value),as[i]?=some x->ys[i]?=some y->(f x).run P w=.ok y w) ->
  (as.mapM f).run P w=.ok ys w:=by
 intro as
 induction as with
 | nil=>simp_all
 | cons x as ih=>intro ys hl h;cases ys with
  | nil=>simp at hl
  | cons y ys=>
   have h0:=h 0 x y rfl rfl
   have:=ih ys (by simpa using hl)<|λi x y hx hy=>h (i+1) x y (by simpa using hx)<|by simpa using hy
   simp[List.mapM_cons,h0,this]
theorem Dr {α:Type}(f:α->Sem Value)(as:Array α)(w:World)(ys:List Value)(hl:ys.length=as.size)(h:∀(i:Nat)(x:α)(y:Value),as[i]?=some x->ys[i]?=some y->(f x).run P w=.ok y w) :
  (as.mapM f).run P w=.ok ys.toArray w:=by
 have:=zU (P:=P) f w as.toList ys (by simpa using hl)<|λi x y hx hy=>h i x y (by simpa using hx) hy
 simp[Array.mapM_eq_mapM_toList,this]
theorem gJ {α β:Type}{f:α->Option β}:∀{l:List α}{rs:List β},aI f l=some rs->rs.length=l.length/\∀(i:Nat)(x:α),l[i]?=some x->∃y,rs[i]?=some y/\f x=some y:=by
 intro l
 induction l with
 | nil=>intro rs h;cases h;simp
 | cons x l ih=>
  intro rs h
  rw[aV]at h
  grind
theorem result_run (hst:ER g e a.tmps)(hH:HR X w0 g H w){rv:ResultVar}(h:resultOf P e H rv=some v) :
  ∃x,(match rv with | .tmp t=>pure (a.tmps.getD t undef) | .cell t ty=>do loadVar ty (<- asAddr (a.tmps.getD t undef)):Sem Value).run P w=.ok x w/\VR g v x:=by
 cases rv with
 | tmp t=>
  obtain⟨x,hx,hv⟩:=hst _ _ h
  simp_all
 | cell t ty=>
  simp only[resultOf]at h
  split at h
  ·rename_i p hp
   obtain⟨x,hx,hv⟩:=hst _ _ hp
   obtain⟨d,hd,rfl⟩:=hv
   have ha:a.tmps.getD t undef=.pointer (some<|gX d p):=by simp[Array.getD_eq_getD_getElem?,hx]
   split at h
   ·rename_i n ti hsz
    split at h
    ·rename_i l hl
     cases h
     obtain⟨d',xs,hd',hv,hlen,dP,hone⟩:=hH.read hl
     rw[hd]at hd';cases hd'
     have:=dP.load (P:=P)
     rw[hlen]at this
     refine⟨_,?_,xs,hv,hone,rfl⟩
     simp only[ha,asAddr,Sem.run_bind,Sem.run_pure,Result.andThen_ok,loadVar,jO w ti]
     simp[bA w hsz,this]
    ·cases h
   ·rename_i ti hsz
    split at h
    ·rename_i u hl
     cases h
     obtain⟨d',xs,hd',hv,hlen,dP,hone⟩:=hH.read hl
     rw[hd]at hd';cases hd'
     obtain⟨y,ys,hy,hys,rfl⟩:=hv
     have:=dP 0 y rfl
     have e:w.cell? (gX d p)=some y:=this
     refine⟨y,?_,hy⟩
     simp only[ha,asAddr,Sem.run_bind,Sem.run_pure,Result.andThen_ok,loadVar,jO w ti,Bool.false_eq_true,if_false,run_load]
     rw[e]
    ·cases h
   ·cases h
  ·cases h
def packV:List AV->AV
 | [v]=>v
 | vs=>.tuple vs
theorem mV {fn:Func}{vs:List AV}(hst:ER g e a.tmps)(hH:HR X w0 g H w)(h:aI (resultOf P e H) fn.results.toList=some vs) :
  ∃x,(results fn a.tmps).run P w=.ok x w/\VR g (packV vs) x:=by
 obtain⟨hl,hg⟩:=gJ h
 have:∃ys:List Value,ys.length=vs.length/\VRs g vs ys/\∀(i:Nat)(rv:ResultVar)(y:Value),fn.results[i]?=some rv->ys[i]?=some y->(match rv with | .tmp t=>pure (a.tmps.getD t undef) | .cell t ty=>do loadVar ty (<- asAddr (a.tmps.getD t undef)):Sem Value).run P w=.ok y w:=by
  have hex:∀i,i<vs.length->∃y v,vs[i]?=some v/\VR g v y/\∀rv,fn.results[i]?=some rv->(match rv with | .tmp t=>pure (a.tmps.getD t undef) | .cell t ty=>do loadVar ty (<- asAddr (a.tmps.getD t undef)):Sem Value).run P w=.ok y w:=by
   intro i hi
   have hi':i<fn.results.toList.length:=by omega
   obtain⟨v,hv,hr⟩:=hg i fn.results.toList[i] (List.getElem?_eq_getElem hi')
   obtain⟨x,hx,dg⟩:=result_run hst hH hr
   grind
  let ys:List Value:=(List.range vs.length).map λi=>if h:i<vs.length then Classical.choose (hex i h)else default
  have U3:ys.length=vs.length:=by simp[ys]
  have hyg:∀i(h:i<vs.length),ys[i]?=some (Classical.choose<|hex i h):=by
   intro i h;simp[ys,h]
  refine⟨ys,U3,VRs.DH U3 ?_,?_⟩
  ·intro i v hv
   have hi:=(List.getElem?_eq_some_iff.1 hv).1
   obtain⟨v',KN,Y7,_⟩:=Classical.choose_spec<|hex i hi
   rw[hv]at KN;cases KN
   exact⟨_,hyg i hi,Y7⟩
  ·intro i rv y UU hy
   have hi:i<vs.length:=by rw[<- U3];exact(List.getElem?_eq_some_iff.1 hy).1
   rw[hyg i hi]at hy;cases hy
   exact(Classical.choose_spec<|hex i hi).choose_spec.2.2 rv UU
 obtain⟨ys,U3,hvs,hrun⟩:=this
 have hm:=λf hf=>Dr (P:=P) f fn.results w ys (by grind) hf
 unfold results
 rw[Sem.run_bind,hm _ (λi x y hx hy=>by have:=hrun i x y hx hy;cases x<;>exact this),Result.andThen_ok,Sem.run_pure]
 refine⟨_,rfl,?_⟩
 match vs,ys,hvs with
 | [],[],_=>exact⟨[],rfl,rfl⟩
 | [v],[y],⟨y',ys',hv,hn,e⟩=>
  cases e
  simpa[packV]using hv
 | [v],y::z::ys,h=>obtain⟨y',ys',hv,hn,e⟩:=h;cases e;cases hn
 | v::u::vs,y::z::ys,h=>
  exact⟨_,h,rfl⟩
 | v::u::vs,[y],h=>obtain⟨y',ys',hv,hn,e⟩:=h;cases e;obtain⟨_,_,_,_,e⟩:=hn;cases e
theorem HR.xr (hH:HR X w0 g H w){b:Nat}{o:bv}{d:Gd}(hb:H.get b=some o)(hw:o.wr=true)(hd:g b=some d)(ob:Obj):HR X w0 g (H.del b) (w.putObj d.b ob):=by
 have hlt:=hH.lt hb hd
 have hX:=hH.eV b o d hb rfl hd
 have h0:=hH.ot b o d hb hw hd
 have hs:∀i o,(H.del b).get i=some o->i≠b/\H.get i=some o:=λi o hi=>by
  rw[Heap.gb]at hi
  split at hi
  ·cases hi
  grind
 refine⟨?_,λi j o o' d d' hi hj=>hH.inj i j o o' d d' (hs i o hi).2 (hs j o' hj).2,hH.fresh,λi o d hi=>hH.eV i o d (hs i o hi).2,?_,by rw[World.putObj_size];exact hH.size,hH.os,hH.hole,hH.down,λi o d hi=>hH.ot i o d (hs i o hi).2⟩
 ·intro i o' hi
  obtain⟨hne,hi⟩:=hs i o' hi
  obtain⟨d',hd',X8⟩:=hH.obj i o' hi
  refine⟨d',hd',?_⟩
  rw[World.putObj_heap_other (λe=>hne<|hH.inj i b o' o d' d hi hb hd' hd ⟨e,.inr<|.inl<|Gd.ot h0⟩)]
  exact X8
 ·intro k t hk
  obtain⟨h1,h2⟩:=hH.keep k t hk
  refine⟨h1,?_⟩
  have hne:k≠d.b:=λe=>hX (by rw[Gd.ot h0,<- e];exact hH.down k t hk)
  rw[World.putObj_heap_other hne]
  exact h2
theorem tB {fn:Func}{R:Ending->World->Prop}:∀(ds:List cD){l:List Deferred}{H H2:Heap}{w:World},DR g ds l->HR X w0 g H w->runDefers ih ds H=some H2 ->
  (∀w2,HR X w0 g H2 w2->∃v,(results fn a.tmps).run P w2=.ok v w2/\R (.returned v) w2)->LeavesInM Fence.wide 0 P fn a.tmps R l .returning w:=by
 intro ds
 induction ds with
 | nil=>
  intro l H H2 w hd hH h hR
  have:l=[]:=hd
  subst this
  simp only[runDefers]at h
  cases h
  exact hR w hH
 | cons m ds il=>
  cases m with
  | mark D=>
   intro l H H2 w hd hH h hR
   obtain⟨d,l',hgd,rfl,hd'⟩:=hd
   simp only[runDefers]at h
   split at h
   ·rename_i hD
    obtain⟨d',hd2,hb⟩:=hH.obj _ _ hD
    rw[hgd]at hd2;cases hd2
    have hb:w.heap[d.b]?=some (.deferred<|some []):=hb
    refine⟨by simp,.inl ⟨d.b,_,rfl,run_takeDeferred hb,?_⟩⟩
    exact il hd' (hH.xr hD rfl hgd _) h hR
   ·cases h
theorem wW (nt t:Nat):(my nt).get t=if t<nt then some .undef else none:=by
 have key:∀(n i:Nat)(t0 r:Tr AV),eh (λi(t:Tr AV)=>some<|t.put i .undef) n i t0=some r->∀t,r.get t=if i<=t/\t<i+n then some .undef else t0.get t:=by
  intro n
  induction n with
  | zero=>intro i t0 r h t;rw[kE]at h;grind
  | succ n ih=>
   intro i t0 r h t
   rw[cZ]at h
   obtain⟨b,h1,h2⟩:=h
   cases h1
   rw[ih _ _ _ h2 t]
   by_cases hi:i=t
   ·subst hi
    rw[if_neg (by omega),if_pos<|by omega,Tr.a8]
   ·rw[Tr.bi _ _ hi]
    by_cases h:i+1<=t/\t<i+1+n
    ·grind
    grind
 have some_:∀(n i:Nat)(t0:Tr AV),∃r,eh (λi(t:Tr AV)=>some<|t.put i .undef) n i t0=some r:=by
  intro n
  induction n with
  | zero=>intro i t0;exact⟨t0,rfl⟩
  | succ n ih=>intro i t0;obtain⟨r,hr⟩:=ih (i+1) (t0.put i .undef);exact⟨r,(cZ _ _ _ _ _).2 ⟨_,rfl,hr⟩⟩
 obtain⟨r,hr⟩:=some_ nt 0 .lf
 unfold my
 rw[hr]
 rw[key nt 0 .lf r hr t]
 simp[Tr.get]
theorem argsEnv_get {nt:Nat}{args:List AV}{e0:Tr AV}(h:argsEnv nt args=some e0)(t:Nat):e0.get t=match args[t]? with | some v=>some v | none=>if t<nt then some .undef else none:=by
 unfold argsEnv at h
 split at h
 ·rename_i s hs
  cases h
  have key:∀(args:List AV)(t0:Tr AV)(k:Nat)(s:Tr AV × Nat),aw (λ(s:Tr AV × Nat)(v:AV)=>some (s.1.put s.2 v,Nat.succ s.2)) args (t0,k)=some s ->
    ∀t,s.1.get t=if t<k then t0.get t else match args[t-k]? with | some v=>some v | none=>t0.get t:=by
   intro args
   induction args with
   | nil=>intro t0 k s h t;rw[dI]at h;cases h;simp
   | cons u args ih=>
    intro t0 k s h t
    rw[ah]at h
    obtain⟨b',hb,hl⟩:=h
    cases hb
    rw[ih _ _ _ hl t]
    simp only
    by_cases h1:t<k
    ·rw[if_pos (by omega),if_pos h1,Tr.bi _ _<|by omega]
    ·rw[if_neg h1]
     by_cases h2:k=t
     ·subst h2
      rw[if_pos (by omega),Tr.a8]
      simp
     ·rw[if_neg (by omega)]
      have:t-k=(t-(k+1))+1:=by omega
      rw[this,List.getElem?_cons_succ,Tr.bi _ _ h2]
  rw[key args _ 0 s hs t]
  simp only[Nat.not_lt_zero,if_false,Nat.sub_zero,wW]
 ·cases h
theorem uO {nt:Nat}{args:List AV}{xs:List Value}{e0:Tr AV}(hv:VRs g args xs)(h:argsEnv nt args=some e0):ER g e0 (xs++List.replicate (nt-xs.length) Go.undef).toArray:=by
 intro t v ht
 rw[argsEnv_get h t]at ht
 split at ht
 ·rename_i u hu
  obtain⟨x,hx,KN⟩:=hv.get hu
  grind
 ·rename_i hu
  split at ht
  ·cases ht
   rename_i hlt
   have hl:args.length<=t:=List.getElem?_eq_none_iff.1 hu
   have hxl:=hv.length
   refine⟨Go.undef,?_,cS g⟩
   grind
  ·cases ht
end
end Go.Ev
namespace Go.Ev
def uE (P:Program)(ih:fP):Prop:=
 ∀{X:Pt}{w0:World}{g:G}{rd r:Option Nat}{id nt:Nat}{ops:Array Oper}{e:Tr AV}{ds:List cD}{H:Heap}{a:Act}{w:World}{R:CR},Bo g rd r->St X w0 g nt e ds H a w ->
  runDraw P ih rd nt ops e ds H=some R->(Code.region id ops true).wpIn (Fn r) 0 P (bC X w0 g nt R) a w
structure qw (P:Program)(ih:fP):Prop extends SoundF P ih where
 loop:∃m,∀{X:Pt}{w0:World}{g:G}{rd r:Option Nat}{c:Code}{nt:Nat}{e:Tr AV}{ds:List cD}{H:Heap}{a:Act}{w:World}{R:CR},Bo g rd r->St X w0 g nt e ds H a w ->
  ih.code rd nt (.loop c) e ds H=some R->Code.roundsIn (Fn r) 0 P c (bC X w0 g nt R) m a w
section
variable {P:Program}{X:Pt}{w0:World}{g:G}{H H':Heap}{w:World}{v:AV}{ih:fP}{nt:Nat}{e:Tr AV}{ds ds':List cD}{a:Act}{rd r:Option Nat}
theorem kf {F:Fence}{n:Nat}{c:Code}{Q Q':Exit->Act->World->Prop}(hq:∀e a w,Q e a w->Q' e a w):∀(m:Nat)(a:Act)(w:World),Code.roundsIn F n P c Q m a w->Code.roundsIn F n P c Q' m a w:=by
 intro m
 induction m with
 | zero=>intro a w h;exact h
 | succ m ih=>
  intro a w h
  refine wpIn_mono h ?_
  intro ex a w h
  cases ex<;>first | exact ih _ _ h | exact hq _ _ _ h
theorem jV {l:Nat}{rec:Loop}(h:w.heap[l]?=some (.loop rec))(fn:FuncId)(tmps:Array Value)(ps:Array Tmp)(assign body:Code) :
  (Instr.enterLoop fn tmps ps assign body<|some l).run P w =
   .ok (w.heap.size,[]) (w.alloc<|.loop { state:=.ready,pending:=none,fn,tmps,params:=ps,assign,body,defers:=rec.defers }):=by
 unfold Instr.enterLoop
 simp only[Sem.run_bind,run_getLoop h,Result.andThen,run_newObj_alloc,Sem.run_pure]
theorem range_key (hS:SoundF P ih)(hst:St X w0 g nt e ds H a w){gx:Operand}{ps:Array Tmp}{asg body:Code}{R:CR}{f:FuncId}{first cap:List AV}(hg:bL e gx=some (.func f first cap))(fn:FuncId)
  {D:Nat} {H1:Heap} {ds1:List cD} {g1:G} {w1:World} {mark:List Deferred} {dD:Gd} (jZ:G.le g g1) (hD:g1 D=some dD) (A0:HR X w0 g1 H1 w1) (Yn:DR g1 ds1 (mark++a.defers))
  (nY:(Instr.enterLoop fn a.tmps ps asg body r).run P w=.ok (w1.heap.size,mark) (w1.alloc<|.loop { state:=.ready,pending:=none,fn,tmps:=a.tmps,params:=ps,assign:=asg,body,defers:=dD.b }))
  (h:(match H1.new (.loop e nt ps.toList asg body .ready none D) with
    | (l,H2)=>match ih.call f (bI first<|.yield l::cap) H2 with
     | some (_,H3)=>match H3.get l with
      | some (.loop _ _ _ _ _ st pend D')=>match st with
       | .busy=>none
       | _=>match pend with
        | none=>some<|.mk .normal e ds1<|H3.del l
        | some x=>some<|.mk x e ds1<|H3.del l
      | _=>none
     | none=>none)=some R) :
  ∃(l:Nat)(mark:List Deferred)(w₁:World)(d:Deferred)(w₁':World)(f:FuncId)(args:Array Value)(w₂:World),
   (Instr.enterLoop fn a.tmps ps asg body (Fn r).round).run P w=.ok (l,mark) w₁ /\
   (resolve a.eval (rangeCall gx l) 0).run P w₁=.ok d w₁' /\
   (∀f',Target.leads P w₁' d.target d.args=some f'->(Fn r).fn f') /\
   (invoke d.target d.args).run P w₁'=.ok (.enter f args) w₂ /\
   ((Fn r).depth.isSome=true->1<=0) /\
   CallsIn (Fn r) (0-1) P f args w₂ (rangePost (Fn r) 0 P l (bC X w0 g nt R) { a with defers:=mark++a.defers }):=by
 obtain⟨ys,zs,hy,hz,hx⟩:=mo hst.env gx _ hg
 have hnew:=A0.new (.loop e nt ps.toList asg body .ready none D) (.loop { state:=.ready,pending:=none,fn,tmps:=a.tmps,params:=ps,assign:=asg,body,defers:=dD.b }) ⟨w1.heap.size,0,0,0,none⟩ rfl
  (λg' hle _=>⟨fn,a.tmps,dD,by simp,hle _ _ hD,hst.size,hst.env.mono<|jZ.trans hle,by simp⟩)
 obtain⟨vt,xC⟩:=hnew
 have he:H1.new (.loop e nt ps.toList asg body .ready none D)=(H1.next,(H1.new<|.loop e nt ps.toList asg body .ready none D).2):=rfl
 rw[he]at h
 simp only at h
 have CG:=G.bz g1 H1.next ⟨w1.heap.size,0,0,0,none⟩
 have hargs:VRs (g1.put H1.next ⟨w1.heap.size,0,0,0,none⟩) (first++(.yield H1.next::cap)) (ys++(.func (.yield w1.heap.size) #[] #[]::zs)):=
  VRs.append (VRs.mono (jZ.trans vt) _ _ hy) (VRs.cons ⟨_,CG,rfl⟩<|VRs.mono (jZ.trans vt) _ _ hz)
 split at h
 ·rename_i u H3 hcall
  rw[aN]at hcall
  obtain⟨PB,hc⟩:=hS.call xC hargs hcall
  generalize hW:w1.alloc (.loop { state:=.ready,pending:=none,fn,tmps:=a.tmps,params:=ps,assign:=asg,body,defers:=dD.b })=W at nY hc
  refine⟨w1.heap.size,mark,W,{ target:=.fn (.func f) zs.toArray,args:=ys.toArray++#[.func (.yield w1.heap.size) #[] #[]] },W,f,ys.toArray++#[Value.func (.yield w1.heap.size) #[] #[]]++zs.toArray,W,nY,?_,λ_ _=>trivial,?_,by simp[Fn,Fence.wide],?_⟩
  ·have hmap:Array.map a.eval #[Operand.const (.func (.yield w1.heap.size) #[] #[])]=#[Value.func (.yield w1.heap.size) #[] #[]]:=by
    apply Array.ext'
    simp only[List.map_toArray,List.map_cons,List.map_nil]
    rfl
   simp only[resolve,hx,hmap]
   rfl
  ·simp only[invoke,PB]
  ·have Py:(ys.toArray++#[Value.func (.yield w1.heap.size) #[] #[]]++zs.toArray:Array Value)=(ys++(Value.func (.yield w1.heap.size) #[] #[]::zs)).toArray:=by grind
   rw[Py]
   refine CallsIn.mono (F:=Fn r) hc ?_
   rintro ex w' ⟨x,rfl,g3,Uv,hv,hh⟩
   show∃jump w₄,_/\_
   have PN:=Uv _ _ CG
   split at h
   ·rename_i e' nt' ps' asg' body' st pend D' hl
    obtain⟨d',hd',VV,WF,Tv,k1,k2,k3,k4,k5⟩:=hh.obj _ _ hl
    rw[PN]at hd';cases hd'
    have V2:G.le g g3:=(jZ.trans vt).trans Uv
    have fin:st≠.busy->∀x,(match pend with | none=>x=.normal | some y=>x=y)->R=.mk x e ds1 (H3.del H1.next)->∃jump w₄,(Instr.endLoop w1.heap.size).run P w'=.ok jump w₄ /\
      (match jump with
       | none=>bC X w0 g nt R .normal { a with defers:=mark++a.defers } w₄
       | some c=>c.wpIn (Fn r) 0 P (bC X w0 g nt R) { a with defers:=mark++a.defers } w₄):=by
     intro IY x hx hR
     refine⟨_,_,run_endLoop k1<|by grind,?_⟩
     have qZ:=hh.xr hl rfl PN<|.loop { state:=.exhausted,pending:=pend.bind rm,fn:=VV,tmps:=WF,params:=ps'.toArray,assign:=asg',body:=body',defers:=Tv.b }
     have PG:St X w0 g3 nt e ds1 (H3.del H1.next) { a with defers:=mark++a.defers } (w'.putObj w1.heap.size<|.loop { state:=.exhausted,pending:=pend.bind rm,fn:=VV,tmps:=WF,params:=ps'.toArray,assign:=asg',body:=body',defers:=Tv.b }):=
      ⟨hst.size,hst.env.mono V2,Yn.mono<|vt.trans Uv,qZ⟩
     subst hR
     cases pend with
     | none=>subst hx;exact⟨rfl,g3,V2,PG⟩
     | some y=>
      subst hx
      cases x with
      | normal=>grind
      | exit id=>exact wpIn_exit ⟨rfl,g3,V2,PG⟩
      | ret=>exact wpIn_ret ⟨rfl,g3,V2,PG⟩
    grind
   ·cases h
 ·cases h
theorem tY (hS:SoundF P ih)(hrd:Bo g rd r)(hst:St X w0 g nt e ds H a w){gx:Operand}{ps:Array Tmp}{asg body:Code}{R:CR}
  (h:stepCode P ih rd nt (.rangeFunc gx ps asg body) e ds H=some R):(Code.rangeFunc gx ps asg body).wpIn (Fn r) 0 P (bC X w0 g nt R) a w:=by
 simp only[stepCode]at h
 split at h
 ·rename_i f first cap hg
  refine wpIn_rangeFunc<|λfn _=>?_
  cases rd with
  | none=>
   have:r=none:=hrd
   subst this
   simp only at h
   have hnew:=hst.heap.new .deferred (.deferred<|some []) ⟨w.heap.size,0,0,0,none⟩ rfl<|λ_ _ _=>rfl
   obtain⟨hle,A0⟩:=hnew
   have he:H.new .deferred=(H.next,(H.new .deferred).2):=rfl
   rw[he]at h
   simp only at h
   refine range_key (r:=none) hS hst hg fn (D:=H.next) (ds1:=.mark H.next::ds) (mark:=[{ target:=.collected w.heap.size,args:=#[] }]) (dD:=⟨w.heap.size,0,0,0,none⟩) hle (G.bz _ _ _) A0 ⟨_,_,G.bz _ _ _,rfl,hst.defs.mono hle⟩ ?_ h
   rw[run_enterLoop_outer]
   simp
  | some l0=>
   obtain⟨d0,Un,rfl⟩:=hrd
   simp only at h
   split at h
   ·rename_i D H1 ds1 hD
    split at hD
    ·rename_i e' nt' ps' asg' body' st pend D' hl
     cases hD
     obtain⟨d',hd',VV,WF,Tv,k1,k2,k3,k4,k5⟩:=hst.heap.obj _ _ hl
     rw[Un]at hd';cases hd'
     refine range_key (r:=some d0.b) hS hst hg fn (D:=D) (ds1:=ds) (mark:=[]) (dD:=Tv) (G.le.refl g) k2 hst.heap hst.defs ?_ h
     exact jV k1 fn a.tmps ps asg body
    ·cases hD
   ·cases h
 ·cases h
theorem yX (hS:qw P ih)(hD:uE P ih)(hrd:Bo g rd r)(hst:St X w0 g nt e ds H a w){c:Code}{R:CR}(h:stepCode P ih rd nt c e ds H=some R):c.wpIn (Fn r) 0 P (bC X w0 g nt R) a w:=by
 cases c with
 | skip=>cases h;exact wpIn_skip ⟨rfl,g,G.le.refl g,hst⟩
 | label l=>cases h;exact wpIn_label ⟨rfl,g,G.le.refl g,hst⟩
 | exit id=>cases h;exact wpIn_exit ⟨rfl,g,G.le.refl g,hst⟩
 | ret=>cases h;exact wpIn_ret ⟨rfl,g,G.le.refl g,hst⟩
 | region id ops d=>
  cases d with
  | false=>exact rY hS.toSoundF hrd hst h
  | true=>exact hD hrd hst h
 | seq x y=>
  simp only[stepCode]at h
  split at h
  ·rename_i x1 e1 ds1 H1 hx
   refine wpIn_seq<|wpIn_mono (hS.code hrd hst hx) ?_
   rintro ex a1 w1 ⟨rfl,g1,jZ,eF⟩
   split at h
   ·exact wpIn_mono (hS.code (hrd.mono jZ) eF h)<|λex a w h=>bC.mono jZ h
   ·rename_i hn
    cases h
    cases x1 with
    | normal=>grind
    | exit id=>exact⟨rfl,g1,jZ,eF⟩
    | ret=>exact⟨rfl,g1,jZ,eF⟩
  ·cases h
 | cond c x y=>
  simp only[stepCode]at h
  split at h
  ·rename_i t hc
   have hc:a.eval c=.bool t:=mo hst.env c _ hc
   split at h
   ·exact wpIn_cond_true hc<|hS.code hrd hst h
   ·exact wpIn_cond_false hc<|hS.code hrd hst h
  ·cases h
 | block id b=>
  simp only[stepCode]at h
  split at h
  ·rename_i x1 e1 ds1 H1 hx
   refine wpIn_block<|wpIn_mono (hS.code hrd hst hx) ?_
   rintro ex a1 w1 ⟨rfl,g1,jZ,eF⟩
   split at h
   ·rename_i i
    split at h
    ·rename_i hi
     cases h
     have hi:i=id:=Nat.eq_of_beq_eq_true hi
     simp only[exOf,Exit.inBlock,hi,if_true]
     exact⟨rfl,g1,jZ,eF⟩
    ·rename_i hi
     cases h
     have hi:i≠id:=Nat.ne_of_beq_eq_false hi
     simp only[exOf,Exit.inBlock,hi,if_false]
     exact⟨rfl,g1,jZ,eF⟩
   ·rename_i hn
    cases h
    cases x1 with
    | normal=>exact⟨rfl,g1,jZ,eF⟩
    | exit id=>grind
    | ret=>exact⟨rfl,g1,jZ,eF⟩
  ·cases h
 | loop b=>
  obtain⟨m,hm⟩:=hS.loop
  simp only[stepCode]at h
  split at h
  ·rename_i x1 e1 ds1 H1 hx
   refine wpIn_loop_rounds (m+1) ?_
   refine wpIn_mono (hS.code hrd hst hx) ?_
   rintro ex a1 w1 ⟨rfl,g1,jZ,eF⟩
   split at h
   ·exact kf (λex a w h=>bC.mono jZ h) _ _ _<|hm (hrd.mono jZ) eF h
   ·rename_i hn
    cases h
    cases x1 with
    | normal=>grind
    | exit id=>exact⟨rfl,g1,jZ,eF⟩
    | ret=>exact⟨rfl,g1,jZ,eF⟩
  ·cases h
 | rangeFunc gx ps asg body=>exact tY hS.toSoundF hrd hst h
 | _=>cases h
theorem zZ (hS:qw P ih):∃m,∀{X:Pt}{w0:World}{g:G}{rd r:Option Nat}{c:Code}{nt:Nat}{e:Tr AV}{ds:List cD}{H:Heap}{a:Act}{w:World}{R:CR},Bo g rd r->St X w0 g nt e ds H a w ->
  stepCode P ih rd nt (.loop c) e ds H=some R->Code.roundsIn (Fn r) 0 P c (bC X w0 g nt R) m a w:=by
 obtain⟨m,hm⟩:=hS.loop
 refine⟨m+1,?_⟩
 intro X w0 g rd r c nt e ds H a w R hrd hst h
 simp only[stepCode]at h
 split at h
 ·rename_i x1 e1 ds1 H1 hx
  refine wpIn_mono (hS.code hrd hst hx) ?_
  rintro ex a1 w1 ⟨rfl,g1,jZ,eF⟩
  split at h
  ·exact kf (λex a w h=>bC.mono jZ h) _ _ _<|hm (hrd.mono jZ) eF h
  ·rename_i hn
   cases h
   cases x1 with
   | normal=>grind
   | exit id=>exact⟨rfl,g1,jZ,eF⟩
   | ret=>exact⟨rfl,g1,jZ,eF⟩
 ·cases h
theorem call_step (hS:SoundF P ih){f:FuncId}{args:List AV}{xs:List Value}(hH:HR X w0 g H w)(hv:VRs g args xs)(h:stepCall P ih f args H=some (v,H')) :
  (∀(as:Array Value)(w:World),(callFunc f as).run P w=.ok (.enter f as) w)/\CallsIn Fence.wide 0 P f xs.toArray w (dR X w0 g v H'):=by
 unfold stepCall at h
 split at h
 ·rename_i fn hf
  split at h
  ·rename_i c hb
   split at h
   ·cases h
   ·rename_i hn
    simp only[Bool.and_eq_true,Bool.not_eq_true']at hn
    obtain⟨hn1,hn2⟩:=hn
    split at h
    ·cases h
    ·rename_i e0 iL
     split at h
     ·rename_i x1 e1 ds1 H1 hx
      refine⟨?_,?_⟩
      ·intro as w
       simp[callFunc,Sem.run_bind,run_program,hf,beq_eq_false_iff_ne.1 hn2,hb]
      ·refine callsIn_of_wp_marks (F:=Fence.wide) hf hb trivial ?_
       have hlen:args.length<=fn.ntmps:=by rw[ar]at hn1;exact Nat.le_of_ble_eq_true hn1
       have hsz:(xs.toArray++Array.replicate (fn.ntmps-xs.toArray.size) undef).size=fn.ntmps:=by
        simp[hv.length];omega
       have abU:=uO hv iL
       have Py:(xs++List.replicate (fn.ntmps-xs.length) undef).toArray=xs.toArray++Array.replicate (fn.ntmps-xs.toArray.size) undef:=by
        grind
       rw[Py]at abU
       have hw:=hS.code (rd:=none) (r:=none) (X:=X) (w0:=w0) (a:={ tmps:=xs.toArray++Array.replicate (fn.ntmps-xs.toArray.size) undef,defers:=[] }) rfl ⟨hsz,abU,show DR g [] []from rfl,hH⟩ hx
       refine wpIn_mono hw ?_
       rintro ex a1 w1 ⟨rfl,g1,jZ,eF⟩
       have fin:∀{R},(match runDefers ih ds1 H1 with
         | some H2=>match aI (resultOf P e1 H2) fn.results.toList with
          | some [v]=>some (v,H2)
          | some vs=>some (.tuple vs,H2)
          | none=>none
         | none=>none)=some (v,H')->R=dR X w0 g v H'->LeavesInM Fence.wide 0 P fn a1.tmps R a1.defers .returning w1:=by
        intro R h hR
        subst hR
        split at h
        ·rename_i H2 hd
         refine tB (ih:=ih) (a:=a1) ds1 eF.defs eF.heap hd ?_
         intro w2 xC
         split at h
         ·rename_i u hu
          cases h
          obtain⟨x,fe,iI⟩:=mV eF.env xC hu
          exact⟨x,fe,x,rfl,g1,jZ,iI,xC⟩
         ·rename_i vs hne hvs
          cases h
          obtain⟨x,fe,iI⟩:=mV eF.env xC hvs
          refine⟨x,fe,x,rfl,g1,jZ,?_,xC⟩
          match vs,hne,iI with
          | [],_,h=>exact h
          | [v],hne,_=>grind
          | _::_::_,_,h=>exact h
         ·cases h
        ·cases h
       cases x1 with
       | exit id=>cases h
       | normal=>exact fin h rfl
       | ret=>exact fin h rfl
     ·cases h
  ·cases h
 ·cases h
theorem xw (K:Orc):ev P K 0=⟨λ_ _ _ _ _ _=>none,λ_ _ _=>none⟩:=rfl
theorem qP (K:Orc)(n:Nat):ev P K (n+1)=qN P K (ev P K n):=rfl
structure OrcOk (P:Program)(K:Orc):Prop where
 call:∀{X:Pt}{w0:World}{g:G}{H:Heap}{w:World}{f:FuncId}{args:List AV}{xs:List Value}{v:AV}{H':Heap},HR X w0 g H w->VRs g args xs->K f args H=some (v,H') ->
  (∀(as:Array Value)(w:World),(callFunc f as).run P w=.ok (.enter f as) w)/\CallsIn Fence.wide 0 P f xs.toArray w (dR X w0 g v H')
theorem vJ {K:Orc}(hK:OrcOk P K)(hS:SoundF P ih){f:FuncId}{args:List AV}{xs:List Value}(hH:HR X w0 g H w)(hv:VRs g args xs)(h:knownCall K f args H (stepCall P ih f args H)=some (v,H')) :
  (∀(as:Array Value)(w:World),(callFunc f as).run P w=.ok (.enter f as) w)/\CallsIn Fence.wide 0 P f xs.toArray w (dR X w0 g v H'):=by
 unfold knownCall at h
 split at h
 ·rename_i x hf
  cases h
  exact hK.call hH hv hf
 ·exact call_step hS hH hv h
theorem Ca {K:Orc}(hK:OrcOk P K)(hD:∀ih,SoundF P ih->uE P ih)(n:Nat):qw P (ev P K n):=by
 induction n with
 | zero=>
  rw[xw]
  exact{ call:=(λ_ _ h=>by cases h),code:=(λ_ _ h=>by cases h),loop:=⟨0,λ_ _ h=>by cases h⟩ }
 | succ n ih=>
  rw[qP]
  refine@qw.mk _ _ (@SoundF.mk _ _ ?_ ?_) (zZ ih)
  ·intro X w0 g H w f args xs v H' hH hv h
   exact vJ hK ih.toSoundF hH hv h
  ·intro X w0 g rd r c nt e ds H a w R hrd hst h
   exact yX ih (hD _ ih.toSoundF) hrd hst h
end
end Go.Ev
namespace Go.Ev
section
variable {P:Program}{H H':Heap}{ρ ρ':Operand->Option AV}{v:AV}{ih:fP}
theorem dv {α β:Type}{f f':α->Option β}:∀(l:List α),(∀x∈l,f x=f' x)->aI f l=aI f' l:=by
 intro l
 induction l with
 | nil=>intro _;rfl
 | cons x l ih=>
  intro h
  rw[ja,ja,h x<|by simp,ih<|λy hy=>h y<|by simp[hy]]
theorem dZ (x:Option Operand)(y d:Nat)(h:∀z∈oopt x,ρ z=ρ' z):cL ρ y d x=cL ρ' y d x:=by
 cases x with
 | none=>rfl
 | some x=>simp only[cL];rw[h x (by simp[oopt])]
theorem aaR {x:Operand}{a b c:Option Operand}(h:∀z∈x::bI (oopt a) (bI (oopt b) (oopt c)),ρ z=ρ' z):ρ x=ρ' x/\(∀z∈oopt a,ρ z=ρ' z)/\(∀z∈oopt b,ρ z=ρ' z)/\(∀z∈oopt c,ρ z=ρ' z):=by
 simp only[aN]at h
 grind
theorem jW {op:AOp}(h:∀x∈op.opers,ρ x=ρ' x):allocOf ρ op=allocOf ρ' op:=by
 cases op<;>try rfl
 case box n x=>simp only[allocOf];rw[h x (by simp[AOp.opers])]
 case bslice sz len z parts=>
  simp only[allocOf]
  rw[dv (f':=λp:Nat × Operand=>match ρ' p.2 with
    | some v=>match partCells sz v with
     | some cs=>match Nat.blt p.1 len with | true=>some (p.1,cs) | false=>none
     | none=>none
    | none=>none) parts (λp hp=>by rw[h p.2 (by simp only[AOp.opers,List.mem_map];grind)];rfl)]
  rfl
 case mkslice sz bytes z l c=>simp only[allocOf];rw[h l (by simp[AOp.opers]),h c<|by simp[AOp.opers]]
theorem nK {op:AOp}(h:∀x∈op.opers,ρ x=ρ' x):aval P H ρ op=aval P H ρ' op:=by
 have hall:=jW h
 cases op<;>try (simp only[aval];rw[hall])
 case mv x=>simp only[aval];rw[h x (by simp[AOp.opers])]
 case pick c a b=>simp only[aval];rw[h c (by simp[AOp.opers]),h a<|by simp[AOp.opers],h b<|by simp[AOp.opers]]
 case build z parts=>
  simp only[aval]
  rw[dv (f':=λp:Nat × Nat × Operand=>match ρ' p.2.2 with
    | some v=>match partCells p.2.1 v with | some cs=>some (p.1,cs) | none=>none
    | none=>none) parts (λp hp=>by rw[h p.2.2 (by simp only[AOp.opers,List.mem_map];exact⟨p,hp,rfl⟩)];rfl)]
  rfl
 case load g n x=>simp only[aval];rw[h x (by simp[AOp.opers])]
 case store n a x=>simp only[aval];rw[h a (by simp[AOp.opers]),h x<|by simp[AOp.opers]]
 case nilchk x=>simp only[aval];rw[h x (by simp[AOp.opers])]
 case arith op x y=>simp only[aval];rw[h x (by simp[AOp.opers]),h y<|by simp[AOp.opers]]
 case eql neg p x y=>simp only[aval];rw[h x (by simp[AOp.opers]),h y<|by simp[AOp.opers]]
 case un op x=>simp only[aval];rw[h x (by simp[AOp.opers])]
 case convI k x=>simp only[aval];rw[h x (by simp[AOp.opers])]
 case convS x=>simp only[aval];rw[h x (by simp[AOp.opers])]
 case b2s x=>simp only[aval];rw[h x (by simp[AOp.opers])]
 case mkif t x=>simp only[aval];rw[h x (by simp[AOp.opers])]
 case mkfn f a b=>
  simp only[aval]
  simp only[AOp.opers,aN]at h
  rw[dv (f':=ρ') a (λx hx=>h x<|by simp[hx]),dv (f':=ρ') b<|λx hx=>h x<|by simp[hx]]
 case mkmf n x=>simp only[aval];rw[h x (by simp[AOp.opers])]
 case ins l kk m k v=>simp only[aval];rw[h m (by simp[AOp.opers]),h k<|by simp[AOp.opers],h v<|by simp[AOp.opers]]
 case slc sz x lo hi mx=>
  obtain⟨hx,h1,h2,h3⟩:=aaR h
  simp only[aval]
  rw[hx]
  have e1:=λy d=>dZ (ρ:=ρ) (ρ':=ρ') lo y d h1
  have e2:=λy d=>dZ (ρ:=ρ) (ρ':=ρ') hi y d h2
  have e3:=λy d=>dZ (ρ:=ρ) (ρ':=ρ') mx y d h3
  cases mx with
  | none=>simp only[e1,e2]
  | some m=>simp only[e1,e2,e3]
 case slcA n sz x lo hi mx=>
  obtain⟨hx,h1,h2,h3⟩:=aaR h
  simp only[aval]
  rw[hx]
  simp only[λy d=>dZ (ρ:=ρ) (ρ':=ρ') lo y d h1,λy d=>dZ (ρ:=ρ) (ρ':=ρ') hi y d h2]
 case slcS x lo hi=>
  obtain⟨hx,h1,h2,h3⟩:=aaR (c:=none)<|by simpa[AOp.opers,oopt,aN]using h
  simp only[aval]
  rw[hx]
  simp only[λy d=>dZ (ρ:=ρ) (ρ':=ρ') lo y d h1,λy d=>dZ (ρ:=ρ) (ρ':=ρ') hi y d h2]
 case faddr o x=>simp only[aval];rw[h x (by simp[AOp.opers])]
 case fld o n g x=>simp only[aval];rw[h x (by simp[AOp.opers])]
 case iaddrS sz x i=>simp only[aval];rw[h x (by simp[AOp.opers]),h i<|by simp[AOp.opers]]
 case iaddrA n sz x i=>simp only[aval];rw[h x (by simp[AOp.opers]),h i<|by simp[AOp.opers]]
 case idxA n sz g x i=>simp only[aval];rw[h x (by simp[AOp.opers]),h i<|by simp[AOp.opers]]
 case idxS x i=>simp only[aval];rw[h x (by simp[AOp.opers]),h i<|by simp[AOp.opers]]
 case look kk z ok m k=>simp only[aval];rw[h m (by simp[AOp.opers]),h k<|by simp[AOp.opers]]
 case extract x i=>simp only[aval];rw[h x (by simp[AOp.opers])]
 case lenS x=>simp only[aval];rw[h x (by simp[AOp.opers])]
 case lenT x=>simp only[aval];rw[h x (by simp[AOp.opers])]
 case lenM x=>simp only[aval];rw[h x (by simp[AOp.opers])]
 case lenC n=>rfl
 case cap x=>simp only[aval];rw[h x (by simp[AOp.opers])]
 case minmax mx args=>simp only[aval];rw[dv (f':=ρ') args (λx hx=>h x hx)]
 case append sz bs s x=>simp only[aval];rw[h s (by simp[AOp.opers]),h x<|by simp[AOp.opers]]
 case appendZ sz bs z s x=>simp only[aval];rw[h s (by simp[AOp.opers]),h x<|by simp[AOp.opers]]
 case copy sz d s=>simp only[aval];rw[h d (by simp[AOp.opers]),h s<|by simp[AOp.opers]]
 case clear sz z x=>simp only[aval];rw[h x (by simp[AOp.opers])]
 case delete kk m k=>simp only[aval];rw[h m (by simp[AOp.opers]),h k<|by simp[AOp.opers]]
theorem wg {op:AOp}{ds:List cD}(h:∀x∈op.opers,ρ x=ρ' x):oper P ih ρ op ds H=oper P ih ρ' op ds H:=by
 have ha:=nK (P:=P) (H:=H) h
 cases op<;>try (simp only[oper];rw[ha])
 case call f args=>simp only[oper];rw[h f (by simp[AOp.opers]),dv (f':=ρ') args<|λx hx=>h x<|by simp[AOp.opers,hx]]
 case invoke r n args=>simp only[oper];rw[h r (by simp[AOp.opers]),dv (f':=ρ') args<|λx hx=>h x<|by simp[AOp.opers,hx]]
theorem Js {op:AOp}{ds ds':List cD}(h:oper P ih ρ op ds H=some (.mk v ds' H')):ds'=ds:=by
 unfold oper at h
 (repeat' split at h)<;>first | (cases h;rfl) | cases h
theorem Av {op:AOp}{H1 H2:Heap}(hp:clsOf op=.pure)(h:aval P H1 ρ op=some (v,H')):H'=H1/\aval P H2 ρ op=some (v,H2):=by
 cases op<;>first | (simp only[clsOf,reduceCtorEq]at hp;done) | skip
 case ins l kk m k x=>cases l<;>simp[clsOf]at hp
 all_goals
  simp only[aval,aL]at h |-
  (repeat' split at h)<;>first | (cases h;done) | (cases h;simp_all;done) | skip
end
theorem qF (m i:Nat):bit m i=m.testBit i:=by
 show Nat.beq ((m >>> i)%2) 1=_
 rw[Nat.testBit_eq_decide_div_mod_eq,Nat.shiftRight_eq_div_pow]
 cases h:Nat.beq (m/2 ^ i%2) 1 with
 | true=>simp[Nat.eq_of_beq_eq_true h]
 | false=>simp[Nat.ne_of_beq_eq_false h]
theorem fp (a b i:Nat):bit (Nat.lor a b) i=(bit a i||bit b i):=by
 simp only[qF]
 exact Nat.testBit_or a b i
theorem Bz (a b i:Nat):bit (Nat.land a b) i=(bit a i&&bit b i):=by
 simp only[qF]
 exact Nat.testBit_and a b i
theorem ni (k i:Nat):bit (Nat.shiftLeft 1 k) i=decide (k=i):=by
 rw[qF]
 show(1 <<< k).testBit i=_
 rw[Nat.one_shiftLeft,Nat.testBit_two_pow]
theorem nM (i:Nat):bit 0 i=false:=by rw[qF];simp
theorem tz {a b:Nat}(h:Nat.beq (Nat.land b a) b=true){i:Nat}(hi:bit b i=true):bit a i=true:=by
 have:=Nat.eq_of_beq_eq_true h
 rw[<- this,Bz]at hi
 grind
theorem lK {f:AV->AV->Bool}(hf:∀x y,f x y=true->x=y):∀l m,sameL f l m=true->l=m:=by
 intro l
 induction l with
 | nil=>intro m h;cases m with
  | nil=>rfl
  | cons _ _=>simp[sameL]at h
 | cons x l ih=>intro m h;cases m with
  | nil=>simp[sameL]at h
  | cons y m=>
   simp only[sameL,Bool.and_eq_true]at h
   grind
theorem FC {x y:AV}(h:same0 x y=true):x=y:=by
 unfold same0 at h
 split at h<;>(try simp only[Bool.and_eq_true,beq_iff_eq]at h)<;>first | rfl | (cases h;done) | skip
 ·rw[h]
 ·simp only[ic,et,decide_eq_true_eq,beq_iff_eq]at h
  rw[h.1,h.2]
 ·rename_i a b
  have:a=b:=by
   simp only[ByteArray.toList_eq]at h
   exact ByteArray.ext<|Array.ext' h
  rw[this]
 ·rename_i a b
  cases a;simp_all
 ·simp_all
 ·rename_i a l c s r b l' c' s' r'
  cases a;simp_all
 ·rw[Nat.eq_of_beq_eq_true h]
theorem FG:∀(n:Nat)(x y:AV),sameN n x y=true->x=y:=by
 intro n
 induction n with
 | zero=>intro x y h;simp[sameN]at h
 | succ n ih=>
  intro x y h
  simp only[sameN]at h
  split at h
  ·rw[lK (ih) _ _ h]
  ·rw[lK (ih) _ _ h]
  ·simp only[Bool.and_eq_true]at h
   rw[Nat.eq_of_beq_eq_true h.1,ih _ _ h.2]
  ·simp only[Bool.and_eq_true]at h
   rw[Nat.eq_of_beq_eq_true h.1.1,lK ih _ _ h.1.2,lK ih _ _ h.2]
  ·exact FC h
theorem oM {x y:AV}(h:dz x y=true):x=y:=FG 6 x y h
end Go.Ev
