/- A fast machine for the kernel: its data. A fast machine for the kernel: its operations. A fast machine for the kernel: its code, its calls. Conditions: none. -/
import Derived.Test.YtcmplhmbmmclaaaGreatEvA
set_option linter.unusedVariables false
set_option linter.unusedSectionVars false
namespace Go.Ev
noncomputable section
structure T4 (α:Type) where
 a:α
 b:α
 c:α
 d:α
abbrev T16 (α:Type):=T4 (T4 α)
abbrev T64 (α:Type):=T4 (T4 (T4 α))
structure R (α:Type) where
 a:T4 α
 b:T4 (T4 α)
 c:T4 (T4 (T4 α))
 d:T4 (T4 (T4 (T4 (T4 (T4 α)))))
def rp {α:Type} (x:α):T4 α:=⟨x,x,x,x⟩
def rp16 {α:Type} (x:α):T16 α:=rp (rp x)
def rp64 {α:Type} (x:α):T64 α:=rp (rp16 x)
def rpR {α:Type} (x:α):R α:=⟨rp x,rp16 x,rp64 x,rp64 (rp64 x)⟩
structure Acc where
 g:(α:Type)->T64 α->α
 p:(α:Type)->α->T64 α->T64 α
 q:(α:Type)->(α->α)->T64 α->T64 α
structure Rac where
 g:(α:Type)->R α->α
 p:(α:Type)->α->R α->R α
 q:(α:Type)->(α->α)->R α->R α
def qa (α:Type) (f:α->α) (t:T4 α):T4 α:=T4.rec (motive:=fun _=>T4 α) (fun a b c d=>T4.mk (f a) b c d) t
def qRa {α:Type} (f:T4 α->T4 α) (t:R α):R α:=R.rec (motive:=fun _=>R α) (fun a b c d=>R.mk (f a) b c d) t
def qb (α:Type) (f:α->α) (t:T4 α):T4 α:=T4.rec (motive:=fun _=>T4 α) (fun a b c d=>T4.mk a (f b) c d) t
def qRb {α:Type} (f:T16 α->T16 α) (t:R α):R α:=R.rec (motive:=fun _=>R α) (fun a b c d=>R.mk a (f b) c d) t
def qc (α:Type) (f:α->α) (t:T4 α):T4 α:=T4.rec (motive:=fun _=>T4 α) (fun a b c d=>T4.mk a b (f c) d) t
def qRc {α:Type} (f:T64 α->T64 α) (t:R α):R α:=R.rec (motive:=fun _=>R α) (fun a b c d=>R.mk a b (f c) d) t
def qd (α:Type) (f:α->α) (t:T4 α):T4 α:=T4.rec (motive:=fun _=>T4 α) (fun a b c d=>T4.mk a b c (f d)) t
def qRd {α:Type} (f:T64 (T64 α)->T64 (T64 α)) (t:R α):R α:=R.rec (motive:=fun _=>R α) (fun a b c d=>R.mk a b c (f d)) t
def ag_aaa (α:Type) (t:T64 α):α:=by
 refine(?f:(x:α)->x=t.a.a.a->α) ?x ?p
 case p=>(try delta R.a R.b R.c R.d T4.a T4.b T4.c T4.d);exact rfl
 case f=>exact fun x _=>x
def ap_aaa (α:Type) (v:α) (t:T64 α):T64 α:=by
 refine(?f:(x:T64 α)->x=(T4.mk (T4.mk (T4.mk v t.a.a.b t.a.a.c t.a.a.d) t.a.b t.a.c t.a.d) t.b t.c t.d)->T64 α) ?x ?p
 case p=>(try delta R.a R.b R.c R.d T4.a T4.b T4.c T4.d);exact rfl
 case f=>exact fun x _=>x
def acc_aaa:Acc:=⟨ag_aaa,ap_aaa,fun α f t=>qa _ (qa _ (qa α f)) t⟩
def ag_aab (α:Type) (t:T64 α):α:=by
 refine(?f:(x:α)->x=t.a.a.b->α) ?x ?p
 case p=>(try delta R.a R.b R.c R.d T4.a T4.b T4.c T4.d);exact rfl
 case f=>exact fun x _=>x
def ap_aab (α:Type) (v:α) (t:T64 α):T64 α:=by
 refine(?f:(x:T64 α)->x=(T4.mk (T4.mk (T4.mk t.a.a.a v t.a.a.c t.a.a.d) t.a.b t.a.c t.a.d) t.b t.c t.d)->T64 α) ?x ?p
 case p=>(try delta R.a R.b R.c R.d T4.a T4.b T4.c T4.d);exact rfl
 case f=>exact fun x _=>x
def acc_aab:Acc:=⟨ag_aab,ap_aab,fun α f t=>qa _ (qa _ (qb α f)) t⟩
def ag_aac (α:Type) (t:T64 α):α:=by
 refine(?f:(x:α)->x=t.a.a.c->α) ?x ?p
 case p=>(try delta R.a R.b R.c R.d T4.a T4.b T4.c T4.d);exact rfl
 case f=>exact fun x _=>x
def ap_aac (α:Type) (v:α) (t:T64 α):T64 α:=by
 refine(?f:(x:T64 α)->x=(T4.mk (T4.mk (T4.mk t.a.a.a t.a.a.b v t.a.a.d) t.a.b t.a.c t.a.d) t.b t.c t.d)->T64 α) ?x ?p
 case p=>(try delta R.a R.b R.c R.d T4.a T4.b T4.c T4.d);exact rfl
 case f=>exact fun x _=>x
def acc_aac:Acc:=⟨ag_aac,ap_aac,fun α f t=>qa _ (qa _ (qc α f)) t⟩
def ag_aad (α:Type) (t:T64 α):α:=by
 refine(?f:(x:α)->x=t.a.a.d->α) ?x ?p
 case p=>(try delta R.a R.b R.c R.d T4.a T4.b T4.c T4.d);exact rfl
 case f=>exact fun x _=>x
def ap_aad (α:Type) (v:α) (t:T64 α):T64 α:=by
 refine(?f:(x:T64 α)->x=(T4.mk (T4.mk (T4.mk t.a.a.a t.a.a.b t.a.a.c v) t.a.b t.a.c t.a.d) t.b t.c t.d)->T64 α) ?x ?p
 case p=>(try delta R.a R.b R.c R.d T4.a T4.b T4.c T4.d);exact rfl
 case f=>exact fun x _=>x
def acc_aad:Acc:=⟨ag_aad,ap_aad,fun α f t=>qa _ (qa _ (qd α f)) t⟩
def ag_aba (α:Type) (t:T64 α):α:=by
 refine(?f:(x:α)->x=t.a.b.a->α) ?x ?p
 case p=>(try delta R.a R.b R.c R.d T4.a T4.b T4.c T4.d);exact rfl
 case f=>exact fun x _=>x
def ap_aba (α:Type) (v:α) (t:T64 α):T64 α:=by
 refine(?f:(x:T64 α)->x=(T4.mk (T4.mk t.a.a (T4.mk v t.a.b.b t.a.b.c t.a.b.d) t.a.c t.a.d) t.b t.c t.d)->T64 α) ?x ?p
 case p=>(try delta R.a R.b R.c R.d T4.a T4.b T4.c T4.d);exact rfl
 case f=>exact fun x _=>x
def acc_aba:Acc:=⟨ag_aba,ap_aba,fun α f t=>qa _ (qb _ (qa α f)) t⟩
def ag_abb (α:Type) (t:T64 α):α:=by
 refine(?f:(x:α)->x=t.a.b.b->α) ?x ?p
 case p=>(try delta R.a R.b R.c R.d T4.a T4.b T4.c T4.d);exact rfl
 case f=>exact fun x _=>x
def ap_abb (α:Type) (v:α) (t:T64 α):T64 α:=by
 refine(?f:(x:T64 α)->x=(T4.mk (T4.mk t.a.a (T4.mk t.a.b.a v t.a.b.c t.a.b.d) t.a.c t.a.d) t.b t.c t.d)->T64 α) ?x ?p
 case p=>(try delta R.a R.b R.c R.d T4.a T4.b T4.c T4.d);exact rfl
 case f=>exact fun x _=>x
def acc_abb:Acc:=⟨ag_abb,ap_abb,fun α f t=>qa _ (qb _ (qb α f)) t⟩
def ag_abc (α:Type) (t:T64 α):α:=by
 refine(?f:(x:α)->x=t.a.b.c->α) ?x ?p
 case p=>(try delta R.a R.b R.c R.d T4.a T4.b T4.c T4.d);exact rfl
 case f=>exact fun x _=>x
def ap_abc (α:Type) (v:α) (t:T64 α):T64 α:=by
 refine(?f:(x:T64 α)->x=(T4.mk (T4.mk t.a.a (T4.mk t.a.b.a t.a.b.b v t.a.b.d) t.a.c t.a.d) t.b t.c t.d)->T64 α) ?x ?p
 case p=>(try delta R.a R.b R.c R.d T4.a T4.b T4.c T4.d);exact rfl
 case f=>exact fun x _=>x
def acc_abc:Acc:=⟨ag_abc,ap_abc,fun α f t=>qa _ (qb _ (qc α f)) t⟩
def ag_abd (α:Type) (t:T64 α):α:=by
 refine(?f:(x:α)->x=t.a.b.d->α) ?x ?p
 case p=>(try delta R.a R.b R.c R.d T4.a T4.b T4.c T4.d);exact rfl
 case f=>exact fun x _=>x
def ap_abd (α:Type) (v:α) (t:T64 α):T64 α:=by
 refine(?f:(x:T64 α)->x=(T4.mk (T4.mk t.a.a (T4.mk t.a.b.a t.a.b.b t.a.b.c v) t.a.c t.a.d) t.b t.c t.d)->T64 α) ?x ?p
 case p=>(try delta R.a R.b R.c R.d T4.a T4.b T4.c T4.d);exact rfl
 case f=>exact fun x _=>x
def acc_abd:Acc:=⟨ag_abd,ap_abd,fun α f t=>qa _ (qb _ (qd α f)) t⟩
def ag_aca (α:Type) (t:T64 α):α:=by
 refine(?f:(x:α)->x=t.a.c.a->α) ?x ?p
 case p=>(try delta R.a R.b R.c R.d T4.a T4.b T4.c T4.d);exact rfl
 case f=>exact fun x _=>x
def ap_aca (α:Type) (v:α) (t:T64 α):T64 α:=by
 refine(?f:(x:T64 α)->x=(T4.mk (T4.mk t.a.a t.a.b (T4.mk v t.a.c.b t.a.c.c t.a.c.d) t.a.d) t.b t.c t.d)->T64 α) ?x ?p
 case p=>(try delta R.a R.b R.c R.d T4.a T4.b T4.c T4.d);exact rfl
 case f=>exact fun x _=>x
def acc_aca:Acc:=⟨ag_aca,ap_aca,fun α f t=>qa _ (qc _ (qa α f)) t⟩
def ag_acb (α:Type) (t:T64 α):α:=by
 refine(?f:(x:α)->x=t.a.c.b->α) ?x ?p
 case p=>(try delta R.a R.b R.c R.d T4.a T4.b T4.c T4.d);exact rfl
 case f=>exact fun x _=>x
def ap_acb (α:Type) (v:α) (t:T64 α):T64 α:=by
 refine(?f:(x:T64 α)->x=(T4.mk (T4.mk t.a.a t.a.b (T4.mk t.a.c.a v t.a.c.c t.a.c.d) t.a.d) t.b t.c t.d)->T64 α) ?x ?p
 case p=>(try delta R.a R.b R.c R.d T4.a T4.b T4.c T4.d);exact rfl
 case f=>exact fun x _=>x
def acc_acb:Acc:=⟨ag_acb,ap_acb,fun α f t=>qa _ (qc _ (qb α f)) t⟩
def ag_acc (α:Type) (t:T64 α):α:=by
 refine(?f:(x:α)->x=t.a.c.c->α) ?x ?p
 case p=>(try delta R.a R.b R.c R.d T4.a T4.b T4.c T4.d);exact rfl
 case f=>exact fun x _=>x
def ap_acc (α:Type) (v:α) (t:T64 α):T64 α:=by
 refine(?f:(x:T64 α)->x=(T4.mk (T4.mk t.a.a t.a.b (T4.mk t.a.c.a t.a.c.b v t.a.c.d) t.a.d) t.b t.c t.d)->T64 α) ?x ?p
 case p=>(try delta R.a R.b R.c R.d T4.a T4.b T4.c T4.d);exact rfl
 case f=>exact fun x _=>x
def acc_acc:Acc:=⟨ag_acc,ap_acc,fun α f t=>qa _ (qc _ (qc α f)) t⟩
def ag_acd (α:Type) (t:T64 α):α:=by
 refine(?f:(x:α)->x=t.a.c.d->α) ?x ?p
 case p=>(try delta R.a R.b R.c R.d T4.a T4.b T4.c T4.d);exact rfl
 case f=>exact fun x _=>x
def ap_acd (α:Type) (v:α) (t:T64 α):T64 α:=by
 refine(?f:(x:T64 α)->x=(T4.mk (T4.mk t.a.a t.a.b (T4.mk t.a.c.a t.a.c.b t.a.c.c v) t.a.d) t.b t.c t.d)->T64 α) ?x ?p
 case p=>(try delta R.a R.b R.c R.d T4.a T4.b T4.c T4.d);exact rfl
 case f=>exact fun x _=>x
def acc_acd:Acc:=⟨ag_acd,ap_acd,fun α f t=>qa _ (qc _ (qd α f)) t⟩
def ag_ada (α:Type) (t:T64 α):α:=by
 refine(?f:(x:α)->x=t.a.d.a->α) ?x ?p
 case p=>(try delta R.a R.b R.c R.d T4.a T4.b T4.c T4.d);exact rfl
 case f=>exact fun x _=>x
def ap_ada (α:Type) (v:α) (t:T64 α):T64 α:=by
 refine(?f:(x:T64 α)->x=(T4.mk (T4.mk t.a.a t.a.b t.a.c (T4.mk v t.a.d.b t.a.d.c t.a.d.d)) t.b t.c t.d)->T64 α) ?x ?p
 case p=>(try delta R.a R.b R.c R.d T4.a T4.b T4.c T4.d);exact rfl
 case f=>exact fun x _=>x
def acc_ada:Acc:=⟨ag_ada,ap_ada,fun α f t=>qa _ (qd _ (qa α f)) t⟩
def ag_adb (α:Type) (t:T64 α):α:=by
 refine(?f:(x:α)->x=t.a.d.b->α) ?x ?p
 case p=>(try delta R.a R.b R.c R.d T4.a T4.b T4.c T4.d);exact rfl
 case f=>exact fun x _=>x
def ap_adb (α:Type) (v:α) (t:T64 α):T64 α:=by
 refine(?f:(x:T64 α)->x=(T4.mk (T4.mk t.a.a t.a.b t.a.c (T4.mk t.a.d.a v t.a.d.c t.a.d.d)) t.b t.c t.d)->T64 α) ?x ?p
 case p=>(try delta R.a R.b R.c R.d T4.a T4.b T4.c T4.d);exact rfl
 case f=>exact fun x _=>x
def acc_adb:Acc:=⟨ag_adb,ap_adb,fun α f t=>qa _ (qd _ (qb α f)) t⟩
def ag_adc (α:Type) (t:T64 α):α:=by
 refine(?f:(x:α)->x=t.a.d.c->α) ?x ?p
 case p=>(try delta R.a R.b R.c R.d T4.a T4.b T4.c T4.d);exact rfl
 case f=>exact fun x _=>x
def ap_adc (α:Type) (v:α) (t:T64 α):T64 α:=by
 refine(?f:(x:T64 α)->x=(T4.mk (T4.mk t.a.a t.a.b t.a.c (T4.mk t.a.d.a t.a.d.b v t.a.d.d)) t.b t.c t.d)->T64 α) ?x ?p
 case p=>(try delta R.a R.b R.c R.d T4.a T4.b T4.c T4.d);exact rfl
 case f=>exact fun x _=>x
def acc_adc:Acc:=⟨ag_adc,ap_adc,fun α f t=>qa _ (qd _ (qc α f)) t⟩
def ag_add (α:Type) (t:T64 α):α:=by
 refine(?f:(x:α)->x=t.a.d.d->α) ?x ?p
 case p=>(try delta R.a R.b R.c R.d T4.a T4.b T4.c T4.d);exact rfl
 case f=>exact fun x _=>x
def ap_add (α:Type) (v:α) (t:T64 α):T64 α:=by
 refine(?f:(x:T64 α)->x=(T4.mk (T4.mk t.a.a t.a.b t.a.c (T4.mk t.a.d.a t.a.d.b t.a.d.c v)) t.b t.c t.d)->T64 α) ?x ?p
 case p=>(try delta R.a R.b R.c R.d T4.a T4.b T4.c T4.d);exact rfl
 case f=>exact fun x _=>x
def acc_add:Acc:=⟨ag_add,ap_add,fun α f t=>qa _ (qd _ (qd α f)) t⟩
def ag_baa (α:Type) (t:T64 α):α:=by
 refine(?f:(x:α)->x=t.b.a.a->α) ?x ?p
 case p=>(try delta R.a R.b R.c R.d T4.a T4.b T4.c T4.d);exact rfl
 case f=>exact fun x _=>x
def ap_baa (α:Type) (v:α) (t:T64 α):T64 α:=by
 refine(?f:(x:T64 α)->x=(T4.mk t.a (T4.mk (T4.mk v t.b.a.b t.b.a.c t.b.a.d) t.b.b t.b.c t.b.d) t.c t.d)->T64 α) ?x ?p
 case p=>(try delta R.a R.b R.c R.d T4.a T4.b T4.c T4.d);exact rfl
 case f=>exact fun x _=>x
def acc_baa:Acc:=⟨ag_baa,ap_baa,fun α f t=>qb _ (qa _ (qa α f)) t⟩
def ag_bab (α:Type) (t:T64 α):α:=by
 refine(?f:(x:α)->x=t.b.a.b->α) ?x ?p
 case p=>(try delta R.a R.b R.c R.d T4.a T4.b T4.c T4.d);exact rfl
 case f=>exact fun x _=>x
def ap_bab (α:Type) (v:α) (t:T64 α):T64 α:=by
 refine(?f:(x:T64 α)->x=(T4.mk t.a (T4.mk (T4.mk t.b.a.a v t.b.a.c t.b.a.d) t.b.b t.b.c t.b.d) t.c t.d)->T64 α) ?x ?p
 case p=>(try delta R.a R.b R.c R.d T4.a T4.b T4.c T4.d);exact rfl
 case f=>exact fun x _=>x
def acc_bab:Acc:=⟨ag_bab,ap_bab,fun α f t=>qb _ (qa _ (qb α f)) t⟩
def ag_bac (α:Type) (t:T64 α):α:=by
 refine(?f:(x:α)->x=t.b.a.c->α) ?x ?p
 case p=>(try delta R.a R.b R.c R.d T4.a T4.b T4.c T4.d);exact rfl
 case f=>exact fun x _=>x
def ap_bac (α:Type) (v:α) (t:T64 α):T64 α:=by
 refine(?f:(x:T64 α)->x=(T4.mk t.a (T4.mk (T4.mk t.b.a.a t.b.a.b v t.b.a.d) t.b.b t.b.c t.b.d) t.c t.d)->T64 α) ?x ?p
 case p=>(try delta R.a R.b R.c R.d T4.a T4.b T4.c T4.d);exact rfl
 case f=>exact fun x _=>x
def acc_bac:Acc:=⟨ag_bac,ap_bac,fun α f t=>qb _ (qa _ (qc α f)) t⟩
def ag_bad (α:Type) (t:T64 α):α:=by
 refine(?f:(x:α)->x=t.b.a.d->α) ?x ?p
 case p=>(try delta R.a R.b R.c R.d T4.a T4.b T4.c T4.d);exact rfl
 case f=>exact fun x _=>x
def ap_bad (α:Type) (v:α) (t:T64 α):T64 α:=by
 refine(?f:(x:T64 α)->x=(T4.mk t.a (T4.mk (T4.mk t.b.a.a t.b.a.b t.b.a.c v) t.b.b t.b.c t.b.d) t.c t.d)->T64 α) ?x ?p
 case p=>(try delta R.a R.b R.c R.d T4.a T4.b T4.c T4.d);exact rfl
 case f=>exact fun x _=>x
def acc_bad:Acc:=⟨ag_bad,ap_bad,fun α f t=>qb _ (qa _ (qd α f)) t⟩
def ag_bba (α:Type) (t:T64 α):α:=by
 refine(?f:(x:α)->x=t.b.b.a->α) ?x ?p
 case p=>(try delta R.a R.b R.c R.d T4.a T4.b T4.c T4.d);exact rfl
 case f=>exact fun x _=>x
def ap_bba (α:Type) (v:α) (t:T64 α):T64 α:=by
 refine(?f:(x:T64 α)->x=(T4.mk t.a (T4.mk t.b.a (T4.mk v t.b.b.b t.b.b.c t.b.b.d) t.b.c t.b.d) t.c t.d)->T64 α) ?x ?p
 case p=>(try delta R.a R.b R.c R.d T4.a T4.b T4.c T4.d);exact rfl
 case f=>exact fun x _=>x
def acc_bba:Acc:=⟨ag_bba,ap_bba,fun α f t=>qb _ (qb _ (qa α f)) t⟩
def ag_bbb (α:Type) (t:T64 α):α:=by
 refine(?f:(x:α)->x=t.b.b.b->α) ?x ?p
 case p=>(try delta R.a R.b R.c R.d T4.a T4.b T4.c T4.d);exact rfl
 case f=>exact fun x _=>x
def ap_bbb (α:Type) (v:α) (t:T64 α):T64 α:=by
 refine(?f:(x:T64 α)->x=(T4.mk t.a (T4.mk t.b.a (T4.mk t.b.b.a v t.b.b.c t.b.b.d) t.b.c t.b.d) t.c t.d)->T64 α) ?x ?p
 case p=>(try delta R.a R.b R.c R.d T4.a T4.b T4.c T4.d);exact rfl
 case f=>exact fun x _=>x
def acc_bbb:Acc:=⟨ag_bbb,ap_bbb,fun α f t=>qb _ (qb _ (qb α f)) t⟩
def ag_bbc (α:Type) (t:T64 α):α:=by
 refine(?f:(x:α)->x=t.b.b.c->α) ?x ?p
 case p=>(try delta R.a R.b R.c R.d T4.a T4.b T4.c T4.d);exact rfl
 case f=>exact fun x _=>x
def ap_bbc (α:Type) (v:α) (t:T64 α):T64 α:=by
 refine(?f:(x:T64 α)->x=(T4.mk t.a (T4.mk t.b.a (T4.mk t.b.b.a t.b.b.b v t.b.b.d) t.b.c t.b.d) t.c t.d)->T64 α) ?x ?p
 case p=>(try delta R.a R.b R.c R.d T4.a T4.b T4.c T4.d);exact rfl
 case f=>exact fun x _=>x
def acc_bbc:Acc:=⟨ag_bbc,ap_bbc,fun α f t=>qb _ (qb _ (qc α f)) t⟩
def ag_bbd (α:Type) (t:T64 α):α:=by
 refine(?f:(x:α)->x=t.b.b.d->α) ?x ?p
 case p=>(try delta R.a R.b R.c R.d T4.a T4.b T4.c T4.d);exact rfl
 case f=>exact fun x _=>x
def ap_bbd (α:Type) (v:α) (t:T64 α):T64 α:=by
 refine(?f:(x:T64 α)->x=(T4.mk t.a (T4.mk t.b.a (T4.mk t.b.b.a t.b.b.b t.b.b.c v) t.b.c t.b.d) t.c t.d)->T64 α) ?x ?p
 case p=>(try delta R.a R.b R.c R.d T4.a T4.b T4.c T4.d);exact rfl
 case f=>exact fun x _=>x
def acc_bbd:Acc:=⟨ag_bbd,ap_bbd,fun α f t=>qb _ (qb _ (qd α f)) t⟩
def ag_bca (α:Type) (t:T64 α):α:=by
 refine(?f:(x:α)->x=t.b.c.a->α) ?x ?p
 case p=>(try delta R.a R.b R.c R.d T4.a T4.b T4.c T4.d);exact rfl
 case f=>exact fun x _=>x
def ap_bca (α:Type) (v:α) (t:T64 α):T64 α:=by
 refine(?f:(x:T64 α)->x=(T4.mk t.a (T4.mk t.b.a t.b.b (T4.mk v t.b.c.b t.b.c.c t.b.c.d) t.b.d) t.c t.d)->T64 α) ?x ?p
 case p=>(try delta R.a R.b R.c R.d T4.a T4.b T4.c T4.d);exact rfl
 case f=>exact fun x _=>x
def acc_bca:Acc:=⟨ag_bca,ap_bca,fun α f t=>qb _ (qc _ (qa α f)) t⟩
def ag_bcb (α:Type) (t:T64 α):α:=by
 refine(?f:(x:α)->x=t.b.c.b->α) ?x ?p
 case p=>(try delta R.a R.b R.c R.d T4.a T4.b T4.c T4.d);exact rfl
 case f=>exact fun x _=>x
def ap_bcb (α:Type) (v:α) (t:T64 α):T64 α:=by
 refine(?f:(x:T64 α)->x=(T4.mk t.a (T4.mk t.b.a t.b.b (T4.mk t.b.c.a v t.b.c.c t.b.c.d) t.b.d) t.c t.d)->T64 α) ?x ?p
 case p=>(try delta R.a R.b R.c R.d T4.a T4.b T4.c T4.d);exact rfl
 case f=>exact fun x _=>x
def acc_bcb:Acc:=⟨ag_bcb,ap_bcb,fun α f t=>qb _ (qc _ (qb α f)) t⟩
def ag_bcc (α:Type) (t:T64 α):α:=by
 refine(?f:(x:α)->x=t.b.c.c->α) ?x ?p
 case p=>(try delta R.a R.b R.c R.d T4.a T4.b T4.c T4.d);exact rfl
 case f=>exact fun x _=>x
def ap_bcc (α:Type) (v:α) (t:T64 α):T64 α:=by
 refine(?f:(x:T64 α)->x=(T4.mk t.a (T4.mk t.b.a t.b.b (T4.mk t.b.c.a t.b.c.b v t.b.c.d) t.b.d) t.c t.d)->T64 α) ?x ?p
 case p=>(try delta R.a R.b R.c R.d T4.a T4.b T4.c T4.d);exact rfl
 case f=>exact fun x _=>x
def acc_bcc:Acc:=⟨ag_bcc,ap_bcc,fun α f t=>qb _ (qc _ (qc α f)) t⟩
def ag_bcd (α:Type) (t:T64 α):α:=by
 refine(?f:(x:α)->x=t.b.c.d->α) ?x ?p
 case p=>(try delta R.a R.b R.c R.d T4.a T4.b T4.c T4.d);exact rfl
 case f=>exact fun x _=>x
def ap_bcd (α:Type) (v:α) (t:T64 α):T64 α:=by
 refine(?f:(x:T64 α)->x=(T4.mk t.a (T4.mk t.b.a t.b.b (T4.mk t.b.c.a t.b.c.b t.b.c.c v) t.b.d) t.c t.d)->T64 α) ?x ?p
 case p=>(try delta R.a R.b R.c R.d T4.a T4.b T4.c T4.d);exact rfl
 case f=>exact fun x _=>x
def acc_bcd:Acc:=⟨ag_bcd,ap_bcd,fun α f t=>qb _ (qc _ (qd α f)) t⟩
def ag_bda (α:Type) (t:T64 α):α:=by
 refine(?f:(x:α)->x=t.b.d.a->α) ?x ?p
 case p=>(try delta R.a R.b R.c R.d T4.a T4.b T4.c T4.d);exact rfl
 case f=>exact fun x _=>x
def ap_bda (α:Type) (v:α) (t:T64 α):T64 α:=by
 refine(?f:(x:T64 α)->x=(T4.mk t.a (T4.mk t.b.a t.b.b t.b.c (T4.mk v t.b.d.b t.b.d.c t.b.d.d)) t.c t.d)->T64 α) ?x ?p
 case p=>(try delta R.a R.b R.c R.d T4.a T4.b T4.c T4.d);exact rfl
 case f=>exact fun x _=>x
def acc_bda:Acc:=⟨ag_bda,ap_bda,fun α f t=>qb _ (qd _ (qa α f)) t⟩
def ag_bdb (α:Type) (t:T64 α):α:=by
 refine(?f:(x:α)->x=t.b.d.b->α) ?x ?p
 case p=>(try delta R.a R.b R.c R.d T4.a T4.b T4.c T4.d);exact rfl
 case f=>exact fun x _=>x
def ap_bdb (α:Type) (v:α) (t:T64 α):T64 α:=by
 refine(?f:(x:T64 α)->x=(T4.mk t.a (T4.mk t.b.a t.b.b t.b.c (T4.mk t.b.d.a v t.b.d.c t.b.d.d)) t.c t.d)->T64 α) ?x ?p
 case p=>(try delta R.a R.b R.c R.d T4.a T4.b T4.c T4.d);exact rfl
 case f=>exact fun x _=>x
def acc_bdb:Acc:=⟨ag_bdb,ap_bdb,fun α f t=>qb _ (qd _ (qb α f)) t⟩
def ag_bdc (α:Type) (t:T64 α):α:=by
 refine(?f:(x:α)->x=t.b.d.c->α) ?x ?p
 case p=>(try delta R.a R.b R.c R.d T4.a T4.b T4.c T4.d);exact rfl
 case f=>exact fun x _=>x
def ap_bdc (α:Type) (v:α) (t:T64 α):T64 α:=by
 refine(?f:(x:T64 α)->x=(T4.mk t.a (T4.mk t.b.a t.b.b t.b.c (T4.mk t.b.d.a t.b.d.b v t.b.d.d)) t.c t.d)->T64 α) ?x ?p
 case p=>(try delta R.a R.b R.c R.d T4.a T4.b T4.c T4.d);exact rfl
 case f=>exact fun x _=>x
def acc_bdc:Acc:=⟨ag_bdc,ap_bdc,fun α f t=>qb _ (qd _ (qc α f)) t⟩
def ag_bdd (α:Type) (t:T64 α):α:=by
 refine(?f:(x:α)->x=t.b.d.d->α) ?x ?p
 case p=>(try delta R.a R.b R.c R.d T4.a T4.b T4.c T4.d);exact rfl
 case f=>exact fun x _=>x
def ap_bdd (α:Type) (v:α) (t:T64 α):T64 α:=by
 refine(?f:(x:T64 α)->x=(T4.mk t.a (T4.mk t.b.a t.b.b t.b.c (T4.mk t.b.d.a t.b.d.b t.b.d.c v)) t.c t.d)->T64 α) ?x ?p
 case p=>(try delta R.a R.b R.c R.d T4.a T4.b T4.c T4.d);exact rfl
 case f=>exact fun x _=>x
def acc_bdd:Acc:=⟨ag_bdd,ap_bdd,fun α f t=>qb _ (qd _ (qd α f)) t⟩
def ag_caa (α:Type) (t:T64 α):α:=by
 refine(?f:(x:α)->x=t.c.a.a->α) ?x ?p
 case p=>(try delta R.a R.b R.c R.d T4.a T4.b T4.c T4.d);exact rfl
 case f=>exact fun x _=>x
def ap_caa (α:Type) (v:α) (t:T64 α):T64 α:=by
 refine(?f:(x:T64 α)->x=(T4.mk t.a t.b (T4.mk (T4.mk v t.c.a.b t.c.a.c t.c.a.d) t.c.b t.c.c t.c.d) t.d)->T64 α) ?x ?p
 case p=>(try delta R.a R.b R.c R.d T4.a T4.b T4.c T4.d);exact rfl
 case f=>exact fun x _=>x
def acc_caa:Acc:=⟨ag_caa,ap_caa,fun α f t=>qc _ (qa _ (qa α f)) t⟩
def ag_cab (α:Type) (t:T64 α):α:=by
 refine(?f:(x:α)->x=t.c.a.b->α) ?x ?p
 case p=>(try delta R.a R.b R.c R.d T4.a T4.b T4.c T4.d);exact rfl
 case f=>exact fun x _=>x
def ap_cab (α:Type) (v:α) (t:T64 α):T64 α:=by
 refine(?f:(x:T64 α)->x=(T4.mk t.a t.b (T4.mk (T4.mk t.c.a.a v t.c.a.c t.c.a.d) t.c.b t.c.c t.c.d) t.d)->T64 α) ?x ?p
 case p=>(try delta R.a R.b R.c R.d T4.a T4.b T4.c T4.d);exact rfl
 case f=>exact fun x _=>x
def acc_cab:Acc:=⟨ag_cab,ap_cab,fun α f t=>qc _ (qa _ (qb α f)) t⟩
def ag_cac (α:Type) (t:T64 α):α:=by
 refine(?f:(x:α)->x=t.c.a.c->α) ?x ?p
 case p=>(try delta R.a R.b R.c R.d T4.a T4.b T4.c T4.d);exact rfl
 case f=>exact fun x _=>x
def ap_cac (α:Type) (v:α) (t:T64 α):T64 α:=by
 refine(?f:(x:T64 α)->x=(T4.mk t.a t.b (T4.mk (T4.mk t.c.a.a t.c.a.b v t.c.a.d) t.c.b t.c.c t.c.d) t.d)->T64 α) ?x ?p
 case p=>(try delta R.a R.b R.c R.d T4.a T4.b T4.c T4.d);exact rfl
 case f=>exact fun x _=>x
def acc_cac:Acc:=⟨ag_cac,ap_cac,fun α f t=>qc _ (qa _ (qc α f)) t⟩
def ag_cad (α:Type) (t:T64 α):α:=by
 refine(?f:(x:α)->x=t.c.a.d->α) ?x ?p
 case p=>(try delta R.a R.b R.c R.d T4.a T4.b T4.c T4.d);exact rfl
 case f=>exact fun x _=>x
def ap_cad (α:Type) (v:α) (t:T64 α):T64 α:=by
 refine(?f:(x:T64 α)->x=(T4.mk t.a t.b (T4.mk (T4.mk t.c.a.a t.c.a.b t.c.a.c v) t.c.b t.c.c t.c.d) t.d)->T64 α) ?x ?p
 case p=>(try delta R.a R.b R.c R.d T4.a T4.b T4.c T4.d);exact rfl
 case f=>exact fun x _=>x
def acc_cad:Acc:=⟨ag_cad,ap_cad,fun α f t=>qc _ (qa _ (qd α f)) t⟩
def ag_cba (α:Type) (t:T64 α):α:=by
 refine(?f:(x:α)->x=t.c.b.a->α) ?x ?p
 case p=>(try delta R.a R.b R.c R.d T4.a T4.b T4.c T4.d);exact rfl
 case f=>exact fun x _=>x
def ap_cba (α:Type) (v:α) (t:T64 α):T64 α:=by
 refine(?f:(x:T64 α)->x=(T4.mk t.a t.b (T4.mk t.c.a (T4.mk v t.c.b.b t.c.b.c t.c.b.d) t.c.c t.c.d) t.d)->T64 α) ?x ?p
 case p=>(try delta R.a R.b R.c R.d T4.a T4.b T4.c T4.d);exact rfl
 case f=>exact fun x _=>x
def acc_cba:Acc:=⟨ag_cba,ap_cba,fun α f t=>qc _ (qb _ (qa α f)) t⟩
def ag_cbb (α:Type) (t:T64 α):α:=by
 refine(?f:(x:α)->x=t.c.b.b->α) ?x ?p
 case p=>(try delta R.a R.b R.c R.d T4.a T4.b T4.c T4.d);exact rfl
 case f=>exact fun x _=>x
def ap_cbb (α:Type) (v:α) (t:T64 α):T64 α:=by
 refine(?f:(x:T64 α)->x=(T4.mk t.a t.b (T4.mk t.c.a (T4.mk t.c.b.a v t.c.b.c t.c.b.d) t.c.c t.c.d) t.d)->T64 α) ?x ?p
 case p=>(try delta R.a R.b R.c R.d T4.a T4.b T4.c T4.d);exact rfl
 case f=>exact fun x _=>x
def acc_cbb:Acc:=⟨ag_cbb,ap_cbb,fun α f t=>qc _ (qb _ (qb α f)) t⟩
def ag_cbc (α:Type) (t:T64 α):α:=by
 refine(?f:(x:α)->x=t.c.b.c->α) ?x ?p
 case p=>(try delta R.a R.b R.c R.d T4.a T4.b T4.c T4.d);exact rfl
 case f=>exact fun x _=>x
def ap_cbc (α:Type) (v:α) (t:T64 α):T64 α:=by
 refine(?f:(x:T64 α)->x=(T4.mk t.a t.b (T4.mk t.c.a (T4.mk t.c.b.a t.c.b.b v t.c.b.d) t.c.c t.c.d) t.d)->T64 α) ?x ?p
 case p=>(try delta R.a R.b R.c R.d T4.a T4.b T4.c T4.d);exact rfl
 case f=>exact fun x _=>x
def acc_cbc:Acc:=⟨ag_cbc,ap_cbc,fun α f t=>qc _ (qb _ (qc α f)) t⟩
def ag_cbd (α:Type) (t:T64 α):α:=by
 refine(?f:(x:α)->x=t.c.b.d->α) ?x ?p
 case p=>(try delta R.a R.b R.c R.d T4.a T4.b T4.c T4.d);exact rfl
 case f=>exact fun x _=>x
def ap_cbd (α:Type) (v:α) (t:T64 α):T64 α:=by
 refine(?f:(x:T64 α)->x=(T4.mk t.a t.b (T4.mk t.c.a (T4.mk t.c.b.a t.c.b.b t.c.b.c v) t.c.c t.c.d) t.d)->T64 α) ?x ?p
 case p=>(try delta R.a R.b R.c R.d T4.a T4.b T4.c T4.d);exact rfl
 case f=>exact fun x _=>x
def acc_cbd:Acc:=⟨ag_cbd,ap_cbd,fun α f t=>qc _ (qb _ (qd α f)) t⟩
def ag_cca (α:Type) (t:T64 α):α:=by
 refine(?f:(x:α)->x=t.c.c.a->α) ?x ?p
 case p=>(try delta R.a R.b R.c R.d T4.a T4.b T4.c T4.d);exact rfl
 case f=>exact fun x _=>x
def ap_cca (α:Type) (v:α) (t:T64 α):T64 α:=by
 refine(?f:(x:T64 α)->x=(T4.mk t.a t.b (T4.mk t.c.a t.c.b (T4.mk v t.c.c.b t.c.c.c t.c.c.d) t.c.d) t.d)->T64 α) ?x ?p
 case p=>(try delta R.a R.b R.c R.d T4.a T4.b T4.c T4.d);exact rfl
 case f=>exact fun x _=>x
def acc_cca:Acc:=⟨ag_cca,ap_cca,fun α f t=>qc _ (qc _ (qa α f)) t⟩
def ag_ccb (α:Type) (t:T64 α):α:=by
 refine(?f:(x:α)->x=t.c.c.b->α) ?x ?p
 case p=>(try delta R.a R.b R.c R.d T4.a T4.b T4.c T4.d);exact rfl
 case f=>exact fun x _=>x
def ap_ccb (α:Type) (v:α) (t:T64 α):T64 α:=by
 refine(?f:(x:T64 α)->x=(T4.mk t.a t.b (T4.mk t.c.a t.c.b (T4.mk t.c.c.a v t.c.c.c t.c.c.d) t.c.d) t.d)->T64 α) ?x ?p
 case p=>(try delta R.a R.b R.c R.d T4.a T4.b T4.c T4.d);exact rfl
 case f=>exact fun x _=>x
def acc_ccb:Acc:=⟨ag_ccb,ap_ccb,fun α f t=>qc _ (qc _ (qb α f)) t⟩
def ag_ccc (α:Type) (t:T64 α):α:=by
 refine(?f:(x:α)->x=t.c.c.c->α) ?x ?p
 case p=>(try delta R.a R.b R.c R.d T4.a T4.b T4.c T4.d);exact rfl
 case f=>exact fun x _=>x
def ap_ccc (α:Type) (v:α) (t:T64 α):T64 α:=by
 refine(?f:(x:T64 α)->x=(T4.mk t.a t.b (T4.mk t.c.a t.c.b (T4.mk t.c.c.a t.c.c.b v t.c.c.d) t.c.d) t.d)->T64 α) ?x ?p
 case p=>(try delta R.a R.b R.c R.d T4.a T4.b T4.c T4.d);exact rfl
 case f=>exact fun x _=>x
def acc_ccc:Acc:=⟨ag_ccc,ap_ccc,fun α f t=>qc _ (qc _ (qc α f)) t⟩
def ag_ccd (α:Type) (t:T64 α):α:=by
 refine(?f:(x:α)->x=t.c.c.d->α) ?x ?p
 case p=>(try delta R.a R.b R.c R.d T4.a T4.b T4.c T4.d);exact rfl
 case f=>exact fun x _=>x
def ap_ccd (α:Type) (v:α) (t:T64 α):T64 α:=by
 refine(?f:(x:T64 α)->x=(T4.mk t.a t.b (T4.mk t.c.a t.c.b (T4.mk t.c.c.a t.c.c.b t.c.c.c v) t.c.d) t.d)->T64 α) ?x ?p
 case p=>(try delta R.a R.b R.c R.d T4.a T4.b T4.c T4.d);exact rfl
 case f=>exact fun x _=>x
def acc_ccd:Acc:=⟨ag_ccd,ap_ccd,fun α f t=>qc _ (qc _ (qd α f)) t⟩
def ag_cda (α:Type) (t:T64 α):α:=by
 refine(?f:(x:α)->x=t.c.d.a->α) ?x ?p
 case p=>(try delta R.a R.b R.c R.d T4.a T4.b T4.c T4.d);exact rfl
 case f=>exact fun x _=>x
def ap_cda (α:Type) (v:α) (t:T64 α):T64 α:=by
 refine(?f:(x:T64 α)->x=(T4.mk t.a t.b (T4.mk t.c.a t.c.b t.c.c (T4.mk v t.c.d.b t.c.d.c t.c.d.d)) t.d)->T64 α) ?x ?p
 case p=>(try delta R.a R.b R.c R.d T4.a T4.b T4.c T4.d);exact rfl
 case f=>exact fun x _=>x
def acc_cda:Acc:=⟨ag_cda,ap_cda,fun α f t=>qc _ (qd _ (qa α f)) t⟩
def ag_cdb (α:Type) (t:T64 α):α:=by
 refine(?f:(x:α)->x=t.c.d.b->α) ?x ?p
 case p=>(try delta R.a R.b R.c R.d T4.a T4.b T4.c T4.d);exact rfl
 case f=>exact fun x _=>x
def ap_cdb (α:Type) (v:α) (t:T64 α):T64 α:=by
 refine(?f:(x:T64 α)->x=(T4.mk t.a t.b (T4.mk t.c.a t.c.b t.c.c (T4.mk t.c.d.a v t.c.d.c t.c.d.d)) t.d)->T64 α) ?x ?p
 case p=>(try delta R.a R.b R.c R.d T4.a T4.b T4.c T4.d);exact rfl
 case f=>exact fun x _=>x
def acc_cdb:Acc:=⟨ag_cdb,ap_cdb,fun α f t=>qc _ (qd _ (qb α f)) t⟩
def ag_cdc (α:Type) (t:T64 α):α:=by
 refine(?f:(x:α)->x=t.c.d.c->α) ?x ?p
 case p=>(try delta R.a R.b R.c R.d T4.a T4.b T4.c T4.d);exact rfl
 case f=>exact fun x _=>x
def ap_cdc (α:Type) (v:α) (t:T64 α):T64 α:=by
 refine(?f:(x:T64 α)->x=(T4.mk t.a t.b (T4.mk t.c.a t.c.b t.c.c (T4.mk t.c.d.a t.c.d.b v t.c.d.d)) t.d)->T64 α) ?x ?p
 case p=>(try delta R.a R.b R.c R.d T4.a T4.b T4.c T4.d);exact rfl
 case f=>exact fun x _=>x
def acc_cdc:Acc:=⟨ag_cdc,ap_cdc,fun α f t=>qc _ (qd _ (qc α f)) t⟩
def ag_cdd (α:Type) (t:T64 α):α:=by
 refine(?f:(x:α)->x=t.c.d.d->α) ?x ?p
 case p=>(try delta R.a R.b R.c R.d T4.a T4.b T4.c T4.d);exact rfl
 case f=>exact fun x _=>x
def ap_cdd (α:Type) (v:α) (t:T64 α):T64 α:=by
 refine(?f:(x:T64 α)->x=(T4.mk t.a t.b (T4.mk t.c.a t.c.b t.c.c (T4.mk t.c.d.a t.c.d.b t.c.d.c v)) t.d)->T64 α) ?x ?p
 case p=>(try delta R.a R.b R.c R.d T4.a T4.b T4.c T4.d);exact rfl
 case f=>exact fun x _=>x
def acc_cdd:Acc:=⟨ag_cdd,ap_cdd,fun α f t=>qc _ (qd _ (qd α f)) t⟩
def ag_daa (α:Type) (t:T64 α):α:=by
 refine(?f:(x:α)->x=t.d.a.a->α) ?x ?p
 case p=>(try delta R.a R.b R.c R.d T4.a T4.b T4.c T4.d);exact rfl
 case f=>exact fun x _=>x
def ap_daa (α:Type) (v:α) (t:T64 α):T64 α:=by
 refine(?f:(x:T64 α)->x=(T4.mk t.a t.b t.c (T4.mk (T4.mk v t.d.a.b t.d.a.c t.d.a.d) t.d.b t.d.c t.d.d))->T64 α) ?x ?p
 case p=>(try delta R.a R.b R.c R.d T4.a T4.b T4.c T4.d);exact rfl
 case f=>exact fun x _=>x
def acc_daa:Acc:=⟨ag_daa,ap_daa,fun α f t=>qd _ (qa _ (qa α f)) t⟩
def ag_dab (α:Type) (t:T64 α):α:=by
 refine(?f:(x:α)->x=t.d.a.b->α) ?x ?p
 case p=>(try delta R.a R.b R.c R.d T4.a T4.b T4.c T4.d);exact rfl
 case f=>exact fun x _=>x
def ap_dab (α:Type) (v:α) (t:T64 α):T64 α:=by
 refine(?f:(x:T64 α)->x=(T4.mk t.a t.b t.c (T4.mk (T4.mk t.d.a.a v t.d.a.c t.d.a.d) t.d.b t.d.c t.d.d))->T64 α) ?x ?p
 case p=>(try delta R.a R.b R.c R.d T4.a T4.b T4.c T4.d);exact rfl
 case f=>exact fun x _=>x
def acc_dab:Acc:=⟨ag_dab,ap_dab,fun α f t=>qd _ (qa _ (qb α f)) t⟩
def ag_dac (α:Type) (t:T64 α):α:=by
 refine(?f:(x:α)->x=t.d.a.c->α) ?x ?p
 case p=>(try delta R.a R.b R.c R.d T4.a T4.b T4.c T4.d);exact rfl
 case f=>exact fun x _=>x
def ap_dac (α:Type) (v:α) (t:T64 α):T64 α:=by
 refine(?f:(x:T64 α)->x=(T4.mk t.a t.b t.c (T4.mk (T4.mk t.d.a.a t.d.a.b v t.d.a.d) t.d.b t.d.c t.d.d))->T64 α) ?x ?p
 case p=>(try delta R.a R.b R.c R.d T4.a T4.b T4.c T4.d);exact rfl
 case f=>exact fun x _=>x
def acc_dac:Acc:=⟨ag_dac,ap_dac,fun α f t=>qd _ (qa _ (qc α f)) t⟩
def ag_dad (α:Type) (t:T64 α):α:=by
 refine(?f:(x:α)->x=t.d.a.d->α) ?x ?p
 case p=>(try delta R.a R.b R.c R.d T4.a T4.b T4.c T4.d);exact rfl
 case f=>exact fun x _=>x
def ap_dad (α:Type) (v:α) (t:T64 α):T64 α:=by
 refine(?f:(x:T64 α)->x=(T4.mk t.a t.b t.c (T4.mk (T4.mk t.d.a.a t.d.a.b t.d.a.c v) t.d.b t.d.c t.d.d))->T64 α) ?x ?p
 case p=>(try delta R.a R.b R.c R.d T4.a T4.b T4.c T4.d);exact rfl
 case f=>exact fun x _=>x
def acc_dad:Acc:=⟨ag_dad,ap_dad,fun α f t=>qd _ (qa _ (qd α f)) t⟩
def ag_dba (α:Type) (t:T64 α):α:=by
 refine(?f:(x:α)->x=t.d.b.a->α) ?x ?p
 case p=>(try delta R.a R.b R.c R.d T4.a T4.b T4.c T4.d);exact rfl
 case f=>exact fun x _=>x
def ap_dba (α:Type) (v:α) (t:T64 α):T64 α:=by
 refine(?f:(x:T64 α)->x=(T4.mk t.a t.b t.c (T4.mk t.d.a (T4.mk v t.d.b.b t.d.b.c t.d.b.d) t.d.c t.d.d))->T64 α) ?x ?p
 case p=>(try delta R.a R.b R.c R.d T4.a T4.b T4.c T4.d);exact rfl
 case f=>exact fun x _=>x
def acc_dba:Acc:=⟨ag_dba,ap_dba,fun α f t=>qd _ (qb _ (qa α f)) t⟩
def ag_dbb (α:Type) (t:T64 α):α:=by
 refine(?f:(x:α)->x=t.d.b.b->α) ?x ?p
 case p=>(try delta R.a R.b R.c R.d T4.a T4.b T4.c T4.d);exact rfl
 case f=>exact fun x _=>x
def ap_dbb (α:Type) (v:α) (t:T64 α):T64 α:=by
 refine(?f:(x:T64 α)->x=(T4.mk t.a t.b t.c (T4.mk t.d.a (T4.mk t.d.b.a v t.d.b.c t.d.b.d) t.d.c t.d.d))->T64 α) ?x ?p
 case p=>(try delta R.a R.b R.c R.d T4.a T4.b T4.c T4.d);exact rfl
 case f=>exact fun x _=>x
def acc_dbb:Acc:=⟨ag_dbb,ap_dbb,fun α f t=>qd _ (qb _ (qb α f)) t⟩
def ag_dbc (α:Type) (t:T64 α):α:=by
 refine(?f:(x:α)->x=t.d.b.c->α) ?x ?p
 case p=>(try delta R.a R.b R.c R.d T4.a T4.b T4.c T4.d);exact rfl
 case f=>exact fun x _=>x
def ap_dbc (α:Type) (v:α) (t:T64 α):T64 α:=by
 refine(?f:(x:T64 α)->x=(T4.mk t.a t.b t.c (T4.mk t.d.a (T4.mk t.d.b.a t.d.b.b v t.d.b.d) t.d.c t.d.d))->T64 α) ?x ?p
 case p=>(try delta R.a R.b R.c R.d T4.a T4.b T4.c T4.d);exact rfl
 case f=>exact fun x _=>x
def acc_dbc:Acc:=⟨ag_dbc,ap_dbc,fun α f t=>qd _ (qb _ (qc α f)) t⟩
def ag_dbd (α:Type) (t:T64 α):α:=by
 refine(?f:(x:α)->x=t.d.b.d->α) ?x ?p
 case p=>(try delta R.a R.b R.c R.d T4.a T4.b T4.c T4.d);exact rfl
 case f=>exact fun x _=>x
def ap_dbd (α:Type) (v:α) (t:T64 α):T64 α:=by
 refine(?f:(x:T64 α)->x=(T4.mk t.a t.b t.c (T4.mk t.d.a (T4.mk t.d.b.a t.d.b.b t.d.b.c v) t.d.c t.d.d))->T64 α) ?x ?p
 case p=>(try delta R.a R.b R.c R.d T4.a T4.b T4.c T4.d);exact rfl
 case f=>exact fun x _=>x
def acc_dbd:Acc:=⟨ag_dbd,ap_dbd,fun α f t=>qd _ (qb _ (qd α f)) t⟩
def ag_dca (α:Type) (t:T64 α):α:=by
 refine(?f:(x:α)->x=t.d.c.a->α) ?x ?p
 case p=>(try delta R.a R.b R.c R.d T4.a T4.b T4.c T4.d);exact rfl
 case f=>exact fun x _=>x
def ap_dca (α:Type) (v:α) (t:T64 α):T64 α:=by
 refine(?f:(x:T64 α)->x=(T4.mk t.a t.b t.c (T4.mk t.d.a t.d.b (T4.mk v t.d.c.b t.d.c.c t.d.c.d) t.d.d))->T64 α) ?x ?p
 case p=>(try delta R.a R.b R.c R.d T4.a T4.b T4.c T4.d);exact rfl
 case f=>exact fun x _=>x
def acc_dca:Acc:=⟨ag_dca,ap_dca,fun α f t=>qd _ (qc _ (qa α f)) t⟩
def ag_dcb (α:Type) (t:T64 α):α:=by
 refine(?f:(x:α)->x=t.d.c.b->α) ?x ?p
 case p=>(try delta R.a R.b R.c R.d T4.a T4.b T4.c T4.d);exact rfl
 case f=>exact fun x _=>x
def ap_dcb (α:Type) (v:α) (t:T64 α):T64 α:=by
 refine(?f:(x:T64 α)->x=(T4.mk t.a t.b t.c (T4.mk t.d.a t.d.b (T4.mk t.d.c.a v t.d.c.c t.d.c.d) t.d.d))->T64 α) ?x ?p
 case p=>(try delta R.a R.b R.c R.d T4.a T4.b T4.c T4.d);exact rfl
 case f=>exact fun x _=>x
def acc_dcb:Acc:=⟨ag_dcb,ap_dcb,fun α f t=>qd _ (qc _ (qb α f)) t⟩
def ag_dcc (α:Type) (t:T64 α):α:=by
 refine(?f:(x:α)->x=t.d.c.c->α) ?x ?p
 case p=>(try delta R.a R.b R.c R.d T4.a T4.b T4.c T4.d);exact rfl
 case f=>exact fun x _=>x
def ap_dcc (α:Type) (v:α) (t:T64 α):T64 α:=by
 refine(?f:(x:T64 α)->x=(T4.mk t.a t.b t.c (T4.mk t.d.a t.d.b (T4.mk t.d.c.a t.d.c.b v t.d.c.d) t.d.d))->T64 α) ?x ?p
 case p=>(try delta R.a R.b R.c R.d T4.a T4.b T4.c T4.d);exact rfl
 case f=>exact fun x _=>x
def acc_dcc:Acc:=⟨ag_dcc,ap_dcc,fun α f t=>qd _ (qc _ (qc α f)) t⟩
def ag_dcd (α:Type) (t:T64 α):α:=by
 refine(?f:(x:α)->x=t.d.c.d->α) ?x ?p
 case p=>(try delta R.a R.b R.c R.d T4.a T4.b T4.c T4.d);exact rfl
 case f=>exact fun x _=>x
def ap_dcd (α:Type) (v:α) (t:T64 α):T64 α:=by
 refine(?f:(x:T64 α)->x=(T4.mk t.a t.b t.c (T4.mk t.d.a t.d.b (T4.mk t.d.c.a t.d.c.b t.d.c.c v) t.d.d))->T64 α) ?x ?p
 case p=>(try delta R.a R.b R.c R.d T4.a T4.b T4.c T4.d);exact rfl
 case f=>exact fun x _=>x
def acc_dcd:Acc:=⟨ag_dcd,ap_dcd,fun α f t=>qd _ (qc _ (qd α f)) t⟩
def ag_dda (α:Type) (t:T64 α):α:=by
 refine(?f:(x:α)->x=t.d.d.a->α) ?x ?p
 case p=>(try delta R.a R.b R.c R.d T4.a T4.b T4.c T4.d);exact rfl
 case f=>exact fun x _=>x
def ap_dda (α:Type) (v:α) (t:T64 α):T64 α:=by
 refine(?f:(x:T64 α)->x=(T4.mk t.a t.b t.c (T4.mk t.d.a t.d.b t.d.c (T4.mk v t.d.d.b t.d.d.c t.d.d.d)))->T64 α) ?x ?p
 case p=>(try delta R.a R.b R.c R.d T4.a T4.b T4.c T4.d);exact rfl
 case f=>exact fun x _=>x
def acc_dda:Acc:=⟨ag_dda,ap_dda,fun α f t=>qd _ (qd _ (qa α f)) t⟩
def ag_ddb (α:Type) (t:T64 α):α:=by
 refine(?f:(x:α)->x=t.d.d.b->α) ?x ?p
 case p=>(try delta R.a R.b R.c R.d T4.a T4.b T4.c T4.d);exact rfl
 case f=>exact fun x _=>x
def ap_ddb (α:Type) (v:α) (t:T64 α):T64 α:=by
 refine(?f:(x:T64 α)->x=(T4.mk t.a t.b t.c (T4.mk t.d.a t.d.b t.d.c (T4.mk t.d.d.a v t.d.d.c t.d.d.d)))->T64 α) ?x ?p
 case p=>(try delta R.a R.b R.c R.d T4.a T4.b T4.c T4.d);exact rfl
 case f=>exact fun x _=>x
def acc_ddb:Acc:=⟨ag_ddb,ap_ddb,fun α f t=>qd _ (qd _ (qb α f)) t⟩
def ag_ddc (α:Type) (t:T64 α):α:=by
 refine(?f:(x:α)->x=t.d.d.c->α) ?x ?p
 case p=>(try delta R.a R.b R.c R.d T4.a T4.b T4.c T4.d);exact rfl
 case f=>exact fun x _=>x
def ap_ddc (α:Type) (v:α) (t:T64 α):T64 α:=by
 refine(?f:(x:T64 α)->x=(T4.mk t.a t.b t.c (T4.mk t.d.a t.d.b t.d.c (T4.mk t.d.d.a t.d.d.b v t.d.d.d)))->T64 α) ?x ?p
 case p=>(try delta R.a R.b R.c R.d T4.a T4.b T4.c T4.d);exact rfl
 case f=>exact fun x _=>x
def acc_ddc:Acc:=⟨ag_ddc,ap_ddc,fun α f t=>qd _ (qd _ (qc α f)) t⟩
def ag_ddd (α:Type) (t:T64 α):α:=by
 refine(?f:(x:α)->x=t.d.d.d->α) ?x ?p
 case p=>(try delta R.a R.b R.c R.d T4.a T4.b T4.c T4.d);exact rfl
 case f=>exact fun x _=>x
def ap_ddd (α:Type) (v:α) (t:T64 α):T64 α:=by
 refine(?f:(x:T64 α)->x=(T4.mk t.a t.b t.c (T4.mk t.d.a t.d.b t.d.c (T4.mk t.d.d.a t.d.d.b t.d.d.c v)))->T64 α) ?x ?p
 case p=>(try delta R.a R.b R.c R.d T4.a T4.b T4.c T4.d);exact rfl
 case f=>exact fun x _=>x
def acc_ddd:Acc:=⟨ag_ddd,ap_ddd,fun α f t=>qd _ (qd _ (qd α f)) t⟩
def g_ra (α:Type) (t:R α):α:=by
 refine(?f:(x:α)->x=t.a.a->α) ?x ?p
 case p=>(try delta R.a R.b R.c R.d T4.a T4.b T4.c T4.d);exact rfl
 case f=>exact fun x _=>x
def p_ra (α:Type) (v:α) (t:R α):R α:=by
 refine(?f:(x:R α)->x=(R.mk (T4.mk v t.a.b t.a.c t.a.d) t.b t.c t.d)->R α) ?x ?p
 case p=>(try delta R.a R.b R.c R.d T4.a T4.b T4.c T4.d);exact rfl
 case f=>exact fun x _=>x
def rac_ra:Rac:=⟨g_ra,p_ra,fun α f t=>qRa (qa α f) t⟩
def g_rb (α:Type) (t:R α):α:=by
 refine(?f:(x:α)->x=t.a.b->α) ?x ?p
 case p=>(try delta R.a R.b R.c R.d T4.a T4.b T4.c T4.d);exact rfl
 case f=>exact fun x _=>x
def p_rb (α:Type) (v:α) (t:R α):R α:=by
 refine(?f:(x:R α)->x=(R.mk (T4.mk t.a.a v t.a.c t.a.d) t.b t.c t.d)->R α) ?x ?p
 case p=>(try delta R.a R.b R.c R.d T4.a T4.b T4.c T4.d);exact rfl
 case f=>exact fun x _=>x
def rac_rb:Rac:=⟨g_rb,p_rb,fun α f t=>qRa (qb α f) t⟩
def g_rc (α:Type) (t:R α):α:=by
 refine(?f:(x:α)->x=t.a.c->α) ?x ?p
 case p=>(try delta R.a R.b R.c R.d T4.a T4.b T4.c T4.d);exact rfl
 case f=>exact fun x _=>x
def p_rc (α:Type) (v:α) (t:R α):R α:=by
 refine(?f:(x:R α)->x=(R.mk (T4.mk t.a.a t.a.b v t.a.d) t.b t.c t.d)->R α) ?x ?p
 case p=>(try delta R.a R.b R.c R.d T4.a T4.b T4.c T4.d);exact rfl
 case f=>exact fun x _=>x
def rac_rc:Rac:=⟨g_rc,p_rc,fun α f t=>qRa (qc α f) t⟩
def g_rd (α:Type) (t:R α):α:=by
 refine(?f:(x:α)->x=t.a.d->α) ?x ?p
 case p=>(try delta R.a R.b R.c R.d T4.a T4.b T4.c T4.d);exact rfl
 case f=>exact fun x _=>x
def p_rd (α:Type) (v:α) (t:R α):R α:=by
 refine(?f:(x:R α)->x=(R.mk (T4.mk t.a.a t.a.b t.a.c v) t.b t.c t.d)->R α) ?x ?p
 case p=>(try delta R.a R.b R.c R.d T4.a T4.b T4.c T4.d);exact rfl
 case f=>exact fun x _=>x
def rac_rd:Rac:=⟨g_rd,p_rd,fun α f t=>qRa (qd α f) t⟩
def g_raa (α:Type) (t:R α):α:=by
 refine(?f:(x:α)->x=t.b.a.a->α) ?x ?p
 case p=>(try delta R.a R.b R.c R.d T4.a T4.b T4.c T4.d);exact rfl
 case f=>exact fun x _=>x
def p_raa (α:Type) (v:α) (t:R α):R α:=by
 refine(?f:(x:R α)->x=(R.mk t.a (T4.mk (T4.mk v t.b.a.b t.b.a.c t.b.a.d) t.b.b t.b.c t.b.d) t.c t.d)->R α) ?x ?p
 case p=>(try delta R.a R.b R.c R.d T4.a T4.b T4.c T4.d);exact rfl
 case f=>exact fun x _=>x
def rac_raa:Rac:=⟨g_raa,p_raa,fun α f t=>qRb (qa _ (qa α f)) t⟩
def g_rab (α:Type) (t:R α):α:=by
 refine(?f:(x:α)->x=t.b.a.b->α) ?x ?p
 case p=>(try delta R.a R.b R.c R.d T4.a T4.b T4.c T4.d);exact rfl
 case f=>exact fun x _=>x
def p_rab (α:Type) (v:α) (t:R α):R α:=by
 refine(?f:(x:R α)->x=(R.mk t.a (T4.mk (T4.mk t.b.a.a v t.b.a.c t.b.a.d) t.b.b t.b.c t.b.d) t.c t.d)->R α) ?x ?p
 case p=>(try delta R.a R.b R.c R.d T4.a T4.b T4.c T4.d);exact rfl
 case f=>exact fun x _=>x
def rac_rab:Rac:=⟨g_rab,p_rab,fun α f t=>qRb (qa _ (qb α f)) t⟩
def g_rac (α:Type) (t:R α):α:=by
 refine(?f:(x:α)->x=t.b.a.c->α) ?x ?p
 case p=>(try delta R.a R.b R.c R.d T4.a T4.b T4.c T4.d);exact rfl
 case f=>exact fun x _=>x
def p_rac (α:Type) (v:α) (t:R α):R α:=by
 refine(?f:(x:R α)->x=(R.mk t.a (T4.mk (T4.mk t.b.a.a t.b.a.b v t.b.a.d) t.b.b t.b.c t.b.d) t.c t.d)->R α) ?x ?p
 case p=>(try delta R.a R.b R.c R.d T4.a T4.b T4.c T4.d);exact rfl
 case f=>exact fun x _=>x
def rac_rac:Rac:=⟨g_rac,p_rac,fun α f t=>qRb (qa _ (qc α f)) t⟩
def g_rad (α:Type) (t:R α):α:=by
 refine(?f:(x:α)->x=t.b.a.d->α) ?x ?p
 case p=>(try delta R.a R.b R.c R.d T4.a T4.b T4.c T4.d);exact rfl
 case f=>exact fun x _=>x
def p_rad (α:Type) (v:α) (t:R α):R α:=by
 refine(?f:(x:R α)->x=(R.mk t.a (T4.mk (T4.mk t.b.a.a t.b.a.b t.b.a.c v) t.b.b t.b.c t.b.d) t.c t.d)->R α) ?x ?p
 case p=>(try delta R.a R.b R.c R.d T4.a T4.b T4.c T4.d);exact rfl
 case f=>exact fun x _=>x
def rac_rad:Rac:=⟨g_rad,p_rad,fun α f t=>qRb (qa _ (qd α f)) t⟩
def g_rba (α:Type) (t:R α):α:=by
 refine(?f:(x:α)->x=t.b.b.a->α) ?x ?p
 case p=>(try delta R.a R.b R.c R.d T4.a T4.b T4.c T4.d);exact rfl
 case f=>exact fun x _=>x
def p_rba (α:Type) (v:α) (t:R α):R α:=by
 refine(?f:(x:R α)->x=(R.mk t.a (T4.mk t.b.a (T4.mk v t.b.b.b t.b.b.c t.b.b.d) t.b.c t.b.d) t.c t.d)->R α) ?x ?p
 case p=>(try delta R.a R.b R.c R.d T4.a T4.b T4.c T4.d);exact rfl
 case f=>exact fun x _=>x
def rac_rba:Rac:=⟨g_rba,p_rba,fun α f t=>qRb (qb _ (qa α f)) t⟩
def g_rbb (α:Type) (t:R α):α:=by
 refine(?f:(x:α)->x=t.b.b.b->α) ?x ?p
 case p=>(try delta R.a R.b R.c R.d T4.a T4.b T4.c T4.d);exact rfl
 case f=>exact fun x _=>x
def p_rbb (α:Type) (v:α) (t:R α):R α:=by
 refine(?f:(x:R α)->x=(R.mk t.a (T4.mk t.b.a (T4.mk t.b.b.a v t.b.b.c t.b.b.d) t.b.c t.b.d) t.c t.d)->R α) ?x ?p
 case p=>(try delta R.a R.b R.c R.d T4.a T4.b T4.c T4.d);exact rfl
 case f=>exact fun x _=>x
def rac_rbb:Rac:=⟨g_rbb,p_rbb,fun α f t=>qRb (qb _ (qb α f)) t⟩
def g_rbc (α:Type) (t:R α):α:=by
 refine(?f:(x:α)->x=t.b.b.c->α) ?x ?p
 case p=>(try delta R.a R.b R.c R.d T4.a T4.b T4.c T4.d);exact rfl
 case f=>exact fun x _=>x
def p_rbc (α:Type) (v:α) (t:R α):R α:=by
 refine(?f:(x:R α)->x=(R.mk t.a (T4.mk t.b.a (T4.mk t.b.b.a t.b.b.b v t.b.b.d) t.b.c t.b.d) t.c t.d)->R α) ?x ?p
 case p=>(try delta R.a R.b R.c R.d T4.a T4.b T4.c T4.d);exact rfl
 case f=>exact fun x _=>x
def rac_rbc:Rac:=⟨g_rbc,p_rbc,fun α f t=>qRb (qb _ (qc α f)) t⟩
def g_rbd (α:Type) (t:R α):α:=by
 refine(?f:(x:α)->x=t.b.b.d->α) ?x ?p
 case p=>(try delta R.a R.b R.c R.d T4.a T4.b T4.c T4.d);exact rfl
 case f=>exact fun x _=>x
def p_rbd (α:Type) (v:α) (t:R α):R α:=by
 refine(?f:(x:R α)->x=(R.mk t.a (T4.mk t.b.a (T4.mk t.b.b.a t.b.b.b t.b.b.c v) t.b.c t.b.d) t.c t.d)->R α) ?x ?p
 case p=>(try delta R.a R.b R.c R.d T4.a T4.b T4.c T4.d);exact rfl
 case f=>exact fun x _=>x
def rac_rbd:Rac:=⟨g_rbd,p_rbd,fun α f t=>qRb (qb _ (qd α f)) t⟩
def g_rca (α:Type) (t:R α):α:=by
 refine(?f:(x:α)->x=t.b.c.a->α) ?x ?p
 case p=>(try delta R.a R.b R.c R.d T4.a T4.b T4.c T4.d);exact rfl
 case f=>exact fun x _=>x
def p_rca (α:Type) (v:α) (t:R α):R α:=by
 refine(?f:(x:R α)->x=(R.mk t.a (T4.mk t.b.a t.b.b (T4.mk v t.b.c.b t.b.c.c t.b.c.d) t.b.d) t.c t.d)->R α) ?x ?p
 case p=>(try delta R.a R.b R.c R.d T4.a T4.b T4.c T4.d);exact rfl
 case f=>exact fun x _=>x
def rac_rca:Rac:=⟨g_rca,p_rca,fun α f t=>qRb (qc _ (qa α f)) t⟩
def g_rcb (α:Type) (t:R α):α:=by
 refine(?f:(x:α)->x=t.b.c.b->α) ?x ?p
 case p=>(try delta R.a R.b R.c R.d T4.a T4.b T4.c T4.d);exact rfl
 case f=>exact fun x _=>x
def p_rcb (α:Type) (v:α) (t:R α):R α:=by
 refine(?f:(x:R α)->x=(R.mk t.a (T4.mk t.b.a t.b.b (T4.mk t.b.c.a v t.b.c.c t.b.c.d) t.b.d) t.c t.d)->R α) ?x ?p
 case p=>(try delta R.a R.b R.c R.d T4.a T4.b T4.c T4.d);exact rfl
 case f=>exact fun x _=>x
def rac_rcb:Rac:=⟨g_rcb,p_rcb,fun α f t=>qRb (qc _ (qb α f)) t⟩
def g_rcc (α:Type) (t:R α):α:=by
 refine(?f:(x:α)->x=t.b.c.c->α) ?x ?p
 case p=>(try delta R.a R.b R.c R.d T4.a T4.b T4.c T4.d);exact rfl
 case f=>exact fun x _=>x
def p_rcc (α:Type) (v:α) (t:R α):R α:=by
 refine(?f:(x:R α)->x=(R.mk t.a (T4.mk t.b.a t.b.b (T4.mk t.b.c.a t.b.c.b v t.b.c.d) t.b.d) t.c t.d)->R α) ?x ?p
 case p=>(try delta R.a R.b R.c R.d T4.a T4.b T4.c T4.d);exact rfl
 case f=>exact fun x _=>x
def rac_rcc:Rac:=⟨g_rcc,p_rcc,fun α f t=>qRb (qc _ (qc α f)) t⟩
def g_rcd (α:Type) (t:R α):α:=by
 refine(?f:(x:α)->x=t.b.c.d->α) ?x ?p
 case p=>(try delta R.a R.b R.c R.d T4.a T4.b T4.c T4.d);exact rfl
 case f=>exact fun x _=>x
def p_rcd (α:Type) (v:α) (t:R α):R α:=by
 refine(?f:(x:R α)->x=(R.mk t.a (T4.mk t.b.a t.b.b (T4.mk t.b.c.a t.b.c.b t.b.c.c v) t.b.d) t.c t.d)->R α) ?x ?p
 case p=>(try delta R.a R.b R.c R.d T4.a T4.b T4.c T4.d);exact rfl
 case f=>exact fun x _=>x
def rac_rcd:Rac:=⟨g_rcd,p_rcd,fun α f t=>qRb (qc _ (qd α f)) t⟩
def g_rda (α:Type) (t:R α):α:=by
 refine(?f:(x:α)->x=t.b.d.a->α) ?x ?p
 case p=>(try delta R.a R.b R.c R.d T4.a T4.b T4.c T4.d);exact rfl
 case f=>exact fun x _=>x
def p_rda (α:Type) (v:α) (t:R α):R α:=by
 refine(?f:(x:R α)->x=(R.mk t.a (T4.mk t.b.a t.b.b t.b.c (T4.mk v t.b.d.b t.b.d.c t.b.d.d)) t.c t.d)->R α) ?x ?p
 case p=>(try delta R.a R.b R.c R.d T4.a T4.b T4.c T4.d);exact rfl
 case f=>exact fun x _=>x
def rac_rda:Rac:=⟨g_rda,p_rda,fun α f t=>qRb (qd _ (qa α f)) t⟩
def g_rdb (α:Type) (t:R α):α:=by
 refine(?f:(x:α)->x=t.b.d.b->α) ?x ?p
 case p=>(try delta R.a R.b R.c R.d T4.a T4.b T4.c T4.d);exact rfl
 case f=>exact fun x _=>x
def p_rdb (α:Type) (v:α) (t:R α):R α:=by
 refine(?f:(x:R α)->x=(R.mk t.a (T4.mk t.b.a t.b.b t.b.c (T4.mk t.b.d.a v t.b.d.c t.b.d.d)) t.c t.d)->R α) ?x ?p
 case p=>(try delta R.a R.b R.c R.d T4.a T4.b T4.c T4.d);exact rfl
 case f=>exact fun x _=>x
def rac_rdb:Rac:=⟨g_rdb,p_rdb,fun α f t=>qRb (qd _ (qb α f)) t⟩
def g_rdc (α:Type) (t:R α):α:=by
 refine(?f:(x:α)->x=t.b.d.c->α) ?x ?p
 case p=>(try delta R.a R.b R.c R.d T4.a T4.b T4.c T4.d);exact rfl
 case f=>exact fun x _=>x
def p_rdc (α:Type) (v:α) (t:R α):R α:=by
 refine(?f:(x:R α)->x=(R.mk t.a (T4.mk t.b.a t.b.b t.b.c (T4.mk t.b.d.a t.b.d.b v t.b.d.d)) t.c t.d)->R α) ?x ?p
 case p=>(try delta R.a R.b R.c R.d T4.a T4.b T4.c T4.d);exact rfl
 case f=>exact fun x _=>x
def rac_rdc:Rac:=⟨g_rdc,p_rdc,fun α f t=>qRb (qd _ (qc α f)) t⟩
def g_rdd (α:Type) (t:R α):α:=by
 refine(?f:(x:α)->x=t.b.d.d->α) ?x ?p
 case p=>(try delta R.a R.b R.c R.d T4.a T4.b T4.c T4.d);exact rfl
 case f=>exact fun x _=>x
def p_rdd (α:Type) (v:α) (t:R α):R α:=by
 refine(?f:(x:R α)->x=(R.mk t.a (T4.mk t.b.a t.b.b t.b.c (T4.mk t.b.d.a t.b.d.b t.b.d.c v)) t.c t.d)->R α) ?x ?p
 case p=>(try delta R.a R.b R.c R.d T4.a T4.b T4.c T4.d);exact rfl
 case f=>exact fun x _=>x
def rac_rdd:Rac:=⟨g_rdd,p_rdd,fun α f t=>qRb (qd _ (qd α f)) t⟩
def g_raaa (α:Type) (t:R α):α:=by
 refine(?f:(x:α)->x=t.c.a.a.a->α) ?x ?p
 case p=>(try delta R.a R.b R.c R.d T4.a T4.b T4.c T4.d);exact rfl
 case f=>exact fun x _=>x
def p_raaa (α:Type) (v:α) (t:R α):R α:=by
 refine(?f:(x:R α)->x=(R.mk t.a t.b (T4.mk (T4.mk (T4.mk v t.c.a.a.b t.c.a.a.c t.c.a.a.d) t.c.a.b t.c.a.c t.c.a.d) t.c.b t.c.c t.c.d) t.d)->R α) ?x ?p
 case p=>(try delta R.a R.b R.c R.d T4.a T4.b T4.c T4.d);exact rfl
 case f=>exact fun x _=>x
def rac_raaa:Rac:=⟨g_raaa,p_raaa,fun α f t=>qRc (qa _ (qa _ (qa α f))) t⟩
def g_raab (α:Type) (t:R α):α:=by
 refine(?f:(x:α)->x=t.c.a.a.b->α) ?x ?p
 case p=>(try delta R.a R.b R.c R.d T4.a T4.b T4.c T4.d);exact rfl
 case f=>exact fun x _=>x
def p_raab (α:Type) (v:α) (t:R α):R α:=by
 refine(?f:(x:R α)->x=(R.mk t.a t.b (T4.mk (T4.mk (T4.mk t.c.a.a.a v t.c.a.a.c t.c.a.a.d) t.c.a.b t.c.a.c t.c.a.d) t.c.b t.c.c t.c.d) t.d)->R α) ?x ?p
 case p=>(try delta R.a R.b R.c R.d T4.a T4.b T4.c T4.d);exact rfl
 case f=>exact fun x _=>x
def rac_raab:Rac:=⟨g_raab,p_raab,fun α f t=>qRc (qa _ (qa _ (qb α f))) t⟩
def g_raac (α:Type) (t:R α):α:=by
 refine(?f:(x:α)->x=t.c.a.a.c->α) ?x ?p
 case p=>(try delta R.a R.b R.c R.d T4.a T4.b T4.c T4.d);exact rfl
 case f=>exact fun x _=>x
def p_raac (α:Type) (v:α) (t:R α):R α:=by
 refine(?f:(x:R α)->x=(R.mk t.a t.b (T4.mk (T4.mk (T4.mk t.c.a.a.a t.c.a.a.b v t.c.a.a.d) t.c.a.b t.c.a.c t.c.a.d) t.c.b t.c.c t.c.d) t.d)->R α) ?x ?p
 case p=>(try delta R.a R.b R.c R.d T4.a T4.b T4.c T4.d);exact rfl
 case f=>exact fun x _=>x
def rac_raac:Rac:=⟨g_raac,p_raac,fun α f t=>qRc (qa _ (qa _ (qc α f))) t⟩
def g_raad (α:Type) (t:R α):α:=by
 refine(?f:(x:α)->x=t.c.a.a.d->α) ?x ?p
 case p=>(try delta R.a R.b R.c R.d T4.a T4.b T4.c T4.d);exact rfl
 case f=>exact fun x _=>x
def p_raad (α:Type) (v:α) (t:R α):R α:=by
 refine(?f:(x:R α)->x=(R.mk t.a t.b (T4.mk (T4.mk (T4.mk t.c.a.a.a t.c.a.a.b t.c.a.a.c v) t.c.a.b t.c.a.c t.c.a.d) t.c.b t.c.c t.c.d) t.d)->R α) ?x ?p
 case p=>(try delta R.a R.b R.c R.d T4.a T4.b T4.c T4.d);exact rfl
 case f=>exact fun x _=>x
def rac_raad:Rac:=⟨g_raad,p_raad,fun α f t=>qRc (qa _ (qa _ (qd α f))) t⟩
def g_raba (α:Type) (t:R α):α:=by
 refine(?f:(x:α)->x=t.c.a.b.a->α) ?x ?p
 case p=>(try delta R.a R.b R.c R.d T4.a T4.b T4.c T4.d);exact rfl
 case f=>exact fun x _=>x
def p_raba (α:Type) (v:α) (t:R α):R α:=by
 refine(?f:(x:R α)->x=(R.mk t.a t.b (T4.mk (T4.mk t.c.a.a (T4.mk v t.c.a.b.b t.c.a.b.c t.c.a.b.d) t.c.a.c t.c.a.d) t.c.b t.c.c t.c.d) t.d)->R α) ?x ?p
 case p=>(try delta R.a R.b R.c R.d T4.a T4.b T4.c T4.d);exact rfl
 case f=>exact fun x _=>x
def rac_raba:Rac:=⟨g_raba,p_raba,fun α f t=>qRc (qa _ (qb _ (qa α f))) t⟩
def g_rabb (α:Type) (t:R α):α:=by
 refine(?f:(x:α)->x=t.c.a.b.b->α) ?x ?p
 case p=>(try delta R.a R.b R.c R.d T4.a T4.b T4.c T4.d);exact rfl
 case f=>exact fun x _=>x
def p_rabb (α:Type) (v:α) (t:R α):R α:=by
 refine(?f:(x:R α)->x=(R.mk t.a t.b (T4.mk (T4.mk t.c.a.a (T4.mk t.c.a.b.a v t.c.a.b.c t.c.a.b.d) t.c.a.c t.c.a.d) t.c.b t.c.c t.c.d) t.d)->R α) ?x ?p
 case p=>(try delta R.a R.b R.c R.d T4.a T4.b T4.c T4.d);exact rfl
 case f=>exact fun x _=>x
def rac_rabb:Rac:=⟨g_rabb,p_rabb,fun α f t=>qRc (qa _ (qb _ (qb α f))) t⟩
def g_rabc (α:Type) (t:R α):α:=by
 refine(?f:(x:α)->x=t.c.a.b.c->α) ?x ?p
 case p=>(try delta R.a R.b R.c R.d T4.a T4.b T4.c T4.d);exact rfl
 case f=>exact fun x _=>x
def p_rabc (α:Type) (v:α) (t:R α):R α:=by
 refine(?f:(x:R α)->x=(R.mk t.a t.b (T4.mk (T4.mk t.c.a.a (T4.mk t.c.a.b.a t.c.a.b.b v t.c.a.b.d) t.c.a.c t.c.a.d) t.c.b t.c.c t.c.d) t.d)->R α) ?x ?p
 case p=>(try delta R.a R.b R.c R.d T4.a T4.b T4.c T4.d);exact rfl
 case f=>exact fun x _=>x
def rac_rabc:Rac:=⟨g_rabc,p_rabc,fun α f t=>qRc (qa _ (qb _ (qc α f))) t⟩
def g_rabd (α:Type) (t:R α):α:=by
 refine(?f:(x:α)->x=t.c.a.b.d->α) ?x ?p
 case p=>(try delta R.a R.b R.c R.d T4.a T4.b T4.c T4.d);exact rfl
 case f=>exact fun x _=>x
def p_rabd (α:Type) (v:α) (t:R α):R α:=by
 refine(?f:(x:R α)->x=(R.mk t.a t.b (T4.mk (T4.mk t.c.a.a (T4.mk t.c.a.b.a t.c.a.b.b t.c.a.b.c v) t.c.a.c t.c.a.d) t.c.b t.c.c t.c.d) t.d)->R α) ?x ?p
 case p=>(try delta R.a R.b R.c R.d T4.a T4.b T4.c T4.d);exact rfl
 case f=>exact fun x _=>x
def rac_rabd:Rac:=⟨g_rabd,p_rabd,fun α f t=>qRc (qa _ (qb _ (qd α f))) t⟩
def g_raca (α:Type) (t:R α):α:=by
 refine(?f:(x:α)->x=t.c.a.c.a->α) ?x ?p
 case p=>(try delta R.a R.b R.c R.d T4.a T4.b T4.c T4.d);exact rfl
 case f=>exact fun x _=>x
def p_raca (α:Type) (v:α) (t:R α):R α:=by
 refine(?f:(x:R α)->x=(R.mk t.a t.b (T4.mk (T4.mk t.c.a.a t.c.a.b (T4.mk v t.c.a.c.b t.c.a.c.c t.c.a.c.d) t.c.a.d) t.c.b t.c.c t.c.d) t.d)->R α) ?x ?p
 case p=>(try delta R.a R.b R.c R.d T4.a T4.b T4.c T4.d);exact rfl
 case f=>exact fun x _=>x
def rac_raca:Rac:=⟨g_raca,p_raca,fun α f t=>qRc (qa _ (qc _ (qa α f))) t⟩
def g_racb (α:Type) (t:R α):α:=by
 refine(?f:(x:α)->x=t.c.a.c.b->α) ?x ?p
 case p=>(try delta R.a R.b R.c R.d T4.a T4.b T4.c T4.d);exact rfl
 case f=>exact fun x _=>x
def p_racb (α:Type) (v:α) (t:R α):R α:=by
 refine(?f:(x:R α)->x=(R.mk t.a t.b (T4.mk (T4.mk t.c.a.a t.c.a.b (T4.mk t.c.a.c.a v t.c.a.c.c t.c.a.c.d) t.c.a.d) t.c.b t.c.c t.c.d) t.d)->R α) ?x ?p
 case p=>(try delta R.a R.b R.c R.d T4.a T4.b T4.c T4.d);exact rfl
 case f=>exact fun x _=>x
def rac_racb:Rac:=⟨g_racb,p_racb,fun α f t=>qRc (qa _ (qc _ (qb α f))) t⟩
def g_racc (α:Type) (t:R α):α:=by
 refine(?f:(x:α)->x=t.c.a.c.c->α) ?x ?p
 case p=>(try delta R.a R.b R.c R.d T4.a T4.b T4.c T4.d);exact rfl
 case f=>exact fun x _=>x
def p_racc (α:Type) (v:α) (t:R α):R α:=by
 refine(?f:(x:R α)->x=(R.mk t.a t.b (T4.mk (T4.mk t.c.a.a t.c.a.b (T4.mk t.c.a.c.a t.c.a.c.b v t.c.a.c.d) t.c.a.d) t.c.b t.c.c t.c.d) t.d)->R α) ?x ?p
 case p=>(try delta R.a R.b R.c R.d T4.a T4.b T4.c T4.d);exact rfl
 case f=>exact fun x _=>x
def rac_racc:Rac:=⟨g_racc,p_racc,fun α f t=>qRc (qa _ (qc _ (qc α f))) t⟩
def g_racd (α:Type) (t:R α):α:=by
 refine(?f:(x:α)->x=t.c.a.c.d->α) ?x ?p
 case p=>(try delta R.a R.b R.c R.d T4.a T4.b T4.c T4.d);exact rfl
 case f=>exact fun x _=>x
def p_racd (α:Type) (v:α) (t:R α):R α:=by
 refine(?f:(x:R α)->x=(R.mk t.a t.b (T4.mk (T4.mk t.c.a.a t.c.a.b (T4.mk t.c.a.c.a t.c.a.c.b t.c.a.c.c v) t.c.a.d) t.c.b t.c.c t.c.d) t.d)->R α) ?x ?p
 case p=>(try delta R.a R.b R.c R.d T4.a T4.b T4.c T4.d);exact rfl
 case f=>exact fun x _=>x
def rac_racd:Rac:=⟨g_racd,p_racd,fun α f t=>qRc (qa _ (qc _ (qd α f))) t⟩
def g_rada (α:Type) (t:R α):α:=by
 refine(?f:(x:α)->x=t.c.a.d.a->α) ?x ?p
 case p=>(try delta R.a R.b R.c R.d T4.a T4.b T4.c T4.d);exact rfl
 case f=>exact fun x _=>x
def p_rada (α:Type) (v:α) (t:R α):R α:=by
 refine(?f:(x:R α)->x=(R.mk t.a t.b (T4.mk (T4.mk t.c.a.a t.c.a.b t.c.a.c (T4.mk v t.c.a.d.b t.c.a.d.c t.c.a.d.d)) t.c.b t.c.c t.c.d) t.d)->R α) ?x ?p
 case p=>(try delta R.a R.b R.c R.d T4.a T4.b T4.c T4.d);exact rfl
 case f=>exact fun x _=>x
def rac_rada:Rac:=⟨g_rada,p_rada,fun α f t=>qRc (qa _ (qd _ (qa α f))) t⟩
def g_radb (α:Type) (t:R α):α:=by
 refine(?f:(x:α)->x=t.c.a.d.b->α) ?x ?p
 case p=>(try delta R.a R.b R.c R.d T4.a T4.b T4.c T4.d);exact rfl
 case f=>exact fun x _=>x
def p_radb (α:Type) (v:α) (t:R α):R α:=by
 refine(?f:(x:R α)->x=(R.mk t.a t.b (T4.mk (T4.mk t.c.a.a t.c.a.b t.c.a.c (T4.mk t.c.a.d.a v t.c.a.d.c t.c.a.d.d)) t.c.b t.c.c t.c.d) t.d)->R α) ?x ?p
 case p=>(try delta R.a R.b R.c R.d T4.a T4.b T4.c T4.d);exact rfl
 case f=>exact fun x _=>x
def rac_radb:Rac:=⟨g_radb,p_radb,fun α f t=>qRc (qa _ (qd _ (qb α f))) t⟩
def g_radc (α:Type) (t:R α):α:=by
 refine(?f:(x:α)->x=t.c.a.d.c->α) ?x ?p
 case p=>(try delta R.a R.b R.c R.d T4.a T4.b T4.c T4.d);exact rfl
 case f=>exact fun x _=>x
def p_radc (α:Type) (v:α) (t:R α):R α:=by
 refine(?f:(x:R α)->x=(R.mk t.a t.b (T4.mk (T4.mk t.c.a.a t.c.a.b t.c.a.c (T4.mk t.c.a.d.a t.c.a.d.b v t.c.a.d.d)) t.c.b t.c.c t.c.d) t.d)->R α) ?x ?p
 case p=>(try delta R.a R.b R.c R.d T4.a T4.b T4.c T4.d);exact rfl
 case f=>exact fun x _=>x
def rac_radc:Rac:=⟨g_radc,p_radc,fun α f t=>qRc (qa _ (qd _ (qc α f))) t⟩
def g_radd (α:Type) (t:R α):α:=by
 refine(?f:(x:α)->x=t.c.a.d.d->α) ?x ?p
 case p=>(try delta R.a R.b R.c R.d T4.a T4.b T4.c T4.d);exact rfl
 case f=>exact fun x _=>x
def p_radd (α:Type) (v:α) (t:R α):R α:=by
 refine(?f:(x:R α)->x=(R.mk t.a t.b (T4.mk (T4.mk t.c.a.a t.c.a.b t.c.a.c (T4.mk t.c.a.d.a t.c.a.d.b t.c.a.d.c v)) t.c.b t.c.c t.c.d) t.d)->R α) ?x ?p
 case p=>(try delta R.a R.b R.c R.d T4.a T4.b T4.c T4.d);exact rfl
 case f=>exact fun x _=>x
def rac_radd:Rac:=⟨g_radd,p_radd,fun α f t=>qRc (qa _ (qd _ (qd α f))) t⟩
def g_rbaa (α:Type) (t:R α):α:=by
 refine(?f:(x:α)->x=t.c.b.a.a->α) ?x ?p
 case p=>(try delta R.a R.b R.c R.d T4.a T4.b T4.c T4.d);exact rfl
 case f=>exact fun x _=>x
def p_rbaa (α:Type) (v:α) (t:R α):R α:=by
 refine(?f:(x:R α)->x=(R.mk t.a t.b (T4.mk t.c.a (T4.mk (T4.mk v t.c.b.a.b t.c.b.a.c t.c.b.a.d) t.c.b.b t.c.b.c t.c.b.d) t.c.c t.c.d) t.d)->R α) ?x ?p
 case p=>(try delta R.a R.b R.c R.d T4.a T4.b T4.c T4.d);exact rfl
 case f=>exact fun x _=>x
def rac_rbaa:Rac:=⟨g_rbaa,p_rbaa,fun α f t=>qRc (qb _ (qa _ (qa α f))) t⟩
def g_rbab (α:Type) (t:R α):α:=by
 refine(?f:(x:α)->x=t.c.b.a.b->α) ?x ?p
 case p=>(try delta R.a R.b R.c R.d T4.a T4.b T4.c T4.d);exact rfl
 case f=>exact fun x _=>x
def p_rbab (α:Type) (v:α) (t:R α):R α:=by
 refine(?f:(x:R α)->x=(R.mk t.a t.b (T4.mk t.c.a (T4.mk (T4.mk t.c.b.a.a v t.c.b.a.c t.c.b.a.d) t.c.b.b t.c.b.c t.c.b.d) t.c.c t.c.d) t.d)->R α) ?x ?p
 case p=>(try delta R.a R.b R.c R.d T4.a T4.b T4.c T4.d);exact rfl
 case f=>exact fun x _=>x
def rac_rbab:Rac:=⟨g_rbab,p_rbab,fun α f t=>qRc (qb _ (qa _ (qb α f))) t⟩
def g_rbac (α:Type) (t:R α):α:=by
 refine(?f:(x:α)->x=t.c.b.a.c->α) ?x ?p
 case p=>(try delta R.a R.b R.c R.d T4.a T4.b T4.c T4.d);exact rfl
 case f=>exact fun x _=>x
def p_rbac (α:Type) (v:α) (t:R α):R α:=by
 refine(?f:(x:R α)->x=(R.mk t.a t.b (T4.mk t.c.a (T4.mk (T4.mk t.c.b.a.a t.c.b.a.b v t.c.b.a.d) t.c.b.b t.c.b.c t.c.b.d) t.c.c t.c.d) t.d)->R α) ?x ?p
 case p=>(try delta R.a R.b R.c R.d T4.a T4.b T4.c T4.d);exact rfl
 case f=>exact fun x _=>x
def rac_rbac:Rac:=⟨g_rbac,p_rbac,fun α f t=>qRc (qb _ (qa _ (qc α f))) t⟩
def g_rbad (α:Type) (t:R α):α:=by
 refine(?f:(x:α)->x=t.c.b.a.d->α) ?x ?p
 case p=>(try delta R.a R.b R.c R.d T4.a T4.b T4.c T4.d);exact rfl
 case f=>exact fun x _=>x
def p_rbad (α:Type) (v:α) (t:R α):R α:=by
 refine(?f:(x:R α)->x=(R.mk t.a t.b (T4.mk t.c.a (T4.mk (T4.mk t.c.b.a.a t.c.b.a.b t.c.b.a.c v) t.c.b.b t.c.b.c t.c.b.d) t.c.c t.c.d) t.d)->R α) ?x ?p
 case p=>(try delta R.a R.b R.c R.d T4.a T4.b T4.c T4.d);exact rfl
 case f=>exact fun x _=>x
def rac_rbad:Rac:=⟨g_rbad,p_rbad,fun α f t=>qRc (qb _ (qa _ (qd α f))) t⟩
def g_rbba (α:Type) (t:R α):α:=by
 refine(?f:(x:α)->x=t.c.b.b.a->α) ?x ?p
 case p=>(try delta R.a R.b R.c R.d T4.a T4.b T4.c T4.d);exact rfl
 case f=>exact fun x _=>x
def p_rbba (α:Type) (v:α) (t:R α):R α:=by
 refine(?f:(x:R α)->x=(R.mk t.a t.b (T4.mk t.c.a (T4.mk t.c.b.a (T4.mk v t.c.b.b.b t.c.b.b.c t.c.b.b.d) t.c.b.c t.c.b.d) t.c.c t.c.d) t.d)->R α) ?x ?p
 case p=>(try delta R.a R.b R.c R.d T4.a T4.b T4.c T4.d);exact rfl
 case f=>exact fun x _=>x
def rac_rbba:Rac:=⟨g_rbba,p_rbba,fun α f t=>qRc (qb _ (qb _ (qa α f))) t⟩
def g_rbbb (α:Type) (t:R α):α:=by
 refine(?f:(x:α)->x=t.c.b.b.b->α) ?x ?p
 case p=>(try delta R.a R.b R.c R.d T4.a T4.b T4.c T4.d);exact rfl
 case f=>exact fun x _=>x
def p_rbbb (α:Type) (v:α) (t:R α):R α:=by
 refine(?f:(x:R α)->x=(R.mk t.a t.b (T4.mk t.c.a (T4.mk t.c.b.a (T4.mk t.c.b.b.a v t.c.b.b.c t.c.b.b.d) t.c.b.c t.c.b.d) t.c.c t.c.d) t.d)->R α) ?x ?p
 case p=>(try delta R.a R.b R.c R.d T4.a T4.b T4.c T4.d);exact rfl
 case f=>exact fun x _=>x
def rac_rbbb:Rac:=⟨g_rbbb,p_rbbb,fun α f t=>qRc (qb _ (qb _ (qb α f))) t⟩
def g_rbbc (α:Type) (t:R α):α:=by
 refine(?f:(x:α)->x=t.c.b.b.c->α) ?x ?p
 case p=>(try delta R.a R.b R.c R.d T4.a T4.b T4.c T4.d);exact rfl
 case f=>exact fun x _=>x
def p_rbbc (α:Type) (v:α) (t:R α):R α:=by
 refine(?f:(x:R α)->x=(R.mk t.a t.b (T4.mk t.c.a (T4.mk t.c.b.a (T4.mk t.c.b.b.a t.c.b.b.b v t.c.b.b.d) t.c.b.c t.c.b.d) t.c.c t.c.d) t.d)->R α) ?x ?p
 case p=>(try delta R.a R.b R.c R.d T4.a T4.b T4.c T4.d);exact rfl
 case f=>exact fun x _=>x
def rac_rbbc:Rac:=⟨g_rbbc,p_rbbc,fun α f t=>qRc (qb _ (qb _ (qc α f))) t⟩
def g_rbbd (α:Type) (t:R α):α:=by
 refine(?f:(x:α)->x=t.c.b.b.d->α) ?x ?p
 case p=>(try delta R.a R.b R.c R.d T4.a T4.b T4.c T4.d);exact rfl
 case f=>exact fun x _=>x
def p_rbbd (α:Type) (v:α) (t:R α):R α:=by
 refine(?f:(x:R α)->x=(R.mk t.a t.b (T4.mk t.c.a (T4.mk t.c.b.a (T4.mk t.c.b.b.a t.c.b.b.b t.c.b.b.c v) t.c.b.c t.c.b.d) t.c.c t.c.d) t.d)->R α) ?x ?p
 case p=>(try delta R.a R.b R.c R.d T4.a T4.b T4.c T4.d);exact rfl
 case f=>exact fun x _=>x
def rac_rbbd:Rac:=⟨g_rbbd,p_rbbd,fun α f t=>qRc (qb _ (qb _ (qd α f))) t⟩
def g_rbca (α:Type) (t:R α):α:=by
 refine(?f:(x:α)->x=t.c.b.c.a->α) ?x ?p
 case p=>(try delta R.a R.b R.c R.d T4.a T4.b T4.c T4.d);exact rfl
 case f=>exact fun x _=>x
def p_rbca (α:Type) (v:α) (t:R α):R α:=by
 refine(?f:(x:R α)->x=(R.mk t.a t.b (T4.mk t.c.a (T4.mk t.c.b.a t.c.b.b (T4.mk v t.c.b.c.b t.c.b.c.c t.c.b.c.d) t.c.b.d) t.c.c t.c.d) t.d)->R α) ?x ?p
 case p=>(try delta R.a R.b R.c R.d T4.a T4.b T4.c T4.d);exact rfl
 case f=>exact fun x _=>x
def rac_rbca:Rac:=⟨g_rbca,p_rbca,fun α f t=>qRc (qb _ (qc _ (qa α f))) t⟩
def g_rbcb (α:Type) (t:R α):α:=by
 refine(?f:(x:α)->x=t.c.b.c.b->α) ?x ?p
 case p=>(try delta R.a R.b R.c R.d T4.a T4.b T4.c T4.d);exact rfl
 case f=>exact fun x _=>x
def p_rbcb (α:Type) (v:α) (t:R α):R α:=by
 refine(?f:(x:R α)->x=(R.mk t.a t.b (T4.mk t.c.a (T4.mk t.c.b.a t.c.b.b (T4.mk t.c.b.c.a v t.c.b.c.c t.c.b.c.d) t.c.b.d) t.c.c t.c.d) t.d)->R α) ?x ?p
 case p=>(try delta R.a R.b R.c R.d T4.a T4.b T4.c T4.d);exact rfl
 case f=>exact fun x _=>x
def rac_rbcb:Rac:=⟨g_rbcb,p_rbcb,fun α f t=>qRc (qb _ (qc _ (qb α f))) t⟩
def g_rbcc (α:Type) (t:R α):α:=by
 refine(?f:(x:α)->x=t.c.b.c.c->α) ?x ?p
 case p=>(try delta R.a R.b R.c R.d T4.a T4.b T4.c T4.d);exact rfl
 case f=>exact fun x _=>x
def p_rbcc (α:Type) (v:α) (t:R α):R α:=by
 refine(?f:(x:R α)->x=(R.mk t.a t.b (T4.mk t.c.a (T4.mk t.c.b.a t.c.b.b (T4.mk t.c.b.c.a t.c.b.c.b v t.c.b.c.d) t.c.b.d) t.c.c t.c.d) t.d)->R α) ?x ?p
 case p=>(try delta R.a R.b R.c R.d T4.a T4.b T4.c T4.d);exact rfl
 case f=>exact fun x _=>x
def rac_rbcc:Rac:=⟨g_rbcc,p_rbcc,fun α f t=>qRc (qb _ (qc _ (qc α f))) t⟩
def g_rbcd (α:Type) (t:R α):α:=by
 refine(?f:(x:α)->x=t.c.b.c.d->α) ?x ?p
 case p=>(try delta R.a R.b R.c R.d T4.a T4.b T4.c T4.d);exact rfl
 case f=>exact fun x _=>x
def p_rbcd (α:Type) (v:α) (t:R α):R α:=by
 refine(?f:(x:R α)->x=(R.mk t.a t.b (T4.mk t.c.a (T4.mk t.c.b.a t.c.b.b (T4.mk t.c.b.c.a t.c.b.c.b t.c.b.c.c v) t.c.b.d) t.c.c t.c.d) t.d)->R α) ?x ?p
 case p=>(try delta R.a R.b R.c R.d T4.a T4.b T4.c T4.d);exact rfl
 case f=>exact fun x _=>x
def rac_rbcd:Rac:=⟨g_rbcd,p_rbcd,fun α f t=>qRc (qb _ (qc _ (qd α f))) t⟩
def g_rbda (α:Type) (t:R α):α:=by
 refine(?f:(x:α)->x=t.c.b.d.a->α) ?x ?p
 case p=>(try delta R.a R.b R.c R.d T4.a T4.b T4.c T4.d);exact rfl
 case f=>exact fun x _=>x
def p_rbda (α:Type) (v:α) (t:R α):R α:=by
 refine(?f:(x:R α)->x=(R.mk t.a t.b (T4.mk t.c.a (T4.mk t.c.b.a t.c.b.b t.c.b.c (T4.mk v t.c.b.d.b t.c.b.d.c t.c.b.d.d)) t.c.c t.c.d) t.d)->R α) ?x ?p
 case p=>(try delta R.a R.b R.c R.d T4.a T4.b T4.c T4.d);exact rfl
 case f=>exact fun x _=>x
def rac_rbda:Rac:=⟨g_rbda,p_rbda,fun α f t=>qRc (qb _ (qd _ (qa α f))) t⟩
def g_rbdb (α:Type) (t:R α):α:=by
 refine(?f:(x:α)->x=t.c.b.d.b->α) ?x ?p
 case p=>(try delta R.a R.b R.c R.d T4.a T4.b T4.c T4.d);exact rfl
 case f=>exact fun x _=>x
def p_rbdb (α:Type) (v:α) (t:R α):R α:=by
 refine(?f:(x:R α)->x=(R.mk t.a t.b (T4.mk t.c.a (T4.mk t.c.b.a t.c.b.b t.c.b.c (T4.mk t.c.b.d.a v t.c.b.d.c t.c.b.d.d)) t.c.c t.c.d) t.d)->R α) ?x ?p
 case p=>(try delta R.a R.b R.c R.d T4.a T4.b T4.c T4.d);exact rfl
 case f=>exact fun x _=>x
def rac_rbdb:Rac:=⟨g_rbdb,p_rbdb,fun α f t=>qRc (qb _ (qd _ (qb α f))) t⟩
def g_rbdc (α:Type) (t:R α):α:=by
 refine(?f:(x:α)->x=t.c.b.d.c->α) ?x ?p
 case p=>(try delta R.a R.b R.c R.d T4.a T4.b T4.c T4.d);exact rfl
 case f=>exact fun x _=>x
def p_rbdc (α:Type) (v:α) (t:R α):R α:=by
 refine(?f:(x:R α)->x=(R.mk t.a t.b (T4.mk t.c.a (T4.mk t.c.b.a t.c.b.b t.c.b.c (T4.mk t.c.b.d.a t.c.b.d.b v t.c.b.d.d)) t.c.c t.c.d) t.d)->R α) ?x ?p
 case p=>(try delta R.a R.b R.c R.d T4.a T4.b T4.c T4.d);exact rfl
 case f=>exact fun x _=>x
def rac_rbdc:Rac:=⟨g_rbdc,p_rbdc,fun α f t=>qRc (qb _ (qd _ (qc α f))) t⟩
def g_rbdd (α:Type) (t:R α):α:=by
 refine(?f:(x:α)->x=t.c.b.d.d->α) ?x ?p
 case p=>(try delta R.a R.b R.c R.d T4.a T4.b T4.c T4.d);exact rfl
 case f=>exact fun x _=>x
def p_rbdd (α:Type) (v:α) (t:R α):R α:=by
 refine(?f:(x:R α)->x=(R.mk t.a t.b (T4.mk t.c.a (T4.mk t.c.b.a t.c.b.b t.c.b.c (T4.mk t.c.b.d.a t.c.b.d.b t.c.b.d.c v)) t.c.c t.c.d) t.d)->R α) ?x ?p
 case p=>(try delta R.a R.b R.c R.d T4.a T4.b T4.c T4.d);exact rfl
 case f=>exact fun x _=>x
def rac_rbdd:Rac:=⟨g_rbdd,p_rbdd,fun α f t=>qRc (qb _ (qd _ (qd α f))) t⟩
def g_rcaa (α:Type) (t:R α):α:=by
 refine(?f:(x:α)->x=t.c.c.a.a->α) ?x ?p
 case p=>(try delta R.a R.b R.c R.d T4.a T4.b T4.c T4.d);exact rfl
 case f=>exact fun x _=>x
def p_rcaa (α:Type) (v:α) (t:R α):R α:=by
 refine(?f:(x:R α)->x=(R.mk t.a t.b (T4.mk t.c.a t.c.b (T4.mk (T4.mk v t.c.c.a.b t.c.c.a.c t.c.c.a.d) t.c.c.b t.c.c.c t.c.c.d) t.c.d) t.d)->R α) ?x ?p
 case p=>(try delta R.a R.b R.c R.d T4.a T4.b T4.c T4.d);exact rfl
 case f=>exact fun x _=>x
def rac_rcaa:Rac:=⟨g_rcaa,p_rcaa,fun α f t=>qRc (qc _ (qa _ (qa α f))) t⟩
def g_rcab (α:Type) (t:R α):α:=by
 refine(?f:(x:α)->x=t.c.c.a.b->α) ?x ?p
 case p=>(try delta R.a R.b R.c R.d T4.a T4.b T4.c T4.d);exact rfl
 case f=>exact fun x _=>x
def p_rcab (α:Type) (v:α) (t:R α):R α:=by
 refine(?f:(x:R α)->x=(R.mk t.a t.b (T4.mk t.c.a t.c.b (T4.mk (T4.mk t.c.c.a.a v t.c.c.a.c t.c.c.a.d) t.c.c.b t.c.c.c t.c.c.d) t.c.d) t.d)->R α) ?x ?p
 case p=>(try delta R.a R.b R.c R.d T4.a T4.b T4.c T4.d);exact rfl
 case f=>exact fun x _=>x
def rac_rcab:Rac:=⟨g_rcab,p_rcab,fun α f t=>qRc (qc _ (qa _ (qb α f))) t⟩
def g_rcac (α:Type) (t:R α):α:=by
 refine(?f:(x:α)->x=t.c.c.a.c->α) ?x ?p
 case p=>(try delta R.a R.b R.c R.d T4.a T4.b T4.c T4.d);exact rfl
 case f=>exact fun x _=>x
def p_rcac (α:Type) (v:α) (t:R α):R α:=by
 refine(?f:(x:R α)->x=(R.mk t.a t.b (T4.mk t.c.a t.c.b (T4.mk (T4.mk t.c.c.a.a t.c.c.a.b v t.c.c.a.d) t.c.c.b t.c.c.c t.c.c.d) t.c.d) t.d)->R α) ?x ?p
 case p=>(try delta R.a R.b R.c R.d T4.a T4.b T4.c T4.d);exact rfl
 case f=>exact fun x _=>x
def rac_rcac:Rac:=⟨g_rcac,p_rcac,fun α f t=>qRc (qc _ (qa _ (qc α f))) t⟩
def g_rcad (α:Type) (t:R α):α:=by
 refine(?f:(x:α)->x=t.c.c.a.d->α) ?x ?p
 case p=>(try delta R.a R.b R.c R.d T4.a T4.b T4.c T4.d);exact rfl
 case f=>exact fun x _=>x
def p_rcad (α:Type) (v:α) (t:R α):R α:=by
 refine(?f:(x:R α)->x=(R.mk t.a t.b (T4.mk t.c.a t.c.b (T4.mk (T4.mk t.c.c.a.a t.c.c.a.b t.c.c.a.c v) t.c.c.b t.c.c.c t.c.c.d) t.c.d) t.d)->R α) ?x ?p
 case p=>(try delta R.a R.b R.c R.d T4.a T4.b T4.c T4.d);exact rfl
 case f=>exact fun x _=>x
def rac_rcad:Rac:=⟨g_rcad,p_rcad,fun α f t=>qRc (qc _ (qa _ (qd α f))) t⟩
def g_rcba (α:Type) (t:R α):α:=by
 refine(?f:(x:α)->x=t.c.c.b.a->α) ?x ?p
 case p=>(try delta R.a R.b R.c R.d T4.a T4.b T4.c T4.d);exact rfl
 case f=>exact fun x _=>x
def p_rcba (α:Type) (v:α) (t:R α):R α:=by
 refine(?f:(x:R α)->x=(R.mk t.a t.b (T4.mk t.c.a t.c.b (T4.mk t.c.c.a (T4.mk v t.c.c.b.b t.c.c.b.c t.c.c.b.d) t.c.c.c t.c.c.d) t.c.d) t.d)->R α) ?x ?p
 case p=>(try delta R.a R.b R.c R.d T4.a T4.b T4.c T4.d);exact rfl
 case f=>exact fun x _=>x
def rac_rcba:Rac:=⟨g_rcba,p_rcba,fun α f t=>qRc (qc _ (qb _ (qa α f))) t⟩
def g_rcbb (α:Type) (t:R α):α:=by
 refine(?f:(x:α)->x=t.c.c.b.b->α) ?x ?p
 case p=>(try delta R.a R.b R.c R.d T4.a T4.b T4.c T4.d);exact rfl
 case f=>exact fun x _=>x
def p_rcbb (α:Type) (v:α) (t:R α):R α:=by
 refine(?f:(x:R α)->x=(R.mk t.a t.b (T4.mk t.c.a t.c.b (T4.mk t.c.c.a (T4.mk t.c.c.b.a v t.c.c.b.c t.c.c.b.d) t.c.c.c t.c.c.d) t.c.d) t.d)->R α) ?x ?p
 case p=>(try delta R.a R.b R.c R.d T4.a T4.b T4.c T4.d);exact rfl
 case f=>exact fun x _=>x
def rac_rcbb:Rac:=⟨g_rcbb,p_rcbb,fun α f t=>qRc (qc _ (qb _ (qb α f))) t⟩
def g_rcbc (α:Type) (t:R α):α:=by
 refine(?f:(x:α)->x=t.c.c.b.c->α) ?x ?p
 case p=>(try delta R.a R.b R.c R.d T4.a T4.b T4.c T4.d);exact rfl
 case f=>exact fun x _=>x
def p_rcbc (α:Type) (v:α) (t:R α):R α:=by
 refine(?f:(x:R α)->x=(R.mk t.a t.b (T4.mk t.c.a t.c.b (T4.mk t.c.c.a (T4.mk t.c.c.b.a t.c.c.b.b v t.c.c.b.d) t.c.c.c t.c.c.d) t.c.d) t.d)->R α) ?x ?p
 case p=>(try delta R.a R.b R.c R.d T4.a T4.b T4.c T4.d);exact rfl
 case f=>exact fun x _=>x
def rac_rcbc:Rac:=⟨g_rcbc,p_rcbc,fun α f t=>qRc (qc _ (qb _ (qc α f))) t⟩
def g_rcbd (α:Type) (t:R α):α:=by
 refine(?f:(x:α)->x=t.c.c.b.d->α) ?x ?p
 case p=>(try delta R.a R.b R.c R.d T4.a T4.b T4.c T4.d);exact rfl
 case f=>exact fun x _=>x
def p_rcbd (α:Type) (v:α) (t:R α):R α:=by
 refine(?f:(x:R α)->x=(R.mk t.a t.b (T4.mk t.c.a t.c.b (T4.mk t.c.c.a (T4.mk t.c.c.b.a t.c.c.b.b t.c.c.b.c v) t.c.c.c t.c.c.d) t.c.d) t.d)->R α) ?x ?p
 case p=>(try delta R.a R.b R.c R.d T4.a T4.b T4.c T4.d);exact rfl
 case f=>exact fun x _=>x
def rac_rcbd:Rac:=⟨g_rcbd,p_rcbd,fun α f t=>qRc (qc _ (qb _ (qd α f))) t⟩
def g_rcca (α:Type) (t:R α):α:=by
 refine(?f:(x:α)->x=t.c.c.c.a->α) ?x ?p
 case p=>(try delta R.a R.b R.c R.d T4.a T4.b T4.c T4.d);exact rfl
 case f=>exact fun x _=>x
def p_rcca (α:Type) (v:α) (t:R α):R α:=by
 refine(?f:(x:R α)->x=(R.mk t.a t.b (T4.mk t.c.a t.c.b (T4.mk t.c.c.a t.c.c.b (T4.mk v t.c.c.c.b t.c.c.c.c t.c.c.c.d) t.c.c.d) t.c.d) t.d)->R α) ?x ?p
 case p=>(try delta R.a R.b R.c R.d T4.a T4.b T4.c T4.d);exact rfl
 case f=>exact fun x _=>x
def rac_rcca:Rac:=⟨g_rcca,p_rcca,fun α f t=>qRc (qc _ (qc _ (qa α f))) t⟩
def g_rccb (α:Type) (t:R α):α:=by
 refine(?f:(x:α)->x=t.c.c.c.b->α) ?x ?p
 case p=>(try delta R.a R.b R.c R.d T4.a T4.b T4.c T4.d);exact rfl
 case f=>exact fun x _=>x
def p_rccb (α:Type) (v:α) (t:R α):R α:=by
 refine(?f:(x:R α)->x=(R.mk t.a t.b (T4.mk t.c.a t.c.b (T4.mk t.c.c.a t.c.c.b (T4.mk t.c.c.c.a v t.c.c.c.c t.c.c.c.d) t.c.c.d) t.c.d) t.d)->R α) ?x ?p
 case p=>(try delta R.a R.b R.c R.d T4.a T4.b T4.c T4.d);exact rfl
 case f=>exact fun x _=>x
def rac_rccb:Rac:=⟨g_rccb,p_rccb,fun α f t=>qRc (qc _ (qc _ (qb α f))) t⟩
def g_rccc (α:Type) (t:R α):α:=by
 refine(?f:(x:α)->x=t.c.c.c.c->α) ?x ?p
 case p=>(try delta R.a R.b R.c R.d T4.a T4.b T4.c T4.d);exact rfl
 case f=>exact fun x _=>x
def p_rccc (α:Type) (v:α) (t:R α):R α:=by
 refine(?f:(x:R α)->x=(R.mk t.a t.b (T4.mk t.c.a t.c.b (T4.mk t.c.c.a t.c.c.b (T4.mk t.c.c.c.a t.c.c.c.b v t.c.c.c.d) t.c.c.d) t.c.d) t.d)->R α) ?x ?p
 case p=>(try delta R.a R.b R.c R.d T4.a T4.b T4.c T4.d);exact rfl
 case f=>exact fun x _=>x
def rac_rccc:Rac:=⟨g_rccc,p_rccc,fun α f t=>qRc (qc _ (qc _ (qc α f))) t⟩
def g_rccd (α:Type) (t:R α):α:=by
 refine(?f:(x:α)->x=t.c.c.c.d->α) ?x ?p
 case p=>(try delta R.a R.b R.c R.d T4.a T4.b T4.c T4.d);exact rfl
 case f=>exact fun x _=>x
def p_rccd (α:Type) (v:α) (t:R α):R α:=by
 refine(?f:(x:R α)->x=(R.mk t.a t.b (T4.mk t.c.a t.c.b (T4.mk t.c.c.a t.c.c.b (T4.mk t.c.c.c.a t.c.c.c.b t.c.c.c.c v) t.c.c.d) t.c.d) t.d)->R α) ?x ?p
 case p=>(try delta R.a R.b R.c R.d T4.a T4.b T4.c T4.d);exact rfl
 case f=>exact fun x _=>x
def rac_rccd:Rac:=⟨g_rccd,p_rccd,fun α f t=>qRc (qc _ (qc _ (qd α f))) t⟩
def g_rcda (α:Type) (t:R α):α:=by
 refine(?f:(x:α)->x=t.c.c.d.a->α) ?x ?p
 case p=>(try delta R.a R.b R.c R.d T4.a T4.b T4.c T4.d);exact rfl
 case f=>exact fun x _=>x
def p_rcda (α:Type) (v:α) (t:R α):R α:=by
 refine(?f:(x:R α)->x=(R.mk t.a t.b (T4.mk t.c.a t.c.b (T4.mk t.c.c.a t.c.c.b t.c.c.c (T4.mk v t.c.c.d.b t.c.c.d.c t.c.c.d.d)) t.c.d) t.d)->R α) ?x ?p
 case p=>(try delta R.a R.b R.c R.d T4.a T4.b T4.c T4.d);exact rfl
 case f=>exact fun x _=>x
def rac_rcda:Rac:=⟨g_rcda,p_rcda,fun α f t=>qRc (qc _ (qd _ (qa α f))) t⟩
def g_rcdb (α:Type) (t:R α):α:=by
 refine(?f:(x:α)->x=t.c.c.d.b->α) ?x ?p
 case p=>(try delta R.a R.b R.c R.d T4.a T4.b T4.c T4.d);exact rfl
 case f=>exact fun x _=>x
def p_rcdb (α:Type) (v:α) (t:R α):R α:=by
 refine(?f:(x:R α)->x=(R.mk t.a t.b (T4.mk t.c.a t.c.b (T4.mk t.c.c.a t.c.c.b t.c.c.c (T4.mk t.c.c.d.a v t.c.c.d.c t.c.c.d.d)) t.c.d) t.d)->R α) ?x ?p
 case p=>(try delta R.a R.b R.c R.d T4.a T4.b T4.c T4.d);exact rfl
 case f=>exact fun x _=>x
def rac_rcdb:Rac:=⟨g_rcdb,p_rcdb,fun α f t=>qRc (qc _ (qd _ (qb α f))) t⟩
def g_rcdc (α:Type) (t:R α):α:=by
 refine(?f:(x:α)->x=t.c.c.d.c->α) ?x ?p
 case p=>(try delta R.a R.b R.c R.d T4.a T4.b T4.c T4.d);exact rfl
 case f=>exact fun x _=>x
def p_rcdc (α:Type) (v:α) (t:R α):R α:=by
 refine(?f:(x:R α)->x=(R.mk t.a t.b (T4.mk t.c.a t.c.b (T4.mk t.c.c.a t.c.c.b t.c.c.c (T4.mk t.c.c.d.a t.c.c.d.b v t.c.c.d.d)) t.c.d) t.d)->R α) ?x ?p
 case p=>(try delta R.a R.b R.c R.d T4.a T4.b T4.c T4.d);exact rfl
 case f=>exact fun x _=>x
def rac_rcdc:Rac:=⟨g_rcdc,p_rcdc,fun α f t=>qRc (qc _ (qd _ (qc α f))) t⟩
def g_rcdd (α:Type) (t:R α):α:=by
 refine(?f:(x:α)->x=t.c.c.d.d->α) ?x ?p
 case p=>(try delta R.a R.b R.c R.d T4.a T4.b T4.c T4.d);exact rfl
 case f=>exact fun x _=>x
def p_rcdd (α:Type) (v:α) (t:R α):R α:=by
 refine(?f:(x:R α)->x=(R.mk t.a t.b (T4.mk t.c.a t.c.b (T4.mk t.c.c.a t.c.c.b t.c.c.c (T4.mk t.c.c.d.a t.c.c.d.b t.c.c.d.c v)) t.c.d) t.d)->R α) ?x ?p
 case p=>(try delta R.a R.b R.c R.d T4.a T4.b T4.c T4.d);exact rfl
 case f=>exact fun x _=>x
def rac_rcdd:Rac:=⟨g_rcdd,p_rcdd,fun α f t=>qRc (qc _ (qd _ (qd α f))) t⟩
def g_rdaa (α:Type) (t:R α):α:=by
 refine(?f:(x:α)->x=t.c.d.a.a->α) ?x ?p
 case p=>(try delta R.a R.b R.c R.d T4.a T4.b T4.c T4.d);exact rfl
 case f=>exact fun x _=>x
def p_rdaa (α:Type) (v:α) (t:R α):R α:=by
 refine(?f:(x:R α)->x=(R.mk t.a t.b (T4.mk t.c.a t.c.b t.c.c (T4.mk (T4.mk v t.c.d.a.b t.c.d.a.c t.c.d.a.d) t.c.d.b t.c.d.c t.c.d.d)) t.d)->R α) ?x ?p
 case p=>(try delta R.a R.b R.c R.d T4.a T4.b T4.c T4.d);exact rfl
 case f=>exact fun x _=>x
def rac_rdaa:Rac:=⟨g_rdaa,p_rdaa,fun α f t=>qRc (qd _ (qa _ (qa α f))) t⟩
def g_rdab (α:Type) (t:R α):α:=by
 refine(?f:(x:α)->x=t.c.d.a.b->α) ?x ?p
 case p=>(try delta R.a R.b R.c R.d T4.a T4.b T4.c T4.d);exact rfl
 case f=>exact fun x _=>x
def p_rdab (α:Type) (v:α) (t:R α):R α:=by
 refine(?f:(x:R α)->x=(R.mk t.a t.b (T4.mk t.c.a t.c.b t.c.c (T4.mk (T4.mk t.c.d.a.a v t.c.d.a.c t.c.d.a.d) t.c.d.b t.c.d.c t.c.d.d)) t.d)->R α) ?x ?p
 case p=>(try delta R.a R.b R.c R.d T4.a T4.b T4.c T4.d);exact rfl
 case f=>exact fun x _=>x
def rac_rdab:Rac:=⟨g_rdab,p_rdab,fun α f t=>qRc (qd _ (qa _ (qb α f))) t⟩
def g_rdac (α:Type) (t:R α):α:=by
 refine(?f:(x:α)->x=t.c.d.a.c->α) ?x ?p
 case p=>(try delta R.a R.b R.c R.d T4.a T4.b T4.c T4.d);exact rfl
 case f=>exact fun x _=>x
def p_rdac (α:Type) (v:α) (t:R α):R α:=by
 refine(?f:(x:R α)->x=(R.mk t.a t.b (T4.mk t.c.a t.c.b t.c.c (T4.mk (T4.mk t.c.d.a.a t.c.d.a.b v t.c.d.a.d) t.c.d.b t.c.d.c t.c.d.d)) t.d)->R α) ?x ?p
 case p=>(try delta R.a R.b R.c R.d T4.a T4.b T4.c T4.d);exact rfl
 case f=>exact fun x _=>x
def rac_rdac:Rac:=⟨g_rdac,p_rdac,fun α f t=>qRc (qd _ (qa _ (qc α f))) t⟩
def g_rdad (α:Type) (t:R α):α:=by
 refine(?f:(x:α)->x=t.c.d.a.d->α) ?x ?p
 case p=>(try delta R.a R.b R.c R.d T4.a T4.b T4.c T4.d);exact rfl
 case f=>exact fun x _=>x
def p_rdad (α:Type) (v:α) (t:R α):R α:=by
 refine(?f:(x:R α)->x=(R.mk t.a t.b (T4.mk t.c.a t.c.b t.c.c (T4.mk (T4.mk t.c.d.a.a t.c.d.a.b t.c.d.a.c v) t.c.d.b t.c.d.c t.c.d.d)) t.d)->R α) ?x ?p
 case p=>(try delta R.a R.b R.c R.d T4.a T4.b T4.c T4.d);exact rfl
 case f=>exact fun x _=>x
def rac_rdad:Rac:=⟨g_rdad,p_rdad,fun α f t=>qRc (qd _ (qa _ (qd α f))) t⟩
def g_rdba (α:Type) (t:R α):α:=by
 refine(?f:(x:α)->x=t.c.d.b.a->α) ?x ?p
 case p=>(try delta R.a R.b R.c R.d T4.a T4.b T4.c T4.d);exact rfl
 case f=>exact fun x _=>x
def p_rdba (α:Type) (v:α) (t:R α):R α:=by
 refine(?f:(x:R α)->x=(R.mk t.a t.b (T4.mk t.c.a t.c.b t.c.c (T4.mk t.c.d.a (T4.mk v t.c.d.b.b t.c.d.b.c t.c.d.b.d) t.c.d.c t.c.d.d)) t.d)->R α) ?x ?p
 case p=>(try delta R.a R.b R.c R.d T4.a T4.b T4.c T4.d);exact rfl
 case f=>exact fun x _=>x
def rac_rdba:Rac:=⟨g_rdba,p_rdba,fun α f t=>qRc (qd _ (qb _ (qa α f))) t⟩
def g_rdbb (α:Type) (t:R α):α:=by
 refine(?f:(x:α)->x=t.c.d.b.b->α) ?x ?p
 case p=>(try delta R.a R.b R.c R.d T4.a T4.b T4.c T4.d);exact rfl
 case f=>exact fun x _=>x
def p_rdbb (α:Type) (v:α) (t:R α):R α:=by
 refine(?f:(x:R α)->x=(R.mk t.a t.b (T4.mk t.c.a t.c.b t.c.c (T4.mk t.c.d.a (T4.mk t.c.d.b.a v t.c.d.b.c t.c.d.b.d) t.c.d.c t.c.d.d)) t.d)->R α) ?x ?p
 case p=>(try delta R.a R.b R.c R.d T4.a T4.b T4.c T4.d);exact rfl
 case f=>exact fun x _=>x
def rac_rdbb:Rac:=⟨g_rdbb,p_rdbb,fun α f t=>qRc (qd _ (qb _ (qb α f))) t⟩
def g_rdbc (α:Type) (t:R α):α:=by
 refine(?f:(x:α)->x=t.c.d.b.c->α) ?x ?p
 case p=>(try delta R.a R.b R.c R.d T4.a T4.b T4.c T4.d);exact rfl
 case f=>exact fun x _=>x
def p_rdbc (α:Type) (v:α) (t:R α):R α:=by
 refine(?f:(x:R α)->x=(R.mk t.a t.b (T4.mk t.c.a t.c.b t.c.c (T4.mk t.c.d.a (T4.mk t.c.d.b.a t.c.d.b.b v t.c.d.b.d) t.c.d.c t.c.d.d)) t.d)->R α) ?x ?p
 case p=>(try delta R.a R.b R.c R.d T4.a T4.b T4.c T4.d);exact rfl
 case f=>exact fun x _=>x
def rac_rdbc:Rac:=⟨g_rdbc,p_rdbc,fun α f t=>qRc (qd _ (qb _ (qc α f))) t⟩
def g_rdbd (α:Type) (t:R α):α:=by
 refine(?f:(x:α)->x=t.c.d.b.d->α) ?x ?p
 case p=>(try delta R.a R.b R.c R.d T4.a T4.b T4.c T4.d);exact rfl
 case f=>exact fun x _=>x
def p_rdbd (α:Type) (v:α) (t:R α):R α:=by
 refine(?f:(x:R α)->x=(R.mk t.a t.b (T4.mk t.c.a t.c.b t.c.c (T4.mk t.c.d.a (T4.mk t.c.d.b.a t.c.d.b.b t.c.d.b.c v) t.c.d.c t.c.d.d)) t.d)->R α) ?x ?p
 case p=>(try delta R.a R.b R.c R.d T4.a T4.b T4.c T4.d);exact rfl
 case f=>exact fun x _=>x
def rac_rdbd:Rac:=⟨g_rdbd,p_rdbd,fun α f t=>qRc (qd _ (qb _ (qd α f))) t⟩
def g_rdca (α:Type) (t:R α):α:=by
 refine(?f:(x:α)->x=t.c.d.c.a->α) ?x ?p
 case p=>(try delta R.a R.b R.c R.d T4.a T4.b T4.c T4.d);exact rfl
 case f=>exact fun x _=>x
def p_rdca (α:Type) (v:α) (t:R α):R α:=by
 refine(?f:(x:R α)->x=(R.mk t.a t.b (T4.mk t.c.a t.c.b t.c.c (T4.mk t.c.d.a t.c.d.b (T4.mk v t.c.d.c.b t.c.d.c.c t.c.d.c.d) t.c.d.d)) t.d)->R α) ?x ?p
 case p=>(try delta R.a R.b R.c R.d T4.a T4.b T4.c T4.d);exact rfl
 case f=>exact fun x _=>x
def rac_rdca:Rac:=⟨g_rdca,p_rdca,fun α f t=>qRc (qd _ (qc _ (qa α f))) t⟩
def g_rdcb (α:Type) (t:R α):α:=by
 refine(?f:(x:α)->x=t.c.d.c.b->α) ?x ?p
 case p=>(try delta R.a R.b R.c R.d T4.a T4.b T4.c T4.d);exact rfl
 case f=>exact fun x _=>x
def p_rdcb (α:Type) (v:α) (t:R α):R α:=by
 refine(?f:(x:R α)->x=(R.mk t.a t.b (T4.mk t.c.a t.c.b t.c.c (T4.mk t.c.d.a t.c.d.b (T4.mk t.c.d.c.a v t.c.d.c.c t.c.d.c.d) t.c.d.d)) t.d)->R α) ?x ?p
 case p=>(try delta R.a R.b R.c R.d T4.a T4.b T4.c T4.d);exact rfl
 case f=>exact fun x _=>x
def rac_rdcb:Rac:=⟨g_rdcb,p_rdcb,fun α f t=>qRc (qd _ (qc _ (qb α f))) t⟩
def g_rdcc (α:Type) (t:R α):α:=by
 refine(?f:(x:α)->x=t.c.d.c.c->α) ?x ?p
 case p=>(try delta R.a R.b R.c R.d T4.a T4.b T4.c T4.d);exact rfl
 case f=>exact fun x _=>x
def p_rdcc (α:Type) (v:α) (t:R α):R α:=by
 refine(?f:(x:R α)->x=(R.mk t.a t.b (T4.mk t.c.a t.c.b t.c.c (T4.mk t.c.d.a t.c.d.b (T4.mk t.c.d.c.a t.c.d.c.b v t.c.d.c.d) t.c.d.d)) t.d)->R α) ?x ?p
 case p=>(try delta R.a R.b R.c R.d T4.a T4.b T4.c T4.d);exact rfl
 case f=>exact fun x _=>x
def rac_rdcc:Rac:=⟨g_rdcc,p_rdcc,fun α f t=>qRc (qd _ (qc _ (qc α f))) t⟩
def g_rdcd (α:Type) (t:R α):α:=by
 refine(?f:(x:α)->x=t.c.d.c.d->α) ?x ?p
 case p=>(try delta R.a R.b R.c R.d T4.a T4.b T4.c T4.d);exact rfl
 case f=>exact fun x _=>x
def p_rdcd (α:Type) (v:α) (t:R α):R α:=by
 refine(?f:(x:R α)->x=(R.mk t.a t.b (T4.mk t.c.a t.c.b t.c.c (T4.mk t.c.d.a t.c.d.b (T4.mk t.c.d.c.a t.c.d.c.b t.c.d.c.c v) t.c.d.d)) t.d)->R α) ?x ?p
 case p=>(try delta R.a R.b R.c R.d T4.a T4.b T4.c T4.d);exact rfl
 case f=>exact fun x _=>x
def rac_rdcd:Rac:=⟨g_rdcd,p_rdcd,fun α f t=>qRc (qd _ (qc _ (qd α f))) t⟩
def g_rdda (α:Type) (t:R α):α:=by
 refine(?f:(x:α)->x=t.c.d.d.a->α) ?x ?p
 case p=>(try delta R.a R.b R.c R.d T4.a T4.b T4.c T4.d);exact rfl
 case f=>exact fun x _=>x
def p_rdda (α:Type) (v:α) (t:R α):R α:=by
 refine(?f:(x:R α)->x=(R.mk t.a t.b (T4.mk t.c.a t.c.b t.c.c (T4.mk t.c.d.a t.c.d.b t.c.d.c (T4.mk v t.c.d.d.b t.c.d.d.c t.c.d.d.d))) t.d)->R α) ?x ?p
 case p=>(try delta R.a R.b R.c R.d T4.a T4.b T4.c T4.d);exact rfl
 case f=>exact fun x _=>x
def rac_rdda:Rac:=⟨g_rdda,p_rdda,fun α f t=>qRc (qd _ (qd _ (qa α f))) t⟩
def g_rddb (α:Type) (t:R α):α:=by
 refine(?f:(x:α)->x=t.c.d.d.b->α) ?x ?p
 case p=>(try delta R.a R.b R.c R.d T4.a T4.b T4.c T4.d);exact rfl
 case f=>exact fun x _=>x
def p_rddb (α:Type) (v:α) (t:R α):R α:=by
 refine(?f:(x:R α)->x=(R.mk t.a t.b (T4.mk t.c.a t.c.b t.c.c (T4.mk t.c.d.a t.c.d.b t.c.d.c (T4.mk t.c.d.d.a v t.c.d.d.c t.c.d.d.d))) t.d)->R α) ?x ?p
 case p=>(try delta R.a R.b R.c R.d T4.a T4.b T4.c T4.d);exact rfl
 case f=>exact fun x _=>x
def rac_rddb:Rac:=⟨g_rddb,p_rddb,fun α f t=>qRc (qd _ (qd _ (qb α f))) t⟩
def g_rddc (α:Type) (t:R α):α:=by
 refine(?f:(x:α)->x=t.c.d.d.c->α) ?x ?p
 case p=>(try delta R.a R.b R.c R.d T4.a T4.b T4.c T4.d);exact rfl
 case f=>exact fun x _=>x
def p_rddc (α:Type) (v:α) (t:R α):R α:=by
 refine(?f:(x:R α)->x=(R.mk t.a t.b (T4.mk t.c.a t.c.b t.c.c (T4.mk t.c.d.a t.c.d.b t.c.d.c (T4.mk t.c.d.d.a t.c.d.d.b v t.c.d.d.d))) t.d)->R α) ?x ?p
 case p=>(try delta R.a R.b R.c R.d T4.a T4.b T4.c T4.d);exact rfl
 case f=>exact fun x _=>x
def rac_rddc:Rac:=⟨g_rddc,p_rddc,fun α f t=>qRc (qd _ (qd _ (qc α f))) t⟩
def g_rddd (α:Type) (t:R α):α:=by
 refine(?f:(x:α)->x=t.c.d.d.d->α) ?x ?p
 case p=>(try delta R.a R.b R.c R.d T4.a T4.b T4.c T4.d);exact rfl
 case f=>exact fun x _=>x
def p_rddd (α:Type) (v:α) (t:R α):R α:=by
 refine(?f:(x:R α)->x=(R.mk t.a t.b (T4.mk t.c.a t.c.b t.c.c (T4.mk t.c.d.a t.c.d.b t.c.d.c (T4.mk t.c.d.d.a t.c.d.d.b t.c.d.d.c v))) t.d)->R α) ?x ?p
 case p=>(try delta R.a R.b R.c R.d T4.a T4.b T4.c T4.d);exact rfl
 case f=>exact fun x _=>x
def rac_rddd:Rac:=⟨g_rddd,p_rddd,fun α f t=>qRc (qd _ (qd _ (qd α f))) t⟩
def pick4 {β:Type 1} (n:Nat) (a b c d:β):β:=Nat.rec (motive:=fun _=>β) a (fun m _=>Nat.rec (motive:=fun _=>β) b (fun m _=>Nat.rec (motive:=fun _=>β) c (fun _ _=>d) m) m) n
def accN (n:Nat):Acc:=(pick4 (Nat.mod (Nat.div n 16) 4) (pick4 (Nat.mod (Nat.div n 4) 4) (pick4 (Nat.mod n 4) acc_aaa acc_aab acc_aac acc_aad) (pick4 (Nat.mod n 4) acc_aba acc_abb acc_abc acc_abd) (pick4 (Nat.mod n 4) acc_aca acc_acb acc_acc acc_acd) (pick4 (Nat.mod n 4) acc_ada acc_adb acc_adc acc_add)) (pick4 (Nat.mod (Nat.div n 4) 4) (pick4 (Nat.mod n 4) acc_baa acc_bab acc_bac acc_bad) (pick4 (Nat.mod n 4) acc_bba acc_bbb acc_bbc acc_bbd) (pick4 (Nat.mod n 4) acc_bca acc_bcb acc_bcc acc_bcd) (pick4 (Nat.mod n 4) acc_bda acc_bdb acc_bdc acc_bdd)) (pick4 (Nat.mod (Nat.div n 4) 4) (pick4 (Nat.mod n 4) acc_caa acc_cab acc_cac acc_cad) (pick4 (Nat.mod n 4) acc_cba acc_cbb acc_cbc acc_cbd) (pick4 (Nat.mod n 4) acc_cca acc_ccb acc_ccc acc_ccd) (pick4 (Nat.mod n 4) acc_cda acc_cdb acc_cdc acc_cdd)) (pick4 (Nat.mod (Nat.div n 4) 4) (pick4 (Nat.mod n 4) acc_daa acc_dab acc_dac acc_dad) (pick4 (Nat.mod n 4) acc_dba acc_dbb acc_dbc acc_dbd) (pick4 (Nat.mod n 4) acc_dca acc_dcb acc_dcc acc_dcd) (pick4 (Nat.mod n 4) acc_dda acc_ddb acc_ddc acc_ddd)))
def racA (n:Nat):Rac:=(pick4 (Nat.mod n 4) rac_ra rac_rb rac_rc rac_rd)
def racB (n:Nat):Rac:=(pick4 (Nat.mod (Nat.div n 4) 4) (pick4 (Nat.mod n 4) rac_raa rac_rab rac_rac rac_rad) (pick4 (Nat.mod n 4) rac_rba rac_rbb rac_rbc rac_rbd) (pick4 (Nat.mod n 4) rac_rca rac_rcb rac_rcc rac_rcd) (pick4 (Nat.mod n 4) rac_rda rac_rdb rac_rdc rac_rdd))
def racC (n:Nat):Rac:=(pick4 (Nat.mod (Nat.div n 16) 4) (pick4 (Nat.mod (Nat.div n 4) 4) (pick4 (Nat.mod n 4) rac_raaa rac_raab rac_raac rac_raad) (pick4 (Nat.mod n 4) rac_raba rac_rabb rac_rabc rac_rabd) (pick4 (Nat.mod n 4) rac_raca rac_racb rac_racc rac_racd) (pick4 (Nat.mod n 4) rac_rada rac_radb rac_radc rac_radd)) (pick4 (Nat.mod (Nat.div n 4) 4) (pick4 (Nat.mod n 4) rac_rbaa rac_rbab rac_rbac rac_rbad) (pick4 (Nat.mod n 4) rac_rbba rac_rbbb rac_rbbc rac_rbbd) (pick4 (Nat.mod n 4) rac_rbca rac_rbcb rac_rbcc rac_rbcd) (pick4 (Nat.mod n 4) rac_rbda rac_rbdb rac_rbdc rac_rbdd)) (pick4 (Nat.mod (Nat.div n 4) 4) (pick4 (Nat.mod n 4) rac_rcaa rac_rcab rac_rcac rac_rcad) (pick4 (Nat.mod n 4) rac_rcba rac_rcbb rac_rcbc rac_rcbd) (pick4 (Nat.mod n 4) rac_rcca rac_rccb rac_rccc rac_rccd) (pick4 (Nat.mod n 4) rac_rcda rac_rcdb rac_rcdc rac_rcdd)) (pick4 (Nat.mod (Nat.div n 4) 4) (pick4 (Nat.mod n 4) rac_rdaa rac_rdab rac_rdac rac_rdad) (pick4 (Nat.mod n 4) rac_rdba rac_rdbb rac_rdbc rac_rdbd) (pick4 (Nat.mod n 4) rac_rdca rac_rdcb rac_rdcc rac_rdcd) (pick4 (Nat.mod n 4) rac_rdda rac_rddb rac_rddc rac_rddd)))
def mkA (n:Nat):Acc:=by
 refine(?f:(xRaw:Acc)->xRaw=(
  ⟨(accN n).g,(accN n).p,(accN n).q⟩)->Acc) ?x ?p
 case p=>(try delta Acc.g Acc.p Acc.q Rac.g Rac.p Rac.q);exact rfl
 case f=>exact fun x _=>x
def accM (n:Nat):Acc:=Nat.rec (motive:=fun _=>Acc) (mkA 0) (fun m _=>mkA (Nat.succ m)) (Nat.mod n 64)
def racD (n:Nat):Rac:=by
 refine(?f:(xRaw:Rac)->xRaw=(
  ⟨fun α t=>(accM n).g α ((accM (Nat.div n 64)).g (T64 α) t.d),fun α v t=>⟨t.a,t.b,t.c,(accM (Nat.div n 64)).p (T64 α) ((accM n).p α v ((accM (Nat.div n 64)).g (T64 α) t.d)) t.d⟩,
    fun α f t=>qRd ((accM (Nat.div n 64)).q (T64 α) ((accM n).q α f)) t⟩)->Rac) ?x ?p
 case p=>(try delta Acc.g Acc.p Acc.q Rac.g Rac.p Rac.q R.a R.b R.c R.d T4.a T4.b T4.c T4.d);exact rfl
 case f=>exact fun x _=>x
def racN (n:Nat):Rac:=Bool.rec (motive:=fun _=>Rac) (Bool.rec (motive:=fun _=>Rac) (Bool.rec (motive:=fun _=>Rac) (racD (Nat.sub n 84)) (racC (Nat.sub n 20)) (Nat.blt n 84)) (racB (Nat.sub n 4)) (Nat.blt n 20)) (racA n) (Nat.blt n 4)
def rg {α:Type} (i:Nat) (t:R α):α:=by
 refine(?f:(xRaw:α)->xRaw=(
  (racN i).g α t)->α) ?x ?p
 case p=>(try delta Acc.g Rac.g);exact rfl
 case f=>exact fun x _=>x
def rput {α:Type} (i:Nat) (x:α) (t:R α):R α:=by
 refine(?f:(xRaw:R α)->xRaw=(
  (racN i).p α x t)->R α) ?x ?p
 case p=>(try delta Acc.p Rac.p);exact rfl
 case f=>exact fun x _=>x
def rupd {α:Type} (i:Nat) (f:α->α) (t:R α):R α:=by
 refine(?f:(xRaw:R α)->xRaw=(
  (racN i).p α (f ((racN i).g α t)) t)->R α) ?x ?p
 case p=>(try delta Acc.g Acc.p Rac.g Rac.p);exact rfl
 case f=>exact fun x _=>x
structure V where
 r:List (R V)
 x:AV
 t:Nat
 f:Nat
 e:Nat
 d:Nat
 c:Nat
 b:Nat
 a:Nat
def vGen (x:AV):V:=⟨[],x,0,0,0,0,0,0,0⟩
def vLong (x:AV):V:=⟨[],x,11,0,0,0,0,0,0⟩
def vI:Nat->V:=V.mk [] .undef 1 0 0 0 0 0
def vT:V:=⟨[],.undef,2,0,0,0,0,0,0⟩
def vF:V:=⟨[],.undef,3,0,0,0,0,0,0⟩
def vP:Nat->Nat->Nat->V:=V.mk [] .undef 4 0 0 0
def vS:Nat->Nat->Nat->Nat->Nat->Nat->V:=V.mk [] .undef 5
def vN:V:=⟨[],.undef,6,0,0,0,0,0,0⟩
def vM:Nat->V:=V.mk [] .undef 7 0 0 0 0 0
def vFn (f:Nat) (n m:Nat) (r:R V):V:=⟨[r],.undef,8,0,0,0,n,m,f⟩
def vAgg (r:R V) (off n:Nat):V:=⟨[r],.undef,9,0,0,0,0,n,off⟩
def vTup (r:R V) (n:Nat):V:=⟨[r],.undef,10,0,0,0,0,n,0⟩
def vU:V:=vTup (rpR (vGen .nilFunc)) 0
def row0:R V:=rpR vU
def vB (b:Bool):V:=Bool.rec (motive:=fun _=>V) vF vT b
def bias:Nat:=4611686018427387904
structure LP where
 e:R V
 nt:Nat
 ps:List Nat
 asg:Code
 body:Code
 st:Nat
 pend:Nat
 D:Nat
structure FO where
 lp:LP
 rs:R (R V)
 m:List (AV × AV)
 t:Nat
 n:Nat
 sz:Nat
structure Fri where
 ds:List Nat
 rd:Nat
structure FH where
 h:T64 (T64 (T64 FO))
 next:Nat
 fr:Fri
def rs0:R (R V):=rpR row0
def lp0:LP:=⟨row0,0,[],.skip,.skip,0,0,0⟩
def fo0:FO:=⟨lp0,rs0,[],0,0,0⟩
def fr0:Fri:=⟨[],0⟩
def fh0:FH:=⟨rp64 (rp64 (rp64 fo0)),0,fr0⟩
def hget (b:Nat) (h:FH):FO:=by
 refine(?f:(xRaw:FO)->xRaw=(
  (accM b).g FO ((accM (Nat.div b 64)).g (T64 FO) ((accM (Nat.div b 4096)).g (T64 (T64 FO)) h.h)))->FO) ?x ?p
 case p=>(try delta FH.h Acc.g Rac.g);exact rfl
 case f=>exact fun x _=>x
def hupd (b:Nat) (f:FO->FO) (h:FH):FH:=by
 refine(?f:(xRaw:FH)->xRaw=(
  ⟨(accM (Nat.div b 4096)).p (T64 (T64 FO)) ((accM (Nat.div b 64)).p (T64 FO) ((accM b).p FO (f (hget b h)) ((accM (Nat.div b 64)).g (T64 FO) ((accM (Nat.div b 4096)).g (T64 (T64 FO)) h.h))) ((accM (Nat.div b 4096)).g (T64 (T64 FO)) h.h)) h.h,h.next,h.fr⟩)->FH) ?x ?p
 case p=>(try delta FH.h FH.next FH.fr Acc.g Acc.p Rac.g Rac.p);exact rfl
 case f=>exact fun x _=>x
def hput (b:Nat) (o:FO) (h:FH):FH:=hupd b (fun _=>o) h
def iff3 (b:Bool) (y n:Bool):Bool:=Bool.rec (motive:=fun _=>Bool) n y b
def frc (n:Nat) (k:Nat->Bool):Bool:=Nat.rec (motive:=fun _=>Bool) (k 0) (fun m _=>k (Nat.succ m)) n
def andB (a b:Bool):Bool:=Bool.rec (motive:=fun _=>Bool) false b a
def onSome {α:Type} (x:Option α) (f:α->Bool):Bool:=Option.rec (motive:=fun _=>Bool) false (fun p=>f p) x
def wrV (vs:List V):Nat->R V->R V:=List.rec (motive:=fun _=>Nat->R V->R V) (fun _ r=>r) (fun v _ ih o r=>ih (Nat.succ o) (rput o v r)) vs
def rowV (vs:List V):R V:=wrV vs 0 row0
def cpy (src:R V) (n:Nat):Nat->Nat->R V->R V:=Nat.rec (motive:=fun _=>Nat->Nat->R V->R V) (fun _ _ r=>r) (fun _ ih i o r=>ih (Nat.succ i) (Nat.succ o) (rput o (rg i src) r)) n
def cellsV (row:R V) (n:Nat):Nat->List V:=Nat.rec (motive:=fun _=>Nat->List V) (fun _=>[]) (fun _ ih o=>rg o row::ih (Nat.succ o)) n
def unb (a:Nat):Int:=Bool.rec (motive:=fun _=>Int) (Int.negSucc (Nat.pred (Nat.sub bias a))) (Int.ofNat (Nat.sub a bias)) (Nat.ble bias a)
def avN (n:Nat):V->Option AV:=by
 refine(?f:(xRaw:V->Option AV)->xRaw=(
  Nat.rec (motive:=fun _=>V->Option AV) (fun _=>none) (fun _ ih v=>match v.t with
   | 0=>some v.x
   | 1=>some (.int .i64 (unb v.a))
   | 2=>some (.bool true)
   | 3=>some (.bool false)
   | 4=>some (.ptr (some ⟨v.c,v.b,v.a⟩))
   | 5=>some (.slice (some ⟨v.f,v.e,v.d⟩) v.c v.b (Nat.beq (Nat.mod v.a 2) 1) (Nat.div v.a 2))
   | 6=>some (.ptr none)
   | 7=>some (.map (some v.a))
   | 8=>match v.r with
    | [r]=>match lmapO ih (cellsV r v.c 0),lmapO ih (cellsV r v.b v.c) with
     | some x,some y=>some (.func v.a x y)
     | _,_=>none
    | _=>none
   | 9=>match v.r with
    | [r]=>match lmapO ih (cellsV r v.b v.a) with | some x=>some (.agg x) | none=>none
    | _=>none
   | 10=>match v.r with
    | [r]=>match lmapO ih (cellsV r v.b 0) with | some x=>some (.tuple x) | none=>none
    | _=>none
   | 11=>some v.x
   | _=>none) n)->V->Option AV) ?x ?p
 case p=>(try delta V.r V.x V.t V.f V.e V.d V.c V.b V.a FO.t LP.e R.a R.b R.c R.d T4.a T4.b T4.c T4.d);exact rfl
 case f=>exact fun x _=>x
def av (v:V):Option AV:=avN 6 v
def mkInt (k:IntKind) (n:Int):V:=match k with
 | .i64=>match n with
  | .ofNat m=>match Nat.blt m bias with | true=>vI (Nat.add m bias) | false=>vGen (.int .i64 (.ofNat m))
  | .negSucc m=>match Nat.blt m bias with | true=>vI (Nat.sub bias (Nat.succ m)) | false=>vGen (.int .i64 (.negSucc m))
 | k=>vGen (.int k n)
def mkV (a:AV):V:=by
 refine(?f:(xRaw:V)->xRaw=(
  AV.rec (motive_1:=fun _=>V) (motive_2:=fun _=>Nat->R V->R V)
   (fun b=>vB b) (fun k n=>mkInt k n) (fun s=>vGen (.str s)) (fun p=>Option.rec (motive:=fun _=>V) vN (fun p=>Bool.rec (motive:=fun _=>V) (vGen (.ptr (some p))) (vP p.b p.r p.o) (Nat.blt p.b 262144)) p)
   (fun p l c s w=>Option.rec (motive:=fun _=>V) (vGen (.slice none l c s w)) (fun p=>Bool.rec (motive:=fun _=>V) (vGen (.slice (some p) l c s w)) (vS p.b p.r p.o l c (Nat.add (Nat.mul w 2) (Bool.rec (motive:=fun _=>Nat) 0 1 s))) (Nat.blt p.b 262144)) p)
   (vGen .empty) (fun p=>Option.rec (motive:=fun _=>V) (vGen (.map none)) (fun p=>Bool.rec (motive:=fun _=>V) (vGen (.map (some p))) (vM p) (Nat.blt p 262144)) p)
   (fun f x y ix iy=>Bool.rec (motive:=fun _=>V) (vGen (.func f x y)) (vFn f (llen x) (llen y) (iy (llen x) (ix 0 row0))) (Nat.ble (Nat.add (llen x) (llen y)) 4180))
   (fun n v _=>vGen (.mfunc n v)) (fun l=>vGen (.yield l)) (vGen .nilFunc) (fun t v _=>vGen (.iface t v)) (vGen .nilIface)
   (fun cs ih=>Bool.rec (motive:=fun _=>V) (vLong (.agg cs)) (vAgg (ih 0 row0) 0 (llen cs)) (Nat.ble (llen cs) 4180))
   (fun cs ih=>Bool.rec (motive:=fun _=>V) (vLong (.tuple cs)) (vTup (ih 0 row0) (llen cs)) (Nat.ble (llen cs) 4180))
   (fun _ r=>r) (fun _ _ v ih o r=>ih (Nat.succ o) (rput o v r)) a)->V) ?x ?p
 case p=>(try delta V.r V.b R.b T4.b);exact rfl
 case f=>exact fun x _=>x
def onOne {α:Type} (x:List α) (f:α->Bool):Bool:=List.rec (motive:=fun _=>Bool) false (fun p _ _=>f p) x
end
end Go.Ev
namespace Go.Ev
noncomputable section
section
variable (P:Program) (I:TypeId->Option TypeInfo)
def undG (t:TypeId):Option TypeDesc:=match I t with
 | some { desc:=.named _ u,.. }=>(I u).map (·.desc)
 | some i=>some i.desc
 | none=>none
def sizeG (t:TypeId):Option Nat:=match I t with | some i=>some i.size | none=>none
def bytesG (t:TypeId):Option Nat:=match I t with | some i=>some i.bytes | none=>none
def isAggG (t:TypeId):Option Bool:=match undG I t with | some (.struct _)=>some true | some (.array _ _)=>some true | some _=>some false | none=>none
def zeroG (t:TypeId):Option AV:=match I t with | some i=>(match i.zero with | some v=>ofVal v | none=>none) | none=>none
def zcellsG (t:TypeId) (n:Nat):Option (List AV):=match zeroG I t with | some z=>partCells n z | none=>none
def eqPlanG (cst:Bool):Nat->TypeId->Option EqP
 | 0,_=>none
 | d+1,t=>
  match undG I t with
  | some .bool=>some .pb
  | some (.int _)=>some .pi
  | some .string=>some .ps
  | some (.pointer e)=>match sizeG I e with | some (Nat.succ _)=>some .ptr | _=>none
  | some (.slice _)=>some .nls
  | some (.map _ _)=>some .nlm
  | some (.func _ _ _)=>some .nlf
  | some (.interface _)=>some (.iface cst)
  | some (.struct fs)=>
   match P.stoodInHeld t with
   | true=>none
   | false=>match lmapO (fun f:Field=>match f.name != "_",sizeG I f.type,isAggG I f.type,eqPlanG false d f.type with
     | true,some n,some g,some p=>some (f.offset,n,g,p)
     | _,_,_,_=>none) fs.toList with
    | some l=>some (.agg l)
    | none=>none
  | some (.array len elem)=>
   match sizeG I elem,isAggG I elem,eqPlanG false d elem with
   | some n,some g,some p=>some (.agg ((List.range len).map fun i=>(i * n,n,g,p)))
   | _,_,_=>none
  | _=>none
def fieldOfG (t:TypeId) (i:Nat):Option Field:=
 match undG I t with
 | some (.struct fs)=>fs[i]?
 | _=>none
def keyOkG (t:TypeId):Option EqP:=
 match undG I t with
 | some (.int _)=>some .pi
 | some .string=>some .ps
 | some .bool=>some .pb
 | _=>none
def cBuildG (t:TypeId) (parts:List (Nat × Operand)):Option AOp:=
 match undG I t,zeroG I t with
 | some (.struct fs),some (.agg z)=>
  match lmapO (fun p:Nat × Operand=>match fs[p.1]? with
    | some f=>match sizeG I f.type with | some n=>some (f.offset,n,p.2) | none=>none
    | none=>none) parts with
  | some l=>match lall (fun f:Field=>(sizeG I f.type).isSome) fs.toList with | true=>some (.build z l) | false=>none
  | none=>none
 | some (.array _ elem),some (.agg z)=>
  match sizeG I elem with
  | some n=>some (.build z (parts.map fun p=>(p.1 * n,n,p.2)))
  | none=>none
 | _,_=>none
def cBinG (op:BinOp) (t:TypeId) (x y:Operand):Option AOp:=
 match op with
 | .eql=>match P.eqGuardType P.depth t,undG I t with
  | true,some (.interface _)=>match eqPlanG P I (isConst x || isConst y) 20 t with | some p=>some (.eql false p x y) | none=>none
  | true,_=>none
  | false,_=>match eqPlanG P I (isConst x || isConst y) 20 t with | some p=>some (.eql false p x y) | none=>none
 | .neq=>match P.eqGuardType P.depth t,undG I t with
  | true,some (.interface _)=>match eqPlanG P I (isConst x || isConst y) 20 t with | some p=>some (.eql true p x y) | none=>none
  | true,_=>none
  | false,_=>match eqPlanG P I (isConst x || isConst y) 20 t with | some p=>some (.eql true p x y) | none=>none
 | _=>some (.arith op x y)
def cBuiltinG (b:Builtin) (ts:List TypeId) (args:List Operand):Option AOp:=
 match b,ts,args with
 | .len,[t],[x]=>match undG I t with
  | some .string=>some (.lenT x)
  | some (.slice _)=>some (.lenS x)
  | some (.map _ _)=>some (.lenM x)
  | some (.array n _)=>some (.lenC n)
  | some (.pointer a)=>match undG I a with | some (.array n _)=>some (.lenC n) | _=>none
  | _=>none
 | .cap,[t],[x]=>match undG I t with
  | some (.slice _)=>some (.cap x)
  | _=>none
 | .min,_,l=>some (.minmax false l)
 | .max,_,l=>some (.minmax true l)
 | .append,[t,u],[s,x]=>match undG I t with
  | some (.slice e)=>match sizeG I e,bytesG I e,undG I u with
   | some (Nat.succ n),some bs,some (.int _)=>match zcellsG I e (Nat.succ n) with
    | some z=>some (.appendZ (Nat.succ n) bs z s x)
    | none=>none
   | some (Nat.succ n),some bs,some (.slice _)=>match zcellsG I e (Nat.succ n) with
    | some _=>some (.append (Nat.succ n) bs s x)
    | none=>none
   | _,_,_=>none
  | _=>none
 | .copy,[t,_],[d,s]=>match undG I t with
  | some (.slice e)=>match sizeG I e with
   | some (Nat.succ n)=>some (.copy (Nat.succ n) d s)
   | _=>none
  | _=>none
 | .clear,[t],[x]=>match undG I t with
  | some (.slice e)=>match sizeG I e with
   | some (Nat.succ n)=>match zcellsG I e (Nat.succ n) with
    | some z=>some (.clear (Nat.succ n) z x)
    | none=>none
   | _=>none
  | _=>none
 | .delete,[t,_],[m,k]=>match undG I t with
  | some (.map kt _)=>match keyOkG I kt with | some kk=>some (.delete kk m k) | none=>none
  | _=>none
 | _,_,_=>none
end
def cq1 (P:Program) (I:TypeId->Option TypeInfo) (t:TypeId):Option AOp:=match sizeG I t with
  | some (Nat.succ n)=>match zcellsG I t (Nat.succ n) with
   | some z=>some (.alloc (Nat.succ n) z)
   | none=>none
  | _=>none
def cq2 (P:Program) (I:TypeId->Option TypeInfo) (t:TypeId) (x:Operand):Option AOp:=match sizeG I t with | some (Nat.succ n)=>some (.box (Nat.succ n) x) | _=>none
def cq3 (P:Program) (I:TypeId->Option TypeInfo) (t:TypeId) (len:Nat) (parts:Array (Nat × Operand)):Option AOp:=match undG I t with
  | some (.slice e)=>match sizeG I e with
   | some (Nat.succ n)=>match zcellsG I e (Nat.succ n) with
    | some z=>match Nat.ble (len * Nat.succ n) 16777216 with
     | true=>some (.bslice (Nat.succ n) len z parts.toList)
     | false=>none
    | none=>none
   | _=>none
  | _=>none
def cq4 (P:Program) (I:TypeId->Option TypeInfo) (t:TypeId) (x:Operand):Option AOp:=match isAggG I t,sizeG I t with
  | some g,some (Nat.succ n)=>match g,n with
   | false,Nat.succ _=>none
   | _,_=>some (.load g (Nat.succ n) x)
  | _,_=>none
def cq5 (P:Program) (I:TypeId->Option TypeInfo) (t:TypeId) (a:Operand) (x:Operand):Option AOp:=match sizeG I t with | some (Nat.succ n)=>some (.store (Nat.succ n) a x) | _=>none
def cq6 (P:Program) (I:TypeId->Option TypeInfo) (s:TypeId) (d:TypeId) (x:Operand):Option AOp:=match undG I s,undG I d with
  | some (.int _),some (.int k)=>some (.convI k x)
  | some .string,some .string=>some (.convS x)
  | some (.slice e),some .string=>match undG I e,sizeG I e with
   | some (.int .u8),some 1=>some (.b2s x)
   | _,_=>none
  | _,_=>none
def cq7 (P:Program) (I:TypeId->Option TypeInfo) (t:TypeId) (x:Operand):Option AOp:=match undG I t with
  | some (.interface _)=>none
  | some _=>some (.mkif t x)
  | none=>none
def cq8 (P:Program) (I:TypeId->Option TypeInfo) (n:String) (first:Array Operand) (cap:Array Operand):Option AOp:=match first.toList,cap.toList with
  | [x],[]=>some (.mkmf n x)
  | _,_=>none
def cq9 (P:Program) (I:TypeId->Option TypeInfo) (t:TypeId) (m:Operand) (k:Operand) (v:Operand):Option AOp:=by
 refine(?f:(xRaw:Option AOp)->xRaw=(
  match undG I t with
    | some (.map kt _)=>match keyOkG I kt with | some kk=>some (.ins false kk m k v) | none=>none
    | _=>none)->Option AOp) ?x ?p
 case p=>exact rfl
 case f=>exact fun x _=>x
def cq10 (P:Program) (I:TypeId->Option TypeInfo) (t:TypeId) (m:Operand) (k:Operand) (v:Operand):Option AOp:=by
 refine(?f:(xRaw:Option AOp)->xRaw=(
  match undG I t with
    | some (.map kt _)=>match keyOkG I kt with | some kk=>some (.ins true kk m k v) | none=>none
    | _=>none)->Option AOp) ?x ?p
 case p=>exact rfl
 case f=>exact fun x _=>x
def cq11 (P:Program) (I:TypeId->Option TypeInfo) (t:TypeId) (l:Operand) (c:Operand):Option AOp:=match undG I t with
  | some (.slice e)=>match sizeG I e,bytesG I e with
   | some (Nat.succ n),some bs=>match zcellsG I e (Nat.succ n) with
    | some z=>some (.mkslice (Nat.succ n) bs z l c)
    | none=>none
   | _,_=>none
  | _=>none
def cq12 (P:Program) (I:TypeId->Option TypeInfo) (t:TypeId) (x:Operand) (lo:Option Operand) (hi:Option Operand) (mx:Option Operand):Option AOp:=match undG I t with
  | some (.slice e)=>match sizeG I e with | some (Nat.succ n)=>some (.slc (Nat.succ n) x lo hi mx) | _=>none
  | some (.array n e)=>match sizeG I e with | some (Nat.succ k)=>some (.slcA n (Nat.succ k) x lo hi mx) | _=>none
  | some .string=>match mx with | none=>some (.slcS x lo hi) | some _=>none
  | _=>none
def cq13 (P:Program) (I:TypeId->Option TypeInfo) (t:TypeId) (x:Operand) (i:Nat):Option AOp:=match fieldOfG I t i with
  | some f=>match sizeG I f.type with | some (Nat.succ _)=>some (.faddr f.offset x) | _=>none
  | none=>none
def cq14 (P:Program) (I:TypeId->Option TypeInfo) (t:TypeId) (x:Operand) (i:Nat):Option AOp:=match fieldOfG I t i with
  | some f=>match sizeG I f.type,isAggG I f.type with
   | some (Nat.succ n),some g=>match g,n with
    | false,Nat.succ _=>none
    | _,_=>some (.fld f.offset (Nat.succ n) g x)
   | _,_=>none
  | none=>none
def cq15 (P:Program) (I:TypeId->Option TypeInfo) (t:TypeId) (x:Operand) (i:Operand):Option AOp:=match undG I t with
  | some (.slice e)=>match sizeG I e with | some (Nat.succ n)=>some (.iaddrS (Nat.succ n) x i) | _=>none
  | some (.array n e)=>match sizeG I e with | some (Nat.succ k)=>some (.iaddrA n (Nat.succ k) x i) | _=>none
  | _=>none
def cq16 (P:Program) (I:TypeId->Option TypeInfo) (t:TypeId) (x:Operand) (i:Operand):Option AOp:=match undG I t with
  | some (.array n e)=>match sizeG I e,isAggG I e with
   | some (Nat.succ k),some g=>match g,k with
    | false,Nat.succ _=>none
    | _,_=>some (.idxA n (Nat.succ k) g x i)
   | _,_=>none
  | some .string=>some (.idxS x i)
  | _=>none
def cq17 (P:Program) (I:TypeId->Option TypeInfo) (t:TypeId) (m:Operand) (k:Operand) (ok:Bool):Option AOp:=match undG I t with
  | some (.map kt e)=>match keyOkG I kt,zeroG I e with
   | some kk,some z=>some (.look kk z ok m k)
   | _,_=>none
  | _=>none
def cq18 (P:Program) (I:TypeId->Option TypeInfo) (c:Call):Option AOp:=by
 refine(?f:(xRaw:Option AOp)->xRaw=(
  match c.callee with
    | .value f=>some (.call f c.args.toList)
    | .invoke r n=>some (.invoke r n c.args.toList)
    | .builtin b=>cBuiltinG I b c.argTypes.toList c.args.toList)->Option AOp) ?x ?p
 case p=>exact rfl
 case f=>exact fun x _=>x
def cq19 (P:Program) (I:TypeId->Option TypeInfo) (c:Call):Option AOp:=match c.callee with
  | .value f=>some (.defr f c.args.toList)
  | _=>none
def cqFn (P:Program) (I:TypeId->Option TypeInfo) (f:Go.Fn) (first cap:Array Operand):Option AOp:=match f with
 | .func f=>some (.mkfn f first.toList cap.toList)
 | .method n=>cq8 P I n first cap
 | _=>none
def cqMm (r:Option Operand):Option AOp:=match r with | none=>some .mkmap | some _=>none
def cOpG (P:Program) (I:TypeId->Option TypeInfo) (op:Op):Option AOp:=Op.rec (motive:=fun _=>Program->(TypeId->Option TypeInfo)->Option AOp)
 (fun y0 P I=>some (.mv y0)) (fun y0 P I=>some (.mv y0)) (fun y0 y1 y2 P I=>some (.pick y0 y1 y2)) (fun y0 P I=>cq1 P I y0) (fun y0 y1 P I=>cq2 P I y0 y1) (fun y0 y1 P I=>cBuildG I y0 y1.toList) (fun y0 y1 y2 P I=>cq3 P I y0 y1 y2) (fun y0 y1 y2 y3 P I=>cq10 P I y0 y1 y2 y3) (fun y0 y1 P I=>cq4 P I y0 y1) (fun y0 y1 y2 P I=>cq5 P I y0 y1 y2) (fun y0 P I=>none) (fun y0 P I=>none) (fun y0 P I=>some (.nilchk y0)) (fun y0 y1 y2 y3 y4 P I=>cBinG P I y0 y1 y2 y3) (fun y0 y1 y2 P I=>some (.un y0 y2)) (fun y0 y1 y2 P I=>cq6 P I y0 y1 y2) (fun y0 y1 P I=>none) (fun y0 y1 P I=>cq7 P I y0 y1) (fun y0 y1 y2 P I=>cqFn P I y0 y1 y2) (fun y0 y1 P I=>cqMm y1) (fun y0 y1 P I=>none) (fun y0 y1 y2 P I=>cq11 P I y0 y1 y2) (fun y0 y1 y2 y3 y4 P I=>cq12 P I y0 y1 y2 y3 y4) (fun y0 y1 y2 P I=>cq13 P I y0 y1 y2) (fun y0 y1 y2 P I=>cq14 P I y0 y1 y2) (fun y0 y1 y2 P I=>cq15 P I y0 y1 y2) (fun y0 y1 y2 P I=>cq16 P I y0 y1 y2) (fun y0 y1 y2 y3 P I=>cq17 P I y0 y1 y2 y3) (fun y0 y1 y2 y3 P I=>cq9 P I y0 y1 y2 y3) (fun y0 y1 y2 P I=>none) (fun y0 y1 y2 y3 P I=>none) (fun y0 y1 P I=>none) (fun y0 y1 P I=>none) (fun y0 P I=>none) (fun y0 y1 y2 y3 P I=>none) (fun y0 y1 P I=>some (.extract y0 y1)) (fun y0 P I=>cq18 P I y0) (fun y0 P I=>none) (fun y0 P I=>cq19 P I y0) (fun y0 P I=>none) (fun y0 y1 P I=>none) (fun y0 y1 y2 P I=>none) (fun y0 y1 P I=>none) op P I
def infF (P:Program) (t:TypeId):Option TypeInfo:=match lget P.types.toList t with | some i=>some i | none=>P.info? t
def cOpF (P:Program) (op:Op):Option AOp:=cOpG P (infF P) op
theorem eqPlanG_eq (P:Program):∀ (n:Nat) (cst:Bool) (t:TypeId),eqPlanG P P.info? cst n t=eqPlan P cst n t:=by
 intro n
 induction n with
 | zero=>intro cst t;rfl
 | succ n ih=>
  intro cst t
  unfold eqPlanG eqPlan
  simp only [ih]
  rfl
theorem cBinG_eq (P:Program) (op:BinOp) (t:TypeId) (x y:Operand):cBinG P P.info? op t x y=cBin P op t x y:=by
 unfold cBinG cBin
 simp only [eqPlanG_eq]
 rfl
theorem cOpG_eq (P:Program) (op:Op):cOpG P P.info? op=cOp P op:=by
 cases op with
 | binOp op t x y z=>exact cBinG_eq P op t x y
 | _=>first | rfl | (rename_i fn a b;cases fn <;> rfl) | (rename_i fn a b;cases fn <;> cases a <;> cases b <;> rfl) | (rename_i t r;cases r <;> rfl)
theorem infF_eq (P:Program):infF P=P.info?:=by
 funext t
 unfold infF
 have hl:∀ (l:List TypeInfo) (n:Nat),lget l n=l[n]?:=by
  intro l
  induction l with
  | nil=>intro n;rfl
  | cons a l ih=>intro n;cases n with | zero=>rfl | succ n=>rw [List.getElem?_cons_succ];exact ih n
 rw [hl,Array.getElem?_toList]
 split
 ·rename_i i hi
  have hlt:t < P.types.size:=(Array.getElem?_eq_some_iff.1 hi).1
  have:P.info? t=P.types[t]?:=if_pos hlt
  rw [this,hi]
 ·rfl
theorem cOpF_eq (P:Program) (op:Op):cOpF P op=cOp P op:=by
 unfold cOpF
 rw [infF_eq,cOpG_eq]
def cOperF (P:Program) (nt:Nat) (o:Oper):AOper:=match o.dst with
 | none=>⟨none,(cOpF P o.op).getD .bad,o.guard⟩
 | some d=>match Nat.blt d nt with
  | true=>⟨some d,(cOpF P o.op).getD .bad,o.guard⟩
  | false=>⟨none,(cOpF P o.op).getD .bad,o.guard⟩
theorem cOperF_eq (P:Program) (nt:Nat) (o:Oper):cOperF P nt o=cOper P nt o:=by
 unfold cOperF cOper
 rw [cOpF_eq]
 rfl
def foP (i:Nat):FO:=⟨⟨row0,i,[],.skip,.skip,0,0,0⟩,rs0,[],5,0,0⟩
def fhP:FH:=by
 refine(?f:(xRaw:FH)->xRaw=(
  ⟨(hput 0 (foP 0) fh0).h,1,fr0⟩)->FH) ?x ?p
 case p=>(try delta FH.h);exact rfl
 case f=>exact fun x _=>x
abbrev Env:=R V
def szOk (sz:Nat):Bool:=Nat.ble 1 sz && Nat.ble sz 4180
structure CallT where
 call:FuncId->List V->FH->(V->FH->Bool)->Bool
 yld:Nat->List V->FH->(V->FH->Bool)->Bool
def noCall:CallT:=⟨fun _ _ _ _=>false,fun _ _ _ _=>false⟩
structure Fx where
 get:Env->V
def fxOk (nt:Nat) (x:Operand):Bool:=
 match x with
 | .tmp t=>Nat.blt t nt
 | .const v=>(ofVal v).isSome
 | .global _=>false
 | .func _=>true
def fxs (nt:Nat) (l:List Operand):Bool:=lall (fxOk nt) l
def fx (x:Operand):Fx:=by
 refine(?f:(xRaw:Fx)->xRaw=(
  match x with
   | .tmp t=>⟨(racN t).g V⟩
   | .const v=>⟨fun _=>mkV ((ofVal v).getD .undef)⟩
   | .global _=>⟨fun _=>vU⟩
   | .func f=>⟨fun _=>mkV (.func f [] [])⟩)->Fx) ?x ?p
 case p=>(try delta Acc.g Rac.g);exact rfl
 case f=>exact fun x _=>x
def gets (l:List Operand) (e:Env):List V:=by
 refine(?f:(xRaw:List V)->xRaw=(
  List.rec (motive:=fun _=>List V) [] (fun x _ ih=>(fx x).get e::ih) l)->List V) ?x ?p
 case p=>(try delta Fx.get);exact rfl
 case f=>exact fun x _=>x
structure Fs where
 put:V->Env->Env
def fs (d:Option Nat):Fs:=by
 refine(?f:(xRaw:Fs)->xRaw=(
  match d with | none=>⟨fun _ e=>e⟩ | some d=>⟨(racN d).p V⟩)->Fs) ?x ?p
 case p=>(try delta Acc.p Rac.p);exact rfl
 case f=>exact fun x _=>x
def bytesEq (a:List UInt8):List UInt8->Bool:=List.rec (motive:=fun _=>List UInt8->Bool) (fun b=>List.rec (motive:=fun _=>Bool) true (fun _ _ _=>false) b)
 (fun x _ ih b=>List.rec (motive:=fun _=>Bool) false (fun y t _=>iff3 (Nat.beq x.toNat y.toNat) (ih t) false) b) a
def beqB (a b:ByteArray):Bool:=bytesEq a.data.toList b.data.toList
def primEqF (p:EqP) (x y:AV):Option Bool:=by
 refine(?f:(xRaw:Option Bool)->xRaw=(
  match p with
   | .ps=>match x with
    | .str a=>match y with | .str b=>some (beqB a b) | _=>none
    | _=>none
   | p=>primEq p x y)->Option Bool) ?x ?p
 case p=>(try delta LP.ps);exact rfl
 case f=>exact fun x _=>x
def lookInF (p:EqP) (k:AV) (es:List (AV × AV)):Option (Option AV):=
 lfold (fun (r:Option AV) (e:AV × AV)=>match primEqF p k e.1 with | some true=>some (some e.2) | some false=>some r | none=>none) es none
def putInF (p:EqP) (k v:AV) (es:List (AV × AV)):Option (List (AV × AV)):=
 match primEqF p k k with
 | some true=>match lookInF p k es with
  | some none=>some (lapp es [(k,v)])
  | some (some _)=>lmapO (fun e:AV × AV=>match primEqF p k e.1 with | some true=>some (e.1,v) | some false=>some e | none=>none) es
  | none=>none
 | _=>none
def delInF (p:EqP) (k:AV) (es:List (AV × AV)):Option (List (AV × AV)):=
 match lookInF p k es with
 | some none=>some es
 | some (some _)=>some (es.filter fun e=>match primEqF p k e.1 with | some true=>false | _=>true)
 | none=>none
def eqByF (n:Nat) (p:EqP) (x y:AV):Option Bool:=by
 refine(?f:(xRaw:Option Bool)->xRaw=(
  match p with
   | .ps=>primEqF .ps x y
   | .agg ps=>match x,y with
    | .agg xs,.agg ys=>match n with
     | 0=>none
     | d+1=>lfold (fun (b:Bool) q=>match b with
       | false=>some false
       | true=>match part q.2.2.1 xs q.1 q.2.1,part q.2.2.1 ys q.1 q.2.1 with
        | some u,some v=>(match q.2.2.2 with | .ps=>(match d with | 0=>none | _+1=>primEqF .ps u v) | r=>eqBy d r u v)
        | _,_=>none) ps true
    | _,_=>none
   | p=>eqBy n p x y)->Option Bool) ?x ?p
 case p=>(try delta LP.ps);exact rfl
 case f=>exact fun x _=>x
def onBoolV (v:V) (y n:Bool):Bool:=by
 refine(?f:(xRaw:Bool)->xRaw=(
  iff3 (Nat.beq v.t 2) y (iff3 (Nat.beq v.t 3) n false))->Bool) ?x ?p
 case p=>(try delta V.t FO.t);exact rfl
 case f=>exact fun x _=>x
def onIntV (v:V) (f:Nat->Bool):Bool:=by
 refine(?f:(xRaw:Bool)->xRaw=(
  iff3 (andB (Nat.beq v.t 1) (Nat.ble bias v.a)) (f (Nat.sub v.a bias)) false)->Bool) ?x ?p
 case p=>(try delta V.t V.a FO.t R.a T4.a);exact rfl
 case f=>exact fun x _=>x
def exSy (x:AV):List AV:=match x with | .agg cs=>cs | _=>[]
def symK (v:V):Bool:=Nat.beq v.t 1 || ((Nat.beq v.t 12 || Nat.beq v.t 14) && Nat.beq v.f 0)
def loV (v:V):Nat:=match Nat.beq v.t 12 with | true=>v.d | false=>(match Nat.beq v.t 14 with | true=>Nat.add bias bias | false=>Nat.add v.a bias)
def hiV (v:V):Nat:=match Nat.beq v.t 12 with | true=>v.e | false=>(match Nat.beq v.t 14 with | true=>Nat.add v.b (Nat.add bias bias) | false=>Nat.add v.a bias)
def neSy (m:Int) (c:AV):Bool:=match c with | .int .i64 n=>!(ieq n m) | _=>true
def exHas (u v:V):Bool:=match Nat.beq u.t 12 && Nat.beq v.t 1 with
 | true=>!(lall (neSy (unb v.a)) (exSy u.x))
 | false=>false
def symNe (u v:V):Bool:=Nat.blt (hiV u) (loV v) || (Nat.blt (hiV v) (loV u) || (exHas u v || exHas v u))
def sameSy (u v:V):Bool:=Nat.beq u.t v.t && (Nat.beq u.a v.a && (Nat.beq u.t 1 || (Nat.beq u.t 12 && (Nat.beq u.b v.b && Nat.beq u.c v.c))))
def symEq (u v:V):Option Bool:=match symK u && symK v with
 | true=>match symNe u v with
  | true=>some false
  | false=>match sameSy u v with | true=>some true | false=>none
 | false=>none
def rowSy (v:V):R V:=match v.r with | [r]=>r | _=>row0
def symE (p:EqP) (x y:V):Option Bool:=match p with
 | .pi=>symEq x y
 | .agg ps=>match Nat.beq x.t 9 && Nat.beq y.t 9 with
  | true=>lfold (fun (b:Bool) q=>match b with
    | false=>some false
    | true=>match q.2.2.2 with
     | .pi=>match !q.2.2.1 && (Nat.blt q.1 x.b && Nat.blt q.1 y.b) with
      | true=>symEq (rg (Nat.add x.a q.1) (rowSy x)) (rg (Nat.add y.a q.1) (rowSy y))
      | false=>none
     | _=>none) ps true
  | false=>none
 | _=>none
def symLt (x y:V) (s:Bool):Option V:=match symK x && symK y with
 | true=>match Nat.blt (hiV x) (loV y) with
  | true=>some (vB s)
  | false=>match Nat.ble (hiV y) (loV x) with | true=>some (vB (!s)) | false=>none
 | false=>none
def u8K (v:V):Option Nat:=match Nat.beq v.t 0 with
 | true=>(match v.x with | .int .u8 (.ofNat n)=>(match Nat.ble n 255 with | true=>some n | false=>none) | _=>none)
 | false=>none
def i64K (v:V):Option Nat:=match Nat.beq v.t 1 && Nat.ble bias v.a with | true=>some (Nat.sub v.a bias) | false=>none
def natK (f:Nat) (v:V):Option Nat:=match f with | 0=>i64K v | _=>u8K v
def natV (f n:Nat):V:=match f with | 0=>vI (Nat.add n bias) | _=>vGen (.int .u8 (.ofNat n))
def dec (c:Nat) (n:Int):Int:=match c with
 | 0=>n
 | c=>match Nat.blt c 16 with
  | true=>n % (c:Int)
  | false=>match Nat.blt c 32 with
   | true=>n / ((c - 16:Nat):Int)
   | false=>(n / (((c - 32) / 16:Nat):Int)) % (((c - 32) % 16:Nat):Int)
def byteS (x:V):Bool:=Nat.beq x.t 12 && (Nat.beq x.f 1 && (Nat.beq x.c 0 && (Nat.beq x.b bias && (Nat.ble (Nat.add bias bias) x.d && Nat.ble x.e (Nat.add 255 (Nat.add bias bias))))))
def byteV (hi a:Nat):V:=⟨[],.undef,12,1,Nat.add hi (Nat.add bias bias),Nat.add bias bias,0,bias,a⟩
def byteW (lo hi a:Nat):V:=⟨[],.undef,12,1,Nat.add hi (Nat.add bias bias),Nat.add lo (Nat.add bias bias),0,bias,a⟩
def resSy (x:AV):Option (Nat × Nat × Nat):=match x with | .tuple [.int .u8 (.ofNat m),.int .u8 (.ofNat lo),.int .u8 (.ofNat hi)]=>some (m,lo,hi) | _=>none
def symRes (x:AV) (c a:Nat):V:=match resSy x with
 | some (m,lo,hi)=>match Nat.beq m c && Nat.ble hi 255 with
  | true=>match Nat.beq lo hi with | true=>natV 1 lo | false=>byteW lo hi (Nat.add a (Nat.mul 1000 c))
  | false=>byteV (Nat.pred c) (Nat.add a (Nat.mul 1000 c))
 | none=>byteV (Nat.pred c) (Nat.add a (Nat.mul 1000 c))
def symRemI (x y:V):Option V:=match Nat.beq x.t 12 && (Nat.beq x.f 0 && Nat.ble (Nat.add bias bias) x.d) with
 | true=>match resSy x.x with
  | some (m,lo,hi)=>match i64K y with
   | some c=>match Nat.beq m c && (Nat.beq lo hi && (Nat.ble 1 c && Nat.ble lo 255)) with
    | true=>some (natV 0 lo)
    | false=>none
   | none=>none
  | none=>none
 | false=>none
def symRemB (x:V) (c:Nat):Option V:=match resSy x.x with
 | some (m,lo,hi)=>match Nat.beq m c && (Nat.beq lo hi && (Nat.ble 1 c && Nat.ble lo 255)) with
  | true=>some (natV 1 lo)
  | false=>none
 | none=>none
def symRem (x y:V):Option V:=match byteS x with
 | true=>match u8K y with
  | some c=>match Nat.ble 1 c && Nat.ble c 15 with
   | true=>match Nat.blt x.a 1000 with
    | true=>some (symRes x.x c x.a)
    | false=>match Nat.ble 16000 x.a && Nat.blt x.a 32000 with
     | true=>some (byteV (Nat.pred c) (Nat.add (Nat.mod x.a 1000) (Nat.mul 1000 (Nat.add 32 (Nat.add (Nat.mul 16 (Nat.sub (Nat.div x.a 1000) 16)) c)))))
     | false=>none
   | false=>symRemB x c
  | none=>none
 | false=>symRemI x y
def symQuo (x y:V):Option V:=match byteS x with
 | true=>match u8K y with
  | some c=>match Nat.ble 1 c && (Nat.ble c 15 && Nat.blt x.a 1000) with
   | true=>some (byteV (Nat.div 255 c) (Nat.add x.a (Nat.mul 1000 (Nat.add 16 c))))
   | false=>none
  | none=>none
 | false=>none
def bitsV (f e d b a:Nat):V:=⟨[],.undef,14,f,e,d,0,b,a⟩
def symBits (neg:Bool) (x y:V):Option V:=match Nat.beq x.t 14 with
 | true=>match natK x.f y with
  | some m=>match !neg || Nat.ble m 255 with
   | true=>match (match neg with | true=>Nat.land x.b (Nat.sub 255 m) | false=>Nat.land x.b m) with
    | b=>match Nat.beq (Nat.land b x.d) b with
     | true=>some (natV x.f (Nat.land x.e b))
     | false=>some (bitsV x.f x.e x.d b x.a)
   | false=>none
  | none=>none
 | false=>none
def symPlus (x:V) (n:Nat):Option V:=match Nat.beq x.t 12 && (Nat.beq x.f 0 && (Nat.ble bias (Nat.add x.b n) && (Nat.ble bias (Nat.add x.d n) && (Nat.ble bias (Nat.add x.e n) && Nat.blt (Nat.sub (Nat.add x.e n) bias) 18446744073709551616)))) with
 | true=>some ⟨[],.undef,12,0,Nat.sub (Nat.add x.e n) bias,Nat.sub (Nat.add x.d n) bias,x.c,Nat.sub (Nat.add x.b n) bias,x.a⟩
 | false=>none
def symNeg (x:V):Option V:=match Nat.beq x.t 12 && (Nat.beq x.f 0 && (Nat.ble x.c 1 && (Nat.ble x.b (Nat.add bias bias) && (Nat.ble 1 x.d && (Nat.ble x.d 18446744073709551616 && Nat.ble x.e 18446744073709551616))))) with
 | true=>some ⟨[],.undef,12,0,Nat.sub 18446744073709551616 x.d,Nat.sub 18446744073709551616 x.e,Nat.sub 1 x.c,Nat.sub (Nat.add bias bias) x.b,x.a⟩
 | false=>none
def symAdd (x y:V):Option V:=match Nat.beq y.t 1 with
 | true=>symPlus x y.a
 | false=>match Nat.beq x.t 1 with | true=>symPlus y x.a | false=>none
def symSub (x y:V):Option V:=match Nat.beq y.t 1 with
 | true=>match Nat.ble y.a (Nat.add bias bias) with | true=>symPlus x (Nat.sub (Nat.add bias bias) y.a) | false=>none
 | false=>match Nat.beq x.t 1 with
  | true=>match symNeg y with | some z=>symPlus z x.a | none=>none
  | false=>none
def symB (op:BinOp) (x y:V):Option V:=match op with
 | .lss=>symLt x y true
 | .gtr=>symLt y x true
 | .leq=>symLt y x false
 | .geq=>symLt x y false
 | .add=>symAdd x y
 | .sub=>symSub x y
 | .rem=>symRem x y
 | .quo=>symQuo x y
 | .and=>symBits false x y
 | .andNot=>symBits true x y
 | _=>none
def symConv (k:IntKind) (x:V):Option V:=match k with
 | .i64=>match Nat.beq x.t 12 || Nat.beq x.t 14 with
  | true=>match Nat.ble x.f 1 with
   | true=>some ⟨[],x.x,x.t,0,x.e,x.d,x.c,x.b,x.a⟩
   | false=>none
  | false=>none
 | _=>none
def symMM (mx:Bool) (x y:V):Option V:=match symK x && symK y with
 | true=>match Nat.ble (hiV x) (loV y) with
  | true=>some (match mx with | true=>y | false=>x)
  | false=>match Nat.ble (hiV y) (loV x) with
   | true=>some (match mx with | true=>x | false=>y)
   | false=>none
 | false=>none
def anySy (l:List V):Bool:=!(lall (fun v:V=>Nat.ble v.t 11) l)
def symV (i lo hi:Nat) (ex:List AV):V:=⟨[],.agg ex,12,0,hi,lo,0,bias,i⟩
structure Bn where
 run:V->V->(V->Bool)->Bool
def bothI (x y:V):Bool:=Nat.beq (Nat.add (Nat.mul x.t 32) y.t) 33
def genB (op:BinOp) (x y:V) (f:V->Bool):Bool:=iff3 (Nat.blt 11 (Nat.max x.t y.t)) (onSome (symB op x y) f) (onSome (av x) fun a=>onSome (av y) fun b=>onSome (binV op a b) fun v=>f (mkV v))
def sumI (s:Nat) (f:V->Bool) (g:Bool):Bool:=iff3 (Nat.beq (Nat.div s bias) 2) (f (vI (Nat.sub s bias))) (iff3 (Nat.beq (Nat.div s bias) 1) (f (vI (Nat.sub s bias))) g)
def binF (op:BinOp):Bn:=
 match op with
 | .add=>⟨fun x y f=>iff3 (bothI x y) (sumI (Nat.add x.a y.a) f (genB .add x y f)) (genB .add x y f)⟩
 | .sub=>⟨fun x y f=>iff3 (bothI x y) (iff3 (Nat.beq (Nat.div (Nat.sub (Nat.add x.a bias) y.a) bias) 1) (f (vI (Nat.sub (Nat.add x.a bias) y.a))) (genB .sub x y f)) (genB .sub x y f)⟩
 | .lss=>⟨fun x y f=>iff3 (bothI x y) (f (vB (Nat.blt x.a y.a))) (genB .lss x y f)⟩
 | .leq=>⟨fun x y f=>iff3 (bothI x y) (f (vB (Nat.ble x.a y.a))) (genB .leq x y f)⟩
 | .gtr=>⟨fun x y f=>iff3 (bothI x y) (f (vB (Nat.blt y.a x.a))) (genB .gtr x y f)⟩
 | .geq=>⟨fun x y f=>iff3 (bothI x y) (f (vB (Nat.ble y.a x.a))) (genB .geq x y f)⟩
 | op=>⟨genB op⟩
def genE (neg:Bool) (p:EqP) (x y:V) (f:V->Bool):Bool:=Option.rec (motive:=fun _=>Bool) (onSome (symE p x y) fun b=>f (vB (iff3 neg (iff3 b false true) b))) (fun a=>Option.rec (motive:=fun _=>Bool) (onSome (symE p x y) fun b=>f (vB (iff3 neg (iff3 b false true) b))) (fun b=>onSome (eqByF 20 p a b) fun b=>f (vB (iff3 neg (iff3 b false true) b))) (av y)) (av x)
def eqlF (neg:Bool) (p:EqP):Bn:=
 match p with
 | .pi=>match neg with
  | true=>⟨fun x y f=>iff3 (bothI x y) (f (vB (iff3 (Nat.beq x.a y.a) false true))) (genE true .pi x y f)⟩
  | false=>⟨fun x y f=>iff3 (bothI x y) (f (vB (Nat.beq x.a y.a))) (genE false .pi x y f)⟩
 | p=>⟨genE neg p⟩
def oneV (v:V) (f:V->Bool):Bool:=iff3 (Nat.blt v.t 9) (f v) (iff3 (andB (Nat.beq v.t 9) (Nat.beq v.b 1)) (onOne v.r fun s=>frc v.a fun i=>f (rg i s)) (iff3 (Nat.blt 11 v.t) (f v) false))
structure Pc where
 run:V->R V->(R V->Bool)->Bool
def pcF (n o:Nat):Pc:=
 match n with
 | 1=>⟨fun v r f=>oneV v fun v=>f ((racN o).p V v r)⟩
 | n=>⟨fun v r f=>iff3 (andB (Nat.beq v.t 9) (Nat.beq v.b n)) (onOne v.r fun s=>frc v.a fun i=>f (cpy s n i o r)) false⟩
structure Pr where
 run:V->(R V->Bool)->Bool
def prF (n:Nat):Pr:=
 match n with
 | 1=>⟨fun v f=>oneV v fun v=>f ((racN 0).p V v row0)⟩
 | n=>⟨fun v f=>iff3 (andB (Nat.beq v.t 9) (Nat.beq v.b n)) (onOne v.r fun s=>frc v.a fun i=>iff3 (Nat.beq i 0) (f s) (f (cpy s n i 0 row0))) false⟩
structure Fa where
 run:Env->(FO->(Nat->V)->Bool)->Bool
def fo1 (r:R V) (sz:Nat):FO:=⟨lp0,rput 0 r rs0,[],1,1,sz⟩
def fon (rs:R (R V)) (n sz:Nat):FO:=⟨lp0,rs,[],1,n,sz⟩
def rowA (cs:List AV):R V:=rowV (cs.map mkV)
def partsF (sz len:Nat) (parts:List (Nat × Operand)) (e:Env) (f:R (R V)->Bool):R (R V)->Bool:=
 List.rec (motive:=fun _=>R (R V)->Bool) (fun rs=>f rs) (fun p _ ih rs=>(prF sz).run ((fx p.2).get e) fun r=>ih (rput p.1 r rs)) parts
def noFa:Fa:=⟨fun _ _=>false⟩
def faalloc (nt:Nat) (n:Nat) (cs:List AV):Fa:=match Nat.beq (llen cs) n && Nat.ble n 4180 && lall AV.one cs with
  | true=>⟨fun _ f=>f (fo1 (rowA cs) n) fun b=>vP b 0 0⟩
  | false=>⟨fun _ _=>false⟩
def fabox (nt:Nat) (n:Nat) (x:Operand):Fa:=match fxOk nt x && Nat.ble n 4180 with
  | true=>⟨fun e f=>(prF n).run ((fx x).get e) fun r=>f (fo1 r n) fun b=>vP b 0 0⟩
  | false=>⟨fun _ _=>false⟩
def fabslice (nt:Nat) (sz:Nat) (len:Nat) (z:List AV) (parts:List (Nat × Operand)):Fa:=match Nat.beq (llen z) sz && Nat.ble sz 4180 && Nat.ble len 4180 && lall AV.one z && lall (fun p:Nat × Operand=>fxOk nt p.2 && Nat.blt p.1 len) parts with
  | true=>⟨fun e f=>partsF sz len parts e (fun rs=>f (fon rs len sz) fun b=>vS b 0 0 len len (Nat.mul sz 2)) (rpR (rowA z))⟩
  | false=>⟨fun _ _=>false⟩
def famkslice (nt:Nat) (sz:Nat) (bytes:Nat) (z:List AV) (l:Operand) (c:Operand):Fa:=match Nat.beq (llen z) sz && Nat.ble sz 4180 && lall AV.one z && fxOk nt l && fxOk nt c with
  | true=>⟨fun e f=>onIntV ((fx l).get e) fun ln=>onIntV ((fx c).get e) fun cn=>
    iff3 (andB (Nat.ble ln cn) (andB (Nat.ble cn 4180) (Nat.ble (Nat.mul bytes cn) 281474976710656))) (f (fon (rpR (rowA z)) cn sz) fun b=>vS b 0 0 ln cn (Nat.mul sz 2)) false⟩
  | false=>⟨fun _ _=>false⟩
def famkmap (nt:Nat) :Fa:=⟨fun _ f=>f ⟨lp0,rs0,[],2,0,0⟩ vM⟩
def allocF (nt:Nat) (op:AOp):Fa:=AOp.rec (motive:=fun _=>Nat->Fa)
 (fun _ _=>noFa) (fun _ _ _ _=>noFa) (fun y0 y1 nt=>faalloc nt y0 y1) (fun y0 y1 nt=>fabox nt y0 y1) (fun _ _ _=>noFa) (fun y0 y1 y2 y3 nt=>fabslice nt y0 y1 y2 y3) (fun _ _ _ _=>noFa) (fun _ _ _ _=>noFa) (fun _ _=>noFa) (fun _ _ _ _=>noFa) (fun _ _ _ _ _=>noFa) (fun _ _ _=>noFa) (fun _ _ _=>noFa) (fun _ _=>noFa) (fun _ _=>noFa) (fun _ _ _=>noFa) (fun _ _ _ _=>noFa) (fun _ _ _=>noFa) (fun  nt=>famkmap nt ) (fun _ _ _ _ _ _=>noFa) (fun y0 y1 y2 y3 y4 nt=>famkslice nt y0 y1 y2 y3 y4) (fun _ _ _ _ _ _=>noFa) (fun _ _ _ _ _ _ _=>noFa) (fun _ _ _ _=>noFa) (fun _ _ _=>noFa) (fun _ _ _ _ _=>noFa) (fun _ _ _ _=>noFa) (fun _ _ _ _ _=>noFa) (fun _ _ _ _ _ _=>noFa) (fun _ _ _=>noFa) (fun _ _ _ _ _ _=>noFa) (fun _ _ _=>noFa) (fun _ _=>noFa) (fun _ _=>noFa) (fun _ _=>noFa) (fun _ _=>noFa) (fun _ _=>noFa) (fun _ _ _=>noFa) (fun _ _ _ _ _=>noFa) (fun _ _ _ _ _ _=>noFa) (fun _ _ _ _=>noFa) (fun _ _ _ _=>noFa) (fun _ _ _ _=>noFa) (fun _ _ _=>noFa) (fun _ _ _ _=>noFa) (fun _ _ _=>noFa) (fun  _=>noFa) op nt
structure Fo where
 run:CallT->Env->FH->(V->FH->Bool)->Bool
def noFo:Fo:=⟨fun _ _ _ _=>false⟩
def rowAt (h:FH) (b r o n:Nat) (k:R V->Bool):Bool:=frc b fun b=>frc r fun r=>iff3 (andB (Nat.blt r (hget b h).n) (Nat.ble (Nat.add o n) (hget b h).sz)) (k (rg r (hget b h).rs)) false
def rowPut (r:Nat) (f:R V->R V) (o:FO):FO:=⟨lp0,rupd r f o.rs,o.m,o.t,o.n,o.sz⟩
def fnew (h:FH) (o:FO) (k:Nat->FH->Bool):Bool:=frc h.next fun b=>iff3 (Nat.blt b 262144) (k b ⟨(hput b o h).h,Nat.succ b,h.fr⟩) false
def elemF (b r o rw sz i:Nat) (f:Nat->Nat->Bool):Bool:=
 iff3 (Nat.beq (Nat.add (Nat.mul o 8192) rw) sz) (f (Nat.add r i) 0) (iff3 (Nat.beq rw 0) (f r (Nat.add o (Nat.mul i sz))) false)
def gatherF (h:FH) (b r o rw sz n:Nat) (f:List (R V)->Bool):Bool:=
 Nat.rec (motive:=fun _=>Nat->(List (R V)->Bool)->Bool) (fun _ f=>f [])
  (fun _ ih i f=>elemF b r o rw sz i fun r o=>frc o fun o=>rowAt h b r o sz fun row=>ih (Nat.succ i) fun l=>f (Bool.rec (motive:=fun _=>R V) (cpy row sz o 0 row0) row (Nat.beq o 0)::l)) n 0 f
def scatterF (h:FH) (b r o rw sz i:Nat) (l:List (R V)) (f:FH->Bool):Bool:=
 List.rec (motive:=fun _=>Nat->FH->(FH->Bool)->Bool) (fun _ h f=>f h)
  (fun row _ ih i h f=>elemF b r o rw sz i fun r o=>frc b fun b=>frc r fun r=>frc o fun o=>iff3 (andB (Nat.blt r (hget b h).n) (Nat.ble (Nat.add o sz) (hget b h).sz)) (ih (Nat.succ i) (hupd b (rowPut r (cpy row sz 0 o)) h) f) false) l i h f
def rowsOfF (l:List (R V)) (i:Nat) (rs:R (R V)):R (R V):=List.rec (motive:=fun _=>Nat->R (R V)->R (R V)) (fun _ rs=>rs) (fun r _ ih i rs=>ih (Nat.succ i) (rput i r rs)) l i rs
def grownF (h:FH) (bytes need sz:Nat) (rs:R (R V)) (k:V->FH->Bool):Bool:=
 iff3 (andB (fits need bytes) (Nat.ble need 4180)) (fnew h (fon rs need sz) fun b h=>k (vS b 0 0 need need (Nat.succ (Nat.mul sz 2))) h) false
def nilSlX (x:AV) (f:Bool):Bool:=AV.rec (motive_1:=fun _=>Bool->Bool) (motive_2:=fun _=>Unit)
 (fun _ _=>false) (fun _ _ _=>false) (fun _ _=>false) (fun _ _=>false) (fun p l c s _ f=>Option.rec (motive:=fun _=>Bool) (iff3 (Nat.beq (Nat.add l c) 0) (iff3 s false f) false) (fun _=>false) p) (fun _=>false) (fun _ _=>false)
 (fun _ _ _ _ _ _=>false) (fun _ _ _ _=>false) (fun _ _=>false) (fun _=>false) (fun _ _ _ _=>false) (fun _=>false) (fun _ _ _=>false) (fun _ _ _=>false) () (fun _ _ _ _=>()) x f
def nilSl (v:V) (f:Bool):Bool:=iff3 (Nat.beq v.t 0) (nilSlX v.x f) false
def emptSlX (x:AV) (f:Bool):Bool:=AV.rec (motive_1:=fun _=>Bool->Bool) (motive_2:=fun _=>Unit)
 (fun _ _=>false) (fun _ _ _=>false) (fun _ _=>false) (fun _ _=>false) (fun p l c s _ f=>Option.rec (motive:=fun _=>Bool) (iff3 (Nat.beq (Nat.add l c) 0) (iff3 s false f) false) (fun _=>false) p) (fun f=>f) (fun _ _=>false)
 (fun _ _ _ _ _ _=>false) (fun _ _ _ _=>false) (fun _ _=>false) (fun _=>false) (fun _ _ _ _=>false) (fun _=>false) (fun _ _ _=>false) (fun _ _ _=>false) () (fun _ _ _ _=>()) x f
def emptSl (v:V) (f:Bool):Bool:=iff3 (Nat.beq v.t 0) (emptSlX v.x f) false
def foX (i m n sz:Nat) (rs:R (R V)):FO:=⟨⟨row0,i,[],.skip,.skip,n,m,sz⟩,rs,[],6,0,0⟩
def vX (f a b c d e:Nat):V:=⟨[],.undef,17,f,e,d,c,b,a⟩
def appX (h:FH) (sz bytes:Nat) (s:V) (new:List (R V)) (k:V->FH->Bool):Bool:=
 iff3 (andB (andB (Nat.beq (hget s.f h).t 6) (Nat.beq (hget s.f h).lp.pend s.a)) (andB (andB (Nat.beq (hget s.f h).lp.st s.b) (Nat.beq (hget s.f h).lp.D sz)) (andB (Nat.beq s.e sz) (andB (Nat.ble (Nat.add s.b (llen new)) 1000) (Nat.ble bytes 100000)))))
  (frc s.f fun b=>frc (Nat.add s.b (llen new)) fun c=>fnew (hput b fo0 h) (foX (hget b h).lp.nt s.a c sz (rowsOfF new s.b (hget b h).rs)) fun b' h=>k (vX b' s.a c s.c s.d sz) h) false
def appendF (h:FH) (sz bytes:Nat) (s:V) (new:List (R V)) (k:V->FH->Bool):Bool:=
 iff3 (Nat.beq s.t 5)
  (iff3 (Nat.ble (Nat.add s.c (llen new)) s.b)
   (scatterF h s.f s.e s.d (Nat.div s.a 2) sz s.c new fun h=>k (vS s.f s.e s.d (Nat.add s.c (llen new)) s.b s.a) h)
   (iff3 (Nat.beq (Nat.mod s.a 2) 1)
    (iff3 (andB (andB (Nat.beq (hget s.f h).t 1) (Nat.beq sz (hget s.f h).sz)) (andB (Nat.beq (Nat.div s.a 2) sz) (andB (Nat.beq (Nat.add s.d s.e) 0) (andB (Nat.beq s.b (hget s.f h).n) (Nat.beq s.c s.b)))))
     (frc s.f fun b=>frc s.c fun c=>grownF (hput b fo0 h) bytes (Nat.add c (llen new)) sz (rowsOfF new c (hget b h).rs) k) false)
    (gatherF h s.f s.e s.d (Nat.div s.a 2) sz s.c fun old=>grownF h bytes (Nat.add s.c (llen new)) sz (rowsOfF (lapp old new) 0 rs0) k)))
  (List.rec (motive:=fun _=>Bool) (emptSl s (k s h)) (fun _ _ _=>iff3 (Nat.beq s.t 17) (appX h sz bytes s new k) (nilSl s (grownF h bytes (llen new) sz (rowsOfF new 0 rs0) k))) new)
def elemsF (h:FH) (sz:Nat) (x:V) (f:List (R V)->Bool):Bool:=
 iff3 (Nat.beq x.t 5) (gatherF h x.f x.e x.d (Nat.div x.a 2) sz x.c f) (emptSl x (f []))
def fvOk (e:Env) (x:Operand):Option AV:=av ((fx x).get e)
def noneH:Heap:=⟨.lf,0⟩
def buildF (parts:List (Nat × Nat × Operand)) (e:Env) (f:R V->Bool):R V->Bool:=
 List.rec (motive:=fun _=>R V->Bool) (fun r=>f r) (fun p _ ih r=>(pcF p.2.1 p.1).run ((fx p.2.2).get e) r ih) parts
def partsIn (len:Nat) (parts:List (Nat × Nat × Operand)):Bool:=lall (fun p:Nat × Nat × Operand=>Nat.ble (Nat.add p.1 p.2.1) len) parts
def genF (P:Program) (op:AOp):Fo:=⟨fun _ e h k=>onSome (aval P noneH (fvOk e) op) fun r=>k (mkV r.1) h⟩
def mapVal (z:V) (ok:Bool) (o:Option AV):V:=match ok with
 | true=>Option.rec (motive:=fun _=>V) (vTup (rowV [z,vF]) 2) (fun v=>vTup (rowV [mkV v,vT]) 2) o
 | false=>Option.rec (motive:=fun _=>V) z (fun v=>mkV v) o
def onFp (v:V) (h:FH) (n:Nat) (f:R V->Nat->Bool):Bool:=iff3 (andB (andB (Nat.beq v.t 16) (Nat.beq (hget v.c h).t 5)) (andB (Nat.beq (hget v.c h).lp.nt v.d) (Nat.ble (Nat.add v.b n) v.f))) (onOne v.r fun r=>f r (Nat.add v.a v.b)) false
def loadF (n:Nat) (g:Bool) (x:Fx):Fo:=
 match g with
 | true=>⟨fun _ e h k=>iff3 (Nat.beq (x.get e).t 4) (rowAt h (x.get e).c (x.get e).b (x.get e).a n fun row=>k (vAgg row (x.get e).a n) h) (onFp (x.get e) h n fun r o=>k (vAgg r o n) h)⟩
 | false=>match n with
  | 1=>⟨fun _ e h k=>iff3 (Nat.beq (x.get e).t 4) (rowAt h (x.get e).c (x.get e).b (x.get e).a 1 fun row=>frc (x.get e).a fun o=>k (rg o row) h) (onFp (x.get e) h 1 fun r o=>frc o fun o=>k (rg o r) h)⟩
  | _=>noFo
def storeF (n:Nat) (x:Fx) (y:Fx):Fo:=
 match n with
 | 1=>⟨fun _ e h k=>iff3 (Nat.beq (x.get e).t 4) (frc (x.get e).c fun b=>frc (x.get e).b fun r=>frc (x.get e).a fun o=>iff3 (andB (Nat.blt r (hget b h).n) (Nat.blt o (hget b h).sz))
   (oneV (y.get e) fun v=>k vU (hupd b (rowPut r ((racN o).p V v)) h)) false) false⟩
 | n=>⟨fun _ e h k=>iff3 (andB (Nat.beq (x.get e).t 4) (andB (Nat.beq (y.get e).t 9) (Nat.beq (y.get e).b n)))
   (frc (x.get e).c fun b=>frc (x.get e).b fun r=>frc (x.get e).a fun o=>iff3 (andB (Nat.blt r (hget b h).n) (Nat.ble (Nat.add o n) (hget b h).sz))
    (onOne (y.get e).r fun s=>frc (y.get e).a fun i=>iff3 (Nat.beq (Nat.add (Nat.add o i) (Nat.sub (hget b h).sz n)) 0)
     (k vU (hupd b (rowPut r fun _=>s) h))
     (k vU (hupd b (rowPut r (cpy s n i o)) h))) false) false⟩
def oqmv (x:Operand):Fo:=⟨fun _ e h k=>k ((fx x).get e) h⟩
def oqpick (c:Operand) (a:Operand) (b:Operand):Fo:=⟨fun _ e h k=>onBoolV ((fx c).get e) (k ((fx a).get e) h) (k ((fx b).get e) h)⟩
def oqbuild (z:List AV) (parts:List (Nat × Nat × Operand)):Fo:=match Nat.ble (llen z) 4180 && lall AV.one z && partsIn (llen z) parts with
   | true=>⟨fun _ e h k=>buildF parts e (fun r=>k (vAgg r 0 (llen z)) h) (rowA z)⟩
   | false=>noFo
def oqload (g:Bool) (n:Nat) (x:Operand):Fo:=loadF n g (fx x)
def oqstore (n:Nat) (a:Operand) (x:Operand):Fo:=storeF n (fx a) (fx x)
def oqnilchk (P:Program) (x:Operand):Fo:=⟨fun _ e h k=>iff3 (Nat.beq ((fx x).get e).t 4) (k ((fx x).get e) h) (iff3 (Nat.beq ((fx x).get e).t 8) (k ((fx x).get e) h) (onSome (aval P noneH (fvOk e) (.nilchk x)) fun _=>k ((fx x).get e) h))⟩
def oqarith (op:BinOp) (x:Operand) (y:Operand):Fo:=⟨fun _ e h k=>(binF op).run ((fx x).get e) ((fx y).get e) fun v=>k v h⟩
def oqeql (neg:Bool) (p:EqP) (x:Operand) (y:Operand):Fo:=⟨fun _ e h k=>(eqlF neg p).run ((fx x).get e) ((fx y).get e) fun v=>k v h⟩
def oqun (P:Program) (op:UnOp) (x:Operand):Fo:=match op with
   | .not=>⟨fun _ e h k=>onBoolV ((fx x).get e) (k vF h) (k vT h)⟩
   | .neg=>⟨fun ih e h k=>iff3 (Nat.beq ((fx x).get e).t 12) (onSome (symNeg ((fx x).get e)) fun v=>k v h) ((genF P (.un .neg x)).run ih e h k)⟩
   | op=>genF P (.un op x)
def oqconvI (P:Program) (q:IntKind) (x:Operand):Fo:=⟨fun ih e h k=>iff3 (Nat.blt 11 ((fx x).get e).t) (onSome (symConv q ((fx x).get e)) fun v=>k v h) ((genF P (.convI q x)).run ih e h k)⟩
def mmSy (mx:Bool) (l:List V):Option V:=match l with
 | []=>none
 | v::l=>lfold (fun u w=>symMM mx u w) l v
def oqmm (P:Program) (mx:Bool) (args:List Operand):Fo:=⟨fun ih e h k=>iff3 (anySy (gets args e)) (onSome (mmSy mx (gets args e)) fun v=>k v h) ((genF P (.minmax mx args)).run ih e h k)⟩
def oqmkfn (f:FuncId) (a:List Operand) (b:List Operand):Fo:=match Nat.ble (Nat.add (llen a) (llen b)) 4180 with
   | true=>⟨fun _ e h k=>k (vFn f (llen a) (llen b) (rowV (lapp (gets a e) (gets b e)))) h⟩
   | false=>noFo
def fpOff (v:V) (off:Nat):V:=⟨v.r,.undef,16,v.f,v.e,v.d,v.c,Nat.add v.b off,v.a⟩
def fpAt (v:V) (sz n:Nat):V:=⟨v.r,.undef,16,sz,n,v.d,v.f,0,Nat.mul n sz⟩
def fpLen (v:V):V:=⟨[],.undef,12,0,Bool.rec (motive:=fun _=>Nat) 18446744073709551615 (Nat.add v.b (Nat.add bias bias)) (Nat.beq (Nat.mod v.e 2) 1),Nat.add v.b (Nat.add bias bias),0,bias,v.a⟩
def fqLen (v:V):V:=⟨[],.undef,12,0,Nat.add (Nat.add v.d v.b) (Nat.add bias bias),Nat.add (Nat.add v.c v.b) (Nat.add bias bias),0,Nat.add bias v.b,v.a⟩
def oqfaddr (off:Nat) (x:Operand):Fo:=⟨fun _ e h k=>iff3 (Nat.beq ((fx x).get e).t 4) (k (vP ((fx x).get e).c ((fx x).get e).b (Nat.add ((fx x).get e).a off)) h) (iff3 (Nat.beq ((fx x).get e).t 16) (k (fpOff ((fx x).get e) off) h) false)⟩
def oqfld (off:Nat) (n:Nat) (g:Bool) (x:Operand):Fo:=match g with
   | true=>⟨fun _ e h k=>iff3 (andB (Nat.beq ((fx x).get e).t 9) (Nat.ble (Nat.add off n) ((fx x).get e).b)) (onOne ((fx x).get e).r fun r=>k (vAgg r (Nat.add ((fx x).get e).a off) n) h) false⟩
   | false=>⟨fun _ e h k=>iff3 (andB (Nat.beq ((fx x).get e).t 9) (Nat.blt off ((fx x).get e).b)) (onOne ((fx x).get e).r fun r=>frc (Nat.add ((fx x).get e).a off) fun o=>k (rg o r) h) false⟩
def oqiaddrS (sz:Nat) (x:Operand) (i:Operand):Fo:=match szOk sz with
  | true=>⟨fun _ e h k=>iff3 (Nat.beq ((fx x).get e).t 5) (onIntV ((fx i).get e) fun n=>iff3 (Nat.blt n ((fx x).get e).c)
    (elemF ((fx x).get e).f ((fx x).get e).e ((fx x).get e).d (Nat.div ((fx x).get e).a 2) sz n fun r o=>k (vP ((fx x).get e).f r o) h) false)
    (iff3 (andB (Nat.beq ((fx x).get e).t 15) (Nat.beq (Nat.div ((fx x).get e).e 2) sz)) (onIntV ((fx i).get e) fun n=>iff3 (Nat.blt n ((fx x).get e).c) (k (fpAt ((fx x).get e) sz n) h) false) false)⟩
  | false=>noFo
def oqiaddrA (len:Nat) (sz:Nat) (x:Operand) (i:Operand):Fo:=⟨fun _ e h k=>iff3 (Nat.beq ((fx x).get e).t 4) (onIntV ((fx i).get e) fun n=>iff3 (Nat.blt n len) (k (vP ((fx x).get e).c ((fx x).get e).b (Nat.add ((fx x).get e).a (Nat.mul n sz))) h) false) false⟩
def oqidxA (len:Nat) (sz:Nat) (g:Bool) (x:Operand) (i:Operand):Fo:=match g with
   | true=>⟨fun _ e h k=>iff3 (Nat.beq ((fx x).get e).t 9) (onIntV ((fx i).get e) fun n=>iff3 (andB (Nat.blt n len) (Nat.ble (Nat.add (Nat.mul n sz) sz) ((fx x).get e).b)) (onOne ((fx x).get e).r fun r=>k (vAgg r (Nat.add ((fx x).get e).a (Nat.mul n sz)) sz) h) false) false⟩
   | false=>⟨fun _ e h k=>iff3 (Nat.beq ((fx x).get e).t 9) (onIntV ((fx i).get e) fun n=>iff3 (andB (Nat.blt n len) (Nat.blt (Nat.mul n sz) ((fx x).get e).b)) (onOne ((fx x).get e).r fun r=>frc (Nat.add ((fx x).get e).a (Nat.mul n sz)) fun o=>k (rg o r) h) false) false⟩
def oqlook (P:Program) (kk:EqP) (z:AV) (ok:Bool) (m:Operand) (q:Operand):Fo:=⟨fun _ e h k=>iff3 (Nat.beq ((fx m).get e).t 7)
    (frc ((fx m).get e).a fun b=>iff3 (Nat.beq (hget b h).t 2) (onSome (av ((fx q).get e)) fun kv=>onSome (lookInF kk kv (hget b h).m) fun o=>k (mapVal (mkV z) ok o) h) false)
    (iff3 (Nat.beq ((fx m).get e).t 0) (onSome (aval P noneH (fvOk e) (.look kk z ok m q)) fun r=>k (mkV r.1) h) false)⟩
def oqextract (x:Operand) (i:Nat):Fo:=⟨fun _ e h k=>iff3 (andB (Nat.beq ((fx x).get e).t 10) (Nat.blt i ((fx x).get e).b)) (onOne ((fx x).get e).r fun r=>k ((racN i).g V r) h) false⟩
def oqlenS (P:Program) (x:Operand):Fo:=⟨fun _ e h k=>iff3 (andB (Nat.beq ((fx x).get e).t 5) (Nat.blt ((fx x).get e).c bias)) (k (vI (Nat.add ((fx x).get e).c bias)) h) (iff3 (Nat.beq ((fx x).get e).t 15) (k (fpLen ((fx x).get e)) h) (iff3 (Nat.beq ((fx x).get e).t 17) (k (fqLen ((fx x).get e)) h) (onSome (aval P noneH (fvOk e) (.lenS x)) fun r=>k (mkV r.1) h)))⟩
def oqlenM (P:Program) (x:Operand):Fo:=⟨fun _ e h k=>iff3 (Nat.beq ((fx x).get e).t 7) (frc ((fx x).get e).a fun b=>iff3 (Nat.beq (hget b h).t 2) (k (mkV (.int .i64 (.ofNat (llen (hget b h).m)))) h) false) (iff3 (Nat.beq ((fx x).get e).t 0) (onSome (aval P noneH (fvOk e) (.lenM x)) fun r=>k (mkV r.1) h) false)⟩
def oqslc (P:Program) (sz:Nat) (x:Operand) (lo:Option Operand) (hi:Option Operand) (mx:Option Operand):Fo:=match mx with
   | none=>⟨fun _ e h k=>iff3 (Nat.beq ((fx x).get e).t 5) (onSome (aval P noneH (fvOk e) (.slc sz x lo hi none)) fun r=>k (mkV r.1) h) (onSome (aval P noneH (fvOk e) (.slc sz x lo hi none)) fun r=>k (mkV r.1) h)⟩
   | some m=>genF P (.slc sz x lo hi (some m))
def oqins (kk:EqP) (m:Operand) (q:Operand) (v:Operand):Fo:=⟨fun _ e h k=>iff3 (Nat.beq ((fx m).get e).t 7) (frc ((fx m).get e).a fun b=>iff3 (Nat.beq (hget b h).t 2) (onSome (av ((fx q).get e)) fun kv=>onSome (av ((fx v).get e)) fun vv=>onSome (putInF kk kv vv (hget b h).m) fun es=>k vU (hput b ⟨lp0,rs0,es,2,0,0⟩ h)) false) false⟩
def oqappend (sz:Nat) (bytes:Nat) (s:Operand) (x:Operand):Fo:=match szOk sz with
   | true=>⟨fun _ e h k=>elemsF h sz ((fx x).get e) fun new=>appendF h sz bytes ((fx s).get e) new k⟩
   | false=>noFo
def oqappendZ (sz:Nat) (bytes:Nat) (z:List AV) (s:Operand) (x:Operand):Fo:=match Nat.beq (llen z) sz && szOk sz && lall AV.one z with
   | true=>⟨fun _ e h k=>onIntV ((fx x).get e) fun n=>iff3 (andB (Nat.ble n 4180) (Nat.ble (Nat.mul n bytes) 281474976710656)) (appendF h sz bytes ((fx s).get e) (repl n (rowA z)) k) false⟩
   | false=>noFo
def oqcopy (sz:Nat) (d:Operand) (s:Operand):Fo:=match szOk sz with
   | true=>⟨fun _ e h k=>iff3 (andB (Nat.beq ((fx d).get e).t 5) (Nat.beq ((fx s).get e).t 5))
     (gatherF h ((fx s).get e).f ((fx s).get e).e ((fx s).get e).d (Nat.div ((fx s).get e).a 2) sz (Nat.min ((fx s).get e).c ((fx d).get e).c) fun l=>
      scatterF h ((fx d).get e).f ((fx d).get e).e ((fx d).get e).d (Nat.div ((fx d).get e).a 2) sz 0 l fun h=>k (mkV (.int .i64 (.ofNat (Nat.min ((fx s).get e).c ((fx d).get e).c)))) h)
     (iff3 (Nat.beq ((fx d).get e).t 5) (nilSl ((fx s).get e) (k (vI bias) h)) (iff3 (Nat.beq ((fx s).get e).t 5) (nilSl ((fx d).get e) (k (vI bias) h)) (nilSl ((fx d).get e) (nilSl ((fx s).get e) (k (vI bias) h)))))⟩
   | false=>noFo
def oqclear (sz:Nat) (z:List AV) (x:Operand):Fo:=match Nat.beq (llen z) sz && szOk sz && lall AV.one z with
   | true=>⟨fun _ e h k=>iff3 (Nat.beq ((fx x).get e).t 5) (scatterF h ((fx x).get e).f ((fx x).get e).e ((fx x).get e).d (Nat.div ((fx x).get e).a 2) sz 0 (repl ((fx x).get e).c (rowA z)) fun h=>k vU h) (emptSl ((fx x).get e) (k vU h))⟩
   | false=>noFo
def oqdelete (kk:EqP) (m:Operand) (q:Operand):Fo:=⟨fun _ e h k=>iff3 (Nat.beq ((fx m).get e).t 7) (frc ((fx m).get e).a fun b=>iff3 (Nat.beq (hget b h).t 2) (onSome (av ((fx q).get e)) fun kv=>onSome (delInF kk kv (hget b h).m) fun es=>k vU (hput b ⟨lp0,rs0,es,2,0,0⟩ h)) false) false⟩
def callX (P:Program) (ih:CallT) (x:AV) (args:List V) (h:FH) (k:V->FH->Bool):Bool:=AV.rec (motive_1:=fun _=>Program->CallT->List V->FH->(V->FH->Bool)->Bool) (motive_2:=fun _=>Unit)
 (fun _ _ _ _ _ _=>false) (fun _ _ _ _ _ _ _=>false) (fun _ _ _ _ _ _=>false) (fun _ _ _ _ _ _=>false) (fun _ _ _ _ _ _ _ _ _ _=>false) (fun _ _ _ _ _=>false) (fun _ _ _ _ _ _=>false)
 (fun _ _ _ _ _ _ _ _ _ _=>false) (fun name r _ P ih args h k=>AV.rec (motive_1:=fun _=>Bool) (motive_2:=fun _=>Unit)
  (fun _=>false) (fun _ _=>false) (fun _=>false) (fun _=>false) (fun _ _ _ _ _=>false) false (fun _=>false) (fun _ _ _ _ _=>false) (fun _ _ _=>false) (fun _=>false) false (fun t v _=>onSome (meth P t name) fun f=>ih.call f (mkV v::args) h k) false (fun _ _=>false) (fun _ _=>false) () (fun _ _ _ _=>()) r)
 (fun l P ih args h k=>ih.yld l args h k) (fun _ _ _ _ _=>false) (fun _ _ _ _ _ _ _ _=>false) (fun _ _ _ _ _=>false) (fun _ _ _ _ _ _ _=>false) (fun _ _ _ _ _ _ _=>false) () (fun _ _ _ _=>()) x P ih args h k
def oqcall (P:Program) (f:Operand) (args:List Operand):Fo:=match f with
   | .func g=>⟨fun ih e h k=>ih.call g (gets args e) h k⟩
   | f=>⟨fun ih e h k=>iff3 (Nat.beq ((fx f).get e).t 8) (onOne ((fx f).get e).r fun r=>frc ((fx f).get e).a fun g=>ih.call g (lapp (cellsV r ((fx f).get e).c 0) (lapp (gets args e) (cellsV r ((fx f).get e).b ((fx f).get e).c))) h k)
     (iff3 (Nat.beq ((fx f).get e).t 0) (callX P ih ((fx f).get e).x (gets args e) h k) false)⟩
def invX (P:Program) (name:String) (x:AV) (args:List V) (k:FuncId->List V->Bool):Bool:=AV.rec (motive_1:=fun _=>(FuncId->List V->Bool)->Bool) (motive_2:=fun _=>Unit)
    (fun _ _=>false) (fun _ _ _=>false) (fun _ _=>false) (fun _ _=>false) (fun _ _ _ _ _ _=>false) (fun _=>false) (fun _ _=>false) (fun _ _ _ _ _ _=>false) (fun _ _ _ _=>false) (fun _ _=>false) (fun _=>false)
    (fun t v _ k=>onSome (meth P t name) fun f=>k f (mkV v::args)) (fun _=>false) (fun _ _ _=>false) (fun _ _ _=>false) () (fun _ _ _ _=>()) x k
def oqinvoke (P:Program) (r:Operand) (name:String) (args:List Operand):Fo:=⟨fun ih e h k=>iff3 (Nat.beq ((fx r).get e).t 0) (invX P name ((fx r).get e).x (gets args e) fun f args=>ih.call f args h k) false⟩
def oqb2s (x:Operand):Fo:=⟨fun _ e h k=>elemsF h 1 ((fx x).get e) fun l=>onSome (lfold (fun (s:ByteArray) (r:R V)=>match av (rg 0 r) with
 | some (.int .u8 (.ofNat b))=>some (s.push (UInt8.ofNat b))
 | _=>none) l ByteArray.empty) fun s=>k (vGen (.str s)) h⟩
def opersF (op:AOp):List Operand:=AOp.rec (motive:=fun _=>List Operand)
 (fun x=>[x]) (fun c a b=>[c,a,b]) (fun _ _=>[]) (fun _ x=>[x]) (fun _ parts=>parts.map fun p=>p.2.2) (fun _ _ _ parts=>parts.map fun p=>p.2) (fun _ _ x=>[x]) (fun _ a x=>[a,x]) (fun x=>[x]) (fun _ x y=>[x,y]) (fun _ _ x y=>[x,y]) (fun _ x=>[x]) (fun _ x=>[x]) (fun x=>[x]) (fun x=>[x]) (fun _ x=>[x]) (fun _ a b=>lapp a b) (fun _ x=>[x]) ([]) (fun _ _ m k v=>[m,k,v]) (fun _ _ _ l c=>[l,c]) (fun _ x lo hi mx=>x::lapp (oopt lo) (lapp (oopt hi) (oopt mx))) (fun _ _ x lo hi mx=>x::lapp (oopt lo) (lapp (oopt hi) (oopt mx))) (fun x lo hi=>x::lapp (oopt lo) (oopt hi)) (fun _ x=>[x]) (fun _ _ _ x=>[x]) (fun _ x i=>[x,i]) (fun _ _ x i=>[x,i]) (fun _ _ _ x i=>[x,i]) (fun x i=>[x,i]) (fun _ _ _ m k=>[m,k]) (fun x _=>[x]) (fun x=>[x]) (fun x=>[x]) (fun x=>[x]) (fun _=>[]) (fun x=>[x]) (fun _ args=>args) (fun _ _ s x=>[s,x]) (fun _ _ _ s x=>[s,x]) (fun _ d s=>[d,s]) (fun _ _ x=>[x]) (fun _ m k=>[m,k]) (fun f args=>f::args) (fun r _ args=>r::args) (fun f args=>f::args) ([]) op
theorem opersF_eq (op:AOp):opersF op=op.opers:=by cases op <;> rfl
def oqAl (nt:Nat) (op:AOp):Fo:=⟨fun _ e h k=>(allocF nt op).run e fun o f=>fnew h o fun b h=>k (f b) h⟩
def opD (P:Program) (nt:Nat) (op:AOp):Fo:=AOp.rec (motive:=fun _=>Program->Nat->Fo)
 (fun x P nt=>oqmv x) (fun c a b P nt=>oqpick c a b) (fun y0 y1 P nt=>oqAl nt (.alloc y0 y1)) (fun y0 y1 P nt=>oqAl nt (.box y0 y1)) (fun z parts P nt=>oqbuild z parts) (fun y0 y1 y2 y3 P nt=>oqAl nt (.bslice y0 y1 y2 y3)) (fun g n x P nt=>oqload g n x) (fun n a x P nt=>oqstore n a x) (fun x P nt=>oqnilchk P x) (fun op x y P nt=>oqarith op x y) (fun neg p x y P nt=>oqeql neg p x y) (fun op x P nt=>oqun P op x) (fun y0 y1 P nt=>oqconvI P y0 y1) (fun y0 P nt=>genF P (.convS y0)) (fun x P nt=>oqb2s x) (fun y0 y1 P nt=>genF P (.mkif y0 y1)) (fun f a b P nt=>oqmkfn f a b) (fun y0 y1 P nt=>genF P (.mkmf y0 y1)) (fun P nt=>oqAl nt .mkmap) (fun _ kk m q v P nt=>oqins kk m q v) (fun y0 y1 y2 y3 y4 P nt=>oqAl nt (.mkslice y0 y1 y2 y3 y4)) (fun sz x lo hi mx P nt=>oqslc P sz x lo hi mx) (fun y0 y1 y2 y3 y4 y5 P nt=>genF P (.slcA y0 y1 y2 y3 y4 y5)) (fun y0 y1 y2 P nt=>genF P (.slcS y0 y1 y2)) (fun off x P nt=>oqfaddr off x) (fun off n g x P nt=>oqfld off n g x) (fun sz x i P nt=>oqiaddrS sz x i) (fun len sz x i P nt=>oqiaddrA len sz x i) (fun len sz g x i P nt=>oqidxA len sz g x i) (fun y0 y1 P nt=>genF P (.idxS y0 y1)) (fun kk z ok m q P nt=>oqlook P kk z ok m q) (fun x i P nt=>oqextract x i) (fun x P nt=>oqlenS P x) (fun y0 P nt=>genF P (.lenT y0)) (fun x P nt=>oqlenM P x) (fun y0 P nt=>genF P (.lenC y0)) (fun y0 P nt=>genF P (.cap y0)) (fun y0 y1 P nt=>oqmm P y0 y1) (fun sz bytes s x P nt=>oqappend sz bytes s x) (fun sz bytes z s x P nt=>oqappendZ sz bytes z s x) (fun sz d s P nt=>oqcopy sz d s) (fun sz z x P nt=>oqclear sz z x) (fun kk m q P nt=>oqdelete kk m q) (fun f args P nt=>oqcall P f args) (fun r name args P nt=>oqinvoke P r name args) (fun y0 y1 P nt=>noFo) (fun P nt=>noFo) op P nt
def opF (P:Program) (nt:Nat) (op:AOp):Fo:=Bool.rec (motive:=fun _=>Fo) noFo (opD P nt op) (fxs nt (opersF op))
end
end Go.Ev
namespace Go.Ev
noncomputable section
abbrev Kt:=Env->FH->Bool
structure Fr where
 run:CallT->Env->FH->Kt->Bool
variable (P:Program)
structure Fg where
 run:Env->Bool->Bool->Bool
def guardF (nt:Nat) (ops:Array Oper) (g:Option (Nat × Bool)):Fg:=by
 refine(?f:(xRaw:Fg)->xRaw=(
  match g with
   | none=>⟨fun _ y _=>y⟩
   | some (j,w)=>match lget ops.toList j with
    | some o=>match o.dst with
     | some d=>match Nat.blt d nt,w with
      | true,true=>⟨fun e y n=>iff3 (Nat.beq ((racN d).g V e).t 2) y (iff3 (Nat.beq ((racN d).g V e).t 0) false n)⟩
      | true,false=>⟨fun e y n=>iff3 (Nat.beq ((racN d).g V e).t 3) y (iff3 (Nat.beq ((racN d).g V e).t 0) false n)⟩
      | _,_=>⟨fun _ _ _=>false⟩
     | none=>⟨fun _ _ _=>false⟩
    | none=>⟨fun _ _ _=>false⟩)->Fg) ?x ?p
 case p=>(try delta V.t FO.t Acc.g Rac.g);exact rfl
 case f=>exact fun x _=>x
def oneF (nt:Nat) (ops:Array Oper) (o:Oper):Fr:=by
 refine(?f:(xRaw:Fr)->xRaw=(
  match cOperF P nt o with
   | ⟨d,op,g⟩=>match g with
    | none=>⟨fun ih e h k=>(opF P nt op).run ih e h fun v h=>k ((fs d).put v e) h⟩
    | some g=>⟨fun ih e h k=>(guardF nt ops (some g)).run e ((opF P nt op).run ih e h fun v h=>k ((fs d).put v e) h) (k ((fs d).put vU e) h)⟩)->Fr) ?x ?p
 case p=>(try delta Fo.run Fs.put Pc.run Pr.run Fa.run Bn.run Fr.run Fg.run);exact rfl
 case f=>exact fun x _=>x
def oneR (nt:Nat) (ops:Array Oper) (o:Oper) (r:Fr):Fr:=by
 refine(?f:(xRaw:Fr)->xRaw=(
  match cOperF P nt o with
   | ⟨d,op,g⟩=>match g with
    | none=>⟨fun ih e h k=>(opF P nt op).run ih e h fun v h=>r.run ih ((fs d).put v e) h k⟩
    | some g=>⟨fun ih e h k=>(guardF nt ops (some g)).run e ((opF P nt op).run ih e h fun v h=>r.run ih ((fs d).put v e) h k) (r.run ih ((fs d).put vU e) h k)⟩)->Fr) ?x ?p
 case p=>(try delta Fo.run Fs.put Pc.run Pr.run Fa.run Bn.run Fr.run Fg.run);exact rfl
 case f=>exact fun x _=>x
def opsF (nt:Nat) (ops:Array Oper) (l:List Oper):Fr:=
 List.rec (motive:=fun _=>Fr) ⟨fun _ e h k=>k e h⟩ (fun o _ r=>oneR P nt ops o r) l
def slotsOkF (nt:Nat) (anc W:Tr Nat) (ops:Array Oper):Bool:=
 match lfold (fun (j:Nat) (o:Oper)=>
  match lall (fun x:Operand=>match x with | .tmp t=>slotOk anc W j t | _=>true) (cOperF P nt o).op.opers with
  | false=>none
  | true=>match o.guard with
   | none=>some (Nat.succ j)
   | some (k,_)=>match lget ops.toList k,anc.get j with
    | some ok,some a=>match ok.dst with
     | some d=>match bit a k && Nat.blt k j with | true=>some (Nat.succ j) | false=>none
     | none=>none
    | _,_=>none) ops.toList 0 with
 | some _=>true
 | none=>false
def chainOfF (nt:Nat) (anc:Tr Nat) (ops:Array Oper):Option Nat:=
 match lfold (fun (s:Nat × Nat) (o:Oper)=>match clsOf (cOperF P nt o).op with
  | .chain=>match anc.get s.2 with
   | some a=>match Nat.beq (Nat.land s.1 a) s.1 with
    | true=>force (Nat.lor s.1 (Nat.shiftLeft 1 s.2)) fun m=>some (m,Nat.succ s.2)
    | false=>none
   | none=>none
  | _=>some (s.1,Nat.succ s.2)) ops.toList (0,0) with
 | some s=>some s.1
 | none=>none
def dinfoF (nt:Nat) (ops:Array Oper):Option DInfo:=
 match ancs ops with
 | none=>none
 | some anc=>match writers ops with
  | none=>none
  | some W=>match slotsOkF P nt anc W ops with
   | false=>none
   | true=>match chainOfF P nt anc ops with
    | none=>none
    | some chain=>
     match lfold (fun (s:List DOp × Nat × Nat) (o:Oper)=>match cOperF P nt o with
      | ao=>match clsOf ao.op with
       | .read=>match stages anc chain s.2.1 (llen ops.toList) with
        | some (lo,hi)=>some (⟨ao,.read,lo,hi⟩::s.1,Nat.succ s.2.1,s.2.2)
        | none=>none
       | .dalloc=>some (⟨ao,.dalloc,0,0⟩::s.1,Nat.succ s.2.1,Nat.succ s.2.2)
       | .dmap=>some (⟨ao,.dmap,0,0⟩::s.1,Nat.succ s.2.1,Nat.succ s.2.2)
       | c=>some (⟨ao,c,0,0⟩::s.1,Nat.succ s.2.1,s.2.2)) ops.toList ([],0,0) with
     | some s=>some ⟨s.1.reverse,anc,s.2.2⟩
     | none=>none
theorem slotsOkF_eq (P:Program) (nt:Nat) (anc W:Tr Nat) (ops:Array Oper):slotsOkF P nt anc W ops=slotsOk P nt anc W ops:=by
 unfold slotsOkF slotsOk
 simp only [cOperF_eq]
 rfl
theorem chainOfF_eq (P:Program) (nt:Nat) (anc:Tr Nat) (ops:Array Oper):chainOfF P nt anc ops=chainOf P nt anc ops:=by
 unfold chainOfF chainOf
 simp only [cOperF_eq]
 rfl
theorem dinfoF_eq (P:Program) (nt:Nat) (ops:Array Oper):dinfoF P nt ops=dinfo P nt ops:=by
 unfold dinfoF dinfo
 simp only [cOperF_eq,slotsOkF_eq,chainOfF_eq]
 rfl
structure FP where
 i:Nat
 id:Nat
 o:FO
 ins:Nat
structure FL where
 e:Env
 d:DOp
 anc:Nat
 v:V
structure FD where
 e:Env
 h:FH
 Hs:List FH
 nid:Nat
 pend:List FP
 mats:List (FP × Nat)
 looks:List FL
 c:Nat
structure Fd where
 run:CallT->FD->(FD->Bool)->Bool
def withF (a:Nat) (pend:List FP) (h:FH):FH:=by
 refine(?f:(xRaw:FH)->xRaw=(
  List.rec (motive:=fun _=>FH->FH) (fun h=>h) (fun p _ ih h=>ih (Bool.rec (motive:=fun _=>FH) h (hput p.id p.o h) (andB (bit a p.i) (Nat.beq p.o.t 1)))) pend h)->FH) ?x ?p
 case p=>(try delta V.t FO.t FP.i FP.id FP.o);exact rfl
 case f=>exact fun x _=>x
def withMF (a k:Nat) (mats:List (FP × Nat)) (h:FH):FH:=by
 refine(?f:(xRaw:FH)->xRaw=(
  List.rec (motive:=fun _=>FH->FH) (fun h=>h) (fun p _ ih h=>ih (Bool.rec (motive:=fun _=>FH) h (hput p.1.id p.1.o h) (andB (bit a p.1.i) (andB (Nat.beq p.1.o.t 1) (Nat.blt k p.2))))) mats h)->FH) ?x ?p
 case p=>(try delta V.t FO.t FP.i FP.id FP.o);exact rfl
 case f=>exact fun x _=>x
def with1F (a b:Nat) (pend:List FP) (h:FH):FH:=by
 refine(?f:(xRaw:FH)->xRaw=(
  List.rec (motive:=fun _=>FH->FH) (fun h=>h) (fun p _ ih h=>ih (Bool.rec (motive:=fun _=>FH) h (hput p.id p.o h) (andB (Nat.beq p.id b) (andB (bit a p.i) (Nat.beq p.o.t 1))))) pend h)->FH) ?x ?p
 case p=>(try delta V.t FO.t FP.i FP.id FP.o);exact rfl
 case f=>exact fun x _=>x
def withM1F (a b k:Nat) (mats:List (FP × Nat)) (h:FH):FH:=by
 refine(?f:(xRaw:FH)->xRaw=(
  List.rec (motive:=fun _=>FH->FH) (fun h=>h) (fun p _ ih h=>ih (Bool.rec (motive:=fun _=>FH) h (hput p.1.id p.1.o h) (andB (Nat.beq p.1.id b) (andB (bit a p.1.i) (andB (Nat.beq p.1.o.t 1) (Nat.blt k p.2)))))) mats h)->FH) ?x ?p
 case p=>(try delta V.t FO.t FP.i FP.id FP.o);exact rfl
 case f=>exact fun x _=>x
def noIdF (b:Nat) (pend:List FP):Bool:=by
 refine(?f:(xRaw:Bool)->xRaw=(
  lall (fun p:FP=>iff3 (Nat.beq p.id b) false true) pend)->Bool) ?x ?p
 case p=>(try delta FP.id);exact rfl
 case f=>exact fun x _=>x
def noIdM (b:Nat) (mats:List (FP × Nat)):Bool:=by
 refine(?f:(xRaw:Bool)->xRaw=(
  lall (fun p:FP × Nat=>iff3 (Nat.beq p.1.id b) false true) mats)->Bool) ?x ?p
 case p=>(try delta FP.id);exact rfl
 case f=>exact fun x _=>x
def blkOf (op:AOp):Option Operand:=match op with | .load _ _ x=>some x | _=>none
def settleF (a n:Nat) (pend:List FP) (mats:List (FP × Nat)) (h:FH) (k:List FP->List (FP × Nat)->FH->Bool):Bool:=by
 refine(?f:(xRaw:Bool)->xRaw=(
  List.rec (motive:=fun _=>List FP->List (FP × Nat)->FH->Bool) (fun r m h=>k r m h)
    (fun p _ ih r m h=>iff3 (bit a p.i) (iff3 (Nat.beq (Nat.land p.ins a) p.ins) (ih r ((p,n)::m) (hput p.id p.o h)) false) (ih (p::r) m h)) pend [] mats h)->Bool) ?x ?p
 case p=>(try delta FP.i FP.id FP.o FP.ins);exact rfl
 case f=>exact fun x _=>x
def insF (kk:EqP) (kv vv:AV) (b j a:Nat) (pend:List FP) (k:List FP->Bool):Bool:=by
 refine(?f:(xRaw:Bool)->xRaw=(
  List.rec (motive:=fun _=>Bool->List FP->Bool) (fun f r=>iff3 f (k r) false)
    (fun p _ ih f r=>iff3 (Nat.beq p.id b)
     (iff3 (andB (bit a p.i) (Nat.beq p.o.t 2)) (onSome (lookInF kk kv p.o.m) fun o=>Option.rec (motive:=fun _=>Bool)
      (onSome (primEqF kk kv kv) fun t=>iff3 t (ih true (⟨p.i,p.id,⟨lp0,rs0,lapp p.o.m [(kv,vv)],2,0,0⟩,Nat.lor p.ins (Nat.shiftLeft 1 j)⟩::r)) false) (fun _=>false) o) false)
     (ih f (p::r))) pend false [])->Bool) ?x ?p
 case p=>(try delta V.t FO.m FO.t FP.i FP.id FP.o FP.ins);exact rfl
 case f=>exact fun x _=>x
def ancOf (anc:Tr Nat) (j:Nat) (k:Nat->Bool):Bool:=by
 refine(?f:(xRaw:Bool)->xRaw=(
  onSome (anc.get j) k)->Bool) ?x ?p
 case p=>(try delta Fx.get);exact rfl
 case f=>exact fun x _=>x
def dputF (s:FD) (d:Option Nat) (v:V):FD:=by
 refine(?f:(xRaw:FD)->xRaw=(
  ⟨(fs d).put v s.e,s.h,s.Hs,s.nid,s.pend,s.mats,s.looks,s.c⟩)->FD) ?x ?p
 case p=>(try delta V.e V.c FH.h LP.e LP.pend Fs.put FD.e FD.h FD.Hs FD.nid FD.pend FD.mats FD.looks FD.c FL.e R.c T4.c);exact rfl
 case f=>exact fun x _=>x
def doneR (nt:Nat) (ops:Array Oper) (anc:Tr Nat) (j:Nat) (dst:Option Nat) (op:AOp) (g:Option (Nat × Bool)) (lo hi:Nat):Fd:=by
 refine(?f:(xRaw:Fd)->xRaw=(
  match blkOf op with
    | none=>match Nat.beq lo hi with
     | true=>⟨fun ih s k=>(guardF nt ops g).run s.e (ancOf anc j fun a=>(opF P nt op).run ih s.e (withF a s.pend s.h) fun v _=>k (dputF s dst v)) (k (dputF s dst vU))⟩
     | false=>⟨fun ih s k=>(guardF nt ops g).run s.e (ancOf anc j fun a=>(opF P nt op).run ih s.e (withF a s.pend s.h) fun v _=>
      k ⟨(fs dst).put v s.e,s.h,s.Hs,s.nid,s.pend,s.mats,⟨s.e,⟨⟨dst,op,g⟩,.read,lo,hi⟩,a,v⟩::s.looks,s.c⟩) (k (dputF s dst vU))⟩
    | some x=>match Nat.beq lo hi with
     | true=>⟨fun ih s k=>(guardF nt ops g).run s.e (ancOf anc j fun a=>frc ((fx x).get s.e).c fun b=>(opF P nt op).run ih s.e (with1F a b s.pend s.h) fun v _=>k (dputF s dst v)) (k (dputF s dst vU))⟩
     | false=>⟨fun ih s k=>(guardF nt ops g).run s.e (ancOf anc j fun a=>frc ((fx x).get s.e).c fun b=>(opF P nt op).run ih s.e (with1F a b s.pend s.h) fun v _=>
      k ⟨(fs dst).put v s.e,s.h,s.Hs,s.nid,s.pend,s.mats,⟨s.e,⟨⟨dst,op,g⟩,.read,lo,hi⟩,a,v⟩::s.looks,s.c⟩) (k (dputF s dst vU))⟩)->Fd) ?x ?p
 case p=>(try delta V.e V.c FH.h LP.e LP.pend Fx.get Fo.run Fs.put Pc.run Pr.run Fa.run Bn.run Fr.run Fg.run Fd.run FD.e FD.h FD.Hs FD.nid FD.pend FD.mats FD.looks FD.c FL.e R.c T4.c);exact rfl
 case f=>exact fun x _=>x
def doneF (nt:Nat) (ops:Array Oper) (anc:Tr Nat) (j:Nat) (d:DOp):Fd:=by
 refine(?f:(xRaw:Fd)->xRaw=(
  match d.cls with
   | .pure=>⟨fun ih s k=>(guardF nt ops d.o.guard).run s.e ((opF P nt d.o.op).run ih s.e s.h fun v _=>k (dputF s d.o.dst v)) (k (dputF s d.o.dst vU))⟩
   | .read=>doneR P nt ops anc j d.o.dst d.o.op d.o.guard d.lo d.hi
   | .chain=>⟨fun ih s k=>(guardF nt ops d.o.guard).run s.e
     (ancOf anc j fun a=>settleF a (Nat.succ s.c) s.pend s.mats s.h fun pend mats h=>(opF P nt d.o.op).run ih s.e h fun v h=>k ⟨(fs d.o.dst).put v s.e,h,h::s.Hs,s.nid,pend,mats,s.looks,Nat.succ s.c⟩)
     (k ⟨(fs d.o.dst).put vU s.e,s.h,s.h::s.Hs,s.nid,s.pend,s.mats,s.looks,Nat.succ s.c⟩)⟩
   | .dins=>match d.o.op with
    | .ins _ kk m q v=>match fxOk nt m && fxOk nt q && fxOk nt v with
     | true=>⟨fun ih s k=>(guardF nt ops d.o.guard).run s.e
       (ancOf anc j fun a=>iff3 (Nat.beq ((fx m).get s.e).t 7) (onSome (av ((fx q).get s.e)) fun kv=>onSome (av ((fx v).get s.e)) fun vv=>insF kk kv vv ((fx m).get s.e).a j a s.pend fun pend=>k ⟨(fs d.o.dst).put vU s.e,s.h,s.Hs,s.nid,pend,s.mats,s.looks,s.c⟩) false)
       (k (dputF s d.o.dst vU))⟩
     | false=>⟨fun _ _ _=>false⟩
    | _=>⟨fun _ _ _=>false⟩
   | _=>⟨fun ih s k=>(guardF nt ops d.o.guard).run s.e
     ((allocF nt d.o.op).run s.e fun o f=>frc s.nid fun b=>iff3 (Nat.blt b 262144) (k ⟨(fs d.o.dst).put (f b) s.e,s.h,s.Hs,Nat.succ b,⟨j,b,o,0⟩::s.pend,s.mats,s.looks,s.c⟩) false)
     (k ⟨(fs d.o.dst).put vU s.e,s.h,s.Hs,Nat.succ s.nid,s.pend,s.mats,s.looks,s.c⟩)⟩)->Fd) ?x ?p
 case p=>(try delta V.t V.e V.c V.a FO.t FH.h LP.e LP.pend Fx.get Fo.run Fs.put Pc.run Pr.run Fa.run Bn.run Fr.run Fg.run Fd.run FD.e FD.h FD.Hs FD.nid FD.pend FD.mats FD.looks FD.c FP.o FP.ins FL.e R.a R.c T4.a T4.c);exact rfl
 case f=>exact fun x _=>x
def dopsF (nt:Nat) (ops:Array Oper) (anc:Tr Nat) (l:List DOp):Nat->Fd:=by
 refine(?f:(xRaw:Nat->Fd)->xRaw=(
  List.rec (motive:=fun _=>Nat->Fd) (fun _=>⟨fun _ s k=>k s⟩) (fun d _ r j=>⟨fun ih s k=>(doneF P nt ops anc j d).run ih s fun s=>(r (Nat.succ j)).run ih s k⟩) l)->Nat->Fd) ?x ?p
 case p=>(try delta Fo.run Pc.run Pr.run Fa.run Bn.run Fr.run Fg.run Fd.run);exact rfl
 case f=>exact fun x _=>x
def sameA (n:Nat) (u v:V):Bool:=onSome (av u) fun a=>onSome (av v) fun b=>sameN n a b
def sameP (u v:V):Bool:=by
 refine(?f:(xRaw:Bool)->xRaw=(
  iff3 (Nat.beq u.b v.b) (iff3 (Nat.beq u.c v.c) (iff3 (Nat.beq u.d v.d) (iff3 (Nat.beq u.e v.e) (Nat.beq u.f v.f) false) false) false) false)->Bool) ?x ?p
 case p=>(try delta V.f V.e V.d V.c V.b LP.e FD.e FD.c FL.e FL.d R.b R.c R.d T4.b T4.c T4.d);exact rfl
 case f=>exact fun x _=>x
def sameS (u v:V):Bool:=by
 refine(?f:(xRaw:Bool)->xRaw=(
  iff3 (Nat.beq u.a v.a) (iff3 (Nat.blt u.t 4) true (sameP u v)) false)->Bool) ?x ?p
 case p=>(try delta V.t V.a FO.t R.a T4.a);exact rfl
 case f=>exact fun x _=>x
def sameC (f:V->V->Bool) (r s:R V) (n i j:Nat):Bool:=
 Nat.rec (motive:=fun _=>Nat->Nat->Bool) (fun _ _=>true) (fun _ ih i j=>frc i fun i=>frc j fun j=>iff3 (f (rg i r) (rg j s)) (ih (Nat.succ i) (Nat.succ j)) false) n i j
def sameG (n:Nat) (f:V->V->Bool) (u v:V):Bool:=by
 refine(?f:(xRaw:Bool)->xRaw=(
  iff3 (Nat.beq u.t 9) (iff3 (Nat.beq u.b v.b) (onOne u.r fun r=>onOne v.r fun s=>sameC f r s u.b u.a v.a) false) (sameA n u v))->Bool) ?x ?p
 case p=>(try delta V.r V.t V.b V.a FO.t R.a R.b T4.a T4.b);exact rfl
 case f=>exact fun x _=>x
def same1 (n:Nat) (f:V->V->Bool) (u v:V):Bool:=by
 refine(?f:(xRaw:Bool)->xRaw=(
  iff3 (Nat.beq u.t v.t) (iff3 (Nat.blt u.t 8) (iff3 (Nat.blt 0 u.t) (sameS u v) (sameA n u v)) (iff3 (Nat.blt 11 u.t) (sameS u v) (sameG n f u v))) false)->Bool) ?x ?p
 case p=>(try delta V.t FO.t);exact rfl
 case f=>exact fun x _=>x
def sameF (u v:V):Bool:=same1 6 (same1 5 (sameA 4)) u v
def lookP (nt:Nat) (Hs:List FH) (l:FL):Bool:=by
 refine(?f:(xRaw:Bool)->xRaw=(
  Nat.rec (motive:=fun _=>Nat->Bool) (fun _=>true) (fun _ ih k=>onSome (lget Hs k) fun h=>
     (opF P nt l.d.o.op).run noCall l.e h fun v _=>iff3 (sameF v l.v) (ih (Nat.succ k)) false) (Nat.succ (Nat.sub l.d.hi l.d.lo)) l.d.lo)->Bool) ?x ?p
 case p=>(try delta V.e V.d LP.e Fo.run Pc.run Pr.run Fa.run Bn.run Fr.run Fg.run Fd.run FD.e FP.o FL.e FL.d FL.v R.d T4.d);exact rfl
 case f=>exact fun x _=>x
def lookF (nt:Nat) (Hs:List FH) (pend:List FP) (mats:List (FP × Nat)) (l:FL):Bool:=by
 refine(?f:(xRaw:Bool)->xRaw=(
  match blkOf l.d.o.op with
   | none=>Nat.rec (motive:=fun _=>Nat->Bool) (fun _=>true) (fun _ ih k=>onSome (lget Hs k) fun h=>
    (opF P nt l.d.o.op).run noCall l.e (withF l.anc pend (withMF l.anc k mats h)) fun v _=>iff3 (sameF v l.v) (ih (Nat.succ k)) false) (Nat.succ (Nat.sub l.d.hi l.d.lo)) l.d.lo
   | some x=>frc ((fx x).get l.e).c fun b=>
    Nat.rec (motive:=fun _=>Nat->Bool) (fun _=>true) (fun _ ih k=>onSome (lget Hs k) fun h=>
     (opF P nt l.d.o.op).run noCall l.e (with1F l.anc b pend (withM1F l.anc b k mats h)) fun v _=>iff3 (sameF v l.v) (ih (Nat.succ k)) false) (Nat.succ (Nat.sub l.d.hi l.d.lo)) l.d.lo)->Bool) ?x ?p
 case p=>(try delta V.e V.d V.c LP.e Fx.get Fo.run Pc.run Pr.run Fa.run Bn.run Fr.run Fg.run Fd.run FD.e FD.c FP.o FL.e FL.d FL.anc FL.v R.c R.d T4.c T4.d);exact rfl
 case f=>exact fun x _=>x
structure Dn where
 c:Nat
 b:Nat
 r:Nat
 o:Nat
 lo:Nat
 en:Nat
 v:V
def ldOf (op:AOp):Option (Nat × Operand):=match op with | .load g n x=>some (Nat.add (Nat.mul n 2) (Bool.rec (motive:=fun _=>Nat) 0 1 g),x) | _=>none
def covD (c b r o lo en:Nat) (v:V) (done:List Dn):Bool:=by
 refine(?f:(xRaw:Bool)->xRaw=(
  List.rec (motive:=fun _=>Bool) false
   (fun d _ ih=>iff3 (andB (Nat.beq d.b b) (andB (Nat.beq d.o o) (andB (Nat.beq d.r r) (andB (Nat.beq d.c c) (andB (Nat.ble d.lo lo) (Nat.ble en d.en)))))) (sameF d.v v) ih) done)->Bool) ?x ?p
 case p=>(try delta Dn.c Dn.b Dn.r Dn.o Dn.lo Dn.en Dn.v V.r V.c V.b FD.c FP.o FL.v R.b R.c T4.b T4.c);exact rfl
 case f=>exact fun x _=>x
def looks1 (nt:Nat) (Hs:List FH) (pend:List FP) (mats:List (FP × Nat)) (l:FL) (ih:List Dn->Bool) (done:List Dn) (c en:Nat) (p:V):Bool:=by
 refine(?f:(xRaw:Bool)->xRaw=(
  frc p.c fun b=>iff3 (andB (Nat.beq p.t 4) (andB (noIdF b pend) (noIdM b mats)))
    (iff3 (covD c b p.b p.a l.d.lo en l.v done) (ih done) (iff3 (lookP P nt Hs l) (ih (⟨c,b,p.b,p.a,l.d.lo,en,l.v⟩::done)) false))
    (iff3 (lookF P nt Hs pend mats l) (ih done) false))->Bool) ?x ?p
 case p=>(try delta Dn.c Dn.b Dn.lo Dn.v V.t V.d V.c V.b V.a FO.t FD.c FL.d FL.v R.a R.b R.c R.d T4.a T4.b T4.c T4.d);exact rfl
 case f=>exact fun x _=>x
def looksF (nt:Nat) (Hs:List FH) (pend:List FP) (mats:List (FP × Nat)) (l:List FL):List Dn->Bool:=by
 refine(?f:(xRaw:List Dn->Bool)->xRaw=(
  List.rec (motive:=fun _=>List Dn->Bool) (fun _=>true) (fun l _ ih done=>match ldOf l.d.o.op with
    | none=>iff3 (lookF P nt Hs pend mats l) (ih done) false
    | some p=>looks1 P nt Hs pend mats l ih done p.1 (Nat.add l.d.lo (Nat.sub l.d.hi l.d.lo)) ((fx p.2).get l.e)) l)->List Dn->Bool) ?x ?p
 case p=>(try delta Dn.o Dn.lo V.e V.d LP.e Fx.get FD.e FP.o FL.e FL.d R.d T4.d);exact rfl
 case f=>exact fun x _=>x
def finF (nt:Nat) (s:FD) (k:Kt):Bool:=by
 refine(?f:(xRaw:Bool)->xRaw=(
  iff3 (looksF P nt s.Hs.reverse s.pend s.mats s.looks []) (k s.e (List.rec (motive:=fun _=>FH->FH) (fun h=>h) (fun p _ ih h=>ih (hput p.id p.o h)) s.pend s.h)) false)->Bool) ?x ?p
 case p=>(try delta Dn.o V.e FH.h LP.e LP.pend FD.e FD.h FD.Hs FD.pend FD.mats FD.looks FP.id FP.o FL.e);exact rfl
 case f=>exact fun x _=>x
def drawF (nt:Nat) (ops:Array Oper):Fr:=by
 refine(?f:(xRaw:Fr)->xRaw=(
  match dinfoF P nt ops with
   | none=>⟨fun _ _ _ _=>false⟩
   | some I=>⟨fun ih e h k=>frc h.next fun b=>iff3 (Nat.ble (Nat.add b I.nd) 262144)
     ((dopsF P nt ops I.anc I.ops 0).run ih ⟨e,⟨h.h,Nat.add b I.nd,h.fr⟩,[⟨h.h,Nat.add b I.nd,h.fr⟩],b,[],[],[],0⟩ fun s=>finF P nt s k) false⟩)->Fr) ?x ?p
 case p=>(try delta FH.h FH.next FH.fr Fo.run Pc.run Pr.run Fa.run Bn.run Fr.run Fg.run Fd.run FD.h FL.anc);exact rfl
 case f=>exact fun x _=>x
structure Fc where
 run:CallT->(Nat->Kt)->Kt->Env->FH->Kt->Bool
def loopF (ih:CallT) (kx:Nat->Kt) (kr kn:Kt) (b:Fc) (n:Nat):Kt:=by
 refine(?f:(xRaw:Kt)->xRaw=(
  Nat.rec (motive:=fun _=>Kt) (fun _ _=>false) (fun _ r e h=>b.run ih kx kr e h r) n)->Kt) ?x ?p
 case p=>(try delta Fo.run Pc.run Pr.run Fa.run Bn.run Fr.run Fg.run Fd.run Fc.run);exact rfl
 case f=>exact fun x _=>x
def pendF (kx:Nat->Kt) (kr:Kt) (k:Kt) (p:Nat):Kt:=Nat.rec (motive:=fun _=>Kt) k (fun m _=>Nat.rec (motive:=fun _=>Kt) kr (fun i _=>kx i) m) p
def loopFO (e:Env) (nt:Nat) (ps:List Nat) (asg body:Code) (st pend D:Nat):FO:=⟨⟨e,nt,ps,asg,body,st,pend,D⟩,rs0,[],3,0,0⟩
def rangeEnd (l:Nat) (e:Env) (kx:Nat->Kt) (kr:Kt) (k:Kt) (h:FH):Bool:=by
 refine(?f:(xRaw:Bool)->xRaw=(
  iff3 (andB (Nat.beq (hget l h).t 3) (iff3 (Nat.beq (hget l h).lp.st 1) false true)) (pendF kx kr k (hget l h).lp.pend e (hput l fo0 h)) false)->Bool) ?x ?p
 case p=>(try delta V.t FO.t FO.lp LP.st LP.pend FD.pend);exact rfl
 case f=>exact fun x _=>x
def rangeGo (nt:Nat) (ps:List Nat) (asg body:Code) (ih:CallT) (kx:Nat->Kt) (kr:Kt) (e:Env) (k:Kt) (v:V) (D:Nat) (h:FH):Bool:=by
 refine(?f:(xRaw:Bool)->xRaw=(
  onOne v.r fun r=>frc v.a fun f=>fnew h (loopFO e nt ps asg body 0 0 D) fun l h=>ih.call f (lapp (cellsV r v.c 0) (vGen (.yield l)::cellsV r v.b v.c)) h fun _ h=>rangeEnd l e kx kr k h)->Bool) ?x ?p
 case p=>(try delta Dn.c Dn.b Dn.r V.r V.c V.b V.a CallT.call FD.c R.a R.b R.c T4.a T4.b T4.c);exact rfl
 case f=>exact fun x _=>x
def rangeF (nt:Nat) (g:Operand) (ps:List Nat) (asg body:Code) (ih:CallT) (kx:Nat->Kt) (kr:Kt) (e:Env) (h:FH) (k:Kt):Bool:=by
 refine(?f:(xRaw:Bool)->xRaw=(
  iff3 (Nat.beq ((fx g).get e).t 8)
    (Nat.rec (motive:=fun _=>Bool) (fnew h ⟨lp0,rs0,[],4,0,0⟩ fun D h=>rangeGo nt ps asg body ih kx kr e k ((fx g).get e) D ⟨h.h,h.next,⟨D::h.fr.ds,h.fr.rd⟩⟩)
     (fun l _=>iff3 (Nat.beq (hget l h).t 3) (rangeGo nt ps asg body ih kx kr e k ((fx g).get e) (hget l h).lp.D h) false) h.fr.rd) false)->Bool) ?x ?p
 case p=>(try delta V.t FO.t FH.h FH.next FH.fr Fri.ds Fri.rd FO.lp LP.D Fx.get FD.h);exact rfl
 case f=>exact fun x _=>x
def codeF (nt:Nat) (n:Nat):Code->Fc:=by
 refine(?f:(xRaw:Code->Fc)->xRaw=(
  Nat.rec (motive:=fun _=>Code->Fc) (fun _=>⟨fun _ _ _ _ _ _=>false⟩) (fun _ rec c=>match c with
    | .skip=>⟨fun _ _ _ e h k=>k e h⟩
    | .label _=>⟨fun _ _ _ e h k=>k e h⟩
    | .region _ ops d=>match d with
     | false=>⟨fun ih _ _ e h k=>(opsF P nt ops ops.toList).run ih e h k⟩
     | true=>⟨fun ih _ _ e h k=>(drawF P nt ops).run ih e h k⟩
    | .seq a b=>⟨fun ih kx kr e h k=>(rec a).run ih kx kr e h fun e h=>(rec b).run ih kx kr e h k⟩
    | .cond c a b=>match fxOk nt c with
     | true=>⟨fun ih kx kr e h k=>onBoolV ((fx c).get e) ((rec a).run ih kx kr e h k) ((rec b).run ih kx kr e h k)⟩
     | false=>⟨fun _ _ _ _ _ _=>false⟩
    | .block id b=>⟨fun ih kx kr e h k=>(rec b).run ih (fun i e h=>iff3 (Nat.beq i id) (k e h) (kx i e h)) kr e h k⟩
    | .loop b=>⟨fun ih kx kr e h k=>loopF ih kx kr k (rec b) 100000 e h⟩
    | .exit id=>⟨fun _ kx _ e h _=>kx id e h⟩
    | .ret=>⟨fun _ _ kr e h _=>kr e h⟩
    | .rangeFunc g ps asg body=>match fxOk nt g with
     | true=>⟨fun ih kx kr e h k=>rangeF nt g ps.toList asg body ih kx kr e h k⟩
     | false=>⟨fun _ _ _ _ _ _=>false⟩
    | _=>⟨fun _ _ _ _ _ _=>false⟩) n)->Code->Fc) ?x ?p
 case p=>(try delta Fx.get Fo.run Pc.run Pr.run Fa.run Bn.run Fr.run Fg.run Fd.run Fc.run);exact rfl
 case f=>exact fun x _=>x
structure Ff where
 run:CallT->List V->FH->(V->FH->Bool)->Bool
def marksF (ds:List Nat) (h:FH) (k:FH->Bool):Bool:=by
 refine(?f:(xRaw:Bool)->xRaw=(
  List.rec (motive:=fun _=>FH->Bool) (fun h=>k h) (fun D _ ih h=>iff3 (Nat.beq (hget D h).t 4) (ih (hput D fo0 h)) false) ds h)->Bool) ?x ?p
 case p=>(try delta V.t FO.t);exact rfl
 case f=>exact fun x _=>x
def setF (nt:Nat) (ps:List Nat) (args:List V) (e:Env) (k:Env->Bool):Bool:=
 List.rec (motive:=fun _=>List V->Env->Bool) (fun args e=>List.rec (motive:=fun _=>Bool) (k e) (fun _ _ _=>false) args)
  (fun p _ ih args e=>List.rec (motive:=fun _=>Bool) false (fun a t _=>iff3 (Nat.blt p nt) (ih t (rput p a e)) false) args) ps args e
def endF (l:Nat) (fr:Fri) (st pend:Nat) (v:V) (h:FH) (k:V->FH->Bool):Bool:=by
 refine(?f:(xRaw:Bool)->xRaw=(
  iff3 (Nat.beq (hget l h).t 3) (k v ⟨(hput l (loopFO (hget l h).lp.e (hget l h).lp.nt (hget l h).lp.ps (hget l h).lp.asg (hget l h).lp.body st pend (hget l h).lp.D) h).h,h.next,fr⟩) false)->Bool) ?x ?p
 case p=>(try delta V.t V.e FO.t FH.h FH.next FO.lp LP.e LP.nt LP.ps LP.asg LP.body LP.D FD.e FD.h FL.e);exact rfl
 case f=>exact fun x _=>x
def roundF (ih:CallT) (l:Nat) (args:List V) (h:FH) (k:V->FH->Bool):Bool:=by
 refine(?f:(xRaw:Bool)->xRaw=(
  frc l fun l=>iff3 (andB (andB (Nat.blt l 262144) (Nat.ble (llen (hget l h).lp.ps) 2)) (andB (Nat.beq (hget l h).t 3) (Nat.beq (hget l h).lp.st 0)))
    (setF (hget l h).lp.nt (hget l h).lp.ps args (hget l h).lp.e fun e=>
     (codeF P (hget l h).lp.nt 1000 (hget l h).lp.asg).run ih (fun _ _ _=>false) (fun _ _=>false) e ⟨h.h,h.next,⟨[],Nat.succ l⟩⟩ fun e2 h2=>
      iff3 (andB (Nat.beq (hget l h2).t 3) (Nat.beq (hget l h2).lp.st 0))
       ((codeF P (hget l h).lp.nt 1000 (hget l h).lp.body).run ih (fun i e3 h3=>endF l h.fr 2 (Nat.succ (Nat.succ i)) vF h3 k) (fun e3 h3=>endF l h.fr 2 1 vF h3 k) e2
        ⟨(hput l (loopFO (hget l h2).lp.e (hget l h2).lp.nt (hget l h2).lp.ps (hget l h2).lp.asg (hget l h2).lp.body 1 (hget l h2).lp.pend (hget l h2).lp.D) h2).h,h2.next,h2.fr⟩ fun e3 h3=>endF l h.fr 0 0 vT h3 k) false) false)->Bool) ?x ?p
 case p=>(try delta V.t V.e FO.t FH.h FH.next FH.fr FO.lp LP.e LP.nt LP.ps LP.asg LP.body LP.st LP.pend LP.D Fo.run Pc.run Pr.run Fa.run Bn.run Fr.run Fg.run Fd.run FD.e FD.h FD.pend FL.e Fc.run Ff.run);exact rfl
 case f=>exact fun x _=>x
structure Fz where
 run:Env->FH->(List V->Bool)->Bool
def resF (nt:Nat) (r:ResultVar):Fo:=by
 refine(?f:(xRaw:Fo)->xRaw=(
  match r with
   | .tmp t=>match Nat.blt t nt with | true=>⟨fun _ e h k=>k ((racN t).g V e) h⟩ | false=>noFo
   | .cell a t=>match Nat.blt a nt with
    | false=>noFo
    | true=>match isAggG (infF P) t,sizeG (infF P) t with
     | some true,some n=>loadF n true ⟨(racN a).g V⟩
     | some false,some 1=>loadF 1 false ⟨(racN a).g V⟩
     | _,_=>noFo)->Fo) ?x ?p
 case p=>(try delta Acc.g Rac.g);exact rfl
 case f=>exact fun x _=>x
def ressF (nt:Nat) (l:List ResultVar):Fz:=by
 refine(?f:(xRaw:Fz)->xRaw=(
  List.rec (motive:=fun _=>Fz) ⟨fun _ _ k=>k []⟩ (fun r _ z=>⟨fun e h k=>(resF P nt r).run noCall e h fun v _=>z.run e h fun vs=>k (v::vs)⟩) l)->Fz) ?x ?p
 case p=>(try delta Fo.run Pc.run Pr.run Fa.run Bn.run Fr.run Fg.run Fd.run Fc.run Ff.run Fz.run);exact rfl
 case f=>exact fun x _=>x
def packF (vs:List V):V:=List.rec (motive:=fun _=>V) (vTup row0 0) (fun v l _=>List.rec (motive:=fun _=>V) v (fun _ _ _=>vTup (rowV vs) (llen vs)) l) vs
def retF (nt:Nat) (l:List ResultVar) (fr:Fri) (k:V->FH->Bool) (e:Env) (h:FH):Bool:=by
 refine(?f:(xRaw:Bool)->xRaw=(
  marksF h.fr.ds h fun h=>(ressF P nt l).run e h fun vs=>k (packF vs) ⟨h.h,h.next,fr⟩)->Bool) ?x ?p
 case p=>(try delta FH.h FH.next FH.fr Fri.ds Fo.run Pc.run Pr.run Fa.run Bn.run Fr.run Fg.run Fd.run FD.h Fc.run Ff.run Fz.run);exact rfl
 case f=>exact fun x _=>x
def fnF (f:FuncId):Ff:=by
 refine(?f:(xRaw:Ff)->xRaw=(
  match lget P.funcs.toList f with
   | some fn=>match fn.body with
    | some c=>match Nat.ble fn.ntmps 4180 && (Nat.ble (llen fn.results.toList) 4180 && !(fn.name == "runtime.NumGoroutine")) with
     | true=>⟨fun ih args h k=>iff3 (Nat.ble (llen args) fn.ntmps) ((codeF P fn.ntmps 1000 c).run ih (fun _ _ _=>false) (retF P fn.ntmps fn.results.toList h.fr k) (wrV args 0 row0) ⟨h.h,h.next,fr0⟩
       (retF P fn.ntmps fn.results.toList h.fr k)) false⟩
     | false=>⟨fun _ _ _ _=>false⟩
    | none=>⟨fun _ _ _ _=>false⟩
   | none=>⟨fun _ _ _ _=>false⟩)->Ff) ?x ?p
 case p=>(try delta FH.h FH.next FH.fr LP.body Fo.run Pc.run Pr.run Fa.run Bn.run Fr.run Fg.run Fd.run FD.h Fc.run Ff.run Fz.run);exact rfl
 case f=>exact fun x _=>x
abbrev FRule:=FuncId->List V->FH->Option (Option (V × FH))
def callK (K:FRule) (f:FuncId) (args:List V) (h:FH) (k:V->FH->Bool) (r:Bool):Bool:=
 Option.rec (motive:=fun _=>Bool) r (fun o=>Option.rec (motive:=fun _=>Bool) false (fun p=>Prod.rec (motive:=fun _=>Bool) (fun v h=>k v h) p) o) (K f args h)
def callF (K:FRule) (n:Nat):CallT:=by
 refine(?f:(xRaw:CallT)->xRaw=(
  Nat.rec (motive:=fun _=>CallT) noCall (fun _ ih=>⟨fun f args h k=>callK K f args h k ((fnF P f).run ih args h k),fun l args h k=>roundF P ih l args h k⟩) n)->CallT) ?x ?p
 case p=>(try delta Fo.run Pc.run Pr.run Fa.run Bn.run Fr.run Fg.run Fd.run Fc.run Ff.run Fz.run);exact rfl
 case f=>exact fun x _=>x
def fastTrue (K:FRule) (n:Nat) (f:FuncId):Bool:=by
 refine(?f:(xRaw:Bool)->xRaw=(
  (callF P K n).call f [] fh0 fun v _=>Nat.beq v.t 2)->Bool) ?x ?p
 case p=>(try delta V.t FO.t CallT.call);exact rfl
 case f=>exact fun x _=>x
def noneKnown:FRule:=fun _ _ _=>none
end
end Go.Ev
