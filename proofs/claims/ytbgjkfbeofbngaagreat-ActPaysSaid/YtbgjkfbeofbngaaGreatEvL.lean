/- Walks and rules. Conditions: none. -/
import Derived.Test.YtbgjkfbeofbngaaGreatEvK
import Derived.Test.YtbgjkfbeofbngaaGreatEvJ
set_option linter.unusedVariables false
set_option linter.unusedSimpArgs false
set_option linter.unusedSectionVars false
namespace Go.Ev
@[reducible] def cN (ck co ca:Int)(kv:AV)(py:Bool)(b:AV)(me:Int)(o:OD)(am:AV)(n0 n1 n2 n3:Int)(tp:Bool):List AV:=
 [iv ck,iv co,iv ca,kv,.bool py,b,iv me]++(o.row++[am,iv n0,iv n1,iv n2,iv n3,.bool tp])
@[reducible] def aaI:List AV:=[iv 0,iv 0,iv 0,nilS,.bool false,.nilIface,iv 0]++(dB++[nilS,iv 0,iv 0,iv 0,iv 0,.bool false])
@[reducible] def o00:OD:=⟨0,0,0,0,0,false,false,false,0,0,0,0,false⟩
def zt (c:CD):AV:=if c.kind=3 then(match c.ab with | a::_=>a.tg | []=>nilS)else nilS
section
variable {P:Program}{K:Orc}{rd:Option Nat}{nt:Nat}{l:Sl}{ds:List cD}{s:SH}{Q Qn Qr:Po}{Qe:Nat->Po}{F:Nat->FuncId}{T:Nat->TypeId}{bf bl:Nat}{aZ ap:AV}{c0 c1 c2 c3 c4:Int}{EL:List (List AV)}{d:SD}{t:SH}{tF:TypeId}{g:ED->CH->CH}{C:List CD}{tl:AD->List Nat}
theorem bB.abQ {f:FuncId}{args:List AV}{R:AV->SH->Prop}(h:bB P K f args s (λv s'=>∃m,R v m/\aH bl EL d (m++t) s')):bB P K f args s (λv s'=>∃m u,R v m/\s'=u++(m++t)/\∀t',aH bl EL d t' (u++t')):=
 bB.canon (h.post λv s'⟨m,h1,h2⟩=>by
  obtain⟨u,hu,hb⟩:=h2.split
  exact⟨_,hu,m,u,h1,rfl,hb⟩)
theorem bB.aaE {f:FuncId}{args:List AV}{R:AV->Prop}(h:bB P K f args s (λv s'=>R v/\aH bl EL d t s')):bB P K f args s (λv s'=>∃u,R v/\s'=u++t/\∀t',aH bl EL d t' (u++t')):=
 bB.canon (h.post λv s'⟨h1,h2⟩=>by
  obtain⟨u,hu,hb⟩:=h2.split
  exact⟨_,hu,u,h1,rfl,hb⟩)
theorem p9 (hE:GE P K F T tF g C d)(hs:aH bl EL d t s)(hf:Has bf (.r false [bu bl aZ c0 c1 c2 c3 c4 ap] 8) t) :
  bB P K (F 58) [.ptr (some ⟨bf,0,0⟩)] s (λv s'=>∃m u,(∃kv,v=.agg (ads d kv)/\GK kv d.ct m)/\s'=u++(m++t)/\∀t',aH bl EL d t'<|u++t'):=
 bB.abQ ((ae0 hE.hB hE.hI hE.t128 hs hE.hd hf).post λv s'⟨kv,m,h1,h2,h3⟩=>⟨m,⟨kv,h1,h2⟩,h3⟩)
theorem vu (hE:GE P K F T tF g C d)(hs:aH bl EL d t s)(hf:Has bf (.r false [bu bl aZ c0 c1 c2 c3 c4 ap] 8) t){id:Int}{o:OD}(ho:d.obj id=some o) :
  bB P K (F 37) [.ptr (some ⟨bf,0,0⟩),iv id] s (λv s'=>∃u,v=.tuple [.agg o.row,.bool true]/\s'=u++t/\∀t',aH bl EL d t'<|u++t'):=
 bB.aaE ((Qq hE.hB hE.hC hs hE.hd hf).post λv s'⟨h1,h2⟩=>⟨by rw[h1,ho],h2⟩)
theorem aaj (hE:GE P K F T tF g C d)(hs:aH bl EL d t s)(hf:Has bf (.r false [bu bl aZ c0 c1 c2 c3 c4 ap] 8) t)(eQ:cI t aZ C) :
  bB P K (F 344) [.ptr (some ⟨bf,0,0⟩)] s (λv s'=>∃m u,Src m 11 v (C.map CD.row)/\s'=u++(m++t)/\∀t',aH bl EL d t'<|u++t'):=
 bB.abQ ((BS hE.hG hs hf eQ).post λv s'⟨m,h1,h2⟩=>⟨m,h2,h1⟩)
theorem aa2 (hE:GE P K F T tF g C d)(hA:BaseAc P K F T)(ht:Ty P (T 420) 27)(hm:kj bf bl aZ ap c0 c1 c2 c3 c4 C tl t)(hs:aH bl EL d t s){co ca:Int}{kv:AV}{py:Bool}{o:OD}{c:CD}{k:Nat}{L0:List (List AV)}{s0:SH}(hkv:Src s0 2 kv L0)(ho:d.obj co=some o)(hk:o.gt=.ofNat k)(hc:C[k]?=some c)(hz:o.ci=1) :
  bB P K (F 420) [gm tF bf,.agg [iv 1,iv co,iv ca,kv,.bool py]] s (λv s'=>v=.tuple [.agg (cN 1 co ca kv py (gm tF bf) d.pr o (zt c) c.n2 c.n3 c.n4 c.n5 false),.bool true]/\aH bl EL d t s'):=by
 refine hA.aga.cF ?_
 unfold aeJ
 have hp5:partCells 5 (.agg [iv 1,iv co,iv ca,kv,.bool py])=some [iv 1,iv co,iv ca,kv,.bool py]:=rfl
 refine Vr (k:=λb3=>Vr (k:=λb4=>Wv rfl<|Wn ?_))
 have hs0:=λy1 y2=>(hs.cons (p:=(b3,y1))).cons (p:=(b4,y2))
 refine Ws<|WP.fd λbd1=>WD.lk rfl .nil .ld<|Vr (k:=Dc .nil<|WS.invoke (vs:=[]) rfl (hE.info ) rfl ( p9 hE hs.cons.cons.cons (.there<|.there<|.there hm.hf)) ?_)
 rintro w _ ⟨m1,u1,⟨kv1,rfl,jZ⟩,rfl,vn⟩
 refine Vr (k:=?_)
 refine WD.al (.alloc rfl) rfl<|Dc (.yes rfl rfl uP .nil)<|WS.st<|D0 .nil ?_ ?_
 rotate_left
 ·intro o' ho'
  rw[List.mem_singleton.1 ho']
  refine⟨(λi hi=>by simp only[List.mem_singleton]at hi;subst hi;exact(show bit 0 6=false from rfl)),Nat.zero_le _,?_,λk' _ hk'=>?_⟩
  ·show sameL (sameN 5) _ _=true
   simp only[sameL,iq,J1,hkv.sameN,Bool.and_true]
  rcases(by have:k'<=1:=hk';omega:k'=0\/k'=1)with rfl|rfl
  ·exact⟨_,rfl,.load rfl zP rfl rfl rfl⟩
  ·exact⟨_,rfl,.load rfl zP rfl rfl rfl⟩
 have dt:=vn<|m1++((bd1,.r false [cN 1 co ca kv py (gm tF bf) d.pr o00 nilS 0 0 0 0 false] 27)::(b4,.r false [aaI] 27)::(b3,.r false [[iv 1,iv co,iv ca,kv,.bool py]] 5)::t)
 refine Vr (k:=Ww<|WS.invoke (vs:=[iv co]) rfl (hE.hM.obj ) rfl ( vu hE dt (.app<|.there<|.there<|.there hm.hf) ho) ?_)
 rintro w _ ⟨u2,rfl,rfl,zB⟩
 refine Wv rfl<|Wr (.extract rfl rfl)<|Wr (.extract rfl rfl)<|Wa (.alloc rfl) λb7=>Ww<|Wt (s':=(b7,.r false [OD.row o] 14)::_) rfl rfl rfl .here rfl rfl<|Wv rfl<|Wn<|Wq<|Wv rfl<|WO.pre (s':=u2++(m1++((b7,.r false [o.row] 14)::(bd1,.r false [cN 1 co ca kv py (gm tF bf) d.pr o00 nilS 0 0 0 0 false] 27)::(b4,.r false [aaI] 27)::(b3,.r false [[iv 1,iv co,iv ca,kv,.bool py]] 5)::t))) (qc) ?_
 have gw:=zB<|m1++((b7,.r false [o.row] 14)::(bd1,.r false [cN 1 co ca kv py (gm tF bf) d.pr o00 nilS 0 0 0 0 false] 27)::(b4,.r false [aaI] 27)::(b3,.r false [[iv 1,iv co,iv ca,kv,.bool py]] 5)::t)
 refine Ww<|WS.invoke (vs:=[]) rfl (hE.hM.aZ ) rfl ( aaj hE gw (.app<|.there<|.there<|.there<|.there hm.hf) (hm.eQ.mono λp hp=>by simp[hp])) ?_
 rintro w _ ⟨m3,u3,hS,rfl,hb3⟩
 have hlen:lenOf w=some C.length:=by rw[hS.lenOf];simp
 have hkl:k<C.length:=(List.getElem?_eq_some_iff.1 hc).1
 have hkn:=hm.eQ.n
 have XJ:binV .lss (iv o.gt) (iv 0)=some (.bool false):=by rw[hk,eT,decide_eq_false<|show¬Int.ofNat k<0 from(by omega:¬((k:Nat):Int)<0)]
 have h39:binV .geq (iv o.gt) (iv<|.ofNat C.length)=some (.bool false):=by
  rw[hk]
  show some (AV.bool<|!ilt (.ofNat k) (.ofNat C.length))=_
  rw[fw,show Nat.blt k C.length=true from bh.2 hkl];rfl
 obtain⟨ba,ra,na,ca',J5,Sp,Ma,rfl,hba,aaf,hra⟩:=hS.at (i:=k)<|by simpa using hkl
 have hrow:Ma[ra+k]?=some c.row:=by rw[hra,List.getElem?_map,hc];rfl
 have mO:eqBy 20 .pi (iv o.ci) (iv 1)=some true:=by rw[dh,decide_eq_true hz]
 have IR:c∈C:=List.mem_of_getElem? hc
 have hca:=hm.eQ.ab c IR
 refine Vr (k:=Wr (.iaddrS rfl (show _=some (iv<|.ofNat k) by rw[<- hk];rfl) aaf<|by decide)<|Vr (k:=λsf=>Vk (k:=Ww<|Wt (s':=_::_++(_++(_++(_::(bd1,.r false [[iv 1,iv co,iv ca,kv,AV.bool py,gm tF bf,iv<|SD.pr d,iv<|OD.id o,iv<|OD.gt o,iv<|OD.owner o,iv<|OD.aQ o,iv<|OD.ci o,AV.bool<|OD.RU o,AV.bool<|OD.VK o,AV.bool<|OD.token o,iv<|OD.Y6 o,iv<|OD.stamp o,iv<|OD.NP o,iv<|OD.block o,AV.bool<|OD.J9 o,nilS,nilS,iv 0,iv 0,iv 0,iv 0,AV.bool false]] 27)::_)))) rfl rfl rfl uP rfl rfl<|Vk (k:=Ww<|Wt rfl rfl rfl uP rfl rfl<|Wn ?_))))
 have PG:∀q0 q1 q2 q3 q4,aH bl EL d t ((q0::u3)++(m3++(m1++(q1::q2::q3::q4::t)))):=λq0 q1 q2 q3 q4=>aH.bK (m:=[q0])<|aH.fb (x:=[q1,q2,q3,q4])<|aH.fb (x:=m1)<|aH.fb (x:=m3)<|hb3 _
 refine Wg (l':=[(4,.ptr<|some ⟨b4,0,0⟩),(6,.ptr<|some ⟨bd1,0,0⟩),(10,.ptr<|some ⟨sf,0,0⟩)]) qb (λ_ _ h=>h) ?_
 by_cases A4:c.kind=3
 ·have h63:eqBy 20 .pi (iv c.kind) (iv 3)=some true:=by rw[dh,decide_eq_true A4]
  cases hab:c.ab with
  | nil=>
   have l0:lenOf c.av=some 0:=by rw[hca.lenOf,hab];rfl
   have e:zt c=nilS:=by simp[zt,hab]
   rw[e]
   refine Vr (k:=We<|Wm (.ce ht) ?_)
   exact⟨rfl,PG _ _ _ _ _⟩
  | cons a rest=>
   have l0:lenOf c.av=some (rest.length+1):=by rw[hca.lenOf,hab];simp
   have h68:binV .gtr (iv<|.ofNat<|rest.length+1) (iv 0)=some (.bool true):=rfl
   obtain⟨bb,rb,nb,cb,slb,rob,Mb,eb,hbb,ack,hrb⟩:=hca.at (i:=0)<|by simp[hab]
   have aiu:Mb[rb+0]?=some a.row:=by rw[hrb,hab];rfl
   have hpa:=(hm.htg c IR a<|by simp[hab]).1.part
   have e:zt c=a.tg:=by simp[zt,hab,A4]
   rw[e]
   refine Vr (k:=?_)
   refine Wr (.iaddrS (show _=some _ by rw[<- eb];rfl) rfl ack<|by decide)<|Vr (k:=Ww<|Wt rfl rfl hpa uP rfl rfl<|Vr (k:=We<|Wm (.ce ht) ?_))
   exact⟨rfl,PG _ _ _ _ _⟩
 ·have h63:eqBy 20 .pi (iv c.kind) (iv 3)=some false:=by rw[dh,decide_eq_false A4]
  have e:zt c=nilS:=by simp[zt,A4]
  rw[e]
  refine Vr (k:=We<|Wm (.ce ht) ?_)
  exact⟨rfl,PG _ _ _ _ _⟩
theorem adQ (hE:GE P K F T tF g C d)(hA:BaseAc P K F T)(ht:Ty P (T 420) 27)(hm:kj bf bl aZ ap c0 c1 c2 c3 c4 C tl t)(hs:aH bl EL d t s){co ca:Int}{kv:AV}{py:Bool}{o:OD}{c:CD}{k:Nat}{L0:List (List AV)}{s0:SH}(hkv:Src s0 2 kv L0)(ho:d.obj co=some o)(hk:o.gt=.ofNat k)(hc:C[k]?=some c)(hz:o.ci=2){j:Nat}{a:AD}(hj:ca=.ofNat j)(ha:c.ab[j]?=some a) :
  bB P K (F 420) [gm tF bf,.agg [iv 2,iv co,iv ca,kv,.bool py]] s (λv s'=>v=.tuple [.agg (cN 2 co ca kv py (gm tF bf) d.pr o a.tg a.n3 a.n4 a.n5 a.n6 a.tap),.bool true]/\aH bl EL d t s'):=by
 refine hA.aga.cF ?_
 unfold aeJ
 have hp5:partCells 5 (.agg [iv 2,iv co,iv ca,kv,.bool py])=some [iv 2,iv co,iv ca,kv,.bool py]:=rfl
 refine Vr (k:=λb3=>Vr (k:=λb4=>Wv rfl<|Wn ?_))
 have hs0:=λy1 y2=>(hs.cons (p:=(b3,y1))).cons (p:=(b4,y2))
 refine Ws<|WP.fd λbd1=>WD.lk rfl .nil .ld<|Vr (k:=Dc .nil<|WS.invoke (vs:=[]) rfl (hE.info ) rfl ( p9 hE hs.cons.cons.cons (.there<|.there<|.there hm.hf)) ?_)
 rintro w _ ⟨m1,u1,⟨kv1,rfl,jZ⟩,rfl,vn⟩
 refine Vr (k:=?_)
 refine WD.al (.alloc rfl) rfl<|Dc (.yes rfl rfl uP .nil)<|WS.st<|D0 .nil ?_ ?_
 rotate_left
 ·intro o' ho'
  rw[List.mem_singleton.1 ho']
  refine⟨(λi hi=>by simp only[List.mem_singleton]at hi;subst hi;exact(show bit 0 6=false from rfl)),Nat.zero_le _,?_,λk' _ hk'=>?_⟩
  ·show sameL (sameN 5) _ _=true
   simp only[sameL,iq,J1,hkv.sameN,Bool.and_true]
  rcases(by have:k'<=1:=hk';omega:k'=0\/k'=1)with rfl|rfl
  ·exact⟨_,rfl,.load rfl zP rfl rfl rfl⟩
  ·exact⟨_,rfl,.load rfl zP rfl rfl rfl⟩
 have dt:=vn<|m1++((bd1,.r false [cN 2 co ca kv py (gm tF bf) d.pr o00 nilS 0 0 0 0 false] 27)::(b4,.r false [aaI] 27)::(b3,.r false [[iv 2,iv co,iv ca,kv,.bool py]] 5)::t)
 refine Vr (k:=Ww<|WS.invoke (vs:=[iv co]) rfl (hE.hM.obj ) rfl ( vu hE dt (.app<|.there<|.there<|.there hm.hf) ho) ?_)
 rintro w _ ⟨u2,rfl,rfl,zB⟩
 refine Wv rfl<|Wr (.extract rfl rfl)<|Wr (.extract rfl rfl)<|Wa (.alloc rfl) λb7=>Ww<|Wt (s':=(b7,.r false [OD.row o] 14)::_) rfl rfl rfl .here rfl rfl<|Wv rfl<|Wn<|Wq<|Wv rfl<|WO.pre (s':=u2++(m1++((b7,.r false [o.row] 14)::(bd1,.r false [cN 2 co ca kv py (gm tF bf) d.pr o00 nilS 0 0 0 0 false] 27)::(b4,.r false [aaI] 27)::(b3,.r false [[iv 2,iv co,iv ca,kv,.bool py]] 5)::t))) (qc) ?_
 have gw:=zB<|m1++((b7,.r false [o.row] 14)::(bd1,.r false [cN 2 co ca kv py (gm tF bf) d.pr o00 nilS 0 0 0 0 false] 27)::(b4,.r false [aaI] 27)::(b3,.r false [[iv 2,iv co,iv ca,kv,.bool py]] 5)::t)
 refine Ww<|WS.invoke (vs:=[]) rfl (hE.hM.aZ ) rfl ( aaj hE gw (.app<|.there<|.there<|.there<|.there hm.hf) (hm.eQ.mono λp hp=>by simp[hp])) ?_
 rintro w _ ⟨m3,u3,hS,rfl,hb3⟩
 have hlen:lenOf w=some C.length:=by rw[hS.lenOf];simp
 have hkl:k<C.length:=(List.getElem?_eq_some_iff.1 hc).1
 have hkn:=hm.eQ.n
 have XJ:binV .lss (iv o.gt) (iv 0)=some (.bool false):=by rw[hk,eT,decide_eq_false<|show¬Int.ofNat k<0 from(by omega:¬((k:Nat):Int)<0)]
 have h39:binV .geq (iv o.gt) (iv<|.ofNat C.length)=some (.bool false):=by
  rw[hk]
  show some (AV.bool<|!ilt (.ofNat k) (.ofNat C.length))=_
  rw[fw,show Nat.blt k C.length=true from bh.2 hkl];rfl
 obtain⟨ba,ra,na,ca',J5,Sp,Ma,rfl,hba,aaf,hra⟩:=hS.at (i:=k)<|by simpa using hkl
 have hrow:Ma[ra+k]?=some c.row:=by rw[hra,List.getElem?_map,hc];rfl
 have pN:eqBy 20 .pi (iv o.ci) (iv 2)=some true:=by rw[dh,decide_eq_true hz]
 have IR:c∈C:=List.mem_of_getElem? hc
 have hca:=hm.eQ.ab c IR
 have hjl:j<c.ab.length:=(List.getElem?_eq_some_iff.1 ha).1
 have l0:lenOf c.av=some c.ab.length:=by rw[hca.lenOf];simp
 have h89:binV .geq (iv ca) (iv 0)=some (.bool true):=by
  rw[hj]
  show some (AV.bool<|!ilt (.ofNat j) (.ofNat 0))=_
  rw[fw,show Nat.blt j 0=false from by cases j<;>rfl];rfl
 have h97:binV .lss (iv ca) (iv<|.ofNat c.ab.length)=some (.bool true):=by rw[hj,eT,decide_eq_true<|show Int.ofNat j<Int.ofNat c.ab.length from(by omega:(j:Int)<(c.ab.length:Int))]
 obtain⟨bb,rb,nb,cb,slb,rob,Mb,eb,hbb,ack,hrb⟩:=hca.at (i:=j)<|by simpa using hjl
 have aiu:Mb[rb+j]?=some a.row:=by rw[hrb,List.getElem?_map,ha];rfl
 have hpa:=(hm.htg c IR a<|List.mem_of_getElem? ha).1.part
 have PG:∀q0 q1 q2 q3 q4 q5,aH bl EL d t ((q5::q0::u3)++(m3++(m1++(q1::q2::q3::q4::t)))):=λq0 q1 q2 q3 q4 q5=>aH.bK (m:=[q5,q0])<|aH.fb (x:=[q1,q2,q3,q4])<|aH.fb (x:=m1)<|aH.fb (x:=m3)<|hb3 _
 refine Vr (k:=Wr (.iaddrS rfl (show _=some (iv<|.ofNat k) by rw[<- hk];rfl) aaf<|by decide)<|Vr (k:=λsf=>Vk (k:=Ww<|Wt (s':=_::_++(_++(_++(_::(bd1,.r false [[iv 2,iv co,iv ca,kv,AV.bool py,gm tF bf,iv<|SD.pr d,iv<|OD.id o,iv<|OD.gt o,iv<|OD.owner o,iv<|OD.aQ o,iv<|OD.ci o,AV.bool<|OD.RU o,AV.bool<|OD.VK o,AV.bool<|OD.token o,iv<|OD.Y6 o,iv<|OD.stamp o,iv<|OD.NP o,iv<|OD.block o,AV.bool<|OD.J9 o,nilS,nilS,iv 0,iv 0,iv 0,iv 0,AV.bool false]] 27)::_)))) rfl rfl rfl uP rfl rfl<|Vr (k:=Wr (.iaddrS (show _=some _ by rw[<- eb];rfl) (show _=some (iv<|.ofNat j) by rw[<- hj];rfl) ack<|by decide)<|Vr (k:=λb11=>Vr (k:=WD.lk rfl .nil .ld<|Vr (k:=WD.lk rfl .nil .ld<|Vr (k:=Dc .nil<|Wt rfl rfl hpa (.there<|.app<|.app<|.app<|.there .here) rfl rfl<|Vr (k:=Dc .nil<|Wt (s':=_::_++(_++(_++(_::(bd1,.r false [[iv 2,iv co,iv ca,kv,AV.bool py,gm tF bf,iv<|SD.pr d,iv<|OD.id o,iv<|OD.gt o,iv<|OD.owner o,iv<|OD.aQ o,iv<|OD.ci o,AV.bool<|OD.RU o,AV.bool<|OD.VK o,AV.bool<|OD.token o,iv<|OD.Y6 o,iv<|OD.stamp o,iv<|OD.NP o,iv<|OD.block o,AV.bool<|OD.J9 o,nilS,AD.tg a,iv<|AD.n3 a,iv<|AD.n4 a,iv<|AD.n5 a,iv<|AD.n6 a,AV.bool false]] 27)::_)))) rfl rfl rfl (.there<|.app<|.app<|.app<|.there .here) rfl rfl<|Vr (k:=Dc .nil<|Wt rfl rfl rfl (.app<|.app<|.app<|.there .here) rfl rfl<|D0 .nil ?_ ?_))))))))))
 rotate_left
 ·intro o' ho'
  rcases List.mem_cons.1 ho' with rfl|ho'
  ·refine⟨(λi hi=>nomatch hi),Nat.zero_le _,by simp[dz,sameN,same0],λk' _ hk'=>?_⟩
   rcases(by have:k'<=2:=hk';omega:k'=0\/k'=1\/k'=2)with rfl|rfl|rfl
   ·exact⟨_,rfl,.load (cs:=[.bool a.tap]) rfl .here rfl rfl rfl⟩
   ·exact⟨_,rfl,.load (cs:=[.bool a.tap]) rfl .here rfl rfl rfl⟩
   ·exact⟨_,rfl,.load (cs:=[.bool a.tap]) rfl .here rfl rfl rfl⟩
  ·rw[List.mem_singleton.1 ho']
   refine⟨(λi hi=>nomatch hi),Nat.zero_le _,?_,λk' _ hk'=>?_⟩
   ·show sameL (sameN 5) _ _=true
    simp only[sameL,iq,Bool.and_true]
   rcases(by have:k'<=1:=hk';omega:k'=0\/k'=1)with rfl|rfl
   ·exact⟨_,rfl,.load rfl .here rfl rfl rfl⟩
   ·exact⟨_,rfl,.load rfl .here rfl rfl rfl⟩
 refine Vr (k:=We<|Wm (.ce ht) ?_)
 exact⟨rfl,PG _ _ _ _ _ _⟩
theorem ae9 (hE:GE P K F T tF g C d)(hs:aH bl EL d t s)(hf:Has bf (.r false [bu bl aZ c0 c1 c2 c3 c4 ap] 8) t){id:Int}(ho:d.obj id=none) :
  bB P K (F 37) [.ptr (some ⟨bf,0,0⟩),iv id] s (λv s'=>∃u,v=.tuple [.agg dB,.bool false]/\s'=u++t/\∀t',aH bl EL d t'<|u++t'):=
 bB.aaE ((Qq hE.hB hE.hC hs hE.hd hf).post λv s'⟨h1,h2⟩=>⟨by rw[h1,ho],h2⟩)
theorem ac6 (hE:GE P K F T tF g C d)(hA:BaseAc P K F T)(ht:Ty P (T 420) 27)(hm:kj bf bl aZ ap c0 c1 c2 c3 c4 C tl t)(hs:aH bl EL d t s){ck co ca:Int}{kv:AV}{py:Bool}{L0:List (List AV)}{s0:SH}(hkv:Src s0 2 kv L0)(ho:d.obj co=none) :
  bB P K (F 420) [gm tF bf,.agg [iv ck,iv co,iv ca,kv,.bool py]] s (λv s'=>v=.tuple [.agg (cN ck co ca kv py (gm tF bf) d.pr o00 nilS 0 0 0 0 false),.bool false]/\aH bl EL d t s'):=by
 refine hA.aga.cF ?_
 unfold aeJ
 have hp5:partCells 5 (.agg [iv ck,iv co,iv ca,kv,.bool py])=some [iv ck,iv co,iv ca,kv,.bool py]:=rfl
 refine Vr (k:=λb3=>Vr (k:=λb4=>Wv rfl<|Wn ?_))
 have hs0:=λy1 y2=>(hs.cons (p:=(b3,y1))).cons (p:=(b4,y2))
 refine Ws<|WP.fd λbd1=>WD.lk rfl .nil .ld<|Vr (k:=Dc .nil<|WS.invoke (vs:=[]) rfl (hE.info ) rfl ( p9 hE hs.cons.cons.cons (.there<|.there<|.there hm.hf)) ?_)
 rintro w _ ⟨m1,u1,⟨kv1,rfl,jZ⟩,rfl,vn⟩
 refine Vr (k:=?_)
 refine WD.al (.alloc rfl) rfl<|Dc (.yes rfl rfl uP .nil)<|WS.st<|D0 .nil ?_ ?_
 rotate_left
 ·intro o' ho'
  rw[List.mem_singleton.1 ho']
  refine⟨(λi hi=>by simp only[List.mem_singleton]at hi;subst hi;exact(show bit 0 6=false from rfl)),Nat.zero_le _,?_,λk' _ hk'=>?_⟩
  ·show sameL (sameN 5) _ _=true
   simp only[sameL,iq,J1,hkv.sameN,Bool.and_true]
  rcases(by have:k'<=1:=hk';omega:k'=0\/k'=1)with rfl|rfl
  ·exact⟨_,rfl,.load rfl zP rfl rfl rfl⟩
  ·exact⟨_,rfl,.load rfl zP rfl rfl rfl⟩
 have dt:=vn<|m1++((bd1,.r false [cN ck co ca kv py (gm tF bf) d.pr o00 nilS 0 0 0 0 false] 27)::(b4,.r false [aaI] 27)::(b3,.r false [[iv ck,iv co,iv ca,kv,.bool py]] 5)::t)
 refine Vr (k:=Ww<|WS.invoke (vs:=[iv co]) rfl (hE.hM.obj ) rfl ( ae9 hE dt (.app<|.there<|.there<|.there hm.hf) ho) ?_)
 rintro w _ ⟨u2,rfl,rfl,zB⟩
 refine Wv rfl<|Wr (.extract rfl rfl)<|Wr (.extract rfl rfl)<|Wa (.alloc rfl) λb7=>Ww<|Wt (s':=(b7,.r false [dB] 14)::_) rfl rfl rfl .here rfl rfl<|Wv rfl<|Wn<|Wq<|Wv rfl<|WO.pre (s':=u2++(m1++((b7,.r false [dB] 14)::(bd1,.r false [cN ck co ca kv py (gm tF bf) d.pr o00 nilS 0 0 0 0 false] 27)::(b4,.r false [aaI] 27)::(b3,.r false [[iv ck,iv co,iv ca,kv,.bool py]] 5)::t))) (qc) ?_
 have gw:=zB<|m1++((b7,.r false [dB] 14)::(bd1,.r false [cN ck co ca kv py (gm tF bf) d.pr o00 nilS 0 0 0 0 false] 27)::(b4,.r false [aaI] 27)::(b3,.r false [[iv ck,iv co,iv ca,kv,.bool py]] 5)::t)
 refine Ww<|WS.invoke (vs:=[]) rfl (hE.hM.aZ ) rfl ( aaj hE gw (.app<|.there<|.there<|.there<|.there hm.hf) (hm.eQ.mono λp hp=>by simp[hp])) ?_
 rintro w _ ⟨m3,u3,hS,rfl,hb3⟩
 have PG:∀q1 q2 q3 q4,aH bl EL d t (u3++(m3++(m1++(q1::q2::q3::q4::t)))):=λq1 q2 q3 q4=>aH.fb (x:=[q1,q2,q3,q4])<|aH.fb (x:=m1)<|aH.fb (x:=m3)<|hb3 _
 refine Vr (k:=We<|Wm (.ce ht) ?_)
 exact⟨rfl,PG _ _ _ _⟩
theorem aic (x y:Nat):binV .geq (.int .i64 (.ofNat x)) (.int .i64 (.ofNat y))=some (.bool (decide (y<=x))):=by
 show some (AV.bool<|!ilt (.ofNat x) (.ofNat y))=_
 rw[fw]
 congr 2
 by_cases h:x<y
 ·rw[show Nat.blt x y=true from bh.2 h,decide_eq_false<|by omega];rfl
 ·rw[show Nat.blt x y=false from by cases hb:Nat.blt x y with | false=>rfl | true=>exact absurd (bh.1 hb) h,decide_eq_true<|by omega];rfl
def OfK (P:Program)(K:Orc)(F:Nat->FuncId)(tF:TypeId)(bf bl:Nat)(EL:List (List AV))(d:SD)(t:SH)(ck co ca:Int)(kv:AV)(py:Bool)(row:List AV)(b:Bool):Prop:=
 ∀x s,aH bl EL d (x++t) s->bB P K (F 420) [gm tF bf,.agg [iv ck,iv co,iv ca,kv,.bool py]] s (λv s'=>v=.tuple [.agg row,.bool b]/\aH bl EL d (x++t) s')
theorem aah (hA:BaseAc P K F T){ck co ca me n0 n1 n2 n3:Int}{kv b am:AV}{py tp:Bool}{o:OD}{L0 L1:List (List AV)}{s0 s1:SH}(hkv:Src s0 2 kv L0)(KB:Src s1 1 am L1)(hb:partCells 1 b=some [b]) :
  bB P K (F 448) [.agg (cN ck co ca kv py b me o am n0 n1 n2 n3 tp)] s (λv s'=>v=.bool (decide<|L1.length<=L0.length)/\∃m,s'=m++s):=by
 refine hA.ajR.cF ?_
 unfold ahI
 have l0:=hkv.lenOf
 have l1:=KB.lenOf
 have h10:=aic L0.length L1.length
 refine Vr (k:=Wa (.box rfl rfl) λb1=>Vk (k:=We<|Wm (.tmp rfl .nil) ?_))
 exact⟨rfl,[_],rfl⟩
theorem adU (hE:GE P K F T tF g C d) (hA:BaseAc P K F T) (A2:meth P tF "Do"=some (F 15)) (hf:Has bf (.r false [bu bl aZ c0 c1 c2 c3 c4 ap] 8) t) (hs:aH bl EL d t s) (hEL:EL.length<=5000) {ck co ca n0 n1 n2 n3:Int} {kv am:AV} {py tp:Bool} {o:OD} {tg:List TG} {L1:List (List AV)} {d':SD}
  (hof:OfK P K F tF bf bl EL d t ck co ca kv py (cN ck co ca kv py (gm tF bf) d.pr o am n0 n1 n2 n3 tp) true) (hkv:Kv t kv tg) (hkl:tg.length<=901000) (KB:∃s1,Src s1 1 am L1)
  (hap:Ap P K F 28 0 0 (if L1.length<=tg.length then 1 else 0) 0 ⟨0,ck,0,co,0,ca,tg,kv⟩ d d') :
  bB P K (F 419) [gm tF bf,.agg [iv ck,iv co,iv ca,kv,.bool py]] s (λ_ s'=>∃row,aH bl (EL++[row]) d' t s'):=by
 refine hA.ajz.cF ?_
 unfold ahq
 obtain⟨s1,KB⟩:=KB
 have hkt:(yu tg).length=tg.length:=by simp[yu]
 have l0:lenOf kv=some tg.length:=by rw[hkv.src.lenOf,hkt]
 have l1:=KB.lenOf
 have h19:=aic tg.length L1.length
 have hp5:partCells 5 (.agg [iv ck,iv co,iv ca,kv,.bool py])=some [iv ck,iv co,iv ca,kv,.bool py]:=rfl
 refine Vr (k:=Wa (.box rfl hp5) λb3=>Vr (k:=Ww<|W1 (hof [_] _ hs.cons) ?_))
 rintro w s2 ⟨rfl,dt⟩
 obtain⟨u2,hu2,zB⟩:=dt.split
 refine WO.pre hu2<|Vr (k:=λb4=>Vr (k:=?_))
 have hpk:=hkv.src.part
 have gw:=λy=>aH.bK (m:=[(b4,y)])<|zB<|(b3,.r false [[iv ck,iv co,iv ca,kv,.bool py]] 5)::t
 by_cases hle:L1.length<=tg.length
 ·rw[if_pos hle]at hap
  rw[decide_eq_true hle]
  refine Vr (k:=Wr (.build (by simp only[bparts,aI,opl,lk,hpk];rfl) rfl)<|Wr (.build rfl rfl)<|Ww<|WS.invoke rfl (A2 ) rfl ( acd hE.hB (gw _) hE.hd zP hEL (by decide) (by decide) (by decide) (by decide) hap (hkv.mono λp hp=>by simp[hp]) hkl) ?_)
  rintro w s4 ⟨_,row,pM⟩
  refine Wn<|Wm .nil ?_
  exact⟨row,pM.tail⟩
 ·rw[if_neg hle]at hap
  rw[decide_eq_false hle]
  refine Vr (k:=Wr (.build (by simp only[bparts,aI,opl,lk,hpk];rfl) rfl)<|Wr (.build rfl rfl)<|Ww<|WS.invoke rfl (A2 ) rfl ( acd hE.hB (gw _) hE.hd zP hEL (by decide) (by decide) (by decide) (by decide) hap (hkv.mono λp hp=>by simp[hp]) hkl) ?_)
  rintro w s4 ⟨_,row,pM⟩
  refine Wn<|Wm .nil ?_
  exact⟨row,pM.tail⟩
theorem aan (hE:GE P K F T tF g C d)(hA:BaseAc P K F T)(hf:Has bf (.r false [bu bl aZ c0 c1 c2 c3 c4 ap] 8) t)(hs:aH bl EL d t s){co ca:Int}{o:OD}{d':SD}(ho:d.obj co=some o)
  (aej:∀x s,aH bl EL d (x++t) s->bB P K (F 419) [gm tF bf,.agg [iv 1,iv co,iv 0,nilS,.bool false]] s (λ_ s'=>∃row,aH bl (EL++[row]) d' (x++t) s')) :
  bB P K (F 408) [gm tF bf,.agg [iv 3,iv co,iv ca]] s (λ_ s'=>∃row,aH bl (EL++[row]) d' t s'):=by
 refine hA.ah5.cF ?_
 unfold afW
 have UO:partCells 3 (.agg [iv 3,iv co,iv ca])=some [iv 3,iv co,iv ca]:=rfl
 refine Vr (k:=Wa (.box rfl UO) λb3=>Vr (k:=Ww<|WS.invoke rfl (hE.hM.obj ) rfl ( vu hE hs.cons zP ho) ?_))
 rintro w _ ⟨u2,rfl,rfl,zB⟩
 refine Vr (k:=λb4=>Vr (k:=Ww<|W1 (aej [_,_] _<|aH.tT (aH.cons<|zB<|(b3,.r false [[iv 3,iv co,iv ca]] 3)::t)<|.refl _) ?_))
 rintro w s3 ⟨row,gw⟩
 refine Wn<|Wm .nil ?_
 exact⟨row,aH.fb gw⟩
theorem abP (hE:GE P K F T tF g C d)(hA:BaseAc P K F T)(hf:Has bf (.r false [bu bl aZ c0 c1 c2 c3 c4 ap] 8) t)(hs:aH bl EL d t s){co ca:Int}{o:OD}{d':SD}(ho:d.obj co=some o)
  (aej:∀x s,aH bl EL d (x++t) s->bB P K (F 419) [gm tF bf,.agg [iv 2,iv co,iv ca,nilS,.bool false]] s (λ_ s'=>∃row,aH bl (EL++[row]) d' (x++t) s')) :
  bB P K (F 408) [gm tF bf,.agg [iv 4,iv co,iv ca]] s (λ_ s'=>∃row,aH bl (EL++[row]) d' t s'):=by
 refine hA.ah5.cF ?_
 unfold afW
 have UO:partCells 3 (.agg [iv 4,iv co,iv ca])=some [iv 4,iv co,iv ca]:=rfl
 refine Vr (k:=Wa (.box rfl UO) λb3=>Vr (k:=Ww<|WS.invoke rfl (hE.hM.obj ) rfl ( vu hE hs.cons zP ho) ?_))
 rintro w _ ⟨u2,rfl,rfl,zB⟩
 refine Vr (k:=λb4=>Vr (k:=Ww<|W1 (aej [_,_] _<|aH.tT (aH.cons<|zB<|(b3,.r false [[iv 4,iv co,iv ca]] 3)::t)<|.refl _) ?_))
 rintro w s3 ⟨row,gw⟩
 refine Wn<|Wm .nil ?_
 exact⟨row,aH.fb gw⟩
structure OC where
 k:Int
 a:Int
 b:Int
deriving DecidableEq
@[reducible] def OC.row (x:OC):List AV:=[iv x.k,iv x.a,iv x.b]
def V1 (l:List OC):List (List AV):=l.map OC.row
def ocT (l:List TG):List OC:=l.map λx=>⟨5,x.p,x.o⟩
theorem Dh (l:List OC):(V1 l).length=l.length:=by simp[V1]
theorem abY (a b:List OC):V1 (a++b)=V1 a++V1 b:=by simp[V1]
theorem aer {l:List TG}{q:Nat}{x:TG}(h:l[q]?=some x):ocT (l.take (q+1))=ocT (l.take q)++[⟨5,x.p,x.o⟩]:=by
 rw[List.take_add_one,h];simp[ocT]
theorem ac0 (hA:BaseAc P K F T):bB P K (F 421) [] s (λv s'=>∃m,s'=m++s/\Src m 3 v (V1 [⟨6,0,0⟩])):=by
 refine hA.ajA.cF ?_
 unfold ahr
 refine Wq<|Wv rfl<|Wn<|Wq<|Wr (.build rfl rfl)<|Wa (.bslice rfl rfl) λb=>Wv rfl<|Wn<|We<|Wm (.tmp rfl .nil) ⟨[_],rfl,Src.all .here⟩
theorem ab8 (hE:GE P K F T tF g C d)(hs:aH bl EL d t s)(hf:Has bf (.r false [bu bl aZ c0 c1 c2 c3 c4 ap] 8) t)(eQ:cI t aZ C){kind:Nat}{aQ:Int}(hk:kind=1\/kind=3) :
  bB P K (F 26) [gm tF bf,iv<|.ofNat kind,iv aQ] s (λv s'=>∃m u,Src m 2 v (yu<|dT g d C (.ofNat kind) aQ)/\s'=u++(m++t)/\∀t',aH bl EL d t'<|u++t'):=
 bB.abQ ((ab9 hE.hB hE.hC hE.hG hE.hT hE.hM hk hs hE.hd hf eQ hE.hO).post λv s'⟨o,m,h1,h2⟩=>⟨o++m,h2.out.src.mono λp hp=>List.mem_append_left _ hp,by rw[List.append_assoc];exact h1⟩)
theorem aba (hA:BaseAc P K F T){ck co ca me n0 n1 n2 n3:Int}{kv b am:AV}{py tp:Bool}{o:OD}{L0 L1:List (List AV)}{s0 s1:SH}(hkv:Src s0 2 kv L0)(KB:Src s1 1 am L1)(hle:L1.length<=L0.length) :
  bB P K (F 423) [.agg (cN ck co ca kv py b me o am n0 n1 n2 n3 tp)] s (λv s'=>v=nilS/\∃m,s'=m++s):=by
 refine hA.ah7.cF ?_
 unfold afY
 have l0:=hkv.lenOf
 have l1:=KB.lenOf
 have h15:binV .lss (iv<|.ofNat L0.length) (iv<|.ofNat L1.length)=some (.bool false):=by rw[eT,decide_eq_false<|show¬Int.ofNat L0.length<Int.ofNat L1.length from(by omega:¬(L0.length:Int)<(L1.length:Int))]
 refine Vr (k:=Wa (.box rfl rfl) λb1=>Vk (k:=We<|Wm (.tmp rfl .nil) ?_))
 exact⟨rfl,[_],rfl⟩
theorem abb (hE:GE P K F T tF g C d)(hA:BaseAc P K F T)(hm:kj bf bl aZ ap c0 c1 c2 c3 c4 C tl t)(hs:aH bl EL d t s){ck co ca n0 n1 n2 n3:Int}{kv am:AV}{py tp:Bool}{o:OD}{L0:List (List AV)}{ks:List Nat}{s0:SH}{kind:Nat}(hkv:Src s0 2 kv L0)(KB:Src t 1 am (nR (ks.map Int.ofNat)))(hk:ks[L0.length]?=some kind)(hk8:kind=1\/kind=3) :
  bB P K (F 423) [.agg (cN ck co ca kv py (gm tF bf) d.pr o am n0 n1 n2 n3 tp)] s (λv s'=>∃m,aH bl EL d (m++t) s'/\Src m 3 v (V1<|ocT<|dT g d C (.ofNat kind) d.pr)):=by
 refine hA.ah7.cF ?_
 unfold afY
 have hlt:L0.length<ks.length:=(List.getElem?_eq_some_iff.1 hk).1
 have hL1:(nR<|ks.map Int.ofNat).length=ks.length:=by simp[nR]
 have l0:=hkv.lenOf
 have l1:lenOf am=some ks.length:=by rw[KB.lenOf,hL1]
 have h15:binV .lss (iv<|.ofNat L0.length) (iv<|.ofNat ks.length)=some (.bool true):=by rw[eT,decide_eq_true<|show Int.ofNat L0.length<Int.ofNat ks.length from(by omega:(L0.length:Int)<(ks.length:Int))]
 obtain⟨ba,ra,na,cb,J5,Sp,Ma,ea,hba,aaf,hra⟩:=KB.at (i:=L0.length)<|by omega
 have hrow:Ma[ra+L0.length]?=some [iv (.ofNat kind)]:=by rw[hra,nR,List.getElem?_map,List.getElem?_map,hk];rfl
 refine Vr (k:=Wa (.box rfl rfl) λb1=>Vk (k:=WP.bD<|Dp (.faddr rfl)<|Dl rfl .nil .ld<|Dp (.faddr rfl)<|Dl rfl .nil .ld<|Dp (.mv rfl)<|Dp (.iaddrS (show _=some _ by rw[<- ea];rfl) rfl aaf<|by decide)<|Dl rfl .nil .ld<|Dp (.faddr rfl)<|Dl rfl .nil .ld<|Dc .nil<|W1 (ab8 hE hs.cons (.there hm.hf) (hm.eQ.mono λp hp=>by simp[hp]) hk8) ?_))
 rintro w _ ⟨m2,u2,hS,rfl,zB⟩
 have dP:=qJ (g:=g) (C:=C) (kind:=.ofNat kind) (aQ:=d.pr) hE.hd
 generalize dT g d C (.ofNat kind) d.pr=CL at hS dP
 have lS:lenOf w=some CL.length:=by rw[hS.lenOf];simp[yu]
 refine Dp (.lenS rfl lS)<|Dp (.mv rfl)<|WD.n0<|Wb ?_
 refine Wp (λk l ds s'=>ds=[]/\∃q lv og jj,k=CL.length-q/\q<=CL.length/\s'=og++(jj++(u2++(m2++((b1,.r false [cN ck co ca kv py (gm tF bf) d.pr o am n0 n1 n2 n3 tp] 27)::t))))/\Gr 3 lv (V1<|ocT<|CL.take q) og/\∀i x,lk [(3,lv),(25,w),(26,iv<|.ofNat CL.length),(27,iv<|.ofNat q)] i=some x->lk l i=some x) ?_ (n:=CL.length-0)
  ⟨rfl,0,nilS,[],[],rfl,Nat.zero_le _,rfl,.nil,aa rfl qb⟩
 rintro k l ds s' ⟨rfl,q,lv,og,jj,rfl,hq,rfl,hG,hl⟩
 refine Wg hl (λ_ _ h=>h) ?_
 by_cases hlq:q<CL.length
 ·have h28:binV .lss (iv<|.ofNat q) (iv<|.ofNat CL.length)=some (.bool true):=by rw[eT,decide_eq_true<|show Int.ofNat q<Int.ofNat CL.length from(by omega:(q:Int)<(CL.length:Int))]
  have hx:CL[q]?=some CL[q]:=List.getElem?_eq_getElem hlq
  generalize CL[q]=x at hx
  obtain⟨bc,rc,nc,cc',slc,roc,Mc,rfl,hbc,CC,hrc⟩:=hS.at (i:=q)<|by simpa[yu]using hlq
  have aaW:Mc[rc+q]?=some x.row:=by rw[hrc,yu,List.getElem?_map,hx];rfl
  have X1:binV .add (iv<|.ofNat q) (iv<|.ofNat 1)=some (iv<|.ofNat<|q+1):=bM<|by omega
  refine Wq<|Wj rfl rfl h28<|Wn<|Ws<|Wd rfl (λ_=>Wi<|Ws<|Wb<|Wq<|Wr (.iaddrS rfl rfl CC<|by decide)<|Wr .ld<|Wa (.alloc rfl) λb6=>Ww<|Wt (s':=(b6,.r false [TG.row x] 2)::_) rfl rfl rfl .here rfl rfl<|Wn<|Wo<|Wv rfl<|Wf rfl<|Wr .ld<|Wf rfl<|Wr .ld<|Wr (.build (cs:=(⟨5,x.p,x.o⟩:OC).row) rfl rfl)<|Wa (.bslice (fZ rfl rfl) rfl) λb37=>Ww<|WS.append_gr (m:=[_,_]) rfl hG rfl (Src.all .here) (by decide) (by rw[Dh,ocT,List.length_map,List.length_take];omega) (by decide) λv o' j pI=>Vr (k:=?_)) Dz
  refine⟨CL.length-(q+1),by omega,rfl,q+1,v,o',[(b37,.r false [(⟨5,x.p,x.o⟩:OC).row] 3),(b6,.r false [x.row] 2)]++(j++jj),rfl,hlq,by simp only[List.append_assoc],by rw[aer hx,abY];exact pI,aa rfl qb⟩
 ·have h28:binV .lss (iv<|.ofNat q) (iv<|.ofNat CL.length)=some (.bool false):=by rw[eT,decide_eq_false<|show¬Int.ofNat q<Int.ofNat CL.length from(by omega:¬(q:Int)<(CL.length:Int))]
  have:q=CL.length:=by omega
  subst this
  rw[List.take_length]at hG
  refine Vk (k:=Wx<|Vk (k:=We<|Wm (.tmp rfl .nil) ?_))
  exact⟨og,aH.HW<|aH.bK<|aH.fb (x:=[_])<|aH.fb (x:=m2)<|zB _,hG.out.src⟩
theorem aa9 (hA:BaseAc P K F T){ck co ca me n0 n1 n2 n3:Int}{kv am:AV}{py tp:Bool}{o:OD}{L0 L1:List (List AV)}{s0 s1:SH}(hkv:Src s0 2 kv L0)(KB:Src s1 1 am L1)(hlt:L0.length<L1.length) :
  bB P K (F 424) [.agg (cN ck co ca kv py (gm tF bf) me o am n0 n1 n2 n3 tp)] s (λv s'=>v=nilS/\∃m,s'=m++s):=by
 refine hA.ah8.cF ?_
 unfold afZ
 refine Vr (k:=Wa (.box rfl rfl) λb1=>Vk (k:=WP.bD<|Dl rfl .nil .ld<|Dc .nil<|W1 (aah hA hkv KB rfl) ?_))
 rintro w _ ⟨rfl,m1,rfl⟩
 rw[decide_eq_false (by omega:¬L1.length<=L0.length)]
 have fin:∀q:Nat × HO,∃m,m1++(q::s)=m++s:=λq=>⟨m1++[q],by simp⟩
 refine Vr (k:=WD.jm rfl rfl<|Vr (k:=WD.jm rfl rfl<|Vr (k:=WD.jm rfl rfl<|Vr (k:=WD.jm rfl rfl<|Dk<|Dk<|Dp (.uS rfl rfl)<|Dp (.mv rfl)<|Dk<|Dk<|Dk<|WD.kg rfl rfl<|WD.kg rfl rfl<|WD.kg rfl rfl<|Dk<|Dp (.uS rfl rfl)<|WD.n0<|Vk (k:=Vk (k:=We<|Wm (.tmp rfl .nil) ?_))))))
 exact⟨rfl,fin _⟩
theorem abF (hE:GE P K F T tF g C d) (hA:BaseAc P K F T) (PB:meth P tF "Config"=some (F 345)) (akC:Ty P (T 24) 5) (hf:Has bf (.r false [bu bl aZ c0 c1 c2 c3 c4 ap] 8) t) (hs:aH bl EL d t s) {ck co ca n0 n1 n2 n3:Int} {kv am:AV} {py:Bool} {o:OD} {L0 L1:List (List AV)} {s0 s1:SH} {p:Nat} {lp:LD} {bb:Bool} (hkv:Src s0 2 kv L0) (KB:Src s1 1 am L1) (hle:L1.length<=L0.length)
  (hpr:d.pr=.ofNat p) (hlp:d.pl[p]?=some lp) (hst:d.st=[]) (hc1:1<=c1)
  (hcan:∀s,bB P K (F 449) [.agg [iv lp.m0,iv lp.m1,iv lp.m2,iv lp.m3],.agg [iv n0,iv n1,iv n2,iv n3]] s<|λv s'=>v=.bool bb/\s'=s) :
  bB P K (F 424) [.agg (cN ck co ca kv py (gm tF bf) d.pr o am n0 n1 n2 n3 false)] s (λv s'=>∃m,aH bl EL d (m++t) s'/\Src m 3 v (V1<|if bb then [⟨7,0,0⟩]else [])):=by
 refine hA.ah8.cF ?_
 unfold afZ
 rw[hpr]
 refine Vr (k:=Wa (.box rfl rfl) λb1=>Vk (k:=WP.bD<|Dl rfl .nil .ld<|Dc .nil<|W1 (aah hA hkv KB rfl) ?_))
 rintro w _ ⟨rfl,m1,rfl⟩
 rw[decide_eq_true hle]
 have nr:=λy=>aH.bK (m:=m1)<|hs.cons (p:=(b1,y))
 refine Vr (k:=Dc .nil<|WS.invoke (vs:=[iv (Int.ofNat p)]) rfl (hE.hM.RD ) rfl ( Ar hE.hB hE.hC hE.hT (nr _) hE.hd zP hlp) ?_)
 rintro w s2 ⟨rfl,dt⟩
 refine Vr (k:=WD.lk rfl .nil .ld<|Dy<|Dc .nil<|W1 (hcan _) ?_)
 rintro w _ ⟨rfl,rfl⟩
 cases bb with
 | false=>
  refine Vr (k:=WD.jm rfl rfl<|Vr (k:=WD.jm rfl rfl<|Vr (k:=D0 .nil ?_ ?_)))
  rotate_left
  ·intro o' ho'
   rw[List.mem_singleton.1 ho']
   refine⟨(λi hi=>nomatch hi),Nat.le_of_ble_eq_true rfl,?_,λk' h1 hk'=>?_⟩
   ·show sameL (sameN 5) _ _=true
    simp only[sameL,iq,Bool.and_true]
   rcases(by have:1<=k':=h1;have:k'<=2:=hk';omega:k'=1\/k'=2)with rfl|rfl
   ·exact⟨_,rfl,.load rfl zP rfl rfl rfl⟩
   ·exact⟨_,rfl,.load rfl (dt.mem .here) rfl rfl rfl⟩
  refine Vk (k:=We<|Wm (.tmp rfl .nil) ?_)
  exact⟨[],dt.tail,.nil⟩
 | true=>
  refine Vr (k:=Dc .nil<|WS.invoke (vs:=[]) rfl (hE.hM.stack ) rfl ( AK hE.hB hE.hG dt hE.hd zP) ?_)
  rintro w s3 ⟨m3,gw,LL,hS3,hN3⟩
  have lS:lenOf w=some 0:=by rw[hS3.lenOf,hN3.len,hst];rfl
  refine Vr (k:=WD.lk rfl .nil .ld<|Dy<|Dc .nil<|WS.invoke (vs:=[]) rfl (PB ) rfl ( adE hE.hI akC (gw.mem zP)) ?_)
  rintro w _ ⟨rfl,m4,rfl⟩
  have h27:binV .geq (iv<|.ofNat 0) (iv c1)=some (.bool false):=by
   show some (AV.bool<|!ilt (.ofNat 0) c1)=_
   rw[du,decide_eq_true<|show Int.ofNat 0<c1 from hc1];rfl
  refine Vr (k:=D0 .nil ?_ ?_)
  rotate_left
  ·intro o' ho'
   rcases List.mem_cons.1 ho' with rfl|ho'
   ·refine⟨(λi hi=>nomatch hi),Nat.le_of_ble_eq_true rfl,by simp[dz,sameN,same0],λk' h1 hk'=>?_⟩
    rcases(by have:3<=k':=h1;have:k'<=4:=hk';omega:k'=3\/k'=4)with rfl|rfl
    ·exact⟨_,rfl,.load rfl (dt.mem .here) rfl rfl rfl⟩
    ·exact⟨_,rfl,.load rfl (gw.mem zP) rfl rfl rfl⟩
   rw[List.mem_singleton.1 ho']
   refine⟨(λi hi=>nomatch hi),Nat.le_of_ble_eq_true rfl,?_,λk' h1 hk'=>?_⟩
   ·show sameL (sameN 5) _ _=true
    simp only[sameL,iq,Bool.and_true]
   rcases(by have:1<=k':=h1;have:k'<=2:=hk';omega:k'=1\/k'=2)with rfl|rfl
   ·exact⟨_,rfl,.load rfl zP rfl rfl rfl⟩
   ·exact⟨_,rfl,.load rfl (dt.mem .here) rfl rfl rfl⟩
  refine Vr (k:=?_)
  refine Wa (.bslice (fZ rfl rfl) rfl) λb39=>Vk (k:=We<|Wm (.tmp rfl .nil) ?_)
  exact⟨[_],aH.cons<|aH.bK (m:=m4) (aH.fb (x:=m3) gw).tail,Src.all .here⟩
def P0 (me:Int)(o:OD)(c:CD):Bool:=decide (o.aQ=me)&&(!o.RU&&decide (c.kind=1))
theorem acW (hA:BaseAc P K F T){row:List AV}{b1 b4:Nat}{me:Int}{v:AV}{o:OD}{c:CD}{k:Nat}(h1:Has b1 (.r false [row] 27) s)(hme:bV 1 (cu 6 row)=some [iv me])(h4:Has b4 (.r false [[v]] 1) s)(hS:Src s 11 v (C.map CD.row))(hn:C.length<=1000)(hk:o.gt=.ofNat k)(hc:C[k]?=some c) :
  bB P K (F 450) [.agg o.row,.ptr<|some ⟨b1,0,0⟩,.ptr<|some ⟨b4,0,0⟩] s (λw s'=>w=.bool (P0 me o c)/\∃m,s'=m++s):=by
 refine hA.ajS.cF ?_
 unfold ahJ
 have hkl:k<C.length:=(List.getElem?_eq_some_iff.1 hc).1
 have l0:lenOf v=some C.length:=by rw[hS.lenOf];simp
 have h20:binV .lss (iv o.gt) (iv<|.ofNat C.length)=some (.bool true):=by rw[hk,eT,decide_eq_true<|show Int.ofNat k<Int.ofNat C.length from(by omega:(k:Int)<(C.length:Int))]
 obtain⟨ba,ra,na,ca',J5,Sp,Ma,rfl,hba,aaf,hra⟩:=hS.at<|by simpa using hkl
 have hrow:Ma[ra+k]?=some c.row:=by rw[hra,List.getElem?_map,hc];rfl
 refine Vr (k:=Wa (.box rfl rfl) λb3=>Wv rfl<|Wn ?_)
 refine Wq<|Wf rfl<|Wr .ld<|Wf rfl<|Wr .ld<|Wh rfl rfl (dh _ _)<|Wv rfl ?_
 by_cases hct:o.aQ=me
 ·rw[decide_eq_true hct]
  refine Vr (k:=?_)
  cases htp:o.RU with
  | true=>
   refine Vk (k:=We<|Wm (.tmp rfl .nil) ?_)
   exact⟨by simp[P0,htp],[_],rfl⟩
  | false=>
   refine Vr (k:=Wr (.iaddrS rfl (show _=some (iv<|.ofNat k) by rw[<- hk];rfl) aaf<|by decide)<|Wy<|Wf rfl<|Wy<|Wr .ld<|Wy<|Wh rfl rfl (dh _ _)<|Wr (.uS rfl rfl)<|Wv rfl<|Wn<|We<|Wm (.tmp rfl .nil) ?_)
   exact⟨by simp[P0,htp,hct],[_],rfl⟩
 ·rw[decide_eq_false hct]
  refine Vk (k:=We<|Wm (.tmp rfl .nil) ?_)
  exact⟨by simp[P0,hct],[_],rfl⟩
def aaX (d:SD)(C:List CD)(me:Int)(id:Int):Bool:=match d.obj id with
 | some o=>(match C[o.gt.toNat]? with | some c=>P0 me o c | none=>false)
 | none=>false
def kN (d:SD)(C:List CD)(me:Int)(q:Bool)(l:List Int):List Int:=l.filter λid=>q&&aaX d C me id
def ocL (l:List Int):List OC:=l.map λid=>⟨8,id,0⟩
theorem aai {me:Int}{q:Bool}{bX:List Int}{i:Nat}{id:Int}(h:bX[i]?=some id):kN d C me q (bX.take (i+1))=kN d C me q (bX.take i)++(if(q&&aaX d C me id)=true then [id]else []):=by
 rw[List.take_add_one,h]
 unfold kN
 rw[List.filter_append]
 congr 1
 cases hq:(q&&aaX d C me id)<;>simp[hq]
theorem acx (hE:GE P K F T tF g C d)(hs:aH bl EL d t s)(hf:Has bf (.r false [bu bl aZ c0 c1 c2 c3 c4 ap] 8) t){z:Int}{p:Nat}{bX:List Int}{put:List Int->SD}(hp:p<d.pl.length)(hz:d.ci z p=some (bX,put))(hn:bX.length<=1000) :
  bB P K (F 36) [.ptr (some ⟨bf,0,0⟩),iv z,iv<|.ofNat p] s (λv s'=>∃m u,Src m 1 v (nR bX)/\s'=u++(m++t)/\∀t',aH bl EL d t'<|u++t'):=
 bB.abQ ((afk hE.hB hE.hC hs hE.hd hE.he hf hp hz hn).post λv s'⟨m,h1,h2⟩=>⟨m,h2,h1⟩)
theorem aaY (hE:GE P K F T tF g C d)(hA:BaseAc P K F T)(hm:kj bf bl aZ ap c0 c1 c2 c3 c4 C tl t)(hs:aH bl EL d t s){ck co ca me n0 n1 n2 n3:Int}{kv am:AV}{py tp:Bool}{o:OD}{L0 L1:List (List AV)}{s0 s1:SH}(hkv:Src s0 2 kv L0)(KB:Src s1 1 am L1)(hp0:0<d.pl.length)
  (hall:∀id∈d.fi,∃o k c,d.obj id=some o/\o.gt=.ofNat k/\C[k]?=some c) :
  bB P K (F 425) [.agg (cN ck co ca kv py (gm tF bf) me o am n0 n1 n2 n3 tp)] s (λv s'=>∃m,aH bl EL d (m++t) s'/\Src m 3 v (V1<|ocL<|kN d C me (decide<|L1.length<=L0.length) d.fi)):=by
 refine hA.ajC.cF ?_
 unfold aht
 have hCn:=hm.eQ.n
 refine Vr (k:=λb1=>Vr (k:=Ww<|WS.invoke (vs:=[]) rfl (hE.hM.aZ ) rfl ( aaj hE hs.cons (.there hm.hf) (hm.eQ.mono λp hp=>by simp[hp])) ?_))
 rintro wc _ ⟨m1,u1,hS,rfl,vn⟩
 refine Vr (k:=λb4=>Ww<|Wt (row':=[wc]) rfl rfl hS.part .here rfl rfl<|Wn<|Wq<|Wr (.mkfn rfl rfl)<|Wv rfl<|Wn<|Ws<|Wq<|Wf rfl<|Wl rfl (.there<|.app<|.app .here) rfl rfl rfl ?_)
 have dt:=λy=>aH.cons (p:=(b4,y))<|vn<|m1++((b1,.r false [cN ck co ca kv py (gm tF bf) me o am n0 n1 n2 n3 tp] 27)::t)
 refine Ww<|WS.invoke rfl (hE.hM.ci ) rfl ( acx hE (dt _) (.there<|.app<|.there hm.hf) hp0 (show d.ci 2 0=some (d.fi,_)from rfl) hE.hd.n1.2.2.1) ?_
 rintro wz _ ⟨mz,u2,hZ,rfl,zB⟩
 have hfn:=hE.hd.n1.2.2.1
 have lZ:lenOf wz=some d.fi.length:=by rw[hZ.lenOf];simp[nR]
 refine Wr (.lenS rfl lZ)<|Wv rfl<|Wn ?_
 generalize hQ:decide (L1.length<=L0.length)=qq
 have hF:∃F0,F0=mz++((b4,HO.r false [[wc]] 1)::(m1++((b1,HO.r false [cN ck co ca kv py (gm tF bf) me o am n0 n1 n2 n3 tp] 27)::t))):=⟨_,rfl⟩
 obtain⟨F0,hF0⟩:=hF
 have akm:Has b1 (.r false [cN ck co ca kv py (gm tF bf) me o am n0 n1 n2 n3 tp] 27) F0:=by rw[hF0];exact .app<|.there<|.app .here
 have akn:Has b4 (.r false [[wc]] 1) F0:=by rw[hF0];exact .app .here
 have htF:∀p,p∈t->p∈F0:=λp hp=>by rw[hF0];simp[hp]
 have hzF:∀p,p∈mz->p∈F0:=λp hp=>by rw[hF0];simp[hp]
 have hSF:Src F0 11 wc (C.map CD.row):=hS.mono λp hp=>by rw[hF0];simp[hp]
 have hZF:=hZ.mono hzF
 have hfF:Has bf (.r false [bu bl aZ c0 c1 c2 c3 c4 ap] 8) F0:=.d5<|htF _ hm.hf.mem
 have ago:∀{A:SH},aH bl EL d F0 A->aH bl EL d t A:=λh=>by
  rw[hF0]at h
  exact aH.tail<|aH.fb (x:=m1)<|aH.tail<|aH.fb (x:=mz) h
 refine WP.pre (s':=u2++F0) (by rw[hF0];exact .refl _)<|Wb ?_
 refine Wp (λk l ds s'=>ds=[]/\∃q lv og jj u,k=d.fi.length-q/\q<=d.fi.length/\s'.Perm (og++(jj++(u++F0)))/\(∀t',aH bl EL d t'<|u++t')/\Gr 3 lv (V1<|ocL<|kN d C me qq<|d.fi.take q) og/\∀i x,lk [(1,.ptr<|some ⟨b1,0,0⟩),(3,lv),(5,.func (F 450) [] [.ptr (some ⟨b1,0,0⟩),.ptr<|some ⟨b4,0,0⟩]),(16,wz),(17,iv<|.ofNat d.fi.length),(18,iv<|.ofNat q)] i=some x->lk l i=some x) ?_ (n:=d.fi.length-0)
  ⟨rfl,0,nilS,[],[],u2,rfl,Nat.zero_le _,.refl _,zB,.nil,aa rfl qb⟩
 rintro k l ds s' ⟨rfl,q,lv,og,jj,u,rfl,hq,CO,hbu,hG,hl⟩
 refine Wg hl (λ_ _ h=>h)<|WP.pre CO ?_
 by_cases hlq:q<d.fi.length
 ·have h19:binV .lss (iv<|.ofNat q) (iv<|.ofNat d.fi.length)=some (.bool true):=by rw[eT,decide_eq_true<|show Int.ofNat q<Int.ofNat d.fi.length from(by omega:(q:Int)<(d.fi.length:Int))]
  have hx:d.fi[q]?=some d.fi[q]:=List.getElem?_eq_getElem hlq
  have KP:d.fi[q]∈d.fi:=List.getElem_mem _
  generalize d.fi[q]=x at hx KP
  obtain⟨ox,kx,cx,hox,Ux,hcx⟩:=hall x KP
  have hxI:aaX d C me x=P0 me ox cx:=by
   unfold aaX
   rw[hox]
   show(match C[ox.gt.toNat]? with | some c=>P0 me ox c | none=>false)=_
   rw[Ux,show(Int.ofNat kx).toNat=kx from rfl,hcx]
  obtain⟨bc,rc,nc,cc',slc,roc,Mc,rfl,hbc,CC,hrc⟩:=hZF.at (i:=q)<|by simpa[nR]using hlq
  have aaW:Mc[rc+q]?=some [iv x]:=by rw[hrc,nR,List.getElem?_map,hx];rfl
  have X1:binV .add (iv<|.ofNat q) (iv<|.ofNat 1)=some (iv<|.ofNat<|q+1):=bM<|by omega
  refine Wq<|Wj rfl rfl h19<|Wn<|Ws<|Wd rfl (λ_=>Wi<|Ws<|Wb<|Wq<|Wr (.iaddrS rfl rfl CC<|by decide)<|Wr .ld<|Wv rfl<|Wn ?_) Dz
  refine Vr (k:=Ww<|WS.invoke (vs:=[iv x]) rfl (hE.hM.obj ) rfl ( vu hE (aH.HW (x:=og)<|aH.HW (x:=jj)<|hbu F0) (.app<|.app hfF) hox) ?_)
  rintro w _ ⟨u3,rfl,rfl,hb3⟩
  refine Wv rfl<|Wr (.extract rfl rfl)<|Wr (.extract rfl rfl)<|Wa (.alloc rfl) λb8=>Ww<|Wt (s':=(b8,.r false [OD.row ox] 14)::_) rfl rfl rfl .here rfl rfl<|Wv rfl<|Wn<|Wq<|Wr .ld<|Ww<|W1 (aah hA hkv KB rfl) ?_
  rintro w _ ⟨rfl,m9,rfl⟩
  rw[hQ]
  cases qq with
  | false=>
   refine Wv rfl<|Wk<|Wk<|Wk<|Wr (.bj rfl rfl)<|Wn<|Wd rfl fS<|λ_=>Wi<|Wo<|Wj rfl rfl X1<|Wv rfl<|Wn ?_
   have fin:∀y:Nat × HO,List.Perm (m9++(y::(u3++(og++(jj++F0))))) (og++((m9++(y::jj))++(u3++F0))):=λy=>qc
   exact⟨d.fi.length-(q+1),by omega,rfl,q+1,lv,og,_,u3,rfl,hlq,fin _,hb3,by rw[aai hx];simpa using hG,aa rfl qb⟩
  | true=>
   refine Wv rfl<|Wy<|Wv rfl<|Wy<|Wr .ld<|Wy<|Ww<|Wc (first:=[]) (vs:=[AV.agg (OD.row ox)]) rfl rfl (acW hA (.app<|.there<|.app<|.app<|.app akm) rfl (.app<|.there<|.app<|.app<|.app akn) (hSF.mono λp hp=>by simp[hp]) hCn Ux hcx) ?_
   rintro w _ ⟨rfl,m10,rfl⟩
   cases afG:P0 me ox cx with
   | false=>
    refine Wr (.uS rfl rfl)<|Wn<|Wd rfl fS<|λ_=>Wi<|Wo<|Wj rfl rfl X1<|Wv rfl<|Wn ?_
    have fin:∀y:Nat × HO,List.Perm (m10++(m9++(y::(u3++(og++(jj++F0)))))) (og++((m10++(m9++(y::jj)))++(u3++F0))):=λy=>qc
    exact⟨d.fi.length-(q+1),by omega,rfl,q+1,lv,og,_,u3,rfl,hlq,fin _,hb3,by rw[aai hx,hxI,afG];simpa using hG,aa rfl qb⟩
   | true=>
    refine Wr (.uS rfl rfl)<|Wn<|Wd rfl (λ_=>Wo<|Wv rfl<|Wv rfl<|Wr (.build (cs:=(⟨8,x,0⟩:OC).row) rfl rfl)<|Wa (.bslice (fZ rfl rfl) rfl) λb39=>?_) Dz
    refine Ww (WS.pre (s':=([(b39,.r false [(⟨8,x,0⟩:OC).row] 3)]++(m10++(m9++((b8,.r false [ox.row] 14)::u3))))++(og++(jj++F0))) (qc) (WS.append_gr rfl hG rfl (Src.all .here) (by decide) (by
     have:=List.length_filter_le (λid=>true&&aaX d C me id)<|d.fi.take q
     have h9:(kN d C me true<|d.fi.take q).length<=d.fi.length:=Nat.le_trans this (by rw[List.length_take];omega)
     rw[Dh,ocL,List.length_map]
     omega) (by decide) λv o' j pI=>?_))
    refine Wv rfl<|Wn<|Wo<|Wj rfl rfl X1<|Wv rfl<|Wn ?_
    have xB:Gr 3 v (V1<|ocL<|kN d C me true<|d.fi.take<|q+1) o':=by
     rw[aai hx,hxI,afG]
     simp only[Bool.and_self,if_true]
     rw[show ocL (kN d C me true (d.fi.take q)++[x])=ocL (kN d C me true<|d.fi.take q)++[⟨8,x,0⟩]from by simp[ocL],abY]
     exact pI
    have fin:∀y1 y2:Nat × HO,List.Perm (o'++(([y1]++(m10++(m9++(y2::u3))))++(j++(jj++F0)))) (o'++(([y1,y2]++(m10++(m9++(j++jj))))++(u3++F0))):=λy1 y2=>qc
    exact⟨d.fi.length-(q+1),by omega,rfl,q+1,v,o',_,u3,rfl,hlq,fin _ _,hb3,xB,aa rfl qb⟩
 ·have h19:binV .lss (iv<|.ofNat q) (iv<|.ofNat d.fi.length)=some (.bool false):=by rw[eT,decide_eq_false<|show¬Int.ofNat q<Int.ofNat d.fi.length from(by omega:¬(q:Int)<(d.fi.length:Int))]
  have:q=d.fi.length:=by omega
  subst this
  rw[List.take_length]at hG
  refine Wq<|Wj rfl rfl h19<|Wn<|Ws<|Wd rfl fS<|λ_=>Wx<|Wq<|Wv rfl<|Wv rfl<|Wn<|We<|Wm (.tmp rfl .nil) ?_
  exact⟨og,aH.HW<|aH.bK<|ago<|hbu F0,hG.out.src⟩
def aad (P:Program)(K:Orc)(bl:Nat)(EL:List (List AV))(d:SD)(t:SH)(f:AV)(out:List OC):Prop:=
 ∀fr s,aH bl EL d (fr++t) s->c6 P K f [] s (λv s'=>∃m u,Src m 3 v (V1 out)/\s'=u++(m++(fr++t))/\∀t',aH bl EL d t'<|u++t')
theorem aad.of {f:AV}{out:List OC}(h:∀fr s,aH bl EL d (fr++t) s->c6 P K f [] s (λv s'=>∃m,aH bl EL d (m++(fr++t)) s'/\Src m 3 v (V1 out))):aad P K bl EL d t f out:=by
 intro fr s hs
 refine c6.canon ?_
 intro H0 H hH
 obtain⟨v,s',H',h1,h2,m,h3,h4⟩:=h fr s hs H0 H hH
 obtain⟨u,hu,hb⟩:=h3.split
 exact⟨v,s',H',h1,h2,_,hu,m,u,h4,rfl,hb⟩
theorem abx (hA:BaseAc P K F T){v:AV}{fs:List (AV × List OC)}(hv:Src t 1 v (fs.map λx=>[x.1]))(Uu:∀x∈fs,aad P K bl EL d t x.1 x.2)(hn:fs.length<=1000)(Y3:(fs.flatMap (·.2)).length<=9000)(hs:aH bl EL d t s) :
  bB P K (F 422) [v] s (λw s'=>∃m,aH bl EL d (m++t) s'/\Src m 3 w (V1 (fs.flatMap (·.2)))):=by
 refine hA.ajB.cF ?_
 unfold ahs
 obtain⟨u0,hu0,hb0⟩:=hs.split
 have lV:lenOf v=some fs.length:=by rw[hv.lenOf];simp
 refine Vr (k:=?_)
 refine Wp (λk l ds s'=>ds=[]/\∃q lv og jj u,k=fs.length-q/\q<=fs.length/\s'.Perm (og++(jj++(u++t)))/\(∀t',aH bl EL d t'<|u++t')/\GrE 3 lv (V1 ((fs.take q).flatMap (·.2))) og/\∀i x,lk [(3,lv),(6,v),(7,iv<|.ofNat fs.length),(8,iv<|.ofNat q)] i=some x->lk l i=some x) ?_
  ⟨rfl,0,nilS,[],[],u0,rfl,Nat.zero_le _,hu0,hb0,.nil,aa rfl qb⟩
 rintro k l ds s' ⟨rfl,q,lv,og,jj,u,rfl,hq,CO,hbu,hG,hl⟩
 refine Wg hl (λ_ _ h=>h)<|WP.pre CO ?_
 by_cases hlq:q<fs.length
 ·have h9:binV .lss (iv<|.ofNat q) (iv<|.ofNat fs.length)=some (.bool true):=by rw[eT,decide_eq_true<|show Int.ofNat q<Int.ofNat fs.length from(by omega:(q:Int)<(fs.length:Int))]
  have hx:fs[q]?=some fs[q]:=List.getElem?_eq_getElem hlq
  have KP:fs[q]∈fs:=List.getElem_mem _
  generalize fs[q]=x at hx KP
  obtain⟨bc,rc,nc,cc',slc,roc,Mc,rfl,hbc,CC,hrc⟩:=hv.at<|by simpa using hlq
  have aaW:Mc[rc+q]?=some [x.1]:=by rw[hrc,List.getElem?_map,hx];rfl
  have X1:binV .add (iv<|.ofNat q) (iv<|.ofNat 1)=some (iv<|.ofNat<|q+1):=bM<|by omega
  have gc:(fs.take<|q+1).flatMap (·.2)=(fs.take q).flatMap (·.2)++x.2:=by rw[List.take_add_one,hx,List.flatMap_append];simp
  have hlen:((fs.take q).flatMap (·.2)).length+x.2.length<=9000:=by
   have e:(fs.take<|q+1).flatMap (·.2)++(fs.drop<|q+1).flatMap (·.2)=fs.flatMap (·.2):=by rw[<- List.flatMap_append,List.take_append_drop]
   have:=congrArg List.length e
   rw[gc,List.length_append,List.length_append]at this
   omega
  refine Vr (k:=Ww<|WS.call rfl rfl (Uu x KP (og++jj) _<|aH.tT (aH.HW<|aH.HW<|hbu t)<|by rw[List.append_assoc]) ?_)
  rintro w _ ⟨m3,u3,hS3,rfl,hb3⟩
  refine Ww<|WS.pre (s':=(u3++m3)++(og++(jj++t))) (ak λc w h0 h1 h2 hq=>by simp only[h1];omega)<|WS.aau rfl hG rfl (hS3.mono λp hp=>by simp[hp]) (by decide) (by rw[Dh,Dh];omega) (by decide) λv o' j pI=>Vr (k:=?_)
  have xB:GrE 3 v (V1 ((fs.take<|q+1).flatMap (·.2))) o':=by rw[gc,abY];exact pI
  exact⟨fs.length-(q+1),by omega,rfl,q+1,v,o',m3++(j++jj),u3,rfl,hlq,ak λc w h0 h1 h2 hq=>by simp only[h1];omega,hb3,xB,aa rfl qb⟩
 ·have h9:binV .lss (iv<|.ofNat q) (iv<|.ofNat fs.length)=some (.bool false):=by rw[eT,decide_eq_false<|show¬Int.ofNat q<Int.ofNat fs.length from(by omega:¬(q:Int)<(fs.length:Int))]
  have:q=fs.length:=by omega
  subst this
  rw[List.take_length]at hG
  refine Vk (k:=Wx<|Vk (k:=We<|Wm (.tmp rfl .nil) ?_))
  exact⟨og,aH.HW<|aH.bK<|hbu t,hG.out.src⟩
theorem aH.ah4 {m x:SH}{y1 y2:Nat × HO}(h:aH bl EL d (m++(y1::y2::(x++t))) s):aH bl EL d (m++t) s:=
 aH.fb (x:=y1::y2::x) (h.tT<|qc)
theorem aad.up {f:AV}{out:List OC}(h:aad P K bl EL d t f out)(x:SH):aad P K bl EL d (x++t) f out:=by
 intro fr s hs
 rw[<- List.append_assoc]at hs
 have:=h (fr++x) s hs
 simpa only[List.append_assoc]using this
theorem ael (hA:BaseAc P K F T):aad P K bl EL d t (.func (F 421) [] []) [⟨6,0,0⟩]:=
 aad.of λfr s hs=>c6.func<|(ac0 hA).post λv s'⟨m,h1,h2⟩=>⟨m,by rw[h1];exact hs.HW,h2⟩
theorem aa8 (hE:GE P K F T tF g C d)(hA:BaseAc P K F T)(hf:Has bf (.r false [bu bl aZ c0 c1 c2 c3 c4 ap] 8) t)(hs:aH bl EL d t s)
  (hof:∀kv,(∃s0,Src s0 2 kv<|yu d.ct)->OfK P K F tF bf bl EL d t d.ck d.co d.ca kv d.py (cN d.ck d.co d.ca kv d.py (gm tF bf) d.pr o00 nilS 0 0 0 0 false) false) :
  bB P K (F 409) [gm tF bf] s (λv s'=>v=nilS/\aH bl EL d t s'):=by
 refine hA.ah6.cF ?_
 unfold afX
 refine Vr (k:=Ww<|WS.invoke (vs:=[]) rfl (hE.info ) rfl ( p9 hE hs hf) ?_)
 rintro w _ ⟨m1,u1,⟨kv,rfl,hg⟩,rfl,vn⟩
 refine Vr (k:=Ww<|W1 (bB.aaE<|hof kv ⟨_,hg.gr.out.src⟩ m1 _<|vn<|m1++t) ?_)
 rintro w _ ⟨u2,rfl,rfl,zB⟩
 refine Vr (k:=λb3=>Vk (k:=We<|Wm (.tmp rfl .nil) ?_))
 exact⟨rfl,aH.bK (m:=[_])<|aH.fb (x:=m1)<|zB _⟩
theorem aaq (hE:GE P K F T tF g C d)(hA:BaseAc P K F T)(hf:Has bf (.r false [bu bl aZ c0 c1 c2 c3 c4 ap] 8) t)(hs:aH bl EL d t s){n0 n1 n2 n3:Int}{am:AV}{tp:Bool}{o:OD}{o1 o2 o3:List OC}
  (hof:∀kv,(∃s0,Src s0 2 kv<|yu d.ct)->OfK P K F tF bf bl EL d t d.ck d.co d.ca kv d.py (cN d.ck d.co d.ca kv d.py (gm tF bf) d.pr o am n0 n1 n2 n3 tp) true)
  (h1:∀kv,(∃s0,Src s0 2 kv<|yu d.ct)->aad P K bl EL d t (.func (F 423) [.agg (cN d.ck d.co d.ca kv d.py (gm tF bf) d.pr o am n0 n1 n2 n3 tp)] []) o1)
  (h2:∀kv,(∃s0,Src s0 2 kv<|yu d.ct)->aad P K bl EL d t (.func (F 424) [.agg (cN d.ck d.co d.ca kv d.py (gm tF bf) d.pr o am n0 n1 n2 n3 tp)] []) o2)
  (h3:∀kv,(∃s0,Src s0 2 kv<|yu d.ct)->aad P K bl EL d t (.func (F 425) [.agg (cN d.ck d.co d.ca kv d.py (gm tF bf) d.pr o am n0 n1 n2 n3 tp)] []) o3)
  (Y3:o1.length+o2.length+o3.length<=8000) :
  bB P K (F 409) [gm tF bf] s (λv s'=>∃m,aH bl EL d (m++t) s'/\Src m 3 v (V1<|o1++(o2++(o3++[⟨6,0,0⟩])))):=by
 refine hA.ah6.cF ?_
 unfold afX
 refine Vr (k:=Ww<|WS.invoke (vs:=[]) rfl (hE.info ) rfl ( p9 hE hs hf) ?_)
 rintro w _ ⟨m1,u1,⟨kv,rfl,hg⟩,rfl,vn⟩
 refine Vr (k:=Ww<|W1 (bB.aaE<|hof kv ⟨_,hg.gr.out.src⟩ m1 _<|vn<|m1++t) ?_)
 rintro w _ ⟨u2,rfl,rfl,zB⟩
 refine Vr (k:=λb3=>Vr (k:=?_))
 refine Wa (.bslice rfl rfl) λb25=>?_
 have hk:∃s0,Src s0 2 kv (yu d.ct):=⟨_,hg.gr.out.src⟩
 have hsX:=λy1 y2=>((zB<|m1++t).cons (p:=(b3,y1))).cons (p:=(b25,y2))
 have Uu:∀(y1 y2:Nat × HO),∀x∈[(AV.func (F 423) [.agg (cN d.ck d.co d.ca kv d.py (gm tF bf) d.pr o am n0 n1 n2 n3 tp)] [],o1),(AV.func (F 424) [.agg (cN d.ck d.co d.ca kv d.py (gm tF bf) d.pr o am n0 n1 n2 n3 tp)] [],o2),(AV.func (F 425) [.agg (cN d.ck d.co d.ca kv d.py (gm tF bf) d.pr o am n0 n1 n2 n3 tp)] [],o3),(AV.func (F 421) [] [],[⟨6,0,0⟩])],aad P K bl EL d (y1::y2::(m1++t)) x.1 x.2:=by
  intro y1 y2 x hx
  simp only[List.mem_cons,List.not_mem_nil,or_false]at hx
  rcases hx with rfl|rfl|rfl|rfl
  ·exact(h1 kv hk).up ([y1,y2]++m1)
  ·exact(h2 kv hk).up ([y1,y2]++m1)
  ·exact(h3 kv hk).up ([y1,y2]++m1)
  ·exact ael hA
 have e:[(AV.func (F 423) [.agg (cN d.ck d.co d.ca kv d.py (gm tF bf) d.pr o am n0 n1 n2 n3 tp)] [],o1),(AV.func (F 424) [.agg (cN d.ck d.co d.ca kv d.py (gm tF bf) d.pr o am n0 n1 n2 n3 tp)] [],o2),(AV.func (F 425) [.agg (cN d.ck d.co d.ca kv d.py (gm tF bf) d.pr o am n0 n1 n2 n3 tp)] [],o3),(AV.func (F 421) [] [],[⟨6,0,0⟩])].flatMap (·.2)=o1++(o2++(o3++[⟨6,0,0⟩])):=by simp
 refine Ww<|W1 (abx hA (fs:=[(AV.func (F 423) [.agg (cN d.ck d.co d.ca kv d.py (gm tF bf) d.pr o am n0 n1 n2 n3 tp)] [],o1),(AV.func (F 424) [.agg (cN d.ck d.co d.ca kv d.py (gm tF bf) d.pr o am n0 n1 n2 n3 tp)] [],o2),(AV.func (F 425) [.agg (cN d.ck d.co d.ca kv d.py (gm tF bf) d.pr o am n0 n1 n2 n3 tp)] [],o3),(AV.func (F 421) [] [],[⟨6,0,0⟩])]) (Src.all .here) (Uu _ _) (Nat.le_of_ble_eq_true rfl) (by rw[e];simp only[List.length_append,List.length_cons,List.length_nil];omega)<|hsX _ _) ?_
 rintro w s3 ⟨m3,gw,hS3⟩
 rw[e]at hS3
 refine Vk (k:=We<|Wm (.tmp rfl .nil) ?_)
 exact⟨m3,gw.ah4,hS3⟩
theorem eqO (x y:OC):eqBy 20 (.agg [⟨0,⟨1,⟨false,.pi⟩⟩⟩,⟨1,⟨1,⟨false,.pi⟩⟩⟩,⟨2,⟨1,⟨false,.pi⟩⟩⟩]) (.agg x.row) (.agg y.row)=some (decide (x=y)):=by
 have h:eqBy 20 (.agg [⟨0,⟨1,⟨false,.pi⟩⟩⟩,⟨1,⟨1,⟨false,.pi⟩⟩⟩,⟨2,⟨1,⟨false,.pi⟩⟩⟩]) (.agg x.row) (.agg y.row)=some (ieq x.k y.k&&(ieq x.a y.a&&ieq x.b y.b)):=by
  cases h1:ieq x.k y.k<;>cases h2:ieq x.a y.a<;>cases h3:ieq x.b y.b<;>simp[eqBy,primEq,aw,part,dJ,keq,h1,h2,h3]
 rw[h,rh,rh,rh]
 obtain⟨a,b,c⟩:=x
 obtain⟨a',b',c'⟩:=y
 simp[OC.mk.injEq,Bool.decide_and]
theorem afa {L:List OC}{i:Nat}(h:i<L.length):(V1 L)[i]?=some L[i].row:=by rw[V1,List.getElem?_map,List.getElem?_eq_getElem h];rfl
theorem adM (hA:BaseAc P K F T){v:AV}{L:List OC}{x:OC}(hv:Src s 3 v (V1 L))(hn:L.length<=9000) :
  bB P K (F 451) [v,.agg x.row] s (λw s'=>(∃r:Int,w=iv r/\decide (r<0)=!decide (x∈L))/\∃m,s'=m++s):=by
 refine hA.ajT.cF ?_
 unfold ahK
 have lv:lenOf v=some L.length:=by rw[hv.lenOf,Dh]
 refine Vr (k:=λb3=>Vr (k:=?_))
 refine Wp (λk l ds s'=>ds=[]/\s'=(b3,.r false [x.row] 3)::s/\∃q,k=L.length-q/\q<=L.length/\(∀j,j<q->L[j]?≠some x)/\∀j w,lk [(0,v),(3,.ptr<|some ⟨b3,0,0⟩),(7,iv<|.ofNat L.length),(8,iv<|.ofNat q),(6,v)] j=some w->lk l j=some w) ?_ (n:=L.length-0) ⟨rfl,rfl,0,rfl,Nat.zero_le _,λj hj=>absurd hj<|Nat.not_lt_zero _,aa rfl qb⟩
 rintro k l ds s' ⟨rfl,rfl,q,rfl,hq,hno,hl⟩
 refine Wg hl (λ_ _ h=>h) ?_
 refine Vk (k:=Wd rfl (λht=>Wi ?_)<|λht=>?_)
 ·have hlt:q<L.length:=bh.1 ht
  obtain⟨b,r,no,c,so,ro,M,rfl,hb,PS,hM⟩:=hv.Ko (by rw[Dh];omega)
  rw[Dh]at PS hM
  refine Vr (k:=?_)
  refine Dl rfl .nil (.load rfl zP ((hM q hlt).trans (afa hlt)) rfl rfl)<|Dp (.eql rfl rfl<|eqO _ _)<|D0 .nil ?_<|λo ho=>nomatch ho
  by_cases he:x=L[q]
  ·rw[decide_eq_true he]
   refine Vk (k:=We<|Wm (.tmp rfl .nil) ?_)
   refine⟨⟨.ofNat q,rfl,?_⟩,[_],rfl⟩
   have:x∈L:=by rw[he];exact List.getElem_mem _
   rw[decide_eq_true this,decide_eq_false (by show¬((q:Nat):Int)<0;omega)]
   rfl
  ·rw[decide_eq_false he]
   refine Vr (k:=?_)
   refine⟨L.length-(q+1),by omega,rfl,rfl,q+1,rfl,hlt,λj hj=>?_,aa rfl qb⟩
   by_cases YC:j=q
   ·subst YC
    rw[List.getElem?_eq_getElem hlt]
    intro h
    exact he (Option.some.inj h).symm
   ·exact hno j<|by omega
 ·refine Wx ?_
  have:q=L.length:=by
   have:¬q<L.length:=λh=>by rw[fw,show Nat.blt q L.length=true from bh.2 h]at ht;cases ht
   omega
  subst this
  refine Vk (k:=We<|Wm (.tmp rfl .nil) ?_)
  refine⟨⟨-1,rfl,?_⟩,[_],rfl⟩
  have:¬x∈L:=λh=>by
   obtain⟨j,hj,e⟩:=List.getElem_of_mem h
   exact hno j hj<|by rw[List.getElem?_eq_getElem hj,e]
  rw[decide_eq_false this]
  rfl
theorem vj (hA:BaseAc P K F T){v:AV}{L:List OC}{x:OC}(hv:Src s 3 v (V1 L))(hn:L.length<=9000):bB P K (F 426) [v,.agg x.row] s (λw s'=>w=.bool (decide (x∈L))/\∃m,s'=m++s):=by
 refine hA.ajD.cF ?_
 unfold ahu
 refine Vr (k:=λb3=>Vr (k:=Ww<|W1 (adM hA (hv.mono λp hp=>by simp[hp]) hn) ?_))
 rintro w _ ⟨⟨r,rfl,hr⟩,m,rfl⟩
 refine Wj rfl rfl (th r 0)<|Wv rfl<|Wn<|We<|Wm (.tmp rfl .nil) ?_
 refine⟨?_,_,pull yg⟩
 show AV.bool (!decide (r<0))=_
 rw[hr,Bool.not_not]
theorem abR (hB:Base P K F T)(hA:BaseAc P K F T)(hs:aH bl EL d t s){ck co ca me n0 n1 n2 n3:Int}{am:AV}{py tp:Bool}{o:OD}{k a b:Int}{d':SD}
  (aej:∀kv x s,Kv (x++t) kv [⟨a,b⟩]->aH bl EL d (x++t) s->bB P K (F 419) [gm tF bf,.agg [iv ck,iv co,iv ca,kv,.bool py]] s (λ_ s'=>∃row,aH bl (EL++[row]) d' (x++t) s')) :
  bB P K (F 427) [.agg (cN ck co ca nilS py (gm tF bf) me o am n0 n1 n2 n3 tp),.agg [iv k,iv a,iv b]] s (λv s'=>v=.bool false/\∃row,aH bl (EL++[row]) d' t s'):=by
 refine hA.ajE.cF ?_
 unfold ahv
 refine Vr (k:=Wa (.box rfl rfl) λb2=>Wa (.box (cs:=[iv k,iv a,iv b]) rfl rfl) λb3=>Vr (k:=λb5=>Vr (k:=WP.fd λbd1=>Dp (.faddr rfl)<|Dl rfl .nil .ld<|Dc .nil<|W1 (hB.NT.iX) ?_)))
 rintro w _ ⟨rfl,rfl⟩
 refine Vr (k:=WD.lk rfl .nil .ld<|Vr (k:=WD.lk rfl .nil .ld<|Vr (k:=?_)))
 refine WD.al (.bslice (L:=[(⟨a,b⟩:TG).row]) (fZ rfl rfl) rfl) rfl<|Dc (.yes (show bit 511 8=true from rfl) rfl .here .nil)<|WS.append_nil (c:=0) rfl rfl (Src.all (L:=[(⟨a,b⟩:TG).row]) .here) (by decide) (by simp) (Nat.le_of_ble_eq_true rfl) (by decide) λbn=>Dp (.faddr rfl)<|Dc .nil<|WS.st<|D0 .nil ?_ ?_
 rotate_left
 ·intro o' ho'
  rcases List.mem_cons.1 ho' with rfl|ho'
  ·refine⟨(λi hi=>by simp only[List.mem_singleton]at hi;subst hi;exact(show bit 32 8=false from rfl)),Nat.zero_le _,wC _,λk' _ hk'=>?_⟩
   rcases(by have:k'<=1:=hk';omega:k'=0\/k'=1)with rfl|rfl
   ·exact⟨_,rfl,.load rfl zP rfl rfl rfl⟩
   ·exact⟨_,rfl,.load rfl zP rfl rfl rfl⟩
  ·rw[List.mem_singleton.1 ho']
   refine⟨(λi hi=>by simp only[List.mem_singleton]at hi;subst hi;exact(show bit 8 8=false from rfl)),Nat.zero_le _,wC _,λk' _ hk'=>?_⟩
   rcases(by have:k'<=1:=hk';omega:k'=0\/k'=1)with rfl|rfl
   ·exact⟨_,rfl,.load rfl zP rfl rfl rfl⟩
   ·exact⟨_,rfl,.load rfl zP rfl rfl rfl⟩
 have hkv:∀y1 y2 y3 y4:Nat × HO,Kv ([(bn,HO.r false [(⟨a,b⟩:TG).row] 2),y1,y2,y3,y4]++t) (.slice (some ⟨bn,0,0⟩) 1 1 true 2) [⟨a,b⟩]:=λy1 y2 y3 y4=>⟨[(bn,_)],GK.rows (L:=[⟨a,b⟩])<|by simp,λp hp=>by rw[List.mem_singleton.1 hp];exact List.mem_cons_self ..⟩
 refine Vr (k:=Ww<|W1 (aej _ [(bn,.r false [(⟨a,b⟩:TG).row] 2),_,_,_,_] _ (hkv _ _ _ _) hs.cons.cons.cons.cons.cons) ?_)
 rintro w s3 ⟨row,gw⟩
 refine Vk (k:=We<|Wm (.tmp rfl .nil) ?_)
 exact⟨rfl,row,aH.fb (x:=[_,_,_,_,_]) gw⟩
theorem adD (hG:BaseG P K F T)(hs:aH bl EL d t s)(hf:Has bf (.r false [bu bl aZ c0 c1 c2 c3 c4 ap] 8) t)(eQ:cI t aZ C) :
  bB P K (F 344) [.ptr (some ⟨bf,0,0⟩)] s (λv s'=>∃m u,Src m 11 v (C.map CD.row)/\s'=u++(m++t)/\∀t',aH bl EL d t'<|u++t'):=
 bB.abQ ((BS hG hs hf eQ).post λv s'⟨m,h1,h2⟩=>⟨m,h2,h1⟩)
theorem aH.assoc {m x:SH}(h:aH bl EL d (m++(x++t)) s):aH bl EL d ((m++x)++t) s:=by rw[List.append_assoc];exact h
theorem acV (hE:GE P K F T tF g C d) (hA:BaseAc P K F T) (A2:meth P tF "Do"=some (F 15)) (hm:kj bf bl aZ ap c0 c1 c2 c3 c4 C tl t) (hs:aH bl EL d t s) {ck co ca me n0 n1 n2 n3:Int} {kv am:AV} {py tp:Bool} {o:OD} {kk a b:Int} {d1 d2:SD} {E1 E2:List (List AV)} {ox:OD} {c:CD} {k:Nat}
  (hox:d.obj a=some ox) (hk:ox.gt=.ofNat k) (hc:C[k]?=some c)
  (akD:∀x s,aH bl EL d (x++t) s->bB P K (F 15) [.ptr (some ⟨bf,0,0⟩),.agg<|cr 3 a 0 1 0 Pu] s (λv s'=>v=iv 0/\aH bl E1 d1 (x++t) s'))
  (aeh:∀x s,aH bl E1 d1 (x++t) s->bB P K (F 15) [.ptr (some ⟨bf,0,0⟩),.agg<|cr 8 me c.n6 1 0 Pu] s (λv s'=>v=iv 0/\aH bl E2 d2 (x++t) s')) :
  bB P K (F 428) [.agg (cN ck co ca kv py (gm tF bf) me o am n0 n1 n2 n3 tp),.agg [iv kk,iv a,iv b]] s (λv s'=>v=.bool false/\aH bl E2 d2 t s'):=by
 refine hA.ajF.cF ?_
 unfold ahw
 refine Vr (k:=Wa (.box rfl rfl) λb2=>Wa (.box rfl rfl) λb3=>Vr (k:=Ww<|WS.invoke rfl (hE.hM.obj ) rfl ( vu hE hs.cons.cons (.there<|.there hm.hf) hox) ?_))
 rintro w _ ⟨u2,rfl,rfl,zB⟩
 refine Wv rfl<|Wr (.extract rfl rfl)<|Wr (.extract rfl rfl)<|Wa (.alloc rfl) λb5=>Ww<|Wt (s':=(b5,.r false [OD.row ox] 14)::_) rfl rfl rfl .here rfl rfl<|Wv rfl<|Wn<|Wq<|Wf rfl<|Wr .ld<|Wf rfl<|Wr .ld<|Wr (.build (cs:=cr 3 a 0 1 0 Pu) rfl rfl)<|WO.pre (s':=u2++((b5,.r false [ox.row] 14)::(b3,.r false [[iv kk,iv a,iv b]] 3)::(b2,.r false [cN ck co ca kv py (gm tF bf) me o am n0 n1 n2 n3 tp] 27)::t)) (qc)<|Ww<|WS.invoke rfl (A2 ) rfl ( bB.aaE (akD [_,_,_] _<|zB _)) ?_
 rintro w _ ⟨u3,rfl,rfl,hb3⟩
 have hkl:k<C.length:=(List.getElem?_eq_some_iff.1 hc).1
 refine Vr (k:=WD.lk rfl .nil .ld<|Vr (k:=WD.lk rfl .nil .ld<|Vr (k:=?_)))
 refine Dc .nil<|WS.invoke rfl (hE.hM.aZ ) rfl ( adD hE.hG (hb3 _) (.there<|.there<|.there hm.hf) (hm.eQ.mono λp hp=>by simp[hp])) ?_
 rintro w _ ⟨m4,u4,hS,rfl,hb4⟩
 obtain⟨ba,ra,na,ca',J5,Sp,Ma,rfl,hba,aaf,hra⟩:=hS.at<|by simpa using hkl
 have hrow:Ma[ra+k]?=some c.row:=by rw[hra,List.getElem?_map,hc];rfl
 refine Vr (k:=?_)
 refine WD.lk rfl .nil .ld<|Dp (.iaddrS rfl (show _=some (iv<|.ofNat k) by rw[<- hk];rfl) aaf<|by decide)<|Vr (k:=Dc .nil<|WS.invoke rfl (A2 ) rfl ( aeh (m4++_) _ (hb4 _).assoc) ?_)
 rintro w s5 ⟨rfl,tn⟩
 refine D0 .nil ?_ ?_
 rotate_left
 ·intro o' ho'
  rcases List.mem_cons.1 ho' with rfl|ho'
  ·refine⟨(λi hi=>nomatch hi),Nat.zero_le _,wC _,λk' _ hk'=>?_⟩
   rcases(by have:k'<=1:=hk';omega:k'=0\/k'=1)with rfl|rfl
   ·exact⟨_,rfl,.load rfl zP rfl rfl rfl⟩
   ·exact⟨_,rfl,.load rfl zP rfl rfl rfl⟩
  rcases List.mem_cons.1 ho' with rfl|ho'
  ·refine⟨(λi hi=>nomatch hi),Nat.zero_le _,wC _,λk' _ hk'=>?_⟩
   rcases(by have:k'<=1:=hk';omega:k'=0\/k'=1)with rfl|rfl
   ·exact⟨_,rfl,.load rfl zP rfl rfl rfl⟩
   ·exact⟨_,rfl,.load rfl zP rfl rfl rfl⟩
  ·rw[List.mem_singleton.1 ho']
   refine⟨(λi hi=>nomatch hi),Nat.zero_le _,by simp[dz,sameN,same0],λk' _ hk'=>?_⟩
   rcases(by have:k'<=1:=hk';omega:k'=0\/k'=1)with rfl|rfl
   ·exact⟨_,rfl,.load rfl zP rfl rfl rfl⟩
   ·exact⟨_,rfl,.load rfl zP rfl rfl rfl⟩
 refine Vk (k:=We<|Wm (.tmp rfl .nil) ?_)
 exact⟨rfl,aH.fb tn⟩
theorem adR (hE:GE P K F T tF g C d) (hA:BaseAc P K F T) (A2:meth P tF "Do"=some (F 15)) (hm:kj bf bl aZ ap c0 c1 c2 c3 c4 C tl t) (hs:aH bl EL d t s) {co n0 n1 n2 n3:Int} {kv am:AV} {py:Bool} {o:OD} {op:List AV} {tg:List TG} {p:Nat} {lp:LD} {x cG:Int} {d1 d2 d3 d4:SD} {E1 E2 E3:List (List AV)}
  (hop:partCells 3 (.agg op)=some op) (hkv:Kv t kv tg) (hpr:d.pr=.ofNat p) (hlp:d.pl[p]?=some lp) (Uy:lp.m0=x/\lp.m1=0/\lp.m2=0/\lp.m3=0) (hx:1<=x/\x<=900)
  (aky:∀s,bB P K (F 452) [.agg [iv x,iv 0,iv 0,iv 0],.agg [iv n0,iv n1,iv n2,iv n3]] s<|λv s'=>v=.tuple [.agg [iv (x-1),iv 0,iv 0,iv 0],iv 0]/\s'=s)
  (aeh:∀y s,aH bl EL d (y++t) s->bB P K (F 15) [.ptr (some ⟨bf,0,0⟩),.agg<|cr 8 (.ofNat p) 0 (-1) 0 Pu] s (λv s'=>v=iv 0/\aH bl E1 d1 (y++t) s'))
  (aip:∀y s,aH bl E1 d1 (y++t) s->bB P K (F 15) [.ptr (some ⟨bf,0,0⟩),.agg<|cr 2 co 5 0 0 Pu] s (λv s'=>v=iv cG/\aH bl E2 d2 (y++t) s'))
  (hcast:∀y s,aH bl E2 d2 (y++t) s->bB P K (F 15) [.ptr (some ⟨bf,0,0⟩),.agg<|cr 28 0 0 0 0 Pu] s (λv s'=>v=iv 0/\aH bl E3 d3 (y++t) s'))
  (ais:∀y s,aH bl E3 d3 (y++t) s->bB P K (F 15) [.ptr (some ⟨bf,0,0⟩),.agg<|cr 15 0 0 0 0 ⟨0,1,.ofNat p,cG,o.gt,0,tg,kv⟩] s (λ_ s'=>∃row,aH bl (E3++[row]) d4 (y++t) s'))
  (aiq:∀y row s,aH bl (E3++[row]) d4 (y++t) s->bB P K (F 128) [gm tF bf,iv 6,iv cG,iv<|.ofNat p] s (λ_ s'=>aH bl (E3++[row]) d4 (y++t) s')) :
  bB P K (F 429) [.agg (cN 1 co 0 kv py (gm tF bf) d.pr o am n0 n1 n2 n3 false),.agg op] s (λv s'=>v=.bool true/\∃row,aH bl (E3++[row]) d4 t s'):=by
 refine hA.ajG.cF ?_
 unfold ahx
 rw[hpr]
 refine Vr (k:=λb2=>Wa (.box rfl hop) λb3=>Vr (k:=Ww<|WS.invoke rfl (hE.hM.RD ) rfl ( bB.aaE (Ar hE.hB hE.hC hE.hT hs.cons.cons hE.hd (.there<|.there hm.hf) hlp)) ?_))
 rintro w _ ⟨u2,rfl,rfl,zB⟩
 obtain⟨e0,e1,e2,e3⟩:=Uy
 have hrow:lp.row=[iv lp.Zl,iv x,iv 0,iv 0,iv 0,.bool lp.f1,.bool lp.f2,.bool lp.f3]:=by unfold LD.row;rw[e0,e1,e2,e3]
 rw[hrow]
 refine Wr (.fld rfl rfl)<|Wa (.alloc rfl) λb5=>Ww<|Wt (s':=(b5,.r false [[iv x,iv 0,iv 0,iv 0]] 4)::_) rfl rfl rfl .here rfl rfl<|Wn<|Wq<|Wr .ld<|Wf rfl<|Wr .ld<|Ww<|W1 (aky _) ?_
 rintro w _ ⟨rfl,rfl⟩
 refine Vr (k:=λb6=>Ww<|Wt (s':=(b6,.r false [[iv (x-1),iv 0,iv 0,iv 0]] 4)::_) rfl rfl rfl .here rfl rfl<|Wv rfl<|Wn<|Ws<|Wq<|Wv rfl<|Wn ?_)
 have hY:∃Y,Y=[(b6,HO.r false [[iv (x-1),iv 0,iv 0,iv 0]] 4),(b5,HO.r false [[iv x,iv 0,iv 0,iv 0]] 4),(b3,HO.r false [op] 3),(b2,HO.r false [cN 1 co 0 kv py (gm tF bf) (.ofNat p) o am n0 n1 n2 n3 false] 27)]:=⟨_,rfl⟩
 have h33:eqBy 20 .pi (iv<|x-1) (iv x)=some false:=by rw[dh,decide_eq_false<|by omega]
 have h45:binV .sub (iv<|x-1) (iv x)=some (iv<|-1):=by rw[aew (by omega)];congr 2;omega
 refine WP.pre (s':=u2++([(b6,.r false [[iv (x-1),iv 0,iv 0,iv 0]] 4),(b5,.r false [[iv x,iv 0,iv 0,iv 0]] 4),(b3,.r false [op] 3),(b2,.r false [cN 1 co 0 kv py (gm tF bf) (.ofNat p) o am n0 n1 n2 n3 false] 27)]++t)) (qc)<|Wb<|WP.dA<|Wq<|Wj rfl rfl (eT _ _)<|Wn<|Ws<|Wd rfl (λ_=>Wi<|Ws<|Wb<|Wq<|Wv rfl<|Wv rfl<|Wn ?_) Dz
 refine Vr (k:=Dc .nil<|WS.invoke rfl (A2 ) rfl ( bB.aaE (aeh _ _<|zB _)) ?_)
 rintro w _ ⟨u3,rfl,rfl,hb3⟩
 have hpk:=hkv.src.part
 refine Vr (k:=WP.dA<|Wq<|Wj rfl rfl (eT _ _)<|Wn<|Ws<|Wd rfl (λ_=>Wi<|Ws<|Wb<|Wq<|Wv rfl<|Wv rfl<|Wn ?_) Dz)
 refine Vr (k:=WP.dA<|Wq<|Wj rfl rfl (eT _ _)<|Wn<|Ws<|Wd rfl (λ_=>Wi<|Ws<|Wb<|Wq<|Wv rfl<|Wv rfl<|Wn ?_) Dz)
 refine Vr (k:=WP.dA<|Wq<|Wj rfl rfl (eT _ _)<|Wn<|Ws<|Wd rfl (λ_=>Wi<|Ws<|Wb<|Wq<|Wv rfl<|Wv rfl<|Wn ?_) Dz)
 refine Vr (k:=WP.dA<|Vr (k:=?_))
 refine Wr (.build (by simp only[bparts,aI,opl,lk,hpk];rfl) rfl)<|Vr (k:=?_)
 refineλb9=>Ww<|Wt (s':=(b9,.r false [[iv 0,iv 1,iv<|Int.ofNat p,iv co,iv<|OD.gt o,iv 0,kv]] 7)::_) rfl rfl rfl .here rfl rfl<|Wn<|Wq<|Wf rfl<|Wf rfl<|Wr .ld<|Wh (b:=true) rfl rfl rfl<|Wv rfl<|Wn<|Ws<|Wb<|Wq<|Wv rfl<|Wv rfl<|Wn<|Wd rfl (λ_=>Wo<|Wf rfl<|Wr .ld<|Wf rfl<|Wf rfl<|Wr .ld<|Wr (.build (cs:=cr 2 co 5 0 0 Pu) rfl rfl) ?_) Dz
 refine WO.pre (s':=u3++([(b9,.r false [[iv 0,iv 1,iv<|.ofNat p,iv co,iv o.gt,iv 0,kv]] 7),(b6,.r false [[iv (x-1),iv 0,iv 0,iv 0]] 4),(b5,.r false [[iv x,iv 0,iv 0,iv 0]] 4),(b3,.r false [op] 3),(b2,.r false [cN 1 co 0 kv py (gm tF bf) (.ofNat p) o am n0 n1 n2 n3 false] 27)]++t)) (qc)<|Ww<|WS.invoke rfl (A2 ) rfl ( bB.aaE (aip _ _<|hb3 _)) ?_
 rintro w _ ⟨u4,rfl,rfl,hb4⟩
 refine Vk (k:=Ww<|Wt rfl rfl rfl uP rfl rfl<|Vk (k:=Ww<|Wt rfl rfl rfl (.app<|.left .here) rfl rfl<|Vk (k:=Wr (.build rfl rfl)<|Vr (k:=Ww<|WS.invoke rfl (A2 ) rfl ( bB.aaE (hcast _ _<|hb4 _)) ?_))))
 rintro w _ ⟨u5,rfl,rfl,hb5⟩
 refine Vr (k:=Ww<|WS.invoke rfl (A2 ) rfl ( ais _ _ (hb5 _)) ?_)
 rintro w s6 ⟨row,KL⟩
 refine Wn<|Ws<|Wq<|Wv rfl<|Wn<|Wd rfl (λ_=>Wo<|Wf rfl<|Wr .ld<|Wf rfl<|Wr .ld<|Wf rfl<|Wr .ld ?_) Dz
 refine Ww<|W1 (aiq _ row _ KL) ?_
 rintro w s7 hs7
 refine Vk (k:=We<|Wm (.tmp rfl .nil) ?_)
 exact⟨rfl,row,aH.fb hs7⟩
theorem aaM (hE:GE P K F T tF g C d)(hA:BaseAc P K F T)(hf:Has bf (.r false [bu bl aZ c0 c1 c2 c3 c4 ap] 8) t)(hs:aH bl EL d t s){n0 n1 n2 n3 a b:Int}{am:AV}{tp:Bool}{o:OD}{L:List OC}{bb:Bool}{d2:SD}{PE:List (List AV)->Prop}
  (p8:∀x s,aH bl EL d (x++t) s->bB P K (F 409) [gm tF bf] s (λv s'=>∃m,aH bl EL d (m++(x++t)) s'/\Src m 3 v (V1 L))) (hL:L.length<=9000) (hmem:(⟨5,a,b⟩:OC)∈L)
  (hof:∀kv,(∃s0,Src s0 2 kv<|yu d.ct)->OfK P K F tF bf bl EL d t d.ck d.co d.ca kv d.py (cN d.ck d.co d.ca kv d.py (gm tF bf) d.pr o am n0 n1 n2 n3 tp) true)
  (dP:∀kv y s,Kv (y++t) kv d.ct->aH bl EL d (y++t) s->bB P K (F 427) [.agg (cN d.ck d.co d.ca kv d.py (gm tF bf) d.pr o am n0 n1 n2 n3 tp),.agg (⟨5,a,b⟩:OC).row] s (λv s'=>v=.bool bb/\∃E2,PE E2/\aH bl E2 d2 (y++t) s')) :
  bB P K (F 410) [gm tF bf,.agg [iv 5,iv a,iv b]] s (λv s'=>v=.bool bb/\∃E2,PE E2/\aH bl E2 d2 t s'):=by
 refine hA.aeQ.cF ?_
 unfold ad1
 refine Vr (k:=Wa (.box (cs:=[iv 5,iv a,iv b]) rfl rfl) λb3=>Vk (k:=WP.bD<|Dp (.mv rfl) ?_))
 refine Dc .nil<|W1 (bB.abQ<|((p8 [_] _ hs.cons)).post λv s'⟨m,h1,h2⟩=>⟨m,h2,h1⟩) ?_
 rintro w _ ⟨m1,u1,hS,rfl,vn⟩
 refine WD.lk rfl .nil .ld<|Dc .nil<|W1 (vj hA (x:=⟨5,a,b⟩) (hS.mono λp hp=>by simp[hp]) hL) ?_
 rintro w _ ⟨rfl,m2,rfl⟩
 rw[decide_eq_true hmem]
 refine Vr (k:=D0 .nil ?_ ?_)
 rotate_left
 ·intro o' ho'
  rw[List.mem_singleton.1 ho']
  refine⟨(λi hi=>nomatch hi),Nat.zero_le _,?_,λk' _ hk'=>?_⟩
  ·show sameL (sameN 5) _ _=true
   simp only[sameL,iq,Bool.and_true]
  rcases(by have:k'<=1:=hk';omega:k'=0\/k'=1)with rfl|rfl
  ·exact⟨_,rfl,.load rfl .here rfl rfl rfl⟩
  ·exact⟨_,rfl,.load rfl zP rfl rfl rfl⟩
 refine Vr (k:=Ww<|WS.invoke (vs:=[]) rfl (hE.info ) rfl ( p9 hE (aH.bK<|aH.fb (x:=m1)<|vn _) zP) ?_)
 rintro w _ ⟨m3,u3,⟨kv,rfl,hg⟩,rfl,hb3⟩
 refine Wr (.fld rfl rfl)<|Ww<|W1 (bB.aaE<|hof kv ⟨_,hg.gr.out.src⟩ (m3++[_]) _ (hb3 _).assoc) ?_
 rintro w _ ⟨u4,rfl,rfl,hb4⟩
 refine Vr (k:=λb5=>Vr (k:=Wa .mkmap λb23=>Vr (k:=Ww<|WS.ins rfl rfl rfl .here rfl<|Vr (k:=Ww<|WS.ins rfl rfl rfl .here rfl<|Vr (k:=Ww<|WS.ins rfl rfl rfl .here rfl<|Vr (k:=Ww<|Wc (cap:=[]) rfl rfl (dP kv (m3++[_]) _ (hg.kv λp hp=>by simp[hp])<|aH.bK (m:=[_,_])<|hb4 _) ?_))))))
 rintro w s5 ⟨rfl,E2,hPE,tn⟩
 refine Vk (k:=We<|Wm (.tmp rfl .nil) ?_)
 exact⟨rfl,E2,hPE,aH.fb (x:=m3++[_]) tn⟩
theorem abC (hE:GE P K F T tF g C d)(hA:BaseAc P K F T)(hf:Has bf (.r false [bu bl aZ c0 c1 c2 c3 c4 ap] 8) t)(hs:aH bl EL d t s){n0 n1 n2 n3 a b:Int}{am:AV}{tp:Bool}{o:OD}{L:List OC}{bb:Bool}{d2:SD}{PE:List (List AV)->Prop}
  (p8:∀x s,aH bl EL d (x++t) s->bB P K (F 409) [gm tF bf] s (λv s'=>∃m,aH bl EL d (m++(x++t)) s'/\Src m 3 v (V1 L))) (hL:L.length<=9000) (hmem:(⟨8,a,b⟩:OC)∈L)
  (hof:∀kv,(∃s0,Src s0 2 kv<|yu d.ct)->OfK P K F tF bf bl EL d t d.ck d.co d.ca kv d.py (cN d.ck d.co d.ca kv d.py (gm tF bf) d.pr o am n0 n1 n2 n3 tp) true)
  (dP:∀kv y s,Kv (y++t) kv d.ct->aH bl EL d (y++t) s->bB P K (F 428) [.agg (cN d.ck d.co d.ca kv d.py (gm tF bf) d.pr o am n0 n1 n2 n3 tp),.agg (⟨8,a,b⟩:OC).row] s (λv s'=>v=.bool bb/\∃E2,PE E2/\aH bl E2 d2 (y++t) s')) :
  bB P K (F 410) [gm tF bf,.agg [iv 8,iv a,iv b]] s (λv s'=>v=.bool bb/\∃E2,PE E2/\aH bl E2 d2 t s'):=by
 refine hA.aeQ.cF ?_
 unfold ad1
 refine Vr (k:=Wa (.box (cs:=[iv 8,iv a,iv b]) rfl rfl) λb3=>Vk (k:=WP.bD<|Dp (.mv rfl) ?_))
 refine Dc .nil<|W1 (bB.abQ<|((p8 [_] _ hs.cons)).post λv s'⟨m,h1,h2⟩=>⟨m,h2,h1⟩) ?_
 rintro w _ ⟨m1,u1,hS,rfl,vn⟩
 refine WD.lk rfl .nil .ld<|Dc .nil<|W1 (vj hA (x:=⟨8,a,b⟩) (hS.mono λp hp=>by simp[hp]) hL) ?_
 rintro w _ ⟨rfl,m2,rfl⟩
 rw[decide_eq_true hmem]
 refine Vr (k:=D0 .nil ?_ ?_)
 rotate_left
 ·intro o' ho'
  rw[List.mem_singleton.1 ho']
  refine⟨(λi hi=>nomatch hi),Nat.zero_le _,?_,λk' _ hk'=>?_⟩
  ·show sameL (sameN 5) _ _=true
   simp only[sameL,iq,Bool.and_true]
  rcases(by have:k'<=1:=hk';omega:k'=0\/k'=1)with rfl|rfl
  ·exact⟨_,rfl,.load rfl .here rfl rfl rfl⟩
  ·exact⟨_,rfl,.load rfl zP rfl rfl rfl⟩
 refine Vr (k:=Ww<|WS.invoke (vs:=[]) rfl (hE.info ) rfl ( p9 hE (aH.bK<|aH.fb (x:=m1)<|vn _) zP) ?_)
 rintro w _ ⟨m3,u3,⟨kv,rfl,hg⟩,rfl,hb3⟩
 refine Wr (.fld rfl rfl)<|Ww<|W1 (bB.aaE<|hof kv ⟨_,hg.gr.out.src⟩ (m3++[_]) _ (hb3 _).assoc) ?_
 rintro w _ ⟨u4,rfl,rfl,hb4⟩
 refine Vr (k:=λb5=>Vr (k:=Wa .mkmap λb23=>Vr (k:=Ww<|WS.ins rfl rfl rfl .here rfl<|Vr (k:=Ww<|WS.ins rfl rfl rfl .here rfl<|Vr (k:=Ww<|WS.ins rfl rfl rfl .here rfl<|Vr (k:=Ww<|Wc (cap:=[]) rfl rfl (dP kv (m3++[_]) _ (hg.kv λp hp=>by simp[hp])<|aH.bK (m:=[_,_])<|hb4 _) ?_))))))
 rintro w s5 ⟨rfl,E2,hPE,tn⟩
 refine Vk (k:=We<|Wm (.tmp rfl .nil) ?_)
 exact⟨rfl,E2,hPE,aH.fb (x:=m3++[_]) tn⟩
theorem abB (hE:GE P K F T tF g C d)(hA:BaseAc P K F T)(hf:Has bf (.r false [bu bl aZ c0 c1 c2 c3 c4 ap] 8) t)(hs:aH bl EL d t s){n0 n1 n2 n3 a b:Int}{am:AV}{tp:Bool}{o:OD}{L:List OC}{bb:Bool}{d2:SD}{PE:List (List AV)->Prop}
  (p8:∀x s,aH bl EL d (x++t) s->bB P K (F 409) [gm tF bf] s (λv s'=>∃m,aH bl EL d (m++(x++t)) s'/\Src m 3 v (V1 L))) (hL:L.length<=9000) (hmem:(⟨7,a,b⟩:OC)∈L)
  (hof:∀kv,(∃s0,Src s0 2 kv<|yu d.ct)->OfK P K F tF bf bl EL d t d.ck d.co d.ca kv d.py (cN d.ck d.co d.ca kv d.py (gm tF bf) d.pr o am n0 n1 n2 n3 tp) true)
  (dP:∀kv y s,Kv (y++t) kv d.ct->aH bl EL d (y++t) s->bB P K (F 429) [.agg (cN d.ck d.co d.ca kv d.py (gm tF bf) d.pr o am n0 n1 n2 n3 tp),.agg (⟨7,a,b⟩:OC).row] s (λv s'=>v=.bool bb/\∃E2,PE E2/\aH bl E2 d2 (y++t) s')) :
  bB P K (F 410) [gm tF bf,.agg [iv 7,iv a,iv b]] s (λv s'=>v=.bool bb/\∃E2,PE E2/\aH bl E2 d2 t s'):=by
 refine hA.aeQ.cF ?_
 unfold ad1
 refine Vr (k:=Wa (.box (cs:=[iv 7,iv a,iv b]) rfl rfl) λb3=>Vk (k:=WP.bD<|Dp (.mv rfl) ?_))
 refine Dc .nil<|W1 (bB.abQ<|((p8 [_] _ hs.cons)).post λv s'⟨m,h1,h2⟩=>⟨m,h2,h1⟩) ?_
 rintro w _ ⟨m1,u1,hS,rfl,vn⟩
 refine WD.lk rfl .nil .ld<|Dc .nil<|W1 (vj hA (x:=⟨7,a,b⟩) (hS.mono λp hp=>by simp[hp]) hL) ?_
 rintro w _ ⟨rfl,m2,rfl⟩
 rw[decide_eq_true hmem]
 refine Vr (k:=D0 .nil ?_ ?_)
 rotate_left
 ·intro o' ho'
  rw[List.mem_singleton.1 ho']
  refine⟨(λi hi=>nomatch hi),Nat.zero_le _,?_,λk' _ hk'=>?_⟩
  ·show sameL (sameN 5) _ _=true
   simp only[sameL,iq,Bool.and_true]
  rcases(by have:k'<=1:=hk';omega:k'=0\/k'=1)with rfl|rfl
  ·exact⟨_,rfl,.load rfl .here rfl rfl rfl⟩
  ·exact⟨_,rfl,.load rfl zP rfl rfl rfl⟩
 refine Vr (k:=Ww<|WS.invoke (vs:=[]) rfl (hE.info ) rfl ( p9 hE (aH.bK<|aH.fb (x:=m1)<|vn _) zP) ?_)
 rintro w _ ⟨m3,u3,⟨kv,rfl,hg⟩,rfl,hb3⟩
 refine Wr (.fld rfl rfl)<|Ww<|W1 (bB.aaE<|hof kv ⟨_,hg.gr.out.src⟩ (m3++[_]) _ (hb3 _).assoc) ?_
 rintro w _ ⟨u4,rfl,rfl,hb4⟩
 refine Vr (k:=λb5=>Vr (k:=Wa .mkmap λb23=>Vr (k:=Ww<|WS.ins rfl rfl rfl .here rfl<|Vr (k:=Ww<|WS.ins rfl rfl rfl .here rfl<|Vr (k:=Ww<|WS.ins rfl rfl rfl .here rfl<|Vr (k:=Ww<|Wc (cap:=[]) rfl rfl (dP kv (m3++[_]) _ (hg.kv λp hp=>by simp[hp])<|aH.bK (m:=[_,_])<|hb4 _) ?_))))))
 rintro w s5 ⟨rfl,E2,hPE,tn⟩
 refine Vk (k:=We<|Wm (.tmp rfl .nil) ?_)
 exact⟨rfl,E2,hPE,aH.fb (x:=m3++[_]) tn⟩
theorem aaL (hE:GE P K F T tF g C d)(hA:BaseAc P K F T)(hf:Has bf (.r false [bu bl aZ c0 c1 c2 c3 c4 ap] 8) t)(hs:aH bl EL d t s){n0 n1 n2 n3 a b:Int}{am:AV}{tp:Bool}{o:OD}{L:List OC}{bb:Bool}{d2:SD}{PE:List (List AV)->Prop}
  (p8:∀x s,aH bl EL d (x++t) s->bB P K (F 409) [gm tF bf] s (λv s'=>∃m,aH bl EL d (m++(x++t)) s'/\Src m 3 v (V1 L))) (hL:L.length<=9000) (hmem:(⟨6,a,b⟩:OC)∈L)
  (hof:∀kv,(∃s0,Src s0 2 kv<|yu d.ct)->OfK P K F tF bf bl EL d t d.ck d.co d.ca kv d.py (cN d.ck d.co d.ca kv d.py (gm tF bf) d.pr o am n0 n1 n2 n3 tp) true) :
  bB P K (F 410) [gm tF bf,.agg [iv 6,iv a,iv b]] s (λv s'=>v=.bool false/\aH bl EL d t s'):=by
 refine hA.aeQ.cF ?_
 unfold ad1
 refine Vr (k:=Wa (.box (cs:=[iv 6,iv a,iv b]) rfl rfl) λb3=>Vk (k:=WP.bD<|Dp (.mv rfl) ?_))
 refine Dc .nil<|W1 (bB.abQ<|((p8 [_] _ hs.cons)).post λv s'⟨m,h1,h2⟩=>⟨m,h2,h1⟩) ?_
 rintro w _ ⟨m1,u1,hS,rfl,vn⟩
 refine WD.lk rfl .nil .ld<|Dc .nil<|W1 (vj hA (x:=⟨6,a,b⟩) (hS.mono λp hp=>by simp[hp]) hL) ?_
 rintro w _ ⟨rfl,m2,rfl⟩
 rw[decide_eq_true hmem]
 refine Vr (k:=D0 .nil ?_ ?_)
 rotate_left
 ·intro o' ho'
  rw[List.mem_singleton.1 ho']
  refine⟨(λi hi=>nomatch hi),Nat.zero_le _,?_,λk' _ hk'=>?_⟩
  ·show sameL (sameN 5) _ _=true
   simp only[sameL,iq,Bool.and_true]
  rcases(by have:k'<=1:=hk';omega:k'=0\/k'=1)with rfl|rfl
  ·exact⟨_,rfl,.load rfl .here rfl rfl rfl⟩
  ·exact⟨_,rfl,.load rfl zP rfl rfl rfl⟩
 refine Vr (k:=Ww<|WS.invoke (vs:=[]) rfl (hE.info ) rfl ( p9 hE (aH.bK<|aH.fb (x:=m1)<|vn _) zP) ?_)
 rintro w _ ⟨m3,u3,⟨kv,rfl,hg⟩,rfl,hb3⟩
 refine Wr (.fld rfl rfl)<|Ww<|W1 (bB.aaE<|hof kv ⟨_,hg.gr.out.src⟩ (m3++[_]) _ (hb3 _).assoc) ?_
 rintro w _ ⟨u4,rfl,rfl,hb4⟩
 refine Vr (k:=λb5=>Vr (k:=Wa .mkmap λb23=>Vr (k:=Ww<|WS.ins rfl rfl rfl .here rfl<|Vr (k:=Ww<|WS.ins rfl rfl rfl .here rfl<|Vr (k:=Ww<|WS.ins rfl rfl rfl .here rfl<|Vk (k:=Wr .ld<|Wr (.look rfl rfl .here rfl)<|Vk (k:=We<|Wm (.tmp rfl .nil) ?_)))))))
 exact⟨rfl,aH.bK (m:=[_,_])<|aH.fb (x:=m3++[_])<|hb4 _⟩
theorem ace (hS:BaseAs P K F T){v w:AV}{L:List Int}(hv:Src s 1 v (nR L))(hw:Src s 1 w (nR L))(hn:L.length<=5000):bB P K (F 454) [v,w] s (λu s'=>u=.bool true/\s'=s):=by
 refine hS.ajV.cF ?_
 unfold ahM
 have e:(nR L).length=L.length:=by simp[nR]
 have l0:lenOf v=some L.length:=by rw[hv.lenOf,e]
 have l1:lenOf w=some L.length:=by rw[hw.lenOf,e]
 have h10:eqBy 20 .pi (iv<|.ofNat L.length) (iv<|.ofNat L.length)=some true:=by rw[dh,decide_eq_true rfl]
 refine Vr (k:=?_)
 refine Wp (λk l ds s'=>ds=[]/\s'=s/\∃q,k=L.length-q/\q<=L.length/\∀i x,lk [(0,v),(1,w),(12,iv<|.ofNat L.length),(13,iv<|.ofNat q)] i=some x->lk l i=some x) ?_
  ⟨rfl,rfl,0,rfl,Nat.zero_le _,aa rfl qb⟩
 rintro k l ds s' ⟨rfl,rfl,q,rfl,hq,hl⟩
 refine Wg hl (λ_ _ h=>h) ?_
 by_cases hlq:q<L.length
 ·have h14:binV .lss (iv<|.ofNat q) (iv<|.ofNat L.length)=some (.bool true):=by rw[eT,decide_eq_true<|show Int.ofNat q<Int.ofNat L.length from(by omega:(q:Int)<(L.length:Int))]
  have hx:L[q]?=some L[q]:=List.getElem?_eq_getElem hlq
  generalize L[q]=x at hx
  obtain⟨ba,ra,na,ca,J5,Sp,Ma,rfl,hba,aaf,hra⟩:=hv.at (i:=q)<|by omega
  obtain⟨bb,rb,nb,cb,slb,rob,Mb,rfl,hbb,ack,hrb⟩:=hw.at (i:=q)<|by omega
  have adp:Ma[ra+q]?=some ([iv x]):=by rw[hra,nR,List.getElem?_map,hx];rfl
  have adq:Mb[rb+q]?=some ([iv x]):=by rw[hrb,nR,List.getElem?_map,hx];rfl
  have X1:binV .add (iv<|.ofNat q) (iv<|.ofNat 1)=some (iv<|.ofNat<|q+1):=bM<|by omega
  have h24:eqBy 20 .pi (iv x) (iv x)=some true:=by rw[dh,decide_eq_true rfl]
  refine Wq<|Wj rfl rfl h14<|Wn<|Ws<|Wd rfl (λ_=>Wi<|Ws<|Wb<|Wq<|Wv rfl<|Wv rfl<|Wn ?_) Dz
  refine Vr (k:=?_)
  exact⟨L.length-(q+1),by omega,rfl,rfl,q+1,rfl,hlq,aa rfl qb⟩
 ·have h14:binV .lss (iv<|.ofNat q) (iv<|.ofNat L.length)=some (.bool false):=by rw[eT,decide_eq_false<|show¬Int.ofNat q<Int.ofNat L.length from(by omega:¬(q:Int)<(L.length:Int))]
  refine Vk (k:=Wx<|Vk (k:=We<|Wm (.tmp rfl .nil) ?_))
  exact⟨rfl,rfl⟩
theorem acg (hS:BaseAs P K F T){v w:AV}{L:List TG}(hv:Src s 2 v (yu L))(hw:Src s 2 w (yu L))(hn:L.length<=5000):bB P K (F 466) [v,w] s (λu s'=>u=.bool true/\s'=s):=by
 refine hS.aj1.cF ?_
 unfold ahS
 have e:(yu L).length=L.length:=by simp[yu]
 have l0:lenOf v=some L.length:=by rw[hv.lenOf,e]
 have l1:lenOf w=some L.length:=by rw[hw.lenOf,e]
 have h10:eqBy 20 .pi (iv<|.ofNat L.length) (iv<|.ofNat L.length)=some true:=by rw[dh,decide_eq_true rfl]
 refine Vr (k:=?_)
 refine Wp (λk l ds s'=>ds=[]/\s'=s/\∃q,k=L.length-q/\q<=L.length/\∀i x,lk [(0,v),(1,w),(12,iv<|.ofNat L.length),(13,iv<|.ofNat q)] i=some x->lk l i=some x) ?_
  ⟨rfl,rfl,0,rfl,Nat.zero_le _,aa rfl qb⟩
 rintro k l ds s' ⟨rfl,rfl,q,rfl,hq,hl⟩
 refine Wg hl (λ_ _ h=>h) ?_
 by_cases hlq:q<L.length
 ·have h14:binV .lss (iv<|.ofNat q) (iv<|.ofNat L.length)=some (.bool true):=by rw[eT,decide_eq_true<|show Int.ofNat q<Int.ofNat L.length from(by omega:(q:Int)<(L.length:Int))]
  have hx:L[q]?=some L[q]:=List.getElem?_eq_getElem hlq
  generalize L[q]=x at hx
  obtain⟨ba,ra,na,ca,J5,Sp,Ma,rfl,hba,aaf,hra⟩:=hv.at (i:=q)<|by omega
  obtain⟨bb,rb,nb,cb,slb,rob,Mb,rfl,hbb,ack,hrb⟩:=hw.at (i:=q)<|by omega
  have adp:Ma[ra+q]?=some (x.row):=by rw[hra,yu,List.getElem?_map,hx];rfl
  have adq:Mb[rb+q]?=some (x.row):=by rw[hrb,yu,List.getElem?_map,hx];rfl
  have X1:binV .add (iv<|.ofNat q) (iv<|.ofNat 1)=some (iv<|.ofNat<|q+1):=bM<|by omega
  have h24:eqBy 20 (.agg [⟨0,⟨1,⟨false,.pi⟩⟩⟩,⟨1,⟨1,⟨false,.pi⟩⟩⟩]) (.agg x.row) (.agg x.row)=some true:=by rw[eqT,decide_eq_true rfl]
  refine Wq<|Wj rfl rfl h14<|Wn<|Ws<|Wd rfl (λ_=>Wi<|Ws<|Wb<|Wq<|Wv rfl<|Wv rfl<|Wn ?_) Dz
  refine Vr (k:=?_)
  exact⟨L.length-(q+1),by omega,rfl,rfl,q+1,rfl,hlq,aa rfl qb⟩
 ·have h14:binV .lss (iv<|.ofNat q) (iv<|.ofNat L.length)=some (.bool false):=by rw[eT,decide_eq_false<|show¬Int.ofNat q<Int.ofNat L.length from(by omega:¬(q:Int)<(L.length:Int))]
  refine Vk (k:=Wx<|Vk (k:=We<|Wm (.tmp rfl .nil) ?_))
  exact⟨rfl,rfl⟩
theorem ajx (x:LD):eqBy 20 (.agg [⟨0,⟨1,⟨false,.pi⟩⟩⟩,⟨1,⟨4,⟨true,(.agg [⟨0,⟨1,⟨false,.pi⟩⟩⟩,⟨1,⟨1,⟨false,.pi⟩⟩⟩,⟨2,⟨1,⟨false,.pi⟩⟩⟩,⟨3,⟨1,⟨false,.pi⟩⟩⟩])⟩⟩⟩,⟨5,⟨1,⟨false,.pb⟩⟩⟩,⟨6,⟨1,⟨false,.pb⟩⟩⟩,⟨7,⟨1,⟨false,.pb⟩⟩⟩]) (.agg x.row) (.agg x.row)=some true:=by
 have h:∀n:Int,ieq n n=true:=λn=>gd.2 rfl
 have hm:bV 4 (cu 1 x.row)=some [iv x.m0,iv x.m1,iv x.m2,iv x.m3]:=rfl
 cases h5:x.f1<;>cases h6:x.f2<;>cases h7:x.f3<;>simp[eqBy,primEq,aw,part,dJ,keq,h,hm,h5,h6,h7]
theorem acf (hS:BaseAs P K F T){v w:AV}{L:List LD}(hv:Src s 8 v (Am L))(hw:Src s 8 w (Am L))(hn:L.length<=5000):bB P K (F 455) [v,w] s (λu s'=>u=.bool true/\s'=s):=by
 refine hS.ajW.cF ?_
 unfold ahN
 have e:(Am L).length=L.length:=by simp[Am]
 have l0:lenOf v=some L.length:=by rw[hv.lenOf,e]
 have l1:lenOf w=some L.length:=by rw[hw.lenOf,e]
 have h10:eqBy 20 .pi (iv<|.ofNat L.length) (iv<|.ofNat L.length)=some true:=by rw[dh,decide_eq_true rfl]
 refine Vr (k:=?_)
 refine Wp (λk l ds s'=>ds=[]/\s'=s/\∃q,k=L.length-q/\q<=L.length/\∀i x,lk [(0,v),(1,w),(12,iv<|.ofNat L.length),(13,iv<|.ofNat q)] i=some x->lk l i=some x) ?_
  ⟨rfl,rfl,0,rfl,Nat.zero_le _,aa rfl qb⟩
 rintro k l ds s' ⟨rfl,rfl,q,rfl,hq,hl⟩
 refine Wg hl (λ_ _ h=>h) ?_
 by_cases hlq:q<L.length
 ·have h14:binV .lss (iv<|.ofNat q) (iv<|.ofNat L.length)=some (.bool true):=by rw[eT,decide_eq_true<|show Int.ofNat q<Int.ofNat L.length from(by omega:(q:Int)<(L.length:Int))]
  have hx:L[q]?=some L[q]:=List.getElem?_eq_getElem hlq
  generalize L[q]=x at hx
  obtain⟨ba,ra,na,ca,J5,Sp,Ma,rfl,hba,aaf,hra⟩:=hv.at (i:=q)<|by omega
  obtain⟨bb,rb,nb,cb,slb,rob,Mb,rfl,hbb,ack,hrb⟩:=hw.at (i:=q)<|by omega
  have adp:Ma[ra+q]?=some (x.row):=by rw[hra,Am,List.getElem?_map,hx];rfl
  have adq:Mb[rb+q]?=some (x.row):=by rw[hrb,Am,List.getElem?_map,hx];rfl
  have X1:binV .add (iv<|.ofNat q) (iv<|.ofNat 1)=some (iv<|.ofNat<|q+1):=bM<|by omega
  have h24:eqBy 20 (.agg [⟨0,⟨1,⟨false,.pi⟩⟩⟩,⟨1,⟨4,⟨true,(.agg [⟨0,⟨1,⟨false,.pi⟩⟩⟩,⟨1,⟨1,⟨false,.pi⟩⟩⟩,⟨2,⟨1,⟨false,.pi⟩⟩⟩,⟨3,⟨1,⟨false,.pi⟩⟩⟩])⟩⟩⟩,⟨5,⟨1,⟨false,.pb⟩⟩⟩,⟨6,⟨1,⟨false,.pb⟩⟩⟩,⟨7,⟨1,⟨false,.pb⟩⟩⟩]) (.agg x.row) (.agg x.row)=some true:=ajx x
  refine Wq<|Wj rfl rfl h14<|Wn<|Ws<|Wd rfl (λ_=>Wi<|Ws<|Wb<|Wq<|Wv rfl<|Wv rfl<|Wn ?_) Dz
  refine Vr (k:=?_)
  exact⟨L.length-(q+1),by omega,rfl,rfl,q+1,rfl,hlq,aa rfl qb⟩
 ·have h14:binV .lss (iv<|.ofNat q) (iv<|.ofNat L.length)=some (.bool false):=by rw[eT,decide_eq_false<|show¬Int.ofNat q<Int.ofNat L.length from(by omega:¬(q:Int)<(L.length:Int))]
  refine Vk (k:=Wx<|Vk (k:=We<|Wm (.tmp rfl .nil) ?_))
  exact⟨rfl,rfl⟩
theorem abw (hS:BaseAs P K F T){v w:AV}{L:List Int}(hv:Src s 1 v (nR L))(hw:Src s 1 w (nR L))(hn:L.length<=5000):bB P K (F 433) [v,w] s (λu s'=>u=.bool true/\s'=s):=by
 refine hS.ajK.cF ?_
 unfold ahB
 refine Vr (k:=Ww<|W1 (ace hS hv hw hn) ?_)
 rintro _ _ ⟨rfl,rfl⟩
 refine Vk (k:=We<|Wm (.tmp rfl .nil) ?_)
 exact⟨rfl,rfl⟩
theorem ade (hS:BaseAs P K F T){v w:AV}{L:List TG}(hv:Src s 2 v (yu L))(hw:Src s 2 w (yu L))(hn:L.length<=5000):bB P K (F 457) [v,w] s (λu s'=>u=.bool true/\s'=s):=by
 refine hS.ajY.cF ?_
 unfold ahP
 refine Vr (k:=Ww<|W1 (acg hS hv hw hn) ?_)
 rintro _ _ ⟨rfl,rfl⟩
 refine Vk (k:=We<|Wm (.tmp rfl .nil) ?_)
 exact⟨rfl,rfl⟩
theorem adc (hS:BaseAs P K F T){v w:AV}{L:List LD}(hv:Src s 8 v (Am L))(hw:Src s 8 w (Am L))(hn:L.length<=5000):bB P K (F 435) [v,w] s (λu s'=>u=.bool true/\s'=s):=by
 refine hS.ajM.cF ?_
 unfold ahD
 refine Vr (k:=Ww<|W1 (acf hS hv hw hn) ?_)
 rintro _ _ ⟨rfl,rfl⟩
 refine Vk (k:=We<|Wm (.tmp rfl .nil) ?_)
 exact⟨rfl,rfl⟩
theorem adH (hS:BaseAs P K F T){v w:AV}{LL:List (List Int)}(hv:SL s v (lA LL))(hw:SL s w (lA LL))(hn:LL.length<=5000)(hn2:∀bX∈LL,bX.length<=5000):bB P K (F 432) [v,w,.func (F 433) [] []] s (λu s'=>u=.bool true/\s'=s):=by
 refine hS.ajJ.cF ?_
 unfold ahA
 obtain⟨L1,hv,hi1⟩:=hv
 obtain⟨L2,hw,hi2⟩:=hw
 have e1:L1.length=LL.length:=by rw[hi1.one.1];simp[lA]
 have e2:L2.length=LL.length:=by rw[hi2.one.1];simp[lA]
 have l0:lenOf v=some LL.length:=by rw[hv.lenOf,e1]
 have l1:lenOf w=some LL.length:=by rw[hw.lenOf,e2]
 have h14:eqBy 20 .pi (iv<|.ofNat LL.length) (iv<|.ofNat LL.length)=some true:=by rw[dh,decide_eq_true rfl]
 refine Vr (k:=?_)
 refine Wp (λk l ds s'=>ds=[]/\s'=s/\∃q,k=LL.length-q/\q<=LL.length/\∀i x,lk [(1,w),(2,.func (F 433) [] []),(15,v),(16,iv<|.ofNat LL.length),(17,iv<|.ofNat q)] i=some x->lk l i=some x) ?_ (n:=LL.length-0)
  ⟨rfl,rfl,0,rfl,Nat.zero_le _,aa rfl qb⟩
 rintro k l ds s' ⟨rfl,rfl,q,rfl,hq,hl⟩
 refine Wg hl (λ_ _ h=>h) ?_
 by_cases hlq:q<LL.length
 ·have h18:binV .lss (iv<|.ofNat q) (iv<|.ofNat LL.length)=some (.bool true):=by rw[eT,decide_eq_true<|show Int.ofNat q<Int.ofNat LL.length from(by omega:(q:Int)<(LL.length:Int))]
  have hx:LL[q]?=some LL[q]:=List.getElem?_eq_getElem hlq
  have KP:LL[q]∈LL:=List.getElem_mem _
  generalize LL[q]=x at hx KP
  obtain⟨ba,ra,na,ca,J5,Sp,Ma,rfl,hba,aaf,hra⟩:=hv.at (i:=q)<|by omega
  obtain⟨bb,rb,nb,cb,slb,rob,Mb,rfl,hbb,ack,hrb⟩:=hw.at (i:=q)<|by omega
  obtain⟨x1,apa,er1,ex1,nr⟩:=hi1.get q _<|List.getElem?_eq_getElem<|by omega
  obtain⟨x2,apb,er2,ex2,dt⟩:=hi2.get q _<|List.getElem?_eq_getElem<|by omega
  have el:(lA LL)[q]?=some (nR x):=by rw[lA,List.getElem?_map,hx];rfl
  rw[el]at ex1 ex2
  cases ex1
  cases ex2
  have adp:Ma[ra+q]?=some [x1]:=by rw[hra,List.getElem?_eq_getElem<|by omega,er1]
  have adq:Mb[rb+q]?=some [x2]:=by rw[hrb,List.getElem?_eq_getElem<|by omega,er2]
  have X1:binV .add (iv<|.ofNat q) (iv<|.ofNat 1)=some (iv<|.ofNat<|q+1):=bM<|by omega
  refine Vr (k:=Ww<|W1 (abw hS nr dt<|hn2 x KP) ?_)
  rintro _ _ ⟨rfl,rfl⟩
  refine Vr (k:=?_)
  exact⟨LL.length-(q+1),by omega,rfl,rfl,q+1,rfl,hlq,aa rfl qb⟩
 ·have h18:binV .lss (iv<|.ofNat q) (iv<|.ofNat LL.length)=some (.bool false):=by rw[eT,decide_eq_false<|show¬Int.ofNat q<Int.ofNat LL.length from(by omega:¬(q:Int)<(LL.length:Int))]
  refine Vk (k:=Wx<|Vk (k:=We<|Wm (.tmp rfl .nil) ?_))
  exact⟨rfl,rfl⟩
theorem C5 (hS:BaseAs P K F T){v w:AV}{LL:List (List Int)}(hv:SL s v (lA LL))(hw:SL s w (lA LL))(hn:LL.length<=5000)(hn2:∀bX∈LL,bX.length<=5000):bB P K (F 431) [v,w] s (λu s'=>u=.bool true/\s'=s):=by
 refine hS.ajI.cF ?_
 unfold ahz
 refine Vr (k:=Ww<|W1 (adH hS hv hw hn hn2) ?_)
 rintro _ _ ⟨rfl,rfl⟩
 refine Vk (k:=We<|Wm (.tmp rfl .nil) ?_)
 exact⟨rfl,rfl⟩
theorem eqI (n:Int):eqBy 20 .pi (iv n) (iv n)=some true:=by rw[dh,decide_eq_true rfl]
theorem aec (b:Bool):eqBy 20 .pb (.bool b) (.bool b)=some true:=by cases b<;>rfl
theorem acr (hS:BaseAs P K F T):bB P K (F 456) [nilS,nilS] s (λu s'=>u=.bool true/\s'=s):=by
 have h:bB P K (F 465) [nilS,nilS] s (λu s'=>u=.bool true/\s'=s):=by
  refine hS.aj0.cF ?_
  unfold ahR
  have l0:lenOf nilS=some 0:=rfl
  refine Vr (k:=WP.dA<|Vk (k:=Wx<|Vk (k:=We<|Wm (.tmp rfl .nil) ?_)))
  exact⟨rfl,rfl⟩
 refine hS.ajX.cF ?_
 unfold ahO
 refine Vr (k:=Ww<|W1 (h) ?_)
 rintro _ _ ⟨rfl,rfl⟩
 refine Vk (k:=We<|Wm (.tmp rfl .nil) ?_)
 exact⟨rfl,rfl⟩
set_option maxRecDepth 20000 in
theorem adP (hS:BaseAs P K F T){o:OD}:bB P K (F 437) [.agg o.row,.agg o.row] s (λu s'=>u=.bool true/\∃m,s'=m++s):=by
 refine hS.ajO.cF ?_
 unfold ahF
 have e1:=eqI o.id
 have e2:=eqI o.gt
 have e3:=eqI o.owner
 have e4:=eqI o.aQ
 have e5:=eqI o.ci
 have e6:=aec o.RU
 have e7:=aec o.VK
 have e8:=aec o.token
 have e9:=eqI o.Y6
 have e10:=eqI o.stamp
 have e11:=eqI o.NP
 have e12:=eqI o.block
 have e13:=aec o.J9
 refine Vr (k:=Wa (.box rfl rfl) λb2=>Wa (.box rfl rfl) λb3=>Vr (k:=Ww<|W1 (acr hS) ?_))
 rintro _ _ ⟨rfl,rfl⟩
 refine Vk (k:=We<|Wm (.tmp rfl .nil) ?_)
 exact⟨rfl,[_,_],rfl⟩
theorem ac5 (hS:BaseAs P K F T){v w:AV}{L:List OD}(hv:Src s 14 v (fy L))(hw:Src s 14 w (fy L))(hn:L.length<=5000):bB P K (F 436) [v,w,.func (F 437) [] []] s (λu s'=>u=.bool true/\∃m,s'=m++s):=by
 refine hS.ajN.cF ?_
 unfold ahE
 have e:(fy L).length=L.length:=by simp[fy]
 have l0:lenOf v=some L.length:=by rw[hv.lenOf,e]
 have l1:lenOf w=some L.length:=by rw[hw.lenOf,e]
 have h14:=eqI<|.ofNat L.length
 refine Vr (k:=?_)
 refine Wp (λk l ds s'=>ds=[]/\∃q m,s'=m++s/\k=L.length-q/\q<=L.length/\∀i x,lk [(1,w),(2,.func (F 437) [] []),(15,v),(16,iv<|.ofNat L.length),(17,iv<|.ofNat q)] i=some x->lk l i=some x) ?_
  ⟨rfl,0,[],rfl,rfl,Nat.zero_le _,aa rfl qb⟩
 rintro k l ds s' ⟨rfl,q,mm,rfl,rfl,hq,hl⟩
 refine Wg hl (λ_ _ h=>h) ?_
 by_cases hlq:q<L.length
 ·have h18:binV .lss (iv<|.ofNat q) (iv<|.ofNat L.length)=some (.bool true):=by rw[eT,decide_eq_true<|show Int.ofNat q<Int.ofNat L.length from(by omega:(q:Int)<(L.length:Int))]
  have hx:L[q]?=some L[q]:=List.getElem?_eq_getElem hlq
  generalize L[q]=x at hx
  obtain⟨ba,ra,na,ca,J5,Sp,Ma,rfl,hba,aaf,hra⟩:=hv.at (i:=q)<|by omega
  obtain⟨bb,rb,nb,cb,slb,rob,Mb,rfl,hbb,ack,hrb⟩:=hw.at (i:=q)<|by omega
  have adp:Ma[ra+q]?=some x.row:=by rw[hra,fy,List.getElem?_map,hx];rfl
  have adq:Mb[rb+q]?=some x.row:=by rw[hrb,fy,List.getElem?_map,hx];rfl
  have X1:binV .add (iv<|.ofNat q) (iv<|.ofNat 1)=some (iv<|.ofNat<|q+1):=bM<|by omega
  refine Vr (k:=λb8=>Vr (k:=λb9=>Vr (k:=Ww<|W1 (adP hS) ?_)))
  rintro _ _ ⟨rfl,m9,rfl⟩
  have fin:∀y1 y2:Nat × HO,∃m,m9++(y1::y2::(mm++s))=m++s:=λy1 y2=>⟨m9++(y1::y2::mm),by simp⟩
  refine Vr (k:=?_)
  obtain⟨m,hm⟩:=fin _ _
  exact⟨L.length-(q+1),by omega,rfl,q+1,m,hm,rfl,hlq,aa rfl qb⟩
 ·have h18:binV .lss (iv<|.ofNat q) (iv<|.ofNat L.length)=some (.bool false):=by rw[eT,decide_eq_false<|show¬Int.ofNat q<Int.ofNat L.length from(by omega:¬(q:Int)<(L.length:Int))]
  refine Vk (k:=Wx<|Vk (k:=We<|Wm (.tmp rfl .nil) ?_))
  exact⟨rfl,mm,rfl⟩
theorem aaG (hS:BaseAs P K F T){v w f:AV}(hv:SIt s v [])(hw:SIt s w []):bB P K (F 438) [v,w,f] s (λu s'=>u=.bool true/\s'=s):=by
 refine hS.ajP.cF ?_
 unfold ahG
 obtain⟨L1,hv,h1⟩:=hv
 obtain⟨L2,hw,h2⟩:=hw
 have l0:lenOf v=some 0:=by rw[hv.lenOf,h1.len];rfl
 have l1:lenOf w=some 0:=by rw[hw.lenOf,h2.len];rfl
 have h14:=eqI<|.ofNat 0
 refine Vr (k:=WP.dA<|Vk (k:=Wx<|Vk (k:=We<|Wm (.tmp rfl .nil) ?_)))
 exact⟨rfl,rfl⟩
theorem acK (hS:BaseAs P K F T){ck co ca:Int}{py:Bool}{v w:AV}{L:List TG}(hv:Src s 2 v (yu L))(hw:Src s 2 w (yu L))(hn:L.length<=5000):bB P K (F 440) [.agg [iv ck,iv co,iv ca,v,.bool py],.agg [iv ck,iv co,iv ca,w,.bool py]] s (λu s'=>u=.bool true/\∃m,s'=m++s):=by
 refine hS.ajQ.cF ?_
 unfold ahH
 have e1:=eqI ck
 have e2:=eqI co
 have e3:=eqI ca
 have e4:=aec py
 refine Vr (k:=Wa (.box rfl rfl) λb2=>Wa (.box rfl rfl) λb3=>Vr (k:=Ww<|W1 (ade hS (hv.mono λp hp=>by simp[hp]) (hw.mono λp hp=>by simp[hp]) hn) ?_))
 rintro _ _ ⟨rfl,rfl⟩
 refine Vk (k:=We<|Wm (.tmp rfl .nil) ?_)
 exact⟨rfl,[_,_],rfl⟩
@[reducible] def ab0 (d:SD):List AV:=[iv d.tu,iv d.ac,iv d.ph,iv d.pr,iv d.pa,iv d.bl,iv d.nx,iv d.sp,iv d.us,iv d.oc,iv d.wi]
theorem abv (hS:BaseAs P K F T)(ht:Ty P (T 431) 11){pv ov lv hv gv ev fv sv wv kv:AV}{d:SD}:bB P K (F 434) [.agg (d.cells pv ov lv hv gv ev fv sv wv kv)] s (λu s'=>u=.agg (ab0 d)/\∃m,s'=m++s):=by
 refine hS.ajL.cF ?_
 unfold ahC
 refine Vr (k:=λb1=>Vr (k:=λb2=>Vr (k:=We<|Wm (.ce ht) ?_)))
 exact⟨rfl,[_,_],rfl⟩
theorem af8 (d:SD):eqBy 20 (.agg [⟨0,⟨1,⟨false,.pi⟩⟩⟩,⟨1,⟨1,⟨false,.pi⟩⟩⟩,⟨2,⟨1,⟨false,.pi⟩⟩⟩,⟨3,⟨1,⟨false,.pi⟩⟩⟩,⟨4,⟨1,⟨false,.pi⟩⟩⟩,⟨5,⟨1,⟨false,.pi⟩⟩⟩,⟨6,⟨1,⟨false,.pi⟩⟩⟩,⟨7,⟨1,⟨false,.pi⟩⟩⟩,⟨8,⟨1,⟨false,.pi⟩⟩⟩,⟨9,⟨1,⟨false,.pi⟩⟩⟩,⟨10,⟨1,⟨false,.pi⟩⟩⟩]) (.agg (ab0 d)) (.agg (ab0 d))=some true:=by
 have h:∀n:Int,ieq n n=true:=λn=>gd.2 rfl
 simp[eqBy,primEq,aw,part,dJ,keq,h]
theorem adb (hS:BaseAs P K F T)(ht:Ty P (T 431) 11){pv ov lv KN gv ev fv sv wv kv Gz Gy nw Gw Gl Gj Gk GA GB kv2:AV}{d:SD}(hv:mD s pv ov lv KN gv ev fv sv wv kv d)(hw:mD s Gz Gy nw Gw Gl Gj Gk GA GB kv2 d)(hd:d.Small)(hst:d.st=[])(KO:d.wa=[]) :
  bB P K (F 411) [.agg (d.cells pv ov lv KN gv ev fv sv wv kv),.agg<|d.cells Gz Gy nw Gw Gl Gj Gk GA GB kv2] s (λu s'=>u=.bool true/\∃m,s'=m++s):=by
 refine hS.ajy.cF ?_
 unfold ahp
 have akI:SIt s sv []:=by rw[<- hst];exact hv.st
 have akK:SIt s GA []:=by rw[<- hst];exact hw.st
 have akJ:SIt s wv []:=by rw[<- KO];exact hv.wa
 have akL:SIt s GB []:=by rw[<- KO];exact hw.wa
 refine Vr (k:=Wa (.box rfl rfl) λb2=>Wa (.box rfl rfl) λb3=>Vk (k:=WP.bD<|Dl rfl .nil .ld<|Dc .nil<|W1 (abv hS ht) ?_))
 rintro _ _ ⟨rfl,m1,rfl⟩
 refine WD.lk rfl .nil .ld<|Dc .nil<|W1 (abv hS ht) ?_
 rintro _ _ ⟨rfl,m2,rfl⟩
 have e10:=af8 d
 refine Vr (k:=Dc .nil<|W1 (adc hS (hv.pl.mono λp hp=>by simp[hp]) (hw.pl.mono λp hp=>by simp[hp])<|Nat.le_trans hd.n1.1<|by decide) ?_)
 rintro _ _ ⟨rfl,rfl⟩
 refine Vr (k:=Dc .nil<|W1 (ac5 hS (hv.ob.mono λp hp=>by simp[hp]) (hw.ob.mono λp hp=>by simp[hp])<|Nat.le_trans hd.n1.2.1<|by decide) ?_)
 rintro _ _ ⟨rfl,m3,rfl⟩
 refine Vr (k:=Dc .nil<|W1 (C5 hS (hv.lb.mono λp hp=>by simp[hp]) (hw.lb.mono λp hp=>by simp[hp]) (Nat.le_trans (hd.n2 d.lb<|by simp).1 (by decide))<|λx hx=>Nat.le_trans ((hd.n2 d.lb<|by simp).2 x hx)<|by decide) ?_)
 rintro _ _ ⟨rfl,rfl⟩
 refine Vr (k:=Dc .nil<|W1 (C5 hS (hv.hd.mono λp hp=>by simp[hp]) (hw.hd.mono λp hp=>by simp[hp]) (Nat.le_trans (hd.n2 d.hd<|by simp).1 (by decide))<|λx hx=>Nat.le_trans ((hd.n2 d.hd<|by simp).2 x hx)<|by decide) ?_)
 rintro _ _ ⟨rfl,rfl⟩
 refine Vr (k:=Dc .nil<|W1 (C5 hS (hv.gr.mono λp hp=>by simp[hp]) (hw.gr.mono λp hp=>by simp[hp]) (Nat.le_trans (hd.n2 d.gr<|by simp).1 (by decide))<|λx hx=>Nat.le_trans ((hd.n2 d.gr<|by simp).2 x hx)<|by decide) ?_)
 rintro _ _ ⟨rfl,rfl⟩
 refine Vr (k:=Dc .nil<|W1 (C5 hS (hv.ex.mono λp hp=>by simp[hp]) (hw.ex.mono λp hp=>by simp[hp]) (Nat.le_trans (hd.n2 d.ex<|by simp).1 (by decide))<|λx hx=>Nat.le_trans ((hd.n2 d.ex<|by simp).2 x hx)<|by decide) ?_)
 rintro _ _ ⟨rfl,rfl⟩
 refine Vr (k:=Dc .nil<|W1 (abw hS (hv.fi.mono λp hp=>by simp[hp]) (hw.fi.mono λp hp=>by simp[hp])<|Nat.le_trans hd.n1.2.2.1<|by decide) ?_)
 rintro _ _ ⟨rfl,rfl⟩
 refine Vr (k:=Dc .nil<|W1 (aaG hS (akI.mono λp hp=>by simp[hp])<|akK.mono λp hp=>by simp[hp]) ?_)
 rintro _ _ ⟨rfl,rfl⟩
 refine Vr (k:=Dc .nil<|W1 (aaG hS (akJ.mono λp hp=>by simp[hp])<|akL.mono λp hp=>by simp[hp]) ?_)
 rintro _ _ ⟨rfl,rfl⟩
 refine Vr (k:=Dc .nil<|W1 (acK hS (hv.ct.src.mono λp hp=>by simp[hp]) (hw.ct.src.mono λp hp=>by simp[hp])<|Nat.le_trans hd.n3.1<|by decide) ?_)
 rintro _ _ ⟨rfl,m4,rfl⟩
 refine Vr (k:=D0 .nil ?_ ?_)
 rotate_left
 ·intro o' ho'
  rw[List.mem_singleton.1 ho']
  refine⟨(λi hi=>nomatch hi),Nat.zero_le _,hw.same,λk' _ hk'=>?_⟩
  rcases(by have:k'<=1:=hk';omega:k'=0\/k'=1)with rfl|rfl
  ·exact⟨_,rfl,.load rfl .here rfl rfl rfl⟩
  ·exact⟨_,rfl,.load rfl zP rfl rfl rfl⟩
 have fin:∀q1 q2:Nat × HO,∃m,m4++(m3++(m2++(m1++(q1::q2::s))))=m++s:=λq1 q2=>⟨m4++(m3++(m2++(m1++[q1,q2]))),by simp⟩
 refine We<|Wm (.tmp rfl .nil) ?_
 exact⟨rfl,fin _ _⟩
inductive Sim:bv->bv->Prop
 | rfl {o:bv}:Sim o o
 | rows {t t':Tr (List AV)} {n sz:Nat} {ro:Bool} (h:∀i,i<n->t.get i=t'.get i):Sim (.rows t n sz ro) (.rows t' n sz ro)
theorem Sim.symm {o o':bv}(h:Sim o o'):Sim o' o:=by
 cases h with
 | rfl=>exact .rfl
 | rows h=>exact .rows λi hi=>(h i hi).symm
theorem Sim.br {o o':bv}(h:Sim o o'){g:G}{ob:Option Obj}{d:Gd}(hb:BR g ob o d):BR g ob o' d:=by
 cases h with
 | rfl=>exact hb
 | rows h=>
  obtain⟨h1,c,el,fz,h2,hz,h3,h4⟩:=hb
  exact⟨h1,c,el,fz,h2,hz,h3,λi row hi ht=>h4 i row hi (by rw[h i hi];exact ht)⟩
structure afV (H I:Heap):Prop where
 get:∀b o,I.get b=some o->∃o',H.get b=some o'/\Sim o' o
 next:H.next=I.next
theorem HR.sim {X:Pt}{w0:World}{g:G}{H I:Heap}{w:World}(h:HR X w0 g H w)(e:afV H I):HR X w0 g I w:=by
 refine⟨λb o hb=>?_,λb b' o o' d d' hb hb'=>?_,λb hb=>h.fresh b (by rw[e.next];exact hb),λb o d hb hw=>?_,h.keep,h.size,h.os,λb hb=>by rw[<- e.next];exact h.hole b hb,h.down,λb o d hb hw=>?_⟩
 ·obtain⟨o1,h1,h2⟩:=e.get b o hb
  obtain⟨d,h3,h4⟩:=h.obj b o1 h1
  exact⟨d,h3,h2.br h4⟩
 ·obtain⟨o1,h1,_⟩:=e.get b o hb
  obtain⟨o2,h2,_⟩:=e.get b' o' hb'
  exact h.inj b b' o1 o2 d d' h1 h2
 ·obtain⟨o1,h1,h2⟩:=e.get b o hb
  exact h.eV b o1 d h1 (by cases h2<;>exact hw)
 ·obtain⟨o1,h1,h2⟩:=e.get b o hb
  exact h.ot b o1 d h1 (by cases h2<;>exact hw)
theorem KCon.sim {P:Program}{f:FuncId}{args:List AV}{v:AV}{H H' I I':Heap}(h:KCon P f args H v H')(e:afV I H)(e':afV H' I'):KCon P f args I v I':=by
 refine⟨λhH hv=>?_⟩
 obtain⟨h1,h2⟩:=h.call (hH.sim e) hv
 refine⟨h1,CallsIn.mono h2 ?_⟩
 rintro r w' ⟨x,rfl,g',hg,hx,hh⟩
 exact⟨x,rfl,g',hg,hx,hh.sim e'⟩
def at1 (b n:Nat):Nat->Nat:=λc=>if c=0 then b else n+(c-1)
theorem KCon.at1 {P:Program}{f:FuncId}{args:List AV}{v:AV}{H1 Hb:Heap}{t1 t:Tr (List AV)}{sz b:Nat}{row:List AV}(h:KCon P f args H1 v H1)(h1:H1.next=1)(hg:H1.get 0=some (.rows t1 1 sz false))(ht1:t1.get 0=some row)(hn:∀c,1<=c->H1.get c=none)(hrow:∀ρ,row.map (AV.ren ρ)=row)
  (hb:Hb.get b=some (.rows t 1 sz false)) (ht:t.get 0=some row) (hlt:b<Hb.next) (hv:∀ρ,v.ren ρ=v):KCon P f (AV.rens (Ev.at1 b Hb.next) args) Hb v Hb:=by
 refine⟨λ{X w0 g w xs} hH hx=>?_⟩
 have top:∀c,Hb.next<=c->Hb.get c=none:=λc hc=>hH.lC hc
 have e0:(bv.rows t1 1 sz false).ren (Ev.at1 b Hb.next)=.rows (t1.mp<|List.map<|AV.ren<|Ev.at1 b Hb.next) 1 sz false:=rfl
 have hget:∀i,i<1->t.get i=(t1.mp<|List.map<|AV.ren<|Ev.at1 b Hb.next).get i:=λi hi=>by
  have:i=0:=by omega
  subst this
  rw[Tr.qW,ht1,ht]
  show _=some (row.map _)
  rw[hrow]
 have gp:∀c,(Hb.put b<|(bv.rows t1 1 sz false).ren (Ev.at1 b Hb.next)).get c=if b=c then some ((bv.rows t1 1 sz false).ren (Ev.at1 b Hb.next))else Hb.get c:=λc=>by rw[Heap.aR]
 have hf:=h.frame (ρ:=Ev.at1 b Hb.next) (Hb:=Hb.put b<|(bv.rows t1 1 sz false).ren (Ev.at1 b Hb.next)) (Gh:=Hb.put b<|(bv.rows t1 1 sz false).ren (Ev.at1 b Hb.next))
  ⟨λc hc=>by
   have:c=0:=by omega
   subst this
   refine⟨_,hg,?_⟩
   rw[gp]
   exact if_pos rfl,
  λc hc=>by
   have:c=0:=by omega
   subst this
   exact hlt,
  λc hc=>by
   show(if c=0 then b else _)=_
   rw[if_neg (by omega),h1]
   rfl,
  λc c' e=>by
   unfold Ev.at1 at e
   split at e<;>split at e<;>omega⟩
  (λc hc=>hn c<|by omega)
  ⟨λc=>by
   by_cases hc:c=0
   ·subst hc
    rw[hg]
    show(Hb.put b _).get b=_
    rw[gp]
    exact if_pos rfl
   ·rw[hn c (by omega)]
    show(Hb.put b _).get (if c=0 then b else _)=_
    rw[if_neg hc,gp,if_neg<|by omega]
    exact top _<|by omega,
  λ_ _=>rfl,by omega,Nat.le_refl _⟩
 rw[hv]at hf
 have hs:KCon P f (AV.rens (Ev.at1 b Hb.next) args) Hb v Hb:=by
  refine hf.sim ⟨λc o hc=>?_,rfl⟩ ⟨λc o hc=>?_,rfl⟩
  ·rw[gp]at hc
   by_cases hbc:b=c
   ·subst hbc
    rw[if_pos rfl]at hc
    cases hc
    exact⟨_,hb,.rows hget⟩
   ·rw[if_neg hbc]at hc
    exact⟨o,hc,.rfl⟩
  ·by_cases hbc:b=c
   ·subst hbc
    rw[hb]at hc
    cases hc
    exact⟨_,(by rw[gp,if_pos rfl];rfl),Sim.symm<|.rows hget⟩
   ·exact⟨o,by rw[gp,if_neg hbc];exact hc,.rfl⟩
 exact hs.call hH hx
noncomputable def fhE:FH:=⟨fV (fV (fV l9)),1,Kz⟩
theorem agc [Sg]:cj fhE ⟨.lf,1⟩:=by
 refine⟨rfl,by show 1<=262144;omega,λb hb=>?_⟩
 have:hget b fhE=l9:=by
  rw[ia]
  show cX b (cX (b/64)<|cX (b/4096)<|fV<|fV<|fV l9)=l9
  rw[dU,dU,dU]
 rw[this]
 exact gy.gone _ rfl rfl
noncomputable def fh1 (R1:R (R V))(sz:Nat):FH:=Ev.hput 0 ⟨pU,R1,[],1,1,sz⟩ fhE
noncomputable def hp1 (row:List AV)(sz:Nat):Heap:=(⟨.lf,1⟩:Heap).put 0 (.rows (Tr.lf.put 0 row) 1 sz false)
theorem acl (row:List AV)(sz:Nat):(hp1 row sz).get 0=some (.rows (Tr.lf.put 0 row) 1 sz false):=by unfold hp1;rw[Heap.aR,if_pos rfl]
theorem ado (row:List AV)(sz:Nat){c:Nat}(hc:1<=c):(hp1 row sz).get c=none:=by
 unfold hp1
 rw[Heap.aR,if_neg<|by omega]
 exact Tr.vk c
theorem agb [Sg]{R1:R (R V)}{sz:Nat}{row:List AV}(h:fQ sz (atR 0 R1) row):cj (fh1 R1 sz) (hp1 row sz):=by
 refine cj.hput agc (by omega) ⟨λk=>absurd rfl k,λ_=>⟨_,rfl,by show 1<=4180;omega,h.small,λr hr=>?_⟩,λk=>absurd k (by decide:¬(1:Nat)=2),λk=>absurd k (by decide:¬(1:Nat)=3),λk=>absurd k (by decide:¬(1:Nat)=4),λk=>absurd k (by decide:¬(1:Nat)=5),λk=>absurd k (by decide:¬(1:Nat)=6)⟩
 have:r=0:=by have:r<1:=hr;omega
 subst this
 exact⟨row,Tr.a8 _ _ _,h⟩
noncomputable def ck1 (sz:Nat)(row:List AV)(a:AV)(v:V)(h:FH):Bool:=isA v a&&(Nat.blt 0 h.next&&(Nat.beq (hget 0 h).t 1&&(Nat.beq (hget 0 h).n 1&&(Nat.beq (hget 0 h).sz sz&&Fw (atR 0 (hget 0 h).rs) 0 row))))
theorem fast_kcon1 [Sg]{P:Program}(hm:P.follows .mixedOrders=true){n:Nat}{f:FuncId}{args:List V}{xs0:List AV}{a:AV}{R1:R (R V)}{sz:Nat}{row:List AV}(hr:fQ sz (atR 0 R1) row)(ha:VAs args xs0)(hb:AV.Bel 1 a)(hrow:∀(j:Nat)v,row[j]?=some v->AV.Bel 1 v)
  (h:((callF P noneKnown n).call f args (fh1 R1 sz) (ck1 sz row a))=true):KCon P f xs0 (hp1 row sz) a (hp1 row sz):=by
 obtain⟨O,hO,hF⟩:=lB P
 obtain⟨m,b,v,h',H',h1,h2,h3,_,h5⟩:=(kX P (hF _) n).call ha (agb hr) h
 unfold ck1 at h5
 simp only[Bool.and_eq_true]at h5
 obtain⟨h5,h10,h6,h7,h8,h9⟩:=h5
 have:=vD h2 h5
 subst this
 have e6:=Nat.eq_of_beq_eq_true h6
 have e7:=Nat.eq_of_beq_eq_true h7
 have e8:=Nat.eq_of_beq_eq_true h8
 obtain⟨T,k1,_,_,k4⟩:=(h3.block 0<|by omega).rows e6
 rw[e7,e8]at k1
 obtain⟨row',k5,k6⟩:=k4 0<|by omega
 rw[e8]at k6
 have e9:row'=row:=by
  have:=Fy k6.cell row 0 h9 (by rw[k6.len,hr.len];omega)
  simpa using this
 subst e9
 have hlt:0<H'.next:=by rw[<- h3.next];exact bh.1 h10
 have hI:∀c,((⟨.lf,1⟩:Heap).put 0 (.rows T 1 sz false)).get c=if 0=c then some (.rows T 1 sz false)else none:=λc=>by
  rw[Heap.aR]
  by_cases hc:0=c
  ·rw[if_pos hc,if_pos hc]
  ·rw[if_neg hc,if_neg hc];exact Tr.vk c
 have hu:=(KCon.KV hm hO h1).eC (I:=(⟨.lf,1⟩:Heap).put 0 (.rows T 1 sz false)) (n:=1) ⟨rfl,hlt,λc o hc=>by
  rw[hI]at hc
  by_cases h0:0=c
  ·subst h0
   rw[if_pos rfl]at hc
   cases hc
   refine⟨by omega,k1,λi r hi ht j v hj=>?_⟩
   have:i=0:=by omega
   subst this
   rw[k5]at ht
   cases ht
   exact hrow j v hj
  ·rw[if_neg h0]at hc;cases hc⟩ (Nat.le_refl _) hb
 refine hu.sim ⟨λc o hc=>⟨o,hc,.rfl⟩,rfl⟩ ⟨λc o hc=>?_,rfl⟩
 by_cases h0:0=c
 ·subst h0
  rw[acl]at hc
  cases hc
  refine⟨_,(by rw[hI];rfl),.rows λi hi=>?_⟩
  have:i=0:=by omega
  subst this
  rw[k5,Tr.a8]
 ·rw[ado _ _ (by omega)]at hc;cases hc
theorem bB.adt {P:Program}{K:Orc}{f:FuncId}{args:List AV}{v:AV}{o:HO}{b:Nat}{s:SH}(hb:Has b o s)(h:∀H,b<H.next->o.ok (H.get b)->K f args H=some (v,H)){R:AV->SH->Prop}(hr:R v s):bB P K f args s R:=
 λH0 H hH=>⟨v,s,H,CallsTo.known<|h H (hH.has hb).1 (hH.has hb).2,hH,hr⟩
theorem KCon.ahX {P:Program}{f:FuncId}{args afw:List AV}{v:AV}{Hb:Heap}{sz b:Nat}{row:List AV}(h:KCon P f afw (hp1 row sz) v (hp1 row sz))(hrow:∀ρ,row.map (AV.ren ρ)=row)(hlt:b<Hb.next)(hok:(HO.r false [row] sz).ok (Hb.get b))(hv:∀ρ,v.ren ρ=v)(ha:AV.rens (Ev.at1 b Hb.next) afw=args):KCon P f args Hb v Hb:=by
 obtain⟨t,h1,h2⟩:=hok
 rw[<- ha]
 exact h.at1 rfl (acl row sz) (Tr.a8 _ _ _) (λc hc=>ado row sz hc) hrow h1 (h2 0 row rfl).1 hlt hv
theorem acG (hB:Base P K F T)(hA:BaseAb P K F T)(hf:Has bf (.r false [bu bl aZ c0 c1 c2 c3 c4 ap] 8) t)(hs:aH bl EL d t s){n:Int}{R:SH->Prop}
  (hback:bB P K (F 430) [.ptr (some ⟨bl,0,0⟩),iv n] s (λ_ s'=>R s')) :
  bB P K (F 343) [.ptr (some ⟨bf,0,0⟩),iv n] s (λ_ s'=>R s'):=by
 refine hA.f343.cF ?_
 unfold ahl
 refine Vr (k:=Ww<|W1 (iT hB<|hs.mem hf) ?_)
 rintro _ _ ⟨rfl,rfl⟩
 refine Vr (k:=Ww<|W1 (hback) ?_)
 rintro _ s2 h2
 refine Wn<|Wm .nil ?_
 exact h2
theorem ab1 (hA:BaseAb P K F T){v:AV}(hv:partCells 1 v=some [v]):bB P K (F 464) [v] s (λw s'=>∃b1,w=.func (F 469) [] [.ptr (some ⟨b1,0,0⟩)]/\s'=(b1,.r false [[v]] 1)::s):=by
 refine hA.ajZ.cF ?_
 unfold ahQ
 refine Vr (k:=Wa (.box rfl hv) λb1=>Vk (k:=We<|Wm (.tmp rfl .nil) ?_))
 exact⟨b1,rfl,rfl⟩
theorem acH (hA:BaseAb P K F T){n:Nat}{d2:SD}(h1:0<n)(hn:n<EL.length)(hN:EL.length<=5000)
  (aik:bB P K (F 453) [.ptr (some ⟨bl,0,0⟩),iv<|.ofNat n] s (λv s'=>∃pv ov lv hv gv ev fv sv wv kv m,v=.tuple [.agg (d2.cells pv ov lv hv gv ev fv sv wv kv),iv 0]/\mD m pv ov lv hv gv ev fv sv wv kv d2/\aH bl EL d (m++t) s')) :
  bB P K (F 430) [.ptr (some ⟨bl,0,0⟩),iv<|.ofNat n] s (λ_ s'=>aH bl (EL.take n) d2 t s'):=by
 refine hA.ajH.cF ?_
 unfold ahy
 refine Vr (k:=Ww<|W1 (aik) ?_)
 rintro _ s2 ⟨pv,ov,lv,hv,gv,ev,fv,sv,wv,kv,m,rfl,hD,dt⟩
 obtain⟨sc,ll,pv0,ov0,lv0,hv0,gv0,Xy,fv0,sv0,wv0,kv0,oL,nn,hp,hb,hG,hD0⟩:=dt
 have k2:=hb.len
 have hl:bV 1 (cu 25<|sc++([ll]++(d.cells pv0 ov0 lv0 hv0 gv0 Xy fv0 sv0 wv0 kv0++[])))=some [ll]:=nA k2 rfl
 refine WO.pre hp ?_
 cases hG with
 | nil=>exact absurd hn<|Nat.not_lt_zero _
 | zero=>exact absurd hn<|Nat.not_lt_zero _
 | @rows bE nE cE L TT hnE hcE hLE=>
  subst hnE
  refine Vr (k:=λb5=>Vr (k:=Wr (.oO rfl rfl (by omega) (by omega)<|by decide) ?_))
  have hT:(EL++TT).take (0+n)=EL.take n:=by rw[Nat.zero_add,List.take_append_of_le_length<|by omega]
  refine Ww<|WS.clear rfl (by omega) rfl (by decide) (by rw[List.length_append];omega) (.there<|.there .here)<|Wn ?_
  rw[hT]
  have hTl:cE=n+(List.replicate (EL.length-n) ([.int .i64 (.ofNat 0),.int .i64<|.ofNat 0,.int .i64<|.ofNat 0,.int .i64<|.ofNat 0,.int .i64<|.ofNat 0,.slice none 0 0 false 0,.int .i64<|.ofNat 0,.int .i64<|.ofNat 0,.int .i64<|.ofNat 0,.int .i64<|.ofNat 0,.int .i64<|.ofNat 0,.int .i64<|.ofNat 0,.slice none 0 0 false 0]:List AV)++(EL++TT).drop (0+n+(EL.length-n))).length:=by simp;omega
  generalize List.replicate (EL.length-n) ([.int .i64 (.ofNat 0),.int .i64<|.ofNat 0,.int .i64<|.ofNat 0,.int .i64<|.ofNat 0,.int .i64<|.ofNat 0,.slice none 0 0 false 0,.int .i64<|.ofNat 0,.int .i64<|.ofNat 0,.int .i64<|.ofNat 0,.int .i64<|.ofNat 0,.int .i64<|.ofNat 0,.int .i64<|.ofNat 0,.slice none 0 0 false 0]:List AV)++(EL++TT).drop (0+n+(EL.length-n))=T2 at hTl
  refine Vr (k:=?_)
  refine Dp (.wH rfl rfl<|by omega)<|WD.lk rfl .nil (.load rfl .here rfl rfl rfl)<|Vr (k:=?_)
  refine Dc .nil<|Wt rfl rfl rfl (.there .here) rfl (D7 k2 rfl)<|Vr (k:=?_)
  refine Dc .nil<|Wt rfl rfl rfl (.there .here) rfl (Jx k2 rfl)<|D0 .nil ?_ ?_
  ·refine Vk (k:=We<|Wm (.tmp rfl .nil) ?_)
   have CI:n=(EL.take n).length:=by rw[List.length_take];omega
   have xB:Gr 13 (.slice (some ⟨bE,0,0⟩) n cE true 13) (EL.take n) [(bE,.r false (EL.take n++T2) 13)]:=Gr.rows CI (by omega) hLE
   have fin:∀q:Nat × HO,aH bl (EL.take n) d2 t (q::(bl,.r false [sc++([.slice (some ⟨bE,0,0⟩) n cE true 13]++(d2.cells pv ov lv hv gv ev fv sv wv kv++[]))] 51)::(bE,.r false (EL.take n++T2) 13)::(nn++(m++t))):=λq=>
    ⟨sc,_,pv,ov,lv,hv,gv,ev,fv,sv,wv,kv,_,[q]++(nn++m),qc,hb.mono λp hp=>by simp[hp],xB,hD.mono λp hp=>by simp[hp]⟩
   exact fin _
  ·intro o' ho'
   rw[List.mem_singleton.1 ho']
   refine⟨(λi hi=>nomatch hi),Nat.zero_le _,hD.same,λk' _ hk'=>?_⟩
   rcases(by have:k'<=1:=hk';omega:k'=0\/k'=1)with rfl|rfl
   ·exact⟨_,rfl,.load rfl .here rfl rfl rfl⟩
   ·exact⟨_,rfl,.load rfl .here rfl rfl rfl⟩
def St1 (m:SH)(cs:List AV)(d:SD):Prop:=∃pv ov lv hv gv ev fv sv wv kv,cs=d.cells pv ov lv hv gv ev fv sv wv kv/\mD m pv ov lv hv gv ev fv sv wv kv d
theorem acU (hB:Base P K F T)(hA:BaseAb P K F T){y:AV}{n b1:Nat}{D:Nat->SD}{W:Nat->SH}{WE:List AV->SH}{X:SH}{sc now:List AV}{lv:AV}
  (h1:Has b1 (.r false [[.ptr (some ⟨bl,0,0⟩)]] 1) X) (oZ:Has bl (.r false [sc++([lv]++now)] 51) X) (P2:St1 X sc (D 0)) (hsrc:Src X 13 lv EL) (hN:EL.length<=5000) (hn:n<=EL.length) (hsm:(D 0).Small)
  (hap:∀i,i<n->∃k a b n m it,EL[i]?=some (cr k a b n m it)/\Kv [] it.tv it.tg/\Ap P K F k a b n m it (D i) (D<|i+1))
  (hy:∀i m cs,i<n->St1 m cs (D i)->∀fr,c6 P K y [.agg cs] (W i++(fr++X)) (λv s'=>v=.bool true/\∃j,s'.Perm<|j++(W (i+1)++(fr++X))))
  (hz:∀m cs,St1 m cs (D n)->∀fr,c6 P K y [.agg cs] (W n++(fr++X)) (λv s'=>v=.bool false/\∃j,s'.Perm<|j++(WE cs++(fr++X)))) :
  bB P K (F 469) [y,.ptr<|some ⟨b1,0,0⟩] (W 0++X) (λ_ s'=>∃cs m,St1 m cs (D n)/\s'.Perm (WE cs++(m++X))):=by
 refine hA.aj2.cF ?_
 unfold ahT
 obtain⟨pv,ov,lvv,hv,gv,ev,fv,sv,wv,kv,rfl,hD⟩:=P2
 have k2:((D 0).cells pv ov lvv hv gv ev fv sv wv kv).length=25:=rfl
 have ll:lenOf lv=some EL.length:=hsrc.lenOf
 have Uy:bV 25 (cu 0<|(D 0).cells pv ov lvv hv gv ev fv sv wv kv++([lv]++now))=some ((D 0).cells pv ov lvv hv gv ev fv sv wv kv):=nA (a:=[]) rfl k2
 have aks:bV 1 (cu 25<|(D 0).cells pv ov lvv hv gv ev fv sv wv kv++([lv]++now))=some [lv]:=nA k2 rfl
 refine Vr (k:=Ww<|W1 (mw hB (hD.mono λp hp=>by simp[hp]) hsm) ?_)
 rintro _ _ ⟨pv1,ov1,lv1,UZ,gv1,ev1,fv1,sv1,wv1,kv1,m1,rfl,rfl,hG1⟩
 refine Vr (k:=λb3=>Ww<|Wt (s':=(b3,.r false [SD.cells (D 0) pv1 ov1 lv1 UZ gv1 ev1 fv1 sv1 wv1 kv1] 25)::_) rfl rfl rfl .here rfl rfl<|Wn<|Wq<|Wv rfl<|Wn<|Wb ?_)
 refine Wp (λk l ds s'=>ds=[]/\∃i cs fr,k=n-i/\i<=n/\St1 fr cs (D i)/\s'.Perm (W i++((b3,.r false [cs] 25)::(fr++X)))/\∀j x,lk [(0,y),(1,.ptr<|some ⟨b1,0,0⟩),(3,.ptr<|some ⟨b3,0,0⟩),(4,iv<|.ofNat i)] j=some x->lk l j=some x) ?_ (n:=n-0)
  ⟨rfl,0,_,m1,rfl,Nat.zero_le _,⟨pv1,ov1,lv1,UZ,gv1,ev1,fv1,sv1,wv1,kv1,rfl,hG1.r λp hp=>hp⟩,qc,aa rfl qb⟩
 rintro k l ds s' ⟨rfl,i,cs,fr,rfl,hi,hst,hp,hl⟩
 obtain⟨Gz,Gy,nw,Gw,Gl,Gj,Gk,GA,GB,kv2,rfl,hD2⟩:=hst
 refine WP.pre hp ?_
 refine Wg hl (λ_ _ h=>h) ?_
 refine Vr (k:=?_)
 by_cases hlt:i<n
 ·refine Ww (WS.call (vs:=[_]) rfl rfl (hy i fr _ hlt ⟨Gz,Gy,nw,Gw,Gl,Gj,Gk,GA,GB,kv2,rfl,hD2⟩<|(b3,.r false [(D i).cells Gz Gy nw Gw Gl Gj Gk GA GB kv2] 25)::fr) ?_)
  rintro _ s2 ⟨rfl,j,Gu⟩
  refine WO.pre Gu ?_
  obtain⟨k,a,b,n',m',it,hev,hkv,hAp⟩:=hap i hlt
  obtain⟨be,re,ne,ce,sle,roe,Me,rfl,Pz,aot,hre⟩:=hsrc.at (i:=i)<|by omega
  have hrow:Me[re+i]?=some (cr k a b n' m' it):=by rw[hre,hev]
  have aio:binV .lss (iv<|.ofNat i) (iv<|.ofNat EL.length)=some (.bool true):=by rw[eT,decide_eq_true<|show Int.ofNat i<Int.ofNat EL.length from(by omega:(i:Int)<(EL.length:Int))]
  have X1:binV .add (iv<|.ofNat i) (iv<|.ofNat 1)=some (iv<|.ofNat<|i+1):=bM<|by omega
  refine Vr (k:=Dc .nil<|W1 (hAp _ (hD2.mono λp hp=>by simp[hp])<|hkv.mono λp hp=>nomatch hp) ?_)
  rintro _ _ ⟨pv3,ov3,lv3,hv3,gv3,ev3,fv3,sv3,wv3,kv3,n3,rfl,rfl,hG3⟩
  have fin:∀q:Nat × HO,(n3++(j++(W (i+1)++(q::fr++X)))).Perm (W (i+1)++(q::((n3++(j++fr))++X))):=λq=>qc
  refine Vr (k:=Dc .nil<|Wt rfl rfl rfl uP rfl rfl<|Vr (k:=?_))
  exact⟨n-(i+1),by omega,rfl,i+1,(D<|i+1).cells pv3 ov3 lv3 hv3 gv3 ev3 fv3 sv3 wv3 kv3,n3++(j++fr),rfl,hlt,⟨pv3,ov3,lv3,hv3,gv3,ev3,fv3,sv3,wv3,kv3,rfl,hG3.r λp hp=>by simp[hp]⟩,fin _,aa rfl qb⟩
 ·obtain rfl:i=n:=by omega
  refine Ww<|WS.call (vs:=[_]) rfl rfl (hz fr _ ⟨Gz,Gy,nw,Gw,Gl,Gj,Gk,GA,GB,kv2,rfl,hD2⟩<|(b3,.r false [(D i).cells Gz Gy nw Gw Gl Gj Gk GA GB kv2] 25)::fr) ?_
  rintro _ s2 ⟨rfl,j,Gu⟩
  refine Vk (k:=Wx<|Wm .nil ?_)
  exact⟨_,(b3,.r false [(D i).cells Gz Gy nw Gw Gl Gj Gk GA GB kv2] 25)::(j++fr),⟨Gz,Gy,nw,Gw,Gl,Gj,Gk,GA,GB,kv2,rfl,hD2.mono λp hp=>by simp[hp]⟩,Gu.trans<|qc⟩
theorem acQ (hB:Base P K F T)(hA:BaseAb P K F T)(aeZ:isAggT P (T 27)=some false/\size? P (T 27)=some 1){n:Nat}{D:Nat->SD}{sc now:List AV}{lv:AV}
  (oZ:Has bl (.r false [sc++([lv]++now)] 51) s) (P2:St1 s sc (D 0)) (hsrc:Src s 13 lv EL) (hN:EL.length<=5000) (hn:n<=EL.length) (hsm:(D 0).Small)
  (hap:∀i,i<n->∃k a b n m it,EL[i]?=some (cr k a b n m it)/\Kv [] it.tv it.tg/\Ap P K F k a b n m it (D i) (D<|i+1)) :
  bB P K (F 453) [.ptr (some ⟨bl,0,0⟩),iv<|.ofNat n] s (λv s'=>∃pv ov lv hv gv ev fv sv wv kv m,v=.tuple [.agg ((D n).cells pv ov lv hv gv ev fv sv wv kv),iv 0]/\mD m pv ov lv hv gv ev fv sv wv kv (D n)/\s'.Perm (m++s)):=by
 refine hA.ajU.ZH ?_
 unfold ahL
 have k2:sc.length=25:=by obtain⟨pv,ov,lvv,hv,gv,ev,fv,sv,wv,kv,rfl,hD⟩:=P2;rfl
 have ll:lenOf lv=some EL.length:=hsrc.lenOf
 have aks:bV 1 (cu 25<|sc++([lv]++now))=some [lv]:=nA k2 rfl
 have aio:binV .lss (iv<|.ofNat n) (iv 0)=some (.bool false):=by rw[show(0:Int)=.ofNat 0 from rfl,eT,decide_eq_false (show¬Int.ofNat n<Int.ofNat 0 from by have:=Int.natCast_nonneg n;exact Int.not_lt.2 this)]
 have aoq:binV .gtr (iv<|.ofNat n) (iv<|.ofNat EL.length)=some (.bool false):=by rw[xA,decide_eq_false<|show¬Int.ofNat EL.length<Int.ofNat n from Int.not_lt.2<|Int.ofNat_le.2 hn]
 refine Vr (k:=λb3=>Vr (k:=λb4=>Vr (k:=λb5=>Vr (k:=λb6=>Vr (k:=Ww<|W1 (ab1 hA rfl) ?_)))))
 rintro _ _ ⟨b1,rfl,rfl⟩
 refine Vr (k:=?_)
 refine(Wg (l':=[(3,.ptr<|some ⟨b3,0,0⟩),(4,.ptr<|some ⟨b4,0,0⟩),(5,.ptr<|some ⟨b5,0,0⟩),(6,.ptr<|some ⟨b6,0,0⟩),(26,.func (F 469) [] [.ptr (some ⟨b1,0,0⟩)])]) qb (λ_ _ h=>h) ?_)
 generalize hl1:([(3,.ptr<|some ⟨b3,0,0⟩),(4,.ptr<|some ⟨b4,0,0⟩),(5,.ptr<|some ⟨b5,0,0⟩),(6,.ptr<|some ⟨b6,0,0⟩),(26,.func (F 469) [] [.ptr (some ⟨b1,0,0⟩)])]:Sl)=l1
 refine WP.rf (by subst hl1;rfl) λasg body X4 Ct D0 lb=>?_
 have e3:lk l1 3=some (.ptr<|some ⟨b3,0,0⟩):=by subst hl1;rfl
 have e4:lk l1 4=some (.ptr<|some ⟨b4,0,0⟩):=by subst hl1;rfl
 have e5:lk l1 5=some (.ptr<|some ⟨b5,0,0⟩):=by subst hl1;rfl
 have e6:lk l1 6=some (.ptr<|some ⟨b6,0,0⟩):=by subst hl1;rfl
 have key:=acU hB hA (y:=.yield lb) (b1:=b1) (D:=D)
  (W:=λi=>[(lb,.lp l1 35 [27] asg body .ready none D0),(b6,.r false [[iv (.ofNat i)]] 1),(b5,.r false [[iv 0]] 1),(b4,.r false [cC] 25)])
  (WE:=λcs=>[(lb,.lp l1 35 [27] asg body .done (some .ret) D0),(b6,.r false [[iv (.ofNat n)]] 1),(b5,.r false [[iv 0]] 1),(b4,.r false [cs] 25)])
  (X:=(D0,.ob .deferred)::(b1,.r false [[.ptr (some ⟨bl,0,0⟩)]] 1)::(b3,.r false [[iv (.ofNat n)]] 1)::s)
  zP zP (by obtain⟨pv,ov,lvv,hv,gv,ev,fv,sv,wv,kv,e,hD⟩:=P2;exact⟨pv,ov,lvv,hv,gv,ev,fv,sv,wv,kv,e,hD.mono λp hp=>by simp[hp]⟩)
  (hsrc.mono λp hp=>by simp[hp]) hN hn hsm hap ?_ ?_
 ·have p0:∀q1 q2 q3 q4 q5 q6 q7:Nat × HO,(q1::q2::q3::q4::q5::q6::q7::s).Perm ([q1,q4,q5,q6]++(q2::q3::q7::s)):=λq1 q2 q3 q4 q5 q6 q7=>qc
  refine bB.canon<|bB.perm (p0 _ _ _ _ _ _ _).symm (key.post ?_)
  rintro _ s' ⟨cs,m,⟨Gz,Gy,nw,Gw,Gl,Gj,Gk,GA,GB,kv2,rfl,hD2⟩,hp⟩
  have CL:s'.Perm ((lb,.lp l1 35 [27] asg body .done (some .ret) D0)::(b6,.r false [[iv (.ofNat n)]] 1)::(b5,.r false [[iv 0]] 1)::(b4,.r false [(D n).cells Gz Gy nw Gw Gl Gj Gk GA GB kv2] 25)::(m++((D0,.ob .deferred)::(b1,.r false [[.ptr (some ⟨bl,0,0⟩)]] 1)::(b3,.r false [[iv (.ofNat n)]] 1)::s))):=hp
  refine⟨_,CL,l1,.done,some .ret,_,rfl,(λh=>LoopState.noConfusion h),?_⟩
  refine⟨[D0],(lb,.gone)::(b6,.r false [[iv (.ofNat n)]] 1)::(b5,.r false [[iv 0]] 1)::(b4,.r false [(D n).cells Gz Gy nw Gw Gl Gj Gk GA GB kv2] 25)::(m++((b1,.r false [[.ptr (some ⟨bl,0,0⟩)]] 1)::(b3,.r false [[iv (.ofNat n)]] 1)::s)),rfl,ak λc w h0 h1 h2 hq=>by simp only[h1,h2,h0,List.map,List.cons_append,List.nil_append];omega,_,
   .cell e4 hB.t41.1 hB.t41.2 (.inl rfl) zP rfl rfl rfl (.cell e5 aeZ.1 aeZ.2 (.inr rfl) zP rfl rfl rfl .nil),?_⟩
  refine⟨Gz,Gy,nw,Gw,Gl,Gj,Gk,GA,GB,kv2,(D0,.gone)::(lb,.gone)::(b6,.r false [[iv (.ofNat n)]] 1)::(b5,.r false [[iv 0]] 1)::(b4,.r false [(D n).cells Gz Gy nw Gw Gl Gj Gk GA GB kv2] 25)::(m++[(b1,.r false [[.ptr (some ⟨bl,0,0⟩)]] 1),(b3,.r false [[iv (.ofNat n)]] 1)]),rfl,hD2.mono λp hp=>by simp[hp],?_⟩
  exact ak λc w h0 h1 h2 hq=>by simp only[h1,h2,h0,List.map,List.cons_append,List.nil_append];omega
 ·intro i m cs hi hst fr
  obtain⟨Gz,Gy,nw,Gw,Gl,Gj,Gk,GA,GB,kv2,rfl,hD2⟩:=hst
  refine c6.canon ?_
  refine AU (by omega) X4 Ct ?_
  refine Vr (k:=λb7=>Vr (k:=?_))
  refine⟨(b7,.r false [(D i).cells Gz Gy nw Gw Gl Gj Gk GA GB kv2] 25)::(b6,.r false [[iv (.ofNat i)]] 1)::(b5,.r false [[iv 0]] 1)::(b4,.r false [cC] 25)::(fr++((D0,.ob .deferred)::(b1,.r false [[.ptr (some ⟨bl,0,0⟩)]] 1)::(b3,.r false [[iv (.ofNat n)]] 1)::s)),List.Perm.swap ..,?_⟩
  refine Wg (l':=[(3,.ptr<|some ⟨b3,0,0⟩),(4,.ptr<|some ⟨b4,0,0⟩),(5,.ptr<|some ⟨b5,0,0⟩),(6,.ptr<|some ⟨b6,0,0⟩),(7,.ptr<|some ⟨b7,0,0⟩)]) (aa e3<|aa e4<|aa e5<|aa e6 qb) (λ_ _ h=>h) ?_
  generalize hX0:(lb,HO.lp l1 35 [27] asg body .busy none D0)=lb0
  have h30:eqBy 20 .pi (iv<|.ofNat i) (iv<|.ofNat n)=some false:=by rw[dh,decide_eq_false<|λh=>absurd (Int.ofNat.inj h)<|by omega]
  have X1:binV .add (iv<|.ofNat i) (iv<|.ofNat 1)=some (iv<|.ofNat<|i+1):=bM<|by omega
  refine Vk (k:=Ww<|WS.st<|Wn ?_)
  exact⟨_,.refl _,_,.refl _,rfl,[_],List.Perm.swap ..⟩
 ·intro m cs hst fr
  obtain⟨Gz,Gy,nw,Gw,Gl,Gj,Gk,GA,GB,kv2,rfl,hD2⟩:=hst
  refine c6.canon ?_
  refine AU (by omega) X4 Ct ?_
  refine Vr (k:=λb7=>Vr (k:=?_))
  refine⟨(b7,.r false [(D n).cells Gz Gy nw Gw Gl Gj Gk GA GB kv2] 25)::(b6,.r false [[iv (.ofNat n)]] 1)::(b5,.r false [[iv 0]] 1)::(b4,.r false [cC] 25)::(fr++((D0,.ob .deferred)::(b1,.r false [[.ptr (some ⟨bl,0,0⟩)]] 1)::(b3,.r false [[iv (.ofNat n)]] 1)::s)),List.Perm.swap ..,?_⟩
  refine Wg (l':=[(3,.ptr<|some ⟨b3,0,0⟩),(4,.ptr<|some ⟨b4,0,0⟩),(5,.ptr<|some ⟨b5,0,0⟩),(6,.ptr<|some ⟨b6,0,0⟩),(7,.ptr<|some ⟨b7,0,0⟩)]) (aa e3<|aa e4<|aa e5<|aa e6 qb) (λ_ _ h=>h) ?_
  generalize hX0:(lb,HO.lp l1 35 [27] asg body .busy none D0)=lb0
  have h30:eqBy 20 .pi (iv<|.ofNat n) (iv<|.ofNat n)=some true:=by rw[dh,decide_eq_true rfl]
  refine Vr (k:=We ?_)
  exact⟨_,.refl _,_,.refl _,rfl,[_],List.Perm.swap ..⟩
def acA (P:Program)(K:Orc)(F:Nat->FuncId)(EL:List (List AV))(n:Nat)(D:Nat->SD):Prop:=
 D 0=d00/\∀i,i<n->∃k a b m c it,EL[i]?=some (cr k a b m c it)/\Kv [] it.tv it.tg/\Ap P K F k a b m c it (D i) (D<|i+1)
theorem aaP:d00.Small where
 n1:=by decide
 n2:=by
  intro LL h
  rcases h with rfl|rfl|rfl|rfl<;>exact⟨(by decide:2<=1000),λbX hl=>by rcases List.mem_cons.1 hl with rfl|hl<;>first|decide|(rcases List.mem_cons.1 hl with rfl|hl<;>first|decide|cases hl)⟩
 n3:=⟨Nat.zero_le _,(λx hx=>nomatch hx),(λx hx=>nomatch hx)⟩
theorem ad7 (hB:Base P K F T)(hA:BaseAb P K F T)(aeZ:isAggT P (T 27)=some false/\size? P (T 27)=some 1)(hf:Has bf (.r false [bu bl aZ c0 c1 c2 c3 c4 ap] 8) t)(hs:aH bl EL d t s){n:Nat}{D:Nat->SD}(h1:0<n)(hn:n<EL.length)(hN:EL.length<=5000)(hD:acA P K F EL n D) :
  bB P K (F 343) [.ptr (some ⟨bf,0,0⟩),iv<|.ofNat n] s (λ_ s'=>aH bl (EL.take n) (D n) t s'):=by
 refine acG hB hA hf hs<|acH (d:=d) hA h1 hn hN ?_
 obtain⟨sc,lv,pv,ov,IO,hv,gv,ev,fv,sv,wv,kv,oL,nn,hp,hb,hG,hD0⟩:=hs
 obtain⟨pv0,ov0,lv0,hv0,gv0,Xy,fv0,sv0,wv0,kv0,e0,hb0⟩:=hb
 refine bB.perm hp.symm<|(acQ hB hA aeZ (D:=D) (n:=n) (sc:=sc) (lv:=lv) .here ⟨pv0,ov0,lv0,hv0,gv0,Xy,fv0,sv0,wv0,kv0,by rw[hD.1];exact e0,by rw[hD.1];exact hb0.mono λp hp=>by simp[hp]⟩ (hG.out.src.mono λp hp=>by simp[hp]) hN (Nat.le_of_lt hn) (by rw[hD.1];exact aaP) hD.2).post ?_
 rintro v s' ⟨Gz,Gy,nw,Gw,Gl,Gj,Gk,GA,GB,kv2,m,rfl,hD2,Gu⟩
 exact⟨Gz,Gy,nw,Gw,Gl,Gj,Gk,GA,GB,kv2,m,rfl,hD2,sc,lv,pv,ov,IO,hv,gv,ev,fv,sv,wv,kv,oL,nn,Gu.trans<|qc,⟨pv0,ov0,lv0,hv0,gv0,Xy,fv0,sv0,wv0,kv0,e0,hb0⟩,hG,hD0⟩
@[reducible] def tf:OD:=⟨1,1,0,0,1,false,false,false,0,0,0,0,false⟩
@[reducible] def sT:OD:=⟨2,2,0,0,1,false,false,false,0,0,0,0,false⟩
@[reducible] def AZ:OD:=⟨3,3,0,0,2,false,true,false,0,1,0,0,false⟩
@[reducible] def kT (tp:Nat->Bool)(k:Nat):OD:=⟨.ofNat (k+4),0,0,0,2,tp k,true,false,0,.ofNat (k+2),0,0,false⟩
def gW (k:Nat):Int:=.ofNat (k+4)
@[reducible] def P1 (m:Int):LD:=⟨20,m,0,0,0,false,false,false⟩
def aD (n:Nat)(tp:Nat->Bool)(m ck co ca:Int)(ct:List TG)(py:Bool):SD:=
 { d00 with pl:=[P1 m,P1 0],ob:=tf::sT::AZ::(List.range n).map (kT tp),hd:=[[1,2],[]],fi:=3::(List.range n).map gW,nx:=.ofNat<|n+4,sp:=.ofNat<|n+2,ck:=ck,co:=co,ca:=ca,ct:=ct,py:=py }
variable {n:Nat}{tp:Nat->Bool}{m:Int}{ck:Int}{co:Int}{ca:Int}{ct:List TG}{py:Bool}
theorem abM {k:Nat}(h:k<n):(aD n tp m ck co ca ct py).ob[k+3]?=some (kT tp k):=by
 show((List.range n).map (kT tp))[k]?=_
 simp[h]
theorem adj {k:Nat}(h:k<n):(aD n tp m ck co ca ct py).find (gW k)=some (k+3):=by
 unfold SD.find
 rw[List.findIdx?_eq_some_iff_getElem]
 have hl:(aD n tp m ck co ca ct py).ob.length=n+3:=by simp[aD]
 have hne:∀j:Nat,j<4->decide ((.ofNat j:Int)=gW k)≠true:=λj hj h=>by have:=Int.ofNat.inj (of_decide_eq_true h);omega
 refine⟨by omega,?_,λj hj=>?_⟩
 ·have:=(List.getElem?_eq_some_iff.1<|abM (tp:=tp) (m:=m) (ck:=ck) (co:=co) (ca:=ca) (ct:=ct) (py:=py) h).2
  rw[this]
  exact decide_eq_true rfl
 ·match j,hj with
  | 0,_=>exact hne 1<|by omega
  | 1,_=>exact hne 2<|by omega
  | 2,_=>exact hne 3<|by omega
  | j+3,hj=>
   have:=(List.getElem?_eq_some_iff.1<|abM (n:=n) (tp:=tp) (m:=m) (ck:=ck) (co:=co) (ca:=ca) (ct:=ct) (py:=py) (k:=j)<|by omega).2
   rw[this]
   exactλh=>by have:=Int.ofNat.inj (of_decide_eq_true h);omega
theorem aas {k:Nat}(h:k<n):(aD n tp m ck co ca ct py).obj (gW k)=some (kT tp k):=by
 unfold SD.obj
 rw[adj h]
 exact abM h
theorem adk:(aD n tp m ck co ca ct py).obj 1=some tf:=rfl
theorem adl:(aD n tp m ck co ca ct py).obj 2=some sT:=rfl
theorem aaC:(aD n tp m ck co ca ct py).obj 3=some AZ:=rfl
theorem ad4 {o:OD}(h:o∈(aD n tp m ck co ca ct py).ob):o=tf\/o=sT\/o=AZ\/∃k,k<n/\o=kT tp k:=by
 rcases List.mem_cons.1 h with h|h
 ·exact .inl h
 rcases List.mem_cons.1 h with h|h
 ·exact .inr<|.inl h
 rcases List.mem_cons.1 h with h|h
 ·exact .inr<|.inr<|.inl h
 obtain⟨k,hk,rfl⟩:=List.mem_map.1 h
 exact .inr<|.inr<|.inr ⟨k,List.mem_range.1 hk,rfl⟩
theorem ad2 {id:Int}(h:id∈(aD n tp m ck co ca ct py).fi):id=3\/∃k,k<n/\id=gW k:=by
 rcases List.mem_cons.1 h with h|h
 ·exact .inl h
 obtain⟨k,hk,rfl⟩:=List.mem_map.1 h
 exact .inr ⟨k,List.mem_range.1 hk,rfl⟩
theorem kM (hn:n<=6)(hc:ct.length<=1000):(aD n tp m ck co ca ct py).Small where
 n1:=⟨(by decide:2<=1000),by simp[aD];omega,by simp[aD];omega,Nat.zero_le _,Nat.zero_le _⟩
 n2:=by
  intro LL h
  rcases h with rfl|rfl|rfl|rfl<;>exact⟨(by decide:2<=1000),λbX hl=>by rcases List.mem_cons.1 hl with rfl|hl<;>first|decide|(rcases List.mem_cons.1 hl with rfl|hl<;>first|decide|cases hl)⟩
 n3:=⟨hc,(λx hx=>nomatch hx),(λx hx=>nomatch hx)⟩
theorem YR:(aD n tp m ck co ca ct py).kQ:=⟨rfl,rfl,rfl,rfl⟩
theorem af3 {k:Nat}(h:k<n)(c:Bool)(hc:c=true):{ aD n tp m ck co ca ct py with ob:=(aD n tp m ck co ca ct py).ob.set (k+3) { kT tp k with RU:=c } }=aD n (λj=>decide (j=k)||tp j) m ck co ca ct py:=by
 subst hc
 unfold aD
 have e:(tf::sT::AZ::(List.range n).map (kT tp)).set (k+3) { kT tp k with RU:=true }=tf::sT::AZ::(List.range n).map (kT λj=>decide (j=k)||tp j):=by
  show tf::sT::AZ::((List.range n).map (kT tp)).set k _=_
  congr 3
  refine List.ext_getElem? λj=>?_
  rw[List.getElem?_set]
  by_cases hj:k=j
  ·subst hj
   simp[h,kT]
  ·have hj':¬j=k:=λe=>hj e.symm
   rw[if_neg hj]
   rcases Nat.lt_or_ge j n with h2|h2
   ·simp[h2,kT,hj']
   ·rw[List.getElem?_eq_none (by simpa using h2),List.getElem?_eq_none<|by simpa using h2]
 simp only[e]
theorem af2:(aD n (λ_=>false) 0 0 0 0 [] false).add (pY 0 0 2 0) 0=aD (n+1) (λ_=>false) 0 0 0 0 [] false:=by
 show({ aD n (λ_=>false) 0 0 0 0 [] false with ob:=_,fi:=_,nx:=_,sp:=_ }:SD)=_
 unfold aD
 simp only[List.range_succ,List.map_append,List.map_cons,List.map_nil]
 rfl
def jL (n:Nat)(tp:Nat->Bool):Nat:=((List.range n).filter tp).length
theorem aaO:jL (n+1) tp=jL n tp+(tp n).toNat:=by
 unfold jL
 rw[List.range_succ,List.filter_append,List.length_append]
 cases h:tp n<;>simp[h]
theorem abd:jL n tp<=n:=by
 unfold jL
 exact Nat.le_trans (List.length_filter_le ..)<|by simp
theorem aak:jL n (λ_=>false)=0:=by simp[jL]
theorem ad9 {k:Nat}(h:k<n)(hk:tp k=false):jL n (λj=>decide (j=k)||tp j)=jL n tp+1:=by
 induction n with
 | zero=>omega
 | succ n ih=>
  rw[aaO,aaO]
  by_cases hn:n=k
  ·subst hn
   have:jL n (λj=>decide (j=n)||tp j)=jL n tp:=by
    unfold jL
    rw[List.filter_congr]
    intro x hx
    have:=List.mem_range.1 hx
    simp[show¬x=n by omega]
   rw[this,hk]
   simp
  ·have:=ih (by omega)
   rw[this]
   simp[hn]
   omega
structure afn (P:Program)(K:Orc)(F:Nat->FuncId):Prop where
 w:∀s,bB P K (F 412) [] s<|λv s'=>v=.bool true/\s'=s
 new:∀(c z:Int)s,0<=c/\c<=3->1<=z/\z<=2->bB P K (F 201) [.agg (cr 1 0 c z 0 Pu)] s (λv s'=>v=iv 0/\s'=s)
 cast0:∀s,bB P K (F 201) [.agg (cr 28 0 0 0 0 Pu)] s<|λv s'=>v=iv 0/\s'=s
 cast:∀(k o n:Int)s,1<=k/\k<=2->1<=o/\o<=3->0<=n/\n<=1->bB P K (F 201) [.agg (cr 28 0 0 n 0 ⟨0,k,0,o,0,0,[],nilS⟩)] s (λv s'=>v=iv 0/\s'=s)
 aaV:∀(p:Int)kv s,0<=p/\p<=1->Kv s kv [⟨p,0⟩]->bB P K (F 201) [.agg (cr 28 0 0 1 0 ⟨0,1,0,1,0,0,[⟨p,0⟩],kv⟩)] s (λv s'=>v=iv 0/\s'=s)
 tap:∀(a:Int)s,4<=a/\a<=9->bB P K (F 201) [.agg (cr 3 a 0 1 0 Pu)] s (λv s'=>v=iv 0/\s'=s)
 mana:∀(x:Int)s,-1<=x/\x<=1->bB P K (F 201) [.agg (cr 8 0 0 x 0 Pu)] s (λv s'=>v=iv 0/\s'=s)
 move:∀(a:Int)s,1<=a/\a<=2->bB P K (F 201) [.agg (cr 2 a 5 0 0 Pu)] s (λv s'=>v=iv 0/\s'=s)
 push:∀(o:Int)s,1<=o/\o<=1000->bB P K (F 201) [.agg (cr 15 0 0 0 0 ⟨0,1,0,o,2,0,[],nilS⟩)] s (λv s'=>v=iv 0/\s'=s)
 aa4:∀(p o:Int)kv s,0<=p/\p<=1->1<=o/\o<=1000->Kv s kv [⟨p,0⟩]->bB P K (F 201) [.agg (cr 15 0 0 0 0 ⟨0,1,0,o,1,0,[⟨p,0⟩],kv⟩)] s (λv s'=>v=iv 0/\s'=s)
 can:∀(x:Nat)(w:Bool)s,x<=6->bB P K (F 449) [.agg [iv (.ofNat x),iv 0,iv 0,iv 0],.agg [iv (if w then 1 else 0),iv 0,iv 0,iv<|if w then 0 else 1]] s (λv s'=>v=.bool (decide<|1<=x)/\s'=s)
 pay:∀(x:Nat)(w:Bool)s,1<=x->x<=6->bB P K (F 452) [.agg [iv (.ofNat x),iv 0,iv 0,iv 0],.agg [iv (if w then 1 else 0),iv 0,iv 0,iv<|if w then 0 else 1]] s (λv s'=>v=.tuple [.agg [iv (.ofNat x-1),iv 0,iv 0,iv 0],iv 0]/\s'=s)
structure AEnv (P:Program)(K:Orc)(F:Nat->FuncId)(T:Nat->TypeId)(tF:TypeId):Prop where
 hB:Base P K F T
 hC:BaseC P K F T
 hG:BaseG P K F T
 hT:TyC P T
 hM:gA P F tF
 hU:BaseU P K F T
 hI:BaseB P K F T
 info:meth P tF "Info"=some (F 58)
 t128:Ty P (T 128) 13
 hQ:BaseQ P K F T
 hv:meth P tF "Having"=some (F 346)
 do_:meth P tF "Do"=some (F 15)
 cf:meth P tF "Config"=some (F 345)
 it:BaseI P K F T
 hR:BaseR P K F T
 hX:BaseX P K F T
 mv:BaseM P K F T
 h264:FnK P K (F 264) 15 [] (aeI F T)
 ac:BaseAc P K F T
 ab:BaseAb P K F T
 sm:BaseAs P K F T
 t24:Ty P (T 24) 5
 t27:isAggT P (T 27)=some false/\size? P (T 27)=some 1
 t420:Ty P (T 420) 27
 t431:Ty P (T 431) 11
 says:afn P K F
structure gK (C:List CD)(tl:AD->List Nat):Prop where
 ex:∃h b r x a1 a3,C=[h,b,r,x]/\(h.kind=1/\h.n6=0/\h.ab=[])/\(b.kind=3/\(b.n2,b.n3,b.n4,b.n5)=(1,0,0,0)/\b.ab=[a1])/\(r.kind=2/\(r.n2,r.n3,r.n4,r.n5)=(0,0,0,1)/\r.ab=[])/\(x.kind=4/\x.ab=[a3]) /\
  (a1.kind≠4/\tl a1=[3])/\(a3.kind≠4/\tl a3=[1])/\(∀c∈C,aao 3 6 c=false)
theorem gK.len (h:gK C tl):C.length=4:=by
 obtain⟨_,_,_,_,_,_,rfl,_⟩:=h.ex
 rfl
theorem AEnv.ge (N:AEnv P K F T tF)(hP:gK C tl)(hd:d.Small)(he:d.kQ)(hcd:∀o∈d.ob,∃j:Nat,o.gt=.ofNat j/\j<4)(hnb:∀id o c,d.onF C id=some (o,c)->c.kind≠2):GE P K F T tF (λ_ c=>c) C d where
 hB:=N.hB
 hC:=N.hC
 hG:=N.hG
 hT:=N.hT
 hM:=N.hM
 hU:=N.hU
 hI:=N.hI
 info:=N.info
 t128:=N.t128
 hd:=hd
 he:=he
 hO:=⟨λo ho=>by rw[hP.len];exact hcd o ho,hnb⟩
theorem ahV:∀o∈(aD n tp m ck co ca ct py).ob,∃j:Nat,o.gt=.ofNat j/\j<4:=λo ho=>by
 rcases ad4 ho with rfl|rfl|rfl|⟨k,_,rfl⟩
 ·exact⟨1,rfl,by decide⟩
 ·exact⟨2,rfl,by decide⟩
 ·exact⟨3,rfl,by decide⟩
 ·exact⟨0,rfl,by decide⟩
theorem act {id:Int}{o:OD}{c:CD}(hP:gK C tl)(hf:∀id∈d.fi,d.obj id=some AZ\/∃tp k,d.obj id=some (kT tp k))(h:d.onF C id=some (o,c)):c.kind≠2:=by
 obtain⟨hc,bc,rc,xc,a1,a3,rfl,h1,h2,h3,h4,h5,h6,_⟩:=hP.ex
 unfold SD.onF at h
 split at h
 ·cases h
 ·rename_i i hi
  split at h
  ·rename_i hid
   split at h
   ·cases h
   ·rename_i o' ho
    split at h
    ·cases h
    ·split at h
     ·cases h
     ·rename_i c' uz
      have e:d.obj id=some o':=by unfold SD.obj;rw[hi];exact ho
      have e2:c'=c:=(Prod.mk.inj<|Option.some.inj h).2
      subst e2
      rcases hf id hid with h0|⟨tp,k,h0⟩<;>rw[e]at h0<;>cases h0<;>cases uz
      ·rw[h4.1];decide
      ·rw[h1.1];decide
  ·cases h
theorem ahW (hP:gK C tl):∀id o c,(Ev.aD n tp m ck co ca ct py).onF C id=some (o,c)->c.kind≠2:=λid o c h=>
 act hP (λid hid=>by
  rcases ad2 hid with rfl|⟨k,hk,rfl⟩
  ·exact .inl aaC
  ·exact .inr ⟨tp,k,aas hk⟩) h
theorem AEnv.aD (N:AEnv P K F T tF)(hP:gK C tl)(hn:n<=6)(hc:ct.length<=1):GE P K F T tF (λ_ c=>c) C (aD n tp m ck co ca ct py):=
 N.ge hP (kM hn<|by omega) YR ahV (ahW hP)
theorem abj {x:TG}:(x∈dT (λ_ c=>c) (Ev.aD n tp m ck co ca ct py) C 3 0->x=⟨0,0⟩\/x=⟨1,0⟩)/\¬x∈dT (λ_ c=>c) (Ev.aD n tp m ck co ca ct py) C 1 0:=by
 have key:¬x∈fieldT (Ev.aD n tp m ck co ca ct py) (gY (λ_ c=>c) (Ev.aD n tp m ck co ca ct py) C 0) (Ev.aD n tp m ck co ca ct py).fi:=by
  intro hx
  obtain⟨id,_,hx⟩:=List.mem_filterMap.1 hx
  split at hx
  ·cases hx
  ·cases hx
 refine⟨λhx=>?_,key⟩
 rcases List.mem_append.1 (show x∈playersT (Ev.aD n tp m ck co ca ct py) 2++_ from hx)with hx|hx
 ·have e:playersT (Ev.aD n tp m ck co ca ct py) 2=[⟨0,0⟩,⟨1,0⟩]:=rfl
  rw[e]at hx
  simpa using hx
 ·exact absurd hx key
theorem ad3 (hP:gK C tl){q:Bool}{id:Int}(h:id∈kN (Ev.aD n tp m ck co ca ct py) C 0 q (Ev.aD n tp m ck co ca ct py).fi):q=true/\∃k,k<n/\id=gW k/\tp k=false:=by
 obtain⟨hc,bc,rc,xc,a1,a3,rfl,h1,h2,h3,h4,h5,h6,_⟩:=hP.ex
 obtain⟨hid,hx⟩:=List.mem_filter.1 h
 rw[Bool.and_eq_true]at hx
 refine⟨hx.1,?_⟩
 have hx:=hx.2
 rcases ad2 hid with rfl|⟨k,hk,rfl⟩
 ·unfold aaX at hx
  rw[aaC]at hx
  have:P0 0 AZ xc=false:=by simp[P0,h4.1]
  exact Bool.noConfusion<|this.symm.trans<|show P0 0 AZ xc=true from hx
 ·refine⟨k,hk,rfl,?_⟩
  unfold aaX at hx
  rw[aas hk]at hx
  have hx:P0 0 (kT tp k) hc=true:=hx
  cases ht:tp k with
  | false=>rfl
  | true=>simp[P0,ht]at hx
structure aa7 (P:Program)(K:Orc)(F:Nat->FuncId)(tF:TypeId)(bf bl:Nat)(t:SH)(d:SD)(ck co ca:Int)(o:OD)(am:AV)(n0 n1 n2 n3:Int)(tp:Bool)(ks:List Nat):Prop where
 of:∀EL kv py x,(∃s0 L0,Src s0 2 kv L0)->OfK P K F tF bf bl EL d (x++t) ck co ca kv py (cN ck co ca kv py (gm tF bf) d.pr o am n0 n1 n2 n3 tp) true
 aim:Src t 1 am (nR<|ks.map Int.ofNat)
 k8:∀k∈ks,k=1\/k=3
variable {o:OD}{am:AV}{n0:Int}{n1:Int}{n2:Int}{n3:Int}{tap:Bool}{ks:List Nat}
theorem kj.up (hm:kj bf bl aZ ap c0 c1 c2 c3 c4 C tl t)(x:SH):kj bf bl aZ ap c0 c1 c2 c3 c4 C tl (x++t):=hm.mono λp hp=>List.mem_append_right _ hp
theorem aH.asc {x y:SH}(h:aH bl EL d (x++(y++t)) s):aH bl EL d ((x++y)++t) s:=by rw[List.append_assoc];exact h
theorem adx (N:AEnv P K F T tF)(hP:gK C tl)(hm:kj bf bl aZ ap c0 c1 c2 c3 c4 C tl t)(hn:n<=6)(hc:ct.length<=1):∃am,aa7 P K F tF bf bl t (aD n tp m ck co ca ct py) 1 1 0 tf am 1 0 0 0 false [3]:=by
 obtain⟨h,b,r,x,a1,a3,hC,h1,h2,h3,h4,h5,h6,_⟩:=hP.ex
 have hb:C[1]?=some b:=by rw[hC];rfl
 have hbm:b∈C:=List.mem_of_getElem? hb
 have e:zt b=a1.tg:=by unfold zt;rw[if_pos h2.1,h2.2.2]
 have hq:=h2.2.1
 simp only[Prod.mk.injEq]at hq
 have hN:=N.aD hP hn hc (tp:=tp) (m:=m) (ck:=ck) (co:=co) (ca:=ca) (py:=py)
 refine⟨a1.tg,λEL kv py x⟨s0,L0,h0⟩y s hs=>?_,?_,?_⟩
 ·have:=aa2 hN N.ac N.t420 (hm.up<|y++x) hs.asc (ca:=0) (py:=py) h0 (o:=tf) (c:=b) (k:=1) adk rfl hb rfl
  rw[e,hq.1,hq.2.1,hq.2.2.1,hq.2.2.2]at this
  exact this.post λv s'⟨h1,h2⟩=>⟨h1,by rw[<- List.append_assoc];exact h2⟩
 ·have:=(hm.htg b hbm a1 (by rw[h2.2.2];exact List.mem_cons_self ..)).1
  rw[h5.2]at this
  exact this
 ·intro k hk
  rw[List.mem_singleton.1 hk]
  decide
theorem afO (N:AEnv P K F T tF)(hP:gK C tl)(hm:kj bf bl aZ ap c0 c1 c2 c3 c4 C tl t)(hn:n<=6)(hc:ct.length<=1):∃am,aa7 P K F tF bf bl t (aD n tp m ck co ca ct py) 1 2 0 sT am 0 0 0 1 false []:=by
 obtain⟨h,b,r,x,a1,a3,hC,h1,h2,h3,h4,h5,h6,_⟩:=hP.ex
 have hb:C[2]?=some r:=by rw[hC];rfl
 have e:zt r=nilS:=by unfold zt;rw[if_neg (by rw[h3.1];decide)]
 have hq:=h3.2.1
 simp only[Prod.mk.injEq]at hq
 have hN:=N.aD hP hn hc (tp:=tp) (m:=m) (ck:=ck) (co:=co) (ca:=ca) (py:=py)
 refine⟨nilS,λEL kv py x⟨s0,L0,h0⟩y s hs=>?_,.nil,λk hk=>nomatch hk⟩
 have:=aa2 hN N.ac N.t420 (hm.up<|y++x) hs.asc (ca:=0) (py:=py) h0 (o:=sT) (c:=r) (k:=2) adl rfl hb rfl
 rw[e,hq.1,hq.2.1,hq.2.2.1,hq.2.2.2]at this
 exact this.post λv s'⟨h1,h2⟩=>⟨h1,by rw[<- List.append_assoc];exact h2⟩
theorem afP (N:AEnv P K F T tF)(hP:gK C tl)(hm:kj bf bl aZ ap c0 c1 c2 c3 c4 C tl t)(hn:n<=6)(hc:ct.length<=1):∃am n0 n1 n2 n3 tap,aa7 P K F tF bf bl t (aD n tp m ck co ca ct py) 2 3 0 AZ am n0 n1 n2 n3 tap [1]:=by
 obtain⟨h,b,r,x,a1,a3,hC,h1,h2,h3,h4,h5,h6,_⟩:=hP.ex
 have hb:C[3]?=some x:=by rw[hC];rfl
 have hbm:x∈C:=List.mem_of_getElem? hb
 have hN:=N.aD hP hn hc (tp:=tp) (m:=m) (ck:=ck) (co:=co) (ca:=ca) (py:=py)
 refine⟨a3.tg,a3.n3,a3.n4,a3.n5,a3.n6,a3.tap,λEL kv py x'⟨s0,L0,h0⟩y s hs=>?_,?_,?_⟩
 ·have:=adQ hN N.ac N.t420 (hm.up<|y++x') hs.asc (py:=py) h0 (o:=AZ) (c:=x) (k:=3) aaC rfl hb rfl (j:=0) rfl (a:=a3) (by rw[h4.2];rfl)
  exact this.post λv s'⟨h1,h2⟩=>⟨h1,by rw[<- List.append_assoc];exact h2⟩
 ·have:=(hm.htg x hbm a3 (by rw[h4.2];exact List.mem_cons_self ..)).1
  rw[h6.2]at this
  exact this
 ·intro k hk
  rw[List.mem_singleton.1 hk]
  decide
theorem aa7.up (hp:aa7 P K F tF bf bl t d ck co ca o am n0 n1 n2 n3 tap ks)(x:SH):aa7 P K F tF bf bl (x++t) d ck co ca o am n0 n1 n2 n3 tap ks where
 of EL kv py y h0:=by
  have:=hp.of EL kv py (y++x) h0
  rwa [List.append_assoc]at this
 aim:=hp.aim.mono λp hp=>List.mem_append_right _ hp
 k8:=hp.k8
theorem aiD (hE:GE P K F T tF g C d)(hA:BaseAc P K F T)(hm:kj bf bl aZ ap c0 c1 c2 c3 c4 C tl t)(hp:aa7 P K F tF bf bl t d d.ck d.co d.ca o am n0 n1 n2 n3 tap ks)(hall:∀id∈d.fi,∃o k c,d.obj id=some o/\o.gt=.ofNat k/\C[k]?=some c)(hp0:0<d.pl.length)(hfi:d.fi.length<=1000)
  {kind:Nat} (hk:ks[d.ct.length]?=some kind) (hlen:(dT g d C (.ofNat kind) d.pr).length<=5000) (hs:aH bl EL d t s) :
  bB P K (F 409) [gm tF bf] s (λv s'=>∃m,aH bl EL d (m++t) s'/\Src m 3 v (V1<|ocT (dT g d C (.ofNat kind) d.pr)++([]++([]++[⟨6,0,0⟩])))):=by
 have hlt:d.ct.length<ks.length:=(List.getElem?_eq_some_iff.1 hk).1
 have e:decide ((nR<|ks.map Int.ofNat).length<=(yu d.ct).length)=false:=decide_eq_false (by rw[sd];simp[nR];omega)
 refine aaq hE hA hm.hf hs (λkv⟨s0,h0⟩=>hp.of EL kv _ [] ⟨s0,_,h0⟩) (λkv⟨s0,h0⟩=>aad.of λfr s' hs'=>c6.func ?_) (λkv⟨s0,h0⟩=>aad.of λfr s' hs'=>c6.func ?_) (λkv⟨s0,h0⟩=>aad.of λfr s' hs'=>c6.func ?_) (by show(ocT _).length+0+0<=8000;rw[ocT,List.length_map];omega)
 ·exact abb hE hA (hm.up fr) hs' h0 (hp.up fr).aim (by rw[sd];exact hk) (hp.k8 _<|List.mem_of_getElem? hk)
 ·exact(aa9 hA h0 hp.aim (by rw[sd];simp[nR];omega)).post λv s'⟨h1,m,h2⟩=>⟨m,by rw[h2];exact hs'.HW,by rw[h1];exact .nil⟩
 ·refine(aaY hE hA (hm.up fr) hs' (me:=d.pr) h0 hp.aim hp0 hall).post λv s'⟨m,h1,h2⟩=>⟨m,h1,?_⟩
  rw[e]at h2
  have e2:kN d C d.pr false d.fi=[]:=by unfold kN;simp
  rw[e2]at h2
  exact h2
theorem akT (N:AEnv P K F T tF)(hE:GE P K F T tF g C d)(hm:kj bf bl aZ ap c0 c1 c2 c3 c4 C tl t)(hp:aa7 P K F tF bf bl t d d.ck d.co d.ca o am n0 n1 n2 n3 false ks)(hall:∀id∈d.fi,∃o k c,d.obj id=some o/\o.gt=.ofNat k/\C[k]?=some c)(hp0:0<d.pl.length)(hfi:d.fi.length<=1000)
  (hk:ks.length<=d.ct.length) {p:Nat} {lp:LD} {bb:Bool} (hpr:d.pr=.ofNat p) (hlp:d.pl[p]?=some lp) (hst:d.st=[]) (hc1:1<=c1)
  (hcan:∀s,bB P K (F 449) [.agg [iv lp.m0,iv lp.m1,iv lp.m2,iv lp.m3],.agg [iv n0,iv n1,iv n2,iv n3]] s<|λv s'=>v=.bool bb/\s'=s) (hs:aH bl EL d t s) :
  bB P K (F 409) [gm tF bf] s (λv s'=>∃m,aH bl EL d (m++t) s'/\Src m 3 v (V1<|[]++((if bb then [⟨7,0,0⟩]else [])++(ocL (kN d C d.pr true d.fi)++[⟨6,0,0⟩])))):=by
 have e:decide ((nR<|ks.map Int.ofNat).length<=(yu d.ct).length)=true:=decide_eq_true (by rw[sd];simpa[nR]using hk)
 have hle:(nR<|ks.map Int.ofNat).length<=(yu d.ct).length:=of_decide_eq_true e
 refine aaq hE N.ac hm.hf hs (λkv⟨s0,h0⟩=>hp.of EL kv _ [] ⟨s0,_,h0⟩) (λkv⟨s0,h0⟩=>aad.of λfr s' hs'=>c6.func ?_) (λkv⟨s0,h0⟩=>aad.of λfr s' hs'=>c6.func ?_) (λkv⟨s0,h0⟩=>aad.of λfr s' hs'=>c6.func ?_) ?_
 ·exact(aba N.ac h0 hp.aim hle).post λv s'⟨h1,m,h2⟩=>⟨m,by rw[h2];exact hs'.HW,by rw[h1];exact .nil⟩
 ·exact abF hE N.ac N.cf N.t24 (hm.up fr).hf hs' h0 hp.aim hle hpr hlp hst hc1 hcan
 ·refine(aaY hE N.ac (hm.up fr) hs' (me:=d.pr) h0 hp.aim hp0 hall).post λv s'⟨m,h1,h2⟩=>⟨m,h1,?_⟩
  rw[e]at h2
  exact h2
 ·have h1:(kN d C d.pr true d.fi).length<=d.fi.length:=List.length_filter_le ..
  cases bb<;>simp[ocL]<;>omega
@[reducible] def aiG (w:Bool):OD:=if w then sT else tf
@[reducible] def aiF (w:Bool):Int:=if w then 2 else 1
@[reducible] def mvO (n:Nat)(w:Bool):OD:=⟨.ofNat (n+4),if w then 1 else 2,0,0,5,false,false,false,0,0,0,0,false⟩
def qD (n:Nat)(tp:Nat->Bool)(m:Int)(w:Bool)(ck co ca:Int)(ct:List TG)(py:Bool)(nx:Int)(st:List ID):SD:=
 { d00 with pl:=[P1 m,P1 0],ob:=aiG w::AZ::((List.range n).map (kT tp)++[mvO n w]),hd:=[[aiF w],[]],fi:=3::(List.range n).map gW,nx:=nx,sp:=.ofNat<|n+2,ck:=ck,co:=co,ca:=ca,ct:=ct,py:=py,st:=st }
variable {nx:Int}{w:Bool}{st:List ID}
theorem ac9 {k:Nat}(h:k<n):(qD n tp m w ck co ca ct py nx st).ob[k+2]?=some (kT tp k):=by
 show((List.range n).map (kT tp)++[mvO n w])[k]?=_
 rw[List.getElem?_append_left (by simpa using h)]
 simp[h]
theorem afb {k:Nat}(h:k<n):(qD n tp m w ck co ca ct py nx st).find (gW k)=some (k+2):=by
 unfold SD.find
 rw[List.findIdx?_eq_some_iff_getElem]
 have hl:(qD n tp m w ck co ca ct py nx st).ob.length=n+3:=by simp[qD]
 have hne:∀j:Nat,j<4->decide ((.ofNat j:Int)=gW k)≠true:=λj hj h=>by have:=Int.ofNat.inj (of_decide_eq_true h);omega
 refine⟨by omega,?_,λj hj=>?_⟩
 ·have:=(List.getElem?_eq_some_iff.1<|ac9 (tp:=tp) (m:=m) (ck:=ck) (co:=co) (ca:=ca) (ct:=ct) (py:=py) (w:=w) (nx:=nx) (st:=st) h).2
  rw[this]
  exact decide_eq_true rfl
 ·match j,hj with
  | 0,_=>cases w<;>first | exact hne 1 (by omega) | exact hne 2<|by omega
  | 1,_=>exact hne 3<|by omega
  | j+2,hj=>
   have:=(List.getElem?_eq_some_iff.1<|ac9 (n:=n) (tp:=tp) (m:=m) (ck:=ck) (co:=co) (ca:=ca) (ct:=ct) (py:=py) (w:=w) (nx:=nx) (st:=st) (k:=j)<|by omega).2
   rw[this]
   exactλh=>by have:=Int.ofNat.inj (of_decide_eq_true h);omega
theorem ada {k:Nat}(h:k<n):(qD n tp m w ck co ca ct py nx st).obj (gW k)=some (kT tp k):=by
 unfold SD.obj
 rw[afb h]
 exact ac9 h
theorem abh:(qD n tp m w ck co ca ct py nx st).obj 3=some AZ:=by cases w<;>rfl
theorem afU {o:OD}(h:o∈(qD n tp m w ck co ca ct py nx st).ob):o=aiG w\/o=AZ\/o=mvO n w\/∃k,k<n/\o=kT tp k:=by
 rcases List.mem_cons.1 h with h|h
 ·exact .inl h
 rcases List.mem_cons.1 h with h|h
 ·exact .inr<|.inl h
 rcases List.mem_append.1 h with h|h
 ·obtain⟨k,hk,rfl⟩:=List.mem_map.1 h
  exact .inr<|.inr<|.inr ⟨k,List.mem_range.1 hk,rfl⟩
 ·exact .inr<|.inr<|.inl<|List.mem_singleton.1 h
theorem afS {id:Int}(h:id∈(qD n tp m w ck co ca ct py nx st).fi):id=3\/∃k,k<n/\id=gW k:=by
 rcases List.mem_cons.1 h with h|h
 ·exact .inl h
 obtain⟨k,hk,rfl⟩:=List.mem_map.1 h
 exact .inr ⟨k,List.mem_range.1 hk,rfl⟩
theorem ady:(qD n tp m w ck co ca ct py nx st).obj 0=none:=by
 unfold SD.obj
 have:(qD n tp m w ck co ca ct py nx st).find 0=none:=by
  unfold SD.find
  rw[List.findIdx?_eq_none_iff]
  intro x hx
  refine decide_eq_false λh=>?_
  rcases afU hx with rfl|rfl|rfl|⟨k,_,rfl⟩
  ·cases w<;>exact absurd h<|by decide
  ·exact absurd h<|by decide
  ·have h:Int.ofNat _=Int.ofNat 0:=h
   have:=Int.ofNat.inj h
   omega
  ·have h:Int.ofNat _=Int.ofNat 0:=h
   have:=Int.ofNat.inj h
   omega
 rw[this]
theorem aeM:(aD n tp m ck co ca ct py).obj 0=none:=by
 unfold SD.obj
 have:(aD n tp m ck co ca ct py).find 0=none:=by
  unfold SD.find
  rw[List.findIdx?_eq_none_iff]
  intro x hx
  refine decide_eq_false λh=>?_
  rcases ad4 hx with rfl|rfl|rfl|⟨k,_,rfl⟩
  ·exact absurd h<|by decide
  ·exact absurd h<|by decide
  ·exact absurd h<|by decide
  ·have h:Int.ofNat _=Int.ofNat 0:=h
   have:=Int.ofNat.inj h
   omega
 rw[this]
theorem AB (hn:n<=6)(hc:ct.length<=1000)(hs:st.length<=1/\∀x∈st,x.tg.length<=1000):(qD n tp m w ck co ca ct py nx st).Small where
 n1:=⟨(by decide:2<=1000),by simp[qD];omega,by simp[qD];omega,Nat.le_trans hs.1<|by decide,Nat.zero_le _⟩
 n2:=by
  intro LL h
  rcases h with rfl|rfl|rfl|rfl<;>exact⟨(by decide:2<=1000),λbX hl=>by rcases List.mem_cons.1 hl with rfl|hl<;>first|decide|exact(by decide:1<=1000)|(rcases List.mem_cons.1 hl with rfl|hl<;>first|decide|cases hl)⟩
 n3:=⟨hc,hs.2,(λx hx=>nomatch hx)⟩
theorem abg:(qD n tp m w ck co ca ct py nx st).kQ:=⟨rfl,rfl,rfl,rfl⟩
theorem aet:∀o∈(qD n tp m w ck co ca ct py nx st).ob,∃j:Nat,o.gt=.ofNat j/\j<4:=λo ho=>by
 rcases afU ho with rfl|rfl|rfl|⟨k,_,rfl⟩
 ·cases w
  ·exact⟨1,rfl,by decide⟩
  ·exact⟨2,rfl,by decide⟩
 ·exact⟨3,rfl,by decide⟩
 ·cases w
  ·exact⟨2,rfl,by decide⟩
  ·exact⟨1,rfl,by decide⟩
 ·exact⟨0,rfl,by decide⟩
theorem afT {C:List CD}{tl:AD->List Nat}(hP:gK C tl):∀id o c,(qD n tp m w ck co ca ct py nx st).onF C id=some (o,c)->c.kind≠2:=λid o c h=>
 act hP (λid hid=>by
  rcases afS hid with rfl|⟨k,hk,rfl⟩
  ·exact .inl abh
  ·exact .inr ⟨tp,k,ada hk⟩) h
theorem aeL:((aD n tp m ck (if w then 1 else 2) ca ct py).left (if w then 1 else 2) (if w then 0 else 1) 1 0).add (pX (if w then tf else sT) 5) 0=qD n tp m w ck (-1) ca ct py (.ofNat (n+5)) []:=by
 cases w<;>rfl
theorem aeK {k o j:Int}{tg:List TG}{kv:AV}{i:Int}(b:Bool)(hb:decide (j=1)=b):(aD n tp m ck co ca ct py).cast ⟨0,k,0,o,0,i,tg,kv⟩ j=aD n tp m k o i tg b:=by subst hb;rfl
theorem afe (N:AEnv P K F T tF)(hP:gK C tl)(hm:kj bf bl aZ ap c0 c1 c2 c3 c4 C tl t)(hn:n<=6)(hct:ct.length<=1)(hEL:EL.length<=5000)(hs:aH bl EL (aD n tp m ck co ca ct py) t s){k x:Int}(hp:aa7 P K F tF bf bl t (aD n tp m ck co ca ct py) k x 0 o am n0 n1 n2 n3 tap ks)
  {tg:List TG} {kv:AV} {py':Bool} (hkv:Kv t kv tg) (htg:tg.length<=1) {j:Int} {b:Bool} (hj:(if ks.length<=tg.length then 1 else 0)=j) (hb:decide (j=1)=b)
  (lm:∀s,Kv s kv tg->bB P K (F 201) [.agg (cr 28 0 0 j 0 ⟨0,k,0,x,0,0,tg,kv⟩)] s (λv s'=>v=iv 0/\s'=s)) :
  bB P K (F 419) [gm tF bf,.agg [iv k,iv x,iv 0,kv,.bool py']] s (λ_ s'=>∃row,aH bl (EL++[row]) (aD n tp m k x 0 tg b) t s'):=by
 have hN:=N.aD hP hn hct (tp:=tp) (m:=m) (ck:=ck) (co:=co) (ca:=ca) (py:=py)
 have e:(if(nR<|ks.map Int.ofNat).length<=tg.length then(1:Int)else 0)=j:=by rw[<- hj];simp[nR]
 rw[<- aeK (n:=n) (tp:=tp) (m:=m) (ck:=ck) (co:=co) (ca:=ca) (ct:=ct) (py:=py) (k:=k) (o:=x) (tg:=tg) (kv:=kv) (i:=0) b hb]
 refine adU hN N.ac N.do_ hm.hf hs hEL (hp.of EL kv _ [] ⟨_,_,hkv.src⟩) hkv (by omega) ⟨_,hp.aim⟩ ?_
 rw[e]
 exact abH N.hB N.ac (kM hn<|by omega) YR (by show tg.length<=901000;omega) lm
theorem ahY (N:AEnv P K F T tF)(hP:gK C tl)(hm:kj bf bl aZ ap c0 c1 c2 c3 c4 C tl t)(hn:n<=6)(hEL:EL.length<=5000)(hs:aH bl EL (aD n tp m 0 0 0 [] false) t s){ca:Int} :
  bB P K (F 408) [gm tF bf,.agg [iv 3,iv 1,iv ca]] s (λ_ s'=>∃row,aH bl (EL++[row]) (aD n tp m 1 1 0 [] false) t s'):=by
 obtain⟨am,hp⟩:=adx N hP hm hn (by decide:([]:List TG).length<=1) (tp:=tp) (m:=m) (ck:=0) (co:=0) (ca:=0) (py:=false)
 exact aan (N.aD hP hn<|by decide) N.ac hm.hf hs adk λx s hs=>afe N hP (hm.up x) hn (by decide) hEL hs (hp.up x) ⟨[],.nil,λp hp=>nomatch hp⟩ (by decide) rfl rfl λs _=>N.says.cast 1 1 0 s (by decide) (by decide)<|by decide
theorem ahZ (N:AEnv P K F T tF)(hP:gK C tl)(hm:kj bf bl aZ ap c0 c1 c2 c3 c4 C tl t)(hn:n<=6)(hEL:EL.length<=5000)(hs:aH bl EL (aD n tp m 0 0 0 [] false) t s){ca:Int} :
  bB P K (F 408) [gm tF bf,.agg [iv 3,iv 2,iv ca]] s (λ_ s'=>∃row,aH bl (EL++[row]) (aD n tp m 1 2 0 [] true) t s'):=by
 obtain⟨am,hp⟩:=afO N hP hm hn (by decide:([]:List TG).length<=1) (tp:=tp) (m:=m) (ck:=0) (co:=0) (ca:=0) (py:=false)
 exact aan (N.aD hP hn<|by decide) N.ac hm.hf hs adl λx s hs=>afe N hP (hm.up x) hn (by decide) hEL hs (hp.up x) ⟨[],.nil,λp hp=>nomatch hp⟩ (by decide) rfl rfl λs _=>N.says.cast 1 2 1 s (by decide) (by decide)<|by decide
theorem ah0 (N:AEnv P K F T tF)(hP:gK C tl)(hm:kj bf bl aZ ap c0 c1 c2 c3 c4 C tl t)(hn:n<=6)(hEL:EL.length<=5000)(hs:aH bl EL (aD n tp m 0 0 0 [] false) t s) :
  bB P K (F 408) [gm tF bf,.agg [iv 4,iv 3,iv 0]] s (λ_ s'=>∃row,aH bl (EL++[row]) (aD n tp m 2 3 0 [] false) t s'):=by
 obtain⟨am,n0,n1,n2,n3,tap,hp⟩:=afP N hP hm hn (by decide:([]:List TG).length<=1) (tp:=tp) (m:=m) (ck:=0) (co:=0) (ca:=0) (py:=false)
 exact abP (N.aD hP hn<|by decide) N.ac hm.hf hs aaC λx s hs=>afe N hP (hm.up x) hn (by decide) hEL hs (hp.up x) ⟨[],.nil,λp hp=>nomatch hp⟩ (by decide) rfl rfl λs _=>N.says.cast 2 3 0 s (by decide) (by decide)<|by decide
theorem acC (hP:gK C tl):∀id∈(aD n tp m ck co ca ct py).fi,∃o k c,(aD n tp m ck co ca ct py).obj id=some o/\o.gt=.ofNat k/\C[k]?=some c:=by
 obtain⟨h,b,r,x,a1,a3,rfl,_⟩:=hP.ex
 intro id hid
 rcases ad2 hid with rfl|⟨k,hk,rfl⟩
 ·exact⟨AZ,3,x,aaC,rfl,rfl⟩
 ·exact⟨kT tp k,0,h,aas hk,rfl,rfl⟩
theorem ajv (N:AEnv P K F T tF)(hP:gK C tl)(hm:kj bf bl aZ ap c0 c1 c2 c3 c4 C tl t)(hn:n<=6)(hEL:EL.length<=5000)(hs:aH bl EL (aD n tp m 1 1 0 [] false) t s){L:List OC}(hL:L.length<=9000)
  (p8:∀x s,aH bl EL (aD n tp m 1 1 0 [] false) (x++t) s->bB P K (F 409) [gm tF bf] s (λv s'=>∃m',aH bl EL (aD n tp m 1 1 0 [] false) (m'++(x++t)) s'/\Src m' 3 v (V1 L))) {p:Int} (Gu:0<=p/\p<=1) (hmem:(⟨5,p,0⟩:OC)∈L) :
  bB P K (F 410) [gm tF bf,.agg [iv 5,iv p,iv 0]] s (λv s'=>v=.bool false/\∃E2,(∃row,E2=EL++[row])/\aH bl E2 (aD n tp m 1 1 0 [⟨p,0⟩] true) t s'):=by
 obtain⟨am,hp⟩:=adx N hP hm hn (by decide:([]:List TG).length<=1) (tp:=tp) (m:=m) (ck:=1) (co:=1) (ca:=0) (py:=false)
 refine aaM (N.aD hP hn<|by decide) N.ac hm.hf hs p8 hL hmem (λkv⟨s0,h0⟩=>hp.of EL kv _ [] ⟨s0,_,h0⟩) λkv y s hkv hs=>?_
 obtain⟨og,hg,_⟩:=hkv
 obtain rfl:kv=nilS:=hg.agG
 refine(abR N.hB N.ac hs λkv x s hkv hs=>afe N hP ((hm.up y).up x) hn (by decide) hEL hs ((hp.up y).up x) hkv (Nat.le_refl 1) rfl rfl λs hk=>N.says.aaV p kv s Gu hk).post ?_
 rintro v s' ⟨h1,row,h2⟩
 exact⟨h1,_,⟨row,rfl⟩,h2⟩
theorem af5 (hE:GE P K F T tF g C d)(N:AEnv P K F T tF)(hm:kj bf bl aZ ap c0 c1 c2 c3 c4 C tl t)(hs:aH bl EL d t s)(hp:aa7 P K F tF bf bl t d d.ck d.co d.ca o am n0 n1 n2 n3 tap ks){L:List OC}(hL:L.length<=9000)
  (p8:∀x s,aH bl EL d (x++t) s->bB P K (F 409) [gm tF bf] s (λv s'=>∃m',aH bl EL d (m'++(x++t)) s'/\Src m' 3 v (V1 L))) (hmem:(⟨6,0,0⟩:OC)∈L) :
  bB P K (F 410) [gm tF bf,.agg [iv 6,iv 0,iv 0]] s (λv s'=>v=.bool false/\aH bl EL d t s'):=
 aaL (bb:=false) (d2:=d) (PE:=λ_=>True) hE N.ac hm.hf hs p8 hL hmem λkv⟨s0,h0⟩=>hp.of EL kv _ [] ⟨s0,_,h0⟩
theorem ajt (N:AEnv P K F T tF)(hP:gK C tl)(hm:kj bf bl aZ ap c0 c1 c2 c3 c4 C tl t)(hn:n<=6)(hct:ct.length<=1)(hEL:EL.length<=4000)(hs:aH bl EL (aD n tp m ck co ca ct py) t s)(hp:aa7 P K F tF bf bl t (aD n tp m ck co ca ct py) ck co ca o am n0 n1 n2 n3 tap ks){L:List OC}(hL:L.length<=9000)
  (p8:∀x s,aH bl EL (aD n tp m ck co ca ct py) (x++t) s->bB P K (F 409) [gm tF bf] s (λv s'=>∃m',aH bl EL (aD n tp m ck co ca ct py) (m'++(x++t)) s'/\Src m' 3 v (V1 L))) {k:Nat} (hk:k<n) (htk:tp k=false) (hm0:0<=m/\m<=900) (hmem:(⟨8,gW k,0⟩:OC)∈L) :
  bB P K (F 410) [gm tF bf,.agg [iv 8,iv<|gW k,iv 0]] s (λv s'=>v=.bool false/\∃E2,(∃r1 r2,E2=(EL++[r1])++[r2])/\aH bl E2 (aD n (λj=>decide (j=k)||tp j) (m+1) ck co ca ct py) t s'):=by
 obtain⟨h,b,r,x,a1,a3,hC,h1,h2,h3,h4,h5,h6,_⟩:=hP.ex
 have hN:=N.aD hP hn hct (tp:=tp) (m:=m) (ck:=ck) (co:=co) (ca:=ca) (py:=py)
 have hA1:Ap P K F 3 (gW k) 0 1 0 Pu (aD n tp m ck co ca ct py) (aD n (λj=>decide (j=k)||tp j) m ck co ca ct py):=by
  rw[<- af3 hk (decide<|(1:Int)=1) (by decide)]
  exact ad6 N.hB N.hX (kM hn<|by omega) YR (adj hk) (abM hk) rfl λs=>N.says.tap _ s ⟨Int.ofNat_le.2 (by omega:4<=k+4),Int.ofNat_le.2 (by omega:k+4<=9)⟩
 have hA2:Ap P K F 8 0 0 1 0 Pu (aD n (λj=>decide (j=k)||tp j) m ck co ca ct py) (aD n (λj=>decide (j=k)||tp j) (m+1) ck co ca ct py):=
  abI (p:=0) (j:=0) (o:=P1 m) N.hB N.h264 N.hR (kM hn<|by omega) YR rfl (by decide) (by show 0<=m+1/\m+1<=999;omega) λs=>N.says.mana 1 s<|by decide
 refine abC hN N.ac hm.hf hs p8 hL hmem (λkv⟨s0,h0⟩=>hp.of EL kv _ [] ⟨s0,_,h0⟩) λkv y s hkv hs=>?_
 refine(acV (d1:=aD n (λj=>decide (j=k)||tp j) m ck co ca ct py) (d2:=aD n (λj=>decide (j=k)||tp j) (m+1) ck co ca ct py) (E1:=EL++[cr 3 (gW k) 0 1 0 Pu]) (E2:=(EL++[cr 3 (gW k) 0 1 0 Pu])++[cr 8 0 0 1 0 Pu]) (ox:=kT tp k) (c:=h) (k:=0) hN N.ac N.do_ (hm.up y) hs (aas hk) rfl (by rw[hC];rfl) (λx s hs=>?_)<|λx s hs=>?_).post λv s'⟨q1,q2⟩=>⟨q1,_,⟨_,_,rfl⟩,q2⟩
 ·exact aaF N.hB hs (kM hn<|by omega) ((hm.up y).up x).hf (by omega) (by decide) (by decide) (by decide) (by decide) hA1
 ·rw[h1.2.1]
  exact aaF N.hB hs (kM hn<|by omega) ((hm.up y).up x).hf (by simp;omega) (by decide) (by decide) (by decide) (by decide) hA2
theorem afQ (N:AEnv P K F T tF)(hP:gK C tl)(hm:kj bf bl aZ ap c0 c1 c2 c3 c4 C tl t)(hn:n<=6)(hc:ct.length<=1)(w:Bool):∃am,aa7 P K F tF bf bl t (aD n tp m ck co ca ct py) 1 (if w then 1 else 2) 0 (if w then tf else sT) am (if w then 1 else 0) 0 0 (if w then 0 else 1) false (if w then [3]else []):=by
 cases w
 ·exact afO N hP hm hn hc
 ·exact adx N hP hm hn hc
def CtA (w:Bool)(ct:List TG):Prop:=(w=true/\∃p:Int,(0<=p/\p<=1)/\ct=[⟨p,0⟩])\/(w=false/\ct=[])
theorem CtA.len {w:Bool}(h:CtA w ct):ct.length<=1:=by
 rcases h with⟨_,p,_,rfl⟩|⟨_,rfl⟩
 ·exact Nat.le_refl 1
 ·exact Nat.zero_le _
theorem CtA.obj {w:Bool}(h:CtA w ct):∀y∈ct,y.o=0:=by
 rcases h with⟨_,p,_,rfl⟩|⟨_,rfl⟩
 ·intro y hy
  rw[List.mem_singleton.1 hy]
 ·intro y hy
  cases hy
theorem st0:([]:List ID).length<=1/\∀x∈([]:List ID),x.tg.length<=1000:=⟨Nat.zero_le _,λx hx=>(List.not_mem_nil hx).elim⟩
theorem agF:(.ofNat (n+5):Int)-1=.ofNat (n+4):=by simp only[Int.ofNat_eq_natCast];omega
theorem af0 {w:Bool}:(aD n tp m ck co ca ct py).find (if w then 1 else 2)=some (if w then 0 else 1):=by
 cases w<;>rfl
theorem af1 {w:Bool}:(aD n tp m ck co ca ct py).ob[if w then 0 else 1]?=some (if w then tf else sT):=by
 cases w<;>rfl
theorem adw {w:Bool}:(if w then tf else sT).owner=.ofNat 0/\(if w then tf else sT).ci=1:=by
 cases w<;>exact⟨rfl,rfl⟩
theorem ahU {w:Bool}:∀y∈(aD n tp m ck co ca ct py).ob,y.block≠if w then 1 else 2:=by
 intro y hy
 rcases ad4 hy with rfl|rfl|rfl|⟨k,_,rfl⟩<;>show(0:Int)≠_<;>cases w<;>decide
@[reducible] def itA (n:Nat)(w:Bool)(tg:List TG):ID:=⟨.ofNat (n+5),1,0,.ofNat (n+4),if w then 1 else 2,0,tg,nilS⟩
theorem aju (N:AEnv P K F T tF)(hP:gK C tl)(hm:kj bf bl aZ ap c0 c1 c2 c3 c4 C tl t)(hn:n<=6)(hEL:EL.length<=4000){w:Bool}{x:Nat}(hx:1<=x/\x<=6)(hct:CtA w ct)(hs:aH bl EL (aD n tp (.ofNat x) 1 (if w then 1 else 2) 0 ct true) t s){L:List OC}(hL:L.length<=9000)
  (p8:∀y s,aH bl EL (aD n tp (.ofNat x) 1 (if w then 1 else 2) 0 ct true) (y++t) s->bB P K (F 409) [gm tF bf] s (λv s'=>∃m',aH bl EL (aD n tp (.ofNat x) 1 (if w then 1 else 2) 0 ct true) (m'++(y++t)) s'/\Src m' 3 v (V1 L))) (hmem:(⟨7,0,0⟩:OC)∈L) :
  bB P K (F 410) [gm tF bf,.agg [iv 7,iv 0,iv 0]] s (λv s'=>v=.bool true/\∃E2,(∃r1 r2 r3 r4,E2=(((EL++[r1])++[r2])++[r3])++[r4])/\aH bl E2 (qD n tp (.ofNat x+-1) w 0 0 0 [] false (.ofNat<|n+6) [itA n w ct]) t s'):=by
 have hc1:=hct.len
 have hN:=N.aD hP hn hc1 (tp:=tp) (m:=.ofNat x) (ck:=1) (co:=if w then 1 else 2) (ca:=0) (py:=true)
 obtain⟨am,hp⟩:=afQ N hP hm hn hc1 w (tp:=tp) (m:=.ofNat x) (ck:=1) (co:=if w then 1 else 2) (ca:=0) (py:=true)
 have hx9:(1:Int)<=.ofNat x/\(.ofNat x:Int)<=6:=⟨Int.ofNat_le.2 hx.1,Int.ofNat_le.2 hx.2⟩
 have hA1:Ap P K F 8 0 0 (-1) 0 Pu (aD n tp (.ofNat x) 1 (if w then 1 else 2) 0 ct true) (aD n tp (.ofNat x+-1) 1 (if w then 1 else 2) 0 ct true):=
  abI (p:=0) (j:=0) (o:=P1<|.ofNat x) N.hB N.h264 N.hR (kM hn<|by omega) YR rfl (by decide) (by show 0<=(.ofNat x:Int)+-1/\(.ofNat x:Int)+-1<=999;omega) λs=>N.says.mana (-1) s<|by decide
 have hA2:Ap P K F 2 (if w then 1 else 2) 5 0 0 Pu (aD n tp (.ofNat x+-1) 1 (if w then 1 else 2) 0 ct true) (qD n tp (.ofNat x+-1) w 1 (-1) 0 ct true (.ofNat<|n+5) []):=by
  rw[<- aeL]
  have hq:Ap P K F 2 (if w then 1 else 2) 5 0 0 Pu (aD n tp (.ofNat x+-1) 1 (if w then 1 else 2) 0 ct true) (((aD n tp (.ofNat x+-1) 1 (if w then 1 else 2) 0 ct true).left (if w then 1 else 2) (if w then 0 else 1) (if w then tf else sT).ci 0).add (pX (if w then tf else sT) 5) 0):=
   acF N.hB N.mv (kM hn<|by omega) YR af0 af1 (by decide:0<2) adw.1 rfl rfl (λy hy=>by rw[hct.obj y hy];cases w<;>decide) ahU
    ⟨Int.natCast_nonneg _,Int.ofNat_le.2 (by omega:n+4<=1000000)⟩ ⟨Int.natCast_nonneg _,Int.ofNat_le.2 (by omega:n+2<=1000000)⟩ λs=>N.says.move _ s (by cases w<;>decide)
  rw[adw.2]at hq
  exact@hq
 have hA3:Ap P K F 28 0 0 0 0 Pu (qD n tp (.ofNat x+-1) w 1 (-1) 0 ct true (.ofNat<|n+5) []) (qD n tp (.ofNat x+-1) w 0 0 0 [] false (.ofNat<|n+5) []):=
  abH N.hB N.ac (AB hn (by omega) st0) abg (by decide) λs _=>N.says.cast0 s
 have hA4:∀kv,Ap P K F 15 0 0 0 0 ⟨0,1,0,.ofNat<|n+4,if w then 1 else 2,0,ct,kv⟩ (qD n tp (.ofNat x+-1) w 0 0 0 [] false (.ofNat<|n+5) []) (qD n tp (.ofNat x+-1) w 0 0 0 [] false (.ofNat<|n+6) [itA n w ct]):=λkv=>
  adB N.hB N.it (AB hn (by decide) st0) abg ⟨Int.natCast_nonneg _,Int.ofNat_le.2 (by omega:n+5<=1000000)⟩ (by show ct.length<=_;omega) λs hk=>by
   rcases hct with⟨rfl,p,hpp,rfl⟩|⟨rfl,rfl⟩
   rotate_left
   ·obtain⟨og,hg,_⟩:=hk
    obtain rfl:kv=nilS:=hg.agG
    exact N.says.push _ s ⟨Int.ofNat_le.2 (by omega:1<=n+4),Int.ofNat_le.2 (by omega:n+4<=1000)⟩
   ·exact N.says.aa4 p _ kv s hpp ⟨Int.ofNat_le.2 (by omega:1<=n+4),Int.ofNat_le.2 (by omega:n+4<=1000)⟩ hk
 have aiw:(qD n tp (.ofNat x+-1) w 0 0 0 [] false (.ofNat<|n+6) [itA n w ct]).Small:=AB hn (by decide) ⟨Nat.le_refl 1,λy hy=>by rw[List.mem_singleton.1 hy];show ct.length<=_;omega⟩
 refine abB hN N.ac hm.hf hs p8 hL hmem (λkv⟨s0,h0⟩=>hp.of EL kv _ [] ⟨s0,_,h0⟩) λkv y s hkv hs=>?_
 refine(adR (d1:=aD n tp (.ofNat x+-1) 1 (if w then 1 else 2) 0 ct true) (d2:=qD n tp (.ofNat x+-1) w 1 (-1) 0 ct true (.ofNat<|n+5) []) (d3:=qD n tp (.ofNat x+-1) w 0 0 0 [] false (.ofNat<|n+5) []) (d4:=qD n tp (.ofNat x+-1) w 0 0 0 [] false (.ofNat<|n+6) [itA n w ct])
  (E1:=EL++[cr 8 0 0 (-1) 0 Pu]) (E2:=(EL++[cr 8 0 0 (-1) 0 Pu])++[cr 2 (if w then 1 else 2) 5 0 0 Pu]) (E3:=((EL++[cr 8 0 0 (-1) 0 Pu])++[cr 2 (if w then 1 else 2) 5 0 0 Pu])++[cr 28 0 0 0 0 Pu]) (cG:=.ofNat<|n+4) (p:=0) (lp:=P1<|.ofNat x) (x:=.ofNat x) (tg:=ct)
  hN N.ac N.do_ (hm.up y) hs rfl hkv rfl rfl ⟨rfl,rfl,rfl,rfl⟩ (by omega) (λs=>N.says.pay x w s hx.1 hx.2) (λz s hs=>?_) (λz s hs=>?_) (λz s hs=>?_) (λz s hs=>?_) (λz row s hs=>?_)).post λv s'⟨q1,row,q2⟩=>⟨q1,_,⟨_,_,_,row,rfl⟩,q2⟩
 ·exact aaF N.hB hs (kM hn<|by omega) ((hm.up y).up z).hf (by omega) (by decide) (by decide) (by decide) (by decide) hA1
 ·rw[<- agF]
  exact sP N.hB hs (kM hn<|by omega) ((hm.up y).up z).hf (by simp;omega) hA2 (AB hn (by omega) st0) ⟨Int.ofNat_le.2 (by omega:1<=n+5),Int.ofNat_le.2 (by omega:n+5<=1000000)⟩
 ·exact aaF N.hB hs (AB hn (by omega) st0) ((hm.up y).up z).hf (by simp;omega) (by decide) (by decide) (by decide) (by decide) hA3
 ·have:=acb N.hB hs (AB hn (by decide) st0) ((hm.up y).up z).hf (by simp;omega) (hA4 kv) aiw ⟨Int.ofNat_le.2 (by omega:1<=n+6),Int.ofNat_le.2 (by omega:n+6<=1000000)⟩ (hkv.mono λp hp=>List.mem_append_right _ hp) (by show ct.length<=_;omega)
  cases w<;>exact this.post λv s'⟨_,h⟩=>h
 ·refine abX (k:=6) ⟨N.ge hP aiw abg aet<|afT hP,N.hQ,N.hv,N.do_,λo ho=>by rw[hP.len];exact aet o ho,λid hid=>?_⟩ ?_ ((hm.up y).up z).hf ((hm.up y).up z).eQ hs rfl rfl
  ·rcases afS hid with rfl | ⟨k,hk,rfl⟩
   ·exact⟨_,abh⟩
   ·exact⟨_,ada hk⟩
  ·obtain⟨_,_,_,_,_,_,rfl,_,_,_,_,_,_,hno⟩:=hP.ex
   exact hno

end
end Go.Ev
