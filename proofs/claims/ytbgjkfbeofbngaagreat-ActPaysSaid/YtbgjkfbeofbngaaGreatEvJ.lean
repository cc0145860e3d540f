/- Walks and rules. Conditions: none. -/
import Derived.Test.YtbgjkfbeofbngaaGreatEvI
import Derived.Test.YtbgjkfbeofbngaaGreatProg
import Derived.Test.YtbgjkfbeofbngaaGreatEvH
set_option linter.unusedVariables false
set_option linter.unusedSimpArgs false
set_option linter.unusedSectionVars false
namespace Go.Ev
section
variable {P:Program}{K:Orc}{rd:Option Nat}{nt:Nat}{l:Sl}{ds:List cD}{s:SH}{Q Qn Qr:Po}{Qe:Nat->Po}
theorem Wv {x:Operand}{v:AV}{d:Option Nat}{rest:List bS}(hx:opl l x=some v)(k:WO P K rest (pl d v l) ds s Q):WO P K (⟨d,.mv x,none⟩::rest) l ds s Q:=WO.r (.mv hx) k
theorem Wf {off:Nat}{x:Operand}{b r o:Nat}{d:Option Nat}{rest:List bS}(hx:opl l x=some (.ptr (some ⟨b,r,o⟩)))(k:WO P K rest (pl d (.ptr (some ⟨b,r,Nat.add o off⟩)) l) ds s Q):WO P K (⟨d,.faddr off x,none⟩::rest) l ds s Q:=WO.r (.faddr hx) k
theorem Wl {g ro:Bool}{n:Nat}{x:Operand}{b r o sz:Nat}{L:List (List AV)}{row cs:List AV}{v:AV}{d:Option Nat}{rest:List bS}(hx:opl l x=some (.ptr (some ⟨b,r,o⟩)))(hb:Has b (.r ro L sz) s)(hr:L[r]?=some row)(hc:bV n (cu o row)=some cs)(hv:ldv g cs=some v)(k:WO P K rest (pl d v l) ds s Q):WO P K (⟨d,.load g n x,none⟩::rest) l ds s Q:=WO.r (.load hx hb hr hc hv) k
theorem Wh {neg:Bool}{p:dC}{x y:Operand}{u w:AV}{b:Bool}{d:Option Nat}{rest:List bS}(hx:opl l x=some u)(hy:opl l y=some w)(hv:eqBy 20 p u w=some b)(k:WO P K rest (pl d (.bool (negB neg b)) l) ds s Q):WO P K (⟨d,.eql neg p x y,none⟩::rest) l ds s Q:=WO.r (.eql hx hy hv) k
theorem Wj {op:BinOp}{x y:Operand}{u w v:AV}{d:Option Nat}{rest:List bS}(hx:opl l x=some u)(hy:opl l y=some w)(hv:binV op u w=some v)(k:WO P K rest (pl d v l) ds s Q):WO P K (⟨d,.arith op x y,none⟩::rest) l ds s Q:=WO.r (.arith hx hy hv) k
theorem Wq {ol:List bS}{b:AC}(h:WO P K ol l ds s λl ds s=>WP P K rd nt b l ds s Qn Qe Qr):WP P K rd nt (.seq (.ops ol) b) l ds s Qn Qe Qr:=WP.seq (WP.ops h)
theorem Wz {fo:Operand}{args:List Operand}{f:FuncId}{R':AV->SH->Prop}{R:AV->List cD->SH->Prop}(vs:List AV)(hf:opl l fo=some (.func f [] []))(ha:aI (opl l) args=some vs)(ht:bB P K f ([]++(vs++[])) s R')(k:∀v s',R' v s'->R v ds s'):WS P K (.call fo args) l ds s R:=WS.callF hf ha ht k
def lkL (l:Sl):Sl->List (Option AV)
 | []=>[]
 | p::L=>lk l p.1::lkL l L
def sv:Sl->List (Option AV)
 | []=>[]
 | p::L=>some p.2::sv L
theorem afi {l:Sl}:∀{L:Sl},lkL l L=sv L->∀x v,lk L x=some v->lk l x=some v
 | [],_,x,v,h=>by cases h
 | (i,w)::L,h,x,v,hx=>by
  obtain⟨h1,h2⟩:=List.cons.inj h
  simp only[lk]at hx
  split at hx
  ·rename_i e
   cases hx
   rw[<- Nat.eq_of_beq_eq_true e]
   exact h1
  ·exact afi h2 x v hx
theorem Wr:type_of% @WO.r:=@WO.r
theorem Ws:type_of% @WP.seq:=@WP.seq
theorem Wn:type_of% @WO.nil:=@WO.nil
theorem Wo:type_of% @WP.ops:=@WP.ops
theorem Dp:type_of% @WD.pu:=@WD.pu
theorem Wc:type_of% @WS.callF:=@WS.callF
theorem Wd:type_of% @WP.cond:=@WP.cond
theorem Wt:type_of% @WS.store:=@WS.store
theorem Wm:type_of% @Fin.mk:=@Fin.mk
theorem Wi:type_of% @WP.skip:=@WP.skip
theorem Wb:type_of% @WP.block:=@WP.block
theorem We:type_of% @WP.ret:=@WP.ret
theorem Ww:type_of% @WO.w:=@WO.w
theorem Wa:type_of% @WO.a:=@WO.a
theorem Dc:type_of% @WD.ch:=@WD.ch
theorem Dl:type_of% @WD.ld:=@WD.ld
theorem D0:type_of% @WD.nil:=@WD.nil
theorem Wg:type_of% @WP.weak:=@WP.weak
theorem Wp:type_of% @WP.loop:=@WP.loop
theorem Wx:type_of% @WP.exit:=@WP.exit
theorem W1:type_of% @WS.cl:=@WS.cl
open Go.Proofs
abbrev CF:=(Nat->FuncId)->(Nat->TypeId)->AC
def fNo:List Nat:=[0,0,0,0,0,0,0,0,0,0,0,0,0,0,26,23,0,0,0,66,33,38,0,0,28,29,163,0,0,0,17,0,14,0,0,0,31,13,106,0,0,0,0,19,0,0,0,0,0,0,128,129,75,69,0,0,0,0,30,0,0,70,149,150,151,152,76,0,0,0,0,222,223,224,225,226,0,61,0,56,55,0,12,15,16,18,0,0,0,0,77,58,175,176,177,178,0,0,0,0,0,0,0,0,0,189,136,160,154,78,0,0,208,209,258,259,260,261,262,263,0,139,140,141,135,54,57,59,60,62,63,64,0,0,0,0,161,162,137,233,234,235,236,237,238,239,0,0,0,0,0,0,0,0,0,245,246,216,217,218,219,220,221,168,210,211,295,197,198,199,200,201,202,203,204,205,138,142,143,144,145,146,147,148,0,0,0,0,0,0,0,0,0,0,0,0,0,0,0,0,257,253,254,255,248,249,250,251,193,194,195,196,206,207,0,0,0,0,0,0,0,0,0,0,285,286,287,288,289,290,291,292,293,275,276,277,278,279,280,247,252,0,0,0,0,0,0,305,306,307,308,309,310,311,312,313,314,315,316,317,318,319,320,321,322,323,324,325,326,327,328,329,330,331,332,333,334,335,336,337,338,339,340,341,342,0,301,0,0,0,0,0,350,351,352,353,354,0,0,346,0,0,0,0,0,0,0,0,0,0,0,0,0,0,0,0,0,0,0,0,0,0,0,0,0,0,0,0,0,0,0,0,0,0,0,0,0,0,0,0,0,0,0,39,402,403,50,404,132,133,134,192,0,0,11,0,0,0,0,0,0,0,0,0,0,0,0,0,0,0,0,0,0,0,0,0,0,0,0,0,0,0,0,0,0,0,0,0,0,0,0,0,0,0,0,0,0,0,0,0,0,0,6,0,0,0,0,34,35,36,37,40,41,0,0,0,0,0,0,82,83,84,85,86,87,88,89,90,91,92,93,94,95,96,97,98,99,100,101,102,103,0,0,0,0,0,0,0,164,165,166,167,169,170,171,172,173,174,0,0,0,0,0,0,230,231,232,0,0,265]
def tNo:List (Nat × Nat):=[(3,3),(4,4),(24,95),(26,24),(27,100),(41,69),(45,33),(48,57),(50,59),(66,107),(71,41),(99,116),(107,48),(128,75),(264,279),(290,339),(294,332),(402,81),(420,167),(431,179)]
def nF (n:Nat):Nat:=fNo.idxOf n
def nT (n:Nat):Nat:=((tNo.find? λp=>Nat.beq p.2 n).map Prod.fst).getD 0
def adT (F:Nat->FuncId):Operand->Operand
 | .func n=>.func<|F<|nF n
 | x=>x
def akU (F:Nat->FuncId)(T:Nat->TypeId):AOp->AOp
 | .call f l=>.call (adT F f)<|l.map<|adT F
 | .mkfn f a b=>.mkfn (F<|nF f) a b
 | .mkif t x=>.mkif (T<|nT t) x
 | .mv x=>.mv<|adT F x
 | .ins l k m x v=>.ins l k m x<|adT F v
 | .build z l=>.build z<|l.map λp=>(p.1,p.2.1,adT F p.2.2)
 | x=>x
def aiJ (F:Nat->FuncId)(T:Nat->TypeId)(o:bS):bS:=⟨o.dst,akU F T o.op,o.guard⟩
def ren (F:Nat->FuncId)(T:Nat->TypeId):AC->AC
 | .ops l=>.ops<|l.map<|aiJ F T
 | .drawn n l=>.drawn n<|l.map λd=>⟨aiJ F T d.o,d.cls,d.lo,d.hi,d.aC⟩
 | .seq a b=>.seq (ren F T a)<|ren F T b
 | .cond c a b=>.cond c (ren F T a)<|ren F T b
 | .block i b=>.block i<|ren F T b
 | .loop b=>.loop<|ren F T b
 | .rf g p a b=>.rf (adT F g) p (ren F T a)<|ren F T b
 | x=>x
noncomputable def cd (f n:Nat):CF:=λF T=>ren F T (cc Tryz.prog n (match Tryz.prog.funcs[f]? with | some g=>g.body.getD .skip | none=>.skip))
@[reducible] def NF {α:Type}(x y:α)(_:x=y:=by (conv=>lhs;reduce;dsimp only[-Int.reduceOfNat,-Int.reduceNegSucc])):α:=y
def sel:AC->Nat->AC
 | .seq a _,0=>a
 | .seq _ b,_=>b
 | .cond _ a _,0=>a
 | .cond _ _ b,_=>b
 | .block _ b,_=>b
 | .loop b,_=>b
 | .rf _ _ a _,0=>a
 | .rf _ _ _ b,_=>b
 | c,_=>c
def pt (c:AC)(l:List Nat):AC:=l.foldl sel c
def AC.opl:AC->List bS
 | .ops l=>l
 | _=>[]
set_option maxRecDepth 100000
@[reducible] def z0:AV:=.int .i64 (.ofNat 0)
@[reducible] def z1:AV:=.slice none 0 0 false 0
theorem j9 {k:Nat}(h:k<=1):k=0\/k=1:=by omega
def cC:List AV:=[z1,z1,z1,z1,z1,z1,z1,z1,z1,z0,z0,z0,z0,z0,z0,z0,z0,z0,z0,z0,z0,z1,(.bool false),z0,z0]
def dB:List AV:=[z0,z0,z0,z0,z0,(.bool false),(.bool false),(.bool false),z0,z0,z0,z0,(.bool false),z1]
def uv:List AV:=[z0,z0,z0,z0,z0,z0,z1]
def nD:List AV:=[z0,z0,z0,z0,z0,(.bool false),(.bool false),(.bool false)]
noncomputable def a91:CF:=NF (cd 58 9) _
noncomputable def ST:CF:=NF (cd 137 8) _
noncomputable def WM:CF:=NF (cd 136 19) _
noncomputable def WU:CF:=NF (cd 217 22) _
noncomputable def SU:CF:=NF (cd 218 8) _
noncomputable def WV:CF:=NF (cd 219 22) _
noncomputable def WW:CF:=NF (cd 220 22) _
noncomputable def SV:CF:=NF (cd 221 8) _
noncomputable def a51:CF:=NF (cd 129 8) _
noncomputable def WT:CF:=NF (cd 216 8) _
noncomputable def WX:CF:=NF (cd 168 8) _
noncomputable def WZ:CF:=NF (cd 257 8) _
noncomputable def SC:CF:=NF (cd 160 46) _
noncomputable def SB:CF:=NF (cd 189 82) _
noncomputable def Lf:CF:=NF (cd 161 70) _
noncomputable def SS:CF:=NF (cd 162 33) _
noncomputable def Tc:CF:=NF (cd 320 131) _
noncomputable def Tf:CF:=NF (cd 351 7) _
noncomputable def W2:CF:=NF (cd 352 33) _
noncomputable def ajb:CF:=NF (cd 350 42) _
noncomputable def WQ:CF:=NF (cd 245 19) _
noncomputable def Tg:CF:=NF (cd 353 31) _
noncomputable def Lg:CF:=NF (cd 210 46) _
noncomputable def Lj:CF:=NF (cd 255 121) _
noncomputable def amv:CF:=NF (cd 289 7) _
noncomputable def amw:CF:=NF (cd 290 9) _
noncomputable def amx:CF:=NF (cd 291 9) _
noncomputable def ahb:CF:=NF (cd 292 26) _
noncomputable def amf:CF:=NF (cd 209 19) _
noncomputable def SE:CF:=NF (cd 154 36) _
noncomputable def SW:CF:=NF (cd 211 14) _
noncomputable def WN:CF:=NF (cd 23 49) _
noncomputable def ZN:CF:=NF (cd 26 6) _
noncomputable def ZP:CF:=NF (cd 28 10) _
noncomputable def ZY:CF:=NF (cd 75 11) _
noncomputable def ZZ:CF:=NF (cd 69 9) _
noncomputable def amK:CF:=NF (cd 319 7) _
noncomputable def Td:CF:=NF (cd 323 17) _
noncomputable def amS:CF:=NF (cd 342 15) _
noncomputable def Li:CF:=NF (cd 254 31) _
noncomputable def Ll:CF:=NF (cd 285 31) _
noncomputable def Lm:CF:=NF (cd 286 27) _
noncomputable def Ln:CF:=NF (cd 287 24) _
noncomputable def Lp:CF:=NF (cd 305 6) _
noncomputable def Lq:CF:=NF (cd 321 6) _
structure FnK (P:Program)(K:Orc)(f:FuncId)(nt:Nat)(rs:List ResultVar)(ac:AC):Prop where
 k:∀args H,K f args H=none
 ex:∃fn,P.funcs[f]?=some fn/\fn.body.map (cc P fn.ntmps)=some ac/\fn.ntmps=nt/\fn.results.toList=rs/\(fn.name == "runtime.NumGoroutine")=false
theorem FnK.cF {P:Program}{K:Orc}{f:FuncId}{nt:Nat}{rs:List ResultVar}{ac:AC}(h:FnK P K f nt rs ac){args:List AV}{s:SH}{R:AV->SH->Prop}(hw:WP P K none nt ac (sl0 0 args) [] s (Fin P rs R) (λ_ _ _ _=>False) (Fin P rs R))(ha:args.length<=nt:=by simp):bB P K f args s R:=by
 obtain⟨fn,h1,h2,h3,h4,h5⟩:=h.ex
 refine bB.enter (h.k args) h1 h2 h3 h4 ?_ hw
 rw[h5,h3,ar,Nat.ble_eq_true_of_le ha]
 rfl
def Ty (P:Program)(t:TypeId)(n:Nat):Prop:=isAggT P t=some true/\size? P t=some n
structure Base (P:Program)(K:Orc)(F:Nat->FuncId)(T:Nat->TypeId):Prop where
 f91:FnK P K (F 91) 9 [(.tmp 4)] (a91 F T)
 f138:FnK P K (F 138) 8 [(.tmp 3)] (ST F T)
 f106:FnK P K (F 106) 19 [(.tmp 4)] (WM F T)
 f158:FnK P K (F 158) 22 [(.tmp 4)] (WU F T)
 f159:FnK P K (F 159) 8 [(.cell 2<|T 45)] (SU F T)
 f160:FnK P K (F 160) 22 [(.tmp 4)] (WV F T)
 f161:FnK P K (F 161) 22 [(.tmp 4)] (WW F T)
 f162:FnK P K (F 162) 8 [(.cell 2<|T 48)] (SV F T)
 f51:FnK P K (F 51) 8 [(.tmp 2)] (a51 F T)
 f157:FnK P K (F 157) 8 [(.tmp 2)] (WT F T)
 f163:FnK P K (F 163) 8 [(.tmp 2)] (WX F T)
 f200:FnK P K (F 200) 8 [(.tmp 2)] (WZ F T)
 f107:FnK P K (F 107) 46 [(.cell 2<|T 41)] (SC F T)
 f105:FnK P K (F 105) 82 [] (SB F T)
 f136:FnK P K (F 136) 70 [(.tmp 6)] (Lf F T)
 f137:FnK P K (F 137) 33 [(.tmp 2)] (SS F T)
 f262:FnK P K (F 262) 131 [(.cell 4<|T 45)] (Tc F T)
 f293:FnK P K (F 293) 7 [(.tmp 3)] (Tf F T)
 f294:FnK P K (F 294) 33 [(.tmp 6)] (W2 F T)
 f292:FnK P K (F 292) 42 [(.tmp 4)] (ajb F T)
 f155:FnK P K (F 155) 19 [(.tmp 4)] (WQ F T)
 f295:FnK P K (F 295) 31 [] (Tg F T)
 f164:FnK P K (F 164) 46 [(.cell 4<|T 41),(.tmp 5)] (Lg F T)
 f203:FnK P K (F 203) 121 [(.tmp 6)] (Lj F T)
 f231:FnK P K (F 231) 26 [(.tmp 4)] (ahb F T)
 f108:FnK P K (F 108) 36 [(.tmp 4)] (SE F T)
 f165:FnK P K (F 165) 14 [(.cell 2<|T 50)] (SW F T)
 f15:FnK P K (F 15) 49 [(.tmp 4)] (WN F T)
 f14:FnK P K (F 14) 6 [(.cell 2<|T 41)] (ZN F T)
 f24:FnK P K (F 24) 10 [(.tmp 2)] (ZP F T)
 f52:FnK P K (F 52) 11 [(.cell 2<|T 41)] (ZY F T)
 f53:FnK P K (F 53) 9 [(.tmp 4)] (ZZ F T)
 f265:FnK P K (F 265) 17 [] (Td F T)
 f202:FnK P K (F 202) 31 [(.cell 4<|T 290)] (Li F T)
 f224:FnK P K (F 224) 31 [(.tmp 2)] (Ll F T)
 f225:FnK P K (F 225) 27 [(.tmp 2)] (Lm F T)
 f226:FnK P K (F 226) 24 [(.tmp 2)] (Ln F T)
 f247:FnK P K (F 247) 6 [(.cell 3<|T 290)] (Lp F T)
 f263:FnK P K (F 263) 6 [(.cell 3<|T 290)] (Lq F T)
 t41:Ty P (T 41) 25
 t45:Ty P (T 45) 14
 t48:Ty P (T 48) 7
 t50:Ty P (T 50) 13
 t290:Ty P (T 290) 4
variable {F:Nat->FuncId}{T:Nat->TypeId}
@[reducible] def nilS:AV:=.slice none 0 0 false 0
theorem sM {sz bytes:Nat}{z:List AV}{rw:Nat}{R:AV->SH->Prop}(hR:R nilS s) :
  WP P K none nt (qa sz bytes z) (sl0 0 [.slice none 0 0 false rw]) [] s (Fin P [.tmp 2] R) (λ_ _ _ _=>False) (Fin P [.tmp 2] R):=by
 unfold qa
 refine Wq<|Wv rfl<|Wn<|Ws<|Wq<|Wv rfl<|Wh rfl rfl rfl<|Wn ?_
 refine Wd rfl (λ_=>?_)<|λh=>by cases h
 exact Wq<|Wv rfl<|Wn<|We<|Wm (.tmp rfl .nil) hR
theorem FnK.clone {f:FuncId}{sz bytes:Nat}{z:List AV}(h:FnK P K f 8 [.tmp 2] (qa sz bytes z)){v:AV}{L:List (List AV)}(hs:Src s sz v L)(hz:sz≠0)(h1:L.length<=901000)(h2:bytes<=100000):bB P K f [v] s (λv' s'=>∃n,s'=n++s/\gz n sz v' L):=
 h.cF (BW hs hz h1 h2 λv' n ho=>⟨n,rfl,ho⟩)
theorem FnK.iX {f:FuncId}{sz bytes:Nat}{z:List AV}(h:FnK P K f 8 [.tmp 2] (qa sz bytes z)){rw:Nat}:bB P K f [.slice none 0 0 false rw] s (λv' s'=>v'=nilS/\s'=s):=
 h.cF (sM ⟨rfl,rfl⟩)
theorem ak {a b:SH}(h:∀(c:SH->Nat)(w:Nat × HO->Nat),c []=0->(∀x y,c (x++y)=c x+c y)->(∀p x,c (p::x)=w p+c x)->(∀x y,x.Perm y->c x=c y)->c a=c b):a.Perm b:=by
 classical
 refine List.perm_iff_count.2 λq=>?_
 exact h (λl=>l.count q) (λp=>if p==q then 1 else 0) rfl (λx y=>List.count_append) (λp x=>by
  rw[List.count_cons,Nat.add_comm]) (λx y hp=>hp.count_eq q)
theorem qc {a b:SH}(h:∀(c:SH->Nat)(w:Nat × HO->Nat),c []=0->(∀x y,c (x++y)=c x+c y)->(∀p x,c (p::x)=w p+c x)->(∀x y,x.Perm y->c x=c y)->c a=c b:=by intro c w h0 h1 h2 hq;simp only[h0,h1,h2];omega):a.Perm b:=ak h
inductive GI:List (List AV)->List (List (List AV))->SH->Prop
 | nil:GI [] [] []
 | snoc {L:List (List AV)} {LL:List (List<|List AV)} {n oi:SH} {x:AV} {bX:List (List AV)}:GI L LL n->Gr 1 x bX oi->GI (L++[[x]]) (LL++[bX]) (oi++n)
 | bK {L:List (List AV)} {LL:List (List<|List AV)} {n m:SH}:GI L LL n->GI L LL (m++n)
 | perm {L:List (List AV)} {LL:List (List<|List AV)} {n m:SH}:GI L LL n->n.Perm m->GI L LL m
theorem GI.len {L:List (List AV)}{LL:List (List (List AV))}{n:SH}(h:GI L LL n):L.length=LL.length:=by
 induction h with
 | nil=>rfl
 | snoc _ _ ih=>simp[ih]
 | bK _ ih=>exact ih
 | perm _ _ ih=>exact ih
theorem GI.at {L:List (List AV)}{LL:List (List (List AV))}{n:SH}(h:GI L LL n):∀{p:Nat},p<LL.length->∃x bX oi r,L[p]?=some [x]/\LL[p]?=some bX/\Gr 1 x bX oi/\n.Perm (oi++r)/\∀x' cQ eA,Gr 1 x' cQ eA->GI (L.set p [x']) (LL.set p cQ) (eA++r):=by
 induction h with
 | nil=>intro p hp;exact absurd hp<|Nat.not_lt_zero _
 | @snoc L LL n oi x bX h hg ih=>
  intro p hp
  rw[List.length_append]at hp
  have hlen:=h.len
  by_cases uA:p<LL.length
  ·obtain⟨x0,qd,Vi,r,h1,h2,h3,h4,h5⟩:=ih uA
   refine⟨x0,qd,Vi,oi++r,?_,?_,h3,?_,λx' cQ eA hg'=>?_⟩
   ·rw[List.getElem?_append_left (by omega)];exact h1
   ·rw[List.getElem?_append_left uA];exact h2
   ·refine(List.Perm.append_left oi h4).trans ?_
    rw[<- List.append_assoc,<- List.append_assoc]
    exact List.Perm.append_right r List.perm_append_comm
   ·rw[List.set_append_left _ _ (by omega),List.set_append_left _ _ uA]
    refine .perm (.snoc (h5 x' cQ eA hg') hg) ?_
    rw[<- List.append_assoc,<- List.append_assoc]
    exact List.Perm.append_right r List.perm_append_comm
  ·have Gv:p=LL.length:=by simp only[List.length_cons,List.length_nil]at hp;omega
   subst Gv
   refine⟨x,bX,oi,n,?_,?_,hg,.refl _,λx' cQ eA hg'=>?_⟩
   ·rw[List.getElem?_append_right (by omega),hlen,Nat.sub_self];rfl
   ·rw[List.getElem?_append_right (Nat.le_refl _),Nat.sub_self];rfl
   ·rw[List.set_append_right _ _ (by omega),List.set_append_right _ _<|Nat.le_refl _,hlen,Nat.sub_self]
    exact .snoc h hg'
 | @bK L LL n m h ih=>
  intro p hp
  obtain⟨x0,qd,Vi,r,h1,h2,h3,h4,h5⟩:=ih hp
  refine⟨x0,qd,Vi,m++r,h1,h2,h3,?_,λx' cQ eA hg'=>?_⟩
  ·refine(List.Perm.append_left m h4).trans ?_
   rw[<- List.append_assoc,<- List.append_assoc]
   exact List.Perm.append_right r List.perm_append_comm
  ·refine .perm (.bK (m:=m)<|h5 x' cQ eA hg') ?_
   rw[<- List.append_assoc,<- List.append_assoc]
   exact List.Perm.append_right r List.perm_append_comm
 | @perm L LL n m h hp ih=>
  intro p uA
  obtain⟨x0,qd,Vi,r,h1,h2,h3,h4,h5⟩:=ih uA
  exact⟨x0,qd,Vi,r,h1,h2,h3,hp.symm.trans h4,h5⟩
inductive SI (s:SH):List (List AV)->List (List (List AV))->Prop
 | nil:SI s [] []
 | cons {L:List (List AV)} {LL:List (List<|List AV)} {x:AV} {bX:List (List AV)}:Src s 1 x bX->SI s L LL->SI s ([x]::L) (bX::LL)
def SL (s:SH)(v:AV)(LL:List (List (List AV))):Prop:=∃L,Src s 1 v L/\SI s L LL
def GL (v:AV)(LL:List (List (List AV)))(o:SH):Prop:=∃L o' oi,Gr 1 v L o'/\GI L LL oi/\o=o'++oi
theorem SI.snoc {L:List (List AV)}{LL:List (List (List AV))}{x:AV}{bX:List (List AV)}(h:SI s L LL)(h1:Src s 1 x bX):SI s (L++[[x]]) (LL++[bX]):=by
 induction h with
 | nil=>exact .cons h1 .nil
 | cons h2 _ ih=>exact .cons h2 ih
theorem SI.one {L:List (List AV)}{LL:List (List (List AV))}(h:SI s L LL):L.length=LL.length/\∀row∈L,row.length=1:=by
 induction h with
 | nil=>exact⟨rfl,λrow hr=>nomatch hr⟩
 | cons _ _ ih=>exact⟨by simp[ih.1],λrow hr=>by cases hr with | head=>rfl | tail _ hr=>exact ih.2 row hr⟩
theorem SI.get {L:List (List AV)}{LL:List (List (List AV))}(h:SI s L LL):∀(i:Nat)row,L[i]?=some row->∃x bX,row=[x]/\LL[i]?=some bX/\Src s 1 x bX:=by
 induction h with
 | nil=>intro i row h;simp at h
 | cons h1 _ ih=>
  intro i row h
  cases i with
  | zero=>cases h;exact⟨_,_,rfl,rfl,h1⟩
  | succ i=>exact ih i row h
theorem GI.si {L:List (List AV)}{LL:List (List (List AV))}{n:SH}(h:GI L LL n)(hn:∀p,p∈n->p∈s):SI s L LL:=by
 induction h with
 | nil=>exact .nil
 | snoc _ hg ih=>exact(ih λp hp=>hn p<|List.mem_append_right _ hp).snoc (hg.out.src.mono λp hp=>hn p<|List.mem_append_left _ hp)
 | bK _ ih=>exact ih λp hp=>hn p<|List.mem_append_right _ hp
 | perm _ hp ih=>exact ih λp hq=>hn p<|hp.mem_iff.1 hq
theorem GL.sl {v:AV}{LL:List (List (List AV))}{o:SH}(h:GL v LL o)(hn:∀p,p∈o->p∈s):SL s v LL:=by
 obtain⟨L,o',oi,h1,h2,rfl⟩:=h
 exact⟨L,h1.out.src.mono λp hp=>hn p<|List.mem_append_left _ hp,h2.si λp hp=>hn p<|List.mem_append_right _ hp⟩
theorem kh.gi {L L':List (List AV)}{n:SH}{LL:List (List (List AV))}(h:kh (λi _ b m=>∃bX x',LL[i]?=some bX/\b=[x']/\gz m 1 x' bX) L L' n):L.length<=LL.length->GI L' (LL.take L.length) n:=by
 induction h with
 | @nil n=>intro _;exact .perm (.bK (m:=n) .nil)<|by rw[List.append_nil]
 | @snoc a b L L' x m y n h1 h2 ih=>
  intro hlen
  rw[List.length_append]at hlen
  simp only[List.length_cons,List.length_nil]at hlen
  obtain⟨bX,x',e1,rfl,h4⟩:=h2
  obtain⟨oi,p,q,g1,rfl⟩:=h4.gr
  have e2:LL.take (L++[a]).length=LL.take L.length++[bX]:=by
   rw[List.length_append,List.length_cons,List.length_nil,Nat.zero_add,List.take_add_one,e1];rfl
  rw[e2]
  refine .perm (.bK (m:=x++(p++(q++y)))<|.snoc (ih<|by omega) g1) ?_
  exact ak λc w h0 h1 h2 _=>by simp only[h1];omega
@[reducible] def iv (n:Int):AV:=.int .i64 n
structure OD where
 id:Int
 gt:Int
 owner:Int
 aQ:Int
 ci:Int
 RU:Bool
 VK:Bool
 token:Bool
 Y6:Int
 stamp:Int
 NP:Int
 block:Int
 J9:Bool
@[reducible] def OD.row (o:OD):List AV:=[iv o.id,iv o.gt,iv o.owner,iv o.aQ,iv o.ci,.bool o.RU,.bool o.VK,.bool o.token,iv o.Y6,iv o.stamp,iv o.NP,iv o.block,.bool o.J9,nilS]
structure TG where
 p:Int
 o:Int
deriving DecidableEq
@[reducible] def TG.row (x:TG):List AV:=[iv x.p,iv x.o]
def yu (l:List TG):List (List AV):=l.map TG.row
structure ID where
 id:Int
 kind:Int
 aQ:Int
 obj:Int
 gt:Int
 Tk:Int
 tg:List TG
 tv:AV
@[reducible] def ID.rw (o:ID)(v:AV):List AV:=[iv o.id,iv o.kind,iv o.aQ,iv o.obj,iv o.gt,iv o.Tk,v]
structure LD where
 Zl:Int
 m0:Int
 m1:Int
 m2:Int
 m3:Int
 f1:Bool
 f2:Bool
 f3:Bool
@[reducible] def LD.row (o:LD):List AV:=[iv o.Zl,iv o.m0,iv o.m1,iv o.m2,iv o.m3,.bool o.f1,.bool o.f2,.bool o.f3]
structure SD where
 pl:List LD
 ob:List OD
 lb:List (List Int)
 hd:List (List Int)
 gr:List (List Int)
 ex:List (List Int)
 fi:List Int
 st:List ID
 wa:List ID
 tu:Int
 ac:Int
 ph:Int
 pr:Int
 pa:Int
 bl:Int
 nx:Int
 sp:Int
 us:Int
 ck:Int
 co:Int
 ca:Int
 py:Bool
 oc:Int
 wi:Int
 ct:List TG
def fy (l:List OD):List (List AV):=l.map OD.row
inductive SN (s:SH):List (List AV)->List ID->Prop
 | nil:SN s [] []
 | cons {L:List (List AV)} {X:List ID} {x:ID} {v:AV}:Src s 2 v (yu x.tg)->SN s L X->SN s (x.rw v::L) (x::X)
def SIt (s:SH)(v:AV)(X:List ID):Prop:=∃L,Src s 7 v L/\SN s L X
inductive GN:List (List AV)->List ID->SH->Prop
 | nil:GN [] [] []
 | snoc {L:List (List AV)} {X:List ID} {n oi:SH} {x:ID} {v:AV}:GN L X n->Gr 2 v (yu x.tg) oi->GN (L++[x.rw v]) (X++[x]) (oi++n)
 | bK {L:List (List AV)} {X:List ID} {n m:SH}:GN L X n->GN L X (m++n)
 | perm {L:List (List AV)} {X:List ID} {n m:SH}:GN L X n->n.Perm m->GN L X m
def GIt (v:AV)(X:List ID)(o:SH):Prop:=∃L o' oi,Gr 7 v L o'/\GN L X oi/\o=o'++oi
theorem SN.len {s:SH}{L:List (List AV)}{X:List ID}(h:SN s L X):L.length=X.length:=by
 induction h with
 | nil=>rfl
 | cons _ _ ih=>simp[ih]
theorem SN.snoc {s:SH}{L:List (List AV)}{X:List ID}{x:ID}{v:AV}(h:SN s L X)(h1:Src s 2 v (yu x.tg)):SN s (L++[x.rw v]) (X++[x]):=by
 induction h with
 | nil=>exact .cons h1 .nil
 | cons h2 _ ih=>exact .cons h2 ih
theorem SN.get {s:SH}{L:List (List AV)}{X:List ID}(h:SN s L X):∀(i:Nat)row,L[i]?=some row->∃x v,row=x.rw v/\X[i]?=some x/\Src s 2 v (yu x.tg):=by
 induction h with
 | nil=>intro i row h;simp at h
 | cons h1 _ ih=>
  intro i row h
  cases i with
  | zero=>cases h;exact⟨_,_,rfl,rfl,h1⟩
  | succ i=>exact ih i row h
theorem SN.at {s:SH}{L:List (List AV)}{X:List ID}(h:SN s L X):∀{i:Nat}{x:ID},X[i]?=some x->∃v,L[i]?=some (x.rw v)/\Src s 2 v (yu x.tg):=by
 induction h with
 | nil=>intro i x h;simp at h
 | cons h1 _ ih=>
  intro i x h
  cases i with
  | zero=>cases h;exact⟨_,rfl,h1⟩
  | succ i=>exact ih h
theorem SN.mono {s s':SH}{L:List (List AV)}{X:List ID}(h:SN s L X)(hs:∀p,p∈s->p∈s'):SN s' L X:=by
 induction h with
 | nil=>exact .nil
 | cons h1 _ ih=>exact .cons (h1.mono hs) ih
theorem SIt.mono {s s':SH}{v:AV}{X:List ID}(h:SIt s v X)(hs:∀p,p∈s->p∈s'):SIt s' v X:=by
 obtain⟨L,h1,h2⟩:=h
 exact⟨L,h1.mono hs,h2.mono hs⟩
theorem GN.len {L:List (List AV)}{X:List ID}{n:SH}(h:GN L X n):L.length=X.length:=by
 induction h with
 | nil=>rfl
 | snoc _ _ ih=>simp[ih]
 | bK _ ih=>exact ih
 | perm _ _ ih=>exact ih
theorem GN.sn {s:SH}{L:List (List AV)}{X:List ID}{n:SH}(h:GN L X n)(hn:∀p,p∈n->p∈s):SN s L X:=by
 induction h with
 | nil=>exact .nil
 | snoc _ hg ih=>exact(ih λp hp=>hn p<|List.mem_append_right _ hp).snoc (hg.out.src.mono λp hp=>hn p<|List.mem_append_left _ hp)
 | bK _ ih=>exact ih λp hp=>hn p<|List.mem_append_right _ hp
 | perm _ hp ih=>exact ih λp hq=>hn p<|hp.mem_iff.1 hq
theorem GIt.src {s:SH}{v:AV}{X:List ID}{o:SH}(h:GIt v X o)(hn:∀p,p∈o->p∈s):SIt s v X:=by
 obtain⟨L,o',oi,h1,h2,rfl⟩:=h
 exact⟨L,h1.out.src.mono λp hp=>hn p<|List.mem_append_left _ hp,h2.sn λp hp=>hn p<|List.mem_append_right _ hp⟩
theorem kh.gn {L L':List (List AV)}{n:SH}{X:List ID}(h:kh (λi _ b m=>∃x v,X[i]?=some x/\b=x.rw v/\gz m 2 v (yu x.tg)) L L' n):L.length<=X.length->GN L' (X.take L.length) n:=by
 induction h with
 | @nil n=>intro _;exact .perm (.bK (m:=n) .nil)<|by rw[List.append_nil]
 | @snoc a b L L' x m y n h1 h2 ih=>
  intro hlen
  rw[List.length_append]at hlen
  simp only[List.length_cons,List.length_nil]at hlen
  obtain⟨it,v,e1,rfl,h4⟩:=h2
  obtain⟨oi,p,q,g1,rfl⟩:=h4.gr
  have e2:X.take (L++[a]).length=X.take L.length++[it]:=by
   rw[List.length_append,List.length_cons,List.length_nil,Nat.zero_add,List.take_add_one,e1];rfl
  rw[e2]
  refine .perm (.bK (m:=x++(p++(q++y)))<|.snoc (ih<|by omega) g1) ?_
  exact ak λc w h0 h1 h2 _=>by simp only[h1];omega
def Am (l:List LD):List (List AV):=l.map LD.row
def nR (l:List Int):List (List AV):=l.map λn=>[iv n]
def lA (l:List (List Int)):List (List (List AV)):=l.map nR
structure SD.Small (d:SD):Prop where
 n1:d.pl.length<=1000/\d.ob.length<=1000/\d.fi.length<=1000/\d.st.length<=1000/\d.wa.length<=1000
 n2:∀LL,(LL=d.lb\/LL=d.hd\/LL=d.gr\/LL=d.ex)->LL.length<=1000/\∀bX∈LL,bX.length<=1000
 n3:d.ct.length<=1000/\(∀x∈d.st,x.tg.length<=1000)/\∀x∈d.wa,x.tg.length<=1000
def SD.cells (d:SD)(pv ov lv hv gv ev fv sv wv kv:AV):List AV:=[pv,ov,lv,hv,gv,ev,fv,sv,wv,iv d.tu,iv d.ac,iv d.ph,iv d.pr,iv d.pa,iv d.bl,iv d.nx,iv d.sp,iv d.us,iv d.ck,iv d.co,iv d.ca,kv,.bool d.py,iv d.oc,iv d.wi]
inductive GK:AV->List TG->SH->Prop
 | nil:GK nilS [] []
 | rows {b:Nat} {L:List TG} (hL:L≠[]):GK (.slice (some ⟨b,0,0⟩) L.length L.length true 2) L [(b,.r false (yu L) 2)]
theorem GK.gr {v:AV}{L:List TG}{o:SH}(h:GK v L o):Gr 2 v (yu L) o:=by
 cases h with
 | nil=>exact .nil
 | @rows b L hL=>
  have:=Gr.rows (b:=b) (sz:=2) (L:=yu L) (T:=[]) rfl rfl (by rw[yu,List.length_map];exact List.length_pos_iff.2 hL)
  rw[List.append_nil]at this
  simpa[yu]using this
def Kv (s:SH)(v:AV)(L:List TG):Prop:=∃o,GK v L o/\∀p,p∈o->p∈s
theorem Kv.mono {s s':SH}{v:AV}{L:List TG}(h:Kv s v L)(hs:∀p,p∈s->p∈s'):Kv s' v L:=by
 obtain⟨o,h1,h2⟩:=h
 exact⟨o,h1,λp hp=>hs p<|h2 p hp⟩
theorem Kv.src {s:SH}{v:AV}{L:List TG}(h:Kv s v L):Src s 2 v (yu L):=by
 obtain⟨o,h1,h2⟩:=h
 exact h1.gr.out.src.mono h2
theorem GK.kv {v:AV}{L:List TG}{o s:SH}(h:GK v L o)(hs:∀p,p∈o->p∈s):Kv s v L:=⟨o,h,hs⟩
structure mD (s:SH)(pv ov lv hv gv ev fv sv wv kv:AV)(d:SD):Prop where
 pl:Src s 8 pv (Am d.pl)
 ob:Src s 14 ov (fy d.ob)
 lb:SL s lv (lA d.lb)
 hd:SL s hv (lA d.hd)
 gr:SL s gv (lA d.gr)
 ex:SL s ev (lA d.ex)
 fi:Src s 1 fv (nR d.fi)
 st:SIt s sv d.st
 wa:SIt s wv d.wa
 ct:Kv s kv d.ct
structure iJ (n:SH)(pv ov lv hv gv ev fv sv wv kv:AV)(d:SD):Prop where
 ex:∃o1 o2 o3 o4 o5 o6 o7 o8 o9 o10 j,n.Perm (o1++(o2++(o3++(o4++(o5++(o6++(o7++(o8++(o9++(o10++j))))))))))/\Gr 8 pv (Am d.pl) o1/\Gr 14 ov (fy d.ob) o2/\GL lv (lA d.lb) o3/\GL hv (lA d.hd) o4/\GL gv (lA d.gr) o5/\GL ev (lA d.ex) o6/\Gr 1 fv (nR d.fi) o7/\GIt sv d.st o8/\GIt wv d.wa o9/\GK kv d.ct o10
theorem Base.VS (hB:Base P K F T):FnK P K (F 51) 8 [.tmp 2] (qa 1 8 [.int .i64 (.ofNat 0)]):=hB.f51
theorem Base.W8 (hB:Base P K F T):FnK P K (F 157) 8 [.tmp 2] (qa 8 48 nD):=hB.f157
theorem Base.NT (hB:Base P K F T):FnK P K (F 163) 8 [.tmp 2] (qa 2 16 [.int .i64 (.ofNat 0),.int .i64 (.ofNat 0)]):=hB.f163
theorem Base.Xd (hB:Base P K F T):FnK P K (F 200) 8 [.tmp 2] (qa 4 32 [.int .i64 (.ofNat 0),.int .i64 (.ofNat 0),.int .i64 (.ofNat 0),.int .i64 (.ofNat 0)]):=hB.f200
theorem Base.W9 (hB:Base P K F T):FnK P K (F 158) 22 [.tmp 4] (xt 14 112 dB):=hB.f158
theorem Base.Xa (hB:Base P K F T):FnK P K (F 160) 22 [.tmp 4] (B5 24 [nilS]):=hB.f160
theorem Base.Xb (hB:Base P K F T):FnK P K (F 161) 22 [.tmp 4] (xt 7 72 uv):=hB.f161
theorem Base.W6 (hB:Base P K F T):FnK P K (F 106) 19 [.tmp 4] (CU true 14):=hB.f106
theorem Base.W7 (hB:Base P K F T):FnK P K (F 155) 19 [.tmp 4] (CU false 1):=hB.f155
theorem Base.Xf (hB:Base P K F T):FnK P K (F 292) 42 [.tmp 4] (xp false (F 155) 1 [.int .i64 (.ofNat 0)]):=hB.f292
theorem Base.Xg (hB:Base P K F T):FnK P K (F 294) 33 [.tmp 6] (NX 14 112 dB):=hB.f294
theorem Aj (hB:Base P K F T){a b c d e f g h i j k l m:AV}:bB P K (F 159) [.agg [a,b,c,d,e,f,g,h,i,j,k,l,m,nilS]] s (λw s'=>w=.agg [a,b,c,d,e,f,g,h,i,j,k,l,m,nilS]/\∃n,s'=n++s):=by
 refine hB.f159.cF ?_
 unfold SU
 refine Wq<|Wa (.box rfl rfl) λb1=>Wa (.alloc rfl) λb2=>Vk (k:=Ww<|Wc rfl rfl hB.Xd.iX ?_)
 rintro w _ ⟨rfl,rfl⟩
 refine Wf rfl<|Ww<|Wt rfl rfl rfl (.there .here) rfl rfl<|Vk (k:=We<|Wm (.cell rfl hB.t45.1 hB.t45.2 (.inl rfl) .here rfl rfl rfl .nil) ?_)
 exact⟨rfl,[_,_],rfl⟩
theorem gz.part {sz:Nat}{v:AV}{L:List (List AV)}{n:SH}(h:gz n sz v L)(hz:sz≠0):partCells 1 v=some [v]:=by
 cases h<;>rfl
theorem ac8 (hB:Base P K F T){x:ID}{v:AV}(hv:Src s 2 v (yu x.tg))(hn:x.tg.length<=1000):bB P K (F 162) [.agg (x.rw v)] s (λw s'=>∃v' n,w=.agg (x.rw v')/\s'=n++s/\gz n 2 v' (yu x.tg)):=by
 refine hB.f162.cF ?_
 unfold SV
 refine Wq<|Wa (.box rfl rfl) λb1=>Wa (.alloc rfl) λb2=>Wn<|Wq<|Wf rfl<|Wl rfl (.there .here) rfl rfl rfl<|Ww<|Wc rfl rfl (hB.NT.clone (hv.mono λp hp=>by simp[hp]) (by omega) (by simp only[yu,List.length_map];omega)<|by omega) ?_
 rintro w _ ⟨n,rfl,ho⟩
 refine Wf rfl<|Ww<|Wt rfl rfl (ho.part<|by omega) (.app<|.there .here) rfl rfl<|Vk (k:=Ww<|Wt rfl rfl rfl (.app .here) rfl rfl<|Wn<|We<|Wm (.cell rfl hB.t48.1 hB.t48.2 (.inl rfl) (.app .here) rfl rfl rfl .nil) ?_)
 exact⟨w,n++[_,_],rfl,by rw[List.append_assoc];rfl,ho.mono λp hp=>List.mem_append_left _ hp⟩
def R3 (sz:Nat)(v:AV)(L:List (List AV))(o:SH):Prop:=∃o' j,o.Perm (o'++j)/\Gr sz v L o'
theorem gz.grj {sz:Nat}{v:AV}{L:List (List AV)}{n:SH}(h:gz n sz v L):R3 sz v L n:=by
 obtain⟨o,x,y,h1,rfl⟩:=h.gr
 exact⟨o,x++y,ak λc w h0 h1 h2 _=>by simp only[h1];omega,h1⟩
theorem FnK.BV {f:FuncId}{sz bytes:Nat}{z:List AV}(h:FnK P K f 8 [.tmp 2] (qa sz bytes z)){v:AV}{L:List (List AV)}(hs:Src s sz v L)(hz:sz≠0)(h1:L.length<=901000)(h2:bytes<=100000):bB P K f [v] s (λv' s'=>∃n,s'=n++s/\R3 sz v' L n):=
 (h.clone hs hz h1 h2).post λv' s'⟨n,h1,h2⟩=>⟨n,h1,h2.grj⟩
theorem acP (hB:Base P K F T){v:AV}{L:List (List AV)}(h:Src s 14 v L)(h1:L.length<=900000)(hf:∀row∈L,∃a b c d e f g h i j k l m,row=[a,b,c,d,e,f,g,h,i,j,k,l,m,nilS]) :
  bB P K (F 158) [v,.func (F 159) [] []] s (λv' s'=>∃o,s'=o++s/\R3 14 v' L o):=by
 refine hB.W9.cF<|sS (λ_ a b _=>b=a) h (by omega) rfl h1 (by omega) (λrow hr=>?_) (λi0 row IV x=>?_) λv' L' o n hG hA=>?_
 ·obtain⟨a,b,c,d,e,f,g,h,i,j,k,l,m,rfl⟩:=hf row hr;rfl
 ·obtain⟨a,b,c,d,e,f,g,h,i,j,k,l,m,rfl⟩:=hf row (List.mem_of_getElem? IV)
  refine c6.func<|(Aj hB).post ?_
  rintro w _ ⟨rfl,n,rfl⟩
  exact⟨n,_,rfl,rfl,rfl⟩
 ·have:=hA.same
  subst this
  exact⟨o++n,by rw[List.append_assoc],o,n,.refl _,hG⟩
theorem mK (hB:Base P K F T){v:AV}{X:List ID}(h:SIt s v X)(h1:X.length<=1000)(h2:∀x∈X,x.tg.length<=1000) :
  bB P K (F 161) [v,.func (F 162) [] []] s (λv' s'=>∃o,s'=o++s/\GIt v' X o):=by
 obtain⟨L,hL,hS⟩:=h
 refine hB.Xb.cF<|sS (λi _ b m=>∃x v,X[i]?=some x/\b=x.rw v/\gz m 2 v (yu x.tg)) hL (by omega) rfl (by rw[hS.len];omega) (by omega) (λrow hr=>?_) (λi row hr x=>?_) λv' L' o n hG hA=>?_
 ·obtain⟨i,hi⟩:=List.getElem?_of_mem hr
  obtain⟨x,w,rfl,_⟩:=hS.get i row hi
  rfl
 ·obtain⟨it,w,rfl,hm,hw⟩:=hS.get i row hr
  refine c6.func<|(ac8 hB (hw.mono λp hp=>List.mem_append_right _ hp)<|h2 it<|List.mem_of_getElem? hm).post ?_
  rintro w' _ ⟨v',n,rfl,rfl,ho⟩
  exact⟨n,_,rfl,rfl,it,v',hm,rfl,ho⟩
 ·have:=hA.gn (by rw[hS.len];exact Nat.le_refl _)
  rw[hS.len,List.take_length]at this
  exact⟨o++n,by rw[List.append_assoc],L',o,n,hG,this,rfl⟩
theorem GIt.part {v:AV}{X:List ID}{n:SH}(h:GIt v X n):partCells 1 v=some [v]:=by
 obtain⟨_,_,_,h,_⟩:=h
 cases h<;>rfl
theorem ga (hB:Base P K F T){v:AV}{LL:List (List (List AV))}(h:SL s v LL)(h1:LL.length<=1000)(h2:∀bX∈LL,bX.length<=1000) :
  bB P K (F 160) [v,.func (F 51) [] []] s (λv' s'=>∃o,s'=o++s/\GL v' LL o):=by
 obtain⟨L,hL,hS⟩:=h
 refine hB.Xa.cF<|B6 (λi _ b m=>∃bX x',LL[i]?=some bX/\b=[x']/\gz m 1 x' bX) hL (by rw[hS.one.1];omega) (by omega) hS.one.2 (λi row hr x=>?_) λv' L' o n hG hA=>?_
 ·obtain⟨w,bX,rfl,hm,hw⟩:=hS.get i row hr
  refine c6.func<|(hB.VS.clone (hw.mono λp hp=>List.mem_append_right _ hp) (by omega) (by have:=h2 bX (List.mem_of_getElem? hm);omega)<|by omega).post ?_
  rintro w' _ ⟨n,rfl,ho⟩
  exact⟨n,[w'],rfl,ho.part<|by omega,bX,w',hm,rfl,ho⟩
 ·have:=hA.gi (by rw[hS.one.1];exact Nat.le_refl _)
  rw[hS.one.1,List.take_length]at this
  exact⟨o++n,by rw[List.append_assoc],L',o,n,hG,this,rfl⟩
theorem Src.same {sz:Nat}{v:AV}{L:List (List AV)}(h:Src s sz v L):dz v v=true:=by
 cases h with
 | nil=>simp[dz,sameN,same0]
 | @zero a c sl rw=>cases a<;>simp[dz,sameN,same0]
 | emp=>rfl
 | rows _ _=>simp[dz,sameN,same0]
theorem Gr.part {sz:Nat}{v:AV}{L:List (List AV)}{n:SH}(h:Gr sz v L n):partCells 1 v=some [v]:=by
 cases h<;>rfl
theorem R3.part {sz:Nat}{v:AV}{L:List (List AV)}{n:SH}(h:R3 sz v L n):partCells 1 v=some [v]:=by
 obtain⟨_,_,_,h⟩:=h
 exact h.part
theorem GL.part {v:AV}{LL:List (List (List AV))}{n:SH}(h:GL v LL n):partCells 1 v=some [v]:=by
 obtain⟨_,_,_,h,_⟩:=h
 exact h.part
theorem SI.mono {L:List (List AV)}{LL:List (List (List AV))}{s':SH}(h:SI s L LL)(hs:∀p,p∈s->p∈s'):SI s' L LL:=by
 induction h with
 | nil=>exact .nil
 | cons k1 k2 ih=>exact .cons (k1.mono hs) ih
theorem SL.mono {v:AV}{LL:List (List (List AV))}{s':SH}(h:SL s v LL)(hs:∀p,p∈s->p∈s'):SL s' v LL:=by
 obtain⟨L,h1,h2⟩:=h
 exact⟨L,h1.mono hs,h2.mono hs⟩
theorem SL.same {v:AV}{LL:List (List (List AV))}(h:SL s v LL):dz v v=true:=by
 obtain⟨L,h1,_⟩:=h
 exact h1.same
theorem DG (L:List OD):∀row∈fy L,∃a b c d e f g h i j k l m,row=[a,b,c,d,e,f,g,h,i,j,k,l,m,nilS]:=by
 intro row hr
 obtain⟨o,_,rfl⟩:=List.mem_map.1 hr
 exact⟨_,_,_,_,_,_,_,_,_,_,_,_,_,rfl⟩
theorem SIt.len {v:AV}{X:List ID}(h:SIt s v X):lenOf v=some X.length:=by
 obtain⟨L,h1,h2⟩:=h
 rw[h1.lenOf,h2.len]
theorem SIt.same {v:AV}{X:List ID}(h:SIt s v X):dz v v=true:=by
 obtain⟨L,h1,_⟩:=h
 exact h1.same
theorem gh {LL:List (List Int)}(h:LL.length<=1000/\∀bX∈LL,bX.length<=1000):(lA LL).length<=1000/\∀bX∈lA LL,bX.length<=1000:=by
 refine⟨by simp only[lA,List.length_map];exact h.1,λbX hl=>?_⟩
 obtain⟨l,hl',rfl⟩:=List.mem_map.1 hl
 simp only[nR,List.length_map]
 exact h.2 l hl'
theorem pull {o x n s:SH}(h:x=n++s):o++x=(o++n)++s:=by rw[h,List.append_assoc]
theorem eW {p q:Nat × HO}{s:SH}:p::q::s=[p,q]++s:=rfl
theorem aaN (hB:Base P K F T){v:AV}{L:List TG}(h:Kv s v L)(h1:L.length<=901000):bB P K (F 163) [v] s (λv' s'=>∃o j,GK v' L o/\s'=(o++j)++s):=by
 have hS:=h.src
 obtain⟨o,h2,h3⟩:=h
 cases h2 with
 | nil=>exact hB.NT.iX.post λv' s' hv=>⟨[],[],by rw[hv.1];exact .nil,by rw[hv.2];rfl⟩
 | @rows b L hL=>
  refine hB.NT.cF ?_
  unfold qa
  have hL2:yu L≠[]:=by simp[yu,hL]
  refine Wq<|Wv rfl<|Wn<|Ws<|Wq<|Wv rfl<|Wh (b:=false) rfl rfl rfl<|Wn<|Wd rfl (λht=>by cases ht)<|λht=>?_
  refine Wi<|Wq<|Wa (.bslice rfl rfl) λb=>Wv rfl ?_
  have hS':=hS.mono (s':=(b,HO.r false [] 2)::s) λp hp=>List.mem_cons_of_mem _ hp
  refine Ww<|WS.uM (L:=[]) rfl .here (Nat.le_refl _) rfl hS' (by decide) (by have:=List.length_pos_iff.2 hL2;omega) (by rw[yu,List.length_map];omega) (by decide) λb'=>Vk (k:=We<|Wm (.tmp rfl .nil) ?_)
  have:=GK.rows (b:=b') hL
  exact⟨[(b',.r false (yu L) 2)],[(b,.r false [] 2)],by simpa[yu]using this,rfl⟩
theorem aa3 (hB:Base P K F T){x:ID}{v:AV}(hv:Kv s v x.tg)(hn:x.tg.length<=901000):bB P K (F 162) [.agg (x.rw v)] s (λw s'=>∃v' o j,w=.agg (x.rw v')/\GK v' x.tg o/\s'=(o++j)++s):=by
 refine hB.f162.cF ?_
 unfold SV
 refine Wq<|Wa (.box rfl rfl) λb1=>Wa (.alloc rfl) λb2=>Vk (k:=Ww<|W1 (aaN hB (hv.mono λp hp=>by simp[hp]) hn) ?_)
 rintro w _ ⟨o,j,hg,rfl⟩
 refine Wf rfl<|Ww<|Wt rfl rfl hg.gr.part (.app<|.there .here) rfl rfl<|Vk (k:=Ww<|Wt rfl rfl rfl (.app .here) rfl rfl<|Wn<|We<|Wm (.cell rfl hB.t48.1 hB.t48.2 (.inl rfl) (.app .here) rfl rfl rfl .nil) ?_)
 have fin:∀q1 q2:Nat × HO,(o++j)++(q1::q2::s)=(o++(j++[q1,q2]))++s:=λq1 q2=>by simp
 exact⟨w,o,_,rfl,hg,fin _ _⟩
theorem mw (hB:Base P K F T){pv ov lv hv gv ev fv sv wv kv:AV}{d:SD}(h:mD s pv ov lv hv gv ev fv sv wv kv d)(hd:d.Small) :
  bB P K (F 107) [.agg (d.cells pv ov lv hv gv ev fv sv wv kv)] s (λv s'=>∃pv ov lv hv gv ev fv sv wv kv n,v=.agg (d.cells pv ov lv hv gv ev fv sv wv kv)/\s'=n++s/\iJ n pv ov lv hv gv ev fv sv wv kv d):=by
 obtain⟨h1,h2,h3,h4,h5,h6,h7,h8,h9,h10⟩:=h
 have hn:=hd.n1
 have hn3:=hd.n3
 refine hB.f107.cF ?_
 unfold SC
 refine Wq<|Wa (.box rfl rfl) λb1=>Wa (.alloc rfl) λb2=>Wn ?_
 -- yd
 refine Wq<|Wf rfl<|Wl rfl (.there .here) rfl rfl rfl<|Ww<|Wc rfl rfl (hB.W8.BV (h1.mono λp hp=>by simp[hp]) (by omega) (by simp only[Am,List.length_map];omega)<|by omega) ?_
 rintro v1 _ ⟨o1,rfl,g1⟩
 refine Wf rfl<|Ww<|Wt rfl rfl g1.part (.app<|.there .here) rfl rfl<|Wn ?_
 -- objects
 refine Wq<|Wf rfl<|Wl rfl (.app<|.there .here) rfl rfl rfl<|Ww<|Wc rfl rfl (acP hB (h2.mono λp hp=>by simp[hp]) (by simp only[fy,List.length_map];omega)<|DG _) ?_
 rintro v2 _ ⟨o2,rfl,g2⟩
 refine Wf rfl<|Ww<|Wt rfl rfl g2.part (.app<|.app<|.there .here) rfl rfl<|Wn<|Ws<|WP.bD<|Dp (.faddr rfl)<|Dl rfl .nil (.load rfl (.app<|.app<|.there .here) rfl rfl rfl)<|Dc .nil<|Wc rfl rfl (ga hB (h3.mono λp hp=>by simp[hp]) (gh<|hd.n2 _<|.inl rfl).1 (gh<|hd.n2 _<|.inl rfl).2) ?_
 rintro v3 _ ⟨o3,rfl,g3⟩
 refine Dp (.faddr rfl)<|WD.lk rfl .nil (.load rfl (.app<|.app<|.app<|.there .here) rfl rfl rfl)<|Dc .nil<|Wc rfl rfl (ga hB (h4.mono λp hp=>by simp[hp]) (gh<|hd.n2 _<|.inr<|.inl rfl).1 (gh<|hd.n2 _<|.inr<|.inl rfl).2) ?_
 rintro v4 _ ⟨o4,rfl,g4⟩
 refine Dp (.faddr rfl)<|Dc .nil<|Wt rfl rfl g3.part (.app<|.app<|.app<|.app<|.there .here) rfl rfl<|Dp (.faddr rfl)<|Dc .nil<|Wt rfl rfl g4.part (.app<|.app<|.app<|.app<|.there .here) rfl rfl<|D0 .nil ?_ ?_
 rotate_left
 ·intro o ho
  rw[List.mem_singleton.1 ho]
  refine⟨(λi hi=>nomatch hi),Nat.zero_le _,h4.same,λk _ hk=>?_⟩
  rcases j9 hk with rfl|rfl
  ·exact⟨_,rfl,.load rfl (.app<|.app<|.there .here) rfl rfl rfl⟩
  ·exact⟨_,rfl,.load rfl (.app<|.app<|.app<|.there .here) rfl rfl rfl⟩
 refine Ws<|WP.bD<|Dp (.faddr rfl)<|Dl rfl .nil (.load rfl (.app<|.app<|.app<|.app<|.there .here) rfl rfl rfl)<|Dc .nil<|Wc rfl rfl (ga hB (h5.mono λp hp=>by simp[hp]) (gh<|hd.n2 _<|.inr<|.inr<|.inl rfl).1 (gh<|hd.n2 _<|.inr<|.inr<|.inl rfl).2) ?_
 rintro v5 _ ⟨o5,rfl,g5⟩
 refine Dp (.faddr rfl)<|WD.lk rfl .nil (.load rfl (.app<|.app<|.app<|.app<|.app<|.there .here) rfl rfl rfl)<|Dc .nil<|Wc rfl rfl (ga hB (h6.mono λp hp=>by simp[hp]) (gh<|hd.n2 _<|.inr<|.inr<|.inr rfl).1 (gh<|hd.n2 _<|.inr<|.inr<|.inr rfl).2) ?_
 rintro v6 _ ⟨o6,rfl,g6⟩
 refine Dp (.faddr rfl)<|Dc .nil<|Wt rfl rfl g5.part (.app<|.app<|.app<|.app<|.app<|.app<|.there .here) rfl rfl<|Dp (.faddr rfl)<|Dc .nil<|Wt rfl rfl g6.part (.app<|.app<|.app<|.app<|.app<|.app<|.there .here) rfl rfl<|D0 .nil ?_ ?_
 rotate_left
 ·intro o ho
  rw[List.mem_singleton.1 ho]
  refine⟨(λi hi=>nomatch hi),Nat.zero_le _,h6.same,λk _ hk=>?_⟩
  rcases j9 hk with rfl|rfl
  ·exact⟨_,rfl,.load rfl (.app<|.app<|.app<|.app<|.there .here) rfl rfl rfl⟩
  ·exact⟨_,rfl,.load rfl (.app<|.app<|.app<|.app<|.app<|.there .here) rfl rfl rfl⟩
 refine Wq<|Wf rfl<|Wl rfl (.app<|.app<|.app<|.app<|.app<|.app<|.there .here) rfl rfl rfl<|Ww<|Wc rfl rfl (hB.VS.BV (h7.mono λp hp=>by simp[hp]) (by omega) (by simp only[nR,List.length_map];omega)<|by omega) ?_
 rintro v7 _ ⟨o7,rfl,g7⟩
 refine Wf rfl<|Ww<|Wt rfl rfl g7.part (.app<|.app<|.app<|.app<|.app<|.app<|.app<|.there .here) rfl rfl<|Wn<|Ws<|WP.bD<|Dp (.faddr rfl)<|Dl rfl .nil (.load rfl (.app<|.app<|.app<|.app<|.app<|.app<|.app<|.there .here) rfl rfl rfl)<|Dc .nil<|Wc rfl rfl (mK hB (h8.mono λp hp=>by simp[hp]) (by omega) hn3.2.1) ?_
 rintro v8 _ ⟨o8,rfl,g8⟩
 refine Dp (.faddr rfl)<|WD.lk rfl .nil (.load rfl (.app<|.app<|.app<|.app<|.app<|.app<|.app<|.app<|.there .here) rfl rfl rfl)<|Dc .nil<|Wc rfl rfl (mK hB (h9.mono λp hp=>by simp[hp]) (by omega) hn3.2.2) ?_
 rintro v9 _ ⟨o9,rfl,g9⟩
 refine Dp (.faddr rfl)<|Dc .nil<|Wt rfl rfl g8.part (.app<|.app<|.app<|.app<|.app<|.app<|.app<|.app<|.app<|.there .here) rfl rfl<|Dp (.faddr rfl)<|Dc .nil<|Wt rfl rfl g9.part (.app<|.app<|.app<|.app<|.app<|.app<|.app<|.app<|.app<|.there .here) rfl rfl<|D0 .nil ?_ ?_
 rotate_left
 ·intro o ho
  rw[List.mem_singleton.1 ho]
  refine⟨(λi hi=>nomatch hi),Nat.zero_le _,h9.same,λk _ hk=>?_⟩
  rcases j9 hk with rfl|rfl
  ·exact⟨_,rfl,.load rfl (.app<|.app<|.app<|.app<|.app<|.app<|.app<|.there .here) rfl rfl rfl⟩
  ·exact⟨_,rfl,.load rfl (.app<|.app<|.app<|.app<|.app<|.app<|.app<|.app<|.there .here) rfl rfl rfl⟩
 refine Vk (k:=Ww<|W1 (aaN hB (h10.mono λp hp=>by simp[hp])<|by omega) ?_)
 rintro v10 _ ⟨p10,j10,g10,rfl⟩
 refine Vk (k:=Ww<|Wt rfl rfl g10.gr.part (.app<|.app<|.app<|.app<|.app<|.app<|.app<|.app<|.app<|.app<|.there .here) rfl rfl<|Vk (k:=Ww<|Wt rfl rfl rfl (.app<|.app<|.app<|.app<|.app<|.app<|.app<|.app<|.app<|.app .here) rfl rfl<|Wn<|We<|Wm (.cell rfl hB.t41.1 hB.t41.2 (.inl rfl) (.app<|.app<|.app<|.app<|.app<|.app<|.app<|.app<|.app<|.app .here) rfl rfl rfl .nil) ?_))
 obtain⟨p1,j1,e1,g1⟩:=g1
 obtain⟨p2,j2,e2,g2⟩:=g2
 obtain⟨p7,j7,e7,g7⟩:=g7
 have fin:∀q1 q2,iJ ((p10++j10)++(o9++(o8++(o7++(o6++(o5++(o4++(o3++(o2++(o1++[q1,q2])))))))))) v1 v2 v3 v4 v5 v6 v7 v8 v9 v10 d:=λq1 q2=>by
  refine⟨p1,p2,o3,o4,o5,o6,p7,o8,o9,p10,j1++(j2++(j7++(j10++[q1,q2]))),ak λc w h0 h1 h2 hp=>?_,g1,g2,g3,g4,g5,g6,g7,g8,g9,g10⟩
  simp only[h1,h2,h0,hp _ _ e1,hp _ _ e2,hp _ _ e7]
  omega
 exact⟨v1,v2,v3,v4,v5,v6,v7,v8,v9,v10,_,rfl,pull<|pull<|pull<|pull<|pull<|pull<|pull<|pull<|pull<|pull eW,fin _ _⟩
theorem bB.perm {f:FuncId}{args:List AV}{s s':SH}{R:AV->SH->Prop}(hp:s.Perm s')(h:bB P K f args s R):bB P K f args s' R:=
 λH0 H hH=>h H0 H<|hH.perm hp.symm
theorem gd {a b:Int}:ieq a b=true↔a=b:=by
 cases a<;>cases b<;>simp[ieq]<;>omega
theorem rh (a b:Int):ieq a b=decide (a=b):=by
 cases h:ieq a b with
 | true=>simp[gd.1 h]
 | false=>
  have:¬a=b:=λe=>by rw[gd.2 e]at h;cases h
  simp[this]
theorem dh (a b:Int):eqBy 20 .pi (iv a) (iv b)=some (decide (a=b)):=by
 show some (ieq a b)=_
 rw[rh]
theorem C1 (hB:Base P K F T){o:OD}{id:Int}{b:Nat}{ro:Bool}(hb:Has b (.r ro [[iv id]] 1) s):bB P K (F 138) [.agg o.row,.ptr (some ⟨b,0,0⟩)] s (λw s'=>w=.bool (decide (o.id=id))/\∃m,s'=m++s):=by
 refine hB.f138.cF ?_
 unfold ST
 refine Vk (k:=λb1=>Wv rfl<|Wn<|Wq<|Wf rfl<|Wl rfl .here rfl rfl rfl<|Wl rfl (.there hb) rfl rfl rfl<|Wh rfl rfl (dh _ _)<|Wv rfl<|Wn<|We<|Wm (.tmp rfl .nil) ?_)
 exact⟨rfl,[_],rfl⟩
theorem I7 (hB:Base P K F T){n id:Int}{b:Nat}{ro:Bool}(hb:Has b (.r ro [[iv id]] 1) s):bB P K (F 293) [iv n,.ptr (some ⟨b,0,0⟩)] s (λw s'=>w=.bool (decide (n=id))/\∃m,s'=m++s):=by
 refine hB.f293.cF ?_
 unfold Tf
 refine Wq<|Wv rfl<|Wn<|Wq<|Wv rfl<|Wl rfl hb rfl rfl rfl<|Wh rfl rfl (dh _ _)<|Wv rfl<|Wn<|We<|Wm (.tmp rfl .nil) ?_
 exact⟨rfl,[],rfl⟩
def SD.find (d:SD)(id:Int):Option Nat:=d.ob.findIdx? λo=>decide (o.id=id)
def K2 (id:Int):List AV->Bool
 | .int _ n::_=>decide<|n=id
 | _=>false
theorem findIdx?_map' {α β:Type}(f:α->β)(p:β->Bool):∀(l:List α),(l.map f).findIdx? p=l.findIdx? λa=>p (f a):=by
 intro l
 induction l with
 | nil=>rfl
 | cons a l ih=>rw[List.map_cons,List.findIdx?_cons,List.findIdx?_cons,ih]
theorem lg (hB:Base P K F T){pv ov lv hv gv ev fv sv wv kv:AV}{d:SD}{id:Int}(h:Src s 14 ov (fy d.ob))(hd:d.Small) :
  bB P K (F 91) [.agg (d.cells pv ov lv hv gv ev fv sv wv kv),iv id] s (λw s'=>w=CV (d.find id)/\∃m,s'=m++s):=by
 have hn:=hd.n1
 refine hB.f91.cF ?_
 unfold a91
 refine Vk (k:=λb1=>Wa (.box rfl rfl) λb2=>Vk (k:=?_))
 have hidx:bB P K (F 106) [ov,.func (F 138) [] [.ptr (some ⟨b2,0,0⟩)]] ((b2,.r false [[iv id]] 1)::(b1,.r false [d.cells pv ov lv hv gv ev fv sv wv kv] 25)::s) (λw s'=>w=CV (d.find id)/\∃m,s'=m++s):=by
  refine hB.W6.cF<|vz (K2 id) (h.mono λp hp=>by simp[hp]) (by omega) (.inl rfl) (by simp only[fy,List.length_map];omega) ?_ ?_ ?_
  ·intro row hr
   obtain⟨o,_,rfl⟩:=List.mem_map.1 hr
   rfl
  ·intro row hr x
   obtain⟨o,_,rfl⟩:=List.mem_map.1 hr
   exact c6.func<|(C1 hB<|.app .here).post λw s'⟨h1,m,h2⟩=>⟨h1,m,h2⟩
  ·intro n
   have e:(fy d.ob).findIdx? (K2 id)=d.find id:=by
    unfold fy SD.find
    rw[findIdx?_map']
    rfl
   rw[e]
   exact⟨rfl,n++[_,_],by rw[List.append_assoc];rfl⟩
 refine Vk (k:=Ww<|Wc rfl rfl hidx ?_)
 rintro w _ ⟨rfl,m,rfl⟩
 refine Vk (k:=We<|Wm (.tmp rfl .nil) ?_)
 exact⟨rfl,m,rfl⟩
theorem qQ (hB:Base P K F T){pv ov lv hv gv ev fv sv wv kv:AV}{d:SD}(h:mD s pv ov lv hv gv ev fv sv wv kv d)(he:d.lb.length=d.pl.length/\d.hd.length=d.pl.length/\d.gr.length=d.pl.length/\d.ex.length=d.pl.length) :
  bB P K (F 137) [.agg (d.cells pv ov lv hv gv ev fv sv wv kv)] s (λw s'=>w=.bool true/\∃m,s'=m++s):=by
 refine hB.f137.cF ?_
 unfold SS
 have len:∀{v:AV}{LL:List (List Int)},SL s v (lA LL)->LL.length=d.pl.length->lenOf v=some d.pl.length:=by
  intro v LL ⟨L,h1,h2⟩ h3
  rw[h1.lenOf,h2.one.1]
  simp only[lA,List.length_map,h3]
 have lp:lenOf pv=some d.pl.length:=by rw[h.pl.lenOf];simp[Am]
 have eqs:eqBy 20 .pi (.int .i64<|.ofNat d.pl.length) (.int .i64<|.ofNat d.pl.length)=some true:=by
  show some (Nat.beq _ _)=_
  rw[dn]
 refine Vk (k:=λb1=>Wv rfl<|Wn<|Wq<|Wf rfl<|Wl rfl .here rfl rfl rfl<|Wr (.lenS rfl lp)<|Wv rfl<|Wn<|Wq<|Wf rfl<|Wl rfl .here rfl rfl rfl<|Wr (.lenS rfl<|len h.lb he.1)<|Wv rfl<|Wh rfl rfl eqs<|Wv rfl<|WO.guard rfl (λ_=>Wf rfl ?_)<|λh=>absurd rfl h)
 refine WO.guard rfl (λ_=>Wl rfl .here rfl rfl rfl ?_)<|λh=>absurd rfl h
 refine WO.guard rfl (λ_=>Wr (.lenS rfl<|len h.hd he.2.1) ?_)<|λh=>absurd rfl h
 refine WO.guard rfl (λ_=>Wv rfl ?_)<|λh=>absurd rfl h
 refine WO.guard rfl (λ_=>Wh rfl rfl eqs ?_)<|λh=>absurd rfl h
 refine Vk (k:=WO.guard rfl (λ_=>Wf rfl ?_)<|λh=>absurd rfl h)
 refine WO.guard rfl (λ_=>Wl rfl .here rfl rfl rfl ?_)<|λh=>absurd rfl h
 refine WO.guard rfl (λ_=>Wr (.lenS rfl<|len h.gr he.2.2.1) ?_)<|λh=>absurd rfl h
 refine WO.guard rfl (λ_=>Wv rfl ?_)<|λh=>absurd rfl h
 refine WO.guard rfl (λ_=>Wh rfl rfl eqs ?_)<|λh=>absurd rfl h
 refine Vk (k:=WO.guard rfl (λ_=>Wf rfl ?_)<|λh=>absurd rfl h)
 refine WO.guard rfl (λ_=>Wl rfl .here rfl rfl rfl ?_)<|λh=>absurd rfl h
 refine WO.guard rfl (λ_=>Wr (.lenS rfl<|len h.ex he.2.2.2) ?_)<|λh=>absurd rfl h
 refine WO.guard rfl (λ_=>Wv rfl ?_)<|λh=>absurd rfl h
 refine WO.guard rfl (λ_=>Wh rfl rfl eqs ?_)<|λh=>absurd rfl h
 refine Vk (k:=We<|Wm (.tmp rfl .nil) ?_)
 exact⟨rfl,[_],rfl⟩
theorem iJ.xS {n:SH}{pv ov lv hv gv ev fv sv wv kv:AV}{d:SD}(h:iJ n pv ov lv hv gv ev fv sv wv kv d):∃o r,n.Perm (o++r)/\Gr 14 ov (fy d.ob) o/\∀ov' l' o',Gr 14 ov' (fy l') o'->iJ (o'++r) pv ov' lv hv gv ev fv sv wv kv { d with ob:=l' }:=by
 obtain⟨o1,o2,o3,o4,o5,o6,o7,o8,o9,o10,j,hp,g1,g2,g3,g4,g5,g6,g7,g8,g9,g10⟩:=h.ex
 refine⟨o2,o1++(o3++(o4++(o5++(o6++(o7++(o8++(o9++(o10++j)))))))),ak λc w h0 h1 h2 hq=>by rw[hq _ _ hp];simp only[h1];omega,g2,λv' l' o' g'=>⟨o1,o',o3,o4,o5,o6,o7,o8,o9,o10,j,ak λc w h0 h1 h2 hq=>by simp only[h1];omega,g1,g',g3,g4,g5,g6,g7,g8,g9,g10⟩⟩
theorem iJ.TF {n:SH}{pv ov lv hv gv ev fv sv wv kv:AV}{d:SD}(h:iJ n pv ov lv hv gv ev fv sv wv kv d):∃o r,n.Perm (o++r)/\Gr 1 fv (nR d.fi) o/\∀fv' l' o',Gr 1 fv' (nR l') o'->iJ (o'++r) pv ov lv hv gv ev fv' sv wv kv { d with fi:=l' }:=by
 obtain⟨o1,o2,o3,o4,o5,o6,o7,o8,o9,o10,j,hp,g1,g2,g3,g4,g5,g6,g7,g8,g9,g10⟩:=h.ex
 refine⟨o7,o1++(o2++(o3++(o4++(o5++(o6++(o8++(o9++(o10++j)))))))),ak λc w h0 h1 h2 hq=>by rw[hq _ _ hp];simp only[h1];omega,g7,λv' l' o' g'=>⟨o1,o2,o3,o4,o5,o6,o',o8,o9,o10,j,ak λc w h0 h1 h2 hq=>by simp only[h1];omega,g1,g2,g3,g4,g5,g6,g',g8,g9,g10⟩⟩
theorem iJ.U9 {n:SH}{pv ov lv hv gv ev fv sv wv kv:AV}{d:SD}(h:iJ n pv ov lv hv gv ev fv sv wv kv d){p:Nat}(hp:p<d.lb.length):∃b c L T x bX oi r,lv=.slice (some ⟨b,0,0⟩) L.length c true 1/\p<L.length/\L[p]?=some [x]/\d.lb[p]?=some bX/\Gr 1 x (nR bX) oi/\n.Perm ((b,.r false (L++T) 1)::(oi++r)) /\
  ∀x' cQ eA,Gr 1 x' (nR cQ) eA->iJ ((b,.r false ((L++T).set p [x']) 1)::(eA++r)) pv ov lv hv gv ev fv sv wv kv { d with lb:=d.lb.set p cQ }:=by
 obtain⟨o1,o2,o3,o4,o5,o6,o7,o8,o9,o10,j,hq,g1,g2,g3,g4,g5,g6,g7,g8,g9,g10⟩:=h.ex
 obtain⟨L,o',oo,k1,k2,rfl⟩:=g3
 obtain⟨x,bX,oi,r1,e1,e2,e3,e4,e5⟩:=k2.at (p:=p)<|by simpa[lA]using hp
 have hl:=k2.len
 simp only[lA,List.length_map]at hl
 obtain⟨qd,e6,rfl⟩:∃qd,d.lb[p]?=some qd/\bX=nR qd:=by
  rw[lA,List.getElem?_map]at e2
  obtain⟨a,h1,h2⟩:=Option.map_eq_some_iff.1 e2
  exact⟨a,h1,h2.symm⟩
 cases k1 with
 | nil=>rw[<- hl]at hp;exact absurd hp<|Nat.not_lt_zero _
 | zero=>rw[<- hl]at hp;exact absurd hp<|Nat.not_lt_zero _
 | @rows b n0 c L T hn hc hc0=>
  subst hn
  refine⟨b,c,L,T,x,qd,oi,r1++(o1++(o2++(o4++(o5++(o6++(o7++(o8++(o9++(o10++j))))))))),rfl,by omega,e1,e6,e3,?_,λx' cQ eA g'=>⟨o1,o2,([(b,HO.r false ((L++T).set p [x']) 1)]++(eA++r1)),o4,o5,o6,o7,o8,o9,o10,j,?_,g1,g2,⟨L.set p [x'],[(b,HO.r false ((L++T).set p [x']) 1)],eA++r1,?_,?_,rfl⟩,g4,g5,g6,g7,g8,g9,g10⟩⟩
  ·exact ak λc w h0 h1 h2 vw=>by rw[vw _ _ hq];simp only[h1,h2,vw _ _ e4,h0];omega
  ·exact ak λc w h0 h1 h2 vw=>by simp only[h1,h2,h0];omega
  ·rw[List.set_append_left _ _ (by omega)]
   exact .rows (by rw[List.length_set]) (by rw[List.length_set];exact hc) hc0
  ·have:=e5 x' (nR cQ) eA g'
   rw[lA,List.map_set]
   exact this
theorem iJ.Uo {n:SH}{pv ov lv hv gv ev fv sv wv kv:AV}{d:SD}(h:iJ n pv ov lv hv gv ev fv sv wv kv d){p:Nat}(hp:p<d.hd.length):∃b c L T x bX oi r,hv=.slice (some ⟨b,0,0⟩) L.length c true 1/\p<L.length/\L[p]?=some [x]/\d.hd[p]?=some bX/\Gr 1 x (nR bX) oi/\n.Perm ((b,.r false (L++T) 1)::(oi++r)) /\
  ∀x' cQ eA,Gr 1 x' (nR cQ) eA->iJ ((b,.r false ((L++T).set p [x']) 1)::(eA++r)) pv ov lv hv gv ev fv sv wv kv { d with hd:=d.hd.set p cQ }:=by
 obtain⟨o1,o2,o3,o4,o5,o6,o7,o8,o9,o10,j,hq,g1,g2,g3,g4,g5,g6,g7,g8,g9,g10⟩:=h.ex
 obtain⟨L,o',oo,k1,k2,rfl⟩:=g4
 obtain⟨x,bX,oi,r1,e1,e2,e3,e4,e5⟩:=k2.at (p:=p)<|by simpa[lA]using hp
 have hl:=k2.len
 simp only[lA,List.length_map]at hl
 obtain⟨qd,e6,rfl⟩:∃qd,d.hd[p]?=some qd/\bX=nR qd:=by
  rw[lA,List.getElem?_map]at e2
  obtain⟨a,h1,h2⟩:=Option.map_eq_some_iff.1 e2
  exact⟨a,h1,h2.symm⟩
 cases k1 with
 | nil=>rw[<- hl]at hp;exact absurd hp<|Nat.not_lt_zero _
 | zero=>rw[<- hl]at hp;exact absurd hp<|Nat.not_lt_zero _
 | @rows b n0 c L T hn hc hc0=>
  subst hn
  refine⟨b,c,L,T,x,qd,oi,r1++(o1++(o2++(o3++(o5++(o6++(o7++(o8++(o9++(o10++j))))))))),rfl,by omega,e1,e6,e3,?_,λx' cQ eA g'=>⟨o1,o2,o3,([(b,HO.r false ((L++T).set p [x']) 1)]++(eA++r1)),o5,o6,o7,o8,o9,o10,j,?_,g1,g2,g3,⟨L.set p [x'],[(b,HO.r false ((L++T).set p [x']) 1)],eA++r1,?_,?_,rfl⟩,g5,g6,g7,g8,g9,g10⟩⟩
  ·exact ak λc w h0 h1 h2 vw=>by rw[vw _ _ hq];simp only[h1,h2,vw _ _ e4,h0];omega
  ·exact ak λc w h0 h1 h2 vw=>by simp only[h1,h2,h0];omega
  ·rw[List.set_append_left _ _ (by omega)]
   exact .rows (by rw[List.length_set]) (by rw[List.length_set];exact hc) hc0
  ·have:=e5 x' (nR cQ) eA g'
   rw[lA,List.map_set]
   exact this
theorem iJ.T3 {n:SH}{pv ov lv hv gv ev fv sv wv kv:AV}{d:SD}(h:iJ n pv ov lv hv gv ev fv sv wv kv d){p:Nat}(hp:p<d.gr.length):∃b c L T x bX oi r,gv=.slice (some ⟨b,0,0⟩) L.length c true 1/\p<L.length/\L[p]?=some [x]/\d.gr[p]?=some bX/\Gr 1 x (nR bX) oi/\n.Perm ((b,.r false (L++T) 1)::(oi++r)) /\
  ∀x' cQ eA,Gr 1 x' (nR cQ) eA->iJ ((b,.r false ((L++T).set p [x']) 1)::(eA++r)) pv ov lv hv gv ev fv sv wv kv { d with gr:=d.gr.set p cQ }:=by
 obtain⟨o1,o2,o3,o4,o5,o6,o7,o8,o9,o10,j,hq,g1,g2,g3,g4,g5,g6,g7,g8,g9,g10⟩:=h.ex
 obtain⟨L,o',oo,k1,k2,rfl⟩:=g5
 obtain⟨x,bX,oi,r1,e1,e2,e3,e4,e5⟩:=k2.at (p:=p)<|by simpa[lA]using hp
 have hl:=k2.len
 simp only[lA,List.length_map]at hl
 obtain⟨qd,e6,rfl⟩:∃qd,d.gr[p]?=some qd/\bX=nR qd:=by
  rw[lA,List.getElem?_map]at e2
  obtain⟨a,h1,h2⟩:=Option.map_eq_some_iff.1 e2
  exact⟨a,h1,h2.symm⟩
 cases k1 with
 | nil=>rw[<- hl]at hp;exact absurd hp<|Nat.not_lt_zero _
 | zero=>rw[<- hl]at hp;exact absurd hp<|Nat.not_lt_zero _
 | @rows b n0 c L T hn hc hc0=>
  subst hn
  refine⟨b,c,L,T,x,qd,oi,r1++(o1++(o2++(o3++(o4++(o6++(o7++(o8++(o9++(o10++j))))))))),rfl,by omega,e1,e6,e3,?_,λx' cQ eA g'=>⟨o1,o2,o3,o4,([(b,HO.r false ((L++T).set p [x']) 1)]++(eA++r1)),o6,o7,o8,o9,o10,j,?_,g1,g2,g3,g4,⟨L.set p [x'],[(b,HO.r false ((L++T).set p [x']) 1)],eA++r1,?_,?_,rfl⟩,g6,g7,g8,g9,g10⟩⟩
  ·exact ak λc w h0 h1 h2 vw=>by rw[vw _ _ hq];simp only[h1,h2,vw _ _ e4,h0];omega
  ·exact ak λc w h0 h1 h2 vw=>by simp only[h1,h2,h0];omega
  ·rw[List.set_append_left _ _ (by omega)]
   exact .rows (by rw[List.length_set]) (by rw[List.length_set];exact hc) hc0
  ·have:=e5 x' (nR cQ) eA g'
   rw[lA,List.map_set]
   exact this
theorem iJ.TE {n:SH}{pv ov lv hv gv ev fv sv wv kv:AV}{d:SD}(h:iJ n pv ov lv hv gv ev fv sv wv kv d){p:Nat}(hp:p<d.ex.length):∃b c L T x bX oi r,ev=.slice (some ⟨b,0,0⟩) L.length c true 1/\p<L.length/\L[p]?=some [x]/\d.ex[p]?=some bX/\Gr 1 x (nR bX) oi/\n.Perm ((b,.r false (L++T) 1)::(oi++r)) /\
  ∀x' cQ eA,Gr 1 x' (nR cQ) eA->iJ ((b,.r false ((L++T).set p [x']) 1)::(eA++r)) pv ov lv hv gv ev fv sv wv kv { d with ex:=d.ex.set p cQ }:=by
 obtain⟨o1,o2,o3,o4,o5,o6,o7,o8,o9,o10,j,hq,g1,g2,g3,g4,g5,g6,g7,g8,g9,g10⟩:=h.ex
 obtain⟨L,o',oo,k1,k2,rfl⟩:=g6
 obtain⟨x,bX,oi,r1,e1,e2,e3,e4,e5⟩:=k2.at (p:=p)<|by simpa[lA]using hp
 have hl:=k2.len
 simp only[lA,List.length_map]at hl
 obtain⟨qd,e6,rfl⟩:∃qd,d.ex[p]?=some qd/\bX=nR qd:=by
  rw[lA,List.getElem?_map]at e2
  obtain⟨a,h1,h2⟩:=Option.map_eq_some_iff.1 e2
  exact⟨a,h1,h2.symm⟩
 cases k1 with
 | nil=>rw[<- hl]at hp;exact absurd hp<|Nat.not_lt_zero _
 | zero=>rw[<- hl]at hp;exact absurd hp<|Nat.not_lt_zero _
 | @rows b n0 c L T hn hc hc0=>
  subst hn
  refine⟨b,c,L,T,x,qd,oi,r1++(o1++(o2++(o3++(o4++(o5++(o7++(o8++(o9++(o10++j))))))))),rfl,by omega,e1,e6,e3,?_,λx' cQ eA g'=>⟨o1,o2,o3,o4,o5,([(b,HO.r false ((L++T).set p [x']) 1)]++(eA++r1)),o7,o8,o9,o10,j,?_,g1,g2,g3,g4,g5,⟨L.set p [x'],[(b,HO.r false ((L++T).set p [x']) 1)],eA++r1,?_,?_,rfl⟩,g7,g8,g9,g10⟩⟩
  ·exact ak λc w h0 h1 h2 vw=>by rw[vw _ _ hq];simp only[h1,h2,vw _ _ e4,h0];omega
  ·exact ak λc w h0 h1 h2 vw=>by simp only[h1,h2,h0];omega
  ·rw[List.set_append_left _ _ (by omega)]
   exact .rows (by rw[List.length_set]) (by rw[List.length_set];exact hc) hc0
  ·have:=e5 x' (nR cQ) eA g'
   rw[lA,List.map_set]
   exact this
variable {j:Nat}{bs:List Nat}{pd:List PD}{d:Option Nat}{op:AOp}{lo hi a:Nat}{rest:List DC}{v:AV}{hs:List SH}{os:List OB}{is:List Nat}
theorem kZ {ops:List Oper}{g:Option (Nat × Bool)}{jj:Nat}{w:Bool}(h:cg ops g=some (some (jj,w))):∃k o,g=some (k,w)/\dJ ops k=some o/\o.dst=some jj:=by
 cases g with
 | none=>cases h
 | some x=>
  obtain⟨k,w'⟩:=x
  unfold cg at h
  dsimp only at h
  split at h
  ·rename_i o ho
   split at h
   ·rename_i d0 Un
    cases h
    exact⟨k,o,rfl,ho,Un⟩
   ·cases h
  ·cases h
theorem aaS {ops:Array Oper}{e:Tr AV}{k jj:Nat}{w b:Bool}{o:Oper}(h1:dJ ops.toList k=some o)(h2:o.dst=some jj)(h3:e.get jj=some (.bool b)):wanted e ops (some (k,w))=some (b==w):=by
 unfold wanted
 simp only[h1,h2,h3]
theorem WD.yes {jj:Nat}{w b:Bool}{cls:Ki}(h:WD P K rd (⟨⟨d,op,none⟩,cls,lo,hi,a⟩::rest) j bs pd hs os is l ds s Q)(hj:Go.Ev.lk l jj=some (.bool b):=by rfl)(hb:b=w:=by rfl):WD P K rd (⟨⟨d,op,some (jj,w)⟩,cls,lo,hi,a⟩::rest) j bs pd hs os is l ds s Q:=by
 subst hb
 intro ops aC l0 hd H0 S hS
 obtain⟨d0,r0,rfl,h1,h2,h3,h4,h5,h6,h7,h8⟩:=gF hd
 obtain⟨k,o,g1,g2,g3⟩:=kZ h3
 have hw:wanted S.e ops d0.o.guard=some true:=by
  rw[g1,aaS g2 g3<|hS.en _ _ hj,beq_self_eq_true]
 have hd':dcs ops.toList aC j ({ d0 with o:={ d0.o with guard:=none } }::r0)=some (⟨⟨d,op,none⟩,cls,lo,hi,a⟩::rest):=by
  unfold dcs
  simp only[cg,h7,h8,h1,h2,h4,h5,h6]
 obtain⟨n,S',k1,k2⟩:=h ops aC _ hd' H0 S hS
 refine⟨n,S',?_,k2⟩
 obtain⟨S1,j1,j2⟩:=(ah _ _ _ _ _).1 k1
 refine(ah _ _ _ _ _).2 ⟨S1,?_,j2⟩
 rw[<- j1]
 unfold dstep
 simp only[hw]
 rfl
theorem Dy:type_of% @WD.yes:=@WD.yes
theorem WD.skip {jj:Nat}{w b:Bool}{cls:Ki}(h:WD P K rd rest (j+1) bs pd hs os is (pl d .undef l) ds s Q)(hj:Go.Ev.lk l jj=some (.bool b):=by rfl)(hb:(b==w)=false:=by rfl)(hc:(match cls with | .pure=>true | .read=>true | _=>false)=true:=by rfl):WD P K rd (⟨⟨d,op,some (jj,w)⟩,cls,lo,hi,a⟩::rest) j bs pd hs os is l ds s Q:=by
 intro ops aC l0 hd H0 S hS
 obtain⟨d0,r0,rfl,h1,h2,h3,h4,h5,h6,h7,h8⟩:=gF hd
 obtain⟨k,o,g1,g2,g3⟩:=kZ h3
 have hw:wanted S.e ops d0.o.guard=some false:=by
  rw[g1,aaS g2 g3<|hS.en _ _ hj,hb]
 obtain⟨n,S',k1,k2⟩:=h ops aC r0 h8 H0 { S with e:=Ev.putO S.e d .undef,j:=Nat.succ S.j } ⟨hS.en.putO d _,hS.ds,hS.hp,by show S.j+1=_;rw[hS.j],hS.bs,hS.pd,hS.hs,hS.os,hS.pi,hS.mi⟩
 refine⟨n,S',(ah _ _ _ _ _).2 ⟨_,?_,k1⟩,k2⟩
 unfold dstep
 simp only[hw,h4,h1]
 cases cls<;>first | rfl | cases hc
theorem Dk:type_of% @WD.skip:=@WD.skip
theorem WD.jm {jj:Nat}{w b:Bool}(hj:Go.Ev.lk l jj=some (.bool b))(hb:(b==w)=false)(h:WD P K rd rest (j+1) bs pd (s::hs) os is (pl d .undef l) ds s Q):WD P K rd (⟨⟨d,op,some (jj,w)⟩,.chain,lo,hi,a⟩::rest) j bs pd hs os is l ds s Q:=by
 intro ops aC l0 hd H0 S hS
 obtain⟨d0,r0,rfl,h1,h2,h3,h4,h5,h6,h7,h8⟩:=gF hd
 obtain⟨k,o,g1,g2,g3⟩:=kZ h3
 have hw:wanted S.e ops d0.o.guard=some false:=by
  rw[g1,aaS g2 g3<|hS.en _ _ hj,hb]
 obtain⟨n,S',k1,k2⟩:=h ops aC r0 h8 H0 { S with e:=Ev.putO S.e d .undef,Hs:=S.H::S.Hs,j:=Nat.succ S.j } ⟨hS.en.putO d _,hS.ds,hS.hp,by show S.j+1=_;rw[hS.j],hS.bs,hS.pd,⟨hS.hp,hS.hs⟩,hS.os,hS.pi,hS.mi⟩
 refine⟨n,S',(ah _ _ _ _ _).2 ⟨_,?_,k1⟩,k2⟩
 unfold dstep
 simp only[hw,h4,h1]
theorem WO.yes {jj:Nat}{w b:Bool}{rest:List bS}(h:WO P K (⟨d,op,none⟩::rest) l ds s Q)(hj:Go.Ev.lk l jj=some (.bool b):=by rfl)(hb:b=w:=by rfl):WO P K (⟨d,op,some (jj,w)⟩::rest) l ds s Q:=
 WO.guard hj (λ_=>h) (λh=>absurd hb h)
theorem Wy:type_of% @WO.yes:=@WO.yes
theorem WO.skip {jj:Nat}{w b:Bool}{rest:List bS}(h:WO P K rest (pl d .undef l) ds s Q)(hj:Go.Ev.lk l jj=some (.bool b):=by rfl)(hb:(b==w)=false:=by rfl):WO P K (⟨d,op,some (jj,w)⟩::rest) l ds s Q:=
 WO.guard hj (λh=>by subst h;rw[beq_self_eq_true]at hb;cases hb) (λ_=>h)
theorem Wk:type_of% @WO.skip:=@WO.skip
theorem oV {ops:Array Oper}{e:Tr AV}{k jj:Nat}{w:Bool}{o:Oper}(h1:dJ ops.toList k=some o)(h2:o.dst=some jj)(h3:e.get jj=some .undef):wanted e ops (some (k,w))=some false:=by
 unfold wanted
 simp only[h1,h2,h3]
 rfl
theorem WD.kg {jj:Nat}{w:Bool}{cls:Ki}(hj:Go.Ev.lk l jj=some .undef)(hc:(match cls with | .pure=>true | .read=>true | _=>false)=true)(h:WD P K rd rest (j+1) bs pd hs os is (pl d .undef l) ds s Q):WD P K rd (⟨⟨d,op,some (jj,w)⟩,cls,lo,hi,a⟩::rest) j bs pd hs os is l ds s Q:=by
 intro ops aC l0 hd H0 S hS
 obtain⟨d0,r0,rfl,h1,h2,h3,h4,h5,h6,h7,h8⟩:=gF hd
 obtain⟨k,o,g1,g2,g3⟩:=kZ h3
 have hw:wanted S.e ops d0.o.guard=some false:=by
  rw[g1,oV g2 g3<|hS.en _ _ hj]
 obtain⟨n,S',k1,k2⟩:=h ops aC r0 h8 H0 { S with e:=Ev.putO S.e d .undef,j:=Nat.succ S.j } ⟨hS.en.putO d _,hS.ds,hS.hp,by show S.j+1=_;rw[hS.j],hS.bs,hS.pd,hS.hs,hS.os,hS.pi,hS.mi⟩
 refine⟨n,S',(ah _ _ _ _ _).2 ⟨_,?_,k1⟩,k2⟩
 unfold dstep
 simp only[hw,h4,h1]
 cases cls<;>first | rfl | cases hc
theorem WO.kg {jj:Nat}{w:Bool}{rest:List bS}(hj:Go.Ev.lk l jj=some .undef)(h:WO P K rest (pl d .undef l) ds s Q):WO P K (⟨d,op,some (jj,w)⟩::rest) l ds s Q:=by
 intro nt ops l0 hl H0 e H he hH
 cases l0 with
 | nil=>cases hl
 | cons x l0=>
  obtain⟨c,cs,g1,g2,g3⟩:=(aV _ x l0 _).1 hl
  cases g3
  obtain⟨k,o,hc,ho,hd⟩:∃k o,cOper P nt x=⟨d,op,some (k,w)⟩/\dJ ops.toList k=some o/\o.dst=some jj:=by
   unfold co at g1
   generalize cOper P nt x=z at g1 |-
   obtain⟨d',op',g'⟩:=z
   dsimp only at g1
   split at g1
   ·rename_i g hg
    cases g1
    obtain⟨k,o,rfl,h1,h2⟩:=kZ hg
    exact⟨k,o,rfl,h1,h2⟩
   ·cases g1
  obtain⟨e',ds',H',l',s',j1,j2,j3,j4⟩:=h nt ops l0 g2 H0 (putO e d .undef) H (he.putO d .undef) hH
  exact⟨_,_,_,_,_,fj.pass hc (oV ho hd<|he _ _ hj) j1,j2,j3,j4⟩
theorem Wu:type_of% @WO.kg:=@WO.kg
theorem WD.dm {b:Nat}(k:WD P K rd rest (j+1) bs (⟨j,b,.m []⟩::pd) hs os (j::is) (pl d (.map (some b)) l) ds s Q):WD P K rd (⟨⟨d,.mkmap,none⟩,.dmap,lo,hi,a⟩::rest) j (b::bs) pd hs os is l ds s Q:=by
 refine WD.step rfl ?_ k
 intro ops aC d0 H0 S h1 h2 h3 h4 h5 h6 h7 hS
 obtain⟨rfl,hb⟩:=hS.bs
 refine⟨0,{ S with e:=Ev.putO S.e d<|.map<|some S.cG,j:=Nat.succ S.j,cG:=Nat.succ S.cG,pend:=⟨S.j,S.cG,.map [],0,[]⟩::S.pend },?_,⟨hS.en.putO d _,hS.ds,hS.hp,by show S.j+1=_;rw[hS.j],hb,⟨⟨hS.j,rfl,(λh=>by cases h),rfl⟩,hS.pd⟩,hS.hs,hS.os,λp hp=>?_,λp hp=>List.mem_cons_of_mem _<|hS.mi p hp⟩⟩
 ·unfold dstep
  rw[h3,h4]
  simp only[wanted,h2,allocOf,h1]
 ·cases hp with
  | head=>rw[show(⟨S.j,S.cG,.map [],0,[]⟩:aF).i=j from hS.j];exact List.mem_cons_self ..
  | tail _ hp=>exact List.mem_cons_of_mem _<|hS.pi p hp
theorem WD.gV {b i:Nat}{lit:Bool}{kk:dC}{m q x:Operand}{kv vv:AV}{es:List (AV × AV)}(hm:opl l m=some (.map (some b)))(hk:opl l q=some kv)(hx:opl l x=some vv)(ha:bit a i=true)(hl:lookIn kk kv es=some none)(hp:primEq kk kv kv=some true)
  (k:WD P K rd rest (j+1) bs [⟨i,b,.m<|bI es [(kv,vv)]⟩] hs os is (pl d .undef l) ds s Q):WD P K rd (⟨⟨d,.ins lit kk m q x,none⟩,.abl,lo,hi,a⟩::rest) j bs [⟨i,b,.m es⟩] hs os is l ds s Q:=by
 refine WD.step rfl ?_ k
 intro ops aC d0 H0 S h1 h2 h3 h4 h5 h6 h7 hS
 obtain⟨p,hp1,q1,q2,q3,q4⟩:∃p,S.pend=[p]/\p.i=i/\p.id=b/\p.o=.map es/\p.i∈is:=by
  have h:=hS.pd
  have tj:=hS.pi
  cases YT:S.pend with
  | nil=>rw[YT]at h;exact h.elim
  | cons p ps=>
   rw[YT]at h
   cases ps with
   | nil=>
    obtain⟨⟨w1,w2,w3,w4⟩,_⟩:=h
    exact⟨p,rfl,w1,w2,Option.some.inj w4,tj p (by rw[YT];exact List.mem_cons_self ..)⟩
   | cons _ _=>exact h.2.elim
 refine⟨0,{ S with e:=Ev.putO S.e d .undef,j:=Nat.succ S.j,pend:=[⟨p.i,p.id,.map<|bI es [(kv,vv)],Nat.lor p.ins<|Nat.shiftLeft 1 j,bI p.kP [(j,kv,vv)]⟩] },?_,⟨hS.en.putO d _,hS.ds,hS.hp,by show S.j+1=_;rw[hS.j],hS.bs,⟨⟨q1,q2,(λh=>by cases h),rfl⟩,trivial⟩,hS.hs,hS.os,λp' CL=>?_,hS.mi⟩⟩
 ·have CE:ib kk kv vv b j a [p]=some (true,[⟨p.i,p.id,.map<|bI es [(kv,vv)],Nat.lor p.ins<|Nat.shiftLeft 1 j,bI p.kP [(j,kv,vv)]⟩]):=by
   unfold ib
   refine(ah _ _ _ _ _).2 ⟨_,?_,rfl⟩
   rw[q2,dn,q1,ha,q3]
   dsimp only
   rw[hl]
   dsimp only
   rw[hp]
  unfold dstep
  rw[h3,h4,hS.j]
  simp only[wanted,h7,h2,aG hS.en hm,aG hS.en hk,aG hS.en hx,hp1,CE,h1]
  try rw[hS.j]
 ·rw[List.mem_singleton.1 CL]
  exact q4
theorem eT (a b:Int):binV .lss (iv a) (iv b)=some (.bool (decide (a<b))):=by show some (AV.bool (ilt a b))=_;rw[du]
theorem xA (a b:Int):binV .gtr (iv a) (iv b)=some (.bool (decide (b<a))):=by show some (AV.bool (ilt b a))=_;rw[du]
theorem th (a b:Int):binV .geq (iv a) (iv b)=some (.bool (!decide (a<b))):=by show some (AV.bool (!ilt a b))=_;rw[du]
theorem WD.n0 {j:Nat}{bs:List Nat}{hs:List SH}{is:List Nat}(h:Q l ds s):WD P K rd [] j bs [] hs [] is l ds s Q:=D0 .nil h (λo h=>nomatch h)
theorem Vr {G X:Prop} (h:X/\True->G:=by
  intro k
  repeat (first
   | refine Ws ?_
   | refine Wo ?_
   | refine Wv rfl ?_
   | refine Wn ?_
   | refine Wf rfl ?_
   | refine Wy ?_
   | refine Wk ?_
   | refine Wu rfl ?_
   | refine Wr (.extract rfl rfl) ?_
   | refine Wr (.nilchk rfl rfl) ?_
   | refine Wr (.bj rfl rfl) ?_
   | refine Wr (.uS rfl rfl) ?_
   | refine Wr (.fld rfl rfl) ?_
   | refine Wr (.un rfl rfl) ?_
   | refine Wr (.mkif rfl rfl) ?_
   | refine Wr (.mkfn rfl rfl) ?_
   | refine Wr (.build rfl rfl) ?_
   | (apply Wr;(focus (apply WR.look;exact rfl;exact rfl;exact zP;exact rfl)))
   | refine Wi ?_
   | refine Wb ?_
   | refine Wd rfl fS<|λ_=>?_
   | refine Wd rfl (λ_=>?_) Dz
   | refine Wr .ld ?_
   | (apply Wr;(focus (apply WR.arith;exact rfl;exact rfl;assumption)))
   | (apply Wr;(focus (apply WR.arith;exact rfl;exact rfl;exact bM (by omega))))
   | (apply Wr;(focus (apply WR.arith (v:=.bool true);exact rfl;exact rfl;exact rfl)))
   | (apply Wr;(focus (apply WR.arith (v:=.bool false);exact rfl;exact rfl;exact rfl)))
   | (apply Wr;(focus (apply WR.arith;exact rfl;exact rfl;exact eT _ _)))
   | (apply Wr;(focus (apply WR.arith;exact rfl;exact rfl;exact th _ _)))
   | (apply Wr;(focus (apply WR.arith;exact rfl;exact rfl;exact xA _ _)))
   | (apply Wr;(focus (apply WR.arith;exact rfl;exact rfl;exact rfl)))
   | (apply Wr;(focus (apply WR.eql;exact rfl;exact rfl;assumption)))
   | (apply Wr;(focus (apply WR.eql (b:=true);exact rfl;exact rfl;exact rfl)))
   | (apply Wr;(focus (apply WR.eql (b:=false);exact rfl;exact rfl;exact rfl)))
   | (apply Wr;(focus (apply WR.eql;exact rfl;exact rfl;exact dh _ _)))
   | (apply Wr;(focus (apply WR.eql;exact rfl;exact rfl;exact rfl)))
   | (apply Wr;(focus (apply WR.lenS;exact rfl;(first | assumption | exact rfl))))
   | (apply Wr;(focus (apply WR.convI;exact rfl;(first | assumption | exact rfl))))
   | (apply Wr;(focus (apply WR.iaddrS;exact rfl;exact rfl;(first | assumption | omega);decide)))
   | refine Dp (.mv rfl) ?_
   | refine Dp (.faddr rfl) ?_
   | refine Dy ?_
   | refine Dk ?_
   | refine WD.kg rfl rfl ?_
   | refine Dp (.nilchk rfl rfl) ?_
   | refine Dp (.bj rfl rfl) ?_
   | refine Dp (.uS rfl rfl) ?_
   | refine Dp (.extract rfl rfl) ?_
   | refine Dp (.fld rfl rfl) ?_
   | refine Dp (.un rfl rfl) ?_
   | refine Dp (.mkif rfl rfl) ?_
   | refine Dp (.mkfn rfl rfl) ?_
   | refine Dp (.build rfl rfl) ?_
   | (apply Dp;(focus (apply WR.arith;exact rfl;exact rfl;assumption)))
   | (apply Dp;(focus (apply WR.arith (v:=.bool true);exact rfl;exact rfl;exact rfl)))
   | (apply Dp;(focus (apply WR.arith (v:=.bool false);exact rfl;exact rfl;exact rfl)))
   | (apply Dp;(focus (apply WR.arith;exact rfl;exact rfl;exact rfl)))
   | (apply Dp;(focus (apply WR.eql;exact rfl;exact rfl;assumption)))
   | (apply Dp;(focus (apply WR.eql;exact rfl;exact rfl;exact dh _ _)))
   | (apply Dp;(focus (apply WR.eql (b:=true);exact rfl;exact rfl;exact rfl)))
   | (apply Dp;(focus (apply WR.eql (b:=false);exact rfl;exact rfl;exact rfl)))
   | (apply Dp;(focus (apply WR.eql;exact rfl;exact rfl;exact rfl)))
   | (apply Dp;(focus (apply WR.lenS;exact rfl;(first | assumption | exact rfl))))
   | (apply Dp;(focus (apply WR.convI;exact rfl;(first | assumption | exact rfl))))
   | (apply Dp;(focus (apply WR.iaddrA;exact rfl;exact rfl;(first | assumption | decide))))
   | (apply Dp;(focus (apply WR.iaddrS;exact rfl;exact rfl;(first | assumption | omega);decide)))
   | refine Dl rfl .nil .ld ?_
   | refine WP.bD ?_
   | refine WD.n0 ?_
   | refine We<|Wm .nil ?_
   | refine We<|Wm (.tmp rfl .nil) ?_
   | refine We<|Wm (.tmp rfl<|.tmp rfl .nil) ?_
   | refine Wx ?_
   | refine Ww<|WS.st ?_
   | (refine Ww (WS.ins ?_ ?_ ?_ ?_ ?_ ?_);exact rfl;exact rfl;exact rfl;exact uP;exact rfl))
  first
   | (refine Wa (.box rfl rfl) ?_;exact k.1)
   | (refine Wa (.alloc rfl) ?_;exact k.1)
   | exact k.1) (k:X):G:=h ⟨k,trivial⟩
def WH (bw:Nat)(d:SD)(t s:SH):Prop:=∃pv ov lv hv gv ev fv sv wv kv n,s.Perm ((bw,.r false [d.cells pv ov lv hv gv ev fv sv wv kv] 25)::(n++t))/\iJ n pv ov lv hv gv ev fv sv wv kv d
theorem iJ.bK {n m:SH}{pv ov lv hv gv ev fv sv wv kv:AV}{d:SD}(h:iJ n pv ov lv hv gv ev fv sv wv kv d):iJ (m++n) pv ov lv hv gv ev fv sv wv kv d:=by
 obtain⟨o1,o2,o3,o4,o5,o6,o7,o8,o9,o10,j,hp,g⟩:=h.ex
 exact⟨o1,o2,o3,o4,o5,o6,o7,o8,o9,o10,m++j,ak λc w h0 h1 h2 hq=>by simp only[h1,hq _ _ hp];omega,g⟩
theorem iJ.perm {n m:SH}{pv ov lv hv gv ev fv sv wv kv:AV}{d:SD}(h:iJ n pv ov lv hv gv ev fv sv wv kv d)(CL:n.Perm m):iJ m pv ov lv hv gv ev fv sv wv kv d:=by
 obtain⟨o1,o2,o3,o4,o5,o6,o7,o8,o9,o10,j,hp,g⟩:=h.ex
 exact⟨o1,o2,o3,o4,o5,o6,o7,o8,o9,o10,j,CL.symm.trans hp,g⟩
theorem WH.perm {bw:Nat}{d:SD}{t s s':SH}(h:WH bw d t s)(hp:s.Perm s'):WH bw d t s':=by
 obtain⟨pv,ov,lv,hv,gv,ev,fv,sv,wv,kv,n,h1,h2⟩:=h
 exact⟨pv,ov,lv,hv,gv,ev,fv,sv,wv,kv,n,hp.symm.trans h1,h2⟩
theorem WH.bK {bw:Nat}{d:SD}{t s m:SH}(h:WH bw d t s):WH bw d t (m++s):=by
 obtain⟨pv,ov,lv,hv,gv,ev,fv,sv,wv,kv,n,h1,h2⟩:=h
 exact⟨pv,ov,lv,hv,gv,ev,fv,sv,wv,kv,m++n,ak λc w h0 pg XI hq=>by simp only[pg,hq _ _ h1,XI];omega,h2.bK⟩
theorem iJ.r {n s:SH}{pv ov lv hv gv ev fv sv wv kv:AV}{d:SD}(h:iJ n pv ov lv hv gv ev fv sv wv kv d)(hn:∀p,p∈n->p∈s):mD s pv ov lv hv gv ev fv sv wv kv d:=by
 obtain⟨o1,o2,o3,o4,o5,o6,o7,o8,o9,o10,j,hp,g1,g2,g3,g4,g5,g6,g7,g8,g9,g10⟩:=h.ex
 have up:∀{o:SH},(∀p,p∈o->p∈o1++(o2++(o3++(o4++(o5++(o6++(o7++(o8++(o9++(o10++j))))))))))->∀p,p∈o->p∈s:=λh p Sh=>hn p<|hp.mem_iff.2<|h p Sh
 exact⟨g1.out.src.mono<|up λp h=>by simp[h],g2.out.src.mono<|up λp h=>by simp[h],g3.sl<|up λp h=>by simp[h],g4.sl<|up λp h=>by simp[h],g5.sl<|up λp h=>by simp[h],g6.sl<|up λp h=>by simp[h],
  g7.out.src.mono (up λp h=>by simp[h]),g8.src (up λp h=>by simp[h]),g9.src (up λp h=>by simp[h]),g10.kv (up λp h=>by simp[h])⟩
def Place (bw:Nat)(t s:SH)(w:AV)(bX:List Int)(put:List Int->SD):Prop:=∃b r o sz L row x oi rest,w=.ptr (some ⟨b,r,o⟩)/\s.Perm ((b,.r false L sz)::(oi++(rest++t)))/\L[r]?=some row/\bV 1 (cu o row)=some [x]/\Gr 1 x (nR bX) oi /\
 ∀x' cQ eA,Gr 1 x' (nR cQ) eA->∃row',fK row o [x']=some row'/\WH bw (put cQ) t ((b,.r false (L.set r row') sz)::(eA++(rest++t)))
def SD.ci (d:SD)(z:Int)(p:Nat):Option (List Int × (List Int->SD)):=
 if z=2 then some (d.fi,λl=>{ d with fi:=l })
 else if z=0 then(d.lb[p]?).map λl=>(l,λl'=>{ d with lb:=d.lb.set p l' })
 else if z=1 then(d.hd[p]?).map λl=>(l,λl'=>{ d with hd:=d.hd.set p l' })
 else if z=3 then(d.gr[p]?).map λl=>(l,λl'=>{ d with gr:=d.gr.set p l' })
 else if z=4 then(d.ex[p]?).map λl=>(l,λl'=>{ d with ex:=d.ex.set p l' })
 else none
structure SD.kQ (d:SD):Prop where
 lb:d.lb.length=d.pl.length
 hd:d.hd.length=d.pl.length
 gr:d.gr.length=d.pl.length
 ex:d.ex.length=d.pl.length
theorem Cm {a b:Nat}(h:a<b):binV .geq (.int .i64 (.ofNat a)) (.int .i64 (.ofNat b))=some (.bool false):=by
 show some (AV.bool<|!Nat.blt a b)=_
 rw[bh.2 h];rfl
theorem ry (hB:Base P K F T){bw:Nat}{d:SD}{t:SH}(hs:WH bw d t s)(he:d.kQ){z:Int}{p:Nat}(hp:p<d.pl.length) :
  bB P K (F 136) [.ptr (some ⟨bw,0,0⟩),iv z,.int .i64<|.ofNat p] s (λw s'=>WH bw d t s'/\(match d.ci z p with | some (bX,put)=>Place bw t s' w bX put | none=>w=.ptr none)):=by
 obtain⟨pv,ov,lv,hv,gv,ev,fv,sv,wv,kv,n,h1,h2⟩:=hs
 refine bB.perm h1.symm ?_
 have Sa:∀m,WH bw d t (m++((bw,.r false [d.cells pv ov lv hv gv ev fv sv wv kv] 25)::(n++t))):=λm=>WH.bK ⟨_,_,_,_,_,_,_,_,_,_,n,.refl _,h2⟩
 refine hB.f136.cF ?_
 unfold Lf
 refine Wq<|Wv rfl<|Wn<|Ws<|Wq<|Wv rfl<|Wh rfl rfl (dh _ _)<|Wn ?_
 by_cases pN:z=2
 ·subst pN
  refine Wd rfl (λ_=>?_)<|λh=>by simp at h
  refine Wq<|Wv rfl<|Wr (.nilchk rfl rfl)<|Wf rfl<|Wf rfl<|Wv rfl<|Wn<|We<|Wm (.tmp rfl .nil) ?_
  refine⟨Sa [],?_⟩
  obtain⟨o,r,k1,k2,k3⟩:=h2.TF
  refine⟨bw,0,6,25,[d.cells pv ov lv hv gv ev fv sv wv kv],d.cells pv ov lv hv gv ev fv sv wv kv,fv,o,r,rfl,?_,rfl,rfl,k2,λx' cQ eA g'=>⟨({ d with fi:=cQ }:SD).cells pv ov lv hv gv ev x' sv wv kv,rfl,?_⟩⟩
  ·exact ak λc w h0 h1 h2 hq=>by simp only[h1,h2,hq _ _ k1];omega
  ·exact⟨pv,ov,lv,hv,gv,ev,x',sv,wv,kv,eA++r,ak λc w h0 h1 h2 hq=>by simp only[h1,h2,List.set];omega,k3 x' cQ eA g'⟩
 ·refine Wd rfl (λh=>absurd (of_decide_eq_true h) pN) (λ_=>Wi ?_)
  have hR:mD ((bw,.r false [d.cells pv ov lv hv gv ev fv sv wv kv] 25)::(n++t)) pv ov lv hv gv ev fv sv wv kv d:=h2.r λp hp=>by simp[hp]
  have lp:lenOf pv=some d.pl.length:=by rw[hR.pl.lenOf];simp[Am]
  refine Ws<|Wq<|Wv rfl<|Wj rfl rfl rfl<|Wv rfl<|WO.guard rfl (λ_=>Wv rfl ?_)<|λh=>absurd rfl h
  refine WO.guard rfl (λ_=>Wv rfl ?_)<|λh=>absurd rfl h
  refine WO.guard rfl (λ_=>Wr (.nilchk rfl rfl) ?_)<|λh=>absurd rfl h
  refine WO.guard rfl (λ_=>Wf rfl ?_)<|λh=>absurd rfl h
  refine WO.guard rfl (λ_=>Wf rfl ?_)<|λh=>absurd rfl h
  refine WO.guard rfl (λ_=>Wr .ld ?_)<|λh=>absurd rfl h
  refine WO.guard rfl (λ_=>Wr (.lenS rfl lp) ?_)<|λh=>absurd rfl h
  refine WO.guard rfl (λ_=>Wj rfl rfl (Cm hp) ?_)<|λh=>absurd rfl h
  refine Wr (.bj rfl rfl)<|Wv rfl<|WO.guard rfl (λ_=>Wv rfl ?_)<|λh=>absurd rfl h
  refine WO.guard rfl (λ_=>Wr (.nilchk rfl rfl) ?_)<|λh=>absurd rfl h
  refine WO.guard rfl (λ_=>Wf rfl ?_)<|λh=>absurd rfl h
  refine WO.guard rfl (λ_=>Wr .ld ?_)<|λh=>absurd rfl h
  refine WO.guard rfl (λ_=>Ww<|Wc rfl rfl (qQ hB hR ⟨he.lb,he.hd,he.gr,he.ex⟩) ?_)<|λh=>absurd rfl h
  rintro w _ ⟨rfl,m,rfl⟩
  refine WO.guard rfl (λ_=>Wr (.un rfl rfl) ?_)<|λh=>absurd rfl h
  refine Wr (.bj rfl rfl)<|Wn<|Wd rfl (λh=>by cases h)<|λ_=>Wi<|Ws<|Wq<|Wv rfl<|Wn<|Wb<|Wq<|Wh rfl rfl (dh _ _)<|Wv rfl<|Wn ?_
  by_cases hz0:z=0
  ·subst hz0
   refine Wd rfl (λ_=>?_)<|λh=>by simp at h
   obtain⟨b,c,L,TT,x,bX,oi,r,rfl,k0,k1,k2,k3,k4,k5⟩:=h2.U9 (by rw[he.lb];exact hp)
   refine Wq<|Wv rfl<|Wr (.nilchk rfl rfl)<|Wf rfl<|Wf rfl<|Wr .ld<|Wv rfl<|Wr (.iaddrS rfl rfl k0<|by omega)<|Wv rfl<|Wn<|We<|Wm (.tmp rfl .nil) ?_
   refine⟨Sa m,?_⟩
   have zI:d.ci 0 p=some (bX,λl'=>{ d with lb:=d.lb.set p l' }):=by
    simp[SD.ci,k2]
   rw[zI]
   refine⟨b,p,0,1,L++TT,[x],x,oi,m++((bw,.r false [d.cells pv ov (.slice (some ⟨b,0,0⟩) L.length c true 1) hv gv ev fv sv wv kv] 25)::r),by rw[show Nat.add 0 p=p from Nat.zero_add p],?_,?_,rfl,k3,λx' cQ eA g'=>⟨[x'],rfl,?_⟩⟩
   ·exact ak λc w h0 h1 h2 hq=>by simp only[h1,h2,hq _ _ k4];omega
   ·rw[List.getElem?_append_left k0];exact k1
   ·exact⟨pv,ov,_,hv,gv,ev,fv,sv,wv,kv,m++((b,.r false ((L++TT).set p [x']) 1)::(eA++r)),(show List.Perm _ ((bw,HO.r false [d.cells pv ov (.slice (some ⟨b,0,0⟩) L.length c true 1) hv gv ev fv sv wv kv] 25)::((m++((b,.r false ((L++TT).set p [x']) 1)::(eA++r)))++t))from qc),(k5 x' cQ eA g').bK⟩
  refine Wd rfl (λh=>absurd (of_decide_eq_true h) hz0)<|λ_=>Wq<|Wh rfl rfl (dh _ _)<|Wv rfl<|Wn ?_
  by_cases mO:z=1
  ·subst mO
   refine Wd rfl (λ_=>?_)<|λh=>by simp at h
   obtain⟨b,c,L,TT,x,bX,oi,r,rfl,k0,k1,k2,k3,k4,k5⟩:=h2.Uo (by rw[he.hd];exact hp)
   refine Wq<|Wv rfl<|Wr (.nilchk rfl rfl)<|Wf rfl<|Wf rfl<|Wr .ld<|Wv rfl<|Wr (.iaddrS rfl rfl k0<|by omega)<|Wv rfl<|Wn<|We<|Wm (.tmp rfl .nil) ?_
   refine⟨Sa m,?_⟩
   have zI:d.ci 1 p=some (bX,λl'=>{ d with hd:=d.hd.set p l' }):=by
    simp[SD.ci,k2]
   rw[zI]
   refine⟨b,p,0,1,L++TT,[x],x,oi,m++((bw,.r false [d.cells pv ov lv (.slice (some ⟨b,0,0⟩) L.length c true 1) gv ev fv sv wv kv] 25)::r),by rw[show Nat.add 0 p=p from Nat.zero_add p],?_,?_,rfl,k3,λx' cQ eA g'=>⟨[x'],rfl,?_⟩⟩
   ·exact ak λc w h0 h1 h2 hq=>by simp only[h1,h2,hq _ _ k4];omega
   ·rw[List.getElem?_append_left k0];exact k1
   ·exact⟨pv,ov,lv,_,gv,ev,fv,sv,wv,kv,m++((b,.r false ((L++TT).set p [x']) 1)::(eA++r)),(show List.Perm _ ((bw,HO.r false [d.cells pv ov lv (.slice (some ⟨b,0,0⟩) L.length c true 1) gv ev fv sv wv kv] 25)::((m++((b,.r false ((L++TT).set p [x']) 1)::(eA++r)))++t))from qc),(k5 x' cQ eA g').bK⟩
  refine Wd rfl (λh=>absurd (of_decide_eq_true h) mO)<|λ_=>Wq<|Wh rfl rfl (dh _ _)<|Wv rfl<|Wn ?_
  by_cases KQ:z=3
  ·subst KQ
   refine Wd rfl (λ_=>?_)<|λh=>by simp at h
   obtain⟨b,c,L,TT,x,bX,oi,r,rfl,k0,k1,k2,k3,k4,k5⟩:=h2.T3 (by rw[he.gr];exact hp)
   refine Wq<|Wv rfl<|Wr (.nilchk rfl rfl)<|Wf rfl<|Wf rfl<|Wr .ld<|Wv rfl<|Wr (.iaddrS rfl rfl k0<|by omega)<|Wv rfl<|Wn<|We<|Wm (.tmp rfl .nil) ?_
   refine⟨Sa m,?_⟩
   have zI:d.ci 3 p=some (bX,λl'=>{ d with gr:=d.gr.set p l' }):=by
    simp[SD.ci,k2]
   rw[zI]
   refine⟨b,p,0,1,L++TT,[x],x,oi,m++((bw,.r false [d.cells pv ov lv hv (.slice (some ⟨b,0,0⟩) L.length c true 1) ev fv sv wv kv] 25)::r),by rw[show Nat.add 0 p=p from Nat.zero_add p],?_,?_,rfl,k3,λx' cQ eA g'=>⟨[x'],rfl,?_⟩⟩
   ·exact ak λc w h0 h1 h2 hq=>by simp only[h1,h2,hq _ _ k4];omega
   ·rw[List.getElem?_append_left k0];exact k1
   ·exact⟨pv,ov,lv,hv,_,ev,fv,sv,wv,kv,m++((b,.r false ((L++TT).set p [x']) 1)::(eA++r)),(show List.Perm _ ((bw,HO.r false [d.cells pv ov lv hv (.slice (some ⟨b,0,0⟩) L.length c true 1) ev fv sv wv kv] 25)::((m++((b,.r false ((L++TT).set p [x']) 1)::(eA++r)))++t))from qc),(k5 x' cQ eA g').bK⟩
  refine Wd rfl (λh=>absurd (of_decide_eq_true h) KQ)<|λ_=>Wq<|Wh rfl rfl (dh _ _)<|Wv rfl<|Wn ?_
  by_cases KR:z=4
  ·subst KR
   refine Wd rfl (λ_=>?_)<|λh=>by simp at h
   obtain⟨b,c,L,TT,x,bX,oi,r,rfl,k0,k1,k2,k3,k4,k5⟩:=h2.TE (by rw[he.ex];exact hp)
   refine Wq<|Wv rfl<|Wr (.nilchk rfl rfl)<|Wf rfl<|Wf rfl<|Wr .ld<|Wv rfl<|Wr (.iaddrS rfl rfl k0<|by omega)<|Wv rfl<|Wn<|We<|Wm (.tmp rfl .nil) ?_
   refine⟨Sa m,?_⟩
   have zI:d.ci 4 p=some (bX,λl'=>{ d with ex:=d.ex.set p l' }):=by
    simp[SD.ci,k2]
   rw[zI]
   refine⟨b,p,0,1,L++TT,[x],x,oi,m++((bw,.r false [d.cells pv ov lv hv gv (.slice (some ⟨b,0,0⟩) L.length c true 1) fv sv wv kv] 25)::r),by rw[show Nat.add 0 p=p from Nat.zero_add p],?_,?_,rfl,k3,λx' cQ eA g'=>⟨[x'],rfl,?_⟩⟩
   ·exact ak λc w h0 h1 h2 hq=>by simp only[h1,h2,hq _ _ k4];omega
   ·rw[List.getElem?_append_left k0];exact k1
   ·exact⟨pv,ov,lv,hv,gv,_,fv,sv,wv,kv,m++((b,.r false ((L++TT).set p [x']) 1)::(eA++r)),(show List.Perm _ ((bw,HO.r false [d.cells pv ov lv hv gv (.slice (some ⟨b,0,0⟩) L.length c true 1) fv sv wv kv] 25)::((m++((b,.r false ((L++TT).set p [x']) 1)::(eA++r)))++t))from qc),(k5 x' cQ eA g').bK⟩
  refine Wd rfl (λh=>absurd (of_decide_eq_true h) KR)<|λ_=>Wi<|Wq<|Wv rfl<|Wn<|We<|Wm (.tmp rfl .nil) ?_
  refine⟨Sa m,?_⟩
  have zI:d.ci z p=none:=by simp[SD.ci,hz0,mO,pN,KQ,KR]
  rw[zI]
theorem WS.pre {op:AOp}{s':SH}{R:AV->List cD->SH->Prop}(hp:s.Perm s')(h:WS P K op l ds s' R):WS P K op l ds s R:=
 λH0 e H he hH=>h H0 e H he<|hH.perm hp
theorem WP.pre {c:AC}{s':SH}(hp:s.Perm s')(h:WP P K rd nt c l ds s' Qn Qe Qr):WP P K rd nt c l ds s Qn Qe Qr:=
 Wg (λ_ _ h=>h) (λ_ _ h=>h.perm hp) h
theorem WH.fb {bw:Nat}{d:SD}{x t s:SH}(h:WH bw d (x++t) s):WH bw d t s:=by
 obtain⟨pv,ov,lv,hv,gv,ev,fv,sv,wv,kv,n,h1,h2⟩:=h
 exact⟨pv,ov,lv,hv,gv,ev,fv,sv,wv,kv,n++x,ak λc w h0 pg XI hq=>by simp only[pg,hq _ _ h1,XI];omega,(h2.bK (m:=x)).perm (ak λc w h0 h1 h2 _=>by simp only[h1];omega)⟩
theorem Km {n:Int}(h0:0<=n)(h1:n<=4611686018427387904):binV .add (iv n) (.int .i64 (.ofNat 1))=some (iv (n+1)):=by
 obtain⟨k,rfl⟩:=Int.eq_ofNat_of_zero_le h0
 exact bM<|by omega
theorem wC (n:Int):dz (iv n) (iv n)=true:=by
 have:ieq n n=true:=gd.2 rfl
 simp[dz,sameN,same0,keq,this]
theorem WH.perm' {bw:Nat}{d d':SD}{t s:SH}(h:WH bw d t s)(e:d'=d):WH bw d' t s:=e▸h
theorem SD.AW {d:SD}(h1:d.fi.length<=1000)(hn2:∀LL,(LL=d.lb\/LL=d.hd\/LL=d.gr\/LL=d.ex)->LL.length<=1000/\∀bX∈LL,bX.length<=1000){z:Int}{p:Nat}{bX:List Int}{put:List Int->SD}(h:d.ci z p=some (bX,put)):bX.length<=1000:=by
 unfold SD.ci at h
 have key:∀{LL:List (List Int)}{f:List Int->List Int × (List Int->SD)},(LL=d.lb\/LL=d.hd\/LL=d.gr\/LL=d.ex)->(∀l,(f l).1=l)->(LL[p]?).map f=some (bX,put)->bX.length<=1000:=by
  intro LL f hL hf hm
  obtain⟨a,h1,h2⟩:=Option.map_eq_some_iff.1 hm
  have:bX=a:=by rw[<- hf a,h2]
  subst this
  exact(hn2 LL hL).2 _ (List.mem_of_getElem? h1)
 split at h
 ·cases h;exact h1
 ·split at h
  ·exact key (.inl rfl) (λ_=>rfl) h
  ·split at h
   ·exact key (.inr<|.inl rfl) (λ_=>rfl) h
   ·split at h
    ·exact key (.inr<|.inr<|.inl rfl) (λ_=>rfl) h
    ·split at h
     ·exact key (.inr<|.inr<|.inr rfl) (λ_=>rfl) h
     ·cases h
theorem SD.mC {d e:SD}(hd:d.Small)(he:∀_:Unit,(e.fi,e.lb,e.hd,e.gr,e.ex)=(d.fi,d.lb,d.hd,d.gr,d.ex)){z:Int}{p:Nat}{bX:List Int}{put:List Int->SD}(h:e.ci z p=some (bX,put)):bX.length<=1000:=by
 have he:=he ()
 simp only[Prod.mk.injEq]at he
 obtain⟨e1,e2,e3,e4,e5⟩:=he
 refine SD.AW ?_ ?_ h
 ·rw[e1];exact hd.n1.2.2.1
 ·rw[e2,e3,e4,e5];exact hd.n2
def SD.xR (d:SD):SD:={ d with nx:=d.nx+1 }
def SD.DF (d:SD):SD:={ d with nx:=d.nx+1,sp:=d.sp+1 }
def SD.obs (d:SD)(o:OD):SD:={ d with ob:=d.ob++[o] }
def OD.new1 (o:OD)(id:Int):OD:={ o with id:=id }
def OD.new2 (o:OD)(id sp:Int):OD:={ o with id:=id,VK:=true,stamp:=sp }
def SD.add (d:SD)(o:OD)(p:Nat):SD:=
 match (if o.ci=2 then d.DF.obs (o.new2 d.nx d.sp)else d.xR.obs (o.new1 d.nx)).ci o.ci p with
 | some (bX,put)=>put<|bX++[d.nx]
 | none=>if o.ci=2 then d.DF.obs (o.new2 d.nx d.sp)else d.xR.obs (o.new1 d.nx)
theorem Br (hB:Base P K F T){bw:Nat}{d:SD}{t:SH}(hs:WH bw d t s)(hd:d.Small)(he:d.kQ){o:OD}{p:Nat}(hp:p<d.pl.length)(ho:o.owner=.ofNat p)(h1:0<=d.nx/\d.nx<=1000000)(h2:0<=d.sp/\d.sp<=1000000) :
  bB P K (F 105) [.ptr (some ⟨bw,0,0⟩),.agg o.row,.bool false] s (λw s'=>WH bw (d.add o p) t s'):=by
 obtain⟨pv,ov,lv,hv,gv,ev,fv,sv,wv,kv,n,k1,k2⟩:=hs
 refine bB.perm k1.symm ?_
 refine hB.f105.cF ?_
 unfold SB
 refine Vr (k:=λb4=>Vr (k:=?_))
 refine Wj rfl rfl (Km h1.1<|by omega)<|Wr (.nilchk rfl rfl)<|Wf rfl<|Wf rfl<|Ww<|Wt rfl rfl rfl uP rfl rfl<|Wn<|Ws<|Wq<|Wf rfl<|Wr .ld<|Wh rfl rfl (dh _ _)<|Wn ?_
 by_cases hz:o.ci=2
 ·refine Wd rfl (λ_=>?_) (λh=>absurd hz<|of_decide_eq_false h)
  refine Vr (k:=WD.lk rfl .nil .ld<|Vr (k:=Dc .nil<|Wt rfl rfl rfl .here rfl rfl<|Vr (k:=Dc .nil<|WS.st<|D0 .nil ?_ ?_)))
  rotate_left
  ·intro o ho
   rw[List.mem_singleton.1 ho]
   refine⟨(λi hi=>nomatch hi),Nat.zero_le _,wC _,λk _ hk=>?_⟩
   rcases j9 hk with rfl|rfl
   ·exact⟨_,rfl,.load rfl zP rfl rfl rfl⟩
   ·exact⟨_,rfl,.load rfl zP rfl rfl rfl⟩
  refine Vr (k:=?_)
  refine Wj rfl rfl (Km h2.1<|by omega)<|Wr (.nilchk rfl rfl)<|Wf rfl<|Wf rfl<|Ww<|WS.st<|Wn ?_
  refine Wg (s':=(b4,.r false [(o.new2 d.nx d.sp).row] 14)::(bw,.r false [d.DF.cells pv ov lv hv gv ev fv sv wv kv] 25)::(n++t)) (λ_ _ h=>h) (λ_ _ h=>h) ?_
  obtain⟨oo,r,e1,e2,e3⟩:=k2.xS
  refine Ws<|WP.fd λb'=>Dp (.mv rfl)<|Vr (k:=WD.al (.bslice (L:=[(o.new2 d.nx d.sp).row]) (fZ rfl rfl) rfl) rfl<|Dc (.yes rfl rfl .here .nil)<|WS.pre (s':=[(b',.r false [(o.new2 d.nx d.sp).row] 14),(b4,.r false [(o.new2 d.nx d.sp).row] 14),(bw,.r false [d.DF.cells pv ov lv hv gv ev fv sv wv kv] 25)]++(oo++(r++t))) (ak λc w h0 h1 h2 hq=>by simp only[h1,h2,h0,hq _ _ e1];omega)<|WS.append_gr rfl e2 rfl (Src.all (L:=[(o.new2 d.nx d.sp).row]) .here) (by omega) (by have:=hd.n1;simp only[fy,List.length_map];omega) (by omega) λv' o' j hG=>?_)
  have pI:Gr 14 v' (fy<|d.ob++[(o.new2 d.nx d.sp)]) o':=by
   have:fy (d.ob++[(o.new2 d.nx d.sp)])=fy d.ob++[(o.new2 d.nx d.sp).row]:=by simp[fy]
   rw[this];exact hG
  have k3:=e3 v' (d.ob++[(o.new2 d.nx d.sp)]) o' pI
  have hW:WH bw (d.DF.obs<|o.new2 d.nx d.sp) ([(b4,.r false [(o.new2 d.nx d.sp).row] 14)]++t) (o'++([(b',.r false [(o.new2 d.nx d.sp).row] 14),(b4,.r false [(o.new2 d.nx d.sp).row] 14),(bw,.r false [(d.DF.obs<|o.new2 d.nx d.sp).cells pv v' lv hv gv ev fv sv wv kv] 25)]++(j++(r++t)))):=
   ⟨pv,v',lv,hv,gv,ev,fv,sv,wv,kv,[(b',.r false [(o.new2 d.nx d.sp).row] 14)]++(j++(o'++r)),qc,(show iJ _ pv v' lv hv gv ev fv sv wv kv (d.DF.obs<|o.new2 d.nx d.sp) from⟨((k3.bK (m:=j)).bK (m:=[(b',.r false [(o.new2 d.nx d.sp).row] 14)])).ex⟩)⟩
  have hE:(d.DF.obs<|o.new2 d.nx d.sp).kQ:=⟨he.lb,he.hd,he.gr,he.ex⟩
  refine Vr (k:=Dc .nil<|Wt rfl rfl hG.part uP rfl rfl<|WD.n0 ?_)
  refine Wg (s':=o'++([(b',.r false [(o.new2 d.nx d.sp).row] 14),(b4,.r false [(o.new2 d.nx d.sp).row] 14),(bw,.r false [(d.DF.obs<|o.new2 d.nx d.sp).cells pv v' lv hv gv ev fv sv wv kv] 25)]++(j++(r++t)))) (λ_ _ h=>h) (λ_ _ h=>h) ?_
  refine Vr (k:=?_)
  refine Ww<|Wc (vs:=[.ptr (some ⟨bw,0,0⟩),iv o.ci,.int .i64<|.ofNat p]) rfl (by rw[<- ho];rfl) (ry hB hW hE (z:=o.ci) hp) ?_
  rintro w5 s5 ⟨q1,q2⟩
  refine Wv rfl<|Wn<|Wb ?_
  cases nh:(d.DF.obs<|o.new2 d.nx d.sp).ci o.ci p with
  | none=>
   rw[nh]at q2
   have q2:w5=.ptr none:=q2
   subst q2
   refine Wq<|Wv rfl<|Wh (b:=true) rfl rfl rfl<|Wv rfl<|Wn<|Wd rfl (λ_=>Wi<|Wm .nil ?_)<|λh=>by cases h
   refine q1.fb.perm' ?_
   simp only[SD.add,if_pos hz,nh]
  | some x5=>
   obtain⟨bX,put⟩:=x5
   rw[nh]at q2
   obtain⟨b,r5,o5,sz,L,row,x,oi,rest,rfl,p1,p2,p3,p4,p5⟩:=q2
   refine Vr (k:=WP.pre p1<|WP.fd λb6=>Dp (.mv rfl)<|Vr (k:=?_))
   refine WD.al (.bslice (L:=[[iv d.nx]]) (fZ rfl rfl) rfl) rfl<|Dc (.yes rfl rfl .here .nil)<|WS.pre (s':=[(b6,.r false [[iv d.nx]] 1),(b,.r false L sz)]++(oi++(rest++([(b4,.r false [(o.new2 d.nx d.sp).row] 14)]++t)))) (qc)<|WS.append_gr rfl p4 rfl (Src.all (L:=[[iv d.nx]]) .here) (by omega) (by simp only[nR,List.length_map];exact Nat.le_trans (Nat.add_le_add_right (SD.mC (e:=d.DF.obs<|o.new2 d.nx d.sp) hd (λ_=>rfl) nh) 1)<|by omega) (by omega) λv7 o7 j7 T6=>?_
   have XQ:Gr 1 v7 (nR<|bX++[d.nx]) o7:=by
    have:nR (bX++[d.nx])=nR bX++[[iv d.nx]]:=by simp[nR]
    rw[this];exact T6
   obtain⟨row',u1,u2⟩:=p5 v7 (bX++[d.nx]) o7 XQ
   have:=((u2.bK (m:=[(b6,.r false [[iv d.nx]] 1)]++j7)).perm (s':=o7++([(b6,.r false [[iv d.nx]] 1),(b,.r false (L.set r5 row') sz)]++(j7++(rest++([(b4,.r false [(o.new2 d.nx d.sp).row] 14)]++t))))) (qc)).fb
   have e9:d.add o p=put (bX++[d.nx]):=by simp only[SD.add,if_pos hz,nh]
   refine Vr (k:=Dc .nil<|Wt rfl rfl T6.part uP p2 u1<|WD.n0<|Wm .nil ?_)
   rw[e9]
   exact this
 ·refine Wd rfl (λh=>absurd (of_decide_eq_true h) hz) (λ_=>Wi ?_)
  refine Wg (s':=(b4,.r false [(o.new1 d.nx).row] 14)::(bw,.r false [d.xR.cells pv ov lv hv gv ev fv sv wv kv] 25)::(n++t)) (λ_ _ h=>h) (λ_ _ h=>h) ?_
  obtain⟨oo,r,e1,e2,e3⟩:=k2.xS
  refine Ws<|WP.fd λb'=>Dp (.mv rfl)<|Vr (k:=WD.al (.bslice (L:=[(o.new1 d.nx).row]) (fZ rfl rfl) rfl) rfl<|Dc (.yes rfl rfl .here .nil)<|WS.pre (s':=[(b',.r false [(o.new1 d.nx).row] 14),(b4,.r false [(o.new1 d.nx).row] 14),(bw,.r false [d.xR.cells pv ov lv hv gv ev fv sv wv kv] 25)]++(oo++(r++t))) (ak λc w h0 h1 h2 hq=>by simp only[h1,h2,h0,hq _ _ e1];omega)<|WS.append_gr rfl e2 rfl (Src.all (L:=[(o.new1 d.nx).row]) .here) (by omega) (by have:=hd.n1;simp only[fy,List.length_map];omega) (by omega) λv' o' j hG=>?_)
  have pI:Gr 14 v' (fy<|d.ob++[(o.new1 d.nx)]) o':=by
   have:fy (d.ob++[(o.new1 d.nx)])=fy d.ob++[(o.new1 d.nx).row]:=by simp[fy]
   rw[this];exact hG
  have k3:=e3 v' (d.ob++[(o.new1 d.nx)]) o' pI
  have hW:WH bw (d.xR.obs<|o.new1 d.nx) ([(b4,.r false [(o.new1 d.nx).row] 14)]++t) (o'++([(b',.r false [(o.new1 d.nx).row] 14),(b4,.r false [(o.new1 d.nx).row] 14),(bw,.r false [(d.xR.obs<|o.new1 d.nx).cells pv v' lv hv gv ev fv sv wv kv] 25)]++(j++(r++t)))):=
   ⟨pv,v',lv,hv,gv,ev,fv,sv,wv,kv,[(b',.r false [(o.new1 d.nx).row] 14)]++(j++(o'++r)),qc,(show iJ _ pv v' lv hv gv ev fv sv wv kv (d.xR.obs<|o.new1 d.nx) from⟨((k3.bK (m:=j)).bK (m:=[(b',.r false [(o.new1 d.nx).row] 14)])).ex⟩)⟩
  have hE:(d.xR.obs<|o.new1 d.nx).kQ:=⟨he.lb,he.hd,he.gr,he.ex⟩
  refine Vr (k:=Dc .nil<|Wt rfl rfl hG.part uP rfl rfl<|WD.n0 ?_)
  refine Wg (s':=o'++([(b',.r false [(o.new1 d.nx).row] 14),(b4,.r false [(o.new1 d.nx).row] 14),(bw,.r false [(d.xR.obs<|o.new1 d.nx).cells pv v' lv hv gv ev fv sv wv kv] 25)]++(j++(r++t)))) (λ_ _ h=>h) (λ_ _ h=>h) ?_
  refine Vr (k:=?_)
  refine Ww<|Wc (vs:=[.ptr (some ⟨bw,0,0⟩),iv o.ci,.int .i64<|.ofNat p]) rfl (by rw[<- ho];rfl) (ry hB hW hE (z:=o.ci) hp) ?_
  rintro w5 s5 ⟨q1,q2⟩
  refine Wv rfl<|Wn<|Wb ?_
  cases nh:(d.xR.obs<|o.new1 d.nx).ci o.ci p with
  | none=>
   rw[nh]at q2
   have q2:w5=.ptr none:=q2
   subst q2
   refine Wq<|Wv rfl<|Wh (b:=true) rfl rfl rfl<|Wv rfl<|Wn<|Wd rfl (λ_=>Wi<|Wm .nil ?_)<|λh=>by cases h
   refine q1.fb.perm' ?_
   simp only[SD.add,if_neg hz,nh]
  | some x5=>
   obtain⟨bX,put⟩:=x5
   rw[nh]at q2
   obtain⟨b,r5,o5,sz,L,row,x,oi,rest,rfl,p1,p2,p3,p4,p5⟩:=q2
   refine Vr (k:=WP.pre p1<|WP.fd λb6=>Dp (.mv rfl)<|Vr (k:=?_))
   refine WD.al (.bslice (L:=[[iv d.nx]]) (fZ rfl rfl) rfl) rfl<|Dc (.yes rfl rfl .here .nil)<|WS.pre (s':=[(b6,.r false [[iv d.nx]] 1),(b,.r false L sz)]++(oi++(rest++([(b4,.r false [(o.new1 d.nx).row] 14)]++t)))) (qc)<|WS.append_gr rfl p4 rfl (Src.all (L:=[[iv d.nx]]) .here) (by omega) (by simp only[nR,List.length_map];exact Nat.le_trans (Nat.add_le_add_right (SD.mC (e:=d.xR.obs<|o.new1 d.nx) hd (λ_=>rfl) nh) 1)<|by omega) (by omega) λv7 o7 j7 T6=>?_
   have XQ:Gr 1 v7 (nR<|bX++[d.nx]) o7:=by
    have:nR (bX++[d.nx])=nR bX++[[iv d.nx]]:=by simp[nR]
    rw[this];exact T6
   obtain⟨row',u1,u2⟩:=p5 v7 (bX++[d.nx]) o7 XQ
   have:=((u2.bK (m:=[(b6,.r false [[iv d.nx]] 1)]++j7)).perm (s':=o7++([(b6,.r false [[iv d.nx]] 1),(b,.r false (L.set r5 row') sz)]++(j7++(rest++([(b4,.r false [(o.new1 d.nx).row] 14)]++t))))) (qc)).fb
   have e9:d.add o p=put (bX++[d.nx]):=by simp only[SD.add,if_neg hz,nh]
   refine Vr (k:=Dc .nil<|Wt rfl rfl T6.part uP p2 u1<|WD.n0<|Wm .nil ?_)
   rw[e9]
   exact this
open Go.Proofs
set_option maxRecDepth 100000
theorem WP.dA {b:AC}(h:WP P K rd nt b l ds s (λl ds s=>WP P K rd nt (.loop b) l ds s Qn Qe Qr) Qe Qr):WP P K rd nt (.loop b) l ds s Qn Qe Qr:=by
 intro c0 hc H0 e H he hH
 cases c0 with
 | loop b0=>
  simp only[cc,AC.loop.injEq]at hc
  obtain⟨x,e1,ds1,H1,l1,s1,k1,k2,k3,k4⟩:=h b0 hc H0 e H he hH
  cases x with
  | normal=>
   obtain⟨x,e2,ds2,H2,l2,s2,j1,j2,j3,j4⟩:=k4 (.loop b0) (by simp only[cc,hc]) H0 e1 H1 k2 k3
   exact⟨_,_,_,_,_,_,bt.again k1 j1,j2,j3,j4⟩
  | exit i=>exact⟨_,_,_,_,_,_,bt.out k1 (by intro h;cases h),k2,k3,k4⟩
  | ret=>exact⟨_,_,_,_,_,_,bt.out k1 (by intro h;cases h),k2,k3,k4⟩
 | region i ops d=>exact(db hc).elim
 | _=>simp[cc]at hc
noncomputable def afo:AC:=NF (pt (cd 353 31 (λn=>n) λn=>n) [1,1]) _
theorem aby {tv:AV}{X:List TG}{id:Int}(hT:Src s 2 tv (yu X))(hX:X.length<=1000)(hne:∀x∈X,x.o≠id)(h1:lk l 1=some tv)(h2:lk l 2=some (iv id))(h15:lk l 15=some (iv (.ofNat X.length)))(h16:lk l 16=some (iv (.ofNat 0)))(hk:∀l2,Qn l2 [] s):WP P K none 31 afo l [] s Qn Qe Qr:=by
 unfold afo
 refine Wb ?_
 refine Wp (λk l ds s'=>ds=[]/\∃q,k=X.length-q/\q<=X.length/\s'=s/\∀i w,lk [(1,tv),(2,iv id),(15,iv<|.ofNat X.length),(16,iv<|.ofNat q)] i=some w->lk l i=some w) ?_
  ⟨rfl,0,rfl,Nat.zero_le _,rfl,aa h1<|aa h2<|aa h15<|aa h16 aB⟩
 rintro k l ds s' ⟨rfl,q,rfl,hq,rfl,hl⟩
 refine Wg hl (λ_ _ h=>h) ?_
 refine Vr (k:=Wd rfl (λht=>Wi ?_)<|λht=>Wx ?_)
 rotate_left
 ·exact hk _
 have hlt:q<X.length:=Int.ofNat_lt.1<|of_decide_eq_true ht
 have hx:X[q]?=some X[q]:=List.getElem?_eq_getElem hlt
 have KP:X[q]∈X:=List.getElem_mem _
 generalize X[q]=x at hx KP
 obtain⟨ba,ra,na,ca,J5,Sp,Ma,rfl,hba,aaf,hra⟩:=hT.at<|by simpa[yu]using hlt
 have hrow:Ma[ra+q]?=some x.row:=by rw[hra,yu,List.getElem?_map,hx];rfl
 refine Vr (k:=?_)
 refine Wd rfl (λh=>absurd (of_decide_eq_true h)<|hne x KP)<|λ_=>Wi<|Wo<|Wj rfl rfl (bM<|by omega)<|Wv rfl<|Wn ?_
 exact⟨X.length-(q+1),by omega,rfl,q+1,rfl,hlt,rfl,aa rfl qb⟩
theorem adf (hB:Base P K F T){b r o sz:Nat}{L:List (List AV)}{row row':List AV}{a id:Int}{tv:AV}{X:List TG}{s2:SH}(hb:Has b (.r false L sz) s)(hr:L[r]?=some row)(hc:bV 1 (cu o row)=some [iv a])(hp:fK row o [iv (.negSucc 0)]=some row')(hu:oY b (.r false L sz) (.r false (L.set r row') sz) s s2)
  (hT:Src s 2 tv (yu X)) (hT2:Src s2 2 tv (yu X)) (hX:X.length<=1000) (hne:∀x∈X,x.o≠id):bB P K (F 295) [.ptr (some ⟨b,r,o⟩),tv,iv id] s (λ_ s'=>s'=if a=id then s2 else s):=by
 refine hB.f295.cF ?_
 unfold Tg
 have hlen:lenOf tv=some X.length:=by rw[hT.lenOf];simp[yu]
 refine Vr (k:=Wd rfl (λh=>?_)<|λh=>Wi ?_)
 ·have h:=of_decide_eq_true h
  refine Vr (k:=Ww<|Wt rfl rfl rfl hu hr hp<|Wn<|Wq<|Wv rfl<|Wr (.lenS rfl hlen)<|Wv rfl<|Wn ?_)
  exact aby hT2 hX hne rfl rfl rfl rfl λl2=>Wm .nil (if_pos h).symm
 ·have h:=of_decide_eq_false h
  refine Wq<|Wv rfl<|Wr (.lenS rfl hlen)<|Wv rfl<|Wn ?_
  exact aby hT hX hne rfl rfl rfl rfl λl2=>Wm .nil (if_neg h).symm
def unC (c id:Int):Int:=if c=id then .negSucc 0 else c
def SD.left (d:SD)(id:Int)(i:Nat)(z:Int)(p:Nat):SD:=
 match d.ci z p with
 | some (bX,put)=>{ put (bX.filter λn=>!decide (n=id))with ob:=d.ob.eraseIdx i,co:=unC d.co id }
 | none=>{ d with ob:=d.ob.eraseIdx i,co:=unC d.co id }
theorem SD.AY {d:SD}{z:Int}{p:Nat}{bX:List Int}{put:List Int->SD}(h:d.ci z p=some (bX,put)):∀l,(put l).ob=d.ob/\(put l).st=d.st/\(put l).wa=d.wa/\(put l).co=d.co/\(put l).ct=d.ct:=by
 unfold SD.ci at h
 intro l
 split at h
 ·cases h;exact⟨rfl,rfl,rfl,rfl,rfl⟩
 ·split at h
  ·obtain⟨a,_,e⟩:=Option.map_eq_some_iff.1 h;cases e;exact⟨rfl,rfl,rfl,rfl,rfl⟩
  ·split at h
   ·obtain⟨a,_,e⟩:=Option.map_eq_some_iff.1 h;cases e;exact⟨rfl,rfl,rfl,rfl,rfl⟩
   ·split at h
    ·obtain⟨a,_,e⟩:=Option.map_eq_some_iff.1 h;cases e;exact⟨rfl,rfl,rfl,rfl,rfl⟩
    ·split at h
     ·obtain⟨a,_,e⟩:=Option.map_eq_some_iff.1 h;cases e;exact⟨rfl,rfl,rfl,rfl,rfl⟩
     ·cases h
def JY (id:Int):List AV->Bool
 | .int _ n::_=>decide<|n=id
 | _=>false
theorem z9 (id:Int)(l:List Int):(nR l).filter (λr=>!JY id r)=nR (l.filter λn=>!decide (n=id)):=by
 unfold nR
 rw[List.filter_map]
 rfl
theorem Ad (l:List OD)(i:Nat):fy (l.eraseIdx i)=(fy l).eraseIdx i:=by
 unfold fy
 induction l generalizing i with
 | nil=>rfl
 | cons a l ih=>
  cases i with
  | zero=>rfl
  | succ i=>simp[List.eraseIdx_cons_succ,ih]
theorem Ia {l:Sl}{sz:Nat}{x y:Operand}{u v:AV}{cs es:List AV}(hx:opl l x=some u)(hc:partCells sz u=some cs)(hy:opl l y=some v)(he:partCells sz v=some es):bsrows l sz 0 [(0,x),(1,y)]=some [cs,es]:=by
 simp[bsrows,hx,hc,hy,he]
theorem Src.part {sz:Nat}{v:AV}{L:List (List AV)}(h:Src s sz v L):partCells 1 v=some [v]:=by
 cases h<;>rfl
theorem SIt.part {v:AV}{X:List ID}(h:SIt s v X):partCells 1 v=some [v]:=by
 obtain⟨L,h1,_⟩:=h
 exact h1.part
def Kl (F:Nat->FuncId)(T:Nat->TypeId):AC:=(oN [zm 41 0,zm 42 0,zo 43 (.nilchk 42),zf 44 0 43,zf 45 1 44,zl 46 45,zm 47 5,zm 48 5,zo 49 (.arith .add 48 (zc 1)),oF F 50 294 [46,47,49],zo 51 (.nilchk 41),zf 52 0 51,zf 53 1 52,zn (.store 1 53 50)] (.seq (oN [zm 54 0,zo 55 (.nilchk 54),zf 56 0 55,zf 57 1 56,zl 58 57,zo 59 (.lenS 58),zo 60 (.mv (zc 0))] (.block 0 (.loop (oN [zo 61 (.arith .lss 60 59)] (.seq (.cond 61 .skip (.exit 0)) (.seq (.block 1 (oN [zm 62 60,zm 8 62] (.seq (.drawn 0 [zp (zm 63 0) 0,zp (zo 64 (.nilchk 63)) 1,zp (zf 65 0 64) 3,zp (zf 66 1 65) 7,zr (zl 67 66) 0 0 15,zp (zm 68 8) 0,zp (zo 69 (.iaddrS 14 67 68)) 63,zp (zf 70 11 69) 127,zr (zl 71 70) 0 0 255,zr (zl 72 3) 0 0 0,zp (zo 73 (.eql false .pi 71 72)) 1023]) (.cond 73 (.ops [zm 74 0,zo 75 (.nilchk 74),zf 76 0 75,zf 77 1 76,zl 78 77,zm 79 8,zo 80 (.iaddrS 14 78 79),zf 81 11 80,zn (.store 1 81 (zc 0))]) .skip)))) (.ops [zo 82 (.arith .add 60 (zc 1)),zm 60 82]))))))) (.seq (.seq (.drawn 1 [zp (zm 83 0) 0,zp (zo 84 (.nilchk 83)) 1,zp (zf 85 0 84) 3,zp (zf 86 7 85) 7,zr (zl 87 86) 0 0 15,zp (zm 88 0) 0,zp (zo 89 (.nilchk 88)) 32,zp (zf 90 0 89) 96,zp (zf 91 8 90) 224,zr (zl 92 91) 0 0 480,⟨zo 93 (.bslice 1 2 [(.slice none 0 0 false 0)] [⟨0,87⟩,⟨1,92⟩]),.dalloc,0,0,1023⟩,zp (zo 94 (.lenS 93)) 2047,zp (zo 95 (.mv (zc 0))) 0]) (.block 2 (.loop (oN [zo 96 (.arith .lss 95 94)] (.seq (.cond 96 .skip (.exit 2)) (.seq (.block 3 (oN [zo 97 (.iaddrS 1 93 95),zl 98 97,zm 10 98] (oN [zm 99 10,zo 100 (.lenS 99),zo 101 (.mv (zc 0))] (.block 4 (.loop (oN [zo 102 (.arith .lss 101 100)] (.seq (.cond 102 .skip (.exit 4)) (.seq (.block 5 (oN [zm 103 101,zm 11 103] (.drawn 0 [zp (zm 104 10) 0,zp (zm 105 11) 0,zp (zo 106 (.iaddrS 7 104 105)) 3,zp (zf 107 3 106) 7,zp (zm 108 10) 0,zp (zm 109 11) 0,zp (zo 110 (.iaddrS 7 108 109)) 48,zp (zf 111 6 110) 112,zr (zl 112 111) 0 0 240,zr (zl 113 3) 0 0 0,zh (oF F 114 295 [107,112,113]) 1023]))) (.ops [zo 115 (.arith .add 101 (zc 1)),zm 101 115]))))))))) (.ops [zo 116 (.arith .add 95 (zc 1)),zm 95 116]))))))) (.seq (.drawn 0 [zp (zm 117 0) 0,zp (zo 118 (.nilchk 117)) 1,zp (zf 119 0 118) 3,zp (zf 120 18 119) 7,zp (zf 121 1 120) 15,zp (zm 122 0) 0,zp (zo 123 (.nilchk 122)) 32,zp (zf 124 0 123) 96,zp (zf 125 18 124) 224,zp (zf 126 3 125) 480,zr (zl 127 126) 0 0 992,zr (zl 128 3) 0 0 0,zh (oF F 129 295 [121,127,128]) 4095]) (oN [zo 130 (.load true 14 6),zn (.store 14 4 130)] .ret)))))
theorem zQ (hB:Base P K F T){bw:Nat}{d:SD}{t:SH}(hs:WH bw d t s)(hd:d.Small)(he:d.kQ){id:Int}{i:Nat}{o:OD}(hi:d.find id=some i)(xG:d.ob[i]?=some o){p:Nat}(hp:p<d.pl.length)(ho:o.owner=.ofNat p)
  (hst:d.st=[]) (KO:d.wa=[]) (hct:∀x∈d.ct,x.o≠id) (oZ:∀o∈d.ob,o.block≠id) :
  bB P K (F 262) [.ptr (some ⟨bw,0,0⟩),iv id] s (λw s'=>w=.agg o.row/\WH bw (d.left id i o.ci p) t s'):=by
 obtain⟨pv,ov,lv,hv,gv,ev,fv,sv,wv,kv,n,k1,k2⟩:=hs
 refine bB.perm k1.symm ?_
 refine hB.f262.cF ?_
 unfold Tc
 have hil:i<d.ob.length:=(List.getElem?_eq_some_iff.1 xG).1
 have hn:=hd.n1
 refine Vr (k:=λb3=>Vr (k:=λb4=>Vr (k:=?_)))
 refine Dc .nil<|Wc rfl rfl (lg hB ((k2.r λp hp=>by simp[hp]).ob) hd) ?_
 rintro w _ ⟨rfl,m,rfl⟩
 rw[hi]
 refine Dp (.mv rfl)<|WD.n0 ?_
 obtain⟨oo,r,e1,e2,e3⟩:=k2.xS
 have IJ:Src (m++((b4,.r false [dB] 14)::(b3,.r false [[iv id]] 1)::(bw,.r false [d.cells pv ov lv hv gv ev fv sv wv kv] 25)::(n++t))) 14 ov (fy d.ob):=(k2.r λp hp=>by simp[hp]).ob
 obtain⟨bo,ro,no,co,so,WE,MO,rfl,IM,hno,hMo⟩:=IJ.at<|by simpa[fy]using hil
 have hrow:(fy d.ob)[i]?=some o.row:=by rw[fy,List.getElem?_map,xG];rfl
 refine Vr (k:=Wl rfl IM (hMo.trans hrow) rfl rfl<|Vr (k:=λb6=>Ww<|WS.st<|Wn ?_))
 -- the list in which it ZG
 have hW:WH bw d ([(b6,.r false [o.row] 14),(b4,.r false [dB] 14),(b3,.r false [[iv id]] 1)]++t) ((b6,.r false [o.row] 14)::(m++((b4,.r false [dB] 14)::(b3,.r false [[iv id]] 1)::(bw,.r false [d.cells pv (.slice (some ⟨bo,ro,0⟩) no co so 14) lv hv gv ev fv sv wv kv] 25)::(n++t)))):=
  ⟨_,_,_,_,_,_,_,_,_,_,m++n,qc,k2.bK⟩
 refine Vr (k:=?_)
 refine Ww<|Wc (vs:=[.ptr (some ⟨bw,0,0⟩),iv o.ci,.int .i64<|.ofNat p]) rfl (by rw[<- ho];rfl) (ry hB hW he (z:=o.ci) hp) ?_
 rintro w7 s7 ⟨q1,q2⟩
 -- behind it: the rest of the walk
 have tail:∀(d2:SD)(s8:SH)(l8:Sl),d2.ob=d.ob->d2.st=[]->d2.wa=[]->d2.co=d.co->d2.ct=d.ct->({ d2 with ob:=d.ob.eraseIdx i,co:=unC d.co id }:SD)=d.left id i o.ci p->WH bw d2 ([(b6,.r false [o.row] 14),(b4,.r false [dB] 14),(b3,.r false [[iv id]] 1)]++t) s8 ->
   lk l8 0=some (.ptr<|some ⟨bw,0,0⟩)->lk l8 3=some (.ptr<|some ⟨b3,0,0⟩)->lk l8 4=some (.ptr<|some ⟨b4,0,0⟩)->lk l8 5=some (.int .i64<|.ofNat i)->lk l8 6=some (.ptr<|some ⟨b6,0,0⟩)->WP P K none 131 (Kl F T) l8 [] s8 (Fin P [.cell 4 (T 45)] λw s'=>w=.agg o.row/\WH bw (d.left id i o.ci p) t s') (λ_ _ _ _=>False) (Fin P [.cell 4 (T 45)] λw s'=>w=.agg o.row/\WH bw (d.left id i o.ci p) t s'):=by
  intro d2 s8 l8 zF pk Y9 Yg akq hd2 hW8 x0 x3 x4 x5 x6
  obtain⟨pv,ov,lv,hv,gv,ev,fv,sv,wv,kv,n2,h8,g8⟩:=hW8
  obtain⟨oo,r,e1,e2,e3⟩:=g8.xS
  rw[zF]at e2
  unfold Kl
  refine WP.pre (s':=[(bw,.r false [d2.cells pv ov lv hv gv ev fv sv wv kv] 25)]++(oo++(r++((b6,.r false [o.row] 14)::(b4,.r false [dB] 14)::(b3,.r false [[iv id]] 1)::t)))) (ak λc w h0 h1 h2 hq=>by rw[hq _ _ h8];simp only[h1,h2,h0,hq _ _ e1];omega)<|Wq<|Wv x0<|Wv x0<|Wr (.nilchk rfl rfl)<|Wf rfl<|Wf rfl<|Wr .ld<|Wv x5<|Wv x5<|Wj rfl rfl (bM<|by omega) ?_
  have qZ:bB P K (F 294) [ov,.int .i64<|.ofNat i,.int .i64<|.ofNat<|i+1] ([(bw,.r false [d2.cells pv ov lv hv gv ev fv sv wv kv] 25)]++(oo++(r++((b6,.r false [o.row] 14)::(b4,.r false [dB] 14)::(b3,.r false [[iv id]] 1)::t)))) (λv' s'=>∃o',s'=[(bw,.r false [d2.cells pv ov lv hv gv ev fv sv wv kv] 25)]++(o'++(r++((b6,.r false [o.row] 14)::(b4,.r false [dB] 14)::(b3,.r false [[iv id]] 1)::t)))/\Gr 14 v' (fy<|d.ob.eraseIdx i) o'):=
   hB.Xg.cF (NY e2 (by omega) rfl (by simpa[fy]using hil) (by simp only[fy,List.length_map];omega) λv' o' hG=>⟨o',rfl,by rw[Ad];exact hG⟩)
  refine Ww<|Wc rfl rfl qZ ?_
  rintro v' _ ⟨o',rfl,hG⟩
  refine Wr (.nilchk rfl rfl)<|Wf rfl<|Wf rfl<|Ww<|Wt rfl rfl hG.part .here rfl rfl<|Wn ?_
  have g9:=e3 v' (d.ob.eraseIdx i) o' hG
  generalize hd3:({ d2 with ob:=d.ob.eraseIdx i }:SD)=d3 at g9
  have PG:({ d3 with co:=unC d3.co id }:SD)=d.left id i o.ci p:=by
   rw[<- hd3,<- hd2,<- Yg]
  have UF:d3.ob=d.ob.eraseIdx i:=by rw[<- hd3]
  have aii:d3.ct=d.ct:=by rw[<- hd3];exact akq
  have Y2:d3.st=[]:=by rw[<- hd3];exact pk
  have Za:d3.wa=[]:=by rw[<- hd3];exact Y9
  have md:d2.cells pv v' lv hv gv ev fv sv wv kv=d3.cells pv v' lv hv gv ev fv sv wv kv:=by rw[<- hd3];rfl
  rw[<- PG]
  refine Wg (s':=(bw,.r false [d3.cells pv v' lv hv gv ev fv sv wv kv] 25)::(o'++(r++((b6,.r false [o.row] 14)::(b4,.r false [dB] 14)::(b3,.r false [[iv id]] 1)::t)))) (λ_ _ h=>h) (λ_ _ h=>by rw[<- md];exact h) ?_
  have hR:mD (o'++r) pv v' lv hv gv ev fv sv wv kv d3:=g9.r λp hp=>hp
  have IJ:Src ((bw,.r false [d3.cells pv v' lv hv gv ev fv sv wv kv] 25)::(o'++(r++((b6,.r false [o.row] 14)::(b4,.r false [dB] 14)::(b3,.r false [[iv id]] 1)::t)))) 14 v' (fy d3.ob):=hR.ob.mono λp hp=>by
   rcases List.mem_append.1 hp with hp|hp<;>simp[hp]
  have hb9:(fy d3.ob).length<=1000:=by
   simp only[fy,List.length_map]
   rw[UF]
   exact Nat.le_trans (List.length_eraseIdx_le _ _) hn.2.1
  -- Tp
  refine Ws<|Wq<|Wv x0<|Wr (.nilchk rfl rfl)<|Wf rfl<|Wf rfl<|Wr .ld<|Wr (.lenS rfl IJ.lenOf)<|Wv rfl<|Wn<|Wb ?_
  refine Wp (λk l ds s'=>ds=[]/\∃q,k=(fy d3.ob).length-q/\q<=(fy d3.ob).length/\s'=(bw,.r false [d3.cells pv v' lv hv gv ev fv sv wv kv] 25)::(o'++(r++((b6,.r false [o.row] 14)::(b4,.r false [dB] 14)::(b3,.r false [[iv id]] 1)::t))) /\
   ∀j w,lk [(0,.ptr (some ⟨bw,0,0⟩)),(3,.ptr (some ⟨b3,0,0⟩)),(4,.ptr (some ⟨b4,0,0⟩)),(6,.ptr (some ⟨b6,0,0⟩)),(59,.int .i64 (.ofNat (fy d3.ob).length)),(60,.int .i64 (.ofNat q))] j=some w->lk l j=some w) ?_ ⟨rfl,0,rfl,Nat.zero_le _,rfl,aa x0 (aa x3 (aa x4 (aa x6 qb)))⟩
  rintro k l ds s' ⟨rfl,q,rfl,hq,rfl,hl⟩
  refine Wg hl (λ_ _ h=>h) ?_
  refine Wq<|Wj rfl rfl rfl<|Wn<|Ws<|Wd rfl (λht=>?_)<|λht=>?_
  ·have hlt:q<(fy d3.ob).length:=bh.1 ht
   obtain⟨bq,rq,nq,cq,sq,roq,Mq,rfl,hbq,hnq,hMq⟩:=IJ.at hlt
   have hlt':q<d3.ob.length:=by simpa[fy]using hlt
   have hrq:(fy d3.ob)[q]?=some (d3.ob[q]).row:=by rw[fy,List.getElem?_map,List.getElem?_eq_getElem hlt'];rfl
   have X7:(d3.ob[q]).block≠id:=by
    have hm:d3.ob[q]∈d3.ob:=List.getElem_mem hlt'
    have hm2:∀x,x∈d3.ob->x∈d.ob:=λx hx=>by rw[UF]at hx;exact List.mem_of_mem_eraseIdx hx
    exact oZ _<|hm2 _ hm
   refine Vr (k:=Dl rfl .nil (.load rfl hbq (hMq.trans hrq) rfl rfl)<|Vr (k:=?_))
   refine Wd rfl (λh=>absurd (of_decide_eq_true h) X7)<|λ_=>Wi<|Wo<|Wj rfl rfl (bM<|by omega)<|Wv rfl<|Wn ?_
   exact⟨(fy d3.ob).length-(q+1),by omega,rfl,q+1,rfl,hlt,rfl,aa rfl qb⟩
  ·refine Wx ?_
   -- items
   have ls:lenOf sv=some 0:=by rw[hR.st.len,Y2];rfl
   have lw:lenOf wv=some 0:=by rw[hR.wa.len,Za];rfl
   have ps:partCells 1 sv=some [sv]:=hR.st.part
   have pw:partCells 1 wv=some [wv]:=hR.wa.part
   refine Vr (k:=WP.fd λb9=>Dp (.mv rfl)<|Vr (k:=?_))
   refine WD.al (.bslice (Ia rfl ps rfl pw) rfl) rfl<|Vr (k:=?_)
   refine D0 (.cons .here .nil) ?_<|λo h=>nomatch h
   refine Wb<|WP.dA<|Vr (k:=WP.dA ?_)
   refine Vr (k:=WP.dA<|Vr (k:=WP.dA ?_))
   refine Vr (k:=?_)
   refine WP.dA<|Wq<|Wj rfl rfl rfl<|Wn<|Ws<|Wd rfl (λh=>by cases h)<|λ_=>Wx ?_
   -- what is aac ZA
   refine Vr (k:=?_)
   refine Dc .nil<|Wc rfl rfl (adf hB zP rfl rfl rfl uP (hR.ct.src.mono λp hp=>by rcases List.mem_append.1 hp with hp | hp<;>simp[hp]) (hR.ct.src.mono λp hp=>by rcases List.mem_append.1 hp with hp | hp<;>simp[hp]) (by rw[aii];exact hd.n3.1) (by rw[aii];exact hct)) ?_
   have gT:∀c,iJ (o'++r) pv v' lv hv gv ev fv sv wv kv { d3 with co:=c }:=λc=>⟨g9.ex⟩
   have fin:∀c y1 y2 y3 y4,WH bw { d3 with co:=c } t (y4::(bw,.r false [({ d3 with co:=c }:SD).cells pv v' lv hv gv ev fv sv wv kv] 25)::(o'++(r++(y1::y2::y3::t)))):=λc y1 y2 y3 y4=>
    ⟨pv,v',lv,hv,gv,ev,fv,sv,wv,kv,[y4,y1,y2,y3]++(o'++r),qc,(gT c).bK⟩
   rintro w s9 h9
   have key:∃y4,s9=y4::(bw,.r false [({ d3 with co:=unC d3.co id }:SD).cells pv v' lv hv gv ev fv sv wv kv] 25)::(o'++(r++((b6,.r false [o.row] 14)::(b4,.r false [dB] 14)::(b3,.r false [[iv id]] 1)::t))):=by
    subst h9
    unfold unC
    by_cases hc:d3.co=id
    ·rw[if_pos hc,if_pos hc];exact⟨_,rfl⟩
    ·rw[if_neg hc,if_neg hc];exact⟨_,rfl⟩
   obtain⟨y4,rfl⟩:=key
   refine Vr (k:=We<|Wm (.ce hB.t45) ?_)
   exact⟨rfl,fin _ _ _ _ _⟩
 cases nh:d.ci o.ci p with
 | none=>
  rw[nh]at q2
  have q2:w7=.ptr none:=q2
  subst q2
  refine Wv rfl<|Wn<|Wq<|Wv rfl<|Wh rfl rfl rfl<|Wn<|Wd rfl (λh=>by cases h)<|λ_=>Wi ?_
  exact tail d s7 _ rfl hst KO rfl rfl (by simp only[SD.left,nh]) q1 rfl rfl rfl rfl rfl
 | some x5=>
  obtain⟨bX,put⟩:=x5
  rw[nh]at q2
  obtain⟨b,r5,o5,sz,L,row,x,oi,rest,rfl,p1,p2,p3,p4,p5⟩:=q2
  refine Wv rfl<|Wn<|Wq<|Wv rfl<|Wh rfl rfl rfl<|Wn<|Wd rfl (λ_=>WP.pre p1<|Wo<|Wv rfl<|Wv rfl<|Wr (.nilchk rfl rfl)<|Wr .ld<|Wr (.mkfn rfl rfl) ?_)<|λh=>by cases h
  have hl1:=SD.mC hd (λ_=>rfl) nh
  have Gt:∀row∈nR bX,row.length=1:=λrow hr=>by
   obtain⟨a,_,rfl⟩:=List.mem_map.1 hr
   rfl
  have qZ:bB P K (F 292) [x,.func (F 293) [] [.ptr (some ⟨b3,0,0⟩)]] ([(b,.r false L sz)]++(oi++(rest++([(b6,.r false [o.row] 14),(b4,.r false [dB] 14),(b3,.r false [[iv id]] 1)]++t)))) (λv' s'=>∃o' y,s'=y++([(b,.r false L sz)]++(o'++(rest++([(b6,.r false [o.row] 14),(b4,.r false [dB] 14),(b3,.r false [[iv id]] 1)]++t))))/\Gr 1 v' (nR<|bX.filter λn=>!decide (n=id)) o'):=by
   have dP:∀row∈nR bX,∀y:SH,Has b3 (.r false [[iv id]] 1) y->c6 P K (.func (F 293) [] [.ptr (some ⟨b3,0,0⟩)]) [N0 false row] y (λw s'=>w=.bool (JY id row)/\∃m,s'=m++y):=λrow hr y hy=>by
    obtain⟨a,_,rfl⟩:=List.mem_map.1 hr
    exact c6.func<|I7 hB hy
   refine hB.Xf.cF<|xq (JY id) p4 (by omega) rfl (.inr rfl) (by simp only[nR,List.length_map];omega) Gt (λ_ row hr v hv=>?_) ?_ (λrow hr y hy=>dP row hr y<|.d5<|hy _<|by simp) λv' o' y hG=>⟨o',y,rfl,by rw[<- z9];exact hG⟩
   ·obtain⟨a,_,rfl⟩:=List.mem_map.1 hr
    rw[List.mem_singleton.1 hv];rfl
   ·refine hB.W7.cF<|vz (JY id) p4.src (by omega) (.inr rfl) (by simp only[nR,List.length_map];omega) Gt (λrow hr y=>dP row hr _<|.app<|.d5<|by simp) λn=>⟨rfl,n,rfl⟩
  refine Ww<|Wc rfl rfl qZ ?_
  rintro v' _ ⟨o',y,rfl,hG⟩
  obtain⟨row',u1,u2⟩:=p5 v' _ o' hG
  refine Vr (k:=Ww<|Wt rfl rfl hG.part uP p2 u1<|Wn ?_)
  have hsame:=SD.AY nh<|bX.filter λn=>!decide (n=id)
  exact tail (put<|bX.filter λn=>!decide (n=id)) _ _ hsame.1 (by rw[hsame.2.1,hst]) (by rw[hsame.2.2.1,KO]) hsame.2.2.2.1 hsame.2.2.2.2 (by simp only[SD.left,nh]) u2.bK rfl rfl rfl rfl rfl
@[reducible] def Pu:ID:=⟨0,0,0,0,0,0,[],nilS⟩
@[reducible] def cr (k a b n m:Int)(it:ID):List AV:=[iv k,iv a,iv b,iv n,iv m,nilS,iv it.id,iv it.kind,iv it.aQ,iv it.obj,iv it.gt,iv it.Tk,it.tv]
set_option maxRecDepth 4000
theorem ji (b r o:Nat):dz (.ptr (some ⟨b,r,o⟩)) (.ptr (some ⟨b,r,o⟩))=true:=by
 simp[dz,sameN,same0]
theorem fN {p:Nat × HO}{x n s:SH}(h:x=n++s):p::x=(p::n)++s:=by rw[h];rfl
theorem yg {p:Nat × HO}{s:SH}:p::s=[p]++s:=rfl
theorem xk {l:Sl}{sz:Nat}{x y z:Operand}{u v w:AV}{cs es fs:List AV}(hx:opl l x=some u)(hc:partCells sz u=some cs)(hy:opl l y=some v)(he:partCells sz v=some es)(hz:opl l z=some w)(hf:partCells sz w=some fs):bsrows l sz 0 [(0,x),(1,y),(2,z)]=some [cs,es,fs]:=by
 simp[bsrows,hx,hc,hy,he,hz,hf]
def pY (p:Nat)(b n m:Int):OD:=⟨0,b,.ofNat p,.ofNat p,n,false,false,decide (m=1),0,0,0,0,false⟩
theorem B1 (hB:Base P K F T){bw bx p:Nat}{d:SD}{t:SH}(hs:WH bw d t s)(hx:Has bx (.r false [[.ptr (some ⟨bw,0,0⟩)]] 1) t)(hd:d.Small)(he:d.kQ)(hp:p<d.pl.length){b n m:Int}{it:ID}(h1:0<=d.nx/\d.nx<=1000000)(h2:0<=d.sp/\d.sp<=1000000) :
  bB P K (F 265) [.agg (cr 1 (.ofNat p) b n m it),.ptr<|some ⟨bx,0,0⟩] s (λ_ s'=>WH bw (d.add (pY p b n m) p) t s'):=by
 obtain⟨pv,ov,lv,hv,gv,ev,fv,sv,wv,kv,nn,k1,k2⟩:=hs
 refine bB.perm k1.symm ?_
 refine hB.f265.cF ?_
 unfold Td
 refine Vr (k:=λb2=>Wn ?_)
 have hW:WH bw d t ((b2,.r false [cr 1 (.ofNat p) b n m it] 13)::(bw,.r false [d.cells pv ov lv hv gv ev fv sv wv kv] 25)::(nn++t)):=WH.bK (m:=[_]) ⟨pv,ov,lv,hv,gv,ev,fv,sv,wv,kv,nn,.refl _,k2⟩
 refine Vr (k:=?_)
 refine Ww<|Wz [.ptr (some ⟨bw,0,0⟩),.agg (pY p b n m).row,.bool false] rfl rfl (Br hB hW hd he hp rfl h1 h2) ?_
 intro w s' hw
 exact Wn<|Wm .nil hw
theorem yh {p q r:Nat × HO}{s:SH}:p::q::r::s=[p,q,r]++s:=rfl
theorem Src.sameN {sz:Nat}{v:AV}{L:List (List AV)}(h:Src s sz v L)(n:Nat):Ev.sameN (n+1) v v=true:=by
 cases h with
 | nil=>simp[Ev.sameN,same0]
 | @zero a c sl rw=>cases a<;>simp[Ev.sameN,same0]
 | emp=>rfl
 | rows _ _=>simp[Ev.sameN,same0]
theorem GK.agG {v:AV}{o:SH}(h:GK v [] o):v=nilS:=by
 generalize hL:([]:List TG)=L at h
 cases h with
 | nil=>rfl
 | rows h=>exact absurd hL.symm h
theorem tS (hB:Base P K F T){k a b n m:Int}{it:ID}(hk:Kv s it.tv it.tg)(hl:it.tg.length<=901000):bB P K (F 165) [.agg (cr k a b n m it)] s (λv s'=>∃tv o m',v=.agg (cr k a b n m { it with tv:=tv })/\GK tv it.tg o/\s'=m'++s):=by
 refine hB.f165.cF ?_
 unfold SW
 refine Vr (k:=λb1=>Vr (k:=λb2=>Vr (k:=Dc .nil<|W1 hB.VS.iX ?_)))
 rintro w _ ⟨rfl,rfl⟩
 refine Vr (k:=WD.lk rfl .nil .ld<|Dc .nil<|W1 (aaN hB (hk.mono λp hp=>by simp[hp]) hl) ?_)
 rintro w _ ⟨og,j,hg,rfl⟩
 refine Vr (k:=Dc .nil<|Wt rfl rfl rfl (.app<|.there .here) rfl rfl<|Vr (k:=Dc .nil<|Wt rfl rfl hg.gr.part (.app<|.there .here) rfl rfl<|D0 .nil ?_ ?_))
 rotate_left
 ·intro o ho
  rw[List.mem_singleton.1 ho]
  refine⟨(λi hi=>nomatch hi),Nat.zero_le _,hk.src.sameN _,λk _ hk=>?_⟩
  rcases j9 hk with rfl|rfl
  ·exact⟨_,rfl,.load rfl (.there .here) rfl rfl rfl⟩
  ·exact⟨_,rfl,.load rfl (.there .here) rfl rfl rfl⟩
 have fin:∀q1 q2:Nat × HO,∃m,(og++j)++(q1::q2::s)=m++s:=λq1 q2=>⟨(og++j)++[q1,q2],by simp⟩
 refine Vr (k:=We<|Wm (.cell rfl hB.t50.1 hB.t50.2 (.inl rfl) (.app .here) rfl rfl rfl .nil) ?_)
 obtain⟨m',h'⟩:=fin (b2,.r false [cr k a b n m { it with tv:=w }] 13) (b1,.r false [cr k a b n m { it with tv:=w }] 13)
 exact⟨w,og,m',rfl,hg,h'⟩
theorem nA {a b c:List AV}{i n:Nat}(ha:a.length=i)(hb:b.length=n):bV n (cu i (a++(b++c)))=some b:=by
 subst ha hb
 rw[cw,List.drop_left,cK _ _ (by rw[List.length_append];omega),List.take_left]
theorem D7 {a b c b':List AV}{i:Nat}(ha:a.length=i)(hb:b.length=b'.length):fK (a++(b++c)) i b'=some (a++(b'++c)):=by
 subst ha
 unfold fK
 have h1:bV a.length (a++(b++c))=some a:=by rw[cK _ _ (by rw[List.length_append];omega),List.take_left]
 have h2:cu a.length (a++(b++c))=b++c:=by rw[cw,List.drop_left]
 have h3:bV (aK b') (b++c)=some b:=by rw[ar,<- hb,cK _ _ (by rw[List.length_append];omega),List.take_left]
 simp only[h1,h2,h3]
 rw[aN,aN,ar,cw,<- hb,List.drop_left]
theorem SL.sameN {v:AV}{LL:List (List (List AV))}(h:SL s v LL)(n:Nat):Ev.sameN (n+1) v v=true:=by
 obtain⟨L,h1,_⟩:=h
 exact h1.sameN n
theorem SIt.sameN {v:AV}{l:List ID}(h:SIt s v l)(n:Nat):Ev.sameN (n+1) v v=true:=by
 obtain⟨L,h1,_⟩:=h
 exact h1.sameN n
theorem iq (n:Nat)(k:Int):sameN (n+1) (iv k) (iv k)=true:=by
 have:ieq k k=true:=gd.2 rfl
 simp[sameN,same0,keq,this]
theorem J1 (n:Nat)(b:Bool):sameN (n+1) (.bool b) (.bool b)=true:=by simp[sameN,same0]
theorem mD.same {pv ov lv hv gv ev fv sv wv kv:AV}{d:SD}(h:mD s pv ov lv hv gv ev fv sv wv kv d):dz (.agg (d.cells pv ov lv hv gv ev fv sv wv kv)) (.agg (d.cells pv ov lv hv gv ev fv sv wv kv))=true:=by
 show sameL (sameN 5) _ _=true
 unfold SD.cells
 simp only[sameL,h.pl.sameN,h.ob.sameN,h.lb.sameN,h.hd.sameN,h.gr.sameN,h.ex.sameN,h.fi.sameN,h.st.sameN,h.wa.sameN,h.ct.src.sameN,iq,J1,Bool.and_true]
theorem Jx {sc b b' c:List AV}{x:AV}(hs:sc.length=25)(hb:b.length=b'.length):fK (sc++([x]++(b++c))) 26 b'=some (sc++([x]++(b'++c))):=by
 have:=D7 (a:=sc++[x]) (b:=b) (b':=b') (c:=c) (i:=26) (by simp[hs]) hb
 simpa[List.append_assoc]using this
def d00:SD:={ pl:=[⟨20,0,0,0,0,false,false,false⟩,⟨20,0,0,0,0,false,false,false⟩],ob:=[],lb:=[[],[]],hd:=[[],[]],gr:=[[],[]],ex:=[[],[]],fi:=[],st:=[],wa:=[],tu:=1,ac:=0,ph:=0,pr:=0,pa:=0,bl:=0,nx:=1,sp:=1,us:=0,ck:=0,co:=0,ca:=0,py:=false,oc:=0,wi:=0,ct:=[] }
def Bgn (sc:List AV)(n:SH):Prop:=∃pv ov lv hv gv ev fv sv wv kv,sc=d00.cells pv ov lv hv gv ev fv sv wv kv/\mD n pv ov lv hv gv ev fv sv wv kv d00
theorem Bgn.len {sc:List AV}{n:SH}(h:Bgn sc n):sc.length=25:=by
 obtain⟨pv,ov,lv,hv,gv,ev,fv,sv,wv,kv,rfl,_⟩:=h
 rfl
def aH (bl:Nat)(EL:List (List AV))(d:SD)(t s:SH):Prop:=∃sc lv pv ov IO hv gv ev fv sv wv kv oL n,s.Perm ((bl,.r false [sc++([lv]++(d.cells pv ov IO hv gv ev fv sv wv kv++[]))] 51)::(oL++(n++t)))/\Bgn sc n/\Gr 13 lv EL oL/\mD n pv ov IO hv gv ev fv sv wv kv d
theorem mD.mono {pv ov lv hv gv ev fv sv wv kv:AV}{d:SD}{s':SH}(h:mD s pv ov lv hv gv ev fv sv wv kv d)(hs:∀p,p∈s->p∈s'):mD s' pv ov lv hv gv ev fv sv wv kv d:=
 ⟨h.pl.mono hs,h.ob.mono hs,h.lb.mono hs,h.hd.mono hs,h.gr.mono hs,h.ex.mono hs,h.fi.mono hs,h.st.mono hs,h.wa.mono hs,h.ct.mono hs⟩
theorem Bgn.mono {sc:List AV}{n n':SH}(h:Bgn sc n)(hs:∀p,p∈n->p∈n'):Bgn sc n':=by
 obtain⟨pv,ov,lv,hv,gv,ev,fv,sv,wv,kv,h1,h2⟩:=h
 exact⟨pv,ov,lv,hv,gv,ev,fv,sv,wv,kv,h1,h2.mono hs⟩
theorem abt (hB:Base P K F T){bl:Nat}{EL:List (List AV)}{d d':SD}{t:SH}{k a b n m:Int}{it:ID}(hs:aH bl EL d t s)(hE:EL.length<=5000)(hkv:Kv t it.tv it.tg)(hkl:it.tg.length<=901000)
  (hap:∀{pv ov lv hv gv ev fv sv wv kv:AV}(s:SH),mD s pv ov lv hv gv ev fv sv wv kv d->Kv s it.tv it.tg->bB P K (F 164) [.agg (d.cells pv ov lv hv gv ev fv sv wv kv),.agg<|cr k a b n m it] s (λv s'=>∃pv ov lv hv gv ev fv sv wv kv nn,v=.tuple [.agg (d'.cells pv ov lv hv gv ev fv sv wv kv),iv 0]/\s'=nn++s/\iJ nn pv ov lv hv gv ev fv sv wv kv d')) :
  bB P K (F 108) [.ptr (some ⟨bl,0,0⟩),.agg<|cr k a b n m it] s (λv s'=>v=iv 0/\∃tv,(it.tg=[]->tv=nilS)/\aH bl (EL++[cr k a b n m { it with tv:=tv }]) d' t s'):=by
 obtain⟨sc,lv,pv,ov,IO,hv,gv,ev,fv,sv,wv,kv,oL,nn,k1,kb,k3,k4⟩:=hs
 have k2:=kb.len
 refine bB.perm k1.symm ?_
 refine hB.f108.cF ?_
 unfold SE
 refine Vr (k:=?_)
 refineλb3=>Wv rfl<|Wn<|Ws<|Wq<|Wv rfl<|Wh rfl rfl rfl<|Wn<|Wd rfl (λh=>by cases h)<|λ_=>Wi ?_
 have PT:bV 25 (cu 26<|sc++([lv]++(d.cells pv ov IO hv gv ev fv sv wv kv++[])))=some (d.cells pv ov IO hv gv ev fv sv wv kv):=by
  have:=nA (a:=sc++[lv]) (b:=d.cells pv ov IO hv gv ev fv sv wv kv) (c:=[]) (i:=26) (n:=25) (by simp[k2]) rfl
  rwa [List.append_assoc]at this
 have hl:bV 1 (cu 25<|sc++([lv]++(d.cells pv ov IO hv gv ev fv sv wv kv++[])))=some [lv]:=nA k2 rfl
 refine Ws<|WP.fd λb5=>Dp (.mv rfl)<|Vr (k:=Dc .nil<|W1 (hap _ (k4.mono λp hp=>by simp[hp])<|hkv.mono λp hp=>by simp[hp]) ?_)
 rintro w _ ⟨Gz,Gy,nw,Gw,Gl,Gj,Gk,GA,GB,kv2,n2,rfl,rfl,g2⟩
 have R9:mD n2 Gz Gy nw Gw Gl Gj Gk GA GB kv2 d':=g2.r λp hp=>hp
 refine Vr (k:=?_)
 refine WD.al (.alloc rfl) rfl<|Dc (.yes (show bit 767 9=true from rfl) rfl (.app .here) .nil)<|WS.st<|Dp (.mv rfl)<|WD.n0 ?_
 refine Wg (s':=n2++((b5,.r false [d'.cells Gz Gy nw Gw Gl Gj Gk GA GB kv2] 25)::(b3,.r false [cr k a b n m it] 13)::(bl,.r false [sc++([lv]++(d.cells pv ov IO hv gv ev fv sv wv kv++[]))] 51)::(oL++(nn++t)))) (λ_ _ h=>h) (λ_ _ h=>h) ?_
 refine Vr (k:=WP.fd λb8=>Dp (.mv rfl)<|Vr (k:=WD.lk rfl .nil .ld<|Vr (k:=Dc .nil<|W1 (tS hB (hkv.mono λp hp=>by simp[hp]) hkl) ?_)))
 rintro w _ ⟨tvn,ogn,m3,rfl,hgn,rfl⟩
 refine WD.al (.bslice (fZ rfl rfl) rfl) rfl ?_
 refine Dc (.yes (show bit 508 8=true from rfl) rfl (.app .here) .nil)<|WS.pre (s':=(m3++((b8,.r false [cr k a b n m { it with tv:=tvn }] 13)::(n2++[(b5,.r false [d'.cells Gz Gy nw Gw Gl Gj Gk GA GB kv2] 25),(b3,.r false [cr k a b n m it] 13),(bl,.r false [sc++([lv]++(d.cells pv ov IO hv gv ev fv sv wv kv++[]))] 51)])))++(oL++(nn++t))) (qc)<|WS.append_gr rfl k3 rfl (Src.all<|.left<|.app .here) (by omega) (by omega) (by omega) λv6 o6 j6 hG=>?_
 refine WD.lk rfl .nil (.load rfl (.app<|.left<|.app<|.there<|.app .here) rfl rfl rfl)<|Vr (k:=?_)
 refine Dc .nil<|Wt rfl rfl hG.part (.app<|.left<|.app<|.there<|.app<|.there<|.there .here) rfl (D7 k2 rfl)<|Vr (k:=?_)
 refine Dc .nil<|Wt rfl rfl rfl (.app<|.left<|.app<|.there<|.app<|.there<|.there .here) rfl (Jx k2 rfl)<|D0 .nil ?_ ?_
 ·refine Vk (k:=We<|Wm (.tmp rfl .nil) ?_)
  have fin:∀y1 y2 y3,aH bl (EL++[cr k a b n m { it with tv:=tvn }]) d' t (o6++((m3++(y1::(n2++[y2,y3,(bl,.r false [sc++([v6]++(d'.cells Gz Gy nw Gw Gl Gj Gk GA GB kv2++[]))] 51)])))++(j6++(nn++t)))):=λy1 y2 y3=>
   ⟨sc,v6,Gz,Gy,nw,Gw,Gl,Gj,Gk,GA,GB,kv2,o6,n2++(m3++(y1::y2::y3::(j6++nn))),qc,kb.mono λp hp=>by simp[hp],hG,R9.mono λp hp=>by simp[hp]⟩
  exact⟨rfl,tvn,λh=>(by rw[h]at hgn;exact hgn.agG),fin _ _ _⟩
 ·intro o ho
  rcases List.mem_cons.1 ho with rfl|ho
  ·refine⟨(λi hi=>by rw[List.mem_singleton.1 hi];exact(show bit 0 8=false from rfl)),Nat.zero_le _,R9.same,λk _ hk=>?_⟩
   rcases(by have:k<=3:=hk;omega:k=0\/k=1\/k=2\/k=3)with rfl|rfl|rfl|rfl
   ·exact⟨_,rfl,.load rfl (.there<|.app .here) rfl rfl rfl⟩
   ·exact⟨_,rfl,.load rfl (.app<|.there<|.app .here) rfl rfl rfl⟩
   ·exact⟨_,rfl,.load rfl (.app<|.left<|.app<|.there<|.app .here) rfl rfl rfl⟩
   ·exact⟨_,rfl,.load rfl (.app<|.left<|.app<|.there<|.app .here) rfl rfl rfl⟩
  ·rw[List.mem_singleton.1 ho]
   refine⟨(λi hi=>by rw[List.mem_singleton.1 hi];exact(show bit 28 8=false from rfl)),Nat.zero_le _,k3.out.src.same,λk _ hk=>?_⟩
   rcases j9 hk with rfl|rfl
   ·exact⟨_,rfl,.load rfl (.there<|.app<|.there<|.there .here) rfl hl rfl⟩
   ·exact⟨_,rfl,.load rfl (.app<|.there<|.app<|.there<|.there .here) rfl hl rfl⟩
theorem zW (hB:Base P K F T){bl:Nat}{EL:List (List AV)}{d d':SD}{t:SH}{k a b n m:Int}{it:ID}(hs:aH bl EL d t s)(hE:EL.length<=5000)
  (hap:∀{pv ov lv hv gv ev fv sv wv kv:AV}(s:SH),mD s pv ov lv hv gv ev fv sv wv kv d->Kv s it.tv it.tg->bB P K (F 164) [.agg (d.cells pv ov lv hv gv ev fv sv wv kv),.agg<|cr k a b n m it] s (λv s'=>∃pv ov lv hv gv ev fv sv wv kv nn,v=.tuple [.agg (d'.cells pv ov lv hv gv ev fv sv wv kv),iv 0]/\s'=nn++s/\iJ nn pv ov lv hv gv ev fv sv wv kv d')) (h0:it.tg=[]) (h1:it.tv=nilS) :
  bB P K (F 108) [.ptr (some ⟨bl,0,0⟩),.agg<|cr k a b n m it] s (λv s'=>v=iv 0/\aH bl (EL++[cr k a b n m it]) d' t s'):=by
 refine(abt hB hs hE ⟨[],by rw[h0,h1];exact .nil,λp hp=>nomatch hp⟩ (by rw[h0];decide) hap).post λv s' h=>?_
 obtain⟨hv,tv,h2,h3⟩:=h
 obtain rfl:=h2 h0
 rw[<- h1]at h3
 exact⟨hv,h3⟩
theorem aH.bK {bl:Nat}{EL:List (List AV)}{d:SD}{t s m:SH}(h:aH bl EL d t s):aH bl EL d t (m++s):=by
 obtain⟨sc,lv,pv,ov,IO,hv,gv,ev,fv,sv,wv,kv,oL,nn,k1,k2,k3,k4⟩:=h
 exact⟨sc,lv,pv,ov,IO,hv,gv,ev,fv,sv,wv,kv,oL,nn++m,ak λc w h0 h1 h2 hq=>by simp only[h1,h2,hq _ _ k1];omega,k2.mono λp hp=>by simp[hp],k3,k4.mono λp hp=>by simp[hp]⟩
theorem aH.perm {bl:Nat}{EL:List (List AV)}{d:SD}{t s s':SH}(h:aH bl EL d t s)(hp:s.Perm s'):aH bl EL d t s':=by
 obtain⟨sc,lv,pv,ov,IO,hv,gv,ev,fv,sv,wv,kv,oL,nn,k1,k2,k3,k4⟩:=h
 exact⟨sc,lv,pv,ov,IO,hv,gv,ev,fv,sv,wv,kv,oL,nn,hp.symm.trans k1,k2,k3,k4⟩
theorem aH.fb {bl:Nat}{EL:List (List AV)}{d:SD}{x t s:SH}(h:aH bl EL d (x++t) s):aH bl EL d t s:=by
 obtain⟨sc,lv,pv,ov,IO,hv,gv,ev,fv,sv,wv,kv,oL,nn,k1,k2,k3,k4⟩:=h
 exact⟨sc,lv,pv,ov,IO,hv,gv,ev,fv,sv,wv,kv,oL,nn++x,ak λc w h0 h1 h2 hq=>by simp only[h1,h2,hq _ _ k1];omega,k2.mono λp hp=>by simp[hp],k3,k4.mono λp hp=>by simp[hp]⟩
theorem aH.mem {bl:Nat}{EL:List (List AV)}{d:SD}{t s:SH}(h:aH bl EL d t s){b:Nat}{o:HO}(hb:Has b o t):Has b o s:=by
 obtain⟨sc,lv,pv,ov,IO,hv,gv,ev,fv,sv,wv,kv,oL,nn,k1,k2,k3,k4⟩:=h
 exact .d5<|k1.mem_iff.2<|by simp[hb.mem]
theorem aH.HW {bl:Nat}{EL:List (List AV)}{d:SD}{t s x:SH}(h:aH bl EL d t s):aH bl EL d (x++t) (x++s):=by
 obtain⟨sc,lv,pv,ov,IO,hv,gv,ev,fv,sv,wv,kv,oL,nn,k1,k2,k3,k4⟩:=h
 exact⟨sc,lv,pv,ov,IO,hv,gv,ev,fv,sv,wv,kv,oL,nn,ak λc w h0 h1 h2 hq=>by simp only[h1,h2,hq _ _ k1];omega,k2,k3,k4⟩
theorem Jn (hB:Base P K F T){bl:Nat}{EL:List (List AV)}{d:SD}{t:SH}(hs:aH bl EL d t s)(hd:d.Small) :
  bB P K (F 52) [.ptr (some ⟨bl,0,0⟩)] s (λv s'=>∃m,aH bl EL d (m++t) s'/\∃pv ov lv hv gv ev fv sv wv kv,v=.agg (d.cells pv ov lv hv gv ev fv sv wv kv)/\iJ m pv ov lv hv gv ev fv sv wv kv d):=by
 have hs0:=hs
 obtain⟨sc,lv,pv,ov,IO,hv,gv,ev,fv,sv,wv,kv,oL,nn,k1,k2,k3,k4⟩:=hs
 refine bB.perm k1.symm ?_
 have nr:=hs0.perm k1
 refine hB.f52.cF ?_
 unfold ZY
 have PT:bV 25 (cu 26<|sc++([lv]++(d.cells pv ov IO hv gv ev fv sv wv kv++[])))=some (d.cells pv ov IO hv gv ev fv sv wv kv):=by
  have:=nA (a:=sc++[lv]) (b:=d.cells pv ov IO hv gv ev fv sv wv kv) (c:=[]) (i:=26) (n:=25) (by simp[k2.len]) rfl
  rwa [List.append_assoc]at this
 refine Vr (k:=λb2=>Vr (k:=Ww<|W1 (mw hB (k4.mono λp hp=>by simp[hp]) hd) ?_))
 rintro w _ ⟨Gz,Gy,nw,Gw,Gl,Gj,Gk,GA,GB,kv2,n2,rfl,rfl,g2⟩
 refine Vr (k:=We<|Wm (.cell rfl hB.t41.1 hB.t41.2 (.inl rfl) (.app .here) rfl rfl rfl .nil) ?_)
 exact⟨n2,aH.HW<|aH.bK (m:=[_]) nr,Gz,Gy,nw,Gw,Gl,Gj,Gk,GA,GB,kv2,rfl,g2⟩
@[reducible] def bu (bl:Nat)(aZ:AV)(c0 c1 c2 c3 c4:Int)(ap:AV):List AV:=[.ptr (some ⟨bl,0,0⟩),aZ,iv c0,iv c1,iv c2,iv c3,iv c4,ap]
theorem iT (hB:Base P K F T){bf bl:Nat}{aZ ap:AV}{c0 c1 c2 c3 c4:Int}(hf:Has bf (.r false [bu bl aZ c0 c1 c2 c3 c4 ap] 8) s):bB P K (F 24) [.ptr (some ⟨bf,0,0⟩)] s (λv s'=>v=.ptr (some ⟨bl,0,0⟩)/\s'=s):=by
 refine hB.f24.cF ?_
 unfold ZP
 refine Vk (k:=We<|Wm (.tmp rfl .nil) ?_)
 exact⟨rfl,rfl⟩
theorem zY (hB:Base P K F T){bf bl:Nat}{aZ ap:AV}{c0 c1 c2 c3 c4:Int}{EL:List (List AV)}{d:SD}{t:SH}(hs:aH bl EL d t s)(hd:d.Small)(hf:Has bf (.r false [bu bl aZ c0 c1 c2 c3 c4 ap] 8) t) :
  bB P K (F 14) [.ptr (some ⟨bf,0,0⟩)] s (λv s'=>∃m,aH bl EL d (m++t) s'/\∃pv ov lv hv gv ev fv sv wv kv,v=.agg (d.cells pv ov lv hv gv ev fv sv wv kv)/\iJ m pv ov lv hv gv ev fv sv wv kv d):=by
 refine hB.f14.cF ?_
 unfold ZN
 refine Vr (k:=λb2=>Wn ?_)
 have dt:aH bl EL d ([(b2,.r false [cC] 25)]++t) ((b2,.r false [cC] 25)::s):=hs.HW (x:=[_])
 refine Vr (k:=Ww<|W1 (iT hB<|.there<|hs.mem hf) ?_)
 rintro w _ ⟨rfl,rfl⟩
 refine Ww<|W1 (Jn hB dt hd) ?_
 rintro w s3 ⟨m,gw,pv,ov,lv,hv,gv,ev,fv,sv,wv,kv,rfl,hR⟩
 obtain⟨sc,nw,Gz,Gy,IO,Gw,Gl,Gj,Gk,GA,GB,kv2,oL,nn,k1,k2,k3,k4⟩:=gw
 refine Ww<|WS.pre (s':=[(b2,.r false [cC] 25)]++((bl,.r false [sc++([nw]++(d.cells Gz Gy IO Gw Gl Gj Gk GA GB kv2++[]))] 51)::(oL++(nn++(m++t))))) (ak λc w h0 h1 h2 hq=>by simp only[h1,h2,h0,hq _ _ k1];omega)<|WS.st<|Wn<|We<|Wm (.cell rfl hB.t41.1 hB.t41.2 (.inl rfl) .here rfl rfl rfl .nil) ?_
 exact⟨m,aH.bK (m:=[_]) ⟨sc,nw,Gz,Gy,IO,Gw,Gl,Gj,Gk,GA,GB,kv2,oL,nn,.refl _,k2,k3,k4⟩,pv,ov,lv,hv,gv,ev,fv,sv,wv,kv,rfl,hR⟩
theorem iU (hB:Base P K F T){bf bl:Nat}{aZ ap:AV}{c0 c1 c2 c3 c4:Int}{EL:List (List AV)}{d:SD}{t:SH}(hs:aH bl EL d t s)(hd:d.Small)(hf:Has bf (.r false [bu bl aZ c0 c1 c2 c3 c4 ap] 8) t) :
  bB P K (F 14) [.ptr (some ⟨bf,0,0⟩)] s (λv s'=>∃m,aH bl EL d (m++t) s'/\∃pv ov lv hv gv ev fv sv wv kv,v=.agg (d.cells pv ov lv hv gv ev fv sv wv kv)/\mD m pv ov lv hv gv ev fv sv wv kv d):=
 (zY hB hs hd hf).post λv s'⟨m,h1,pv,ov,lv,hv,gv,ev,fv,sv,wv,kv,h2,h3⟩=>⟨m,h1,pv,ov,lv,hv,gv,ev,fv,sv,wv,kv,h2,h3.r λp hp=>hp⟩
theorem cz (hB:Base P K F T){bf bl:Nat}{aZ ap:AV}{c0 c1 c2 c3 c4:Int}{EL:List (List AV)}{d:SD}{t:SH}(hs:aH bl EL d t s)(hd:d.Small)(hf:Has bf (.r false [bu bl aZ c0 c1 c2 c3 c4 ap] 8) t) :
  bB P K (F 14) [.ptr (some ⟨bf,0,0⟩)] s (λv s'=>aH bl EL d t s'/\∃pv ov lv hv gv ev fv sv wv kv,v=.agg (d.cells pv ov lv hv gv ev fv sv wv kv)/\mD s' pv ov lv hv gv ev fv sv wv kv d):=
 (iU hB hs hd hf).post λv s'⟨m,h,pv,ov,lv,hv,gv,ev,fv,sv,wv,kv,KN,hR⟩=>⟨h.fb,pv,ov,lv,hv,gv,ev,fv,sv,wv,kv,KN,hR.mono λp hp=>(h.mem<|.d5<|List.mem_append_left _ hp).mem⟩
theorem aH.cons {bl:Nat}{EL:List (List AV)}{d:SD}{t s:SH}{p:Nat × HO}(h:aH bl EL d t s):aH bl EL d (p::t) (p::s):=by
 obtain⟨sc,lv,pv,ov,IO,hv,gv,ev,fv,sv,wv,kv,oL,nn,k1,k2,k3,k4⟩:=h
 exact⟨sc,lv,pv,ov,IO,hv,gv,ev,fv,sv,wv,kv,oL,nn,ak λc w h0 h1 h2 hq=>by simp only[h1,h2,hq _ _ k1];omega,k2,k3,k4⟩
theorem aH.tail {bl:Nat}{EL:List (List AV)}{d:SD}{t s:SH}{p:Nat × HO}(h:aH bl EL d (p::t) s):aH bl EL d t s:=aH.fb (x:=[p]) h
theorem aev {n:Int}(h0:1<=n)(h1:n<=4611686018427387904):binV .sub (iv n) (.int .i64 (.ofNat 1))=some (iv (n-1)):=by
 obtain⟨k,rfl⟩:=Int.eq_ofNat_of_zero_le (by omega:0<=n)
 have hk:1<=k:=by omega
 show mkI .i64 (vH (.ofNat k)<|.ofNat 1)=_
 have:vH (.ofNat k) (.ofNat 1)=.ofNat (k-1):=by
  show(match Nat.ble 1 k with | true=>Int.ofNat (Nat.sub k 1) | false=>.negSucc<|Nat.pred<|Nat.sub 1 k)=_
  rw[Nat.ble_eq_true_of_le hk];rfl
 rw[this,tD<|by omega]
 congr 2
 show((k-1:Nat):Int)=(k:Int)-1
 omega
def Ap (P:Program)(K:Orc)(F:Nat->FuncId)(k a b n m:Int)(it:ID)(d d':SD):Prop:=∀{pv ov lv hv gv ev fv sv wv kv:AV}(s:SH),mD s pv ov lv hv gv ev fv sv wv kv d->Kv s it.tv it.tg->bB P K (F 164) [.agg (d.cells pv ov lv hv gv ev fv sv wv kv),.agg (cr k a b n m it)] s (λv s'=>∃pv ov lv hv gv ev fv sv wv kv nn,v=.tuple [.agg (d'.cells pv ov lv hv gv ev fv sv wv kv),iv 0]/\s'=nn++s/\iJ nn pv ov lv hv gv ev fv sv wv kv d')
theorem mI (hB:Base P K F T){bl:Nat}{EL:List (List AV)}{d d':SD}{t:SH}{k a b n m:Int}{it:ID}(hs:aH bl EL d t s)(hE:EL.length<=5000)(hap:Ap P K F k a b n m it d d')(hz:it.tg=[]/\it.tv=nilS:=by exact⟨rfl,rfl⟩) :
  bB P K (F 53) [.agg [.ptr (some ⟨bl,0,0⟩)],.agg<|cr k a b n m it] s (λv s'=>v=iv 0/\aH bl (EL++[cr k a b n m it]) d' t s'):=by
 refine hB.f53.cF ?_
 unfold ZZ
 refine Vr (k:=λb2=>Vr (k:=λb3=>Vr (k:=Ww<|W1 (zW hB (aH.bK (m:=[_,_]) hs) hE hap hz.1 hz.2) ?_)))
 rintro w s2 ⟨rfl,h2⟩
 exact Wv rfl<|Wn<|We<|Wm (.tmp rfl .nil) ⟨rfl,h2⟩
theorem aaD (hB:Base P K F T){bl:Nat}{EL:List (List AV)}{d d':SD}{t:SH}{k a b n m:Int}{it:ID}(hs:aH bl EL d t s)(hE:EL.length<=5000)(hap:Ap P K F k a b n m it d d')(hkv:Kv t it.tv it.tg)(hkl:it.tg.length<=901000) :
  bB P K (F 53) [.agg [.ptr (some ⟨bl,0,0⟩)],.agg<|cr k a b n m it] s (λv s'=>v=iv 0/\∃tv,(it.tg=[]->tv=nilS)/\aH bl (EL++[cr k a b n m { it with tv:=tv }]) d' t s'):=by
 refine hB.f53.cF ?_
 unfold ZZ
 refine Vr (k:=λb2=>Vr (k:=λb3=>Vr (k:=Ww<|W1 (abt hB (aH.bK (m:=[_,_]) hs) hE hkv hkl hap) ?_)))
 rintro w s2 ⟨rfl,h2⟩
 exact Wv rfl<|Wn<|We<|Wm (.tmp rfl .nil) ⟨rfl,h2⟩
theorem acO (hB:Base P K F T){bf bl:Nat}{aZ ap:AV}{c0 c1 c2 c3 c4:Int}{EL:List (List AV)}{d d':SD}{t:SH}{a:Int}{b n m:Int}{it:ID}(hs:aH bl EL d t s)(hd:d.Small)(hf:Has bf (.r false [bu bl aZ c0 c1 c2 c3 c4 ap] 8) t)(hE:EL.length<=5000)
  (hlen:ilt (.ofNat d.ob.length) c0=true) (hap:Ap P K F 1 a b n m it d d') (hd':d'.Small) (YI:1<=d'.nx/\d'.nx<=1000000) (hz:it.tg=[]/\it.tv=nilS:=by exact⟨rfl,rfl⟩) :
  bB P K (F 15) [.ptr (some ⟨bf,0,0⟩),.agg<|cr 1 a b n m it] s (λv s'=>v=iv (d'.nx-1)/\aH bl (EL++[cr 1 a b n m it]) d' t s'):=by
 refine hB.f15.cF ?_
 unfold WN
 refine Vr (k:=λb3=>Vk (k:=?_))
 have gw:aH bl EL d ((b3,.r false [cr 1 a b n m it] 13)::t) ((b3,.r false [cr 1 a b n m it] 13)::s):=hs.cons
 refine Vk (k:=WP.bD ?_)
 refine(Dp (.faddr rfl)<|Dl rfl .nil .ld<|Dp (.eql rfl rfl<|dh _ _)<|Dp (.mv rfl)<|Dy<|Dp (.mv rfl)<|Dy<|Dc .nil<|W1 (cz hB gw hd zP) ?_)
 rintro w s4 ⟨pM,pv,ov,lv,hv,gv,ev,fv,sv,wv,kv,rfl,hR⟩
 have lo:lenOf ov=some d.ob.length:=by rw[hR.ob.lenOf];simp[fy]
 refine(Dy<|Dp (.fld rfl rfl)<|Dy<|Dp (.lenS rfl lo)<|Dy<|Dp (.mv rfl)<|Dy<|Dp (.nilchk rfl rfl)<|Dy<|Dp (.faddr rfl)<|Dy<|Dp (.faddr rfl)<|Dy<|WD.lk rfl .nil .ld<|Dy<|Dp (.arith rfl rfl rfl)<|Dp (.uS rfl rfl)<|Dp (.mv rfl)<|D0 .nil ?_ ?_)
 rotate_left
 ·intro o ho
  rw[List.mem_singleton.1 ho]
  refine⟨(λi hi=>nomatch hi),Nat.zero_le _,wC _,λk _ hk=>?_⟩
  rcases j9 hk with rfl|rfl
  ·exact⟨_,rfl,.load rfl (.there<|hs.mem hf) rfl rfl rfl⟩
  ·exact⟨_,rfl,.load rfl (pM.mem zP) rfl rfl rfl⟩
 refine Wd rfl (λh=>by rw[hlen]at h;cases h)<|λ_=>Vr (k:=Dc .nil<|W1 (mI hB pM hE hap (hz:=hz)) ?_)
 rintro w s5 ⟨rfl,tn⟩
 refine Vr (k:=Ww<|W1 (cz hB tn hd' zP) ?_)
 rintro w s6 ⟨KL,pv,ov,lv,hv,gv,ev,fv,sv,wv,kv,rfl,hR6⟩
 refine Wr (.fld rfl rfl)<|Wj rfl rfl (aev YI.1<|by omega)<|Wv rfl<|Wn<|We<|Wm (.tmp rfl .nil) ⟨rfl,KL.tail⟩
theorem SD.abz {d:SD}{z:Int}{p:Nat}{bX:List Int}{put:List Int->SD}(h:d.ci z p=some (bX,put))(f:Int->Bool):(put (bX.filter f)).pl=d.pl/\(d.kQ->(put (bX.filter f)).kQ)/\(put (bX.filter f)).fi.length<=d.fi.length /\
  ((∀LL,(LL=d.lb\/LL=d.hd\/LL=d.gr\/LL=d.ex)->∀bX∈LL,bX.length<=1000)->∀LL,(LL=(put<|bX.filter f).lb\/LL=(put<|bX.filter f).hd\/LL=(put<|bX.filter f).gr\/LL=(put<|bX.filter f).ex)->∀bX∈LL,bX.length<=1000)/\(put<|bX.filter f).nx=d.nx/\(put<|bX.filter f).sp=d.sp/\(put<|bX.filter f).oc=d.oc:=by
 have key:∀(X:List (List Int))(a:List Int),X[p]?=some a->(∀bX∈X,bX.length<=1000)->∀bX∈X.set p (a.filter f),bX.length<=1000:=by
  intro X a hX hl bX hm
  rcases List.mem_or_eq_of_mem_set hm with h|h
  ·exact hl bX h
  ·subst h
   exact Nat.le_trans (List.length_filter_le ..)<|hl a<|List.mem_of_getElem? hX
 unfold SD.ci at h
 split at h
 ·cases h
  exact⟨rfl,λe=>⟨e.lb,e.hd,e.gr,e.ex⟩,List.length_filter_le ..,λhl=>hl,rfl,rfl,rfl⟩
 ·split at h
  ·obtain⟨a,ha,e⟩:=Option.map_eq_some_iff.1 h
   cases e
   refine⟨rfl,λe=>⟨by show(d.lb.set p _).length=_;rw[List.length_set];exact e.lb,e.hd,e.gr,e.ex⟩,Nat.le_refl _,λhl LL hL=>?_,rfl,rfl,rfl⟩
   rcases hL with rfl|h
   ·exact key _ _ ha<|hl _<|.inl rfl
   ·exact hl LL<|.inr h
  ·split at h
   ·obtain⟨a,ha,e⟩:=Option.map_eq_some_iff.1 h
    cases e
    refine⟨rfl,λe=>⟨e.lb,by show(d.hd.set p _).length=_;rw[List.length_set];exact e.hd,e.gr,e.ex⟩,Nat.le_refl _,λhl LL hL=>?_,rfl,rfl,rfl⟩
    rcases hL with h|rfl|h
    ·exact hl LL<|.inl h
    ·exact key _ _ ha<|hl _<|.inr<|.inl rfl
    ·exact hl LL<|.inr<|.inr h
   ·split at h
    ·obtain⟨a,ha,e⟩:=Option.map_eq_some_iff.1 h
     cases e
     refine⟨rfl,λe=>⟨e.lb,e.hd,by show(d.gr.set p _).length=_;rw[List.length_set];exact e.gr,e.ex⟩,Nat.le_refl _,λhl LL hL=>?_,rfl,rfl,rfl⟩
     rcases hL with h|h|rfl|h
     ·exact hl LL<|.inl h
     ·exact hl LL<|.inr<|.inl h
     ·exact key _ _ ha<|hl _<|.inr<|.inr<|.inl rfl
     ·exact hl LL<|.inr<|.inr<|.inr h
    ·split at h
     ·obtain⟨a,ha,e⟩:=Option.map_eq_some_iff.1 h
      cases e
      refine⟨rfl,λe=>⟨e.lb,e.hd,e.gr,by show(d.ex.set p _).length=_;rw[List.length_set];exact e.ex⟩,Nat.le_refl _,λhl LL hL=>?_,rfl,rfl,rfl⟩
      rcases hL with h|h|h|rfl
      ·exact hl LL<|.inl h
      ·exact hl LL<|.inr<|.inl h
      ·exact hl LL<|.inr<|.inr<|.inl h
      ·exact key _ _ ha<|hl _<|.inr<|.inr<|.inr rfl
     ·cases h
def Kj:Po:=λ_ _ _=>False
theorem aH.first {bl:Nat}{EL:List (List AV)}{d:SD}{t s:SH}{p:Nat × HO}(h:aH bl EL d (p::t) s):∃s',s.Perm (p::s')/\aH bl EL d t s':=by
 obtain⟨sc,lv,pv,ov,IO,hv,gv,ev,fv,sv,wv,kv,oL,nn,k1,k2,k3,k4⟩:=h
 exact⟨(bl,.r false [sc++([lv]++(d.cells pv ov IO hv gv ev fv sv wv kv++[]))] 51)::(oL++(nn++t)),ak λc w h0 h1 h2 hq=>by simp only[h1,h2,hq _ _ k1];omega,sc,lv,pv,ov,IO,hv,gv,ev,fv,sv,wv,kv,oL,nn,.refl _,k2,k3,k4⟩
theorem yi {k:IntKind}{a b:Nat}(hb:0<b):binV .rem (.int k (.ofNat a)) (.int k (.ofNat b))=some (.int k (.ofNat (a%b))):=by
 cases b with
 | zero=>exact absurd hb<|Nat.lt_irrefl _
 | succ b=>
  cases k<;>simp only[binV,keq,aL]<;>rfl
@[reducible] def pn (b n sz:Nat):AV:=.slice (some ⟨b,0,0⟩) n n true sz
theorem aH.tT {bl:Nat}{EL:List (List AV)}{d:SD}{t t' s:SH}(h:aH bl EL d t s)(hp:t.Perm t'):aH bl EL d t' s:=by
 obtain⟨sc,lv,pv,ov,IO,hv,gv,ev,fv,sv,wv,kv,oL,nn,k1,k2,k3,k4⟩:=h
 exact⟨sc,lv,pv,ov,IO,hv,gv,ev,fv,sv,wv,kv,oL,nn,ak λc w h0 h1 h2 hq=>by simp only[h1,h2,hq _ _ k1,hq _ _ hp],k2,k3,k4⟩
theorem aH.pick {bl:Nat}{EL:List (List AV)}{d:SD}{t s m o j:SH}{p:Nat × HO}(h:aH bl EL d (m++(p::t)) s)(hm:m.Perm (o++j)):aH bl EL d (p::(o++t)) s:=
 aH.fb (x:=j) (h.tT (ak λc w h0 h1 h2 hq=>by simp only[h1,h2,hq _ _ hm];omega))
def spine:Nat->Code->List Code × Code
 | 0,c=>([],c)
 | n+1,.seq a b=>((a::(spine n b).1),(spine n b).2)
 | _+1,c=>([],c)
theorem ug:∀(n:Nat)(c:Code),(spine n c).1.foldr .seq (spine n c).2=c:=by
 intro n
 induction n with
 | zero=>intro c;rfl
 | succ n ih=>
  intro c
  cases c with
  | seq a b=>show Code.seq a ((spine n b).1.foldr .seq (spine n b).2)=_;rw[ih b]
  | _=>rfl
noncomputable def RE (P:Program)(nt:Nat)(ih:bT)(cs:List Code)(k:Kt):Kt:=List.rec (motive:=λ_=>Kt) k (λc _ r e h=>(fk P nt 1000 c).run ih (λ_ _ _=>false) (λ_ _=>false) e h r) cs
end
section
variable [Sg]{P:Program}{K:Orc}{rd:Option Nat}{nt:Nat}{ih:bT}
theorem ye (hC:eL P K ih):∀(cs:List Code){k:Kt}{e:Env}{E:Tr AV}{h:FH}{H:Heap}{ds:List cD},ij nt e E->cj h H->xe h.fr ds rd->RE P nt ih cs k e h=true ->
  ∃E' H' ds' e' h',ij nt e' E'/\cj h' H'/\xe h'.fr ds' rd/\k e' h'=true/\∀(rest:Code)R,bt P K rd nt rest E' ds' H' R->bt P K rd nt (cs.foldr .seq rest) E ds H R:=by
 intro cs
 induction cs with
 | nil=>intro k e E h H ds hE hH hF hk;exact⟨E,H,ds,e,h,hE,hH,hF,hk,λ_ _ hr=>hr⟩
 | cons c cs ihs=>
  intro k e E h H ds hE hH hF hk
  obtain⟨m,x,E1,ds1,H1,e1,h1,k1,k2,k3,k4,k5⟩:=codeF_ok hC 1000 hE hH hF hk
  cases x with
  | normal=>
   obtain⟨E',H',ds',e',h',q1,q2,q3,q4,q5⟩:=ihs k2 k3 k4 k5
   exact⟨E',H',ds',e',h',q1,q2,q3,q4,λrest R hr=>bt.seq ⟨m,k1⟩<|q5 rest R hr⟩
  | ret=>cases k5
  | exit i=>cases k5
noncomputable def isA (v:V)(a:AV):Bool:=match av v with | some b=>dz b a | none=>false
theorem vD {v:V}{a b:AV}(h:VA v a)(hb:isA v b=true):a=b:=by
 unfold isA at hb
 split at hb
 ·rename_i c hc
  rw[eM h hc];exact oM hb
 ·cases hb
noncomputable def Fw (R:Ev.R V):Nat->List AV->Bool
 | _,[]=>true
 | j,a::l=>isA (atR j R) a&&Fw R (j+1) l
noncomputable def wx (rs:Ev.R (Ev.R V))(sz:Nat):Nat->List (List AV)->Bool
 | _,[]=>true
 | r,l::L=>Nat.beq l.length sz&&(Fw (atR r rs) 0 l&&wx rs sz (r+1) L)
noncomputable def Ks (h:FH)(b sz:Nat)(L:List (List AV)):Bool:=Nat.blt b 262144&&(Nat.blt b h.next&&(Nat.beq (hget b h).t 1&&(Nat.beq (hget b h).n L.length&&(Nat.beq (hget b h).sz sz&&wx (hget b h).rs sz 0 L))))
theorem Fy {R:Ev.R V}{row:List AV}(hr:∀i a,row[i]?=some a->VA (atR i R) a):∀(l:List AV)(j:Nat),Fw R j l=true->row.length=j+l.length->row.drop j=l:=by
 intro l
 induction l with
 | nil=>simp_all
 | cons a l ih=>
  intro j h hl
  obtain⟨h1,h2⟩:=(Bool.and_eq_true _ _).mp h
  rw[List.length_cons]at hl
  have hj:j<row.length:=by omega
  rw[List.drop_eq_getElem_cons hj,ih (j+1) h2<|by omega,vD (hr j _<|List.getElem?_eq_getElem hj) h1]
theorem AA {rs:Ev.R (Ev.R V)}{sz:Nat}{T:Tr (List AV)}:∀(L:List (List AV))(r:Nat),wx rs sz r L=true->(∀i,r<=i->i<r+L.length->∃row,T.get i=some row/\fQ sz (atR i rs) row) ->
  ∀(i:Nat)row,L[i]?=some row->T.get (r+i)=some row/\row.length=sz:=by
 intro L
 induction L with
 | nil=>grind
 | cons l L ih=>
  intro r h hT i row hi
  obtain⟨h1,h2⟩:=(Bool.and_eq_true _ _).mp h
  obtain⟨h2,h3⟩:=(Bool.and_eq_true _ _).mp h2
  rw[List.length_cons]at hT
  cases i with
  | zero=>
   obtain⟨row,e1,e2⟩:=hT r (Nat.le_refl _)<|by omega
   have h1:l.length=sz:=Nat.eq_of_beq_eq_true h1
   have:=Fy e2.cell l 0 h2 (by rw[e2.len,h1];omega)
   grind
  | succ i=>
   grind
theorem BB {h:FH}{H:Heap}(hH:cj h H){b sz:Nat}{L:List (List AV)}(hc:Ks h b sz L=true):b<H.next/\(HO.r false L sz).ok (H.get b):=by
 obtain⟨h1,hc⟩:=(Bool.and_eq_true _ _).mp hc
 obtain⟨h2,hc⟩:=(Bool.and_eq_true _ _).mp hc
 obtain⟨h3,hc⟩:=(Bool.and_eq_true _ _).mp hc
 obtain⟨h4,hc⟩:=(Bool.and_eq_true _ _).mp hc
 obtain⟨h5,hc⟩:=(Bool.and_eq_true _ _).mp hc
 have h1:b<262144:=bh.1 h1
 have h2:b<h.next:=bh.1 h2
 have h3:(hget b h).t=1:=Nat.eq_of_beq_eq_true h3
 have h4:(hget b h).n=L.length:=Nat.eq_of_beq_eq_true h4
 have h5:(hget b h).sz=sz:=Nat.eq_of_beq_eq_true h5
 refine⟨by rw[<- hH.next];exact h2,?_⟩
 obtain⟨T,e1,e2,e3,e4⟩:=(hH.block b h1).rows h3
 rw[h4,h5]at e1
 refine⟨T,e1,λi row hi=>?_⟩
 have:=AA L 0 hc (λi _ hi=>by
  have:=e4 i<|by omega
  rwa [h5]at this) i row hi
 grind
noncomputable def Du (h:FH):List (Nat × Nat × List (List AV))->Bool
 | []=>true
 | (b,sz,L)::r=>Ks h b sz L&&Du h r
def Dw (l:List (Nat × Nat × List (List AV))):SH:=l.map λp=>(p.1,.r false p.2.2 p.2.1)
theorem Dv {h:FH}{H:Heap}(hH:cj h H):∀{l:List (Nat × Nat × List (List AV))},Du h l=true->∀b o,(b,o)∈Dw l->b<H.next/\o.ok (H.get b):=by
 intro l
 induction l with
 | nil=>intro _ b o hb;cases hb
 | cons p l ih=>
  intro hc b o hb
  obtain⟨b1,sz,L⟩:=p
  obtain⟨h1,h2⟩:=(Bool.and_eq_true _ _).mp hc
  cases hb with
  | head=>exact BB hH h1
  | tail _ hb=>exact ih h2 b o hb
noncomputable def wI (e:Env):List (Nat × AV)->Bool
 | []=>true
 | (t,a)::r=>isA (atR t e) a&&wI e r
theorem AH {e:Env}{E:Tr AV}(hE:ij nt e E):∀{l:List (Nat × AV)},wI e l=true->(∀p∈l,p.1<nt)->∀t a,(t,a)∈l->E.get t=some a:=by
 intro l
 induction l with
 | nil=>grind
 | cons p l ih=>
  intro hc hn t a hb
  obtain⟨h1,h2⟩:=(Bool.and_eq_true _ _).mp hc
  cases hb with
  | head=>
   obtain⟨x,e1,e2⟩:=hE.slot t<|hn _<|List.mem_cons_self ..
   rw[e1,vD e2 h1]
  | tail _ hb=>exact ih h2 (λp hp=>hn p<|List.mem_cons_of_mem _ hp) t a hb
end
section
variable [Sg]{P:Program}{K:Orc}
theorem sU {nt:Nat}{args:List V}{xs0:List AV}(ha:VAs args xs0)(g1:nt<=4180)(q':xs0.length<=nt):∃e0,argsEnv nt xs0=some e0/\ij nt (Ba args 0 cT) e0:=by
 obtain⟨s0,hs0⟩:=i9 (f:=λ(s:Tr AV × Nat)(v:AV)=>some (s.1.put s.2 v,Nat.succ s.2)) (λb a=>⟨_,rfl⟩) xs0 (my nt,0)
 have iL:argsEnv nt xs0=some s0.1:=by unfold argsEnv;rw[hs0]
 refine⟨s0.1,iL,g1,λt ht=>?_⟩
 rw[argsEnv_get iL]
 cases Ue:xs0[t]? with
 | some a=>
  refine⟨a,rfl,?_⟩
  have:=ha.row (o:=0) (r:=cT) (by omega) t a Ue
  rwa [Nat.zero_add]at this
 | none=>
  refine⟨.undef,by simp only[if_pos ht],?_⟩
  have hge:xs0.length<=t:=List.getElem?_eq_none_iff.1 Ue
  rw[nC _ _ _ _ (by rw[ha.length];omega) (by omega),dif_neg (by rw[ha.length];omega)]
  show VA (atR t<|rpR vU) .undef
  rw[at_rpR]
  exact VA.undef
end
@[reducible] noncomputable def hp0:Heap:=⟨.lf,0⟩
theorem np (b:Nat):hp0.get b=none:=by simp[Heap.get,Tr.get]
theorem KCon.anywhere {P:Program}{f:FuncId}{args:List AV}{v:AV}(h:KCon P f args hp0 v hp0)(ha:∀ρ,AV.rens ρ args=args)(hv:∀ρ,v.ren ρ=v)(Hb:Heap):KCon P f args Hb v Hb:=by
 refine⟨λ{X w0 g w xs} hH hx=>?_⟩
 have top:∀b,Hb.next<=b->Hb.get b=none:=λb hb=>hH.lC hb
 have hf:=h.frame (ρ:=λb=>Hb.next+b) (Hb:=Hb) (Gh:=Hb) ⟨λb hb=>absurd hb<|Nat.not_lt_zero _,λb hb=>absurd hb<|Nat.not_lt_zero _,λb _=>by grind,λb c e=>by grind⟩
  (λb _=>np b) ⟨λb=>by rw[np];grind,λ_ _=>rfl,by grind,Nat.le_refl _⟩
 rw[ha,hv]at hf
 exact hf.call hH hx
theorem fast_kcon [Sg]{P:Program}(hm:P.follows .mixedOrders=true){n:Nat}{f:FuncId}{args:List V}{xs0:List AV}{a:AV}(ha:VAs args xs0)(hb:AV.Bel 0 a)(h:((callF P noneKnown n).call f args fh0 λv _=>isA v a)=true):KCon P f xs0 hp0 a hp0:=by
 obtain⟨O,hO,hF⟩:=lB P
 obtain⟨m,b,v,h',H',h1,h2,_,_,h5⟩:=(kX P (hF _) n).call ha Cd h
 have:=vD h2 h5
 subst this
 exact(KCon.KV hm hO h1).eC ⟨rfl,Nat.zero_le _,λb o hb=>by rw[np]at hb;cases hb⟩ (Nat.le_refl _) hb
set_option maxRecDepth 4000
def km (F:Nat->FuncId)(bw:Nat)(m:SH)(v:AV)(p o f:Bool)(fn:Nat):Prop:=∃bx,v=.agg [.bool p,.bool o,.bool f,.func (F fn) [] [.ptr (some ⟨bx,0,0⟩)]]/\Has bx (.r false [[.ptr (some ⟨bw,0,0⟩)]] 1) m
def iP (F:Nat->FuncId)(bw:Nat)(m:SH)(v:AV)(p o f:Bool)(fn g:Nat):Prop:=∃bd bx,v=.agg [.bool p,.bool o,.bool f,.func (F fn) [] [.ptr (some ⟨bd,0,0⟩),.ptr (some ⟨bx,0,0⟩)]]/\Has bd (.r false [[.func (F g) [] []]] 1) m/\Has bx (.r false [[.ptr (some ⟨bw,0,0⟩)]] 1) m
def uH (F:Nat->FuncId)(bw:Nat)(v:AV)(p o f:Bool)(fn:Nat):Prop:=v=.agg [.bool p,.bool o,.bool f,.func (F fn) [.ptr (some ⟨bw,0,0⟩)] []]
def RV (F:Nat->FuncId)(bw:Nat)(m:SH)(k:Nat)(v:AV):Prop:=match k with
 | 1=>km F bw m v true false false 265
 | 2=>uH F bw v false true false 260
 | 3=>iP F bw m v false true true 248 250
 | 4=>iP F bw m v false true true 248 251
 | 5=>iP F bw m v false true true 248 253
 | 6=>iP F bw m v false true true 248 255
 | 7=>iP F bw m v true false false 264 266
 | 8=>iP F bw m v true false false 264 267
 | 9=>iP F bw m v true false false 264 268
 | 10=>uH F bw v false true true 259
 | 11=>iP F bw m v false true true 248 256
 | 12=>iP F bw m v false true true 248 257
 | 13=>iP F bw m v false true true 248 258
 | 14=>iP F bw m v false true true 248 252
 | 15=>km F bw m v false false false 274
 | 16=>km F bw m v false false false 277
 | 17=>km F bw m v false false false 276
 | 18=>km F bw m v false false false 279
 | 19=>km F bw m v false false false 280
 | 20=>uH F bw v true false false 271
 | 21=>km F bw m v true false false 272
 | 22=>km F bw m v false false false 281
 | 23=>iP F bw m v true false false 264 269
 | 24=>iP F bw m v true false false 264 270
 | 25=>km F bw m v false true false 261
 | 26=>uH F bw v true false false 273
 | 27=>km F bw m v false false false 282
 | 28=>uH F bw v false false false 283
 | 29=>km F bw m v false false false 284
 | _=>False
theorem km.mono {F:Nat->FuncId}{bw:Nat}{m m':SH}{v:AV}{p o f:Bool}{fn:Nat}(h:km F bw m v p o f fn)(hm:∀b o,Has b o m->Has b o m'):km F bw m' v p o f fn:=by
 obtain⟨bx,h1,h2⟩:=h
 exact⟨bx,h1,hm _ _ h2⟩
theorem iP.mono {F:Nat->FuncId}{bw:Nat}{m m':SH}{v:AV}{p o f:Bool}{fn g:Nat}(h:iP F bw m v p o f fn g)(hm:∀b o,Has b o m->Has b o m'):iP F bw m' v p o f fn g:=by
 obtain⟨bd,bx,h1,h2,h3⟩:=h
 exact⟨bd,bx,h1,hm _ _ h2,hm _ _ h3⟩
theorem RV.mono {F:Nat->FuncId}{bw:Nat}{m m':SH}{k:Nat}{v:AV}(h:RV F bw m k v)(hm:∀b o,Has b o m->Has b o m'):RV F bw m' k v:=by
 unfold RV at h |-
 split at h<;>first | exact h | exact km.mono h hm | exact iP.mono h hm
theorem RV.agg {F:Nat->FuncId}{bw:Nat}{m:SH}{k:Nat}{v:AV}(h:RV F bw m k v):∃p o f fn,v=.agg [.bool p,.bool o,.bool f,fn]/\partCells 1 fn=some [fn]:=by
 unfold RV at h
 split at h<;>first | exact h.elim | (obtain⟨_,h,_⟩:=h;exact⟨_,_,_,_,h,rfl⟩) | (obtain⟨_,_,h,_⟩:=h;exact⟨_,_,_,_,h,rfl⟩) | exact⟨_,_,_,_,h,rfl⟩
structure Ld (F:Nat->FuncId)(bw:Nat)(m:SH)(es:List (AV × AV))(ks ns:List Nat):Prop where
 yes:∀k∈ks,∃v,lookIn .pi (iv<|.ofNat k) es=some (some v)/\RV F bw m k v
 no:∀k∈ns,lookIn .pi (iv<|.ofNat k) es=some none
section
variable {P:Program}{K:Orc}{rd:Option Nat}{nt:Nat}{l:Sl}{ds:List cD}{s:SH}{Q Qn Qr:Po}{Qe:Nat->Po}{F:Nat->FuncId}{T:Nat->TypeId}
theorem cU (hB:Base P K F T){f x:AV}(hf:partCells 1 f=some [f]):bB P K (F 247) [f,x] s (λv s'=>∃bd m,v=.agg [.bool false,.bool true,.bool true,.func (F 248) [] [.ptr (some ⟨bd,0,0⟩),x]]/\s'=m++s/\Has bd (.r false [[f]] 1) m):=by
 refine hB.f247.cF ?_
 refine Vr (k:=Wa (.box rfl hf) λb2=>Vr (k:=λb3=>Vr (k:=We<|Wm (.ce hB.t290) ?_)))
 exact⟨b2,[_,_],rfl,rfl,.there .here⟩
theorem oA (hB:Base P K F T){f x:AV}(hf:partCells 1 f=some [f]):bB P K (F 263) [f,x] s (λv s'=>∃bd m,v=.agg [.bool true,.bool false,.bool false,.func (F 264) [] [.ptr (some ⟨bd,0,0⟩),x]]/\s'=m++s/\Has bd (.r false [[f]] 1) m):=by
 refine hB.f263.cF ?_
 refine Vr (k:=Wa (.box rfl hf) λb2=>Vr (k:=λb3=>Vr (k:=We<|Wm (.ce hB.t290) ?_)))
 exact⟨b2,[_,_],rfl,rfl,.there .here⟩
theorem wU (hB:Base P K F T){bw:Nat}:bB P K (F 224) [.ptr (some ⟨bw,0,0⟩)] s (λv s'=>∃b es m,v=.map (some b)/\s'=m++s/\Has b (.m es) m/\Ld F bw m es [3,4,14,5,6,11,12,13,10,2,25] [1,7,8,9,23,24,20,21,26,15,17,16,18,19,22,27,28,29]):=by
 refine hB.f224.cF ?_
 refine Vr (k:=λb1=>Vr (k:=WP.fd λb5=>?_))
 refine(WD.dm<|Dp (.mv rfl)<|Dc (.no (show bit 2 0=false from rfl) .nil)<|Wc rfl rfl (cU hB rfl) ?_)
 rintro w1 _ ⟨f1,m1,rfl,rfl,h1⟩
 refine(WD.gV rfl rfl rfl rfl rfl rfl<|Dp (.mv rfl)<|Dc (.no (show bit 22 0=false from rfl) .nil)<|Wc rfl rfl (cU hB rfl) ?_)
 rintro w2 _ ⟨f2,m2,rfl,rfl,h2⟩
 refine(WD.gV rfl rfl rfl rfl rfl rfl<|Dp (.mv rfl)<|Dc (.no (show bit 182 0=false from rfl) .nil)<|Wc rfl rfl (cU hB rfl) ?_)
 rintro w3 _ ⟨f3,m3,rfl,rfl,h3⟩
 refine(WD.gV rfl rfl rfl rfl rfl rfl<|Dp (.mv rfl)<|Dc (.no (show bit 1462 0=false from rfl) .nil)<|Wc rfl rfl (cU hB rfl) ?_)
 rintro w4 _ ⟨f4,m4,rfl,rfl,h4⟩
 refine(WD.gV rfl rfl rfl rfl rfl rfl<|Dp (.mv rfl)<|Dc (.no (show bit 11702 0=false from rfl) .nil)<|Wc rfl rfl (cU hB rfl) ?_)
 rintro w5 _ ⟨f5,m5,rfl,rfl,h5⟩
 refine(WD.gV rfl rfl rfl rfl rfl rfl<|Dp (.mv rfl)<|Dc (.no (show bit 93622 0=false from rfl) .nil)<|Wc rfl rfl (cU hB rfl) ?_)
 rintro w6 _ ⟨f6,m6,rfl,rfl,h6⟩
 refine(WD.gV rfl rfl rfl rfl rfl rfl<|Dp (.mv rfl)<|Dc (.no (show bit 748982 0=false from rfl) .nil)<|Wc rfl rfl (cU hB rfl) ?_)
 rintro w7 _ ⟨f7,m7,rfl,rfl,h7⟩
 refine(WD.gV rfl rfl rfl rfl rfl rfl<|Dp (.mv rfl)<|Dc (.no (show bit 5991862 0=false from rfl) .nil)<|Wc rfl rfl (cU hB rfl) ?_)
 rintro w8 _ ⟨f8,m8,rfl,rfl,h8⟩
 refine(WD.gV rfl rfl rfl rfl rfl rfl<|WD.lk rfl (.no (show bit 0 0=false from rfl) .nil) .ld<|Dp (.mkfn rfl rfl)<|Dp (.build rfl rfl)<|WD.gV rfl rfl rfl rfl rfl rfl<|WD.lk rfl (.no (show bit 0 0=false from rfl) .nil) .ld<|Dp (.mkfn rfl rfl)<|Dp (.build rfl rfl)<|WD.gV rfl rfl rfl rfl rfl rfl<|Dp (.mkfn rfl rfl)<|Dp (.build rfl rfl)<|WD.gV rfl rfl rfl rfl rfl rfl<|Dp (.mv rfl)<|Dp (.mv rfl)<|D0 (.cons uP .nil) ?_ ?_)
 rotate_left
 ·intro o ho
  rcases List.mem_cons.1 ho with rfl|ho
  ·refine⟨(λi hi=>by simp only[List.mem_singleton]at hi;subst hi;rfl),Nat.zero_le _,ji _ _ _,λk _ hk=>?_⟩
   rcases(by have:k<=8:=hk;omega:k=0\/k=1\/k=2\/k=3\/k=4\/k=5\/k=6\/k=7\/k=8)with rfl|rfl|rfl|rfl|rfl|rfl|rfl|rfl|rfl
   ·exact⟨_,rfl,.load rfl zP rfl rfl rfl⟩
   ·exact⟨_,rfl,.load rfl zP rfl rfl rfl⟩
   ·exact⟨_,rfl,.load rfl zP rfl rfl rfl⟩
   ·exact⟨_,rfl,.load rfl zP rfl rfl rfl⟩
   ·exact⟨_,rfl,.load rfl zP rfl rfl rfl⟩
   ·exact⟨_,rfl,.load rfl zP rfl rfl rfl⟩
   ·exact⟨_,rfl,.load rfl zP rfl rfl rfl⟩
   ·exact⟨_,rfl,.load rfl zP rfl rfl rfl⟩
   ·exact⟨_,rfl,.load rfl zP rfl rfl rfl⟩
  ·rw[List.mem_singleton.1 ho]
   refine⟨(λi hi=>by simp only[List.mem_singleton]at hi;subst hi;rfl),Nat.zero_le _,ji _ _ _,λk _ hk=>?_⟩
   rcases(by have:k<=8:=hk;omega:k=0\/k=1\/k=2\/k=3\/k=4\/k=5\/k=6\/k=7\/k=8)with rfl|rfl|rfl|rfl|rfl|rfl|rfl|rfl|rfl
   ·exact⟨_,rfl,.load rfl zP rfl rfl rfl⟩
   ·exact⟨_,rfl,.load rfl zP rfl rfl rfl⟩
   ·exact⟨_,rfl,.load rfl zP rfl rfl rfl⟩
   ·exact⟨_,rfl,.load rfl zP rfl rfl rfl⟩
   ·exact⟨_,rfl,.load rfl zP rfl rfl rfl⟩
   ·exact⟨_,rfl,.load rfl zP rfl rfl rfl⟩
   ·exact⟨_,rfl,.load rfl zP rfl rfl rfl⟩
   ·exact⟨_,rfl,.load rfl zP rfl rfl rfl⟩
   ·exact⟨_,rfl,.load rfl zP rfl rfl rfl⟩
 refine We<|Wm (.tmp rfl .nil) ?_
 have hx:∀y,Has b1 (.r false [[.ptr (some ⟨bw,0,0⟩)]] 1) (m8++(m7++(m6++(m5++(m4++(m3++(m2++(m1++([y,(b1,.r false [[.ptr (some ⟨bw,0,0⟩)]] 1)]))))))))):=λy=>zP
 refine⟨b5,_,_,rfl,(pull<|pull<|pull<|pull<|pull<|pull<|pull<|pull eW),zP,λk hk=>?_,λk hk=>?_⟩
 ·simp only[List.mem_cons,List.not_mem_nil,or_false]at hk
  rcases hk with rfl|rfl|rfl|rfl|rfl|rfl|rfl|rfl|rfl|rfl|rfl
  ·exact⟨_,rfl,f1,b1,rfl,zP,hx _⟩
  ·exact⟨_,rfl,f2,b1,rfl,zP,hx _⟩
  ·exact⟨_,rfl,f3,b1,rfl,zP,hx _⟩
  ·exact⟨_,rfl,f4,b1,rfl,zP,hx _⟩
  ·exact⟨_,rfl,f5,b1,rfl,zP,hx _⟩
  ·exact⟨_,rfl,f6,b1,rfl,zP,hx _⟩
  ·exact⟨_,rfl,f7,b1,rfl,zP,hx _⟩
  ·exact⟨_,rfl,f8,b1,rfl,zP,hx _⟩
  ·exact⟨_,rfl,rfl⟩
  ·exact⟨_,rfl,rfl⟩
  ·exact⟨_,rfl,b1,rfl,hx _⟩
 ·simp only[List.mem_cons,List.not_mem_nil,or_false]at hk
  rcases hk with rfl|rfl|rfl|rfl|rfl|rfl|rfl|rfl|rfl|rfl|rfl|rfl|rfl|rfl|rfl|rfl|rfl|rfl<;>rfl
theorem ws (hB:Base P K F T){bw:Nat}:bB P K (F 225) [.ptr (some ⟨bw,0,0⟩)] s (λv s'=>∃b es m,v=.map (some b)/\s'=m++s/\Has b (.m es) m/\Ld F bw m es [1,7,8,9,23,24,20,21,26] [3,4,14,5,6,11,12,13,10,2,25,15,17,16,18,19,22,27,28,29]):=by
 refine hB.f225.cF ?_
 refine Vr (k:=λb1=>Vr (k:=WP.fd λb5=>?_))
 refine(WD.dm<|Dp (.mkfn rfl rfl)<|Dp (.build rfl rfl)<|WD.gV rfl rfl rfl rfl rfl rfl<|Dp (.mv rfl)<|Dc (.no (show bit 16 0=false from rfl) .nil)<|Wc rfl rfl (oA hB rfl) ?_)
 rintro w1 _ ⟨f1,m1,rfl,rfl,h1⟩
 refine(WD.gV rfl rfl rfl rfl rfl rfl<|Dp (.mv rfl)<|Dc (.no (show bit 176 0=false from rfl) .nil)<|Wc rfl rfl (oA hB rfl) ?_)
 rintro w2 _ ⟨f2,m2,rfl,rfl,h2⟩
 refine(WD.gV rfl rfl rfl rfl rfl rfl<|Dp (.mv rfl)<|Dc (.no (show bit 1456 0=false from rfl) .nil)<|Wc rfl rfl (oA hB rfl) ?_)
 rintro w3 _ ⟨f3,m3,rfl,rfl,h3⟩
 refine(WD.gV rfl rfl rfl rfl rfl rfl<|Dp (.mv rfl)<|Dc (.no (show bit 11696 0=false from rfl) .nil)<|Wc rfl rfl (oA hB rfl) ?_)
 rintro w4 _ ⟨f4,m4,rfl,rfl,h4⟩
 refine(WD.gV rfl rfl rfl rfl rfl rfl<|Dp (.mv rfl)<|Dc (.no (show bit 93616 0=false from rfl) .nil)<|Wc rfl rfl (oA hB rfl) ?_)
 rintro w5 _ ⟨f5,m5,rfl,rfl,h5⟩
 refine(WD.gV rfl rfl rfl rfl rfl rfl<|WD.lk rfl (.no (show bit 0 0=false from rfl) .nil) .ld<|Dp (.mkfn rfl rfl)<|Dp (.build rfl rfl)<|WD.gV rfl rfl rfl rfl rfl rfl<|Dp (.mkfn rfl rfl)<|Dp (.build rfl rfl)<|WD.gV rfl rfl rfl rfl rfl rfl<|WD.lk rfl (.no (show bit 0 0=false from rfl) .nil) .ld<|Dp (.mkfn rfl rfl)<|Dp (.build rfl rfl)<|WD.gV rfl rfl rfl rfl rfl rfl<|Dp (.mv rfl)<|Dp (.mv rfl)<|D0 (.cons uP .nil) ?_ ?_)
 rotate_left
 ·intro o ho
  rcases List.mem_cons.1 ho with rfl|ho
  ·refine⟨(λi hi=>by simp only[List.mem_singleton]at hi;subst hi;rfl),Nat.zero_le _,ji _ _ _,λk _ hk=>?_⟩
   rcases(by have:k<=5:=hk;omega:k=0\/k=1\/k=2\/k=3\/k=4\/k=5)with rfl|rfl|rfl|rfl|rfl|rfl
   ·exact⟨_,rfl,.load rfl zP rfl rfl rfl⟩
   ·exact⟨_,rfl,.load rfl zP rfl rfl rfl⟩
   ·exact⟨_,rfl,.load rfl zP rfl rfl rfl⟩
   ·exact⟨_,rfl,.load rfl zP rfl rfl rfl⟩
   ·exact⟨_,rfl,.load rfl zP rfl rfl rfl⟩
   ·exact⟨_,rfl,.load rfl zP rfl rfl rfl⟩
  ·rw[List.mem_singleton.1 ho]
   refine⟨(λi hi=>by simp only[List.mem_singleton]at hi;subst hi;rfl),Nat.zero_le _,ji _ _ _,λk _ hk=>?_⟩
   rcases(by have:k<=5:=hk;omega:k=0\/k=1\/k=2\/k=3\/k=4\/k=5)with rfl|rfl|rfl|rfl|rfl|rfl
   ·exact⟨_,rfl,.load rfl zP rfl rfl rfl⟩
   ·exact⟨_,rfl,.load rfl zP rfl rfl rfl⟩
   ·exact⟨_,rfl,.load rfl zP rfl rfl rfl⟩
   ·exact⟨_,rfl,.load rfl zP rfl rfl rfl⟩
   ·exact⟨_,rfl,.load rfl zP rfl rfl rfl⟩
   ·exact⟨_,rfl,.load rfl zP rfl rfl rfl⟩
 refine We<|Wm (.tmp rfl .nil) ?_
 have hx:∀y,Has b1 (.r false [[.ptr (some ⟨bw,0,0⟩)]] 1) (m5++(m4++(m3++(m2++(m1++([y,(b1,.r false [[.ptr (some ⟨bw,0,0⟩)]] 1)])))))):=λy=>zP
 refine⟨b5,_,_,rfl,(pull<|pull<|pull<|pull<|pull eW),zP,λk hk=>?_,λk hk=>?_⟩
 ·simp only[List.mem_cons,List.not_mem_nil,or_false]at hk
  rcases hk with rfl|rfl|rfl|rfl|rfl|rfl|rfl|rfl|rfl
  ·exact⟨_,rfl,b1,rfl,hx _⟩
  ·exact⟨_,rfl,f1,b1,rfl,zP,hx _⟩
  ·exact⟨_,rfl,f2,b1,rfl,zP,hx _⟩
  ·exact⟨_,rfl,f3,b1,rfl,zP,hx _⟩
  ·exact⟨_,rfl,f4,b1,rfl,zP,hx _⟩
  ·exact⟨_,rfl,f5,b1,rfl,zP,hx _⟩
  ·exact⟨_,rfl,rfl⟩
  ·exact⟨_,rfl,b1,rfl,hx _⟩
  ·exact⟨_,rfl,rfl⟩
 ·simp only[List.mem_cons,List.not_mem_nil,or_false]at hk
  rcases hk with rfl|rfl|rfl|rfl|rfl|rfl|rfl|rfl|rfl|rfl|rfl|rfl|rfl|rfl|rfl|rfl|rfl|rfl|rfl|rfl<;>rfl
theorem wo (hB:Base P K F T){bw:Nat}:bB P K (F 226) [.ptr (some ⟨bw,0,0⟩)] s (λv s'=>∃b es m,v=.map (some b)/\s'=m++s/\Has b (.m es) m/\Ld F bw m es [15,17,16,18,19,22,27,28,29] [3,4,14,5,6,11,12,13,10,2,25,1,7,8,9,23,24,20,21,26]):=by
 refine hB.f226.cF ?_
 refine Vr (k:=λb1=>Vr (k:=Wa .mkmap λb5=>Vr (k:=Ww<|WS.ins rfl rfl rfl .here rfl<|Vr (k:=Ww<|WS.ins rfl rfl rfl .here rfl<|Vr (k:=Ww<|WS.ins rfl rfl rfl .here rfl<|Vr (k:=Ww<|WS.ins rfl rfl rfl .here rfl<|Vr (k:=Ww<|WS.ins rfl rfl rfl .here rfl<|Vr (k:=Ww<|WS.ins rfl rfl rfl .here rfl<|Vr (k:=Ww<|WS.ins rfl rfl rfl .here rfl<|Vr (k:=Ww<|WS.ins rfl rfl rfl .here rfl<|Vr (k:=Ww<|WS.ins rfl rfl rfl .here rfl<|Vk (k:=We<|Wm (.tmp rfl .nil) ?_))))))))))))
 have hx:∀y,Has b1 (.r false [[.ptr (some ⟨bw,0,0⟩)]] 1) ([y,(b1,.r false [[.ptr (some ⟨bw,0,0⟩)]] 1)]):=λy=>zP
 refine⟨b5,_,_,rfl,eW,.here,λk hk=>?_,λk hk=>?_⟩
 ·simp only[List.mem_cons,List.not_mem_nil,or_false]at hk
  rcases hk with rfl|rfl|rfl|rfl|rfl|rfl|rfl|rfl|rfl
  ·exact⟨_,rfl,b1,rfl,hx _⟩
  ·exact⟨_,rfl,b1,rfl,hx _⟩
  ·exact⟨_,rfl,b1,rfl,hx _⟩
  ·exact⟨_,rfl,b1,rfl,hx _⟩
  ·exact⟨_,rfl,b1,rfl,hx _⟩
  ·exact⟨_,rfl,b1,rfl,hx _⟩
  ·exact⟨_,rfl,b1,rfl,hx _⟩
  ·exact⟨_,rfl,rfl⟩
  ·exact⟨_,rfl,b1,rfl,hx _⟩
 ·simp only[List.mem_cons,List.not_mem_nil,or_false]at hk
  rcases hk with rfl|rfl|rfl|rfl|rfl|rfl|rfl|rfl|rfl|rfl|rfl|rfl|rfl|rfl|rfl|rfl|rfl|rfl|rfl|rfl<;>rfl
theorem FB (hB:Base P K F T){bw k:Nat}(hk:k∈[3,4,14,5,6,11,12,13,10,2,25]):bB P K (F 202) [.ptr (some ⟨bw,0,0⟩),iv (.ofNat k)] s (λv s'=>∃m,s'=m++s/\RV F bw m k v):=by
 refine hB.f202.cF ?_
 refine Vr (k:=λb4=>Vr (k:=Ww<|W1 (wU hB) ?_))
 rintro w1 _ ⟨c1,es1,m1,rfl,rfl,t1,t2⟩
 refine Vr (k:=Ww<|W1 (ws hB) ?_)
 rintro w2 _ ⟨c2,es2,m2,rfl,rfl,u1,u2⟩
 refine Vr (k:=Ww<|W1 (wo hB) ?_)
 rintro w3 _ ⟨c3,es3,m3,rfl,rfl,x1,x2⟩
 obtain⟨v,look,hv⟩:=t2.yes k hk
 obtain⟨p,o,f,fn,rfl,hfn⟩:=hv.agg
 refine Wa (.bslice (xk rfl rfl rfl rfl rfl rfl) rfl) λb15=>Vr (k:=WP.dA<|Vr (k:=Wr (.look rfl rfl (.there<|.app<|.app<|.left t1) look)<|Vr (k:=λb7=>Vr (k:=?_))))
 have fin:∀(p0 p1 y:Nat × HO),RV F bw (p0::p1::(m3++(m2++(m1++[y])))) k _:=λp0 p1 y=>hv.mono λb o hh=>(.there<|.there<|.app<|.app<|.left hh)
 refine Vr (k:=We<|Wm (.cell rfl hB.t290.1 hB.t290.2 (.inl rfl) (.there<|.there<|.app<|.app<|.app .here) rfl rfl rfl .nil) ?_)
 exact⟨_,(fN<|fN<|pull<|pull<|pull yg),fin _ _ _⟩
theorem acv (hB:Base P K F T){bw k:Nat}(hk:k∈[1,7,8,9,23,24,20,21,26]):bB P K (F 202) [.ptr (some ⟨bw,0,0⟩),iv (.ofNat k)] s (λv s'=>∃m,s'=m++s/\RV F bw m k v):=by
 refine hB.f202.cF ?_
 refine Vr (k:=λb4=>Vr (k:=Ww<|W1 (wU hB) ?_))
 rintro w1 _ ⟨c1,es1,m1,rfl,rfl,t1,t2⟩
 refine Vr (k:=Ww<|W1 (ws hB) ?_)
 rintro w2 _ ⟨c2,es2,m2,rfl,rfl,u1,u2⟩
 refine Vr (k:=Ww<|W1 (wo hB) ?_)
 rintro w3 _ ⟨c3,es3,m3,rfl,rfl,x1,x2⟩
 have n0:=t2.no k (by simp only[List.mem_cons,List.not_mem_nil,or_false]at hk |-;omega)
 obtain⟨v,look,hv⟩:=u2.yes k hk
 obtain⟨p,o,f,fn,rfl,hfn⟩:=hv.agg
 refine Wa (.bslice (xk rfl rfl rfl rfl rfl rfl) rfl) λb15=>Vr (k:=WP.dA<|Vr (k:=Wr (.look rfl rfl (.there<|.app<|.app<|.left t1) n0)<|Vr (k:=λb7=>Vr (k:=WP.dA<|Vr (k:=Wr (.look rfl rfl (.there<|.there<|.app<|.left u1) look)<|Vr (k:=λb7=>Vr (k:=We<|Wm (.cell rfl hB.t290.1 hB.t290.2 (.inl rfl) (.there<|.there<|.there<|.app<|.app<|.app .here) rfl rfl rfl .nil) ?_)))))))
 have fin:∀(p0 p1 p2 y:Nat × HO),RV F bw (p0::p1::p2::(m3++(m2++(m1++[y])))) k _:=λp0 p1 p2 y=>hv.mono λb o hh=>(.there<|.there<|.there<|.app<|.left hh)
 exact⟨_,(fN<|fN<|fN<|pull<|pull<|pull yg),fin _ _ _ _⟩
theorem acu (hB:Base P K F T){bw k:Nat}(hk:k∈[15,17,16,18,19,22,27,28,29]):bB P K (F 202) [.ptr (some ⟨bw,0,0⟩),iv (.ofNat k)] s (λv s'=>∃m,s'=m++s/\RV F bw m k v):=by
 refine hB.f202.cF ?_
 refine Vr (k:=λb4=>Vr (k:=Ww<|W1 (wU hB) ?_))
 rintro w1 _ ⟨c1,es1,m1,rfl,rfl,t1,t2⟩
 refine Vr (k:=Ww<|W1 (ws hB) ?_)
 rintro w2 _ ⟨c2,es2,m2,rfl,rfl,u1,u2⟩
 refine Vr (k:=Ww<|W1 (wo hB) ?_)
 rintro w3 _ ⟨c3,es3,m3,rfl,rfl,x1,x2⟩
 have n0:=t2.no k (by simp only[List.mem_cons,List.not_mem_nil,or_false]at hk |-;omega)
 have n1:=u2.no k (by simp only[List.mem_cons,List.not_mem_nil,or_false]at hk |-;omega)
 obtain⟨v,look,hv⟩:=x2.yes k hk
 obtain⟨p,o,f,fn,rfl,hfn⟩:=hv.agg
 refine Wa (.bslice (xk rfl rfl rfl rfl rfl rfl) rfl) λb15=>Vr (k:=WP.dA<|Vr (k:=Wr (.look rfl rfl (.there<|.app<|.app<|.left t1) n0)<|Vr (k:=λb7=>Vr (k:=WP.dA<|Vr (k:=Wr (.look rfl rfl (.there<|.there<|.app<|.left u1) n1)<|Vr (k:=λb7=>Vr (k:=WP.dA<|Vr (k:=Wr (.look rfl rfl (.there<|.there<|.there<|.left x1) look)<|Vr (k:=λb7=>Vr (k:=We<|Wm (.cell rfl hB.t290.1 hB.t290.2 (.inl rfl) (.there<|.there<|.there<|.there<|.app<|.app<|.app .here) rfl rfl rfl .nil) ?_))))))))))
 have fin:∀(p0 p1 p2 p3 y:Nat × HO),RV F bw (p0::p1::p2::p3::(m3++(m2++(m1++[y])))) k _:=λp0 p1 p2 p3 y=>hv.mono λb o hh=>(.there<|.there<|.there<|.there<|.left hh)
 exact⟨_,(fN<|fN<|fN<|fN<|pull<|pull<|pull yg),fin _ _ _ _ _⟩
open Go.Proofs
set_option maxRecDepth 100000
noncomputable def a63:CF:=NF (cd 150 42) _
noncomputable def ahi:CF:=NF (cd 332 17) _
noncomputable def ahj:CF:=NF (cd 333 25) _
noncomputable def amO:CF:=NF (cd 334 17) _
noncomputable def amP:CF:=NF (cd 335 15) _
noncomputable def amQ:CF:=NF (cd 336 8) _
noncomputable def amR:CF:=NF (cd 337 15) _
noncomputable def amU:CF:=NF (cd 354 8) _
structure BaseI (P:Program)(K:Orc)(F:Nat->FuncId)(T:Nat->TypeId):Prop where
 f274:FnK P K (F 274) 17 [] (ahi F T)
 f275:FnK P K (F 275) 25 [(.cell 4<|T 48)] (ahj F T)
noncomputable def a20:CF:=NF (cd 33 6) _
noncomputable def ZO:CF:=NF (cd 38 6) _
noncomputable def a58:CF:=NF (cd 30 25) _
noncomputable def ahm:CF:=NF (cd 403 10) _
noncomputable def Ti:CF:=NF (cd 404 7) _
structure BaseB (P:Program)(K:Orc)(F:Nat->FuncId)(T:Nat->TypeId):Prop where
 f58:FnK P K (F 58) 25 [(.cell 2<|T 128)] (a58 F T)
 f345:FnK P K (F 345) 10 [(.cell 2<|T 24)] (ahm F T)

end
end Go.Ev
