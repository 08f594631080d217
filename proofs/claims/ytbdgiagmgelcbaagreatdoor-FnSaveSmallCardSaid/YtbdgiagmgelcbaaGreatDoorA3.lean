/- Part 3. No condition. -/
import Derived.Test.YtbdgiagmgelcbaaGreatDoorA2
import Derived.Laws.Externs
import Derived.Conc.Beside
import Derived.Conc.CrowdRun
import Derived.Conc.WgGenN2
import Derived.Conc.WgGenN3
import Derived.Conc.LeavingOf
import Derived.Below
import Derived.ProofKit
import Derived.OpenShut
import Derived.OpenVars
import Derived.LaidMore
import Derived.Lay
import Derived.SevenTiedAt
import Derived.Lib.Bytealg
set_option linter.all false
set_option maxHeartbeats 8000000
open Go.Proofs
open Go.Proofs.Tryz
open Go.Conc (G)
open List renaming length → c, range → aI, replicate → aW, getD_eq_getElem?_getD → av, all_eq_true → aX
open Go renaming Value → I, TypeId → ab, Event → ay, undef → E, World → af, Operand → Z, execOp → W, Program → aw, Oper → ah, Goroutine → ae, stepG → ap, Frame → az, FuncId → ar
open Option renaming some → b, none → k
open Bool renaming true → i, false → m
open Nat renaming beq → aa, ble → aD
open Go.World renaming cell? → aJ
open Go.Sem renaming events_pure → aT, events_bind → aE
open Go.Region renaming wanted → aS
open Go.Op renaming bytesLess → aK, equalIn → aM
open Go.Result renaming evThen_ok → aH
open Go.Instr renaming sureAddr → aU, sliceBounds → aV
open Go.Proofs.Tryz renaming prog → R
open Go.MemAct renaming ofEvent → aN
open Go.Conc renaming stepG_seq → aA, stepG_region_end → aF
namespace Go.AM
variable {p:Nat}{o:Int}{l j f y:Nat}{T:ab}{H:I->(Nat->Option Obj)->Prop}{L:Array Bool}{bi:Mem}{B:Nat}{P:aw}{bg:ae->aj->Prop}{u:Code}{X:ae}{r:ah}{d:aj}{w:ab}{ai:I}{K:af}{α:Type}{η:Z->s}{ι:Type}{h:e Y}{F:bd}{all:e ah}{dK:Array ab}{cap:e D}{dg:e s}{eb:Nat->Option Obj}{aY:e az}{bK:e (Nat×Bool)}{es:Nat->e D}{dC:Z}{gs:Array ae}{bb:e Nat}{cl:e Prop}{off:Nat}{op:BinOp}{aP:Array ah}{aB:e Prop}{bw:e ah}{au:aj}{gz:Bool}{ty:ab}{val:Nat->Nat->I}{z:e I}{a5:af}{O:e I}{aO dq:e Y}{res:ι->s}{a6:ι->e Y}
variable {CT:e (Nat×bB)}{ax:e dz}{a7:dn}{ag:e (Nat×bh)}{bz:bh}
section
variable {q:al P}
def g.cc{fn:Func}{n:Nat}{aO:ι->e Y}(f:ι)(bb:e Nat){aY:e C}{w:Tmp}{j:bh}(o:V aB)(cI:∀y,y<n->bb[y]?=b y)(p:fn.results.toList=[.cell w ty]:=by exact rfl)(bL:bY ag ty=b j:=by exact rfl)(a2:j.agg=i:=by exact rfl)(r:look F w=ba l 0:=by exact rfl)(e4:cH l h=b (.cells T aY):=by exact rfl)(t:aa (c aY) j.size=i:=by exact rfl)(u:eW l bb=m:=by exact rfl)(ac:iU (.k (.agg aY)) (eZ bb (res f))=b aB:=by exact rfl)(N:g6 (c bb) (res f)=i:=by exact rfl)(U:dj bb h=b (aO f):=by exact rfl)(X:kN (aO f)=i:=by exact rfl)(be:eX bb=i:=by exact rfl):
  g q B (λak F a6=>∃y,sE ag fn n (res y) (aO y) ak F a6) (.code .ret::ax) .normal F h:=
 g.ret ⟨f,.inl a,bb,l,T,aY,w,ty,j,aB,k,nofun,p,bL,a2,c1 t,r,dL e4,Gu u,ac,o,N,U,X,be,cI⟩
def g.dD{fn:Func}{o:Nat}{aO:ι->e Y}(f:ι)(bb:e Nat){aY:e C}{w bk:Tmp}{j:bh}{A:E1}(a2:V aB)(cI:∀y,y<o->bb[y]?=b y)(r:fn.results.toList=[.cell w ty,.tmp bk]:=by exact rfl)(bL:bY ag ty=b j:=by exact rfl)(p:j.agg=i:=by exact rfl)(be:look F w=ba l 0:=by exact rfl)(U:look F bk=.k A:=by exact rfl)(e4:cH l h=b (.cells T aY):=by exact rfl)(t:aa (c aY) j.size=i:=by exact rfl)(u:eW l bb=m:=by exact rfl)(ac:iU (.C [.agg aY,A]) (eZ bb (res f))=b aB:=by exact rfl)(N:g6 (c bb) (res f)=i:=by exact rfl)(a1:dj bb h=b (aO f):=by exact rfl)(X:kN (aO f)=i:=by exact rfl)(d:eX bb=i:=by exact rfl):
  g q B (λak F a6=>∃y,sE ag fn o (res y) (aO y) ak F a6) (.code .ret::ax) .normal F h:=
 g.ret ⟨f,.inl a,bb,l,T,aY,w,ty,j,aB,b (bk,A),λ_ n=>by cases n;exact U,r,bL,p,c1 t,be,dL e4,Gu u,ac,a2,N,a1,X,d,cI⟩
def ad.cS(aG:bT P ag){d:ar}{fn:Func}{args:e s}{res:s}(n:P.funcs[d]?=b fn)(l:(fn.name== "runtime.NumGoroutine")=m)(p:fn.body=b u)(j:aD args.length fn.ntmps=i)(r:jA args h->g q fn.ntmps (λo f a=>∃_:Unit,sE ag fn h.length res aO o f a) [.code u] .normal (hh 0 args) h):ad q d args h res aO:=
 (bG.c5 (ι:=Unit) (aO:=λ_=>aO) (res:=λ_=>res) aG n l p j r).toad
end
section
variable {q:al P}
theorem d'.eU{z:ι->s}{a:ι->e Y}(M:r.guard=k)(E:d_ P B r F h z a):d' q B all r F h z a:=by intro T A D d Q S C O R u p t o;refine pP p t (jZ M) λJ g=>?_;have j:=d.rely g;obtain⟨x,N,f,y,l,n,K,v,w,I⟩:=E J A (D.rely g d) j;exact⟨N,f,y,l,n,⟨⟨h,a x,j,v,w⟩,I⟩,o x y f K v (g.aH.trans (w.tolU j))⟩
def d'.eI{O:Array Z}{Q:ar}(T:bG q Q dg dq res a6)(a:e Nat)(ak:r.guard=k)(l:r.op=.call {callee:=.value dC,args:=O,argTypes:=dK})(n:g4 (bA F dC)=b (Q,cap))(ae:∀g z,bW h g z (O.toList.map (bA F)++fm cap)->bW h g z (fA a dg))(ao:gv (c a) dg=i)(aq:dj a h=b dq)(W:d8 dq=i)(al:∀d,d8 (a6 d)=i)(D:eX a=i)(au:∀d,aD (c a) (c (a6 d))=i):
  d' q B all r F h (λd=>eZ (a++gk (c h) (c (a6 d)-c a)) (res d)) (λd=>cZ a (a6 d) h):=by
 intro g K S v ax ah Y aw ay E u w t;have U:=eO S dC;unfold g4 at n;split at n
 case h_2=>cases n
 case h_1 rj zb he=>
  cases n;rw[he]at U;have N:=b2 U;generalize C:K.eval dC=ad at N;cases N with
  |fn p f y j ab o af s aj A=>
   have an:p=[]:=j5 y;subst an;have ag:bW h g f (fm cap):=q0 (λd X x=>⟨o d,s d J,A d X x⟩) j;have ai:bW h g (O.toList.map K.eval++f) (fA a dg):=ae g _ ((nq (eO S) O.toList).append ag);obtain⟨fn,V,R,M⟩:=T.1;exact yt u w (jZ ak) v (λI=>(o9 l V R M C I).1) (λI=>(o9 l V R M C I).2) T ai ao aq W al D (λd=>e' (au d)) t
def d'.eh{O:Array Z}{g:ar}(u:bG q g dg dq res a6)(a:e Nat)(l:r.guard=k)(f:r.op=.call {callee:=.value dC,args:=O,argTypes:=dK})(w:g4 (bA F dC)=b (g,cap))(j:j' (O.toList.map (bA F)++fm cap)=fA a dg)(o:gv (c a) dg=i)(p:dj a h=b dq)(v:d8 dq=i)(n:∀d,d8 (a6 d)=i)(x:eX a=i)(s:∀d,aD (c a) (c (a6 d))=i):
  d' q B all r F h (λd=>eZ (a++gk (c h) (c (a6 d)-c a)) (res d)) (λd=>cZ a (a6 d) h):=.eI u a l f w (λ_ _ t=>j▸tc t) o p v n x s
def d'.cp{O:Array Z}{g:ar}(v:bG q g dg dq res a6)(a:e Nat)(n:r.guard=k)(f:r.op=.call {callee:=.value dC,args:=O,argTypes:=dK})(w:g4 (bA F dC)=b (g,cap))(j:mf (O.toList.map (bA F)++fm cap) (fA a dg)=b aB)(l:V aB)(p:gv (c a) dg=i)(s:dj a h=b dq)(x:d8 dq=i)(o:∀d,d8 (a6 d)=i)(y:eX a=i)(u:∀d,aD (c a) (c (a6 d))=i):
  d' q B all r F h (λd=>eZ (a++gk (c h) (c (a6 d)-c a)) (res d)) (λd=>cZ a (a6 d) h):=.eI v a n f w (λ_ _ t=>wj j l t) p s x o y u
def d_.fZ{M ad:Z}(Q:h9 P r M ad T bz){aG o l:Nat}{f:Nat->e D}(U:bz.size=o)(ag:bA F M=aL (.M i aG 0 es))(az:bA F ad=aL (.M gz o l f))(X:0<l)(N:l*bz.bytes<=140737488355328)(aK:∀A,A<l->∀ai∈f A,lm ai=i):
  d_ P B r F h (ι:={E:dy×e I // fM o l f E.2}) (λE=>ce (cT E.1.1 l)) (λE=>h++[.Q (cg T o E.1.1 l E.1.2)]):=by
 intro d aA S j;obtain⟨a2,t2,A,aU,aw,g,aE,H,s⟩:=Q.op;have R:=eO S M;rw[ag]at R;have ab:=Rd.fD (o:=aG) (fJ:=bz.size) (.inr a) (b2 R);have t:=eO S ad;rw[az]at t;have t:=b2 t;obtain⟨a1,O,z,V,ar,aH,ay,aT,aM⟩:=ab.bx;have aR:O=0:=ay a;subst aR;rw[V]at ab;have aC:Rd d.n (aA.eval ad) (.M gz bz.size l f):=J;obtain⟨q,w,Y,p,G,aS,aP,aQ⟩:=rX (P:=P) (ty:=r.type) g aE H s Q.elem j ab aC x J Q.bytes;have aJ:=rf (P:=P) (ty:=r.type) g aE H s Q.elem j ab aC x J Q.bytes;have ak:b_ 0 es f=f:=by funext A;simp[b_]
 rw[U,cX,ak]at p;rw[U]at aP;rw[cX]at G aQ;have L:fM o l f q:=⟨p.len,p.bo,λA g aV ai u=>by
  obtain⟨aY,ae,aF⟩:=p.rd A g aV ai u
  grind[rq]⟩
 have C:∀M∈q,dx M=i:=λM ag=>by
  obtain⟨v,ax,rfl⟩:=ft ag;have au:0<o:=J;have aO:=p.len;have g:v / o<l:=qD J;have aq:v / o*o+v % o=v:=sL v o;have u:v % o<c (f (v / o)):=by rw[p.bo _ g];exact oA _ au
  obtain⟨aY,ae,aF⟩:=L.cd _ g _ _ (bu u);rw[aq,bu ax]at ae;cases ae;exact(aF d.n).cell
 let n:af:=d.a.drew.alloc (.cells (q++w).toArray T);have ao:ek (h++[.Q (cg T o (.row d.a.heap.size Y) l q)]) {d with a:=n,m:=d.m++[⟨.nilFunc,[d.a.heap.size]⟩]} (.Q (cg T o (.row d.a.heap.size Y) l q)) ⟨.nilFunc,[d.a.heap.size]⟩:=by
  refine⟨λy=>if y=d.a.heap.size then b (.cells (q++w).toArray T (0,0))else k,⟨a,C,p.len,G,aS,w,aP,a⟩,λy r W=>?_,λy=>?_,λy W r=>?_⟩
  .by_cases aj:y=d.a.heap.size
   .subst aj;simp only[cN]at W;cases W;exact kI d.a.drew _
   grind
  .by_cases aj:y=d.a.heap.size<;>simp[aj]
  simp at W;subst W;cases X:d.n d.a.heap.size r with
  |none=>rfl
  |some a0=>have:=j.block X;omega
 have aN:n.heap.size=d.a.heap.size+1:=Cj;have aB:aZ h {d with a:=n}/\cA h d h {d with a:=n}:=
  j.cF x (λah N=>hY d.a.drew _ N) (λah N r=>rfl) (λah N r a0 X=>by have:=j.block X;omega) a a a
 obtain⟨al,an⟩:=aB.1.bL aB.2 rfl j ao (λah N=>by grind);refine⟨⟨(.row d.a.heap.size Y,q),L⟩,.value (.slice (b ⟨d.a.heap.size,0,k⟩) l Y),_,_,?_,.inl a,Rd.val a,al,an,?_⟩
 .rw[jh aw,V];simp[aQ];rfl
 exact B5
def g.fZ{u v:Z}{s:ab}{d:bh}(E:h9 P r u v s d){A l f:Nat}{p:Bool}{n a:Nat->e D}(J:d.size=l)(M:bA F u=aL (.M i A 0 n))(z:bA F v=aL (.M p l f a))(x:0<f)(C:f*d.bytes<=140737488355328)(w:∀t,t<f->∀y∈a t,lm y=i)(K:r.guard=k)(N:eU B r.dst=i)(o:∀j:{j:dy×e I // fM l f a j.2},g q B a7 (.ar all bw::ax) .normal (fy r.dst (ce (cT j.1.1 f)) F) (h++[.Q (cg s l j.1.1 f j.1.2)])):g q B a7 (.ar all (r::bw)::ax) .normal F h:=
 g.bO _ _ K N (d_.fZ E J M z x C w) o
def g.fB(l:ab)(n:Nat)(j:g q B a7 (.code u::ax) .normal F (h++[.Q (cg l n (.nil k) 0 [])])):g q B a7 (.code u::ax) .normal F h:=by refine g.aK (λo s d a=>?_) j;obtain⟨p,e⟩:=a.bL (bR:=.Q (cg l n (.nil k) 0 [])) (L:=⟨.nilFunc,[]⟩) (.refl _ _) rfl a ⟨λ_=>k,⟨rfl,by simp,by simp,rfl,rfl⟩,by simp,by simp,by simp⟩ Q;exact⟨{o with m:=o.m++[⟨.nilFunc,[]⟩]},rfl,⟨d.size,d.defers.imp λ_ f=>f.mono e.ext,λr=>(d.aC r).mono e.ext a.len⟩,p,e⟩
end
def fo(a:Nat->Option Obj):Mem:=λe f=>match a e with
 |some (.cells d _ _)=>d[f]?
 |_=>k
def ea(g:Mem->Prop):I->(Nat->Option Obj)->Prop:=λj a=>j=.nilFunc/\(∀h e,a h=b e->∃d f,e=.cells d f (0,0))/\g (fo a)
section
variable {q:al P}{N:e dz}
def g.hf(f j:Nat){J U:I->(Nat->Option Obj)->Prop}(aq:f≠j)(O:h[f]?=b (.Q J))(Q:h[j]?=b (.Q U))(n:∀Z W,J Z W->Z=.nilFunc)(M:∀Z z aB R,J Z z->U aB R->(∀d,(z d).isSome=i->(R d).isSome=i->False)->H .nilFunc λd=>(z d).or (R d))(au:g q B a7 (.code u::N) .normal F ((h.set f (.Q H)).set j .t)):g q B a7 (.code u::N) .normal F h:=by
 refine g.aK (λr a0 ah bc=>?_) au;have aZ:f<c h:=(cD.1 O).1;have aY:j<c h:=(cD.1 Q).1;have aG:f<c r.m:=fk;have G:j<c r.m:=fk;obtain⟨A,S⟩:∃L,r.m[f]?=b L:=⟨_,bu aG⟩;obtain⟨v,T⟩:∃L,r.m[j]?=b L:=⟨_,bu G⟩;have V:=bc.box f _ A O S;have ar:=bc.box j _ v Q T;have aC:A.v=.nilFunc:=by obtain⟨W,aR,_⟩:=V;grind
 let p:aj:={r with m:=(r.m.set f ⟨.nilFunc,A.V++v.V⟩).set j ⟨v.v,[]⟩}
 have aE:∀e,((h.set f (.Q H)).set j .t)[e]?=if e=j then b .t else if e=f then b (.Q H)else h[e]?:=λe=>by grind
 have C:∀e,p.m[e]?=if e=j then b ⟨v.v,[]⟩else if e=f then b ⟨.nilFunc,A.V++v.V⟩else r.m[e]?:=λe=>by grind
 have aS:=bZ S;have aT:=bZ T;have af:∀L∈p.m,∀d∈L.V,∃E∈r.m,d∈E.V:=λL l d o=>by grind
 have x:ey h r ((h.set f (.Q H)).set j .t) p:=by
  refine⟨λ_ _ _ M=>M,λe ab L ao l=>?_⟩;rw[aE,C];by_cases X:e=j
  .subst X;rw[Q]at ao;cases ao;rw[T]at l;cases l;exact⟨.t,⟨v.v,[]⟩,by simp,by simp,a⟩
  by_cases t:e=f
  .subst t;rw[O]at ao;cases ao;rw[S]at l;cases l;exact⟨.Q H,⟨.nilFunc,A.V++v.V⟩,by simp[X],by simp[X],aC.symm⟩
  exact⟨ab,L,by grind,by grind,.refl _ _⟩
 have aA:cA h r ((h.set f (.Q H)).set j .t) p:=
  ⟨bE _,λ_ _ _=>rfl,λ_ _ _ M=>M,λ_ _ _ _=>rfl,λL M d o=>.inr (af L M d o),x.box,rfl,rfl,rfl,rfl⟩
 obtain⟨z,ai,aN,ak,aO⟩:=V;obtain⟨R,al,aP,an,aQ⟩:=ar;have aL:∀d,(z d).isSome=i->(R d).isSome=i->False:=λd Y y=>aq (bc.aL f j A v S T d ((ak d).2 Y) ((an d).2 y));refine⟨p,a,⟨ah.size,ah.defers.imp λ_ n=>n.mono x,λaV=>(ah.aC aV).mono x bc.len⟩,⟨bc.mem,by simp[p,bc.len],?_,?_,λL l d o=>?_,λd o=>⟨(bc.own d o).1,λL l aK=>?_⟩⟩,aA⟩
 .intro e ab L ao l;rw[aE]at ao;rw[C]at l;split at ao
  .cases ao;trivial
  rename_i X;rw[bp X]at l;split at ao
  .rename_i t;rw[bF t]at l;cases ao;cases l;refine⟨λd=>(z d).or (R d),M _ z _ R ai al aL,λd aU o=>?_,λd=>?_,λd o aU=>?_⟩
   .cases n:z d with
    |some a1=>grind
    |none=>grind
   .grind
   grind
  rename_i t;rw[bp t]at l;exact(bc.box e ab L ao l).bU x bc.len λd o=>⟨a,λ_=>rfl⟩
 .intro e aw ad ae Y y d o ag;rw[C]at Y y;have key:∀e L,(if e=j then b (⟨v.v,[]⟩:Loc)else if e=f then b ⟨.nilFunc,A.V++v.V⟩else r.m[e]?)=b L->d∈L.V->(e=f/\(d∈A.V∨d∈v.V))∨(e≠f/\e≠j/\∃E,r.m[e]?=b E/\d∈E.V):=λe L aF o=>by
   split at aF
   .grind
   split at aF
   .grind
   grind
  rcases key e ad Y o with⟨ed,w⟩|⟨ay,aM,aH,w,s⟩<;>rcases key aw ae y ag with⟨fH,K⟩|⟨az,ax,aJ,K,D⟩
  .grind
  .rcases w with w|w
   .exact absurd (bc.aL _ _ _ _ S K d w D).symm az
   exact absurd (bc.aL _ _ _ _ T K d w D).symm ax
  .rcases K with K|K
   .exact absurd (bc.aL _ _ _ _ S w d K s).symm ay
   exact absurd (bc.aL _ _ _ _ T w d K s).symm aM
  exact bc.aL _ _ _ _ w K d s D
 .obtain⟨E,bi,n⟩:=af L l d o;exact bc.lt E bi d n
 obtain⟨E,bi,n⟩:=af L l d aK;exact(bc.own d o).2 E bi n
def pt(g a:Mem):Prop:=∀d e f,g d e=b f->a d e=b f
def ea.add{u E:Mem->Prop}{K:Nat}{h:dy}(y:∀v g,pt v g->u v->(∀d e,h=.row d e->∀o j,O[o]?=b j->g d o=b j)->E g):
  ∀j f z l,ea u j f->cg T K h p O z l->(∀d,(f d).isSome=i->(l d).isSome=i->False)->ea E .nilFunc λd=>(f d).or (l d):=by
 rintro j f z l ⟨_,r,B⟩ D X;have w:pt (fo f) (fo λd=>(f d).or (l d)):=λd t j x=>by
  cases n:f d with
  |none=>simp[fo,n]at x
  |some F=>simpa[fo,n]using x
 cases h with
 |nil V=>
  obtain⟨_,_,_,_,rfl⟩:=D;exact⟨a,λd t S=>r d t J,y _ _ w B λd e q=>by cases q⟩
 |row d e=>
  obtain⟨_,M,N,Q,C,U,Y,rfl⟩:=D;refine⟨a,λA t S=>?_,y _ _ w B λA W q o j s=>?_⟩
  .cases n:f A with
   |some F=>grind
   |none=>
    grind
  cases q;have R:f d=k:=by
   cases n:f d with
   |none=>rfl
   |some F=>grind
  have I:o<c O:=(cD.1 s).1;simp only[fo,R,Option.none_or,cN];grind
def ea.start{l:Nat}{h:Option Addr}{f:Mem->Prop}(j:∀g,f g):∀e a,cg T l (.nil h) p O e a->ea f e a:=by rintro e a ⟨d,_,_,_,rfl⟩;exact⟨d,λn q o=>by grind,j _⟩
def ea.eP{j:Nat}{s:Mem->Prop}{v:I}{u:Nat}(r:h[j]?=b (.Q (ea s)))(C:∀t,s t->Rd t v (.M m u p es)):sz h j v u p es:=by
 intro l bc;have x:j<c l.m:=fk;have o:=bu x;generalize l.m[j]=L at o;obtain⟨e,⟨y,q,E⟩,B,D,A⟩:=bc.box j _ L r o;have M:∀a d g,fo e a d=b g->a∈L.V/\l.a.cell? ⟨a,d,k⟩=b g:=λa d g f=>by
  cases n:e a with
  |none=>simp[fo,n]at f
  |some J=>
   obtain⟨w,K,rfl⟩:=q a J n;have z:=B a _ n;simp only[fo,n]at f;exact⟨(D a).2 hc,by simpa[aJ,z]using f⟩
 refine⟨L,λa d=>(l.n a d).or (fo e a d),o,λa d g f=>by grind,λa N d=>?_,λa d g f=>?_,A,(C _ E).mono λa d g f=>?_⟩
 .cases n:fo e a d with
  |none=>simp[n]
  |some g=>grind
 .cases n:l.n a d with
  |some F=>simp only[n,Option.some_or]at f;cases f;exact bc.mem a d g n
  |none=>grind
 grind
def cg.hz{q:Nat}{b':dy}(d:h[l]?=b (.Q (cg T q b' p O)))(t:0<p)(g:aj)(bc:aZ h g):∃e a,b'=.row e a/\p<=a/\a<=9223372036854775807:=by
 have j:l<c g.m:=fk;obtain⟨n,f,_⟩:=bc.box l _ _ d (bu j);cases b' with
 |nil r=>obtain⟨_,_,_,o,_⟩:=f;omega
 |row e a=>obtain⟨_,_,_,o,s,_⟩:=f;grind
end
def tf(p l n:Nat)(h:Nat->e D):C->C×e Prop
 |.ak d (.M j a g f)=>match aa d p with
  |true=>match aa a l with
   |true=>(.c (.M m l f (kn g h)),[j=n,g+f<=n])
   |false=>(.ak d (.M j a g f),[])
  |false=>(.ak d (.M j a g f),[])
 |o=>(o,[])
def nJ(h g j:Nat)(a:Nat->e D):e C->e C×e Prop
 |[]=>([],[])
 |l::p=>match tf h g j a l with
  |(d,n)=>match nJ h g j a p with
   |(f,o)=>(d::f,gh n o)
def zp(j h l:Nat)(a:Nat->e D):E1->E1×e Prop
 |.S n=>match tf j h l a n with|(d,g)=>(.S d,g)
 |.agg f=>match nJ j h l a f with|(o,g)=>(.agg o,g)
def zo(h g j:Nat)(a:Nat->e D):s->s×e Prop
 |.k n=>match zp h g j a n with|(d,l)=>(.k d,l)
 |f=>(f,[])
def tg(g f h:Nat)(a:Nat->e D):bd->bd×e Prop
 |[]=>([],[])
 |(q,l)::p=>match zo g f h a l with
  |(j,n)=>match tg g f h a p with
   |(d,o)=>((q,j)::d,gh n o)
def hS(h n o:Nat)(d:Nat->e D):Nat->e Y->e Y×e Prop
 |_,[]=>([],[])
 |l,f::s=>match hS h n o d (l+1) s with
  |(a,j)=>match aa l h with
   |true=>(.t::a,j)
   |false=>match f with
    |.cells p g=>match nJ h n o d g with|(q,r)=>(.cells p q::a,gh r j)
    |f=>(f::a,j)
section
variable {cv:aj}{T o:Nat}
structure kV(h:e Y)(d:aj)(l o p:Nat)(es:Nat->e D)(aO:e Y)(cv:aj):Prop where
 aG:∀ai t,ck h d ai t->ck aO cv ai t
 eK:∀ai fJ r a2,ck h d ai (.ak l (.M p fJ r a2))->fJ=o->r+a2<=p->Rd cv.n ai (.M m o a2 (kn r es))
def kV.cj(g:kV h d l o p es aO cv){f:I}{t:C}(n:V (tf l o p es t).2)(j:ck h d f t):ck aO cv f (tf l o p es t).1:=by
 unfold tf at n⊢;split
 .rename_i u X s r v;split
  .rename_i a;split
   .rename_i e;simp only[a,e]at n;have a:=c1 a;have e:=c1 e;subst a;obtain⟨rfl,q⟩:X=p/\r+v<=p:=n;exact g.eK f _ _ _ j e q
   exact g.aG f _ j
  exact g.aG f _ j
 exact g.aG f _ j
def kV.gd(j:kV h d l o p es aO cv):∀{z:e I}{a:e C},V (nJ l o p es a).2->bJ h d z a->bJ aO cv z (nJ l o p es a).1
 |[],[],_,_=>trivial
 |[],_::_,_,f=>f.elim
 |_::_,[],_,f=>f.elim
 |q::z,n::a,g,f=>by simp only[nJ]at g⊢;rw[V.W]at g;exact⟨j.cj g.1 f.1,j.gd g.2 f.2⟩
def kV.k(f:kV h d l o p es aO cv){a:E1}(e:V (zp l o p es a).2)(g:eh h d ai a):eh aO cv ai (zp l o p es a).1:=by
 cases a with
 |S r=>exact f.cj e g
 |agg n=>obtain⟨z,q,j⟩:=g;exact⟨z,q,f.gd e j⟩
def kV.cD(n:kV h d l o p es aO cv)(a:c d.m=c h)(j:ey h d aO cv){f:I}{N:s}(g:V (zo l o p es N).2)(e:bo h d f N):bo aO cv f (zo l o p es N).1:=by
 cases N with
 |k q=>exact n.k g e
 |C O=>exact e.mono j a
 |any=>trivial
def kV.gN(q:kV h d l o p es aO cv)(e:c d.m=c h)(j:ey h d aO cv):∀{F:bd}{w:Nat}{g:I},V (tg l o p es F).2->bo h d g (look F w)->bo aO cv g (look (tg l o p es F).1 w)
 |[],_,_,_,_=>trivial
 |(r,s)::t,w,g,f,a=>by
  simp only[tg]at f⊢;rw[V.W]at f;simp only[look]at a⊢;cases n:aa r w with
  |true=>rw[n]at a;exact q.cD e j f.1 a
  |false=>rw[n]at a;exact q.gN e j f.2 a
theorem zm:∀{h:e Y}{f y:Nat},(hS l o p es f h).1[y]?=match h[y]? with
  |none=>k
  |some a=>b (match aa (f+y) l with|true=>.t|false=>match a with|.cells j d=>.cells j (nJ l o p es d).1|a=>a)
 |[],f,y=>by simp[hS]
 |a::g,f,0=>by simp only[hS,iK,j6];grind
 |a::g,f,y+1=>by have n:=zm (h:=g) (f:=f+1) (y:=y);have q:f+1+y=f+(y+1):=x;rw[q]at n;simp only[hS,nA];grind
def Eg:∀{h:e Y}{f y:Nat}{g:ab}{a:e C},V (hS l o p es f h).2->h[y]?=b (.cells g a)->f+y≠l->V (nJ l o p es a).2
 |[],f,y,_,_,_,d,_=>by grind
 |q::n,f,0,g,a,j,d,r=>by simp at d;subst d;simp only[hS]at j;grind[Nat.eq_of_beq_eq_true,V.W]
 |q::n,f,y+1,g,a,j,d,r=>by simp at d;refine Eg (h:=n) (f:=f+1) (y:=y) ?_ d x;simp only[hS]at j;grind[V.W]
theorem zn:∀{h:e Y}{f:Nat},(hS l o p es f h).1.length=c h
 |[],_=>rfl
 |g::a,f=>by simp only[hS];have d:=zn (h:=a) (f:=f+1);grind
def aZ.cE(t:aZ h d)(ao:h[l]?=b (.A T o p es))(au:V (hS l o p es 0 h).2):
  ∃q:aj,q.a=d.a/\aZ (hS l o p es 0 h).1 q/\cA h d (hS l o p es 0 h).1 q/\kV h d l o p es (hS l o p es 0 h).1 q:=by
 have s:l<c h:=(cD.1 ao).1;have ae:d.m[l]?=b (d.m[l]'(by rw[t.len];exact s)):=bu _;generalize d.m[l]'J=L at ae;have a1:=t.box _ _ L ao ae;obtain⟨b0,ay,az,aA,aB⟩:∃b0:Mem,(∀j e r,d.n j e=b r->b0 j e=b r)/\(∀j,j∉L.V->∀e,b0 j e=d.n j e)/\(∀j e r,b0 j e=b r->d.a.cell? ⟨j,e,k⟩=b r) /\
   (∀r n e K,ck h d r (.ak l (.M p n e K))->n=o->e+K<=p->Rd b0 r (.M m o K (kn e es))):=by
  rcases a1 with⟨rfl,rfl⟩|⟨j,al,z,a_,rfl,hw,aU,aV,aT,aN,a7⟩
  .refine⟨d.n,λ_ _ _ S=>S,λ_ _ _=>rfl,t.mem,λr n e K N u aH=>?_⟩;obtain⟨ax,⟨aP,ak,X,al,U,v,w,G,aL,aq⟩,_,aO⟩:=N;grind[Rd.cZ]
  let b0:Mem:=λA e=>if A=j then z[e]? else d.n A e;have ab:∀A e r,d.n A e=b r->b0 A e=b r:=λA e r U=>by grind
  refine⟨b0,ab,λA aS e=>J,λA e r U=>?_,λr n e K N u aH=>?_⟩
  .by_cases u:A=j
   .subst u;simp only[b0,cN]at U;simp only[aJ,hw];grind
   simp only[b0,u,cr]at U;exact t.mem A e r U
  subst u;obtain⟨ax,⟨aP,ak,X,a6,U,v,w,G,aL,aq⟩,_,aO⟩:=N;obtain⟨b7,F,aK⟩:=(aO _ _ _ _ ao).2 rfl;rw[ae]at F;cases F;rw[aL]at aK;cases aK;rw[U];have af:∀g,g<K->∀I R,(kn e es g)[I]?=b R->∃aE,z[(e+g)*n+I]?=b aE/\Rd d.n aE R:=λg f I R y=>by rw[wD]at y;exact aN.rd (e+g) x I R y
  refine .M j (e*n) (λg I=>(z[(e+g)*n+I]?).getD E) v x Q (λg f=>by rw[wD];exact aN.bo _ x) (λa8=>J) (λg f I R y=>J) (λg f I R y=>?_);obtain⟨aE,aF,aG⟩:=af g f I R y;rw[aF];exact aG.mono ab
 obtain⟨D,aC⟩:=t.bQ (b0:=b0) (a5:=d.a) (dN:=.t) (b7:=⟨L.v,[]⟩) ao ae M (bE _) (λ_ _ _=>rfl) (λj _ ai e=>az j ai e) ay aA Q rfl rfl rfl M;let q:aj:=⟨d.m.set l ⟨L.v,[]⟩,b0,d.a,d.own⟩
 have af:∀g O,h[g]?=b O->g≠l->(hS l o p es 0 h).1[g]?=b (match O with|.cells T Y=>.cells T (nJ l o p es Y).1|j=>j):=λg O f aY=>by grind[zm,Nat.eq_of_beq_eq_true]
 have aM:(hS l o p es 0 h).1[l]?=b .t:=by
  rw[zm,ao];have:aa (0+l) l=i:=by rw[cX];exact sU l
  grind
 have qk:cA (h.set l .t) q (hS l o p es 0 h).1 q:=by
  refine⟨bE _,λ_ _ _=>rfl,λ_ _ _ S=>S,λ_ _ _ _=>rfl,λb7 F j ai=>.inr ⟨b7,F,ai⟩,λg O b7 f F=>?_,a,a,a,a⟩;by_cases u:g=l
  .subst u;rw[hN s]at f;cases f;exact⟨.t,b7,aM,F,a⟩
  rw[j7 (λS=>u S.symm)]at f;refine⟨_,b7,af g O f u,F,?_⟩;cases O<;>first|exact fL.refl _ _|rfl
 have ad:=aC.trans qk;have Z:kV h d l o p es (hS l o p es 0 h).1 q:=⟨λr aP N=>N.mono ad.ext t.len,λr n e K N u aH=>aB r n e K N u aH⟩
 refine⟨q,a,⟨D.mem,by rw[zn,<-t.len];grind,λg O b7 f F=>?_,D.aL,D.lt,D.own⟩,ad,Z⟩;by_cases u:g=l
 .subst u;rw[aM]at f;cases f;trivial
 have C:g<c h:=by grind[zn]
 have ag:=bu C;have a3:d.m[g]?=b b7:=J;have a4:=t.box g _ b7 ag a3;have W:=D.box g _ b7 (by rw[j7 (λS=>u S.symm)];exact ag) F;have B:=af g _ ag u;rw[f]at B;have B:=u7 B;generalize aR:h[g]=ah at *;cases ah with
 |cells dS Y=>
  subst B;obtain⟨j,z,v,w,G,aq⟩:=a4;obtain⟨A,a0,H,aQ,_,a2⟩:=W;rw[v]at H;cases H;exact⟨j,z,v,w,Z.gd (Eg au ag x) G,a2⟩
 |q=>subst B;exact W
 |Q=>subst B;exact W
 |t=>subst B;trivial
 |loop ba a' N=>
  subst B;obtain⟨aw,tmps,fn,an,v,w,G,aq,ar⟩:=W;exact⟨aw,tmps,fn,an,v,w,G,λa9=>(aq a9).mono qk.ext D.len,ar⟩
 |a2=>subst B;exact W
 |A=>subst B;exact W
end
section
variable {q:al P}{c':bd}
def g.cE(x:Nat){E s z:Nat}{a:Nat->e D}{l n:e Prop}(r:cH x h=b (.A E s z a))(M:tg x s z a F=(c',l))(I:hS x s z a 0 h=(aO,n))(y:V l)(N:V n)(v:g q B a7 (.code u::ax) .normal c' aO):g q B a7 (.code u::ax) .normal F h:=by refine g.aK (λO t o f=>?_) v;obtain⟨A,p,d,j,C⟩:=f.cE (dL r) J;rw[I]at d j C;refine⟨A,p,⟨o.size,o.defers.imp λ_ K=>K.mono j.ext,λw=>?_⟩,d,j⟩;have:=C.gN f.len j.ext (F:=F) (w:=w) J (o.aC w);grind
end
section
variable {q:al P}
def bG.jH{bb:ar}{args:e s}{af:Nat}{a' ba:D}{ok:Bool}{ab:ι->Nat->e D}{ai:ι->Mem->Prop}(F:Nat->e D)(l:bG q bb args [] (λ_=>.C [.agg [.ak 0 (.M p af 0 p),.c a',.c ba],.S (.c (.bool ok))]) (λr=>[.A T af p (ab r),.Q (ea (ai r))]))(aL:∀r W ak,pt W ak->ai r W->ai r ak)(a3:∀r W,ai r W->∀K,K<p->c (F K)=af/\∀(V:Nat) (ah:D),(F K)[V]?=b ah->∃X,(ab r K)[V]?=b X/\∀Q aE,Rd aE Q X->Rd W Q ah):
  bG (ι:=I) q bb args [] (λQ=>.C [.agg [.c (.val Q),.c a',.c ba],.S (.c (.bool ok))]) (λQ=>[.t,.Q (ea λW=>Rd W Q (.M m af p F))]):=by
 refine⟨l.1,λbD z aS aO bk Z aM=>l.2 bD z aS aO bk Z λr aJ Q n aP ae g o=>?_⟩;have aQ:c n.m=2:=g.len;obtain⟨N,u,bl⟩:∃N u,n.m=[N,u]:=by
  match RR:n.m with
  |[C,aB]=>grind
  |[]=>grind
  |[_]=>grind
  |_::_::_::_=>grind
 have aC:n.m[0]?=b N:=J;have au:n.m[1]?=b u:=J;obtain⟨v,⟨bw,a0,h2⟩,bx,bz,bA⟩:=g.box 1 _ u rfl au;have aH:=g.box 0 _ N a aC;obtain⟨a6,rfl,aT⟩:=ae
 match a6,aT with
 |[bI,w1],⟨bf,bJ,_⟩=>
 obtain⟨a4,rfl,bh⟩:=bf
 match a4,bh with
 |[bE,bF,bH],⟨bm,G,bg,_⟩=>
 obtain⟨bu,⟨al,bo,S,X,rfl,k1,br,bs,aY,bt⟩,_,aG⟩:=bm;obtain⟨_,aG⟩:=aG T af p (ab r) rfl;obtain⟨a8,a9,an⟩:=aG rfl;rw[aC]at a9;cases a9;rw[aY]at an;have aN:∀d,d∈N.V->d∈u.V->False:=λd f h=>absurd (g.aL 0 1 N u aC au d f h) cz;obtain⟨U,a1,bB,bC,a2⟩:∃U:Nat->Option Obj,(∀d y,U d=b y->n.a.heap[d]?=b y/\∃Z T,y=.cells Z T (0,0))/\(∀d,d∈N.V↔(U d).isSome=i)/\(∀d∈N.V,∀y,n.n d y=k) /\
   (∀B,(∀d,(U d).isSome=i->B d=U d)->ai r (fo B)->Rd (fo B) (.slice al p S) (.M m af p F)):=by
  rcases aH with⟨rfl,rfl⟩|⟨dE,jb,O,az,rfl,bK,bL,bM,bN,a_,bO⟩
  .exact⟨λ_=>k,by simp,by simp,by simp,λB _ _=>.M 0 0 (λ_ _=>E) k1 x (λl=>by cases l) (λr aw=>by omega) (λl=>by omega) (λr aw=>by omega) λr aw=>by omega⟩
  cases an;refine⟨λd=>if d=dE then b (.cells (O++az).toArray T (0,0))else k,λd y j=>?_,λd=>by by_cases bp:d=dE<;>simp[bp],λd j y=>?_,λB bq ad=>?_⟩
  .grind
  .grind
  have aq:B dE=b (.cells (O++az).toArray T (0,0)):=J;refine .M dE 0 (λaU aV=>O.getD (aU*af+aV) E) k1 x (λl=>by cases l) (λK w=>(a3 r _ ad K w).1) (λl=>J) (λK w V ah aF=>?_) λK w V ah aF=>?_
  .obtain⟨Y,f,h⟩:=(a3 r _ ad K w).2 V ah aF;obtain⟨Q,ay,a5⟩:=a_.rd K w V Y f;have bc:=(cD.1 ay).1;simp only[fo,aq,iF,cX];grind
  obtain⟨Y,f,h⟩:=(a3 r _ ad K w).2 V ah aF;obtain⟨Q,ay,a5⟩:=a_.rd K w V Y f;grind
 let B:Nat->Option Obj:=λd=>(v d).or (U d);have bj:∀d,(U d).isSome=i->B d=U d:=λd j=>by
  have:v d=k:=by
   cases l:v d with
   |none=>rfl
   |some a7=>grind
  grind
 have bn:pt (fo v) (fo B):=λd y Q ax=>by
  cases l:v d with
  |none=>simp[fo,l]at ax
  |some a7=>simpa[fo,l,B]using ax
 let R:aj:={n with m:=[⟨N.v,[]⟩,⟨.nilFunc,u.V++N.V⟩]}
 have aA:∀L∈R.m,∀d∈L.V,∃t∈n.m,d∈t.V:=λL A d j=>by rw[bl];simp only[R,ef,oz,pI]at A;grind
 have aK:eg n R:=⟨rfl,λ_ _ _ l=>l,λ_ _ _=>rfl,g.mem,λd j=>j.imp id λ⟨L,A,j⟩=>aA L A d j⟩
 refine .aK aK (aM (.slice al p S) aJ _ R (aP.mono λ_ _ _ l=>l) ⟨_,a,⟨_,a,Rd.val a,G,bg,M⟩,bJ,M⟩ ⟨g.mem,a,λag aB L ao A=>?_,λag aZ C aB f h d j bd=>?_,λL A d j=>?_,λd j=>⟨(g.own d j).1,λL A H=>?_⟩⟩
  ⟨o.size,o.aG,o.mem,λd j aR y=>o.ba d j aR y,λL A d j=>?_,λag aB L ao=>by grind,o.os,o.tape,o.output,o.own⟩)
 .match ag,ao,A with
  |0,ao,A=>cases ao;trivial
  |1,ao,A=>
   cases ao;cases A;refine⟨B,⟨a,λd y j=>?_,a2 B bj (aL r _ _ bn h2)⟩,λd y j=>?_,λd=>?_,λd j y=>?_⟩
   .cases l:v d with
    |some a7=>simp only[B,l,Option.some_or]at j;exact a0 d y (l.trans j)
    |none=>simp only[B,l,Option.none_or]at j;exact(a1 d y j).2
   .cases l:v d with
    |some a7=>grind
    |none=>grind
   .grind
   grind
  |ag+2,ao,A=>grind
 .match ag,aZ,f,h with
  |0,0,_,_=>rfl
  |1,1,_,_=>rfl
  |0,1,f,_=>grind
  |1,0,_,h=>grind
  |ag+2,_,f,_=>grind
  |_,ag+2,_,h=>grind
 .obtain⟨t,f,h⟩:=aA L A d j;exact g.lt t f d h
 .obtain⟨t,f,h⟩:=aA L A d H;exact(g.own d j).2 t f h
 obtain⟨t,f,h⟩:=aA L A d j;exact o.bp t f d h
end
section
variable {q:al P}{u:Type}{A:u->Nat->s}{bg:u->(Nat->Bool)->e Y}{e2:u->(Nat->Bool)->Prop}
def eR(t:al P)(r:Nat)(a:e ah)(q:bd){j:Type}(l:j->Nat->s)(o:j->(Nat->Bool)->e Y)(f:j->(Nat->Bool)->Prop)(g:Nat)(u:ah):Prop:=
 ∀h (s:Nat->Bool),f h s->(∀d,d9 a g d=i->s d=i)->(∀d,(d=g∨d9 a d g=i)->s d=m)->d' t r a u (dr a q (l h) g) (o h s) (λn:{p:j // (∀d,s d=i->l p d=l h d)/\f p (du g s)}=>l n.1 g) (λn=>o n.1 (du g s))
def su{P:aw}(l:al P)(h:Nat)(d:e ah)(g:bd){f:Type}(o:f->Nat->s)(j:f->(Nat->Bool)->e Y)(a:f->(Nat->Bool)->Prop):e ah->Nat->Prop
 |[],_=>True
 |p::q,n=>eR l h d g o j a n p/\su l h d g o j a q (n+1)
theorem su.get{a:e ah}:∀{l:e ah}{j:Nat},su q B a F A bg e2 l j->∀g f,l[g]?=b f->eR q B a F A bg e2 (j+g) f
 |[],_,_,g,f,h=>by grind
 |n::o,j,h,0,f,d=>by simp at d;subst d;exact h.1
 |n::o,j,h,g+1,f,d=>by have:=su.get h.2 g f J;grind
def g.iK{id:Nat}(J:P.follows Departure.mixedOrders=i)(v:u->Nat->s)(p:u->(Nat->Bool)->e Y)(a:u->(Nat->Bool)->Prop)(r:u)(I:a r λ_=>m)(K:p r (λ_=>m)=h)(y:ko aP.toList=i)(z:nF aP.toList 0=i)(A:nL B aP.toList=i)(o:su q B aP.toList F v p a aP.toList 0)(D:∀f s,a f s->(∀l,l<c aP.toList->s l=i)->g q B a7 ax .normal (mZ aP.toList F (v f)) (p f s)):g q B a7 (.code (.region id aP i)::ax) .normal F h:=by
 have:=bX.reg (q:=q) (B:=B) (F:=F) (h:=h) J (all:=aP.toList) (c aP.toList) v p a r I K y z A (bE _)
  (λl d j=>absurd j (oC.2 d)) (λf s _ _ l d j=>absurd j (oC.2 d))
  (λf s l x t n _ E C w=>by have d:=o.get l x n;rw[cX]at d;exact d f s t (yx w l x n C) (CR w E))
  (aq:=g q B a7 ax) (λf s t M=>by rw[u6];exact .nil (D f s t M)) id
 exact uF
theorem eR.of(J:∀a (s:Nat->Bool),e2 a s->(∀e,d9 all f e=i->s e=i)->(∀e,(e=f∨d9 all e f=i)->s e=m)->e2 a (du f s)/\a0 q B all r (dr all F (A a) f) (bg a s) (A a f) (bg a (du f s))):eR q B all F A bg e2 f r:=by intro a s I j l M z E p C K h g idx d o t n;obtain⟨D,u⟩:=J a s I j l;exact u M z E p C K h g idx d o t λN y v w x=>n ⟨a,λ_ _=>rfl,D⟩ N y v w x
def eR.jy(R:∀n (s:Nat->Bool),e2 n s->(∀a,d9 all f a=i->s a=i)->(∀a,(a=f∨d9 all a f=i)->s a=m) ->
  ∃(j:Type) (K:j->Go.AM.s) (d:j->e Y),d' q B all r (dr all F (A n) f) (bg n s) K d/\∀a,∃l,((∀E,s E=i->A l E=A n E)/\e2 l (du f s))/\K a=A l f/\d a=bg l (du f s)):eR q B all F A bg e2 f r:=by intro n s T v w V M O z N S u t idx h y C x;obtain⟨j,K,d,U,I⟩:=R n s T v w;refine U V M O z N S u t idx h y C λa W J g o p=>?_;obtain⟨l,Q,D,h2⟩:=I a;rw[D]at g;rw[h2]at g o p;exact x ⟨l,Q⟩ W J g o p
end
section
variable {q:al P}{A:Option ι->Nat->s}{d:Option ι->Bool->Bool->Bool->e Y}{a2 f1 f2 f3:Nat}
abbrev lT(h:Option ι->Bool->Bool->Bool->e Y)(a d f:Nat):Option ι->(Nat->Bool)->e Y:=λg s=>h g (s a) (s d) (s f)
abbrev lO(a:Type)(e:Nat):Option a->(Nat->Bool)->Prop:=λd s=>d.isSome=s e
def eR.aS(n:aa a2 f=m)(j:aa f1 f=m)(l:aa f2 f=m)(o:aa f3 f=m)(p:∀a e g h,a0 q B all r (dr all F (A a) f) (d a e g h) (A a f) (d a e g h)):
  eR q B all F A (lT d f1 f2 f3) (lO ι a2) f r:=by grind[eR.of,lJ]
def eR.jL(v:aa a2 f=m)(g:aa f1 f=m)(h:aa f2 f=m)(p:aa f3 f=m)(o:d9 all f a2=i)(t:∀a j l n,a0 q B all r (dr all F (A (b a)) f) (d (b a) j l n) (A (b a) f) (d (b a) j l n)):
  eR q B all F A (lT d f1 f2 f3) (lO ι a2) f r:=by
 refine eR.of λe s w aG _=>⟨?_,?_⟩
 .grind [lJ]
 show a0 q B all r _ (d e (s f1) (s f2) (s f3)) _ (d e (du f s f1) (du f s f2) (du f s f3));rw[lJ g,lJ h,lJ p];have u:=aG a2 o;cases e with
 |none=>grind
 |some a=>exact t _ _ _ _
def eR.hx(aG:bT P ag)(hX:a3 q CT)(cO:V cl)(n:∀N t j u,gS ag CT [] all (dr all F (A N) f) (d N t j u) r=b (A N f,k,cl):=by intro N t j u;cases N<;>cases t<;>cases j<;>cases u<;>rfl)(ak:aa a2 f=m:=by rfl)(b8:aa f1 f=m:=by rfl)(cY:aa f2 f=m:=by rfl)(ac:aa f3 f=m:=by rfl):eR q B all F A (lT d f1 f2 f3) (lO ι a2) f r:=.aS ak b8 cY ac λN t j u=>a0.eval aG hX (n N t j u) cO
def eR.gm(aG:bT P ag:=by exact bv)(hX:a3 q CT:=by first|assumption|exact a3.nil)(n:∀N t j u,gS ag CT [] all (dr all F (A N) f) (d N t j u) r=b (A N f,k,[]):=by intro N t j u;cases N<;>cases t<;>cases j<;>cases u<;>rfl)(ak:aa a2 f=m:=by rfl)(b8:aa f1 f=m:=by rfl)(cY:aa f2 f=m:=by rfl)(ac:aa f3 f=m:=by rfl):eR q B all F A (lT d f1 f2 f3) (lO ι a2) f r:=.hx (cl:=[]) aG hX M n ak b8 cY ac
def eR.fu(aG:bT P ag:=by exact bv)(hX:a3 q CT:=by first|assumption|exact a3.nil)(n:∀y t j u,gS ag CT [] all (dr all F (A (b y)) f) (d (b y) t j u) r=b (A (b y) f,k,[]):=by intro y t j u;cases t<;>cases j<;>cases u<;>rfl)(N:aa a2 f=m:=by rfl)(b8:aa f1 f=m:=by rfl)(cY:aa f2 f=m:=by rfl)(ac:aa f3 f=m:=by rfl)(ak:d9 all f a2=i:=by rfl):eR q B all F A (lT d f1 f2 f3) (lO ι a2) f r:=.jL N b8 cY ac ak λy t j u=>a0.x aG hX (n y t j u)
def eR.iy(h:aa a2 f2=m)(f:aa f1 f2=m)(j:aa f3 f2=m)(g:d9 all f3 f2=i)(l:∀a e,a0 q B all r (dr all F (A a) f2) (d a e m m) (A a f2) (d a e i m)):eR q B all F A (lT d f1 f2 f3) (lO ι a2) f2 r:=by grind[eR.of,lJ,uv]
def eR.iz(n:aa a2 f3=m)(g:aa f1 f3=m)(h:aa f2 f3=m)(e:d9 all f3 a2=i)(o:d9 all f3 f1=i)(t:d9 all f3 f2=i)(u:∀a,a0 q B all r (dr all F (A (b a)) f3) (d (b a) i i m) (A (b a) f3) (d (b a) i i i)):eR q B all F A (lT d f1 f2 f3) (lO ι a2) f3 r:=by
 refine eR.of λf s p aG j=>?_;have l:=aG a2 e;cases f with
 |none=>grind
 |some a=>
  grind[lJ,uv]
end
section
variable {q:al P}
def g.jA{K:ι->s}{j:ι->e Y}(R:d' q B all r F h K j)(Q:eU B r.dst=i)(T:∀p,g q B a7 (.ar all bw::ax) .normal (fy r.dst (K p) F) (j p)):g q B a7 (.ar all (r::bw)::ax) .normal F h:=by
  intro V M v f J o l I idx n a A;cases idx with
  |nil=>exact a.elim
  |cons S idx=>
  refine R V M v f J o l I S idx n a.1 λp X C x y d=>?_;refine T p C _ ?_ y J o l I idx n a.2 λN t D u U w z E=>A N t D u U w z (d.trans E);cases O:r.dst with
  |none=>exact v.mono d f.len
  |some W=>exact(v.mono d f.len).put (kE Q W O) x
def d'.e8[q.bT]{O:Array Z}{bq:ar}(aR:bG q bq dg [] res a6){ah:e s}(a0:nj all F r=i)(bC:r.op=.call {callee:=.value dC,args:=O,argTypes:=dK})(ab:g4 (bA F dC)=b (bq,cap))(bz:lP h (O.toList.map (bA F)++fm cap) ah)(bR:mf ah (fA [] dg)=b aB)(a9:V aB)(a4:gv 0 dg=i)(bO:∀x,v7 (res x)=i)(a8:∀x,o4 (a6 x)=i):d' q B all r F h res (λx=>h++a6 x):=by
  intro d t bj aE j a' aY bS bN idx l a3 bu;have ax:=eO bj dC;unfold g4 at ab;split at ab
  case h_2=>cases ab
  case h_1 rj zb he=>
    cases ab;rw[he]at ax;have bK:=b2 ax;generalize C:t.eval dC=b3 at bK;cases bK with
    |fn bs R a5 aF b0 br g E b5 bH=>
      have aT:bs=[]:=j5 a5;subst aT;have bV:bW h d R (fm cap):=q0 (λx u bx=>⟨br x,E x J,bH x u bx⟩) aF;have G:bW h d (O.toList.map t.eval++R) (O.toList.map (bA F)++fm cap):=(nq (eO bj) O.toList).append bV;generalize bM:O.toList.map t.eval++R=z at G;obtain⟨⟨fn,aS,aG,bX⟩,Y⟩:=aR;have aJ:∀aK,(W t.eval r).run P aK=.ok (.enter bq z.toArray) aK:=λaK=>by grind[o9]
      have aC:∀aK,(W t.eval r).events P aK #[]=#[]:=λaK=>(o9 bC aS aG bX C aK).2;refine .next a λp a_=>?_;have ad:=q.bt a_;have y:=aE.rely ad;have aM:=bj.rely ad aE;have bQ:bW h p z (O.toList.map (bA F)++fm cap):=G.mono ad.aH.ext aE.len;obtain⟨U,aA,bL,bc,bD,bd,b4,bE⟩:=bz p z y bQ;let T:aj:={p with m:=[],n:=aA,own:=λj=>p.own j∨∃L∈p.m,j∈L.V}
      have a2:aZ [] T:=by
        refine⟨bd,a,by simp,by grind,by grind,λj l=>⟨?_,by grind⟩⟩;rcases l with l|⟨f,af,l⟩
        · exact(y.own j l).1
        · exact y.lt f af j l
      have aU:eg p T:=by refine⟨rfl,bc,λj l r=>bD j (λao=>by grind) r,bd,λj l=>?_⟩;grind
      have b7:bW [] T z dg:=by have bl:=wj bR a9 bE;exact(bW.sub (bb:=[]) (h:=h) (aO:=[]) (d:={p with n:=aA}) (jz:=[]) rfl rfl bl a4).mono (h:=[]) (d:={p with m:=[],n:=aA}) (aO:=[]) (au:=T) ⟨λ_ _ _ A=>A,λI U L ao bt=>by grind⟩ rfl
      refine⟨_,p,_,uf a3 (jY a0 _ _ _ aM) l (aJ p.a),⟨⟨h,h,y,y,.refl _ _⟩,cR.seen (by rw[aC];exact .nil)⟩,.aK aU (Y T z b7 a2 bS _ λx b1 w b6 a7 aH S bf=>?_)⟩;refine vh (aY:=aY) (u:=j.i t (.inRegion all.toArray (bN::idx)::a')) S a7 λM bk=>?_;have ae:=S.rely bk;have X:=bf.trans bk.aH;have bU:=aH.mono bk.aH.ext S.len
      classical
      let ag:Mem:=λj r=>if U j then p.n j r else M.n j r;have bF:∀j,(p.own j∨∃L∈p.m,j∈L.V)->M.own j:=λj l=>by rw[X.own];exact l
      have ai:mE M {M with n:=ag}:=by
        refine⟨a,a,a,λj r w C=>?_,λj r w C=>?_⟩
        · grind
        grind
      refine .bY al.bT.ok ai ?_;have ak:∀j r w,ag j r=b w->M.n j r=b w:=ai.eQ;let K:aj:={M with n:=ag,m:=p.m++M.m,own:=p.own}
      have aw:∀j r w,p.n j r=b w->ag j r=b w:=λj r w C=>by
        by_cases v:U j
        · grind
        · simp only[ag,v,cr];exact X.mem j r w (bc j r w C)
      have an:∀j,j<p.a.heap.size->∀r,ag j r=p.n j r:=λj l r=>by
        by_cases v:U j
        · grind
        · simp only[ag,v,cr]
          rw[X.ba j l J r];grind
      have bT:c M.m=c (a6 x):=ae.len;have aL:ey h p (h++a6 x) K:=by
        refine⟨aw,λI U L ao bt=>⟨U,L,?_,?_,.refl _ _⟩⟩
        · grind
        grind
      have aq:p.a.heap.size<=M.a.heap.size:=X.size;have bJ:∀(I:Nat) (f:Loc),(p.m++M.m)[I]?=b f->(I<c p.m/\p.m[I]?=b f)∨(c p.m<=I/\M.m[I-c p.m]?=b f):=λI f A=>by grind
      have a1:aZ (h++a6 x) K:=by
        refine⟨λj r w C=>ae.mem j r w (ak j r w C),by simp[K,y.len,bT],?_,?_,?_,?_⟩
        · intro I U f ao af
          rcases bJ I f af with⟨az,g⟩|⟨ay,g⟩
          · rw[jE (by rw[<-y.len];exact az)]at ao
            exact(y.box I U f ao g).bU aL y.len λn v=>⟨X.aG n (.inr ⟨f,bZ g,v⟩),an n (y.lt f (bZ g) n v)⟩
          · rw[gK (by rw[<-y.len];exact ay),<-y.len]at ao
            have aQ:=ae.box _ U f ao g;rcases GR (a8 x) U (bZ ao)with⟨H,rfl⟩|rfl
            · obtain⟨bp,bm,bn,bo,bY⟩:=aQ
              refine⟨bp,bm,bn,bo,λn v r=>?_⟩;grind
            · trivial
        · intro I ba N Q aN aP n D bh
          rcases bJ I N aN with⟨az,g⟩|⟨ay,g⟩<;>rcases bJ ba Q aP with⟨bB,E⟩|⟨bw,E⟩
          · exact y.aL I ba N Q g E n D bh
          · exact absurd bh ((ae.own n (bF n (.inr ⟨N,bZ g,D⟩))).2 Q (bZ E))
          · exact absurd D ((ae.own n (bF n (.inr ⟨Q,bZ E,bh⟩))).2 N (bZ g))
          · have:=ae.aL _ _ N Q g E n D bh;omega
        · intro f af n v
          rcases fu.1 af with A|A
          · exact ej (y.lt f A n v) aq
          · exact ae.lt f A n v
        · intro n v
          refine⟨ej (y.own n v).1 aq,λf af=>?_⟩;rcases fu.1 af with A|A
          · exact(y.own n v).2 f A
          · exact(ae.own n (bF n (.inl v))).2 f A
      have aV:eg {M with n:=ag} K:=by refine⟨rfl,λ_ _ _ A=>A,λ_ _ _=>rfl,λj r w C=>ae.mem j r w (ak j r w C),λn v=>?_⟩;grind
      have bg:c6 h p (h++a6 x) K:=by
        refine⟨aq,λn v=>X.aG n (.inl v),aw,λn v _ r=>an n v r,λf af n v=>?_,aL.box,X.os,X.tape,X.output,a⟩;rcases fu.1 af with A|A
        · grind
        · rcases X.bp f A n v with g|⟨bP,g,_⟩
          · grind
          grind
      refine .aK aV ?_;have bI:=p1 (j:=j) (t:=t) (o:=a') all.toArray bN idx w;rw[a3]at bI;simp only[nC]at bI;rw[bI];exact bu x w K (RH (bO x) bU) a1 (ad.aH.trans bg)
def g.e8[q.bT]{t:Type}{o:Z}{O:Array Z}{n:Array ab}{y:ar}{f:e D}{a:e s}{d:t->s}{j:t->e Y}(K:bG q y a [] d j){x:e s}(E:nj all F r=i)(v:r.op=.call {callee:=.value o,args:=O,argTypes:=n})(M:g4 (bA F o)=b (y,f))(u:lP h (O.toList.map (bA F)++fm f) x){p:e Prop}(z:mf x (fA [] a)=b p)(C:V p)(I:gv 0 a=i)(A:∀l,v7 (d l)=i)(J:∀l,o4 (j l)=i)(N:eU B r.dst=i)(w:∀l,g q B a7 (.ar all bw::ax) .normal (fy r.dst (d l) F) (h++j l)):g q B a7 (.ar all (r::bw)::ax) .normal F h:=.jA (d'.e8 K E v M u z C I A J) N w
def g.ib[q.bT]{O:Array Z}{l:ar}(z:bG q l dg [] res a6)(o j:Nat){s:I}{n:Nat}(v:nj all F r=i)(e:r.op=.call {callee:=.value dC,args:=O,argTypes:=dK})(C:g4 (bA F dC)=b (l,cap))(A:(O.toList.map (bA F)++fm cap)[j]?=b (ce s))(d:sz h o s n p es)(t:mf ((O.toList.map (bA F)++fm cap).set j (aL (.M m n p es))) (fA [] dg)=b aB)(w:V aB)(x:gv 0 dg=i)(u:∀a,v7 (res a)=i)(y:∀a,o4 (a6 a)=i)(D:eU B r.dst=i)(f:∀a,g q B a7 (.ar all bw::ax) .normal (fy r.dst (res a) F) (h++a6 a)):g q B a7 (.ar all (r::bw)::ax) .normal F h:=
  g.e8 z v e C ((lP.refl _ _).step j o A d) t w x u y D f
end
section
variable {q:al P}{N:e dz}
def bG.iY{W:ar}{args:e s}{H:ι->I->(Nat->Option Obj)->Prop}{X:Nat}(v:bG q W args [] res (λj=>[.t,.Q (H j)]))(af:∀j K A,H j K A->K=.nilFunc)(Z:∀j,eZ [] (res j)=res j)(ax:∀j,g6 0 (res j)=i)(aq:gv 0 args=i)(ay:fA [] args=args):
  bG q W args [.Q (cg T X (.nil k) 0 [])] res (λj=>[.Q (H j)]):=by
 refine⟨v.1,λd z F r ag Q S=>?_⟩;have aJ:c d.m=1:=r.len;obtain⟨B,aB⟩:∃B,d.m=[B]:=by
  match G:d.m with
  |[C]=>grind
  |[]=>grind
  |_::_::_=>grind
 have Y:d.m[0]?=b B:=J;obtain⟨aC,O,ah,ai,ak⟩:=r.box 0 _ B rfl Y;obtain⟨aF,_,_,_,rfl⟩:=O;have aK:∀p,p∉B.V:=λp n=>by grind
 let N:aj:={d with m:=[]}
 have ae:eg d N:=⟨rfl,λ_ _ _ v=>v,λ_ _ _=>rfl,r.mem,λp n=>n.imp id λ⟨L,o,_⟩=>by grind⟩
 have aA:aZ [] N:=⟨r.mem,rfl,by simp,by grind,by grind,λp n=>⟨(r.own p n).1,by grind⟩⟩
 have al:bW [] N z args:=by rw[<-ay]at F;exact bW.sub (bb:=[]) (h:=[.Q (cg T X (.nil k) 0 [])]) (aO:=[]) (d:=d) (jz:=[]) a a F aq
 refine .aK ae (v.2 N z al aA ag Q λj R K au U t f l=>?_);have aG:c au.m=2:=f.len;obtain⟨C,x,aH⟩:∃C x,au.m=[C,x]:=by
  match G:au.m with
  |[C,x]=>grind
  |[]=>grind
  |[_]=>grind
  |_::_::_::_=>grind
 have ab:au.m[1]?=b x:=J;obtain⟨A,d1,d2,d3,d4⟩:=f.box 1 _ x rfl ab;have ao:=af j _ _ d1;let u:aj:={au with m:=[x]}
 have M:∀L∈u.m,L∈au.m:=λL o=>by grind
 have az:eg au u:=⟨rfl,λ_ _ _ v=>v,λ_ _ _=>rfl,f.mem,λp n=>n.imp id λ⟨L,o,n⟩=>⟨L,M L o,n⟩⟩
 have an:bo [.Q (H j)] u K (res j):=by rw[<-Z j]at t;have:=bo.sub (bb:=[]) (h:=[.t,.Q (H j)]) (aO:=[]) (d:=au) (jz:=[]) a a t (ax j);exact this.mono (h:=[]) (d:={au with m:=[]}) (aO:=[.Q (H j)]) (au:=u) ⟨λ_ _ _ v=>v,λw x L ao=>by grind⟩ rfl
 refine .aK az (S j R K u (U.mono λ_ _ _ v=>v) an ⟨f.mem,a,λw D L g o=>?_,λw V D s y E p n aE=>?_,λL o p n=>f.lt L (M L o) p n,λp n=>⟨(f.own p n).1,λL o=>(f.own p n).2 L (M L o)⟩⟩
  ⟨l.size,l.aG,l.mem,λp n _ aw=>l.ba p n J aw,λL o p n=>?_,λw D L g o=>?_,l.os,l.tape,l.output,l.own⟩)
 .match w,g,o with
  |0,g,o=>cases g;cases o;exact⟨A,d1,d2,d3,d4⟩
  |w+1,g,_=>grind
 .match w,V,y,E with
  |0,0,_,_=>rfl
  |w+1,_,y,_=>grind
  |_,w+1,_,E=>grind
 .rcases l.bp L (M L o) p n with y|⟨ad,y,_⟩
  .grind
  grind
 .match w,g,o with
  |0,g,o=>
   cases g;rw[Y]at o;cases o;exact⟨_,x,a,a,by show x.v=B.v;grind⟩
  |w+1,g,_=>grind
def g.jG(w v W:Nat){ay:Mem->Prop}{dS:ab}{R:Nat}{o:e C}{M r:D}(aA:w≠v)(A:cH w h=b (.Q (ea ay)))(O:cH v h=b (.cells dS o))(ah:cH W o=b (.c M))(aO:∀az b0,ay az->pt az b0->∀l,Rd b0 l M->Rd b0 l r)(an:g q B a7 (.code u::N) .normal F ((h.set w (.Q (cg T R (.nil k) 0 []))).set v (.cells dS (o.set W (.c r))))):g q B a7 (.code u::N) .normal F h:=by
 refine g.aK (λp aY aq bc=>?_) an;have A:=dL A;have O:=dL O;have ag:=dL ah;have aG:w<c p.m:=fk;have Y:=bu aG;generalize p.m[w]=L at Y;obtain⟨y,⟨E,ad,ae⟩,aN,aP,af⟩:=bc.box w _ L A Y;let b0:Mem:=λd f=>(p.n d f).or (fo y d f);have aT:∀d f l,fo y d f=b l->d∈L.V/\p.a.cell? ⟨d,f,k⟩=b l:=λd f l t=>by
  cases n:y d with
  |none=>simp[fo,n]at t
  |some aV=>
   obtain⟨o,T,rfl⟩:=ad d aV n;have al:=aN d _ n;simp only[fo,n]at t;exact⟨(aP d).2 hc,by simpa[aJ,al]using t⟩
 have ao:∀d f l,p.n d f=b l->b0 d f=b l:=λd f l t=>by grind
 have aK:∀d,d∉L.V->∀f,b0 d f=p.n d f:=λd U f=>by
  cases n:fo y d f with
  |none=>grind
  |some l=>grind
 have aL:∀d f l,b0 d f=b l->p.a.cell? ⟨d,f,k⟩=b l:=λd f l t=>by
  cases n:p.n d f with
  |some aU=>simp only[b0,n,Option.some_or]at t;cases t;exact bc.mem d f l n
  |none=>grind
 have ar:=aO _ b0 ae λd f l t=>by have:=af d (aT d f l t).1 f;simp[b0,this,t]
 obtain⟨I,S⟩:=bc.bQ (b0:=b0) (a5:=p.a) (dN:=.Q (cg T R (.nil k) 0 [])) (b7:=⟨.nilFunc,[]⟩) A Y E.symm (bE _) (λ_ _ _=>rfl) (λd _ U f=>aK d U f) ao aL Q rfl rfl rfl
  ⟨λ_=>k,⟨rfl,by simp,by simp,rfl,rfl⟩,by simp,by simp,by simp⟩
 have au:(h.set w (.Q (cg T R (.nil k) 0 [])))[v]?=b (.cells dS o):=J;generalize aB:(⟨p.m.set w ⟨.nilFunc,[]⟩,b0,p.a,p.own⟩:aj)=j at I S;have s:v<c j.m:=by rw[I.len];grind
 have V:=bu s;generalize j.m[v]=x at V;obtain⟨d,z,aH,aR,ax,aM⟩:=I.box v _ x au V;obtain⟨X,ak,ai⟩:=ax.get ag;have aC:j.n=b0:=J;have G:j.m.set v x=j.m:=kT
 obtain⟨aw,t2⟩:=I.bQ (b0:=j.n) (a5:=j.a) (dN:=.cells dS (o.set W (.c r))) (b7:=x) au V rfl (bE _) (λ_ _ _=>rfl) (λ_ _ _ _=>rfl) (λ_ _ _ n=>n) I.mem (λd U=>⟨.inl U,I.lt x (bZ V) d U⟩) rfl rfl rfl (by
   rw[G];have Z:ey (h.set w (.Q (cg T R (.nil k) 0 []))) j ((h.set w (.Q (cg T R (.nil k) 0 []))).set v (.cells dS (o.set W (.c r)))) j:=by
    refine⟨λ_ _ _ n=>n,λaS aF L aE H=>?_⟩;by_cases aQ:v=aS
    .subst aQ;rw[au]at aE;cases aE;exact⟨_,L,hN J,H,a⟩
    exact⟨aF,L,by grind,H,.refl _ _⟩
   refine⟨d,z,aH,aR,bJ.set (ax.mono Z I.len) ak ?_,aM⟩;show Rd j.n X r;rw[aC];exact ar X (aC▸ai))
 have K:=S.trans t2;exact⟨_,by grind,⟨aq.size,aq.defers.imp λ_ E=>E.mono K.ext,λX=>(aq.aC X).mono K.ext bc.len⟩,aw,K⟩
def g.eA(f d p:Nat){s:Mem->Prop}{dS:ab}{o:Nat}{a:e C}{oK:D}(v:f≠d)(n:cH f h=b (.Q (ea s)))(j:cH d h=b (.cells dS a))(l:cH p a=b (.c (.val ai)))(w:∀t,s t->Rd t ai oK)(r:g q B a7 (.code u::N) .normal F ((h.set f (.Q (cg T o (.nil k) 0 []))).set d (.cells dS (a.set p (.c oK))))):g q B a7 (.code u::N) .normal F h:=
 g.jG f d p v n j l (λ_ _ x le _ y=>by rw[Rd.aM y];exact(w _ x).mono le) r
end
section
variable {q:al P}{N:e dz}
def g.jJ(o l y:Nat)(t:I->Mem->Prop)(aH:∀ao aG,t (.slice ao 0 0) aG){dS:ab}{aS an:Nat}{j:e C}{s:Nat->e D}(aw:o≠l)(r:cH o h=b (.Q (cg T aS (.nil k) 0 [])))(v:cH l h=b (.cells dS j))(ae:cH y j=b (.c (.M i an 0 s)))(ag:∀x,g q B a7 (.code u::N) .normal F ((h.set o (.Q (ea (t x)))).set l (.cells dS (j.set y (.c (.val x)))))):g q B a7 (.code u::N) .normal F h:=by
 refine bX.dQ (ι:=I) (c':=λ_=>F) (aO:=λx=>(h.set o (.Q (ea (t x)))).set l (.cells dS (j.set y (.c (.val x))))) (λp ao aq bc=>?_) ag;have r:=dL r;have v:=dL v;have Y:=dL ae;have aR:l<c p.m:=fk;have az:=bu aR;generalize p.m[l]=n at az;obtain⟨aN,aA,au,a0,G,_⟩:=bc.box l _ n v az;obtain⟨x,ay,aJ⟩:=G.get Y;obtain⟨d,ar,aB,rfl,aT,aU,ai,_,_⟩:=(show Rd p.n x (.M i an 0 s)from aJ).bx;obtain rfl:=ai rfl;have Z:=aH d;have aZ:o<c p.m:=fk;have Q:=bu aZ;generalize p.m[o]=L at Q;obtain⟨R,af,V,W,X⟩:=bc.box o _ L r Q;obtain⟨A,M⟩:=bc.bQ (b0:=p.n) (a5:=p.a) (dN:=.Q (ea (t (.slice d 0 0)))) (b7:=L) r Q rfl (bE _) (λ_ _ _=>rfl) (λ_ _ _ _=>rfl) (λ_ _ _ K=>K) bc.mem (λE O=>⟨.inl O,bc.lt L (bZ Q) E O⟩) rfl rfl rfl
  ⟨R,ea.start Z _ _ af,V,W,X⟩
 have ah:(h.set o (.Q (ea (t (.slice d 0 0)))))[l]?=b (.cells dS j):=J;generalize ax:(⟨p.m.set o L,p.n,p.a,p.own⟩:aj)=f at A M;have a1:l<c f.m:=J;have ak:f.m[l]?=b n:=J;obtain⟨E,z,aL,aQ,aK,ad⟩:=A.box l _ n ah ak;have aF:f.m.set l n=f.m:=kT;have aM:z[y]?=b (.slice d 0 0):=J
 obtain⟨al,t2⟩:=A.bQ (b0:=f.n) (a5:=f.a) (dN:=.cells dS (j.set y (.c (.val (.slice d 0 0))))) (b7:=n) ah ak rfl (bE _) (λ_ _ _=>rfl) (λ_ _ _ _=>rfl) (λ_ _ _ K=>K) A.mem (λE O=>⟨.inl O,A.lt n (bZ ak) E O⟩) rfl rfl rfl (by
   rw[aF];have S:ey (h.set o (.Q (ea (t (.slice d 0 0))))) f ((h.set o (.Q (ea (t (.slice d 0 0))))).set l (.cells dS (j.set y (.c (.val (.slice d 0 0)))))) f:=by
    refine⟨λ_ _ _ K=>K,λaV aE L aC H=>?_⟩;by_cases aP:l=aV
    .subst aP;rw[ah]at aC;cases aC;exact⟨_,L,hN J,H,a⟩
    exact⟨aE,L,by grind,H,.refl _ _⟩
   exact⟨E,z,aL,aQ,bJ.set (aK.mono S A.len) aM (Rd.val a),ad⟩)
 have w:=M.trans t2;exact⟨.slice d 0 0,_,by grind,⟨aq.size,aq.defers.imp λ_ U=>U.mono w.ext,λaY=>(aq.aC aY).mono w.ext bc.len⟩,al,w⟩
def g.jI(n f s:Nat){dS:ab}{z y:Nat}{d:e C}{j:Nat->e D}(k1:Nat)(mX:Nat->e D)(w:n≠f)(r:cH n h=b (.Q (cg T z (.nil k) 0 [])))(a:cH f h=b (.cells dS d))(p:cH s d=b (.c (.M i y 0 j)))(t:∀o,g q B a7 (.code u::N) .normal F ((h.set n (.Q (ea λl=>Rd l o (.M m k1 0 mX)))).set f (.cells dS (d.set s (.c (.val o)))))):g q B a7 (.code u::N) .normal F h:=
 g.jJ n f s (λo l=>Rd l o (.M m k1 0 mX)) (λA l=>.M 0 0 (λ_ _=>E) (bE _) x (λv=>by cases v) (λf a=>by omega) (λv=>by omega) (λf a=>by omega) λf a=>by omega) w r a p t
end
section
variable {q:al P}{A:Option ι->Nat->s}{d:Option ι->Bool->Bool->Bool->e Y}{a2 f1 f2 f3:Nat}
def eR.pre(v:aa a2 f1=m)(j:aa f2 f1=m)(x:aa f3 f1=m)(g:d9 all a2 f1=i)(l:d9 all f3 f1=i)(t:∀f,a0 q B all r (dr all F (A k) f1) (d k m f m) (A k f1) (d k i f m)):eR q B all F A (lT d f1 f2 f3) (lO ι a2) f1 r:=by
 refine eR.of λh s w aG e=>?_;have n:=e a2 (.inr g);have p:=e f3 (.inr l);have o:=e f1 (.inl a);cases h with
 |some u=>grind
 |none=>grind[lJ,uv]
def eR.iE(n:aa f1 a2=m)(o:aa f2 a2=m)(C:aa f3 a2=m)(l:d9 all a2 f1=i)(p:d9 all f3 a2=i)(x:∀e g,g=a2∨d9 all g a2=i∨A (b e) g=A k g)(w:∀j,d' q B all r (dr all F (A k) a2) (d k i j m) (λe=>A (b e) a2) (λe=>d (b e) i j m)):eR q B all F A (lT d f1 f2 f3) (lO ι a2) a2 r:=by
 refine eR.jy λh s z aG f=>?_;have t:=f a2 (.inl a);have u:=aG f1 l;have v:=f f3 (.inr p);have y:h=k:=by
  cases h with
  |none=>rfl
  |some e=>grind
 grind[uv,lJ]
def eR.last(g:aa a2 f3=m)(e:aa f1 f3=m)(f:aa f2 f3=m)(j:d9 all f3 a2=i)(l:d9 all f3 f1=i)(h:d9 all f3 f2=i)(n:∀a,a0 q B all r (dr all F (A (b a)) f3) (d (b a) i i m) (A (b a) f3) (d (b a) i i i)):eR q B all F A (lT d f1 f2 f3) (lO ι a2) f3 r:=.iz g e f j l h n
end
theorem Rd.d_{y:Bool}{t:Nat}(x:Rd bi ai (.M y t p es)):∃l a n d,ai=.slice l p a/\p<=a/\a<=9223372036854775807/\(0<p->l=b ⟨n,d,k⟩)/\(∀e,e<p->c (es e)=t)/\∀e,e<p->∀j f,(es e)[j]?=b f->∃u,bi n (d+e*t+j)=b u/\Rd bi u f:=by
 cases x with
 |@M l _ a _ _ _ n d z v w A q o r s=>exact⟨l,a,n,d,rfl,v,w,o,q,λe g j f h=>⟨_,r e g j f h,s e g j f h⟩⟩
def Rd.fv{q:Option Addr}{a g:Nat}(h:p<=a)(l:a<=9223372036854775807)(t:0<p->q=b ⟨j,off,k⟩)(s:∀d,d<p->c (es d)=g)(v:∀d,d<p->∀e f,(es d)[e]?=b f->∃r,bi j (off+d*g+e)=b r/\Rd bi r f):Rd bi (.slice q p a) (.M m g p es):=by refine .M j off (λd e=>(bi j (off+d*g+e)).getD E) h l (λu=>by cases u) s t (λd n e f o=>J) λd n e f o=>?_;grind
section
variable {q:al P}{N:e dz}
def g.i'{p:e dz}(d:ι->bd)(f:ι->e Y)(r:(∀(a:ι)(o:bd)(j:e Prop),hF o (d a)=b j->V j->g q B a7 (.code u::p) .normal o (f a))->g q B a7 ax .normal F h)(s:∀a,g q B a7 (.code u::p) .normal (d a) (f a)):g q B a7 ax .normal F h:=
 r λa _ _ l n=>bX.le (s a) (et l n)
def lP.agg{d:e s}(g B O:Nat){a:e C}{t:I}{A:Nat}(G:d[g]?=b (.k (.agg a)))(M:a[B]?=b (.c (.val t)))(l:sz h O t A p es):lP h d (d.set g (.k (.agg (a.set B (.c (.M m A p es)))))):=by
 intro r z f n;obtain⟨L,q,o,F,V,W,Q,H⟩:=l r f;refine⟨λv=>v∈L.V,q,λv X=>⟨L,bZ o,X⟩,F,V,W,Q,?_⟩;have j:ey h r h {r with n:=q}:=⟨F,λY K L ao o=>⟨K,L,ao,o,.refl _ _⟩⟩
 have E:=n.mono j f.len;obtain⟨D,T⟩:=bW.get E;have w:g<c z:=J;have y:=T g;rw[G,bu w]at y;obtain⟨N,S,x⟩:=y;obtain⟨U,u,R⟩:=x.get M;rw[Rd.aM (show Rd q U (.val t)from R)]at u;refine bW.gn E (bu w) ⟨N,S,bJ.set x u H⟩
theorem ea.of{d:Mem->Prop}{U:Prop}(a:h[l]?=b (.Q (ea d)))(o:∀f,d f->U)(e:aj)(bc:aZ h e):U:=by have g:l<c e.m:=fk;obtain⟨j,⟨_,_,n⟩,_⟩:=bc.box l _ _ a (bu g);grind
def d_.jl(aG:bT P ag)(l:Nat){E:Z}{u:Mem->Prop}{O:bh}(n:r.op=.load w E)(y:bY ag w=b O)(V:∀o,gl O [.c (.val o)]=b (.S (.c (.val o))))(af:bA F E=ce (.pointer (b ⟨j,off,k⟩)))(A:h[l]?=b (.Q (ea u)))(aq:∀f,u f->∃e,f j off=b e/\dx e=i):d_ P B r F h (λe:I=>ce e) (λe=>h.set l (.Q (ea λf=>u f/\f j off=b e))):=by
 intro d ai ae bc;have bk:=eO ae E;rw[af]at bk;have bk:=Rd.aM bk;have aj:l<c d.m:=fk;have Q:=bu aj;generalize d.m[l]=L at Q;obtain⟨q,⟨S,x,H⟩,U,G,ar⟩:=bc.box l _ L A Q;obtain⟨e,C,ah⟩:=aq _ H;obtain⟨aY,K,D,ab⟩:∃aY K,q j=b (.cells aY K (0,0))/\aY[off]?=b e:=by
  cases R:q j with
  |none=>simp[fo,R]at C
  |some E=>
   obtain⟨aY,K,rfl⟩:=x j E R;exact⟨aY,K,a,by simpa[fo,R]using C⟩
 have ao:j∈L.V:=(G j).2 J;have ak:=U j _ D;obtain⟨T,t2⟩:=bc.br (l:=l) (fN:=ea λf=>u f/\f j off=b e) (b7:=L) (a5:=d.a) A Q rfl (bE _) (λ_ _ _=>rfl) (λ_ ad=>.inl ad) ⟨q,⟨S,x,H,C⟩,U,G⟩ rfl rfl rfl;have X:∀(t:Nat) (o:I),[e][t]?=b o->d.a.cell? ⟨j,off+t,k⟩=b o:=by
  intro t o g
  match t,g with
  |0,g=>cases g;simp[aJ,ak,ab]
 obtain⟨o,N,an⟩:=qh (d:=⟨d.m.set l L,d.n,d.a,d.own⟩) (h:=h.set l (.Q (ea λf=>u f/\f j off=b e))) (P:=P) (aG w O y) (j:=j) (off:=off) (z:=[e]) (aY:=[.c (.val e)]) X ⟨Rd.val ah,M⟩ (V e);have N:(loadVar w ⟨j,off,k⟩).run P d.a=.ok o d.a:=N;have v:W ai.eval r=(do pure (.value (<-loadVar w ⟨j,off,k⟩))):=LF;refine⟨e,.value o,_,o,by rw[v];simp[N],.inl a,an,T,t2,λs Y=>?_⟩;rw[v]at Y;have al:s∈(loadVar w ⟨j,off,k⟩).events P d.a #[]:=by simpa[N]using Y
 obtain⟨t,g,rfl⟩:=mY (aG w O y) (p:=1) (λt g=>⟨e,X t e J⟩) (by have:=pe (V e);grind) s al;exact nM (bZ Q) ao
def Mem.up(e:Mem)(f g:Nat)(h:I):Mem:=λd a=>if d=f/\a=g then b h else e d a
def d_.hJ(aG:bT P ag)(l:Nat){A q:Z}{Y:Mem->Prop}{y:D}{U:bh}(ad:r.op=.store w A q)(S:bY ag w=b U)(aP:U.size=1)(aw:bA F A=ce (.pointer (b ⟨j,off,k⟩)))(ax:bA F q=aL y)(ao:lm y=i)(T:h[l]?=b (.Q (ea Y)))(an:∀n,Y n->∃aA,n j off=b aA):d_ P B r F h (ι:={f:I // ∀n,Rd n f y}) (λ_=>.any) (λf=>h.set l (.Q (ea λv=>∃n,Y n/\v=n.up j off f.1))):=by
 intro p x R bc;have K:=eO R A;rw[aw]at K;have K:=Rd.aM K;have X:=q1 (show kA (bA F q)=b [.c y] by rw[ax];rfl) (eO R q);generalize aF:(x.eval q).cells.toList=z at X;obtain⟨f,rfl⟩:∃f,z=[f]:=by
  match z,X with
  |[f],_=>grind
  |_::_::_,ad=>exact ad.2.elim
 have au:Rd p.n f y:=X.1;have aY:∀n,Rd n f y:=λn=>rq ao au;have aS:l<c p.m:=fk;have ab:=bu aS;generalize p.m[l]=L at ab;obtain⟨o,⟨ah,ai,O⟩,aj,ak,al⟩:=bc.box l _ L T ab;obtain⟨aA,aM⟩:=an _ O;obtain⟨d,t,aJ,aN⟩:∃d t,o j=b (.cells d t (0,0))/\d[off]?=b aA:=by
  cases u:o j with
  |none=>simp[fo,u]at aM
  |some A=>
   obtain⟨d,t,rfl⟩:=ai j A u;exact⟨d,t,a,by simpa[fo,u]using aM⟩
 have C:j∈L.V:=(ak j).2 J;have ay:=aj j _ aJ;have aQ:off<d.size:=J;have aB:=run_storeCells_at P j off t [f] 0 d p.a ay (show off+0+1<=d.size from aQ) X.cell;simp only[iK,iE]at aB;have G:=setRow_heap p.a j d (d.toList.take off++[f]++d.toList.drop (off+1)).toArray t (0,0) ay;generalize s:(d.toList.take off++[f]++d.toList.drop (off+1)).toArray=g at aB G;have aV:∀V,g[V]?=if V=off then b f else d[V]?:=λV=>by rw[<-s];grind
 have aq:∀e H,fo (λe=>if e=j then b (.cells g t (0,0))else o e) e H=(fo o).up j off f e H:=λe H=>by
  by_cases u:e=j
  .subst u;simp only[fo,cN,Mem.up,bn,aJ,aV]
  simp only[fo,bp u,Mem.up,u,false_and,cr]
 obtain⟨az,t2⟩:=bc.br (l:=l) (fN:=ea λv=>∃n,Y n/\v=n.up j off f) (b7:=L) (a5:=p.a.setRow j g) T ab rfl Q
  (λe ae ar=>setRow_other p.a j e _ (λu=>ar J)) (λe ae=>.inl ae)
  ⟨λe=>if e=j then b (.cells g t (0,0))else o e,⟨ah,λe r ae=>by grind,_,O,funext λe=>funext λH=>aq e H⟩,λe r ae=>by grind[setRow_other],λe=>by grind⟩ a a a
 have aC:(x.eval q).cells.size=U.size:=J;have af:W x.eval r=(do storeVar w ⟨j,off,k⟩ (x.eval q);pure .skip):=by simp[W,ad,K,Instr.storeAt,aU]
 refine⟨⟨f,aY⟩,.skip,_,E,?_,.inr ⟨a,a⟩,M,az,t2,?_⟩
 .simp[W,ad,K,Instr.storeAt,aU,storeVar,(aG w U S).aU,aC,aF,aB]
 intro aK N;rw[af]at N;have aR:aK∈(storeCells ⟨j,off,k⟩ (x.eval q).cells.toList).events P p.a #[]:=by
  simp only[storeVar,aE,(aG w U S).aU,aC,aH,events_sizeOf,e3,gD,cr,cn,cM,aT]at N;generalize(storeCells ⟨j,off,k⟩ (x.eval q).cells.toList).run P p.a=aZ at N;cases aZ with
  |ok a0 a5=>simpa using N
  |halt A a5=>simpa using N
 rw[aF]at aR;rcases li [f] 0 d p.a #[] ay (show off+0+1<=d.size from aQ) X.cell aK aR with aO|⟨V,_,_,rfl⟩
 .grind
 exact l' (bZ ab) C (al j C _)
end
section
variable {q:al P}
def MK{j:az}{o:e Item}{t:Act}{g:e Nat}{V:ar}(M:j.kind≠.early)(A:aP[f]?=b r)(Q:aS r (yielded aP t.tmps)=i)(w:aZ h d)(X:∀l,aZ h l->(W t.eval r).run P l.a=.ok (.enter V z.toArray) l.a/\cR l ((W t.eval r).events P l.a #[]))(aq:bG q V dg dq res a6)(ay:bW h d z (fA bb dg))(al:gv (c bb) dg=i)(E:dj bb h=b dq)(O:d8 dq=i)(ad:∀n,d8 (a6 n)=i)(y:eX bb=i)(x:∀n,c bb<=c (a6 n))(J:∀n B au,bo (cZ bb (a6 n) h) au B (eZ (bb++gk (c h) (c (a6 n)-c bb)) (res n))->aZ (cZ bb (a6 n) h) au->c6 h d (cZ bb (a6 n) h) au->cf q bg (G (j.i (t.put r.dst B) (.inRegion aP g::o)) aY) au):
  cf q bg (G (j.i t (.inRegion aP (f::g)::o)) aY) d:=by obtain⟨_,aC⟩:=aq;refine .next a λl an=>?_;have I:=q.bt an;have p:=w.rely I;obtain⟨s,T⟩:=ue (iT:=l.m) E p.len;obtain⟨H,v⟩:=p.sub E T O y;have ax:bW h l z (fA bb dg):=ay.mono I.aH.ext w.len;have ab:bW dq {l with m:=s,own:=mn l s} z dg:=(ax.sub (d:=l) E T al).mono (h:=dq) (d:={l with m:=s}) (aO:=dq) (au:={l with m:=s,own:=mn l s}) ⟨λ_ _ _ J=>J,λaF Y L ao K=>⟨Y,L,ao,K,.refl _ _⟩⟩ H.len;refine⟨_,l,_,uf A Q M (X l p).1,⟨⟨h,h,p,p,.refl _ _⟩,cR.seen (X l p).2⟩,.aK v (aC _ z ab H bg _ λn aw B aA N Z R ai=>?_)⟩;refine vh (aY:=aY) (u:=j.i t (.inRegion aP (f::g)::o)) R N λaB U=>?_;have D:=R.rely U;have C:=ai.trans U.aH;obtain⟨S,ag,ae,ak,af,ah,aj,aE⟩:=frame p E T y (ad n) D C (x n) (Z.mono U.aH.ext R.len);refine .aK (eg.cR p D C ag ah aj aE) ?_;have F:=p1 (j:=j) (t:=t) (o:=o) aP f g B;rw[A]at F;simp only[nC]at F;rw[F];exact J n B S ae ak (I.aH.trans af)
def dY.cell(aG:bT P ag){o l e:Nat}{y:ab}{a:I}{n:bh}(s:cH o h=b (.Q (dY e y a)))(f:bY ag l=b n)(x:dx a=i)(v:gl n [.c (.val a)]=b (.S (.c (.val a)))){d:aj}(bc:aZ h d):
  (loadVar l ⟨e,0,k⟩).run P d.a=.ok a d.a/\cR d ((loadVar l ⟨e,0,k⟩).events P d.a #[]):=by
 have ao:=dL s;have E:o<c d.m:=fk;have q:=bu E;generalize d.m[o]=L at q;obtain⟨B,⟨K,r,U⟩,R,S,D⟩:=bc.box o _ L ao q;have u:=R e _ r;have C:e∈L.V:=(S e).2 J
 have O:bJ h d [a] [.c (.val a)]:=⟨Rd.val x,M⟩;obtain⟨w,F,A⟩:=qh (d:=d) (h:=h) (P:=P) (aG l n f) (j:=e) (off:=0) (z:=[a]) (aY:=[.c (.val a)]) (ak:=.S (.c (.val a))) (λt V g=>by
  simp only[aJ,u]
  grind) O v
 have T:w=a:=Rd.aM A;subst T;refine⟨F,λQ N=>?_⟩;obtain⟨t,g,rfl⟩:=mY (aG l n f) (p:=1) (λt g=>⟨w,by simp only[aJ,u];grind⟩) (by have:=pe v;grind) Q N;exact nM (bZ q) C
def a0.ej(aG:bT P ag){u f:Nat}(J:Nat){v:Z}{x:bh}(K:nj all F r=i)(p:r.op=.load u v)(N:bA F v=aL (.val (.pointer (b ⟨f,0,k⟩))))(o:cH J h=b (.Q (dY f T ai)))(n:bY ag u=b x)(A:dx ai=i)(M:gl x [.c (.val ai)]=b (.S (.c (.val ai)))):
  a0 q B all r F h (aL (.val ai)) h:=by
 intro V C w l Q S D O U t j s g;refine pP j s (jY K _ _ _ w) λz y=>?_;have d:=l.rely y;have e:=eO w v;rw[N]at e;have e:=Rd.aM (b2 e);obtain⟨E,I⟩:=dY.cell aG o n A M d;have R:W C.eval r=(do pure (.value (<-loadVar u ⟨f,0,k⟩))):=by simp[W,p,e,Instr.loadAt,aU]
 refine⟨.value ai,z,ai,by simp_all,.inl a,⟨⟨h,h,d,d,.refl _ _⟩,?_⟩,g ai z (Rd.val A) d y.aH⟩;simp_all
def IY(d:ab)(a:Addr)(e:String):Builtin.ssaWrapNilChk_ #[d] d #[.pointer (b a),strVal "",strVal e]=pure (.pointer (b a)):=rfl
def mC(P:aw)(h:e Y)(d:ab)(g:I)(name:String)(j:ar)(l:I):Prop:=∀a,aZ h a->∀f,(Go.method (f+1) d g name).run P a.a=.ok (j,l) a.a/\cR a ((Go.method (f+1) d g name).events P a.a #[])
def mC.ptr{f:ab}{name:String}{l:ar}{o:TypeInfo}{j:Go.Method}{s:ab}(n:P.info? f=b o)(q:o.methods.find? (·.name==name)=b j)(p:j.path=#[])(r:j.func=b (l,i))(t:P.underlying f=b (.pointer s)):mC P h f ai name l ai:=by
 intro v u w;have g:∀e,(typeInfo f).run P e=.ok o e:=λe=>by simp[typeInfo,n]
 have d:∀e,(underlying f).run P e=.ok (.pointer s) e:=λe=>by simp[underlying,t]
 unfold Go.method;constructor
 .simp only[cn,g,q,p,r,cM,follow,dv,receiverAt,d];rfl
 have:∀a,((do pure (l,<-receiverAt f (.val ai) i (if j.path.isEmpty then b ((name.splitOn ".").getLastD name)else k))):Sem (ar×I)).events P v.a a=a:=λa=>by simp[receiverAt,d,Place.get]
 simp only[aE,cn,g,q,p,r,cM,aH,follow,dv,aT,receiverAt,d,events_typeInfo,events_underlying,Place.get];exact .nil
def mC.deref(aG:bT P ag){t:Nat}{d:ab}{name:String}{s:ar}{p:TypeInfo}{g:Go.Method}{x:bh}(n:P.info? d=b p)(u:p.methods.find? (·.name==name)=b g)(r:g.path=#[])(v:g.func=b (s,m))(D:P.underlying d=b (.pointer w))(o:cH l h=b (.Q (dY t T ai)))(z:bY ag w=b x)(E:dx ai=i)(C:gl x [.c (.val ai)]=b (.S (.c (.val ai)))):mC P h d (.pointer (b ⟨t,0,k⟩)) name s ai:=by
 intro I j F;have e:∀a,(typeInfo d).run P a=.ok p a:=λa=>by simp[typeInfo,n]
 have f:∀a,(underlying d).run P a=.ok (.pointer w) a:=λa=>by simp[underlying,D]
 obtain⟨y,A⟩:=dY.cell aG o z E C j;have K:g.path.isEmpty=i:=J;unfold Go.method;constructor
 .simp only[cn,e,u,r,v,cM,follow,dv,receiverAt,f,Place.get];simp[IY,asAddr,y]
 intro B q;refine A B ?_;simp only[aE,cn,e,u,r,v,cM,aH,follow,dv,aT,receiverAt,f,events_typeInfo,events_underlying,Place.get]at q;simpa[IY,asAddr,y]using q
def zU{a:Z->I}{g:Z}{d:Array Z}{name:String}(h:r.op=.call {callee:=.invoke g name,args:=d,argTypes:=dK}){e:ab}{f:I}(o:a g=.iface e f):
  W a r=callMethod (.iface e f) name (d.toList.map a).toArray:=by
 have j:#[a g]++d.map a=(.iface e f::d.toList.map a).toArray:=J;have l:(Value.iface e f::d.toList.map a).toArray.extract 1 (Value.iface e f::d.toList.map a).toArray.size=(d.toList.map a).toArray:=J;have n:W a r=invoke (.fn (.method name) #[]) (#[a g]++d.map a):=by simp only[W,h];rfl
 rw[n,j];show callMethod (.iface e f) name ((Value.iface e f::d.toList.map a).toArray.extract 1 (Value.iface e f::d.toList.map a).toArray.size)=_;rw[l]
def g.cV{ay:ab}{name:String}{aC:ar}{aH A:I}(C:bG q aC dg dq res a6)(bb:e Nat)(Y:mC P h ay aH name aC A)(G:nj all F r=i){M:Z}{u:Array Z}(y:r.op=.call {callee:=.invoke M name,args:=u,argTypes:=dK})(ah:bA F M=aL (.bR ay (.val aH)))(af:dx A=i)(aS:j' (aL (.val A)::u.toList.map (bA F))=fA bb dg)(aK:gv (c bb) dg=i)(aM:dj bb h=b dq)(ae:d8 dq=i)(H:∀j,d8 (a6 j)=i)(ad:eX bb=i)(aq:∀j,aD (c bb) (c (a6 j))=i)(W:eU B r.dst=i)(aR:∀j,g q B a7 (.ar all bw::ax) .normal (fy r.dst (eZ (bb++gk (c h) (c (a6 j)-c bb)) (res j)) F) (cZ bb (a6 j) h)):g q B a7 (.ar all (r::bw)::ax) .normal F h:=by
 intro d O t n aO ai v aN idx w f X;cases idx with
 |nil=>exact f.elim
 |cons a2 idx=>
 have K:=eO t M;rw[ah]at K;have K:=b2 K;generalize aA:O.eval M=aY at K;cases K with
 |@bR _ aV _ T aQ=>
  have ag:=Rd.aM T;subst ag;obtain⟨fn,au,a1,a0⟩:=C.1;have aE:fn.name≠ "runtime.NumGoroutine":=J;have aB:fn.body≠k:=J;obtain⟨ak,D⟩:∃ak,P.types.size+Made.depth=ak+1:=⟨P.types.size+Made.depth-1,by exact cF⟩
  have aF:∀s,(program:Sem aw).run P s=.ok P s:=λs=>by simp
  have aZ:∀s l,(program:Sem aw).events P s l=l:=λs l=>by simp
  have aP:bW h d (A::u.toList.map O.eval) (fA bb dg):=by rw[<-aS];exact tc (h:=h) (d:=d) ⟨Rd.val af,nq (eO t) u.toList⟩
  refine MK (bb:=bb) w f.1 (jY G _ _ _ t) n (z:=A::u.toList.map O.eval) (λan L=>?_) C aP aK aM ae H ad (λj=>e' (aq j)) λj aY al o x p=>?_
  .obtain⟨az,aj⟩:=Y an L ak;constructor
   .rw[zU y aA];simp[callMethod,aF,D,az,callFunc,au,aE,aB]
   intro R aG;refine aj R ?_;rw[zU y aA]at aG;simpa[callMethod,aF,aZ,D,az,callFunc,au,aE,aB]using aG
  refine aR j al _ ?_ x aO ai v aN idx w f.2 λaJ N ao Q aT S U E=>X aJ N ao Q aT S U (p.trans E);cases a:r.dst with
  |none=>exact t.mono p n.len
  |some aU=>exact(t.mono p n.len).put (kE W aU a) o
def aR.du{d:Z}(g:r.op=.nilCheck d){j:Addr}(n:η d=aL (.val (.pointer (b j)))):aR P r η h (aL (.val (.pointer (b j)))) h:=by refine .aS λp l o e=>?_;have a:=e d;rw[n]at a;have f:=Rd.aM (b2 a);exact⟨l d,by simp[W,g,f],a,by simp[W,g,f]⟩
def aR.eR(aG:bT P ag){F:Z}(aj:r.op=.load w F){q ac u:Nat}{D:bh}{ak:E1}(B:η F=aL (.val (.pointer (b ⟨j,off,k⟩))))(ay:off=f*u+ac)(z:h[l]?=b (.Q (cg T u (.row j q) p O)))(ae:fM u p es O)(t:bY ag w=b D)(N:gl D ((fv ac (es f)).map C.c)=b ak)(ad:f<p):aR P r η h (.k ak) h:=by
 refine .di λd a bc A=>?_;have v:=A F;rw[B]at v;have v:=Rd.aM (b2 v);have an:l<c d.m:=fk;have x:=bu an;generalize d.m[l]=L at x;obtain⟨ah,y,ai,G,R⟩:=bc.box l _ L z x;obtain⟨ax,az,aw,aq⟩:=cg.lookup y;have ab:j∈L.V:=(G j).2 J;have au:=ai j _ aw;let X:Nat->I:=λe=>O.getD (f*u+e) E;have K:∀e n,(fv ac (es f))[e]?=b n->O[f*u+(ac+e)]?=b (X (ac+e))/\Rd d.n (X (ac+e)) n:=by intro e n g;rw[pZ,ow]at g;obtain⟨o,ao,ar⟩:=ae.cd f ad (ac+e) n g;grind
 have af:=Bd (h:=h) (d:=d) (X:=X) (bK:=fv ac (es f)) (a2:=ac) (λe n g=>(K e n g).2);have Q:∀(e:Nat) (o:I),((aI (c (fv ac (es f)))).map λe=>X (ac+e))[e]?=b o->d.a.cell? ⟨j,off+e,k⟩=b o:=by
  intro e o g;simp only[lW]at g;by_cases S:e<c (fv ac (es f))
  .simp[S]at g;subst g;have al:=(K e _ (bu S)).1;simp only[aJ,au];grind
  grind
 obtain⟨o,U,H⟩:=qh (d:=d) (h:=h) (P:=P) (aG w D t) (j:=j) (off:=off) (ak:=ak) Q af N;have s:W a r=(do pure (.value (<-loadVar w ⟨j,off,k⟩))):=by simp[W,aj,v,Instr.loadAt,aU]
 refine⟨o,by rw[s];simp[U],H,λM V=>?_⟩;rw[s]at V;have Y:M∈(loadVar w ⟨j,off,k⟩).events P d.a #[]:=by simpa[U]using V
 obtain⟨e,g,rfl⟩:=mY (aG w D t) (p:=c (fv ac (es f))) (λe g=>⟨_,Q e (X (ac+e)) J⟩) (by have:=pe N;grind) M Y;exact nM (bZ x) ab
def aR.jX(aG:bT P ag){y s:Z}(B:r.op=.slice w y k (b s) k){x:bh}(I:bY ag w=b x)(N:x.desc=.slice T)(O:bY ag T=b bz){d:Nat}{kd:IntKind}{g:Int}(E:η y=aL (.val (.slice (b ⟨j,0,k⟩) p d)))(Q:η s=aL (.int kd g))(A:p<=d)(R:0<=g)(v:g<=p):aR P r η h (aL (.val (.slice (b ⟨j,0,k⟩) g.toNat d))) h:=by
 refine .aS λe t F f=>?_;have n:=f y;rw[E]at n;have n:=Rd.aM (b2 n);have o:jH η k=b k:=rfl;have D:jH η (b s)=b (b g):=by simp[jH,Q]
 have q:V (ib p k (b g)):=⟨R,v⟩;obtain⟨S,U,C⟩:=ub (P:=P) (jl:=i) A (i' f o) (i' f D) q e.a;have u:=(aG w x I).run_underlying (K:=e.a);rw[N]at u;have z:(aV i p d k (b (t s)) k).run P e.a=.ok (0,g.toNat,d) e.a:=S;have M:=tl (P:=P) (jl:=i) A (i' f o) (i' f D) q e.a;have J:∀l,(aV i p d k (b (t s)) k).events P e.a l=l:=M;refine⟨_,?_,Rd.val a,?_⟩
 .simp[W,B,n,Instr.sliceAt,u,Instr.slice,z,(aG T bz O).aU,gg]
 simp[W,B,n,Instr.sliceAt,u,Instr.slice,z,J]
def Hz{n:aj}:∀{z:e I}{d:e D},c z=c d->∀g:Nat->I,(∀a,a<c z->z[a]?=b (g a))->(∀(a:Nat)(f:D),d[a]?=b f->Rd n.n (g a) f)->bJ h n z (d.map C.c)
 |[],[],_,_,_,_=>trivial
 |[],_::_,j,_,_,_=>by grind
 |_::_,[],j,_,_,_=>by grind
 |r::z,f::d,j,g,o,l=>⟨by have:=o 0 Q;cases this;exact l 0 f rfl,Hz J (λa=>g (a+1)) (λa p=>by grind) λa q p=>l (a+1) q J⟩
def aR.fL(aG:bT P ag){j:Z}{q:ab}(t:r.op=.typeAssert j q w m){f:bh}(n:bY ag w=b f)(u:tG f.desc=m){aY:e D}(M:η j=aL (.b' w aY)):aR P r η h (.k (.agg (aY.map C.c))) h:=by
 refine .aS λg J F p=>?_;have d:=p j;rw[M]at d;replace d:=b2 d;generalize s:J j=O at d;have x:=(aG w f n).run_underlying (K:=g.a);have Q:∀v,f.desc≠.interface v:=by intro v A;rw[A]at u;cases u
 cases d with
 |@b' N z aY o B I E=>
  have l:(Instr.typeAssert (.iface w (.agg z.toArray)) q w m).run P g.a=.ok (.agg z.toArray) g.a/\(Instr.typeAssert (.iface w (.agg z.toArray)) q w m).events P g.a #[]=#[]:=by
   constructor
   .unfold Instr.typeAssert;simp only[cn,x,cM];cases y:f.desc<;>first|simp|simp
   unfold Instr.typeAssert;simp only[x,aE,aH,events_underlying];cases y:f.desc<;>first|simp|simp
  exact⟨.agg z.toArray,by simp only[W,t,s,cn,l.1,cM,dv],⟨z,a,Hz o B I E⟩,by simp only[W,t,s,aE,l.1,l.2,aH,aT]⟩
def g.hI(aG:bT P ag)(l:Nat){t d:Nat}{S U:Z}{e:I}{v:bh}(ar:r.op=.store t S U)(s:bY ag t=b v)(C:v.size=1)(al:bA F S=aL (.val (.pointer (b ⟨d,0,k⟩))))(ak:bA F U=aL (.val e))(Y:e.cells=#[e])(ab:dx e=i)(n:cH l h=b (.Q (dY d T ai)))(aj:r.guard=k)(A:eU B r.dst=i)(K:g q B a7 (.ar all bw::ax) .normal (fy r.dst .any F) (h.set l (.Q (dY d T e)))):g q B a7 (.ar all (r::bw)::ax) .normal F h:=by
 refine g.bO (ι:=Unit) (λ_=>.any) (λ_=>h.set l (.Q (dY d T e))) aj A (λj an aq bc=>?_) λ_=>K;have G:=eO aq S;rw[al]at G;have G:=Rd.aM (b2 G);have w:=eO aq U;rw[ak]at w;have w:=Rd.aM (b2 w);have n:=dL n;have D:l<c j.m:=fk;have u:=bu D;generalize j.m[l]=L at u;obtain⟨ao,⟨y,z,au⟩,az,H,ah⟩:=bc.box l _ L n u;have ae:d∈L.V:=(H d).2 J;have x:=az d _ z;have V:∀R∈[e],R.oneCell'=i:=λR ay=>by have:dx R=i:=J;exact this
 have af:=run_storeCells_at P d 0 T [e] 0 #[ai] j.a x Q V;have aB:∀f,f≠d->(j.a.setRow d #[e]).heap[f]?=j.a.heap[f]?:=λf o=>setRow_other j.a d f _ o;have aC:=setRow_heap j.a d #[ai] #[e] T (0,0) x;obtain⟨O,t2⟩:=bc.br (l:=l) (fN:=dY d T e) (b7:=L) (a5:=j.a.setRow d #[e]) n u rfl Q
  (λf o aw=>aB f J) (λf o=>.inl o)
  ⟨λf=>if f=d then b (.cells #[e] T (0,0))else k,⟨y,by simp,λf o=>by grind⟩,λf r o=>by grind,λf=>by grind⟩ a a a
 have p:W an.eval r=(do storeVar t ⟨d,0,k⟩ e;pure .skip):=by simp[W,ar,G,w,Instr.storeAt,aU]
 have ad:(storeCells ⟨d,0,k⟩ [e] 0).run P j.a=.ok () (j.a.setRow d #[e]):=af;refine⟨(),.skip,_,E,?_,.inr ⟨a,a⟩,M,O,t2,?_⟩
 .rw[p];simp[storeVar,(aG t v s).aU,Y,C,ad]
 intro X N;rw[p]at N;have aA:X∈(storeCells ⟨d,0,k⟩ [e] 0).events P j.a #[]:=by simp only[storeVar,aE,(aG t v s).aU,C,Y,aH,events_sizeOf,e3,gD,cr,cn,cM,aT]at N;simpa[ad]using N
 rcases li [e] 0 #[ai] j.a #[] x Q V X aA with aF|⟨aJ,_,_,rfl⟩
 .grind
 exact l' (bZ u) ae (ah d ae _)
def g.jC(w l:Nat)(J A:Nat){D:Nat}(G:look F w=ba l 0)(j:cH l h=b (.cells T [.c (.M i D 0 es)]))(E:∀e d,g q B a7 (.code u::ax) .normal ((w,ce (.pointer (b ⟨e,0,k⟩)))::F) (h.set l (.Q (dY e T (cT (.nil d) 0)))++[.Q (cg J A (.nil d) 0 [])])):g q B a7 (.code u::ax) .normal F h:=by
 refine bX.dQ (ι:=Nat×Option Addr) (c':=λo=>(w,ce (.pointer (b ⟨o.1,0,k⟩)))::F) (aO:=λo=>h.set l (.Q (dY o.1 T (cT (.nil o.2) 0)))++[Y.Q (cg J A (.nil o.2) 0 [])]) (λp ai x bc=>?_) λ(o:Nat×Option Addr)=>E o.1 o.2;have j:=dL j;have U:l<c p.m:=fk;have v:=bu U;generalize p.m[l]=L at v;obtain⟨e,z,rfl,af,C,ae⟩:=bc.box l _ L j v
 match z,C with
 |[X],⟨aq,_⟩=>
  obtain⟨d,t,ad,rfl,_,_,Z,_,_⟩:=(show Rd p.n X (.M i D 0 es)from aq).bx;have R:t=0:=Z a;subst R;obtain⟨K,I⟩:=bc.bQ (b0:=p.n) (a5:=p.a) (dN:=.Q (dY e T (cT (.nil d) 0))) (b7:=⟨.pointer (b ⟨e,0,k⟩),[e]⟩) j v rfl (bE _) (λ_ _ _=>rfl) (λ_ _ _ _=>rfl) (λ_ _ _ S=>S) bc.mem (λn r=>⟨.inl r,bc.lt _ (bZ v) n r⟩) rfl rfl rfl
   ⟨λn=>if n=e then b (.cells #[.slice d 0 0] T (0,0))else k,⟨rfl,by simp[cT],λn r=>by grind⟩,λn V r=>by grind,λn=>by by_cases y:n=e<;>simp[y],λn r V=>by grind⟩
  obtain⟨O,H⟩:=K.bL (bR:=.Q (cg J A (.nil d) 0 [])) (L:=⟨.nilFunc,[]⟩) (.refl _ _) rfl K ⟨λ_=>k,⟨rfl,by simp,by simp,rfl,rfl⟩,by simp,by simp,by simp⟩ Q;have s:=I.trans H;refine⟨(e,d),{p with m:=p.m.set l ⟨.pointer (b ⟨e,0,k⟩),[e]⟩++[⟨.nilFunc,[]⟩]},rfl,⟨x.size,x.defers.imp λ_ f=>f.mono s.ext,λN=>?_⟩,O,s⟩;simp only[look];cases r:aa w N with
  |false=>exact(x.aC N).mono s.ext bc.len
  |true=>
   have y:=c1 r;subst y;have f:=x.aC w;rw[G]at f;obtain⟨_,ah,ag,M,ab,W⟩:=(f:ck h p _ (.ptr l 0));rw[v]at M;cases M;cases ab;rw[W];exact si
theorem a0.eU{p:Type}{t:s}{d:e Y}(x:r.guard=k)(z:d_ P B r F h (λ_:p=>t) λ_=>d):a0 q B all r F h t d:=λC v y l w o f u A a j n g=>d'.eU x z C v y l w o f u A a j n λ_=>g
section
variable {A:Nat->s}{cv:Bool->Bool->e Y}{f1 f2:Nat}
abbrev oR(f:Bool->Bool->e Y)(a d:Nat):(Nat->Bool)->e Y:=λs=>f (s a) (s d)
def cW.hs(b8:aa f1 f=m)(cY:aa f2 f=m)(h:∀a d,a0 q B all r (dr all F A f) (cv a d) (A f) (cv a d)):cW q B all F A (oR cv f1 f2) f r:=by intro s _ _;have e:du f s f1=s f1:=Cw;have g:du f s f2=s f2:=Cv;grind
def cW.dx(aG:bT P ag)(hX:a3 q CT)(n:∀t j,gS ag CT [] all (dr all F A f) (cv t j) r=b (A f,k,cl):=by intro t j;cases t<;>cases j<;>rfl)(b8:aa f1 f=m:=by rfl)(cY:aa f2 f=m:=by rfl)(cO:V cl:=by simp only[V,bl];omega):cW q B all F A (oR cv f1 f2) f r:=.hs b8 cY λt j=>a0.eval aG hX (n t j) cO
def cW.bP(aG:bT P ag:=by exact bv)(hX:a3 q CT:=by first|assumption|exact a3.nil)(n:∀t j,gS ag CT [] all (dr all F A f) (cv t j) r=b (A f,k,[]):=by intro t j;cases t<;>cases j<;>rfl)(b8:aa f1 f=m:=by rfl)(cY:aa f2 f=m:=by rfl):cW q B all F A (oR cv f1 f2) f r:=.dx (cl:=[]) aG hX n b8 cY M
def cW.gX(b8:aa f1 f=m)(cY:aa f2 f=m)(h:d9 all f1 f=i)(g:d9 all f2 f=i)(j:a0 q B all r (dr all F A f) (cv m m) (A f) (cv m m)):cW q B all F A (oR cv f1 f2) f r:=by intro s _ e;have a:du f s f1=s f1:=Cw;have d:du f s f2=s f2:=Cv;grind
def cW.jO(cY:aa f2 f1=m)(e:d9 all f2 f1=i)(g:a0 q B all r (dr all F A f1) (cv m m) (A f1) (cv i m)):cW q B all F A (oR cv f1 f2) f1 r:=by intro s _ f;have a:du f1 s f1=i:=xN;have d:du f1 s f2=s f2:=Cv;grind
def cW.jP(b8:aa f1 f2=m)(f:d9 all f2 f1=i)(g:a0 q B all r (dr all F A f2) (cv i m) (A f2) (cv i i)):cW q B all F A (oR cv f1 f2) f2 r:=by intro s aG e;have a:du f2 s f1=s f1:=Cw;have d:du f2 s f2=i:=xN;grind
end
end
inductive cS where
 |nil
 |aq (l:cS) (t j:Int) (a1:cS)
def ei(l:ab):cS->I->(Nat->Option Obj)->Prop
 |.nil,n,a=>n=.pointer k/\∀j,a j=k
 |.aq r o j s,n,a=>∃h q p f d,n=.pointer (b ⟨h,0,k⟩)/\(a9 .i64 o/\a9 .i64 j)/\ei l r q f/\ei l s p d/\a h=b (.cells #[.int .i64 o,.int .i64 j,q,p] l (0,0))/\f h=k/\d h=k /\
   (∀e g,f e=b g->d e=k/\a e=b g)/\(∀e g,d e=b g->a e=b g)/\∀e g,a e=b g->e=h∨f e=b g∨d e=b g
def ei.cell{d:cS}(a:ei T d ai eb):dx ai=i:=by
 cases d with
 |nil=>rw[a.1];rfl
 |aq=>obtain⟨_,_,_,_,_,rfl,_⟩:=a;rfl
section
def aZ.hA{ag:Nat->Prop}(o:aZ h d)(D:au.a=d.a)(O:au.n=d.n)(F:au.own=d.own)(U:c au.m=c aO)(X:c h<=c aO)(y:∀a,a<c h->¬ag a->aO[a]?=h[a]?/\au.m[a]?=d.m[a]?)(I:∀(a:Nat) (e:Loc),(ag a∨c h<=a)->au.m[a]?=b e->∀f∈e.V,∃(v:Nat) (L:Loc),ag v/\d.m[v]?=b L/\f∈L.V)(K:∀(a g:Nat) (L e:Loc),(ag a∨c h<=a)->(ag g∨c h<=g)->au.m[a]?=b L->au.m[g]?=b e->∀f∈L.V,f∈e.V->a=g)(box:∀a r L,ag a->h[a]?=b r->d.m[a]?=b L->∃t e,aO[a]?=b t/\au.m[a]?=b e/\fL r L t e)(ok:ey h d aO au->∀a r L,(ag a∨c h<=a)->aO[a]?=b r->au.m[a]?=b L->ek aO au r L):aZ aO au/\cA h d aO au:=by
 have N:=o.len;have S:∀(a:Nat) (r:Y) (L:Loc),h[a]?=b r->d.m[a]?=b L->∃t e,aO[a]?=b t/\au.m[a]?=b e/\fL r L t e:=λa r L ao j=>by
  by_cases x:ag a
  .grind
  obtain⟨l,p⟩:=y a (cD.1 ao).1 x;exact⟨r,L,l.trans ao,p.trans j,.refl _ _⟩
 have C:ey h d aO au:=⟨λf Q T x=>O▸x,S⟩
 have u:∀(a:Nat) (e:Loc),au.m[a]?=b e->(ag a∨c h<=a)∨(a<c h/\¬ag a/\d.m[a]?=b e):=λa e x=>by grind
 have J:∀(a:Nat) (e:Loc),au.m[a]?=b e->∀f∈e.V,∃(v:Nat) (L:Loc),d.m[v]?=b L/\f∈L.V:=λa e x f s=>by grind
 have Z:∀(a g:Nat) (L e:Loc),(ag a∨c h<=a)->¬ag g->au.m[a]?=b L->d.m[g]?=b e->∀f∈L.V,f∈e.V->False:=λa g L e l p j n f s M=>by obtain⟨v,z,A,q,R⟩:=I a L l j f s;exact p (o.aL v g z e q n f R M▸A)
 refine⟨⟨λf Q T x=>?_,U,λa r L ao j=>?_,λa g L e j n f s M=>?_,λL j f s=>?_,λf s=>?_⟩,⟨?_,?_,C.mem,?_,λe n f s=>?_,S,?_,?_,?_,F⟩⟩
 .rw[O]at x;rw[D];exact o.mem f Q T x
 .rcases u a L j with l|⟨l,p,w⟩
  .grind
  rw[(y a l p).1]at ao;exact(o.box a r L ao w).bU C N λf _=>⟨by rw[D],λQ=>by rw[O]⟩
 .rcases u a L j with l|⟨_,l,p⟩<;>rcases u g e n with W|⟨_,W,V⟩
  .grind
  .grind
  .grind
  exact o.aL a g L e p V f s M
 .obtain⟨a,B,rfl⟩:=ft j;obtain⟨v,z,A,q⟩:=J a _ (bu B) f s;rw[D];exact o.lt z (bZ A) f q
 .rw[F]at s;refine⟨D▸(o.own f s).1,λL j E=>?_⟩;obtain⟨a,B,rfl⟩:=ft j;obtain⟨v,z,A,q⟩:=J a _ (bu B) f E;exact(o.own f s).2 z (bZ A) q
 .grind
 .grind
 .grind
 .obtain⟨a,B,rfl⟩:=ft n;obtain⟨v,z,A,q⟩:=J a _ (bu B) f s;grind
 all_goals rw[D]
def aZ.j1(u:aZ h d){B j:Y}{L f:Loc}{an:e Y}{r:e Loc}(ao:h[l]?=b B)(ah:d.m[l]?=b L)(ae:fL B L j f)(ab:c r=an.length)(sub:∀x∈f::r,∀y∈x.V,y∈L.V)(V:(f::r).Pairwise λx F=>∀y∈x.V,y∉F.V)(ok:∀p:aj,p.a=d.a->p.n=d.n->p.m=d.m.set l f++r->ek (h.set l j++an) p j f/\∀(E:Nat) (w:Y) (C:Loc),an[E]?=b w->r[E]?=b C->ek (h.set l j++an) p w C):
  aZ (h.set l j++an) {d with m:=d.m.set l f++r}/\cA h d (h.set l j++an) {d with m:=d.m.set l f++r}:=by
 have U:=u.len;have Z:l<c h:=(cD.1 ao).1;have ad:=ia.1 V;have s:∀(g:Nat) (q:Loc),(g=l∨c h<=g)->(d.m.set l f++r)[g]?=b q->(g=l/\q=f)∨(c h<=g/\r[g-c h]?=b q):=λg q n o=>by grind
 refine aZ.hA (ag:=λg=>g=l) u a a a J Q (λg n D=>J) (λg q n o X T=>J) (λg A q W n v o t X T af=>?_) (λg w q n z o=>?_) (λR g w q n z o=>?_)
 .rcases s g q n o with⟨b8,rfl⟩|⟨b8,cY⟩<;>rcases s A W v t with⟨S,rfl⟩|⟨S,O⟩
  .omega
  .grind
  .grind
  obtain⟨I,K⟩:=cD.1 cY;obtain⟨M,N⟩:=cD.1 O;exact Ca
 .grind
 grind
def hz:cS->Nat->C
 |.nil,_=>.c .bj
 |.aq ..,a=>.aD a
def gF(a:ab):cS->e Y
 |.nil=>[]
 |.aq g d f h=>[.Q (ei a (.aq g d f h))]
def la(a:e Nat):cS->I->(Nat->Option Obj)->e Loc
 |.nil,_,_=>[]
 |.aq ..,f,d=>[⟨f,a.filter λg=>(d g).isSome⟩]
def ic:cS->Nat->e Y->e Y
 |.nil,_,a=>a
 |.aq ..,d,a=>a.set d .t
def aZ.gj(bc:aZ h d){lt f:cS}{t u:Int}(ao:h[l]?=b (.Q (ei T (.aq lt t u f)))):
  ∃g,g.a=d.a/\(∃o L,d.m[l]?=b L/\L.v=.pointer (b ⟨o,0,k⟩)/\g.m[l]?=b ⟨L.v,[o]⟩)/\aZ (h.set l (.cells T [.c (.int .i64 t),.c (.int .i64 u),hz lt (c h),hz f (c h+c (gF T lt))])++(gF T lt++gF T f)) g /\
   cA h d (h.set l (.cells T [.c (.int .i64 t),.c (.int .i64 u),hz lt (c h),hz f (c h+c (gF T lt))])++(gF T lt++gF T f)) g:=by
 have ax:l<c h:=(cD.1 ao).1;have Y:l<c d.m:=fk;have K:=bu Y;generalize d.m[l]=L at K;obtain⟨O,⟨o,I,F,n,A,B,⟨Z,V⟩,w,x,al,aq,ai,H,ah,aj⟩,ae,Q,ag⟩:=bc.box l _ L ao K;have aw:=bc.len;have D:o∈L.V:=(Q o).2 J;refine⟨{d with m:=d.m.set l ⟨.pointer (b ⟨o,0,k⟩),[o]⟩++(la L.V lt I n++la L.V f F A)},rfl,⟨o,L,K,B,J⟩,bc.j1 ao K (show _=_ from B.symm) ?_ ?_ ?_ λg X e q=>?_⟩
 .cases lt<;>cases f<;>rfl
 .intro bi e j E;rcases ef.1 e with rfl|e
  .grind
  rcases fu.1 e with e|e
  .cases lt with
   |nil=>cases e
   |aq=>rw[la,eN]at e;grind
  cases f with
  |nil=>cases e
  |aq=>rw[la,eN]at e;grind
 .refine ia.2 ⟨λbi e j E C=>?_,?_⟩
  .rw[eN]at E;subst E;rcases fu.1 e with e|e
   .cases lt with
    |nil=>cases e
    |aq=>rw[la,eN]at e;grind
   cases f with
   |nil=>cases e
   |aq=>rw[la,eN]at e;grind
  cases lt<;>cases f<;>simp only[la,nx,iJ,sO,ia,List.Pairwise.nil,eN,forall_eq,oz,false_implies,implies_true,bl]
  exact BY
 have ad:∀j r,n j=b r->O j=b r:=λj r p=>(H j r p).2;have af:ek (h.set l (.cells T [.c (.int .i64 t),.c (.int .i64 u),hz lt (c h),hz f (c h+c (gF T lt))])++(gF T lt++gF T f)) g (.Q (ei T lt)) ⟨I,L.V.filter λj=>(n j).isSome⟩:=
  ⟨n,w,λj r p=>by grind,λj=>⟨λp=>(lZ.1 p).2,λp=>lZ.2 ⟨(Q j).2 BY,p⟩⟩,λj E r=>by rw[e];grind⟩
 have ak:ek (h.set l (.cells T [.c (.int .i64 t),.c (.int .i64 u),hz lt (c h),hz f (c h+c (gF T lt))])++(gF T lt++gF T f)) g (.Q (ei T f)) ⟨F,L.V.filter λj=>(A j).isSome⟩:=
  ⟨A,x,λj r p=>by grind,λj=>⟨λp=>(lZ.1 p).2,λp=>lZ.2 ⟨(Q j).2 BY,p⟩⟩,λj E r=>by rw[e];grind⟩
 have N:=w.cell;have z:=x.cell;have ab:g.a.heap[o]?=b (.cells (List.toArray [.int .i64 t,.int .i64 u,I,F]) T (0,0)):=J;have G:∀r,g.n o r=k:=λr=>by rw[e];grind
 have R:∀y,(d.m.set l ⟨.pointer (b ⟨o,0,k⟩),[o]⟩++(la L.V lt I n++la L.V f F A))[c h+y]?=(la L.V lt I n++la L.V f F A)[y]?:=λy=>by grind
 have v:∀y,(h.set l (.cells T [.c (.int .i64 t),.c (.int .i64 u),hz lt (c h),hz f (c h+c (gF T lt))])++(gF T lt++gF T f))[c h+y]?=(gF T lt++gF T f)[y]?:=λy=>by grind
 refine⟨⟨o,_,a,ab,⟨Rd.int Z,Rd.int V,?_,?_,M⟩,G⟩,?_⟩
 .cases lt with
  |nil=>rw[w.1];exact Rd.bj
  |aq=>exact⟨λS ao=>by have W:=(v 0).symm.trans ao;cases W;rfl,_,by rw[q];exact R 0,rfl,N⟩
 .cases f with
  |nil=>rw[x.1];exact Rd.bj
  |aq=>
   cases lt with
   |nil=>exact⟨λS ao=>by rw[v]at ao;cases ao;rfl,_,by rw[q];exact R 0,rfl,z⟩
   |aq=>exact⟨λS ao=>by rw[v]at ao;cases ao;rfl,_,by rw[q];exact R 1,rfl,z⟩
 intro au an ar U s;cases lt<;>cases f<;>simp only[gF,la,nx,iJ,sO,List.getElem?_nil]at U s
 .cases U
 .grind
 .grind
 grind
def D7(t:aZ h d){j:cS}(o:ck h d ai (hz j f))(p:j≠.nil->h[f]?=b (.Q (ei T j))):
  ∃l e,ei T j ai l/\(∀g n,l g=b n->d.a.heap[g]?=b n)/\(∀g,g∈e↔(l g).isSome=i)/\(∀g∈e,∀n,d.n g n=k)/\(match j with|.nil=>e=[]|.aq ..=>d.m[f]?=b ⟨ai,e⟩):=by
 cases j with
 |nil=>
  have o:Rd d.n ai .bj:=o;cases o;exact⟨λ_=>k,[],⟨a,λ_=>rfl⟩,by simp,by simp,by simp,a⟩
 |aq=>
  obtain⟨_,L,r,rfl,_⟩:=o;obtain⟨l,s,u,q,v⟩:=t.box f _ L (p nofun) r;exact⟨l,L.V,s,u,q,v,r⟩
def qb:cS->Nat->I->e Loc->e Loc
 |.nil,_,_,a=>a
 |.aq ..,d,f,a=>a.set d ⟨f,[]⟩
def aZ.cq(u:aZ h d){lt da:cS}{K M:Int}(ao:h[l]?=b (.cells T [.c (.int .i64 K),.c (.int .i64 M),hz lt f,hz da y]))(N:lt≠.nil->h[f]?=b (.Q (ei T lt)))(O:da≠.nil->h[y]?=b (.Q (ei T da)))(G:lt≠.nil->da≠.nil->f≠y):
  ∃r,r.a=d.a/\(∃L,d.m[l]?=b L/\∃X,r.m[l]?=b X/\X.v=L.v)/\aZ (ic da y (ic lt f (h.set l (.Q (ei T (.aq lt K M da)))))) r/\cA h d (ic da y (ic lt f (h.set l (.Q (ei T (.aq lt K M da)))))) r:=by
 have a2:l<c h:=(cD.1 ao).1;have a1:=u.len;have D:l<c d.m:=x;have ah:=bu D;generalize d.m[l]=L at ah;obtain⟨q,z,rfl,aQ,v,aR⟩:=u.box l _ L ao ah
 match z,v with
 |[aK,aJ,S,U],⟨ai,ak,aq,aF,_⟩=>
 obtain⟨t,B,an,aL,aM,aN,ab⟩:=D7 u aq N;obtain⟨W,E,d1,d2,d3,d4,eE⟩:=D7 u aF O;have ai:Rd d.n aK (.int .i64 K):=ai;have ak:Rd d.n aJ (.int .i64 M):=ak;cases ai with|int aw=>
 cases ak with|int ax=>
 have aY:q∉B:=λo=>by
  cases lt with
  |nil=>grind
  |aq=>have:=u.aL l f _ _ ah ab q Q o;grind
 have a0:q∉E:=λo=>by
  cases da with
  |nil=>grind
  |aq=>have:=u.aL l y _ _ ah eE q Q o;grind
 have aU:∀j∈B,j∉E:=λj o aH=>by
  cases lt with
  |nil=>grind
  |aq=>
   cases da with
   |nil=>grind
   |aq=>exact G nofun nofun (u.aL f y _ _ ab eE j o aH)
 have s:t q=k:=by cases o:t q with|none=>rfl|some A=>grind
 have aV:W q=k:=by cases o:W q with|none=>rfl|some A=>grind
 have aC:∀j A,t j=b A->W j=k:=λj A o=>by
  cases v:W j with
  |none=>rfl
  |some R=>grind
 have ok:∀(Z:e Y) (r:aj),r.a=d.a->r.n=d.n->ek Z r (.Q (ei T (.aq lt K M da))) ⟨.pointer (b ⟨q,0,k⟩),q::(B++E)⟩:=λZ r au ar=>by
  refine⟨λj=>if j=q then b (.cells #[.int .i64 K,.int .i64 M,S,U] T (0,0))else(t j).or (W j),⟨q,S,U,t,W,a,⟨aw,ax⟩,an,d1,bF a,s,aV,λj A o=>⟨aC j A o,J⟩,λj A o=>?_,λj A o=>?_⟩,λj A o=>?_,λj=>?_,λj F A=>?_⟩
  .have:j≠q:=J;dsimp only;rw[bp this,o];cases v:t j with
   |none=>rfl
   |some R=>grind
  .by_cases ae:j=q
   .grind
   dsimp only at o;rw[bp ae]at o;cases v:t j with
   |none=>grind
   |some R=>grind
  .rw[au];by_cases ae:j=q
   .grind
   dsimp only at o;rw[bp ae]at o;cases v:t j with
   |none=>grind
   |some R=>grind
  .grind
  rw[ar];grind
 refine⟨{d with m:=qb da y U (qb lt f S (d.m.set l ⟨.pointer (b ⟨q,0,k⟩),q::(B++E)⟩))},rfl,?_⟩
 classical
 have a4:lt≠.nil->f<c h/\f≠l:=λo=>⟨(cD.1 (N o)).1,λae=>by grind⟩
 have aS:da≠.nil->y<c h/\y≠l:=λo=>⟨(cD.1 (O o)).1,λae=>by grind⟩
 have az:d.m[l]?=b ⟨.pointer (b ⟨q,0,k⟩),[q]⟩:=ah;let ag:Nat->Prop:=λp=>p=l∨(lt≠.nil/\p=f)∨(da≠.nil/\p=y);have C:∀p,(ic da y (ic lt f (h.set l (.Q (ei T (.aq lt K M da))))))[p]?=if p=l then b (.Q (ei T (.aq lt K M da)))else if(lt≠.nil/\p=f)∨(da≠.nil/\p=y)then b .t else h[p]?:=λp=>by cases lt<;>cases da<;>simp only[ic,List.getElem?_set,List.length_set]<;>grind
 have ad:∀p,(qb da y U (qb lt f S (d.m.set l ⟨.pointer (b ⟨q,0,k⟩),q::(B++E)⟩)))[p]?=if p=l then b ⟨.pointer (b ⟨q,0,k⟩),q::(B++E)⟩else if da≠.nil/\p=y then b ⟨U,[]⟩else if lt≠.nil/\p=f then b ⟨S,[]⟩else d.m[p]?:=λp=>by cases lt<;>cases da<;>simp only[qb,List.getElem?_set,List.length_set]<;>grind
 have hk:∀(V:cS) (f:Nat) (l:e Y),c (ic V f l)=c l:=λV f l=>by cases V<;>simp[ic]
 have mh:∀(V:cS) (f:Nat) (aA:I) (l:e Loc),c (qb V f aA l)=c l:=λV f aA l=>by cases V<;>simp[qb]
 have aO:∀j∈B,lt≠.nil/\d.m[f]?=b ⟨S,B⟩:=λj F=>by grind
 have aP:∀j∈E,da≠.nil/\d.m[y]?=b ⟨U,E⟩:=λj F=>by grind
 refine⟨⟨_,az,_,(ad l).trans (bF a),a⟩,aZ.hA (ag:=ag) u a a a J J (λp w aG=>J) (λp al w n j F=>?_) (λp aT al aE w ay n af j F a3=>?_) (λp aB al w g n=>?_) (λ_ p aB al w g n=>?_)⟩
 .rw[ad]at n;split at n
  .cases n;rcases ef.1 F with rfl|F
   .grind
   rcases fu.1 F with F|F
   .grind
   grind
  have:p<c d.m∨c d.m<=p:=dJ _ _;grind
 .rw[ad]at n af;grind
 .rw[C,ad];rcases w with rfl|⟨o,rfl⟩|⟨o,rfl⟩
  .rw[az]at n;cases n;rw[ao]at g;cases g;exact⟨_,_,bF a,bF a,a⟩
  .have H:d.m[p]?=b ⟨S,B⟩:=J;rw[N o]at g;rw[H]at n;cases g;cases n;grind[fL]
  have H:d.m[p]?=b ⟨U,E⟩:=J;rw[O o]at g;rw[H]at n;cases g;cases n;grind[fL]
 rw[C]at g;rw[ad]at n;split at g
 .grind
 split at g
 .cases g;trivial
 grind
def ev:cS->D
 |.nil=>.bj
 |.aq e a d f=>.U [.int .i64 a,.int .i64 d,ev e,ev f]
def ei.rd{u:ab}{bi:Mem}:∀{q:cS}{s:I}{f:Nat->Option Obj},ei u q s f->(∀e z d j,f e=b (.cells z d j)->∀p r,z[p]?=b r->bi e p=b r)->Rd bi s (ev q)
 |.nil,_,_,g,_=>by rw[g.1];exact .bj
 |.aq O v w R,_,f,⟨t,M,K,y,T,A,⟨F,D⟩,n,o,N,_,_,B,J,_⟩,l=>by
  subst A;have S:=n.rd (bi:=bi) λe z d j g=>l e z d j (B e _ g).2;have Q:=o.rd (bi:=bi) λe z d j g=>l e z d j (J e _ g);have C:=l t _ _ _ N;refine Rd.U t 0 (λh=>[Value.int .i64 v,.int .i64 w,M,K].getD h E) (λh x a=>?_) (λh x a=>?_)
  .match h,a with
   |0,_|1,_|2,_|3,_=>grind
  .match h,a with
   |0,a=>cases a;exact Rd.int F
   |1,a=>cases a;exact Rd.int D
   |2,a=>grind
   |3,a=>grind
def aZ.fY(g:aZ h d){J:cS}(ao:h[l]?=b (.Q (ei T J))):
  ∃n,n.a=d.a/\n.m=d.m/\(∀L,d.m[l]?=b L->Rd n.n L.v (ev J))/\aZ (h.set l .t) n/\cA h d (h.set l .t) n:=by
 have O:l<c h:=(cD.1 ao).1;have N:=g.len;have w:=bu (show l<c d.m by omega);generalize d.m[l]=L at w;obtain⟨v,V,F,M,D⟩:=g.box l _ L ao w;let j:Mem:=λe f=>match v e with|some (.cells z _ _)=>z[f]?|_=>d.n e f
 have E:∀e,e∉L.V->∀f,j e f=d.n e f:=λe t f=>by grind
 have Q:∀e f u,d.n e f=b u->j e f=b u:=λe f u r=>by grind
 have y:cA h d (h.set l .t) {d with n:=j}:=by
  refine⟨bE _,λ_ _ _=>rfl,Q,λe _ U f=>E e (U L (bZ w)) f,λp o e t=>.inr ⟨p,o,t⟩,λx A p q o=>?_,a,a,a,a⟩;by_cases s:l=x
  .subst s;rw[ao]at q;cases q;exact⟨.t,p,by grind,o,a⟩
  exact⟨A,p,by grind,o,.refl _ _⟩
 refine⟨{d with n:=j},rfl,rfl,λp o=>?_,⟨λe f u r=>?_,by grind,λx A p q o=>?_,g.aL,g.lt,g.own⟩,y⟩
 .rw[w]at o;cases o;exact V.rd λe z B W t f X C=>by grind
 .by_cases t:e∈L.V
  .have r:j e f=b u:=r;cases I:v e with
   |none=>grind
   |some S=>
    have R:=F e S I;simp only[j,I]at r;split at r
    .rename_i z B W s;cases s;show d.a.cell? _=_;simp[aJ,R,r]
    grind
  exact g.mem e f u ((E e t f).symm.trans r)
 by_cases s:l=x
 .subst s;rw[hN O]at q;cases q;trivial
 rw[j7 s]at q;exact(g.box x A p q o).bU y.ext N λe t=>⟨a,λf=>E e (λK=>s (g.aL l x L p w o e K t)) f⟩
end
section
variable {q:al P}
def bQ.gi{e:Act}{l:Nat}{n:s}(f:bQ B h d F e)(j:c d.m=c h)(a:cA h d aO au)(q:bo aO au (e.tmps.getD l E) n):bQ B aO au ((l,n)::F) e:=
 ⟨f.size,f.defers.imp λ_ g=>g.mono a.ext,λo=>by
  simp only[look];cases p:aa l o with
  |false=>exact(f.aC o).mono a.ext j
  |true=>grind[Nat.eq_of_beq_eq_true]⟩
def g.gj(r l:Nat){d:ab}{lt a:cS}{s t:Int}(E:look F r=.k (.S (.aD l)))(j:cH l h=b (.Q (ei d (.aq lt s t a))))(o:g q B a7 (.code u::ax) .normal ((r,ba l 0)::F) (h.set l (.cells d [.c (.int .i64 s),.c (.int .i64 t),hz lt (c h),hz a (c h+c (gF d lt))])++(gF d lt++gF d a))):g q B a7 (.code u::ax) .normal F h:=by refine g.aK (λQ O v f=>?_) o;have y:=v.aC r;rw[E]at y;obtain⟨_,L,I,A,_⟩:=y;obtain⟨p,n,⟨K,N,e,x,C⟩,D,w⟩:=f.gj (dL j);rw[I]at e;cases e;have z:l<c h:=(cD.1 (dL j)).1;refine⟨p,n,v.gi f.len w ⟨λM ao=>?_,_,K,C,x,A.trans x⟩,D,w⟩;rw[jE J,hN z]at ao;cases ao;rfl
def g.cq(M a l n:Nat){d:ab}{lt da:cS}{f j:Int}(U:look F M=ba a 0)(v:cH a h=b (.cells d [.c (.int .i64 f),.c (.int .i64 j),hz lt l,hz da n]))(A:lt≠.nil->cH l h=b (.Q (ei d lt)))(E:da≠.nil->cH n h=b (.Q (ei d da)))(S:lt≠.nil->da≠.nil->l≠n)(J:g q B a7 (.code u::ax) .normal ((M,.k (.S (.aD a)))::F) (ic da n (ic lt l (h.set a (.Q (ei d (.aq lt f j da))))))):g q B a7 (.code u::ax) .normal F h:=by
 refine g.aK (λaf ae N t=>?_) J;have Q:=N.aC M;rw[U]at Q;obtain⟨_,L,ah,X,C,ai⟩:=Q;obtain⟨K,z,⟨D,r,y,W,s⟩,T,O⟩:=t.cq (dL v) (λp=>dL (A p)) (λp=>dL (E p)) S;rw[X]at r;cases r;have R:a<c h:=(cD.1 (dL v)).1;have w:(ic da n (ic lt l (h.set a (.Q (ei d (.aq lt f j da))))))[a]?=b (.Q (ei d (.aq lt f j da)))∨(ic da n (ic lt l (h.set a (.Q (ei d (.aq lt f j da))))))[a]?=b .t:=by
  have ag:(h.set a (.Q (ei d (.aq lt f j da))))[a]?=b (.Q (ei d (.aq lt f j da))):=hN R;have ad:∀(x:cS) (I:Nat) (o:e Y),o[a]?=b (.Q (ei d (.aq lt f j da)))∨o[a]?=b .t->(ic x I o)[a]?=b (.Q (ei d (.aq lt f j da)))∨(ic x I o)[a]?=b .t:=λx I o p=>by
   cases x with
   |nil=>exact p
   |aq=>simp only[ic,List.getElem?_set];grind
  grind
 refine⟨K,z,N.gi t.len O ⟨λZ ao=>?_,y,W,?_,?_⟩,T,O⟩
 .rcases w with w|w<;>(rw[w]at ao;cases ao;rfl)
 .grind
 exact g3
def g.fY(n j:Nat){t:ab}{s:cS}(x:look F n=.k (.S (.aD j)))(f:cH j h=b (.Q (ei t s)))(d:g q B a7 (.code u::ax) .normal ((n,aL (ev s))::F) (cZ.b2 j .t h)):g q B a7 (.code u::ax) .normal F h:=by rw[lB]at d;refine g.aK (λC A o a=>?_) d;have r:=o.aC n;rw[x]at r;obtain⟨_,L,z,v,_⟩:=r;obtain⟨l,e,_,y,w,p⟩:=a.fY (dL f);exact⟨l,e,o.gi a.len p (show Rd _ _ _ from v▸y L z),w,p⟩
end
section
variable {q:al P}
def i7.cb{C:Nat}{g:e s}{f:Bool}{bw:ι->e Y}(u:i7 q C g h f λa=>a6 a++bw a)(l:∀a,c (a6 a)=c h)(M:∀a (p:Nat)(A:Y),(a6 a)[p]?=b A->x1 (c (a6 a)) h p A):i7 q C g h f a6:=by
 intro O z p I j n;obtain⟨fn,tmps,E,B,v,w,J⟩:=u O z p I j n;refine⟨fn,tmps,E,B,v,w,λD F r x=>J D F r λa o d y=>?_⟩;have N:eg o (o.cut (c (a6 a))):=⟨rfl,λ_ _ _ u=>u,λ_ _ _=>rfl,d.mem,λB t=>t.imp id λ⟨L,K,t⟩=>⟨L,gE K,t⟩⟩
 exact .aK N (x a _ (j.gI (l a).symm (M a) d) (y.drop (Nat.le_of_eq (l a).symm)))
end
section
variable {q:al P}
def g.fe(j f:Nat){d:e C}{a:e D}(p:look F j=ba f 0)(l:cH f h=b (.cells T d))(o:hA d=b a)(n:g q B a7 (.ar all bw::ax) .normal ((j,aL (.U a))::F) (cZ.b2 f .t h)):g q B a7 (.ar all bw::ax) .normal F h:=by grind[lB,g.gY,bQ.freeze]
def hK.cons{a:bd}{d:Nat}{e:s}(n:look F d=e)(g:hK F a):hK F ((d,e)::a):=by
 intro j o p h f;simp only[look];cases l:aa d h with
 |false=>exact g _ _ _ _ f
 |true=>
  exact uA
end
section
variable {q:al P}{aq:dn}{ak:Exit}
def mF(h:Nat)(aq:dn):dn:=λn l g=>∃e a,(∀f j,bQ h g f l j->aZ g f->∃d:aj,d.a=f.a/\bQ h a d e j/\aZ a d/\cA g f a d)/\aq n e a
theorem mF.of(e:aq ak F h):mF B aq ak F h:=⟨F,h,λf g d a=>⟨f,rfl,d,a,.refl _ _⟩,e⟩
def mF.step{e:bd}(w:∀d f,bQ B h d F f->aZ h d->∃a:aj,a.a=d.a/\bQ B aO a e f/\aZ aO a/\cA h d aO a)(z:mF B aq ak e aO):mF B aq ak F h:=by obtain⟨s,g,p,A⟩:=z;refine⟨s,g,λd f u q=>?_,A⟩;obtain⟨x,j,n,o,r⟩:=w d f u q;obtain⟨v,l,f3,y,t⟩:=p x f n o;exact⟨v,l.trans j,f3,y,r.trans t⟩
theorem mF.freeze(g a:Nat){T:ab}{aY:e C}{jK:e D}(o:look F g=ba a 0)(f:cH a h=b (.cells T aY))(l:hA aY=b jK)(j:mF B aq ak ((g,aL (.U jK))::F) (cZ.b2 a .t h)):mF B aq ak F h:=by rw[lB]at j;exact .step (λq p n d=>bQ.freeze g a o f l n d) j
def de.iP(I:de q B u (mF B aq) F h):de q B u aq F h:=by
 intro S D O r E K o A R M T;refine I S D O r E K o A R M λy U C f d v p a g=>?_;obtain⟨l,n,Q,v⟩:=v;obtain⟨e,N,J,x,w⟩:=Q f d p a;have z:=w.tolU a;have j:=T y l n e d v J x (g.trans z);have t:eg f e:=.of a x N z;cases y<;>first
  |exact j.elim
  |exact .aK t j
  |exactλpre=>.aK t (j pre)
  |exactλpre s=>.aK t (j pre s)
def de.bq(f:bd)(g:e Y){l:e Prop}(w:hF F f=b aB)(K:V aB)(d:ip h g=b l)(y:V l)(N:de q B u aq f g):de q B u aq F h:=by intro z t M a j x r D O J Q;have s:=jm d y;have C:=(s z a).2.1;exact N z t ((M.le (et w K)).V s a) (s z a).1 j x r D O J λE I o A p R v d n=>Q E I o A p R v d ((C.tolU a).trans n)
def de.jM{r:Z}{g:Array Tmp}{assign body:Code}{l:ar}{oJ:e s}{f:ι->e Y}(t:∀j n,bQ B h j F n->aZ h j->∃o:e I,n.eval r=.func (.func l) #[] o.toArray/\bW h j o oJ)(u:bG q l (.k (.S (.aD (c h)))::oJ) (h++[.loop B F {state:=.ready,pending:=k,fn:=0,tmps:=#[],params:=g,assign:=assign,body:=body,defers:=0}]) res f)(a:∀d,∃fz,(f d)[c h]?=b (.loop B F fz)/\fz.state≠.busy/\∃p,wP fz.pending=b p/\aq p F ((f d).set (c h) .t++[.a2])):de q B (.rangeFunc r g assign body) aq F h:=
 de.rangeFunc (fz:=λd=>(a d).choose) t u (λd=>⟨(a d).choose_spec.1,(a d).choose_spec.2.1⟩) λd=>(a d).choose_spec.2.2
def bG.iZ{d:ar}{fn:Func}{args:e s}{aO:ι->e Y}(B:P.funcs[d]?=b fn)(v:(fn.name== "runtime.NumGoroutine")=m)(C:fn.body=b u)(x:aD args.length fn.ntmps=i)(y:de q fn.ntmps u (mF fn.ntmps λw o f=>∃n,j4 P fn h.length (res n) (aO n) w o f) (hh 0 args) h):bG q d args h res aO:=
 bG.gh B v C (e' x) λD r d z t A g p l a j=>de.iP y D r d z t A g p l a j
def j4.cells(aG:bT P ag){fn:Func}{j:Nat}{f:s}(d:e Nat)(l:rW ag fn.results.toList d F f=b aB)(p:V aB)(q:dj d h=b aO)(o:kN aO=i)(r:eX d=i)(n:∀g,g<j->d[g]?=b g):j4 P fn j f aO .ret F h:=by refine⟨.inl a,d,?_⟩;unfold rW at l;grind[ns.eW]
end
def vW:C->Option I
 |.c (.val a)=>b a
 |_=>k
def tq:e C->Option (e I)
 |[]=>b []
 |a::f=>match vW a with
  |some g=>match tq f with
   |some d=>b (g::d)
   |none=>k
  |none=>k
def vX:s->Option I
 |.k (.S d)=>vW d
 |.k (.agg a)=>match tq a with
  |some e=>b (.agg e.toArray)
  |none=>k
 |_=>k
def rh:e s->Option (e I)
 |[]=>b []
 |a::f=>match vX a with
  |some g=>match rh f with
   |some d=>b (g::d)
   |none=>k
  |none=>k
section
variable {q:al P}
def Fl{e:I}:∀{a:C},ck h d ai a->vW a=b e->ai=e
 |.c (.val j),g,f=>by cases f;exact Rd.aM g
theorem Fm:∀{g:e C}{z a:e I},bJ h d z g->tq g=b a->z=a
 |[],[],a,_,j=>by cases j;rfl
 |[],_::_,_,f,_=>f.elim
 |_::_,[],_,f,_=>f.elim
 |o::p,r::z,a,f,j=>by
  simp only[tq]at j;cases l:vW o with
  |none=>grind
  |some s=>
   cases n:tq p with
   |none=>grind
   |some q=>
    simp[l,n]at j;subst j;rw[Fl f.1 l,Fm f.2 n]
def Ra{g:I}:∀{e:s},bo h d ai e->vX e=b g->ai=g
 |.k (.S l),f,a=>Fl f a
 |.k (.agg j),⟨z,n,f⟩,a=>by simp only[vX]at a;grind[Fm]
def zR:∀{g:e s}{z a:e I},bW h d z g->rh g=b a->z=a
 |[],[],a,_,j=>by cases j;rfl
 |[],_::_,_,f,_=>f.elim
 |_::_,[],_,f,_=>f.elim
 |o::p,r::z,a,f,j=>by
  simp only[rh]at j;cases l:vX o with
  |none=>grind
  |some t=>
   cases n:rh p with
   |none=>grind
   |some q=>
    simp[l,n]at j;subst j;rw[Ra f.1 l,zR f.2 n]
def hd(P:aw)(j:Nat)(g:ah)(h:bd)(l:e Y)(f:ar)(args:e I):Prop:=∀n d,bQ j l n h d->∀a,(W d.eval g).run P a=(callFunc f args.toArray).run P a/\(W d.eval g).events P a #[]=(callFunc f args.toArray).events P a #[]
def hd.dM{a:ar}{O:Array Z}{args:e I}(g:r.op=.call {callee:=.value (.func a),args:=O,argTypes:=dK})(n:rh (O.toList.map (bA F))=b args):hd P B r F h a args:=by
 intro q d l s;have o:=zR (nq (eO l) O.toList) n;have f:O.map d.eval=args.toArray:=J;have j:d.eval (.func a)=.func (.func a) #[] #[]:=rfl;have p:W d.eval r=callFunc a args.toArray:=by simp[W,g,resolve,j,Deferred.ofValue,invoke,f]
 grind
def hd.invoke{t:ar}{q:Z}{n:Array Z}{name:String}{o:ab}{p v:I}{args:e I}(l:r.op=.call {callee:=.invoke q name,args:=n,argTypes:=dK})(y:bA F q=aL (.val (.iface o p)))(x:rh (n.toList.map (bA F))=b args)(g:∀a,(Go.method (P.types.size+Made.depth) o p name).run P a=.ok (t,v) a/\∀d,(Go.method (P.types.size+Made.depth) o p name).events P a d=d):hd P B r F h t (v::args):=by
 intro A z u a;have f:=eO u q;rw[y]at f;have f:=Rd.aM (b2 f);have j:=zR (nq (eO u) n.toList) x;have s:∀a,(program:Sem aw).run P a=.ok P a:=λa=>by simp
 have w:∀a d,(program:Sem aw).events P a d=d:=λa d=>by simp
 rw[zU l f,j];constructor
 .simp[callMethod,s,(g a).1]
 simp[callMethod,s,w,(g a).1,(g a).2]
structure iz(P:aw)(ac:ar)(ak:Array I->Sem I):Prop where
 fn:∃fn,P.funcs[ac]?=b fn/\(fn.name== "runtime.NumGoroutine")=m/\fn.body.isNone=i/\Extern.findNext fn=k/\Extern.find fn=b ak
def iz.run{d:ar}{e:Array I->Sem I}(p:iz P d e){args:Array I}(l:(e args).run P K=.ok ai a5):(callFunc d args).run P K=.ok (.value ai) a5/\∀a,(callFunc d args).events P K a=(e args).events P K (a.push ⟨.mark (.extern d),m,i⟩):=by
 obtain⟨fn,h,o,q,n,j⟩:=p.fn;have f:fn.name≠ "runtime.NumGoroutine":=J;have g:fn.body=k:=dX;constructor
 .rw[run_callFunc_extern h o q n j,l];rfl
 intro a;simp[callFunc,h,f,g,n,j,l]
def d_.ext{C:ι->s}{f:ι->e Y}{t:ar}{q:Array I->Sem I}{args:e I}(O:hd P B r F h t args)(K:iz P t q)(n:∀g,aZ h g->∃j d o,(q args.toArray).run P g.a=.ok o d.a/\bo (f j) d o (C j)/\aZ (f j) d/\cA h g (f j) d/\∀l,∀p∈(q args.toArray).events P g.a l,p∈l∨hD g p):d_ P B r F h C f:=by
 intro g D J w;obtain⟨u,v⟩:=O g D J g.a;obtain⟨j,d,o,N,x,y,z,Q⟩:=n g w;obtain⟨M,E⟩:=K.run N;refine⟨j,.value o,d,o,u.trans M,.inl a,x,y,z,λp A=>?_⟩;rw[v,E]at A;rcases Q _ p A with n|n
 .simp at n;subst n;exact .inr ⟨t,a⟩
 grind
def d_.dO{l:ar}{g:Array I->Sem I}{args:e I}{A:s}(p:hd P B r F h l args)(n:iz P l g)(o:∀f,(g args.toArray).run P f=.ok ai f)(u:∀f a,(g args.toArray).events P f a=a)(q:∀d,bo h d ai A):d_ P B r F h (λ_:Unit=>A) λ_=>h:=
 .ext p n λd j=>⟨(),d,ai,o d.a,q d,j,.refl _ _,λa t v=>.inl J⟩
def d_.gK{w:ar}{l:Array I->Sem I}{args:e I}{ai:Nat->I}{A:Nat->s}{bk:I}(M:hd P B r F h w args)(D:iz P w l)(K:∀p,(l args.toArray).run P p=.ok (ai p.heap.size) (p.alloc (.cells #[bk] T)))(S:∀p n,(l args.toArray).events P p n=n)(N:∀q h d,bo h d (ai q) (A q)):
  d_ P B r F h A λq=>h++[.Q (dY q T bk)]:=
 .ext M D λd j=>by
  have v:cA h d h {d with a:=d.a.alloc (.cells #[bk] T)}:=⟨by simp,λf g _=>hY _ _ g,λ_ _ _ x=>x,λ_ _ _ _=>rfl,λL E f g=>.inr ⟨L,E,g⟩,λO bR L o u=>⟨bR,L,o,u,.refl _ _⟩,rfl,rfl,rfl,rfl⟩
  have R:∀r,d.n d.a.heap.size r=k:=λr=>by
   cases t:d.n d.a.heap.size r with
   |none=>rfl
   |some ai=>exact absurd (j.block t) (Nat.lt_irrefl _)
  have o:=(j.cF (a5:=d.a.alloc (.cells #[bk] T)) (b0:=d.n) Q (λf g=>hY d.a _ g) (λf g r=>rfl) (λf g r ai t=>by have:=j.block t;omega) a a a).1;obtain⟨C,y⟩:=o.bL (bR:=.Q (dY d.a.heap.size T bk)) (L:=⟨.pointer (b ⟨d.a.heap.size,0,k⟩),[d.a.heap.size]⟩) v rfl j
   ⟨λf=>if f=d.a.heap.size then b (.cells #[bk] T (0,0))else k,⟨rfl,by simp,λf g=>by grind⟩,λf r g=>by
    by_cases l:f=d.a.heap.size
    .subst l;simp only[cN]at g;grind[kI]
    grind,λf=>by by_cases l:f=d.a.heap.size<;>simp[l],λf g r=>by grind⟩
   (λf g=>by simp_all)
  exact⟨d.a.heap.size,_,_,K d.a,N _ _ _,C,y,λn z x=>.inl J⟩
def dY.own{a:Nat}(n:cH l h=b (.Q (dY a T ai)))(bc:aZ h d):d.a.heap[a]?=b (.cells #[ai] T (0,0))/\d.a.cell? ⟨a,0,k⟩=b ai/\(∀e,hD d ⟨.cell ⟨a,e,k⟩,m,m⟩)/\∀e,hD d ⟨.cell ⟨a,e,k⟩,i,m⟩:=by have ao:=dL n;have p:l<c d.m:=fk;have f:=bu p;generalize d.m[l]=L at f;obtain⟨q,⟨u,j,v⟩,s,t,r⟩:=bc.box l _ L ao f;have o:=s a _ j;have g:a∈L.V:=(t a).2 J;exact⟨o,by simp[aJ,o],λe=>nM (bZ f) g,λe=>l' (bZ f) g (r a g _)⟩
def dY.br{l e:Nat}{j:ab}{r bk:I}(g:cH l h=b (.Q (dY e j r)))(bc:aZ h d):aZ (h.set l (.Q (dY e j bk))) {d with a:=d.a.setRow e #[bk]}/\cA h d (h.set l (.Q (dY e j bk))) {d with a:=d.a.setRow e #[bk]}:=by
 have g:=dL g;have v:l<c d.m:=fk;have q:=bu v;generalize d.m[l]=L at q;obtain⟨t,⟨o,p,D⟩,s,x,A⟩:=bc.box l _ L g q;have B:e∈L.V:=(x e).2 J;have u:=s e _ p;have w:∀f,f≠e->(d.a.setRow e #[bk]).heap[f]?=d.a.heap[f]?:=λf n=>setRow_other d.a e f _ n;have z:=setRow_heap d.a e #[r] #[bk] j (0,0) u;have y:d.m.set l L=d.m:=kT;have E:=bc.br (l:=l) (fN:=dY e j bk) (b7:=L) (a5:=d.a.setRow e #[bk]) g q a Q
  (λf n F=>w f J) (λf n=>.inl n)
  ⟨λf=>if f=e then b (.cells #[bk] j (0,0))else k,⟨o,by simp,λf n=>by grind⟩,λf C n=>by grind,λf=>by grind⟩ a a a
 grind
def d_.gM{p:ar}{l:Array I->Sem I}{args:e I}{bk:I}{A:s}(z:Nat){n:Nat}(o:cH z h=b (.Q (dY n T bk)))(y:hd P B r F h p args)(t:iz P p l)(w:∀j,j.cell? ⟨n,0,k⟩=b bk->(l args.toArray).run P j=.ok ai j/\∀a,∀g∈(l args.toArray).events P j a,g∈a∨g=⟨.cell ⟨n,0,k⟩,m,m⟩)(C:∀f,bo h f ai A):d_ P B r F h (λ_:Unit=>A) λ_=>h:=
 .ext y t λf d=>by obtain⟨_,x,D,_⟩:=dY.own o d;obtain⟨u,q⟩:=w f.a x;exact⟨(),f,ai,u,C f,d,.refl _ _,λa g v=>(q a g v).imp id λE=>by grind⟩
def d_.iC{u:ar}{p:Array I->Sem I}{args:e I}{bk BT:I}{A:s}(v z:Nat){f o:Nat}{n:ab}(g:cH v h=b (.Q (dY f T BT)))(w:cH z h=b (.Q (dY o n bk)))(J:hd P B r F h u args)(y:iz P u p)(D:∀j,j.heap[f]?=b (.cells #[BT] T (0,0))->j.cell? ⟨o,0,k⟩=b bk->(p args.toArray).run P j=.ok ai (j.setRow f #[bk])/\∀a,∀l∈(p args.toArray).events P j a,l∈a∨l=⟨.cell ⟨o,0,k⟩,m,m⟩∨l=⟨.cell ⟨f,0,k⟩,i,m⟩)(M:∀h q,bo h q ai A):d_ P B r F h (λ_:Unit=>A) λ_=>h.set v (.Q (dY f T bk)):=
 .ext J y λq d=>by obtain⟨x,_,_,K⟩:=dY.own g d;obtain⟨_,E,N,_⟩:=dY.own w d;obtain⟨C,Q⟩:=D q.a x E;obtain⟨t,t2⟩:=dY.br (bk:=bk) g d;refine⟨(),_,ai,C,M _ _,t,t2,λa l O=>?_⟩;grind
def g.cu{N:ι->s}{d:ι->e Y}(S:nj all F r=i)(ah:eU B r.dst=i)(T:d_ P B r F h N d)(U:∀p,g q B a7 (.ar all bw::ax) .normal (fy r.dst (N p) F) (d p)):g q B a7 (.ar all (r::bw)::ax) .normal F h:=by
 intro aj Q J o R D w O idx n a C;cases idx with
 |nil=>exact a.elim
 |cons ai idx=>
 refine pP n a.1 (jY S _ _ _ J) λaf x=>?_;have l:=o.rely x;have f:=J.rely x o;obtain⟨p,ad,t,ae,A,j,ag,K,M,Z⟩:=T af Q f l;have z:=M.tolU l;refine⟨ad,t,ae,A,j,⟨⟨h,d p,l,K,M⟩,Z⟩,?_⟩;refine U p t _ ?_ K R D w O idx n a.2 λV u E v X y j I=>C V u E v X y j ((x.aH.trans z).trans I);cases W:r.dst with
 |none=>exact f.mono z l.len
 |some ab=>exact(f.mono z l.len).put (kE ah ab W) ag
def g.iB(f:Nat){n:ab}{o:e D}(A:look F f=aL (.bR n (.U o)))(s:∀t:Addr,g q B a7 (.code u::ax) .normal ((f,ce (.iface n (.pointer (b t))))::F) h):g q B a7 (.code u::ax) .normal F h:=by
 refine bX.dQ (ι:=Addr) (c':=λt=>(f,ce (.iface n (.pointer (b t))))::F) (aO:=λ_=>h) (λJ w l r=>?_) s;have d:=l.aC f;rw[A]at d;have d:=b2 d;generalize z:w.tmps.getD f E=O at d;cases d with
 |@bR _ v _ p C=>
  cases p with
  |U x j K M N=>
   refine⟨⟨x,j,k⟩,J,a,⟨l.size,l.defers,λv=>?_⟩,r,.refl _ _⟩;simp only[look];cases I:aa f v with
   |false=>exact l.aC v
   |true=>
    have y:=c1 I;subst y;rw[z];exact si
def g.gL(l:Nat){a:ab}{n:I}(o:look F l=aL (.bR a (.val n)))(j:g q B a7 (.ar all bw::ax) .normal ((l,ce (.iface a n))::F) h):g q B a7 (.ar all bw::ax) .normal F h:=by
 refine e1.le j λh t v u d=>?_;simp only[look];cases p:aa l u with
 |false=>exact d
 |true=>
  have r:=c1 p;subst r;rw[o]at d;have e:Rd t.n v (.bR a (.val n)):=d;cases e with
  |@bR _ w _ f s=>
   obtain rfl:=Rd.aM f;exact si
def g.hn(r f:Nat)(O:look F r=ba f 0)(e:cH f h=b (.cells T [.c .bj]))(v:∀a,g q B a7 (.code u::ax) .normal ((r,ce (.pointer (b ⟨a,0,k⟩)))::F) (h.set f (.Q (dY a T (.pointer k))))):g q B a7 (.code u::ax) .normal F h:=by
 refine bX.dQ (ι:=Nat) (c':=λa=>(r,ce (.pointer (b ⟨a,0,k⟩)))::F) (aO:=λa=>h.set f (.Q (dY a T (.pointer k)))) (λl R s bc=>?_) v;have e:=dL e;have D:f<c l.m:=fk;have p:=bu D;generalize l.m[f]=L at p;obtain⟨a,z,rfl,S,K,C⟩:=bc.box f _ L e p
 match z,K with
 |[N],⟨w,_⟩=>
  have w:Rd l.n N .bj:=w;cases w;obtain⟨M,o⟩:=bc.bQ (b0:=l.n) (a5:=l.a) (dN:=.Q (dY a T (.pointer k))) (b7:=⟨.pointer (b ⟨a,0,k⟩),[a]⟩) e p rfl (bE _) (λ_ _ _=>rfl) (λ_ _ _ _=>rfl) (λ_ _ _ A=>A) bc.mem (λj n=>⟨.inl n,bc.lt _ (bZ p) j n⟩) rfl rfl rfl
   ⟨λj=>if j=a then b (.cells #[.pointer k] T (0,0))else k,⟨rfl,by simp,λj n=>by grind⟩,λj J n=>by grind,λj=>by by_cases t:j=a<;>simp[t],λj n J=>by grind⟩
  refine⟨a,{l with m:=l.m.set f ⟨.pointer (b ⟨a,0,k⟩),[a]⟩},rfl,⟨s.size,s.defers.imp λ_ d=>d.mono o.ext,λy=>?_⟩,M,o⟩;simp only[look];cases n:aa r y with
  |false=>exact(s.aC y).mono o.ext bc.len
  |true=>
   have t:=c1 n;subst t;have d:=s.aC r;rw[O]at d;obtain⟨_,U,Q,x,I,E⟩:=(d:ck h l _ (.ptr f 0));rw[p]at x;cases x;cases I;rw[E];exact si
end
def aZ.eJ{a6:e Y}{o:Nat}{f:dy}(l:aZ (a6++[.Q (cg T o f p O)]) d)(x:fM o p es O)(J:jj a6.length a6=i):
  ∃h:aj,aZ a6 h/\eg d h/\Rd h.n (cT f p) (.M m o p es)/\∀{g:e Y} {n:aj},c6 g n (a6++[.Q (cg T o f p O)]) d->g.length<=a6.length->c6 g n a6 h:=by
 have ao:(a6++[Y.Q (cg T o f p O)])[a6.length]?=b (.Q (cg T o f p O)):=Q
 obtain⟨L,b0,D,C,y,A,V,S⟩:=cg.eP ao es (λz q=>⟨x.dN z q,λU R E X v N=>by
  obtain⟨Z,W,ab⟩:=x.cd z q R E v
  grind⟩) d l
 obtain⟨B,s⟩:=l.bQ (b0:=b0) (a5:=d.a) (dN:=.t) (b7:=⟨L.v,[]⟩) ao D rfl (bE _) (λ_ _ _=>rfl) (λu _ j w=>y u j w) C A Q rfl rfl rfl M;have F:(a6++[Y.Q (cg T o f p O)]).set a6.length .t=a6++[.t]:=Q;rw[F]at B s;refine⟨_,B.drop (bw:=[.t]) J,⟨a,C,λu j w=>y u (j L (bZ D)) w,A,λu j=>?_⟩,S,λ{g n} t r=>(t.trans (s.tolU l)).drop (bw:=[.t]) r⟩;rcases j with j|⟨b7,I,j⟩
 .exact .inl j
 have K:=gE I;grind
def bG.eJ{P:aw}{d:Type}{C:al P}{E:ar}{args:e s}{l:e Y}{a6:d->e Y}{K o:Nat}{p:d->Nat}{f:d->dy}{O:d->e I}{es:d->Nat->e D}(F:bG C E args l (λa=>ce (cT (f a) (p a))) (λa=>a6 a++[.Q (cg K o (f a) (p a) (O a))]))(Q:∀a,fM o (p a) (es a) (O a))(R:∀a,jj (c (a6 a)) (a6 a)=i)(N:∀a,c l<=c (a6 a)):bG C E args l (λa=>aL (.M m o (p a) (es a))) a6:=by refine⟨F.1,λT z y w M t v=>F.2 T z y w M t λa u J U x g j B=>?_⟩;obtain⟨A,n,h,q,r⟩:=j.eJ (Q a) (R a);have S:J=cT (f a) (p a):=Rd.aM g;exact .aK h (v a u J A (x.mono h.mem) (by rw[S];exact q) n (r B (N a)))
section
open Go.Conc
def fP(e:aj):Prop:=∀a d f,e.n a d=b f->e.a.cell? ⟨a,d,k⟩=b f
def iA(a:Nat->Prop):Go.Loc->Prop
  |.cell d=>a d.block
  |.obj e=>a e
  |_=>False
structure gb(u:Nat->Prop)(d:aj):Prop where
  own:∀j,u j->¬d.own j
  m:∀j,u j->∀L∈d.m,j∉L.V
  n:∀j,u j->∀r,d.n j r=k
  lt:∀j,u j->j<d.a.heap.size
section
variable {u:Nat->Prop}
def gb.step(g:gb u d)(f:cA h d aO au):gb u au:=by
  refine⟨λa e=>by rw[f.own];exact g.own a e,λa e L o l=>?_,λa e q=>by rw[f.ba a (g.lt a e) (g.m a e)];exact g.n a e q,λa e=>ej (g.lt a e) f.size⟩;rcases f.bp L o a l with j|⟨p,n,j⟩
  · exact absurd (g.lt a e) (oC.2 j)
  · exact g.m a e p n j
theorem gb.aK(g:gb u d)(j:eg d au):gb u au:=by
  have l:∀a,u a->¬(au.own a∨∃L∈au.m,a∈L.V):=λa e f=>by
    rcases j.blk a f with f|⟨L,h,f⟩
    · exact g.own a e f
    · exact g.m a e L h f
  exact⟨λa e f=>l a e (.inl f),λa e L h f=>l a e (.inr ⟨L,h,f⟩),λa e n=>by rw[j.ba a (g.m a e)];exact g.n a e n,λa e=>by rw[j.a];exact g.lt a e⟩
def gb.bY(f:gb u d)(g:mE d au):gb u au:=by
  refine⟨λa e=>by rw[g.own];exact f.own a e,λa e=>by rw[g.m];exact f.m a e,λa e h=>?_,λa e=>by rw[g.a];exact f.lt a e⟩;cases j:au.n a h with
  |none=>rfl
  |some l=>rw[<-g.eQ a h l j,f.n a e h]
def gb.at(a:gb u d)(e:Nat):gb u {d with a:=d.a.at e}:=⟨a.own,a.m,a.n,a.lt⟩
def fP.at(e:fP d)(a:Nat):fP {d with a:=d.a.at a}:=e
theorem fP.aK(a:eg d au):fP au:=λf g h e=>by rw[a.a];exact a.cell f g h e
def fP.bY(j:fP d)(e:mE d au):fP au:=λa f g h=>by rw[e.a];exact j a f g (e.eQ a f g h)
def fP.lt(g:fP d){e:Nat}(f:d.n j e=b ai):j<d.a.heap.size:=by
  have:=g j e ai f;rcases dJ j d.a.heap.size with a|a
  · exact a
  · simp[aJ,ye a]at this
def cL.at(e:fP d)(a:Nat):cL d {d with a:=d.a.at a}:=⟨rfl,rfl,rfl,bE _,λ_ _=>rfl,e,rfl,rfl,rfl⟩
def N8{p:ay}(q:aZ h d)(r:gb u d)(g:hD d p){s:Nat}(ao:d.a.heap.size<=s):EvL (iA u) s p:=by
  obtain⟨t,wr,y⟩:=p;cases t with
  |cell o=>
    obtain⟨l,n,a⟩:=g;simp only at l n a;subst l;have key:¬u o.block/\o.block<d.a.heap.size:=by
      rcases a with a|⟨⟨L,j,a⟩,_⟩|⟨_,A,a⟩
      · exact a.elim
      · exact⟨λf=>r.m _ f L j a,q.lt L j _ a⟩
      · refine⟨λf=>?_,fP.lt q.mem a⟩
        rw[r.n _ f]at a;cases a
    exact evL_cell o wr key.1 (ej key.2 ao)
  |obj z=>
    obtain⟨l,n⟩:=g;simp only at l n;subst l;obtain⟨L,j,a⟩:=n.resolve_left id;refine⟨λf e v=>?_,by simp,by simp,?_⟩
    · simp[aN,MemAct.touch?]at e
      subst e;exact absurd a (r.m _ v L j)
    · simp[aN,MemAct.low,Loc.low]
      exact ej (q.lt L j _ a) ao
  |mark x=>
    simp only[hD]at g;rcases g with rfl|⟨w,rfl⟩
    · exact⟨λf e=>by simp[aN,MemAct.touch?]at e,by simp,by simp,by simp[aN,MemAct.low]⟩
    · exact⟨λf e=>by simp[aN,MemAct.touch?]at e,by simp,by simp,by simp[aN,MemAct.low]⟩
  |_=>exact g.elim
end
def lR(d:Trace):Prop:=∀a,NoRelease a d
def lR.app{f:Trace}(j:lR f){h:Nat}{fn:ar}{pos:String}{a:Array ay}(o:∀g∈a,∀d,g.loc≠.mark (.release d)):lR (f++MemOp.ofEvents h fn pos a):=
  λd=>(j d).app λn e l=>by grind[Go.Conc.mem_ofEvents,Go.ConcR.loc_of_ofEvent]
def N9{a:ay}(h:hD d a)(g:Addr):a.loc≠.mark (.release g):=by intro e;obtain⟨loc,wr,l⟩:=a;simp only at e;subst e;rcases h with f|⟨j,f⟩<;>cases f
def Gy{a:ay}(f:a.mute=i)(e:Addr):a.loc≠.mark (.release e):=by intro d;obtain⟨loc,wr,g⟩:=a;simp only at d;subst d;simp[Event.mute]at f
def j1(P:aw)(s:ae)(g:aj)(p:ae->aj->Prop):Prop:=
  ∀(n:Nat->Prop) (d:Array ae) (ds:Option (Nat×Nat)) (h:Trace) (t:Nat->Nat),fP g->d[0]?=b s->Leavers P h d t->Past (iA n) g.a.heap.size h->gb n g->lR h ->
    ∃(o:Nat) (l:Nat->Prop) (j:Array ae) (e:ae) (a:aj) (q:Option (Nat×Nat)) (f:Trace) (r:Nat->Nat),
      runNT P o (crowd d g.a ds) h=(.next (crowd j a.a q),f)/\fP a/\j[0]?=b e/\Leavers P f j r/\Past (iA l) a.a.heap.size f/\gb l a/\lR f/\p e a
def al.a8(P:aw):al P:={bW:=i,rely:=λd a=>cL d a/\∃e,a={d with a:=d.a.at e},cQ:=j1 P,bt:=λf=>f.1,dt:=True}
instance (P:aw):(al.a8 P).bT:=⟨M⟩
theorem Bh{P:aw}:∀(d a:Nat) {f h:Machine} {j g:Trace},runNT P d f j=(.next h,g)->runNT P (d+a) f j=runNT P a h g
  |0,a,f,h,j,g,e=>by simp[runNT]at e;grind
  |d+1,a,f,h,j,g,e=>by
    rw[show d+1+a=(d+a)+1 by omega];simp only[runNT]at e⊢;cases n:stepT P f with
    |mk p l=>
      rw[n]at e;cases p with
      |next o=>exact Bh d a e
      |ended q r=>grind
def j1.trans{l:ae->aj->Prop}(w:j1 P X d l)(A:∀a e,l a e->j1 P a e bg):j1 P X d bg:=by intro s f ds N K S E O C D R;obtain⟨p,t,u,a,e,z,B,n,x,g,Q,I,M,T,r,J⟩:=w s f ds N K S E O C D R;obtain⟨o,q,v,F,j,y,t2,h,k1,U⟩:=A a e J t u z B n g Q I M T r;exact⟨p+o,q,v,F,j,y,t2,h,by grind[Bh],U⟩
def j1.j0{ag:ae->aj->Prop}(ab:X.status=.running)(E:∀(p:Nat->Prop) (e:Array ae) (u:Nat) (ds:Option (Nat×Nat)) (g:Trace) (j:Nat->Nat),fP d->e[0]?=b X->Leavers P g e j->Past (iA p) d.a.heap.size g->gb p d->lR g ->
      ∃(w:Array ae) (I:ae) (C:aj) (f:Array MemOp),runT P (crowd e (d.a.at u) ds) 0=(.next (crowd w C.a ds),f)/\fP C/\w[0]?=b I/\Leavers P (g++f) w j/\Past (iA p) C.a.heap.size (g++f)/\gb p C/\lR (g++f)/\ag I C):j1 P X d ag:=by
  intro p e ds g j;have key:∀(S:Nat) (e:Array ae) (u:Nat) (ds:Option (Nat×Nat)) (g:Trace) (j:Nat->Nat),Go.ConcN.sumTo e.size j<=S->fP d->e[0]?=b X->Leavers P g e j->Past (iA p) d.a.heap.size g->gb p d->lR g ->
      ∃(V:Nat) (R:Nat->Prop) (y:Array ae) (l:ae) (n:aj) (t:Option (Nat×Nat)) (D:Trace) (Y:Nat->Nat),
        runNT P V (crowd e (d.a.at u) ds) g=(.next (crowd y n.a t),D)/\fP n/\y[0]?=b l/\Leavers P D y Y/\Past (iA R) n.a.heap.size D/\gb R n/\lR D/\ag l n:=by
    intro S;induction S with
    |zero=>?_
    |succ S aq=>?_
    all_goals
      intro e u ds g j aJ M H r L N T;have aA:∀X∈e,awake X:=by
        intro q ad;obtain⟨h,o,rfl⟩:=yf.1 ad;rcases mP h with rfl|ak
        · grind[awake_of]
        · exact awake_of ((r.old h _ ak (gW o)).status.elim .inl λq=>.inr (.inr q))
      obtain⟨h,q,d2,t,o,au,an⟩:=crowd_pick (P:=P) (w:=d.a.at u) (sl:=ds) aA ⟨0,X,H,ab⟩;rw[show(d.a.at u).at d2=d.a.at d2 from a]at an;rcases mP h with rfl|ak
      · obtain⟨w,I,C,f,k1,W,aE,ah,ai⟩:=E p e d2 t g j M H r L N T
        exact⟨1,p,w,I,C,t,g++f,j,by simp only[runNT,an,k1],W,aE,ah,ai⟩
      · have F:=r.old h q ak o
        have aB:(h==0)=m:=J;have az:h<e.size:=(hM.1 o).1;cases U:j h with
        |zero=>rw[U]at F;rw[F.1]at au;cases au
        |succ v=>
          rw[U]at F;rcases F with⟨aH,_⟩|⟨_,l,es,ar,s,aw⟩
          · grind
          have aM:Go.ConcN.sumTo e.size (Go.ConcN.upd j h v)+(v+1)=Go.ConcN.sumTo e.size j+v:=by have:=Go.ConcN.sumTo_upd j v id az;simpa[U]using this
          first
          | (exfalso;omega)
          | (have aK:=runT_crowd_go (P:=P) (sl:=t) (i:=h) o (by rw[aB];exact s (d.a.at d2))
             have ax:((e.map (woken P q l (d.a.at d2))).setIfInBounds h l).size=e.size:=Q;obtain⟨V,R,y,aC,n,ay,D,Y,k1,W⟩:=aq ((e.map (woken P q l (d.a.at d2))).setIfInBounds h l) d2 t (g++MemOp.ofEvents h q.frame.fn q.frame.place es) (Go.ConcN.upd j h v) J M
              (by grind[woken_run])
              ⟨λO aN z B=>by
                by_cases ao:h=O
                · grind[Go.ConcN.upd_same,Deaf_own]
                · rw[nz ao,Array.getElem?_map]at B
                  obtain⟨aL,af,rfl⟩:=pL.1 B;have G:=r.old O aL z af;rw[woken_quitsD G,Go.ConcN.upd_ne j v (Ne.symm ao),Deaf_other g ao _ (λal A=>by grind[Go.Conc.mem_ofEvents])];exact G,λO z=>by
                rw[Deaf_other g (g':=h) J _ (λal A=>by grind[Go.Conc.mem_ofEvents])]
                exact r.above O J⟩
              (L.mute x ar) N (T.app λaG Z aF=>Gy (ar aG Z) aF)
             exact⟨V+1,R,y,aC,n,ay,D,Y,by simp only[runNT,an,aK];exact k1,W⟩)
  intro M H r L N T;have:=key _ e d.a.drawn ds g j (bE _) M H r L N T
  rwa [show d.a.at d.a.drawn=d.a from a]at this
def _root_.Go.Conc.Leavers.own{f:ae}{n:Trace}{q:Nat->Nat}(p:Leavers P n gs q){e:Array MemOp}(h:∀d∈e,d.g=0)(u:0<gs.size):Leavers P (n++e) ((gs.map (woken P X f K)).setIfInBounds 0 f) q:=
  ⟨λl v g j=>by
    have r:0≠l:=x;rw[nz r,Array.getElem?_map]at j;obtain⟨t,s,rfl⟩:=pL.1 j;have o:=p.old l t g s;rw[woken_quitsD o,Deaf_other n x _ (λd a=>h d a)];exact o,λl g=>by
    rw[Deaf_other n (g':=0) J _ (λd a=>h d a)]
    exact p.above l J⟩
def cf.a8{P:aw}{Q:ae->aj->Prop}{A:ae}{g:aj}(F:cf (al.a8 P) Q A g):j1 P A g Q:=by
  induction F with
  |stop F=>intro j e ds u t s h p o q y;exact⟨0,j,e,_,_,ds,u,t,a,s,h,p,o,q,y,F⟩
  |aK d _ n=>
    intro j e ds u t s h p o q y;have:=n j e ds u t (.aK d) h p (by rw[d.a];exact o) (q.aK d) y
    rwa [d.a]at this
  |bY _ d _ n=>
    intro j e ds u t s h p o q y;have:=n j e ds u t (s.bY d) h p (by rw[d.a];exact o) (q.bY d) y
    rwa [d.a]at this
  |cQ M _ n=>exact j1.trans M n
  |@step A g D w X N I J _ n=>
    refine j1.trans (j1.j0 (ag:=λv z=>∃x,(al.a8 P).rely g x/\v=D x/\z=w x) N λj e l ds u t s h p o q Z=>?_) λv z ⟨x,k1,C,U⟩=>by subst C U;exact n x k1
    have B:(al.a8 P).rely g {g with a:=g.a.at l}:=⟨cL.at s l,l,rfl⟩;obtain⟨⟨af,V,K,ad,r⟩,T⟩:=J _ B;have ab:0<e.size:=(hM.1 h).1;have S:gb j {g with a:=g.a.at l}:=q.at l;exact⟨_,_,w {g with a:=g.a.at l},_,runT_crowd_go (P:=P) (sl:=ds) (i:=0) h (show ap P (0==0) A (g.a.at l)=_ from I _ B),ad.mem,by grind,
      p.own (λY R=>by grind[Go.Conc.mem_ofEvents]) ab,((o.mono r.size).own λE O=>N8 K S (T E O) r.size),S.step r,Z.app λE O W=>N9 (T E O) W,_,B,rfl,rfl⟩
inductive b5 where
 |leaf
 |node (ac:aj->b5)
def b5.lt:b5->b5->Prop
 |_,.leaf=>False
 |e,.node a=>∃d,e=a d∨b5.lt e (a d)
def b5.e1:∀g:b5,Acc b5.lt g
 |.leaf=>⟨_,λ_ d=>d.elim⟩
 |.node e=>⟨_,λ_ ⟨f,a⟩=>a.elim (λa=>a▸b5.e1 (e f)) λd=>(b5.e1 (e f)).inv d⟩
def b5.de:Nat->b5
 |0=>.leaf
 |a+1=>.node λ_=>b5.de a
def b5.gg(d:Nat)(e:aj):b5.lt (b5.de d) (b5.de (d+1)):=⟨e,.inl a⟩
def uW(f:Nat)(e s:Nat->b5):Prop:=∃a,a<f/\b5.lt (e a) (s a)/\∀d,d≠a->e d=s d
def IW:∀d,WellFounded (uW d)
 |0=>⟨λ_=>⟨_,λ_ ⟨f,g,_⟩=>absurd g (gY f)⟩⟩
 |d+1=>by
  have o:=IW d;have key:∀e:b5,∀s:Nat->b5,s d=e->Acc (uW (d+1)) s:=by
   intro e;induction b5.e1 e with
   |intro e _ r=>
    intro s;induction o.apply s with
    |intro s _ n=>
     intro t;refine⟨_,λq g=>?_⟩;obtain⟨f,p,l,h⟩:=g;rcases dJ f d with j|j
     .exact n q ⟨f,j,l,h⟩ J
     grind
  exact⟨λs=>key _ s a⟩
section
def fX(g:al P)(n:aj->aj->Array ay->Prop)(l:ae->aj->Prop):b5->ae->aj->Prop
 |.leaf,f,e=>l f e
 |.node o,f,e=>l f e∨(∃a,(eg e a∨(g.dt/\mE e a))/\fX g n l (o e) f a) ∨
   (f.status=.running/\∀h,g.rely e h->∃j a d,ap P g.bW f h.a=.go j a.a d/\(jB h a d∨n h a d)/\fX g n l (o h) j a)
variable {q:al P}{T:aj->aj->Array ay->Prop}{u:ae->aj->Prop}
def db(e:al P)(a:aj->aj->Array ay->Prop)(d:ae->aj->Prop)(f:ae)(h:aj):Prop:=∃g,fX e a d g f h
theorem db.aK(e:eg d au)(a:db q T bg X au):db q T bg X d:=by obtain⟨f,a⟩:=a;exact⟨.node λ_=>f,.inr (.inl ⟨au,.inl e,a⟩)⟩
def db.bY(a:q.dt)(f:mE d au)(e:db q T bg X au):db q T bg X d:=by obtain⟨g,e⟩:=e;exact⟨.node λ_=>g,.inr (.inl ⟨au,.inr ⟨a,f⟩,e⟩)⟩
def db.step(p:X.status=.running)(l:∀f,q.rely d f->∃g a e,ap P q.bW X f.a=.go g a.a e/\(jB f a e∨T f a e)/\db q T bg g a):db q T bg X d:=by
 classical
 have h:∀f,∃n:b5,q.rely d f->∃g a e,ap P q.bW X f.a=.go g a.a e/\(jB f a e∨T f a e)/\fX q T bg n g a:=by
  intro f;by_cases j:q.rely d f
  .obtain⟨g,a,e,b8,cY,n,o⟩:=l f j;exact⟨n,λ_=>⟨g,a,e,b8,cY,o⟩⟩
  exact⟨.leaf,λl=>absurd l j⟩
 exact⟨.node λf=>Classical.choose (h f),.inr (.inr ⟨p,λf j=>Classical.choose_spec (h f) j⟩)⟩
def db.bind(e:db q T bg X d)(j:∀X d,bg X d->db q T u X d):db q T u X d:=by
 obtain⟨l,e⟩:=e;induction l generalizing X d with
 |leaf=>exact j X d e
 |node r g=>
  rcases e with e|⟨n,a,f⟩|⟨h,e⟩
  .grind
  .rcases a with a|⟨e4,a⟩
   .exact .aK a (g _ f)
   exact .bY e4 a (g _ f)
  exact .step h λp o=>by grind
def cf.toT(s:∀X d r,¬q.cQ X d r)(h:cf q bg X d):db q T bg X d:=by
 induction h with
 |stop h=>exact⟨.leaf,h⟩
 |step u v t o j l _ e=>exact .step o λg f=>⟨_,_,_,j g f,.inl (l g f),e g f⟩
 |aK a _ e=>exact .aK a e
 |bY n a _ e=>exact .bY n a e
 |cQ p _ _=>grind
def fX.bq(o:aj->Prop)(C:∀g d,eg g d->o g->o d)(A:q.dt->∀g d,mE g d->o g->o d):∀{D:b5}{s:ae}{g:aj},fX q T bg D s g->o g ->
  (∃d,o d/\bg s d)∨(s.status=.running/\∃d,o d/\∀n,q.rely d n->∃h j e p,ap P q.bW s n.a=.go h j.a e/\(jB n j e∨T n j e)/\fX q T bg p h j/\b5.lt p D)
 |.leaf,_,g,r,l=>.inl ⟨g,l,r⟩
 |.node E,s,g,r,l=>by
  rcases r with r|⟨d,x,y⟩|⟨I,r⟩
  .grind
  .have f:o d:=x.elim (λt=>C g d t l) λt=>A t.1 g d t.2 l;rcases fX.bq o C A y f with B|⟨B,j,F,J⟩
   .grind
   refine .inr ⟨B,j,F,λn z=>?_⟩;obtain⟨h,v,e,p,k1,u,w,K⟩:=J n z;exact⟨h,v,e,p,k1,u,w,g,.inr K⟩
  refine .inr ⟨I,g,l,λn z=>?_⟩;obtain⟨h,v,e,k1,u,w⟩:=r n z;exact⟨h,v,e,E n,k1,u,w,n,.inl a⟩
def db.goes{cU:af->af->Prop}{s:af->af->Array ay->Prop}{Stop:ae->af->Prop}(n:aj->Prop)(w:∀d e,n d->q.rely d e->n e)(r:∀d e,n d->q.rely d e->cU d.a e.a)(A:∀d f,n d->∀l,s d.a l f->l=d.a/\(jB d d f∨T d d f))(x:∀d,n d->q.rely d d)(y:∀h d,n d->Stop h d.a->db q T bg h d):
  ∀(t:Nat) (h:ae) (d:aj),n d->Goes P q.bW cU s Stop t h d.a->db q T bg h d
 |0,h,d,g,o=>y h d g (o d.a (r d d g (x d g)))
 |t+1,h,d,g,o=>by
  rcases o with o|⟨D,o⟩
  .grind
  refine .step D λe z=>?_;have j:=o e.a (r d e g z);have u:=w d e g z;cases v:ap P q.bW h e.a with
  |go p l f=>
   rw[v,goes_go]at j;obtain⟨C,E⟩:=j;obtain⟨rfl,B⟩:=A e f u l C;exact⟨p,e,f,a,B,db.goes n w r A x y t p e u E⟩
  |_=>rw[v]at j;exact j.elim
end
theorem cL.aK(g:cL d {d with a:=K})(f:eg d au):cL au {au with a:=K}:=by
 refine⟨a,a,a,by rw[f.a];exact g.size,λe h=>by rw[f.a];exact g.aG e (f.blk e h),λe j l n=>?_,by rw[f.a];exact g.os,by rw[f.a];exact g.tape,by rw[f.a];exact g.output⟩;have q:=f.cell e j l n;by_cases h:∃L∈d.m,e∈L.V
 .have:=g.aG e (.inr h);simp only[aJ]at q⊢;grind
 have:d.n e j=b l:=by rw[<-f.ba e (λL p o=>h ⟨L,p,o⟩)];exact n
 exact g.mem e j l this
def cL.bY(e:cL d {d with a:=K})(a:mE d au):cL au {au with a:=K}:=
 ⟨rfl,rfl,rfl,by rw[a.a];exact e.size,λf l=>by rw[a.a];exact e.aG f (by rw[<-a.own,<-a.m];exact l),λf g h j=>e.mem f g h (a.eQ f g h j),by rw[a.a];exact e.os,by rw[a.a];exact e.tape,by rw[a.a];exact e.output⟩
def cL.dZ(a:fP d):cL d d:=⟨rfl,rfl,rfl,bE _,λ_ _=>rfl,a,rfl,rfl,rfl⟩
def cL.fE(a:cL d {d with a:=K}):cL {d with a:=K} {d with a:=K}:=cL.dZ a.mem
def cL.trans{j g e:aj}(a:cL j g)(d:cL g e):cL j e:=
 ⟨d.m.trans a.m,d.n.trans a.n,d.own.trans a.own,i_ a.size d.size,λf h=>by rw[d.aG f (by rw[a.own,a.m];exact h),a.aG f h],λf n o l=>d.mem f n o (by rw[a.n];exact l),d.os.trans a.os,d.tape.trans a.tape,d.output.trans a.output⟩
end
section
open Go.Conc
open Go.ConcN (fork_knows RelBy)
open Go.ConcR (stA smA)
def hl:Go.Loc->Option Nat
 |.cell a=>b a.block
 |.obj d=>b d
 |_=>k
def Gp{a:Go.Loc}(e:a.isMemory=i):∃d,hl a=b d:=by cases a<;>simp[Go.Loc.isMemory]at e<;>exact⟨_,rfl⟩
def Wq{e:MemAct}{g:Touch}{f:Nat}(d:e.touch?=b g)(h:e.low f)(a:hl g.loc=b j):j<f:=by
 cases e with
 |access l=>
  simp[MemAct.touch?]at d;subst d;simp only at a;obtain⟨loc,wr,o⟩:=l;cases loc<;>simp[hl]at a<;>subst a<;>exact h
 |mark n=>
  cases n<;>simp[MemAct.touch?]at d<;>subst d<;>simp[hl]at a<;>subst a<;>exact h
 |_=>exact cF
structure gm where
 bl:Nat->Prop
 bA:Nat
 b:Nat
 J:Nat
 base:Nat
 aE:Nat
def nv(e:gm)(g:Nat->Nat)(f:Touch):Prop:=
 (∃a,f.loc=.cell a/\a.block=e.b/\f.kind≠.plain)∨(∃d,hl f.loc=b d/\g d=0/\d≠e.b/\d≠e.J/\¬e.bl d/\f.kind=.plain)
def mL(d:gm)(j:Nat->Nat)(l:Mem)(h:Nat)(a:Touch):Prop:=
 (∃f,a.loc=.cell f/\f.block=d.b/\a.kind=.atomic) ∨
 (a.kind=.plain/\((∃g,hl a.loc=b g/\j g=d.base+h)∨(∃e,a.loc=.cell ⟨d.J,e,k⟩/\d.aE*h<=e/\e<d.aE*h+d.aE)∨(a.write=m/\∃g e n,a.loc=.cell ⟨g,e,k⟩/\l g e=b n)))
structure ff(v:gm)(N:Nat->Nat)(ac:Nat->Mem)(w:Trace)(y bR:Nat):Prop where
 base:1<=v.base
 cH:N v.b=0
 cG:N v.J=0
 bN:v.J≠v.b
 dA:¬v.bl v.b
 ec:¬v.bl v.J
 ea:∀j,v.bl j->N j=0
 bm:∀A,A<y->∀j r ai,ac A j r=b ai->N j=0/\j≠v.J/\j≠v.b/\¬v.bl j
 bA:v.bA<=w.size
 dX:∀said,¬Race said w
 seen:∀op∈w,op.act.low bR
 old:∀f t,f<v.bA->touchAt w f=b t->t.loc.isMemory=i->Knows w 0 f∨(iA v.bl t.loc/\t.kind=.atomic)
 dS:∀A,A<y->∀f t,f<v.bA->touchAt w f=b t->t.loc.isMemory=i->Knows w (v.base+A) f∨(iA v.bl t.loc/\t.kind=.atomic)
 et:∀f t j,f<v.bA->touchAt w f=b t->hl t.loc=b j->N j=0
 new:∀f t,v.bA<=f->touchAt w f=b t->t.loc.isMemory=i->(w.g? f=b 0/\nv v N t)∨(∃A,A<y/\w.g? f=b (v.base+A)/\mL v N (ac A) A t)
 dW:∀A,A<y->∀f t,v.bA<=f->touchAt w f=b t->w.g? f=b 0->t.write=i->∀j r ai,t.loc=.cell ⟨j,r,k⟩->ac A j r=b ai->Knows w (v.base+A) f
 over:∀f X,f<v.bA->w.g? f=b X->X≠0->w.counts f->∃o,w.g? o=b 0/\HappensBefore w f o
section
variable {v:gm}{N ee:Nat->Nat}{ac:Nat->Mem}{w bk:Trace}{bR dN:Nat}
theorem xq{d:Touch}{a:Nat}(h:touchAt w f=b d)(e:w.g? f=b a):Knows w a f:=by
 obtain⟨j,g,_⟩:=touch_of h;have:j.g=a:=by simpa[Trace.g?,g]using e
 grind[knows_own]
def ff.low(h:ff v N ac w y bR){a:Touch}(e:touchAt w f=b a)(l:hl a.loc=b j):j<bR:=by obtain⟨n,g,d⟩:=touch_of e;exact Wq d (h.seen n (pK g)) l
def ff.ev(e:ff v N ac w y bR)(f:∀d,d<bR->ee d=N d)(ao:bR<=dN)(C:v.b<bR)(t:v.J<bR)(D:∀d,v.bl d->d<bR)(E:∀h,h<y->∀d r s,ac h d r=b s->d<bR):ff v ee ac w y dN:=by
 have I:∀l g,touchAt w l=b g->nv v N g->nv v ee g:=λl g n a=>by
  rcases a with a|⟨d,a,j,A⟩
  .exact .inl a
  exact .inr ⟨d,a,by rw[f d (e.low n a)];exact j,A⟩
 have F:∀h l g,touchAt w l=b g->mL v N (ac h) h g->mL v ee (ac h) h g:=λh l g n a=>by
  rcases a with a|⟨z,⟨d,a,j⟩|a⟩
  .exact .inl a
  .exact .inr ⟨z,.inl ⟨d,a,by rw[f d (e.low n a)];exact j⟩⟩
  exact .inr ⟨z,.inr a⟩
 refine⟨e.base,by rw[f _ C];exact e.cH,by rw[f _ t];exact e.cG,e.bN,e.dA,e.ec,λd p=>by rw[f d (D d p)];exact e.ea d p,λh B d r s x=>by rw[f d (E h B d r s x)];exact e.bm h B d r s x,
  e.bA,e.dX,λu q=>MemAct.low_mono ao (e.seen u q),e.old,e.dS,λl g d o n p=>by rw[f d (e.low n p)];exact e.et l g d o n p,λl g o n N=>?_,e.dW,e.over⟩
 rcases e.new l g o n N with⟨a,j⟩|⟨h,a,j,A⟩
 .grind
 grind
def ff.fg(a:ff v N ac w y bR):v.bA<=(w++bk).size:=i_ a.bA Q
theorem m0(a:f<w.size):(w++bk).g? f=w.g? f:=by simp[Trace.g?,getElem?_append_old a]
def ff.fo(p:ff v N ac w y bR)(h:Trace):∀a j,a<v.bA->(w++h).g? a=b j->j≠0->(w++h).counts a->∃g,(w++h).g? g=b 0/\HappensBefore (w++h) a g:=by
 intro a j e d f l;have o:=ej e p.bA;rw[m0 o]at d;obtain⟨g,n,q⟩:=p.over a j e d f ((counts_old o).1 l);have r:g<w.size:=by unfold Trace.g? at n;grind
 exact⟨g,by grind[m0],hb_app h q⟩
def H0{d:Nat->Prop}{a:Go.Loc}(f:iA d a)(e:hl a=b j):d j:=by cases a<;>simp[hl]at e<;>subst e<;>exact f
def ff.eg(n:ff v N ac w y bR){e:Nat}(l:e<y){d a:Touch}{said:Bool}(aG:nv v N a)(j:mL v N (ac e) e d)(e4:d.loc=a.loc)(h:d.kind=.plain∨a.kind=.plain∨(said=i/\d.kind=.said/\a.kind=.said))(s:a.kind=.plain->a.write=i->∀X r ai,a.loc=.cell ⟨X,r,k⟩->ac e X r≠b ai)(q:d.write=i∨a.write=i):False:=by
 have p:=n.base;rcases j with⟨g,ed,fH,jM⟩|⟨t,⟨u,ed,fH⟩|⟨r,ed,_⟩|⟨ed,X,r,ai,fH,jM⟩⟩
 .rcases aG with⟨f,f1,f2,f3⟩|⟨u,f1,f2,f3,_⟩
  .grind
  exact Ki
 .rcases aG with⟨f,f1,f2,f3⟩|⟨o,f1,f2,f3,_⟩
  .rw[e4,f1]at ed;exact Jz
  grind
 .rcases aG with⟨f,f1,f2,f3⟩|⟨o,f1,f2,f3,f4,_⟩
  .rw[<-e4,ed]at f1;cases f1;exact n.bN f2
  exact Ki
 obtain⟨B,x,z,A⟩:=n.bm e l X r ai jM;rcases aG with⟨f,f1,f2,f3⟩|⟨o,f1,f2,f3,f4,_,f5⟩
 .grind
 grind
def ff.e6(n:ff v N ac w y bR)(G:∀a∈bk,a.g=0)(J:∀a∈bk,a.act.low bR)(K:∀a∈bk,∀e,a.act.touch?=b e->e.loc.isMemory=i->nv v N e)(L:∀a∈bk,∀e,a.act.touch?=b e->e.kind=.plain->e.write=i->∀j,j<y->∀l x z,e.loc=.cell ⟨l,x,k⟩->ac j l x≠b z):ff v N ac (w++bk) y bR:=by
 have M:∀{f:Nat} {e:Touch},touchAt (w++bk) f=b e->(f<w.size/\touchAt w f=b e)∨(w.size<=f/\(w++bk).g? f=b 0/\∃a∈bk,a.act.touch?=b e):=by
  intro f e o;obtain⟨j,q,D⟩:=touch_of o;rcases getElem?_append_cases q with⟨bL,T⟩|⟨bL,d⟩
  .grind [touchAt_of]
  exact .inr ⟨bL,by simp[Trace.g?,q,G j d],j,d,D⟩
 refine⟨n.base,n.cH,n.cG,n.bN,n.dA,n.ec,n.ea,n.bm,n.fg,λsaid=>?_,seen_app n.seen J,λf e bL o N=>?_,λj q f e bL o N=>?_,λf e l bL o A=>?_,λf e bL o N=>?_,λj q f e bL o E S l x z O H=>?_,n.fo bk⟩
 .refine noRace_append (n.dX said) G λf e o a g l A r=>?_;have C:l.loc.isMemory=i:=by rw[<-r.1];exact r.2.1
  have aG:=K a g l A C;rcases dJ f v.bA with bL|bL
  .rcases n.old f e bL o r.2.1 with cI|⟨bi,B⟩
   .exact cI
   exfalso;obtain⟨W,t⟩:=Gp r.2.1;have R:=H0 bi t;rcases aG with⟨I,ed,fH,jM⟩|⟨F,ed,fH,jM,P,U,ax⟩
   .rw[r.1,ed]at t;simp only[hl,eA]at t;rw[<-t,fH]at R;exact n.dA R
   rw[r.1,ed]at t;grind
  rcases n.new f e bL o r.2.1 with⟨E,_⟩|⟨j,q,E,s⟩
  .grind [xq]
  exact(n.eg q aG s r.1 r.2.2.2 (λp h=>L a g l A p h j q) r.2.2.1).elim
 .have u:touchAt w f=b e:=Cg;exact(n.old f e bL u N).imp (·.app bk) id
 .have u:touchAt w f=b e:=Cg;exact(n.dS j q f e bL u N).imp (·.app bk) id
 .have u:touchAt w f=b e:=Cg;exact n.et f e l bL u A
 .rcases M o with⟨p,h⟩|⟨_,h,a,g,Q⟩
  .rw[m0 p];exact n.new f e bL h N
  grind
 rcases M o with⟨p,h⟩|⟨_,h,a,g,Q⟩
 .rw[m0 p]at E;exact(n.dW j q f e bL h E S l x z O H).app bk
 exfalso;rcases K a g e Q g3 with⟨I,ed,fH,jM⟩|⟨F,_,_,_,_,_,ax⟩
 .rw[O]at ed;cases ed;exact(n.bm j q l x z H).2.2.1 fH
 grind
def ff.hT(n:ff v N ac w y bR){t:Nat}(J:t<y)(W:∀j∈bk,j.g=v.base+t)(S:∀j∈bk,j.act.low bR)(ai:∀j∈bk,∀d,j.act.touch?=b d->d.loc.isMemory=i->mL v N (ac t) t d):ff v N ac (w++bk) y bR:=by
 have Y:=n.base;have ab:∀{e:Nat} {d:Touch},touchAt (w++bk) e=b d->(e<w.size/\touchAt w e=b d)∨(w.size<=e/\(w++bk).g? e=b (v.base+t)/\∃j∈bk,j.act.touch?=b d):=by
  intro e d p;obtain⟨x,z,af⟩:=touch_of p;rcases getElem?_append_cases z with⟨bL,ao⟩|⟨bL,s⟩
  .grind [touchAt_of]
  exact .inr ⟨bL,by simp[Trace.g?,z,W x s],x,s,af⟩
 refine⟨n.base,n.cH,n.cG,n.bN,n.dA,n.ec,n.ea,n.bm,n.fg,λsaid=>?_,seen_app n.seen S,λe d bL p N=>?_,λx z e d bL p N=>?_,λe d M bL p Q=>?_,λe d bL p N=>?_,λx z e d bL p C V M g l D P=>?_,n.fo bk⟩
 .refine noRace_append (n.dX said) W λe d p j E M Q A=>?_;have ad:M.loc.isMemory=i:=by rw[<-A.1];exact A.2.1
  have aG:=ai j E M Q ad;obtain⟨ar,u⟩:=Gp A.2.1;rcases dJ e v.bA with bL|bL
  .rcases n.dS t J e d bL p A.2.1 with I|⟨T,Z⟩
   .exact I
   exfalso;have F:=H0 T u;rw[A.1]at u;rcases aG with⟨R,ed,fH,jM⟩|⟨ah,⟨ak,ed,fH⟩|⟨g,ed,_⟩|⟨ed,q,g,l,fH,jM⟩⟩
   .rw[ed]at u;simp only[hl,eA]at u;rw[<-u,fH]at F;exact n.dA F
   .rw[ed]at u;simp only[eA]at u;rw[<-u]at F;rw[n.ea _ F]at fH;omega
   .rw[ed]at u;simp only[hl,eA]at u;rw[<-u]at F;exact n.ec F
   rw[fH]at u;simp only[hl,eA]at u;rw[<-u]at F;exact(n.bm t J q g l jM).2.2.2 F
  rcases n.new e d bL p A.2.1 with⟨C,H⟩|⟨x,z,C,B⟩
  ·
   by_cases U:d.write=i/\∃q g l,d.loc=.cell ⟨q,g,k⟩/\ac t q g=b l
   .obtain⟨f,q,g,l,o,h⟩:=U;exact n.dW t J e d bL p C f q g l o h
   exfalso;refine n.eg (said:=said) J H aG A.1.symm ?_ (λ_ L q g l r P=>U ⟨L,q,g,l,r,P⟩) A.2.2.1.symm;rcases A.2.2.2 with I|I|⟨f,o,h⟩
   .grind
   .grind
   grind
  by_cases ae:x=t
  .grind [xq]
  exfalso;obtain⟨r,_,V,G⟩:=A;rcases B with⟨R,ed,fH,jM⟩|⟨ah,⟨jb,ed,fH⟩|⟨g,ed,X,an⟩|⟨ed,q,g,l,fH,jM⟩⟩
  .rcases aG with⟨K,f1,f2,f3⟩|⟨f0,⟨jc,f1,f2⟩|⟨g,f1,_⟩|⟨f1,q,g,l,f2,f3⟩⟩
   .grind
   .rw[<-r,ed]at f1;simp only[hl,eA]at f1;rw[<-f1,fH,n.cH]at f2;omega
   .rw[<-r,ed]at f1;cases f1;exact n.bN fH
   rw[<-r,ed]at f2;cases f2;exact(n.bm t J q g l f3).2.2.1 fH
  .rcases aG with⟨K,f1,f2,f3⟩|⟨f0,⟨jc,f1,f2⟩|⟨g,f1,_⟩|⟨f1,q,g,l,f2,f3⟩⟩
   .rw[r,f1]at ed;exact Jz
   .grind
   .rw[r,f1]at ed;simp only[hl,eA]at ed;rw[<-ed,n.cG]at fH;omega
   rw[r,f2]at ed;simp only[hl,eA]at ed;rw[<-ed,(n.bm t J q g l f3).1]at fH;omega
  .rcases aG with⟨K,f1,f2,f3⟩|⟨f0,⟨jc,f1,f2⟩|⟨bi,f1,ag,aq⟩|⟨f1,q,bi,l,f2,f3⟩⟩
   .rw[<-r,ed]at f1;cases f1;exact n.bN f2
   .rw[<-r,ed]at f1;simp only[hl,eA]at f1;rw[<-f1,n.cG]at f2;omega
   .rw[<-r,ed]at f1;cases f1;rcases Nat.lt_or_gt_of_ne ae with f|f
    .have:=u3 v.aE (show x+1<=t from f);grind
    have:=u3 v.aE (show t+1<=x from f);grind
   rw[<-r,ed]at f2;cases f2;exact(n.bm t J _ _ l f3).2.1 a
  rcases aG with⟨K,f1,f2,f3⟩|⟨f0,⟨jc,f1,f2⟩|⟨bi,f1,ag,aq⟩|⟨f1,aj,bi,al,f2,f3⟩⟩
  .rw[<-r,fH]at f1;cases f1;exact(n.bm x z q g l jM).2.2.1 f2
  .rw[<-r,fH]at f1;simp only[hl,eA]at f1;rw[<-f1,(n.bm x z q g l jM).1]at f2;omega
  .rw[<-r,fH]at f1;cases f1;exact(n.bm x z _ _ l jM).2.1 a
  grind
 .have O:touchAt w e=b d:=Cf;exact(n.old e d bL O N).imp (·.app bk) id
 .have O:touchAt w e=b d:=Cf;exact(n.dS x z e d bL O N).imp (·.app bk) id
 .have O:touchAt w e=b d:=Cf;exact n.et e d M bL O Q
 .rcases ab p with⟨f,o⟩|⟨_,o,j,E,bg⟩
  .rw[m0 f];exact n.new e d bL o N
  grind
 rcases ab p with⟨f,o⟩|⟨_,o,_⟩
 .rw[m0 f]at C;exact(n.dW x z e d bL o C V M g l D P).app bk
 grind
def ff.mute(d:ff v N ac w y bR){X:Nat}(z:∀h∈bk,h.g=X)(l:∀h∈bk,h.act.low bR)(D:∀h∈bk,h.act.touch?=k):ff v N ac (w++bk) y bR:=by
 have old:∀{e:Nat} {f:Touch},touchAt (w++bk) e=b f->e<w.size/\touchAt w e=b f:=by intro e f g;obtain⟨E,C,B⟩:=touch_of g;grind[touchAt_of]
 refine⟨d.base,d.cH,d.cG,d.bN,d.dA,d.ec,d.ea,d.bm,d.fg,λsaid=>noRace_append (d.dX said) z λe f _ h p j q _=>J,seen_app d.seen l,λe f a g N=>(d.old e f a (old g).2 N).imp (·.app bk) id,
  λo n e f a g N=>(d.dS o n e f a (old g).2 N).imp (·.app bk) id,λe f j a g q=>d.et e f j a (old g).2 q,λe f a g N=>?_,λo n e f a g r t j u A s x=>?_,d.fo bk⟩
 .rw[m0 (old g).1];exact d.new e f a (old g).2 N
 rw[m0 (old g).1]at r;exact(d.dW o n e f a (old g).2 r t j u A s x).app bk
def ff.fX(h:ff v N ac w y bR){q r:MemOp}(s:q.g=0/\q.act=.go (v.base+y))(F:r.g=v.base+y/\r.act=.start)(C:Deaf w 0=0)(z:Deaf w (v.base+y)=0)(G:∀f t u,ac y f t=b u->N f=0/\f≠v.J/\f≠v.b/\¬v.bl f):ff v N ac (w++#[q,r]) (y+1) bR:=by
 have R:∀g∈#[q,r],g.act.touch?=k:=by
  intro g a;simp only[List.mem_toArray,ef,oz,pI]at a;rcases a with rfl|rfl
  .exact g3
  exact g3
 have M:∀g∈#[q,r],g.act.low bR:=by
  intro g a;simp only[List.mem_toArray,ef,oz,pI]at a;rcases a with rfl|rfl
  .exact g3
  exact g3
 have old:∀{j:Nat} {l:Touch},touchAt (w++#[q,r]) j=b l->j<w.size/\touchAt w j=b l:=by intro j l n;obtain⟨o,E,S⟩:=touch_of n;grind[touchAt_of]
 have p:∀o,o<y+1->∀f t u,ac o f t=b u->N f=0/\f≠v.J/\f≠v.b/\¬v.bl f:=λo E f t u A=>by
  rcases dJ o y with d|d
  .exact h.bm o d f t u A
  grind
 refine⟨h.base,h.cH,h.cG,h.bN,h.dA,h.ec,h.ea,p,h.fg,λsaid=>?_,seen_app h.seen M,λj l e n N=>(h.old j l e (old n).2 N).imp (·.app _) id,
  λo E j l e n N=>?_,λj l f e n B=>h.et j l f e (old n).2 B,λj l e n N=>?_,λo E j l e n D Q f t u O A=>?_,h.fo _⟩
 .have I:w++#[q,r]=(w++#[q])++#[r]:=J;rw[I];refine noRace_append (g:=v.base+y) (noRace_append (g:=0) (h.dX said) (λg a=>by grind) (λj l _ g a f B _=>J)) (λg a=>by grind) (λj l _ g a f B _=>?_);grind
 .rcases dJ o y with d|d
  .exact(h.dS o d j l e (old n).2 N).imp (·.app _) id
  obtain rfl:o=y:=x;exact(h.old j l e (old n).2 N).imp (fork_knows s F C z) id
 .rw[m0 (old n).1];rcases h.new j l e (old n).2 N with d|⟨o,d,K⟩
  .grind
  grind
 rw[m0 (old n).1]at D;rcases dJ o y with d|d
 .exact(h.dW o d j l e (old n).2 D Q f t u O A).app _
 obtain rfl:o=y:=x;exact fork_knows s F C z (xq (old n).2 D)
def ff.jD(h:ff v N ac w y bR)(H:Deaf w 0=0)(L:NoRelease (stA v.b) w){be:Nat}(M:w.act? be=b (.mark (.acquire (stA v.b))))(F:w.g? be=b 0)(K:w.heard be)(Q:∀e,e<y->∃l,RelBy (stA v.b) w (v.base+e) l/\l<be):Past (iA λp=>v.bl p∨p=v.b) bR w:=by
 have E:∀e,e<y->∀a,w.g? a=b (v.base+e)->w.counts a->HappensBefore w a be:=by
  intro e r a j o;obtain⟨l,t,C⟩:=Q e r;have S:HappensBefore w l be:=.single (.inr ⟨.marked C (.inr t.act) M (λU _ _=>L U),t.heard,K⟩);have X:a<=l:=Nat.le_of_not_lt λA=>t.after a A j o;rcases dJ a l with A|G
  .exact .trans (.single (.inl ⟨A,_,j,t.g⟩)) S
  grind
 have V:∀{u:Go.Loc},iA v.bl u->iA (λp=>v.bl p∨p=v.b) u:=λ{u} q=>by cases u<;>first|exact .inl q|exact q
 refine⟨h.dX,λa g n N=>?_,λa T j D o=>?_,H,h.seen⟩
 .rcases dJ a v.bA with d|d
  .exact(h.old a g d n N).imp id λ⟨f,x⟩=>⟨V f,x⟩
  rcases h.new a g d n N with⟨f,_⟩|⟨e,r,j,aG⟩
  .grind [xq]
  rcases aG with⟨R,ed,fH,jM⟩|⟨B,_⟩
  .exact .inr ⟨by rw[ed];exact .inr fH,jM⟩
  left;have o:w.counts a:=⟨g,n,N,.inl J⟩
  obtain⟨W,O,I⟩:=pL.1 F;exact⟨be,W,O,I,.inr (E e r a j o)⟩
 rcases dJ a v.bA with d|d
 .exact h.over a T d j D o
 obtain⟨g,n,N,z⟩:=o;rcases h.new a g d n N with⟨f,_⟩|⟨e,r,s,aG⟩
 .grind
 exact⟨be,F,E e r a s ⟨g,n,N,z⟩⟩
def ff.start{a:gm}{l:Trace}{n:Nat}{q:Nat->Mem}(f:Past (iA a.bl) n l)(aG:a.bA=l.size)(v:1<=a.base)(h:a.J≠a.b)(u:¬a.bl a.b)(s:¬a.bl a.J):ff a (λ_=>0) q l 0 n:=
 ⟨v,rfl,rfl,h,u,s,λ_ _=>rfl,λe d=>absurd d (gY e),by omega,f.clean,f.seen,λg o _ j p=>f.known g o j p,λe d=>absurd d (gY e),λ_ _ _ _ _ _=>rfl,
  λg o t j _=>by
   obtain⟨e,d,_⟩:=touch_of j
   grind,λe d=>absurd d (gY e),λg r _ w h x=>f.over g r w h x⟩
end
end
section
open Go.Conc
open Go.ConcN (WD CTag Mode Vc Ssum pend phi cnt WgLive PayAt Has RW DWs WSit RelBy sumTo upd upd_same upd_ne AtR0 get_map_set get_map_set_same norel_of Deaf_still)
open Go.ConcR (KK WgAt stA smA rd wr mk Payload g_of_ofEvents)
def al.cA(P:aw):al P:={bW:=m,rely:=cL,cQ:=λ_ _ _=>False,bt:=id,dt:=True}
def al.ay(P:aw)(e:ab)(a:Nat):al P:={bW:=i,rely:=λf d=>cL f d/\(WgLive e a f.a->WgLive e a d.a),cQ:=λ_ _ _=>False,bt:=λg=>g.1,dt:=False}
instance (P:aw):(al.cA P).bT:=⟨M⟩
def dS:aj->aj->Array ay->Prop:=λ_ _ _=>False
def dI(d:Nat):aj->aj->Array ay->Prop:=λg f a=>f=g/\∃e:Addr,e.block=d/\(a=#[mk (.read e)]∨a=#[mk (.write e)])
def ot:Nat->Go.Loc->Prop:=λ_ _=>False
variable [Payload]
structure Mo(D B nY o:Nat)(z:Nat->I)(K a5:af):Prop where
 tape:a5.tape=K.tape
 os:a5.os=K.os
 output:a5.output=K.output
 size:a5.heap.size=K.heap.size
 block:∀j,j≠D->a5.heap[j]?=K.heap[j]?
 bu:PayAt D B a5
 cv:∀r,(r<nY∨nY+o<=r)->a5.cell? ⟨D,r,k⟩=K.cell? ⟨D,r,k⟩
 new:∀f,f<o->a5.cell? ⟨D,nY+f,k⟩=b (z f)
section
variable (P:aw)(ty:ab)(v:gm)(B:Nat)(val:Nat->Nat->I)
def sw(a:Nat)(g:ae)(h:aj):Prop:=
 g.status=.running/\∀w1,cL h {h with a:=w1}->PayAt v.J B w1->WgLive ty v.b w1 ->
  ∃e w2 d,ap P m g w1=.go e w2 d/\Mo v.J B (v.aE*a) v.aE (val a) w1 w2/\(∀j∈d,∃f,j=⟨.cell ⟨v.J,f,k⟩,i,m⟩/\v.aE*a<=f/\f<v.aE*a+v.aE) /\
   ∃l,Goes P m (RW ty v.b v.J B 0 (v.aE*a)) Go.ConcR.DC0 (AtR0 P ty v.b v.J B 0 (v.aE*a+1) (val a 0)) l e w2
end
structure gI(ac:Nat->Nat)(a1:Mem)(X:Nat)(d:aj):Prop where
 blk:∀j,(d.own j∨∃L∈d.m,j∈L.V)->ac j=X/\j<d.a.heap.size
 n:∀j r ai,d.n j r=b ai->(ac j=X∨a1 j r=b ai)/\j<d.a.heap.size
structure fD(v:gm)(ac:Nat->Nat)(C:Nat->Mem)(y:Nat)(d:aj):Prop where
 blk:∀j,(d.own j∨∃L∈d.m,j∈L.V)->ac j=0/\j≠v.J/\j≠v.b/\¬v.bl j/\j<d.a.heap.size
 n:∀j r ai,d.n j r=b ai->ac j=0/\j≠v.J/\j≠v.b/\¬v.bl j/\j<d.a.heap.size
 bm:∀A,A<y->∀j r ai,C A j r=b ai->d.n j r=b ai
structure ku(v:gm)(ac:Nat->Nat)(a1:Mem)(cd:Nat)(K a5:af):Prop where
 size:K.heap.size<=a5.heap.size
 blk:∀j,j<K.heap.size->ac j=v.base+cd->a5.heap[j]?=K.heap[j]?
 cell:∀j r ai,a1 j r=b ai->K.cell? ⟨j,r,k⟩=b ai->a5.cell? ⟨j,r,k⟩=b ai
 bu:∀r,v.aE*cd<=r->r<v.aE*cd+v.aE->a5.cell? ⟨v.J,r,k⟩=K.cell? ⟨v.J,r,k⟩
 os:a5.os=K.os
 tape:a5.tape=K.tape
 output:a5.output=K.output
omit [Payload]in
def ku.refl(d:gm)(e:Nat->Nat)(g:Mem)(h:Nat)(a:af):ku d e g h a a:=⟨bE _,λ_ _ _=>rfl,λ_ _ _ _ f=>f,λ_ _ _=>rfl,rfl,rfl,rfl⟩
omit [Payload]in
def ku.at(d:gm)(f:Nat->Nat)(h:Mem)(j:Nat)(a:af)(e:Nat):ku d f h j a (a.at e):=⟨bE _,λ_ _ _=>rfl,λ_ _ _ _ g=>g,λ_ _ _=>rfl,rfl,rfl,rfl⟩
structure px(v:gm)(ac:Nat->Nat)(K a5:af):Prop where
 size:K.heap.size<=a5.heap.size
 blk:∀j,j<K.heap.size->ac j=0->j≠v.J->j≠v.b->a5.heap[j]?=K.heap[j]?
 os:a5.os=K.os
 tape:a5.tape=K.tape
 output:a5.output=K.output
omit [Payload]in
def l5(d:a5.heap[j]?=K.heap[j]?)(a:Nat):a5.cell? ⟨j,a,k⟩=K.cell? ⟨j,a,k⟩:=by simp[aJ,d]
omit [Payload]in
def cL.ek(f:cL d {d with a:=K})(q:K.heap.size<=a5.heap.size)(n:∀e,(d.own e∨∃L∈d.m,e∈L.V)->a5.heap[e]?=K.heap[e]?)(a:∀e g h,d.n e g=b h->K.cell? ⟨e,g,k⟩=b h->a5.cell? ⟨e,g,k⟩=b h)(o:a5.os=K.os)(p:a5.tape=K.tape)(r:a5.output=K.output):cL d {d with a:=a5}:=
 ⟨rfl,rfl,rfl,i_ f.size q,λe j=>by show a5.heap[e]?=_;rw[n e j];exact f.aG e j,λe g h l=>a e g h l (f.mem e g h l),o.trans f.os,p.trans f.tape,r.trans f.output⟩
section
variable {v:gm}{ac ee:Nat->Nat}{C:Nat->Mem}{cd:Nat}
omit [Payload]in
def gI.cM(n:gI ac (C cd) (v.base+cd) d)(j:cL d {d with a:=K})(a:ku v ac (C cd) cd K a5):cL d {d with a:=a5}:=by
 have o:=j.size;refine j.ek a.size (λe q=>?_) (λe f p r h=>?_) a.os a.tape a.output
 .obtain⟨l,g⟩:=n.blk e q;exact a.blk e (ej g o) l
 obtain⟨l,g⟩:=n.n e f p r;rcases l with l|l
 .rw[l5 (a.blk e (ej g o) l) f];exact h
 exact a.cell e f p l h
omit [Payload]in
def gI.ev{h:Mem}{f:Nat}(g:gI ac h f d)(r:d.a.heap.size<=K.heap.size)(q:∀a,a<K.heap.size->ee a=ac a):gI ee h f d:=
 ⟨λa j=>let ⟨l,e⟩:=g.blk a j;⟨by grind,e⟩,λa n p o=>let ⟨l,e⟩:=g.n a n p o;⟨by grind,e⟩⟩
omit [Payload]in
def fD.cM(j:fD v ac C y d)(h:cL d {d with a:=K})(a:px v ac K a5):cL d {d with a:=a5}:=by
 have o:=h.size;refine h.ek a.size (λe q=>?_) (λe n t r p=>?_) a.os a.tape a.output
 .obtain⟨l,f,g,H,s⟩:=j.blk e q;exact a.blk e (ej s o) l f g
 obtain⟨l,f,g,H,s⟩:=j.n e n t r;rw[l5 (a.blk e (ej s o) l f g) n];exact p
omit [Payload]in
def fD.ev(e:fD v ac C y d)(q:d.a.heap.size<=K.heap.size)(p:∀a,a<K.heap.size->ee a=ac a):fD v ee C y d:=
 ⟨λa h=>let ⟨l,f,g,H,s⟩:=e.blk a h;⟨by grind,f,g,H,s⟩,
  λa j o n=>let ⟨l,f,g,H,s⟩:=e.n a j o n;⟨by grind,f,g,H,s⟩,e.bm⟩
omit [Payload]in
def gI.rely{j:Mem}{f:Nat}(h:gI ac j f d)(g:d.a.heap.size<=K.heap.size):gI ac j f {d with a:=K}:=
 ⟨λa n=>let ⟨l,e⟩:=h.blk a n;⟨l,ej e g⟩,λa o q p=>let ⟨l,e⟩:=h.n a o q p;⟨l,ej e g⟩⟩
omit [Payload]in
def fD.rely(e:fD v ac C y d)(h:d.a.heap.size<=K.heap.size):fD v ac C y {d with a:=K}:=
 ⟨λa j=>let ⟨l,f,g,H,s⟩:=e.blk a j;⟨l,f,g,H,ej s h⟩,λa n p o=>let ⟨l,f,g,H,s⟩:=e.n a n p o;⟨l,f,g,H,ej s h⟩,e.bm⟩
omit [Payload]in
theorem gI.aK{f:Mem}{e:Nat}(a:gI ac f e d)(o:eg d au):gI ac f e au:=by
 refine⟨λj u=>by rw[o.a];exact a.blk j (o.blk j u),λj g h be=>?_⟩;rw[o.a];by_cases u:∃L∈d.m,j∈L.V
 .obtain⟨l,n⟩:=a.blk j (.inr u);grind
 exact a.n j g h LJ
omit [Payload]in
def gI.bY{j:Mem}{f:Nat}(g:gI ac j f d)(a:mE d au):gI ac j f au:=
 ⟨λe n=>by rw[a.a];exact g.blk e (by rw[<-a.own,<-a.m];exact n),λe h l o=>by rw[a.a];exact g.n e h l (a.eQ e h l o)⟩
omit [Payload]in
theorem fD.aK(a:fD v ac C y d)(o:eg d au):fD v ac C y au:=by
 refine⟨λj u=>by rw[o.a];exact a.blk j (o.blk j u),λj e f be=>?_,λh g j e f be=>o.mem _ _ _ (a.bm h g j e f be)⟩;rw[o.a];by_cases u:∃L∈d.m,j∈L.V
 .exact a.blk j (.inr u)
 exact a.n j e f LJ
def kJ(e:Nat->Nat)(d f:Nat):Nat->Nat:=λa=>if a<d then e a else f
omit [Payload]in
theorem kj{d:Nat->Nat}{a e:Nat}(f:j<a):kJ d a e j=d j:=by simp[kJ,f]
omit [Payload]in
theorem Ah{e:Nat->Nat}{a d:Nat}(f:a<=j):kJ e a d j=d:=by simp[kJ,oC.2 f]
omit [Payload]in
def gI.step{p:Mem}{n:Nat}(j:gI ac p n d)(G:aZ aO au)(f:cA h d aO au):gI (kJ ac d.a.heap.size n) p n au:=by
 refine⟨λa e=>?_,λa s u o=>?_⟩
 .rcases e with e|⟨L,T,e⟩
  .rw[f.own]at e;obtain⟨g,t⟩:=j.blk a (.inl e);exact⟨by grind[kj],ej t f.size⟩
  have l:=G.lt L T a e;rcases f.bp L T a e with g|⟨r,q,g⟩
  .grind [Ah]
  obtain⟨k1,aq⟩:=j.blk a (.inr ⟨r,q,g⟩);grind[kj]
 have l:=fP.lt G.mem o;rcases dJ a d.a.heap.size with g|g
 .rw[kj g];by_cases e:∃L∈d.m,a∈L.V
  .exact⟨.inl (j.blk a (.inr e)).1,l⟩
  rw[f.ba a g (λL T v=>e ⟨L,T,v⟩)]at o;exact⟨(j.n a s u o).1,l⟩
 grind[Ah]
omit [Payload]in
def fD.step(j:fD v ac C y d)(G:aZ aO au)(e:cA h d aO au)(D:v.b<d.a.heap.size)(A:v.J<d.a.heap.size)(B:∀a,v.bl a->a<d.a.heap.size):fD v (kJ ac d.a.heap.size 0) C y au:=by
 have J:∀a,d.a.heap.size<=a->a<au.a.heap.size->kJ ac d.a.heap.size 0 a=0/\a≠v.J/\a≠v.b/\¬v.bl a/\a<au.a.heap.size:=λa g o=>
  ⟨Ah g,by omega,by omega,λK=>by grind,o⟩
 refine⟨λa f=>?_,λa n p l=>?_,λF x a n p l=>e.mem _ _ _ (j.bm F x a n p l)⟩
 .rcases f with f|⟨L,T,f⟩
  .rw[e.own]at f;obtain⟨g,o,E,H,s⟩:=j.blk a (.inl f);exact⟨by grind[kj],o,E,H,ej s e.size⟩
  have u:=G.lt L T a f;rcases e.bp L T a f with g|⟨z,w,g⟩
  .grind
  obtain⟨k1,aq,q,t,r⟩:=j.blk a (.inr ⟨z,w,g⟩);grind[kj]
 have u:=fP.lt G.mem l;rcases dJ a d.a.heap.size with g|g
 .by_cases f:∃L∈d.m,a∈L.V
  .obtain⟨k1,aq,q,t,r⟩:=j.blk a (.inr f);grind[kj]
  rw[e.ba a g (λL T I=>f ⟨L,T,I⟩)]at l;obtain⟨k1,aq,q,t,r⟩:=j.n a n p l;grind[kj]
 grind
end
end
section
open Go.Conc
open Go.ConcN (WD CTag Mode Vc Ssum pend phi cnt WgLive PayAt Has RW DWs WSit RelBy sumTo upd upd_same upd_ne AtR0 get_map_set get_map_set_same norel_of Deaf_still)
open Go.ConcR (KK WgAt stA smA rd wr mk Payload g_of_ofEvents)
variable [Payload]
section
variable (P:aw)(ty:ab)(v:gm)(B:Nat)(val:Nat->Nat->I)(l:Nat->Nat)(u:Nat->Mem)
inductive gV (A:Nat):Nat->Nat->b5->Nat->ae->af->Prop
 |cB {a1:b5} {X:ae} {d:aj} {K:af}:fX (al.cA P) dS (sw P ty v B val A) a1 X d->cL d {d with a:=K}->gI l (u A) (v.base+A) d->gV A 1 7 a1 0 X K
 |rel {a2:Nat} {X:ae} {K:af}:Goes P m (RW ty v.b v.J B 0 (v.aE*A)) Go.ConcR.DC0 (AtR0 P ty v.b v.J B 0 (v.aE*A+1) (val A 0)) a2 X K->gV A 0 7 (b5.de a2) 0 X K
 |tail {cK a2 N:Nat} {X:ae} {K:af}:cK<=6->WSit P ty v.b v.J B ot ot 0 (v.aE*A+1) (val A 0) cK a2 N X K->gV A 0 cK (b5.de a2) N X K
structure hs(y:Nat)(gs:Array ae)(K:af)(w:Trace)(s:Nat->WD)(C:Nat->Nat)(ax:Nat->b5)(d0:Nat):Prop where
 size:gs.size=v.base+y
 cX:∀f X,0<f->f<v.base->gs[f]?=b X->∃a2,ax f=b5.de a2/\QuitsD P a2 (Deaf w f) X
 above:∀f,v.base+y<=f->Deaf w f=0
 cz:∀A,A<y->∃X,gs[v.base+A]?=b X/\gV P ty v B val l u A (C A) (s A).stage (ax (v.base+A)) (s A).deaf X K
 a9:ff v l u w y K.heap.size
 dw:lR w
 c8:Deaf w 0=d0
 c9:∀A,A<y->Deaf w (v.base+A)=(s A).deaf
 rel:∀A,A<y->(s A).stage<=6->∃a1,RelBy (stA v.b) w (v.base+A) a1
 cT:∀A,A<y->C A=0->∀f,1<=f->f<v.aE->K.cell? ⟨v.J,v.aE*A+f,k⟩=b (val A f)
 dm:∀A,A<y->(s A).stage<=6->Has v.J (v.aE*A) (val A 0) K
 bu:PayAt v.J B K
 cn:WgLive ty v.b K
 bZ:v.b<K.heap.size
 b6:v.J<K.heap.size
 cW:∀j,v.bl j->j<K.heap.size
 aE:0<v.aE
 dc:∀cd,cd<y->∀j r ai,u cd j r=b ai->j<K.heap.size
end
section
variable {P:aw}{ty:ab}{v:gm}{B:Nat}{val:Nat->Nat->I}{l ee:Nat->Nat}{u:Nat->Mem}{A:Nat}{w:Trace}{s:Nat->WD}{C:Nat->Nat}{ax:Nat->b5}{d0:Nat}
def RW.cM(h:ku v l (u A) A K a5)(a:WgLive ty v.b a5)(d:PayAt v.J B a5)(g:0<v.aE):RW ty v.b v.J B 0 (v.aE*A+1-1) K a5:=
 ⟨λe f=>absurd f (gY e),λ_=>a,λ_=>d,h.bu _ (bE _) J⟩
def gV.cM{q h r:Nat}{w:b5}{t:ae}(x:gV P ty v B val l u A q h w r t K)(p:ku v l (u A) A K a5)(g:WgLive ty v.b a5)(s:PayAt v.J B a5)(f:0<v.aE)(o:∀j,j<K.heap.size->ee j=l j):
  gV P ty v B val ee u A q h w r t a5:=by
 cases x with
 |cB a d e=>exact .cB a (e.cM d p) (e.ev d.size o)
 |rel a=>exact .rel (Goes.rely (λ_ _ _ a d=>a.trans d) a (RW.cM p g s f))
 |tail n a=>exact .tail n (a.rely (RW.cM p g s f))
omit [Payload]in
def fX.run{j:al P}{h:aj->aj->Array ay->Prop}{f:ae->aj->Prop}(g:∀d e,f d e->d.status=.running):∀{a1:b5}{d:ae}{e:aj},fX j h f a1 d e->d.status=.running
 |.leaf,_,_,a=>g _ _ a
 |.node l,d,e,a=>by
  rcases a with a|⟨n,_,a⟩|⟨a,_⟩
  .grind
  .exact fX.run g (a1:=l e) a
  grind
def gV.status{g f h:Nat}{j:b5}{d:ae}(e:gV P ty v B val l u A g f j h d K):d.status=.running∨d.status=.finished:=by
 cases e with
 |cB a _ _=>exact .inl (a.run λd n e=>e.1)
 |rel a=>exact .inl (Goes.running (λ_ _ A=>A.1) K (Go.ConcN.RW.refl K) a)
 |tail _ a=>exact a.status
def gV.woken{f d h:Nat}{o:b5}{a:ae}(n:gV P ty v B val l u A f d o h a K)(g j:ae)(e:af):woken P g j e a=a:=by
 unfold Go.Conc.woken;split
 .exact again_running _ n.status
 simp
def hs.at(a:hs P ty v B val l u y gs K w s C ax d0)(e:Nat):hs P ty v B val l u y gs (K.at e) w s C ax d0:=
 ⟨a.size,a.cX,a.above,λf d=>let ⟨X,b8,cY⟩:=a.cz f d;⟨X,b8,cY.cM (.at ..) a.cn a.bu a.aE λ_ _=>rfl⟩,a.a9,a.dw,a.c8,a.c9,a.rel,a.cT,a.dm,a.bu,a.cn,a.bZ,a.b6,a.cW,a.aE,a.dc⟩
def hs.aH(n:hs P ty v B val l u y gs K w s C ax d0)(T:A<y){q:ae}{fn:ar}{pos:String}{p:Array ay}{D o E:Nat}{N:b5}(J:∀r,r<K.heap.size->ee r=l r)(O:K.heap.size<=a5.heap.size)(W:∀d,d<y->d≠A->ku v l (u d) d K a5)(aE:gV P ty v B val ee u A D o N E q a5)(aB:∀e∈p,(aN e).low a5.heap.size)(a:∀e∈p,∀I,(aN e).touch?=b I->I.loc.isMemory=i->mL v ee (u A) A I)(ak:∀e∈p,∀I,e.loc≠.mark (.release I))(L:deafBehind (s A).deaf p=E)(aC:o<=6->∃Y,RelBy (stA v.b) (w++MemOp.ofEvents (v.base+A) fn pos p) (v.base+A) Y)(au:D=0->∀f,1<=f->f<v.aE->a5.cell? ⟨v.J,v.aE*A+f,k⟩=b (val A f))(ao:o<=6->Has v.J (v.aE*A) (val A 0) a5)(G:PayAt v.J B a5)(ai:WgLive ty v.b a5):
  hs P ty v B val ee u y ((gs.map (woken P X q a5)).setIfInBounds (v.base+A) q) a5 (w++MemOp.ofEvents (v.base+A) fn pos p) (upd s A ⟨o,0,E⟩) (upd C A D) (upd ax (v.base+A) N) d0:=by
 have ab:=n.a9.base;have Q:∀d,d≠A->v.base+A≠v.base+d:=λd h e=>h x;have an:∀f t,0<f->f<v.base->((gs.map (Go.Conc.woken P X q a5)).setIfInBounds (v.base+A) q)[f]?=b t->gs[f]?=b t:=by intro f t bL j g;rw[get_map_set _ _ _ _ x]at g;obtain⟨aA,U,rfl⟩:=pL.1 g;obtain⟨ah,_,az⟩:=n.cX f aA bL j U;grind[woken_quitsD]
 refine⟨by simp[n.size],λf t bL j g=>?_,λf bL=>?_,λd h=>?_,?_,n.dw.app ak,by rw[Deaf_other w x _ g_of_ofEvents,n.c8],λd h=>?_,λd h F=>?_,λd h R f aj al=>?_,λd h F=>?_,G,ai,ej n.bZ O,ej n.b6 O,λr ab=>ej (n.cW r ab) O,n.aE,λd h r V Z aq=>ej (n.dc d h r V Z aq) O⟩
 .obtain⟨ah,ad,af⟩:=n.cX f t bL j (an f t bL j g);refine⟨ah,by rw[upd_ne ax _ x];omega,?_⟩;rw[Deaf_other w x _ g_of_ofEvents];omega
 .exact Jo
 .by_cases e:d=A
  .subst e;exact⟨q,get_map_set_same _ _ _ (by rw[n.size];omega),by rw[upd_same,upd_same,upd_same];omega⟩
  obtain⟨t,g,H⟩:=n.cz d h;refine⟨t,by rw[get_map_set _ _ _ _ (Q d e),g,lY,H.woken],?_⟩;rw[upd_ne C _ e,upd_ne s _ e,upd_ne ax _ (Q d e).symm];exact H.cM (W d h e) ai G n.aE J
 .refine(n.a9.ev J O n.bZ n.b6 n.cW λd h r V Z aq=>?_).hT T (λM z=>by grind[Go.Conc.mem_ofEvents]) (λM z=>?_) (λM z I R ag=>?_)
  .exact n.dc d h r V Z aq
  .exact B6
  grind[Go.Conc.mem_ofEvents]
 .by_cases e:d=A
  .subst e;rw[Deaf_own,n.c9 d h,upd_same];omega
  rw[Deaf_other w (Q d e) _ g_of_ofEvents,n.c9 d h,upd_ne s _ e]
 .by_cases e:d=A
  .subst e;rw[upd_same]at F;grind
  rw[upd_ne s _ e]at F;obtain⟨Y,S⟩:=n.rel d h F;exact⟨Y,S.appOther g_of_ofEvents (Q d e)⟩
 .by_cases e:d=A
  .subst e;rw[upd_same]at R;grind
  rw[upd_ne C _ e]at R;rw[(W d h e).bu _ x x];exact n.cT d h R f aj al
 by_cases e:d=A
 .subst e;rw[upd_same]at F;grind
 rw[upd_ne s _ e]at F;have:=n.dm d h F;have aw:=n.aE;simp only[Has]at this⊢;rw[(W d h e).bu _ x x];omega
def hs.hG(n:hs P ty v B val l u y gs K w s C ax d0){gG:ae}{fn:ar}{pos:String}{es:Array ay}(r:∀o,o<K.heap.size->ee o=l o)(z:K.heap.size<=a5.heap.size)(F:∀d,d<y->ku v l (u d) d K a5)(ad:∀p∈es,(aN p).low a5.heap.size)(N:∀p∈es,∀h,(aN p).touch?=b h->h.loc.isMemory=i->nv v ee h)(af:∀p∈es,∀h,(aN p).touch?=b h->h.kind=.plain->h.write=i->∀R,R<y->∀o A I,h.loc=.cell ⟨o,A,k⟩->u R o A≠b I)(H:∀p∈es,∀h,p.loc≠.mark (.release h))(Q:PayAt v.J B a5)(O:WgLive ty v.b a5):
  hs P ty v B val ee u y ((gs.map (woken P X gG a5)).setIfInBounds 0 gG) a5 (w++MemOp.ofEvents 0 fn pos es) s C ax (deafBehind d0 es):=by
 have aq:=n.a9.base;have W:=n.aE;refine⟨by simp[n.size],λf M bL t g=>?_,λf bL=>?_,λd e=>?_,?_,n.dw.app H,by rw[Deaf_own,n.c8],λd e=>by rw[Deaf_other w x _ g_of_ofEvents,n.c9 d e],λd e D=>?_,λd e E f G S=>?_,λd e D=>?_,Q,O,ej n.bZ z,ej n.b6 z,λo aq=>ej (n.cW o aq) z,n.aE,λd e o A I a=>ej (n.dc d e o A I a) z⟩
 .rw[get_map_set _ _ _ _ x]at g;obtain⟨ab,U,rfl⟩:=pL.1 g;obtain⟨Y,T,L⟩:=n.cX f ab bL t U;exact⟨Y,T,by rw[woken_quitsD L,Deaf_other w x _ g_of_ofEvents];omega⟩
 .exact Jo
 .obtain⟨M,g,J⟩:=n.cz d e;exact⟨M,by rw[get_map_set _ _ _ _ x,g,lY,J.woken],J.cM (F d e) O Q n.aE r⟩
 .refine(n.a9.ev r z n.bZ n.b6 n.cW n.dc).e6 (λq j=>by grind[Go.Conc.mem_ofEvents]) (λq j=>B6) (λq j h E ag=>B6) (λq j h E=>?_);grind[Go.Conc.mem_ofEvents]
 .obtain⟨Z,V⟩:=n.rel d e D;exact⟨Z,V.appOther g_of_ofEvents x⟩
 .rw[(F d e).bu _ x x];exact n.cT d e E f G S
 have:=n.dm d e D;simp only[Has]at this⊢;rw[(F d e).bu _ x x];omega
def hs.a_(d:hs P ty v B val l u y gs K w s C ax d0){E:Nat}(R:0<f)(D:f<v.base){j:ae}{fn:ar}{pos:String}{g:Array ay}(T:∀e∈g,e.mute=i)(F:QuitsD P E (deafBehind (Deaf w f) g) j):
  hs P ty v B val l u y ((gs.map (woken P X j K)).setIfInBounds f j) K (w++MemOp.ofEvents f fn pos g) s C (upd ax f (b5.de E)) d0:=by
 have L:=d.a9.base;have S:∀e∈g,∀A,e.loc≠.mark (.release A):=λe M A=>Gy (T e M) A;refine⟨by simp[d.size],λz I n p a=>?_,λz n=>?_,λt o=>?_,?_,d.dw.app S,by rw[Deaf_other w x _ g_of_ofEvents,d.c8],λt o=>by rw[Deaf_other w x _ g_of_ofEvents,d.c9 t o],λt o Q=>?_,d.cT,d.dm,d.bu,d.cn,d.bZ,d.b6,d.cW,d.aE,d.dc⟩
 .by_cases e:z=f
  .subst e;rw[get_map_set_same _ _ _ J]at a;cases a;exact⟨E,by rw[upd_same],by grind[Deaf_own]⟩
  rw[get_map_set _ _ _ _ (Ne.symm e)]at a;obtain⟨W,O,rfl⟩:=pL.1 a;obtain⟨H,G,V⟩:=d.cX z W n p O;exact⟨H,by rw[upd_ne ax _ e];omega,by rw[woken_quitsD V,Deaf_other w (Ne.symm e) _ g_of_ofEvents];omega⟩
 .rw[Deaf_other w x _ g_of_ofEvents];exact d.above z n
 .obtain⟨I,a,r⟩:=d.cz t o;exact⟨I,by rw[get_map_set _ _ _ _ x,a,lY,r.woken],by rw[upd_ne ax _ x];omega⟩
 .exact d.a9.mute (X:=f) (λq h=>by grind[Go.Conc.mem_ofEvents]) (λq h=>by grind[Go.Conc.mem_ofEvents,low_mute]) (λq h=>by grind[Go.Conc.mem_ofEvents,touch_mute])
 obtain⟨U,N⟩:=d.rel t o Q;exact⟨U,N.appOther g_of_ofEvents x⟩
def hs.spawn(f:hs P ty v B val l u y gs K w s C ax 0){fl e:ae}{A cd:MemOp}{O:b5}(aq:A.g=0/\A.act=.go (v.base+y))(G:cd.g=v.base+y/\cd.act=.start)(W:∀j F M,u y j F=b M->l j=0/\j≠v.J/\j≠v.b/\¬v.bl j/\j<K.heap.size)(X:fX (al.cA P) dS (sw P ty v B val y) O e d)(Q:cL d {d with a:=K})(V:gI l (u y) (v.base+y) d):
  hs P ty v B val l u (y+1) ((gs.setIfInBounds 0 fl).push e) K (w++#[A,cd]) (upd s y ⟨7,0,0⟩) (upd C y 1) (upd ax (v.base+y) O) 0:=by
 have ad:=f.a9.base;have L:∀h∈#[A,cd],h=A∨h=cd:=J;have N:∀h∈#[A,cd],h.act≠.mark .disable/\h.act≠.mark .enable:=J;have Y:∀n,0<n->n<v.base+y->((gs.setIfInBounds 0 fl).push e)[n]?=gs[n]?:=λn o a=>by rw[u0 (by simp[f.size];omega),<-gW,nz x]
 refine⟨by simp[f.size];omega,λn S o D t=>?_,λn o=>?_,λg I=>?_,f.a9.fX aq G f.c8 (f.above _ (bE _)) λj F M T=>let ⟨q,r,bi,H,_⟩:=W j F M T;⟨q,r,bi,H⟩,λR=>(f.dw R).app λh E=>?_,by rw[Deaf_still w 0 _ N,f.c8],λg I=>?_,λg I p=>?_,λg I U=>?_,λg I p=>?_,f.bu,f.cn,f.bZ,f.b6,f.cW,f.aE,λg I j F M T=>?_⟩
 .rw[Y n o x]at t;obtain⟨Z,q,r⟩:=f.cX n S o D t;exact⟨Z,by rw[upd_ne ax _ x];exact q,by rw[Deaf_still w _ _ N];exact r⟩
 .rw[Deaf_still w _ _ N];exact f.above n x
 .rcases dJ g y with a|z
  .obtain⟨S,t,ab⟩:=f.cz g a;exact⟨S,by grind,by rw[upd_ne s _ x,upd_ne C _ x,upd_ne ax _ x];omega⟩
  obtain rfl:g=y:=x;refine⟨e,?_,by rw[upd_same,upd_same,upd_same];exact .cB X Q V⟩;rw[show v.base+g=(gs.setIfInBounds 0 fl).size by simp[f.size],Array.getElem?_push_size]
 .grind
 .rw[Deaf_still w _ _ N];rcases dJ g y with a|z
  .rw[f.c9 g a,upd_ne s _ x]
  obtain rfl:g=y:=x;rw[upd_same];exact f.above _ (bE _)
 .rcases dJ g y with a|z
  .rw[upd_ne s _ x]at p;obtain⟨O,Q⟩:=f.rel g a p;refine⟨O,Q.appNot λh E=>?_⟩;grind
  obtain rfl:g=y:=x;rw[upd_same]at p;grind
 .rcases dJ g y with a|z
  .rw[upd_ne C _ x]at U;exact f.cT g a U
  obtain rfl:g=y:=x;rw[upd_same]at U;grind
 .rcases dJ g y with a|z
  .rw[upd_ne s _ x]at p;exact f.dm g a p
  obtain rfl:g=y:=x;rw[upd_same]at p;grind
 rcases dJ g y with a|z
 .exact f.dc g a j F M T
 grind
end
end
section
open Go.Conc
open Go.ConcN (WD CTag Mode Vc Ssum pend phi cnt WgLive PayAt Has RW DWs WSit RelBy sumTo upd upd_same upd_ne AtR0)
open Go.ConcR (KK WgAt stA smA rd wr mk Payload g_of_ofEvents again_blocked)
variable [Payload]
section
variable (P:aw)(ty:ab)(v:gm)(B:Nat)(val:Nat->Nat->I)(p:Nat)(ag l:ae->aj->Prop)
def xV(e:ae)(g:aj):Prop:=e.status=.running/\∃a,(∀f,ap P i e f=.go a f #[mk (.acquire (stA v.b))])/\∀d,(al.ay P ty v.b).rely g d->ag a d
def uN(e:ae)(g:aj):Prop:=e.status=.running/\∃a,(∀f,ap P i e f=.go a f #[mk .enable])/\∀d,(al.ay P ty v.b).rely g d->(db (al.ay P ty v.b) (dI v.b)) (xV P ty v ag) a d
def x0(e:ae)(f:aj):Prop:=e.status=.running/\∀a,(al.ay P ty v.b).rely f a->WgAt ty v.b a.a 0 0->∃d,ap P i e a.a=.go d a.a #[rd (stA v.b)]/\(db (al.ay P ty v.b) (dI v.b)) (uN P ty v ag) d a
def mz(d:ae)(g:aj):Prop:=d.status=.running/\d.offers=k/\∀a,(al.ay P ty v.b).rely g a ->
 ((∃f,WgAt ty v.b a.a f 0)->ap P i d a.a=.go {d with status:=.blocked} a.a #[]) /\
 (WgAt ty v.b a.a 0 1->∃e,ap P i d a.a=.go e (a.a.setCell (smA v.b) (.int .u32 0)) (semEvents (smA v.b))/\(db (al.ay P ty v.b) (dI v.b)) (x0 P ty v ag) e {a with a:=a.a.setCell (smA v.b) (.int .u32 0)})
def xZ(z:Nat)(f:ae)(g:aj):Prop:=f.status=.running/\∀d,(al.ay P ty v.b).rely g d->∀e:Nat,e<2147483648->WgAt ty v.b d.a (e*KK) 0 ->
 (e=z->∃a,ap P i f d.a=.go a (d.a.setCell (stA v.b) (.int .u64 (e*KK+1))) #[rd (stA v.b),wr (stA v.b)]/\(db (al.ay P ty v.b) (dI v.b)) (mz P ty v ag) a {d with a:=d.a.setCell (stA v.b) (.int .u64 (e*KK+1))}) /\
 (e≠z->∃a,ap P i f d.a=.go a d.a #[rd (stA v.b)]/\l a d)
def pp(f:ae)(g:aj):Prop:=f.status=.running/\∀d,(al.ay P ty v.b).rely g d->∀e:Nat,e<2147483648->WgAt ty v.b d.a (e*KK) 0 ->
 ∃a,ap P i f d.a=.go a d.a #[rd (stA v.b)]/\(e=0->(db (al.ay P ty v.b) (dI v.b)) (uN P ty v ag) a d)/\(e≠0->(db (al.ay P ty v.b) (dI v.b)) (xZ P ty v ag l e) a d)
def xW(e:ae)(g:aj):Prop:=e.status=.running/\∃a,(∀f,ap P i e f=.go a f #[mk .disable])/\∀d,(al.ay P ty v.b).rely g d->l a d
def aj.c6(a:aj):aj:={m:=[],n:=a.n,a:=a.a,own:=λ_=>False}
def uM(g:Nat)(Next:ae->aj->Prop)(f:ae)(h:aj):Prop:=f.status=.running/\∀d,(al.ay P ty v.b).rely h d ->
 ∃e a,ap P i f d.a=.spawn e a d.a #[]/\a.status=.running/\db (al.cA P) dS (sw P ty v B val g) a d.c6/\Next e d
def xY(g:Nat)(Next:ae->aj->Prop)(e:ae)(h:aj):Prop:=e.status=.running/\∃a,(∀f,ap P i e f=.go a f #[mk .enable])/\∀d,(al.ay P ty v.b).rely h d->(db (al.ay P ty v.b) (dI v.b)) (uM P ty v B val g Next) a d
def xU(g:Nat)(Next:ae->aj->Prop)(f:ae)(h:aj):Prop:=f.status=.running/\∀a,(al.ay P ty v.b).rely h a->∀e:Nat,e<2147483647->WgAt ty v.b a.a (e*KK) 0 ->
 ∃d,ap P i f a.a=.go d (a.a.setCell (stA v.b) (.int .u64 ((e+1)*KK))) #[rd (stA v.b),wr (stA v.b)]/\(db (al.ay P ty v.b) (dI v.b)) (xY P ty v B val g Next) d {a with a:=a.a.setCell (stA v.b) (.int .u64 ((e+1)*KK))}
def xX(g:Nat)(Next:ae->aj->Prop)(e:ae)(h:aj):Prop:=e.status=.running/\∃a,(∀f,ap P i e f=.go a f #[mk .disable])/\∀d,(al.ay P ty v.b).rely h d->(db (al.ay P ty v.b) (dI v.b)) (xU P ty v B val g Next) a d
def nu:Nat->ae->aj->Prop
 |0,a,d=>(db (al.ay P ty v.b) (dI v.b)) (xW P ty v l) a d
 |e+1,a,d=>(db (al.ay P ty v.b) (dI v.b)) (xX P ty v B val (p-(e+1)) (nu e)) a d
def b5.dT:b5->b5
 |.leaf=>.node λ_=>.leaf
 |.node a=>.node λd=>b5.dT (a d)
omit [Payload]in
def b5.g5:∀{e d:b5},b5.lt e d->b5.lt e.dT d.dT
 |_,.leaf,a=>a.elim
 |_,.node _,⟨g,a⟩=>⟨g,a.elim (λf=>.inl (by rw[f])) λa=>.inr (b5.g5 a)⟩
omit [Payload]in
def b5.jh(a:aj):∀e:b5,∃f,b5.lt f e.dT
 |.leaf=>⟨.leaf,a,.inl rfl⟩
 |.node d=>⟨(d a).dT,a,.inl rfl⟩
inductive gA:CTag->Nat->b5->Nat->ae->aj->Prop
 |eX {a1:Nat} {cQ:b5} {X:ae} {d:aj}:a1<p->(fX (al.ay P ty v.b) (dI v.b)) (xX P ty v B val (p-(a1+1)) (nu P ty v B val p l a1)) cQ X d->gA (.sp a1 5) (p-(a1+1)) cQ 0 X d
 |e2 {a1:Nat} {cQ:b5} {X:ae} {d:aj}:a1<p->(fX (al.ay P ty v.b) (dI v.b)) (xU P ty v B val (p-(a1+1)) (nu P ty v B val p l a1)) cQ X d->gA (.sp a1 4) (p-(a1+1)) cQ 1 X d
 |fx {a1:Nat} {cQ:b5} {X:ae} {d:aj}:a1<p->(fX (al.ay P ty v.b) (dI v.b)) (xY P ty v B val (p-(a1+1)) (nu P ty v B val p l a1)) cQ X d->gA (.sp a1 3) (p-(a1+1)) cQ 1 X d
 |fc {a1:Nat} {cQ:b5} {X:ae} {d:aj}:a1<p->(fX (al.ay P ty v.b) (dI v.b)) (uM P ty v B val (p-(a1+1)) (nu P ty v B val p l a1)) cQ X d->gA (.sp a1 2) (p-(a1+1)) cQ 0 X d
 |kd {cQ:b5} {X:ae} {d:aj}:(fX (al.ay P ty v.b) (dI v.b)) (xW P ty v l) cQ X d->gA .kd p cQ 0 X d
 |w1 {cQ:b5} {X:ae} {d:aj}:(fX (al.ay P ty v.b) (dI v.b)) (pp P ty v ag l) cQ X d->gA .w1 p cQ 1 X d
 |w2 {z:Nat} {cQ:b5} {X:ae} {d:aj}:(fX (al.ay P ty v.b) (dI v.b)) (xZ P ty v ag l z) cQ X d->gA (.w2 z) p cQ 1 X d
 |w3 {cQ:b5} {X:ae} {d:aj}:(fX (al.ay P ty v.b) (dI v.b)) (mz P ty v ag) cQ X d->gA .w3 p cQ.dT 1 X d
 |blk {cQ:b5} {X:ae} {d:aj}:mz P ty v ag X d->gA .blk p cQ 1 {X with status:=.blocked} d
 |w4 {cQ:b5} {X:ae} {d:aj}:(fX (al.ay P ty v.b) (dI v.b)) (x0 P ty v ag) cQ X d->gA .w4 p cQ 1 X d
 |ke {cQ:b5} {X:ae} {d:aj}:(fX (al.ay P ty v.b) (dI v.b)) (uN P ty v ag) cQ X d->gA .ke p cQ 1 X d
 |acq {cQ:b5} {X:ae} {d:aj}:(fX (al.ay P ty v.b) (dI v.b)) (xV P ty v ag) cQ X d->gA .acq p cQ 0 X d
structure uP(U:Nat->Nat)(r:Nat->Mem)(a2:Machine)(w:Trace):Prop where
 cv:∃(gs:Array ae) (K:af) (ds:Option (Nat×Nat)) (t:ae) (d:aj) (be:Nat->Nat),a2=crowd gs K ds/\gs[0]?=b t/\gs.size=v.base+p/\ag t {d with a:=K}/\cL d {d with a:=K}/\fD v U r p d /\
  Leavers P w gs be/\Past (iA λj=>v.bl j∨j=v.b) K.heap.size w/\lR w/\PayAt v.J B K/\(∀A,A<p->∀f,f<v.aE->K.cell? ⟨v.J,v.aE*A+f,k⟩=b (val A f))/\v.J<K.heap.size/\v.b<K.heap.size/\∀j,v.bl j->j<K.heap.size
abbrev mH:=Nat×((Nat->b5)×b5)
def j2(a:Nat):mH->mH->Prop:=Prod.Lex (· < ·) (Prod.Lex (uW a) b5.lt)
omit [Payload]in
def Sz(a:Nat):WellFounded (j2 a):=(Prod.lex Nat.lt_wfRel ⟨_,(Prod.lex ⟨uW a,IW a⟩ ⟨b5.lt,⟨b5.e1⟩⟩).wf⟩).wf
structure kt(μ:mH)(gs:Array ae)(K:af)(w:Trace)(U:Nat->Nat)(r:Nat->Mem)(y:Nat)(s:Nat->WD)(C:Nat->Nat)(ax:Nat->b5)(d0:Nat)(tag:CTag)(cQ:b5)(t:ae)(d:aj)(cK r2:Int):Prop where
 c1:gs[0]?=b t
 c7:gA P ty v B val p ag l tag y cQ d0 t d
 rely:cL d {d with a:=K}
 ay:fD v U r y d
 al:hs P ty v B val U r y gs K w s C ax d0
 bJ:WgAt ty v.b K cK r2
 mode:Go.ConcN.Mode y s tag cK r2
 eo:μ=(phi p (Vc y s) tag+Ssum y s+sumTo y C,(ax,cQ))
def e2(o:mH)(r:Machine)(x:Trace):Prop:=
 ∃(a:Array ae) (h:af) (ds:Option (Nat×Nat)) (u:Nat->Nat) (t:Nat->Mem) (q:Nat) (s:Nat->WD) (C:Nat->Nat) (j:Nat->b5) (d:Nat) (tag:CTag) (e:b5) (n:ae) (w:aj) (g f:Int),
  r=crowd a h ds/\kt P ty v B val p ag l o a h x u t q s C j d tag e n w g f
end
section
variable {P:aw}{ty:ab}{v:gm}{B:Nat}{val:Nat->Nat->I}{p:Nat}{ag l:ae->aj->Prop}{U ee:Nat->Nat}{r:Nat->Mem}{tag:CTag}{cQ:b5}{N:Nat}{t:ae}
omit [Payload]in
def lq(e:cL d {d with a:=K})(a:WgLive ty v.b K):(al.ay P ty v.b).rely d {d with a:=K}:=⟨e,λ_=>a⟩
omit [Payload]in
def mz.rely{f:aj}(a:mz P ty v ag X d)(h:(al.ay P ty v.b).rely d f):mz P ty v ag X f:=
 ⟨a.1,a.2.1,λe g=>a.2.2 e ⟨h.1.trans g.1,λj=>g.2 (h.2 j)⟩⟩
def gA.status(a:gA P ty v B val p ag l tag y cQ N t d):(t.status=.running/\tag≠.blk)∨(t.status=.blocked/\tag=.blk):=by
 cases a with
 |eX _ a=>exact .inl ⟨a.run λ_ _ e=>e.1,by simp⟩
 |e2 _ a=>exact .inl ⟨a.run λ_ _ e=>e.1,by simp⟩
 |fx _ a=>exact .inl ⟨a.run λ_ _ e=>e.1,by simp⟩
 |fc _ a=>exact .inl ⟨a.run λ_ _ e=>e.1,by simp⟩
 |kd a=>exact .inl ⟨a.run λ_ _ e=>e.1,by simp⟩
 |w1 a=>exact .inl ⟨a.run λ_ _ e=>e.1,by simp⟩
 |w2 a=>exact .inl ⟨a.run λ_ _ e=>e.1,by simp⟩
 |w3 a=>exact .inl ⟨a.run λ_ _ e=>e.1,by simp⟩
 |blk a=>grind
 |w4 a=>exact .inl ⟨a.run λ_ _ e=>e.1,by simp⟩
 |ke a=>exact .inl ⟨a.run λ_ _ e=>e.1,by simp⟩
 |acq a=>exact .inl ⟨a.run λ_ _ e=>e.1,by simp⟩
def gA.hN(q:gA P ty v B val p ag l tag y cQ N t d)(o g:ae)(n:af):
  ∃a h,gA P ty v B val p ag l a y h N (woken P o g n t) d/\(a=tag∨(tag=.blk/\a=.w3))/\(mayWake P o=i->g.status=.running->a≠.blk):=by
 unfold Go.Conc.woken;split
 .rcases q.status with⟨f,j⟩|⟨_,rfl⟩
  .grind [again_running]
  cases q with
  |blk e=>exact⟨.w3,b5.dT .leaf,by rw[again_blocked e.1 e.2.1];exact .w3 (show fX _ _ _ .leaf _ _ from e),.inr ⟨rfl,rfl⟩,λ_ _=>by simp⟩
 grind
def ux{T:mH}{ds:Option (Nat×Nat)}{ax:Trace}{s:Nat->WD}{C:Nat->Nat}{W:Nat->b5}{aw au:Int}(q:kt P ty v B val p ag l T gs K ax U r y s C W N tag cQ t d aw au){f:Nat}(Y:f<y){o:ae}{n:Array ay}{j g h:Nat}{A:b5}{ad G:Int}(an:gs[v.base+f]?=b X)(F:ap P m X K=.go o a5 n)(I:∀af,af<K.heap.size->ee af=U af)(Q:K.heap.size<=a5.heap.size)(aG:∀ab,ab<y->ab≠f->ku v U (r ab) ab K a5)(aE:px v U K a5)(aL:gV P ty v B val ee r f j g A h o a5)(L:∀D∈n,(aN D).low a5.heap.size)(R:∀D∈n,∀t,(aN D).touch?=b t->t.loc.isMemory=i->mL v ee (r f) f t)(O:∀D∈n,∀t,D.loc≠.mark (.release t))(aF:deafBehind (s f).deaf n=h)(aq:g<=6->∃aS,RelBy (stA v.b) (ax++MemOp.ofEvents (v.base+f) X.frame.fn X.frame.place n) (v.base+f) aS)(al:j=0->∀Z,1<=Z->Z<v.aE->a5.cell? ⟨v.J,v.aE*f+Z,k⟩=b (val f Z))(ak:g<=6->Has v.J (v.aE*f) (val f 0) a5)(aJ:PayAt v.J B a5)(az:WgAt ty v.b a5 ad G)(H:∀e,(e=tag∨(tag=.blk/\e=.w3))->(mayWake P X=i->o.status=.running->e≠.blk)->Go.ConcN.Mode y (upd s f ⟨g,0,h⟩) e ad G)(a:(g+j<(s f).stage+C f/\cnt ⟨g,0,h⟩<=cnt (s f))∨(g=(s f).stage/\j=C f/\b5.lt A (W (v.base+f))))(aA:v.base+y<=v.base+p):
  ∃aC u z,runT P (crowd gs K ds) (v.base+f)=(.next aC,u)/\j2 (v.base+p) z T/\e2 P ty v B val p ag l z aC (ax++u):=by
 have aR:=q.al.a9.base;obtain⟨e,w,aK,aB,S⟩:=q.c7.hN X o a5;have M:(v.base+f==0)=m:=J;have aH:=runT_crowd_go (P:=P) (sl:=ds) (i:=v.base+f) an (by rw[M];exact F)
 have aM:=Go.ConcN.sumTo_upd s (⟨g,0,h⟩:WD) cnt Y;have aO:=Go.ConcN.sumTo_upd s (⟨g,0,h⟩:WD) WD.stage Y;have aP:sumTo y (upd C f j)+C f=sumTo y C+j:=Go.ConcN.sumTo_upd C j id Y;refine⟨_,_,(phi p (Vc y (upd s f ⟨g,0,h⟩)) e+Ssum y (upd s f ⟨g,0,h⟩)+sumTo y (upd C f j),(upd W (v.base+f) A,w)),aH,?_,
  _,a5,ds,ee,r,y,_,_,_,N,e,w,woken P X o a5 t,d,ad,G,rfl,⟨by rw[Go.ConcN.get_map_set _ _ _ _ x,q.c1];rfl,aK,q.ay.cM q.rely aE,q.ay.ev q.rely.size I,
   q.al.aH Y I Q aG aL L R O aF aq al ak aJ ⟨_,_,az⟩,az,H e aB S,rfl⟩⟩
 rw[q.eo,Go.ConcN.phi_retag p _ aB];simp only[Vc,Ssum]at *;rcases a with⟨ar,rQ⟩|⟨ar,rQ,rR⟩
 .refine Prod.Lex.left _ _ ?_;have:=Go.ConcN.phi_mono p (v':=sumTo y λt=>cnt (upd s f ⟨g,0,h⟩ t)) (v:=sumTo y λt=>cnt (s t)) x tag;omega
 have aQ:cnt (⟨g,0,h⟩:WD)=cnt (s f):=g3;have aj:(sumTo y λt=>cnt (upd s f ⟨g,0,h⟩ t))=sumTo y λt=>cnt (s t):=x;have E:(sumTo y λt=>(upd s f ⟨g,0,h⟩ t).stage)=sumTo y λt=>(s t).stage:=x;have ah:sumTo y (upd C f j)=sumTo y C:=x;rw[aj,E,ah];exact Prod.Lex.right _ (Prod.Lex.left _ _ ⟨v.base+f,by omega,by rw[upd_same];exact rR,λaT ao=>upd_ne W _ ao⟩)
end
end
section
open Go.Conc
open Go.ConcN (WD CTag Vc Ssum pend phi cnt WgLive PayAt Has RW DWs WSit RelBy sumTo upd upd_same upd_ne AtR0 isW3 isOpen OpenSt deafBehind_idle bk_cell okW_none Vc_upd Vc_le le_sumTo others_uncounted)
open Go.ConcR (KK WgAt stA smA rd wr mk Payload g_of_ofEvents Bk bk_of_mute ofEvent_loc_mark ofEvent_cell)
variable [Payload]
section
variable {v:gm}{ag G:ae->aj->Prop}{T ee:Nat->Nat}{j3:Nat->Mem}{tag:CTag}{cQ:b5}{N:Nat}{t:ae}
omit [Payload]in
def ku.bJ(d:Aside v.b K a5)(n:T v.b=0)(p:1<=v.base)(g:∀a e h,j3 y a e=b h->a≠v.b)(f:v.J≠v.b):ku v T (j3 y) y K a5:=
 ⟨by rw[d.size];grind,λa _ j=>d.block a (λo=>by grind),λa e h H l=>by rw[l5 (d.block a (g a e h H))];exact l,λe _ _=>l5 (d.block _ f) e,d.os,d.tape,d.output⟩
omit [Payload]in
def px.bJ(a:Aside v.b K a5):px v T K a5:=⟨by rw[a.size];grind,λd _ _ _ e=>a.block d e,a.os,a.tape,a.output⟩
omit [Payload]in
def px.refl(a:af):px v T a a:=⟨bE _,λ_ _ _ _ _=>rfl,rfl,rfl,rfl⟩
omit [Payload]in
def C9{e:Nat}{d:Array ay}(j:∀a∈d,Bk v.b a)(l:v.b<e):∀a∈d,(aN a).low e:=by
 intro a h;rcases j a h with g|g|⟨f,wr,rfl,n⟩
 .rw[ofEvent_loc_mark g];trivial
 .rw[ofEvent_loc_mark g];trivial
 rw[ofEvent_cell];show f.block<e;grind
omit [Payload]in
def MR{l:Nat}{f:Array ay}(p:∀e∈f,Bk v.b e):∀e∈f,∀g,(aN e).touch?=b g->g.loc.isMemory=i->mL v T (j3 l) l g:=by
 intro e o q d _;rcases p e o with j|j|⟨h,wr,rfl,n⟩
 .rw[ofEvent_loc_mark j]at d;cases d
 .rw[ofEvent_loc_mark j]at d;cases d
 rw[ofEvent_cell]at d;simp only[MemAct.touch?,eA]at d;subst d;exact .inl ⟨h,a,n,a⟩
omit [Payload]in
def C_{d:Array ay}(h:∀a∈d,Bk v.b a):∀a∈d,∀e,a.loc≠.mark (.release e):=by
 intro a g e j;rcases h a g with l|l|⟨f,wr,rfl,_⟩
 .grind
 .grind
 grind
omit [Payload]in
def WJ{p:Nat}{q:aj}{l:Array ay}(y:gI T (j3 p) (v.base+p) d)(x:aZ h d)(B:cR d l)(t:cA h d aO q):
  (∀f∈l,(aN f).low q.a.heap.size)/\(∀f∈l,∀n,(aN f).touch?=b n->n.loc.isMemory=i->mL v (kJ T d.a.heap.size (v.base+p)) (j3 p) p n) /\
  (∀f∈l,f.loc≠.mark .disable/\f.loc≠.mark .enable)/\∀f∈l,∀n,f.loc≠.mark (.release n):=by
 have key:∀f∈l,(aN f).low q.a.heap.size/\(∀n,(aN f).touch?=b n->n.loc.isMemory=i->mL v (kJ T d.a.heap.size (v.base+p)) (j3 p) p n)/\(f.loc≠.mark .disable/\f.loc≠.mark .enable)/\∀n,f.loc≠.mark (.release n):=by
  intro f D;have r:=B f D;obtain⟨loc,wr,F⟩:=f;cases loc with
  |cell g=>
   obtain⟨s,w,e⟩:=r;simp only at s w e;subst s;have u:g.block<d.a.heap.size:=by
    rcases e with e|⟨⟨L,aq,e⟩,_⟩|⟨_,A,e⟩
    .exact e.elim
    .exact x.lt L aq _ e
    exact fP.lt x.mem e
   refine⟨by rw[ofEvent_cell];exact ej u t.size,λj o _=>?_,⟨by simp,by simp⟩,by simp⟩;rw[ofEvent_cell]at o;simp only[MemAct.touch?,eA]at o;subst o;refine .inr ⟨a,?_⟩;rcases e with e|⟨⟨L,aq,e⟩,_⟩|⟨C,A,e⟩
   .exact e.elim
   .exact .inl ⟨g.block,a,by rw[kj u];exact(y.blk _ (.inr ⟨L,aq,e⟩)).1⟩
   rcases(y.n _ _ _ e).1 with z|z
   .exact .inl ⟨g.block,a,by grind[kj]⟩
   refine .inr (.inr ⟨C,g.block,g.off,A,?_,z⟩);obtain⟨j,K,sp⟩:=g;grind
  |obj E=>
   obtain⟨s,w⟩:=r;simp only at s w;subst s;obtain⟨L,aq,e⟩:=w.resolve_left id;have u:=x.lt L aq _ e;refine⟨?_,λj o _=>?_,⟨by simp,by simp⟩,by simp⟩
   .simp[aN,MemAct.low,Loc.low];exact ej u t.size
   simp[aN,MemAct.touch?]at o;subst o;exact .inr ⟨a,.inl ⟨E,a,by rw[kj u];exact(y.blk _ (.inr ⟨L,aq,e⟩)).1⟩⟩
  |mark J=>
   simp only[hD]at r;rcases r with rfl|⟨I,rfl⟩
   .exact Le
   exact Le
  |_=>exact r.elim
 grind
def U3{a4:mH}{ds:Option (Nat×Nat)}{bx:Trace}{s:Nat->WD}{C:Nat->Nat}{b6:Nat->b5}{bw bu:Int}(j:kt P ty v B val p ag G a4 gs K bx T j3 y s C b6 N tag cQ t d bw bu)(cu:p<2147483648)(cq:y<=p)(ca:y+pend tag<=p){h:Nat}(gu:h<y)(aZ:gs[v.base+h]?=b X)(a0:X.status=.running):
  ∃o F M,runT P (crowd gs K ds) (v.base+h)=(.next o,F)/\j2 (v.base+p) M a4/\e2 P ty v B val p ag G M o (bx++F):=by
 have a7:=j.al.a9.base;obtain⟨bo,bP,a1⟩:=j.al.cz h gu;obtain rfl:X=bo:=J;generalize S:(s h).stage=aJ at a1;generalize bc:b6 (v.base+h)=b3 at a1;generalize aY:(s h).deaf=aw at a1;generalize aO:C h=cl at a1;have ba:Deaf bx (v.base+h)=aw:=by rw[j.al.c9 h gu,aY]
 have b8:=Vc_le y s;have same:∀w q,Go.ConcN.Mode y (upd s h ⟨aJ,w,q⟩) tag bw bu:=λw q=>by have:=j.mode.same (i:=h) w q;grind
 cases a1 with
 |@cB b3 X aR K bt aS bQ=>
  rcases bt.bq (λaR=>cL aR {aR with a:=K}/\gI T (j3 h) (v.base+h) aR) (λaR A az aF=>⟨aF.1.aK az,aF.2.aK az⟩) (λ_ aR A az aF=>⟨aF.1.bY az,aF.2.bY az⟩) ⟨aS,bQ⟩with⟨A,⟨k1,bO⟩,g⟩|⟨_,A,⟨k1,bO⟩,f⟩
  ·
   obtain⟨l,w2,es,e,au,bb,bz,ab⟩:=g.2 K k1 j.al.bu j.al.cn;have b_:=j.al.aE;refine ux j gu aZ e (ee:=T) (λ_ _=>rfl) (by rw[au.size];grind) (λa6 aP bh=>⟨by rw[au.size];grind,λU _ aM=>au.block U (λak=>by rw[ak,j.al.a9.cG]at aM;omega),λU aQ aj H bS=>?_,λaQ bf bg=>au.cv aQ ?_,au.os,au.tape,au.output⟩)
    ⟨by rw[au.size];grind,λU _ _ aS _=>au.block U aS,au.os,au.tape,au.output⟩ (.rel ab) (λak u=>?_) (λak u U aM _=>?_) (λak u=>?_) ?_ (λr=>absurd r cz) (λ_ b2 _ aF=>au.new b2 aF) (λr=>absurd r cz) au.bu
    (j.bJ.of_block (au.block _ (Ne.symm j.al.a9.bN))) (λ_ ah _=>(same _ _).retag ah) (.inl ⟨by omega,by simp[cnt,S]⟩) x
   .rw[l5 (au.block U (j.al.a9.bm a6 aP U aQ aj H).2.1)];exact bS
   .rcases Nat.lt_or_gt_of_ne bh with r|r
    .have:=u3 v.aE (show a6+1<=h from r);grind
    have:=u3 v.aE (show h+1<=a6 from r);grind
   .obtain⟨aQ,rfl,_⟩:=bb ak u;rw[ofEvent_cell];show v.J<_;rw[au.size];exact j.al.b6
   .obtain⟨aQ,rfl,bf,bg⟩:=bb ak u;rw[ofEvent_cell]at aM;simp only[MemAct.touch?,eA]at aM;subst aM;exact .inr ⟨a,.inr (.inl ⟨aQ,a,bf,bg⟩)⟩
   .grind
   rw[aY];exact deafBehind_idle (λak u=>by grind) 0
  ·
   obtain⟨l,b4,es,cw,e,bD,bK,bR⟩:=f _ k1;obtain⟨⟨cx,cg,cj,bd,D⟩,cf⟩:=bD.resolve_right id;have bs:gI T (j3 h) (v.base+h) {A with a:=K}:=bO.rely k1.size;obtain⟨aC,aE,bm,bV⟩:=WJ bs cj cf D;have W:∀U,U<K.heap.size->T U≠v.base+h->b4.a.heap[U]?=K.heap[U]?:=λU aM bI=>D.aG U aM λL aq bB=>bI (bs.blk U (.inr ⟨L,aq,bB⟩)).1;refine ux j gu aZ e (ee:=kJ T K.heap.size (v.base+h)) (λU aM=>kj aM) D.size (λa6 aP bh=>⟨D.size,λU aM b9=>W U aM x,λU aQ aj H bS=>?_,λaQ _ _=>l5 (W _ j.al.b6 (by rw[j.al.a9.cG];omega)) aQ,D.os,D.tape,D.output⟩)
    ⟨D.size,λU aM cn _ _=>W U aM x,D.os,D.tape,D.output⟩ (.cB bK (cL.dZ bd.mem) (bs.step bd D)) aC aE bV (by rw[aY];exact deafBehind_idle bm 0) (λr=>absurd r cz) (λr=>absurd r cz) (λr=>absurd r cz) ?_
    (j.bJ.of_block (W _ j.al.bZ (by rw[j.al.a9.cH];omega))) (λ_ ah _=>(same _ _).retag ah) (.inr ⟨S.symm,aO.symm,by grind⟩) x
   .rw[l5 (W U (j.al.dc a6 aP U aQ aj H) (by rw[(j.al.a9.bm a6 aP U aQ aj H).1];omega))];exact bS
   obtain⟨bk,bT,bU⟩:=j.al.bu;exact⟨bk,(W _ j.al.b6 (by rw[j.al.a9.cG];omega)).trans bT,bU⟩
 |@rel bz X K r=>
  rcases Goes.cases r with g|⟨w,rfl,f⟩
  ·
   obtain⟨_,bX,l,e,ar,ab⟩:=g K (Go.ConcN.RW.refl K);refine ux j gu aZ e (ee:=T) (λ_ _=>rfl) (bE _) (λa6 _ _=>.refl ..) (.refl K) (.tail cz (.k1 ab)) (λak u=>?_) (λak u U aM _=>?_) (λak u=>?_) g3 (λ_=>⟨bx.size,RelBy.new ba _ _⟩) (λ_=>j.al.cT h gu aO) (λ_=>by grind) j.al.bu j.bJ
    (λ_ ah _=>(j.mode.counted gu x (.inl a) _ _).retag ah) (.inl ⟨by omega,by simp[cnt,S]⟩) x
   .simp at u;subst u;exact j.al.bZ
   .simp at u;subst u;exact cF
   simp at u;subst u;simp[mk]
  obtain⟨l,I,es,e,⟨rfl,rfl⟩,E⟩:=f K (Go.ConcN.RW.refl K);exact ux j gu aZ e (ee:=T) (λ_ _=>rfl) (bE _) (λa6 _ _=>.refl ..) (.refl I) (.rel E) Q Q Q cF (λr=>absurd r cz) (λ_=>j.al.cT h gu aO) (λr=>absurd r cz) j.al.bu j.bJ (λ_ ah _=>(same _ _).retag ah)
   (.inr ⟨S.symm,aO.symm,by rw[bc];exact b5.gg _ d⟩) x
 |@tail aJ bz aw X K bW r=>
  have aK:∀{l:ae} {I:af} {es:Array ay} {A w q:Nat} {an al:Int},ap P m X K=.go l I es->Aside v.b K I->WgAt ty v.b I an al->(∀ak∈es,Bk v.b ak) ->
    (∀g8 ak,es[g8]?=b ak->(aN ak).touch?=k∨0<deafBehind aw (es.extract 0 g8))->A<=6->WSit P ty v.b v.J B ot ot 0 (v.aE*h+1) (val h 0) A w q l I->deafBehind aw es=q ->
    (∀O,(O=tag∨(tag=.blk/\O=.w3))->(mayWake P X=i->l.status=.running->O≠.blk)->Go.ConcN.Mode y (upd s h ⟨A,0,q⟩) O an al)->((A<aJ/\cnt ⟨A,0,q⟩<=cnt (s h))∨(A=aJ/\w+1=bz)) ->
    ∃o F M,runT P (crowd gs K ds) (v.base+h)=(.next o,F)/\j2 (v.base+p) M a4/\e2 P ty v B val p ag G M o (bx++F):=by
   intro l I es A w q an al e R aH Z br a2 aA a' ad bR;obtain⟨bk,bp,bq⟩:=j.al.bu;refine ux j gu aZ e (ee:=T) (λ_ _=>rfl) (by rw[R.size];grind) (λa6 aP _=>.bJ R j.al.a9.cH a7 (λU aQ aj H=>(j.al.a9.bm a6 aP U aQ aj H).2.2.1) j.al.a9.bN) (.bJ R) (.tail a2 aA) (C9 Z (by rw[R.size];exact j.al.bZ)) (MR Z) (C_ Z) J
    (λ_=>let ⟨b3,bZ⟩:=j.al.rel h gu x;⟨b3,bZ.book ba _ _ Z br⟩) (λ_ b2 bF bG=>(l5 (R.block _ j.al.a9.bN) _).trans (j.al.cT h gu aO b2 bF bG)) (λ_=>(l5 (R.block _ j.al.a9.bN) _).trans (j.al.dm h gu x)) ⟨bk,(R.block _ j.al.a9.bN).trans bp,bq⟩ aH ad
    (bR.imp (λr=>⟨by omega,r.2⟩) λr=>⟨by omega,aO.symm,by rw[bc,<-r.2];exact b5.gg _ d⟩) x
  have book:∀{l:ae} {I:af} {es:Array ay} {A w q:Nat} {an al:Int},ap P m X K=.go l I es->Aside v.b K I->WgAt ty v.b I an al->(∀ak∈es,Bk v.b ak) ->
    (∀g8 ak,es[g8]?=b ak->(aN ak).touch?=k∨0<deafBehind aw (es.extract 0 g8))->A<=6->WSit P ty v.b v.J B ot ot 0 (v.aE*h+1) (val h 0) A w q l I->deafBehind aw es=q ->
    Go.ConcN.Mode y (upd s h ⟨A,0,q⟩) tag an al->((A<aJ/\cnt ⟨A,0,q⟩<=cnt (s h))∨(A=aJ/\w+1=bz)) ->
    ∃o F M,runT P (crowd gs K ds) (v.base+h)=(.next o,F)/\j2 (v.base+p) M a4/\e2 P ty v B val p ag G M o (bx++F):=
   λe R aH Z br a2 aA a' ad bR=>aK e R aH Z br a2 aA a' (λ_ ah _=>ad.retag ah) bR
  have ai:∀{l:ae} {w:Nat},ap P m X K=.go l K #[]->WSit P ty v.b v.J B ot ot 0 (v.aE*h+1) (val h 0) aJ w aw l K->w+1=bz ->
    ∃o F M,runT P (crowd gs K ds) (v.base+h)=(.next o,F)/\j2 (v.base+p) M a4/\e2 P ty v B val p ag G M o (bx++F):=by intro l w e aA T;exact book e (.refl v.b K) j.bJ Q Q bW aA a (same _ _) (.inr ⟨a,T⟩)
  cases r with
  |r0 r=>omega
  |k1 r=>
   rcases Goes.cases r with g|⟨w,rfl,f⟩
   .obtain⟨_,l,e,ar,ab⟩:=g K (Go.ConcN.RW.refl K);exact book e (.refl v.b K) j.bJ (by intro ak u;simp at u;subst u;exact .inl a) (by intro g8 ak u;exact .inl (by have:=pK u;simp at this;exact g3)) cz (.d1 ab) a (j.mode.counted gu x (.inr a) _ _) (.inl ⟨by omega,by simp[cnt,S]⟩)
   obtain⟨l,I,es,e,⟨rfl,rfl⟩,E⟩:=f K (Go.ConcN.RW.refl K);exact ai e (.k1 E) a
  |d1 r=>
   rcases Goes.cases r with g|⟨w,rfl,f⟩
   .obtain⟨_,aV⟩:=g K (Go.ConcN.RW.refl K);have n:=j.bJ;have ao:=j.mode;have bC:cnt (s h)=1:=by simp[cnt,S]
    have b7:1<=Vc y s:=by have:=le_sumTo (f:=λh=>cnt (s h)) gu;simp only[Vc];omega
    have aT:∀ak∈#[rd (stA v.b),wr (stA v.b)],Bk v.b ak:=by intro ak u;simp at u;rcases u with rfl|rfl<;>exact bk_cell _ _ rfl
    have aU:∀g8 ak,(#[rd (stA v.b),wr (stA v.b)]:Array ay)[g8]?=b ak->(aN ak).touch?=k∨0<deafBehind 1 ((#[rd (stA v.b),wr (stA v.b)]:Array ay).extract 0 g8):=by
     intro g8 ak u
     match g8,u with
     |0,_=>exact .inr W3
     |1,_=>exact .inr (by simp[deafBehind,rd])
     |g8+2,u=>simp at u
    have cb:∀a5,cnt (⟨1,a5,1⟩:WD)=0:=λ_=>rfl;have bj:∀a5,OpenSt y s->OpenSt y (upd s h ⟨1,a5,1⟩):=λa5 r t a_=>by
     by_cases ak:t=h
     .subst ak;exact uJ
     rw[upd_ne s _ ak];exact r t a_
    generalize b1:bw=cd at ao n;generalize b0:bu=cc at ao n;cases ao with
    |opn bt aS bQ=>
     obtain⟨aj,H⟩:∃aj,Vc y s+pend tag=aj+1:=⟨Vc y s+pend tag-1,by omega⟩
     rw[H]at n;have a3:WgAt ty v.b K (((aj:Nat)+1)*KK+((0:Nat):Int)) 0:=J;obtain⟨l,e,_,Y⟩:=aV aj 0 x x a3;obtain⟨a5,Y⟩:=Y x;have bL:Vc y (upd s h ⟨1,0,1⟩)+pend tag=aj:=LV;refine book e (aside_setCell K (stA v.b) _) (n.setSt _) aT aU cz (.quit Y) a ?_ (.inl ⟨by omega,by grind⟩);have ak:((aj:Nat):Int)*KK+((0:Nat):Int)=((Vc y (upd s h ⟨1,0,1⟩)+pend tag:Nat):Int)*KK:=J;rw[ak];exact .opn bt (bj 0 aS) (λz cm=>by grind)
    |reg bt aS bQ=>
     obtain⟨aj,H⟩:∃aj,Vc y s=aj+1:=⟨Vc y s-1,by omega⟩
     rw[H]at n;have cv:pend tag=0:=by cases tag<;>first|rfl|exact bt.elim
     have a3:WgAt ty v.b K (((aj:Nat)+1)*KK+((1:Nat):Int)) 0:=J;obtain⟨l,e,bY,Y⟩:=aV aj 1 x x a3;by_cases bN:aj=0
     .subst bN;obtain⟨ar,ab⟩:=bY ⟨rfl,rfl⟩;refine book e (aside_setCell K (stA v.b) _) (n.setSt _) aT aU cz (.d2 ab) a ?_ (.inl ⟨by omega,by simp[cnt]⟩);have aG:∀t,t<y->t≠h->(s t).stage=1:=λt a_ ak=>by have bA:=others_uncounted gu H bC t a_ ak;have:=aS t a_;simp only[cnt]at bA;split at bA<;>omega
      have:=Go.ConcN.Mode.last (j:=y) (D:=upd s h ⟨4,0,1⟩) (tag:=tag) h bt gu uJ (λt a_ ak=>by rw[upd_ne s _ ak];grind);rw[upd_same]at this;grind
     obtain⟨a5,Y⟩:=Y x;have bL:Vc y (upd s h ⟨1,0,1⟩)=aj:=LV;refine book e (aside_setCell K (stA v.b) _) (n.setSt _) aT aU cz (.quit Y) a ?_ (.inl ⟨by omega,by grind⟩);have ak:((aj:Nat):Int)*KK+((1:Nat):Int)=((Vc y (upd s h ⟨1,0,1⟩):Nat):Int)*KK+1:=J;rw[ak];exact .reg bt (bj 0 aS) x
    |last L _ aS bQ cy=>
     grind
    |sema aS=>have:=aS h gu;omega
    |fin _ aS=>have:=aS h gu;omega
   obtain⟨l,I,es,e,⟨rfl,rfl⟩,E⟩:=f K (Go.ConcN.RW.refl K);exact ai e (.d1 E) a
  |d2 r=>
   rcases Goes.cases r with g|⟨w,rfl,f⟩
   .obtain⟨_,aB⟩:=g K (Go.ConcN.RW.refl K);obtain⟨ax,aG,aC,aE⟩:=j.mode.isLast gu x;have n:=j.bJ;rw[aC,aE,S]at n;obtain⟨l,e,ar,ab⟩:=aB J;refine book e (.refl v.b K) n LH Lz cz (.d3 ab) a ?_ (.inl ⟨by omega,by simp[cnt]⟩);have:=Go.ConcN.Mode.last (j:=y) (D:=upd s h ⟨3,0,1⟩) (tag:=tag) h ax gu uJ (λt a_ ak=>by rw[upd_ne s _ ak];grind);rw[upd_same]at this;grind
   obtain⟨l,I,es,e,⟨rfl,rfl⟩,E⟩:=f K (Go.ConcN.RW.refl K);exact ai e (.d2 E) a
  |d3 r=>
   rcases Goes.cases r with g|⟨w,rfl,f⟩
   .obtain⟨_,aB⟩:=g K (Go.ConcN.RW.refl K);obtain⟨ax,aG,aC,aE⟩:=j.mode.isLast gu x;have n:=j.bJ;rw[aC,aE,S]at n;obtain⟨l,e,ar,ab⟩:=aB J;refine book e (aside_setCell K (stA v.b) _) (n.setSt 0) LH Lz cz (.d4 ab) a ?_ (.inl ⟨by omega,by simp[cnt]⟩);have:=Go.ConcN.Mode.last (j:=y) (D:=upd s h ⟨2,0,1⟩) (tag:=tag) h ax gu uJ (λt a_ ak=>by rw[upd_ne s _ ak];grind);rw[upd_same]at this;grind
   obtain⟨l,I,es,e,⟨rfl,rfl⟩,E⟩:=f K (Go.ConcN.RW.refl K);exact ai e (.d3 E) a
  |d4 r=>
   rcases Goes.cases r with g|⟨w,rfl,f⟩
   .obtain⟨_,bH,aB⟩:=g K (Go.ConcN.RW.refl K);obtain⟨ax,aG,aC,aE⟩:=j.mode.isLast gu x;have n:=j.bJ;rw[aC,aE,S]at n;obtain⟨l,e,a5,Y⟩:=aB J;have a8:l.status=.running:=by
     cases a5 with
     |zero=>exact absurd Y.2 cz
     |succ a5=>exact Y.elim (λh=>absurd h.2 cz) (λh=>h.1)
    refine aK e (aside_setCell K (smA v.b) _) (n.setSm 1) (es:=semEvents (smA v.b)) ?_ ?_ cz (.quit Y) cF ?_ (.inl ⟨by omega,by simp[cnt]⟩)
    .intro ak u;simp[semEvents]at u;rcases u with rfl|rfl|rfl|rfl
     .exact .inl a
     .exact bk_cell _ _ a
     .exact bk_cell _ _ a
     exact .inr (.inl a)
    .intro g8 ak u
     match g8,u with
     |0,u=>simp[semEvents]at u;subst u;exact .inl a
     |1,_=>exact .inr I'
     |2,_=>exact .inr I'
     |3,u=>simp[semEvents]at u;subst u;exact .inl a
     |g8+4,u=>simp[semEvents]at u
    intro O ah ck;have b':=ck bH a8;have bm:O=.w3:=by
     rcases ah with rfl|⟨_,rfl⟩
     .cases O<;>first|rfl|exact ax.elim|grind
     simp
    subst bm;simp only[cN];exact .sema λt a_=>by
     by_cases ak:t=h
     .subst ak;rw[upd_same]
     rw[upd_ne s _ ak];grind
   obtain⟨l,I,es,e,⟨rfl,rfl⟩,E⟩:=f K (Go.ConcN.RW.refl K);exact ai e (.d4 E) a
  |quit r=>
   cases bz with
   |zero=>rw[r.1]at a0;cases a0
   |succ a5=>
    rcases r with⟨cp,_⟩|⟨_,l,es,aL,f,Y⟩
    .grind
    have Z:∀ak∈es,Bk v.b ak:=λak u=>bk_of_mute (aL ak u);have bJ:∀g8 ak,es[g8]?=b ak->(aN ak).touch?=k∨0<deafBehind aw (es.extract 0 g8):=λg8 ak u=>.inl (touch_mute (aL ak (pK u)));exact book (f K) (.refl v.b K) j.bJ Z bJ cz (.quit Y) a (same _ _) (.inr ⟨a,a⟩)
end
end
section
open Go.Conc
open Go.ConcN (WD CTag Vc Ssum pend phi cnt WgLive PayAt Has RW DWs WSit RelBy sumTo upd upd_same upd_ne AtR0 isW3 isOpen OpenSt deafBehind_idle bk_cell okW_none Vc_upd Vc_le le_sumTo others_uncounted sumTo_upd_out bk_dis bk_en bk_rd bk_rw bk_sem allQuit_of exists_counted)
open Go.ConcR (KK WgAt stA smA rd wr mk Payload g_of_ofEvents Bk bk_of_mute ofEvent_loc_mark ofEvent_cell ofEvent_mk)
variable [Payload]
section
variable {v:gm}{ag o:ae->aj->Prop}{l ee:Nat->Nat}{eM G:Nat->Mem}{tag:CTag}{cQ:b5}{N:Nat}{t:ae}{cU:mH}{ds:Option (Nat×Nat)}{w:Trace}{s:Nat->WD}{C:Nat->Nat}{ax:Nat->b5}{cK r2:Int}
omit [Payload]in
def ff.congr{h:Nat}(d:ff v l eM w y h)(j:∀g,g<y->G g=eM g):ff v l G w y h:=
 ⟨d.base,d.cH,d.cG,d.bN,d.dA,d.ec,d.ea,λe H=>by rw[j e H];exact d.bm e H,d.bA,d.dX,d.seen,d.old,d.dS,d.et,λo n f a l=>(d.new o n f a l).imp id λ⟨e,H,p,q⟩=>⟨e,H,p,by grind⟩,
  λe H=>by rw[j e H];exact d.dW e H,d.over⟩
def gV.congr{e g a h:Nat}{j:b5}(o:gV P ty v B val l eM e g a j h X K)(q:G e=eM e):gV P ty v B val l G e g a j h X K:=by
 cases o with
 |cB d n p=>exact .cB d n J
 |rel d=>exact .rel d
 |tail f d=>exact .tail f d
def hs.congr{e:Nat}(a:hs P ty v B val l eM y gs K w s C ax e)(f:∀d,d<y->G d=eM d):hs P ty v B val l G y gs K w s C ax e:=
 ⟨a.size,a.cX,a.above,λh H=>let ⟨X,n,j⟩:=a.cz h H;⟨X,n,j.congr (f h H)⟩,a.a9.congr f,a.dw,a.c8,a.c9,a.rel,a.cT,a.dm,a.bu,a.cn,a.bZ,a.b6,a.cW,a.aE,λd g=>by rw[f d g];exact a.dc d g⟩
omit [Payload]in
def So{w:aj}{g:Array ay}(I:fD v l eM y d)(T:aZ h d)(aq:cR d g)(D:cA h d aO w):
  (∀f∈g,(aN f).low w.a.heap.size)/\(∀f∈g,∀e,(aN f).touch?=b e->e.loc.isMemory=i->nv v (kJ l d.a.heap.size 0) e) /\
  (∀f∈g,∀e,(aN f).touch?=b e->e.kind=.plain->e.write=i->∀q,q<y->∀j p x,e.loc=.cell ⟨j,p,k⟩->eM q j p≠b x) /\
  (∀f∈g,f.loc≠.mark .disable/\f.loc≠.mark .enable)/\∀f∈g,∀e,f.loc≠.mark (.release e):=by
 have key:∀f∈g,(aN f).low w.a.heap.size/\(∀e,(aN f).touch?=b e->e.loc.isMemory=i->nv v (kJ l d.a.heap.size 0) e) /\
   (∀e,(aN f).touch?=b e->e.kind=.plain->e.write=i->∀q,q<y->∀j p x,e.loc=.cell ⟨j,p,k⟩->eM q j p≠b x)/\(f.loc≠.mark .disable/\f.loc≠.mark .enable)/\∀e,f.loc≠.mark (.release e):=by
  intro f N;have A:=aq f N;obtain⟨loc,wr,S⟩:=f;cases loc with
  |cell n=>
   obtain⟨E,F,o⟩:=A;simp only at E F o;subst E;have J:n.block<d.a.heap.size/\l n.block=0/\n.block≠v.J/\n.block≠v.b/\¬v.bl n.block:=by
    rcases o with o|⟨⟨L,M,o⟩,_⟩|⟨_,x,o⟩
    .exact o.elim
    .obtain⟨k1,r,K,s,t⟩:=I.blk _ (.inr ⟨L,M,o⟩);grind
    obtain⟨k1,r,K,s,t⟩:=I.n _ _ _ o;grind
   refine⟨by rw[ofEvent_cell];exact ej J.1 D.size,λj u _=>?_,λj u _ B q H z p x C O=>?_,⟨by simp,by simp⟩,by simp⟩
   .rw[ofEvent_cell]at u;simp only[MemAct.touch?,eA]at u;subst u;exact .inr ⟨n.block,a,by grind[kj],J.2.2.2.1,J.2.2.1,J.2.2.2.2,a⟩
   rw[ofEvent_cell]at u;simp only[MemAct.touch?,eA]at u;subst u;simp only at B C;have Q:=I.bm q H z p x O;grind
  |obj R=>
   obtain⟨E,F⟩:=A;simp only at E F;subst E;obtain⟨L,M,o⟩:=F.resolve_left id;obtain⟨k1,r,K,s,t⟩:=I.blk _ (.inr ⟨L,M,o⟩);refine⟨?_,λj u _=>?_,λj u _ _ q _ z p x C=>?_,⟨by simp,by simp⟩,by simp⟩
   .simp[aN,MemAct.low,Loc.low];exact ej t D.size
   .simp[aN,MemAct.touch?]at u;subst u;exact .inr ⟨R,a,by grind[kj],K,r,s,a⟩
   simp[aN,MemAct.touch?]at u;grind
  |mark V=>
   simp only[hD]at A;rcases A with rfl|⟨U,rfl⟩
   .exact J5
   exact J5
  |_=>exact A.elim
 grind
def AA(cm:kt P ty v B val p ag o cU gs K w l eM y s C ax N tag cQ t d cK r2){z:ae}{e:Array ay}{pb:CTag}{mq:b5}{j h:Int}(O:ap P i t K=.go z a5 e)(Y:∀M,M<K.heap.size->ee M=l M)(R:K.heap.size<=a5.heap.size)(J:∀U,U<y->ku v l (eM U) U K a5)(E:∀A∈e,(aN A).low a5.heap.size)(S:∀A∈e,∀t,(aN A).touch?=b t->t.loc.isMemory=i->nv v ee t)(T:∀A∈e,∀t,(aN A).touch?=b t->t.kind=.plain->t.write=i->∀W,W<y->∀M V ah,t.loc=.cell ⟨M,V,k⟩->eM W M V≠b ah)(Q:∀A∈e,∀t,A.loc≠.mark (.release t))(F:PayAt v.J B a5)(q:WgAt ty v.b a5 j h)(D:gA P ty v B val p ag o pb y mq (deafBehind N e) z au)(n:cL au {au with a:=a5})(Z:fD v ee eM y au)(ad:Go.ConcN.Mode y s pb j h)(ab:phi p (Vc y s) pb<phi p (Vc y s) tag∨(phi p (Vc y s) pb=phi p (Vc y s) tag/\b5.lt mq cQ)):
  ∃g r u,runT P (crowd gs K ds) 0=(.next g,r)/\j2 (v.base+p) u cU/\e2 P ty v B val p ag o u g (w++r):=by
 have ai:=cm.al.a9.base;have I:=runT_crowd_go (P:=P) (sl:=ds) (i:=0) cm.c1 (by simpa using O)
 refine⟨_,_,(phi p (Vc y s) pb+Ssum y s+sumTo y C,(ax,mq)),I,?_,_,a5,ds,ee,eM,y,s,C,ax,deafBehind N e,pb,mq,z,au,j,h,a,
  ⟨Go.ConcN.get_map_set_same _ _ _ Cr,D,n,Z,cm.al.hG Y R J E S T Q F ⟨_,_,q⟩,q,ad,rfl⟩⟩
 rw[cm.eo];rcases ab with aj|⟨af,X⟩
 .exact Prod.Lex.left _ _ x
 rw[af];exact Prod.Lex.right _ (Prod.Lex.right _ X)
def mj(j:kt P ty v B val p ag o cU gs K w l eM y s C ax N tag cQ t d cK r2){Q:ae}{F:Array ay}{mq:b5}{n:aj}(ao:cL n {n with a:=K})(an:fD v l eM y n)(I:ap P i t K=.go Q au.a F)(T:jB {n with a:=K} au F∨dI v.b {n with a:=K} au F)(u:gA P ty v B val p ag o tag y mq N Q au)(aA:b5.lt mq cQ):
  ∃A M O,runT P (crowd gs K ds) 0=(.next A,M)/\j2 (v.base+p) O cU/\e2 P ty v B val p ag o O A (w++M):=by
 rcases T with⟨⟨h,aO,aG,z,X⟩,aq⟩|⟨rfl,E,R,aw⟩
 .have Y:fD v l eM y {n with a:=K}:=an.rely ao.size;obtain⟨af,ah,ai,ak,al⟩:=So Y aG aq X;have e:∀f,f<K.heap.size->(l f≠0∨f=v.J∨f=v.b)->au.a.heap[f]?=K.heap[f]?:=λf q az=>X.aG f q λL aE S=>by obtain⟨aJ,aK,aL,_⟩:=Y.blk f (.inr ⟨L,aE,S⟩);grind
  have V:=j.al.a9.base;refine AA j I (ee:=kJ l K.heap.size 0) (λf q=>kj q) X.size (λaC U=>⟨X.size,λf q ar=>e f q (.inl x),λf W aB aF _=>z.mem f W aB (X.mem _ _ _ (an.bm aC U f W aB aF)),λW _ _=>l5 (e _ j.al.b6 (.inr (.inl a))) W,X.os,X.tape,X.output⟩) af ah ai al ?_
   (j.bJ.of_block (e _ j.al.bZ (.inr (.inr a)))) (au:=au) (pb:=tag) (mq:=mq) (by rw[deafBehind_idle ak];exact u) (cL.dZ z.mem) (Y.step z X j.al.bZ j.al.b6 j.al.cW) j.mode (.inr ⟨rfl,aA⟩)
  obtain⟨ad,Z,ab⟩:=j.al.bu;exact⟨ad,(e _ j.al.b6 (.inr (.inl a))).trans Z,ab⟩
 have g:∀r∈F,r=mk (.read E)∨r=mk (.write E):=J;refine AA j I (ee:=l) (λf q=>rfl) (bE _) (λaC U=>.refl ..) (λr D=>?_) (λr D f q _=>?_) (λr D f q aH=>?_) (λr D=>?_) j.al.bu j.bJ (au:={n with a:=K}) (pb:=tag) (mq:=mq) ?_ (ao.fE ) (an.rely ao.size) j.mode (.inr ⟨rfl,aA⟩)
 .have hW:=j.al.bZ;rcases g r D with rfl|rfl<;>(rw[ofEvent_mk];show E.block<_;grind)
 .rcases g r D with rfl|rfl<;>(rw[ofEvent_mk]at q;simp[MemAct.touch?]at q;subst q;exact .inl ⟨E,rfl,R,by simp⟩)
 .rcases g r D with rfl|rfl<;>(rw[ofEvent_mk]at q;simp[MemAct.touch?]at q;grind)
 .rcases g r D with rfl|rfl<;>simp[mk]
 rw[deafBehind_idle (λr D=>by rcases g r D with rfl|rfl<;>simp[mk])];exact u
def kK(q:kt P ty v B val p ag o cU gs K w l eM y s C ax N tag cQ t d cK r2){J:ae}{E:Array ay}{e:CTag}{x:b5}{A z:Int}{h:aj}(ai:cL h {h with a:=K})(g:fD v l eM y h)(T:ap P i t K=.go J a5 E)(Q:Aside v.b K a5)(I:WgAt ty v.b a5 A z)(f:∀O∈E,Bk v.b O)(F:gA P ty v B val p ag o e y x (deafBehind N E) J {h with a:=a5})(j:Go.ConcN.Mode y s e A z)(ah:phi p (Vc y s) e<phi p (Vc y s) tag∨(phi p (Vc y s) e=phi p (Vc y s) tag/\b5.lt x cQ)):
  ∃n r D,runT P (crowd gs K ds) 0=(.next n,r)/\j2 (v.base+p) D cU/\e2 P ty v B val p ag o D n (w++r):=by
 obtain⟨W,R,S⟩:=q.al.bu;have Y:cL h {h with a:=a5}:=g.cM ai (px.bJ Q);refine AA q T (ee:=l) (λU u=>rfl) (by rw[Q.size];grind) (λal X=>.bJ Q q.al.a9.cH q.al.a9.base (λU af ak ab=>(q.al.a9.bm al X U af ak ab).2.2.1) q.al.a9.bN) (C9 f (by rw[Q.size];exact q.al.bZ)) (λO V U u l=>?_) (λO V U u ad=>?_) (C_ f)
  ⟨W,(Q.block _ q.al.a9.bN).trans R,S⟩ I F Y.fE (g.rely Y.size) j ah
 .rcases f O V with be|be|⟨M,wr,rfl,Z⟩
  .exact xB
  .exact xB
  rw[ofEvent_cell]at u;simp only[MemAct.touch?,eA]at u;subst u;exact .inl ⟨M,a,Z,by simp⟩
 rcases f O V with be|be|⟨M,wr,rfl,Z⟩
 .exact xB
 .exact xB
 rw[ofEvent_cell]at u;simp only[MemAct.touch?,eA]at u;grind
end
section
variable {v:gm}{ag ac:ae->aj->Prop}{U ee:Nat->Nat}{bk o:Nat->Mem}{tag:CTag}{cQ:b5}{N:Nat}{t:ae}{bR:mH}{ds:Option (Nat×Nat)}{w:Trace}{s:Nat->WD}{C:Nat->Nat}{ax:Nat->b5}{cK T:Int}
def gA.fM(a:gA P ty v B val p ag ac tag y cQ N t d):y+pend tag<=p:=by cases a<;>simp only[pend]<;>(try simp)<;>omega
omit [Payload]in
def mg(q:fX (al.ay P ty v.b) (dI v.b) bg cQ t d)(r:cL d {d with a:=K})(p:fD v U bk y d)(h:WgLive ty v.b K):
  (∃a,cL a {a with a:=K}/\fD v U bk y a/\bg t a)∨∃a,cL a {a with a:=K}/\fD v U bk y a/\∃j f g n,ap P i t K=.go j f.a g/\(jB {a with a:=K} f g∨dI v.b {a with a:=K} f g)/\fX (al.ay P ty v.b) (dI v.b) bg n j f/\b5.lt n cQ:=by
 rcases q.bq (λe=>cL e {e with a:=K}/\fD v U bk y e) (λe a D l=>⟨l.1.aK D,l.2.aK D⟩) (λG=>False.elim G) ⟨r,p⟩with⟨a,⟨k1,u⟩,o⟩|⟨_,a,⟨k1,u⟩,o⟩
 .grind
 exact .inr ⟨a,k1,u,o _ ⟨k1,λ_=>h⟩⟩
def gV.quits{n h a f:Nat}{l:b5}{g:ae}(e:gV P ty v B val U bk n h a l f g K)(d:a=1):∃j,QuitsD P j f g:=by
 cases e with
 |cB _ _ _=>cases d
 |rel _=>cases d
 |tail _ e=>exact⟨_,e.quits d⟩
def gV.gu{A d a g:Nat}{h:b5}(e:gV P ty v B val U bk A d a h g X K)(f:a=1):d=0:=by
 cases e with
 |cB _ _ _=>cases f
 |rel _=>rfl
 |tail _ e=>rfl
def U2(cm:kt P ty v B val p ag ac bR gs K w U bk y s C ax N tag cQ t d cK T)(bJ:p<2147483648)(a0:∀X d,ac X d->db (al.ay P ty v.b) (dI v.b) (pp P ty v ag ac) X d)(a_:t.status=.running):
  ∃az j,runT P (crowd gs K ds) 0=(.next az,j)/\((∃ee aR,uP P v B val p ag ee aR az (w++j))∨∃l,j2 (v.base+p) l bR/\e2 P ty v B val p ag ac l az (w++j)):=by
 have bB:=Vc_le y s;have bt:=cm.al.a9.base;have f:=cm.al.cn;have fin:∀{q:Prop},(∃az j l,runT P (crowd gs K ds) 0=(.next az,j)/\j2 (v.base+p) l bR/\e2 P ty v B val p ag ac l az (w++j)) ->
   ∃az j,runT P (crowd gs K ds) 0=(.next az,j)/\((∃ee aR,uP P v B val p ag ee aR az (w++j))∨∃l,j2 (v.base+p) l bR/\e2 P ty v B val p ag ac l az (w++j)):=
  λ{_} ⟨az,j,l,aB,ah,aG⟩=>⟨az,j,aB,.inr ⟨l,ah,aG⟩⟩
 have bd:=cm.c7.fM;have bu:=cm.c7;have E:=cm.bJ;have af:=cm.mode;cases bu with
 |@eX g cQ X d F S=>
  rcases mg S cm.rely cm.ay f with⟨au,k1,u,_,gG,H,e⟩|⟨au,k1,u,gG,cv,es,h,H,Y,e,aq⟩
  .obtain⟨Z,e⟩:=e {au with a:=K} (lq k1 f);exact fin (q:=True) (kK cm k1 u (H K) (.refl v.b K) E bk_dis (.e2 F e) (af.reopen M M a Q) (.inl kS))
  exact fin (q:=True) (mj cm k1 u H Y (.eX F e) aq)
 |@e2 g cQ X d F S=>
  rcases mg S cm.rely cm.ay f with⟨au,k1,u,_,aA⟩|⟨au,k1,u,gG,cv,es,h,H,Y,e,aq⟩
  .obtain⟨ak,I,O,_⟩:=af.open_inv M;rw[I,O]at E;obtain⟨fl,H,Z,e⟩:=aA {au with a:=K} (lq k1 f) (Vc (p-(g+1)) s) x (by simpa[pend]using E);refine fin (q:=True) (kK cm k1 u H (aside_setCell K (stA v.b) _) (E.setSt _) bk_rw (.fx F e) ?_ (.inl kS));have ae:(((Vc (p-(g+1)) s:Nat):Int)+1)*KK=((Vc (p-(g+1)) s+pend (.sp g 3):Nat):Int)*KK:=by simp[pend]
   rw[ae];exact .opn M ak Q
  exact fin (q:=True) (mj cm k1 u H Y (.e2 F e) aq)
 |@fx g cQ X d F S=>
  rcases mg S cm.rely cm.ay f with⟨au,k1,u,_,gG,H,e⟩|⟨au,k1,u,gG,cv,es,h,H,Y,e,aq⟩
  .obtain⟨Z,e⟩:=e {au with a:=K} (lq k1 f);exact fin (q:=True) (kK cm k1 u (H K) (.refl v.b K) E bk_en (.fc F e) (af.reopen M M a Q) (.inl kS))
  exact fin (q:=True) (mj cm k1 u H Y (.fx F e) aq)
 |@fc g cQ X d F S=>
  rcases mg S cm.rely cm.ay f with⟨au,k1,u,_,aA⟩|⟨au,k1,u,gG,cv,es,h,H,Y,e,aq⟩
  .obtain⟨fl,D6,bh,_,⟨rc,bm⟩,ar⟩:=aA {au with a:=K} (lq k1 f);obtain⟨ak,I,O,_⟩:=af.open_inv M;rw[I,O]at E;have o:=runT_crowd_spawn (P:=P) (sl:=ds) (i:=0) cm.c1 (by simpa using bh);rw[cm.al.size]at o;have br:fD v U bk (p-(g+1)) {au with a:=K}:=u.rely k1.size;let aR:=upd bk (p-(g+1)) au.n;have a1:∀cd,cd<p-(g+1)->aR cd=bk cd:=λcd a'=>upd_ne bk _ x;have aH:aR (p-(g+1))=au.n:=upd_same bk _ _;have aK:cL (aj.c6 {au with a:=K}) {aj.c6 {au with a:=K}with a:=K}:=cL.dZ k1.mem;have aY:gI U (aR (p-(g+1))) (v.base+(p-(g+1))) (aj.c6 {au with a:=K}):=by
    refine⟨λaZ ay=>?_,λaZ bp bq r=>⟨.inr (by rw[aH];exact r),(br.n aZ bp bq r).2.2.2.2⟩⟩;rcases ay with ay|⟨L,bA,_⟩
    .exact ay.elim
    simp[aj.c6]at bA
   have R:=(cm.al.congr a1).spawn (fl:=fl) (A:={g:=0,fn:=t.frame.fn,pos:=t.frame.place,act:=.go (v.base+(p-(g+1)))}) (cd:={g:=v.base+(p-(g+1)),fn:=D6.frame.fn,pos:=t.frame.place,act:=.start}) ⟨rfl,rfl⟩ ⟨rfl,rfl⟩
    (λaZ bp bq r=>by rw[aH]at r;exact br.n aZ bp bq r) bm aK aY
   have bb:Vc (p-(g+1)+1) (upd s (p-(g+1)) ⟨7,0,0⟩)=Vc (p-(g+1)) s+1:=by simp only[Vc,sumTo,upd_same];rw[sumTo_upd_out s _ cnt (bE _)];rfl
   have mW:Ssum (p-(g+1)+1) (upd s (p-(g+1)) ⟨7,0,0⟩)=Ssum (p-(g+1)) s+7:=by simp only[Ssum,sumTo,upd_same];rw[sumTo_upd_out s _ WD.stage (bE _)]
   have ba:sumTo (p-(g+1)+1) (upd C (p-(g+1)) 1)=sumTo (p-(g+1)) C+1:=by have:sumTo (p-(g+1)) (upd C (p-(g+1)) 1)=sumTo (p-(g+1)) C:=sumTo_upd_out C 1 id (i:=p-(g+1)) (j:=p-(g+1)) (bE _);show sumTo (p-(g+1)) (upd C (p-(g+1)) 1)+upd C (p-(g+1)) 1 (p-(g+1))=_;rw[upd_same];grind
   have aw:OpenSt (p-(g+1)+1) (upd s (p-(g+1)) ⟨7,0,0⟩):=λW ai=>by
    by_cases ae:W=p-(g+1)
    .subst ae;exact uJ
    rw[upd_ne s _ ae];exact ak W x
   have a2:((gs.setIfInBounds 0 fl).push D6)[0]?=b fl:=by have bc:0<gs.size:=Cr;grind
   have bs:fD v U aR (p-(g+1)+1) {au with a:=K}:=⟨br.blk,br.n,λcd a' aZ bp bq r=>by
    rcases dJ cd (p-(g+1))with aB|aB
    .rw[a1 cd aB]at r;exact br.bm cd aB aZ bp bq r
    .obtain rfl:cd=p-(g+1):=x
     rw[aH]at r;exact r⟩
   have bw:p-(g+1)+1=p-g:=x;rw[bw]at R bb mW ba aw bs;have aF:∀ao,pend ao=0->((Vc (p-(g+1)) s+pend (.sp g 2):Nat):Int)*KK=((Vc (p-g) (upd s (p-(g+1)) ⟨7,0,0⟩)+pend ao:Nat):Int)*KK:=λao bK=>by exact g3
   cases g with
   |zero=>
    obtain⟨aQ,e⟩:=ar;simp only[pF]at R bb mW ba aw aF bs;refine⟨_,_,o,.inr ⟨(phi p (Vc p (upd s (p-(0+1)) ⟨7,0,0⟩)) .kd+Ssum p (upd s (p-(0+1)) ⟨7,0,0⟩)+sumTo p (upd C (p-(0+1)) 1),(upd ax (v.base+(p-(0+1))) rc,aQ)),by rw[cm.eo];exact Prod.Lex.left _ _ kS,
     _,K,ds,U,aR,p,_,_,_,0,.kd,aQ,fl,{au with a:=K},_,_,rfl,⟨a2,.kd e,k1.fE,bs,R,E,?_,rfl⟩⟩⟩
    rw[aF .kd a];exact .opn M aw Q
   |succ h=>
    obtain⟨aQ,e⟩:=ar;refine⟨_,_,o,.inr ⟨(phi p (Vc (p-(h+1)) (upd s (p-(h+1+1)) ⟨7,0,0⟩)) (.sp h 5)+Ssum (p-(h+1)) (upd s (p-(h+1+1)) ⟨7,0,0⟩)+sumTo (p-(h+1)) (upd C (p-(h+1+1)) 1),(upd ax (v.base+(p-(h+1+1))) rc,aQ)),by rw[cm.eo];exact Prod.Lex.left _ _ kS,
     _,K,ds,U,aR,p-(h+1),_,_,_,0,.sp h 5,aQ,fl,{au with a:=K},_,_,rfl,⟨a2,.eX x e,k1.fE,bs,R,E,?_,rfl⟩⟩⟩
    rw[aF (.sp h 5) a];exact .opn M aw Q
  exact fin (q:=True) (mj cm k1 u H Y (.fc F e) aq)
 |kd S=>
  rcases mg S cm.rely cm.ay f with⟨au,k1,u,_,gG,H,e⟩|⟨au,k1,u,gG,cv,es,h,H,Y,e,aq⟩
  .obtain⟨Z,e⟩:=a0 _ _ (e {au with a:=K} (lq k1 f));exact fin (q:=True) (kK cm k1 u (H K) (.refl v.b K) E bk_dis (.w1 e) (af.reopen M M a Q) (.inl kS))
  exact fin (q:=True) (mj cm k1 u H Y (.kd e) aq)
 |w1 S=>
  rcases mg S cm.rely cm.ay f with⟨au,k1,u,_,aA⟩|⟨au,k1,u,gG,cv,es,h,H,Y,e,aq⟩
  .obtain⟨ak,I,O,_⟩:=af.open_inv M;rw[I,O]at E;have bI:=Vc_le p s;obtain⟨fl,H,bc,bg⟩:=aA {au with a:=K} (lq k1 f) (Vc p s) x J;by_cases r:Vc p s=0
   .obtain⟨Z,e⟩:=bc r;refine fin (q:=True) (kK cm k1 u H (.refl v.b K) E bk_rd (.ke e) ?_ (.inl kS));have ae:((Vc p s+pend .w1:Nat):Int)*KK=0:=J;rw[ae];exact .fin M (allQuit_of ak r)
   obtain⟨Z,e⟩:=bg r;refine fin (q:=True) (kK cm k1 u H (.refl v.b K) E bk_rd (.w2 e) ?_ (.inl kS));have:=af.reopen (tag':=.w2 (Vc p s)) M M a (λz ae=>by grind);grind
  exact fin (q:=True) (mj cm k1 u H Y (.w1 e) aq)
 |@w2 z cQ X d S=>
  rcases mg S cm.rely cm.ay f with⟨au,k1,u,_,aA⟩|⟨au,k1,u,gG,cv,es,h,H,Y,e,aq⟩
  .obtain⟨ak,I,O,bj⟩:=af.open_inv M;rw[I,O]at E;obtain⟨bF,aB⟩:=bj z rfl;obtain⟨a7,aS⟩:=aA {au with a:=K} (lq k1 f) (Vc p s) x J;by_cases ae:Vc p s=z
   .obtain⟨fl,H,Z,e⟩:=a7 ae;exact fin (q:=True) (kK cm k1 u H (aside_setCell K (stA v.b) _) (E.setSt _) bk_rw (.w3 e) (.reg M ak x) (.inl kS))
   obtain⟨fl,H,e⟩:=aS ae;obtain⟨Z,e⟩:=a0 _ _ e;refine fin (q:=True) (kK cm k1 u H (.refl v.b K) E bk_rd (.w1 e) ?_ (.inl kS));have:=af.reopen (tag':=.w1) M M a Q;grind
  exact fin (q:=True) (mj cm k1 u H Y (.w2 e) aq)
 |@w3 cQ X d S=>
  rcases mg S cm.rely cm.ay f with⟨au,k1,u,aU⟩|⟨au,k1,u,gG,cv,es,h,H,Y,e,aq⟩
  .obtain⟨_,a8,aA⟩:=aU;obtain⟨aJ,aV⟩:=aA {au with a:=K} (lq k1 f);obtain⟨A,n⟩:=b5.jh d cQ;have aP:mz P ty v ag t {au with a:=K}:=mz.rely ⟨a_,a8,aA⟩ (lq k1 f);generalize cK=bH at af E;generalize T=bG at af E;cases af with
   |opn aB _ _=>exact aB.elim
   |reg aB ah aG=>exact fin (q:=True) (kK cm k1 u (aJ ⟨_,E⟩) (.refl v.b K) E Q (.blk (cQ:=A) aP) (.reg M ah aG) (.inr ⟨rfl,n⟩))
   |last L aB ah aG bz=>exact fin (q:=True) (kK cm k1 u (aJ ⟨_,E⟩) (.refl v.b K) E Q (.blk (cQ:=A) aP) (.last L M ah aG bz) (.inr ⟨rfl,n⟩))
   |sema ah=>
    obtain⟨fl,H,Z,e⟩:=aV E;exact fin (q:=True) (kK cm k1 u H (aside_setCell K (smA v.b) _) (E.setSm 0) bk_sem (.w4 e) (.fin M ah) (.inl kS))
   |fin aB _=>exact aB.elim
  exact fin (q:=True) (mj cm k1 u H Y (.w3 e) (b5.g5 aq))
 |blk S=>grind
 |w4 S=>
  rcases mg S cm.rely cm.ay f with⟨au,k1,u,_,aA⟩|⟨au,k1,u,gG,cv,es,h,H,Y,e,aq⟩
  .obtain⟨ad,I,O⟩:=af.fin_inv M;rw[I,O]at E;obtain⟨fl,H,Z,e⟩:=aA {au with a:=K} (lq k1 f) E;exact fin (q:=True) (kK cm k1 u H (.refl v.b K) E bk_rd (.ke e) (.fin M ad) (.inl kS))
  exact fin (q:=True) (mj cm k1 u H Y (.w4 e) aq)
 |ke S=>
  rcases mg S cm.rely cm.ay f with⟨au,k1,u,_,gG,H,e⟩|⟨au,k1,u,gG,cv,es,h,H,Y,e,aq⟩
  .obtain⟨Z,e⟩:=e {au with a:=K} (lq k1 f);obtain⟨ad,I,O⟩:=af.fin_inv M;rw[I,O]at E;exact fin (q:=True) (kK cm k1 u (H K) (.refl v.b K) E bk_en (.acq e) (.fin M ad) (.inl kS))
  exact fin (q:=True) (mj cm k1 u H Y (.ke e) aq)
 |acq S=>
  rcases mg S cm.rely cm.ay f with⟨au,k1,u,_,fl,H,e⟩|⟨au,k1,u,gG,cv,es,h,H,Y,e,aq⟩
  .obtain⟨ad,I,O⟩:=af.fin_inv M;have o:=runT_crowd_go (P:=P) (sl:=ds) (i:=0) cm.c1 (by simpa using H K);have a6:MemOp.ofEvents 0 t.frame.fn t.frame.place #[mk (.acquire (stA v.b))]=#[{g:=0,fn:=t.frame.fn,pos:=t.frame.place,act:=.mark (.acquire (stA v.b))}]:=by rw[ofEvents_eq];simp[ofEvent_mk]
   have aC:=cm.al.hG (X:=t) (gG:=fl) (fn:=t.frame.fn) (pos:=t.frame.place) (es:=#[mk (.acquire (stA v.b))]) (ee:=U) (a5:=K) (λ_ _=>rfl) (bE _) (λcd _=>.refl ..) (by simp;exact cm.al.bZ) (by intro ae ab aZ ay;simp at ab;subst ab;exact cF) (by intro ae ab aZ ay;simp at ab;subst ab;simp[mk,aN,MemAct.touch?]at ay) (by intro ae ab;simp at ab;subst ab;simp[mk]) cm.al.bu f;have bC:deafBehind 0 #[mk (.acquire (stA v.b))]=0:=rfl;have a':(w++#[({g:=0,fn:=t.frame.fn,pos:=t.frame.place,act:=.mark (.acquire (stA v.b))}:MemOp)])[w.size]?=b {g:=0,fn:=t.frame.fn,pos:=t.frame.place,act:=.mark (.acquire (stA v.b))}:=Q
   have aT:=aC.a9.jD (by rw[aC.c8];rfl) (aC.dw _) (be:=w.size) (by rw[a6,act?_of a']) (by rw[a6];simp[Trace.g?]) (by rw[a6];exact⟨0,by simp[Trace.g?],by rw[deaf_old (bE _)];exact cm.al.c8⟩) (λA n=>by
    obtain⟨g,F⟩:=cm.al.rel A n (by rw[ad A n];omega)
    exact⟨g,F.appOther g_of_ofEvents x,lt_of_act? F.act⟩)
   have aM:∃be,Leavers P (w++MemOp.ofEvents 0 t.frame.fn t.frame.place #[mk (.acquire (stA v.b))]) ((gs.map (woken P t fl K)).setIfInBounds 0 fl) be:=by
    have aE:∀W,∃bo,∀X,0<W->((gs.map (woken P t fl K)).setIfInBounds 0 fl)[W]?=b X->QuitsD P bo (Deaf (w++MemOp.ofEvents 0 t.frame.fn t.frame.place #[mk (.acquire (stA v.b))]) W) X:=by
     intro W;cases aL:((gs.map (woken P t fl K)).setIfInBounds 0 fl)[W]? with
     |none=>simp
     |some X=>
      rcases mP W with ae|an
      .exact⟨0,λgG S=>by omega⟩
      rcases dJ W v.base with aq|bD
      .obtain⟨bo,_,bf⟩:=aC.cX W X an aq aL;exact⟨bo,λgG _ a3=>by grind⟩
      obtain⟨A,rfl⟩:∃A,W=v.base+A:=⟨W-v.base,by omega⟩
      have n:A<p:=by have:=(hM.1 aL).1;rw[aC.size]at this;omega
      obtain⟨bx,a4,aO⟩:=aC.cz A n;rw[aL]at a4;cases a4;obtain⟨bo,bf⟩:=aO.quits (ad A n);refine⟨bo,λgG _ a3=>?_⟩;cases a3;rw[aC.c9 A n];omega
    exact⟨λW=>Classical.choose (aE W),λW X ai D=>Classical.choose_spec (aE W) X ai D,λW ai=>aC.above W (by rw[aC.size]at ai;exact ai)⟩
   obtain⟨be,aM⟩:=aM;refine⟨_,_,o,.inl ⟨U,bk,⟨_,K,ds,fl,au,be,rfl,Go.ConcN.get_map_set_same _ _ _ Cr,aC.size,e {au with a:=K} (lq k1 f),k1,u,aM,aT,aC.dw,cm.al.bu,λA n W ai=>?_,cm.al.b6,cm.al.bZ,cm.al.cW⟩⟩⟩;obtain⟨bx,_,aO⟩:=cm.al.cz A n;rcases mP W with ae|an
   .subst ae;exact cm.al.dm A n (by rw[ad A n];omega)
   exact cm.al.cT A n (aO.gu (ad A n)) W an ai
  exact fin (q:=True) (mj cm k1 u H Y (.acq e) aq)
end
end
section
open Go.Conc
open Go.ConcN (WD CTag Vc Ssum pend phi cnt WgLive PayAt Has WSit RelBy sumTo upd upd_same upd_ne exists_counted)
open Go.ConcR (KK WgAt stA smA Payload)
variable [Payload]
section
variable {v:gm}{ag u:ae->aj->Prop}{l:Nat->Nat}{bk:Nat->Mem}{tag:CTag}{cQ:b5}{N:Nat}{t:ae}{ac:mH}{ds:Option (Nat×Nat)}{w:Trace}{s:Nat->WD}{C:Nat->Nat}{ax:Nat->b5}{cK U:Int}
def gV.running_of{e g d j:Nat}{o:b5}{f:ae}(n:gV P ty v B val l bk e g d o j f K)(h:d≠1):f.status=.running:=by
 cases n with
 |cB a _ _=>exact a.run λ_ _ e=>e.1
 |rel a=>exact Goes.running (λ_ _ e=>e.1) K (Go.ConcN.RW.refl K) a
 |tail _ a=>exact a.running_of h
def UG(f:kt P ty v B val p ag u ac gs K w l bk y s C ax N tag cQ t d cK U):∃(n:Nat)(e:ae),gs[n]?=b e/\e.status=.running:=by
 rcases f.c7.status with⟨g,_⟩|⟨_,rfl⟩
 .exact⟨0,t,f.c1,g⟩
 have q:=f.mode;cases q with
 |opn a _ _=>exact a.elim
 |reg _ _ o=>
  obtain⟨n,j,z⟩:=exists_counted o;obtain⟨e,h,g⟩:=f.al.cz n j;exact⟨_,e,h,g.running_of x⟩
 |last L _ r o _=>
  obtain⟨e,h,g⟩:=f.al.cz L r;exact⟨_,e,h,g.running_of x⟩
 |fin a _=>exact a.elim
def Mw(e:kt P ty v B val p ag u ac gs K w l bk y s C ax N tag cQ t d cK U):∀j∈gs,awake j:=by
 intro j A I;obtain⟨g,a⟩:=Array.mem_iff_getElem?.1 A;rcases mP g with rfl|q
 .rw[e.c1]at a;cases a;rcases e.c7.status with⟨o,_⟩|⟨o,_⟩<;>rw[o]<;>simp
 rcases dJ g v.base with x|F
 .obtain⟨E,_,z⟩:=e.al.cX g j q x a;rcases z.status with f|f<;>rw[f]<;>simp
 obtain⟨h,rfl⟩:∃h,g=v.base+h:=⟨g-v.base,by omega⟩
 have D:h<y:=by have:=(hM.1 a).1;rw[e.al.size]at this;omega
 obtain⟨r,n,o⟩:=e.al.cz h D;rw[a]at n;cases n;rcases o.status with f|f<;>rw[f]<;>simp
def kt.at(e:kt P ty v B val p ag u ac gs K w l bk y s C ax N tag cQ t d cK U)(f:Nat):kt P ty v B val p ag u ac gs (K.at f) w l bk y s C ax N tag cQ t d cK U:=
 ⟨e.c1,e.c7,e.rely.ek (bE _) (λ_ _=>rfl) (λ_ _ _ _ g=>g) a a a,e.ay,e.al.at f,e.bJ,e.mode,e.eo⟩
def U1(g:kt P ty v B val p ag u ac gs K w l bk y s C ax N tag cQ t d cK U)(q:0<f)(M:f<v.base)(A:gs[f]?=b X)(E:X.status=.running):
  ∃I h n,runT P (crowd gs K ds) f=(.next I,h)/\j2 (v.base+p) n ac/\e2 P ty v B val p ag u n I (w++h):=by
 obtain⟨z,G,D⟩:=g.al.cX f X q M A;cases z with
 |zero=>rw[D.1]at E;cases E
 |succ z=>
  rcases D with⟨H,_⟩|⟨_,o,es,V,S,O⟩
  .grind
  .have W:(f==0)=m:=J;have R:=runT_crowd_go (P:=P) (sl:=ds) (i:=f) A (by rw[W];exact S K)
   obtain⟨e,j,T,F,Y⟩:=g.c7.hN X o K;have Q:Go.ConcN.Mode y s e cK U:=g.mode.retag F;refine⟨_,_,(phi p (Vc y s) e+Ssum y s+sumTo y C,(upd ax f (b5.de z),j)),R,?_,_,K,ds,l,bk,y,s,C,_,N,e,j,woken P X o K t,d,cK,U,a,
    ⟨by rw[Go.ConcN.get_map_set _ _ _ _ x,g.c1];rfl,T,g.rely,g.ay,g.al.a_ q M V O,g.bJ,Q,rfl⟩⟩
   rw[g.eo,Go.ConcN.phi_retag p _ F];exact Prod.Lex.right _ (Prod.Lex.left _ _ ⟨f,by omega,by rw[upd_same,G];exact b5.gg _ d,λZ r=>upd_ne ax _ r⟩)
def Ry(D:p<2147483648)(z:∀n r,u n r->db (al.ay P ty v.b) (dI v.b) (pp P ty v ag u) n r){y:Machine}(J:e2 P ty v B val p ag u ac y w):
  ∃f a,stepT P y=(.next f,a)/\((∃g e,uP P v B val p ag g e f (w++a))∨∃o,j2 (v.base+p) o ac/\e2 P ty v B val p ag u o f (w++a)):=by
 obtain⟨I,Q,ds,X,Z,x,T,S,V,F,tag,N,W,r,O,Y,rfl,d⟩:=J;obtain⟨j,n,C,q,h,l,K⟩:=crowd_pick (P:=P) (w:=Q) (sl:=ds) (Mw d) (UG d);rw[K];have t:=d.at C;have A:x<=p:=by have:=d.c7.fM;omega
 rcases mP j with rfl|M
 .rw[d.c1]at h;cases h;exact U2 (ds:=q) t D z l
 rcases dJ j v.base with R|U
 .obtain⟨f,a,o,H,G,L⟩:=U1 (ds:=q) t M R h l;grind
 obtain⟨s,rfl⟩:∃s,j=v.base+s:=⟨j-v.base,by omega⟩
 have E:s<x:=by have:=(hM.1 h).1;rw[d.al.size]at this;omega
 obtain⟨f,a,o,H,G,L⟩:=U3 (ds:=q) t D A d.c7.fM E h l;grind
def Rz(C:p<2147483648)(y:∀s w,u s w->db (al.ay P ty v.b) (dI v.b) (pp P ty v ag u) s w):∀(h:mH)(q:Machine)(g:Trace),e2 P ty v B val p ag u h q g ->
  ∃n l j d a,runNT P n q g=(.next l,j)/\uP P v B val p ag d a l j:=by
 intro h;induction(Sz (v.base+p)).apply h with
 |intro h _ A=>
  intro q g x;obtain⟨r,e,t,f⟩:=Ry C y x;rcases f with⟨d,a,f⟩|⟨o,f,K⟩
  .exact⟨1,r,g++e,d,a,by simp[runNT,t],f⟩
  obtain⟨n,l,j,d,a,k1,z⟩:=A o f r (g++e) K;exact⟨n+1,l,j,d,a,by simp only[runNT,t];exact k1,z⟩
def j1.fX{cy:aj}{af:ae->aj->Prop}(x:Nat)(aw:0<x)(f D:Nat)(aQ:p<2147483648)(aA:D≠f)(ag:eg d cy)(aT:X.status=.running)(ak:∃L∈d.m,D∈L.V)(ao:∃L∈d.m,f∈L.V)(G:∀e,(d.own e∨∃L∈d.m,e∈L.V)->e<d.a.heap.size)(bh:∀e,(e=D∨e=f)->¬cy.own e/\(∀L∈cy.m,e∉L.V)/\∀q,cy.n e q=k)(aM:WgAt ty f d.a 0 0)(S:PayAt D B d.a)(bg:∀n:gm,n.b=f->n.J=D->n.aE=x->∃ad Y,(∀X d,Y X d->db (al.ay P ty n.b) (dI n.b) (pp P ty n ad Y) X d)/\nu P ty n B val p Y p X cy /\
   ∀ah l,ad ah l->fP l->PayAt D B l.a->(∀g,g<p->∀u,u<x->l.a.cell? ⟨D,x*g+u,k⟩=b (val g u))->D<l.a.heap.size->(∀e,(e=D∨e=f)->¬l.own e/\(∀L∈l.m,e∉L.V)/\∀q,l.n e q=k) ->
    ∃z,af ah z/\z.a=l.a/\fP z/\∀j:Nat->Prop,gb j l->¬j D->gb j z):j1 P X d af:=by
 intro j r W aV a' bn O H an C aB;have bf:¬j D:=λU=>let ⟨L,H,h⟩:=ak;C.m D U L H h
 have V:¬j f:=λU=>let ⟨L,H,h⟩:=ao;C.m f U L H h
 have R:=G D (.inr ak);have bc:=G f (.inr ao);have T:1<=r.size:=(hM.1 O).1;let n:gm:={bl:=j,bA:=aV.size,b:=f,J:=D,base:=r.size,aE:=x}
 obtain⟨ad,Y,ai,Z,bd⟩:=bg n rfl rfl rfl;have aK:=C.aK ag;have K:fP cy:=.aK ag;have aY:fD n (λ_=>0) (λ_ _ _=>k) 0 cy:=by
  refine⟨λe h=>⟨a,λo=>J,λo=>J,λo=>?_,by rw[ag.a];exact G e (ag.blk e h)⟩,λe q aH w=>⟨a,λo=>?_,λo=>?_,λo=>?_,fP.lt K w⟩,λg t=>absurd t (gY g)⟩
  .rcases h with h|⟨L,H,h⟩
   .exact aK.own e o h
   exact aK.m e o L H h
  .grind
  .grind
  rw[aK.n e o q]at w;cases w
 have a0:hs P ty n B val (λ_=>0) (λ_ _ _=>k) 0 r d.a aV (λ_=>⟨0,0,0⟩) (λ_=>0) (λu=>b5.de (a' u)) 0:=
  ⟨rfl,λu X v _ au=>⟨a' u,rfl,H.old u X v au⟩,H.above,λg t=>absurd t (gY g),ff.start an a T aA V bf,aB,an.hears,λg t=>absurd t (gY g),λg t=>absurd t (gY g),λg t=>absurd t (gY g),λg t=>absurd t (gY g),
   S,⟨_,_,aM⟩,bc,R,C.lt,aw,λg t=>absurd t (gY g)⟩
 have aq:cL cy {cy with a:=d.a}:=by have:=cL.dZ K;rw[<-ag.a];exact this
 have aJ:∃aO,e2 P ty n B val p ad Y aO (crowd r d.a W) aV:=by
  cases p with
  |zero=>
   obtain⟨aF,Z⟩:=Z;exact⟨_,r,d.a,W,_,_,0,_,_,_,0,.kd,aF,X,cy,_,_,a,⟨O,.kd Z,aq,aY,a0,aM,by have:=Go.ConcN.Mode.opn (j:=0) (D:=λ_=>(⟨0,0,0⟩:WD)) (tag:=.kd) M (λu v=>absurd v (gY u)) Q;simpa[Vc,sumTo,pend]using this,a⟩⟩
  |succ p=>
   obtain⟨aF,Z⟩:=Z;have F:gA P ty n B val (p+1) ad Y (.sp p 5) (p+1-(p+1)) aF 0 X cy:=.eX (Nat.lt_succ_self p) Z;rw[Nat.sub_self]at F;exact⟨_,r,d.a,W,_,_,0,_,_,_,0,.sp p 5,aF,X,cy,_,_,a,⟨O,F,aq,aY,a0,aM,by have:=Go.ConcN.Mode.opn (j:=0) (D:=λ_=>(⟨0,0,0⟩:WD)) (tag:=.sp p 5) M (λu v=>absurd v (gY u)) Q;simpa[Vc,sumTo,pend]using this,a⟩⟩
 obtain⟨aO,aJ⟩:=aJ;obtain⟨bm,bj,bl,I,ab,aE,⟨a1,E,ba,aN,A,bk,rfl,a5,_,aG,N,ax,a2,a3,aR,aC,bb,ay,a8,az⟩⟩:=Rz aQ ai aO _ _ aJ;have aL:fD n I ab p {A with a:=E}:=ax.rely N.size;have aZ:∀e,(e=D∨e=f∨j e)->¬A.own e/\(∀L∈A.m,e∉L.V)/\∀q,A.n e q=k:=by
  intro e h;have key:∀g,(I g=0/\g≠n.J/\g≠n.b/\¬n.bl g/\g<E.heap.size)->g≠e:=J;refine⟨λaS=>key e (aL.blk e (.inl aS)) a,λL H ar=>key e (aL.blk e (.inr ⟨L,H,ar⟩)) a,λq=>?_⟩;cases aP:A.n e q with
  |none=>rfl
  |some aH=>exact absurd rfl (key e (aL.n e q aH aP))
 obtain⟨z,a4,a_,a9,a6⟩:=bd aN {A with a:=E} aG (λe q aH w=>N.mem e q aH w) aC bb ay (λe h=>aZ e (h.elim .inl λo=>.inr (.inl o)));have a7:gb (λe=>j e∨e=f) {A with a:=E}:=by have aU:∀e,(j e∨e=f)->¬A.own e/\(∀L∈A.m,e∉L.V)/\∀q,A.n e q=k:=λe h=>aZ e (h.elim (λo=>.inr (.inr o)) λo=>.inr (.inl o));exact⟨λe h=>(aU e h).1,λe h=>(aU e h).2.1,λe h=>(aU e h).2.2,λe h=>h.elim (az e) λo=>by grind⟩
 grind
end
end
section
open Go.Conc Go.RowKit Go.Conc.Lib Go.ConcR.Gen
open Go.ConcN (WgLive)
open Go.ConcR (KK WgAt stA smA rd wr mk DC0)
variable {L:WgLink}
section
variable (P:aw)(cU:af->af->Prop)(L:WgLink)(bt:Nat)(gQ:ae)
def x3(d:ae)(_:af):Prop:=d.status=.running/\∃a,(∀e,ap P i d e=.go a e #[mk .enable])/\∀w1,WgLive L.tWg bt w1->∃f,Goes P i cU DC0 (λd _=>d=gQ) f a w1
def Ma(e:ae)(_:af):Prop:=e.status=.running/\∃d a,a.block=bt/\(∀f,ap P i e f=.go d f #[mk (.read a)])/\∀w1,WgLive L.tWg bt w1->∃g,Goes P i cU DC0 (x3 P cU L bt gQ) g d w1
def Cz(d:ae)(a:af):Prop:=d.status=.running/\∀f:Nat,f<2147483647->WgAt L.tWg bt a (f*KK) 0 ->
 ∃e,ap P i d a=.go e (a.setCell (stA bt) (.int .u64 ((f+1)*KK))) #[rd (stA bt),wr (stA bt)]/\∃g,Goes P i cU DC0 (λd a=>Ma P cU L bt gQ d a∨x3 P cU L bt gQ d a) g e (a.setCell (stA bt) (.int .u64 ((f+1)*KK)))
def L'(d:ae)(_:af):Prop:=d.status=.running/\∃a,(∀e,ap P i d e=.go a e #[mk .disable])/\∀w1,WgLive L.tWg bt w1->∃f,Goes P i cU DC0 (Cz P cU L bt gQ) f a w1
end
set_option maxRecDepth 100000 in
def Mu{P:aw}(H:WgLib P L){cU:af->af->Prop}{bt:Nat}(f:∀{h w1},WgLive L.tWg bt h->cU h w1->WgLive L.tWg bt w1){g2:az}{g1:Act}{fK:Array ah}{g7:Nat}{g_:e Nat}{g9:e Item}(h:af)(d:WgLive L.tWg bt h):
  Goes P i cU DC0 (L' P cU L bt (G (g2.at (g1.put ((fK[g7]?).bind (·.dst)) (.tuple #[])) (.inRegion fK g_::g9)) aY)) 12
   (G ((base L.add).at ⟨#[.pointer (b ⟨bt,0,k⟩),.int .i64 1,E,E,E,E,E,E,E,E,E,E,E,E,E,E,E,E,E,E,E,E,E,E,E,E,E,E,E,E,E,E,E,E,E,E,E,E,E,E,E,E,E,E,E,E,E,E,E,E,E,E,E,E,E,E,E,E,E,E,E,E,E,E,E,E,E,E,E,E,E,E,E,E,E,E,E,E,E,E,E,E,E,E,E,E,E,E,E,E,E,E,E,E,E,E,E,E,E,E,E,E,E,E,E,E,E,E,E,E,E,E,E,E,E,E,E],[]⟩ [.code (body_add L)]) (g2.at g1 (.inRegion fK (g7::g_)::g9)::aY)) h:=by
 lib_facts
 simp only[body_add,addFn,hO]
 repeat (u_c aA f d)
 u_cond i f d
 repeat (u_c aA f d)
 u_reg f d
 u_op f d
 u_op f d
 u_c aF f d
 repeat (u_c aA f d)
 u_cond m f d
 u_c stepG_skip f d
 repeat (u_c aA f d)
 u_reg f d
 refine Goes.stop (λy j=>?_);refine⟨a,_,λh=>stepG_mark0 .disable Q a a (by k_ne) a H.f_disable (x_disable_n L) (x_disable_b L) (x_disable_x L) (x_disable_f L),λh d=>?_⟩;clear j;refine⟨40,?_⟩
 walk_nrm
 u_c aF f d
 repeat (u_c aA f d)
 u_reg f d
 u_defer f d
 u_c aF f d
 repeat (u_c aA f d)
 u_reg f d
 u_op f d
 u_c aF f d
 repeat (u_c aA f d)
 u_reg f d
 u_bub f d
 u_c aF f d
 repeat (u_c aA f d)
 u_cond m f d
 u_c stepG_skip f d
 repeat (u_c aA f d)
 u_reg f d
 u_op f d
 u_op f d
 u_op f d
 u_op f d
 u_op f d
 u_op f d
 u_call H.f_uAdd (nm_uAdd L) uAddFn f d
 repeat (u_c aA f d)
 u_reg f d
 u_op f d
 u_c aF f d
 repeat (u_c aA f d)
 u_reg f d
 u_op f d
 u_op f d
 u_op f d
 u_op f d
 refine Goes.stop (λp o=>?_);replace d:=f d o;clear o;refine⟨a,λg B l=>?_⟩;have u:KK=4294967296:=rfl;have v:IntKind.u64.wrap ((g:Int)*KK+4294967296)=((g:Int)+1)*KK:=by rw[IntKind.wrap_u64];simp only[u];omega
 refine⟨_,(stepG_add_atomic a a (by k_ne) a H.f_addU64 (x_addU64_n L) (x_addU64_b L) (x_addU64_x L) .u64 (x_addU64_f L) a a l.cellSt (l.thaw 0)).trans (by rw[v];rfl),110,?_⟩;replace d:WgLive L.tWg bt (p.setCell (stA bt) (.int .u64 (((g:Int)+1)*KK))):=⟨_,_,l.setSt _⟩
 clear l
 walk_nrm
 u_op f d
 u_c aF f d
 u_c stepG_ret' f d
 u_leave1 H.f_uAdd f d
 u_op f d
 u_c aF f d
 have r:bits .and .u64 (((g:Int)+1)*4294967296) 2147483648=0:=by have:=Go.ConcN.st_flag (g+1) 0 x x;grind
 have s:bits .and .u64 (((g:Int)+1)*4294967296) 2147483647=0:=by have:=Go.ConcN.st_waiters (g+1) 0 x x;grind
 have f3:((g:Int)+1+2147483648) % 4294967296-2147483648=(g:Int)+1:=x;have f5:¬((g:Int)+1<0):=x;have f6:(0:Int)<(g:Int)+1:=x
 repeat (u_c aA f d)
 u_reg f d
 u_op f d
 u_op f d
 u_op f d
 u_op f d
 u_skip f d
 u_skip f d
 u_op f d
 u_c aF f d
 repeat (u_c aA f d)
 u_cond m f d
 u_c stepG_skip f d
 repeat (u_c aA f d)
 u_reg f d
 u_op f d
 u_op f d
 u_op f d
 u_op f d
 u_c aF f d
 repeat (u_c aA f d)
 u_reg f d
 u_op f d
 u_op f d
 u_op f d
 u_op f d
 u_c aF f d
 by_cases A:(g:Int)+1=1
 .repeat (u_c aA f d)
  u_reg f d
  u_op f d
  u_op f d
  u_op f d
  u_op f d
  u_op f d
  u_op f d
  u_op f d
  u_op f d
  u_op f d
  u_op f d
  u_c aF f d
  repeat (u_c aA f d)
  u_cond i f d
  repeat (u_c aA f d)
  u_reg f d
  u_op f d
  u_op f d
  u_op f d
  u_conv H.underlying_tPU32 H.room_tU32 (Go.ConcN.Gen.WgLive.cell1 d).choose_spec f d
  refine Goes.stop (λw q=>.inl ?_);clear q;refine⟨a,_,⟨bt,1,k⟩,a,λh=>stepG_markAt .read Q a a (by k_ne) a H.f_raceRead (x_raceRead_n L) (x_raceRead_b L) (x_raceRead_x L) (x_raceRead_f L) (ad:=⟨bt,1,k⟩) (by simp[Act.eval]),λh d=>⟨50,?_⟩⟩
  walk_nrm
  u_c aF f d
  repeat (u_c aA f d)
  u_reg f d
  u_op f d
  u_op f d
  u_c aF f d
  repeat (u_c aA f d)
  u_cond m f d
  u_c stepG_skip f d
  repeat (u_c aA f d)
  u_reg f d
  u_op f d
  u_op f d
  u_op f d
  u_skip f d
  u_skip f d
  u_op f d
  u_op f d
  u_skip f d
  u_skip f d
  u_skip f d
  u_skip f d
  u_op f d
  u_c aF f d
  repeat (u_c aA f d)
  u_cond m f d
  u_c stepG_skip f d
  repeat (u_c aA f d)
  u_reg f d
  u_op f d
  u_op f d
  u_op f d
  u_skip f d
  u_skip f d
  u_op f d
  u_c aF f d
  repeat (u_c aA f d)
  u_cond i f d
  u_c stepG_ret' f d
  refine Goes.stop (λt n=>?_);clear n;refine⟨a,_,λh=>stepG_unwind_entry (v:=.tuple #[]) (evs:=#[mk .enable]) a H.f_enable (x_enable_n L) (x_enable_b L) (x_enable_x L) (x_enable_f L) (by simp[Extern.Race.none_]) uI uI,λh d=>⟨1,?_⟩⟩
  u_leave0 H.f_add f d
  grind[Goes.stop]
 have z:((g:Int)+1==1)=m:=J
 repeat (u_c aA f d)
 u_reg f d
 u_op f d
 u_op f d
 u_op f d
 u_op f d
 u_op f d
 u_op f d
 u_op f d
 u_op f d
 u_op f d
 u_op f d
 u_c aF f d
 repeat (u_c aA f d)
 u_cond m f d
 u_c stepG_skip f d
 repeat (u_c aA f d)
 u_reg f d
 u_op f d
 u_op f d
 u_c aF f d
 repeat (u_c aA f d)
 u_cond m f d
 u_c stepG_skip f d
 repeat (u_c aA f d)
 u_reg f d
 u_op f d
 u_op f d
 u_op f d
 u_skip f d
 u_skip f d
 u_op f d
 u_op f d
 u_skip f d
 u_skip f d
 u_skip f d
 u_skip f d
 u_op f d
 u_c aF f d
 repeat (u_c aA f d)
 u_cond m f d
 u_c stepG_skip f d
 repeat (u_c aA f d)
 u_reg f d
 u_op f d
 u_op f d
 u_op f d
 u_skip f d
 u_skip f d
 u_op f d
 u_c aF f d
 repeat (u_c aA f d)
 u_cond i f d
 u_c stepG_ret' f d
 refine Goes.stop (λt n=>.inr ?_);clear n;refine⟨a,_,λh=>stepG_unwind_entry (v:=.tuple #[]) (evs:=#[mk .enable]) a H.f_enable (x_enable_n L) (x_enable_b L) (x_enable_x L) (x_enable_f L) (by simp[Extern.Race.none_]) uI uI,λh d=>⟨1,?_⟩⟩
 u_leave0 H.f_add f d
 grind[Goes.stop]
end
section
open Go.Conc Go.RowKit Go.Conc.Lib Go.ConcR.Gen
open Go.ConcN (WgLive)
open Go.ConcR (KK WgAt stA smA rd wr mk DC0)
section
variable (P:aw)(cU:af->af->Prop)(L:WgLink)(bt:Nat)(gQ:ae)(t:ae->Prop)
def CA(d:ae)(_:af):Prop:=d.status=.running/\∃a,(∀e,ap P i d e=.go a e #[mk (.acquire (stA bt))])/\∀w1,WgLive L.tWg bt w1->∃f,Goes P i cU DC0 (λd _=>d=gQ) f a w1
def x4(d:ae)(_:af):Prop:=d.status=.running/\∃a,(∀e,ap P i d e=.go a e #[mk .enable])/\∀w1,WgLive L.tWg bt w1->∃f,Goes P i cU DC0 (CA P cU L bt gQ) f a w1
def CD(e:ae)(d:af):Prop:=e.status=.running/\(WgAt L.tWg bt d 0 0->∃a,ap P i e d=.go a d #[rd (stA bt)]/\∃f,Goes P i cU DC0 (x4 P cU L bt gQ) f a d)
def CC(d:ae)(a:af):Prop:=d.status=.running/\d.offers=k/\((∃f,WgAt L.tWg bt a f 0)->ap P i d a=.go {d with status:=.blocked} a #[]) /\
 (WgAt L.tWg bt a 0 1->∃e,ap P i d a=.go e (a.setCell (smA bt) (.int .u32 0)) (semEvents (smA bt))/\∃g,Goes P i cU DC0 (CD P cU L bt gQ) g e (a.setCell (smA bt) (.int .u32 0)))
def CE(e:ae)(_:af):Prop:=e.status=.running/\∃d a,a.block=bt/\(∀f,ap P i e f=.go d f #[mk (.write a)])/\∀w1,WgLive L.tWg bt w1->∃g,Goes P i cU DC0 (CC P cU L bt gQ) g d w1
def CB(z:Nat)(f:ae)(d:af):Prop:=f.status=.running/\∀e:Nat,e<2147483648->WgAt L.tWg bt d (e*KK) 0 ->
 (e=z->∃a,ap P i f d=.go a (d.setCell (stA bt) (.int .u64 (e*KK+1))) #[rd (stA bt),wr (stA bt)]/\∃g,Goes P i cU DC0 (CE P cU L bt gQ) g a (d.setCell (stA bt) (.int .u64 (e*KK+1)))) /\
 (e≠z->∃a,ap P i f d=.go a d #[rd (stA bt)]/\∃g,Goes P i cU DC0 (λf _=>t f) g a d)
def Mc(g:ae)(e:af):Prop:=g.status=.running/\∀d:Nat,d<2147483648->WgAt L.tWg bt e (d*KK) 0 ->
 ∃a,ap P i g e=.go a e #[rd (stA bt)]/\(d=0->∃f,Goes P i cU DC0 (x4 P cU L bt gQ) f a e)/\(d≠0->∃f,Goes P i cU DC0 (CB P cU L bt gQ t d) f a e)
def Mb(d:ae)(_:af):Prop:=d.status=.running/\∃a,(∀e,ap P i d e=.go a e #[mk .disable])/\∀w1,WgLive L.tWg bt w1->∃f,Goes P i cU DC0 (λd _=>t d) f a w1
end
def po(L:WgLink)(d:Nat)(g:az)(f:e az)(h:ae):Prop:=
 ∃a:Array I,h=G ((base L.wait).at ⟨a,[]⟩ [.code (L7 L),.inLoop (L7 L),.inBlock 0]) (g::f)/\a.size=84/\a[0]?=b (.pointer (b ⟨d,0,k⟩))
set_option maxRecDepth 100000 in
def WH{L:WgLink}(H:WgLib P L){cU:af->af->Prop}{bt:Nat}(e:∀{g w1},WgLive L.tWg bt g->cU g w1->WgLive L.tWg bt w1){u:az}(g:af)(d:WgLive L.tWg bt g):
  Goes P i cU DC0 (Mb P cU L bt (po L bt u aY)) 6 (G ((base L.wait).at ⟨#[.pointer (b ⟨bt,0,k⟩),E,E,E,E,E,E,E,E,E,E,E,E,E,E,E,E,E,E,E,E,E,E,E,E,E,E,E,E,E,E,E,E,E,E,E,E,E,E,E,E,E,E,E,E,E,E,E,E,E,E,E,E,E,E,E,E,E,E,E,E,E,E,E,E,E,E,E,E,E,E,E,E,E,E,E,E,E,E,E,E,E,E,E],[]⟩ [.code (body_wait L)]) (u::aY)) g:=by
 lib_facts
 unfold po;simp only[L7,body_wait,waitFn,hO]
 repeat (u_c aA e d)
 u_cond i e d
 repeat (u_c aA e d)
 u_reg e d
 refine Goes.stop (λh f=>?_);clear f;refine⟨a,_,λg=>stepG_mark0 .disable Q a a (by k_ne) a H.f_disable (x_disable_n L) (x_disable_b L) (x_disable_x L) (x_disable_f L),λg d=>⟨6,?_⟩⟩
 walk_nrm
 u_c aF e d
 repeat (u_c aA e d)
 u_c stepG_block e d
 u_c stepG_loop e d
 exact Goes.stop λ_ _=>⟨_,a,a,a⟩
end
section
open Go.Conc Go.RowKit Go.Conc.Lib Go.ConcR.Gen
open Go.ConcN (WgLive)
open Go.ConcN.Gen
open Go.ConcR (KK WgAt stA smA rd wr mk DC0)
set_option maxRecDepth 100000 in
def WG{L:WgLink}(H:WgLib P L){cU:af->af->Prop}{bt:Nat}(f:∀{h w1},WgLive L.tWg bt h->cU h w1->WgLive L.tWg bt w1){g2:az}{g1:Act}{fK:Array ah}{g7:Nat}{g_:e Nat}{g9:e Item}(z:ae)(a4:po L bt (g2.at g1 (.inRegion fK (g7::g_)::g9)) aY z)(h:af)(d:WgLive L.tWg bt h):
  ∃bb,Goes P i cU DC0 (Mc P cU L bt (G (g2.at (g1.put ((fK[g7]?).bind (·.dst)) (.tuple #[])) (.inRegion fK g_::g9)) aY) (po L bt (g2.at g1 (.inRegion fK (g7::g_)::g9)) aY)) bb z h:=by
 lib_facts
 obtain⟨a5,rfl,ba,t⟩:=a4;obtain⟨bl,bm,bn,bo,bp,bq,br,bs,bu,bw,I,K,M,bO,N,bR,bz,O,R,S,T,bP,U,V,s,W,X,bI,Y,Z,ab,ag,bN,ai,bG,bB,aj,ak,al,bF,bD,bE,an,bL,ao,bC,bS,ar,au,aw,ax,ay,aB,aC,C,aE,aG,aH,bJ,aJ,bH,aK,aL,aM,aN,bQ,D,bA,aO,aP,aQ,aR,aS,aT,bK,aU,aV,aZ,bx,a0,a1,a2,a3,aq,rfl⟩:=array84 a5 ba;simp only[iF,j6,eA]at t;subst t;refine⟨30,?_⟩;unfold po;simp only[L7,body_wait,waitFn,hO]
 u_c stepG_block f d
 repeat (u_c aA f d)
 u_reg f d
 u_op f d
 u_op f d
 u_op f d
 u_call H.f_uLoad (nm_uLoad L) uLoadFn f d
 repeat (u_c aA f d)
 u_reg f d
 u_op f d
 u_c aF f d
 repeat (u_c aA f d)
 u_reg f d
 u_op f d
 u_op f d
 u_op f d
 refine Goes.stop (λbc n=>?_);replace d:=f d n;clear n;refine⟨a,λq a' g=>?_⟩;rcases mP q with rfl|B
 .replace g:WgAt L.tWg bt bc 0 0:=J;refine⟨_,stepG_load_atomic (v:=0) a a (by k_ne) a H.f_loadU64 (x_loadU64_n L) (x_loadU64_b L) (x_loadU64_x L) .u64 (x_loadU64_f L) a g.cellSt,λ_=>⟨80,?_⟩,λa_=>absurd a a_⟩;clear g
  walk_nrm
  u_op f d
  u_c aF f d
  u_c stepG_ret' f d
  u_leave1 H.f_uLoad f d
  u_op f d
  u_c aF f d
  repeat (u_c aA f d)
  u_reg f d
  u_op f d
  u_op f d
  u_op f d
  u_op f d
  u_c aF f d
  repeat (u_c aA f d)
  u_reg f d
  u_op f d
  u_op f d
  u_op f d
  u_op f d
  u_c aF f d
  repeat (u_c aA f d)
  u_reg f d
  u_op f d
  u_op f d
  u_c aF f d
  repeat (u_c aA f d)
  u_cond i f d
  repeat (u_c aA f d)
  u_cond i f d
  repeat (u_c aA f d)
  u_reg f d
  refine Goes.stop (λr l=>?_);clear l;refine⟨a,_,λh=>stepG_mark0 .enable Q a a (by k_ne) a H.f_enable (x_enable_n L) (x_enable_b L) (x_enable_x L) (x_enable_f L),λh d=>⟨20,?_⟩⟩
  walk_nrm
  u_c aF f d
  repeat (u_c aA f d)
  u_reg f d
  u_op f d
  u_conv H.underlying_tWgP H.room_tWg (Go.ConcN.Gen.WgLive.cell0 d).choose_spec f d
  refine Goes.stop (λr l=>?_);clear l;refine⟨a,_,λh=>stepG_markAt .acquire Q a a (by k_ne) a H.f_acquire (x_acquire_n L) (x_acquire_b L) (x_acquire_x L) (x_acquire_f L) Cu,λh d=>⟨40,?_⟩⟩
  walk_nrm
  u_c aF f d
  repeat (u_c aA f d)
  u_reg f d
  u_op f d
  u_op f d
  u_op f d
  u_op f d
  u_op f d
  u_op f d
  u_op f d
  u_op f d
  u_skip f d
  u_skip f d
  u_op f d
  u_c aF f d
  repeat (u_c aA f d)
  u_cond m f d
  u_c stepG_skip f d
  u_c stepG_ret' f d
  u_leave0 H.f_wait f d
  grind[Goes.stop]
 obtain⟨j,o⟩:∃j:Int,(q:Int)*KK=j:=⟨_,rfl⟩;have a6:j / 4294967296=(q:Int):=I9
 have a7:bits .and .u64 j 2147483648=0:=by rw[<-o];have:=Go.ConcN.st_flag q 0 x x;simpa[KK]using this
 have a8:bits .and .u64 j 2147483647=0:=by rw[<-o];have:=Go.ConcN.st_waiters q 0 x x;simpa[KK]using this
 have a9:IntKind.i32.wrap (q:Int)=(q:Int):=by grind[IntKind.wrap_i32]
 have w1:IntKind.u64.wrap (j+1)=j+1:=by rw[IntKind.wrap_u64,<-o];simp only[KK];omega
 have bf:decide ((q:Int)<0)=m:=qJ x;have bg:decide (0<(q:Int))=i:=gf x;have bh:((q:Int)==0)=m:=J;have bj:decide ((q:Int)=0)=m:=qJ x;rw[o]at g;refine⟨_,stepG_load_atomic (v:=j) a a (by k_ne) a H.f_loadU64 (x_loadU64_n L) (x_loadU64_b L) (x_loadU64_x L) .u64 (x_loadU64_f L) a g.cellSt,λv=>absurd v x,λ_=>⟨80,?_⟩⟩;clear g
 walk_nrm
 u_op f d
 u_c aF f d
 u_c stepG_ret' f d
 u_leave1 H.f_uLoad f d
 u_op f d
 u_c aF f d
 repeat (u_c aA f d)
 u_reg f d
 u_op f d
 u_op f d
 u_op f d
 u_op f d
 u_c aF f d
 repeat (u_c aA f d)
 u_reg f d
 u_op f d
 u_op f d
 u_op f d
 u_op f d
 u_c aF f d
 repeat (u_c aA f d)
 u_reg f d
 u_op f d
 u_op f d
 u_c aF f d
 repeat (u_c aA f d)
 u_cnd m f d
 u_c stepG_skip f d
 repeat (u_c aA f d)
 u_reg f d
 u_op f d
 u_op f d
 u_op f d
 u_op f d
 u_op f d
 u_op f d
 u_call H.f_uCas (nm_uCas L) uCasFn f d
 repeat (u_c aA f d)
 u_reg f d
 u_op f d
 u_c aF f d
 repeat (u_c aA f d)
 u_reg f d
 u_op f d
 u_op f d
 u_op f d
 u_op f d
 u_op f d
 refine Goes.stop (λr l=>?_);replace d:=f d l;clear l;refine⟨a,λw A g=>⟨λy=>?_,λy=>?_⟩⟩
 .subst y;rw[o]at g⊢;refine⟨_,(stepG_cas_hit (v:=j) (n:=j+1) a a (by k_ne) a H.f_casU64 (x_casU64_n L) (x_casU64_b L) (x_casU64_x L) .u64 (x_casU64_f L) a a a g.cellSt (g.thaw 0)).trans nk,90,?_⟩;replace d:WgLive L.tWg bt (r.setCell (stA bt) (.int .u64 (j+1))):=⟨_,_,g.setSt _⟩
  clear g
  walk_nrm
  u_op f d
  u_c aF f d
  u_c stepG_ret' f d
  u_leave1 H.f_uCas f d
  u_c aF f d
  repeat (u_c aA f d)
  u_cond i f d
  repeat (u_c aA f d)
  u_reg f d
  u_op f d
  u_op f d
  u_op f d
  u_op f d
  u_c aF f d
  repeat (u_c aA f d)
  u_cond i f d
  repeat (u_c aA f d)
  u_reg f d
  u_op f d
  u_op f d
  u_op f d
  u_conv H.underlying_tPU32 H.room_tU32 (Go.ConcN.Gen.WgLive.cell1 d).choose_spec f d
  refine Goes.stop (λr l=>?_);clear l;refine⟨a,_,⟨bt,1,k⟩,a,λh=>stepG_markAt .write Q a a (by k_ne) a H.f_raceWrite (x_raceWrite_n L) (x_raceWrite_b L) (x_raceWrite_x L) (x_raceWrite_f L) (ad:=⟨bt,1,k⟩) (by simp[Act.eval]),λh d=>⟨60,?_⟩⟩
  walk_nrm
  u_c aF f d
  repeat (u_c aA f d)
  u_reg f d
  u_op f d
  u_c aF f d
  repeat (u_c aA f d)
  u_reg f d
  u_op f d
  u_op f d
  u_op f d
  u_op f d
  u_skip f d
  u_op f d
  u_c aF f d
  repeat (u_c aA f d)
  u_cond m f d
  u_c stepG_skip f d
  repeat (u_c aA f d)
  u_reg f d
  u_op f d
  u_op f d
  u_op f d
  u_op f d
  refine Goes.stop (λbd F=>?_);replace d:=f d F;clear F;refine⟨a,a,λ⟨bk,g⟩=>stepG_semacquire_wait a a a H.f_semacquire (x_semacquire_n L) (x_semacquire_b L) (x_semacquire_x L) (x_semacquire_f L) (by simp[Act.eval,smA]) g.cellSm,λu=>?_⟩;refine⟨_,(stepG_semacquire (n:=1) a a (by k_ne) a H.f_semacquire (x_semacquire_n L) (x_semacquire_b L) (x_semacquire_x L) (x_semacquire_f L) (by simp[Act.eval,smA]) u.cellSm (by k_ne) (u.thaw 1)).trans nk,40,?_⟩;replace d:WgLive L.tWg bt (bd.setCell (smA bt) (.int .u32 0)):=⟨_,_,u.setSm 0⟩
  clear u
  walk_nrm
  u_c aF f d
  repeat (u_c aA f d)
  u_reg f d
  u_op f d
  u_op f d
  u_op f d
  u_call H.f_uLoad (nm_uLoad L) uLoadFn f d
  repeat (u_c aA f d)
  u_reg f d
  u_op f d
  u_c aF f d
  repeat (u_c aA f d)
  u_reg f d
  u_op f d
  u_op f d
  u_op f d
  refine Goes.stop (λbM E=>?_);replace d:=f d E;clear E;refine⟨a,λg=>⟨_,stepG_load_atomic (v:=0) a a (by k_ne) a H.f_loadU64 (x_loadU64_n L) (x_loadU64_b L) (x_loadU64_x L) .u64 (x_loadU64_f L) a g.cellSt,40,?_⟩⟩;clear g
  walk_nrm
  u_op f d
  u_c aF f d
  u_c stepG_ret' f d
  u_leave1 H.f_uLoad f d
  u_op f d
  u_op f d
  u_c aF f d
  repeat (u_c aA f d)
  u_cond i f d
  repeat (u_c aA f d)
  u_reg f d
  refine Goes.stop (λr l=>?_);clear l;refine⟨a,_,λh=>stepG_mark0 .enable Q a a (by k_ne) a H.f_enable (x_enable_n L) (x_enable_b L) (x_enable_x L) (x_enable_f L),λh d=>⟨20,?_⟩⟩
  walk_nrm
  u_c aF f d
  repeat (u_c aA f d)
  u_reg f d
  u_op f d
  u_conv H.underlying_tWgP H.room_tWg (Go.ConcN.Gen.WgLive.cell0 d).choose_spec f d
  refine Goes.stop (λr l=>?_);clear l;refine⟨a,_,λh=>stepG_markAt .acquire Q a a (by k_ne) a H.f_acquire (x_acquire_n L) (x_acquire_b L) (x_acquire_x L) (x_acquire_f L) Cu,λh d=>⟨40,?_⟩⟩
  walk_nrm
  u_c aF f d
  repeat (u_c aA f d)
  u_reg f d
  u_op f d
  u_c aF f d
  repeat (u_c aA f d)
  u_cond m f d
  u_c stepG_skip f d
  u_c stepG_ret' f d
  u_leave0 H.f_wait f d
  grind[Goes.stop]
 refine⟨_,stepG_cas_miss (v:=(w:Int)*KK) (old:=j) (n:=j+1) a a (by k_ne) a H.f_casU64 (x_casU64_n L) (x_casU64_b L) (x_casU64_x L) .u64 (x_casU64_f L) a a a g.cellSt (g.thaw 0) I9,30,?_⟩;clear g
 walk_nrm
 u_op f d
 u_c aF f d
 u_c stepG_ret' f d
 u_leave1 H.f_uCas f d
 u_c aF f d
 repeat (u_c aA f d)
 u_cond m f d
 u_c stepG_skip f d
 u_c stepG_inBlock f d
 u_c stepG_inLoop f d
 exact Goes.stop λ_ _=>⟨_,a,by simp,by simp⟩
end
section
open Go.Conc Go.Conc.Lib
open Go.ConcN (WgLive)
open Go.ConcR (KK WgAt stA smA rd wr mk DC0 Payload)
def fe(d:ab)(a:Nat)(e w1:af):Prop:=WgLive d a e->WgLive d a w1
def fe.refl{d:ab}{a:Nat}(e:af):fe d a e e:=id
def fe.trans{d:ab}{a:Nat}{e f g:af}(h:fe d a e f)(j:fe d a f g):fe d a e g:=λl=>j (h l)
def my(d:af->af->Prop)(a:ae->af->Prop)(e:ae)(f:af):Prop:=∀w1,d f w1->a e w1
def Goes.dH{P:aw}{a:Bool}{g:af->af->Prop}{s:af->af->Array ay->Prop}{d:ae->af->Prop}(aG:∀o p q,g o p->g p q->g o q):
  ∀{n:Nat} {h:ae} {l:af},Goes P a g s d n h l->Goes P a g s (my g d) n h l
 |0,h,l,f=>λw1 j w2 e=>f w2 (aG _ _ _ j e)
 |n+1,h,l,f=>by
  rcases f with f|⟨t,f⟩
  .exact .inl λw1 j w2 e=>f w2 (aG _ _ _ j e)
  refine .inr ⟨t,λw1 j=>?_⟩;have e:=f w1 j;cases r:ap P a h w1 with
  |go v w u=>
   rw[r,goes_go]at e;rw[goes_go];exact⟨e.1,Goes.dH aG e.2⟩
  |_=>rw[r]at e;exact e.elim
structure j0(bt:Nat)(dt:aj->Prop):Prop where
 rely:∀d au,dt d->cL d au->dt au
 heap:∀d,dt d->∃h,aZ h d
 iD:∀d,dt d->¬d.own bt/\(∀L∈d.m,bt∉L.V)/\∀r,d.n bt r=k
section
variable {P:aw}{L:WgLink}{bt:Nat}{dt:aj->Prop}
def hv(d:ab)(a:Nat)(f:aj->Prop)(e:aj):Prop:=f e/\WgLive d a e.a
def j0.hd(C:j0 bt dt){a:aj}(d:dt a):fP a:=(C.heap a d).choose_spec.mem
def j0.set(C:j0 bt dt){d:aj}(j:dt d)(f:Addr)(t:f.block=bt)(g:I):cL d {d with a:=d.a.setCell f g}:=by
 obtain⟨r,s,u⟩:=C.iD d j;have h:∀e,e≠bt->(d.a.setCell f g).heap[e]?=d.a.heap[e]?:=λe p=>by have:=(aside_setCell d.a f g).block e J;omega
 refine⟨a,a,a,Nat.le_of_eq (aside_setCell d.a f g).size.symm,λe p=>h e J,λe l q o=>?_,(aside_setCell d.a f g).os,(aside_setCell d.a f g).tape,(aside_setCell d.a f g).output⟩;have n:e≠bt:=J;show(d.a.setCell f g).cell? _=_;rw[l5 (h e n) l];exact C.hd j e l q o
def j0.next(C:j0 bt dt){a:ab}{e d:aj}(f:hv a bt dt e)(a1:(al.ay P a bt).rely e d):hv a bt dt d:=⟨C.rely e d f.1 a1.1,a1.2 f.2⟩
def j0.iU(C:j0 bt dt){a:ab}{d:aj}(e:hv a bt dt d):(al.ay P a bt).rely d d:=⟨cL.dZ (C.hd e.1),id⟩
def j0.goes(C:j0 bt dt){e:ab}{j:ae->aj->Prop}{Stop:ae->af->Prop}(t:∀g d,hv e bt dt d->my (fe e bt) Stop g d.a->db (al.ay P e bt) (dI bt) j g d){l:Nat}{g:ae}{d:aj}(n:hv e bt dt d)(p:Goes P i (fe e bt) DC0 Stop l g d.a):db (al.ay P e bt) (dI bt) j g d:=by refine db.goes (q:=al.ay P e bt) (cU:=fe e bt) (s:=DC0) (Stop:=my (fe e bt) Stop) (hv e bt dt) (λd r f h=>C.next f h) (λd r _ h=>h.2) ?_ (λd f=>C.iU f) t l g d n (Goes.dH (λ_ _ _ u v=>u.trans v) p);rintro d o f w ⟨rfl,rfl⟩;exact⟨a,.inl (.aS (C.heap d f.1).choose_spec)⟩
end
set_option maxRecDepth 100000 in
def N3{P:aw}{L:WgLink}(H:WgLib P L){a:Nat}:Frame.enter P L.add #[.pointer (b ⟨a,0,k⟩),.int .i64 1] .normal=(base L.add).at ⟨#[.pointer (b ⟨a,0,k⟩),.int .i64 1,E,E,E,E,E,E,E,E,E,E,E,E,E,E,E,E,E,E,E,E,E,E,E,E,E,E,E,E,E,E,E,E,E,E,E,E,E,E,E,E,E,E,E,E,E,E,E,E,E,E,E,E,E,E,E,E,E,E,E,E,E,E,E,E,E,E,E,E,E,E,E,E,E,E,E,E,E,E,E,E,E,E,E,E,E,E,E,E,E,E,E,E,E,E,E,E,E,E,E,E,E,E,E,E,E,E,E,E,E,E,E,E,E,E,E],[]⟩ [.code (Go.ConcR.Gen.body_add L)]:=
 (enter_at (c:=Go.ConcR.Gen.body_add L) _ H.f_add bO).trans bO
set_option maxRecDepth 100000 in
def N4{P:aw}{L:WgLink}(H:WgLib P L){a:Nat}:Frame.enter P L.wait #[.pointer (b ⟨a,0,k⟩)] .normal=(base L.wait).at ⟨#[.pointer (b ⟨a,0,k⟩),E,E,E,E,E,E,E,E,E,E,E,E,E,E,E,E,E,E,E,E,E,E,E,E,E,E,E,E,E,E,E,E,E,E,E,E,E,E,E,E,E,E,E,E,E,E,E,E,E,E,E,E,E,E,E,E,E,E,E,E,E,E,E,E,E,E,E,E,E,E,E,E,E,E,E,E,E,E,E,E,E,E,E],[]⟩ [.code (Go.ConcR.Gen.body_wait L)]:=
 (enter_at (c:=Go.ConcR.Gen.body_wait L) _ H.f_wait bO).trans bO
section
variable [Payload]{P:aw}{L:WgLink}{v:gm}{dt:aj->Prop}{B p:Nat}{val:Nat->Nat->I}
def Mt(H:WgLib P L)(C:j0 v.b dt){t:Nat}{Next:ae->aj->Prop}{g2:az}{g1:Act}{fK:Array ah}{g7:Nat}{g_:e Nat}{g9:e Item}{aY:e az}(J:∀d,hv L.tWg v.b dt d->db (al.ay P L.tWg v.b) (dI v.b) (uM P L.tWg v B val t Next) (G (g2.at (g1.put ((fK[g7]?).bind (·.dst)) (.tuple #[])) (.inRegion fK g_::g9)) aY) d){d:aj}(h:hv L.tWg v.b dt d):
  db (al.ay P L.tWg v.b) (dI v.b) (xX P L.tWg v B val t Next) (G (Frame.enter P L.add #[.pointer (b ⟨v.b,0,k⟩),.int .i64 1] .normal) (g2.at g1 (.inRegion fK (g7::g_)::g9)::aY)) d:=by
 have I:∀j d,hv L.tWg v.b dt d->x3 P (fe L.tWg v.b) L v.b (G (g2.at (g1.put ((fK[g7]?).bind (·.dst)) (.tuple #[])) (.inRegion fK g_::g9)) aY) j d.a->db (al.ay P L.tWg v.b) (dI v.b) (xY P L.tWg v B val t Next) j d:=by rintro j d h ⟨p,f,r,s⟩;refine⟨.leaf,p,f,r,λn o=>?_⟩;have l:=C.next h o;obtain⟨y,q⟩:=s n.a l.2;exact C.goes (λj d h g=>by obtain rfl:=g d.a (.refl _);grind) l q
 have D:∀j d,hv L.tWg v.b dt d->my (fe L.tWg v.b) (Cz P (fe L.tWg v.b) L v.b (G (g2.at (g1.put ((fK[g7]?).bind (·.dst)) (.tuple #[])) (.inRegion fK g_::g9)) aY)) j d.a->db (al.ay P L.tWg v.b) (dI v.b) (xU P L.tWg v B val t Next) j d:=by
  rintro j d h g;refine⟨.leaf,(g d.a (.refl _)).1,λn o z A u=>?_⟩;have l:=C.next h o;obtain⟨f,p,y,q⟩:=(g n.a o.2).2 z A u;have E:hv L.tWg v.b dt {n with a:=n.a.setCell (stA v.b) (.int .u64 ((z+1)*KK))}:=⟨C.rely _ _ l.1 (C.set l.1 _ rfl _),⟨_,_,u.setSt _⟩⟩;refine⟨f,p,C.goes (λj d h g=>?_) E q⟩
  rcases g d.a (.refl _)with g|g
  .obtain⟨p,f,w,r,s,x⟩:=g;refine .step p λn o=>⟨f,n,_,s n.a,.inr ⟨a,w,r,.inl a⟩,?_⟩
   have l:=C.next h o;obtain⟨y,q⟩:=x n.a l.2;exact C.goes (λj d h g=>I j d h (g d.a (.refl _))) l q
  grind
 have u:=Mu (P:=P) (L:=L) H (cU:=fe L.tWg v.b) (bt:=v.b) (λg F=>F g) (g2:=g2) (g1:=g1) (fK:=fK) (g7:=g7) (g_:=g_) (g9:=g9) (aY:=aY) d.a h.2;rw[N3 H];refine C.goes (λj d h g=>?_) h u;obtain⟨p,f,r,s⟩:=g d.a (.refl _);refine⟨.leaf,p,f,r,λn o=>?_⟩;have l:=C.next h o;obtain⟨y,q⟩:=s n.a l.2;exact C.goes D l q
section
variable (P L v dt)
def CH(d a:ae)(e:aj):Prop:=hv L.tWg v.b dt e/\∃f,Goes P i (fe L.tWg v.b) DC0 (λa _=>a=d) f a e.a
def uL(g:az)(a:e az)(d:ae)(f:aj):Prop:=hv L.tWg v.b dt f/\∃h,Goes P i (fe L.tWg v.b) DC0 (λd _=>po L v.b g a d) h d f.a
end
variable {g2:az}{g1:Act}{fK:Array ah}{g7:Nat}{g_:e Nat}{g9:e Item}{aY:e az}
omit [Payload]in
def MA(H:WgLib P L)(C:j0 v.b dt){t A:ae->aj->Prop}(J:∀e d,CH P L v dt (G (g2.at (g1.put ((fK[g7]?).bind (·.dst)) (.tuple #[])) (.inRegion fK g_::g9)) aY) e d->t e d)(D:∀e d,uL P L v dt (g2.at g1 (.inRegion fK (g7::g_)::g9)) aY e d->A e d){e:ae}{d:aj}(h:uL P L v dt (g2.at g1 (.inRegion fK (g7::g_)::g9)) aY e d):
  db (al.ay P L.tWg v.b) (dI v.b) (pp P L.tWg v t A) e d:=by
 generalize x:g2.at g1 (.inRegion fK (g7::g_)::g9)=T at *;generalize aq:G (g2.at (g1.put ((fK[g7]?).bind (·.dst)) (.tuple #[])) (.inRegion fK g_::g9)) aY=p at J;have N:∀e d,hv L.tWg v.b dt d->my (fe L.tWg v.b) (CA P (fe L.tWg v.b) L v.b p) e d.a->db (al.ay P L.tWg v.b) (dI v.b) (xV P L.tWg v t) e d:=by intro e d j h;obtain⟨o,f,u,w⟩:=h d.a (.refl _);exact⟨.leaf,o,f,u,λl g=>J _ _ ⟨C.next j g,w l.a (C.next j g).2⟩⟩
 have K:∀e d,hv L.tWg v.b dt d->my (fe L.tWg v.b) (x4 P (fe L.tWg v.b) L v.b p) e d.a->db (al.ay P L.tWg v.b) (dI v.b) (uN P L.tWg v t) e d:=by intro e d j h;obtain⟨o,f,u,w⟩:=h d.a (.refl _);refine⟨.leaf,o,f,u,λl g=>?_⟩;obtain⟨r,n⟩:=w l.a (C.next j g).2;exact C.goes N (C.next j g) n
 have Q:∀e d,hv L.tWg v.b dt d->my (fe L.tWg v.b) (CD P (fe L.tWg v.b) L v.b p) e d.a->db (al.ay P L.tWg v.b) (dI v.b) (x0 P L.tWg v t) e d:=by intro e d j h;refine⟨.leaf,(h d.a (.refl _)).1,λl g q=>?_⟩;obtain⟨f,o,r,n⟩:=(h l.a g.2).2 q;exact⟨f,o,C.goes K (C.next j g) n⟩
 have O:∀e d,hv L.tWg v.b dt d->my (fe L.tWg v.b) (CC P (fe L.tWg v.b) L v.b p) e d.a->db (al.ay P L.tWg v.b) (dI v.b) (mz P L.tWg v t) e d:=by intro e d j h;refine⟨.leaf,(h d.a (.refl _)).1,(h d.a (.refl _)).2.1,λl g=>⟨(h l.a g.2).2.2.1,λq=>?_⟩⟩;obtain⟨f,o,r,n⟩:=(h l.a g.2).2.2.2 q;exact⟨f,o,C.goes Q (d:={l with a:=l.a.setCell (smA v.b) (.int .u32 0)}) ⟨C.rely _ _ (C.next j g).1 (C.set (C.next j g).1 _ rfl _),⟨_,_,q.setSm 0⟩⟩ n⟩
 have S:∀e d,hv L.tWg v.b dt d->my (fe L.tWg v.b) (CE P (fe L.tWg v.b) L v.b p) e d.a->db (al.ay P L.tWg v.b) (dI v.b) (mz P L.tWg v t) e d:=by
  intro e d j h;obtain⟨o,f,B,u,w,I⟩:=h d.a (.refl _);refine .step o λl g=>⟨f,l,_,w l.a,.inr ⟨a,B,u,.inr a⟩,?_⟩
  obtain⟨r,n⟩:=I l.a (C.next j g).2;exact C.goes O (C.next j g) n
 have R:∀(s:Nat) e d,hv L.tWg v.b dt d->my (fe L.tWg v.b) (CB P (fe L.tWg v.b) L v.b p (po L v.b T aY) s) e d.a->db (al.ay P L.tWg v.b) (dI v.b) (xZ P L.tWg v t A s) e d:=by
  intro z e d j h;refine⟨.leaf,(h d.a (.refl _)).1,λl g s y q=>⟨λE=>?_,λE=>?_⟩⟩
  .obtain⟨f,o,r,n⟩:=((h l.a g.2).2 s y q).1 E;exact⟨f,o,C.goes S (d:={l with a:=l.a.setCell (stA v.b) (.int .u64 (s*KK+1))}) ⟨C.rely _ _ (C.next j g).1 (C.set (C.next j g).1 _ rfl _),⟨_,_,q.setSt _⟩⟩ n⟩
  obtain⟨f,o,r,n⟩:=((h l.a g.2).2 s y q).2 E;exact⟨f,o,D _ _ ⟨C.next j g,r,n⟩⟩
 obtain⟨j,r,n⟩:=h;refine C.goes (λe d j h=>?_) j n;obtain⟨r,q⟩:=WG (P:=P) (L:=L) H (cU:=fe L.tWg v.b) (bt:=v.b) (λh U=>U h) (g2:=g2) (g1:=g1) (fK:=fK) (g7:=g7) (g_:=g_) (g9:=g9) (aY:=aY) e (by rw[x];exact h d.a (.refl _)) d.a j.2;rw[x,aq]at q;refine C.goes (λe d j h=>?_) j q;refine⟨.leaf,(h d.a (.refl _)).1,λl g s y q=>?_⟩;obtain⟨f,o,u,w⟩:=(h l.a g.2).2 s y q;refine⟨f,o,λF=>?_,λM=>?_⟩
 .obtain⟨r,n⟩:=u F;exact C.goes K (C.next j g) n
 obtain⟨r,n⟩:=w M;exact C.goes (R s) (C.next j g) n
omit [Payload]in
def WF(H:WgLib P L)(C:j0 v.b dt){u:az}{h:ae->aj->Prop}(D:∀e a,uL P L v dt u aY e a->h e a){a:aj}(d:hv L.tWg v.b dt a):
  db (al.ay P L.tWg v.b) (dI v.b) (xW P L.tWg v h) (G (Frame.enter P L.wait #[.pointer (b ⟨v.b,0,k⟩)] .normal) (u::aY)) a:=by have q:=WH (P:=P) (L:=L) H (cU:=fe L.tWg v.b) (bt:=v.b) (λg p=>p g) (u:=u) (aY:=aY) a.a d.2;rw[N4 H];refine C.goes (λe a d g=>?_) d q;obtain⟨n,f,o,r⟩:=g a.a (.refl _);exact⟨.leaf,n,f,o,λl j=>D _ _ ⟨C.next d j,r l.a (C.next d j).2⟩⟩
end
end
section
open Go.Conc Go.RowKit Go.Conc.Lib Go.ConcR.Gen
open Go.ConcN (WgLive Has RW DWs AtR0 EvW)
open Go.ConcN.Gen
open Go.ConcR (KK WgAt stA smA rd wr mk DC0 Payload)
section
variable {cU:af->af->Prop}{s:af->af->Array ay->Prop}{Stop C:ae->af->Prop}
def Goes.hg(n:∀a,cU a a)(w:∀d a,Stop d a->∃h u,ap P m d a=.go h a #[u])(t:∀g d a,C d a->¬Goes P m cU s Stop g d a):
  ∀(q g:Nat) (d:ae) (a:af),Goes P m cU DC0 C q d a->¬Goes P m cU s Stop g d a
 |0,g,d,a,l,j=>t g d a (l a (n a)) j
 |q+1,g,d,a,l,j=>by
  rcases l with l|⟨_,l⟩
  .grind
  have f:=l a (n a);cases o:ap P m d a with
  |go h e v=>
   rw[o,goes_go]at f;obtain⟨⟨rfl,rfl⟩,p⟩:=f;have r:¬Stop d e:=λx=>by grind
   cases g with
   |zero=>exact r (j e (n e))
   |succ g=>
    rcases j with j|⟨_,j⟩
    .grind
    have k1:=j e (n e);rw[o,goes_go]at k1;exact Goes.hg n w t q g h e p k1.2
  |_=>rw[o]at f;exact f.elim
def Goes.hc(r:∀d,cU d d)(z:∀e d,Stop e d->∃l x,ap P m e d=.go l d #[x])(t:∀f e d,C e d->Goes P m cU s Stop f e d->∀w1,cU d w1->Stop e w1):
  ∀(p f:Nat) (e:ae) (d:af),Goes P m cU DC0 C p e d->Goes P m cU s Stop f e d->Goes P m cU DC0 Stop p e d
 |0,f,e,d,n,j=>t f e d (n d (r d)) j
 |p+1,f,e,d,n,j=>by
  rcases n with n|⟨w,n⟩
  .exact .inl (t f e d (n d (r d)) j)
  refine .inr ⟨w,λw1 o=>?_⟩;have g:=n w1 o;cases q:ap P m e w1 with
  |go l h y=>
   rw[q,goes_go]at g;rw[goes_go];obtain⟨⟨rfl,rfl⟩,u⟩:=g;have v:¬Stop e h:=λw=>by grind
   refine⟨⟨a,a⟩,?_⟩;cases f with
   |zero=>exact absurd (j h o) v
   |succ f=>
    rcases j with j|⟨_,j⟩
    .grind
    have k1:=j h o;rw[q,goes_go]at k1;exact Goes.hc r z t p f l h u k1.2
  |_=>rw[q]at g;exact g.elim
end
variable [Payload]{L:WgLink}{bt D lQ A:Nat}{val:I}{u:az}
def Ml(P:aw)(e:ae)(_:af):Prop:=∃d,∀a,ap P m e a=.go d a #[mk .disable]
def Mm(P:aw)(L:WgLink)(a g o f h:Nat)(e:I)(l:ae)(d:af):Prop:=
 (WgLive L.tWg a d/\Has g (h-1) e d)/\∃j,(∀d,ap P m l d=.go j d #[mk (.releaseMerge (stA a))])/\∀d,WgLive L.tWg a d/\Has g (h-1) e d->∃n,Goes P m (RW L.tWg a g o f (h-1)) DC0 (Ml P) n j d
set_option maxRecDepth 100000 in
def NH(H:WgLib P L)(f:af)(d:WgLive L.tWg bt f/\Has D (A-1) val f):
  Goes P m (RW L.tWg bt D p lQ (A-1)) DC0 (Mm P L bt D p lQ A val) 23 (G ((baseD L.done).at ⟨#[.pointer (b ⟨bt,0,k⟩),E,E,E],[]⟩ [.code (body_done L)]) (u::aY)) f:=by
 lib_facts
 simp only[body_done,body_add,doneFn,addFn,hO]
 u_reg kn_rely d
 u_op kn_rely d
 u_in kn_rely d
 refine goes_call a a (by k_ne) a H.f_add (nm_add L) a ⟨by u_nil,?_⟩
 walk_nrmf addFn
 repeat (u_c aA kn_rely d)
 u_cond i kn_rely d
 repeat (u_c aA kn_rely d)
 u_reg kn_rely d
 u_op kn_rely d
 u_op kn_rely d
 u_c aF kn_rely d
 repeat (u_c aA kn_rely d)
 u_cond i kn_rely d
 u_reg kn_rely d
 u_op kn_rely d
 u_conv H.underlying_tWgP H.room_tWg (Go.ConcN.Gen.WgLive.cell0 d.1).choose_spec kn_rely d
 refine Goes.stop (λg e=>?_);replace d:=kn_rely d e;clear e;refine⟨d,_,λf=>stepG_markAt .releaseMerge Q a a (by k_ne) a H.f_relMerge (x_relMerge_n L) (x_relMerge_b L) (x_relMerge_x L) (x_relMerge_f L) Cu,λf d=>⟨10,?_⟩⟩
 walk_nrm
 u_c aF kn_rely d
 repeat (u_c aA kn_rely d)
 u_reg kn_rely d
 exact Goes.stop λg e=>⟨_,λf=>stepG_mark0 .disable Q a a (by k_ne) a H.f_disable (x_disable_n L) (x_disable_b L) (x_disable_x L) (x_disable_f L)⟩
def NG(H:WgLib P L){F:Nat}(x:u.mode=.returning)(aG:QuitsD P F 0 (G u aY))(d:af)(l:WgLive L.tWg bt d/\Has D (A-1) val d):
  Goes P m (RW L.tWg bt D p lQ (A-1)) DC0 (AtR0 P L.tWg bt D p lQ A val) 23 (G ((baseD L.done).at ⟨#[.pointer (b ⟨bt,0,k⟩),E,E,E],[]⟩ [.code (body_done L)]) (u::aY)) d:=by
 have t:=doneN (Own:=λ_ _=>False) (Rd:=λ_ _=>False) (Low:=lQ) (n:=p) H x aG d l;have r:∀g d,AtR0 P L.tWg bt D p lQ A val g d->∃h w,ap P m g d=.go h d #[w]:=λg d f=>by obtain⟨_,_,h,B,_⟩:=f;grind
 have R:(mk (.releaseMerge (stA bt)):ay)≠mk .disable:=uI;refine Goes.hc (λd=>.refl d) r ?_ _ _ _ _ (NH H d l) t;intro o g d f e w1 j;obtain⟨l,z,B,y⟩:=f;have v:AtR0 P L.tWg bt D p lQ A val g w1∨∃s,Goes P m (RW L.tWg bt D p lQ (A-1)) (DWs bt (λ_ _=>False) (λ_ _=>False) D p A) (AtR0 P L.tWg bt D p lQ A val) s z w1:=by
  cases o with
  |zero=>exact .inl (e w1 j)
  |succ o=>
   rcases e with e|⟨_,e⟩
   .grind
   grind[goes_go]
 rcases v with f|⟨s,f⟩
 .exact f
 exfalso;obtain⟨Q,K⟩:=y w1 (kn_rely l j);refine Goes.hg (λd=>.refl d) r ?_ _ _ _ _ K f;rintro q I w4 ⟨O,C⟩ e;have n:∀d,¬AtR0 P L.tWg bt D p lQ A val I d:=λd J=>by obtain⟨_,_,M,N,_⟩:=J;grind
 cases q with
 |zero=>exact n w4 (e w4 (.refl w4))
 |succ q=>
  rcases e with e|⟨_,e⟩
  .exact n w4 (e w4 (.refl w4))
  have k1:=e w4 (.refl w4);rw[C w4,goes_go]at k1;have:=(k1.1.2 _ (Array.mem_singleton.2 a)).2.1;exact this a
end
section
open Go.RowKit
open Go.Conc (G solo crowd AtRel Past EvL Leavers)
def aj.bn(d:af):aj:={m:=[],n:=λa e=>d.cell? ⟨a,e,k⟩,a:=d,own:=λa=>a<d.heap.size}
def aZ.bn(e:af):aZ [] (aj.bn e):=⟨λ_ _ _ d=>d,rfl,by simp,by simp[aj.bn],by simp[aj.bn],λf a=>⟨a,by simp[aj.bn]⟩⟩
def Ur{p:ar}{e:az}(g:kX P p e ai d)(o:P.inits.idxOf? p=k)(j:af)(s:∀a h l,d.n a h=b l->j.cell? ⟨a,h,k⟩=b l):∃f,ap P i (G e []) j=.ended (.done ai) j f/\∀n∈f,∃a h l,n=⟨.cell ⟨a,h,k⟩,m,m⟩/\d.n a h=b l:=by
 obtain⟨fn,t,q⟩:=g.fn;obtain⟨w,v⟩:=q j s;refine⟨seen P e.fn ((results fn e.tmps).events P j #[]),?_,λn u=>v n (Go.Conc.mem_seen u)⟩;have r:P.inits.idxOf? e.fn=k:=by rw[g.i_];exact o
 simp[G,ap,unwind,doReturn,g.mode,g.defers,g.kind,t,w,r,GStep.after]
abbrev mG:=Nat×ab×I
abbrev ll(a:e mG):e Y:=a.map λd=>.Q (dY d.1 d.2.1 d.2.2)
def aj.cf(a:e mG)(f:af):aj:={m:=a.map λg=>⟨.pointer (b ⟨g.1,0,k⟩),[g.1]⟩,n:=λd h=>if d∈a.map (·.1)then k else f.cell? ⟨d,h,k⟩,a:=f,own:=λd=>d<f.heap.size/\d∉a.map (·.1)}
def aZ.cf{f:e mG}{u:af}(K:(f.map (·.1)).Nodup)(z:∀d∈f,u.heap[d.1]?=b (.cells #[d.2.2] d.2.1 (0,0))):aZ (ll f) (aj.cf f u):=by
 have D:∀d∈f,d.1<u.heap.size:=λd t=>(hM.1 (z d t)).1;have o:∀(h:Nat) (L:Loc),(aj.cf f u).m[h]?=b L->∃d,f[h]?=b d/\L=⟨.pointer (b ⟨d.1,0,k⟩),[d.1]⟩:=λh L p=>by simp only[aj.cf,lW,pL]at p;grind
 refine⟨λl A M s=>?_,by simp[aj.cf],λh F L ao j=>?_,λh q L v n w l g x=>?_,λL p l g=>?_,λl g=>⟨g.1,λL p y=>?_⟩⟩
 .simp only[aj.cf]at s;split at s
  .cases s
  exact s
 .obtain⟨d,n,rfl⟩:=o h L j;simp only[ll,lW,n,lY,eA]at ao;subst ao;have t:=bZ n;refine⟨λl=>if l=d.1 then b (.cells #[d.2.2] d.2.1 (0,0))else k,⟨a,bF a,λl g=>bp g⟩,λl A g=>?_,λl=>?_,λl g A=>?_⟩
  .simp only at g;split at g
   .rename_i r;cases g;rw[r];exact z d t
   grind
  .by_cases r:l=d.1<;>simp[r]
  rw[eN]at g;subst g;exact bF (fF.2 ⟨d,t,a⟩)
 .obtain⟨d,X,rfl⟩:=o h L n;obtain⟨E,I,rfl⟩:=o q v w;rw[eN]at g x;have r:d.1=E.1:=g.symm.trans x;have B:(f.map (·.1))[h]?=b d.1:=J;have C:(f.map (·.1))[q]?=b d.1:=J;grind[List.getElem?_inj]
 .obtain⟨h,j⟩:=yh p;obtain⟨d,X,rfl⟩:=o h L j;rw[eN]at g;subst g;exact D d (bZ X)
 obtain⟨h,j⟩:=yh p;obtain⟨d,X,rfl⟩:=o h L j;rw[eN]at y;subst y;exact g.2 (fF.2 ⟨d,bZ X,a⟩)
def aZ.iR{a:e mG}(h:aZ (ll a) d){f:mG}(l:f∈a):d.a.heap[f.1]?=b (.cells #[f.2.2] f.2.1 (0,0)):=by
 obtain⟨g,p⟩:=yh l;have ao:(ll a)[g]?=b (.Q (dY f.1 f.2.1 f.2.2)):=J;have j:g<c d.m:=by rw[h.len];grind
 obtain⟨n,⟨_,o,_⟩,q,_⟩:=h.box g _ _ ao (bu j);grind
def bG.iQ{q:ar}{args:e s}{f:e mG}(j:bG (al.a8 P) q args (ll f) res (λ_=>ll f))(y:P.inits.idxOf? q=k)(ae:(f.map (·.1)).Nodup)(Y:∀F∈f,K.heap[F.1]?=b (.cells #[F.2.2] F.2.1 (0,0)))(L:bW (ll f) (aj.cf f K) z args){dn:I->af->Prop}(aq:∀v o d,bo (ll f) d o (res v)->Below K.heap.size K d.a->∀J,dn o (d.a.at J)):
  ∃U last u n A,runNT P (U+1) (solo (G (Frame.enter P q z.toArray .normal) []) K) #[]=(.ended u n,A)/\runN P U (solo (G (Frame.enter P q z.toArray .normal) []) K)=.next last /\
   step P last=.ended u n/\Go.Conc.Good P dn last u n A:=by
 have V:=aZ.cf ae Y;have key:=j.2 (aj.cf f K) z L V (λau d=>∃v o h,au=G h []/\kX P q h o d/\bo (ll f) d o (res v)/\Below K.heap.size K d.a) []
  (λv h o d r t x g=>.stop ⟨v,o,h,rfl,r,t,⟨g.os,g.tape,g.output,g.size,λW S=>by
   by_cases B:W∈f.map (·.1)
   .obtain⟨F,ab,rfl⟩:=fF.1 B;rw[x.iR ab,Y F ab]
   .exact g.aG W ⟨S,B⟩⟩⟩)
 have ak:AM.iA (λ_=>False)=λ_=>False:=by funext l;cases l<;>rfl
 obtain⟨w,ax,ay,aw,d,X,A,aC,r,t,x,g,ad,ag,aB,⟨v,o,h,rfl,k1,ah,an⟩⟩:=key.a8 (λ_=>False) #[G (Frame.enter P q z.toArray .normal) []] k #[] (λ_=>0) V.mem rfl (Go.Conc.leavers_one P _)
  (by rw[ak];exact Go.Conc.past_nil.mono (jG _)) ⟨λ_ j=>j.elim,λ_ j=>j.elim,λ_ j=>j.elim,λ_ j=>j.elim⟩ (λaF=>by intro v y;simp[Trace.act?]at y)
 have ao:=Go.Conc.beside_ends (P:=P) (Shun:=AM.iA ax) (B:=d.a.heap.size) (D:=λ_ _ _=>False) (Post:=dn) (λ_ _ _ j=>j.elim) (sl:=X) (n:=0) x g ad (Go.Conc.Goes.stop λw1 E=>by
  obtain⟨J,rfl⟩:=E;obtain⟨R,O,Q⟩:=Ur k1 y (d.a.at J) (λN u Z T=>t N u Z T);refine⟨a,o,R,O,λB ai=>?_,aq v o d ah an J⟩;obtain⟨N,u,Z,rfl,T⟩:=Q B ai;refine Go.Conc.evL_cell _ _ (λH=>?_) (fP.lt t T);have:=ag.n N H u
  grind)
 obtain⟨M,last,u,n,t2,C,aE,az,D⟩:=ao;refine⟨w+M,last,u,n,t2,?_,?_,az,D⟩
 .rw[show w+M+1=w+(M+1) by omega];exact(Bh w (M+1) r).trans C
 have B:=runNT_fst P w (crowd #[G (Frame.enter P q z.toArray .normal) []] K k) #[];have aA:(runNT P w (crowd #[G (Frame.enter P q z.toArray .normal) []] K k) #[]).1=.next (crowd ay d.a X):=by have:runNT P w (crowd #[G (Frame.enter P q z.toArray .normal) []] K k) #[]=_:=r;grind
 grind[Go.Conc.solo_eq_crowd,runN_add]
def Rd.cf{a:e mG}{o:af}(V:∀d∈a,o.heap[d.1]?=b (.cells #[d.2.2] d.2.1 (0,0)))(s:∀d∈a,∃y x,d.2.2=.iface y x){E:I}{W:Bool}{u C:Nat}{f:Nat->e D}(J:∀(j l:Nat)(g:D),(f j)[l]?=b g->∃kd v,g=D.int kd v)(N:Rd (aj.bn o).n E (.M W u C f)):Rd (aj.cf a o).n E (.M m u C f):=by
 obtain⟨X,A,z,n,rfl,q,r,S,O,Q⟩:=N.d_;refine .fv q r S O λj K l g h=>?_;obtain⟨x,p,w⟩:=Q j K l g h;obtain⟨kd,v,rfl⟩:=J j l g h;cases w with
 |int t=>
  refine⟨_,?_,.int t⟩;have p:o.cell? ⟨z,n+j*u+l,k⟩=b (.int kd v):=p;show(if z∈a.map (·.1)then k else o.cell? _)=_;rw[bp,p];intro T;obtain⟨d,B,rfl⟩:=fF.1 T;obtain⟨y,x,F⟩:=s d B;simp only[aJ,V d B,F]at p;grind
end
section
open Go.ChangeShapes Go.WideShapes Go.ChangeAt Go.RowKit
def T4{H:Type}{d:ab×I->H}{B:Assume}{D:Checked}{os:Os}{w:ar}{fn:Func}{v:ChangeSpec}{l:e PathCond}{a n g again:Bool}{q:af->Array I->Prop}(ah:∀(f j:af) (args:Array I),f.heap=j.heap->q f args->q j args)(own:ownKnob D.prog.godebug=k)(Q:os.Started)(ad:D.prog.funcs[w]?=b fn)(S:∃(f:af) (o:Tape) (h:Input),f.os=os/\(f.forCall o h).Shaped D.prog/\h.vars=[]/\Input.okWide D.prog (f.forCall o h) .any f.heap.size w h /\
   ((v.pre d D.prog fn l a (f.forCall o h).memory h.args/\q (f.forCall o h).memory h.args)/\sizedMet d D.prog fn (OpenSpec.ofChange v) a (f.forCall o h).memory h.args)/\B.holds D.prog (lone (Frame.enter D.prog w h.args .normal) [] (f.forCall o h)))(T:∀(r:af) (base:Nat) (args:Array I) (t u:e (DataW H)) (A:e MemPlace),
   (∀(E:Nat) F y,fn.params[E]?=b F->args[E]?=b y->Value.okWide D.prog r .any base F y) ->
   DataW.Whole d D.prog fn.params.toList v.vars a r args.toList t u A->r.ShapedOpen D.prog->q r args ->
   ∃z last x j p,runNT D.prog (z+1) (Conc.solo (Conc.G (Frame.enter D.prog w args .normal) []) r) #[]=(.ended x j,p)/\runN D.prog z (Conc.solo (Conc.G (Frame.enter D.prog w args .normal) []) r)=.next last /\
    step D.prog last=.ended x j/\Conc.Good D.prog (λy C=>v.post d D.prog fn a n g again r args y C) last x j p):
  ReturnsInLeavingWide B D os w .any (λf args=>(v.pre d D.prog fn l a f args/\q f args)/\sizedMet d D.prog fn (OpenSpec.ofChange v) a f args) (v.post d D.prog fn a n g again):=by refine returnsInLeavingWide_of_good own Q S ?_;intro f o h _ Z _ Y W aj;obtain⟨_,_,_,ae,V,_,_,_,_,U⟩:=Y;have R:ae=fn:=u7 (V.symm.trans ad);subst R;obtain⟨⟨⟨t,u,A,K,L⟩,O⟩,ai⟩:=W;have X:=DataW.Whole.of_heap (w':=f.forCall o h) nk K;obtain⟨z,last,x,j,p,s,ag,N,J⟩:=T (f.forCall o h) f.heap.size h.args t u A U X Z (ah (f.forCall o h).memory (f.forCall o h) h.args rfl O);exact⟨z,last,x,j,p,s,ag,N,J.mono λy M=>ChangeSpec.post_blind M⟩
def Wm(l:Looks){d:Pinned}{h:OpenSpec}{a:OpenClaim}(n:e (e PathCond))(kinds:e LaidKind)(j:Bool)(f:Bool×String)(g:Bool)(F:a.holds d h)(C:∀s∈n,(a.withDomain s).holds d h)(D:a.wfByText h=i)(B:∀s∈n,(a.withDomain s).wfByText h=i)(y:a.laidByTextAt l d kinds j)(o:a.start=.entering)(q:a.noBlocks=m/\a.again=m)(r:d.checked.prog.mainIs=b (f.1,f.2.toList))(I:(!f.1&&f.2.isEmpty&&!g)=m)(w:∀p fn,d.checked.prog.funcNamed a.func=b p->d.checked.prog.funcs[p]?=b fn->g=d.checked.prog.looks []/\∀(A:Nat) v,fn.params[A]?=b v->d.checked.prog.wantsStandIn v=m)(E:i=a.goesBy d.checked.prog):
  Claim7.holds d (.plain h) {stood:={row:=a,standIns:=[],harness:=f,looks:=g},kinds:=[],alts:=n,goes:=i,laidByText:=i,laidKinds:=kinds,laidTests:=j,laidLooks:=l}:=by
 have t:∀u:OpenClaim,Claim7.isSixth {stood:={row:=u,standIns:=[],harness:=f,looks:=g},kinds:=[]}=m:=λu=>by exact cF
 refine⟨Claim7.tied_new_at l kinds j (Claim7.new_of_sixth F f g o q r (t a) w) D,λs x=>?_,y,(λz=>by cases z),E⟩;exact Claim7.tied_new_at l kinds j (Claim7.new_of_sixth (C s x) f g o q r (t _) w) (B s x)
end
namespace R1
def vL(d:an)(a:Nat):Int:=(c9 d a-97) % 256
def oi(d:an)(a:Nat):Bool:=(vL d (a-1)+2*vL d (a-2)+3*vL d (a-3)) % 5==0
def kD(d:an)(a:Nat):Nat->Nat
 |0=>min (a+8) (c d)
 |e+1=>if c d<=a+(7-e)then c d else if oi d (a+(7-e))then a+(7-e)else kD d a e
def ec(d:an)(a:Nat):Nat:=kD d a 5
def Ez(e:an)(a:Nat)(f:a<c e):∀d,d<=5->a<kD e a d/\kD e a d<=c e/\kD e a d<=a+8
 |0,_=>by simp only[kD];omega
 |d+1,g=>by
  simp only[kD];split
  .omega
  split
  .omega
  exact Ez e a f d x
theorem pY(d:an)(a:Nat)(e:a<c d):a<ec d a/\ec d a<=c d/\ec d a<=a+8:=Ez d a e 5 x
def kf(a:an):Nat->Nat->e Nat
 |0,_=>[]
 |f+1,d=>if d<c a then ec a d::kf a f (ec a d)else[]
def Nv(a:an):e Nat:=kf a (c a) 0
def hG(d:an):Nat->Nat->e an
 |0,_=>[]
 |f+1,a=>if a<c d then(d.drop a).take (ec d a-a)::hG d f (ec d a)else[]
def cc(a:an):e an:=hG a (c a) 0
def ig(a:e an):Option an:=if fa a.flatten&&(cc a.flatten==a)then b a.flatten else k
def cp(a:an):Bool:=decide (1<=c a)&&decide (c a<=8)&&dP a
def fG(e:an):Int:=e.foldl (λd a=>27*d+((a.toNat:Int)-97) % 256+1) 0
def cB(a:Int):Bool:=decide (1<=a)&&decide (a<=99)
def dF(a:Int)(d:an):Int:=(fG d*(2*a+1)+a*7919) % 999999999989
def eT(a:Nat):Nat:=if a<1∨8<a then 0 else if a<=2 then 2 else if a<=4 then 4 else 8
def eY(a:an):an:=if cp a then a++aW (eT (c a)-c a) 46 else[]
def e8(a:an):an:=(a.reverse.dropWhile (·==46)).reverse
def gT(a:an):Option an:=if cp (e8 a)&&(eY (e8 a)==a)then b (e8 a)else k
abbrev bq:=Int×an
abbrev bU:=Int×e bq
def right(d:Int)(a:bq):Bool:=match gT a.2 with|some e=>dF d e==a.1|none=>m
def Bt(d:e Int):Bool:=(aI (c d)).all λa=>a==0||decide (d.getD (a-1) 0<d.getD a 0)
def ho(d:Int)(a:bU):Bool:=
 decide (1<=a.1)&&decide (a.1<=99)&&cB d&&decide (1<=c a.2)&&decide (c a.2<=4)&&a.2.all (right d)&&Bt (a.2.map (·.1))
def hQ(a:Int)(e:bq):Option an:=match gT e.2 with|some d=>if cB a&&(dF a d==e.1)then b d else k|none=>k
def gi(d:Int)(f:bU)(e:Int):Option an:=match f.2.find? (λa=>a.1==e)with|some a=>hQ d a|none=>k
def eo(g:e bq)(a:bq):e bq:=match g with
 |[]=>[a]
 |d::f=>if a.1<d.1 then a::d::f else d::eo f a
def jR(a g:Int)(d:e an):bU:=(a,d.foldl (λh f=>eo h (dF g f,eY f)) [])
abbrev cJ:=Int×Int
def fr(a:cJ):Bool:=decide (0<=a.1)&&decide (a.1<999999999989)&&decide (1<=a.2)&&decide (a.2<=99)
def dW(g:e cJ)(a:cJ):e cJ:=match g with
 |[]=>[a]
 |d::f=>if d.1<a.1 then d::dW f a else a::(d::f).filter (λh=>!(h.1==a.1))
def hV(d:e cJ)(f:Int):Int:=match d.find? (λa=>a.1==f)with|some a=>a.2|none=>0
def dk(d:e bU):e cJ:=d.flatMap λa=>a.2.map λf=>(f.1,a.1)
def dV(a:e bU):e cJ:=if(dk a).all fr then(dk a).foldl dW []else[]
abbrev kY:=an×e Int
abbrev fE:=Int×e kY
def iV(d:Int)(a:a'):kY:=(a.1,(cc a.2).map (dF d))
def f'(a d:Int)(f:e a'):fE:=(a,f.map (iV d))
def eP(f:Int)(g:e cJ)(a:e an)(d:an):e an:=if hV g (dF f d)==0&&!a.contains d then a++[d]else a
def e6(d:Int)(g:e a')(f:e cJ):e an:=(g.flatMap λa=>cc a.2).foldl (eP d f) []
def di(d:Int)(a:e bU)(f:Int):Option an:=a.findSome? λg=>gi d g f
def o1{d:an}(f:dP d=i):∀a∈d,97<=a.toNat/\a.toNat<=122:=by intro a e;have:=aX.1 f a e;simpa[iq]using this
def zh:∀(f:an) (a e:Int)(h:Nat),(∀d∈f,97<=d.toNat/\d.toNat<=122)->0<=a->a<e->1<=e ->
  0<=f.foldl (λa d=>27*a+((d.toNat:Int)-97) % 256+1) a/\f.foldl (λa d=>27*a+((d.toNat:Int)-97) % 256+1) a<e*27 ^ c f
 |[],a,e,_,_,l,j,_=>by grind
 |d::f,a,e,h,g,l,j,q=>by obtain⟨p,n⟩:=g d Q;have:=zh f (27*a+((d.toNat:Int)-97) % 256+1) (e*27) h (λo r=>g o J) x x x;grind[Int.mul_assoc]
def Hl:∀{p:Nat},p<=8->(27:Int) ^ p<=282429536481:=by
 intro p a
 match p,a with
 |0,_|1,_|2,_|3,_|4,_|5,_|6,_|7,_|8,_=>decide
def vy{d:an}(e:cp d=i):0<=fG d/\fG d<282429536481:=by simp only[cp,ct,bM]at e;obtain⟨f,a⟩:=zh d 0 1 0 (o1 e.2) x x x;have:=Hl e.1.2;rw[Int.one_mul]at a;exact⟨f,Int.lt_of_lt_of_le a this⟩
def Nu:∀a:Fin 200,a.val≠0->Nat.gcd 999999999989 a.val=1:=xR
def SV{t:Nat}{P a d:Int}(e:P=(t:Int))(h:P ∣ a*d)(l:0<a)(o:a<P)(j:Nat.gcd t d.natAbs=1):False:=by
 subst e;have g:t ∣ a.natAbs*d.natAbs:=by have:=Int.natAbs_dvd_natAbs.2 h;grind[Int.natAbs_mul,Int.natAbs_natCast]
 have f:t ∣ a.natAbs:=Nat.Coprime.dvd_of_dvd_mul_right j g;have n:=Nat.le_of_dvd x f;omega
def NZ{a d P:Int}(e:a % P=d % P):P ∣ a-d:=Int.dvd_of_emod_eq_zero (by rw[Int.sub_emod,e,Int.sub_self,Int.zero_emod])
def nI(d:an):Int:=d.foldr (λa e=>27*e+((a.toNat:Int)-97) % 256+1) 0
def Ec:∀a:an,0<=nI a
 |[]=>by simp[nI]
 |d::a=>by have:=Ec a;simp only[nI,List.foldr_cons]at *;omega
def Eb:∀{U be:an},(∀a∈U,97<=a.toNat/\a.toNat<=122)->(∀a∈be,97<=a.toNat/\a.toNat<=122)->nI U=nI be->U=be
 |[],[],_,_,_=>rfl
 |[],u::be,_,d,e|u::be,[],d,_,e=>by have:=Ec be;simp only[nI,List.foldr_cons,List.foldr_nil]at *;omega
 |a::U,u::be,g,d,e=>by have l:=g a Q;have n:=d u Q;have h:=Eb (U:=U) (be:=be) (λf j=>g f J) (λf j=>d f J);simp only[nI,List.foldr_cons]at e h;grind[UInt8.toNat_inj]
def Nm{a e:an}(g:cp a=i)(h:cp e=i)(l:fG a=fG e):a=e:=by
 have j:∀a,fG a=nI a.reverse:=λa=>by simp[fG,nI,List.foldr_reverse]
 simp only[cp,ct]at g h;rw[j,j]at l;exact List.reverse_inj.1 (Eb (λf d=>o1 g.2 f (List.mem_reverse.1 d)) (λf d=>o1 h.2 f (List.mem_reverse.1 d)) l)
def wz(p:cB o=i){j l:an}(q:cp j=i)(r:cp l=i)(h:dF o j=dF o l):j=l:=by
 refine Nm q r ?_;simp only[cB,ct,bM]at p;obtain⟨s,n⟩:=vy q;obtain⟨g,d1⟩:=vy r;have key:∀e f:Int,0<=e->0<=f->e<282429536481->e>f->(e*(2*o+1)+o*7919) % 999999999989=(f*(2*o+1)+o*7919) % 999999999989->False:=by intro e f z y w v h;have d:=NZ h;rw[show(e*(2*o+1)+o*7919)-(f*(2*o+1)+o*7919)=(e-f)*(2*o+1) by grind]at d;have u:(2*o+1).natAbs<200:=x;exact SV (t:=999999999989) a d x x (Nu ⟨_,u⟩ J)
 rcases Int.lt_trichotomy (fG j) (fG l)with d|d|d
 .exact(key _ _ g s d1 d h.symm).elim
 .exact d
 exact(key _ _ s g n d h).elim
theorem U6{a:an}(j:dP a=i)(d:Nat):e8 (a++aW d 46)=a:=by
 have l:∀d,List.dropWhile (·==46) ((aW d (46:UInt8))++a.reverse)=a.reverse:=by
  intro d;induction d with
  |zero=>
   simp only[List.replicate_zero,nx];cases n:a.reverse with
   |nil=>rfl
   |cons e o=>
    have h:e∈a:=List.mem_reverse.1 J;have:=o1 j e h;have f:(e==46)=m:=by simp only[gn];rintro rfl;grind
    simp[f]
  |succ d g=>simpa[List.replicate_succ]using g
 unfold e8;grind
def Th{a:an}(d:cp a=i):gT (eY a)=b a:=by
 have f:dP a=i:=by simp only[cp,ct]at d;exact d.2
 have g:eY a=a++aW (eT (c a)-c a) 46:=by simp[eY,d]
 have e:e8 (eY a)=a:=by grind[U6]
 simp[gT,e,d]
def iw(a:e bq)(d f:Nat):e bq:=(a.set d (a.getD f (0,[]))).set f (a.getD d (0,[]))
def mi(a:e bq)(d f:Nat):Bool:=decide ((a.getD d (0,[])).1<(a.getD f (0,[])).1)
def h8:Nat->e bq->Nat->e bq
  |0,d,_=>d
  |f+1,d,a=>if(a-1) / 2=a then d else if mi d a ((a-1) / 2)=i then h8 f (iw d ((a-1) / 2) a) ((a-1) / 2)else d
def io(d:e bq)(a f:Nat):Nat:=if 2*a+2<f/\mi d (2*a+2) (2*a+1)=i then 2*a+2 else 2*a+1
def gr:Nat->e bq->Nat->Nat->e bq
  |0,a,_,_=>a
  |g+1,a,d,f=>if f<=2*d+1 then a else if mi a (io a d f) d=i then gr g (iw a d (io a d f)) (io a d f) f else a
def gU(a:e bq)(d:bq):e bq:=h8 (c a+1) (a++[d]) (c a)
def gw(a:e bq):e bq:=gr (c a) (iw a 0 (c a-1)) 0 (c a-1)
def jT:Nat->e bq->e bq
  |0,_=>[]
  |d+1,a=>if c a=0 then[]else(gw a).getD (c a-1) (0,[])::jT d ((gw a).take (c a-1))
def kQ(a:e bq):e bq:=jT (c a) (a.foldl gU [])
theorem og(a:e bq)(d f:Nat):c (iw a d f)=c a:=by simp[iw]
def IP:∀a d e,c (h8 a d e)=c d
  |0,_,_=>rfl
  |a+1,d,e=>by unfold h8;split;rfl;split;rw[IP a,og];rfl
def EF:∀a d e f,c (gr a d e f)=c d
  |0,_,_,_=>rfl
  |a+1,d,e,f=>by unfold gr;split;rfl;split;rw[EF a,og];rfl
def Hn(a:e bq)(d:bq):c (gU a d)=c a+1:=by simp[gU,IP]
theorem Hi(a:e bq):c (gw a)=c a:=by simp[gw,EF,og]
def U_{a:e bq}(h:f<c a)(j:y<c a){d:bq}:d∈iw a f y->d∈a:=by intro g;unfold iw at g;grind
def A5(a:bq):gU [] a=[a]:=cF
def A6(a d:bq):gU [a] d=if d.1<a.1 then[d,a]else[a,d]:=Cn
def Hm(a e d:bq):gU [a,e] d=if d.1<a.1 then[d,e,a]else[a,e,d]:=Cn
def Tz(d e f a:bq):gU [d,e,f] a=if a.1<e.1 then(if a.1<d.1 then[a,d,f,e]else[d,a,f,e])else[d,e,f,a]:=Cn
def A4(d:Nat){a a1:e bq}{A:bq}(g:c a=p+1)(f:gw a=a1++[A])(h:c a1=p):jT (d+1) a=A::jT d a1:=by rw[jT,bp x,f];grind
def Tr(a:bq):jT 1 [a]=[a]:=cF
def Hj(d e:bq):jT 2 [d,e]=[d,e]:=by rw[A4 1 (a1:=[e]) (A:=d) (p:=1) a cF a,Tr]
def Hk(f d e:bq):jT 3 [f,d,e]=if d.1<e.1 then[f,d,e]else[f,e,d]:=by rw[A4 2 (a1:=if d.1<e.1 then[d,e]else[e,d]) (A:=f) (p:=2) a (by simp[gw,gr,iw,io,mi];split<;>rfl) (by split<;>rfl)];split<;>rw[Hj]
def Ts(g d e f:bq):jT 4 [g,d,e,f]=g::jT 3 (if e.1<d.1 then(if e.1<f.1 then[e,d,f]else[f,d,e])else if d.1<f.1 then[d,f,e]else[f,d,e]):=by rw[A4 3 (a1:=if e.1<d.1 then(if e.1<f.1 then[e,d,f]else[f,d,e])else if d.1<f.1 then[d,f,e]else[f,d,e]) (A:=g) (p:=3) a ?_ (by split<;>split<;>rfl)];by_cases h:e.1<d.1<;>by_cases j:e.1<f.1<;>by_cases l:d.1<f.1<;>simp[gw,gr,iw,io,mi,h,j,l]
theorem TD(l:e bq)(t:c l<=4)(j:l.Pairwise λa d=>a.1≠d.1):kQ l=l.foldl eo []:=by
  match l,t with
  |[],_=>rfl
  |[a],_=>exact cF
  |[a,d],_=>
    simp at j;simp only[kQ,List.foldl,A5,A6,eo,fR,gX];split<;>simp[Hj]
  |[a,d,f],_=>
    simp at j;obtain⟨⟨y,x⟩,z⟩:=j;simp only[kQ,List.foldl,A5,A6,eo,fR,gX];by_cases q:d.1<a.1<;>by_cases h:f.1<a.1<;>by_cases r:f.1<d.1<;>first|omega |
      (have p:(a.1<d.1)=¬(d.1<a.1):=by grind
       have n:(a.1<f.1)=¬(f.1<a.1):=J;have o:(d.1<f.1)=¬(f.1<d.1):=J
       simp[q,h,r,p,n,o,Hm,Hk,eo])
  |[a,d,f,g],_=>
    simp at j;obtain⟨⟨y,x,z⟩,⟨D,E⟩,C⟩:=j;simp only[kQ,List.foldl,A5,A6,eo,fR,gX];by_cases q:d.1<a.1<;>by_cases h:f.1<a.1<;>by_cases r:f.1<d.1<;>by_cases s:g.1<a.1<;>by_cases B:g.1<d.1<;>by_cases w:g.1<f.1<;>first|omega |
      (have p:(a.1<d.1)=¬(d.1<a.1):=by grind
       have n:(a.1<f.1)=¬(f.1<a.1):=J;have o:(d.1<f.1)=¬(f.1<d.1):=J;have u:(a.1<g.1)=¬(g.1<a.1):=J;have A:(d.1<g.1)=¬(g.1<d.1):=J;have v:(f.1<g.1)=¬(g.1<f.1):=J
       simp[q,h,r,s,B,w,p,n,o,u,A,v,Hm,Tz,Ts,Hk,eo])
def GA{a:Type}[BEq a][LawfulBEq a]:∀(L d:e a),L.Nodup->(∀f∈L,f∈d)->c L<=c d
 |[],d,_,_=>jG _
 |g::L,d,q,l=>by
  obtain⟨p,o⟩:=u9.1 q;have j:=l g iH;have:=GA L (d.erase g) o λf h=>by have:f≠g:=λn=>p (n▸h);exact(List.mem_erase_of_ne this).2 (l f (k2 _ h))
  have n:=List.length_erase_of_mem j;have:=List.length_pos_of_mem j;simp only[fR];omega
section
variable {q:al R}
def yO:bB:=λargs a=>match args,a with
 |[.k (.S (.c (.R d)))],[]=>b (bm (fi d),[],[])
 |_,_=>k
def Vj:bI q 46 yO:=by intro args g d e a f _;unfold yO at f;grind[Qp]
def vs:bB:=λargs a=>match args,a with
 |[.k (.S (.c (.R d)))],[]=>b (bm (fa d),[],[])
 |_,_=>k
def In:bI q 47 vs:=by intro args g d e a f _;unfold vs at f;grind[Q4]
def yP:bB:=λargs e=>match args,e with
 |[.k (.S (.c (.R a))),.k (.S (.c (.R d)))],[]=>b (bm (ka a d),[],[a≠[],d≠[]])
 |_,_=>k
def Vk:bI q 48 yP:=by
 intro args h f g e d a;unfold yP at d;split at d
 .cases d;exact Oo _ _ a.1 a.2
 grind
def Et:e (Nat×bB):=(46,yO)::(47,vs)::(48,yP)::Eh
def kC:a3 q Et:=a3.cons Vj (a3.cons In (a3.cons Vk oM))
def b1(d:e a')(a:Nat):an:=(d.getD a ([],[])).1
def ga(d:e a')(a:Nat):an:=(d.getD a ([],[])).2
def iY(d:e a')(a:Nat):(d.getD a bf.N).1=b1 d a:=rfl
def r_(d:e a')(a:Nat):(d.getD a bf.N).2=ga d a:=rfl
def g'(d:e a')(a:Nat):Bool:=fi (b1 d a)&&fa (ga d a)&&(a==0||aK (b1 d (a-1)) (b1 d a))&&(aI a).all λf=>!ka (b1 d f) (b1 d a)
def dm(a:e a'):Bool:=(aI (c a)).all (g' a)&&decide (c a<=6)
def g0{d:Nat->Bool}:(aI p).all d=i↔∀a,a<p->d a=i:=J
def wO{a:an}(d:fi a=i):a≠[]:=by rintro rfl;exact cF
def xu{a:e a'}(g:f<c a)(h:g' a f=m):dm a=m:=by
 cases d:dm a with
 |false=>rfl
 |true=>
  simp only[dm,ct]at d;grind
def Ff(f:e a'):ad q 18 [bf.M f] [] (bm (dm f)) []:=by
 refine ad.E func18 rfl λz=>?_;have B:=z.M 0 a;refine cu kC a M (g.dV (λd=>d<=c f/\∀h,h<d->g' f h=i) (λd:Nat=>[(0,bf.M f),(3,S d)]) (λ_=>[]) (λd=>c f-d) 0 a xM ⟨by omega,by omega⟩ a ?_);rintro d ⟨w,y⟩;by_cases n:d<c f
 .by_cases j:fi (b1 f d)=i
  .by_cases N:fa (ga f d)=i
   .by_cases p:d=0∨aK (b1 f (d-1)) (b1 f d)=i
    .apply g.b5 [(0,bf.M f),(3,S d),(4,S 0)] []
     .intro cI;by_cases r:d=0
      .refine a4 kC [8,16,24,-29] a ?_ (cI _ _ a ?_)
       .simp[-av,n,iY,r_,j,N];omega
       simp[b4]
      have X:=p.resolve_left r;have u:a9 .i64 ((d:Int)-1):=cF;have a2:((d:Int)-1).toNat=d-1:=x;refine a4 kC [8,16,24,29,-42] a Ks (cI _ _ a ?_);simp[b4]
     ·
      have A:g' f d=(aI d).all (λh=>!ka (b1 f h) (b1 f d)):=by
       rcases p with rfl|X
       .simp[g',j,N]
       simp[g',j,N,X]
      refine g.dV (λh=>h<=d/\∀s,s<h->ka (b1 f s) (b1 f d)=m) (λh:Nat=>[(0,bf.M f),(3,S d),(4,S h)]) (λ_=>[]) (λh=>d-h) 0 a xM ⟨by omega,by omega⟩ a ?_;rintro h ⟨D,C⟩;by_cases o:h<d
      .have l:fi (b1 f h)=i:=by have:=y h o;simp only[g',ct]at this;exact this.1.1.1
       cases t:ka (b1 f h) (b1 f d)with
       |true=>
        refine a4 kC [47,60] a ?_ (g.bD (g.dk (b3.zero a ?_)))
        .simp[-av,n,o,iY,t,wO j,wO l];omega
        have:g' f d=m:=J;simp[xu n this]
       |false=>
        refine a4 kC [47,-60] a ?_ (g.again (h+1) a ?_ ?_ ?_ a)
        .simp[-av,n,o,iY,t,wO j,wO l,a9];omega
        .simp[b4]
        .grind
        omega
      have o:h=d:=x;subst o;refine a4 kC [-47] a Q (g.a_ a a ?_);exact cu kC a cF (g.again (h+1) a xM J x a)
    have r:d≠0:=λv=>p (.inl v);have X:aK (b1 f (d-1)) (b1 f d)=m:=J;have u:a9 .i64 ((d:Int)-1):=cF;have a2:((d:Int)-1).toNat=d-1:=x;refine a4 kC [8,16,24,29,42] a Ks (g.bD (b3.zero a ?_));simp[V,xu n (by simp[g',r,X])]
   refine a4 kC [8,16,-24] a ?_ (g.bD (b3.zero a ?_))
   .simp[-av,n,iY,r_,j,N]
   simp[V,xu n (by simp[g',N])]
  refine a4 kC [8,-16] a ?_ (g.bD (b3.zero a ?_))
  .simp[-av,n,iY,j]
  simp[V,xu n (by simp[g',j])]
 refine a4 kC [-8] a cb (g.a_ a a ?_);refine cu kC a M (g.an a ?_);simp only[V,dm];grind
end
section
open Go.Proofs Go.Conc.Lib
def pf:WgLink:={add:=186,done:=188,wait:=190,relMerge:=216,disable:=217,enable:=218,inBubble:=219,associate:=220,fatal:=221,uOr:=222,uAdd:=223,raceRead:=224,uLoad:=225,uStore:=226,disassociate:=227,semrelease:=228,acquire:=230,isAssociated:=231,uCas:=232,raceWrite:=233,semacquire:=234,orU64:=247,addU64:=248,loadU64:=249,storeU64:=250,casU64:=253,tWgP:=279,tUP:=118,tAssoc:=281,tWg:=254,tAU:=252,tU64:=237,tUint:=198,tU32:=235,tPU32:=285,tPAU:=311,tPU64:=313,tNoCopy:=248,tANoCopy:=249,tAlign64:=250}
def uw:WgLib R pf where
 f_add:=Tryz.func186.trans (er b bO)
 f_done:=Tryz.func188.trans (er b bO)
 f_wait:=Tryz.func190.trans (er b bO)
 f_relMerge:=Tryz.func216.trans (er b bO)
 f_disable:=Tryz.func217.trans (er b bO)
 f_enable:=Tryz.func218.trans (er b bO)
 f_inBubble:=Tryz.func219.trans (er b bO)
 f_associate:=Tryz.func220.trans (er b bO)
 f_fatal:=Tryz.func221.trans (er b bO)
 f_uOr:=Tryz.func222.trans (er b bO)
 f_uAdd:=Tryz.func223.trans (er b bO)
 f_raceRead:=Tryz.func224.trans (er b bO)
 f_uLoad:=Tryz.func225.trans (er b bO)
 f_uStore:=Tryz.func226.trans (er b bO)
 f_disassociate:=Tryz.func227.trans (er b bO)
 f_semrelease:=Tryz.func228.trans (er b bO)
 f_acquire:=Tryz.func230.trans (er b bO)
 f_isAssociated:=Tryz.func231.trans (er b bO)
 f_uCas:=Tryz.func232.trans (er b bO)
 f_raceWrite:=Tryz.func233.trans (er b bO)
 f_semacquire:=Tryz.func234.trans (er b bO)
 f_orU64:=Tryz.func247.trans (er b bO)
 f_addU64:=Tryz.func248.trans (er b bO)
 f_loadU64:=Tryz.func249.trans (er b bO)
 f_storeU64:=Tryz.func250.trans (er b bO)
 f_casU64:=Tryz.func253.trans (er b bO)
 underlying_tWgP:=Tryz.underlying279
 runUnderlying_tWgP:=Tryz.runUnderlying279
 sizeOf_tWgP:=Tryz.sizeOf279
 isAgg_tWgP:=Tryz.isAgg279
 zeroValue_tWgP:=Tryz.zeroValue279
 underlying_tUP:=Tryz.underlying118
 runUnderlying_tUP:=Tryz.runUnderlying118
 sizeOf_tUP:=Tryz.sizeOf118
 isAgg_tUP:=Tryz.isAgg118
 zeroValue_tUP:=Tryz.zeroValue118
 underlying_tI32:=Tryz.underlying281
 runUnderlying_tI32:=Tryz.runUnderlying281
 sizeOf_tI32:=Tryz.sizeOf281
 isAgg_tI32:=Tryz.isAgg281
 zeroValue_tI32:=Tryz.zeroValue281
 underlying_tWg:=Tryz.underlying254
 runUnderlying_tWg:=Tryz.runUnderlying254
 sizeOf_tWg:=Tryz.sizeOf254
 isAgg_tWg:=Tryz.isAgg254
 zeroValue_tWg:=Tryz.zeroValue254
 underlying_tAU:=Tryz.underlying252
 runUnderlying_tAU:=Tryz.runUnderlying252
 sizeOf_tAU:=Tryz.sizeOf252
 isAgg_tAU:=Tryz.isAgg252
 zeroValue_tAU:=Tryz.zeroValue252
 underlying_tU64:=Tryz.underlying237
 runUnderlying_tU64:=Tryz.runUnderlying237
 sizeOf_tU64:=Tryz.sizeOf237
 isAgg_tU64:=Tryz.isAgg237
 zeroValue_tU64:=Tryz.zeroValue237
 underlying_tSh:=Tryz.underlying198
 runUnderlying_tSh:=Tryz.runUnderlying198
 sizeOf_tSh:=Tryz.sizeOf198
 isAgg_tSh:=Tryz.isAgg198
 zeroValue_tSh:=Tryz.zeroValue198
 underlying_tU32:=Tryz.underlying235
 runUnderlying_tU32:=Tryz.runUnderlying235
 sizeOf_tU32:=Tryz.sizeOf235
 isAgg_tU32:=Tryz.isAgg235
 zeroValue_tU32:=Tryz.zeroValue235
 underlying_tPU32:=Tryz.underlying285
 runUnderlying_tPU32:=Tryz.runUnderlying285
 sizeOf_tPU32:=Tryz.sizeOf285
 isAgg_tPU32:=Tryz.isAgg285
 zeroValue_tPU32:=Tryz.zeroValue285
 underlying_tPAU:=Tryz.underlying311
 runUnderlying_tPAU:=Tryz.runUnderlying311
 sizeOf_tPAU:=Tryz.sizeOf311
 isAgg_tPAU:=Tryz.isAgg311
 zeroValue_tPAU:=Tryz.zeroValue311
 underlying_tPU64:=Tryz.underlying313
 runUnderlying_tPU64:=Tryz.runUnderlying313
 sizeOf_tPU64:=Tryz.sizeOf313
 isAgg_tPU64:=Tryz.isAgg313
 zeroValue_tPU64:=Tryz.zeroValue313
 underlying_t0:=Tryz.underlying0
 runUnderlying_t0:=Tryz.runUnderlying0
 sizeOf_t0:=Tryz.sizeOf0
 isAgg_t0:=Tryz.isAgg0
 zeroValue_t0:=Tryz.zeroValue0
 underlying_t3:=Tryz.underlying3
 runUnderlying_t3:=Tryz.runUnderlying3
 sizeOf_t3:=Tryz.sizeOf3
 isAgg_t3:=Tryz.isAgg3
 zeroValue_t3:=Tryz.zeroValue3
 underlying_t4:=Tryz.underlying4
 runUnderlying_t4:=Tryz.runUnderlying4
 sizeOf_t4:=Tryz.sizeOf4
 isAgg_t4:=Tryz.isAgg4
 zeroValue_t4:=Tryz.zeroValue4
 underlying_t9:=Tryz.underlying9
 runUnderlying_t9:=Tryz.runUnderlying9
 sizeOf_t9:=Tryz.sizeOf9
 isAgg_t9:=Tryz.isAgg9
 zeroValue_t9:=Tryz.zeroValue9
 underlying_t20:=Tryz.underlying20
 runUnderlying_t20:=Tryz.runUnderlying20
 sizeOf_t20:=Tryz.sizeOf20
 isAgg_t20:=Tryz.isAgg20
 zeroValue_t20:=Tryz.zeroValue20
 underlying_t21:=Tryz.underlying21
 runUnderlying_t21:=Tryz.runUnderlying21
 sizeOf_t21:=Tryz.sizeOf21
 isAgg_t21:=Tryz.isAgg21
 zeroValue_t21:=Tryz.zeroValue21
 room_tWg:=bO
 room_tU32:=bO
end
end R1
def bW.imp{n l:s}{f a:e s}(o:∀j,bo h d j n->bo h d j l)(p:∀z,bW h d z f->bW h d z a):∀z,bW h d z (n::f)->bW h d z (l::a)
 |[],g=>g.elim
 |j::z,g=>⟨o j g.1,p z g.2⟩
abbrev vH(a:a'):s:=.k (.agg [.c (.R a.1),.c (.R a.2)])
abbrev Iv(a:an)(d:Bool):s:=.C [.S (.c (.R a)),.S (.c (.bool d))]
abbrev lG(a:e a')(d:Bool):s:=.C [.S (.c (.M m 2 (c a) (bf.fn a))),.S (.c (.bool d))]
namespace R1
variable {q:al R}
def s_:bB:=λargs e=>match args,e with
 |[f],[]=>match i0 2 f with
  |none=>k
  |some (a,d)=>b (bm (dm (bf.ao a d)),[],[bf.bV a d])
 |_,_=>k
def BE:bI q 18 s_:=by
 intro args l f g e a d;unfold s_ at a;split at a
 .split at a
  .cases a
  rename_i n o h;cases a;exact(Ff _ ).args (λ_ z=>bW.imp (λ_=>bf.b8 h d) (λ_ j=>j) z)
 grind
def hi:e a'->an->Option an
 |[],_=>k
 |a::f,d=>if a.1==d then b a.2 else hi f d
def RG{a:e a'}{g:an}:∀{f:Nat},f<c a->(∀d,d<f->b1 a d≠g)->b1 a f=g->hi a g=b (ga a f):=by
 induction a with
 |nil=>grind
 |cons o r l=>
  intro f q j h;cases f with
  |zero=>simp[b1]at h;simp[hi,h,ga]
  |succ f=>
   have n:o.1≠g:=by have:=j 0 x;exact cF
   simp only[hi,gZ,n,cr];exact l (f:=f) J (λd p=>by have:=j (d+1) x;exact cF) cF
def Ev:e (Nat×bB):=(18,s_)::Et
def No:a3 q Ev:=a3.cons BE kC
end R1
def dO.aZ(d:dO α)(a:e α)(g:α):b4 (c a+1) (b_ (c a) (d.fn a) (λf=>[d.a1 g].getD f [])) (d.fn (a++[g])):=by intro f h;unfold b_ dO.fn hH;grind
@[simp] theorem b4.same{a:Nat->e D}:b4 p a a:=λ_ _=>rfl
@[simp] theorem b4.nil{a d:Nat->e D}:b4 0 a d:=λg f=>by omega
namespace R1
variable {q:al R}
def jL(f:e a')(d:an):e a':=f.filter λa=>!(a.1==d)
def NM{a:e a'}{U:an}(h:f<c a):jL (a.take (f+1)) U=jL (a.take f) U++(if b1 a f=U then[]else[(b1 a f,ga a f)]):=by
 have g:a.getD f ([],[])=a[f]:=J;have d:(b1 a f,ga a f)=a[f]:=by simp only[b1,ga,g]
 rw[qM,bu h,d];simp only[jL,List.filter_append,Option.toList_some];grind
theorem NK(a:e a')(d:an):c (jL a d)<=c a:=List.length_filter_le _ _
def EQ(w:e a')(U:an)(o:c w<=4000000):ad q 89 [bf.M w,bC U] [] (bf.M (jL w U)) []:=by
 refine ad.E func89 rfl λh=>?_;refine a8 a M (g.bH 5 74 2 a a ?_);refine g.b1 (λf=>f<=c w) (λf:Nat=>[(0,bf.M w),(1,bC U),(6,S f),(5,.k (.S (.q 0 2 (c (jL (w.take f) U)) (bf.fn (jL (w.take f) U)))))]) (λf=>[.q 74 2 (c (jL (w.take f) U)) (bf.fn (jL (w.take f) U))]) (λf=>c w-f) 0 a ?_ a ?_ x ?_
 .simp[b4,jL]
 .simp[b4,jL]
 intro f d;by_cases n:f<c w
 .have t:=NM (U:=U) n;have l:c (jL (w.take f) U)<=4000000:=by grind[NK]
  by_cases j:b1 w f=U
  .rw[bF j,iJ]at t;refine a_ [11,-20] a J_ (g.bI (f+1) a ?_ a ?_ ?_ ?_)
   .rw[t];simp[b4]
   .rw[t];simp[b4]
   .omega
   omega
  rw[bp j]at t;refine a_ [11,20] a ?_ (g.bI (f+1) a ?_ a ?_ ?_ ?_)
  .simp[-av,n,iY,j,a9,show nT.bytes=32 from a];omega
  .exact J3
  .exact J3
  .omega
  omega
 have:f=c w:=x;subst this;refine a_ [-11] a Q (g.a_ a a ?_);refine a8 a M (g.an a ?_);simp[b4]
def yX:bB:=λargs e=>match args,e with
 |[g,.k (.S (.c (.R f)))],[]=>match i0 2 g with
  |none=>k
  |some (a,d)=>b (bf.M (jL (bf.ao a d) f),[],[bf.bV a d,c ((bf.ao a d))<=4000000])
 |_,_=>k
def Vn:bI q 89 yX:=by
 intro args l g h f a d;unfold yX at a;split at a
 .split at a
  .cases a
  rename_i n o j;cases a;exact(EQ _ _ (d.2)).args (λ_ z=>bW.imp (λ_=>bf.b8 j d.1) (bW.imp (λ_ e=>e) (λ_ e=>e)) z)
 grind
def Ew:e (Nat×bB):=(89,yX)::Ev
def Np:a3 q Ew:=a3.cons Vn No
end R1
def jA.gx{args:e s}(n:jA args h)(q:Nat){a:e C}(g:args[q]?=b (.k (.agg a)))(o:Nat){t:Bool}{r:Nat}(f:a[o]?=b (C.c (.M t r p es))):p<=9223372036854775807:=by obtain⟨u,w,l⟩:=n.at g;obtain⟨z,_,d⟩:=l;obtain⟨v,_,j⟩:=bJ.get d f;cases j<;>omega
namespace R1
def mQ{a:Nat->Bool}(d:f<p)(e:a f=m):(aI p).all a=m:=J
def l2{d:Nat->Bool}(e:∀a,a<f->d a=i)(h:d f=i):∀a,a<f+1->d a=i:=λa g=>by grind
end R1
def cS.put(a d:Int):cS->cS
 |.nil=>.aq .nil a d .nil
 |.aq e A g f=>if a<A then .aq (e.put a d) A g f else if A<a then .aq e A g (f.put a d)else .aq e a d f
def cS.ao:cS->e (Int×Int)
 |.nil=>[]
 |.aq a f g d=>a.ao++(f,g)::d.ao
def cS.find(a:Int):cS->Int
 |.nil=>0
 |.aq e d g f=>if a=d then g else if a<d then e.find a else f.find a
namespace R1
theorem TH{a:e cJ}{d:cJ}(h:∀f∈a,f.1<d.1):dW a d=a++[d]:=by
 induction a with
 |nil=>rfl
 |cons l j g=>
  simp only[dW];grind
def Hr{l d:e cJ}{a:cJ}(h:∀f∈l,f.1<a.1):dW (l++d) a=l++dW d a:=by
 induction l with
 |nil=>rfl
 |cons j l g=>
  simp only[sO,dW];grind
def TK{a a1:e cJ}{d:cJ}(h:∀f∈a1,d.1<f.1):dW (a++a1) d=dW a d++a1:=by
 have o:a1.filter (λj=>!(j.1==d.1))=a1:=u5.2 λf n=>by grind
 induction a with
 |nil=>
  cases a1 with
  |nil=>rfl
  |cons g a1=>
   have:=h g iH;simp only[nx,dW];grind
 |cons g a l=>
  simp only[sO,dW];grind
abbrev cS.e0(a:cS):Prop:=a.ao.Pairwise λd e=>d.1<e.1
theorem A9{f g:Int}:∀{w:cS},cS.e0 w->(w.put f g).ao=dW w.ao (f,g)
 |.nil,_=>rfl
 |.aq l e h a1,q=>by
  obtain⟨s,p,t⟩:=pz.1 q;have r:=ia.1 p;have o:∀a∈l.ao,a.1<e:=λa d=>t a d (e,h) iH;simp only[cS.put,cS.ao];split
  .rename_i j;simp only[cS.ao];rw[A9 (w:=l) s,TK (a1:=(e,h)::a1.ao)];grind
  split
  .rename_i _ j;simp only[cS.ao];rw[A9 (w:=a1) r.2,Hr (l:=l.ao) λa d=>by grind];simp only[dW];grind
  have n:f=e:=x;subst n;simp only[cS.ao];rw[Hr (l:=l.ao) λa d=>o a d];simp only[dW];rw[bp Q,List.filter_cons,bp Q,u5.2 λa d=>by grind]
theorem TM{a:e cJ}{f:cJ}(n:a.Pairwise λg d=>g.1<d.1):(dW a f).Pairwise (λg d=>g.1<d.1)/\∀h∈dW a f,h=f∨h∈a:=by
 induction a with
 |nil=>simp[dW]
 |cons d r j=>
  obtain⟨p,l⟩:=ia.1 n;obtain⟨o,q⟩:=j l;simp only[dW];grind[List.pairwise_cons]
def z1{p:Int}:∀{w:cS},cS.e0 w->w.find p=hV w.ao p
 |.nil,_=>rfl
 |.aq d e q o,n=>by obtain⟨h,f,j⟩:=pz.1 n;have g:=ia.1 f;have s:∀a∈d.ao,a.1<e:=λa l=>j a l (e,q) iH;simp only[cS.find,cS.ao];have r:=z1 (p:=p) (w:=d) h;have t:=z1 (p:=p) (w:=o) g.2;unfold hV at *;grind
end R1
namespace R1
section
variable {q:al R}
def jt(d:a')(a:e a'×Bool)(f:an):e a'×Bool:=if a.2=i then a else if aK f d.1=i then a else(a.1++[d],i)
def o7(f:a')(a:e a'×Bool)(d:a'):e a'×Bool:=if d.1=f.1 then a else(a.1++[d],a.2)
def h3(d:a')(a:e a'×Bool)(f:a'):e a'×Bool:=o7 d (jt d a f.1) f
def lx(a:a')(d:e a'):e a'×Bool:=d.foldl (h3 a) ([],m)
def jU(d:e a')(a:a'):e a':=if(lx a d).2=i then(lx a d).1 else(lx a d).1++[a]
theorem ji{a:e a'}(g:f<c a):a[f]=(b1 a f,ga a f):=by have d:a.getD f ([],[])=a[f]:=J;simp only[b1,ga,d]
def TC{d:a'}{a:e a'}(g:f<c a):lx d (a.take (f+1))=h3 d (lx d (a.take f)) (b1 a f,ga a f):=by rw[qM,bu g,ji g];simp[lx]
def Ho(d:a')(a:e a'×Bool)(f:an):(jt d a f).1.length<=c a.1+1:=xP
def TB(d:a')(a:e a'×Bool)(f:a'):(o7 d a f).1.length<=c a.1+1:=by unfold o7;grind
def Hp(d:a'):∀(g:e a')(a:e a'×Bool),(g.foldl (h3 d) a).1.length<=c a.1+2*c g
 |[],a=>by simp
 |f::h,a=>by
  have j:=Hp d h (h3 d a f);have l:=Ho d a f.1;have n:=TB d (jt d a f.1) f;simp only[hx,fR];have:(h3 d a f).1.length<=c a.1+2:=by unfold h3;omega
  omega
abbrev vI(d:Nat)(a:e a'):s:=.k (.S (.q d 2 (c a) (bf.fn a)))
abbrev l3(a:e a'):Y:=.q 74 2 (c a) (bf.fn a)
def QA(w:e a')(ac:a')(E:c w<=4000000):ad q 90 [bf.M w,vH ac] [] (vI 0 (jU w ac)) [l3 (jU w ac)]:=by
 refine ad.E func90 rfl λD=>?_;refine a8 a M (g.bH 5 74 2 a a ?_);let C:Nat->e a'×Bool:=λf=>lx ac (w.take f);have t:∀f,f<=c w->(C f).1.length<=8000000:=by intro f p;have:=Hp ac (w.take f) ([],m);simp at this;show(lx ac (w.take f)).1.length<=_;unfold lx;omega
 refine g.b1 (λf=>f<=c w) (λf:Nat=>[(0,bf.M w),(3,ba 0 0),(7,S f),(5,vI 1 (C f).1),(6,bm (C f).2)]) (λf=>[.cells 74 [.c (.R ac.1),.c (.R ac.2)],l3 (C f).1]) (λf=>c w-f) 0 a ?_ a ?_ x ?_
 .simp[b4,C,lx]
 .simp[b4,C,lx]
 intro f p;by_cases n:f<c w
 .have z:C (f+1)=h3 ac (C f) (b1 w f,ga w f):=TC n;have y:=t f p;generalize C f=d at *;have A:=Ho ac d (b1 w f);apply g.b5 [(0,bf.M w),(3,ba 0 0),(7,S f),(5,vI 1 (jt ac d (b1 w f)).1),(6,bm (jt ac d (b1 w f)).2)] [.cells 74 [.c (.R ac.1),.c (.R ac.2)],l3 (jt ac d (b1 w f)).1]
  .intro cI;cases s:d.2 with
   |true=>
    have o:jt ac d (b1 w f)=d:=xP;rw[o]at cI;refine b6 [12,15,909] a hc (cI _ _ a ?_);exact bx
   |false=>
    cases v:aK (b1 w f) ac.1 with
    |true=>
     have o:jt ac d (b1 w f)=d:=xP;rw[o]at cI;refine b6 [12,-15,-25,909] a ?_ (cI _ _ a ?_)
     .simp[-av,n,iY,v]
     exact bx
    |false=>
     have o:jt ac d (b1 w f)=(d.1++[ac],i):=xP;rw[o]at cI;refine b6 [12,-15,25,909] a ?_ (g.bq _ a ?_ (cI _ _ a ?_))
     .simp[-av,n,iY,v,show nT.bytes=32 from a];omega
     .exact K2
     exact K2
  have u:C (f+1)=o7 ac (jt ac d (b1 w f)) (b1 w f,ga w f):=z;generalize jt ac d (b1 w f)=h at *;by_cases r:b1 w f=ac.1
  .have j:C (f+1)=h:=by rw[u];exact bF r
   refine b6 [-38] a ?_ (g.bI (f+1) a ?_ a ?_ ?_ ?_)
   .simp[-av,n,iY,r,a9];omega
   .simp_all
   .simp_all
   .omega
   omega
  have j:C (f+1)=(h.1++[(b1 w f,ga w f)],h.2):=by rw[u];exact bp r
  refine b6 [38] a ?_ (g.bI (f+1) a ?_ a ?_ ?_ ?_)
  .simp[-av,n,iY,r,a9,show nT.bytes=32 from a];omega
  .exact Kq
  .exact Kq
  .omega
  omega
 have:f=c w:=x;subst this;have B:C (c w)=lx ac w:=J;have y:=t (c w) (bE _);refine a_ [-12] a Q (g.a_ a a ?_);have l:jU w ac=if(C (c w)).2=i then(C (c w)).1 else(C (c w)).1++[ac]:=g3;cases s:(C (c w)).2 with
 |true=>
  rw[s,bF a]at l;refine a_ [46] a Q (g.bq [.cells 74 [.c (.R ac.1),.c (.R ac.2)],l3 (jU w ac)] a dX (g.aQ [1] a dX ?_));grind
 |false=>
  rw[s,bp Q]at l;refine a_ [-46] a ?_ (g.bq [.cells 74 [.c (.R ac.1),.c (.R ac.2)],l3 (jU w ac)] a ?_ (g.aQ [1] a ?_ ?_))
  .simp[show nT.bytes=32 from a];omega
  .exact J1
  .exact J1
  grind
end
end R1
def b4.e6{d a:Nat->e D}:b4 p (b_ 0 d a) a:=λf _=>by simp[b_]
namespace R1
variable {q:al R}
def yY:bB:=λargs g=>match args,g with
 |[h,.k (.agg [.c (.R a),.c (.R d)])],[]=>match i0 2 h with
  |none=>k
  |some (e,f)=>b (vI 0 (jU (bf.ao e f) (a,d)) ,[ l3 (jU (bf.ao e f) (a,d))],[bf.bV e f,c ((bf.ao e f))<=4000000])
 |_,_=>k
def Vo:bI q 90 yY:=by
 intro args l g h f a d;unfold yY at a;split at a
 .split at a
  .cases a
  rename_i n o j;cases a;exact(QA _ _ (d.2)).args (λ_ z=>bW.imp (λ_=>bf.b8 j d.1) (bW.imp (λ_ e=>e) (λ_ e=>e)) z)
 cases a
def Ex:e (Nat×bB):=(90,yY)::Ew
def q6:a3 q Ex:=a3.cons Vo (Np)
def e9(a:e a')(d f:an):e a'×Bool:=
 if dm a=i/\fi d=i/\fa f=i then(if dm (jU a (d,f))=i then(jU a (d,f),i)else(a,m))else([],m)
abbrev Wh(f:Nat)(a:e a')(d:Bool):s:=.C [.S (.q f 2 (c a) (bf.fn a)),.S (.c (.bool d))]
def r9{a:e a'}(d:dm a=i):c a<=6:=by simp only[dm,ct,bM]at d;omega
def Fi(d:e a')(f h:an):ad q 38 [bf.M d,bC f,bC h] [] (Wh 0 (e9 d f h).1 (e9 d f h).2) [l3 (e9 d f h).1]:=by
 refine ad.E func38 rfl λt=>?_;have r:¬(dm d=i/\fi f=i/\fa h=i)->e9 d f h=([],m):=λs=>bp s;cases j:dm d with
 |false=>
  rw[r J];refine a4 q6 [-10] a ?_ ?_
  .simp[bf.aa,bf.ad,j]
  exact B9
 |true=>
  have u:=r9 j;cases l:fi f with
  |false=>
   rw[r J];refine a4 q6 [10,-14] a ?_ ?_
   .simp[bf.aa,bf.ad,j,l]
   exact B9
  |true=>
   cases p:fa h with
   |false=>
    rw[r J];refine a4 q6 [10,14,-19] a ?_ ?_
    .simp[bf.aa,bf.ad,j,l,p]
    exact B9
   |true=>
    have n:e9 d f h=if dm (jU d (f,h))=i then(jU d (f,h),i)else(d,m):=bF ⟨j,l,p⟩;cases o:dm (jU d (f,h))with
    |true=>
     rw[o,bF a]at n;rw[n];refine a4 q6 [10,14,19,29] a ?_ (g.bq [l3 (jU d (f,h))] a ?_ (g.aQ [0] a ?_ ?_))
     .simp[bf.aa,bf.ad,j,l,p,o];omega
     .simp[bf.aa]
     .simp[bf.aa]
     grind
    |false=>
     rw[o,bp Q]at n;rw[n];refine a4 q6 [10,14,19,-29] a ?_ (g.bq [l3 (jU d (f,h)),l3 d] a ?_ (g.aQ [1] a ?_ ?_))
     .simp[bf.aa,bf.ad,j,l,p,o,show nT.bytes=32 from a];omega
     .simp[bf.aa,b4.e6]
     .simp[b4.e6]
     grind
def Fh(f:e a')(d g:an):ad q 38 [bf.M f,bC d,bC g] [] (lG (e9 f d g).1 (e9 f d g).2) []:=
 (Fi f d g).bY a Q a
def yM:bB:=λargs g=>match args,g with
 |[h,.k (.S (.c (.R e))),.k (.S (.c (.R f)))],[]=>match i0 2 h with
  |none=>k
  |some (a,d)=>b (lG (e9 (bf.ao a d) e f).1 (e9 (bf.ao a d) e f).2,[],[bf.bV a d])
 |_,_=>k
def Vi:bI q 38 yM:=by
 intro args l g h f a e;unfold yM at a;split at a
 .split at a
  .cases a
  rename_i n o j;cases a;exact(Fh _ _ _ ).args (λ_ z=>bW.imp (λ_=>bf.b8 j e) (bW.imp (λ_ d=>d) (bW.imp (λ_ d=>d) (λ_ d=>d))) z)
 cases a
def Ey:e (Nat×bB):=(38,yM)::Ex
def Nq:a3 q Ey:=a3.cons Vi (q6)
end R1
def rY(a:e D)(f:Nat):Nat×(Nat->e D):=match cH f a with|some (.M _ _ g d)=>(g,d)|_=>(0,λ_=>[])
def cx:dO Int:={b3:=1,a1:=λd=>[.int .i64 d],cC:=λa=>p' a 0,N:=0,inv:=λ_=>rfl,len:=λ_=>rfl}
def bD:dO an:={b3:=1,a1:=λd=>[.R d],cC:=λa=>uj a 0,N:=[],inv:=λ_=>rfl,len:=λ_=>rfl}
namespace R1
def bS:dO bq:={b3:=2,a1:=λd=>[.int .i64 d.1,.R d.2],cC:=λa=>(p' a 0,uj a 1),N:=(0,[]),inv:=λ_=>rfl,len:=λ_=>rfl}
def eS:dO cJ:={b3:=2,a1:=λd=>[.int .i64 d.1,.int .i64 d.2],cC:=λa=>(p' a 0,p' a 1),N:=(0,0),inv:=λ_=>rfl,len:=λ_=>rfl}
abbrev jW(a:bU):D:=.M m 2 (c a.2) (bS.fn a.2)
def br:dO bU:={b3:=2,a1:=λd=>[.int .i64 d.1,jW d],cC:=λa=>(p' a 0,bS.ao (rY a 1).1 (rY a 1).2),N:=(0,[]),inv:=λd=>by show(d.1,bS.ao (c d.2) (bS.fn d.2))=d;rw[bS.aa],len:=λ_=>rfl}
def cP:dO kY:={b3:=2,a1:=λe=>[.R e.1,.M m 1 (c e.2) (cx.fn e.2)],cC:=λa=>(uj a 0,cx.ao (rY a 1).1 (rY a 1).2),N:=([],[]),inv:=λd=>by show(d.1,cx.ao (c d.2) (cx.fn d.2))=d;rw[cx.aa],len:=λ_=>rfl}
def cG:dO fE:={b3:=2,a1:=λe=>[.int .i64 e.1,.M m 2 (c e.2) (cP.fn e.2)],cC:=λa=>(p' a 0,cP.ao (rY a 1).1 (rY a 1).2),N:=(0,[]),inv:=λd=>by show(d.1,cP.ao (c d.2) (cP.fn d.2))=d;rw[cP.aa],len:=λ_=>rfl}
def bV:dO (Int×Int):=eS
abbrev l9(a:bU):s:=.k (.agg [.c (.int .i64 a.1),.c (jW a)])
abbrev vF(a:Option an):s:=.k (.agg [.c (.R (a.getD [])),.c (.bool a.isSome)])
end R1
structure i2(α:Type) where
 a1:α->s
 dI:s->Option (α×e Prop)
 ok:∀{N t r},dI N=b (t,r)->V r->∀{h:e Y} {d:aj} {ai:I},bo h d ai N->bo h d ai (a1 t)
def dc:i2 Int:=⟨S,λa=>match a with|.k (.S (.c (.int .i64 d)))=>b (d,[])|_=>k,λ{a e g} f _ _ _ _ h=>by grind⟩
def dT:i2 an:=⟨bC,λa=>match a with|.k (.S (.c (.R d)))=>b (d,[])|_=>k,λ{a e g} f _ _ _ _ h=>by grind⟩
def fQ(d:dO α):i2 (e α):=⟨d.M,λj=>match i0 d.b3 j with|some (h,a)=>b (d.ao h a,[d.bV h a])|none=>k,λ{j n o} f g _ _ _ l=>by
 split at f
 .rename_i h a he;cases f;exact d.b8 he g l
 .cases f⟩
def qC:i2 (Int×an):=⟨λe=>.k (.agg [.c (.int .i64 e.1),.c (.R e.2)]),λd=>match d with|.k (.agg [.c (.int .i64 a),.c (.R f)])=>b ((a,f),[])|_=>k,λ{d a h} g _ _ _ _ j=>by grind⟩
def qB:i2 (Int×Int):=⟨λe=>.k (.agg [.c (.int .i64 e.1),.c (.int .i64 e.2)]),λd=>match d with|.k (.agg [.c (.int .i64 a),.c (.int .i64 f)])=>b ((a,f),[])|_=>k,λ{d a h} g _ _ _ _ j=>by grind⟩
def jD(g:dO α):i2 (Int×e α):=⟨λo=>.k (.agg [.c (.int .i64 o.1),.c (.M m g.b3 (c o.2) (g.fn o.2))]),λq=>match q with
 |.k (.agg [.c (.int .i64 p),.c r])=>match i0 g.b3 (.k (.S (.c r)))with|some (n,f)=>b ((p,g.ao n f),[g.bV n f])|none=>k
 |_=>k,λ{q p v} j l _ d _ u=>by
 split at j
 .split at j
  .rename_i n f he;cases j;obtain⟨z,s,a⟩:=u
   match z,a with
   |[],a=>exact a.elim
   |[_],a=>exact a.2.elim
   |_::_::_::_,a=>exact a.2.2.elim
   |[w,t],a=>exact⟨_,s,a.1,g.b8 (h:=[]) (d:=d) (ai:=t) he l a.2.1,M⟩
  cases j
 .cases j⟩
def df(f:i2 α)(a:α->s)(pre:α->e Prop):bB:=λargs g=>match args,g with
 |[h],[]=>match f.dI h with
  |some (d,j)=>b (a d,[],gh j (pre d))
  |none=>k
 |_,_=>k
def eK{d:Type}(h:i2 α)(j:i2 d)(a:α->d->s)(pre:α->d->e Prop):bB:=λargs l=>match args,l with
 |[n,o],[]=>match h.dI n with
  |some (f,p)=>match j.dI o with
   |some (g,q)=>b (a f g,[],gh p (gh q (pre f g)))
   |none=>k
  |none=>k
 |_,_=>k
def jJ{d f:Type}(l:i2 α)(n:i2 d)(o:i2 f)(a:α->d->f->s)(pre:α->d->f->e Prop):bB:=λargs p=>match args,p with
 |[q,r,t],[]=>match l.dI q with
  |some (g,u)=>match n.dI r with
   |some (h,v)=>match o.dI t with
    |some (j,w)=>b (a g h j,[],gh u (gh v (gh w (pre g h j))))
    |none=>k
   |none=>k
  |none=>k
 |_,_=>k
section
variable {q:al P}{ac:ar}{f y:Type}{C:i2 α}{bR:i2 f}{D:i2 y}
def bI.a3{d:α->s}{pre:α->e Prop}(o:∀g,V (pre g)->ad q ac [C.a1 g] [] (d g) []):bI q ac (df C d pre):=by
 intro args p h n l a f;unfold df at a;split at a
 .split at a
  .rename_i t g r j;cases a;rw[V.W]at f;exact(o g f.2).args λu z=>bW.imp (λ_ h=>C.ok j f.1 h) (λ_ h=>h) z
  cases a
 cases a
def bI.bf{g:α->f->s}{pre:α->f->e Prop}(p:∀l j,V (pre l j)->ad q ac [C.a1 l,bR.a1 j] [] (g l j) []):bI q ac (eK C bR g pre):=by
 intro args t h o n a d;unfold eK at a;split at a
 .split at a
  .rename_i v w l r u;split at a
   .rename_i j x X;cases a;rw[V.W,V.W]at d;exact(p l j d.2.2).args λy z=>bW.imp (λ_ h=>C.ok u d.1 h) (bW.imp (λ_ h=>bR.ok X d.2.1 h) (λ_ h=>h)) z
   cases a
  cases a
 cases a
def bI.cJ{h:α->f->y->s}{pre:α->f->y->e Prop}(v:∀n j u,V (pre n j u)->ad q ac [C.a1 n,bR.a1 j,D.a1 u] [] (h n j u) []):bI q ac (jJ C bR D h pre):=by
 intro args x g t p a d;unfold jJ at a;split at a
 .split at a
  .rename_i A B X n r o;split at a
   .rename_i j E w;split at a
    .rename_i u F l;cases a;rw[V.W,V.W,V.W]at d;exact(v n j u d.2.2.2).args λI z=>bW.imp (λ_ g=>C.ok o d.1 g) (bW.imp (λ_ g=>bR.ok w d.2.1 g) (bW.imp (λ_ g=>D.ok l d.2.2.1 g) (λ_ g=>g))) z
    cases a
   cases a
  cases a
 cases a
end
namespace R1
def k'(f:e s)(a:s):bB:=λargs d=>match d with|[]=>b (a,[],[args=f])|_=>k
def nh{f:al R}{h:ar}{g:e s}{d:s}(p:ad f h g [] d []):bI f h (k' g d):=by
 intro args o q l j a n;unfold k' at a;split at a
 .cases a;simp_all
 cases a
def qZ(h:e s)(d:e Y)(a:s)(f:e Y):bB:=λargs g=>b (a,f,[args=h,g=d])
def um{h:al R}{l:ar}{j:e s}{d f:e Y}{a:s}(r:ad h l j d a f):bI h l (qZ j d a f):=by intro args q t o n g p;cases g;simp_all
end R1
namespace R1
section
variable {q:al R}
def PA(d:Int):ad q 55 [S d] [] (bm (cB d)) []:=by
 refine ad.E func55 rfl λf=>?_;by_cases e:1<=d
 .by_cases j:d<=99
  .refine a_ [4,7] a bx (g.an a ?_);simp[cB,e,j]
  refine a_ [4,-7] a bx (g.an a ?_);simp[cB,e,j]
 refine a_ [-4] a cb (g.an a ?_);simp[cB,e]
def t55:bI q 55 (df dc (λa=>bm (cB a)) λ_=>[]):=.a3 λa _=>PA a
def St{a:an}(d:f<c a):dP (a.take (f+1))=(dP (a.take f)&&iq (a.getD f 0)):=by unfold dP;grind[List.take_add_one]
def Av{a:UInt8}:iq a=i↔97<=(a.toNat:Int)/\(a.toNat:Int)<=122:=by simp[iq];omega
def Gm{a:an}(g:f<c a)(e:iq (a.getD f 0)=m):dP a=m:=by
 cases d:dP a with
 |false=>rfl
 |true=>
  have:=aX.1 d (a.getD f 0) J;grind
def PQ(e:an):ad q 79 [bC e] [] (bm (dP e)) []:=by
 refine ad.E func79 rfl λp=>?_;have s:=p.R 0 a;refine a8 a M (g.dV (λd=>d<=c e/\dP (e.take d)=i) (λd:Nat=>[(0,bC e),(5,S (c e)),(6,S d)]) (λ_=>[]) (λd=>c e-d) 0 a Q ⟨by omega,by simp[dP]⟩ a ?_);rintro d ⟨r,n⟩;by_cases f:d<c e
 .by_cases j:c9 e d<97
  .refine a_ [7,12] a ?_ (g.bD (b3.zero a ?_))
   .simp[-av,f,ja,j]
   have:iq (e.getD d 0)=m:=by
    cases l:iq (e.getD d 0)with
    |false=>rfl
    |true=>have:=Av.1 l;unfold c9 at j;omega
   simp[Gm f this]
  by_cases h:c9 e d<=122
  .refine a_ [7,-12,-17] a ?_ (g.again (d+1) a ?_ ?_ ?_ a)
   .simp[-av,f,ja,j,h,a9];grind
   .simp
   .refine⟨by omega,?_⟩;rw[St f,n,gL];exact Av.2 (by unfold c9 at j h;omega)
   omega
  refine a_ [7,-12,17] a ?_ (g.bD (b3.zero a ?_))
  .simp[-av,f,ja,j];grind
  have:iq (e.getD d 0)=m:=by
   cases l:iq (e.getD d 0)with
   |false=>rfl
   |true=>have:=Av.1 l;unfold c9 at h;omega
  simp[Gm f this]
 have o:d=c e:=x;subst o;refine a_ [-7] a Q (g.a_ a a ?_);refine a8 a M (g.an a ?_);simp_all
def VJ:bI q 79 (df dT (λd=>bm (dP d)) λ_=>[]):=.a3 λa _=>PQ a
abbrev Wj:e (Nat×bB):=[(55,df dc (λa=>bm (cB a)) λ_=>[]),(79,df dT (λd=>bm (dP d)) λ_=>[])]
def ze:a3 q Wj:=.cons t55 (.cons VJ .nil)
def Qt(d:an):ad q 155 [bC d] [] (bm (cp d)) []:=by
 refine ad.E func155 rfl λf=>?_;by_cases e:1<=c d
 .by_cases j:c d<=8
  .refine a4 ze [5,9,11] a cb (g.an a ?_);simp[cp,e,j]
  refine a4 ze [5,-9,-11] a cb (g.an a ?_);simp[cp,e,j]
 refine a4 ze [-5,-11] a cb (g.an a ?_);simp[cp,e]
def BD:bI q 155 (df dT (λd=>bm (cp d)) λ_=>[]):=.a3 λa _=>Qt a
def Oq(e:Nat)(j:e<=4000000):ad q 157 [S e] [] (S (eT e)) []:=by
 refine ad.E func157 rfl λn=>?_;by_cases h:e<1
 .refine a_ [5,9] a cb (g.an a ?_);simp[eT,h]
 by_cases f:8<e
 .refine a_ [-5,8] a cb (g.an a ?_);simp[eT,f]
 refine a_ [-5,-8] a cb ?_;have o:eT e=2∨eT e=4∨eT e=8:=Cq;refine g.dV (λd:Nat=>(d=2∨d=4∨d=8)/\d<=eT e) (λd:Nat=>[(0,S e),(3,S d)]) (λ_=>[]) (λd=>8-d) 2 a Q ⟨by simp,by omega⟩ a ?_;rintro d ⟨l,t⟩;by_cases j:d<e
 .exact a_ [12] a ky (g.again (2*d) a cb I_ x a)
 refine a_ [-12] a cb (g.a_ a a ?_);refine a8 a M (g.an a ?_);have:d=eT e:=I_;simp[this]
theorem U7(d:an)(a:UInt8):e8 (d++[a])=if a=46 then e8 d else d++[a]:=by unfold e8;grind[List.dropWhile_cons]
def Ih{d:an}(a:p<c d):e8 (d.take (p+1))=if d.getD p 0=46 then e8 (d.take p)else d.take (p+1):=by grind[List.take_add_one,U7]
theorem Q8(d:an):ad q 242 [bC d,ti 46] [] (bC (e8 d)) []:=by
 refine ad.E func242 rfl λh=>?_;have o:=h.R 0 a;refine a8 a M (g.dV (λp=>p<=c d/\e8 (d.take p)=e8 d) (λp:Nat=>[(0,bC (d.take p)),(1,ti 46)]) (λ_=>[]) (λp=>p) (c d) a Q ⟨by omega,by simp⟩ a ?_);rintro p ⟨r,e⟩;cases p with
 |zero=>
  refine a_ [-7,-16] a Q (g.a_ a a ?_);refine a8 a M (g.an a ?_);have:e8 d=[]:=by rw[<-e];rfl
  simp[this]
 |succ p=>
  have N:c (d.take (p+1))=p+1:=J;have X:c9 (d.take (p+1)) p=c9 d p:=by simp[c9,av,kw]
  have l:=Ih (d:=d) (p:=p) x;have j:((p:Int)+1-1).toNat=p:=x;by_cases f:d.getD p 0=46
  .refine a_ [7,15,16] a ?_ (g.again p a ?_ ?_ ?_ a)
   .have u:c9 d p=46:=by unfold c9;exact bH
    exact Li
   .simp;show(d.take (p+1)).take _=_;grind
   .grind
   simp
  refine a_ [7,-15,-16] a ?_ (g.a_ a a ?_)
  .have u:c9 d p≠46:=by unfold c9;intro n;exact f (sJ.1 J)
   exact Li
  refine a8 a M (g.an a ?_);rw[l,bp f]at e;simp[e]
def Dk:bB:=λargs a=>match args,a with
 |[.k (.S (.c (.R d))),.k (.S (.c (.int .u8 46)))],[]=>b (bC (e8 d),[],[])
 |_,_=>k
def Il:bI q 242 Dk:=by intro args g d e a f _;unfold Dk at f;grind[Q8]
theorem Q7(d:an):ad q 211 [bC d,bC [46]] [] (bC (e8 d)) []:=by
 refine ad.E func211 rfl λh=>?_;by_cases e:d=[]
 .subst e;refine a4 (a3.cons Il .nil) [8,12] a Q (g.an a ?_);exact bH
 refine a4 (a3.cons Il .nil) [-8,-11,-12,16,20,21] a ?_ (g.an a);cases d with
 |nil=>grind
 |cons f j=>simp;decide
def yI:bB:=λargs a=>match args,a with
 |[.k (.S (.c (.R d))),.k (.S (.c (.R [46])))],[]=>b (bC (e8 d),[],[])
 |_,_=>k
def t211:bI q 211 yI:=by intro args g d e a f _;unfold yI at f;grind[Q7]
def Ea{a:an}(d:f<c a):fG (a.take (f+1))=27*fG (a.take f)+(c9 a f-97) % 256+1:=by unfold fG;rw[qM,bu d];simp only[List.foldl_append,Option.toList_some,hx,List.foldl_nil,c9,av,bu d,hO]
def vz{a:an}(e:cp a=i)(l:f<=c a):0<=fG (a.take f)/\fG (a.take f)<282429536481:=by simp only[cp,ct,bM]at e;obtain⟨j,d⟩:=zh (a.take f) 0 1 0 (λh g=>o1 e.2 h (gE g)) x x x;have:=Hl (p:=c (a.take f)) J;rw[Int.one_mul]at d;exact⟨j,Int.lt_of_lt_of_le d this⟩
def Ab{a:an}(d:f<c a):a.getD f 0∈a:=J
abbrev Wk:e (Nat×bB):=[(55,df dc (λa=>bm (cB a)) λ_=>[]),(155,df dT (λd=>bm (cp d)) λ_=>[])]
def nG:a3 q Wk:=.cons t55 (.cons BD .nil)
abbrev zx(a:Int):s:=.C [.S (.c (.int .i64 a)),.S (.c .bk)]
def P5(e:Int)(d:an)(o:cB e=i)(h:cp d=i):ad q 150 [S e,bC d] [] (zx (dF e d)) []:=by
 refine ad.E func150 rfl λz=>?_;have l:=h;simp only[cp,ct,bM]at l;have s:=o;simp only[cB,ct,bM]at s;refine a4 nG [-8,-13] a dX (g.dV (λf=>f<=c d) (λf:Nat=>[(0,S e),(1,bC d),(6,S (fG (d.take f))),(19,S (c d)),(20,S f)]) (λ_=>[]) (λf=>c d-f) 0 a (by simp[fG]) x a ?_);intro f n;by_cases j:f<c d
 .have r:=vz h n;have A:=vz h (f:=f+1) x;have p:=Ea j;refine a_ [21] a ?_ (g.again (f+1) a ?_ ?_ ?_ a)
  .simp only[V,ja,a9];simp[-av,j,ja];have w:=o1 l.2 (d.getD f 0) (Ab j);have t:97<=c9 d f/\c9 d f<=122:=Ct;omega
  .have w:=o1 l.2 (d.getD f 0) (Ab j);have t:97<=c9 d f/\c9 d f<=122:=Ct;have B:(c9 d f-97) % 256=c9 d f-97:=Int.emod_eq_of_lt x x;exact bH
  .grind
  grind
 have p:f=c d:=x;subst p;have r:=vy h;refine a_ [-21] a Q (g.a_ a a ?_);refine a8 a ?_ (g.an a ?_)
 .rw[eB];have v:0<=fG d*(2*e+1):=Int.mul_nonneg r.1 x;have u:fG d*(2*e+1)<=282429536481*199:=Int.mul_le_mul x x x x;generalize fG d*(2*e+1)=y at v u;exact pk
 rw[eB];refine V.W.2 ⟨?_,V.W.2 ⟨a,M⟩⟩;show(_:Int)=_;rw[Int.mul_comm 7919 e];rfl
def BC:bI q 150 (eK dc dT (λa d=>zx (dF a d)) λa d=>[cB a=i,cp d=i]):=.bf λa d e=>P5 a d e.1 e.2
def AJ{o:Z}(l:r.op=.binOp op w o (.const .nilIface) ty){q:Bool}{x:Array (String×ab)}(v:P.underlying w=b (.interface x))(z:η o=aL .bk)(y:η (.const .nilIface)=aL .bk)(p:hn op i=b q):aR P r η h (aL (.bool q)) h:=by
 refine .aS λf t C u=>?_;have e:=u o;have d:=u (.const .nilIface);rw[z]at e;rw[y]at d;replace e:=b2 e;replace d:=b2 d;generalize g:t o=A at e;generalize j:t (.const .nilIface)=B at d;cases e;cases d;have n:(Op.equal w .nilIface .nilIface).run P f.a=.ok i f.a:=by show(aM (9999+1) w _ _).run P f.a=_;unfold aM;simp[underlying,v]
 have s:∀a,(Op.equal w .nilIface .nilIface).events P f.a a=a:=λa=>by show(aM (9999+1) w _ _).events P f.a a=a;unfold aM;simp[underlying,v]
 cases op<;>simp only[hn,reduceCtorEq,eA]at p
 .subst p;exact⟨.bool i,by simp[W,l,g,j,eqGuard,binOp,n],Rd.bool,by simp[W,l,g,j,eqGuard,binOp,n,s]⟩
 subst p;exact⟨.bool m,by simp[W,l,g,j,eqGuard,binOp,n],Rd.bool,by simp[W,l,g,j,eqGuard,binOp,n,s]⟩
def P3(d:Int)(e:an)(f:Int)(h:cB d=i)(j:cp e=i):ad q 176 [S d,bC e,S f] [] (bm (dF d e==f)) []:=by refine ad.E func176 rfl λl=>?_;refine a4 (a3.cons BC .nil) [17] a dX ?_;refine g.aI (AJ a underlying50 a a a) a a ?_;refine a4 (a3.cons BC .nil) [17] a nk (g.an a ?_);simp
def Vf:bI q 176 (jJ dc dT dc (λa d e=>bm (dF a d==e)) λa d _=>[cB a=i,cp d=i]):=.cJ λa d e f=>P3 a d e f.1 f.2
abbrev ld(a:Int):s:=aL (.int .u64 a)
def _root_.Go.AM.bX.e_{p:al P}{aq:dn}{J q:Code}(A:bX p B q aq F h):bX p B (.cond (.const (.bool m)) J q) aq F h:=by intro K s y e t E l r C D;refine .ctl e a (λ_=>xa (w:=m) a) λz d=>?_;exact A z s (y.rely d e) (e.rely d) t E l r C λx f g n j I v u o=>D x f g n j I v u (d.aH.trans o)
def _root_.Go.AM.g.e_{P:aw}{l:al P}{h:Nat}{a:dn}{f:e dz}{d:bd}{j:e Y}{p n:Code}(o:g l h a (.code n::f) .normal d j):g l h a (.code (.cond (.const (.bool m)) p n)::f) .normal d j:=bX.e_ o
def Gb{g j:Z}{o p:IntKind}{l n:Int}(e:Int)(t:r.op=.binOp op w g j ty)(B:η g=aL (.int o l))(A:η j=aL (.int p n))(y:a9 o e)(q:∀f,(binOp op w (.int o l) (.int p n)).run P f=.ok (.int o e) f)(z:∀f,(binOp op w (.int o l) (.int p n)).events P f #[]=#[]):
  aR P r η h (aL (.int o e)) h:=by refine .aS λE v F x=>?_;have d:=x g;have a:=x j;rw[B]at d;rw[A]at a;replace d:=b2 d;replace a:=b2 a;generalize s:v g=C at d;generalize u:v j=D at a;cases d;cases a;exact⟨.int o e,by simp only[W,t,cn,s,u,oO,cM,q,dv],.int y,by simp[W,t,s,u,oO,vQ,q,z]⟩
def PZ:ad q 236 [ld 1,ld 2] [] (.C [.S (.c (.int .u64 0)),.S (.c (.int .u64 2))]) []:=Ly
def P0:ad q 236 [ld 1,ld 3] [] (.C [.S (.c (.int .u64 0)),.S (.c (.int .u64 3))]) []:=Ly
def Dj:bB:=λargs d=>match args,d with
 |[.k (.S (.c (.int .u64 1))),.k (.S (.c (.int .u64 a)))],[]=>b (.C [.S (.c (.int .u64 0)),.S (.c (.int .u64 a))],[],[a=2∨a=3])
 |_,_=>k
def Ik:bI q 236 Dj:=by
 intro args h f g e a d;unfold Dj at a;split at a
 .cases a;rcases d with rfl|rfl
  .exact PZ
  exact P0
 grind
def PY(d:Int)(e:d=2∨d=3):ad q 194 [ld 1,ld d] [] (.C [.S (.c (.int .u64 0)),.S (.c (.int .u64 d))]) []:=by refine ad.E func194 rfl λf=>?_;refine cu (a3.cons Ik .nil) a M ?_;refine g.e_ ?_;refine cu (a3.cons Ik .nil) a ?_ (g.an a);exact bx
def yG:bB:=λargs d=>match args,d with
 |[.k (.S (.c (.int .u64 1))),.k (.S (.c (.int .u64 a)))],[]=>b (.C [.S (.c (.int .u64 0)),.S (.c (.int .u64 a))],[],[a=2∨a=3])
 |_,_=>k
def Vg:bI q 194 yG:=by
 intro args h f g e a d;unfold yG at a;split at a
 .cases a;exact PY _ d
 grind
def wh:∀(d:e UInt8)(a:UInt8),Lib.indexByte d a<c d∨Lib.indexByte d a=-1
 |[],a=>.inr (by rw[Lib.indexByte.eq_def])
 |g::d,a=>by have f:=wh d a;grind[Lib.indexByte.eq_def]
set_option maxRecDepth 20000 in
theorem Pl(f:an)(d:UInt8):ad q 199 [bC f,ti d.toNat] [] (S (Lib.indexByte f d)) []:=by
 refine ad.E func199 rfl λJ=>?_;have ab:=J.R 0 a;refine a8 a M (g.S (A:=S (Lib.indexByte f d)) (aO:=[]) ?_ a ?_)
 .refine a0.aT (λ_ _ _ _=>jZ nk) ?_;refine aR.di λh e U j=>?_;have s:=b2 (j (.tmp 5));have r:=b2 (j (.tmp 6));generalize o:e (.tmp 5)=K at s;generalize l:e (.tmp 6)=N at r;cases s with
  |R x F=>
  cases r with
  |int I=>
  have n:e (.func 239)=.func (.func 239) #[] #[]:=by
   have:=b2 (j (.func 239));generalize e (.func 239)=Y at this;cases this with
   |fn C w O t z B u v d1 d2=>
    grind
  have y:(callFunc 239 #[.string ‹ByteArray›,.int .u8 d.toNat]).run R h.a=.ok (.value (.int .i64 (Lib.indexByte f d))) h.a:=by rw[run_callFunc_extern func239 bO bO bO (e:=Extern.BytealgIndexByte.indexByte) bO,Lib.run_indexByteString];simp_all
  have E:dp R (Extern.BytealgIndexByte.indexByte #[.string ‹ByteArray›,.int .u8 d.toNat]):=by
   refine dp.bind (a2:=Extern.Bytes.bytesOf (.string ‹ByteArray›)) (λ_ _=>rfl) λt=>dp.bind (a2:=Extern.Bytes.asByte (.int .u8 d.toNat)) (λ_ _=>?_) λQ=>?_
   .simp[Extern.Bytes.asByte]
   .skip
    split<;>exact .pure
  have D:=EM func239 bO bO bO (ak:=Extern.BytealgIndexByte.indexByte) bO _ E h.a #[];refine⟨.int .i64 (Lib.indexByte f d),?_,Rd.int ?_,?_⟩
  rotate_left 2
  .intro T p;simp[W,resolve,Deferred.ofValue,invoke,o,l,n,D]at p;subst p;exact .inr ⟨_,a⟩
  .simp[W,resolve,Deferred.ofValue,invoke,o,l,n,y]
  have Z:=Lib.indexByte_ge f d;have X:=wh f d;exact cF
 exact sj
abbrev kx:bB:=df dT (λa=>bC (eY a)) λ_=>[]
abbrev hT(a:Option an):s:=.C [.S (.c (.R (a.getD []))),.S (.c (.bool a.isSome))]
def Qi(j:bI q 125 kx)(d:an):ad q 175 [bC d] [] (hT (gT d)) []:=by
 refine ad.E func175 rfl λn=>?_;have f:a3 q [(211,yI),(155,df dT (λl=>bm (cp l)) λ_=>[]),(125,kx)]:=.cons t211 (.cons BD (.cons j .nil));by_cases e:cp (e8 d)=i
 .by_cases h:eY (e8 d)=d
  .refine a4 f [-10,-15] a dX (g.an a ?_);simp[gT,e,h]
  refine a4 f [-10,15] a dX (g.an a ?_);simp[gT,e,h]
 refine a4 f [10,15] a ?_ (g.an a ?_)
 .simp[e]
 simp[gT,e]
def VX(d:bI q 125 kx):bI q 175 (df dT (λa=>hT (gT a)) λ_=>[]):=.a3 λa _=>Qi d a
def G7{d a:an}(e:gT d=b a):cp a=i:=by unfold gT at e;grind
abbrev zv(a:bq):s:=qC.a1 a
def Ol(o:bI q 125 kx)(h:bq)(d:Int)(e:cB d=i):ad q 144 [zv h,S d] [] (hT (hQ d h)) []:=by
 refine ad.E func144 rfl λs=>?_;have j:a3 q [(175,df dT (λn=>hT (gT n)) λ_=>[]),(176,jJ dc dT dc (λd f p=>bm (dF d f==p)) λd f _=>[cB d=i,cp f=i])]:=.cons (VX o) (.cons Vf .nil);cases t:gT h.2 with
 |none=>
  refine a4 j [16,23] a mx (g.an a ?_);simp[hQ,t]
 |some f=>
  have r:=G7 t;by_cases l:dF d f=h.1
  .refine a4 j [-16,-23] a dX (g.an a ?_);simp[hQ,t,l,e]
  refine a4 j [-16,23] a dX (g.an a ?_);simp[hQ,t,l,e]
def Ip(e:bI q 125 kx):bI q 144 (eK qC dc (λd a=>hT (hQ a d)) λ_ a=>[cB a=i]):=.bf λd a f=>Ol e d a f
def Pu(e:bq)(d:Int):ad q 252 [zv e,aL (.U [.int .i64 d])] [] (bm (e.1==d)) []:=by refine ad.E func252 rfl λf=>?_;exact a8 a M (g.an a)
def yK:bB:=λargs e=>match args,e with
 |[.k (.agg [.c (.int .i64 d),.c (.R a)]),.k (.S (.c (.U [.int .i64 f])))],[]=>b (bm (d==f),[],[a=a])
 |_,_=>k
def t252:bI q 252 yK:=by
 intro args l e f d a h;unfold yK at a;split at a
 .rename_i j g p;cases a;exact Pu (j,g) p
 grind
abbrev EC(a:Int):s:=aL (.fn (.func 252) [] [.U [.int .i64 a]])
def nV(d:e bq)(f:Int):Int:=match d.findIdx? (λg=>g.1==f)with|some a=>a|none=>-1
def R2{a:e bq}{d:Int}(g:f<c a)(o:(a.getD f (0,[])).1=d)(l:∀h,h<f->(a.getD h (0,[])).1≠d):nV a d=f:=by
 have:a.findIdx? (λj=>j.1==d)=b f:=by rw[CM];refine⟨g,J,λh n=>?_⟩;grind
 rw[nV,this]
def R4{a:e bq}{d:Int}(h:∀f,f<c a->(a.getD f (0,[])).1≠d):nV a d=-1:=by have:a.findIdx? (λg=>g.1==d)=k:=xL;rw[nV,this]
def Pe(f:e bq)(j:Int):ad q 251 [bS.M f,EC j] [] (S (nV f j)) []:=by
 refine ad.E func251 rfl λo=>?_;have s:=o.M 0 a;have h:a3 q [(252,yK)]:=.cons t252 .nil;refine cu h a M (g.b1 (λd=>d<=c f/\∀l,l<d->(f.getD l (0,[])).1≠j) (λd:Nat=>[(0,bS.M f),(1,EC j),(7,S (c f)),(8,S d)]) (λ_=>[]) (λd=>c f-d) 0 a Q a M ⟨by omega,by omega⟩ ?_);rintro d ⟨r,n⟩;by_cases p:d<c f
 .by_cases u:(f.getD d (0,[])).1=j
  .refine a4 h [9,16] a ?_ (g.bD (b3.zero a ?_))
   .simp only[V,dB];grind
   simp[R2 p u n]
  refine a4 h [9,-16] a ?_ (g.bI (d+1) a ?_ a M ?_ ?_)
  .simp only[V,dB];exact⟨by exact bH,M,gn.2 u,by omega,by omega,gf x⟩
  .simp
  .grind
  omega
 refine a4 h [-9] a cb (g.a_ a a ?_);refine cu h a M (g.an a ?_);simp[R4 (λl t=>n l x)]
def yJ:bB:=λargs e=>match args,e with
 |[f,.k (.S (.c (.fn (.func 252) [] [.U [.int .i64 g]])))],[]=>match i0 2 f with
  |none=>k
  |some (d,a)=>b (S (nV (bS.ao d a) g),[],[bS.bV d a])
 |_,_=>k
def t251:bI q 251 yJ:=by
 intro args n h j g a e;unfold yJ at a;split at a
 .rename_i o p;split at a
  .cases a
  rename_i r l d;cases a;exact(Pe _ p).args (λ_ z=>bW.imp (λ_=>bS.b8 d e) (bW.imp (λ_ f=>f) (λ_ f=>f)) z)
 grind
def R3(a:e bq)(d:Int):(nV a d=-1/\a.find? (λg=>g.1==d)=k)∨∃f:Nat,f<c a/\nV a d=f/\a.find? (λg=>g.1==d)=b (a.getD f (0,[])):=by unfold nV;grind[List.findIdx?_eq_some_iff_getElem,List.find?_eq_some_iff_getElem]
def Qc(n:bI q 125 kx)(d:Int)(e:bU)(h:Int)(r:cB d=i):ad q 229 [S d,l9 e,S h] [] (hT (gi d e h)) []:=by
 refine ad.E func229 rfl λu=>?_;have l:a3 q [(251,yJ),(144,eK qC dc (λs d=>hT (hQ d s)) λ_ d=>[cB d=i])]:=.cons t251 (.cons (Ip n) .nil);have v:bS.ao (c e.2) (bS.fn e.2)=e.2:=bS.aa _;refine is [] 7 a M (g.freeze 5 1 a a a ?_);rcases R3 e.2 h with⟨o,j⟩|⟨f,p,o,j⟩
 .refine a4 l [14] a bH (g.an a ?_);simp[gi,j]
 refine a4 l [-14] a bH (g.an a ?_);have t:gi d e h=hQ d (e.2.getD f (0,[])):=by simp only[gi,j]
 simp_all
def V3(f:bI q 125 kx):bI q 229 (jJ dc (jD bS) dc (λa e d=>hT (gi a e d)) λa _ _=>[cB a=i]):=.cJ λa e d g=>Qc f a e d g
end
end R1
end Go.AM
