/- Part 4. No condition. -/
import Derived.Test.YtnamahahdbfodaaGreatDoorA3
import Derived.Lib.Bytealg
import Derived.Sort.AssemblyPlain
import Derived.Sort.LotD5
import Derived.Sort.Walk13a
import Derived.Conc.DeferLaws
import Derived.RowKit
import Derived.Conc.Holds
set_option linter.all false
set_option maxHeartbeats 8000000
open Go.Proofs
open Go.Proofs.Tryz
open List renaming length → c, range → aC, replicate → aY, getD_eq_getElem?_getD → al
open Go renaming Value → Z, TypeId → av, Event → aT, undef → K, World → au, Frame → aK, FuncId → a3, execOp → ac, Operand → aB, Program → aI, Goroutine → ak, stepG → aq, Oper → ap
open Option renaming some → h, none → n
open Bool renaming true → f, false → l
open Nat renaming beq → af, ble → ay
open Go.World renaming cell? → aL
open Go.Op renaming bytesLess → aW, equalIn → aQ
open Go.Sem renaming events_bind → aH
open Go.Result renaming evThen_ok → aJ
open Go.Proofs.Tryz renaming prog → V
open Go.Conc renaming stepG_seq → aw, stepG_region_end → aF
namespace Go.AM
variable {k A:Nat}{i:Int}{d j e w:Nat}{W:av}{H:Z->(Nat->Option Obj)->Prop}{L:Array Bool}{bB:Mem}{D:Nat}{P:aI}{bq:ak->a5->Prop}{s:Code}{C:ak}{t:ap}{b:a5}{q:av}{aa:Z}{o X:aB}{α:Type}{η:aB->z}{ι:Type}{p:m an}{F:bH}{all:m ap}{dp:Array av}{cap:m N}{cR:m z}{k8:Nat->Option Obj}{ah:m aK}{bg:m (Nat×Bool)}{T:Nat->m N}{cP:aB}{gs:Array ak}{aP:m Nat}{cf:m Prop}{off:Nat}{op:BinOp}{aD:Array ap}{ab:m Prop}{bs:m ap}{az:a5}{ty:av}{val:Nat->Nat->Z}{B:m Z}{bi:au}{ag:Array aB}{ao dd:m an}{res:ι->z}{aM:ι->m an}
variable {CT:m (Nat×bL)}{ar:m ij}{be:fs}{ad:m (Nat×bv)}{a4:bv}
structure iZ(α:Type) where
 a8:α->z
 d':z->Option (α×m Prop)
 ok:∀{I x t},d' I=h (x,t)->U t->∀{p:m an} {b:a5} {aa:Z},bx p b aa I->bx p b aa (a8 x)
def c8:iZ Int:=⟨S,λa=>match a with|.n (.aq (.c (.int .i64 b)))=>h (b,[])|_=>n,λ{a d g} e _ _ _ _ i=>by grind⟩
def eB:iZ bE:=⟨b2,λa=>match a with|.n (.aq (.c (.V b)))=>h (b,[])|_=>n,λ{a d g} e _ _ _ _ i=>by grind⟩
def dC:iZ Bool:=⟨bh,λa=>match a with|.n (.aq (.c (.bool b)))=>h (b,[])|_=>n,λ{a d g} e _ _ _ _ i=>by grind⟩
def e0(b:cZ α):iZ (m α):=⟨b.S,λi=>match jW b.bj i with|some (g,a)=>h (b.af g a,[b.bU g a])|none=>n,λ{i k o} d e _ _ _ j=>by
 split at d
 .rename_i g a he;cases d;exact b.cC he e j
 .cases d⟩
def sn:iZ (Int×bE):=⟨λd=>.n (.agg [.c (.int .i64 d.1),.c (.V d.2)]),λb=>match b with|.n (.agg [.c (.int .i64 a),.c (.V e)])=>h ((a,e),[])|_=>n,λ{b a i} g _ _ _ _ j=>by grind⟩
def p3:iZ (Int×Int):=⟨λd=>.n (.agg [.c (.int .i64 d.1),.c (.int .i64 d.2)]),λb=>match b with|.n (.agg [.c (.int .i64 a),.c (.int .i64 e)])=>h ((a,e),[])|_=>n,λ{b a i} g _ _ _ _ j=>by grind⟩
def jz(e:cZ α):iZ (Int×m α):=⟨λk=>.n (.agg [.c (.int .i64 k.1),.c (.S l e.bj (c k.2) (e.fn k.2))]),λq=>match q with
 |.n (.agg [.c (.int .i64 o),.c r])=>match jW e.bj (.n (.aq (.c r)))with|some (j,d)=>h ((o,e.af j d),[e.bU j d])|none=>n
 |_=>n,λ{q o w} g i _ b _ u=>by
 split at g
 .split at g
  .rename_i j d he;cases g;obtain⟨B,s,a⟩:=u
   match B,a with
   |[],a=>exact a.elim
   |[_],a=>exact a.2.elim
   |_::_::_::_,a=>exact a.2.2.elim
   |[x,t],a=>exact⟨_,s,a.1,e.cC (p:=[]) (b:=b) (aa:=t) he i a.2.1,v⟩
  cases g
 .cases g⟩
def df(d:iZ α)(a:α->z)(pre:α->m Prop):bL:=λargs e=>match args,e with
 |[g],[]=>match d.d' g with
  |some (b,i)=>h (a b,[],gB i (pre b))
  |none=>n
 |_,_=>n
def en{b:Type}(g:iZ α)(i:iZ b)(a:α->b->z)(pre:α->b->m Prop):bL:=λargs j=>match args,j with
 |[k,o],[]=>match g.d' k with
  |some (d,p)=>match i.d' o with
   |some (e,q)=>h (a d e,[],gB p (gB q (pre d e)))
   |none=>n
  |none=>n
 |_,_=>n
def kg{b d:Type}(j:iZ α)(k:iZ b)(o:iZ d)(a:α->b->d->z)(pre:α->b->d->m Prop):bL:=λargs p=>match args,p with
 |[q,r,s],[]=>match j.d' q with
  |some (e,t)=>match k.d' r with
   |some (g,u)=>match o.d' s with
    |some (i,v)=>h (a e g i,[],gB t (gB u (gB v (pre e g i))))
    |none=>n
   |none=>n
  |none=>n
 |_,_=>n
section
variable {r:aj P}{ae:a3}{e w:Type}{O:iZ α}{bX:iZ e}{N:iZ w}
def bM.ba{b:α->z}{pre:α->m Prop}(o:∀e,U (pre e)->Y r ae [O.a8 e] [] (b e) []):bM r ae (df O b pre):=by
 intro args p g k i a d;unfold df at a;split at a
 .split at a
  .rename_i q e t j;cases a;rw[U.Y]at d;exact(o e d.2).args λs B=>b5.imp (λ_ g=>O.ok j d.1 g) (λ_ g=>g) B
  cases a
 cases a
def bM.bm{d:α->e->z}{pre:α->e->m Prop}(p:∀i j,U (pre i j)->Y r ae [O.a8 i,bX.a8 j] [] (d i j) []):bM r ae (en O bX d pre):=by
 intro args q g o k a b;unfold en at a;split at a
 .split at a
  .rename_i u v i t s;split at a
   .rename_i j w cT;cases a;rw[U.Y,U.Y]at b;exact(p i j b.2.2).args λx B=>b5.imp (λ_ g=>O.ok s b.1 g) (b5.imp (λ_ g=>bX.ok cT b.2.1 g) (λ_ g=>g)) B
   cases a
  cases a
 cases a
def bM.cZ{k:α->e->w->z}{pre:α->e->w->m Prop}(u:∀o j s,U (pre o j s)->Y r ae [O.a8 o,bX.a8 j,N.a8 s] [] (k o j s) []):bM r ae (kg O bX N k pre):=by
 intro args v g q p a b;unfold kg at a;split at a
 .split at a
  .rename_i x y C o t i;split at a
   .rename_i j A cT;split at a
    .rename_i s D d;cases a;rw[U.Y,U.Y,U.Y]at b;exact(u o j s b.2.2.2).args λE B=>b5.imp (λ_ g=>O.ok i b.1 g) (b5.imp (λ_ g=>bX.ok cT b.2.1 g) (b5.imp (λ_ g=>N.ok d b.2.2.1 g) (λ_ g=>g))) B
    cases a
   cases a
  cases a
 cases a
end
namespace R1
def ev(d:m z)(a:z):bL:=λargs b=>match b with|[]=>h (a,[],[args=d])|_=>n
def eI{b:aj V}{ae}{d}{res}(k:Y b ae d [] res []):bM b ae (ev d res):=by
 intro args j m g e a i;unfold ev at a;split at a
 .cases a;simp_all
 cases a
def k6(g:m z)(d:m an)(a:z)(b:m an):bL:=λargs e=>h (a,b,[args=g,e=d])
def l7{d:aj V}{ae}{e}{a aM}{res}(m:Y d ae e a res aM):bM d ae (k6 e a res aM):=by intro args k o i g b j;cases b;simp_all
end R1
def lB(b:Mem):m Z->m N->Prop
 |[],[]=>True
 |e::B,d::a=>Rd b e d/\lB b B a
 |_,_=>False
structure rf(α:Type) where
 a8:α->m N
 cm:m N->Option (α×m Prop×m N)
 ok:∀{ah x t a'},cm ah=h (x,t,a')->U t->∀{bB:Mem} {B:m Z},lB bB B ah->∃v1 v2,B=v1++v2/\lB bB v1 (a8 x)/\lB bB v2 a'
def lB.app{bB}:∀{g i:m Z}{a b:m N},lB bB g a->lB bB i b->lB bB (g++i) (a++b)
 |[],_,[],_,_,d=>d
 |_::_,_,_::_,_,e,j=>⟨e.1,e.2.app j⟩
 |[],_,_::_,_,d,_=>d.elim
 |_::_,_,[],_,d,_=>d.elim
def lB.aq{s}{e}(d:lB bB B (s::e)):∃a b,B=a::b/\Rd bB a s/\lB bB b e:=by
 cases B with
 |nil=>exact d.elim
 |cons a B=>exact⟨a,B,rfl,d⟩
def u7(e:cZ α):rf (m α):=⟨λq=>[.S l e.bj (c q) (e.fn q)],λg=>match g with
 |u::r=>match jW e.bj (.n (.aq (.c u)))with|some (o,d)=>h (e.af o d,[e.bU o d],r)|none=>n
 |_=>n,λ{g y z r} i j s B k=>by
 split at i
 .split at i
  .rename_i o d he;cases i;obtain⟨aa,t,rfl,w,x⟩:=k.aq;exact⟨[aa],t,a,⟨e.cC (p:=[]) (b:=⟨[],s,default,λ_=>True⟩) (aa:=aa) he j w,v⟩,x⟩
  cases i
 .cases i⟩
def x_{m:Type}(O:rf α)(e:rf m):rf (α×m):=⟨λq=>O.a8 q.1++e.a8 q.2,λb=>match O.cm b with
 |some (k,o,p)=>match e.cm p with|some (r,y,z)=>h ((k,r),gB o y,z)|none=>n
 |none=>n,λ{b k o p} d a A B g=>by
 split at d
 .rename_i w;split at d
  .rename_i C;cases d;rw[U.Y]at a;obtain⟨i,D,rfl,u,t⟩:=O.ok w a.1 g;obtain⟨v,j,rfl,x,s⟩:=e.ok C a.2 t;exact⟨i++v,j,(mj _ _ _).symm,u.app x,s⟩
  cases d
 .cases d⟩
def zs:m O->Option (m N)
 |[]=>h []
 |.c d::b=>match zs b with|some a=>h (d::a)|none=>n
 |_=>n
def DS:m N->m O
 |[]=>[]
 |b::a=>.c b::DS a
def M1{p}{b}:∀{e:m O}{g:m N}{B:m Z},zs e=h g->bN p b B e->lB b.u B g
 |[],g,B,a,d=>by cases a;cases B with|nil=>trivial|cons=>exact d.elim
 |.c o::i,g,B,a,d=>by
  simp only[zs]at a;split at a
  .rename_i j;cases a;cases B with
   |nil=>exact d.elim
   |cons k B=>exact⟨d.1,M1 j d.2⟩
  cases a
 |.ptr ..::_,_,_,a,_=>by cases a
 |.r ..::_,_,_,a,_=>by cases a
 |.aR ..::_,_,_,a,_=>by cases a
 |.R ..::_,_,_,a,_=>by cases a
 |.any::_,_,_,a,_=>by cases a
def LD{p}{b}:∀{d:m N}{B:m Z},lB b.u B d->bN p b B (DS d)
 |[],[],_=>trivial
 |_::_,_::_,a=>⟨a.1,LD a.2⟩
 |[],_::_,a=>a.elim
 |_::_,[],a=>a.elim
def An(d:rf α):iZ α:=⟨λb=>.n (.agg (DS (d.a8 b))),λk=>match k with
 |.n (.agg j)=>match zs j with
  |some e=>match d.cm e with|some (b,m,[])=>h (b,m)|_=>n
  |none=>n
 |_=>n,λ{k b m} a g u v w t=>by
 split at a
 .split at a
  .rename_i C;split at a
   .rename_i q;cases a;obtain⟨B,rfl,s⟩:=t;obtain⟨i,r,rfl,p,o⟩:=d.ok q g (M1 C s);cases r with
    |nil=>exact⟨i,by simp,LD p⟩
    |cons=>exact o.elim
   cases a
  cases a
 .cases a⟩
namespace R1
section
variable {r:aj V}
def Vn(i):Y r 119 [S i] [] (bh (cK i)) []:=by
 refine Y.K func119 rfl λd=>?_;by_cases b:1<=i
 .by_cases j:i<=99
  .refine a6 [(4,f),(7,f)] a bw (g.aw a ?_);simp[cK,b,j]
  refine a6 [(4,f),(7,l)] a bw (g.aw a ?_);simp[cK,b,j]
 refine a6 [(4,l)] a bV (g.aw a ?_);simp[cK,b]
def r2:bM r 119 (df c8 (λa=>bh (cK a)) λ_=>[]):=.ba λa _=>Vn a
def aag{b}(a:e<c b):d6 (b.take (e+1))=(d6 (b.take e)&&jn (b.getD e 0)):=by unfold d6;grind[List.take_add_one]
def Da{j}:jn j=f↔97<=(j.toNat:Int)/\(j.toNat:Int)<=122:=by simp[jn];omega
def J_{b}(g:e<c b)(d:jn (b.getD e 0)=l):d6 b=l:=by
 cases a:d6 b with
 |false=>rfl
 |true=>
  have:=List.all_eq_true.1 a (b.getD e 0) M;grind
def VC(b):Y r 128 [b2 b] [] (bh (d6 b)) []:=by
 refine Y.K func128 rfl λp=>?_;have s:=p.V 0 a;refine aZ a v (g.eh (λd=>d<=c b/\d6 (b.take d)=f) (λd:Nat=>[(0,b2 b),(5,S (c b)),(6,S d)]) (λ_=>[]) (λd=>c b-d) 0 a E ⟨by omega,by simp[d6]⟩ a ?_);rintro d ⟨q,m⟩;by_cases e:d<c b
 .by_cases j:dk b d<97
  .refine a6 [(7,f),(12,f)] a ?_ (g.bS (bW.zero a ?_))
   .simp[-al,e,kf,j]
   have:jn (b.getD d 0)=l:=by
    cases k:jn (b.getD d 0)with
    |false=>rfl
    |true=>have:=Da.1 k;unfold dk at j;omega
   simp[J_ e this]
  by_cases i:dk b d<=122
  .refine a6 [(7,f),(12,l),(17,l)] a ?_ (g.again (d+1) a ?_ ?_ ?_ a)
   .simp[-al,e,kf,j,i,a7];grind
   .simp
   .refine⟨by omega,?_⟩;rw[aag e,m,fp];exact Da.2 (by unfold dk at j i;omega)
   omega
  refine a6 [(7,f),(12,l),(17,f)] a ?_ (g.bS (bW.zero a ?_))
  .simp[-al,e,kf,j];grind
  have:jn (b.getD d 0)=l:=by
   cases k:jn (b.getD d 0)with
   |false=>rfl
   |true=>have:=Da.1 k;unfold dk at i;omega
  simp[J_ e this]
 have o:d=c b:=y;subst o;refine a6 [(7,l)] a E (g.bt a a ?_);refine aZ a v (g.aw a ?_);simp_all
def adH:bM r 128 (df eB (λb=>bh (d6 b)) λ_=>[]):=.ba λa _=>VC a
abbrev aef:m (Nat×bL):=[(119,df c8 (λa=>bh (cK a)) λ_=>[]),(128,df eB (λb=>bh (d6 b)) λ_=>[])]
def BG:a8 r aef:=.cons r2 (.cons adH .nil)
def WE(b):Y r 251 [b2 b] [] (bh (cC b)) []:=by
 refine Y.K func251 rfl λe=>?_;by_cases d:1<=c b
 .by_cases j:c b<=8
  .refine a_ BG [(5,f),(9,f),(11,f)] a bV (g.aw a ?_);simp[cC,d,j]
  refine a_ BG [(5,f),(9,l),(11,l)] a bV (g.aw a ?_);simp[cC,d,j]
 refine a_ BG [(5,l),(11,l)] a bV (g.aw a ?_);simp[cC,d]
def Ek:bM r 251 (df eB (λb=>bh (cC b)) λ_=>[]):=.ba λa _=>WE a
def TS(d:Nat)(j:d<=4000000):Y r 253 [S d] [] (S (e3 d)) []:=by
 refine Y.K func253 rfl λm=>?_;by_cases i:d<1
 .refine a6 [(5,f),(9,f)] a bV (g.aw a ?_);simp[e3,i]
 by_cases e:8<d
 .refine a6 [(5,l),(8,f)] a bV (g.aw a ?_);simp[e3,e]
 refine a6 [(5,l),(8,l)] a bV ?_;have o:e3 d=2∨e3 d=4∨e3 d=8:=FJ;refine g.eh (λb:Nat=>(b=2∨b=4∨b=8)/\b<=e3 d) (λb:Nat=>[(0,S d),(3,S b)]) (λ_=>[]) (λb=>8-b) 2 a E ⟨by simp,by omega⟩ a ?_;rintro b ⟨k,x⟩;by_cases j:b<d
 .exact a6 [(12,f)] a lJ (g.again (2*b) a bV NP y a)
 refine a6 [(12,l)] a bV (g.bt a a ?_);refine aZ a v (g.aw a ?_);have:b=e3 d:=NP;simp[this]
theorem acY(b)(j):fi (b++[j])=if j=46 then fi b else b++[j]:=by unfold fi;grind[List.dropWhile_cons]
def Mq{b}(a:k<c b):fi (b.take (k+1))=if b.getD k 0=46 then fi (b.take k)else b.take (k+1):=by grind[List.take_add_one,acY]
theorem XE(b):Y r 294 [b2 b,uZ 46] [] (b2 (fi b)) []:=by
 refine Y.K func294 rfl λi=>?_;have p:=i.V 0 a;refine aZ a v (g.eh (λk=>k<=c b/\fi (b.take k)=fi b) (λk:Nat=>[(0,b2 (b.take k)),(1,uZ 46)]) (λ_=>[]) (λk=>k) (c b) a E ⟨by omega,by simp⟩ a ?_);rintro k ⟨q,d⟩;cases k with
 |zero=>
  refine a6 [(7,l),(16,l)] a E (g.bt a a ?_);refine aZ a v (g.aw a ?_);have:fi b=[]:=by rw[<-d];rfl
  simp[this]
 |succ k=>
  have I:c (b.take (k+1))=k+1:=M;have C:dk (b.take (k+1)) k=dk b k:=by simp[dk,al,io]
  have m:=Mq (b:=b) (k:=k) y;have j:((k:Int)+1-1).toNat=k:=y;by_cases e:b.getD k 0=46
  .refine a6 [(7,f),(15,f),(16,f)] a ?_ (g.again k a ?_ ?_ ?_ a)
   .have s:dk b k=46:=by unfold dk;exact bK
    exact QE
   .simp;show(b.take (k+1)).take _=_;grind
   .grind
   simp
  refine a6 [(7,f),(15,l),(16,l)] a ?_ (g.bt a a ?_)
  .have s:dk b k≠46:=by unfold dk;intro o;exact e (uv.1 M)
   exact QE
  refine aZ a v (g.aw a ?_);rw[m,bm e]at d;simp[d]
def GJ:bL:=λargs a=>match args,a with
 |[.n (.aq (.c (.V b))),.n (.aq (.c (.int .u8 46)))],[]=>h (b2 (fi b),[],[])
 |_,_=>n
def t294:bM r 294 GJ:=by intro args g b d a e _;unfold GJ at e;grind[XE]
theorem XD(b):Y r 257 [b2 b,b2 [46]] [] (b2 (fi b)) []:=by
 refine Y.K func257 rfl λi=>?_;by_cases d:b=[]
 .subst d;refine a_ (a8.cons t294 .nil) [(8,f),(12,f)] a E (g.aw a ?_);exact bK
 refine a_ (a8.cons t294 .nil) [(8,l),(11,l),(12,l),(16,f),(20,f),(21,f)] a ?_ (g.aw a);cases b with
 |nil=>grind
 |cons e j=>simp;decide
def A_:bL:=λargs a=>match args,a with
 |[.n (.aq (.c (.V b))),.n (.aq (.c (.V [46])))],[]=>h (b2 (fi b),[],[])
 |_,_=>n
def adc:bM r 257 A_:=by intro args g b d a e _;unfold A_ at e;grind[XD]
def HC{a:bE}(b:e<c a):ga (a.take (e+1))=27*ga (a.take e)+(dk a e-97) % 256+1:=by unfold ga;rw[w5,bI b];simp only[uy,Option.toList_some,j_,List.foldl_nil,dk,al,bI b,iq]
def xE{a:bE}(d:cC a=f)(m:e<=c a):0<=ga (a.take e)/\ga (a.take e)<282429536481:=by simp[cC,cE,bA]at d;obtain⟨j,b⟩:=BK (a.take e) 0 1 0 (λi g=>qG d.2 i (hf g)) y y y;have:=Lj (k:=c (a.take e)) M;rw[Int.one_mul]at b;exact⟨j,Int.lt_of_lt_of_le b this⟩
def CN{a:bE}(b:e<c a):a.getD e 0∈a:=M
abbrev aeg:m (Nat×bL):=[(119,df c8 (λa=>bh (cK a)) λ_=>[]),(251,df eB (λb=>bh (cC b)) λ_=>[])]
def hJ:a8 r aeg:=.cons r2 (.cons Ek .nil)
abbrev B0(a:Int):z:=.Q [.aq (.c (.int .i64 a)),.aq (.c .bo)]
def V_(d:Int)(b:bE)(o:cK d=f)(i:cC b=f):Y r 246 [S d,b2 b] [] (B0 (e7 d b)) []:=by
 refine Y.K func246 rfl λA=>?_;have k:=i;simp[cC,cE,bA]at k;have s:=o;simp[cK,cE,bA]at s;refine a_ hJ [(8,l),(13,l)] a dA (g.eh (λe=>e<=c b) (λe:Nat=>[(0,S d),(1,b2 b),(6,S (ga (b.take e))),(19,S (c b)),(20,S e)]) (λ_=>[]) (λe=>c b-e) 0 a (by simp[ga]) y a ?_);intro e m;by_cases j:e<c b
 .have q:=xE i m;have B:=xE i (e:=e+1) y;have p:=HC j;refine a6 [(21,f)] a ?_ (g.again (e+1) a ?_ ?_ ?_ a)
  .simp only[U,kf,a7];simp[-al,j,kf];have x:=qG k.2 (b.getD e 0) (CN j);have t:97<=dk b e/\dk b e<=122:=EL;omega
  .have x:=qG k.2 (b.getD e 0) (CN j);have t:97<=dk b e/\dk b e<=122:=EL;have C:(dk b e-97) % 256=dk b e-97:=Int.emod_eq_of_lt y y;exact bK
  .grind
  grind
 have p:e=c b:=y;subst p;have q:=xD i;refine a6 [(21,l)] a E (g.bt a a ?_);refine aZ a ?_ (g.aw a ?_)
 .rw[c9];have w:0<=ga b*(2*d+1):=Int.mul_nonneg q.1 y;have u:ga b*(2*d+1)<=282429536481*199:=Int.mul_le_mul y y y y;generalize ga b*(2*d+1)=z at w u;exact t7
 rw[c9];refine U.Y.2 ⟨?_,U.Y.2 ⟨a,v⟩⟩;show(_:Int)=_;rw[Int.mul_comm 7919 d];rfl
def t246:bM r 246 (en c8 eB (λa b=>B0 (e7 a b)) λa b=>[cK a=f,cC b=f]):=.bm λa b d=>V_ a b d.1 d.2
def Dn(k:t.op=.binOp op q o (.const .nilIface) ty){u:Bool}{s:Array (String×av)}(x:P.underlying q=h (.interface s))(z:η o=ax .bo)(y:η (.const .nilIface)=ax .bo)(r:h9 op f=h u):a0 P t η p (ax (.bool u)) p:=by
 refine .aZ λe g C w=>?_;have d:=w o;have b:=w (.const .nilIface);rw[z]at d;rw[y]at b;replace d:=b7 d;replace b:=b7 b;generalize i:g o=A at d;generalize j:g (.const .nilIface)=B at b;cases d;cases b;have m:(Op.equal q .nilIface .nilIface).run P e.a=.ok f e.a:=by show(aQ (9999+1) q _ _).run P e.a=_;unfold aQ;simp[underlying,x]
 have v:∀a,(Op.equal q .nilIface .nilIface).events P e.a a=a:=λa=>by show(aQ (9999+1) q _ _).events P e.a a=a;unfold aQ;simp[underlying,x]
 cases op<;>simp[h9,reduceCtorEq,eU]at r
 .subst r;exact⟨.bool f,by simp[ac,k,i,j,eqGuard,binOp,m],Rd.bool,by simp[ac,k,i,j,eqGuard,binOp,m,v]⟩
 subst r;exact⟨.bool l,by simp[ac,k,i,j,eqGuard,binOp,m],Rd.bool,by simp[ac,k,i,j,eqGuard,binOp,m,v]⟩
def V8(b:Int)(d:bE)(e:Int)(i:cK b=f)(j:cC d=f):Y r 220 [S b,b2 d,S e] [] (bh (e7 b d==e)) []:=by refine Y.K func220 rfl λk=>?_;refine a_ (a8.cons t246 .nil) [(17,f)] a dA ?_;refine g.aO (Dn a underlying164 a a a) a a ?_;refine a_ (a8.cons t246 .nil) [(17,f)] a oR (g.aw a ?_);simp
def ac':bM r 220 (kg c8 eB c8 (λa b d=>bh (e7 a b==d)) λa b _=>[cK a=f,cC b=f]):=.cZ λa b d e=>V8 a b d e.1 e.2
abbrev mu(a:Int):z:=ax (.int .u64 a)
def _root_.Go.AM.b0.fx{t:aj P}{aN}{o X}(C:b0 t D X aN F p):b0 t D (.cond (.const (.bool l)) o X) aN F p:=by intro J v A d w E j u m k;refine .ctl d a (λ_=>y8 (q:=l) a) λy b=>?_;exact C y v (A.rely b d) (d.rely b) w E j u m λz e g r i I x B s=>k z e g r i I x B (b.aV.trans s)
def _root_.Go.AM.g.fx{P:aI}{a:aj P}{D}{be}{ar}{F}{p}{o X}(b:g a D be (.code X::ar) .normal F p):g a D be (.code (.cond (.const (.bool l)) o X)::ar) .normal F p:=b0.fx b
def JW{i d}{k j}(s)(u:t.op=.binOp op q o X ty)(A:η o=ax (.int i k))(z:η X=ax (.int d j))(x:a7 i s)(m:∀g,(binOp op q (.int i k) (.int d j)).run P g=.ok (.int i s) g)(y:∀g,(binOp op q (.int i k) (.int d j)).events P g #[]=#[]):
  a0 P t η p (ax (.int i s)) p:=by refine .aZ λD e E w=>?_;have b:=w o;have a:=w X;rw[A]at b;rw[z]at a;replace b:=b7 b;replace a:=b7 a;generalize r:e o=B at b;generalize v:e X=C at a;cases b;cases a;exact⟨.int i s,by simp only[ac,u,cH,r,v,qn,c1,m,d8],.int x,by simp[ac,u,r,v,qn,x2,m,y]⟩
def V4:Y r 310 [mu 1,mu 2] [] (.Q [.aq (.c (.int .u64 0)),.aq (.c (.int .u64 2))]) []:=Q2
def V5:Y r 310 [mu 1,mu 3] [] (.Q [.aq (.c (.int .u64 0)),.aq (.c (.int .u64 3))]) []:=Q2
def GK:bL:=λargs b=>match args,b with
 |[.n (.aq (.c (.int .u64 1))),.n (.aq (.c (.int .u64 a)))],[]=>h (.Q [.aq (.c (.int .u64 0)),.aq (.c (.int .u64 a))],[],[a=2∨a=3])
 |_,_=>n
def Mu:bM r 310 GK:=by
 intro args i e g d a b;unfold GK at a;split at a
 .cases a;rcases b with rfl|rfl
  .exact V4
  exact V5
 grind
def V3(b:Int)(d:b=2∨b=3):Y r 291 [mu 1,mu b] [] (.Q [.aq (.c (.int .u64 0)),.aq (.c (.int .u64 b))]) []:=by refine Y.K func291 rfl λe=>?_;refine b_ (a8.cons Mu .nil) a v ?_;refine g.fx ?_;refine b_ (a8.cons Mu .nil) a ?_ (g.aw a);exact bw
def A':bL:=λargs b=>match args,b with
 |[.n (.aq (.c (.int .u64 1))),.n (.aq (.c (.int .u64 a)))],[]=>h (.Q [.aq (.c (.int .u64 0)),.aq (.c (.int .u64 a))],[],[a=2∨a=3])
 |_,_=>n
def ade:bM r 291 A':=by
 intro args i e g d a b;unfold A' at a;split at a
 .cases a;exact V3 _ b
 grind
abbrev lI:bL:=df eB (λa=>b2 (fB a)) λ_=>[]
abbrev iL(a:Option bE):z:=.Q [.aq (.c (.V (a.getD []))),.aq (.c (.bool a.isSome))]
def Ws(i:bM r 206 lI)(j):Y r 219 [b2 j] [] (iL (h' j)) []:=by
 refine Y.K func219 rfl λm=>?_;have d:a8 r [(257,A_),(251,df eB (λk=>bh (cC k)) λ_=>[]),(206,lI)]:=.cons adc (.cons Ek (.cons i .nil));by_cases b:cC (fi j)=f
 .by_cases e:fB (fi j)=j
  .refine a_ d [(10,l),(15,l)] a dA (g.aw a ?_);simp[h',b,e]
  refine a_ d [(10,l),(15,f)] a dA (g.aw a ?_);simp[h',b,e]
 refine a_ d [(10,f),(15,f)] a ?_ (g.aw a ?_)
 .simp[b]
 simp[h',b]
def adU(b:bM r 206 lI):bM r 219 (df eB (λa=>iL (h' a)) λ_=>[]):=.ba λa _=>Ws b a
def K0{j a}(b:h' j=h a):cC a=f:=by unfold h' at b;grind
abbrev BY(a:cW):z:=sn.a8 a
def TO(m:bM r 206 lI)(o)(i)(b:cK i=f):Y r 187 [BY o,S i] [] (iL (jJ i o)) []:=by
 refine Y.K func187 rfl λs=>?_;have e:a8 r [(219,df eB (λk=>iL (h' k)) λ_=>[]),(220,kg c8 eB c8 (λi d p=>bh (e7 i d==p)) λi d _=>[cK i=f,cC d=f])]:=.cons (adU m) (.cons ac' .nil);cases x:h' o.2 with
 |none=>
  refine a_ e [(16,f),(23,f)] a oS (g.aw a ?_);simp[jJ,x]
 |some d=>
  have q:=K0 x;by_cases j:e7 i d=o.1
  .refine a_ e [(16,l),(23,l)] a dA (g.aw a ?_);simp[jJ,x,j,b]
  refine a_ e [(16,l),(23,f)] a dA (g.aw a ?_);simp[jJ,x,j,b]
def Mx(d:bM r 206 lI):bM r 187 (en sn c8 (λb a=>iL (jJ a b)) λ_ a=>[cK a=f]):=.bm λb a e=>TO d b a e
def Vd(o)(k):Y r 304 [BY o,ax (.O [.int .i64 k])] [] (bh (o.1==k)) []:=by refine Y.K func304 rfl λb=>?_;exact aZ a v (g.aw a)
def Bb:bL:=λargs d=>match args,d with
 |[.n (.agg [.c (.int .i64 b),.c (.V a)]),.n (.aq (.c (.O [.int .i64 e])))],[]=>h (bh (b==e),[],[a=a])
 |_,_=>n
def adg:bM r 304 Bb:=by
 intro args m d e b a i;unfold Bb at a;split at a
 .rename_i j g k;cases a;exact Vd (j,g) k
 grind
abbrev H3(a:Int):z:=ax (.fn (.func 304) [] [.O [.int .i64 a]])
def po(b:m cW)(d:Int):Int:=match b.findIdx? (λe=>e.1==d)with|some a=>a|none=>-1
def ZP{q}{k}(a:e<c q)(j:(q.getD e (0,[])).1=k)(g:∀b,b<e->(q.getD b (0,[])).1≠k):po q k=e:=by
 have:q.findIdx? (λd=>d.1==k)=h e:=by rw[AE];refine⟨a,M,λb i=>?_⟩;grind
 rw[po,this]
def ZR{q}{k}(d:∀a,a<c q->(q.getD a (0,[])).1≠k):po q k=-1:=by have:q.findIdx? (λb=>b.1==k)=n:=wC;rw[po,this]
def UV(q)(k):Y r 303 [bG.S q,H3 k] [] (S (po q k)) []:=by
 refine Y.K func303 rfl λj=>?_;have p:=j.S 0 a;have d:a8 r [(304,Bb)]:=.cons adg .nil;refine b_ d a v (g.ca (λb=>b<=c q/\∀e,e<b->(q.getD e (0,[])).1≠k) (λb:Nat=>[(0,bG.S q),(1,H3 k),(7,S (c q)),(8,S b)]) (λ_=>[]) (λb=>c q-b) 0 a E a v ⟨by omega,by omega⟩ ?_);rintro b ⟨o,i⟩;by_cases m:b<c q
 .by_cases s:(q.getD b (0,[])).1=k
  .refine a_ d [(9,f),(16,f)] a ?_ (g.bS (bW.zero a ?_))
   .simp only[U,c5];grind
   simp[ZP m s i]
  refine a_ d [(9,f),(16,l)] a ?_ (g.b6 (b+1) a ?_ a v ?_ ?_)
  .simp only[U,c5];exact⟨by exact bK,v,eX.2 s,by omega,by omega,fm y⟩
  .simp
  .grind
  omega
 refine a_ d [(9,l)] a bV (g.bt a a ?_);refine b_ d a v (g.aw a ?_);simp[ZR (λe t=>i e y)]
def Ba:bL:=λargs d=>match args,d with
 |[e,.n (.aq (.c (.fn (.func 304) [] [.O [.int .i64 g]])))],[]=>match jW 2 e with
  |none=>n
  |some (b,a)=>h (S (po (bG.af b a) g),[],[bG.bU b a])
 |_,_=>n
def adf:bM r 303 Ba:=by
 intro args o i j g a d;unfold Ba at a;split at a
 .rename_i p k;split at a
  .cases a
  rename_i q m b;cases a;exact(UV _ k).args (λ_ B=>b5.imp (λ_=>bG.cC b d) (b5.imp (λ_ e=>e) (λ_ e=>e)) B)
 grind
def ZQ(q)(k):(po q k=-1/\q.find? (λb=>b.1==k)=n)∨∃a:Nat,a<c q/\po q k=a/\q.find? (λb=>b.1==k)=h (q.getD a (0,[])):=by unfold po;grind[List.findIdx?_eq_some_iff_getElem,List.find?_eq_some_iff_getElem]
def Wm(m:bM r 206 lI)(i)(b)(k)(p:cK i=f):Y r 277 [S i,fA b,S k] [] (iL (gp i b k)) []:=by
 refine Y.K func277 rfl λt=>?_;have d:a8 r [(303,Ba),(187,en sn c8 (λq i=>iL (jJ i q)) λ_ i=>[cK i=f])]:=.cons adf (.cons (Mx m) .nil);have u:bG.af (c b.2) (bG.fn b.2)=b.2:=bG.E _;refine gJ [] 7 a v (g.freeze 5 1 a a a ?_);rcases ZQ b.2 k with⟨o,j⟩|⟨e,bp,o,j⟩
 .refine a_ d [(14,f)] a bK (g.aw a ?_);simp[gp,j]
 refine a_ d [(14,l)] a bK (g.aw a ?_);have s:gp i b k=jJ i (b.2.getD e (0,[])):=by simp only[gp,j]
 simp_all
def ad0(e:bM r 206 lI):bM r 277 (kg c8 (jz bG) c8 (λa d b=>iL (gp a d b)) λa _ _=>[cK a=f]):=.cZ λa d b g=>Wm e a d b g
def yv:∀b(a:UInt8),Lib.indexByte b a<c b∨Lib.indexByte b a=-1
 |[],a=>.inr (by rw[Lib.indexByte.eq_def])
 |e::b,a=>by have d:=yv b a;grind[Lib.indexByte.eq_def]
set_option maxRecDepth 20000 in
theorem U6(b)(s):Y r 239 [b2 b,uZ s.toNat] [] (S (Lib.indexByte b s)) []:=by
 refine Y.K func239 rfl λK=>?_;have Q:=K.V 0 a;refine aZ a v (g.aq (o:=S (Lib.indexByte b s)) (ao:=[]) ?_ a ?_)
 .refine aV.a1 (λ_ _ _ _=>iY oR) ?_;refine a0.du λe d aa i=>?_;have u:=b7 (i (.tmp 5));have t:=b7 (i (.tmp 6));generalize p:d (.tmp 5)=M at u;generalize j:d (.tmp 6)=N at t;cases u with
  |V B I=>
  cases t with
  |int J=>
  have m:d (.func 286)=.func (.func 286) #[] #[]:=by
   have:=b7 (i (.func 286));generalize d (.func 286)=Z at this;cases this with
   |fn D z R w X W x y d1 d2=>
    grind
  have C:(callFunc 286 #[.string ‹ByteArray›,.int .u8 s.toNat]).run V e.a=.ok (.value (.int .i64 (Lib.indexByte b s))) e.a:=by rw[run_callFunc_extern func286 bJ bJ bJ (e:=Extern.BytealgIndexByte.indexByte) bJ,Lib.run_indexByteString];simp_all
  have F:dB V (Extern.BytealgIndexByte.indexByte #[.string ‹ByteArray›,.int .u8 s.toNat]):=by
   refine dB.bind (A:=Extern.Bytes.bytesOf (.string ‹ByteArray›)) (λ_ _=>rfl) λw=>dB.bind (A:=Extern.Bytes.asByte (.int .u8 s.toNat)) (λ_ _=>?_) λT=>?_
   .simp[Extern.Bytes.asByte]
   .skip
    split<;>exact .pure
  have E:=Im func286 bJ bJ bJ (ai:=Extern.BytealgIndexByte.indexByte) bJ _ F e.a #[];refine⟨.int .i64 (Lib.indexByte b s),?_,Rd.int ?_,?_⟩
  rotate_left 2
  .intro q k;simp[ac,resolve,Deferred.ofValue,invoke,p,j,m,E]at k;subst k;exact .inr ⟨_,a⟩
  .simp[ac,resolve,Deferred.ofValue,invoke,p,j,m,C]
  have O:=Lib.indexByte_ge b s;have ab:=yv b s;exact cQ
 exact wy
def qg(a:Nat->Int):Nat->m N:=λb=>[.int .u8 (a b)]
def Bytes(a:Nat->Int):Prop:=∀b,0<=a b/\a b<=255
abbrev ef(d:Nat)(a:Nat->Int)(b:Int):an:=.cells 77 [.c (.S l 1 d (qg a)),.c (.int .i64 b)]
def bk.cr{e}{fn}{args}{a:ι->m an}(q:Tryz.prog.funcs[e]?=h fn)(o:(fn.name== "runtime.NumGoroutine")=l)(d:fn.body=h s)(k:ay args.length fn.ntmps=f)(v:ky args p->g r fn.ntmps (λt j b=>∃i,bW fn p.length (res i) (a i) t j b) [.code s] .normal (h2 0 args) p):bk r e args p res a:=
 bk.e5 q o d k λu=>b0.bA (g.aW (v u))
def g.bJ{fn}{d}{a:ι->m an}(e)(k:g r D (bW fn d (res e) (a e)) ar .normal F p):g r D (λj F b=>∃i,bW fn d (res i) (a i) j F b) ar .normal F p:=
 g.bQ (λ_ _ _ o=>⟨e,o⟩) k
def qO(b:Nat)(d:Nat->Int)(a:Nat)(e:Int):Int:=
 if b=0 then 0 else if a<b then d a % e else
  ((d ((a:Int) % b).toNat*131+d (((a:Int)*7+3) % b).toNat*1117+a*29+(a:Int) / b*53).toNat ^^^ ((d ((a:Int) % b).toNat*131+d (((a:Int)*7+3) % b).toNat*1117+a*29+(a:Int) / b*53) / 64).toNat:Nat) % e
set_option maxRecDepth 20000 in
def IU(A)(d:Nat->Int)(p:Bytes d)(b:Nat)(k)(s:b<=4000000)(z:A<=1048576)(M:1<=k/\k<=4000000):
  Y r 34 [aG 0 0,S k] [ef A d b] (S (qO A d b k)) [ef A d (b+1)]:=by
 refine Y.K func34 rfl λv=>?_;have j:∀e,e<c ([ef A d b]:m an)->([0]:m Nat)[e]?=h e:=λe C=>by grind
 by_cases o:A=0
 .subst o;refine a6 [(17,l),(24,f)] a cQ (g.aS [0] a ?_ j);exact cQ
 have i:((b:Int)+1-1)=b:=y;have x:((b:Int)+1-1).toNat=b:=y;have w:=p b;by_cases E:(b:Int)<A
 .refine a6 [(17,l),(24,l),(36,f)] a ?_ (g.aS [0] a ?_ j)
  .simp only[U,i,c5,bA,dj,eX,a7];omega
  have:b<A:=y;simp[qO,o,this]
 refine bQ [(17,l),(24,l),(36,l)] a ?_ (g.aS [0] a ?_ j)
 .simp only[U,i,dj,eX,a7];have q:(0:Int)<A:=y;have B:=sC (b:Int) (by omega:(A:Int)≠0);have D:=sv (b:Int) q;have u:=sC ((b:Int)*7+3) (by omega:(A:Int)≠0);have F:=sv ((b:Int)*7+3) q;have w1:0<=(b:Int) / A:=Int.ediv_nonneg y y;have w2:(b:Int) / A<=b:=Int.ediv_le_self _ y;generalize(b:Int) % A=t at *;generalize((b:Int)*7+3) % A=aa at *;generalize(b:Int) / A=I at *;have J:=p t.toNat;have K:=p aa.toNat;grind
 have:¬b<A:=y;simp[qO,o,this,i]
def K7(A)(a:Nat->Int)(i)(k)(b:1<=k):0<=qO A a i k/\qO A a i k<k:=by
 unfold qO;split
 .omega
 split
 .exact⟨sC _ y,sv _ y⟩
 exact⟨sC _ y,sv _ y⟩
def hL(A)(a:Nat->Int)(t:Bytes a)(b:Nat)(k)(j:b<=4000000)(s:A<=1048576)(o:1<=k/\k<=4000000):
  bk (ι:={d:Int // 0<=d/\d<k}) r 34 [aG 0 0,S k] [ef A a b] (λd=>S d.1) (λ_=>[ef A a (b+1)]):=by have p:=IU (r:=r) A a t b k j s o;exact⟨p.1,λu B m i q e g=>p.2 u B m i q e (g ⟨_,K7 A a b k o.1⟩)⟩
def nj:∀a,a<1->([0]:m Nat)[a]?=h a:=λa b=>by grind
set_option maxRecDepth 20000 in
def Cl(A)(b:Nat->Int)(p:Bytes b)(e:Nat)(i:e<=4000000)(o:A<=1048576)(d)(u:1<=c d/\c d<=1000):
  bk (ι:={j:bE // j∈d}) r 63 [aG 0 0,bR.S d] [ef A b e] (λj=>b2 j.1) (λ_=>[ef A b (e+1)]):=by refine bk.cr func63 rfl rfl rfl λt=>?_;refine aZ a v (g.a_ (hL A b p e (c d) i o y) [0] a bl ?_);rintro⟨k,q,s⟩;refine aZ a bV ?_;have m:d.getD k.toNat bR.I∈d:=M;refine g.bJ ⟨d.getD k.toNat bR.I,m⟩ (g.aS [0] a ?_ nj);simp
def K3:m bE:=[[],[102],[97,47],[97,98],[97,47,98,47,99],[47,97]]
def K4:m bE:=[[97],[98],[99,47,97],[99,47,98],[100,47,97],[101],[97,47,98],[100]]
set_option maxRecDepth 20000 in
def IT(A)(d:Nat->Int)(m:Bytes d)(i:Nat)(o:i<=100000)(k:A<=1048576):
  bk (ι:={b:bE // c b<=8}) r 61 [aG 0 0] [ef A d i] (λb=>b2 b.1) (λ_=>[ef A d (i+1+1)]):=by
 refine bk.cr func61 rfl rfl rfl λt=>?_;refine aZ a v (g.a_ (hL A d m i 40 y k y) [0] a bl ?_);rintro⟨p,q,s⟩;by_cases u:p=0
 .refine a6 [(5,f)] a gV ?_;have:=Cl (r:=r) A d m (i+1) y k K3 ca;refine g.bV this [0] a a a a ?_ a a a bl a bl a ?_
  .refine⟨a,λe bp=>?_⟩;rcases e with _|_|_|_|_|_|e<;>first|rfl|omega
  rintro⟨b,j⟩;refine aZ a v (g.bJ ⟨b,(by decide:∀b∈K3,c b<=8) b j⟩ (g.aS [0] a ?_ nj));simp
 refine a6 [(5,l)] a gV ?_;have:=Cl (r:=r) A d m (i+1) y k K4 ca;refine g.bV this [0] a a a a PH a a a bl a bl a ?_;rintro⟨b,j⟩;refine aZ a v (g.bJ ⟨b,(by decide:∀b∈K4,c b<=8) b j⟩ (g.aS [0] a ?_ nj));simp
def Nf:m bE:=[[97,98,99],[104,101,108,108,111],[119,111,114,108,100],[97,97,97,97],[107,101,101,112],[122,122],[98,97,99,107,117,112],[113]]
abbrev RI(b:Nat):={a:bE×Nat // c a.1<=100000/\b<=a.2/\a.2<=b+60}
def IN(b)(k)(w:c b<=10)(B:0<=k/\k<=100):bk (ι:={p:bE // c p<=100000}) r 112 [b2 b,S k] [] (λp=>b2 p.1) (λ_=>[]):=by
 refine bk.cr func112 rfl rfl rfl λx=>?_;refine aZ a v (g.ca (λm:Nat×bE×bE=>m.1<=100/\c m.2.2+c m.2.1*m.1<=1010) (λm=>[(0,b2 m.2.1),(1,S m.1),(5,b2 m.2.2)]) (λ_=>[]) (λm=>m.1) (k.toNat,b,[]) a bV a v ⟨by grind,?_⟩ ?_)
 .have:c b*k.toNat<=10*100:=Nat.mul_le_mul w y;grind
 rintro⟨d,i,j⟩ ⟨s,t⟩;simp only at s t;by_cases o:0<d
 .have e:c i<=c i*d:=uu _ o;have z:((d:Int) / 2)=((d / 2:Nat):Int):=y;by_cases A:d % 2=1
  .have q:c (i++i)*(d / 2)+c i=c i*d:=by have u:d=2*(d / 2)+1:=y;grind
   refine a6 [(7,f),(10,f)] a bw (g.b6 (d / 2,i++i,j++i) a E a v M ?_);grind
  have q:c (i++i)*(d / 2)=c i*d:=by have u:d=2*(d / 2):=y;grind
  refine a6 [(7,f),(10,l)] a bw (g.b6 (d / 2,i++i,j) a E a v M ?_);grind
 obtain rfl:d=0:=y;refine a6 [(7,l)] a E (g.bt a a ?_);exact aZ a v (g.bJ ⟨j,by omega⟩ (g.aw a))
set_option maxRecDepth 20000 in
def Xw(A)(d:Nat->Int)(k:Bytes d)(i)(I:i<=100000)(m:A<=1048576):
  bk (ι:=RI i) r 62 [aG 0 0] [ef A d i] (λw=>b2 w.1.1) (λw=>[ef A d w.1.2]):=by
 refine bk.cr func62 rfl rfl rfl λO=>?_;refine aZ a v (g.a_ (hL A d k i 5 y m y) [0] a bl ?_);rintro⟨T,U,V⟩;refine aZ a v (g.aL 1 (λb:Nat×bE×Nat=>b.1<=4/\c b.2.1+6*b.1<=24/\i<=b.2.2/\b.2.2+b.1<=i+5) (λb=>[(0,aG 0 0),(4,S b.1),(3,b2 b.2.1)]) (λb=>[ef A d b.2.2]) (λb=>b.1) (T.toNat,[],i+1) a bV a E a ⟨by omega,by grind,by simp,by grind⟩ ?_);rintro⟨o,b,k1⟩ ⟨C,J,F,Z⟩;simp only at C J F Z;by_cases u:0<o
 .refine a6 [(9,f)] a gV ?_;have:=Cl (r:=r) A d k k1 y m Nf ca;refine g.bV this [0] a a a a PH a a a bl a bl a ?_;rintro⟨j,s⟩;have ae:c j<=6:=(by decide:∀j∈Nf,c j<=6) j s;refine aZ a oP (g.aA (o-1,b++j,k1+1) a bV E M ?_);grind
 obtain rfl:o=0:=y;refine a6 [(9,l)] a E (g.aC ?_);refine aZ a v (g.a_ (hL A d k k1 4 y m y) [0] a bl ?_);rintro⟨R,ab,ad⟩;by_cases B:R=0
 .refine a6 [(19,f)] a (by simp[B]) (g.a_ (hL A d k (k1+1) 12 y m y) [0] a bl ?_);rintro⟨W,X,w1⟩;refine aZ a v (g.aL 1 (λb:Nat×bE×Nat=>b.1<=11/\c b.2.1+b.1<=36/\i<=b.2.2/\b.2.2+b.1<=i+20) (λb=>[(0,aG 0 0),(5,S b.1),(3,b2 b.2.1)]) (λb=>[ef A d b.2.2]) (λb=>b.1) (W.toNat,b,k1+2) a bV a bV a ⟨by omega,by grind,by grind,by grind⟩ ?_);rintro⟨o,p,q⟩ ⟨z,Q,H,N⟩;simp only at z Q H N;by_cases u:0<o
  .refine a6 [(23,f)] a gV (g.a_ (hL A d k q 26 y m y) [0] a bl ?_);rintro⟨Y,aa,L⟩;refine aZ a oP (g.aA (o-1,p++[UInt8.ofNat (97+Y).toNat],q+1) a bV E M ?_);grind
  obtain rfl:o=0:=y;refine a6 [(23,l)] a E (g.aC ?_);refine a6 [(36,l)] a bV (g.a_ (hL A d k q 60 y m y) [0] a bl ?_);rintro⟨t,G,K⟩;by_cases D:t=0
  .refine a6 [(41,f)] a bw (g.bJ ⟨(p++[65],q+1),by grind,by grind,by grind⟩ (g.aS [0] a ?_ nj));simp
  by_cases x:t=1
  .refine a6 [(41,l),(45,f)] a oS (g.a_ (IN [97,98,99,100,101] 9 ca ca) [] a bl ?_);rintro⟨j,s⟩;refine aZ a v (g.bJ ⟨(j,q+1),s,by grind,by grind⟩ (g.aS [0] a ?_ nj));simp
  refine a6 [(41,l),(45,l)] a bw (g.bJ ⟨(p,q+1),by grind,by grind,by grind⟩ (g.aS [0] a ?_ nj));simp
 refine gJ [(19,l)] 2 a (by simp[B]) (a6 [(36,l)] a bV (g.a_ (hL A d k (k1+1) 60 y m y) [0] a bl ?_));rintro⟨t,G,K⟩;by_cases D:t=0
 .refine a6 [(41,f)] a bw (g.bJ ⟨(b++[65],(k1+1)+1),by grind,by grind,by grind⟩ (g.aS [0] a ?_ nj));simp
 by_cases x:t=1
 .refine a6 [(41,l),(45,f)] a oS (g.a_ (IN [97,98,99,100,101] 9 ca ca) [] a bl ?_);rintro⟨j,s⟩;refine aZ a v (g.bJ ⟨(j,(k1+1)+1),s,by grind,by grind⟩ (g.aS [0] a ?_ nj));simp
 refine a6 [(41,l),(45,l)] a bw (g.bJ ⟨(b,(k1+1)+1),by grind,by grind,by grind⟩ (g.aS [0] a ?_ nj));simp
def Wj(A)(b:Nat->Int)(i:A<=1048576):bk (ι:={d:Nat // d<=1048576}) r 14 [ax (.S l 1 A (qg b))] [] (λ_=>aG 0 0) (λd=>[ef d.1 b 0]):=by
 refine bk.cr func14 rfl rfl rfl λk=>?_;by_cases m:2000<A
 .refine a6 [(5,f)] a bV (g.bf [ef 2000 b 0] a ?_ (g.bJ ⟨2000,by decide⟩ (g.aS [0] a ?_ (λj e=>by grind))))
  .simp[bt,fx,bT]
  simp
 exact a6 [(5,l)] a bV (g.bJ ⟨A,i⟩ (g.aS [0] a E (λj e=>by grind)))
def CE:∀a,a<1->([0]:m Nat)[a]?=h a:=ca
def s5:∀a,a<2->([0,1]:m Nat)[a]?=h a:=ca
def gn:m cW->m Z
 |[]=>[]
 |a::b=>.int .i64 a.1::jg a.2::gn b
def gi(b:m cW):Prop:=∀a∈b,a7 .i64 a.1/\c a.2<=9223372036854775807
theorem yd:∀a:m cW,c (gn a)=c a*2
 |[]=>rfl
 |d::b=>by simp only[gn,fl,yd b];omega
def Jj:∀{d:m cW}{e:Nat},e<c d->(gn d)[e*2]?=h (.int .i64 (d.getD e (0,[])).1)/\(gn d)[e*2+1]?=h (jg (d.getD e (0,[])).2)
 |[],e,a=>absurd a (iF _)
 |g::b,0,_=>⟨rfl,rfl⟩
 |g::b,e+1,a=>by rw[show(e+1)*2=e*2+1+1 by omega];exact Jj (d:=b) (e:=e) M
def CG:∀b a:m cW,gn (b++a)=gn b++gn a
 |[],a=>rfl
 |d::b,a=>by simp only[uz,gn,CG b a]
theorem Jk:∀b(a:Nat)d,a<c b->gn (b.set a d)=(gn b).take (a*2)++[.int .i64 d.1,jg d.2]++(gn b).drop (a*2+2)
 |[],a,d,e=>absurd e (iF _)
 |g::b,0,d,_=>by simp[gn]
 |g::b,a+1,d,e=>by rw[List.set_cons_succ,gn,Jk b a d M,gn,show(a+1)*2=a*2+1+1 by omega,show a*2+1+1+2=(a*2+2)+1+1 by omega];simp
theorem CH{d}(p:gi d):eg 2 (c d) (bG.fn d) (gn d):=by
 refine⟨yd d,λb _=>rfl,λb e q r a=>?_⟩;obtain⟨j,k⟩:=Jj e;obtain⟨o,g⟩:=p (d.getD b (0,[])) M;have m:bG.fn d b=[.int .i64 (d.getD b (0,[])).1,.V (d.getD b (0,[])).2]:=rfl;rw[m]at a
 match q,a with
 |0,a=>cases a;exact⟨_,j,λi=>Rd.int o⟩
 |1,a=>cases a;exact⟨_,k,λi=>Rd.V M g⟩
abbrev g2(a:Z):z:=ax (.val a)
abbrev aE(a:fj)(d:Nat)(b:m cW):an:=.J (ck 103 2 a d (gn b))
abbrev ir(b:Nat)(a:fj)(d:Nat):an:=.J (eb b 250 (cX a d))
abbrev sT(a:cW):z:=ax (.cD 103 [.int .i64 a.1,.V a.2])
abbrev xR(a:cW):z:=.n (.agg [.c (.int .i64 a.1),.c (.V a.2)])
theorem aes{a:cW}(o:m7 B [.c (.int .i64 a.1),.c (.V a.2)]):B=[.int .i64 a.1,jg a.2]:=by
 obtain⟨j,e⟩:=o
 match B,j with
 |[r,s],_=>
  obtain⟨p,i,b⟩:=e 0 _ rfl;obtain⟨q,k,d⟩:=e 1 _ rfl;cases i;cases k;have g:=b λ_ _=>n;have m:=(Eh (d λ_ _=>n)).1;cases g;rw[m]
def R4(b:t.op=.call {callee:=.builtin .append,args:=#[o,X],argTypes:=#[250,250]}):j4 V t o X 103 lX:=
 ⟨⟨250,250,CV,CV,b,(bd _ _ a),rfl,(bd _ _ a),rfl⟩,(bd _ _ a),by decide,by decide⟩
def Cb(bO)(k)(d):Y r 207 [g2 (cX bO k)] [aE bO k d] (S k) [aE bO k d]:=by refine Y.K func207 rfl λb=>?_;refine gJ [] 7 a v ?_;refine g.jl bd 0 a a a a a a a a ?_;exact aZ a v (g.aS [0] a a CE)
def Cc(j cap){d}(m:gi d)(p:Nat)(b:e<c d)(k:w<c d):Y r 345 [g2 (cX (.row j cap) (c d)),S e,S w] [aE (.row j cap) (c d) d] (bh (decide ((d.getD e (0,[])).1<(d.getD w (0,[])).1))) [aE (.row j cap) (c d) d]:=by
 refine Y.K func345 rfl λo=>?_
 have i:=CH m;refine a6 [(1000001,f)] a v ?_;refine g.gh b6 [g2 (cX (.row j cap) (c d)),S e,g2 (.pointer (h ⟨j,0+(e:Int).toNat*2,n⟩)),g2 (.pointer (h ⟨j,0+(e:Int).toNat*2+0,n⟩)),S (d.getD e (0,[])).1,g2 (cX (.row j cap) (c d)),S w,g2 (.pointer (h ⟨j,0+(w:Int).toNat*2,n⟩)),g2 (.pointer (h ⟨j,0+(w:Int).toNat*2+0,n⟩)),S (d.getD w (0,[])).1,bh (decide ((d.getD e (0,[])).1<(d.getD w (0,[])).1))] 10 a a a a a ⟨
  aV.y,aV.y,aV.eval (bg:=[]) bd a8.nil a bw,aV.y,
  aV.a1 (j1 a) (a0.e9 (d:=0) (e:=e) (ae:=0) bd a a E a i a a b),
  aV.y,aV.y,aV.eval (bg:=[]) bd a8.nil a bw,aV.y,
  aV.a1 (j1 a) (a0.e9 (d:=0) (e:=w) (ae:=0) bd a a E a i a a k),
  aV.y,v⟩ ?_
 exact aZ a v (g.aS [0] a a CE)
def Mp{cap}{d}{aa}(u:t.op=.store q o X)(m:bZ eR q=h lX)(b:off=e*2)(s:bF F o=cM (.pointer (h ⟨j,off,n⟩)))(g:mo (bF F X)=h [.c (.int .i64 aa.1),.c (.V aa.2)])(y:c d=k)(v:e<c d)(x:t.guard=n):
  aV r D all t F [aE (.row j cap) k d] .any [aE (.row j cap) k (d.set e aa)]:=by subst b;have w:=ey.eN (D:=D) (p:=[aE (.row j cap) k d]) bd 0 (W:=103) (i:=2) (k:=k) (j:=j) (cap:=cap) (off:=e*2) (ag:=gn d) u m s g a a a (by grind[yd]);grind[aes,Jk,aV.fe]
abbrev Mt(d a:Nat)(b:m cW)(e g:Nat)(i j:Bool):m an:=match i with
 |false=>[aE (.row d a) (c b) b]
 |true=>match j with
  |false=>[aE (.row d a) (c b) (b.set e (b.getD g (0,[])))]
  |true=>[aE (.row d a) (c b) (jt b e g)]
def Cd(j cap){d}(p:gi d)(b:e<c d)(o:w<c d):Y r 348 [g2 (cX (.row j cap) (c d)),S e,S w] [aE (.row j cap) (c d) d] (.Q []) [aE (.row j cap) (c d) (jt d e w)]:=by
 refine Y.K func348 rfl λs=>?_;have x:=CH p;refine a6 [(1000000,f)] a v ?_;let i:Nat->z:=λq=>([g2 (cX (.row j cap) (c d)),S e,g2 (cX (.row j cap) (c d)),S w,g2 (cX (.row j cap) (c d)),S w,g2 (.pointer (h ⟨j,0+(w:Int).toNat*2,n⟩)),xR (d.getD w (0,[])),g2 (cX (.row j cap) (c d)),S e,g2 (.pointer (h ⟨j,0+(e:Int).toNat*2,n⟩)),xR (d.getD e (0,[])),g2 (.pointer (h ⟨j,0+(e:Int).toNat*2,n⟩)),.any,g2 (.pointer (h ⟨j,0+(w:Int).toNat*2,n⟩))]:m z).getD q .any
 refine g.cu b6 i (pg (Mt j cap d e w) 13 15) a a a a ⟨
  .bI,.bI,.bI,.bI,.bI,.bI,
  .dr bd a8.nil,
  cp.hd a a a a (aV.a1 (j1 a) (a0.e9 (d:=0) (e:=w) (ae:=0) bd a a E a x a a o)),
  .bI,.bI,
  .dr bd a8.nil,
  cp.hd a a a a (aV.a1 (j1 a) (a0.e9 (d:=0) (e:=e) (ae:=0) bd a a E a x a a b)),
  .dr bd a8.nil,
  cp.gA a a ?_,
  .dr bd a8.nil,
  cp.gB a a ?_,v⟩ ?_
 .exact Mp a a E a a a b a
 .exact Mp a a E a a E M a
 intro z k;show g r _ _ _ _ _ (Mt j cap d e w (z 13) (z 15));rw[k 13 ca,k 15 ca];exact bW.di [0] a v a a a CE
def UB(C)(bO){d}(A:gi d)(D:c d<=1000){o}(B:c o.2<=9223372036854775807):
  bk (ι:=fj) r 347 [g2 (.pointer (h ⟨C,0,n⟩)),sT o] [ir C bO (c d),aE bO (c d) d] (λ_=>.Q []) (λb=>[ir C b (c d+1),aE b (c d+1) (d++[o])]):=by
 refine bk.cr func347 rfl rfl rfl λy=>?_;refine a6 [(1000000,f)] a v ?_;have j:=tK bO (c d);refine g.eI (ι:=fj) b6 7 8 10 (λi=>ay i 6) (λi=>([g2 (.pointer (h ⟨C,0,n⟩)),g2 (.pointer (h ⟨C,0,n⟩)),g2 (.pointer (h ⟨C,0,n⟩)),g2 (cX bO (c d)),sT o,xR o,ax (.S f 2 1 λq=>([[.int .i64 o.1,.V o.2]]:m (m N)).getD q [])]:m z).getD i .any) (λb _=>g2 (cX b (c d+1))) (λb=>[ir C bO (c d),.J (ck 103 2 b (c d+1) (gn d++[.int .i64 o.1,jg o.2]))])
  rfl rfl rfl rfl rfl rfl rfl (λi x=>by exact lJ) rfl
  ⟨aV.y,aV.y,aV.a1 (j1 a) (a0.dS a a),aV.eD bd 0 a a a a a j a,aV.y,aV.a1 (j1 a) (a0.ga (ah:=[.int .i64 o.1,.V o.2]) bd a a a a),aV.y,v,v,v,v⟩
  (λb=>⟨aV.y,aV.y,aV.a1 (j1 a) (a0.dS a a),aV.eD bd 0 a a a a a j a,aV.y,aV.a1 (j1 a) (a0.ga (ah:=[.int .i64 o.1,.V o.2]) bd a a a a),aV.y,v,v⟩)
  (dx.fe a (ey.fu (d:=1) (bO:=bO) (ag:=gn d) (k:=c d) (hX:=[.int .i64 o.1,jg o.2]) (R4 a) a a a a a (λu E s w e t=>?_) zX)) λb=>?_
 .match s,e with
  |0,e=>cases e;cases t;exact bK
  |1,e=>grind[Eh]
 have p:=tK b (c d+1);refine g.aO (a0.dS a a) a a ?_;refine g.h2 bd 0 a a a a a (by cases b<;>rfl) p a a a ?_;refine aZ a v ⟨b,bW.di [0,1] a v ?_ a a s5⟩;show h [_,an.J (ck _ _ _ _ (gn d++_))]=h [_,an.J (ck _ _ _ _ (gn (d++[o])))];rw[CG];rfl
def ck.cut{cap}{d}{o}(k:ck W 2 (.row j cap) (c d+1) (gn (d++[o])) aa k8):ck W 2 (.row j cap) (c d) (gn d) aa k8:=by obtain⟨a,b,s,q,g,i,p,r⟩:=k;rw[CG]at *;refine⟨a,λm e=>b m (List.mem_append_left _ e),yd d,by omega,g,gn [o]++i,M,?_⟩;grind
def UA(C j cap){d}{o}(q:gi (d++[o]))(s:c d<=1000)(b:c d+1<=cap):
  Y r 346 [g2 (.pointer (h ⟨C,0,n⟩))] [ir C (.row j cap) (c d+1),aE (.row j cap) (c d+1) (d++[o])] (sT o) [ir C (.row j cap) (c d),aE (.row j cap) (c d) d]:=by
 refine Y.K func346 rfl λp=>?_;have i:eg 2 (c d+1) (bG.fn (d++[o])) (gn (d++[o])):=by grind[CH,List.length_append]
 refine aZ a v (g.aO (a0.dS a a) a a ?_);refine g.aq (aV.eD bd 0 a a a a a a a) a ?_;refine aZ a bK (g.aO (a0.dS a a) a a ?_);refine g.aq (aV.eD bd 0 a a a a a a a) a ?_;refine aZ a bw (g.aO (a0.e9 (d:=1) (e:=c d) (ae:=0) bd a a (by simp[show lX.size=2 from a]) a i a a E) a a ?_);refine aZ a v (g.aO (a0.dS a a) a a ?_);refine g.aq (aV.eD bd 0 a a a a a a a) a ?_;refine aZ a v (g.aO (a0.jV bd a a a a a a b y y) a a ?_);rw[show(((c d+1:Nat):Int)-1).toNat=c d from by omega];refine g.aO (a0.dS a a) a a ?_;refine g.h2 bd 0 a a a a a a a a a a ?_;refine gJ [] 2 a v (g.gy (ι:=Unit) 1 (λ_=>ck 103 2 (.row j cap) (c d) (gn d)) a (λt k m=>⟨(),ck.cut m⟩) λ_=>?_);refine aZ a v (g.aS [0,1] a ?_ s5);simp
abbrev sU(a:Nat):z:=ax (.cd 249 (.val (.pointer (h ⟨a,0,n⟩))))
section
variable {p:m an}{d C k:Nat}{bO:fj}(x:c7 d p=h (ir C bO k))
include x
def Jd:nT V p 249 (.pointer (h ⟨C,0,n⟩)) "Len" 207 (cX bO k):=.deref bd (hy type249) rfl rfl rfl underlying249 x rfl (tK bO k) rfl
def Cv:nT V p 249 (.pointer (h ⟨C,0,n⟩)) "Less" 345 (cX bO k):=.deref bd (hy type249) rfl rfl rfl underlying249 x rfl (tK bO k) rfl
def Cx:nT V p 249 (.pointer (h ⟨C,0,n⟩)) "Swap" 348 (cX bO k):=.deref bd (hy type249) rfl rfl rfl underlying249 x rfl (tK bO k) rfl
end
def XW{p}{aa}:nT V p 249 aa "Push" 347 aa:=.ptr (hy type249) rfl rfl rfl underlying249
def XV{p}{aa}:nT V p 249 aa "Pop" 346 aa:=.ptr (hy type249) rfl rfl rfl underlying249
theorem tO{d}(i:gi d){e w}(a:e<c d)(b:w<c d):gi (jt d e w):=λj g=>i j (ac1 a b g)
theorem EE:∀b(d:m cW)a,a<b->iX b d a=iX (a+1) d a
 |0,_,_,g=>absurd g (iF _)
 |b+1,d,a,g=>by
  rw[iX,iX];by_cases e:(a-1) / 2=a
  .grind
  rw[bm e,bm e];split
  .have s:(a-1) / 2<a:=y;rw[EE b _ _ y,EE a _ _ s]
  simp
def UC(C j cap){d}(u:gi d)(N:c d<=1000){w}(B:w<c d):
  Y r 250 [sU C,S w] [ir C (.row j cap) (c d),aE (.row j cap) (c d) d] (.Q []) [ir C (.row j cap) (c d),aE (.row j cap) (c d) (iX (w+1) d w)]:=by
 refine Y.K func250 rfl λK=>?_;refine gJ [] 3 a v (g.dF 2 [0] (λb:m cW×Nat=>gi b.1/\c b.1=c d/\b.2<c d/\iX (w+1) d w=iX (b.2+1) b.1 b.2) (λb=>[(1,S b.2)]) (λb=>[ir C (.row j cap) (c b.1),aE (.row j cap) (c b.1) b.1]) (λb=>b.2) (d,w) a E a E a ⟨u,a,B,a⟩ ?_);rintro⟨b,e⟩ ⟨q,F,I,k⟩;simp only at q F I k;cases e with
 |zero=>
  have p:iX (0+1) b 0=b:=by rw[iX,br a]
  rw[p]at k;rw[k];refine gJ [] 5 a ly (g.aO (JW (i:=.i64) 0 a a a ly (λJ=>rfl) (λJ=>rfl)) a a ?_);refine a6 [(11,f),(17,f)] a E (g.aC ?_);exact OL
 |succ e=>
  refine a6 [(11,l),(1000001,f)] a lJ ?_;have D:(((e+1:Nat):Int)-1) / 2=((e / 2:Nat):Int):=y;rw[D];have A:(e+1-1) / 2=e / 2:=M;have t:e / 2<c b:=y;have s:e+1<c b:=y;have p:iX (e+1+1) b (e+1)=if nA b (e+1) (e / 2)=f then iX (e+1) (jt b (e / 2) (e+1)) (e / 2)else b:=by rw[iX,bm y,A]
  rw[p]at k;refine g.region ?_;refine a6 [(11,l)] a bw (g.ds (Cc j cap q (c b) s t).tocD [1] (Cv (d:=0) a) a a a a a a a a bl a bl a λ_=>?_);by_cases o:nA b (e+1) (e / 2)=f
  .rw[br o]at k;have z:=rl o;refine a6 [(17,l)] a dA (g.ds (Cd j cap q t s).tocD [1] (Cx (d:=0) a) a a a a a a a a bl a bl a λ_=>?_);refine aZ a v (g.aA (jt b (e / 2) (e+1),e / 2) a E ?_ ?_ ?_)
   .simp[pI]
   .grind [tO,pI,EE]
   grind
  rw[bm o]at k;rw[k];have z:¬(b.getD (e+1) (0,[])).1<(b.getD (e / 2) (0,[])).1:=λx=>o (fm x);refine a6 [(17,f)] a dA (g.aC ?_);exact OL
def JD{p}{e k}{bO}{d}(t:c7 e p=h (aE bO k d))(s:0<k)(b)(j:bb p b):∃i g,bO=.row i g/\k<=g:=by
 have m:=ej t;obtain⟨i,g,rfl⟩:=(ck.len m b j).2.2.1 s;have o:e<c b.l:=by rw[j.len];grind
 obtain⟨q,r,_⟩:=j.box e _ _ m (bI o);exact⟨i,g,a,r.2.2.2.1⟩
def UP(C)(bO){d}(m:gi d)(D:c d<=100){o}(x:a7 .i64 o.1/\c o.2<=9223372036854775807):
  bk (ι:=fj) r 205 [sU C,sT o] [ir C bO (c d),aE bO (c d) d] (λ_=>.Q []) (λi=>[ir C i (c d+1),aE i (c d+1) (hD d o)]):=by
 refine bk.cr func205 rfl rfl rfl λB=>?_;refine aZ a v (g.ds (UB C bO m y x.2) [0,1] XW a a a a a a a a bl a bl a λi=>?_);have s:gi (d++[o]):=λz t=>by
  rcases gl.1 t with q|q
  .exact m z q
  grind
 refine g.fB (JD (e:=1) (k:=c d+1) (bO:=i) (d:=d++[o]) a y) λu=>?_;obtain⟨j,b,rfl,A⟩:=u;refine aZ a v (g.ds (Cb (.row j b) (c d+1) (d++[o])).tocD [1] (Jd (d:=0) a) a a a a a a a a bl a bl a λ_=>?_);refine aZ a bK ?_;rw[show((c d+1:Nat):Int)-1=(c d:Nat) by omega];have p:=UC (r:=r) C j b s M (w:=c d) E;rw[dn,gW]at p;exact g.aF p [0,1] a (aZ a v ⟨.row j b,bW.di [0,1] a v a a a s5⟩)
theorem xY:∀e g(d:m cW)a b,b<=a+e->b<=a+g->g3 e d a b=g3 g d a b
 |0,0,_,_,_,_,_=>rfl
 |0,g+1,d,a,b,i,_=>by rw[g3,g3,br y]
 |e+1,0,d,a,b,_,i=>by rw[g3,g3,br y]
 |e+1,g+1,d,a,b,k,o=>by
  have j:a<jl d a b:=FF;rw[g3,g3];split
  .rfl
  split
  .exact xY e g _ _ _ y y
  simp
def Uz(C j cap k){d}(I:gi d)(Q:k<=c d)(V:c d<=1000):
  Y r 254 [sU C,S 0,S k] [ir C (.row j cap) (c d),aE (.row j cap) (c d) d] .any [ir C (.row j cap) (c d),aE (.row j cap) (c d) (g3 k d 0 k)]:=by
 refine Y.K func254 rfl λO=>?_;refine cu a v (g.dF 2 [0,1,2] (λb:m cW×Nat=>gi b.1/\c b.1=c d/\b.2<=k/\g3 k d 0 k=g3 k b.1 b.2 k) (λb=>[(7,S b.2)]) (λb=>[ir C (.row j cap) (c b.1),aE (.row j cap) (c b.1) b.1]) (λb=>k-b.2) (d,0) a E a E a ⟨I,a,by omega,a⟩ ?_);rintro⟨b,e⟩ ⟨q,K,N,i⟩;simp only at q K N i;by_cases F:k<=2*e+1
 .have x:g3 k b e k=b:=by rw[xY k (k+1) _ _ _ y y,g3,br F]
  rw[x]at i;rw[i];refine a6 [(17,f),(21,f)] a Rk (g.aC ?_);exact N9
 have z:e<jl b e k/\jl b e k<k:=FF;have x:g3 k b e k=if nA b (jl b e k) e=f then g3 k (jt b e (jl b e k)) (jl b e k) k else b:=by rw[xY k (k+1) _ _ _ y y,g3,bm F]
 rw[x]at i;have J:2*e+1<c b:=y;have B:e<c b:=y;have A:2*(e:Int)+1=((2*e+1:Nat):Int):=y;have M:((2*e+1:Nat):Int)+1=((2*e+2:Nat):Int):=y;refine a6 [(17,l),(21,l),(1000004,f)] a Rj ?_;rw[A];refine a6 [(1000006,f)] a Rj ?_;rw[M];apply g.cg [(0,sU C),(1,S 0),(2,S k),(7,S e),(9,S (jl b e k))] [ir C (.row j cap) (c b),aE (.row j cap) (c b) b]
 .intro du;by_cases D:2*e+2<k
  .refine g.region ?_;refine a6 [(28,f)] a bw (g.ds (Cc j cap q (c b) (e:=2*e+2) (w:=2*e+1) y J).tocD [1] (Cv (d:=0) a) a a a a a a a a bl a bl a λ_=>?_);by_cases s:nA b (2*e+2) (2*e+1)=f
   .have t:jl b e k=2*e+2:=br ⟨D,s⟩;refine a6 [(33,f),(1000008,f)] a (by simpa using rl s) (du _ _ a ?_);simp[t]
   have t:jl b e k=2*e+1:=bm λo=>s o.2;have u:¬(b.getD (2*e+2) (0,[])).1<(b.getD (2*e+1) (0,[])).1:=λo=>s (fm o);refine a6 [(33,l),(1000008,f)] a (by simpa using u) (du _ _ a ?_);simp[t]
  have t:jl b e k=2*e+1:=bm λo=>D o.1;refine a6 [(28,l),(33,l),(1000008,f)] a bw (du _ _ a ?_);simp[t]
 generalize jl b e k=p at *;obtain⟨T,R⟩:=z;refine g.region ?_;refine aZ a v (g.ds (Cc j cap q (c b) (e:=p) (w:=e) y B).tocD [1] (Cv (d:=0) a) a a a a a a a a bl a bl a λ_=>?_);by_cases s:nA b p e=f
 .rw[br s]at i;refine a6 [(39,l)] a (by simpa using rl s) (g.ds (Cd j cap q B (show p<c b by omega)).tocD [1] (Cx (d:=0) a) a a a a a a a a bl a bl a λ_=>?_);refine aZ a v (g.aA (jt b e p,p) a E ?_ ?_ ?_)
  .simp[pI]
  .grind [tO,pI]
  grind
 rw[bm s]at i;rw[i];have u:¬(b.getD p (0,[])).1<(b.getD e (0,[])).1:=λo=>s (fm o);refine a6 [(39,f)] a (by simpa using u) (g.aC ?_);exact N9
def B4{k}:∀e{a:m cW}(d:Nat),gi a->d<c a->k<=c a->gi (g3 e a d k)
 |0,_,_,b,_,_=>b
 |e+1,a,d,b,g,j=>by
  rw[g3];split
  .exact b
  have i:jl a d k<k:=FF;split
  .exact B4 e _ (tO b g y) pR pR
  grind
def UO(C j cap){d}{k}(m:gi d)(t:c d=k+1)(A:k<=100)(u:k+1<=cap):
  Y r 208 [sU C] [ir C (.row j cap) (k+1),aE (.row j cap) (k+1) d] (sT ((g9 d).getD k (0,[]))) [ir C (.row j cap) k,aE (.row j cap) k ((g9 d).take k)]:=by
 refine Y.K func208 rfl λD=>?_;refine aZ a v (g.ds (Cb (.row j cap) (k+1) d).tocD [1] (Jd (d:=0) a) a a a a a a a a bl a bl a λ_=>?_);refine aZ a bK ?_;rw[show((k+1:Nat):Int)-1=((k:Nat):Int) by omega];have s:=Cd (r:=r) j cap m (e:=0) (w:=k) y y;rw[t]at s;refine g.ds s.tocD [1] (Cx (d:=0) a) a a a a a a a a bl a bl a λ_=>?_;have p:=tO m (e:=0) (w:=k) y y;have i:=Uz (r:=r) C j cap k p pR pR;have b:=B4 (k:=k) k 0 p pR pR;have q:g3 k (jt d 0 k) 0 k=g9 d:=by unfold g9;grind[xY]
 rw[pI,t,q]at i;rw[q]at b;have z:g9 d=(g9 d).take k++[(g9 d).getD k (0,[])]:=by
  have F:c (g9 d)=k+1:=by grind[Lg]
  apply rm
  .grind
  grind
 generalize(g9 d).getD k (0,[])=o at *;have x:c ((g9 d).take k)=k:=M;generalize(g9 d).take k=B at *;rw[z]at i b;subst x;refine aZ a v (g.aF i [0,1] a (aZ a v (g.ds (UA C j cap b y u).tocD [0,1] XV a a a a a a a a bl a bl a λ_=>?_)));refine aZ a v (g.aS [0,1] a E s5)
def aaH{ad}(u:t.op=.binOp op q o X ty){s}{cr}(k:P.underlying q=h (.interface cr))(w:η o=ax .bo)(v:η X=ax (.val (.iface ad aa)))(x:∀Q,(eqGuard op q o X .nilIface (.iface ad aa)).run P Q=.ok () Q)(ae:∀Q a,(eqGuard op q o X .nilIface (.iface ad aa)).events P Q a=a)(d:h9 op l=h s):a0 P t η p (ax (.bool s)) p:=by
 refine .aZ λb m A r=>?_;have g:=r o;have e:=r X;rw[w]at g;rw[v]at e;replace g:=b7 g;replace e:=b7 e;generalize j:m o=y at g;generalize I:m X=z at e;cases g;cases e;have i:(Op.equal q .nilIface (.iface ad aa)).run P b.a=.ok l b.a:=QF;have C:∀a,(Op.equal q .nilIface (.iface ad aa)).events P b.a a=a:=λa=>by show(aQ (9999+1) q _ _).events P b.a a=a;unfold aQ;simp[underlying,k]
 cases op<;>simp only[h9,reduceCtorEq,eU]at d
 .exact Qm
 exact PS
abbrev ST(a:Z):z:=ax (.val a)
def IC(ad)(aa):Y r 247 [ax .bo,ST (.iface ad aa)] [] (bh l) []:=by refine Y.K func247 rfl λb=>?_;refine aZ a v ?_;refine g.aO (Dn a underlying164 a a a) a a ?_;refine a6 [(11,f)] a E ?_;refine g.aO (aaH a underlying164 a a bl (λ_ _=>rfl) a) a a ?_;exact aZ a v (g.aw a a)
abbrev ii(b a:av×Z):m an:=[.J (eb 2 164 (.iface b.1 b.2)),.J (eb 3 164 (.iface a.1 a.2))]
def qt:∀a,a<2->([0,1]:m Nat)[a]?=h a:=ca
def Cj(j e)(i)(d)(k:cK i=f)(o:cC d=f):Y r 201 [S i,b2 d] (ii j e) (S (e7 i d)) (ii j e):=by refine Y.K func201 rfl λm=>?_;have b:a8 r [(246,en c8 eB (λi d=>B0 (e7 i d)) λi d=>[cK i=f,cC d=f])]:=.cons t246 .nil;refine b_ b a dA ?_;refine g.aq (aV.gp bd 0 a a a a a a) a ?_;refine g.aF (IC _ _) [] a ?_;refine b_ b a v ?_;refine g.aq (aV.gp bd 1 a a a a a a) a ?_;refine g.iy (IC _ _) [] a a a a a a a a a a a ?_;exact a_ b [(20,l)] a E (g.aS [0,1] a a qt)
end
section
open Go.Sort (swp insInner insOuter ltInt)
variable {r:aj V}
def Ve(k):Y r 263 [S k] [] (bh l) []:=by refine Y.K func263 rfl λb=>?_;exact a6 [(5,l)] a E (g.aw a)
abbrev G8:bL:=df c8 (λ_=>bh l) λ_=>[]
def adQ:bM r 263 G8:=.ba λa _=>Ve a
def Vx(o X):Y r 227 [S o,S X] [] (bh (ltInt o X)) []:=by have b:a8 r [(263,G8)]:=.cons adQ .nil;refine Y.K func227 rfl λd=>?_;refine b_ b a E (g.aw a ?_);simp[ltInt]
abbrev qh:bL:=en c8 c8 (λa b=>bh (ltInt a b)) λ_ _=>[]
def r4:bM r 227 qh:=.bm λa b _=>Vx a b
def sX(a:Array Int)(b:Nat):m N:=[.int .i64 a[b]!]
abbrev dJ(a:Nat):z:=cz 0 (.S a 1 0 a)
abbrev cA(b:Nat)(a:Array Int):an:=.h 3 1 b (sX a)
def g4:∀a,a<1->([0]:m Nat)[a]?=h a:=λa b=>by grind
end
section
open Go.Sort (swp insInner insOuter insertionSort ltInt)
variable {r:aj V}
def lO{a}(r:a.size=k)(o:e<k)(p:w<k){g:Nat->m N}(i:bt k g (sX a)):bt k (lp w [.int .i64 a[e]!] (lp e [.int .i64 a[w]!] g)) (sX (swp a e w)):=by
 intro b d;have q:(swp a e w)[b]! = if b=w then a[e]! else if b=e then a[w]! else a[b]! := by unfold swp;grind
 have j:=i b d;simp only[sX,lp]at j⊢;grind
theorem nF(a:Array Int)(e w):(swp a e w).size=a.size:=by simp[swp]
theorem Z6{b}{a}(e:b<w)(d:ltInt a[w]! a[w-1]! = f):insInner ltInt b w a=insInner ltInt b (w-1) (swp a w (w-1)):=by
 cases w with
 |zero=>omega
 |succ w=>
  simp only[p4]at d⊢;rw[insInner,br];grind
def JV{b}{a}(d:b<w->ltInt a[w]! a[w-1]! = l):insInner ltInt b w a=a:=by
 cases w with
 |zero=>rfl
 |succ w=>
  simp only[p4]at d;rw[insInner,bm];grind
theorem U'(k)(o)(d j)(B:o.size=k)(K:j<=k)(J:d<=k)(M:k<=4000000):
  Y r 221 [dJ k,S d,S j] [cA k o] (.Q []) [cA k (insertionSort ltInt o d j)]:=by
 have w:a8 r [(227,qh)]:=.cons r4 .nil;refine Y.K func221 rfl λI=>?_;refine aZ a bK (g.aL 1 (λb:Nat×Array Int=>b.2.size=k/\d+1<=b.1/\b.1<=k+1/\insOuter ltInt d j b.1 b.2=insertionSort ltInt o d j) (λb=>[(0,dJ k),(1,S d),(2,S j),(6,S b.1)]) (λb=>[cA k b.2]) (λb=>j-b.1) (d+1,o) a E a E a ⟨B,by omega,by grind,a⟩ ?_);rintro⟨e,d1⟩ ⟨z,u,A,p⟩;simp only at z u A p;by_cases t:e<j
 .refine a6 [(12,f)] a bV (g.aL 1 (λb:Nat×Array Int=>b.2.size=k/\b.1<=e/\insInner ltInt d b.1 b.2=insInner ltInt d e d1) (λb=>[(0,dJ k),(1,S d),(2,S j),(6,S e),(7,S b.1)]) (λb=>[cA k b.2]) (λb=>b.1) (e,d1) a E a E a ⟨z,by simp,a⟩ ?_);rintro⟨m,d2⟩ ⟨q,C,s⟩;simp only at q C s;by_cases D:d<m
  .have i:((m:Int)-1).toNat=m-1:=y;by_cases x:ltInt d2[m]! d2[m-1]! = f
   .refine a_ w [(18,f),(29,f)] a ?_ ?_
    .simp[a7,i,x];omega
    refine g.aA (m-1,swp d2 m (m-1)) a bV ?_ ?_ ?_
    .simp only[U.Y,U,i,cV,c5,a9,ba];exact lO q y y (λ_ _=>rfl)
    .refine⟨by grind[nF],by omega,?_⟩;grind[Z6]
    omega
   refine a_ w [(18,f),(29,l)] a ?_ (g.aC ?_)
   .simp[a7,i,x];omega
   refine aZ a bK (g.aA (e+1,d2) a E E ?_ ?_)
   .refine⟨q,by omega,by grind,?_⟩;simp only;rw[<-p,insOuter.eq_1 ltInt d j e,br t,<-s,JV λ_=>by grind]
   omega
  refine a_ w [(18,l)] a bw (g.aC ?_);refine aZ a bK (g.aA (e+1,d2) a E E ?_ ?_)
  .refine⟨q,by omega,by grind,?_⟩;simp only;rw[<-p,insOuter.eq_1 ltInt d j e,br t,<-s,JV λF=>absurd F D]
  omega
 refine a6 [(12,l)] a bV (g.aC ?_);have:insertionSort ltInt o d j=d1:=by rw[<-p,insOuter,bm t]
 rw[this];exact se
end
section
open Go.Sort (swp siftDown ltInt)
variable {r:aj V}
def acp{bp first root}{a}(b:¬2*root+1<bp):siftDown ltInt bp first root a=a:=by rw[siftDown,dif_pos y]
theorem L_{bp first root}{a}(e:2*root+1<bp)(b:2*root+1+1<bp->ltInt a[first+(2*root+1)]! a[first+(2*root+1)+1]! = l)(d:ltInt a[first+root]! a[first+(2*root+1)]! = f):
  siftDown ltInt bp first root a=siftDown ltInt bp first (2*root+1) (swp a (first+root) (first+(2*root+1))):=by rw[siftDown.eq_1 ltInt bp first root a,dif_neg y,bm M,bm M]
theorem L'{bp first root}{a}(e:2*root+1<bp)(b:2*root+1+1<bp->ltInt a[first+(2*root+1)]! a[first+(2*root+1)+1]! = l)(d:ltInt a[first+root]! a[first+(2*root+1)]! = l):
  siftDown ltInt bp first root a=a:=by rw[siftDown.eq_1 ltInt bp first root a,dif_neg y,bm M,br M]
theorem acn{bp first root}{a}(e:2*root+1+1<bp)(b:ltInt a[first+(2*root+1)]! a[first+(2*root+1+1)]! = f)(d:ltInt a[first+root]! a[first+(2*root+1+1)]! = f):
  siftDown ltInt bp first root a=siftDown ltInt bp first (2*root+1+1) (swp a (first+root) (first+(2*root+1+1))):=by rw[siftDown.eq_1 ltInt bp first root a,dif_neg y,br M,bm M,dif_pos y]
theorem aco{bp first root}{a}(e:2*root+1+1<bp)(b:ltInt a[first+(2*root+1)]! a[first+(2*root+1+1)]! = f)(d:ltInt a[first+root]! a[first+(2*root+1+1)]! = l):
  siftDown ltInt bp first root a=a:=by rw[siftDown.eq_1 ltInt bp first root a,dif_neg y,br M,br M]
theorem W4(k)(m)(d b first:Nat)(t:m.size=k)(D:first+b<=k)(u:d<=k)(E:k<=4000000):
  Y r 258 [dJ k,S d,S b,S first] [cA k m] (.Q []) [cA k (siftDown ltInt b first d m)]:=by
 have o:a8 r [(227,qh)]:=.cons r4 .nil;refine Y.K func258 rfl λA=>?_;refine aZ rfl v (g.aL 1 (λe:Nat×Array Int=>e.2.size=k/\e.1<=k/\siftDown ltInt b first e.1 e.2=siftDown ltInt b first d m) (λe=>[(0,dJ k),(1,S d),(2,S b),(3,S first),(8,S e.1)]) (λe=>[cA k e.2]) (λe=>b-e.1) (d,m) rfl ?_ rfl ?_ rfl ⟨t,u,rfl⟩ ?_)
 .simp
 .simp
 rintro⟨root,d1⟩ ⟨w,z,p⟩;simp only at w z p;by_cases q:2*root+1<b
 .have s:((first:Int)+(2*(root:Int)+1)).toNat=first+(2*root+1):=y
  have ai:((first:Int)+(2*(root:Int)+1)+1).toNat=first+(2*root+1+1):=y
  by_cases B:2*root+1+1<b
  .by_cases C:ltInt d1[first+(2*root+1)]! d1[first+(2*root+1+1)]! = f
   .have i:((first:Int)+(2*(root:Int)+1+1)).toNat=first+(2*root+1+1):=y
    have x:((first:Int)+(root:Int)).toNat=first+root:=y
    by_cases j:ltInt d1[first+root]! d1[first+(2*root+1+1)]! = f
    .refine bf o [(16,l),(20,f),(35,f),(51,f)] rfl ?_ (g.aA (2*root+1+1,swp d1 (first+root) (first+(2*root+1+1))) rfl ?_ ?_ ?_ ?_)
     .exact Qp
     .simp
     .simp only[U.Y,U,cV,s,ai,x,i,a9,ba];exact lO w y y (λ_ _=>rfl)
     .grind [nF,acn]
     grind
    rw[p7]at j;rw[show siftDown ltInt b first d m=d1 by grind[aco]];refine bf o [(16,l),(20,f),(35,f),(51,l)] a ?_ (g.aX (bW.mk [0] a v a a a g4));exact Qp
   rw[p7]at C;have x:((first:Int)+(root:Int)).toNat=first+root:=y
   by_cases j:ltInt d1[first+root]! d1[first+(2*root+1)]! = f
   .refine bf o [(16,l),(20,f),(35,l),(51,f)] rfl ?_ (g.aA (2*root+1,swp d1 (first+root) (first+(2*root+1))) rfl ?_ ?_ ?_ ?_)
    .exact Pq
    .simp
    .exact OZ
    .grind [nF,L_]
    grind
   rw[p7]at j;rw[show siftDown ltInt b first d m=d1 by grind[L']];refine bf o [(16,l),(20,f),(35,l),(51,l)] a ?_ (g.aX (bW.mk [0] a v a a a g4));exact Pq
  have C:True:=v;have x:((first:Int)+(root:Int)).toNat=first+root:=y
  by_cases j:ltInt d1[first+root]! d1[first+(2*root+1)]! = f
  .refine bf o [(16,l),(20,l),(51,f)] rfl ?_ (g.aA (2*root+1,swp d1 (first+root) (first+(2*root+1))) rfl ?_ ?_ ?_ ?_)
   .exact OB
   .simp
   .exact OZ
   .grind [nF,L_]
   grind
  rw[p7]at j;rw[show siftDown ltInt b first d m=d1 by grind[L']];refine bf o [(16,l),(20,l),(51,l)] a ?_ (g.aX (bW.mk [0] a v a a a g4));exact OB
 refine a6 [(16,f)] a si (g.aC ?_);rw[<-p,acp q];exact se
end
section
open Go.Sort (swp order2 median medianAdjacent choosePivot Hint ltInt)
variable {r:aj V}
abbrev mm(a:Nat):an:=.cells 3 [.c (.int .i64 a)]
abbrev sW:z:=aG 1 0
abbrev adE(a b:Nat):z:=.Q [.aq (.c (.int .i64 a)),.aq (.c (.int .i64 b))]
def yc:∀a,a<2->([0,1]:m Nat)[a]?=h a:=λa b=>by grind
def Cm(k)(e)(d j b)(s:d<k)(t:j<k)(u:k<=4000000)(p:b<=1000):
  Y r 298 [dJ k,S d,S j,sW] [cA k e,mm b] (adE (order2 ltInt e d j b).1 (order2 ltInt e d j b).2.1) [cA k e,mm (order2 ltInt e d j b).2.2]:=by
 have o:a8 r [(227,qh)]:=.cons r4 .nil;refine Y.K func298 rfl λq=>?_;by_cases i:ltInt e[j]! e[d]! = f
 .have m:order2 ltInt e d j b=(j,d,b+1):=by simp[order2,i]
  rw[m];refine bf o [(18,f)] a ?_ (g.aS [0,1] a ?_ yc)
  .simp only[U,cV,c5,i,a7,ba,a9];exact fr
  simp
 have m:order2 ltInt e d j b=(d,j,b):=by simp[order2,i]
 rw[m];rw[p7]at i;refine bf o [(18,l)] a dA (g.aS [0,1] a ?_ yc);simp
def vE{I}{a eQ}(b:a<k)(d:j<k):(order2 ltInt I a j eQ).1<k/\(order2 ltInt I a j eQ).2.1<k/\(order2 ltInt I a j eQ).2.2<=eQ+1:=by unfold order2;split<;>simp only<;>omega
theorem IO(k)(I)(b j s eQ)(i:b<k)(m:j<k)(o:s<k)(e:k<=4000000)(q:eQ<=900):
  Y r 262 [dJ k,S b,S j,S s,sW] [cA k I,mm eQ] (S (median ltInt I b j s eQ).1) [cA k I,mm (median ltInt I b j s eQ).2]:=by refine Y.K func262 rfl λt=>?_;have d:=vE (I:=I) (eQ:=eQ) i m;have p:=vE (I:=I) (eQ:=(order2 ltInt I b j eQ).2.2) d.2.1 o;refine cu a v (g.aF (Cm k I b j eQ i m e y) [0,1] a (cu a v (g.aF (Cm k I (order2 ltInt I b j eQ).2.1 s (order2 ltInt I b j eQ).2.2 d.2.1 o e y) [0,1] a (cu a v (g.aF (Cm k I (order2 ltInt I b j eQ).1 (order2 ltInt I (order2 ltInt I b j eQ).2.1 s (order2 ltInt I b j eQ).2.2).1 (order2 ltInt I (order2 ltInt I b j eQ).2.1 s (order2 ltInt I b j eQ).2.2).2.2 d.1 p.1 e y) [0,1] a (cu a v (g.aS [0,1] a ?_ yc)))))));simp[median]
def aau{I}{a s eQ}(d:a<k)(g:j<k)(i:s<k):(median ltInt I a j s eQ).1<k/\(median ltInt I a j s eQ).2<=eQ+3:=by have b:=vE (I:=I) (eQ:=eQ) d g;have e:=vE (I:=I) (eQ:=(order2 ltInt I a j eQ).2.2) b.2.1 i;have m:=vE (I:=I) (eQ:=(order2 ltInt I (order2 ltInt I a j eQ).2.1 s (order2 ltInt I a j eQ).2.2).2.2) b.1 e.1;unfold median;grind
theorem V1(k)(e)(b d:Nat)(t:1<=b)(u:b+1<k)(q:k<=4000000)(p:d<=900):
  Y r 261 [dJ k,S b,sW] [cA k e,mm d] (S (medianAdjacent ltInt e b d).1) [cA k e,mm (medianAdjacent ltInt e b d).2]:=by
 refine Y.K func261 rfl λs=>?_;obtain⟨b,rfl⟩:∃i,b=i+1:=⟨b-1,by omega⟩
 refine cu a bK ?_;have key:∀j m o:Int,j=(b:Int)->m=((b+1:Nat):Int)->o=((b+1+1:Nat):Int)->Y r 262 [dJ k,S j,S m,S o,sW] [cA k e,mm d] (S (median ltInt e b (b+1) (b+1+1) d).1) [cA k e,mm (median ltInt e b (b+1) (b+1+1) d).2]:=by rintro j m o rfl rfl rfl;exact IO k e b (b+1) (b+1+1) d y y y q p
 refine g.aF (key (((b+1:Nat):Int)-1) _ (((b+1:Nat):Int)+1) y a y) [0,1] a (cu a v (g.aS [0,1] a ?_ yc));simp[medianAdjacent]
def qz:Hint->Int|.unknown=>0|.increasing=>1|.decreasing=>2
def IP(b:Nat)(d:Array Int){x s:Nat}(a:Nat)(m:x<b)(p:j<b)(q:s<b)(u:b<=4000000)(k:a<=900){e g i:Int}(t:e=x)(o:g=j)(v:i=s):
  Y r 262 [dJ b,S e,S g,S i,sW] [cA b d,mm a] (S (median ltInt d x j s a).1) [cA b d,mm (median ltInt d x j s a).2]:=by grind[IO]
def Ci(b:Nat)(d:Array Int){x:Nat}(a:Nat)(i:1<=x)(j:x+1<b)(m:b<=4000000)(g:a<=900){e:Int}(k:e=x):
  Y r 261 [dJ b,S e,sW] [cA b d,mm a] (S (medianAdjacent ltInt d x a).1) [cA b d,mm (medianAdjacent ltInt d x a).2]:=by grind[V1]
def Dg{I:Array Int}{x eQ:Nat}(a:1<=x)(b:x+1<k):(medianAdjacent ltInt I x eQ).1<k/\(medianAdjacent ltInt I x eQ).2<=eQ+3:=
 aau y y y
abbrev CR(a:Nat):Hint:=if a=0 then .increasing else if a=12 then .decreasing else .unknown
def SC{b:Array Int}{a:Nat}(g:8<=d)(e:d<50):choosePivot ltInt b a (a+d)=((median ltInt b (a+d / 4*1) (a+d / 4*2) (a+d / 4*3) 0).1,CR (median ltInt b (a+d / 4*1) (a+d / 4*2) (a+d / 4*3) 0).2):=by unfold choosePivot;grind
abbrev oz(b:Array Int)(a d:Nat):=medianAdjacent ltInt b (a+d / 4*1) 0
abbrev oA(b:Array Int)(a d:Nat):=medianAdjacent ltInt b (a+d / 4*2) (oz b a d).2
abbrev oB(b:Array Int)(a d:Nat):=medianAdjacent ltInt b (a+d / 4*3) (oA b a d).2
def SB{a:Array Int}{b:Nat}(e:50<=d):choosePivot ltInt a b (b+d)=((median ltInt a (oz a b d).1 (oA a b d).1 (oB a b d).1 (oB a b d).2).1,CR (median ltInt a (oz a b d).1 (oA a b d).1 (oB a b d).1 (oB a b d).2).2):=by unfold choosePivot;grind
def TN(k:Nat)(I:Array Int)(x j:Nat)(o:x<=j)(u:j<=k)(i:8<=j-x)(d:k<=4000000):
  Y r 224 [dJ k,S x,S j] [cA k I] (.Q [.aq (.c (.int .i64 (choosePivot ltInt I x j).1)),.aq (.c (.int .i64 (qz (choosePivot ltInt I x j).2)))]) [cA k I]:=by
 refine Y.K func224 rfl λp=>?_;obtain⟨b,rfl⟩:∃b,j=x+b:=⟨j-x,by omega⟩
 rw[Au]at i;by_cases m:b<50
 .refine bQ [(32,f),(34,l)] a QH (g.aF (IP k I (x:=x+b / 4*1) (j:=x+b / 4*2) (s:=x+b / 4*3) 0 y y y d y y y y) [0,1] a ?_);rw[SC i m];generalize median ltInt I (x+b / 4*1) (x+b / 4*2) (x+b / 4*3) 0=e;by_cases ae:e.2=0
  .exact P1
  by_cases ai:e.2=12
  .exact OU
  exact QG
 refine bQ [(32,f),(34,f)] a QH ?_;have q:(oz I x b).1<k/\(oz I x b).2<=0+3:=Dg (I:=I) (x:=x+b / 4*1) (eQ:=0) (k:=k) y y;have t:(oA I x b).1<k/\(oA I x b).2<=(oz I x b).2+3:=Dg (I:=I) (x:=x+b / 4*2) (eQ:=(oz I x b).2) (k:=k) y y;have w:(oB I x b).1<k/\(oB I x b).2<=(oA I x b).2+3:=Dg (I:=I) (x:=x+b / 4*3) (eQ:=(oA I x b).2) (k:=k) y y;refine g.aF (Ci k I (x:=x+b / 4*1) 0 y y d y y) [0,1] a (cu a v (g.aF (Ci k I (x:=x+b / 4*2) (oz I x b).2 y y d y y) [0,1] a (cu a v (g.aF (Ci k I (x:=x+b / 4*3) (oA I x b).2 y y d y y) [0,1] a (cu a v (g.aF (IP k I (x:=(oz I x b).1) (j:=(oA I x b).1) (s:=(oB I x b).1) (oB I x b).2 y y y d y a a a) [0,1] a ?_))))));rw[SB y];generalize median ltInt I (oz I x b).1 (oA I x b).1 (oB I x b).1 (oB I x b).2=e;by_cases ae:e.2=0
 .exact P1
 by_cases ai:e.2=12
 .exact OU
 exact QG
end
section
open Go.Sort (swp reverseLoop reverseRange siftDown heapBuild heapPop heapSort ltInt)
variable {r:aj V}
def WN(d:Nat)(j:Array Int)(i e:Nat)(u:j.size=d)(A:1<=e)(z:i<=d)(B:e<=d)(C:d<=4000000):Y r 225 [dJ d,S i,S e] [cA d j] (.Q []) [cA d (reverseRange j i e)]:=by
 refine Y.K func225 rfl λx=>?_;refine aZ a bK (g.aL 1 (λb:Nat×Nat×Array Int=>b.2.2.size=d/\b.1<=d/\b.2.1<d+1/\b.2.1<d/\reverseLoop b.1 b.2.1 b.2.2=reverseRange j i e) (λb=>[(0,dJ d),(6,S b.1),(7,S b.2.1)]) (λb=>[cA d b.2.2]) (λb=>b.2.1-b.1) (i,e-1,j) a bV a E a ⟨u,by grind,by grind,by grind,a⟩ ?_);rintro⟨k,m,d1⟩ ⟨q,p,_,w,o⟩;simp only at q p w o;by_cases s:k<m
 .refine bQ [(13,f)] a ?_ (g.aA (k+1,m-1,swp d1 k m) a ?_ ?_ ?_ ?_)
  .simp only[U,cV,c5,a7,bA,ba,a9];exact fr
  .exact bw
  .simp only[U.Y,U,cV,c5,a9,ba];exact lO q y y (λ_ _=>rfl)
  .refine⟨by grind[nF],by grind,by grind,by grind,?_⟩;rw[<-o,reverseLoop.eq_1 k m d1,br s]
  grind
 have t:reverseRange j i e=d1:=by rw[<-o,reverseLoop,bm s]
 rw[t];refine a6 [(13,l)] a bV (g.aC ?_);exact se
def I0(a:Nat)(b:Array Int){eY bp first:Nat}(i:b.size=a)(m:first+bp<=a)(j:eY<=a)(p:a<=4000000){d e g:Int}(o:d=eY)(k:e=bp)(q:g=first):
  Y r 258 [dJ a,S d,S e,S g] [cA a b] (.Q []) [cA a (siftDown ltInt bp first eY b)]:=by grind[W4]
def Ma(a first:Nat):∀(d root:Nat)(b:Array Int),a-root<=d->(siftDown ltInt a first root b).size=b.size:=by
 intro d;induction d with
 |zero=>intro root b e;rw[siftDown,dif_pos y]
 |succ d g=>
  intro root b e;rw[siftDown];exact sg
theorem UN(j:Nat)(o:Array Int)(b m:Nat)(z:o.size=j)(C:b<=m)(A:1<=m-b)(B:m<=j)(u:j<=4000000):Y r 222 [dJ j,S b,S m] [cA j o] (.Q []) [cA j (heapSort ltInt o b m)]:=by
 refine Y.K func222 rfl λF=>?_;obtain⟨e,rfl⟩:∃e,m=b+e:=⟨m-b,by omega⟩
 rw[Au]at A;refine cu a Rb (g.cj (S2:=Array Int) 0 a a (λd2=>d2.size=j/\d2=heapBuild ltInt e b ((e-1) / 2+1) o) (λ_=>[(0,dJ j),(6,S b),(7,S 0),(8,S e)]) (λd2=>[cA j d2]) 1 (λd:Nat×Array Int=>d.2.size=j/\d.1<=(e-1) / 2+1/\heapBuild ltInt e b d.1 d.2=heapBuild ltInt e b ((e-1) / 2+1) o) (λd=>[(0,dJ j),(6,S b),(7,S 0),(8,S e),(9,S ((d.1:Int)-1))]) (λd=>[cA j d.2]) (λd=>d.1) ((e-1) / 2+1,o) a bV a E a ⟨z,bC _,a⟩ ?_ ?_)
 .rintro du ⟨i,d1⟩ ⟨k,p,s⟩;simp only at k p s;cases i with
  |zero=>
   refine a6 [(19,l)] a E (g.aC ?_);exact du d1 ⟨k,s⟩ a E a E
  |succ i=>
   refine a6 [(19,f)] rfl E (g.aF (I0 j d1 (eY:=i) (bp:=e) (first:=b) k B y u y rfl rfl) [0] rfl (cu rfl ?_ (g.aA (i,siftDown ltInt e b i d1) rfl ?_ ?_ ?_ ?_)))
   .exact t7
   .simp
   .simp
   .exact⟨by rw[Ma _ _ _ _ _ (bC _)];exact k,by grind,s⟩
   simp
 rintro q ⟨x,D⟩;refine cu a bK ?_;have w:heapSort ltInt o b (b+e)=heapPop ltInt b e q:=by unfold heapSort;grind
 rw[w];refine g.aL 1 (λd:Nat×Array Int=>d.2.size=j/\d.1<=e/\heapPop ltInt b d.1 d.2=heapPop ltInt b e q) (λd=>[(0,dJ j),(6,S b),(7,S 0),(8,S e),(10,S ((d.1:Int)-1))]) (λd=>[cA j d.2]) (λd=>d.1) (e,q) a E a E a ⟨x,bC _,a⟩ ?_;rintro⟨i,d1⟩ ⟨k,p,s⟩;simp only at k p s;cases i with
 |zero=>
  rw[<-s];refine a6 [(30,l)] a E (g.aC ?_);exact se
 |succ i=>
  have t:((b:Int)+(((i+1:Nat):Int)-1)).toNat=b+i:=y;refine bQ [(30,f),(1000011,f)] a ?_ ?_
  .simp only[U,cV,c5,t,a7,bA,ba,a9];exact fr
  refine g.bf [cA j (swp d1 b (b+i))] a ?_ ?_
  .simp only[U.Y,U,cV,c5,t,a9,ba];exact lO k y y (λ_ _=>rfl)
  refine cu rfl v (g.aF (I0 j (swp d1 b (b+i)) (eY:=0) (bp:=i) (first:=b) sg y y u rfl y rfl) [0] rfl (cu rfl ?_ (g.aA (i,siftDown ltInt i b 0 (swp d1 b (b+i))) rfl ?_ ?_ ?_ ?_)))
  .exact t7
  .simp
  .simp
  .exact⟨by rw[Ma _ _ _ _ _ (bC _),nF];exact k,by grind,s⟩
  simp
end
section
open Go.Sort (bitsLen)
variable {r:aj V}
def ow:m UInt8:=(aC 256).map λa=>UInt8.ofNat (bitsLen a)
def sL{o i}(b:o<2 ^ i):bitsLen o<=i:=by
 unfold bitsLen;split
 .omega
 rename_i a;have:=(Nat.log2_lt a).2 b;omega
theorem aac{o:Nat}(a:o<256):(kH ow o).toNat=bitsLen o:=by unfold kH ow;rw[c5,al,m',List.getElem?_range a];have:=sL (o:=o) (i:=8) a;grind[UInt8.toNat_ofNat']
def Gt{i}(d:2 ^ i<=k):bitsLen k=i+bitsLen (k / 2 ^ i):=by
 have a:0<2 ^ i:=Nat.two_pow_pos i;have j:0<k / 2 ^ i:=Nat.div_pos d a;unfold bitsLen;rw[bm y,bm y];have e:Nat.log2 k=i+Nat.log2 (k / 2 ^ i):=by
  rw[Nat.log2_eq_iff y];have b:=Nat.log2_self_le (n:=k / 2 ^ i) y;have g:=Nat.lt_log2_self (n:=k / 2 ^ i);constructor
  .rw[Nat.pow_add,Nat.mul_comm];exact fG (gX _ b) (Nat.div_mul_le_self k _)
  rw[show i+Nat.log2 (k / 2 ^ i)+1=i+(Nat.log2 (k / 2 ^ i)+1) by omega,Nat.pow_add];grind[Nat.div_lt_iff_lt_mul]
 omega
set_option maxRecDepth 100000 in
def Vw(k:Nat)(w:k<=4000000):Y r 231 [mu k] [] (S (bitsLen k)) []:=by
 refine Y.K func231 rfl λv=>?_;have fin:∀{b:m UInt8} {o:Nat},b=ow->o<256->(kH b (o:Int)).toNat=bitsLen o:=λaR u=>by grind[aac]
 have e:∀{b:m UInt8},b=ow->c b=256:=λaR=>by rw[aR];rfl
 by_cases t:65536<=k
 .have j:((k:Int).toNat / 2 ^ Int.toNat 16)=k / 65536:=E;have s:bitsLen k=16+bitsLen (k / 65536):=Gt (k:=k) (i:=16) t;have p:=sL (o:=k / 65536) (i:=8) M;refine bQ [(4,l),(8,f),(14,l)] a ?_ (g.aw a ?_)
  .generalize aR:(ByteArray.data _).toList=b;have d:b=ow:=t1;simp only[U,j,fin d (show k / 65536<256 by omega),e d,a7,bA,dj];exact fr
  generalize aR:(ByteArray.data _).toList=b;have d:b=ow:=t1;simp only[U,U.Y,j,fin d (show k / 65536<256 by omega),ba,a9];omega
 by_cases q:256<=k
 .have j:((k:Int).toNat / 2 ^ Int.toNat 8)=k / 256:=E;have s:bitsLen k=8+bitsLen (k / 256):=Gt (k:=k) (i:=8) q;have p:=sL (o:=k / 256) (i:=8) M;refine bQ [(4,l),(8,l),(14,f)] a ?_ (g.aw a ?_)
  .generalize aR:(ByteArray.data _).toList=b;have d:b=ow:=t1;simp only[U,j,fin d (show k / 256<256 by omega),e d,a7,bA,dj];exact fr
  generalize aR:(ByteArray.data _).toList=b;have d:b=ow:=t1;simp only[U,U.Y,j,fin d (show k / 256<256 by omega),ba,a9];omega
 have p:=sL (o:=k) (i:=8) M;refine bQ [(4,l),(8,l),(14,l)] a ?_ (g.aw a ?_)
 .generalize aR:(ByteArray.data _).toList=b;have d:b=ow:=t1;simp only[U,fin d (show k<256 by omega),e d,a7,bA,dj];exact fr
 generalize aR:(ByteArray.data _).toList=b;have d:b=ow:=t1;simp only[U,U.Y,fin d (show k<256 by omega),ba,a9];omega
def IG(b:Nat)(d:b<=4000000):Y r 190 [mu b] [] (S (bitsLen b)) []:=by refine Y.K func190 rfl λe=>?_;refine cu a v ?_;refine g.fx ?_;refine cu a v ?_;refine g.aF (Vw b d) [] a ?_;exact cu a v (g.aw a)
end
section
open Go.Sort (swp bitsLen xorNextN xorNextN_lt xorNext xorNext_toNat breakStep breakPatterns)
variable {r:aj V}
abbrev xf(a:Nat):an:=.cells 322 [.c (.int .u64 a)]
def Wb(b):Y r 260 [aG 0 0] [xf b] (mu (xorNextN b)) [xf (xorNextN b)]:=by refine Y.K func260 rfl λi=>?_;have e:(2:Nat) ^ Int.toNat 13=8192:=ca;have j:(2:Nat) ^ Int.toNat 7=128:=ca;have d:(2:Nat) ^ Int.toNat 17=131072:=ca;refine cu a E ?_;refine g.bf [xf (xorNextN b)] a bK (g.aS [0] a ?_ g4);exact bK
theorem WG(b:Nat)(d:b<=4000000):Y r 259 [S b] [] (mu ((1 <<< bitsLen b:Nat):Int)) []:=by refine Y.K func259 rfl λk=>?_;have e:=sL (o:=b) (i:=22) M;refine cu a bK ?_;refine g.aF (IG b d) [] a ?_;refine cu a bw (g.aw a ?_);have j:2 ^ bitsLen b<=2 ^ 22:=Ay y e;simp only[U,U.Y,Nat.shiftLeft_eq,c5];grind
def abj{L}(a:0<L):1 <<< bitsLen L<=2*L:=by rw[Nat.shiftLeft_eq,Nat.one_mul];unfold bitsLen;rw[bm y,Nat.pow_succ];grind[Nat.log2_self_le]
def abk(L):1<=1 <<< bitsLen L:=by rw[Nat.shiftLeft_eq,Nat.one_mul];grind
def uM(d L b:Nat):Nat->Nat->UInt64×Array Int->UInt64×Array Int
 |0,_,a=>a
 |e+1,idx,a=>uM d L b e (idx+1) (breakStep d L b a idx)
def Sl{b}{a L}(d:8<=L):breakPatterns b a (a+L)=(uM a L (1 <<< bitsLen L) 3 (a+L / 4*2-1) (UInt64.ofNat L,b)).2:=by unfold breakPatterns;simp only[Au];exact bK
def Sm{x L bB idx}{a'}{I:Array Int}:breakStep x L bB (a',I) idx=(xorNext a',swp I idx (x+if(xorNextN a'.toNat &&& (bB-1))≥L then(xorNextN a'.toNat &&& (bB-1))-L else(xorNextN a'.toNat &&& (bB-1)))):=by unfold breakStep;simp only[xorNext_toNat]
abbrev Sk(e a L b:Nat)(d:Nat):bH:=[(0,dJ e),(1,S a),(6,S L),(7,aG 1 0),(8,mu b),(9,S ((a+L / 4*2-1+(3-d):Nat):Int))]
def TL(k)(I)(x j)(z:I.size=k)(D:x<=j)(M:j<=k)(B:k<=4000000):
  Y r 223 [dJ k,S x,S j] [cA k I] (.Q []) [cA k (breakPatterns I x j)]:=by
 refine Y.K func223 rfl λN=>?_;obtain⟨L,rfl⟩:∃L,j=x+L:=⟨j-x,by omega⟩
 by_cases A:8<=L
 .rw[Sl A];have K:=abj (L:=L) y;have F:=abk L;have E:(UInt64.ofNat L).toNat=L:=by grind[UInt64.toNat_ofNat']
  refine bQ [(15,f)] a si ?_;have key:∀q:Int,q=(L:Int)->Y r 259 [S q] [] (mu ((1 <<< bitsLen L:Nat):Int)) []:=by grind[WG]
  refine g.aF (key _ y) [] a (cu a si ?_);generalize J:1 <<< bitsLen L=bB at *;refine g.aL 2 (λb:Nat×UInt64×Array Int=>b.2.2.size=k/\b.1<=3/\(uM x L bB b.1 (x+L / 4*2-1+(3-b.1)) b.2).2=(uM x L bB 3 (x+L / 4*2-1) (UInt64.ofNat L,I)).2) (λb=>Sk k x L bB b.1) (λb=>[cA k b.2.2,xf b.2.1.toNat]) (λb=>b.1) (3,UInt64.ofNat L,I) a ?_ a ?_ a ⟨z,bC _,a⟩ ?_
  .simp only[U.Y,U,ba,a9];exact fr
  .exact bw
  rintro⟨i,a',d1⟩ ⟨d,o,s⟩;simp only at d o s;cases i with
  |zero=>
   rw[<-s];refine bQ [(33,l)] a zI (g.aC ?_);exact se
  |succ i=>
   have O:=xorNextN_lt _ (UInt64.toNat_lt a');have C:xorNextN a'.toNat &&& (bB-1)<=bB-1:=Nat.and_le_right;have w:((bB:Int)-1).toNat=bB-1:=y;refine bQ [(33,f)] a si (g.aF (Wb a'.toNat) [1] a ?_);have ae:=Sm (x:=x) (L:=L) (bB:=bB) (idx:=x+L / 4*2-1+(3-(i+1))) (a':=a') (I:=d1);generalize e:xorNextN a'.toNat &&& (bB-1)=m at *;by_cases p:L<=m
   .rw[br p]at ae;have u:((x:Int)+((m:Int)-(L:Int))).toNat=x+(m-L):=y;refine bQ [(43,f)] a ?_ (g.aA (i,xorNext a',swp d1 (x+L / 4*2-1+(3-(i+1))) (x+(m-L))) a ?_ ?_ ?_ ?_)
    .simp only[U,cV,c5,w,e,u,a7,bA,ba,a9];exact fr
    .exact zR
    .exact Oy
    .exact PR
    simp
   rw[bm p]at ae;have u:((x:Int)+(m:Int)).toNat=x+m:=y;refine bQ [(43,l)] a ?_ (g.aA (i,xorNext a',swp d1 (x+L / 4*2-1+(3-(i+1))) (x+m)) a ?_ ?_ ?_ ?_)
   .simp only[U,cV,c5,w,e,u,a7,dj,ba,a9];exact fr
   .exact zR
   .exact Oy
   .exact PR
   simp
 have t:breakPatterns I x (x+L)=I:=by unfold breakPatterns;grind
 rw[t];exact bQ [(15,l)] a bK se
end
section
open Go.Sort (swp scanUp scanDown partLoop partEqLoop partition partitionEqual ltInt)
variable {r:aj V}
theorem y6{b:Int->Bool}{a}(g:e<=w)(d:b a[e]! = f):scanUp b a w e=scanUp b a w (e+1):=by rw[scanUp.eq_1 b a w e,br M]
theorem D0{b:Int->Bool}{a}(d:e<=w->b a[e]! = l):scanUp b a w e=e:=by rw[scanUp,bm];grind
theorem LU{b:Int->Bool}{a}(i:1<=w)(j:e<=w)(g:b a[w]! = f):scanDown b a e w=scanDown b a e (w-1):=by
 obtain⟨w,rfl⟩:∃d,w=d+1:=⟨w-1,by omega⟩
 rw[scanDown,br M,p4]
theorem LV{b:Int->Bool}{a}(d:e<=w->b a[w]! = l):scanDown b a e w=w:=by
 cases w with
 |zero=>rfl
 |succ w=>
  rw[scanDown,bm];grind
def vT{R:Int->Bool}{I}:∀b a,w+1-a<=b->a<=scanUp R I w a/\(scanUp R I w a<=w+1∨scanUp R I w a=a):=by
 intro b;induction b with
 |zero=>intro a e;rw[D0 (λd=>by omega)];omega
 |succ b i=>
  intro a e;by_cases g:a<=w
  .cases d:R I[a]! with
   |true=>grind[y6]
   |false=>grind[D0]
  grind
def vS{R:Int->Bool}{I}:∀a:Nat,scanDown R I e a<=a/\(e<=scanDown R I e a+1∨scanDown R I e a=a):=by
 intro a;induction a with
 |zero=>rw[show scanDown R I e 0=0 from rfl];omega
 |succ a d=>
  by_cases b:e<=a+1
  .cases s:R I[a+1]! with
   |true=>grind[LU]
   |false=>grind[LV]
  exact zS
def aba{d}{I}{cc a}(m:1<=e)(g:cc=scanUp (λb=>ltInt b I[d]!) I w e)(i:a=scanDown (λb=>!ltInt b I[d]!) I cc w):
  partLoop ltInt d e w I=if cc>a then(a,I)else partLoop ltInt d (cc+1) (a-1) (swp I cc a):=by have k:=vT (R:=λb=>ltInt b I[d]!) (I:=I) (w:=w) (w+1-e) e (bC _);have j:=vS (R:=λb=>!ltInt b I[d]!) (I:=I) (e:=cc) w;rw[<-g]at k;rw[<-i]at j;rw[partLoop.eq_1,<-g,<-i];grind
def abb{d s}{a aa}(k:s=swp d a aa)(g:e=scanUp (λb=>ltInt b s[a]!) s (j-1) (a+1))(i:w=scanDown (λb=>!ltInt b s[a]!) s e (j-1))(m:e>w):partition ltInt d a j aa=(w,f,swp s w a):=by unfold partition;grind
def abc{g s}{a aa}(o:s=swp g a aa)(k:e=scanUp (λd=>ltInt d s[a]!) s (j-1) (a+1))(m:w=scanDown (λd=>!ltInt d s[a]!) s e (j-1))(p:¬e>w){b}(i:partLoop ltInt a (e+1) (w-1) (swp s e w)=b):partition ltInt g a j aa=(b.1,l,swp b.2 b.1 a):=by subst i;unfold partition;grind
def Wx(k)(I)(x j aa)(aN:I.size=k)(aj:x<j)(an:j<=k)(au:aa<k)(aq:k<=4000000):
  Y r 229 [dJ k,S x,S j,S aa] [cA k I] (.Q [.aq (.c (.int .i64 (partition ltInt I x j aa).1)),.aq (.c (.bool (partition ltInt I x j aa).2.1))]) [cA k (partition ltInt I x j aa).2.2]:=by
 have u:a8 r [(227,qh)]:=.cons r4 .nil;refine Y.K func229 rfl λao=>?_;refine bf u [(1000002,f)] a bw (g.bf [cA k (swp I x aa)] a ?_ ?_)
 .simp only[U.Y,U,cV,c5,a9,ba];exact lO aN y y (λ_ _=>rfl)
 have bz:(swp I x aa).size=k:=sg;obtain⟨ae,B⟩:∃ae,ae=swp I x aa:=⟨_,rfl⟩;rw[<-B]at bz⊢;refine cJ u a sf ?_
 refine g.cj (S2:=Unit) 0 a a (λ_=>True) (λ_=>[(0,dJ k),(1,S x),(10,S ((scanUp (λo=>ltInt o ae[x]!) ae (j-1) (x+1)):Nat)),(11,S (j-1:Nat))]) (λ_=>[cA k ae]) 1 (λi:Nat=>x+1<=i/\i<=k+1/\scanUp (λo=>ltInt o ae[x]!) ae (j-1) i=scanUp (λo=>ltInt o ae[x]!) ae (j-1) (x+1)) (λi=>[(0,dJ k),(1,S x),(10,S (i:Nat)),(11,S (j-1:Nat))]) (λ_=>[cA k ae]) (λi=>j-1+1-i) (x+1) a bK a E a ⟨bC _,by omega,a⟩ ?_ ?_
 .rintro du i ⟨q,t,Q⟩;by_cases T:i<=j-1
  .by_cases ar:(λo=>ltInt o ae[x]!) ae[i]! = f
   .have C:ltInt ae[i]! ae[x]! = f:=M;refine bf u [(32,f),(42,f)] a q3 (g.aA (i+1) a E E ?_ ?_)
    .grind [y6]
    omega
   have C:ltInt ae[i]! ae[x]! = l:=M;refine bf u [(32,f),(42,l)] a q3 (g.aC ?_);exact P8
  refine bf u [(32,l)] a bw (g.aC ?_);exact P8
 rintro⟨⟩ -;have ag:=vT (R:=λo=>ltInt o ae[x]!) (I:=ae) (w:=j-1) (j-1+1-(x+1)) (x+1) (bC _);obtain⟨e,p⟩:∃e,e=scanUp (λo=>ltInt o ae[x]!) ae (j-1) (x+1):=⟨_,rfl⟩
 rw[<-p]at ag⊢;refine cJ u a v (g.cj (S2:=Unit) 2 a a (λ_=>True) (λ_=>[(0,dJ k),(1,S x),(10,S (e:Nat)),(11,S ((scanDown (λo=>!ltInt o ae[x]!) ae (e) (j-1)):Nat))]) (λ_=>[cA k ae]) 1 (λi:Nat=>i<=j-1/\i<=k/\scanDown (λo=>!ltInt o ae[x]!) ae (e) i=scanDown (λo=>!ltInt o ae[x]!) ae (e) (j-1)) (λi=>[(0,dJ k),(1,S x),(10,S (e:Nat)),(11,S (i:Nat))]) (λ_=>[cA k ae]) (λi=>i) (j-1) a ?_ a ?_ a ⟨bC _,by omega,a⟩ ?_ ?_)
 .simp[bt]<;>omega
 .simp
 .rintro du i ⟨q,t,Q⟩;by_cases T:e<=i
  .by_cases ar:(λo=>!ltInt o ae[x]!) ae[i]! = f
   .have C:ltInt ae[i]! ae[x]! = l:=M;refine bf u [(48,f),(58,l)] a q3 (g.aA (i-1) a bw E EW ?_);omega
   have C:ltInt ae[i]! ae[x]! = f:=M;refine bf u [(48,f),(58,f)] a q3 (g.aC ?_);exact Og
  refine bf u [(48,l)] a bw (g.aC ?_);exact Og
 rintro⟨⟩ -;have ah:=vS (R:=λo=>!ltInt o ae[x]!) (I:=ae) (e:=e) (j-1);obtain⟨w,F⟩:∃w,w=scanDown (λo=>!ltInt o ae[x]!) ae e (j-1):=⟨_,rfl⟩
 rw[<-F]at ah⊢;by_cases ab:w<e
 .rw[abb B p F ab];refine bf u [(65,f),(1000009,f)] a bw (g.bf [cA k (swp ae w x)] a QX ?_);exact O5
 refine bf u [(65,l),(1000011,f)] a bw (g.bf [cA k (swp ae e w)] a QX ?_);refine cJ u a sf ?_;have X:(swp ae e w).size=k:=sg;obtain⟨m,D⟩:∃m,partLoop ltInt x (e+1) (w-1) (swp ae e w)=m:=⟨_,rfl⟩;rw[abc B p F y D]
 obtain⟨d1,L⟩:∃d1,d1=swp ae e w:=⟨_,rfl⟩;rw[<-L]at X D⊢;refine g.cj (S2:=Unit) 4 a a (λ_=>m.1<k/\m.2.size=k) (λ_=>[(0,dJ k),(1,S x),(11,S m.1)]) (λ_=>[cA k m.2]) 1 (λb:Nat×Nat×Array Int=>b.2.2.size=k/\x+1<=b.1/\b.1<=k+1/\b.2.1<k/\partLoop ltInt x b.1 b.2.1 b.2.2=m) (λb=>[(0,dJ k),(1,S x),(10,S b.1),(11,S b.2.1)]) (λb=>[cA k b.2.2]) (λb=>b.2.1+1-b.1) (e+1,w-1,d1) a bw a E a ⟨X,by grind,by grind,by grind,D⟩ ?_ ?_
 .rintro z ⟨ec,d,d2⟩ ⟨G,ad,W,P,A⟩;simp only at G ad W P A;refine cJ u a v (g.cj (S2:=Unit) 6 a a (λ_=>True) (λ_=>[(0,dJ k),(1,S x),(10,S ((scanUp (λo=>ltInt o d2[x]!) d2 (d) (ec)):Nat)),(11,S (d:Nat))]) (λ_=>[cA k d2]) 1 (λi:Nat=>ec<=i/\i<=k+1/\scanUp (λo=>ltInt o d2[x]!) d2 (d) i=scanUp (λo=>ltInt o d2[x]!) d2 (d) (ec)) (λi=>[(0,dJ k),(1,S x),(10,S (i:Nat)),(11,S (d:Nat))]) (λ_=>[cA k d2]) (λi=>d+1-i) (ec) a ?_ a ?_ a ⟨bC _,by omega,a⟩ ?_ ?_)
  .simp[bt]<;>omega
  .simp
  .rintro du i ⟨q,t,Q⟩;by_cases T:i<=d
   .by_cases ar:(λo=>ltInt o d2[x]!) d2[i]! = f
    .have C:ltInt d2[i]! d2[x]! = f:=M;refine bf u [(101,f),(111,f)] a q3 (g.aA (i+1) a E E ?_ ?_)
     .grind [y6]
     omega
    have C:ltInt d2[i]! d2[x]! = l:=M;refine bf u [(101,f),(111,l)] a q3 (g.aC ?_);exact Pr
   refine bf u [(101,l)] a bw (g.aC ?_);exact Pr
  rintro⟨⟩ -;have J:=vT (R:=λo=>ltInt o d2[x]!) (I:=d2) (w:=d) (d+1-ec) ec (bC _);obtain⟨fw,N⟩:∃fw,fw=scanUp (λo=>ltInt o d2[x]!) d2 d ec:=⟨_,rfl⟩
  rw[<-N]at J⊢;refine cJ u a v (g.cj (S2:=Unit) 8 a a (λ_=>True) (λ_=>[(0,dJ k),(1,S x),(10,S (fw:Nat)),(11,S ((scanDown (λo=>!ltInt o d2[x]!) d2 (fw) (d)):Nat))]) (λ_=>[cA k d2]) 1 (λi:Nat=>i<=d/\i<=k/\scanDown (λo=>!ltInt o d2[x]!) d2 (fw) i=scanDown (λo=>!ltInt o d2[x]!) d2 (fw) (d)) (λi=>[(0,dJ k),(1,S x),(10,S (fw:Nat)),(11,S (i:Nat))]) (λ_=>[cA k d2]) (λi=>i) (d) a ?_ a ?_ a ⟨bC _,by omega,a⟩ ?_ ?_)
  .simp[bt]<;>omega
  .simp
  .rintro du i ⟨q,t,Q⟩;by_cases T:fw<=i
   .by_cases ar:(λo=>!ltInt o d2[x]!) d2[i]! = f
    .have C:ltInt d2[i]! d2[x]! = l:=M;refine bf u [(117,f),(127,l)] a q3 (g.aA (i-1) a bw E EW ?_);omega
    have C:ltInt d2[i]! d2[x]! = f:=M;refine bf u [(117,f),(127,f)] a q3 (g.aC ?_);exact Qw
   refine bf u [(117,l)] a bw (g.aC ?_);exact Qw
  rintro⟨⟩ -;have K:=vS (R:=λo=>!ltInt o d2[x]!) (I:=d2) (e:=fw) d;obtain⟨s,V⟩:∃s,s=scanDown (λo=>!ltInt o d2[x]!) d2 fw d:=⟨_,rfl⟩
  rw[<-V]at K⊢;have Z:=aba y N V;by_cases O:s<fw
  .have ai:=Z;rw[A,br O]at ai;refine bf u [(134,f)] a bw (g.aC ?_);exact z () M a Nq a ua
  have ai:=Z;rw[A,bm y]at ai;refine bf u [(134,l),(1000019,f)] a ?_ ?_
  .simp only[U,cV,c5,a7,dj,ba,a9];exact fr
  refine g.bf [cA k (swp d2 fw s)] a ?_ ?_
  .simp only[U.Y,U,cV,c5,a9,ba];exact lO G y y (λ_ _=>rfl)
  refine cJ u a sf (g.aA (fw+1,s-1,swp d2 fw s) a bw E ?_ ?_)
  .grind [nF]
  grind
 rintro⟨⟩ ⟨ak,H⟩;refine bf u [(1000022,f)] a bw (g.bf [cA k (swp m.2 m.1 x)] a N2 ?_);exact O5
def aa'{d}{I}{cc a}(m:1<=e)(g:cc=scanUp (λb=>!ltInt I[d]! b) I w e)(i:a=scanDown (λb=>ltInt I[d]! b) I cc w):
  partEqLoop ltInt d e w I=if cc>a then(cc,I)else partEqLoop ltInt d (cc+1) (a-1) (swp I cc a):=by have k:=vT (R:=λb=>!ltInt I[d]! b) (I:=I) (w:=w) (w+1-e) e (bC _);have j:=vS (R:=λb=>ltInt I[d]! b) (I:=I) (e:=cc) w;rw[<-g]at k;rw[<-i]at j;rw[partEqLoop.eq_1,<-g,<-i];grind
def Wy(k)(I)(x j aa)(H:I.size=k)(Z:x<j)(ab:j<=k)(P:aa<k)(ag:k<=4000000):
  Y r 228 [dJ k,S x,S j,S aa] [cA k I] (S (partitionEqual ltInt I x j aa).1) [cA k (partitionEqual ltInt I x j aa).2]:=by
 have d:a8 r [(227,qh)]:=.cons r4 .nil;refine Y.K func228 rfl λad=>?_;refine bf d [(1000002,f)] a bw (g.bf [cA k (swp I x aa)] a N2 ?_);have D:(swp I x aa).size=k:=sg;unfold partitionEqual;generalize swp I x aa=d1 at *;obtain⟨m,G⟩:∃m,partEqLoop ltInt x (x+1) (j-1) d1=m:=⟨_,rfl⟩;rw[G];refine cJ d a sf ?_
 refine g.cj (S2:=Unit) 0 a a (λ_=>m.1<=k+1/\m.2.size=k) (λ_=>[(0,dJ k),(1,S x),(9,S m.1)]) (λ_=>[cA k m.2]) 1 (λb:Nat×Nat×Array Int=>b.2.2.size=k/\x+1<=b.1/\b.1<=k+1/\b.2.1<k/\partEqLoop ltInt x b.1 b.2.1 b.2.2=m) (λb=>[(0,dJ k),(1,S x),(9,S b.1),(10,S b.2.1)]) (λb=>[cA k b.2.2]) (λb=>b.2.1+1-b.1) (x+1,j-1,d1) a bw a E a ⟨D,by grind,by grind,by grind,G⟩ ?_ ?_
 .rintro Q ⟨ec,s,d2⟩ ⟨X,z,T,J,u⟩;simp only at X z T J u;refine cJ d a v (g.cj (S2:=Unit) 2 a a (λ_=>True) (λ_=>[(0,dJ k),(1,S x),(9,S ((scanUp (λo=>!ltInt d2[x]! o) d2 (s) (ec)):Nat)),(10,S (s:Nat))]) (λ_=>[cA k d2]) 1 (λi:Nat=>ec<=i/\i<=k+1/\scanUp (λo=>!ltInt d2[x]! o) d2 (s) i=scanUp (λo=>!ltInt d2[x]! o) d2 (s) (ec)) (λi=>[(0,dJ k),(1,S x),(9,S (i:Nat)),(10,S (s:Nat))]) (λ_=>[cA k d2]) (λi=>s+1-i) (ec) a ?_ a ?_ a ⟨bC _,by omega,a⟩ ?_ ?_)
  .simp[bt]<;>omega
  .simp
  .rintro du i ⟨O,V,N⟩;by_cases F:i<=s
   .by_cases ar:(λo=>!ltInt d2[x]! o) d2[i]! = f
    .have ae:ltInt d2[x]! d2[i]! = l:=M;refine bf d [(31,f),(41,l)] a zB (g.aA (i+1) a E E ?_ ?_)
     .grind [y6]
     omega
    have ae:ltInt d2[x]! d2[i]! = f:=M;refine bf d [(31,f),(41,f)] a zB (g.aC ?_);exact OG
   refine bf d [(31,l)] a bw (g.aC ?_);exact OG
  rintro⟨⟩ -;have q:=vT (R:=λo=>!ltInt d2[x]! o) (I:=d2) (w:=s) (s+1-ec) ec (bC _);obtain⟨fw,C⟩:∃fw,fw=scanUp (λo=>!ltInt d2[x]! o) d2 s ec:=⟨_,rfl⟩
  rw[<-C]at q⊢;refine cJ d a v (g.cj (S2:=Unit) 4 a a (λ_=>True) (λ_=>[(0,dJ k),(1,S x),(9,S (fw:Nat)),(10,S ((scanDown (λo=>ltInt d2[x]! o) d2 (fw) (s)):Nat))]) (λ_=>[cA k d2]) 1 (λi:Nat=>i<=s/\i<=k/\scanDown (λo=>ltInt d2[x]! o) d2 (fw) i=scanDown (λo=>ltInt d2[x]! o) d2 (fw) (s)) (λi=>[(0,dJ k),(1,S x),(9,S (fw:Nat)),(10,S (i:Nat))]) (λ_=>[cA k d2]) (λi=>i) (s) a ?_ a ?_ a ⟨bC _,by omega,a⟩ ?_ ?_)
  .simp[bt]<;>omega
  .simp
  .rintro du i ⟨O,V,N⟩;by_cases F:fw<=i
   .by_cases ar:(λo=>ltInt d2[x]! o) d2[i]! = f
    .have ae:ltInt d2[x]! d2[i]! = f:=M;refine bf d [(48,f),(58,f)] a zB (g.aA (i-1) a bw E EW ?_);omega
    have ae:ltInt d2[x]! d2[i]! = l:=M;refine bf d [(48,f),(58,l)] a zB (g.aC ?_);exact QM
   refine bf d [(48,l)] a bw (g.aC ?_);exact QM
  rintro⟨⟩ -;have t:=vS (R:=λo=>ltInt d2[x]! o) (I:=d2) (e:=fw) s;obtain⟨p,A⟩:∃p,p=scanDown (λo=>ltInt d2[x]! o) d2 fw s:=⟨_,rfl⟩
  rw[<-A]at t⊢;have B:=aa' y C A;by_cases K:p<fw
  .have ai:=B;rw[u,br K]at ai;refine bf d [(64,f)] a bw (g.aC ?_);exact Q () M a Nq a ua
  have ai:=B;rw[u,bm y]at ai;refine bf d [(64,l),(1000009,f)] a bw (g.bf [cA k (swp d2 fw p)] a ?_ ?_)
  .simp only[U.Y,U,cV,c5,a9,ba];exact lO X y y (λ_ _=>rfl)
  refine cJ d a sf (g.aA (fw+1,p-1,swp d2 fw p) a bw E ?_ ?_)
  .grind [nF]
  grind
 rintro⟨⟩ ⟨L,W⟩;refine cJ d a v (g.aS [0] a ?_ g4);simp
end
section
open Go.Sort (swp scanSorted shiftDown shiftUp partialIns partialInsertionSort ltInt)
variable {r:aj V}
theorem LW{a}(d:e<j)(b:ltInt a[e]! a[e-1]! = l):scanSorted ltInt a j e=scanSorted ltInt a j (e+1):=by rw[scanSorted.eq_1 ltInt a j e,br M]
theorem y5{a}(b:e<j->ltInt a[e]! a[e-1]! = f):scanSorted ltInt a j e=e:=by rw[scanSorted,bm];grind
def ab6{I}:∀b a,j-a<=b->a<=j->a<=scanSorted ltInt I j a/\scanSorted ltInt I j a<=j:=by
 intro b;induction b with
 |zero=>grind[y5]
 |succ b e=>
  intro a k g;by_cases d:a<j
  .cases i:ltInt I[a]! I[a-1]! with
   |false=>grind[LW]
   |true=>grind[y5]
  grind
theorem acj{a}(d:1<=w)(u:ltInt a[w]! a[w-1]! = f):shiftDown ltInt w a=shiftDown ltInt (w-1) (swp a w (w-1)):=by
 obtain⟨w,rfl⟩:∃b,w=b+1:=⟨w-1,by omega⟩
 simp only[p4]at u⊢;rw[shiftDown,bm gV]
theorem L5{a}(b:1<=w->ltInt a[w]! a[w-1]! = l):shiftDown ltInt w a=a:=by
 cases w with
 |zero=>rfl
 |succ w=>
  have:=b y;simp only[p4]at this;rw[shiftDown,br M]
theorem ack{a}(b:w<j)(u:ltInt a[w]! a[w-1]! = f):shiftUp ltInt j w a=shiftUp ltInt j (w+1) (swp a w (w-1)):=by rw[shiftUp.eq_1 ltInt j w a,br b,bm gV]
theorem L6{a}(b:w<j->ltInt a[w]! a[w-1]! = l):shiftUp ltInt j w a=a:=by rw[shiftUp];grind
abbrev qN(e a b d g:Nat):bH:=[(0,dJ e),(1,S a),(2,S b),(7,S d),(8,S (5-(g:Int)))]
def abe{d b}{a}:partialIns ltInt d j (b+1) e a=(if scanSorted ltInt a j e=j then(a,f)else if j-d<50 then(a,l)else
  partialIns ltInt d j b (scanSorted ltInt a j e) (if j-scanSorted ltInt a j e≥2 then shiftUp ltInt j (scanSorted ltInt a j e+1) (if scanSorted ltInt a j e-d≥2 then shiftDown ltInt (scanSorted ltInt a j e-1) (swp a (scanSorted ltInt a j e) (scanSorted ltInt a j e-1))else swp a (scanSorted ltInt a j e) (scanSorted ltInt a j e-1))else(if scanSorted ltInt a j e-d≥2 then shiftDown ltInt (scanSorted ltInt a j e-1) (swp a (scanSorted ltInt a j e) (scanSorted ltInt a j e-1))else swp a (scanSorted ltInt a j e) (scanSorted ltInt a j e-1)))):=rfl
def IS(k)(I)(s j)(ad:I.size=k)(aN:s<j)(ak:j<=k)(ao:k<=4000000):
  Y r 226 [dJ k,S s,S j] [cA k I] (bh (partialInsertionSort ltInt I s j).2) [cA k (partialInsertionSort ltInt I s j).1]:=by
 have m:a8 r [(227,qh)]:=.cons r4 .nil;refine Y.K func226 rfl λan=>?_;obtain⟨x,Q⟩:∃x,partialIns ltInt s j 5 (s+1) I=x:=⟨_,rfl⟩;have aa:partialInsertionSort ltInt I s j=x:=Q;rw[aa];refine cJ m a bK ?_
 refine g.cj (S2:=Unit) 0 a a (λ_=>x.2=l) (λ_=>[(0,dJ k)]) (λ_=>[cA k x.1]) 1 (λb:Nat×Nat×Array Int=>b.2.2.size=k/\b.1<=5/\s+1<=b.2.1/\b.2.1<=j/\partialIns ltInt s j b.1 b.2.1 b.2.2=x) (λb=>qN k s j b.2.1 b.1) (λb=>[cA k b.2.2]) (λb=>b.1) (5,s+1,I) a E a E a ⟨ad,by grind,by grind,by grind,Q⟩ ?_ ?_
 .rintro o ⟨b,e,d1⟩ ⟨L,W,bp,C,u⟩;simp only at L W bp C u;cases b with
  |zero=>
   rw[partialIns]at u;refine bf m [(14,l)] a E (g.aC ?_);exact o () M a E a (by simp[bt,<-u])
  |succ b=>
   rw[abe]at u;refine bf m [(14,f)] a bw (g.cj (S2:=Unit) 2 a a (λ_=>True) (λ_=>qN k s j (scanSorted ltInt d1 j e) (b+1)) (λ_=>[cA k d1]) 1 (λi:Nat=>e<=i/\i<=j/\scanSorted ltInt d1 j i=scanSorted ltInt d1 j e) (λi=>qN k s j i (b+1)) (λ_=>[cA k d1]) (λi=>j-i) e a E a E a ⟨bC _,C,a⟩ ?_ ?_)
   .rintro du i ⟨ag,D,ah⟩;by_cases aj:i<j
    .have O:((i:Int)-1).toNat=i-1:=y;cases R:ltInt d1[i]! d1[i-1]! with
     |false=>
      refine bf m [(19,f),(30,l)] a Qq (g.aA (i+1) a E E ?_ ?_)
      .grind [LW]
      omega
     |true=>
      refine bf m [(19,f),(30,f)] a Qq (g.aC ?_);have ai:scanSorted ltInt d1 j e=i:=by grind[y5]
      exact du () v a bw a E
    refine bf m [(19,l)] a bw (g.aC ?_);have ai:scanSorted ltInt d1 j e=i:=by grind[y5]
    exact du () v a bw a E
   rintro⟨⟩ -;have ae:=ab6 (I:=d1) (j:=j) (j-e) e (bC _) C;obtain⟨cc,G⟩:∃cc,cc=scanSorted ltInt d1 j e:=⟨_,rfl⟩;rw[<-G]at ae u⊢
   by_cases F:cc=j
   .rw[br F]at u;rw[<-u];refine bf m [(37,f)] a ?_ (g.aX (bW.mk [0] a ?_ a a a g4))
    .simp[F]
    simp
   rw[bm F]at u;by_cases Z:j-s<50
   .rw[br Z]at u;rw[<-u];refine bf m [(37,l),(41,f)] a oP (g.aX (bW.mk [0] a ?_ a a a g4));simp
   rw[bm Z]at u;have O:((cc:Int)-1).toNat=cc-1:=y;refine bf m [(37,l),(41,l),(1000012,f)] a ?_ ?_
   .simp only[U,cV,c5,O,a7,dj,eX,dZ,ba,a9];exact fr
   refine g.bf [cA k (swp d1 cc (cc-1))] a ?_ ?_
   .simp only[U.Y,U,cV,c5,O,a9,ba];exact lO L y y (λ_ _=>rfl)
   have X:(swp d1 cc (cc-1)).size=k:=sg;obtain⟨d2,N⟩:∃d2,d2=swp d1 cc (cc-1):=⟨_,rfl⟩;rw[<-N]at X u⊢;obtain⟨d3,B⟩:∃d3,d3=if cc-s≥2 then shiftDown ltInt (cc-1) d2 else d2:=⟨_,rfl⟩
   rw[<-B]at u;have DY:∀p I,(shiftDown ltInt p I).size=I.size:=by
    intro p;induction p with
    |zero=>intro I;rfl
    |succ p aq=>
     intro I;rw[shiftDown];exact sg
   have z:d3.size=k:=M;apply g.cg (qN k s j cc (b+1)) [cA k d3]
   .intro du;by_cases K:cc-s≥2
    .rw[br K]at B;refine bf m [(61,f)] a si (g.cj (S2:=Unit) 4 a a (λ_=>True) (λ_=>qN k s j cc (b+1)) (λ_=>[cA k d3]) 1 (λb:Nat×Array Int=>b.2.size=k/\b.1<j/\shiftDown ltInt b.1 b.2=d3) (λw=>qN k s j cc (b+1)++[(9,S w.1)]) (λb=>[cA k b.2]) (λb=>b.1) (cc-1,d2) a bw a E a ⟨X,by grind,B.symm⟩ ?_ ?_)
     .rintro A ⟨p,d4⟩ ⟨t,H,d⟩;simp only at t H d;by_cases V:1<=p
      .have q:((p:Int)-1).toNat=p-1:=y;cases R:ltInt d4[p]! d4[p-1]! with
       |true=>
        refine bf m [(65,f),(77,f)] a zP (g.aA (p-1,swp d4 p (p-1)) a bw NX ?_ ?_)
        .grind [acj]
        grind
       |false=>
        refine bf m [(65,f),(77,l)] a zP (g.aC ?_);have ai:d3=d4:=by grind[L5]
        exact A () v a E a ua
      refine bf m [(65,l)] a bw (g.aC ?_);have ai:d3=d4:=by grind[L5]
      exact A () v a E a ua
     rintro⟨⟩ -;exact bf m [(1000018,f)] a v kx
    rw[bm K]at B;rw[<-B];exact bf m [(61,l),(1000018,f)] a zI kx
   by_cases T:j-cc≥2
   .rw[br T]at u;obtain⟨e4,J⟩:∃e4,shiftUp ltInt j (cc+1) d3=e4:=⟨_,rfl⟩;rw[J]at u;refine bf m [(98,f)] a si ?_
    refine g.cj (S2:=Unit) 6 a a (λ_=>e4.size=k) (λ_=>qN k s j cc (b+1)) (λ_=>[cA k e4]) 1 (λb:Nat×Array Int=>b.2.size=k/\1<=b.1/\b.1<=j/\shiftUp ltInt j b.1 b.2=e4) (λw=>qN k s j cc (b+1)++[(10,S w.1)]) (λb=>[cA k b.2]) (λb=>j-b.1) (cc+1,d3) a E a E a ⟨z,by grind,by grind,J⟩ ?_ ?_
    .rintro A ⟨p,d4⟩ ⟨t,V,H,d⟩;simp only at t V H d;by_cases P:p<j
     .have q:((p:Int)-1).toNat=p-1:=y;cases R:ltInt d4[p]! d4[p-1]! with
      |true=>
       refine bf m [(103,f),(115,f)] a zP (g.aA (p+1,swp d4 p (p-1)) a E NX ?_ ?_)
       .grind [nF,ack]
       grind
      |false=>
       refine bf m [(103,f),(115,l)] a zP (g.aC ?_);have ai:e4=d4:=by grind[L6]
       exact A () M a E a ua
     refine bf m [(103,l)] a bw (g.aC ?_);have ai:e4=d4:=by grind[L6]
     exact A () M a E a ua
    rintro⟨⟩ W;refine cJ m a t7 (g.aA (b,cc,e4) a bw E M ?_);grind
   rw[bm T]at u;refine bf m [(98,l)] a zI (g.aA (b,cc,d3) a bw E M ?_);grind
 rintro⟨⟩ ab;refine cJ m a v (g.aS [0] a ?_ g4);simp[ab]
end
section
open Go.Sort (swp pdq rd Rd Below SWO insertionSort heapSort breakPatterns choosePivot reverseRange partialInsertionSort partition partitionEqual Hint ltInt PermIn SortedIn)
variable {r:aj V}
abbrev vN(i d e g:Nat)(a b:Bool):bH:=[(0,dJ i),(1,S d),(2,S e),(3,S g),(8,bh a),(9,bh b)]
def JG{a}:qz a=2↔a=.decreasing:=by cases a<;>simp[qz]
def YB{a}:qz a=1↔a=.increasing:=by cases a<;>simp[qz]
structure RB where
 cB:Nat
 c8:Nat
 lim:Nat
 hP:Bool
 hS:Bool
 c9:Array Int
def Va(k)(a){x}(d:a.size=k)(i:j<=k)(e:x<=k)(m:k<=4000000){b}(g:b=insertionSort ltInt a x j):Y r 221 [dJ k,S x,S j] [cA k a] (.Q []) [cA k b]:=by grind[U']
def UQ(k)(a){x}(e:a.size=k)(d:x<=j)(i:1<=j-x)(m:j<=k)(o:k<=4000000){b}(g:b=heapSort ltInt a x j):Y r 222 [dJ k,S x,S j] [cA k a] (.Q []) [cA k b]:=by grind[UN]
def WB(k)(u:k<=4000000):∀aw(K:Array Int)(x j lim:Nat),j-x<=aw->K.size=k->x<=j->j<=k->lim<=100->Below ltInt x j K ->
  ∀{o aQ aR:Int},o=x->aQ=j->aR=lim->∀{aq:Array Int},aq=pdq ltInt K x j lim f f->Y r 189 [dJ k,S o,S aQ,S aR] [cA k K] (.Q []) [cA k aq]:=by
 have e:a8 r [(227,qh)]:=.cons r4 .nil;have N:=Go.Sort.swo_ltInt;have a5:=Go.Sort.partialInsertionSort_holds (lt:=ltInt);have aj:=Go.Sort.partition_holds ltInt;have ai:=Go.Sort.partitionEqual_holds ltInt;have aZ:=Go.Sort.reverseRange_holds (α:=Int);have L:=Go.Sort.pdq_sorts ltInt;intro aw;induction aw using Nat.strongRecOn with
 |_ aw ak=>
 intro K x j lim bb ae ad aG aI aE o aQ aR aJ aK aL aq ab;subst aJ aK aL;refine Y.K func189 rfl λaH=>?_;refine cJ e a v (g.aL 1 (λq:RB=>q.c9.size=k/\q.cB<=q.c8/\q.c8<=k/\q.lim<=100/\q.c8-q.cB<=j-x/\Below ltInt q.cB q.c8 q.c9/\pdq ltInt q.c9 q.cB q.c8 q.lim q.hP q.hS=aq) (λq=>vN k q.cB q.c8 q.lim q.hP q.hS) (λq=>[cA k q.c9]) (λq=>q.c8-q.cB) ⟨x,j,lim,f,f,K⟩ a E a E a ⟨ae,ad,aG,aI,bC _,aE,ab.symm⟩ ?_);clear aH aE ae ab;rintro⟨i,m,s,d,p,d1⟩ ⟨T,ax,t,ag,ah,aE,Q⟩;simp only at T ax t ag ah aE Q;by_cases O:m-i<=12
 .rw[Go.Sort.pdq_small O]at Q;refine bf e [(23,f)] a ?_ ?_
  .simp only[U,a7,bA];exact fr
  exact g.aF (Va k d1 (x:=i) (j:=m) T t y u Q.symm) [0] a Fo
 by_cases R:s=0
 .rw[Go.Sort.pdq_heap O R]at Q;refine bf e [(23,l),(29,f)] a ?_ ?_
  .simp only[U,a7,dj,hg];exact fr
  exact g.aF (UQ k d1 (x:=i) (j:=m) T ax y t u Q.symm) [0] a Fo
 have an:i<m:=y;obtain⟨X,a6,a_,f4,f5,au,ar,f8⟩:=Go.Sort.rd_facts (limit:=s) (wb:=d) (wp:=p) N a5 aZ an M aE;have a':=Go.Sort.rd_lim_le (lt:=ltInt) (d:=d1) (a:=i) (b:=m) (limit:=s) (wb:=d) (wp:=p);have a0:=Go.Sort.rd_dec (lt:=ltInt) (d:=d1) (a:=i) (b:=m) (limit:=s) (wb:=d) (wp:=p);have aN:=Go.Sort.rd_not (lt:=ltInt) (d:=d1) (a:=i) (b:=m) (limit:=s) (wb:=d) (wp:=p);have G:=Go.Sort.rd_pi_yes (lt:=ltInt) (d:=d1) (a:=i) (b:=m) (limit:=s) (wb:=d) (wp:=p);have aV:=Go.Sort.rd_pi_no (lt:=ltInt) (d:=d1) (a:=i) (b:=m) (limit:=s) (wb:=d) (wp:=p);have aB:=Go.Sort.rd_c (lt:=ltInt) (d:=d1) (a:=i) (b:=m) (limit:=s) (wb:=d) (wp:=p);have Z:d=l->(rd ltInt d1 i m s d p).d1=breakPatterns d1 i m/\(rd ltInt d1 i m s d p).lim=s-1:=by grind[Go.Sort.rd_false]
 have aa:d=f->(rd ltInt d1 i m s d p).d1=d1/\(rd ltInt d1 i m s d p).lim=s:=by grind[Go.Sort.rd_true]
 have aS:=Go.Sort.pdq_done (lt:=ltInt) (d:=d1) (wb:=d) (wp:=p) O R;have geq:=Go.Sort.pdq_eq (lt:=ltInt) (d:=d1) (wb:=d) (wp:=p) O R;have z:=Go.Sort.pdq_left (lt:=ltInt) (d:=d1) (wb:=d) (wp:=p) O R;have aX:=Go.Sort.pdq_right (lt:=ltInt) (d:=d1) (wb:=d) (wp:=p) O R;rw[T]at X f4 ar;rw[Q]at aS geq z aX;generalize rd ltInt d1 i m s d p=b at *;apply g.cg (vN k i m b.lim d p++[(10,S ((m-i:Nat):Int))]) [cA k b.d1]
 .intro du;cases d with
  |false=>
   obtain⟨H,J⟩:=Z rfl;refine bf e [(23,l),(29,l)] a OV (g.aF (TL k d1 i m T ax t u) [0] a ?_);rw[<-H];refine bf e [(1000010,f)] a sf ?_;exact du _ _ a (by simp[U.Y,U,J,ba,a9];and_intros<;>omega)
  |true=>
   obtain⟨H,J⟩:=aa rfl;subst H;exact bf e [(23,l),(29,l),(1000010,f)] a OV (du _ _ a bw)
 refine cJ e a v (g.aF (TN k b.d1 i m ax t y u) [0] a ?_);rw[<-aB];apply g.cg (vN k i m b.lim d p++[(10,S ((m-i:Nat):Int)),(11,S b.pivot),(12,S (qz b.hint))]) [cA k b.d2]
 .intro du;by_cases aT:b.c.2=.decreasing
  .obtain⟨H,J,B⟩:=a0 aT;refine bf e [(50,f)] a ?_ ?_
   .simp only[U,hg,JG];omega
   refine g.aF (WN k b.d1 i m X y y t u) [0] a ?_;rw[<-H];exact bf e [(1000015,f)] a sf (du _ _ a (by simp[U.Y,U,J,B,qz,ba,a9];omega))
  obtain⟨H,J,B⟩:=aN aT;rw[<-H];refine bf e [(50,l),(1000015,f)] a ?_ ?_
  .simp only[U,eX,dZ,JG];omega
  exact du _ _ a (by simp[U.Y,U,J,B,ba,a9])
 by_cases C:b.pi.2=f
 ·
  have aM:(d&&p&&decide (b.hint=.increasing))=f:=M;have V:=G aM;simp[cE,bA]at aM;obtain⟨⟨rfl,rfl⟩,a3⟩:=aM;refine bf e [(67,f)] a bK (g.aF (IS k b.d2 i m f4 an t u) [0] a ?_);rw[<-V,C,<-aS C];exact Fo
 rw[p7]at C;apply g.cg (vN k i m b.lim d p++[(10,S ((m-i:Nat):Int)),(11,S b.pivot)]) [cA k b.pi.1]
 .intro du;cases A:(d&&p&&decide (b.hint=.increasing))with
  |true=>
   have V:=G A;simp[cE,bA]at A;obtain⟨⟨rfl,rfl⟩,a3⟩:=A;refine bf e [(67,f)] a bK (g.aF (IS k b.d2 i m f4 an t u) [0] a ?_);rw[<-V,C];exact E8
  |false=>
   have V:b.d2=b.pi.1:=M;rw[V];cases d with
   |false=>
    exact E8
   |true=>
    cases p with
    |false=>
     exact E8
    |true=>
     refine bf e [(67,l),(1000017,f)] a ?_ ?_
     .simp only[U,eX,dZ,YB];grind
     exact kx
 have W:((i:Int)-1).toNat=i-1:=y;cases A:(decide (i>0)&&!ltInt b.pi.1[i-1]! b.pi.1[b.pivot]!)with
 |true=>
  have az:=A;simp[cE,bA,j8]at az;obtain⟨F,w,I,D,_⟩:=Go.Sort.round_eq (mid:=(partitionEqual ltInt b.pi.1 i m b.pivot).1) (d4:=(partitionEqual ltInt b.pi.1 i m b.pivot).2) N ai az.1 au.1 au.2 M f8 az.2 rfl;have av:=geq C A ⟨F,w⟩;refine bf e [(74,f),(85,l)] a ?_ ?_
  .simp only[U,cV,c5,W,az.2,a7,bA,ba,a9];exact fr
  refine g.aF (Wy k b.pi.1 i m b.pivot ar an t y u) [0] a (cJ e a v (g.aA ⟨(partitionEqual ltInt b.pi.1 i m b.pivot).1,m,b.lim,d,p,(partitionEqual ltInt b.pi.1 i m b.pivot).2⟩ a E E M ?_));grind
 |false=>
  obtain⟨F,w,I,D,ao,aO,aP⟩:=Go.Sort.round_part (mid:=(partition ltInt b.pi.1 i m b.pivot).1) (ap:=(partition ltInt b.pi.1 i m b.pivot).2.1) (d4:=(partition ltInt b.pi.1 i m b.pivot).2.2) N aj au.1 au.2 M f8 rfl;apply g.cg (vN k i m b.lim d p++[(10,S ((m-i:Nat):Int)),(11,S b.pivot)]) [cA k b.pi.1]
  .intro du;by_cases aW:0<i
   .have a4:ltInt b.pi.1[i-1]! b.pi.1[b.pivot]! = f:=M;refine bf e [(74,f),(85,f),(1000020,f)] a ?_ ?_
    .simp only[U,cV,c5,W,a4,a7,bA,ba,a9];exact fr
    exact kx
   exact bf e [(74,l),(1000020,f)] a bw kx
  refine cJ e a v (g.aF (Wx k b.pi.1 i m b.pivot ar an t y u) [0] a ?_);have aD:=z C A ⟨F,w⟩;have aF:=aX C A ⟨F,w⟩;generalize partition ltInt b.pi.1 i m b.pivot=P at *;rw[ar]at I;by_cases aU:P.1-i<m-P.1
  .have av:=aD aU;obtain⟨w1,w2⟩:=L N P.2.2 i P.1 b.lim f f F M D;obtain⟨w3,_⟩:=aO _ w1 w2;refine bf e [(113,f)] a si (g.aF (ak (P.1-i) y P.2.2 i P.1 b.lim (bC _) I F y y D a a a a) [0] a (cJ e a Rb (g.aA ⟨P.1+1,m,b.lim,decide (P.1-i≥(m-i) / 8),P.2.1,pdq ltInt P.2.2 i P.1 b.lim f f⟩ a bw E ?_ ?_)))
   .exact⟨by simp only;rw[w1.1,I],by grind,t,by grind,by grind,w3,av.symm⟩
   grind
  have av:=aF aU;obtain⟨w1,w2⟩:=L N P.2.2 (P.1+1) m b.lim f f y M ao;obtain⟨w3,_⟩:=aP _ w1 w2;refine bf e [(113,l)] a zI (g.aF (ak (m-(P.1+1)) y P.2.2 (P.1+1) m b.lim (bC _) I y t y ao (o:=(P.1:Int)+1) y a a a) [0] a (cJ e a ?_ (g.aA ⟨i,P.1,b.lim,decide (m-P.1≥(m-i) / 8),P.2.1,pdq ltInt P.2.2 (P.1+1) m b.lim f f⟩ a ?_ ?_ ?_ ?_)))
  .trivial
  .exact bw
  .simp
  .exact⟨by simp only;rw[w1.1,I],by grind,by grind,by grind,by grind,w3,av.symm⟩
  grind
end
section
open Go.Proofs Go.Conc Go.Conc.Lib
open Go.ConcN (WgLive PayAt Has RW AtR0)
open Go.ConcR (KK WgAt stA smA rd wr mk Payload DC0)
instance afi:Payload:=⟨296⟩
def nc(i:Int):bL:=λargs e=>match args,e with
 |[.n (.aq (.c (.int .i64 d))),g,.n (.aq (.c (.int .i64 j)))],[]=>match jW 2 g with
  |none=>n
  |some (b,a)=>h (xQ (dM d (a2.af b a) j),[],[a2.bU b a,d=i])
 |_,_=>n
noncomputable def GB:Code:=(Tryz.f233.body).getD .skip
noncomputable def Dx:Array ap:=match GB with|.seq (.region _ a _) _=>a|_=>#[]
noncomputable def vD:Array ap:=match GB with|.seq _ (.region _ a _)=>a|_=>#[]
def Sh:Tryz.f233.body=h (.seq (.region 0 Dx l) (.region 1 vD f)):=bJ
def gH(e:Option Nat)(a:Op)(b:av)(d:Array Edge):ap:={dst:=e,op:=a,type:=b,pos:= "l12_snap.go:82",after:=d,guard:=n}
def mI:m ap:=[gH (h 6) (.load 286 (.tmp 4)) 286 #[],gH (h 7) (.load 3 (.tmp 5)) 3 #[],gH (h 8) (.load 3 (.tmp 1)) 3 #[],gH (h 9) (.load 23 (.tmp 2)) 23 #[],gH (h 10) (.load 3 (.tmp 3)) 3 #[],
 gH (h 11) (.call {callee:=.value (.func 235),args:=#[.tmp 8,.tmp 9,.tmp 10],argTypes:=#[3,23,3]}) 296 #[⟨2,.data⟩,⟨3,.data⟩,⟨4,.data⟩],
 gH (h 12) (.indexAddr 286 (.tmp 6) (.tmp 7)) 0 #[⟨0,.data⟩,⟨1,.data⟩,⟨0,.phase⟩,⟨1,.phase⟩,⟨2,.phase⟩,⟨3,.phase⟩,⟨4,.phase⟩,⟨5,.phase⟩],
 gH n (.store 296 (.tmp 12) (.tmp 11)) 0 #[⟨6,.data⟩,⟨5,.data⟩,⟨5,.chain⟩,⟨0,.phase⟩,⟨1,.phase⟩,⟨2,.phase⟩,⟨3,.phase⟩,⟨4,.phase⟩,⟨5,.phase⟩]]
def aaX:vD=mI.toArray:=bJ
def yP(a:mI[e]?=h t):e<8:=(cO.1 a).1
section
variable (i:Int)(ab:m b')(x:Int)(k o N:Nat)
def K6(a:Z):bH:=[(0,cM a),(1,ax (.O [.int .i64 i])),(2,ax (.O [.S l 2 (c ab) (a2.fn ab)])),(3,ax (.O [.int .i64 x])),(4,ax (.O [.val (.slice (h ⟨N,0,n⟩) k k)])),(5,ax (.O [.int .i64 o]))]
def sa:Nat->z
 |0=>cM (.slice (h ⟨N,0,n⟩) k k)
 |1=>S o
 |2=>S i
 |3=>a2.S ab
 |4=>S x
 |5=>xQ (dM i ab x)
 |6=>cM (.pointer (h ⟨N,o*2,n⟩))
 |_=>.any
def rK:Nat->Option Nat
 |6=>h 0|7=>h 1|8=>h 2|9=>h 3|10=>h 4|11=>h 5|12=>h 6|_=>n
def Js(a:Z):Nat->bH
 |5=>[(8,S i),(9,a2.S ab),(10,S x)]
 |6=>[(6,cM (.slice (h ⟨N,0,n⟩) k k)),(7,S o)]
 |_=>K6 i ab x k o N a
end
def aaN{p:aj V}{k o N}(m:o<k):aV p 13 mI (gH (h 12) (.indexAddr 286 (.tmp 6) (.tmp 7)) 0 #[⟨0,.data⟩,⟨1,.data⟩,⟨0,.phase⟩,⟨1,.phase⟩,⟨2,.phase⟩,⟨3,.phase⟩,⟨4,.phase⟩,⟨5,.phase⟩]) [(6,cM (.slice (h ⟨N,0,n⟩) k k)),(7,S o)] [] (cM (.pointer (h ⟨N,o*2,n⟩))) []:=by
 refine .a1 (λ_ _ _ _=>iY a) (a0.aZ λs e u i=>?_);have d:=i (.tmp 6);have b:=i (.tmp 7);have q:bF [(6,z.n (.aq (.v (.slice (h ⟨N,0,n⟩) k k)))),(7,S o)] (.tmp 6)=cM (.slice (h ⟨N,0,n⟩) k k):=rfl;have r:bF [(6,z.n (.aq (.v (.slice (h ⟨N,0,n⟩) k k)))),(7,S o)] (.tmp 7)=S o:=rfl;rw[q]at d;rw[r]at b;have d:=Rd.bd d;have b:=b7 b;generalize g:e (.tmp 7)=t at b;cases b;have j:=(bd 286 yr a).run_underlying (Q:=s.a);refine⟨.pointer (h ⟨N,o*2,n⟩),?_,Rd.val a,?_⟩
 .simp[ac,gH,d,g,Instr.indexAt,asIntOf,j,yr,(bd 296 qB a).bb,qB,gN,m]
 simp[ac,gH,d,g,Instr.indexAt,asIntOf,j,yr,gN,m]
def aer{z:aj V}{i}(D:bM z 235 (nc i))(ab)(x)(k o N)(J:o<k)(d):
  ut z 13 mI.toArray (K6 i ab x k o N d) [] (sa i ab x k o N) (Js i ab x k o N d) rK 7:=by
 have F:a8 z [(235,nc i)]:=a8.cons D a8.nil;have u:∀(j:Nat) r A w m,mI[j]?=h r->hA eR [(235,nc i)] [] mI A [] r=h (w,n,m)->U m->aV z 13 mI r A [] w []:=
  λj r A w m _ y e=>ee bd F y e
 refine⟨?_,?_,?_,?_,?_,?_,by decide⟩
 .intro j r e K C _;simp[j7]at e;have g:=yP e
  match j,g with
  |0,_|1,_|2,_|3,_|4,_|5,_|6,_|7,_=>
   cases e;simp[gH]at C;try (rcases C with rfl|rfl|rfl|rfl|rfl|rfl|rfl|rfl|rfl<;>decide)
   try (rcases C with rfl|rfl|rfl<;>decide)
 .intro j r w e B;simp[j7]at e;have g:=yP e
  match j,g with
  |0,_|1,_|2,_|3,_|4,_|5,_|6,_|7,_=>
   cases e;cases B;try exact⟨rfl,by decide⟩
 .intro w j y;unfold rK at y;split at y<;>cases y<;>exact⟨_,rfl,rfl⟩
 .intro j r e t;simp[j7]at e;have g:=yP e
  match j,g with
  |0,_=>cases e;exact u 0 _ _ _ _ a a v
  |1,_=>cases e;exact u 1 _ _ _ _ a a v
  |2,_=>cases e;exact u 2 _ _ _ _ a a v
  |3,_=>cases e;exact u 3 _ _ _ _ a a v
  |4,_=>cases e;exact u 4 _ _ _ _ a a v
  |5,_=>
   cases e;have:=u 5 _ (Js i ab x k o N d 5) _ _ a a (by simp[a2.U]);rw[a2.E]at this;exact this
  |6,_=>cases e;exact aaN J
  |7,_=>grind
 .intro j r e t q p b aa s;simp[j7]at e;have g:=yP e
  match j,g with
  |0,_|1,_|2,_|3,_|4,_=>
   match q with
   |0|1|2|3|4|5=>exact s
   |q+6=>trivial
  |5,_=>
   cases e
   match q with
   |8=>exact(show bx p b aa (sa i ab x k o N 2)from by simpa[rK,gH,eN,Region.binds]using s)
   |9=>exact(show bx p b aa (sa i ab x k o N 3)from by simpa[rK,gH,eN,Region.binds]using s)
   |10=>exact(show bx p b aa (sa i ab x k o N 4)from by simpa[rK,gH,eN,Region.binds]using s)
   |0|1|2|3|4|5|6|7=>trivial
   |q+11=>trivial
  |6,_=>
   cases e
   match q with
   |6=>exact(show bx p b aa (sa i ab x k o N 0)from by simpa[rK,gH,eN,Region.binds]using s)
   |7=>exact(show bx p b aa (sa i ab x k o N 1)from by simpa[rK,gH,eN,Region.binds]using s)
   |0|1|2|3|4|5=>trivial
   |q+8=>trivial
  |7,_=>grind
 intro r e E I t;simp[j7]at e;cases e
 match E,I with
 |0,_=>exact⟨⟨0,.phase⟩,by simp[gH],rfl,rfl⟩
 |1,_=>exact⟨⟨1,.phase⟩,by simp[gH],rfl,rfl⟩
 |2,_=>exact⟨⟨2,.phase⟩,by simp[gH],rfl,rfl⟩
 |3,_=>exact⟨⟨3,.phase⟩,by simp[gH],rfl,rfl⟩
 |4,_=>exact⟨⟨4,.phase⟩,by simp[gH],rfl,rfl⟩
 |5,_=>exact⟨⟨5,.phase⟩,by simp[gH],rfl,rfl⟩
 |6,_=>exact⟨⟨6,.data⟩,by simp[gH],rfl,rfl⟩
 |7,_=>grind
noncomputable def mn:aK:={(default:aK)with fn:=Tryz.prog.funcs.size,defers:=[],mode:=.panicking [goexitEntry]}
def ry(B:Array Z):Deferred:={target:=.fn (.func 233) B,args:=#[]}
def Si(v0 v1 v2 a v4 b)(d):aq V l (born V (ry #[v0,v1,v2,a,v4,b])) d =
  .go (G ((baseD 233).at ⟨#[v0,v1,v2,a,v4,b,K,K,K,K,K,K,K],[]⟩ [.code (.seq (.region 0 Dx l) (.region 1 vD f))]) [mn]) d #[]:=by
 have i:=Sh;have g:Tryz.f233.ntmps=13:=bJ;have e:¬Tryz.f233.name= "runtime.NumGoroutine":=by have:(Tryz.f233.name== "runtime.NumGoroutine")=l:=bJ;grind
 simp[born,ry,aq,unwind,callDeferred,invoke,callFunc,Tryz.func233,i,g,e,seen,GStep.after,G,Frame.enter,Frame.at,baseD,mn]
end
section
variable {r:aj V}
abbrev vI(a:m b')(b:Nat):b':=a.getD b (0,[])
def X3{k}{ab}{b}(g:e<c ab)(o:gp i (vI ab e) k=h b)(d:∀a,a<e->gp i (vI ab a) k=n):dM i ab k=h b:=by
 unfold dM;induction ab generalizing e with
 |nil=>grind
 |cons p ab j=>
  cases e with
  |zero=>grind
  |succ e=>
   have m:=d 0 y;grind
def X4{k}{ab}(b:∀a,a<c ab->gp i (vI ab a) k=n):dM i ab k=n:=by unfold dM;grind[List.getElem_of_mem]
theorem k2.fc{P}{F}{p}{ad}(aR:bn P ad){fn}{s}{res}{ao}(aP){ab}(b:tB ad fn.results.toList aP F res=h ab)(q:U ab)(r:dv aP p=h ao)(k:l4 ao=f)(g:e8 aP=f)(e:∀i,i<s->aP[i]?=h i):
  k2 P fn s res ao .ret F p:=by
 refine⟨.inl a,aP,?_⟩;unfold tB at b;split at b
 .rename_i bg d;split at b
  .rename_i m o;split at b
   .rename_i j;exact⟨m,ab,oV.fc aR d o,b,q,j,r,k,g,e⟩
   grind
  grind
 grind
def fI{b:m Nat}:∀a,a<0->b[a]?=h a:=λ_ d=>absurd d (iF _)
def Uq(p:bM r 206 lI)(i)(ab)(k)(j:cK i=f):Y r 235 [S i,a2.S ab,S k] [] (xQ (dM i ab k)) []:=by
 refine Y.bD func235 rfl rfl rfl λq=>?_;have w:=q.S 1 a;have e:a8 r [(277,kg c8 (jz bG) c8 (λi u k=>iL (gp i u k)) λi _ _=>[cK i=f])]:=.cons (ad0 p) .nil;refine b_ e a v (g.aL 1 (λb=>b<=c ab/\∀m,m<b->gp i (vI ab m) k=n) (λb:Nat=>[(0,S i),(2,S k),(6,aG 0 0),(11,a2.S ab),(12,S (c ab)),(13,S b)]) (λ_=>[.cells 296 [.c (.V []),.c (.bool l)]]) (λb=>c ab-b) 0 a E a E a ⟨by omega,by omega⟩ ?_);rintro b ⟨t,o⟩;by_cases s:b<c ab
 .cases d:gp i (vI ab b) k with
  |some z=>
   refine a_ e [(14,f),(24,f)] a ?_ (g.freeze 6 0 a a a (g.aX ?_))
   .simp only[U,c5,bG.E];refine⟨?_,bG.U _,j,by omega,by omega,fm y⟩;grind
   refine k2.fc bd [] a ?_ a a a fI;rw[X3 s d o];simp only[c5,bG.E];simp_all
  |none=>
   refine a_ e [(14,f),(24,l)] a ?_ (g.aA (b+1) a ?_ ?_ ?_ ?_)
   .simp only[U,c5,bG.E];refine⟨by exact bK,?_,bG.U _,j,by omega,by omega,fm y⟩;grind
   .simp
   .simp
   .grind
   grind
 refine a_ e [(14,l)] a bV (g.aC ?_);refine b_ e a v (g.freeze 6 0 a a a ?_);refine g.cp bd [] a ?_ a a a fI;rw[X4 λm x=>o m y];simp
def adz(o:bM r 206 lI)(d:cK i=f):bM r 235 (nc i):=by
 intro args t j m g b e;unfold nc at b;split at b
 .rename_i k1 s k;split at b
  .cases b
  rename_i v u p;cases b;obtain⟨q,rfl⟩:=e;exact(Uq o _ _ k d).args λw B=>b5.imp (λ_ a=>a) (b5.imp (λ_ a=>a2.cC p q a) (b5.imp (λ_ a=>a) (λ_ a=>a))) B
 grind
def sM:bL:=λargs b=>match args,b with
 |[.n (.aq (.c (.V [46]))),.n (.aq (.c (.int .i64 a)))],[]=>h (b2 (aY a.toNat 46),[],[0<=a/\a<=3])
 |_,_=>n
def adb:bM r 253 (df c8 (λa=>S (e3 a.toNat)) λa=>[0<=a/\a<=4000000]):=.ba λa d=>by
 have e:0<=a/\a<=4000000:=d;obtain⟨b,rfl⟩:∃b:Nat,a=b:=⟨a.toNat,by omega⟩
 exact TS (r:=r) b y
def SF(a:1<=k)(b:k<=8):k<=e3 k/\e3 k<=k+3:=FJ
def Wu(i:bM r 252 sM)(d):Y r 206 [b2 d] [] (b2 (fB d)) []:=by
 refine Y.K func206 rfl λk=>?_;have e:a8 r [(251,df eB (λj=>bh (cC j)) λ_=>[]),(253,df c8 (λb=>S (e3 b.toNat)) λb=>[0<=b/\b<=4000000]),(252,sM)]:=.cons Ek (.cons adb (.cons i .nil));by_cases x:cC d=f
 .have s:=x;simp only[cC,cE,bA]at s;have m:=SF s.1.1 s.1.2;refine a_ e [(5,l)] a ?_ (g.aw a ?_)
  .simp[x,a7];omega
  simp[fB,x]
 refine a_ e [(5,f)] a oS (g.aw a ?_);simp[fB,x]
def adV(a:bM r 252 sM):bM r 206 lI:=.ba λb _=>Wu a b
def WL:Y r 252 [b2 [46],S 0] [] (b2 []) []:=by refine Y.K func252 rfl λb=>?_;refine a6 [(12,f)] a ?_ (g.aw a);simp
def WM:Y r 252 [b2 [46],S 1] [] (b2 [46]) []:=by refine Y.K func252 rfl λb=>?_;refine a6 [(12,l),(14,f)] a ?_ (g.aw a);simp
def ad6(g:Y r 252 [b2 [46],S 2] [] (b2 [46,46]) [])(k:Y r 252 [b2 [46],S 3] [] (b2 [46,46,46]) []):bM r 252 sM:=by
 intro args j d e b a i;unfold sM at a;split at a
 .rename_i s;cases a;have:s=0∨s=1∨s=2∨s=3:=lJ;rcases this with rfl|rfl|rfl|rfl
  .exact WL
  .exact WM
  .exact g
  grind
 grind
def Up(x j):Y r 238 [bR.S x,bR.S j] [] (bh (x==j)) []:=by
 refine Y.K func238 rfl λm=>?_;have q:=m.S 0 a;by_cases i:c x=c j
 .refine a6 [(10,l)] a (by simp[i]) (g.ca (λb=>b<=c x/\∀d,d<b->x.getD d []=j.getD d []) (λb:Nat=>[(0,bR.S x),(1,bR.S j),(12,S (c x)),(13,S b)]) (λ_=>[]) (λb=>c x-b) 0 a E a v ⟨by omega,by omega⟩ ?_);rintro b ⟨k,o⟩;by_cases s:b<c x
  .by_cases e:x.getD b []=j.getD b []
   .refine a6 [(14,f),(24,l)] a ?_ (g.b6 (b+1) a ?_ a v ?_ ?_)
    .simp only[U,c5];have p:(x.getD b bR.I==j.getD b bR.I)=f:=hg.2 e;exact⟨by exact bK,by grind,by omega,by omega,by omega,by omega,fm y⟩
    .simp
    .grind
    omega
   refine a6 [(14,f),(24,f)] a ?_ (g.bS (bW.zero a ?_))
   .simp only[U,c5];grind
   exact E0
  refine a6 [(14,l)] a bV (g.bt a a ?_);refine aZ a v (g.aw a ?_);have:x=j:=rm i λd e t=>by grind
  simp[this]
 refine a6 [(10,f)] a bV (g.aw a ?_);exact E0
end
def vO(r:t.op=.binOp op q o X ty){A}(O:P.underlying q=h (.pointer A)){j s}(D:∀b g i,bb p b->bx p b g (η o)->bx p b i (η X)->∃x y,g=.pointer x/\i=.pointer y/\(x==y)=j/\(eqGuard op q o X g i).run P b.a=.ok () b.a/\(∀a,(eqGuard op q o X g i).events P b.a a=a) /\
   (Op.equal q g i).run P b.a=.ok j b.a/\∀a,(Op.equal q g i).events P b.a a=a)(w:h9 op j=h s):a0 P t η p (ax (.bool s)) p:=by
 refine .aZ λb F E z=>?_;obtain⟨x,y,d,e,I,m,B,k,C⟩:=D b _ _ E (z o) (z X);rw[d,e]at m k;have v:=B #[];have u:=C #[];rw[d,e]at v u;cases op<;>simp only[h9,reduceCtorEq,eU]at w
 .subst w;exact⟨.bool j,by simp[ac,r,d,e,m,binOp,k],Rd.bool,by simp[ac,r,d,e,m,v,binOp,k,u]⟩
 subst w;exact⟨.bool (!j),by simp[ac,r,d,e,m,binOp,k],Rd.bool,by simp[ac,r,d,e,m,v,binOp,k,u]⟩
def rR(m:t.op=.binOp op q o (.const (.pointer n)) ty){i}(C:P.underlying q=h (.pointer i)){s}(w:η o=ax .bk)(u:η (.const (.pointer n))=ax .bk)(v:h9 op f=h s):a0 P t η p (ax (.bool s)) p:=by
 refine vO m C (j:=f) ?_ v;intro b x y _ g e;rw[w]at g;rw[u]at e;replace g:=b7 g;replace e:=b7 e;cases g;cases e;have r:(Op.equal q (.pointer n) (.pointer n)).run P b.a=.ok f b.a:=E7;have k:∀d,(Op.equal q (.pointer n) (.pointer n)).events P b.a d=d:=λd=>by show(aQ (9999+1) q _ _).events P b.a d=d;unfold aQ;simp[underlying,C]
 exact⟨n,n,a,a,a,by cases op<;>simp[eqGuard],λd=>by cases op<;>simp[eqGuard],r,k⟩
def abm(u:t.op=.binOp op q o (.const (.pointer n)) ty){r}(i:P.underlying q=h (.pointer r)){s}(y:η o=aG d off)(w:η (.const (.pointer n))=ax .bk)(x:h9 op l=h s):a0 P t η p (ax (.bool s)) p:=by
 refine vO u i (j:=l) ?_ x;intro e z A _ k g;rw[y]at k;rw[w]at g;replace g:=b7 g;cases g;obtain⟨_,L,j,_,_,rfl⟩:=(k:cx p e z (.ptr d off));have v:(Op.equal q (.pointer (h ⟨j,off,n⟩)) (.pointer n)).run P e.a=.ok l e.a:=by show(aQ (9999+1) q _ _).run P e.a=_;unfold aQ;simp[underlying,i]
 have m:∀b,(Op.equal q (.pointer (h ⟨j,off,n⟩)) (.pointer n)).events P e.a b=b:=λb=>by show(aQ (9999+1) q _ _).events P e.a b=b;unfold aQ;simp[underlying,i]
 exact⟨_,n,a,a,a,by cases op<;>simp[eqGuard],λb=>by cases op<;>simp[eqGuard],v,m⟩
def abn(D:t.op=.binOp op q o X ty){i}(m:P.underlying q=h (.pointer i))(y:k≠0)(x:∀g,(sizeOf i).run P g=.ok k g)(C:∀g b,(sizeOf i).events P g b=b){s}(N:η o=aG d off)(K:η X=aG d off)(A:h9 op f=h s):a0 P t η p (ax (.bool s)) p:=by
 refine vO D m (j:=f) ?_ A;intro e I J _ w v;rw[N]at w;rw[K]at v;obtain⟨_,L,j,O,E,rfl⟩:=(w:cx p e I (.ptr d off));obtain⟨_,z,M,u,r,rfl⟩:=(v:cx p e J (.ptr d off));rw[O]at u;cases u;rw[E]at r;cases r;have F:(Op.equal q (.pointer (h ⟨j,off,n⟩)) (.pointer (h ⟨j,off,n⟩))).run P e.a=.ok f e.a:=by show(aQ (9999+1) q _ _).run P e.a=_;unfold aQ;simp[underlying,m,x,y,sameAddr]
 have B:∀b,(Op.equal q (.pointer (h ⟨j,off,n⟩)) (.pointer (h ⟨j,off,n⟩))).events P e.a b=b:=λb=>by show(aQ (9999+1) q _ _).events P e.a b=b;unfold aQ;simp[underlying,m,x,C,y,sameAddr]
 exact⟨_,_,a,a,by simp,by cases op<;>simp[eqGuard],λb=>by cases op<;>simp[eqGuard],F,B⟩
def tC(r:t.op=.binOp op q o (.const (.pointer n)) ty){k}(C:P.underlying q=h (.pointer k)){s}{ah}(x:η o=ax (.O ah))(v:η (.const (.pointer n))=ax .bk)(w:h9 op l=h s):a0 P t η p (ax (.bool s)) p:=by
 refine vO r C (j:=l) ?_ w;intro b y z _ i g;rw[x]at i;rw[v]at g;replace i:=b7 i;replace g:=b7 g;cases g;cases i with|O j e=>
 have u:(Op.equal q (.pointer (h ⟨j,e,n⟩)) (.pointer n)).run P b.a=.ok l b.a:=E7;have m:∀d,(Op.equal q (.pointer (h ⟨j,e,n⟩)) (.pointer n)).events P b.a d=d:=λd=>by show(aQ (9999+1) q _ _).events P b.a d=d;unfold aQ;simp[underlying,C]
 exact⟨_,n,a,a,a,by cases op<;>simp[eqGuard],λd=>by cases op<;>simp[eqGuard],u,m⟩
section
variable {r:aj V}
abbrev sJ(e:Bool)(b:Z)(a:Option (Nat×Nat))(d:bE)(g:Nat):an:=.J (eE 343 5 e b a d g)
def It(v1)(d:dW v1=f)(bO)(ag)(b):Y r 306 [aG 0 0] [sJ l v1 bO ag b] (.Q []) [sJ f v1 bO ag b]:=by refine Y.K func306 rfl λi=>?_;refine aZ a v ?_;refine g.aO (a0.il bd a a a a a) a a ?_;refine g.aO (rR a underlying341 a a a) a a ?_;refine aZ a v ?_;refine g.aO (a0.ir a a underlying341 underlying203 (hy type343) (by simp[Tryz.t343]) a) a a ?_;refine g.aO (a0.jA func314 bJ bJ bJ bJ rfl rfl rfl) rfl rfl ?_;refine g.aO (a0.ik a a underlying203 underlying341 (hy type343) (by simp[Tryz.t343]) bJ a) a a ?_;refine aZ a v ?_;refine g.aO (a0.iq bd a a a a a a d) a a ?_;refine aZ a v ?_;exact bW.di [0] a v a a a (λj e=>by grind)
def Iu(v1)(bO)(ag)(b):Y r 306 [aG 0 0] [sJ f v1 bO ag b] (.Q []) [sJ f v1 bO ag b]:=by refine Y.K func306 rfl λj=>?_;refine aZ a v ?_;refine g.aO (a0.gJ bd a a a a a) a a ?_;refine g.aO (abm a underlying341 a a a) a a ?_;refine aZ a v ?_;refine g.aO (a0.gJ bd a a a a a) a a ?_;refine aZ a v ?_;refine g.aO (abn a underlying341 (k:=2) ca (λe=>by simp) (λe d=>by simp) a a a) a a ?_;refine aZ a v ?_;exact bW.di [0] a v a a a (λm i=>by grind)
abbrev dU(d:Bool)(a:Option (Nat×Nat))(b:bE)(e:Nat):an:=sJ d (jG a (c b)) a b e
def h6:∀a,a<1->([0]:m Nat)[a]?=h a:=λa b=>by grind
def B'(b)(bO)(ag)(j)(e:c ag<=9223372036854775807)(d:bO=n->ag=[]):Y r 292 [aG 0 0] [dU b bO ag j] (S (c ag)) [dU b bO ag j]:=by
 refine Y.K func292 rfl λi=>?_;refine aZ a v (g.aO (a0.eS bd a a a a a) a a ?_);cases bO with
 |none=>
  have:=d a;subst this;refine g.aO (a0.fI a a underlying22 a E) a a ?_;exact Po
 |some k=>
  refine g.aO (a0.fI a a underlying22 a e) a a ?_;exact Po
def Cq(C cap)(ag b)(e)(m:c b<=9223372036854775807)(i:c ag+c b<=cap):Y r 284 [aG 0 0,b2 b] [dU f (h (C,cap)) ag e] (.Q [.aq (.c (.int .i64 (c b))),.aq (.c .bo)]) [dU f (h (C,cap)) (ag++b) e]:=by refine Y.K func284 rfl λk=>?_;refine aZ a v ?_;refine g.aF (Iu (jG (h (C,cap)) (c ag)) (h (C,cap)) ag e) [0] a ?_;refine aZ a v ?_;refine g.aO (a0.eS bd a a a a a) a a ?_;refine aZ a v ?_;refine g.aO (a0.ig (d:=0) (C:=C) (cap:=cap) (ag:=ag) a underlying22 underlying9 (hy type5) (by simp[Tryz.t5]) a a a a i) a a ?_;refine aZ a v ?_;refine g.aO (a0.gf bd a a a a a a a) a a ?_;have j:dU f (h (C,cap)) (ag++b) e=.J (eE 343 5 f (jG (h (C,cap)) (c ag+c b)) (h (C,cap)) (ag++b) e):=M;rw[j];refine aZ a v (g.aS [0] a ?_ h6);simp
theorem XR:Y r 284 [aG 0 0,b2 []] [dU f n [] 0] (.Q [.aq (.c (.int .i64 0)),.aq (.c .bo)]) [dU f n [] 0]:=by refine Y.K func284 rfl λb=>?_;refine aZ a v ?_;refine g.aF (Iu (jG n 0) n [] 0) [0] a ?_;refine aZ a v ?_;refine g.aO (a0.eS bd a a a a a) a a ?_;refine aZ a v ?_;refine g.aO (a0.ih a underlying22 underlying9 (hy type5) a a) a a ?_;refine aZ a v ?_;refine g.aO (a0.gf bd a a a a a a a) a a ?_;refine aZ a v (g.aS [0] a ?_ h6);simp
abbrev iu:z:=aG 0 0
abbrev oc:z:=aG 0 1
def Cp(C cap)(ag)(s)(x:c ag<=9223372036854775807)(e:cap≠0):Y r 285 [aG 0 0] [dU f (h (C,cap)) ag s] (b2 ag) [dU f (h (C,cap)) ag (c ag)]:=by
 refine Y.K func285 rfl λi=>?_;refine a6 [(1000001,f)] a v ?_;refine g.df b6 10 (λb=>ay b 9) (λb=>[iu,iu,oc,cM (.slice (h ⟨C,0,n⟩) (c ag) cap),cM (.pointer (h ⟨C,0,n⟩)),iu,iu,oc,cM (.slice (h ⟨C,0,n⟩) (c ag) cap),S (c ag)].getD b .any) (λ(_:Unit) _=>b2 ag)
  (λ_=>[dU f (h (C,cap)) ag (c ag)]) a a a a a a ?_ ?_ ?_ ?_
 .refine⟨.y,.y,.y,iz,?_,.y,.y,.y,?_,?_,v,v,v⟩
  .exact .aO (a0.h6 a a e) a
  .exact iz
  exact Pb
 .intro _;refine⟨.y,.y,.y,iz,?_,.y,.y,.y,?_,?_,v,.y,v⟩
  .exact .aO (a0.h6 a a e) a
  .exact iz
  exact Pb
 .exact .dg (.aO (Sc (d:=0) a underlying370 bJ a a a) a)
 exact Oc
def F5(e:t.op=.binOp .add q o X ty){j}(d:η o=S 0)(b:η X=S j)(g:a7 .i64 j):a0 V t η p (S j) p:=by have:=a0.binOp (P:=V) (p:=p) e d b (s:=.int .i64 (0+j)) (cf:=[a7 .i64 (0+j)]) a bw;grind
def bk.gL{e}{fn}{args}{a:ι->m an}(q:Tryz.prog.funcs[e]?=h fn)(o:(fn.name== "runtime.NumGoroutine")=l)(d:fn.body=h s)(k:ay args.length fn.ntmps=f)(u:g r fn.ntmps (λt j b=>∃i,bW fn p.length (res i) (a i) t j b) [.code s] .normal (h2 0 args) p):bk r e args p res a:=
 bk.intro q o d (fc k) (g.aW u)
def Xn:Y r 285 [aG 0 0] [dU f n [] 0] (b2 []) [dU f n [] 0]:=by
 refine Y.K func285 rfl λe=>?_;refine a6 [(1000001,f)] a v ?_;refine g.df b6 10 (λb=>ay b 9) (λb=>[iu,iu,oc,cM (.slice n 0 0),cM (.pointer n),iu,iu,oc,cM (.slice n 0 0),S (0:Nat)].getD b .any) (λ(_:Unit) _=>b2 [])
  (λ_=>[dU f n [] 0]) a a a a a a ?_ ?_ ?_ ?_
 .refine⟨.y,.y,.y,iz,?_,.y,.y,.y,?_,?_,v,v,v⟩
  .exact .aO (a0.h5 a a) a
  .exact iz
  exact q2
 .intro _;refine⟨.y,.y,.y,iz,?_,.y,.y,.y,?_,?_,v,.y,v⟩
  .exact .aO (a0.h5 a a) a
  .exact iz
  exact q2
 .exact .dg (.aO (a0.jS a a a) a)
 exact Oc
def Uy(k)(o:0<k)(p:k<=140737488355328):bk (ι:={e:Nat×Nat // k<=e.2}) r 307 [aG 0 0,S k] [dU f n [] 0] (λ_=>.Q []) (λw=>[dU f (h w.1) [] 0]):=by
 refine bk.gL func307 rfl rfl rfl ?_;refine a6 [(1000000,f)] a v ?_;have j:a7 .i64 (k:Int):=bK;have q:z:=cM (.slice n 0 0);refine g.df (ι:={e:Nat×Nat // k<=e.2}) b6 8 (λb=>ay b 7||(ay 9 b&&ay b 13)) (λb=>[iu,iu,oc,cM (.slice n 0 0),S (0:Nat),S 0,S k,S k,.any,iu,iu,oc,cM (.slice n 0 0),S (0:Nat)].getD b .any)
  (λw b=>[cM (jG (h w.1) k),.any,.any,.any,.any,.any,cM (.slice (h ⟨w.1.1,0,n⟩) 0 w.1.2),cM (.slice (h ⟨w.1.1,0,n⟩) 0 w.1.2)].getD (b-8) .any)
  (λw=>[sJ f (.slice n 0 0) (h w.1) [] 0]) a a a a a a ?_ ?_ ?_ ?_
 .refine⟨.y,.y,.y,iz,OO,PP,.y,?_,v,.y,.y,.y,?_,?_,v,v,v⟩
  .exact .aO (F5 a a a j) a
  .exact iz
  exact q2
 .intro w;have m:w.1.2≠0:=M;refine⟨.y,.y,.y,iz,OO,PP,.y,?_,v,.y,.y,.y,?_,?_,?_,.y,v⟩
  .exact .aO (F5 a a a j) a
  .exact iz
  .exact q2
  exact .aO (a0.ja (i:=0) a underlying22 (hy type5) a a (gZ _) w.2 m (gN _ _ _)) a
 .exact .a1 a (Sb (d:=0) (ab:=#[3]) underlying22 func315 bJ bJ bJ bJ rfl rfl rfl o p rfl)
 intro w;refine aZ a v (g.aO (a0.eS (d:=0) bd a a a a a) a a ?_);refine g.aO (a0.iF a underlying22 (hy type5) a a) a a ?_;refine aZ a v (g.aO (a0.gf (d:=0) bd a a a a a a a) a a ?_);exact NY
def Ij(k)(e:0<k)(i:k<=140737488355328):bk (ι:={j:Nat×Nat // k<=j.2}) r 283 [aG 0 0,S k] [dU l n [] 0] (λ_=>.Q []) (λw=>[dU f (h w.1) [] 0]):=by
 refine bk.gL func283 rfl rfl rfl ?_;refine aZ a v (g.aF (It (jG n 0) a n [] 0) [0] a (a6 [(7,l),(1000003,f)] a E ?_));refine g.df b6 4 (λb=>ay b 3||(ay 5 b&&ay b 9)||af b 11) (λb=>[iu,iu,oc,cM (.slice n 0 0),.any,iu,iu,oc,cM (.slice n 0 0),S (0:Nat),.any,S k].getD b .any)
  (λ(_:Unit) b=>[S (0:Nat),.any,.any,.any,.any,.any,S (0-0),.any,bh f].getD (b-4) .any)
  (λ_=>[dU f n [] 0]) a a a a a a ?_ ?_ ?_ ?_
 .refine⟨.y,.y,.y,iz,v,.y,.y,.y,iz,?_,v,.y,v,v⟩;exact q2
 .intro _;refine⟨.y,.y,.y,iz,v,.y,.y,.y,iz,q2,NW,.y,?_,v⟩;exact .eval (bg:=[(21,f)]) bd a8.nil (cf:=[decide ((0:Int)-0<(k:Int))=f]) a bV
 .exact O4
 intro _;refine aZ a v (g.a_ (Uy k e i) [0] a bl λw=>?_);exact NY
def Tq:Y r 283 [aG 0 0,S (0:Nat)] [dU l n [] 0] (.Q []) [dU f n [] 0]:=by
 refine Y.K func283 rfl λe=>?_;refine aZ a v (g.aF (It (jG n 0) a n [] 0) [0] a (a6 [(7,l),(1000003,f)] a E ?_));refine g.df b6 4 (λb=>ay b 3||(ay 5 b&&ay b 9)||af b 11) (λb=>[iu,iu,oc,cM (.slice n 0 0),.any,iu,iu,oc,cM (.slice n 0 0),S (0:Nat),.any,S (0:Nat)].getD b .any)
  (λ(_:Unit) b=>[S (0:Nat),.any,.any,.any,.any,.any,S (0-0),.any,bh l].getD (b-4) .any)
  (λ_=>[dU f n [] 0]) a a a a a a ?_ ?_ ?_ ?_
 .refine⟨.y,.y,.y,iz,v,.y,.y,.y,iz,?_,v,.y,v,v⟩;exact q2
 .intro _;refine⟨.y,.y,.y,iz,v,.y,.y,.y,iz,q2,NW,.y,?_,v⟩;exact .eval (bg:=[(21,l)]) bd a8.nil (cf:=[decide ((0:Int)-0<((0:Nat):Int))=l]) a E
 .exact O4
 intro _;exact aZ a v (bW.di [0] a v a a a h6)
def Gc(b:t.op=.alloc 343):a0 V t η p (aG (c p) 0) (p++[dU l n [] 0]):=
 a0.ie b (λd=>by simp) (λd a=>by simp)
def aay{i}{b j s}(A)(m:t.op=.call {callee:=.builtin .min,args:=#[o,X,i],argTypes:=dp})(y:η o=S b)(w:η X=S j)(z:η i=S s)(F:min (min b j) s=A)(x:a7 .i64 A):a0 V t η p (S A) p:=by refine .aZ λE a I k=>?_;have e:=k o;have d:=k X;have g:=k i;rw[y]at e;rw[w]at d;rw[z]at g;replace e:=b7 e;replace d:=b7 d;replace g:=b7 g;generalize q:a o=B at e;generalize u:a X=C at d;generalize r:a i=D at g;cases e;cases d;cases g;have v:(if s<(if j<b then j else b)then s else if j<b then j else b)=A:=M;exact⟨.int .i64 A,by simp[ac,m,resolve,invoke,builtin,q,u,r,Builtin.min_,Builtin.min2,v],.int x,by simp[ac,m,resolve,invoke,builtin,q,u,r,Builtin.min_,Builtin.min2]⟩
def IV(e:Nat)(A:2<=e)(B:e<=3):Y r 252 [b2 [46],S e] [] (b2 (aY e 46)) []:=by
 refine Y.K func252 rfl λz=>?_;have x:a8 r [(291,A')]:=.cons ade .nil;refine bf x [(13,l),(15,l),(18,l),(30,l),(33,l),(40,l),(44,l),(45,l),(46,l),(47,l),(48,l),(96,l),(1000035,f)] a ?_ ?_
 .have p:(e:Int)=2∨(e:Int)=3:=y;have j:(kH [46] 0).toNat=46:=rfl;simp[a7,j,p];omega
 refine g.region ?_;refine g.aO (Gc a) a a ?_;refine cJ x a v (g.a_ (Ij e y y) [0] a bl λt=>?_);obtain⟨⟨i,b⟩,k⟩:=t;have k:e<=b:=k;refine cJ x a v (g.aF (Cq i b [] [46] 0 E bV) [0] a (cJ x a v (g.ca (λd=>1<=d/\d<=e) (λd:Nat=>[(0,b2 [46]),(7,S e),(8,S e),(9,aG 0 0)]) (λd=>[dU f (h (i,b)) (aY d 46) (d-1)]) (λd=>e-d) 1 a E a E ⟨by omega,by omega⟩ ?_)));rintro d ⟨w,u⟩;refine cJ x a v (g.aF (B' f (h (i,b)) (aY d 46) (d-1) bV E) [0] a ?_);by_cases q:d<e
 .refine bf x [(113,f)] a bV (g.aF (B' f (h (i,b)) (aY d 46) (d-1) bV E) [0] a (cJ x a lJ (g.aF (B' f (h (i,b)) (aY d 46) (d-1) bV E) [0] a (cJ x a v (g.aO (aay 1 a a a a bV ly) a a ?_)))));refine cJ x a v (g.aF (Cp i b (aY d 46) (d-1) bV y) [0] a ?_);have o:mr (aY d (46:UInt8)) n (h 1)=[46]:=by
   obtain⟨m,rfl⟩:∃m,d=m+1:=⟨d-1,by omega⟩
   exact bK
  refine cJ x a bV ?_;rw[o];refine g.aF (Cq i b (aY d 46) [46] (c (aY d 46)) E bV) [0] a ?_;have s:aY d (46:UInt8)++[46]=aY (d+1) 46:=by rw[List.replicate_succ']
  rw[s];refine cJ x a v (g.b6 (d+1) a E a ?_ ⟨by omega,by omega⟩ y);simp
 refine bf x [(113,l)] a bV (g.bt a a ?_);have j:d=e:=y;subst j;exact cJ x a v (g.aF (Cp i b (aY d 46) (d-1) bV y) [0] a zL)
def ad5:bM r 252 sM:=ad6 (IV 2 y y) (IV 3 y y)
def zl:bM r 206 lI:=adV ad5
def wO(b:Option (Nat×Nat))(d:Nat):Prop:=match b with|none=>d=0|some (_,a)=>d<=a/\0<a
def _root_.Go.AM.bk.hQ{e:Type}{s:aj P}{u}{args}{d:ι->m an}{t:e->z}{a:e->m an}(v:bk s u args p res d)(j:ι->e)(F:∀b,t (j b)=res b)(E:∀b,a (j b)=d b):bk s u args p t a:=
 ⟨v.1,λC B k o w g q=>v.2 C B k o w g λb i D r k1 x y A=>q (j b) i D r k1 M M M⟩
def Tr(k)(e:k<=140737488355328):bk (ι:={b:Option (Nat×Nat) // wO b k}) r 283 [aG 0 0,S k] [dU l n [] 0] (λ_=>.Q []) (λi=>[dU f i.1 [] 0]):=by
 by_cases g:k=0
 .subst g;exact Tq.tocD.hQ (λ_=>⟨n,a⟩) bl bl
 exact(Ij k y e).hQ (λd=>⟨h d.1,d.2,by grind⟩) bl bl
def Cr(bO)(ag b)(e:c b<=9223372036854775807)(a:wO bO (c ag+c b)):Y r 284 [aG 0 0,b2 b] [dU f bO ag 0] (.Q [.aq (.c (.int .i64 (c b))),.aq (.c .bo)]) [dU f bO (ag++b) 0]:=by
 cases bO with
 |none=>
  have a:c ag+c b=0:=a;grind[XR]
 |some d=>exact Cq d.1 d.2 ag b 0 e a.1
def acm(a:Option (Nat×Nat))(b:bE):Nat:=match a with|none=>0|some _=>c b
def Xo(bO)(ag)(d:c ag<=9223372036854775807)(a:wO bO (c ag)):Y r 285 [aG 0 0] [dU f bO ag 0] (b2 ag) [dU f bO ag (acm bO ag)]:=by
 cases bO with
 |none=>
  have a:c ag=0:=a;have e:ag=[]:=jA a;subst e;exact Xn
 |some b=>exact Cp b.1 b.2 ag 0 d (by have:=a.2;omega)
def lu(b:m bE)(a:Nat):bE:=(b.take a).flatten
def wc{d}(a:e<c d):lu d (e+1)=lu d e++d.getD e []:=by unfold lu;grind[List.take_add_one]
def MV{d}:lu d (c d)=d.flatten:=by simp[lu]
def wb{d}(e):c (lu d e)<=c d.flatten:=by have a:d.flatten=(d.take e).flatten++(d.drop e).flatten:=FD;rw[a,dn];simp only[lu];omega
def Vj(d)(A:c d.flatten<=140737488355328):Y r 237 [bR.S d,b2 []] [] (b2 d.flatten) []:=by
 refine Y.K func237 rfl λx=>?_;have F:=x.S 0 a;by_cases C:d=[]
 .subst C;refine a6 [(14,f)] a ?_ (g.aw a);simp
 by_cases B:c d=1
 .obtain⟨o,rfl⟩:=List.length_eq_one_iff.1 B;refine a6 [(14,l),(16,f)] a E (g.aw a ?_);simp
 have K:2<=c d:=by have:c d≠0:=M;omega
 refine a6 [(14,l),(16,l),(22,l)] a bK (g.ca (λb=>b<=c d) (λb:Nat=>[(0,bR.S d),(1,b2 []),(5,S (c (lu d b))),(39,bR.S d),(40,S (c d)),(41,S b)]) (λ_=>[]) (λb=>c d-b) 0 a ?_ a v y ?_)
 .simp[lu]
 intro b p;have N:=wb (d:=d) b;by_cases k:b<c d
 .have u:=wb (d:=d) (b+1);rw[wc k,dn]at u;refine a6 [(42,f),(49,l)] a ?_ (g.b6 (b+1) a ?_ a v y y)
  .have j:(d.getD (b:Int).toNat bR.I)=d.getD b []:=rfl;simp only[U,a7,j];grind
  have j:(d.getD (b:Int).toNat bR.I)=d.getD b []:=rfl;rw[wc k];simp_all
 have j:b=c d:=y;subst j;refine a6 [(42,l),(1000018,f)] a E (g.bt a a ?_);refine a6 [(1000018,f)] a v (g.region ?_);refine g.aO (Gc a) a a ?_;refine cu a v ?_;rw[MV];refine g.a_ (Tr (c d.flatten) A) [0] a bl λw=>?_;obtain⟨i,m⟩:=w;refine cu a bw ?_;have e:∀q,q<=c d.flatten->wO i q:=λq D=>by
  cases i with
  |none=>
   have:c d.flatten=0:=m;grind
  |some I=>exact⟨fG D m.1,m.2⟩
 have z:lu d 1=d.getD 0 []:=by rw[wc y];simp[lu]
 have t:=wb (d:=d) 1;rw[z]at t;refine g.aF (Cr i [] (d.getD 0 []) y (e _ M)) [0] a (cu a bw (g.ca (λb=>b+1<=c d) (λb:Nat=>[(1,b2 []),(8,aG 0 0),(63,ax (.S l 1 (c d-1) (fx 1 (bR.fn d)))),(64,S (c d-1:Nat)),(65,S b)]) (λb=>[dU f i (lu d (b+1)) 0]) (λb=>c d-b) 0 a wF a bK y ?_));intro b p;have J:=wb (d:=d) (b+1);by_cases k:b+1<c d
 .have s:=wb (d:=d) (b+2);rw[wc k,dn]at s;refine a6 [(66,f)] a bw (g.aF (Cr i (lu d (b+1)) [] E (e _ M)) [0] a ?_);rw[h1];refine aZ a v (g.aF (Cr i (lu d (b+1)) (d.getD (1+b) []) M (e _ M)) [0] a (aZ a bK (g.b6 (b+1) a E a ?_ y y)));refine U.Y.2 ⟨?_,v⟩;rw[wc k,Nat.add_comm 1 b];simp
 have j:b+1=c d:=y;refine a6 [(66,l)] a bw (g.bt a a ?_);rw[j,MV];exact aZ a v (g.aF (Xo i d.flatten y (e _ y)) [0] a wy)
def th{b}(d:d6 b=f)(e)(g:e<c b):97<=dk b e/\dk b e<=122:=by have a:=List.all_eq_true.1 d (b.getD e 0) M;simp only[jn,cE,bA]at a;unfold dk;omega
def TK(b)(e)(d:d6 b=f)(q:3<=e)(i:e<=c b)(o:c b<=4000000):Y r 308 [b2 b,S e] [] (bh (pL b e)) []:=by
 refine Y.K func308 rfl λk=>?_;have m:=th d (e-1) y;have p:=th d (e-2) y;have t:=th d (e-3) y;have j:((kH b ((e:Int)-1)).toNat:Int)=dk b (e-1):=t_;have I:((kH b ((e:Int)-2)).toNat:Int)=dk b (e-2):=t_;have s:((kH b ((e:Int)-3)).toNat:Int)=dk b (e-3):=t_;refine aZ a ?_ (g.aw a ?_)
 .simp only[U,a7,j,I,s];omega
 exact NZ
def adq:bM r 308 (en eB c8 (λb a=>bh (pL b a.toNat)) λb a=>[d6 b=f,3<=a,a<=c b,c b<=4000000]):=.bm λb a i=>by
 obtain⟨e,j,k,g⟩:=i;obtain⟨d,rfl⟩:∃d:Nat,a=d:=⟨a.toNat,by omega⟩
 exact TK b d e y y g
def yE{e j}(A)(k:t.op=.call {callee:=.builtin .min,args:=#[o,X],argTypes:=dp})(u:η o=S e)(r:η X=S j)(x:min e j=A)(s:a7 .i64 A):a0 V t η p (S A) p:=by refine .aZ λz d y g=>?_;have b:=g o;have a:=g X;rw[u]at b;rw[r]at a;replace b:=b7 b;replace a:=b7 a;generalize i:d o=v at b;generalize m:d X=w at a;cases b;cases a;have q:(if j<e then j else e)=A:=M;exact⟨.int .i64 A,by simp[ac,k,resolve,invoke,builtin,i,m,Builtin.min_,Builtin.min2,q],.int s,by simp[ac,k,resolve,invoke,builtin,i,m,Builtin.min_,Builtin.min2]⟩
theorem SS{q}{a}(e:c q<=a+3+w)(d:w<=5):lN q a (5-w)=min (a+8) (c q):=by
 rcases dY w 5 with b|b
 .obtain⟨i,bU⟩:∃i,5-w=i+1:=⟨4-w,by omega⟩
  rw[bU];simp[lN];grind
 rw[show 5-w=0 by omega];rfl
def Ua(q)(ae)(A:d6 q=f)(t:ae<=c q)(z:c q<=4000000):Y r 289 [b2 q,S ae] [] (S (eC q ae)) []:=by
 refine Y.K func289 rfl λu=>?_;have x:a8 r [(308,en eB c8 (λj k=>bh (pL j k.toNat)) λj k=>[d6 j=f,3<=k,k<=c j,c j<=4000000])]:=.cons adq .nil;refine b_ x a bK (g.ca (λb=>b<=5/\lN q ae (5-b)=eC q ae) (λb:Nat=>[(0,b2 q),(1,S ae),(5,S (ae+3+b))]) (λ_=>[]) (λb=>5-b) 0 a E a v ⟨by omega,a⟩ ?_);rintro b ⟨w,e⟩;by_cases p:b<5/\ae+3+b<c q
 .obtain⟨i,bU⟩:∃i,5-b=i+1:=⟨4-b,by omega⟩
  have o:ae+(7-i)=ae+3+b:=y;rw[bU]at e;simp[lN,o]at e;rw[bm y]at e;have ai:((ae:Int)+3+b).toNat=ae+3+b:=y;cases s:pL q (ae+3+b)with
  |true=>
   rw[s,br a]at e;refine a_ x [(11,f),(16,f),(22,f)] a QU (g.bS (bW.zero a ?_));exact bw
  |false=>
   rw[s,bm E]at e;refine a_ x [(11,f),(16,f),(22,l)] a QU (g.b6 (b+1) a ?_ a v ⟨by omega,by grind⟩ y);exact bw
 have ai:eC q ae=min (ae+8) (c q):=by
  rw[<-e];rcases dY b 5 with m|m
  .grind [SS]
  rw[show 5-b=0 by omega];rfl
 have d:a7 .i64 ((min (ae+8) (c q):Nat):Int):=bK;rcases dY b 5 with m|m
 .refine a_ x [(11,f),(16,l)] a ?_ (g.bt a a ?_)
  .simp only[U,a7,bA,dj];omega
  exact Qb
 refine a_ x [(11,l)] a ?_ (g.bt a a ?_)
 .simp only[U,a7,bA,dj];omega
 exact Qb
def adv:bM r 289 (en eB c8 (λb a=>S (eC b a.toNat)) λb a=>[d6 b=f,0<=a,a<=c b,c b<=4000000]):=.bm λb a i=>by
 obtain⟨e,j,k,g⟩:=i;obtain⟨d,rfl⟩:∃d:Nat,a=d:=⟨a.toNat,by omega⟩
 exact Ua b d e y g
abbrev GQ(a:bE):N:=.fn (.func 288) [] [.O [.V a]]
theorem Uc(q):Y r 245 [b2 q] [] (ax (GQ q)) []:=by refine Y.K func245 rfl λb=>?_;refine gJ [] 5 a v ?_;refine g.freeze 1 0 a a a ?_;exact aZ a v (g.aw a)
def Ud{ad:Type}(text)(K:d6 text=f)(J:c text<=4000000){e}{d}{w}(s u t:ad->an)(x:Nat->ad->Prop)(i)(I:x 0 i)(aE:∀b,s b≠.bn/\u b≠.bn/\t b≠.bn)(m:∀j b,j<c text->x j b->iC (ι:={p:ad // x (eC text j) p}) r 3 [S j,S (eC text j)] [s b,u b,t b,.loop e d w] f (λp=>[s p.1,u p.1,t p.1,.loop e d w])):
  bk (ι:={b:ad // x (c text) b}) r 288 [.n (.aq (.aR 3)),ax (.O [.V text])] [s i,u i,t i,.loop e d w] (λ_=>.Q []) (λq=>[s q.1,u q.1,t q.1,.loop e d w]):=by
 refine bk.bP func288 rfl rfl rfl (g.aW ?_);have A:a8 r [(289,en eB c8 (λz q=>S (eC z q.toNat)) λz q=>[d6 z=f,0<=q,q<=c z,c z<=4000000])]:=.cons adv .nil;refine b_ A a v ?_;show b0 r _ (.loop _) _ _ _;refine b0.loop (bq:=ad×Nat) (λo=>o.2<=c text/\x o.2 o.1) (λo=>[(0,.n (.aq (.aR 3))),(1,ax (.O [.V text])),(3,S o.2)]) (λo=>[s o.1,u o.1,t o.1,.loop e d w]) (λo=>c text-o.2) (i,0) ⟨gZ _,I⟩ (eD a E) a ?_;rintro⟨b,j⟩ ⟨F,B⟩;simp only at F B;refine g.aW ?_;by_cases C:j<c text
 .have k:=sS text j C;refine a_ A [(8,f)] a dA (g.yield (m j b C B) a a a a a a λp=>?_);refine a_ A [(16,l)] a E ⟨(p.1,eC text j),⟨k.2.1,p.2⟩,?_,eD a E,a⟩;grind
 have D:j=c text:=y;subst D;refine a_ A [(8,l)] a E (g.fH a a ?_);exact⟨⟨b,B⟩,.inr a,a,qL (aE b).1 (qL (aE b).2.1 (qL (aE b).2.2 a)),[],.Q [],[],a,a,a,v⟩
def abQ(u:t.op=.binOp op q o (.const (.pointer n)) ty){m}(C:P.underlying q=h (.pointer m)){s}{lt ct}{k j}(E:η o=.n (.aq (.aR d)))(x:c7 d p=h (.J (eu W (.ax lt k j ct))))(y:η (.const (.pointer n))=ax .bk)(B:h9 op l=h s):a0 P t η p (ax (.bool s)) p:=by
 refine vO u C (j:=l) ?_ B;intro b D F z i g;rw[E]at i;rw[y]at g;replace g:=b7 g;cases g;obtain⟨_,L,A,rfl,_⟩:=(i:cx p b D (.aR d));obtain⟨_,⟨j,_,_,_,_,v,_⟩,_⟩:=z.box d _ L (ej x) A;rw[v];have w:(Op.equal q (.pointer (h ⟨j,0,n⟩)) (.pointer n)).run P b.a=.ok l b.a:=E7
 have r:∀e,(Op.equal q (.pointer (h ⟨j,0,n⟩)) (.pointer n)).events P b.a e=e:=λe=>by show(aQ (9999+1) q _ _).events P b.a e=e;unfold aQ;simp[underlying,C]
 exact⟨_,n,a,a,a,by cases op<;>simp[eqGuard],λe=>by cases op<;>simp[eqGuard],w,r⟩
abbrev pc(a b:Int):z:=.n (.agg [.c (.int .i64 a),.c (.int .i64 b)])
abbrev mH:av:=307
def yY(i j)(d:dG):∃a e g b,d.put i j=.ax a e g b:=by
 cases d with
 |nil=>exact⟨_,_,_,_,rfl⟩
 |ax a e g b=>
  simp only[dG.put];split
  .grind
  split<;>exact⟨_,_,_,_,rfl⟩
def CF:∀(b:m Nat)a,a<0->b[a]?=h a:=λ_ a d=>absurd d y
def s4:∀a,a<1->([0]:m Nat)[a]?=h a:=λa b=>by grind
def x7(b j)(z:a7 .i64 b)(F:a7 .i64 j):∀q:dG,Y r 244 [.n (.aq (is q 0)),pc b j] (hi mH q) (.n (.aq (.aR 0))) [.J (eu mH (q.put b j))]
 |.nil=>by refine Y.K func244 rfl λJ=>?_;refine aZ a v (g.aO (rR a underlying246 a a a) a a ?_);refine aZ a v (g.cW 4 1 0 0 (lt:=.nil) (ct:=.nil) a a (λu=>absurd a u) (λu=>absurd a u) (λu=>absurd a u) ?_);exact g.aS [1] a E (CF _)
 |.ax lt k t ct=>by
  have p:=x7 b j z F lt;have cc:=x7 b j z F ct;obtain⟨I,e,i,C,y⟩:=yY b j lt;obtain⟨ae,d,w,s,D⟩:=yY b j ct;have x:(dG.ax lt k t ct).put b j=if b<k then .ax (lt.put b j) k t ct else if k<b then .ax lt k t (ct.put b j)else .ax lt b j ct:=rfl;rw[x];rw[y]at p⊢;rw[D]at cc⊢;have m:a8 r [(244,k6 [.n (.aq (is lt 0)),pc b j] (hi mH lt) (.n (.aq (.aR 0))) [.J (eu mH (.ax I e i C))])]:=.cons (l7 p) .nil;have o:a8 r [(244,k6 [.n (.aq (is ct 0)),pc b j] (hi mH ct) (.n (.aq (.aR 0))) [.J (eu mH (.ax ae d w s))])]:=.cons (l7 cc) .nil;clear p cc x y D;refine Y.K func244 rfl λJ=>?_;refine aZ a v (g.aO (abQ a underlying246 a a a a) a a ?_);refine aZ a v (g.gx 0 0 a a ?_);by_cases B:b<k
  .rw[br B];cases lt<;>cases ct<;>refine bf m [(15,f)] rfl bK ?_
   .exact PN
   .refine g.cW 4 0 3 2 (lt:=.ax I e i C) (ct:=_) a a bl bl (λ_ _=>by decide) ?_;exact tZ
   .exact PN
   refine g.cW 4 0 2 3 (lt:=.ax I e i C) (ct:=_) a a bl bl (λ_ _=>by decide) ?_;exact tZ
  rw[bm B];by_cases A:k<b
  .rw[br A];cases lt<;>cases ct<;>refine bf o [(15,l),(33,f)] rfl bK ?_
   .exact Q1
   .exact Q1
   .exact Oj
   exact Oj
  rw[bm A];cases lt<;>cases ct<;>refine bQ [(15,l),(33,l)] rfl bw ?_
  .refine g.cW 4 0 9 9 (lt:=.nil) (ct:=.nil) a a (λu=>absurd a u) (λu=>absurd a u) (λu=>absurd a u) ?_;exact tZ
  .refine g.cW 4 0 9 2 (lt:=.nil) (ct:=_) a a (λu=>absurd a u) bl (λu=>absurd a u) ?_;exact tZ
  .refine g.cW 4 0 2 9 (lt:=_) (ct:=.nil) a a bl (λu=>absurd a u) (λ_ u=>absurd a u) ?_;exact tZ
  refine g.cW 4 0 2 3 (lt:=_) (ct:=_) a a bl bl (λ_ _=>by decide) ?_;exact tZ
end
section
open Go.Proofs Go.Conc Go.Conc.Lib Go.ConcR.Gen
open Go.ConcN (WgLive PayAt Has RW AtR0)
open Go.ConcN.Gen
open Go.ConcR (KK WgAt stA smA rd wr mk Payload DC0)
def aaW:Dx=#[{dst:=n,op:=.defer {callee:=.value (.func 234),args:=#[.tmp 0],argTypes:=#[294]},type:=0,pos:= "l12_snap.go:81",after:=#[],guard:=n}]:=bJ
def qd(a:Z):aK:={baseD 233 with defers:=[dcall 234 #[a]]}
abbrev Ew(a b d e g i:Z):Array Z:=#[a,b,d,e,g,i,K,K,K,K,K,K,K]
def acL(v0 v1 v2 b v4 d)(k):Goes V l (λ_ _=>True) DC0 (λj _=>j=G ((qd v0).M ⟨Ew v0 v1 v2 b v4 d,[]⟩ [.code (.region 1 vD f)]) [mn]) 8 (born V (ry #[v0,v1,v2,b,v4,d])) k:=by
  have e:True:=v;have g:True->True->True:=λ_ _=>trivial;refine Goes.step a (λw1 i=>?_);rw[Si];simp[goes_go];refine⟨⟨a,a⟩,?_⟩;clear i;rw[aaW]
  u_c aw g e
  u_reg g e
  u_defer g e
  u_c aF g e
  exact Goes.stop λ_ _=>rfl
def Ti(ad):QuitsD V 2 0 (G {(baseD 233).at ⟨ad,[]⟩ []with mode:=.returning} [mn]):=by
  have b:Tryz.f233.results=#[]:=bJ;refine QuitsD.ctl (g':=G mn []) a (λd=>?_) ?_
  · simp[G,aq,unwind,doReturn,results,Frame.at,baseD,mn,Tryz.func233,b,seen,GStep.after,goexitEntry]
  refine QuitsD.ctl (g':={G mn []with status:=.finished}) rfl (λd=>?_) ⟨rfl,rfl⟩;simp[G,aq,unwind,mn,goexitEntry,Frame.catches];rfl
section
variable {J:hE}
def aee(o)(j:J.aQ=2)(ad)(d)(b:WgLive 294 J.f d/\Has J.aj (J.aQ*o+1-1) (val o 0) d):
    ∃i,Goes V l (RW 294 J.f J.aj (2*k) 0 (J.aQ*o+1-1)) DC0 (AtR0 V 294 J.f J.aj (2*k) 0 (J.aQ*o+1) (val o 0)) i (G ((qd (.pointer (h ⟨J.f,0,n⟩))).M ⟨ad,[]⟩ [.inRegion mI.toArray []]) [mn]) d:=by
  refine⟨26,?_⟩;have g:(qd (.pointer (h ⟨J.f,0,n⟩))).M ⟨ad,[]⟩ [.inRegion mI.toArray []]=(baseD 233).at ⟨ad,[dcall 234 #[.pointer (h ⟨J.f,0,n⟩)]]⟩ [.inRegion mI.toArray []]:=rfl;rw[g]
  u_c aF kn_rely b
  u_c stepG_end kn_rely b
  u_in kn_rely b
  rw[stepG_unwind_enter (c:=body_done qZ) a wh.f_done bJ bJ];simp[goes_go];refine⟨by u_nil,?_⟩;have e:=S5 (P:=V) (L:=qZ) (bo:=J.f) (N:=J.aj) (k:=2*k) (m4:=0) (o:=J.aQ*o+1) (val:=val o 0) (s:={(baseD 233).at ⟨ad,[]⟩ []with mode:=.returning}) (ah:=[mn]) wh rfl (Ti ad) _ b;exact e
def abO{d}(b:Rd bB aa (.V d)):aa=.string ⟨d.toArray⟩:=by
  cases b with
  |V a e=>rw[<-a]
def DR{j}(a:Rd bB aa (.bool j)):aa=.bool j:=by cases a;rfl
def sm:ap:=gH n (.store 296 (.tmp 12) (.tmp 11)) 0 #[⟨6,.data⟩,⟨5,.data⟩,⟨5,.chain⟩,⟨0,.phase⟩,⟨1,.phase⟩,⟨2,.phase⟩,⟨3,.phase⟩,⟨4,.phase⟩,⟨5,.phase⟩]
def Sa{o}(ak:o<k)(O:J.aQ=2){ab}{C}(Q:val o 0=.string ⟨((dM i ab C).getD []).toArray⟩)(Z:val o 1=.bool (dM i ab C).isSome){ad}(E:bx [] b (ad.getD 12 K) (sa i ab C k o J.aj 6))(F:bx [] b (ad.getD 11 K) (xQ (dM i ab C))):
    uh V 294 J (2*k) val o (G ((qd (.pointer (h ⟨J.f,0,n⟩))).M ⟨ad,[]⟩ [.inRegion mI.toArray [7]]) [mn]) b:=by
  have E:=Rd.bd E;have F:ad.getD 11 K=.agg #[val o 0,val o 1]:=by
    obtain⟨B,ag,g⟩:=F
    match B,g with
    |[],g=>exact g.elim
    |[_],g=>exact g.2.elim
    |_::_::_::_,g=>exact g.2.2.elim
    |[ao,aq],g=>
      rw[ag,abO g.1,DR g.2.1,Q,Z]
  refine⟨a,λw1 aj s m=>?_⟩;obtain⟨d,u,ax⟩:=s;have ae:J.aQ*o=o*2:=M;have H:∀Y∈[val o 0,val o 1],Y.oneCell'=f:=by
    intro Y P;simp[fo,sz,or_false]at P;rcases P with rfl|rfl
    · rw[Q];rfl
    · rw[Z];rfl
  have X:o*2+0+[val o 0,val o 1].length<=d.size:=M;have D:=run_storeCells_at V J.aj (o*2) 296 [val o 0,val o 1] 0 d w1 u X H;simp only[j',fl,gA,cV]at D;generalize W:(d.toList.take (o*2)++[val o 0,val o 1]++d.toList.drop (o*2+2)).toArray=new at D;have aA:new.size=d.size:=M;have ar:=setRow_heap w1 J.aj d new 296 (0,0) u;have au:∀t,(w1.setRow J.aj new).cell? ⟨J.aj,t,n⟩=new[t]?:=λt=>cell_setRow_same w1 J.aj t d new 296 (0,0) u;have av:∀t,w1.cell? ⟨J.aj,t,n⟩=d[t]?:=λt=>by simp[aL,u]
  have az:∀e,e<2->new[o*2+e]?=h (val o e):=by
    intro e r;rw[<-W];have L:c (d.toList.take (o*2))=o*2:=M;rw[mj];simp[j7];rw[hq y,L]
    match e,r with
    |0,_=>simp
    |1,_=>simp
  have aw:∀t,(t<o*2∨o*2+2<=t)->new[t]?=d[t]?:=by
    intro t p;rw[<-W];have L:c (d.toList.take (o*2))=o*2:=M;rw[mj];simp only[j7];rcases p with p|p
    · grind
    · rw[hq y,L,hq M]
      simp only[fl,gA,p5];rw[show o*2+2+(t-o*2-(0+1+1))=t by omega];simp
  have R:(Value.agg #[val o 0,val o 1]).cells=#[val o 0,val o 1]:=rfl;have z:(ac (⟨ad,[]⟩:Act).eval sm).run V w1=.ok .skip (w1.setRow J.aj new):=by have N:(⟨ad,[]⟩:Act).eval (.tmp 12)=.pointer (h ⟨J.aj,o*2,n⟩):=E;have I:(⟨ad,[]⟩:Act).eval (.tmp 11)=.agg #[val o 0,val o 1]:=F;simp[ac,sm,gH,N,I,Instr.storeAt,Instr.sureAddr,storeVar,(bd 296 qB a).bb,qB,R,D]
  have v:∀q∈(ac (⟨ad,[]⟩:Act).eval sm).events V w1 #[],∃w,w<2/\q=tU J.aj (o*2+w):=by
    intro T v;have N:(⟨ad,[]⟩:Act).eval (.tmp 12)=.pointer (h ⟨J.aj,o*2,n⟩):=E;have I:(⟨ad,[]⟩:Act).eval (.tmp 11)=.agg #[val o 0,val o 1]:=F;have q:ac (⟨ad,[]⟩:Act).eval sm=(do storeVar 296 ⟨J.aj,o*2,n⟩ (.agg #[val o 0,val o 1]);pure .skip):=by simp[ac,sm,gH,N,I,Instr.storeAt,Instr.sureAddr]
    rw[q]at v;have aa:T∈(storeCells ⟨J.aj,o*2,n⟩ [val o 0,val o 1]).events V w1 #[]:=by simp only[storeVar,aH,(bd 296 qB a).bb,qB,R,aJ,events_sizeOf,dZ,dh,cH,c1,Sem.events_pure]at v;simpa[D]using v
    rcases nh [val o 0,val o 1] 0 d w1 #[] u X H T aa with aB|⟨w,_,ah,rfl⟩
    · grind
    grind
  have an:WgLive 294 J.f (w1.setRow J.aj new):=by
    obtain⟨A,S,U⟩:=m;refine⟨A,S,?_⟩;show(w1.setRow J.aj new).heap[J.f]?=_;rw[setRow_other w1 J.aj J.f new ?_]
    · exact U
    · intro q
      have g:w1.heap[J.f]?=h (Go.ConcR.wgBlock 294 A S):=U;rw[q,u]at g;simp[Go.ConcR.wgBlock]at g;exact absurd g.2 ca
  refine⟨_,w1.setRow J.aj new,_,L3 (j:=qd (.pointer (h ⟨J.f,0,n⟩))) (x:=⟨ad,[]⟩) (i:=[]) (aD:=mI.toArray) (e:=7) (bs:=[]) (t:=sm) a a (by simp[qd,baseD]) z,?_,?_,?_⟩
  · refine⟨rfl,rfl,rfl,by simp,λj aN=>setRow_other w1 J.aj j new aN,⟨new,ar,by grind⟩,λt p=>?_,λe r=>?_⟩
    · grind
    · rw[O]at r
      rw[au,ae];grind
  · intro q ai
    obtain⟨w,ah,rfl⟩:=v q (Go.Conc.mem_seen ai);exact⟨o*2+w,a,by omega,by omega⟩
  · exact aee o O ad _ ⟨an,by show(w1.setRow J.aj new).cell? _=_;grind⟩
def aeB(Q:bM (aj.c6 V) 235 (nc i)){o}(C:o<k)(K:J.aQ=2){ab}{m}(N:val o 0=.string ⟨((dM i ab m).getD []).toArray⟩)(F:val o 1=.bool (dM i ab m).isSome)(D:bb [] b)(Y:b.l=[]){v1 v2 e v4 g}(w:Rd b.u v1 (.O [.int .i64 i]))(t:Rd b.u v2 (.O [.S l 2 (c ab) (a2.fn ab)]))(B:Rd b.u e (.O [.int .i64 m]))(u:Rd b.u v4 (.O [.val (.slice (h ⟨J.aj,0,n⟩) k k)]))(x:Rd b.u g (.O [.int .i64 o])):
    ds (aj.c6 V) eJ (uh V 294 J (2*k) val o) (born V (ry #[.pointer (h ⟨J.f,0,n⟩),v1,v2,e,v4,g])) b:=by
  refine ds.goes (r:=aj.c6 V) (de:=λ_ _=>True) (z:=DC0) (Stop:=λs _=>s=G ((qd (.pointer (h ⟨J.f,0,n⟩))).M ⟨Ew (.pointer (h ⟨J.f,0,n⟩)) v1 v2 e v4 g,[]⟩ [.code (.region 1 vD f)]) [mn])
    (λj=>bb [] j/\j.u=b.u) (λj p d y=>⟨d.1.rely y,y.u.trans d.2⟩) (λ_ _ _ _=>trivial) ?_ (λj d=>cU.eo d.1.mem) ?_ 8 _ b ⟨D,rfl⟩ (acL _ _ _ _ _ _ _)
  · rintro j I d T ⟨rfl,rfl⟩
    exact⟨a,.inl (.aZ d.1)⟩
  · rintro s j ⟨M,W⟩ rfl
    rw[aaX];refine cb.toW (λ_ _ _ d=>d) ?_;refine(aer Q ab m k o J.aj C (.pointer (h ⟨J.f,0,n⟩))).region bJ (by simp[qd,baseD]) ⟨by simp[Ew],⟨[],v⟩,λA=>?_⟩ a M λp E X q S O R=>.stop ?_
    · rw[<-W]at w t B u x
      match A with
      |0=>exact Rd.val rfl
      |1=>exact w
      |2=>exact t
      |3=>exact B
      |4=>exact u
      |5=>exact x
      |A+6=>trivial
    · obtain⟨Z,U⟩:=E
      obtain rfl:U=[]:=S;exact Sa C K N F (q 12) (q 11)
end
end
section
open Go.Proofs Go.Conc Go.Conc.Lib
open Go.ConcN (WgLive PayAt Has RW AtR0)
open Go.ConcR (KK WgAt stA smA rd wr mk Payload DC0)
def nm:Code->Code|.seq a _=>a|b=>b
def gT:Code->Code|.seq _ a=>a|b=>b
def GA:Code->Code|.block _ a=>a|b=>b
def aak:Code->Code|.loop a=>a|b=>b
def Dw:Code->Array ap|.region _ a _=>a|_=>#[]
noncomputable def rx:Code:=(Tryz.f191.body).getD .skip
noncomputable def hs:Code:=aak (GA (gT (nm (gT (gT (gT rx))))))
noncomputable def Hi:Code:=nm hs
noncomputable def Bm:Code:=GA (nm (gT (gT hs)))
noncomputable def Hj:Code:=nm Bm
noncomputable def pw:Array ap:=Dw (nm (gT Bm))
noncomputable def oD:Array ap:=Dw (gT (gT Bm))
noncomputable def n8:Code:=gT (gT (gT hs))
noncomputable def lK:Code:=gT (gT (gT (gT rx)))
noncomputable def oE:Array ap:=Dw (nm lK)
noncomputable def n9:Code:=gT lK
def G6:hs=.seq Hi (.seq (.cond (.tmp 21) .skip (.exit 0)) (.seq (.block 1 (.seq Hj (.seq (.region 6 pw l) (.region 7 oD l)))) n8)):=bJ
def Sz:lK=.seq (.region 9 oE l) n9:=bJ
def um(g:bH)(a:m an):fs:=λe b d=>e=.normal/\iA b g/\d=a
structure dX(dO:m an)(cF:a5)(F:bH)(p:m an)(x:Act)(b:a5):Prop where
 bW:bY 45 p b F x
 a':bb p b
 bz:dc dO cF p b
section
variable {dO:m an}{cF:a5}{F w:bH}{p aM:m an}{x:Act}{b:a5}
def dX.rely(a:dX dO cF F p x b){e}(d:cU b e):dX dO cF F p x e:=⟨a.bW.rely d a.a',a.a'.rely d,a.bz.trans d.aV⟩
structure nR(j:Nat)(b:a5):Prop where
 own:¬b.own j
 l:∀L∈b.l,j∉L.al
 u:∀t,b.u j t=n
 lt:j<b.a.heap.size
def nR.step{j}(d:nR j cF)(a:dc dO cF p b):nR j b:=
 ⟨by rw[a.own];exact d.own,λL i g=>by
  rcases a.bT L i j g with e|⟨m,k,e⟩
  .have:=d.lt;omega
  .exact d.l m k e,λo=>by rw[a.bE j d.lt d.l];exact d.u o,eA d.lt a.size⟩
def dX.ez{bo}(d:nR bo cF):kW bo (dX dO cF F p x):=
 ⟨λ_ _ a e=>a.rely e,λ_ a=>⟨p,a.a'⟩,λ_ a=>let b:=d.step a.bz;⟨b.own,b.l,b.u⟩⟩
variable {r:aj V}{bq:ak->a5->Prop}{j:aK}{i:m Item}{ah:m aK}
def dX.ctl(i:dX dO cF F p x b){C a}(m:C.status=.running)(k:∀j,aq V r.b5 C j=.go a j #[])(g:∀d,dX dO cF F p x d->cb r bq a d):cb r bq C b:=
 .ctl i.a' m k λd e=>g d (i.rely e)
def dX.code(g:dX dO cF F p x b)(k:j.kind≠.early){s}(z:b0 r 45 s (um w aM) F p)(o:∀a d,dX dO cF w aM a d->cb r bq (G (j.M a i) ah) d):cb r bq (G (j.M x (.code s::i)) ah) b:=by refine z b x g.bW g.a' j i ah bq k ?_;rintro B t u q e ⟨rfl,m,rfl⟩ y A v;exact o e q ⟨y.le m,A,g.bz.trans v⟩
end
def cb.cV{bo}{W:a5->a5->Array aT->Prop}{A:ak->a5->Prop}{C}{b}(r:cb (aj.aG V 294 bo) A C b)(o:gM (λe=>e=bo) b)(j:WgLive 294 bo b.a):
  ds (aj.aG V 294 bo) W (λC b=>A C b/\WgLive 294 bo b.a) C b:=by
 induction r with
 |stop r=>exact⟨.leaf,r,j⟩
 |@step C b O z I w s t _ y=>
  refine .step w λm g=>?_;have D:=g.2 j;have q:gM (λe=>e=bo) m:=⟨λe d=>by rw[g.1.own];exact o.own e d,λe d=>by rw[g.1.l];exact o.l e d,λe d J=>by rw[g.1.u];exact o.u e d J,λe d=>eA (o.lt e d) g.1.size⟩
  obtain⟨⟨B,p,u,E,k⟩,F⟩:=t m g;refine⟨_,_,_,s m g,.inl ⟨⟨B,p,u,E,k⟩,F⟩,y m g (q.step k) ?_⟩;obtain⟨M,N,K⟩:=D;exact⟨M,N,by show(z m).a.heap[bo]?=_;rw[k.a6 bo (q.lt bo a) (q.l bo a)];exact K⟩
 |aU i _ y=>exact .aU i (y (o.aU i) (by rw[i.a];exact j))
 |b2 x _ _ _=>exact x.elim
 |de v _ _=>exact v.elim
def nR.clear{bo}{b}(e:nR bo b):gM (λd=>d=bo) b:=⟨λd a=>a▸e.own,λd a=>a▸e.l,λd a=>a▸e.u,λd a=>a▸e.lt⟩
section
variable (i:Int)(ab:m b')(bu:m Int)(N bo:Nat)
def ia(a:Nat):bH:=[(3,ax (.O [.int .i64 i])),(4,ax (.O [.S l 2 (c ab) (a2.fn ab)])),(8,ax (.O [.val (.slice (h ⟨N,0,n⟩) (c bu) (c bu))])),(9,cM (.pointer (h ⟨bo,0,n⟩))),
 (18,aA.S bu),(19,S (c bu)),(20,S a)]
variable {i ab bu N bo}{r:aj V}{p:m an}
def KR{e}(b:e<=c bu):b0 r 45 Hi (um ((21,bh (decide (e<c bu)))::ia i ab bu N bo e) p) (ia i ab bu N bo e) p:=by
 refine g.aW ?_;by_cases d:e<c bu
 .refine a6 [(21,f)] a bV ⟨a,eD a ?_,a⟩;exact bw
 refine a6 [(21,l)] a bV ⟨a,eD a ?_,a⟩;exact bw
abbrev e4:m an:=[.x,.x,.x,.x,.x]
def aa4{e}(b:e<c bu):b0 r 45 Hj (um ((10,aG 5 0)::(11,aG 6 0)::ia i ab bu N bo e) [.x,.x,.x,.x,.x,.cells 3 [.c (.int .i64 e)],.cells 3 [.c (.int .i64 (bu.getD e 0))]]) (ia i ab bu N bo e) e4:=by refine g.aW ?_;refine aZ a bV ⟨a,eD a E,?_⟩;grind
def aa5{e}(b:e<c bu)(d:c bu<=4000000):b0 r 45 n8 (um (ia i ab bu N bo (e+1)) e4) (ia i ab bu N bo e) e4:=by refine g.aW ?_;refine aZ a bK ⟨a,eD a ?_,a⟩;simp
variable {dO:m an}{cF:a5}{bq:ak->a5->Prop}{j:aK}{eO:m Item}{ah:m aK}
abbrev iJ:m an:=[.x,.x,.x,.x,.x,.x,.x]
variable (i ab bu N bo)in
abbrev kQ(a:Nat):bH:=(11,ax (.O [.int .i64 (bu.getD a 0)]))::(10,ax (.O [.int .i64 a]))::ia i ab bu N bo a
noncomputable abbrev te(a:m Item):m Item:=.code (.region 7 oD l)::.inBlock 1::.code n8::.inLoop hs::.inBlock 0::a
def y'{P}{eP}{a:aK}{x}{i}{ah}{b}{s o X}(d:s=.seq o X):aq P eP (G (a.M x (.code s::i)) ah) b=.go (G (a.M x (.code o::.code X::i)) ah) b:=by grind[pE]
def toAdd{e}(k:e<c bu)(v:j.kind≠.early){x}{d:a5}(b:dX dO cF (ia i ab bu N bo e) e4 x d)(w:∀u o,dX dO cF (kQ i ab bu N bo e) iJ u o->cb r bq (G (j.M u (.inRegion pw [0]::te eO)) ah) o):
  cb r bq (G (j.M x (.code hs::.inLoop hs::.inBlock 0::eO)) ah) d:=by
 refine b.ctl a (λg=>y' G6) λd b=>?_;refine b.code v (KR (Nat.le_of_lt k)) λx d b=>?_;refine b.ctl a (λg=>pE) λd b=>?_;have A:x.eval (.tmp 21)=.bool f:=by have:=b.bW.aH 21;simp only[k,na]at this;exact DR (b7 this)
 refine b.ctl a (λg=>y8 A) λd b=>?_;refine b.ctl a (λg=>L4) λd b=>?_;refine b.ctl a (λg=>pE) λd b=>?_;refine b.ctl a (λg=>y7) λd b=>?_;refine b.ctl a (λg=>pE) λd b=>?_;have b:dX dO cF (ia i ab bu N bo e) e4 x d:=⟨b.bW.le (eD a E),b.a',b.bz⟩
 refine b.code v (aa4 k) λx d b=>?_;obtain⟨o,w1,z,m,q⟩:=bY.freeze 10 5 (W:=3) (ah:=[.c (.int .i64 e)]) (gC:=[.int .i64 e]) rfl rfl rfl b.bW b.a';refine .aU (.of b.a' m w1 (q.too1 b.a')) ?_;obtain⟨p,w2,y,s,t⟩:=bY.freeze 11 6 (W:=3) (ah:=[.c (.int .i64 (bu.getD e 0))]) (gC:=[.int .i64 (bu.getD e 0)]) rfl rfl rfl z m;refine .aU (.of m s w2 (t.too1 m)) ?_;have b:dX dO cF (kQ i ab bu N bo e) iJ x p:=⟨y.le (eD a E),s,b.bz.trans ((q.too1 b.a').trans (t.too1 m))⟩
 refine b.ctl a (λg=>pE) λd b=>?_;refine b.ctl a (λg=>y_) λd b=>?_;exact w x d b
def rS:ap:={dst:=h 25,op:=.call {callee:=.value (.func 232),args:=#[.tmp 9,.const (.int .i64 1)],argTypes:=#[294,3]},type:=0,pos:= "l12_snap.go:79",after:=#[],guard:=n}
theorem KN:pw=#[rS]:=bJ
def Tj{e}(s:j.kind≠.early){x}{b}(p:dX dO cF (kQ i ab bu N bo e) iJ x b)(k:∀d,dX dO cF (kQ i ab bu N bo e) iJ x d->cb r bq (G (Frame.enter V 232 #[.pointer (h ⟨bo,0,n⟩),.int .i64 1] .normal) (j.M x (.inRegion pw [0]::te eO)::ah)) d):
  cb r bq (G (j.M x (.inRegion pw [0]::te eO)) ah) b:=by
 refine .next a λd m=>?_;have g:=p.rely (r.bN m);have o:=Rd.bd (g.bW.aH 9);have q:(ac x.eval rS).run V d.a=.ok (.enter 232 #[.pointer (h ⟨bo,0,n⟩),.int .i64 1]) d.a:=by have:=run_call_body (P:=V) (a:=x) (w:=d.a) (o:=rS) (f:=232) (fn:=Tryz.f232) a Tryz.func232 bJ bJ;rw[this,<-o];simp only[List.map_toArray,mi,List.map_nil];rfl
 have u:(ac x.eval rS).events V d.a #[]=#[]:=events_call_body (P:=V) (a:=x) (w:=d.a) (o:=rS) (f:=232) (fn:=Tryz.f232) a Tryz.func232 bJ bJ #[];have v:listed V j.fn x rS d.a=#[]:=by unfold listed;grind[seen_none]
 refine⟨_,d,#[],?_,.aZ g.a',k d g⟩;have:=tH (P:=V) (eP:=r.b5) (j:=j) (x:=x) (i:=te eO) (ah:=ah) (Q:=d.a) (aD:=pw) (e:=0) (bs:=[]) (t:=rS) (by grind[KN]) a s q;grind
def vx:ap:={dst:=h 26,op:=.makeFunc (.func 233) #[] #[.tmp 9,.tmp 3,.tmp 4,.tmp 11,.tmp 8,.tmp 10],type:=1,pos:= "l12_snap.go:80",after:=#[],guard:=n}
def pu:ap:={dst:=n,op:=.go {callee:=.value (.tmp 26),args:=#[],argTypes:=#[]},type:=0,pos:= "l12_snap.go:80",after:=#[⟨0,.data⟩],guard:=n}
theorem KO:oD=[vx,pu].toArray:=bJ
variable (i ab bu N bo)in
abbrev sO(a:Nat):AM.N:=.fn (.func 233) [] [.val (.pointer (h ⟨bo,0,n⟩)),.O [.int .i64 i],.O [.S l 2 (c ab) (a2.fn ab)],.O [.int .i64 (bu.getD a 0)],.O [.val (.slice (h ⟨N,0,n⟩) (c bu) (c bu))],.O [.int .i64 a]]
def aaM{e}:aV r 45 [vx,pu] vx ((25,.any)::kQ i ab bu N bo e) iJ (ax (sO i ab bu N bo e)) iJ:=by have a:hA eR [] [] [vx,pu] ((25,.any)::kQ i ab bu N bo e) iJ vx=h (ax (sO i ab bu N bo e),n,[]):=rfl;exact ee bd a8.nil a v
def toGo{e}(y:j.kind≠.early){x}{b}(d:dX dO cF (kQ i ab bu N bo e) iJ x b)(q:∀aa m g,dX dO cF (kQ i ab bu N bo e) iJ m g->Rd g.u aa (sO i ab bu N bo e)->m.tmps.getD 26 K=aa->cb r bq (G (j.M m (.inRegion oD [1]::.inBlock 1::.code n8::.inLoop hs::.inBlock 0::eO)) ah) g):
  cb r bq (G (j.M (x.put (h 25) (.tuple #[])) (.inRegion pw []::te eO)) ah) b:=by
 have w:dX dO cF ((25,.any)::kQ i ab bu N bo e) iJ (x.put (h 25) (.tuple #[])) b:=⟨d.bW.put ca v,d.a',d.bz⟩
 refine w.ctl a (λz=>vV) λb d=>?_;refine d.ctl a (λz=>y_) λb d=>?_;rw[KO];refine aaM b _ d.bW d.a' j _ ah bq 0 [1] y a λaa g k s p=>?_;have k:=b7 k;have u:=((d.bW.mono p d.a'.len).put (I:=26) (aa:=aa) (o:=.any) ca v)
 have t:26<(x.put (h 25) (.tuple #[])).tmps.size:=by rw[d.bW.size];decide
 refine q aa _ g ⟨u.le (eD a ?_),s,d.bz.trans p⟩ k (abB t);simp
def aej{e}(m:e<c bu)(A:c bu<=4000000)(g:j.kind≠.early)(u:dO.length<=5){x}{b}(d:dX dO cF (kQ i ab bu N bo e) iJ x b)(t:∀p q,dX dO cF (ia i ab bu N bo (e+1)) e4 p q->cb r bq (G (j.M p (.code hs::.inLoop hs::.inBlock 0::eO)) ah) q):
  cb r bq (G (j.M x (.inRegion oD []::.inBlock 1::.code n8::.inLoop hs::.inBlock 0::eO)) ah) b:=by
 have k:bY 45 (e4++[.x,.x]) b (ia i ab bu N bo e) x:=d.bW.le (eD a E);have o:=d.a';have v:=d.bz;have z:eW b (b.cut (c e4)):=⟨rfl,λ_ _ _ d=>d,λ_ _ _=>rfl,o.mem,λj g=>g.imp id λ⟨L,y,g⟩=>⟨L,hf y,g⟩⟩
 refine .aU z ?_;have d:dX dO cF (ia i ab bu N bo e) e4 x (b.cut (c e4)):=⟨⟨k.size,k.defers.imp λ_ w=>w.drop a,λB=>(k.aH B).drop (vi a)⟩,o.drop a,v.drop u⟩
 refine d.ctl a (λs=>vV) λb d=>?_;refine d.ctl a (λs=>LZ) λb d=>?_;refine d.code g (aa5 m A) λx b d=>?_;exact d.ctl a (λs=>L0) λb d=>t x b d
end
theorem ro{a:aK}(d:a.roundOf=n)(b)(q):a.M b q=a.at ⟨b.tmps,b.defers++a.defers⟩ q:=by cases a;simp only at d;subst d;rfl
section
variable {i:Int}{ab:m b'}{bu:m Int}{J:hE}{val:Nat->Nat->Z}{dO:m an}{cF:a5}{j:aK}{eO:m Item}{ah:m aK}
def JA{x:Act}{Q}{s g1 iH jH uP a}(d:x.tmps.getD 26 K=.func (.func 233) #[] #[s,g1,iH,jH,uP,a]):(ac x.eval pu).run V Q=.ok (.spawn (ry #[s,g1,iH,jH,uP,a])) Q/\(ac x.eval pu).events V Q #[]=#[]:=by
 have b:x.eval (.tmp 26)=.func (.func 233) #[] #[s,g1,iH,jH,uP,a]:=d;constructor
 .simp[ac,pu,resolve,Deferred.ofValue,b,ry]
 simp[ac,pu,resolve,Deferred.ofValue,b]
def R'(Z:bM (aj.c6 V) 235 (nc i))(R:J.aQ=2)(s:j.roundOf=n)(ae:j.kind≠.early){e}(r:e<c bu)(T:val e 0=.string ⟨((dM i ab (bu.getD e 0)).getD []).toArray⟩)(E:val e 1=.bool (dM i ab (bu.getD e 0)).isSome){aa}{x}{b}(M:dX dO cF (kQ i ab bu J.aj J.f e) iJ x b)(y:WgLive 294 J.f b.a)(z:Rd b.u aa (sO i ab bu J.aj J.f e))(w:x.tmps.getD 26 K=aa){Next:ak->a5->Prop}(A:∀k,dX dO cF (kQ i ab bu J.aj J.f e) iJ x k->WgLive 294 J.f k.a->Next (G (j.M x (.inRegion oD []::.inBlock 1::.code n8::.inLoop hs::.inBlock 0::eO)) ah) k):
  wI V 294 J (2*c bu) val e Next (G (j.M x (.inRegion oD [1]::.inBlock 1::.code n8::.inLoop hs::.inBlock 0::eO)) ah) b:=by
 refine⟨a,λk p=>?_⟩;have v:=M.rely p.1;have U:Rd k.u aa (sO i ab bu J.aj J.f e):=by rw[p.1.u];exact z
 cases U with
 |fn D q o m C d F I Y g=>
 have S:=jA o;subst S;have N:q=[d 0,d 1,d 2,d 3,d 4,d 5]:=by
  apply p';intro u;have m:=m
  match u with
  |0=>grind
  |1=>grind
  |2=>grind
  |3=>grind
  |4=>grind
  |5=>grind
  |u+6=>grind
 subst N;have ad:=Rd.bd (g 0 _ a);obtain⟨O,W⟩:=JA (x:=x) (Q:=k.a) w;have B:Go.Conc.listed V j.fn ⟨x.tmps,x.defers++j.defers⟩ pu k.a=#[]:=by unfold Go.Conc.listed;have:=(JA (x:=⟨x.tmps,x.defers++j.defers⟩) (Q:=k.a) w).2;grind[seen_none]
 have X:=stepG_spawn (P:=V) (main:=f) (b:=j) (a:=⟨x.tmps,x.defers++j.defers⟩) (k:=.inBlock 1::.code n8::.inLoop hs::.inBlock 0::eO) (cs:=ah) (w:=k.a) (ops:=oD) (i:=1) (rest:=[]) (o:=pu) (by grind[KO]) a ae O a;refine⟨G (j.M x (.inRegion oD []::.inBlock 1::.code n8::.inLoop hs::.inBlock 0::eO)) ah,born V (ry #[d 0,d 1,d 2,d 3,d 4,d 5]),?_,a,?_,A k v (p.2 y)⟩
 .rw[ro s,ro s,X,B];rfl
 rw[ad];exact aeB Z r R T E (b:=k.dx) ⟨v.a'.mem,a,by simp,by simp[a5.dx],by simp[a5.dx],by simp[a5.dx]⟩ a (g 1 _ a) (g 2 _ a) (g 3 _ a) (g 4 _ a) (g 5 _ a)
def rT:ap:={dst:=h 28,op:=.call {callee:=.value (.func 236),args:=#[.tmp 9],argTypes:=#[294]},type:=0,pos:= "l12_snap.go:85",after:=#[],guard:=n}
theorem KP:oE=#[rT]:=bJ
variable {r:aj V}{bq:ak->a5->Prop}
def aek(o:j.kind≠.early){N bo}{x}{b}(d:dX dO cF (ia i ab bu N bo (c bu)) e4 x b)(p:∀m g,dX dO cF (ia i ab bu N bo (c bu)) e4 m g->cb r bq (G (Frame.enter V 236 #[.pointer (h ⟨bo,0,n⟩)] .normal) (j.M m (.inRegion oE [0]::.code n9::eO)::ah)) g):
  cb r bq (G (j.M x (.code hs::.inLoop hs::.inBlock 0::.code lK::eO)) ah) b:=by
 refine d.ctl a (λQ=>y' G6) λb d=>?_;refine d.code o (KR (bC _)) λx b d=>?_;refine d.ctl a (λQ=>pE) λb d=>?_;have v:x.eval (.tmp 21)=.bool l:=by have:=d.bW.aH 21;simp only[wZ,o3]at this;exact DR (b7 this)
 refine d.ctl a (λQ=>y8 v) λb d=>?_;refine d.ctl a (λQ=>LY (gb:=.code lK::eO) a) λb d=>?_;refine d.ctl a (λQ=>y' Sz) λb d=>?_;refine d.ctl a (λQ=>y_) λb d=>?_;have d:dX dO cF (ia i ab bu N bo (c bu)) e4 x b:=⟨d.bW.le (eD a E),d.a',d.bz⟩
 refine .next a λg q=>?_;have k:=d.rely (r.bN q);have w:x.eval (.tmp 9)=.pointer (h ⟨bo,0,n⟩):=Rd.bd (k.bW.aH 9);have u:(ac x.eval rT).run V g.a=.ok (.enter 236 #[.pointer (h ⟨bo,0,n⟩)]) g.a:=by have:=run_call_body (P:=V) (a:=x) (w:=g.a) (o:=rT) (f:=236) (fn:=Tryz.f236) a Tryz.func236 bJ bJ;grind
 have y:(ac x.eval rT).events V g.a #[]=#[]:=events_call_body (P:=V) (a:=x) (w:=g.a) (o:=rT) (f:=236) (fn:=Tryz.f236) a Tryz.func236 bJ bJ #[];have s:Go.Conc.listed V j.fn x rT g.a=#[]:=by unfold Go.Conc.listed;grind[seen_none]
 refine⟨_,g,#[],?_,.aZ k.a',p x g k⟩;have:=tH (P:=V) (eP:=r.b5) (j:=j) (x:=x) (i:=.code n9::eO) (ah:=ah) (Q:=g.a) (aD:=oE) (e:=0) (bs:=[]) (t:=rT) (by grind[KP]) a o u;rw[s]at this;exact this
section
variable (i ab bu J dO cF j eO ah)
def wG(b:ak)(d:a5):Prop:=∃a,wH V qZ J (dX dO cF (ia i ab bu J.aj J.f (c bu)) e4 a) (j.M a (.inRegion oE [0]::.code n9::eO)) ah b d
def FW(b:ak)(d:a5):Prop:=∃a,fb V qZ J (dX dO cF (ia i ab bu J.aj J.f (c bu)) e4 a) (G (j.M (a.put (h 28) (.tuple #[])) (.inRegion oE []::.code n9::eO)) ah) b d
end
def RZ(k:nR J.f cF)(e:j.roundOf=n){C}{b}(d:wG i ab bu J dO cF j eO ah C b):
  ds (aj.aG V 294 J.f) (dS J.f) (q' V 294 J (FW i ab bu J dO cF j eO ah) (wG i ab bu J dO cF j eO ah)) C b:=by
 obtain⟨a,d⟩:=d;have m:(oE[0]?).bind (·.dst)=h 28:=by rw[KP];rfl
 rw[ro e]at d;refine R0 (P:=V) (L:=qZ) (hI:=j) (hH:=⟨a.tmps,a.defers++j.defers⟩) (gd:=oE) (hN:=0) (hS:=[]) (hP:=.code n9::eO) (ah:=ah) wh (dX.ez k) (λC b g=>⟨a,?_⟩) (λC b o=>⟨a,?_⟩) d
 .rw[ro e];rw[m]at g;exact g
 grind[ro]
def acE{P}{ty}{D k}{g:ak->a5->Prop}:∀i{a:ak}{b:a5},ds (aj.aG P ty J.f) (dS J.f) (λa b=>oZ P ty J D val k g i a b) a b->oZ P ty J D val k g i a b
 |0,_,_,d=>ds.bind d λ_ _ e=>e
 |_+1,_,_,d=>ds.bind d λ_ _ e=>e
def acD(R:bM (aj.c6 V) 235 (nc i))(M:J.aQ=2)(t:nR J.f cF)(w:j.roundOf=n)(s:j.kind≠.early)(F:dO.length<=5)(H:c bu<=4000000)(Q:∀d,d<c bu->val d 0=.string ⟨((dM i ab (bu.getD d 0)).getD []).toArray⟩)(I:∀d,d<c bu->val d 1=.bool (dM i ab (bu.getD d 0)).isSome):
  ∀p,p<=c bu->∀a b,dX dO cF (ia i ab bu J.aj J.f (c bu-p)) e4 a b->WgLive 294 J.f b.a ->
   oZ V 294 J (2*c bu) val (c bu) (wG i ab bu J dO cF j eO ah) p (G (j.M a (.code hs::.inLoop hs::.inBlock 0::.code lK::eO)) ah) b:=by
 intro p;induction p with
 |zero=>
  intro _ a b e m;rw[sy]at e;have:=cb.cV (W:=dS J.f) (aek (r:=aj.aG V 294 J.f) (eO:=eO) (ah:=ah) (bq:=λk b=>∃a,k=G (Frame.enter V 236 #[.pointer (h ⟨J.f,0,n⟩)] .normal) (j.M a (.inRegion oE [0]::.code n9::eO)::ah)/\dX dO cF (ia i ab bu J.aj J.f (c bu)) e4 a b) s e λq v o=>.stop ⟨q,rfl,o⟩) (t.step e.bz).clear m;refine ds.bind this ?_;rintro k b ⟨⟨a,rfl,e⟩,m⟩;exact aeu (P:=V) (L:=qZ) (J:=J) wh (dX.ez t) (λk b z=>⟨a,z⟩) ⟨e,m⟩
 |succ p E=>
  intro T a b e m;have g:c bu-(p+1)<c bu:=y;generalize S:c bu-(p+1)=d at e g;have:=cb.cV (W:=dS J.f) (toAdd (r:=aj.aG V 294 J.f) (eO:=.code lK::eO) (ah:=ah) (bq:=λk b=>∃a,k=G (Frame.enter V 232 #[.pointer (h ⟨J.f,0,n⟩),.int .i64 1] .normal) (j.M a (.inRegion pw [0]::te (.code lK::eO))::ah)/\dX dO cF (kQ i ab bu J.aj J.f d) iJ a b) g s e λq v o=>Tj s o λN A=>.stop ⟨q,rfl,A⟩) (t.step e.bz).clear m;refine ds.bind this ?_;rintro k b ⟨⟨a,rfl,e⟩,m⟩;have D:(pw[0]?).bind (·.dst)=h 25:=by rw[KN];rfl
  rw[ro w];refine RR (P:=V) (L:=qZ) (J:=J) (ea:=dX dO cF (kQ i ab bu J.aj J.f d) iJ a) wh (dX.ez t) (λb B=>?_) ⟨e,m⟩;rw[D];have:=cb.cV (W:=dS J.f) (toGo (r:=aj.aG V 294 J.f) (eO:=.code lK::eO) (ah:=ah) (bq:=λk b=>∃u a,k=G (j.M a (.inRegion oD [1]::.inBlock 1::.code n8::.inLoop hs::.inBlock 0::.code lK::eO)) ah/\dX dO cF (kQ i ab bu J.aj J.f d) iJ a b/\Rd b.u u (sO i ab bu J.aj J.f d)/\a.tmps.getD 26 K=u) s B.1 λu q v o C x=>.stop ⟨u,q,rfl,o,C,x⟩) (t.step B.1.bz).clear B.2;rw[ro w]at this;refine ds.bind this ?_;rintro k b ⟨⟨u,a,rfl,e,C,x⟩,m⟩;rw[S];refine⟨.leaf,R' R M w s g (Q d g) (I d g) e m C x λv o O=>?_⟩;refine acE p ?_;have:=cb.cV (W:=dS J.f) (aej (r:=aj.aG V 294 J.f) (eO:=.code lK::eO) (ah:=ah) (bq:=λk b=>∃a,k=G (j.M a (.code hs::.inLoop hs::.inBlock 0::.code lK::eO)) ah/\dX dO cF (ia i ab bu J.aj J.f (d+1)) e4 a b) g H s F o λq v o=>.stop ⟨q,rfl,o⟩) (t.step o.bz).clear O;refine ds.bind this ?_;rintro k b ⟨⟨a,rfl,e⟩,m⟩;refine⟨.leaf,E y a b ?_ m⟩;grind
end
end
section
variable {r:aj V}[r.b']
def Sq(q):∀b,b<c q->c (bD.fn q b)=2/\∀e∈bD.fn q b,np e=f:=by intro b _;refine⟨a,λe d=>?_⟩;simp only[cZ.fn,gr,bD,fo,sz,or_false]at d;rcases d with rfl|rfl<;>rfl
abbrev m1(b:m c')(a:m Z):Prop:=eg 2 (c b) (bD.fn b) a
abbrev AU(a:fj)(d:Nat)(b:m Z):an:=.J (ck 114 2 a d b)
abbrev adK(a:fj)(d:Nat)(b:Bool):z:=.Q [.aq (.v (cX a d)),.aq (.c (.bool b))]
def XC(q)(a o):bk (ι:={b:fj×m Z // m1 (ju q a o).1 b.2}) r 60 [bD.S q,b2 a,b2 o] [] (λb=>adK b.1.1 (ju q a o).1.length (ju q a o).2) (λb=>[AU b.1.1 (ju q a o).1.length b.1.2]):=
 (I9 q a o).thaw func60 rfl (by simp[Dq,vB,vA,rU,nn,np]) (Sq _)
def eg.nil{i}:eg i 0 T []:=⟨by simp,λb a=>by omega,λb a=>by omega⟩
def abv{q}{d o}(a:(ju q d o).2=f):(ju q d o).1.length<=6:=by
 unfold ju at a⊢;split at a
 .rename_i j;rw[br j];split at a
  .rename_i b;rw[br b];exact MX b
  grind
 grind
def R5(b:t.op=.call {callee:=.builtin .append,args:=#[o,X],argTypes:=#[36,36]}):j4 V t o X 114 qA:=
 ⟨⟨36,36,CW,CW,b,(bd _ _ a),rfl,(bd _ _ a),rfl⟩,(bd _ _ a),by decide,by decide⟩
def LC{b}(d:c b<=9223372036854775807):Rd bB (jg b) (.V b):=Rd.V a d
def m1.gD{q}{ag}(p:m1 q ag)(b o)(j:c b<=9223372036854775807)(k:c o<=9223372036854775807):m1 (q++[(b,o)]) (ag++[jg b,jg o]):=by
 unfold m1;rw[dn];refine eg.gD p (λs e=>?_) a a λg r d=>?_
 .simp[cZ.fn,gr,al,kA e]
 have m:bD.fn (q++[(b,o)]) (c q)=[.V b,.V o]:=by simp[cZ.fn,gr,bD]
 rw[m]at d;rcases g with _|_|g
 .simp at d;subst d;exact⟨jg b,a,λi=>LC j⟩
 .simp at d;subst d;exact⟨jg o,a,λi=>LC k⟩
 grind
def m1.jR{q}{ag}(m:m1 q ag)(e)(b:e<c q)(o)(j:m7 B [.c (.V o)]):m1 (q.set e ((q.getD e bD.I).1,o)) (ag.take (e*2+1)++B++ag.drop (e*2+1+c B)):=by
 unfold m1;rw[sq];refine eg.fh m e 1 b j (bC _) (λs r g=>?_) a λd p i=>?_
 .simp[cZ.fn,gr,al,p_ g]
 have k:bD.fn (q.set e ((q.getD e bD.I).1,o)) e=[.V (q.getD e bD.I).1,.V o]:=by simp[cZ.fn,gr,bD,al,b]
 rw[k]at i;rcases d with _|_|d
 .right;exact bK
 .grind
 grind
structure us(i s:Nat) where
 dZ:m c'
 gK:fj
 h4:m Z
 k1:Nat
 iU:m1 dZ h4
 kl:c dZ<=7
 i':i<=k1
 kj:k1<=i+s
set_option maxRecDepth 20000 in
def Xy(A)(j:Nat->Int)(u:Bytes j)(i)(ah:i<=50000)(x:A<=1048576):
  bk (ι:=us i 400) r 35 [aG 0 0] [ef A j i] (λp=>cM (cX p.gK (c p.dZ))) (λp=>[ef A j p.k1,AU p.gK (c p.dZ) p.h4]):=by
 refine bk.cr func35 rfl rfl rfl λH=>?_;refine gJ [] 9 a v (g.jx 3 114 2 a λW=>?_);refine aZ a v (g.a_ (hL A j u i 6 y x y) [0] a bl ?_);rintro⟨D,ak,an⟩;refine aZ a v (g.aL 2 (λb:Nat×m c'×fj×m Z×Nat=>b.1<=5/\m1 b.2.1 b.2.2.2.1/\c b.2.1<=6/\i<=b.2.2.2.2/\b.2.2.2.2+70*b.1<=i+351) (λb=>[(0,aG 0 0),(4,S b.1),(3,cM (cX b.2.2.1 (c b.2.1)))]) (λb=>[ef A j b.2.2.2.2,AU b.2.2.1 (c b.2.1) b.2.2.2.1]) (λb=>b.1) (D.toNat,[],W,[],i+1) a bV a E a ⟨by omega,eg.nil,by simp,by simp,by grind⟩ ?_);rintro⟨k,e,bO,ag,k1⟩ ⟨Y,q,ad,G,aa⟩;simp only at Y q ad G aa;by_cases P:0<k
 .refine a6 [(11,f)] a (by simp[P]) (g.a_ (IT A j u k1 y x) [0] a bl ?_);rintro⟨o,ab⟩;refine aZ a v (g.a_ (Xw A j u (k1+1+1) y x) [0] a bl ?_);rintro⟨⟨Q,R⟩,ae,aq,ai⟩;simp only at ae aq ai;refine aZ a v (g.iz (XC e o Q) 1 0 a a a a (ck.fJ a (bD.fn e) q.rd) a E a bl bl a ?_);rintro⟨⟨F,C⟩,T⟩;simp only at T⊢;cases z:(ju e o Q).2 with
  |true=>
   have N:=abv z;generalize(ju e o Q).1=K at T N⊢;refine gJ [] 6 a v (g.swap 1 2 ca a a (λD I J=>J.1) (λD I J=>J.1) ?_);refine a6 [(23,f)] a oP (g.aA (k-1,K,F,C,R) a bV E M ?_);grind
  |false=>
   refine a6 [(23,l)] a bK (g.aA (k-1,e,bO,ag,R) a bV E M ?_);grind
 obtain rfl:k=0:=y;refine a6 [(11,l)] a E (g.aC ?_);refine aZ a v (g.a_ (hL A j u k1 40 y x y) [0] a bl ?_);rintro⟨V,aN,av⟩;by_cases L:V=0
 .refine a6 [(27,f)] a (by simp[L]) (g.a_ (IT A j u (k1+1) y x) [0] a bl ?_);rintro⟨o,ab⟩;refine aZ a v (g.fu (d:=1) (bO:=bO) (ag:=ag) (k:=c e) (hX:=[jg o,jg [97]]) (R5 a) a a a a a a a a (λau D az s aw ax=>?_) (by show _*32<=_;omega) λF=>?_)
  .grind [Eh]
  refine aZ a v (g.bJ ⟨e++[(o,[97])],F,ag++[jg o,jg [97]],k1+1+1+1,q.gD o [97] y ca,by grind,by omega,by omega⟩ (g.aS [0,1] a E ?_ (s:=nP)));grind
 by_cases ar:V=1
 .by_cases O:0<c e
  .refine g.fB (ck.len (d:=1) a) λao=>?_;obtain⟨X,t,rfl⟩:=ao.2.2.1 O;refine a6 [(27,l),(35,f),(39,f)] a bw (g.eN bd 1 a a a a a a a M a a λB w=>?_);have aj:=q.jR 0 O [65] w;refine aZ a v (g.bJ ⟨e.set 0 ((e.getD 0 bD.I).1,[65]),.row X t,_,k1+1,aj,by grind,by omega,by omega⟩ (g.aS [0,1] a E ?_ (s:=nP)));grind
  cases bO;all_goals
   refine a6 [(27,l),(35,f),(39,l)] a ?_ (g.bJ ⟨e,_,ag,k1+1,q,by omega,by omega,by omega⟩ (g.aS [0,1] a ?_ ?_))
   .simp[O,ar]<;>omega
   .simp
   grind
 refine a6 [(27,l),(35,l)] a bw (g.bJ ⟨e,bO,ag,k1+1,q,by omega,by omega,by omega⟩ (g.aS [0,1] a E ?_));grind
def Xz(A)(b:Nat->Int)(g:Bytes b)(i)(d:i<=50000)(e:A<=1048576):
  bk (ι:=us i 400) r 35 [aG 0 0] [ef A b i] (λa=>bD.S a.dZ) (λa=>[ef A b a.k1]):=
 bk.e0 (aM:=λa:us i 400=>[ef A b a.k1]) (i:=2) (k:=λa:us i 400=>c a.dZ) (T:=λa:us i 400=>bD.fn a.dZ) (Xy A b g i d e) (λa=>a.iU) bl (λ_=>bC _)
end
section
open Go.Proofs Go.Extern
abbrev fX:av:=169
abbrev dR:av:=167
abbrev pK:av:=254
abbrev aR(a:av):Z:=.pointer (h ⟨6,a,n⟩)
abbrev mM(a:av):Z:=.iface pK (.agg #[aR a])
abbrev kw(d:av)(b:Nat)(a:Int):Z:=.agg #[aR d,.pointer (h ⟨b,0,n⟩),.int .u64 a]
def Nk:jw V 170 λargs=>ReflectliteValue.unpack (args.getD 0 (.tuple #[])):=⟨_,Tryz.func170,by kernel_rfl,by kernel_rfl,by kernel_rfl,by kernel_rfl⟩
def abN(b)(a):(ReflectliteValue.unpack (.iface fX (.pointer (h b)))).run V a=.ok (kw fX a.heap.size 150) (a.alloc (.cells #[.pointer (h b)] fX)):=bJ
def Tg(a)(b)(T):(ReflectliteValue.unpack (.iface fX (.pointer (h a)))).events V b T=T:=bJ
def abM(b)(a):(ReflectliteValue.unpack (.iface dR (.pointer (h b)))).run V a=.ok (kw dR a.heap.size 150) (a.alloc (.cells #[.pointer (h b)] dR)):=bJ
def Tf(a)(b)(T):(ReflectliteValue.unpack (.iface dR (.pointer (h a)))).events V b T=T:=bJ
def aeR:jw V 171 (ReflectliteValue.methodAny (ReflectliteValue.valueError "reflectlite.Value.Type" 0) λa _ _ _=>ReflectliteType.toType a):=⟨_,Tryz.func171,by kernel_rfl,by kernel_rfl,by kernel_rfl,by kernel_rfl⟩
def abK(C)(a):(ReflectliteValue.methodAny (ReflectliteValue.valueError "reflectlite.Value.Type" 0) (λb _ _ _=>ReflectliteType.toType b) #[kw fX C 150]).run V a=.ok (mM fX) a:=bJ
def Td(C)(b)(T):(ReflectliteValue.methodAny (ReflectliteValue.valueError "reflectlite.Value.Type" 0) (λa _ _ _=>ReflectliteType.toType a) #[kw fX C 150]).events V b T=T:=bJ
def Kh(b)(d):(Go.method (Tryz.prog.types.size+Made.depth) pK (.agg #[b]) "Kind").run V d=.ok (336,b) d/\∀a,(Go.method (Tryz.prog.types.size+Made.depth) pK (.agg #[b]) "Kind").events V d a=a:=⟨by kernel_rfl,λa=>by kernel_rfl⟩
def Nj:jw V 336 (ReflectliteType.abiMethod λa=>do pure (.int .u8 (<-Rtype.kind a))):=⟨_,Tryz.func336,by kernel_rfl,by kernel_rfl,by kernel_rfl,by kernel_rfl⟩
def abI(a):((ReflectliteType.abiMethod λb=>do pure (.int .u8 (<-Rtype.kind b))) #[aR fX]).run V a=.ok (.int .u8 22) a:=bJ
def Tc(b)(T):((ReflectliteType.abiMethod λa=>do pure (.int .u8 (<-Rtype.kind a))) #[aR fX]).events V b T=T:=bJ
def abH(a):((ReflectliteType.abiMethod λb=>do pure (.int .u8 (<-Rtype.kind b))) #[aR dR]).run V a=.ok (.int .u8 22) a:=bJ
def Tb(b)(T):((ReflectliteType.abiMethod λa=>do pure (.int .u8 (<-Rtype.kind a))) #[aR dR]).events V b T=T:=bJ
def aeN:jw V 172 (ReflectliteValue.method (ReflectliteValue.valueError "reflectlite.Value.IsNil" 0) ReflectliteValue.isNil):=⟨_,Tryz.func172,by kernel_rfl,by kernel_rfl,by kernel_rfl,by kernel_rfl⟩
def LJ(d)(b:av->Addr->Nat->Nat->Sem Z)(aa):ReflectliteValue.method d b #[aa]=(do match<-ReflectliteValue.parts aa with|none=>d|some (g,e,a)=>b g e a (a % 32)):=rfl
def tw(C)(b):(ReflectliteValue.parts (kw fX C 150)).run V b=.ok (h (fX,⟨C,0,n⟩,150)) b/\∀a,(ReflectliteValue.parts (kw fX C 150)).events V b a=a:=⟨by kernel_rfl,λa=>by kernel_rfl⟩
def abG(C)(j)(b)(g:b.cell? ⟨C,0,n⟩=h (.pointer (h j))):(ReflectliteValue.method (ReflectliteValue.valueError "reflectlite.Value.IsNil" 0) ReflectliteValue.isNil #[kw fX C 150]).run V b=.ok (.bool l) b /\
  ∀a,∀d∈(ReflectliteValue.method (ReflectliteValue.valueError "reflectlite.Value.IsNil" 0) ReflectliteValue.isNil #[kw fX C 150]).events V b a,d∈a∨d=⟨.cell ⟨C,0,n⟩,l,l⟩:=by
 have i:=Tryz.underlying169;rw[LJ];constructor
 .simp only[cH,(tw C b).1,c1];simp[ReflectliteValue.isNil,loadVar,isAgg,underlying,i,g]
 intro a d e;simp only[aH,cH,(tw C b).1,(tw C b).2,c1,aJ]at e;simpa[ReflectliteValue.isNil,loadVar,isAgg,underlying,i,g,show(Mode.plain==Mode.atomic)=l from rfl]using e
def aao(b)(d):(Go.method (Tryz.prog.types.size+Made.depth) pK (.agg #[b]) "Elem").run V d=.ok (352,.agg #[b]) d/\∀a,(Go.method (Tryz.prog.types.size+Made.depth) pK (.agg #[b]) "Elem").events V d a=a:=⟨by kernel_rfl,λa=>by kernel_rfl⟩
def aeK:jw V 352 (ReflectliteType.method ReflectliteType.elem):=⟨_,Tryz.func352,by kernel_rfl,by kernel_rfl,by kernel_rfl,by kernel_rfl⟩
def abD(a):(ReflectliteType.method ReflectliteType.elem #[.agg #[aR fX]]).run V a=.ok (mM dR) a:=bJ
def S_(a)(T):(ReflectliteType.method ReflectliteType.elem #[.agg #[aR fX]]).events V a T=T:=bJ
def aap(b)(d):(Go.method (Tryz.prog.types.size+Made.depth) pK (.agg #[b]) "Implements").run V d=.ok (353,.agg #[b]) d/\∀a,(Go.method (Tryz.prog.types.size+Made.depth) pK (.agg #[b]) "Implements").events V d a=a:=⟨by kernel_rfl,λa=>by kernel_rfl⟩
def aeM:jw V 353 (ReflectliteType.relation "Implements" ReflectliteType.implements_):=⟨_,Tryz.func353,by kernel_rfl,by kernel_rfl,by kernel_rfl,by kernel_rfl⟩
def abF(a):(ReflectliteType.relation "Implements" ReflectliteType.implements_ #[.agg #[aR dR],mM 164]).run V a=.ok (.bool f) a:=bJ
def Ta(a)(T):(ReflectliteType.relation "Implements" ReflectliteType.implements_ #[.agg #[aR dR],mM 164]).events V a T=T:=bJ
def aan(b)(d):(Go.method (Tryz.prog.types.size+Made.depth) pK (.agg #[b]) "AssignableTo").run V d=.ok (350,.agg #[b]) d/\∀a,(Go.method (Tryz.prog.types.size+Made.depth) pK (.agg #[b]) "AssignableTo").events V d a=a:=⟨by kernel_rfl,λa=>by kernel_rfl⟩
def aeF:jw V 350 (ReflectliteType.relation "AssignableTo" ReflectliteType.assignableTo):=⟨_,Tryz.func350,by kernel_rfl,by kernel_rfl,by kernel_rfl,by kernel_rfl⟩
def abC(a):(ReflectliteType.relation "AssignableTo" ReflectliteType.assignableTo #[.agg #[aR dR],mM dR]).run V a=.ok (.bool f) a:=bJ
def S9(a)(T):(ReflectliteType.relation "AssignableTo" ReflectliteType.assignableTo #[.agg #[aR dR],mM dR]).events V a T=T:=bJ
def aeS:jw V 209 ReflectliteType.typeOf:=⟨_,Tryz.func209,by kernel_rfl,by kernel_rfl,by kernel_rfl,by kernel_rfl⟩
def abL(aa)(a):(ReflectliteType.typeOf #[.iface dR aa]).run V a=.ok (mM dR) a:=bJ
def Te(aa)(a)(T):(ReflectliteType.typeOf #[.iface dR aa]).events V a T=T:=bJ
def aeL:jw V 210 (ReflectliteValue.method (ReflectliteValue.valueError "reflectlite.Value.Elem" 0) ReflectliteValue.elem):=⟨_,Tryz.func210,by kernel_rfl,by kernel_rfl,by kernel_rfl,by kernel_rfl⟩
def Lw(b):(Rtype.elem? fX).run V b=.ok (h dR) b/\∀a,(Rtype.elem? fX).events V b a=a:=⟨by kernel_rfl,λa=>by kernel_rfl⟩
def Lx(b)(d):(ReflectliteValue.mk dR b ReflectliteValue.flagAddr).run V d=.ok (.agg #[aR dR,.pointer (h b),.int .u64 406]) d/\∀a,(ReflectliteValue.mk dR b ReflectliteValue.flagAddr).events V d a=a:=⟨by kernel_rfl,λa=>by kernel_rfl⟩
def abE(C)(j)(b)(g:b.cell? ⟨C,0,n⟩=h (.pointer (h j))):(ReflectliteValue.method (ReflectliteValue.valueError "reflectlite.Value.Elem" 0) ReflectliteValue.elem #[kw fX C 150]).run V b=.ok (.agg #[aR dR,.pointer (h j),.int .u64 406]) b /\
  ∀a,∀d∈(ReflectliteValue.method (ReflectliteValue.valueError "reflectlite.Value.Elem" 0) ReflectliteValue.elem #[kw fX C 150]).events V b a,d∈a∨d=⟨.cell ⟨C,0,n⟩,l,l⟩:=by
 have i:=Tryz.underlying169;rw[LJ];constructor
 .simp only[cH,(tw C b).1,c1];simp[ReflectliteValue.elem,loadVar,isAgg,underlying,i,g,Lw,Lx]
 intro a d e;simp only[aH,cH,(tw C b).1,(tw C b).2,c1,aJ]at e;simpa[ReflectliteValue.elem,loadVar,isAgg,underlying,i,g,Lw,Lx,show(Mode.plain==Mode.atomic)=l from rfl]using e
def aeQ:jw V 211 ReflectliteValue.set:=⟨_,Tryz.func211,by kernel_rfl,by kernel_rfl,by kernel_rfl,by kernel_rfl⟩
def abS(aa o):ReflectliteValue.set #[aa,o]=(do
  let (h (s,b,X7),h (a,j,_)):=(<-ReflectliteValue.parts aa,<-ReflectliteValue.parts o)
   |unsupported (.noEntry "extern/(internal/reflectlite.Value).Set.zeroValue")
  if X7 / ReflectliteValue.flagAddr % 2==0 then unsupported (.noEntry "extern/(internal/reflectlite.Value).Set.unaddressable")
  let val<-loadVar a j
  if<-Rtype.directlyAssignable s a then storeVar s b val
  else if<-Rtype.implements s a then
   if(<-Rtype.kind a)==20 then
    match val with
    |.nilIface=>unsupported (.noEntry "extern/reflectlite: a nil value of one interface type handed on as a value of another")
    |_=>storeVar s b val
   else storeVar s b (.iface a val)
  else panicString ("reflectlite.Set: value of type "++(<-Rtype.spelt a)++ " is not assignable to type "++(<-Rtype.spelt s))
  pure (.tuple #[])):=rfl
def DM(b)(d):(ReflectliteValue.parts (.agg #[aR dR,.pointer (h b),.int .u64 406])).run V d=.ok (h (dR,b,406)) d/\∀a,(ReflectliteValue.parts (.agg #[aR dR,.pointer (h b),.int .u64 406])).events V d a=a:=⟨by kernel_rfl,λa=>by kernel_rfl⟩
def DN(C)(b):(ReflectliteValue.parts (kw dR C 150)).run V b=.ok (h (dR,⟨C,0,n⟩,150)) b/\∀a,(ReflectliteValue.parts (kw dR C 150)).events V b a=a:=⟨by kernel_rfl,λa=>by kernel_rfl⟩
def Lv(b):(Rtype.directlyAssignable dR dR).run V b=.ok f b/\∀a,(Rtype.directlyAssignable dR dR).events V b a=a:=⟨by kernel_rfl,λa=>by kernel_rfl⟩
def Ly(b):(sizeOf dR).run V b=.ok 1 b/\∀a,(sizeOf dR).events V b a=a:=⟨by kernel_rfl,λa=>by kernel_rfl⟩
def abJ(C j)(W)(g)(e)(b)(r:b.heap[C]?=h (.cells #[g] W (0,0)))(q:b.cell? ⟨j,0,n⟩=h (.pointer (h e))):
  (ReflectliteValue.set #[.agg #[aR dR,.pointer (h ⟨C,0,n⟩),.int .u64 406],kw dR j 150]).run V b=.ok (.tuple #[]) (b.setRow C #[.pointer (h e)]) /\
  ∀d,∀i∈(ReflectliteValue.set #[.agg #[aR dR,.pointer (h ⟨C,0,n⟩),.int .u64 406],kw dR j 150]).events V b d,i∈d∨i=⟨.cell ⟨j,0,n⟩,l,l⟩∨i=⟨.cell ⟨C,0,n⟩,f,l⟩:=by
 have p:=Tryz.underlying167;have m:∀b∈[Value.pointer (h e)],b.oneCell'=f:=λb v=>by simp at v;exact bK
 have u:=run_storeCells_at V C 0 W [.pointer (h e)] 0 #[g] b r E m;have k:(storeCells ⟨C,0,n⟩ [.pointer (h e)] 0).run V b=.ok () (b.setRow C #[.pointer (h e)]):=u;rw[abS];constructor
 .simp only[cH,(DM ⟨C,0,n⟩ b).1,(DN j b).1,c1];simp[ReflectliteValue.flagAddr,loadVar,isAgg,underlying,p,q,Lv,storeVar,Value.cells,Ly,k]
 intro d i o;simp only[aH,cH,(DM ⟨C,0,n⟩ b).1,(DM ⟨C,0,n⟩ b).2,(DN j b).1,(DN j b).2,c1,aJ]at o;have s:i∈(storeCells ⟨C,0,n⟩ [.pointer (h e)] 0).events V b (d.push ⟨.cell ⟨j,0,n⟩,l,l⟩):=by simpa[ReflectliteValue.flagAddr,loadVar,isAgg,underlying,p,q,Lv,storeVar,Value.cells,Ly,k,show(Mode.plain==Mode.atomic)=l from a]using o
 rcases nh [.pointer (h e)] 0 #[g] b _ r E m i s with w|⟨t,y,x,rfl⟩
 .grind
 obtain rfl:t=0:=M;exact .inr (.inr a)
end
section
open Go.Proofs Go.Extern
variable {r:aj V}
abbrev Ac:an:=.J (eb 0 209 (mM 164))
abbrev oa(a:Z):z:=ax (.val a)
abbrev xV(d:av)(b:Nat)(a:Int):z:=.n (.agg [.c (.val (aR d)),.c (.val (.pointer (h ⟨b,0,n⟩))),.c (.val (.int .u64 a))])
abbrev Gk(d:Addr)(a b:Nat):m an:=[.J (eb b fX (.pointer (h ⟨a,0,n⟩))),.J (eb a dR (.pointer n))]
def Ji:∀a,a<2->([0,1]:m Nat)[a]?=h a:=ca
def Tx(b)(C j):Y r 173 [oa (.iface dR (.pointer (h b))),oa (.iface fX (.pointer (h ⟨C,0,n⟩))),xV fX j 150,oa (mM dR)] (Gk b C j) (bh f) [.J (eb j fX (.pointer (h ⟨C,0,n⟩))),.J (eb C dR (.pointer (h b)))]:=by refine Y.K Tryz.func173 rfl λp=>?_;refine aZ a v ?_;refine g.dF 3 [0,1,3,6] (λ_:Unit=>True) (λ_=>[]) (λ_=>Gk b C j++[.cells 206 [.c (.val (aR fX)),.c (.val (.pointer (h ⟨j,0,n⟩))),.c (.val (.int .u64 150))]]) (λ_=>0) () a E a E a v λ_ _=>?_;refine aZ a v ?_;refine g.cU a a (ey.ed (hZ.eb a a) aeS (abL _) (Te _) (o:=oa (mM dR)) λ_=>Rd.val a) λ_=>?_;refine aZ a v ?_;refine g.cU a a (ey.ed (hZ.invoke a a a (aan _)) aeF abC S9 (o:=bh f) λ_=>Rd.bool) λ_=>?_;refine a6 [(19,f)] a E ?_;refine g.cU a a (ey.g6 0 (bz:=.pointer (h ⟨C,0,n⟩)) a (hZ.eb a a) aeL (λe i=>abE j ⟨C,0,n⟩ e i) (o:=xV dR C 406) λ_=>⟨_,a,Rd.val a,Rd.val a,Rd.val a,v⟩) λ_=>?_;refine aZ a v ?_;refine g.cU a a (ey.g5 (W:=dR) (bz:=.pointer (h b)) (aa:=λd=>kw dR d 150) (o:=λd=>xV dR d 150) (hZ.eb a a) Nk (abM b) (Tf b) λd _ _=>⟨_,a,Rd.val a,Rd.val a,Rd.val a,v⟩) λd=>?_;refine aZ a v ?_;refine g.cU a a (ey.iM 1 3 (EG:=.pointer n) (bz:=.pointer (h b)) a a (hZ.eb a a) aeQ (λe m k=>abJ C d dR _ b e m k) (o:=.Q []) λ_ _=>⟨[],a,v⟩) λ_=>?_;refine aZ a v (g.aX (bW.mk [0,1] a ?_ a a a Ji));simp
def M'{ad}(u:t.op=.binOp op q o X ty){s}{cr}(k:P.underlying q=h (.interface cr))(w:η o=ax (.val (.iface ad aa)))(v:η X=ax .bo)(x:∀Q,(eqGuard op q o X (.iface ad aa) .nilIface).run P Q=.ok () Q)(ae:∀Q a,(eqGuard op q o X (.iface ad aa) .nilIface).events P Q a=a)(d:h9 op l=h s):a0 P t η p (ax (.bool s)) p:=by
 refine .aZ λb m A r=>?_;have g:=r o;have e:=r X;rw[w]at g;rw[v]at e;replace g:=b7 g;replace e:=b7 e;generalize j:m o=y at g;generalize I:m X=z at e;cases g;cases e;have i:(Op.equal q (.iface ad aa) .nilIface).run P b.a=.ok l b.a:=QF;have C:∀a,(Op.equal q (.iface ad aa) .nilIface).events P b.a a=a:=λa=>by show(aQ (9999+1) q _ _).events P b.a a=a;unfold aQ;simp[underlying,k]
 cases op<;>simp only[h9,reduceCtorEq,eU]at d
 .exact Qm
 exact PS
def Tw(e)(C):Y r 133 [oa (.iface dR (.pointer (h e))),oa (.iface fX (.pointer (h ⟨C,0,n⟩)))] [Ac,.J (eb C dR (.pointer n))] (bh f) [Ac,.J (eb C dR (.pointer (h e)))]:=by refine Y.K Tryz.func133 rfl λk=>?_;refine aZ a v ?_;refine g.aO (M' a Tryz.underlying164 a a bl (λ_ _=>rfl) a) a a ?_;refine a6 [(9,l)] a E ?_;refine g.aO (M' a Tryz.underlying20 a a bl (λ_ _=>rfl) a) a a ?_;refine a6 [(11,l)] a E ?_;refine g.cU a a (ey.g5 (W:=fX) (bz:=.pointer (h ⟨C,0,n⟩)) (aa:=λd=>kw fX d 150) (o:=λd=>xV fX d 150) (hZ.eb a a) Nk (abN _) (Tg _) λd _ _=>⟨_,a,Rd.val a,Rd.val a,Rd.val a,v⟩) λb=>?_;refine aZ a v ?_;refine g.cU a a (ey.ed (hZ.eb a a) aeR (abK b) (Td b) (o:=oa (mM fX)) λ_=>Rd.val a) λ_=>?_;refine aZ a v ?_;refine g.cU a a (ey.ed (hZ.invoke a a a (Kh _)) Nj abI Tc (o:=ax (.int .u8 22)) λ_=>Rd.int ly) λ_=>?_;refine a6 [(20,l)] a E ?_;refine g.cU a a (ey.g6 2 (bz:=.pointer (h ⟨C,0,n⟩)) a (hZ.eb a a) aeN (λj i=>abG b ⟨C,0,n⟩ j i) (o:=bh l) λ_=>Rd.bool) λ_=>?_;refine a6 [(23,l)] a E ?_;refine g.cU a a (ey.ed (hZ.invoke a a a (aao _)) aeK abD S_ (o:=oa (mM dR)) λ_=>Rd.val a) λ_=>?_;refine aZ a v ?_;refine g.cU a a (ey.ed (hZ.invoke a a a (Kh _)) Nj abH Tb (o:=ax (.int .u8 22)) λ_=>Rd.int ly) λ_=>?_;refine a6 [(30,f)] a E ?_;refine g.aq (aV.gp bd 0 a a a a a a) a ?_;refine g.cU a a (ey.ed (hZ.invoke a a a (aap _)) aeM abF Ta (o:=bh f) λ_=>Rd.bool) λ_=>?_;refine a6 [(35,l)] a E ?_;refine g.aF (Tx e C b) [2,1] a ?_;refine aZ a v (g.aS [0,1] a ?_ Ji);simp
end
end R1
abbrev zm(a b:bE)(d:Bool):z:=.Q [.aq (.c (.V a)),.aq (.c (.V b)),.aq (.c (.bool d))]
namespace R1
variable {r:aj V}
def U7(b)(s)(d:0<=s/\s<=255):Y r 239 [b2 b,uZ s] [] (S (Lib.indexByte b (UInt8.ofNat (Int.toNat s)))) []:=by
 have a:s=((UInt8.ofNat s.toNat).toNat:Int):=by grind[UInt8.toNat_ofNat']
 grind[U6]
def A9:bL:=λargs b=>match args,b with
 |[.n (.aq (.c (.V d))),.n (.aq (.c (.int .u8 a)))],[]=>h (S (Lib.indexByte d (UInt8.ofNat (Int.toNat a))),[],[0<=a/\a<=255])
 |_,_=>n
def ada:bM r 239 A9:=by
 intro args j e g d a b;unfold A9 at a;split at a
 .cases a;exact(U7 _ _ (b)).args (λ_ _ i=>i)
 cases a
def HM:m (Nat×bL):=(239,A9)::HZ
def BL:a8 r HM:=a8.cons ada (SK)
def iv(a:bE):Int:=Lib.indexByte a 47
theorem U5(b):Y r 193 [b2 b,b2 [47]] [] (S (iv b)) []:=by
 refine Y.K func193 rfl λe=>?_;by_cases d:b=[47]
 .subst d;refine a_ BL [(18,l),(22,f)] a E (g.aw a ?_);exact cQ
 refine a_ BL [(18,l),(22,l),(26,f)] a ?_ (g.aw a ?_)
 .simp[kf,dk];grind
 exact cQ
def A8:bL:=λargs a=>match args,a with
 |[.n (.aq (.c (.V b))),.n (.aq (.c (.V [47])))],[]=>h (S (iv b),[],[])
 |_,_=>n
def ac_:bM r 193 A8:=by intro args i b d a e g;unfold A8 at e;grind[U5]
def HN:m (Nat×bL):=(193,A8)::HM
def BM:a8 r HN:=a8.cons ac_ (BL)
def jL(a:bE):bE:=if 0<=iv a then a.take (iv a).toNat else a
def mt(a:bE):bE:=if 0<=iv a then a.drop ((iv a).toNat+1)else[]
def kh(a:bE):Bool:=decide (0<=iv a)
theorem T_(b):Y r 159 [b2 b,b2 [47]] [] (zm (jL b) (mt b) (kh b)) []:=by
 refine Y.K func159 rfl λi=>?_;have j:=i.V 0 a;have e:=yv b 47;change iv b<c b∨iv b=-1 at e;by_cases d:0<=iv b
 .have s:(iv b+1).toNat=(iv b).toNat+1:=y;refine a_ BM [(12,f)] a ?_ (g.aw a ?_)
  .simp[d,a7];omega
  simp[jL,mt,kh,d,mr,s]
 refine a_ BM [(12,l)] a bV (g.aw a ?_);simp[jL,mt,kh,d]
def A7:bL:=λargs b=>match args,b with
 |[.n (.aq (.c (.V a))),.n (.aq (.c (.V [47])))],[]=>h (zm (jL a) (mt a) (kh a),[],[])
 |_,_=>n
def ac9:bM r 159 A7:=by intro args i b d a e g;unfold A7 at e;grind[T_]
def HO:m (Nat×bL):=(159,A7)::HN
def HF:a8 r HO:=a8.cons ac9 (BM)
theorem T9(b):Y r 126 [b2 b,b2 [47]] [] (zm (jL b) (mt b) (kh b)) []:=by refine Y.K func126 rfl λd=>?_;exact b_ HF a v (g.aw a)
def A2:bL:=λargs b=>match args,b with
 |[.n (.aq (.c (.V a))),.n (.aq (.c (.V [47])))],[]=>h (zm (jL a) (mt a) (kh a),[],[])
 |_,_=>n
def ac4:bM r 126 A2:=by intro args i b d a e g;unfold A2 at e;grind[T9]
def jN(a:bE):Bool:=decide (c a=1)&&decide (97<=dk a 0)&&decide (dk a 0<=101)
theorem Uw(b):Y r 127 [b2 b] [] (bh (jN b)) []:=by
 refine Y.K func127 rfl λe=>?_;by_cases d:c b=1
 .by_cases j:97<=dk b 0
  .refine a6 [(5,f),(9,f)] a ht (g.aw a ?_);show decide (dk b 0<=101)=jN b;simp[jN,d,j]
  refine a6 [(5,f),(9,l)] a cQ (g.aw a ?_);simp[jN,j]
 refine a6 [(5,l)] a bV (g.aw a ?_);simp[jN,d]
def A3:bL:=λargs a=>match args,a with
 |[.n (.aq (.c (.V b)))],[]=>h (bh (jN b),[],[])
 |_,_=>n
def ac5:bM r 127 A3:=by intro args i b d a e g;unfold A3 at e;grind[Uw]
def HP:m (Nat×bL):=(126,A2)::(127,A3)::HO
def xF:a8 r HP:=a8.cons ac4 (a8.cons ac5 (HF))
def jS(a:bE):Bool:=jN (jL a)&&(!kh a||jN (mt a))
theorem WA(b):Y r 79 [b2 b] [] (bh (jS b)) []:=by
 refine Y.K func79 rfl λe=>?_;cases x:jN (jL b)with
 |false=>
  refine a_ xF [(13,l)] a oS (g.aw a ?_);simp[jS,x]
 |true=>
  cases d:kh b with
  |false=>
   refine a_ xF [(13,f),(15,l)] a dA (g.aw a ?_);simp[jS,x,d]
  |true=>
   refine a_ xF [(13,f),(15,f)] a dA (g.aw a ?_);simp[jS,x,d]
def Bg:bL:=λargs a=>match args,a with
 |[.n (.aq (.c (.V b)))],[]=>h (bh (jS b),[],[])
 |_,_=>n
def adj:bM r 79 Bg:=by intro args i b d a e g;unfold Bg at e;grind[WA]
theorem VB(b):Y r 128 [b2 b] [] (bh (d6 b)) []:=by
 refine Y.K func128 rfl λe=>?_;have o:=e.V 0 a;refine aZ a v (g.ca (λd=>d<=c b/\∀w,w<d->jn (b.getD w 0)=f) (λd:Nat=>[(0,b2 b),(5,S (c b)),(6,S d)]) (λ_=>[]) (λd=>c b-d) 0 a E a v ⟨by omega,by omega⟩ ?_);rintro d ⟨i,s⟩;by_cases u:d<c b
 .generalize x:b.getD d 0=j;by_cases m:j.toNat<97
  .refine a6 [(7,f),(12,f)] a ?_ (g.bS (bW.zero a ?_))
   .simp only[U,xn,bA,x];omega
   exact zN
  by_cases k:j.toNat>122
  .refine a6 [(7,f),(12,l),(17,f)] a P9 (g.bS (bW.zero a ?_));exact zN
  refine a6 [(7,f),(12,l),(17,l)] a N4 (g.b6 (d+1) a E a v ?_ ?_)
  .refine⟨by omega,λw I=>?_⟩;rcases As.1 I with I|rfl
   .grind
   rw[x];simp only[jn,cE,bA];omega
  omega
 exact Of
def A4:bL:=λargs a=>match args,a with
 |[.n (.aq (.c (.V b)))],[]=>h (bh (d6 b),[],[])
 |_,_=>n
def ac6:bM r 128 A4:=by intro args i b d a e g;unfold A4 at e;grind[VB]
def HQ:m (Nat×bL):=(79,Bg)::(128,A4)::HP
def BN:a8 r HQ:=a8.cons adj (a8.cons ac6 (xF))
theorem I6(b):Y r 80 [b2 b] [] (bh (fD b)) []:=by
 refine Y.K func80 rfl λe=>?_;by_cases d:c b<=40
 .refine a_ BN [(5,f)] a bV (g.aw a ?_);simp[fD,d]
 refine a_ BN [(5,l)] a bV (g.aw a ?_);simp[fD,d]
def Bh:bL:=λargs a=>match args,a with
 |[.n (.aq (.c (.V b)))],[]=>h (bh (fD b),[],[])
 |_,_=>n
def adk:bM r 80 Bh:=by intro args i b d a e g;unfold Bh at e;grind[I6]
def oo(b a:bE):Bool:=decide (c a<=c b)&&(b.take (c a)==a)
theorem UJ(b d):Y r 130 [b2 b,b2 d] [] (bh (oo b d)) []:=by
 refine Y.K func130 rfl λe=>?_;by_cases x:c d<=c b
 .refine a6 [(9,f)] a oS (g.aw a ?_);simp[oo,x,mr]
 refine a6 [(9,l)] a bV (g.aw a ?_);simp[oo,x]
def A6:bL:=λargs a=>match args,a with
 |[.n (.aq (.c (.V b))),.n (.aq (.c (.V d)))],[]=>h (bh (oo b d),[],[])
 |_,_=>n
def ac8:bM r 130 A6:=by intro args i b d a e g;unfold A6 at e;grind[UJ]
def HR:m (Nat×bL):=(80,Bh)::(130,A6)::HQ
def HG:a8 r HR:=a8.cons adk (a8.cons ac8 (BN))
theorem UI(b d):Y r 83 [b2 b,b2 d] [] (bh (oo b d)) []:=by refine Y.K func83 rfl λe=>?_;exact b_ HG a v (g.aw a)
def Bl:bL:=λargs a=>match args,a with
 |[.n (.aq (.c (.V b))),.n (.aq (.c (.V d)))],[]=>h (bh (oo b d),[],[])
 |_,_=>n
def adn:bM r 83 Bl:=by intro args i b d a e g;unfold Bl at e;grind[UI]
def HS:m (Nat×bL):=(83,Bl)::HR
def HH:a8 r HS:=a8.cons adn (HG)
end R1
def cZ.js(a:cZ α)(d)(i k)(m:i+k<=c d):a.af k (fx i (a.fn d))=(d.drop i).take k:=by
 apply rm
 .simp[cZ.af];omega
 intro b e g;have j:b<k:=M;simp[cZ.af,fx,cZ.fn,gr,al,bI (by omega:i+b<c d),a.inv]
def cZ.iT(a:cZ α)(d){i}:a.bU k (fx i (a.fn d)):=λb _=>by simp[fx,cZ.fn,gr,a.inv]
abbrev SW(a b:bE):z:=ax (.O [.V a,.V b])
namespace R1
variable {r:aj V}
def under(a b:bE):Bool:=oo a (b++[47])
def XG(b)(d o)(i:c b.1<=4000000):Y r 82 [xS b,SW d o] [] (bh (under d b.1)) []:=by refine Y.K func82 rfl λe=>?_;refine b_ HH a bV (g.aw a ?_);exact cQ
def Bj:bL:=λargs e=>match args,e with
 |[.n (.agg [.c (.V a),.c (.V b)]),.n (.aq (.c (.O [.V g,.V d])))],[]=>h (bh (under g a),[],[c a<=4000000/\b=b/\d=d])
 |_,_=>n
def adm:bM r 82 Bj:=by
 intro args m e g d a b;unfold Bj at a;split at a
 .rename_i j i k o;cases a;exact XG (j,i) k o b.1
 grind
def HT:m (Nat×bL):=(82,Bj)::HS
def sQ:a8 r HT:=a8.cons adm (HH)
abbrev BW(a b:bE):z:=ax (.fn (.func 82) [] [.O [.V a,.V b]])
def mB(e:m c')(d:bE):Int:=match e.findIdx? (λa=>under d a.1)with|some b=>b|none=>-1
def ZV{q}{a}(g:e<c q)(j:under a (cm q e)=f)(i:∀b,b<e->under a (cm q b)=l):mB q a=e:=by
 have:q.findIdx? (λd=>under a d.1)=h e:=by grind[List.findIdx?_eq_some_iff_getElem,pf]
 rw[mB,this]
theorem JR{q}{a}(e:∀b,b<c q->under a (cm q b)=l):mB q a=-1:=by
 have:q.findIdx? (λd=>under a d.1)=n:=by grind[List.getElem_of_mem,pf]
 rw[mB,this]
def U2(q)(e o)(p:∀d,d<c q->c (cm q d)<=4000000):Y r 129 [bD.S q,BW e o] [] (S (mB q e)) []:=by
 refine Y.K func129 rfl λm=>?_;have t:=m.S 0 a;refine b_ sQ a v (g.ca (λb=>b<=c q/\∀d,d<b->under e (cm q d)=l) (λb:Nat=>[(0,bD.S q),(1,BW e o),(7,S (c q)),(8,S b)]) (λ_=>[]) (λb=>c q-b) 0 a E a v ⟨by omega,by omega⟩ ?_);rintro b ⟨s,k⟩;by_cases i:b<c q
 .have u:=p b i;cases j:under e (cm q b)with
  |true=>
   refine a_ sQ [(9,f),(16,f)] a ?_ (g.bS (bW.zero a ?_))
   .simp[-al,i,kq,j];omega
   simp[ZV i j k]
  |false=>
   refine a_ sQ [(9,f),(16,l)] a ?_ (g.b6 (b+1) a ?_ a v ?_ ?_)
   .simp[-al,i,kq,j,a7];omega
   .simp
   .grind
   omega
 refine a_ sQ [(9,l)] a bV (g.bt a a ?_);refine b_ sQ a v (g.aw a ?_);simp[JR (λd w=>k d y)]
def zb(b:m c'):Prop:=∀a,a<c b->c (cm b a)<=4000000
def A5:bL:=λargs e=>match args,e with
 |[g,.n (.aq (.c (.fn (.func 82) [] [.O [.V i,.V d]])))],[]=>match jW 2 g with
  |none=>n
  |some (b,a)=>h (S (mB (bD.af b a) i),[],[bD.bU b a,zb (bD.af b a),d=d])
 |_,_=>n
def ac7:bM r 129 A5:=by
 intro args p i j g a b;unfold A5 at a;split at a
 .rename_i q m o;split at a
  .cases a
  rename_i s k d;cases a;exact(U2 _ m o b.2.1).args (λ_ B=>b5.imp (λ_=>bD.cC d b.1) (b5.imp (λ_ e=>e) (λ_ e=>e)) B)
 grind
def HU:m (Nat×bL):=(129,A5)::HT
def HI:a8 r HU:=a8.cons ac7 (sQ)
def Tu(q)(b o)(d:zb q):Y r 81 [bD.S q,BW b o] [] (bh (decide (0<=mB q b))) []:=by
 refine Y.K func81 rfl λe=>?_;refine b_ HI a ?_ (g.aw a ?_)
 .simp[bD.U,bD.E,d]
 simp[bD.E]
def Bi:bL:=λargs e=>match args,e with
 |[g,.n (.aq (.c (.fn (.func 82) [] [.O [.V i,.V d]])))],[]=>match jW 2 g with
  |none=>n
  |some (b,a)=>h (bh (decide (0<=mB (bD.af b a) i)),[],[bD.bU b a,zb (bD.af b a),d=d])
 |_,_=>n
def adl:bM r 81 Bi:=by
 intro args p i j g a b;unfold Bi at a;split at a
 .rename_i q m o;split at a
  .cases a
  rename_i s k d;cases a;exact(Tu _ m o b.2.1).args (λ_ B=>b5.imp (λ_=>bD.cC d b.1) (b5.imp (λ_ e=>e) (λ_ e=>e)) B)
 grind
def SO:m (Nat×bL):=(81,Bi)::HU
def n':a8 r SO:=a8.cons adl (HI)
def mS(b:m c')(a:Nat):Bool:=
 jS (cm b a)&&fD (lw b a)&&(a==0||!(aW (cm b a) (cm b (a-1))||cm b a==cm b (a-1)))&&(aC a).all λd=>!under (cm b a) (cm b d)
def qW(a:m c'):Bool:=(aC (c a)).all (mS a)&&decide (c a<=6)
def zq{q}(b:e<c q)(d:mS q e=l):qW q=l:=by
 cases a:qW q with
 |false=>rfl
 |true=>
  simp[qW,cE]at a;grind
theorem K1{b}(g:jS b=f):c b<=3:=by
 simp[jS,jN,cE,jB,bA,j8]at g;obtain⟨⟨⟨e,_⟩,_⟩,a⟩:=g;have i:=yv b 47;change iv b<c b∨iv b=-1 at i;by_cases d:0<=iv b
 .simp only[jL,d,dH,List.length_take]at e;rcases a with a|a
  .simp[kh,d]at a
  have:=a.1.1;simp[mt,d,dH,su]at this;omega
 simp[jL,d,dh]at e;omega
def ZW{q}{R}(m:e<=c q):decide (0<=mB (q.take e) R)=!(aC e).all λa=>!under R (cm q a):=by
 have o:∀a,a<e->cm (q.take e) a=cm q a:=by intro a d;simp[cm,al,d]
 cases r:(aC e).all λa=>!under R (cm q a)with
 |true=>
  grind[JR]
 |false=>
  have j:∃a,a<e/\under R (cm q a)=f:=M;have:∃g:Nat,mB (q.take e) R=g:=by
   unfold mB;cases b:(q.take e).findIdx? (λk=>under R k.1)with
   |some g=>grind
   |none=>
    obtain⟨a,d,p⟩:=j;rw[List.findIdx?_eq_none_iff]at b;have i:a<c (q.take e):=M;have:=b _ (wY i);grind[pf]
  grind
def I8(q):Y r 46 [bD.S q] [] (bh (qW q)) []:=by
 refine Y.K func46 rfl λB=>?_;have D:=B.S 0 a;refine b_ n' a v (g.aL 0 (λe=>e<=c q/\∀b,b<e->mS q b=f) (λe:Nat=>[(0,bD.S q),(5,bD.S q),(6,S (c q)),(7,S e)]) (λ_=>[]) (λe=>c q-e) 0 a E a v a ⟨by omega,by omega⟩ ?_);rintro e ⟨m,w⟩;by_cases i:e<c q
 .cases I:jS (cm q e)with
  |false=>
   refine bf n' [(8,f),(14,l)] a ?_ (g.aX (bW.zero a ?_))
   .simp[-al,i,kq,I]
   simp[U,zq i (by simp[mS,I])]
  |true=>
   cases ae:fD (lw q e)with
   |false=>
    refine bf n' [(8,f),(14,f),(19,l)] a ?_ (g.aX (bW.zero a ?_))
    .simp[-al,i,kq,tR,I,ae]
    simp[U,zq i (by simp[mS,ae])]
   |true=>
    have J:zb (q.take e):=by
     intro b C;simp[List.length_take]at C;have u:cm (q.take e) b=cm q b:=by simp[cm,al,(by omega:b<e)]
     rw[u];have:=w b y;simp[mS,cE]at this;grind[K1]
    have F:bD.af ((e:Int).toNat-0) (fx 0 (bD.fn q))=q.take e:=by rw[bD.js q 0 _ M];simp
    cases p:(e==0||!(aW (cm q e) (cm q (e-1))||cm q e==cm q (e-1)))with
    |false=>
     have k:mS q e=l:=by simp only[mS,p];simp
     have A:e≠0:=M;have t:(aW (cm q e) (cm q (e-1))||cm q e==cm q (e-1))=f:=M;have j:a7 .i64 ((e:Int)-1):=cQ;have d:((e:Int)-1).toNat=e-1:=y;refine bf n' [(8,f),(14,f),(19,f),(24,f),(34,f)] a OK (g.aX (bW.zero a ?_));simp[zq i k]
    |true=>
     have k:mS q e=(aC e).all λb=>!under (cm q e) (cm q b):=by simp only[mS,p,I,ae];simp
     apply g.cg [(0,bD.S q),(3,S e),(5,bD.S q),(6,S (c q)),(7,S e),(4,aG 0 0)] [.cells 114 [.c (.V (cm q e)),.c (.V (lw q e))]]
     .intro bU;by_cases A:e=0
      .refine bf n' [(8,f),(14,f),(19,f),(24,l),(1000006,f)] a ?_ (bU _ _ a ?_)
       .simp only[U,kq,tR,c5,I,ae,bA,dj];grind
       simp
      have t:(aW (cm q e) (cm q (e-1))||cm q e==cm q (e-1))=l:=M;have j:a7 .i64 ((e:Int)-1):=cQ;have d:((e:Int)-1).toNat=e-1:=y;refine bf n' [(8,f),(14,f),(19,f),(24,f),(34,l),(1000006,f)] a OK (bU _ _ a ?_);simp
     refine g.freeze 4 0 a a a ?_;have o:=ZW (q:=q) (R:=cm q e) (e:=e) m;have x:bD.bU ((e:Int).toNat-0) (fx 0 (bD.fn q)):=bD.iT q;cases s:(aC e).all λb=>!under (cm q e) (cm q b)with
     |false=>
      rw[s]at o k;refine bf n' [(41,f)] a ?_ (g.aX (bW.zero a ?_))
      .simp only[U,bT];grind
      simp[zq i k]
     |true=>
      rw[s]at o k;refine bf n' [(41,l)] a ?_ (g.aA (e+1) a ?_ ?_ ?_ ?_)
      .simp only[U,bT];have z:decide (0<=mB (bD.af ((e:Int).toNat-0) (fx 0 (bD.fn q))) (cm q e))=l:=M;exact⟨by exact cQ,x,by grind,v,z,by omega,by omega⟩
      .simp
      .trivial
      .grind
      omega
 have:e=c q:=y;subst this;refine a_ n' [(8,l)] a E (g.aC ?_);refine b_ n' a v (g.aw a ?_);simp only[U,qW];grind
def rv:bL:=λargs d=>match args,d with
 |[e],[]=>match jW 2 e with
  |none=>n
  |some (a,b)=>h (bh (qW (bD.af a b)),[],[bD.bU a b])
 |_,_=>n
def t46:bM r 46 rv:=by
 intro args k e g d a b;unfold rv at a;split at a
 .split at a
  .cases a
  rename_i m o i;cases a;exact(I8 _ ).args (λ_ B=>b5.imp (λ_=>bD.cC i b) (λ_ j=>j) B)
 grind
end R1
def b5.al{p ao}{b}(g:∀i(e:z),bx p b i e->bx ao b i e):∀{B:m Z}{d:m z},b5 p b B d->b5 ao b B d
 |[],[],_=>trivial
 |[],_::_,a=>a.elim
 |_::_,[],a=>a.elim
 |_::_,_::_,a=>⟨g _ _ a.1,b5.al g a.2⟩
def Y.eF{r:aj P}{s}{args a}{d}{res}(t:Y r s args p res ao)(C:∀b B,b5 p b B a->b5 p b B args)(z:jm d p=h ab)(A:U ab):Y r s a d res ao:=
 ⟨t.1,λb B o e u g m=>by obtain⟨j,k,D⟩:=jP z A b e;exact t.2 b B (C b B (o.al D)) j u g λi E q v w x y=>m i E q v w x ((k.too1 e).trans y)⟩
def aV.dU{j:aj P}{o}(s:dx (ι:=Unit) j D all t F p (λ_=>o) (λ_=>ao)):aV j D all t F p o ao:=
 λw m r g q v b k u a e i d=>s w m r g q v b k u a e i λ_=>d
namespace R1
variable {r:aj V}
abbrev jq(a:m (Int×Int)):an:=.r 225 2 (c a) (a1.fn a)
abbrev mR(a:m (Int×Int)):z:=.n (.aq (.r 0 2 (c a) (a1.fn a)))
def Kg(L:m (Int×Int))(a b d:an)(e g i _:Bool):m an:=match i with
 |true=>[d]
 |false=>match g with
  |true=>[b]
  |false=>match e with
   |true=>[a]
   |false=>[jq L]
def Cf:∀q(d:m (Int×Int)),c d+c q.af<=4000000->Y r 204 [ax (eH q),mR d] [jq d] (mR (d++q.af)) [jq (d++q.af)]
 |.nil,d,_=>by refine Y.K func204 rfl λC=>?_;refine aZ a v (g.aO (rR a underlying246 a a a) a a ?_);refine aZ a v ?_;rw[show d++dG.nil.af=d from h1 d];exact g.aS [0] a ⟨a,bt.same⟩ s4
 |.ax lt e i b,d,A=>by
  have F:(dG.ax lt e i b).af=lt.af++(e,i)::b.af:=rfl;have K:c d+c lt.af+(c b.af+1)<=4000000:=M;have u:=Cf lt d y;have cc:=Cf b (d++lt.af++[(e,i)]) M;have I:=a1.a0 (d++lt.af) (e,i);have ec:Y r 204 [ax (eH b),.n (.aq (.r 0 2 (c (d++lt.af)+1) (ce (c (d++lt.af)) (a1.fn (d++lt.af)) λk=>([[.int .i64 e,.int .i64 i]]:m (m N)).getD k [])))] [.r 225 2 (c (d++lt.af)+1) (ce (c (d++lt.af)) (a1.fn (d++lt.af)) λk=>([[.int .i64 e,.int .i64 i]]:m (m N)).getD k [])] (mR (d++(dG.ax lt e i b).af)) [jq (d++(dG.ax lt e i b).af)]:=by
   rw[F,show d++(lt.af++(e,i)::b.af)=d++lt.af++[(e,i)]++b.af by simp];refine cc.eF (λQ B O=>?_) a (U.Y.2 ⟨⟨by grind,I⟩,v⟩)
   match B,O with
   |[_,_],⟨J,w,D⟩=>exact⟨J,pr rfl (show U [_,_]from⟨by grind,I⟩) w,D⟩
  have nu:(c (d++lt.af)+1)*ot.bytes<=140737488355328:=by rw[show ot.bytes=16 from a,dn];omega
  clear cc I K A;generalize d++(dG.ax lt e i b).af=p at *;generalize d++lt.af=o at *;have x:a8 r []:=a8.nil;refine Y.K func204 rfl λC=>?_;refine aZ a v (g.aO (tC a underlying246 a a a) a a ?_);refine a6 [(1000003,f)] a v ?_;let t:Nat->z:=λk=>([ax (eH (.ax lt e i b)),ax (eH (.ax lt e i b)),ax (.O [eH b]),ax (eH b),ax (eH (.ax lt e i b)),ax (eH (.ax lt e i b)),ax (.O [eH lt,eH b]),ax (eH lt),mR d,mR o,ax (eH (.ax lt e i b)),ax (eH (.ax lt e i b)),ax (eH (.ax lt e i b)),pc e i,ax (.S f 2 1 λk=>([[.int .i64 e,.int .i64 i]]:m (m N)).getD k []),.n (.aq (.r 0 2 (c o+1) (ce (c o) (a1.fn o) λk=>([[.int .i64 e,.int .i64 i]]:m (m N)).getD k []))),mR p,mR p]:m z).getD k .any
  cases lt<;>cases b<;>(
   refine g.cu b6 t (mx (Kg d (jq o) (.r 225 2 (c o+1) (ce (c o) (a1.fn o) λk=>([[.int .i64 e,.int .i64 i]]:m (m N)).getD k [])) (jq p)) 9 15 16 17) a a a a ⟨
   .aY,
   .aY,
   .aY,
   .aY,
   .aY,
   .aY,
   .aY,
   .aY,
   .aY,
   cp.ay a a a a a a (aV.dU (dx.bV u.tocD [0] a a a a E a a a bl a bl)),
   .aY,
   .aY,
   .aY,
   .aY,
   .aY,
   cp.eR a a a a a a (ee (bg:=[]) bd x (ao:=h _) a ⟨rfl,rfl,nu⟩),
   cp.eT a a a a a a (aV.dU (dx.bV ec.tocD [0] a a a a E a a a bl a bl)),
   cp.eU a a a a a a (aV.y),v⟩ ?_
   intro z j;show g r _ _ _ _ _ (Kg d (jq o) _ (jq p) (z 9) (z 15) (z 16) (z 17));rw[j 9 ca,j 15 ca,j 16 ca,j 17 ca]
   exact g.aS [0] a ⟨a,bt.same⟩ s4)
abbrev KD:z:=ax (.S f 2 0 λ_=>[])
def Kf(a b d:an)(e g i _:Bool):m an:=match i with
 |true=>[d]
 |false=>match g with
  |true=>[b]
  |false=>match e with
   |true=>[a]
   |false=>[]
def IK:∀(p:dG),c p.af<=4000000->Y r 204 [ax (eH p),KD] [] (mR p.af) [jq p.af]
 |.nil,_=>by refine Y.K func204 rfl λC=>?_;refine aZ a v (g.aO (rR a underlying246 a a a) a a ?_);refine aZ a v (g.bK 4 225 2 a a ?_);refine g.bf [jq []] a E ?_;exact g.aS [0] a nP (CF _)
 |.ax lt d e b,w=>by
  have t:(dG.ax lt d e b).af=lt.af++(d,e)::b.af:=rfl;have J:c lt.af+(c b.af+1)<=4000000:=M;have u:=IK lt y;have cc:=Cf (r:=r) b (lt.af++[(d,e)]) M;have I:=a1.a0 lt.af (d,e);have ec:Y r 204 [ax (eH b),.n (.aq (.r 0 2 (c lt.af+1) (ce (c lt.af) (a1.fn lt.af) λi=>([[.int .i64 d,.int .i64 e]]:m (m N)).getD i [])))] [.r 225 2 (c lt.af+1) (ce (c lt.af) (a1.fn lt.af) λi=>([[.int .i64 d,.int .i64 e]]:m (m N)).getD i [])] (mR (dG.ax lt d e b).af) [jq (dG.ax lt d e b).af]:=by
   rw[t,show lt.af++(d,e)::b.af=lt.af++[(d,e)]++b.af by simp];refine cc.eF (λO B K=>?_) a (U.Y.2 ⟨⟨by simp,I⟩,v⟩)
   match B,K with
   |[_,_],⟨F,A,D⟩=>exact⟨F,pr rfl (show U [_,_]from⟨by simp,I⟩) A,D⟩
  have nu:(c lt.af+1)*ot.bytes<=140737488355328:=by rw[show ot.bytes=16 from a];omega
  clear cc I J w;clear t;generalize(dG.ax lt d e b).af=o at *;generalize lt.af=k at *;have x:a8 r []:=a8.nil;refine Y.K func204 rfl λC=>?_;refine aZ a v (g.aO (tC a underlying246 a a a) a a ?_);refine a6 [(1000003,f)] a v ?_;let q:Nat->z:=λi=>([ax (eH (.ax lt d e b)),ax (eH (.ax lt d e b)),ax (.O [eH b]),ax (eH b),ax (eH (.ax lt d e b)),ax (eH (.ax lt d e b)),ax (.O [eH lt,eH b]),ax (eH lt),KD,mR k,ax (eH (.ax lt d e b)),ax (eH (.ax lt d e b)),ax (eH (.ax lt d e b)),pc d e,ax (.S f 2 1 λi=>([[.int .i64 d,.int .i64 e]]:m (m N)).getD i []),.n (.aq (.r 0 2 (c k+1) (ce (c k) (a1.fn k) λi=>([[.int .i64 d,.int .i64 e]]:m (m N)).getD i []))),mR o,mR o]:m z).getD i .any
  cases lt<;>cases b<;>(
   refine g.cu b6 q (mx (Kf (jq k) (.r 225 2 (c k+1) (ce (c k) (a1.fn k) λi=>([[.int .i64 d,.int .i64 e]]:m (m N)).getD i [])) (jq o)) 9 15 16 17) a a a a ⟨
   .aY,
   .aY,
   .aY,
   .aY,
   .aY,
   .aY,
   .aY,
   .aY,
   .aY,
   cp.ay a a a a a a (aV.dU (dx.bV u.tocD [] a a a a E a a a bl a bl)),
   .aY,
   .aY,
   .aY,
   .aY,
   .aY,
   cp.eR a a a a a a (ee (bg:=[]) bd x (ao:=h _) a ⟨rfl,rfl,nu⟩),
   cp.eT a a a a a a (aV.dU (dx.bV ec.tocD [0] a a a a E a a a bl a bl)),
   cp.eU a a a a a a (aV.y),v⟩ ?_
   intro z j;show g r _ _ _ _ _ (Kf (jq k) _ (jq o) (z 9) (z 15) (z 16) (z 17));rw[j 9 ca,j 15 ca,j 16 ca,j 17 ca]
   exact g.aS [0] a ⟨a,bt.same⟩ (CF _))
end R1
section
open Go.Conc
def bb.gO(k:bb p b){bX}{L}(aE:p[d]?=h bX)(B:b.l[d]?=h L)(z:(∃W ah,bX=.cells W ah)∨∃H,bX=.J H):
  bb (p.set d .x) {b with l:=b.l.set d ⟨L.v,[]⟩}/\cN p b (p.set d .x) {b with l:=b.l.set d ⟨L.v,[]⟩}:=by
 have C:d<c p:=(cO.1 aE).1;have K:d<c b.l:=(cO.1 B).1;have A:∀m,(b.l.set d ⟨L.v,[]⟩)[m]?=if d=m then h ⟨L.v,[]⟩else b.l[m]?:=M;have y:∀g∈b.l.set d ⟨L.v,[]⟩,∀o∈g.al,g∈b.l:=M;have v:cN p b (p.set d .x) {b with l:=b.l.set d ⟨L.v,[]⟩}:=by
  refine⟨bC _,λ_ _ _=>rfl,λ_ _ _ E=>E,λ_ _ _ _=>rfl,λg e o j=>.inr ⟨g,y g e o j,j⟩,?_,a,a,a,a⟩;intro m r g i e;by_cases u:d=m
  .subst u;rw[aE]at i;cases i;rw[B]at e;cases e;refine⟨.x,⟨L.v,[]⟩,by grind,by grind,?_⟩;rcases z with⟨W,ah,rfl⟩|⟨H,rfl⟩<;>rfl
  exact⟨r,g,by grind,by grind,.refl _ _⟩
 refine⟨⟨k.mem,by simp[k.len],?_,?_,λg e o j=>k.lt g (y g e o j) o j,λo j=>⟨(k.own o j).1,λg e q=>(k.own o j).2 g (y g e o q) q⟩⟩,v⟩
 .intro m r g i e;by_cases u:d=m
  .subst u;rw[im C]at i;cases i;trivial
  rw[kC u]at i;rw[A,bm u]at e;exact(k.box m r g i e).cb v.ext k.len λo j=>⟨a,λN=>rfl⟩
 intro I J w x s t o D F;rw[A]at s t;split at s
 .grind
 split at t
 .grind
 exact k.a3 I J w x s t o D F
def bx.eX(g:az.u=b.u){a}(j:bx p b aa a)(i:hM 0 a=f):bx ao az aa a:=by have d:=bx.drop (aM:=[]) (bs:=p) j i;refine bx.mono (p:=[]) (b:=b.cut 0) ⟨λm q aa e=>by rw[g];exact e,λo k L aE _=>by grind⟩ (by simp[a5.cut]) d
end
section
open Go.ChangeShapes Go.WideShapes Go.ChangeAt Go.RowKit
def Ht{b:au}{a:Addr}(g:b.cell? (a.add k)=h aa):b.cell? ⟨a.block,a.off+k,n⟩=h aa/\(k=0->a=⟨a.block,a.off,n⟩):=by obtain⟨e,i,d⟩:=a;cases d<;>simp only[Addr.add,aL]at*<;>grind
section
variable {H:Type}{gQ:av×Z->H}{q bz:Nat}{o1:au}
def abP(F:P.underlying q=h (.slice bz))(E:P.underlying bz=h (.int .u8))(I:P.cellsOf bz=1){j:Option Addr}{d:Nat}{u:DataW H}{x:m MemPlace}(v:DataW.Trod gQ P o1 0 (λ_=>f) f q (.slice j A d) u x):
  ∃p:Nat->Int,R1.Bytes p/\A<=9223372036854775807/\bx [] (a5.bA o1) (.slice j A d) (ax (.S l 1 A (R1.qg p))):=by
 obtain⟨K,D⟩:=v;rcases open_ints F E I D with⟨g,_⟩|⟨o,k,s,C,g,_,aa,B,O,_,t,z⟩<;>simp[Value.cells]at g<;>obtain⟨rfl,rfl,rfl⟩:=g
 .exact⟨λ_=>0,λ_=>by simp,by omega,Rd.dH⟩
 simp only[dH,maxLen]at O B;have r:∀b,0<=C.getD b 0/\C.getD b 0<=255:=λb=>by
  by_cases e:b<c C
  .have:=z _ (wY e);simp[Lit.wf,IntKind.min,IntKind.max,IntKind.signed,IntKind.bits]at this;grind
  grind
 refine⟨λb=>C.getD b 0,r,by omega,Rd.hT aa y (λJ=>eK h ((Ht (t 0 y)).2 a)) (λ_ _=>rfl) λb e w s i=>?_⟩
 match w,i with
 |0,i=>
  cases i;exact⟨_,by simpa[a5.bA]using(Ht (t b y)).1,Rd.int (r b)⟩
abbrev GH(a:Nat×(Nat->Int)):z:=ax (.S l 1 a.1 (R1.qg a.2))
def FK(a:Nat×(Nat->Int)):Prop:=R1.Bytes a.2/\a.1<=9223372036854775807
def LF{d:m uj}(C:∀g∈d,o1.heap[g.1]?=h (.cells #[g.2.2] g.2.1 (0,0)))(o:∀g∈d,∃T bz,g.2.2=.iface T bz)(r:laidOutB P=f)(I:P.readableRec q=f)(J:q<P.types.size)(A:P.underlying q=h (.slice bz))(F:P.underlying bz=h (.int .u8))(K:P.cellsOf bz=1){V:Reach}{base:Nat}:∀{j:Nat}{B:m Z}{b:m (DataW H)}{s:m MemPlace},
  DataW.TrodAll gQ P o1 0 (λ_=>f) f (aY j q) B b s->(∀i k,i<j->B[i]?=h k->Value.okWide P o1 V base q k) ->
  ∃p:m (Nat×(Nat->Int)),(c p=j/\c b=j)/\(∀g∈p,FK g)/\b5 (mA d) (a5.cQ d o1) B (p.map GH)/\∀t,Below o1.heap.size o1 t->DataW.TrodAll gQ P t 0 (λu=>decide (u<o1.heap.size)) f (aY j q) B b s
 |0,B,b,s,e,_=>by obtain⟨rfl,rfl,rfl⟩:=trodAll_nil e;exact⟨[],⟨a,a⟩,by simp,v,λ_ _=>rfl⟩
 |j+1,B,b,s,e,E=>by
  obtain⟨k,B,aa,b,s,ad,rfl,rfl,rfl,⟨w,x⟩,R⟩:=trodAll_cons e;obtain⟨X,U,D,rfl⟩:=okWide_slice A (E 0 k y rfl);obtain⟨u,M,N,S⟩:=abP A F K ⟨w,x⟩;obtain⟨p,k1,z,Q,G⟩:=LF C o r I J A F K R λi k W e=>E (i+1) k y e;refine⟨(U,u)::p,by simp[k1],by simp only[List.forall_mem_cons];exact⟨⟨M,N⟩,z⟩,⟨Rd.cQ C o (λab i Y e=>?_) S,Q⟩,λt O=>trodAll_cons_mk (Below.trod r I J ⟨w,x⟩ O (DataW.trod_lt w _ _ _ x)) (G t O)⟩
  match i,e with
  |0,e=>cases e;exact⟨_,_,a⟩
end
noncomputable def J1(P:aI)(e:m (String×DataW Unit))(d j i:Nat)(os:Os):au:=
 let a:=World.laidAll P os (e.filter λk=>k.2.handleName?.isNone)
 {a with heap:=a.heap.modify d λ
   |.cells _ b o=>.cells #[.iface j (.agg #[typeHandle P i])] b o
   |g=>g}
def J3{N:Checked}{I ol gP hl iy r6 r5:Nat}(ai:∀(x w:av×Z) (Q:m (Nat×(Nat->Int))),c Q=k->(∀g∈Q,FK g)->Y (aj.aJ N.prog) I (Q.map GH) (mA [(ol,iy,.iface x.1 x.2),(gP,iy,.iface w.1 w.2),(hl,r6,.iface r5 (.agg #[typeHandle N.prog iy]))]) (bh f) (mA [(ol,iy,.iface x.1 x.2),(gP,iy,.iface w.1 w.2),(hl,r6,.iface r5 (.agg #[typeHandle N.prog iy]))])){fn:Func}{C T X:Nat}{b:ChangeSpec}{s:OpenClaim}{os:Os}(a':os.Started){H:Type}{gQ:av×Z->H}(L:N.prog.funcs[I]?=h fn)(aV:fn.params=(aY k C).toArray)(aG:fn.resultTypes=#[X])(ak:ownKnob N.prog.godebug=n)(R:laidOutB N.prog=f)(aH:N.prog.readableRec C=f)(aJ:C<N.prog.types.size)(an:N.prog.underlying C=h (.slice T))(ao:N.prog.underlying T=h (.int .u8))(aq:N.prog.cellsOf T=1)(aB:N.prog.underlying X=h .bool)(aE:N.prog.inits.idxOf? I=n)(aK:varsRowed N.prog b.vars=f)(aI:∃aX aZ,b.vars=[aX,aZ])(a5:∀(F:m (DataW H)) (j i:DataW H),c F=k->b.fn H (F++[j,i])={results:=[.lit (.bool f)],args:=F,vars:=[j,i]})(wi:∃(e:au) (tape:Tape) (v:Input),e.os=os/\(e.forCall tape v).Shaped N.prog/\v.vars=[]/\Input.okWide N.prog (e.forCall tape v) .any e.heap.size I v /\
   ((b.pre gQ N.prog fn s.domain l (e.forCall tape v).memory v.args/\laidMetH N.prog s.laid (e.forCall tape v).memory)/\sizedMet gQ N.prog fn (OpenSpec.ofChange b) l (e.forCall tape v).memory v.args)/\({}:Assume).holds N.prog (lone (Frame.enter N.prog I v.args .normal) [] (e.forCall tape v))){CZ C0 CY:Nat}{aN lo S aP aQ:String}{ah xS y:DataW Unit}{aR:Array (String×av)}{aW:m UInt8}(az:(s.laid.filter λg=>g.2.handleName?.isNone)[CZ]?=h (aN,.iface aP ah))(aA:(s.laid.filter λg=>g.2.handleName?.isNone)[C0]?=h (lo,.iface aQ xS))(ax:(s.laid.filter λg=>g.2.handleName?.isSome)[CY]?=h (S,y))(U:[aN,lo,S].map N.prog.globalNamed=[h ol,h gP,h hl])(aa:[ol,gP].map (λW=>(N.prog.globals[W]?).map (·.type))=[h iy,h iy])(aT:N.prog.underlying iy=h (.interface aR))(D:[ol,gP,hl].map (λW=>(decide (W<N.prog.globals.size),((begin N.prog (λ_ _=>0) default).world.heap[W]?).bind Obj.row?))=[(f,h (#[.nilIface],iy)),(f,h (#[.nilIface],iy)),(f,h (#[.nilIface],r6))])(ad:y.funcsIn?=n)(ae:y.handleName?=h aW)(ag:(N.prog.cutTypes.find? (·.1== "internal/reflectlite.rtype")).map (·.2)=h r5)(a:((aC N.prog.types.size).filter λC=>N.prog.rowNamed C aW)=[iy])(a7:[ol,gP,hl].Nodup):
  ReturnsInLeavingWide {} N os I .any (λe args=>(b.pre gQ N.prog fn s.domain l e args/\laidMetH N.prog s.laid e)/\sizedMet gQ N.prog fn (OpenSpec.ofChange b) l e args) (b.post gQ N.prog fn l f l l):=by
 refine abR (r:=λe _=>laidMetH N.prog s.laid e) (λ_ _ _ aD u=>u.of_heap aD) ak a' L wi λV base args o K J t M p A=>?_;have a4:=M;obtain⟨a0,a1,aU,ab,rfl,_,_⟩:=M;simp only[mi,List.map_nil,List.cons.injEq,a9,lG,bA]at U aa D;obtain⟨x,a2⟩:=J2 A p (b9 az) U.1 aa.1 aT D.1.1 D.1.2;obtain⟨w,z⟩:=J2 A p (b9 aA) U.2.1 aa.2 aT D.2.1.1 D.2.1.2;have P:∀g∈([(ol,iy,.iface x.1 x.2),(gP,iy,.iface w.1 w.2),(hl,r6,.iface r5 (.agg #[typeHandle N.prog iy]))]:m uj),V.heap[g.1]?=h (.cells #[g.2.2] g.2.1 (0,0)):=by simp only[List.forall_mem_cons];exact⟨a2,z,Z9 A p (b9 ax) ad ae U.2.2 ag a D.2.2.1 D.2.2.2,by simp⟩
 have a3:∀g∈([(ol,iy,.iface x.1 x.2),(gP,iy,.iface w.1 w.2),(hl,r6,.iface r5 (.agg #[typeHandle N.prog iy]))]:m uj),∃a6 T,g.2.2=.iface a6 T:=E;simp only[aV]at aU t;obtain⟨Q,k1,aL,aM,aO⟩:=LF P a3 R aH aJ an ao aq aU λa_ aS aF u=>t a_ C aS (by simp[aF]) wE;refine bk.i_ (ai x w Q k1.1 aL).tocD aE a7 P aM λ_ aS B q d F=>?_;have q:Rd B.u aS (.bool f):=q;cases q;have O:Below V.heap.size V (B.a.at F):=⟨d.os,d.tape,d.output,d.size,d.block⟩;obtain⟨aX,aZ,a8⟩:=aI;obtain⟨j,i,rfl⟩:∃j i,K=[j,i]:=by
  rw[a8]at ab
  match K,ab with
  |[j,i],_=>exact⟨j,i,rfl⟩
 have G:=a5 o j i k1.2;have ar:=aO _ O;have aw:DataW.TrodAll gQ N.prog (B.a.at F) V.heap.size (λ_=>l) l [X] [.bool f] [.lit (.bool f)] []:=trodAll_mk1 (shut_bool aB _);refine⟨o,[j,i],a0++a1,[],a0,a1,a4,?_,?_,?_,O.frame _,λu=>by cases u⟩
 .rw[show(b.fn H (o++[j,i])).results=_ from eK _ G,aG];exact aw
 .rw[show(b.fn H (o++[j,i])).args=_ from eK _ G,aV];exact ar
 rw[show(b.fn H (o++[j,i])).vars=_ from eK _ G];exact Below.trodVars R O aK ab
end
namespace R1
section
variable {r:aj V}
def k_(a:bE):m bE:=if fD a then cy a else[]
def M6(b:bE)(d:Nat)(a:m bE):Prop:=∃e,jT b (c b) 0=a++jT b e d/\c b<=d+e/\c a<=d
def MM:bM r 80 (df eB (λa=>bh (fD a)) λ_=>[]):=.ba λa _=>I6 a
def GR:bL:=λargs a=>match args,a with
 |[.n (.aq (.c (.V b)))],[]=>h (ax (GQ b),[],[])
 |_,_=>n
def adw:bM r 245 GR:=by intro args i b d a e g;unfold GR at e;grind[Uc]
def T'(q):Y r 199 [b2 q] [] (bR.S (k_ q)) []:=by
 refine(bk.e5 (ι:=Unit) (ao:=λ_=>[]) (res:=λ_=>bR.S (k_ q)) func199 rfl rfl rfl λO=>?_).toY;have p:a8 r [(80,df eB (λK=>bh (fD K)) λ_=>[])]:=.cons MM .nil;refine db.seq (b0.bA (g.aW ?_));refine b_ p a v (db.seq (b0.bA (g.aW ?_)));cases I:fD q with
 |false=>
  refine a_ p [(8,f)] a sh (g.ret ⟨(),bW.zero a ?_⟩);simp[k_,I]
 |true=>
  have z:=I;simp[fD,cE,bA]at z;refine a_ p [(8,l)] a sh (db.seq (b0.bA (g.aW ?_)));refine b_ p a v (db.seq (db.seq (b0.bA (g.aW (g.cl 1 0 9 1 (bR.fn []) a a ?_)))));refine b_ (.cons adw .nil) a v (db.block ?_);refine db.rangeFunc (o':=e2 [.O [.V q]]) (bY.callee a) (Ud (ad:=m bE) q z.2 y (λ_=>.cells 9 [.c (.V q)]) (λb=>.cells 116 [.r 2 1 (c b) (bR.fn b)]) (λb=>.r 9 1 (c b) (bR.fn b)) (M6 q) [] ?_ (λq=>⟨by simp,by simp,by simp⟩) ?_) (λk=>⟨a,by simp⟩) λk=>⟨.normal,a,?_⟩
  .exact⟨c q,by simp,by omega,by simp⟩
  .rintro d b t j;have A:=sS q d t;refine iC.intro (w:=n) a a a a (g.aW ?_);refine aZ a v ⟨a,a,g.aW ?_⟩;refine aZ a ?_ ?_
   .obtain⟨i,_,_,C⟩:=j;have M:=A.1;have u:=A.2.1;refine⟨a,a,?_,Int.natCast_nonneg _,Int.ofNat_le.2 (Nat.le_of_lt M),Int.ofNat_le.2 u⟩;show(c b+1)*16<=_;omega
   have F:M6 q (eC q d) (b++[(q.drop d).take (eC q d-d)]):=by
    obtain⟨i,o,J,C⟩:=j;obtain⟨e,rfl⟩:∃e,i=e+1:=⟨i-1,by omega⟩
    refine⟨e,?_,by omega,by grind⟩;rw[o];simp[jT];grind
   refine⟨a,a,⟨_,F⟩,jP a ?_⟩;have s:mr q (h (d:Int)) (h (eC q d:Int))=(q.drop d).take (eC q d-d):=NR;have B:bt (c b+1) (ce (c b) (bR.fn b) λk=>[[N.V (mr q (h (d:Int)) (h (eC q d:Int)))]].getD k []) (bR.fn (b++[(q.drop d).take (eC q d-d)])):=by rw[s];exact cZ.a0 bR b _
   have x:c b+1=c (b++[(q.drop d).take (eC q d-d)]):=E;refine U.Y.2 ⟨by simp,U.Y.2 ⟨U.Y.2 ⟨⟨x,B⟩,v⟩,U.Y.2 ⟨⟨x,B⟩,U.Y.2 ⟨a,v⟩⟩⟩⟩
  obtain⟨b,i,o,J,C⟩:=k;have D:jT q i (c q)=[]:=by cases i<;>simp[jT]
  rw[D,h1]at o;have s:k_ q=b:=by simp[k_,I,dH,cy,o]
  rw[s];show db r _ _ _ _ _;refine b0.bA (g.aW ?_);refine aZ a v (g.ret ⟨(),bW.zero a ?_⟩);simp
def Eo:bM r 199 (df eB (λa=>bR.S (k_ a)) λ_=>[]):=.ba λa _=>T' a
def adI:bM r 237 (en (e0 bR) eB (λa _=>b2 a.flatten) λa d=>[d=[],c a.flatten<=140737488355328]):=.bm λa d b=>by obtain⟨rfl,b⟩:=b;exact Vj a b
def xu:bL:=en (e0 bR) (e0 bR) (λa b=>bh (a==b)) λ_ _=>[]
def ady:bM r 238 xu:=.bm λa b _=>Up a b
def Ub(d)(u:c d.flatten<=140737488355328):Y r 192 [bR.S d] [] (iL (jK d)) []:=by
 refine Y.K func192 rfl λi=>?_;have e:a8 r [(237,en (e0 bR) eB (λd _=>b2 d.flatten) λd b=>[b=[],c d.flatten<=140737488355328]),(80,df eB (λb=>bh (fD b)) λ_=>[]),(238,xu),(199,df eB (λb=>bR.S (k_ b)) λ_=>[])]:=.cons adI (.cons MM (.cons ady (.cons Eo .nil)));have B6:bR.af (c d) (bR.fn d)=d:=bR.E d;cases x:fD d.flatten with
 |false=>
  refine a_ e [(8,l),(9,f),(16,f)] a ?_ (g.aw a ?_)
  .simp only[U,B6,x,bR.U,eq_self,ba,a9];grind
  simp[jK,x]
 |true=>
  cases j:(cy d.flatten==d)with
  |false=>
   refine a_ e [(8,f),(9,l),(14,l),(16,f)] a Oq (g.aw a ?_);simp[jK,j]
  |true=>
   refine a_ e [(8,f),(9,l),(14,f),(16,l)] a Oq (g.aw a ?_);simp[jK,x,j,B6]
def Ju{a:m (Int×Int)}(b:e<c a):a.getD e (0,0)∈a:=M
def iW(b:m (Int×Int)):dG:=b.foldl (λd a=>d.put a.1 a.2) .nil
theorem aen(b:m (Int×Int))(a:Int×Int):iW (b++[a])=(iW b).put a.1 a.2:=by unfold iW;grind
def zp{d:m (Int×Int)}(a:w<c d):iW (d.take (w+1))=(iW (d.take w)).put (d.getD w (0,0)).1 (d.getD w (0,0)).2:=by grind[List.take_add_one,aen]
abbrev qH(a:m (Int×Int)):z:=ax (.S l 1 1 λb=>([[.S l 2 (c a) (a1.fn a)]]:m (m N)).getD b [])
abbrev Ea(a:Int×Int):an:=.cells 225 [.c (.int .i64 a.1),.c (.int .i64 a.2)]
def Jr(a:m (Int×Int)):Nat->bH
 |0=>[(3,ax .bk),(8,qH a),(9,S 1),(10,S 0),(14,a1.S a),(15,S (c a)),(16,S 0)]
 |b+1=>[(3,.n (.aq (.aR 1))),(8,qH a),(9,S 1),(10,S 0),(14,a1.S a),(15,S (c a)),(16,S (b+1:Nat))]
def acI(a:m (Int×Int)):Nat->m an
 |0=>[]
 |b+1=>[Ea (a.getD 0 (0,0)),.J (eu mH (iW (a.take (b+1))))]
def Yg(a:m (Int×Int)):Nat->bH
 |0=>[(3,ax .bk),(8,qH a),(9,S 1),(10,S 0)]
 |b+1=>match a with
  |[]=>[(3,ax .bk),(8,qH a),(9,S 1),(10,S (b+1:Nat))]
  |_::_=>[(3,.n (.aq (.aR 1))),(8,qH a),(9,S 1),(10,S (b+1:Nat))]
def acJ(b:m (Int×Int)):Nat->m an
 |0=>[]
 |_+1=>match b with
  |[]=>[]
  |a::d=>[Ea a,.J (eu mH (iW (a::d)))]
def I7(d:m (Int×Int))(K:c d<=4000000)(C:∀b∈d,a7 .i64 b.1/\a7 .i64 b.2):Y r 198 [qH d] [] (ax (eH (iW d))) []:=by
 refine Y.K func198 rfl λI=>?_;refine aZ a v (g.hs 0 (λb=>b<=1) (Yg d) (acJ d) (λb=>1-b) 0 a E a v a y ?_);intro b o;rcases b with _|b
 .refine a6 [(11,f)] a E (g.hs 0 (λw=>w<=c d) (Jr d) (acI d) (λw=>c d-w) 0 a E a v a y ?_);intro w J;rcases w with _|w
  .by_cases k:0<c d
   .have o:=C _ (Ju k);have i:=zp k;have j:a8 r [(244,k6 [ax .bk,pc (d.getD 0 (0,0)).1 (d.getD 0 (0,0)).2] [] (.n (.aq (.aR 0))) [.J (eu mH (.ax .nil (d.getD 0 (0,0)).1 (d.getD 0 (0,0)).2 .nil))])]:=.cons (l7 (x7 _ _ o.1 o.2 .nil)) .nil;refine bf j [(17,f)] a Ph (g.ft 2 1 y a E a a a ?_ a k M);exact bK
   obtain rfl:d=[]:=jA y;refine bQ [(17,l)] a E (g.fG a a ?_);refine cu a ly (g.ft 0 1 y a ?_ a a a v a y ca);simp
  obtain⟨e,q,t,s,i⟩:∃x z A B,iW (d.take (w+1))=.ax x z A B:=by rw[zp y];exact yY _ _ _
  show g r _ _ _ _ (Jr d (w+1)) [Ea (d.getD 0 (0,0)),.J (eu mH (iW (d.take (w+1))))];by_cases k:w+1<c d
  .have o:=C _ (Ju k);have D:=zp k;rw[i]at D⊢;have j:a8 r [(244,k6 [.n (.aq (.aR 0)),pc (d.getD (w+1) (0,0)).1 (d.getD (w+1) (0,0)).2] [.J (eu mH (.ax e q t s))] (.n (.aq (.aR 0))) [.J (eu mH ((dG.ax e q t s).put (d.getD (w+1) (0,0)).1 (d.getD (w+1) (0,0)).2))])]:=.cons (l7 (x7 _ _ o.1 o.2 (.ax e q t s))) .nil;refine bf j [(17,f)] a Ph (g.ft 2 (w+2) y a E a a a ?_ a k M);simp only[U.Y,U,ba,a9];rw[D]
  have p:w+1=c d:=y;rw[p,c9]at i
  match d,p,i with
  |b::u,p,i=>
   rw[p,c9,i];refine bQ [(17,l)] a E (g.fG a a ?_);refine cu a ly (g.ft 2 1 y a E a a a ?_ a y ca);exact bK
 cases d with
 |nil=>
  refine bQ [(11,l)] a bw (g.fG a a ?_);exact cu a v (g.aw a nP)
 |cons F u=>
  refine bQ [(11,l)] a bw (g.fG a a ?_);refine cu a v (g.gj 2 1 a a ?_);obtain⟨e,q,t,s,i⟩:∃x z A B,iW (F::u)=.ax x z A B:=by have:=zp (d:=F::u) (w:=c u) E;rw[FY E]at this;rw[this];exact yY _ _ _
  rw[i];exact g.aw a
end
section
open Go.Proofs Go.Conc Go.Conc.Lib
open Go.ConcN (WgLive PayAt Has RW AtR0)
open Go.ConcR (KK WgAt stA smA rd wr mk Payload DC0)
noncomputable def Ss:Code:=nm (gT (gT (gT rx)))
noncomputable def Hh:Code:=nm Ss
noncomputable def Bc:Code:=gT (gT (gT rx))
def Sp:Bc=.seq (.seq Hh (.block 0 (.loop hs))) lK:=bJ
section
variable {dO:m an}{cF:a5}{F:bH}{p:m an}{x:Act}{b:a5}{bq:ak->a5->Prop}
def dX.goes{bo}{d:ak}:∀(o:Nat)(a:ak)b,dX dO cF F p x b->WgLive 294 bo b.a->Goes V f (fy 294 bo) DC0 (λa _=>a=d) o a b.a ->
  (∀g,dX dO cF F p x g->cb (aj.aJ V) bq d g)->cb (aj.aJ V) bq a b
 |0,a,b,s,_,i,q=>by obtain rfl:a=d:=i b.a (.refl _);grind
 |o+1,a,b,s,v,i,q=>by
  rcases i with i|⟨w,i⟩
  .obtain rfl:a=d:=i b.a (.refl _);grind
  refine .next w λg r=>?_;have k:=s.rely r.1;obtain⟨A,B⟩:=r.2;have t:WgLive 294 bo g.a:=bK;have e:=i g.a (λ_=>t);cases m:aq V f a g.a with
  |go j z u=>
   rw[m,goes_go]at e;obtain⟨⟨rfl,rfl⟩,y⟩:=e;exact⟨j,g,#[],m,.aZ k.a',dX.goes o j g k t y q⟩
  |_=>rw[m]at e;exact e.elim
def RT{p}{b}(g:∀e∈p,e=.x){bg}{a}(d:i1 p b bg a):bg=[]:=by
 cases bg with
 |nil=>rfl
 |cons i bg=>
  cases a with
  |nil=>exact d.elim
  |cons j a=>
   have:=g _ (b9 d.1.1);cases this
end
section
variable {i:Int}{ab:m b'}{bu:m Int}{N:Nat}{ag:m Z}
variable (i ab bu N)in
def yT:bH:=[(2,aA.S bu),(3,aG 0 0),(4,aG 1 0),(8,aG 3 0),(9,aG 4 0)]
variable (i ab bu N ag)in
def pF:m an:=[.cells 3 [.c (.int .i64 i)],.cells 23 [.c (.S l 2 (c ab) (a2.fn ab))],.J (ck 296 2 (.row N (c bu)) (c bu) ag),.cells 286 [.c (.val (.slice (h ⟨N,0,n⟩) (c bu) (c bu)))],.cells 294 [.c (.int .u64 0),.c (.int .u32 0)]]
variable (i ab bu)in
def EF(a b:Nat):Z:=if b=0 then .string ⟨((dM i ab (bu.getD a 0)).getD []).toArray⟩else .bool (dM i ab (bu.getD a 0)).isSome
variable (i ab bu)in
def nf:m Z:=bu.flatMap λa=>[.string ⟨((dM i ab a).getD []).toArray⟩,.bool (dM i ab a).isSome]
variable (i ab bu N)in
def rY:m an:=[.x,.x,.J (ck 296 2 (.row N (c bu)) (c bu) (nf i ab bu)),.x,.x]
def aa3{b:aj V}:b0 b 45 Hh (um ((18,aA.S bu)::(19,S (c bu))::(20,S 0)::yT bu) (pF i ab bu N ag)) (yT bu) (pF i ab bu N ag):=by refine g.aW ?_;refine aZ a v ⟨a,eD a ?_,a⟩;simp
theorem Jl:c (nf i ab bu)=c bu*2:=by
 unfold nf;induction bu with
 |nil=>rfl
 |cons b d a=>grind
def CI:∀{bu:m Int}{o e:Nat},o<c bu->e<2->(nf i ab bu)[2*o+e]?=h (EF i ab bu o e)
 |[],o,e,g,_=>by grind
 |b::d,0,e,_,a=>by
  match e,a with
  |0,_=>rfl
  |1,_=>rfl
 |b::d,o+1,e,g,a=>by have:=CI (bu:=d) (o:=o) (e:=e) M a;unfold nf at this⊢;rw[sw,hq M];rw[show 2*(o+1)+e - [Value.string ⟨((dM i ab b).getD []).toArray⟩,Value.bool (dM i ab b).isSome].length=2*o+e by grind];exact bK
def _root_.Go.AM.bY.seen{D j}{d}{p}{b}{F}{x}(a:bY D p b F x)(i:bx p b (x.tmps.getD j K) d):bY D p b ((j,d)::F) x:=by
 refine⟨a.size,a.defers,λe=>?_⟩;simp only[look];cases g:af j e with
 |false=>exact a.aH e
 |true=>grind[Nat.eq_of_beq_eq_true]
abbrev vF(a b:Nat):bH:=[(8,ax (.O [.val (.slice (h ⟨b,0,n⟩) a a)]))]
variable (i ab bu N)in
abbrev K5:bH:=(8,ax (.O [.val (.slice (h ⟨N,0,n⟩) (c bu) (c bu))]))::(4,ax (.O [.S l 2 (c ab) (a2.fn ab)]))::(3,ax (.O [.int .i64 i]))::(18,aA.S bu)::(19,S (c bu))::(20,S 0)::[(9,aG 4 0)]
def Yd(bo:bM (aj.c6 V) 235 (nc i)){aN:fs}(cl:c bu<=4000000)(ar:db (aj.aJ V) 45 n9 aN (vF (c bu) N) (rY i ab bu N)):db (aj.aJ V) 45 Bc aN (yT bu) (pF i ab bu N ag):=by
 intro Y b4 cf bq bP aw ah cP aM X cc;have j:dX (pF i ab bu N ag) Y (yT bu) (pF i ab bu N ag) b4 Y:=⟨cf,bq,.refl _ _⟩;refine j.ctl a (λbR=>y' Sp) λb j=>?_
 refine j.ctl a (λbR=>pE) λb j=>?_;refine j.code aM aa3 λa6 b j=>?_;obtain⟨bK,w1,a',a0,Z⟩:=bY.freeze 3 0 (W:=3) (ah:=[.c (.int .i64 i)]) (gC:=[.int .i64 i]) rfl rfl rfl j.bW j.a';refine .aU (.of j.a' a0 w1 (Z.too1 j.a')) ?_;obtain⟨bL,w2,ba,O,aa⟩:=bY.freeze 4 1 (W:=23) (ah:=[.c (.S l 2 (c ab) (a2.fn ab))]) (gC:=[.S l 2 (c ab) (a2.fn ab)]) rfl rfl rfl a' a0;refine .aU (.of a0 O w2 (aa.too1 a0)) ?_;obtain⟨cv,w3,bc,S,ae⟩:=bY.freeze 8 3 (W:=286) (ah:=[.c (.val (.slice (h ⟨N,0,n⟩) (c bu) (c bu)))]) (gC:=[.val (.slice (h ⟨N,0,n⟩) (c bu) (c bu))]) rfl rfl rfl ba O;refine .aU (.of O S w3 (ae.too1 O)) ?_;have j:dX (pF i ab bu N ag) Y (K5 i ab bu N)
   [.x,.x,.J (ck 296 2 (.row N (c bu)) (c bu) ag),.x,.cells 294 [.c (.int .u64 0),.c (.int .u32 0)]] a6 cv:=
  ⟨bc.le (eD a E),S,j.bz.trans ((Z.too1 j.a').trans ((aa.too1 a0).trans (ae.too1 O)))⟩
 clear Z aa ae a' ba bc a0 O S;refine j.ctl a (λbR=>y7) λb j=>?_;refine j.ctl a (λbR=>L2) λb j=>?_;have aQ:=j.a'.len;simp[fl,gA]at aQ;obtain⟨z,aX⟩:∃L,b.l[2]?=h L:=⟨_,bI y⟩
 obtain⟨aA,a3⟩:∃L,b.l[4]?=h L:=⟨_,bI y⟩
 obtain⟨cS,bg,an,bl,cE⟩:=j.a'.box 2 _ z rfl aX;obtain⟨cx,cL,aP,cd⟩:=ck.lookup bg;obtain⟨aD,_,cK,_,_,_⟩:=bg;have P:=(bl N).2 M;have av:=an N _ aP;obtain⟨p,B,cb,cA,bE,cG⟩:=j.a'.box 4 _ aA rfl a3;have aS:B=[.int .u64 0,.int .u32 0]:=by
  match B,bE with
  |[],aF=>exact aF.elim
  |[_],aF=>exact aF.2.elim
  |_::_::_::_,aF=>exact aF.2.2.elim
  |[c1,aZ],aF=>
   have r0:=aF.1;have x:=aF.2.1;cases r0;cases x;rfl
 subst aS;have bB:N≠p:=M;have bD:a6.tmps.getD 9 K=.pointer (h ⟨p,0,n⟩):=by obtain⟨_,L,dU,aU,aV,cZ⟩:=j.bW.aH 9;grind
 obtain⟨bd,cw⟩:=j.a'.gO (d:=2) rfl aX (.inr ⟨_,rfl⟩);have aK:(b.l.set 2 ⟨z.v,[]⟩)[4]?=h aA:=M;obtain⟨bf,t2⟩:=bd.gO (d:=4) (bX:=.cells 294 [.c (.int .u64 0),.c (.int .u32 0)]) rfl aK (.inl ⟨_,_,rfl⟩);generalize cJ:({b with l:=(b.l.set 2 ⟨z.v,[]⟩).set 4 ⟨aA.v,[]⟩}:a5)=jU at bf t2;have cC:jU.l=(b.l.set 2 ⟨z.v,[]⟩).set 4 ⟨aA.v,[]⟩:=M;have aG:jU.u=b.u:=M;have F:jU.a=b.a:=M;have aH:jU.own=b.own:=M;have aB:=bf;have oM:=(cw.too1 j.a').trans (t2.too1 bd);have aT:jU.l[2]?=h ⟨z.v,[]⟩:=M;have bQ:∀L∈jU.l,∀o∈L.al,∃d,d≠2/\d≠4/\b.l[d]?=h L:=by grind[List.mem_iff_getElem?]
 have cN:=j.a'.lt z (b9 aX) N P;have cO:=j.a'.lt aA (b9 a3) p M;have b2:nR N jU:=⟨by rw[aH];exactλU=>(j.a'.own N U).2 z (b9 aX) P,λL g m=>by obtain⟨d,bH,bJ,T⟩:=bQ L g N m;exact bH (j.a'.a3 d 2 L z T aX N m P),λs=>by rw[aG];grind,by grind⟩
 have H:nR p jU:=⟨by rw[aH];exactλU=>(j.a'.own p U).2 aA (b9 a3) M,λL g m=>by obtain⟨d,bH,bJ,T⟩:=bQ L g p m;exact bJ (j.a'.a3 d 4 L aA T a3 p m M),λs=>by rw[aG];grind,by grind⟩
 have cT:bY 45 e4 jU (ia i ab bu N p 0) a6:=by have r:=j.bW.mono oM j.a'.len;have cr:bY 45 e4 jU ((9,cM (.pointer (h ⟨p,0,n⟩)))::K5 i ab bu N) a6:=r.seen (by rw[bD];exact Rd.val a);exact cr.le (eD a E)
 have cR:(ag++cx).toArray.size=2*c bu:=M;have aO:∀o,(b.own o∨∃L∈b.l,o∈L.al)->o<b.a.heap.size:=λo m=>m.elim (λr=>(j.a'.own o r).1) λ⟨L,g,r⟩=>j.a'.lt L g o r;refine .de (ad:=λai az=>∃t A,dX (pF i ab bu N ag) Y (vF (c bu) N) (rY i ab bu N) t az/\WgLive 294 p az.a/\Goes V f (fy 294 p) DC0 (λcD _=>cD=G (bP.M (t.put (h 28) (.tuple #[])) (.inRegion oE []::.code n9::aw)) ah) A ai az.a)
  (kX.gi (k:=c bu) (ty:=294) (val:=EF i ab bu) (D:=2*c bu) (cF:=jU) 2 y p N y bB (.of j.a' aB F oM) a ⟨z,b9 aX,P⟩ ⟨aA,b9 a3,by grind⟩ aO ?_ cA ⟨_,av,cR⟩ ?_) ?_
 .rintro o (rfl|rfl)
  .exact⟨b2.own,b2.l,b2.u⟩
  exact⟨H.own,H.l,H.u⟩
 .intro q bj bh bk;subst bj bh;refine⟨FW i ab bu q e4 jU bP aw ah,wG i ab bu q e4 jU bP aw ah,λcD b m=>RZ H X m,?_,?_⟩
  .refine acD bo bk H X aM ca cl (λe cg=>rfl) (λe cg=>rfl) (c bu) (bC _) a6 jU ⟨by grind,aB,.refl _ _⟩ ⟨_,_,by rw[F];exact cA⟩
  .rintro ai az ⟨t,⟨w,ao⟩,A,R⟩ bA aq Q cj ak;obtain⟨cU,cV,cW⟩:=ak q.aj (.inl rfl);obtain⟨a7,au,cm⟩:=aq;have bn:a7=(nf i ab bu).toArray:=by
    apply Array.ext_getElem?;intro s;have a_:(nf i ab bu).toArray[s]?=(nf i ab bu)[s]?:=E;rw[a_];rcases dY s (2*c bu)with U|U
    .have aU:=Q (s / 2) y (s % 2) y;have aV:=CI (i:=i) (ab:=ab) (bu:=bu) (o:=s / 2) (e:=s % 2) y y;rw[show 2*(s / 2)+s % 2=s by omega]at aU aV;rw[aV];simpa[aL,au]using aU
    grind[Jl]
   subst bn;have bs:=w.a'.len;obtain⟨cy,ax,cp,cY,cq⟩:=w.bz.box 2 .x ⟨z.v,[]⟩ rfl aT;have cn:ax.v=.nilFunc:=by cases cp;exact(show ax.v=z.v from cq).trans aD
   have cz:∀(d:Nat) bX,e4[d]?=h bX->bX=.x:=by
    intro d bX aE
    match d,aE with
    |0,aE|1,aE|2,aE|3,aE|4,aE=>cases aE;rfl
   have cB:∀d,(az.l.set 2 ⟨.nilFunc,[q.aj]⟩)[d]?=if d=2 then h ⟨.nilFunc,[q.aj]⟩else az.l[d]?:=M;have bS:∀L∈az.l.set 2 ⟨.nilFunc,[q.aj]⟩,L=⟨.nilFunc,[q.aj]⟩∨L∈az.l:=λL g=>by grind
   have bp:bb (rY i ab bu q.aj) {az with l:=az.l.set 2 ⟨.nilFunc,[q.aj]⟩}:=by
    refine⟨w.a'.mem,by simp[bs,rY],?_,?_,?_,λo m=>⟨(w.a'.own o m).1,λL g a4=>?_⟩⟩
    .intro d bX L aE g;rw[cB]at g;by_cases u:d=2
     .subst u;rw[br a]at g;cases g;cases aE;refine⟨λC=>if C=q.aj then h (.cells (nf i ab bu++[]).toArray 296 (0,0))else n,⟨a,?_,Jl,bC _,by omega,[],by grind,a⟩,λC cX J=>?_,λC=>?_,λC J s=>?_⟩
      .intro o m;simp only[nf,List.mem_flatMap]at m;obtain⟨_,_,m⟩:=m;simp only[fo,sz,or_false]at m;rcases m with rfl|rfl<;>rfl
      .by_cases u:C=q.aj
       .subst u;simp only[dH]at J;cases J;exact bw
       grind
      .by_cases u:C=q.aj<;>simp[u]
      grind
     .match d,aE,u with
      |0,aE,_|1,aE,_|3,aE,_|4,aE,_=>cases aE;trivial
      |2,_,u=>grind
    .intro d bG L bV g I o m bF;rw[cB]at g I;by_cases u:d=2
     .grind
     rw[bm u]at g;by_cases b5:bG=2
     .grind
     rw[bm b5]at I;exact w.a'.a3 d bG L bV g I o m bF
    .intro L g o m;rcases bS L g with rfl|g
     .grind
     exact w.a'.lt L g o m
    rcases bS L g with rfl|g
    .grind
    exact(w.a'.own o m).2 L g a4
   have aR:dc [.x,.x,.J (ck 296 2 (.row q.aj (c bu)) (c bu) ag),.x,.cells 294 [.c (.int .u64 0),.c (.int .u32 0)]] b (rY i ab bu q.aj) {az with l:=az.l.set 2 ⟨.nilFunc,[q.aj]⟩}:=by
    have r:=w.bz;refine⟨by have:=r.size;grind,λo m=>by have:=r.a6 o M;grind,λo s c6 m=>r.mem o s c6 M,λo m cI s=>?_,λL g o m=>?_,?_,by rw[r.os,F],by rw[r.tape,F],by rw[r.output,F],by rw[r.own,aH]⟩
    .rw[r.bE o M (λL g a4=>by
      obtain⟨d,_,_,T⟩:=bQ L g o a4
      grind) s,aG]
    .rcases bS L g with rfl|g
     .grind
     rcases r.bT L g o m with x|⟨bW,x,aW⟩
     .grind
     obtain⟨d,_,_,T⟩:=bQ bW x o aW;grind
    intro d bX L aE g;obtain⟨a1,bZ,x,aW,cu⟩:=oM.box d bX L aE g;obtain⟨bT,b0,aZ,c5,nH⟩:=r.box d a1 bZ x aW;have a8:=cz d a1 x;have a9:=cz d bT aZ;subst a8 a9;by_cases u:d=2
    .subst u;cases aE;rw[aX]at g;cases g;exact⟨_,⟨.nilFunc,[q.aj]⟩,a,by grind,aD.symm⟩
    refine⟨.x,b0,?_,by grind,cu.trans nH⟩
    match d,aZ,u with
    |0,_,_|1,_,_|3,_,_|4,_,_=>rfl
    |2,_,u=>grind
   refine⟨{az with l:=az.l.set 2 ⟨.nilFunc,[q.aj]⟩},⟨t,A,⟨⟨w.bW.size,⟨[],?_⟩,λc0=>?_⟩,bp,j.bz.trans aR⟩,ao,R⟩,rfl,bA,λcQ bO cH=>⟨bO.own,λo m L g a4=>?_,bO.u,bO.lt⟩⟩
   .obtain⟨nB,bz⟩:=w.bW.defers;rw[RT (λbX aE=>by grind) bz];trivial
   .have b7:bY 45 e4 az (vF (c bu) q.aj) t:=w.bW.le (eD a E);exact bx.eX (b:=az) (az:={az with l:=az.l.set 2 ⟨.nilFunc,[q.aj]⟩}) rfl (b7.aH c0) (vi rfl)
   rcases bS L g with rfl|g
   .grind
   exact bO.l o m L g a4
 rintro ai az ⟨t,A,b',bt,R⟩;refine dX.goes A ai az b' bt R λbK aI=>?_;have b_:dX (pF i ab bu N ag) Y ((28,.any)::vF (c bu) N) (rY i ab bu N) (t.put (h 28) (.tuple #[])) bK:=⟨aI.bW.put ca v,aI.a',aI.bz⟩
 refine b_.ctl a (λbR=>vV) λbL aJ=>?_;refine ar bL _ (aJ.bW.le (eD a E)) aJ.a' bP aw ah cP aM X λu bU b1 az b3 r b6 b8 bN=>cc u bU b1 az b3 r b6 b8 (aJ.bz.trans bN)
end
end
abbrev Ep(a:m bE)(b:Bool):z:=.Q [.aq (.c (.S l 1 (c a) (bR.fn a))),.aq (.c (.bool b))]
def h5(e:Int)(b:m b')(a:m Int):Option (m bE):=if a.all (λd=>(dM e b d).isSome)then h (a.map λd=>(dM e b d).getD [])else n
noncomputable def Sv:Code:=nm rx
noncomputable def Sw:Code:=nm (gT rx)
noncomputable def Sx:Code:=nm (gT (gT rx))
def Sr:f191.body=h (.seq Sv (.seq Sw (.seq Sx Bc))):=bJ
def sY(e:Int)(b:m b')(a:m Int)(d:Nat):m AM.N:=[.V ((dM e b (a.getD d 0)).getD []),.bool (dM e b (a.getD d 0)).isSome]
def mJ(d:Int)(b:m b')(a:m Int):m bE:=a.map λe=>(dM d b e).getD []
theorem aa8{j b}(a:h' j=h b):c b<=8:=by
 unfold h' at a;split at a
 .rename_i d;cases a;simp only[cE,cC,bA]at d;omega
 grind
theorem SD{o}{a}(b:jJ i o=h a):c a<=8:=by unfold jJ at b;grind[aa8]
theorem Je{ab}{k}:c ((dM i ab k).getD [])<=8:=by
 cases b:dM i ab k with
 |none=>simp
 |some d=>
  obtain⟨e,_,a⟩:=List.exists_of_findSome?_eq_some b;unfold gp at a;grind[SD]
theorem Tn{ab}{b}(g:e<c b){s}{o}(d:(sY i ab b e)[w]?=h s)(m:(nf i ab b)[e*2+w]?=h o):Rd bB o s:=by
 have j:w<2:=(cO.1 d).1;have:=CI (i:=i) (ab:=ab) g j;rw[Nat.mul_comm,this]at m;cases m
 match w,j with
 |0,_=>
  cases d;have:=Je (i:=i) (ab:=ab) (k:=b.getD e 0);exact .V a y
 |1,_=>cases d;exact .bool
def _root_.Go.AM.db.le{P:aI}{d:aj P}{D}{aN}{F dE}{p}{s}(i:db d D s aN dE p)(b:iA F dE):db d D s aN F p:=λj e g a=>i j e (g.le b) a
def Ur(x:bM (aj.c6 V) 235 (nc i))(ab)(b)(B:c b<=4000000):
  Y (aj.aJ V) 191 [S i,a2.S ab,aA.S b] [] (Ep ((h5 i ab b).getD []) (h5 i ab b).isSome) []:=by
 refine bk.toY (bk.e5 (ι:=Unit) func191 rfl Sr rfl λK=>?_);show db _ 45 _ _ _ _;refine db.seq (b0.bA (g.aW ?_));refine aZ a v ?_;show db _ 45 _ _ _ _;refine db.seq (b0.bA (g.aW ?_));refine aZ a v (g.ju (W:=296) (k:=c b) bd a a a a a a zX y a a λN ag=>?_);refine aZ a v ?_;show db _ 45 _ _ _ _;refine db.seq (b0.bA (g.aW ?_));refine aZ a v ?_;show db _ 45 _ _ _ _;have r:db (aj.aJ V) 45 n9 (λu q e=>∃_:Unit,bW f191 0 (Ep ((h5 i ab b).getD []) (h5 i ab b).isSome) [] u q e) (vF (c b) N) (rY i ab b N):=by
  refine b0.bA (b0.mono (aN:=bW f191 0 (Ep ((h5 i ab b).getD []) (h5 i ab b).isSome) []) (g.aW ?_) λ_ _ _ A=>⟨(),A⟩);refine aZ a (show _<=_ by omega) (g.iB 29 2 (bO:=.row N (c b)) (k:=c b) (i:=2) (sY i ab b) a a (λd j=>⟨a,λC m D Q M O=>?_⟩) ?_)
  .grind [Tn]
  refine g.bK 12 9 1 a a ?_;refine g.aL 6 (λd=>d<=c b/\∀m,m<d->(dM i ab (b.getD m 0)).isSome=f) (λd:Nat=>[(29,ax (.S l 2 (c b) (sY i ab b))),(30,S (c b)),(31,S d),(12,.n (.aq (.r 5 1 (c (mJ i ab (b.take d))) (bR.fn (mJ i ab (b.take d))))))]) (λd=>[.x,.x,.x,.x,.x,.r 9 1 (c (mJ i ab (b.take d))) (bR.fn (mJ i ab (b.take d)))]) (λd=>c b-d) 0 a ?_ a ?_ a ⟨by omega,by omega⟩ ?_
  .simp[bt,mJ]
  .simp[bt,mJ]
  rintro d ⟨j,F⟩;by_cases o:d<c b
  .cases t:(dM i ab (b.getD d 0)).isSome with
   |true=>
    have I:mJ i ab (b.take (d+1))=mJ i ab (b.take d)++[(dM i ab (b.getD d 0)).getD []]:=by unfold mJ;grind[List.take_add_one]
    have J:c (mJ i ab (b.take d))<=4000000:=by simp[mJ];omega
    refine bQ [(32,f),(37,l)] a ?_ (g.aA (d+1) a ?_ ?_ ?_ ?_)
    .simp[-al,o,sY,t,a7];have:s_.bytes=16:=rfl;grind
    .exact O9
    .exact O9
    .grind
    omega
   |false=>
    refine bQ [(32,f),(37,f)] a ?_ (g.aX (bW.zero a ?_))
    .simp[-al,o,sY,t]
    have w:h5 i ab b=n:=NB;simp[w]
  have z:d=c b:=y;subst z;refine bQ [(32,l)] a E (g.aC ?_);refine cu a v (g.aw a ?_);have s:h5 i ab b=h (mJ i ab b):=by
   unfold h5;rw[br]
   .rfl
   grind[List.mem_iff_getElem]
  simp[s]
 exact db.le (p:=pF i ab b N ag) (Yd (ag:=ag) x B r) (eD a E)
end R1
end Go.AM
namespace Go.AM.R1
def rL(a)(b):iv (a::b)=if a=47 then 0 else if iv b=-1 then -1 else iv b+1:=by unfold iv;grind[Lib.indexByte.eq_def]
def C1:iv []=-1:=cQ
def abd(b):jS b=fK b:=by
 by_cases o:c b<=3
 .match b,o with
  |[],_=>exact cQ
  |[e],_=>
   by_cases a:e=47
   .exact ht
   simp[jS,fK,jN,jL,kh,rL,C1,a,ll,dk]
  |[e,g],_=>
   by_cases a:e=47
   .exact ht
   by_cases d:g=47
   .subst d;simp[jS,fK,jN,jL,mt,kh,rL,a]
   simp[jS,fK,jN,jL,kh,rL,C1,a,d]
  |[e,g,j],_=>
   by_cases a:e=47
   .subst a;simp[jS,fK,jN,jL,mt,kh,rL,ll,dk]
   by_cases d:g=47
   .subst d;simp[jS,fK,jN,jL,mt,kh,rL,a,ll,dk]
   have k:¬(g.toNat:Int)=47:=by intro m;apply d;apply uv.1;grind
   by_cases i:j=47
   .subst i;simp[jS,fK,jN,jL,mt,kh,rL,a,d,ll,dk]
   simp[jS,fK,jN,jL,kh,rL,C1,a,d,i,k,ll,dk]
  |_::_::_::_::_,m=>grind
 have p:fK b=l:=by unfold fK;grind
 grind[K1]
end Go.AM.R1
namespace Go.AM
theorem xk(a):aW a []=l:=FH
def AX(j)(d):aW [] (j::d)=f:=FH
theorem uK(a j)(o X):aW (a::o) (j::X)=(decide (a<j)||a==j&&aW o X):=FH
theorem xj:∀a:bE,aW a a=l
 |[]=>xk []
 |a::b=>by rw[uK,xj b];simp
def Gz:∀a b:bE,aW a b=f∨a=b∨aW b a=f
 |[],[]=>.inr (.inl rfl)
 |[],b::e=>.inl (AX b e)
 |a::d,[]=>.inr (.inr (AX a d))
 |a::d,b::e=>by
  rw[uK,uK];rcases Gz d e with g|g|g
  .grind
  .grind
  grind
theorem AY:∀{g i b:bE},aW g i=f->aW i b=f->aW g b=f
 |g,i,[],_,e=>by grind[xk]
 |g,[],b::j,d,_=>by grind[xk]
 |[],i::k,b::j,_,_=>AX b j
 |g::m,i::k,b::j,d,e=>by
  rw[uK,jB,cE,bA,hg]at d e⊢;rcases d with d|⟨rfl,d⟩
  .grind
  rcases e with e|⟨rfl,e⟩
  .grind
  exact .inr ⟨a,AY d e⟩
theorem Gy{a j}(b:aW a j=f):aW j a=l:=by grind[AY,xj]
def Sg{a j}:(!(aW j a||j==a))=aW a j:=by
 rcases Gz a j with b|b|b
 .have s:(j==a)=l:=by simp[eX,dZ];grind[xj]
  grind[Gy]
 .grind [xj]
 grind[Gy]
namespace R1
def LI{q}{e}(g:∀a,0<a->a<=e->aW (cm q (a-1)) (cm q a)=f):∀b,b<e->aW (cm q b) (cm q e)=f:=by
 intro b o;induction e with
 |zero=>omega
 |succ e j=>
  have d:=g (e+1) y (bC _);simp[p4]at d;by_cases m:b=e
  .grind
  exact AY (j (λa i k=>g a i y) y) d
def K2{b}(d:fK b=f):(∃a,b=[a])∨∃a e,b=[a,47,e]:=by
 unfold fK at d;split at d
 .rename_i g
  match b,g with
  |[a],_=>grind
 split at d
 .rename_i g
  match b,g with
  |[a,e,i],_=>
   right;simp[ll,dk]at d;have j:e=47:=by apply uv.1;grind
   grind
 grind
theorem SE{b d}(g:fK b=f)(i:fK d=f)(m:aW b d=f):k9 b d=under d b:=by
 rcases K2 g with⟨a,rfl⟩|⟨a,j,rfl⟩<;>rcases K2 i with⟨s,rfl⟩|⟨s,k,rfl⟩
 .exact cQ
 .by_cases e:a=s
  .subst e;simp[k9,under,oo,dk]
  have:¬(a.toNat:Int)=s.toNat:=λo=>e (uv.1 y);have q:((a.toNat:Int)==(s.toNat:Int))=l:=M;have p:(s==a)=l:=M;simp[k9,under,oo,dk];grind
 .have:¬(a.toNat:Int)=s.toNat:=by grind[UInt8.toNat_inj,uK,xk]
  simp[k9,under,oo,dk,this]
 exact cQ
theorem Mi{q}{e}(b:∀a,a<e->iV q a=f):mS q e=iV q e:=by
 unfold mS iV;rw[abd,Sg];cases r:fK (cm q e)with
 |false=>simp
 |true=>
  cases m:fD (lw q e)with
  |false=>simp
  |true=>
   cases s:(e==0||aW (cm q (e-1)) (cm q e))with
   |false=>simp
   |true=>
    simp[fp];have p:∀a,a<e->aW (cm q a) (cm q e)=f:=by
     apply LI;intro g j d;by_cases o:g=e
     .grind
     have:=b g y;simp[iV,cE,jB,hg]at this;grind
    rw[o5,f',f'];have t:∀a,a<e->k9 (cm q a) (cm q e)=under (cm q e) (cm q a):=by
     intro a i;have k:fK (cm q a)=f:=by have:=b a i;simp[iV,cE]at this;exact this.1.1.1
     grind[SE]
    grind
def r7(q):qW q=dV q:=by
 unfold qW dV;congr 1;rw[o5,f',f'];constructor
 .intro b e;induction e using Nat.strongRecOn with
  |_ e a=>grind[Mi]
 grind[Mi]
end R1
end Go.AM
namespace Go.AM
variable {k A:Nat}{i:Int}{d j e w:Nat}{W:av}{H:Z->(Nat->Option Obj)->Prop}{L:Array Bool}{bB:Mem}{D:Nat}{P:aI}{bq:ak->a5->Prop}{s:Code}{C:ak}{t:ap}{b:a5}{q:av}{aa:Z}{o X:aB}{α:Type}{η:aB->z}{ι:Type}{p:m an}{F:bH}{all:m ap}{dp:Array av}{cap:m N}{cR:m z}{k8:Nat->Option Obj}{ah:m aK}{bg:m (Nat×Bool)}{T:Nat->m N}{cP:aB}{gs:Array ak}{aP:m Nat}{cf:m Prop}{off:Nat}{op:BinOp}{aD:Array ap}{ab:m Prop}{bs:m ap}{az:a5}{ty:av}{val:Nat->Nat->Z}{B:m Z}{bi:au}{ag:Array aB}{ao dd:m an}{res:ι->z}{aM:ι->m an}
variable {CT:m (Nat×bL)}{ar:m ij}{be:fs}{ad:m (Nat×bv)}{a4:bv}
namespace R1
section
variable {r:aj V}
def hj(d:Int)(a:m b')(b:m2):Option c':=match h5 d a b.2 with
 |none=>n
 |some e=>match jK e with
  |none=>n
  |some g=>h (b.1,g)
def fH(b:Int)(a:m b')(d:m m2):m c':=d.map λe=>(hj b a e).getD ([],[])
def ff(b:Int)(d:eF)(a:m b'):Option (m c'):=
 if cK b&&d.2.all (λe=>(hj b a e).isSome)&&dV (fH b a d.2)then h (fH b a d.2)else n
abbrev r3(a:m c')(b:Bool):z:=.Q [.aq (.c (.S l 2 (c a) (bD.fn a))),.aq (.c (.bool b))]
abbrev iM(a:eF):z:=.n (.agg [.c (.int .i64 a.1),.c (.S l 2 (c a.2) (cv.fn a.2))])
theorem CA{ab}{d}(a:e<c d):fH i ab (d.take (e+1))=fH i ab (d.take e)++[(hj i ab (d.getD e ([],[]))).getD ([],[])]:=by unfold fH;grind[List.take_add_one]
def D9{ab}{b}(d:e<c b.2)(a:hj i ab (b.2.getD e ([],[]))=n):ff i b ab=n:=by unfold ff;rw[bm];grind
def X0{ab}{a}{d}(b:h5 i ab a=h d)(k:c a<=4000000):c d.flatten<=140737488355328/\c d<=4000000:=by
 unfold h5 at b;split at b
 .rename_i j;cases b;refine⟨?_,by grind⟩;have key:∀a:m Int,(a.all λe=>(dM i ab e).isSome)=f->(a.map λe=>(dM i ab e).getD []).flatten.length<=8*c a:=by
   intro a;induction a with
   |nil=>grind
   |cons e a g=>
    intro b;simp only[List.all_cons,cE]at b;grind[Je]
  grind
 grind
def W'(i)(b)(ab)(X:c b.2<=4000000)(G:∀e∈b.2,c e.2<=4000000):
  Y (aj.aJ V) 156 [S i,iM b,a2.S ab] [] (r3 ((ff i b ab).getD []) (ff i b ab).isSome) []:=by
 refine Y.K func156 rfl λI=>?_;have Z:=I.S 2 a;have j:a8 (aj.aJ V) [(119,df c8 (λi=>bh (cK i)) λ_=>[])]:=.cons r2 .nil;cases bU:cK i with
 |false=>
  refine a_ j [(15,l),(16,f)] a j3 (g.aw a ?_);simp[ff,bU]
 |true=>
  have R:bM (aj.c6 V) 235 (nc i):=adz zl bU;refine a_ j [(15,f),(16,l),(1000004,f)] a j3 (g.bK 8 114 2 a a ?_);refine b_ j a v (g.aL 2 (λd=>d<=c b.2/\∀w,w<d->(hj i ab (b.2.getD w ([],[]))).isSome=f) (λd:Nat=>[(0,S i),(2,a2.S ab),(4,aG 0 0),(8,.n (.aq (.r 1 2 (c (fH i ab (b.2.take d))) (bD.fn (fH i ab (b.2.take d)))))),(18,cv.S b.2),(19,S (c b.2)),(20,S d)]) (λd=>[.cells 74 [.c (.int .i64 b.1),.c (.S l 2 (c b.2) (cv.fn b.2))],.r 114 2 (c (fH i ab (b.2.take d))) (bD.fn (fH i ab (b.2.take d)))]) (λd=>c b.2-d) 0 a z2 a z2 a ⟨by omega,by omega⟩ ?_);rintro d ⟨J,aa⟩;by_cases q:d<c b.2
  .have t:b.2.getD d ([],[])∈b.2:=M;generalize o:b.2.getD d ([],[])=e at t;have A:=G e t;have p:=Ur R ab e.2 A;cases k:h5 i ab e.2 with
   |none=>
    rw[k]at p;refine a_ j [(21,f)] a bw (g.aF (o▸p) [] a (a_ j [(33,f)] a E (g.aX (bW.zero a ?_))));have m:hj i ab e=n:=by simp[hj,k]
    rw[D9 q M];simp
   |some x=>
    obtain⟨T,z⟩:=X0 k A;rw[k]at p;have K:=Ub (r:=aj.aJ V) x T;refine a_ j [(21,f)] a bw (g.aF (o▸p) [] a (a_ j [(33,l)] a E (g.aF K [] a ?_)));cases O:jK x with
    |none=>
     refine a_ j [(40,f)] a E (g.aX (bW.zero a ?_));have m:hj i ab e=n:=by simp[hj,k,O]
     rw[D9 q M];simp
    |some s=>
     have m:hj i ab e=h (e.1,s):=by simp[hj,k,O]
     have F:b.2.getD (d:Int).toNat cv.I=e:=o;have W:c (fH i ab (b.2.take d))<=4000000:=by simp[fH];omega
     have D:bt (c (fH i ab (b.2.take d))+1) (ce (c (fH i ab (b.2.take d))) (bD.fn (fH i ab (b.2.take d))) λQ=>[[N.V (b.2.getD (d:Int).toNat cv.I).1,N.V ((h s).getD [])]].getD Q []) (bD.fn (fH i ab (b.2.take (d+1)))):=by rw[CA q,o,m,F];exact bD.a0 (fH i ab (b.2.take d)) (e.1,s)
     have C:c (fH i ab (b.2.take d))+1=c (fH i ab (b.2.take (d+1))):=by grind[CA]
     refine a_ j [(40,l)] a ?_ (g.aA (d+1) a ?_ ?_ ?_ ?_)
     .refine⟨by exact bK,a,a,?_,a⟩;show _*32<=_;omega
     .refine U.Y.2 ⟨a,U.Y.2 ⟨⟨a,bt.same⟩,U.Y.2 ⟨v,U.Y.2 ⟨⟨C,D⟩,U.Y.2 ⟨⟨a,bt.same⟩,U.Y.2 ⟨a,U.Y.2 ⟨?_,v⟩⟩⟩⟩⟩⟩⟩;simp
     .exact U.Y.2 ⟨U.Y.2 ⟨a,U.Y.2 ⟨⟨a,bt.same⟩,v⟩⟩,U.Y.2 ⟨⟨C,D⟩,v⟩⟩
     .grind
     omega
  have m:d=c b.2:=y;subst m;refine a_ j [(21,l)] a E (g.aC ?_);rw[c9];have u:=I8 (r:=aj.aJ V) (fH i ab b.2);rw[r7]at u;refine b_ j a v (g.aF u [] a ?_);have H:b.2.all (λe=>(hj i ab e).isSome)=f:=List.all_eq_true.2 λe t=>by grind[List.mem_iff_getElem]
  cases B:dV (fH i ab b.2)with
  |false=>
   refine a_ j [(51,f)] a E (g.aw a ?_);simp[ff,B]
  |true=>
   refine a_ j [(51,l)] a E (g.aw a ?_);simp[ff,B,bU,H]
abbrev cq:=m b'×m eF×m (Int×Int)
def lq(b:cq):Prop:=∀a∈b.2.1,c a.2<=4000000/\∀d∈a.2,c d.2<=4000000
abbrev b1(a:cq):z:=.n (.agg [.c (.S l 2 (c a.1) (a2.fn a.1)),.c (.S l 2 (c a.2.1) (bj.fn a.2.1)),.c (.S l 2 (c a.2.2) (a1.fn a.2.2))])
def Hl:bL:=kg c8 (jz cv) (e0 a2) (λd b a=>r3 ((ff d b a).getD []) (ff d b a).isSome) λ_ b _=>[c b.2<=4000000,∀e∈b.2,c e.2<=4000000]
def ad_:bM (aj.aJ V) 156 Hl:=.cZ λd e a b=>W' d e a b.1 b.2
def o9:iZ cq:=⟨b1,λs=>match s with
 |.n (.agg [.c r,.c t,.c u])=>match jW 2 (ax r)with
  |some (j,g)=>match jW 2 (ax t)with
   |some (k,m)=>match jW 2 (ax u)with
    |some (o,i)=>h ((a2.af j g,bj.af k m,a1.af o i),[a2.bU j g,bj.bU k m,a1.bU o i])
    |none=>n
   |none=>n
  |none=>n
 |_=>n,λ{s r E} e d p b aa z=>by
 split at e
 .split at e
  .rename_i j g q;split at e
   .rename_i k m x;split at e
    .rename_i o i C;cases e;obtain⟨B,w,a⟩:=z
     match B,a with
     |[],a=>exact a.elim
     |[_],a=>exact a.2.elim
     |[_,_],a=>exact a.2.2.elim
     |_::_::_::_::_,a=>exact a.2.2.2.elim
     |[A,D,y],a=>
      exact⟨_,w,a2.cC (p:=[]) (b:=b) (aa:=A) q d.1 a.1,bj.cC (p:=[]) (b:=b) (aa:=D) x d.2.1 a.2.1,a1.cC (p:=[]) (b:=b) (aa:=y) C d.2.2 a.2.2.1,v⟩
    grind
   grind
  grind
 grind⟩
abbrev d9(b:b')(a:Nat):cW:=b.2.getD a (0,[])
def ic(d:Int)(b:b')(a:Nat):Bool:=right d (d9 b a)&&(a==0||decide ((d9 b (a-1)).1<(d9 b a).1))
theorem Dy(i)(a):h_ i a=((aC (c a.2)).all (ic i a)&&(cK i&&decide (1<=a.1)&&decide (a.1<=99)&&decide (1<=c a.2)&&decide (c a.2<=4))):=by
 have k:(a.2.all (right i)&&D_ (a.2.map (·.1)))=(aC (c a.2)).all (ic i a):=by
  rw[o5,cE,List.all_eq_true,List.all_eq_true];unfold D_;rw[List.all_eq_true];have d:∀e,e<c a.2->(a.2.map (·.1)).getD e 0=(d9 a e).1:=λe bp=>by grind
  constructor
  .rintro⟨j,b⟩ e bp;have bp:=sx.1 bp;have m:=b e M;rw[d e bp]at m;unfold ic;rw[j (d9 a e) M,fp];rcases n3 e with rfl|o
   .rfl
   grind
  intro u;refine⟨λp g=>?_,λe bp=>?_⟩
  .obtain⟨e,bp,rfl⟩:=AF.1 g;exact QO
  have bp:e<c a.2:=M;exact QO
 rw[<-k];unfold h_;cases cK i<;>cases decide (1<=a.1)<;>cases decide (a.1<=99)<;>cases decide (1<=c a.2)<;>cases decide (c a.2<=4)<;>simp
def KW{a}(b:e<c a.2)(d:ic i a e=l):h_ i a=l:=by grind[Dy]
theorem BF{o}(a:cK i=f):(jJ i o).isSome=right i o:=by unfold jJ right;grind
def Wp(i)(b)(j:cK i=f)(B:c b.2<=4000000):Y r 152 [S i,fA b] [] (bh (h_ i b)) []:=by
 refine Y.K func152 rfl λF=>?_;have e:a8 r [(119,df c8 (λi=>bh (cK i)) λ_=>[]),(187,en sn c8 (λA i=>iL (jJ i A)) λ_ i=>[cK i=f])]:=.cons r2 (.cons (Mx zl) .nil);refine b_ e a v (g.aL 1 (λd=>d<=c b.2/\∀k,k<d->ic i b k=f) (λd:Nat=>[(0,S i),(3,aG 0 0),(10,bG.S b.2),(11,S (c b.2)),(12,S d)]) (λ_=>[.cells 70 [.c (.int .i64 b.1),.c (lo b)]]) (λd=>c b.2-d) 0 a E a E a ⟨by omega,by omega⟩ ?_);rintro d ⟨w,t⟩;by_cases q:d<c b.2
 .cases o:right i (d9 b d)with
  |false=>
   have p:(jJ i (d9 b d)).isSome=l:=by grind[BF]
   refine a_ e [(13,f),(24,f),(40,f)] a dA (g.aX (bW.zero a ?_));rw[KW q (by simp only[ic,o,sD])];simp
  |true=>
   have p:(!(jJ i (d9 b d)).isSome)=l:=by grind[BF]
   by_cases z:d=0
   .subst z;refine a_ e [(13,f),(24,l),(27,l),(40,l)] a lJ (g.aA 1 a E E ⟨by omega,λk m=>?_⟩ y);have:k=0:=y;subst this;simp only[ic,o,fp];rfl
   have K:((d:Int)-1).toNat=d-1:=y;cases s:decide ((d9 b (d-1)).1<(d9 b d).1)with
   |false=>
    refine a_ e [(13,f),(24,l),(27,f),(38,f),(40,f)] a ?_ (g.aX (bW.zero a ?_))
    .have C:(b.2.getD ((d:Int)-1).toNat bG.I).1=(d9 b (d-1)).1:=bK;refine⟨a,fm ?_,by omega,by omega,by exact bK,fm y,p,j,by omega,by omega,fm y⟩;rw[C];show(d9 b d).1<=_;grind
    rw[KW q (by simp[ic,o,s,fp,Bool.or_false];grind)];simp
   |true=>
    refine a_ e [(13,f),(24,l),(27,f),(38,l),(40,l)] a ?_ (g.aA (d+1) a ?_ ?_ ⟨by omega,λk m=>?_⟩ y)
    .have C:(b.2.getD ((d:Int)-1).toNat bG.I).1=(d9 b (d-1)).1:=bK;refine⟨by exact bK,a,lE ?_,by omega,by omega,by exact bK,fm y,p,j,by omega,by omega,fm y⟩;rw[C];show¬(d9 b d).1<=_;grind
    .simp
    .simp
    rcases As.1 m with m|rfl
    .grind
    simp only[ic,o,s,fp,Bool.or_true]
 have u:d=c b.2:=y;subst u;refine a_ e [(13,l)] a E (g.aC ?_);have x:(aC (c b.2)).all (ic i b)=f:=List.all_eq_true.2 λk m=>t k (sx.1 m);rw[Dy,x,j];by_cases I:1<=b.1
 .by_cases J:b.1<=99
  .by_cases M:1<=c b.2
   .by_cases D:c b.2<=4
    .refine a_ e [(43,f),(47,f),(52,f),(58,f),(64,f)] a bK (g.aw a ?_);exact bw
    refine a_ e [(43,f),(47,f),(52,f),(58,f),(64,l)] a bK (g.aw a ?_);exact bw
   refine a_ e [(43,f),(47,f),(52,f),(58,l)] a dA (g.aw a ?_);exact bw
  refine a_ e [(43,f),(47,f),(52,l)] a dA (g.aw a ?_);exact bw
 refine a_ e [(43,f),(47,l)] a dA (g.aw a ?_);exact bw
def Bs:bL:=en c8 (jz bG) (λa b=>bh (h_ a b)) λa b=>[cK a=f,c b.2<=4000000]
def MD:bM r 152 Bs:=.bm λb d a=>Wp b d a.1 a.2
def In(d)(i:c d<=4000000):Y r 100 [a1.S d] [] (cz 0 (.S (c d) 2 0 (c d))) [.h 101 2 (c d) (a1.fn d)]:=by
 refine Y.K func100 rfl λj=>?_;refine aZ a v (g.et bd a a a a a a λb e=>?_);cases b with
 |true=>
  obtain rfl:=jA (e rfl);refine aZ a v (g.fb 2 101 2 (a1.fn []) a ?_);exact E_
 |false=>
  refine gJ [] 7 a v (g.dJ 5 101 2 (a1.fn []) a ?_);refine aZ a ⟨a,a,show(0+c d)*16<=_ by omega⟩ (g.bf [.h 101 2 (c d) (a1.fn d)] a ?_ ?_)
  .simp[bt,ce]
  exact Fk
def Ip(d)(e:c d<=4000000):Y r 100 [a1.S d] [] (a1.S d) []:=by
 refine Y.K func100 rfl λi=>?_;refine aZ a v (g.et bd a a a a a a λb x=>?_);cases b with
 |true=>
  exact Fj
 |false=>
  exact aZ a ⟨show(0+c d)*16<=_ by omega,.inl a⟩ E2
def TV(d)(e:c d<=4000000):Y r 145 [bG.S d] [] (bG.S d) []:=by
 refine Y.K func145 rfl λi=>?_;refine aZ a v (g.et bd a a a a a a λb x=>?_);cases b with
 |true=>
  exact Fj
 |false=>
  exact aZ a ⟨show(0+c d)*24<=_ by omega,.inl a⟩ E2
def Ca(d)(e:c d<=4000000):Y r 53 [aA.S d] [] (aA.S d) []:=by
 refine Y.K func53 rfl λi=>?_;refine aZ a v (g.et bd a a a a a a λb x=>?_);cases b with
 |true=>
  exact Fj
 |false=>
  exact aZ a ⟨show(0+c d)*8<=_ by omega,.inl a⟩ E2
def _root_.Go.AM.cZ.cT(a:cZ α)(d)(j:e<c d)(b):bt (e+1) (ce e (a.fn (d.take e)) (λg=>[a.a8 (d.getD e b)].getD g [])) (a.fn (d.take (e+1))):=by
 have i:d.take (e+1)=d.take e++[d.getD e b]:=by grind[List.take_add_one]
 have:=a.a0 (d.take e) (d.getD e b);grind
abbrev GN:bL:=df (e0 bG) (λa=>bG.S a) λa=>[c a<=4000000]
def adr:bM r 145 GN:=.ba λb a=>TV b a
abbrev GO:bL:=df (e0 aA) (λa=>aA.S a) λa=>[c a<=4000000]
def ads:bM r 53 GO:=.ba λb a=>Ca b a
def Wk(b)(d:c b.2<=4000000):Y r 98 [fA b] [] (fA b) []:=by
 refine Y.bl bd func98 rfl rfl rfl λj=>?_;have e:a8 r [(145,GN)]:=.cons adr .nil;refine b_ e a ?_ ?_
 .simp only[U,bG.E];exact⟨bG.U _,d⟩
 refine g.bh () [] ?_ (λk i=>absurd i E);simp[bG.E]
abbrev xz:bL:=df (jz bG) (λa=>fA a) λa=>[c a.2<=4000000]
def Es:bM r 98 xz:=.ba λb a=>Wk b a
def W5(o)(w:c o.2<=4000000)(k:∀s∈o.2,c s.2<=4000000):Y r 99 [iM o] [] (iM o) []:=by
 refine Y.bl bd func99 rfl rfl rfl λu=>?_;have d:a8 r [(53,GO)]:=.cons ads .nil;refine a_ d [(1000002,f)] a v (g.cl 2 1 105 2 (cv.fn []) a a ?_);refine b_ d a v ?_;refine g.aL 4 (λb=>b<=c o.2) (λb:Nat=>[(2,aG 1 0),(3,aG 2 0),(10,cv.S o.2),(11,S (c o.2)),(12,S b)])
  (λb=>[.cells 74 [.c (.int .i64 o.1),.c (.S l 2 (c o.2) (cv.fn o.2))],.cells 74 [.c (.int .i64 0),.c (.S f 0 0 λ_=>[])],.cells 74 [.c (.int .i64 o.1),.r 3 2 b (cv.fn (o.2.take b))],.r 105 2 b (cv.fn (o.2.take b))]) (λb=>c o.2-b) 0 a ?_ a ?_ a y ?_
 .simp
 .simp
 intro b p;by_cases m:b<c o.2
 .have C:o.2.getD b ([],[])∈o.2:=M;refine a_ d [(13,f)] a ?_ (g.aA (b+1) a ?_ ?_ ?_ ?_)
  .have q:=k _ C;have e:o.2.getD (b:Int).toNat cv.I=o.2.getD b ([],[]):=M;simp only[U,e,aA.E,a7];exact⟨by omega,v,v,show(b+1)*40<=_ by omega,aA.U _,q,by omega,by omega,fm y⟩
  .simp
  .have e:o.2.getD (b:Int).toNat cv.I=o.2.getD b ([],[]):=M;have i:=cv.cT o.2 m ([],[]);simp only[U.Y,U,e,aA.E,a9,ba];exact⟨bt.same,bt.same,i,i⟩
  .grind
  omega
 obtain rfl:b=c o.2:=y;refine a_ d [(13,l)] a E (g.aC ?_);refine b_ d a v (g.bh () [] ?_ (λt j=>absurd j E));simp
abbrev xA:bL:=df (jz cv) (λa=>iM a) λa=>[c a.2<=4000000,∀b∈a.2,c b.2<=4000000]
def Et:bM r 99 xA:=.ba λb a=>W5 b a.1 a.2
abbrev cB:O:=.c (.S f 0 0 λ_=>[])
def pe(b)(q:c b.1<=4000000)(C:∀o∈b.1,c o.2<=4000000)(t:c b.2.1<=4000000)(I:lq b)(m:c b.2.2<=4000000):
  Y r 57 [b1 b] [] (.n (.agg [.R 0 (.S (c b.1) 2 0 (c b.1)),.R 1 (.S (c b.2.1) 2 0 (c b.2.1)),.c (.S l 2 (c b.2.2) (a1.fn b.2.2))])) [.h 70 2 (c b.1) (a2.fn b.1),.h 74 2 (c b.2.1) (bj.fn b.2.1)]:=by
 refine Y.bl bd func57 rfl rfl rfl λs=>?_;have d:a8 r [(98,xz),(99,xA)]:=.cons Es (.cons Et .nil);refine a_ d [(1000002,f)] a v (g.en 2 0 70 2 (a2.fn []) a a ?_);refine g.en 2 1 74 2 (bj.fn []) a a ?_;refine b_ d a v ?_;refine g.aL 5 (λe=>e<=c b.1) (λe:Nat=>[(1,aG 0 0),(2,aG 1 0),(3,aG 2 0),(9,a2.S b.1),(10,S (c b.1)),(11,S e)])
  (λe=>[.cells 27 [.c (.S l 2 (c b.1) (a2.fn b.1)),.c (.S l 2 (c b.2.1) (bj.fn b.2.1)),.c (.S l 2 (c b.2.2) (a1.fn b.2.2))],.cells 27 [cB,cB,cB],.cells 27 [.R 3 (.S e 2 0 e),.R 4 (.S 0 2 0 0),cB],.h 70 2 e (a2.fn (b.1.take e)),.h 74 2 0 (bj.fn [])]) (λe=>c b.1-e) 0 a ?_ a ?_ a y ?_
 .simp
 .simp
 intro e i;by_cases u:e<c b.1
 .have ae:b.1.getD e (0,[])∈b.1:=M;have j:b.1.getD (e:Int).toNat a2.I=b.1.getD e (0,[]):=M;refine a_ d [(12,f)] a O_ (g.aA (e+1) a E PO M ?_);omega
 obtain rfl:e=c b.1:=y;rw[c9];refine a_ d [(12,l)] a E (g.aC ?_);refine b_ d a v ?_;refine g.aL 5 (λe=>e<=c b.2.1) (λe:Nat=>[(1,aG 0 0),(2,aG 1 0),(3,aG 2 0),(24,bj.S b.2.1),(25,S (c b.2.1)),(26,S e)])
  (λe=>[.cells 27 [.c (.S l 2 (c b.1) (a2.fn b.1)),.c (.S l 2 (c b.2.1) (bj.fn b.2.1)),.c (.S l 2 (c b.2.2) (a1.fn b.2.2))],.cells 27 [cB,cB,cB],.cells 27 [.R 3 (.S (c b.1) 2 0 (c b.1)),.R 4 (.S e 2 0 e),cB],.h 70 2 (c b.1) (a2.fn b.1),.h 74 2 e (bj.fn (b.2.1.take e))]) (λe=>c b.2.1-e) 0 a ?_ a ?_ a y ?_
 .simp
 .simp
 intro e i;by_cases u:e<c b.2.1
 .have ae:b.2.1.getD e (0,[])∈b.2.1:=M;have j:b.2.1.getD (e:Int).toNat bj.I=b.2.1.getD e (0,[]):=M;refine a_ d [(27,f)] a P4 (g.aA (e+1) a E Fi M ?_);omega
 obtain rfl:e=c b.2.1:=y;rw[c9];refine a_ d [(27,l)] a E (g.aC ?_);refine b_ d a v (g.aF (Ip b.2.2 m) [] a (b_ d a v (g.bh () [3,4] ?_ (λp k=>absurd k E))));simp
def I2(b)(q:c b.1<=4000000)(C:∀o∈b.1,c o.2<=4000000)(t:c b.2.1<=4000000)(I:lq b)(m:c b.2.2<=4000000):
  Y r 57 [b1 b] [] (.n (.agg [.R 0 (.S (c b.1) 2 0 (c b.1)),.R 1 (.S (c b.2.1) 2 0 (c b.2.1)),.R 2 (.S (c b.2.2) 2 0 (c b.2.2))])) [.h 70 2 (c b.1) (a2.fn b.1),.h 74 2 (c b.2.1) (bj.fn b.2.1),.h 101 2 (c b.2.2) (a1.fn b.2.2)]:=by
 refine Y.bl bd func57 rfl rfl rfl λs=>?_;have d:a8 r [(98,xz),(99,xA)]:=.cons Es (.cons Et .nil);refine a_ d [(1000002,f)] a v (g.en 2 0 70 2 (a2.fn []) a a ?_);refine g.en 2 1 74 2 (bj.fn []) a a ?_;refine b_ d a v ?_;refine g.aL 5 (λe=>e<=c b.1) (λe:Nat=>[(1,aG 0 0),(2,aG 1 0),(3,aG 2 0),(9,a2.S b.1),(10,S (c b.1)),(11,S e)])
  (λe=>[.cells 27 [.c (.S l 2 (c b.1) (a2.fn b.1)),.c (.S l 2 (c b.2.1) (bj.fn b.2.1)),.c (.S l 2 (c b.2.2) (a1.fn b.2.2))],.cells 27 [cB,cB,cB],.cells 27 [.R 3 (.S e 2 0 e),.R 4 (.S 0 2 0 0),cB],.h 70 2 e (a2.fn (b.1.take e)),.h 74 2 0 (bj.fn [])]) (λe=>c b.1-e) 0 a ?_ a ?_ a y ?_
 .simp
 .simp
 intro e i;by_cases u:e<c b.1
 .have ae:b.1.getD e (0,[])∈b.1:=M;have j:b.1.getD (e:Int).toNat a2.I=b.1.getD e (0,[]):=M;refine a_ d [(12,f)] a O_ (g.aA (e+1) a E PO M ?_);omega
 obtain rfl:e=c b.1:=y;rw[c9];refine a_ d [(12,l)] a E (g.aC ?_);refine b_ d a v ?_;refine g.aL 5 (λe=>e<=c b.2.1) (λe:Nat=>[(1,aG 0 0),(2,aG 1 0),(3,aG 2 0),(24,bj.S b.2.1),(25,S (c b.2.1)),(26,S e)])
  (λe=>[.cells 27 [.c (.S l 2 (c b.1) (a2.fn b.1)),.c (.S l 2 (c b.2.1) (bj.fn b.2.1)),.c (.S l 2 (c b.2.2) (a1.fn b.2.2))],.cells 27 [cB,cB,cB],.cells 27 [.R 3 (.S (c b.1) 2 0 (c b.1)),.R 4 (.S e 2 0 e),cB],.h 70 2 (c b.1) (a2.fn b.1),.h 74 2 e (bj.fn (b.2.1.take e))]) (λe=>c b.2.1-e) 0 a ?_ a ?_ a y ?_
 .simp
 .simp
 intro e i;by_cases u:e<c b.2.1
 .have ae:b.2.1.getD e (0,[])∈b.2.1:=M;have j:b.2.1.getD (e:Int).toNat bj.I=b.2.1.getD e (0,[]):=M;refine a_ d [(27,f)] a P4 (g.aA (e+1) a E Fi M ?_);omega
 obtain rfl:e=c b.2.1:=y;rw[c9];refine a_ d [(27,l)] a E (g.aC ?_);refine b_ d a v (g.aF (In b.2.2 m) [] a (b_ d a v (g.bh () [3,4,5] ?_ (λp k=>absurd k E))));simp
def gF(d:α->Bool)(b:m α):Int:=match b.findIdx? d with|some a=>a|none=>-1
def s'{a:α->Bool}{q}{I}(d:e<c q)(i:a (q.getD e I)=f)(g:∀b,b<e->a (q.getD b I)=l):gF a q=e:=by
 have:q.findIdx? a=h e:=by grind[List.findIdx?_eq_some_iff_getElem]
 rw[gF,this]
def ta{a:α->Bool}{q}{I}(d:∀b,b<c q->a (q.getD b I)=l):gF a q=-1:=by have:q.findIdx? a=n:=wC;rw[gF,this]
def UX(d)(t:c d<=4000000)(j)(ah)(b:b'->Bool)(p:∀m,m∈d->Y r j [fA m,ax (.O ah)] [] (bh (b m)) []):
  Y r 125 [cz 0 (.S (c d) 2 0 (c d)),ax (.fn (.func j) [] [.O ah])] [.h 70 2 (c d) (a2.fn d)] (S (gF b d)) [.h 70 2 (c d) (a2.fn d)]:=by
 refine Y.K func125 rfl λs=>?_;refine aZ a v (g.aL 1 (λe=>e<=c d/\∀w,w<e->b (d.getD w (0,[]))=l) (λe:Nat=>[(0,cz 0 (.S (c d) 2 0 (c d))),(1,ax (.fn (.func j) [] [.O ah])),(7,S (c d)),(8,S e)]) (λ_=>[.h 70 2 (c d) (a2.fn d)]) (λe=>c d-e) 0 a E a E a ⟨by omega,by omega⟩ ?_);rintro e ⟨q,x⟩;by_cases u:e<c d
 .have i:d.getD e (0,[])∈d:=M;have o:d.getD ((0+(e:Int).toNat:Nat)) a2.I=d.getD e (0,[]):=nP;refine a6 [(9,f)] a bw ?_;rw[o];refine g.aF (p _ i) [] a ?_;cases C:b (d.getD e (0,[]))with
  |true=>
   exact NV
  |false=>
   exact zJ
 exact PF
def U0(d)(t:c d<=4000000)(j)(ah)(b:eF->Bool)(p:∀m,m∈d->Y r j [iM m,ax (.O ah)] [] (bh (b m)) []):
  Y r 135 [cz 0 (.S (c d) 2 0 (c d)),ax (.fn (.func j) [] [.O ah])] [.h 74 2 (c d) (bj.fn d)] (S (gF b d)) [.h 74 2 (c d) (bj.fn d)]:=by
 refine Y.K func135 rfl λs=>?_;refine aZ a v (g.aL 1 (λe=>e<=c d/\∀w,w<e->b (d.getD w (0,[]))=l) (λe:Nat=>[(0,cz 0 (.S (c d) 2 0 (c d))),(1,ax (.fn (.func j) [] [.O ah])),(7,S (c d)),(8,S e)]) (λ_=>[.h 74 2 (c d) (bj.fn d)]) (λe=>c d-e) 0 a E a E a ⟨by omega,by omega⟩ ?_);rintro e ⟨q,x⟩;by_cases u:e<c d
 .have i:d.getD e (0,[])∈d:=M;have o:d.getD ((0+(e:Int).toNat:Nat)) bj.I=d.getD e (0,[]):=nP;refine a6 [(9,f)] a bw ?_;rw[o];refine g.aF (p _ i) [] a ?_;cases C:b (d.getD e (0,[]))with
  |true=>
   exact NV
  |false=>
   exact zJ
 exact PF
def UR(d)(z:c d<=4000000)(j)(ah)(k:(Int×Int)->Bool)(q:∀m,m∈d->Y r j [.n (.agg [.c (.int .i64 m.1),.c (.int .i64 m.2)]),ax (.O ah)] [] (bh (k m)) []):
  Y r 146 [a1.S d,ax (.fn (.func j) [] [.O ah])] [] (S (gF k d)) []:=by
 refine Y.K func146 rfl λw=>?_;refine aZ a v (g.aL 0 (λe=>e<=c d/\∀b,b<e->k (d.getD b (0,0))=l) (λe:Nat=>[(0,a1.S d),(1,ax (.fn (.func j) [] [.O ah])),(7,S (c d)),(8,S e)]) (λ_=>[]) (λe=>c d-e) 0 a E a E a ⟨by omega,by omega⟩ ?_);rintro e ⟨u,o⟩;by_cases t:e<c d
 .have i:d.getD e (0,0)∈d:=M;have p:d.getD (((e:Int).toNat)) a1.I=d.getD e (0,0):=nP;refine a6 [(9,f)] a bw ?_;rw[p];refine g.aF (q _ i) [] a ?_;cases s:k (d.getD e (0,0))with
  |true=>
   refine a6 [(16,f)] a E (g.aX (bW.mk [] a ?_ a a a fI));simp[s' t s o]
  |false=>
   exact zJ
 refine a6 [(9,l)] a bV (g.aC ?_);refine aZ a v (g.aS [] a ?_ fI);simp[ta (λb x=>o b y)]
def yt(b:α->Bool)(d):(gF b d=-1/\∀a∈d,b a=l)∨∃e:Nat,e<c d/\gF b d=e/\(∀a∈d.take e,b a=l)/\(∀a,d[e]?=h a->b a=f):=by unfold gF;grind[List.findIdx?_eq_some_iff_getElem,List.getElem_of_mem]
def No{eY bp}{b}(a:¬(eY<=w/\w<bp)):nK eY bp b T w=T w:=bm a
theorem ie{a:m α}(d:e<c a)(b:α):a.take (e+1)=a.take e++[a.getD e b]:=by grind[List.take_add_one]
def Jg{d}{b:α->Bool}(g:e<c d)(i:∀a∈d.take e,b a=l)(j:∀a,d[e]?=h a->b a=f):(d.take (e+1)).filter (λa=>!b a)=d.take e:=by grind[List.take_add_one,List.filter_eq_self]
def _root_.Go.AM.cZ.cS(a:cZ α)(d)(e)(o)(k)(b:k<=c d):bt k (lp e (a.a8 o) (a.fn d)) (a.fn (d.set e o)):=by intro i g;simp only[lp,cZ.fn,gr];grind
structure Rt(d:m b')(bc:b'->Bool)(w:Nat)(nJ:m b'):Prop where
 fF:w<=c d
 len:c nJ=c d
 done:nJ.take (c ((d.take w).filter λo=>!bc o))=(d.take w).filter λo=>!bc o
 hN:∀e,w<=e->nJ[e]?=d[e]?
def Uj(d)(z:c d<=4000000)(j)(ah)(bc:b'->Bool)(q:∀o,o∈d->Y r j [fA o,ax (.O ah)] [] (bh (bc o)) []):
  bk (ι:={p:Nat->m N // ∀e,e<c (d.filter λo=>!bc o)->p e=a2.fn (d.filter λo=>!bc o) e}) r 102 [cz 0 (.S (c d) 2 0 (c d)),ax (.fn (.func j) [] [.O ah])] [.h 70 2 (c d) (a2.fn d)]
   (λ_=>cz 0 (.S (c d) 2 0 (c (d.filter λo=>!bc o)))) (λp=>[.h 70 2 (c d) p.1]):=by
 refine bk.cr func102 rfl rfl rfl λF=>?_;refine aZ a v (g.aF (UX d z j ah bc q) [0] a ?_);rcases yt bc d with⟨k,A⟩|⟨i0,C,k,A,aa⟩
 .rw[k];have B:d.filter (λo=>!bc o)=d:=so.2 λo s=>by grind
  refine a6 [(12,f)] a E (g.bJ ⟨a2.fn d,λe _=>by grind⟩ (g.aS [0] a ?_ h6));simp[B]
 rw[k];refine a6 [(12,l)] a oP ?_;refine g.aL 1 (λb:Nat×m b'=>Rt d bc b.1 b.2) (λb=>[(0,cz 0 (.S (c d) 2 0 (c d))),(1,ax (.fn (.func j) [] [.O ah])),(5,S (c ((d.take b.1).filter λo=>!bc o))),(6,S b.1)])
  (λb=>[.h 70 2 (c d) (a2.fn b.2)]) (λb=>c d-b.1) (i0+1,d) a ?_ a ?_ a ?_ ?_
 .exact PA
 .simp
 .exact QN
 rintro⟨w,I⟩ ⟨t,a',R,bz⟩;simp only at t a' R bz;by_cases J:w<c d
 .have s:d.getD w (0,[])∈d:=M;have u:c ((d.take w).filter λo=>!bc o)<=w:=fG (kB _ _) M;have D:I.getD (0+(w:Int).toNat) a2.I=d.getD w (0,[]):=M;refine a6 [(19,f)] a pQ ?_;rw[D];refine g.aF (q _ s) [] a ?_;cases K:bc (d.getD w (0,[]))with
  |false=>
   have i:(d.take (w+1)).filter (λo=>!bc o)=(d.take w).filter (λo=>!bc o)++[d.getD w (0,[])]:=ig;refine a6 [(29,f)] a ?_ (g.aA (w+1,I.set (c ((d.take w).filter λo=>!bc o)) (d.getD w (0,[]))) a ?_ ?_ ?_ ?_)
   .simp only[U,a7];grind
   .simp[i]
   .have ai:=a2.cS I (c ((d.take w).filter λo=>!bc o)) (d.getD w (0,[])) (c d) y;exact Ot
   .refine⟨by grind,by grind,Pg,λe bp=>?_⟩;grind
   grind
  |true=>
   have i:(d.take (w+1)).filter (λo=>!bc o)=(d.take w).filter (λo=>!bc o):=ig;refine a6 [(29,l)] a oP (g.aA (w+1,I) a ?_ ?_ ?_ ?_)
   .simp[i]
   .simp
   .exact PX
   grind
 obtain rfl:w=c d:=y;rw[c9]at R⊢;have u:c (d.filter λo=>!bc o)<=c d:=kB _ _;refine a6 [(19,l)] a E (g.aC ?_);refine aZ a pQ (g.aO (a0.eW bd a a a a a a wB) a a ?_);refine aZ a pQ (g.bJ ⟨nK (0+bT 0 (h (c (d.filter λo=>!bc o):Int))) (0+bT 0 (h (c (d.filter λo=>!bc o):Int))+(bT (c d) n-bT 0 (h (c (d.filter λo=>!bc o):Int)))) nv.zero (a2.fn I),λe bp=>QB⟩ (g.aS [0] a ?_ h6));simp[bT];rfl
structure Ru(d:m eF)(bc:eF->Bool)(w:Nat)(nJ:m eF):Prop where
 fF:w<=c d
 len:c nJ=c d
 done:nJ.take (c ((d.take w).filter λo=>!bc o))=(d.take w).filter λo=>!bc o
 hN:∀e,w<=e->nJ[e]?=d[e]?
def Ix(d)(z:c d<=4000000)(j)(ah)(bc:eF->Bool)(q:∀o,o∈d->Y r j [iM o,ax (.O ah)] [] (bh (bc o)) []):
  bk (ι:={p:Nat->m N // ∀e,e<c (d.filter λo=>!bc o)->p e=bj.fn (d.filter λo=>!bc o) e}) r 87 [cz 0 (.S (c d) 2 0 (c d)),ax (.fn (.func j) [] [.O ah])] [.h 74 2 (c d) (bj.fn d)]
   (λ_=>cz 0 (.S (c d) 2 0 (c (d.filter λo=>!bc o)))) (λp=>[.h 74 2 (c d) p.1]):=by
 refine bk.cr func87 rfl rfl rfl λF=>?_;refine aZ a v (g.aF (U0 d z j ah bc q) [0] a ?_);rcases yt bc d with⟨k,A⟩|⟨i0,C,k,A,aa⟩
 .rw[k];have B:d.filter (λo=>!bc o)=d:=so.2 λo s=>by grind
  refine a6 [(12,f)] a E (g.bJ ⟨bj.fn d,λe _=>by grind⟩ (g.aS [0] a ?_ h6));simp[B]
 rw[k];refine a6 [(12,l)] a oP ?_;refine g.aL 1 (λb:Nat×m eF=>Ru d bc b.1 b.2) (λb=>[(0,cz 0 (.S (c d) 2 0 (c d))),(1,ax (.fn (.func j) [] [.O ah])),(5,S (c ((d.take b.1).filter λo=>!bc o))),(6,S b.1)])
  (λb=>[.h 74 2 (c d) (bj.fn b.2)]) (λb=>c d-b.1) (i0+1,d) a ?_ a ?_ a ?_ ?_
 .exact PA
 .simp
 .exact QN
 rintro⟨w,I⟩ ⟨t,a',R,bz⟩;simp only at t a' R bz;by_cases J:w<c d
 .have s:d.getD w (0,[])∈d:=M;have u:c ((d.take w).filter λo=>!bc o)<=w:=fG (kB _ _) M;have D:I.getD (0+(w:Int).toNat) bj.I=d.getD w (0,[]):=M;refine a6 [(19,f)] a pQ ?_;rw[D];refine g.aF (q _ s) [] a ?_;cases K:bc (d.getD w (0,[]))with
  |false=>
   have i:(d.take (w+1)).filter (λo=>!bc o)=(d.take w).filter (λo=>!bc o)++[d.getD w (0,[])]:=ig;refine a6 [(29,f)] a ?_ (g.aA (w+1,I.set (c ((d.take w).filter λo=>!bc o)) (d.getD w (0,[]))) a ?_ ?_ ?_ ?_)
   .simp only[U,a7];grind
   .simp[i]
   .have ai:=bj.cS I (c ((d.take w).filter λo=>!bc o)) (d.getD w (0,[])) (c d) y;exact Ot
   .refine⟨by grind,by grind,Pg,λe bp=>?_⟩;grind
   grind
  |true=>
   have i:(d.take (w+1)).filter (λo=>!bc o)=(d.take w).filter (λo=>!bc o):=ig;refine a6 [(29,l)] a oP (g.aA (w+1,I) a ?_ ?_ ?_ ?_)
   .simp[i]
   .simp
   .exact PX
   grind
 obtain rfl:w=c d:=y;rw[c9]at R⊢;have u:c (d.filter λo=>!bc o)<=c d:=kB _ _;refine a6 [(19,l)] a E (g.aC ?_);refine aZ a pQ (g.aO (a0.eW bd a a a a a a wB) a a ?_);refine aZ a pQ (g.bJ ⟨nK (0+bT 0 (h (c (d.filter λo=>!bc o):Int))) (0+bT 0 (h (c (d.filter λo=>!bc o):Int))+(bT (c d) n-bT 0 (h (c (d.filter λo=>!bc o):Int)))) rI.zero (bj.fn I),λe bp=>QB⟩ (g.aS [0] a ?_ h6));simp[bT];rfl
abbrev dL:=Int×Int×Int×bE
abbrev l0(a:dL):m N:=[.int .i64 a.1,.int .i64 a.2.1,.int .i64 a.2.2.1,.V a.2.2.2]
abbrev vo(a:dL):m O:=[.c (.int .i64 a.1),.c (.int .i64 a.2.1),.c (.int .i64 a.2.2.1),.c (.V a.2.2.2)]
abbrev ei(a:dL):z:=.n (.agg (vo a))
abbrev iK(a:m N):z:=ax (.O a)
def Vh(o)(d):Y r 103 [fA o,iK (l0 d)] [] (bh (o.1==d.2.1)) []:=by refine Y.K func103 rfl λb=>?_;exact aZ a v (g.aw a)
def Vi(d:Int×Int)(bS)(k)(b:Nat->m N):Y r 107 [.n (.agg [.c (.int .i64 d.1),.c (.int .i64 d.2)]),iK [.int .i64 bS,.S l 2 k b]] [] (bh (d.2==bS)) []:=by refine Y.K func107 rfl λe=>?_;exact aZ a v (g.aw a)
def ZN(a:α->Bool)(d):decide (gF a d≥0)=d.any a:=by
 rcases yt a d with⟨b,s⟩|⟨e,bp,b,_,j⟩
 .grind
 rw[b];symm;have:=j _ (bI bp);grind
def UK(d)(i:c d<=4000000)(bS)(k)(b:Nat->m N):Y r 106 [a1.S d,ax (.fn (.func 107) [] [.O [.int .i64 bS,.S l 2 k b]])] [] (bh (d.any λe=>e.2==bS)) []:=by refine Y.K func106 rfl λo=>?_;refine aZ a v ?_;refine g.aF (UR d i 107 [.int .i64 bS,.S l 2 k b] (λe=>e.2==bS) λj _=>Vi j bS k b) [] a ?_;refine aZ a v (g.aw a ?_);simp only[U];exact ZN _ d
def VW(o)(b)(d:c b<=4000000):Y r 105 [iM o,iK [.S l 2 (c b) (a1.fn b)]] [] (bh (b.any λe=>e.2==o.1)) []:=by refine Y.K func105 rfl λi=>?_;refine a6 [(1000001,f)] a v ?_;refine g.freeze 2 0 a a a ?_;refine aZ a v ?_;refine g.aF (UK b d o.1 (c o.2) (cv.fn o.2)) [] a ?_;exact aZ a v (g.aw a)
abbrev xN(a:Nat)(b:dL):z:=ax (.fn (.func a) [] [.O (l0 b)])
def Ue(d)(u:d.1=1):Y r 58 [ei d] [] (xN 101 d) []:=by refine Y.K func58 rfl λb=>?_;refine a6 [(1000001,f)] a v ?_;refine g.freeze 1 0 a a a ?_;exact a6 [(5,f)] a gV (g.aw a)
def Iv(d)(u:d.1=2):Y r 58 [ei d] [] (xN 104 d) []:=by refine Y.K func58 rfl λb=>?_;refine a6 [(1000001,f)] a v ?_;refine g.freeze 1 0 a a a ?_;exact a6 [(5,l),(8,f)] a gV (g.aw a)
def Iw(d)(u:d.1=3):Y r 58 [ei d] [] (xN 108 d) []:=by refine Y.K func58 rfl λb=>?_;refine a6 [(1000001,f)] a v ?_;refine g.freeze 1 0 a a a ?_;exact a6 [(5,l),(8,l),(11,f)] a gV (g.aw a)
def Uf(d)(u:d.1=4):Y r 58 [ei d] [] (xN 109 d) []:=by refine Y.K func58 rfl λb=>?_;refine a6 [(1000001,f)] a v ?_;refine g.freeze 1 0 a a a ?_;exact a6 [(5,l),(8,l),(11,l),(14,f)] a gV (g.aw a)
def Ug(d)(i:d.1≠1)(b:d.1≠2)(j:d.1≠3)(e:d.1≠4):Y r 58 [ei d] [] (ax (.fn (.func 110) [] [])) []:=by refine Y.K func58 rfl λk=>?_;refine a6 [(1000001,f)] a v ?_;refine g.freeze 1 0 a a a ?_;exact a6 [(5,l),(8,l),(11,l),(14,l)] a (by simp[i,b,j,e]) (g.aw a)
abbrev tE(a:m b'):N:=.S l 2 (c a) (a2.fn a)
abbrev tF(a:m eF):N:=.S l 2 (c a) (bj.fn a)
abbrev hT(a:m (Int×Int)):N:=.S l 2 (c a) (a1.fn a)
abbrev tG(a:cq)(g:dL)(i:m an)(b d e:O):m an:=[.cells 27 [.c (tE a.1),.c (tF a.2.1),.c (hT a.2.2)],.cells 32 (vo g),.cells 27 [cB,cB,cB]]++i++[.cells 27 [b,d,e]]
abbrev dC(a d b:Nat):O:=.R a (.S d 2 0 b)
def Uk(b)(d)(o:c b.1<=4000000):
  bk (ι:={e:Nat->m N // ∀j,j<c (b.1.filter λi=>!(i.1==d.2.1))->e j=a2.fn (b.1.filter λi=>!(i.1==d.2.1)) j}) r 101 [aG 5 0,iK (l0 d)]
   (tG b d [.h 70 2 (c b.1) (a2.fn b.1),.h 74 2 (c b.2.1) (bj.fn b.2.1)] (dC 3 (c b.1) (c b.1)) (dC 4 (c b.2.1) (c b.2.1)) (.c (hT b.2.2)))
   (λ_=>.Q []) (λe=>tG b d [.h 70 2 (c b.1) e.1,.h 74 2 (c b.2.1) (bj.fn b.2.1)] (dC 3 (c b.1) (c (b.1.filter λi=>!(i.1==d.2.1)))) (dC 4 (c b.2.1) (c b.2.1)) (.c (hT b.2.2))):=by refine bk.bP func101 rfl rfl rfl (g.aW ?_);refine aZ a v (g.a_ (Uj b.1 o 103 (l0 d) (λi=>i.1==d.2.1) λi _=>Vh i d) [3] a bl ?_);rintro⟨e,k⟩;exact aZ a v ⟨⟨e,k⟩,.inr a,a,a,_,_,_,a,a,a,v⟩
def Wf(p)(d:jQ p=f)(b):Y r 110 [.n (.aq b)] p (.Q []) p:=by refine bk.toY (bk.bP (ι:=Unit) (res:=λ_=>.Q []) (ao:=λ_=>p) func110 rfl rfl rfl (g.aW ?_));refine aZ a v ?_;exact⟨(),.inr a,a,d,_,_,_,a,a,a,v⟩
abbrev mQ(a:cq)(b:dL):m an:=tG a b [.h 70 2 (c a.1) (a2.fn a.1),.h 74 2 (c a.2.1) (bj.fn a.2.1)] (dC 3 (c a.1) (c a.1)) (dC 4 (c a.2.1) (c a.2.1)) (.c (hT a.2.2))
def jo(d:Nat)(a:m (Int×Int))(e:eF):Bool:=(a.drop d).any λb=>b.2==e.1
def TD(b)(d:dL)(e:d.2.1<0∨d.2.1>c b.2.2):Y r 104 [aG 5 0,iK (l0 d)] (mQ b d) (.Q []) (mQ b d):=by
 refine bk.toY (bk.bP (ι:=Unit) (res:=λ_=>.Q []) (ao:=λ_=>mQ b d) func104 rfl rfl rfl (g.aW ?_));by_cases x:d.2.1<0
 .exact a6 [(7,f),(16,f)] a oS N5
 exact a6 [(7,l),(16,f)] a bV N5
def _root_.Go.AM.cZ.ha(a:cZ α)(d)(k A):bt A (fx k (a.fn d)) (a.fn (d.drop k)):=λb _=>by simp[fx,cZ.fn,gr,al]
abbrev H7:z:=aG 5 0
abbrev G1(b:cq)(a:dL):N:=.S (xL l n) 2 (bT (c b.2.2) n-bT 0 (h a.2.1)) (fx (bT 0 (h a.2.1)) (a1.fn b.2.2))
def nu(b:cq)(a:dL)(d:Nat)(e:a.2.1=d)(g:d<=c b.2.2):U (jf (c b.2.2) (h a.2.1) n):=by show 0<=a.2.1/\a.2.1<=(c b.2.2:Int);omega
def TE(b:cq)(d:dL)(k:Nat)(j:d.2.1=k)(u:k<=c b.2.2)(t:c b.2.1<=4000000)(x:c b.2.2<=4000000):
  bk (ι:={e:Nat->m N // ∀i,i<c (b.2.1.filter λo=>!jo k b.2.2 o)->e i=bj.fn (b.2.1.filter λo=>!jo k b.2.2 o) i}) r 104 [aG 5 0,iK (l0 d)] (mQ b d) (λ_=>.Q [])
   (λe=>tG b d [.h 70 2 (c b.1) (a2.fn b.1),.h 74 2 (c b.2.1) e.1] (dC 3 (c b.1) (c b.1)) (dC 4 (c b.2.1) (c (b.2.1.filter λo=>!jo k b.2.2 o))) (.c (.S l 2 d.2.1.toNat (a1.fn b.2.2)))++[.x]):=by
 refine bk.bP func104 rfl rfl rfl (g.aW ?_);have q:d.2.1.toNat=k:=y;refine a6 [(7,l),(16,l),(1000001,f)] a pQ ?_;refine g.hF (ι:=Unit) b6 7 8 (λi=>ay i 6) (λi=>[H7,H7,aG 5 2,ax (hT b.2.2),iK [.int .i64 d.2.1,.int .i64 d.2.2.1,.V d.2.2.2],S d.2.1,ax (G1 b d)].getD i .any) (λ_ i=>[.any,.any,.any,.any,.any,.any,.any,aG 6 0,.any].getD i .any)
  (λ_=>mQ b d++[.cells 25 [cB]]) (λ_=>mQ b d++[.cells 25 [.c (G1 b d)]]) a a a a a a a a a a
  ⟨aV.y,aV.y,aV.y,aV.y,aV.y,aV.y,?_,v,v,v⟩
  (λ_=>⟨aV.y,aV.y,aV.y,aV.y,aV.y,aV.y,?_,v,v⟩)
  (dx.dg (ee (bg:=[]) bd a8.nil (ao:=h _) (cf:=[]) a v)) (λ_=>ee (bg:=[]) bd a8.nil (ao:=h _) (cf:=[]) a v) λ_=>?_
 .exact Qi
 .exact Qi
 refine a6 [(1000002,f)] a v (g.bf (mQ b d++[.cells 25 [.c (hT (b.2.2.drop k))]]) a ?_ ?_)
 .have s:=a1.ha b.2.2 k (c b.2.2-k);have w:bT 0 (h d.2.1)=k:=q;simp only[U.Y,U,w,a9,ba,su];exact⟨⟨bt.same,bt.same,bt.same⟩,⟨bt.same,bt.same,bt.same⟩,bt.same,bt.same,bt.same,a,s⟩
 refine g.freeze 3 6 a a a ?_;refine aZ a v (g.a_ (Ix b.2.1 t 105 [hT (b.2.2.drop k)] (jo k b.2.2) λo _=>VW o (b.2.2.drop k) bV) [4] a bl ?_);rintro⟨e,p⟩;exact aZ a ⟨show 0<=d.2.1 by omega,p9 _,show d.2.1<=(c b.2.2:Int) by omega⟩ ⟨⟨e,p⟩,.inr a,a,a,_,_,_,a,a,a,v⟩
abbrev oK(a:cq)(d:dL)(b:Nat->m N):m an:=tG a d [.h 70 2 (c a.1) (a2.fn a.1),.h 74 2 (c a.2.1) (bj.fn a.2.1),.h 101 2 (c a.2.2) b] (dC 3 (c a.1) (c a.1)) (dC 4 (c a.2.1) (c a.2.1)) (dC 5 (c a.2.2) (c a.2.2))
abbrev ye(b:cq)(a:dL):Nat->m N:=lp (0+a.2.1.toNat) [.int .i64 (3-(b.2.2.getD (0+a.2.1.toNat) a1.I).1),.int .i64 (b.2.2.getD (0+a.2.1.toNat) a1.I).2] (a1.fn b.2.2)
def Uu(b)(d:dL)(i:¬(0<=d.2.1/\d.2.1<c b.2.2)):Y r 109 [aG 6 0,iK (l0 d)] (oK b d (a1.fn b.2.2)) (.Q []) (oK b d (a1.fn b.2.2)):=by
 refine bk.toY (bk.bP (ι:=Unit) (res:=λ_=>.Q []) (ao:=λ_=>oK b d (a1.fn b.2.2)) func109 rfl rfl rfl (g.aW ?_));by_cases e:0<=d.2.1
 .exact a6 [(6,f),(15,l)] a (by simp[e];omega) OE
 exact a6 [(6,l),(15,l)] a bV OE
abbrev xT:z:=aG 6 0
abbrev H8:z:=aG 6 2
abbrev H4(a:cq):z:=.n (.aq (dC 5 (c a.2.2) (c a.2.2)))
abbrev xP(b:cq)(a:dL):z:=cz 5 (.bu (c b.2.2) 2 (0+a.2.1.toNat) 0)
abbrev H6(a:dL):z:=iK [.int .i64 a.2.1,.int .i64 a.2.2.1,.V a.2.2.2]
abbrev lv(b:cq)(a:dL):Int:=(b.2.2.getD (0+a.2.1.toNat) a1.I).1
def Uv(b)(d:dL)(m:0<=d.2.1)(k:d.2.1<c b.2.2)(j:a7 .i64 (3-lv b d)):Y r 109 [aG 6 0,iK (l0 d)] (oK b d (a1.fn b.2.2)) (.Q []) (oK b d (ye b d)):=by
 refine bk.toY (bk.bP (ι:=Unit) (res:=λ_=>.Q []) (ao:=λ_=>oK b d (ye b d)) func109 rfl rfl rfl (g.aW ?_));refine a6 [(6,f),(15,f),(1000001,f)] a pQ ?_;have cw:0<=d.2.1/\d.2.1<((c b.2.2:Nat):Int):=⟨m,k⟩;have i:c b.2.2=c b.2.2/\0+d.2.1.toNat<c b.2.2:=⟨rfl,by omega⟩
 refine g.hF (ι:=Unit) b6 0 18 (λe=>ay 4 e&&ay e 15) (λe=>[.any,.any,.any,.any,H6 d,S d.2.1,xT,xT,H8,H4 b,H6 d,S d.2.1,xP b d,xP b d,S (lv b d),S (3-lv b d)].getD e .any) (λ_ e=>[xT,xT,H8,H4 b,.any,.any,.any,.any,.any,.any,.any,.any,.any,.any,.any,.any,xP b d,xP b d,.any].getD e .any)
  (λ_=>oK b d (a1.fn b.2.2)) (λ_=>oK b d (ye b d)) a a a a a a a a a a
  ⟨v,v,v,v,aV.y,aV.y,aV.y,aV.y,aV.y,aV.y,aV.y,aV.y,?_,aV.y,?_,?_,v,v,v,v⟩
  (λ_=>⟨v,aV.y,aV.y,aV.y,aV.y,aV.y,aV.y,aV.y,aV.y,aV.y,aV.y,aV.y,?_,aV.y,?_,?_,?_,aV.y,v⟩)
  (dx.dg (aV.y)) (λ_=>?_) λ_=>?_
 .exact EX
 .exact aV.eval (bg:=[]) bd a8.nil a i
 .exact aV.eval (bg:=[]) bd a8.nil a j
 .exact EX
 .exact aV.eval (bg:=[]) bd a8.nil a i
 .exact aV.eval (bg:=[]) bd a8.nil a j
 .exact EX
 .exact ee (bg:=[]) bd a8.nil (ao:=h _) a i
 exact QQ
def U4(k eY bp):Y r 27 [S k,S eY,S bp] [] (bh (decide (eY<=k/\k<=bp))) []:=by
 refine Y.K func27 rfl λd=>?_;by_cases b:eY<=k
 .by_cases s:k<=bp
  .refine a6 [(10,f),(14,f)] a bV (g.aw a ?_);exact bw
  refine a6 [(10,f),(14,l)] a bV (g.aw a ?_);simp;omega
 refine a6 [(10,l),(14,l)] a bV (g.aw a ?_);simp;omega
abbrev jI:bL:=kg c8 c8 c8 (λd b a=>bh (decide (b<=d/\d<=a))) λ_ _ _=>[]
def ku:bM r 27 jI:=.cZ λd b a _=>U4 d b a
def TT(b:Nat)(m:b<=4000000):Y r 218 [S b] [] (S (e3 b)) []:=by
 refine Y.K func218 rfl λk=>?_;by_cases j:b<1
 .refine a6 [(6,f),(9,f)] a bV (g.aw a ?_);have:e3 b=0:=by simp[e3,j]
  simp[this]
 by_cases i:8<b
 .refine a6 [(6,l),(9,f)] a bV (g.aw a ?_);have:e3 b=0:=by simp[e3,i]
  simp[this]
 by_cases d:b<=2
 .refine a6 [(6,l),(9,l),(10,f)] a bV (g.aw a ?_);have:e3 b=2:=by simp only[e3,bm (show¬(b<1∨8<b) by omega),br d]
  simp[this]
 by_cases e:b<=4
 .refine a6 [(6,l),(9,l),(10,l),(13,f)] a bV (g.aw a ?_);have:e3 b=4:=by simp only[e3,bm (show¬(b<1∨8<b) by omega),bm d,br e]
  simp[this]
 refine a6 [(6,l),(9,l),(10,l),(13,l)] a bV (g.aw a ?_);have:e3 b=8:=by simp only[e3,bm (show¬(b<1∨8<b) by omega),bm d,bm e]
 simp[this]
def U3(d)(e)(p:c d<=4000000):Y r 182 [bR.S d,b2 e] [] (bh (d.contains e)) []:=by
 refine Y.K func182 rfl λo=>?_;refine aZ a v (g.aL 0 (λb=>b<=c d/\∀j,j<b->d.getD j []≠e) (λb:Nat=>[(0,bR.S d),(1,b2 e),(5,S b)]) (λ_=>[]) (λb=>c d-b) 0 a E a E a ⟨by omega,by omega⟩ ?_);rintro b ⟨k,m⟩;by_cases t:b<c d
 .have i:d.getD (b:Int).toNat bR.I=d.getD b []:=M;by_cases q:d.getD b []=e
  .refine a6 [(9,f),(17,f)] a ?_ (g.aX (bW.zero a ?_))
   .simp only[U,i];grind
   have:e∈d:=M;simp[this]
  refine a6 [(9,f),(17,l)] a ?_ (g.aA (b+1) a ?_ ?_ ?_ ?_)
  .simp only[U,i,a7];grind
  .simp
  .simp
  .grind
  omega
 refine a6 [(9,l)] a bV (g.aC ?_);refine aZ a v (g.aw a ?_);have:¬e∈d:=λs=>by grind[List.getElem_of_mem]
 simp[this]
def TX(b)(d:cC b=f):Y r 214 [b2 b] [] (S (ga b)) []:=by
 refine Y.K func214 rfl λp=>?_;have k:=d;simp[cC,cE,bA]at k;refine aZ a v (g.aL 0 (λe=>e<=c b) (λe:Nat=>[(0,b2 b),(3,S (ga (b.take e))),(4,S e)]) (λ_=>[]) (λe=>c b-e) 0 a (by simp[ga]) a E a y ?_);intro e j;by_cases m:e<c b
 .have C:=xE d j;have s:=xE d (e:=e+1) y;have q:=HC m;have t:=qG k.2 (b.getD e 0) (CN m);have o:97<=dk b e/\dk b e<=122:=EL;refine a6 [(8,f)] a ?_ (g.aA (e+1) a ?_ ?_ ?_ ?_)
  .simp only[U,kf,a7];grind
  .have i:(dk b e-97) % 256=dk b e-97:=Int.emod_eq_of_lt y y;exact bK
  .simp
  .grind
  grind
 obtain rfl:e=c b:=y;exact Pt
def adu:bM r 214 (df eB (λa=>S (ga a)) λa=>[cC a=f]):=.ba λa b=>TX a b
def V9(i)(b)(d:cK i=f)(j:cC b=f):Y r 177 [S i,b2 b] [] (S (e7 i b)) []:=by
 refine Y.K func177 rfl λq=>?_;have p:a8 r [(214,df eB (λb=>S (ga b)) λb=>[cC b=f])]:=.cons adu .nil;have e:=d;simp[cK,cE,bA]at e;have k:=xD j;refine b_ p a ?_ (g.aw a ?_)
 .have o:0<=ga b*(2*i+1):=Int.mul_nonneg k.1 y;have m:ga b*(2*i+1)<=282429536481*199:=Int.mul_le_mul y y y y;generalize ga b*(2*i+1)=s at o m;simp[U,a7];grind
 exact bK
def zk:bM r 177 (en c8 eB (λa b=>S (e7 a b)) λa b=>[cK a=f,cC b=f]):=.bm λa b d=>V9 a b d.1 d.2
def Ut(d)(k)(q:c d<=4000000):Y r 181 [e1.S d,S k] [] (S (lg d k)) []:=by
 refine Y.K func181 rfl λp=>?_;refine aZ a v (g.aL 0 (λb=>b<=c d/\∀j,j<b->(d.getD j (0,0)).1≠k) (λb:Nat=>[(0,e1.S d),(1,S k),(5,S b)]) (λ_=>[]) (λb=>c d-b) 0 a E a E a ⟨by omega,by omega⟩ ?_);rintro b ⟨m,o⟩;by_cases t:b<c d
 .have i:d.getD (b:Int).toNat e1.I=d.getD b (0,0):=M;by_cases s:(d.getD b (0,0)).1=k
  .refine a6 [(9,f),(18,f)] a ?_ (g.aX (bW.zero a ?_))
   .simp only[U,i];grind
   have:lg d k=(d.getD b (0,0)).2:=by
    have:d.find? (λe=>e.1==k)=h (d.getD b (0,0)):=by grind[List.find?_eq_some_iff_getElem]
    rw[lg,this]
   simp_all
  refine a6 [(9,f),(18,l)] a ?_ (g.aA (b+1) a ?_ ?_ ?_ ?_)
  .simp only[U,i,a7];grind
  .simp
  .simp
  .grind
  omega
 refine a6 [(9,l)] a bV (g.aC ?_);refine aZ a v (g.aw a ?_);have:lg d k=0:=by have:d.find? (λe=>e.1==k)=n:=wC;rw[lg,this]
 simp[this]
theorem Hz(a:1<=k)(b:k<=8):k<=e3 k/\e3 k<=8:=FJ
abbrev GP:bL:=df c8 (λa=>S (e3 a.toNat)) λa=>[0<=a/\a<=4000000]
def adt:bM r 218 GP:=.ba λb d=>by
 obtain⟨a,rfl⟩:∃a:Nat,b=a:=⟨b.toNat,by exact lJ⟩
 exact TT a lJ
def Ww(b)(j:cC b=f):Y r 186 [b2 b] [] (b2 (fB b)) []:=by
 refine Y.K func186 rfl λm=>?_;have e:a8 r [(218,GP)]:=.cons adt .nil;have i:=j;simp only[cC,cE,bA]at i;have p:=Hz i.1.1 i.1.2;refine b_ e a bw (g.aL 0 (λd=>c b+d<=e3 (c b)) (λd:Nat=>[(0,b2 (b++aY d 46)),(3,S (e3 (c b)))]) (λ_=>[]) (λd=>e3 (c b)-d) 0 a E a E a y ?_);intro d o;by_cases q:c b+d<e3 (c b)
 .refine a_ e [(10,f)] a bV (g.aA (d+1) a ?_ ?_ ?_ ?_)
  .simp[List.replicate_succ']
  .simp
  .grind
  grind
 have k:e3 (c b)-c b=d:=y;refine a_ e [(10,l)] a bV (g.aC ?_);refine b_ e a v (g.aw a ?_);simp[fB,j,k]
def Xe(b):Y r 183 [.n (.agg [.c (.int .i64 b.1),.c (.int .i64 b.2)])] [] (bh (gv b)) []:=by
 refine Y.K func183 rfl λi=>?_;have e:a8 r [(27,jI)]:=.cons ku .nil;by_cases d:0<=b.1/\b.1<=999999999988
 .by_cases j:1<=b.2/\b.2<=99
  .refine a_ e [(6,f),(10,f)] a (by simp[d,j]) (g.aw a ?_);have:gv b=f:=by simp[gv,d,j];omega
   simp[this]
  refine a_ e [(6,f),(10,l)] a (by simp[d,j]<;>omega) (g.aw a ?_);have:gv b=l:=by simp[gv,d];omega
  simp[this]
 refine a_ e [(6,l),(10,l)] a bV (g.aw a ?_);have:gv b=l:=by simp[gv];omega
 simp[this]
abbrev Hn:bL:=df p3 (λa=>bh (gv a)) λ_=>[]
def aea:bM r 183 Hn:=.ba λa _=>Xe a
def JQ{a:α->Bool}{d}(b:d.any a=f):0<=gF a d:=by unfold gF;grind
theorem ZO{a:α->Bool}{d}(b:d.any a=l):gF a d=-1:=by unfold gF;grind
def US(d)(j)(b:Int×Int->Bool)(q:∀i,i∈d->Y r j [.n (.agg [.c (.int .i64 i.1),.c (.int .i64 i.2)])] [] (bh (b i)) []):
  Y r 146 [a1.S d,ax (.fn (.func j) [] [])] [] (S (gF b d)) []:=by
 refine Y.K func146 rfl λo=>?_;have s:=o.S 0 a;refine aZ a v (g.ca (λe=>e<=c d/\∀w,w<e->b (d.getD w (0,0))=l) (λe:Nat=>[(0,a1.S d),(1,ax (.fn (.func j) [] [])),(7,S (c d)),(8,S e)]) (λ_=>[]) (λe=>c d-e) 0 a E a v ⟨by omega,by omega⟩ ?_);rintro e ⟨p,x⟩;by_cases u:e<c d
 .have k:d.getD e (0,0)∈d:=M;have m:d.getD (e:Int).toNat a1.I=d.getD e (0,0):=M;refine a6 [(9,f)] a bw ?_;rw[m];refine g.aF (q _ k) [] a ?_;cases A:b (d.getD e (0,0))with
  |true=>
   exact Ov
  |false=>
   exact N7
 exact NU
def UF(d)(i)(b:Int×Int->Bool)(j:∀e,e∈d->Y r i [.n (.agg [.c (.int .i64 e.1),.c (.int .i64 e.2)])] [] (bh (b e)) []):
  Y r 106 [a1.S d,ax (.fn (.func i) [] [])] [] (bh (d.any b)) []:=by
 refine Y.K func106 rfl λk=>?_;refine aZ a v (g.aF (US d i b j) [] a ?_);cases u:d.any b with
 |true=>
  exact Ob
 |false=>
  exact OA
def UY(d)(j)(ah)(b:b'->Bool)(q:∀i,i∈d->Y r j [fA i,ax (.O ah)] [] (bh (b i)) []):
  Y r 125 [a2.S d,ax (.fn (.func j) [] [.O ah])] [] (S (gF b d)) []:=by
 refine Y.K func125 rfl λo=>?_;have s:=o.S 0 a;refine aZ a v (g.ca (λe=>e<=c d/\∀w,w<e->b (d.getD w (0,[]))=l) (λe:Nat=>[(0,a2.S d),(1,ax (.fn (.func j) [] [.O ah])),(7,S (c d)),(8,S e)]) (λ_=>[]) (λe=>c d-e) 0 a E a v ⟨by omega,by omega⟩ ?_);rintro e ⟨p,x⟩;by_cases u:e<c d
 .have k:d.getD e (0,[])∈d:=M;have m:d.getD (e:Int).toNat a2.I=d.getD e (0,[]):=M;refine a6 [(9,f)] a bw ?_;rw[m];refine g.aF (q _ k) [] a ?_;cases A:b (d.getD e (0,[]))with
  |true=>
   exact Ov
  |false=>
   exact N7
 exact NU
def UH(d)(e)(ah)(b:b'->Bool)(j:∀i,i∈d->Y r e [fA i,ax (.O ah)] [] (bh (b i)) []):
  Y r 77 [a2.S d,ax (.fn (.func e) [] [.O ah])] [] (bh (d.any b)) []:=by
 refine Y.K func77 rfl λk=>?_;refine aZ a v (g.aF (UY d e ah b j) [] a ?_);cases u:d.any b with
 |true=>
  exact Ob
 |false=>
  exact OA
def UW(d)(j)(ah)(H:Z->(Nat->Option Obj)->Prop)(i:Int->Bool)(u:∀m,m∈d->Y r j [S m,ax (.O ah)] [.J H] (bh (i m)) [.J H]):
  Y r 123 [aA.S d,ax (.fn (.func j) [] [.O ah])] [.J H] (S (gF i d)) [.J H]:=by
 refine Y.K func123 rfl λq=>?_;have x:=q.S 0 a;refine aZ a v (g.aL 1 (λe=>e<=c d/\∀b,b<e->i (d.getD b 0)=l) (λe:Nat=>[(0,aA.S d),(1,ax (.fn (.func j) [] [.O ah])),(7,S (c d)),(8,S e)]) (λ_=>[.J H]) (λe=>c d-e) 0 a E a E a ⟨by omega,by omega⟩ ?_);rintro e ⟨t,o⟩;by_cases s:e<c d
 .have k:d.getD e 0∈d:=M;have p:d.getD (e:Int).toNat aA.I=d.getD e 0:=M;refine a6 [(9,f)] a bw ?_;rw[p];refine g.aF (u _ k) [0] a ?_;cases w:i (d.getD e 0)with
  |true=>
   refine a6 [(16,f)] a E (g.aX (bW.mk [0] a ?_ a a a h6));simp[s' s w o]
  |false=>
   exact zJ
 refine a6 [(9,l)] a bV (g.aC ?_);refine aZ a v (g.aS [0] a ?_ h6);simp[ta (λb z=>o b y)]
def UG(d)(e)(ah)(H:Z->(Nat->Option Obj)->Prop)(b:Int->Bool)(j:∀i,i∈d->Y r e [S i,ax (.O ah)] [.J H] (bh (b i)) [.J H]):
  Y r 74 [aA.S d,ax (.fn (.func e) [] [.O ah])] [.J H] (bh (d.any b)) [.J H]:=by
 refine Y.K func74 rfl λm=>?_;refine aZ a v (g.aF (UW d e ah H b j) [0] a ?_);cases k:d.any b with
 |true=>
  refine a6 [(8,f)] a (fm (JQ k)) (g.aS [0] a ?_ h6);simp
 |false=>
  refine a6 [(8,l)] a (lE NG) (g.aS [0] a ?_ h6);simp
def Gf(b:t.op=.call {callee:=.builtin .append,args:=#[o,X],argTypes:=#[68,68]}):j4 V t o X 103 lX:=
 ⟨⟨68,68,CX,CX,b,(bd _ _ a),rfl,(bd _ _ a),rfl⟩,(bd _ _ a),by decide,by decide⟩
def GZ(d)(k):∀a,a<k->∀e∈bG.fn d a,np e=f:=by
 intro a _ e b;have:bG.fn d a=[.int .i64 (d.getD a bG.I).1,.V (d.getD a bG.I).2]:=rfl;rw[this]at b;rcases fo.1 b with rfl|b
 .rfl
 rcases fo.1 b with rfl|b
 .rfl
 grind
abbrev pX(a:m cW):Type:={b:fj×m Z // eg 2 (c a) (bG.fn a) b.2}
abbrev tr(d)(a:pX d):an:=.J (ck 103 2 a.1.1 (c d) a.1.2)
abbrev rV(d)(a:pX d):N:=.val (cX a.1.1 (c d))
def TW(d)(j:0<c d)(m:c d<=4000000):bk (ι:=pX d) r 145 [bG.S d] [] (λb=>ax (rV d b)) (λb=>[tr d b]):=by
 refine bk.cr func145 rfl rfl rfl λk=>?_;refine aZ a v (g.et bd a a a a a a λi o=>?_);cases i with
 |true=>grind
 |false=>
  refine gJ [] 7 a v (g.fC (Gf a) a a a j zX (GZ d _) a a λb=>?_);refine aZ a v (g.bJ b (g.aS [0] a ?_ (λp e=>absurd e E)));simp
def Wl(b)(i:0<c b.2)(e:c b.2<=4000000):bk (ι:=pX b.2) r 98 [fA b] [] (λd=>.n (.agg [.c (.int .i64 b.1),.c (rV b.2 d)])) (λd=>[tr b.2 d]):=by refine bk.bD bd func98 rfl rfl rfl λk=>?_;refine aZ a v ?_;refine g.a_ (TW b.2 i e) [] a bl ?_;intro d;refine aZ a v ?_;refine g.bh d [2] ?_ (λm j=>absurd j E);simp
def nw(a:m b')(b:Nat)(e:Z)(d:Nat):N:=if d=b then .val e else .S l 2 (a.getD d (0,[])).2.length (bG.fn (a.getD d (0,[])).2)
def gf(a:m b')(b:Nat)(e:Z)(d:Nat):m N:=[.int .i64 (a.getD d (0,[])).1,nw a b e d]
def K'{ab}{i0}{bz}(u:e≠i0):bt (e+1) (ce e (gf ab i0 bz) (λb=>[a2.a8 (ab.getD e (0,[]))].getD b [])) (gf ab i0 bz):=λa d=>by
 unfold ce;split
 .rfl
 have:a=e:=y;subst this;rw[uA];exact EQ
def La{ab}{i0}{bz EC}:bt (i0+1) (ce i0 (gf ab i0 EC) (λb=>[[.int .i64 (ab.getD i0 (0,[])).1,.val bz]].getD b [])) (gf ab i0 bz):=λa d=>by
 unfold ce;split
 .simp only[gf,nw,bm (show a≠i0 by omega)]
 have:a=i0:=y;subst this;rw[uA];simp only[gf,nw,br];rfl
abbrev S3:Type:=Nat×fj×Nat×m Z
def I3(b:m b')(a:Nat)(d:S3):Prop:=d.1<=c b/\((d.1<=a/\d.2.2.1=0)∨(a<d.1/\d.2.2.1=(b.getD a (0,[])).2.length/\eg 2 (b.getD a (0,[])).2.length (bG.fn (b.getD a (0,[])).2) d.2.2.2))
abbrev aaY(a:S3):an:=.J (ck 103 2 a.2.1 a.2.2.1 a.2.2.2)
abbrev nH(a:S3):Z:=cX a.2.1 a.2.2.1
def Xi(b)(i0)(V:i0<c b.1)(K:0<(b.1.getD i0 (0,[])).2.length)(z:c b.1<=4000000)(A:∀e∈b.1,c e.2<=4000000)(X:c b.2.1<=4000000)(J:lq b)(R:c b.2.2<=4000000):
  bk (ι:=pX (b.1.getD i0 (0,[])).2) r 57 [b1 b] [] (λ_=>.n (.agg [.R 0 (.S (c b.1) 2 0 (c b.1)),.R 1 (.S (c b.2.1) 2 0 (c b.2.1)),.c (.S l 2 (c b.2.2) (a1.fn b.2.2))]))
   (λk=>[.h 70 2 (c b.1) (gf b.1 i0 (cX k.1.1 (b.1.getD i0 (0,[])).2.length)),.h 74 2 (c b.2.1) (bj.fn b.2.1),tr (b.1.getD i0 (0,[])).2 k]):=by
 refine bk.bD bd func57 rfl rfl rfl λW=>?_;have m:a8 r [(98,xz),(99,xA)]:=.cons Es (.cons Et .nil);refine a_ m [(1000002,f)] a v (g.en 2 0 70 2 (a2.fn []) a a ?_);refine g.en 2 1 74 2 (bj.fn []) a a ?_;refine g.fg 103 2 ?_;refine b_ m a v ?_;refine g.aL 6 (I3 b.1 i0) (λp:S3=>[(1,aG 0 0),(2,aG 1 0),(3,aG 2 0),(9,a2.S b.1),(10,S (c b.1)),(11,S p.1)])
  (λp=>[.cells 27 [.c (.S l 2 (c b.1) (a2.fn b.1)),.c (.S l 2 (c b.2.1) (bj.fn b.2.1)),.c (.S l 2 (c b.2.2) (a1.fn b.2.2))],.cells 27 [cB,cB,cB],.cells 27 [.R 3 (.S p.1 2 0 p.1),.R 4 (.S 0 2 0 0),cB],.h 70 2 p.1 (gf b.1 i0 (nH p)),.h 74 2 0 (bj.fn []),aaY p]) (λp=>c b.1-p.1) (0,.nil n,0,[]) a ?_ a ?_ a ⟨by omega,.inl ⟨by omega,rfl⟩⟩ ?_
 .simp
 .simp
 rintro⟨d,i,q,o⟩ ⟨t,x⟩;simp only at t x;by_cases u:d<c b.1
 .have w:b.1.getD d (0,[])∈b.1:=M;have j:b.1.getD (d:Int).toNat a2.I=b.1.getD d (0,[]):=M;by_cases C:d=i0
  .subst C;have D:q=0:=by rcases x with⟨_,O⟩|⟨N,_⟩<;>omega
   have Q:=A _ w;refine a_ m [(12,f),(1000005,f)] a bw ?_;rw[j];generalize F:b.1.getD d (0,[])=e at *;refine g.eI (ι:=pX e.2) b6 3 5 4 (λs=>ay s 2) (λs=>[aG 2 0,cz 3 (.S d 2 0 d),fA e].getD s .any) (λk s=>[.any,.any,.any,.n (.agg [.c (.int .i64 e.1),.c (rV e.2 k)]),ax (.S f 2 1 (λB=>[[.int .i64 e.1,rV e.2 k]].getD B []))].getD s .any)
    (λk=>[.cells 27 [.c (.S l 2 (c b.1) (a2.fn b.1)),.c (.S l 2 (c b.2.1) (bj.fn b.2.1)),.c (.S l 2 (c b.2.2) (a1.fn b.2.2))],.cells 27 [cB,cB,cB],.cells 27 [.R 3 (.S d 2 0 d),.R 4 (.S 0 2 0 0),cB],.h 70 2 d (gf b.1 d (cX i q)),.h 74 2 0 (bj.fn []),.J (ck 103 2 i q o),.cells 70 [.c (.int .i64 e.1),.c (.S l 2 (c e.2) (bG.fn e.2))],tr e.2 k])
    rfl rfl rfl rfl rfl rfl rfl (λs u=>by have:=fc u;omega) rfl
    ⟨aV.y,aV.y,aV.y,v,v,v,v,v,v⟩
    (λk=>⟨aV.y,aV.y,aV.y,v,aV.y,v⟩)
    (dx.dk (Wl e K Q) [] a a a a a a a bl a bl) λk=>?_
   refine a_ m [(1000006,f)] a PY (g.swap 5 7 ca a a (λ_ _ u=>u.1) (λ_ _ u=>u.1) ?_);refine b_ m a bK (g.aA (d+1,k.1.1,c e.2,k.1.2) a E ?_ ?_ ?_)
   .have ai:=La (ab:=b.1) (i0:=d) (bz:=cX k.1.1 (c e.2)) (EC:=cX i q);rw[F]at ai;simp only[U.Y,U,a9,ba];exact⟨⟨bt.same,bt.same,bt.same⟩,⟨bt.same,bt.same,bt.same⟩,⟨a,bt.same⟩,ai,bt.same⟩
   .refine⟨by grind,.inr ⟨by grind,?_⟩⟩;grind
   grind
  refine a_ m [(12,f)] a ?_ (g.aA (d+1,i,q,o) a ?_ ?_ ?_ ?_)
  .have k:=A _ w;simp only[U,j,bG.E,a7];exact⟨by omega,v,v,show(d+1)*32<=_ by omega,bG.U _,k,by omega,by omega,fm y⟩
  .simp
  .have ai:=K' (ab:=b.1) (bz:=cX i q) C;simp only[U.Y,U,j,bG.E,a9,ba];exact⟨⟨bt.same,bt.same,bt.same⟩,⟨bt.same,bt.same,bt.same⟩,⟨a,bt.same⟩,ai,bt.same⟩
  .refine⟨by grind,?_⟩;grind
  grind
 obtain rfl:d=c b.1:=y;obtain⟨_,D,I⟩:i0<c b.1/\q=(b.1.getD i0 (0,[])).2.length/\eg 2 (b.1.getD i0 (0,[])).2.length (bG.fn (b.1.getD i0 (0,[])).2) o:=M;subst D;clear x;generalize b.1.getD i0 (0,[])=e at *;refine a_ m [(12,l)] a E (g.aC ?_);refine b_ m a v ?_;refine g.aL 6 (λd=>d<=c b.2.1) (λd:Nat=>[(1,aG 0 0),(2,aG 1 0),(3,aG 2 0),(24,bj.S b.2.1),(25,S (c b.2.1)),(26,S d)])
  (λd=>[.cells 27 [.c (.S l 2 (c b.1) (a2.fn b.1)),.c (.S l 2 (c b.2.1) (bj.fn b.2.1)),.c (.S l 2 (c b.2.2) (a1.fn b.2.2))],.cells 27 [cB,cB,cB],.cells 27 [.R 3 (.S (c b.1) 2 0 (c b.1)),.R 4 (.S d 2 0 d),cB],.h 70 2 (c b.1) (gf b.1 i0 (cX i (c e.2))),.h 74 2 d (bj.fn (b.2.1.take d)),.J (ck 103 2 i (c e.2) o)]) (λd=>c b.2.1-d) 0 a ?_ a ?_ a y ?_
 .simp
 .simp
 intro d t;by_cases u:d<c b.2.1
 .have w:b.2.1.getD d (0,[])∈b.2.1:=M;have j:b.2.1.getD (d:Int).toNat bj.I=b.2.1.getD d (0,[]):=M;refine a_ m [(27,f)] a ?_ (g.aA (d+1) a ?_ ?_ ?_ ?_)
  .have k:=J _ w;simp only[U,j,cv.E,a7];exact⟨by omega,v,v,show(d+1)*32<=_ by omega,cv.U _,k.1,k.2,by omega,by omega,fm y⟩
  .simp
  .exact Fi
  .grind
  omega
 obtain rfl:d=c b.2.1:=y;rw[c9];refine a_ m [(27,l)] a E (g.aC ?_);refine b_ m a v (g.aF (Ip b.2.2 R) [] a (b_ m a v (g.bh ⟨(i,o),I⟩ [3,4,5] ?_ (λB T=>absurd T E))));simp
end
end R1
end Go.AM
