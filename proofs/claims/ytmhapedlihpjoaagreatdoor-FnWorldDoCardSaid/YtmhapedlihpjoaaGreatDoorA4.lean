/- Part 4. No condition. -/
import Derived.Test.YtmhapedlihpjoaaGreatDoorA3
import Derived.Lib.Bytealg
import Derived.Sort.AssemblyPlain
import Derived.Sort.LotD5
import Derived.Sort.Walk13a
import Derived.Conc.DeferLaws
import Derived.RowKit
import Derived.Conc.Holds
set_option linter.all false
set_option maxHeartbeats 8000000
open Go.Proofs
open Go.Proofs.Tryz
open List renaming length → c, range → aC, replicate → aY, getD_eq_getElem?_getD → al, all_eq_true → aZ
open Go renaming Value → aa, TypeId → av, Event → aT, undef → K, World → au, Frame → aK, FuncId → a4, execOp → ac, Operand → aA, Program → aI, Goroutine → ak, stepG → aq, Oper → ap
open Option renaming some → h, none → q
open Bool renaming true → f, false → m
open Nat renaming beq → af, ble → ay
open Go.World renaming cell? → aL
open Go.Op renaming bytesLess → aW, equalIn → aQ
open Go.Sem renaming events_bind → aG
open Go.Result renaming evThen_ok → aJ
open Go.Proofs.Tryz renaming prog → V
open Go.Conc renaming stepG_seq → aw, stepG_region_end → aF
namespace Go.AM
variable {k A:Nat}{i:Int}{d j e w:Nat}{W:av}{H:aa->(Nat->Option Obj)->Prop}{L:Array Bool}{bE:Mem}{D:Nat}{P:aI}{br:ak->a6->Prop}{s:Code}{C:ak}{t:ap}{b:a6}{o:av}{ab:aa}{l X:aA}{α:Type}{η:aA->z}{ι:Type}{n:p an}{F:bJ}{all:p ap}{du:Array av}{cap:p N}{cV:p z}{lb:Nat->Option Obj}{ah:p aK}{bh:p (Nat×Bool)}{T:Nat->p N}{cR:aA}{gs:Array ak}{aP:p Nat}{ck:p Prop}{off:Nat}{op:BinOp}{aD:Array ap}{Y:p Prop}{bt:p ap}{az:a6}{ty:av}{val:Nat->Nat->aa}{B:p aa}{bi:au}{ag:Array aA}{ao dh:p an}{res:ι->z}{aM:ι->p an}
variable {CT:p (Nat×bL)}{ar:p il}{bf:fw}{ad:p (Nat×bx)}{a5:bx}
structure jb(α:Type) where
 a8:α->z
 d':z->Option (α×p Prop)
 ok:∀{I x t},d' I=h (x,t)->U t->∀{n:p an} {b:a6} {ab:aa},bz n b ab I->bz n b ab (a8 x)
def db:jb Int:=⟨S,λa=>match a with|.q (.aq (.c (.int .i64 b)))=>h (b,[])|_=>q,λ{a d g} e _ _ _ _ i=>by grind⟩
def eE:jb bD:=⟨b1,λa=>match a with|.q (.aq (.c (.V b)))=>h (b,[])|_=>q,λ{a d g} e _ _ _ _ i=>by grind⟩
def dF:jb Bool:=⟨bj,λa=>match a with|.q (.aq (.c (.bool b)))=>h (b,[])|_=>q,λ{a d g} e _ _ _ _ i=>by grind⟩
def e3(b:c1 α):jb (p α):=⟨b.S,λi=>match j2 b.bl i with|some (g,a)=>h (b.af g a,[b.bW g a])|none=>q,λ{i k l} d e _ _ _ j=>by
 split at d
 .rename_i g a he;cases d;exact b.cE he e j
 .cases d⟩
def sq:jb (Int×bD):=⟨λd=>.q (.agg [.c (.int .i64 d.1),.c (.V d.2)]),λb=>match b with|.q (.agg [.c (.int .i64 a),.c (.V e)])=>h ((a,e),[])|_=>q,λ{b a i} g _ _ _ _ j=>by grind⟩
def p7:jb (Int×Int):=⟨λd=>.q (.agg [.c (.int .i64 d.1),.c (.int .i64 d.2)]),λb=>match b with|.q (.agg [.c (.int .i64 a),.c (.int .i64 e)])=>h ((a,e),[])|_=>q,λ{b a i} g _ _ _ _ j=>by grind⟩
def jH(e:c1 α):jb (Int×p α):=⟨λk=>.q (.agg [.c (.int .i64 k.1),.c (.S m e.bl (c k.2) (e.fn k.2))]),λo=>match o with
 |.q (.agg [.c (.int .i64 l),.c r])=>match j2 e.bl (.q (.aq (.c r)))with|some (j,d)=>h ((l,e.af j d),[e.bW j d])|none=>q
 |_=>q,λ{o l w} g i _ b _ u=>by
 split at g
 .split at g
  .rename_i j d he;cases g;obtain⟨B,s,a⟩:=u
   match B,a with
   |[],a=>exact a.elim
   |[_],a=>exact a.2.elim
   |_::_::_::_,a=>exact a.2.2.elim
   |[x,t],a=>exact⟨_,s,a.1,e.cE (n:=[]) (b:=b) (ab:=t) he i a.2.1,v⟩
  cases g
 .cases g⟩
def dm(d:jb α)(a:α->z)(pre:α->p Prop):bL:=λargs e=>match args,e with
 |[g],[]=>match d.d' g with
  |some (b,i)=>h (a b,[],gJ i (pre b))
  |none=>q
 |_,_=>q
def er{b:Type}(g:jb α)(i:jb b)(a:α->b->z)(pre:α->b->p Prop):bL:=λargs j=>match args,j with
 |[k,l],[]=>match g.d' k with
  |some (d,n)=>match i.d' l with
   |some (e,o)=>h (a d e,[],gJ n (gJ o (pre d e)))
   |none=>q
  |none=>q
 |_,_=>q
def kn{b d:Type}(j:jb α)(k:jb b)(l:jb d)(a:α->b->d->z)(pre:α->b->d->p Prop):bL:=λargs n=>match args,n with
 |[o,r,s],[]=>match j.d' o with
  |some (e,t)=>match k.d' r with
   |some (g,u)=>match l.d' s with
    |some (i,v)=>h (a e g i,[],gJ t (gJ u (gJ v (pre e g i))))
    |none=>q
   |none=>q
  |none=>q
 |_,_=>q
section
variable {r:aj P}{ae:a4}{e w:Type}{O:jb α}{bX:jb e}{N:jb w}
def bM.bb{b:α->z}{pre:α->p Prop}(l:∀e,U (pre e)->Z r ae [O.a8 e] [] (b e) []):bM r ae (dm O b pre):=by
 intro args n g k i a d;unfold dm at a;split at a
 .split at a
  .rename_i o e t j;cases a;rw[U.Z]at d;exact(l e d.2).args λs B=>b6.imp (λ_ g=>O.ok j d.1 g) (λ_ g=>g) B
  cases a
 cases a
def bM.bn{d:α->e->z}{pre:α->e->p Prop}(n:∀i j,U (pre i j)->Z r ae [O.a8 i,bX.a8 j] [] (d i j) []):bM r ae (er O bX d pre):=by
 intro args o g l k a b;unfold er at a;split at a
 .split at a
  .rename_i u v i t s;split at a
   .rename_i j w cW;cases a;rw[U.Z,U.Z]at b;exact(n i j b.2.2).args λx B=>b6.imp (λ_ g=>O.ok s b.1 g) (b6.imp (λ_ g=>bX.ok cW b.2.1 g) (λ_ g=>g)) B
   cases a
  cases a
 cases a
def bM.c8{k:α->e->w->z}{pre:α->e->w->p Prop}(u:∀l j s,U (pre l j s)->Z r ae [O.a8 l,bX.a8 j,N.a8 s] [] (k l j s) []):bM r ae (kn O bX N k pre):=by
 intro args v g o n a b;unfold kn at a;split at a
 .split at a
  .rename_i x y C l t i;split at a
   .rename_i j A cW;split at a
    .rename_i s D d;cases a;rw[U.Z,U.Z,U.Z]at b;exact(u l j s b.2.2.2).args λE B=>b6.imp (λ_ g=>O.ok i b.1 g) (b6.imp (λ_ g=>bX.ok cW b.2.1 g) (b6.imp (λ_ g=>N.ok d b.2.2.1 g) (λ_ g=>g))) B
    cases a
   cases a
  cases a
 cases a
end
namespace R1
def e5(d:p z)(a:z):bL:=λargs b=>match b with|[]=>h (a,[],[args=d])|_=>q
def fu{b:aj V}{ae}{d}{res}(k:Z b ae d [] res []):bM b ae (e5 d res):=by
 intro args j l g e a i;unfold e5 at a;split at a
 .cases a;simp_all
 cases a
def k'(g:p z)(d:p an)(a:z)(b:p an):bL:=λargs e=>h (a,b,[args=g,e=d])
def l'{d:aj V}{ae}{e}{a aM}{res}(l:Z d ae e a res aM):bM d ae (k' e a res aM):=by intro args k n i g b j;cases b;simp_all
end R1
def lD(b:Mem):p aa->p N->Prop
 |[],[]=>True
 |e::B,d::a=>Rd b e d/\lD b B a
 |_,_=>False
structure ri(α:Type) where
 a8:α->p N
 cp:p N->Option (α×p Prop×p N)
 ok:∀{ah x t ba},cp ah=h (x,t,ba)->U t->∀{bE:Mem} {B:p aa},lD bE B ah->∃v1 v2,B=v1++v2/\lD bE v1 (a8 x)/\lD bE v2 ba
def lD.app{bE}:∀{g i:p aa}{a b:p N},lD bE g a->lD bE i b->lD bE (g++i) (a++b)
 |[],_,[],_,_,d=>d
 |_::_,_,_::_,_,e,j=>⟨e.1,e.2.app j⟩
 |[],_,_::_,_,d,_=>d.elim
 |_::_,_,[],_,d,_=>d.elim
def lD.aq{s}{e}(d:lD bE B (s::e)):∃a b,B=a::b/\Rd bE a s/\lD bE b e:=by
 cases B with
 |nil=>exact d.elim
 |cons a B=>exact⟨a,B,rfl,d⟩
def vd(e:c1 α):ri (p α):=⟨λo=>[.S m e.bl (c o) (e.fn o)],λg=>match g with
 |u::r=>match j2 e.bl (.q (.aq (.c u)))with|some (l,d)=>h (e.af l d,[e.bW l d],r)|none=>q
 |_=>q,λ{g y z r} i j s B k=>by
 split at i
 .split at i
  .rename_i l d he;cases i;obtain⟨ab,t,rfl,w,x⟩:=k.aq;exact⟨[ab],t,a,⟨e.cE (n:=[]) (b:=⟨[],s,default,λ_=>True⟩) (ab:=ab) he j w,v⟩,x⟩
  cases i
 .cases i⟩
def x'{l:Type}(O:ri α)(e:ri l):ri (α×l):=⟨λp=>O.a8 p.1++e.a8 p.2,λb=>match O.cp b with
 |some (k,n,o)=>match e.cp o with|some (r,y,z)=>h ((k,r),gJ n y,z)|none=>q
 |none=>q,λ{b k n o} d a A B g=>by
 split at d
 .rename_i w;split at d
  .rename_i C;cases d;rw[U.Z]at a;obtain⟨i,D,rfl,u,t⟩:=O.ok w a.1 g;obtain⟨v,j,rfl,x,s⟩:=e.ok C a.2 t;exact⟨i++v,j,(mu _ _ _).symm,u.app x,s⟩
  cases d
 .cases d⟩
def zB:p O->Option (p N)
 |[]=>h []
 |.c d::b=>match zB b with|some a=>h (d::a)|none=>q
 |_=>q
def D4:p N->p O
 |[]=>[]
 |b::a=>.c b::D4 a
def M6{n}{b}:∀{e:p O}{g:p N}{B:p aa},zB e=h g->bN n b B e->lD b.u B g
 |[],g,B,a,d=>by cases a;cases B with|nil=>trivial|cons=>exact d.elim
 |.c l::i,g,B,a,d=>by
  simp only[zB]at a;split at a
  .rename_i j;cases a;cases B with
   |nil=>exact d.elim
   |cons k B=>exact⟨d.1,M6 j d.2⟩
  cases a
 |.ptr ..::_,_,_,a,_=>by cases a
 |.r ..::_,_,_,a,_=>by cases a
 |.aR ..::_,_,_,a,_=>by cases a
 |.R ..::_,_,_,a,_=>by cases a
 |.any::_,_,_,a,_=>by cases a
def LK{n}{b}:∀{d:p N}{B:p aa},lD b.u B d->bN n b B (D4 d)
 |[],[],_=>trivial
 |_::_,_::_,a=>⟨a.1,LK a.2⟩
 |[],_::_,a=>a.elim
 |_::_,[],a=>a.elim
def Ay(d:ri α):jb α:=⟨λb=>.q (.agg (D4 (d.a8 b))),λk=>match k with
 |.q (.agg j)=>match zB j with
  |some e=>match d.cp e with|some (b,l,[])=>h (b,l)|_=>q
  |none=>q
 |_=>q,λ{k b l} a g u v w t=>by
 split at a
 .split at a
  .rename_i C;split at a
   .rename_i p;cases a;obtain⟨B,rfl,s⟩:=t;obtain⟨i,r,rfl,o,n⟩:=d.ok p g (M6 C s);cases r with
    |nil=>exact⟨i,by simp,LK o⟩
    |cons=>exact n.elim
   cases a
  cases a
 .cases a⟩
namespace R1
section
variable {r:aj V}
def Vw(i):Z r 96 [S i] [] (bj (cF i)) []:=by
 refine Z.K func96 rfl λd=>?_;by_cases b:1<=i
 .by_cases j:i<=99
  .refine a7 [(4,f),(7,f)] a bw (g.aw a ?_);simp[cF,b,j]
  refine a7 [(4,f),(7,m)] a bw (g.aw a ?_);simp[cF,b,j]
 refine a7 [(4,m)] a bV (g.aw a ?_);simp[cF,b]
def t96:bM r 96 (dm db (λa=>bj (cF a)) λ_=>[]):=.bb λa _=>Vw a
def aau{b}(a:e<c b):d6 (b.take (e+1))=(d6 (b.take e)&&ju (b.getD e 0)):=by unfold d6;grind[List.take_add_one]
def Di{j}:ju j=f↔97<=(j.toNat:Int)/\(j.toNat:Int)<=122:=by simp[ju];omega
def Kk{b}(g:e<c b)(d:ju (b.getD e 0)=m):d6 b=m:=by
 cases a:d6 b with
 |false=>rfl
 |true=>
  have:=aZ.1 a (b.getD e 0) M;grind
def VN(b):Z r 112 [b1 b] [] (bj (d6 b)) []:=by
 refine Z.K func112 rfl λo=>?_;have s:=o.V 0 a;refine a0 a v (g.eh (λd=>d<=c b/\d6 (b.take d)=f) (λd:Nat=>[(0,b1 b),(5,S (c b)),(6,S d)]) (λ_=>[]) (λd=>c b-d) 0 a E ⟨by omega,by simp[d6]⟩ a ?_);rintro d ⟨p,l⟩;by_cases e:d<c b
 .by_cases j:ds b d<97
  .refine a7 [(7,f),(12,f)] a ?_ (g.bV (bW.zero a ?_))
   .simp[-al,e,km,j]
   have:ju (b.getD d 0)=m:=by
    cases k:ju (b.getD d 0)with
    |false=>rfl
    |true=>have:=Di.1 k;unfold ds at j;omega
   simp[Kk e this]
  by_cases i:ds b d<=122
  .refine a7 [(7,f),(12,m),(17,m)] a ?_ (g.again (d+1) a ?_ ?_ ?_ a)
   .simp[-al,e,km,j,i,a8];grind
   .simp
   .refine⟨by omega,?_⟩;rw[aau e,l,fr];exact Di.2 (by unfold ds at j i;omega)
   omega
  refine a7 [(7,f),(12,m),(17,f)] a ?_ (g.bV (bW.zero a ?_))
  .simp[-al,e,km,j];grind
  have:ju (b.getD d 0)=m:=by
   cases k:ju (b.getD d 0)with
   |false=>rfl
   |true=>have:=Di.1 k;unfold ds at i;omega
  simp[Kk e this]
 have n:d=c b:=y;subst n;refine a7 [(7,m)] a E (g.bu a a ?_);refine a0 a v (g.aw a ?_);simp_all
def adY:bM r 112 (dm eE (λb=>bj (d6 b)) λ_=>[]):=.bb λa _=>VN a
abbrev aew:p (Nat×bL):=[(96,dm db (λa=>bj (cF a)) λ_=>[]),(112,dm eE (λb=>bj (d6 b)) λ_=>[])]
def BT:a9 r aew:=.cons t96 (.cons adY .nil)
def WP(b):Z r 249 [b1 b] [] (bj (cC b)) []:=by
 refine Z.K func249 rfl λe=>?_;by_cases d:1<=c b
 .by_cases j:c b<=8
  .refine a' BT [(5,f),(9,f),(11,f)] a bV (g.aw a ?_);simp[cC,d,j]
  refine a' BT [(5,f),(9,m),(11,m)] a bV (g.aw a ?_);simp[cC,d,j]
 refine a' BT [(5,m),(11,m)] a bV (g.aw a ?_);simp[cC,d]
def Ex:bM r 249 (dm eE (λb=>bj (cC b)) λ_=>[]):=.bb λa _=>WP a
def T0(d:Nat)(j:d<=4000000):Z r 251 [S d] [] (S (e8 d)) []:=by
 refine Z.K func251 rfl λl=>?_;by_cases i:d<1
 .refine a7 [(5,f),(9,f)] a bV (g.aw a ?_);simp[e8,i]
 by_cases e:8<d
 .refine a7 [(5,m),(8,f)] a bV (g.aw a ?_);simp[e8,e]
 refine a7 [(5,m),(8,m)] a bV ?_;have n:e8 d=2∨e8 d=4∨e8 d=8:=FV;refine g.eh (λb:Nat=>(b=2∨b=4∨b=8)/\b<=e8 d) (λb:Nat=>[(0,S d),(3,S b)]) (λ_=>[]) (λb=>8-b) 2 a E ⟨by simp,by omega⟩ a ?_;rintro b ⟨k,x⟩;by_cases j:b<d
 .exact a7 [(12,f)] a lL (g.again (2*b) a bV NW y a)
 refine a7 [(12,m)] a bV (g.bu a a ?_);refine a0 a v (g.aw a ?_);have:b=e8 d:=NW;simp[this]
theorem adh(b)(j):fk (b++[j])=if j=46 then fk b else b++[j]:=by unfold fk;grind[List.dropWhile_cons]
def Mw{b}(a:k<c b):fk (b.take (k+1))=if b.getD k 0=46 then fk (b.take k)else b.take (k+1):=by grind[List.take_add_one,adh]
theorem XO(b):Z r 291 [b1 b,u6 46] [] (b1 (fk b)) []:=by
 refine Z.K func291 rfl λi=>?_;have o:=i.V 0 a;refine a0 a v (g.eh (λk=>k<=c b/\fk (b.take k)=fk b) (λk:Nat=>[(0,b1 (b.take k)),(1,u6 46)]) (λ_=>[]) (λk=>k) (c b) a E ⟨by omega,by simp⟩ a ?_);rintro k ⟨p,d⟩;cases k with
 |zero=>
  refine a7 [(7,m),(16,m)] a E (g.bu a a ?_);refine a0 a v (g.aw a ?_);have:fk b=[]:=by rw[<-d];rfl
  simp[this]
 |succ k=>
  have I:c (b.take (k+1))=k+1:=M;have C:ds (b.take (k+1)) k=ds b k:=by simp[ds,al,iq]
  have l:=Mw (b:=b) (k:=k) y;have j:((k:Int)+1-1).toNat=k:=y;by_cases e:b.getD k 0=46
  .refine a7 [(7,f),(15,f),(16,f)] a ?_ (g.again k a ?_ ?_ ?_ a)
   .have s:ds b k=46:=by unfold ds;exact bH
    exact QT
   .simp;show(b.take (k+1)).take _=_;grind
   .grind
   simp
  refine a7 [(7,f),(15,m),(16,m)] a ?_ (g.bu a a ?_)
  .have s:ds b k≠46:=by unfold ds;intro n;exact e (uB.1 M)
   exact QT
  refine a0 a v (g.aw a ?_);rw[l,bm e]at d;simp[d]
def GX:bL:=λargs a=>match args,a with
 |[.q (.aq (.c (.V b))),.q (.aq (.c (.int .u8 46)))],[]=>h (b1 (fk b),[],[])
 |_,_=>q
def t291:bM r 291 GX:=by intro args g b d a e _;unfold GX at e;grind[XO]
theorem XN(b):Z r 254 [b1 b,b1 [46]] [] (b1 (fk b)) []:=by
 refine Z.K func254 rfl λi=>?_;by_cases d:b=[]
 .subst d;refine a' (a9.cons t291 .nil) [(8,f),(12,f)] a E (g.aw a ?_);exact bH
 refine a' (a9.cons t291 .nil) [(8,m),(11,m),(12,m),(16,f),(20,f),(21,f)] a ?_ (g.aw a);cases b with
 |nil=>grind
 |cons e j=>simp;decide
def Bl:bL:=λargs a=>match args,a with
 |[.q (.aq (.c (.V b))),.q (.aq (.c (.V [46])))],[]=>h (b1 (fk b),[],[])
 |_,_=>q
def adv:bM r 254 Bl:=by intro args g b d a e _;unfold Bl at e;grind[XN]
def HO{a:bD}(b:e<c a):gi (a.take (e+1))=27*gi (a.take e)+(ds a e-97) % 256+1:=by unfold gi;rw[w6,bK b];simp only[uE,Option.toList_some,iI,List.foldl_nil,ds,al,bK b,h4]
def xF{a:bD}(d:cC a=f)(l:e<=c a):0<=gi (a.take e)/\gi (a.take e)<282429536481:=by simp[cC,cp,bA]at d;obtain⟨j,b⟩:=BW (a.take e) 0 1 0 (λi g=>qI d.2 i (gV g)) y y y;have:=Lq (k:=c (a.take e)) M;rw[Int.one_mul]at b;exact⟨j,Int.lt_of_lt_of_le b this⟩
def C1{a:bD}(b:e<c a):a.getD e 0∈a:=M
abbrev aex:p (Nat×bL):=[(96,dm db (λa=>bj (cF a)) λ_=>[]),(249,dm eE (λb=>bj (cC b)) λ_=>[])]
def iw:a9 r aex:=.cons t96 (.cons Ex .nil)
abbrev Ca(a:Int):z:=.Q [.aq (.c (.int .i64 a)),.aq (.c .bq)]
def Wj(d:Int)(b:bD)(n:cF d=f)(i:cC b=f):Z r 244 [S d,b1 b] [] (Ca (d8 d b)) []:=by
 refine Z.K func244 rfl λA=>?_;have k:=i;simp[cC,cp,bA]at k;have s:=n;simp[cF,cp,bA]at s;refine a' iw [(8,m),(13,m)] a dD (g.eh (λe=>e<=c b) (λe:Nat=>[(0,S d),(1,b1 b),(6,S (gi (b.take e))),(19,S (c b)),(20,S e)]) (λ_=>[]) (λe=>c b-e) 0 a (by simp[gi]) y a ?_);intro e l;by_cases j:e<c b
 .have p:=xF i l;have B:=xF i (e:=e+1) y;have o:=HO j;refine a7 [(21,f)] a ?_ (g.again (e+1) a ?_ ?_ ?_ a)
  .simp only[U,km,a8];simp[-al,j,km];have x:=qI k.2 (b.getD e 0) (C1 j);have t:97<=ds b e/\ds b e<=122:=EX;omega
  .have x:=qI k.2 (b.getD e 0) (C1 j);have t:97<=ds b e/\ds b e<=122:=EX;have C:(ds b e-97) % 256=ds b e-97:=Int.emod_eq_of_lt y y;exact bH
  .grind
  grind
 have o:e=c b:=y;subst o;have p:=xE i;refine a7 [(21,m)] a E (g.bu a a ?_);refine a0 a ?_ (g.aw a ?_)
 .rw[c8];have w:0<=gi b*(2*d+1):=Int.mul_nonneg p.1 y;have u:gi b*(2*d+1)<=282429536481*199:=Int.mul_le_mul y y y y;generalize gi b*(2*d+1)=z at w u;exact uc
 rw[c8];refine U.Z.2 ⟨?_,U.Z.2 ⟨a,v⟩⟩;show(_:Int)=_;rw[Int.mul_comm 7919 d];rfl
def t244:bM r 244 (er db eE (λa b=>Ca (d8 a b)) λa b=>[cF a=f,cC b=f]):=.bn λa b d=>Wj a b d.1 d.2
def Dz(k:t.op=.binOp op o l (.const .nilIface) ty){u:Bool}{s:Array (String×av)}(x:P.underlying o=h (.interface s))(z:η l=ax .bq)(y:η (.const .nilIface)=ax .bq)(r:ia op f=h u):a1 P t η n (ax (.bool u)) n:=by
 refine .aZ λe g C w=>?_;have d:=w l;have b:=w (.const .nilIface);rw[z]at d;rw[y]at b;replace d:=b8 d;replace b:=b8 b;generalize i:g l=A at d;generalize j:g (.const .nilIface)=B at b;cases d;cases b;have p:(Op.equal o .nilIface .nilIface).run P e.a=.ok f e.a:=by show(aQ (9999+1) o _ _).run P e.a=_;unfold aQ;simp[underlying,x]
 have v:∀a,(Op.equal o .nilIface .nilIface).events P e.a a=a:=λa=>by show(aQ (9999+1) o _ _).events P e.a a=a;unfold aQ;simp[underlying,x]
 cases op<;>simp[ia,reduceCtorEq,eV]at r
 .subst r;exact⟨.bool f,by simp[ac,k,i,j,eqGuard,binOp,p],Rd.bool,by simp[ac,k,i,j,eqGuard,binOp,p,v]⟩
 subst r;exact⟨.bool m,by simp[ac,k,i,j,eqGuard,binOp,p],Rd.bool,by simp[ac,k,i,j,eqGuard,binOp,p,v]⟩
def Wh(b:Int)(d:bD)(e:Int)(i:cF b=f)(j:cC d=f):Z r 216 [S b,b1 d,S e] [] (bj (d8 b d==e)) []:=by refine Z.K func216 rfl λk=>?_;refine a' (a9.cons t244 .nil) [(17,f)] a dD ?_;refine g.aO (Dz a underlying156 a a a) a a ?_;refine a' (a9.cons t244 .nil) [(17,f)] a oX (g.aw a ?_);simp
def ads:bM r 216 (kn db eE db (λa b d=>bj (d8 a b==d)) λa b _=>[cF a=f,cC b=f]):=.c8 λa b d e=>Wh a b d e.1 e.2
abbrev mC(a:Int):z:=ax (.int .u64 a)
def _root_.Go.AM.b0.fz{t:aj P}{aN}{l X}(C:b0 t D X aN F n):b0 t D (.cond (.const (.bool m)) l X) aN F n:=by intro J v A d w E j u p k;refine .ctl d a (λ_=>zc (o:=m) a) λy b=>?_;exact C y v (A.rely b d) (d.rely b) w E j u p λz e g r i I x B s=>k z e g r i I x B (b.aQ.trans s)
def _root_.Go.AM.g.fz{P:aI}{a:aj P}{D}{bf}{ar}{F}{n}{l X}(b:g a D bf (.code X::ar) .normal F n):g a D bf (.code (.cond (.const (.bool m)) l X)::ar) .normal F n:=b0.fz b
def J_{i d}{k j}(s)(u:t.op=.binOp op o l X ty)(A:η l=ax (.int i k))(z:η X=ax (.int d j))(x:a8 i s)(p:∀g,(binOp op o (.int i k) (.int d j)).run P g=.ok (.int i s) g)(y:∀g,(binOp op o (.int i k) (.int d j)).events P g #[]=#[]):
  a1 P t η n (ax (.int i s)) n:=by refine .aZ λD e E w=>?_;have b:=w l;have a:=w X;rw[A]at b;rw[z]at a;replace b:=b8 b;replace a:=b8 a;generalize r:e l=B at b;generalize v:e X=C at a;cases b;cases a;exact⟨.int i s,by simp only[ac,u,cK,r,v,qq,c7,p,d9],.int x,by simp[ac,u,r,v,qq,x3,p,y]⟩
def Wd:Z r 308 [mC 1,mC 2] [] (.Q [.aq (.c (.int .u64 0)),.aq (.c (.int .u64 2))]) []:=Q9
def We:Z r 308 [mC 1,mC 3] [] (.Q [.aq (.c (.int .u64 0)),.aq (.c (.int .u64 3))]) []:=Q9
def GY:bL:=λargs b=>match args,b with
 |[.q (.aq (.c (.int .u64 1))),.q (.aq (.c (.int .u64 a)))],[]=>h (.Q [.aq (.c (.int .u64 0)),.aq (.c (.int .u64 a))],[],[a=2∨a=3])
 |_,_=>q
def MB:bM r 308 GY:=by
 intro args i e g d a b;unfold GY at a;split at a
 .cases a;rcases b with rfl|rfl
  .exact Wd
  exact We
 grind
def Wc(b:Int)(d:b=2∨b=3):Z r 289 [mC 1,mC b] [] (.Q [.aq (.c (.int .u64 0)),.aq (.c (.int .u64 b))]) []:=by refine Z.K func289 rfl λe=>?_;refine ca (a9.cons MB .nil) a v ?_;refine g.fz ?_;refine ca (a9.cons MB .nil) a ?_ (g.aw a);exact bw
def Bm:bL:=λargs b=>match args,b with
 |[.q (.aq (.c (.int .u64 1))),.q (.aq (.c (.int .u64 a)))],[]=>h (.Q [.aq (.c (.int .u64 0)),.aq (.c (.int .u64 a))],[],[a=2∨a=3])
 |_,_=>q
def t289:bM r 289 Bm:=by
 intro args i e g d a b;unfold Bm at a;split at a
 .cases a;exact Wc _ b
 grind
abbrev lK:bL:=dm eE (λa=>b1 (fI a)) λ_=>[]
abbrev iQ(a:Option bD):z:=.Q [.aq (.c (.V (a.getD []))),.aq (.c (.bool a.isSome))]
def WE(i:bM r 204 lK)(j):Z r 215 [b1 j] [] (iQ (hI j)) []:=by
 refine Z.K func215 rfl λl=>?_;have d:a9 r [(254,Bl),(249,dm eE (λk=>bj (cC k)) λ_=>[]),(204,lK)]:=.cons adv (.cons Ex (.cons i .nil));by_cases b:cC (fk j)=f
 .by_cases e:fI (fk j)=j
  .refine a' d [(10,m),(15,m)] a dD (g.aw a ?_);simp[hI,b,e]
  refine a' d [(10,m),(15,f)] a dD (g.aw a ?_);simp[hI,b,e]
 refine a' d [(10,f),(15,f)] a ?_ (g.aw a ?_)
 .simp[b]
 simp[hI,b]
def ad'(b:bM r 204 lK):bM r 215 (dm eE (λa=>iQ (hI a)) λ_=>[]):=.bb λa _=>WE b a
def K7{j a}(b:hI j=h a):cC a=f:=by unfold hI at b;grind
abbrev B_(a:cY):z:=sq.a8 a
def TW(n:bM r 204 lK)(l)(i)(b:cF i=f):Z r 177 [B_ l,S i] [] (iQ (iL i l)) []:=by
 refine Z.K func177 rfl λs=>?_;have e:a9 r [(215,dm eE (λk=>iQ (hI k)) λ_=>[]),(216,kn db eE db (λi d o=>bj (d8 i d==o)) λi d _=>[cF i=f,cC d=f])]:=.cons (ad' n) (.cons ads .nil);cases x:hI l.2 with
 |none=>
  refine a' e [(16,f),(23,f)] a oY (g.aw a ?_);simp[iL,x]
 |some d=>
  have p:=K7 x;by_cases j:d8 i d=l.1
  .refine a' e [(16,m),(23,m)] a dD (g.aw a ?_);simp[iL,x,j,b]
  refine a' e [(16,m),(23,f)] a dD (g.aw a ?_);simp[iL,x,j,b]
def MD(d:bM r 204 lK):bM r 177 (er sq db (λb a=>iQ (iL a b)) λ_ a=>[cF a=f]):=.bn λb a e=>TW d b a e
def Vm(l)(k):Z r 301 [B_ l,ax (.O [.int .i64 k])] [] (bj (l.1==k)) []:=by refine Z.K func301 rfl λb=>?_;exact a0 a v (g.aw a)
def Bo:bL:=λargs d=>match args,d with
 |[.q (.agg [.c (.int .i64 b),.c (.V a)]),.q (.aq (.c (.O [.int .i64 e])))],[]=>h (bj (b==e),[],[a=a])
 |_,_=>q
def adx:bM r 301 Bo:=by
 intro args l d e b a i;unfold Bo at a;split at a
 .rename_i j g k;cases a;exact Vm (j,g) k
 grind
abbrev Id(a:Int):z:=ax (.fn (.func 301) [] [.O [.int .i64 a]])
def pr(b:p cY)(d:Int):Int:=match b.findIdx? (λe=>e.1==d)with|some a=>a|none=>-1
def Z1{o}{k}(a:e<c o)(j:(o.getD e (0,[])).1=k)(g:∀b,b<e->(o.getD b (0,[])).1≠k):pr o k=e:=by
 have:o.findIdx? (λd=>d.1==k)=h e:=by rw[AR];refine⟨a,M,λb i=>?_⟩;grind
 rw[pr,this]
def Z3{o}{k}(d:∀a,a<c o->(o.getD a (0,[])).1≠k):pr o k=-1:=by have:o.findIdx? (λb=>b.1==k)=q:=wD;rw[pr,this]
def U4(o)(k):Z r 300 [bI.S o,Id k] [] (S (pr o k)) []:=by
 refine Z.K func300 rfl λj=>?_;have p:=j.S 0 a;have d:a9 r [(301,Bo)]:=.cons adx .nil;refine ca d a v (g.cc (λb=>b<=c o/\∀e,e<b->(o.getD e (0,[])).1≠k) (λb:Nat=>[(0,bI.S o),(1,Id k),(7,S (c o)),(8,S b)]) (λ_=>[]) (λb=>c o-b) 0 a E a v ⟨by omega,by omega⟩ ?_);rintro b ⟨n,i⟩;by_cases l:b<c o
 .by_cases s:(o.getD b (0,[])).1=k
  .refine a' d [(9,f),(16,f)] a ?_ (g.bV (bW.zero a ?_))
   .simp only[U,c9];grind
   simp[Z1 l s i]
  refine a' d [(9,f),(16,m)] a ?_ (g.b5 (b+1) a ?_ a v ?_ ?_)
  .simp only[U,c9];exact⟨by exact bH,v,eY.2 s,by omega,by omega,fq y⟩
  .simp
  .grind
  omega
 refine a' d [(9,m)] a bV (g.bu a a ?_);refine ca d a v (g.aw a ?_);simp[Z3 (λe t=>i e y)]
def Bn:bL:=λargs d=>match args,d with
 |[e,.q (.aq (.c (.fn (.func 301) [] [.O [.int .i64 g]])))],[]=>match j2 2 e with
  |none=>q
  |some (b,a)=>h (S (pr (bI.af b a) g),[],[bI.bW b a])
 |_,_=>q
def adw:bM r 300 Bn:=by
 intro args n i j g a d;unfold Bn at a;split at a
 .rename_i o k;split at a
  .cases a
  rename_i p l b;cases a;exact(U4 _ k).args (λ_ B=>b6.imp (λ_=>bI.cE b d) (b6.imp (λ_ e=>e) (λ_ e=>e)) B)
 grind
def Z2(o)(k):(pr o k=-1/\o.find? (λb=>b.1==k)=q)∨∃a:Nat,a<c o/\pr o k=a/\o.find? (λb=>b.1==k)=h (o.getD a (0,[])):=by unfold pr;grind[List.findIdx?_eq_some_iff_getElem,List.find?_eq_some_iff_getElem]
def Wx(l:bM r 204 lK)(i)(b)(k)(o:cF i=f):Z r 274 [S i,fG b,S k] [] (iQ (fP i b k)) []:=by
 refine Z.K func274 rfl λt=>?_;have d:a9 r [(300,Bn),(177,er sq db (λp i=>iQ (iL i p)) λ_ i=>[cF i=f])]:=.cons adw (.cons (MD l) .nil);have u:bI.af (c b.2) (bI.fn b.2)=b.2:=bI.E _;refine gR [] 7 a v (g.freeze 5 1 a a a ?_);rcases Z2 b.2 k with⟨n,j⟩|⟨e,bq,n,j⟩
 .refine a' d [(14,f)] a bH (g.aw a ?_);simp[fP,j]
 refine a' d [(14,m)] a bH (g.aw a ?_);have s:fP i b k=iL i (b.2.getD e (0,[])):=by simp only[fP,j]
 simp_all
def aef(e:bM r 204 lK):bM r 274 (kn db (jH bI) db (λa d b=>iQ (fP a d b)) λa _ _=>[cF a=f]):=.c8 λa d b g=>Wx e a d b g
def yv:∀b(a:UInt8),Lib.indexByte b a<c b∨Lib.indexByte b a=-1
 |[],a=>.inr (by rw[Lib.indexByte.eq_def])
 |e::b,a=>by have d:=yv b a;grind[Lib.indexByte.eq_def]
set_option maxRecDepth 20000 in
theorem Ve(b)(s):Z r 237 [b1 b,u6 s.toNat] [] (S (Lib.indexByte b s)) []:=by
 refine Z.K func237 rfl λK=>?_;have Q:=K.V 0 a;refine a0 a v (g.aq (l:=S (Lib.indexByte b s)) (ao:=[]) ?_ a ?_)
 .refine aV.a2 (λ_ _ _ _=>ja oX) ?_;refine a1.dy λe d aa i=>?_;have u:=b8 (i (.tmp 5));have t:=b8 (i (.tmp 6));generalize p:d (.tmp 5)=M at u;generalize j:d (.tmp 6)=N at t;cases u with
  |V B I=>
  cases t with
  |int J=>
  have n:d (.func 284)=.func (.func 284) #[] #[]:=by
   have:=b8 (i (.func 284));generalize d (.func 284)=Y at this;cases this with
   |fn D z R w X W x y d1 d2=>
    grind
  have C:(callFunc 284 #[.string ‹ByteArray›,.int .u8 s.toNat]).run V e.a=.ok (.value (.int .i64 (Lib.indexByte b s))) e.a:=by rw[run_callFunc_extern func284 b3 b3 b3 (e:=Extern.BytealgIndexByte.indexByte) b3,Lib.run_indexByteString];simp_all
  have F:dE V (Extern.BytealgIndexByte.indexByte #[.string ‹ByteArray›,.int .u8 s.toNat]):=by
   refine dE.bind (A:=Extern.Bytes.bytesOf (.string ‹ByteArray›)) (λ_ _=>rfl) λw=>dE.bind (A:=Extern.Bytes.asByte (.int .u8 s.toNat)) (λ_ _=>?_) λT=>?_
   .simp[Extern.Bytes.asByte]
   .skip
    split<;>exact .pure
  have E:=Iy func284 b3 b3 b3 (ai:=Extern.BytealgIndexByte.indexByte) b3 _ F e.a #[];refine⟨.int .i64 (Lib.indexByte b s),?_,Rd.int ?_,?_⟩
  rotate_left 2
  .intro o k;simp[ac,resolve,Deferred.ofValue,invoke,p,j,n,E]at k;subst k;exact .inr ⟨_,a⟩
  .simp[ac,resolve,Deferred.ofValue,invoke,p,j,n,C]
  have O:=Lib.indexByte_ge b s;have ab:=yv b s;exact cU
 exact wz
def sN(a:Nat->Int):Nat->p N:=λb=>[.int .u8 (a b)]
def Bytes(a:Nat->Int):Prop:=∀b,0<=a b/\a b<=255
abbrev ei(d:Nat)(a:Nat->Int)(b:Int):an:=.cells 64 [.c (.S m 1 d (sN a)),.c (.int .i64 b)]
def bl.cw{e}{fn}{args}{a:ι->p an}(o:Tryz.prog.funcs[e]?=h fn)(l:(fn.name== "runtime.NumGoroutine")=m)(d:fn.body=h s)(k:ay args.length fn.ntmps=f)(v:kF args n->g r fn.ntmps (λt j b=>∃i,bW fn n.length (res i) (a i) t j b) [.code s] .normal (h6 0 args) n):bl r e args n res a:=
 bl.e6 o l d k λu=>b0.bA (g.aW (v u))
def g.bM{fn}{d}{a:ι->p an}(e)(k:g r D (bW fn d (res e) (a e)) ar .normal F n):g r D (λj F b=>∃i,bW fn d (res i) (a i) j F b) ar .normal F n:=
 g.bS (λ_ _ _ l=>⟨e,l⟩) k
def qR(b:Nat)(d:Nat->Int)(a:Nat)(e:Int):Int:=
 if b=0 then 0 else if a<b then d a % e else
  ((d ((a:Int) % b).toNat*131+d (((a:Int)*7+3) % b).toNat*1117+a*29+(a:Int) / b*53).toNat ^^^ ((d ((a:Int) % b).toNat*131+d (((a:Int)*7+3) % b).toNat*1117+a*29+(a:Int) / b*53) / 64).toNat:Nat) % e
set_option maxRecDepth 20000 in
def I2(A)(d:Nat->Int)(n:Bytes d)(b:Nat)(k)(s:b<=4000000)(z:A<=1048576)(M:1<=k/\k<=4000000):
  Z r 28 [aH 0 0,S k] [ei A d b] (S (qR A d b k)) [ei A d (b+1)]:=by
 refine Z.K func28 rfl λv=>?_;have j:∀e,e<c ([ei A d b]:p an)->([0]:p Nat)[e]?=h e:=λe C=>by grind
 by_cases l:A=0
 .subst l;refine a7 [(17,m),(24,f)] a cU (g.aS [0] a ?_ j);exact cU
 have i:((b:Int)+1-1)=b:=y;have x:((b:Int)+1-1).toNat=b:=y;have w:=n b;by_cases E:(b:Int)<A
 .refine a7 [(17,m),(24,m),(36,f)] a ?_ (g.aS [0] a ?_ j)
  .simp only[U,i,c9,bA,dr,eY,a8];omega
  have:b<A:=y;simp[qR,l,this]
 refine bR [(17,m),(24,m),(36,m)] a ?_ (g.aS [0] a ?_ j)
 .simp only[U,i,dr,eY,a8];have o:(0:Int)<A:=y;have B:=sC (b:Int) (by omega:(A:Int)≠0);have D:=sw (b:Int) o;have u:=sC ((b:Int)*7+3) (by omega:(A:Int)≠0);have F:=sw ((b:Int)*7+3) o;have w1:0<=(b:Int) / A:=Int.ediv_nonneg y y;have w2:(b:Int) / A<=b:=Int.ediv_le_self _ y;generalize(b:Int) % A=t at *;generalize((b:Int)*7+3) % A=ab at *;generalize(b:Int) / A=I at *;have J:=n t.toNat;have K:=n ab.toNat;grind
 have:¬b<A:=y;simp[qR,l,this,i]
def Lc(A)(a:Nat->Int)(i)(k)(b:1<=k):0<=qR A a i k/\qR A a i k<k:=by
 unfold qR;split
 .omega
 split
 .exact⟨sC _ y,sw _ y⟩
 exact⟨sC _ y,sw _ y⟩
def hP(A)(a:Nat->Int)(t:Bytes a)(b:Nat)(k)(j:b<=4000000)(s:A<=1048576)(n:1<=k/\k<=4000000):
  bl (ι:={d:Int // 0<=d/\d<k}) r 28 [aH 0 0,S k] [ei A a b] (λd=>S d.1) (λ_=>[ei A a (b+1)]):=by have o:=I2 (r:=r) A a t b k j s n;exact⟨o.1,λu B l i p e g=>o.2 u B l i p e (g ⟨_,Lc A a b k n.1⟩)⟩
def np:∀a,a<1->([0]:p Nat)[a]?=h a:=λa b=>by grind
set_option maxRecDepth 20000 in
def Cw(A)(b:Nat->Int)(o:Bytes b)(e:Nat)(i:e<=4000000)(n:A<=1048576)(d)(u:1<=c d/\c d<=1000):
  bl (ι:={j:bD // j∈d}) r 62 [aH 0 0,bS.S d] [ei A b e] (λj=>b1 j.1) (λ_=>[ei A b (e+1)]):=by refine bl.cw func62 rfl rfl rfl λt=>?_;refine a0 a v (g.a' (hP A b o e (c d) i n y) [0] a bp ?_);rintro⟨k,p,s⟩;refine a0 a bV ?_;have l:d.getD k.toNat bS.I∈d:=M;refine g.bM ⟨d.getD k.toNat bS.I,l⟩ (g.aS [0] a ?_ np);simp
def K_:p bD:=[[],[102],[97,47],[97,98],[97,47,98,47,99],[47,97]]
def K':p bD:=[[97],[98],[99,47,97],[99,47,98],[100,47,97],[101],[97,47,98],[100]]
set_option maxRecDepth 20000 in
def I1(A)(d:Nat->Int)(l:Bytes d)(i:Nat)(n:i<=100000)(k:A<=1048576):
  bl (ι:={b:bD // c b<=8}) r 60 [aH 0 0] [ei A d i] (λb=>b1 b.1) (λ_=>[ei A d (i+1+1)]):=by
 refine bl.cw func60 rfl rfl rfl λt=>?_;refine a0 a v (g.a' (hP A d l i 40 y k y) [0] a bp ?_);rintro⟨o,p,s⟩;by_cases u:o=0
 .refine a7 [(5,f)] a g4 ?_;have:=Cw (r:=r) A d l (i+1) y k K_ cc;refine g.b3 this [0] a a a a ?_ a a a bp a bp a ?_
  .refine⟨a,λe bq=>?_⟩;rcases e with _|_|_|_|_|_|e<;>first|rfl|omega
  rintro⟨b,j⟩;refine a0 a v (g.bM ⟨b,(by decide:∀b∈K_,c b<=8) b j⟩ (g.aS [0] a ?_ np));simp
 refine a7 [(5,m)] a g4 ?_;have:=Cw (r:=r) A d l (i+1) y k K' cc;refine g.b3 this [0] a a a a PX a a a bp a bp a ?_;rintro⟨b,j⟩;refine a0 a v (g.bM ⟨b,(by decide:∀b∈K',c b<=8) b j⟩ (g.aS [0] a ?_ np));simp
def Nk:p bD:=[[97,98,99],[104,101,108,108,111],[119,111,114,108,100],[97,97,97,97],[107,101,101,112],[122,122],[98,97,99,107,117,112],[113]]
abbrev RO(b:Nat):={a:bD×Nat // c a.1<=100000/\b<=a.2/\a.2<=b+60}
def IV(b)(k)(w:c b<=10)(B:0<=k/\k<=100):bl (ι:={o:bD // c o<=100000}) r 104 [b1 b,S k] [] (λo=>b1 o.1) (λ_=>[]):=by
 refine bl.cw func104 rfl rfl rfl λx=>?_;refine a0 a v (g.cc (λl:Nat×bD×bD=>l.1<=100/\c l.2.2+c l.2.1*l.1<=1010) (λl=>[(0,b1 l.2.1),(1,S l.1),(5,b1 l.2.2)]) (λ_=>[]) (λl=>l.1) (k.toNat,b,[]) a bV a v ⟨by grind,?_⟩ ?_)
 .have:c b*k.toNat<=10*100:=Nat.mul_le_mul w y;grind
 rintro⟨d,i,j⟩ ⟨s,t⟩;simp only at s t;by_cases n:0<d
 .have e:c i<=c i*d:=uA _ n;have z:((d:Int) / 2)=((d / 2:Nat):Int):=y;by_cases A:d % 2=1
  .have p:c (i++i)*(d / 2)+c i=c i*d:=by have u:d=2*(d / 2)+1:=y;grind
   refine a7 [(7,f),(10,f)] a bw (g.b5 (d / 2,i++i,j++i) a E a v M ?_);grind
  have p:c (i++i)*(d / 2)=c i*d:=by have u:d=2*(d / 2):=y;grind
  refine a7 [(7,f),(10,m)] a bw (g.b5 (d / 2,i++i,j) a E a v M ?_);grind
 obtain rfl:d=0:=y;refine a7 [(7,m)] a E (g.bu a a ?_);exact a0 a v (g.bM ⟨j,by omega⟩ (g.aw a))
set_option maxRecDepth 20000 in
def XG(A)(d:Nat->Int)(k:Bytes d)(i)(I:i<=100000)(l:A<=1048576):
  bl (ι:=RO i) r 61 [aH 0 0] [ei A d i] (λw=>b1 w.1.1) (λw=>[ei A d w.1.2]):=by
 refine bl.cw func61 rfl rfl rfl λO=>?_;refine a0 a v (g.a' (hP A d k i 5 y l y) [0] a bp ?_);rintro⟨T,U,V⟩;refine a0 a v (g.aL 1 (λb:Nat×bD×Nat=>b.1<=4/\c b.2.1+6*b.1<=24/\i<=b.2.2/\b.2.2+b.1<=i+5) (λb=>[(0,aH 0 0),(4,S b.1),(3,b1 b.2.1)]) (λb=>[ei A d b.2.2]) (λb=>b.1) (T.toNat,[],i+1) a bV a E a ⟨by omega,by grind,by simp,by grind⟩ ?_);rintro⟨n,b,k1⟩ ⟨C,J,F,Z⟩;simp only at C J F Z;by_cases u:0<n
 .refine a7 [(9,f)] a g4 ?_;have:=Cw (r:=r) A d k k1 y l Nk cc;refine g.b3 this [0] a a a a PX a a a bp a bp a ?_;rintro⟨j,s⟩;have ae:c j<=6:=(by decide:∀j∈Nk,c j<=6) j s;refine a0 a oV (g.aB (n-1,b++j,k1+1) a bV E M ?_);grind
 obtain rfl:n=0:=y;refine a7 [(9,m)] a E (g.aC ?_);refine a0 a v (g.a' (hP A d k k1 4 y l y) [0] a bp ?_);rintro⟨R,ab,ad⟩;by_cases B:R=0
 .refine a7 [(19,f)] a (by simp[B]) (g.a' (hP A d k (k1+1) 12 y l y) [0] a bp ?_);rintro⟨W,X,w1⟩;refine a0 a v (g.aL 1 (λb:Nat×bD×Nat=>b.1<=11/\c b.2.1+b.1<=36/\i<=b.2.2/\b.2.2+b.1<=i+20) (λb=>[(0,aH 0 0),(5,S b.1),(3,b1 b.2.1)]) (λb=>[ei A d b.2.2]) (λb=>b.1) (W.toNat,b,k1+2) a bV a bV a ⟨by omega,by grind,by grind,by grind⟩ ?_);rintro⟨n,o,p⟩ ⟨z,Q,H,N⟩;simp only at z Q H N;by_cases u:0<n
  .refine a7 [(23,f)] a g4 (g.a' (hP A d k p 26 y l y) [0] a bp ?_);rintro⟨Y,aa,L⟩;refine a0 a oV (g.aB (n-1,o++[UInt8.ofNat (97+Y).toNat],p+1) a bV E M ?_);grind
  obtain rfl:n=0:=y;refine a7 [(23,m)] a E (g.aC ?_);refine a7 [(36,m)] a bV (g.a' (hP A d k p 60 y l y) [0] a bp ?_);rintro⟨t,G,K⟩;by_cases D:t=0
  .refine a7 [(41,f)] a bw (g.bM ⟨(o++[65],p+1),by grind,by grind,by grind⟩ (g.aS [0] a ?_ np));simp
  by_cases x:t=1
  .refine a7 [(41,m),(45,f)] a oY (g.a' (IV [97,98,99,100,101] 9 cc cc) [] a bp ?_);rintro⟨j,s⟩;refine a0 a v (g.bM ⟨(j,p+1),s,by grind,by grind⟩ (g.aS [0] a ?_ np));simp
  refine a7 [(41,m),(45,m)] a bw (g.bM ⟨(o,p+1),by grind,by grind,by grind⟩ (g.aS [0] a ?_ np));simp
 refine gR [(19,m)] 2 a (by simp[B]) (a7 [(36,m)] a bV (g.a' (hP A d k (k1+1) 60 y l y) [0] a bp ?_));rintro⟨t,G,K⟩;by_cases D:t=0
 .refine a7 [(41,f)] a bw (g.bM ⟨(b++[65],(k1+1)+1),by grind,by grind,by grind⟩ (g.aS [0] a ?_ np));simp
 by_cases x:t=1
 .refine a7 [(41,m),(45,f)] a oY (g.a' (IV [97,98,99,100,101] 9 cc cc) [] a bp ?_);rintro⟨j,s⟩;refine a0 a v (g.bM ⟨(j,(k1+1)+1),s,by grind,by grind⟩ (g.aS [0] a ?_ np));simp
 refine a7 [(41,m),(45,m)] a bw (g.bM ⟨(b,(k1+1)+1),by grind,by grind,by grind⟩ (g.aS [0] a ?_ np));simp
def Wu(A)(b:Nat->Int)(i:A<=1048576):bl (ι:={d:Nat // d<=1048576}) r 10 [ax (.S m 1 A (sN b))] [] (λ_=>aH 0 0) (λd=>[ei d.1 b 0]):=by
 refine bl.cw func10 rfl rfl rfl λk=>?_;by_cases l:2000<A
 .refine a7 [(5,f)] a bV (g.bg [ei 2000 b 0] a ?_ (g.bM ⟨2000,by decide⟩ (g.aS [0] a ?_ (λj e=>by grind))))
  .simp[bu,fB,bT]
  simp
 exact a7 [(5,m)] a bV (g.bM ⟨A,i⟩ (g.aS [0] a E (λj e=>by grind)))
def CQ:∀a,a<1->([0]:p Nat)[a]?=h a:=cc
def s6:∀a,a<2->([0,1]:p Nat)[a]?=h a:=cc
def gx:p cY->p aa
 |[]=>[]
 |a::b=>.int .i64 a.1::jm a.2::gx b
def gp(b:p cY):Prop:=∀a∈b,a8 .i64 a.1/\c a.2<=9223372036854775807
theorem ye:∀a:p cY,c (gx a)=c a*2
 |[]=>rfl
 |d::b=>by simp only[gx,fp,ye b];omega
def Js:∀{d:p cY}{e:Nat},e<c d->(gx d)[e*2]?=h (.int .i64 (d.getD e (0,[])).1)/\(gx d)[e*2+1]?=h (jm (d.getD e (0,[])).2)
 |[],e,a=>absurd a (iH _)
 |g::b,0,_=>⟨rfl,rfl⟩
 |g::b,e+1,a=>by rw[show(e+1)*2=e*2+1+1 by omega];exact Js (d:=b) (e:=e) M
def CS:∀b a:p cY,gx (b++a)=gx b++gx a
 |[],a=>rfl
 |d::b,a=>by simp only[uF,gx,CS b a]
theorem Jt:∀b(a:Nat)d,a<c b->gx (b.set a d)=(gx b).take (a*2)++[.int .i64 d.1,jm d.2]++(gx b).drop (a*2+2)
 |[],a,d,e=>absurd e (iH _)
 |g::b,0,d,_=>by simp[gx]
 |g::b,a+1,d,e=>by rw[List.set_cons_succ,gx,Jt b a d M,gx,show(a+1)*2=a*2+1+1 by omega,show a*2+1+1+2=(a*2+2)+1+1 by omega];simp
theorem CU{d}(o:gp d):ej 2 (c d) (bI.fn d) (gx d):=by
 refine⟨ye d,λb _=>rfl,λb e p r a=>?_⟩;obtain⟨j,k⟩:=Js e;obtain⟨n,g⟩:=o (d.getD b (0,[])) M;have l:bI.fn d b=[.int .i64 (d.getD b (0,[])).1,.V (d.getD b (0,[])).2]:=rfl;rw[l]at a
 match p,a with
 |0,a=>cases a;exact⟨_,j,λi=>Rd.int n⟩
 |1,a=>cases a;exact⟨_,k,λi=>Rd.V M g⟩
abbrev g8(a:aa):z:=ax (.val a)
abbrev aE(a:fl)(d:Nat)(b:p cY):an:=.J (cn 131 2 a d (gx b))
abbrev iu(b:Nat)(a:fl)(d:Nat):an:=.J (ee b 248 (c0 a d))
abbrev sU(a:cY):z:=ax (.cG 131 [.int .i64 a.1,.V a.2])
abbrev xS(a:cY):z:=.q (.agg [.c (.int .i64 a.1),.c (.V a.2)])
theorem aeK{a:cY}(n:na B [.c (.int .i64 a.1),.c (.V a.2)]):B=[.int .i64 a.1,jm a.2]:=by
 obtain⟨j,e⟩:=n
 match B,j with
 |[r,s],_=>
  obtain⟨o,i,b⟩:=e 0 _ rfl;obtain⟨p,k,d⟩:=e 1 _ rfl;cases i;cases k;have g:=b λ_ _=>q;have l:=(Eu (d λ_ _=>q)).1;cases g;rw[l]
def R_(b:t.op=.call {callee:=.builtin .append,args:=#[l,X],argTypes:=#[248,248]}):j9 V t l X 131 l1:=
 ⟨⟨248,248,C7,C7,b,(be _ _ a),rfl,(be _ _ a),rfl⟩,(be _ _ a),by decide,by decide⟩
def Cm(bP)(k)(d):Z r 205 [g8 (c0 bP k)] [aE bP k d] (S k) [aE bP k d]:=by refine Z.K func205 rfl λb=>?_;refine gR [] 7 a v ?_;refine g.jv be 0 a a a a a a a a ?_;exact a0 a v (g.aS [0] a a CQ)
def Cn(j cap){d}(l:gp d)(o:Nat)(b:e<c d)(k:w<c d):Z r 343 [g8 (c0 (.row j cap) (c d)),S e,S w] [aE (.row j cap) (c d) d] (bj (decide ((d.getD e (0,[])).1<(d.getD w (0,[])).1))) [aE (.row j cap) (c d) d]:=by
 refine Z.K func343 rfl λn=>?_
 have i:=CU l;refine a7 [(1000001,f)] a v ?_;refine g.gl b7 [g8 (c0 (.row j cap) (c d)),S e,g8 (.pointer (h ⟨j,0+(e:Int).toNat*2,q⟩)),g8 (.pointer (h ⟨j,0+(e:Int).toNat*2+0,q⟩)),S (d.getD e (0,[])).1,g8 (c0 (.row j cap) (c d)),S w,g8 (.pointer (h ⟨j,0+(w:Int).toNat*2,q⟩)),g8 (.pointer (h ⟨j,0+(w:Int).toNat*2+0,q⟩)),S (d.getD w (0,[])).1,bj (decide ((d.getD e (0,[])).1<(d.getD w (0,[])).1))] 10 a a a a a ⟨
  aV.y,aV.y,aV.eval (bh:=[]) be a9.nil a bw,aV.y,
  aV.a2 (j7 a) (a1.e_ (d:=0) (e:=e) (ae:=0) be a a E a i a a b),
  aV.y,aV.y,aV.eval (bh:=[]) be a9.nil a bw,aV.y,
  aV.a2 (j7 a) (a1.e_ (d:=0) (e:=w) (ae:=0) be a a E a i a a k),
  aV.y,v⟩ ?_
 exact a0 a v (g.aS [0] a a CQ)
def Mv{cap}{d}{ab}(u:t.op=.store o l X)(p:bZ eT o=h l1)(b:off=e*2)(s:bG F l=cN (.pointer (h ⟨j,off,q⟩)))(g:my (bG F X)=h [.c (.int .i64 ab.1),.c (.V ab.2)])(y:c d=k)(v:e<c d)(x:t.guard=q):
  aV r D all t F [aE (.row j cap) k d] .any [aE (.row j cap) k (d.set e ab)]:=by subst b;have w:=eB.eP (D:=D) (n:=[aE (.row j cap) k d]) be 0 (W:=131) (i:=2) (k:=k) (j:=j) (cap:=cap) (off:=e*2) (ag:=gx d) u p s g a a a (by grind[ye]);grind[aeK,Jt,aV.fg]
abbrev Mz(d a:Nat)(b:p cY)(e g:Nat)(i j:Bool):p an:=match i with
 |false=>[aE (.row d a) (c b) b]
 |true=>match j with
  |false=>[aE (.row d a) (c b) (b.set e (b.getD g (0,[])))]
  |true=>[aE (.row d a) (c b) (jA b e g)]
def Co(j cap){d}(n:gp d)(b:e<c d)(l:w<c d):Z r 346 [g8 (c0 (.row j cap) (c d)),S e,S w] [aE (.row j cap) (c d) d] (.Q []) [aE (.row j cap) (c d) (jA d e w)]:=by
 refine Z.K func346 rfl λs=>?_;have x:=CU n;refine a7 [(1000000,f)] a v ?_;let i:Nat->z:=λo=>([g8 (c0 (.row j cap) (c d)),S e,g8 (c0 (.row j cap) (c d)),S w,g8 (c0 (.row j cap) (c d)),S w,g8 (.pointer (h ⟨j,0+(w:Int).toNat*2,q⟩)),xS (d.getD w (0,[])),g8 (c0 (.row j cap) (c d)),S e,g8 (.pointer (h ⟨j,0+(e:Int).toNat*2,q⟩)),xS (d.getD e (0,[])),g8 (.pointer (h ⟨j,0+(e:Int).toNat*2,q⟩)),.any,g8 (.pointer (h ⟨j,0+(w:Int).toNat*2,q⟩))]:p z).getD o .any
 refine g.cx b7 i (pm (Mz j cap d e w) 13 15) a a a a ⟨
  .bK,.bK,.bK,.bK,.bK,.bK,
  .dv be a9.nil,
  cu.hk a a a a (aV.a2 (j7 a) (a1.e_ (d:=0) (e:=w) (ae:=0) be a a E a x a a l)),
  .bK,.bK,
  .dv be a9.nil,
  cu.hk a a a a (aV.a2 (j7 a) (a1.e_ (d:=0) (e:=e) (ae:=0) be a a E a x a a b)),
  .dv be a9.nil,
  cu.gG a a ?_,
  .dv be a9.nil,
  cu.gH a a ?_,v⟩ ?_
 .exact Mv a a E a a a b a
 .exact Mv a a E a a E M a
 intro z k;show g r _ _ _ _ _ (Mz j cap d e w (z 13) (z 15));rw[k 13 cc,k 15 cc];exact bW.dn [0] a v a a a CQ
def UK(C)(bP){d}(A:gp d)(D:c d<=1000){l}(B:c l.2<=9223372036854775807):
  bl (ι:=fl) r 345 [g8 (.pointer (h ⟨C,0,q⟩)),sU l] [iu C bP (c d),aE bP (c d) d] (λ_=>.Q []) (λb=>[iu C b (c d+1),aE b (c d+1) (d++[l])]):=by
 refine bl.cw func345 rfl rfl rfl λy=>?_;refine a7 [(1000000,f)] a v ?_;have j:=tM bP (c d);refine g.eI (ι:=fl) b7 7 8 10 (λi=>ay i 6) (λi=>([g8 (.pointer (h ⟨C,0,q⟩)),g8 (.pointer (h ⟨C,0,q⟩)),g8 (.pointer (h ⟨C,0,q⟩)),g8 (c0 bP (c d)),sU l,xS l,ax (.S f 2 1 λo=>([[.int .i64 l.1,.V l.2]]:p (p N)).getD o [])]:p z).getD i .any) (λb _=>g8 (c0 b (c d+1))) (λb=>[iu C bP (c d),.J (cn 131 2 b (c d+1) (gx d++[.int .i64 l.1,jm l.2]))])
  rfl rfl rfl rfl rfl rfl rfl (λi x=>by exact lL) rfl
  ⟨aV.y,aV.y,aV.a2 (j7 a) (a1.dS a a),aV.eF be 0 a a a a a j a,aV.y,aV.a2 (j7 a) (a1.gb (ah:=[.int .i64 l.1,.V l.2]) be a a a a),aV.y,v,v,v,v⟩
  (λb=>⟨aV.y,aV.y,aV.a2 (j7 a) (a1.dS a a),aV.eF be 0 a a a a a j a,aV.y,aV.a2 (j7 a) (a1.gb (ah:=[.int .i64 l.1,.V l.2]) be a a a a),aV.y,v,v⟩)
  (dB.fg a (eB.fv (d:=1) (bP:=bP) (ag:=gx d) (k:=c d) (h1:=[.int .i64 l.1,jm l.2]) (R_ a) a a a a a (λu E s w e t=>?_) z7)) λb=>?_
 .match s,e with
  |0,e=>cases e;cases t;exact bH
  |1,e=>grind[Eu]
 have n:=tM b (c d+1);refine g.aO (a1.dS a a) a a ?_;refine g.h_ be 0 a a a a a (by cases b<;>rfl) n a a a ?_;refine a0 a v ⟨b,bW.dn [0,1] a v ?_ a a s6⟩;show h [_,an.J (cn _ _ _ _ (gx d++_))]=h [_,an.J (cn _ _ _ _ (gx (d++[l])))];rw[CS];rfl
def cn.cut{cap}{d}{l}(k:cn W 2 (.row j cap) (c d+1) (gx (d++[l])) ab lb):cn W 2 (.row j cap) (c d) (gx d) ab lb:=by obtain⟨a,b,s,p,g,i,o,r⟩:=k;rw[CS]at *;refine⟨a,λn e=>b n (AL _ e),ye d,by omega,g,gx [l]++i,M,?_⟩;grind
def UJ(C j cap){d}{l}(p:gp (d++[l]))(s:c d<=1000)(b:c d+1<=cap):
  Z r 344 [g8 (.pointer (h ⟨C,0,q⟩))] [iu C (.row j cap) (c d+1),aE (.row j cap) (c d+1) (d++[l])] (sU l) [iu C (.row j cap) (c d),aE (.row j cap) (c d) d]:=by
 refine Z.K func344 rfl λo=>?_;have i:ej 2 (c d+1) (bI.fn (d++[l])) (gx (d++[l])):=by grind[CU,List.length_append]
 refine a0 a v (g.aO (a1.dS a a) a a ?_);refine g.aq (aV.eF be 0 a a a a a a a) a ?_;refine a0 a bH (g.aO (a1.dS a a) a a ?_);refine g.aq (aV.eF be 0 a a a a a a a) a ?_;refine a0 a bw (g.aO (a1.e_ (d:=1) (e:=c d) (ae:=0) be a a (by simp[show l1.size=2 from a]) a i a a E) a a ?_);refine a0 a v (g.aO (a1.dS a a) a a ?_);refine g.aq (aV.eF be 0 a a a a a a a) a ?_;refine a0 a v (g.aO (a1.j5 be a a a a a a b y y) a a ?_);rw[show(((c d+1:Nat):Int)-1).toNat=c d from by omega];refine g.aO (a1.dS a a) a a ?_;refine g.h_ be 0 a a a a a a a a a a ?_;refine gR [] 2 a v (g.gD (ι:=Unit) 1 (λ_=>cn 131 2 (.row j cap) (c d) (gx d)) a (λt k n=>⟨(),cn.cut n⟩) λ_=>?_);refine a0 a v (g.aS [0,1] a ?_ s6);simp
abbrev sV(a:Nat):z:=ax (.cg 247 (.val (.pointer (h ⟨a,0,q⟩))))
section
variable {n:p an}{d C k:Nat}{bP:fl}(x:c' d n=h (iu C bP k))
include x
def Jl:nY V n 247 (.pointer (h ⟨C,0,q⟩)) "Len" 205 (c0 bP k):=.deref be (hE type247) rfl rfl rfl underlying247 x rfl (tM bP k) rfl
def CG:nY V n 247 (.pointer (h ⟨C,0,q⟩)) "Less" 343 (c0 bP k):=.deref be (hE type247) rfl rfl rfl underlying247 x rfl (tM bP k) rfl
def CI:nY V n 247 (.pointer (h ⟨C,0,q⟩)) "Swap" 346 (c0 bP k):=.deref be (hE type247) rfl rfl rfl underlying247 x rfl (tM bP k) rfl
end
def X6{n}{ab}:nY V n 247 ab "Push" 345 ab:=.ptr (hE type247) rfl rfl rfl underlying247
def X5{n}{ab}:nY V n 247 ab "Pop" 344 ab:=.ptr (hE type247) rfl rfl rfl underlying247
theorem tR{d}(i:gp d){e w}(a:e<c d)(b:w<c d):gp (jA d e w):=λj g=>i j (adk a b g)
theorem EP:∀b(d:p cY)a,a<b->i' b d a=i' (a+1) d a
 |0,_,_,g=>absurd g (iH _)
 |b+1,d,a,g=>by
  rw[i',i'];by_cases e:(a-1) / 2=a
  .grind
  rw[bm e,bm e];split
  .have s:(a-1) / 2<a:=y;rw[EP b _ _ y,EP a _ _ s]
  simp
def UL(C j cap){d}(u:gp d)(N:c d<=1000){w}(B:w<c d):
  Z r 248 [sV C,S w] [iu C (.row j cap) (c d),aE (.row j cap) (c d) d] (.Q []) [iu C (.row j cap) (c d),aE (.row j cap) (c d) (i' (w+1) d w)]:=by
 refine Z.K func248 rfl λK=>?_;refine gR [] 3 a v (g.dF 2 [0] (λb:p cY×Nat=>gp b.1/\c b.1=c d/\b.2<c d/\i' (w+1) d w=i' (b.2+1) b.1 b.2) (λb=>[(1,S b.2)]) (λb=>[iu C (.row j cap) (c b.1),aE (.row j cap) (c b.1) b.1]) (λb=>b.2) (d,w) a E a E a ⟨u,a,B,a⟩ ?_);rintro⟨b,e⟩ ⟨o,F,I,k⟩;simp only at o F I k;cases e with
 |zero=>
  have n:i' (0+1) b 0=b:=by rw[i',bs a]
  rw[n]at k;rw[k];refine gR [] 5 a lA (g.aO (J_ (i:=.i64) 0 a a a lA (λJ=>rfl) (λJ=>rfl)) a a ?_);refine a7 [(11,f),(17,f)] a E (g.aC ?_);exact OQ
 |succ e=>
  refine a7 [(11,m),(1000001,f)] a lL ?_;have D:(((e+1:Nat):Int)-1) / 2=((e / 2:Nat):Int):=y;rw[D];have A:(e+1-1) / 2=e / 2:=M;have t:e / 2<c b:=y;have s:e+1<c b:=y;have n:i' (e+1+1) b (e+1)=if nE b (e+1) (e / 2)=f then i' (e+1) (jA b (e / 2) (e+1)) (e / 2)else b:=by rw[i',bm y,A]
  rw[n]at k;refine g.region ?_;refine a7 [(11,m)] a bw (g.ds (Cn j cap o (c b) s t).tocH [1] (CG (d:=0) a) a a a a a a a a bp a bp a λ_=>?_);by_cases l:nE b (e+1) (e / 2)=f
  .rw[bs l]at k;have z:=uD l;refine a7 [(17,m)] a dD (g.ds (Co j cap o t s).tocH [1] (CI (d:=0) a) a a a a a a a a bp a bp a λ_=>?_);refine a0 a v (g.aB (jA b (e / 2) (e+1),e / 2) a E ?_ ?_ ?_)
   .simp[pL]
   .grind [tR,pL,EP]
   grind
  rw[bm l]at k;rw[k];have z:¬(b.getD (e+1) (0,[])).1<(b.getD (e / 2) (0,[])).1:=λx=>l (fq x);refine a7 [(17,f)] a dD (g.aC ?_);exact OQ
def JM{n}{e k}{bP}{d}(t:c' e n=h (aE bP k d))(s:0<k)(b)(j:bc n b):∃i g,bP=.row i g/\k<=g:=by
 have l:=eo t;obtain⟨i,g,rfl⟩:=(cn.len l b j).2.2.1 s;have o:e<c b.m:=by rw[j.len];grind
 obtain⟨p,r,_⟩:=j.box e _ _ l (bK o);exact⟨i,g,a,r.2.2.2.1⟩
def UY(C)(bP){d}(n:gp d)(D:c d<=100){l}(x:a8 .i64 l.1/\c l.2<=9223372036854775807):
  bl (ι:=fl) r 203 [sV C,sU l] [iu C bP (c d),aE bP (c d) d] (λ_=>.Q []) (λi=>[iu C i (c d+1),aE i (c d+1) (hJ d l)]):=by
 refine bl.cw func203 rfl rfl rfl λB=>?_;refine a0 a v (g.ds (UK C bP n y x.2) [0,1] X6 a a a a a a a a bp a bp a λi=>?_);have s:gp (d++[l]):=λz t=>by
  rcases fx.1 t with p|p
  .exact n z p
  grind
 refine g.fC (JM (e:=1) (k:=c d+1) (bP:=i) (d:=d++[l]) a y) λu=>?_;obtain⟨j,b,rfl,A⟩:=u;refine a0 a v (g.ds (Cm (.row j b) (c d+1) (d++[l])).tocH [1] (Jl (d:=0) a) a a a a a a a a bp a bp a λ_=>?_);refine a0 a bH ?_;rw[show((c d+1:Nat):Int)-1=(c d:Nat) by omega];have o:=UL (r:=r) C j b s M (w:=c d) E;rw[dk,gG]at o;exact g.aF o [0,1] a (a0 a v ⟨.row j b,bW.dn [0,1] a v a a a s6⟩)
theorem xZ:∀e g(d:p cY)a b,b<=a+e->b<=a+g->g9 e d a b=g9 g d a b
 |0,0,_,_,_,_,_=>rfl
 |0,g+1,d,a,b,i,_=>by rw[g9,g9,bs y]
 |e+1,0,d,a,b,_,i=>by rw[g9,g9,bs y]
 |e+1,g+1,d,a,b,k,l=>by
  have j:a<js d a b:=FR;rw[g9,g9];split
  .rfl
  split
  .exact xZ e g _ _ _ y y
  simp
def UI(C j cap k){d}(I:gp d)(Q:k<=c d)(V:c d<=1000):
  Z r 252 [sV C,S 0,S k] [iu C (.row j cap) (c d),aE (.row j cap) (c d) d] .any [iu C (.row j cap) (c d),aE (.row j cap) (c d) (g9 k d 0 k)]:=by
 refine Z.K func252 rfl λO=>?_;refine cx a v (g.dF 2 [0,1,2] (λb:p cY×Nat=>gp b.1/\c b.1=c d/\b.2<=k/\g9 k d 0 k=g9 k b.1 b.2 k) (λb=>[(7,S b.2)]) (λb=>[iu C (.row j cap) (c b.1),aE (.row j cap) (c b.1) b.1]) (λb=>k-b.2) (d,0) a E a E a ⟨I,a,by omega,a⟩ ?_);rintro⟨b,e⟩ ⟨o,K,N,i⟩;simp only at o K N i;by_cases F:k<=2*e+1
 .have x:g9 k b e k=b:=by rw[xZ k (k+1) _ _ _ y y,g9,bs F]
  rw[x]at i;rw[i];refine a7 [(17,f),(21,f)] a Rq (g.aC ?_);exact Od
 have z:e<js b e k/\js b e k<k:=FR;have x:g9 k b e k=if nE b (js b e k) e=f then g9 k (jA b e (js b e k)) (js b e k) k else b:=by rw[xZ k (k+1) _ _ _ y y,g9,bm F]
 rw[x]at i;have J:2*e+1<c b:=y;have B:e<c b:=y;have A:2*(e:Int)+1=((2*e+1:Nat):Int):=y;have M:((2*e+1:Nat):Int)+1=((2*e+2:Nat):Int):=y;refine a7 [(17,m),(21,m),(1000004,f)] a Rp ?_;rw[A];refine a7 [(1000006,f)] a Rp ?_;rw[M];apply g.cj [(0,sV C),(1,S 0),(2,S k),(7,S e),(9,S (js b e k))] [iu C (.row j cap) (c b),aE (.row j cap) (c b) b]
 .intro dy;by_cases D:2*e+2<k
  .refine g.region ?_;refine a7 [(28,f)] a bw (g.ds (Cn j cap o (c b) (e:=2*e+2) (w:=2*e+1) y J).tocH [1] (CG (d:=0) a) a a a a a a a a bp a bp a λ_=>?_);by_cases s:nE b (2*e+2) (2*e+1)=f
   .have t:js b e k=2*e+2:=bs ⟨D,s⟩;refine a7 [(33,f),(1000008,f)] a (by simpa using uD s) (dy _ _ a ?_);simp[t]
   have t:js b e k=2*e+1:=bm λl=>s l.2;have u:¬(b.getD (2*e+2) (0,[])).1<(b.getD (2*e+1) (0,[])).1:=λl=>s (fq l);refine a7 [(33,m),(1000008,f)] a (by simpa using u) (dy _ _ a ?_);simp[t]
  have t:js b e k=2*e+1:=bm λl=>D l.1;refine a7 [(28,m),(33,m),(1000008,f)] a bw (dy _ _ a ?_);simp[t]
 generalize js b e k=n at *;obtain⟨T,R⟩:=z;refine g.region ?_;refine a0 a v (g.ds (Cn j cap o (c b) (e:=n) (w:=e) y B).tocH [1] (CG (d:=0) a) a a a a a a a a bp a bp a λ_=>?_);by_cases s:nE b n e=f
 .rw[bs s]at i;refine a7 [(39,m)] a (by simpa using uD s) (g.ds (Co j cap o B (show n<c b by omega)).tocH [1] (CI (d:=0) a) a a a a a a a a bp a bp a λ_=>?_);refine a0 a v (g.aB (jA b e n,n) a E ?_ ?_ ?_)
  .simp[pL]
  .grind [tR,pL]
  grind
 rw[bm s]at i;rw[i];have u:¬(b.getD n (0,[])).1<(b.getD e (0,[])).1:=λl=>s (fq l);refine a7 [(39,f)] a (by simpa using u) (g.aC ?_);exact Od
def Cd{k}:∀e{a:p cY}(d:Nat),gp a->d<c a->k<=c a->gp (g9 e a d k)
 |0,_,_,b,_,_=>b
 |e+1,a,d,b,g,j=>by
  rw[g9];split
  .exact b
  have i:js a d k<k:=FR;split
  .exact Cd e _ (tR b g y) pU pU
  grind
def UX(C j cap){d}{k}(n:gp d)(t:c d=k+1)(A:k<=100)(u:k+1<=cap):
  Z r 206 [sV C] [iu C (.row j cap) (k+1),aE (.row j cap) (k+1) d] (sU ((hd d).getD k (0,[]))) [iu C (.row j cap) k,aE (.row j cap) k ((hd d).take k)]:=by
 refine Z.K func206 rfl λD=>?_;refine a0 a v (g.ds (Cm (.row j cap) (k+1) d).tocH [1] (Jl (d:=0) a) a a a a a a a a bp a bp a λ_=>?_);refine a0 a bH ?_;rw[show((k+1:Nat):Int)-1=((k:Nat):Int) by omega];have s:=Co (r:=r) j cap n (e:=0) (w:=k) y y;rw[t]at s;refine g.ds s.tocH [1] (CI (d:=0) a) a a a a a a a a bp a bp a λ_=>?_;have o:=tR n (e:=0) (w:=k) y y;have i:=UI (r:=r) C j cap k o pU pU;have b:=Cd (k:=k) k 0 o pU pU;have p:g9 k (jA d 0 k) 0 k=hd d:=by unfold hd;grind[xZ]
 rw[pL,t,p]at i;rw[p]at b;have z:hd d=(hd d).take k++[(hd d).getD k (0,[])]:=by
  have F:c (hd d)=k+1:=by grind[Ln]
  apply ru
  .grind
  grind
 generalize(hd d).getD k (0,[])=l at *;have x:c ((hd d).take k)=k:=M;generalize(hd d).take k=B at *;rw[z]at i b;subst x;refine a0 a v (g.aF i [0,1] a (a0 a v (g.ds (UJ C j cap b y u).tocH [0,1] X5 a a a a a a a a bp a bp a λ_=>?_)));refine a0 a v (g.aS [0,1] a E s6)
def aaV{ad}(u:t.op=.binOp op o l X ty){s}{cv}(k:P.underlying o=h (.interface cv))(w:η l=ax .bq)(v:η X=ax (.val (.iface ad ab)))(x:∀Q,(eqGuard op o l X .nilIface (.iface ad ab)).run P Q=.ok () Q)(ae:∀Q a,(eqGuard op o l X .nilIface (.iface ad ab)).events P Q a=a)(d:ia op m=h s):a1 P t η n (ax (.bool s)) n:=by
 refine .aZ λb p A r=>?_;have g:=r l;have e:=r X;rw[w]at g;rw[v]at e;replace g:=b8 g;replace e:=b8 e;generalize j:p l=y at g;generalize I:p X=z at e;cases g;cases e;have i:(Op.equal o .nilIface (.iface ad ab)).run P b.a=.ok m b.a:=QC;have C:∀a,(Op.equal o .nilIface (.iface ad ab)).events P b.a a=a:=λa=>by show(aQ (9999+1) o _ _).events P b.a a=a;unfold aQ;simp[underlying,k]
 cases op<;>simp only[ia,reduceCtorEq,eV]at d
 .exact QD
 exact P4
abbrev S0(a:aa):z:=ax (.val a)
def IN(ad)(ab):Z r 245 [ax .bq,S0 (.iface ad ab)] [] (bj m) []:=by refine Z.K func245 rfl λb=>?_;refine a0 a v ?_;refine g.aO (Dz a underlying156 a a a) a a ?_;refine a7 [(11,f)] a E ?_;refine g.aO (aaV a underlying156 a a bp (λ_ _=>rfl) a) a a ?_;exact a0 a v (g.aw a a)
abbrev ik(b a:av×aa):p an:=[.J (ee 2 156 (.iface b.1 b.2)),.J (ee 3 156 (.iface a.1 a.2))]
def qv:∀a,a<2->([0,1]:p Nat)[a]?=h a:=cc
def Cu(j e)(i)(d)(k:cF i=f)(n:cC d=f):Z r 199 [S i,b1 d] (ik j e) (S (d8 i d)) (ik j e):=by refine Z.K func199 rfl λl=>?_;have b:a9 r [(244,er db eE (λi d=>Ca (d8 i d)) λi d=>[cF i=f,cC d=f])]:=.cons t244 .nil;refine ca b a dD ?_;refine g.aq (aV.gu be 0 a a a a a a) a ?_;refine g.aF (IN _ _) [] a ?_;refine ca b a v ?_;refine g.aq (aV.gu be 1 a a a a a a) a ?_;refine g.iI (IN _ _) [] a a a a a a a a a a a ?_;exact a' b [(20,m)] a E (g.aS [0,1] a a qv)
end
section
open Go.Sort (swp insInner insOuter ltInt)
variable {r:aj V}
def Vn(k):Z r 260 [S k] [] (bj m) []:=by refine Z.K func260 rfl λb=>?_;exact a7 [(5,m)] a E (g.aw a)
abbrev Hj:bL:=dm db (λ_=>bj m) λ_=>[]
def ad7:bM r 260 Hj:=.bb λa _=>Vn a
def VI(l X):Z r 223 [S l,S X] [] (bj (ltInt l X)) []:=by have b:a9 r [(260,Hj)]:=.cons ad7 .nil;refine Z.K func223 rfl λd=>?_;refine ca b a E (g.aw a ?_);simp[ltInt]
abbrev qk:bL:=er db db (λa b=>bj (ltInt a b)) λ_ _=>[]
def r_:bM r 223 qk:=.bn λa b _=>VI a b
def sY(a:Array Int)(b:Nat):p N:=[.int .i64 a[b]!]
abbrev dN(a:Nat):z:=cD 0 (.S a 1 0 a)
abbrev cE(b:Nat)(a:Array Int):an:=.h 3 1 b (sY a)
def g_:∀a,a<1->([0]:p Nat)[a]?=h a:=λa b=>by grind
end
section
open Go.Sort (swp insInner insOuter insertionSort ltInt)
variable {r:aj V}
def lS{a}(r:a.size=k)(l:e<k)(n:w<k){g:Nat->p N}(i:bu k g (sY a)):bu k (lu w [.int .i64 a[e]!] (lu e [.int .i64 a[w]!] g)) (sY (swp a e w)):=by
 intro b d;have o:(swp a e w)[b]! = if b=w then a[e]! else if b=e then a[w]! else a[b]! := by unfold swp;grind
 have j:=i b d;simp only[sY,lu]at j⊢;grind
theorem nK(a:Array Int)(e w):(swp a e w).size=a.size:=by simp[swp]
theorem aag{b}{a}(e:b<w)(d:ltInt a[w]! a[w-1]! = f):insInner ltInt b w a=insInner ltInt b (w-1) (swp a w (w-1)):=by
 cases w with
 |zero=>omega
 |succ w=>
  simp only[p9]at d⊢;rw[insInner,bs];grind
def J9{b}{a}(d:b<w->ltInt a[w]! a[w-1]! = m):insInner ltInt b w a=a:=by
 cases w with
 |zero=>rfl
 |succ w=>
  simp only[p9]at d;rw[insInner,bm];grind
theorem Vj(k)(n)(d j)(B:n.size=k)(K:j<=k)(J:d<=k)(M:k<=4000000):
  Z r 217 [dN k,S d,S j] [cE k n] (.Q []) [cE k (insertionSort ltInt n d j)]:=by
 have w:a9 r [(223,qk)]:=.cons r_ .nil;refine Z.K func217 rfl λI=>?_;refine a0 a bH (g.aL 1 (λb:Nat×Array Int=>b.2.size=k/\d+1<=b.1/\b.1<=k+1/\insOuter ltInt d j b.1 b.2=insertionSort ltInt n d j) (λb=>[(0,dN k),(1,S d),(2,S j),(6,S b.1)]) (λb=>[cE k b.2]) (λb=>j-b.1) (d+1,n) a E a E a ⟨B,by omega,by grind,a⟩ ?_);rintro⟨e,d1⟩ ⟨z,u,A,o⟩;simp only at z u A o;by_cases t:e<j
 .refine a7 [(12,f)] a bV (g.aL 1 (λb:Nat×Array Int=>b.2.size=k/\b.1<=e/\insInner ltInt d b.1 b.2=insInner ltInt d e d1) (λb=>[(0,dN k),(1,S d),(2,S j),(6,S e),(7,S b.1)]) (λb=>[cE k b.2]) (λb=>b.1) (e,d1) a E a E a ⟨z,by simp,a⟩ ?_);rintro⟨l,d2⟩ ⟨p,C,s⟩;simp only at p C s;by_cases D:d<l
  .have i:((l:Int)-1).toNat=l-1:=y;by_cases x:ltInt d2[l]! d2[l-1]! = f
   .refine a' w [(18,f),(29,f)] a ?_ ?_
    .simp[a8,i,x];omega
    refine g.aB (l-1,swp d2 l (l-1)) a bV ?_ ?_ ?_
    .simp only[U.Z,U,i,cZ,c9,a_,bb];exact lS p y y (λ_ _=>rfl)
    .refine⟨by grind[nK],by omega,?_⟩;grind[aag]
    omega
   refine a' w [(18,f),(29,m)] a ?_ (g.aC ?_)
   .simp[a8,i,x];omega
   refine a0 a bH (g.aB (e+1,d2) a E E ?_ ?_)
   .refine⟨p,by omega,by grind,?_⟩;simp only;rw[<-o,insOuter.eq_1 ltInt d j e,bs t,<-s,J9 λ_=>by grind]
   omega
  refine a' w [(18,m)] a bw (g.aC ?_);refine a0 a bH (g.aB (e+1,d2) a E E ?_ ?_)
  .refine⟨p,by omega,by grind,?_⟩;simp only;rw[<-o,insOuter.eq_1 ltInt d j e,bs t,<-s,J9 λF=>absurd F D]
  omega
 refine a7 [(12,m)] a bV (g.aC ?_);have:insertionSort ltInt n d j=d1:=by rw[<-o,insOuter,bm t]
 rw[this];exact sg
end
section
open Go.Sort (swp siftDown ltInt)
variable {r:aj V}
def acJ{bq first root}{a}(b:¬2*root+1<bq):siftDown ltInt bq first root a=a:=by rw[siftDown,dif_pos y]
theorem Me{bq first root}{a}(e:2*root+1<bq)(b:2*root+1+1<bq->ltInt a[first+(2*root+1)]! a[first+(2*root+1)+1]! = m)(d:ltInt a[first+root]! a[first+(2*root+1)]! = f):
  siftDown ltInt bq first root a=siftDown ltInt bq first (2*root+1) (swp a (first+root) (first+(2*root+1))):=by rw[siftDown.eq_1 ltInt bq first root a,dif_neg y,bm M,bm M]
theorem Mf{bq first root}{a}(e:2*root+1<bq)(b:2*root+1+1<bq->ltInt a[first+(2*root+1)]! a[first+(2*root+1)+1]! = m)(d:ltInt a[first+root]! a[first+(2*root+1)]! = m):
  siftDown ltInt bq first root a=a:=by rw[siftDown.eq_1 ltInt bq first root a,dif_neg y,bm M,bs M]
theorem acH{bq first root}{a}(e:2*root+1+1<bq)(b:ltInt a[first+(2*root+1)]! a[first+(2*root+1+1)]! = f)(d:ltInt a[first+root]! a[first+(2*root+1+1)]! = f):
  siftDown ltInt bq first root a=siftDown ltInt bq first (2*root+1+1) (swp a (first+root) (first+(2*root+1+1))):=by rw[siftDown.eq_1 ltInt bq first root a,dif_neg y,bs M,bm M,dif_pos y]
theorem acI{bq first root}{a}(e:2*root+1+1<bq)(b:ltInt a[first+(2*root+1)]! a[first+(2*root+1+1)]! = f)(d:ltInt a[first+root]! a[first+(2*root+1+1)]! = m):
  siftDown ltInt bq first root a=a:=by rw[siftDown.eq_1 ltInt bq first root a,dif_neg y,bs M,bs M]
theorem Xc(k)(l)(d b first:Nat)(t:l.size=k)(D:first+b<=k)(u:d<=k)(E:k<=4000000):
  Z r 255 [dN k,S d,S b,S first] [cE k l] (.Q []) [cE k (siftDown ltInt b first d l)]:=by
 have n:a9 r [(223,qk)]:=.cons r_ .nil;refine Z.K func255 rfl λA=>?_;refine a0 rfl v (g.aL 1 (λe:Nat×Array Int=>e.2.size=k/\e.1<=k/\siftDown ltInt b first e.1 e.2=siftDown ltInt b first d l) (λe=>[(0,dN k),(1,S d),(2,S b),(3,S first),(8,S e.1)]) (λe=>[cE k e.2]) (λe=>b-e.1) (d,l) rfl ?_ rfl ?_ rfl ⟨t,u,rfl⟩ ?_)
 .simp
 .simp
 rintro⟨root,d1⟩ ⟨w,z,o⟩;simp only at w z o;by_cases p:2*root+1<b
 .have s:((first:Int)+(2*(root:Int)+1)).toNat=first+(2*root+1):=y
  have ai:((first:Int)+(2*(root:Int)+1)+1).toNat=first+(2*root+1+1):=y
  by_cases B:2*root+1+1<b
  .by_cases C:ltInt d1[first+(2*root+1)]! d1[first+(2*root+1+1)]! = f
   .have i:((first:Int)+(2*(root:Int)+1+1)).toNat=first+(2*root+1+1):=y
    have x:((first:Int)+(root:Int)).toNat=first+root:=y
    by_cases j:ltInt d1[first+root]! d1[first+(2*root+1+1)]! = f
    .refine bg n [(16,m),(20,f),(35,f),(51,f)] rfl ?_ (g.aB (2*root+1+1,swp d1 (first+root) (first+(2*root+1+1))) rfl ?_ ?_ ?_ ?_)
     .exact Qv
     .simp
     .simp only[U.Z,U,cZ,s,ai,x,i,a_,bb];exact lS w y y (λ_ _=>rfl)
     .grind [nK,acH]
     grind
    rw[qa]at j;rw[show siftDown ltInt b first d l=d1 by grind[acI]];refine bg n [(16,m),(20,f),(35,f),(51,m)] a ?_ (g.aX (bW.mk [0] a v a a a g_));exact Qv
   rw[qa]at C;have x:((first:Int)+(root:Int)).toNat=first+root:=y
   by_cases j:ltInt d1[first+root]! d1[first+(2*root+1)]! = f
   .refine bg n [(16,m),(20,f),(35,m),(51,f)] rfl ?_ (g.aB (2*root+1,swp d1 (first+root) (first+(2*root+1))) rfl ?_ ?_ ?_ ?_)
    .exact N5
    .simp
    .exact O_
    .grind [nK,Me]
    grind
   rw[qa]at j;rw[show siftDown ltInt b first d l=d1 by grind[Mf]];refine bg n [(16,m),(20,f),(35,m),(51,m)] a ?_ (g.aX (bW.mk [0] a v a a a g_));exact N5
  have C:True:=v;have x:((first:Int)+(root:Int)).toNat=first+root:=y
  by_cases j:ltInt d1[first+root]! d1[first+(2*root+1)]! = f
  .refine bg n [(16,m),(20,m),(51,f)] rfl ?_ (g.aB (2*root+1,swp d1 (first+root) (first+(2*root+1))) rfl ?_ ?_ ?_ ?_)
   .exact O4
   .simp
   .exact O_
   .grind [nK,Me]
   grind
  rw[qa]at j;rw[show siftDown ltInt b first d l=d1 by grind[Mf]];refine bg n [(16,m),(20,m),(51,m)] a ?_ (g.aX (bW.mk [0] a v a a a g_));exact O4
 refine a7 [(16,f)] a sk (g.aC ?_);rw[<-o,acJ p];exact sg
end
section
open Go.Sort (swp order2 median medianAdjacent choosePivot Hint ltInt)
variable {r:aj V}
abbrev mw(a:Nat):an:=.cells 3 [.c (.int .i64 a)]
abbrev sX:z:=aH 1 0
abbrev adV(a b:Nat):z:=.Q [.aq (.c (.int .i64 a)),.aq (.c (.int .i64 b))]
def yd:∀a,a<2->([0,1]:p Nat)[a]?=h a:=λa b=>by grind
def Cx(k)(e)(d j b)(s:d<k)(t:j<k)(u:k<=4000000)(o:b<=1000):
  Z r 295 [dN k,S d,S j,sX] [cE k e,mw b] (adV (order2 ltInt e d j b).1 (order2 ltInt e d j b).2.1) [cE k e,mw (order2 ltInt e d j b).2.2]:=by
 have n:a9 r [(223,qk)]:=.cons r_ .nil;refine Z.K func295 rfl λp=>?_;by_cases i:ltInt e[j]! e[d]! = f
 .have l:order2 ltInt e d j b=(j,d,b+1):=by simp[order2,i]
  rw[l];refine bg n [(18,f)] a ?_ (g.aS [0,1] a ?_ yd)
  .simp only[U,cZ,c9,i,a8,bb,a_];exact fv
  simp
 have l:order2 ltInt e d j b=(d,j,b):=by simp[order2,i]
 rw[l];rw[qa]at i;refine bg n [(18,m)] a dD (g.aS [0,1] a ?_ yd);simp
def vK{I}{a eS}(b:a<k)(d:j<k):(order2 ltInt I a j eS).1<k/\(order2 ltInt I a j eS).2.1<k/\(order2 ltInt I a j eS).2.2<=eS+1:=by unfold order2;split<;>simp only<;>omega
theorem IW(k)(I)(b j s eS)(i:b<k)(l:j<k)(n:s<k)(e:k<=4000000)(p:eS<=900):
  Z r 259 [dN k,S b,S j,S s,sX] [cE k I,mw eS] (S (median ltInt I b j s eS).1) [cE k I,mw (median ltInt I b j s eS).2]:=by refine Z.K func259 rfl λt=>?_;have d:=vK (I:=I) (eS:=eS) i l;have o:=vK (I:=I) (eS:=(order2 ltInt I b j eS).2.2) d.2.1 n;refine cx a v (g.aF (Cx k I b j eS i l e y) [0,1] a (cx a v (g.aF (Cx k I (order2 ltInt I b j eS).2.1 s (order2 ltInt I b j eS).2.2 d.2.1 n e y) [0,1] a (cx a v (g.aF (Cx k I (order2 ltInt I b j eS).1 (order2 ltInt I (order2 ltInt I b j eS).2.1 s (order2 ltInt I b j eS).2.2).1 (order2 ltInt I (order2 ltInt I b j eS).2.1 s (order2 ltInt I b j eS).2.2).2.2 d.1 o.1 e y) [0,1] a (cx a v (g.aS [0,1] a ?_ yd)))))));simp[median]
def aaI{I}{a s eS}(d:a<k)(g:j<k)(i:s<k):(median ltInt I a j s eS).1<k/\(median ltInt I a j s eS).2<=eS+3:=by have b:=vK (I:=I) (eS:=eS) d g;have e:=vK (I:=I) (eS:=(order2 ltInt I a j eS).2.2) b.2.1 i;have l:=vK (I:=I) (eS:=(order2 ltInt I (order2 ltInt I a j eS).2.1 s (order2 ltInt I a j eS).2.2).2.2) b.1 e.1;unfold median;grind
theorem Wa(k)(e)(b d:Nat)(t:1<=b)(u:b+1<k)(p:k<=4000000)(o:d<=900):
  Z r 258 [dN k,S b,sX] [cE k e,mw d] (S (medianAdjacent ltInt e b d).1) [cE k e,mw (medianAdjacent ltInt e b d).2]:=by
 refine Z.K func258 rfl λs=>?_;obtain⟨b,rfl⟩:∃i,b=i+1:=⟨b-1,by omega⟩
 refine cx a bH ?_;have key:∀j l n:Int,j=(b:Int)->l=((b+1:Nat):Int)->n=((b+1+1:Nat):Int)->Z r 259 [dN k,S j,S l,S n,sX] [cE k e,mw d] (S (median ltInt e b (b+1) (b+1+1) d).1) [cE k e,mw (median ltInt e b (b+1) (b+1+1) d).2]:=by rintro j l n rfl rfl rfl;exact IW k e b (b+1) (b+1+1) d y y y p o
 refine g.aF (key (((b+1:Nat):Int)-1) _ (((b+1:Nat):Int)+1) y a y) [0,1] a (cx a v (g.aS [0,1] a ?_ yd));simp[medianAdjacent]
def qB:Hint->Int|.unknown=>0|.increasing=>1|.decreasing=>2
def IX(b:Nat)(d:Array Int){x s:Nat}(a:Nat)(l:x<b)(o:j<b)(p:s<b)(u:b<=4000000)(k:a<=900){e g i:Int}(t:e=x)(n:g=j)(v:i=s):
  Z r 259 [dN b,S e,S g,S i,sX] [cE b d,mw a] (S (median ltInt d x j s a).1) [cE b d,mw (median ltInt d x j s a).2]:=by grind[IW]
def Ct(b:Nat)(d:Array Int){x:Nat}(a:Nat)(i:1<=x)(j:x+1<b)(l:b<=4000000)(g:a<=900){e:Int}(k:e=x):
  Z r 258 [dN b,S e,sX] [cE b d,mw a] (S (medianAdjacent ltInt d x a).1) [cE b d,mw (medianAdjacent ltInt d x a).2]:=by grind[Wa]
def Dp{I:Array Int}{x eS:Nat}(a:1<=x)(b:x+1<k):(medianAdjacent ltInt I x eS).1<k/\(medianAdjacent ltInt I x eS).2<=eS+3:=
 aaI y y y
abbrev C4(a:Nat):Hint:=if a=0 then .increasing else if a=12 then .decreasing else .unknown
def SI{b:Array Int}{a:Nat}(g:8<=d)(e:d<50):choosePivot ltInt b a (a+d)=((median ltInt b (a+d / 4*1) (a+d / 4*2) (a+d / 4*3) 0).1,C4 (median ltInt b (a+d / 4*1) (a+d / 4*2) (a+d / 4*3) 0).2):=by unfold choosePivot;grind
abbrev oD(b:Array Int)(a d:Nat):=medianAdjacent ltInt b (a+d / 4*1) 0
abbrev oE(b:Array Int)(a d:Nat):=medianAdjacent ltInt b (a+d / 4*2) (oD b a d).2
abbrev oF(b:Array Int)(a d:Nat):=medianAdjacent ltInt b (a+d / 4*3) (oE b a d).2
def SH{a:Array Int}{b:Nat}(e:50<=d):choosePivot ltInt a b (b+d)=((median ltInt a (oD a b d).1 (oE a b d).1 (oF a b d).1 (oF a b d).2).1,C4 (median ltInt a (oD a b d).1 (oE a b d).1 (oF a b d).1 (oF a b d).2).2):=by unfold choosePivot;grind
def TV(k:Nat)(I:Array Int)(x j:Nat)(n:x<=j)(u:j<=k)(i:8<=j-x)(d:k<=4000000):
  Z r 220 [dN k,S x,S j] [cE k I] (.Q [.aq (.c (.int .i64 (choosePivot ltInt I x j).1)),.aq (.c (.int .i64 (qB (choosePivot ltInt I x j).2)))]) [cE k I]:=by
 refine Z.K func220 rfl λo=>?_;obtain⟨b,rfl⟩:∃b,j=x+b:=⟨j-x,by omega⟩
 rw[AG]at i;by_cases l:b<50
 .refine bR [(32,f),(34,m)] a QB (g.aF (IX k I (x:=x+b / 4*1) (j:=x+b / 4*2) (s:=x+b / 4*3) 0 y y y d y y y y) [0,1] a ?_);rw[SI i l];generalize median ltInt I (x+b / 4*1) (x+b / 4*2) (x+b / 4*3) 0=e;by_cases ae:e.2=0
  .exact Qb
  by_cases ai:e.2=12
  .exact Qu
  exact QU
 refine bR [(32,f),(34,f)] a QB ?_;have p:(oD I x b).1<k/\(oD I x b).2<=0+3:=Dp (I:=I) (x:=x+b / 4*1) (eS:=0) (k:=k) y y;have t:(oE I x b).1<k/\(oE I x b).2<=(oD I x b).2+3:=Dp (I:=I) (x:=x+b / 4*2) (eS:=(oD I x b).2) (k:=k) y y;have w:(oF I x b).1<k/\(oF I x b).2<=(oE I x b).2+3:=Dp (I:=I) (x:=x+b / 4*3) (eS:=(oE I x b).2) (k:=k) y y;refine g.aF (Ct k I (x:=x+b / 4*1) 0 y y d y y) [0,1] a (cx a v (g.aF (Ct k I (x:=x+b / 4*2) (oD I x b).2 y y d y y) [0,1] a (cx a v (g.aF (Ct k I (x:=x+b / 4*3) (oE I x b).2 y y d y y) [0,1] a (cx a v (g.aF (IX k I (x:=(oD I x b).1) (j:=(oE I x b).1) (s:=(oF I x b).1) (oF I x b).2 y y y d y a a a) [0,1] a ?_))))));rw[SH y];generalize median ltInt I (oD I x b).1 (oE I x b).1 (oF I x b).1 (oF I x b).2=e;by_cases ae:e.2=0
 .exact Qb
 by_cases ai:e.2=12
 .exact Qu
 exact QU
end
section
open Go.Sort (swp reverseLoop reverseRange siftDown heapBuild heapPop heapSort ltInt)
variable {r:aj V}
def WY(d:Nat)(j:Array Int)(i e:Nat)(u:j.size=d)(A:1<=e)(z:i<=d)(B:e<=d)(C:d<=4000000):Z r 221 [dN d,S i,S e] [cE d j] (.Q []) [cE d (reverseRange j i e)]:=by
 refine Z.K func221 rfl λx=>?_;refine a0 a bH (g.aL 1 (λb:Nat×Nat×Array Int=>b.2.2.size=d/\b.1<=d/\b.2.1<d+1/\b.2.1<d/\reverseLoop b.1 b.2.1 b.2.2=reverseRange j i e) (λb=>[(0,dN d),(6,S b.1),(7,S b.2.1)]) (λb=>[cE d b.2.2]) (λb=>b.2.1-b.1) (i,e-1,j) a bV a E a ⟨u,by grind,by grind,by grind,a⟩ ?_);rintro⟨k,l,d1⟩ ⟨p,o,_,w,n⟩;simp only at p o w n;by_cases s:k<l
 .refine bR [(13,f)] a ?_ (g.aB (k+1,l-1,swp d1 k l) a ?_ ?_ ?_ ?_)
  .simp only[U,cZ,c9,a8,bA,bb,a_];exact fv
  .exact bw
  .simp only[U.Z,U,cZ,c9,a_,bb];exact lS p y y (λ_ _=>rfl)
  .refine⟨by grind[nK],by grind,by grind,by grind,?_⟩;rw[<-n,reverseLoop.eq_1 k l d1,bs s]
  grind
 have t:reverseRange j i e=d1:=by rw[<-n,reverseLoop,bm s]
 rw[t];refine a7 [(13,m)] a bV (g.aC ?_);exact sg
def I9(a:Nat)(b:Array Int){e0 bq first:Nat}(i:b.size=a)(l:first+bq<=a)(j:e0<=a)(o:a<=4000000){d e g:Int}(n:d=e0)(k:e=bq)(p:g=first):
  Z r 255 [dN a,S d,S e,S g] [cE a b] (.Q []) [cE a (siftDown ltInt bq first e0 b)]:=by grind[Xc]
def Mg(a first:Nat):∀(d root:Nat)(b:Array Int),a-root<=d->(siftDown ltInt a first root b).size=b.size:=by
 intro d;induction d with
 |zero=>intro root b e;rw[siftDown,dif_pos y]
 |succ d g=>
  intro root b e;rw[siftDown];exact si
theorem UW(j:Nat)(n:Array Int)(b l:Nat)(z:n.size=j)(C:b<=l)(A:1<=l-b)(B:l<=j)(u:j<=4000000):Z r 218 [dN j,S b,S l] [cE j n] (.Q []) [cE j (heapSort ltInt n b l)]:=by
 refine Z.K func218 rfl λF=>?_;obtain⟨e,rfl⟩:∃e,l=b+e:=⟨l-b,by omega⟩
 rw[AG]at A;refine cx a Ri (g.cl (S2:=Array Int) 0 a a (λd2=>d2.size=j/\d2=heapBuild ltInt e b ((e-1) / 2+1) n) (λ_=>[(0,dN j),(6,S b),(7,S 0),(8,S e)]) (λd2=>[cE j d2]) 1 (λd:Nat×Array Int=>d.2.size=j/\d.1<=(e-1) / 2+1/\heapBuild ltInt e b d.1 d.2=heapBuild ltInt e b ((e-1) / 2+1) n) (λd=>[(0,dN j),(6,S b),(7,S 0),(8,S e),(9,S ((d.1:Int)-1))]) (λd=>[cE j d.2]) (λd=>d.1) ((e-1) / 2+1,n) a bV a E a ⟨z,bB _,a⟩ ?_ ?_)
 .rintro dy ⟨i,d1⟩ ⟨k,o,s⟩;simp only at k o s;cases i with
  |zero=>
   refine a7 [(19,m)] a E (g.aC ?_);exact dy d1 ⟨k,s⟩ a E a E
  |succ i=>
   refine a7 [(19,f)] rfl E (g.aF (I9 j d1 (e0:=i) (bq:=e) (first:=b) k B y u y rfl rfl) [0] rfl (cx rfl ?_ (g.aB (i,siftDown ltInt e b i d1) rfl ?_ ?_ ?_ ?_)))
   .exact uc
   .simp
   .simp
   .exact⟨by rw[Mg _ _ _ _ _ (bB _)];exact k,by grind,s⟩
   simp
 rintro p ⟨x,D⟩;refine cx a bH ?_;have w:heapSort ltInt n b (b+e)=heapPop ltInt b e p:=by unfold heapSort;grind
 rw[w];refine g.aL 1 (λd:Nat×Array Int=>d.2.size=j/\d.1<=e/\heapPop ltInt b d.1 d.2=heapPop ltInt b e p) (λd=>[(0,dN j),(6,S b),(7,S 0),(8,S e),(10,S ((d.1:Int)-1))]) (λd=>[cE j d.2]) (λd=>d.1) (e,p) a E a E a ⟨x,bB _,a⟩ ?_;rintro⟨i,d1⟩ ⟨k,o,s⟩;simp only at k o s;cases i with
 |zero=>
  rw[<-s];refine a7 [(30,m)] a E (g.aC ?_);exact sg
 |succ i=>
  have t:((b:Int)+(((i+1:Nat):Int)-1)).toNat=b+i:=y;refine bR [(30,f),(1000011,f)] a ?_ ?_
  .simp only[U,cZ,c9,t,a8,bA,bb,a_];exact fv
  refine g.bg [cE j (swp d1 b (b+i))] a ?_ ?_
  .simp only[U.Z,U,cZ,c9,t,a_,bb];exact lS k y y (λ_ _=>rfl)
  refine cx rfl v (g.aF (I9 j (swp d1 b (b+i)) (e0:=0) (bq:=i) (first:=b) si y y u rfl y rfl) [0] rfl (cx rfl ?_ (g.aB (i,siftDown ltInt i b 0 (swp d1 b (b+i))) rfl ?_ ?_ ?_ ?_)))
  .exact uc
  .simp
  .simp
  .exact⟨by rw[Mg _ _ _ _ _ (bB _),nK];exact k,by grind,s⟩
  simp
end
section
open Go.Sort (bitsLen)
variable {r:aj V}
def oA:p UInt8:=(aC 256).map λa=>UInt8.ofNat (bitsLen a)
def sM{l i}(b:l<2 ^ i):bitsLen l<=i:=by
 unfold bitsLen;split
 .omega
 rename_i a;have:=(Nat.log2_lt a).2 b;omega
theorem aaq{l:Nat}(a:l<256):(kN oA l).toNat=bitsLen l:=by unfold kN oA;rw[c9,al,nf,List.getElem?_range a];have:=sM (l:=l) (i:=8) a;grind[UInt8.toNat_ofNat']
def GH{i}(d:2 ^ i<=k):bitsLen k=i+bitsLen (k / 2 ^ i):=by
 have a:0<2 ^ i:=Nat.two_pow_pos i;have j:0<k / 2 ^ i:=Nat.div_pos d a;unfold bitsLen;rw[bm y,bm y];have e:Nat.log2 k=i+Nat.log2 (k / 2 ^ i):=by
  rw[Nat.log2_eq_iff y];have b:=Nat.log2_self_le (n:=k / 2 ^ i) y;have g:=Nat.lt_log2_self (n:=k / 2 ^ i);constructor
  .rw[Nat.pow_add,Nat.mul_comm];exact fM (g5 _ b) (Nat.div_mul_le_self k _)
  rw[show i+Nat.log2 (k / 2 ^ i)+1=i+(Nat.log2 (k / 2 ^ i)+1) by omega,Nat.pow_add];grind[Nat.div_lt_iff_lt_mul]
 omega
set_option maxRecDepth 100000 in
def VH(k:Nat)(w:k<=4000000):Z r 227 [mC k] [] (S (bitsLen k)) []:=by
 refine Z.K func227 rfl λv=>?_;have fin:∀{b:p UInt8} {l:Nat},b=oA->l<256->(kN b (l:Int)).toNat=bitsLen l:=λaR u=>by grind[aaq]
 have e:∀{b:p UInt8},b=oA->c b=256:=λaR=>by rw[aR];rfl
 by_cases t:65536<=k
 .have j:((k:Int).toNat / 2 ^ Int.toNat 16)=k / 65536:=E;have s:bitsLen k=16+bitsLen (k / 65536):=GH (k:=k) (i:=16) t;have n:=sM (l:=k / 65536) (i:=8) M;refine bR [(4,m),(8,f),(14,m)] a ?_ (g.aw a ?_)
  .generalize aR:(ByteArray.data _).toList=b;have d:b=oA:=ub;simp only[U,j,fin d (show k / 65536<256 by omega),e d,a8,bA,dr];exact fv
  generalize aR:(ByteArray.data _).toList=b;have d:b=oA:=ub;simp only[U,U.Z,j,fin d (show k / 65536<256 by omega),bb,a_];omega
 by_cases o:256<=k
 .have j:((k:Int).toNat / 2 ^ Int.toNat 8)=k / 256:=E;have s:bitsLen k=8+bitsLen (k / 256):=GH (k:=k) (i:=8) o;have n:=sM (l:=k / 256) (i:=8) M;refine bR [(4,m),(8,m),(14,f)] a ?_ (g.aw a ?_)
  .generalize aR:(ByteArray.data _).toList=b;have d:b=oA:=ub;simp only[U,j,fin d (show k / 256<256 by omega),e d,a8,bA,dr];exact fv
  generalize aR:(ByteArray.data _).toList=b;have d:b=oA:=ub;simp only[U,U.Z,j,fin d (show k / 256<256 by omega),bb,a_];omega
 have n:=sM (l:=k) (i:=8) M;refine bR [(4,m),(8,m),(14,m)] a ?_ (g.aw a ?_)
 .generalize aR:(ByteArray.data _).toList=b;have d:b=oA:=ub;simp only[U,fin d (show k<256 by omega),e d,a8,bA,dr];exact fv
 generalize aR:(ByteArray.data _).toList=b;have d:b=oA:=ub;simp only[U,U.Z,fin d (show k<256 by omega),bb,a_];omega
def IO(b:Nat)(d:b<=4000000):Z r 180 [mC b] [] (S (bitsLen b)) []:=by refine Z.K func180 rfl λe=>?_;refine cx a v ?_;refine g.fz ?_;refine cx a v ?_;refine g.aF (VH b d) [] a ?_;exact cx a v (g.aw a)
end
section
open Go.Sort (swp bitsLen xorNextN xorNextN_lt xorNext xorNext_toNat breakStep breakPatterns)
variable {r:aj V}
abbrev xg(a:Nat):an:=.cells 319 [.c (.int .u64 a)]
def Wm(b):Z r 257 [aH 0 0] [xg b] (mC (xorNextN b)) [xg (xorNextN b)]:=by refine Z.K func257 rfl λi=>?_;have e:(2:Nat) ^ Int.toNat 13=8192:=cc;have j:(2:Nat) ^ Int.toNat 7=128:=cc;have d:(2:Nat) ^ Int.toNat 17=131072:=cc;refine cx a E ?_;refine g.bg [xg (xorNextN b)] a bH (g.aS [0] a ?_ g_);exact bH
theorem WR(b:Nat)(d:b<=4000000):Z r 256 [S b] [] (mC ((1 <<< bitsLen b:Nat):Int)) []:=by refine Z.K func256 rfl λk=>?_;have e:=sM (l:=b) (i:=22) M;refine cx a bH ?_;refine g.aF (IO b d) [] a ?_;refine cx a bw (g.aw a ?_);have j:2 ^ bitsLen b<=2 ^ 22:=AK y e;simp only[U,U.Z,Nat.shiftLeft_eq,c9];grind
def aby{L}(a:0<L):1 <<< bitsLen L<=2*L:=by rw[Nat.shiftLeft_eq,Nat.one_mul];unfold bitsLen;rw[bm y,Nat.pow_succ];grind[Nat.log2_self_le]
def abz(L):1<=1 <<< bitsLen L:=by rw[Nat.shiftLeft_eq,Nat.one_mul];grind
def uT(d L b:Nat):Nat->Nat->UInt64×Array Int->UInt64×Array Int
 |0,_,a=>a
 |e+1,idx,a=>uT d L b e (idx+1) (breakStep d L b a idx)
def Sr{b}{a L}(d:8<=L):breakPatterns b a (a+L)=(uT a L (1 <<< bitsLen L) 3 (a+L / 4*2-1) (UInt64.ofNat L,b)).2:=by unfold breakPatterns;simp only[AG];exact bH
def Ss{x L bE idx}{ba}{I:Array Int}:breakStep x L bE (ba,I) idx=(xorNext ba,swp I idx (x+if(xorNextN ba.toNat &&& (bE-1))≥L then(xorNextN ba.toNat &&& (bE-1))-L else(xorNextN ba.toNat &&& (bE-1)))):=by unfold breakStep;simp only[xorNext_toNat]
abbrev Sq(e a L b:Nat)(d:Nat):bJ:=[(0,dN e),(1,S a),(6,S L),(7,aH 1 0),(8,mC b),(9,S ((a+L / 4*2-1+(3-d):Nat):Int))]
def TT(k)(I)(x j)(z:I.size=k)(D:x<=j)(M:j<=k)(B:k<=4000000):
  Z r 219 [dN k,S x,S j] [cE k I] (.Q []) [cE k (breakPatterns I x j)]:=by
 refine Z.K func219 rfl λN=>?_;obtain⟨L,rfl⟩:∃L,j=x+L:=⟨j-x,by omega⟩
 by_cases A:8<=L
 .rw[Sr A];have K:=aby (L:=L) y;have F:=abz L;have E:(UInt64.ofNat L).toNat=L:=by grind[UInt64.toNat_ofNat']
  refine bR [(15,f)] a sk ?_;have key:∀p:Int,p=(L:Int)->Z r 256 [S p] [] (mC ((1 <<< bitsLen L:Nat):Int)) []:=by grind[WR]
  refine g.aF (key _ y) [] a (cx a sk ?_);generalize J:1 <<< bitsLen L=bE at *;refine g.aL 2 (λb:Nat×UInt64×Array Int=>b.2.2.size=k/\b.1<=3/\(uT x L bE b.1 (x+L / 4*2-1+(3-b.1)) b.2).2=(uT x L bE 3 (x+L / 4*2-1) (UInt64.ofNat L,I)).2) (λb=>Sq k x L bE b.1) (λb=>[cE k b.2.2,xg b.2.1.toNat]) (λb=>b.1) (3,UInt64.ofNat L,I) a ?_ a ?_ a ⟨z,bB _,a⟩ ?_
  .simp only[U.Z,U,bb,a_];exact fv
  .exact bw
  rintro⟨i,ba,d1⟩ ⟨d,n,s⟩;simp only at d n s;cases i with
  |zero=>
   rw[<-s];refine bR [(33,m)] a zU (g.aC ?_);exact sg
  |succ i=>
   have O:=xorNextN_lt _ (UInt64.toNat_lt ba);have C:xorNextN ba.toNat &&& (bE-1)<=bE-1:=Nat.and_le_right;have w:((bE:Int)-1).toNat=bE-1:=y;refine bR [(33,f)] a sk (g.aF (Wm ba.toNat) [1] a ?_);have ae:=Ss (x:=x) (L:=L) (bE:=bE) (idx:=x+L / 4*2-1+(3-(i+1))) (ba:=ba) (I:=d1);generalize e:xorNextN ba.toNat &&& (bE-1)=l at *;by_cases o:L<=l
   .rw[bs o]at ae;have u:((x:Int)+((l:Int)-(L:Int))).toNat=x+(l-L):=y;refine bR [(43,f)] a ?_ (g.aB (i,xorNext ba,swp d1 (x+L / 4*2-1+(3-(i+1))) (x+(l-L))) a ?_ ?_ ?_ ?_)
    .simp only[U,cZ,c9,w,e,u,a8,bA,bb,a_];exact fv
    .exact z1
    .exact OE
    .exact P3
    simp
   rw[bm o]at ae;have u:((x:Int)+(l:Int)).toNat=x+l:=y;refine bR [(43,m)] a ?_ (g.aB (i,xorNext ba,swp d1 (x+L / 4*2-1+(3-(i+1))) (x+l)) a ?_ ?_ ?_ ?_)
   .simp only[U,cZ,c9,w,e,u,a8,dr,bb,a_];exact fv
   .exact z1
   .exact OE
   .exact P3
   simp
 have t:breakPatterns I x (x+L)=I:=by unfold breakPatterns;grind
 rw[t];exact bR [(15,m)] a bH sg
end
section
open Go.Sort (swp scanUp scanDown partLoop partEqLoop partition partitionEqual ltInt)
variable {r:aj V}
theorem za{b:Int->Bool}{a}(g:e<=w)(d:b a[e]! = f):scanUp b a w e=scanUp b a w (e+1):=by rw[scanUp.eq_1 b a w e,bs M]
theorem Ea{b:Int->Bool}{a}(d:e<=w->b a[e]! = m):scanUp b a w e=e:=by rw[scanUp,bm];grind
theorem L0{b:Int->Bool}{a}(i:1<=w)(j:e<=w)(g:b a[w]! = f):scanDown b a e w=scanDown b a e (w-1):=by
 obtain⟨w,rfl⟩:∃d,w=d+1:=⟨w-1,by omega⟩
 rw[scanDown,bs M,p9]
theorem L2{b:Int->Bool}{a}(d:e<=w->b a[w]! = m):scanDown b a e w=w:=by
 cases w with
 |zero=>rfl
 |succ w=>
  rw[scanDown,bm];grind
def vY{R:Int->Bool}{I}:∀b a,w+1-a<=b->a<=scanUp R I w a/\(scanUp R I w a<=w+1∨scanUp R I w a=a):=by
 intro b;induction b with
 |zero=>intro a e;rw[Ea (λd=>by omega)];omega
 |succ b i=>
  intro a e;by_cases g:a<=w
  .cases d:R I[a]! with
   |true=>grind[za]
   |false=>grind[Ea]
  grind
def vX{R:Int->Bool}{I}:∀a:Nat,scanDown R I e a<=a/\(e<=scanDown R I e a+1∨scanDown R I e a=a):=by
 intro a;induction a with
 |zero=>rw[show scanDown R I e 0=0 from rfl];omega
 |succ a d=>
  by_cases b:e<=a+1
  .cases s:R I[a+1]! with
   |true=>grind[L0]
   |false=>grind[L2]
  exact z2
def abo{d}{I}{ce a}(l:1<=e)(g:ce=scanUp (λb=>ltInt b I[d]!) I w e)(i:a=scanDown (λb=>!ltInt b I[d]!) I ce w):
  partLoop ltInt d e w I=if ce>a then(a,I)else partLoop ltInt d (ce+1) (a-1) (swp I ce a):=by have k:=vY (R:=λb=>ltInt b I[d]!) (I:=I) (w:=w) (w+1-e) e (bB _);have j:=vX (R:=λb=>!ltInt b I[d]!) (I:=I) (e:=ce) w;rw[<-g]at k;rw[<-i]at j;rw[partLoop.eq_1,<-g,<-i];grind
def abp{d s}{a ab}(k:s=swp d a ab)(g:e=scanUp (λb=>ltInt b s[a]!) s (j-1) (a+1))(i:w=scanDown (λb=>!ltInt b s[a]!) s e (j-1))(l:e>w):partition ltInt d a j ab=(w,f,swp s w a):=by unfold partition;grind
def abq{g s}{a ab}(n:s=swp g a ab)(k:e=scanUp (λd=>ltInt d s[a]!) s (j-1) (a+1))(l:w=scanDown (λd=>!ltInt d s[a]!) s e (j-1))(o:¬e>w){b}(i:partLoop ltInt a (e+1) (w-1) (swp s e w)=b):partition ltInt g a j ab=(b.1,m,swp b.2 b.1 a):=by subst i;unfold partition;grind
def WJ(k)(I)(x j ab)(aN:I.size=k)(aj:x<j)(an:j<=k)(au:ab<k)(aq:k<=4000000):
  Z r 225 [dN k,S x,S j,S ab] [cE k I] (.Q [.aq (.c (.int .i64 (partition ltInt I x j ab).1)),.aq (.c (.bool (partition ltInt I x j ab).2.1))]) [cE k (partition ltInt I x j ab).2.2]:=by
 have u:a9 r [(223,qk)]:=.cons r_ .nil;refine Z.K func225 rfl λao=>?_;refine bg u [(1000002,f)] a bw (g.bg [cE k (swp I x ab)] a ?_ ?_)
 .simp only[U.Z,U,cZ,c9,a_,bb];exact lS aN y y (λ_ _=>rfl)
 have bC:(swp I x ab).size=k:=si;obtain⟨ae,B⟩:∃ae,ae=swp I x ab:=⟨_,rfl⟩;rw[<-B]at bC⊢;refine cO u a sh ?_
 refine g.cl (S2:=Unit) 0 a a (λ_=>True) (λ_=>[(0,dN k),(1,S x),(10,S ((scanUp (λl=>ltInt l ae[x]!) ae (j-1) (x+1)):Nat)),(11,S (j-1:Nat))]) (λ_=>[cE k ae]) 1 (λi:Nat=>x+1<=i/\i<=k+1/\scanUp (λl=>ltInt l ae[x]!) ae (j-1) i=scanUp (λl=>ltInt l ae[x]!) ae (j-1) (x+1)) (λi=>[(0,dN k),(1,S x),(10,S (i:Nat)),(11,S (j-1:Nat))]) (λ_=>[cE k ae]) (λi=>j-1+1-i) (x+1) a bH a E a ⟨bB _,by omega,a⟩ ?_ ?_
 .rintro dy i ⟨o,t,Q⟩;by_cases T:i<=j-1
  .by_cases ar:(λl=>ltInt l ae[x]!) ae[i]! = f
   .have C:ltInt ae[i]! ae[x]! = f:=M;refine bg u [(32,f),(42,f)] a q7 (g.aB (i+1) a E E ?_ ?_)
    .grind [za]
    omega
   have C:ltInt ae[i]! ae[x]! = m:=M;refine bg u [(32,f),(42,m)] a q7 (g.aC ?_);exact N6
  refine bg u [(32,m)] a bw (g.aC ?_);exact N6
 rintro⟨⟩ -;have ag:=vY (R:=λl=>ltInt l ae[x]!) (I:=ae) (w:=j-1) (j-1+1-(x+1)) (x+1) (bB _);obtain⟨e,p⟩:∃e,e=scanUp (λl=>ltInt l ae[x]!) ae (j-1) (x+1):=⟨_,rfl⟩
 rw[<-p]at ag⊢;refine cO u a v (g.cl (S2:=Unit) 2 a a (λ_=>True) (λ_=>[(0,dN k),(1,S x),(10,S (e:Nat)),(11,S ((scanDown (λl=>!ltInt l ae[x]!) ae (e) (j-1)):Nat))]) (λ_=>[cE k ae]) 1 (λi:Nat=>i<=j-1/\i<=k/\scanDown (λl=>!ltInt l ae[x]!) ae (e) i=scanDown (λl=>!ltInt l ae[x]!) ae (e) (j-1)) (λi=>[(0,dN k),(1,S x),(10,S (e:Nat)),(11,S (i:Nat))]) (λ_=>[cE k ae]) (λi=>i) (j-1) a ?_ a ?_ a ⟨bB _,by omega,a⟩ ?_ ?_)
 .simp[bu]<;>omega
 .simp
 .rintro dy i ⟨o,t,Q⟩;by_cases T:e<=i
  .by_cases ar:(λl=>!ltInt l ae[x]!) ae[i]! = f
   .have C:ltInt ae[i]! ae[x]! = m:=M;refine bg u [(48,f),(58,m)] a q7 (g.aB (i-1) a bw E E9 ?_);omega
   have C:ltInt ae[i]! ae[x]! = f:=M;refine bg u [(48,f),(58,f)] a q7 (g.aC ?_);exact N1
  refine bg u [(48,m)] a bw (g.aC ?_);exact N1
 rintro⟨⟩ -;have ah:=vX (R:=λl=>!ltInt l ae[x]!) (I:=ae) (e:=e) (j-1);obtain⟨w,F⟩:∃w,w=scanDown (λl=>!ltInt l ae[x]!) ae e (j-1):=⟨_,rfl⟩
 rw[<-F]at ah⊢;by_cases aa:w<e
 .rw[abp B p F aa];refine bg u [(65,f),(1000009,f)] a bw (g.bg [cE k (swp ae w x)] a PT ?_);exact Pg
 refine bg u [(65,m),(1000011,f)] a bw (g.bg [cE k (swp ae e w)] a PT ?_);refine cO u a sh ?_;have X:(swp ae e w).size=k:=si;obtain⟨n,D⟩:∃n,partLoop ltInt x (e+1) (w-1) (swp ae e w)=n:=⟨_,rfl⟩;rw[abq B p F y D]
 obtain⟨d1,L⟩:∃d1,d1=swp ae e w:=⟨_,rfl⟩;rw[<-L]at X D⊢;refine g.cl (S2:=Unit) 4 a a (λ_=>n.1<k/\n.2.size=k) (λ_=>[(0,dN k),(1,S x),(11,S n.1)]) (λ_=>[cE k n.2]) 1 (λb:Nat×Nat×Array Int=>b.2.2.size=k/\x+1<=b.1/\b.1<=k+1/\b.2.1<k/\partLoop ltInt x b.1 b.2.1 b.2.2=n) (λb=>[(0,dN k),(1,S x),(10,S b.1),(11,S b.2.1)]) (λb=>[cE k b.2.2]) (λb=>b.2.1+1-b.1) (e+1,w-1,d1) a bw a E a ⟨X,by grind,by grind,by grind,D⟩ ?_ ?_
 .rintro z ⟨ef,d,d2⟩ ⟨G,ad,W,P,A⟩;simp only at G ad W P A;refine cO u a v (g.cl (S2:=Unit) 6 a a (λ_=>True) (λ_=>[(0,dN k),(1,S x),(10,S ((scanUp (λl=>ltInt l d2[x]!) d2 (d) (ef)):Nat)),(11,S (d:Nat))]) (λ_=>[cE k d2]) 1 (λi:Nat=>ef<=i/\i<=k+1/\scanUp (λl=>ltInt l d2[x]!) d2 (d) i=scanUp (λl=>ltInt l d2[x]!) d2 (d) (ef)) (λi=>[(0,dN k),(1,S x),(10,S (i:Nat)),(11,S (d:Nat))]) (λ_=>[cE k d2]) (λi=>d+1-i) (ef) a ?_ a ?_ a ⟨bB _,by omega,a⟩ ?_ ?_)
  .simp[bu]<;>omega
  .simp
  .rintro dy i ⟨o,t,Q⟩;by_cases T:i<=d
   .by_cases ar:(λl=>ltInt l d2[x]!) d2[i]! = f
    .have C:ltInt d2[i]! d2[x]! = f:=M;refine bg u [(101,f),(111,f)] a q7 (g.aB (i+1) a E E ?_ ?_)
     .grind [za]
     omega
    have C:ltInt d2[i]! d2[x]! = m:=M;refine bg u [(101,f),(111,m)] a q7 (g.aC ?_);exact OV
   refine bg u [(101,m)] a bw (g.aC ?_);exact OV
  rintro⟨⟩ -;have J:=vY (R:=λl=>ltInt l d2[x]!) (I:=d2) (w:=d) (d+1-ef) ef (bB _);obtain⟨fA,N⟩:∃fA,fA=scanUp (λl=>ltInt l d2[x]!) d2 d ef:=⟨_,rfl⟩
  rw[<-N]at J⊢;refine cO u a v (g.cl (S2:=Unit) 8 a a (λ_=>True) (λ_=>[(0,dN k),(1,S x),(10,S (fA:Nat)),(11,S ((scanDown (λl=>!ltInt l d2[x]!) d2 (fA) (d)):Nat))]) (λ_=>[cE k d2]) 1 (λi:Nat=>i<=d/\i<=k/\scanDown (λl=>!ltInt l d2[x]!) d2 (fA) i=scanDown (λl=>!ltInt l d2[x]!) d2 (fA) (d)) (λi=>[(0,dN k),(1,S x),(10,S (fA:Nat)),(11,S (i:Nat))]) (λ_=>[cE k d2]) (λi=>i) (d) a ?_ a ?_ a ⟨bB _,by omega,a⟩ ?_ ?_)
  .simp[bu]<;>omega
  .simp
  .rintro dy i ⟨o,t,Q⟩;by_cases T:fA<=i
   .by_cases ar:(λl=>!ltInt l d2[x]!) d2[i]! = f
    .have C:ltInt d2[i]! d2[x]! = m:=M;refine bg u [(117,f),(127,m)] a q7 (g.aB (i-1) a bw E E9 ?_);omega
    have C:ltInt d2[i]! d2[x]! = f:=M;refine bg u [(117,f),(127,f)] a q7 (g.aC ?_);exact OP
   refine bg u [(117,m)] a bw (g.aC ?_);exact OP
  rintro⟨⟩ -;have K:=vX (R:=λl=>!ltInt l d2[x]!) (I:=d2) (e:=fA) d;obtain⟨s,V⟩:∃s,s=scanDown (λl=>!ltInt l d2[x]!) d2 fA d:=⟨_,rfl⟩
  rw[<-V]at K⊢;have Y:=abo y N V;by_cases O:s<fA
  .have ai:=Y;rw[A,bs O]at ai;refine bg u [(134,f)] a bw (g.aC ?_);exact z () M a Nw a uf
  have ai:=Y;rw[A,bm y]at ai;refine bg u [(134,m),(1000019,f)] a ?_ ?_
  .simp only[U,cZ,c9,a8,dr,bb,a_];exact fv
  refine g.bg [cE k (swp d2 fA s)] a ?_ ?_
  .simp only[U.Z,U,cZ,c9,a_,bb];exact lS G y y (λ_ _=>rfl)
  refine cO u a sh (g.aB (fA+1,s-1,swp d2 fA s) a bw E ?_ ?_)
  .grind [nK]
  grind
 rintro⟨⟩ ⟨ak,H⟩;refine bg u [(1000022,f)] a bw (g.bg [cE k (swp n.2 n.1 x)] a N_ ?_);exact Pg
def abn{d}{I}{ce a}(l:1<=e)(g:ce=scanUp (λb=>!ltInt I[d]! b) I w e)(i:a=scanDown (λb=>ltInt I[d]! b) I ce w):
  partEqLoop ltInt d e w I=if ce>a then(ce,I)else partEqLoop ltInt d (ce+1) (a-1) (swp I ce a):=by have k:=vY (R:=λb=>!ltInt I[d]! b) (I:=I) (w:=w) (w+1-e) e (bB _);have j:=vX (R:=λb=>ltInt I[d]! b) (I:=I) (e:=ce) w;rw[<-g]at k;rw[<-i]at j;rw[partEqLoop.eq_1,<-g,<-i];grind
def WK(k)(I)(x j ab)(H:I.size=k)(Y:x<j)(aa:j<=k)(P:ab<k)(ag:k<=4000000):
  Z r 224 [dN k,S x,S j,S ab] [cE k I] (S (partitionEqual ltInt I x j ab).1) [cE k (partitionEqual ltInt I x j ab).2]:=by
 have d:a9 r [(223,qk)]:=.cons r_ .nil;refine Z.K func224 rfl λad=>?_;refine bg d [(1000002,f)] a bw (g.bg [cE k (swp I x ab)] a N_ ?_);have D:(swp I x ab).size=k:=si;unfold partitionEqual;generalize swp I x ab=d1 at *;obtain⟨n,G⟩:∃n,partEqLoop ltInt x (x+1) (j-1) d1=n:=⟨_,rfl⟩;rw[G];refine cO d a sh ?_
 refine g.cl (S2:=Unit) 0 a a (λ_=>n.1<=k+1/\n.2.size=k) (λ_=>[(0,dN k),(1,S x),(9,S n.1)]) (λ_=>[cE k n.2]) 1 (λb:Nat×Nat×Array Int=>b.2.2.size=k/\x+1<=b.1/\b.1<=k+1/\b.2.1<k/\partEqLoop ltInt x b.1 b.2.1 b.2.2=n) (λb=>[(0,dN k),(1,S x),(9,S b.1),(10,S b.2.1)]) (λb=>[cE k b.2.2]) (λb=>b.2.1+1-b.1) (x+1,j-1,d1) a bw a E a ⟨D,by grind,by grind,by grind,G⟩ ?_ ?_
 .rintro Q ⟨ef,s,d2⟩ ⟨X,z,T,J,u⟩;simp only at X z T J u;refine cO d a v (g.cl (S2:=Unit) 2 a a (λ_=>True) (λ_=>[(0,dN k),(1,S x),(9,S ((scanUp (λl=>!ltInt d2[x]! l) d2 (s) (ef)):Nat)),(10,S (s:Nat))]) (λ_=>[cE k d2]) 1 (λi:Nat=>ef<=i/\i<=k+1/\scanUp (λl=>!ltInt d2[x]! l) d2 (s) i=scanUp (λl=>!ltInt d2[x]! l) d2 (s) (ef)) (λi=>[(0,dN k),(1,S x),(9,S (i:Nat)),(10,S (s:Nat))]) (λ_=>[cE k d2]) (λi=>s+1-i) (ef) a ?_ a ?_ a ⟨bB _,by omega,a⟩ ?_ ?_)
  .simp[bu]<;>omega
  .simp
  .rintro dy i ⟨O,V,N⟩;by_cases F:i<=s
   .by_cases ar:(λl=>!ltInt d2[x]! l) d2[i]! = f
    .have ae:ltInt d2[x]! d2[i]! = m:=M;refine bg d [(31,f),(41,m)] a zZ (g.aB (i+1) a E E ?_ ?_)
     .grind [za]
     omega
    have ae:ltInt d2[x]! d2[i]! = f:=M;refine bg d [(31,f),(41,f)] a zZ (g.aC ?_);exact Q4
   refine bg d [(31,m)] a bw (g.aC ?_);exact Q4
  rintro⟨⟩ -;have p:=vY (R:=λl=>!ltInt d2[x]! l) (I:=d2) (w:=s) (s+1-ef) ef (bB _);obtain⟨fA,C⟩:∃fA,fA=scanUp (λl=>!ltInt d2[x]! l) d2 s ef:=⟨_,rfl⟩
  rw[<-C]at p⊢;refine cO d a v (g.cl (S2:=Unit) 4 a a (λ_=>True) (λ_=>[(0,dN k),(1,S x),(9,S (fA:Nat)),(10,S ((scanDown (λl=>ltInt d2[x]! l) d2 (fA) (s)):Nat))]) (λ_=>[cE k d2]) 1 (λi:Nat=>i<=s/\i<=k/\scanDown (λl=>ltInt d2[x]! l) d2 (fA) i=scanDown (λl=>ltInt d2[x]! l) d2 (fA) (s)) (λi=>[(0,dN k),(1,S x),(9,S (fA:Nat)),(10,S (i:Nat))]) (λ_=>[cE k d2]) (λi=>i) (s) a ?_ a ?_ a ⟨bB _,by omega,a⟩ ?_ ?_)
  .simp[bu]<;>omega
  .simp
  .rintro dy i ⟨O,V,N⟩;by_cases F:fA<=i
   .by_cases ar:(λl=>ltInt d2[x]! l) d2[i]! = f
    .have ae:ltInt d2[x]! d2[i]! = f:=M;refine bg d [(48,f),(58,f)] a zZ (g.aB (i-1) a bw E E9 ?_);omega
    have ae:ltInt d2[x]! d2[i]! = m:=M;refine bg d [(48,f),(58,m)] a zZ (g.aC ?_);exact OX
   refine bg d [(48,m)] a bw (g.aC ?_);exact OX
  rintro⟨⟩ -;have t:=vX (R:=λl=>ltInt d2[x]! l) (I:=d2) (e:=fA) s;obtain⟨o,A⟩:∃o,o=scanDown (λl=>ltInt d2[x]! l) d2 fA s:=⟨_,rfl⟩
  rw[<-A]at t⊢;have B:=abn y C A;by_cases K:o<fA
  .have ai:=B;rw[u,bs K]at ai;refine bg d [(64,f)] a bw (g.aC ?_);exact Q () M a Nw a uf
  have ai:=B;rw[u,bm y]at ai;refine bg d [(64,m),(1000009,f)] a bw (g.bg [cE k (swp d2 fA o)] a ?_ ?_)
  .simp only[U.Z,U,cZ,c9,a_,bb];exact lS X y y (λ_ _=>rfl)
  refine cO d a sh (g.aB (fA+1,o-1,swp d2 fA o) a bw E ?_ ?_)
  .grind [nK]
  grind
 rintro⟨⟩ ⟨L,W⟩;refine cO d a v (g.aS [0] a ?_ g_);simp
end
section
open Go.Sort (swp scanSorted shiftDown shiftUp partialIns partialInsertionSort ltInt)
variable {r:aj V}
theorem L3{a}(d:e<j)(b:ltInt a[e]! a[e-1]! = m):scanSorted ltInt a j e=scanSorted ltInt a j (e+1):=by rw[scanSorted.eq_1 ltInt a j e,bs M]
theorem y'{a}(b:e<j->ltInt a[e]! a[e-1]! = f):scanSorted ltInt a j e=e:=by rw[scanSorted,bm];grind
def acm{I}:∀b a,j-a<=b->a<=j->a<=scanSorted ltInt I j a/\scanSorted ltInt I j a<=j:=by
 intro b;induction b with
 |zero=>grind[y']
 |succ b e=>
  intro a k g;by_cases d:a<j
  .cases i:ltInt I[a]! I[a-1]! with
   |false=>grind[L3]
   |true=>grind[y']
  grind
theorem acD{a}(d:1<=w)(u:ltInt a[w]! a[w-1]! = f):shiftDown ltInt w a=shiftDown ltInt (w-1) (swp a w (w-1)):=by
 obtain⟨w,rfl⟩:∃b,w=b+1:=⟨w-1,by omega⟩
 simp only[p9]at u⊢;rw[shiftDown,bm g4]
theorem Ma{a}(b:1<=w->ltInt a[w]! a[w-1]! = m):shiftDown ltInt w a=a:=by
 cases w with
 |zero=>rfl
 |succ w=>
  have:=b y;simp only[p9]at this;rw[shiftDown,bs M]
theorem acE{a}(b:w<j)(u:ltInt a[w]! a[w-1]! = f):shiftUp ltInt j w a=shiftUp ltInt j (w+1) (swp a w (w-1)):=by rw[shiftUp.eq_1 ltInt j w a,bs b,bm g4]
theorem Mb{a}(b:w<j->ltInt a[w]! a[w-1]! = m):shiftUp ltInt j w a=a:=by rw[shiftUp];grind
abbrev qQ(e a b d g:Nat):bJ:=[(0,dN e),(1,S a),(2,S b),(7,S d),(8,S (5-(g:Int)))]
def abs{d b}{a}:partialIns ltInt d j (b+1) e a=(if scanSorted ltInt a j e=j then(a,f)else if j-d<50 then(a,m)else
  partialIns ltInt d j b (scanSorted ltInt a j e) (if j-scanSorted ltInt a j e≥2 then shiftUp ltInt j (scanSorted ltInt a j e+1) (if scanSorted ltInt a j e-d≥2 then shiftDown ltInt (scanSorted ltInt a j e-1) (swp a (scanSorted ltInt a j e) (scanSorted ltInt a j e-1))else swp a (scanSorted ltInt a j e) (scanSorted ltInt a j e-1))else(if scanSorted ltInt a j e-d≥2 then shiftDown ltInt (scanSorted ltInt a j e-1) (swp a (scanSorted ltInt a j e) (scanSorted ltInt a j e-1))else swp a (scanSorted ltInt a j e) (scanSorted ltInt a j e-1)))):=rfl
def I0(k)(I)(s j)(ad:I.size=k)(aN:s<j)(ak:j<=k)(ao:k<=4000000):
  Z r 222 [dN k,S s,S j] [cE k I] (bj (partialInsertionSort ltInt I s j).2) [cE k (partialInsertionSort ltInt I s j).1]:=by
 have n:a9 r [(223,qk)]:=.cons r_ .nil;refine Z.K func222 rfl λan=>?_;obtain⟨x,Q⟩:∃x,partialIns ltInt s j 5 (s+1) I=x:=⟨_,rfl⟩;have aa:partialInsertionSort ltInt I s j=x:=Q;rw[aa];refine cO n a bH ?_
 refine g.cl (S2:=Unit) 0 a a (λ_=>x.2=m) (λ_=>[(0,dN k)]) (λ_=>[cE k x.1]) 1 (λb:Nat×Nat×Array Int=>b.2.2.size=k/\b.1<=5/\s+1<=b.2.1/\b.2.1<=j/\partialIns ltInt s j b.1 b.2.1 b.2.2=x) (λb=>qQ k s j b.2.1 b.1) (λb=>[cE k b.2.2]) (λb=>b.1) (5,s+1,I) a E a E a ⟨ad,by grind,by grind,by grind,Q⟩ ?_ ?_
 .rintro l ⟨b,e,d1⟩ ⟨L,W,bq,C,u⟩;simp only at L W bq C u;cases b with
  |zero=>
   rw[partialIns]at u;refine bg n [(14,m)] a E (g.aC ?_);exact l () M a E a (by simp[bu,<-u])
  |succ b=>
   rw[abs]at u;refine bg n [(14,f)] a bw (g.cl (S2:=Unit) 2 a a (λ_=>True) (λ_=>qQ k s j (scanSorted ltInt d1 j e) (b+1)) (λ_=>[cE k d1]) 1 (λi:Nat=>e<=i/\i<=j/\scanSorted ltInt d1 j i=scanSorted ltInt d1 j e) (λi=>qQ k s j i (b+1)) (λ_=>[cE k d1]) (λi=>j-i) e a E a E a ⟨bB _,C,a⟩ ?_ ?_)
   .rintro dy i ⟨ag,D,ah⟩;by_cases aj:i<j
    .have O:((i:Int)-1).toNat=i-1:=y;cases R:ltInt d1[i]! d1[i-1]! with
     |false=>
      refine bg n [(19,f),(30,m)] a O2 (g.aB (i+1) a E E ?_ ?_)
      .grind [L3]
      omega
     |true=>
      refine bg n [(19,f),(30,f)] a O2 (g.aC ?_);have ai:scanSorted ltInt d1 j e=i:=by grind[y']
      exact dy () v a bw a E
    refine bg n [(19,m)] a bw (g.aC ?_);have ai:scanSorted ltInt d1 j e=i:=by grind[y']
    exact dy () v a bw a E
   rintro⟨⟩ -;have ae:=acm (I:=d1) (j:=j) (j-e) e (bB _) C;obtain⟨ce,G⟩:∃ce,ce=scanSorted ltInt d1 j e:=⟨_,rfl⟩;rw[<-G]at ae u⊢
   by_cases F:ce=j
   .rw[bs F]at u;rw[<-u];refine bg n [(37,f)] a ?_ (g.aX (bW.mk [0] a ?_ a a a g_))
    .simp[F]
    simp
   rw[bm F]at u;by_cases Y:j-s<50
   .rw[bs Y]at u;rw[<-u];refine bg n [(37,m),(41,f)] a oV (g.aX (bW.mk [0] a ?_ a a a g_));simp
   rw[bm Y]at u;have O:((ce:Int)-1).toNat=ce-1:=y;refine bg n [(37,m),(41,m),(1000012,f)] a ?_ ?_
   .simp only[U,cZ,c9,O,a8,dr,eY,d_,bb,a_];exact fv
   refine g.bg [cE k (swp d1 ce (ce-1))] a ?_ ?_
   .simp only[U.Z,U,cZ,c9,O,a_,bb];exact lS L y y (λ_ _=>rfl)
   have X:(swp d1 ce (ce-1)).size=k:=si;obtain⟨d2,N⟩:∃d2,d2=swp d1 ce (ce-1):=⟨_,rfl⟩;rw[<-N]at X u⊢;obtain⟨d3,B⟩:∃d3,d3=if ce-s≥2 then shiftDown ltInt (ce-1) d2 else d2:=⟨_,rfl⟩
   rw[<-B]at u;have D_:∀p I,(shiftDown ltInt p I).size=I.size:=by
    intro p;induction p with
    |zero=>intro I;rfl
    |succ p aq=>
     intro I;rw[shiftDown];exact si
   have z:d3.size=k:=M;apply g.cj (qQ k s j ce (b+1)) [cE k d3]
   .intro dy;by_cases K:ce-s≥2
    .rw[bs K]at B;refine bg n [(61,f)] a sk (g.cl (S2:=Unit) 4 a a (λ_=>True) (λ_=>qQ k s j ce (b+1)) (λ_=>[cE k d3]) 1 (λb:Nat×Array Int=>b.2.size=k/\b.1<j/\shiftDown ltInt b.1 b.2=d3) (λw=>qQ k s j ce (b+1)++[(9,S w.1)]) (λb=>[cE k b.2]) (λb=>b.1) (ce-1,d2) a bw a E a ⟨X,by grind,B.symm⟩ ?_ ?_)
     .rintro A ⟨p,d4⟩ ⟨t,H,d⟩;simp only at t H d;by_cases V:1<=p
      .have o:((p:Int)-1).toNat=p-1:=y;cases R:ltInt d4[p]! d4[p-1]! with
       |true=>
        refine bg n [(65,f),(77,f)] a z0 (g.aB (p-1,swp d4 p (p-1)) a bw N4 ?_ ?_)
        .grind [acD]
        grind
       |false=>
        refine bg n [(65,f),(77,m)] a z0 (g.aC ?_);have ai:d3=d4:=by grind[Ma]
        exact A () v a E a uf
      refine bg n [(65,m)] a bw (g.aC ?_);have ai:d3=d4:=by grind[Ma]
      exact A () v a E a uf
     rintro⟨⟩ -;exact bg n [(1000018,f)] a v kE
    rw[bm K]at B;rw[<-B];exact bg n [(61,m),(1000018,f)] a zU kE
   by_cases T:j-ce≥2
   .rw[bs T]at u;obtain⟨e9,J⟩:∃e9,shiftUp ltInt j (ce+1) d3=e9:=⟨_,rfl⟩;rw[J]at u;refine bg n [(98,f)] a sk ?_
    refine g.cl (S2:=Unit) 6 a a (λ_=>e9.size=k) (λ_=>qQ k s j ce (b+1)) (λ_=>[cE k e9]) 1 (λb:Nat×Array Int=>b.2.size=k/\1<=b.1/\b.1<=j/\shiftUp ltInt j b.1 b.2=e9) (λw=>qQ k s j ce (b+1)++[(10,S w.1)]) (λb=>[cE k b.2]) (λb=>j-b.1) (ce+1,d3) a E a E a ⟨z,by grind,by grind,J⟩ ?_ ?_
    .rintro A ⟨p,d4⟩ ⟨t,V,H,d⟩;simp only at t V H d;by_cases P:p<j
     .have o:((p:Int)-1).toNat=p-1:=y;cases R:ltInt d4[p]! d4[p-1]! with
      |true=>
       refine bg n [(103,f),(115,f)] a z0 (g.aB (p+1,swp d4 p (p-1)) a E N4 ?_ ?_)
       .grind [nK,acE]
       grind
      |false=>
       refine bg n [(103,f),(115,m)] a z0 (g.aC ?_);have ai:e9=d4:=by grind[Mb]
       exact A () M a E a uf
     refine bg n [(103,m)] a bw (g.aC ?_);have ai:e9=d4:=by grind[Mb]
     exact A () M a E a uf
    rintro⟨⟩ W;refine cO n a uc (g.aB (b,ce,e9) a bw E M ?_);grind
   rw[bm T]at u;refine bg n [(98,m)] a zU (g.aB (b,ce,d3) a bw E M ?_);grind
 rintro⟨⟩ ab;refine cO n a v (g.aS [0] a ?_ g_);simp[ab]
end
section
open Go.Sort (swp pdq rd Rd Below SWO insertionSort heapSort breakPatterns choosePivot reverseRange partialInsertionSort partition partitionEqual Hint ltInt PermIn SortedIn)
variable {r:aj V}
abbrev vS(i d e g:Nat)(a b:Bool):bJ:=[(0,dN i),(1,S d),(2,S e),(3,S g),(8,bj a),(9,bj b)]
def JP{a}:qB a=2↔a=.decreasing:=by cases a<;>simp[qB]
def YO{a}:qB a=1↔a=.increasing:=by cases a<;>simp[qB]
structure RH where
 cQ:Nat
 dx:Nat
 lim:Nat
 hR:Bool
 hT:Bool
 dc:Array Int
def Vk(k)(a){x}(d:a.size=k)(i:j<=k)(e:x<=k)(l:k<=4000000){b}(g:b=insertionSort ltInt a x j):Z r 217 [dN k,S x,S j] [cE k a] (.Q []) [cE k b]:=by grind[Vj]
def UZ(k)(a){x}(e:a.size=k)(d:x<=j)(i:1<=j-x)(l:j<=k)(n:k<=4000000){b}(g:b=heapSort ltInt a x j):Z r 218 [dN k,S x,S j] [cE k a] (.Q []) [cE k b]:=by grind[UW]
def WN(k)(u:k<=4000000):∀aw(K:Array Int)(x j lim:Nat),j-x<=aw->K.size=k->x<=j->j<=k->lim<=100->Below ltInt x j K ->
  ∀{l aQ aR:Int},l=x->aQ=j->aR=lim->∀{aq:Array Int},aq=pdq ltInt K x j lim f f->Z r 179 [dN k,S l,S aQ,S aR] [cE k K] (.Q []) [cE k aq]:=by
 have e:a9 r [(223,qk)]:=.cons r_ .nil;have N:=Go.Sort.swo_ltInt;have a6:=Go.Sort.partialInsertionSort_holds (lt:=ltInt);have aj:=Go.Sort.partition_holds ltInt;have ai:=Go.Sort.partitionEqual_holds ltInt;have a0:=Go.Sort.reverseRange_holds (α:=Int);have L:=Go.Sort.pdq_sorts ltInt;intro aw;induction aw using Nat.strongRecOn with
 |_ aw ak=>
 intro K x j lim ba ae ad aG aI aE l aQ aR aJ aK aL aq ab;subst aJ aK aL;refine Z.K func179 rfl λaH=>?_;refine cO e a v (g.aL 1 (λp:RH=>p.dc.size=k/\p.cQ<=p.dx/\p.dx<=k/\p.lim<=100/\p.dx-p.cQ<=j-x/\Below ltInt p.cQ p.dx p.dc/\pdq ltInt p.dc p.cQ p.dx p.lim p.hR p.hT=aq) (λp=>vS k p.cQ p.dx p.lim p.hR p.hT) (λp=>[cE k p.dc]) (λp=>p.dx-p.cQ) ⟨x,j,lim,f,f,K⟩ a E a E a ⟨ae,ad,aG,aI,bB _,aE,ab.symm⟩ ?_);clear aH aE ae ab;rintro⟨i,n,s,d,o,d1⟩ ⟨T,ax,t,ag,ah,aE,Q⟩;simp only at T ax t ag ah aE Q;by_cases O:n-i<=12
 .rw[Go.Sort.pdq_small O]at Q;refine bg e [(23,f)] a ?_ ?_
  .simp only[U,a8,bA];exact fv
  exact g.aF (Vk k d1 (x:=i) (j:=n) T t y u Q.symm) [0] a FA
 by_cases R:s=0
 .rw[Go.Sort.pdq_heap O R]at Q;refine bg e [(23,m),(29,f)] a ?_ ?_
  .simp only[U,a8,dr,gW];exact fv
  exact g.aF (UZ k d1 (x:=i) (j:=n) T ax y t u Q.symm) [0] a FA
 have an:i<n:=y;obtain⟨X,a7,f3,f4,f5,au,ar,f8⟩:=Go.Sort.rd_facts (limit:=s) (wb:=d) (wp:=o) N a6 a0 an M aE;have a':=Go.Sort.rd_lim_le (lt:=ltInt) (d:=d1) (a:=i) (b:=n) (limit:=s) (wb:=d) (wp:=o);have a1:=Go.Sort.rd_dec (lt:=ltInt) (d:=d1) (a:=i) (b:=n) (limit:=s) (wb:=d) (wp:=o);have aN:=Go.Sort.rd_not (lt:=ltInt) (d:=d1) (a:=i) (b:=n) (limit:=s) (wb:=d) (wp:=o);have G:=Go.Sort.rd_pi_yes (lt:=ltInt) (d:=d1) (a:=i) (b:=n) (limit:=s) (wb:=d) (wp:=o);have aV:=Go.Sort.rd_pi_no (lt:=ltInt) (d:=d1) (a:=i) (b:=n) (limit:=s) (wb:=d) (wp:=o);have aA:=Go.Sort.rd_c (lt:=ltInt) (d:=d1) (a:=i) (b:=n) (limit:=s) (wb:=d) (wp:=o);have Y:d=m->(rd ltInt d1 i n s d o).d1=breakPatterns d1 i n/\(rd ltInt d1 i n s d o).lim=s-1:=by grind[Go.Sort.rd_false]
 have aa:d=f->(rd ltInt d1 i n s d o).d1=d1/\(rd ltInt d1 i n s d o).lim=s:=by grind[Go.Sort.rd_true]
 have aS:=Go.Sort.pdq_done (lt:=ltInt) (d:=d1) (wb:=d) (wp:=o) O R;have geq:=Go.Sort.pdq_eq (lt:=ltInt) (d:=d1) (wb:=d) (wp:=o) O R;have z:=Go.Sort.pdq_left (lt:=ltInt) (d:=d1) (wb:=d) (wp:=o) O R;have aX:=Go.Sort.pdq_right (lt:=ltInt) (d:=d1) (wb:=d) (wp:=o) O R;rw[T]at X f4 ar;rw[Q]at aS geq z aX;generalize rd ltInt d1 i n s d o=b at *;apply g.cj (vS k i n b.lim d o++[(10,S ((n-i:Nat):Int))]) [cE k b.d1]
 .intro dy;cases d with
  |false=>
   obtain⟨H,J⟩:=Y rfl;refine bg e [(23,m),(29,m)] a Of (g.aF (TT k d1 i n T ax t u) [0] a ?_);rw[<-H];refine bg e [(1000010,f)] a sh ?_;exact dy _ _ a (by simp[U.Z,U,J,bb,a_];and_intros<;>omega)
  |true=>
   obtain⟨H,J⟩:=aa rfl;subst H;exact bg e [(23,m),(29,m),(1000010,f)] a Of (dy _ _ a bw)
 refine cO e a v (g.aF (TV k b.d1 i n ax t y u) [0] a ?_);rw[<-aA];apply g.cj (vS k i n b.lim d o++[(10,S ((n-i:Nat):Int)),(11,S b.pivot),(12,S (qB b.hint))]) [cE k b.d2]
 .intro dy;by_cases aT:b.c.2=.decreasing
  .obtain⟨H,J,B⟩:=a1 aT;refine bg e [(50,f)] a ?_ ?_
   .simp only[U,gW,JP];omega
   refine g.aF (WY k b.d1 i n X y y t u) [0] a ?_;rw[<-H];exact bg e [(1000015,f)] a sh (dy _ _ a (by simp[U.Z,U,J,B,qB,bb,a_];omega))
  obtain⟨H,J,B⟩:=aN aT;rw[<-H];refine bg e [(50,m),(1000015,f)] a ?_ ?_
  .simp only[U,eY,d_,JP];omega
  exact dy _ _ a (by simp[U.Z,U,J,B,bb,a_])
 by_cases C:b.pi.2=f
 ·
  have aM:(d&&o&&decide (b.hint=.increasing))=f:=M;have V:=G aM;simp[cp,bA]at aM;obtain⟨⟨rfl,rfl⟩,a4⟩:=aM;refine bg e [(67,f)] a bH (g.aF (I0 k b.d2 i n f4 an t u) [0] a ?_);rw[<-V,C,<-aS C];exact FA
 rw[qa]at C;apply g.cj (vS k i n b.lim d o++[(10,S ((n-i:Nat):Int)),(11,S b.pivot)]) [cE k b.pi.1]
 .intro dy;cases A:(d&&o&&decide (b.hint=.increasing))with
  |true=>
   have V:=G A;simp[cp,bA]at A;obtain⟨⟨rfl,rfl⟩,a4⟩:=A;refine bg e [(67,f)] a bH (g.aF (I0 k b.d2 i n f4 an t u) [0] a ?_);rw[<-V,C];exact Fi
  |false=>
   have V:b.d2=b.pi.1:=M;rw[V];cases d with
   |false=>
    exact Fi
   |true=>
    cases o with
    |false=>
     exact Fi
    |true=>
     refine bg e [(67,m),(1000017,f)] a ?_ ?_
     .simp only[U,eY,d_,YO];grind
     exact kE
 have W:((i:Int)-1).toNat=i-1:=y;cases A:(decide (i>0)&&!ltInt b.pi.1[i-1]! b.pi.1[b.pivot]!)with
 |true=>
  have az:=A;simp[cp,bA,jJ]at az;obtain⟨F,w,I,D,_⟩:=Go.Sort.round_eq (mid:=(partitionEqual ltInt b.pi.1 i n b.pivot).1) (d4:=(partitionEqual ltInt b.pi.1 i n b.pivot).2) N ai az.1 au.1 au.2 M f8 az.2 rfl;have av:=geq C A ⟨F,w⟩;refine bg e [(74,f),(85,m)] a ?_ ?_
  .simp only[U,cZ,c9,W,az.2,a8,bA,bb,a_];exact fv
  refine g.aF (WK k b.pi.1 i n b.pivot ar an t y u) [0] a (cO e a v (g.aB ⟨(partitionEqual ltInt b.pi.1 i n b.pivot).1,n,b.lim,d,o,(partitionEqual ltInt b.pi.1 i n b.pivot).2⟩ a E E M ?_));grind
 |false=>
  obtain⟨F,w,I,D,ao,aO,aP⟩:=Go.Sort.round_part (mid:=(partition ltInt b.pi.1 i n b.pivot).1) (ap:=(partition ltInt b.pi.1 i n b.pivot).2.1) (d4:=(partition ltInt b.pi.1 i n b.pivot).2.2) N aj au.1 au.2 M f8 rfl;apply g.cj (vS k i n b.lim d o++[(10,S ((n-i:Nat):Int)),(11,S b.pivot)]) [cE k b.pi.1]
  .intro dy;by_cases aW:0<i
   .have a5:ltInt b.pi.1[i-1]! b.pi.1[b.pivot]! = f:=M;refine bg e [(74,f),(85,f),(1000020,f)] a ?_ ?_
    .simp only[U,cZ,c9,W,a5,a8,bA,bb,a_];exact fv
    exact kE
   exact bg e [(74,m),(1000020,f)] a bw kE
  refine cO e a v (g.aF (WJ k b.pi.1 i n b.pivot ar an t y u) [0] a ?_);have aD:=z C A ⟨F,w⟩;have aF:=aX C A ⟨F,w⟩;generalize partition ltInt b.pi.1 i n b.pivot=P at *;rw[ar]at I;by_cases aU:P.1-i<n-P.1
  .have av:=aD aU;obtain⟨w1,w2⟩:=L N P.2.2 i P.1 b.lim f f F M D;obtain⟨w3,_⟩:=aO _ w1 w2;refine bg e [(113,f)] a sk (g.aF (ak (P.1-i) y P.2.2 i P.1 b.lim (bB _) I F y y D a a a a) [0] a (cO e a Ri (g.aB ⟨P.1+1,n,b.lim,decide (P.1-i≥(n-i) / 8),P.2.1,pdq ltInt P.2.2 i P.1 b.lim f f⟩ a bw E ?_ ?_)))
   .exact⟨by simp only;rw[w1.1,I],by grind,t,by grind,by grind,w3,av.symm⟩
   grind
  have av:=aF aU;obtain⟨w1,w2⟩:=L N P.2.2 (P.1+1) n b.lim f f y M ao;obtain⟨w3,_⟩:=aP _ w1 w2;refine bg e [(113,m)] a zU (g.aF (ak (n-(P.1+1)) y P.2.2 (P.1+1) n b.lim (bB _) I y t y ao (l:=(P.1:Int)+1) y a a a) [0] a (cO e a ?_ (g.aB ⟨i,P.1,b.lim,decide (n-P.1≥(n-i) / 8),P.2.1,pdq ltInt P.2.2 (P.1+1) n b.lim f f⟩ a ?_ ?_ ?_ ?_)))
  .trivial
  .exact bw
  .simp
  .exact⟨by simp only;rw[w1.1,I],by grind,by grind,by grind,by grind,w3,av.symm⟩
  grind
end
section
open Go.Proofs Go.Conc Go.Conc.Lib
open Go.ConcN (WgLive PayAt Has RW AtR0)
open Go.ConcR (KK WgAt stA smA rd wr mk Payload DC0)
instance afz:Payload:=⟨293⟩
def ni(i:Int):bL:=λargs e=>match args,e with
 |[.q (.aq (.c (.int .i64 d))),g,.q (.aq (.c (.int .i64 j)))],[]=>match j2 2 g with
  |none=>q
  |some (b,a)=>h (xR (df d (a2.af b a) j),[],[a2.bW b a,d=i])
 |_,_=>q
noncomputable def GP:Code:=(Tryz.f229.body).getD .skip
noncomputable def DJ:Array ap:=match GP with|.seq (.region _ a _) _=>a|_=>#[]
noncomputable def vJ:Array ap:=match GP with|.seq _ (.region _ a _)=>a|_=>#[]
def So:Tryz.f229.body=h (.seq (.region 0 DJ m) (.region 1 vJ f)):=b3
def gO(e:Option Nat)(a:Op)(b:av)(d:Array Edge):ap:={dst:=e,op:=a,type:=b,pos:= "l12_snap.go:82",after:=d,guard:=q}
def mO:p ap:=[gO (h 6) (.load 283 (.tmp 4)) 283 #[],gO (h 7) (.load 3 (.tmp 5)) 3 #[],gO (h 8) (.load 3 (.tmp 1)) 3 #[],gO (h 9) (.load 23 (.tmp 2)) 23 #[],gO (h 10) (.load 3 (.tmp 3)) 3 #[],
 gO (h 11) (.call {callee:=.value (.func 231),args:=#[.tmp 8,.tmp 9,.tmp 10],argTypes:=#[3,23,3]}) 293 #[⟨2,.data⟩,⟨3,.data⟩,⟨4,.data⟩],
 gO (h 12) (.indexAddr 283 (.tmp 6) (.tmp 7)) 0 #[⟨0,.data⟩,⟨1,.data⟩,⟨0,.phase⟩,⟨1,.phase⟩,⟨2,.phase⟩,⟨3,.phase⟩,⟨4,.phase⟩,⟨5,.phase⟩],
 gO q (.store 293 (.tmp 12) (.tmp 11)) 0 #[⟨6,.data⟩,⟨5,.data⟩,⟨5,.chain⟩,⟨0,.phase⟩,⟨1,.phase⟩,⟨2,.phase⟩,⟨3,.phase⟩,⟨4,.phase⟩,⟨5,.phase⟩]]
def aa':vJ=mO.toArray:=b3
def yS(a:mO[e]?=h t):e<8:=(cQ.1 a).1
section
variable (i:Int)(Y:p cb)(x:Int)(k l N:Nat)
def Lb(a:aa):bJ:=[(0,cN a),(1,ax (.O [.int .i64 i])),(2,ax (.O [.S m 2 (c Y) (a2.fn Y)])),(3,ax (.O [.int .i64 x])),(4,ax (.O [.val (.slice (h ⟨N,0,q⟩) k k)])),(5,ax (.O [.int .i64 l]))]
def sd:Nat->z
 |0=>cN (.slice (h ⟨N,0,q⟩) k k)
 |1=>S l
 |2=>S i
 |3=>a2.S Y
 |4=>S x
 |5=>xR (df i Y x)
 |6=>cN (.pointer (h ⟨N,l*2,q⟩))
 |_=>.any
def rT:Nat->Option Nat
 |6=>h 0|7=>h 1|8=>h 2|9=>h 3|10=>h 4|11=>h 5|12=>h 6|_=>q
def JB(a:aa):Nat->bJ
 |5=>[(8,S i),(9,a2.S Y),(10,S x)]
 |6=>[(6,cN (.slice (h ⟨N,0,q⟩) k k)),(7,S l)]
 |_=>Lb i Y x k l N a
end
def aa1{o:aj V}{k l N}(n:l<k):aV o 13 mO (gO (h 12) (.indexAddr 283 (.tmp 6) (.tmp 7)) 0 #[⟨0,.data⟩,⟨1,.data⟩,⟨0,.phase⟩,⟨1,.phase⟩,⟨2,.phase⟩,⟨3,.phase⟩,⟨4,.phase⟩,⟨5,.phase⟩]) [(6,cN (.slice (h ⟨N,0,q⟩) k k)),(7,S l)] [] (cN (.pointer (h ⟨N,l*2,q⟩))) []:=by
 refine .a2 (λ_ _ _ _=>ja a) (a1.aZ λs e u i=>?_);have d:=i (.tmp 6);have b:=i (.tmp 7);have p:bG [(6,z.q (.aq (.v (.slice (h ⟨N,0,q⟩) k k)))),(7,S l)] (.tmp 6)=cN (.slice (h ⟨N,0,q⟩) k k):=rfl;have r:bG [(6,z.q (.aq (.v (.slice (h ⟨N,0,q⟩) k k)))),(7,S l)] (.tmp 7)=S l:=rfl;rw[p]at d;rw[r]at b;have d:=Rd.bk d;have b:=b8 b;generalize g:e (.tmp 7)=t at b;cases b;have j:=(be 283 yr a).run_underlying (Q:=s.a);refine⟨.pointer (h ⟨N,l*2,q⟩),?_,Rd.val a,?_⟩
 .simp[ac,gO,d,g,Instr.indexAt,asIntOf,j,yr,(be 293 qD a).bc,qD,gY,n]
 simp[ac,gO,d,g,Instr.indexAt,asIntOf,j,yr,gY,n]
def aeJ{z:aj V}{i}(D:bM z 231 (ni i))(Y)(x)(k l N)(J:l<k)(d):
  uz z 13 mO.toArray (Lb i Y x k l N d) [] (sd i Y x k l N) (JB i Y x k l N d) rT 7:=by
 have F:a9 z [(231,ni i)]:=a9.cons D a9.nil;have u:∀(j:Nat) r A w p,mO[j]?=h r->hG eT [(231,ni i)] [] mO A [] r=h (w,q,p)->U p->aV z 13 mO r A [] w []:=
  λj r A w p _ y e=>eh be F y e
 refine⟨?_,?_,?_,?_,?_,?_,by decide⟩
 .intro j r e K C _;simp[kf]at e;have g:=yS e
  match j,g with
  |0,_|1,_|2,_|3,_|4,_|5,_|6,_|7,_=>
   cases e;simp[gO]at C;try (rcases C with rfl|rfl|rfl|rfl|rfl|rfl|rfl|rfl|rfl<;>decide)
   try (rcases C with rfl|rfl|rfl<;>decide)
 .intro j r w e B;simp[kf]at e;have g:=yS e
  match j,g with
  |0,_|1,_|2,_|3,_|4,_|5,_|6,_|7,_=>
   cases e;cases B;try exact⟨rfl,by decide⟩
 .intro w j y;unfold rT at y;split at y<;>cases y<;>exact⟨_,rfl,rfl⟩
 .intro j r e t;simp[kf]at e;have g:=yS e
  match j,g with
  |0,_=>cases e;exact u 0 _ _ _ _ a a v
  |1,_=>cases e;exact u 1 _ _ _ _ a a v
  |2,_=>cases e;exact u 2 _ _ _ _ a a v
  |3,_=>cases e;exact u 3 _ _ _ _ a a v
  |4,_=>cases e;exact u 4 _ _ _ _ a a v
  |5,_=>
   cases e;have:=u 5 _ (JB i Y x k l N d 5) _ _ a a (by simp[a2.U]);rw[a2.E]at this;exact this
  |6,_=>cases e;exact aa1 J
  |7,_=>grind
 .intro j r e t o n b ab s;simp[kf]at e;have g:=yS e
  match j,g with
  |0,_|1,_|2,_|3,_|4,_=>
   match o with
   |0|1|2|3|4|5=>exact s
   |o+6=>trivial
  |5,_=>
   cases e
   match o with
   |8=>exact(show bz n b ab (sd i Y x k l N 2)from by simpa[rT,gO,eP,Region.binds]using s)
   |9=>exact(show bz n b ab (sd i Y x k l N 3)from by simpa[rT,gO,eP,Region.binds]using s)
   |10=>exact(show bz n b ab (sd i Y x k l N 4)from by simpa[rT,gO,eP,Region.binds]using s)
   |0|1|2|3|4|5|6|7=>trivial
   |o+11=>trivial
  |6,_=>
   cases e
   match o with
   |6=>exact(show bz n b ab (sd i Y x k l N 0)from by simpa[rT,gO,eP,Region.binds]using s)
   |7=>exact(show bz n b ab (sd i Y x k l N 1)from by simpa[rT,gO,eP,Region.binds]using s)
   |0|1|2|3|4|5=>trivial
   |o+8=>trivial
  |7,_=>grind
 intro r e E I t;simp[kf]at e;cases e
 match E,I with
 |0,_=>exact⟨⟨0,.phase⟩,by simp[gO],rfl,rfl⟩
 |1,_=>exact⟨⟨1,.phase⟩,by simp[gO],rfl,rfl⟩
 |2,_=>exact⟨⟨2,.phase⟩,by simp[gO],rfl,rfl⟩
 |3,_=>exact⟨⟨3,.phase⟩,by simp[gO],rfl,rfl⟩
 |4,_=>exact⟨⟨4,.phase⟩,by simp[gO],rfl,rfl⟩
 |5,_=>exact⟨⟨5,.phase⟩,by simp[gO],rfl,rfl⟩
 |6,_=>exact⟨⟨6,.data⟩,by simp[gO],rfl,rfl⟩
 |7,_=>grind
noncomputable def mx:aK:={(default:aK)with fn:=Tryz.prog.funcs.size,defers:=[],mode:=.panicking [goexitEntry]}
def rE(B:Array aa):Deferred:={target:=.fn (.func 229) B,args:=#[]}
def Sp(v0 v1 v2 a v4 b)(d):aq V m (born V (rE #[v0,v1,v2,a,v4,b])) d =
  .go (G ((baseD 229).at ⟨#[v0,v1,v2,a,v4,b,K,K,K,K,K,K,K],[]⟩ [.code (.seq (.region 0 DJ m) (.region 1 vJ f))]) [mx]) d #[]:=by
 have i:=So;have g:Tryz.f229.ntmps=13:=b3;have e:¬Tryz.f229.name= "runtime.NumGoroutine":=by have:(Tryz.f229.name== "runtime.NumGoroutine")=m:=b3;grind
 simp[born,rE,aq,unwind,callDeferred,invoke,callFunc,Tryz.func229,i,g,e,seen,GStep.after,G,Frame.enter,Frame.at,baseD,mx]
end
section
variable {r:aj V}
abbrev nI(a:p cb)(b:Nat):cb:=a.getD b (0,[])
def Yb{k}{Y}{b}(g:e<c Y)(n:fP i (nI Y e) k=h b)(d:∀a,a<e->fP i (nI Y a) k=q):df i Y k=h b:=by
 unfold df;induction Y generalizing e with
 |nil=>grind
 |cons o Y j=>
  cases e with
  |zero=>grind
  |succ e=>
   have l:=d 0 y;grind
def Yc{k}{Y}(b:∀a,a<c Y->fP i (nI Y a) k=q):df i Y k=q:=by unfold df;grind[List.getElem_of_mem]
theorem k9.ff{P}{F}{n}{ad}(aR:bn P ad){fn}{s}{res}{ao}(aP){Y}(b:tD ad fn.results.toList aP F res=h Y)(p:U Y)(r:dz aP n=h ao)(k:l8 ao=f)(g:e_ aP=f)(e:∀i,i<s->aP[i]?=h i):
  k9 P fn s res ao .ret F n:=by
 refine⟨.inl a,aP,?_⟩;unfold tD at b;split at b
 .rename_i bh d;split at b
  .rename_i l o;split at b
   .rename_i j;exact⟨l,Y,o0.ff aR d o,b,p,j,r,k,g,e⟩
   grind
  grind
 grind
def fO{b:p Nat}:∀a,a<0->b[a]?=h a:=λ_ d=>absurd d (iH _)
def Uz(o:bM r 204 lK)(i)(Y)(k)(j:cF i=f):Z r 231 [S i,a2.S Y,S k] [] (xR (df i Y k)) []:=by
 refine Z.bG func231 rfl rfl rfl λp=>?_;have w:=p.S 1 a;have e:a9 r [(274,kn db (jH bI) db (λi u k=>iQ (fP i u k)) λi _ _=>[cF i=f])]:=.cons (aef o) .nil;refine ca e a v (g.aL 1 (λb=>b<=c Y/\∀l,l<b->fP i (nI Y l) k=q) (λb:Nat=>[(0,S i),(2,S k),(6,aH 0 0),(11,a2.S Y),(12,S (c Y)),(13,S b)]) (λ_=>[.cells 293 [.c (.V []),.c (.bool m)]]) (λb=>c Y-b) 0 a E a E a ⟨by omega,by omega⟩ ?_);rintro b ⟨t,n⟩;by_cases s:b<c Y
 .cases d:fP i (nI Y b) k with
  |some z=>
   refine a' e [(14,f),(24,f)] a ?_ (g.freeze 6 0 a a a (g.aX ?_))
   .simp only[U,c9,bI.E];refine⟨?_,bI.U _,j,by omega,by omega,fq y⟩;grind
   refine k9.ff be [] a ?_ a a a fO;rw[Yb s d n];simp only[c9,bI.E];simp_all
  |none=>
   refine a' e [(14,f),(24,m)] a ?_ (g.aB (b+1) a ?_ ?_ ?_ ?_)
   .simp only[U,c9,bI.E];refine⟨by exact bH,?_,bI.U _,j,by omega,by omega,fq y⟩;grind
   .simp
   .simp
   .grind
   grind
 refine a' e [(14,m)] a bV (g.aC ?_);refine ca e a v (g.freeze 6 0 a a a ?_);refine g.cu be [] a ?_ a a a fO;rw[Yc λl x=>n l y];simp
def adQ(n:bM r 204 lK)(d:cF i=f):bM r 231 (ni i):=by
 intro args t j l g b e;unfold ni at b;split at b
 .rename_i k1 s k;split at b
  .cases b
  rename_i v u o;cases b;obtain⟨p,rfl⟩:=e;exact(Uz n _ _ k d).args λw B=>b6.imp (λ_ a=>a) (b6.imp (λ_ a=>a2.cE o p a) (b6.imp (λ_ a=>a) (λ_ a=>a))) B
 grind
def sO:bL:=λargs b=>match args,b with
 |[.q (.aq (.c (.V [46]))),.q (.aq (.c (.int .i64 a)))],[]=>h (b1 (aY a.toNat 46),[],[0<=a/\a<=3])
 |_,_=>q
def adu:bM r 251 (dm db (λa=>S (e8 a.toNat)) λa=>[0<=a/\a<=4000000]):=.bb λa d=>by
 have e:0<=a/\a<=4000000:=d;obtain⟨b,rfl⟩:∃b:Nat,a=b:=⟨a.toNat,by omega⟩
 exact T0 (r:=r) b y
def SL(a:1<=k)(b:k<=8):k<=e8 k/\e8 k<=k+3:=FV
def WG(i:bM r 250 sO)(d):Z r 204 [b1 d] [] (b1 (fI d)) []:=by
 refine Z.K func204 rfl λk=>?_;have e:a9 r [(249,dm eE (λj=>bj (cC j)) λ_=>[]),(251,dm db (λb=>S (e8 b.toNat)) λb=>[0<=b/\b<=4000000]),(250,sO)]:=.cons Ex (.cons adu (.cons i .nil));by_cases x:cC d=f
 .have s:=x;simp only[cC,cp,bA]at s;have l:=SL s.1.1 s.1.2;refine a' e [(5,m)] a ?_ (g.aw a ?_)
  .simp[x,a8];omega
  simp[fI,x]
 refine a' e [(5,f)] a oY (g.aw a ?_);simp[fI,x]
def aea(a:bM r 250 sO):bM r 204 lK:=.bb λb _=>WG a b
def WW:Z r 250 [b1 [46],S 0] [] (b1 []) []:=by refine Z.K func250 rfl λb=>?_;refine a7 [(12,f)] a ?_ (g.aw a);simp
def WX:Z r 250 [b1 [46],S 1] [] (b1 [46]) []:=by refine Z.K func250 rfl λb=>?_;refine a7 [(12,m),(14,f)] a ?_ (g.aw a);simp
def ael(g:Z r 250 [b1 [46],S 2] [] (b1 [46,46]) [])(k:Z r 250 [b1 [46],S 3] [] (b1 [46,46,46]) []):bM r 250 sO:=by
 intro args j d e b a i;unfold sO at a;split at a
 .rename_i s;cases a;have:s=0∨s=1∨s=2∨s=3:=lL;rcases this with rfl|rfl|rfl|rfl
  .exact WW
  .exact WX
  .exact g
  grind
 grind
def Uy(x j):Z r 234 [bS.S x,bS.S j] [] (bj (x==j)) []:=by
 refine Z.K func234 rfl λl=>?_;have p:=l.S 0 a;by_cases i:c x=c j
 .refine a7 [(10,m)] a (by simp[i]) (g.cc (λb=>b<=c x/\∀d,d<b->x.getD d []=j.getD d []) (λb:Nat=>[(0,bS.S x),(1,bS.S j),(12,S (c x)),(13,S b)]) (λ_=>[]) (λb=>c x-b) 0 a E a v ⟨by omega,by omega⟩ ?_);rintro b ⟨k,n⟩;by_cases s:b<c x
  .by_cases e:x.getD b []=j.getD b []
   .refine a7 [(14,f),(24,m)] a ?_ (g.b5 (b+1) a ?_ a v ?_ ?_)
    .simp only[U,c9];have o:(x.getD b bS.I==j.getD b bS.I)=f:=gW.2 e;exact⟨by exact bH,by grind,by omega,by omega,by omega,by omega,fq y⟩
    .simp
    .grind
    omega
   refine a7 [(14,f),(24,f)] a ?_ (g.bV (bW.zero a ?_))
   .simp only[U,c9];grind
   exact Fa
  refine a7 [(14,m)] a bV (g.bu a a ?_);refine a0 a v (g.aw a ?_);have:x=j:=ru i λd e t=>by grind
  simp[this]
 refine a7 [(10,f)] a bV (g.aw a ?_);exact Fa
end
def vT(r:t.op=.binOp op o l X ty){A}(O:P.underlying o=h (.pointer A)){j s}(D:∀b g i,bc n b->bz n b g (η l)->bz n b i (η X)->∃x y,g=.pointer x/\i=.pointer y/\(x==y)=j/\(eqGuard op o l X g i).run P b.a=.ok () b.a/\(∀a,(eqGuard op o l X g i).events P b.a a=a) /\
   (Op.equal o g i).run P b.a=.ok j b.a/\∀a,(Op.equal o g i).events P b.a a=a)(w:ia op j=h s):a1 P t η n (ax (.bool s)) n:=by
 refine .aZ λb F E z=>?_;obtain⟨x,y,d,e,I,p,B,k,C⟩:=D b _ _ E (z l) (z X);rw[d,e]at p k;have v:=B #[];have u:=C #[];rw[d,e]at v u;cases op<;>simp only[ia,reduceCtorEq,eV]at w
 .subst w;exact⟨.bool j,by simp[ac,r,d,e,p,binOp,k],Rd.bool,by simp[ac,r,d,e,p,v,binOp,k,u]⟩
 subst w;exact⟨.bool (!j),by simp[ac,r,d,e,p,binOp,k],Rd.bool,by simp[ac,r,d,e,p,v,binOp,k,u]⟩
def rZ(p:t.op=.binOp op o l (.const (.pointer q)) ty){i}(C:P.underlying o=h (.pointer i)){s}(w:η l=ax .bd)(u:η (.const (.pointer q))=ax .bd)(v:ia op f=h s):a1 P t η n (ax (.bool s)) n:=by
 refine vT p C (j:=f) ?_ v;intro b x y _ g e;rw[w]at g;rw[u]at e;replace g:=b8 g;replace e:=b8 e;cases g;cases e;have r:(Op.equal o (.pointer q) (.pointer q)).run P b.a=.ok f b.a:=E_;have k:∀d,(Op.equal o (.pointer q) (.pointer q)).events P b.a d=d:=λd=>by show(aQ (9999+1) o _ _).events P b.a d=d;unfold aQ;simp[underlying,C]
 exact⟨q,q,a,a,a,by cases op<;>simp[eqGuard],λd=>by cases op<;>simp[eqGuard],r,k⟩
def abB(u:t.op=.binOp op o l (.const (.pointer q)) ty){r}(i:P.underlying o=h (.pointer r)){s}(y:η l=aH d off)(w:η (.const (.pointer q))=ax .bd)(x:ia op m=h s):a1 P t η n (ax (.bool s)) n:=by
 refine vT u i (j:=m) ?_ x;intro e z A _ k g;rw[y]at k;rw[w]at g;replace g:=b8 g;cases g;obtain⟨_,L,j,_,_,rfl⟩:=(k:cA n e z (.ptr d off));have v:(Op.equal o (.pointer (h ⟨j,off,q⟩)) (.pointer q)).run P e.a=.ok m e.a:=by show(aQ (9999+1) o _ _).run P e.a=_;unfold aQ;simp[underlying,i]
 have p:∀b,(Op.equal o (.pointer (h ⟨j,off,q⟩)) (.pointer q)).events P e.a b=b:=λb=>by show(aQ (9999+1) o _ _).events P e.a b=b;unfold aQ;simp[underlying,i]
 exact⟨_,q,a,a,a,by cases op<;>simp[eqGuard],λb=>by cases op<;>simp[eqGuard],v,p⟩
def abC(D:t.op=.binOp op o l X ty){i}(p:P.underlying o=h (.pointer i))(y:k≠0)(x:∀g,(sizeOf i).run P g=.ok k g)(C:∀g b,(sizeOf i).events P g b=b){s}(N:η l=aH d off)(K:η X=aH d off)(A:ia op f=h s):a1 P t η n (ax (.bool s)) n:=by
 refine vT D p (j:=f) ?_ A;intro e I J _ w v;rw[N]at w;rw[K]at v;obtain⟨_,L,j,O,E,rfl⟩:=(w:cA n e I (.ptr d off));obtain⟨_,z,M,u,r,rfl⟩:=(v:cA n e J (.ptr d off));rw[O]at u;cases u;rw[E]at r;cases r;have F:(Op.equal o (.pointer (h ⟨j,off,q⟩)) (.pointer (h ⟨j,off,q⟩))).run P e.a=.ok f e.a:=by show(aQ (9999+1) o _ _).run P e.a=_;unfold aQ;simp[underlying,p,x,y,sameAddr]
 have B:∀b,(Op.equal o (.pointer (h ⟨j,off,q⟩)) (.pointer (h ⟨j,off,q⟩))).events P e.a b=b:=λb=>by show(aQ (9999+1) o _ _).events P e.a b=b;unfold aQ;simp[underlying,p,x,C,y,sameAddr]
 exact⟨_,_,a,a,by simp,by cases op<;>simp[eqGuard],λb=>by cases op<;>simp[eqGuard],F,B⟩
def tE(r:t.op=.binOp op o l (.const (.pointer q)) ty){k}(C:P.underlying o=h (.pointer k)){s}{ah}(x:η l=ax (.O ah))(v:η (.const (.pointer q))=ax .bd)(w:ia op m=h s):a1 P t η n (ax (.bool s)) n:=by
 refine vT r C (j:=m) ?_ w;intro b y z _ i g;rw[x]at i;rw[v]at g;replace i:=b8 i;replace g:=b8 g;cases g;cases i with|O j e=>
 have u:(Op.equal o (.pointer (h ⟨j,e,q⟩)) (.pointer q)).run P b.a=.ok m b.a:=E_;have p:∀d,(Op.equal o (.pointer (h ⟨j,e,q⟩)) (.pointer q)).events P b.a d=d:=λd=>by show(aQ (9999+1) o _ _).events P b.a d=d;unfold aQ;simp[underlying,C]
 exact⟨_,q,a,a,a,by cases op<;>simp[eqGuard],λd=>by cases op<;>simp[eqGuard],u,p⟩
section
variable {r:aj V}
abbrev sK(e:Bool)(b:aa)(a:Option (Nat×Nat))(d:bD)(g:Nat):an:=.J (eH 340 5 e b a d g)
def IF(v1)(d:dX v1=f)(bP)(ag)(b):Z r 303 [aH 0 0] [sK m v1 bP ag b] (.Q []) [sK f v1 bP ag b]:=by refine Z.K func303 rfl λi=>?_;refine a0 a v ?_;refine g.aO (a1.iy be a a a a a) a a ?_;refine g.aO (rZ a underlying338 a a a) a a ?_;refine a0 a v ?_;refine g.aO (a1.iA a a underlying338 underlying199 (hE type340) (by simp[Tryz.t340]) a) a a ?_;refine g.aO (a1.jM func312 b3 b3 b3 b3 rfl rfl rfl) rfl rfl ?_;refine g.aO (a1.ix a a underlying199 underlying338 (hE type340) (by simp[Tryz.t340]) b3 a) a a ?_;refine a0 a v ?_;refine g.aO (a1.iz be a a a a a a d) a a ?_;refine a0 a v ?_;exact bW.dn [0] a v a a a (λj e=>by grind)
def IG(v1)(bP)(ag)(b):Z r 303 [aH 0 0] [sK f v1 bP ag b] (.Q []) [sK f v1 bP ag b]:=by refine Z.K func303 rfl λj=>?_;refine a0 a v ?_;refine g.aO (a1.gO be a a a a a) a a ?_;refine g.aO (abB a underlying338 a a a) a a ?_;refine a0 a v ?_;refine g.aO (a1.gO be a a a a a) a a ?_;refine a0 a v ?_;refine g.aO (abC a underlying338 (k:=2) cc (λe=>by simp) (λe d=>by simp) a a a) a a ?_;refine a0 a v ?_;exact bW.dn [0] a v a a a (λl i=>by grind)
abbrev dV(d:Bool)(a:Option (Nat×Nat))(b:bD)(e:Nat):an:=sK d (jO a (c b)) a b e
def h9:∀a,a<1->([0]:p Nat)[a]?=h a:=λa b=>by grind
def Ck(b)(bP)(ag)(j)(e:c ag<=9223372036854775807)(d:bP=q->ag=[]):Z r 290 [aH 0 0] [dV b bP ag j] (S (c ag)) [dV b bP ag j]:=by
 refine Z.K func290 rfl λi=>?_;refine a0 a v (g.aO (a1.eU be a a a a a) a a ?_);cases bP with
 |none=>
  have:=d a;subst this;refine g.aO (a1.fJ a a underlying22 a E) a a ?_;exact PF
 |some k=>
  refine g.aO (a1.fJ a a underlying22 a e) a a ?_;exact PF
def CB(C cap)(ag b)(e)(l:c b<=9223372036854775807)(i:c ag+c b<=cap):Z r 281 [aH 0 0,b1 b] [dV f (h (C,cap)) ag e] (.Q [.aq (.c (.int .i64 (c b))),.aq (.c .bq)]) [dV f (h (C,cap)) (ag++b) e]:=by refine Z.K func281 rfl λk=>?_;refine a0 a v ?_;refine g.aF (IG (jO (h (C,cap)) (c ag)) (h (C,cap)) ag e) [0] a ?_;refine a0 a v ?_;refine g.aO (a1.eU be a a a a a) a a ?_;refine a0 a v ?_;refine g.aO (a1.iv (d:=0) (C:=C) (cap:=cap) (ag:=ag) a underlying22 underlying9 (hE type5) (by simp[Tryz.t5]) a a a a i) a a ?_;refine a0 a v ?_;refine g.aO (a1.gd be a a a a a a a) a a ?_;have j:dV f (h (C,cap)) (ag++b) e=.J (eH 340 5 f (jO (h (C,cap)) (c ag+c b)) (h (C,cap)) (ag++b) e):=M;rw[j];refine a0 a v (g.aS [0] a ?_ h9);simp
theorem X1:Z r 281 [aH 0 0,b1 []] [dV f q [] 0] (.Q [.aq (.c (.int .i64 0)),.aq (.c .bq)]) [dV f q [] 0]:=by refine Z.K func281 rfl λb=>?_;refine a0 a v ?_;refine g.aF (IG (jO q 0) q [] 0) [0] a ?_;refine a0 a v ?_;refine g.aO (a1.eU be a a a a a) a a ?_;refine a0 a v ?_;refine g.aO (a1.iw a underlying22 underlying9 (hE type5) a a) a a ?_;refine a0 a v ?_;refine g.aO (a1.gd be a a a a a a a) a a ?_;refine a0 a v (g.aS [0] a ?_ h9);simp
abbrev ix:z:=aH 0 0
abbrev oi:z:=aH 0 1
def CA(C cap)(ag)(s)(x:c ag<=9223372036854775807)(e:cap≠0):Z r 282 [aH 0 0] [dV f (h (C,cap)) ag s] (b1 ag) [dV f (h (C,cap)) ag (c ag)]:=by
 refine Z.K func282 rfl λi=>?_;refine a7 [(1000001,f)] a v ?_;refine g.di b7 10 (λb=>ay b 9) (λb=>[ix,ix,oi,cN (.slice (h ⟨C,0,q⟩) (c ag) cap),cN (.pointer (h ⟨C,0,q⟩)),ix,ix,oi,cN (.slice (h ⟨C,0,q⟩) (c ag) cap),S (c ag)].getD b .any) (λ(_:Unit) _=>b1 ag)
  (λ_=>[dV f (h (C,cap)) ag (c ag)]) a a a a a a ?_ ?_ ?_ ?_
 .refine⟨.y,.y,.y,iB,?_,.y,.y,.y,?_,?_,v,v,v⟩
  .exact .aO (a1.ic a a e) a
  .exact iB
  exact Pq
 .intro _;refine⟨.y,.y,.y,iB,?_,.y,.y,.y,?_,?_,v,.y,v⟩
  .exact .aO (a1.ic a a e) a
  .exact iB
  exact Pq
 .exact .dk (.aO (Si (d:=0) a underlying367 b3 a a a) a)
 exact Oi
def Gg(e:t.op=.binOp .add o l X ty){j}(d:η l=S 0)(b:η X=S j)(g:a8 .i64 j):a1 V t η n (S j) n:=by have:=a1.binOp (P:=V) (n:=n) e d b (s:=.int .i64 (0+j)) (ck:=[a8 .i64 (0+j)]) a bw;grind
def bl.gR{e}{fn}{args}{a:ι->p an}(o:Tryz.prog.funcs[e]?=h fn)(l:(fn.name== "runtime.NumGoroutine")=m)(d:fn.body=h s)(k:ay args.length fn.ntmps=f)(u:g r fn.ntmps (λt j b=>∃i,bW fn n.length (res i) (a i) t j b) [.code s] .normal (h6 0 args) n):bl r e args n res a:=
 bl.intro o l d (ff k) (g.aW u)
def Xx:Z r 282 [aH 0 0] [dV f q [] 0] (b1 []) [dV f q [] 0]:=by
 refine Z.K func282 rfl λe=>?_;refine a7 [(1000001,f)] a v ?_;refine g.di b7 10 (λb=>ay b 9) (λb=>[ix,ix,oi,cN (.slice q 0 0),cN (.pointer q),ix,ix,oi,cN (.slice q 0 0),S (0:Nat)].getD b .any) (λ(_:Unit) _=>b1 [])
  (λ_=>[dV f q [] 0]) a a a a a a ?_ ?_ ?_ ?_
 .refine⟨.y,.y,.y,iB,?_,.y,.y,.y,?_,?_,v,v,v⟩
  .exact .aO (a1.ib a a) a
  .exact iB
  exact q5
 .intro _;refine⟨.y,.y,.y,iB,?_,.y,.y,.y,?_,?_,v,.y,v⟩
  .exact .aO (a1.ib a a) a
  .exact iB
  exact q5
 .exact .dk (.aO (a1.j2 a a a) a)
 exact Oi
def UH(k)(n:0<k)(o:k<=140737488355328):bl (ι:={e:Nat×Nat // k<=e.2}) r 304 [aH 0 0,S k] [dV f q [] 0] (λ_=>.Q []) (λw=>[dV f (h w.1) [] 0]):=by
 refine bl.gR func304 rfl rfl rfl ?_;refine a7 [(1000000,f)] a v ?_;have j:a8 .i64 (k:Int):=bH;have p:z:=cN (.slice q 0 0);refine g.di (ι:={e:Nat×Nat // k<=e.2}) b7 8 (λb=>ay b 7||(ay 9 b&&ay b 13)) (λb=>[ix,ix,oi,cN (.slice q 0 0),S (0:Nat),S 0,S k,S k,.any,ix,ix,oi,cN (.slice q 0 0),S (0:Nat)].getD b .any)
  (λw b=>[cN (jO (h w.1) k),.any,.any,.any,.any,.any,cN (.slice (h ⟨w.1.1,0,q⟩) 0 w.1.2),cN (.slice (h ⟨w.1.1,0,q⟩) 0 w.1.2)].getD (b-8) .any)
  (λw=>[sK f (.slice q 0 0) (h w.1) [] 0]) a a a a a a ?_ ?_ ?_ ?_
 .refine⟨.y,.y,.y,iB,OT,P1,.y,?_,v,.y,.y,.y,?_,?_,v,v,v⟩
  .exact .aO (Gg a a a j) a
  .exact iB
  exact q5
 .intro w;have l:w.1.2≠0:=M;refine⟨.y,.y,.y,iB,OT,P1,.y,?_,v,.y,.y,.y,?_,?_,?_,.y,v⟩
  .exact .aO (Gg a a a j) a
  .exact iB
  .exact q5
  exact .aO (a1.jj (i:=0) a underlying22 (hE type5) a a (gX _) w.2 l (gY _ _ _)) a
 .exact .a2 a (Sh (d:=0) (Y:=#[3]) underlying22 func313 b3 b3 b3 b3 rfl rfl rfl n o rfl)
 intro w;refine a0 a v (g.aO (a1.eU (d:=0) be a a a a a) a a ?_);refine g.aO (a1.iO a underlying22 (hE type5) a a) a a ?_;refine a0 a v (g.aO (a1.gd (d:=0) be a a a a a a a) a a ?_);exact N8
def Iv(k)(e:0<k)(i:k<=140737488355328):bl (ι:={j:Nat×Nat // k<=j.2}) r 280 [aH 0 0,S k] [dV m q [] 0] (λ_=>.Q []) (λw=>[dV f (h w.1) [] 0]):=by
 refine bl.gR func280 rfl rfl rfl ?_;refine a0 a v (g.aF (IF (jO q 0) a q [] 0) [0] a (a7 [(7,m),(1000003,f)] a E ?_));refine g.di b7 4 (λb=>ay b 3||(ay 5 b&&ay b 9)||af b 11) (λb=>[ix,ix,oi,cN (.slice q 0 0),.any,ix,ix,oi,cN (.slice q 0 0),S (0:Nat),.any,S k].getD b .any)
  (λ(_:Unit) b=>[S (0:Nat),.any,.any,.any,.any,.any,S (0-0),.any,bj f].getD (b-4) .any)
  (λ_=>[dV f q [] 0]) a a a a a a ?_ ?_ ?_ ?_
 .refine⟨.y,.y,.y,iB,v,.y,.y,.y,iB,?_,v,.y,v,v⟩;exact q5
 .intro _;refine⟨.y,.y,.y,iB,v,.y,.y,.y,iB,q5,N3,.y,?_,v⟩;exact .eval (bh:=[(21,f)]) be a9.nil (ck:=[decide ((0:Int)-0<(k:Int))=f]) a bV
 .exact Pe
 intro _;refine a0 a v (g.a' (UH k e i) [0] a bp λw=>?_);exact N8
def Ty:Z r 280 [aH 0 0,S (0:Nat)] [dV m q [] 0] (.Q []) [dV f q [] 0]:=by
 refine Z.K func280 rfl λe=>?_;refine a0 a v (g.aF (IF (jO q 0) a q [] 0) [0] a (a7 [(7,m),(1000003,f)] a E ?_));refine g.di b7 4 (λb=>ay b 3||(ay 5 b&&ay b 9)||af b 11) (λb=>[ix,ix,oi,cN (.slice q 0 0),.any,ix,ix,oi,cN (.slice q 0 0),S (0:Nat),.any,S (0:Nat)].getD b .any)
  (λ(_:Unit) b=>[S (0:Nat),.any,.any,.any,.any,.any,S (0-0),.any,bj m].getD (b-4) .any)
  (λ_=>[dV f q [] 0]) a a a a a a ?_ ?_ ?_ ?_
 .refine⟨.y,.y,.y,iB,v,.y,.y,.y,iB,?_,v,.y,v,v⟩;exact q5
 .intro _;refine⟨.y,.y,.y,iB,v,.y,.y,.y,iB,q5,N3,.y,?_,v⟩;exact .eval (bh:=[(21,m)]) be a9.nil (ck:=[decide ((0:Int)-0<((0:Nat):Int))=m]) a E
 .exact Pe
 intro _;exact a0 a v (bW.dn [0] a v a a a h9)
def Gq(b:t.op=.alloc 340):a1 V t η n (aH (c n) 0) (n++[dV m q [] 0]):=
 a1.iu b (λd=>by simp) (λd a=>by simp)
def aaN{i}{b j s}(A)(o:t.op=.call {callee:=.builtin .min,args:=#[l,X,i],argTypes:=du})(y:η l=S b)(w:η X=S j)(z:η i=S s)(F:min (min b j) s=A)(x:a8 .i64 A):a1 V t η n (S A) n:=by refine .aZ λE a I k=>?_;have e:=k l;have d:=k X;have g:=k i;rw[y]at e;rw[w]at d;rw[z]at g;replace e:=b8 e;replace d:=b8 d;replace g:=b8 g;generalize p:a l=B at e;generalize u:a X=C at d;generalize r:a i=D at g;cases e;cases d;cases g;have v:(if s<(if j<b then j else b)then s else if j<b then j else b)=A:=M;exact⟨.int .i64 A,by simp[ac,o,resolve,invoke,builtin,p,u,r,Builtin.min_,Builtin.min2,v],.int x,by simp[ac,o,resolve,invoke,builtin,p,u,r,Builtin.min_,Builtin.min2]⟩
def I4(e:Nat)(A:2<=e)(B:e<=3):Z r 250 [b1 [46],S e] [] (b1 (aY e 46)) []:=by
 refine Z.K func250 rfl λz=>?_;have x:a9 r [(289,Bm)]:=.cons t289 .nil;refine bg x [(13,m),(15,m),(18,m),(30,m),(33,m),(40,m),(44,m),(45,m),(46,m),(47,m),(48,m),(96,m),(1000035,f)] a ?_ ?_
 .have o:(e:Int)=2∨(e:Int)=3:=y;have j:(kN [46] 0).toNat=46:=rfl;simp[a8,j,o];omega
 refine g.region ?_;refine g.aO (Gq a) a a ?_;refine cO x a v (g.a' (Iv e y y) [0] a bp λt=>?_);obtain⟨⟨i,b⟩,k⟩:=t;have k:e<=b:=k;refine cO x a v (g.aF (CB i b [] [46] 0 E bV) [0] a (cO x a v (g.cc (λd=>1<=d/\d<=e) (λd:Nat=>[(0,b1 [46]),(7,S e),(8,S e),(9,aH 0 0)]) (λd=>[dV f (h (i,b)) (aY d 46) (d-1)]) (λd=>e-d) 1 a E a E ⟨by omega,by omega⟩ ?_)));rintro d ⟨w,u⟩;refine cO x a v (g.aF (Ck f (h (i,b)) (aY d 46) (d-1) bV E) [0] a ?_);by_cases p:d<e
 .refine bg x [(113,f)] a bV (g.aF (Ck f (h (i,b)) (aY d 46) (d-1) bV E) [0] a (cO x a lL (g.aF (Ck f (h (i,b)) (aY d 46) (d-1) bV E) [0] a (cO x a v (g.aO (aaN 1 a a a a bV lA) a a ?_)))));refine cO x a v (g.aF (CA i b (aY d 46) (d-1) bV y) [0] a ?_);have n:mA (aY d (46:UInt8)) q (h 1)=[46]:=by
   obtain⟨l,rfl⟩:∃l,d=l+1:=⟨d-1,by omega⟩
   exact bH
  refine cO x a bV ?_;rw[n];refine g.aF (CB i b (aY d 46) [46] (c (aY d 46)) E bV) [0] a ?_;have s:aY d (46:UInt8)++[46]=aY (d+1) 46:=by rw[List.replicate_succ']
  rw[s];refine cO x a v (g.b5 (d+1) a E a ?_ ⟨by omega,by omega⟩ y);simp
 refine bg x [(113,m)] a bV (g.bu a a ?_);have j:d=e:=y;subst j;exact cO x a v (g.aF (CA i b (aY d 46) (d-1) bV y) [0] a zW)
def aek:bM r 250 sO:=ael (I4 2 y y) (I4 3 y y)
def zs:bM r 204 lK:=aea aek
def wO(b:Option (Nat×Nat))(d:Nat):Prop:=match b with|none=>d=0|some (_,a)=>d<=a/\0<a
def _root_.Go.AM.bl.hZ{e:Type}{s:aj P}{u}{args}{d:ι->p an}{t:e->z}{a:e->p an}(v:bl s u args n res d)(j:ι->e)(F:∀b,t (j b)=res b)(E:∀b,a (j b)=d b):bl s u args n t a:=
 ⟨v.1,λC B k l w g o=>v.2 C B k l w g λb i D r k1 x y A=>o (j b) i D r k1 M M M⟩
def Tz(k)(e:k<=140737488355328):bl (ι:={b:Option (Nat×Nat) // wO b k}) r 280 [aH 0 0,S k] [dV m q [] 0] (λ_=>.Q []) (λi=>[dV f i.1 [] 0]):=by
 by_cases g:k=0
 .subst g;exact Ty.tocH.hZ (λ_=>⟨q,a⟩) bp bp
 exact(Iv k y e).hZ (λd=>⟨h d.1,d.2,by grind⟩) bp bp
def CC(bP)(ag b)(e:c b<=9223372036854775807)(a:wO bP (c ag+c b)):Z r 281 [aH 0 0,b1 b] [dV f bP ag 0] (.Q [.aq (.c (.int .i64 (c b))),.aq (.c .bq)]) [dV f bP (ag++b) 0]:=by
 cases bP with
 |none=>
  have a:c ag+c b=0:=a;grind[X1]
 |some d=>exact CB d.1 d.2 ag b 0 e a.1
def acG(a:Option (Nat×Nat))(b:bD):Nat:=match a with|none=>0|some _=>c b
def Xy(bP)(ag)(d:c ag<=9223372036854775807)(a:wO bP (c ag)):Z r 282 [aH 0 0] [dV f bP ag 0] (b1 ag) [dV f bP ag (acG bP ag)]:=by
 cases bP with
 |none=>
  have a:c ag=0:=a;have e:ag=[]:=jI a;subst e;exact Xx
 |some b=>exact CA b.1 b.2 ag 0 d (by have:=a.2;omega)
def lx(b:p bD)(a:Nat):bD:=(b.take a).flatten
def wh{d}(a:e<c d):lx d (e+1)=lx d e++d.getD e []:=by unfold lx;grind[List.take_add_one]
def M0{d}:lx d (c d)=d.flatten:=by simp[lx]
def we{d}(e):c (lx d e)<=c d.flatten:=by have a:d.flatten=(d.take e).flatten++(d.drop e).flatten:=FP;rw[a,dk];simp only[lx];omega
def Vs(d)(A:c d.flatten<=140737488355328):Z r 233 [bS.S d,b1 []] [] (b1 d.flatten) []:=by
 refine Z.K func233 rfl λx=>?_;have F:=x.S 0 a;by_cases C:d=[]
 .subst C;refine a7 [(14,f)] a ?_ (g.aw a);simp
 by_cases B:c d=1
 .obtain⟨l,rfl⟩:=List.length_eq_one_iff.1 B;refine a7 [(14,m),(16,f)] a E (g.aw a ?_);simp
 have K:2<=c d:=by have:c d≠0:=M;omega
 refine a7 [(14,m),(16,m),(22,m)] a bH (g.cc (λb=>b<=c d) (λb:Nat=>[(0,bS.S d),(1,b1 []),(5,S (c (lx d b))),(39,bS.S d),(40,S (c d)),(41,S b)]) (λ_=>[]) (λb=>c d-b) 0 a ?_ a v y ?_)
 .simp[lx]
 intro b o;have N:=we (d:=d) b;by_cases k:b<c d
 .have u:=we (d:=d) (b+1);rw[wh k,dk]at u;refine a7 [(42,f),(49,m)] a ?_ (g.b5 (b+1) a ?_ a v y y)
  .have j:(d.getD (b:Int).toNat bS.I)=d.getD b []:=rfl;simp only[U,a8,j];grind
  have j:(d.getD (b:Int).toNat bS.I)=d.getD b []:=rfl;rw[wh k];simp_all
 have j:b=c d:=y;subst j;refine a7 [(42,m),(1000018,f)] a E (g.bu a a ?_);refine a7 [(1000018,f)] a v (g.region ?_);refine g.aO (Gq a) a a ?_;refine cx a v ?_;rw[M0];refine g.a' (Tz (c d.flatten) A) [0] a bp λw=>?_;obtain⟨i,n⟩:=w;refine cx a bw ?_;have e:∀p,p<=c d.flatten->wO i p:=λp D=>by
  cases i with
  |none=>
   have:c d.flatten=0:=n;grind
  |some I=>exact⟨fM D n.1,n.2⟩
 have z:lx d 1=d.getD 0 []:=by rw[wh y];simp[lx]
 have t:=we (d:=d) 1;rw[z]at t;refine g.aF (CC i [] (d.getD 0 []) y (e _ M)) [0] a (cx a bw (g.cc (λb=>b+1<=c d) (λb:Nat=>[(1,b1 []),(8,aH 0 0),(63,ax (.S m 1 (c d-1) (fB 1 (bS.fn d)))),(64,S (c d-1:Nat)),(65,S b)]) (λb=>[dV f i (lx d (b+1)) 0]) (λb=>c d-b) 0 a wG a bH y ?_));intro b o;have J:=we (d:=d) (b+1);by_cases k:b+1<c d
 .have s:=we (d:=d) (b+2);rw[wh k,dk]at s;refine a7 [(66,f)] a bw (g.aF (CC i (lx d (b+1)) [] E (e _ M)) [0] a ?_);rw[h5];refine a0 a v (g.aF (CC i (lx d (b+1)) (d.getD (1+b) []) M (e _ M)) [0] a (a0 a bH (g.b5 (b+1) a E a ?_ y y)));refine U.Z.2 ⟨?_,v⟩;rw[wh k,Nat.add_comm 1 b];simp
 have j:b+1=c d:=y;refine a7 [(66,m)] a bw (g.bu a a ?_);rw[j,M0];exact a0 a v (g.aF (Xy i d.flatten y (e _ y)) [0] a wz)
def tj{b}(d:d6 b=f)(e)(g:e<c b):97<=ds b e/\ds b e<=122:=by have a:=aZ.1 d (b.getD e 0) M;simp only[ju,cp,bA]at a;unfold ds;omega
def TS(b)(e)(d:d6 b=f)(p:3<=e)(i:e<=c b)(n:c b<=4000000):Z r 306 [b1 b,S e] [] (bj (pO b e)) []:=by
 refine Z.K func306 rfl λk=>?_;have l:=tj d (e-1) y;have o:=tj d (e-2) y;have t:=tj d (e-3) y;have j:((kN b ((e:Int)-1)).toNat:Int)=ds b (e-1):=ud;have I:((kN b ((e:Int)-2)).toNat:Int)=ds b (e-2):=ud;have s:((kN b ((e:Int)-3)).toNat:Int)=ds b (e-3):=ud;refine a0 a ?_ (g.aw a ?_)
 .simp only[U,a8,j,I,s];omega
 exact N9
def adH:bM r 306 (er eE db (λb a=>bj (pO b a.toNat)) λb a=>[d6 b=f,3<=a,a<=c b,c b<=4000000]):=.bn λb a i=>by
 obtain⟨e,j,k,g⟩:=i;obtain⟨d,rfl⟩:∃d:Nat,a=d:=⟨a.toNat,by omega⟩
 exact TS b d e y y g
def yF{e j}(A)(k:t.op=.call {callee:=.builtin .min,args:=#[l,X],argTypes:=du})(u:η l=S e)(r:η X=S j)(x:min e j=A)(s:a8 .i64 A):a1 V t η n (S A) n:=by refine .aZ λz d y g=>?_;have b:=g l;have a:=g X;rw[u]at b;rw[r]at a;replace b:=b8 b;replace a:=b8 a;generalize i:d l=v at b;generalize o:d X=w at a;cases b;cases a;have p:(if j<e then j else e)=A:=M;exact⟨.int .i64 A,by simp[ac,k,resolve,invoke,builtin,i,o,Builtin.min_,Builtin.min2,p],.int s,by simp[ac,k,resolve,invoke,builtin,i,o,Builtin.min_,Builtin.min2]⟩
theorem SZ{o}{a}(e:c o<=a+3+w)(d:w<=5):lP o a (5-w)=min (a+8) (c o):=by
 rcases dZ w 5 with b|b
 .obtain⟨i,b2⟩:∃i,5-w=i+1:=⟨4-w,by omega⟩
  rw[b2];simp[lP];grind
 rw[show 5-w=0 by omega];rfl
def Ui(o)(ae)(A:d6 o=f)(t:ae<=c o)(z:c o<=4000000):Z r 287 [b1 o,S ae] [] (S (en o ae)) []:=by
 refine Z.K func287 rfl λu=>?_;have x:a9 r [(306,er eE db (λj k=>bj (pO j k.toNat)) λj k=>[d6 j=f,3<=k,k<=c j,c j<=4000000])]:=.cons adH .nil;refine ca x a bH (g.cc (λb=>b<=5/\lP o ae (5-b)=en o ae) (λb:Nat=>[(0,b1 o),(1,S ae),(5,S (ae+3+b))]) (λ_=>[]) (λb=>5-b) 0 a E a v ⟨by omega,a⟩ ?_);rintro b ⟨w,e⟩;by_cases p:b<5/\ae+3+b<c o
 .obtain⟨i,b2⟩:∃i,5-b=i+1:=⟨4-b,by omega⟩
  have n:ae+(7-i)=ae+3+b:=y;rw[b2]at e;simp[lP,n]at e;rw[bm y]at e;have ai:((ae:Int)+3+b).toNat=ae+3+b:=y;cases s:pO o (ae+3+b)with
  |true=>
   rw[s,bs a]at e;refine a' x [(11,f),(16,f),(22,f)] a P' (g.bV (bW.zero a ?_));exact bw
  |false=>
   rw[s,bm E]at e;refine a' x [(11,f),(16,f),(22,m)] a P' (g.b5 (b+1) a ?_ a v ⟨by omega,by grind⟩ y);exact bw
 have ai:en o ae=min (ae+8) (c o):=by
  rw[<-e];rcases dZ b 5 with l|l
  .grind [SZ]
  rw[show 5-b=0 by omega];rfl
 have d:a8 .i64 ((min (ae+8) (c o):Nat):Int):=bH;rcases dZ b 5 with l|l
 .refine a' x [(11,f),(16,m)] a ?_ (g.bu a a ?_)
  .simp only[U,a8,bA,dr];omega
  exact Qo
 refine a' x [(11,m)] a ?_ (g.bu a a ?_)
 .simp only[U,a8,bA,dr];omega
 exact Qo
def adM:bM r 287 (er eE db (λb a=>S (en b a.toNat)) λb a=>[d6 b=f,0<=a,a<=c b,c b<=4000000]):=.bn λb a i=>by
 obtain⟨e,j,k,g⟩:=i;obtain⟨d,rfl⟩:∃d:Nat,a=d:=⟨a.toNat,by omega⟩
 exact Ui b d e y g
abbrev G4(a:bD):N:=.fn (.func 286) [] [.O [.V a]]
theorem Uk(o):Z r 243 [b1 o] [] (ax (G4 o)) []:=by refine Z.K func243 rfl λb=>?_;refine gR [] 5 a v ?_;refine g.freeze 1 0 a a a ?_;exact a0 a v (g.aw a)
def Ul{ad:Type}(text)(K:d6 text=f)(J:c text<=4000000){e}{d}{w}(s u t:ad->an)(x:Nat->ad->Prop)(i)(I:x 0 i)(aE:∀b,s b≠.bo/\u b≠.bo/\t b≠.bo)(l:∀j b,j<c text->x j b->iD (ι:={o:ad // x (en text j) o}) r 3 [S j,S (en text j)] [s b,u b,t b,.loop e d w] f (λo=>[s o.1,u o.1,t o.1,.loop e d w])):
  bl (ι:={b:ad // x (c text) b}) r 286 [.q (.aq (.aR 3)),ax (.O [.V text])] [s i,u i,t i,.loop e d w] (λ_=>.Q []) (λp=>[s p.1,u p.1,t p.1,.loop e d w]):=by
 refine bl.bR func286 rfl rfl rfl (g.aW ?_);have A:a9 r [(287,er eE db (λz p=>S (en z p.toNat)) λz p=>[d6 z=f,0<=p,p<=c z,c z<=4000000])]:=.cons adM .nil;refine ca A a v ?_;show b0 r _ (.loop _) _ _ _;refine b0.loop (br:=ad×Nat) (λn=>n.2<=c text/\x n.2 n.1) (λn=>[(0,.q (.aq (.aR 3))),(1,ax (.O [.V text])),(3,S n.2)]) (λn=>[s n.1,u n.1,t n.1,.loop e d w]) (λn=>c text-n.2) (i,0) ⟨gX _,I⟩ (eG a E) a ?_;rintro⟨b,j⟩ ⟨F,B⟩;simp only at F B;refine g.aW ?_;by_cases C:j<c text
 .have k:=rJ text j C;refine a' A [(8,f)] a dD (g.yield (l j b C B) a a a a a a λo=>?_);refine a' A [(16,m)] a E ⟨(o.1,en text j),⟨k.2.1,o.2⟩,?_,eG a E,a⟩;grind
 have D:j=c text:=y;subst D;refine a' A [(8,m)] a E (g.fI a a ?_);exact⟨⟨b,B⟩,.inr a,a,qO (aE b).1 (qO (aE b).2.1 (qO (aE b).2.2 a)),[],.Q [],[],a,a,a,v⟩
def ab6(u:t.op=.binOp op o l (.const (.pointer q)) ty){p}(C:P.underlying o=h (.pointer p)){s}{lt cw}{k j}(E:η l=.q (.aq (.aR d)))(x:c' d n=h (.J (ez W (.ax lt k j cw))))(y:η (.const (.pointer q))=ax .bd)(B:ia op m=h s):a1 P t η n (ax (.bool s)) n:=by
 refine vT u C (j:=m) ?_ B;intro b D F z i g;rw[E]at i;rw[y]at g;replace g:=b8 g;cases g;obtain⟨_,L,A,rfl,_⟩:=(i:cA n b D (.aR d));obtain⟨_,⟨j,_,_,_,_,v,_⟩,_⟩:=z.box d _ L (eo x) A;rw[v];have w:(Op.equal o (.pointer (h ⟨j,0,q⟩)) (.pointer q)).run P b.a=.ok m b.a:=E_
 have r:∀e,(Op.equal o (.pointer (h ⟨j,0,q⟩)) (.pointer q)).events P b.a e=e:=λe=>by show(aQ (9999+1) o _ _).events P b.a e=e;unfold aQ;simp[underlying,C]
 exact⟨_,q,a,a,a,by cases op<;>simp[eqGuard],λe=>by cases op<;>simp[eqGuard],w,r⟩
abbrev pe(a b:Int):z:=.q (.agg [.c (.int .i64 a),.c (.int .i64 b)])
abbrev mN:av:=305
def y4(i j)(d:dL):∃a e g b,d.put i j=.ax a e g b:=by
 cases d with
 |nil=>exact⟨_,_,_,_,rfl⟩
 |ax a e g b=>
  simp only[dL.put];split
  .grind
  split<;>exact⟨_,_,_,_,rfl⟩
def CR:∀(b:p Nat)a,a<0->b[a]?=h a:=λ_ a d=>absurd d y
def s5:∀a,a<1->([0]:p Nat)[a]?=h a:=λa b=>by grind
def x8(b j)(z:a8 .i64 b)(F:a8 .i64 j):∀p:dL,Z r 242 [.q (.aq (iv p 0)),pe b j] (hq mN p) (.q (.aq (.aR 0))) [.J (ez mN (p.put b j))]
 |.nil=>by refine Z.K func242 rfl λJ=>?_;refine a0 a v (g.aO (rZ a underlying244 a a a) a a ?_);refine a0 a v (g.cY 4 1 0 0 (lt:=.nil) (cw:=.nil) a a (λu=>absurd a u) (λu=>absurd a u) (λu=>absurd a u) ?_);exact g.aS [1] a E (CR _)
 |.ax lt k t cw=>by
  have o:=x8 b j z F lt;have ce:=x8 b j z F cw;obtain⟨I,e,i,C,y⟩:=y4 b j lt;obtain⟨ae,d,w,s,D⟩:=y4 b j cw;have x:(dL.ax lt k t cw).put b j=if b<k then .ax (lt.put b j) k t cw else if k<b then .ax lt k t (cw.put b j)else .ax lt b j cw:=rfl;rw[x];rw[y]at o⊢;rw[D]at ce⊢;have l:a9 r [(242,k' [.q (.aq (iv lt 0)),pe b j] (hq mN lt) (.q (.aq (.aR 0))) [.J (ez mN (.ax I e i C))])]:=.cons (l' o) .nil;have n:a9 r [(242,k' [.q (.aq (iv cw 0)),pe b j] (hq mN cw) (.q (.aq (.aR 0))) [.J (ez mN (.ax ae d w s))])]:=.cons (l' ce) .nil;clear o ce x y D;refine Z.K func242 rfl λJ=>?_;refine a0 a v (g.aO (ab6 a underlying244 a a a a) a a ?_);refine a0 a v (g.gC 0 0 a a ?_);by_cases B:b<k
  .rw[bs B];cases lt<;>cases cw<;>refine bg l [(15,f)] rfl bH ?_
   .exact PZ
   .refine g.cY 4 0 3 2 (lt:=.ax I e i C) (cw:=_) a a bp bp (λ_ _=>by decide) ?_;exact t_
   .exact PZ
   refine g.cY 4 0 2 3 (lt:=.ax I e i C) (cw:=_) a a bp bp (λ_ _=>by decide) ?_;exact t_
  rw[bm B];by_cases A:k<b
  .rw[bs A];cases lt<;>cases cw<;>refine bg n [(15,m),(33,f)] rfl bH ?_
   .exact Q8
   .exact Q8
   .exact On
   exact On
  rw[bm A];cases lt<;>cases cw<;>refine bR [(15,m),(33,m)] rfl bw ?_
  .refine g.cY 4 0 9 9 (lt:=.nil) (cw:=.nil) a a (λu=>absurd a u) (λu=>absurd a u) (λu=>absurd a u) ?_;exact t_
  .refine g.cY 4 0 9 2 (lt:=.nil) (cw:=_) a a (λu=>absurd a u) bp (λu=>absurd a u) ?_;exact t_
  .refine g.cY 4 0 2 9 (lt:=_) (cw:=.nil) a a bp (λu=>absurd a u) (λ_ u=>absurd a u) ?_;exact t_
  refine g.cY 4 0 2 3 (lt:=_) (cw:=_) a a bp bp (λ_ _=>by decide) ?_;exact t_
end
section
open Go.Proofs Go.Conc Go.Conc.Lib Go.ConcR.Gen
open Go.ConcN (WgLive PayAt Has RW AtR0)
open Go.ConcN.Gen
open Go.ConcR (KK WgAt stA smA rd wr mk Payload DC0)
def aa_:DJ=#[{dst:=q,op:=.defer {callee:=.value (.func 230),args:=#[.tmp 0],argTypes:=#[291]},type:=0,pos:= "l12_snap.go:81",after:=#[],guard:=q}]:=b3
def qh(a:aa):aK:={baseD 229 with defers:=[dcall 230 #[a]]}
abbrev EI(a b d e g i:aa):Array aa:=#[a,b,d,e,g,i,K,K,K,K,K,K,K]
def ac5(v0 v1 v2 b v4 d)(k):Goes V m (λ_ _=>True) DC0 (λj _=>j=G ((qh v0).M ⟨EI v0 v1 v2 b v4 d,[]⟩ [.code (.region 1 vJ f)]) [mx]) 8 (born V (rE #[v0,v1,v2,b,v4,d])) k:=by
  have e:True:=v;have g:True->True->True:=λ_ _=>trivial;refine Goes.step a (λw1 i=>?_);rw[Sp];simp[goes_go];refine⟨⟨a,a⟩,?_⟩;clear i;rw[aa_]
  u_c aw g e
  u_reg g e
  u_defer g e
  u_c aF g e
  exact Goes.stop λ_ _=>rfl
def Tq(ad):QuitsD V 2 0 (G {(baseD 229).at ⟨ad,[]⟩ []with mode:=.returning} [mx]):=by
  have b:Tryz.f229.results=#[]:=b3;refine QuitsD.ctl (g':=G mx []) a (λd=>?_) ?_
  · simp[G,aq,unwind,doReturn,results,Frame.at,baseD,mx,Tryz.func229,b,seen,GStep.after,goexitEntry]
  refine QuitsD.ctl (g':={G mx []with status:=.finished}) rfl (λd=>?_) ⟨rfl,rfl⟩;simp[G,aq,unwind,mx,goexitEntry,Frame.catches];rfl
section
variable {J:hK}
def aev(l)(j:J.aH=2)(ad)(d)(b:WgLive 291 J.f d/\Has J.aj (J.aH*l+1-1) (val l 0) d):
    ∃i,Goes V m (RW 291 J.f J.aj (2*k) 0 (J.aH*l+1-1)) DC0 (AtR0 V 291 J.f J.aj (2*k) 0 (J.aH*l+1) (val l 0)) i (G ((qh (.pointer (h ⟨J.f,0,q⟩))).M ⟨ad,[]⟩ [.inRegion mO.toArray []]) [mx]) d:=by
  refine⟨26,?_⟩;have g:(qh (.pointer (h ⟨J.f,0,q⟩))).M ⟨ad,[]⟩ [.inRegion mO.toArray []]=(baseD 229).at ⟨ad,[dcall 230 #[.pointer (h ⟨J.f,0,q⟩)]]⟩ [.inRegion mO.toArray []]:=rfl;rw[g]
  u_c aF kn_rely b
  u_c stepG_end kn_rely b
  u_in kn_rely b
  rw[stepG_unwind_enter (c:=body_done q2) a wl.f_done b3 b3];simp[goes_go];refine⟨by u_nil,?_⟩;have e:=Tb (P:=V) (L:=q2) (bo:=J.f) (N:=J.aj) (k:=2*k) (m9:=0) (l:=J.aH*l+1) (val:=val l 0) (s:={(baseD 229).at ⟨ad,[]⟩ []with mode:=.returning}) (ah:=[mx]) wl rfl (Tq ad) _ b;exact e
def ab4{d}(b:Rd bE ab (.V d)):ab=.string ⟨d.toArray⟩:=by
  cases b with
  |V a e=>rw[<-a]
def D3{j}(a:Rd bE ab (.bool j)):ab=.bool j:=by cases a;rfl
def so:ap:=gO q (.store 293 (.tmp 12) (.tmp 11)) 0 #[⟨6,.data⟩,⟨5,.data⟩,⟨5,.chain⟩,⟨0,.phase⟩,⟨1,.phase⟩,⟨2,.phase⟩,⟨3,.phase⟩,⟨4,.phase⟩,⟨5,.phase⟩]
def Sg{l}(ak:l<k)(O:J.aH=2){Y}{C}(Q:val l 0=.string ⟨((df i Y C).getD []).toArray⟩)(aa:val l 1=.bool (df i Y C).isSome){ad}(E:bz [] b (ad.getD 12 K) (sd i Y C k l J.aj 6))(F:bz [] b (ad.getD 11 K) (xR (df i Y C))):
    um V 291 J (2*k) val l (G ((qh (.pointer (h ⟨J.f,0,q⟩))).M ⟨ad,[]⟩ [.inRegion mO.toArray [7]]) [mx]) b:=by
  have E:=Rd.bk E;have F:ad.getD 11 K=.agg #[val l 0,val l 1]:=by
    obtain⟨B,ag,g⟩:=F
    match B,g with
    |[],g=>exact g.elim
    |[_],g=>exact g.2.elim
    |_::_::_::_,g=>exact g.2.2.elim
    |[ao,aq],g=>
      rw[ag,ab4 g.1,D3 g.2.1,Q,aa]
  refine⟨a,λw1 aj s n=>?_⟩;obtain⟨d,u,ax⟩:=s;have ae:J.aH*l=l*2:=M;have H:∀Z∈[val l 0,val l 1],Z.oneCell'=f:=by
    intro Z P;simp[e4,sz,or_false]at P;rcases P with rfl|rfl
    · rw[Q];rfl
    · rw[aa];rfl
  have X:l*2+0+[val l 0,val l 1].length<=d.size:=M;have D:=run_storeCells_at V J.aj (l*2) 293 [val l 0,val l 1] 0 d w1 u X H;simp only[ki,fp,gI,cZ]at D;generalize W:(d.toList.take (l*2)++[val l 0,val l 1]++d.toList.drop (l*2+2)).toArray=new at D;have aA:new.size=d.size:=M;have ar:=setRow_heap w1 J.aj d new 293 (0,0) u;have au:∀t,(w1.setRow J.aj new).cell? ⟨J.aj,t,q⟩=new[t]?:=λt=>cell_setRow_same w1 J.aj t d new 293 (0,0) u;have av:∀t,w1.cell? ⟨J.aj,t,q⟩=d[t]?:=λt=>by simp[aL,u]
  have az:∀e,e<2->new[l*2+e]?=h (val l e):=by
    intro e r;rw[<-W];have L:c (d.toList.take (l*2))=l*2:=M;rw[mu];simp[kf];rw[hn y,L]
    match e,r with
    |0,_=>simp
    |1,_=>simp
  have aw:∀t,(t<l*2∨l*2+2<=t)->new[t]?=d[t]?:=by
    intro t o;rw[<-W];have L:c (d.toList.take (l*2))=l*2:=M;rw[mu];simp only[kf];rcases o with o|o
    · grind
    · rw[hn y,L,hn M]
      simp only[fp,gI,p_];rw[show l*2+2+(t-l*2-(0+1+1))=t by omega];simp
  have R:(Value.agg #[val l 0,val l 1]).cells=#[val l 0,val l 1]:=rfl;have z:(ac (⟨ad,[]⟩:Act).eval so).run V w1=.ok .skip (w1.setRow J.aj new):=by have N:(⟨ad,[]⟩:Act).eval (.tmp 12)=.pointer (h ⟨J.aj,l*2,q⟩):=E;have I:(⟨ad,[]⟩:Act).eval (.tmp 11)=.agg #[val l 0,val l 1]:=F;simp[ac,so,gO,N,I,Instr.storeAt,Instr.sureAddr,storeVar,(be 293 qD a).bc,qD,R,D]
  have v:∀p∈(ac (⟨ad,[]⟩:Act).eval so).events V w1 #[],∃w,w<2/\p=tZ J.aj (l*2+w):=by
    intro T v;have N:(⟨ad,[]⟩:Act).eval (.tmp 12)=.pointer (h ⟨J.aj,l*2,q⟩):=E;have I:(⟨ad,[]⟩:Act).eval (.tmp 11)=.agg #[val l 0,val l 1]:=F;have p:ac (⟨ad,[]⟩:Act).eval so=(do storeVar 293 ⟨J.aj,l*2,q⟩ (.agg #[val l 0,val l 1]);pure .skip):=by simp[ac,so,gO,N,I,Instr.storeAt,Instr.sureAddr]
    rw[p]at v;have ab:T∈(storeCells ⟨J.aj,l*2,q⟩ [val l 0,val l 1]).events V w1 #[]:=by simp only[storeVar,aG,(be 293 qD a).bc,qD,R,aJ,events_sizeOf,d_,dn,cK,c7,Sem.events_pure]at v;simpa[D]using v
    rcases nm [val l 0,val l 1] 0 d w1 #[] u X H T ab with aB|⟨w,_,ah,rfl⟩
    · grind
    grind
  have an:WgLive 291 J.f (w1.setRow J.aj new):=by
    obtain⟨A,S,U⟩:=n;refine⟨A,S,?_⟩;show(w1.setRow J.aj new).heap[J.f]?=_;rw[setRow_other w1 J.aj J.f new ?_]
    · exact U
    · intro p
      have g:w1.heap[J.f]?=h (Go.ConcR.wgBlock 291 A S):=U;rw[p,u]at g;simp[Go.ConcR.wgBlock]at g;exact absurd g.2 cc
  refine⟨_,w1.setRow J.aj new,_,L_ (j:=qh (.pointer (h ⟨J.f,0,q⟩))) (x:=⟨ad,[]⟩) (i:=[]) (aD:=mO.toArray) (e:=7) (bt:=[]) (t:=so) a a (by simp[qh,baseD]) z,?_,?_,?_⟩
  · refine⟨rfl,rfl,rfl,by simp,λj aN=>setRow_other w1 J.aj j new aN,⟨new,ar,by grind⟩,λt o=>?_,λe r=>?_⟩
    · grind
    · rw[O]at r
      rw[au,ae];grind
  · intro p ai
    obtain⟨w,ah,rfl⟩:=v p (Go.Conc.mem_seen ai);exact⟨l*2+w,a,by omega,by omega⟩
  · exact aev l O ad _ ⟨an,by show(w1.setRow J.aj new).cell? _=_;grind⟩
def aeT(Q:bM (aj.c' V) 231 (ni i)){l}(C:l<k)(K:J.aH=2){Y}{n}(N:val l 0=.string ⟨((df i Y n).getD []).toArray⟩)(F:val l 1=.bool (df i Y n).isSome)(D:bc [] b)(Z:b.m=[]){v1 v2 e v4 g}(w:Rd b.u v1 (.O [.int .i64 i]))(t:Rd b.u v2 (.O [.S m 2 (c Y) (a2.fn Y)]))(B:Rd b.u e (.O [.int .i64 n]))(u:Rd b.u v4 (.O [.val (.slice (h ⟨J.aj,0,q⟩) k k)]))(x:Rd b.u g (.O [.int .i64 l])):
    dw (aj.c' V) eL (um V 291 J (2*k) val l) (born V (rE #[.pointer (h ⟨J.f,0,q⟩),v1,v2,e,v4,g])) b:=by
  refine dw.goes (r:=aj.c' V) (dj:=λ_ _=>True) (z:=DC0) (Stop:=λs _=>s=G ((qh (.pointer (h ⟨J.f,0,q⟩))).M ⟨EI (.pointer (h ⟨J.f,0,q⟩)) v1 v2 e v4 g,[]⟩ [.code (.region 1 vJ f)]) [mx])
    (λj=>bc [] j/\j.u=b.u) (λj o d y=>⟨d.1.rely y,y.u.trans d.2⟩) (λ_ _ _ _=>trivial) ?_ (λj d=>cX.eo d.1.mem) ?_ 8 _ b ⟨D,rfl⟩ (ac5 _ _ _ _ _ _ _)
  · rintro j I d T ⟨rfl,rfl⟩
    exact⟨a,.inl (.aZ d.1)⟩
  · rintro s j ⟨M,W⟩ rfl
    rw[aa'];refine cd.toW (λ_ _ _ d=>d) ?_;refine(aeJ Q Y n k l J.aj C (.pointer (h ⟨J.f,0,q⟩))).region b3 (by simp[qh,baseD]) ⟨by simp[EI],⟨[],v⟩,λA=>?_⟩ a M λo E X p S O R=>.stop ?_
    · rw[<-W]at w t B u x
      match A with
      |0=>exact Rd.val rfl
      |1=>exact w
      |2=>exact t
      |3=>exact B
      |4=>exact u
      |5=>exact x
      |A+6=>trivial
    · obtain⟨aa,U⟩:=E
      obtain rfl:U=[]:=S;exact Sg C K N F (p 12) (p 11)
end
end
section
open Go.Proofs Go.Conc Go.Conc.Lib
open Go.ConcN (WgLive PayAt Has RW AtR0)
open Go.ConcR (KK WgAt stA smA rd wr mk Payload DC0)
def ns:Code->Code|.seq a _=>a|b=>b
def g2:Code->Code|.seq _ a=>a|b=>b
def GO:Code->Code|.block _ a=>a|b=>b
def aay:Code->Code|.loop a=>a|b=>b
def DI:Code->Array ap|.region _ a _=>a|_=>#[]
noncomputable def rD:Code:=(Tryz.f181.body).getD .skip
noncomputable def hy:Code:=aay (GO (g2 (ns (g2 (g2 (g2 rD))))))
noncomputable def Hv:Code:=ns hy
noncomputable def By:Code:=GO (ns (g2 (g2 hy)))
noncomputable def Hw:Code:=ns By
noncomputable def py:Array ap:=DI (ns (g2 By))
noncomputable def oI:Array ap:=DI (g2 (g2 By))
noncomputable def ob:Code:=g2 (g2 (g2 hy))
noncomputable def lM:Code:=g2 (g2 (g2 (g2 rD)))
noncomputable def oJ:Array ap:=DI (ns lM)
noncomputable def oc:Code:=g2 lM
def Hh:hy=.seq Hv (.seq (.cond (.tmp 21) .skip (.exit 0)) (.seq (.block 1 (.seq Hw (.seq (.region 6 py m) (.region 7 oI m)))) ob)):=b3
def SF:lM=.seq (.region 9 oJ m) oc:=b3
def us(g:bJ)(a:p an):fw:=λe b d=>e=.normal/\iC b g/\d=a
structure dY(dO:p an)(cI:a6)(F:bJ)(n:p an)(x:Act)(b:a6):Prop where
 bX:bY 45 n b F x
 ba:bc n b
 a9:dg dO cI n b
section
variable {dO:p an}{cI:a6}{F w:bJ}{n aM:p an}{x:Act}{b:a6}
def dY.rely(a:dY dO cI F n x b){e}(d:cX b e):dY dO cI F n x e:=⟨a.bX.rely d a.ba,a.ba.rely d,a.a9.trans d.aQ⟩
structure nW(j:Nat)(b:a6):Prop where
 own:¬b.own j
 m:∀L∈b.m,j∉L.al
 u:∀t,b.u j t=q
 lt:j<b.a.heap.size
def nW.step{j}(d:nW j cI)(a:dg dO cI n b):nW j b:=
 ⟨by rw[a.own];exact d.own,λL i g=>by
  rcases a.bU L i j g with e|⟨l,k,e⟩
  .have:=d.lt;omega
  .exact d.m l k e,λo=>by rw[a.bC j d.lt d.m];exact d.u o,eD d.lt a.size⟩
def dY.eA{bo}(d:nW bo cI):k3 bo (dY dO cI F n x):=
 ⟨λ_ _ a e=>a.rely e,λ_ a=>⟨n,a.ba⟩,λ_ a=>let b:=d.step a.a9;⟨b.own,b.m,b.u⟩⟩
variable {r:aj V}{br:ak->a6->Prop}{j:aK}{i:p Item}{ah:p aK}
def dY.ctl(i:dY dO cI F n x b){C a}(l:C.status=.running)(k:∀j,aq V r.b8 C j=.go a j #[])(g:∀d,dY dO cI F n x d->cd r br a d):cd r br C b:=
 .ctl i.ba l k λd e=>g d (i.rely e)
def dY.code(g:dY dO cI F n x b)(k:j.kind≠.early){s}(z:b0 r 45 s (us w aM) F n)(o:∀a d,dY dO cI w aM a d->cd r br (G (j.M a i) ah) d):cd r br (G (j.M x (.code s::i)) ah) b:=by refine z b x g.bX g.ba j i ah br k ?_;rintro B t u p e ⟨rfl,l,rfl⟩ y A v;exact o e p ⟨y.le l,A,g.a9.trans v⟩
end
def cd.cZ{bo}{W:a6->a6->Array aT->Prop}{A:ak->a6->Prop}{C}{b}(r:cd (aj.aG V 291 bo) A C b)(n:gU (λe=>e=bo) b)(j:WgLive 291 bo b.a):
  dw (aj.aG V 291 bo) W (λC b=>A C b/\WgLive 291 bo b.a) C b:=by
 induction r with
 |stop r=>exact⟨.leaf,r,j⟩
 |@step C b O z I w s t _ y=>
  refine .step w λl g=>?_;have D:=g.2 j;have p:gU (λe=>e=bo) l:=⟨λe d=>by rw[g.1.own];exact n.own e d,λe d=>by rw[g.1.m];exact n.m e d,λe d J=>by rw[g.1.u];exact n.u e d J,λe d=>eD (n.lt e d) g.1.size⟩
  obtain⟨⟨B,o,u,E,k⟩,F⟩:=t l g;refine⟨_,_,_,s l g,.inl ⟨⟨B,o,u,E,k⟩,F⟩,y l g (p.step k) ?_⟩;obtain⟨M,N,K⟩:=D;exact⟨M,N,by show(z l).a.heap[bo]?=_;rw[k.a7 bo (p.lt bo a) (p.m bo a)];exact K⟩
 |aU i _ y=>exact .aU i (y (n.aU i) (by rw[i.a];exact j))
 |b2 x _ _ _=>exact x.elim
 |dj v _ _=>exact v.elim
def nW.clear{bo}{b}(e:nW bo b):gU (λd=>d=bo) b:=⟨λd a=>a▸e.own,λd a=>a▸e.m,λd a=>a▸e.u,λd a=>a▸e.lt⟩
section
variable (i:Int)(Y:p cb)(bv:p Int)(N bo:Nat)
def ic(a:Nat):bJ:=[(3,ax (.O [.int .i64 i])),(4,ax (.O [.S m 2 (c Y) (a2.fn Y)])),(8,ax (.O [.val (.slice (h ⟨N,0,q⟩) (c bv) (c bv))])),(9,cN (.pointer (h ⟨bo,0,q⟩))),
 (18,aB.S bv),(19,S (c bv)),(20,S a)]
variable {i Y bv N bo}{r:aj V}{n:p an}
def KY{e}(b:e<=c bv):b0 r 45 Hv (us ((21,bj (decide (e<c bv)))::ic i Y bv N bo e) n) (ic i Y bv N bo e) n:=by
 refine g.aW ?_;by_cases d:e<c bv
 .refine a7 [(21,f)] a bV ⟨a,eG a ?_,a⟩;exact bw
 refine a7 [(21,m)] a bV ⟨a,eG a ?_,a⟩;exact bw
abbrev e9:p an:=[.x,.x,.x,.x,.x]
def abg{e}(b:e<c bv):b0 r 45 Hw (us ((10,aH 5 0)::(11,aH 6 0)::ic i Y bv N bo e) [.x,.x,.x,.x,.x,.cells 3 [.c (.int .i64 e)],.cells 3 [.c (.int .i64 (bv.getD e 0))]]) (ic i Y bv N bo e) e9:=by refine g.aW ?_;refine a0 a bV ⟨a,eG a E,?_⟩;grind
def abh{e}(b:e<c bv)(d:c bv<=4000000):b0 r 45 ob (us (ic i Y bv N bo (e+1)) e9) (ic i Y bv N bo e) e9:=by refine g.aW ?_;refine a0 a bH ⟨a,eG a ?_,a⟩;simp
variable {dO:p an}{cI:a6}{br:ak->a6->Prop}{j:aK}{eQ:p Item}{ah:p aK}
abbrev iO:p an:=[.x,.x,.x,.x,.x,.x,.x]
variable (i Y bv N bo)in
abbrev kX(a:Nat):bJ:=(11,ax (.O [.int .i64 (bv.getD a 0)]))::(10,ax (.O [.int .i64 a]))::ic i Y bv N bo a
noncomputable abbrev tg(a:p Item):p Item:=.code (.region 7 oI m)::.inBlock 1::.code ob::.inLoop hy::.inBlock 0::a
def zf{P}{eR}{a:aK}{x}{i}{ah}{b}{s l X}(d:s=.seq l X):aq P eR (G (a.M x (.code s::i)) ah) b=.go (G (a.M x (.code l::.code X::i)) ah) b:=by grind[pH]
def toAdd{e}(k:e<c bv)(v:j.kind≠.early){x}{d:a6}(b:dY dO cI (ic i Y bv N bo e) e9 x d)(w:∀u n,dY dO cI (kX i Y bv N bo e) iO u n->cd r br (G (j.M u (.inRegion py [0]::tg eQ)) ah) n):
  cd r br (G (j.M x (.code hy::.inLoop hy::.inBlock 0::eQ)) ah) d:=by
 refine b.ctl a (λg=>zf Hh) λd b=>?_;refine b.code v (KY (Nat.le_of_lt k)) λx d b=>?_;refine b.ctl a (λg=>pH) λd b=>?_;have A:x.eval (.tmp 21)=.bool f:=by have:=b.bX.aJ 21;simp only[k,ng]at this;exact D3 (b8 this)
 refine b.ctl a (λg=>zc A) λd b=>?_;refine b.ctl a (λg=>L') λd b=>?_;refine b.ctl a (λg=>pH) λd b=>?_;refine b.ctl a (λg=>zb) λd b=>?_;refine b.ctl a (λg=>pH) λd b=>?_;have b:dY dO cI (ic i Y bv N bo e) e9 x d:=⟨b.bX.le (eG a E),b.ba,b.a9⟩
 refine b.code v (abg k) λx d b=>?_;obtain⟨n,w1,z,l,p⟩:=bY.freeze 10 5 (W:=3) (ah:=[.c (.int .i64 e)]) (gK:=[.int .i64 e]) rfl rfl rfl b.bX b.ba;refine .aU (.of b.ba l w1 (p.too5 b.ba)) ?_;obtain⟨o,w2,y,s,t⟩:=bY.freeze 11 6 (W:=3) (ah:=[.c (.int .i64 (bv.getD e 0))]) (gK:=[.int .i64 (bv.getD e 0)]) rfl rfl rfl z l;refine .aU (.of l s w2 (t.too5 l)) ?_;have b:dY dO cI (kX i Y bv N bo e) iO x o:=⟨y.le (eG a E),s,b.a9.trans ((p.too5 b.ba).trans (t.too5 l))⟩
 refine b.ctl a (λg=>pH) λd b=>?_;refine b.ctl a (λg=>ze) λd b=>?_;exact w x d b
def r1:ap:={dst:=h 25,op:=.call {callee:=.value (.func 228),args:=#[.tmp 9,.const (.int .i64 1)],argTypes:=#[291,3]},type:=0,pos:= "l12_snap.go:79",after:=#[],guard:=q}
theorem KU:py=#[r1]:=b3
def Tr{e}(s:j.kind≠.early){x}{b}(o:dY dO cI (kX i Y bv N bo e) iO x b)(k:∀d,dY dO cI (kX i Y bv N bo e) iO x d->cd r br (G (Frame.enter V 228 #[.pointer (h ⟨bo,0,q⟩),.int .i64 1] .normal) (j.M x (.inRegion py [0]::tg eQ)::ah)) d):
  cd r br (G (j.M x (.inRegion py [0]::tg eQ)) ah) b:=by
 refine .next a λd l=>?_;have g:=o.rely (r.bN l);have n:=Rd.bk (g.bX.aJ 9);have p:(ac x.eval r1).run V d.a=.ok (.enter 228 #[.pointer (h ⟨bo,0,q⟩),.int .i64 1]) d.a:=by have:=run_call_body (P:=V) (a:=x) (w:=d.a) (o:=r1) (f:=228) (fn:=Tryz.f228) a Tryz.func228 b3 b3;rw[this,<-n];simp only[List.map_toArray,mq,List.map_nil];rfl
 have u:(ac x.eval r1).events V d.a #[]=#[]:=events_call_body (P:=V) (a:=x) (w:=d.a) (o:=r1) (f:=228) (fn:=Tryz.f228) a Tryz.func228 b3 b3 #[];have v:listed V j.fn x r1 d.a=#[]:=by unfold listed;grind[seen_none]
 refine⟨_,d,#[],?_,.aZ g.ba,k d g⟩;have:=tJ (P:=V) (eR:=r.b8) (j:=j) (x:=x) (i:=tg eQ) (ah:=ah) (Q:=d.a) (aD:=py) (e:=0) (bt:=[]) (t:=r1) (by grind[KU]) a s p;grind
def vD:ap:={dst:=h 26,op:=.makeFunc (.func 229) #[] #[.tmp 9,.tmp 3,.tmp 4,.tmp 11,.tmp 8,.tmp 10],type:=1,pos:= "l12_snap.go:80",after:=#[],guard:=q}
def pw:ap:={dst:=q,op:=.go {callee:=.value (.tmp 26),args:=#[],argTypes:=#[]},type:=0,pos:= "l12_snap.go:80",after:=#[⟨0,.data⟩],guard:=q}
theorem KV:oI=[vD,pw].toArray:=b3
variable (i Y bv N bo)in
abbrev sQ(a:Nat):AM.N:=.fn (.func 229) [] [.val (.pointer (h ⟨bo,0,q⟩)),.O [.int .i64 i],.O [.S m 2 (c Y) (a2.fn Y)],.O [.int .i64 (bv.getD a 0)],.O [.val (.slice (h ⟨N,0,q⟩) (c bv) (c bv))],.O [.int .i64 a]]
def aa0{e}:aV r 45 [vD,pw] vD ((25,.any)::kX i Y bv N bo e) iO (ax (sQ i Y bv N bo e)) iO:=by have a:hG eT [] [] [vD,pw] ((25,.any)::kX i Y bv N bo e) iO vD=h (ax (sQ i Y bv N bo e),q,[]):=rfl;exact eh be a9.nil a v
def toGo{e}(y:j.kind≠.early){x}{b}(d:dY dO cI (kX i Y bv N bo e) iO x b)(p:∀ab n g,dY dO cI (kX i Y bv N bo e) iO n g->Rd g.u ab (sQ i Y bv N bo e)->n.tmps.getD 26 K=ab->cd r br (G (j.M n (.inRegion oI [1]::.inBlock 1::.code ob::.inLoop hy::.inBlock 0::eQ)) ah) g):
  cd r br (G (j.M (x.put (h 25) (.tuple #[])) (.inRegion py []::tg eQ)) ah) b:=by
 have w:dY dO cI ((25,.any)::kX i Y bv N bo e) iO (x.put (h 25) (.tuple #[])) b:=⟨d.bX.put cc v,d.ba,d.a9⟩
 refine w.ctl a (λz=>v3) λb d=>?_;refine d.ctl a (λz=>ze) λb d=>?_;rw[KV];refine aa0 b _ d.bX d.ba j _ ah br 0 [1] y a λab g k s o=>?_;have k:=b8 k;have u:=((d.bX.mono o d.ba.len).put (I:=26) (ab:=ab) (l:=.any) cc v)
 have t:26<(x.put (h 25) (.tuple #[])).tmps.size:=by rw[d.bX.size];decide
 refine p ab _ g ⟨u.le (eG a ?_),s,d.a9.trans o⟩ k (abR t);simp
def aeB{e}(l:e<c bv)(A:c bv<=4000000)(g:j.kind≠.early)(u:dO.length<=5){x}{b}(d:dY dO cI (kX i Y bv N bo e) iO x b)(t:∀o p,dY dO cI (ic i Y bv N bo (e+1)) e9 o p->cd r br (G (j.M o (.code hy::.inLoop hy::.inBlock 0::eQ)) ah) p):
  cd r br (G (j.M x (.inRegion oI []::.inBlock 1::.code ob::.inLoop hy::.inBlock 0::eQ)) ah) b:=by
 have k:bY 45 (e9++[.x,.x]) b (ic i Y bv N bo e) x:=d.bX.le (eG a E);have n:=d.ba;have v:=d.a9;have z:eX b (b.cut (c e9)):=⟨rfl,λ_ _ _ d=>d,λ_ _ _=>rfl,n.mem,λj g=>g.imp id λ⟨L,y,g⟩=>⟨L,gV y,g⟩⟩
 refine .aU z ?_;have d:dY dO cI (ic i Y bv N bo e) e9 x (b.cut (c e9)):=⟨⟨k.size,k.defers.imp λ_ w=>w.drop a,λB=>(k.aJ B).drop (vp a)⟩,n.drop a,v.drop u⟩
 refine d.ctl a (λs=>v3) λb d=>?_;refine d.ctl a (λs=>L6) λb d=>?_;refine d.code g (abh l A) λx b d=>?_;exact d.ctl a (λs=>L8) λb d=>t x b d
end
theorem rx{a:aK}(d:a.roundOf=q)(b)(o):a.M b o=a.at ⟨b.tmps,b.defers++a.defers⟩ o:=by cases a;simp only at d;subst d;rfl
section
variable {i:Int}{Y:p cb}{bv:p Int}{J:hK}{val:Nat->Nat->aa}{dO:p an}{cI:a6}{j:aK}{eQ:p Item}{ah:p aK}
def JJ{x:Act}{Q}{s g7 iK jP uW a}(d:x.tmps.getD 26 K=.func (.func 229) #[] #[s,g7,iK,jP,uW,a]):(ac x.eval pw).run V Q=.ok (.spawn (rE #[s,g7,iK,jP,uW,a])) Q/\(ac x.eval pw).events V Q #[]=#[]:=by
 have b:x.eval (.tmp 26)=.func (.func 229) #[] #[s,g7,iK,jP,uW,a]:=d;constructor
 .simp[ac,pw,resolve,Deferred.ofValue,b,rE]
 simp[ac,pw,resolve,Deferred.ofValue,b]
def Sf(aa:bM (aj.c' V) 231 (ni i))(R:J.aH=2)(s:j.roundOf=q)(ae:j.kind≠.early){e}(r:e<c bv)(T:val e 0=.string ⟨((df i Y (bv.getD e 0)).getD []).toArray⟩)(E:val e 1=.bool (df i Y (bv.getD e 0)).isSome){ab}{x}{b}(M:dY dO cI (kX i Y bv J.aj J.f e) iO x b)(y:WgLive 291 J.f b.a)(z:Rd b.u ab (sQ i Y bv J.aj J.f e))(w:x.tmps.getD 26 K=ab){Next:ak->a6->Prop}(A:∀k,dY dO cI (kX i Y bv J.aj J.f e) iO x k->WgLive 291 J.f k.a->Next (G (j.M x (.inRegion oI []::.inBlock 1::.code ob::.inLoop hy::.inBlock 0::eQ)) ah) k):
  wJ V 291 J (2*c bv) val e Next (G (j.M x (.inRegion oI [1]::.inBlock 1::.code ob::.inLoop hy::.inBlock 0::eQ)) ah) b:=by
 refine⟨a,λk o=>?_⟩;have v:=M.rely o.1;have U:Rd k.u ab (sQ i Y bv J.aj J.f e):=by rw[o.1.u];exact z
 cases U with
 |fn D p n l C d F I Z g=>
 have S:=jI n;subst S;have N:p=[d 0,d 1,d 2,d 3,d 4,d 5]:=by
  apply qd;intro u;have l:=l
  match u with
  |0=>grind
  |1=>grind
  |2=>grind
  |3=>grind
  |4=>grind
  |5=>grind
  |u+6=>grind
 subst N;have ad:=Rd.bk (g 0 _ a);obtain⟨O,W⟩:=JJ (x:=x) (Q:=k.a) w;have B:Go.Conc.listed V j.fn ⟨x.tmps,x.defers++j.defers⟩ pw k.a=#[]:=by unfold Go.Conc.listed;have:=(JJ (x:=⟨x.tmps,x.defers++j.defers⟩) (Q:=k.a) w).2;grind[seen_none]
 have X:=stepG_spawn (P:=V) (main:=f) (b:=j) (a:=⟨x.tmps,x.defers++j.defers⟩) (k:=.inBlock 1::.code ob::.inLoop hy::.inBlock 0::eQ) (cs:=ah) (w:=k.a) (ops:=oI) (i:=1) (rest:=[]) (o:=pw) (by grind[KV]) a ae O a;refine⟨G (j.M x (.inRegion oI []::.inBlock 1::.code ob::.inLoop hy::.inBlock 0::eQ)) ah,born V (rE #[d 0,d 1,d 2,d 3,d 4,d 5]),?_,a,?_,A k v (o.2 y)⟩
 .rw[rx s,rx s,X,B];rfl
 rw[ad];exact aeT aa r R T E (b:=k.dz) ⟨v.ba.mem,a,by simp,by simp[a6.dz],by simp[a6.dz],by simp[a6.dz]⟩ a (g 1 _ a) (g 2 _ a) (g 3 _ a) (g 4 _ a) (g 5 _ a)
def r2:ap:={dst:=h 28,op:=.call {callee:=.value (.func 232),args:=#[.tmp 9],argTypes:=#[291]},type:=0,pos:= "l12_snap.go:85",after:=#[],guard:=q}
theorem KW:oJ=#[r2]:=b3
variable {r:aj V}{br:ak->a6->Prop}
def aeC(n:j.kind≠.early){N bo}{x}{b}(d:dY dO cI (ic i Y bv N bo (c bv)) e9 x b)(o:∀l g,dY dO cI (ic i Y bv N bo (c bv)) e9 l g->cd r br (G (Frame.enter V 232 #[.pointer (h ⟨bo,0,q⟩)] .normal) (j.M l (.inRegion oJ [0]::.code oc::eQ)::ah)) g):
  cd r br (G (j.M x (.code hy::.inLoop hy::.inBlock 0::.code lM::eQ)) ah) b:=by
 refine d.ctl a (λQ=>zf Hh) λb d=>?_;refine d.code n (KY (bB _)) λx b d=>?_;refine d.ctl a (λQ=>pH) λb d=>?_;have v:x.eval (.tmp 21)=.bool m:=by have:=d.bX.aJ 21;simp only[w0,o7]at this;exact D3 (b8 this)
 refine d.ctl a (λQ=>zc v) λb d=>?_;refine d.ctl a (λQ=>L5 (gj:=.code lM::eQ) a) λb d=>?_;refine d.ctl a (λQ=>zf SF) λb d=>?_;refine d.ctl a (λQ=>ze) λb d=>?_;have d:dY dO cI (ic i Y bv N bo (c bv)) e9 x b:=⟨d.bX.le (eG a E),d.ba,d.a9⟩
 refine .next a λg p=>?_;have k:=d.rely (r.bN p);have w:x.eval (.tmp 9)=.pointer (h ⟨bo,0,q⟩):=Rd.bk (k.bX.aJ 9);have u:(ac x.eval r2).run V g.a=.ok (.enter 232 #[.pointer (h ⟨bo,0,q⟩)]) g.a:=by have:=run_call_body (P:=V) (a:=x) (w:=g.a) (o:=r2) (f:=232) (fn:=Tryz.f232) a Tryz.func232 b3 b3;grind
 have y:(ac x.eval r2).events V g.a #[]=#[]:=events_call_body (P:=V) (a:=x) (w:=g.a) (o:=r2) (f:=232) (fn:=Tryz.f232) a Tryz.func232 b3 b3 #[];have s:Go.Conc.listed V j.fn x r2 g.a=#[]:=by unfold Go.Conc.listed;grind[seen_none]
 refine⟨_,g,#[],?_,.aZ k.ba,o x g k⟩;have:=tJ (P:=V) (eR:=r.b8) (j:=j) (x:=x) (i:=.code oc::eQ) (ah:=ah) (Q:=g.a) (aD:=oJ) (e:=0) (bt:=[]) (t:=r2) (by grind[KW]) a n u;rw[s]at this;exact this
section
variable (i Y bv J dO cI j eQ ah)
def wH(b:ak)(d:a6):Prop:=∃a,wI V q2 J (dY dO cI (ic i Y bv J.aj J.f (c bv)) e9 a) (j.M a (.inRegion oJ [0]::.code oc::eQ)) ah b d
def F9(b:ak)(d:a6):Prop:=∃a,fe V q2 J (dY dO cI (ic i Y bv J.aj J.f (c bv)) e9 a) (G (j.M (a.put (h 28) (.tuple #[])) (.inRegion oJ []::.code oc::eQ)) ah) b d
end
def R6(k:nW J.f cI)(e:j.roundOf=q){C}{b}(d:wH i Y bv J dO cI j eQ ah C b):
  dw (aj.aG V 291 J.f) (dU J.f) (re V 291 J (F9 i Y bv J dO cI j eQ ah) (wH i Y bv J dO cI j eQ ah)) C b:=by
 obtain⟨a,d⟩:=d;have l:(oJ[0]?).bind (·.dst)=h 28:=by rw[KW];rfl
 rw[rx e]at d;refine R7 (P:=V) (L:=q2) (hN:=j) (hM:=⟨a.tmps,a.defers++j.defers⟩) (gk:=oJ) (hR:=0) (hY:=[]) (hT:=.code oc::eQ) (ah:=ah) wl (dY.eA k) (λC b g=>⟨a,?_⟩) (λC b n=>⟨a,?_⟩) d
 .rw[rx e];rw[l]at g;exact g
 grind[rx]
def acX{P}{ty}{D k}{g:ak->a6->Prop}:∀i{a:ak}{b:a6},dw (aj.aG P ty J.f) (dU J.f) (λa b=>o3 P ty J D val k g i a b) a b->o3 P ty J D val k g i a b
 |0,_,_,d=>dw.bind d λ_ _ e=>e
 |_+1,_,_,d=>dw.bind d λ_ _ e=>e
def acW(R:bM (aj.c' V) 231 (ni i))(M:J.aH=2)(t:nW J.f cI)(w:j.roundOf=q)(s:j.kind≠.early)(F:dO.length<=5)(H:c bv<=4000000)(Q:∀d,d<c bv->val d 0=.string ⟨((df i Y (bv.getD d 0)).getD []).toArray⟩)(I:∀d,d<c bv->val d 1=.bool (df i Y (bv.getD d 0)).isSome):
  ∀o,o<=c bv->∀a b,dY dO cI (ic i Y bv J.aj J.f (c bv-o)) e9 a b->WgLive 291 J.f b.a ->
   o3 V 291 J (2*c bv) val (c bv) (wH i Y bv J dO cI j eQ ah) o (G (j.M a (.code hy::.inLoop hy::.inBlock 0::.code lM::eQ)) ah) b:=by
 intro o;induction o with
 |zero=>
  intro _ a b e l;rw[sy]at e;have:=cd.cZ (W:=dU J.f) (aeC (r:=aj.aG V 291 J.f) (eQ:=eQ) (ah:=ah) (br:=λk b=>∃a,k=G (Frame.enter V 232 #[.pointer (h ⟨J.f,0,q⟩)] .normal) (j.M a (.inRegion oJ [0]::.code oc::eQ)::ah)/\dY dO cI (ic i Y bv J.aj J.f (c bv)) e9 a b) s e λp v n=>.stop ⟨p,rfl,n⟩) (t.step e.a9).clear l;refine dw.bind this ?_;rintro k b ⟨⟨a,rfl,e⟩,l⟩;exact aeM (P:=V) (L:=q2) (J:=J) wl (dY.eA t) (λk b z=>⟨a,z⟩) ⟨e,l⟩
 |succ o E=>
  intro T a b e l;have g:c bv-(o+1)<c bv:=y;generalize S:c bv-(o+1)=d at e g;have:=cd.cZ (W:=dU J.f) (toAdd (r:=aj.aG V 291 J.f) (eQ:=.code lM::eQ) (ah:=ah) (br:=λk b=>∃a,k=G (Frame.enter V 228 #[.pointer (h ⟨J.f,0,q⟩),.int .i64 1] .normal) (j.M a (.inRegion py [0]::tg (.code lM::eQ))::ah)/\dY dO cI (kX i Y bv J.aj J.f d) iO a b) g s e λp v n=>Tr s n λN A=>.stop ⟨p,rfl,A⟩) (t.step e.a9).clear l;refine dw.bind this ?_;rintro k b ⟨⟨a,rfl,e⟩,l⟩;have D:(py[0]?).bind (·.dst)=h 25:=by rw[KU];rfl
  rw[rx w];refine RY (P:=V) (L:=q2) (J:=J) (ed:=dY dO cI (kX i Y bv J.aj J.f d) iO a) wl (dY.eA t) (λb B=>?_) ⟨e,l⟩;rw[D];have:=cd.cZ (W:=dU J.f) (toGo (r:=aj.aG V 291 J.f) (eQ:=.code lM::eQ) (ah:=ah) (br:=λk b=>∃u a,k=G (j.M a (.inRegion oI [1]::.inBlock 1::.code ob::.inLoop hy::.inBlock 0::.code lM::eQ)) ah/\dY dO cI (kX i Y bv J.aj J.f d) iO a b/\Rd b.u u (sQ i Y bv J.aj J.f d)/\a.tmps.getD 26 K=u) s B.1 λu p v n C x=>.stop ⟨u,p,rfl,n,C,x⟩) (t.step B.1.a9).clear B.2;rw[rx w]at this;refine dw.bind this ?_;rintro k b ⟨⟨u,a,rfl,e,C,x⟩,l⟩;rw[S];refine⟨.leaf,Sf R M w s g (Q d g) (I d g) e l C x λv n O=>?_⟩;refine acX o ?_;have:=cd.cZ (W:=dU J.f) (aeB (r:=aj.aG V 291 J.f) (eQ:=.code lM::eQ) (ah:=ah) (br:=λk b=>∃a,k=G (j.M a (.code hy::.inLoop hy::.inBlock 0::.code lM::eQ)) ah/\dY dO cI (ic i Y bv J.aj J.f (d+1)) e9 a b) g H s F n λp v n=>.stop ⟨p,rfl,n⟩) (t.step n.a9).clear O;refine dw.bind this ?_;rintro k b ⟨⟨a,rfl,e⟩,l⟩;refine⟨.leaf,E y a b ?_ l⟩;grind
end
end
section
variable {r:aj V}[r.cb]
def Sw(o):∀b,b<c o->c (bF.fn o b)=2/\∀e∈bF.fn o b,nu e=f:=by intro b _;refine⟨a,λe d=>?_⟩;simp only[c1.fn,gB,bF,e4,sz,or_false]at d;rcases d with rfl|rfl<;>rfl
abbrev m7(b:p c6)(a:p aa):Prop:=ej 2 (c b) (bF.fn b) a
abbrev A6(a:fl)(d:Nat)(b:p aa):an:=.J (cn 105 2 a d b)
abbrev ad1(a:fl)(d:Nat)(b:Bool):z:=.Q [.aq (.v (c0 a d)),.aq (.c (.bool b))]
def XM(o)(a l):bl (ι:={b:fl×p aa // m7 (jB o a l).1 b.2}) r 59 [bF.S o,b1 a,b1 l] [] (λb=>ad1 b.1.1 (jB o a l).1.length (jB o a l).2) (λb=>[A6 b.1.1 (jB o a l).1.length b.1.2]):=
 (Jf o a l).thaw func59 rfl (by simp[DC,vH,vG,r3,nt,nu]) (Sw _)
def ej.nil{i}:ej i 0 T []:=⟨by simp,λb a=>by omega,λb a=>by omega⟩
def abK{o}{d l}(a:(jB o d l).2=f):(jB o d l).1.length<=6:=by
 unfold jB at a⊢;split at a
 .rename_i j;rw[bs j];split at a
  .rename_i b;rw[bs b];exact M2 b
  grind
 grind
def R'(b:t.op=.call {callee:=.builtin .append,args:=#[l,X],argTypes:=#[36,36]}):j9 V t l X 105 qC:=
 ⟨⟨36,36,C8,C8,b,(be _ _ a),rfl,(be _ _ a),rfl⟩,(be _ _ a),by decide,by decide⟩
def LJ{b}(d:c b<=9223372036854775807):Rd bE (jm b) (.V b):=Rd.V a d
def m7.gJ{o}{ag}(p:m7 o ag)(b l)(j:c b<=9223372036854775807)(k:c l<=9223372036854775807):m7 (o++[(b,l)]) (ag++[jm b,jm l]):=by
 unfold m7;rw[dk];refine ej.gJ p (λs e=>?_) a a λg r d=>?_
 .simp[c1.fn,gB,al,kb e]
 have n:bF.fn (o++[(b,l)]) (c o)=[.V b,.V l]:=by simp[c1.fn,gB,bF]
 rw[n]at d;rcases g with _|_|g
 .simp at d;subst d;exact⟨jm b,a,λi=>LJ j⟩
 .simp at d;subst d;exact⟨jm l,a,λi=>LJ k⟩
 grind
def m7.j1{o}{ag}(n:m7 o ag)(e)(b:e<c o)(l)(j:na B [.c (.V l)]):m7 (o.set e ((o.getD e bF.I).1,l)) (ag.take (e*2+1)++B++ag.drop (e*2+1+c B)):=by
 unfold m7;rw[ss];refine ej.fi n e 1 b j (bB _) (λs r g=>?_) a λd p i=>?_
 .simp[c1.fn,gB,al,qc g]
 have k:bF.fn (o.set e ((o.getD e bF.I).1,l)) e=[.V (o.getD e bF.I).1,.V l]:=by simp[c1.fn,gB,bF,al,b]
 rw[k]at i;rcases d with _|_|d
 .right;exact bH
 .grind
 grind
structure uy(i s:Nat) where
 dZ:p c6
 gQ:fl
 hY:p aa
 k1:Nat
 jb:m7 dZ hY
 kx:c dZ<=7
 ji:i<=k1
 ku:k1<=i+s
set_option maxRecDepth 20000 in
def XI(A)(j:Nat->Int)(u:Bytes j)(i)(ah:i<=50000)(x:A<=1048576):
  bl (ι:=uy i 400) r 29 [aH 0 0] [ei A j i] (λn=>cN (c0 n.gQ (c n.dZ))) (λn=>[ei A j n.k1,A6 n.gQ (c n.dZ) n.hY]):=by
 refine bl.cw func29 rfl rfl rfl λH=>?_;refine gR [] 9 a v (g.jG 3 105 2 a λW=>?_);refine a0 a v (g.a' (hP A j u i 6 y x y) [0] a bp ?_);rintro⟨D,ak,an⟩;refine a0 a v (g.aL 2 (λb:Nat×p c6×fl×p aa×Nat=>b.1<=5/\m7 b.2.1 b.2.2.2.1/\c b.2.1<=6/\i<=b.2.2.2.2/\b.2.2.2.2+70*b.1<=i+351) (λb=>[(0,aH 0 0),(4,S b.1),(3,cN (c0 b.2.2.1 (c b.2.1)))]) (λb=>[ei A j b.2.2.2.2,A6 b.2.2.1 (c b.2.1) b.2.2.2.1]) (λb=>b.1) (D.toNat,[],W,[],i+1) a bV a E a ⟨by omega,ej.nil,by simp,by simp,by grind⟩ ?_);rintro⟨k,e,bP,ag,k1⟩ ⟨Y,o,ad,G,Z⟩;simp only at Y o ad G Z;by_cases P:0<k
 .refine a7 [(11,f)] a (by simp[P]) (g.a' (I1 A j u k1 y x) [0] a bp ?_);rintro⟨l,ab⟩;refine a0 a v (g.a' (XG A j u (k1+1+1) y x) [0] a bp ?_);rintro⟨⟨Q,R⟩,ae,aq,ai⟩;simp only at ae aq ai;refine a0 a v (g.iJ (XM e l Q) 1 0 a a a a (cn.fK a (bF.fn e) o.rd) a E a bp bp a ?_);rintro⟨⟨F,C⟩,T⟩;simp only at T⊢;cases z:(jB e l Q).2 with
  |true=>
   have N:=abK z;generalize(jB e l Q).1=K at T N⊢;refine gR [] 6 a v (g.swap 1 2 cc a a (λD I J=>J.1) (λD I J=>J.1) ?_);refine a7 [(23,f)] a oV (g.aB (k-1,K,F,C,R) a bV E M ?_);grind
  |false=>
   refine a7 [(23,m)] a bH (g.aB (k-1,e,bP,ag,R) a bV E M ?_);grind
 obtain rfl:k=0:=y;refine a7 [(11,m)] a E (g.aC ?_);refine a0 a v (g.a' (hP A j u k1 40 y x y) [0] a bp ?_);rintro⟨V,aN,av⟩;by_cases L:V=0
 .refine a7 [(27,f)] a (by simp[L]) (g.a' (I1 A j u (k1+1) y x) [0] a bp ?_);rintro⟨l,ab⟩;refine a0 a v (g.fv (d:=1) (bP:=bP) (ag:=ag) (k:=c e) (h1:=[jm l,jm [97]]) (R' a) a a a a a a a a (λau D az s aw ax=>?_) (by show _*32<=_;omega) λF=>?_)
  .grind [Eu]
  refine a0 a v (g.bM ⟨e++[(l,[97])],F,ag++[jm l,jm [97]],k1+1+1+1,o.gJ l [97] y cc,by grind,by omega,by omega⟩ (g.aS [0,1] a E ?_ (s:=nU)));grind
 by_cases ar:V=1
 .by_cases O:0<c e
  .refine g.fC (cn.len (d:=1) a) λao=>?_;obtain⟨X,t,rfl⟩:=ao.2.2.1 O;refine a7 [(27,m),(35,f),(39,f)] a bw (g.eP be 1 a a a a a a a M a a λB w=>?_);have aj:=o.j1 0 O [65] w;refine a0 a v (g.bM ⟨e.set 0 ((e.getD 0 bF.I).1,[65]),.row X t,_,k1+1,aj,by grind,by omega,by omega⟩ (g.aS [0,1] a E ?_ (s:=nU)));grind
  cases bP;all_goals
   refine a7 [(27,m),(35,f),(39,m)] a ?_ (g.bM ⟨e,_,ag,k1+1,o,by omega,by omega,by omega⟩ (g.aS [0,1] a ?_ ?_))
   .simp[O,ar]<;>omega
   .simp
   grind
 refine a7 [(27,m),(35,m)] a bw (g.bM ⟨e,bP,ag,k1+1,o,by omega,by omega,by omega⟩ (g.aS [0,1] a E ?_));grind
def XJ(A)(b:Nat->Int)(g:Bytes b)(i)(d:i<=50000)(e:A<=1048576):
  bl (ι:=uy i 400) r 29 [aH 0 0] [ei A b i] (λa=>bF.S a.dZ) (λa=>[ei A b a.k1]):=
 bl.e1 (aM:=λa:uy i 400=>[ei A b a.k1]) (i:=2) (k:=λa:uy i 400=>c a.dZ) (T:=λa:uy i 400=>bF.fn a.dZ) (XI A b g i d e) (λa=>a.jb) bp (λ_=>bB _)
end
section
open Go.Proofs Go.Extern
abbrev gg:av:=161
abbrev dT:av:=159
abbrev pN:av:=252
abbrev aR(a:av):aa:=.pointer (h ⟨6,a,q⟩)
abbrev mS(a:av):aa:=.iface pN (.agg #[aR a])
abbrev kD(d:av)(b:Nat)(a:Int):aa:=.agg #[aR d,.pointer (h ⟨b,0,q⟩),.int .u64 a]
def Nq:jD V 166 λargs=>ReflectliteValue.unpack (args.getD 0 (.tuple #[])):=⟨_,Tryz.func166,by kernel_rfl,by kernel_rfl,by kernel_rfl,by kernel_rfl⟩
def ab3(b)(a):(ReflectliteValue.unpack (.iface gg (.pointer (h b)))).run V a=.ok (kD gg a.heap.size 150) (a.alloc (.cells #[.pointer (h b)] gg)):=b3
def To(a)(b)(T):(ReflectliteValue.unpack (.iface gg (.pointer (h a)))).events V b T=T:=b3
def ab2(b)(a):(ReflectliteValue.unpack (.iface dT (.pointer (h b)))).run V a=.ok (kD dT a.heap.size 150) (a.alloc (.cells #[.pointer (h b)] dT)):=b3
def Tn(a)(b)(T):(ReflectliteValue.unpack (.iface dT (.pointer (h a)))).events V b T=T:=b3
def ae8:jD V 167 (ReflectliteValue.methodAny (ReflectliteValue.valueError "reflectlite.Value.Type" 0) λa _ _ _=>ReflectliteType.toType a):=⟨_,Tryz.func167,by kernel_rfl,by kernel_rfl,by kernel_rfl,by kernel_rfl⟩
def ab0(C)(a):(ReflectliteValue.methodAny (ReflectliteValue.valueError "reflectlite.Value.Type" 0) (λb _ _ _=>ReflectliteType.toType b) #[kD gg C 150]).run V a=.ok (mS gg) a:=b3
def Tl(C)(b)(T):(ReflectliteValue.methodAny (ReflectliteValue.valueError "reflectlite.Value.Type" 0) (λa _ _ _=>ReflectliteType.toType a) #[kD gg C 150]).events V b T=T:=b3
def Kr(b)(d):(Go.method (Tryz.prog.types.size+Made.depth) pN (.agg #[b]) "Kind").run V d=.ok (334,b) d/\∀a,(Go.method (Tryz.prog.types.size+Made.depth) pN (.agg #[b]) "Kind").events V d a=a:=⟨by kernel_rfl,λa=>by kernel_rfl⟩
def Np:jD V 334 (ReflectliteType.abiMethod λa=>do pure (.int .u8 (<-Rtype.kind a))):=⟨_,Tryz.func334,by kernel_rfl,by kernel_rfl,by kernel_rfl,by kernel_rfl⟩
def abY(a):((ReflectliteType.abiMethod λb=>do pure (.int .u8 (<-Rtype.kind b))) #[aR gg]).run V a=.ok (.int .u8 22) a:=b3
def Tk(b)(T):((ReflectliteType.abiMethod λa=>do pure (.int .u8 (<-Rtype.kind a))) #[aR gg]).events V b T=T:=b3
def abX(a):((ReflectliteType.abiMethod λb=>do pure (.int .u8 (<-Rtype.kind b))) #[aR dT]).run V a=.ok (.int .u8 22) a:=b3
def Tj(b)(T):((ReflectliteType.abiMethod λa=>do pure (.int .u8 (<-Rtype.kind a))) #[aR dT]).events V b T=T:=b3
def ae4:jD V 168 (ReflectliteValue.method (ReflectliteValue.valueError "reflectlite.Value.IsNil" 0) ReflectliteValue.isNil):=⟨_,Tryz.func168,by kernel_rfl,by kernel_rfl,by kernel_rfl,by kernel_rfl⟩
def LP(d)(b:av->Addr->Nat->Nat->Sem aa)(ab):ReflectliteValue.method d b #[ab]=(do match<-ReflectliteValue.parts ab with|none=>d|some (g,e,a)=>b g e a (a % 32)):=rfl
def tz(C)(b):(ReflectliteValue.parts (kD gg C 150)).run V b=.ok (h (gg,⟨C,0,q⟩,150)) b/\∀a,(ReflectliteValue.parts (kD gg C 150)).events V b a=a:=⟨by kernel_rfl,λa=>by kernel_rfl⟩
def abW(C)(j)(b)(g:b.cell? ⟨C,0,q⟩=h (.pointer (h j))):(ReflectliteValue.method (ReflectliteValue.valueError "reflectlite.Value.IsNil" 0) ReflectliteValue.isNil #[kD gg C 150]).run V b=.ok (.bool m) b /\
  ∀a,∀d∈(ReflectliteValue.method (ReflectliteValue.valueError "reflectlite.Value.IsNil" 0) ReflectliteValue.isNil #[kD gg C 150]).events V b a,d∈a∨d=⟨.cell ⟨C,0,q⟩,m,m⟩:=by
 have i:=Tryz.underlying161;rw[LP];constructor
 .simp only[cK,(tz C b).1,c7];simp[ReflectliteValue.isNil,loadVar,isAgg,underlying,i,g]
 intro a d e;simp only[aG,cK,(tz C b).1,(tz C b).2,c7,aJ]at e;simpa[ReflectliteValue.isNil,loadVar,isAgg,underlying,i,g,show(Mode.plain==Mode.atomic)=m from rfl]using e
def aaC(b)(d):(Go.method (Tryz.prog.types.size+Made.depth) pN (.agg #[b]) "Elem").run V d=.ok (350,.agg #[b]) d/\∀a,(Go.method (Tryz.prog.types.size+Made.depth) pN (.agg #[b]) "Elem").events V d a=a:=⟨by kernel_rfl,λa=>by kernel_rfl⟩
def ae1:jD V 350 (ReflectliteType.method ReflectliteType.elem):=⟨_,Tryz.func350,by kernel_rfl,by kernel_rfl,by kernel_rfl,by kernel_rfl⟩
def abT(a):(ReflectliteType.method ReflectliteType.elem #[.agg #[aR gg]]).run V a=.ok (mS dT) a:=b3
def Tg(a)(T):(ReflectliteType.method ReflectliteType.elem #[.agg #[aR gg]]).events V a T=T:=b3
def aaD(b)(d):(Go.method (Tryz.prog.types.size+Made.depth) pN (.agg #[b]) "Implements").run V d=.ok (351,.agg #[b]) d/\∀a,(Go.method (Tryz.prog.types.size+Made.depth) pN (.agg #[b]) "Implements").events V d a=a:=⟨by kernel_rfl,λa=>by kernel_rfl⟩
def ae3:jD V 351 (ReflectliteType.relation "Implements" ReflectliteType.implements_):=⟨_,Tryz.func351,by kernel_rfl,by kernel_rfl,by kernel_rfl,by kernel_rfl⟩
def abV(a):(ReflectliteType.relation "Implements" ReflectliteType.implements_ #[.agg #[aR dT],mS 156]).run V a=.ok (.bool f) a:=b3
def Ti(a)(T):(ReflectliteType.relation "Implements" ReflectliteType.implements_ #[.agg #[aR dT],mS 156]).events V a T=T:=b3
def aaB(b)(d):(Go.method (Tryz.prog.types.size+Made.depth) pN (.agg #[b]) "AssignableTo").run V d=.ok (348,.agg #[b]) d/\∀a,(Go.method (Tryz.prog.types.size+Made.depth) pN (.agg #[b]) "AssignableTo").events V d a=a:=⟨by kernel_rfl,λa=>by kernel_rfl⟩
def aeW:jD V 348 (ReflectliteType.relation "AssignableTo" ReflectliteType.assignableTo):=⟨_,Tryz.func348,by kernel_rfl,by kernel_rfl,by kernel_rfl,by kernel_rfl⟩
def abS(a):(ReflectliteType.relation "AssignableTo" ReflectliteType.assignableTo #[.agg #[aR dT],mS dT]).run V a=.ok (.bool f) a:=b3
def Tf(a)(T):(ReflectliteType.relation "AssignableTo" ReflectliteType.assignableTo #[.agg #[aR dT],mS dT]).events V a T=T:=b3
def ae9:jD V 207 ReflectliteType.typeOf:=⟨_,Tryz.func207,by kernel_rfl,by kernel_rfl,by kernel_rfl,by kernel_rfl⟩
def ab1(ab)(a):(ReflectliteType.typeOf #[.iface dT ab]).run V a=.ok (mS dT) a:=b3
def Tm(ab)(a)(T):(ReflectliteType.typeOf #[.iface dT ab]).events V a T=T:=b3
def ae2:jD V 208 (ReflectliteValue.method (ReflectliteValue.valueError "reflectlite.Value.Elem" 0) ReflectliteValue.elem):=⟨_,Tryz.func208,by kernel_rfl,by kernel_rfl,by kernel_rfl,by kernel_rfl⟩
def LC(b):(Rtype.elem? gg).run V b=.ok (h dT) b/\∀a,(Rtype.elem? gg).events V b a=a:=⟨by kernel_rfl,λa=>by kernel_rfl⟩
def LD(b)(d):(ReflectliteValue.mk dT b ReflectliteValue.flagAddr).run V d=.ok (.agg #[aR dT,.pointer (h b),.int .u64 406]) d/\∀a,(ReflectliteValue.mk dT b ReflectliteValue.flagAddr).events V d a=a:=⟨by kernel_rfl,λa=>by kernel_rfl⟩
def abU(C)(j)(b)(g:b.cell? ⟨C,0,q⟩=h (.pointer (h j))):(ReflectliteValue.method (ReflectliteValue.valueError "reflectlite.Value.Elem" 0) ReflectliteValue.elem #[kD gg C 150]).run V b=.ok (.agg #[aR dT,.pointer (h j),.int .u64 406]) b /\
  ∀a,∀d∈(ReflectliteValue.method (ReflectliteValue.valueError "reflectlite.Value.Elem" 0) ReflectliteValue.elem #[kD gg C 150]).events V b a,d∈a∨d=⟨.cell ⟨C,0,q⟩,m,m⟩:=by
 have i:=Tryz.underlying161;rw[LP];constructor
 .simp only[cK,(tz C b).1,c7];simp[ReflectliteValue.elem,loadVar,isAgg,underlying,i,g,LC,LD]
 intro a d e;simp only[aG,cK,(tz C b).1,(tz C b).2,c7,aJ]at e;simpa[ReflectliteValue.elem,loadVar,isAgg,underlying,i,g,LC,LD,show(Mode.plain==Mode.atomic)=m from rfl]using e
def ae7:jD V 209 ReflectliteValue.set:=⟨_,Tryz.func209,by kernel_rfl,by kernel_rfl,by kernel_rfl,by kernel_rfl⟩
def ab9(ab l):ReflectliteValue.set #[ab,l]=(do
  let (h (s,b,Yh),h (a,j,_)):=(<-ReflectliteValue.parts ab,<-ReflectliteValue.parts l)
   |unsupported (.noEntry "extern/(internal/reflectlite.Value).Set.zeroValue")
  if Yh / ReflectliteValue.flagAddr % 2==0 then unsupported (.noEntry "extern/(internal/reflectlite.Value).Set.unaddressable")
  let val<-loadVar a j
  if<-Rtype.directlyAssignable s a then storeVar s b val
  else if<-Rtype.implements s a then
   if(<-Rtype.kind a)==20 then
    match val with
    |.nilIface=>unsupported (.noEntry "extern/reflectlite: a nil value of one interface type handed on as a value of another")
    |_=>storeVar s b val
   else storeVar s b (.iface a val)
  else panicString ("reflectlite.Set: value of type "++(<-Rtype.spelt a)++ " is not assignable to type "++(<-Rtype.spelt s))
  pure (.tuple #[])):=rfl
def DY(b)(d):(ReflectliteValue.parts (.agg #[aR dT,.pointer (h b),.int .u64 406])).run V d=.ok (h (dT,b,406)) d/\∀a,(ReflectliteValue.parts (.agg #[aR dT,.pointer (h b),.int .u64 406])).events V d a=a:=⟨by kernel_rfl,λa=>by kernel_rfl⟩
def DZ(C)(b):(ReflectliteValue.parts (kD dT C 150)).run V b=.ok (h (dT,⟨C,0,q⟩,150)) b/\∀a,(ReflectliteValue.parts (kD dT C 150)).events V b a=a:=⟨by kernel_rfl,λa=>by kernel_rfl⟩
def LB(b):(Rtype.directlyAssignable dT dT).run V b=.ok f b/\∀a,(Rtype.directlyAssignable dT dT).events V b a=a:=⟨by kernel_rfl,λa=>by kernel_rfl⟩
def LF(b):(sizeOf dT).run V b=.ok 1 b/\∀a,(sizeOf dT).events V b a=a:=⟨by kernel_rfl,λa=>by kernel_rfl⟩
def abZ(C j)(W)(g)(e)(b)(r:b.heap[C]?=h (.cells #[g] W (0,0)))(p:b.cell? ⟨j,0,q⟩=h (.pointer (h e))):
  (ReflectliteValue.set #[.agg #[aR dT,.pointer (h ⟨C,0,q⟩),.int .u64 406],kD dT j 150]).run V b=.ok (.tuple #[]) (b.setRow C #[.pointer (h e)]) /\
  ∀d,∀i∈(ReflectliteValue.set #[.agg #[aR dT,.pointer (h ⟨C,0,q⟩),.int .u64 406],kD dT j 150]).events V b d,i∈d∨i=⟨.cell ⟨j,0,q⟩,m,m⟩∨i=⟨.cell ⟨C,0,q⟩,f,m⟩:=by
 have o:=Tryz.underlying159;have l:∀b∈[Value.pointer (h e)],b.oneCell'=f:=λb v=>by simp at v;exact bH
 have u:=run_storeCells_at V C 0 W [.pointer (h e)] 0 #[g] b r E l;have k:(storeCells ⟨C,0,q⟩ [.pointer (h e)] 0).run V b=.ok () (b.setRow C #[.pointer (h e)]):=u;rw[ab9];constructor
 .simp only[cK,(DY ⟨C,0,q⟩ b).1,(DZ j b).1,c7];simp[ReflectliteValue.flagAddr,loadVar,isAgg,underlying,o,p,LB,storeVar,Value.cells,LF,k]
 intro d i n;simp only[aG,cK,(DY ⟨C,0,q⟩ b).1,(DY ⟨C,0,q⟩ b).2,(DZ j b).1,(DZ j b).2,c7,aJ]at n;have s:i∈(storeCells ⟨C,0,q⟩ [.pointer (h e)] 0).events V b (d.push ⟨.cell ⟨j,0,q⟩,m,m⟩):=by simpa[ReflectliteValue.flagAddr,loadVar,isAgg,underlying,o,p,LB,storeVar,Value.cells,LF,k,show(Mode.plain==Mode.atomic)=m from a]using n
 rcases nm [.pointer (h e)] 0 #[g] b _ r E l i s with w|⟨t,y,x,rfl⟩
 .grind
 obtain rfl:t=0:=M;exact .inr (.inr a)
end
section
open Go.Proofs Go.Extern
variable {r:aj V}
abbrev Am:an:=.J (ee 0 205 (mS 156))
abbrev og(a:aa):z:=ax (.val a)
abbrev xW(d:av)(b:Nat)(a:Int):z:=.q (.agg [.c (.val (aR d)),.c (.val (.pointer (h ⟨b,0,q⟩))),.c (.val (.int .u64 a))])
abbrev Gy(d:Addr)(a b:Nat):p an:=[.J (ee b gg (.pointer (h ⟨a,0,q⟩))),.J (ee a dT (.pointer q))]
def Jr:∀a,a<2->([0,1]:p Nat)[a]?=h a:=cc
def TF(b)(C j):Z r 169 [og (.iface dT (.pointer (h b))),og (.iface gg (.pointer (h ⟨C,0,q⟩))),xW gg j 150,og (mS dT)] (Gy b C j) (bj f) [.J (ee j gg (.pointer (h ⟨C,0,q⟩))),.J (ee C dT (.pointer (h b)))]:=by refine Z.K Tryz.func169 rfl λo=>?_;refine a0 a v ?_;refine g.dF 3 [0,1,3,6] (λ_:Unit=>True) (λ_=>[]) (λ_=>Gy b C j++[.cells 202 [.c (.val (aR gg)),.c (.val (.pointer (h ⟨j,0,q⟩))),.c (.val (.int .u64 150))]]) (λ_=>0) () a E a E a v λ_ _=>?_;refine a0 a v ?_;refine g.c6 a a (eB.eb (h3.ea a a) ae9 (ab1 _) (Tm _) (l:=og (mS dT)) λ_=>Rd.val a) λ_=>?_;refine a0 a v ?_;refine g.c6 a a (eB.eb (h3.invoke a a a (aaB _)) aeW abS Tf (l:=bj f) λ_=>Rd.bool) λ_=>?_;refine a7 [(19,f)] a E ?_;refine g.c6 a a (eB.g' 0 (bC:=.pointer (h ⟨C,0,q⟩)) a (h3.ea a a) ae2 (λe i=>abU j ⟨C,0,q⟩ e i) (l:=xW dT C 406) λ_=>⟨_,a,Rd.val a,Rd.val a,Rd.val a,v⟩) λ_=>?_;refine a0 a v ?_;refine g.c6 a a (eB.g_ (W:=dT) (bC:=.pointer (h b)) (ab:=λd=>kD dT d 150) (l:=λd=>xW dT d 150) (h3.ea a a) Nq (ab2 b) (Tn b) λd _ _=>⟨_,a,Rd.val a,Rd.val a,Rd.val a,v⟩) λd=>?_;refine a0 a v ?_;refine g.c6 a a (eB.iW 1 3 (ER:=.pointer q) (bC:=.pointer (h b)) a a (h3.ea a a) ae7 (λe n k=>abZ C d dT _ b e n k) (l:=.Q []) λ_ _=>⟨[],a,v⟩) λ_=>?_;refine a0 a v (g.aX (bW.mk [0,1] a ?_ a a a Jr));simp
def Nf{ad}(u:t.op=.binOp op o l X ty){s}{cv}(k:P.underlying o=h (.interface cv))(w:η l=ax (.val (.iface ad ab)))(v:η X=ax .bq)(x:∀Q,(eqGuard op o l X (.iface ad ab) .nilIface).run P Q=.ok () Q)(ae:∀Q a,(eqGuard op o l X (.iface ad ab) .nilIface).events P Q a=a)(d:ia op m=h s):a1 P t η n (ax (.bool s)) n:=by
 refine .aZ λb p A r=>?_;have g:=r l;have e:=r X;rw[w]at g;rw[v]at e;replace g:=b8 g;replace e:=b8 e;generalize j:p l=y at g;generalize I:p X=z at e;cases g;cases e;have i:(Op.equal o (.iface ad ab) .nilIface).run P b.a=.ok m b.a:=QC;have C:∀a,(Op.equal o (.iface ad ab) .nilIface).events P b.a a=a:=λa=>by show(aQ (9999+1) o _ _).events P b.a a=a;unfold aQ;simp[underlying,k]
 cases op<;>simp only[ia,reduceCtorEq,eV]at d
 .exact QD
 exact P4
def TE(e)(C):Z r 118 [og (.iface dT (.pointer (h e))),og (.iface gg (.pointer (h ⟨C,0,q⟩)))] [Am,.J (ee C dT (.pointer q))] (bj f) [Am,.J (ee C dT (.pointer (h e)))]:=by refine Z.K Tryz.func118 rfl λk=>?_;refine a0 a v ?_;refine g.aO (Nf a Tryz.underlying156 a a bp (λ_ _=>rfl) a) a a ?_;refine a7 [(9,m)] a E ?_;refine g.aO (Nf a Tryz.underlying20 a a bp (λ_ _=>rfl) a) a a ?_;refine a7 [(11,m)] a E ?_;refine g.c6 a a (eB.g_ (W:=gg) (bC:=.pointer (h ⟨C,0,q⟩)) (ab:=λd=>kD gg d 150) (l:=λd=>xW gg d 150) (h3.ea a a) Nq (ab3 _) (To _) λd _ _=>⟨_,a,Rd.val a,Rd.val a,Rd.val a,v⟩) λb=>?_;refine a0 a v ?_;refine g.c6 a a (eB.eb (h3.ea a a) ae8 (ab0 b) (Tl b) (l:=og (mS gg)) λ_=>Rd.val a) λ_=>?_;refine a0 a v ?_;refine g.c6 a a (eB.eb (h3.invoke a a a (Kr _)) Np abY Tk (l:=ax (.int .u8 22)) λ_=>Rd.int lA) λ_=>?_;refine a7 [(20,m)] a E ?_;refine g.c6 a a (eB.g' 2 (bC:=.pointer (h ⟨C,0,q⟩)) a (h3.ea a a) ae4 (λj i=>abW b ⟨C,0,q⟩ j i) (l:=bj m) λ_=>Rd.bool) λ_=>?_;refine a7 [(23,m)] a E ?_;refine g.c6 a a (eB.eb (h3.invoke a a a (aaC _)) ae1 abT Tg (l:=og (mS dT)) λ_=>Rd.val a) λ_=>?_;refine a0 a v ?_;refine g.c6 a a (eB.eb (h3.invoke a a a (Kr _)) Np abX Tj (l:=ax (.int .u8 22)) λ_=>Rd.int lA) λ_=>?_;refine a7 [(30,f)] a E ?_;refine g.aq (aV.gu be 0 a a a a a a) a ?_;refine g.c6 a a (eB.eb (h3.invoke a a a (aaD _)) ae3 abV Ti (l:=bj f) λ_=>Rd.bool) λ_=>?_;refine a7 [(35,m)] a E ?_;refine g.aF (TF e C b) [2,1] a ?_;refine a0 a v (g.aS [0,1] a ?_ Jr);simp
end
end R1
abbrev zt(a b:bD)(d:Bool):z:=.Q [.aq (.c (.V a)),.aq (.c (.V b)),.aq (.c (.bool d))]
namespace R1
variable {r:aj V}
def Vf(b)(s)(d:0<=s/\s<=255):Z r 237 [b1 b,u6 s] [] (S (Lib.indexByte b (UInt8.ofNat (Int.toNat s)))) []:=by
 have a:s=((UInt8.ofNat s.toNat).toNat:Int):=by grind[UInt8.toNat_ofNat']
 grind[Ve]
def Bj:bL:=λargs b=>match args,b with
 |[.q (.aq (.c (.V d))),.q (.aq (.c (.int .u8 a)))],[]=>h (S (Lib.indexByte d (UInt8.ofNat (Int.toNat a))),[],[0<=a/\a<=255])
 |_,_=>q
def adt:bM r 237 Bj:=by
 intro args j e g d a b;unfold Bj at a;split at a
 .cases a;exact(Vf _ _ (b)).args (λ_ _ i=>i)
 cases a
def HY:p (Nat×bL):=(237,Bj)::H'
def BX:a9 r HY:=a9.cons adt (SR)
def iy(a:bD):Int:=Lib.indexByte a 47
theorem Vd(b):Z r 191 [b1 b,b1 [47]] [] (S (iy b)) []:=by
 refine Z.K func191 rfl λe=>?_;by_cases d:b=[47]
 .subst d;refine a' BX [(18,m),(22,f)] a E (g.aw a ?_);exact cU
 refine a' BX [(18,m),(22,m),(26,f)] a ?_ (g.aw a ?_)
 .simp[km,ds];grind
 exact cU
def Bi:bL:=λargs a=>match args,a with
 |[.q (.aq (.c (.V b))),.q (.aq (.c (.V [47])))],[]=>h (S (iy b),[],[])
 |_,_=>q
def adr:bM r 191 Bi:=by intro args i b d a e g;unfold Bi at e;grind[Vd]
def HZ:p (Nat×bL):=(191,Bi)::HY
def BY:a9 r HZ:=a9.cons adr (BX)
def jR(a:bD):bD:=if 0<=iy a then a.take (iy a).toNat else a
def mB(a:bD):bD:=if 0<=iy a then a.drop ((iy a).toNat+1)else[]
def ko(a:bD):Bool:=decide (0<=iy a)
theorem Ug(b):Z r 146 [b1 b,b1 [47]] [] (zt (jR b) (mB b) (ko b)) []:=by
 refine Z.K func146 rfl λi=>?_;have j:=i.V 0 a;have e:=yv b 47;change iy b<c b∨iy b=-1 at e;by_cases d:0<=iy b
 .have s:(iy b+1).toNat=(iy b).toNat+1:=y;refine a' BY [(12,f)] a ?_ (g.aw a ?_)
  .simp[d,a8];omega
  simp[jR,mB,ko,d,mA,s]
 refine a' BY [(12,m)] a bV (g.aw a ?_);simp[jR,mB,ko,d]
def Bh:bL:=λargs b=>match args,b with
 |[.q (.aq (.c (.V a))),.q (.aq (.c (.V [47])))],[]=>h (zt (jR a) (mB a) (ko a),[],[])
 |_,_=>q
def t146:bM r 146 Bh:=by intro args i b d a e g;unfold Bh at e;grind[Ug]
def H0:p (Nat×bL):=(146,Bh)::HZ
def HR:a9 r H0:=a9.cons t146 (BY)
theorem Uf(b):Z r 110 [b1 b,b1 [47]] [] (zt (jR b) (mB b) (ko b)) []:=by refine Z.K func110 rfl λd=>?_;exact ca HR a v (g.aw a)
def Bc:bL:=λargs b=>match args,b with
 |[.q (.aq (.c (.V a))),.q (.aq (.c (.V [47])))],[]=>h (zt (jR a) (mB a) (ko a),[],[])
 |_,_=>q
def adm:bM r 110 Bc:=by intro args i b d a e g;unfold Bc at e;grind[Uf]
def jT(a:bD):Bool:=decide (c a=1)&&decide (97<=ds a 0)&&decide (ds a 0<=101)
theorem UF(b):Z r 111 [b1 b] [] (bj (jT b)) []:=by
 refine Z.K func111 rfl λe=>?_;by_cases d:c b=1
 .by_cases j:97<=ds b 0
  .refine a7 [(5,f),(9,f)] a hz (g.aw a ?_);show decide (ds b 0<=101)=jT b;simp[jT,d,j]
  refine a7 [(5,f),(9,m)] a cU (g.aw a ?_);simp[jT,j]
 refine a7 [(5,m)] a bV (g.aw a ?_);simp[jT,d]
def Bd:bL:=λargs a=>match args,a with
 |[.q (.aq (.c (.V b)))],[]=>h (bj (jT b),[],[])
 |_,_=>q
def adn:bM r 111 Bd:=by intro args i b d a e g;unfold Bd at e;grind[UF]
def H1:p (Nat×bL):=(110,Bc)::(111,Bd)::H0
def xG:a9 r H1:=a9.cons adm (a9.cons adn (HR))
def jZ(a:bD):Bool:=jT (jR a)&&(!ko a||jT (mB a))
theorem WM(b):Z r 71 [b1 b] [] (bj (jZ b)) []:=by
 refine Z.K func71 rfl λe=>?_;cases x:jT (jR b)with
 |false=>
  refine a' xG [(13,m)] a oY (g.aw a ?_);simp[jZ,x]
 |true=>
  cases d:ko b with
  |false=>
   refine a' xG [(13,f),(15,m)] a dD (g.aw a ?_);simp[jZ,x,d]
  |true=>
   refine a' xG [(13,f),(15,f)] a dD (g.aw a ?_);simp[jZ,x,d]
def Bt:bL:=λargs a=>match args,a with
 |[.q (.aq (.c (.V b)))],[]=>h (bj (jZ b),[],[])
 |_,_=>q
def adA:bM r 71 Bt:=by intro args i b d a e g;unfold Bt at e;grind[WM]
theorem VM(b):Z r 112 [b1 b] [] (bj (d6 b)) []:=by
 refine Z.K func112 rfl λe=>?_;have n:=e.V 0 a;refine a0 a v (g.cc (λd=>d<=c b/\∀w,w<d->ju (b.getD w 0)=f) (λd:Nat=>[(0,b1 b),(5,S (c b)),(6,S d)]) (λ_=>[]) (λd=>c b-d) 0 a E a v ⟨by omega,by omega⟩ ?_);rintro d ⟨i,s⟩;by_cases u:d<c b
 .generalize x:b.getD d 0=j;by_cases l:j.toNat<97
  .refine a7 [(7,f),(12,f)] a ?_ (g.bV (bW.zero a ?_))
   .simp only[U,xo,bA,x];omega
   exact zT
  by_cases k:j.toNat>122
  .refine a7 [(7,f),(12,m),(17,f)] a Oc (g.bV (bW.zero a ?_));exact zT
  refine a7 [(7,f),(12,m),(17,m)] a Qi (g.b5 (d+1) a E a v ?_ ?_)
  .refine⟨by omega,λw I=>?_⟩;rcases AF.1 I with I|rfl
   .grind
   rw[x];simp only[ju,cp,bA];omega
  omega
 exact OB
def Be:bL:=λargs a=>match args,a with
 |[.q (.aq (.c (.V b)))],[]=>h (bj (d6 b),[],[])
 |_,_=>q
def ado:bM r 112 Be:=by intro args i b d a e g;unfold Be at e;grind[VM]
def H2:p (Nat×bL):=(71,Bt)::(112,Be)::H1
def BZ:a9 r H2:=a9.cons adA (a9.cons ado (xG))
theorem Jc(b):Z r 72 [b1 b] [] (bj (fJ b)) []:=by
 refine Z.K func72 rfl λe=>?_;by_cases d:c b<=40
 .refine a' BZ [(5,f)] a bV (g.aw a ?_);simp[fJ,d]
 refine a' BZ [(5,m)] a bV (g.aw a ?_);simp[fJ,d]
def Bu:bL:=λargs a=>match args,a with
 |[.q (.aq (.c (.V b)))],[]=>h (bj (fJ b),[],[])
 |_,_=>q
def adB:bM r 72 Bu:=by intro args i b d a e g;unfold Bu at e;grind[Jc]
def ov(b a:bD):Bool:=decide (c a<=c b)&&(b.take (c a)==a)
theorem US(b d):Z r 114 [b1 b,b1 d] [] (bj (ov b d)) []:=by
 refine Z.K func114 rfl λe=>?_;by_cases x:c d<=c b
 .refine a7 [(9,f)] a oY (g.aw a ?_);simp[ov,x,mA]
 refine a7 [(9,m)] a bV (g.aw a ?_);simp[ov,x]
def Bg:bL:=λargs a=>match args,a with
 |[.q (.aq (.c (.V b))),.q (.aq (.c (.V d)))],[]=>h (bj (ov b d),[],[])
 |_,_=>q
def adq:bM r 114 Bg:=by intro args i b d a e g;unfold Bg at e;grind[US]
def H3:p (Nat×bL):=(72,Bu)::(114,Bg)::H2
def HS:a9 r H3:=a9.cons adB (a9.cons adq (BZ))
theorem UR(b d):Z r 75 [b1 b,b1 d] [] (bj (ov b d)) []:=by refine Z.K func75 rfl λe=>?_;exact ca HS a v (g.aw a)
def Bx:bL:=λargs a=>match args,a with
 |[.q (.aq (.c (.V b))),.q (.aq (.c (.V d)))],[]=>h (bj (ov b d),[],[])
 |_,_=>q
def adE:bM r 75 Bx:=by intro args i b d a e g;unfold Bx at e;grind[UR]
def H4:p (Nat×bL):=(75,Bx)::H3
def HT:a9 r H4:=a9.cons adE (HS)
end R1
def c1.jC(a:c1 α)(d)(i k)(l:i+k<=c d):a.af k (fB i (a.fn d))=(d.drop i).take k:=by
 apply ru
 .simp[c1.af];omega
 intro b e g;have j:b<k:=M;simp[c1.af,fB,c1.fn,gB,al,bK (by omega:i+b<c d),a.inv]
def c1.ja(a:c1 α)(d){i}:a.bW k (fB i (a.fn d)):=λb _=>by simp[fB,c1.fn,gB,a.inv]
abbrev S5(a b:bD):z:=ax (.O [.V a,.V b])
namespace R1
variable {r:aj V}
def under(a b:bD):Bool:=ov a (b++[47])
def XQ(b)(d l)(i:c b.1<=4000000):Z r 74 [xT b,S5 d l] [] (bj (under d b.1)) []:=by refine Z.K func74 rfl λe=>?_;refine ca HT a bV (g.aw a ?_);exact cU
def Bw:bL:=λargs e=>match args,e with
 |[.q (.agg [.c (.V a),.c (.V b)]),.q (.aq (.c (.O [.V g,.V d])))],[]=>h (bj (under g a),[],[c a<=4000000/\b=b/\d=d])
 |_,_=>q
def adD:bM r 74 Bw:=by
 intro args n e g d a b;unfold Bw at a;split at a
 .rename_i j i k l;cases a;exact XQ (j,i) k l b.1
 grind
def H5:p (Nat×bL):=(74,Bw)::H4
def sS:a9 r H5:=a9.cons adD (HT)
abbrev B8(a b:bD):z:=ax (.fn (.func 74) [] [.O [.V a,.V b]])
def mJ(e:p c6)(d:bD):Int:=match e.findIdx? (λa=>under d a.1)with|some b=>b|none=>-1
def Z7{o}{a}(g:e<c o)(j:under a (cq o e)=f)(i:∀b,b<e->under a (cq o b)=m):mJ o a=e:=by
 have:o.findIdx? (λd=>under a d.1)=h e:=by grind[List.findIdx?_eq_some_iff_getElem,pj]
 rw[mJ,this]
theorem J3{o}{a}(e:∀b,b<c o->under a (cq o b)=m):mJ o a=-1:=by
 have:o.findIdx? (λd=>under a d.1)=q:=by grind[List.getElem_of_mem,pj]
 rw[mJ,this]
def U'(o)(e l)(p:∀d,d<c o->c (cq o d)<=4000000):Z r 113 [bF.S o,B8 e l] [] (S (mJ o e)) []:=by
 refine Z.K func113 rfl λn=>?_;have t:=n.S 0 a;refine ca sS a v (g.cc (λb=>b<=c o/\∀d,d<b->under e (cq o d)=m) (λb:Nat=>[(0,bF.S o),(1,B8 e l),(7,S (c o)),(8,S b)]) (λ_=>[]) (λb=>c o-b) 0 a E a v ⟨by omega,by omega⟩ ?_);rintro b ⟨s,k⟩;by_cases i:b<c o
 .have u:=p b i;cases j:under e (cq o b)with
  |true=>
   refine a' sS [(9,f),(16,f)] a ?_ (g.bV (bW.zero a ?_))
   .simp[-al,i,kx,j];omega
   simp[Z7 i j k]
  |false=>
   refine a' sS [(9,f),(16,m)] a ?_ (g.b5 (b+1) a ?_ a v ?_ ?_)
   .simp[-al,i,kx,j,a8];omega
   .simp
   .grind
   omega
 refine a' sS [(9,m)] a bV (g.bu a a ?_);refine ca sS a v (g.aw a ?_);simp[J3 (λd w=>k d y)]
def zh(b:p c6):Prop:=∀a,a<c b->c (cq b a)<=4000000
def Bf:bL:=λargs e=>match args,e with
 |[g,.q (.aq (.c (.fn (.func 74) [] [.O [.V i,.V d]])))],[]=>match j2 2 g with
  |none=>q
  |some (b,a)=>h (S (mJ (bF.af b a) i),[],[bF.bW b a,zh (bF.af b a),d=d])
 |_,_=>q
def adp:bM r 113 Bf:=by
 intro args o i j g a b;unfold Bf at a;split at a
 .rename_i p n l;split at a
  .cases a
  rename_i s k d;cases a;exact(U' _ n l b.2.1).args (λ_ B=>b6.imp (λ_=>bF.cE d b.1) (b6.imp (λ_ e=>e) (λ_ e=>e)) B)
 grind
def H6:p (Nat×bL):=(113,Bf)::H5
def HU:a9 r H6:=a9.cons adp (sS)
def TC(o)(b l)(d:zh o):Z r 73 [bF.S o,B8 b l] [] (bj (decide (0<=mJ o b))) []:=by
 refine Z.K func73 rfl λe=>?_;refine ca HU a ?_ (g.aw a ?_)
 .simp[bF.U,bF.E,d]
 simp[bF.E]
def Bv:bL:=λargs e=>match args,e with
 |[g,.q (.aq (.c (.fn (.func 74) [] [.O [.V i,.V d]])))],[]=>match j2 2 g with
  |none=>q
  |some (b,a)=>h (bj (decide (0<=mJ (bF.af b a) i)),[],[bF.bW b a,zh (bF.af b a),d=d])
 |_,_=>q
def adC:bM r 73 Bv:=by
 intro args o i j g a b;unfold Bv at a;split at a
 .rename_i p n l;split at a
  .cases a
  rename_i s k d;cases a;exact(TC _ n l b.2.1).args (λ_ B=>b6.imp (λ_=>bF.cE d b.1) (b6.imp (λ_ e=>e) (λ_ e=>e)) B)
 grind
def SV:p (Nat×bL):=(73,Bv)::H6
def oe:a9 r SV:=a9.cons adC (HU)
def mY(b:p c6)(a:Nat):Bool:=
 jZ (cq b a)&&fJ (lz b a)&&(a==0||!(aW (cq b a) (cq b (a-1))||cq b a==cq b (a-1)))&&(aC a).all λd=>!under (cq b a) (cq b d)
def q0(a:p c6):Bool:=(aC (c a)).all (mY a)&&decide (c a<=6)
def zy{o}(b:e<c o)(d:mY o e=m):q0 o=m:=by
 cases a:q0 o with
 |false=>rfl
 |true=>
  simp[q0,cp]at a;grind
theorem K8{b}(g:jZ b=f):c b<=3:=by
 simp[jZ,jT,cp,jK,bA,jJ]at g;obtain⟨⟨⟨e,_⟩,_⟩,a⟩:=g;have i:=yv b 47;change iy b<c b∨iy b=-1 at i;by_cases d:0<=iy b
 .simp only[jR,d,dJ,List.length_take]at e;rcases a with a|a
  .simp[ko,d]at a
  have:=a.1.1;simp[mB,d,dJ,sv]at this;omega
 simp[jR,d,dn]at e;omega
def Z8{o}{R}(l:e<=c o):decide (0<=mJ (o.take e) R)=!(aC e).all λa=>!under R (cq o a):=by
 have n:∀a,a<e->cq (o.take e) a=cq o a:=by intro a d;simp[cq,al,d]
 cases r:(aC e).all λa=>!under R (cq o a)with
 |true=>
  grind[J3]
 |false=>
  have j:∃a,a<e/\under R (cq o a)=f:=M;have:∃g:Nat,mJ (o.take e) R=g:=by
   unfold mJ;cases b:(o.take e).findIdx? (λk=>under R k.1)with
   |some g=>grind
   |none=>
    obtain⟨a,d,p⟩:=j;rw[List.findIdx?_eq_none_iff]at b;have i:a<c (o.take e):=M;have:=b _ (wZ i);grind[pj]
  grind
def Je(o):Z r 39 [bF.S o] [] (bj (q0 o)) []:=by
 refine Z.K func39 rfl λB=>?_;have D:=B.S 0 a;refine ca oe a v (g.aL 0 (λe=>e<=c o/\∀b,b<e->mY o b=f) (λe:Nat=>[(0,bF.S o),(5,bF.S o),(6,S (c o)),(7,S e)]) (λ_=>[]) (λe=>c o-e) 0 a E a v a ⟨by omega,by omega⟩ ?_);rintro e ⟨l,w⟩;by_cases i:e<c o
 .cases I:jZ (cq o e)with
  |false=>
   refine bg oe [(8,f),(14,m)] a ?_ (g.aX (bW.zero a ?_))
   .simp[-al,i,kx,I]
   simp[U,zy i (by simp[mY,I])]
  |true=>
   cases ae:fJ (lz o e)with
   |false=>
    refine bg oe [(8,f),(14,f),(19,m)] a ?_ (g.aX (bW.zero a ?_))
    .simp[-al,i,kx,tW,I,ae]
    simp[U,zy i (by simp[mY,ae])]
   |true=>
    have J:zh (o.take e):=by
     intro b C;simp[List.length_take]at C;have u:cq (o.take e) b=cq o b:=by simp[cq,al,(by omega:b<e)]
     rw[u];have:=w b y;simp[mY,cp]at this;grind[K8]
    have F:bF.af ((e:Int).toNat-0) (fB 0 (bF.fn o))=o.take e:=by rw[bF.jC o 0 _ M];simp
    cases p:(e==0||!(aW (cq o e) (cq o (e-1))||cq o e==cq o (e-1)))with
    |false=>
     have k:mY o e=m:=by simp only[mY,p];simp
     have A:e≠0:=M;have t:(aW (cq o e) (cq o (e-1))||cq o e==cq o (e-1))=f:=M;have j:a8 .i64 ((e:Int)-1):=cU;have d:((e:Int)-1).toNat=e-1:=y;refine bg oe [(8,f),(14,f),(19,f),(24,f),(34,f)] a OU (g.aX (bW.zero a ?_));simp[zy i k]
    |true=>
     have k:mY o e=(aC e).all λb=>!under (cq o e) (cq o b):=by simp only[mY,p,I,ae];simp
     apply g.cj [(0,bF.S o),(3,S e),(5,bF.S o),(6,S (c o)),(7,S e),(4,aH 0 0)] [.cells 105 [.c (.V (cq o e)),.c (.V (lz o e))]]
     .intro b2;by_cases A:e=0
      .refine bg oe [(8,f),(14,f),(19,f),(24,m),(1000006,f)] a ?_ (b2 _ _ a ?_)
       .simp only[U,kx,tW,c9,I,ae,bA,dr];grind
       simp
      have t:(aW (cq o e) (cq o (e-1))||cq o e==cq o (e-1))=m:=M;have j:a8 .i64 ((e:Int)-1):=cU;have d:((e:Int)-1).toNat=e-1:=y;refine bg oe [(8,f),(14,f),(19,f),(24,f),(34,m),(1000006,f)] a OU (b2 _ _ a ?_);simp
     refine g.freeze 4 0 a a a ?_;have n:=Z8 (o:=o) (R:=cq o e) (e:=e) l;have x:bF.bW ((e:Int).toNat-0) (fB 0 (bF.fn o)):=bF.ja o;cases s:(aC e).all λb=>!under (cq o e) (cq o b)with
     |false=>
      rw[s]at n k;refine bg oe [(41,f)] a ?_ (g.aX (bW.zero a ?_))
      .simp only[U,bT];grind
      simp[zy i k]
     |true=>
      rw[s]at n k;refine bg oe [(41,m)] a ?_ (g.aB (e+1) a ?_ ?_ ?_ ?_)
      .simp only[U,bT];have z:decide (0<=mJ (bF.af ((e:Int).toNat-0) (fB 0 (bF.fn o))) (cq o e))=m:=M;exact⟨by exact cU,x,by grind,v,z,by omega,by omega⟩
      .simp
      .trivial
      .grind
      omega
 have:e=c o:=y;subst this;refine a' oe [(8,m)] a E (g.aC ?_);refine ca oe a v (g.aw a ?_);simp only[U,q0];grind
def rC:bL:=λargs d=>match args,d with
 |[e],[]=>match j2 2 e with
  |none=>q
  |some (a,b)=>h (bj (q0 (bF.af a b)),[],[bF.bW a b])
 |_,_=>q
def wa:bM r 39 rC:=by
 intro args k e g d a b;unfold rC at a;split at a
 .split at a
  .cases a
  rename_i l n i;cases a;exact(Je _ ).args (λ_ B=>b6.imp (λ_=>bF.cE i b) (λ_ j=>j) B)
 grind
end R1
def b6.al{n ao}{b}(g:∀i(e:z),bz n b i e->bz ao b i e):∀{B:p aa}{d:p z},b6 n b B d->b6 ao b B d
 |[],[],_=>trivial
 |[],_::_,a=>a.elim
 |_::_,[],a=>a.elim
 |_::_,_::_,a=>⟨g _ _ a.1,b6.al g a.2⟩
def Z.eG{r:aj P}{s}{args a}{d}{res}(t:Z r s args n res ao)(C:∀b B,b6 n b B a->b6 n b B args)(z:jt d n=h Y)(A:U Y):Z r s a d res ao:=
 ⟨t.1,λb B o e u g l=>by obtain⟨j,k,D⟩:=jV z A b e;exact t.2 b B (C b B (o.al D)) j u g λi E p v w x y=>l i E p v w x ((k.too5 e).trans y)⟩
def aV.dU{j:aj P}{l}(s:dB (ι:=Unit) j D all t F n (λ_=>l) (λ_=>ao)):aV j D all t F n l ao:=
 λw o r g p v b k u a e i d=>s w o r g p v b k u a e i λ_=>d
namespace R1
variable {r:aj V}
abbrev jx(a:p (Int×Int)):an:=.r 230 2 (c a) (a3.fn a)
abbrev mX(a:p (Int×Int)):z:=.q (.aq (.r 0 2 (c a) (a3.fn a)))
def Kq(L:p (Int×Int))(a b d:an)(e g i _:Bool):p an:=match i with
 |true=>[d]
 |false=>match g with
  |true=>[b]
  |false=>match e with
   |true=>[a]
   |false=>[jx L]
def Cq:∀o(d:p (Int×Int)),c d+c o.af<=4000000->Z r 202 [ax (eK o),mX d] [jx d] (mX (d++o.af)) [jx (d++o.af)]
 |.nil,d,_=>by refine Z.K func202 rfl λC=>?_;refine a0 a v (g.aO (rZ a underlying244 a a a) a a ?_);refine a0 a v ?_;rw[show d++dL.nil.af=d from h5 d];exact g.aS [0] a ⟨a,bu.same⟩ s5
 |.ax lt e i b,d,A=>by
  have F:(dL.ax lt e i b).af=lt.af++(e,i)::b.af:=rfl;have K:c d+c lt.af+(c b.af+1)<=4000000:=M;have u:=Cq lt d y;have ce:=Cq b (d++lt.af++[(e,i)]) M;have I:=a3.a0 (d++lt.af) (e,i);have ef:Z r 202 [ax (eK b),.q (.aq (.r 0 2 (c (d++lt.af)+1) (cg (c (d++lt.af)) (a3.fn (d++lt.af)) λk=>([[.int .i64 e,.int .i64 i]]:p (p N)).getD k [])))] [.r 230 2 (c (d++lt.af)+1) (cg (c (d++lt.af)) (a3.fn (d++lt.af)) λk=>([[.int .i64 e,.int .i64 i]]:p (p N)).getD k [])] (mX (d++(dL.ax lt e i b).af)) [jx (d++(dL.ax lt e i b).af)]:=by
   rw[F,show d++(lt.af++(e,i)::b.af)=d++lt.af++[(e,i)]++b.af by simp];refine ce.eG (λQ B O=>?_) a (U.Z.2 ⟨⟨by grind,I⟩,v⟩)
   match B,O with
   |[_,_],⟨J,w,D⟩=>exact⟨J,pu rfl (show U [_,_]from⟨by grind,I⟩) w,D⟩
  have ny:(c (d++lt.af)+1)*ox.bytes<=140737488355328:=by rw[show ox.bytes=16 from a,dk];omega
  clear ce I K A;generalize d++(dL.ax lt e i b).af=n at *;generalize d++lt.af=l at *;have x:a9 r []:=a9.nil;refine Z.K func202 rfl λC=>?_;refine a0 a v (g.aO (tE a underlying244 a a a) a a ?_);refine a7 [(1000003,f)] a v ?_;let t:Nat->z:=λk=>([ax (eK (.ax lt e i b)),ax (eK (.ax lt e i b)),ax (.O [eK b]),ax (eK b),ax (eK (.ax lt e i b)),ax (eK (.ax lt e i b)),ax (.O [eK lt,eK b]),ax (eK lt),mX d,mX l,ax (eK (.ax lt e i b)),ax (eK (.ax lt e i b)),ax (eK (.ax lt e i b)),pe e i,ax (.S f 2 1 λk=>([[.int .i64 e,.int .i64 i]]:p (p N)).getD k []),.q (.aq (.r 0 2 (c l+1) (cg (c l) (a3.fn l) λk=>([[.int .i64 e,.int .i64 i]]:p (p N)).getD k []))),mX n,mX n]:p z).getD k .any
  cases lt<;>cases b<;>(
   refine g.cx b7 t (mF (Kq d (jx l) (.r 230 2 (c l+1) (cg (c l) (a3.fn l) λk=>([[.int .i64 e,.int .i64 i]]:p (p N)).getD k [])) (jx n)) 9 15 16 17) a a a a ⟨
   .aY,
   .aY,
   .aY,
   .aY,
   .aY,
   .aY,
   .aY,
   .aY,
   .aY,
   cu.ay a a a a a a (aV.dU (dB.b3 u.tocH [0] a a a a E a a a bp a bp)),
   .aY,
   .aY,
   .aY,
   .aY,
   .aY,
   cu.eT a a a a a a (eh (bh:=[]) be x (ao:=h _) a ⟨rfl,rfl,ny⟩),
   cu.eV a a a a a a (aV.dU (dB.b3 ef.tocH [0] a a a a E a a a bp a bp)),
   cu.eW a a a a a a (aV.y),v⟩ ?_
   intro z j;show g r _ _ _ _ _ (Kq d (jx l) _ (jx n) (z 9) (z 15) (z 16) (z 17));rw[j 9 cc,j 15 cc,j 16 cc,j 17 cc]
   exact g.aS [0] a ⟨a,bu.same⟩ s5)
abbrev KL:z:=ax (.S f 2 0 λ_=>[])
def Kp(a b d:an)(e g i _:Bool):p an:=match i with
 |true=>[d]
 |false=>match g with
  |true=>[b]
  |false=>match e with
   |true=>[a]
   |false=>[]
def IS:∀(n:dL),c n.af<=4000000->Z r 202 [ax (eK n),KL] [] (mX n.af) [jx n.af]
 |.nil,_=>by refine Z.K func202 rfl λC=>?_;refine a0 a v (g.aO (rZ a underlying244 a a a) a a ?_);refine a0 a v (g.bO 4 230 2 a a ?_);refine g.bg [jx []] a E ?_;exact g.aS [0] a nU (CR _)
 |.ax lt d e b,w=>by
  have t:(dL.ax lt d e b).af=lt.af++(d,e)::b.af:=rfl;have J:c lt.af+(c b.af+1)<=4000000:=M;have u:=IS lt y;have ce:=Cq (r:=r) b (lt.af++[(d,e)]) M;have I:=a3.a0 lt.af (d,e);have ef:Z r 202 [ax (eK b),.q (.aq (.r 0 2 (c lt.af+1) (cg (c lt.af) (a3.fn lt.af) λi=>([[.int .i64 d,.int .i64 e]]:p (p N)).getD i [])))] [.r 230 2 (c lt.af+1) (cg (c lt.af) (a3.fn lt.af) λi=>([[.int .i64 d,.int .i64 e]]:p (p N)).getD i [])] (mX (dL.ax lt d e b).af) [jx (dL.ax lt d e b).af]:=by
   rw[t,show lt.af++(d,e)::b.af=lt.af++[(d,e)]++b.af by simp];refine ce.eG (λO B K=>?_) a (U.Z.2 ⟨⟨by simp,I⟩,v⟩)
   match B,K with
   |[_,_],⟨F,A,D⟩=>exact⟨F,pu rfl (show U [_,_]from⟨by simp,I⟩) A,D⟩
  have ny:(c lt.af+1)*ox.bytes<=140737488355328:=by rw[show ox.bytes=16 from a];omega
  clear ce I J w;clear t;generalize(dL.ax lt d e b).af=l at *;generalize lt.af=k at *;have x:a9 r []:=a9.nil;refine Z.K func202 rfl λC=>?_;refine a0 a v (g.aO (tE a underlying244 a a a) a a ?_);refine a7 [(1000003,f)] a v ?_;let o:Nat->z:=λi=>([ax (eK (.ax lt d e b)),ax (eK (.ax lt d e b)),ax (.O [eK b]),ax (eK b),ax (eK (.ax lt d e b)),ax (eK (.ax lt d e b)),ax (.O [eK lt,eK b]),ax (eK lt),KL,mX k,ax (eK (.ax lt d e b)),ax (eK (.ax lt d e b)),ax (eK (.ax lt d e b)),pe d e,ax (.S f 2 1 λi=>([[.int .i64 d,.int .i64 e]]:p (p N)).getD i []),.q (.aq (.r 0 2 (c k+1) (cg (c k) (a3.fn k) λi=>([[.int .i64 d,.int .i64 e]]:p (p N)).getD i []))),mX l,mX l]:p z).getD i .any
  cases lt<;>cases b<;>(
   refine g.cx b7 o (mF (Kp (jx k) (.r 230 2 (c k+1) (cg (c k) (a3.fn k) λi=>([[.int .i64 d,.int .i64 e]]:p (p N)).getD i [])) (jx l)) 9 15 16 17) a a a a ⟨
   .aY,
   .aY,
   .aY,
   .aY,
   .aY,
   .aY,
   .aY,
   .aY,
   .aY,
   cu.ay a a a a a a (aV.dU (dB.b3 u.tocH [] a a a a E a a a bp a bp)),
   .aY,
   .aY,
   .aY,
   .aY,
   .aY,
   cu.eT a a a a a a (eh (bh:=[]) be x (ao:=h _) a ⟨rfl,rfl,ny⟩),
   cu.eV a a a a a a (aV.dU (dB.b3 ef.tocH [0] a a a a E a a a bp a bp)),
   cu.eW a a a a a a (aV.y),v⟩ ?_
   intro z j;show g r _ _ _ _ _ (Kp (jx k) _ (jx l) (z 9) (z 15) (z 16) (z 17));rw[j 9 cc,j 15 cc,j 16 cc,j 17 cc]
   exact g.aS [0] a ⟨a,bu.same⟩ (CR _))
end R1
section
open Go.Conc
def bc.gY(k:bc n b){bX}{L}(aE:n[d]?=h bX)(B:b.m[d]?=h L)(z:(∃W ah,bX=.cells W ah)∨∃H,bX=.J H):
  bc (n.set d .x) {b with m:=b.m.set d ⟨L.v,[]⟩}/\cP n b (n.set d .x) {b with m:=b.m.set d ⟨L.v,[]⟩}:=by
 have C:d<c n:=(cQ.1 aE).1;have K:d<c b.m:=(cQ.1 B).1;have A:∀l,(b.m.set d ⟨L.v,[]⟩)[l]?=if d=l then h ⟨L.v,[]⟩else b.m[l]?:=M;have y:∀g∈b.m.set d ⟨L.v,[]⟩,∀o∈g.al,g∈b.m:=M;have v:cP n b (n.set d .x) {b with m:=b.m.set d ⟨L.v,[]⟩}:=by
  refine⟨bB _,λ_ _ _=>rfl,λ_ _ _ E=>E,λ_ _ _ _=>rfl,λg e o j=>.inr ⟨g,y g e o j,j⟩,?_,a,a,a,a⟩;intro l r g i e;by_cases u:d=l
  .subst u;rw[aE]at i;cases i;rw[B]at e;cases e;refine⟨.x,⟨L.v,[]⟩,by grind,by grind,?_⟩;rcases z with⟨W,ah,rfl⟩|⟨H,rfl⟩<;>rfl
  exact⟨r,g,by grind,by grind,.refl _ _⟩
 refine⟨⟨k.mem,by simp[k.len],?_,?_,λg e o j=>k.lt g (y g e o j) o j,λo j=>⟨(k.own o j).1,λg e p=>(k.own o j).2 g (y g e o p) p⟩⟩,v⟩
 .intro l r g i e;by_cases u:d=l
  .subst u;rw[ip C]at i;cases i;trivial
  rw[kJ u]at i;rw[A,bm u]at e;exact(k.box l r g i e).cd v.ext k.len λo j=>⟨a,λN=>rfl⟩
 intro I J w x s t o D F;rw[A]at s t;split at s
 .grind
 split at t
 .grind
 exact k.a3 I J w x s t o D F
def bz.eZ(g:az.u=b.u){a}(j:bz n b ab a)(i:hQ 0 a=f):bz ao az ab a:=by have d:=bz.drop (aM:=[]) (bt:=n) j i;refine bz.mono (n:=[]) (b:=b.cut 0) ⟨λl p ab e=>by rw[g];exact e,λo k L aE _=>by grind⟩ (by simp[a6.cut]) d
end
section
open Go.ChangeShapes Go.WideShapes Go.ChangeAt Go.RowKit
def HG{b:au}{a:Addr}(g:b.cell? (a.add k)=h ab):b.cell? ⟨a.block,a.off+k,q⟩=h ab/\(k=0->a=⟨a.block,a.off,q⟩):=by obtain⟨e,i,d⟩:=a;cases d<;>simp only[Addr.add,aL]at*<;>grind
section
variable {H:Type}{jp:av×aa->H}{o bC:Nat}{o5:au}
def ab5(F:P.underlying o=h (.slice bC))(E:P.underlying bC=h (.int .u8))(I:P.cellsOf bC=1){j:Option Addr}{d:Nat}{u:DataW H}{x:p MemPlace}(v:DataW.Trod jp P o5 0 (λ_=>f) f o (.slice j A d) u x):
  ∃n:Nat->Int,R1.Bytes n/\A<=9223372036854775807/\bz [] (a6.bA o5) (.slice j A d) (ax (.S m 1 A (R1.sN n))):=by
 obtain⟨K,D⟩:=v;rcases open_ints F E I D with⟨g,_⟩|⟨l,k,s,C,g,_,ab,B,O,_,t,z⟩<;>simp[Value.cells]at g<;>obtain⟨rfl,rfl,rfl⟩:=g
 .exact⟨λ_=>0,λ_=>by simp,by omega,Rd.dL⟩
 simp only[dJ,maxLen]at O B;have r:∀b,0<=C.getD b 0/\C.getD b 0<=255:=λb=>by
  by_cases e:b<c C
  .have:=z _ (wZ e);simp[Lit.wf,IntKind.min,IntKind.max,IntKind.signed,IntKind.bits]at this;grind
  grind
 refine⟨λb=>C.getD b 0,r,by omega,Rd.h1 ab y (λJ=>eM h ((HG (t 0 y)).2 a)) (λ_ _=>rfl) λb e w s i=>?_⟩
 match w,i with
 |0,i=>
  cases i;exact⟨_,by simpa[a6.bA]using(HG (t b y)).1,Rd.int (r b)⟩
abbrev GV(a:Nat×(Nat->Int)):z:=ax (.S m 1 a.1 (R1.sN a.2))
def FX(a:Nat×(Nat->Int)):Prop:=R1.Bytes a.2/\a.1<=9223372036854775807
def LL{d:p uo}(C:∀g∈d,o5.heap[g.1]?=h (.cells #[g.2.2] g.2.1 (0,0)))(l:∀g∈d,∃T bC,g.2.2=.iface T bC)(r:laidOutB P=f)(I:P.readableRec o=f)(J:o<P.types.size)(A:P.underlying o=h (.slice bC))(F:P.underlying bC=h (.int .u8))(K:P.cellsOf bC=1){V:Reach}{base:Nat}:∀{j:Nat}{B:p aa}{b:p (DataW H)}{s:p MemPlace},
  DataW.TrodAll jp P o5 0 (λ_=>f) f (aY j o) B b s->(∀i k,i<j->B[i]?=h k->Value.okWide P o5 V base o k) ->
  ∃n:p (Nat×(Nat->Int)),(c n=j/\c b=j)/\(∀g∈n,FX g)/\b6 (mI d) (a6.cT d o5) B (n.map GV)/\∀t,Below o5.heap.size o5 t->DataW.TrodAll jp P t 0 (λu=>decide (u<o5.heap.size)) f (aY j o) B b s
 |0,B,b,s,e,_=>by obtain⟨rfl,rfl,rfl⟩:=trodAll_nil e;exact⟨[],⟨a,a⟩,by simp,v,λ_ _=>rfl⟩
 |j+1,B,b,s,e,E=>by
  obtain⟨k,B,Z,b,s,ad,rfl,rfl,rfl,⟨w,x⟩,R⟩:=trodAll_cons e;obtain⟨X,U,D,rfl⟩:=okWide_slice A (E 0 k y rfl);obtain⟨u,M,N,S⟩:=ab5 A F K ⟨w,x⟩;obtain⟨n,k1,z,Q,G⟩:=LL C l r I J A F K R λi k W e=>E (i+1) k y e;refine⟨(U,u)::n,by simp[k1],by simp only[List.forall_mem_cons];exact⟨⟨M,N⟩,z⟩,⟨Rd.cT C l (λab i Y e=>?_) S,Q⟩,λt O=>trodAll_cons_mk (Below.trod r I J ⟨w,x⟩ O (DataW.trod_lt w _ _ _ x)) (G t O)⟩
  match i,e with
  |0,e=>cases e;exact⟨_,_,a⟩
end
noncomputable def aaj(P:aI)(e:p (String×DataW Unit))(d j i:Nat)(os:Os):au:=
 let a:=World.laidAll P os (e.filter λk=>k.2.handleName?.isNone)
 {a with heap:=a.heap.modify d λ
   |.cells _ b l=>.cells #[.iface j (.agg #[typeHandle P i])] b l
   |g=>g}
def aal{N:Checked}{I pp gP hD i7 tU tT:Nat}(ai:∀(x w:av×aa) (Q:p (Nat×(Nat->Int))),c Q=k->(∀g∈Q,FX g)->Z (aj.aV N.prog) I (Q.map GV) (mI [(pp,i7,.iface x.1 x.2),(gP,i7,.iface w.1 w.2),(hD,tU,.iface tT (.agg #[typeHandle N.prog i7]))]) (bj f) (mI [(pp,i7,.iface x.1 x.2),(gP,i7,.iface w.1 w.2),(hD,tU,.iface tT (.agg #[typeHandle N.prog i7]))])){fn:Func}{C T X:Nat}{b:ChangeSpec}{s:OpenClaim}{os:Os}(ba:os.Started){H:Type}{jp:av×aa->H}(L:N.prog.funcs[I]?=h fn)(aV:fn.params=(aY k C).toArray)(aG:fn.resultTypes=#[X])(ak:ownKnob N.prog.godebug=q)(R:laidOutB N.prog=f)(aH:N.prog.readableRec C=f)(aJ:C<N.prog.types.size)(an:N.prog.underlying C=h (.slice T))(ao:N.prog.underlying T=h (.int .u8))(aq:N.prog.cellsOf T=1)(aB:N.prog.underlying X=h .bool)(aE:N.prog.inits.idxOf? I=q)(aK:varsRowed N.prog b.vars=f)(aI:∃aX a0,b.vars=[aX,a0])(a6:∀(F:p (DataW H)) (j i:DataW H),c F=k->b.fn H (F++[j,i])={results:=[.lit (.bool f)],args:=F,vars:=[j,i]})(ES:∃(e:au) (tape:Tape) (v:Input),e.os=os/\(e.forCall tape v).Shaped N.prog/\v.vars=[]/\Input.okWide N.prog (e.forCall tape v) .any e.heap.size I v /\
   ((b.pre jp N.prog fn s.domain m (e.forCall tape v).memory v.args/\laidMetH N.prog s.laid (e.forCall tape v).memory)/\sizedMet jp N.prog fn (OpenSpec.ofChange b) m (e.forCall tape v).memory v.args)/\({}:Assume).holds N.prog (lone (Frame.enter N.prog I v.args .normal) [] (e.forCall tape v))){J0 J1 JZ:Nat}{aN lr S aP aQ:String}{ah xT y:DataW Unit}{aR:Array (String×av)}{aW:p UInt8}(az:(s.laid.filter λg=>g.2.handleName?.isNone)[J0]?=h (aN,.iface aP ah))(aA:(s.laid.filter λg=>g.2.handleName?.isNone)[J1]?=h (lr,.iface aQ xT))(ax:(s.laid.filter λg=>g.2.handleName?.isSome)[JZ]?=h (S,y))(U:[aN,lr,S].map N.prog.globalNamed=[h pp,h gP,h hD])(Y:[pp,gP].map (λW=>(N.prog.globals[W]?).map (·.type))=[h i7,h i7])(aT:N.prog.underlying i7=h (.interface aR))(D:[pp,gP,hD].map (λW=>(decide (W<N.prog.globals.size),((begin N.prog (λ_ _=>0) default).world.heap[W]?).bind Obj.row?))=[(f,h (#[.nilIface],i7)),(f,h (#[.nilIface],i7)),(f,h (#[.nilIface],tU))])(ad:y.funcsIn?=q)(ae:y.handleName?=h aW)(ag:(N.prog.cutTypes.find? (·.1== "internal/reflectlite.rtype")).map (·.2)=h tT)(a:((aC N.prog.types.size).filter λC=>N.prog.rowNamed C aW)=[i7])(a8:[pp,gP,hD].Nodup):
  ReturnsInLeavingWide {} N os I .any (λe args=>(b.pre jp N.prog fn s.domain m e args/\laidMetH N.prog s.laid e)/\sizedMet jp N.prog fn (OpenSpec.ofChange b) m e args) (b.post jp N.prog fn m f m m):=by
 refine ab7 (r:=λe _=>laidMetH N.prog s.laid e) (λ_ _ _ aD u=>u.of_heap aD) ak ba L ES λV base args l K J t M n A=>?_;have a5:=M;obtain⟨a1,a2,aU,ab,rfl,_,_⟩:=M;simp only[mq,List.map_nil,List.cons.injEq,a_,lI,bA]at U Y D;obtain⟨x,a3⟩:=Kd A n (b_ az) U.1 Y.1 aT D.1.1 D.1.2;obtain⟨w,z⟩:=Kd A n (b_ aA) U.2.1 Y.2 aT D.2.1.1 D.2.1.2;have P:∀g∈([(pp,i7,.iface x.1 x.2),(gP,i7,.iface w.1 w.2),(hD,tU,.iface tT (.agg #[typeHandle N.prog i7]))]:p uo),V.heap[g.1]?=h (.cells #[g.2.2] g.2.1 (0,0)):=by simp only[List.forall_mem_cons];exact⟨a3,z,aak A n (b_ ax) ad ae U.2.2 ag a D.2.2.1 D.2.2.2,by simp⟩
 have a4:∀g∈([(pp,i7,.iface x.1 x.2),(gP,i7,.iface w.1 w.2),(hD,tU,.iface tT (.agg #[typeHandle N.prog i7]))]:p uo),∃a7 T,g.2.2=.iface a7 T:=E;simp only[aV]at aU t;obtain⟨Q,k1,aL,aM,aO⟩:=LL P a4 R aH aJ an ao aq aU λa' aS aF u=>t a' C aS (by simp[aF]) wF;refine bl.jh (ai x w Q k1.1 aL).tocH aE a8 P aM λ_ aS B o d F=>?_;have o:Rd B.u aS (.bool f):=o;cases o;have O:Below V.heap.size V (B.a.at F):=⟨d.os,d.tape,d.output,d.size,d.block⟩;obtain⟨aX,a0,a9⟩:=aI;obtain⟨j,i,rfl⟩:∃j i,K=[j,i]:=by
  rw[a9]at ab
  match K,ab with
  |[j,i],_=>exact⟨j,i,rfl⟩
 have G:=a6 l j i k1.2;have ar:=aO _ O;have aw:DataW.TrodAll jp N.prog (B.a.at F) V.heap.size (λ_=>m) m [X] [.bool f] [.lit (.bool f)] []:=trodAll_mk1 (shut_bool aB _);refine⟨l,[j,i],a1++a2,[],a1,a2,a5,?_,?_,?_,O.frame _,λu=>by cases u⟩
 .rw[show(b.fn H (l++[j,i])).results=_ from eM _ G,aG];exact aw
 .rw[show(b.fn H (l++[j,i])).args=_ from eM _ G,aV];exact ar
 rw[show(b.fn H (l++[j,i])).vars=_ from eM _ G];exact Below.trodVars R O aK ab
end
namespace R1
section
variable {r:aj V}
def ld(a:bD):p bD:=if fJ a then cl a else[]
def M'(b:bD)(d:Nat)(a:p bD):Prop:=∃e,iA b (c b) 0=a++iA b e d/\c b<=d+e/\c a<=d
def MS:bM r 72 (dm eE (λa=>bj (fJ a)) λ_=>[]):=.bb λa _=>Jc a
def G5:bL:=λargs a=>match args,a with
 |[.q (.aq (.c (.V b)))],[]=>h (ax (G4 b),[],[])
 |_,_=>q
def adN:bM r 243 G5:=by intro args i b d a e g;unfold G5 at e;grind[Uk]
def Uh(o):Z r 197 [b1 o] [] (bS.S (ld o)) []:=by
 refine(bl.e6 (ι:=Unit) (ao:=λ_=>[]) (res:=λ_=>bS.S (ld o)) func197 rfl rfl rfl λO=>?_).toZ;have n:a9 r [(72,dm eE (λK=>bj (fJ K)) λ_=>[])]:=.cons MS .nil;refine de.seq (b0.bA (g.aW ?_));refine ca n a v (de.seq (b0.bA (g.aW ?_)));cases I:fJ o with
 |false=>
  refine a' n [(8,f)] a sj (g.ret ⟨(),bW.zero a ?_⟩);simp[ld,I]
 |true=>
  have z:=I;simp[fJ,cp,bA]at z;refine a' n [(8,m)] a sj (de.seq (b0.bA (g.aW ?_)));refine ca n a v (de.seq (de.seq (b0.bA (g.aW (g.cm 1 0 9 1 (bS.fn []) a a ?_)))));refine ca (.cons adN .nil) a v (de.block ?_);refine de.rangeFunc (pb:=e7 [.O [.V o]]) (bY.callee a) (Ul (ad:=p bD) o z.2 y (λ_=>.cells 9 [.c (.V o)]) (λb=>.cells 107 [.r 2 1 (c b) (bS.fn b)]) (λb=>.r 9 1 (c b) (bS.fn b)) (M' o) [] ?_ (λo=>⟨by simp,by simp,by simp⟩) ?_) (λk=>⟨a,by simp⟩) λk=>⟨.normal,a,?_⟩
  .exact⟨c o,by simp,by omega,by simp⟩
  .rintro d b t j;have A:=rJ o d t;refine iD.intro (w:=q) a a a a (g.aW ?_);refine a0 a v ⟨a,a,g.aW ?_⟩;refine a0 a ?_ ?_
   .obtain⟨i,_,_,C⟩:=j;have M:=A.1;have u:=A.2.1;refine⟨a,a,?_,Int.natCast_nonneg _,Int.ofNat_le.2 (Nat.le_of_lt M),Int.ofNat_le.2 u⟩;show(c b+1)*16<=_;omega
   have F:M' o (en o d) (b++[(o.drop d).take (en o d-d)]):=by
    obtain⟨i,l,J,C⟩:=j;obtain⟨e,rfl⟩:∃e,i=e+1:=⟨i-1,by omega⟩
    refine⟨e,?_,by omega,by grind⟩;rw[l];simp[iA];grind
   refine⟨a,a,⟨_,F⟩,jV a ?_⟩;have s:mA o (h (d:Int)) (h (en o d:Int))=(o.drop d).take (en o d-d):=NY;have B:bu (c b+1) (cg (c b) (bS.fn b) λk=>[[N.V (mA o (h (d:Int)) (h (en o d:Int)))]].getD k []) (bS.fn (b++[(o.drop d).take (en o d-d)])):=by rw[s];exact c1.a0 bS b _
   have x:c b+1=c (b++[(o.drop d).take (en o d-d)]):=E;refine U.Z.2 ⟨by simp,U.Z.2 ⟨U.Z.2 ⟨⟨x,B⟩,v⟩,U.Z.2 ⟨⟨x,B⟩,U.Z.2 ⟨a,v⟩⟩⟩⟩
  obtain⟨b,i,l,J,C⟩:=k;have D:iA o i (c o)=[]:=by cases i<;>simp[iA]
  rw[D,h5]at l;have s:ld o=b:=by simp[ld,I,dJ,cl,l]
  rw[s];show de r _ _ _ _ _;refine b0.bA (g.aW ?_);refine a0 a v (g.ret ⟨(),bW.zero a ?_⟩);simp
def EB:bM r 197 (dm eE (λa=>bS.S (ld a)) λ_=>[]):=.bb λa _=>Uh a
def adZ:bM r 233 (er (e3 bS) eE (λa _=>b1 a.flatten) λa d=>[d=[],c a.flatten<=140737488355328]):=.bn λa d b=>by obtain⟨rfl,b⟩:=b;exact Vs a b
def xv:bL:=er (e3 bS) (e3 bS) (λa b=>bj (a==b)) λ_ _=>[]
def adP:bM r 234 xv:=.bn λa b _=>Uy a b
def Uj(d)(u:c d.flatten<=140737488355328):Z r 182 [bS.S d] [] (iQ (iN d)) []:=by
 refine Z.K func182 rfl λi=>?_;have e:a9 r [(233,er (e3 bS) eE (λd _=>b1 d.flatten) λd b=>[b=[],c d.flatten<=140737488355328]),(72,dm eE (λb=>bj (fJ b)) λ_=>[]),(234,xv),(197,dm eE (λb=>bS.S (ld b)) λ_=>[])]:=.cons adZ (.cons MS (.cons adP (.cons EB .nil)));have Cf:bS.af (c d) (bS.fn d)=d:=bS.E d;cases x:fJ d.flatten with
 |false=>
  refine a' e [(8,m),(9,f),(16,f)] a ?_ (g.aw a ?_)
  .simp only[U,Cf,x,bS.U,eq_self,bb,a_];grind
  simp[iN,x]
 |true=>
  cases j:(cl d.flatten==d)with
  |false=>
   refine a' e [(8,f),(9,m),(14,m),(16,f)] a Ou (g.aw a ?_);simp[iN,j]
  |true=>
   refine a' e [(8,f),(9,m),(14,f),(16,m)] a Ou (g.aw a ?_);simp[iN,x,j,Cf]
def JD{a:p (Int×Int)}(b:e<c a):a.getD e (0,0)∈a:=M
def i_(b:p (Int×Int)):dL:=b.foldl (λd a=>d.put a.1 a.2) .nil
theorem aeF(b:p (Int×Int))(a:Int×Int):i_ (b++[a])=(i_ b).put a.1 a.2:=by unfold i_;grind
def zx{d:p (Int×Int)}(a:w<c d):i_ (d.take (w+1))=(i_ (d.take w)).put (d.getD w (0,0)).1 (d.getD w (0,0)).2:=by grind[List.take_add_one,aeF]
abbrev qJ(a:p (Int×Int)):z:=ax (.S m 1 1 λb=>([[.S m 2 (c a) (a3.fn a)]]:p (p N)).getD b [])
abbrev Em(a:Int×Int):an:=.cells 230 [.c (.int .i64 a.1),.c (.int .i64 a.2)]
def JA(a:p (Int×Int)):Nat->bJ
 |0=>[(3,ax .bd),(8,qJ a),(9,S 1),(10,S 0),(14,a3.S a),(15,S (c a)),(16,S 0)]
 |b+1=>[(3,.q (.aq (.aR 1))),(8,qJ a),(9,S 1),(10,S 0),(14,a3.S a),(15,S (c a)),(16,S (b+1:Nat))]
def ac2(a:p (Int×Int)):Nat->p an
 |0=>[]
 |b+1=>[Em (a.getD 0 (0,0)),.J (ez mN (i_ (a.take (b+1))))]
def Ys(a:p (Int×Int)):Nat->bJ
 |0=>[(3,ax .bd),(8,qJ a),(9,S 1),(10,S 0)]
 |b+1=>match a with
  |[]=>[(3,ax .bd),(8,qJ a),(9,S 1),(10,S (b+1:Nat))]
  |_::_=>[(3,.q (.aq (.aR 1))),(8,qJ a),(9,S 1),(10,S (b+1:Nat))]
def ac3(b:p (Int×Int)):Nat->p an
 |0=>[]
 |_+1=>match b with
  |[]=>[]
  |a::d=>[Em a,.J (ez mN (i_ (a::d)))]
def Jd(d:p (Int×Int))(K:c d<=4000000)(C:∀b∈d,a8 .i64 b.1/\a8 .i64 b.2):Z r 196 [qJ d] [] (ax (eK (i_ d))) []:=by
 refine Z.K func196 rfl λI=>?_;refine a0 a v (g.hA 0 (λb=>b<=1) (Ys d) (ac3 d) (λb=>1-b) 0 a E a v a y ?_);intro b l;rcases b with _|b
 .refine a7 [(11,f)] a E (g.hA 0 (λw=>w<=c d) (JA d) (ac2 d) (λw=>c d-w) 0 a E a v a y ?_);intro w J;rcases w with _|w
  .by_cases k:0<c d
   .have l:=C _ (JD k);have i:=zx k;have j:a9 r [(242,k' [ax .bd,pe (d.getD 0 (0,0)).1 (d.getD 0 (0,0)).2] [] (.q (.aq (.aR 0))) [.J (ez mN (.ax .nil (d.getD 0 (0,0)).1 (d.getD 0 (0,0)).2 .nil))])]:=.cons (l' (x8 _ _ l.1 l.2 .nil)) .nil;refine bg j [(17,f)] a Qr (g.fu 2 1 y a E a a a ?_ a k M);exact bH
   obtain rfl:d=[]:=jI y;refine bR [(17,m)] a E (g.fH a a ?_);refine cx a lA (g.fu 0 1 y a ?_ a a a v a y cc);simp
  obtain⟨e,o,t,s,i⟩:∃x z A B,i_ (d.take (w+1))=.ax x z A B:=by rw[zx y];exact y4 _ _ _
  show g r _ _ _ _ (JA d (w+1)) [Em (d.getD 0 (0,0)),.J (ez mN (i_ (d.take (w+1))))];by_cases k:w+1<c d
  .have l:=C _ (JD k);have D:=zx k;rw[i]at D⊢;have j:a9 r [(242,k' [.q (.aq (.aR 0)),pe (d.getD (w+1) (0,0)).1 (d.getD (w+1) (0,0)).2] [.J (ez mN (.ax e o t s))] (.q (.aq (.aR 0))) [.J (ez mN ((dL.ax e o t s).put (d.getD (w+1) (0,0)).1 (d.getD (w+1) (0,0)).2))])]:=.cons (l' (x8 _ _ l.1 l.2 (.ax e o t s))) .nil;refine bg j [(17,f)] a Qr (g.fu 2 (w+2) y a E a a a ?_ a k M);simp only[U.Z,U,bb,a_];rw[D]
  have n:w+1=c d:=y;rw[n,c8]at i
  match d,n,i with
  |b::u,n,i=>
   rw[n,c8,i];refine bR [(17,m)] a E (g.fH a a ?_);refine cx a lA (g.fu 2 1 y a E a a a ?_ a y cc);exact bH
 cases d with
 |nil=>
  refine bR [(11,m)] a bw (g.fH a a ?_);exact cx a v (g.aw a nU)
 |cons F u=>
  refine bR [(11,m)] a bw (g.fH a a ?_);refine cx a v (g.gn 2 1 a a ?_);obtain⟨e,o,t,s,i⟩:∃x z A B,i_ (F::u)=.ax x z A B:=by have:=zx (d:=F::u) (w:=c u) E;rw[F' E]at this;rw[this];exact y4 _ _ _
  rw[i];exact g.aw a
end
section
open Go.Proofs Go.Conc Go.Conc.Lib
open Go.ConcN (WgLive PayAt Has RW AtR0)
open Go.ConcR (KK WgAt stA smA rd wr mk Payload DC0)
noncomputable def Sy:Code:=ns (g2 (g2 (g2 rD)))
noncomputable def Hu:Code:=ns Sy
noncomputable def Bp:Code:=g2 (g2 (g2 rD))
def Sv:Bp=.seq (.seq Hu (.block 0 (.loop hy))) lM:=b3
section
variable {dO:p an}{cI:a6}{F:bJ}{n:p an}{x:Act}{b:a6}{br:ak->a6->Prop}
def dY.goes{bo}{d:ak}:∀(o:Nat)(a:ak)b,dY dO cI F n x b->WgLive 291 bo b.a->Goes V f (fE 291 bo) DC0 (λa _=>a=d) o a b.a ->
  (∀g,dY dO cI F n x g->cd (aj.aV V) br d g)->cd (aj.aV V) br a b
 |0,a,b,s,_,i,p=>by obtain rfl:a=d:=i b.a (.refl _);grind
 |o+1,a,b,s,v,i,p=>by
  rcases i with i|⟨w,i⟩
  .obtain rfl:a=d:=i b.a (.refl _);grind
  refine .next w λg r=>?_;have k:=s.rely r.1;obtain⟨A,B⟩:=r.2;have t:WgLive 291 bo g.a:=bH;have e:=i g.a (λ_=>t);cases l:aq V f a g.a with
  |go j z u=>
   rw[l,goes_go]at e;obtain⟨⟨rfl,rfl⟩,y⟩:=e;exact⟨j,g,#[],l,.aZ k.ba,dY.goes o j g k t y p⟩
  |_=>rw[l]at e;exact e.elim
def R0{n}{b}(g:∀e∈n,e=.x){bh}{a}(d:jc n b bh a):bh=[]:=by
 cases bh with
 |nil=>rfl
 |cons i bh=>
  cases a with
  |nil=>exact d.elim
  |cons j a=>
   have:=g _ (b_ d.1.1);cases this
end
section
variable {i:Int}{Y:p cb}{bv:p Int}{N:Nat}{ag:p aa}
variable (i Y bv N)in
def yZ:bJ:=[(2,aB.S bv),(3,aH 0 0),(4,aH 1 0),(8,aH 3 0),(9,aH 4 0)]
variable (i Y bv N ag)in
def pI:p an:=[.cells 3 [.c (.int .i64 i)],.cells 23 [.c (.S m 2 (c Y) (a2.fn Y))],.J (cn 293 2 (.row N (c bv)) (c bv) ag),.cells 283 [.c (.val (.slice (h ⟨N,0,q⟩) (c bv) (c bv)))],.cells 291 [.c (.int .u64 0),.c (.int .u32 0)]]
variable (i Y bv)in
def EQ(a b:Nat):aa:=if b=0 then .string ⟨((df i Y (bv.getD a 0)).getD []).toArray⟩else .bool (df i Y (bv.getD a 0)).isSome
variable (i Y bv)in
def nk:p aa:=bv.flatMap λa=>[.string ⟨((df i Y a).getD []).toArray⟩,.bool (df i Y a).isSome]
variable (i Y bv N)in
def r6:p an:=[.x,.x,.J (cn 293 2 (.row N (c bv)) (c bv) (nk i Y bv)),.x,.x]
def abf{b:aj V}:b0 b 45 Hu (us ((18,aB.S bv)::(19,S (c bv))::(20,S 0)::yZ bv) (pI i Y bv N ag)) (yZ bv) (pI i Y bv N ag):=by refine g.aW ?_;refine a0 a v ⟨a,eG a ?_,a⟩;simp
theorem Ju:c (nk i Y bv)=c bv*2:=by
 unfold nk;induction bv with
 |nil=>rfl
 |cons b d a=>grind
def CV:∀{bv:p Int}{l e:Nat},l<c bv->e<2->(nk i Y bv)[2*l+e]?=h (EQ i Y bv l e)
 |[],l,e,g,_=>by grind
 |b::d,0,e,_,a=>by
  match e,a with
  |0,_=>rfl
  |1,_=>rfl
 |b::d,l+1,e,g,a=>by have:=CV (bv:=d) (l:=l) (e:=e) M a;unfold nk at this⊢;rw[sx,hn M];rw[show 2*(l+1)+e - [Value.string ⟨((df i Y b).getD []).toArray⟩,Value.bool (df i Y b).isSome].length=2*l+e by grind];exact bH
def _root_.Go.AM.bY.seen{D j}{d}{n}{b}{F}{x}(a:bY D n b F x)(i:bz n b (x.tmps.getD j K) d):bY D n b ((j,d)::F) x:=by
 refine⟨a.size,a.defers,λe=>?_⟩;simp only[look];cases g:af j e with
 |false=>exact a.aJ e
 |true=>grind[Nat.eq_of_beq_eq_true]
abbrev vL(a b:Nat):bJ:=[(8,ax (.O [.val (.slice (h ⟨b,0,q⟩) a a)]))]
variable (i Y bv N)in
abbrev La:bJ:=(8,ax (.O [.val (.slice (h ⟨N,0,q⟩) (c bv) (c bv))]))::(4,ax (.O [.S m 2 (c Y) (a2.fn Y)]))::(3,ax (.O [.int .i64 i]))::(18,aB.S bv)::(19,S (c bv))::(20,S 0)::[(9,aH 4 0)]
def Yp(bo:bM (aj.c' V) 231 (ni i)){aN:fw}(cj:c bv<=4000000)(ar:de (aj.aV V) 45 oc aN (vL (c bv) N) (r6 i Y bv N)):de (aj.aV V) 45 Bp aN (yZ bv) (pI i Y bv N ag):=by
 intro Z b3 cd bq bO aw ah cO aM X ca;have j:dY (pI i Y bv N ag) Z (yZ bv) (pI i Y bv N ag) b3 Z:=⟨cd,bq,.refl _ _⟩;refine j.ctl a (λbQ=>zf Sv) λb j=>?_
 refine j.ctl a (λbQ=>pH) λb j=>?_;refine j.code aM abf λa7 b j=>?_;obtain⟨bI,w1,ba,a1,aa⟩:=bY.freeze 3 0 (W:=3) (ah:=[.c (.int .i64 i)]) (gK:=[.int .i64 i]) rfl rfl rfl j.bX j.ba;refine .aU (.of j.ba a1 w1 (aa.too5 j.ba)) ?_;obtain⟨bJ,w2,bb,O,ab⟩:=bY.freeze 4 1 (W:=23) (ah:=[.c (.S m 2 (c Y) (a2.fn Y))]) (gK:=[.S m 2 (c Y) (a2.fn Y)]) rfl rfl rfl ba a1;refine .aU (.of a1 O w2 (ab.too5 a1)) ?_;obtain⟨cu,w3,f3,S,ae⟩:=bY.freeze 8 3 (W:=283) (ah:=[.c (.val (.slice (h ⟨N,0,q⟩) (c bv) (c bv)))]) (gK:=[.val (.slice (h ⟨N,0,q⟩) (c bv) (c bv))]) rfl rfl rfl bb O;refine .aU (.of O S w3 (ae.too5 O)) ?_;have j:dY (pI i Y bv N ag) Z (La i Y bv N)
   [.x,.x,.J (cn 293 2 (.row N (c bv)) (c bv) ag),.x,.cells 291 [.c (.int .u64 0),.c (.int .u32 0)]] a7 cu:=
  ⟨f3.le (eG a E),S,j.a9.trans ((aa.too5 j.ba).trans ((ab.too5 a1).trans (ae.too5 O)))⟩
 clear aa ab ae ba bb f3 a1 O S;refine j.ctl a (λbQ=>zb) λb j=>?_;refine j.ctl a (λbQ=>L9) λb j=>?_;have aQ:=j.ba.len;simp[fp,gI]at aQ;obtain⟨z,aX⟩:∃L,b.m[2]?=h L:=⟨_,bK y⟩
 obtain⟨aA,a4⟩:∃L,b.m[4]?=h L:=⟨_,bK y⟩
 obtain⟨cR,bg,an,bl,cD⟩:=j.ba.box 2 _ z rfl aX;obtain⟨cw,cK,aP,cb⟩:=cn.lookup bg;obtain⟨aD,_,cJ,_,_,_⟩:=bg;have P:=(bl N).2 M;have av:=an N _ aP;obtain⟨o,B,b',cz,bD,cE⟩:=j.ba.box 4 _ aA rfl a4;have aS:B=[.int .u64 0,.int .u32 0]:=by
  match B,bD with
  |[],aF=>exact aF.elim
  |[_],aF=>exact aF.2.elim
  |_::_::_::_,aF=>exact aF.2.2.elim
  |[c0,a0],aF=>
   have r0:=aF.1;have x:=aF.2.1;cases r0;cases x;rfl
 subst aS;have bA:N≠o:=M;have bC:a7.tmps.getD 9 K=.pointer (h ⟨o,0,q⟩):=by obtain⟨_,L,dV,aU,aV,cY⟩:=j.bX.aJ 9;grind
 obtain⟨bd,cv⟩:=j.ba.gY (d:=2) rfl aX (.inr ⟨_,rfl⟩);have aK:(b.m.set 2 ⟨z.v,[]⟩)[4]?=h aA:=M;obtain⟨bf,t2⟩:=bd.gY (d:=4) (bX:=.cells 291 [.c (.int .u64 0),.c (.int .u32 0)]) rfl aK (.inl ⟨_,_,rfl⟩);generalize cH:({b with m:=(b.m.set 2 ⟨z.v,[]⟩).set 4 ⟨aA.v,[]⟩}:a6)=j0 at bf t2;have cB:j0.m=(b.m.set 2 ⟨z.v,[]⟩).set 4 ⟨aA.v,[]⟩:=M;have aG:j0.u=b.u:=M;have F:j0.a=b.a:=M;have aH:j0.own=b.own:=M;have aB:=bf;have oR:=(cv.too5 j.ba).trans (t2.too5 bd);have aT:j0.m[2]?=h ⟨z.v,[]⟩:=M;have bP:∀L∈j0.m,∀l∈L.al,∃d,d≠2/\d≠4/\b.m[d]?=h L:=by grind[List.mem_iff_getElem?]
 have cL:=j.ba.lt z (b_ aX) N P;have cM:=j.ba.lt aA (b_ a4) o M;have b1:nW N j0:=⟨by rw[aH];exactλU=>(j.ba.own N U).2 z (b_ aX) P,λL g n=>by obtain⟨d,bG,bH,T⟩:=bP L g N n;exact bG (j.ba.a3 d 2 L z T aX N n P),λs=>by rw[aG];grind,by grind⟩
 have H:nW o j0:=⟨by rw[aH];exactλU=>(j.ba.own o U).2 aA (b_ a4) M,λL g n=>by obtain⟨d,bG,bH,T⟩:=bP L g o n;exact bH (j.ba.a3 d 4 L aA T a4 o n M),λs=>by rw[aG];grind,by grind⟩
 have cS:bY 45 e9 j0 (ic i Y bv N o 0) a7:=by have r:=j.bX.mono oR j.ba.len;have cq:bY 45 e9 j0 ((9,cN (.pointer (h ⟨o,0,q⟩)))::La i Y bv N) a7:=r.seen (by rw[bC];exact Rd.val a);exact cq.le (eG a E)
 have cQ:(ag++cw).toArray.size=2*c bv:=M;have aO:∀l,(b.own l∨∃L∈b.m,l∈L.al)->l<b.a.heap.size:=λl n=>n.elim (λr=>(j.ba.own l r).1) λ⟨L,g,r⟩=>j.ba.lt L g l r;refine .dj (ad:=λai az=>∃t A,dY (pI i Y bv N ag) Z (vL (c bv) N) (r6 i Y bv N) t az/\WgLive 291 o az.a/\Goes V f (fE 291 o) DC0 (λcC _=>cC=G (bO.M (t.put (h 28) (.tuple #[])) (.inRegion oJ []::.code oc::aw)) ah) A ai az.a)
  (k4.gm (k:=c bv) (ty:=291) (val:=EQ i Y bv) (D:=2*c bv) (cI:=j0) 2 y o N y bA (.of j.ba aB F oR) a ⟨z,b_ aX,P⟩ ⟨aA,b_ a4,by grind⟩ aO ?_ cz ⟨_,av,cQ⟩ ?_) ?_
 .rintro l (rfl|rfl)
  .exact⟨b1.own,b1.m,b1.u⟩
  exact⟨H.own,H.m,H.u⟩
 .intro p bj bh bk;subst bj bh;refine⟨F9 i Y bv p e9 j0 bO aw ah,wH i Y bv p e9 j0 bO aw ah,λcC b n=>R6 H X n,?_,?_⟩
  .refine acW bo bk H X aM cc cj (λe cf=>rfl) (λe cf=>rfl) (c bv) (bB _) a7 j0 ⟨by grind,aB,.refl _ _⟩ ⟨_,_,by rw[F];exact cz⟩
  .rintro ai az ⟨t,⟨w,ao⟩,A,R⟩ bx aq Q cg ak;obtain⟨cT,cU,cV⟩:=ak p.aj (.inl rfl);obtain⟨a8,au,ck⟩:=aq;have bn:a8=(nk i Y bv).toArray:=by
    apply Array.ext_getElem?;intro s;have a':(nk i Y bv).toArray[s]?=(nk i Y bv)[s]?:=E;rw[a'];rcases dZ s (2*c bv)with U|U
    .have aU:=Q (s / 2) y (s % 2) y;have aV:=CV (i:=i) (Y:=Y) (bv:=bv) (l:=s / 2) (e:=s % 2) y y;rw[show 2*(s / 2)+s % 2=s by omega]at aU aV;rw[aV];simpa[aL,au]using aU
    grind[Ju]
   subst bn;have br:=w.ba.len;obtain⟨cx,ax,cm,cX,cp⟩:=w.a9.box 2 .x ⟨z.v,[]⟩ rfl aT;have cl:ax.v=.nilFunc:=by cases cm;exact(show ax.v=z.v from cp).trans aD
   have cy:∀(d:Nat) bX,e9[d]?=h bX->bX=.x:=by
    intro d bX aE
    match d,aE with
    |0,aE|1,aE|2,aE|3,aE|4,aE=>cases aE;rfl
   have cA:∀d,(az.m.set 2 ⟨.nilFunc,[p.aj]⟩)[d]?=if d=2 then h ⟨.nilFunc,[p.aj]⟩else az.m[d]?:=M;have bR:∀L∈az.m.set 2 ⟨.nilFunc,[p.aj]⟩,L=⟨.nilFunc,[p.aj]⟩∨L∈az.m:=λL g=>by grind
   have bp:bc (r6 i Y bv p.aj) {az with m:=az.m.set 2 ⟨.nilFunc,[p.aj]⟩}:=by
    refine⟨w.ba.mem,by simp[br,r6],?_,?_,?_,λl n=>⟨(w.ba.own l n).1,λL g a5=>?_⟩⟩
    .intro d bX L aE g;rw[cA]at g;by_cases u:d=2
     .subst u;rw[bs a]at g;cases g;cases aE;refine⟨λC=>if C=p.aj then h (.cells (nk i Y bv++[]).toArray 293 (0,0))else q,⟨a,?_,Ju,bB _,by omega,[],by grind,a⟩,λC cW J=>?_,λC=>?_,λC J s=>?_⟩
      .intro l n;simp only[nk,rr]at n;obtain⟨_,_,n⟩:=n;simp only[e4,sz,or_false]at n;rcases n with rfl|rfl<;>rfl
      .by_cases u:C=p.aj
       .subst u;simp only[dJ]at J;cases J;exact bw
       grind
      .by_cases u:C=p.aj<;>simp[u]
      grind
     .match d,aE,u with
      |0,aE,_|1,aE,_|3,aE,_|4,aE,_=>cases aE;trivial
      |2,_,u=>grind
    .intro d bF L bU g I l n bE;rw[cA]at g I;by_cases u:d=2
     .grind
     rw[bm u]at g;by_cases b4:bF=2
     .grind
     rw[bm b4]at I;exact w.ba.a3 d bF L bU g I l n bE
    .intro L g l n;rcases bR L g with rfl|g
     .grind
     exact w.ba.lt L g l n
    rcases bR L g with rfl|g
    .grind
    exact(w.ba.own l n).2 L g a5
   have aR:dg [.x,.x,.J (cn 293 2 (.row p.aj (c bv)) (c bv) ag),.x,.cells 291 [.c (.int .u64 0),.c (.int .u32 0)]] b (r6 i Y bv p.aj) {az with m:=az.m.set 2 ⟨.nilFunc,[p.aj]⟩}:=by
    have r:=w.a9;refine⟨by have:=r.size;grind,λl n=>by have:=r.a7 l M;grind,λl s c5 n=>r.mem l s c5 M,λl n cG s=>?_,λL g l n=>?_,?_,by rw[r.os,F],by rw[r.tape,F],by rw[r.output,F],by rw[r.own,aH]⟩
    .rw[r.bC l M (λL g a5=>by
      obtain⟨d,_,_,T⟩:=bP L g l a5
      grind) s,aG]
    .rcases bR L g with rfl|g
     .grind
     rcases r.bU L g l n with x|⟨bV,x,aW⟩
     .grind
     obtain⟨d,_,_,T⟩:=bP bV x l aW;grind
    intro d bX L aE g;obtain⟨a3,bW,x,aW,cr⟩:=oR.box d bX L aE g;obtain⟨bS,bZ,a0,c1,nM⟩:=r.box d a3 bW x aW;have a9:=cy d a3 x;have a_:=cy d bS a0;subst a9 a_;by_cases u:d=2
    .subst u;cases aE;rw[aX]at g;cases g;exact⟨_,⟨.nilFunc,[p.aj]⟩,a,by grind,aD.symm⟩
    refine⟨.x,bZ,?_,by grind,cr.trans nM⟩
    match d,a0,u with
    |0,_,_|1,_,_|3,_,_|4,_,_=>rfl
    |2,_,u=>grind
   refine⟨{az with m:=az.m.set 2 ⟨.nilFunc,[p.aj]⟩},⟨t,A,⟨⟨w.bX.size,⟨[],?_⟩,λcZ=>?_⟩,bp,j.a9.trans aR⟩,ao,R⟩,rfl,bx,λcP bN cF=>⟨bN.own,λl n L g a5=>?_,bN.u,bN.lt⟩⟩
   .obtain⟨nF,bu⟩:=w.bX.defers;rw[R0 (λbX aE=>by grind) bu];trivial
   .have b6:bY 45 e9 az (vL (c bv) p.aj) t:=w.bX.le (eG a E);exact bz.eZ (b:=az) (az:={az with m:=az.m.set 2 ⟨.nilFunc,[p.aj]⟩}) rfl (b6.aJ cZ) (vp rfl)
   rcases bR L g with rfl|g
   .grind
   exact bN.m l n L g a5
 rintro ai az ⟨t,A,b9,bt,R⟩;refine dY.goes A ai az b9 bt R λbI aI=>?_;have b8:dY (pI i Y bv N ag) Z ((28,.any)::vL (c bv) N) (r6 i Y bv N) (t.put (h 28) (.tuple #[])) bI:=⟨aI.bX.put cc v,aI.ba,aI.a9⟩
 refine b8.ctl a (λbQ=>v3) λbJ aJ=>?_;refine ar bJ _ (aJ.bX.le (eG a E)) aJ.ba bO aw ah cO aM X λu bT b0 az b2 r b5 b7 bL=>ca u bT b0 az b2 r b5 b7 (aJ.a9.trans bL)
end
end
abbrev EC(a:p bD)(b:Bool):z:=.Q [.aq (.c (.S m 1 (c a) (bS.fn a))),.aq (.c (.bool b))]
def g0(e:Int)(b:p cb)(a:p Int):Option (p bD):=if a.all (λd=>(df e b d).isSome)then h (a.map λd=>(df e b d).getD [])else q
noncomputable def SB:Code:=ns rD
noncomputable def SC:Code:=ns (g2 rD)
noncomputable def SD:Code:=ns (g2 (g2 rD))
def Sx:f181.body=h (.seq SB (.seq SC (.seq SD Bp))):=b3
def sZ(e:Int)(b:p cb)(a:p Int)(d:Nat):p AM.N:=[.V ((df e b (a.getD d 0)).getD []),.bool (df e b (a.getD d 0)).isSome]
def mP(d:Int)(b:p cb)(a:p Int):p bD:=a.map λe=>(df d b e).getD []
theorem abk{j b}(a:hI j=h b):c b<=8:=by
 unfold hI at a;split at a
 .rename_i d;cases a;simp only[cp,cC,bA]at d;omega
 grind
theorem SJ{l}{a}(b:iL i l=h a):c a<=8:=by unfold iL at b;grind[abk]
theorem Jm{Y}{k}:c ((df i Y k).getD [])<=8:=by
 cases b:df i Y k with
 |none=>simp
 |some d=>
  obtain⟨e,_,a⟩:=List.exists_of_findSome?_eq_some b;unfold fP at a;grind[SJ]
theorem Tv{Y}{b}(g:e<c b){s}{l}(d:(sZ i Y b e)[w]?=h s)(n:(nk i Y b)[e*2+w]?=h l):Rd bE l s:=by
 have j:w<2:=(cQ.1 d).1;have:=CV (i:=i) (Y:=Y) g j;rw[Nat.mul_comm,this]at n;cases n
 match w,j with
 |0,_=>
  cases d;have:=Jm (i:=i) (Y:=Y) (k:=b.getD e 0);exact .V a y
 |1,_=>cases d;exact .bool
def _root_.Go.AM.de.le{P:aI}{d:aj P}{D}{aN}{F dI}{n}{s}(i:de d D s aN dI n)(b:iC F dI):de d D s aN F n:=λj e g a=>i j e (g.le b) a
def UA(x:bM (aj.c' V) 231 (ni i))(Y)(b)(B:c b<=4000000):
  Z (aj.aV V) 181 [S i,a2.S Y,aB.S b] [] (EC ((g0 i Y b).getD []) (g0 i Y b).isSome) []:=by
 refine bl.toZ (bl.e6 (ι:=Unit) func181 rfl Sx rfl λK=>?_);show de _ 45 _ _ _ _;refine de.seq (b0.bA (g.aW ?_));refine a0 a v ?_;show de _ 45 _ _ _ _;refine de.seq (b0.bA (g.aW ?_));refine a0 a v (g.jD (W:=293) (k:=c b) be a a a a a a z7 y a a λN ag=>?_);refine a0 a v ?_;show de _ 45 _ _ _ _;refine de.seq (b0.bA (g.aW ?_));refine a0 a v ?_;show de _ 45 _ _ _ _;have r:de (aj.aV V) 45 oc (λu p e=>∃_:Unit,bW f181 0 (EC ((g0 i Y b).getD []) (g0 i Y b).isSome) [] u p e) (vL (c b) N) (r6 i Y b N):=by
  refine b0.bA (b0.mono (aN:=bW f181 0 (EC ((g0 i Y b).getD []) (g0 i Y b).isSome) []) (g.aW ?_) λ_ _ _ A=>⟨(),A⟩);refine a0 a (show _<=_ by omega) (g.iL 29 2 (bP:=.row N (c b)) (k:=c b) (i:=2) (sZ i Y b) a a (λd j=>⟨a,λC l D Q M O=>?_⟩) ?_)
  .grind [Tv]
  refine g.bO 12 9 1 a a ?_;refine g.aL 6 (λd=>d<=c b/\∀l,l<d->(df i Y (b.getD l 0)).isSome=f) (λd:Nat=>[(29,ax (.S m 2 (c b) (sZ i Y b))),(30,S (c b)),(31,S d),(12,.q (.aq (.r 5 1 (c (mP i Y (b.take d))) (bS.fn (mP i Y (b.take d))))))]) (λd=>[.x,.x,.x,.x,.x,.r 9 1 (c (mP i Y (b.take d))) (bS.fn (mP i Y (b.take d)))]) (λd=>c b-d) 0 a ?_ a ?_ a ⟨by omega,by omega⟩ ?_
  .simp[bu,mP]
  .simp[bu,mP]
  rintro d ⟨j,F⟩;by_cases o:d<c b
  .cases t:(df i Y (b.getD d 0)).isSome with
   |true=>
    have I:mP i Y (b.take (d+1))=mP i Y (b.take d)++[(df i Y (b.getD d 0)).getD []]:=by unfold mP;grind[List.take_add_one]
    have J:c (mP i Y (b.take d))<=4000000:=by simp[mP];omega
    refine bR [(32,f),(37,m)] a ?_ (g.aB (d+1) a ?_ ?_ ?_ ?_)
    .simp[-al,o,sZ,t,a8];have:ta.bytes=16:=rfl;grind
    .exact Pn
    .exact Pn
    .grind
    omega
   |false=>
    refine bR [(32,f),(37,f)] a ?_ (g.aX (bW.zero a ?_))
    .simp[-al,o,sZ,t]
    have w:g0 i Y b=q:=NH;simp[w]
  have z:d=c b:=y;subst z;refine bR [(32,m)] a E (g.aC ?_);refine cx a v (g.aw a ?_);have s:g0 i Y b=h (mP i Y b):=by
   unfold g0;rw[bs]
   .rfl
   grind[List.mem_iff_getElem]
  simp[s]
 exact de.le (n:=pI i Y b N ag) (Yp (ag:=ag) x B r) (eG a E)
end R1
end Go.AM
namespace Go.AM.R1
def rU(a)(b):iy (a::b)=if a=47 then 0 else if iy b=-1 then -1 else iy b+1:=by unfold iy;grind[Lib.indexByte.eq_def]
def C_:iy []=-1:=cU
def abr(b):jZ b=fQ b:=by
 by_cases n:c b<=3
 .match b,n with
  |[],_=>exact cU
  |[e],_=>
   by_cases a:e=47
   .exact hz
   simp[jZ,fQ,jT,jR,ko,rU,C_,a,lo,ds]
  |[e,g],_=>
   by_cases a:e=47
   .exact hz
   by_cases d:g=47
   .subst d;simp[jZ,fQ,jT,jR,mB,ko,rU,a]
   simp[jZ,fQ,jT,jR,ko,rU,C_,a,d]
  |[e,g,j],_=>
   by_cases a:e=47
   .subst a;simp[jZ,fQ,jT,jR,mB,ko,rU,lo,ds]
   by_cases d:g=47
   .subst d;simp[jZ,fQ,jT,jR,mB,ko,rU,a,lo,ds]
   have k:¬(g.toNat:Int)=47:=by intro l;apply d;apply uB.1;grind
   by_cases i:j=47
   .subst i;simp[jZ,fQ,jT,jR,mB,ko,rU,a,d,lo,ds]
   simp[jZ,fQ,jT,jR,ko,rU,C_,a,d,i,k,lo,ds]
  |_::_::_::_::_,l=>grind
 have o:fQ b=m:=by unfold fQ;grind
 grind[K8]
end Go.AM.R1
namespace Go.AM
theorem xl(a):aW a []=m:=FT
def A9(j)(d):aW [] (j::d)=f:=FT
theorem uR(a j)(l X):aW (a::l) (j::X)=(decide (a<j)||a==j&&aW l X):=FT
theorem xk:∀a:bD,aW a a=m
 |[]=>xl []
 |a::b=>by rw[uR,xk b];simp
def GN:∀a b:bD,aW a b=f∨a=b∨aW b a=f
 |[],[]=>.inr (.inl rfl)
 |[],b::e=>.inl (A9 b e)
 |a::d,[]=>.inr (.inr (A9 a d))
 |a::d,b::e=>by
  rw[uR,uR];rcases GN d e with g|g|g
  .grind
  .grind
  grind
theorem A_:∀{g i b:bD},aW g i=f->aW i b=f->aW g b=f
 |g,i,[],_,e=>by grind[xl]
 |g,[],b::j,d,_=>by grind[xl]
 |[],i::k,b::j,_,_=>A9 b j
 |g::l,i::k,b::j,d,e=>by
  rw[uR,jK,cp,bA,gW]at d e⊢;rcases d with d|⟨rfl,d⟩
  .grind
  rcases e with e|⟨rfl,e⟩
  .grind
  exact .inr ⟨a,A_ d e⟩
theorem GM{a j}(b:aW a j=f):aW j a=m:=by grind[A_,xk]
def Sn{a j}:(!(aW j a||j==a))=aW a j:=by
 rcases GN a j with b|b|b
 .have s:(j==a)=m:=by simp[eY,d_];grind[xk]
  grind[GM]
 .grind [xk]
 grind[GM]
namespace R1
def LO{o}{e}(g:∀a,0<a->a<=e->aW (cq o (a-1)) (cq o a)=f):∀b,b<e->aW (cq o b) (cq o e)=f:=by
 intro b n;induction e with
 |zero=>omega
 |succ e j=>
  have d:=g (e+1) y (bB _);simp[p9]at d;by_cases l:b=e
  .grind
  exact A_ (j (λa i k=>g a i y) y) d
def K9{b}(d:fQ b=f):(∃a,b=[a])∨∃a e,b=[a,47,e]:=by
 unfold fQ at d;split at d
 .rename_i g
  match b,g with
  |[a],_=>grind
 split at d
 .rename_i g
  match b,g with
  |[a,e,i],_=>
   right;simp[lo,ds]at d;have j:e=47:=by apply uB.1;grind
   grind
 grind
theorem SK{b d}(g:fQ b=f)(i:fQ d=f)(l:aW b d=f):lc b d=under d b:=by
 rcases K9 g with⟨a,rfl⟩|⟨a,j,rfl⟩<;>rcases K9 i with⟨s,rfl⟩|⟨s,k,rfl⟩
 .exact cU
 .by_cases e:a=s
  .subst e;simp[lc,under,ov,ds]
  have:¬(a.toNat:Int)=s.toNat:=λn=>e (uB.1 y);have p:((a.toNat:Int)==(s.toNat:Int))=m:=M;have o:(s==a)=m:=M;simp[lc,under,ov,ds];grind
 .have:¬(a.toNat:Int)=s.toNat:=by grind[UInt8.toNat_inj,uR,xl]
  simp[lc,under,ov,ds,this]
 exact cU
theorem Mo{o}{e}(b:∀a,a<e->i1 o a=f):mY o e=i1 o e:=by
 unfold mY i1;rw[abr,Sn];cases r:fQ (cq o e)with
 |false=>simp
 |true=>
  cases l:fJ (lz o e)with
  |false=>simp
  |true=>
   cases s:(e==0||aW (cq o (e-1)) (cq o e))with
   |false=>simp
   |true=>
    simp[fr];have p:∀a,a<e->aW (cq o a) (cq o e)=f:=by
     apply LO;intro g j d;by_cases n:g=e
     .grind
     have:=b g y;simp[i1,cp,jK,gW]at this;grind
    rw[o9,fN,fN];have t:∀a,a<e->lc (cq o a) (cq o e)=under (cq o e) (cq o a):=by
     intro a i;have k:fQ (cq o a)=f:=by have:=b a i;simp[i1,cp]at this;exact this.1.1.1
     grind[SK]
    grind
def r'(o):q0 o=dP o:=by
 unfold q0 dP;congr 1;rw[o9,fN,fN];constructor
 .intro b e;induction e using Nat.strongRecOn with
  |_ e a=>grind[Mo]
 grind[Mo]
end R1
end Go.AM
namespace Go.AM
variable {k A:Nat}{i:Int}{d j e w:Nat}{W:av}{H:aa->(Nat->Option Obj)->Prop}{L:Array Bool}{bE:Mem}{D:Nat}{P:aI}{br:ak->a6->Prop}{s:Code}{C:ak}{t:ap}{b:a6}{o:av}{ab:aa}{l X:aA}{α:Type}{η:aA->z}{ι:Type}{n:p an}{F:bJ}{all:p ap}{du:Array av}{cap:p N}{cV:p z}{lb:Nat->Option Obj}{ah:p aK}{bh:p (Nat×Bool)}{T:Nat->p N}{cR:aA}{gs:Array ak}{aP:p Nat}{ck:p Prop}{off:Nat}{op:BinOp}{aD:Array ap}{Y:p Prop}{bt:p ap}{az:a6}{ty:av}{val:Nat->Nat->aa}{B:p aa}{bi:au}{ag:Array aA}{ao dh:p an}{res:ι->z}{aM:ι->p an}
variable {CT:p (Nat×bL)}{ar:p il}{bf:fw}{ad:p (Nat×bx)}{a5:bx}
namespace R1
section
variable {r:aj V}
def fH(d:Int)(a:p cb)(b:m8):Option c6:=match g0 d a b.2 with
 |none=>q
 |some e=>match iN e with
  |none=>q
  |some g=>h (b.1,g)
def fh(b:Int)(a:p cb)(d:p m8):p c6:=d.map λe=>(fH b a e).getD ([],[])
def ev(b:Int)(d:eI)(a:p cb):Option (p c6):=
 if cF b&&d.2.all (λe=>(fH b a e).isSome)&&dP (fh b a d.2)then h (fh b a d.2)else q
abbrev r9(a:p c6)(b:Bool):z:=.Q [.aq (.c (.S m 2 (c a) (bF.fn a))),.aq (.c (.bool b))]
abbrev iR(a:eI):z:=.q (.agg [.c (.int .i64 a.1),.c (.S m 2 (c a.2) (cy.fn a.2))])
theorem CM{Y}{d}(a:e<c d):fh i Y (d.take (e+1))=fh i Y (d.take e)++[(fH i Y (d.getD e ([],[]))).getD ([],[])]:=by unfold fh;grind[List.take_add_one]
def Ej{Y}{b}(d:e<c b.2)(a:fH i Y (b.2.getD e ([],[]))=q):ev i b Y=q:=by unfold ev;rw[bm];grind
def X_{Y}{a}{d}(b:g0 i Y a=h d)(k:c a<=4000000):c d.flatten<=140737488355328/\c d<=4000000:=by
 unfold g0 at b;split at b
 .rename_i j;cases b;refine⟨?_,by grind⟩;have key:∀a:p Int,(a.all λe=>(df i Y e).isSome)=f->(a.map λe=>(df i Y e).getD []).flatten.length<=8*c a:=by
   intro a;induction a with
   |nil=>grind
   |cons e a g=>
    intro b;simp only[List.all_cons,cp]at b;grind[Jm]
  grind
 grind
def Xj(i)(b)(Y)(X:c b.2<=4000000)(G:∀e∈b.2,c e.2<=4000000):
  Z (aj.aV V) 137 [S i,iR b,a2.S Y] [] (r9 ((ev i b Y).getD []) (ev i b Y).isSome) []:=by
 refine Z.K func137 rfl λI=>?_;have aa:=I.S 2 a;have j:a9 (aj.aV V) [(96,dm db (λi=>bj (cF i)) λ_=>[])]:=.cons t96 .nil;cases b2:cF i with
 |false=>
  refine a' j [(15,m),(16,f)] a me (g.aw a ?_);simp[ev,b2]
 |true=>
  have R:bM (aj.c' V) 231 (ni i):=adQ zs b2;refine a' j [(15,f),(16,m),(1000004,f)] a me (g.bO 8 105 2 a a ?_);refine ca j a v (g.aL 2 (λd=>d<=c b.2/\∀w,w<d->(fH i Y (b.2.getD w ([],[]))).isSome=f) (λd:Nat=>[(0,S i),(2,a2.S Y),(4,aH 0 0),(8,.q (.aq (.r 1 2 (c (fh i Y (b.2.take d))) (bF.fn (fh i Y (b.2.take d)))))),(18,cy.S b.2),(19,S (c b.2)),(20,S d)]) (λd=>[.cells 96 [.c (.int .i64 b.1),.c (.S m 2 (c b.2) (cy.fn b.2))],.r 105 2 (c (fh i Y (b.2.take d))) (bF.fn (fh i Y (b.2.take d)))]) (λd=>c b.2-d) 0 a Aa a Aa a ⟨by omega,by omega⟩ ?_);rintro d ⟨J,ab⟩;by_cases p:d<c b.2
  .have t:b.2.getD d ([],[])∈b.2:=M;generalize n:b.2.getD d ([],[])=e at t;have A:=G e t;have o:=UA R Y e.2 A;cases k:g0 i Y e.2 with
   |none=>
    rw[k]at o;refine a' j [(21,f)] a bw (g.aF (n▸o) [] a (a' j [(33,f)] a E (g.aX (bW.zero a ?_))));have l:fH i Y e=q:=by simp[fH,k]
    rw[Ej p M];simp
   |some x=>
    obtain⟨T,z⟩:=X_ k A;rw[k]at o;have K:=Uj (r:=aj.aV V) x T;refine a' j [(21,f)] a bw (g.aF (n▸o) [] a (a' j [(33,m)] a E (g.aF K [] a ?_)));cases O:iN x with
    |none=>
     refine a' j [(40,f)] a E (g.aX (bW.zero a ?_));have l:fH i Y e=q:=by simp[fH,k,O]
     rw[Ej p M];simp
    |some s=>
     have l:fH i Y e=h (e.1,s):=by simp[fH,k,O]
     have F:b.2.getD (d:Int).toNat cy.I=e:=n;have W:c (fh i Y (b.2.take d))<=4000000:=by simp[fh];omega
     have D:bu (c (fh i Y (b.2.take d))+1) (cg (c (fh i Y (b.2.take d))) (bF.fn (fh i Y (b.2.take d))) λQ=>[[N.V (b.2.getD (d:Int).toNat cy.I).1,N.V ((h s).getD [])]].getD Q []) (bF.fn (fh i Y (b.2.take (d+1)))):=by rw[CM p,n,l,F];exact bF.a0 (fh i Y (b.2.take d)) (e.1,s)
     have C:c (fh i Y (b.2.take d))+1=c (fh i Y (b.2.take (d+1))):=by grind[CM]
     refine a' j [(40,m)] a ?_ (g.aB (d+1) a ?_ ?_ ?_ ?_)
     .refine⟨by exact bH,a,a,?_,a⟩;show _*32<=_;omega
     .refine U.Z.2 ⟨a,U.Z.2 ⟨⟨a,bu.same⟩,U.Z.2 ⟨v,U.Z.2 ⟨⟨C,D⟩,U.Z.2 ⟨⟨a,bu.same⟩,U.Z.2 ⟨a,U.Z.2 ⟨?_,v⟩⟩⟩⟩⟩⟩⟩;simp
     .exact U.Z.2 ⟨U.Z.2 ⟨a,U.Z.2 ⟨⟨a,bu.same⟩,v⟩⟩,U.Z.2 ⟨⟨C,D⟩,v⟩⟩
     .grind
     omega
  have l:d=c b.2:=y;subst l;refine a' j [(21,m)] a E (g.aC ?_);rw[c8];have u:=Je (r:=aj.aV V) (fh i Y b.2);rw[r']at u;refine ca j a v (g.aF u [] a ?_);have H:b.2.all (λe=>(fH i Y e).isSome)=f:=aZ.2 λe t=>by grind[List.mem_iff_getElem]
  cases B:dP (fh i Y b.2)with
  |false=>
   refine a' j [(51,f)] a E (g.aw a ?_);simp[ev,B]
  |true=>
   refine a' j [(51,m)] a E (g.aw a ?_);simp[ev,B,b2,H]
abbrev cB:=p cb×p eI×p (Int×Int)
def lv(b:cB):Prop:=∀a∈b.2.1,c a.2<=4000000/\∀d∈a.2,c d.2<=4000000
abbrev b'(a:cB):z:=.q (.agg [.c (.S m 2 (c a.1) (a2.fn a.1)),.c (.S m 2 (c a.2.1) (bk.fn a.2.1)),.c (.S m 2 (c a.2.2) (a3.fn a.2.2))])
def Hy:bL:=kn db (jH cy) (e3 a2) (λd b a=>r9 ((ev d b a).getD []) (ev d b a).isSome) λ_ b _=>[c b.2<=4000000,∀e∈b.2,c e.2<=4000000]
def aep:bM (aj.aV V) 137 Hy:=.c8 λd e a b=>Xj d e a b.1 b.2
def o':jb cB:=⟨b',λs=>match s with
 |.q (.agg [.c r,.c t,.c u])=>match j2 2 (ax r)with
  |some (j,g)=>match j2 2 (ax t)with
   |some (k,l)=>match j2 2 (ax u)with
    |some (p,i)=>h ((a2.af j g,bk.af k l,a3.af p i),[a2.bW j g,bk.bW k l,a3.bW p i])
    |none=>q
   |none=>q
  |none=>q
 |_=>q,λ{s r E} e d n b ab z=>by
 split at e
 .split at e
  .rename_i j g o;split at e
   .rename_i k l x;split at e
    .rename_i p i C;cases e;obtain⟨B,w,a⟩:=z
     match B,a with
     |[],a=>exact a.elim
     |[_],a=>exact a.2.elim
     |[_,_],a=>exact a.2.2.elim
     |_::_::_::_::_,a=>exact a.2.2.2.elim
     |[A,D,y],a=>
      exact⟨_,w,a2.cE (n:=[]) (b:=b) (ab:=A) o d.1 a.1,bk.cE (n:=[]) (b:=b) (ab:=D) x d.2.1 a.2.1,a3.cE (n:=[]) (b:=b) (ab:=y) C d.2.2 a.2.2.1,v⟩
    grind
   grind
  grind
 grind⟩
abbrev d'(b:cb)(a:Nat):cY:=b.2.getD a (0,[])
def ig(d:Int)(b:cb)(a:Nat):Bool:=right d (d' b a)&&(a==0||decide ((d' b (a-1)).1<(d' b a).1))
theorem DL(i)(a):ib i a=((aC (c a.2)).all (ig i a)&&(cF i&&decide (1<=a.1)&&decide (a.1<=99)&&decide (1<=c a.2)&&decide (c a.2<=4))):=by
 have k:(a.2.all (right i)&&Ek (a.2.map (·.1)))=(aC (c a.2)).all (ig i a):=by
  rw[o9,cp,aZ,aZ];unfold Ek;rw[aZ];have d:∀e,e<c a.2->(a.2.map (·.1)).getD e 0=(d' a e).1:=λe bq=>by grind
  constructor
  .rintro⟨j,b⟩ e bq;have bq:=rq.1 bq;have l:=b e M;rw[d e bq]at l;unfold ig;rw[j (d' a e) M,fr];rcases n9 e with rfl|n
   .rfl
   grind
  intro u;refine⟨λo g=>?_,λe bq=>?_⟩
  .obtain⟨e,bq,rfl⟩:=AS.1 g;exact Pz
  have bq:e<c a.2:=M;exact Pz
 rw[<-k];unfold ib;cases cF i<;>cases decide (1<=a.1)<;>cases decide (a.1<=99)<;>cases decide (1<=c a.2)<;>cases decide (c a.2<=4)<;>simp
def K2{a}(b:e<c a.2)(d:ig i a e=m):ib i a=m:=by grind[DL]
theorem BS{l}(a:cF i=f):(iL i l).isSome=right i l:=by unfold iL right;grind
def WA(i)(b)(j:cF i=f)(B:c b.2<=4000000):Z r 133 [S i,fG b] [] (bj (ib i b)) []:=by
 refine Z.K func133 rfl λF=>?_;have e:a9 r [(96,dm db (λi=>bj (cF i)) λ_=>[]),(177,er sq db (λA i=>iQ (iL i A)) λ_ i=>[cF i=f])]:=.cons t96 (.cons (MD zs) .nil);refine ca e a v (g.aL 1 (λd=>d<=c b.2/\∀k,k<d->ig i b k=f) (λd:Nat=>[(0,S i),(3,aH 0 0),(10,bI.S b.2),(11,S (c b.2)),(12,S d)]) (λ_=>[.cells 89 [.c (.int .i64 b.1),.c (lr b)]]) (λd=>c b.2-d) 0 a E a E a ⟨by omega,by omega⟩ ?_);rintro d ⟨w,t⟩;by_cases p:d<c b.2
 .cases n:right i (d' b d)with
  |false=>
   have o:(iL i (d' b d)).isSome=m:=by grind[BS]
   refine a' e [(13,f),(24,f),(40,f)] a dD (g.aX (bW.zero a ?_));rw[K2 p (by simp only[ig,n,sD])];simp
  |true=>
   have o:(!(iL i (d' b d)).isSome)=m:=by grind[BS]
   by_cases z:d=0
   .subst z;refine a' e [(13,f),(24,m),(27,m),(40,m)] a lL (g.aB 1 a E E ⟨by omega,λk l=>?_⟩ y);have:k=0:=y;subst this;simp only[ig,n,fr];rfl
   have K:((d:Int)-1).toNat=d-1:=y;cases s:decide ((d' b (d-1)).1<(d' b d).1)with
   |false=>
    refine a' e [(13,f),(24,m),(27,f),(38,f),(40,f)] a ?_ (g.aX (bW.zero a ?_))
    .have C:(b.2.getD ((d:Int)-1).toNat bI.I).1=(d' b (d-1)).1:=bH;refine⟨a,fq ?_,by omega,by omega,by exact bH,fq y,o,j,by omega,by omega,fq y⟩;rw[C];show(d' b d).1<=_;grind
    rw[K2 p (by simp[ig,n,s,fr,Bool.or_false];grind)];simp
   |true=>
    refine a' e [(13,f),(24,m),(27,f),(38,m),(40,m)] a ?_ (g.aB (d+1) a ?_ ?_ ⟨by omega,λk l=>?_⟩ y)
    .have C:(b.2.getD ((d:Int)-1).toNat bI.I).1=(d' b (d-1)).1:=bH;refine⟨by exact bH,a,lG ?_,by omega,by omega,by exact bH,fq y,o,j,by omega,by omega,fq y⟩;rw[C];show¬(d' b d).1<=_;grind
    .simp
    .simp
    rcases AF.1 l with l|rfl
    .grind
    simp only[ig,n,s,fr,Bool.or_true]
 have u:d=c b.2:=y;subst u;refine a' e [(13,m)] a E (g.aC ?_);have x:(aC (c b.2)).all (ig i b)=f:=aZ.2 λk l=>t k (rq.1 l);rw[DL,x,j];by_cases I:1<=b.1
 .by_cases J:b.1<=99
  .by_cases M:1<=c b.2
   .by_cases D:c b.2<=4
    .refine a' e [(43,f),(47,f),(52,f),(58,f),(64,f)] a bH (g.aw a ?_);exact bw
    refine a' e [(43,f),(47,f),(52,f),(58,f),(64,m)] a bH (g.aw a ?_);exact bw
   refine a' e [(43,f),(47,f),(52,f),(58,m)] a dD (g.aw a ?_);exact bw
  refine a' e [(43,f),(47,f),(52,m)] a dD (g.aw a ?_);exact bw
 refine a' e [(43,f),(47,m)] a dD (g.aw a ?_);exact bw
def BE:bL:=er db (jH bI) (λa b=>bj (ib a b)) λa b=>[cF a=f,c b.2<=4000000]
def MJ:bM r 133 BE:=.bn λb d a=>WA b d a.1 a.2
def Iz(d)(i:c d<=4000000):Z r 122 [a3.S d] [] (cD 0 (.S (c d) 2 0 (c d))) [.h 146 2 (c d) (a3.fn d)]:=by
 refine Z.K func122 rfl λj=>?_;refine a0 a v (g.en be a a a a a a λb e=>?_);cases b with
 |true=>
  obtain rfl:=jI (e rfl);refine a0 a v (g.fe 2 146 2 (a3.fn []) a ?_);exact Fl
 |false=>
  refine gR [] 7 a v (g.dK 5 146 2 (a3.fn []) a ?_);refine a0 a ⟨a,a,show(0+c d)*16<=_ by omega⟩ (g.bg [.h 146 2 (c d) (a3.fn d)] a ?_ ?_)
  .simp[bu,cg]
  exact Fy
def IB(d)(e:c d<=4000000):Z r 122 [a3.S d] [] (a3.S d) []:=by
 refine Z.K func122 rfl λi=>?_;refine a0 a v (g.en be a a a a a a λb x=>?_);cases b with
 |true=>
  exact Fx
 |false=>
  exact a0 a ⟨show(0+c d)*16<=_ by omega,.inl a⟩ Fb
def T3(d)(e:c d<=4000000):Z r 170 [bI.S d] [] (bI.S d) []:=by
 refine Z.K func170 rfl λi=>?_;refine a0 a v (g.en be a a a a a a λb x=>?_);cases b with
 |true=>
  exact Fx
 |false=>
  exact a0 a ⟨show(0+c d)*24<=_ by omega,.inl a⟩ Fb
def Cl(d)(e:c d<=4000000):Z r 46 [aB.S d] [] (aB.S d) []:=by
 refine Z.K func46 rfl λi=>?_;refine a0 a v (g.en be a a a a a a λb x=>?_);cases b with
 |true=>
  exact Fx
 |false=>
  exact a0 a ⟨show(0+c d)*8<=_ by omega,.inl a⟩ Fb
def _root_.Go.AM.c1.cX(a:c1 α)(d)(j:e<c d)(b):bu (e+1) (cg e (a.fn (d.take e)) (λg=>[a.a8 (d.getD e b)].getD g [])) (a.fn (d.take (e+1))):=by
 have i:d.take (e+1)=d.take e++[d.getD e b]:=by grind[List.take_add_one]
 have:=a.a0 (d.take e) (d.getD e b);grind
abbrev G1:bL:=dm (e3 bI) (λa=>bI.S a) λa=>[c a<=4000000]
def adI:bM r 170 G1:=.bb λb a=>T3 b a
abbrev G2:bL:=dm (e3 aB) (λa=>aB.S a) λa=>[c a<=4000000]
def adJ:bM r 46 G2:=.bb λb a=>Cl b a
def Wv(b)(d:c b.2<=4000000):Z r 120 [fG b] [] (fG b) []:=by
 refine Z.bp be func120 rfl rfl rfl λj=>?_;have e:a9 r [(170,G1)]:=.cons adI .nil;refine ca e a ?_ ?_
 .simp only[U,bI.E];exact⟨bI.U _,d⟩
 refine g.bj () [] ?_ (λk i=>absurd i E);simp[bI.E]
abbrev xA:bL:=dm (jH bI) (λa=>fG a) λa=>[c a.2<=4000000]
def EE:bM r 120 xA:=.bb λb a=>Wv b a
def Xd(l)(w:c l.2<=4000000)(k:∀s∈l.2,c s.2<=4000000):Z r 121 [iR l] [] (iR l) []:=by
 refine Z.bp be func121 rfl rfl rfl λu=>?_;have d:a9 r [(46,G2)]:=.cons adJ .nil;refine a' d [(1000002,f)] a v (g.cm 2 1 148 2 (cy.fn []) a a ?_);refine ca d a v ?_;refine g.aL 4 (λb=>b<=c l.2) (λb:Nat=>[(2,aH 1 0),(3,aH 2 0),(10,cy.S l.2),(11,S (c l.2)),(12,S b)])
  (λb=>[.cells 96 [.c (.int .i64 l.1),.c (.S m 2 (c l.2) (cy.fn l.2))],.cells 96 [.c (.int .i64 0),.c (.S f 0 0 λ_=>[])],.cells 96 [.c (.int .i64 l.1),.r 3 2 b (cy.fn (l.2.take b))],.r 148 2 b (cy.fn (l.2.take b))]) (λb=>c l.2-b) 0 a ?_ a ?_ a y ?_
 .simp
 .simp
 intro b o;by_cases n:b<c l.2
 .have C:l.2.getD b ([],[])∈l.2:=M;refine a' d [(13,f)] a ?_ (g.aB (b+1) a ?_ ?_ ?_ ?_)
  .have p:=k _ C;have e:l.2.getD (b:Int).toNat cy.I=l.2.getD b ([],[]):=M;simp only[U,e,aB.E,a8];exact⟨by omega,v,v,show(b+1)*40<=_ by omega,aB.U _,p,by omega,by omega,fq y⟩
  .simp
  .have e:l.2.getD (b:Int).toNat cy.I=l.2.getD b ([],[]):=M;have i:=cy.cX l.2 n ([],[]);simp only[U.Z,U,e,aB.E,a_,bb];exact⟨bu.same,bu.same,i,i⟩
  .grind
  omega
 obtain rfl:b=c l.2:=y;refine a' d [(13,m)] a E (g.aC ?_);refine ca d a v (g.bj () [] ?_ (λt j=>absurd j E));simp
abbrev xB:bL:=dm (jH cy) (λa=>iR a) λa=>[c a.2<=4000000,∀b∈a.2,c b.2<=4000000]
def EF:bM r 121 xB:=.bb λb a=>Xd b a.1 a.2
abbrev cG:O:=.c (.S f 0 0 λ_=>[])
def pg(b)(p:c b.1<=4000000)(C:∀n∈b.1,c n.2<=4000000)(t:c b.2.1<=4000000)(I:lv b)(l:c b.2.2<=4000000):
  Z r 80 [b' b] [] (.q (.agg [.R 0 (.S (c b.1) 2 0 (c b.1)),.R 1 (.S (c b.2.1) 2 0 (c b.2.1)),.c (.S m 2 (c b.2.2) (a3.fn b.2.2))])) [.h 89 2 (c b.1) (a2.fn b.1),.h 96 2 (c b.2.1) (bk.fn b.2.1)]:=by
 refine Z.bp be func80 rfl rfl rfl λs=>?_;have d:a9 r [(120,xA),(121,xB)]:=.cons EE (.cons EF .nil);refine a' d [(1000002,f)] a v (g.ek 2 0 89 2 (a2.fn []) a a ?_);refine g.ek 2 1 96 2 (bk.fn []) a a ?_;refine ca d a v ?_;refine g.aL 5 (λe=>e<=c b.1) (λe:Nat=>[(1,aH 0 0),(2,aH 1 0),(3,aH 2 0),(9,a2.S b.1),(10,S (c b.1)),(11,S e)])
  (λe=>[.cells 27 [.c (.S m 2 (c b.1) (a2.fn b.1)),.c (.S m 2 (c b.2.1) (bk.fn b.2.1)),.c (.S m 2 (c b.2.2) (a3.fn b.2.2))],.cells 27 [cG,cG,cG],.cells 27 [.R 3 (.S e 2 0 e),.R 4 (.S 0 2 0 0),cG],.h 89 2 e (a2.fn (b.1.take e)),.h 96 2 0 (bk.fn [])]) (λe=>c b.1-e) 0 a ?_ a ?_ a y ?_
 .simp
 .simp
 intro e i;by_cases u:e<c b.1
 .have ae:b.1.getD e (0,[])∈b.1:=M;have j:b.1.getD (e:Int).toNat a2.I=b.1.getD e (0,[]):=M;refine a' d [(12,f)] a Po (g.aB (e+1) a E P0 M ?_);omega
 obtain rfl:e=c b.1:=y;rw[c8];refine a' d [(12,m)] a E (g.aC ?_);refine ca d a v ?_;refine g.aL 5 (λe=>e<=c b.2.1) (λe:Nat=>[(1,aH 0 0),(2,aH 1 0),(3,aH 2 0),(24,bk.S b.2.1),(25,S (c b.2.1)),(26,S e)])
  (λe=>[.cells 27 [.c (.S m 2 (c b.1) (a2.fn b.1)),.c (.S m 2 (c b.2.1) (bk.fn b.2.1)),.c (.S m 2 (c b.2.2) (a3.fn b.2.2))],.cells 27 [cG,cG,cG],.cells 27 [.R 3 (.S (c b.1) 2 0 (c b.1)),.R 4 (.S e 2 0 e),cG],.h 89 2 (c b.1) (a2.fn b.1),.h 96 2 e (bk.fn (b.2.1.take e))]) (λe=>c b.2.1-e) 0 a ?_ a ?_ a y ?_
 .simp
 .simp
 intro e i;by_cases u:e<c b.2.1
 .have ae:b.2.1.getD e (0,[])∈b.2.1:=M;have j:b.2.1.getD (e:Int).toNat bk.I=b.2.1.getD e (0,[]):=M;refine a' d [(27,f)] a N7 (g.aB (e+1) a E Fv M ?_);omega
 obtain rfl:e=c b.2.1:=y;rw[c8];refine a' d [(27,m)] a E (g.aC ?_);refine ca d a v (g.aF (IB b.2.2 l) [] a (ca d a v (g.bj () [3,4] ?_ (λo k=>absurd k E))));simp
def I'(b)(p:c b.1<=4000000)(C:∀n∈b.1,c n.2<=4000000)(t:c b.2.1<=4000000)(I:lv b)(l:c b.2.2<=4000000):
  Z r 80 [b' b] [] (.q (.agg [.R 0 (.S (c b.1) 2 0 (c b.1)),.R 1 (.S (c b.2.1) 2 0 (c b.2.1)),.R 2 (.S (c b.2.2) 2 0 (c b.2.2))])) [.h 89 2 (c b.1) (a2.fn b.1),.h 96 2 (c b.2.1) (bk.fn b.2.1),.h 146 2 (c b.2.2) (a3.fn b.2.2)]:=by
 refine Z.bp be func80 rfl rfl rfl λs=>?_;have d:a9 r [(120,xA),(121,xB)]:=.cons EE (.cons EF .nil);refine a' d [(1000002,f)] a v (g.ek 2 0 89 2 (a2.fn []) a a ?_);refine g.ek 2 1 96 2 (bk.fn []) a a ?_;refine ca d a v ?_;refine g.aL 5 (λe=>e<=c b.1) (λe:Nat=>[(1,aH 0 0),(2,aH 1 0),(3,aH 2 0),(9,a2.S b.1),(10,S (c b.1)),(11,S e)])
  (λe=>[.cells 27 [.c (.S m 2 (c b.1) (a2.fn b.1)),.c (.S m 2 (c b.2.1) (bk.fn b.2.1)),.c (.S m 2 (c b.2.2) (a3.fn b.2.2))],.cells 27 [cG,cG,cG],.cells 27 [.R 3 (.S e 2 0 e),.R 4 (.S 0 2 0 0),cG],.h 89 2 e (a2.fn (b.1.take e)),.h 96 2 0 (bk.fn [])]) (λe=>c b.1-e) 0 a ?_ a ?_ a y ?_
 .simp
 .simp
 intro e i;by_cases u:e<c b.1
 .have ae:b.1.getD e (0,[])∈b.1:=M;have j:b.1.getD (e:Int).toNat a2.I=b.1.getD e (0,[]):=M;refine a' d [(12,f)] a Po (g.aB (e+1) a E P0 M ?_);omega
 obtain rfl:e=c b.1:=y;rw[c8];refine a' d [(12,m)] a E (g.aC ?_);refine ca d a v ?_;refine g.aL 5 (λe=>e<=c b.2.1) (λe:Nat=>[(1,aH 0 0),(2,aH 1 0),(3,aH 2 0),(24,bk.S b.2.1),(25,S (c b.2.1)),(26,S e)])
  (λe=>[.cells 27 [.c (.S m 2 (c b.1) (a2.fn b.1)),.c (.S m 2 (c b.2.1) (bk.fn b.2.1)),.c (.S m 2 (c b.2.2) (a3.fn b.2.2))],.cells 27 [cG,cG,cG],.cells 27 [.R 3 (.S (c b.1) 2 0 (c b.1)),.R 4 (.S e 2 0 e),cG],.h 89 2 (c b.1) (a2.fn b.1),.h 96 2 e (bk.fn (b.2.1.take e))]) (λe=>c b.2.1-e) 0 a ?_ a ?_ a y ?_
 .simp
 .simp
 intro e i;by_cases u:e<c b.2.1
 .have ae:b.2.1.getD e (0,[])∈b.2.1:=M;have j:b.2.1.getD (e:Int).toNat bk.I=b.2.1.getD e (0,[]):=M;refine a' d [(27,f)] a N7 (g.aB (e+1) a E Fv M ?_);omega
 obtain rfl:e=c b.2.1:=y;rw[c8];refine a' d [(27,m)] a E (g.aC ?_);refine ca d a v (g.aF (Iz b.2.2 l) [] a (ca d a v (g.bj () [3,4,5] ?_ (λo k=>absurd k E))));simp
def gN(d:α->Bool)(b:p α):Int:=match b.findIdx? d with|some a=>a|none=>-1
def tb{a:α->Bool}{o}{I}(d:e<c o)(i:a (o.getD e I)=f)(g:∀b,b<e->a (o.getD b I)=m):gN a o=e:=by
 have:o.findIdx? a=h e:=by grind[List.findIdx?_eq_some_iff_getElem]
 rw[gN,this]
def tc{a:α->Bool}{o}{I}(d:∀b,b<c o->a (o.getD b I)=m):gN a o=-1:=by have:o.findIdx? a=q:=wD;rw[gN,this]
def U6(d)(t:c d<=4000000)(j)(ah)(b:cb->Bool)(o:∀l,l∈d->Z r j [fG l,ax (.O ah)] [] (bj (b l)) []):
  Z r 102 [cD 0 (.S (c d) 2 0 (c d)),ax (.fn (.func j) [] [.O ah])] [.h 89 2 (c d) (a2.fn d)] (S (gN b d)) [.h 89 2 (c d) (a2.fn d)]:=by
 refine Z.K func102 rfl λs=>?_;refine a0 a v (g.aL 1 (λe=>e<=c d/\∀w,w<e->b (d.getD w (0,[]))=m) (λe:Nat=>[(0,cD 0 (.S (c d) 2 0 (c d))),(1,ax (.fn (.func j) [] [.O ah])),(7,S (c d)),(8,S e)]) (λ_=>[.h 89 2 (c d) (a2.fn d)]) (λe=>c d-e) 0 a E a E a ⟨by omega,by omega⟩ ?_);rintro e ⟨p,x⟩;by_cases u:e<c d
 .have i:d.getD e (0,[])∈d:=M;have n:d.getD ((0+(e:Int).toNat:Nat)) a2.I=d.getD e (0,[]):=nU;refine a7 [(9,f)] a bw ?_;rw[n];refine g.aF (o _ i) [] a ?_;cases C:b (d.getD e (0,[]))with
  |true=>
   exact N2
  |false=>
   exact zV
 exact Qd
def U9(d)(t:c d<=4000000)(j)(ah)(b:eI->Bool)(o:∀l,l∈d->Z r j [iR l,ax (.O ah)] [] (bj (b l)) []):
  Z r 123 [cD 0 (.S (c d) 2 0 (c d)),ax (.fn (.func j) [] [.O ah])] [.h 96 2 (c d) (bk.fn d)] (S (gN b d)) [.h 96 2 (c d) (bk.fn d)]:=by
 refine Z.K func123 rfl λs=>?_;refine a0 a v (g.aL 1 (λe=>e<=c d/\∀w,w<e->b (d.getD w (0,[]))=m) (λe:Nat=>[(0,cD 0 (.S (c d) 2 0 (c d))),(1,ax (.fn (.func j) [] [.O ah])),(7,S (c d)),(8,S e)]) (λ_=>[.h 96 2 (c d) (bk.fn d)]) (λe=>c d-e) 0 a E a E a ⟨by omega,by omega⟩ ?_);rintro e ⟨p,x⟩;by_cases u:e<c d
 .have i:d.getD e (0,[])∈d:=M;have n:d.getD ((0+(e:Int).toNat:Nat)) bk.I=d.getD e (0,[]):=nU;refine a7 [(9,f)] a bw ?_;rw[n];refine g.aF (o _ i) [] a ?_;cases C:b (d.getD e (0,[]))with
  |true=>
   exact N2
  |false=>
   exact zV
 exact Qd
def U0(d)(z:c d<=4000000)(j)(ah)(k:(Int×Int)->Bool)(p:∀l,l∈d->Z r j [.q (.agg [.c (.int .i64 l.1),.c (.int .i64 l.2)]),ax (.O ah)] [] (bj (k l)) []):
  Z r 183 [a3.S d,ax (.fn (.func j) [] [.O ah])] [] (S (gN k d)) []:=by
 refine Z.K func183 rfl λw=>?_;refine a0 a v (g.aL 0 (λe=>e<=c d/\∀b,b<e->k (d.getD b (0,0))=m) (λe:Nat=>[(0,a3.S d),(1,ax (.fn (.func j) [] [.O ah])),(7,S (c d)),(8,S e)]) (λ_=>[]) (λe=>c d-e) 0 a E a E a ⟨by omega,by omega⟩ ?_);rintro e ⟨u,n⟩;by_cases t:e<c d
 .have i:d.getD e (0,0)∈d:=M;have o:d.getD (((e:Int).toNat)) a3.I=d.getD e (0,0):=nU;refine a7 [(9,f)] a bw ?_;rw[o];refine g.aF (p _ i) [] a ?_;cases s:k (d.getD e (0,0))with
  |true=>
   refine a7 [(16,f)] a E (g.aX (bW.mk [] a ?_ a a a fO));simp[tb t s n]
  |false=>
   exact zV
 refine a7 [(9,m)] a bV (g.aC ?_);refine a0 a v (g.aS [] a ?_ fO);simp[tc (λb x=>n b y)]
def yt(b:α->Bool)(d):(gN b d=-1/\∀a∈d,b a=m)∨∃e:Nat,e<c d/\gN b d=e/\(∀a∈d.take e,b a=m)/\(∀a,d[e]?=h a->b a=f):=by unfold gN;grind[List.findIdx?_eq_some_iff_getElem,List.getElem_of_mem]
def Nu{e0 bq}{b}(a:¬(e0<=w/\w<bq)):nR e0 bq b T w=T w:=bm a
theorem ih{a:p α}(d:e<c a)(b:α):a.take (e+1)=a.take e++[a.getD e b]:=by grind[List.take_add_one]
def Jp{d}{b:α->Bool}(g:e<c d)(i:∀a∈d.take e,b a=m)(j:∀a,d[e]?=h a->b a=f):(d.take (e+1)).filter (λa=>!b a)=d.take e:=by grind[List.take_add_one,List.filter_eq_self]
def _root_.Go.AM.c1.cW(a:c1 α)(d)(e)(l)(k)(b:k<=c d):bu k (lu e (a.a8 l) (a.fn d)) (a.fn (d.set e l)):=by intro i g;simp only[lu,c1.fn,gB];grind
structure Rz(d:p cb)(bd:cb->Bool)(w:Nat)(nP:p cb):Prop where
 fG:w<=c d
 len:c nP=c d
 done:nP.take (c ((d.take w).filter λl=>!bd l))=(d.take w).filter λl=>!bd l
 hN:∀e,w<=e->nP[e]?=d[e]?
def Ur(d)(z:c d<=4000000)(j)(ah)(bd:cb->Bool)(o:∀l,l∈d->Z r j [fG l,ax (.O ah)] [] (bj (bd l)) []):
  bl (ι:={n:Nat->p N // ∀e,e<c (d.filter λl=>!bd l)->n e=a2.fn (d.filter λl=>!bd l) e}) r 151 [cD 0 (.S (c d) 2 0 (c d)),ax (.fn (.func j) [] [.O ah])] [.h 89 2 (c d) (a2.fn d)]
   (λ_=>cD 0 (.S (c d) 2 0 (c (d.filter λl=>!bd l)))) (λn=>[.h 89 2 (c d) n.1]):=by
 refine bl.cw func151 rfl rfl rfl λF=>?_;refine a0 a v (g.aF (U6 d z j ah bd o) [0] a ?_);rcases yt bd d with⟨k,A⟩|⟨i0,C,k,A,ab⟩
 .rw[k];have B:d.filter (λl=>!bd l)=d:=sr.2 λl s=>by grind
  refine a7 [(12,f)] a E (g.bM ⟨a2.fn d,λe _=>by grind⟩ (g.aS [0] a ?_ h9));simp[B]
 rw[k];refine a7 [(12,m)] a oV ?_;refine g.aL 1 (λb:Nat×p cb=>Rz d bd b.1 b.2) (λb=>[(0,cD 0 (.S (c d) 2 0 (c d))),(1,ax (.fn (.func j) [] [.O ah])),(5,S (c ((d.take b.1).filter λl=>!bd l))),(6,S b.1)])
  (λb=>[.h 89 2 (c d) (a2.fn b.2)]) (λb=>c d-b.1) (i0+1,d) a ?_ a ?_ a ?_ ?_
 .exact PL
 .simp
 .exact Q0
 rintro⟨w,I⟩ ⟨t,ba,R,bC⟩;simp only at t ba R bC;by_cases J:w<c d
 .have s:d.getD w (0,[])∈d:=M;have u:c ((d.take w).filter λl=>!bd l)<=w:=fM (kI _ _) M;have D:I.getD (0+(w:Int).toNat) a2.I=d.getD w (0,[]):=M;refine a7 [(19,f)] a pT ?_;rw[D];refine g.aF (o _ s) [] a ?_;cases K:bd (d.getD w (0,[]))with
  |false=>
   have i:(d.take (w+1)).filter (λl=>!bd l)=(d.take w).filter (λl=>!bd l)++[d.getD w (0,[])]:=ii;refine a7 [(29,f)] a ?_ (g.aB (w+1,I.set (c ((d.take w).filter λl=>!bd l)) (d.getD w (0,[]))) a ?_ ?_ ?_ ?_)
   .simp only[U,a8];grind
   .simp[i]
   .have ai:=a2.cW I (c ((d.take w).filter λl=>!bd l)) (d.getD w (0,[])) (c d) y;exact Ov
   .refine⟨by grind,by grind,Ow,λe bq=>?_⟩;grind
   grind
  |true=>
   have i:(d.take (w+1)).filter (λl=>!bd l)=(d.take w).filter (λl=>!bd l):=ii;refine a7 [(29,m)] a oV (g.aB (w+1,I) a ?_ ?_ ?_ ?_)
   .simp[i]
   .simp
   .exact P9
   grind
 obtain rfl:w=c d:=y;rw[c8]at R⊢;have u:c (d.filter λl=>!bd l)<=c d:=kI _ _;refine a7 [(19,m)] a E (g.aC ?_);refine a0 a pT (g.aO (a1.eX be a a a a a a wC) a a ?_);refine a0 a pT (g.bM ⟨nR (0+bT 0 (h (c (d.filter λl=>!bd l):Int))) (0+bT 0 (h (c (d.filter λl=>!bd l):Int))+(bT (c d) q-bT 0 (h (c (d.filter λl=>!bd l):Int)))) nz.zero (a2.fn I),λe bq=>OW⟩ (g.aS [0] a ?_ h9));simp[bT];rfl
structure RA(d:p eI)(bd:eI->Bool)(w:Nat)(nP:p eI):Prop where
 fG:w<=c d
 len:c nP=c d
 done:nP.take (c ((d.take w).filter λl=>!bd l))=(d.take w).filter λl=>!bd l
 hN:∀e,w<=e->nP[e]?=d[e]?
def IJ(d)(z:c d<=4000000)(j)(ah)(bd:eI->Bool)(o:∀l,l∈d->Z r j [iR l,ax (.O ah)] [] (bj (bd l)) []):
  bl (ι:={n:Nat->p N // ∀e,e<c (d.filter λl=>!bd l)->n e=bk.fn (d.filter λl=>!bd l) e}) r 81 [cD 0 (.S (c d) 2 0 (c d)),ax (.fn (.func j) [] [.O ah])] [.h 96 2 (c d) (bk.fn d)]
   (λ_=>cD 0 (.S (c d) 2 0 (c (d.filter λl=>!bd l)))) (λn=>[.h 96 2 (c d) n.1]):=by
 refine bl.cw func81 rfl rfl rfl λF=>?_;refine a0 a v (g.aF (U9 d z j ah bd o) [0] a ?_);rcases yt bd d with⟨k,A⟩|⟨i0,C,k,A,ab⟩
 .rw[k];have B:d.filter (λl=>!bd l)=d:=sr.2 λl s=>by grind
  refine a7 [(12,f)] a E (g.bM ⟨bk.fn d,λe _=>by grind⟩ (g.aS [0] a ?_ h9));simp[B]
 rw[k];refine a7 [(12,m)] a oV ?_;refine g.aL 1 (λb:Nat×p eI=>RA d bd b.1 b.2) (λb=>[(0,cD 0 (.S (c d) 2 0 (c d))),(1,ax (.fn (.func j) [] [.O ah])),(5,S (c ((d.take b.1).filter λl=>!bd l))),(6,S b.1)])
  (λb=>[.h 96 2 (c d) (bk.fn b.2)]) (λb=>c d-b.1) (i0+1,d) a ?_ a ?_ a ?_ ?_
 .exact PL
 .simp
 .exact Q0
 rintro⟨w,I⟩ ⟨t,ba,R,bC⟩;simp only at t ba R bC;by_cases J:w<c d
 .have s:d.getD w (0,[])∈d:=M;have u:c ((d.take w).filter λl=>!bd l)<=w:=fM (kI _ _) M;have D:I.getD (0+(w:Int).toNat) bk.I=d.getD w (0,[]):=M;refine a7 [(19,f)] a pT ?_;rw[D];refine g.aF (o _ s) [] a ?_;cases K:bd (d.getD w (0,[]))with
  |false=>
   have i:(d.take (w+1)).filter (λl=>!bd l)=(d.take w).filter (λl=>!bd l)++[d.getD w (0,[])]:=ii;refine a7 [(29,f)] a ?_ (g.aB (w+1,I.set (c ((d.take w).filter λl=>!bd l)) (d.getD w (0,[]))) a ?_ ?_ ?_ ?_)
   .simp only[U,a8];grind
   .simp[i]
   .have ai:=bk.cW I (c ((d.take w).filter λl=>!bd l)) (d.getD w (0,[])) (c d) y;exact Ov
   .refine⟨by grind,by grind,Ow,λe bq=>?_⟩;grind
   grind
  |true=>
   have i:(d.take (w+1)).filter (λl=>!bd l)=(d.take w).filter (λl=>!bd l):=ii;refine a7 [(29,m)] a oV (g.aB (w+1,I) a ?_ ?_ ?_ ?_)
   .simp[i]
   .simp
   .exact P9
   grind
 obtain rfl:w=c d:=y;rw[c8]at R⊢;have u:c (d.filter λl=>!bd l)<=c d:=kI _ _;refine a7 [(19,m)] a E (g.aC ?_);refine a0 a pT (g.aO (a1.eX be a a a a a a wC) a a ?_);refine a0 a pT (g.bM ⟨nR (0+bT 0 (h (c (d.filter λl=>!bd l):Int))) (0+bT 0 (h (c (d.filter λl=>!bd l):Int))+(bT (c d) q-bT 0 (h (c (d.filter λl=>!bd l):Int)))) rR.zero (bk.fn I),λe bq=>OW⟩ (g.aS [0] a ?_ h9));simp[bT];rfl
abbrev dW:=Int×Int×Int×bD
abbrev l4(a:dW):p N:=[.int .i64 a.1,.int .i64 a.2.1,.int .i64 a.2.2.1,.V a.2.2.2]
abbrev vv(a:dW):p O:=[.c (.int .i64 a.1),.c (.int .i64 a.2.1),.c (.int .i64 a.2.2.1),.c (.V a.2.2.2)]
abbrev eF(a:dW):z:=.q (.agg (vv a))
abbrev iP(a:p N):z:=ax (.O a)
def Vq(l)(d):Z r 152 [fG l,iP (l4 d)] [] (bj (l.1==d.2.1)) []:=by refine Z.K func152 rfl λb=>?_;exact a0 a v (g.aw a)
def Vr(d:Int×Int)(bO)(k)(b:Nat->p N):Z r 155 [.q (.agg [.c (.int .i64 d.1),.c (.int .i64 d.2)]),iP [.int .i64 bO,.S m 2 k b]] [] (bj (d.2==bO)) []:=by refine Z.K func155 rfl λe=>?_;exact a0 a v (g.aw a)
def ZZ(a:α->Bool)(d):decide (gN a d≥0)=d.any a:=by
 rcases yt a d with⟨b,s⟩|⟨e,bq,b,_,j⟩
 .grind
 rw[b];symm;have:=j _ (bK bq);grind
def UT(d)(i:c d<=4000000)(bO)(k)(b:Nat->p N):Z r 138 [a3.S d,ax (.fn (.func 155) [] [.O [.int .i64 bO,.S m 2 k b]])] [] (bj (d.any λe=>e.2==bO)) []:=by refine Z.K func138 rfl λl=>?_;refine a0 a v ?_;refine g.aF (U0 d i 155 [.int .i64 bO,.S m 2 k b] (λe=>e.2==bO) λj _=>Vr j bO k b) [] a ?_;refine a0 a v (g.aw a ?_);simp only[U];exact ZZ _ d
def V7(l)(b)(d:c b<=4000000):Z r 154 [iR l,iP [.S m 2 (c b) (a3.fn b)]] [] (bj (b.any λe=>e.2==l.1)) []:=by refine Z.K func154 rfl λi=>?_;refine a7 [(1000001,f)] a v ?_;refine g.freeze 2 0 a a a ?_;refine a0 a v ?_;refine g.aF (UT b d l.1 (c l.2) (cy.fn l.2)) [] a ?_;exact a0 a v (g.aw a)
abbrev xO(a:Nat)(b:dW):z:=ax (.fn (.func a) [] [.O (l4 b)])
def Um(d)(u:d.1=1):Z r 116 [eF d] [] (xO 150 d) []:=by refine Z.K func116 rfl λb=>?_;refine a7 [(1000001,f)] a v ?_;refine g.freeze 1 0 a a a ?_;exact a7 [(5,f)] a g4 (g.aw a)
def IH(d)(u:d.1=2):Z r 116 [eF d] [] (xO 153 d) []:=by refine Z.K func116 rfl λb=>?_;refine a7 [(1000001,f)] a v ?_;refine g.freeze 1 0 a a a ?_;exact a7 [(5,m),(8,f)] a g4 (g.aw a)
def II(d)(u:d.1=3):Z r 116 [eF d] [] (xO 156 d) []:=by refine Z.K func116 rfl λb=>?_;refine a7 [(1000001,f)] a v ?_;refine g.freeze 1 0 a a a ?_;exact a7 [(5,m),(8,m),(11,f)] a g4 (g.aw a)
def Un(d)(u:d.1=4):Z r 116 [eF d] [] (xO 157 d) []:=by refine Z.K func116 rfl λb=>?_;refine a7 [(1000001,f)] a v ?_;refine g.freeze 1 0 a a a ?_;exact a7 [(5,m),(8,m),(11,m),(14,f)] a g4 (g.aw a)
def Uo(d)(i:d.1≠1)(b:d.1≠2)(j:d.1≠3)(e:d.1≠4):Z r 116 [eF d] [] (ax (.fn (.func 158) [] [])) []:=by refine Z.K func116 rfl λk=>?_;refine a7 [(1000001,f)] a v ?_;refine g.freeze 1 0 a a a ?_;exact a7 [(5,m),(8,m),(11,m),(14,m)] a (by simp[i,b,j,e]) (g.aw a)
abbrev tG(a:p cb):N:=.S m 2 (c a) (a2.fn a)
abbrev tH(a:p eI):N:=.S m 2 (c a) (bk.fn a)
abbrev hZ(a:p (Int×Int)):N:=.S m 2 (c a) (a3.fn a)
abbrev tI(a:cB)(g:dW)(i:p an)(b d e:O):p an:=[.cells 27 [.c (tG a.1),.c (tH a.2.1),.c (hZ a.2.2)],.cells 32 (vv g),.cells 27 [cG,cG,cG]]++i++[.cells 27 [b,d,e]]
abbrev dF(a d b:Nat):O:=.R a (.S d 2 0 b)
def Ut(b)(d)(l:c b.1<=4000000):
  bl (ι:={e:Nat->p N // ∀j,j<c (b.1.filter λi=>!(i.1==d.2.1))->e j=a2.fn (b.1.filter λi=>!(i.1==d.2.1)) j}) r 150 [aH 5 0,iP (l4 d)]
   (tI b d [.h 89 2 (c b.1) (a2.fn b.1),.h 96 2 (c b.2.1) (bk.fn b.2.1)] (dF 3 (c b.1) (c b.1)) (dF 4 (c b.2.1) (c b.2.1)) (.c (hZ b.2.2)))
   (λ_=>.Q []) (λe=>tI b d [.h 89 2 (c b.1) e.1,.h 96 2 (c b.2.1) (bk.fn b.2.1)] (dF 3 (c b.1) (c (b.1.filter λi=>!(i.1==d.2.1)))) (dF 4 (c b.2.1) (c b.2.1)) (.c (hZ b.2.2))):=by refine bl.bR func150 rfl rfl rfl (g.aW ?_);refine a0 a v (g.a' (Ur b.1 l 152 (l4 d) (λi=>i.1==d.2.1) λi _=>Vq i d) [3] a bp ?_);rintro⟨e,k⟩;exact a0 a v ⟨⟨e,k⟩,.inr a,a,a,_,_,_,a,a,a,v⟩
def Wq(n)(d:jW n=f)(b):Z r 158 [.q (.aq b)] n (.Q []) n:=by refine bl.toZ (bl.bR (ι:=Unit) (res:=λ_=>.Q []) (ao:=λ_=>n) func158 rfl rfl rfl (g.aW ?_));refine a0 a v ?_;exact⟨(),.inr a,a,d,_,_,_,a,a,a,v⟩
abbrev mW(a:cB)(b:dW):p an:=tI a b [.h 89 2 (c a.1) (a2.fn a.1),.h 96 2 (c a.2.1) (bk.fn a.2.1)] (dF 3 (c a.1) (c a.1)) (dF 4 (c a.2.1) (c a.2.1)) (.c (hZ a.2.2))
def jv(d:Nat)(a:p (Int×Int))(e:eI):Bool:=(a.drop d).any λb=>b.2==e.1
def TL(b)(d:dW)(e:d.2.1<0∨d.2.1>c b.2.2):Z r 153 [aH 5 0,iP (l4 d)] (mW b d) (.Q []) (mW b d):=by
 refine bl.toZ (bl.bR (ι:=Unit) (res:=λ_=>.Q []) (ao:=λ_=>mW b d) func153 rfl rfl rfl (g.aW ?_));by_cases x:d.2.1<0
 .exact a7 [(7,f),(16,f)] a oY Oa
 exact a7 [(7,m),(16,f)] a bV Oa
def _root_.Go.AM.c1.hh(a:c1 α)(d)(k A):bu A (fB k (a.fn d)) (a.fn (d.drop k)):=λb _=>by simp[fB,c1.fn,gB,al]
abbrev Ih:z:=aH 5 0
abbrev Hc(b:cB)(a:dW):N:=.S (xM m q) 2 (bT (c b.2.2) q-bT 0 (h a.2.1)) (fB (bT 0 (h a.2.1)) (a3.fn b.2.2))
def ny(b:cB)(a:dW)(d:Nat)(e:a.2.1=d)(g:d<=c b.2.2):U (jl (c b.2.2) (h a.2.1) q):=by show 0<=a.2.1/\a.2.1<=(c b.2.2:Int);omega
def TM(b:cB)(d:dW)(k:Nat)(j:d.2.1=k)(u:k<=c b.2.2)(t:c b.2.1<=4000000)(x:c b.2.2<=4000000):
  bl (ι:={e:Nat->p N // ∀i,i<c (b.2.1.filter λl=>!jv k b.2.2 l)->e i=bk.fn (b.2.1.filter λl=>!jv k b.2.2 l) i}) r 153 [aH 5 0,iP (l4 d)] (mW b d) (λ_=>.Q [])
   (λe=>tI b d [.h 89 2 (c b.1) (a2.fn b.1),.h 96 2 (c b.2.1) e.1] (dF 3 (c b.1) (c b.1)) (dF 4 (c b.2.1) (c (b.2.1.filter λl=>!jv k b.2.2 l))) (.c (.S m 2 d.2.1.toNat (a3.fn b.2.2)))++[.x]):=by
 refine bl.bR func153 rfl rfl rfl (g.aW ?_);have o:d.2.1.toNat=k:=y;refine a7 [(7,m),(16,m),(1000001,f)] a pT ?_;refine g.hL (ι:=Unit) b7 7 8 (λi=>ay i 6) (λi=>[Ih,Ih,aH 5 2,ax (hZ b.2.2),iP [.int .i64 d.2.1,.int .i64 d.2.2.1,.V d.2.2.2],S d.2.1,ax (Hc b d)].getD i .any) (λ_ i=>[.any,.any,.any,.any,.any,.any,.any,aH 6 0,.any].getD i .any)
  (λ_=>mW b d++[.cells 25 [cG]]) (λ_=>mW b d++[.cells 25 [.c (Hc b d)]]) a a a a a a a a a a
  ⟨aV.y,aV.y,aV.y,aV.y,aV.y,aV.y,?_,v,v,v⟩
  (λ_=>⟨aV.y,aV.y,aV.y,aV.y,aV.y,aV.y,?_,v,v⟩)
  (dB.dk (eh (bh:=[]) be a9.nil (ao:=h _) (ck:=[]) a v)) (λ_=>eh (bh:=[]) be a9.nil (ao:=h _) (ck:=[]) a v) λ_=>?_
 .exact Qw
 .exact Qw
 refine a7 [(1000002,f)] a v (g.bg (mW b d++[.cells 25 [.c (hZ (b.2.2.drop k))]]) a ?_ ?_)
 .have s:=a3.hh b.2.2 k (c b.2.2-k);have w:bT 0 (h d.2.1)=k:=o;simp only[U.Z,U,w,a_,bb,sv];exact⟨⟨bu.same,bu.same,bu.same⟩,⟨bu.same,bu.same,bu.same⟩,bu.same,bu.same,bu.same,a,s⟩
 refine g.freeze 3 6 a a a ?_;refine a0 a v (g.a' (IJ b.2.1 t 154 [hZ (b.2.2.drop k)] (jv k b.2.2) λl _=>V7 l (b.2.2.drop k) bV) [4] a bp ?_);rintro⟨e,n⟩;exact a0 a ⟨show 0<=d.2.1 by omega,Int.le_refl _,show d.2.1<=(c b.2.2:Int) by omega⟩ ⟨⟨e,n⟩,.inr a,a,a,_,_,_,a,a,a,v⟩
abbrev oP(a:cB)(d:dW)(b:Nat->p N):p an:=tI a d [.h 89 2 (c a.1) (a2.fn a.1),.h 96 2 (c a.2.1) (bk.fn a.2.1),.h 146 2 (c a.2.2) b] (dF 3 (c a.1) (c a.1)) (dF 4 (c a.2.1) (c a.2.1)) (dF 5 (c a.2.2) (c a.2.2))
abbrev yf(b:cB)(a:dW):Nat->p N:=lu (0+a.2.1.toNat) [.int .i64 (3-(b.2.2.getD (0+a.2.1.toNat) a3.I).1),.int .i64 (b.2.2.getD (0+a.2.1.toNat) a3.I).2] (a3.fn b.2.2)
def UD(b)(d:dW)(i:¬(0<=d.2.1/\d.2.1<c b.2.2)):Z r 157 [aH 6 0,iP (l4 d)] (oP b d (a3.fn b.2.2)) (.Q []) (oP b d (a3.fn b.2.2)):=by
 refine bl.toZ (bl.bR (ι:=Unit) (res:=λ_=>.Q []) (ao:=λ_=>oP b d (a3.fn b.2.2)) func157 rfl rfl rfl (g.aW ?_));by_cases e:0<=d.2.1
 .exact a7 [(6,f),(15,m)] a (by simp[e];omega) OI
 exact a7 [(6,m),(15,m)] a bV OI
abbrev xU:z:=aH 6 0
abbrev Ii:z:=aH 6 2
abbrev Ie(a:cB):z:=.q (.aq (dF 5 (c a.2.2) (c a.2.2)))
abbrev xQ(b:cB)(a:dW):z:=cD 5 (.bz (c b.2.2) 2 (0+a.2.1.toNat) 0)
abbrev Ig(a:dW):z:=iP [.int .i64 a.2.1,.int .i64 a.2.2.1,.V a.2.2.2]
abbrev ly(b:cB)(a:dW):Int:=(b.2.2.getD (0+a.2.1.toNat) a3.I).1
def UE(b)(d:dW)(l:0<=d.2.1)(k:d.2.1<c b.2.2)(j:a8 .i64 (3-ly b d)):Z r 157 [aH 6 0,iP (l4 d)] (oP b d (a3.fn b.2.2)) (.Q []) (oP b d (yf b d)):=by
 refine bl.toZ (bl.bR (ι:=Unit) (res:=λ_=>.Q []) (ao:=λ_=>oP b d (yf b d)) func157 rfl rfl rfl (g.aW ?_));refine a7 [(6,f),(15,f),(1000001,f)] a pT ?_;have cz:0<=d.2.1/\d.2.1<((c b.2.2:Nat):Int):=⟨l,k⟩;have i:c b.2.2=c b.2.2/\0+d.2.1.toNat<c b.2.2:=⟨rfl,by omega⟩
 refine g.hL (ι:=Unit) b7 0 18 (λe=>ay 4 e&&ay e 15) (λe=>[.any,.any,.any,.any,Ig d,S d.2.1,xU,xU,Ii,Ie b,Ig d,S d.2.1,xQ b d,xQ b d,S (ly b d),S (3-ly b d)].getD e .any) (λ_ e=>[xU,xU,Ii,Ie b,.any,.any,.any,.any,.any,.any,.any,.any,.any,.any,.any,.any,xQ b d,xQ b d,.any].getD e .any)
  (λ_=>oP b d (a3.fn b.2.2)) (λ_=>oP b d (yf b d)) a a a a a a a a a a
  ⟨v,v,v,v,aV.y,aV.y,aV.y,aV.y,aV.y,aV.y,aV.y,aV.y,?_,aV.y,?_,?_,v,v,v,v⟩
  (λ_=>⟨v,aV.y,aV.y,aV.y,aV.y,aV.y,aV.y,aV.y,aV.y,aV.y,aV.y,aV.y,?_,aV.y,?_,?_,?_,aV.y,v⟩)
  (dB.dk (aV.y)) (λ_=>?_) λ_=>?_
 .exact E'
 .exact aV.eval (bh:=[]) be a9.nil a i
 .exact aV.eval (bh:=[]) be a9.nil a j
 .exact E'
 .exact aV.eval (bh:=[]) be a9.nil a i
 .exact aV.eval (bh:=[]) be a9.nil a j
 .exact E'
 .exact eh (bh:=[]) be a9.nil (ao:=h _) a i
 exact Q2
def Vb(k e0 bq):Z r 24 [S k,S e0,S bq] [] (bj (decide (e0<=k/\k<=bq))) []:=by
 refine Z.K func24 rfl λd=>?_;by_cases b:e0<=k
 .by_cases s:k<=bq
  .refine a7 [(10,f),(14,f)] a bV (g.aw a ?_);exact bw
  refine a7 [(10,f),(14,m)] a bV (g.aw a ?_);simp;omega
 refine a7 [(10,m),(14,m)] a bV (g.aw a ?_);simp;omega
abbrev jQ:bL:=kn db db db (λd b a=>bj (decide (b<=d/\d<=a))) λ_ _ _=>[]
def kB:bM r 24 jQ:=.c8 λd b a _=>Vb d b a
def T1(b:Nat)(l:b<=4000000):Z r 236 [S b] [] (S (e8 b)) []:=by
 refine Z.K func236 rfl λk=>?_;by_cases j:b<1
 .refine a7 [(6,f),(9,f)] a bV (g.aw a ?_);have:e8 b=0:=by simp[e8,j]
  simp[this]
 by_cases i:8<b
 .refine a7 [(6,m),(9,f)] a bV (g.aw a ?_);have:e8 b=0:=by simp[e8,i]
  simp[this]
 by_cases d:b<=2
 .refine a7 [(6,m),(9,m),(10,f)] a bV (g.aw a ?_);have:e8 b=2:=by simp only[e8,bm (show¬(b<1∨8<b) by omega),bs d]
  simp[this]
 by_cases e:b<=4
 .refine a7 [(6,m),(9,m),(10,m),(13,f)] a bV (g.aw a ?_);have:e8 b=4:=by simp only[e8,bm (show¬(b<1∨8<b) by omega),bm d,bs e]
  simp[this]
 refine a7 [(6,m),(9,m),(10,m),(13,m)] a bV (g.aw a ?_);have:e8 b=8:=by simp only[e8,bm (show¬(b<1∨8<b) by omega),bm d,bm e]
 simp[this]
def Va(d)(e)(o:c d<=4000000):Z r 186 [bS.S d,b1 e] [] (bj (d.contains e)) []:=by
 refine Z.K func186 rfl λn=>?_;refine a0 a v (g.aL 0 (λb=>b<=c d/\∀j,j<b->d.getD j []≠e) (λb:Nat=>[(0,bS.S d),(1,b1 e),(5,S b)]) (λ_=>[]) (λb=>c d-b) 0 a E a E a ⟨by omega,by omega⟩ ?_);rintro b ⟨k,l⟩;by_cases t:b<c d
 .have i:d.getD (b:Int).toNat bS.I=d.getD b []:=M;by_cases p:d.getD b []=e
  .refine a7 [(9,f),(17,f)] a ?_ (g.aX (bW.zero a ?_))
   .simp only[U,i];grind
   have:e∈d:=M;simp[this]
  refine a7 [(9,f),(17,m)] a ?_ (g.aB (b+1) a ?_ ?_ ?_ ?_)
  .simp only[U,i,a8];grind
  .simp
  .simp
  .grind
  omega
 refine a7 [(9,m)] a bV (g.aC ?_);refine a0 a v (g.aw a ?_);have:¬e∈d:=λs=>by grind[List.getElem_of_mem]
 simp[this]
def T5(b)(d:cC b=f):Z r 212 [b1 b] [] (S (gi b)) []:=by
 refine Z.K func212 rfl λo=>?_;have k:=d;simp[cC,cp,bA]at k;refine a0 a v (g.aL 0 (λe=>e<=c b) (λe:Nat=>[(0,b1 b),(3,S (gi (b.take e))),(4,S e)]) (λ_=>[]) (λe=>c b-e) 0 a (by simp[gi]) a E a y ?_);intro e j;by_cases l:e<c b
 .have C:=xF d j;have s:=xF d (e:=e+1) y;have p:=HO l;have t:=qI k.2 (b.getD e 0) (C1 l);have n:97<=ds b e/\ds b e<=122:=EX;refine a7 [(8,f)] a ?_ (g.aB (e+1) a ?_ ?_ ?_ ?_)
  .simp only[U,km,a8];grind
  .have i:(ds b e-97) % 256=ds b e-97:=Int.emod_eq_of_lt y y;exact bH
  .simp
  .grind
  grind
 obtain rfl:e=c b:=y;exact PI
def adL:bM r 212 (dm eE (λa=>S (gi a)) λa=>[cC a=f]):=.bb λa b=>T5 a b
def Wi(i)(b)(d:cF i=f)(j:cC b=f):Z r 174 [S i,b1 b] [] (S (d8 i b)) []:=by
 refine Z.K func174 rfl λp=>?_;have o:a9 r [(212,dm eE (λb=>S (gi b)) λb=>[cC b=f])]:=.cons adL .nil;have e:=d;simp[cF,cp,bA]at e;have k:=xE j;refine ca o a ?_ (g.aw a ?_)
 .have n:0<=gi b*(2*i+1):=Int.mul_nonneg k.1 y;have l:gi b*(2*i+1)<=282429536481*199:=Int.mul_le_mul y y y y;generalize gi b*(2*i+1)=s at n l;simp[U,a8];grind
 exact bH
def zr:bM r 174 (er db eE (λa b=>S (d8 a b)) λa b=>[cF a=f,cC b=f]):=.bn λa b d=>Wi a b d.1 d.2
def UC(d)(k)(p:c d<=4000000):Z r 185 [e6.S d,S k] [] (S (iT d k)) []:=by
 refine Z.K func185 rfl λo=>?_;refine a0 a v (g.aL 0 (λb=>b<=c d/\∀j,j<b->(d.getD j (0,0)).1≠k) (λb:Nat=>[(0,e6.S d),(1,S k),(5,S b)]) (λ_=>[]) (λb=>c d-b) 0 a E a E a ⟨by omega,by omega⟩ ?_);rintro b ⟨l,n⟩;by_cases t:b<c d
 .have i:d.getD (b:Int).toNat e6.I=d.getD b (0,0):=M;by_cases s:(d.getD b (0,0)).1=k
  .refine a7 [(9,f),(18,f)] a ?_ (g.aX (bW.zero a ?_))
   .simp only[U,i];grind
   have:iT d k=(d.getD b (0,0)).2:=by
    have:d.find? (λe=>e.1==k)=h (d.getD b (0,0)):=by grind[List.find?_eq_some_iff_getElem]
    rw[iT,this]
   simp_all
  refine a7 [(9,f),(18,m)] a ?_ (g.aB (b+1) a ?_ ?_ ?_ ?_)
  .simp only[U,i,a8];grind
  .simp
  .simp
  .grind
  omega
 refine a7 [(9,m)] a bV (g.aC ?_);refine a0 a v (g.aw a ?_);have:iT d k=0:=by have:d.find? (λe=>e.1==k)=q:=wD;rw[iT,this]
 simp[this]
theorem HL(a:1<=k)(b:k<=8):k<=e8 k/\e8 k<=8:=FV
abbrev G3:bL:=dm db (λa=>S (e8 a.toNat)) λa=>[0<=a/\a<=4000000]
def adK:bM r 236 G3:=.bb λb d=>by
 obtain⟨a,rfl⟩:∃a:Nat,b=a:=⟨b.toNat,by exact lL⟩
 exact T1 a lL
def WI(b)(j:cC b=f):Z r 190 [b1 b] [] (b1 (fI b)) []:=by
 refine Z.K func190 rfl λl=>?_;have e:a9 r [(236,G3)]:=.cons adK .nil;have i:=j;simp only[cC,cp,bA]at i;have o:=HL i.1.1 i.1.2;refine ca e a bw (g.aL 0 (λd=>c b+d<=e8 (c b)) (λd:Nat=>[(0,b1 (b++aY d 46)),(3,S (e8 (c b)))]) (λ_=>[]) (λd=>e8 (c b)-d) 0 a E a E a y ?_);intro d n;by_cases p:c b+d<e8 (c b)
 .refine a' e [(10,f)] a bV (g.aB (d+1) a ?_ ?_ ?_ ?_)
  .simp[List.replicate_succ']
  .simp
  .grind
  grind
 have k:e8 (c b)-c b=d:=y;refine a' e [(10,m)] a bV (g.aC ?_);refine ca e a v (g.aw a ?_);simp[fI,j,k]
def Xo(b):Z r 187 [.q (.agg [.c (.int .i64 b.1),.c (.int .i64 b.2)])] [] (bj (fU b)) []:=by
 refine Z.K func187 rfl λi=>?_;have e:a9 r [(24,jQ)]:=.cons kB .nil;by_cases d:0<=b.1/\b.1<=999999999988
 .by_cases j:1<=b.2/\b.2<=99
  .refine a' e [(6,f),(10,f)] a (by simp[d,j]) (g.aw a ?_);have:fU b=f:=by simp[fU,d,j];omega
   simp[this]
  refine a' e [(6,f),(10,m)] a (by simp[d,j]<;>omega) (g.aw a ?_);have:fU b=m:=by simp[fU,d];omega
  simp[this]
 refine a' e [(6,m),(10,m)] a bV (g.aw a ?_);have:fU b=m:=by simp[fU];omega
 simp[this]
abbrev HA:bL:=dm p7 (λa=>bj (fU a)) λ_=>[]
def aer:bM r 187 HA:=.bb λa _=>Xo a
def J2{a:α->Bool}{d}(b:d.any a=f):0<=gN a d:=by unfold gN;grind
theorem Z0{a:α->Bool}{d}(b:d.any a=m):gN a d=-1:=by unfold gN;grind
def U1(d)(j)(b:Int×Int->Bool)(p:∀i,i∈d->Z r j [.q (.agg [.c (.int .i64 i.1),.c (.int .i64 i.2)])] [] (bj (b i)) []):
  Z r 183 [a3.S d,ax (.fn (.func j) [] [])] [] (S (gN b d)) []:=by
 refine Z.K func183 rfl λn=>?_;have s:=n.S 0 a;refine a0 a v (g.cc (λe=>e<=c d/\∀w,w<e->b (d.getD w (0,0))=m) (λe:Nat=>[(0,a3.S d),(1,ax (.fn (.func j) [] [])),(7,S (c d)),(8,S e)]) (λ_=>[]) (λe=>c d-e) 0 a E a v ⟨by omega,by omega⟩ ?_);rintro e ⟨o,x⟩;by_cases u:e<c d
 .have k:d.getD e (0,0)∈d:=M;have l:d.getD (e:Int).toNat a3.I=d.getD e (0,0):=M;refine a7 [(9,f)] a bw ?_;rw[l];refine g.aF (p _ k) [] a ?_;cases A:b (d.getD e (0,0))with
  |true=>
   exact Oz
  |false=>
   exact Ob
 exact PP
def UO(d)(i)(b:Int×Int->Bool)(j:∀e,e∈d->Z r i [.q (.agg [.c (.int .i64 e.1),.c (.int .i64 e.2)])] [] (bj (b e)) []):
  Z r 138 [a3.S d,ax (.fn (.func i) [] [])] [] (bj (d.any b)) []:=by
 refine Z.K func138 rfl λk=>?_;refine a0 a v (g.aF (U1 d i b j) [] a ?_);cases u:d.any b with
 |true=>
  exact Pf
 |false=>
  exact PQ
def U7(d)(j)(ah)(b:cb->Bool)(p:∀i,i∈d->Z r j [fG i,ax (.O ah)] [] (bj (b i)) []):
  Z r 102 [a2.S d,ax (.fn (.func j) [] [.O ah])] [] (S (gN b d)) []:=by
 refine Z.K func102 rfl λn=>?_;have s:=n.S 0 a;refine a0 a v (g.cc (λe=>e<=c d/\∀w,w<e->b (d.getD w (0,[]))=m) (λe:Nat=>[(0,a2.S d),(1,ax (.fn (.func j) [] [.O ah])),(7,S (c d)),(8,S e)]) (λ_=>[]) (λe=>c d-e) 0 a E a v ⟨by omega,by omega⟩ ?_);rintro e ⟨o,x⟩;by_cases u:e<c d
 .have k:d.getD e (0,[])∈d:=M;have l:d.getD (e:Int).toNat a2.I=d.getD e (0,[]):=M;refine a7 [(9,f)] a bw ?_;rw[l];refine g.aF (p _ k) [] a ?_;cases A:b (d.getD e (0,[]))with
  |true=>
   exact Oz
  |false=>
   exact Ob
 exact PP
def UQ(d)(e)(ah)(b:cb->Bool)(j:∀i,i∈d->Z r e [fG i,ax (.O ah)] [] (bj (b i)) []):
  Z r 56 [a2.S d,ax (.fn (.func e) [] [.O ah])] [] (bj (d.any b)) []:=by
 refine Z.K func56 rfl λk=>?_;refine a0 a v (g.aF (U7 d e ah b j) [] a ?_);cases u:d.any b with
 |true=>
  exact Pf
 |false=>
  exact PQ
def U5(d)(j)(ah)(H:aa->(Nat->Option Obj)->Prop)(i:Int->Bool)(u:∀l,l∈d->Z r j [S l,ax (.O ah)] [.J H] (bj (i l)) [.J H]):
  Z r 100 [aB.S d,ax (.fn (.func j) [] [.O ah])] [.J H] (S (gN i d)) [.J H]:=by
 refine Z.K func100 rfl λp=>?_;have x:=p.S 0 a;refine a0 a v (g.aL 1 (λe=>e<=c d/\∀b,b<e->i (d.getD b 0)=m) (λe:Nat=>[(0,aB.S d),(1,ax (.fn (.func j) [] [.O ah])),(7,S (c d)),(8,S e)]) (λ_=>[.J H]) (λe=>c d-e) 0 a E a E a ⟨by omega,by omega⟩ ?_);rintro e ⟨t,n⟩;by_cases s:e<c d
 .have k:d.getD e 0∈d:=M;have o:d.getD (e:Int).toNat aB.I=d.getD e 0:=M;refine a7 [(9,f)] a bw ?_;rw[o];refine g.aF (u _ k) [0] a ?_;cases w:i (d.getD e 0)with
  |true=>
   refine a7 [(16,f)] a E (g.aX (bW.mk [0] a ?_ a a a h9));simp[tb s w n]
  |false=>
   exact zV
 refine a7 [(9,m)] a bV (g.aC ?_);refine a0 a v (g.aS [0] a ?_ h9);simp[tc (λb z=>n b y)]
def UP(d)(e)(ah)(H:aa->(Nat->Option Obj)->Prop)(b:Int->Bool)(j:∀i,i∈d->Z r e [S i,ax (.O ah)] [.J H] (bj (b i)) [.J H]):
  Z r 53 [aB.S d,ax (.fn (.func e) [] [.O ah])] [.J H] (bj (d.any b)) [.J H]:=by
 refine Z.K func53 rfl λl=>?_;refine a0 a v (g.aF (U5 d e ah H b j) [0] a ?_);cases k:d.any b with
 |true=>
  refine a7 [(8,f)] a (fq (J2 k)) (g.aS [0] a ?_ h9);simp
 |false=>
  refine a7 [(8,m)] a (lG NM) (g.aS [0] a ?_ h9);simp
def Gt(b:t.op=.call {callee:=.builtin .append,args:=#[l,X],argTypes:=#[87,87]}):j9 V t l X 131 l1:=
 ⟨⟨87,87,C9,C9,b,(be _ _ a),rfl,(be _ _ a),rfl⟩,(be _ _ a),by decide,by decide⟩
def Ha(d)(k):∀a,a<k->∀e∈bI.fn d a,nu e=f:=by
 intro a _ e b;have:bI.fn d a=[.int .i64 (d.getD a bI.I).1,.V (d.getD a bI.I).2]:=rfl;rw[this]at b;rcases e4.1 b with rfl|b
 .rfl
 rcases e4.1 b with rfl|b
 .rfl
 grind
abbrev p0(a:p cY):Type:={b:fl×p aa // ej 2 (c a) (bI.fn a) b.2}
abbrev tt(d)(a:p0 d):an:=.J (cn 131 2 a.1.1 (c d) a.1.2)
abbrev r4(d)(a:p0 d):N:=.val (c0 a.1.1 (c d))
def T4(d)(j:0<c d)(l:c d<=4000000):bl (ι:=p0 d) r 170 [bI.S d] [] (λb=>ax (r4 d b)) (λb=>[tt d b]):=by
 refine bl.cw func170 rfl rfl rfl λk=>?_;refine a0 a v (g.en be a a a a a a λi n=>?_);cases i with
 |true=>grind
 |false=>
  refine gR [] 7 a v (g.fD (Gt a) a a a j z7 (Ha d _) a a λb=>?_);refine a0 a v (g.bM b (g.aS [0] a ?_ (λo e=>absurd e E)));simp
def Ww(b)(i:0<c b.2)(e:c b.2<=4000000):bl (ι:=p0 b.2) r 120 [fG b] [] (λd=>.q (.agg [.c (.int .i64 b.1),.c (r4 b.2 d)])) (λd=>[tt b.2 d]):=by refine bl.bG be func120 rfl rfl rfl λk=>?_;refine a0 a v ?_;refine g.a' (T4 b.2 i e) [] a bp ?_;intro d;refine a0 a v ?_;refine g.bj d [2] ?_ (λl j=>absurd j E);simp
def nA(a:p cb)(b:Nat)(e:aa)(d:Nat):N:=if d=b then .val e else .S m 2 (a.getD d (0,[])).2.length (bI.fn (a.getD d (0,[])).2)
def gl(a:p cb)(b:Nat)(e:aa)(d:Nat):p N:=[.int .i64 (a.getD d (0,[])).1,nA a b e d]
def Lg{Y}{i0}{bC}(u:e≠i0):bu (e+1) (cg e (gl Y i0 bC) (λb=>[a2.a8 (Y.getD e (0,[]))].getD b [])) (gl Y i0 bC):=λa d=>by
 unfold cg;split
 .rfl
 have:a=e:=y;subst this;rw[sE];exact E3
def Lh{Y}{i0}{bC EN}:bu (i0+1) (cg i0 (gl Y i0 EN) (λb=>[[.int .i64 (Y.getD i0 (0,[])).1,.val bC]].getD b [])) (gl Y i0 bC):=λa d=>by
 unfold cg;split
 .simp only[gl,nA,bm (show a≠i0 by omega)]
 have:a=i0:=y;subst this;rw[sE];simp only[gl,nA,bs];rfl
abbrev S3:Type:=Nat×fl×Nat×p aa
def I3(b:p cb)(a:Nat)(d:S3):Prop:=d.1<=c b/\((d.1<=a/\d.2.2.1=0)∨(a<d.1/\d.2.2.1=(b.getD a (0,[])).2.length/\ej 2 (b.getD a (0,[])).2.length (bI.fn (b.getD a (0,[])).2) d.2.2.2))
abbrev aba(a:S3):an:=.J (cn 131 2 a.2.1 a.2.2.1 a.2.2.2)
abbrev nM(a:S3):aa:=c0 a.2.1 a.2.2.1
def Xs(b)(i0)(V:i0<c b.1)(K:0<(b.1.getD i0 (0,[])).2.length)(z:c b.1<=4000000)(A:∀e∈b.1,c e.2<=4000000)(X:c b.2.1<=4000000)(J:lv b)(R:c b.2.2<=4000000):
  bl (ι:=p0 (b.1.getD i0 (0,[])).2) r 80 [b' b] [] (λ_=>.q (.agg [.R 0 (.S (c b.1) 2 0 (c b.1)),.R 1 (.S (c b.2.1) 2 0 (c b.2.1)),.c (.S m 2 (c b.2.2) (a3.fn b.2.2))]))
   (λk=>[.h 89 2 (c b.1) (gl b.1 i0 (c0 k.1.1 (b.1.getD i0 (0,[])).2.length)),.h 96 2 (c b.2.1) (bk.fn b.2.1),tt (b.1.getD i0 (0,[])).2 k]):=by
 refine bl.bG be func80 rfl rfl rfl λW=>?_;have l:a9 r [(120,xA),(121,xB)]:=.cons EE (.cons EF .nil);refine a' l [(1000002,f)] a v (g.ek 2 0 89 2 (a2.fn []) a a ?_);refine g.ek 2 1 96 2 (bk.fn []) a a ?_;refine g.fh 131 2 ?_;refine ca l a v ?_;refine g.aL 6 (I3 b.1 i0) (λo:S3=>[(1,aH 0 0),(2,aH 1 0),(3,aH 2 0),(9,a2.S b.1),(10,S (c b.1)),(11,S o.1)])
  (λo=>[.cells 27 [.c (.S m 2 (c b.1) (a2.fn b.1)),.c (.S m 2 (c b.2.1) (bk.fn b.2.1)),.c (.S m 2 (c b.2.2) (a3.fn b.2.2))],.cells 27 [cG,cG,cG],.cells 27 [.R 3 (.S o.1 2 0 o.1),.R 4 (.S 0 2 0 0),cG],.h 89 2 o.1 (gl b.1 i0 (nM o)),.h 96 2 0 (bk.fn []),aba o]) (λo=>c b.1-o.1) (0,.nil q,0,[]) a ?_ a ?_ a ⟨by omega,.inl ⟨by omega,rfl⟩⟩ ?_
 .simp
 .simp
 rintro⟨d,i,p,n⟩ ⟨t,x⟩;simp only at t x;by_cases u:d<c b.1
 .have w:b.1.getD d (0,[])∈b.1:=M;have j:b.1.getD (d:Int).toNat a2.I=b.1.getD d (0,[]):=M;by_cases C:d=i0
  .subst C;have D:p=0:=by rcases x with⟨_,O⟩|⟨N,_⟩<;>omega
   have Q:=A _ w;refine a' l [(12,f),(1000005,f)] a bw ?_;rw[j];generalize F:b.1.getD d (0,[])=e at *;refine g.eI (ι:=p0 e.2) b7 3 5 4 (λs=>ay s 2) (λs=>[aH 2 0,cD 3 (.S d 2 0 d),fG e].getD s .any) (λk s=>[.any,.any,.any,.q (.agg [.c (.int .i64 e.1),.c (r4 e.2 k)]),ax (.S f 2 1 (λB=>[[.int .i64 e.1,r4 e.2 k]].getD B []))].getD s .any)
    (λk=>[.cells 27 [.c (.S m 2 (c b.1) (a2.fn b.1)),.c (.S m 2 (c b.2.1) (bk.fn b.2.1)),.c (.S m 2 (c b.2.2) (a3.fn b.2.2))],.cells 27 [cG,cG,cG],.cells 27 [.R 3 (.S d 2 0 d),.R 4 (.S 0 2 0 0),cG],.h 89 2 d (gl b.1 d (c0 i p)),.h 96 2 0 (bk.fn []),.J (cn 131 2 i p n),.cells 89 [.c (.int .i64 e.1),.c (.S m 2 (c e.2) (bI.fn e.2))],tt e.2 k])
    rfl rfl rfl rfl rfl rfl rfl (λs u=>by have:=ff u;omega) rfl
    ⟨aV.y,aV.y,aV.y,v,v,v,v,v,v⟩
    (λk=>⟨aV.y,aV.y,aV.y,v,aV.y,v⟩)
    (dB.dm (Ww e K Q) [] a a a a a a a bp a bp) λk=>?_
   refine a' l [(1000006,f)] a Qz (g.swap 5 7 cc a a (λ_ _ u=>u.1) (λ_ _ u=>u.1) ?_);refine ca l a bH (g.aB (d+1,k.1.1,c e.2,k.1.2) a E ?_ ?_ ?_)
   .have ai:=Lh (Y:=b.1) (i0:=d) (bC:=c0 k.1.1 (c e.2)) (EN:=c0 i p);rw[F]at ai;simp only[U.Z,U,a_,bb];exact⟨⟨bu.same,bu.same,bu.same⟩,⟨bu.same,bu.same,bu.same⟩,⟨a,bu.same⟩,ai,bu.same⟩
   .refine⟨by grind,.inr ⟨by grind,?_⟩⟩;grind
   grind
  refine a' l [(12,f)] a ?_ (g.aB (d+1,i,p,n) a ?_ ?_ ?_ ?_)
  .have k:=A _ w;simp only[U,j,bI.E,a8];exact⟨by omega,v,v,show(d+1)*32<=_ by omega,bI.U _,k,by omega,by omega,fq y⟩
  .simp
  .have ai:=Lg (Y:=b.1) (bC:=c0 i p) C;simp only[U.Z,U,j,bI.E,a_,bb];exact⟨⟨bu.same,bu.same,bu.same⟩,⟨bu.same,bu.same,bu.same⟩,⟨a,bu.same⟩,ai,bu.same⟩
  .refine⟨by grind,?_⟩;grind
  grind
 obtain rfl:d=c b.1:=y;obtain⟨_,D,I⟩:i0<c b.1/\p=(b.1.getD i0 (0,[])).2.length/\ej 2 (b.1.getD i0 (0,[])).2.length (bI.fn (b.1.getD i0 (0,[])).2) n:=M;subst D;clear x;generalize b.1.getD i0 (0,[])=e at *;refine a' l [(12,m)] a E (g.aC ?_);refine ca l a v ?_;refine g.aL 6 (λd=>d<=c b.2.1) (λd:Nat=>[(1,aH 0 0),(2,aH 1 0),(3,aH 2 0),(24,bk.S b.2.1),(25,S (c b.2.1)),(26,S d)])
  (λd=>[.cells 27 [.c (.S m 2 (c b.1) (a2.fn b.1)),.c (.S m 2 (c b.2.1) (bk.fn b.2.1)),.c (.S m 2 (c b.2.2) (a3.fn b.2.2))],.cells 27 [cG,cG,cG],.cells 27 [.R 3 (.S (c b.1) 2 0 (c b.1)),.R 4 (.S d 2 0 d),cG],.h 89 2 (c b.1) (gl b.1 i0 (c0 i (c e.2))),.h 96 2 d (bk.fn (b.2.1.take d)),.J (cn 131 2 i (c e.2) n)]) (λd=>c b.2.1-d) 0 a ?_ a ?_ a y ?_
 .simp
 .simp
 intro d t;by_cases u:d<c b.2.1
 .have w:b.2.1.getD d (0,[])∈b.2.1:=M;have j:b.2.1.getD (d:Int).toNat bk.I=b.2.1.getD d (0,[]):=M;refine a' l [(27,f)] a ?_ (g.aB (d+1) a ?_ ?_ ?_ ?_)
  .have k:=J _ w;simp only[U,j,cy.E,a8];exact⟨by omega,v,v,show(d+1)*32<=_ by omega,cy.U _,k.1,k.2,by omega,by omega,fq y⟩
  .simp
  .exact Fv
  .grind
  omega
 obtain rfl:d=c b.2.1:=y;rw[c8];refine a' l [(27,m)] a E (g.aC ?_);refine ca l a v (g.aF (IB b.2.2 R) [] a (ca l a v (g.bj ⟨(i,n),I⟩ [3,4,5] ?_ (λB T=>absurd T E))));simp
end
end R1
end Go.AM
