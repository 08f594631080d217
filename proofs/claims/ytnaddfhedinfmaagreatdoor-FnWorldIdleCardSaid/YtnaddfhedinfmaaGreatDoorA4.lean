/- Part 4. No condition. -/
import Derived.Test.YtnaddfhedinfmaaGreatDoorA3
import Derived.Lib.Bytealg
import Derived.Sort.AssemblyPlain
import Derived.Sort.LotD5
import Derived.Sort.Walk13a
import Derived.Conc.DeferLaws
import Derived.RowKit
import Derived.Conc.Holds
set_option linter.all false
set_option maxHeartbeats 8000000
open Go.Proofs
open Go.Proofs.Tryz
open List renaming length → c, range → aD, replicate → aY, getD_eq_getElem?_getD → al
open Go renaming Value → Z, TypeId → av, Event → aU, undef → K, World → au, Frame → aK, FuncId → a3, execOp → ac, Operand → aA, Program → aI, Goroutine → ak, stepG → aq, Oper → ap
open Option renaming some → h, none → q
open Bool renaming true → f, false → m
open Nat renaming beq → af, ble → ay
open Go.World renaming cell? → aN
open Go.Op renaming bytesLess → aW, equalIn → aR
open Go.Sem renaming events_bind → aH
open Go.Result renaming evThen_ok → aJ
open Go.Proofs.Tryz renaming prog → V
open Go.Conc renaming stepG_seq → aw, stepG_region_end → aF
namespace Go.AM
variable {k A:Nat}{i:Int}{d j e w:Nat}{W:av}{H:Z->(Nat->Option Obj)->Prop}{L:Array Bool}{bB:Mem}{D:Nat}{P:aI}{bq:ak->a5->Prop}{s:Code}{C:ak}{t:ap}{b:a5}{o:av}{aa:Z}{l X:aA}{α:Type}{η:aA->z}{ι:Type}{n:p an}{F:bH}{all:p ap}{dn:Array av}{cap:p N}{cR:p z}{k6:Nat->Option Obj}{ah:p aK}{bg:p (Nat×Bool)}{T:Nat->p N}{cP:aA}{gs:Array ak}{aO:p Nat}{cf:p Prop}{off:Nat}{op:BinOp}{aC:Array ap}{ab:p Prop}{br:p ap}{az:a5}{ty:av}{val:Nat->Nat->Z}{B:p Z}{bh:au}{ag:Array aA}{ao dd:p an}{res:ι->z}{aL:ι->p an}
variable {CT:p (Nat×bK)}{ar:p ig}{be:fq}{ad:p (Nat×bv)}{a4:bv}
structure iW(α:Type) where
 a8:α->z
 dY:z->Option (α×p Prop)
 ok:∀{I x t},dY I=h (x,t)->U t->∀{n:p an} {b:a5} {aa:Z},bx n b aa I->bx n b aa (a8 x)
def c8:iW Int:=⟨S,λa=>match a with|.q (.aq (.c (.int .i64 b)))=>h (b,[])|_=>q,λ{a d g} e _ _ _ _ i=>by grind⟩
def ez:iW bE:=⟨bZ,λa=>match a with|.q (.aq (.c (.V b)))=>h (b,[])|_=>q,λ{a d g} e _ _ _ _ i=>by grind⟩
def dC:iW Bool:=⟨bi,λa=>match a with|.q (.aq (.c (.bool b)))=>h (b,[])|_=>q,λ{a d g} e _ _ _ _ i=>by grind⟩
def eX(b:cY α):iW (p α):=⟨b.S,λi=>match jU b.bk i with|some (g,a)=>h (b.af g a,[b.bW g a])|none=>q,λ{i k l} d e _ _ _ j=>by
 split at d
 .rename_i g a he;cases d;exact b.cC he e j
 .cases d⟩
def sf:iW (Int×bE):=⟨λd=>.q (.agg [.c (.int .i64 d.1),.c (.V d.2)]),λb=>match b with|.q (.agg [.c (.int .i64 a),.c (.V e)])=>h ((a,e),[])|_=>q,λ{b a i} g _ _ _ _ j=>by grind⟩
def pW:iW (Int×Int):=⟨λd=>.q (.agg [.c (.int .i64 d.1),.c (.int .i64 d.2)]),λb=>match b with|.q (.agg [.c (.int .i64 a),.c (.int .i64 e)])=>h ((a,e),[])|_=>q,λ{b a i} g _ _ _ _ j=>by grind⟩
def jx(e:cY α):iW (Int×p α):=⟨λk=>.q (.agg [.c (.int .i64 k.1),.c (.S m e.bk (c k.2) (e.fn k.2))]),λo=>match o with
 |.q (.agg [.c (.int .i64 l),.c r])=>match jU e.bk (.q (.aq (.c r)))with|some (j,d)=>h ((l,e.af j d),[e.bW j d])|none=>q
 |_=>q,λ{o l w} g i _ b _ u=>by
 split at g
 .split at g
  .rename_i j d he;cases g;obtain⟨B,s,a⟩:=u
   match B,a with
   |[],a=>exact a.elim
   |[_],a=>exact a.2.elim
   |_::_::_::_,a=>exact a.2.2.elim
   |[x,t],a=>exact⟨_,s,a.1,e.cC (n:=[]) (b:=b) (aa:=t) he i a.2.1,v⟩
  cases g
 .cases g⟩
def df(d:iW α)(a:α->z)(pre:α->p Prop):bK:=λargs e=>match args,e with
 |[g],[]=>match d.dY g with
  |some (b,i)=>h (a b,[],gA i (pre b))
  |none=>q
 |_,_=>q
def ek{b:Type}(g:iW α)(i:iW b)(a:α->b->z)(pre:α->b->p Prop):bK:=λargs j=>match args,j with
 |[k,l],[]=>match g.dY k with
  |some (d,n)=>match i.dY l with
   |some (e,o)=>h (a d e,[],gA n (gA o (pre d e)))
   |none=>q
  |none=>q
 |_,_=>q
def kb{b d:Type}(j:iW α)(k:iW b)(l:iW d)(a:α->b->d->z)(pre:α->b->d->p Prop):bK:=λargs n=>match args,n with
 |[o,r,s],[]=>match j.dY o with
  |some (e,t)=>match k.dY r with
   |some (g,u)=>match l.dY s with
    |some (i,v)=>h (a e g i,[],gA t (gA u (gA v (pre e g i))))
    |none=>q
   |none=>q
  |none=>q
 |_,_=>q
section
variable {r:ai P}{ae:a3}{e w:Type}{O:iW α}{bU:iW e}{N:iW w}
def bL.bb{b:α->z}{pre:α->p Prop}(l:∀e,U (pre e)->Y r ae [O.a8 e] [] (b e) []):bL r ae (df O b pre):=by
 intro args n g k i a d;unfold df at a;split at a
 .split at a
  .rename_i o e t j;cases a;rw[U.Y]at d;exact(l e d.2).args λs B=>b4.imp (λ_ g=>O.ok j d.1 g) (λ_ g=>g) B
  cases a
 cases a
def bL.bl{d:α->e->z}{pre:α->e->p Prop}(n:∀i j,U (pre i j)->Y r ae [O.a8 i,bU.a8 j] [] (d i j) []):bL r ae (ek O bU d pre):=by
 intro args o g l k a b;unfold ek at a;split at a
 .split at a
  .rename_i u v i t s;split at a
   .rename_i j w cT;cases a;rw[U.Y,U.Y]at b;exact(n i j b.2.2).args λx B=>b4.imp (λ_ g=>O.ok s b.1 g) (b4.imp (λ_ g=>bU.ok cT b.2.1 g) (λ_ g=>g)) B
   cases a
  cases a
 cases a
def bL.c0{k:α->e->w->z}{pre:α->e->w->p Prop}(u:∀l j s,U (pre l j s)->Y r ae [O.a8 l,bU.a8 j,N.a8 s] [] (k l j s) []):bL r ae (kb O bU N k pre):=by
 intro args v g o n a b;unfold kb at a;split at a
 .split at a
  .rename_i x y C l t i;split at a
   .rename_i j A cT;split at a
    .rename_i s D d;cases a;rw[U.Y,U.Y,U.Y]at b;exact(u l j s b.2.2.2).args λE B=>b4.imp (λ_ g=>O.ok i b.1 g) (b4.imp (λ_ g=>bU.ok cT b.2.1 g) (b4.imp (λ_ g=>N.ok d b.2.2.1 g) (λ_ g=>g))) B
    cases a
   cases a
  cases a
 cases a
end
namespace R1
def eY(d:p z)(a:z):bK:=λargs b=>match b with|[]=>h (a,[],[args=d])|_=>q
def fo{b:ai V}{ae}{d}{res}(k:Y b ae d [] res []):bL b ae (eY d res):=by
 intro args j l g e a i;unfold eY at a;split at a
 .cases a;simp_all
 cases a
def k4(g:p z)(d:p an)(a:z)(b:p an):bK:=λargs e=>h (a,b,[args=g,e=d])
def l5{d:ai V}{ae}{e}{a aL}{res}(l:Y d ae e a res aL):bL d ae (k4 e a res aL):=by intro args k n i g b j;cases b;simp_all
end R1
def ly(b:Mem):p Z->p N->Prop
 |[],[]=>True
 |e::B,d::a=>Rd b e d/\ly b B a
 |_,_=>False
structure q7(α:Type) where
 a8:α->p N
 cm:p N->Option (α×p Prop×p N)
 ok:∀{ah x t a'},cm ah=h (x,t,a')->U t->∀{bB:Mem} {B:p Z},ly bB B ah->∃v1 v2,B=v1++v2/\ly bB v1 (a8 x)/\ly bB v2 a'
def ly.app{bB}:∀{g i:p Z}{a b:p N},ly bB g a->ly bB i b->ly bB (g++i) (a++b)
 |[],_,[],_,_,d=>d
 |_::_,_,_::_,_,e,j=>⟨e.1,e.2.app j⟩
 |[],_,_::_,_,d,_=>d.elim
 |_::_,_,[],_,d,_=>d.elim
def ly.aq{s}{e}(d:ly bB B (s::e)):∃a b,B=a::b/\Rd bB a s/\ly bB b e:=by
 cases B with
 |nil=>exact d.elim
 |cons a B=>exact⟨a,B,rfl,d⟩
def u1(e:cY α):q7 (p α):=⟨λo=>[.S m e.bk (c o) (e.fn o)],λg=>match g with
 |u::r=>match jU e.bk (.q (.aq (.c u)))with|some (l,d)=>h (e.af l d,[e.bW l d],r)|none=>q
 |_=>q,λ{g y z r} i j s B k=>by
 split at i
 .split at i
  .rename_i l d he;cases i;obtain⟨aa,t,rfl,w,x⟩:=k.aq;exact⟨[aa],t,a,⟨e.cC (n:=[]) (b:=⟨[],s,default,λ_=>True⟩) (aa:=aa) he j w,v⟩,x⟩
  cases i
 .cases i⟩
def x4{l:Type}(O:q7 α)(e:q7 l):q7 (α×l):=⟨λp=>O.a8 p.1++e.a8 p.2,λb=>match O.cm b with
 |some (k,n,o)=>match e.cm o with|some (r,y,z)=>h ((k,r),gA n y,z)|none=>q
 |none=>q,λ{b k n o} d a A B g=>by
 split at d
 .rename_i w;split at d
  .rename_i C;cases d;rw[U.Y]at a;obtain⟨i,D,rfl,u,t⟩:=O.ok w a.1 g;obtain⟨v,j,rfl,x,s⟩:=e.ok C a.2 t;exact⟨i++v,j,(mh _ _ _).symm,u.app x,s⟩
  cases d
 .cases d⟩
def zq:p O->Option (p N)
 |[]=>h []
 |.c d::b=>match zq b with|some a=>h (d::a)|none=>q
 |_=>q
def DK:p N->p O
 |[]=>[]
 |b::a=>.c b::DK a
def MR{n}{b}:∀{e:p O}{g:p N}{B:p Z},zq e=h g->bM n b B e->ly b.u B g
 |[],g,B,a,d=>by cases a;cases B with|nil=>trivial|cons=>exact d.elim
 |.c l::i,g,B,a,d=>by
  simp only[zq]at a;split at a
  .rename_i j;cases a;cases B with
   |nil=>exact d.elim
   |cons k B=>exact⟨d.1,MR j d.2⟩
  cases a
 |.ptr ..::_,_,_,a,_=>by cases a
 |.r ..::_,_,_,a,_=>by cases a
 |.aQ ..::_,_,_,a,_=>by cases a
 |.R ..::_,_,_,a,_=>by cases a
 |.any::_,_,_,a,_=>by cases a
def Lt{n}{b}:∀{d:p N}{B:p Z},ly b.u B d->bM n b B (DK d)
 |[],[],_=>trivial
 |_::_,_::_,a=>⟨a.1,Lt a.2⟩
 |[],_::_,a=>a.elim
 |_::_,[],a=>a.elim
def Am(d:q7 α):iW α:=⟨λb=>.q (.agg (DK (d.a8 b))),λk=>match k with
 |.q (.agg j)=>match zq j with
  |some e=>match d.cm e with|some (b,l,[])=>h (b,l)|_=>q
  |none=>q
 |_=>q,λ{k b l} a g u v w t=>by
 split at a
 .split at a
  .rename_i C;split at a
   .rename_i p;cases a;obtain⟨B,rfl,s⟩:=t;obtain⟨i,r,rfl,o,n⟩:=d.ok p g (MR C s);cases r with
    |nil=>exact⟨i,by simp,Lt o⟩
    |cons=>exact n.elim
   cases a
  cases a
 .cases a⟩
namespace R1
section
variable {r:ai V}
def Vb(i):Y r 103 [S i] [] (bi (cK i)) []:=by
 refine Y.K func103 rfl λd=>?_;by_cases b:1<=i
 .by_cases j:i<=99
  .refine a6 [(4,f),(7,f)] a bw (g.aw a ?_);simp[cK,b,j]
  refine a6 [(4,f),(7,m)] a bw (g.aw a ?_);simp[cK,b,j]
 refine a6 [(4,m)] a bX (g.aw a ?_);simp[cK,b]
def rW:bL r 103 (df c8 (λa=>bi (cK a)) λ_=>[]):=.bb λa _=>Vb a
def aae{b}(a:e<c b):dZ (b.take (e+1))=(dZ (b.take e)&&jl (b.getD e 0)):=by unfold dZ;grind[List.take_add_one]
def C4{j}:jl j=f↔97<=(j.toNat:Int)/\(j.toNat:Int)<=122:=by simp[jl];omega
def J1{b}(g:e<c b)(d:jl (b.getD e 0)=m):dZ b=m:=by
 cases a:dZ b with
 |false=>rfl
 |true=>
  have:=List.all_eq_true.1 a (b.getD e 0) M;grind
def Vt(b):Y r 112 [bZ b] [] (bi (dZ b)) []:=by
 refine Y.K func112 rfl λo=>?_;have s:=o.V 0 a;refine aZ a v (g.ee (λd=>d<=c b/\dZ (b.take d)=f) (λd:Nat=>[(0,bZ b),(5,S (c b)),(6,S d)]) (λ_=>[]) (λd=>c b-d) 0 a E ⟨by omega,by simp[dZ]⟩ a ?_);rintro d ⟨p,l⟩;by_cases e:d<c b
 .by_cases j:dj b d<97
  .refine a6 [(7,f),(12,f)] a ?_ (g.bX (bT.zero a ?_))
   .simp[-al,e,ka,j]
   have:jl (b.getD d 0)=m:=by
    cases k:jl (b.getD d 0)with
    |false=>rfl
    |true=>have:=C4.1 k;unfold dj at j;omega
   simp[J1 e this]
  by_cases i:dj b d<=122
  .refine a6 [(7,f),(12,m),(17,m)] a ?_ (g.again (d+1) a ?_ ?_ ?_ a)
   .simp[-al,e,ka,j,i,a7];grind
   .simp
   .refine⟨by omega,?_⟩;rw[aae e,l,fm];exact C4.2 (by unfold dj at j i;omega)
   omega
  refine a6 [(7,f),(12,m),(17,f)] a ?_ (g.bX (bT.zero a ?_))
  .simp[-al,e,ka,j];grind
  have:jl (b.getD d 0)=m:=by
   cases k:jl (b.getD d 0)with
   |false=>rfl
   |true=>have:=C4.1 k;unfold dj at i;omega
  simp[J1 e this]
 have n:d=c b:=y;subst n;refine a6 [(7,m)] a E (g.bt a a ?_);refine aZ a v (g.aw a ?_);simp_all
def adE:bL r 112 (df ez (λb=>bi (dZ b)) λ_=>[]):=.bb λa _=>Vt a
abbrev aec:p (Nat×bK):=[(103,df c8 (λa=>bi (cK a)) λ_=>[]),(112,df ez (λb=>bi (dZ b)) λ_=>[])]
def BF:a8 r aec:=.cons rW (.cons adE .nil)
def Wu(b):Y r 249 [bZ b] [] (bi (cC b)) []:=by
 refine Y.K func249 rfl λe=>?_;by_cases d:1<=c b
 .by_cases j:c b<=8
  .refine a_ BF [(5,f),(9,f),(11,f)] a bX (g.aw a ?_);simp[cC,d,j]
  refine a_ BF [(5,f),(9,m),(11,m)] a bX (g.aw a ?_);simp[cC,d,j]
 refine a_ BF [(5,m),(11,m)] a bX (g.aw a ?_);simp[cC,d]
def Eb:bL r 249 (df ez (λb=>bi (cC b)) λ_=>[]):=.bb λa _=>Wu a
def TG(d:Nat)(j:d<=4000000):Y r 251 [S d] [] (S (e1 d)) []:=by
 refine Y.K func251 rfl λl=>?_;by_cases i:d<1
 .refine a6 [(5,f),(9,f)] a bX (g.aw a ?_);simp[e1,i]
 by_cases e:8<d
 .refine a6 [(5,m),(8,f)] a bX (g.aw a ?_);simp[e1,e]
 refine a6 [(5,m),(8,m)] a bX ?_;have n:e1 d=2∨e1 d=4∨e1 d=8:=FB;refine g.ee (λb:Nat=>(b=2∨b=4∨b=8)/\b<=e1 d) (λb:Nat=>[(0,S d),(3,S b)]) (λ_=>[]) (λb=>8-b) 2 a E ⟨by simp,by omega⟩ a ?_;rintro b ⟨k,x⟩;by_cases j:b<d
 .exact a6 [(12,f)] a lG (g.again (2*b) a bX NF y a)
 refine a6 [(12,m)] a bX (g.bt a a ?_);refine aZ a v (g.aw a ?_);have:b=e1 d:=NF;simp[this]
theorem acW(b)(j):ff (b++[j])=if j=46 then ff b else b++[j]:=by unfold ff;grind[List.dropWhile_cons]
def Mg{b}(a:k<c b):ff (b.take (k+1))=if b.getD k 0=46 then ff (b.take k)else b.take (k+1):=by grind[List.take_add_one,acW]
theorem Xu(b):Y r 292 [bZ b,uT 46] [] (bZ (ff b)) []:=by
 refine Y.K func292 rfl λi=>?_;have o:=i.V 0 a;refine aZ a v (g.ee (λk=>k<=c b/\ff (b.take k)=ff b) (λk:Nat=>[(0,bZ (b.take k)),(1,uT 46)]) (λ_=>[]) (λk=>k) (c b) a E ⟨by omega,by simp⟩ a ?_);rintro k ⟨p,d⟩;cases k with
 |zero=>
  refine a6 [(7,m),(16,m)] a E (g.bt a a ?_);refine aZ a v (g.aw a ?_);have:ff b=[]:=by rw[<-d];rfl
  simp[this]
 |succ k=>
  have I:c (b.take (k+1))=k+1:=M;have C:dj (b.take (k+1)) k=dj b k:=by simp[dj,al,ik]
  have l:=Mg (b:=b) (k:=k) y;have j:((k:Int)+1-1).toNat=k:=y;by_cases e:b.getD k 0=46
  .refine a6 [(7,f),(15,f),(16,f)] a ?_ (g.again k a ?_ ?_ ?_ a)
   .have s:dj b k=46:=by unfold dj;exact bJ
    exact Qu
   .simp;show(b.take (k+1)).take _=_;grind
   .grind
   simp
  refine a6 [(7,f),(15,m),(16,m)] a ?_ (g.bt a a ?_)
  .have s:dj b k≠46:=by unfold dj;intro n;exact e (un.1 M)
   exact Qu
  refine aZ a v (g.aw a ?_);rw[l,bm e]at d;simp[d]
def GB:bK:=λargs a=>match args,a with
 |[.q (.aq (.c (.V b))),.q (.aq (.c (.int .u8 46)))],[]=>h (bZ (ff b),[],[])
 |_,_=>q
def t292:bL r 292 GB:=by intro args g b d a e _;unfold GB at e;grind[Xu]
theorem Xt(b):Y r 255 [bZ b,bZ [46]] [] (bZ (ff b)) []:=by
 refine Y.K func255 rfl λi=>?_;by_cases d:b=[]
 .subst d;refine a_ (a8.cons t292 .nil) [(8,f),(12,f)] a E (g.aw a ?_);exact bJ
 refine a_ (a8.cons t292 .nil) [(8,m),(11,m),(12,m),(16,f),(20,f),(21,f)] a ?_ (g.aw a);cases b with
 |nil=>grind
 |cons e j=>simp;decide
def A7:bK:=λargs a=>match args,a with
 |[.q (.aq (.c (.V b))),.q (.aq (.c (.V [46])))],[]=>h (bZ (ff b),[],[])
 |_,_=>q
def ac_:bL r 255 A7:=by intro args g b d a e _;unfold A7 at e;grind[Xt]
def Hv{a:bE}(b:e<c a):fZ (a.take (e+1))=27*fZ (a.take e)+(dj a e-97) % 256+1:=by unfold fZ;rw[wU,bI b];simp only[ur,Option.toList_some,j7,List.foldl_nil,dj,al,bI b,im]
def xx{a:bE}(d:cC a=f)(l:e<=c a):0<=fZ (a.take e)/\fZ (a.take e)<282429536481:=by simp[cC,cF,bA]at d;obtain⟨j,b⟩:=BI (a.take e) 0 1 0 (λi g=>qy d.2 i (hc g)) y y y;have:=K' (k:=c (a.take e)) M;rw[Int.one_mul]at b;exact⟨j,Int.lt_of_lt_of_le b this⟩
def CK{a:bE}(b:e<c a):a.getD e 0∈a:=M
abbrev aed:p (Nat×bK):=[(103,df c8 (λa=>bi (cK a)) λ_=>[]),(249,df ez (λb=>bi (cC b)) λ_=>[])]
def iq:a8 r aed:=.cons rW (.cons Eb .nil)
abbrev BY(a:Int):z:=.Q [.aq (.c (.int .i64 a)),.aq (.c .bo)]
def V1(d:Int)(b:bE)(n:cK d=f)(i:cC b=f):Y r 244 [S d,bZ b] [] (BY (e5 d b)) []:=by
 refine Y.K func244 rfl λA=>?_;have k:=i;simp[cC,cF,bA]at k;have s:=n;simp[cK,cF,bA]at s;refine a_ iq [(8,m),(13,m)] a dA (g.ee (λe=>e<=c b) (λe:Nat=>[(0,S d),(1,bZ b),(6,S (fZ (b.take e))),(19,S (c b)),(20,S e)]) (λ_=>[]) (λe=>c b-e) 0 a (by simp[fZ]) y a ?_);intro e l;by_cases j:e<c b
 .have p:=xx i l;have B:=xx i (e:=e+1) y;have o:=Hv j;refine a6 [(21,f)] a ?_ (g.again (e+1) a ?_ ?_ ?_ a)
  .simp only[U,ka,a7];simp[-al,j,ka];have x:=qy k.2 (b.getD e 0) (CK j);have t:97<=dj b e/\dj b e<=122:=ED;omega
  .have x:=qy k.2 (b.getD e 0) (CK j);have t:97<=dj b e/\dj b e<=122:=ED;have C:(dj b e-97) % 256=dj b e-97:=Int.emod_eq_of_lt y y;exact bJ
  .grind
  grind
 have o:e=c b:=y;subst o;have p:=xw i;refine a6 [(21,m)] a E (g.bt a a ?_);refine aZ a ?_ (g.aw a ?_)
 .rw[c9];have w:0<=fZ b*(2*d+1):=Int.mul_nonneg p.1 y;have u:fZ b*(2*d+1)<=282429536481*199:=Int.mul_le_mul y y y y;generalize fZ b*(2*d+1)=z at w u;exact tV
 rw[c9];refine U.Y.2 ⟨?_,U.Y.2 ⟨a,v⟩⟩;show(_:Int)=_;rw[Int.mul_comm 7919 d];rfl
def t244:bL r 244 (ek c8 ez (λa b=>BY (e5 a b)) λa b=>[cK a=f,cC b=f]):=.bl λa b d=>V1 a b d.1 d.2
def Df(k:t.op=.binOp op o l (.const .nilIface) ty){u:Bool}{s:Array (String×av)}(x:P.underlying o=h (.interface s))(z:η l=ax .bo)(y:η (.const .nilIface)=ax .bo)(r:h6 op f=h u):a0 P t η n (ax (.bool u)) n:=by
 refine .aZ λe g C w=>?_;have d:=w l;have b:=w (.const .nilIface);rw[z]at d;rw[y]at b;replace d:=b6 d;replace b:=b6 b;generalize i:g l=A at d;generalize j:g (.const .nilIface)=B at b;cases d;cases b;have p:(Op.equal o .nilIface .nilIface).run P e.a=.ok f e.a:=by show(aR (9999+1) o _ _).run P e.a=_;unfold aR;simp[underlying,x]
 have v:∀a,(Op.equal o .nilIface .nilIface).events P e.a a=a:=λa=>by show(aR (9999+1) o _ _).events P e.a a=a;unfold aR;simp[underlying,x]
 cases op<;>simp[h6,reduceCtorEq,eR]at r
 .subst r;exact⟨.bool f,by simp[ac,k,i,j,eqGuard,binOp,p],Rd.bool,by simp[ac,k,i,j,eqGuard,binOp,p,v]⟩
 subst r;exact⟨.bool m,by simp[ac,k,i,j,eqGuard,binOp,p],Rd.bool,by simp[ac,k,i,j,eqGuard,binOp,p,v]⟩
def VZ(b:Int)(d:bE)(e:Int)(i:cK b=f)(j:cC d=f):Y r 218 [S b,bZ d,S e] [] (bi (e5 b d==e)) []:=by refine Y.K func218 rfl λk=>?_;refine a_ (a8.cons t244 .nil) [(17,f)] a dA ?_;refine g.aP (Df a underlying156 a a a) a a ?_;refine a_ (a8.cons t244 .nil) [(17,f)] a oL (g.aw a ?_);simp
def ac7:bL r 218 (kb c8 ez c8 (λa b d=>bi (e5 a b==d)) λa b _=>[cK a=f,cC b=f]):=.c0 λa b d e=>VZ a b d e.1 e.2
abbrev mr(a:Int):z:=ax (.int .u64 a)
def _root_.Go.AM.bY.fw{t:ai P}{aM}{l X}(C:bY t D X aM F n):bY t D (.cond (.const (.bool m)) l X) aM F n:=by intro J v A d w E j u p k;refine .ctl d a (λ_=>y2 (o:=m) a) λy b=>?_;exact C y v (A.rely b d) (d.rely b) w E j u p λz e g r i I x B s=>k z e g r i I x B (b.aR.trans s)
def _root_.Go.AM.g.fw{P:aI}{a:ai P}{D}{be}{ar}{F}{n}{l X}(b:g a D be (.code X::ar) .normal F n):g a D be (.code (.cond (.const (.bool m)) l X)::ar) .normal F n:=bY.fw b
def JP{i d}{k j}(s)(u:t.op=.binOp op o l X ty)(A:η l=ax (.int i k))(z:η X=ax (.int d j))(x:a7 i s)(p:∀g,(binOp op o (.int i k) (.int d j)).run P g=.ok (.int i s) g)(y:∀g,(binOp op o (.int i k) (.int d j)).events P g #[]=#[]):
  a0 P t η n (ax (.int i s)) n:=by refine .aZ λD e E w=>?_;have b:=w l;have a:=w X;rw[A]at b;rw[z]at a;replace b:=b6 b;replace a:=b6 a;generalize r:e l=B at b;generalize v:e X=C at a;cases b;cases a;exact⟨.int i s,by simp only[ac,u,cI,r,v,qf,c0,p,d6],.int x,by simp[ac,u,r,v,qf,xW,p,y]⟩
def VV:Y r 308 [mr 1,mr 2] [] (.Q [.aq (.c (.int .u64 0)),.aq (.c (.int .u64 2))]) []:=QS
def VW:Y r 308 [mr 1,mr 3] [] (.Q [.aq (.c (.int .u64 0)),.aq (.c (.int .u64 3))]) []:=QS
def GC:bK:=λargs b=>match args,b with
 |[.q (.aq (.c (.int .u64 1))),.q (.aq (.c (.int .u64 a)))],[]=>h (.Q [.aq (.c (.int .u64 0)),.aq (.c (.int .u64 a))],[],[a=2∨a=3])
 |_,_=>q
def Mk:bL r 308 GC:=by
 intro args i e g d a b;unfold GC at a;split at a
 .cases a;rcases b with rfl|rfl
  .exact VV
  exact VW
 grind
def VU(b:Int)(d:b=2∨b=3):Y r 289 [mr 1,mr b] [] (.Q [.aq (.c (.int .u64 0)),.aq (.c (.int .u64 b))]) []:=by refine Y.K func289 rfl λe=>?_;refine b_ (a8.cons Mk .nil) a v ?_;refine g.fw ?_;refine b_ (a8.cons Mk .nil) a ?_ (g.aw a);exact bw
def A8:bK:=λargs b=>match args,b with
 |[.q (.aq (.c (.int .u64 1))),.q (.aq (.c (.int .u64 a)))],[]=>h (.Q [.aq (.c (.int .u64 0)),.aq (.c (.int .u64 a))],[],[a=2∨a=3])
 |_,_=>q
def ac':bL r 289 A8:=by
 intro args i e g d a b;unfold A8 at a;split at a
 .cases a;exact VU _ b
 grind
abbrev lF:bK:=df ez (λa=>bZ (fA a)) λ_=>[]
abbrev iI(a:Option bE):z:=.Q [.aq (.c (.V (a.getD []))),.aq (.c (.bool a.isSome))]
def Wj(i:bL r 204 lF)(j):Y r 217 [bZ j] [] (iI (h8 j)) []:=by
 refine Y.K func217 rfl λl=>?_;have d:a8 r [(255,A7),(249,df ez (λk=>bi (cC k)) λ_=>[]),(204,lF)]:=.cons ac_ (.cons Eb (.cons i .nil));by_cases b:cC (ff j)=f
 .by_cases e:fA (ff j)=j
  .refine a_ d [(10,m),(15,m)] a dA (g.aw a ?_);simp[h8,b,e]
  refine a_ d [(10,m),(15,f)] a dA (g.aw a ?_);simp[h8,b,e]
 refine a_ d [(10,f),(15,f)] a ?_ (g.aw a ?_)
 .simp[b]
 simp[h8,b]
def adR(b:bL r 204 lF):bL r 217 (df ez (λa=>iI (h8 a)) λ_=>[]):=.bb λa _=>Wj b a
def KQ{j a}(b:h8 j=h a):cC a=f:=by unfold h8 at b;grind
abbrev BW(a:cW):z:=sf.a8 a
def TC(n:bL r 204 lF)(l)(i)(b:cK i=f):Y r 184 [BW l,S i] [] (iI (jG i l)) []:=by
 refine Y.K func184 rfl λs=>?_;have e:a8 r [(217,df ez (λk=>iI (h8 k)) λ_=>[]),(218,kb c8 ez c8 (λi d o=>bi (e5 i d==o)) λi d _=>[cK i=f,cC d=f])]:=.cons (adR n) (.cons ac7 .nil);cases x:h8 l.2 with
 |none=>
  refine a_ e [(16,f),(23,f)] a oM (g.aw a ?_);simp[jG,x]
 |some d=>
  have p:=KQ x;by_cases j:e5 i d=l.1
  .refine a_ e [(16,m),(23,m)] a dA (g.aw a ?_);simp[jG,x,j,b]
  refine a_ e [(16,m),(23,f)] a dA (g.aw a ?_);simp[jG,x,j,b]
def Mo(d:bL r 204 lF):bL r 184 (ek sf c8 (λb a=>iI (jG a b)) λ_ a=>[cK a=f]):=.bl λb a e=>TC d b a e
def U3(l)(k):Y r 302 [BW l,ax (.O [.int .i64 k])] [] (bi (l.1==k)) []:=by refine Y.K func302 rfl λb=>?_;exact aZ a v (g.aw a)
def A_:bK:=λargs d=>match args,d with
 |[.q (.agg [.c (.int .i64 b),.c (.V a)]),.q (.aq (.c (.O [.int .i64 e])))],[]=>h (bi (b==e),[],[a=a])
 |_,_=>q
def adb:bL r 302 A_:=by
 intro args l d e b a i;unfold A_ at a;split at a
 .rename_i j g k;cases a;exact U3 (j,g) k
 grind
abbrev HW(a:Int):z:=ax (.fn (.func 302) [] [.O [.int .i64 a]])
def pd(b:p cW)(d:Int):Int:=match b.findIdx? (λe=>e.1==d)with|some a=>a|none=>-1
def ZL{o}{k}(a:e<c o)(j:(o.getD e (0,[])).1=k)(g:∀b,b<e->(o.getD b (0,[])).1≠k):pd o k=e:=by
 have:o.findIdx? (λd=>d.1==k)=h e:=by rw[AD];refine⟨a,M,λb i=>?_⟩;grind
 rw[pd,this]
def ZN{o}{k}(d:∀a,a<c o->(o.getD a (0,[])).1≠k):pd o k=-1:=by have:o.findIdx? (λb=>b.1==k)=q:=wu;rw[pd,this]
def UK(o)(k):Y r 301 [bG.S o,HW k] [] (S (pd o k)) []:=by
 refine Y.K func301 rfl λj=>?_;have p:=j.S 0 a;have d:a8 r [(302,A_)]:=.cons adb .nil;refine b_ d a v (g.ca (λb=>b<=c o/\∀e,e<b->(o.getD e (0,[])).1≠k) (λb:Nat=>[(0,bG.S o),(1,HW k),(7,S (c o)),(8,S b)]) (λ_=>[]) (λb=>c o-b) 0 a E a v ⟨by omega,by omega⟩ ?_);rintro b ⟨n,i⟩;by_cases l:b<c o
 .by_cases s:(o.getD b (0,[])).1=k
  .refine a_ d [(9,f),(16,f)] a ?_ (g.bX (bT.zero a ?_))
   .simp only[U,c1];grind
   simp[ZL l s i]
  refine a_ d [(9,f),(16,m)] a ?_ (g.b5 (b+1) a ?_ a v ?_ ?_)
  .simp only[U,c1];exact⟨by exact bJ,v,eU.2 s,by omega,by omega,fk y⟩
  .simp
  .grind
  omega
 refine a_ d [(9,m)] a bX (g.bt a a ?_);refine b_ d a v (g.aw a ?_);simp[ZN (λe t=>i e y)]
def A9:bK:=λargs d=>match args,d with
 |[e,.q (.aq (.c (.fn (.func 302) [] [.O [.int .i64 g]])))],[]=>match jU 2 e with
  |none=>q
  |some (b,a)=>h (S (pd (bG.af b a) g),[],[bG.bW b a])
 |_,_=>q
def ada:bL r 301 A9:=by
 intro args n i j g a d;unfold A9 at a;split at a
 .rename_i o k;split at a
  .cases a
  rename_i p l b;cases a;exact(UK _ k).args (λ_ B=>b4.imp (λ_=>bG.cC b d) (b4.imp (λ_ e=>e) (λ_ e=>e)) B)
 grind
def ZM(o)(k):(pd o k=-1/\o.find? (λb=>b.1==k)=q)∨∃a:Nat,a<c o/\pd o k=a/\o.find? (λb=>b.1==k)=h (o.getD a (0,[])):=by unfold pd;grind[List.findIdx?_eq_some_iff_getElem,List.find?_eq_some_iff_getElem]
def Wd(l:bL r 204 lF)(i)(b)(k)(o:cK i=f):Y r 275 [S i,fz b,S k] [] (iI (gp i b k)) []:=by
 refine Y.K func275 rfl λt=>?_;have d:a8 r [(301,A9),(184,ek sf c8 (λp i=>iI (jG i p)) λ_ i=>[cK i=f])]:=.cons ada (.cons (Mo l) .nil);have u:bG.af (c b.2) (bG.fn b.2)=b.2:=bG.E _;refine gI [] 7 a v (g.freeze 5 1 a a a ?_);rcases ZM b.2 k with⟨n,j⟩|⟨e,bp,n,j⟩
 .refine a_ d [(14,f)] a bJ (g.aw a ?_);simp[gp,j]
 refine a_ d [(14,m)] a bJ (g.aw a ?_);have s:gp i b k=jG i (b.2.getD e (0,[])):=by simp only[gp,j]
 simp_all
def adX(e:bL r 204 lF):bL r 275 (kb c8 (jx bG) c8 (λa d b=>iI (gp a d b)) λa _ _=>[cK a=f]):=.c0 λa d b g=>Wd e a d b g
def yp:∀b(a:UInt8),Lib.indexByte b a<c b∨Lib.indexByte b a=-1
 |[],a=>.inr (by rw[Lib.indexByte.eq_def])
 |e::b,a=>by have d:=yp b a;grind[Lib.indexByte.eq_def]
set_option maxRecDepth 20000 in
theorem UV(b)(s):Y r 237 [bZ b,uT s.toNat] [] (S (Lib.indexByte b s)) []:=by
 refine Y.K func237 rfl λK=>?_;have Q:=K.V 0 a;refine aZ a v (g.aq (l:=S (Lib.indexByte b s)) (ao:=[]) ?_ a ?_)
 .refine aT.a1 (λ_ _ _ _=>iV oL) ?_;refine a0.du λe d aa i=>?_;have u:=b6 (i (.tmp 5));have t:=b6 (i (.tmp 6));generalize p:d (.tmp 5)=M at u;generalize j:d (.tmp 6)=N at t;cases u with
  |V B I=>
  cases t with
  |int J=>
  have n:d (.func 284)=.func (.func 284) #[] #[]:=by
   have:=b6 (i (.func 284));generalize d (.func 284)=Z at this;cases this with
   |fn D z R w X W x y d1 d2=>
    grind
  have C:(callFunc 284 #[.string ‹ByteArray›,.int .u8 s.toNat]).run V e.a=.ok (.value (.int .i64 (Lib.indexByte b s))) e.a:=by rw[run_callFunc_extern func284 b0 b0 b0 (e:=Extern.BytealgIndexByte.indexByte) b0,Lib.run_indexByteString];simp_all
  have F:dB V (Extern.BytealgIndexByte.indexByte #[.string ‹ByteArray›,.int .u8 s.toNat]):=by
   refine dB.bind (A:=Extern.Bytes.bytesOf (.string ‹ByteArray›)) (λ_ _=>rfl) λw=>dB.bind (A:=Extern.Bytes.asByte (.int .u8 s.toNat)) (λ_ _=>?_) λT=>?_
   .simp[Extern.Bytes.asByte]
   .skip
    split<;>exact .pure
  have E:=Ig func284 b0 b0 b0 (aj:=Extern.BytealgIndexByte.indexByte) b0 _ F e.a #[];refine⟨.int .i64 (Lib.indexByte b s),?_,Rd.int ?_,?_⟩
  rotate_left 2
  .intro o k;simp[ac,resolve,Deferred.ofValue,invoke,p,j,n,E]at k;subst k;exact .inr ⟨_,a⟩
  .simp[ac,resolve,Deferred.ofValue,invoke,p,j,n,C]
  have O:=Lib.indexByte_ge b s;have ab:=yp b s;exact cQ
 exact wn
def sE(a:Nat->Int):Nat->p N:=λb=>[.int .u8 (a b)]
def Bytes(a:Nat->Int):Prop:=∀b,0<=a b/\a b<=255
abbrev ef(d:Nat)(a:Nat->Int)(b:Int):an:=.cells 66 [.c (.S m 1 d (sE a)),.c (.int .i64 b)]
def bk.cu{e}{fn}{args}{a:ι->p an}(o:Tryz.prog.funcs[e]?=h fn)(l:(fn.name== "runtime.NumGoroutine")=m)(d:fn.body=h s)(k:ay args.length fn.ntmps=f)(v:kw args n->g r fn.ntmps (λt j b=>∃i,bT fn n.length (res i) (a i) t j b) [.code s] .normal (hZ 0 args) n):bk r e args n res a:=
 bk.e3 o l d k λu=>bY.bA (g.aW (v u))
def g.bL{fn}{d}{a:ι->p an}(e)(k:g r D (bT fn d (res e) (a e)) ar .normal F n):g r D (λj F b=>∃i,bT fn d (res i) (a i) j F b) ar .normal F n:=
 g.bS (λ_ _ _ l=>⟨e,l⟩) k
def qG(b:Nat)(d:Nat->Int)(a:Nat)(e:Int):Int:=
 if b=0 then 0 else if a<b then d a % e else
  ((d ((a:Int) % b).toNat*131+d (((a:Int)*7+3) % b).toNat*1117+a*29+(a:Int) / b*53).toNat ^^^ ((d ((a:Int) % b).toNat*131+d (((a:Int)*7+3) % b).toNat*1117+a*29+(a:Int) / b*53) / 64).toNat:Nat) % e
set_option maxRecDepth 20000 in
def IK(A)(d:Nat->Int)(n:Bytes d)(b:Nat)(k)(s:b<=4000000)(z:A<=1048576)(M:1<=k/\k<=4000000):
  Y r 27 [aG 0 0,S k] [ef A d b] (S (qG A d b k)) [ef A d (b+1)]:=by
 refine Y.K func27 rfl λv=>?_;have j:∀e,e<c ([ef A d b]:p an)->([0]:p Nat)[e]?=h e:=λe C=>by grind
 by_cases l:A=0
 .subst l;refine a6 [(17,m),(24,f)] a cQ (g.aS [0] a ?_ j);exact cQ
 have i:((b:Int)+1-1)=b:=y;have x:((b:Int)+1-1).toNat=b:=y;have w:=n b;by_cases E:(b:Int)<A
 .refine a6 [(17,m),(24,m),(36,f)] a ?_ (g.aS [0] a ?_ j)
  .simp only[U,i,c1,bA,dt,eU,a7];omega
  have:b<A:=y;simp[qG,l,this]
 refine bP [(17,m),(24,m),(36,m)] a ?_ (g.aS [0] a ?_ j)
 .simp only[U,i,dt,eU,a7];have o:(0:Int)<A:=y;have B:=su (b:Int) (by omega:(A:Int)≠0);have D:=sl (b:Int) o;have u:=su ((b:Int)*7+3) (by omega:(A:Int)≠0);have F:=sl ((b:Int)*7+3) o;have w1:0<=(b:Int) / A:=Int.ediv_nonneg y y;have w2:(b:Int) / A<=b:=Int.ediv_le_self _ y;generalize(b:Int) % A=t at *;generalize((b:Int)*7+3) % A=aa at *;generalize(b:Int) / A=I at *;have J:=n t.toNat;have K:=n aa.toNat;grind
 have:¬b<A:=y;simp[qG,l,this,i]
def KX(A)(a:Nat->Int)(i)(k)(b:1<=k):0<=qG A a i k/\qG A a i k<k:=by
 unfold qG;split
 .omega
 split
 .exact⟨su _ y,sl _ y⟩
 exact⟨su _ y,sl _ y⟩
def hH(A)(a:Nat->Int)(t:Bytes a)(b:Nat)(k)(j:b<=4000000)(s:A<=1048576)(n:1<=k/\k<=4000000):
  bk (ι:={d:Int // 0<=d/\d<k}) r 27 [aG 0 0,S k] [ef A a b] (λd=>S d.1) (λ_=>[ef A a (b+1)]):=by have o:=IK (r:=r) A a t b k j s n;exact⟨o.1,λu B l i p e g=>o.2 u B l i p e (g ⟨_,KX A a b k n.1⟩)⟩
def nf:∀a,a<1->([0]:p Nat)[a]?=h a:=λa b=>by grind
set_option maxRecDepth 20000 in
def Ci(A)(b:Nat->Int)(o:Bytes b)(e:Nat)(i:e<=4000000)(n:A<=1048576)(d)(u:1<=c d/\c d<=1000):
  bk (ι:={j:bE // j∈d}) r 55 [aG 0 0,bQ.S d] [ef A b e] (λj=>bZ j.1) (λ_=>[ef A b (e+1)]):=by refine bk.cu func55 rfl rfl rfl λt=>?_;refine aZ a v (g.a9 (hH A b o e (c d) i n y) [0] a bl ?_);rintro⟨k,p,s⟩;refine aZ a bX ?_;have l:d.getD k.toNat bQ.I∈d:=M;refine g.bL ⟨d.getD k.toNat bQ.I,l⟩ (g.aS [0] a ?_ nf);simp
def KT:p bE:=[[],[102],[97,47],[97,98],[97,47,98,47,99],[47,97]]
def KU:p bE:=[[97],[98],[99,47,97],[99,47,98],[100,47,97],[101],[97,47,98],[100]]
set_option maxRecDepth 20000 in
def IJ(A)(d:Nat->Int)(l:Bytes d)(i:Nat)(n:i<=100000)(k:A<=1048576):
  bk (ι:={b:bE // c b<=8}) r 53 [aG 0 0] [ef A d i] (λb=>bZ b.1) (λ_=>[ef A d (i+1+1)]):=by
 refine bk.cu func53 rfl rfl rfl λt=>?_;refine aZ a v (g.a9 (hH A d l i 40 y k y) [0] a bl ?_);rintro⟨o,p,s⟩;by_cases u:o=0
 .refine a6 [(5,f)] a gT ?_;have:=Ci (r:=r) A d l (i+1) y k KT b';refine g.bQ this [0] a a a a ?_ a a a bl a bl a ?_
  .refine⟨a,λe bp=>?_⟩;rcases e with _|_|_|_|_|_|e<;>first|rfl|omega
  rintro⟨b,j⟩;refine aZ a v (g.bL ⟨b,(by decide:∀b∈KT,c b<=8) b j⟩ (g.aS [0] a ?_ nf));simp
 refine a6 [(5,m)] a gT ?_;have:=Ci (r:=r) A d l (i+1) y k KU b';refine g.bQ this [0] a a a a Pv a a a bl a bl a ?_;rintro⟨b,j⟩;refine aZ a v (g.bL ⟨b,(by decide:∀b∈KU,c b<=8) b j⟩ (g.aS [0] a ?_ nf));simp
def M6:p bE:=[[97,98,99],[104,101,108,108,111],[119,111,114,108,100],[97,97,97,97],[107,101,101,112],[122,122],[98,97,99,107,117,112],[113]]
abbrev Rx(b:Nat):={a:bE×Nat // c a.1<=100000/\b<=a.2/\a.2<=b+60}
def ID(b)(k)(w:c b<=10)(B:0<=k/\k<=100):bk (ι:={o:bE // c o<=100000}) r 96 [bZ b,S k] [] (λo=>bZ o.1) (λ_=>[]):=by
 refine bk.cu func96 rfl rfl rfl λx=>?_;refine aZ a v (g.ca (λl:Nat×bE×bE=>l.1<=100/\c l.2.2+c l.2.1*l.1<=1010) (λl=>[(0,bZ l.2.1),(1,S l.1),(5,bZ l.2.2)]) (λ_=>[]) (λl=>l.1) (k.toNat,b,[]) a bX a v ⟨by grind,?_⟩ ?_)
 .have:c b*k.toNat<=10*100:=Nat.mul_le_mul w y;grind
 rintro⟨d,i,j⟩ ⟨s,t⟩;simp only at s t;by_cases n:0<d
 .have e:c i<=c i*d:=um _ n;have z:((d:Int) / 2)=((d / 2:Nat):Int):=y;by_cases A:d % 2=1
  .have p:c (i++i)*(d / 2)+c i=c i*d:=by have u:d=2*(d / 2)+1:=y;grind
   refine a6 [(7,f),(10,f)] a bw (g.b5 (d / 2,i++i,j++i) a E a v M ?_);grind
  have p:c (i++i)*(d / 2)=c i*d:=by have u:d=2*(d / 2):=y;grind
  refine a6 [(7,f),(10,m)] a bw (g.b5 (d / 2,i++i,j) a E a v M ?_);grind
 obtain rfl:d=0:=y;refine a6 [(7,m)] a E (g.bt a a ?_);exact aZ a v (g.bL ⟨j,by omega⟩ (g.aw a))
set_option maxRecDepth 20000 in
def Xm(A)(d:Nat->Int)(k:Bytes d)(i)(I:i<=100000)(l:A<=1048576):
  bk (ι:=Rx i) r 54 [aG 0 0] [ef A d i] (λw=>bZ w.1.1) (λw=>[ef A d w.1.2]):=by
 refine bk.cu func54 rfl rfl rfl λO=>?_;refine aZ a v (g.a9 (hH A d k i 5 y l y) [0] a bl ?_);rintro⟨T,U,V⟩;refine aZ a v (g.aN 1 (λb:Nat×bE×Nat=>b.1<=4/\c b.2.1+6*b.1<=24/\i<=b.2.2/\b.2.2+b.1<=i+5) (λb=>[(0,aG 0 0),(4,S b.1),(3,bZ b.2.1)]) (λb=>[ef A d b.2.2]) (λb=>b.1) (T.toNat,[],i+1) a bX a E a ⟨by omega,by grind,by simp,by grind⟩ ?_);rintro⟨n,b,k1⟩ ⟨C,J,F,Z⟩;simp only at C J F Z;by_cases u:0<n
 .refine a6 [(9,f)] a gT ?_;have:=Ci (r:=r) A d k k1 y l M6 b';refine g.bQ this [0] a a a a Pv a a a bl a bl a ?_;rintro⟨j,s⟩;have ae:c j<=6:=(by decide:∀j∈M6,c j<=6) j s;refine aZ a oJ (g.aB (n-1,b++j,k1+1) a bX E M ?_);grind
 obtain rfl:n=0:=y;refine a6 [(9,m)] a E (g.aD ?_);refine aZ a v (g.a9 (hH A d k k1 4 y l y) [0] a bl ?_);rintro⟨R,ab,ad⟩;by_cases B:R=0
 .refine a6 [(19,f)] a (by simp[B]) (g.a9 (hH A d k (k1+1) 12 y l y) [0] a bl ?_);rintro⟨W,X,w1⟩;refine aZ a v (g.aN 1 (λb:Nat×bE×Nat=>b.1<=11/\c b.2.1+b.1<=36/\i<=b.2.2/\b.2.2+b.1<=i+20) (λb=>[(0,aG 0 0),(5,S b.1),(3,bZ b.2.1)]) (λb=>[ef A d b.2.2]) (λb=>b.1) (W.toNat,b,k1+2) a bX a bX a ⟨by omega,by grind,by grind,by grind⟩ ?_);rintro⟨n,o,p⟩ ⟨z,Q,H,N⟩;simp only at z Q H N;by_cases u:0<n
  .refine a6 [(23,f)] a gT (g.a9 (hH A d k p 26 y l y) [0] a bl ?_);rintro⟨Y,aa,L⟩;refine aZ a oJ (g.aB (n-1,o++[UInt8.ofNat (97+Y).toNat],p+1) a bX E M ?_);grind
  obtain rfl:n=0:=y;refine a6 [(23,m)] a E (g.aD ?_);refine a6 [(36,m)] a bX (g.a9 (hH A d k p 60 y l y) [0] a bl ?_);rintro⟨t,G,K⟩;by_cases D:t=0
  .refine a6 [(41,f)] a bw (g.bL ⟨(o++[65],p+1),by grind,by grind,by grind⟩ (g.aS [0] a ?_ nf));simp
  by_cases x:t=1
  .refine a6 [(41,m),(45,f)] a oM (g.a9 (ID [97,98,99,100,101] 9 b' b') [] a bl ?_);rintro⟨j,s⟩;refine aZ a v (g.bL ⟨(j,p+1),s,by grind,by grind⟩ (g.aS [0] a ?_ nf));simp
  refine a6 [(41,m),(45,m)] a bw (g.bL ⟨(o,p+1),by grind,by grind,by grind⟩ (g.aS [0] a ?_ nf));simp
 refine gI [(19,m)] 2 a (by simp[B]) (a6 [(36,m)] a bX (g.a9 (hH A d k (k1+1) 60 y l y) [0] a bl ?_));rintro⟨t,G,K⟩;by_cases D:t=0
 .refine a6 [(41,f)] a bw (g.bL ⟨(b++[65],(k1+1)+1),by grind,by grind,by grind⟩ (g.aS [0] a ?_ nf));simp
 by_cases x:t=1
 .refine a6 [(41,m),(45,f)] a oM (g.a9 (ID [97,98,99,100,101] 9 b' b') [] a bl ?_);rintro⟨j,s⟩;refine aZ a v (g.bL ⟨(j,(k1+1)+1),s,by grind,by grind⟩ (g.aS [0] a ?_ nf));simp
 refine a6 [(41,m),(45,m)] a bw (g.bL ⟨(b,(k1+1)+1),by grind,by grind,by grind⟩ (g.aS [0] a ?_ nf));simp
def Wa(A)(b:Nat->Int)(i:A<=1048576):bk (ι:={d:Nat // d<=1048576}) r 9 [ax (.S m 1 A (sE b))] [] (λ_=>aG 0 0) (λd=>[ef d.1 b 0]):=by
 refine bk.cu func9 rfl rfl rfl λk=>?_;by_cases l:2000<A
 .refine a6 [(5,f)] a bX (g.ba [ef 2000 b 0] a ?_ (g.bL ⟨2000,by decide⟩ (g.aS [0] a ?_ (λj e=>by grind))))
  .simp[bt,fw,bS]
  simp
 exact a6 [(5,m)] a bX (g.bL ⟨A,i⟩ (g.aS [0] a E (λj e=>by grind)))
def CB:∀a,a<1->([0]:p Nat)[a]?=h a:=b'
def sW:∀a,a<2->([0,1]:p Nat)[a]?=h a:=b'
def gn:p cW->p Z
 |[]=>[]
 |a::b=>.int .i64 a.1::jd a.2::gn b
def gg(b:p cW):Prop:=∀a∈b,a7 .i64 a.1/\c a.2<=9223372036854775807
theorem x9:∀a:p cW,c (gn a)=c a*2
 |[]=>rfl
 |d::b=>by simp only[gn,fj,x9 b];omega
def I_:∀{d:p cW}{e:Nat},e<c d->(gn d)[e*2]?=h (.int .i64 (d.getD e (0,[])).1)/\(gn d)[e*2+1]?=h (jd (d.getD e (0,[])).2)
 |[],e,a=>absurd a (iC _)
 |g::b,0,_=>⟨rfl,rfl⟩
 |g::b,e+1,a=>by rw[show(e+1)*2=e*2+1+1 by omega];exact I_ (d:=b) (e:=e) M
def CD:∀b a:p cW,gn (b++a)=gn b++gn a
 |[],a=>rfl
 |d::b,a=>by simp only[us,gn,CD b a]
theorem I':∀b(a:Nat)d,a<c b->gn (b.set a d)=(gn b).take (a*2)++[.int .i64 d.1,jd d.2]++(gn b).drop (a*2+2)
 |[],a,d,e=>absurd e (iC _)
 |g::b,0,d,_=>by simp[gn]
 |g::b,a+1,d,e=>by rw[List.set_cons_succ,gn,I' b a d M,gn,show(a+1)*2=a*2+1+1 by omega,show a*2+1+1+2=(a*2+2)+1+1 by omega];simp
theorem CE{d}(o:gg d):eg 2 (c d) (bG.fn d) (gn d):=by
 refine⟨x9 d,λb _=>rfl,λb e p r a=>?_⟩;obtain⟨j,k⟩:=I_ e;obtain⟨n,g⟩:=o (d.getD b (0,[])) M;have l:bG.fn d b=[.int .i64 (d.getD b (0,[])).1,.V (d.getD b (0,[])).2]:=rfl;rw[l]at a
 match p,a with
 |0,a=>cases a;exact⟨_,j,λi=>Rd.int n⟩
 |1,a=>cases a;exact⟨_,k,λi=>Rd.V M g⟩
abbrev g0(a:Z):z:=ax (.val a)
abbrev aE(a:fg)(d:Nat)(b:p cW):an:=.J (ck 131 2 a d (gn b))
abbrev io(b:Nat)(a:fg)(d:Nat):an:=.J (eb b 248 (cX a d))
abbrev sM(a:cW):z:=ax (.cD 131 [.int .i64 a.1,.V a.2])
abbrev xK(a:cW):z:=.q (.agg [.c (.int .i64 a.1),.c (.V a.2)])
theorem aeq{a:cW}(n:m3 B [.c (.int .i64 a.1),.c (.V a.2)]):B=[.int .i64 a.1,jd a.2]:=by
 obtain⟨j,e⟩:=n
 match B,j with
 |[r,s],_=>
  obtain⟨o,i,b⟩:=e 0 _ rfl;obtain⟨p,k,d⟩:=e 1 _ rfl;cases i;cases k;have g:=b λ_ _=>q;have l:=(D_ (d λ_ _=>q)).1;cases g;rw[l]
def RR(b:t.op=.call {callee:=.builtin .append,args:=#[l,X],argTypes:=#[248,248]}):j1 V t l X 131 lV:=
 ⟨⟨248,248,CQ,CQ,b,(bd _ _ a),rfl,(bd _ _ a),rfl⟩,(bd _ _ a),by decide,by decide⟩
def B_(bN)(k)(d):Y r 205 [g0 (cX bN k)] [aE bN k d] (S k) [aE bN k d]:=by refine Y.K func205 rfl λb=>?_;refine gI [] 7 a v ?_;refine g.jl bd 0 a a a a a a a a ?_;exact aZ a v (g.aS [0] a a CB)
def B'(j cap){d}(l:gg d)(o:Nat)(b:e<c d)(k:w<c d):Y r 343 [g0 (cX (.row j cap) (c d)),S e,S w] [aE (.row j cap) (c d) d] (bi (decide ((d.getD e (0,[])).1<(d.getD w (0,[])).1))) [aE (.row j cap) (c d) d]:=by
 refine Y.K func343 rfl λn=>?_
 have i:=CE l;refine a6 [(1000001,f)] a v ?_;refine g.gg b5 [g0 (cX (.row j cap) (c d)),S e,g0 (.pointer (h ⟨j,0+(e:Int).toNat*2,q⟩)),g0 (.pointer (h ⟨j,0+(e:Int).toNat*2+0,q⟩)),S (d.getD e (0,[])).1,g0 (cX (.row j cap) (c d)),S w,g0 (.pointer (h ⟨j,0+(w:Int).toNat*2,q⟩)),g0 (.pointer (h ⟨j,0+(w:Int).toNat*2+0,q⟩)),S (d.getD w (0,[])).1,bi (decide ((d.getD e (0,[])).1<(d.getD w (0,[])).1))] 10 a a a a a ⟨
  aT.y,aT.y,aT.eval (bg:=[]) bd a8.nil a bw,aT.y,
  aT.a1 (jZ a) (a0.e7 (d:=0) (e:=e) (ae:=0) bd a a E a i a a b),
  aT.y,aT.y,aT.eval (bg:=[]) bd a8.nil a bw,aT.y,
  aT.a1 (jZ a) (a0.e7 (d:=0) (e:=w) (ae:=0) bd a a E a i a a k),
  aT.y,v⟩ ?_
 exact aZ a v (g.aS [0] a a CB)
def Mf{cap}{d}{aa}(u:t.op=.store o l X)(p:bW eP o=h lV)(b:off=e*2)(s:bF F l=cM (.pointer (h ⟨j,off,q⟩)))(g:mm (bF F X)=h [.c (.int .i64 aa.1),.c (.V aa.2)])(y:c d=k)(v:e<c d)(x:t.guard=q):
  aT r D all t F [aE (.row j cap) k d] .any [aE (.row j cap) k (d.set e aa)]:=by subst b;have w:=ev.eL (D:=D) (n:=[aE (.row j cap) k d]) bd 0 (W:=131) (i:=2) (k:=k) (j:=j) (cap:=cap) (off:=e*2) (ag:=gn d) u p s g a a a (by grind[x9]);grind[aeq,I',aT.fa]
abbrev Mj(d a:Nat)(b:p cW)(e g:Nat)(i j:Bool):p an:=match i with
 |false=>[aE (.row d a) (c b) b]
 |true=>match j with
  |false=>[aE (.row d a) (c b) (b.set e (b.getD g (0,[])))]
  |true=>[aE (.row d a) (c b) (jr b e g)]
def Ca(j cap){d}(n:gg d)(b:e<c d)(l:w<c d):Y r 346 [g0 (cX (.row j cap) (c d)),S e,S w] [aE (.row j cap) (c d) d] (.Q []) [aE (.row j cap) (c d) (jr d e w)]:=by
 refine Y.K func346 rfl λs=>?_;have x:=CE n;refine a6 [(1000000,f)] a v ?_;let i:Nat->z:=λo=>([g0 (cX (.row j cap) (c d)),S e,g0 (cX (.row j cap) (c d)),S w,g0 (cX (.row j cap) (c d)),S w,g0 (.pointer (h ⟨j,0+(w:Int).toNat*2,q⟩)),xK (d.getD w (0,[])),g0 (cX (.row j cap) (c d)),S e,g0 (.pointer (h ⟨j,0+(e:Int).toNat*2,q⟩)),xK (d.getD e (0,[])),g0 (.pointer (h ⟨j,0+(e:Int).toNat*2,q⟩)),.any,g0 (.pointer (h ⟨j,0+(w:Int).toNat*2,q⟩))]:p z).getD o .any
 refine g.cx b5 i (o_ (Mj j cap d e w) 13 15) a a a a ⟨
  .bI,.bI,.bI,.bI,.bI,.bI,
  .ds bd a8.nil,
  cn.hd a a a a (aT.a1 (jZ a) (a0.e7 (d:=0) (e:=w) (ae:=0) bd a a E a x a a l)),
  .bI,.bI,
  .ds bd a8.nil,
  cn.hd a a a a (aT.a1 (jZ a) (a0.e7 (d:=0) (e:=e) (ae:=0) bd a a E a x a a b)),
  .ds bd a8.nil,
  cn.gA a a ?_,
  .ds bd a8.nil,
  cn.gB a a ?_,v⟩ ?_
 .exact Mf a a E a a a b a
 .exact Mf a a E a a E M a
 intro z k;show g r _ _ _ _ _ (Mj j cap d e w (z 13) (z 15));rw[k 13 b',k 15 b'];exact bT.di [0] a v a a a CB
def Uq(C)(bN){d}(A:gg d)(D:c d<=1000){l}(B:c l.2<=9223372036854775807):
  bk (ι:=fg) r 345 [g0 (.pointer (h ⟨C,0,q⟩)),sM l] [io C bN (c d),aE bN (c d) d] (λ_=>.Q []) (λb=>[io C b (c d+1),aE b (c d+1) (d++[l])]):=by
 refine bk.cu func345 rfl rfl rfl λy=>?_;refine a6 [(1000000,f)] a v ?_;have j:=tC bN (c d);refine g.eF (ι:=fg) b5 7 8 10 (λi=>ay i 6) (λi=>([g0 (.pointer (h ⟨C,0,q⟩)),g0 (.pointer (h ⟨C,0,q⟩)),g0 (.pointer (h ⟨C,0,q⟩)),g0 (cX bN (c d)),sM l,xK l,ax (.S f 2 1 λo=>([[.int .i64 l.1,.V l.2]]:p (p N)).getD o [])]:p z).getD i .any) (λb _=>g0 (cX b (c d+1))) (λb=>[io C bN (c d),.J (ck 131 2 b (c d+1) (gn d++[.int .i64 l.1,jd l.2]))])
  rfl rfl rfl rfl rfl rfl rfl (λi x=>by exact lG) rfl
  ⟨aT.y,aT.y,aT.a1 (jZ a) (a0.dQ a a),aT.eC bd 0 a a a a a j a,aT.y,aT.a1 (jZ a) (a0.ga (ah:=[.int .i64 l.1,.V l.2]) bd a a a a),aT.y,v,v,v,v⟩
  (λb=>⟨aT.y,aT.y,aT.a1 (jZ a) (a0.dQ a a),aT.eC bd 0 a a a a a j a,aT.y,aT.a1 (jZ a) (a0.ga (ah:=[.int .i64 l.1,.V l.2]) bd a a a a),aT.y,v,v⟩)
  (dx.fa a (ev.ft (d:=1) (bN:=bN) (ag:=gn d) (k:=c d) (hU:=[.int .i64 l.1,jd l.2]) (RR a) a a a a a (λu E s w e t=>?_) zW)) λb=>?_
 .match s,e with
  |0,e=>cases e;cases t;exact bJ
  |1,e=>grind[D_]
 have n:=tC b (c d+1);refine g.aP (a0.dQ a a) a a ?_;refine g.h1 bd 0 a a a a a (by cases b<;>rfl) n a a a ?_;refine aZ a v ⟨b,bT.di [0,1] a v ?_ a a sW⟩;show h [_,an.J (ck _ _ _ _ (gn d++_))]=h [_,an.J (ck _ _ _ _ (gn (d++[l])))];rw[CD];rfl
def ck.cut{cap}{d}{l}(k:ck W 2 (.row j cap) (c d+1) (gn (d++[l])) aa k6):ck W 2 (.row j cap) (c d) (gn d) aa k6:=by obtain⟨a,b,s,p,g,i,o,r⟩:=k;rw[CD]at *;refine⟨a,λn e=>b n (List.mem_append_left _ e),x9 d,by omega,g,gn [l]++i,M,?_⟩;grind
def Up(C j cap){d}{l}(p:gg (d++[l]))(s:c d<=1000)(b:c d+1<=cap):
  Y r 344 [g0 (.pointer (h ⟨C,0,q⟩))] [io C (.row j cap) (c d+1),aE (.row j cap) (c d+1) (d++[l])] (sM l) [io C (.row j cap) (c d),aE (.row j cap) (c d) d]:=by
 refine Y.K func344 rfl λo=>?_;have i:eg 2 (c d+1) (bG.fn (d++[l])) (gn (d++[l])):=by grind[CE,List.length_append]
 refine aZ a v (g.aP (a0.dQ a a) a a ?_);refine g.aq (aT.eC bd 0 a a a a a a a) a ?_;refine aZ a bJ (g.aP (a0.dQ a a) a a ?_);refine g.aq (aT.eC bd 0 a a a a a a a) a ?_;refine aZ a bw (g.aP (a0.e7 (d:=1) (e:=c d) (ae:=0) bd a a (by simp[show lV.size=2 from a]) a i a a E) a a ?_);refine aZ a v (g.aP (a0.dQ a a) a a ?_);refine g.aq (aT.eC bd 0 a a a a a a a) a ?_;refine aZ a v (g.aP (a0.jX bd a a a a a a b y y) a a ?_);rw[show(((c d+1:Nat):Int)-1).toNat=c d from by omega];refine g.aP (a0.dQ a a) a a ?_;refine g.h1 bd 0 a a a a a a a a a a ?_;refine gI [] 2 a v (g.gy (ι:=Unit) 1 (λ_=>ck 131 2 (.row j cap) (c d) (gn d)) a (λt k n=>⟨(),ck.cut n⟩) λ_=>?_);refine aZ a v (g.aS [0,1] a ?_ sW);simp
abbrev sN(a:Nat):z:=ax (.cg 247 (.val (.pointer (h ⟨a,0,q⟩))))
section
variable {n:p an}{d C k:Nat}{bN:fg}(x:c6 d n=h (io C bN k))
include x
def I4:nO V n 247 (.pointer (h ⟨C,0,q⟩)) "Len" 205 (cX bN k):=.deref bd (hu type247) rfl rfl rfl underlying247 x rfl (tC bN k) rfl
def Cs:nO V n 247 (.pointer (h ⟨C,0,q⟩)) "Less" 343 (cX bN k):=.deref bd (hu type247) rfl rfl rfl underlying247 x rfl (tC bN k) rfl
def Cu:nO V n 247 (.pointer (h ⟨C,0,q⟩)) "Swap" 346 (cX bN k):=.deref bd (hu type247) rfl rfl rfl underlying247 x rfl (tC bN k) rfl
end
def XN{n}{aa}:nO V n 247 aa "Push" 345 aa:=.ptr (hu type247) rfl rfl rfl underlying247
def XM{n}{aa}:nO V n 247 aa "Pop" 344 aa:=.ptr (hu type247) rfl rfl rfl underlying247
theorem tF{d}(i:gg d){e w}(a:e<c d)(b:w<c d):gg (jr d e w):=λj g=>i j (acZ a b g)
theorem Ev:∀b(d:p cW)a,a<b->iU b d a=iU (a+1) d a
 |0,_,_,g=>absurd g (iC _)
 |b+1,d,a,g=>by
  rw[iU,iU];by_cases e:(a-1) / 2=a
  .grind
  rw[bm e,bm e];split
  .have s:(a-1) / 2<a:=y;rw[Ev b _ _ y,Ev a _ _ s]
  simp
def Ur(C j cap){d}(u:gg d)(N:c d<=1000){w}(B:w<c d):
  Y r 248 [sN C,S w] [io C (.row j cap) (c d),aE (.row j cap) (c d) d] (.Q []) [io C (.row j cap) (c d),aE (.row j cap) (c d) (iU (w+1) d w)]:=by
 refine Y.K func248 rfl λK=>?_;refine gI [] 3 a v (g.dF 2 [0] (λb:p cW×Nat=>gg b.1/\c b.1=c d/\b.2<c d/\iU (w+1) d w=iU (b.2+1) b.1 b.2) (λb=>[(1,S b.2)]) (λb=>[io C (.row j cap) (c b.1),aE (.row j cap) (c b.1) b.1]) (λb=>b.2) (d,w) a E a E a ⟨u,a,B,a⟩ ?_);rintro⟨b,e⟩ ⟨o,F,I,k⟩;simp only at o F I k;cases e with
 |zero=>
  have n:iU (0+1) b 0=b:=by rw[iU,bs a]
  rw[n]at k;rw[k];refine gI [] 5 a lu (g.aP (JP (i:=.i64) 0 a a a lu (λJ=>rfl) (λJ=>rfl)) a a ?_);refine a6 [(11,f),(17,f)] a E (g.aD ?_);exact OA
 |succ e=>
  refine a6 [(11,m),(1000001,f)] a lG ?_;have D:(((e+1:Nat):Int)-1) / 2=((e / 2:Nat):Int):=y;rw[D];have A:(e+1-1) / 2=e / 2:=M;have t:e / 2<c b:=y;have s:e+1<c b:=y;have n:iU (e+1+1) b (e+1)=if nv b (e+1) (e / 2)=f then iU (e+1) (jr b (e / 2) (e+1)) (e / 2)else b:=by rw[iU,bm y,A]
  rw[n]at k;refine g.region ?_;refine a6 [(11,m)] a bw (g.dm (B' j cap o (c b) s t).tocD [1] (Cs (d:=0) a) a a a a a a a a bl a bl a λ_=>?_);by_cases l:nv b (e+1) (e / 2)=f
  .rw[bs l]at k;have z:=uq l;refine a6 [(17,m)] a dA (g.dm (Ca j cap o t s).tocD [1] (Cu (d:=0) a) a a a a a a a a bl a bl a λ_=>?_);refine aZ a v (g.aB (jr b (e / 2) (e+1),e / 2) a E ?_ ?_ ?_)
   .simp[pC]
   .grind [tF,pC,Ev]
   grind
  rw[bm l]at k;rw[k];have z:¬(b.getD (e+1) (0,[])).1<(b.getD (e / 2) (0,[])).1:=λx=>l (fk x);refine a6 [(17,f)] a dA (g.aD ?_);exact OA
def Js{n}{e k}{bN}{d}(t:c6 e n=h (aE bN k d))(s:0<k)(b)(j:bb n b):∃i g,bN=.row i g/\k<=g:=by
 have l:=ei t;obtain⟨i,g,rfl⟩:=(ck.len l b j).2.2.1 s;have o:e<c b.m:=by rw[j.len];grind
 obtain⟨p,r,_⟩:=j.box e _ _ l (bI o);exact⟨i,g,a,r.2.2.2.1⟩
def UE(C)(bN){d}(n:gg d)(D:c d<=100){l}(x:a7 .i64 l.1/\c l.2<=9223372036854775807):
  bk (ι:=fg) r 203 [sN C,sM l] [io C bN (c d),aE bN (c d) d] (λ_=>.Q []) (λi=>[io C i (c d+1),aE i (c d+1) (hz d l)]):=by
 refine bk.cu func203 rfl rfl rfl λB=>?_;refine aZ a v (g.dm (Uq C bN n y x.2) [0,1] XN a a a a a a a a bl a bl a λi=>?_);have s:gg (d++[l]):=λz t=>by
  rcases gk.1 t with p|p
  .exact n z p
  grind
 refine g.fz (Js (e:=1) (k:=c d+1) (bN:=i) (d:=d++[l]) a y) λu=>?_;obtain⟨j,b,rfl,A⟩:=u;refine aZ a v (g.dm (B_ (.row j b) (c d+1) (d++[l])).tocD [1] (I4 (d:=0) a) a a a a a a a a bl a bl a λ_=>?_);refine aZ a bJ ?_;rw[show((c d+1:Nat):Int)-1=(c d:Nat) by omega];have o:=Ur (r:=r) C j b s M (w:=c d) E;rw[dm,gU]at o;exact g.aF o [0,1] a (aZ a v ⟨.row j b,bT.di [0,1] a v a a a sW⟩)
theorem xS:∀e g(d:p cW)a b,b<=a+e->b<=a+g->g1 e d a b=g1 g d a b
 |0,0,_,_,_,_,_=>rfl
 |0,g+1,d,a,b,i,_=>by rw[g1,g1,bs y]
 |e+1,0,d,a,b,_,i=>by rw[g1,g1,bs y]
 |e+1,g+1,d,a,b,k,l=>by
  have j:a<jj d a b:=Fx;rw[g1,g1];split
  .rfl
  split
  .exact xS e g _ _ _ y y
  simp
def Uo(C j cap k){d}(I:gg d)(Q:k<=c d)(V:c d<=1000):
  Y r 252 [sN C,S 0,S k] [io C (.row j cap) (c d),aE (.row j cap) (c d) d] .any [io C (.row j cap) (c d),aE (.row j cap) (c d) (g1 k d 0 k)]:=by
 refine Y.K func252 rfl λO=>?_;refine cr a v (g.dF 2 [0,1,2] (λb:p cW×Nat=>gg b.1/\c b.1=c d/\b.2<=k/\g1 k d 0 k=g1 k b.1 b.2 k) (λb=>[(7,S b.2)]) (λb=>[io C (.row j cap) (c b.1),aE (.row j cap) (c b.1) b.1]) (λb=>k-b.2) (d,0) a E a E a ⟨I,a,by omega,a⟩ ?_);rintro⟨b,e⟩ ⟨o,K,N,i⟩;simp only at o K N i;by_cases F:k<=2*e+1
 .have x:g1 k b e k=b:=by rw[xS k (k+1) _ _ _ y y,g1,bs F]
  rw[x]at i;rw[i];refine a6 [(17,f),(21,f)] a Q_ (g.aD ?_);exact NZ
 have z:e<jj b e k/\jj b e k<k:=Fx;have x:g1 k b e k=if nv b (jj b e k) e=f then g1 k (jr b e (jj b e k)) (jj b e k) k else b:=by rw[xS k (k+1) _ _ _ y y,g1,bm F]
 rw[x]at i;have J:2*e+1<c b:=y;have B:e<c b:=y;have A:2*(e:Int)+1=((2*e+1:Nat):Int):=y;have M:((2*e+1:Nat):Int)+1=((2*e+2:Nat):Int):=y;refine a6 [(17,m),(21,m),(1000004,f)] a Q9 ?_;rw[A];refine a6 [(1000006,f)] a Q9 ?_;rw[M];apply g.cj [(0,sN C),(1,S 0),(2,S k),(7,S e),(9,S (jj b e k))] [io C (.row j cap) (c b),aE (.row j cap) (c b) b]
 .intro du;by_cases D:2*e+2<k
  .refine g.region ?_;refine a6 [(28,f)] a bw (g.dm (B' j cap o (c b) (e:=2*e+2) (w:=2*e+1) y J).tocD [1] (Cs (d:=0) a) a a a a a a a a bl a bl a λ_=>?_);by_cases s:nv b (2*e+2) (2*e+1)=f
   .have t:jj b e k=2*e+2:=bs ⟨D,s⟩;refine a6 [(33,f),(1000008,f)] a (by simpa using uq s) (du _ _ a ?_);simp[t]
   have t:jj b e k=2*e+1:=bm λl=>s l.2;have u:¬(b.getD (2*e+2) (0,[])).1<(b.getD (2*e+1) (0,[])).1:=λl=>s (fk l);refine a6 [(33,m),(1000008,f)] a (by simpa using u) (du _ _ a ?_);simp[t]
  have t:jj b e k=2*e+1:=bm λl=>D l.1;refine a6 [(28,m),(33,m),(1000008,f)] a bw (du _ _ a ?_);simp[t]
 generalize jj b e k=n at *;obtain⟨T,R⟩:=z;refine g.region ?_;refine aZ a v (g.dm (B' j cap o (c b) (e:=n) (w:=e) y B).tocD [1] (Cs (d:=0) a) a a a a a a a a bl a bl a λ_=>?_);by_cases s:nv b n e=f
 .rw[bs s]at i;refine a6 [(39,m)] a (by simpa using uq s) (g.dm (Ca j cap o B (show n<c b by omega)).tocD [1] (Cu (d:=0) a) a a a a a a a a bl a bl a λ_=>?_);refine aZ a v (g.aB (jr b e n,n) a E ?_ ?_ ?_)
  .simp[pC]
  .grind [tF,pC]
  grind
 rw[bm s]at i;rw[i];have u:¬(b.getD n (0,[])).1<(b.getD e (0,[])).1:=λl=>s (fk l);refine a6 [(39,f)] a (by simpa using u) (g.aD ?_);exact NZ
def B1{k}:∀e{a:p cW}(d:Nat),gg a->d<c a->k<=c a->gg (g1 e a d k)
 |0,_,_,b,_,_=>b
 |e+1,a,d,b,g,j=>by
  rw[g1];split
  .exact b
  have i:jj a d k<k:=Fx;split
  .exact B1 e _ (tF b g y) pK pK
  grind
def UD(C j cap){d}{k}(n:gg d)(t:c d=k+1)(A:k<=100)(u:k+1<=cap):
  Y r 206 [sN C] [io C (.row j cap) (k+1),aE (.row j cap) (k+1) d] (sM ((g7 d).getD k (0,[]))) [io C (.row j cap) k,aE (.row j cap) k ((g7 d).take k)]:=by
 refine Y.K func206 rfl λD=>?_;refine aZ a v (g.dm (B_ (.row j cap) (k+1) d).tocD [1] (I4 (d:=0) a) a a a a a a a a bl a bl a λ_=>?_);refine aZ a bJ ?_;rw[show((k+1:Nat):Int)-1=((k:Nat):Int) by omega];have s:=Ca (r:=r) j cap n (e:=0) (w:=k) y y;rw[t]at s;refine g.dm s.tocD [1] (Cu (d:=0) a) a a a a a a a a bl a bl a λ_=>?_;have o:=tF n (e:=0) (w:=k) y y;have i:=Uo (r:=r) C j cap k o pK pK;have b:=B1 (k:=k) k 0 o pK pK;have p:g1 k (jr d 0 k) 0 k=g7 d:=by unfold g7;grind[xS]
 rw[pC,t,p]at i;rw[p]at b;have z:g7 d=(g7 d).take k++[(g7 d).getD k (0,[])]:=by
  have F:c (g7 d)=k+1:=by grind[K8]
  apply rf
  .grind
  grind
 generalize(g7 d).getD k (0,[])=l at *;have x:c ((g7 d).take k)=k:=M;generalize(g7 d).take k=B at *;rw[z]at i b;subst x;refine aZ a v (g.aF i [0,1] a (aZ a v (g.dm (Up C j cap b y u).tocD [0,1] XM a a a a a a a a bl a bl a λ_=>?_)));refine aZ a v (g.aS [0,1] a E sW)
def aaF{ad}(u:t.op=.binOp op o l X ty){s}{cp}(k:P.underlying o=h (.interface cp))(w:η l=ax .bo)(v:η X=ax (.val (.iface ad aa)))(x:∀Q,(eqGuard op o l X .nilIface (.iface ad aa)).run P Q=.ok () Q)(ae:∀Q a,(eqGuard op o l X .nilIface (.iface ad aa)).events P Q a=a)(d:h6 op m=h s):a0 P t η n (ax (.bool s)) n:=by
 refine .aZ λb p A r=>?_;have g:=r l;have e:=r X;rw[w]at g;rw[v]at e;replace g:=b6 g;replace e:=b6 e;generalize j:p l=y at g;generalize I:p X=z at e;cases g;cases e;have i:(Op.equal o .nilIface (.iface ad aa)).run P b.a=.ok m b.a:=Qn;have C:∀a,(Op.equal o .nilIface (.iface ad aa)).events P b.a a=a:=λa=>by show(aR (9999+1) o _ _).events P b.a a=a;unfold aR;simp[underlying,k]
 cases op<;>simp only[h6,reduceCtorEq,eR]at d
 .exact Qd
 exact PH
abbrev SI(a:Z):z:=ax (.val a)
def Iv(ad)(aa):Y r 245 [ax .bo,SI (.iface ad aa)] [] (bi m) []:=by refine Y.K func245 rfl λb=>?_;refine aZ a v ?_;refine g.aP (Df a underlying156 a a a) a a ?_;refine a6 [(11,f)] a E ?_;refine g.aP (aaF a underlying156 a a bl (λ_ _=>rfl) a) a a ?_;exact aZ a v (g.aw a a)
abbrev ie(b a:av×Z):p an:=[.J (eb 2 156 (.iface b.1 b.2)),.J (eb 3 156 (.iface a.1 a.2))]
def ql:∀a,a<2->([0,1]:p Nat)[a]?=h a:=b'
def Cg(j e)(i)(d)(k:cK i=f)(n:cC d=f):Y r 199 [S i,bZ d] (ie j e) (S (e5 i d)) (ie j e):=by refine Y.K func199 rfl λl=>?_;have b:a8 r [(244,ek c8 ez (λi d=>BY (e5 i d)) λi d=>[cK i=f,cC d=f])]:=.cons t244 .nil;refine b_ b a dA ?_;refine g.aq (aT.gp bd 0 a a a a a a) a ?_;refine g.aF (Iv _ _) [] a ?_;refine b_ b a v ?_;refine g.aq (aT.gp bd 1 a a a a a a) a ?_;refine g.iA (Iv _ _) [] a a a a a a a a a a a ?_;exact a_ b [(20,m)] a E (g.aS [0,1] a a ql)
end
section
open Go.Sort (swp insInner insOuter ltInt)
variable {r:ai V}
def U4(k):Y r 261 [S k] [] (bi m) []:=by refine Y.K func261 rfl λb=>?_;exact a6 [(5,m)] a E (g.aw a)
abbrev G1:bK:=df c8 (λ_=>bi m) λ_=>[]
def adN:bL r 261 G1:=.bb λa _=>U4 a
def Vo(l X):Y r 225 [S l,S X] [] (bi (ltInt l X)) []:=by have b:a8 r [(261,G1)]:=.cons adN .nil;refine Y.K func225 rfl λd=>?_;refine b_ b a E (g.aw a ?_);simp[ltInt]
abbrev p':bK:=ek c8 c8 (λa b=>bi (ltInt a b)) λ_ _=>[]
def rY:bL r 225 p':=.bl λa b _=>Vo a b
def sQ(a:Array Int)(b:Nat):p N:=[.int .i64 a[b]!]
abbrev dJ(a:Nat):z:=cy 0 (.S a 1 0 a)
abbrev cA(b:Nat)(a:Array Int):an:=.h 3 1 b (sQ a)
def g2:∀a,a<1->([0]:p Nat)[a]?=h a:=λa b=>by grind
end
section
open Go.Sort (swp insInner insOuter insertionSort ltInt)
variable {r:ai V}
def lM{a}(r:a.size=k)(l:e<k)(n:w<k){g:Nat->p N}(i:bt k g (sQ a)):bt k (lm w [.int .i64 a[e]!] (lm e [.int .i64 a[w]!] g)) (sQ (swp a e w)):=by
 intro b d;have o:(swp a e w)[b]! = if b=w then a[e]! else if b=e then a[w]! else a[b]! := by unfold swp;grind
 have j:=i b d;simp only[sQ,lm]at j⊢;grind
theorem nB(a:Array Int)(e w):(swp a e w).size=a.size:=by simp[swp]
theorem Z2{b}{a}(e:b<w)(d:ltInt a[w]! a[w-1]! = f):insInner ltInt b w a=insInner ltInt b (w-1) (swp a w (w-1)):=by
 cases w with
 |zero=>omega
 |succ w=>
  simp only[pX]at d⊢;rw[insInner,bs];grind
def JO{b}{a}(d:b<w->ltInt a[w]! a[w-1]! = m):insInner ltInt b w a=a:=by
 cases w with
 |zero=>rfl
 |succ w=>
  simp only[pX]at d;rw[insInner,bm];grind
theorem U0(k)(n)(d j)(B:n.size=k)(K:j<=k)(J:d<=k)(M:k<=4000000):
  Y r 219 [dJ k,S d,S j] [cA k n] (.Q []) [cA k (insertionSort ltInt n d j)]:=by
 have w:a8 r [(225,p')]:=.cons rY .nil;refine Y.K func219 rfl λI=>?_;refine aZ a bJ (g.aN 1 (λb:Nat×Array Int=>b.2.size=k/\d+1<=b.1/\b.1<=k+1/\insOuter ltInt d j b.1 b.2=insertionSort ltInt n d j) (λb=>[(0,dJ k),(1,S d),(2,S j),(6,S b.1)]) (λb=>[cA k b.2]) (λb=>j-b.1) (d+1,n) a E a E a ⟨B,by omega,by grind,a⟩ ?_);rintro⟨e,d1⟩ ⟨z,u,A,o⟩;simp only at z u A o;by_cases t:e<j
 .refine a6 [(12,f)] a bX (g.aN 1 (λb:Nat×Array Int=>b.2.size=k/\b.1<=e/\insInner ltInt d b.1 b.2=insInner ltInt d e d1) (λb=>[(0,dJ k),(1,S d),(2,S j),(6,S e),(7,S b.1)]) (λb=>[cA k b.2]) (λb=>b.1) (e,d1) a E a E a ⟨z,by simp,a⟩ ?_);rintro⟨l,d2⟩ ⟨p,C,s⟩;simp only at p C s;by_cases D:d<l
  .have i:((l:Int)-1).toNat=l-1:=y;by_cases x:ltInt d2[l]! d2[l-1]! = f
   .refine a_ w [(18,f),(29,f)] a ?_ ?_
    .simp[a7,i,x];omega
    refine g.aB (l-1,swp d2 l (l-1)) a bX ?_ ?_ ?_
    .simp only[U.Y,U,i,cV,c1,a9,ba];exact lM p y y (λ_ _=>rfl)
    .refine⟨by grind[nB],by omega,?_⟩;grind[Z2]
    omega
   refine a_ w [(18,f),(29,m)] a ?_ (g.aD ?_)
   .simp[a7,i,x];omega
   refine aZ a bJ (g.aB (e+1,d2) a E E ?_ ?_)
   .refine⟨p,by omega,by grind,?_⟩;simp only;rw[<-o,insOuter.eq_1 ltInt d j e,bs t,<-s,JO λ_=>by grind]
   omega
  refine a_ w [(18,m)] a bw (g.aD ?_);refine aZ a bJ (g.aB (e+1,d2) a E E ?_ ?_)
  .refine⟨p,by omega,by grind,?_⟩;simp only;rw[<-o,insOuter.eq_1 ltInt d j e,bs t,<-s,JO λF=>absurd F D]
  omega
 refine a6 [(12,m)] a bX (g.aD ?_);have:insertionSort ltInt n d j=d1:=by rw[<-o,insOuter,bm t]
 rw[this];exact r8
end
section
open Go.Sort (swp siftDown ltInt)
variable {r:ai V}
def acn{bp first root}{a}(b:¬2*root+1<bp):siftDown ltInt bp first root a=a:=by rw[siftDown,dif_pos y]
theorem LY{bp first root}{a}(e:2*root+1<bp)(b:2*root+1+1<bp->ltInt a[first+(2*root+1)]! a[first+(2*root+1)+1]! = m)(d:ltInt a[first+root]! a[first+(2*root+1)]! = f):
  siftDown ltInt bp first root a=siftDown ltInt bp first (2*root+1) (swp a (first+root) (first+(2*root+1))):=by rw[siftDown.eq_1 ltInt bp first root a,dif_neg y,bm M,bm M]
theorem LZ{bp first root}{a}(e:2*root+1<bp)(b:2*root+1+1<bp->ltInt a[first+(2*root+1)]! a[first+(2*root+1)+1]! = m)(d:ltInt a[first+root]! a[first+(2*root+1)]! = m):
  siftDown ltInt bp first root a=a:=by rw[siftDown.eq_1 ltInt bp first root a,dif_neg y,bm M,bs M]
theorem acl{bp first root}{a}(e:2*root+1+1<bp)(b:ltInt a[first+(2*root+1)]! a[first+(2*root+1+1)]! = f)(d:ltInt a[first+root]! a[first+(2*root+1+1)]! = f):
  siftDown ltInt bp first root a=siftDown ltInt bp first (2*root+1+1) (swp a (first+root) (first+(2*root+1+1))):=by rw[siftDown.eq_1 ltInt bp first root a,dif_neg y,bs M,bm M,dif_pos y]
theorem acm{bp first root}{a}(e:2*root+1+1<bp)(b:ltInt a[first+(2*root+1)]! a[first+(2*root+1+1)]! = f)(d:ltInt a[first+root]! a[first+(2*root+1+1)]! = m):
  siftDown ltInt bp first root a=a:=by rw[siftDown.eq_1 ltInt bp first root a,dif_neg y,bs M,bs M]
theorem WU(k)(l)(d b first:Nat)(t:l.size=k)(D:first+b<=k)(u:d<=k)(E:k<=4000000):
  Y r 256 [dJ k,S d,S b,S first] [cA k l] (.Q []) [cA k (siftDown ltInt b first d l)]:=by
 have n:a8 r [(225,p')]:=.cons rY .nil;refine Y.K func256 rfl λA=>?_;refine aZ rfl v (g.aN 1 (λe:Nat×Array Int=>e.2.size=k/\e.1<=k/\siftDown ltInt b first e.1 e.2=siftDown ltInt b first d l) (λe=>[(0,dJ k),(1,S d),(2,S b),(3,S first),(8,S e.1)]) (λe=>[cA k e.2]) (λe=>b-e.1) (d,l) rfl ?_ rfl ?_ rfl ⟨t,u,rfl⟩ ?_)
 .simp
 .simp
 rintro⟨root,d1⟩ ⟨w,z,o⟩;simp only at w z o;by_cases p:2*root+1<b
 .have s:((first:Int)+(2*(root:Int)+1)).toNat=first+(2*root+1):=y
  have aj:((first:Int)+(2*(root:Int)+1)+1).toNat=first+(2*root+1+1):=y
  by_cases B:2*root+1+1<b
  .by_cases C:ltInt d1[first+(2*root+1)]! d1[first+(2*root+1+1)]! = f
   .have i:((first:Int)+(2*(root:Int)+1+1)).toNat=first+(2*root+1+1):=y
    have x:((first:Int)+(root:Int)).toNat=first+root:=y
    by_cases j:ltInt d1[first+root]! d1[first+(2*root+1+1)]! = f
    .refine bf n [(16,m),(20,f),(35,f),(51,f)] rfl ?_ (g.aB (2*root+1+1,swp d1 (first+root) (first+(2*root+1+1))) rfl ?_ ?_ ?_ ?_)
     .exact Qg
     .simp
     .simp only[U.Y,U,cV,s,aj,x,i,a9,ba];exact lM w y y (λ_ _=>rfl)
     .grind [nB,acl]
     grind
    rw[p0]at j;rw[show siftDown ltInt b first d l=d1 by grind[acm]];refine bf n [(16,m),(20,f),(35,f),(51,m)] a ?_ (g.aX (bT.mk [0] a v a a a g2));exact Qg
   rw[p0]at C;have x:((first:Int)+(root:Int)).toNat=first+root:=y
   by_cases j:ltInt d1[first+root]! d1[first+(2*root+1)]! = f
   .refine bf n [(16,m),(20,f),(35,m),(51,f)] rfl ?_ (g.aB (2*root+1,swp d1 (first+root) (first+(2*root+1))) rfl ?_ ?_ ?_ ?_)
    .exact Pf
    .simp
    .exact OO
    .grind [nB,LY]
    grind
   rw[p0]at j;rw[show siftDown ltInt b first d l=d1 by grind[LZ]];refine bf n [(16,m),(20,f),(35,m),(51,m)] a ?_ (g.aX (bT.mk [0] a v a a a g2));exact Pf
  have C:True:=v;have x:((first:Int)+(root:Int)).toNat=first+root:=y
  by_cases j:ltInt d1[first+root]! d1[first+(2*root+1)]! = f
  .refine bf n [(16,m),(20,m),(51,f)] rfl ?_ (g.aB (2*root+1,swp d1 (first+root) (first+(2*root+1))) rfl ?_ ?_ ?_ ?_)
   .exact Om
   .simp
   .exact OO
   .grind [nB,LY]
   grind
  rw[p0]at j;rw[show siftDown ltInt b first d l=d1 by grind[LZ]];refine bf n [(16,m),(20,m),(51,m)] a ?_ (g.aX (bT.mk [0] a v a a a g2));exact Om
 refine a6 [(16,f)] a sa (g.aD ?_);rw[<-o,acn p];exact r8
end
section
open Go.Sort (swp order2 median medianAdjacent choosePivot Hint ltInt)
variable {r:ai V}
abbrev mj(a:Nat):an:=.cells 3 [.c (.int .i64 a)]
abbrev sP:z:=aG 1 0
abbrev adB(a b:Nat):z:=.Q [.aq (.c (.int .i64 a)),.aq (.c (.int .i64 b))]
def x8:∀a,a<2->([0,1]:p Nat)[a]?=h a:=λa b=>by grind
def Cj(k)(e)(d j b)(s:d<k)(t:j<k)(u:k<=4000000)(o:b<=1000):
  Y r 296 [dJ k,S d,S j,sP] [cA k e,mj b] (adB (order2 ltInt e d j b).1 (order2 ltInt e d j b).2.1) [cA k e,mj (order2 ltInt e d j b).2.2]:=by
 have n:a8 r [(225,p')]:=.cons rY .nil;refine Y.K func296 rfl λp=>?_;by_cases i:ltInt e[j]! e[d]! = f
 .have l:order2 ltInt e d j b=(j,d,b+1):=by simp[order2,i]
  rw[l];refine bf n [(18,f)] a ?_ (g.aS [0,1] a ?_ x8)
  .simp only[U,cV,c1,i,a7,ba,a9];exact fp
  simp
 have l:order2 ltInt e d j b=(d,j,b):=by simp[order2,i]
 rw[l];rw[p0]at i;refine bf n [(18,m)] a dA (g.aS [0,1] a ?_ x8);simp
def vz{I}{a eO}(b:a<k)(d:j<k):(order2 ltInt I a j eO).1<k/\(order2 ltInt I a j eO).2.1<k/\(order2 ltInt I a j eO).2.2<=eO+1:=by unfold order2;split<;>simp only<;>omega
theorem IE(k)(I)(b j s eO)(i:b<k)(l:j<k)(n:s<k)(e:k<=4000000)(p:eO<=900):
  Y r 260 [dJ k,S b,S j,S s,sP] [cA k I,mj eO] (S (median ltInt I b j s eO).1) [cA k I,mj (median ltInt I b j s eO).2]:=by refine Y.K func260 rfl λt=>?_;have d:=vz (I:=I) (eO:=eO) i l;have o:=vz (I:=I) (eO:=(order2 ltInt I b j eO).2.2) d.2.1 n;refine cr a v (g.aF (Cj k I b j eO i l e y) [0,1] a (cr a v (g.aF (Cj k I (order2 ltInt I b j eO).2.1 s (order2 ltInt I b j eO).2.2 d.2.1 n e y) [0,1] a (cr a v (g.aF (Cj k I (order2 ltInt I b j eO).1 (order2 ltInt I (order2 ltInt I b j eO).2.1 s (order2 ltInt I b j eO).2.2).1 (order2 ltInt I (order2 ltInt I b j eO).2.1 s (order2 ltInt I b j eO).2.2).2.2 d.1 o.1 e y) [0,1] a (cr a v (g.aS [0,1] a ?_ x8)))))));simp[median]
def aas{I}{a s eO}(d:a<k)(g:j<k)(i:s<k):(median ltInt I a j s eO).1<k/\(median ltInt I a j s eO).2<=eO+3:=by have b:=vz (I:=I) (eO:=eO) d g;have e:=vz (I:=I) (eO:=(order2 ltInt I a j eO).2.2) b.2.1 i;have l:=vz (I:=I) (eO:=(order2 ltInt I (order2 ltInt I a j eO).2.1 s (order2 ltInt I a j eO).2.2).2.2) b.1 e.1;unfold median;grind
theorem VS(k)(e)(b d:Nat)(t:1<=b)(u:b+1<k)(p:k<=4000000)(o:d<=900):
  Y r 259 [dJ k,S b,sP] [cA k e,mj d] (S (medianAdjacent ltInt e b d).1) [cA k e,mj (medianAdjacent ltInt e b d).2]:=by
 refine Y.K func259 rfl λs=>?_;obtain⟨b,rfl⟩:∃i,b=i+1:=⟨b-1,by omega⟩
 refine cr a bJ ?_;have key:∀j l n:Int,j=(b:Int)->l=((b+1:Nat):Int)->n=((b+1+1:Nat):Int)->Y r 260 [dJ k,S j,S l,S n,sP] [cA k e,mj d] (S (median ltInt e b (b+1) (b+1+1) d).1) [cA k e,mj (median ltInt e b (b+1) (b+1+1) d).2]:=by rintro j l n rfl rfl rfl;exact IE k e b (b+1) (b+1+1) d y y y p o
 refine g.aF (key (((b+1:Nat):Int)-1) _ (((b+1:Nat):Int)+1) y a y) [0,1] a (cr a v (g.aS [0,1] a ?_ x8));simp[medianAdjacent]
def qr:Hint->Int|.unknown=>0|.increasing=>1|.decreasing=>2
def IF(b:Nat)(d:Array Int){x s:Nat}(a:Nat)(l:x<b)(o:j<b)(p:s<b)(u:b<=4000000)(k:a<=900){e g i:Int}(t:e=x)(n:g=j)(v:i=s):
  Y r 260 [dJ b,S e,S g,S i,sP] [cA b d,mj a] (S (median ltInt d x j s a).1) [cA b d,mj (median ltInt d x j s a).2]:=by grind[IE]
def Cf(b:Nat)(d:Array Int){x:Nat}(a:Nat)(i:1<=x)(j:x+1<b)(l:b<=4000000)(g:a<=900){e:Int}(k:e=x):
  Y r 259 [dJ b,S e,sP] [cA b d,mj a] (S (medianAdjacent ltInt d x a).1) [cA b d,mj (medianAdjacent ltInt d x a).2]:=by grind[VS]
def C_{I:Array Int}{x eO:Nat}(a:1<=x)(b:x+1<k):(medianAdjacent ltInt I x eO).1<k/\(medianAdjacent ltInt I x eO).2<=eO+3:=
 aas y y y
abbrev CN(a:Nat):Hint:=if a=0 then .increasing else if a=12 then .decreasing else .unknown
def Sq{b:Array Int}{a:Nat}(g:8<=d)(e:d<50):choosePivot ltInt b a (a+d)=((median ltInt b (a+d / 4*1) (a+d / 4*2) (a+d / 4*3) 0).1,CN (median ltInt b (a+d / 4*1) (a+d / 4*2) (a+d / 4*3) 0).2):=by unfold choosePivot;grind
abbrev ou(b:Array Int)(a d:Nat):=medianAdjacent ltInt b (a+d / 4*1) 0
abbrev ov(b:Array Int)(a d:Nat):=medianAdjacent ltInt b (a+d / 4*2) (ou b a d).2
abbrev ow(b:Array Int)(a d:Nat):=medianAdjacent ltInt b (a+d / 4*3) (ov b a d).2
def Sp{a:Array Int}{b:Nat}(e:50<=d):choosePivot ltInt a b (b+d)=((median ltInt a (ou a b d).1 (ov a b d).1 (ow a b d).1 (ow a b d).2).1,CN (median ltInt a (ou a b d).1 (ov a b d).1 (ow a b d).1 (ow a b d).2).2):=by unfold choosePivot;grind
def TB(k:Nat)(I:Array Int)(x j:Nat)(n:x<=j)(u:j<=k)(i:8<=j-x)(d:k<=4000000):
  Y r 222 [dJ k,S x,S j] [cA k I] (.Q [.aq (.c (.int .i64 (choosePivot ltInt I x j).1)),.aq (.c (.int .i64 (qr (choosePivot ltInt I x j).2)))]) [cA k I]:=by
 refine Y.K func222 rfl λo=>?_;obtain⟨b,rfl⟩:∃b,j=x+b:=⟨j-x,by omega⟩
 rw[As]at i;by_cases l:b<50
 .refine bP [(32,f),(34,m)] a Qw (g.aF (IF k I (x:=x+b / 4*1) (j:=x+b / 4*2) (s:=x+b / 4*3) 0 y y y d y y y y) [0,1] a ?_);rw[Sq i l];generalize median ltInt I (x+b / 4*1) (x+b / 4*2) (x+b / 4*3) 0=e;by_cases ae:e.2=0
  .exact PP
  by_cases aj:e.2=12
  .exact P9
  exact Qv
 refine bP [(32,f),(34,f)] a Qw ?_;have p:(ou I x b).1<k/\(ou I x b).2<=0+3:=C_ (I:=I) (x:=x+b / 4*1) (eO:=0) (k:=k) y y;have t:(ov I x b).1<k/\(ov I x b).2<=(ou I x b).2+3:=C_ (I:=I) (x:=x+b / 4*2) (eO:=(ou I x b).2) (k:=k) y y;have w:(ow I x b).1<k/\(ow I x b).2<=(ov I x b).2+3:=C_ (I:=I) (x:=x+b / 4*3) (eO:=(ov I x b).2) (k:=k) y y;refine g.aF (Cf k I (x:=x+b / 4*1) 0 y y d y y) [0,1] a (cr a v (g.aF (Cf k I (x:=x+b / 4*2) (ou I x b).2 y y d y y) [0,1] a (cr a v (g.aF (Cf k I (x:=x+b / 4*3) (ov I x b).2 y y d y y) [0,1] a (cr a v (g.aF (IF k I (x:=(ou I x b).1) (j:=(ov I x b).1) (s:=(ow I x b).1) (ow I x b).2 y y y d y a a a) [0,1] a ?_))))));rw[Sp y];generalize median ltInt I (ou I x b).1 (ov I x b).1 (ow I x b).1 (ow I x b).2=e;by_cases ae:e.2=0
 .exact PP
 by_cases aj:e.2=12
 .exact P9
 exact Qv
end
section
open Go.Sort (swp reverseLoop reverseRange siftDown heapBuild heapPop heapSort ltInt)
variable {r:ai V}
def WE(d:Nat)(j:Array Int)(i e:Nat)(u:j.size=d)(A:1<=e)(z:i<=d)(B:e<=d)(C:d<=4000000):Y r 223 [dJ d,S i,S e] [cA d j] (.Q []) [cA d (reverseRange j i e)]:=by
 refine Y.K func223 rfl λx=>?_;refine aZ a bJ (g.aN 1 (λb:Nat×Nat×Array Int=>b.2.2.size=d/\b.1<=d/\b.2.1<d+1/\b.2.1<d/\reverseLoop b.1 b.2.1 b.2.2=reverseRange j i e) (λb=>[(0,dJ d),(6,S b.1),(7,S b.2.1)]) (λb=>[cA d b.2.2]) (λb=>b.2.1-b.1) (i,e-1,j) a bX a E a ⟨u,by grind,by grind,by grind,a⟩ ?_);rintro⟨k,l,d1⟩ ⟨p,o,_,w,n⟩;simp only at p o w n;by_cases s:k<l
 .refine bP [(13,f)] a ?_ (g.aB (k+1,l-1,swp d1 k l) a ?_ ?_ ?_ ?_)
  .simp only[U,cV,c1,a7,bA,ba,a9];exact fp
  .exact bw
  .simp only[U.Y,U,cV,c1,a9,ba];exact lM p y y (λ_ _=>rfl)
  .refine⟨by grind[nB],by grind,by grind,by grind,?_⟩;rw[<-n,reverseLoop.eq_1 k l d1,bs s]
  grind
 have t:reverseRange j i e=d1:=by rw[<-n,reverseLoop,bm s]
 rw[t];refine a6 [(13,m)] a bX (g.aD ?_);exact r8
def IQ(a:Nat)(b:Array Int){eV bp first:Nat}(i:b.size=a)(l:first+bp<=a)(j:eV<=a)(o:a<=4000000){d e g:Int}(n:d=eV)(k:e=bp)(p:g=first):
  Y r 256 [dJ a,S d,S e,S g] [cA a b] (.Q []) [cA a (siftDown ltInt bp first eV b)]:=by grind[WU]
def L0(a first:Nat):∀(d root:Nat)(b:Array Int),a-root<=d->(siftDown ltInt a first root b).size=b.size:=by
 intro d;induction d with
 |zero=>intro root b e;rw[siftDown,dif_pos y]
 |succ d g=>
  intro root b e;rw[siftDown];exact r_
theorem UC(j:Nat)(n:Array Int)(b l:Nat)(z:n.size=j)(C:b<=l)(A:1<=l-b)(B:l<=j)(u:j<=4000000):Y r 220 [dJ j,S b,S l] [cA j n] (.Q []) [cA j (heapSort ltInt n b l)]:=by
 refine Y.K func220 rfl λF=>?_;obtain⟨e,rfl⟩:∃e,l=b+e:=⟨l-b,by omega⟩
 rw[As]at A;refine cr a Q2 (g.cl (S2:=Array Int) 0 a a (λd2=>d2.size=j/\d2=heapBuild ltInt e b ((e-1) / 2+1) n) (λ_=>[(0,dJ j),(6,S b),(7,S 0),(8,S e)]) (λd2=>[cA j d2]) 1 (λd:Nat×Array Int=>d.2.size=j/\d.1<=(e-1) / 2+1/\heapBuild ltInt e b d.1 d.2=heapBuild ltInt e b ((e-1) / 2+1) n) (λd=>[(0,dJ j),(6,S b),(7,S 0),(8,S e),(9,S ((d.1:Int)-1))]) (λd=>[cA j d.2]) (λd=>d.1) ((e-1) / 2+1,n) a bX a E a ⟨z,bC _,a⟩ ?_ ?_)
 .rintro du ⟨i,d1⟩ ⟨k,o,s⟩;simp only at k o s;cases i with
  |zero=>
   refine a6 [(19,m)] a E (g.aD ?_);exact du d1 ⟨k,s⟩ a E a E
  |succ i=>
   refine a6 [(19,f)] rfl E (g.aF (IQ j d1 (eV:=i) (bp:=e) (first:=b) k B y u y rfl rfl) [0] rfl (cr rfl ?_ (g.aB (i,siftDown ltInt e b i d1) rfl ?_ ?_ ?_ ?_)))
   .exact tV
   .simp
   .simp
   .exact⟨by rw[L0 _ _ _ _ _ (bC _)];exact k,by grind,s⟩
   simp
 rintro p ⟨x,D⟩;refine cr a bJ ?_;have w:heapSort ltInt n b (b+e)=heapPop ltInt b e p:=by unfold heapSort;grind
 rw[w];refine g.aN 1 (λd:Nat×Array Int=>d.2.size=j/\d.1<=e/\heapPop ltInt b d.1 d.2=heapPop ltInt b e p) (λd=>[(0,dJ j),(6,S b),(7,S 0),(8,S e),(10,S ((d.1:Int)-1))]) (λd=>[cA j d.2]) (λd=>d.1) (e,p) a E a E a ⟨x,bC _,a⟩ ?_;rintro⟨i,d1⟩ ⟨k,o,s⟩;simp only at k o s;cases i with
 |zero=>
  rw[<-s];refine a6 [(30,m)] a E (g.aD ?_);exact r8
 |succ i=>
  have t:((b:Int)+(((i+1:Nat):Int)-1)).toNat=b+i:=y;refine bP [(30,f),(1000011,f)] a ?_ ?_
  .simp only[U,cV,c1,t,a7,bA,ba,a9];exact fp
  refine g.ba [cA j (swp d1 b (b+i))] a ?_ ?_
  .simp only[U.Y,U,cV,c1,t,a9,ba];exact lM k y y (λ_ _=>rfl)
  refine cr rfl v (g.aF (IQ j (swp d1 b (b+i)) (eV:=0) (bp:=i) (first:=b) r_ y y u rfl y rfl) [0] rfl (cr rfl ?_ (g.aB (i,siftDown ltInt i b 0 (swp d1 b (b+i))) rfl ?_ ?_ ?_ ?_)))
  .exact tV
  .simp
  .simp
  .exact⟨by rw[L0 _ _ _ _ _ (bC _),nB];exact k,by grind,s⟩
  simp
end
section
open Go.Sort (bitsLen)
variable {r:ai V}
def oo:p UInt8:=(aD 256).map λa=>UInt8.ofNat (bitsLen a)
def sD{l i}(b:l<2 ^ i):bitsLen l<=i:=by
 unfold bitsLen;split
 .omega
 rename_i a;have:=(Nat.log2_lt a).2 b;omega
theorem aaa{l:Nat}(a:l<256):(kF oo l).toNat=bitsLen l:=by unfold kF oo;rw[c1,al,m7,List.getElem?_range a];have:=sD (l:=l) (i:=8) a;grind[UInt8.toNat_ofNat']
def Gl{i}(d:2 ^ i<=k):bitsLen k=i+bitsLen (k / 2 ^ i):=by
 have a:0<2 ^ i:=Nat.two_pow_pos i;have j:0<k / 2 ^ i:=Nat.div_pos d a;unfold bitsLen;rw[bm y,bm y];have e:Nat.log2 k=i+Nat.log2 (k / 2 ^ i):=by
  rw[Nat.log2_eq_iff y];have b:=Nat.log2_self_le (n:=k / 2 ^ i) y;have g:=Nat.lt_log2_self (n:=k / 2 ^ i);constructor
  .rw[Nat.pow_add,Nat.mul_comm];exact fF (gV _ b) (Nat.div_mul_le_self k _)
  rw[show i+Nat.log2 (k / 2 ^ i)+1=i+(Nat.log2 (k / 2 ^ i)+1) by omega,Nat.pow_add];grind[Nat.div_lt_iff_lt_mul]
 omega
set_option maxRecDepth 100000 in
def Vn(k:Nat)(w:k<=4000000):Y r 229 [mr k] [] (S (bitsLen k)) []:=by
 refine Y.K func229 rfl λv=>?_;have fin:∀{b:p UInt8} {l:Nat},b=oo->l<256->(kF b (l:Int)).toNat=bitsLen l:=λaQ u=>by grind[aaa]
 have e:∀{b:p UInt8},b=oo->c b=256:=λaQ=>by rw[aQ];rfl
 by_cases t:65536<=k
 .have j:((k:Int).toNat / 2 ^ Int.toNat 16)=k / 65536:=E;have s:bitsLen k=16+bitsLen (k / 65536):=Gl (k:=k) (i:=16) t;have n:=sD (l:=k / 65536) (i:=8) M;refine bP [(4,m),(8,f),(14,m)] a ?_ (g.aw a ?_)
  .generalize aQ:(ByteArray.data _).toList=b;have d:b=oo:=tU;simp only[U,j,fin d (show k / 65536<256 by omega),e d,a7,bA,dt];exact fp
  generalize aQ:(ByteArray.data _).toList=b;have d:b=oo:=tU;simp only[U,U.Y,j,fin d (show k / 65536<256 by omega),ba,a9];omega
 by_cases o:256<=k
 .have j:((k:Int).toNat / 2 ^ Int.toNat 8)=k / 256:=E;have s:bitsLen k=8+bitsLen (k / 256):=Gl (k:=k) (i:=8) o;have n:=sD (l:=k / 256) (i:=8) M;refine bP [(4,m),(8,m),(14,f)] a ?_ (g.aw a ?_)
  .generalize aQ:(ByteArray.data _).toList=b;have d:b=oo:=tU;simp only[U,j,fin d (show k / 256<256 by omega),e d,a7,bA,dt];exact fp
  generalize aQ:(ByteArray.data _).toList=b;have d:b=oo:=tU;simp only[U,U.Y,j,fin d (show k / 256<256 by omega),ba,a9];omega
 have n:=sD (l:=k) (i:=8) M;refine bP [(4,m),(8,m),(14,m)] a ?_ (g.aw a ?_)
 .generalize aQ:(ByteArray.data _).toList=b;have d:b=oo:=tU;simp only[U,fin d (show k<256 by omega),e d,a7,bA,dt];exact fp
 generalize aQ:(ByteArray.data _).toList=b;have d:b=oo:=tU;simp only[U,U.Y,fin d (show k<256 by omega),ba,a9];omega
def Iw(b:Nat)(d:b<=4000000):Y r 187 [mr b] [] (S (bitsLen b)) []:=by refine Y.K func187 rfl λe=>?_;refine cr a v ?_;refine g.fw ?_;refine cr a v ?_;refine g.aF (Vn b d) [] a ?_;exact cr a v (g.aw a)
end
section
open Go.Sort (swp bitsLen xorNextN xorNextN_lt xorNext xorNext_toNat breakStep breakPatterns)
variable {r:ai V}
abbrev w_(a:Nat):an:=.cells 320 [.c (.int .u64 a)]
def V4(b):Y r 258 [aG 0 0] [w_ b] (mr (xorNextN b)) [w_ (xorNextN b)]:=by refine Y.K func258 rfl λi=>?_;have e:(2:Nat) ^ Int.toNat 13=8192:=b';have j:(2:Nat) ^ Int.toNat 7=128:=b';have d:(2:Nat) ^ Int.toNat 17=131072:=b';refine cr a E ?_;refine g.ba [w_ (xorNextN b)] a bJ (g.aS [0] a ?_ g2);exact bJ
theorem Ww(b:Nat)(d:b<=4000000):Y r 257 [S b] [] (mr ((1 <<< bitsLen b:Nat):Int)) []:=by refine Y.K func257 rfl λk=>?_;have e:=sD (l:=b) (i:=22) M;refine cr a bJ ?_;refine g.aF (Iw b d) [] a ?_;refine cr a bw (g.aw a ?_);have j:2 ^ bitsLen b<=2 ^ 22:=Ax y e;simp only[U,U.Y,Nat.shiftLeft_eq,c1];grind
def abh{L}(a:0<L):1 <<< bitsLen L<=2*L:=by rw[Nat.shiftLeft_eq,Nat.one_mul];unfold bitsLen;rw[bm y,Nat.pow_succ];grind[Nat.log2_self_le]
def abi(L):1<=1 <<< bitsLen L:=by rw[Nat.shiftLeft_eq,Nat.one_mul];grind
def uG(d L b:Nat):Nat->Nat->UInt64×Array Int->UInt64×Array Int
 |0,_,a=>a
 |e+1,idx,a=>uG d L b e (idx+1) (breakStep d L b a idx)
def R'{b}{a L}(d:8<=L):breakPatterns b a (a+L)=(uG a L (1 <<< bitsLen L) 3 (a+L / 4*2-1) (UInt64.ofNat L,b)).2:=by unfold breakPatterns;simp only[As];exact bJ
def Sa{x L bB idx}{a'}{I:Array Int}:breakStep x L bB (a',I) idx=(xorNext a',swp I idx (x+if(xorNextN a'.toNat &&& (bB-1))≥L then(xorNextN a'.toNat &&& (bB-1))-L else(xorNextN a'.toNat &&& (bB-1)))):=by unfold breakStep;simp only[xorNext_toNat]
abbrev R_(e a L b:Nat)(d:Nat):bH:=[(0,dJ e),(1,S a),(6,S L),(7,aG 1 0),(8,mr b),(9,S ((a+L / 4*2-1+(3-d):Nat):Int))]
def Tz(k)(I)(x j)(z:I.size=k)(D:x<=j)(M:j<=k)(B:k<=4000000):
  Y r 221 [dJ k,S x,S j] [cA k I] (.Q []) [cA k (breakPatterns I x j)]:=by
 refine Y.K func221 rfl λN=>?_;obtain⟨L,rfl⟩:∃L,j=x+L:=⟨j-x,by omega⟩
 by_cases A:8<=L
 .rw[R' A];have K:=abh (L:=L) y;have F:=abi L;have E:(UInt64.ofNat L).toNat=L:=by grind[UInt64.toNat_ofNat']
  refine bP [(15,f)] a sa ?_;have key:∀p:Int,p=(L:Int)->Y r 257 [S p] [] (mr ((1 <<< bitsLen L:Nat):Int)) []:=by grind[Ww]
  refine g.aF (key _ y) [] a (cr a sa ?_);generalize J:1 <<< bitsLen L=bB at *;refine g.aN 2 (λb:Nat×UInt64×Array Int=>b.2.2.size=k/\b.1<=3/\(uG x L bB b.1 (x+L / 4*2-1+(3-b.1)) b.2).2=(uG x L bB 3 (x+L / 4*2-1) (UInt64.ofNat L,I)).2) (λb=>R_ k x L bB b.1) (λb=>[cA k b.2.2,w_ b.2.1.toNat]) (λb=>b.1) (3,UInt64.ofNat L,I) a ?_ a ?_ a ⟨z,bC _,a⟩ ?_
  .simp only[U.Y,U,ba,a9];exact fp
  .exact bw
  rintro⟨i,a',d1⟩ ⟨d,n,s⟩;simp only at d n s;cases i with
  |zero=>
   rw[<-s];refine bP [(33,m)] a zI (g.aD ?_);exact r8
  |succ i=>
   have O:=xorNextN_lt _ (UInt64.toNat_lt a');have C:xorNextN a'.toNat &&& (bB-1)<=bB-1:=Nat.and_le_right;have w:((bB:Int)-1).toNat=bB-1:=y;refine bP [(33,f)] a sa (g.aF (V4 a'.toNat) [1] a ?_);have ae:=Sa (x:=x) (L:=L) (bB:=bB) (idx:=x+L / 4*2-1+(3-(i+1))) (a':=a') (I:=d1);generalize e:xorNextN a'.toNat &&& (bB-1)=l at *;by_cases o:L<=l
   .rw[bs o]at ae;have u:((x:Int)+((l:Int)-(L:Int))).toNat=x+(l-L):=y;refine bP [(43,f)] a ?_ (g.aB (i,xorNext a',swp d1 (x+L / 4*2-1+(3-(i+1))) (x+(l-L))) a ?_ ?_ ?_ ?_)
    .simp only[U,cV,c1,w,e,u,a7,bA,ba,a9];exact fp
    .exact zQ
    .exact Oj
    .exact PG
    simp
   rw[bm o]at ae;have u:((x:Int)+(l:Int)).toNat=x+l:=y;refine bP [(43,m)] a ?_ (g.aB (i,xorNext a',swp d1 (x+L / 4*2-1+(3-(i+1))) (x+l)) a ?_ ?_ ?_ ?_)
   .simp only[U,cV,c1,w,e,u,a7,dt,ba,a9];exact fp
   .exact zQ
   .exact Oj
   .exact PG
   simp
 have t:breakPatterns I x (x+L)=I:=by unfold breakPatterns;grind
 rw[t];exact bP [(15,m)] a bJ r8
end
section
open Go.Sort (swp scanUp scanDown partLoop partEqLoop partition partitionEqual ltInt)
variable {r:ai V}
theorem y0{b:Int->Bool}{a}(g:e<=w)(d:b a[e]! = f):scanUp b a w e=scanUp b a w (e+1):=by rw[scanUp.eq_1 b a w e,bs M]
theorem DS{b:Int->Bool}{a}(d:e<=w->b a[e]! = m):scanUp b a w e=e:=by rw[scanUp,bm];grind
theorem LJ{b:Int->Bool}{a}(i:1<=w)(j:e<=w)(g:b a[w]! = f):scanDown b a e w=scanDown b a e (w-1):=by
 obtain⟨w,rfl⟩:∃d,w=d+1:=⟨w-1,by omega⟩
 rw[scanDown,bs M,pX]
theorem LK{b:Int->Bool}{a}(d:e<=w->b a[w]! = m):scanDown b a e w=w:=by
 cases w with
 |zero=>rfl
 |succ w=>
  rw[scanDown,bm];grind
def vO{R:Int->Bool}{I}:∀b a,w+1-a<=b->a<=scanUp R I w a/\(scanUp R I w a<=w+1∨scanUp R I w a=a):=by
 intro b;induction b with
 |zero=>intro a e;rw[DS (λd=>by omega)];omega
 |succ b i=>
  intro a e;by_cases g:a<=w
  .cases d:R I[a]! with
   |true=>grind[y0]
   |false=>grind[DS]
  grind
def vN{R:Int->Bool}{I}:∀a:Nat,scanDown R I e a<=a/\(e<=scanDown R I e a+1∨scanDown R I e a=a):=by
 intro a;induction a with
 |zero=>rw[show scanDown R I e 0=0 from rfl];omega
 |succ a d=>
  by_cases b:e<=a+1
  .cases s:R I[a+1]! with
   |true=>grind[LJ]
   |false=>grind[LK]
  exact zR
def aa_{d}{I}{cc a}(l:1<=e)(g:cc=scanUp (λb=>ltInt b I[d]!) I w e)(i:a=scanDown (λb=>!ltInt b I[d]!) I cc w):
  partLoop ltInt d e w I=if cc>a then(a,I)else partLoop ltInt d (cc+1) (a-1) (swp I cc a):=by have k:=vO (R:=λb=>ltInt b I[d]!) (I:=I) (w:=w) (w+1-e) e (bC _);have j:=vN (R:=λb=>!ltInt b I[d]!) (I:=I) (e:=cc) w;rw[<-g]at k;rw[<-i]at j;rw[partLoop.eq_1,<-g,<-i];grind
def aa'{d s}{a aa}(k:s=swp d a aa)(g:e=scanUp (λb=>ltInt b s[a]!) s (j-1) (a+1))(i:w=scanDown (λb=>!ltInt b s[a]!) s e (j-1))(l:e>w):partition ltInt d a j aa=(w,f,swp s w a):=by unfold partition;grind
def aba{g s}{a aa}(n:s=swp g a aa)(k:e=scanUp (λd=>ltInt d s[a]!) s (j-1) (a+1))(l:w=scanDown (λd=>!ltInt d s[a]!) s e (j-1))(o:¬e>w){b}(i:partLoop ltInt a (e+1) (w-1) (swp s e w)=b):partition ltInt g a j aa=(b.1,m,swp b.2 b.1 a):=by subst i;unfold partition;grind
def Wo(k)(I)(x j aa)(aM:I.size=k)(ai:x<j)(an:j<=k)(au:aa<k)(aq:k<=4000000):
  Y r 227 [dJ k,S x,S j,S aa] [cA k I] (.Q [.aq (.c (.int .i64 (partition ltInt I x j aa).1)),.aq (.c (.bool (partition ltInt I x j aa).2.1))]) [cA k (partition ltInt I x j aa).2.2]:=by
 have u:a8 r [(225,p')]:=.cons rY .nil;refine Y.K func227 rfl λao=>?_;refine bf u [(1000002,f)] a bw (g.ba [cA k (swp I x aa)] a ?_ ?_)
 .simp only[U.Y,U,cV,c1,a9,ba];exact lM aM y y (λ_ _=>rfl)
 have bz:(swp I x aa).size=k:=r_;obtain⟨ae,B⟩:∃ae,ae=swp I x aa:=⟨_,rfl⟩;rw[<-B]at bz⊢;refine cG u a r9 ?_
 refine g.cl (S2:=Unit) 0 a a (λ_=>True) (λ_=>[(0,dJ k),(1,S x),(10,S ((scanUp (λl=>ltInt l ae[x]!) ae (j-1) (x+1)):Nat)),(11,S (j-1:Nat))]) (λ_=>[cA k ae]) 1 (λi:Nat=>x+1<=i/\i<=k+1/\scanUp (λl=>ltInt l ae[x]!) ae (j-1) i=scanUp (λl=>ltInt l ae[x]!) ae (j-1) (x+1)) (λi=>[(0,dJ k),(1,S x),(10,S (i:Nat)),(11,S (j-1:Nat))]) (λ_=>[cA k ae]) (λi=>j-1+1-i) (x+1) a bJ a E a ⟨bC _,by omega,a⟩ ?_ ?_
 .rintro du i ⟨o,t,Q⟩;by_cases T:i<=j-1
  .by_cases ar:(λl=>ltInt l ae[x]!) ae[i]! = f
   .have C:ltInt ae[i]! ae[x]! = f:=M;refine bf u [(32,f),(42,f)] a qV (g.aB (i+1) a E E ?_ ?_)
    .grind [y0]
    omega
   have C:ltInt ae[i]! ae[x]! = m:=M;refine bf u [(32,f),(42,m)] a qV (g.aD ?_);exact NN
  refine bf u [(32,m)] a bw (g.aD ?_);exact NN
 rintro⟨⟩ -;have ag:=vO (R:=λl=>ltInt l ae[x]!) (I:=ae) (w:=j-1) (j-1+1-(x+1)) (x+1) (bC _);obtain⟨e,p⟩:∃e,e=scanUp (λl=>ltInt l ae[x]!) ae (j-1) (x+1):=⟨_,rfl⟩
 rw[<-p]at ag⊢;refine cG u a v (g.cl (S2:=Unit) 2 a a (λ_=>True) (λ_=>[(0,dJ k),(1,S x),(10,S (e:Nat)),(11,S ((scanDown (λl=>!ltInt l ae[x]!) ae (e) (j-1)):Nat))]) (λ_=>[cA k ae]) 1 (λi:Nat=>i<=j-1/\i<=k/\scanDown (λl=>!ltInt l ae[x]!) ae (e) i=scanDown (λl=>!ltInt l ae[x]!) ae (e) (j-1)) (λi=>[(0,dJ k),(1,S x),(10,S (e:Nat)),(11,S (i:Nat))]) (λ_=>[cA k ae]) (λi=>i) (j-1) a ?_ a ?_ a ⟨bC _,by omega,a⟩ ?_ ?_)
 .simp[bt]<;>omega
 .simp
 .rintro du i ⟨o,t,Q⟩;by_cases T:e<=i
  .by_cases ar:(λl=>!ltInt l ae[x]!) ae[i]! = f
   .have C:ltInt ae[i]! ae[x]! = m:=M;refine bf u [(48,f),(58,m)] a qV (g.aB (i-1) a bw E EO ?_);omega
   have C:ltInt ae[i]! ae[x]! = f:=M;refine bf u [(48,f),(58,f)] a qV (g.aD ?_);exact NJ
  refine bf u [(48,m)] a bw (g.aD ?_);exact NJ
 rintro⟨⟩ -;have ah:=vN (R:=λl=>!ltInt l ae[x]!) (I:=ae) (e:=e) (j-1);obtain⟨w,F⟩:∃w,w=scanDown (λl=>!ltInt l ae[x]!) ae e (j-1):=⟨_,rfl⟩
 rw[<-F]at ah⊢;by_cases ab:w<e
 .rw[aa' B p F ab];refine bf u [(65,f),(1000009,f)] a bw (g.ba [cA k (swp ae w x)] a QO ?_);exact OV
 refine bf u [(65,m),(1000011,f)] a bw (g.ba [cA k (swp ae e w)] a QO ?_);refine cG u a r9 ?_;have X:(swp ae e w).size=k:=r_;obtain⟨n,D⟩:∃n,partLoop ltInt x (e+1) (w-1) (swp ae e w)=n:=⟨_,rfl⟩;rw[aba B p F y D]
 obtain⟨d1,L⟩:∃d1,d1=swp ae e w:=⟨_,rfl⟩;rw[<-L]at X D⊢;refine g.cl (S2:=Unit) 4 a a (λ_=>n.1<k/\n.2.size=k) (λ_=>[(0,dJ k),(1,S x),(11,S n.1)]) (λ_=>[cA k n.2]) 1 (λb:Nat×Nat×Array Int=>b.2.2.size=k/\x+1<=b.1/\b.1<=k+1/\b.2.1<k/\partLoop ltInt x b.1 b.2.1 b.2.2=n) (λb=>[(0,dJ k),(1,S x),(10,S b.1),(11,S b.2.1)]) (λb=>[cA k b.2.2]) (λb=>b.2.1+1-b.1) (e+1,w-1,d1) a bw a E a ⟨X,by grind,by grind,by grind,D⟩ ?_ ?_
 .rintro z ⟨ec,d,d2⟩ ⟨G,ad,W,P,A⟩;simp only at G ad W P A;refine cG u a v (g.cl (S2:=Unit) 6 a a (λ_=>True) (λ_=>[(0,dJ k),(1,S x),(10,S ((scanUp (λl=>ltInt l d2[x]!) d2 (d) (ec)):Nat)),(11,S (d:Nat))]) (λ_=>[cA k d2]) 1 (λi:Nat=>ec<=i/\i<=k+1/\scanUp (λl=>ltInt l d2[x]!) d2 (d) i=scanUp (λl=>ltInt l d2[x]!) d2 (d) (ec)) (λi=>[(0,dJ k),(1,S x),(10,S (i:Nat)),(11,S (d:Nat))]) (λ_=>[cA k d2]) (λi=>d+1-i) (ec) a ?_ a ?_ a ⟨bC _,by omega,a⟩ ?_ ?_)
  .simp[bt]<;>omega
  .simp
  .rintro du i ⟨o,t,Q⟩;by_cases T:i<=d
   .by_cases ar:(λl=>ltInt l d2[x]!) d2[i]! = f
    .have C:ltInt d2[i]! d2[x]! = f:=M;refine bf u [(101,f),(111,f)] a qV (g.aB (i+1) a E E ?_ ?_)
     .grind [y0]
     omega
    have C:ltInt d2[i]! d2[x]! = m:=M;refine bf u [(101,f),(111,m)] a qV (g.aD ?_);exact OE
   refine bf u [(101,m)] a bw (g.aD ?_);exact OE
  rintro⟨⟩ -;have J:=vO (R:=λl=>ltInt l d2[x]!) (I:=d2) (w:=d) (d+1-ec) ec (bC _);obtain⟨fv,N⟩:∃fv,fv=scanUp (λl=>ltInt l d2[x]!) d2 d ec:=⟨_,rfl⟩
  rw[<-N]at J⊢;refine cG u a v (g.cl (S2:=Unit) 8 a a (λ_=>True) (λ_=>[(0,dJ k),(1,S x),(10,S (fv:Nat)),(11,S ((scanDown (λl=>!ltInt l d2[x]!) d2 (fv) (d)):Nat))]) (λ_=>[cA k d2]) 1 (λi:Nat=>i<=d/\i<=k/\scanDown (λl=>!ltInt l d2[x]!) d2 (fv) i=scanDown (λl=>!ltInt l d2[x]!) d2 (fv) (d)) (λi=>[(0,dJ k),(1,S x),(10,S (fv:Nat)),(11,S (i:Nat))]) (λ_=>[cA k d2]) (λi=>i) (d) a ?_ a ?_ a ⟨bC _,by omega,a⟩ ?_ ?_)
  .simp[bt]<;>omega
  .simp
  .rintro du i ⟨o,t,Q⟩;by_cases T:fv<=i
   .by_cases ar:(λl=>!ltInt l d2[x]!) d2[i]! = f
    .have C:ltInt d2[i]! d2[x]! = m:=M;refine bf u [(117,f),(127,m)] a qV (g.aB (i-1) a bw E EO ?_);omega
    have C:ltInt d2[i]! d2[x]! = f:=M;refine bf u [(117,f),(127,f)] a qV (g.aD ?_);exact Oz
   refine bf u [(117,m)] a bw (g.aD ?_);exact Oz
  rintro⟨⟩ -;have K:=vN (R:=λl=>!ltInt l d2[x]!) (I:=d2) (e:=fv) d;obtain⟨s,V⟩:∃s,s=scanDown (λl=>!ltInt l d2[x]!) d2 fv d:=⟨_,rfl⟩
  rw[<-V]at K⊢;have Z:=aa_ y N V;by_cases O:s<fv
  .have aj:=Z;rw[A,bs O]at aj;refine bf u [(134,f)] a bw (g.aD ?_);exact z () M a Ng a tY
  have aj:=Z;rw[A,bm y]at aj;refine bf u [(134,m),(1000019,f)] a ?_ ?_
  .simp only[U,cV,c1,a7,dt,ba,a9];exact fp
  refine g.ba [cA k (swp d2 fv s)] a ?_ ?_
  .simp only[U.Y,U,cV,c1,a9,ba];exact lM G y y (λ_ _=>rfl)
  refine cG u a r9 (g.aB (fv+1,s-1,swp d2 fv s) a bw E ?_ ?_)
  .grind [nB]
  grind
 rintro⟨⟩ ⟨ak,H⟩;refine bf u [(1000022,f)] a bw (g.ba [cA k (swp n.2 n.1 x)] a NR ?_);exact OV
def aa9{d}{I}{cc a}(l:1<=e)(g:cc=scanUp (λb=>!ltInt I[d]! b) I w e)(i:a=scanDown (λb=>ltInt I[d]! b) I cc w):
  partEqLoop ltInt d e w I=if cc>a then(cc,I)else partEqLoop ltInt d (cc+1) (a-1) (swp I cc a):=by have k:=vO (R:=λb=>!ltInt I[d]! b) (I:=I) (w:=w) (w+1-e) e (bC _);have j:=vN (R:=λb=>ltInt I[d]! b) (I:=I) (e:=cc) w;rw[<-g]at k;rw[<-i]at j;rw[partEqLoop.eq_1,<-g,<-i];grind
def Wp(k)(I)(x j aa)(H:I.size=k)(Z:x<j)(ab:j<=k)(P:aa<k)(ag:k<=4000000):
  Y r 226 [dJ k,S x,S j,S aa] [cA k I] (S (partitionEqual ltInt I x j aa).1) [cA k (partitionEqual ltInt I x j aa).2]:=by
 have d:a8 r [(225,p')]:=.cons rY .nil;refine Y.K func226 rfl λad=>?_;refine bf d [(1000002,f)] a bw (g.ba [cA k (swp I x aa)] a NR ?_);have D:(swp I x aa).size=k:=r_;unfold partitionEqual;generalize swp I x aa=d1 at *;obtain⟨n,G⟩:∃n,partEqLoop ltInt x (x+1) (j-1) d1=n:=⟨_,rfl⟩;rw[G];refine cG d a r9 ?_
 refine g.cl (S2:=Unit) 0 a a (λ_=>n.1<=k+1/\n.2.size=k) (λ_=>[(0,dJ k),(1,S x),(9,S n.1)]) (λ_=>[cA k n.2]) 1 (λb:Nat×Nat×Array Int=>b.2.2.size=k/\x+1<=b.1/\b.1<=k+1/\b.2.1<k/\partEqLoop ltInt x b.1 b.2.1 b.2.2=n) (λb=>[(0,dJ k),(1,S x),(9,S b.1),(10,S b.2.1)]) (λb=>[cA k b.2.2]) (λb=>b.2.1+1-b.1) (x+1,j-1,d1) a bw a E a ⟨D,by grind,by grind,by grind,G⟩ ?_ ?_
 .rintro Q ⟨ec,s,d2⟩ ⟨X,z,T,J,u⟩;simp only at X z T J u;refine cG d a v (g.cl (S2:=Unit) 2 a a (λ_=>True) (λ_=>[(0,dJ k),(1,S x),(9,S ((scanUp (λl=>!ltInt d2[x]! l) d2 (s) (ec)):Nat)),(10,S (s:Nat))]) (λ_=>[cA k d2]) 1 (λi:Nat=>ec<=i/\i<=k+1/\scanUp (λl=>!ltInt d2[x]! l) d2 (s) i=scanUp (λl=>!ltInt d2[x]! l) d2 (s) (ec)) (λi=>[(0,dJ k),(1,S x),(9,S (i:Nat)),(10,S (s:Nat))]) (λ_=>[cA k d2]) (λi=>s+1-i) (ec) a ?_ a ?_ a ⟨bC _,by omega,a⟩ ?_ ?_)
  .simp[bt]<;>omega
  .simp
  .rintro du i ⟨O,V,N⟩;by_cases F:i<=s
   .by_cases ar:(λl=>!ltInt d2[x]! l) d2[i]! = f
    .have ae:ltInt d2[x]! d2[i]! = m:=M;refine bf d [(31,f),(41,m)] a zB (g.aB (i+1) a E E ?_ ?_)
     .grind [y0]
     omega
    have ae:ltInt d2[x]! d2[i]! = f:=M;refine bf d [(31,f),(41,f)] a zB (g.aD ?_);exact QJ
   refine bf d [(31,m)] a bw (g.aD ?_);exact QJ
  rintro⟨⟩ -;have p:=vO (R:=λl=>!ltInt d2[x]! l) (I:=d2) (w:=s) (s+1-ec) ec (bC _);obtain⟨fv,C⟩:∃fv,fv=scanUp (λl=>!ltInt d2[x]! l) d2 s ec:=⟨_,rfl⟩
  rw[<-C]at p⊢;refine cG d a v (g.cl (S2:=Unit) 4 a a (λ_=>True) (λ_=>[(0,dJ k),(1,S x),(9,S (fv:Nat)),(10,S ((scanDown (λl=>ltInt d2[x]! l) d2 (fv) (s)):Nat))]) (λ_=>[cA k d2]) 1 (λi:Nat=>i<=s/\i<=k/\scanDown (λl=>ltInt d2[x]! l) d2 (fv) i=scanDown (λl=>ltInt d2[x]! l) d2 (fv) (s)) (λi=>[(0,dJ k),(1,S x),(9,S (fv:Nat)),(10,S (i:Nat))]) (λ_=>[cA k d2]) (λi=>i) (s) a ?_ a ?_ a ⟨bC _,by omega,a⟩ ?_ ?_)
  .simp[bt]<;>omega
  .simp
  .rintro du i ⟨O,V,N⟩;by_cases F:fv<=i
   .by_cases ar:(λl=>ltInt d2[x]! l) d2[i]! = f
    .have ae:ltInt d2[x]! d2[i]! = f:=M;refine bf d [(48,f),(58,f)] a zB (g.aB (i-1) a bw E EO ?_);omega
    have ae:ltInt d2[x]! d2[i]! = m:=M;refine bf d [(48,f),(58,m)] a zB (g.aD ?_);exact OG
   refine bf d [(48,m)] a bw (g.aD ?_);exact OG
  rintro⟨⟩ -;have t:=vN (R:=λl=>ltInt d2[x]! l) (I:=d2) (e:=fv) s;obtain⟨o,A⟩:∃o,o=scanDown (λl=>ltInt d2[x]! l) d2 fv s:=⟨_,rfl⟩
  rw[<-A]at t⊢;have B:=aa9 y C A;by_cases K:o<fv
  .have aj:=B;rw[u,bs K]at aj;refine bf d [(64,f)] a bw (g.aD ?_);exact Q () M a Ng a tY
  have aj:=B;rw[u,bm y]at aj;refine bf d [(64,m),(1000009,f)] a bw (g.ba [cA k (swp d2 fv o)] a ?_ ?_)
  .simp only[U.Y,U,cV,c1,a9,ba];exact lM X y y (λ_ _=>rfl)
  refine cG d a r9 (g.aB (fv+1,o-1,swp d2 fv o) a bw E ?_ ?_)
  .grind [nB]
  grind
 rintro⟨⟩ ⟨L,W⟩;refine cG d a v (g.aS [0] a ?_ g2);simp
end
section
open Go.Sort (swp scanSorted shiftDown shiftUp partialIns partialInsertionSort ltInt)
variable {r:ai V}
theorem LL{a}(d:e<j)(b:ltInt a[e]! a[e-1]! = m):scanSorted ltInt a j e=scanSorted ltInt a j (e+1):=by rw[scanSorted.eq_1 ltInt a j e,bs M]
theorem yZ{a}(b:e<j->ltInt a[e]! a[e-1]! = f):scanSorted ltInt a j e=e:=by rw[scanSorted,bm];grind
def ab4{I}:∀b a,j-a<=b->a<=j->a<=scanSorted ltInt I j a/\scanSorted ltInt I j a<=j:=by
 intro b;induction b with
 |zero=>grind[yZ]
 |succ b e=>
  intro a k g;by_cases d:a<j
  .cases i:ltInt I[a]! I[a-1]! with
   |false=>grind[LL]
   |true=>grind[yZ]
  grind
theorem ach{a}(d:1<=w)(u:ltInt a[w]! a[w-1]! = f):shiftDown ltInt w a=shiftDown ltInt (w-1) (swp a w (w-1)):=by
 obtain⟨w,rfl⟩:∃b,w=b+1:=⟨w-1,by omega⟩
 simp only[pX]at u⊢;rw[shiftDown,bm gT]
theorem LU{a}(b:1<=w->ltInt a[w]! a[w-1]! = m):shiftDown ltInt w a=a:=by
 cases w with
 |zero=>rfl
 |succ w=>
  have:=b y;simp only[pX]at this;rw[shiftDown,bs M]
theorem aci{a}(b:w<j)(u:ltInt a[w]! a[w-1]! = f):shiftUp ltInt j w a=shiftUp ltInt j (w+1) (swp a w (w-1)):=by rw[shiftUp.eq_1 ltInt j w a,bs b,bm gT]
theorem LV{a}(b:w<j->ltInt a[w]! a[w-1]! = m):shiftUp ltInt j w a=a:=by rw[shiftUp];grind
abbrev qF(e a b d g:Nat):bH:=[(0,dJ e),(1,S a),(2,S b),(7,S d),(8,S (5-(g:Int)))]
def abc{d b}{a}:partialIns ltInt d j (b+1) e a=(if scanSorted ltInt a j e=j then(a,f)else if j-d<50 then(a,m)else
  partialIns ltInt d j b (scanSorted ltInt a j e) (if j-scanSorted ltInt a j e≥2 then shiftUp ltInt j (scanSorted ltInt a j e+1) (if scanSorted ltInt a j e-d≥2 then shiftDown ltInt (scanSorted ltInt a j e-1) (swp a (scanSorted ltInt a j e) (scanSorted ltInt a j e-1))else swp a (scanSorted ltInt a j e) (scanSorted ltInt a j e-1))else(if scanSorted ltInt a j e-d≥2 then shiftDown ltInt (scanSorted ltInt a j e-1) (swp a (scanSorted ltInt a j e) (scanSorted ltInt a j e-1))else swp a (scanSorted ltInt a j e) (scanSorted ltInt a j e-1)))):=rfl
def II(k)(I)(s j)(ad:I.size=k)(aM:s<j)(ak:j<=k)(ao:k<=4000000):
  Y r 224 [dJ k,S s,S j] [cA k I] (bi (partialInsertionSort ltInt I s j).2) [cA k (partialInsertionSort ltInt I s j).1]:=by
 have n:a8 r [(225,p')]:=.cons rY .nil;refine Y.K func224 rfl λan=>?_;obtain⟨x,Q⟩:∃x,partialIns ltInt s j 5 (s+1) I=x:=⟨_,rfl⟩;have aa:partialInsertionSort ltInt I s j=x:=Q;rw[aa];refine cG n a bJ ?_
 refine g.cl (S2:=Unit) 0 a a (λ_=>x.2=m) (λ_=>[(0,dJ k)]) (λ_=>[cA k x.1]) 1 (λb:Nat×Nat×Array Int=>b.2.2.size=k/\b.1<=5/\s+1<=b.2.1/\b.2.1<=j/\partialIns ltInt s j b.1 b.2.1 b.2.2=x) (λb=>qF k s j b.2.1 b.1) (λb=>[cA k b.2.2]) (λb=>b.1) (5,s+1,I) a E a E a ⟨ad,by grind,by grind,by grind,Q⟩ ?_ ?_
 .rintro l ⟨b,e,d1⟩ ⟨L,W,bp,C,u⟩;simp only at L W bp C u;cases b with
  |zero=>
   rw[partialIns]at u;refine bf n [(14,m)] a E (g.aD ?_);exact l () M a E a (by simp[bt,<-u])
  |succ b=>
   rw[abc]at u;refine bf n [(14,f)] a bw (g.cl (S2:=Unit) 2 a a (λ_=>True) (λ_=>qF k s j (scanSorted ltInt d1 j e) (b+1)) (λ_=>[cA k d1]) 1 (λi:Nat=>e<=i/\i<=j/\scanSorted ltInt d1 j i=scanSorted ltInt d1 j e) (λi=>qF k s j i (b+1)) (λ_=>[cA k d1]) (λi=>j-i) e a E a E a ⟨bC _,C,a⟩ ?_ ?_)
   .rintro du i ⟨ag,D,ah⟩;by_cases ai:i<j
    .have O:((i:Int)-1).toNat=i-1:=y;cases R:ltInt d1[i]! d1[i-1]! with
     |false=>
      refine bf n [(19,f),(30,m)] a Qh (g.aB (i+1) a E E ?_ ?_)
      .grind [LL]
      omega
     |true=>
      refine bf n [(19,f),(30,f)] a Qh (g.aD ?_);have aj:scanSorted ltInt d1 j e=i:=by grind[yZ]
      exact du () v a bw a E
    refine bf n [(19,m)] a bw (g.aD ?_);have aj:scanSorted ltInt d1 j e=i:=by grind[yZ]
    exact du () v a bw a E
   rintro⟨⟩ -;have ae:=ab4 (I:=d1) (j:=j) (j-e) e (bC _) C;obtain⟨cc,G⟩:∃cc,cc=scanSorted ltInt d1 j e:=⟨_,rfl⟩;rw[<-G]at ae u⊢
   by_cases F:cc=j
   .rw[bs F]at u;rw[<-u];refine bf n [(37,f)] a ?_ (g.aX (bT.mk [0] a ?_ a a a g2))
    .simp[F]
    simp
   rw[bm F]at u;by_cases Z:j-s<50
   .rw[bs Z]at u;rw[<-u];refine bf n [(37,m),(41,f)] a oJ (g.aX (bT.mk [0] a ?_ a a a g2));simp
   rw[bm Z]at u;have O:((cc:Int)-1).toNat=cc-1:=y;refine bf n [(37,m),(41,m),(1000012,f)] a ?_ ?_
   .simp only[U,cV,c1,O,a7,dt,eU,d8,ba,a9];exact fp
   refine g.ba [cA k (swp d1 cc (cc-1))] a ?_ ?_
   .simp only[U.Y,U,cV,c1,O,a9,ba];exact lM L y y (λ_ _=>rfl)
   have X:(swp d1 cc (cc-1)).size=k:=r_;obtain⟨d2,N⟩:∃d2,d2=swp d1 cc (cc-1):=⟨_,rfl⟩;rw[<-N]at X u⊢;obtain⟨d3,B⟩:∃d3,d3=if cc-s≥2 then shiftDown ltInt (cc-1) d2 else d2:=⟨_,rfl⟩
   rw[<-B]at u;have DQ:∀p I,(shiftDown ltInt p I).size=I.size:=by
    intro p;induction p with
    |zero=>intro I;rfl
    |succ p aq=>
     intro I;rw[shiftDown];exact r_
   have z:d3.size=k:=M;apply g.cj (qF k s j cc (b+1)) [cA k d3]
   .intro du;by_cases K:cc-s≥2
    .rw[bs K]at B;refine bf n [(61,f)] a sa (g.cl (S2:=Unit) 4 a a (λ_=>True) (λ_=>qF k s j cc (b+1)) (λ_=>[cA k d3]) 1 (λb:Nat×Array Int=>b.2.size=k/\b.1<j/\shiftDown ltInt b.1 b.2=d3) (λw=>qF k s j cc (b+1)++[(9,S w.1)]) (λb=>[cA k b.2]) (λb=>b.1) (cc-1,d2) a bw a E a ⟨X,by grind,B.symm⟩ ?_ ?_)
     .rintro A ⟨p,d4⟩ ⟨t,H,d⟩;simp only at t H d;by_cases V:1<=p
      .have o:((p:Int)-1).toNat=p-1:=y;cases R:ltInt d4[p]! d4[p-1]! with
       |true=>
        refine bf n [(65,f),(77,f)] a zO (g.aB (p-1,swp d4 p (p-1)) a bw NM ?_ ?_)
        .grind [ach]
        grind
       |false=>
        refine bf n [(65,f),(77,m)] a zO (g.aD ?_);have aj:d3=d4:=by grind[LU]
        exact A () v a E a tY
      refine bf n [(65,m)] a bw (g.aD ?_);have aj:d3=d4:=by grind[LU]
      exact A () v a E a tY
     rintro⟨⟩ -;exact bf n [(1000018,f)] a v kv
    rw[bm K]at B;rw[<-B];exact bf n [(61,m),(1000018,f)] a zI kv
   by_cases T:j-cc≥2
   .rw[bs T]at u;obtain⟨e2,J⟩:∃e2,shiftUp ltInt j (cc+1) d3=e2:=⟨_,rfl⟩;rw[J]at u;refine bf n [(98,f)] a sa ?_
    refine g.cl (S2:=Unit) 6 a a (λ_=>e2.size=k) (λ_=>qF k s j cc (b+1)) (λ_=>[cA k e2]) 1 (λb:Nat×Array Int=>b.2.size=k/\1<=b.1/\b.1<=j/\shiftUp ltInt j b.1 b.2=e2) (λw=>qF k s j cc (b+1)++[(10,S w.1)]) (λb=>[cA k b.2]) (λb=>j-b.1) (cc+1,d3) a E a E a ⟨z,by grind,by grind,J⟩ ?_ ?_
    .rintro A ⟨p,d4⟩ ⟨t,V,H,d⟩;simp only at t V H d;by_cases P:p<j
     .have o:((p:Int)-1).toNat=p-1:=y;cases R:ltInt d4[p]! d4[p-1]! with
      |true=>
       refine bf n [(103,f),(115,f)] a zO (g.aB (p+1,swp d4 p (p-1)) a E NM ?_ ?_)
       .grind [nB,aci]
       grind
      |false=>
       refine bf n [(103,f),(115,m)] a zO (g.aD ?_);have aj:e2=d4:=by grind[LV]
       exact A () M a E a tY
     refine bf n [(103,m)] a bw (g.aD ?_);have aj:e2=d4:=by grind[LV]
     exact A () M a E a tY
    rintro⟨⟩ W;refine cG n a tV (g.aB (b,cc,e2) a bw E M ?_);grind
   rw[bm T]at u;refine bf n [(98,m)] a zI (g.aB (b,cc,d3) a bw E M ?_);grind
 rintro⟨⟩ ab;refine cG n a v (g.aS [0] a ?_ g2);simp[ab]
end
section
open Go.Sort (swp pdq rd Rd Below SWO insertionSort heapSort breakPatterns choosePivot reverseRange partialInsertionSort partition partitionEqual Hint ltInt PermIn SortedIn)
variable {r:ai V}
abbrev vI(i d e g:Nat)(a b:Bool):bH:=[(0,dJ i),(1,S d),(2,S e),(3,S g),(8,bi a),(9,bi b)]
def Jv{a}:qr a=2↔a=.decreasing:=by cases a<;>simp[qr]
def Yt{a}:qr a=1↔a=.increasing:=by cases a<;>simp[qr]
structure Rq where
 cO:Nat
 dw:Nat
 lim:Nat
 hL:Bool
 hP:Bool
 c9:Array Int
def U1(k)(a){x}(d:a.size=k)(i:j<=k)(e:x<=k)(l:k<=4000000){b}(g:b=insertionSort ltInt a x j):Y r 219 [dJ k,S x,S j] [cA k a] (.Q []) [cA k b]:=by grind[U0]
def UF(k)(a){x}(e:a.size=k)(d:x<=j)(i:1<=j-x)(l:j<=k)(n:k<=4000000){b}(g:b=heapSort ltInt a x j):Y r 220 [dJ k,S x,S j] [cA k a] (.Q []) [cA k b]:=by grind[UC]
def Ws(k)(u:k<=4000000):∀aw(K:Array Int)(x j lim:Nat),j-x<=aw->K.size=k->x<=j->j<=k->lim<=100->Below ltInt x j K ->
  ∀{l aQ aR:Int},l=x->aQ=j->aR=lim->∀{aq:Array Int},aq=pdq ltInt K x j lim f f->Y r 186 [dJ k,S l,S aQ,S aR] [cA k K] (.Q []) [cA k aq]:=by
 have e:a8 r [(225,p')]:=.cons rY .nil;have N:=Go.Sort.swo_ltInt;have a5:=Go.Sort.partialInsertionSort_holds (lt:=ltInt);have aj:=Go.Sort.partition_holds ltInt;have ai:=Go.Sort.partitionEqual_holds ltInt;have aZ:=Go.Sort.reverseRange_holds (α:=Int);have L:=Go.Sort.pdq_sorts ltInt;intro aw;induction aw using Nat.strongRecOn with
 |_ aw ak=>
 intro K x j lim a' ae ad aG aI aE l aQ aR aJ aK aL aq ab;subst aJ aK aL;refine Y.K func186 rfl λaH=>?_;refine cG e a v (g.aN 1 (λp:Rq=>p.c9.size=k/\p.cO<=p.dw/\p.dw<=k/\p.lim<=100/\p.dw-p.cO<=j-x/\Below ltInt p.cO p.dw p.c9/\pdq ltInt p.c9 p.cO p.dw p.lim p.hL p.hP=aq) (λp=>vI k p.cO p.dw p.lim p.hL p.hP) (λp=>[cA k p.c9]) (λp=>p.dw-p.cO) ⟨x,j,lim,f,f,K⟩ a E a E a ⟨ae,ad,aG,aI,bC _,aE,ab.symm⟩ ?_);clear aH aE ae ab;rintro⟨i,n,s,d,o,d1⟩ ⟨T,ax,t,ag,ah,aE,Q⟩;simp only at T ax t ag ah aE Q;by_cases O:n-i<=12
 .rw[Go.Sort.pdq_small O]at Q;refine bf e [(23,f)] a ?_ ?_
  .simp only[U,a7,bA];exact fp
  exact g.aF (U1 k d1 (x:=i) (j:=n) T t y u Q.symm) [0] a Ff
 by_cases R:s=0
 .rw[Go.Sort.pdq_heap O R]at Q;refine bf e [(23,m),(29,f)] a ?_ ?_
  .simp only[U,a7,dt,hd];exact fp
  exact g.aF (UF k d1 (x:=i) (j:=n) T ax y t u Q.symm) [0] a Ff
 have an:i<n:=y;obtain⟨X,a6,f3,f4,f5,au,ar,f8⟩:=Go.Sort.rd_facts (limit:=s) (wb:=d) (wp:=o) N a5 aZ an M aE;have a_:=Go.Sort.rd_lim_le (lt:=ltInt) (d:=d1) (a:=i) (b:=n) (limit:=s) (wb:=d) (wp:=o);have a0:=Go.Sort.rd_dec (lt:=ltInt) (d:=d1) (a:=i) (b:=n) (limit:=s) (wb:=d) (wp:=o);have aM:=Go.Sort.rd_not (lt:=ltInt) (d:=d1) (a:=i) (b:=n) (limit:=s) (wb:=d) (wp:=o);have G:=Go.Sort.rd_pi_yes (lt:=ltInt) (d:=d1) (a:=i) (b:=n) (limit:=s) (wb:=d) (wp:=o);have aV:=Go.Sort.rd_pi_no (lt:=ltInt) (d:=d1) (a:=i) (b:=n) (limit:=s) (wb:=d) (wp:=o);have aA:=Go.Sort.rd_c (lt:=ltInt) (d:=d1) (a:=i) (b:=n) (limit:=s) (wb:=d) (wp:=o);have Z:d=m->(rd ltInt d1 i n s d o).d1=breakPatterns d1 i n/\(rd ltInt d1 i n s d o).lim=s-1:=by grind[Go.Sort.rd_false]
 have aa:d=f->(rd ltInt d1 i n s d o).d1=d1/\(rd ltInt d1 i n s d o).lim=s:=by grind[Go.Sort.rd_true]
 have aS:=Go.Sort.pdq_done (lt:=ltInt) (d:=d1) (wb:=d) (wp:=o) O R;have geq:=Go.Sort.pdq_eq (lt:=ltInt) (d:=d1) (wb:=d) (wp:=o) O R;have z:=Go.Sort.pdq_left (lt:=ltInt) (d:=d1) (wb:=d) (wp:=o) O R;have aX:=Go.Sort.pdq_right (lt:=ltInt) (d:=d1) (wb:=d) (wp:=o) O R;rw[T]at X f4 ar;rw[Q]at aS geq z aX;generalize rd ltInt d1 i n s d o=b at *;apply g.cj (vI k i n b.lim d o++[(10,S ((n-i:Nat):Int))]) [cA k b.d1]
 .intro du;cases d with
  |false=>
   obtain⟨H,J⟩:=Z rfl;refine bf e [(23,m),(29,m)] a QA (g.aF (Tz k d1 i n T ax t u) [0] a ?_);rw[<-H];refine bf e [(1000010,f)] a r9 ?_;exact du _ _ a (by simp[U.Y,U,J,ba,a9];and_intros<;>omega)
  |true=>
   obtain⟨H,J⟩:=aa rfl;subst H;exact bf e [(23,m),(29,m),(1000010,f)] a QA (du _ _ a bw)
 refine cG e a v (g.aF (TB k b.d1 i n ax t y u) [0] a ?_);rw[<-aA];apply g.cj (vI k i n b.lim d o++[(10,S ((n-i:Nat):Int)),(11,S b.pivot),(12,S (qr b.hint))]) [cA k b.d2]
 .intro du;by_cases aT:b.c.2=.decreasing
  .obtain⟨H,J,B⟩:=a0 aT;refine bf e [(50,f)] a ?_ ?_
   .simp only[U,hd,Jv];omega
   refine g.aF (WE k b.d1 i n X y y t u) [0] a ?_;rw[<-H];exact bf e [(1000015,f)] a r9 (du _ _ a (by simp[U.Y,U,J,B,qr,ba,a9];omega))
  obtain⟨H,J,B⟩:=aM aT;rw[<-H];refine bf e [(50,m),(1000015,f)] a ?_ ?_
  .simp only[U,eU,d8,Jv];omega
  exact du _ _ a (by simp[U.Y,U,J,B,ba,a9])
 by_cases C:b.pi.2=f
 ·
  have aN:(d&&o&&decide (b.hint=.increasing))=f:=M;have V:=G aN;simp[cF,bA]at aN;obtain⟨⟨rfl,rfl⟩,a3⟩:=aN;refine bf e [(67,f)] a bJ (g.aF (II k b.d2 i n f4 an t u) [0] a ?_);rw[<-V,C,<-aS C];exact Ff
 rw[p0]at C;apply g.cj (vI k i n b.lim d o++[(10,S ((n-i:Nat):Int)),(11,S b.pivot)]) [cA k b.pi.1]
 .intro du;cases A:(d&&o&&decide (b.hint=.increasing))with
  |true=>
   have V:=G A;simp[cF,bA]at A;obtain⟨⟨rfl,rfl⟩,a3⟩:=A;refine bf e [(67,f)] a bJ (g.aF (II k b.d2 i n f4 an t u) [0] a ?_);rw[<-V,C];exact EZ
  |false=>
   have V:b.d2=b.pi.1:=M;rw[V];cases d with
   |false=>
    exact EZ
   |true=>
    cases o with
    |false=>
     exact EZ
    |true=>
     refine bf e [(67,m),(1000017,f)] a ?_ ?_
     .simp only[U,eU,d8,Yt];grind
     exact kv
 have W:((i:Int)-1).toNat=i-1:=y;cases A:(decide (i>0)&&!ltInt b.pi.1[i-1]! b.pi.1[b.pivot]!)with
 |true=>
  have az:=A;simp[cF,bA,j5]at az;obtain⟨F,w,I,D,_⟩:=Go.Sort.round_eq (mid:=(partitionEqual ltInt b.pi.1 i n b.pivot).1) (d4:=(partitionEqual ltInt b.pi.1 i n b.pivot).2) N ai az.1 au.1 au.2 M f8 az.2 rfl;have av:=geq C A ⟨F,w⟩;refine bf e [(74,f),(85,m)] a ?_ ?_
  .simp only[U,cV,c1,W,az.2,a7,bA,ba,a9];exact fp
  refine g.aF (Wp k b.pi.1 i n b.pivot ar an t y u) [0] a (cG e a v (g.aB ⟨(partitionEqual ltInt b.pi.1 i n b.pivot).1,n,b.lim,d,o,(partitionEqual ltInt b.pi.1 i n b.pivot).2⟩ a E E M ?_));grind
 |false=>
  obtain⟨F,w,I,D,ao,aO,aP⟩:=Go.Sort.round_part (mid:=(partition ltInt b.pi.1 i n b.pivot).1) (ap:=(partition ltInt b.pi.1 i n b.pivot).2.1) (d4:=(partition ltInt b.pi.1 i n b.pivot).2.2) N aj au.1 au.2 M f8 rfl;apply g.cj (vI k i n b.lim d o++[(10,S ((n-i:Nat):Int)),(11,S b.pivot)]) [cA k b.pi.1]
  .intro du;by_cases aW:0<i
   .have a4:ltInt b.pi.1[i-1]! b.pi.1[b.pivot]! = f:=M;refine bf e [(74,f),(85,f),(1000020,f)] a ?_ ?_
    .simp only[U,cV,c1,W,a4,a7,bA,ba,a9];exact fp
    exact kv
   exact bf e [(74,m),(1000020,f)] a bw kv
  refine cG e a v (g.aF (Wo k b.pi.1 i n b.pivot ar an t y u) [0] a ?_);have aC:=z C A ⟨F,w⟩;have aF:=aX C A ⟨F,w⟩;generalize partition ltInt b.pi.1 i n b.pivot=P at *;rw[ar]at I;by_cases aU:P.1-i<n-P.1
  .have av:=aC aU;obtain⟨w1,w2⟩:=L N P.2.2 i P.1 b.lim f f F M D;obtain⟨w3,_⟩:=aO _ w1 w2;refine bf e [(113,f)] a sa (g.aF (ak (P.1-i) y P.2.2 i P.1 b.lim (bC _) I F y y D a a a a) [0] a (cG e a Q2 (g.aB ⟨P.1+1,n,b.lim,decide (P.1-i≥(n-i) / 8),P.2.1,pdq ltInt P.2.2 i P.1 b.lim f f⟩ a bw E ?_ ?_)))
   .exact⟨by simp only;rw[w1.1,I],by grind,t,by grind,by grind,w3,av.symm⟩
   grind
  have av:=aF aU;obtain⟨w1,w2⟩:=L N P.2.2 (P.1+1) n b.lim f f y M ao;obtain⟨w3,_⟩:=aP _ w1 w2;refine bf e [(113,m)] a zI (g.aF (ak (n-(P.1+1)) y P.2.2 (P.1+1) n b.lim (bC _) I y t y ao (l:=(P.1:Int)+1) y a a a) [0] a (cG e a ?_ (g.aB ⟨i,P.1,b.lim,decide (n-P.1≥(n-i) / 8),P.2.1,pdq ltInt P.2.2 (P.1+1) n b.lim f f⟩ a ?_ ?_ ?_ ?_)))
  .trivial
  .exact bw
  .simp
  .exact⟨by simp only;rw[w1.1,I],by grind,by grind,by grind,by grind,w3,av.symm⟩
  grind
end
section
open Go.Proofs Go.Conc Go.Conc.Lib
open Go.ConcN (WgLive PayAt Has RW AtR0)
open Go.ConcR (KK WgAt stA smA rd wr mk Payload DC0)
instance aff:Payload:=⟨294⟩
def m_(i:Int):bK:=λargs e=>match args,e with
 |[.q (.aq (.c (.int .i64 d))),g,.q (.aq (.c (.int .i64 j)))],[]=>match jU 2 g with
  |none=>q
  |some (b,a)=>h (xJ (dL d (a1.af b a) j),[],[a1.bW b a,d=i])
 |_,_=>q
noncomputable def Gu:Code:=(Tryz.f231.body).getD .skip
noncomputable def Dp:Array ap:=match Gu with|.seq (.region _ a _) _=>a|_=>#[]
noncomputable def vy:Array ap:=match Gu with|.seq _ (.region _ a _)=>a|_=>#[]
def R8:Tryz.f231.body=h (.seq (.region 0 Dp m) (.region 1 vy f)):=b0
def gG(e:Option Nat)(a:Op)(b:av)(d:Array Edge):ap:={dst:=e,op:=a,type:=b,pos:= "l12_snap.go:82",after:=d,guard:=q}
def mE:p ap:=[gG (h 6) (.load 284 (.tmp 4)) 284 #[],gG (h 7) (.load 3 (.tmp 5)) 3 #[],gG (h 8) (.load 3 (.tmp 1)) 3 #[],gG (h 9) (.load 23 (.tmp 2)) 23 #[],gG (h 10) (.load 3 (.tmp 3)) 3 #[],
 gG (h 11) (.call {callee:=.value (.func 233),args:=#[.tmp 8,.tmp 9,.tmp 10],argTypes:=#[3,23,3]}) 294 #[⟨2,.data⟩,⟨3,.data⟩,⟨4,.data⟩],
 gG (h 12) (.indexAddr 284 (.tmp 6) (.tmp 7)) 0 #[⟨0,.data⟩,⟨1,.data⟩,⟨0,.phase⟩,⟨1,.phase⟩,⟨2,.phase⟩,⟨3,.phase⟩,⟨4,.phase⟩,⟨5,.phase⟩],
 gG q (.store 294 (.tmp 12) (.tmp 11)) 0 #[⟨6,.data⟩,⟨5,.data⟩,⟨5,.chain⟩,⟨0,.phase⟩,⟨1,.phase⟩,⟨2,.phase⟩,⟨3,.phase⟩,⟨4,.phase⟩,⟨5,.phase⟩]]
def aaV:vy=mE.toArray:=b0
def yJ(a:mE[e]?=h t):e<8:=(cO.1 a).1
section
variable (i:Int)(ab:p ca)(x:Int)(k l N:Nat)
def KW(a:Z):bH:=[(0,cM a),(1,ax (.O [.int .i64 i])),(2,ax (.O [.S m 2 (c ab) (a1.fn ab)])),(3,ax (.O [.int .i64 x])),(4,ax (.O [.val (.slice (h ⟨N,0,q⟩) k k)])),(5,ax (.O [.int .i64 l]))]
def r5:Nat->z
 |0=>cM (.slice (h ⟨N,0,q⟩) k k)
 |1=>S l
 |2=>S i
 |3=>a1.S ab
 |4=>S x
 |5=>xJ (dL i ab x)
 |6=>cM (.pointer (h ⟨N,l*2,q⟩))
 |_=>.any
def rF:Nat->Option Nat
 |6=>h 0|7=>h 1|8=>h 2|9=>h 3|10=>h 4|11=>h 5|12=>h 6|_=>q
def Jh(a:Z):Nat->bH
 |5=>[(8,S i),(9,a1.S ab),(10,S x)]
 |6=>[(6,cM (.slice (h ⟨N,0,q⟩) k k)),(7,S l)]
 |_=>KW i ab x k l N a
end
def aaL{o:ai V}{k l N}(n:l<k):aT o 13 mE (gG (h 12) (.indexAddr 284 (.tmp 6) (.tmp 7)) 0 #[⟨0,.data⟩,⟨1,.data⟩,⟨0,.phase⟩,⟨1,.phase⟩,⟨2,.phase⟩,⟨3,.phase⟩,⟨4,.phase⟩,⟨5,.phase⟩]) [(6,cM (.slice (h ⟨N,0,q⟩) k k)),(7,S l)] [] (cM (.pointer (h ⟨N,l*2,q⟩))) []:=by
 refine .a1 (λ_ _ _ _=>iV a) (a0.aZ λs e u i=>?_);have d:=i (.tmp 6);have b:=i (.tmp 7);have p:bF [(6,z.q (.aq (.v (.slice (h ⟨N,0,q⟩) k k)))),(7,S l)] (.tmp 6)=cM (.slice (h ⟨N,0,q⟩) k k):=rfl;have r:bF [(6,z.q (.aq (.v (.slice (h ⟨N,0,q⟩) k k)))),(7,S l)] (.tmp 7)=S l:=rfl;rw[p]at d;rw[r]at b;have d:=Rd.bj d;have b:=b6 b;generalize g:e (.tmp 7)=t at b;cases b;have j:=(bd 284 yl a).run_underlying (Q:=s.a);refine⟨.pointer (h ⟨N,l*2,q⟩),?_,Rd.val a,?_⟩
 .simp[ac,gG,d,g,Instr.indexAt,asIntOf,j,yl,(bd 294 qs a).bf,qs,gM,n]
 simp[ac,gG,d,g,Instr.indexAt,asIntOf,j,yl,gM,n]
def aep{z:ai V}{i}(D:bL z 233 (m_ i))(ab)(x)(k l N)(J:l<k)(d):
  ul z 13 mE.toArray (KW i ab x k l N d) [] (r5 i ab x k l N) (Jh i ab x k l N d) rF 7:=by
 have F:a8 z [(233,m_ i)]:=a8.cons D a8.nil;have u:∀(j:Nat) r A w p,mE[j]?=h r->hx eP [(233,m_ i)] [] mE A [] r=h (w,q,p)->U p->aT z 13 mE r A [] w []:=
  λj r A w p _ y e=>ee bd F y e
 refine⟨?_,?_,?_,?_,?_,?_,by decide⟩
 .intro j r e K C _;simp[j4]at e;have g:=yJ e
  match j,g with
  |0,_|1,_|2,_|3,_|4,_|5,_|6,_|7,_=>
   cases e;simp[gG]at C;try (rcases C with rfl|rfl|rfl|rfl|rfl|rfl|rfl|rfl|rfl<;>decide)
   try (rcases C with rfl|rfl|rfl<;>decide)
 .intro j r w e B;simp[j4]at e;have g:=yJ e
  match j,g with
  |0,_|1,_|2,_|3,_|4,_|5,_|6,_|7,_=>
   cases e;cases B;try exact⟨rfl,by decide⟩
 .intro w j y;unfold rF at y;split at y<;>cases y<;>exact⟨_,rfl,rfl⟩
 .intro j r e t;simp[j4]at e;have g:=yJ e
  match j,g with
  |0,_=>cases e;exact u 0 _ _ _ _ a a v
  |1,_=>cases e;exact u 1 _ _ _ _ a a v
  |2,_=>cases e;exact u 2 _ _ _ _ a a v
  |3,_=>cases e;exact u 3 _ _ _ _ a a v
  |4,_=>cases e;exact u 4 _ _ _ _ a a v
  |5,_=>
   cases e;have:=u 5 _ (Jh i ab x k l N d 5) _ _ a a (by simp[a1.U]);rw[a1.E]at this;exact this
  |6,_=>cases e;exact aaL J
  |7,_=>grind
 .intro j r e t o n b aa s;simp[j4]at e;have g:=yJ e
  match j,g with
  |0,_|1,_|2,_|3,_|4,_=>
   match o with
   |0|1|2|3|4|5=>exact s
   |o+6=>trivial
  |5,_=>
   cases e
   match o with
   |8=>exact(show bx n b aa (r5 i ab x k l N 2)from by simpa[rF,gG,eL,Region.binds]using s)
   |9=>exact(show bx n b aa (r5 i ab x k l N 3)from by simpa[rF,gG,eL,Region.binds]using s)
   |10=>exact(show bx n b aa (r5 i ab x k l N 4)from by simpa[rF,gG,eL,Region.binds]using s)
   |0|1|2|3|4|5|6|7=>trivial
   |o+11=>trivial
  |6,_=>
   cases e
   match o with
   |6=>exact(show bx n b aa (r5 i ab x k l N 0)from by simpa[rF,gG,eL,Region.binds]using s)
   |7=>exact(show bx n b aa (r5 i ab x k l N 1)from by simpa[rF,gG,eL,Region.binds]using s)
   |0|1|2|3|4|5=>trivial
   |o+8=>trivial
  |7,_=>grind
 intro r e E I t;simp[j4]at e;cases e
 match E,I with
 |0,_=>exact⟨⟨0,.phase⟩,by simp[gG],rfl,rfl⟩
 |1,_=>exact⟨⟨1,.phase⟩,by simp[gG],rfl,rfl⟩
 |2,_=>exact⟨⟨2,.phase⟩,by simp[gG],rfl,rfl⟩
 |3,_=>exact⟨⟨3,.phase⟩,by simp[gG],rfl,rfl⟩
 |4,_=>exact⟨⟨4,.phase⟩,by simp[gG],rfl,rfl⟩
 |5,_=>exact⟨⟨5,.phase⟩,by simp[gG],rfl,rfl⟩
 |6,_=>exact⟨⟨6,.data⟩,by simp[gG],rfl,rfl⟩
 |7,_=>grind
noncomputable def ml:aK:={(default:aK)with fn:=Tryz.prog.funcs.size,defers:=[],mode:=.panicking [goexitEntry]}
def rn(B:Array Z):Deferred:={target:=.fn (.func 231) B,args:=#[]}
def R9(v0 v1 v2 a v4 b)(d):aq V m (born V (rn #[v0,v1,v2,a,v4,b])) d =
  .go (G ((baseD 231).at ⟨#[v0,v1,v2,a,v4,b,K,K,K,K,K,K,K],[]⟩ [.code (.seq (.region 0 Dp m) (.region 1 vy f))]) [ml]) d #[]:=by
 have i:=R8;have g:Tryz.f231.ntmps=13:=b0;have e:¬Tryz.f231.name= "runtime.NumGoroutine":=by have:(Tryz.f231.name== "runtime.NumGoroutine")=m:=b0;grind
 simp[born,rn,aq,unwind,callDeferred,invoke,callFunc,Tryz.func231,i,g,e,seen,GStep.after,G,Frame.enter,Frame.at,baseD,ml]
end
section
variable {r:ai V}
abbrev vD(a:p ca)(b:Nat):ca:=a.getD b (0,[])
def XU{k}{ab}{b}(g:e<c ab)(n:gp i (vD ab e) k=h b)(d:∀a,a<e->gp i (vD ab a) k=q):dL i ab k=h b:=by
 unfold dL;induction ab generalizing e with
 |nil=>grind
 |cons o ab j=>
  cases e with
  |zero=>grind
  |succ e=>
   have l:=d 0 y;grind
def XV{k}{ab}(b:∀a,a<c ab->gp i (vD ab a) k=q):dL i ab k=q:=by unfold dL;grind[List.getElem_of_mem]
theorem kZ.e'{P}{F}{n}{ad}(aQ:bn P ad){fn}{s}{res}{ao}(aO){ab}(b:ts ad fn.results.toList aO F res=h ab)(p:U ab)(r:dv aO n=h ao)(k:l2 ao=f)(g:e6 aO=f)(e:∀i,i<s->aO[i]?=h i):
  kZ P fn s res ao .ret F n:=by
 refine⟨.inl a,aO,?_⟩;unfold ts at b;split at b
 .rename_i bg d;split at b
  .rename_i l o;split at b
   .rename_i j;exact⟨l,ab,oO.e' aQ d o,b,p,j,r,k,g,e⟩
   grind
  grind
 grind
def fI{b:p Nat}:∀a,a<0->b[a]?=h a:=λ_ d=>absurd d (iC _)
def Uf(o:bL r 204 lF)(i)(ab)(k)(j:cK i=f):Y r 233 [S i,a1.S ab,S k] [] (xJ (dL i ab k)) []:=by
 refine Y.bE func233 rfl rfl rfl λp=>?_;have w:=p.S 1 a;have e:a8 r [(275,kb c8 (jx bG) c8 (λi u k=>iI (gp i u k)) λi _ _=>[cK i=f])]:=.cons (adX o) .nil;refine b_ e a v (g.aN 1 (λb=>b<=c ab/\∀l,l<b->gp i (vD ab l) k=q) (λb:Nat=>[(0,S i),(2,S k),(6,aG 0 0),(11,a1.S ab),(12,S (c ab)),(13,S b)]) (λ_=>[.cells 294 [.c (.V []),.c (.bool m)]]) (λb=>c ab-b) 0 a E a E a ⟨by omega,by omega⟩ ?_);rintro b ⟨t,n⟩;by_cases s:b<c ab
 .cases d:gp i (vD ab b) k with
  |some z=>
   refine a_ e [(14,f),(24,f)] a ?_ (g.freeze 6 0 a a a (g.aX ?_))
   .simp only[U,c1,bG.E];refine⟨?_,bG.U _,j,by omega,by omega,fk y⟩;grind
   refine kZ.e' bd [] a ?_ a a a fI;rw[XU s d n];simp only[c1,bG.E];simp_all
  |none=>
   refine a_ e [(14,f),(24,m)] a ?_ (g.aB (b+1) a ?_ ?_ ?_ ?_)
   .simp only[U,c1,bG.E];refine⟨by exact bJ,?_,bG.U _,j,by omega,by omega,fk y⟩;grind
   .simp
   .simp
   .grind
   grind
 refine a_ e [(14,m)] a bX (g.aD ?_);refine b_ e a v (g.freeze 6 0 a a a ?_);refine g.cp bd [] a ?_ a a a fI;rw[XV λl x=>n l y];simp
def adw(n:bL r 204 lF)(d:cK i=f):bL r 233 (m_ i):=by
 intro args t j l g b e;unfold m_ at b;split at b
 .rename_i k1 s k;split at b
  .cases b
  rename_i v u o;cases b;obtain⟨p,rfl⟩:=e;exact(Uf n _ _ k d).args λw B=>b4.imp (λ_ a=>a) (b4.imp (λ_ a=>a1.cC o p a) (b4.imp (λ_ a=>a) (λ_ a=>a))) B
 grind
def sF:bK:=λargs b=>match args,b with
 |[.q (.aq (.c (.V [46]))),.q (.aq (.c (.int .i64 a)))],[]=>h (bZ (aY a.toNat 46),[],[0<=a/\a<=3])
 |_,_=>q
def ac9:bL r 251 (df c8 (λa=>S (e1 a.toNat)) λa=>[0<=a/\a<=4000000]):=.bb λa d=>by
 have e:0<=a/\a<=4000000:=d;obtain⟨b,rfl⟩:∃b:Nat,a=b:=⟨a.toNat,by omega⟩
 exact TG (r:=r) b y
def St(a:1<=k)(b:k<=8):k<=e1 k/\e1 k<=k+3:=FB
def Wl(i:bL r 250 sF)(d):Y r 204 [bZ d] [] (bZ (fA d)) []:=by
 refine Y.K func204 rfl λk=>?_;have e:a8 r [(249,df ez (λj=>bi (cC j)) λ_=>[]),(251,df c8 (λb=>S (e1 b.toNat)) λb=>[0<=b/\b<=4000000]),(250,sF)]:=.cons Eb (.cons ac9 (.cons i .nil));by_cases x:cC d=f
 .have s:=x;simp only[cC,cF,bA]at s;have l:=St s.1.1 s.1.2;refine a_ e [(5,m)] a ?_ (g.aw a ?_)
  .simp[x,a7];omega
  simp[fA,x]
 refine a_ e [(5,f)] a oM (g.aw a ?_);simp[fA,x]
def adS(a:bL r 250 sF):bL r 204 lF:=.bb λb _=>Wl a b
def WB:Y r 250 [bZ [46],S 0] [] (bZ []) []:=by refine Y.K func250 rfl λb=>?_;refine a6 [(12,f)] a ?_ (g.aw a);simp
def WC:Y r 250 [bZ [46],S 1] [] (bZ [46]) []:=by refine Y.K func250 rfl λb=>?_;refine a6 [(12,m),(14,f)] a ?_ (g.aw a);simp
def ad3(g:Y r 250 [bZ [46],S 2] [] (bZ [46,46]) [])(k:Y r 250 [bZ [46],S 3] [] (bZ [46,46,46]) []):bL r 250 sF:=by
 intro args j d e b a i;unfold sF at a;split at a
 .rename_i s;cases a;have:s=0∨s=1∨s=2∨s=3:=lG;rcases this with rfl|rfl|rfl|rfl
  .exact WB
  .exact WC
  .exact g
  grind
 grind
def Ue(x j):Y r 236 [bQ.S x,bQ.S j] [] (bi (x==j)) []:=by
 refine Y.K func236 rfl λl=>?_;have p:=l.S 0 a;by_cases i:c x=c j
 .refine a6 [(10,m)] a (by simp[i]) (g.ca (λb=>b<=c x/\∀d,d<b->x.getD d []=j.getD d []) (λb:Nat=>[(0,bQ.S x),(1,bQ.S j),(12,S (c x)),(13,S b)]) (λ_=>[]) (λb=>c x-b) 0 a E a v ⟨by omega,by omega⟩ ?_);rintro b ⟨k,n⟩;by_cases s:b<c x
  .by_cases e:x.getD b []=j.getD b []
   .refine a6 [(14,f),(24,m)] a ?_ (g.b5 (b+1) a ?_ a v ?_ ?_)
    .simp only[U,c1];have o:(x.getD b bQ.I==j.getD b bQ.I)=f:=hd.2 e;exact⟨by exact bJ,by grind,by omega,by omega,by omega,by omega,fk y⟩
    .simp
    .grind
    omega
   refine a6 [(14,f),(24,f)] a ?_ (g.bX (bT.zero a ?_))
   .simp only[U,c1];grind
   exact ES
  refine a6 [(14,m)] a bX (g.bt a a ?_);refine aZ a v (g.aw a ?_);have:x=j:=rf i λd e t=>by grind
  simp[this]
 refine a6 [(10,f)] a bX (g.aw a ?_);exact ES
end
def vJ(r:t.op=.binOp op o l X ty){A}(O:P.underlying o=h (.pointer A)){j s}(D:∀b g i,bb n b->bx n b g (η l)->bx n b i (η X)->∃x y,g=.pointer x/\i=.pointer y/\(x==y)=j/\(eqGuard op o l X g i).run P b.a=.ok () b.a/\(∀a,(eqGuard op o l X g i).events P b.a a=a) /\
   (Op.equal o g i).run P b.a=.ok j b.a/\∀a,(Op.equal o g i).events P b.a a=a)(w:h6 op j=h s):a0 P t η n (ax (.bool s)) n:=by
 refine .aZ λb F E z=>?_;obtain⟨x,y,d,e,I,p,B,k,C⟩:=D b _ _ E (z l) (z X);rw[d,e]at p k;have v:=B #[];have u:=C #[];rw[d,e]at v u;cases op<;>simp only[h6,reduceCtorEq,eR]at w
 .subst w;exact⟨.bool j,by simp[ac,r,d,e,p,binOp,k],Rd.bool,by simp[ac,r,d,e,p,v,binOp,k,u]⟩
 subst w;exact⟨.bool (!j),by simp[ac,r,d,e,p,binOp,k],Rd.bool,by simp[ac,r,d,e,p,v,binOp,k,u]⟩
def rM(p:t.op=.binOp op o l (.const (.pointer q)) ty){i}(C:P.underlying o=h (.pointer i)){s}(w:η l=ax .bc)(u:η (.const (.pointer q))=ax .bc)(v:h6 op f=h s):a0 P t η n (ax (.bool s)) n:=by
 refine vJ p C (j:=f) ?_ v;intro b x y _ g e;rw[w]at g;rw[u]at e;replace g:=b6 g;replace e:=b6 e;cases g;cases e;have r:(Op.equal o (.pointer q) (.pointer q)).run P b.a=.ok f b.a:=ER;have k:∀d,(Op.equal o (.pointer q) (.pointer q)).events P b.a d=d:=λd=>by show(aR (9999+1) o _ _).events P b.a d=d;unfold aR;simp[underlying,C]
 exact⟨q,q,a,a,a,by cases op<;>simp[eqGuard],λd=>by cases op<;>simp[eqGuard],r,k⟩
def abk(u:t.op=.binOp op o l (.const (.pointer q)) ty){r}(i:P.underlying o=h (.pointer r)){s}(y:η l=aG d off)(w:η (.const (.pointer q))=ax .bc)(x:h6 op m=h s):a0 P t η n (ax (.bool s)) n:=by
 refine vJ u i (j:=m) ?_ x;intro e z A _ k g;rw[y]at k;rw[w]at g;replace g:=b6 g;cases g;obtain⟨_,L,j,_,_,rfl⟩:=(k:cw n e z (.ptr d off));have v:(Op.equal o (.pointer (h ⟨j,off,q⟩)) (.pointer q)).run P e.a=.ok m e.a:=by show(aR (9999+1) o _ _).run P e.a=_;unfold aR;simp[underlying,i]
 have p:∀b,(Op.equal o (.pointer (h ⟨j,off,q⟩)) (.pointer q)).events P e.a b=b:=λb=>by show(aR (9999+1) o _ _).events P e.a b=b;unfold aR;simp[underlying,i]
 exact⟨_,q,a,a,a,by cases op<;>simp[eqGuard],λb=>by cases op<;>simp[eqGuard],v,p⟩
def abl(D:t.op=.binOp op o l X ty){i}(p:P.underlying o=h (.pointer i))(y:k≠0)(x:∀g,(sizeOf i).run P g=.ok k g)(C:∀g b,(sizeOf i).events P g b=b){s}(N:η l=aG d off)(K:η X=aG d off)(A:h6 op f=h s):a0 P t η n (ax (.bool s)) n:=by
 refine vJ D p (j:=f) ?_ A;intro e I J _ w v;rw[N]at w;rw[K]at v;obtain⟨_,L,j,O,E,rfl⟩:=(w:cw n e I (.ptr d off));obtain⟨_,z,M,u,r,rfl⟩:=(v:cw n e J (.ptr d off));rw[O]at u;cases u;rw[E]at r;cases r;have F:(Op.equal o (.pointer (h ⟨j,off,q⟩)) (.pointer (h ⟨j,off,q⟩))).run P e.a=.ok f e.a:=by show(aR (9999+1) o _ _).run P e.a=_;unfold aR;simp[underlying,p,x,y,sameAddr]
 have B:∀b,(Op.equal o (.pointer (h ⟨j,off,q⟩)) (.pointer (h ⟨j,off,q⟩))).events P e.a b=b:=λb=>by show(aR (9999+1) o _ _).events P e.a b=b;unfold aR;simp[underlying,p,x,C,y,sameAddr]
 exact⟨_,_,a,a,by simp,by cases op<;>simp[eqGuard],λb=>by cases op<;>simp[eqGuard],F,B⟩
def tt(r:t.op=.binOp op o l (.const (.pointer q)) ty){k}(C:P.underlying o=h (.pointer k)){s}{ah}(x:η l=ax (.O ah))(v:η (.const (.pointer q))=ax .bc)(w:h6 op m=h s):a0 P t η n (ax (.bool s)) n:=by
 refine vJ r C (j:=m) ?_ w;intro b y z _ i g;rw[x]at i;rw[v]at g;replace i:=b6 i;replace g:=b6 g;cases g;cases i with|O j e=>
 have u:(Op.equal o (.pointer (h ⟨j,e,q⟩)) (.pointer q)).run P b.a=.ok m b.a:=ER;have p:∀d,(Op.equal o (.pointer (h ⟨j,e,q⟩)) (.pointer q)).events P b.a d=d:=λd=>by show(aR (9999+1) o _ _).events P b.a d=d;unfold aR;simp[underlying,C]
 exact⟨_,q,a,a,a,by cases op<;>simp[eqGuard],λd=>by cases op<;>simp[eqGuard],u,p⟩
section
variable {r:ai V}
abbrev sB(e:Bool)(b:Z)(a:Option (Nat×Nat))(d:bE)(g:Nat):an:=.J (eD 341 5 e b a d g)
def In(v1)(d:dW v1=f)(bN)(ag)(b):Y r 304 [aG 0 0] [sB m v1 bN ag b] (.Q []) [sB f v1 bN ag b]:=by refine Y.K func304 rfl λi=>?_;refine aZ a v ?_;refine g.aP (a0.ir bd a a a a a) a a ?_;refine g.aP (rM a underlying339 a a a) a a ?_;refine aZ a v ?_;refine g.aP (a0.iv a a underlying339 underlying199 (hu type341) (by simp[Tryz.t341]) a) a a ?_;refine g.aP (a0.jC func312 b0 b0 b0 b0 rfl rfl rfl) rfl rfl ?_;refine g.aP (a0.iq a a underlying199 underlying339 (hu type341) (by simp[Tryz.t341]) b0 a) a a ?_;refine aZ a v ?_;refine g.aP (a0.iu bd a a a a a a d) a a ?_;refine aZ a v ?_;exact bT.di [0] a v a a a (λj e=>by grind)
def Io(v1)(bN)(ag)(b):Y r 304 [aG 0 0] [sB f v1 bN ag b] (.Q []) [sB f v1 bN ag b]:=by refine Y.K func304 rfl λj=>?_;refine aZ a v ?_;refine g.aP (a0.gJ bd a a a a a) a a ?_;refine g.aP (abk a underlying339 a a a) a a ?_;refine aZ a v ?_;refine g.aP (a0.gJ bd a a a a a) a a ?_;refine aZ a v ?_;refine g.aP (abl a underlying339 (k:=2) b' (λe=>by simp) (λe d=>by simp) a a a) a a ?_;refine aZ a v ?_;exact bT.di [0] a v a a a (λl i=>by grind)
abbrev dU(d:Bool)(a:Option (Nat×Nat))(b:bE)(e:Nat):an:=sB d (jD a (c b)) a b e
def h3:∀a,a<1->([0]:p Nat)[a]?=h a:=λa b=>by grind
def B8(b)(bN)(ag)(j)(e:c ag<=9223372036854775807)(d:bN=q->ag=[]):Y r 290 [aG 0 0] [dU b bN ag j] (S (c ag)) [dU b bN ag j]:=by
 refine Y.K func290 rfl λi=>?_;refine aZ a v (g.aP (a0.eQ bd a a a a a) a a ?_);cases bN with
 |none=>
  have:=d a;subst this;refine g.aP (a0.fG a a underlying22 a E) a a ?_;exact Pe
 |some k=>
  refine g.aP (a0.fG a a underlying22 a e) a a ?_;exact Pe
def Cn(C cap)(ag b)(e)(l:c b<=9223372036854775807)(i:c ag+c b<=cap):Y r 282 [aG 0 0,bZ b] [dU f (h (C,cap)) ag e] (.Q [.aq (.c (.int .i64 (c b))),.aq (.c .bo)]) [dU f (h (C,cap)) (ag++b) e]:=by refine Y.K func282 rfl λk=>?_;refine aZ a v ?_;refine g.aF (Io (jD (h (C,cap)) (c ag)) (h (C,cap)) ag e) [0] a ?_;refine aZ a v ?_;refine g.aP (a0.eQ bd a a a a a) a a ?_;refine aZ a v ?_;refine g.aP (a0.ih (d:=0) (C:=C) (cap:=cap) (ag:=ag) a underlying22 underlying9 (hu type5) (by simp[Tryz.t5]) a a a a i) a a ?_;refine aZ a v ?_;refine g.aP (a0.gb bd a a a a a a a) a a ?_;have j:dU f (h (C,cap)) (ag++b) e=.J (eD 341 5 f (jD (h (C,cap)) (c ag+c b)) (h (C,cap)) (ag++b) e):=M;rw[j];refine aZ a v (g.aS [0] a ?_ h3);simp
theorem XI:Y r 282 [aG 0 0,bZ []] [dU f q [] 0] (.Q [.aq (.c (.int .i64 0)),.aq (.c .bo)]) [dU f q [] 0]:=by refine Y.K func282 rfl λb=>?_;refine aZ a v ?_;refine g.aF (Io (jD q 0) q [] 0) [0] a ?_;refine aZ a v ?_;refine g.aP (a0.eQ bd a a a a a) a a ?_;refine aZ a v ?_;refine g.aP (a0.im a underlying22 underlying9 (hu type5) a a) a a ?_;refine aZ a v ?_;refine g.aP (a0.gb bd a a a a a a a) a a ?_;refine aZ a v (g.aS [0] a ?_ h3);simp
abbrev ir:z:=aG 0 0
abbrev n_:z:=aG 0 1
def Cm(C cap)(ag)(s)(x:c ag<=9223372036854775807)(e:cap≠0):Y r 283 [aG 0 0] [dU f (h (C,cap)) ag s] (bZ ag) [dU f (h (C,cap)) ag (c ag)]:=by
 refine Y.K func283 rfl λi=>?_;refine a6 [(1000001,f)] a v ?_;refine g.df b5 10 (λb=>ay b 9) (λb=>[ir,ir,n_,cM (.slice (h ⟨C,0,q⟩) (c ag) cap),cM (.pointer (h ⟨C,0,q⟩)),ir,ir,n_,cM (.slice (h ⟨C,0,q⟩) (c ag) cap),S (c ag)].getD b .any) (λ(_:Unit) _=>bZ ag)
  (λ_=>[dU f (h (C,cap)) ag (c ag)]) a a a a a a ?_ ?_ ?_ ?_
 .refine⟨.y,.y,.y,iw,?_,.y,.y,.y,?_,?_,v,v,v⟩
  .exact .aP (a0.h4 a a e) a
  .exact iw
  exact O6
 .intro _;refine⟨.y,.y,.y,iw,?_,.y,.y,.y,?_,?_,v,.y,v⟩
  .exact .aP (a0.h4 a a e) a
  .exact iw
  exact O6
 .exact .dg (.aP (R3 (d:=0) a underlying368 b0 a a a) a)
 exact N4
def FY(e:t.op=.binOp .add o l X ty){j}(d:η l=S 0)(b:η X=S j)(g:a7 .i64 j):a0 V t η n (S j) n:=by have:=a0.binOp (P:=V) (n:=n) e d b (s:=.int .i64 (0+j)) (cf:=[a7 .i64 (0+j)]) a bw;grind
def bk.gL{e}{fn}{args}{a:ι->p an}(o:Tryz.prog.funcs[e]?=h fn)(l:(fn.name== "runtime.NumGoroutine")=m)(d:fn.body=h s)(k:ay args.length fn.ntmps=f)(u:g r fn.ntmps (λt j b=>∃i,bT fn n.length (res i) (a i) t j b) [.code s] .normal (hZ 0 args) n):bk r e args n res a:=
 bk.intro o l d (e' k) (g.aW u)
def Xd:Y r 283 [aG 0 0] [dU f q [] 0] (bZ []) [dU f q [] 0]:=by
 refine Y.K func283 rfl λe=>?_;refine a6 [(1000001,f)] a v ?_;refine g.df b5 10 (λb=>ay b 9) (λb=>[ir,ir,n_,cM (.slice q 0 0),cM (.pointer q),ir,ir,n_,cM (.slice q 0 0),S (0:Nat)].getD b .any) (λ(_:Unit) _=>bZ [])
  (λ_=>[dU f q [] 0]) a a a a a a ?_ ?_ ?_ ?_
 .refine⟨.y,.y,.y,iw,?_,.y,.y,.y,?_,?_,v,v,v⟩
  .exact .aP (a0.h3 a a) a
  .exact iw
  exact qU
 .intro _;refine⟨.y,.y,.y,iw,?_,.y,.y,.y,?_,?_,v,.y,v⟩
  .exact .aP (a0.h3 a a) a
  .exact iw
  exact qU
 .exact .dg (.aP (a0.jU a a a) a)
 exact N4
def Un(k)(n:0<k)(o:k<=140737488355328):bk (ι:={e:Nat×Nat // k<=e.2}) r 305 [aG 0 0,S k] [dU f q [] 0] (λ_=>.Q []) (λw=>[dU f (h w.1) [] 0]):=by
 refine bk.gL func305 rfl rfl rfl ?_;refine a6 [(1000000,f)] a v ?_;have j:a7 .i64 (k:Int):=bJ;have p:z:=cM (.slice q 0 0);refine g.df (ι:={e:Nat×Nat // k<=e.2}) b5 8 (λb=>ay b 7||(ay 9 b&&ay b 13)) (λb=>[ir,ir,n_,cM (.slice q 0 0),S (0:Nat),S 0,S k,S k,.any,ir,ir,n_,cM (.slice q 0 0),S (0:Nat)].getD b .any)
  (λw b=>[cM (jD (h w.1) k),.any,.any,.any,.any,.any,cM (.slice (h ⟨w.1.1,0,q⟩) 0 w.1.2),cM (.slice (h ⟨w.1.1,0,q⟩) 0 w.1.2)].getD (b-8) .any)
  (λw=>[sB f (.slice q 0 0) (h w.1) [] 0]) a a a a a a ?_ ?_ ?_ ?_
 .refine⟨.y,.y,.y,iw,OD,PE,.y,?_,v,.y,.y,.y,?_,?_,v,v,v⟩
  .exact .aP (FY a a a j) a
  .exact iw
  exact qU
 .intro w;have l:w.1.2≠0:=M;refine⟨.y,.y,.y,iw,OD,PE,.y,?_,v,.y,.y,.y,?_,?_,?_,.y,v⟩
  .exact .aP (FY a a a j) a
  .exact iw
  .exact qU
  exact .aP (a0.ja (i:=0) a underlying22 (hu type5) a a (gX _) w.2 l (gM _ _ _)) a
 .exact .a1 a (R2 (d:=0) (ab:=#[3]) underlying22 func313 b0 b0 b0 b0 rfl rfl rfl n o rfl)
 intro w;refine aZ a v (g.aP (a0.eQ (d:=0) bd a a a a a) a a ?_);refine g.aP (a0.iF a underlying22 (hu type5) a a) a a ?_;refine aZ a v (g.aP (a0.gb (d:=0) bd a a a a a a a) a a ?_);exact NO
def Id(k)(e:0<k)(i:k<=140737488355328):bk (ι:={j:Nat×Nat // k<=j.2}) r 281 [aG 0 0,S k] [dU m q [] 0] (λ_=>.Q []) (λw=>[dU f (h w.1) [] 0]):=by
 refine bk.gL func281 rfl rfl rfl ?_;refine aZ a v (g.aF (In (jD q 0) a q [] 0) [0] a (a6 [(7,m),(1000003,f)] a E ?_));refine g.df b5 4 (λb=>ay b 3||(ay 5 b&&ay b 9)||af b 11) (λb=>[ir,ir,n_,cM (.slice q 0 0),.any,ir,ir,n_,cM (.slice q 0 0),S (0:Nat),.any,S k].getD b .any)
  (λ(_:Unit) b=>[S (0:Nat),.any,.any,.any,.any,.any,S (0-0),.any,bi f].getD (b-4) .any)
  (λ_=>[dU f q [] 0]) a a a a a a ?_ ?_ ?_ ?_
 .refine⟨.y,.y,.y,iw,v,.y,.y,.y,iw,?_,v,.y,v,v⟩;exact qU
 .intro _;refine⟨.y,.y,.y,iw,v,.y,.y,.y,iw,qU,NL,.y,?_,v⟩;exact .eval (bg:=[(21,f)]) bd a8.nil (cf:=[decide ((0:Int)-0<(k:Int))=f]) a bX
 .exact OU
 intro _;refine aZ a v (g.a9 (Un k e i) [0] a bl λw=>?_);exact NO
def Te:Y r 281 [aG 0 0,S (0:Nat)] [dU m q [] 0] (.Q []) [dU f q [] 0]:=by
 refine Y.K func281 rfl λe=>?_;refine aZ a v (g.aF (In (jD q 0) a q [] 0) [0] a (a6 [(7,m),(1000003,f)] a E ?_));refine g.df b5 4 (λb=>ay b 3||(ay 5 b&&ay b 9)||af b 11) (λb=>[ir,ir,n_,cM (.slice q 0 0),.any,ir,ir,n_,cM (.slice q 0 0),S (0:Nat),.any,S (0:Nat)].getD b .any)
  (λ(_:Unit) b=>[S (0:Nat),.any,.any,.any,.any,.any,S (0-0),.any,bi m].getD (b-4) .any)
  (λ_=>[dU f q [] 0]) a a a a a a ?_ ?_ ?_ ?_
 .refine⟨.y,.y,.y,iw,v,.y,.y,.y,iw,?_,v,.y,v,v⟩;exact qU
 .intro _;refine⟨.y,.y,.y,iw,v,.y,.y,.y,iw,qU,NL,.y,?_,v⟩;exact .eval (bg:=[(21,m)]) bd a8.nil (cf:=[decide ((0:Int)-0<((0:Nat):Int))=m]) a E
 .exact OU
 intro _;exact aZ a v (bT.di [0] a v a a a h3)
def F7(b:t.op=.alloc 341):a0 V t η n (aG (c n) 0) (n++[dU m q [] 0]):=
 a0.ie b (λd=>by simp) (λd a=>by simp)
def aaw{i}{b j s}(A)(o:t.op=.call {callee:=.builtin .min,args:=#[l,X,i],argTypes:=dn})(y:η l=S b)(w:η X=S j)(z:η i=S s)(F:min (min b j) s=A)(x:a7 .i64 A):a0 V t η n (S A) n:=by refine .aZ λE a I k=>?_;have e:=k l;have d:=k X;have g:=k i;rw[y]at e;rw[w]at d;rw[z]at g;replace e:=b6 e;replace d:=b6 d;replace g:=b6 g;generalize p:a l=B at e;generalize u:a X=C at d;generalize r:a i=D at g;cases e;cases d;cases g;have v:(if s<(if j<b then j else b)then s else if j<b then j else b)=A:=M;exact⟨.int .i64 A,by simp[ac,o,resolve,invoke,builtin,p,u,r,Builtin.min_,Builtin.min2,v],.int x,by simp[ac,o,resolve,invoke,builtin,p,u,r,Builtin.min_,Builtin.min2]⟩
def IL(e:Nat)(A:2<=e)(B:e<=3):Y r 250 [bZ [46],S e] [] (bZ (aY e 46)) []:=by
 refine Y.K func250 rfl λz=>?_;have x:a8 r [(289,A8)]:=.cons ac' .nil;refine bf x [(13,m),(15,m),(18,m),(30,m),(33,m),(40,m),(44,m),(45,m),(46,m),(47,m),(48,m),(96,m),(1000035,f)] a ?_ ?_
 .have o:(e:Int)=2∨(e:Int)=3:=y;have j:(kF [46] 0).toNat=46:=rfl;simp[a7,j,o];omega
 refine g.region ?_;refine g.aP (F7 a) a a ?_;refine cG x a v (g.a9 (Id e y y) [0] a bl λt=>?_);obtain⟨⟨i,b⟩,k⟩:=t;have k:e<=b:=k;refine cG x a v (g.aF (Cn i b [] [46] 0 E bX) [0] a (cG x a v (g.ca (λd=>1<=d/\d<=e) (λd:Nat=>[(0,bZ [46]),(7,S e),(8,S e),(9,aG 0 0)]) (λd=>[dU f (h (i,b)) (aY d 46) (d-1)]) (λd=>e-d) 1 a E a E ⟨by omega,by omega⟩ ?_)));rintro d ⟨w,u⟩;refine cG x a v (g.aF (B8 f (h (i,b)) (aY d 46) (d-1) bX E) [0] a ?_);by_cases p:d<e
 .refine bf x [(113,f)] a bX (g.aF (B8 f (h (i,b)) (aY d 46) (d-1) bX E) [0] a (cG x a lG (g.aF (B8 f (h (i,b)) (aY d 46) (d-1) bX E) [0] a (cG x a v (g.aP (aaw 1 a a a a bX lu) a a ?_)))));refine cG x a v (g.aF (Cm i b (aY d 46) (d-1) bX y) [0] a ?_);have n:mo (aY d (46:UInt8)) q (h 1)=[46]:=by
   obtain⟨l,rfl⟩:∃l,d=l+1:=⟨d-1,by omega⟩
   exact bJ
  refine cG x a bX ?_;rw[n];refine g.aF (Cn i b (aY d 46) [46] (c (aY d 46)) E bX) [0] a ?_;have s:aY d (46:UInt8)++[46]=aY (d+1) 46:=by rw[List.replicate_succ']
  rw[s];refine cG x a v (g.b5 (d+1) a E a ?_ ⟨by omega,by omega⟩ y);simp
 refine bf x [(113,m)] a bX (g.bt a a ?_);have j:d=e:=y;subst j;exact cG x a v (g.aF (Cm i b (aY d 46) (d-1) bX y) [0] a zL)
def ad2:bL r 250 sF:=ad3 (IL 2 y y) (IL 3 y y)
def zi:bL r 204 lF:=adS ad2
def wG(b:Option (Nat×Nat))(d:Nat):Prop:=match b with|none=>d=0|some (_,a)=>d<=a/\0<a
def _root_.Go.AM.bk.hQ{e:Type}{s:ai P}{u}{args}{d:ι->p an}{t:e->z}{a:e->p an}(v:bk s u args n res d)(j:ι->e)(F:∀b,t (j b)=res b)(E:∀b,a (j b)=d b):bk s u args n t a:=
 ⟨v.1,λC B k l w g o=>v.2 C B k l w g λb i D r k1 x y A=>o (j b) i D r k1 M M M⟩
def Tf(k)(e:k<=140737488355328):bk (ι:={b:Option (Nat×Nat) // wG b k}) r 281 [aG 0 0,S k] [dU m q [] 0] (λ_=>.Q []) (λi=>[dU f i.1 [] 0]):=by
 by_cases g:k=0
 .subst g;exact Te.tocD.hQ (λ_=>⟨q,a⟩) bl bl
 exact(Id k y e).hQ (λd=>⟨h d.1,d.2,by grind⟩) bl bl
def Co(bN)(ag b)(e:c b<=9223372036854775807)(a:wG bN (c ag+c b)):Y r 282 [aG 0 0,bZ b] [dU f bN ag 0] (.Q [.aq (.c (.int .i64 (c b))),.aq (.c .bo)]) [dU f bN (ag++b) 0]:=by
 cases bN with
 |none=>
  have a:c ag+c b=0:=a;grind[XI]
 |some d=>exact Cn d.1 d.2 ag b 0 e a.1
def ack(a:Option (Nat×Nat))(b:bE):Nat:=match a with|none=>0|some _=>c b
def Xe(bN)(ag)(d:c ag<=9223372036854775807)(a:wG bN (c ag)):Y r 283 [aG 0 0] [dU f bN ag 0] (bZ ag) [dU f bN ag (ack bN ag)]:=by
 cases bN with
 |none=>
  have a:c ag=0:=a;have e:ag=[]:=jy a;subst e;exact Xd
 |some b=>exact Cm b.1 b.2 ag 0 d (by have:=a.2;omega)
def lp(b:p bE)(a:Nat):bE:=(b.take a).flatten
def v8{d}(a:e<c d):lp d (e+1)=lp d e++d.getD e []:=by unfold lp;grind[List.take_add_one]
def ML{d}:lp d (c d)=d.flatten:=by simp[lp]
def v7{d}(e):c (lp d e)<=c d.flatten:=by have a:d.flatten=(d.take e).flatten++(d.drop e).flatten:=Fv;rw[a,dm];simp only[lp];omega
def U9(d)(A:c d.flatten<=140737488355328):Y r 235 [bQ.S d,bZ []] [] (bZ d.flatten) []:=by
 refine Y.K func235 rfl λx=>?_;have F:=x.S 0 a;by_cases C:d=[]
 .subst C;refine a6 [(14,f)] a ?_ (g.aw a);simp
 by_cases B:c d=1
 .obtain⟨l,rfl⟩:=List.length_eq_one_iff.1 B;refine a6 [(14,m),(16,f)] a E (g.aw a ?_);simp
 have K:2<=c d:=by have:c d≠0:=M;omega
 refine a6 [(14,m),(16,m),(22,m)] a bJ (g.ca (λb=>b<=c d) (λb:Nat=>[(0,bQ.S d),(1,bZ []),(5,S (c (lp d b))),(39,bQ.S d),(40,S (c d)),(41,S b)]) (λ_=>[]) (λb=>c d-b) 0 a ?_ a v y ?_)
 .simp[lp]
 intro b o;have N:=v7 (d:=d) b;by_cases k:b<c d
 .have u:=v7 (d:=d) (b+1);rw[v8 k,dm]at u;refine a6 [(42,f),(49,m)] a ?_ (g.b5 (b+1) a ?_ a v y y)
  .have j:(d.getD (b:Int).toNat bQ.I)=d.getD b []:=rfl;simp only[U,a7,j];grind
  have j:(d.getD (b:Int).toNat bQ.I)=d.getD b []:=rfl;rw[v8 k];simp_all
 have j:b=c d:=y;subst j;refine a6 [(42,m),(1000018,f)] a E (g.bt a a ?_);refine a6 [(1000018,f)] a v (g.region ?_);refine g.aP (F7 a) a a ?_;refine cr a v ?_;rw[ML];refine g.a9 (Tf (c d.flatten) A) [0] a bl λw=>?_;obtain⟨i,n⟩:=w;refine cr a bw ?_;have e:∀p,p<=c d.flatten->wG i p:=λp D=>by
  cases i with
  |none=>
   have:c d.flatten=0:=n;grind
  |some I=>exact⟨fF D n.1,n.2⟩
 have z:lp d 1=d.getD 0 []:=by rw[v8 y];simp[lp]
 have t:=v7 (d:=d) 1;rw[z]at t;refine g.aF (Co i [] (d.getD 0 []) y (e _ M)) [0] a (cr a bw (g.ca (λb=>b+1<=c d) (λb:Nat=>[(1,bZ []),(8,aG 0 0),(63,ax (.S m 1 (c d-1) (fw 1 (bQ.fn d)))),(64,S (c d-1:Nat)),(65,S b)]) (λb=>[dU f i (lp d (b+1)) 0]) (λb=>c d-b) 0 a wx a bJ y ?_));intro b o;have J:=v7 (d:=d) (b+1);by_cases k:b+1<c d
 .have s:=v7 (d:=d) (b+2);rw[v8 k,dm]at s;refine a6 [(66,f)] a bw (g.aF (Co i (lp d (b+1)) [] E (e _ M)) [0] a ?_);rw[hY];refine aZ a v (g.aF (Co i (lp d (b+1)) (d.getD (1+b) []) M (e _ M)) [0] a (aZ a bJ (g.b5 (b+1) a E a ?_ y y)));refine U.Y.2 ⟨?_,v⟩;rw[v8 k,Nat.add_comm 1 b];simp
 have j:b+1=c d:=y;refine a6 [(66,m)] a bw (g.bt a a ?_);rw[j,ML];exact aZ a v (g.aF (Xe i d.flatten y (e _ y)) [0] a wn)
def ta{b}(d:dZ b=f)(e)(g:e<c b):97<=dj b e/\dj b e<=122:=by have a:=List.all_eq_true.1 d (b.getD e 0) M;simp only[jl,cF,bA]at a;unfold dj;omega
def Ty(b)(e)(d:dZ b=f)(p:3<=e)(i:e<=c b)(n:c b<=4000000):Y r 306 [bZ b,S e] [] (bi (pF b e)) []:=by
 refine Y.K func306 rfl λk=>?_;have l:=ta d (e-1) y;have o:=ta d (e-2) y;have t:=ta d (e-3) y;have j:((kF b ((e:Int)-1)).toNat:Int)=dj b (e-1):=tW;have I:((kF b ((e:Int)-2)).toNat:Int)=dj b (e-2):=tW;have s:((kF b ((e:Int)-3)).toNat:Int)=dj b (e-3):=tW;refine aZ a ?_ (g.aw a ?_)
 .simp only[U,a7,j,I,s];omega
 exact NP
def adn:bL r 306 (ek ez c8 (λb a=>bi (pF b a.toNat)) λb a=>[dZ b=f,3<=a,a<=c b,c b<=4000000]):=.bl λb a i=>by
 obtain⟨e,j,k,g⟩:=i;obtain⟨d,rfl⟩:∃d:Nat,a=d:=⟨a.toNat,by omega⟩
 exact Ty b d e y y g
def yy{e j}(A)(k:t.op=.call {callee:=.builtin .min,args:=#[l,X],argTypes:=dn})(u:η l=S e)(r:η X=S j)(x:min e j=A)(s:a7 .i64 A):a0 V t η n (S A) n:=by refine .aZ λz d y g=>?_;have b:=g l;have a:=g X;rw[u]at b;rw[r]at a;replace b:=b6 b;replace a:=b6 a;generalize i:d l=v at b;generalize o:d X=w at a;cases b;cases a;have p:(if j<e then j else e)=A:=M;exact⟨.int .i64 A,by simp[ac,k,resolve,invoke,builtin,i,o,Builtin.min_,Builtin.min2,p],.int s,by simp[ac,k,resolve,invoke,builtin,i,o,Builtin.min_,Builtin.min2]⟩
theorem SH{o}{a}(e:c o<=a+3+w)(d:w<=5):lK o a (5-w)=min (a+8) (c o):=by
 rcases dY w 5 with b|b
 .obtain⟨i,b1⟩:∃i,5-w=i+1:=⟨4-w,by omega⟩
  rw[b1];simp[lK];grind
 rw[show 5-w=0 by omega];rfl
def T0(o)(ae)(A:dZ o=f)(t:ae<=c o)(z:c o<=4000000):Y r 287 [bZ o,S ae] [] (S (eA o ae)) []:=by
 refine Y.K func287 rfl λu=>?_;have x:a8 r [(306,ek ez c8 (λj k=>bi (pF j k.toNat)) λj k=>[dZ j=f,3<=k,k<=c j,c j<=4000000])]:=.cons adn .nil;refine b_ x a bJ (g.ca (λb=>b<=5/\lK o ae (5-b)=eA o ae) (λb:Nat=>[(0,bZ o),(1,S ae),(5,S (ae+3+b))]) (λ_=>[]) (λb=>5-b) 0 a E a v ⟨by omega,a⟩ ?_);rintro b ⟨w,e⟩;by_cases p:b<5/\ae+3+b<c o
 .obtain⟨i,b1⟩:∃i,5-b=i+1:=⟨4-b,by omega⟩
  have n:ae+(7-i)=ae+3+b:=y;rw[b1]at e;simp[lK,n]at e;rw[bm y]at e;have aj:((ae:Int)+3+b).toNat=ae+3+b:=y;cases s:pF o (ae+3+b)with
  |true=>
   rw[s,bs a]at e;refine a_ x [(11,f),(16,f),(22,f)] a QK (g.bX (bT.zero a ?_));exact bw
  |false=>
   rw[s,bm E]at e;refine a_ x [(11,f),(16,f),(22,m)] a QK (g.b5 (b+1) a ?_ a v ⟨by omega,by grind⟩ y);exact bw
 have aj:eA o ae=min (ae+8) (c o):=by
  rw[<-e];rcases dY b 5 with l|l
  .grind [SH]
  rw[show 5-b=0 by omega];rfl
 have d:a7 .i64 ((min (ae+8) (c o):Nat):Int):=bJ;rcases dY b 5 with l|l
 .refine a_ x [(11,f),(16,m)] a ?_ (g.bt a a ?_)
  .simp only[U,a7,bA,dt];omega
  exact P2
 refine a_ x [(11,m)] a ?_ (g.bt a a ?_)
 .simp only[U,a7,bA,dt];omega
 exact P2
def ads:bL r 287 (ek ez c8 (λb a=>S (eA b a.toNat)) λb a=>[dZ b=f,0<=a,a<=c b,c b<=4000000]):=.bl λb a i=>by
 obtain⟨e,j,k,g⟩:=i;obtain⟨d,rfl⟩:∃d:Nat,a=d:=⟨a.toNat,by omega⟩
 exact T0 b d e y g
abbrev GJ(a:bE):N:=.fn (.func 286) [] [.O [.V a]]
theorem T2(o):Y r 243 [bZ o] [] (ax (GJ o)) []:=by refine Y.K func243 rfl λb=>?_;refine gI [] 5 a v ?_;refine g.freeze 1 0 a a a ?_;exact aZ a v (g.aw a)
def T3{ad:Type}(text)(K:dZ text=f)(J:c text<=4000000){e}{d}{w}(s u t:ad->an)(x:Nat->ad->Prop)(i)(I:x 0 i)(aE:∀b,s b≠.bn/\u b≠.bn/\t b≠.bn)(l:∀j b,j<c text->x j b->iy (ι:={o:ad // x (eA text j) o}) r 3 [S j,S (eA text j)] [s b,u b,t b,.loop e d w] f (λo=>[s o.1,u o.1,t o.1,.loop e d w])):
  bk (ι:={b:ad // x (c text) b}) r 286 [.q (.aq (.aQ 3)),ax (.O [.V text])] [s i,u i,t i,.loop e d w] (λ_=>.Q []) (λp=>[s p.1,u p.1,t p.1,.loop e d w]):=by
 refine bk.bR func286 rfl rfl rfl (g.aW ?_);have A:a8 r [(287,ek ez c8 (λz p=>S (eA z p.toNat)) λz p=>[dZ z=f,0<=p,p<=c z,c z<=4000000])]:=.cons ads .nil;refine b_ A a v ?_;show bY r _ (.loop _) _ _ _;refine bY.loop (bq:=ad×Nat) (λn=>n.2<=c text/\x n.2 n.1) (λn=>[(0,.q (.aq (.aQ 3))),(1,ax (.O [.V text])),(3,S n.2)]) (λn=>[s n.1,u n.1,t n.1,.loop e d w]) (λn=>c text-n.2) (i,0) ⟨gX _,I⟩ (eC a E) a ?_;rintro⟨b,j⟩ ⟨F,B⟩;simp only at F B;refine g.aW ?_;by_cases C:j<c text
 .have k:=sL text j C;refine a_ A [(8,f)] a dA (g.yield (l j b C B) a a a a a a λo=>?_);refine a_ A [(16,m)] a E ⟨(o.1,eA text j),⟨k.2.1,o.2⟩,?_,eC a E,a⟩;grind
 have D:j=c text:=y;subst D;refine a_ A [(8,m)] a E (g.fF a a ?_);exact⟨⟨b,B⟩,.inr a,a,qD (aE b).1 (qD (aE b).2.1 (qD (aE b).2.2 a)),[],.Q [],[],a,a,a,v⟩
def abO(u:t.op=.binOp op o l (.const (.pointer q)) ty){p}(C:P.underlying o=h (.pointer p)){s}{lt cq}{k j}(E:η l=.q (.aq (.aQ d)))(x:c6 d n=h (.J (et W (.ax lt k j cq))))(y:η (.const (.pointer q))=ax .bc)(B:h6 op m=h s):a0 P t η n (ax (.bool s)) n:=by
 refine vJ u C (j:=m) ?_ B;intro b D F z i g;rw[E]at i;rw[y]at g;replace g:=b6 g;cases g;obtain⟨_,L,A,rfl,_⟩:=(i:cw n b D (.aQ d));obtain⟨_,⟨j,_,_,_,_,v,_⟩,_⟩:=z.box d _ L (ei x) A;rw[v];have w:(Op.equal o (.pointer (h ⟨j,0,q⟩)) (.pointer q)).run P b.a=.ok m b.a:=ER
 have r:∀e,(Op.equal o (.pointer (h ⟨j,0,q⟩)) (.pointer q)).events P b.a e=e:=λe=>by show(aR (9999+1) o _ _).events P b.a e=e;unfold aR;simp[underlying,C]
 exact⟨_,q,a,a,a,by cases op<;>simp[eqGuard],λe=>by cases op<;>simp[eqGuard],w,r⟩
abbrev o6(a b:Int):z:=.q (.agg [.c (.int .i64 a),.c (.int .i64 b)])
abbrev mD:av:=305
def yS(i j)(d:dG):∃a e g b,d.put i j=.ax a e g b:=by
 cases d with
 |nil=>exact⟨_,_,_,_,rfl⟩
 |ax a e g b=>
  simp only[dG.put];split
  .grind
  split<;>exact⟨_,_,_,_,rfl⟩
def CC:∀(b:p Nat)a,a<0->b[a]?=h a:=λ_ a d=>absurd d y
def sV:∀a,a<1->([0]:p Nat)[a]?=h a:=λa b=>by grind
def x1(b j)(z:a7 .i64 b)(F:a7 .i64 j):∀p:dG,Y r 242 [.q (.aq (ip p 0)),o6 b j] (hg mD p) (.q (.aq (.aQ 0))) [.J (et mD (p.put b j))]
 |.nil=>by refine Y.K func242 rfl λJ=>?_;refine aZ a v (g.aP (rM a underlying244 a a a) a a ?_);refine aZ a v (g.cW 4 1 0 0 (lt:=.nil) (cq:=.nil) a a (λu=>absurd a u) (λu=>absurd a u) (λu=>absurd a u) ?_);exact g.aS [1] a E (CC _)
 |.ax lt k t cq=>by
  have o:=x1 b j z F lt;have cc:=x1 b j z F cq;obtain⟨I,e,i,C,y⟩:=yS b j lt;obtain⟨ae,d,w,s,D⟩:=yS b j cq;have x:(dG.ax lt k t cq).put b j=if b<k then .ax (lt.put b j) k t cq else if k<b then .ax lt k t (cq.put b j)else .ax lt b j cq:=rfl;rw[x];rw[y]at o⊢;rw[D]at cc⊢;have l:a8 r [(242,k4 [.q (.aq (ip lt 0)),o6 b j] (hg mD lt) (.q (.aq (.aQ 0))) [.J (et mD (.ax I e i C))])]:=.cons (l5 o) .nil;have n:a8 r [(242,k4 [.q (.aq (ip cq 0)),o6 b j] (hg mD cq) (.q (.aq (.aQ 0))) [.J (et mD (.ax ae d w s))])]:=.cons (l5 cc) .nil;clear o cc x y D;refine Y.K func242 rfl λJ=>?_;refine aZ a v (g.aP (abO a underlying244 a a a a) a a ?_);refine aZ a v (g.gx 0 0 a a ?_);by_cases B:b<k
  .rw[bs B];cases lt<;>cases cq<;>refine bf l [(15,f)] rfl bJ ?_
   .exact PC
   .refine g.cW 4 0 3 2 (lt:=.ax I e i C) (cq:=_) a a bl bl (λ_ _=>by decide) ?_;exact tS
   .exact PC
   refine g.cW 4 0 2 3 (lt:=.ax I e i C) (cq:=_) a a bl bl (λ_ _=>by decide) ?_;exact tS
  rw[bm B];by_cases A:k<b
  .rw[bs A];cases lt<;>cases cq<;>refine bf n [(15,m),(33,f)] rfl bJ ?_
   .exact QR
   .exact QR
   .exact N9
   exact N9
  rw[bm A];cases lt<;>cases cq<;>refine bP [(15,m),(33,m)] rfl bw ?_
  .refine g.cW 4 0 9 9 (lt:=.nil) (cq:=.nil) a a (λu=>absurd a u) (λu=>absurd a u) (λu=>absurd a u) ?_;exact tS
  .refine g.cW 4 0 9 2 (lt:=.nil) (cq:=_) a a (λu=>absurd a u) bl (λu=>absurd a u) ?_;exact tS
  .refine g.cW 4 0 2 9 (lt:=_) (cq:=.nil) a a bl (λu=>absurd a u) (λ_ u=>absurd a u) ?_;exact tS
  refine g.cW 4 0 2 3 (lt:=_) (cq:=_) a a bl bl (λ_ _=>by decide) ?_;exact tS
end
section
open Go.Proofs Go.Conc Go.Conc.Lib Go.ConcR.Gen
open Go.ConcN (WgLive PayAt Has RW AtR0)
open Go.ConcN.Gen
open Go.ConcR (KK WgAt stA smA rd wr mk Payload DC0)
def aaU:Dp=#[{dst:=q,op:=.defer {callee:=.value (.func 232),args:=#[.tmp 0],argTypes:=#[292]},type:=0,pos:= "l12_snap.go:81",after:=#[],guard:=q}]:=b0
def p8(a:Z):aK:={baseD 231 with defers:=[dcall 232 #[a]]}
abbrev Em(a b d e g i:Z):Array Z:=#[a,b,d,e,g,i,K,K,K,K,K,K,K]
def acJ(v0 v1 v2 b v4 d)(k):Goes V m (λ_ _=>True) DC0 (λj _=>j=G ((p8 v0).M ⟨Em v0 v1 v2 b v4 d,[]⟩ [.code (.region 1 vy f)]) [ml]) 8 (born V (rn #[v0,v1,v2,b,v4,d])) k:=by
  have e:True:=v;have g:True->True->True:=λ_ _=>trivial;refine Goes.step a (λw1 i=>?_);rw[R9];simp[goes_go];refine⟨⟨a,a⟩,?_⟩;clear i;rw[aaU]
  u_c aw g e
  u_reg g e
  u_defer g e
  u_c aF g e
  exact Goes.stop λ_ _=>rfl
def S8(ad):QuitsD V 2 0 (G {(baseD 231).at ⟨ad,[]⟩ []with mode:=.returning} [ml]):=by
  have b:Tryz.f231.results=#[]:=b0;refine QuitsD.ctl (g':=G ml []) a (λd=>?_) ?_
  · simp[G,aq,unwind,doReturn,results,Frame.at,baseD,ml,Tryz.func231,b,seen,GStep.after,goexitEntry]
  refine QuitsD.ctl (g':={G ml []with status:=.finished}) rfl (λd=>?_) ⟨rfl,rfl⟩;simp[G,aq,unwind,ml,goexitEntry,Frame.catches];rfl
section
variable {J:hA}
def aeb(l)(j:J.aJ=2)(ad)(d)(b:WgLive 292 J.f d/\Has J.ai (J.aJ*l+1-1) (val l 0) d):
    ∃i,Goes V m (RW 292 J.f J.ai (2*k) 0 (J.aJ*l+1-1)) DC0 (AtR0 V 292 J.f J.ai (2*k) 0 (J.aJ*l+1) (val l 0)) i (G ((p8 (.pointer (h ⟨J.f,0,q⟩))).M ⟨ad,[]⟩ [.inRegion mE.toArray []]) [ml]) d:=by
  refine⟨26,?_⟩;have g:(p8 (.pointer (h ⟨J.f,0,q⟩))).M ⟨ad,[]⟩ [.inRegion mE.toArray []]=(baseD 231).at ⟨ad,[dcall 232 #[.pointer (h ⟨J.f,0,q⟩)]]⟩ [.inRegion mE.toArray []]:=rfl;rw[g]
  u_c aF kn_rely b
  u_c stepG_end kn_rely b
  u_in kn_rely b
  rw[stepG_unwind_enter (c:=body_done qR) a v'.f_done b0 b0];simp[goes_go];refine⟨by u_nil,?_⟩;have e:=SR (P:=V) (L:=qR) (bo:=J.f) (N:=J.ai) (k:=2*k) (m0:=0) (l:=J.aJ*l+1) (val:=val l 0) (s:={(baseD 231).at ⟨ad,[]⟩ []with mode:=.returning}) (ah:=[ml]) v' rfl (S8 ad) _ b;exact e
def abM{d}(b:Rd bB aa (.V d)):aa=.string ⟨d.toArray⟩:=by
  cases b with
  |V a e=>rw[<-a]
def DJ{j}(a:Rd bB aa (.bool j)):aa=.bool j:=by cases a;rfl
def se:ap:=gG q (.store 294 (.tmp 12) (.tmp 11)) 0 #[⟨6,.data⟩,⟨5,.data⟩,⟨5,.chain⟩,⟨0,.phase⟩,⟨1,.phase⟩,⟨2,.phase⟩,⟨3,.phase⟩,⟨4,.phase⟩,⟨5,.phase⟩]
def R0{l}(ak:l<k)(O:J.aJ=2){ab}{C}(Q:val l 0=.string ⟨((dL i ab C).getD []).toArray⟩)(Z:val l 1=.bool (dL i ab C).isSome){ad}(E:bx [] b (ad.getD 12 K) (r5 i ab C k l J.ai 6))(F:bx [] b (ad.getD 11 K) (xJ (dL i ab C))):
    ua V 292 J (2*k) val l (G ((p8 (.pointer (h ⟨J.f,0,q⟩))).M ⟨ad,[]⟩ [.inRegion mE.toArray [7]]) [ml]) b:=by
  have E:=Rd.bj E;have F:ad.getD 11 K=.agg #[val l 0,val l 1]:=by
    obtain⟨B,ag,g⟩:=F
    match B,g with
    |[],g=>exact g.elim
    |[_],g=>exact g.2.elim
    |_::_::_::_,g=>exact g.2.2.elim
    |[ao,aq],g=>
      rw[ag,abM g.1,DJ g.2.1,Q,Z]
  refine⟨a,λw1 aj s n=>?_⟩;obtain⟨d,u,ax⟩:=s;have ae:J.aJ*l=l*2:=M;have H:∀Y∈[val l 0,val l 1],Y.oneCell'=f:=by
    intro Y P;simp[fl,sq,or_false]at P;rcases P with rfl|rfl
    · rw[Q];rfl
    · rw[Z];rfl
  have X:l*2+0+[val l 0,val l 1].length<=d.size:=M;have D:=run_storeCells_at V J.ai (l*2) 294 [val l 0,val l 1] 0 d w1 u X H;simp only[j9,fj,gz,cV]at D;generalize W:(d.toList.take (l*2)++[val l 0,val l 1]++d.toList.drop (l*2+2)).toArray=new at D;have aA:new.size=d.size:=M;have ar:=setRow_heap w1 J.ai d new 294 (0,0) u;have au:∀t,(w1.setRow J.ai new).cell? ⟨J.ai,t,q⟩=new[t]?:=λt=>cell_setRow_same w1 J.ai t d new 294 (0,0) u;have av:∀t,w1.cell? ⟨J.ai,t,q⟩=d[t]?:=λt=>by simp[aN,u]
  have az:∀e,e<2->new[l*2+e]?=h (val l e):=by
    intro e r;rw[<-W];have L:c (d.toList.take (l*2))=l*2:=M;rw[mh];simp[j4];rw[hl y,L]
    match e,r with
    |0,_=>simp
    |1,_=>simp
  have aw:∀t,(t<l*2∨l*2+2<=t)->new[t]?=d[t]?:=by
    intro t o;rw[<-W];have L:c (d.toList.take (l*2))=l*2:=M;rw[mh];simp only[j4];rcases o with o|o
    · grind
    · rw[hl y,L,hl M]
      simp only[fj,gz,pY];rw[show l*2+2+(t-l*2-(0+1+1))=t by omega];simp
  have R:(Value.agg #[val l 0,val l 1]).cells=#[val l 0,val l 1]:=rfl;have z:(ac (⟨ad,[]⟩:Act).eval se).run V w1=.ok .skip (w1.setRow J.ai new):=by have N:(⟨ad,[]⟩:Act).eval (.tmp 12)=.pointer (h ⟨J.ai,l*2,q⟩):=E;have I:(⟨ad,[]⟩:Act).eval (.tmp 11)=.agg #[val l 0,val l 1]:=F;simp[ac,se,gG,N,I,Instr.storeAt,Instr.sureAddr,storeVar,(bd 294 qs a).bf,qs,R,D]
  have v:∀p∈(ac (⟨ad,[]⟩:Act).eval se).events V w1 #[],∃w,w<2/\p=tN J.ai (l*2+w):=by
    intro T v;have N:(⟨ad,[]⟩:Act).eval (.tmp 12)=.pointer (h ⟨J.ai,l*2,q⟩):=E;have I:(⟨ad,[]⟩:Act).eval (.tmp 11)=.agg #[val l 0,val l 1]:=F;have p:ac (⟨ad,[]⟩:Act).eval se=(do storeVar 294 ⟨J.ai,l*2,q⟩ (.agg #[val l 0,val l 1]);pure .skip):=by simp[ac,se,gG,N,I,Instr.storeAt,Instr.sureAddr]
    rw[p]at v;have aa:T∈(storeCells ⟨J.ai,l*2,q⟩ [val l 0,val l 1]).events V w1 #[]:=by simp only[storeVar,aH,(bd 294 qs a).bf,qs,R,aJ,events_sizeOf,d8,dh,cI,c0,Sem.events_pure]at v;simpa[D]using v
    rcases nc [val l 0,val l 1] 0 d w1 #[] u X H T aa with aB|⟨w,_,ah,rfl⟩
    · grind
    grind
  have an:WgLive 292 J.f (w1.setRow J.ai new):=by
    obtain⟨A,S,U⟩:=n;refine⟨A,S,?_⟩;show(w1.setRow J.ai new).heap[J.f]?=_;rw[setRow_other w1 J.ai J.f new ?_]
    · exact U
    · intro p
      have g:w1.heap[J.f]?=h (Go.ConcR.wgBlock 292 A S):=U;rw[p,u]at g;simp[Go.ConcR.wgBlock]at g;exact absurd g.2 b'
  refine⟨_,w1.setRow J.ai new,_,LR (j:=p8 (.pointer (h ⟨J.f,0,q⟩))) (x:=⟨ad,[]⟩) (i:=[]) (aC:=mE.toArray) (e:=7) (br:=[]) (t:=se) a a (by simp[p8,baseD]) z,?_,?_,?_⟩
  · refine⟨rfl,rfl,rfl,by simp,λj aM=>setRow_other w1 J.ai j new aM,⟨new,ar,by grind⟩,λt o=>?_,λe r=>?_⟩
    · grind
    · rw[O]at r
      rw[au,ae];grind
  · intro p ai
    obtain⟨w,ah,rfl⟩:=v p (Go.Conc.mem_seen ai);exact⟨l*2+w,a,by omega,by omega⟩
  · exact aeb l O ad _ ⟨an,by show(w1.setRow J.ai new).cell? _=_;grind⟩
def aez(Q:bL (ai.c6 V) 233 (m_ i)){l}(C:l<k)(K:J.aJ=2){ab}{n}(N:val l 0=.string ⟨((dL i ab n).getD []).toArray⟩)(F:val l 1=.bool (dL i ab n).isSome)(D:bb [] b)(Y:b.m=[]){v1 v2 e v4 g}(w:Rd b.u v1 (.O [.int .i64 i]))(t:Rd b.u v2 (.O [.S m 2 (c ab) (a1.fn ab)]))(B:Rd b.u e (.O [.int .i64 n]))(u:Rd b.u v4 (.O [.val (.slice (h ⟨J.ai,0,q⟩) k k)]))(x:Rd b.u g (.O [.int .i64 l])):
    dr (ai.c6 V) eH (ua V 292 J (2*k) val l) (born V (rn #[.pointer (h ⟨J.f,0,q⟩),v1,v2,e,v4,g])) b:=by
  refine dr.goes (r:=ai.c6 V) (de:=λ_ _=>True) (z:=DC0) (Stop:=λs _=>s=G ((p8 (.pointer (h ⟨J.f,0,q⟩))).M ⟨Em (.pointer (h ⟨J.f,0,q⟩)) v1 v2 e v4 g,[]⟩ [.code (.region 1 vy f)]) [ml])
    (λj=>bb [] j/\j.u=b.u) (λj o d y=>⟨d.1.rely y,y.u.trans d.2⟩) (λ_ _ _ _=>trivial) ?_ (λj d=>cU.en d.1.mem) ?_ 8 _ b ⟨D,rfl⟩ (acJ _ _ _ _ _ _ _)
  · rintro j I d T ⟨rfl,rfl⟩
    exact⟨a,.inl (.aZ d.1)⟩
  · rintro s j ⟨M,W⟩ rfl
    rw[aaV];refine cb.toW (λ_ _ _ d=>d) ?_;refine(aep Q ab n k l J.ai C (.pointer (h ⟨J.f,0,q⟩))).region b0 (by simp[p8,baseD]) ⟨by simp[Em],⟨[],v⟩,λA=>?_⟩ a M λo E X p S O R=>.stop ?_
    · rw[<-W]at w t B u x
      match A with
      |0=>exact Rd.val rfl
      |1=>exact w
      |2=>exact t
      |3=>exact B
      |4=>exact u
      |5=>exact x
      |A+6=>trivial
    · obtain⟨Z,U⟩:=E
      obtain rfl:U=[]:=S;exact R0 C K N F (p 12) (p 11)
end
end
section
open Go.Proofs Go.Conc Go.Conc.Lib
open Go.ConcN (WgLive PayAt Has RW AtR0)
open Go.ConcR (KK WgAt stA smA rd wr mk Payload DC0)
def nh:Code->Code|.seq a _=>a|b=>b
def gR:Code->Code|.seq _ a=>a|b=>b
def Gt:Code->Code|.block _ a=>a|b=>b
def aai:Code->Code|.loop a=>a|b=>b
def Do:Code->Array ap|.region _ a _=>a|_=>#[]
noncomputable def rm:Code:=(Tryz.f188.body).getD .skip
noncomputable def ho:Code:=aai (Gt (gR (nh (gR (gR (gR rm))))))
noncomputable def Hb:Code:=nh ho
noncomputable def Bl:Code:=Gt (nh (gR (gR ho)))
noncomputable def Hc:Code:=nh Bl
noncomputable def pp:Array ap:=Do (nh (gR Bl))
noncomputable def oy:Array ap:=Do (gR (gR Bl))
noncomputable def n4:Code:=gR (gR (gR ho))
noncomputable def lH:Code:=gR (gR (gR (gR rm)))
noncomputable def oz:Array ap:=Do (nh lH)
noncomputable def n5:Code:=gR lH
def GZ:ho=.seq Hb (.seq (.cond (.tmp 21) .skip (.exit 0)) (.seq (.block 1 (.seq Hc (.seq (.region 6 pp m) (.region 7 oy m)))) n4)):=b0
def Sn:lH=.seq (.region 9 oz m) n5:=b0
def uf(g:bH)(a:p an):fq:=λe b d=>e=.normal/\ix b g/\d=a
structure dX(dM:p an)(cE:a5)(F:bH)(n:p an)(x:Act)(b:a5):Prop where
 bU:bV 45 n b F x
 a_:bb n b
 bC:dc dM cE n b
section
variable {dM:p an}{cE:a5}{F w:bH}{n aL:p an}{x:Act}{b:a5}
def dX.rely(a:dX dM cE F n x b){e}(d:cU b e):dX dM cE F n x e:=⟨a.bU.rely d a.a_,a.a_.rely d,a.bC.trans d.aR⟩
structure nM(j:Nat)(b:a5):Prop where
 own:¬b.own j
 m:∀L∈b.m,j∉L.al
 u:∀t,b.u j t=q
 lt:j<b.a.heap.size
def nM.step{j}(d:nM j cE)(a:dc dM cE n b):nM j b:=
 ⟨by rw[a.own];exact d.own,λL i g=>by
  rcases a.bV L i j g with e|⟨l,k,e⟩
  .have:=d.lt;omega
  .exact d.m l k e,λo=>by rw[a.bF j d.lt d.m];exact d.u o,ey d.lt a.size⟩
def dX.ew{bo}(d:nM bo cE):kT bo (dX dM cE F n x):=
 ⟨λ_ _ a e=>a.rely e,λ_ a=>⟨n,a.a_⟩,λ_ a=>let b:=d.step a.bC;⟨b.own,b.m,b.u⟩⟩
variable {r:ai V}{bq:ak->a5->Prop}{j:aK}{i:p Item}{ah:p aK}
def dX.ctl(i:dX dM cE F n x b){C a}(l:C.status=.running)(k:∀j,aq V r.b7 C j=.go a j #[])(g:∀d,dX dM cE F n x d->cb r bq a d):cb r bq C b:=
 .ctl i.a_ l k λd e=>g d (i.rely e)
def dX.code(g:dX dM cE F n x b)(k:j.kind≠.early){s}(z:bY r 45 s (uf w aL) F n)(o:∀a d,dX dM cE w aL a d->cb r bq (G (j.M a i) ah) d):cb r bq (G (j.M x (.code s::i)) ah) b:=by refine z b x g.bU g.a_ j i ah bq k ?_;rintro B t u p e ⟨rfl,l,rfl⟩ y A v;exact o e p ⟨y.le l,A,g.bC.trans v⟩
end
def cb.cV{bo}{W:a5->a5->Array aU->Prop}{A:ak->a5->Prop}{C}{b}(r:cb (ai.aG V 292 bo) A C b)(n:gL (λe=>e=bo) b)(j:WgLive 292 bo b.a):
  dr (ai.aG V 292 bo) W (λC b=>A C b/\WgLive 292 bo b.a) C b:=by
 induction r with
 |stop r=>exact⟨.leaf,r,j⟩
 |@step C b O z I w s t _ y=>
  refine .step w λl g=>?_;have D:=g.2 j;have p:gL (λe=>e=bo) l:=⟨λe d=>by rw[g.1.own];exact n.own e d,λe d=>by rw[g.1.m];exact n.m e d,λe d J=>by rw[g.1.u];exact n.u e d J,λe d=>ey (n.lt e d) g.1.size⟩
  obtain⟨⟨B,o,u,E,k⟩,F⟩:=t l g;refine⟨_,_,_,s l g,.inl ⟨⟨B,o,u,E,k⟩,F⟩,y l g (p.step k) ?_⟩;obtain⟨M,N,K⟩:=D;exact⟨M,N,by show(z l).a.heap[bo]?=_;rw[k.a6 bo (p.lt bo a) (p.m bo a)];exact K⟩
 |aV i _ y=>exact .aV i (y (n.aV i) (by rw[i.a];exact j))
 |b1 x _ _ _=>exact x.elim
 |de v _ _=>exact v.elim
def nM.clear{bo}{b}(e:nM bo b):gL (λd=>d=bo) b:=⟨λd a=>a▸e.own,λd a=>a▸e.m,λd a=>a▸e.u,λd a=>a▸e.lt⟩
section
variable (i:Int)(ab:p ca)(bu:p Int)(N bo:Nat)
def h9(a:Nat):bH:=[(3,ax (.O [.int .i64 i])),(4,ax (.O [.S m 2 (c ab) (a1.fn ab)])),(8,ax (.O [.val (.slice (h ⟨N,0,q⟩) (c bu) (c bu))])),(9,cM (.pointer (h ⟨bo,0,q⟩))),
 (18,aB.S bu),(19,S (c bu)),(20,S a)]
variable {i ab bu N bo}{r:ai V}{n:p an}
def KG{e}(b:e<=c bu):bY r 45 Hb (uf ((21,bi (decide (e<c bu)))::h9 i ab bu N bo e) n) (h9 i ab bu N bo e) n:=by
 refine g.aW ?_;by_cases d:e<c bu
 .refine a6 [(21,f)] a bX ⟨a,eC a ?_,a⟩;exact bw
 refine a6 [(21,m)] a bX ⟨a,eC a ?_,a⟩;exact bw
abbrev e2:p an:=[.x,.x,.x,.x,.x]
def aa2{e}(b:e<c bu):bY r 45 Hc (uf ((10,aG 5 0)::(11,aG 6 0)::h9 i ab bu N bo e) [.x,.x,.x,.x,.x,.cells 3 [.c (.int .i64 e)],.cells 3 [.c (.int .i64 (bu.getD e 0))]]) (h9 i ab bu N bo e) e2:=by refine g.aW ?_;refine aZ a bX ⟨a,eC a E,?_⟩;grind
def aa3{e}(b:e<c bu)(d:c bu<=4000000):bY r 45 n4 (uf (h9 i ab bu N bo (e+1)) e2) (h9 i ab bu N bo e) e2:=by refine g.aW ?_;refine aZ a bJ ⟨a,eC a ?_,a⟩;simp
variable {dM:p an}{cE:a5}{bq:ak->a5->Prop}{j:aK}{eM:p Item}{ah:p aK}
abbrev iG:p an:=[.x,.x,.x,.x,.x,.x,.x]
variable (i ab bu N bo)in
abbrev kO(a:Nat):bH:=(11,ax (.O [.int .i64 (bu.getD a 0)]))::(10,ax (.O [.int .i64 a]))::h9 i ab bu N bo a
noncomputable abbrev s9(a:p Item):p Item:=.code (.region 7 oy m)::.inBlock 1::.code n4::.inLoop ho::.inBlock 0::a
def y5{P}{eN}{a:aK}{x}{i}{ah}{b}{s l X}(d:s=.seq l X):aq P eN (G (a.M x (.code s::i)) ah) b=.go (G (a.M x (.code l::.code X::i)) ah) b:=by grind[py]
def toAdd{e}(k:e<c bu)(v:j.kind≠.early){x}{d:a5}(b:dX dM cE (h9 i ab bu N bo e) e2 x d)(w:∀u n,dX dM cE (kO i ab bu N bo e) iG u n->cb r bq (G (j.M u (.inRegion pp [0]::s9 eM)) ah) n):
  cb r bq (G (j.M x (.code ho::.inLoop ho::.inBlock 0::eM)) ah) d:=by
 refine b.ctl a (λg=>y5 GZ) λd b=>?_;refine b.code v (KG (Nat.le_of_lt k)) λx d b=>?_;refine b.ctl a (λg=>py) λd b=>?_;have A:x.eval (.tmp 21)=.bool f:=by have:=b.bU.aH 21;simp only[k,m8]at this;exact DJ (b6 this)
 refine b.ctl a (λg=>y2 A) λd b=>?_;refine b.ctl a (λg=>LS) λd b=>?_;refine b.ctl a (λg=>py) λd b=>?_;refine b.ctl a (λg=>y1) λd b=>?_;refine b.ctl a (λg=>py) λd b=>?_;have b:dX dM cE (h9 i ab bu N bo e) e2 x d:=⟨b.bU.le (eC a E),b.a_,b.bC⟩
 refine b.code v (aa2 k) λx d b=>?_;obtain⟨n,w1,z,l,p⟩:=bV.freeze 10 5 (W:=3) (ah:=[.c (.int .i64 e)]) (gB:=[.int .i64 e]) rfl rfl rfl b.bU b.a_;refine .aV (.of b.a_ l w1 (p.tooU b.a_)) ?_;obtain⟨o,w2,y,s,t⟩:=bV.freeze 11 6 (W:=3) (ah:=[.c (.int .i64 (bu.getD e 0))]) (gB:=[.int .i64 (bu.getD e 0)]) rfl rfl rfl z l;refine .aV (.of l s w2 (t.tooU l)) ?_;have b:dX dM cE (kO i ab bu N bo e) iG x o:=⟨y.le (eC a E),s,b.bC.trans ((p.tooU b.a_).trans (t.tooU l))⟩
 refine b.ctl a (λg=>py) λd b=>?_;refine b.ctl a (λg=>y4) λd b=>?_;exact w x d b
def rN:ap:={dst:=h 25,op:=.call {callee:=.value (.func 230),args:=#[.tmp 9,.const (.int .i64 1)],argTypes:=#[292,3]},type:=0,pos:= "l12_snap.go:79",after:=#[],guard:=q}
theorem KC:pp=#[rN]:=b0
def S9{e}(s:j.kind≠.early){x}{b}(o:dX dM cE (kO i ab bu N bo e) iG x b)(k:∀d,dX dM cE (kO i ab bu N bo e) iG x d->cb r bq (G (Frame.enter V 230 #[.pointer (h ⟨bo,0,q⟩),.int .i64 1] .normal) (j.M x (.inRegion pp [0]::s9 eM)::ah)) d):
  cb r bq (G (j.M x (.inRegion pp [0]::s9 eM)) ah) b:=by
 refine .next a λd l=>?_;have g:=o.rely (r.bM l);have n:=Rd.bj (g.bU.aH 9);have p:(ac x.eval rN).run V d.a=.ok (.enter 230 #[.pointer (h ⟨bo,0,q⟩),.int .i64 1]) d.a:=by have:=run_call_body (P:=V) (a:=x) (w:=d.a) (o:=rN) (f:=230) (fn:=Tryz.f230) a Tryz.func230 b0 b0;rw[this,<-n];simp only[List.map_toArray,mg,List.map_nil];rfl
 have u:(ac x.eval rN).events V d.a #[]=#[]:=events_call_body (P:=V) (a:=x) (w:=d.a) (o:=rN) (f:=230) (fn:=Tryz.f230) a Tryz.func230 b0 b0 #[];have v:listed V j.fn x rN d.a=#[]:=by unfold listed;grind[seen_none]
 refine⟨_,d,#[],?_,.aZ g.a_,k d g⟩;have:=tz (P:=V) (eN:=r.b7) (j:=j) (x:=x) (i:=s9 eM) (ah:=ah) (Q:=d.a) (aC:=pp) (e:=0) (br:=[]) (t:=rN) (by grind[KC]) a s p;grind
def vs:ap:={dst:=h 26,op:=.makeFunc (.func 231) #[] #[.tmp 9,.tmp 3,.tmp 4,.tmp 11,.tmp 8,.tmp 10],type:=1,pos:= "l12_snap.go:80",after:=#[],guard:=q}
def pn:ap:={dst:=q,op:=.go {callee:=.value (.tmp 26),args:=#[],argTypes:=#[]},type:=0,pos:= "l12_snap.go:80",after:=#[⟨0,.data⟩],guard:=q}
theorem KD:oy=[vs,pn].toArray:=b0
variable (i ab bu N bo)in
abbrev sH(a:Nat):AM.N:=.fn (.func 231) [] [.val (.pointer (h ⟨bo,0,q⟩)),.O [.int .i64 i],.O [.S m 2 (c ab) (a1.fn ab)],.O [.int .i64 (bu.getD a 0)],.O [.val (.slice (h ⟨N,0,q⟩) (c bu) (c bu))],.O [.int .i64 a]]
def aaK{e}:aT r 45 [vs,pn] vs ((25,.any)::kO i ab bu N bo e) iG (ax (sH i ab bu N bo e)) iG:=by have a:hx eP [] [] [vs,pn] ((25,.any)::kO i ab bu N bo e) iG vs=h (ax (sH i ab bu N bo e),q,[]):=rfl;exact ee bd a8.nil a v
def toGo{e}(y:j.kind≠.early){x}{b}(d:dX dM cE (kO i ab bu N bo e) iG x b)(p:∀aa n g,dX dM cE (kO i ab bu N bo e) iG n g->Rd g.u aa (sH i ab bu N bo e)->n.tmps.getD 26 K=aa->cb r bq (G (j.M n (.inRegion oy [1]::.inBlock 1::.code n4::.inLoop ho::.inBlock 0::eM)) ah) g):
  cb r bq (G (j.M (x.put (h 25) (.tuple #[])) (.inRegion pp []::s9 eM)) ah) b:=by
 have w:dX dM cE ((25,.any)::kO i ab bu N bo e) iG (x.put (h 25) (.tuple #[])) b:=⟨d.bU.put b' v,d.a_,d.bC⟩
 refine w.ctl a (λz=>vQ) λb d=>?_;refine d.ctl a (λz=>y4) λb d=>?_;rw[KD];refine aaK b _ d.bU d.a_ j _ ah bq 0 [1] y a λaa g k s o=>?_;have k:=b6 k;have u:=((d.bU.mono o d.a_.len).put (I:=26) (aa:=aa) (l:=.any) b' v)
 have t:26<(x.put (h 25) (.tuple #[])).tmps.size:=by rw[d.bU.size];decide
 refine p aa _ g ⟨u.le (eC a ?_),s,d.bC.trans o⟩ k (abz t);simp
def aeh{e}(l:e<c bu)(A:c bu<=4000000)(g:j.kind≠.early)(u:dM.length<=5){x}{b}(d:dX dM cE (kO i ab bu N bo e) iG x b)(t:∀o p,dX dM cE (h9 i ab bu N bo (e+1)) e2 o p->cb r bq (G (j.M o (.code ho::.inLoop ho::.inBlock 0::eM)) ah) p):
  cb r bq (G (j.M x (.inRegion oy []::.inBlock 1::.code n4::.inLoop ho::.inBlock 0::eM)) ah) b:=by
 have k:bV 45 (e2++[.x,.x]) b (h9 i ab bu N bo e) x:=d.bU.le (eC a E);have n:=d.a_;have v:=d.bC;have z:eT b (b.cut (c e2)):=⟨rfl,λ_ _ _ d=>d,λ_ _ _=>rfl,n.mem,λj g=>g.imp id λ⟨L,y,g⟩=>⟨L,hc y,g⟩⟩
 refine .aV z ?_;have d:dX dM cE (h9 i ab bu N bo e) e2 x (b.cut (c e2)):=⟨⟨k.size,k.defers.imp λ_ w=>w.drop a,λB=>(k.aH B).drop (vc a)⟩,n.drop a,v.drop u⟩
 refine d.ctl a (λs=>vQ) λb d=>?_;refine d.ctl a (λs=>LO) λb d=>?_;refine d.code g (aa3 l A) λx b d=>?_;exact d.ctl a (λs=>LP) λb d=>t x b d
end
theorem rg{a:aK}(d:a.roundOf=q)(b)(o):a.M b o=a.at ⟨b.tmps,b.defers++a.defers⟩ o:=by cases a;simp only at d;subst d;rfl
section
variable {i:Int}{ab:p ca}{bu:p Int}{J:hA}{val:Nat->Nat->Z}{dM:p an}{cE:a5}{j:aK}{eM:p Item}{ah:p aK}
def Jp{x:Act}{Q}{s gZ iE jE uJ a}(d:x.tmps.getD 26 K=.func (.func 231) #[] #[s,gZ,iE,jE,uJ,a]):(ac x.eval pn).run V Q=.ok (.spawn (rn #[s,gZ,iE,jE,uJ,a])) Q/\(ac x.eval pn).events V Q #[]=#[]:=by
 have b:x.eval (.tmp 26)=.func (.func 231) #[] #[s,gZ,iE,jE,uJ,a]:=d;constructor
 .simp[ac,pn,resolve,Deferred.ofValue,b,rn]
 simp[ac,pn,resolve,Deferred.ofValue,b]
def RZ(Z:bL (ai.c6 V) 233 (m_ i))(R:J.aJ=2)(s:j.roundOf=q)(ae:j.kind≠.early){e}(r:e<c bu)(T:val e 0=.string ⟨((dL i ab (bu.getD e 0)).getD []).toArray⟩)(E:val e 1=.bool (dL i ab (bu.getD e 0)).isSome){aa}{x}{b}(M:dX dM cE (kO i ab bu J.ai J.f e) iG x b)(y:WgLive 292 J.f b.a)(z:Rd b.u aa (sH i ab bu J.ai J.f e))(w:x.tmps.getD 26 K=aa){Next:ak->a5->Prop}(A:∀k,dX dM cE (kO i ab bu J.ai J.f e) iG x k->WgLive 292 J.f k.a->Next (G (j.M x (.inRegion oy []::.inBlock 1::.code n4::.inLoop ho::.inBlock 0::eM)) ah) k):
  wA V 292 J (2*c bu) val e Next (G (j.M x (.inRegion oy [1]::.inBlock 1::.code n4::.inLoop ho::.inBlock 0::eM)) ah) b:=by
 refine⟨a,λk o=>?_⟩;have v:=M.rely o.1;have U:Rd k.u aa (sH i ab bu J.ai J.f e):=by rw[o.1.u];exact z
 cases U with
 |fn D p n l C d F I Y g=>
 have S:=jy n;subst S;have N:p=[d 0,d 1,d 2,d 3,d 4,d 5]:=by
  apply p4;intro u;have l:=l
  match u with
  |0=>grind
  |1=>grind
  |2=>grind
  |3=>grind
  |4=>grind
  |5=>grind
  |u+6=>grind
 subst N;have ad:=Rd.bj (g 0 _ a);obtain⟨O,W⟩:=Jp (x:=x) (Q:=k.a) w;have B:Go.Conc.listed V j.fn ⟨x.tmps,x.defers++j.defers⟩ pn k.a=#[]:=by unfold Go.Conc.listed;have:=(Jp (x:=⟨x.tmps,x.defers++j.defers⟩) (Q:=k.a) w).2;grind[seen_none]
 have X:=stepG_spawn (P:=V) (main:=f) (b:=j) (a:=⟨x.tmps,x.defers++j.defers⟩) (k:=.inBlock 1::.code n4::.inLoop ho::.inBlock 0::eM) (cs:=ah) (w:=k.a) (ops:=oy) (i:=1) (rest:=[]) (o:=pn) (by grind[KD]) a ae O a;refine⟨G (j.M x (.inRegion oy []::.inBlock 1::.code n4::.inLoop ho::.inBlock 0::eM)) ah,born V (rn #[d 0,d 1,d 2,d 3,d 4,d 5]),?_,a,?_,A k v (o.2 y)⟩
 .rw[rg s,rg s,X,B];rfl
 rw[ad];exact aez Z r R T E (b:=k.dx) ⟨v.a_.mem,a,by simp,by simp[a5.dx],by simp[a5.dx],by simp[a5.dx]⟩ a (g 1 _ a) (g 2 _ a) (g 3 _ a) (g 4 _ a) (g 5 _ a)
def rO:ap:={dst:=h 28,op:=.call {callee:=.value (.func 234),args:=#[.tmp 9],argTypes:=#[292]},type:=0,pos:= "l12_snap.go:85",after:=#[],guard:=q}
theorem KE:oz=#[rO]:=b0
variable {r:ai V}{bq:ak->a5->Prop}
def aei(n:j.kind≠.early){N bo}{x}{b}(d:dX dM cE (h9 i ab bu N bo (c bu)) e2 x b)(o:∀l g,dX dM cE (h9 i ab bu N bo (c bu)) e2 l g->cb r bq (G (Frame.enter V 234 #[.pointer (h ⟨bo,0,q⟩)] .normal) (j.M l (.inRegion oz [0]::.code n5::eM)::ah)) g):
  cb r bq (G (j.M x (.code ho::.inLoop ho::.inBlock 0::.code lH::eM)) ah) b:=by
 refine d.ctl a (λQ=>y5 GZ) λb d=>?_;refine d.code n (KG (bC _)) λx b d=>?_;refine d.ctl a (λQ=>py) λb d=>?_;have v:x.eval (.tmp 21)=.bool m:=by have:=d.bU.aH 21;simp only[wS,oV]at this;exact DJ (b6 this)
 refine d.ctl a (λQ=>y2 v) λb d=>?_;refine d.ctl a (λQ=>LN (f_:=.code lH::eM) a) λb d=>?_;refine d.ctl a (λQ=>y5 Sn) λb d=>?_;refine d.ctl a (λQ=>y4) λb d=>?_;have d:dX dM cE (h9 i ab bu N bo (c bu)) e2 x b:=⟨d.bU.le (eC a E),d.a_,d.bC⟩
 refine .next a λg p=>?_;have k:=d.rely (r.bM p);have w:x.eval (.tmp 9)=.pointer (h ⟨bo,0,q⟩):=Rd.bj (k.bU.aH 9);have u:(ac x.eval rO).run V g.a=.ok (.enter 234 #[.pointer (h ⟨bo,0,q⟩)]) g.a:=by have:=run_call_body (P:=V) (a:=x) (w:=g.a) (o:=rO) (f:=234) (fn:=Tryz.f234) a Tryz.func234 b0 b0;grind
 have y:(ac x.eval rO).events V g.a #[]=#[]:=events_call_body (P:=V) (a:=x) (w:=g.a) (o:=rO) (f:=234) (fn:=Tryz.f234) a Tryz.func234 b0 b0 #[];have s:Go.Conc.listed V j.fn x rO g.a=#[]:=by unfold Go.Conc.listed;grind[seen_none]
 refine⟨_,g,#[],?_,.aZ k.a_,o x g k⟩;have:=tz (P:=V) (eN:=r.b7) (j:=j) (x:=x) (i:=.code n5::eM) (ah:=ah) (Q:=g.a) (aC:=oz) (e:=0) (br:=[]) (t:=rO) (by grind[KE]) a n u;rw[s]at this;exact this
section
variable (i ab bu J dM cE j eM ah)
def wy(b:ak)(d:a5):Prop:=∃a,wz V qR J (dX dM cE (h9 i ab bu J.ai J.f (c bu)) e2 a) (j.M a (.inRegion oz [0]::.code n5::eM)) ah b d
def FP(b:ak)(d:a5):Prop:=∃a,fi V qR J (dX dM cE (h9 i ab bu J.ai J.f (c bu)) e2 a) (G (j.M (a.put (h 28) (.tuple #[])) (.inRegion oz []::.code n5::eM)) ah) b d
end
def RN(k:nM J.f cE)(e:j.roundOf=q){C}{b}(d:wy i ab bu J dM cE j eM ah C b):
  dr (ai.aG V 292 J.f) (dS J.f) (q3 V 292 J (FP i ab bu J dM cE j eM ah) (wy i ab bu J dM cE j eM ah)) C b:=by
 obtain⟨a,d⟩:=d;have l:(oz[0]?).bind (·.dst)=h 28:=by rw[KE];rfl
 rw[rg e]at d;refine RO (P:=V) (L:=qR) (hF:=j) (hE:=⟨a.tmps,a.defers++j.defers⟩) (f':=oz) (hJ:=0) (hP:=[]) (hL:=.code n5::eM) (ah:=ah) v' (dX.ew k) (λC b g=>⟨a,?_⟩) (λC b n=>⟨a,?_⟩) d
 .rw[rg e];rw[l]at g;exact g
 grind[rg]
def acC{P}{ty}{D k}{g:ak->a5->Prop}:∀i{a:ak}{b:a5},dr (ai.aG P ty J.f) (dS J.f) (λa b=>oR P ty J D val k g i a b) a b->oR P ty J D val k g i a b
 |0,_,_,d=>dr.bind d λ_ _ e=>e
 |_+1,_,_,d=>dr.bind d λ_ _ e=>e
def acB(R:bL (ai.c6 V) 233 (m_ i))(M:J.aJ=2)(t:nM J.f cE)(w:j.roundOf=q)(s:j.kind≠.early)(F:dM.length<=5)(H:c bu<=4000000)(Q:∀d,d<c bu->val d 0=.string ⟨((dL i ab (bu.getD d 0)).getD []).toArray⟩)(I:∀d,d<c bu->val d 1=.bool (dL i ab (bu.getD d 0)).isSome):
  ∀o,o<=c bu->∀a b,dX dM cE (h9 i ab bu J.ai J.f (c bu-o)) e2 a b->WgLive 292 J.f b.a ->
   oR V 292 J (2*c bu) val (c bu) (wy i ab bu J dM cE j eM ah) o (G (j.M a (.code ho::.inLoop ho::.inBlock 0::.code lH::eM)) ah) b:=by
 intro o;induction o with
 |zero=>
  intro _ a b e l;rw[so]at e;have:=cb.cV (W:=dS J.f) (aei (r:=ai.aG V 292 J.f) (eM:=eM) (ah:=ah) (bq:=λk b=>∃a,k=G (Frame.enter V 234 #[.pointer (h ⟨J.f,0,q⟩)] .normal) (j.M a (.inRegion oz [0]::.code n5::eM)::ah)/\dX dM cE (h9 i ab bu J.ai J.f (c bu)) e2 a b) s e λp v n=>.stop ⟨p,rfl,n⟩) (t.step e.bC).clear l;refine dr.bind this ?_;rintro k b ⟨⟨a,rfl,e⟩,l⟩;exact aes (P:=V) (L:=qR) (J:=J) v' (dX.ew t) (λk b z=>⟨a,z⟩) ⟨e,l⟩
 |succ o E=>
  intro T a b e l;have g:c bu-(o+1)<c bu:=y;generalize S:c bu-(o+1)=d at e g;have:=cb.cV (W:=dS J.f) (toAdd (r:=ai.aG V 292 J.f) (eM:=.code lH::eM) (ah:=ah) (bq:=λk b=>∃a,k=G (Frame.enter V 230 #[.pointer (h ⟨J.f,0,q⟩),.int .i64 1] .normal) (j.M a (.inRegion pp [0]::s9 (.code lH::eM))::ah)/\dX dM cE (kO i ab bu J.ai J.f d) iG a b) g s e λp v n=>S9 s n λN A=>.stop ⟨p,rfl,A⟩) (t.step e.bC).clear l;refine dr.bind this ?_;rintro k b ⟨⟨a,rfl,e⟩,l⟩;have D:(pp[0]?).bind (·.dst)=h 25:=by rw[KC];rfl
  rw[rg w];refine RG (P:=V) (L:=qR) (J:=J) (ea:=dX dM cE (kO i ab bu J.ai J.f d) iG a) v' (dX.ew t) (λb B=>?_) ⟨e,l⟩;rw[D];have:=cb.cV (W:=dS J.f) (toGo (r:=ai.aG V 292 J.f) (eM:=.code lH::eM) (ah:=ah) (bq:=λk b=>∃u a,k=G (j.M a (.inRegion oy [1]::.inBlock 1::.code n4::.inLoop ho::.inBlock 0::.code lH::eM)) ah/\dX dM cE (kO i ab bu J.ai J.f d) iG a b/\Rd b.u u (sH i ab bu J.ai J.f d)/\a.tmps.getD 26 K=u) s B.1 λu p v n C x=>.stop ⟨u,p,rfl,n,C,x⟩) (t.step B.1.bC).clear B.2;rw[rg w]at this;refine dr.bind this ?_;rintro k b ⟨⟨u,a,rfl,e,C,x⟩,l⟩;rw[S];refine⟨.leaf,RZ R M w s g (Q d g) (I d g) e l C x λv n O=>?_⟩;refine acC o ?_;have:=cb.cV (W:=dS J.f) (aeh (r:=ai.aG V 292 J.f) (eM:=.code lH::eM) (ah:=ah) (bq:=λk b=>∃a,k=G (j.M a (.code ho::.inLoop ho::.inBlock 0::.code lH::eM)) ah/\dX dM cE (h9 i ab bu J.ai J.f (d+1)) e2 a b) g H s F n λp v n=>.stop ⟨p,rfl,n⟩) (t.step n.bC).clear O;refine dr.bind this ?_;rintro k b ⟨⟨a,rfl,e⟩,l⟩;refine⟨.leaf,E y a b ?_ l⟩;grind
end
end
section
variable {r:ai V}[r.b']
def Se(o):∀b,b<c o->c (bD.fn o b)=2/\∀e∈bD.fn o b,nj e=f:=by intro b _;refine⟨a,λe d=>?_⟩;simp only[cY.fn,gr,bD,fl,sq,or_false]at d;rcases d with rfl|rfl<;>rfl
abbrev mY(b:p c')(a:p Z):Prop:=eg 2 (c b) (bD.fn b) a
abbrev AT(a:fg)(d:Nat)(b:p Z):an:=.J (ck 46 2 a d b)
abbrev adH(a:fg)(d:Nat)(b:Bool):z:=.Q [.aq (.v (cX a d)),.aq (.c (.bool b))]
def Xs(o)(a l):bk (ι:={b:fg×p Z // mY (js o a l).1 b.2}) r 52 [bD.S o,bZ a,bZ l] [] (λb=>adH b.1.1 (js o a l).1.length (js o a l).2) (λb=>[AT b.1.1 (js o a l).1.length b.1.2]):=
 (IY o a l).thaw func52 rfl (by simp[Di,vw,vv,rP,ni,nj]) (Se _)
def eg.nil{i}:eg i 0 T []:=⟨by simp,λb a=>by omega,λb a=>by omega⟩
def abt{o}{d l}(a:(js o d l).2=f):(js o d l).1.length<=6:=by
 unfold js at a⊢;split at a
 .rename_i j;rw[bs j];split at a
  .rename_i b;rw[bs b];exact MN b
  grind
 grind
def RS(b:t.op=.call {callee:=.builtin .append,args:=#[l,X],argTypes:=#[36,36]}):j1 V t l X 46 qt:=
 ⟨⟨36,36,CR,CR,b,(bd _ _ a),rfl,(bd _ _ a),rfl⟩,(bd _ _ a),by decide,by decide⟩
def Ls{b}(d:c b<=9223372036854775807):Rd bB (jd b) (.V b):=Rd.V a d
def mY.gD{o}{ag}(p:mY o ag)(b l)(j:c b<=9223372036854775807)(k:c l<=9223372036854775807):mY (o++[(b,l)]) (ag++[jd b,jd l]):=by
 unfold mY;rw[dm];refine eg.gD p (λs e=>?_) a a λg r d=>?_
 .simp[cY.fn,gr,al,ky e]
 have n:bD.fn (o++[(b,l)]) (c o)=[.V b,.V l]:=by simp[cY.fn,gr,bD]
 rw[n]at d;rcases g with _|_|g
 .simp at d;subst d;exact⟨jd b,a,λi=>Ls j⟩
 .simp at d;subst d;exact⟨jd l,a,λi=>Ls k⟩
 grind
def mY.jT{o}{ag}(n:mY o ag)(e)(b:e<c o)(l)(j:m3 B [.c (.V l)]):mY (o.set e ((o.getD e bD.I).1,l)) (ag.take (e*2+1)++B++ag.drop (e*2+1+c B)):=by
 unfold mY;rw[sh];refine eg.ff n e 1 b j (bC _) (λs r g=>?_) a λd p i=>?_
 .simp[cY.fn,gr,al,p3 g]
 have k:bD.fn (o.set e ((o.getD e bD.I).1,l)) e=[.V (o.getD e bD.I).1,.V l]:=by simp[cY.fn,gr,bD,al,b]
 rw[k]at i;rcases d with _|_|d
 .right;exact bJ
 .grind
 grind
structure uk(i s:Nat) where
 dX:p c'
 gK:fg
 h6:p Z
 k1:Nat
 iU:mY dX h6
 km:c dX<=7
 i':i<=k1
 j2:k1<=i+s
set_option maxRecDepth 20000 in
def Xo(A)(j:Nat->Int)(u:Bytes j)(i)(ah:i<=50000)(x:A<=1048576):
  bk (ι:=uk i 400) r 28 [aG 0 0] [ef A j i] (λn=>cM (cX n.gK (c n.dX))) (λn=>[ef A j n.k1,AT n.gK (c n.dX) n.h6]):=by
 refine bk.cu func28 rfl rfl rfl λH=>?_;refine gI [] 9 a v (g.jz 3 46 2 a λW=>?_);refine aZ a v (g.a9 (hH A j u i 6 y x y) [0] a bl ?_);rintro⟨D,ak,an⟩;refine aZ a v (g.aN 2 (λb:Nat×p c'×fg×p Z×Nat=>b.1<=5/\mY b.2.1 b.2.2.2.1/\c b.2.1<=6/\i<=b.2.2.2.2/\b.2.2.2.2+70*b.1<=i+351) (λb=>[(0,aG 0 0),(4,S b.1),(3,cM (cX b.2.2.1 (c b.2.1)))]) (λb=>[ef A j b.2.2.2.2,AT b.2.2.1 (c b.2.1) b.2.2.2.1]) (λb=>b.1) (D.toNat,[],W,[],i+1) a bX a E a ⟨by omega,eg.nil,by simp,by simp,by grind⟩ ?_);rintro⟨k,e,bN,ag,k1⟩ ⟨Y,o,ad,G,aa⟩;simp only at Y o ad G aa;by_cases P:0<k
 .refine a6 [(11,f)] a (by simp[P]) (g.a9 (IJ A j u k1 y x) [0] a bl ?_);rintro⟨l,ab⟩;refine aZ a v (g.a9 (Xm A j u (k1+1+1) y x) [0] a bl ?_);rintro⟨⟨Q,R⟩,ae,aq,ai⟩;simp only at ae aq ai;refine aZ a v (g.iB (Xs e l Q) 1 0 a a a a (ck.fH a (bD.fn e) o.rd) a E a bl bl a ?_);rintro⟨⟨F,C⟩,T⟩;simp only at T⊢;cases z:(js e l Q).2 with
  |true=>
   have N:=abt z;generalize(js e l Q).1=K at T N⊢;refine gI [] 6 a v (g.swap 1 2 b' a a (λD I J=>J.1) (λD I J=>J.1) ?_);refine a6 [(23,f)] a oJ (g.aB (k-1,K,F,C,R) a bX E M ?_);grind
  |false=>
   refine a6 [(23,m)] a bJ (g.aB (k-1,e,bN,ag,R) a bX E M ?_);grind
 obtain rfl:k=0:=y;refine a6 [(11,m)] a E (g.aD ?_);refine aZ a v (g.a9 (hH A j u k1 40 y x y) [0] a bl ?_);rintro⟨V,aM,av⟩;by_cases L:V=0
 .refine a6 [(27,f)] a (by simp[L]) (g.a9 (IJ A j u (k1+1) y x) [0] a bl ?_);rintro⟨l,ab⟩;refine aZ a v (g.ft (d:=1) (bN:=bN) (ag:=ag) (k:=c e) (hU:=[jd l,jd [97]]) (RS a) a a a a a a a a (λau D az s aw ax=>?_) (by show _*32<=_;omega) λF=>?_)
  .grind [D_]
  refine aZ a v (g.bL ⟨e++[(l,[97])],F,ag++[jd l,jd [97]],k1+1+1+1,o.gD l [97] y b',by grind,by omega,by omega⟩ (g.aS [0,1] a E ?_ (s:=nK)));grind
 by_cases ar:V=1
 .by_cases O:0<c e
  .refine g.fz (ck.len (d:=1) a) λao=>?_;obtain⟨X,t,rfl⟩:=ao.2.2.1 O;refine a6 [(27,m),(35,f),(39,f)] a bw (g.eL bd 1 a a a a a a a M a a λB w=>?_);have aj:=o.jT 0 O [65] w;refine aZ a v (g.bL ⟨e.set 0 ((e.getD 0 bD.I).1,[65]),.row X t,_,k1+1,aj,by grind,by omega,by omega⟩ (g.aS [0,1] a E ?_ (s:=nK)));grind
  cases bN;all_goals
   refine a6 [(27,m),(35,f),(39,m)] a ?_ (g.bL ⟨e,_,ag,k1+1,o,by omega,by omega,by omega⟩ (g.aS [0,1] a ?_ ?_))
   .simp[O,ar]<;>omega
   .simp
   grind
 refine a6 [(27,m),(35,m)] a bw (g.bL ⟨e,bN,ag,k1+1,o,by omega,by omega,by omega⟩ (g.aS [0,1] a E ?_));grind
def Xp(A)(b:Nat->Int)(g:Bytes b)(i)(d:i<=50000)(e:A<=1048576):
  bk (ι:=uk i 400) r 28 [aG 0 0] [ef A b i] (λa=>bD.S a.dX) (λa=>[ef A b a.k1]):=
 bk.eY (aL:=λa:uk i 400=>[ef A b a.k1]) (i:=2) (k:=λa:uk i 400=>c a.dX) (T:=λa:uk i 400=>bD.fn a.dX) (Xo A b g i d e) (λa=>a.iU) bl (λ_=>bC _)
end
section
open Go.Proofs Go.Extern
abbrev fW:av:=161
abbrev dQ:av:=159
abbrev pE:av:=252
abbrev aQ(a:av):Z:=.pointer (h ⟨6,a,q⟩)
abbrev mI(a:av):Z:=.iface pE (.agg #[aQ a])
abbrev ku(d:av)(b:Nat)(a:Int):Z:=.agg #[aQ d,.pointer (h ⟨b,0,q⟩),.int .u64 a]
def M':ju V 166 λargs=>ReflectliteValue.unpack (args.getD 0 (.tuple #[])):=⟨_,Tryz.func166,by kernel_rfl,by kernel_rfl,by kernel_rfl,by kernel_rfl⟩
def abL(b)(a):(ReflectliteValue.unpack (.iface fW (.pointer (h b)))).run V a=.ok (ku fW a.heap.size 150) (a.alloc (.cells #[.pointer (h b)] fW)):=b0
def S6(a)(b)(T):(ReflectliteValue.unpack (.iface fW (.pointer (h a)))).events V b T=T:=b0
def abK(b)(a):(ReflectliteValue.unpack (.iface dQ (.pointer (h b)))).run V a=.ok (ku dQ a.heap.size 150) (a.alloc (.cells #[.pointer (h b)] dQ)):=b0
def S5(a)(b)(T):(ReflectliteValue.unpack (.iface dQ (.pointer (h a)))).events V b T=T:=b0
def aeO:ju V 167 (ReflectliteValue.methodAny (ReflectliteValue.valueError "reflectlite.Value.Type" 0) λa _ _ _=>ReflectliteType.toType a):=⟨_,Tryz.func167,by kernel_rfl,by kernel_rfl,by kernel_rfl,by kernel_rfl⟩
def abI(C)(a):(ReflectliteValue.methodAny (ReflectliteValue.valueError "reflectlite.Value.Type" 0) (λb _ _ _=>ReflectliteType.toType b) #[ku fW C 150]).run V a=.ok (mI fW) a:=b0
def S1(C)(b)(T):(ReflectliteValue.methodAny (ReflectliteValue.valueError "reflectlite.Value.Type" 0) (λa _ _ _=>ReflectliteType.toType a) #[ku fW C 150]).events V b T=T:=b0
def J9(b)(d):(Go.method (Tryz.prog.types.size+Made.depth) pE (.agg #[b]) "Kind").run V d=.ok (334,b) d/\∀a,(Go.method (Tryz.prog.types.size+Made.depth) pE (.agg #[b]) "Kind").events V d a=a:=⟨by kernel_rfl,λa=>by kernel_rfl⟩
def M_:ju V 334 (ReflectliteType.abiMethod λa=>do pure (.int .u8 (<-Rtype.kind a))):=⟨_,Tryz.func334,by kernel_rfl,by kernel_rfl,by kernel_rfl,by kernel_rfl⟩
def abG(a):((ReflectliteType.abiMethod λb=>do pure (.int .u8 (<-Rtype.kind b))) #[aQ fW]).run V a=.ok (.int .u8 22) a:=b0
def S0(b)(T):((ReflectliteType.abiMethod λa=>do pure (.int .u8 (<-Rtype.kind a))) #[aQ fW]).events V b T=T:=b0
def abF(a):((ReflectliteType.abiMethod λb=>do pure (.int .u8 (<-Rtype.kind b))) #[aQ dQ]).run V a=.ok (.int .u8 22) a:=b0
def SZ(b)(T):((ReflectliteType.abiMethod λa=>do pure (.int .u8 (<-Rtype.kind a))) #[aQ dQ]).events V b T=T:=b0
def aeK:ju V 168 (ReflectliteValue.method (ReflectliteValue.valueError "reflectlite.Value.IsNil" 0) ReflectliteValue.isNil):=⟨_,Tryz.func168,by kernel_rfl,by kernel_rfl,by kernel_rfl,by kernel_rfl⟩
def Ly(d)(b:av->Addr->Nat->Nat->Sem Z)(aa):ReflectliteValue.method d b #[aa]=(do match<-ReflectliteValue.parts aa with|none=>d|some (g,e,a)=>b g e a (a % 32)):=rfl
def tn(C)(b):(ReflectliteValue.parts (ku fW C 150)).run V b=.ok (h (fW,⟨C,0,q⟩,150)) b/\∀a,(ReflectliteValue.parts (ku fW C 150)).events V b a=a:=⟨by kernel_rfl,λa=>by kernel_rfl⟩
def abE(C)(j)(b)(g:b.cell? ⟨C,0,q⟩=h (.pointer (h j))):(ReflectliteValue.method (ReflectliteValue.valueError "reflectlite.Value.IsNil" 0) ReflectliteValue.isNil #[ku fW C 150]).run V b=.ok (.bool m) b /\
  ∀a,∀d∈(ReflectliteValue.method (ReflectliteValue.valueError "reflectlite.Value.IsNil" 0) ReflectliteValue.isNil #[ku fW C 150]).events V b a,d∈a∨d=⟨.cell ⟨C,0,q⟩,m,m⟩:=by
 have i:=Tryz.underlying161;rw[Ly];constructor
 .simp only[cI,(tn C b).1,c0];simp[ReflectliteValue.isNil,loadVar,isAgg,underlying,i,g]
 intro a d e;simp only[aH,cI,(tn C b).1,(tn C b).2,c0,aJ]at e;simpa[ReflectliteValue.isNil,loadVar,isAgg,underlying,i,g,show(Mode.plain==Mode.atomic)=m from rfl]using e
def aam(b)(d):(Go.method (Tryz.prog.types.size+Made.depth) pE (.agg #[b]) "Elem").run V d=.ok (350,.agg #[b]) d/\∀a,(Go.method (Tryz.prog.types.size+Made.depth) pE (.agg #[b]) "Elem").events V d a=a:=⟨by kernel_rfl,λa=>by kernel_rfl⟩
def aeH:ju V 350 (ReflectliteType.method ReflectliteType.elem):=⟨_,Tryz.func350,by kernel_rfl,by kernel_rfl,by kernel_rfl,by kernel_rfl⟩
def abB(a):(ReflectliteType.method ReflectliteType.elem #[.agg #[aQ fW]]).run V a=.ok (mI dQ) a:=b0
def SW(a)(T):(ReflectliteType.method ReflectliteType.elem #[.agg #[aQ fW]]).events V a T=T:=b0
def aan(b)(d):(Go.method (Tryz.prog.types.size+Made.depth) pE (.agg #[b]) "Implements").run V d=.ok (351,.agg #[b]) d/\∀a,(Go.method (Tryz.prog.types.size+Made.depth) pE (.agg #[b]) "Implements").events V d a=a:=⟨by kernel_rfl,λa=>by kernel_rfl⟩
def aeJ:ju V 351 (ReflectliteType.relation "Implements" ReflectliteType.implements_):=⟨_,Tryz.func351,by kernel_rfl,by kernel_rfl,by kernel_rfl,by kernel_rfl⟩
def abD(a):(ReflectliteType.relation "Implements" ReflectliteType.implements_ #[.agg #[aQ dQ],mI 156]).run V a=.ok (.bool f) a:=b0
def SY(a)(T):(ReflectliteType.relation "Implements" ReflectliteType.implements_ #[.agg #[aQ dQ],mI 156]).events V a T=T:=b0
def aal(b)(d):(Go.method (Tryz.prog.types.size+Made.depth) pE (.agg #[b]) "AssignableTo").run V d=.ok (348,.agg #[b]) d/\∀a,(Go.method (Tryz.prog.types.size+Made.depth) pE (.agg #[b]) "AssignableTo").events V d a=a:=⟨by kernel_rfl,λa=>by kernel_rfl⟩
def aeC:ju V 348 (ReflectliteType.relation "AssignableTo" ReflectliteType.assignableTo):=⟨_,Tryz.func348,by kernel_rfl,by kernel_rfl,by kernel_rfl,by kernel_rfl⟩
def abA(a):(ReflectliteType.relation "AssignableTo" ReflectliteType.assignableTo #[.agg #[aQ dQ],mI dQ]).run V a=.ok (.bool f) a:=b0
def SV(a)(T):(ReflectliteType.relation "AssignableTo" ReflectliteType.assignableTo #[.agg #[aQ dQ],mI dQ]).events V a T=T:=b0
def aeP:ju V 207 ReflectliteType.typeOf:=⟨_,Tryz.func207,by kernel_rfl,by kernel_rfl,by kernel_rfl,by kernel_rfl⟩
def abJ(aa)(a):(ReflectliteType.typeOf #[.iface dQ aa]).run V a=.ok (mI dQ) a:=b0
def S4(aa)(a)(T):(ReflectliteType.typeOf #[.iface dQ aa]).events V a T=T:=b0
def aeI:ju V 208 (ReflectliteValue.method (ReflectliteValue.valueError "reflectlite.Value.Elem" 0) ReflectliteValue.elem):=⟨_,Tryz.func208,by kernel_rfl,by kernel_rfl,by kernel_rfl,by kernel_rfl⟩
def Lm(b):(Rtype.elem? fW).run V b=.ok (h dQ) b/\∀a,(Rtype.elem? fW).events V b a=a:=⟨by kernel_rfl,λa=>by kernel_rfl⟩
def Ln(b)(d):(ReflectliteValue.mk dQ b ReflectliteValue.flagAddr).run V d=.ok (.agg #[aQ dQ,.pointer (h b),.int .u64 406]) d/\∀a,(ReflectliteValue.mk dQ b ReflectliteValue.flagAddr).events V d a=a:=⟨by kernel_rfl,λa=>by kernel_rfl⟩
def abC(C)(j)(b)(g:b.cell? ⟨C,0,q⟩=h (.pointer (h j))):(ReflectliteValue.method (ReflectliteValue.valueError "reflectlite.Value.Elem" 0) ReflectliteValue.elem #[ku fW C 150]).run V b=.ok (.agg #[aQ dQ,.pointer (h j),.int .u64 406]) b /\
  ∀a,∀d∈(ReflectliteValue.method (ReflectliteValue.valueError "reflectlite.Value.Elem" 0) ReflectliteValue.elem #[ku fW C 150]).events V b a,d∈a∨d=⟨.cell ⟨C,0,q⟩,m,m⟩:=by
 have i:=Tryz.underlying161;rw[Ly];constructor
 .simp only[cI,(tn C b).1,c0];simp[ReflectliteValue.elem,loadVar,isAgg,underlying,i,g,Lm,Ln]
 intro a d e;simp only[aH,cI,(tn C b).1,(tn C b).2,c0,aJ]at e;simpa[ReflectliteValue.elem,loadVar,isAgg,underlying,i,g,Lm,Ln,show(Mode.plain==Mode.atomic)=m from rfl]using e
def aeN:ju V 209 ReflectliteValue.set:=⟨_,Tryz.func209,by kernel_rfl,by kernel_rfl,by kernel_rfl,by kernel_rfl⟩
def abQ(aa l):ReflectliteValue.set #[aa,l]=(do
  let (h (s,b,XY),h (a,j,_)):=(<-ReflectliteValue.parts aa,<-ReflectliteValue.parts l)
   |unsupported (.noEntry "extern/(internal/reflectlite.Value).Set.zeroValue")
  if XY / ReflectliteValue.flagAddr % 2==0 then unsupported (.noEntry "extern/(internal/reflectlite.Value).Set.unaddressable")
  let val<-loadVar a j
  if<-Rtype.directlyAssignable s a then storeVar s b val
  else if<-Rtype.implements s a then
   if(<-Rtype.kind a)==20 then
    match val with
    |.nilIface=>unsupported (.noEntry "extern/reflectlite: a nil value of one interface type handed on as a value of another")
    |_=>storeVar s b val
   else storeVar s b (.iface a val)
  else panicString ("reflectlite.Set: value of type "++(<-Rtype.spelt a)++ " is not assignable to type "++(<-Rtype.spelt s))
  pure (.tuple #[])):=rfl
def DE(b)(d):(ReflectliteValue.parts (.agg #[aQ dQ,.pointer (h b),.int .u64 406])).run V d=.ok (h (dQ,b,406)) d/\∀a,(ReflectliteValue.parts (.agg #[aQ dQ,.pointer (h b),.int .u64 406])).events V d a=a:=⟨by kernel_rfl,λa=>by kernel_rfl⟩
def DF(C)(b):(ReflectliteValue.parts (ku dQ C 150)).run V b=.ok (h (dQ,⟨C,0,q⟩,150)) b/\∀a,(ReflectliteValue.parts (ku dQ C 150)).events V b a=a:=⟨by kernel_rfl,λa=>by kernel_rfl⟩
def Ll(b):(Rtype.directlyAssignable dQ dQ).run V b=.ok f b/\∀a,(Rtype.directlyAssignable dQ dQ).events V b a=a:=⟨by kernel_rfl,λa=>by kernel_rfl⟩
def Lo(b):(sizeOf dQ).run V b=.ok 1 b/\∀a,(sizeOf dQ).events V b a=a:=⟨by kernel_rfl,λa=>by kernel_rfl⟩
def abH(C j)(W)(g)(e)(b)(r:b.heap[C]?=h (.cells #[g] W (0,0)))(p:b.cell? ⟨j,0,q⟩=h (.pointer (h e))):
  (ReflectliteValue.set #[.agg #[aQ dQ,.pointer (h ⟨C,0,q⟩),.int .u64 406],ku dQ j 150]).run V b=.ok (.tuple #[]) (b.setRow C #[.pointer (h e)]) /\
  ∀d,∀i∈(ReflectliteValue.set #[.agg #[aQ dQ,.pointer (h ⟨C,0,q⟩),.int .u64 406],ku dQ j 150]).events V b d,i∈d∨i=⟨.cell ⟨j,0,q⟩,m,m⟩∨i=⟨.cell ⟨C,0,q⟩,f,m⟩:=by
 have o:=Tryz.underlying159;have l:∀b∈[Value.pointer (h e)],b.oneCell'=f:=λb v=>by simp at v;exact bJ
 have u:=run_storeCells_at V C 0 W [.pointer (h e)] 0 #[g] b r E l;have k:(storeCells ⟨C,0,q⟩ [.pointer (h e)] 0).run V b=.ok () (b.setRow C #[.pointer (h e)]):=u;rw[abQ];constructor
 .simp only[cI,(DE ⟨C,0,q⟩ b).1,(DF j b).1,c0];simp[ReflectliteValue.flagAddr,loadVar,isAgg,underlying,o,p,Ll,storeVar,Value.cells,Lo,k]
 intro d i n;simp only[aH,cI,(DE ⟨C,0,q⟩ b).1,(DE ⟨C,0,q⟩ b).2,(DF j b).1,(DF j b).2,c0,aJ]at n;have s:i∈(storeCells ⟨C,0,q⟩ [.pointer (h e)] 0).events V b (d.push ⟨.cell ⟨j,0,q⟩,m,m⟩):=by simpa[ReflectliteValue.flagAddr,loadVar,isAgg,underlying,o,p,Ll,storeVar,Value.cells,Lo,k,show(Mode.plain==Mode.atomic)=m from a]using n
 rcases nc [.pointer (h e)] 0 #[g] b _ r E l i s with w|⟨t,y,x,rfl⟩
 .grind
 obtain rfl:t=0:=M;exact .inr (.inr a)
end
section
open Go.Proofs Go.Extern
variable {r:ai V}
abbrev Ab:an:=.J (eb 0 205 (mI 156))
abbrev n8(a:Z):z:=ax (.val a)
abbrev xO(d:av)(b:Nat)(a:Int):z:=.q (.agg [.c (.val (aQ d)),.c (.val (.pointer (h ⟨b,0,q⟩))),.c (.val (.int .u64 a))])
abbrev Gd(d:Addr)(a b:Nat):p an:=[.J (eb b fW (.pointer (h ⟨a,0,q⟩))),.J (eb a dQ (.pointer q))]
def I9:∀a,a<2->([0,1]:p Nat)[a]?=h a:=b'
def Tl(b)(C j):Y r 169 [n8 (.iface dQ (.pointer (h b))),n8 (.iface fW (.pointer (h ⟨C,0,q⟩))),xO fW j 150,n8 (mI dQ)] (Gd b C j) (bi f) [.J (eb j fW (.pointer (h ⟨C,0,q⟩))),.J (eb C dQ (.pointer (h b)))]:=by refine Y.K Tryz.func169 rfl λo=>?_;refine aZ a v ?_;refine g.dF 3 [0,1,3,6] (λ_:Unit=>True) (λ_=>[]) (λ_=>Gd b C j++[.cells 202 [.c (.val (aQ fW)),.c (.val (.pointer (h ⟨j,0,q⟩))),.c (.val (.int .u64 150))]]) (λ_=>0) () a E a E a v λ_ _=>?_;refine aZ a v ?_;refine g.c8 a a (ev.ec (hX.d_ a a) aeP (abJ _) (S4 _) (l:=n8 (mI dQ)) λ_=>Rd.val a) λ_=>?_;refine aZ a v ?_;refine g.c8 a a (ev.ec (hX.invoke a a a (aal _)) aeC abA SV (l:=bi f) λ_=>Rd.bool) λ_=>?_;refine a6 [(19,f)] a E ?_;refine g.c8 a a (ev.g6 0 (bz:=.pointer (h ⟨C,0,q⟩)) a (hX.d_ a a) aeI (λe i=>abC j ⟨C,0,q⟩ e i) (l:=xO dQ C 406) λ_=>⟨_,a,Rd.val a,Rd.val a,Rd.val a,v⟩) λ_=>?_;refine aZ a v ?_;refine g.c8 a a (ev.g4 (W:=dQ) (bz:=.pointer (h b)) (aa:=λd=>ku dQ d 150) (l:=λd=>xO dQ d 150) (hX.d_ a a) M' (abK b) (S5 b) λd _ _=>⟨_,a,Rd.val a,Rd.val a,Rd.val a,v⟩) λd=>?_;refine aZ a v ?_;refine g.c8 a a (ev.iN 1 3 (Ex:=.pointer q) (bz:=.pointer (h b)) a a (hX.d_ a a) aeN (λe n k=>abH C d dQ _ b e n k) (l:=.Q []) λ_ _=>⟨[],a,v⟩) λ_=>?_;refine aZ a v (g.aX (bT.mk [0,1] a ?_ a a a I9));simp
def M1{ad}(u:t.op=.binOp op o l X ty){s}{cp}(k:P.underlying o=h (.interface cp))(w:η l=ax (.val (.iface ad aa)))(v:η X=ax .bo)(x:∀Q,(eqGuard op o l X (.iface ad aa) .nilIface).run P Q=.ok () Q)(ae:∀Q a,(eqGuard op o l X (.iface ad aa) .nilIface).events P Q a=a)(d:h6 op m=h s):a0 P t η n (ax (.bool s)) n:=by
 refine .aZ λb p A r=>?_;have g:=r l;have e:=r X;rw[w]at g;rw[v]at e;replace g:=b6 g;replace e:=b6 e;generalize j:p l=y at g;generalize I:p X=z at e;cases g;cases e;have i:(Op.equal o (.iface ad aa) .nilIface).run P b.a=.ok m b.a:=Qn;have C:∀a,(Op.equal o (.iface ad aa) .nilIface).events P b.a a=a:=λa=>by show(aR (9999+1) o _ _).events P b.a a=a;unfold aR;simp[underlying,k]
 cases op<;>simp only[h6,reduceCtorEq,eR]at d
 .exact Qd
 exact PH
def Tk(e)(C):Y r 118 [n8 (.iface dQ (.pointer (h e))),n8 (.iface fW (.pointer (h ⟨C,0,q⟩)))] [Ab,.J (eb C dQ (.pointer q))] (bi f) [Ab,.J (eb C dQ (.pointer (h e)))]:=by refine Y.K Tryz.func118 rfl λk=>?_;refine aZ a v ?_;refine g.aP (M1 a Tryz.underlying156 a a bl (λ_ _=>rfl) a) a a ?_;refine a6 [(9,m)] a E ?_;refine g.aP (M1 a Tryz.underlying20 a a bl (λ_ _=>rfl) a) a a ?_;refine a6 [(11,m)] a E ?_;refine g.c8 a a (ev.g4 (W:=fW) (bz:=.pointer (h ⟨C,0,q⟩)) (aa:=λd=>ku fW d 150) (l:=λd=>xO fW d 150) (hX.d_ a a) M' (abL _) (S6 _) λd _ _=>⟨_,a,Rd.val a,Rd.val a,Rd.val a,v⟩) λb=>?_;refine aZ a v ?_;refine g.c8 a a (ev.ec (hX.d_ a a) aeO (abI b) (S1 b) (l:=n8 (mI fW)) λ_=>Rd.val a) λ_=>?_;refine aZ a v ?_;refine g.c8 a a (ev.ec (hX.invoke a a a (J9 _)) M_ abG S0 (l:=ax (.int .u8 22)) λ_=>Rd.int lu) λ_=>?_;refine a6 [(20,m)] a E ?_;refine g.c8 a a (ev.g6 2 (bz:=.pointer (h ⟨C,0,q⟩)) a (hX.d_ a a) aeK (λj i=>abE b ⟨C,0,q⟩ j i) (l:=bi m) λ_=>Rd.bool) λ_=>?_;refine a6 [(23,m)] a E ?_;refine g.c8 a a (ev.ec (hX.invoke a a a (aam _)) aeH abB SW (l:=n8 (mI dQ)) λ_=>Rd.val a) λ_=>?_;refine aZ a v ?_;refine g.c8 a a (ev.ec (hX.invoke a a a (J9 _)) M_ abF SZ (l:=ax (.int .u8 22)) λ_=>Rd.int lu) λ_=>?_;refine a6 [(30,f)] a E ?_;refine g.aq (aT.gp bd 0 a a a a a a) a ?_;refine g.c8 a a (ev.ec (hX.invoke a a a (aan _)) aeJ abD SY (l:=bi f) λ_=>Rd.bool) λ_=>?_;refine a6 [(35,m)] a E ?_;refine g.aF (Tl e C b) [2,1] a ?_;refine aZ a v (g.aS [0,1] a ?_ I9);simp
end
end R1
abbrev zj(a b:bE)(d:Bool):z:=.Q [.aq (.c (.V a)),.aq (.c (.V b)),.aq (.c (.bool d))]
namespace R1
variable {r:ai V}
def UW(b)(s)(d:0<=s/\s<=255):Y r 237 [bZ b,uT s] [] (S (Lib.indexByte b (UInt8.ofNat (Int.toNat s)))) []:=by
 have a:s=((UInt8.ofNat s.toNat).toNat:Int):=by grind[UInt8.toNat_ofNat']
 grind[UV]
def A6:bK:=λargs b=>match args,b with
 |[.q (.aq (.c (.V d))),.q (.aq (.c (.int .u8 a)))],[]=>h (S (Lib.indexByte d (UInt8.ofNat (Int.toNat a))),[],[0<=a/\a<=255])
 |_,_=>q
def ac8:bL r 237 A6:=by
 intro args j e g d a b;unfold A6 at a;split at a
 .cases a;exact(UW _ _ (b)).args (λ_ _ i=>i)
 cases a
def HF:p (Nat×bK):=(237,A6)::HS
def BJ:a8 r HF:=a8.cons ac8 (Sz)
def is(a:bE):Int:=Lib.indexByte a 47
theorem UU(b):Y r 191 [bZ b,bZ [47]] [] (S (is b)) []:=by
 refine Y.K func191 rfl λe=>?_;by_cases d:b=[47]
 .subst d;refine a_ BJ [(18,m),(22,f)] a E (g.aw a ?_);exact cQ
 refine a_ BJ [(18,m),(22,m),(26,f)] a ?_ (g.aw a ?_)
 .simp[ka,dj];grind
 exact cQ
def A5:bK:=λargs a=>match args,a with
 |[.q (.aq (.c (.V b))),.q (.aq (.c (.V [47])))],[]=>h (S (is b),[],[])
 |_,_=>q
def ac6:bL r 191 A5:=by intro args i b d a e g;unfold A5 at e;grind[UU]
def HG:p (Nat×bK):=(191,A5)::HF
def BK:a8 r HG:=a8.cons ac6 (BJ)
def jI(a:bE):bE:=if 0<=is a then a.take (is a).toNat else a
def mq(a:bE):bE:=if 0<=is a then a.drop ((is a).toNat+1)else[]
def kf(a:bE):Bool:=decide (0<=is a)
theorem TY(b):Y r 146 [bZ b,bZ [47]] [] (zj (jI b) (mq b) (kf b)) []:=by
 refine Y.K func146 rfl λi=>?_;have j:=i.V 0 a;have e:=yp b 47;change is b<c b∨is b=-1 at e;by_cases d:0<=is b
 .have s:(is b+1).toNat=(is b).toNat+1:=y;refine a_ BK [(12,f)] a ?_ (g.aw a ?_)
  .simp[d,a7];omega
  simp[jI,mq,kf,d,mo,s]
 refine a_ BK [(12,m)] a bX (g.aw a ?_);simp[jI,mq,kf,d]
def A4:bK:=λargs b=>match args,b with
 |[.q (.aq (.c (.V a))),.q (.aq (.c (.V [47])))],[]=>h (zj (jI a) (mq a) (kf a),[],[])
 |_,_=>q
def ac5:bL r 146 A4:=by intro args i b d a e g;unfold A4 at e;grind[TY]
def HH:p (Nat×bK):=(146,A4)::HG
def Hy:a8 r HH:=a8.cons ac5 (BK)
theorem TX(b):Y r 110 [bZ b,bZ [47]] [] (zj (jI b) (mq b) (kf b)) []:=by refine Y.K func110 rfl λd=>?_;exact b_ Hy a v (g.aw a)
def AZ:bK:=λargs b=>match args,b with
 |[.q (.aq (.c (.V a))),.q (.aq (.c (.V [47])))],[]=>h (zj (jI a) (mq a) (kf a),[],[])
 |_,_=>q
def ac0:bL r 110 AZ:=by intro args i b d a e g;unfold AZ at e;grind[TX]
def jL(a:bE):Bool:=decide (c a=1)&&decide (97<=dj a 0)&&decide (dj a 0<=101)
theorem Ul(b):Y r 111 [bZ b] [] (bi (jL b)) []:=by
 refine Y.K func111 rfl λe=>?_;by_cases d:c b=1
 .by_cases j:97<=dj b 0
  .refine a6 [(5,f),(9,f)] a hp (g.aw a ?_);show decide (dj b 0<=101)=jL b;simp[jL,d,j]
  refine a6 [(5,f),(9,m)] a cQ (g.aw a ?_);simp[jL,j]
 refine a6 [(5,m)] a bX (g.aw a ?_);simp[jL,d]
def A0:bK:=λargs a=>match args,a with
 |[.q (.aq (.c (.V b)))],[]=>h (bi (jL b),[],[])
 |_,_=>q
def ac1:bL r 111 A0:=by intro args i b d a e g;unfold A0 at e;grind[Ul]
def HI:p (Nat×bK):=(110,AZ)::(111,A0)::HH
def xy:a8 r HI:=a8.cons ac0 (a8.cons ac1 (Hy))
def jQ(a:bE):Bool:=jL (jI a)&&(!kf a||jL (mq a))
theorem Wr(b):Y r 71 [bZ b] [] (bi (jQ b)) []:=by
 refine Y.K func71 rfl λe=>?_;cases x:jL (jI b)with
 |false=>
  refine a_ xy [(13,m)] a oM (g.aw a ?_);simp[jQ,x]
 |true=>
  cases d:kf b with
  |false=>
   refine a_ xy [(13,f),(15,m)] a dA (g.aw a ?_);simp[jQ,x,d]
  |true=>
   refine a_ xy [(13,f),(15,f)] a dA (g.aw a ?_);simp[jQ,x,d]
def Bd:bK:=λargs a=>match args,a with
 |[.q (.aq (.c (.V b)))],[]=>h (bi (jQ b),[],[])
 |_,_=>q
def adf:bL r 71 Bd:=by intro args i b d a e g;unfold Bd at e;grind[Wr]
theorem Vs(b):Y r 112 [bZ b] [] (bi (dZ b)) []:=by
 refine Y.K func112 rfl λe=>?_;have n:=e.V 0 a;refine aZ a v (g.ca (λd=>d<=c b/\∀w,w<d->jl (b.getD w 0)=f) (λd:Nat=>[(0,bZ b),(5,S (c b)),(6,S d)]) (λ_=>[]) (λd=>c b-d) 0 a E a v ⟨by omega,by omega⟩ ?_);rintro d ⟨i,s⟩;by_cases u:d<c b
 .generalize x:b.getD d 0=j;by_cases l:j.toNat<97
  .refine a6 [(7,f),(12,f)] a ?_ (g.bX (bT.zero a ?_))
   .simp only[U,xg,bA,x];omega
   exact zH
  by_cases k:j.toNat>122
  .refine a6 [(7,f),(12,m),(17,f)] a PX (g.bX (bT.zero a ?_));exact zH
  refine a6 [(7,f),(12,m),(17,m)] a NT (g.b5 (d+1) a E a v ?_ ?_)
  .refine⟨by omega,λw I=>?_⟩;rcases Ar.1 I with I|rfl
   .grind
   rw[x];simp only[jl,cF,bA];omega
  omega
 exact Og
def A1:bK:=λargs a=>match args,a with
 |[.q (.aq (.c (.V b)))],[]=>h (bi (dZ b),[],[])
 |_,_=>q
def ac2:bL r 112 A1:=by intro args i b d a e g;unfold A1 at e;grind[Vs]
def HJ:p (Nat×bK):=(71,Bd)::(112,A1)::HI
def BL:a8 r HJ:=a8.cons adf (a8.cons ac2 (xy))
theorem IV(b):Y r 72 [bZ b] [] (bi (fC b)) []:=by
 refine Y.K func72 rfl λe=>?_;by_cases d:c b<=40
 .refine a_ BL [(5,f)] a bX (g.aw a ?_);simp[fC,d]
 refine a_ BL [(5,m)] a bX (g.aw a ?_);simp[fC,d]
def Be:bK:=λargs a=>match args,a with
 |[.q (.aq (.c (.V b)))],[]=>h (bi (fC b),[],[])
 |_,_=>q
def adg:bL r 72 Be:=by intro args i b d a e g;unfold Be at e;grind[IV]
def oh(b a:bE):Bool:=decide (c a<=c b)&&(b.take (c a)==a)
theorem Uy(b d):Y r 114 [bZ b,bZ d] [] (bi (oh b d)) []:=by
 refine Y.K func114 rfl λe=>?_;by_cases x:c d<=c b
 .refine a6 [(9,f)] a oM (g.aw a ?_);simp[oh,x,mo]
 refine a6 [(9,m)] a bX (g.aw a ?_);simp[oh,x]
def A3:bK:=λargs a=>match args,a with
 |[.q (.aq (.c (.V b))),.q (.aq (.c (.V d)))],[]=>h (bi (oh b d),[],[])
 |_,_=>q
def ac4:bL r 114 A3:=by intro args i b d a e g;unfold A3 at e;grind[Uy]
def HK:p (Nat×bK):=(72,Be)::(114,A3)::HJ
def Hz:a8 r HK:=a8.cons adg (a8.cons ac4 (BL))
theorem Ux(b d):Y r 75 [bZ b,bZ d] [] (bi (oh b d)) []:=by refine Y.K func75 rfl λe=>?_;exact b_ Hz a v (g.aw a)
def Bh:bK:=λargs a=>match args,a with
 |[.q (.aq (.c (.V b))),.q (.aq (.c (.V d)))],[]=>h (bi (oh b d),[],[])
 |_,_=>q
def adj:bL r 75 Bh:=by intro args i b d a e g;unfold Bh at e;grind[Ux]
def HL:p (Nat×bK):=(75,Bh)::HK
def HA:a8 r HL:=a8.cons adj (Hz)
end R1
def cY.jv(a:cY α)(d)(i k)(l:i+k<=c d):a.af k (fw i (a.fn d))=(d.drop i).take k:=by
 apply rf
 .simp[cY.af];omega
 intro b e g;have j:b<k:=M;simp[cY.af,fw,cY.fn,gr,al,bI (by omega:i+b<c d),a.inv]
def cY.iT(a:cY α)(d){i}:a.bW k (fw i (a.fn d)):=λb _=>by simp[fw,cY.fn,gr,a.inv]
abbrev SL(a b:bE):z:=ax (.O [.V a,.V b])
namespace R1
variable {r:ai V}
def under(a b:bE):Bool:=oh a (b++[47])
def Xw(b)(d l)(i:c b.1<=4000000):Y r 74 [xL b,SL d l] [] (bi (under d b.1)) []:=by refine Y.K func74 rfl λe=>?_;refine b_ HA a bX (g.aw a ?_);exact cQ
def Bg:bK:=λargs e=>match args,e with
 |[.q (.agg [.c (.V a),.c (.V b)]),.q (.aq (.c (.O [.V g,.V d])))],[]=>h (bi (under g a),[],[c a<=4000000/\b=b/\d=d])
 |_,_=>q
def adi:bL r 74 Bg:=by
 intro args n e g d a b;unfold Bg at a;split at a
 .rename_i j i k l;cases a;exact Xw (j,i) k l b.1
 grind
def HM:p (Nat×bK):=(74,Bg)::HL
def sJ:a8 r HM:=a8.cons adi (HA)
abbrev BU(a b:bE):z:=ax (.fn (.func 74) [] [.O [.V a,.V b]])
def mz(e:p c')(d:bE):Int:=match e.findIdx? (λa=>under d a.1)with|some b=>b|none=>-1
def ZR{o}{a}(g:e<c o)(j:under a (cl o e)=f)(i:∀b,b<e->under a (cl o b)=m):mz o a=e:=by
 have:o.findIdx? (λd=>under a d.1)=h e:=by grind[List.findIdx?_eq_some_iff_getElem,o9]
 rw[mz,this]
theorem JJ{o}{a}(e:∀b,b<c o->under a (cl o b)=m):mz o a=-1:=by
 have:o.findIdx? (λd=>under a d.1)=q:=by grind[List.getElem_of_mem,o9]
 rw[mz,this]
def UR(o)(e l)(p:∀d,d<c o->c (cl o d)<=4000000):Y r 113 [bD.S o,BU e l] [] (S (mz o e)) []:=by
 refine Y.K func113 rfl λn=>?_;have t:=n.S 0 a;refine b_ sJ a v (g.ca (λb=>b<=c o/\∀d,d<b->under e (cl o d)=m) (λb:Nat=>[(0,bD.S o),(1,BU e l),(7,S (c o)),(8,S b)]) (λ_=>[]) (λb=>c o-b) 0 a E a v ⟨by omega,by omega⟩ ?_);rintro b ⟨s,k⟩;by_cases i:b<c o
 .have u:=p b i;cases j:under e (cl o b)with
  |true=>
   refine a_ sJ [(9,f),(16,f)] a ?_ (g.bX (bT.zero a ?_))
   .simp[-al,i,ko,j];omega
   simp[ZR i j k]
  |false=>
   refine a_ sJ [(9,f),(16,m)] a ?_ (g.b5 (b+1) a ?_ a v ?_ ?_)
   .simp[-al,i,ko,j,a7];omega
   .simp
   .grind
   omega
 refine a_ sJ [(9,m)] a bX (g.bt a a ?_);refine b_ sJ a v (g.aw a ?_);simp[JJ (λd w=>k d y)]
def y7(b:p c'):Prop:=∀a,a<c b->c (cl b a)<=4000000
def A2:bK:=λargs e=>match args,e with
 |[g,.q (.aq (.c (.fn (.func 74) [] [.O [.V i,.V d]])))],[]=>match jU 2 g with
  |none=>q
  |some (b,a)=>h (S (mz (bD.af b a) i),[],[bD.bW b a,y7 (bD.af b a),d=d])
 |_,_=>q
def ac3:bL r 113 A2:=by
 intro args o i j g a b;unfold A2 at a;split at a
 .rename_i p n l;split at a
  .cases a
  rename_i s k d;cases a;exact(UR _ n l b.2.1).args (λ_ B=>b4.imp (λ_=>bD.cC d b.1) (b4.imp (λ_ e=>e) (λ_ e=>e)) B)
 grind
def HN:p (Nat×bK):=(113,A2)::HM
def HB:a8 r HN:=a8.cons ac3 (sJ)
def Ti(o)(b l)(d:y7 o):Y r 73 [bD.S o,BU b l] [] (bi (decide (0<=mz o b))) []:=by
 refine Y.K func73 rfl λe=>?_;refine b_ HB a ?_ (g.aw a ?_)
 .simp[bD.U,bD.E,d]
 simp[bD.E]
def Bf:bK:=λargs e=>match args,e with
 |[g,.q (.aq (.c (.fn (.func 74) [] [.O [.V i,.V d]])))],[]=>match jU 2 g with
  |none=>q
  |some (b,a)=>h (bi (decide (0<=mz (bD.af b a) i)),[],[bD.bW b a,y7 (bD.af b a),d=d])
 |_,_=>q
def adh:bL r 73 Bf:=by
 intro args o i j g a b;unfold Bf at a;split at a
 .rename_i p n l;split at a
  .cases a
  rename_i s k d;cases a;exact(Ti _ n l b.2.1).args (λ_ B=>b4.imp (λ_=>bD.cC d b.1) (b4.imp (λ_ e=>e) (λ_ e=>e)) B)
 grind
def SD:p (Nat×bK):=(73,Bf)::HN
def n7:a8 r SD:=a8.cons adh (HB)
def mO(b:p c')(a:Nat):Bool:=
 jQ (cl b a)&&fC (lr b a)&&(a==0||!(aW (cl b a) (cl b (a-1))||cl b a==cl b (a-1)))&&(aD a).all λd=>!under (cl b a) (cl b d)
def qO(a:p c'):Bool:=(aD (c a)).all (mO a)&&decide (c a<=6)
def zo{o}(b:e<c o)(d:mO o e=m):qO o=m:=by
 cases a:qO o with
 |false=>rfl
 |true=>
  simp[qO,cF]at a;grind
theorem KR{b}(g:jQ b=f):c b<=3:=by
 simp[jQ,jL,cF,jz,bA,j5]at g;obtain⟨⟨⟨e,_⟩,_⟩,a⟩:=g;have i:=yp b 47;change is b<c b∨is b=-1 at i;by_cases d:0<=is b
 .simp only[jI,d,dH,List.length_take]at e;rcases a with a|a
  .simp[kf,d]at a
  have:=a.1.1;simp[mq,d,dH,sk]at this;omega
 simp[jI,d,dh]at e;omega
def ZS{o}{R}(l:e<=c o):decide (0<=mz (o.take e) R)=!(aD e).all λa=>!under R (cl o a):=by
 have n:∀a,a<e->cl (o.take e) a=cl o a:=by intro a d;simp[cl,al,d]
 cases r:(aD e).all λa=>!under R (cl o a)with
 |true=>
  grind[JJ]
 |false=>
  have j:∃a,a<e/\under R (cl o a)=f:=M;have:∃g:Nat,mz (o.take e) R=g:=by
   unfold mz;cases b:(o.take e).findIdx? (λk=>under R k.1)with
   |some g=>grind
   |none=>
    obtain⟨a,d,p⟩:=j;rw[List.findIdx?_eq_none_iff]at b;have i:a<c (o.take e):=M;have:=b _ (wR i);grind[o9]
  grind
def IX(o):Y r 39 [bD.S o] [] (bi (qO o)) []:=by
 refine Y.K func39 rfl λB=>?_;have D:=B.S 0 a;refine b_ n7 a v (g.aN 0 (λe=>e<=c o/\∀b,b<e->mO o b=f) (λe:Nat=>[(0,bD.S o),(5,bD.S o),(6,S (c o)),(7,S e)]) (λ_=>[]) (λe=>c o-e) 0 a E a v a ⟨by omega,by omega⟩ ?_);rintro e ⟨l,w⟩;by_cases i:e<c o
 .cases I:jQ (cl o e)with
  |false=>
   refine bf n7 [(8,f),(14,m)] a ?_ (g.aX (bT.zero a ?_))
   .simp[-al,i,ko,I]
   simp[U,zo i (by simp[mO,I])]
  |true=>
   cases ae:fC (lr o e)with
   |false=>
    refine bf n7 [(8,f),(14,f),(19,m)] a ?_ (g.aX (bT.zero a ?_))
    .simp[-al,i,ko,tK,I,ae]
    simp[U,zo i (by simp[mO,ae])]
   |true=>
    have J:y7 (o.take e):=by
     intro b C;simp[List.length_take]at C;have u:cl (o.take e) b=cl o b:=by simp[cl,al,(by omega:b<e)]
     rw[u];have:=w b y;simp[mO,cF]at this;grind[KR]
    have F:bD.af ((e:Int).toNat-0) (fw 0 (bD.fn o))=o.take e:=by rw[bD.jv o 0 _ M];simp
    cases p:(e==0||!(aW (cl o e) (cl o (e-1))||cl o e==cl o (e-1)))with
    |false=>
     have k:mO o e=m:=by simp only[mO,p];simp
     have A:e≠0:=M;have t:(aW (cl o e) (cl o (e-1))||cl o e==cl o (e-1))=f:=M;have j:a7 .i64 ((e:Int)-1):=cQ;have d:((e:Int)-1).toNat=e-1:=y;refine bf n7 [(8,f),(14,f),(19,f),(24,f),(34,f)] a Oy (g.aX (bT.zero a ?_));simp[zo i k]
    |true=>
     have k:mO o e=(aD e).all λb=>!under (cl o e) (cl o b):=by simp only[mO,p,I,ae];simp
     apply g.cj [(0,bD.S o),(3,S e),(5,bD.S o),(6,S (c o)),(7,S e),(4,aG 0 0)] [.cells 46 [.c (.V (cl o e)),.c (.V (lr o e))]]
     .intro b1;by_cases A:e=0
      .refine bf n7 [(8,f),(14,f),(19,f),(24,m),(1000006,f)] a ?_ (b1 _ _ a ?_)
       .simp only[U,ko,tK,c1,I,ae,bA,dt];grind
       simp
      have t:(aW (cl o e) (cl o (e-1))||cl o e==cl o (e-1))=m:=M;have j:a7 .i64 ((e:Int)-1):=cQ;have d:((e:Int)-1).toNat=e-1:=y;refine bf n7 [(8,f),(14,f),(19,f),(24,f),(34,m),(1000006,f)] a Oy (b1 _ _ a ?_);simp
     refine g.freeze 4 0 a a a ?_;have n:=ZS (o:=o) (R:=cl o e) (e:=e) l;have x:bD.bW ((e:Int).toNat-0) (fw 0 (bD.fn o)):=bD.iT o;cases s:(aD e).all λb=>!under (cl o e) (cl o b)with
     |false=>
      rw[s]at n k;refine bf n7 [(41,f)] a ?_ (g.aX (bT.zero a ?_))
      .simp only[U,bS];grind
      simp[zo i k]
     |true=>
      rw[s]at n k;refine bf n7 [(41,m)] a ?_ (g.aB (e+1) a ?_ ?_ ?_ ?_)
      .simp only[U,bS];have z:decide (0<=mz (bD.af ((e:Int).toNat-0) (fw 0 (bD.fn o))) (cl o e))=m:=M;exact⟨by exact cQ,x,by grind,v,z,by omega,by omega⟩
      .simp
      .trivial
      .grind
      omega
 have:e=c o:=y;subst this;refine a_ n7 [(8,m)] a E (g.aD ?_);refine b_ n7 a v (g.aw a ?_);simp only[U,qO];grind
def rl:bK:=λargs d=>match args,d with
 |[e],[]=>match jU 2 e with
  |none=>q
  |some (a,b)=>h (bi (qO (bD.af a b)),[],[bD.bW a b])
 |_,_=>q
def vZ:bL r 39 rl:=by
 intro args k e g d a b;unfold rl at a;split at a
 .split at a
  .cases a
  rename_i l n i;cases a;exact(IX _ ).args (λ_ B=>b4.imp (λ_=>bD.cC i b) (λ_ j=>j) B)
 grind
end R1
def b4.al{n ao}{b}(g:∀i(e:z),bx n b i e->bx ao b i e):∀{B:p Z}{d:p z},b4 n b B d->b4 ao b B d
 |[],[],_=>trivial
 |[],_::_,a=>a.elim
 |_::_,[],a=>a.elim
 |_::_,_::_,a=>⟨g _ _ a.1,b4.al g a.2⟩
def Y.eD{r:ai P}{s}{args a}{d}{res}(t:Y r s args n res ao)(C:∀b B,b4 n b B a->b4 n b B args)(z:jk d n=h ab)(A:U ab):Y r s a d res ao:=
 ⟨t.1,λb B o e u g l=>by obtain⟨j,k,D⟩:=jN z A b e;exact t.2 b B (C b B (o.al D)) j u g λi E p v w x y=>l i E p v w x ((k.tooU e).trans y)⟩
def aT.dS{j:ai P}{l}(s:dx (ι:=Unit) j D all t F n (λ_=>l) (λ_=>ao)):aT j D all t F n l ao:=
 λw o r g p v b k u a e i d=>s w o r g p v b k u a e i λ_=>d
namespace R1
variable {r:ai V}
abbrev jo(a:p (Int×Int)):an:=.r 222 2 (c a) (a2.fn a)
abbrev mN(a:p (Int×Int)):z:=.q (.aq (.r 0 2 (c a) (a2.fn a)))
def J8(L:p (Int×Int))(a b d:an)(e g i _:Bool):p an:=match i with
 |true=>[d]
 |false=>match g with
  |true=>[b]
  |false=>match e with
   |true=>[a]
   |false=>[jo L]
def Cc:∀o(d:p (Int×Int)),c d+c o.af<=4000000->Y r 202 [ax (eG o),mN d] [jo d] (mN (d++o.af)) [jo (d++o.af)]
 |.nil,d,_=>by refine Y.K func202 rfl λC=>?_;refine aZ a v (g.aP (rM a underlying244 a a a) a a ?_);refine aZ a v ?_;rw[show d++dG.nil.af=d from hY d];exact g.aS [0] a ⟨a,bt.same⟩ sV
 |.ax lt e i b,d,A=>by
  have F:(dG.ax lt e i b).af=lt.af++(e,i)::b.af:=rfl;have K:c d+c lt.af+(c b.af+1)<=4000000:=M;have u:=Cc lt d y;have cc:=Cc b (d++lt.af++[(e,i)]) M;have I:=a2.a0 (d++lt.af) (e,i);have ec:Y r 202 [ax (eG b),.q (.aq (.r 0 2 (c (d++lt.af)+1) (ce (c (d++lt.af)) (a2.fn (d++lt.af)) λk=>([[.int .i64 e,.int .i64 i]]:p (p N)).getD k [])))] [.r 222 2 (c (d++lt.af)+1) (ce (c (d++lt.af)) (a2.fn (d++lt.af)) λk=>([[.int .i64 e,.int .i64 i]]:p (p N)).getD k [])] (mN (d++(dG.ax lt e i b).af)) [jo (d++(dG.ax lt e i b).af)]:=by
   rw[F,show d++(lt.af++(e,i)::b.af)=d++lt.af++[(e,i)]++b.af by simp];refine cc.eD (λQ B O=>?_) a (U.Y.2 ⟨⟨by grind,I⟩,v⟩)
   match B,O with
   |[_,_],⟨J,w,D⟩=>exact⟨J,pg rfl (show U [_,_]from⟨by grind,I⟩) w,D⟩
  have nn:(c (d++lt.af)+1)*oj.bytes<=140737488355328:=by rw[show oj.bytes=16 from a,dm];omega
  clear cc I K A;generalize d++(dG.ax lt e i b).af=n at *;generalize d++lt.af=l at *;have x:a8 r []:=a8.nil;refine Y.K func202 rfl λC=>?_;refine aZ a v (g.aP (tt a underlying244 a a a) a a ?_);refine a6 [(1000003,f)] a v ?_;let t:Nat->z:=λk=>([ax (eG (.ax lt e i b)),ax (eG (.ax lt e i b)),ax (.O [eG b]),ax (eG b),ax (eG (.ax lt e i b)),ax (eG (.ax lt e i b)),ax (.O [eG lt,eG b]),ax (eG lt),mN d,mN l,ax (eG (.ax lt e i b)),ax (eG (.ax lt e i b)),ax (eG (.ax lt e i b)),o6 e i,ax (.S f 2 1 λk=>([[.int .i64 e,.int .i64 i]]:p (p N)).getD k []),.q (.aq (.r 0 2 (c l+1) (ce (c l) (a2.fn l) λk=>([[.int .i64 e,.int .i64 i]]:p (p N)).getD k []))),mN n,mN n]:p z).getD k .any
  cases lt<;>cases b<;>(
   refine g.cx b5 t (mv (J8 d (jo l) (.r 222 2 (c l+1) (ce (c l) (a2.fn l) λk=>([[.int .i64 e,.int .i64 i]]:p (p N)).getD k [])) (jo n)) 9 15 16 17) a a a a ⟨
   .aY,
   .aY,
   .aY,
   .aY,
   .aY,
   .aY,
   .aY,
   .aY,
   .aY,
   cn.ay a a a a a a (aT.dS (dx.bQ u.tocD [0] a a a a E a a a bl a bl)),
   .aY,
   .aY,
   .aY,
   .aY,
   .aY,
   cn.eP a a a a a a (ee (bg:=[]) bd x (ao:=h _) a ⟨rfl,rfl,nn⟩),
   cn.eR a a a a a a (aT.dS (dx.bQ ec.tocD [0] a a a a E a a a bl a bl)),
   cn.eS a a a a a a (aT.y),v⟩ ?_
   intro z j;show g r _ _ _ _ _ (J8 d (jo l) _ (jo n) (z 9) (z 15) (z 16) (z 17));rw[j 9 b',j 15 b',j 16 b',j 17 b']
   exact g.aS [0] a ⟨a,bt.same⟩ sV)
abbrev Kt:z:=ax (.S f 2 0 λ_=>[])
def J7(a b d:an)(e g i _:Bool):p an:=match i with
 |true=>[d]
 |false=>match g with
  |true=>[b]
  |false=>match e with
   |true=>[a]
   |false=>[]
def IA:∀(n:dG),c n.af<=4000000->Y r 202 [ax (eG n),Kt] [] (mN n.af) [jo n.af]
 |.nil,_=>by refine Y.K func202 rfl λC=>?_;refine aZ a v (g.aP (rM a underlying244 a a a) a a ?_);refine aZ a v (g.bP 4 222 2 a a ?_);refine g.ba [jo []] a E ?_;exact g.aS [0] a nK (CC _)
 |.ax lt d e b,w=>by
  have t:(dG.ax lt d e b).af=lt.af++(d,e)::b.af:=rfl;have J:c lt.af+(c b.af+1)<=4000000:=M;have u:=IA lt y;have cc:=Cc (r:=r) b (lt.af++[(d,e)]) M;have I:=a2.a0 lt.af (d,e);have ec:Y r 202 [ax (eG b),.q (.aq (.r 0 2 (c lt.af+1) (ce (c lt.af) (a2.fn lt.af) λi=>([[.int .i64 d,.int .i64 e]]:p (p N)).getD i [])))] [.r 222 2 (c lt.af+1) (ce (c lt.af) (a2.fn lt.af) λi=>([[.int .i64 d,.int .i64 e]]:p (p N)).getD i [])] (mN (dG.ax lt d e b).af) [jo (dG.ax lt d e b).af]:=by
   rw[t,show lt.af++(d,e)::b.af=lt.af++[(d,e)]++b.af by simp];refine cc.eD (λO B K=>?_) a (U.Y.2 ⟨⟨by simp,I⟩,v⟩)
   match B,K with
   |[_,_],⟨F,A,D⟩=>exact⟨F,pg rfl (show U [_,_]from⟨by simp,I⟩) A,D⟩
  have nn:(c lt.af+1)*oj.bytes<=140737488355328:=by rw[show oj.bytes=16 from a];omega
  clear cc I J w;clear t;generalize(dG.ax lt d e b).af=l at *;generalize lt.af=k at *;have x:a8 r []:=a8.nil;refine Y.K func202 rfl λC=>?_;refine aZ a v (g.aP (tt a underlying244 a a a) a a ?_);refine a6 [(1000003,f)] a v ?_;let o:Nat->z:=λi=>([ax (eG (.ax lt d e b)),ax (eG (.ax lt d e b)),ax (.O [eG b]),ax (eG b),ax (eG (.ax lt d e b)),ax (eG (.ax lt d e b)),ax (.O [eG lt,eG b]),ax (eG lt),Kt,mN k,ax (eG (.ax lt d e b)),ax (eG (.ax lt d e b)),ax (eG (.ax lt d e b)),o6 d e,ax (.S f 2 1 λi=>([[.int .i64 d,.int .i64 e]]:p (p N)).getD i []),.q (.aq (.r 0 2 (c k+1) (ce (c k) (a2.fn k) λi=>([[.int .i64 d,.int .i64 e]]:p (p N)).getD i []))),mN l,mN l]:p z).getD i .any
  cases lt<;>cases b<;>(
   refine g.cx b5 o (mv (J7 (jo k) (.r 222 2 (c k+1) (ce (c k) (a2.fn k) λi=>([[.int .i64 d,.int .i64 e]]:p (p N)).getD i [])) (jo l)) 9 15 16 17) a a a a ⟨
   .aY,
   .aY,
   .aY,
   .aY,
   .aY,
   .aY,
   .aY,
   .aY,
   .aY,
   cn.ay a a a a a a (aT.dS (dx.bQ u.tocD [] a a a a E a a a bl a bl)),
   .aY,
   .aY,
   .aY,
   .aY,
   .aY,
   cn.eP a a a a a a (ee (bg:=[]) bd x (ao:=h _) a ⟨rfl,rfl,nn⟩),
   cn.eR a a a a a a (aT.dS (dx.bQ ec.tocD [0] a a a a E a a a bl a bl)),
   cn.eS a a a a a a (aT.y),v⟩ ?_
   intro z j;show g r _ _ _ _ _ (J7 (jo k) _ (jo l) (z 9) (z 15) (z 16) (z 17));rw[j 9 b',j 15 b',j 16 b',j 17 b']
   exact g.aS [0] a ⟨a,bt.same⟩ (CC _))
end R1
section
open Go.Conc
def bb.gN(k:bb n b){bU}{L}(aE:n[d]?=h bU)(B:b.m[d]?=h L)(z:(∃W ah,bU=.cells W ah)∨∃H,bU=.J H):
  bb (n.set d .x) {b with m:=b.m.set d ⟨L.v,[]⟩}/\cN n b (n.set d .x) {b with m:=b.m.set d ⟨L.v,[]⟩}:=by
 have C:d<c n:=(cO.1 aE).1;have K:d<c b.m:=(cO.1 B).1;have A:∀l,(b.m.set d ⟨L.v,[]⟩)[l]?=if d=l then h ⟨L.v,[]⟩else b.m[l]?:=M;have y:∀g∈b.m.set d ⟨L.v,[]⟩,∀o∈g.al,g∈b.m:=M;have v:cN n b (n.set d .x) {b with m:=b.m.set d ⟨L.v,[]⟩}:=by
  refine⟨bC _,λ_ _ _=>rfl,λ_ _ _ E=>E,λ_ _ _ _=>rfl,λg e o j=>.inr ⟨g,y g e o j,j⟩,?_,a,a,a,a⟩;intro l r g i e;by_cases u:d=l
  .subst u;rw[aE]at i;cases i;rw[B]at e;cases e;refine⟨.x,⟨L.v,[]⟩,by grind,by grind,?_⟩;rcases z with⟨W,ah,rfl⟩|⟨H,rfl⟩<;>rfl
  exact⟨r,g,by grind,by grind,.refl _ _⟩
 refine⟨⟨k.mem,by simp[k.len],?_,?_,λg e o j=>k.lt g (y g e o j) o j,λo j=>⟨(k.own o j).1,λg e p=>(k.own o j).2 g (y g e o p) p⟩⟩,v⟩
 .intro l r g i e;by_cases u:d=l
  .subst u;rw[ij C]at i;cases i;trivial
  rw[kA u]at i;rw[A,bm u]at e;exact(k.box l r g i e).cd v.ext k.len λo j=>⟨a,λN=>rfl⟩
 intro I J w x s t o D F;rw[A]at s t;split at s
 .grind
 split at t
 .grind
 exact k.a3 I J w x s t o D F
def bx.eV(g:az.u=b.u){a}(j:bx n b aa a)(i:hI 0 a=f):bx ao az aa a:=by have d:=bx.drop (aL:=[]) (br:=n) j i;refine bx.mono (n:=[]) (b:=b.cut 0) ⟨λl p aa e=>by rw[g];exact e,λo k L aE _=>by grind⟩ (by simp[a5.cut]) d
end
section
open Go.ChangeShapes Go.WideShapes Go.ChangeAt Go.RowKit
def Hm{b:au}{a:Addr}(g:b.cell? (a.add k)=h aa):b.cell? ⟨a.block,a.off+k,q⟩=h aa/\(k=0->a=⟨a.block,a.off,q⟩):=by obtain⟨e,i,d⟩:=a;cases d<;>simp only[Addr.add,aN]at*<;>grind
section
variable {H:Type}{jg:av×Z->H}{o bz:Nat}{oU:au}
def abN(F:P.underlying o=h (.slice bz))(E:P.underlying bz=h (.int .u8))(I:P.cellsOf bz=1){j:Option Addr}{d:Nat}{u:DataW H}{x:p MemPlace}(v:DataW.Trod jg P oU 0 (λ_=>f) f o (.slice j A d) u x):
  ∃n:Nat->Int,R1.Bytes n/\A<=9223372036854775807/\bx [] (a5.bA oU) (.slice j A d) (ax (.S m 1 A (R1.sE n))):=by
 obtain⟨K,D⟩:=v;rcases open_ints F E I D with⟨g,_⟩|⟨l,k,s,C,g,_,aa,B,O,_,t,z⟩<;>simp[Value.cells]at g<;>obtain⟨rfl,rfl,rfl⟩:=g
 .exact⟨λ_=>0,λ_=>by simp,by omega,Rd.dH⟩
 simp only[dH,maxLen]at O B;have r:∀b,0<=C.getD b 0/\C.getD b 0<=255:=λb=>by
  by_cases e:b<c C
  .have:=z _ (wR e);simp[Lit.wf,IntKind.min,IntKind.max,IntKind.signed,IntKind.bits]at this;grind
  grind
 refine⟨λb=>C.getD b 0,r,by omega,Rd.hS aa y (λJ=>eI h ((Hm (t 0 y)).2 a)) (λ_ _=>rfl) λb e w s i=>?_⟩
 match w,i with
 |0,i=>
  cases i;exact⟨_,by simpa[a5.bA]using(Hm (t b y)).1,Rd.int (r b)⟩
abbrev Gz(a:Nat×(Nat->Int)):z:=ax (.S m 1 a.1 (R1.sE a.2))
def FD(a:Nat×(Nat->Int)):Prop:=R1.Bytes a.2/\a.1<=9223372036854775807
def Lu{d:p uc}(C:∀g∈d,oU.heap[g.1]?=h (.cells #[g.2.2] g.2.1 (0,0)))(l:∀g∈d,∃T bz,g.2.2=.iface T bz)(r:laidOutB P=f)(I:P.readableRec o=f)(J:o<P.types.size)(A:P.underlying o=h (.slice bz))(F:P.underlying bz=h (.int .u8))(K:P.cellsOf bz=1){V:Reach}{base:Nat}:∀{j:Nat}{B:p Z}{b:p (DataW H)}{s:p MemPlace},
  DataW.TrodAll jg P oU 0 (λ_=>f) f (aY j o) B b s->(∀i k,i<j->B[i]?=h k->Value.okWide P oU V base o k) ->
  ∃n:p (Nat×(Nat->Int)),(c n=j/\c b=j)/\(∀g∈n,FD g)/\b4 (my d) (a5.cQ d oU) B (n.map Gz)/\∀t,Below oU.heap.size oU t->DataW.TrodAll jg P t 0 (λu=>decide (u<oU.heap.size)) f (aY j o) B b s
 |0,B,b,s,e,_=>by obtain⟨rfl,rfl,rfl⟩:=trodAll_nil e;exact⟨[],⟨a,a⟩,by simp,v,λ_ _=>rfl⟩
 |j+1,B,b,s,e,E=>by
  obtain⟨k,B,aa,b,s,ad,rfl,rfl,rfl,⟨w,x⟩,R⟩:=trodAll_cons e;obtain⟨X,U,D,rfl⟩:=okWide_slice A (E 0 k y rfl);obtain⟨u,M,N,S⟩:=abN A F K ⟨w,x⟩;obtain⟨n,k1,z,Q,G⟩:=Lu C l r I J A F K R λi k W e=>E (i+1) k y e;refine⟨(U,u)::n,by simp[k1],by simp only[List.forall_mem_cons];exact⟨⟨M,N⟩,z⟩,⟨Rd.cQ C l (λab i Y e=>?_) S,Q⟩,λt O=>trodAll_cons_mk (Below.trod r I J ⟨w,x⟩ O (DataW.trod_lt w _ _ _ x)) (G t O)⟩
  match i,e with
  |0,e=>cases e;exact⟨_,_,a⟩
end
noncomputable def Z5(P:aI)(e:p (String×DataW Unit))(d j i:Nat)(os:Os):au:=
 let a:=World.laidAll P os (e.filter λk=>k.2.handleName?.isNone)
 {a with heap:=a.heap.modify d λ
   |.cells _ b l=>.cells #[.iface j (.agg #[typeHandle P i])] b l
   |g=>g}
def Z7{N:Checked}{I pb gP hs iS tI tH:Nat}(aj:∀(x w:av×Z) (Q:p (Nat×(Nat->Int))),c Q=k->(∀g∈Q,FD g)->Y (ai.aT N.prog) I (Q.map Gz) (my [(pb,iS,.iface x.1 x.2),(gP,iS,.iface w.1 w.2),(hs,tI,.iface tH (.agg #[typeHandle N.prog iS]))]) (bi f) (my [(pb,iS,.iface x.1 x.2),(gP,iS,.iface w.1 w.2),(hs,tI,.iface tH (.agg #[typeHandle N.prog iS]))])){fn:Func}{C T X:Nat}{b:ChangeSpec}{s:OpenClaim}{os:Os}(a':os.Started){H:Type}{jg:av×Z->H}(L:N.prog.funcs[I]?=h fn)(aV:fn.params=(aY k C).toArray)(aG:fn.resultTypes=#[X])(ak:ownKnob N.prog.godebug=q)(R:laidOutB N.prog=f)(aH:N.prog.readableRec C=f)(aJ:C<N.prog.types.size)(an:N.prog.underlying C=h (.slice T))(ao:N.prog.underlying T=h (.int .u8))(aq:N.prog.cellsOf T=1)(aB:N.prog.underlying X=h .bool)(aE:N.prog.inits.idxOf? I=q)(aK:varsRowed N.prog b.vars=f)(aI:∃aX aZ,b.vars=[aX,aZ])(a5:∀(F:p (DataW H)) (j i:DataW H),c F=k->b.fn H (F++[j,i])={results:=[.lit (.bool f)],args:=F,vars:=[j,i]})(Ey:∃(e:au) (tape:Tape) (v:Input),e.os=os/\(e.forCall tape v).Shaped N.prog/\v.vars=[]/\Input.okWide N.prog (e.forCall tape v) .any e.heap.size I v /\
   ((b.pre jg N.prog fn s.domain m (e.forCall tape v).memory v.args/\laidMetH N.prog s.laid (e.forCall tape v).memory)/\sizedMet jg N.prog fn (OpenSpec.ofChange b) m (e.forCall tape v).memory v.args)/\({}:Assume).holds N.prog (lone (Frame.enter N.prog I v.args .normal) [] (e.forCall tape v))){JG JH JF:Nat}{aM ll S aP aQ:String}{ah xL y:DataW Unit}{aR:Array (String×av)}{aW:p UInt8}(az:(s.laid.filter λg=>g.2.handleName?.isNone)[JG]?=h (aM,.iface aP ah))(aA:(s.laid.filter λg=>g.2.handleName?.isNone)[JH]?=h (ll,.iface aQ xL))(ax:(s.laid.filter λg=>g.2.handleName?.isSome)[JF]?=h (S,y))(U:[aM,ll,S].map N.prog.globalNamed=[h pb,h gP,h hs])(aa:[pb,gP].map (λW=>(N.prog.globals[W]?).map (·.type))=[h iS,h iS])(aT:N.prog.underlying iS=h (.interface aR))(D:[pb,gP,hs].map (λW=>(decide (W<N.prog.globals.size),((begin N.prog (λ_ _=>0) default).world.heap[W]?).bind Obj.row?))=[(f,h (#[.nilIface],iS)),(f,h (#[.nilIface],iS)),(f,h (#[.nilIface],tI))])(ad:y.funcsIn?=q)(ae:y.handleName?=h aW)(ag:(N.prog.cutTypes.find? (·.1== "internal/reflectlite.rtype")).map (·.2)=h tH)(a:((aD N.prog.types.size).filter λC=>N.prog.rowNamed C aW)=[iS])(a7:[pb,gP,hs].Nodup):
  ReturnsInLeavingWide {} N os I .any (λe args=>(b.pre jg N.prog fn s.domain m e args/\laidMetH N.prog s.laid e)/\sizedMet jg N.prog fn (OpenSpec.ofChange b) m e args) (b.post jg N.prog fn m f m m):=by
 refine abP (r:=λe _=>laidMetH N.prog s.laid e) (λ_ _ _ aC u=>u.of_heap aC) ak a' L Ey λV base args l K J t M n A=>?_;have a4:=M;obtain⟨a0,a1,aU,ab,rfl,_,_⟩:=M;simp only[mg,List.map_nil,List.cons.injEq,a9,lD,bA]at U aa D;obtain⟨x,a2⟩:=JU A n (b8 az) U.1 aa.1 aT D.1.1 D.1.2;obtain⟨w,z⟩:=JU A n (b8 aA) U.2.1 aa.2 aT D.2.1.1 D.2.1.2;have P:∀g∈([(pb,iS,.iface x.1 x.2),(gP,iS,.iface w.1 w.2),(hs,tI,.iface tH (.agg #[typeHandle N.prog iS]))]:p uc),V.heap[g.1]?=h (.cells #[g.2.2] g.2.1 (0,0)):=by simp only[List.forall_mem_cons];exact⟨a2,z,Z6 A n (b8 ax) ad ae U.2.2 ag a D.2.2.1 D.2.2.2,by simp⟩
 have a3:∀g∈([(pb,iS,.iface x.1 x.2),(gP,iS,.iface w.1 w.2),(hs,tI,.iface tH (.agg #[typeHandle N.prog iS]))]:p uc),∃a6 T,g.2.2=.iface a6 T:=E;simp only[aV]at aU t;obtain⟨Q,k1,aL,aN,aO⟩:=Lu P a3 R aH aJ an ao aq aU λa_ aS aF u=>t a_ C aS (by simp[aF]) ww;refine bk.i_ (aj x w Q k1.1 aL).tocD aE a7 P aN λ_ aS B o d F=>?_;have o:Rd B.u aS (.bool f):=o;cases o;have O:Below V.heap.size V (B.a.at F):=⟨d.os,d.tape,d.output,d.size,d.block⟩;obtain⟨aX,aZ,a8⟩:=aI;obtain⟨j,i,rfl⟩:∃j i,K=[j,i]:=by
  rw[a8]at ab
  match K,ab with
  |[j,i],_=>exact⟨j,i,rfl⟩
 have G:=a5 l j i k1.2;have ar:=aO _ O;have aw:DataW.TrodAll jg N.prog (B.a.at F) V.heap.size (λ_=>m) m [X] [.bool f] [.lit (.bool f)] []:=trodAll_mk1 (shut_bool aB _);refine⟨l,[j,i],a0++a1,[],a0,a1,a4,?_,?_,?_,O.frame _,λu=>by cases u⟩
 .rw[show(b.fn H (l++[j,i])).results=_ from eI _ G,aG];exact aw
 .rw[show(b.fn H (l++[j,i])).args=_ from eI _ G,aV];exact ar
 rw[show(b.fn H (l++[j,i])).vars=_ from eI _ G];exact Below.trodVars R O aK ab
end
namespace R1
section
variable {r:ai V}
def k8(a:bE):p bE:=if fC a then cx a else[]
def MW(b:bE)(d:Nat)(a:p bE):Prop:=∃e,jR b (c b) 0=a++jR b e d/\c b<=d+e/\c a<=d
def MD:bL r 72 (df ez (λa=>bi (fC a)) λ_=>[]):=.bb λa _=>IV a
def GK:bK:=λargs a=>match args,a with
 |[.q (.aq (.c (.V b)))],[]=>h (ax (GJ b),[],[])
 |_,_=>q
def adt:bL r 243 GK:=by intro args i b d a e g;unfold GK at e;grind[T2]
def TZ(o):Y r 197 [bZ o] [] (bQ.S (k8 o)) []:=by
 refine(bk.e3 (ι:=Unit) (ao:=λ_=>[]) (res:=λ_=>bQ.S (k8 o)) func197 rfl rfl rfl λO=>?_).toY;have n:a8 r [(72,df ez (λK=>bi (fC K)) λ_=>[])]:=.cons MD .nil;refine db.seq (bY.bA (g.aW ?_));refine b_ n a v (db.seq (bY.bA (g.aW ?_)));cases I:fC o with
 |false=>
  refine a_ n [(8,f)] a r' (g.ret ⟨(),bT.zero a ?_⟩);simp[k8,I]
 |true=>
  have z:=I;simp[fC,cF,bA]at z;refine a_ n [(8,m)] a r' (db.seq (bY.bA (g.aW ?_)));refine b_ n a v (db.seq (db.seq (bY.bA (g.aW (g.cn 1 0 9 1 (bQ.fn []) a a ?_)))));refine b_ (.cons adt .nil) a v (db.block ?_);refine db.rangeFunc (o3:=e0 [.O [.V o]]) (bV.callee a) (T3 (ad:=p bE) o z.2 y (λ_=>.cells 9 [.c (.V o)]) (λb=>.cells 97 [.r 2 1 (c b) (bQ.fn b)]) (λb=>.r 9 1 (c b) (bQ.fn b)) (MW o) [] ?_ (λo=>⟨by simp,by simp,by simp⟩) ?_) (λk=>⟨a,by simp⟩) λk=>⟨.normal,a,?_⟩
  .exact⟨c o,by simp,by omega,by simp⟩
  .rintro d b t j;have A:=sL o d t;refine iy.intro (w:=q) a a a a (g.aW ?_);refine aZ a v ⟨a,a,g.aW ?_⟩;refine aZ a ?_ ?_
   .obtain⟨i,_,_,C⟩:=j;have M:=A.1;have u:=A.2.1;refine⟨a,a,?_,Int.natCast_nonneg _,Int.ofNat_le.2 (Nat.le_of_lt M),Int.ofNat_le.2 u⟩;show(c b+1)*16<=_;omega
   have F:MW o (eA o d) (b++[(o.drop d).take (eA o d-d)]):=by
    obtain⟨i,l,J,C⟩:=j;obtain⟨e,rfl⟩:∃e,i=e+1:=⟨i-1,by omega⟩
    refine⟨e,?_,by omega,by grind⟩;rw[l];simp[jR];grind
   refine⟨a,a,⟨_,F⟩,jN a ?_⟩;have s:mo o (h (d:Int)) (h (eA o d:Int))=(o.drop d).take (eA o d-d):=NH;have B:bt (c b+1) (ce (c b) (bQ.fn b) λk=>[[N.V (mo o (h (d:Int)) (h (eA o d:Int)))]].getD k []) (bQ.fn (b++[(o.drop d).take (eA o d-d)])):=by rw[s];exact cY.a0 bQ b _
   have x:c b+1=c (b++[(o.drop d).take (eA o d-d)]):=E;refine U.Y.2 ⟨by simp,U.Y.2 ⟨U.Y.2 ⟨⟨x,B⟩,v⟩,U.Y.2 ⟨⟨x,B⟩,U.Y.2 ⟨a,v⟩⟩⟩⟩
  obtain⟨b,i,l,J,C⟩:=k;have D:jR o i (c o)=[]:=by cases i<;>simp[jR]
  rw[D,hY]at l;have s:k8 o=b:=by simp[k8,I,dH,cx,l]
  rw[s];show db r _ _ _ _ _;refine bY.bA (g.aW ?_);refine aZ a v (g.ret ⟨(),bT.zero a ?_⟩);simp
def Ef:bL r 197 (df ez (λa=>bQ.S (k8 a)) λ_=>[]):=.bb λa _=>TZ a
def adF:bL r 235 (ek (eX bQ) ez (λa _=>bZ a.flatten) λa d=>[d=[],c a.flatten<=140737488355328]):=.bl λa d b=>by obtain⟨rfl,b⟩:=b;exact U9 a b
def xm:bK:=ek (eX bQ) (eX bQ) (λa b=>bi (a==b)) λ_ _=>[]
def adv:bL r 236 xm:=.bl λa b _=>Ue a b
def T1(d)(u:c d.flatten<=140737488355328):Y r 189 [bQ.S d] [] (iI (jH d)) []:=by
 refine Y.K func189 rfl λi=>?_;have e:a8 r [(235,ek (eX bQ) ez (λd _=>bZ d.flatten) λd b=>[b=[],c d.flatten<=140737488355328]),(72,df ez (λb=>bi (fC b)) λ_=>[]),(236,xm),(197,df ez (λb=>bQ.S (k8 b)) λ_=>[])]:=.cons adF (.cons MD (.cons adv (.cons Ef .nil)));have B3:bQ.af (c d) (bQ.fn d)=d:=bQ.E d;cases x:fC d.flatten with
 |false=>
  refine a_ e [(8,m),(9,f),(16,f)] a ?_ (g.aw a ?_)
  .simp only[U,B3,x,bQ.U,eq_self,ba,a9];grind
  simp[jH,x]
 |true=>
  cases j:(cx d.flatten==d)with
  |false=>
   refine a_ e [(8,f),(9,m),(14,m),(16,f)] a Ob (g.aw a ?_);simp[jH,j]
  |true=>
   refine a_ e [(8,f),(9,m),(14,f),(16,m)] a Ob (g.aw a ?_);simp[jH,x,j,B3]
def Jj{a:p (Int×Int)}(b:e<c a):a.getD e (0,0)∈a:=M
def iT(b:p (Int×Int)):dG:=b.foldl (λd a=>d.put a.1 a.2) .nil
theorem ael(b:p (Int×Int))(a:Int×Int):iT (b++[a])=(iT b).put a.1 a.2:=by unfold iT;grind
def zn{d:p (Int×Int)}(a:w<c d):iT (d.take (w+1))=(iT (d.take w)).put (d.getD w (0,0)).1 (d.getD w (0,0)).2:=by grind[List.take_add_one,ael]
abbrev qz(a:p (Int×Int)):z:=ax (.S m 1 1 λb=>([[.S m 2 (c a) (a2.fn a)]]:p (p N)).getD b [])
abbrev D3(a:Int×Int):an:=.cells 222 [.c (.int .i64 a.1),.c (.int .i64 a.2)]
def Jg(a:p (Int×Int)):Nat->bH
 |0=>[(3,ax .bc),(8,qz a),(9,S 1),(10,S 0),(14,a2.S a),(15,S (c a)),(16,S 0)]
 |b+1=>[(3,.q (.aq (.aQ 1))),(8,qz a),(9,S 1),(10,S 0),(14,a2.S a),(15,S (c a)),(16,S (b+1:Nat))]
def acG(a:p (Int×Int)):Nat->p an
 |0=>[]
 |b+1=>[D3 (a.getD 0 (0,0)),.J (et mD (iT (a.take (b+1))))]
def X9(a:p (Int×Int)):Nat->bH
 |0=>[(3,ax .bc),(8,qz a),(9,S 1),(10,S 0)]
 |b+1=>match a with
  |[]=>[(3,ax .bc),(8,qz a),(9,S 1),(10,S (b+1:Nat))]
  |_::_=>[(3,.q (.aq (.aQ 1))),(8,qz a),(9,S 1),(10,S (b+1:Nat))]
def acH(b:p (Int×Int)):Nat->p an
 |0=>[]
 |_+1=>match b with
  |[]=>[]
  |a::d=>[D3 a,.J (et mD (iT (a::d)))]
def IW(d:p (Int×Int))(K:c d<=4000000)(C:∀b∈d,a7 .i64 b.1/\a7 .i64 b.2):Y r 196 [qz d] [] (ax (eG (iT d))) []:=by
 refine Y.K func196 rfl λI=>?_;refine aZ a v (g.ht 0 (λb=>b<=1) (X9 d) (acH d) (λb=>1-b) 0 a E a v a y ?_);intro b l;rcases b with _|b
 .refine a6 [(11,f)] a E (g.ht 0 (λw=>w<=c d) (Jg d) (acG d) (λw=>c d-w) 0 a E a v a y ?_);intro w J;rcases w with _|w
  .by_cases k:0<c d
   .have l:=C _ (Jj k);have i:=zn k;have j:a8 r [(242,k4 [ax .bc,o6 (d.getD 0 (0,0)).1 (d.getD 0 (0,0)).2] [] (.q (.aq (.aQ 0))) [.J (et mD (.ax .nil (d.getD 0 (0,0)).1 (d.getD 0 (0,0)).2 .nil))])]:=.cons (l5 (x1 _ _ l.1 l.2 .nil)) .nil;refine bf j [(17,f)] a O' (g.fs 2 1 y a E a a a ?_ a k M);exact bJ
   obtain rfl:d=[]:=jy y;refine bP [(17,m)] a E (g.fE a a ?_);refine cr a lu (g.fs 0 1 y a ?_ a a a v a y b');simp
  obtain⟨e,o,t,s,i⟩:∃x z A B,iT (d.take (w+1))=.ax x z A B:=by rw[zn y];exact yS _ _ _
  show g r _ _ _ _ (Jg d (w+1)) [D3 (d.getD 0 (0,0)),.J (et mD (iT (d.take (w+1))))];by_cases k:w+1<c d
  .have l:=C _ (Jj k);have D:=zn k;rw[i]at D⊢;have j:a8 r [(242,k4 [.q (.aq (.aQ 0)),o6 (d.getD (w+1) (0,0)).1 (d.getD (w+1) (0,0)).2] [.J (et mD (.ax e o t s))] (.q (.aq (.aQ 0))) [.J (et mD ((dG.ax e o t s).put (d.getD (w+1) (0,0)).1 (d.getD (w+1) (0,0)).2))])]:=.cons (l5 (x1 _ _ l.1 l.2 (.ax e o t s))) .nil;refine bf j [(17,f)] a O' (g.fs 2 (w+2) y a E a a a ?_ a k M);simp only[U.Y,U,ba,a9];rw[D]
  have n:w+1=c d:=y;rw[n,c9]at i
  match d,n,i with
  |b::u,n,i=>
   rw[n,c9,i];refine bP [(17,m)] a E (g.fE a a ?_);refine cr a lu (g.fs 2 1 y a E a a a ?_ a y b');exact bJ
 cases d with
 |nil=>
  refine bP [(11,m)] a bw (g.fE a a ?_);exact cr a v (g.aw a nK)
 |cons F u=>
  refine bP [(11,m)] a bw (g.fE a a ?_);refine cr a v (g.gi 2 1 a a ?_);obtain⟨e,o,t,s,i⟩:∃x z A B,iT (F::u)=.ax x z A B:=by have:=zn (d:=F::u) (w:=c u) E;rw[FR E]at this;rw[this];exact yS _ _ _
  rw[i];exact g.aw a
end
section
open Go.Proofs Go.Conc Go.Conc.Lib
open Go.ConcN (WgLive PayAt Has RW AtR0)
open Go.ConcR (KK WgAt stA smA rd wr mk Payload DC0)
noncomputable def Sg:Code:=nh (gR (gR (gR rm)))
noncomputable def Ha:Code:=nh Sg
noncomputable def A':Code:=gR (gR (gR rm))
def Sd:A'=.seq (.seq Ha (.block 0 (.loop ho))) lH:=b0
section
variable {dM:p an}{cE:a5}{F:bH}{n:p an}{x:Act}{b:a5}{bq:ak->a5->Prop}
def dX.goes{bo}{d:ak}:∀(o:Nat)(a:ak)b,dX dM cE F n x b->WgLive 292 bo b.a->Goes V f (fx 292 bo) DC0 (λa _=>a=d) o a b.a ->
  (∀g,dX dM cE F n x g->cb (ai.aT V) bq d g)->cb (ai.aT V) bq a b
 |0,a,b,s,_,i,p=>by obtain rfl:a=d:=i b.a (.refl _);grind
 |o+1,a,b,s,v,i,p=>by
  rcases i with i|⟨w,i⟩
  .obtain rfl:a=d:=i b.a (.refl _);grind
  refine .next w λg r=>?_;have k:=s.rely r.1;obtain⟨A,B⟩:=r.2;have t:WgLive 292 bo g.a:=bJ;have e:=i g.a (λ_=>t);cases l:aq V f a g.a with
  |go j z u=>
   rw[l,goes_go]at e;obtain⟨⟨rfl,rfl⟩,y⟩:=e;exact⟨j,g,#[],l,.aZ k.a_,dX.goes o j g k t y p⟩
  |_=>rw[l]at e;exact e.elim
def RI{n}{b}(g:∀e∈n,e=.x){bg}{a}(d:iX n b bg a):bg=[]:=by
 cases bg with
 |nil=>rfl
 |cons i bg=>
  cases a with
  |nil=>exact d.elim
  |cons j a=>
   have:=g _ (b8 d.1.1);cases this
end
section
variable {i:Int}{ab:p ca}{bu:p Int}{N:Nat}{ag:p Z}
variable (i ab bu N)in
def yN:bH:=[(2,aB.S bu),(3,aG 0 0),(4,aG 1 0),(8,aG 3 0),(9,aG 4 0)]
variable (i ab bu N ag)in
def pz:p an:=[.cells 3 [.c (.int .i64 i)],.cells 23 [.c (.S m 2 (c ab) (a1.fn ab))],.J (ck 294 2 (.row N (c bu)) (c bu) ag),.cells 284 [.c (.val (.slice (h ⟨N,0,q⟩) (c bu) (c bu)))],.cells 292 [.c (.int .u64 0),.c (.int .u32 0)]]
variable (i ab bu)in
def Ew(a b:Nat):Z:=if b=0 then .string ⟨((dL i ab (bu.getD a 0)).getD []).toArray⟩else .bool (dL i ab (bu.getD a 0)).isSome
variable (i ab bu)in
def na:p Z:=bu.flatMap λa=>[.string ⟨((dL i ab a).getD []).toArray⟩,.bool (dL i ab a).isSome]
variable (i ab bu N)in
def rT:p an:=[.x,.x,.J (ck 294 2 (.row N (c bu)) (c bu) (na i ab bu)),.x,.x]
def aa1{b:ai V}:bY b 45 Ha (uf ((18,aB.S bu)::(19,S (c bu))::(20,S 0)::yN bu) (pz i ab bu N ag)) (yN bu) (pz i ab bu N ag):=by refine g.aW ?_;refine aZ a v ⟨a,eC a ?_,a⟩;simp
theorem Ja:c (na i ab bu)=c bu*2:=by
 unfold na;induction bu with
 |nil=>rfl
 |cons b d a=>grind
def CF:∀{bu:p Int}{l e:Nat},l<c bu->e<2->(na i ab bu)[2*l+e]?=h (Ew i ab bu l e)
 |[],l,e,g,_=>by grind
 |b::d,0,e,_,a=>by
  match e,a with
  |0,_=>rfl
  |1,_=>rfl
 |b::d,l+1,e,g,a=>by have:=CF (bu:=d) (l:=l) (e:=e) M a;unfold na at this⊢;rw[sm,hl M];rw[show 2*(l+1)+e - [Value.string ⟨((dL i ab b).getD []).toArray⟩,Value.bool (dL i ab b).isSome].length=2*l+e by grind];exact bJ
def _root_.Go.AM.bV.seen{D j}{d}{n}{b}{F}{x}(a:bV D n b F x)(i:bx n b (x.tmps.getD j K) d):bV D n b ((j,d)::F) x:=by
 refine⟨a.size,a.defers,λe=>?_⟩;simp only[look];cases g:af j e with
 |false=>exact a.aH e
 |true=>grind[Nat.eq_of_beq_eq_true]
abbrev vA(a b:Nat):bH:=[(8,ax (.O [.val (.slice (h ⟨b,0,q⟩) a a)]))]
variable (i ab bu N)in
abbrev KV:bH:=(8,ax (.O [.val (.slice (h ⟨N,0,q⟩) (c bu) (c bu))]))::(4,ax (.O [.S m 2 (c ab) (a1.fn ab)]))::(3,ax (.O [.int .i64 i]))::(18,aB.S bu)::(19,S (c bu))::(20,S 0)::[(9,aG 4 0)]
def X6(bn:bL (ai.c6 V) 233 (m_ i)){aM:fq}(cj:c bu<=4000000)(ar:db (ai.aT V) 45 n5 aM (vA (c bu) N) (rT i ab bu N)):db (ai.aT V) 45 A' aM (yN bu) (pz i ab bu N ag):=by
 intro Y b3 cd bp bO aw ah cO aL X cb;have j:dX (pz i ab bu N ag) Y (yN bu) (pz i ab bu N ag) b3 Y:=⟨cd,bp,.refl _ _⟩;refine j.ctl a (λbQ=>y5 Sd) λb j=>?_
 refine j.ctl a (λbQ=>py) λb j=>?_;refine j.code aL aa1 λa6 b j=>?_;obtain⟨bJ,w1,a',a0,Z⟩:=bV.freeze 3 0 (W:=3) (ah:=[.c (.int .i64 i)]) (gB:=[.int .i64 i]) rfl rfl rfl j.bU j.a_;refine .aV (.of j.a_ a0 w1 (Z.tooU j.a_)) ?_;obtain⟨bK,w2,ba,O,aa⟩:=bV.freeze 4 1 (W:=23) (ah:=[.c (.S m 2 (c ab) (a1.fn ab))]) (gB:=[.S m 2 (c ab) (a1.fn ab)]) rfl rfl rfl a' a0;refine .aV (.of a0 O w2 (aa.tooU a0)) ?_;obtain⟨cu,w3,f3,S,ae⟩:=bV.freeze 8 3 (W:=284) (ah:=[.c (.val (.slice (h ⟨N,0,q⟩) (c bu) (c bu)))]) (gB:=[.val (.slice (h ⟨N,0,q⟩) (c bu) (c bu))]) rfl rfl rfl ba O;refine .aV (.of O S w3 (ae.tooU O)) ?_;have j:dX (pz i ab bu N ag) Y (KV i ab bu N)
   [.x,.x,.J (ck 294 2 (.row N (c bu)) (c bu) ag),.x,.cells 292 [.c (.int .u64 0),.c (.int .u32 0)]] a6 cu:=
  ⟨f3.le (eC a E),S,j.bC.trans ((Z.tooU j.a_).trans ((aa.tooU a0).trans (ae.tooU O)))⟩
 clear Z aa ae a' ba f3 a0 O S;refine j.ctl a (λbQ=>y1) λb j=>?_;refine j.ctl a (λbQ=>LQ) λb j=>?_;have aQ:=j.a_.len;simp[fj,gz]at aQ;obtain⟨z,aX⟩:∃L,b.m[2]?=h L:=⟨_,bI y⟩
 obtain⟨aA,a3⟩:∃L,b.m[4]?=h L:=⟨_,bI y⟩
 obtain⟨cR,bf,an,bk,cD⟩:=j.a_.box 2 _ z rfl aX;obtain⟨cw,cK,aP,cc⟩:=ck.lookup bf;obtain⟨aC,_,cJ,_,_,_⟩:=bf;have P:=(bk N).2 M;have av:=an N _ aP;obtain⟨o,B,ca,cz,bD,cF⟩:=j.a_.box 4 _ aA rfl a3;have aS:B=[.int .u64 0,.int .u32 0]:=by
  match B,bD with
  |[],aF=>exact aF.elim
  |[_],aF=>exact aF.2.elim
  |_::_::_::_,aF=>exact aF.2.2.elim
  |[c0,aZ],aF=>
   have r0:=aF.1;have x:=aF.2.1;cases r0;cases x;rfl
 subst aS;have bA:N≠o:=M;have bB:a6.tmps.getD 9 K=.pointer (h ⟨o,0,q⟩):=by obtain⟨_,L,dU,aU,aV,cY⟩:=j.bU.aH 9;grind
 obtain⟨bc,cv⟩:=j.a_.gN (d:=2) rfl aX (.inr ⟨_,rfl⟩);have aK:(b.m.set 2 ⟨z.v,[]⟩)[4]?=h aA:=M;obtain⟨bd,t2⟩:=bc.gN (d:=4) (bU:=.cells 292 [.c (.int .u64 0),.c (.int .u32 0)]) rfl aK (.inl ⟨_,_,rfl⟩);generalize cI:({b with m:=(b.m.set 2 ⟨z.v,[]⟩).set 4 ⟨aA.v,[]⟩}:a5)=jS at bd t2;have cB:jS.m=(b.m.set 2 ⟨z.v,[]⟩).set 4 ⟨aA.v,[]⟩:=M;have aG:jS.u=b.u:=M;have F:jS.a=b.a:=M;have aH:jS.own=b.own:=M;have aB:=bd;have oG:=(cv.tooU j.a_).trans (t2.tooU bc);have aT:jS.m[2]?=h ⟨z.v,[]⟩:=M;have bP:∀L∈jS.m,∀l∈L.al,∃d,d≠2/\d≠4/\b.m[d]?=h L:=by grind[List.mem_iff_getElem?]
 have cL:=j.a_.lt z (b8 aX) N P;have cN:=j.a_.lt aA (b8 a3) o M;have b1:nM N jS:=⟨by rw[aH];exactλU=>(j.a_.own N U).2 z (b8 aX) P,λL g n=>by obtain⟨d,bG,bH,T⟩:=bP L g N n;exact bG (j.a_.a3 d 2 L z T aX N n P),λs=>by rw[aG];grind,by grind⟩
 have H:nM o jS:=⟨by rw[aH];exactλU=>(j.a_.own o U).2 aA (b8 a3) M,λL g n=>by obtain⟨d,bG,bH,T⟩:=bP L g o n;exact bH (j.a_.a3 d 4 L aA T a3 o n M),λs=>by rw[aG];grind,by grind⟩
 have cS:bV 45 e2 jS (h9 i ab bu N o 0) a6:=by have r:=j.bU.mono oG j.a_.len;have cq:bV 45 e2 jS ((9,cM (.pointer (h ⟨o,0,q⟩)))::KV i ab bu N) a6:=r.seen (by rw[bB];exact Rd.val a);exact cq.le (eC a E)
 have cQ:(ag++cw).toArray.size=2*c bu:=M;have aO:∀l,(b.own l∨∃L∈b.m,l∈L.al)->l<b.a.heap.size:=λl n=>n.elim (λr=>(j.a_.own l r).1) λ⟨L,g,r⟩=>j.a_.lt L g l r;refine .de (ad:=λaj az=>∃t A,dX (pz i ab bu N ag) Y (vA (c bu) N) (rT i ab bu N) t az/\WgLive 292 o az.a/\Goes V f (fx 292 o) DC0 (λcC _=>cC=G (bO.M (t.put (h 28) (.tuple #[])) (.inRegion oz []::.code n5::aw)) ah) A aj az.a)
  (kU.gj (k:=c bu) (ty:=292) (val:=Ew i ab bu) (D:=2*c bu) (cE:=jS) 2 y o N y bA (.of j.a_ aB F oG) a ⟨z,b8 aX,P⟩ ⟨aA,b8 a3,by grind⟩ aO ?_ cz ⟨_,av,cQ⟩ ?_) ?_
 .rintro l (rfl|rfl)
  .exact⟨b1.own,b1.m,b1.u⟩
  exact⟨H.own,H.m,H.u⟩
 .intro p bh bg bj;subst bh bg;refine⟨FP i ab bu p e2 jS bO aw ah,wy i ab bu p e2 jS bO aw ah,λcC b n=>RN H X n,?_,?_⟩
  .refine acB bn bj H X aL b' cj (λe cf=>rfl) (λe cf=>rfl) (c bu) (bC _) a6 jS ⟨by grind,aB,.refl _ _⟩ ⟨_,_,by rw[F];exact cz⟩
  .rintro aj az ⟨t,⟨w,ao⟩,A,R⟩ bz aq Q cg ak;obtain⟨cT,cU,cV⟩:=ak p.ai (.inl rfl);obtain⟨a7,au,cl⟩:=aq;have bl:a7=(na i ab bu).toArray:=by
    apply Array.ext_getElem?;intro s;have a_:(na i ab bu).toArray[s]?=(na i ab bu)[s]?:=E;rw[a_];rcases dY s (2*c bu)with U|U
    .have aU:=Q (s / 2) y (s % 2) y;have aV:=CF (i:=i) (ab:=ab) (bu:=bu) (l:=s / 2) (e:=s % 2) y y;rw[show 2*(s / 2)+s % 2=s by omega]at aU aV;rw[aV];simpa[aN,au]using aU
    grind[Ja]
   subst bl;have bq:=w.a_.len;obtain⟨cx,ax,cn,cX,cp⟩:=w.bC.box 2 .x ⟨z.v,[]⟩ rfl aT;have cm:ax.v=.nilFunc:=by cases cn;exact(show ax.v=z.v from cp).trans aC
   have cy:∀(d:Nat) bU,e2[d]?=h bU->bU=.x:=by
    intro d bU aE
    match d,aE with
    |0,aE|1,aE|2,aE|3,aE|4,aE=>cases aE;rfl
   have cA:∀d,(az.m.set 2 ⟨.nilFunc,[p.ai]⟩)[d]?=if d=2 then h ⟨.nilFunc,[p.ai]⟩else az.m[d]?:=M;have bR:∀L∈az.m.set 2 ⟨.nilFunc,[p.ai]⟩,L=⟨.nilFunc,[p.ai]⟩∨L∈az.m:=λL g=>by grind
   have bo:bb (rT i ab bu p.ai) {az with m:=az.m.set 2 ⟨.nilFunc,[p.ai]⟩}:=by
    refine⟨w.a_.mem,by simp[bq,rT],?_,?_,?_,λl n=>⟨(w.a_.own l n).1,λL g a4=>?_⟩⟩
    .intro d bU L aE g;rw[cA]at g;by_cases u:d=2
     .subst u;rw[bs a]at g;cases g;cases aE;refine⟨λC=>if C=p.ai then h (.cells (na i ab bu++[]).toArray 294 (0,0))else q,⟨a,?_,Ja,bC _,by omega,[],by grind,a⟩,λC cW J=>?_,λC=>?_,λC J s=>?_⟩
      .intro l n;simp only[na,List.mem_flatMap]at n;obtain⟨_,_,n⟩:=n;simp only[fl,sq,or_false]at n;rcases n with rfl|rfl<;>rfl
      .by_cases u:C=p.ai
       .subst u;simp only[dH]at J;cases J;exact bw
       grind
      .by_cases u:C=p.ai<;>simp[u]
      grind
     .match d,aE,u with
      |0,aE,_|1,aE,_|3,aE,_|4,aE,_=>cases aE;trivial
      |2,_,u=>grind
    .intro d bF L bW g I l n bE;rw[cA]at g I;by_cases u:d=2
     .grind
     rw[bm u]at g;by_cases b4:bF=2
     .grind
     rw[bm b4]at I;exact w.a_.a3 d bF L bW g I l n bE
    .intro L g l n;rcases bR L g with rfl|g
     .grind
     exact w.a_.lt L g l n
    rcases bR L g with rfl|g
    .grind
    exact(w.a_.own l n).2 L g a4
   have aR:dc [.x,.x,.J (ck 294 2 (.row p.ai (c bu)) (c bu) ag),.x,.cells 292 [.c (.int .u64 0),.c (.int .u32 0)]] b (rT i ab bu p.ai) {az with m:=az.m.set 2 ⟨.nilFunc,[p.ai]⟩}:=by
    have r:=w.bC;refine⟨by have:=r.size;grind,λl n=>by have:=r.a6 l M;grind,λl s c5 n=>r.mem l s c5 M,λl n cH s=>?_,λL g l n=>?_,?_,by rw[r.os,F],by rw[r.tape,F],by rw[r.output,F],by rw[r.own,aH]⟩
    .rw[r.bF l M (λL g a4=>by
      obtain⟨d,_,_,T⟩:=bP L g l a4
      grind) s,aG]
    .rcases bR L g with rfl|g
     .grind
     rcases r.bV L g l n with x|⟨bX,x,aW⟩
     .grind
     obtain⟨d,_,_,T⟩:=bP bX x l aW;grind
    intro d bU L aE g;obtain⟨a2,bY,x,aW,cr⟩:=oG.box d bU L aE g;obtain⟨bS,bZ,aZ,c1,nD⟩:=r.box d a2 bY x aW;have a8:=cy d a2 x;have a9:=cy d bS aZ;subst a8 a9;by_cases u:d=2
    .subst u;cases aE;rw[aX]at g;cases g;exact⟨_,⟨.nilFunc,[p.ai]⟩,a,by grind,aC.symm⟩
    refine⟨.x,bZ,?_,by grind,cr.trans nD⟩
    match d,aZ,u with
    |0,_,_|1,_,_|3,_,_|4,_,_=>rfl
    |2,_,u=>grind
   refine⟨{az with m:=az.m.set 2 ⟨.nilFunc,[p.ai]⟩},⟨t,A,⟨⟨w.bU.size,⟨[],?_⟩,λcZ=>?_⟩,bo,j.bC.trans aR⟩,ao,R⟩,rfl,bz,λcP bN cG=>⟨bN.own,λl n L g a4=>?_,bN.u,bN.lt⟩⟩
   .obtain⟨nw,bt⟩:=w.bU.defers;rw[RI (λbU aE=>by grind) bt];trivial
   .have b6:bV 45 e2 az (vA (c bu) p.ai) t:=w.bU.le (eC a E);exact bx.eV (b:=az) (az:={az with m:=az.m.set 2 ⟨.nilFunc,[p.ai]⟩}) rfl (b6.aH cZ) (vc rfl)
   rcases bR L g with rfl|g
   .grind
   exact bN.m l n L g a4
 rintro aj az ⟨t,A,b_,br,R⟩;refine dX.goes A aj az b_ br R λbJ aI=>?_;have b9:dX (pz i ab bu N ag) Y ((28,.any)::vA (c bu) N) (rT i ab bu N) (t.put (h 28) (.tuple #[])) bJ:=⟨aI.bU.put b' v,aI.a_,aI.bC⟩
 refine b9.ctl a (λbQ=>vQ) λbK aJ=>?_;refine ar bK _ (aJ.bU.le (eC a E)) aJ.a_ bO aw ah cO aL X λu bT b0 az b2 r b5 b7 bM=>cb u bT b0 az b2 r b5 b7 (aJ.bC.trans bM)
end
end
abbrev Eg(a:p bE)(b:Bool):z:=.Q [.aq (.c (.S m 1 (c a) (bQ.fn a))),.aq (.c (.bool b))]
def h2(e:Int)(b:p ca)(a:p Int):Option (p bE):=if a.all (λd=>(dL e b d).isSome)then h (a.map λd=>(dL e b d).getD [])else q
noncomputable def Sj:Code:=nh rm
noncomputable def Sk:Code:=nh (gR rm)
noncomputable def Sl:Code:=nh (gR (gR rm))
def Sf:f188.body=h (.seq Sj (.seq Sk (.seq Sl A'))):=b0
def sR(e:Int)(b:p ca)(a:p Int)(d:Nat):p AM.N:=[.V ((dL e b (a.getD d 0)).getD []),.bool (dL e b (a.getD d 0)).isSome]
def mF(d:Int)(b:p ca)(a:p Int):p bE:=a.map λe=>(dL d b e).getD []
theorem aa6{j b}(a:h8 j=h b):c b<=8:=by
 unfold h8 at a;split at a
 .rename_i d;cases a;simp only[cF,cC,bA]at d;omega
 grind
theorem Sr{l}{a}(b:jG i l=h a):c a<=8:=by unfold jG at b;grind[aa6]
theorem I5{ab}{k}:c ((dL i ab k).getD [])<=8:=by
 cases b:dL i ab k with
 |none=>simp
 |some d=>
  obtain⟨e,_,a⟩:=List.exists_of_findSome?_eq_some b;unfold gp at a;grind[Sr]
theorem Tb{ab}{b}(g:e<c b){s}{l}(d:(sR i ab b e)[w]?=h s)(n:(na i ab b)[e*2+w]?=h l):Rd bB l s:=by
 have j:w<2:=(cO.1 d).1;have:=CF (i:=i) (ab:=ab) g j;rw[Nat.mul_comm,this]at n;cases n
 match w,j with
 |0,_=>
  cases d;have:=I5 (i:=i) (ab:=ab) (k:=b.getD e 0);exact .V a y
 |1,_=>cases d;exact .bool
def _root_.Go.AM.db.le{P:aI}{d:ai P}{D}{aM}{F dE}{n}{s}(i:db d D s aM dE n)(b:ix F dE):db d D s aM F n:=λj e g a=>i j e (g.le b) a
def Ug(x:bL (ai.c6 V) 233 (m_ i))(ab)(b)(B:c b<=4000000):
  Y (ai.aT V) 188 [S i,a1.S ab,aB.S b] [] (Eg ((h2 i ab b).getD []) (h2 i ab b).isSome) []:=by
 refine bk.toY (bk.e3 (ι:=Unit) func188 rfl Sf rfl λK=>?_);show db _ 45 _ _ _ _;refine db.seq (bY.bA (g.aW ?_));refine aZ a v ?_;show db _ 45 _ _ _ _;refine db.seq (bY.bA (g.aW ?_));refine aZ a v (g.jw (W:=294) (k:=c b) bd a a a a a a zW y a a λN ag=>?_);refine aZ a v ?_;show db _ 45 _ _ _ _;refine db.seq (bY.bA (g.aW ?_));refine aZ a v ?_;show db _ 45 _ _ _ _;have r:db (ai.aT V) 45 n5 (λu p e=>∃_:Unit,bT f188 0 (Eg ((h2 i ab b).getD []) (h2 i ab b).isSome) [] u p e) (vA (c b) N) (rT i ab b N):=by
  refine bY.bA (bY.mono (aM:=bT f188 0 (Eg ((h2 i ab b).getD []) (h2 i ab b).isSome) []) (g.aW ?_) λ_ _ _ A=>⟨(),A⟩);refine aZ a (show _<=_ by omega) (g.iC 29 2 (bN:=.row N (c b)) (k:=c b) (i:=2) (sR i ab b) a a (λd j=>⟨a,λC l D Q M O=>?_⟩) ?_)
  .grind [Tb]
  refine g.bP 12 9 1 a a ?_;refine g.aN 6 (λd=>d<=c b/\∀l,l<d->(dL i ab (b.getD l 0)).isSome=f) (λd:Nat=>[(29,ax (.S m 2 (c b) (sR i ab b))),(30,S (c b)),(31,S d),(12,.q (.aq (.r 5 1 (c (mF i ab (b.take d))) (bQ.fn (mF i ab (b.take d))))))]) (λd=>[.x,.x,.x,.x,.x,.r 9 1 (c (mF i ab (b.take d))) (bQ.fn (mF i ab (b.take d)))]) (λd=>c b-d) 0 a ?_ a ?_ a ⟨by omega,by omega⟩ ?_
  .simp[bt,mF]
  .simp[bt,mF]
  rintro d ⟨j,F⟩;by_cases o:d<c b
  .cases t:(dL i ab (b.getD d 0)).isSome with
   |true=>
    have I:mF i ab (b.take (d+1))=mF i ab (b.take d)++[(dL i ab (b.getD d 0)).getD []]:=by unfold mF;grind[List.take_add_one]
    have J:c (mF i ab (b.take d))<=4000000:=by simp[mF];omega
    refine bP [(32,f),(37,m)] a ?_ (g.aB (d+1) a ?_ ?_ ?_ ?_)
    .simp[-al,o,sR,t,a7];have:s3.bytes=16:=rfl;grind
    .exact O2
    .exact O2
    .grind
    omega
   |false=>
    refine bP [(32,f),(37,f)] a ?_ (g.aX (bT.zero a ?_))
    .simp[-al,o,sR,t]
    have w:h2 i ab b=q:=Nr;simp[w]
  have z:d=c b:=y;subst z;refine bP [(32,m)] a E (g.aD ?_);refine cr a v (g.aw a ?_);have s:h2 i ab b=h (mF i ab b):=by
   unfold h2;rw[bs]
   .rfl
   grind[List.mem_iff_getElem]
  simp[s]
 exact db.le (n:=pz i ab b N ag) (X6 (ag:=ag) x B r) (eC a E)
end R1
end Go.AM
namespace Go.AM.R1
def rG(a)(b):is (a::b)=if a=47 then 0 else if is b=-1 then -1 else is b+1:=by unfold is;grind[Lib.indexByte.eq_def]
def CU:is []=-1:=cQ
def abb(b):jQ b=fK b:=by
 by_cases n:c b<=3
 .match b,n with
  |[],_=>exact cQ
  |[e],_=>
   by_cases a:e=47
   .exact hp
   simp[jQ,fK,jL,jI,kf,rG,CU,a,li,dj]
  |[e,g],_=>
   by_cases a:e=47
   .exact hp
   by_cases d:g=47
   .subst d;simp[jQ,fK,jL,jI,mq,kf,rG,a]
   simp[jQ,fK,jL,jI,kf,rG,CU,a,d]
  |[e,g,j],_=>
   by_cases a:e=47
   .subst a;simp[jQ,fK,jL,jI,mq,kf,rG,li,dj]
   by_cases d:g=47
   .subst d;simp[jQ,fK,jL,jI,mq,kf,rG,a,li,dj]
   have k:¬(g.toNat:Int)=47:=by intro l;apply d;apply un.1;grind
   by_cases i:j=47
   .subst i;simp[jQ,fK,jL,jI,mq,kf,rG,a,d,li,dj]
   simp[jQ,fK,jL,jI,kf,rG,CU,a,d,i,k,li,dj]
  |_::_::_::_::_,l=>grind
 have o:fK b=m:=by unfold fK;grind
 grind[KR]
end Go.AM.R1
namespace Go.AM
theorem xd(a):aW a []=m:=Fz
def AW(j)(d):aW [] (j::d)=f:=Fz
theorem uE(a j)(l X):aW (a::l) (j::X)=(decide (a<j)||a==j&&aW l X):=Fz
theorem xc:∀a:bE,aW a a=m
 |[]=>xd []
 |a::b=>by rw[uE,xc b];simp
def Gs:∀a b:bE,aW a b=f∨a=b∨aW b a=f
 |[],[]=>.inr (.inl rfl)
 |[],b::e=>.inl (AW b e)
 |a::d,[]=>.inr (.inr (AW a d))
 |a::d,b::e=>by
  rw[uE,uE];rcases Gs d e with g|g|g
  .grind
  .grind
  grind
theorem AX:∀{g i b:bE},aW g i=f->aW i b=f->aW g b=f
 |g,i,[],_,e=>by grind[xd]
 |g,[],b::j,d,_=>by grind[xd]
 |[],i::k,b::j,_,_=>AW b j
 |g::l,i::k,b::j,d,e=>by
  rw[uE,jz,cF,bA,hd]at d e⊢;rcases d with d|⟨rfl,d⟩
  .grind
  rcases e with e|⟨rfl,e⟩
  .grind
  exact .inr ⟨a,AX d e⟩
theorem Gr{a j}(b:aW a j=f):aW j a=m:=by grind[AX,xc]
def R7{a j}:(!(aW j a||j==a))=aW a j:=by
 rcases Gs a j with b|b|b
 .have s:(j==a)=m:=by simp[eU,d8];grind[xc]
  grind[Gr]
 .grind [xc]
 grind[Gr]
namespace R1
def Lx{o}{e}(g:∀a,0<a->a<=e->aW (cl o (a-1)) (cl o a)=f):∀b,b<e->aW (cl o b) (cl o e)=f:=by
 intro b n;induction e with
 |zero=>omega
 |succ e j=>
  have d:=g (e+1) y (bC _);simp[pX]at d;by_cases l:b=e
  .grind
  exact AX (j (λa i k=>g a i y) y) d
def KS{b}(d:fK b=f):(∃a,b=[a])∨∃a e,b=[a,47,e]:=by
 unfold fK at d;split at d
 .rename_i g
  match b,g with
  |[a],_=>grind
 split at d
 .rename_i g
  match b,g with
  |[a,e,i],_=>
   right;simp[li,dj]at d;have j:e=47:=by apply un.1;grind
   grind
 grind
theorem Ss{b d}(g:fK b=f)(i:fK d=f)(l:aW b d=f):k7 b d=under d b:=by
 rcases KS g with⟨a,rfl⟩|⟨a,j,rfl⟩<;>rcases KS i with⟨s,rfl⟩|⟨s,k,rfl⟩
 .exact cQ
 .by_cases e:a=s
  .subst e;simp[k7,under,oh,dj]
  have:¬(a.toNat:Int)=s.toNat:=λn=>e (un.1 y);have p:((a.toNat:Int)==(s.toNat:Int))=m:=M;have o:(s==a)=m:=M;simp[k7,under,oh,dj];grind
 .have:¬(a.toNat:Int)=s.toNat:=by grind[UInt8.toNat_inj,uE,xd]
  simp[k7,under,oh,dj,this]
 exact cQ
theorem L_{o}{e}(b:∀a,a<e->iR o a=f):mO o e=iR o e:=by
 unfold mO iR;rw[abb,R7];cases r:fK (cl o e)with
 |false=>simp
 |true=>
  cases l:fC (lr o e)with
  |false=>simp
  |true=>
   cases s:(e==0||aW (cl o (e-1)) (cl o e))with
   |false=>simp
   |true=>
    simp[fm];have p:∀a,a<e->aW (cl o a) (cl o e)=f:=by
     apply Lx;intro g j d;by_cases n:g=e
     .grind
     have:=b g y;simp[iR,cF,jz,hd]at this;grind
    rw[oX,fY,fY];have t:∀a,a<e->k7 (cl o a) (cl o e)=under (cl o e) (cl o a):=by
     intro a i;have k:fK (cl o a)=f:=by have:=b a i;simp[iR,cF]at this;exact this.1.1.1
     grind[Ss]
    grind
def rZ(o):qO o=dR o:=by
 unfold qO dR;congr 1;rw[oX,fY,fY];constructor
 .intro b e;induction e using Nat.strongRecOn with
  |_ e a=>grind[L_]
 grind[L_]
end R1
end Go.AM
namespace Go.AM
variable {k A:Nat}{i:Int}{d j e w:Nat}{W:av}{H:Z->(Nat->Option Obj)->Prop}{L:Array Bool}{bB:Mem}{D:Nat}{P:aI}{bq:ak->a5->Prop}{s:Code}{C:ak}{t:ap}{b:a5}{o:av}{aa:Z}{l X:aA}{α:Type}{η:aA->z}{ι:Type}{n:p an}{F:bH}{all:p ap}{dn:Array av}{cap:p N}{cR:p z}{k6:Nat->Option Obj}{ah:p aK}{bg:p (Nat×Bool)}{T:Nat->p N}{cP:aA}{gs:Array ak}{aO:p Nat}{cf:p Prop}{off:Nat}{op:BinOp}{aC:Array ap}{ab:p Prop}{br:p ap}{az:a5}{ty:av}{val:Nat->Nat->Z}{B:p Z}{bh:au}{ag:Array aA}{ao dd:p an}{res:ι->z}{aL:ι->p an}
variable {CT:p (Nat×bK)}{ar:p ig}{be:fq}{ad:p (Nat×bv)}{a4:bv}
namespace R1
section
variable {r:ai V}
def hh(d:Int)(a:p ca)(b:mZ):Option c':=match h2 d a b.2 with
 |none=>q
 |some e=>match jH e with
  |none=>q
  |some g=>h (b.1,g)
def fH(b:Int)(a:p ca)(d:p mZ):p c':=d.map λe=>(hh b a e).getD ([],[])
def fc(b:Int)(d:eE)(a:p ca):Option (p c'):=
 if cK b&&d.2.all (λe=>(hh b a e).isSome)&&dR (fH b a d.2)then h (fH b a d.2)else q
abbrev rX(a:p c')(b:Bool):z:=.Q [.aq (.c (.S m 2 (c a) (bD.fn a))),.aq (.c (.bool b))]
abbrev iJ(a:eE):z:=.q (.agg [.c (.int .i64 a.1),.c (.S m 2 (c a.2) (cu.fn a.2))])
theorem Cx{ab}{d}(a:e<c d):fH i ab (d.take (e+1))=fH i ab (d.take e)++[(hh i ab (d.getD e ([],[]))).getD ([],[])]:=by unfold fH;grind[List.take_add_one]
def D0{ab}{b}(d:e<c b.2)(a:hh i ab (b.2.getD e ([],[]))=q):fc i b ab=q:=by unfold fc;rw[bm];grind
def XR{ab}{a}{d}(b:h2 i ab a=h d)(k:c a<=4000000):c d.flatten<=140737488355328/\c d<=4000000:=by
 unfold h2 at b;split at b
 .rename_i j;cases b;refine⟨?_,by grind⟩;have key:∀a:p Int,(a.all λe=>(dL i ab e).isSome)=f->(a.map λe=>(dL i ab e).getD []).flatten.length<=8*c a:=by
   intro a;induction a with
   |nil=>grind
   |cons e a g=>
    intro b;simp only[List.all_cons,cF]at b;grind[I5]
  grind
 grind
def W1(i)(b)(ab)(X:c b.2<=4000000)(G:∀e∈b.2,c e.2<=4000000):
  Y (ai.aT V) 142 [S i,iJ b,a1.S ab] [] (rX ((fc i b ab).getD []) (fc i b ab).isSome) []:=by
 refine Y.K func142 rfl λI=>?_;have Z:=I.S 2 a;have j:a8 (ai.aT V) [(103,df c8 (λi=>bi (cK i)) λ_=>[])]:=.cons rW .nil;cases b1:cK i with
 |false=>
  refine a_ j [(15,m),(16,f)] a lv (g.aw a ?_);simp[fc,b1]
 |true=>
  have R:bL (ai.c6 V) 233 (m_ i):=adw zi b1;refine a_ j [(15,f),(16,m),(1000004,f)] a lv (g.bP 8 46 2 a a ?_);refine b_ j a v (g.aN 2 (λd=>d<=c b.2/\∀w,w<d->(hh i ab (b.2.getD w ([],[]))).isSome=f) (λd:Nat=>[(0,S i),(2,a1.S ab),(4,aG 0 0),(8,.q (.aq (.r 1 2 (c (fH i ab (b.2.take d))) (bD.fn (fH i ab (b.2.take d)))))),(18,cu.S b.2),(19,S (c b.2)),(20,S d)]) (λd=>[.cells 106 [.c (.int .i64 b.1),.c (.S m 2 (c b.2) (cu.fn b.2))],.r 46 2 (c (fH i ab (b.2.take d))) (bD.fn (fH i ab (b.2.take d)))]) (λd=>c b.2-d) 0 a z1 a z1 a ⟨by omega,by omega⟩ ?_);rintro d ⟨J,aa⟩;by_cases p:d<c b.2
  .have t:b.2.getD d ([],[])∈b.2:=M;generalize n:b.2.getD d ([],[])=e at t;have A:=G e t;have o:=Ug R ab e.2 A;cases k:h2 i ab e.2 with
   |none=>
    rw[k]at o;refine a_ j [(21,f)] a bw (g.aF (n▸o) [] a (a_ j [(33,f)] a E (g.aX (bT.zero a ?_))));have l:hh i ab e=q:=by simp[hh,k]
    rw[D0 p M];simp
   |some x=>
    obtain⟨T,z⟩:=XR k A;rw[k]at o;have K:=T1 (r:=ai.aT V) x T;refine a_ j [(21,f)] a bw (g.aF (n▸o) [] a (a_ j [(33,m)] a E (g.aF K [] a ?_)));cases O:jH x with
    |none=>
     refine a_ j [(40,f)] a E (g.aX (bT.zero a ?_));have l:hh i ab e=q:=by simp[hh,k,O]
     rw[D0 p M];simp
    |some s=>
     have l:hh i ab e=h (e.1,s):=by simp[hh,k,O]
     have F:b.2.getD (d:Int).toNat cu.I=e:=n;have W:c (fH i ab (b.2.take d))<=4000000:=by simp[fH];omega
     have D:bt (c (fH i ab (b.2.take d))+1) (ce (c (fH i ab (b.2.take d))) (bD.fn (fH i ab (b.2.take d))) λQ=>[[N.V (b.2.getD (d:Int).toNat cu.I).1,N.V ((h s).getD [])]].getD Q []) (bD.fn (fH i ab (b.2.take (d+1)))):=by rw[Cx p,n,l,F];exact bD.a0 (fH i ab (b.2.take d)) (e.1,s)
     have C:c (fH i ab (b.2.take d))+1=c (fH i ab (b.2.take (d+1))):=by grind[Cx]
     refine a_ j [(40,m)] a ?_ (g.aB (d+1) a ?_ ?_ ?_ ?_)
     .refine⟨by exact bJ,a,a,?_,a⟩;show _*32<=_;omega
     .refine U.Y.2 ⟨a,U.Y.2 ⟨⟨a,bt.same⟩,U.Y.2 ⟨v,U.Y.2 ⟨⟨C,D⟩,U.Y.2 ⟨⟨a,bt.same⟩,U.Y.2 ⟨a,U.Y.2 ⟨?_,v⟩⟩⟩⟩⟩⟩⟩;simp
     .exact U.Y.2 ⟨U.Y.2 ⟨a,U.Y.2 ⟨⟨a,bt.same⟩,v⟩⟩,U.Y.2 ⟨⟨C,D⟩,v⟩⟩
     .grind
     omega
  have l:d=c b.2:=y;subst l;refine a_ j [(21,m)] a E (g.aD ?_);rw[c9];have u:=IX (r:=ai.aT V) (fH i ab b.2);rw[rZ]at u;refine b_ j a v (g.aF u [] a ?_);have H:b.2.all (λe=>(hh i ab e).isSome)=f:=List.all_eq_true.2 λe t=>by grind[List.mem_iff_getElem]
  cases B:dR (fH i ab b.2)with
  |false=>
   refine a_ j [(51,f)] a E (g.aw a ?_);simp[fc,B]
  |true=>
   refine a_ j [(51,m)] a E (g.aw a ?_);simp[fc,B,b1,H]
abbrev cz:=p ca×p eE×p (Int×Int)
def ln(b:cz):Prop:=∀a∈b.2.1,c a.2<=4000000/\∀d∈a.2,c d.2<=4000000
abbrev b9(a:cz):z:=.q (.agg [.c (.S m 2 (c a.1) (a1.fn a.1)),.c (.S m 2 (c a.2.1) (bj.fn a.2.1)),.c (.S m 2 (c a.2.2) (a2.fn a.2.2))])
def He:bK:=kb c8 (jx cu) (eX a1) (λd b a=>rX ((fc d b a).getD []) (fc d b a).isSome) λ_ b _=>[c b.2<=4000000,∀e∈b.2,c e.2<=4000000]
def ad7:bL (ai.aT V) 142 He:=.c0 λd e a b=>W1 d e a b.1 b.2
def o1:iW cz:=⟨b9,λs=>match s with
 |.q (.agg [.c r,.c t,.c u])=>match jU 2 (ax r)with
  |some (j,g)=>match jU 2 (ax t)with
   |some (k,l)=>match jU 2 (ax u)with
    |some (p,i)=>h ((a1.af j g,bj.af k l,a2.af p i),[a1.bW j g,bj.bW k l,a2.bW p i])
    |none=>q
   |none=>q
  |none=>q
 |_=>q,λ{s r E} e d n b aa z=>by
 split at e
 .split at e
  .rename_i j g o;split at e
   .rename_i k l x;split at e
    .rename_i p i C;cases e;obtain⟨B,w,a⟩:=z
     match B,a with
     |[],a=>exact a.elim
     |[_],a=>exact a.2.elim
     |[_,_],a=>exact a.2.2.elim
     |_::_::_::_::_,a=>exact a.2.2.2.elim
     |[A,D,y],a=>
      exact⟨_,w,a1.cC (n:=[]) (b:=b) (aa:=A) o d.1 a.1,bj.cC (n:=[]) (b:=b) (aa:=D) x d.2.1 a.2.1,a2.cC (n:=[]) (b:=b) (aa:=y) C d.2.2 a.2.2.1,v⟩
    grind
   grind
  grind
 grind⟩
abbrev d9(b:ca)(a:Nat):cW:=b.2.getD a (0,[])
def h'(d:Int)(b:ca)(a:Nat):Bool:=right d (d9 b a)&&(a==0||decide ((d9 b (a-1)).1<(d9 b a).1))
theorem Dq(i)(a):h7 i a=((aD (c a.2)).all (h' i a)&&(cK i&&decide (1<=a.1)&&decide (a.1<=99)&&decide (1<=c a.2)&&decide (c a.2<=4))):=by
 have k:(a.2.all (right i)&&D1 (a.2.map (·.1)))=(aD (c a.2)).all (h' i a):=by
  rw[oX,cF,List.all_eq_true,List.all_eq_true];unfold D1;rw[List.all_eq_true];have d:∀e,e<c a.2->(a.2.map (·.1)).getD e 0=(d9 a e).1:=λe bp=>by grind
  constructor
  .rintro⟨j,b⟩ e bp;have bp:=sn.1 bp;have l:=b e M;rw[d e bp]at l;unfold h';rw[j (d9 a e) M,fm];rcases nZ e with rfl|n
   .rfl
   grind
  intro u;refine⟨λo g=>?_,λe bp=>?_⟩
  .obtain⟨e,bp,rfl⟩:=AE.1 g;exact P3
  have bp:e<c a.2:=M;exact P3
 rw[<-k];unfold h7;cases cK i<;>cases decide (1<=a.1)<;>cases decide (a.1<=99)<;>cases decide (1<=c a.2)<;>cases decide (c a.2<=4)<;>simp
def KM{a}(b:e<c a.2)(d:h' i a e=m):h7 i a=m:=by grind[Dq]
theorem BE{l}(a:cK i=f):(jG i l).isSome=right i l:=by unfold jG right;grind
def Wg(i)(b)(j:cK i=f)(B:c b.2<=4000000):Y r 138 [S i,fz b] [] (bi (h7 i b)) []:=by
 refine Y.K func138 rfl λF=>?_;have e:a8 r [(103,df c8 (λi=>bi (cK i)) λ_=>[]),(184,ek sf c8 (λA i=>iI (jG i A)) λ_ i=>[cK i=f])]:=.cons rW (.cons (Mo zi) .nil);refine b_ e a v (g.aN 1 (λd=>d<=c b.2/\∀k,k<d->h' i b k=f) (λd:Nat=>[(0,S i),(3,aG 0 0),(10,bG.S b.2),(11,S (c b.2)),(12,S d)]) (λ_=>[.cells 91 [.c (.int .i64 b.1),.c (ll b)]]) (λd=>c b.2-d) 0 a E a E a ⟨by omega,by omega⟩ ?_);rintro d ⟨w,t⟩;by_cases p:d<c b.2
 .cases n:right i (d9 b d)with
  |false=>
   have o:(jG i (d9 b d)).isSome=m:=by grind[BE]
   refine a_ e [(13,f),(24,f),(40,f)] a dA (g.aX (bT.zero a ?_));rw[KM p (by simp only[h',n,sv])];simp
  |true=>
   have o:(!(jG i (d9 b d)).isSome)=m:=by grind[BE]
   by_cases z:d=0
   .subst z;refine a_ e [(13,f),(24,m),(27,m),(40,m)] a lG (g.aB 1 a E E ⟨by omega,λk l=>?_⟩ y);have:k=0:=y;subst this;simp only[h',n,fm];rfl
   have K:((d:Int)-1).toNat=d-1:=y;cases s:decide ((d9 b (d-1)).1<(d9 b d).1)with
   |false=>
    refine a_ e [(13,f),(24,m),(27,f),(38,f),(40,f)] a ?_ (g.aX (bT.zero a ?_))
    .have C:(b.2.getD ((d:Int)-1).toNat bG.I).1=(d9 b (d-1)).1:=bJ;refine⟨a,fk ?_,by omega,by omega,by exact bJ,fk y,o,j,by omega,by omega,fk y⟩;rw[C];show(d9 b d).1<=_;grind
    rw[KM p (by simp[h',n,s,fm,Bool.or_false];grind)];simp
   |true=>
    refine a_ e [(13,f),(24,m),(27,f),(38,m),(40,m)] a ?_ (g.aB (d+1) a ?_ ?_ ⟨by omega,λk l=>?_⟩ y)
    .have C:(b.2.getD ((d:Int)-1).toNat bG.I).1=(d9 b (d-1)).1:=bJ;refine⟨by exact bJ,a,lB ?_,by omega,by omega,by exact bJ,fk y,o,j,by omega,by omega,fk y⟩;rw[C];show¬(d9 b d).1<=_;grind
    .simp
    .simp
    rcases Ar.1 l with l|rfl
    .grind
    simp only[h',n,s,fm,Bool.or_true]
 have u:d=c b.2:=y;subst u;refine a_ e [(13,m)] a E (g.aD ?_);have x:(aD (c b.2)).all (h' i b)=f:=List.all_eq_true.2 λk l=>t k (sn.1 l);rw[Dq,x,j];by_cases I:1<=b.1
 .by_cases J:b.1<=99
  .by_cases M:1<=c b.2
   .by_cases D:c b.2<=4
    .refine a_ e [(43,f),(47,f),(52,f),(58,f),(64,f)] a bJ (g.aw a ?_);exact bw
    refine a_ e [(43,f),(47,f),(52,f),(58,f),(64,m)] a bJ (g.aw a ?_);exact bw
   refine a_ e [(43,f),(47,f),(52,f),(58,m)] a dA (g.aw a ?_);exact bw
  refine a_ e [(43,f),(47,f),(52,m)] a dA (g.aw a ?_);exact bw
 refine a_ e [(43,f),(47,m)] a dA (g.aw a ?_);exact bw
def Br:bK:=ek c8 (jx bG) (λa b=>bi (h7 a b)) λa b=>[cK a=f,c b.2<=4000000]
def Mu:bL r 138 Br:=.bl λb d a=>Wg b d a.1 a.2
def Ih(d)(i:c d<=4000000):Y r 122 [a2.S d] [] (cy 0 (.S (c d) 2 0 (c d))) [.h 140 2 (c d) (a2.fn d)]:=by
 refine Y.K func122 rfl λj=>?_;refine aZ a v (g.ek bd a a a a a a λb e=>?_);cases b with
 |true=>
  obtain rfl:=jy (e rfl);refine aZ a v (g.fb 2 140 2 (a2.fn []) a ?_);exact E2
 |false=>
  refine gI [] 7 a v (g.dJ 5 140 2 (a2.fn []) a ?_);refine aZ a ⟨a,a,show(0+c d)*16<=_ by omega⟩ (g.ba [.h 140 2 (c d) (a2.fn d)] a ?_ ?_)
  .simp[bt,ce]
  exact Fc
def Ij(d)(e:c d<=4000000):Y r 122 [a2.S d] [] (a2.S d) []:=by
 refine Y.K func122 rfl λi=>?_;refine aZ a v (g.ek bd a a a a a a λb x=>?_);cases b with
 |true=>
  exact Fa
 |false=>
  exact aZ a ⟨show(0+c d)*16<=_ by omega,.inl a⟩ ET
def TJ(d)(e:c d<=4000000):Y r 170 [bG.S d] [] (bG.S d) []:=by
 refine Y.K func170 rfl λi=>?_;refine aZ a v (g.ek bd a a a a a a λb x=>?_);cases b with
 |true=>
  exact Fa
 |false=>
  exact aZ a ⟨show(0+c d)*24<=_ by omega,.inl a⟩ ET
def B9(d)(e:c d<=4000000):Y r 46 [aB.S d] [] (aB.S d) []:=by
 refine Y.K func46 rfl λi=>?_;refine aZ a v (g.ek bd a a a a a a λb x=>?_);cases b with
 |true=>
  exact Fa
 |false=>
  exact aZ a ⟨show(0+c d)*8<=_ by omega,.inl a⟩ ET
def _root_.Go.AM.cY.cU(a:cY α)(d)(j:e<c d)(b):bt (e+1) (ce e (a.fn (d.take e)) (λg=>[a.a8 (d.getD e b)].getD g [])) (a.fn (d.take (e+1))):=by
 have i:d.take (e+1)=d.take e++[d.getD e b]:=by grind[List.take_add_one]
 have:=a.a0 (d.take e) (d.getD e b);grind
abbrev GG:bK:=df (eX bG) (λa=>bG.S a) λa=>[c a<=4000000]
def ado:bL r 170 GG:=.bb λb a=>TJ b a
abbrev GH:bK:=df (eX aB) (λa=>aB.S a) λa=>[c a<=4000000]
def adp:bL r 46 GH:=.bb λb a=>B9 b a
def Wb(b)(d:c b.2<=4000000):Y r 120 [fz b] [] (fz b) []:=by
 refine Y.bp bd func120 rfl rfl rfl λj=>?_;have e:a8 r [(170,GG)]:=.cons ado .nil;refine b_ e a ?_ ?_
 .simp only[U,bG.E];exact⟨bG.U _,d⟩
 refine g.bd () [] ?_ (λk i=>absurd i E);simp[bG.E]
abbrev xr:bK:=df (jx bG) (λa=>fz a) λa=>[c a.2<=4000000]
def Ei:bL r 120 xr:=.bb λb a=>Wb b a
def WV(l)(w:c l.2<=4000000)(k:∀s∈l.2,c s.2<=4000000):Y r 121 [iJ l] [] (iJ l) []:=by
 refine Y.bp bd func121 rfl rfl rfl λu=>?_;have d:a8 r [(46,GH)]:=.cons adp .nil;refine a_ d [(1000002,f)] a v (g.cn 2 1 142 2 (cu.fn []) a a ?_);refine b_ d a v ?_;refine g.aN 4 (λb=>b<=c l.2) (λb:Nat=>[(2,aG 1 0),(3,aG 2 0),(10,cu.S l.2),(11,S (c l.2)),(12,S b)])
  (λb=>[.cells 106 [.c (.int .i64 l.1),.c (.S m 2 (c l.2) (cu.fn l.2))],.cells 106 [.c (.int .i64 0),.c (.S f 0 0 λ_=>[])],.cells 106 [.c (.int .i64 l.1),.r 3 2 b (cu.fn (l.2.take b))],.r 142 2 b (cu.fn (l.2.take b))]) (λb=>c l.2-b) 0 a ?_ a ?_ a y ?_
 .simp
 .simp
 intro b o;by_cases n:b<c l.2
 .have C:l.2.getD b ([],[])∈l.2:=M;refine a_ d [(13,f)] a ?_ (g.aB (b+1) a ?_ ?_ ?_ ?_)
  .have p:=k _ C;have e:l.2.getD (b:Int).toNat cu.I=l.2.getD b ([],[]):=M;simp only[U,e,aB.E,a7];exact⟨by omega,v,v,show(b+1)*40<=_ by omega,aB.U _,p,by omega,by omega,fk y⟩
  .simp
  .have e:l.2.getD (b:Int).toNat cu.I=l.2.getD b ([],[]):=M;have i:=cu.cU l.2 n ([],[]);simp only[U.Y,U,e,aB.E,a9,ba];exact⟨bt.same,bt.same,i,i⟩
  .grind
  omega
 obtain rfl:b=c l.2:=y;refine a_ d [(13,m)] a E (g.aD ?_);refine b_ d a v (g.bd () [] ?_ (λt j=>absurd j E));simp
abbrev xt:bK:=df (jx cu) (λa=>iJ a) λa=>[c a.2<=4000000,∀b∈a.2,c b.2<=4000000]
def Ej:bL r 121 xt:=.bb λb a=>WV b a.1 a.2
abbrev cB:O:=.c (.S f 0 0 λ_=>[])
def o8(b)(p:c b.1<=4000000)(C:∀n∈b.1,c n.2<=4000000)(t:c b.2.1<=4000000)(I:ln b)(l:c b.2.2<=4000000):
  Y r 80 [b9 b] [] (.q (.agg [.R 0 (.S (c b.1) 2 0 (c b.1)),.R 1 (.S (c b.2.1) 2 0 (c b.2.1)),.c (.S m 2 (c b.2.2) (a2.fn b.2.2))])) [.h 91 2 (c b.1) (a1.fn b.1),.h 106 2 (c b.2.1) (bj.fn b.2.1)]:=by
 refine Y.bp bd func80 rfl rfl rfl λs=>?_;have d:a8 r [(120,xr),(121,xt)]:=.cons Ei (.cons Ej .nil);refine a_ d [(1000002,f)] a v (g.eh 2 0 91 2 (a1.fn []) a a ?_);refine g.eh 2 1 106 2 (bj.fn []) a a ?_;refine b_ d a v ?_;refine g.aN 5 (λe=>e<=c b.1) (λe:Nat=>[(1,aG 0 0),(2,aG 1 0),(3,aG 2 0),(9,a1.S b.1),(10,S (c b.1)),(11,S e)])
  (λe=>[.cells 27 [.c (.S m 2 (c b.1) (a1.fn b.1)),.c (.S m 2 (c b.2.1) (bj.fn b.2.1)),.c (.S m 2 (c b.2.2) (a2.fn b.2.2))],.cells 27 [cB,cB,cB],.cells 27 [.R 3 (.S e 2 0 e),.R 4 (.S 0 2 0 0),cB],.h 91 2 e (a1.fn (b.1.take e)),.h 106 2 0 (bj.fn [])]) (λe=>c b.1-e) 0 a ?_ a ?_ a y ?_
 .simp
 .simp
 intro e i;by_cases u:e<c b.1
 .have ae:b.1.getD e (0,[])∈b.1:=M;have j:b.1.getD (e:Int).toNat a1.I=b.1.getD e (0,[]):=M;refine a_ d [(12,f)] a O3 (g.aB (e+1) a E PD M ?_);omega
 obtain rfl:e=c b.1:=y;rw[c9];refine a_ d [(12,m)] a E (g.aD ?_);refine b_ d a v ?_;refine g.aN 5 (λe=>e<=c b.2.1) (λe:Nat=>[(1,aG 0 0),(2,aG 1 0),(3,aG 2 0),(24,bj.S b.2.1),(25,S (c b.2.1)),(26,S e)])
  (λe=>[.cells 27 [.c (.S m 2 (c b.1) (a1.fn b.1)),.c (.S m 2 (c b.2.1) (bj.fn b.2.1)),.c (.S m 2 (c b.2.2) (a2.fn b.2.2))],.cells 27 [cB,cB,cB],.cells 27 [.R 3 (.S (c b.1) 2 0 (c b.1)),.R 4 (.S e 2 0 e),cB],.h 91 2 (c b.1) (a1.fn b.1),.h 106 2 e (bj.fn (b.2.1.take e))]) (λe=>c b.2.1-e) 0 a ?_ a ?_ a y ?_
 .simp
 .simp
 intro e i;by_cases u:e<c b.2.1
 .have ae:b.2.1.getD e (0,[])∈b.2.1:=M;have j:b.2.1.getD (e:Int).toNat bj.I=b.2.1.getD e (0,[]):=M;refine a_ d [(27,f)] a PS (g.aB (e+1) a E E_ M ?_);omega
 obtain rfl:e=c b.2.1:=y;rw[c9];refine a_ d [(27,m)] a E (g.aD ?_);refine b_ d a v (g.aF (Ij b.2.2 l) [] a (b_ d a v (g.bd () [3,4] ?_ (λo k=>absurd k E))));simp
def IS(b)(p:c b.1<=4000000)(C:∀n∈b.1,c n.2<=4000000)(t:c b.2.1<=4000000)(I:ln b)(l:c b.2.2<=4000000):
  Y r 80 [b9 b] [] (.q (.agg [.R 0 (.S (c b.1) 2 0 (c b.1)),.R 1 (.S (c b.2.1) 2 0 (c b.2.1)),.R 2 (.S (c b.2.2) 2 0 (c b.2.2))])) [.h 91 2 (c b.1) (a1.fn b.1),.h 106 2 (c b.2.1) (bj.fn b.2.1),.h 140 2 (c b.2.2) (a2.fn b.2.2)]:=by
 refine Y.bp bd func80 rfl rfl rfl λs=>?_;have d:a8 r [(120,xr),(121,xt)]:=.cons Ei (.cons Ej .nil);refine a_ d [(1000002,f)] a v (g.eh 2 0 91 2 (a1.fn []) a a ?_);refine g.eh 2 1 106 2 (bj.fn []) a a ?_;refine b_ d a v ?_;refine g.aN 5 (λe=>e<=c b.1) (λe:Nat=>[(1,aG 0 0),(2,aG 1 0),(3,aG 2 0),(9,a1.S b.1),(10,S (c b.1)),(11,S e)])
  (λe=>[.cells 27 [.c (.S m 2 (c b.1) (a1.fn b.1)),.c (.S m 2 (c b.2.1) (bj.fn b.2.1)),.c (.S m 2 (c b.2.2) (a2.fn b.2.2))],.cells 27 [cB,cB,cB],.cells 27 [.R 3 (.S e 2 0 e),.R 4 (.S 0 2 0 0),cB],.h 91 2 e (a1.fn (b.1.take e)),.h 106 2 0 (bj.fn [])]) (λe=>c b.1-e) 0 a ?_ a ?_ a y ?_
 .simp
 .simp
 intro e i;by_cases u:e<c b.1
 .have ae:b.1.getD e (0,[])∈b.1:=M;have j:b.1.getD (e:Int).toNat a1.I=b.1.getD e (0,[]):=M;refine a_ d [(12,f)] a O3 (g.aB (e+1) a E PD M ?_);omega
 obtain rfl:e=c b.1:=y;rw[c9];refine a_ d [(12,m)] a E (g.aD ?_);refine b_ d a v ?_;refine g.aN 5 (λe=>e<=c b.2.1) (λe:Nat=>[(1,aG 0 0),(2,aG 1 0),(3,aG 2 0),(24,bj.S b.2.1),(25,S (c b.2.1)),(26,S e)])
  (λe=>[.cells 27 [.c (.S m 2 (c b.1) (a1.fn b.1)),.c (.S m 2 (c b.2.1) (bj.fn b.2.1)),.c (.S m 2 (c b.2.2) (a2.fn b.2.2))],.cells 27 [cB,cB,cB],.cells 27 [.R 3 (.S (c b.1) 2 0 (c b.1)),.R 4 (.S e 2 0 e),cB],.h 91 2 (c b.1) (a1.fn b.1),.h 106 2 e (bj.fn (b.2.1.take e))]) (λe=>c b.2.1-e) 0 a ?_ a ?_ a y ?_
 .simp
 .simp
 intro e i;by_cases u:e<c b.2.1
 .have ae:b.2.1.getD e (0,[])∈b.2.1:=M;have j:b.2.1.getD (e:Int).toNat bj.I=b.2.1.getD e (0,[]):=M;refine a_ d [(27,f)] a PS (g.aB (e+1) a E E_ M ?_);omega
 obtain rfl:e=c b.2.1:=y;rw[c9];refine a_ d [(27,m)] a E (g.aD ?_);refine b_ d a v (g.aF (Ih b.2.2 l) [] a (b_ d a v (g.bd () [3,4,5] ?_ (λo k=>absurd k E))));simp
def gE(d:α->Bool)(b:p α):Int:=match b.findIdx? d with|some a=>a|none=>-1
def s4{a:α->Bool}{o}{I}(d:e<c o)(i:a (o.getD e I)=f)(g:∀b,b<e->a (o.getD b I)=m):gE a o=e:=by
 have:o.findIdx? a=h e:=by grind[List.findIdx?_eq_some_iff_getElem]
 rw[gE,this]
def s5{a:α->Bool}{o}{I}(d:∀b,b<c o->a (o.getD b I)=m):gE a o=-1:=by have:o.findIdx? a=q:=wu;rw[gE,this]
def UM(d)(t:c d<=4000000)(j)(ah)(b:ca->Bool)(o:∀l,l∈d->Y r j [fz l,ax (.O ah)] [] (bi (b l)) []):
  Y r 109 [cy 0 (.S (c d) 2 0 (c d)),ax (.fn (.func j) [] [.O ah])] [.h 91 2 (c d) (a1.fn d)] (S (gE b d)) [.h 91 2 (c d) (a1.fn d)]:=by
 refine Y.K func109 rfl λs=>?_;refine aZ a v (g.aN 1 (λe=>e<=c d/\∀w,w<e->b (d.getD w (0,[]))=m) (λe:Nat=>[(0,cy 0 (.S (c d) 2 0 (c d))),(1,ax (.fn (.func j) [] [.O ah])),(7,S (c d)),(8,S e)]) (λ_=>[.h 91 2 (c d) (a1.fn d)]) (λe=>c d-e) 0 a E a E a ⟨by omega,by omega⟩ ?_);rintro e ⟨p,x⟩;by_cases u:e<c d
 .have i:d.getD e (0,[])∈d:=M;have n:d.getD ((0+(e:Int).toNat:Nat)) a1.I=d.getD e (0,[]):=nK;refine a6 [(9,f)] a bw ?_;rw[n];refine g.aF (o _ i) [] a ?_;cases C:b (d.getD e (0,[]))with
  |true=>
   exact NK
  |false=>
   exact zJ
 exact PR
def UP(d)(t:c d<=4000000)(j)(ah)(b:eE->Bool)(o:∀l,l∈d->Y r j [iJ l,ax (.O ah)] [] (bi (b l)) []):
  Y r 123 [cy 0 (.S (c d) 2 0 (c d)),ax (.fn (.func j) [] [.O ah])] [.h 106 2 (c d) (bj.fn d)] (S (gE b d)) [.h 106 2 (c d) (bj.fn d)]:=by
 refine Y.K func123 rfl λs=>?_;refine aZ a v (g.aN 1 (λe=>e<=c d/\∀w,w<e->b (d.getD w (0,[]))=m) (λe:Nat=>[(0,cy 0 (.S (c d) 2 0 (c d))),(1,ax (.fn (.func j) [] [.O ah])),(7,S (c d)),(8,S e)]) (λ_=>[.h 106 2 (c d) (bj.fn d)]) (λe=>c d-e) 0 a E a E a ⟨by omega,by omega⟩ ?_);rintro e ⟨p,x⟩;by_cases u:e<c d
 .have i:d.getD e (0,[])∈d:=M;have n:d.getD ((0+(e:Int).toNat:Nat)) bj.I=d.getD e (0,[]):=nK;refine a6 [(9,f)] a bw ?_;rw[n];refine g.aF (o _ i) [] a ?_;cases C:b (d.getD e (0,[]))with
  |true=>
   exact NK
  |false=>
   exact zJ
 exact PR
def UG(d)(z:c d<=4000000)(j)(ah)(k:(Int×Int)->Bool)(p:∀l,l∈d->Y r j [.q (.agg [.c (.int .i64 l.1),.c (.int .i64 l.2)]),ax (.O ah)] [] (bi (k l)) []):
  Y r 190 [a2.S d,ax (.fn (.func j) [] [.O ah])] [] (S (gE k d)) []:=by
 refine Y.K func190 rfl λw=>?_;refine aZ a v (g.aN 0 (λe=>e<=c d/\∀b,b<e->k (d.getD b (0,0))=m) (λe:Nat=>[(0,a2.S d),(1,ax (.fn (.func j) [] [.O ah])),(7,S (c d)),(8,S e)]) (λ_=>[]) (λe=>c d-e) 0 a E a E a ⟨by omega,by omega⟩ ?_);rintro e ⟨u,n⟩;by_cases t:e<c d
 .have i:d.getD e (0,0)∈d:=M;have o:d.getD (((e:Int).toNat)) a2.I=d.getD e (0,0):=nK;refine a6 [(9,f)] a bw ?_;rw[o];refine g.aF (p _ i) [] a ?_;cases s:k (d.getD e (0,0))with
  |true=>
   refine a6 [(16,f)] a E (g.aX (bT.mk [] a ?_ a a a fI));simp[s4 t s n]
  |false=>
   exact zJ
 refine a6 [(9,m)] a bX (g.aD ?_);refine aZ a v (g.aS [] a ?_ fI);simp[s5 (λb x=>n b y)]
def yn(b:α->Bool)(d):(gE b d=-1/\∀a∈d,b a=m)∨∃e:Nat,e<c d/\gE b d=e/\(∀a∈d.take e,b a=m)/\(∀a,d[e]?=h a->b a=f):=by unfold gE;grind[List.findIdx?_eq_some_iff_getElem,List.getElem_of_mem]
def Nd{eV bp}{b}(a:¬(eV<=w/\w<bp)):nH eV bp b T w=T w:=bm a
theorem ia{a:p α}(d:e<c a)(b:α):a.take (e+1)=a.take e++[a.getD e b]:=by grind[List.take_add_one]
def I7{d}{b:α->Bool}(g:e<c d)(i:∀a∈d.take e,b a=m)(j:∀a,d[e]?=h a->b a=f):(d.take (e+1)).filter (λa=>!b a)=d.take e:=by grind[List.take_add_one,List.filter_eq_self]
def _root_.Go.AM.cY.cT(a:cY α)(d)(e)(l)(k)(b:k<=c d):bt k (lm e (a.a8 l) (a.fn d)) (a.fn (d.set e l)):=by intro i g;simp only[lm,cY.fn,gr];grind
structure Ri(d:p ca)(bc:ca->Bool)(w:Nat)(nG:p ca):Prop where
 fD:w<=c d
 len:c nG=c d
 done:nG.take (c ((d.take w).filter λl=>!bc l))=(d.take w).filter λl=>!bc l
 hJ:∀e,w<=e->nG[e]?=d[e]?
def T9(d)(z:c d<=4000000)(j)(ah)(bc:ca->Bool)(o:∀l,l∈d->Y r j [fz l,ax (.O ah)] [] (bi (bc l)) []):
  bk (ι:={n:Nat->p N // ∀e,e<c (d.filter λl=>!bc l)->n e=a1.fn (d.filter λl=>!bc l) e}) r 151 [cy 0 (.S (c d) 2 0 (c d)),ax (.fn (.func j) [] [.O ah])] [.h 91 2 (c d) (a1.fn d)]
   (λ_=>cy 0 (.S (c d) 2 0 (c (d.filter λl=>!bc l)))) (λn=>[.h 91 2 (c d) n.1]):=by
 refine bk.cu func151 rfl rfl rfl λF=>?_;refine aZ a v (g.aF (UM d z j ah bc o) [0] a ?_);rcases yn bc d with⟨k,A⟩|⟨i0,C,k,A,aa⟩
 .rw[k];have B:d.filter (λl=>!bc l)=d:=sg.2 λl s=>by grind
  refine a6 [(12,f)] a E (g.bL ⟨a1.fn d,λe _=>by grind⟩ (g.aS [0] a ?_ h3));simp[B]
 rw[k];refine a6 [(12,m)] a oJ ?_;refine g.aN 1 (λb:Nat×p ca=>Ri d bc b.1 b.2) (λb=>[(0,cy 0 (.S (c d) 2 0 (c d))),(1,ax (.fn (.func j) [] [.O ah])),(5,S (c ((d.take b.1).filter λl=>!bc l))),(6,S b.1)])
  (λb=>[.h 91 2 (c d) (a1.fn b.2)]) (λb=>c d-b.1) (i0+1,d) a ?_ a ?_ a ?_ ?_
 .exact QL
 .simp
 .exact QC
 rintro⟨w,I⟩ ⟨t,a',R,bz⟩;simp only at t a' R bz;by_cases J:w<c d
 .have s:d.getD w (0,[])∈d:=M;have u:c ((d.take w).filter λl=>!bc l)<=w:=fF (kz _ _) M;have D:I.getD (0+(w:Int).toNat) a1.I=d.getD w (0,[]):=M;refine a6 [(19,f)] a pJ ?_;rw[D];refine g.aF (o _ s) [] a ?_;cases K:bc (d.getD w (0,[]))with
  |false=>
   have i:(d.take (w+1)).filter (λl=>!bc l)=(d.take w).filter (λl=>!bc l)++[d.getD w (0,[])]:=ib;refine a6 [(29,f)] a ?_ (g.aB (w+1,I.set (c ((d.take w).filter λl=>!bc l)) (d.getD w (0,[]))) a ?_ ?_ ?_ ?_)
   .simp only[U,a7];grind
   .simp[i]
   .have aj:=a1.cT I (c ((d.take w).filter λl=>!bc l)) (d.getD w (0,[])) (c d) y;exact Oc
   .refine⟨by grind,by grind,Pk,λe bp=>?_⟩;grind
   grind
  |true=>
   have i:(d.take (w+1)).filter (λl=>!bc l)=(d.take w).filter (λl=>!bc l):=ib;refine a6 [(29,m)] a oJ (g.aB (w+1,I) a ?_ ?_ ?_ ?_)
   .simp[i]
   .simp
   .exact PN
   grind
 obtain rfl:w=c d:=y;rw[c9]at R⊢;have u:c (d.filter λl=>!bc l)<=c d:=kz _ _;refine a6 [(19,m)] a E (g.aD ?_);refine aZ a pJ (g.aP (a0.eT bd a a a a a a wt) a a ?_);refine aZ a pJ (g.bL ⟨nH (0+bS 0 (h (c (d.filter λl=>!bc l):Int))) (0+bS 0 (h (c (d.filter λl=>!bc l):Int))+(bS (c d) q-bS 0 (h (c (d.filter λl=>!bc l):Int)))) np.zero (a1.fn I),λe bp=>OF⟩ (g.aS [0] a ?_ h3));simp[bS];rfl
structure Rj(d:p eE)(bc:eE->Bool)(w:Nat)(nG:p eE):Prop where
 fD:w<=c d
 len:c nG=c d
 done:nG.take (c ((d.take w).filter λl=>!bc l))=(d.take w).filter λl=>!bc l
 hJ:∀e,w<=e->nG[e]?=d[e]?
def Ir(d)(z:c d<=4000000)(j)(ah)(bc:eE->Bool)(o:∀l,l∈d->Y r j [iJ l,ax (.O ah)] [] (bi (bc l)) []):
  bk (ι:={n:Nat->p N // ∀e,e<c (d.filter λl=>!bc l)->n e=bj.fn (d.filter λl=>!bc l) e}) r 81 [cy 0 (.S (c d) 2 0 (c d)),ax (.fn (.func j) [] [.O ah])] [.h 106 2 (c d) (bj.fn d)]
   (λ_=>cy 0 (.S (c d) 2 0 (c (d.filter λl=>!bc l)))) (λn=>[.h 106 2 (c d) n.1]):=by
 refine bk.cu func81 rfl rfl rfl λF=>?_;refine aZ a v (g.aF (UP d z j ah bc o) [0] a ?_);rcases yn bc d with⟨k,A⟩|⟨i0,C,k,A,aa⟩
 .rw[k];have B:d.filter (λl=>!bc l)=d:=sg.2 λl s=>by grind
  refine a6 [(12,f)] a E (g.bL ⟨bj.fn d,λe _=>by grind⟩ (g.aS [0] a ?_ h3));simp[B]
 rw[k];refine a6 [(12,m)] a oJ ?_;refine g.aN 1 (λb:Nat×p eE=>Rj d bc b.1 b.2) (λb=>[(0,cy 0 (.S (c d) 2 0 (c d))),(1,ax (.fn (.func j) [] [.O ah])),(5,S (c ((d.take b.1).filter λl=>!bc l))),(6,S b.1)])
  (λb=>[.h 106 2 (c d) (bj.fn b.2)]) (λb=>c d-b.1) (i0+1,d) a ?_ a ?_ a ?_ ?_
 .exact QL
 .simp
 .exact QC
 rintro⟨w,I⟩ ⟨t,a',R,bz⟩;simp only at t a' R bz;by_cases J:w<c d
 .have s:d.getD w (0,[])∈d:=M;have u:c ((d.take w).filter λl=>!bc l)<=w:=fF (kz _ _) M;have D:I.getD (0+(w:Int).toNat) bj.I=d.getD w (0,[]):=M;refine a6 [(19,f)] a pJ ?_;rw[D];refine g.aF (o _ s) [] a ?_;cases K:bc (d.getD w (0,[]))with
  |false=>
   have i:(d.take (w+1)).filter (λl=>!bc l)=(d.take w).filter (λl=>!bc l)++[d.getD w (0,[])]:=ib;refine a6 [(29,f)] a ?_ (g.aB (w+1,I.set (c ((d.take w).filter λl=>!bc l)) (d.getD w (0,[]))) a ?_ ?_ ?_ ?_)
   .simp only[U,a7];grind
   .simp[i]
   .have aj:=bj.cT I (c ((d.take w).filter λl=>!bc l)) (d.getD w (0,[])) (c d) y;exact Oc
   .refine⟨by grind,by grind,Pk,λe bp=>?_⟩;grind
   grind
  |true=>
   have i:(d.take (w+1)).filter (λl=>!bc l)=(d.take w).filter (λl=>!bc l):=ib;refine a6 [(29,m)] a oJ (g.aB (w+1,I) a ?_ ?_ ?_ ?_)
   .simp[i]
   .simp
   .exact PN
   grind
 obtain rfl:w=c d:=y;rw[c9]at R⊢;have u:c (d.filter λl=>!bc l)<=c d:=kz _ _;refine a6 [(19,m)] a E (g.aD ?_);refine aZ a pJ (g.aP (a0.eT bd a a a a a a wt) a a ?_);refine aZ a pJ (g.bL ⟨nH (0+bS 0 (h (c (d.filter λl=>!bc l):Int))) (0+bS 0 (h (c (d.filter λl=>!bc l):Int))+(bS (c d) q-bS 0 (h (c (d.filter λl=>!bc l):Int)))) rD.zero (bj.fn I),λe bp=>OF⟩ (g.aS [0] a ?_ h3));simp[bS];rfl
abbrev dV:=Int×Int×Int×bE
abbrev lY(a:dV):p N:=[.int .i64 a.1,.int .i64 a.2.1,.int .i64 a.2.2.1,.V a.2.2.2]
abbrev vi(a:dV):p O:=[.c (.int .i64 a.1),.c (.int .i64 a.2.1),.c (.int .i64 a.2.2.1),.c (.V a.2.2.2)]
abbrev eB(a:dV):z:=.q (.agg (vi a))
abbrev iH(a:p N):z:=ax (.O a)
def U7(l)(d):Y r 152 [fz l,iH (lY d)] [] (bi (l.1==d.2.1)) []:=by refine Y.K func152 rfl λb=>?_;exact aZ a v (g.aw a)
def U8(d:Int×Int)(bR)(k)(b:Nat->p N):Y r 155 [.q (.agg [.c (.int .i64 d.1),.c (.int .i64 d.2)]),iH [.int .i64 bR,.S m 2 k b]] [] (bi (d.2==bR)) []:=by refine Y.K func155 rfl λe=>?_;exact aZ a v (g.aw a)
def ZJ(a:α->Bool)(d):decide (gE a d≥0)=d.any a:=by
 rcases yn a d with⟨b,s⟩|⟨e,bp,b,_,j⟩
 .grind
 rw[b];symm;have:=j _ (bI bp);grind
def Uz(d)(i:c d<=4000000)(bR)(k)(b:Nat->p N):Y r 143 [a2.S d,ax (.fn (.func 155) [] [.O [.int .i64 bR,.S m 2 k b]])] [] (bi (d.any λe=>e.2==bR)) []:=by refine Y.K func143 rfl λl=>?_;refine aZ a v ?_;refine g.aF (UG d i 155 [.int .i64 bR,.S m 2 k b] (λe=>e.2==bR) λj _=>U8 j bR k b) [] a ?_;refine aZ a v (g.aw a ?_);simp only[U];exact ZJ _ d
def VN(l)(b)(d:c b<=4000000):Y r 154 [iJ l,iH [.S m 2 (c b) (a2.fn b)]] [] (bi (b.any λe=>e.2==l.1)) []:=by refine Y.K func154 rfl λi=>?_;refine a6 [(1000001,f)] a v ?_;refine g.freeze 2 0 a a a ?_;refine aZ a v ?_;refine g.aF (Uz b d l.1 (c l.2) (cu.fn l.2)) [] a ?_;exact aZ a v (g.aw a)
abbrev xG(a:Nat)(b:dV):z:=ax (.fn (.func a) [] [.O (lY b)])
def T4(d)(u:d.1=1):Y r 116 [eB d] [] (xG 150 d) []:=by refine Y.K func116 rfl λb=>?_;refine a6 [(1000001,f)] a v ?_;refine g.freeze 1 0 a a a ?_;exact a6 [(5,f)] a gT (g.aw a)
def Ip(d)(u:d.1=2):Y r 116 [eB d] [] (xG 153 d) []:=by refine Y.K func116 rfl λb=>?_;refine a6 [(1000001,f)] a v ?_;refine g.freeze 1 0 a a a ?_;exact a6 [(5,m),(8,f)] a gT (g.aw a)
def Iq(d)(u:d.1=3):Y r 116 [eB d] [] (xG 156 d) []:=by refine Y.K func116 rfl λb=>?_;refine a6 [(1000001,f)] a v ?_;refine g.freeze 1 0 a a a ?_;exact a6 [(5,m),(8,m),(11,f)] a gT (g.aw a)
def T5(d)(u:d.1=4):Y r 116 [eB d] [] (xG 157 d) []:=by refine Y.K func116 rfl λb=>?_;refine a6 [(1000001,f)] a v ?_;refine g.freeze 1 0 a a a ?_;exact a6 [(5,m),(8,m),(11,m),(14,f)] a gT (g.aw a)
def T6(d)(i:d.1≠1)(b:d.1≠2)(j:d.1≠3)(e:d.1≠4):Y r 116 [eB d] [] (ax (.fn (.func 158) [] [])) []:=by refine Y.K func116 rfl λk=>?_;refine a6 [(1000001,f)] a v ?_;refine g.freeze 1 0 a a a ?_;exact a6 [(5,m),(8,m),(11,m),(14,m)] a (by simp[i,b,j,e]) (g.aw a)
abbrev tv(a:p ca):N:=.S m 2 (c a) (a1.fn a)
abbrev tw(a:p eE):N:=.S m 2 (c a) (bj.fn a)
abbrev hQ(a:p (Int×Int)):N:=.S m 2 (c a) (a2.fn a)
abbrev tx(a:cz)(g:dV)(i:p an)(b d e:O):p an:=[.cells 27 [.c (tv a.1),.c (tw a.2.1),.c (hQ a.2.2)],.cells 32 (vi g),.cells 27 [cB,cB,cB]]++i++[.cells 27 [b,d,e]]
abbrev dC(a d b:Nat):O:=.R a (.S d 2 0 b)
def T'(b)(d)(l:c b.1<=4000000):
  bk (ι:={e:Nat->p N // ∀j,j<c (b.1.filter λi=>!(i.1==d.2.1))->e j=a1.fn (b.1.filter λi=>!(i.1==d.2.1)) j}) r 150 [aG 5 0,iH (lY d)]
   (tx b d [.h 91 2 (c b.1) (a1.fn b.1),.h 106 2 (c b.2.1) (bj.fn b.2.1)] (dC 3 (c b.1) (c b.1)) (dC 4 (c b.2.1) (c b.2.1)) (.c (hQ b.2.2)))
   (λ_=>.Q []) (λe=>tx b d [.h 91 2 (c b.1) e.1,.h 106 2 (c b.2.1) (bj.fn b.2.1)] (dC 3 (c b.1) (c (b.1.filter λi=>!(i.1==d.2.1)))) (dC 4 (c b.2.1) (c b.2.1)) (.c (hQ b.2.2))):=by refine bk.bR func150 rfl rfl rfl (g.aW ?_);refine aZ a v (g.a9 (T9 b.1 l 152 (lY d) (λi=>i.1==d.2.1) λi _=>U7 i d) [3] a bl ?_);rintro⟨e,k⟩;exact aZ a v ⟨⟨e,k⟩,.inr a,a,a,_,_,_,a,a,a,v⟩
def V8(n)(d:jO n=f)(b):Y r 158 [.q (.aq b)] n (.Q []) n:=by refine bk.toY (bk.bR (ι:=Unit) (res:=λ_=>.Q []) (ao:=λ_=>n) func158 rfl rfl rfl (g.aW ?_));refine aZ a v ?_;exact⟨(),.inr a,a,d,_,_,_,a,a,a,v⟩
abbrev mM(a:cz)(b:dV):p an:=tx a b [.h 91 2 (c a.1) (a1.fn a.1),.h 106 2 (c a.2.1) (bj.fn a.2.1)] (dC 3 (c a.1) (c a.1)) (dC 4 (c a.2.1) (c a.2.1)) (.c (hQ a.2.2))
def jm(d:Nat)(a:p (Int×Int))(e:eE):Bool:=(a.drop d).any λb=>b.2==e.1
def Tr(b)(d:dV)(e:d.2.1<0∨d.2.1>c b.2.2):Y r 153 [aG 5 0,iH (lY d)] (mM b d) (.Q []) (mM b d):=by
 refine bk.toY (bk.bR (ι:=Unit) (res:=λ_=>.Q []) (ao:=λ_=>mM b d) func153 rfl rfl rfl (g.aW ?_));by_cases x:d.2.1<0
 .exact a6 [(7,f),(16,f)] a oM NU
 exact a6 [(7,m),(16,f)] a bX NU
def _root_.Go.AM.cY.ha(a:cY α)(d)(k A):bt A (fw k (a.fn d)) (a.fn (d.drop k)):=λb _=>by simp[fw,cY.fn,gr,al]
abbrev H0:z:=aG 5 0
abbrev GU(b:cz)(a:dV):N:=.S (xE m q) 2 (bS (c b.2.2) q-bS 0 (h a.2.1)) (fw (bS 0 (h a.2.1)) (a2.fn b.2.2))
def nn(b:cz)(a:dV)(d:Nat)(e:a.2.1=d)(g:d<=c b.2.2):U (jc (c b.2.2) (h a.2.1) q):=by show 0<=a.2.1/\a.2.1<=(c b.2.2:Int);omega
def Ts(b:cz)(d:dV)(k:Nat)(j:d.2.1=k)(u:k<=c b.2.2)(t:c b.2.1<=4000000)(x:c b.2.2<=4000000):
  bk (ι:={e:Nat->p N // ∀i,i<c (b.2.1.filter λl=>!jm k b.2.2 l)->e i=bj.fn (b.2.1.filter λl=>!jm k b.2.2 l) i}) r 153 [aG 5 0,iH (lY d)] (mM b d) (λ_=>.Q [])
   (λe=>tx b d [.h 91 2 (c b.1) (a1.fn b.1),.h 106 2 (c b.2.1) e.1] (dC 3 (c b.1) (c b.1)) (dC 4 (c b.2.1) (c (b.2.1.filter λl=>!jm k b.2.2 l))) (.c (.S m 2 d.2.1.toNat (a2.fn b.2.2)))++[.x]):=by
 refine bk.bR func153 rfl rfl rfl (g.aW ?_);have o:d.2.1.toNat=k:=y;refine a6 [(7,m),(16,m),(1000001,f)] a pJ ?_;refine g.hG (ι:=Unit) b5 7 8 (λi=>ay i 6) (λi=>[H0,H0,aG 5 2,ax (hQ b.2.2),iH [.int .i64 d.2.1,.int .i64 d.2.2.1,.V d.2.2.2],S d.2.1,ax (GU b d)].getD i .any) (λ_ i=>[.any,.any,.any,.any,.any,.any,.any,aG 6 0,.any].getD i .any)
  (λ_=>mM b d++[.cells 25 [cB]]) (λ_=>mM b d++[.cells 25 [.c (GU b d)]]) a a a a a a a a a a
  ⟨aT.y,aT.y,aT.y,aT.y,aT.y,aT.y,?_,v,v,v⟩
  (λ_=>⟨aT.y,aT.y,aT.y,aT.y,aT.y,aT.y,?_,v,v⟩)
  (dx.dg (ee (bg:=[]) bd a8.nil (ao:=h _) (cf:=[]) a v)) (λ_=>ee (bg:=[]) bd a8.nil (ao:=h _) (cf:=[]) a v) λ_=>?_
 .exact P_
 .exact P_
 refine a6 [(1000002,f)] a v (g.ba (mM b d++[.cells 25 [.c (hQ (b.2.2.drop k))]]) a ?_ ?_)
 .have s:=a2.ha b.2.2 k (c b.2.2-k);have w:bS 0 (h d.2.1)=k:=o;simp only[U.Y,U,w,a9,ba,sk];exact⟨⟨bt.same,bt.same,bt.same⟩,⟨bt.same,bt.same,bt.same⟩,bt.same,bt.same,bt.same,a,s⟩
 refine g.freeze 3 6 a a a ?_;refine aZ a v (g.a9 (Ir b.2.1 t 154 [hQ (b.2.2.drop k)] (jm k b.2.2) λl _=>VN l (b.2.2.drop k) bX) [4] a bl ?_);rintro⟨e,n⟩;exact aZ a ⟨show 0<=d.2.1 by omega,Int.le_refl _,show d.2.1<=(c b.2.2:Int) by omega⟩ ⟨⟨e,n⟩,.inr a,a,a,_,_,_,a,a,a,v⟩
abbrev oE(a:cz)(d:dV)(b:Nat->p N):p an:=tx a d [.h 91 2 (c a.1) (a1.fn a.1),.h 106 2 (c a.2.1) (bj.fn a.2.1),.h 140 2 (c a.2.2) b] (dC 3 (c a.1) (c a.1)) (dC 4 (c a.2.1) (c a.2.1)) (dC 5 (c a.2.2) (c a.2.2))
abbrev x_(b:cz)(a:dV):Nat->p N:=lm (0+a.2.1.toNat) [.int .i64 (3-(b.2.2.getD (0+a.2.1.toNat) a2.I).1),.int .i64 (b.2.2.getD (0+a.2.1.toNat) a2.I).2] (a2.fn b.2.2)
def Uj(b)(d:dV)(i:¬(0<=d.2.1/\d.2.1<c b.2.2)):Y r 157 [aG 6 0,iH (lY d)] (oE b d (a2.fn b.2.2)) (.Q []) (oE b d (a2.fn b.2.2)):=by
 refine bk.toY (bk.bR (ι:=Unit) (res:=λ_=>.Q []) (ao:=λ_=>oE b d (a2.fn b.2.2)) func157 rfl rfl rfl (g.aW ?_));by_cases e:0<=d.2.1
 .exact a6 [(6,f),(15,m)] a (by simp[e];omega) Ot
 exact a6 [(6,m),(15,m)] a bX Ot
abbrev xM:z:=aG 6 0
abbrev H1:z:=aG 6 2
abbrev HX(a:cz):z:=.q (.aq (dC 5 (c a.2.2) (c a.2.2)))
abbrev xI(b:cz)(a:dV):z:=cy 5 (.bx (c b.2.2) 2 (0+a.2.1.toNat) 0)
abbrev HZ(a:dV):z:=iH [.int .i64 a.2.1,.int .i64 a.2.2.1,.V a.2.2.2]
abbrev lq(b:cz)(a:dV):Int:=(b.2.2.getD (0+a.2.1.toNat) a2.I).1
def Uk(b)(d:dV)(l:0<=d.2.1)(k:d.2.1<c b.2.2)(j:a7 .i64 (3-lq b d)):Y r 157 [aG 6 0,iH (lY d)] (oE b d (a2.fn b.2.2)) (.Q []) (oE b d (x_ b d)):=by
 refine bk.toY (bk.bR (ι:=Unit) (res:=λ_=>.Q []) (ao:=λ_=>oE b d (x_ b d)) func157 rfl rfl rfl (g.aW ?_));refine a6 [(6,f),(15,f),(1000001,f)] a pJ ?_;have cv:0<=d.2.1/\d.2.1<((c b.2.2:Nat):Int):=⟨l,k⟩;have i:c b.2.2=c b.2.2/\0+d.2.1.toNat<c b.2.2:=⟨rfl,by omega⟩
 refine g.hG (ι:=Unit) b5 0 18 (λe=>ay 4 e&&ay e 15) (λe=>[.any,.any,.any,.any,HZ d,S d.2.1,xM,xM,H1,HX b,HZ d,S d.2.1,xI b d,xI b d,S (lq b d),S (3-lq b d)].getD e .any) (λ_ e=>[xM,xM,H1,HX b,.any,.any,.any,.any,.any,.any,.any,.any,.any,.any,.any,.any,xI b d,xI b d,.any].getD e .any)
  (λ_=>oE b d (a2.fn b.2.2)) (λ_=>oE b d (x_ b d)) a a a a a a a a a a
  ⟨v,v,v,v,aT.y,aT.y,aT.y,aT.y,aT.y,aT.y,aT.y,aT.y,?_,aT.y,?_,?_,v,v,v,v⟩
  (λ_=>⟨v,aT.y,aT.y,aT.y,aT.y,aT.y,aT.y,aT.y,aT.y,aT.y,aT.y,aT.y,?_,aT.y,?_,?_,?_,aT.y,v⟩)
  (dx.dg (aT.y)) (λ_=>?_) λ_=>?_
 .exact EP
 .exact aT.eval (bg:=[]) bd a8.nil a i
 .exact aT.eval (bg:=[]) bd a8.nil a j
 .exact EP
 .exact aT.eval (bg:=[]) bd a8.nil a i
 .exact aT.eval (bg:=[]) bd a8.nil a j
 .exact EP
 .exact ee (bg:=[]) bd a8.nil (ao:=h _) a i
 exact QF
def UT(k eV bp):Y r 24 [S k,S eV,S bp] [] (bi (decide (eV<=k/\k<=bp))) []:=by
 refine Y.K func24 rfl λd=>?_;by_cases b:eV<=k
 .by_cases s:k<=bp
  .refine a6 [(10,f),(14,f)] a bX (g.aw a ?_);exact bw
  refine a6 [(10,f),(14,m)] a bX (g.aw a ?_);simp;omega
 refine a6 [(10,m),(14,m)] a bX (g.aw a ?_);simp;omega
abbrev jF:bK:=kb c8 c8 c8 (λd b a=>bi (decide (b<=d/\d<=a))) λ_ _ _=>[]
def ks:bL r 24 jF:=.c0 λd b a _=>UT d b a
def TH(b:Nat)(l:b<=4000000):Y r 216 [S b] [] (S (e1 b)) []:=by
 refine Y.K func216 rfl λk=>?_;by_cases j:b<1
 .refine a6 [(6,f),(9,f)] a bX (g.aw a ?_);have:e1 b=0:=by simp[e1,j]
  simp[this]
 by_cases i:8<b
 .refine a6 [(6,m),(9,f)] a bX (g.aw a ?_);have:e1 b=0:=by simp[e1,i]
  simp[this]
 by_cases d:b<=2
 .refine a6 [(6,m),(9,m),(10,f)] a bX (g.aw a ?_);have:e1 b=2:=by simp only[e1,bm (show¬(b<1∨8<b) by omega),bs d]
  simp[this]
 by_cases e:b<=4
 .refine a6 [(6,m),(9,m),(10,m),(13,f)] a bX (g.aw a ?_);have:e1 b=4:=by simp only[e1,bm (show¬(b<1∨8<b) by omega),bm d,bs e]
  simp[this]
 refine a6 [(6,m),(9,m),(10,m),(13,m)] a bX (g.aw a ?_);have:e1 b=8:=by simp only[e1,bm (show¬(b<1∨8<b) by omega),bm d,bm e]
 simp[this]
def US(d)(e)(o:c d<=4000000):Y r 179 [bQ.S d,bZ e] [] (bi (d.contains e)) []:=by
 refine Y.K func179 rfl λn=>?_;refine aZ a v (g.aN 0 (λb=>b<=c d/\∀j,j<b->d.getD j []≠e) (λb:Nat=>[(0,bQ.S d),(1,bZ e),(5,S b)]) (λ_=>[]) (λb=>c d-b) 0 a E a E a ⟨by omega,by omega⟩ ?_);rintro b ⟨k,l⟩;by_cases t:b<c d
 .have i:d.getD (b:Int).toNat bQ.I=d.getD b []:=M;by_cases p:d.getD b []=e
  .refine a6 [(9,f),(17,f)] a ?_ (g.aX (bT.zero a ?_))
   .simp only[U,i];grind
   have:e∈d:=M;simp[this]
  refine a6 [(9,f),(17,m)] a ?_ (g.aB (b+1) a ?_ ?_ ?_ ?_)
  .simp only[U,i,a7];grind
  .simp
  .simp
  .grind
  omega
 refine a6 [(9,m)] a bX (g.aD ?_);refine aZ a v (g.aw a ?_);have:¬e∈d:=λs=>by grind[List.getElem_of_mem]
 simp[this]
def TL(b)(d:cC b=f):Y r 212 [bZ b] [] (S (fZ b)) []:=by
 refine Y.K func212 rfl λo=>?_;have k:=d;simp[cC,cF,bA]at k;refine aZ a v (g.aN 0 (λe=>e<=c b) (λe:Nat=>[(0,bZ b),(3,S (fZ (b.take e))),(4,S e)]) (λ_=>[]) (λe=>c b-e) 0 a (by simp[fZ]) a E a y ?_);intro e j;by_cases l:e<c b
 .have C:=xx d j;have s:=xx d (e:=e+1) y;have p:=Hv l;have t:=qy k.2 (b.getD e 0) (CK l);have n:97<=dj b e/\dj b e<=122:=ED;refine a6 [(8,f)] a ?_ (g.aB (e+1) a ?_ ?_ ?_ ?_)
  .simp only[U,ka,a7];grind
  .have i:(dj b e-97) % 256=dj b e-97:=Int.emod_eq_of_lt y y;exact bJ
  .simp
  .grind
  grind
 obtain rfl:e=c b:=y;exact Pj
def adr:bL r 212 (df ez (λa=>S (fZ a)) λa=>[cC a=f]):=.bb λa b=>TL a b
def V0(i)(b)(d:cK i=f)(j:cC b=f):Y r 174 [S i,bZ b] [] (S (e5 i b)) []:=by
 refine Y.K func174 rfl λp=>?_;have o:a8 r [(212,df ez (λb=>S (fZ b)) λb=>[cC b=f])]:=.cons adr .nil;have e:=d;simp[cK,cF,bA]at e;have k:=xw j;refine b_ o a ?_ (g.aw a ?_)
 .have n:0<=fZ b*(2*i+1):=Int.mul_nonneg k.1 y;have l:fZ b*(2*i+1)<=282429536481*199:=Int.mul_le_mul y y y y;generalize fZ b*(2*i+1)=s at n l;simp[U,a7];grind
 exact bJ
def zh:bL r 174 (ek c8 ez (λa b=>S (e5 a b)) λa b=>[cK a=f,cC b=f]):=.bl λa b d=>V0 a b d.1 d.2
def Ui(d)(k)(p:c d<=4000000):Y r 178 [eZ.S d,S k] [] (S (lc d k)) []:=by
 refine Y.K func178 rfl λo=>?_;refine aZ a v (g.aN 0 (λb=>b<=c d/\∀j,j<b->(d.getD j (0,0)).1≠k) (λb:Nat=>[(0,eZ.S d),(1,S k),(5,S b)]) (λ_=>[]) (λb=>c d-b) 0 a E a E a ⟨by omega,by omega⟩ ?_);rintro b ⟨l,n⟩;by_cases t:b<c d
 .have i:d.getD (b:Int).toNat eZ.I=d.getD b (0,0):=M;by_cases s:(d.getD b (0,0)).1=k
  .refine a6 [(9,f),(18,f)] a ?_ (g.aX (bT.zero a ?_))
   .simp only[U,i];grind
   have:lc d k=(d.getD b (0,0)).2:=by
    have:d.find? (λe=>e.1==k)=h (d.getD b (0,0)):=by grind[List.find?_eq_some_iff_getElem]
    rw[lc,this]
   simp_all
  refine a6 [(9,f),(18,m)] a ?_ (g.aB (b+1) a ?_ ?_ ?_ ?_)
  .simp only[U,i,a7];grind
  .simp
  .simp
  .grind
  omega
 refine a6 [(9,m)] a bX (g.aD ?_);refine aZ a v (g.aw a ?_);have:lc d k=0:=by have:d.find? (λe=>e.1==k)=q:=wu;rw[lc,this]
 simp[this]
theorem Hs(a:1<=k)(b:k<=8):k<=e1 k/\e1 k<=8:=FB
abbrev GI:bK:=df c8 (λa=>S (e1 a.toNat)) λa=>[0<=a/\a<=4000000]
def adq:bL r 216 GI:=.bb λb d=>by
 obtain⟨a,rfl⟩:∃a:Nat,b=a:=⟨b.toNat,by exact lG⟩
 exact TH a lG
def Wn(b)(j:cC b=f):Y r 183 [bZ b] [] (bZ (fA b)) []:=by
 refine Y.K func183 rfl λl=>?_;have e:a8 r [(216,GI)]:=.cons adq .nil;have i:=j;simp only[cC,cF,bA]at i;have o:=Hs i.1.1 i.1.2;refine b_ e a bw (g.aN 0 (λd=>c b+d<=e1 (c b)) (λd:Nat=>[(0,bZ (b++aY d 46)),(3,S (e1 (c b)))]) (λ_=>[]) (λd=>e1 (c b)-d) 0 a E a E a y ?_);intro d n;by_cases p:c b+d<e1 (c b)
 .refine a_ e [(10,f)] a bX (g.aB (d+1) a ?_ ?_ ?_ ?_)
  .simp[List.replicate_succ']
  .simp
  .grind
  grind
 have k:e1 (c b)-c b=d:=y;refine a_ e [(10,m)] a bX (g.aD ?_);refine b_ e a v (g.aw a ?_);simp[fA,j,k]
def W6(b):Y r 180 [.q (.agg [.c (.int .i64 b.1),.c (.int .i64 b.2)])] [] (bi (gv b)) []:=by
 refine Y.K func180 rfl λi=>?_;have e:a8 r [(24,jF)]:=.cons ks .nil;by_cases d:0<=b.1/\b.1<=999999999988
 .by_cases j:1<=b.2/\b.2<=99
  .refine a_ e [(6,f),(10,f)] a (by simp[d,j]) (g.aw a ?_);have:gv b=f:=by simp[gv,d,j];omega
   simp[this]
  refine a_ e [(6,f),(10,m)] a (by simp[d,j]<;>omega) (g.aw a ?_);have:gv b=m:=by simp[gv,d];omega
  simp[this]
 refine a_ e [(6,m),(10,m)] a bX (g.aw a ?_);have:gv b=m:=by simp[gv];omega
 simp[this]
abbrev Hg:bK:=df pW (λa=>bi (gv a)) λ_=>[]
def ad9:bL r 180 Hg:=.bb λa _=>W6 a
def JI{a:α->Bool}{d}(b:d.any a=f):0<=gE a d:=by unfold gE;grind
theorem ZK{a:α->Bool}{d}(b:d.any a=m):gE a d=-1:=by unfold gE;grind
def UH(d)(j)(b:Int×Int->Bool)(p:∀i,i∈d->Y r j [.q (.agg [.c (.int .i64 i.1),.c (.int .i64 i.2)])] [] (bi (b i)) []):
  Y r 190 [a2.S d,ax (.fn (.func j) [] [])] [] (S (gE b d)) []:=by
 refine Y.K func190 rfl λn=>?_;have s:=n.S 0 a;refine aZ a v (g.ca (λe=>e<=c d/\∀w,w<e->b (d.getD w (0,0))=m) (λe:Nat=>[(0,a2.S d),(1,ax (.fn (.func j) [] [])),(7,S (c d)),(8,S e)]) (λ_=>[]) (λe=>c d-e) 0 a E a v ⟨by omega,by omega⟩ ?_);rintro e ⟨o,x⟩;by_cases u:e<c d
 .have k:d.getD e (0,0)∈d:=M;have l:d.getD (e:Int).toNat a2.I=d.getD e (0,0):=M;refine a6 [(9,f)] a bw ?_;rw[l];refine g.aF (p _ k) [] a ?_;cases A:b (d.getD e (0,0))with
  |true=>
   exact Of
  |false=>
   exact NW
 exact Po
def Uu(d)(i)(b:Int×Int->Bool)(j:∀e,e∈d->Y r i [.q (.agg [.c (.int .i64 e.1),.c (.int .i64 e.2)])] [] (bi (b e)) []):
  Y r 143 [a2.S d,ax (.fn (.func i) [] [])] [] (bi (d.any b)) []:=by
 refine Y.K func143 rfl λk=>?_;refine aZ a v (g.aF (UH d i b j) [] a ?_);cases u:d.any b with
 |true=>
  exact N3
 |false=>
  exact PT
def UN(d)(j)(ah)(b:ca->Bool)(p:∀i,i∈d->Y r j [fz i,ax (.O ah)] [] (bi (b i)) []):
  Y r 109 [a1.S d,ax (.fn (.func j) [] [.O ah])] [] (S (gE b d)) []:=by
 refine Y.K func109 rfl λn=>?_;have s:=n.S 0 a;refine aZ a v (g.ca (λe=>e<=c d/\∀w,w<e->b (d.getD w (0,[]))=m) (λe:Nat=>[(0,a1.S d),(1,ax (.fn (.func j) [] [.O ah])),(7,S (c d)),(8,S e)]) (λ_=>[]) (λe=>c d-e) 0 a E a v ⟨by omega,by omega⟩ ?_);rintro e ⟨o,x⟩;by_cases u:e<c d
 .have k:d.getD e (0,[])∈d:=M;have l:d.getD (e:Int).toNat a1.I=d.getD e (0,[]):=M;refine a6 [(9,f)] a bw ?_;rw[l];refine g.aF (p _ k) [] a ?_;cases A:b (d.getD e (0,[]))with
  |true=>
   exact Of
  |false=>
   exact NW
 exact Po
def Uw(d)(e)(ah)(b:ca->Bool)(j:∀i,i∈d->Y r e [fz i,ax (.O ah)] [] (bi (b i)) []):
  Y r 69 [a1.S d,ax (.fn (.func e) [] [.O ah])] [] (bi (d.any b)) []:=by
 refine Y.K func69 rfl λk=>?_;refine aZ a v (g.aF (UN d e ah b j) [] a ?_);cases u:d.any b with
 |true=>
  exact N3
 |false=>
  exact PT
def UL(d)(j)(ah)(H:Z->(Nat->Option Obj)->Prop)(i:Int->Bool)(u:∀l,l∈d->Y r j [S l,ax (.O ah)] [.J H] (bi (i l)) [.J H]):
  Y r 107 [aB.S d,ax (.fn (.func j) [] [.O ah])] [.J H] (S (gE i d)) [.J H]:=by
 refine Y.K func107 rfl λp=>?_;have x:=p.S 0 a;refine aZ a v (g.aN 1 (λe=>e<=c d/\∀b,b<e->i (d.getD b 0)=m) (λe:Nat=>[(0,aB.S d),(1,ax (.fn (.func j) [] [.O ah])),(7,S (c d)),(8,S e)]) (λ_=>[.J H]) (λe=>c d-e) 0 a E a E a ⟨by omega,by omega⟩ ?_);rintro e ⟨t,n⟩;by_cases s:e<c d
 .have k:d.getD e 0∈d:=M;have o:d.getD (e:Int).toNat aB.I=d.getD e 0:=M;refine a6 [(9,f)] a bw ?_;rw[o];refine g.aF (u _ k) [0] a ?_;cases w:i (d.getD e 0)with
  |true=>
   refine a6 [(16,f)] a E (g.aX (bT.mk [0] a ?_ a a a h3));simp[s4 s w n]
  |false=>
   exact zJ
 refine a6 [(9,m)] a bX (g.aD ?_);refine aZ a v (g.aS [0] a ?_ h3);simp[s5 (λb z=>n b y)]
def Uv(d)(e)(ah)(H:Z->(Nat->Option Obj)->Prop)(b:Int->Bool)(j:∀i,i∈d->Y r e [S i,ax (.O ah)] [.J H] (bi (b i)) [.J H]):
  Y r 66 [aB.S d,ax (.fn (.func e) [] [.O ah])] [.J H] (bi (d.any b)) [.J H]:=by
 refine Y.K func66 rfl λl=>?_;refine aZ a v (g.aF (UL d e ah H b j) [0] a ?_);cases k:d.any b with
 |true=>
  refine a6 [(8,f)] a (fk (JI k)) (g.aS [0] a ?_ h3);simp
 |false=>
  refine a6 [(8,m)] a (lB Nw) (g.aS [0] a ?_ h3);simp
def F_(b:t.op=.call {callee:=.builtin .append,args:=#[l,X],argTypes:=#[89,89]}):j1 V t l X 131 lV:=
 ⟨⟨89,89,CS,CS,b,(bd _ _ a),rfl,(bd _ _ a),rfl⟩,(bd _ _ a),by decide,by decide⟩
def GR(d)(k):∀a,a<k->∀e∈bG.fn d a,nj e=f:=by
 intro a _ e b;have:bG.fn d a=[.int .i64 (d.getD a bG.I).1,.V (d.getD a bG.I).2]:=rfl;rw[this]at b;rcases fl.1 b with rfl|b
 .rfl
 rcases fl.1 b with rfl|b
 .rfl
 grind
abbrev pQ(a:p cW):Type:={b:fg×p Z // eg 2 (c a) (bG.fn a) b.2}
abbrev ti(d)(a:pQ d):an:=.J (ck 131 2 a.1.1 (c d) a.1.2)
abbrev rQ(d)(a:pQ d):N:=.val (cX a.1.1 (c d))
def TK(d)(j:0<c d)(l:c d<=4000000):bk (ι:=pQ d) r 170 [bG.S d] [] (λb=>ax (rQ d b)) (λb=>[ti d b]):=by
 refine bk.cu func170 rfl rfl rfl λk=>?_;refine aZ a v (g.ek bd a a a a a a λi n=>?_);cases i with
 |true=>grind
 |false=>
  refine gI [] 7 a v (g.fA (F_ a) a a a j zW (GR d _) a a λb=>?_);refine aZ a v (g.bL b (g.aS [0] a ?_ (λo e=>absurd e E)));simp
def Wc(b)(i:0<c b.2)(e:c b.2<=4000000):bk (ι:=pQ b.2) r 120 [fz b] [] (λd=>.q (.agg [.c (.int .i64 b.1),.c (rQ b.2 d)])) (λd=>[ti b.2 d]):=by refine bk.bE bd func120 rfl rfl rfl λk=>?_;refine aZ a v ?_;refine g.a9 (TK b.2 i e) [] a bl ?_;intro d;refine aZ a v ?_;refine g.bd d [2] ?_ (λl j=>absurd j E);simp
def nq(a:p ca)(b:Nat)(e:Z)(d:Nat):N:=if d=b then .val e else .S m 2 (a.getD d (0,[])).2.length (bG.fn (a.getD d (0,[])).2)
def ga(a:p ca)(b:Nat)(e:Z)(d:Nat):p N:=[.int .i64 (a.getD d (0,[])).1,nq a b e d]
def K1{ab}{i0}{bz}(u:e≠i0):bt (e+1) (ce e (ga ab i0 bz) (λb=>[a1.a8 (ab.getD e (0,[]))].getD b [])) (ga ab i0 bz):=λa d=>by
 unfold ce;split
 .rfl
 have:a=e:=y;subst this;rw[uu];exact EI
def K2{ab}{i0}{bz Et}:bt (i0+1) (ce i0 (ga ab i0 Et) (λb=>[[.int .i64 (ab.getD i0 (0,[])).1,.val bz]].getD b [])) (ga ab i0 bz):=λa d=>by
 unfold ce;split
 .simp only[ga,nq,bm (show a≠i0 by omega)]
 have:a=i0:=y;subst this;rw[uu];simp only[ga,nq,bs];rfl
abbrev S3:Type:=Nat×fg×Nat×p Z
def I3(b:p ca)(a:Nat)(d:S3):Prop:=d.1<=c b/\((d.1<=a/\d.2.2.1=0)∨(a<d.1/\d.2.2.1=(b.getD a (0,[])).2.length/\eg 2 (b.getD a (0,[])).2.length (bG.fn (b.getD a (0,[])).2) d.2.2.2))
abbrev aaW(a:S3):an:=.J (ck 131 2 a.2.1 a.2.2.1 a.2.2.2)
abbrev nD(a:S3):Z:=cX a.2.1 a.2.2.1
def W_(b)(i0)(V:i0<c b.1)(K:0<(b.1.getD i0 (0,[])).2.length)(z:c b.1<=4000000)(A:∀e∈b.1,c e.2<=4000000)(X:c b.2.1<=4000000)(J:ln b)(R:c b.2.2<=4000000):
  bk (ι:=pQ (b.1.getD i0 (0,[])).2) r 80 [b9 b] [] (λ_=>.q (.agg [.R 0 (.S (c b.1) 2 0 (c b.1)),.R 1 (.S (c b.2.1) 2 0 (c b.2.1)),.c (.S m 2 (c b.2.2) (a2.fn b.2.2))]))
   (λk=>[.h 91 2 (c b.1) (ga b.1 i0 (cX k.1.1 (b.1.getD i0 (0,[])).2.length)),.h 106 2 (c b.2.1) (bj.fn b.2.1),ti (b.1.getD i0 (0,[])).2 k]):=by
 refine bk.bE bd func80 rfl rfl rfl λW=>?_;have l:a8 r [(120,xr),(121,xt)]:=.cons Ei (.cons Ej .nil);refine a_ l [(1000002,f)] a v (g.eh 2 0 91 2 (a1.fn []) a a ?_);refine g.eh 2 1 106 2 (bj.fn []) a a ?_;refine g.fe 131 2 ?_;refine b_ l a v ?_;refine g.aN 6 (I3 b.1 i0) (λo:S3=>[(1,aG 0 0),(2,aG 1 0),(3,aG 2 0),(9,a1.S b.1),(10,S (c b.1)),(11,S o.1)])
  (λo=>[.cells 27 [.c (.S m 2 (c b.1) (a1.fn b.1)),.c (.S m 2 (c b.2.1) (bj.fn b.2.1)),.c (.S m 2 (c b.2.2) (a2.fn b.2.2))],.cells 27 [cB,cB,cB],.cells 27 [.R 3 (.S o.1 2 0 o.1),.R 4 (.S 0 2 0 0),cB],.h 91 2 o.1 (ga b.1 i0 (nD o)),.h 106 2 0 (bj.fn []),aaW o]) (λo=>c b.1-o.1) (0,.nil q,0,[]) a ?_ a ?_ a ⟨by omega,.inl ⟨by omega,rfl⟩⟩ ?_
 .simp
 .simp
 rintro⟨d,i,p,n⟩ ⟨t,x⟩;simp only at t x;by_cases u:d<c b.1
 .have w:b.1.getD d (0,[])∈b.1:=M;have j:b.1.getD (d:Int).toNat a1.I=b.1.getD d (0,[]):=M;by_cases C:d=i0
  .subst C;have D:p=0:=by rcases x with⟨_,O⟩|⟨N,_⟩<;>omega
   have Q:=A _ w;refine a_ l [(12,f),(1000005,f)] a bw ?_;rw[j];generalize F:b.1.getD d (0,[])=e at *;refine g.eF (ι:=pQ e.2) b5 3 5 4 (λs=>ay s 2) (λs=>[aG 2 0,cy 3 (.S d 2 0 d),fz e].getD s .any) (λk s=>[.any,.any,.any,.q (.agg [.c (.int .i64 e.1),.c (rQ e.2 k)]),ax (.S f 2 1 (λB=>[[.int .i64 e.1,rQ e.2 k]].getD B []))].getD s .any)
    (λk=>[.cells 27 [.c (.S m 2 (c b.1) (a1.fn b.1)),.c (.S m 2 (c b.2.1) (bj.fn b.2.1)),.c (.S m 2 (c b.2.2) (a2.fn b.2.2))],.cells 27 [cB,cB,cB],.cells 27 [.R 3 (.S d 2 0 d),.R 4 (.S 0 2 0 0),cB],.h 91 2 d (ga b.1 d (cX i p)),.h 106 2 0 (bj.fn []),.J (ck 131 2 i p n),.cells 91 [.c (.int .i64 e.1),.c (.S m 2 (c e.2) (bG.fn e.2))],ti e.2 k])
    rfl rfl rfl rfl rfl rfl rfl (λs u=>by have:=e' u;omega) rfl
    ⟨aT.y,aT.y,aT.y,v,v,v,v,v,v⟩
    (λk=>⟨aT.y,aT.y,aT.y,v,aT.y,v⟩)
    (dx.dj (Wc e K Q) [] a a a a a a a bl a bl) λk=>?_
   refine a_ l [(1000006,f)] a PW (g.swap 5 7 b' a a (λ_ _ u=>u.1) (λ_ _ u=>u.1) ?_);refine b_ l a bJ (g.aB (d+1,k.1.1,c e.2,k.1.2) a E ?_ ?_ ?_)
   .have aj:=K2 (ab:=b.1) (i0:=d) (bz:=cX k.1.1 (c e.2)) (Et:=cX i p);rw[F]at aj;simp only[U.Y,U,a9,ba];exact⟨⟨bt.same,bt.same,bt.same⟩,⟨bt.same,bt.same,bt.same⟩,⟨a,bt.same⟩,aj,bt.same⟩
   .refine⟨by grind,.inr ⟨by grind,?_⟩⟩;grind
   grind
  refine a_ l [(12,f)] a ?_ (g.aB (d+1,i,p,n) a ?_ ?_ ?_ ?_)
  .have k:=A _ w;simp only[U,j,bG.E,a7];exact⟨by omega,v,v,show(d+1)*32<=_ by omega,bG.U _,k,by omega,by omega,fk y⟩
  .simp
  .have aj:=K1 (ab:=b.1) (bz:=cX i p) C;simp only[U.Y,U,j,bG.E,a9,ba];exact⟨⟨bt.same,bt.same,bt.same⟩,⟨bt.same,bt.same,bt.same⟩,⟨a,bt.same⟩,aj,bt.same⟩
  .refine⟨by grind,?_⟩;grind
  grind
 obtain rfl:d=c b.1:=y;obtain⟨_,D,I⟩:i0<c b.1/\p=(b.1.getD i0 (0,[])).2.length/\eg 2 (b.1.getD i0 (0,[])).2.length (bG.fn (b.1.getD i0 (0,[])).2) n:=M;subst D;clear x;generalize b.1.getD i0 (0,[])=e at *;refine a_ l [(12,m)] a E (g.aD ?_);refine b_ l a v ?_;refine g.aN 6 (λd=>d<=c b.2.1) (λd:Nat=>[(1,aG 0 0),(2,aG 1 0),(3,aG 2 0),(24,bj.S b.2.1),(25,S (c b.2.1)),(26,S d)])
  (λd=>[.cells 27 [.c (.S m 2 (c b.1) (a1.fn b.1)),.c (.S m 2 (c b.2.1) (bj.fn b.2.1)),.c (.S m 2 (c b.2.2) (a2.fn b.2.2))],.cells 27 [cB,cB,cB],.cells 27 [.R 3 (.S (c b.1) 2 0 (c b.1)),.R 4 (.S d 2 0 d),cB],.h 91 2 (c b.1) (ga b.1 i0 (cX i (c e.2))),.h 106 2 d (bj.fn (b.2.1.take d)),.J (ck 131 2 i (c e.2) n)]) (λd=>c b.2.1-d) 0 a ?_ a ?_ a y ?_
 .simp
 .simp
 intro d t;by_cases u:d<c b.2.1
 .have w:b.2.1.getD d (0,[])∈b.2.1:=M;have j:b.2.1.getD (d:Int).toNat bj.I=b.2.1.getD d (0,[]):=M;refine a_ l [(27,f)] a ?_ (g.aB (d+1) a ?_ ?_ ?_ ?_)
  .have k:=J _ w;simp only[U,j,cu.E,a7];exact⟨by omega,v,v,show(d+1)*32<=_ by omega,cu.U _,k.1,k.2,by omega,by omega,fk y⟩
  .simp
  .exact E_
  .grind
  omega
 obtain rfl:d=c b.2.1:=y;rw[c9];refine a_ l [(27,m)] a E (g.aD ?_);refine b_ l a v (g.aF (Ij b.2.2 R) [] a (b_ l a v (g.bd ⟨(i,n),I⟩ [3,4,5] ?_ (λB T=>absurd T E))));simp
end
end R1
end Go.AM
