/- Part 4. No condition. -/
import Derived.Test.YtipjbfhldjgbnaaGreatDoorA3
import Derived.Lib.Bytealg
import Derived.Sort.AssemblyPlain
import Derived.Sort.LotD5
import Derived.Sort.Walk13a
import Derived.Conc.DeferLaws
import Derived.RowKit
import Derived.Conc.Holds
set_option linter.all false
set_option maxHeartbeats 8000000
open Go.Proofs
open Go.Proofs.Tryz
open List renaming length → c, range → aB, replicate → aY, getD_eq_getElem?_getD → al
open Go renaming Value → Z, TypeId → aq, Event → aT, undef → K, World → au, Frame → aL, FuncId → a3, execOp → ac, Operand → aA, Program → aI, Goroutine → ak, stepG → ar, Oper → ap
open Option renaming some → f, none → p
open Bool renaming true → m, false → v
open Nat renaming beq → af, ble → ay
open Go.World renaming cell? → aM
open Go.Op renaming bytesLess → aW, equalIn → aQ
open Go.Sem renaming events_bind → aF
open Go.Result renaming evThen_ok → aK
open Go.Proofs.Tryz renaming prog → T
open Go.Conc renaming stepG_seq → ax, stepG_region_end → aE
namespace Go.AM
variable {j z:Nat}{h:Int}{d i e u:Nat}{W:aq}{H:Z->(Nat->Option Obj)->Prop}{L:Array Bool}{bD:Mem}{D:Nat}{P:aI}{bq:ak->a5->Prop}{r:Code}{B:ak}{s:ap}{b:a5}{o:aq}{aa:Z}{k X:aA}{α:Type}{η:aA->y}{ι:Type}{l:n an}{F:bI}{all:n ap}{dn:Array aq}{cap:n O}{cR:n y}{lc:Nat->Option Obj}{ai:n aL}{bg:n (Nat×Bool)}{V:Nat->n O}{cP:aA}{gs:Array ak}{aS:n Nat}{cg:n Prop}{off:Nat}{op:BinOp}{aH:Array ap}{ab:n Prop}{bs:n ap}{az:a5}{ty:aq}{val:Nat->Nat->Z}{A:n Z}{bj:au}{ah:Array aA}{ao de:n an}{res:ι->y}{aO:ι->n an}
variable {CT:n (Nat×bK)}{av:n ik}{be:fv}{ad:n (Nat×bv)}{a4:bv}
structure i1(α:Type) where
 a9:α->y
 ec:y->Option (α×n Prop)
 ok:∀{I w s},ec I=f (w,s)->U s->∀{l:n an} {b:a5} {aa:Z},bx l b aa I->bx l b aa (a9 w)
def c1:i1 Int:=⟨R,λa=>match a with|.p (.R (.c (.int .i64 b)))=>f (b,[])|_=>p,λ{a d g} e _ _ _ _ h=>by grind⟩
def eF:i1 bB:=⟨b0,λa=>match a with|.p (.R (.c (.T b)))=>f (b,[])|_=>p,λ{a d g} e _ _ _ _ h=>by grind⟩
def dD:i1 Bool:=⟨bh,λa=>match a with|.p (.R (.c (.bool b)))=>f (b,[])|_=>p,λ{a d g} e _ _ _ _ h=>by grind⟩
def e2(b:c0 α):i1 (n α):=⟨b.C,λh=>match ju b.bl h with|some (g,a)=>f (b.af g a,[b.bT g a])|none=>p,λ{h j k} d e _ _ _ i=>by
 split at d
 .rename_i g a he;cases d;exact b.cw he e i
 .cases d⟩
def sw:i1 (Int×bB):=⟨λd=>.p (.agg [.c (.int .i64 d.1),.c (.T d.2)]),λb=>match b with|.p (.agg [.c (.int .i64 a),.c (.T e)])=>f ((a,e),[])|_=>p,λ{b a h} g _ _ _ _ i=>by grind⟩
def p':i1 (Int×Int):=⟨λd=>.p (.agg [.c (.int .i64 d.1),.c (.int .i64 d.2)]),λb=>match b with|.p (.agg [.c (.int .i64 a),.c (.int .i64 e)])=>f ((a,e),[])|_=>p,λ{b a h} g _ _ _ _ i=>by grind⟩
def jE(e:c0 α):i1 (Int×n α):=⟨λj=>.p (.agg [.c (.int .i64 j.1),.c (.C v e.bl (c j.2) (e.fn j.2))]),λo=>match o with
 |.p (.agg [.c (.int .i64 k),.c q])=>match ju e.bl (.p (.R (.c q)))with|some (i,d)=>f ((k,e.af i d),[e.bT i d])|none=>p
 |_=>p,λ{o k u} g h _ b _ t=>by
 split at g
 .split at g
  .rename_i i d he;cases g;obtain⟨A,r,a⟩:=t
   match A,a with
   |[],a=>exact a.elim
   |[_],a=>exact a.2.elim
   |_::_::_::_,a=>exact a.2.2.elim
   |[w,s],a=>exact⟨_,r,a.1,e.cw (l:=[]) (b:=b) (aa:=s) he h a.2.1,C⟩
  cases g
 .cases g⟩
def da(d:i1 α)(a:α->y)(pre:α->n Prop):bK:=λargs e=>match args,e with
 |[g],[]=>match d.ec g with
  |some (b,h)=>f (a b,[],gD h (pre b))
  |none=>p
 |_,_=>p
def eu{b:Type}(g:i1 α)(h:i1 b)(a:α->b->y)(pre:α->b->n Prop):bK:=λargs i=>match args,i with
 |[j,k],[]=>match g.ec j with
  |some (d,l)=>match h.ec k with
   |some (e,o)=>f (a d e,[],gD l (gD o (pre d e)))
   |none=>p
  |none=>p
 |_,_=>p
def kj{b d:Type}(i:i1 α)(j:i1 b)(k:i1 d)(a:α->b->d->y)(pre:α->b->d->n Prop):bK:=λargs l=>match args,l with
 |[o,q,r],[]=>match i.ec o with
  |some (e,s)=>match j.ec q with
   |some (g,t)=>match k.ec r with
    |some (h,u)=>f (a e g h,[],gD s (gD t (gD u (pre e g h))))
    |none=>p
   |none=>p
  |none=>p
 |_,_=>p
section
variable {q:ag P}{ae:a3}{e u:Type}{Q:i1 α}{bY:i1 e}{O:i1 u}
def bM.bd{b:α->y}{pre:α->n Prop}(k:∀e,U (pre e)->Y q ae [Q.a9 e] [] (b e) []):bM q ae (da Q b pre):=by
 intro args l g j h a d;unfold da at a;split at a
 .split at a
  .rename_i o e s i;cases a;rw[U.Y]at d;exact(k e d.2).args λr A=>b6.imp (λ_ g=>Q.ok i d.1 g) (λ_ g=>g) A
  cases a
 cases a
def bM.bn{d:α->e->y}{pre:α->e->n Prop}(l:∀h i,U (pre h i)->Y q ae [Q.a9 h,bY.a9 i] [] (d h i) []):bM q ae (eu Q bY d pre):=by
 intro args o g k j a b;unfold eu at a;split at a
 .split at a
  .rename_i t u h s r;split at a
   .rename_i i w cT;cases a;rw[U.Y,U.Y]at b;exact(l h i b.2.2).args λx A=>b6.imp (λ_ g=>Q.ok r b.1 g) (b6.imp (λ_ g=>bY.ok cT b.2.1 g) (λ_ g=>g)) A
   cases a
  cases a
 cases a
def bM.c5{j:α->e->u->y}{pre:α->e->u->n Prop}(t:∀k i r,U (pre k i r)->Y q ae [Q.a9 k,bY.a9 i,O.a9 r] [] (j k i r) []):bM q ae (kj Q bY O j pre):=by
 intro args w g o l a b;unfold kj at a;split at a
 .split at a
  .rename_i x z B k s h;split at a
   .rename_i i C cT;split at a
    .rename_i r D d;cases a;rw[U.Y,U.Y,U.Y]at b;exact(t k i r b.2.2.2).args λE A=>b6.imp (λ_ g=>Q.ok h b.1 g) (b6.imp (λ_ g=>bY.ok cT b.2.1 g) (b6.imp (λ_ g=>O.ok d b.2.2.1 g) (λ_ g=>g))) A
    cases a
   cases a
  cases a
 cases a
end
namespace R1
def d8(d:n y)(a:y):bK:=λargs b=>match b with|[]=>f (a,[],[args=d])|_=>p
def eg{b:ag T}{ae}{d}{res}(j:Y b ae d [] res []):bM b ae (d8 d res):=by
 intro args i k g e a h;unfold d8 at a;split at a
 .cases a;simp_all
 cases a
def la(g:n y)(d:n an)(a:y)(b:n an):bK:=λargs e=>f (a,b,[args=g,e=d])
def ma{d:ag T}{ae}{e}{a aO}{res}(k:Y d ae e a res aO):bM d ae (la e a res aO):=by intro args j l h g b i;cases b;simp_all
end R1
def lF(b:Mem):n Z->n O->Prop
 |[],[]=>True
 |e::A,d::a=>Rd b e d/\lF b A a
 |_,_=>False
structure rl(α:Type) where
 a9:α->n O
 cp:n O->Option (α×n Prop×n O)
 ok:∀{ai w s bb},cp ai=f (w,s,bb)->U s->∀{bD:Mem} {A:n Z},lF bD A ai->∃v1 v2,A=v1++v2/\lF bD v1 (a9 w)/\lF bD v2 bb
def lF.app{bD}:∀{g h:n Z}{a b:n O},lF bD g a->lF bD h b->lF bD (g++h) (a++b)
 |[],_,[],_,_,d=>d
 |_::_,_,_::_,_,e,i=>⟨e.1,e.2.app i⟩
 |[],_,_::_,_,d,_=>d.elim
 |_::_,_,[],_,d,_=>d.elim
def lF.R{r}{e}(d:lF bD A (r::e)):∃a b,A=a::b/\Rd bD a r/\lF bD b e:=by
 cases A with
 |nil=>exact d.elim
 |cons a A=>exact⟨a,A,rfl,d⟩
def vg(e:c0 α):rl (n α):=⟨λo=>[.C v e.bl (c o) (e.fn o)],λg=>match g with
 |t::q=>match ju e.bl (.p (.R (.c t)))with|some (k,d)=>f (e.af k d,[e.bT k d],q)|none=>p
 |_=>p,λ{g x y q} h i r A j=>by
 split at h
 .split at h
  .rename_i k d he;cases h;obtain⟨aa,s,rfl,u,w⟩:=j.R;exact⟨[aa],s,a,⟨e.cw (l:=[]) (b:=⟨[],r,default,λ_=>True⟩) (aa:=aa) he i u,C⟩,w⟩
  cases h
 .cases h⟩
def yk{k:Type}(Q:rl α)(e:rl k):rl (α×k):=⟨λo=>Q.a9 o.1++e.a9 o.2,λb=>match Q.cp b with
 |some (j,l,n)=>match e.cp n with|some (q,y,z)=>f ((j,q),gD l y,z)|none=>p
 |none=>p,λ{b j l n} d a C A g=>by
 split at d
 .rename_i u;split at d
  .rename_i B;cases d;rw[U.Y]at a;obtain⟨h,D,rfl,t,s⟩:=Q.ok u a.1 g;obtain⟨w,i,rfl,x,r⟩:=e.ok B a.2 s;exact⟨h++w,i,(mt _ _ _).symm,t.app x,r⟩
  cases d
 .cases d⟩
def zK:n Q->Option (n O)
 |[]=>f []
 |.c d::b=>match zK b with|some a=>f (d::a)|none=>p
 |_=>p
def Ef:n O->n Q
 |[]=>[]
 |b::a=>.c b::Ef a
def Nt{l}{b}:∀{e:n Q}{g:n O}{A:n Z},zK e=f g->bO l b A e->lF b.E A g
 |[],g,A,a,d=>by cases a;cases A with|nil=>trivial|cons=>exact d.elim
 |.c k::h,g,A,a,d=>by
  simp only[zK]at a;split at a
  .rename_i i;cases a;cases A with
   |nil=>exact d.elim
   |cons j A=>exact⟨d.1,Nt i d.2⟩
  cases a
 |.ptr ..::_,_,_,a,_=>by cases a
 |.w ..::_,_,_,a,_=>by cases a
 |.aV ..::_,_,_,a,_=>by cases a
 |.S ..::_,_,_,a,_=>by cases a
 |.any::_,_,_,a,_=>by cases a
def L6{l}{b}:∀{d:n O}{A:n Z},lF b.E A d->bO l b A (Ef d)
 |[],[],_=>trivial
 |_::_,_::_,a=>⟨a.1,L6 a.2⟩
 |[],_::_,a=>a.elim
 |_::_,[],a=>a.elim
def AJ(d:rl α):i1 α:=⟨λb=>.p (.agg (Ef (d.a9 b))),λj=>match j with
 |.p (.agg i)=>match zK i with
  |some e=>match d.cp e with|some (b,k,[])=>f (b,k)|_=>p
  |none=>p
 |_=>p,λ{j b k} a g t u w s=>by
 split at a
 .split at a
  .rename_i B;split at a
   .rename_i o;cases a;obtain⟨A,rfl,r⟩:=s;obtain⟨h,q,rfl,n,l⟩:=d.ok o g (Nt B r);cases q with
    |nil=>exact⟨h,by simp,L6 n⟩
    |cons=>exact l.elim
   cases a
  cases a
 .cases a⟩
namespace R1
section
variable {q:ag T}
def VW(h):Y q 68 [R h] [] (bh (cB h)) []:=by
 refine Y.K func68 rfl λd=>?_;by_cases b:1<=h
 .by_cases i:h<=99
  .refine a6 [4,7] a bw (g.ar a ?_);simp[cB,b,i]
  refine a6 [4,-7] a bw (g.ar a ?_);simp[cB,b,i]
 refine a6 [-4] a bW (g.ar a ?_);simp[cB,b]
def pR:bM q 68 (da c1 (λa=>bh (cB a)) λ_=>[]):=.bd λa _=>VW a
def aaX{b}(a:e<c b):d9 (b.take (e+1))=(d9 (b.take e)&&jq (b.getD e 0)):=by unfold d9;grind[List.take_add_one]
def Dz{i}:jq i=m↔97<=(i.toNat:Int)/\(i.toNat:Int)<=122:=by simp[jq];omega
def Kz{b}(g:e<c b)(d:jq (b.getD e 0)=v):d9 b=v:=by
 cases a:d9 b with
 |false=>rfl
 |true=>
  have:=List.all_eq_true.1 a (b.getD e 0) N;grind
def Wd(b):Y q 144 [b0 b] [] (bh (d9 b)) []:=by
 refine Y.K func144 rfl λn=>?_;have r:=n.T 0 a;refine aZ a C (g.en (λd=>d<=c b/\d9 (b.take d)=m) (λd:Nat=>[(0,b0 b),(5,R (c b)),(6,R d)]) (λ_=>[]) (λd=>c b-d) 0 a E ⟨by omega,by simp[d9]⟩ a ?_);rintro d ⟨o,k⟩;by_cases e:d<c b
 .by_cases i:dj b d<97
  .refine a6 [7,12] a ?_ (g.bS (bX.zero a ?_))
   .simp[-al,e,ki,i]
   have:jq (b.getD d 0)=v:=by
    cases j:jq (b.getD d 0)with
    |false=>rfl
    |true=>have:=Dz.1 j;unfold dj at i;omega
   simp[Kz e this]
  by_cases h:dj b d<=122
  .refine a6 [7,-12,-17] a ?_ (g.again (d+1) a ?_ ?_ ?_ a)
   .simp[-al,e,ki,i,h,a7];grind
   .simp
   .refine⟨by omega,?_⟩;rw[aaX e,k,fs];exact Dz.2 (by unfold dj at i h;omega)
   omega
  refine a6 [7,-12,17] a ?_ (g.bS (bX.zero a ?_))
  .simp[-al,e,ki,i];grind
  have:jq (b.getD d 0)=v:=by
   cases j:jq (b.getD d 0)with
   |false=>rfl
   |true=>have:=Dz.1 j;unfold dj at h;omega
  simp[Kz e this]
 have l:d=c b:=x;subst l;refine a6 [-7] a E (g.bt a a ?_);refine aZ a C (g.ar a ?_);simp_all
def aek:bM q 144 (da eF (λb=>bh (d9 b)) λ_=>[]):=.bd λa _=>Wd a
abbrev aeU:n (Nat×bK):=[(68,da c1 (λa=>bh (cB a)) λ_=>[]),(144,da eF (λb=>bh (d9 b)) λ_=>[])]
def B2:a9 q aeU:=.cons pR (.cons aek .nil)
def Xg(b):Y q 278 [b0 b] [] (bh (cE b)) []:=by
 refine Y.K func278 rfl λe=>?_;by_cases d:1<=c b
 .by_cases i:c b<=8
  .refine a8 B2 [5,9,11] a bW (g.ar a ?_);simp[cE,d,i]
  refine a8 B2 [5,-9,-11] a bW (g.ar a ?_);simp[cE,d,i]
 refine a8 B2 [-5,-11] a bW (g.ar a ?_);simp[cE,d]
def EK:bM q 278 (da eF (λb=>bh (cE b)) λ_=>[]):=.bd λa _=>Xg a
def Un(d:Nat)(i:d<=4000000):Y q 280 [R d] [] (R (e5 d)) []:=by
 refine Y.K func280 rfl λk=>?_;by_cases h:d<1
 .refine a6 [5,9] a bW (g.ar a ?_);simp[e5,h]
 by_cases e:8<d
 .refine a6 [-5,8] a bW (g.ar a ?_);simp[e5,e]
 refine a6 [-5,-8] a bW ?_;have l:e5 d=2∨e5 d=4∨e5 d=8:=F8;refine g.en (λb:Nat=>(b=2∨b=4∨b=8)/\b<=e5 d) (λb:Nat=>[(0,R d),(3,R b)]) (λ_=>[]) (λb=>8-b) 2 a E ⟨by simp,by omega⟩ a ?_;rintro b ⟨j,w⟩;by_cases i:b<d
 .exact a6 [12] a lN (g.again (2*b) a bW Og x a)
 refine a6 [-12] a bW (g.bt a a ?_);refine aZ a C (g.ar a ?_);have:b=e5 d:=Og;simp[this]
theorem adF(b)(i):fk (b++[i])=if i=46 then fk b else b++[i]:=by unfold fk;grind[List.dropWhile_cons]
def MS{b}(a:j<c b):fk (b.take (j+1))=if b.getD j 0=46 then fk (b.take j)else b.take (j+1):=by grind[List.take_add_one,adF]
theorem Yf(b):Y q 311 [b0 b,u_ 46] [] (b0 (fk b)) []:=by
 refine Y.K func311 rfl λh=>?_;have n:=h.T 0 a;refine aZ a C (g.en (λj=>j<=c b/\fk (b.take j)=fk b) (λj:Nat=>[(0,b0 (b.take j)),(1,u_ 46)]) (λ_=>[]) (λj=>j) (c b) a E ⟨by omega,by simp⟩ a ?_);rintro j ⟨o,d⟩;cases j with
 |zero=>
  refine a6 [-7,-16] a E (g.bt a a ?_);refine aZ a C (g.ar a ?_);have:fk b=[]:=by rw[<-d];rfl
  simp[this]
 |succ j=>
  have I:c (b.take (j+1))=j+1:=N;have B:dj (b.take (j+1)) j=dj b j:=by simp[dj,al,iq]
  have k:=MS (b:=b) (j:=j) x;have i:((j:Int)+1-1).toNat=j:=x;by_cases e:b.getD j 0=46
  .refine a6 [7,15,16] a ?_ (g.again j a ?_ ?_ ?_ a)
   .have r:dj b j=46:=by unfold dj;exact bJ
    exact Q_
   .simp;show(b.take (j+1)).take _=_;grind
   .grind
   simp
  refine a6 [7,-15,-16] a ?_ (g.bt a a ?_)
  .have r:dj b j≠46:=by unfold dj;intro l;exact e (uD.1 N)
   exact Q_
  refine aZ a C (g.ar a ?_);rw[k,bl e]at d;simp[d]
def G9:bK:=λargs a=>match args,a with
 |[.p (.R (.c (.T b))),.p (.R (.c (.int .u8 46)))],[]=>f (b0 (fk b),[],[])
 |_,_=>p
def MW:bM q 311 G9:=by intro args g b d a e _;unfold G9 at e;grind[Yf]
theorem Ye(b):Y q 295 [b0 b,b0 [46]] [] (b0 (fk b)) []:=by
 refine Y.K func295 rfl λh=>?_;by_cases d:b=[]
 .subst d;refine a8 (a9.cons MW .nil) [8,12] a E (g.ar a ?_);exact bJ
 refine a8 (a9.cons MW .nil) [-8,-11,-12,16,20,21] a ?_ (g.ar a);cases b with
 |nil=>grind
 |cons e i=>simp;decide
def Bx:bK:=λargs a=>match args,a with
 |[.p (.R (.c (.T b))),.p (.R (.c (.T [46])))],[]=>f (b0 (fk b),[],[])
 |_,_=>p
def adV:bM q 295 Bx:=by intro args g b d a e _;unfold Bx at e;grind[Ye]
def H1{a:bB}(b:e<c a):ga (a.take (e+1))=27*ga (a.take e)+(dj a e-97) % 256+1:=by unfold ga;rw[xf,bG b];simp only[uG,Option.toList_some,kb,List.foldl_nil,dj,al,bG b,ir]
def xQ{a:bB}(d:cE a=m)(k:e<=c a):0<=ga (a.take e)/\ga (a.take e)<282429536481:=by simp[cE,cC,bA]at d;obtain⟨i,b⟩:=B6 (a.take e) 0 1 0 (λh g=>qL d.2 h (hh g)) x x x;have:=LK (j:=c (a.take e)) N;rw[Int.one_mul]at b;exact⟨i,Int.lt_of_lt_of_le b this⟩
def Da{a:bB}(b:e<c a):a.getD e 0∈a:=N
abbrev aeV:n (Nat×bK):=[(68,da c1 (λa=>bh (cB a)) λ_=>[]),(278,da eF (λb=>bh (cE b)) λ_=>[])]
def hK:a9 q aeV:=.cons pR (.cons EK .nil)
abbrev Ck(a:Int):y:=.ae [.R (.c (.int .i64 a)),.R (.c .br)]
def WN(d:Int)(b:bB)(l:cB d=m)(h:cE b=m):Y q 273 [R d,b0 b] [] (Ck (e9 d b)) []:=by
 refine Y.K func273 rfl λz=>?_;have j:=h;simp[cE,cC,bA]at j;have r:=l;simp[cB,cC,bA]at r;refine a8 hK [-8,-13] a ds (g.en (λe=>e<=c b) (λe:Nat=>[(0,R d),(1,b0 b),(6,R (ga (b.take e))),(19,R (c b)),(20,R e)]) (λ_=>[]) (λe=>c b-e) 0 a (by simp[ga]) x a ?_);intro e k;by_cases i:e<c b
 .have o:=xQ h k;have A:=xQ h (e:=e+1) x;have n:=H1 i;refine a6 [21] a ?_ (g.again (e+1) a ?_ ?_ ?_ a)
  .simp only[U,ki,a7];simp[-al,i,ki];have w:=qL j.2 (b.getD e 0) (Da i);have s:97<=dj b e/\dj b e<=122:=E';omega
  .have w:=qL j.2 (b.getD e 0) (Da i);have s:97<=dj b e/\dj b e<=122:=E';have B:(dj b e-97) % 256=dj b e-97:=Int.emod_eq_of_lt x x;exact bJ
  .grind
  grind
 have n:e=c b:=x;subst n;have o:=xP h;refine a6 [-21] a E (g.bt a a ?_);refine aZ a ?_ (g.ar a ?_)
 .rw[c_];have u:0<=ga b*(2*d+1):=Int.mul_nonneg o.1 x;have t:ga b*(2*d+1)<=282429536481*199:=Int.mul_le_mul x x x x;generalize ga b*(2*d+1)=y at u t;exact uf
 rw[c_];refine U.Y.2 ⟨?_,U.Y.2 ⟨a,C⟩⟩;show(_:Int)=_;rw[Int.mul_comm 7919 d];rfl
def EJ:bM q 273 (eu c1 eF (λa b=>Ck (e9 a b)) λa b=>[cB a=m,cE b=m]):=.bn λa b d=>WN a b d.1 d.2
def DM(j:s.op=.binOp op o k (.const .nilIface) ty){t:Bool}{r:Array (String×aq)}(x:P.underlying o=f (.interface r))(z:η k=aw .br)(y:η (.const .nilIface)=aw .br)(q:h_ op m=f t):a0 P s η l (aw (.bool t)) l:=by
 refine .aW λe g C w=>?_;have d:=w k;have b:=w (.const .nilIface);rw[z]at d;rw[y]at b;replace d:=b8 d;replace b:=b8 b;generalize h:g k=A at d;generalize i:g (.const .nilIface)=B at b;cases d;cases b;have n:(Op.equal o .nilIface .nilIface).run P e.a=.ok m e.a:=by show(aQ (9999+1) o _ _).run P e.a=_;unfold aQ;simp[underlying,x]
 have u:∀a,(Op.equal o .nilIface .nilIface).events P e.a a=a:=λa=>by show(aQ (9999+1) o _ _).events P e.a a=a;unfold aQ;simp[underlying,x]
 cases op<;>simp[h_,reduceCtorEq,eW]at q
 .subst q;exact⟨.bool m,by simp[ac,j,h,i,eqGuard,binOp,n],Rd.bool,by simp[ac,j,h,i,eqGuard,binOp,n,u]⟩
 subst q;exact⟨.bool v,by simp[ac,j,h,i,eqGuard,binOp,n],Rd.bool,by simp[ac,j,h,i,eqGuard,binOp,n,u]⟩
def WL(b:Int)(d:bB)(e:Int)(h:cB b=m)(i:cE d=m):Y q 256 [R b,b0 d,R e] [] (bh (e9 b d==e)) []:=by refine Y.K func256 rfl λj=>?_;refine a8 (a9.cons EJ .nil) [17] a ds ?_;refine g.aN (DM a underlying179 a a a) a a ?_;refine a8 (a9.cons EJ .nil) [17] a o2 (g.ar a ?_);simp
def adR:bM q 256 (kj c1 eF c1 (λa b d=>bh (e9 a b==d)) λa b _=>[cB a=m,cE b=m]):=.c5 λa b d e=>WL a b d e.1 e.2
abbrev mB(a:Int):y:=aw (.int .u64 a)
def _root_.Go.AM.b2.fA{s:ag P}{aP}{k X}(C:b2 s D X aP F l):b2 s D (.cond (.const (.bool v)) k X) aP F l:=by intro J u A d w E i t n j;refine .ctl d a (λ_=>zk (o:=v) a) λy b=>?_;exact C y u (A.rely b d) (d.rely b) w E i t n λz e g q h I x B r=>j z e g q h I x B (b.aY.trans r)
def _root_.Go.AM.g.fA{P:aI}{a:ag P}{D}{be}{av}{F}{l}{k X}(b:g a D be (.code X::av) .normal F l):g a D be (.code (.cond (.const (.bool v)) k X)::av) .normal F l:=b2.fA b
def Kl{h d}{j i}(r)(t:s.op=.binOp op o k X ty)(A:η k=aw (.int h j))(z:η X=aw (.int d i))(x:a7 h r)(n:∀g,(binOp op o (.int h j) (.int d i)).run P g=.ok (.int h r) g)(y:∀g,(binOp op o (.int h j) (.int d i)).events P g #[]=#[]):
  a0 P s η l (aw (.int h r)) l:=by refine .aW λD e E w=>?_;have b:=w k;have a:=w X;rw[A]at b;rw[z]at a;replace b:=b8 b;replace a:=b8 a;generalize q:e k=B at b;generalize u:e X=C at a;cases b;cases a;exact⟨.int h r,by simp only[ac,t,cI,q,u,qs,c7,n,d_],.int x,by simp[ac,t,q,u,qs,yc,n,y]⟩
def WH:Y q 317 [mB 1,mB 2] [] (.ae [.R (.c (.int .u64 0)),.R (.c (.int .u64 2))]) []:=Rx
def WI:Y q 317 [mB 1,mB 3] [] (.ae [.R (.c (.int .u64 0)),.R (.c (.int .u64 3))]) []:=Rx
def G_:bK:=λargs b=>match args,b with
 |[.p (.R (.c (.int .u64 1))),.p (.R (.c (.int .u64 a)))],[]=>f (.ae [.R (.c (.int .u64 0)),.R (.c (.int .u64 a))],[],[a=2∨a=3])
 |_,_=>p
def t317:bM q 317 G_:=by
 intro args h e g d a b;unfold G_ at a;split at a
 .cases a;rcases b with rfl|rfl
  .exact WH
  exact WI
 grind
def WG(b:Int)(d:b=2∨b=3):Y q 305 [mB 1,mB b] [] (.ae [.R (.c (.int .u64 0)),.R (.c (.int .u64 b))]) []:=by refine Y.K func305 rfl λe=>?_;refine b_ (a9.cons t317 .nil) a C ?_;refine g.fA ?_;refine b_ (a9.cons t317 .nil) a ?_ (g.ar a);exact bw
def By:bK:=λargs b=>match args,b with
 |[.p (.R (.c (.int .u64 1))),.p (.R (.c (.int .u64 a)))],[]=>f (.ae [.R (.c (.int .u64 0)),.R (.c (.int .u64 a))],[],[a=2∨a=3])
 |_,_=>p
def t305:bM q 305 By:=by
 intro args h e g d a b;unfold By at a;split at a
 .cases a;exact WG _ b
 grind
abbrev lM:bK:=da eF (λa=>b0 (fE a)) λ_=>[]
abbrev iN(a:Option bB):y:=.ae [.R (.c (.T (a.getD []))),.R (.c (.bool a.isSome))]
def W7(h:bM q 219 lM)(i):Y q 255 [b0 i] [] (iN (ia i)) []:=by
 refine Y.K func255 rfl λk=>?_;have d:a9 q [(295,Bx),(278,da eF (λj=>bh (cE j)) λ_=>[]),(219,lM)]:=.cons adV (.cons EK (.cons h .nil));by_cases b:cE (fk i)=m
 .by_cases e:fE (fk i)=i
  .refine a8 d [-10,-15] a ds (g.ar a ?_);simp[ia,b,e]
  refine a8 d [-10,15] a ds (g.ar a ?_);simp[ia,b,e]
 refine a8 d [10,15] a ?_ (g.ar a ?_)
 .simp[b]
 simp[ia,b]
def aex(b:bM q 219 lM):bM q 255 (da eF (λa=>iN (ia a)) λ_=>[]):=.bd λa _=>W7 b a
def Lo{i a}(b:ia i=f a):cE a=m:=by unfold ia at b;grind
abbrev Ci(a:cW):y:=sw.a9 a
def Uj(l:bM q 219 lM)(k)(h)(b:cB h=m):Y q 204 [Ci k,R h] [] (iN (jN h k)) []:=by
 refine Y.K func204 rfl λr=>?_;have e:a9 q [(255,da eF (λj=>iN (ia j)) λ_=>[]),(256,kj c1 eF c1 (λh d n=>bh (e9 h d==n)) λh d _=>[cB h=m,cE d=m])]:=.cons (aex l) (.cons adR .nil);cases w:ia k.2 with
 |none=>
  refine a8 e [16,23] a o3 (g.ar a ?_);simp[jN,w]
 |some d=>
  have o:=Lo w;by_cases i:e9 h d=k.1
  .refine a8 e [-16,-23] a ds (g.ar a ?_);simp[jN,w,i,b]
  refine a8 e [-16,23] a ds (g.ar a ?_);simp[jN,w,i,b]
def MY(d:bM q 219 lM):bM q 204 (eu sw c1 (λb a=>iN (jN a b)) λ_ a=>[cB a=m]):=.bn λb a e=>Uj d b a e
def VL(k)(j):Y q 288 [Ci k,aw (.Q [.int .i64 j])] [] (bh (k.1==j)) []:=by refine Y.K func288 rfl λb=>?_;exact aZ a C (g.ar a)
def Bw:bK:=λargs d=>match args,d with
 |[.p (.agg [.c (.int .i64 b),.c (.T a)]),.p (.R (.c (.Q [.int .i64 e])))],[]=>f (bh (b==e),[],[a=a])
 |_,_=>p
def adU:bM q 288 Bw:=by
 intro args k d e b a h;unfold Bw at a;split at a
 .rename_i i g j;cases a;exact VL (i,g) j
 grind
abbrev Is(a:Int):y:=aw (.fn (.func 288) [] [.Q [.int .i64 a]])
def pw(b:n cW)(d:Int):Int:=match b.findIdx? (λe=>e.1==d)with|some a=>a|none=>-1
def aar{o}{j}(a:e<c o)(i:(o.getD e (0,[])).1=j)(g:∀b,b<e->(o.getD b (0,[])).1≠j):pw o j=e:=by
 have:o.findIdx? (λd=>d.1==j)=f e:=by rw[uJ];refine⟨a,N,λb h=>?_⟩;grind
 rw[pw,this]
def aat{o}{j}(d:∀a,a<c o->(o.getD a (0,[])).1≠j):pw o j=-1:=by have:o.findIdx? (λb=>b.1==j)=p:=wN;rw[pw,this]
def Vr(o)(j):Y q 287 [bH.C o,Is j] [] (R (pw o j)) []:=by
 refine Y.K func287 rfl λi=>?_;have n:=i.C 0 a;have d:a9 q [(288,Bw)]:=.cons adU .nil;refine b_ d a C (g.b_ (λb=>b<=c o/\∀e,e<b->(o.getD e (0,[])).1≠j) (λb:Nat=>[(0,bH.C o),(1,Is j),(7,R (c o)),(8,R b)]) (λ_=>[]) (λb=>c o-b) 0 a E a C ⟨by omega,by omega⟩ ?_);rintro b ⟨l,h⟩;by_cases k:b<c o
 .by_cases r:(o.getD b (0,[])).1=j
  .refine a8 d [9,16] a ?_ (g.bS (bX.zero a ?_))
   .simp only[U,c5];grind
   simp[aar k r h]
  refine a8 d [9,-16] a ?_ (g.b5 (b+1) a ?_ a C ?_ ?_)
  .simp only[U,c5];exact⟨by exact bJ,C,eM.2 r,by omega,by omega,ff x⟩
  .simp
  .grind
  omega
 refine a8 d [-9] a bW (g.bt a a ?_);refine b_ d a C (g.ar a ?_);simp[aat (λe s=>h e x)]
def Bv:bK:=λargs d=>match args,d with
 |[e,.p (.R (.c (.fn (.func 288) [] [.Q [.int .i64 g]])))],[]=>match ju 2 e with
  |none=>p
  |some (b,a)=>f (R (pw (bH.af b a) g),[],[bH.bT b a])
 |_,_=>p
def adT:bM q 287 Bv:=by
 intro args l h i g a d;unfold Bv at a;split at a
 .rename_i n j;split at a
  .cases a
  rename_i o k b;cases a;exact(Vr _ j).args (λ_ A=>b6.imp (λ_=>bH.cw b d) (b6.imp (λ_ e=>e) (λ_ e=>e)) A)
 grind
def aas(o)(j):(pw o j=-1/\o.find? (λb=>b.1==j)=p)∨∃a:Nat,a<c o/\pw o j=a/\o.find? (λb=>b.1==j)=f (o.getD a (0,[])):=by unfold pw;grind[List.findIdx?_eq_some_iff_getElem,List.find?_eq_some_iff_getElem]
def W1(k:bM q 219 lM)(h)(b)(j)(n:cB h=m):Y q 243 [R h,fD b,R j] [] (iN (gq h b j)) []:=by
 refine Y.K func243 rfl λs=>?_;have d:a9 q [(287,Bv),(204,eu sw c1 (λo h=>iN (jN h o)) λ_ h=>[cB h=m])]:=.cons adT (.cons (MY k) .nil);have t:bH.af (c b.2) (bH.fn b.2)=b.2:=bH.m _;refine gu [] 7 a C (g.freeze 5 1 a a a ?_);rcases aas b.2 j with⟨l,i⟩|⟨e,bp,l,i⟩
 .refine a8 d [14] a bJ (g.ar a ?_);simp[gq,i]
 refine a8 d [-14] a bJ (g.ar a ?_);have r:gq h b j=jN h (b.2.getD e (0,[])):=by simp only[gq,i]
 simp_all
def aeD(e:bM q 219 lM):bM q 243 (kj c1 (jE bH) c1 (λa d b=>iN (gq a d b)) λa _ _=>[cB a=m]):=.c5 λa d b g=>W1 e a d b g
def yH:∀b(a:UInt8),Lib.indexByte b a<c b∨Lib.indexByte b a=-1
 |[],a=>.inr (by rw[Lib.indexByte.eq_def])
 |e::b,a=>by have d:=yH b a;grind[Lib.indexByte.eq_def]
set_option maxRecDepth 20000 in
theorem VD(b)(r):Y q 268 [b0 b,u_ r.toNat] [] (R (Lib.indexByte b r)) []:=by
 refine Y.K func268 rfl λK=>?_;have O:=K.T 0 a;refine aZ a C (g.R (k:=R (Lib.indexByte b r)) (ao:=[]) ?_ a ?_)
 .refine aJ.a1 (λ_ _ _ _=>iZ o2) ?_;refine a0.dw λe d aa h=>?_;have t:=b8 (h (.tmp 5));have s:=b8 (h (.tmp 6));generalize n:d (.tmp 5)=M at t;generalize i:d (.tmp 6)=N at s;cases t with
  |T A I=>
  cases s with
  |int J=>
  have l:d (.func 302)=.func (.func 302) #[] #[]:=by
   have:=b8 (h (.func 302));generalize d (.func 302)=Z at this;cases this with
   |fn D y S u X W w x d1 d2=>
    grind
  have B:(callFunc 302 #[.string ‹ByteArray›,.int .u8 r.toNat]).run T e.a=.ok (.value (.int .i64 (Lib.indexByte b r))) e.a:=by rw[run_callFunc_extern func302 bL bL bL (e:=Extern.BytealgIndexByte.indexByte) bL,Lib.run_indexByteString];simp_all
  have F:dC T (Extern.BytealgIndexByte.indexByte #[.string ‹ByteArray›,.int .u8 r.toNat]):=by
   refine dC.bind (z:=Extern.Bytes.bytesOf (.string ‹ByteArray›)) (λ_ _=>rfl) λu=>dC.bind (z:=Extern.Bytes.asByte (.int .u8 r.toNat)) (λ_ _=>?_) λV=>?_
   .simp[Extern.Bytes.asByte]
   .skip
    split<;>exact .pure
  have E:=IO func302 bL bL bL (aj:=Extern.BytealgIndexByte.indexByte) bL _ F e.a #[];refine⟨.int .i64 (Lib.indexByte b r),?_,Rd.int ?_,?_⟩
  rotate_left 2
  .intro o j;simp[ac,resolve,Deferred.ofValue,invoke,n,i,l,E]at j;subst j;exact .inr ⟨_,a⟩
  .simp[ac,resolve,Deferred.ofValue,invoke,n,i,l,B]
  have Q:=Lib.indexByte_ge b r;have ab:=yH b r;exact cQ
 exact wJ
def VN(b:Int)(e:O)(d:Int):Y q 127 [.p (.agg [.c (.int .i64 b),.c e]),aw (.Q [.int .i64 d])] [] (bh (b==d)) []:=by refine Y.K func127 rfl λh=>?_;exact aZ a C (g.ar a)
def Bj:bK:=λargs b=>match args,b with
 |[.p (.agg [.c (.int .i64 a),.c e]),.p (.R (.c (.Q [.int .i64 d])))],[]=>f (bh (a==d),[],[])
 |_,_=>p
def t127:bM q 127 Bj:=by
 intro args h d e b a g;unfold Bj at a;split at a
 .cases a;exact VN _ _ _
 cases a
abbrev Ir(a:Int):y:=aw (.fn (.func 127) [] [.Q [.int .i64 a]])
def oG(b:n eh)(d:Int):Int:=match b.findIdx? (λe=>e.1==d)with|some a=>a|none=>-1
def aau{a:n eh}{d:Int}(g:e<c a)(l:(a.getD e (0,[])).1=d)(h:∀b,b<e->(a.getD b (0,[])).1≠d):oG a d=e:=by
 have:a.findIdx? (λk=>k.1==d)=f e:=by rw[uJ];refine⟨g,ds,λb j=>?_⟩;have i:b<c a:=x;simpa[al,bG i]using h b j
 rw[oG,this]
def aaw{a:n eh}{d:Int}(h:∀b,b<c a->(a.getD b (0,[])).1≠d):oG a d=-1:=by
 have:a.findIdx? (λe=>e.1==d)=p:=by rw[AQ];intro e g;obtain⟨b,i,rfl⟩:=hq g;simp_all
 rw[oG,this]
def Vx(d:n eh)(i:Int):Y q 126 [bi.C d,Ir i] [] (R (oG d i)) []:=by
 refine Y.K func126 rfl λo=>?_;have t:=o.C 0 a;have e:a9 q [(127,Bj)]:=.cons t127 .nil;refine b_ e a C (g.b_ (λb=>b<=c d/\∀h,h<b->(d.getD h (0,[])).1≠i) (λb:Nat=>[(0,bi.C d),(1,Ir i),(7,R (c d)),(8,R b)]) (λ_=>[]) (λb=>c d-b) 0 a E a C ⟨by omega,by omega⟩ ?_);rintro b ⟨s,k⟩;by_cases r:b<c d
 .by_cases l:(d.getD b (0,[])).1=i
  .refine a8 e [9,16] a bJ (g.bS (bX.zero a ?_));simp[aau r l k]
  refine a8 e [9,-16] a ?_ (g.b5 (b+1) a ?_ a C ?_ ?_)
  .simp only[U,c5];exact⟨by exact bJ,eM.2 l,by omega,by omega,ff x⟩
  .simp
  .refine⟨by omega,λh j=>?_⟩;rcases w9.1 j with j|rfl
   .simp_all
   omega
  omega
 refine a8 e [-9] a bW (g.bt a a ?_);refine b_ e a C (g.ar a ?_);simp[aaw (λh j=>k h x)]
def Bi:bK:=λargs d=>match args,d with
 |[e,.p (.R (.c (.fn (.func 127) [] [.Q [.int .i64 g]])))],[]=>match ju 2 e with
  |none=>p
  |some (b,a)=>f (R (oG (bi.af b a) g),[],[bi.bT b a])
 |_,_=>p
def adJ:bM q 126 Bi:=by
 intro args l h i g a d;unfold Bi at a;split at a
 .rename_i n j;split at a
  .cases a
  rename_i o k b;cases a;exact(Vx _ j).args (λ_ A=>b6.imp (λ_=>bi.cw b d) (b6.imp (λ_ e=>e) (λ_ e=>e)) A)
 cases a
def aav(b:n eh)(h:Int):(oG b h=-1/\b.find? (λe=>e.1==h)=p)∨∃d:Nat,d<c b/\oG b h=d/\b.find? (λe=>e.1==h)=f (b.getD d (0,[])):=by
 unfold oG;cases i:b.findIdx? (λe=>e.1==h)with
 |none=>
  refine .inl ⟨a,?_⟩;rw[AQ]at i;exact List.find?_eq_none.2 λe o=>by exact bJ
 |some d=>
  rw[uJ]at i;obtain⟨g,j,l⟩:=i;refine .inr ⟨d,g,a,?_⟩;rw[Sj];refine⟨ds,d,g,ds,λq k=>?_⟩;simp_all
def ni(a:Nat->Int):Nat->n O:=λb=>[.int .u8 (a b)]
def Bytes(a:Nat->Int):Prop:=∀b,0<=a b/\a b<=255
abbrev ej(d:Nat)(a:Nat->Int)(b:Int):an:=.cells 82 [.c (.C v 1 d (ni a)),.c (.int .i64 b)]
def bk.cy{e}{fn}{args}{a:ι->n an}(o:Tryz.prog.funcs[e]?=f fn)(k:(fn.name== "runtime.NumGoroutine")=v)(d:fn.body=f r)(j:ay args.length fn.ntmps=m)(u:kF args l->g q fn.ntmps (λs i b=>∃h,bX fn l.length (res h) (a h) s i b) [.code r] .normal (h3 0 args) l):bk q e args l res a:=
 bk.e6 o k d j λt=>b2.bA (g.aT (u t))
def g.bL{fn}{d}{a:ι->n an}(e)(j:g q D (bX fn d (res e) (a e)) av .normal F l):g q D (λi F b=>∃h,bX fn d (res h) (a h) i F b) av .normal F l:=
 g.bU (λ_ _ _ k=>⟨e,k⟩) j
def qT(b:Nat)(d:Nat->Int)(a:Nat)(e:Int):Int:=
 if b=0 then 0 else if a<b then d a % e else
  ((d ((a:Int) % b).toNat*131+d (((a:Int)*7+3) % b).toNat*1117+a*29+(a:Int) / b*53).toNat ^^^ ((d ((a:Int) % b).toNat*131+d (((a:Int)*7+3) % b).toNat*1117+a*29+(a:Int) / b*53) / 64).toNat:Nat) % e
set_option maxRecDepth 20000 in
def Ji(z)(d:Nat->Int)(l:Bytes d)(b:Nat)(j)(r:b<=4000000)(A:z<=1048576)(M:1<=j/\j<=4000000):
  Y q 39 [aD 0 0,R j] [ej z d b] (R (qT z d b j)) [ej z d (b+1)]:=by
 refine Y.K func39 rfl λu=>?_;have i:∀e,e<c ([ej z d b]:n an)->([0]:n Nat)[e]?=f e:=λe C=>by grind
 by_cases k:z=0
 .subst k;refine a6 [-17,24] a cQ (g.aM [0] a ?_ i);exact cQ
 have h:((b:Int)+1-1)=b:=x;have y:((b:Int)+1-1).toNat=b:=x;have w:=l b;by_cases E:(b:Int)<z
 .refine a6 [-17,-24,36] a ?_ (g.aM [0] a ?_ i)
  .simp only[U,h,c5,bA,dv,eM,a7];omega
  have:b<z:=x;simp[qT,k,this]
 refine bN [-17,-24,-36] a ?_ (g.aM [0] a ?_ i)
 .simp only[U,h,dv,eM,a7];have o:(0:Int)<z:=x;have B:=sI (b:Int) (by omega:(z:Int)≠0);have D:=sB (b:Int) o;have t:=sI ((b:Int)*7+3) (by omega:(z:Int)≠0);have F:=sB ((b:Int)*7+3) o;have w1:0<=(b:Int) / z:=Int.ediv_nonneg x x;have w2:(b:Int) / z<=b:=Int.ediv_le_self _ x;generalize(b:Int) % z=s at *;generalize((b:Int)*7+3) % z=aa at *;generalize(b:Int) / z=I at *;have J:=l s.toNat;have K:=l aa.toNat;grind
 have:¬b<z:=x;simp[qT,k,this,h]
def Lv(z)(a:Nat->Int)(h)(j)(b:1<=j):0<=qT z a h j/\qT z a h j<j:=by
 unfold qT;split
 .omega
 split
 .exact⟨sI _ x,sB _ x⟩
 exact⟨sI _ x,sB _ x⟩
def hM(z)(a:Nat->Int)(s:Bytes a)(b:Nat)(j)(i:b<=4000000)(r:z<=1048576)(l:1<=j/\j<=4000000):
  bk (ι:={d:Int // 0<=d/\d<j}) q 39 [aD 0 0,R j] [ej z a b] (λd=>R d.1) (λ_=>[ej z a (b+1)]):=by have n:=Ji (q:=q) z a s b j i r l;exact⟨n.1,λt A k h o e g=>n.2 t A k h o e (g ⟨_,Lv z a b j l.1⟩)⟩
def nq:∀a,a<1->([0]:n Nat)[a]?=f a:=λa b=>by grind
set_option maxRecDepth 20000 in
def CH(z)(b:Nat->Int)(n:Bytes b)(e:Nat)(h:e<=4000000)(l:z<=1048576)(d)(t:1<=c d/\c d<=1000):
  bk (ι:={i:bB // i∈d}) q 74 [aD 0 0,bR.C d] [ej z b e] (λi=>b0 i.1) (λ_=>[ej z b (e+1)]):=by refine bk.cy func74 rfl rfl rfl λs=>?_;refine aZ a C (g.a8 (hM z b n e (c d) h l x) [0] a bm ?_);rintro⟨j,o,r⟩;refine aZ a bW ?_;have k:d.getD j.toNat bR.I∈d:=N;refine g.bL ⟨d.getD j.toNat bR.I,k⟩ (g.aM [0] a ?_ nq);simp
def Lr:n bB:=[[],[102],[97,47],[97,98],[97,47,98,47,99],[47,97]]
def Ls:n bB:=[[97],[98],[99,47,97],[99,47,98],[100,47,97],[101],[97,47,98],[100]]
set_option maxRecDepth 20000 in
def Jh(z)(d:Nat->Int)(k:Bytes d)(h:Nat)(l:h<=100000)(j:z<=1048576):
  bk (ι:={b:bB // c b<=8}) q 72 [aD 0 0] [ej z d h] (λb=>b0 b.1) (λ_=>[ej z d (h+1+1)]):=by
 refine bk.cy func72 rfl rfl rfl λs=>?_;refine aZ a C (g.a8 (hM z d k h 40 x j x) [0] a bm ?_);rintro⟨n,o,r⟩;by_cases t:n=0
 .refine a6 [5] a gA ?_;have:=CH (q:=q) z d k (h+1) x j Lr b9;refine g.b0 this [0] a a a a ?_ a a a bm a bm a ?_
  .refine⟨a,λe bp=>?_⟩;rcases e with _|_|_|_|_|_|e<;>first|rfl|omega
  rintro⟨b,i⟩;refine aZ a C (g.bL ⟨b,(by decide:∀b∈Lr,c b<=8) b i⟩ (g.aM [0] a ?_ nq));simp
 refine a6 [-5] a gA ?_;have:=CH (q:=q) z d k (h+1) x j Ls b9;refine g.b0 this [0] a a a a Qd a a a bm a bm a ?_;rintro⟨b,i⟩;refine aZ a C (g.bL ⟨b,(by decide:∀b∈Ls,c b<=8) b i⟩ (g.aM [0] a ?_ nq));simp
def NI:n bB:=[[97,98,99],[104,101,108,108,111],[119,111,114,108,100],[97,97,97,97],[107,101,101,112],[122,122],[98,97,99,107,117,112],[113]]
abbrev Se(b:Nat):={a:bB×Nat // c a.1<=100000/\b<=a.2/\a.2<=b+60}
def Jb(b)(j)(u:c b<=10)(A:0<=j/\j<=100):bk (ι:={n:bB // c n<=100000}) q 130 [b0 b,R j] [] (λn=>b0 n.1) (λ_=>[]):=by
 refine bk.cy func130 rfl rfl rfl λw=>?_;refine aZ a C (g.b_ (λk:Nat×bB×bB=>k.1<=100/\c k.2.2+c k.2.1*k.1<=1010) (λk=>[(0,b0 k.2.1),(1,R k.1),(5,b0 k.2.2)]) (λ_=>[]) (λk=>k.1) (j.toNat,b,[]) a bW a C ⟨by grind,?_⟩ ?_)
 .have:c b*j.toNat<=10*100:=Nat.mul_le_mul u x;grind
 rintro⟨d,h,i⟩ ⟨r,s⟩;simp only at r s;by_cases l:0<d
 .have e:c h<=c h*d:=uC _ l;have y:((d:Int) / 2)=((d / 2:Nat):Int):=x;by_cases z:d % 2=1
  .have o:c (h++h)*(d / 2)+c h=c h*d:=by have t:d=2*(d / 2)+1:=x;grind
   refine a6 [7,10] a bw (g.b5 (d / 2,h++h,i++h) a E a C N ?_);grind
  have o:c (h++h)*(d / 2)=c h*d:=by have t:d=2*(d / 2):=x;grind
  refine a6 [7,-10] a bw (g.b5 (d / 2,h++h,i) a E a C N ?_);grind
 obtain rfl:d=0:=x;refine a6 [-7] a E (g.bt a a ?_);exact aZ a C (g.bL ⟨i,by omega⟩ (g.ar a))
set_option maxRecDepth 20000 in
def X9(z)(d:Nat->Int)(j:Bytes d)(h)(I:h<=100000)(k:z<=1048576):
  bk (ι:=Se h) q 73 [aD 0 0] [ej z d h] (λu=>b0 u.1.1) (λu=>[ej z d u.1.2]):=by
 refine bk.cy func73 rfl rfl rfl λQ=>?_;refine aZ a C (g.a8 (hM z d j h 5 x k x) [0] a bm ?_);rintro⟨T,U,V⟩;refine aZ a C (g.aE 1 (λb:Nat×bB×Nat=>b.1<=4/\c b.2.1+6*b.1<=24/\h<=b.2.2/\b.2.2+b.1<=h+5) (λb=>[(0,aD 0 0),(4,R b.1),(3,b0 b.2.1)]) (λb=>[ej z d b.2.2]) (λb=>b.1) (T.toNat,[],h+1) a bW a E a ⟨by omega,by grind,by simp,by grind⟩ ?_);rintro⟨l,b,k1⟩ ⟨B,J,F,Z⟩;simp only at B J F Z;by_cases t:0<l
 .refine a6 [9] a gA ?_;have:=CH (q:=q) z d j k1 x k NI b9;refine g.b0 this [0] a a a a Qd a a a bm a bm a ?_;rintro⟨i,r⟩;have ae:c i<=6:=(by decide:∀i∈NI,c i<=6) i r;refine aZ a nU (g.ax (l-1,b++i,k1+1) a bW E N ?_);grind
 obtain rfl:l=0:=x;refine a6 [-9] a E (g.aB ?_);refine aZ a C (g.a8 (hM z d j k1 4 x k x) [0] a bm ?_);rintro⟨S,ab,ad⟩;by_cases A:S=0
 .refine a6 [19] a (by simp[A]) (g.a8 (hM z d j (k1+1) 12 x k x) [0] a bm ?_);rintro⟨W,X,w1⟩;refine aZ a C (g.aE 1 (λb:Nat×bB×Nat=>b.1<=11/\c b.2.1+b.1<=36/\h<=b.2.2/\b.2.2+b.1<=h+20) (λb=>[(0,aD 0 0),(5,R b.1),(3,b0 b.2.1)]) (λb=>[ej z d b.2.2]) (λb=>b.1) (W.toNat,b,k1+2) a bW a bW a ⟨by omega,by grind,by grind,by grind⟩ ?_);rintro⟨l,n,o⟩ ⟨y,M,H,O⟩;simp only at y M H O;by_cases t:0<l
  .refine a6 [23] a gA (g.a8 (hM z d j o 26 x k x) [0] a bm ?_);rintro⟨Y,aa,L⟩;refine aZ a nU (g.ax (l-1,n++[UInt8.ofNat (97+Y).toNat],o+1) a bW E N ?_);grind
  obtain rfl:l=0:=x;refine a6 [-23] a E (g.aB ?_);refine a6 [-36] a bW (g.a8 (hM z d j o 60 x k x) [0] a bm ?_);rintro⟨s,G,K⟩;by_cases D:s=0
  .refine a6 [41] a bw (g.bL ⟨(n++[65],o+1),by grind,by grind,by grind⟩ (g.aM [0] a ?_ nq));simp
  by_cases w:s=1
  .refine a6 [-41,45] a o3 (g.a8 (Jb [97,98,99,100,101] 9 b9 b9) [] a bm ?_);rintro⟨i,r⟩;refine aZ a C (g.bL ⟨(i,o+1),r,by grind,by grind⟩ (g.aM [0] a ?_ nq));simp
  refine a6 [-41,-45] a bw (g.bL ⟨(n,o+1),by grind,by grind,by grind⟩ (g.aM [0] a ?_ nq));simp
 refine gu [-19] 2 a (by simp[A]) (a6 [-36] a bW (g.a8 (hM z d j (k1+1) 60 x k x) [0] a bm ?_));rintro⟨s,G,K⟩;by_cases D:s=0
 .refine a6 [41] a bw (g.bL ⟨(b++[65],(k1+1)+1),by grind,by grind,by grind⟩ (g.aM [0] a ?_ nq));simp
 by_cases w:s=1
 .refine a6 [-41,45] a o3 (g.a8 (Jb [97,98,99,100,101] 9 b9 b9) [] a bm ?_);rintro⟨i,r⟩;refine aZ a C (g.bL ⟨(i,(k1+1)+1),r,by grind,by grind⟩ (g.aM [0] a ?_ nq));simp
 refine a6 [-41,-45] a bw (g.bL ⟨(b,(k1+1)+1),by grind,by grind,by grind⟩ (g.aM [0] a ?_ nq));simp
def WY(z)(b:Nat->Int)(h:z<=1048576):bk (ι:={d:Nat // d<=1048576}) q 14 [aw (.C v 1 z (ni b))] [] (λ_=>aD 0 0) (λd=>[ej d.1 b 0]):=by
 refine bk.cy func14 rfl rfl rfl λj=>?_;by_cases k:2000<z
 .refine a6 [5] a bW (g.bf [ej 2000 b 0] a ?_ (g.bL ⟨2000,by decide⟩ (g.aM [0] a ?_ (λi e=>by grind))))
  .simp[bt,fA,bU]
  simp
 exact a6 [-5] a bW (g.bL ⟨z,h⟩ (g.aM [0] a E (λi e=>by grind)))
def C3:∀a,a<1->([0]:n Nat)[a]?=f a:=b9
def s':∀a,a<2->([0,1]:n Nat)[a]?=f a:=b9
def gp:n cW->n Z
 |[]=>[]
 |a::b=>.int .i64 a.1::jj a.2::gp b
def gi(b:n cW):Prop:=∀a∈b,a7 .i64 a.1/\c a.2<=9223372036854775807
theorem yp:∀a:n cW,c (gp a)=c a*2
 |[]=>rfl
 |d::b=>by simp only[gp,fp,yp b];omega
def JI:∀{d:n cW}{e:Nat},e<c d->(gp d)[e*2]?=f (.int .i64 (d.getD e (0,[])).1)/\(gp d)[e*2+1]?=f (jj (d.getD e (0,[])).2)
 |[],e,a=>absurd a (iH _)
 |g::b,0,_=>⟨rfl,rfl⟩
 |g::b,e+1,a=>by rw[show(e+1)*2=e*2+1+1 by omega];exact JI (d:=b) (e:=e) N
def C5:∀b a:n cW,gp (b++a)=gp b++gp a
 |[],a=>rfl
 |d::b,a=>by simp only[uH,gp,C5 b a]
theorem JJ:∀b(a:Nat)d,a<c b->gp (b.set a d)=(gp b).take (a*2)++[.int .i64 d.1,jj d.2]++(gp b).drop (a*2+2)
 |[],a,d,e=>absurd e (iH _)
 |g::b,0,d,_=>by simp[gp]
 |g::b,a+1,d,e=>by rw[List.set_cons_succ,gp,JJ b a d N,gp,show(a+1)*2=a*2+1+1 by omega,show a*2+1+1+2=(a*2+2)+1+1 by omega];simp
theorem C6{d}(n:gi d):ek 2 (c d) (bH.fn d) (gp d):=by
 refine⟨yp d,λb _=>rfl,λb e o q a=>?_⟩;obtain⟨i,j⟩:=JI e;obtain⟨l,g⟩:=n (d.getD b (0,[])) N;have k:bH.fn d b=[.int .i64 (d.getD b (0,[])).1,.T (d.getD b (0,[])).2]:=rfl;rw[k]at a
 match o,a with
 |0,a=>cases a;exact⟨_,i,λh=>Rd.int l⟩
 |1,a=>cases a;exact⟨_,j,λh=>Rd.T N g⟩
abbrev g3(a:Z):y:=aw (.val a)
abbrev aG(a:fl)(d:Nat)(b:n cW):an:=.J (cm 153 2 a d (gp b))
abbrev is(b:Nat)(a:fl)(d:Nat):an:=.J (ee b 271 (cY a d))
abbrev sZ(a:cW):y:=aw (.cG 153 [.int .i64 a.1,.T a.2])
abbrev x3(a:cW):y:=.p (.agg [.c (.int .i64 a.1),.c (.T a.2)])
theorem ae7{a:cW}(l:nb A [.c (.int .i64 a.1),.c (.T a.2)]):A=[.int .i64 a.1,jj a.2]:=by
 obtain⟨i,e⟩:=l
 match A,i with
 |[q,r],_=>
  obtain⟨n,h,b⟩:=e 0 _ rfl;obtain⟨o,j,d⟩:=e 1 _ rfl;cases h;cases j;have g:=b λ_ _=>p;have k:=(EG (d λ_ _=>p)).1;cases g;rw[k]
def Sy(b:s.op=.call {callee:=.builtin .append,args:=#[k,X],argTypes:=#[271,271]}):j6 T s k X 153 l1:=
 ⟨⟨271,271,Di,Di,b,(ba _ _ a),rfl,(ba _ _ a),rfl⟩,(ba _ _ a),by decide,by decide⟩
def Cx(bP)(j)(d):Y q 220 [g3 (cY bP j)] [aG bP j d] (R j) [aG bP j d]:=by refine Y.K func220 rfl λb=>?_;refine gu [] 7 a C ?_;refine g.jo ba 0 a a a a a a a a ?_;exact aZ a C (g.aM [0] a a C3)
def Cy(i cap){d}(k:gi d)(n:Nat)(b:e<c d)(j:u<c d):Y q 350 [g3 (cY (.row i cap) (c d)),R e,R u] [aG (.row i cap) (c d) d] (bh (decide ((d.getD e (0,[])).1<(d.getD u (0,[])).1))) [aG (.row i cap) (c d) d]:=by
 refine Y.K func350 rfl λl=>?_
 have h:=C6 k;refine a6 [901] a C ?_;refine g.gk b5 [g3 (cY (.row i cap) (c d)),R e,g3 (.pointer (f ⟨i,0+(e:Int).toNat*2,p⟩)),g3 (.pointer (f ⟨i,0+(e:Int).toNat*2+0,p⟩)),R (d.getD e (0,[])).1,g3 (cY (.row i cap) (c d)),R u,g3 (.pointer (f ⟨i,0+(u:Int).toNat*2,p⟩)),g3 (.pointer (f ⟨i,0+(u:Int).toNat*2+0,p⟩)),R (d.getD u (0,[])).1,bh (decide ((d.getD e (0,[])).1<(d.getD u (0,[])).1))] 10 a a a a a ⟨
  aJ.x,aJ.x,aJ.eval (bg:=[]) ba a9.nil a bw,aJ.x,
  aJ.a1 (j4 a) (a0.e_ (d:=0) (e:=e) (ae:=0) ba a a E a h a a b),
  aJ.x,aJ.x,aJ.eval (bg:=[]) ba a9.nil a bw,aJ.x,
  aJ.a1 (j4 a) (a0.e_ (d:=0) (e:=u) (ae:=0) ba a a E a h a a j),
  aJ.x,C⟩ ?_
 exact aZ a C (g.aM [0] a a C3)
def MR{cap}{d}{aa}(t:s.op=.store o k X)(n:b1 eU o=f l1)(b:off=e*2)(r:bF F k=cM (.pointer (f ⟨i,off,p⟩)))(g:mx (bF F X)=f [.c (.int .i64 aa.1),.c (.T aa.2)])(y:c d=j)(u:e<c d)(x:s.guard=p):
  aJ q D all s F [aG (.row i cap) j d] .any [aG (.row i cap) j (d.set e aa)]:=by subst b;have w:=eC.eQ (D:=D) (l:=[aG (.row i cap) j d]) ba 0 (W:=153) (h:=2) (j:=j) (i:=i) (cap:=cap) (off:=e*2) (ah:=gp d) t n r g a a a (by grind[yp]);grind[ae7,JJ,aJ.ff]
abbrev MV(d a:Nat)(b:n cW)(e g:Nat)(h i:Bool):n an:=match h with
 |false=>[aG (.row d a) (c b) b]
 |true=>match i with
  |false=>[aG (.row d a) (c b) (b.set e (b.getD g (0,[])))]
  |true=>[aG (.row d a) (c b) (jy b e g)]
def Cz(i cap){d}(l:gi d)(b:e<c d)(k:u<c d):Y q 353 [g3 (cY (.row i cap) (c d)),R e,R u] [aG (.row i cap) (c d) d] (.ae []) [aG (.row i cap) (c d) (jy d e u)]:=by
 refine Y.K func353 rfl λr=>?_;have w:=C6 l;refine a6 [900] a C ?_;let h:Nat->y:=λo=>([g3 (cY (.row i cap) (c d)),R e,g3 (cY (.row i cap) (c d)),R u,g3 (cY (.row i cap) (c d)),R u,g3 (.pointer (f ⟨i,0+(u:Int).toNat*2,p⟩)),x3 (d.getD u (0,[])),g3 (cY (.row i cap) (c d)),R e,g3 (.pointer (f ⟨i,0+(e:Int).toNat*2,p⟩)),x3 (d.getD e (0,[])),g3 (.pointer (f ⟨i,0+(e:Int).toNat*2,p⟩)),.any,g3 (.pointer (f ⟨i,0+(u:Int).toNat*2,p⟩))]:n y).getD o .any
 refine g.cj b5 h (ns (MV i cap d e u) 13 15) a a a a ⟨
  .a',.a',.a',.a',.a',.a',
  .cD ba a9.nil,
  b4.hf a a a a (aJ.a1 (j4 a) (a0.e_ (d:=0) (e:=u) (ae:=0) ba a a E a w a a k)),
  .a',.a',
  .cD ba a9.nil,
  b4.hf a a a a (aJ.a1 (j4 a) (a0.e_ (d:=0) (e:=e) (ae:=0) ba a a E a w a a b)),
  .cD ba a9.nil,
  b4.fg a a ?_,
  .cD ba a9.nil,
  b4.fh a a ?_,C⟩ ?_
 .exact MR a a E a a a b a
 .exact MR a a E a a E N a
 intro y j;show g q _ _ _ _ _ (MV i cap d e u (y 13) (y 15));rw[j 13 b9,j 15 b9];exact bX.dk [0] a C a a a C3
def U8(B)(bP){d}(z:gi d)(D:c d<=1000){k}(A:c k.2<=9223372036854775807):
  bk (ι:=fl) q 352 [g3 (.pointer (f ⟨B,0,p⟩)),sZ k] [is B bP (c d),aG bP (c d) d] (λ_=>.ae []) (λb=>[is B b (c d+1),aG b (c d+1) (d++[k])]):=by
 refine bk.cy func352 rfl rfl rfl λx=>?_;refine a6 [900] a C ?_;have i:=tQ bP (c d);refine g.eI (ι:=fl) b5 7 8 10 (λh=>ay h 6) (λh=>([g3 (.pointer (f ⟨B,0,p⟩)),g3 (.pointer (f ⟨B,0,p⟩)),g3 (.pointer (f ⟨B,0,p⟩)),g3 (cY bP (c d)),sZ k,x3 k,aw (.C m 2 1 λo=>([[.int .i64 k.1,.T k.2]]:n (n O)).getD o [])]:n y).getD h .any) (λb _=>g3 (cY b (c d+1))) (λb=>[is B bP (c d),.J (cm 153 2 b (c d+1) (gp d++[.int .i64 k.1,jj k.2]))])
  rfl rfl rfl rfl rfl rfl rfl (λh w=>by exact lN) rfl
  ⟨aJ.x,aJ.x,aJ.a1 (j4 a) (a0.dV a a),aJ.eE ba 0 a a a a a i a,aJ.x,aJ.a1 (j4 a) (a0.gg (ai:=[.int .i64 k.1,.T k.2]) ba a a a a),aJ.x,C,C,C,C⟩
  (λb=>⟨aJ.x,aJ.x,aJ.a1 (j4 a) (a0.dV a a),aJ.eE ba 0 a a a a a i a,aJ.x,aJ.a1 (j4 a) (a0.gg (ai:=[.int .i64 k.1,.T k.2]) ba a a a a),aJ.x,C,C⟩)
  (dx.ff a (eC.fx (d:=1) (bP:=bP) (ah:=gp d) (j:=c d) (hZ:=[.int .i64 k.1,jj k.2]) (Sy a) a a a a a (λt E r u e s=>?_) Af)) λb=>?_
 .match r,e with
  |0,e=>cases e;cases s;exact bJ
  |1,e=>grind[EG]
 have l:=tQ b (c d+1);refine g.aN (a0.dV a a) a a ?_;refine g.h5 ba 0 a a a a a (by cases b<;>rfl) l a a a ?_;refine aZ a C ⟨b,bX.dk [0,1] a C ?_ a a s'⟩;show f [_,an.J (cm _ _ _ _ (gp d++_))]=f [_,an.J (cm _ _ _ _ (gp (d++[k])))];rw[C5];rfl
def cm.cut{cap}{d}{k}(j:cm W 2 (.row i cap) (c d+1) (gp (d++[k])) aa lc):cm W 2 (.row i cap) (c d) (gp d) aa lc:=by obtain⟨a,b,r,o,g,h,n,q⟩:=j;rw[C5]at *;refine⟨a,λl e=>b l (List.mem_append_left _ e),yp d,by omega,g,gp [k]++h,N,?_⟩;grind
def U7(B i cap){d}{k}(o:gi (d++[k]))(r:c d<=1000)(b:c d+1<=cap):
  Y q 351 [g3 (.pointer (f ⟨B,0,p⟩))] [is B (.row i cap) (c d+1),aG (.row i cap) (c d+1) (d++[k])] (sZ k) [is B (.row i cap) (c d),aG (.row i cap) (c d) d]:=by
 refine Y.K func351 rfl λn=>?_;have h:ek 2 (c d+1) (bH.fn (d++[k])) (gp (d++[k])):=by grind[C6,List.length_append]
 refine aZ a C (g.aN (a0.dV a a) a a ?_);refine g.R (aJ.eE ba 0 a a a a a a a) a ?_;refine aZ a bJ (g.aN (a0.dV a a) a a ?_);refine g.R (aJ.eE ba 0 a a a a a a a) a ?_;refine aZ a bw (g.aN (a0.e_ (d:=1) (e:=c d) (ae:=0) ba a a (by simp[show l1.size=2 from a]) a h a a E) a a ?_);refine aZ a C (g.aN (a0.dV a a) a a ?_);refine g.R (aJ.eE ba 0 a a a a a a a) a ?_;refine aZ a C (g.aN (a0.jX ba a a a a a a b x x) a a ?_);rw[show(((c d+1:Nat):Int)-1).toNat=c d from by omega];refine g.aN (a0.dV a a) a a ?_;refine g.h5 ba 0 a a a a a a a a a a ?_;refine gu [] 2 a C (g.gB (ι:=Unit) 1 (λ_=>cm 153 2 (.row i cap) (c d) (gp d)) a (λs j l=>⟨(),cm.cut l⟩) λ_=>?_);refine aZ a C (g.aM [0,1] a ?_ s');simp
abbrev s0(a:Nat):y:=aw (.cl 270 (.val (.pointer (f ⟨a,0,p⟩))))
section
variable {l:n an}{d B j:Nat}{bP:fl}(w:c9 d l=f (is B bP j))
include w
def JC:n1 T l 270 (.pointer (f ⟨B,0,p⟩)) "Len" 220 (cY bP j):=.deref ba (hz type270) rfl rfl rfl underlying270 w rfl (tQ bP j) rfl
def CU:n1 T l 270 (.pointer (f ⟨B,0,p⟩)) "Less" 350 (cY bP j):=.deref ba (hz type270) rfl rfl rfl underlying270 w rfl (tQ bP j) rfl
def CW:n1 T l 270 (.pointer (f ⟨B,0,p⟩)) "Swap" 353 (cY bP j):=.deref ba (hz type270) rfl rfl rfl underlying270 w rfl (tQ bP j) rfl
end
def Yy{l}{aa}:n1 T l 270 aa "Push" 352 aa:=.ptr (hz type270) rfl rfl rfl underlying270
def Yx{l}{aa}:n1 T l 270 aa "Pop" 351 aa:=.ptr (hz type270) rfl rfl rfl underlying270
theorem tT{d}(h:gi d){e u}(a:e<c d)(b:u<c d):gi (jy d e u):=λi g=>h i (adI a b g)
theorem E4:∀b(d:n cW)a,a<b->iY b d a=iY (a+1) d a
 |0,_,_,g=>absurd g (iH _)
 |b+1,d,a,g=>by
  rw[iY,iY];by_cases e:(a-1) / 2=a
  .grind
  rw[bl e,bl e];split
  .have r:(a-1) / 2<a:=x;rw[E4 b _ _ x,E4 a _ _ r]
  simp
def U9(B i cap){d}(t:gi d)(M:c d<=1000){u}(A:u<c d):
  Y q 277 [s0 B,R u] [is B (.row i cap) (c d),aG (.row i cap) (c d) d] (.ae []) [is B (.row i cap) (c d),aG (.row i cap) (c d) (iY (u+1) d u)]:=by
 refine Y.K func277 rfl λK=>?_;refine gu [] 3 a C (g.dI 2 [0] (λb:n cW×Nat=>gi b.1/\c b.1=c d/\b.2<c d/\iY (u+1) d u=iY (b.2+1) b.1 b.2) (λb=>[(1,R b.2)]) (λb=>[is B (.row i cap) (c b.1),aG (.row i cap) (c b.1) b.1]) (λb=>b.2) (d,u) a E a E a ⟨t,a,A,a⟩ ?_);rintro⟨b,e⟩ ⟨o,F,I,j⟩;simp only at o F I j;cases e with
 |zero=>
  have l:iY (0+1) b 0=b:=by rw[iY,br a]
  rw[l]at j;rw[j];refine gu [] 5 a lC (g.aN (Kl (h:=.i64) 0 a a a lC (λJ=>rfl) (λJ=>rfl)) a a ?_);refine a6 [11,17] a E (g.aB ?_);exact Pd
 |succ e=>
  refine a6 [-11,901] a lN ?_;have D:(((e+1:Nat):Int)-1) / 2=((e / 2:Nat):Int):=x;rw[D];have z:(e+1-1) / 2=e / 2:=N;have s:e / 2<c b:=x;have r:e+1<c b:=x;have l:iY (e+1+1) b (e+1)=if nG b (e+1) (e / 2)=m then iY (e+1) (jy b (e / 2) (e+1)) (e / 2)else b:=by rw[iY,bl x,z]
  rw[l]at j;refine g.region ?_;refine a6 [-11] a bw (g.ds (Cy i cap o (c b) r s).tocF [1] (CU (d:=0) a) a a a a a a a a bm a bm a λ_=>?_);by_cases k:nG b (e+1) (e / 2)=m
  .rw[br k]at j;have y:=ru k;refine a6 [-17] a ds (g.ds (Cz i cap o s r).tocF [1] (CW (d:=0) a) a a a a a a a a bm a bm a λ_=>?_);refine aZ a C (g.ax (jy b (e / 2) (e+1),e / 2) a E ?_ ?_ ?_)
   .simp[pQ]
   .grind [tT,pQ,E4]
   grind
  rw[bl k]at j;rw[j];have y:¬(b.getD (e+1) (0,[])).1<(b.getD (e / 2) (0,[])).1:=λw=>k (ff w);refine a6 [17] a ds (g.aB ?_);exact Pd
def J4{l}{e j}{bP}{d}(s:c9 e l=f (aG bP j d))(r:0<j)(b)(i:bd l b):∃h g,bP=.row h g/\j<=g:=by
 have k:=er s;obtain⟨h,g,rfl⟩:=(cm.len k b i).2.2.1 r;have n:e<c b.t:=by rw[i.len];grind
 obtain⟨o,q,_⟩:=i.box e _ _ k (bG n);exact⟨h,g,a,q.2.2.2.1⟩
def Vl(B)(bP){d}(l:gi d)(D:c d<=100){k}(w:a7 .i64 k.1/\c k.2<=9223372036854775807):
  bk (ι:=fl) q 218 [s0 B,sZ k] [is B bP (c d),aG bP (c d) d] (λ_=>.ae []) (λh=>[is B h (c d+1),aG h (c d+1) (hE d k)]):=by
 refine bk.cy func218 rfl rfl rfl λA=>?_;refine aZ a C (g.ds (U8 B bP l x w.2) [0,1] Yy a a a a a a a a bm a bm a λh=>?_);have r:gi (d++[k]):=λy s=>by
  rcases gl.1 s with o|o
  .exact l y o
  grind
 refine g.fE (J4 (e:=1) (j:=c d+1) (bP:=h) (d:=d++[k]) a x) λt=>?_;obtain⟨i,b,rfl,z⟩:=t;refine aZ a C (g.ds (Cx (.row i b) (c d+1) (d++[k])).tocF [1] (JC (d:=0) a) a a a a a a a a bm a bm a λ_=>?_);refine aZ a bJ ?_;rw[show((c d+1:Nat):Int)-1=(c d:Nat) by omega];have n:=U9 (q:=q) B i b r N (u:=c d) E;rw[dm,gW]at n;exact g.aC n [0,1] a (aZ a C ⟨.row i b,bX.dk [0,1] a C a a a s'⟩)
theorem x_:∀e g(d:n cW)a b,b<=a+e->b<=a+g->g4 e d a b=g4 g d a b
 |0,0,_,_,_,_,_=>rfl
 |0,g+1,d,a,b,h,_=>by rw[g4,g4,br x]
 |e+1,0,d,a,b,_,h=>by rw[g4,g4,br x]
 |e+1,g+1,d,a,b,j,k=>by
  have i:a<jo d a b:=F4;rw[g4,g4];split
  .rfl
  split
  .exact x_ e g _ _ _ x x
  simp
def U6(B i cap j){d}(I:gi d)(O:j<=c d)(V:c d<=1000):
  Y q 281 [s0 B,R 0,R j] [is B (.row i cap) (c d),aG (.row i cap) (c d) d] .any [is B (.row i cap) (c d),aG (.row i cap) (c d) (g4 j d 0 j)]:=by
 refine Y.K func281 rfl λQ=>?_;refine cr a C (g.dI 2 [0,1,2] (λb:n cW×Nat=>gi b.1/\c b.1=c d/\b.2<=j/\g4 j d 0 j=g4 j b.1 b.2 j) (λb=>[(7,R b.2)]) (λb=>[is B (.row i cap) (c b.1),aG (.row i cap) (c b.1) b.1]) (λb=>j-b.2) (d,0) a E a E a ⟨I,a,by omega,a⟩ ?_);rintro⟨b,e⟩ ⟨o,K,N,h⟩;simp only at o K N h;by_cases F:j<=2*e+1
 .have w:g4 j b e j=b:=by rw[x_ j (j+1) _ _ _ x x,g4,br F]
  rw[w]at h;rw[h];refine a6 [17,21] a RQ (g.aB ?_);exact OF
 have y:e<jo b e j/\jo b e j<j:=F4;have w:g4 j b e j=if nG b (jo b e j) e=m then g4 j (jy b e (jo b e j)) (jo b e j) j else b:=by rw[x_ j (j+1) _ _ _ x x,g4,bl F]
 rw[w]at h;have J:2*e+1<c b:=x;have A:e<c b:=x;have z:2*(e:Int)+1=((2*e+1:Nat):Int):=x;have M:((2*e+1:Nat):Int)+1=((2*e+2:Nat):Int):=x;refine a6 [-17,-21,904] a RP ?_;rw[z];refine a6 [906] a RP ?_;rw[M];apply g.cn [(0,s0 B),(1,R 0),(2,R j),(7,R e),(9,R (jo b e j))] [is B (.row i cap) (c b),aG (.row i cap) (c b) b]
 .intro dw;by_cases D:2*e+2<j
  .refine g.region ?_;refine a6 [28] a bw (g.ds (Cy i cap o (c b) (e:=2*e+2) (u:=2*e+1) x J).tocF [1] (CU (d:=0) a) a a a a a a a a bm a bm a λ_=>?_);by_cases r:nG b (2*e+2) (2*e+1)=m
   .have s:jo b e j=2*e+2:=br ⟨D,r⟩;refine a6 [33,908] a (by simpa using ru r) (dw _ _ a ?_);simp[s]
   have s:jo b e j=2*e+1:=bl λk=>r k.2;have t:¬(b.getD (2*e+2) (0,[])).1<(b.getD (2*e+1) (0,[])).1:=λk=>r (ff k);refine a6 [-33,908] a (by simpa using t) (dw _ _ a ?_);simp[s]
  have s:jo b e j=2*e+1:=bl λk=>D k.1;refine a6 [-28,-33,908] a bw (dw _ _ a ?_);simp[s]
 generalize jo b e j=l at *;obtain⟨T,S⟩:=y;refine g.region ?_;refine aZ a C (g.ds (Cy i cap o (c b) (e:=l) (u:=e) x A).tocF [1] (CU (d:=0) a) a a a a a a a a bm a bm a λ_=>?_);by_cases r:nG b l e=m
 .rw[br r]at h;refine a6 [-39] a (by simpa using ru r) (g.ds (Cz i cap o A (show l<c b by omega)).tocF [1] (CW (d:=0) a) a a a a a a a a bm a bm a λ_=>?_);refine aZ a C (g.ax (jy b e l,l) a E ?_ ?_ ?_)
  .simp[pQ]
  .grind [tT,pQ]
  grind
 rw[bl r]at h;rw[h];have t:¬(b.getD l (0,[])).1<(b.getD e (0,[])).1:=λk=>r (ff k);refine a6 [39] a (by simpa using t) (g.aB ?_);exact OF
def Co{j}:∀e{a:n cW}(d:Nat),gi a->d<c a->j<=c a->gi (g4 e a d j)
 |0,_,_,b,_,_=>b
 |e+1,a,d,b,g,i=>by
  rw[g4];split
  .exact b
  have h:jo a d j<j:=F4;split
  .exact Co e _ (tT b g x) pZ pZ
  grind
def Vk(B i cap){d}{j}(l:gi d)(s:c d=j+1)(z:j<=100)(t:j+1<=cap):
  Y q 221 [s0 B] [is B (.row i cap) (j+1),aG (.row i cap) (j+1) d] (sZ ((g' d).getD j (0,[]))) [is B (.row i cap) j,aG (.row i cap) j ((g' d).take j)]:=by
 refine Y.K func221 rfl λD=>?_;refine aZ a C (g.ds (Cx (.row i cap) (j+1) d).tocF [1] (JC (d:=0) a) a a a a a a a a bm a bm a λ_=>?_);refine aZ a bJ ?_;rw[show((j+1:Nat):Int)-1=((j:Nat):Int) by omega];have r:=Cz (q:=q) i cap l (e:=0) (u:=j) x x;rw[s]at r;refine g.ds r.tocF [1] (CW (d:=0) a) a a a a a a a a bm a bm a λ_=>?_;have n:=tT l (e:=0) (u:=j) x x;have h:=U6 (q:=q) B i cap j n pZ pZ;have b:=Co (j:=j) j 0 n pZ pZ;have o:g4 j (jy d 0 j) 0 j=g' d:=by unfold g';grind[x_]
 rw[pQ,s,o]at h;rw[o]at b;have y:g' d=(g' d).take j++[(g' d).getD j (0,[])]:=by
  have F:c (g' d)=j+1:=by grind[LH]
  apply rx
  .grind
  grind
 generalize(g' d).getD j (0,[])=k at *;have w:c ((g' d).take j)=j:=N;generalize(g' d).take j=A at *;rw[y]at h b;subst w;refine aZ a C (g.aC h [0,1] a (aZ a C (g.ds (U7 B i cap b x t).tocF [0,1] Yx a a a a a a a a bm a bm a λ_=>?_)));refine aZ a C (g.aM [0,1] a E s')
def abn{ad}(t:s.op=.binOp op o k X ty){r}{ct}(j:P.underlying o=f (.interface ct))(x:η k=aw .br)(u:η X=aw (.val (.iface ad aa)))(w:∀J,(eqGuard op o k X .nilIface (.iface ad aa)).run P J=.ok () J)(ae:∀J a,(eqGuard op o k X .nilIface (.iface ad aa)).events P J a=a)(d:h_ op v=f r):a0 P s η l (aw (.bool r)) l:=by
 refine .aW λb n A q=>?_;have g:=q k;have e:=q X;rw[x]at g;rw[u]at e;replace g:=b8 g;replace e:=b8 e;generalize i:n k=y at g;generalize I:n X=z at e;cases g;cases e;have h:(Op.equal o .nilIface (.iface ad aa)).run P b.a=.ok v b.a:=Q7;have B:∀a,(Op.equal o .nilIface (.iface ad aa)).events P b.a a=a:=λa=>by show(aQ (9999+1) o _ _).events P b.a a=a;unfold aQ;simp[underlying,j]
 cases op<;>simp only[h_,reduceCtorEq,eW]at d
 .exact QO
 exact Qp
abbrev Tp(a:Z):y:=aw (.val a)
def I5(ad)(aa):Y q 274 [aw .br,Tp (.iface ad aa)] [] (bh v) []:=by refine Y.K func274 rfl λb=>?_;refine aZ a C ?_;refine g.aN (DM a underlying179 a a a) a a ?_;refine a6 [11] a E ?_;refine g.aN (abn a underlying179 a a bm (λ_ _=>rfl) a) a a ?_;exact aZ a C (g.ar a a)
abbrev ij(b a:aq×Z):n an:=[.J (ee 2 179 (.iface b.1 b.2)),.J (ee 3 179 (.iface a.1 a.2))]
def qx:∀a,a<2->([0,1]:n Nat)[a]?=f a:=b9
def CF(i e)(h)(d)(j:cB h=m)(l:cE d=m):Y q 214 [R h,b0 d] (ij i e) (R (e9 h d)) (ij i e):=by refine Y.K func214 rfl λk=>?_;have b:a9 q [(273,eu c1 eF (λh d=>Ck (e9 h d)) λh d=>[cB h=m,cE d=m])]:=.cons EJ .nil;refine b_ b a ds ?_;refine g.R (aJ.gu ba 0 a a a a a a) a ?_;refine g.aC (I5 _ _) [] a ?_;refine b_ b a C ?_;refine g.R (aJ.gu ba 1 a a a a a a) a ?_;refine g.iA (I5 _ _) [] a a a a a a a a a a a ?_;exact a8 b [-20] a E (g.aM [0,1] a a qx)
end
section
open Go.Sort (swp insInner insOuter ltInt)
variable {q:ag T}
def VM(j):Y q 301 [R j] [] (bh v) []:=by refine Y.K func301 rfl λb=>?_;exact a6 [-5] a E (g.ar a)
abbrev Hv:bK:=da c1 (λ_=>bh v) λ_=>[]
def aet:bM q 301 Hv:=.bd λa _=>VM a
def V_(k X):Y q 263 [R k,R X] [] (bh (ltInt k X)) []:=by have b:a9 q [(301,Hv)]:=.cons aet .nil;refine Y.K func263 rfl λd=>?_;refine b_ b a E (g.ar a ?_);simp[ltInt]
abbrev qn:bK:=eu c1 c1 (λa b=>bh (ltInt a b)) λ_ _=>[]
def r':bM q 263 qn:=.bn λa b _=>V_ a b
def s5(a:Array Int)(b:Nat):n O:=[.int .i64 a[b]!]
abbrev dM(a:Nat):y:=cz 0 (.C a 1 0 a)
abbrev cA(b:Nat)(a:Array Int):an:=.q 3 1 b (s5 a)
def g5:∀a,a<1->([0]:n Nat)[a]?=f a:=λa b=>by grind
end
section
open Go.Sort (swp insInner insOuter insertionSort ltInt)
variable {q:ag T}
def lT{a}(q:a.size=j)(k:e<j)(l:u<j){g:Nat->n O}(h:bt j g (s5 a)):bt j (lx u [.int .i64 a[e]!] (lx e [.int .i64 a[u]!] g)) (s5 (swp a e u)):=by
 intro b d;have o:(swp a e u)[b]! = if b=u then a[e]! else if b=e then a[u]! else a[b]! := by unfold swp;grind
 have i:=h b d;simp only[s5,lx]at i⊢;grind
theorem nM(a:Array Int)(e u):(swp a e u).size=a.size:=by simp[swp]
theorem aaL{b}{a}(e:b<u)(d:ltInt a[u]! a[u-1]! = m):insInner ltInt b u a=insInner ltInt b (u-1) (swp a u (u-1)):=by
 cases u with
 |zero=>omega
 |succ u=>
  simp only[qa]at d⊢;rw[insInner,br];grind
def Kk{b}{a}(d:b<u->ltInt a[u]! a[u-1]! = v):insInner ltInt b u a=a:=by
 cases u with
 |zero=>rfl
 |succ u=>
  simp only[qa]at d;rw[insInner,bl];grind
theorem VI(j)(l)(d i)(A:l.size=j)(K:i<=j)(J:d<=j)(M:j<=4000000):
  Y q 257 [dM j,R d,R i] [cA j l] (.ae []) [cA j (insertionSort ltInt l d i)]:=by
 have u:a9 q [(263,qn)]:=.cons r' .nil;refine Y.K func257 rfl λI=>?_;refine aZ a bJ (g.aE 1 (λb:Nat×Array Int=>b.2.size=j/\d+1<=b.1/\b.1<=j+1/\insOuter ltInt d i b.1 b.2=insertionSort ltInt l d i) (λb=>[(0,dM j),(1,R d),(2,R i),(6,R b.1)]) (λb=>[cA j b.2]) (λb=>i-b.1) (d+1,l) a E a E a ⟨A,by omega,by grind,a⟩ ?_);rintro⟨e,d1⟩ ⟨y,t,z,n⟩;simp only at y t z n;by_cases s:e<i
 .refine a6 [12] a bW (g.aE 1 (λb:Nat×Array Int=>b.2.size=j/\b.1<=e/\insInner ltInt d b.1 b.2=insInner ltInt d e d1) (λb=>[(0,dM j),(1,R d),(2,R i),(6,R e),(7,R b.1)]) (λb=>[cA j b.2]) (λb=>b.1) (e,d1) a E a E a ⟨y,by simp,a⟩ ?_);rintro⟨k,d2⟩ ⟨o,B,r⟩;simp only at o B r;by_cases D:d<k
  .have h:((k:Int)-1).toNat=k-1:=x;by_cases w:ltInt d2[k]! d2[k-1]! = m
   .refine a8 u [18,29] a ?_ ?_
    .simp[a7,h,w];omega
    refine g.ax (k-1,swp d2 k (k-1)) a bW ?_ ?_ ?_
    .simp only[U.Y,U,h,cV,c5,a_,a'];exact lT o x x (λ_ _=>rfl)
    .refine⟨by grind[nM],by omega,?_⟩;grind[aaL]
    omega
   refine a8 u [18,-29] a ?_ (g.aB ?_)
   .simp[a7,h,w];omega
   refine aZ a bJ (g.ax (e+1,d2) a E E ?_ ?_)
   .refine⟨o,by omega,by grind,?_⟩;simp only;rw[<-n,insOuter.eq_1 ltInt d i e,br s,<-r,Kk λ_=>by grind]
   omega
  refine a8 u [-18] a bw (g.aB ?_);refine aZ a bJ (g.ax (e+1,d2) a E E ?_ ?_)
  .refine⟨o,by omega,by grind,?_⟩;simp only;rw[<-n,insOuter.eq_1 ltInt d i e,br s,<-r,Kk λF=>absurd F D]
  omega
 refine a6 [-12] a bW (g.aB ?_);have:insertionSort ltInt l d i=d1:=by rw[<-n,insOuter,bl s]
 rw[this];exact sl
end
section
open Go.Sort (swp siftDown ltInt)
variable {q:ag T}
def ac9{bp first root}{a}(b:¬2*root+1<bp):siftDown ltInt bp first root a=a:=by rw[siftDown,dif_pos x]
theorem MA{bp first root}{a}(e:2*root+1<bp)(b:2*root+1+1<bp->ltInt a[first+(2*root+1)]! a[first+(2*root+1)+1]! = v)(d:ltInt a[first+root]! a[first+(2*root+1)]! = m):
  siftDown ltInt bp first root a=siftDown ltInt bp first (2*root+1) (swp a (first+root) (first+(2*root+1))):=by rw[siftDown.eq_1 ltInt bp first root a,dif_neg x,bl N,bl N]
theorem MB{bp first root}{a}(e:2*root+1<bp)(b:2*root+1+1<bp->ltInt a[first+(2*root+1)]! a[first+(2*root+1)+1]! = v)(d:ltInt a[first+root]! a[first+(2*root+1)]! = v):
  siftDown ltInt bp first root a=a:=by rw[siftDown.eq_1 ltInt bp first root a,dif_neg x,bl N,br N]
theorem ac7{bp first root}{a}(e:2*root+1+1<bp)(b:ltInt a[first+(2*root+1)]! a[first+(2*root+1+1)]! = m)(d:ltInt a[first+root]! a[first+(2*root+1+1)]! = m):
  siftDown ltInt bp first root a=siftDown ltInt bp first (2*root+1+1) (swp a (first+root) (first+(2*root+1+1))):=by rw[siftDown.eq_1 ltInt bp first root a,dif_neg x,br N,bl N,dif_pos x]
theorem ac8{bp first root}{a}(e:2*root+1+1<bp)(b:ltInt a[first+(2*root+1)]! a[first+(2*root+1+1)]! = m)(d:ltInt a[first+root]! a[first+(2*root+1+1)]! = v):
  siftDown ltInt bp first root a=a:=by rw[siftDown.eq_1 ltInt bp first root a,dif_neg x,br N,br N]
theorem XE(j)(k)(d b first:Nat)(s:k.size=j)(D:first+b<=j)(t:d<=j)(E:j<=4000000):
  Y q 296 [dM j,R d,R b,R first] [cA j k] (.ae []) [cA j (siftDown ltInt b first d k)]:=by
 have l:a9 q [(263,qn)]:=.cons r' .nil;refine Y.K func296 rfl λz=>?_;refine aZ rfl C (g.aE 1 (λe:Nat×Array Int=>e.2.size=j/\e.1<=j/\siftDown ltInt b first e.1 e.2=siftDown ltInt b first d k) (λe=>[(0,dM j),(1,R d),(2,R b),(3,R first),(8,R e.1)]) (λe=>[cA j e.2]) (λe=>b-e.1) (d,k) rfl ?_ rfl ?_ rfl ⟨s,t,rfl⟩ ?_)
 .simp
 .simp
 rintro⟨root,d1⟩ ⟨u,y,n⟩;simp only at u y n;by_cases o:2*root+1<b
 .have r:((first:Int)+(2*(root:Int)+1)).toNat=first+(2*root+1):=x
  have aj:((first:Int)+(2*(root:Int)+1)+1).toNat=first+(2*root+1+1):=x
  by_cases A:2*root+1+1<b
  .by_cases B:ltInt d1[first+(2*root+1)]! d1[first+(2*root+1+1)]! = m
   .have h:((first:Int)+(2*(root:Int)+1+1)).toNat=first+(2*root+1+1):=x
    have w:((first:Int)+(root:Int)).toNat=first+root:=x
    by_cases i:ltInt d1[first+root]! d1[first+(2*root+1+1)]! = m
    .refine bf l [-16,20,35,51] rfl ?_ (g.ax (2*root+1+1,swp d1 (first+root) (first+(2*root+1+1))) rfl ?_ ?_ ?_ ?_)
     .exact QR
     .simp
     .simp only[U.Y,U,cV,r,aj,w,h,a_,a'];exact lT u x x (λ_ _=>rfl)
     .grind [nM,ac7]
     grind
    rw[qd]at i;rw[show siftDown ltInt b first d k=d1 by grind[ac8]];refine bf l [-16,20,35,-51] a ?_ (g.aX (bX.mk [0] a C a a a g5));exact QR
   rw[qd]at B;have w:((first:Int)+(root:Int)).toNat=first+root:=x
   by_cases i:ltInt d1[first+root]! d1[first+(2*root+1)]! = m
   .refine bf l [-16,20,-35,51] rfl ?_ (g.ax (2*root+1,swp d1 (first+root) (first+(2*root+1))) rfl ?_ ?_ ?_ ?_)
    .exact P0
    .simp
    .exact Pv
    .grind [nM,MA]
    grind
   rw[qd]at i;rw[show siftDown ltInt b first d k=d1 by grind[MB]];refine bf l [-16,20,-35,-51] a ?_ (g.aX (bX.mk [0] a C a a a g5));exact P0
  have B:True:=C;have w:((first:Int)+(root:Int)).toNat=first+root:=x
  by_cases i:ltInt d1[first+root]! d1[first+(2*root+1)]! = m
  .refine bf l [-16,-20,51] rfl ?_ (g.ax (2*root+1,swp d1 (first+root) (first+(2*root+1))) rfl ?_ ?_ ?_ ?_)
   .exact O4
   .simp
   .exact Pv
   .grind [nM,MA]
   grind
  rw[qd]at i;rw[show siftDown ltInt b first d k=d1 by grind[MB]];refine bf l [-16,-20,-51] a ?_ (g.aX (bX.mk [0] a C a a a g5));exact O4
 refine a6 [16] a sq (g.aB ?_);rw[<-n,ac9 o];exact sl
end
section
open Go.Sort (swp order2 median medianAdjacent choosePivot Hint ltInt)
variable {q:ag T}
abbrev mv(a:Nat):an:=.cells 3 [.c (.int .i64 a)]
abbrev s4:y:=aD 1 0
abbrev aeh(a b:Nat):y:=.ae [.R (.c (.int .i64 a)),.R (.c (.int .i64 b))]
def yo:∀a,a<2->([0,1]:n Nat)[a]?=f a:=λa b=>by grind
def CI(j)(e)(d i b)(r:d<j)(s:i<j)(t:j<=4000000)(n:b<=1000):
  Y q 315 [dM j,R d,R i,s4] [cA j e,mv b] (aeh (order2 ltInt e d i b).1 (order2 ltInt e d i b).2.1) [cA j e,mv (order2 ltInt e d i b).2.2]:=by
 have l:a9 q [(263,qn)]:=.cons r' .nil;refine Y.K func315 rfl λo=>?_;by_cases h:ltInt e[i]! e[d]! = m
 .have k:order2 ltInt e d i b=(i,d,b+1):=by simp[order2,h]
  rw[k];refine bf l [18] a ?_ (g.aM [0,1] a ?_ yo)
  .simp only[U,cV,c5,h,a7,a',a_];exact fu
  simp
 have k:order2 ltInt e d i b=(d,i,b):=by simp[order2,h]
 rw[k];rw[qd]at h;refine bf l [-18] a ds (g.aM [0,1] a ?_ yo);simp
def vP{I}{a eT}(b:a<j)(d:i<j):(order2 ltInt I a i eT).1<j/\(order2 ltInt I a i eT).2.1<j/\(order2 ltInt I a i eT).2.2<=eT+1:=by unfold order2;split<;>simp only<;>omega
theorem Jc(j)(I)(b i r eT)(h:b<j)(k:i<j)(l:r<j)(e:j<=4000000)(o:eT<=900):
  Y q 300 [dM j,R b,R i,R r,s4] [cA j I,mv eT] (R (median ltInt I b i r eT).1) [cA j I,mv (median ltInt I b i r eT).2]:=by refine Y.K func300 rfl λs=>?_;have d:=vP (I:=I) (eT:=eT) h k;have n:=vP (I:=I) (eT:=(order2 ltInt I b i eT).2.2) d.2.1 l;refine cr a C (g.aC (CI j I b i eT h k e x) [0,1] a (cr a C (g.aC (CI j I (order2 ltInt I b i eT).2.1 r (order2 ltInt I b i eT).2.2 d.2.1 l e x) [0,1] a (cr a C (g.aC (CI j I (order2 ltInt I b i eT).1 (order2 ltInt I (order2 ltInt I b i eT).2.1 r (order2 ltInt I b i eT).2.2).1 (order2 ltInt I (order2 ltInt I b i eT).2.1 r (order2 ltInt I b i eT).2.2).2.2 d.1 n.1 e x) [0,1] a (cr a C (g.aM [0,1] a ?_ yo)))))));simp[median]
def aa'{I}{a r eT}(d:a<j)(g:i<j)(h:r<j):(median ltInt I a i r eT).1<j/\(median ltInt I a i r eT).2<=eT+3:=by have b:=vP (I:=I) (eT:=eT) d g;have e:=vP (I:=I) (eT:=(order2 ltInt I a i eT).2.2) b.2.1 h;have k:=vP (I:=I) (eT:=(order2 ltInt I (order2 ltInt I a i eT).2.1 r (order2 ltInt I a i eT).2.2).2.2) b.1 e.1;unfold median;grind
theorem WE(j)(e)(b d:Nat)(s:1<=b)(t:b+1<j)(o:j<=4000000)(n:d<=900):
  Y q 299 [dM j,R b,s4] [cA j e,mv d] (R (medianAdjacent ltInt e b d).1) [cA j e,mv (medianAdjacent ltInt e b d).2]:=by
 refine Y.K func299 rfl λr=>?_;obtain⟨b,rfl⟩:∃h,b=h+1:=⟨b-1,by omega⟩
 refine cr a bJ ?_;have key:∀i k l:Int,i=(b:Int)->k=((b+1:Nat):Int)->l=((b+1+1:Nat):Int)->Y q 300 [dM j,R i,R k,R l,s4] [cA j e,mv d] (R (median ltInt e b (b+1) (b+1+1) d).1) [cA j e,mv (median ltInt e b (b+1) (b+1+1) d).2]:=by rintro i k l rfl rfl rfl;exact Jc j e b (b+1) (b+1+1) d x x x o n
 refine g.aC (key (((b+1:Nat):Int)-1) _ (((b+1:Nat):Int)+1) x a x) [0,1] a (cr a C (g.aM [0,1] a ?_ yo));simp[medianAdjacent]
def qD:Hint->Int|.unknown=>0|.increasing=>1|.decreasing=>2
def Jd(b:Nat)(d:Array Int){w r:Nat}(a:Nat)(k:w<b)(n:i<b)(o:r<b)(t:b<=4000000)(j:a<=900){e g h:Int}(s:e=w)(l:g=i)(u:h=r):
  Y q 300 [dM b,R e,R g,R h,s4] [cA b d,mv a] (R (median ltInt d w i r a).1) [cA b d,mv (median ltInt d w i r a).2]:=by grind[Jc]
def CE(b:Nat)(d:Array Int){w:Nat}(a:Nat)(h:1<=w)(i:w+1<b)(k:b<=4000000)(g:a<=900){e:Int}(j:e=w):
  Y q 299 [dM b,R e,s4] [cA b d,mv a] (R (medianAdjacent ltInt d w a).1) [cA b d,mv (medianAdjacent ltInt d w a).2]:=by grind[WE]
def DG{I:Array Int}{w eT:Nat}(a:1<=w)(b:w+1<j):(medianAdjacent ltInt I w eT).1<j/\(medianAdjacent ltInt I w eT).2<=eT+3:=
 aa' x x x
abbrev De(a:Nat):Hint:=if a=0 then .increasing else if a=12 then .decreasing else .unknown
def S_{b:Array Int}{a:Nat}(g:8<=d)(e:d<50):choosePivot ltInt b a (a+d)=((median ltInt b (a+d / 4*1) (a+d / 4*2) (a+d / 4*3) 0).1,De (median ltInt b (a+d / 4*1) (a+d / 4*2) (a+d / 4*3) 0).2):=by unfold choosePivot;grind
abbrev oM(b:Array Int)(a d:Nat):=medianAdjacent ltInt b (a+d / 4*1) 0
abbrev oN(b:Array Int)(a d:Nat):=medianAdjacent ltInt b (a+d / 4*2) (oM b a d).2
abbrev oO(b:Array Int)(a d:Nat):=medianAdjacent ltInt b (a+d / 4*3) (oN b a d).2
def S9{a:Array Int}{b:Nat}(e:50<=d):choosePivot ltInt a b (b+d)=((median ltInt a (oM a b d).1 (oN a b d).1 (oO a b d).1 (oO a b d).2).1,De (median ltInt a (oM a b d).1 (oN a b d).1 (oO a b d).1 (oO a b d).2).2):=by unfold choosePivot;grind
def Ui(j:Nat)(I:Array Int)(w i:Nat)(l:w<=i)(t:i<=j)(h:8<=i-w)(d:j<=4000000):
  Y q 260 [dM j,R w,R i] [cA j I] (.ae [.R (.c (.int .i64 (choosePivot ltInt I w i).1)),.R (.c (.int .i64 (qD (choosePivot ltInt I w i).2)))]) [cA j I]:=by
 refine Y.K func260 rfl λn=>?_;obtain⟨b,rfl⟩:∃b,i=w+b:=⟨i-w,by omega⟩
 rw[AR]at h;by_cases k:b<50
 .refine bN [32,-34] a Rb (g.aC (Jd j I (w:=w+b / 4*1) (i:=w+b / 4*2) (r:=w+b / 4*3) 0 x x x d x x x x) [0,1] a ?_);rw[S_ h k];generalize median ltInt I (w+b / 4*1) (w+b / 4*2) (w+b / 4*3) 0=e;by_cases ae:e.2=0
  .exact P_
  by_cases aj:e.2=12
  .exact Pp
  exact Q'
 refine bN [32,34] a Rb ?_;have o:(oM I w b).1<j/\(oM I w b).2<=0+3:=DG (I:=I) (w:=w+b / 4*1) (eT:=0) (j:=j) x x;have s:(oN I w b).1<j/\(oN I w b).2<=(oM I w b).2+3:=DG (I:=I) (w:=w+b / 4*2) (eT:=(oM I w b).2) (j:=j) x x;have u:(oO I w b).1<j/\(oO I w b).2<=(oN I w b).2+3:=DG (I:=I) (w:=w+b / 4*3) (eT:=(oN I w b).2) (j:=j) x x;refine g.aC (CE j I (w:=w+b / 4*1) 0 x x d x x) [0,1] a (cr a C (g.aC (CE j I (w:=w+b / 4*2) (oM I w b).2 x x d x x) [0,1] a (cr a C (g.aC (CE j I (w:=w+b / 4*3) (oN I w b).2 x x d x x) [0,1] a (cr a C (g.aC (Jd j I (w:=(oM I w b).1) (i:=(oN I w b).1) (r:=(oO I w b).1) (oO I w b).2 x x x d x a a a) [0,1] a ?_))))));rw[S9 x];generalize median ltInt I (oM I w b).1 (oN I w b).1 (oO I w b).1 (oO I w b).2=e;by_cases ae:e.2=0
 .exact P_
 by_cases aj:e.2=12
 .exact Pp
 exact Q'
end
section
open Go.Sort (swp reverseLoop reverseRange siftDown heapBuild heapPop heapSort ltInt)
variable {q:ag T}
def Xp(d:Nat)(i:Array Int)(h e:Nat)(t:i.size=d)(z:1<=e)(y:h<=d)(A:e<=d)(B:d<=4000000):Y q 261 [dM d,R h,R e] [cA d i] (.ae []) [cA d (reverseRange i h e)]:=by
 refine Y.K func261 rfl λw=>?_;refine aZ a bJ (g.aE 1 (λb:Nat×Nat×Array Int=>b.2.2.size=d/\b.1<=d/\b.2.1<d+1/\b.2.1<d/\reverseLoop b.1 b.2.1 b.2.2=reverseRange i h e) (λb=>[(0,dM d),(6,R b.1),(7,R b.2.1)]) (λb=>[cA d b.2.2]) (λb=>b.2.1-b.1) (h,e-1,i) a bW a E a ⟨t,by grind,by grind,by grind,a⟩ ?_);rintro⟨j,k,d1⟩ ⟨o,n,_,u,l⟩;simp only at o n u l;by_cases r:j<k
 .refine bN [13] a ?_ (g.ax (j+1,k-1,swp d1 j k) a ?_ ?_ ?_ ?_)
  .simp only[U,cV,c5,a7,bA,a',a_];exact fu
  .exact bw
  .simp only[U.Y,U,cV,c5,a_,a'];exact lT o x x (λ_ _=>rfl)
  .refine⟨by grind[nM],by grind,by grind,by grind,?_⟩;rw[<-l,reverseLoop.eq_1 j k d1,br r]
  grind
 have s:reverseRange i h e=d1:=by rw[<-l,reverseLoop,bl r]
 rw[s];refine a6 [-13] a bW (g.aB ?_);exact sl
def Jp(a:Nat)(b:Array Int){eZ bp first:Nat}(h:b.size=a)(k:first+bp<=a)(i:eZ<=a)(n:a<=4000000){d e g:Int}(l:d=eZ)(j:e=bp)(o:g=first):
  Y q 296 [dM a,R d,R e,R g] [cA a b] (.ae []) [cA a (siftDown ltInt bp first eZ b)]:=by grind[XE]
def MC(a first:Nat):∀(d root:Nat)(b:Array Int),a-root<=d->(siftDown ltInt a first root b).size=b.size:=by
 intro d;induction d with
 |zero=>intro root b e;rw[siftDown,dif_pos x]
 |succ d g=>
  intro root b e;rw[siftDown];exact sn
theorem Vj(i:Nat)(l:Array Int)(b k:Nat)(y:l.size=i)(B:b<=k)(z:1<=k-b)(A:k<=i)(t:i<=4000000):Y q 258 [dM i,R b,R k] [cA i l] (.ae []) [cA i (heapSort ltInt l b k)]:=by
 refine Y.K func258 rfl λF=>?_;obtain⟨e,rfl⟩:∃e,k=b+e:=⟨k-b,by omega⟩
 rw[AR]at z;refine cr a RI (g.cq (S2:=Array Int) 0 a a (λd2=>d2.size=i/\d2=heapBuild ltInt e b ((e-1) / 2+1) l) (λ_=>[(0,dM i),(6,R b),(7,R 0),(8,R e)]) (λd2=>[cA i d2]) 1 (λd:Nat×Array Int=>d.2.size=i/\d.1<=(e-1) / 2+1/\heapBuild ltInt e b d.1 d.2=heapBuild ltInt e b ((e-1) / 2+1) l) (λd=>[(0,dM i),(6,R b),(7,R 0),(8,R e),(9,R ((d.1:Int)-1))]) (λd=>[cA i d.2]) (λd=>d.1) ((e-1) / 2+1,l) a bW a E a ⟨y,bE _,a⟩ ?_ ?_)
 .rintro dw ⟨h,d1⟩ ⟨j,n,r⟩;simp only at j n r;cases h with
  |zero=>
   refine a6 [-19] a E (g.aB ?_);exact dw d1 ⟨j,r⟩ a E a E
  |succ h=>
   refine a6 [19] rfl E (g.aC (Jp i d1 (eZ:=h) (bp:=e) (first:=b) j A x t x rfl rfl) [0] rfl (cr rfl ?_ (g.ax (h,siftDown ltInt e b h d1) rfl ?_ ?_ ?_ ?_)))
   .exact uf
   .simp
   .simp
   .exact⟨by rw[MC _ _ _ _ _ (bE _)];exact j,by grind,r⟩
   simp
 rintro o ⟨w,D⟩;refine cr a bJ ?_;have u:heapSort ltInt l b (b+e)=heapPop ltInt b e o:=by unfold heapSort;grind
 rw[u];refine g.aE 1 (λd:Nat×Array Int=>d.2.size=i/\d.1<=e/\heapPop ltInt b d.1 d.2=heapPop ltInt b e o) (λd=>[(0,dM i),(6,R b),(7,R 0),(8,R e),(10,R ((d.1:Int)-1))]) (λd=>[cA i d.2]) (λd=>d.1) (e,o) a E a E a ⟨w,bE _,a⟩ ?_;rintro⟨h,d1⟩ ⟨j,n,r⟩;simp only at j n r;cases h with
 |zero=>
  rw[<-r];refine a6 [-30] a E (g.aB ?_);exact sl
 |succ h=>
  have s:((b:Int)+(((h+1:Nat):Int)-1)).toNat=b+h:=x;refine bN [30,911] a ?_ ?_
  .simp only[U,cV,c5,s,a7,bA,a',a_];exact fu
  refine g.bf [cA i (swp d1 b (b+h))] a ?_ ?_
  .simp only[U.Y,U,cV,c5,s,a_,a'];exact lT j x x (λ_ _=>rfl)
  refine cr rfl C (g.aC (Jp i (swp d1 b (b+h)) (eZ:=0) (bp:=h) (first:=b) sn x x t rfl x rfl) [0] rfl (cr rfl ?_ (g.ax (h,siftDown ltInt h b 0 (swp d1 b (b+h))) rfl ?_ ?_ ?_ ?_)))
  .exact uf
  .simp
  .simp
  .exact⟨by rw[MC _ _ _ _ _ (bE _),nM];exact j,by grind,r⟩
  simp
end
section
open Go.Sort (bitsLen)
variable {q:ag T}
def oJ:n UInt8:=(aB 256).map λa=>UInt8.ofNat (bitsLen a)
def sR{k h}(b:k<2 ^ h):bitsLen k<=h:=by
 unfold bitsLen;split
 .omega
 rename_i a;have:=(Nat.log2_lt a).2 b;omega
theorem aaT{k:Nat}(a:k<256):(kN oJ k).toNat=bitsLen k:=by unfold kN oJ;rw[c5,al,ng,List.getElem?_range a];have:=sR (k:=k) (h:=8) a;grind[UInt8.toNat_ofNat']
def GU{h}(d:2 ^ h<=j):bitsLen j=h+bitsLen (j / 2 ^ h):=by
 have a:0<2 ^ h:=Nat.two_pow_pos h;have i:0<j / 2 ^ h:=Nat.div_pos d a;unfold bitsLen;rw[bl x,bl x];have e:Nat.log2 j=h+Nat.log2 (j / 2 ^ h):=by
  rw[Nat.log2_eq_iff x];have b:=Nat.log2_self_le (n:=j / 2 ^ h) x;have g:=Nat.lt_log2_self (n:=j / 2 ^ h);constructor
  .rw[Nat.pow_add,Nat.mul_comm];exact fM (gX _ b) (Nat.div_mul_le_self j _)
  rw[show h+Nat.log2 (j / 2 ^ h)+1=h+(Nat.log2 (j / 2 ^ h)+1) by omega,Nat.pow_add];grind[Nat.div_lt_iff_lt_mul]
 omega
set_option maxRecDepth 100000 in
def V9(j:Nat)(w:j<=4000000):Y q 267 [mB j] [] (R (bitsLen j)) []:=by
 refine Y.K func267 rfl λu=>?_;have fin:∀{b:n UInt8} {k:Nat},b=oJ->k<256->(kN b (k:Int)).toNat=bitsLen k:=λaV t=>by grind[aaT]
 have e:∀{b:n UInt8},b=oJ->c b=256:=λaV=>by rw[aV];rfl
 by_cases s:65536<=j
 .have i:((j:Int).toNat / 2 ^ Int.toNat 16)=j / 65536:=E;have r:bitsLen j=16+bitsLen (j / 65536):=GU (j:=j) (h:=16) s;have l:=sR (k:=j / 65536) (h:=8) N;refine bN [-4,8,-14] a ?_ (g.ar a ?_)
  .generalize aV:(ByteArray.data _).toList=b;have d:b=oJ:=ue;simp only[U,i,fin d (show j / 65536<256 by omega),e d,a7,bA,dv];exact fu
  generalize aV:(ByteArray.data _).toList=b;have d:b=oJ:=ue;simp only[U,U.Y,i,fin d (show j / 65536<256 by omega),a',a_];omega
 by_cases o:256<=j
 .have i:((j:Int).toNat / 2 ^ Int.toNat 8)=j / 256:=E;have r:bitsLen j=8+bitsLen (j / 256):=GU (j:=j) (h:=8) o;have l:=sR (k:=j / 256) (h:=8) N;refine bN [-4,-8,14] a ?_ (g.ar a ?_)
  .generalize aV:(ByteArray.data _).toList=b;have d:b=oJ:=ue;simp only[U,i,fin d (show j / 256<256 by omega),e d,a7,bA,dv];exact fu
  generalize aV:(ByteArray.data _).toList=b;have d:b=oJ:=ue;simp only[U,U.Y,i,fin d (show j / 256<256 by omega),a',a_];omega
 have l:=sR (k:=j) (h:=8) N;refine bN [-4,-8,-14] a ?_ (g.ar a ?_)
 .generalize aV:(ByteArray.data _).toList=b;have d:b=oJ:=ue;simp only[U,fin d (show j<256 by omega),e d,a7,bA,dv];exact fu
 generalize aV:(ByteArray.data _).toList=b;have d:b=oJ:=ue;simp only[U,U.Y,fin d (show j<256 by omega),a',a_];omega
def I6(b:Nat)(d:b<=4000000):Y q 207 [mB b] [] (R (bitsLen b)) []:=by refine Y.K func207 rfl λe=>?_;refine cr a C ?_;refine g.fA ?_;refine cr a C ?_;refine g.aC (V9 b d) [] a ?_;exact cr a C (g.ar a)
end
section
open Go.Sort (swp bitsLen xorNextN xorNextN_lt xorNext xorNext_toNat breakStep breakPatterns)
variable {q:ag T}
abbrev xr(a:Nat):an:=.cells 355 [.c (.int .u64 a)]
def WQ(b):Y q 298 [aD 0 0] [xr b] (mB (xorNextN b)) [xr (xorNextN b)]:=by refine Y.K func298 rfl λh=>?_;have e:(2:Nat) ^ Int.toNat 13=8192:=b9;have i:(2:Nat) ^ Int.toNat 7=128:=b9;have d:(2:Nat) ^ Int.toNat 17=131072:=b9;refine cr a E ?_;refine g.bf [xr (xorNextN b)] a bJ (g.aM [0] a ?_ g5);exact bJ
theorem Xi(b:Nat)(d:b<=4000000):Y q 297 [R b] [] (mB ((1 <<< bitsLen b:Nat):Int)) []:=by refine Y.K func297 rfl λj=>?_;have e:=sR (k:=b) (h:=22) N;refine cr a bJ ?_;refine g.aC (I6 b d) [] a ?_;refine cr a bw (g.ar a ?_);have i:2 ^ bitsLen b<=2 ^ 22:=AV x e;simp only[U,U.Y,Nat.shiftLeft_eq,c5];grind
def ab1{L}(a:0<L):1 <<< bitsLen L<=2*L:=by rw[Nat.shiftLeft_eq,Nat.one_mul];unfold bitsLen;rw[bl x,Nat.pow_succ];grind[Nat.log2_self_le]
def ab2(L):1<=1 <<< bitsLen L:=by rw[Nat.shiftLeft_eq,Nat.one_mul];grind
def uV(d L b:Nat):Nat->Nat->UInt64×Array Int->UInt64×Array Int
 |0,_,a=>a
 |e+1,idx,a=>uV d L b e (idx+1) (breakStep d L b a idx)
def SR{b}{a L}(d:8<=L):breakPatterns b a (a+L)=(uV a L (1 <<< bitsLen L) 3 (a+L / 4*2-1) (UInt64.ofNat L,b)).2:=by unfold breakPatterns;simp only[AR];exact bJ
def SS{w L bD idx}{bb}{I:Array Int}:breakStep w L bD (bb,I) idx=(xorNext bb,swp I idx (w+if(xorNextN bb.toNat &&& (bD-1))≥L then(xorNextN bb.toNat &&& (bD-1))-L else(xorNextN bb.toNat &&& (bD-1)))):=by unfold breakStep;simp only[xorNext_toNat]
abbrev SQ(e a L b:Nat)(d:Nat):bI:=[(0,dM e),(1,R a),(6,R L),(7,aD 1 0),(8,mB b),(9,R ((a+L / 4*2-1+(3-d):Nat):Int))]
def Ug(j)(I)(w i)(y:I.size=j)(D:w<=i)(M:i<=j)(A:j<=4000000):
  Y q 259 [dM j,R w,R i] [cA j I] (.ae []) [cA j (breakPatterns I w i)]:=by
 refine Y.K func259 rfl λN=>?_;obtain⟨L,rfl⟩:∃L,i=w+L:=⟨i-w,by omega⟩
 by_cases z:8<=L
 .rw[SR z];have K:=ab1 (L:=L) x;have F:=ab2 L;have E:(UInt64.ofNat L).toNat=L:=by grind[UInt64.toNat_ofNat']
  refine bN [15] a sq ?_;have key:∀o:Int,o=(L:Int)->Y q 297 [R o] [] (mB ((1 <<< bitsLen L:Nat):Int)) []:=by grind[Xi]
  refine g.aC (key _ x) [] a (cr a sq ?_);generalize J:1 <<< bitsLen L=bD at *;refine g.aE 2 (λb:Nat×UInt64×Array Int=>b.2.2.size=j/\b.1<=3/\(uV w L bD b.1 (w+L / 4*2-1+(3-b.1)) b.2).2=(uV w L bD 3 (w+L / 4*2-1) (UInt64.ofNat L,I)).2) (λb=>SQ j w L bD b.1) (λb=>[cA j b.2.2,xr b.2.1.toNat]) (λb=>b.1) (3,UInt64.ofNat L,I) a ?_ a ?_ a ⟨y,bE _,a⟩ ?_
  .simp only[U.Y,U,a',a_];exact fu
  .exact bw
  rintro⟨h,bb,d1⟩ ⟨d,l,r⟩;simp only at d l r;cases h with
  |zero=>
   rw[<-r];refine bN [-33] a z3 (g.aB ?_);exact sl
  |succ h=>
   have Q:=xorNextN_lt _ (UInt64.toNat_lt bb);have B:xorNextN bb.toNat &&& (bD-1)<=bD-1:=Nat.and_le_right;have u:((bD:Int)-1).toNat=bD-1:=x;refine bN [33] a sq (g.aC (WQ bb.toNat) [1] a ?_);have ae:=SS (w:=w) (L:=L) (bD:=bD) (idx:=w+L / 4*2-1+(3-(h+1))) (bb:=bb) (I:=d1);generalize e:xorNextN bb.toNat &&& (bD-1)=k at *;by_cases n:L<=k
   .rw[br n]at ae;have t:((w:Int)+((k:Int)-(L:Int))).toNat=w+(k-L):=x;refine bN [43] a ?_ (g.ax (h,xorNext bb,swp d1 (w+L / 4*2-1+(3-(h+1))) (w+(k-L))) a ?_ ?_ ?_ ?_)
    .simp only[U,cV,c5,u,e,t,a7,bA,a',a_];exact fu
    .exact z'
    .exact O2
    .exact Qn
    simp
   rw[bl n]at ae;have t:((w:Int)+(k:Int)).toNat=w+k:=x;refine bN [-43] a ?_ (g.ax (h,xorNext bb,swp d1 (w+L / 4*2-1+(3-(h+1))) (w+k)) a ?_ ?_ ?_ ?_)
   .simp only[U,cV,c5,u,e,t,a7,dv,a',a_];exact fu
   .exact z'
   .exact O2
   .exact Qn
   simp
 have s:breakPatterns I w (w+L)=I:=by unfold breakPatterns;grind
 rw[s];exact bN [-15] a bJ sl
end
section
open Go.Sort (swp scanUp scanDown partLoop partEqLoop partition partitionEqual ltInt)
variable {q:ag T}
theorem zi{b:Int->Bool}{a}(g:e<=u)(d:b a[e]! = m):scanUp b a u e=scanUp b a u (e+1):=by rw[scanUp.eq_1 b a u e,br N]
theorem En{b:Int->Bool}{a}(d:e<=u->b a[e]! = v):scanUp b a u e=e:=by rw[scanUp,bl];grind
theorem Mk{b:Int->Bool}{a}(h:1<=u)(i:e<=u)(g:b a[u]! = m):scanDown b a e u=scanDown b a e (u-1):=by
 obtain⟨u,rfl⟩:∃d,u=d+1:=⟨u-1,by omega⟩
 rw[scanDown,br N,qa]
theorem Ml{b:Int->Bool}{a}(d:e<=u->b a[u]! = v):scanDown b a e u=u:=by
 cases u with
 |zero=>rfl
 |succ u=>
  rw[scanDown,bl];grind
def v8{S:Int->Bool}{I}:∀b a,u+1-a<=b->a<=scanUp S I u a/\(scanUp S I u a<=u+1∨scanUp S I u a=a):=by
 intro b;induction b with
 |zero=>intro a e;rw[En (λd=>by omega)];omega
 |succ b h=>
  intro a e;by_cases g:a<=u
  .cases d:S I[a]! with
   |true=>grind[zi]
   |false=>grind[En]
  grind
def v7{S:Int->Bool}{I}:∀a:Nat,scanDown S I e a<=a/\(e<=scanDown S I e a+1∨scanDown S I e a=a):=by
 intro a;induction a with
 |zero=>rw[show scanDown S I e 0=0 from rfl];omega
 |succ a d=>
  by_cases b:e<=a+1
  .cases r:S I[a+1]! with
   |true=>grind[Mk]
   |false=>grind[Ml]
  exact Aa
def abS{d}{I}{cd a}(k:1<=e)(g:cd=scanUp (λb=>ltInt b I[d]!) I u e)(h:a=scanDown (λb=>!ltInt b I[d]!) I cd u):
  partLoop ltInt d e u I=if cd>a then(a,I)else partLoop ltInt d (cd+1) (a-1) (swp I cd a):=by have j:=v8 (S:=λb=>ltInt b I[d]!) (I:=I) (u:=u) (u+1-e) e (bE _);have i:=v7 (S:=λb=>!ltInt b I[d]!) (I:=I) (e:=cd) u;rw[<-g]at j;rw[<-h]at i;rw[partLoop.eq_1,<-g,<-h];grind
def abT{d r}{a aa}(j:r=swp d a aa)(g:e=scanUp (λb=>ltInt b r[a]!) r (i-1) (a+1))(h:u=scanDown (λb=>!ltInt b r[a]!) r e (i-1))(k:e>u):partition ltInt d a i aa=(u,m,swp r u a):=by unfold partition;grind
def abU{g r}{a aa}(l:r=swp g a aa)(j:e=scanUp (λd=>ltInt d r[a]!) r (i-1) (a+1))(k:u=scanDown (λd=>!ltInt d r[a]!) r e (i-1))(n:¬e>u){b}(h:partLoop ltInt a (e+1) (u-1) (swp r e u)=b):partition ltInt g a i aa=(b.1,v,swp b.2 b.1 a):=by subst h;unfold partition;grind
def Xa(j)(I)(w i aa)(aP:I.size=j)(ai:w<i)(an:i<=j)(ar:aa<j)(aq:j<=4000000):
  Y q 265 [dM j,R w,R i,R aa] [cA j I] (.ae [.R (.c (.int .i64 (partition ltInt I w i aa).1)),.R (.c (.bool (partition ltInt I w i aa).2.1))]) [cA j (partition ltInt I w i aa).2.2]:=by
 have t:a9 q [(263,qn)]:=.cons r' .nil;refine Y.K func265 rfl λao=>?_;refine bf t [902] a bw (g.bf [cA j (swp I w aa)] a ?_ ?_)
 .simp only[U.Y,U,cV,c5,a_,a'];exact lT aP x x (λ_ _=>rfl)
 have bz:(swp I w aa).size=j:=sn;obtain⟨ae,A⟩:∃ae,ae=swp I w aa:=⟨_,rfl⟩;rw[<-A]at bz⊢;refine cK t a sm ?_
 refine g.cq (S2:=Unit) 0 a a (λ_=>True) (λ_=>[(0,dM j),(1,R w),(10,R ((scanUp (λk=>ltInt k ae[w]!) ae (i-1) (w+1)):Nat)),(11,R (i-1:Nat))]) (λ_=>[cA j ae]) 1 (λh:Nat=>w+1<=h/\h<=j+1/\scanUp (λk=>ltInt k ae[w]!) ae (i-1) h=scanUp (λk=>ltInt k ae[w]!) ae (i-1) (w+1)) (λh=>[(0,dM j),(1,R w),(10,R (h:Nat)),(11,R (i-1:Nat))]) (λ_=>[cA j ae]) (λh=>i-1+1-h) (w+1) a bJ a E a ⟨bE _,by omega,a⟩ ?_ ?_
 .rintro dw h ⟨o,s,M⟩;by_cases T:h<=i-1
  .by_cases av:(λk=>ltInt k ae[w]!) ae[h]! = m
   .have B:ltInt ae[h]! ae[w]! = m:=N;refine bf t [32,42] a q9 (g.ax (h+1) a E E ?_ ?_)
    .grind [zi]
    omega
   have B:ltInt ae[h]! ae[w]! = v:=N;refine bf t [32,-42] a q9 (g.aB ?_);exact Qy
  refine bf t [-32] a bw (g.aB ?_);exact Qy
 rintro⟨⟩ -;have ag:=v8 (S:=λk=>ltInt k ae[w]!) (I:=ae) (u:=i-1) (i-1+1-(w+1)) (w+1) (bE _);obtain⟨e,n⟩:∃e,e=scanUp (λk=>ltInt k ae[w]!) ae (i-1) (w+1):=⟨_,rfl⟩
 rw[<-n]at ag⊢;refine cK t a C (g.cq (S2:=Unit) 2 a a (λ_=>True) (λ_=>[(0,dM j),(1,R w),(10,R (e:Nat)),(11,R ((scanDown (λk=>!ltInt k ae[w]!) ae (e) (i-1)):Nat))]) (λ_=>[cA j ae]) 1 (λh:Nat=>h<=i-1/\h<=j/\scanDown (λk=>!ltInt k ae[w]!) ae (e) h=scanDown (λk=>!ltInt k ae[w]!) ae (e) (i-1)) (λh=>[(0,dM j),(1,R w),(10,R (e:Nat)),(11,R (h:Nat))]) (λ_=>[cA j ae]) (λh=>h) (i-1) a ?_ a ?_ a ⟨bE _,by omega,a⟩ ?_ ?_)
 .simp[bt]<;>omega
 .simp
 .rintro dw h ⟨o,s,M⟩;by_cases T:e<=h
  .by_cases av:(λk=>!ltInt k ae[w]!) ae[h]! = m
   .have B:ltInt ae[h]! ae[w]! = v:=N;refine bf t [48,-58] a q9 (g.ax (h-1) a bw E Fl ?_);omega
   have B:ltInt ae[h]! ae[w]! = m:=N;refine bf t [48,58] a q9 (g.aB ?_);exact OP
  refine bf t [-48] a bw (g.aB ?_);exact OP
 rintro⟨⟩ -;have ah:=v7 (S:=λk=>!ltInt k ae[w]!) (I:=ae) (e:=e) (i-1);obtain⟨u,F⟩:∃u,u=scanDown (λk=>!ltInt k ae[w]!) ae e (i-1):=⟨_,rfl⟩
 rw[<-F]at ah⊢;by_cases ab:u<e
 .rw[abT A n F ab];refine bf t [65,909] a bw (g.bf [cA j (swp ae u w)] a Rt ?_);exact PE
 refine bf t [-65,911] a bw (g.bf [cA j (swp ae e u)] a Rt ?_);refine cK t a sm ?_;have X:(swp ae e u).size=j:=sn;obtain⟨l,D⟩:∃l,partLoop ltInt w (e+1) (u-1) (swp ae e u)=l:=⟨_,rfl⟩;rw[abU A n F x D]
 obtain⟨d1,L⟩:∃d1,d1=swp ae e u:=⟨_,rfl⟩;rw[<-L]at X D⊢;refine g.cq (S2:=Unit) 4 a a (λ_=>l.1<j/\l.2.size=j) (λ_=>[(0,dM j),(1,R w),(11,R l.1)]) (λ_=>[cA j l.2]) 1 (λb:Nat×Nat×Array Int=>b.2.2.size=j/\w+1<=b.1/\b.1<=j+1/\b.2.1<j/\partLoop ltInt w b.1 b.2.1 b.2.2=l) (λb=>[(0,dM j),(1,R w),(10,R b.1),(11,R b.2.1)]) (λb=>[cA j b.2.2]) (λb=>b.2.1+1-b.1) (e+1,u-1,d1) a bw a E a ⟨X,by grind,by grind,by grind,D⟩ ?_ ?_
 .rintro y ⟨ef,d,d2⟩ ⟨G,ad,W,P,z⟩;simp only at G ad W P z;refine cK t a C (g.cq (S2:=Unit) 6 a a (λ_=>True) (λ_=>[(0,dM j),(1,R w),(10,R ((scanUp (λk=>ltInt k d2[w]!) d2 (d) (ef)):Nat)),(11,R (d:Nat))]) (λ_=>[cA j d2]) 1 (λh:Nat=>ef<=h/\h<=j+1/\scanUp (λk=>ltInt k d2[w]!) d2 (d) h=scanUp (λk=>ltInt k d2[w]!) d2 (d) (ef)) (λh=>[(0,dM j),(1,R w),(10,R (h:Nat)),(11,R (d:Nat))]) (λ_=>[cA j d2]) (λh=>d+1-h) (ef) a ?_ a ?_ a ⟨bE _,by omega,a⟩ ?_ ?_)
  .simp[bt]<;>omega
  .simp
  .rintro dw h ⟨o,s,M⟩;by_cases T:h<=d
   .by_cases av:(λk=>ltInt k d2[w]!) d2[h]! = m
    .have B:ltInt d2[h]! d2[w]! = m:=N;refine bf t [101,111] a q9 (g.ax (h+1) a E E ?_ ?_)
     .grind [zi]
     omega
    have B:ltInt d2[h]! d2[w]! = v:=N;refine bf t [101,-111] a q9 (g.aB ?_);exact P1
   refine bf t [-101] a bw (g.aB ?_);exact P1
  rintro⟨⟩ -;have J:=v8 (S:=λk=>ltInt k d2[w]!) (I:=d2) (u:=d) (d+1-ef) ef (bE _);obtain⟨fz,O⟩:∃fz,fz=scanUp (λk=>ltInt k d2[w]!) d2 d ef:=⟨_,rfl⟩
  rw[<-O]at J⊢;refine cK t a C (g.cq (S2:=Unit) 8 a a (λ_=>True) (λ_=>[(0,dM j),(1,R w),(10,R (fz:Nat)),(11,R ((scanDown (λk=>!ltInt k d2[w]!) d2 (fz) (d)):Nat))]) (λ_=>[cA j d2]) 1 (λh:Nat=>h<=d/\h<=j/\scanDown (λk=>!ltInt k d2[w]!) d2 (fz) h=scanDown (λk=>!ltInt k d2[w]!) d2 (fz) (d)) (λh=>[(0,dM j),(1,R w),(10,R (fz:Nat)),(11,R (h:Nat))]) (λ_=>[cA j d2]) (λh=>h) (d) a ?_ a ?_ a ⟨bE _,by omega,a⟩ ?_ ?_)
  .simp[bt]<;>omega
  .simp
  .rintro dw h ⟨o,s,M⟩;by_cases T:fz<=h
   .by_cases av:(λk=>!ltInt k d2[w]!) d2[h]! = m
    .have B:ltInt d2[h]! d2[w]! = v:=N;refine bf t [117,-127] a q9 (g.ax (h-1) a bw E Fl ?_);omega
    have B:ltInt d2[h]! d2[w]! = m:=N;refine bf t [117,127] a q9 (g.aB ?_);exact QZ
   refine bf t [-117] a bw (g.aB ?_);exact QZ
  rintro⟨⟩ -;have K:=v7 (S:=λk=>!ltInt k d2[w]!) (I:=d2) (e:=fz) d;obtain⟨r,V⟩:∃r,r=scanDown (λk=>!ltInt k d2[w]!) d2 fz d:=⟨_,rfl⟩
  rw[<-V]at K⊢;have Z:=abS x O V;by_cases Q:r<fz
  .have aj:=Z;rw[z,br Q]at aj;refine bf t [134] a bw (g.aB ?_);exact y () N a NT a ui
  have aj:=Z;rw[z,bl x]at aj;refine bf t [-134,919] a ?_ ?_
  .simp only[U,cV,c5,a7,dv,a',a_];exact fu
  refine g.bf [cA j (swp d2 fz r)] a ?_ ?_
  .simp only[U.Y,U,cV,c5,a_,a'];exact lT G x x (λ_ _=>rfl)
  refine cK t a sm (g.ax (fz+1,r-1,swp d2 fz r) a bw E ?_ ?_)
  .grind [nM]
  grind
 rintro⟨⟩ ⟨ak,H⟩;refine bf t [922] a bw (g.bf [cA j (swp l.2 l.1 w)] a Oy ?_);exact PE
def abR{d}{I}{cd a}(k:1<=e)(g:cd=scanUp (λb=>!ltInt I[d]! b) I u e)(h:a=scanDown (λb=>ltInt I[d]! b) I cd u):
  partEqLoop ltInt d e u I=if cd>a then(cd,I)else partEqLoop ltInt d (cd+1) (a-1) (swp I cd a):=by have j:=v8 (S:=λb=>!ltInt I[d]! b) (I:=I) (u:=u) (u+1-e) e (bE _);have i:=v7 (S:=λb=>ltInt I[d]! b) (I:=I) (e:=cd) u;rw[<-g]at j;rw[<-h]at i;rw[partEqLoop.eq_1,<-g,<-h];grind
def Xb(j)(I)(w i aa)(H:I.size=j)(Z:w<i)(ab:i<=j)(P:aa<j)(ag:j<=4000000):
  Y q 264 [dM j,R w,R i,R aa] [cA j I] (R (partitionEqual ltInt I w i aa).1) [cA j (partitionEqual ltInt I w i aa).2]:=by
 have d:a9 q [(263,qn)]:=.cons r' .nil;refine Y.K func264 rfl λad=>?_;refine bf d [902] a bw (g.bf [cA j (swp I w aa)] a Oy ?_);have D:(swp I w aa).size=j:=sn;unfold partitionEqual;generalize swp I w aa=d1 at *;obtain⟨l,G⟩:∃l,partEqLoop ltInt w (w+1) (i-1) d1=l:=⟨_,rfl⟩;rw[G];refine cK d a sm ?_
 refine g.cq (S2:=Unit) 0 a a (λ_=>l.1<=j+1/\l.2.size=j) (λ_=>[(0,dM j),(1,R w),(9,R l.1)]) (λ_=>[cA j l.2]) 1 (λb:Nat×Nat×Array Int=>b.2.2.size=j/\w+1<=b.1/\b.1<=j+1/\b.2.1<j/\partEqLoop ltInt w b.1 b.2.1 b.2.2=l) (λb=>[(0,dM j),(1,R w),(9,R b.1),(10,R b.2.1)]) (λb=>[cA j b.2.2]) (λb=>b.2.1+1-b.1) (w+1,i-1,d1) a bw a E a ⟨D,by grind,by grind,by grind,G⟩ ?_ ?_
 .rintro M ⟨ef,r,d2⟩ ⟨X,y,T,J,t⟩;simp only at X y T J t;refine cK d a C (g.cq (S2:=Unit) 2 a a (λ_=>True) (λ_=>[(0,dM j),(1,R w),(9,R ((scanUp (λk=>!ltInt d2[w]! k) d2 (r) (ef)):Nat)),(10,R (r:Nat))]) (λ_=>[cA j d2]) 1 (λh:Nat=>ef<=h/\h<=j+1/\scanUp (λk=>!ltInt d2[w]! k) d2 (r) h=scanUp (λk=>!ltInt d2[w]! k) d2 (r) (ef)) (λh=>[(0,dM j),(1,R w),(9,R (h:Nat)),(10,R (r:Nat))]) (λ_=>[cA j d2]) (λh=>r+1-h) (ef) a ?_ a ?_ a ⟨bE _,by omega,a⟩ ?_ ?_)
  .simp[bt]<;>omega
  .simp
  .rintro dw h ⟨Q,V,O⟩;by_cases F:h<=r
   .by_cases av:(λk=>!ltInt d2[w]! k) d2[h]! = m
    .have ae:ltInt d2[w]! d2[h]! = v:=N;refine bf d [31,-41] a zW (g.ax (h+1) a E E ?_ ?_)
     .grind [zi]
     omega
    have ae:ltInt d2[w]! d2[h]! = m:=N;refine bf d [31,41] a zW (g.aB ?_);exact O8
   refine bf d [-31] a bw (g.aB ?_);exact O8
  rintro⟨⟩ -;have o:=v8 (S:=λk=>!ltInt d2[w]! k) (I:=d2) (u:=r) (r+1-ef) ef (bE _);obtain⟨fz,B⟩:∃fz,fz=scanUp (λk=>!ltInt d2[w]! k) d2 r ef:=⟨_,rfl⟩
  rw[<-B]at o⊢;refine cK d a C (g.cq (S2:=Unit) 4 a a (λ_=>True) (λ_=>[(0,dM j),(1,R w),(9,R (fz:Nat)),(10,R ((scanDown (λk=>ltInt d2[w]! k) d2 (fz) (r)):Nat))]) (λ_=>[cA j d2]) 1 (λh:Nat=>h<=r/\h<=j/\scanDown (λk=>ltInt d2[w]! k) d2 (fz) h=scanDown (λk=>ltInt d2[w]! k) d2 (fz) (r)) (λh=>[(0,dM j),(1,R w),(9,R (fz:Nat)),(10,R (h:Nat))]) (λ_=>[cA j d2]) (λh=>h) (r) a ?_ a ?_ a ⟨bE _,by omega,a⟩ ?_ ?_)
  .simp[bt]<;>omega
  .simp
  .rintro dw h ⟨Q,V,O⟩;by_cases F:fz<=h
   .by_cases av:(λk=>ltInt d2[w]! k) d2[h]! = m
    .have ae:ltInt d2[w]! d2[h]! = m:=N;refine bf d [48,58] a zW (g.ax (h-1) a bw E Fl ?_);omega
    have ae:ltInt d2[w]! d2[h]! = v:=N;refine bf d [48,-58] a zW (g.aB ?_);exact Rh
   refine bf d [-48] a bw (g.aB ?_);exact Rh
  rintro⟨⟩ -;have s:=v7 (S:=λk=>ltInt d2[w]! k) (I:=d2) (e:=fz) r;obtain⟨n,z⟩:∃n,n=scanDown (λk=>ltInt d2[w]! k) d2 fz r:=⟨_,rfl⟩
  rw[<-z]at s⊢;have A:=abR x B z;by_cases K:n<fz
  .have aj:=A;rw[t,br K]at aj;refine bf d [64] a bw (g.aB ?_);exact M () N a NT a ui
  have aj:=A;rw[t,bl x]at aj;refine bf d [-64,909] a bw (g.bf [cA j (swp d2 fz n)] a ?_ ?_)
  .simp only[U.Y,U,cV,c5,a_,a'];exact lT X x x (λ_ _=>rfl)
  refine cK d a sm (g.ax (fz+1,n-1,swp d2 fz n) a bw E ?_ ?_)
  .grind [nM]
  grind
 rintro⟨⟩ ⟨L,W⟩;refine cK d a C (g.aM [0] a ?_ g5);simp
end
section
open Go.Sort (swp scanSorted shiftDown shiftUp partialIns partialInsertionSort ltInt)
variable {q:ag T}
theorem Mm{a}(d:e<i)(b:ltInt a[e]! a[e-1]! = v):scanSorted ltInt a i e=scanSorted ltInt a i (e+1):=by rw[scanSorted.eq_1 ltInt a i e,br N]
theorem zh{a}(b:e<i->ltInt a[e]! a[e-1]! = m):scanSorted ltInt a i e=e:=by rw[scanSorted,bl];grind
def acO{I}:∀b a,i-a<=b->a<=i->a<=scanSorted ltInt I i a/\scanSorted ltInt I i a<=i:=by
 intro b;induction b with
 |zero=>grind[zh]
 |succ b e=>
  intro a j g;by_cases d:a<i
  .cases h:ltInt I[a]! I[a-1]! with
   |false=>grind[Mm]
   |true=>grind[zh]
  grind
theorem ac3{a}(d:1<=u)(t:ltInt a[u]! a[u-1]! = m):shiftDown ltInt u a=shiftDown ltInt (u-1) (swp a u (u-1)):=by
 obtain⟨u,rfl⟩:∃b,u=b+1:=⟨u-1,by omega⟩
 simp only[qa]at t⊢;rw[shiftDown,bl gA]
theorem Mu{a}(b:1<=u->ltInt a[u]! a[u-1]! = v):shiftDown ltInt u a=a:=by
 cases u with
 |zero=>rfl
 |succ u=>
  have:=b x;simp only[qa]at this;rw[shiftDown,br N]
theorem ac4{a}(b:u<i)(t:ltInt a[u]! a[u-1]! = m):shiftUp ltInt i u a=shiftUp ltInt i (u+1) (swp a u (u-1)):=by rw[shiftUp.eq_1 ltInt i u a,br b,bl gA]
theorem Mv{a}(b:u<i->ltInt a[u]! a[u-1]! = v):shiftUp ltInt i u a=a:=by rw[shiftUp];grind
abbrev qS(e a b d g:Nat):bI:=[(0,dM e),(1,R a),(2,R b),(7,R d),(8,R (5-(g:Int)))]
def abW{d b}{a}:partialIns ltInt d i (b+1) e a=(if scanSorted ltInt a i e=i then(a,m)else if i-d<50 then(a,v)else
  partialIns ltInt d i b (scanSorted ltInt a i e) (if i-scanSorted ltInt a i e≥2 then shiftUp ltInt i (scanSorted ltInt a i e+1) (if scanSorted ltInt a i e-d≥2 then shiftDown ltInt (scanSorted ltInt a i e-1) (swp a (scanSorted ltInt a i e) (scanSorted ltInt a i e-1))else swp a (scanSorted ltInt a i e) (scanSorted ltInt a i e-1))else(if scanSorted ltInt a i e-d≥2 then shiftDown ltInt (scanSorted ltInt a i e-1) (swp a (scanSorted ltInt a i e) (scanSorted ltInt a i e-1))else swp a (scanSorted ltInt a i e) (scanSorted ltInt a i e-1)))):=rfl
def Jg(j)(I)(r i)(ad:I.size=j)(aP:r<i)(ak:i<=j)(ao:j<=4000000):
  Y q 262 [dM j,R r,R i] [cA j I] (bh (partialInsertionSort ltInt I r i).2) [cA j (partialInsertionSort ltInt I r i).1]:=by
 have l:a9 q [(263,qn)]:=.cons r' .nil;refine Y.K func262 rfl λan=>?_;obtain⟨w,M⟩:∃w,partialIns ltInt r i 5 (r+1) I=w:=⟨_,rfl⟩;have aa:partialInsertionSort ltInt I r i=w:=M;rw[aa];refine cK l a bJ ?_
 refine g.cq (S2:=Unit) 0 a a (λ_=>w.2=v) (λ_=>[(0,dM j)]) (λ_=>[cA j w.1]) 1 (λb:Nat×Nat×Array Int=>b.2.2.size=j/\b.1<=5/\r+1<=b.2.1/\b.2.1<=i/\partialIns ltInt r i b.1 b.2.1 b.2.2=w) (λb=>qS j r i b.2.1 b.1) (λb=>[cA j b.2.2]) (λb=>b.1) (5,r+1,I) a E a E a ⟨ad,by grind,by grind,by grind,M⟩ ?_ ?_
 .rintro k ⟨b,e,d1⟩ ⟨L,W,bp,B,t⟩;simp only at L W bp B t;cases b with
  |zero=>
   rw[partialIns]at t;refine bf l [-14] a E (g.aB ?_);exact k () N a E a (by simp[bt,<-t])
  |succ b=>
   rw[abW]at t;refine bf l [14] a bw (g.cq (S2:=Unit) 2 a a (λ_=>True) (λ_=>qS j r i (scanSorted ltInt d1 i e) (b+1)) (λ_=>[cA j d1]) 1 (λh:Nat=>e<=h/\h<=i/\scanSorted ltInt d1 i h=scanSorted ltInt d1 i e) (λh=>qS j r i h (b+1)) (λ_=>[cA j d1]) (λh=>i-h) e a E a E a ⟨bE _,B,a⟩ ?_ ?_)
   .rintro dw h ⟨ag,D,ah⟩;by_cases ai:h<i
    .have Q:((h:Int)-1).toNat=h-1:=x;cases S:ltInt d1[h]! d1[h-1]! with
     |false=>
      refine bf l [19,-30] a QT (g.ax (h+1) a E E ?_ ?_)
      .grind [Mm]
      omega
     |true=>
      refine bf l [19,30] a QT (g.aB ?_);have aj:scanSorted ltInt d1 i e=h:=by grind[zh]
      exact dw () C a bw a E
    refine bf l [-19] a bw (g.aB ?_);have aj:scanSorted ltInt d1 i e=h:=by grind[zh]
    exact dw () C a bw a E
   rintro⟨⟩ -;have ae:=acO (I:=d1) (i:=i) (i-e) e (bE _) B;obtain⟨cd,G⟩:∃cd,cd=scanSorted ltInt d1 i e:=⟨_,rfl⟩;rw[<-G]at ae t⊢
   by_cases F:cd=i
   .rw[br F]at t;rw[<-t];refine bf l [37] a ?_ (g.aX (bX.mk [0] a ?_ a a a g5))
    .simp[F]
    simp
   rw[bl F]at t;by_cases Z:i-r<50
   .rw[br Z]at t;rw[<-t];refine bf l [-37,41] a nU (g.aX (bX.mk [0] a ?_ a a a g5));simp
   rw[bl Z]at t;have Q:((cd:Int)-1).toNat=cd-1:=x;refine bf l [-37,-41,912] a ?_ ?_
   .simp only[U,cV,c5,Q,a7,dv,eM,d',a',a_];exact fu
   refine g.bf [cA j (swp d1 cd (cd-1))] a ?_ ?_
   .simp only[U.Y,U,cV,c5,Q,a_,a'];exact lT L x x (λ_ _=>rfl)
   have X:(swp d1 cd (cd-1)).size=j:=sn;obtain⟨d2,O⟩:∃d2,d2=swp d1 cd (cd-1):=⟨_,rfl⟩;rw[<-O]at X t⊢;obtain⟨d3,A⟩:∃d3,d3=if cd-r≥2 then shiftDown ltInt (cd-1) d2 else d2:=⟨_,rfl⟩
   rw[<-A]at t;have El:∀n I,(shiftDown ltInt n I).size=I.size:=by
    intro n;induction n with
    |zero=>intro I;rfl
    |succ n aq=>
     intro I;rw[shiftDown];exact sn
   have y:d3.size=j:=N;apply g.cn (qS j r i cd (b+1)) [cA j d3]
   .intro dw;by_cases K:cd-r≥2
    .rw[br K]at A;refine bf l [61] a sq (g.cq (S2:=Unit) 4 a a (λ_=>True) (λ_=>qS j r i cd (b+1)) (λ_=>[cA j d3]) 1 (λb:Nat×Array Int=>b.2.size=j/\b.1<i/\shiftDown ltInt b.1 b.2=d3) (λu=>qS j r i cd (b+1)++[(9,R u.1)]) (λb=>[cA j b.2]) (λb=>b.1) (cd-1,d2) a bw a E a ⟨X,by grind,A.symm⟩ ?_ ?_)
     .rintro z ⟨n,d4⟩ ⟨s,H,d⟩;simp only at s H d;by_cases V:1<=n
      .have o:((n:Int)-1).toNat=n-1:=x;cases S:ltInt d4[n]! d4[n-1]! with
       |true=>
        refine bf l [65,77] a z9 (g.ax (n-1,swp d4 n (n-1)) a bw Ot ?_ ?_)
        .grind [ac3]
        grind
       |false=>
        refine bf l [65,-77] a z9 (g.aB ?_);have aj:d3=d4:=by grind[Mu]
        exact z () C a E a ui
      refine bf l [-65] a bw (g.aB ?_);have aj:d3=d4:=by grind[Mu]
      exact z () C a E a ui
     rintro⟨⟩ -;exact bf l [918] a C kD
    rw[bl K]at A;rw[<-A];exact bf l [-61,918] a z3 kD
   by_cases T:i-cd≥2
   .rw[br T]at t;obtain⟨e6,J⟩:∃e6,shiftUp ltInt i (cd+1) d3=e6:=⟨_,rfl⟩;rw[J]at t;refine bf l [98] a sq ?_
    refine g.cq (S2:=Unit) 6 a a (λ_=>e6.size=j) (λ_=>qS j r i cd (b+1)) (λ_=>[cA j e6]) 1 (λb:Nat×Array Int=>b.2.size=j/\1<=b.1/\b.1<=i/\shiftUp ltInt i b.1 b.2=e6) (λu=>qS j r i cd (b+1)++[(10,R u.1)]) (λb=>[cA j b.2]) (λb=>i-b.1) (cd+1,d3) a E a E a ⟨y,by grind,by grind,J⟩ ?_ ?_
    .rintro z ⟨n,d4⟩ ⟨s,V,H,d⟩;simp only at s V H d;by_cases P:n<i
     .have o:((n:Int)-1).toNat=n-1:=x;cases S:ltInt d4[n]! d4[n-1]! with
      |true=>
       refine bf l [103,115] a z9 (g.ax (n+1,swp d4 n (n-1)) a E Ot ?_ ?_)
       .grind [nM,ac4]
       grind
      |false=>
       refine bf l [103,-115] a z9 (g.aB ?_);have aj:e6=d4:=by grind[Mv]
       exact z () N a E a ui
     refine bf l [-103] a bw (g.aB ?_);have aj:e6=d4:=by grind[Mv]
     exact z () N a E a ui
    rintro⟨⟩ W;refine cK l a uf (g.ax (b,cd,e6) a bw E N ?_);grind
   rw[bl T]at t;refine bf l [-98] a z3 (g.ax (b,cd,d3) a bw E N ?_);grind
 rintro⟨⟩ ab;refine cK l a C (g.aM [0] a ?_ g5);simp[ab]
end
section
open Go.Sort (swp pdq rd Rd Below SWO insertionSort heapSort breakPatterns choosePivot reverseRange partialInsertionSort partition partitionEqual Hint ltInt PermIn SortedIn)
variable {q:ag T}
abbrev vY(h d e g:Nat)(a b:Bool):bI:=[(0,dM h),(1,R d),(2,R e),(3,R g),(8,bh a),(9,bh b)]
def J7{a}:qD a=2↔a=.decreasing:=by cases a<;>simp[qD]
def Zd{a}:qD a=1↔a=.increasing:=by cases a<;>simp[qD]
structure R9 where
 cF:Nat
 c':Nat
 lim:Nat
 hQ:Bool
 hT:Bool
 da:Array Int
def VJ(j)(a){w}(d:a.size=j)(h:i<=j)(e:w<=j)(k:j<=4000000){b}(g:b=insertionSort ltInt a w i):Y q 257 [dM j,R w,R i] [cA j a] (.ae []) [cA j b]:=by grind[VI]
def Vm(j)(a){w}(e:a.size=j)(d:w<=i)(h:1<=i-w)(k:i<=j)(l:j<=4000000){b}(g:b=heapSort ltInt a w i):Y q 258 [dM j,R w,R i] [cA j a] (.ae []) [cA j b]:=by grind[Vj]
def Xe(j)(t:j<=4000000):∀aw(K:Array Int)(w i lim:Nat),i-w<=aw->K.size=j->w<=i->i<=j->lim<=100->Below ltInt w i K ->
  ∀{k aQ aR:Int},k=w->aQ=i->aR=lim->∀{aq:Array Int},aq=pdq ltInt K w i lim m m->Y q 206 [dM j,R k,R aQ,R aR] [cA j K] (.ae []) [cA j aq]:=by
 have e:a9 q [(263,qn)]:=.cons r' .nil;have O:=Go.Sort.swo_ltInt;have a5:=Go.Sort.partialInsertionSort_holds (lt:=ltInt);have aj:=Go.Sort.partition_holds ltInt;have ai:=Go.Sort.partitionEqual_holds ltInt;have aZ:=Go.Sort.reverseRange_holds (α:=Int);have L:=Go.Sort.pdq_sorts ltInt;intro aw;induction aw using Nat.strongRecOn with
 |_ aw ak=>
 intro K w i lim ba ae ad aF aI aG k aQ aR aJ aK aL aq ab;subst aJ aK aL;refine Y.K func206 rfl λaH=>?_;refine cK e a C (g.aE 1 (λo:R9=>o.da.size=j/\o.cF<=o.c'/\o.c'<=j/\o.lim<=100/\o.c'-o.cF<=i-w/\Below ltInt o.cF o.c' o.da/\pdq ltInt o.da o.cF o.c' o.lim o.hQ o.hT=aq) (λo=>vY j o.cF o.c' o.lim o.hQ o.hT) (λo=>[cA j o.da]) (λo=>o.c'-o.cF) ⟨w,i,lim,m,m,K⟩ a E a E a ⟨ae,ad,aF,aI,bE _,aG,ab.symm⟩ ?_);clear aH aG ae ab;rintro⟨h,l,r,d,n,d1⟩ ⟨T,ax,s,ag,ah,aG,M⟩;simp only at T ax s ag ah aG M;by_cases Q:l-h<=12
 .rw[Go.Sort.pdq_small Q]at M;refine bf e [23] a ?_ ?_
  .simp only[U,a7,bA];exact fu
  exact g.aC (VJ j d1 (w:=h) (i:=l) T s x t M.symm) [0] a FO
 by_cases S:r=0
 .rw[Go.Sort.pdq_heap Q S]at M;refine bf e [-23,29] a ?_ ?_
  .simp only[U,a7,dv,gZ];exact fu
  exact g.aC (Vm j d1 (w:=h) (i:=l) T ax x s t M.symm) [0] a FO
 have an:h<l:=x;obtain⟨X,a6,f3,f4,f5,au,ar,f8⟩:=Go.Sort.rd_facts (limit:=r) (wb:=d) (wp:=n) O a5 aZ an N aG;have a8:=Go.Sort.rd_lim_le (lt:=ltInt) (d:=d1) (a:=h) (b:=l) (limit:=r) (wb:=d) (wp:=n);have a0:=Go.Sort.rd_dec (lt:=ltInt) (d:=d1) (a:=h) (b:=l) (limit:=r) (wb:=d) (wp:=n);have aP:=Go.Sort.rd_not (lt:=ltInt) (d:=d1) (a:=h) (b:=l) (limit:=r) (wb:=d) (wp:=n);have G:=Go.Sort.rd_pi_yes (lt:=ltInt) (d:=d1) (a:=h) (b:=l) (limit:=r) (wb:=d) (wp:=n);have aV:=Go.Sort.rd_pi_no (lt:=ltInt) (d:=d1) (a:=h) (b:=l) (limit:=r) (wb:=d) (wp:=n);have aA:=Go.Sort.rd_c (lt:=ltInt) (d:=d1) (a:=h) (b:=l) (limit:=r) (wb:=d) (wp:=n);have Z:d=v->(rd ltInt d1 h l r d n).d1=breakPatterns d1 h l/\(rd ltInt d1 h l r d n).lim=r-1:=by grind[Go.Sort.rd_false]
 have aa:d=m->(rd ltInt d1 h l r d n).d1=d1/\(rd ltInt d1 h l r d n).lim=r:=by grind[Go.Sort.rd_true]
 have aS:=Go.Sort.pdq_done (lt:=ltInt) (d:=d1) (wb:=d) (wp:=n) Q S;have geq:=Go.Sort.pdq_eq (lt:=ltInt) (d:=d1) (wb:=d) (wp:=n) Q S;have y:=Go.Sort.pdq_left (lt:=ltInt) (d:=d1) (wb:=d) (wp:=n) Q S;have aX:=Go.Sort.pdq_right (lt:=ltInt) (d:=d1) (wb:=d) (wp:=n) Q S;rw[T]at X f4 ar;rw[M]at aS geq y aX;generalize rd ltInt d1 h l r d n=b at *;apply g.cn (vY j h l b.lim d n++[(10,R ((l-h:Nat):Int))]) [cA j b.d1]
 .intro dw;cases d with
  |false=>
   obtain⟨H,J⟩:=Z rfl;refine bf e [-23,-29] a PZ (g.aC (Ug j d1 h l T ax s t) [0] a ?_);rw[<-H];refine bf e [910] a sm ?_;exact dw _ _ a (by simp[U.Y,U,J,a',a_];and_intros<;>omega)
  |true=>
   obtain⟨H,J⟩:=aa rfl;subst H;exact bf e [-23,-29,910] a PZ (dw _ _ a bw)
 refine cK e a C (g.aC (Ui j b.d1 h l ax s x t) [0] a ?_);rw[<-aA];apply g.cn (vY j h l b.lim d n++[(10,R ((l-h:Nat):Int)),(11,R b.pivot),(12,R (qD b.hint))]) [cA j b.d2]
 .intro dw;by_cases aT:b.c.2=.decreasing
  .obtain⟨H,J,A⟩:=a0 aT;refine bf e [50] a ?_ ?_
   .simp only[U,gZ,J7];omega
   refine g.aC (Xp j b.d1 h l X x x s t) [0] a ?_;rw[<-H];exact bf e [915] a sm (dw _ _ a (by simp[U.Y,U,J,A,qD,a',a_];omega))
  obtain⟨H,J,A⟩:=aP aT;rw[<-H];refine bf e [-50,915] a ?_ ?_
  .simp only[U,eM,d',J7];omega
  exact dw _ _ a (by simp[U.Y,U,J,A,a',a_])
 by_cases B:b.pi.2=m
 ·
  have aM:(d&&n&&decide (b.hint=.increasing))=m:=N;have V:=G aM;simp[cC,bA]at aM;obtain⟨⟨rfl,rfl⟩,a3⟩:=aM;refine bf e [67] a bJ (g.aC (Jg j b.d2 h l f4 an s t) [0] a ?_);rw[<-V,B,<-aS B];exact FO
 rw[qd]at B;apply g.cn (vY j h l b.lim d n++[(10,R ((l-h:Nat):Int)),(11,R b.pivot)]) [cA j b.pi.1]
 .intro dw;cases z:(d&&n&&decide (b.hint=.increasing))with
  |true=>
   have V:=G z;simp[cC,bA]at z;obtain⟨⟨rfl,rfl⟩,a3⟩:=z;refine bf e [67] a bJ (g.aC (Jg j b.d2 h l f4 an s t) [0] a ?_);rw[<-V,B];exact FB
  |false=>
   have V:b.d2=b.pi.1:=N;rw[V];cases d with
   |false=>
    exact FB
   |true=>
    cases n with
    |false=>
     exact FB
    |true=>
     refine bf e [-67,917] a ?_ ?_
     .simp only[U,eM,d',Zd];grind
     exact kD
 have W:((h:Int)-1).toNat=h-1:=x;cases z:(decide (h>0)&&!ltInt b.pi.1[h-1]! b.pi.1[b.pivot]!)with
 |true=>
  have az:=z;simp[cC,bA,j']at az;obtain⟨F,u,I,D,_⟩:=Go.Sort.round_eq (mid:=(partitionEqual ltInt b.pi.1 h l b.pivot).1) (d4:=(partitionEqual ltInt b.pi.1 h l b.pivot).2) O ai az.1 au.1 au.2 N f8 az.2 rfl;have av:=geq B z ⟨F,u⟩;refine bf e [74,-85] a ?_ ?_
  .simp only[U,cV,c5,W,az.2,a7,bA,a',a_];exact fu
  refine g.aC (Xb j b.pi.1 h l b.pivot ar an s x t) [0] a (cK e a C (g.ax ⟨(partitionEqual ltInt b.pi.1 h l b.pivot).1,l,b.lim,d,n,(partitionEqual ltInt b.pi.1 h l b.pivot).2⟩ a E E N ?_));grind
 |false=>
  obtain⟨F,u,I,D,ao,aN,aO⟩:=Go.Sort.round_part (mid:=(partition ltInt b.pi.1 h l b.pivot).1) (ap:=(partition ltInt b.pi.1 h l b.pivot).2.1) (d4:=(partition ltInt b.pi.1 h l b.pivot).2.2) O aj au.1 au.2 N f8 rfl;apply g.cn (vY j h l b.lim d n++[(10,R ((l-h:Nat):Int)),(11,R b.pivot)]) [cA j b.pi.1]
  .intro dw;by_cases aW:0<h
   .have a4:ltInt b.pi.1[h-1]! b.pi.1[b.pivot]! = m:=N;refine bf e [74,85,920] a ?_ ?_
    .simp only[U,cV,c5,W,a4,a7,bA,a',a_];exact fu
    exact kD
   exact bf e [-74,920] a bw kD
  refine cK e a C (g.aC (Xa j b.pi.1 h l b.pivot ar an s x t) [0] a ?_);have aD:=y B z ⟨F,u⟩;have aE:=aX B z ⟨F,u⟩;generalize partition ltInt b.pi.1 h l b.pivot=P at *;rw[ar]at I;by_cases aU:P.1-h<l-P.1
  .have av:=aD aU;obtain⟨w1,w2⟩:=L O P.2.2 h P.1 b.lim m m F N D;obtain⟨w3,_⟩:=aN _ w1 w2;refine bf e [113] a sq (g.aC (ak (P.1-h) x P.2.2 h P.1 b.lim (bE _) I F x x D a a a a) [0] a (cK e a RI (g.ax ⟨P.1+1,l,b.lim,decide (P.1-h≥(l-h) / 8),P.2.1,pdq ltInt P.2.2 h P.1 b.lim m m⟩ a bw E ?_ ?_)))
   .exact⟨by simp only;rw[w1.1,I],by grind,s,by grind,by grind,w3,av.symm⟩
   grind
  have av:=aE aU;obtain⟨w1,w2⟩:=L O P.2.2 (P.1+1) l b.lim m m x N ao;obtain⟨w3,_⟩:=aO _ w1 w2;refine bf e [-113] a z3 (g.aC (ak (l-(P.1+1)) x P.2.2 (P.1+1) l b.lim (bE _) I x s x ao (k:=(P.1:Int)+1) x a a a) [0] a (cK e a ?_ (g.ax ⟨h,P.1,b.lim,decide (l-P.1≥(l-h) / 8),P.2.1,pdq ltInt P.2.2 (P.1+1) l b.lim m m⟩ a ?_ ?_ ?_ ?_)))
  .trivial
  .exact bw
  .simp
  .exact⟨by simp only;rw[w1.1,I],by grind,by grind,by grind,by grind,w3,av.symm⟩
  grind
end
section
open Go.Proofs Go.Conc Go.Conc.Lib
open Go.ConcN (WgLive PayAt Has RW AtR0)
open Go.ConcR (KK WgAt stA smA rd wr mk Payload DC0)
instance af0:Payload:=⟨245⟩
def nj(h:Int):bK:=λargs e=>match args,e with
 |[.p (.R (.c (.int .i64 d))),g,.p (.R (.c (.int .i64 i)))],[]=>match ju 2 g with
  |none=>p
  |some (b,a)=>f (x2 (dP d (a2.af b a) i),[],[a2.bT b a,d=h])
 |_,_=>p
noncomputable def G2:Code:=(Tryz.f190.body).getD .skip
noncomputable def DW:Array ap:=match G2 with|.seq (.region _ a _) _=>a|_=>#[]
noncomputable def vO:Array ap:=match G2 with|.seq _ (.region _ a _)=>a|_=>#[]
def SN:Tryz.f190.body=f (.seq (.region 0 DW v) (.region 1 vO m)):=bL
def gJ(e:Option Nat)(a:Op)(b:aq)(d:Array Edge):ap:={dst:=e,op:=a,type:=b,pos:= "l12_snap.go:82",after:=d,guard:=p}
def mN:n ap:=[gJ (f 6) (.load 233 (.tmp 4)) 233 #[],gJ (f 7) (.load 3 (.tmp 5)) 3 #[],gJ (f 8) (.load 3 (.tmp 1)) 3 #[],gJ (f 9) (.load 23 (.tmp 2)) 23 #[],gJ (f 10) (.load 3 (.tmp 3)) 3 #[],
 gJ (f 11) (.call {callee:=.value (.func 192),args:=#[.tmp 8,.tmp 9,.tmp 10],argTypes:=#[3,23,3]}) 245 #[⟨2,.data⟩,⟨3,.data⟩,⟨4,.data⟩],
 gJ (f 12) (.indexAddr 233 (.tmp 6) (.tmp 7)) 0 #[⟨0,.data⟩,⟨1,.data⟩,⟨0,.phase⟩,⟨1,.phase⟩,⟨2,.phase⟩,⟨3,.phase⟩,⟨4,.phase⟩,⟨5,.phase⟩],
 gJ p (.store 245 (.tmp 12) (.tmp 11)) 0 #[⟨6,.data⟩,⟨5,.data⟩,⟨5,.chain⟩,⟨0,.phase⟩,⟨1,.phase⟩,⟨2,.phase⟩,⟨3,.phase⟩,⟨4,.phase⟩,⟨5,.phase⟩]]
def abD:vO=mN.toArray:=bL
def y3(a:mN[e]?=f s):e<8:=(cO.1 a).1
section
variable (h:Int)(ab:n cb)(w:Int)(j k O:Nat)
def Lu(a:Z):bI:=[(0,cM a),(1,aw (.Q [.int .i64 h])),(2,aw (.Q [.C v 2 (c ab) (a2.fn ab)])),(3,aw (.Q [.int .i64 w])),(4,aw (.Q [.val (.slice (f ⟨O,0,p⟩) j j)])),(5,aw (.Q [.int .i64 k]))]
def sh:Nat->y
 |0=>cM (.slice (f ⟨O,0,p⟩) j j)
 |1=>R k
 |2=>R h
 |3=>a2.C ab
 |4=>R w
 |5=>x2 (dP h ab w)
 |6=>cM (.pointer (f ⟨O,k*2,p⟩))
 |_=>.any
def rR:Nat->Option Nat
 |6=>f 0|7=>f 1|8=>f 2|9=>f 3|10=>f 4|11=>f 5|12=>f 6|_=>p
def JS(a:Z):Nat->bI
 |5=>[(8,R h),(9,a2.C ab),(10,R w)]
 |6=>[(6,cM (.slice (f ⟨O,0,p⟩) j j)),(7,R k)]
 |_=>Lu h ab w j k O a
end
def abt{n:ag T}{j k O}(l:k<j):aJ n 13 mN (gJ (f 12) (.indexAddr 233 (.tmp 6) (.tmp 7)) 0 #[⟨0,.data⟩,⟨1,.data⟩,⟨0,.phase⟩,⟨1,.phase⟩,⟨2,.phase⟩,⟨3,.phase⟩,⟨4,.phase⟩,⟨5,.phase⟩]) [(6,cM (.slice (f ⟨O,0,p⟩) j j)),(7,R k)] [] (cM (.pointer (f ⟨O,k*2,p⟩))) []:=by
 refine .a1 (λ_ _ _ _=>iZ a) (a0.aW λr e t h=>?_);have d:=h (.tmp 6);have b:=h (.tmp 7);have o:bF [(6,y.p (.R (.v (.slice (f ⟨O,0,p⟩) j j)))),(7,R k)] (.tmp 6)=cM (.slice (f ⟨O,0,p⟩) j j):=rfl;have q:bF [(6,y.p (.R (.v (.slice (f ⟨O,0,p⟩) j j)))),(7,R k)] (.tmp 7)=R k:=rfl;rw[o]at d;rw[q]at b;have d:=Rd.bp d;have b:=b8 b;generalize g:e (.tmp 7)=s at b;cases b;have i:=(ba 233 yD a).run_underlying (J:=r.a);refine⟨.pointer (f ⟨O,k*2,p⟩),?_,Rd.val a,?_⟩
 .simp[ac,gJ,d,g,Instr.indexAt,asIntOf,i,yD,(ba 245 qE a).bk,qE,gQ,l]
 simp[ac,gJ,d,g,Instr.indexAt,asIntOf,i,yD,gQ,l]
def ae6{y:ag T}{h}(D:bM y 192 (nj h))(ab)(w)(j k O)(J:k<j)(d):
  uB y 13 mN.toArray (Lu h ab w j k O d) [] (sh h ab w j k O) (JS h ab w j k O d) rR 7:=by
 have F:a9 y [(192,nj h)]:=a9.cons D a9.nil;have t:∀(i:Nat) q z u n,mN[i]?=f q->hB eU [(192,nj h)] [] mN z [] q=f (u,p,n)->U n->aJ y 13 mN q z [] u []:=
  λi q z u n _ x e=>dS ba F x e
 refine⟨?_,?_,?_,?_,?_,?_,by decide⟩
 .intro i q e K B _;simp[j9]at e;have g:=y3 e
  match i,g with
  |0,_|1,_|2,_|3,_|4,_|5,_|6,_|7,_=>
   cases e;simp[gJ]at B;try (rcases B with rfl|rfl|rfl|rfl|rfl|rfl|rfl|rfl|rfl<;>decide)
   try (rcases B with rfl|rfl|rfl<;>decide)
 .intro i q u e A;simp[j9]at e;have g:=y3 e
  match i,g with
  |0,_|1,_|2,_|3,_|4,_|5,_|6,_|7,_=>
   cases e;cases A;try exact⟨rfl,by decide⟩
 .intro u i x;unfold rR at x;split at x<;>cases x<;>exact⟨_,rfl,rfl⟩
 .intro i q e s;simp[j9]at e;have g:=y3 e
  match i,g with
  |0,_=>cases e;exact t 0 _ _ _ _ a a C
  |1,_=>cases e;exact t 1 _ _ _ _ a a C
  |2,_=>cases e;exact t 2 _ _ _ _ a a C
  |3,_=>cases e;exact t 3 _ _ _ _ a a C
  |4,_=>cases e;exact t 4 _ _ _ _ a a C
  |5,_=>
   cases e;have:=t 5 _ (JS h ab w j k O d 5) _ _ a a (by simp[a2.U]);rw[a2.m]at this;exact this
  |6,_=>cases e;exact abt J
  |7,_=>grind
 .intro i q e s o l b aa r;simp[j9]at e;have g:=y3 e
  match i,g with
  |0,_|1,_|2,_|3,_|4,_=>
   match o with
   |0|1|2|3|4|5=>exact r
   |o+6=>trivial
  |5,_=>
   cases e
   match o with
   |8=>exact(show bx l b aa (sh h ab w j k O 2)from by simpa[rR,gJ,eQ,Region.binds]using r)
   |9=>exact(show bx l b aa (sh h ab w j k O 3)from by simpa[rR,gJ,eQ,Region.binds]using r)
   |10=>exact(show bx l b aa (sh h ab w j k O 4)from by simpa[rR,gJ,eQ,Region.binds]using r)
   |0|1|2|3|4|5|6|7=>trivial
   |o+11=>trivial
  |6,_=>
   cases e
   match o with
   |6=>exact(show bx l b aa (sh h ab w j k O 0)from by simpa[rR,gJ,eQ,Region.binds]using r)
   |7=>exact(show bx l b aa (sh h ab w j k O 1)from by simpa[rR,gJ,eQ,Region.binds]using r)
   |0|1|2|3|4|5=>trivial
   |o+8=>trivial
  |7,_=>grind
 intro q e E I s;simp[j9]at e;cases e
 match E,I with
 |0,_=>exact⟨⟨0,.phase⟩,by simp[gJ],rfl,rfl⟩
 |1,_=>exact⟨⟨1,.phase⟩,by simp[gJ],rfl,rfl⟩
 |2,_=>exact⟨⟨2,.phase⟩,by simp[gJ],rfl,rfl⟩
 |3,_=>exact⟨⟨3,.phase⟩,by simp[gJ],rfl,rfl⟩
 |4,_=>exact⟨⟨4,.phase⟩,by simp[gJ],rfl,rfl⟩
 |5,_=>exact⟨⟨5,.phase⟩,by simp[gJ],rfl,rfl⟩
 |6,_=>exact⟨⟨6,.data⟩,by simp[gJ],rfl,rfl⟩
 |7,_=>grind
noncomputable def mw:aL:={(default:aL)with fn:=Tryz.prog.funcs.size,defers:=[],mode:=.panicking [goexitEntry]}
def rF(A:Array Z):Deferred:={target:=.fn (.func 190) A,args:=#[]}
def SO(v0 v1 v2 a v4 b)(d):ar T v (born T (rF #[v0,v1,v2,a,v4,b])) d =
  .go (G ((baseD 190).at ⟨#[v0,v1,v2,a,v4,b,K,K,K,K,K,K,K],[]⟩ [.code (.seq (.region 0 DW v) (.region 1 vO m))]) [mw]) d #[]:=by
 have h:=SN;have g:Tryz.f190.ntmps=13:=bL;have e:¬Tryz.f190.name= "runtime.NumGoroutine":=by have:(Tryz.f190.name== "runtime.NumGoroutine")=v:=bL;grind
 simp[born,rF,ar,unwind,callDeferred,invoke,callFunc,Tryz.func190,h,g,e,seen,GStep.after,G,Frame.enter,Frame.at,baseD,mw]
end
section
variable {q:ag T}
abbrev vT(a:n cb)(b:Nat):cb:=a.getD b (0,[])
def YF{j}{ab}{b}(g:e<c ab)(l:gq h (vT ab e) j=f b)(d:∀a,a<e->gq h (vT ab a) j=p):dP h ab j=f b:=by
 unfold dP;induction ab generalizing e with
 |nil=>grind
 |cons n ab i=>
  cases e with
  |zero=>grind
  |succ e=>
   have k:=d 0 x;grind
def YG{j}{ab}(b:∀a,a<c ab->gq h (vT ab a) j=p):dP h ab j=p:=by unfold dP;grind[List.getElem_of_mem]
theorem k7.fe{P}{F}{l}{ad}(aV:bn P ad){fn}{r}{res}{ao}(aS){ab}(b:tH ad fn.results.toList aS F res=f ab)(o:U ab)(q:dy aS l=f ao)(j:l9 ao=m)(g:e_ aS=m)(e:∀h,h<r->aS[h]?=f h):
  k7 P fn r res ao .ret F l:=by
 refine⟨.inl a,aS,?_⟩;unfold tH at b;split at b
 .rename_i bg d;split at b
  .rename_i k n;split at b
   .rename_i i;exact⟨k,ab,o6.fe aV d n,b,o,i,q,j,g,e⟩
   grind
  grind
 grind
def ft{b:n Nat}:∀a,a<0->b[a]?=f a:=λ_ d=>absurd d (iH _)
def UX(n:bM q 219 lM)(h)(ab)(j)(i:cB h=m):Y q 192 [R h,a2.C ab,R j] [] (x2 (dP h ab j)) []:=by
 refine Y.bB func192 rfl rfl rfl λo=>?_;have u:=o.C 1 a;have e:a9 q [(243,kj c1 (jE bH) c1 (λh t j=>iN (gq h t j)) λh _ _=>[cB h=m])]:=.cons (aeD n) .nil;refine b_ e a C (g.aE 1 (λb=>b<=c ab/\∀k,k<b->gq h (vT ab k) j=p) (λb:Nat=>[(0,R h),(2,R j),(6,aD 0 0),(11,a2.C ab),(12,R (c ab)),(13,R b)]) (λ_=>[.cells 245 [.c (.T []),.c (.bool v)]]) (λb=>c ab-b) 0 a E a E a ⟨by omega,by omega⟩ ?_);rintro b ⟨s,l⟩;by_cases r:b<c ab
 .cases d:gq h (vT ab b) j with
  |some y=>
   refine a8 e [14,24] a ?_ (g.freeze 6 0 a a a (g.aX ?_))
   .simp only[U,c5,bH.m];refine⟨?_,bH.U _,i,by omega,by omega,ff x⟩;grind
   refine k7.fe ba [] a ?_ a a a ft;rw[YF r d l];simp only[c5,bH.m];simp_all
  |none=>
   refine a8 e [14,-24] a ?_ (g.ax (b+1) a ?_ ?_ ?_ ?_)
   .simp only[U,c5,bH.m];refine⟨by exact bJ,?_,bH.U _,i,by omega,by omega,ff x⟩;grind
   .simp
   .simp
   .grind
   grind
 refine a8 e [-14] a bW (g.aB ?_);refine b_ e a C (g.freeze 6 0 a a a ?_);refine g.cb ba [] a ?_ a a a ft;rw[YG λk w=>l k x];simp
def aec(l:bM q 219 lM)(d:cB h=m):bM q 192 (nj h):=by
 intro args s i k g b e;unfold nj at b;split at b
 .rename_i k1 r j;split at b
  .cases b
  rename_i u t n;cases b;obtain⟨o,rfl⟩:=e;exact(UX l _ _ j d).args λw A=>b6.imp (λ_ a=>a) (b6.imp (λ_ a=>a2.cw n o a) (b6.imp (λ_ a=>a) (λ_ a=>a))) A
 grind
def sS:bK:=λargs b=>match args,b with
 |[.p (.R (.c (.T [46]))),.p (.R (.c (.int .i64 a)))],[]=>f (b0 (aY a.toNat 46),[],[0<=a/\a<=3])
 |_,_=>p
def t280:bM q 280 (da c1 (λa=>R (e5 a.toNat)) λa=>[0<=a/\a<=4000000]):=.bd λa d=>by
 have e:0<=a/\a<=4000000:=d;obtain⟨b,rfl⟩:∃b:Nat,a=b:=⟨a.toNat,by omega⟩
 exact Un (q:=q) b x
def Tb(a:1<=j)(b:j<=8):j<=e5 j/\e5 j<=j+3:=F8
def W9(h:bM q 279 sS)(d):Y q 219 [b0 d] [] (b0 (fE d)) []:=by
 refine Y.K func219 rfl λj=>?_;have e:a9 q [(278,da eF (λi=>bh (cE i)) λ_=>[]),(280,da c1 (λb=>R (e5 b.toNat)) λb=>[0<=b/\b<=4000000]),(279,sS)]:=.cons EK (.cons t280 (.cons h .nil));by_cases w:cE d=m
 .have r:=w;simp only[cE,cC,bA]at r;have k:=Tb r.1.1 r.1.2;refine a8 e [-5] a ?_ (g.ar a ?_)
  .simp[w,a7];omega
  simp[fE,w]
 refine a8 e [5] a o3 (g.ar a ?_);simp[fE,w]
def aey(a:bM q 279 sS):bM q 219 lM:=.bd λb _=>W9 a b
def Xn:Y q 279 [b0 [46],R 0] [] (b0 []) []:=by refine Y.K func279 rfl λb=>?_;refine a6 [12] a ?_ (g.ar a);simp
def Xo:Y q 279 [b0 [46],R 1] [] (b0 [46]) []:=by refine Y.K func279 rfl λb=>?_;refine a6 [-12,14] a ?_ (g.ar a);simp
def aeJ(g:Y q 279 [b0 [46],R 2] [] (b0 [46,46]) [])(j:Y q 279 [b0 [46],R 3] [] (b0 [46,46,46]) []):bM q 279 sS:=by
 intro args i d e b a h;unfold sS at a;split at a
 .rename_i r;cases a;have:r=0∨r=1∨r=2∨r=3:=lN;rcases this with rfl|rfl|rfl|rfl
  .exact Xn
  .exact Xo
  .exact g
  grind
 grind
def UW(w i):Y q 195 [bR.C w,bR.C i] [] (bh (w==i)) []:=by
 refine Y.K func195 rfl λj=>?_;have n:=j.C 0 a;by_cases ae:c w=c i
 .refine a6 [-10] a zV (g.b_ (λb=>b<=c w/\∀d,d<b->w.getD d []=i.getD d []) (λb:Nat=>[(0,bR.C w),(1,bR.C i),(12,R (c w)),(13,R b)]) (λ_=>[]) (λb=>c w-b) 0 a E a C ⟨by omega,by omega⟩ ?_);rintro b ⟨h,k⟩;by_cases o:b<c w
  .by_cases e:w.getD b []=i.getD b []
   .refine a6 [14,-24] a ?_ (g.b5 (b+1) a ?_ a C ?_ ?_)
    .simp only[U,c5];have l:(w.getD b bR.I==i.getD b bR.I)=m:=gZ.2 e;exact⟨by exact bJ,by grind,by omega,by omega,by omega,by omega,ff x⟩
    .simp
    .grind
    omega
   refine a6 [14,24] a ?_ (g.bS (bX.zero a ?_))
   .simp only[U,c5];grind
   exact Fv
  refine a6 [-14] a bW (g.bt a a ?_);refine aZ a C (g.ar a ?_);have:w=i:=rx ae λd e r=>by grind
  simp[this]
 refine a6 [10] a bW (g.ar a ?_);exact Fv
end
def vZ(q:s.op=.binOp op o k X ty){A}(Q:P.underlying o=f (.pointer A)){i r}(D:∀b g h,bd l b->bx l b g (η k)->bx l b h (η X)->∃x y,g=.pointer x/\h=.pointer y/\(x==y)=i/\(eqGuard op o k X g h).run P b.a=.ok () b.a/\(∀a,(eqGuard op o k X g h).events P b.a a=a) /\
   (Op.equal o g h).run P b.a=.ok i b.a/\∀a,(Op.equal o g h).events P b.a a=a)(w:h_ op i=f r):a0 P s η l (aw (.bool r)) l:=by
 refine .aW λb F E z=>?_;obtain⟨x,y,d,e,I,n,B,j,C⟩:=D b _ _ E (z k) (z X);rw[d,e]at n j;have u:=B #[];have t:=C #[];rw[d,e]at u t;cases op<;>simp only[h_,reduceCtorEq,eW]at w
 .subst w;exact⟨.bool i,by simp[ac,q,d,e,n,binOp,j],Rd.bool,by simp[ac,q,d,e,n,u,binOp,j,t]⟩
 subst w;exact⟨.bool (!i),by simp[ac,q,d,e,n,binOp,j],Rd.bool,by simp[ac,q,d,e,n,u,binOp,j,t]⟩
def rY(n:s.op=.binOp op o k (.const (.pointer p)) ty){h}(B:P.underlying o=f (.pointer h)){r}(w:η k=aw .bb)(t:η (.const (.pointer p))=aw .bb)(u:h_ op m=f r):a0 P s η l (aw (.bool r)) l:=by
 refine vZ n B (i:=m) ?_ u;intro b x y _ g e;rw[w]at g;rw[t]at e;replace g:=b8 g;replace e:=b8 e;cases g;cases e;have q:(Op.equal o (.pointer p) (.pointer p)).run P b.a=.ok m b.a:=Fw;have j:∀d,(Op.equal o (.pointer p) (.pointer p)).events P b.a d=d:=λd=>by show(aQ (9999+1) o _ _).events P b.a d=d;unfold aQ;simp[underlying,B]
 exact⟨p,p,a,a,a,by cases op<;>simp[eqGuard],λd=>by cases op<;>simp[eqGuard],q,j⟩
def ab4(t:s.op=.binOp op o k (.const (.pointer p)) ty){q}(h:P.underlying o=f (.pointer q)){r}(y:η k=aD d off)(w:η (.const (.pointer p))=aw .bb)(x:h_ op v=f r):a0 P s η l (aw (.bool r)) l:=by
 refine vZ t h (i:=v) ?_ x;intro e z A _ j g;rw[y]at j;rw[w]at g;replace g:=b8 g;cases g;obtain⟨_,L,i,_,_,rfl⟩:=(j:cx l e z (.ptr d off));have u:(Op.equal o (.pointer (f ⟨i,off,p⟩)) (.pointer p)).run P e.a=.ok v e.a:=by show(aQ (9999+1) o _ _).run P e.a=_;unfold aQ;simp[underlying,h]
 have n:∀b,(Op.equal o (.pointer (f ⟨i,off,p⟩)) (.pointer p)).events P e.a b=b:=λb=>by show(aQ (9999+1) o _ _).events P e.a b=b;unfold aQ;simp[underlying,h]
 exact⟨_,p,a,a,a,by cases op<;>simp[eqGuard],λb=>by cases op<;>simp[eqGuard],u,n⟩
def ab5(D:s.op=.binOp op o k X ty){h}(n:P.underlying o=f (.pointer h))(z:j≠0)(x:∀g,(sizeOf h).run P g=.ok j g)(C:∀g b,(sizeOf h).events P g b=b){r}(O:η k=aD d off)(K:η X=aD d off)(A:h_ op m=f r):a0 P s η l (aw (.bool r)) l:=by
 refine vZ D n (i:=m) ?_ A;intro e I J _ w u;rw[O]at w;rw[K]at u;obtain⟨_,L,i,Q,E,rfl⟩:=(w:cx l e I (.ptr d off));obtain⟨_,y,M,t,q,rfl⟩:=(u:cx l e J (.ptr d off));rw[Q]at t;cases t;rw[E]at q;cases q;have F:(Op.equal o (.pointer (f ⟨i,off,p⟩)) (.pointer (f ⟨i,off,p⟩))).run P e.a=.ok m e.a:=by show(aQ (9999+1) o _ _).run P e.a=_;unfold aQ;simp[underlying,n,x,z,sameAddr]
 have B:∀b,(Op.equal o (.pointer (f ⟨i,off,p⟩)) (.pointer (f ⟨i,off,p⟩))).events P e.a b=b:=λb=>by show(aQ (9999+1) o _ _).events P e.a b=b;unfold aQ;simp[underlying,n,x,C,z,sameAddr]
 exact⟨_,_,a,a,by simp,by cases op<;>simp[eqGuard],λb=>by cases op<;>simp[eqGuard],F,B⟩
def tI(q:s.op=.binOp op o k (.const (.pointer p)) ty){j}(B:P.underlying o=f (.pointer j)){r}{ai}(x:η k=aw (.Q ai))(u:η (.const (.pointer p))=aw .bb)(w:h_ op v=f r):a0 P s η l (aw (.bool r)) l:=by
 refine vZ q B (i:=v) ?_ w;intro b y z _ h g;rw[x]at h;rw[u]at g;replace h:=b8 h;replace g:=b8 g;cases g;cases h with|Q i e=>
 have t:(Op.equal o (.pointer (f ⟨i,e,p⟩)) (.pointer p)).run P b.a=.ok v b.a:=Fw;have n:∀d,(Op.equal o (.pointer (f ⟨i,e,p⟩)) (.pointer p)).events P b.a d=d:=λd=>by show(aQ (9999+1) o _ _).events P b.a d=d;unfold aQ;simp[underlying,B]
 exact⟨_,p,a,a,a,by cases op<;>simp[eqGuard],λd=>by cases op<;>simp[eqGuard],t,n⟩
section
variable {q:ag T}
abbrev sP(e:Bool)(b:Z)(a:Option (Nat×Nat))(d:bB)(g:Nat):an:=.J (eI 307 5 e b a d g)
def IV(v1)(d:dY v1=m)(bP)(ah)(b):Y q 290 [aD 0 0] [sP v v1 bP ah b] (.ae []) [sP m v1 bP ah b]:=by refine Y.K func290 rfl λh=>?_;refine aZ a C ?_;refine g.aN (a0.ir ba a a a a a) a a ?_;refine g.aN (rY a underlying305 a a a) a a ?_;refine aZ a C ?_;refine g.aN (a0.iv a a underlying305 underlying217 (hz type307) (by simp[Tryz.t307]) a) a a ?_;refine g.aN (a0.jD func307 bL bL bL bL rfl rfl rfl) rfl rfl ?_;refine g.aN (a0.im a a underlying217 underlying305 (hz type307) (by simp[Tryz.t307]) bL a) a a ?_;refine aZ a C ?_;refine g.aN (a0.iu ba a a a a a a d) a a ?_;refine aZ a C ?_;exact bX.dk [0] a C a a a (λi e=>by grind)
def IW(v1)(bP)(ah)(b):Y q 290 [aD 0 0] [sP m v1 bP ah b] (.ae []) [sP m v1 bP ah b]:=by refine Y.K func290 rfl λi=>?_;refine aZ a C ?_;refine g.aN (a0.gK ba a a a a a) a a ?_;refine g.aN (ab4 a underlying305 a a a) a a ?_;refine aZ a C ?_;refine g.aN (a0.gK ba a a a a a) a a ?_;refine aZ a C ?_;refine g.aN (ab5 a underlying305 (j:=2) b9 (λe=>by simp) (λe d=>by simp) a a a) a a ?_;refine aZ a C ?_;exact bX.dk [0] a C a a a (λk h=>by grind)
abbrev dp(d:Bool)(a:Option (Nat×Nat))(b:bB)(e:Nat):an:=sP d (jK a (c b)) a b e
def h7:∀a,a<1->([0]:n Nat)[a]?=f a:=λa b=>by grind
def Cv(b)(bP)(ah)(i)(e:c ah<=9223372036854775807)(d:bP=p->ah=[]):Y q 306 [aD 0 0] [dp b bP ah i] (R (c ah)) [dp b bP ah i]:=by
 refine Y.K func306 rfl λh=>?_;refine aZ a C (g.aN (a0.eV ba a a a a a) a a ?_);cases bP with
 |none=>
  have:=d a;subst this;refine g.aN (a0.fJ a a underlying22 a E) a a ?_;exact PX
 |some j=>
  refine g.aN (a0.fJ a a underlying22 a e) a a ?_;exact PX
def CO(B cap)(ah b)(e)(k:c b<=9223372036854775807)(h:c ah+c b<=cap):Y q 250 [aD 0 0,b0 b] [dp m (f (B,cap)) ah e] (.ae [.R (.c (.int .i64 (c b))),.R (.c .br)]) [dp m (f (B,cap)) (ah++b) e]:=by refine Y.K func250 rfl λj=>?_;refine aZ a C ?_;refine g.aC (IW (jK (f (B,cap)) (c ah)) (f (B,cap)) ah e) [0] a ?_;refine aZ a C ?_;refine g.aN (a0.eV ba a a a a a) a a ?_;refine aZ a C ?_;refine g.aN (a0.ij (d:=0) (B:=B) (cap:=cap) (ah:=ah) a underlying22 underlying9 (hz type5) (by simp[Tryz.t5]) a a a a h) a a ?_;refine aZ a C ?_;refine g.aN (a0.gh ba a a a a a a a) a a ?_;have i:dp m (f (B,cap)) (ah++b) e=.J (eI 307 5 m (jK (f (B,cap)) (c ah+c b)) (f (B,cap)) (ah++b) e):=N;rw[i];refine aZ a C (g.aM [0] a ?_ h7);simp
theorem Yt:Y q 250 [aD 0 0,b0 []] [dp m p [] 0] (.ae [.R (.c (.int .i64 0)),.R (.c .br)]) [dp m p [] 0]:=by refine Y.K func250 rfl λb=>?_;refine aZ a C ?_;refine g.aC (IW (jK p 0) p [] 0) [0] a ?_;refine aZ a C ?_;refine g.aN (a0.eV ba a a a a a) a a ?_;refine aZ a C ?_;refine g.aN (a0.il a underlying22 underlying9 (hz type5) a a) a a ?_;refine aZ a C ?_;refine g.aN (a0.gh ba a a a a a a a) a a ?_;refine aZ a C (g.aM [0] a ?_ h7);simp
abbrev ix:y:=aD 0 0
abbrev ot:y:=aD 0 1
def CM(B cap)(ah)(r)(w:c ah<=9223372036854775807)(e:cap≠0):Y q 251 [aD 0 0] [dp m (f (B,cap)) ah r] (b0 ah) [dp m (f (B,cap)) ah (c ah)]:=by
 refine Y.K func251 rfl λh=>?_;refine a6 [901] a C ?_;refine g.dg b5 10 (λb=>ay b 9) (λb=>[ix,ix,ot,cM (.slice (f ⟨B,0,p⟩) (c ah) cap),cM (.pointer (f ⟨B,0,p⟩)),ix,ix,ot,cM (.slice (f ⟨B,0,p⟩) (c ah) cap),R (c ah)].getD b .any) (λ(_:Unit) _=>b0 ah)
  (λ_=>[dp m (f (B,cap)) ah (c ah)]) a a a a a a ?_ ?_ ?_ ?_
 .refine⟨.x,.x,.x,iC,?_,.x,.x,.x,?_,?_,C,C,C⟩
  .exact .aN (a0.h7 a a e) a
  .exact iC
  exact PM
 .intro _;refine⟨.x,.x,.x,iC,?_,.x,.x,.x,?_,?_,C,.x,C⟩
  .exact .aN (a0.h7 a a e) a
  .exact iC
  exact PM
 .exact .di (.aN (SI (d:=0) a underlying352 bL a a a) a)
 exact OK
def Gt(e:s.op=.binOp .add o k X ty){i}(d:η k=R 0)(b:η X=R i)(g:a7 .i64 i):a0 T s η l (R i) l:=by have:=a0.binOp (P:=T) (l:=l) e d b (r:=.int .i64 (0+i)) (cg:=[a7 .i64 (0+i)]) a bw;grind
def bk.gM{e}{fn}{args}{a:ι->n an}(o:Tryz.prog.funcs[e]?=f fn)(k:(fn.name== "runtime.NumGoroutine")=v)(d:fn.body=f r)(j:ay args.length fn.ntmps=m)(t:g q fn.ntmps (λs i b=>∃h,bX fn l.length (res h) (a h) s i b) [.code r] .normal (h3 0 args) l):bk q e args l res a:=
 bk.intro o k d (fe j) (g.aT t)
def X0:Y q 251 [aD 0 0] [dp m p [] 0] (b0 []) [dp m p [] 0]:=by
 refine Y.K func251 rfl λe=>?_;refine a6 [901] a C ?_;refine g.dg b5 10 (λb=>ay b 9) (λb=>[ix,ix,ot,cM (.slice p 0 0),cM (.pointer p),ix,ix,ot,cM (.slice p 0 0),R (0:Nat)].getD b .any) (λ(_:Unit) _=>b0 [])
  (λ_=>[dp m p [] 0]) a a a a a a ?_ ?_ ?_ ?_
 .refine⟨.x,.x,.x,iC,?_,.x,.x,.x,?_,?_,C,C,C⟩
  .exact .aN (a0.h6 a a) a
  .exact iC
  exact q8
 .intro _;refine⟨.x,.x,.x,iC,?_,.x,.x,.x,?_,?_,C,.x,C⟩
  .exact .aN (a0.h6 a a) a
  .exact iC
  exact q8
 .exact .di (.aN (a0.jU a a a) a)
 exact OK
def U5(j)(l:0<j)(n:j<=140737488355328):bk (ι:={e:Nat×Nat // j<=e.2}) q 291 [aD 0 0,R j] [dp m p [] 0] (λ_=>.ae []) (λu=>[dp m (f u.1) [] 0]):=by
 refine bk.gM func291 rfl rfl rfl ?_;refine a6 [900] a C ?_;have i:a7 .i64 (j:Int):=bJ;have o:y:=cM (.slice p 0 0);refine g.dg (ι:={e:Nat×Nat // j<=e.2}) b5 8 (λb=>ay b 7||(ay 9 b&&ay b 13)) (λb=>[ix,ix,ot,cM (.slice p 0 0),R (0:Nat),R 0,R j,R j,.any,ix,ix,ot,cM (.slice p 0 0),R (0:Nat)].getD b .any)
  (λu b=>[cM (jK (f u.1) j),.any,.any,.any,.any,.any,cM (.slice (f ⟨u.1.1,0,p⟩) 0 u.1.2),cM (.slice (f ⟨u.1.1,0,p⟩) 0 u.1.2)].getD (b-8) .any)
  (λu=>[sP m (.slice p 0 0) (f u.1) [] 0]) a a a a a a ?_ ?_ ?_ ?_
 .refine⟨.x,.x,.x,iC,Pg,Ql,.x,?_,C,.x,.x,.x,?_,?_,C,C,C⟩
  .exact .aN (Gt a a a i) a
  .exact iC
  exact q8
 .intro u;have k:u.1.2≠0:=N;refine⟨.x,.x,.x,iC,Pg,Ql,.x,?_,C,.x,.x,.x,?_,?_,?_,.x,C⟩
  .exact .aN (Gt a a a i) a
  .exact iC
  .exact q8
  exact .aN (a0.jc (h:=0) a underlying22 (hz type5) a a (g0 _) u.2 k (gQ _ _ _)) a
 .exact .a1 a (SH (d:=0) (ab:=#[3]) underlying22 func308 bL bL bL bL rfl rfl rfl l n rfl)
 intro u;refine aZ a C (g.aN (a0.eV (d:=0) ba a a a a a) a a ?_);refine g.aN (a0.iH a underlying22 (hz type5) a a) a a ?_;refine aZ a C (g.aN (a0.gh (d:=0) ba a a a a a a a) a a ?_);exact Ou
def IL(j)(e:0<j)(h:j<=140737488355328):bk (ι:={i:Nat×Nat // j<=i.2}) q 249 [aD 0 0,R j] [dp v p [] 0] (λ_=>.ae []) (λu=>[dp m (f u.1) [] 0]):=by
 refine bk.gM func249 rfl rfl rfl ?_;refine aZ a C (g.aC (IV (jK p 0) a p [] 0) [0] a (a6 [-7,903] a E ?_));refine g.dg b5 4 (λb=>ay b 3||(ay 5 b&&ay b 9)||af b 11) (λb=>[ix,ix,ot,cM (.slice p 0 0),.any,ix,ix,ot,cM (.slice p 0 0),R (0:Nat),.any,R j].getD b .any)
  (λ(_:Unit) b=>[R (0:Nat),.any,.any,.any,.any,.any,R (0-0),.any,bh m].getD (b-4) .any)
  (λ_=>[dp m p [] 0]) a a a a a a ?_ ?_ ?_ ?_
 .refine⟨.x,.x,.x,iC,C,.x,.x,.x,iC,?_,C,.x,C,C⟩;exact q8
 .intro _;refine⟨.x,.x,.x,iC,C,.x,.x,.x,iC,q8,Oo,.x,?_,C⟩;exact .eval (bg:=[21]) ba a9.nil (cg:=[decide ((0:Int)-0<(j:Int))=m]) a bW
 .exact PD
 intro _;refine aZ a C (g.a8 (U5 j e h) [0] a bm λu=>?_);exact Ou
def TX:Y q 249 [aD 0 0,R (0:Nat)] [dp v p [] 0] (.ae []) [dp m p [] 0]:=by
 refine Y.K func249 rfl λe=>?_;refine aZ a C (g.aC (IV (jK p 0) a p [] 0) [0] a (a6 [-7,903] a E ?_));refine g.dg b5 4 (λb=>ay b 3||(ay 5 b&&ay b 9)||af b 11) (λb=>[ix,ix,ot,cM (.slice p 0 0),.any,ix,ix,ot,cM (.slice p 0 0),R (0:Nat),.any,R (0:Nat)].getD b .any)
  (λ(_:Unit) b=>[R (0:Nat),.any,.any,.any,.any,.any,R (0-0),.any,bh v].getD (b-4) .any)
  (λ_=>[dp m p [] 0]) a a a a a a ?_ ?_ ?_ ?_
 .refine⟨.x,.x,.x,iC,C,.x,.x,.x,iC,?_,C,.x,C,C⟩;exact q8
 .intro _;refine⟨.x,.x,.x,iC,C,.x,.x,.x,iC,q8,Oo,.x,?_,C⟩;exact .eval (bg:=[-21]) ba a9.nil (cg:=[decide ((0:Int)-0<((0:Nat):Int))=v]) a E
 .exact PD
 intro _;exact aZ a C (bX.dk [0] a C a a a h7)
def GC(b:s.op=.alloc 307):a0 T s η l (aD (c l) 0) (l++[dp v p [] 0]):=
 a0.ih b (λd=>by simp) (λd a=>by simp)
def abe{h}{b i r}(z)(n:s.op=.call {callee:=.builtin .min,args:=#[k,X,h],argTypes:=dn})(y:η k=R b)(w:η X=R i)(A:η h=R r)(F:min (min b i) r=z)(x:a7 .i64 z):a0 T s η l (R z) l:=by refine .aW λE a I j=>?_;have e:=j k;have d:=j X;have g:=j h;rw[y]at e;rw[w]at d;rw[A]at g;replace e:=b8 e;replace d:=b8 d;replace g:=b8 g;generalize o:a k=B at e;generalize t:a X=C at d;generalize q:a h=D at g;cases e;cases d;cases g;have u:(if r<(if i<b then i else b)then r else if i<b then i else b)=z:=N;exact⟨.int .i64 z,by simp[ac,n,resolve,invoke,builtin,o,t,q,Builtin.min_,Builtin.min2,u],.int x,by simp[ac,n,resolve,invoke,builtin,o,t,q,Builtin.min_,Builtin.min2]⟩
def Jj(e:Nat)(z:2<=e)(A:e<=3):Y q 279 [b0 [46],R e] [] (b0 (aY e 46)) []:=by
 refine Y.K func279 rfl λy=>?_;have w:a9 q [(305,By)]:=.cons t305 .nil;refine bf w [-13,-15,-18,-30,-33,-40,-44,-45,-46,-47,-48,-96,935] a ?_ ?_
 .have n:(e:Int)=2∨(e:Int)=3:=x;have i:(kN [46] 0).toNat=46:=rfl;simp[a7,i,n];omega
 refine g.region ?_;refine g.aN (GC a) a a ?_;refine cK w a C (g.a8 (IL e x x) [0] a bm λs=>?_);obtain⟨⟨h,b⟩,j⟩:=s;have j:e<=b:=j;refine cK w a C (g.aC (CO h b [] [46] 0 E bW) [0] a (cK w a C (g.b_ (λd=>1<=d/\d<=e) (λd:Nat=>[(0,b0 [46]),(7,R e),(8,R e),(9,aD 0 0)]) (λd=>[dp m (f (h,b)) (aY d 46) (d-1)]) (λd=>e-d) 1 a E a E ⟨by omega,by omega⟩ ?_)));rintro d ⟨u,t⟩;refine cK w a C (g.aC (Cv m (f (h,b)) (aY d 46) (d-1) bW E) [0] a ?_);by_cases o:d<e
 .refine bf w [113] a bW (g.aC (Cv m (f (h,b)) (aY d 46) (d-1) bW E) [0] a (cK w a lN (g.aC (Cv m (f (h,b)) (aY d 46) (d-1) bW E) [0] a (cK w a C (g.aN (abe 1 a a a a bW lC) a a ?_)))));refine cK w a C (g.aC (CM h b (aY d 46) (d-1) bW x) [0] a ?_);have l:mz (aY d (46:UInt8)) p (f 1)=[46]:=by
   obtain⟨k,rfl⟩:∃k,d=k+1:=⟨d-1,by omega⟩
   exact bJ
  refine cK w a bW ?_;rw[l];refine g.aC (CO h b (aY d 46) [46] (c (aY d 46)) E bW) [0] a ?_;have r:aY d (46:UInt8)++[46]=aY (d+1) 46:=by rw[List.replicate_succ']
  rw[r];refine cK w a C (g.b5 (d+1) a E a ?_ ⟨by omega,by omega⟩ x);simp
 refine bf w [-113] a bW (g.bt a a ?_);have i:d=e:=x;subst i;exact cK w a C (g.aC (CM h b (aY d 46) (d-1) bW x) [0] a wI)
def aeI:bM q 279 sS:=aeJ (Jj 2 x x) (Jj 3 x x)
def zD:bM q 219 lM:=aey aeI
def wZ(b:Option (Nat×Nat))(d:Nat):Prop:=match b with|none=>d=0|some (_,a)=>d<=a/\0<a
def _root_.Go.AM.bk.hS{e:Type}{r:ag P}{t}{args}{d:ι->n an}{s:e->y}{a:e->n an}(u:bk r t args l res d)(i:ι->e)(F:∀b,s (i b)=res b)(E:∀b,a (i b)=d b):bk r t args l s a:=
 ⟨u.1,λC A j k w g o=>u.2 C A j k w g λb h D q k1 x z B=>o (i b) h D q k1 N N N⟩
def TY(j)(e:j<=140737488355328):bk (ι:={b:Option (Nat×Nat) // wZ b j}) q 249 [aD 0 0,R j] [dp v p [] 0] (λ_=>.ae []) (λh=>[dp m h.1 [] 0]):=by
 by_cases g:j=0
 .subst g;exact TX.tocF.hS (λ_=>⟨p,a⟩) bm bm
 exact(IL j x e).hS (λd=>⟨f d.1,d.2,by grind⟩) bm bm
def CP(bP)(ah b)(e:c b<=9223372036854775807)(a:wZ bP (c ah+c b)):Y q 250 [aD 0 0,b0 b] [dp m bP ah 0] (.ae [.R (.c (.int .i64 (c b))),.R (.c .br)]) [dp m bP (ah++b) 0]:=by
 cases bP with
 |none=>
  have a:c ah+c b=0:=a;grind[Yt]
 |some d=>exact CO d.1 d.2 ah b 0 e a.1
def ac6(a:Option (Nat×Nat))(b:bB):Nat:=match a with|none=>0|some _=>c b
def X1(bP)(ah)(d:c ah<=9223372036854775807)(a:wZ bP (c ah)):Y q 251 [aD 0 0] [dp m bP ah 0] (b0 ah) [dp m bP ah (ac6 bP ah)]:=by
 cases bP with
 |none=>
  have a:c ah=0:=a;have e:ah=[]:=jF a;subst e;exact X0
 |some b=>exact CM b.1 b.2 ah 0 d (by have:=a.2;omega)
def lz(b:n bB)(a:Nat):bB:=(b.take a).flatten
def wt{d}(a:e<c d):lz d (e+1)=lz d e++d.getD e []:=by unfold lz;grind[List.take_add_one]
def Nm{d}:lz d (c d)=d.flatten:=by simp[lz]
def wq{d}(e):c (lz d e)<=c d.flatten:=by have a:d.flatten=(d.take e).flatten++(d.drop e).flatten:=F2;rw[a,dm];simp only[lz];omega
def VS(d)(z:c d.flatten<=140737488355328):Y q 194 [bR.C d,b0 []] [] (b0 d.flatten) []:=by
 refine Y.K func194 rfl λw=>?_;have F:=w.C 0 a;by_cases B:d=[]
 .subst B;refine a6 [14] a ?_ (g.ar a);simp
 by_cases A:c d=1
 .obtain⟨k,rfl⟩:=List.length_eq_one_iff.1 A;refine a6 [-14,16] a E (g.ar a ?_);simp
 have K:2<=c d:=by have:c d≠0:=N;omega
 refine a6 [-14,-16,-22] a bJ (g.b_ (λb=>b<=c d) (λb:Nat=>[(0,bR.C d),(1,b0 []),(5,R (c (lz d b))),(39,bR.C d),(40,R (c d)),(41,R b)]) (λ_=>[]) (λb=>c d-b) 0 a ?_ a C x ?_)
 .simp[lz]
 intro b n;have M:=wq (d:=d) b;by_cases j:b<c d
 .have t:=wq (d:=d) (b+1);rw[wt j,dm]at t;refine a6 [42,-49] a ?_ (g.b5 (b+1) a ?_ a C x x)
  .have i:(d.getD (b:Int).toNat bR.I)=d.getD b []:=rfl;simp only[U,a7,i];grind
  have i:(d.getD (b:Int).toNat bR.I)=d.getD b []:=rfl;rw[wt j];simp_all
 have i:b=c d:=x;subst i;refine a6 [-42,918] a E (g.bt a a ?_);refine a6 [918] a C (g.region ?_);refine g.aN (GC a) a a ?_;refine cr a C ?_;rw[Nm];refine g.a8 (TY (c d.flatten) z) [0] a bm λu=>?_;obtain⟨h,l⟩:=u;refine cr a bw ?_;have e:∀o,o<=c d.flatten->wZ h o:=λo D=>by
  cases h with
  |none=>
   have:c d.flatten=0:=l;grind
  |some I=>exact⟨fM D l.1,l.2⟩
 have y:lz d 1=d.getD 0 []:=by rw[wt x];simp[lz]
 have s:=wq (d:=d) 1;rw[y]at s;refine g.aC (CP h [] (d.getD 0 []) x (e _ N)) [0] a (cr a bw (g.b_ (λb=>b+1<=c d) (λb:Nat=>[(1,b0 []),(8,aD 0 0),(63,aw (.C v 1 (c d-1) (fA 1 (bR.fn d)))),(64,R (c d-1:Nat)),(65,R b)]) (λb=>[dp m h (lz d (b+1)) 0]) (λb=>c d-b) 0 a wQ a bJ x ?_));intro b n;have J:=wq (d:=d) (b+1);by_cases j:b+1<c d
 .have r:=wq (d:=d) (b+2);rw[wt j,dm]at r;refine a6 [66] a bw (g.aC (CP h (lz d (b+1)) [] E (e _ N)) [0] a ?_);rw[h2];refine aZ a C (g.aC (CP h (lz d (b+1)) (d.getD (1+b) []) N (e _ N)) [0] a (aZ a bJ (g.b5 (b+1) a E a ?_ x x)));refine U.Y.2 ⟨?_,C⟩;rw[wt j,Nat.add_comm 1 b];simp
 have i:b+1=c d:=x;refine a6 [-66] a bw (g.bt a a ?_);rw[i,Nm];exact aZ a C (g.aC (X1 h d.flatten x (e _ x)) [0] a wJ)
def tn{b}(d:d9 b=m)(e)(g:e<c b):97<=dj b e/\dj b e<=122:=by have a:=List.all_eq_true.1 d (b.getD e 0) N;simp only[jq,cC,bA]at a;unfold dj;omega
def Uf(b)(e)(d:d9 b=m)(o:3<=e)(h:e<=c b)(l:c b<=4000000):Y q 309 [b0 b,R e] [] (bh (pT b e)) []:=by
 refine Y.K func309 rfl λj=>?_;have k:=tn d (e-1) x;have n:=tn d (e-2) x;have s:=tn d (e-3) x;have i:((kN b ((e:Int)-1)).toNat:Int)=dj b (e-1):=ug;have I:((kN b ((e:Int)-2)).toNat:Int)=dj b (e-2):=ug;have r:((kN b ((e:Int)-3)).toNat:Int)=dj b (e-3):=ug;refine aZ a ?_ (g.ar a ?_)
 .simp only[U,a7,i,I,r];omega
 exact Ov
def ad5:bM q 309 (eu eF c1 (λb a=>bh (pT b a.toNat)) λb a=>[d9 b=m,3<=a,a<=c b,c b<=4000000]):=.bn λb a h=>by
 obtain⟨e,i,j,g⟩:=h;obtain⟨d,rfl⟩:∃d:Nat,a=d:=⟨a.toNat,by omega⟩
 exact Uf b d e x x g
def yR{e i}(z)(j:s.op=.call {callee:=.builtin .min,args:=#[k,X],argTypes:=dn})(t:η k=R e)(q:η X=R i)(x:min e i=z)(r:a7 .i64 z):a0 T s η l (R z) l:=by refine .aW λA d y g=>?_;have b:=g k;have a:=g X;rw[t]at b;rw[q]at a;replace b:=b8 b;replace a:=b8 a;generalize h:d k=u at b;generalize n:d X=w at a;cases b;cases a;have o:(if i<e then i else e)=z:=N;exact⟨.int .i64 z,by simp[ac,j,resolve,invoke,builtin,h,n,Builtin.min_,Builtin.min2,o],.int r,by simp[ac,j,resolve,invoke,builtin,h,n,Builtin.min_,Builtin.min2]⟩
theorem To{o}{a}(e:c o<=a+3+u)(d:u<=5):lR o a (5-u)=min (a+8) (c o):=by
 rcases d6 u 5 with b|b
 .obtain⟨h,bT⟩:∃h,5-u=h+1:=⟨4-u,by omega⟩
  rw[bT];simp[lR];grind
 rw[show 5-u=0 by omega];rfl
def UH(o)(ae)(z:d9 o=m)(s:ae<=c o)(y:c o<=4000000):Y q 293 [b0 o,R ae] [] (R (eG o ae)) []:=by
 refine Y.K func293 rfl λt=>?_;have w:a9 q [(309,eu eF c1 (λi j=>bh (pT i j.toNat)) λi j=>[d9 i=m,3<=j,j<=c i,c i<=4000000])]:=.cons ad5 .nil;refine b_ w a bJ (g.b_ (λb=>b<=5/\lR o ae (5-b)=eG o ae) (λb:Nat=>[(0,b0 o),(1,R ae),(5,R (ae+3+b))]) (λ_=>[]) (λb=>5-b) 0 a E a C ⟨by omega,a⟩ ?_);rintro b ⟨u,e⟩;by_cases n:b<5/\ae+3+b<c o
 .obtain⟨h,bT⟩:∃h,5-b=h+1:=⟨4-b,by omega⟩
  have l:ae+(7-h)=ae+3+b:=x;rw[bT]at e;simp[lR,l]at e;rw[bl x]at e;have aj:((ae:Int)+3+b).toNat=ae+3+b:=x;cases r:pT o (ae+3+b)with
  |true=>
   rw[r,br a]at e;refine a8 w [11,16,22] a Rn (g.bS (bX.zero a ?_));exact bw
  |false=>
   rw[r,bl E]at e;refine a8 w [11,16,-22] a Rn (g.b5 (b+1) a ?_ a C ⟨by omega,by grind⟩ x);exact bw
 have aj:eG o ae=min (ae+8) (c o):=by
  rw[<-e];rcases d6 b 5 with k|k
  .grind [To]
  rw[show 5-b=0 by omega];rfl
 have d:a7 .i64 ((min (ae+8) (c o):Nat):Int):=bJ;rcases d6 b 5 with k|k
 .refine a8 w [11,-16] a ?_ (g.bt a a ?_)
  .simp only[U,a7,bA,dv];omega
  exact QD
 refine a8 w [-11] a ?_ (g.bt a a ?_)
 .simp only[U,a7,bA,dv];omega
 exact QD
def ad_:bM q 293 (eu eF c1 (λb a=>R (eG b a.toNat)) λb a=>[d9 b=m,0<=a,a<=c b,c b<=4000000]):=.bn λb a h=>by
 obtain⟨e,i,j,g⟩:=h;obtain⟨d,rfl⟩:∃d:Nat,a=d:=⟨a.toNat,by omega⟩
 exact UH b d e x g
abbrev He(a:bB):O:=.fn (.func 292) [] [.Q [.T a]]
theorem UJ(o):Y q 252 [b0 o] [] (aw (He o)) []:=by refine Y.K func252 rfl λb=>?_;refine gu [] 5 a C ?_;refine g.freeze 1 0 a a a ?_;exact aZ a C (g.ar a)
def UK{ad:Type}(text)(K:d9 text=m)(J:c text<=4000000){e}{d}{u}(r t s:ad->an)(w:Nat->ad->Prop)(h)(I:w 0 h)(aG:∀b,r b≠.bo/\t b≠.bo/\s b≠.bo)(k:∀i b,i<c text->w i b->iE (ι:={n:ad // w (eG text i) n}) q 3 [R i,R (eG text i)] [r b,t b,s b,.loop e d u] m (λn=>[r n.1,t n.1,s n.1,.loop e d u])):
  bk (ι:={b:ad // w (c text) b}) q 292 [.p (.R (.aV 3)),aw (.Q [.T text])] [r h,t h,s h,.loop e d u] (λ_=>.ae []) (λo=>[r o.1,t o.1,s o.1,.loop e d u]):=by
 refine bk.bR func292 rfl rfl rfl (g.aT ?_);have z:a9 q [(293,eu eF c1 (λy o=>R (eG y o.toNat)) λy o=>[d9 y=m,0<=o,o<=c y,c y<=4000000])]:=.cons ad_ .nil;refine b_ z a C ?_;show b2 q _ (.loop _) _ _ _;refine b2.loop (bq:=ad×Nat) (λl=>l.2<=c text/\w l.2 l.1) (λl=>[(0,.p (.R (.aV 3))),(1,aw (.Q [.T text])),(3,R l.2)]) (λl=>[r l.1,t l.1,s l.1,.loop e d u]) (λl=>c text-l.2) (h,0) ⟨g0 _,I⟩ (eH a E) a ?_;rintro⟨b,i⟩ ⟨F,A⟩;simp only at F A;refine g.aT ?_;by_cases B:i<c text
 .have j:=sY text i B;refine a8 z [8] a ds (g.yield (k i b B A) a a a a a a λn=>?_);refine a8 z [-16] a E ⟨(n.1,eG text i),⟨j.2.1,n.2⟩,?_,eH a E,a⟩;grind
 have D:i=c text:=x;subst D;refine a8 z [-8] a E (g.fL a a ?_);exact⟨⟨b,A⟩,.inr a,a,qQ (aG b).1 (qQ (aG b).2.1 (qQ (aG b).2.2 a)),[],.ae [],[],a,a,a,C⟩
def acy(t:s.op=.binOp op o k (.const (.pointer p)) ty){n}(B:P.underlying o=f (.pointer n)){r}{lt cu}{j i}(E:η k=.p (.R (.aV d)))(x:c9 d l=f (.J (eA W (.aw lt j i cu))))(y:η (.const (.pointer p))=aw .bb)(C:h_ op v=f r):a0 P s η l (aw (.bool r)) l:=by
 refine vZ t B (i:=v) ?_ C;intro b D F z h g;rw[E]at h;rw[y]at g;replace g:=b8 g;cases g;obtain⟨_,L,A,rfl,_⟩:=(h:cx l b D (.aV d));obtain⟨_,⟨i,_,_,_,_,u,_⟩,_⟩:=z.box d _ L (er x) A;rw[u];have w:(Op.equal o (.pointer (f ⟨i,0,p⟩)) (.pointer p)).run P b.a=.ok v b.a:=Fw
 have q:∀e,(Op.equal o (.pointer (f ⟨i,0,p⟩)) (.pointer p)).events P b.a e=e:=λe=>by show(aQ (9999+1) o _ _).events P b.a e=e;unfold aQ;simp[underlying,B]
 exact⟨_,p,a,a,a,by cases op<;>simp[eqGuard],λe=>by cases op<;>simp[eqGuard],w,q⟩
abbrev pn(a b:Int):y:=.p (.agg [.c (.int .i64 a),.c (.int .i64 b)])
abbrev mM:aq:=331
def za(h i)(d:dJ):∃a e g b,d.put h i=.aw a e g b:=by
 cases d with
 |nil=>exact⟨_,_,_,_,rfl⟩
 |aw a e g b=>
  simp only[dJ.put];split
  .grind
  split<;>exact⟨_,_,_,_,rfl⟩
def C4:∀(b:n Nat)a,a<0->b[a]?=f a:=λ_ a d=>absurd d x
def s_:∀a,a<1->([0]:n Nat)[a]?=f a:=λa b=>by grind
def yh(b i)(y:a7 .i64 b)(F:a7 .i64 i):∀o:dJ,Y q 272 [.p (.R (iu o 0)),pn b i] (hj mM o) (.p (.R (.aV 0))) [.J (eA mM (o.put b i))]
 |.nil=>by refine Y.K func272 rfl λJ=>?_;refine aZ a C (g.aN (rY a underlying267 a a a) a a ?_);refine aZ a C (g.cZ 4 1 0 0 (lt:=.nil) (cu:=.nil) a a (λt=>absurd a t) (λt=>absurd a t) (λt=>absurd a t) ?_);exact g.aM [1] a E (C4 _)
 |.aw lt j s cu=>by
  have n:=yh b i y F lt;have cd:=yh b i y F cu;obtain⟨I,e,h,B,x⟩:=za b i lt;obtain⟨ae,d,u,r,D⟩:=za b i cu;have w:(dJ.aw lt j s cu).put b i=if b<j then .aw (lt.put b i) j s cu else if j<b then .aw lt j s (cu.put b i)else .aw lt b i cu:=rfl;rw[w];rw[x]at n⊢;rw[D]at cd⊢;have k:a9 q [(272,la [.p (.R (iu lt 0)),pn b i] (hj mM lt) (.p (.R (.aV 0))) [.J (eA mM (.aw I e h B))])]:=.cons (ma n) .nil;have l:a9 q [(272,la [.p (.R (iu cu 0)),pn b i] (hj mM cu) (.p (.R (.aV 0))) [.J (eA mM (.aw ae d u r))])]:=.cons (ma cd) .nil;clear n cd w x D;refine Y.K func272 rfl λJ=>?_;refine aZ a C (g.aN (acy a underlying267 a a a a) a a ?_);refine aZ a C (g.gA 0 0 a a ?_);by_cases A:b<j
  .rw[br A];cases lt<;>cases cu<;>refine bf k [15] rfl bJ ?_
   .exact Qi
   .refine g.cZ 4 0 3 2 (lt:=.aw I e h B) (cu:=_) a a bm bm (λ_ _=>by decide) ?_;exact uc
   .exact Qi
   refine g.cZ 4 0 2 3 (lt:=.aw I e h B) (cu:=_) a a bm bm (λ_ _=>by decide) ?_;exact uc
  rw[bl A];by_cases z:j<b
  .rw[br z];cases lt<;>cases cu<;>refine bf l [-15,33] rfl bJ ?_
   .exact Rw
   .exact Rw
   .exact OS
   exact OS
  rw[bl z];cases lt<;>cases cu<;>refine bN [-15,-33] rfl bw ?_
  .refine g.cZ 4 0 9 9 (lt:=.nil) (cu:=.nil) a a (λt=>absurd a t) (λt=>absurd a t) (λt=>absurd a t) ?_;exact uc
  .refine g.cZ 4 0 9 2 (lt:=.nil) (cu:=_) a a (λt=>absurd a t) bm (λt=>absurd a t) ?_;exact uc
  .refine g.cZ 4 0 2 9 (lt:=_) (cu:=.nil) a a bm (λt=>absurd a t) (λ_ t=>absurd a t) ?_;exact uc
  refine g.cZ 4 0 2 3 (lt:=_) (cu:=_) a a bm bm (λ_ _=>by decide) ?_;exact uc
end
section
open Go.Proofs Go.Conc Go.Conc.Lib Go.ConcR.Gen
open Go.ConcN (WgLive PayAt Has RW AtR0)
open Go.ConcN.Gen
open Go.ConcR (KK WgAt stA smA rd wr mk Payload DC0)
def abC:DW=#[{dst:=p,op:=.defer {callee:=.value (.func 191),args:=#[.tmp 0],argTypes:=#[243]},type:=0,pos:= "l12_snap.go:81",after:=#[],guard:=p}]:=bL
def qk(a:Z):aL:={baseD 190 with defers:=[dcall 191 #[a]]}
abbrev EV(a b d e g h:Z):Array Z:=#[a,b,d,e,g,h,K,K,K,K,K,K,K]
def ads(v0 v1 v2 b v4 d)(j):Goes T v (λ_ _=>True) DC0 (λi _=>i=G ((qk v0).N ⟨EV v0 v1 v2 b v4 d,[]⟩ [.code (.region 1 vO m)]) [mw]) 8 (born T (rF #[v0,v1,v2,b,v4,d])) j:=by
  have e:True:=C;have g:True->True->True:=λ_ _=>trivial;refine Goes.step a (λw1 h=>?_);rw[SO];simp[goes_go];refine⟨⟨a,a⟩,?_⟩;clear h;rw[abC]
  u_c ax g e
  u_reg g e
  u_defer g e
  u_c aE g e
  exact Goes.stop λ_ _=>rfl
def TO(ad):QuitsD T 2 0 (G {(baseD 190).at ⟨ad,[]⟩ []with mode:=.returning} [mw]):=by
  have b:Tryz.f190.results=#[]:=bL;refine QuitsD.ctl (g':=G mw []) a (λd=>?_) ?_
  · simp[G,ar,unwind,doReturn,results,Frame.at,baseD,mw,Tryz.func190,b,seen,GStep.after,goexitEntry]
  refine QuitsD.ctl (g':={G mw []with status:=.finished}) rfl (λd=>?_) ⟨rfl,rfl⟩;simp[G,ar,unwind,mw,goexitEntry,Frame.catches];rfl
section
variable {M:hF}
def aeT(k)(i:M.aQ=2)(ad)(d)(b:WgLive 243 M.f d/\Has M.ag (M.aQ*k+1-1) (val k 0) d):
    ∃h,Goes T v (RW 243 M.f M.ag (2*j) 0 (M.aQ*k+1-1)) DC0 (AtR0 T 243 M.f M.ag (2*j) 0 (M.aQ*k+1) (val k 0)) h (G ((qk (.pointer (f ⟨M.f,0,p⟩))).N ⟨ad,[]⟩ [.inRegion mN.toArray []]) [mw]) d:=by
  refine⟨26,?_⟩;have g:(qk (.pointer (f ⟨M.f,0,p⟩))).N ⟨ad,[]⟩ [.inRegion mN.toArray []]=(baseD 190).at ⟨ad,[dcall 191 #[.pointer (f ⟨M.f,0,p⟩)]]⟩ [.inRegion mN.toArray []]:=rfl;rw[g]
  u_c aE kn_rely b
  u_c stepG_end kn_rely b
  u_in kn_rely b
  rw[stepG_unwind_enter (c:=body_done q5) a ww.f_done bL bL];simp[goes_go];refine⟨by u_nil,?_⟩;have e:=Tz (P:=T) (L:=q5) (bo:=M.f) (O:=M.ag) (j:=2*j) (m_:=0) (k:=M.aQ*k+1) (val:=val k 0) (r:={(baseD 190).at ⟨ad,[]⟩ []with mode:=.returning}) (ai:=[mw]) ww rfl (TO ad) _ b;exact e
def acw{d}(b:Rd bD aa (.T d)):aa=.string ⟨d.toArray⟩:=by
  cases b with
  |T a e=>rw[<-a]
def Ee{i}(a:Rd bD aa (.bool i)):aa=.bool i:=by cases a;rfl
def sv:ap:=gJ p (.store 245 (.tmp 12) (.tmp 11)) 0 #[⟨6,.data⟩,⟨5,.data⟩,⟨5,.chain⟩,⟨0,.phase⟩,⟨1,.phase⟩,⟨2,.phase⟩,⟨3,.phase⟩,⟨4,.phase⟩,⟨5,.phase⟩]
def SG{k}(ak:k<j)(Q:M.aQ=2){ab}{C}(O:val k 0=.string ⟨((dP h ab C).getD []).toArray⟩)(Z:val k 1=.bool (dP h ab C).isSome){ad}(E:bx [] b (ad.getD 12 K) (sh h ab C j k M.ag 6))(F:bx [] b (ad.getD 11 K) (x2 (dP h ab C))):
    uq T 243 M (2*j) val k (G ((qk (.pointer (f ⟨M.f,0,p⟩))).N ⟨ad,[]⟩ [.inRegion mN.toArray [7]]) [mw]) b:=by
  have E:=Rd.bp E;have F:ad.getD 11 K=.agg #[val k 0,val k 1]:=by
    obtain⟨A,ag,g⟩:=F
    match A,g with
    |[],g=>exact g.elim
    |[_],g=>exact g.2.elim
    |_::_::_::_,g=>exact g.2.2.elim
    |[ao,aq],g=>
      rw[ag,acw g.1,Ee g.2.1,O,Z]
  refine⟨a,λw1 aj r l=>?_⟩;obtain⟨d,t,ax⟩:=r;have ae:M.aQ*k=k*2:=N;have H:∀Y∈[val k 0,val k 1],Y.oneCell'=m:=by
    intro Y P;simp[fr,sF,or_false]at P;rcases P with rfl|rfl
    · rw[O];rfl
    · rw[Z];rfl
  have X:k*2+0+[val k 0,val k 1].length<=d.size:=N;have D:=run_storeCells_at T M.ag (k*2) 245 [val k 0,val k 1] 0 d w1 t X H;simp only[kf,fp,gC,cV]at D;generalize W:(d.toList.take (k*2)++[val k 0,val k 1]++d.toList.drop (k*2+2)).toArray=new at D;have aA:new.size=d.size:=N;have ar:=setRow_heap w1 M.ag d new 245 (0,0) t;have au:∀s,(w1.setRow M.ag new).cell? ⟨M.ag,s,p⟩=new[s]?:=λs=>cell_setRow_same w1 M.ag s d new 245 (0,0) t;have av:∀s,w1.cell? ⟨M.ag,s,p⟩=d[s]?:=λs=>by simp[aM,t]
  have az:∀e,e<2->new[k*2+e]?=f (val k e):=by
    intro e q;rw[<-W];have L:c (d.toList.take (k*2))=k*2:=N;rw[mt];simp[j9];rw[hr x,L]
    match e,q with
    |0,_=>simp
    |1,_=>simp
  have aw:∀s,(s<k*2∨k*2+2<=s)->new[s]?=d[s]?:=by
    intro s n;rw[<-W];have L:c (d.toList.take (k*2))=k*2:=N;rw[mt];simp only[j9];rcases n with n|n
    · grind
    · rw[hr x,L,hr N]
      simp only[fp,gC,qb];rw[show k*2+2+(s-k*2-(0+1+1))=s by omega];simp
  have R:(Value.agg #[val k 0,val k 1]).cells=#[val k 0,val k 1]:=rfl;have y:(ac (⟨ad,[]⟩:Act).eval sv).run T w1=.ok .skip (w1.setRow M.ag new):=by have J:(⟨ad,[]⟩:Act).eval (.tmp 12)=.pointer (f ⟨M.ag,k*2,p⟩):=E;have I:(⟨ad,[]⟩:Act).eval (.tmp 11)=.agg #[val k 0,val k 1]:=F;simp[ac,sv,gJ,J,I,Instr.storeAt,Instr.sureAddr,storeVar,(ba 245 qE a).bk,qE,R,D]
  have u:∀o∈(ac (⟨ad,[]⟩:Act).eval sv).events T w1 #[],∃z,z<2/\o=t1 M.ag (k*2+z):=by
    intro U u;have J:(⟨ad,[]⟩:Act).eval (.tmp 12)=.pointer (f ⟨M.ag,k*2,p⟩):=E;have I:(⟨ad,[]⟩:Act).eval (.tmp 11)=.agg #[val k 0,val k 1]:=F;have o:ac (⟨ad,[]⟩:Act).eval sv=(do storeVar 245 ⟨M.ag,k*2,p⟩ (.agg #[val k 0,val k 1]);pure .skip):=by simp[ac,sv,gJ,J,I,Instr.storeAt,Instr.sureAddr]
    rw[o]at u;have aa:U∈(storeCells ⟨M.ag,k*2,p⟩ [val k 0,val k 1]).events T w1 #[]:=by simp only[storeVar,aF,(ba 245 qE a).bk,qE,R,aK,events_sizeOf,d',dh,cI,c7,Sem.events_pure]at u;simpa[D]using u
    rcases nn [val k 0,val k 1] 0 d w1 #[] t X H U aa with aC|⟨z,_,ah,rfl⟩
    · grind
    grind
  have an:WgLive 243 M.f (w1.setRow M.ag new):=by
    obtain⟨B,S,V⟩:=l;refine⟨B,S,?_⟩;show(w1.setRow M.ag new).heap[M.f]?=_;rw[setRow_other w1 M.ag M.f new ?_]
    · exact V
    · intro o
      have g:w1.heap[M.f]?=f (Go.ConcR.wgBlock 243 B S):=V;rw[o,t]at g;simp[Go.ConcR.wgBlock]at g;exact absurd g.2 b9
  refine⟨_,w1.setRow M.ag new,_,Ms (i:=qk (.pointer (f ⟨M.f,0,p⟩))) (w:=⟨ad,[]⟩) (h:=[]) (aH:=mN.toArray) (e:=7) (bs:=[]) (s:=sv) a a (by simp[qk,baseD]) y,?_,?_,?_⟩
  · refine⟨rfl,rfl,rfl,by simp,λi aP=>setRow_other w1 M.ag i new aP,⟨new,ar,by grind⟩,λs n=>?_,λe q=>?_⟩
    · grind
    · rw[Q]at q
      rw[au,ae];grind
  · intro o ai
    obtain⟨z,ah,rfl⟩:=u o (Go.Conc.mem_seen ai);exact⟨k*2+z,a,by omega,by omega⟩
  · exact aeT k Q ad _ ⟨an,by show(w1.setRow M.ag new).cell? _=_;grind⟩
def aff(O:bM (ag.c9 T) 192 (nj h)){k}(B:k<j)(J:M.aQ=2){ab}{l}(N:val k 0=.string ⟨((dP h ab l).getD []).toArray⟩)(F:val k 1=.bool (dP h ab l).isSome)(D:bd [] b)(Y:b.t=[]){v1 v2 e v4 g}(u:Rd b.E v1 (.Q [.int .i64 h]))(s:Rd b.E v2 (.Q [.C v 2 (c ab) (a2.fn ab)]))(A:Rd b.E e (.Q [.int .i64 l]))(t:Rd b.E v4 (.Q [.val (.slice (f ⟨M.ag,0,p⟩) j j)]))(w:Rd b.E g (.Q [.int .i64 k])):
    dt (ag.c9 T) eL (uq T 243 M (2*j) val k) (born T (rF #[.pointer (f ⟨M.f,0,p⟩),v1,v2,e,v4,g])) b:=by
  refine dt.goes (q:=ag.c9 T) (df:=λ_ _=>True) (y:=DC0) (Stop:=λr _=>r=G ((qk (.pointer (f ⟨M.f,0,p⟩))).N ⟨EV (.pointer (f ⟨M.f,0,p⟩)) v1 v2 e v4 g,[]⟩ [.code (.region 1 vO m)]) [mw])
    (λi=>bd [] i/\i.E=b.E) (λi n d x=>⟨d.1.rely x,x.E.trans d.2⟩) (λ_ _ _ _=>trivial) ?_ (λi d=>cU.ev d.1.mem) ?_ 8 _ b ⟨D,rfl⟩ (ads _ _ _ _ _ _ _)
  · rintro i I d U ⟨rfl,rfl⟩
    exact⟨a,.inl (.aW d.1)⟩
  · rintro r i ⟨K,W⟩ rfl
    rw[abD];refine cc.toW (λ_ _ _ d=>d) ?_;refine(ae6 O ab l j k M.ag B (.pointer (f ⟨M.f,0,p⟩))).region bL (by simp[qk,baseD]) ⟨by simp[EV],⟨[],C⟩,λz=>?_⟩ a K λn E X o S Q R=>.stop ?_
    · rw[<-W]at u s A t w
      match z with
      |0=>exact Rd.val rfl
      |1=>exact u
      |2=>exact s
      |3=>exact A
      |4=>exact t
      |5=>exact w
      |z+6=>trivial
    · obtain⟨Z,V⟩:=E
      obtain rfl:V=[]:=S;exact SG B J N F (o 12) (o 11)
end
end
section
open Go.Proofs Go.Conc Go.Conc.Lib
open Go.ConcN (WgLive PayAt Has RW AtR0)
open Go.ConcR (KK WgAt stA smA rd wr mk Payload DC0)
def nu:Code->Code|.seq a _=>a|b=>b
def gV:Code->Code|.seq _ a=>a|b=>b
def G1:Code->Code|.block _ a=>a|b=>b
def aa1:Code->Code|.loop a=>a|b=>b
def DV:Code->Array ap|.region _ a _=>a|_=>#[]
noncomputable def rE:Code:=(Tryz.f160.body).getD .skip
noncomputable def ht:Code:=aa1 (G1 (gV (nu (gV (gV (gV rE))))))
noncomputable def HH:Code:=nu ht
noncomputable def BI:Code:=G1 (nu (gV (gV ht)))
noncomputable def HI:Code:=nu BI
noncomputable def pE:Array ap:=DV (nu (gV BI))
noncomputable def oQ:Array ap:=DV (gV (gV BI))
noncomputable def oi:Code:=gV (gV (gV ht))
noncomputable def lO:Code:=gV (gV (gV (gV rE)))
noncomputable def oR:Array ap:=DV (nu lO)
noncomputable def oj:Code:=gV lO
def Ht:ht=.seq HH (.seq (.cond (.tmp 21) .skip (.exit 0)) (.seq (.block 1 (.seq HI (.seq (.region 6 pE v) (.region 7 oQ v)))) oi)):=bL
def S7:lO=.seq (.region 9 oR v) oj:=bL
def uv(g:bI)(a:n an):fv:=λe b d=>e=.normal/\iD b g/\d=a
structure dZ(dQ:n an)(cG:a5)(F:bI)(l:n an)(w:Act)(b:a5):Prop where
 bX:bZ 45 l b F w
 ba:bd l b
 bE:dd dQ cG l b
section
variable {dQ:n an}{cG:a5}{F u:bI}{l aO:n an}{w:Act}{b:a5}
def dZ.rely(a:dZ dQ cG F l w b){e}(d:cU b e):dZ dQ cG F l w e:=⟨a.bX.rely d a.ba,a.ba.rely d,a.bE.trans d.aY⟩
structure nZ(i:Nat)(b:a5):Prop where
 own:¬b.own i
 t:∀L∈b.t,i∉L.al
 E:∀s,b.E i s=p
 lt:i<b.a.heap.size
def nZ.step{i}(d:nZ i cG)(a:dd dQ cG l b):nZ i b:=
 ⟨by rw[a.own];exact d.own,λL h g=>by
  rcases a.bW L h i g with e|⟨k,j,e⟩
  .have:=d.lt;omega
  .exact d.t k j e,λn=>by rw[a.bG i d.lt d.t];exact d.E n,eE d.lt a.size⟩
def dZ.eD{bo}(d:nZ bo cG):k2 bo (dZ dQ cG F l w):=
 ⟨λ_ _ a e=>a.rely e,λ_ a=>⟨l,a.ba⟩,λ_ a=>let b:=d.step a.bE;⟨b.own,b.t,b.E⟩⟩
variable {q:ag T}{bq:ak->a5->Prop}{i:aL}{h:n Item}{ai:n aL}
def dZ.ctl(h:dZ dQ cG F l w b){B a}(k:B.status=.running)(j:∀i,ar T q.b7 B i=.go a i #[])(g:∀d,dZ dQ cG F l w d->cc q bq a d):cc q bq B b:=
 .ctl h.ba k j λd e=>g d (h.rely e)
def dZ.code(g:dZ dQ cG F l w b)(j:i.kind≠.early){r}(z:b2 q 45 r (uv u aO) F l)(n:∀a d,dZ dQ cG u aO a d->cc q bq (G (i.N a h) ai) d):cc q bq (G (i.N w (.code r::h)) ai) b:=by refine z b w g.bX g.ba i h ai bq j ?_;rintro B s t o e ⟨rfl,k,rfl⟩ y A x;exact n e o ⟨y.le k,A,g.bE.trans x⟩
end
def cc.cV{bo}{W:a5->a5->Array aT->Prop}{A:ak->a5->Prop}{B}{b}(q:cc (ag.aG T 243 bo) A B b)(l:gO (λe=>e=bo) b)(i:WgLive 243 bo b.a):
  dt (ag.aG T 243 bo) W (λB b=>A B b/\WgLive 243 bo b.a) B b:=by
 induction q with
 |stop q=>exact⟨.leaf,q,i⟩
 |@step B b O z I w r s _ y=>
  refine .step w λk g=>?_;have D:=g.2 i;have o:gO (λe=>e=bo) k:=⟨λe d=>by rw[g.1.own];exact l.own e d,λe d=>by rw[g.1.t];exact l.t e d,λe d J=>by rw[g.1.E];exact l.E e d J,λe d=>eE (l.lt e d) g.1.size⟩
  obtain⟨⟨C,n,t,E,j⟩,F⟩:=s k g;refine⟨_,_,_,r k g,.inl ⟨⟨C,n,t,E,j⟩,F⟩,y k g (o.step j) ?_⟩;obtain⟨M,N,K⟩:=D;exact⟨M,N,by show(z k).a.heap[bo]?=_;rw[j.a6 bo (o.lt bo a) (o.t bo a)];exact K⟩
 |aU h _ y=>exact .aU h (y (l.aU h) (by rw[h.a];exact i))
 |b4 x _ _ _=>exact x.elim
 |dq u _ _=>exact u.elim
def nZ.clear{bo}{b}(e:nZ bo b):gO (λd=>d=bo) b:=⟨λd a=>a▸e.own,λd a=>a▸e.t,λd a=>a▸e.E,λd a=>a▸e.lt⟩
section
variable (h:Int)(ab:n cb)(bu:n Int)(O bo:Nat)
def ib(a:Nat):bI:=[(3,aw (.Q [.int .i64 h])),(4,aw (.Q [.C v 2 (c ab) (a2.fn ab)])),(8,aw (.Q [.val (.slice (f ⟨O,0,p⟩) (c bu) (c bu))])),(9,cM (.pointer (f ⟨bo,0,p⟩))),
 (18,aC.C bu),(19,R (c bu)),(20,R a)]
variable {h ab bu O bo}{q:ag T}{l:n an}
def Lf{e}(b:e<=c bu):b2 q 45 HH (uv ((21,bh (decide (e<c bu)))::ib h ab bu O bo e) l) (ib h ab bu O bo e) l:=by
 refine g.aT ?_;by_cases d:e<c bu
 .refine a6 [21] a bW ⟨a,eH a ?_,a⟩;exact bw
 refine a6 [-21] a bW ⟨a,eH a ?_,a⟩;exact bw
abbrev e6:n an:=[.M,.M,.M,.M,.M]
def abK{e}(b:e<c bu):b2 q 45 HI (uv ((10,aD 5 0)::(11,aD 6 0)::ib h ab bu O bo e) [.M,.M,.M,.M,.M,.cells 3 [.c (.int .i64 e)],.cells 3 [.c (.int .i64 (bu.getD e 0))]]) (ib h ab bu O bo e) e6:=by refine g.aT ?_;refine aZ a bW ⟨a,eH a E,?_⟩;grind
def abL{e}(b:e<c bu)(d:c bu<=4000000):b2 q 45 oi (uv (ib h ab bu O bo (e+1)) e6) (ib h ab bu O bo e) e6:=by refine g.aT ?_;refine aZ a bJ ⟨a,eH a ?_,a⟩;simp
variable {dQ:n an}{cG:a5}{bq:ak->a5->Prop}{i:aL}{eR:n Item}{ai:n aL}
abbrev iM:n an:=[.M,.M,.M,.M,.M,.M,.M]
variable (h ab bu O bo)in
abbrev kW(a:Nat):bI:=(11,aw (.Q [.int .i64 (bu.getD a 0)]))::(10,aw (.Q [.int .i64 a]))::ib h ab bu O bo a
noncomputable abbrev tk(a:n Item):n Item:=.code (.region 7 oQ v)::.inBlock 1::.code oi::.inLoop ht::.inBlock 0::a
def zn{P}{eS}{a:aL}{w}{h}{ai}{b}{r k X}(d:r=.seq k X):ar P eS (G (a.N w (.code r::h)) ai) b=.go (G (a.N w (.code k::.code X::h)) ai) b:=by grind[pM]
def toAdd{e}(j:e<c bu)(u:i.kind≠.early){w}{d:a5}(b:dZ dQ cG (ib h ab bu O bo e) e6 w d)(x:∀t l,dZ dQ cG (kW h ab bu O bo e) iM t l->cc q bq (G (i.N t (.inRegion pE [0]::tk eR)) ai) l):
  cc q bq (G (i.N w (.code ht::.inLoop ht::.inBlock 0::eR)) ai) d:=by
 refine b.ctl a (λg=>zn Ht) λd b=>?_;refine b.code u (Lf (Nat.le_of_lt j)) λw d b=>?_;refine b.ctl a (λg=>pM) λd b=>?_;have A:w.eval (.tmp 21)=.bool m:=by have:=b.bX.aK 21;simp only[j,lI]at this;exact Ee (b8 this)
 refine b.ctl a (λg=>zk A) λd b=>?_;refine b.ctl a (λg=>Mt) λd b=>?_;refine b.ctl a (λg=>pM) λd b=>?_;refine b.ctl a (λg=>zj) λd b=>?_;refine b.ctl a (λg=>pM) λd b=>?_;have b:dZ dQ cG (ib h ab bu O bo e) e6 w d:=⟨b.bX.le (eH a E),b.ba,b.bE⟩
 refine b.code u (abK j) λw d b=>?_;obtain⟨l,w1,z,k,o⟩:=bZ.freeze 10 5 (W:=3) (ai:=[.c (.int .i64 e)]) (gE:=[.int .i64 e]) rfl rfl rfl b.bX b.ba;refine .aU (.of b.ba k w1 (o.too' b.ba)) ?_;obtain⟨n,w2,y,r,s⟩:=bZ.freeze 11 6 (W:=3) (ai:=[.c (.int .i64 (bu.getD e 0))]) (gE:=[.int .i64 (bu.getD e 0)]) rfl rfl rfl z k;refine .aU (.of k r w2 (s.too' k)) ?_;have b:dZ dQ cG (kW h ab bu O bo e) iM w n:=⟨y.le (eH a E),r,b.bE.trans ((o.too' b.ba).trans (s.too' k))⟩
 refine b.ctl a (λg=>pM) λd b=>?_;refine b.ctl a (λg=>zm) λd b=>?_;exact x w d b
def rZ:ap:={dst:=f 25,op:=.call {callee:=.value (.func 189),args:=#[.tmp 9,.const (.int .i64 1)],argTypes:=#[243,3]},type:=0,pos:= "l12_snap.go:79",after:=#[],guard:=p}
theorem Lb:pE=#[rZ]:=bL
def TP{e}(r:i.kind≠.early){w}{b}(n:dZ dQ cG (kW h ab bu O bo e) iM w b)(j:∀d,dZ dQ cG (kW h ab bu O bo e) iM w d->cc q bq (G (Frame.enter T 189 #[.pointer (f ⟨bo,0,p⟩),.int .i64 1] .normal) (i.N w (.inRegion pE [0]::tk eR)::ai)) d):
  cc q bq (G (i.N w (.inRegion pE [0]::tk eR)) ai) b:=by
 refine .next a λd k=>?_;have g:=n.rely (q.bO k);have l:=Rd.bp (g.bX.aK 9);have o:(ac w.eval rZ).run T d.a=.ok (.enter 189 #[.pointer (f ⟨bo,0,p⟩),.int .i64 1]) d.a:=by have:=run_call_body (P:=T) (a:=w) (w:=d.a) (o:=rZ) (f:=189) (fn:=Tryz.f189) a Tryz.func189 bL bL;rw[this,<-l];simp only[List.map_toArray,mr,List.map_nil];rfl
 have t:(ac w.eval rZ).events T d.a #[]=#[]:=events_call_body (P:=T) (a:=w) (w:=d.a) (o:=rZ) (f:=189) (fn:=Tryz.f189) a Tryz.func189 bL bL #[];have u:listed T i.fn w rZ d.a=#[]:=by unfold listed;grind[seen_none]
 refine⟨_,d,#[],?_,.aW g.ba,j d g⟩;have:=tN (P:=T) (eS:=q.b7) (i:=i) (w:=w) (h:=tk eR) (ai:=ai) (J:=d.a) (aH:=pE) (e:=0) (bs:=[]) (s:=rZ) (by grind[Lb]) a r o;grind
def vI:ap:={dst:=f 26,op:=.makeFunc (.func 190) #[] #[.tmp 9,.tmp 3,.tmp 4,.tmp 11,.tmp 8,.tmp 10],type:=1,pos:= "l12_snap.go:80",after:=#[],guard:=p}
def pC:ap:={dst:=p,op:=.go {callee:=.value (.tmp 26),args:=#[],argTypes:=#[]},type:=0,pos:= "l12_snap.go:80",after:=#[⟨0,.data⟩],guard:=p}
theorem Lc:oQ=[vI,pC].toArray:=bL
variable (h ab bu O bo)in
abbrev sU(a:Nat):AM.O:=.fn (.func 190) [] [.val (.pointer (f ⟨bo,0,p⟩)),.Q [.int .i64 h],.Q [.C v 2 (c ab) (a2.fn ab)],.Q [.int .i64 (bu.getD a 0)],.Q [.val (.slice (f ⟨O,0,p⟩) (c bu) (c bu))],.Q [.int .i64 a]]
def abs{e}:aJ q 45 [vI,pC] vI ((25,.any)::kW h ab bu O bo e) iM (aw (sU h ab bu O bo e)) iM:=by have a:hB eU [] [] [vI,pC] ((25,.any)::kW h ab bu O bo e) iM vI=f (aw (sU h ab bu O bo e),p,[]):=rfl;exact dS ba a9.nil a C
def toGo{e}(x:i.kind≠.early){w}{b}(d:dZ dQ cG (kW h ab bu O bo e) iM w b)(o:∀aa l g,dZ dQ cG (kW h ab bu O bo e) iM l g->Rd g.E aa (sU h ab bu O bo e)->l.tmps.getD 26 K=aa->cc q bq (G (i.N l (.inRegion oQ [1]::.inBlock 1::.code oi::.inLoop ht::.inBlock 0::eR)) ai) g):
  cc q bq (G (i.N (w.put (f 25) (.tuple #[])) (.inRegion pE []::tk eR)) ai) b:=by
 have u:dZ dQ cG ((25,.any)::kW h ab bu O bo e) iM (w.put (f 25) (.tuple #[])) b:=⟨d.bX.put b9 C,d.ba,d.bE⟩
 refine u.ctl a (λy=>v_) λb d=>?_;refine d.ctl a (λy=>zm) λb d=>?_;rw[Lc];refine abs b _ d.bX d.ba i _ ai bq 0 [1] x a λaa g j r n=>?_;have j:=b8 j;have t:=((d.bX.mono n d.ba.len).put (I:=26) (aa:=aa) (k:=.any) b9 C)
 have s:26<(w.put (f 25) (.tuple #[])).tmps.size:=by rw[d.bX.size];decide
 refine o aa _ g ⟨t.le (eH a ?_),r,d.bE.trans n⟩ j (ach s);simp
def aeY{e}(k:e<c bu)(A:c bu<=4000000)(g:i.kind≠.early)(t:dQ.length<=5){w}{b}(d:dZ dQ cG (kW h ab bu O bo e) iM w b)(s:∀n o,dZ dQ cG (ib h ab bu O bo (e+1)) e6 n o->cc q bq (G (i.N n (.code ht::.inLoop ht::.inBlock 0::eR)) ai) o):
  cc q bq (G (i.N w (.inRegion oQ []::.inBlock 1::.code oi::.inLoop ht::.inBlock 0::eR)) ai) b:=by
 have j:bZ 45 (e6++[.M,.M]) b (ib h ab bu O bo e) w:=d.bX.le (eH a E);have l:=d.ba;have u:=d.bE;have z:eY b (b.cut (c e6)):=⟨rfl,λ_ _ _ d=>d,λ_ _ _=>rfl,l.mem,λi g=>g.imp id λ⟨L,y,g⟩=>⟨L,hh y,g⟩⟩
 refine .aU z ?_;have d:dZ dQ cG (ib h ab bu O bo e) e6 w (b.cut (c e6)):=⟨⟨j.size,j.defers.imp λ_ x=>x.drop a,λB=>(j.aK B).drop (vt a)⟩,l.drop a,u.drop t⟩
 refine d.ctl a (λr=>v_) λb d=>?_;refine d.ctl a (λr=>Mp) λb d=>?_;refine d.code g (abL k A) λw b d=>?_;exact d.ctl a (λr=>Mq) λb d=>s w b d
end
theorem rz{a:aL}(d:a.roundOf=p)(b)(o):a.N b o=a.at ⟨b.tmps,b.defers++a.defers⟩ o:=by cases a;simp only at d;subst d;rfl
section
variable {h:Int}{ab:n cb}{bu:n Int}{M:hF}{val:Nat->Nat->Z}{dQ:n an}{cG:a5}{i:aL}{eR:n Item}{ai:n aL}
def J1{w:Act}{J}{r g2 iK jL uY a}(d:w.tmps.getD 26 K=.func (.func 190) #[] #[r,g2,iK,jL,uY,a]):(ac w.eval pC).run T J=.ok (.spawn (rF #[r,g2,iK,jL,uY,a])) J/\(ac w.eval pC).events T J #[]=#[]:=by
 have b:w.eval (.tmp 26)=.func (.func 190) #[] #[r,g2,iK,jL,uY,a]:=d;constructor
 .simp[ac,pC,resolve,Deferred.ofValue,b,rF]
 simp[ac,pC,resolve,Deferred.ofValue,b]
def SF(Z:bM (ag.c9 T) 192 (nj h))(R:M.aQ=2)(r:i.roundOf=p)(ae:i.kind≠.early){e}(q:e<c bu)(U:val e 0=.string ⟨((dP h ab (bu.getD e 0)).getD []).toArray⟩)(E:val e 1=.bool (dP h ab (bu.getD e 0)).isSome){aa}{w}{b}(N:dZ dQ cG (kW h ab bu M.ag M.f e) iM w b)(z:WgLive 243 M.f b.a)(y:Rd b.E aa (sU h ab bu M.ag M.f e))(x:w.tmps.getD 26 K=aa){Next:ak->a5->Prop}(A:∀j,dZ dQ cG (kW h ab bu M.ag M.f e) iM w j->WgLive 243 M.f j.a->Next (G (i.N w (.inRegion oQ []::.inBlock 1::.code oi::.inLoop ht::.inBlock 0::eR)) ai) j):
  wT T 243 M (2*c bu) val e Next (G (i.N w (.inRegion oQ [1]::.inBlock 1::.code oi::.inLoop ht::.inBlock 0::eR)) ai) b:=by
 refine⟨a,λj n=>?_⟩;have u:=N.rely n.1;have V:Rd j.E aa (sU h ab bu M.ag M.f e):=by rw[n.1.E];exact y
 cases V with
 |fn D o l k C d F I Y g=>
 have S:=jF l;subst S;have O:o=[d 0,d 1,d 2,d 3,d 4,d 5]:=by
  apply qg;intro t;have k:=k
  match t with
  |0=>grind
  |1=>grind
  |2=>grind
  |3=>grind
  |4=>grind
  |5=>grind
  |t+6=>grind
 subst O;have ad:=Rd.bp (g 0 _ a);obtain⟨Q,W⟩:=J1 (w:=w) (J:=j.a) x;have B:Go.Conc.listed T i.fn ⟨w.tmps,w.defers++i.defers⟩ pC j.a=#[]:=by unfold Go.Conc.listed;have:=(J1 (w:=⟨w.tmps,w.defers++i.defers⟩) (J:=j.a) x).2;grind[seen_none]
 have X:=stepG_spawn (P:=T) (main:=m) (b:=i) (a:=⟨w.tmps,w.defers++i.defers⟩) (k:=.inBlock 1::.code oi::.inLoop ht::.inBlock 0::eR) (cs:=ai) (w:=j.a) (ops:=oQ) (i:=1) (rest:=[]) (o:=pC) (by grind[Lc]) a ae Q a;refine⟨G (i.N w (.inRegion oQ []::.inBlock 1::.code oi::.inLoop ht::.inBlock 0::eR)) ai,born T (rF #[d 0,d 1,d 2,d 3,d 4,d 5]),?_,a,?_,A j u (n.2 z)⟩
 .rw[rz r,rz r,X,B];rfl
 rw[ad];exact aff Z q R U E (b:=j.dy) ⟨u.ba.mem,a,by simp,by simp[a5.dy],by simp[a5.dy],by simp[a5.dy]⟩ a (g 1 _ a) (g 2 _ a) (g 3 _ a) (g 4 _ a) (g 5 _ a)
def r1:ap:={dst:=f 28,op:=.call {callee:=.value (.func 193),args:=#[.tmp 9],argTypes:=#[243]},type:=0,pos:= "l12_snap.go:85",after:=#[],guard:=p}
theorem Ld:oR=#[r1]:=bL
variable {q:ag T}{bq:ak->a5->Prop}
def aeZ(l:i.kind≠.early){O bo}{w}{b}(d:dZ dQ cG (ib h ab bu O bo (c bu)) e6 w b)(n:∀k g,dZ dQ cG (ib h ab bu O bo (c bu)) e6 k g->cc q bq (G (Frame.enter T 193 #[.pointer (f ⟨bo,0,p⟩)] .normal) (i.N k (.inRegion oR [0]::.code oj::eR)::ai)) g):
  cc q bq (G (i.N w (.code ht::.inLoop ht::.inBlock 0::.code lO::eR)) ai) b:=by
 refine d.ctl a (λJ=>zn Ht) λb d=>?_;refine d.code l (Lf (bE _)) λw b d=>?_;refine d.ctl a (λJ=>pM) λb d=>?_;have u:w.eval (.tmp 21)=.bool v:=by have:=d.bX.aK 21;simp only[xd,n_]at this;exact Ee (b8 this)
 refine d.ctl a (λJ=>zk u) λb d=>?_;refine d.ctl a (λJ=>Mo (gb:=.code lO::eR) a) λb d=>?_;refine d.ctl a (λJ=>zn S7) λb d=>?_;refine d.ctl a (λJ=>zm) λb d=>?_;have d:dZ dQ cG (ib h ab bu O bo (c bu)) e6 w b:=⟨d.bX.le (eH a E),d.ba,d.bE⟩
 refine .next a λg o=>?_;have j:=d.rely (q.bO o);have x:w.eval (.tmp 9)=.pointer (f ⟨bo,0,p⟩):=Rd.bp (j.bX.aK 9);have t:(ac w.eval r1).run T g.a=.ok (.enter 193 #[.pointer (f ⟨bo,0,p⟩)]) g.a:=by have:=run_call_body (P:=T) (a:=w) (w:=g.a) (o:=r1) (f:=193) (fn:=Tryz.f193) a Tryz.func193 bL bL;grind
 have y:(ac w.eval r1).events T g.a #[]=#[]:=events_call_body (P:=T) (a:=w) (w:=g.a) (o:=r1) (f:=193) (fn:=Tryz.f193) a Tryz.func193 bL bL #[];have r:Go.Conc.listed T i.fn w r1 g.a=#[]:=by unfold Go.Conc.listed;grind[seen_none]
 refine⟨_,g,#[],?_,.aW j.ba,n w g j⟩;have:=tN (P:=T) (eS:=q.b7) (i:=i) (w:=w) (h:=.code oj::eR) (ai:=ai) (J:=g.a) (aH:=oR) (e:=0) (bs:=[]) (s:=r1) (by grind[Ld]) a l t;rw[r]at this;exact this
section
variable (h ab bu M dQ cG i eR ai)
def wR(b:ak)(d:a5):Prop:=∃a,wS T q5 M (dZ dQ cG (ib h ab bu M.ag M.f (c bu)) e6 a) (i.N a (.inRegion oR [0]::.code oj::eR)) ai b d
def Gj(b:ak)(d:a5):Prop:=∃a,fo T q5 M (dZ dQ cG (ib h ab bu M.ag M.f (c bu)) e6 a) (G (i.N (a.put (f 28) (.tuple #[])) (.inRegion oR []::.code oj::eR)) ai) b d
end
def Su(j:nZ M.f cG)(e:i.roundOf=p){B}{b}(d:wR h ab bu M dQ cG i eR ai B b):
  dt (ag.aG T 243 M.f) (dV M.f) (rh T 243 M (Gj h ab bu M dQ cG i eR ai) (wR h ab bu M dQ cG i eR ai)) B b:=by
 obtain⟨a,d⟩:=d;have k:(oR[0]?).bind (·.dst)=f 28:=by rw[Ld];rfl
 rw[rz e]at d;refine Sv (P:=T) (L:=q5) (hJ:=i) (hI:=⟨a.tmps,a.defers++i.defers⟩) (gd:=oR) (hO:=0) (hT:=[]) (hQ:=.code oj::eR) (ai:=ai) ww (dZ.eD j) (λB b g=>⟨a,?_⟩) (λB b l=>⟨a,?_⟩) d
 .rw[rz e];rw[k]at g;exact g
 grind[rz]
def adl{P}{ty}{D j}{g:ak->a5->Prop}:∀h{a:ak}{b:a5},dt (ag.aG P ty M.f) (dV M.f) (λa b=>o9 P ty M D val j g h a b) a b->o9 P ty M D val j g h a b
 |0,_,_,d=>dt.bind d λ_ _ e=>e
 |_+1,_,_,d=>dt.bind d λ_ _ e=>e
def adk(R:bM (ag.c9 T) 192 (nj h))(J:M.aQ=2)(s:nZ M.f cG)(w:i.roundOf=p)(r:i.kind≠.early)(F:dQ.length<=5)(H:c bu<=4000000)(O:∀d,d<c bu->val d 0=.string ⟨((dP h ab (bu.getD d 0)).getD []).toArray⟩)(I:∀d,d<c bu->val d 1=.bool (dP h ab (bu.getD d 0)).isSome):
  ∀n,n<=c bu->∀a b,dZ dQ cG (ib h ab bu M.ag M.f (c bu-n)) e6 a b->WgLive 243 M.f b.a ->
   o9 T 243 M (2*c bu) val (c bu) (wR h ab bu M dQ cG i eR ai) n (G (i.N a (.code ht::.inLoop ht::.inBlock 0::.code lO::eR)) ai) b:=by
 intro n;induction n with
 |zero=>
  intro _ a b e k;rw[sE]at e;have:=cc.cV (W:=dV M.f) (aeZ (q:=ag.aG T 243 M.f) (eR:=eR) (ai:=ai) (bq:=λj b=>∃a,j=G (Frame.enter T 193 #[.pointer (f ⟨M.f,0,p⟩)] .normal) (i.N a (.inRegion oR [0]::.code oj::eR)::ai)/\dZ dQ cG (ib h ab bu M.ag M.f (c bu)) e6 a b) r e λo u l=>.stop ⟨o,rfl,l⟩) (s.step e.bE).clear k;refine dt.bind this ?_;rintro j b ⟨⟨a,rfl,e⟩,k⟩;exact ae_ (P:=T) (L:=q5) (M:=M) ww (dZ.eD s) (λj b y=>⟨a,y⟩) ⟨e,k⟩
 |succ n E=>
  intro U a b e k;have g:c bu-(n+1)<c bu:=x;generalize S:c bu-(n+1)=d at e g;have:=cc.cV (W:=dV M.f) (toAdd (q:=ag.aG T 243 M.f) (eR:=.code lO::eR) (ai:=ai) (bq:=λj b=>∃a,j=G (Frame.enter T 189 #[.pointer (f ⟨M.f,0,p⟩),.int .i64 1] .normal) (i.N a (.inRegion pE [0]::tk (.code lO::eR))::ai)/\dZ dQ cG (kW h ab bu M.ag M.f d) iM a b) g r e λo u l=>TP r l λN A=>.stop ⟨o,rfl,A⟩) (s.step e.bE).clear k;refine dt.bind this ?_;rintro j b ⟨⟨a,rfl,e⟩,k⟩;have D:(pE[0]?).bind (·.dst)=f 25:=by rw[Lb];rfl
  rw[rz w];refine Sn (P:=T) (L:=q5) (M:=M) (ed:=dZ dQ cG (kW h ab bu M.ag M.f d) iM a) ww (dZ.eD s) (λb B=>?_) ⟨e,k⟩;rw[D];have:=cc.cV (W:=dV M.f) (toGo (q:=ag.aG T 243 M.f) (eR:=.code lO::eR) (ai:=ai) (bq:=λj b=>∃t a,j=G (i.N a (.inRegion oQ [1]::.inBlock 1::.code oi::.inLoop ht::.inBlock 0::.code lO::eR)) ai/\dZ dQ cG (kW h ab bu M.ag M.f d) iM a b/\Rd b.E t (sU h ab bu M.ag M.f d)/\a.tmps.getD 26 K=t) r B.1 λt o u l C z=>.stop ⟨t,o,rfl,l,C,z⟩) (s.step B.1.bE).clear B.2;rw[rz w]at this;refine dt.bind this ?_;rintro j b ⟨⟨t,a,rfl,e,C,z⟩,k⟩;rw[S];refine⟨.leaf,SF R J w r g (O d g) (I d g) e k C z λu l Q=>?_⟩;refine adl n ?_;have:=cc.cV (W:=dV M.f) (aeY (q:=ag.aG T 243 M.f) (eR:=.code lO::eR) (ai:=ai) (bq:=λj b=>∃a,j=G (i.N a (.code ht::.inLoop ht::.inBlock 0::.code lO::eR)) ai/\dZ dQ cG (ib h ab bu M.ag M.f (d+1)) e6 a b) g H r F l λo u l=>.stop ⟨o,rfl,l⟩) (s.step l.bE).clear Q;refine dt.bind this ?_;rintro j b ⟨⟨a,rfl,e⟩,k⟩;refine⟨.leaf,E x a b ?_ k⟩;grind
end
end
section
variable {q:ag T}[q.b8]
def SW(o):∀b,b<c o->c (bC.fn o b)=2/\∀e∈bC.fn o b,nw e=m:=by intro b _;refine⟨a,λe d=>?_⟩;simp only[c0.fn,gv,bC,fr,sF,or_false]at d;rcases d with rfl|rfl<;>rfl
abbrev m7(b:n cZ)(a:n Z):Prop:=ek 2 (c b) (bC.fn b) a
abbrev Bc(a:fl)(d:Nat)(b:n Z):an:=.J (cm 53 2 a d b)
abbrev aen(a:fl)(d:Nat)(b:Bool):y:=.ae [.R (.v (cY a d)),.R (.c (.bool b))]
def Yd(o)(a k):bk (ι:={b:fl×n Z // m7 (jz o a k).1 b.2}) q 71 [bC.C o,b0 a,b0 k] [] (λb=>aen b.1.1 (jz o a k).1.length (jz o a k).2) (λb=>[Bc b.1.1 (jz o a k).1.length b.1.2]):=
 (Jx o a k).thaw func71 rfl (by simp[DP,vM,vL,r2,nv,nw]) (SW _)
def ek.nil{h}:ek h 0 V []:=⟨by simp,λb a=>by omega,λb a=>by omega⟩
def acb{o}{d k}(a:(jz o d k).2=m):(jz o d k).1.length<=6:=by
 unfold jz at a⊢;split at a
 .rename_i i;rw[br i];split at a
  .rename_i b;rw[br b];exact No b
  grind
 grind
def Sz(b:s.op=.call {callee:=.builtin .append,args:=#[k,X],argTypes:=#[36,36]}):j6 T s k X 53 qF:=
 ⟨⟨36,36,Dj,Dj,b,(ba _ _ a),rfl,(ba _ _ a),rfl⟩,(ba _ _ a),by decide,by decide⟩
def L5{b}(d:c b<=9223372036854775807):Rd bD (jj b) (.T b):=Rd.T a d
def m7.gE{o}{ah}(n:m7 o ah)(b k)(i:c b<=9223372036854775807)(j:c k<=9223372036854775807):m7 (o++[(b,k)]) (ah++[jj b,jj k]):=by
 unfold m7;rw[dm];refine ek.gE n (λr e=>?_) a a λg q d=>?_
 .simp[c0.fn,gv,al,kH e]
 have l:bC.fn (o++[(b,k)]) (c o)=[.T b,.T k]:=by simp[c0.fn,gv,bC]
 rw[l]at d;rcases g with _|_|g
 .simp at d;subst d;exact⟨jj b,a,λh=>L5 i⟩
 .simp at d;subst d;exact⟨jj k,a,λh=>L5 j⟩
 grind
def m7.jT{o}{ah}(l:m7 o ah)(e)(b:e<c o)(k)(i:nb A [.c (.T k)]):m7 (o.set e ((o.getD e bC.I).1,k)) (ah.take (e*2+1)++A++ah.drop (e*2+1+c A)):=by
 unfold m7;rw[rq];refine ek.fl l e 1 b i (bE _) (λr q g=>?_) a λd n h=>?_
 .simp[c0.fn,gv,al,qf g]
 have j:bC.fn (o.set e ((o.getD e bC.I).1,k)) e=[.T (o.getD e bC.I).1,.T k]:=by simp[c0.fn,gv,bC,al,b]
 rw[j]at h;rcases d with _|_|d
 .right;exact bJ
 .grind
 grind
structure uA(h r:Nat) where
 d':n cZ
 gL:fl
 h8:n Z
 k1:Nat
 iW:m7 d' h8
 km:c d'<=7
 jb:h<=k1
 j7:k1<=h+r
set_option maxRecDepth 20000 in
def X'(z)(i:Nat->Int)(t:Bytes i)(h)(ag:h<=50000)(w:z<=1048576):
  bk (ι:=uA h 400) q 40 [aD 0 0] [ej z i h] (λl=>cM (cY l.gL (c l.d'))) (λl=>[ej z i l.k1,Bc l.gL (c l.d') l.h8]):=by
 refine bk.cy func40 rfl rfl rfl λH=>?_;refine gu [] 9 a C (g.jA 3 53 2 a λW=>?_);refine aZ a C (g.a8 (hM z i t h 6 x w x) [0] a bm ?_);rintro⟨D,ak,an⟩;refine aZ a C (g.aE 2 (λb:Nat×n cZ×fl×n Z×Nat=>b.1<=5/\m7 b.2.1 b.2.2.2.1/\c b.2.1<=6/\h<=b.2.2.2.2/\b.2.2.2.2+70*b.1<=h+351) (λb=>[(0,aD 0 0),(4,R b.1),(3,cM (cY b.2.2.1 (c b.2.1)))]) (λb=>[ej z i b.2.2.2.2,Bc b.2.2.1 (c b.2.1) b.2.2.2.1]) (λb=>b.1) (D.toNat,[],W,[],h+1) a bW a E a ⟨by omega,ek.nil,by simp,by simp,by grind⟩ ?_);rintro⟨j,e,bP,ah,k1⟩ ⟨Y,o,ad,G,aa⟩;simp only at Y o ad G aa;by_cases P:0<j
 .refine a6 [11] a (by simp[P]) (g.a8 (Jh z i t k1 x w) [0] a bm ?_);rintro⟨k,ab⟩;refine aZ a C (g.a8 (X9 z i t (k1+1+1) x w) [0] a bm ?_);rintro⟨⟨M,S⟩,ae,aq,ai⟩;simp only at ae aq ai;refine aZ a C (g.iB (Yd e k M) 1 0 a a a a (cm.fM a (bC.fn e) o.rd) a E a bm bm a ?_);rintro⟨⟨F,B⟩,T⟩;simp only at T⊢;cases y:(jz e k M).2 with
  |true=>
   have O:=acb y;generalize(jz e k M).1=K at T O⊢;refine gu [] 6 a C (g.swap 1 2 b9 a a (λD I J=>J.1) (λD I J=>J.1) ?_);refine a6 [23] a nU (g.ax (j-1,K,F,B,S) a bW E N ?_);grind
  |false=>
   refine a6 [-23] a bJ (g.ax (j-1,e,bP,ah,S) a bW E N ?_);grind
 obtain rfl:j=0:=x;refine a6 [-11] a E (g.aB ?_);refine aZ a C (g.a8 (hM z i t k1 40 x w x) [0] a bm ?_);rintro⟨V,aP,av⟩;by_cases L:V=0
 .refine a6 [27] a (by simp[L]) (g.a8 (Jh z i t (k1+1) x w) [0] a bm ?_);rintro⟨k,ab⟩;refine aZ a C (g.fx (d:=1) (bP:=bP) (ah:=ah) (j:=c e) (hZ:=[jj k,jj [97]]) (Sz a) a a a a a a a a (λau D az r aw ax=>?_) (by show _*32<=_;omega) λF=>?_)
  .grind [EG]
  refine aZ a C (g.bL ⟨e++[(k,[97])],F,ah++[jj k,jj [97]],k1+1+1+1,o.gE k [97] x b9,by grind,by omega,by omega⟩ (g.aM [0,1] a E ?_ (r:=nX)));grind
 by_cases ar:V=1
 .by_cases Q:0<c e
  .refine g.fE (cm.len (d:=1) a) λao=>?_;obtain⟨X,s,rfl⟩:=ao.2.2.1 Q;refine a6 [-27,35,39] a bw (g.eQ ba 1 a a a a a a a N a a λA u=>?_);have aj:=o.jT 0 Q [65] u;refine aZ a C (g.bL ⟨e.set 0 ((e.getD 0 bC.I).1,[65]),.row X s,_,k1+1,aj,by grind,by omega,by omega⟩ (g.aM [0,1] a E ?_ (r:=nX)));grind
  cases bP;all_goals
   refine a6 [-27,35,-39] a ?_ (g.bL ⟨e,_,ah,k1+1,o,by omega,by omega,by omega⟩ (g.aM [0,1] a ?_ ?_))
   .simp[Q,ar]<;>omega
   .simp
   grind
 refine a6 [-27,-35] a bw (g.bL ⟨e,bP,ah,k1+1,o,by omega,by omega,by omega⟩ (g.aM [0,1] a E ?_));grind
def Ya(z)(b:Nat->Int)(g:Bytes b)(h)(d:h<=50000)(e:z<=1048576):
  bk (ι:=uA h 400) q 40 [aD 0 0] [ej z b h] (λa=>bC.C a.d') (λa=>[ej z b a.k1]):=
 bk.e3 (aO:=λa:uA h 400=>[ej z b a.k1]) (h:=2) (j:=λa:uA h 400=>c a.d') (V:=λa:uA h 400=>bC.fn a.d') (X' z b g h d e) (λa=>a.iW) bm (λ_=>bE _)
end
section
open Go.Proofs Go.Extern
abbrev f_:aq:=184
abbrev dU:aq:=182
abbrev pS:aq:=275
abbrev aV(a:aq):Z:=.pointer (f ⟨6,a,p⟩)
abbrev mR(a:aq):Z:=.iface pS (.agg #[aV a])
abbrev kC(d:aq)(b:Nat)(a:Int):Z:=.agg #[aV d,.pointer (f ⟨b,0,p⟩),.int .u64 a]
def NO:jB T 179 λargs=>ReflectliteValue.unpack (args.getD 0 (.tuple #[])):=⟨_,Tryz.func179,by kernel_rfl,by kernel_rfl,by kernel_rfl,by kernel_rfl⟩
def acv(b)(a):(ReflectliteValue.unpack (.iface f_ (.pointer (f b)))).run T a=.ok (kC f_ a.heap.size 150) (a.alloc (.cells #[.pointer (f b)] f_)):=bL
def TM(a)(b)(V):(ReflectliteValue.unpack (.iface f_ (.pointer (f a)))).events T b V=V:=bL
def acu(b)(a):(ReflectliteValue.unpack (.iface dU (.pointer (f b)))).run T a=.ok (kC dU a.heap.size 150) (a.alloc (.cells #[.pointer (f b)] dU)):=bL
def TL(a)(b)(V):(ReflectliteValue.unpack (.iface dU (.pointer (f a)))).events T b V=V:=bL
def afx:jB T 180 (ReflectliteValue.methodAny (ReflectliteValue.valueError "reflectlite.Value.Type" 0) λa _ _ _=>ReflectliteType.toType a):=⟨_,Tryz.func180,by kernel_rfl,by kernel_rfl,by kernel_rfl,by kernel_rfl⟩
def acr(B)(a):(ReflectliteValue.methodAny (ReflectliteValue.valueError "reflectlite.Value.Type" 0) (λb _ _ _=>ReflectliteType.toType b) #[kC f_ B 150]).run T a=.ok (mR f_) a:=bL
def TJ(B)(b)(V):(ReflectliteValue.methodAny (ReflectliteValue.valueError "reflectlite.Value.Type" 0) (λa _ _ _=>ReflectliteType.toType a) #[kC f_ B 150]).events T b V=V:=bL
def KH(b)(d):(Go.method (Tryz.prog.types.size+Made.depth) pS (.agg #[b]) "Kind").run T d=.ok (341,b) d/\∀a,(Go.method (Tryz.prog.types.size+Made.depth) pS (.agg #[b]) "Kind").events T d a=a:=⟨by kernel_rfl,λa=>by kernel_rfl⟩
def NN:jB T 341 (ReflectliteType.abiMethod λa=>do pure (.int .u8 (<-Rtype.kind a))):=⟨_,Tryz.func341,by kernel_rfl,by kernel_rfl,by kernel_rfl,by kernel_rfl⟩
def aco(a):((ReflectliteType.abiMethod λb=>do pure (.int .u8 (<-Rtype.kind b))) #[aV f_]).run T a=.ok (.int .u8 22) a:=bL
def TI(b)(V):((ReflectliteType.abiMethod λa=>do pure (.int .u8 (<-Rtype.kind a))) #[aV f_]).events T b V=V:=bL
def acn(a):((ReflectliteType.abiMethod λb=>do pure (.int .u8 (<-Rtype.kind b))) #[aV dU]).run T a=.ok (.int .u8 22) a:=bL
def TH(b)(V):((ReflectliteType.abiMethod λa=>do pure (.int .u8 (<-Rtype.kind a))) #[aV dU]).events T b V=V:=bL
def afs:jB T 181 (ReflectliteValue.method (ReflectliteValue.valueError "reflectlite.Value.IsNil" 0) ReflectliteValue.isNil):=⟨_,Tryz.func181,by kernel_rfl,by kernel_rfl,by kernel_rfl,by kernel_rfl⟩
def Ma(d)(b:aq->Addr->Nat->Nat->Sem Z)(aa):ReflectliteValue.method d b #[aa]=(do match<-ReflectliteValue.parts aa with|none=>d|some (g,e,a)=>b g e a (a % 32)):=rfl
def tD(B)(b):(ReflectliteValue.parts (kC f_ B 150)).run T b=.ok (f (f_,⟨B,0,p⟩,150)) b/\∀a,(ReflectliteValue.parts (kC f_ B 150)).events T b a=a:=⟨by kernel_rfl,λa=>by kernel_rfl⟩
def acm(B)(i)(b)(g:b.cell? ⟨B,0,p⟩=f (.pointer (f i))):(ReflectliteValue.method (ReflectliteValue.valueError "reflectlite.Value.IsNil" 0) ReflectliteValue.isNil #[kC f_ B 150]).run T b=.ok (.bool v) b /\
  ∀a,∀d∈(ReflectliteValue.method (ReflectliteValue.valueError "reflectlite.Value.IsNil" 0) ReflectliteValue.isNil #[kC f_ B 150]).events T b a,d∈a∨d=⟨.cell ⟨B,0,p⟩,v,v⟩:=by
 have h:=Tryz.underlying184;rw[Ma];constructor
 .simp only[cI,(tD B b).1,c7];simp[ReflectliteValue.isNil,loadVar,isAgg,underlying,h,g]
 intro a d e;simp only[aF,cI,(tD B b).1,(tD B b).2,c7,aK]at e;simpa[ReflectliteValue.isNil,loadVar,isAgg,underlying,h,g,show(Mode.plain==Mode.atomic)=v from rfl]using e
def aa5(b)(d):(Go.method (Tryz.prog.types.size+Made.depth) pS (.agg #[b]) "Elem").run T d=.ok (357,.agg #[b]) d/\∀a,(Go.method (Tryz.prog.types.size+Made.depth) pS (.agg #[b]) "Elem").events T d a=a:=⟨by kernel_rfl,λa=>by kernel_rfl⟩
def afo:jB T 357 (ReflectliteType.method ReflectliteType.elem):=⟨_,Tryz.func357,by kernel_rfl,by kernel_rfl,by kernel_rfl,by kernel_rfl⟩
def acj(a):(ReflectliteType.method ReflectliteType.elem #[.agg #[aV f_]]).run T a=.ok (mR dU) a:=bL
def TE(a)(V):(ReflectliteType.method ReflectliteType.elem #[.agg #[aV f_]]).events T a V=V:=bL
def aa6(b)(d):(Go.method (Tryz.prog.types.size+Made.depth) pS (.agg #[b]) "Implements").run T d=.ok (358,.agg #[b]) d/\∀a,(Go.method (Tryz.prog.types.size+Made.depth) pS (.agg #[b]) "Implements").events T d a=a:=⟨by kernel_rfl,λa=>by kernel_rfl⟩
def afr:jB T 358 (ReflectliteType.relation "Implements" ReflectliteType.implements_):=⟨_,Tryz.func358,by kernel_rfl,by kernel_rfl,by kernel_rfl,by kernel_rfl⟩
def acl(a):(ReflectliteType.relation "Implements" ReflectliteType.implements_ #[.agg #[aV dU],mR 179]).run T a=.ok (.bool m) a:=bL
def TG(a)(V):(ReflectliteType.relation "Implements" ReflectliteType.implements_ #[.agg #[aV dU],mR 179]).events T a V=V:=bL
def aa4(b)(d):(Go.method (Tryz.prog.types.size+Made.depth) pS (.agg #[b]) "AssignableTo").run T d=.ok (355,.agg #[b]) d/\∀a,(Go.method (Tryz.prog.types.size+Made.depth) pS (.agg #[b]) "AssignableTo").events T d a=a:=⟨by kernel_rfl,λa=>by kernel_rfl⟩
def afj:jB T 355 (ReflectliteType.relation "AssignableTo" ReflectliteType.assignableTo):=⟨_,Tryz.func355,by kernel_rfl,by kernel_rfl,by kernel_rfl,by kernel_rfl⟩
def aci(a):(ReflectliteType.relation "AssignableTo" ReflectliteType.assignableTo #[.agg #[aV dU],mR dU]).run T a=.ok (.bool m) a:=bL
def TD(a)(V):(ReflectliteType.relation "AssignableTo" ReflectliteType.assignableTo #[.agg #[aV dU],mR dU]).events T a V=V:=bL
def afy:jB T 222 ReflectliteType.typeOf:=⟨_,Tryz.func222,by kernel_rfl,by kernel_rfl,by kernel_rfl,by kernel_rfl⟩
def acs(aa)(a):(ReflectliteType.typeOf #[.iface dU aa]).run T a=.ok (mR dU) a:=bL
def TK(aa)(a)(V):(ReflectliteType.typeOf #[.iface dU aa]).events T a V=V:=bL
def afp:jB T 223 (ReflectliteValue.method (ReflectliteValue.valueError "reflectlite.Value.Elem" 0) ReflectliteValue.elem):=⟨_,Tryz.func223,by kernel_rfl,by kernel_rfl,by kernel_rfl,by kernel_rfl⟩
def LY(b):(Rtype.elem? f_).run T b=.ok (f dU) b/\∀a,(Rtype.elem? f_).events T b a=a:=⟨by kernel_rfl,λa=>by kernel_rfl⟩
def LZ(b)(d):(ReflectliteValue.mk dU b ReflectliteValue.flagAddr).run T d=.ok (.agg #[aV dU,.pointer (f b),.int .u64 406]) d/\∀a,(ReflectliteValue.mk dU b ReflectliteValue.flagAddr).events T d a=a:=⟨by kernel_rfl,λa=>by kernel_rfl⟩
def ack(B)(i)(b)(g:b.cell? ⟨B,0,p⟩=f (.pointer (f i))):(ReflectliteValue.method (ReflectliteValue.valueError "reflectlite.Value.Elem" 0) ReflectliteValue.elem #[kC f_ B 150]).run T b=.ok (.agg #[aV dU,.pointer (f i),.int .u64 406]) b /\
  ∀a,∀d∈(ReflectliteValue.method (ReflectliteValue.valueError "reflectlite.Value.Elem" 0) ReflectliteValue.elem #[kC f_ B 150]).events T b a,d∈a∨d=⟨.cell ⟨B,0,p⟩,v,v⟩:=by
 have h:=Tryz.underlying184;rw[Ma];constructor
 .simp only[cI,(tD B b).1,c7];simp[ReflectliteValue.elem,loadVar,isAgg,underlying,h,g,LY,LZ]
 intro a d e;simp only[aF,cI,(tD B b).1,(tD B b).2,c7,aK]at e;simpa[ReflectliteValue.elem,loadVar,isAgg,underlying,h,g,LY,LZ,show(Mode.plain==Mode.atomic)=v from rfl]using e
def afv:jB T 224 ReflectliteValue.set:=⟨_,Tryz.func224,by kernel_rfl,by kernel_rfl,by kernel_rfl,by kernel_rfl⟩
def acA(aa k):ReflectliteValue.set #[aa,k]=(do
  let (f (r,b,YJ),f (a,i,_)):=(<-ReflectliteValue.parts aa,<-ReflectliteValue.parts k)
   |unsupported (.noEntry "extern/(internal/reflectlite.Value).Set.zeroValue")
  if YJ / ReflectliteValue.flagAddr % 2==0 then unsupported (.noEntry "extern/(internal/reflectlite.Value).Set.unaddressable")
  let val<-loadVar a i
  if<-Rtype.directlyAssignable r a then storeVar r b val
  else if<-Rtype.implements r a then
   if(<-Rtype.kind a)==20 then
    match val with
    |.nilIface=>unsupported (.noEntry "extern/reflectlite: a nil value of one interface type handed on as a value of another")
    |_=>storeVar r b val
   else storeVar r b (.iface a val)
  else panicString ("reflectlite.Set: value of type "++(<-Rtype.spelt a)++ " is not assignable to type "++(<-Rtype.spelt r))
  pure (.tuple #[])):=rfl
def D'(b)(d):(ReflectliteValue.parts (.agg #[aV dU,.pointer (f b),.int .u64 406])).run T d=.ok (f (dU,b,406)) d/\∀a,(ReflectliteValue.parts (.agg #[aV dU,.pointer (f b),.int .u64 406])).events T d a=a:=⟨by kernel_rfl,λa=>by kernel_rfl⟩
def Ea(B)(b):(ReflectliteValue.parts (kC dU B 150)).run T b=.ok (f (dU,⟨B,0,p⟩,150)) b/\∀a,(ReflectliteValue.parts (kC dU B 150)).events T b a=a:=⟨by kernel_rfl,λa=>by kernel_rfl⟩
def LX(b):(Rtype.directlyAssignable dU dU).run T b=.ok m b/\∀a,(Rtype.directlyAssignable dU dU).events T b a=a:=⟨by kernel_rfl,λa=>by kernel_rfl⟩
def L0(b):(sizeOf dU).run T b=.ok 1 b/\∀a,(sizeOf dU).events T b a=a:=⟨by kernel_rfl,λa=>by kernel_rfl⟩
def acp(B i)(W)(g)(e)(b)(q:b.heap[B]?=f (.cells #[g] W (0,0)))(o:b.cell? ⟨i,0,p⟩=f (.pointer (f e))):
  (ReflectliteValue.set #[.agg #[aV dU,.pointer (f ⟨B,0,p⟩),.int .u64 406],kC dU i 150]).run T b=.ok (.tuple #[]) (b.setRow B #[.pointer (f e)]) /\
  ∀d,∀h∈(ReflectliteValue.set #[.agg #[aV dU,.pointer (f ⟨B,0,p⟩),.int .u64 406],kC dU i 150]).events T b d,h∈d∨h=⟨.cell ⟨i,0,p⟩,v,v⟩∨h=⟨.cell ⟨B,0,p⟩,m,v⟩:=by
 have n:=Tryz.underlying182;have k:∀b∈[Value.pointer (f e)],b.oneCell'=m:=λb u=>by simp at u;exact bJ
 have t:=run_storeCells_at T B 0 W [.pointer (f e)] 0 #[g] b q E k;have j:(storeCells ⟨B,0,p⟩ [.pointer (f e)] 0).run T b=.ok () (b.setRow B #[.pointer (f e)]):=t;rw[acA];constructor
 .simp only[cI,(D' ⟨B,0,p⟩ b).1,(Ea i b).1,c7];simp[ReflectliteValue.flagAddr,loadVar,isAgg,underlying,n,o,LX,storeVar,Value.cells,L0,j]
 intro d h l;simp only[aF,cI,(D' ⟨B,0,p⟩ b).1,(D' ⟨B,0,p⟩ b).2,(Ea i b).1,(Ea i b).2,c7,aK]at l;have r:h∈(storeCells ⟨B,0,p⟩ [.pointer (f e)] 0).events T b (d.push ⟨.cell ⟨i,0,p⟩,v,v⟩):=by simpa[ReflectliteValue.flagAddr,loadVar,isAgg,underlying,n,o,LX,storeVar,Value.cells,L0,j,show(Mode.plain==Mode.atomic)=v from a]using l
 rcases nn [.pointer (f e)] 0 #[g] b _ q E k h r with w|⟨s,y,x,rfl⟩
 .grind
 obtain rfl:s=0:=N;exact .inr (.inr a)
end
section
open Go.Proofs Go.Extern
variable {q:ag T}
abbrev Ax:an:=.J (ee 0 223 (mR 179))
abbrev oo(a:Z):y:=aw (.val a)
abbrev x7(d:aq)(b:Nat)(a:Int):y:=.p (.agg [.c (.val (aV d)),.c (.val (.pointer (f ⟨b,0,p⟩))),.c (.val (.int .u64 a))])
abbrev GL(d:Addr)(a b:Nat):n an:=[.J (ee b f_ (.pointer (f ⟨a,0,p⟩))),.J (ee a dU (.pointer p))]
def JH:∀a,a<2->([0,1]:n Nat)[a]?=f a:=b9
def T4(b)(B i):Y q 182 [oo (.iface dU (.pointer (f b))),oo (.iface f_ (.pointer (f ⟨B,0,p⟩))),x7 f_ i 150,oo (mR dU)] (GL b B i) (bh m) [.J (ee i f_ (.pointer (f ⟨B,0,p⟩))),.J (ee B dU (.pointer (f b)))]:=by refine Y.K Tryz.func182 rfl λn=>?_;refine aZ a C ?_;refine g.dI 3 [0,1,3,6] (λ_:Unit=>True) (λ_=>[]) (λ_=>GL b B i++[.cells 220 [.c (.val (aV f_)),.c (.val (.pointer (f ⟨i,0,p⟩))),.c (.val (.int .u64 150))]]) (λ_=>0) () a E a E a C λ_ _=>?_;refine aZ a C ?_;refine g.c0 a a (eC.ei (h1.ee a a) afy (acs _) (TK _) (k:=oo (mR dU)) λ_=>Rd.val a) λ_=>?_;refine aZ a C ?_;refine g.c0 a a (eC.ei (h1.invoke a a a (aa4 _)) afj aci TD (k:=bh m) λ_=>Rd.bool) λ_=>?_;refine a6 [19] a E ?_;refine g.c0 a a (eC.g7 0 (bz:=.pointer (f ⟨B,0,p⟩)) a (h1.ee a a) afp (λe h=>ack i ⟨B,0,p⟩ e h) (k:=x7 dU B 406) λ_=>⟨_,a,Rd.val a,Rd.val a,Rd.val a,C⟩) λ_=>?_;refine aZ a C ?_;refine g.c0 a a (eC.g6 (W:=dU) (bz:=.pointer (f b)) (aa:=λd=>kC dU d 150) (k:=λd=>x7 dU d 150) (h1.ee a a) NO (acu b) (TL b) λd _ _=>⟨_,a,Rd.val a,Rd.val a,Rd.val a,C⟩) λd=>?_;refine aZ a C ?_;refine g.c0 a a (eC.iO 1 3 (E6:=.pointer p) (bz:=.pointer (f b)) a a (h1.ee a a) afv (λe l j=>acp B d dU _ b e l j) (k:=.ae []) λ_ _=>⟨[],a,C⟩) λ_=>?_;refine aZ a C (g.aX (bX.mk [0,1] a ?_ a a a JH));simp
def ND{ad}(t:s.op=.binOp op o k X ty){r}{ct}(j:P.underlying o=f (.interface ct))(x:η k=aw (.val (.iface ad aa)))(u:η X=aw .br)(w:∀J,(eqGuard op o k X (.iface ad aa) .nilIface).run P J=.ok () J)(ae:∀J a,(eqGuard op o k X (.iface ad aa) .nilIface).events P J a=a)(d:h_ op v=f r):a0 P s η l (aw (.bool r)) l:=by
 refine .aW λb n A q=>?_;have g:=q k;have e:=q X;rw[x]at g;rw[u]at e;replace g:=b8 g;replace e:=b8 e;generalize i:n k=y at g;generalize I:n X=z at e;cases g;cases e;have h:(Op.equal o (.iface ad aa) .nilIface).run P b.a=.ok v b.a:=Q7;have B:∀a,(Op.equal o (.iface ad aa) .nilIface).events P b.a a=a:=λa=>by show(aQ (9999+1) o _ _).events P b.a a=a;unfold aQ;simp[underlying,j]
 cases op<;>simp only[h_,reduceCtorEq,eW]at d
 .exact QO
 exact Qp
def T3(e)(B):Y q 148 [oo (.iface dU (.pointer (f e))),oo (.iface f_ (.pointer (f ⟨B,0,p⟩)))] [Ax,.J (ee B dU (.pointer p))] (bh m) [Ax,.J (ee B dU (.pointer (f e)))]:=by refine Y.K Tryz.func148 rfl λj=>?_;refine aZ a C ?_;refine g.aN (ND a Tryz.underlying179 a a bm (λ_ _=>rfl) a) a a ?_;refine a6 [-9] a E ?_;refine g.aN (ND a Tryz.underlying20 a a bm (λ_ _=>rfl) a) a a ?_;refine a6 [-11] a E ?_;refine g.c0 a a (eC.g6 (W:=f_) (bz:=.pointer (f ⟨B,0,p⟩)) (aa:=λd=>kC f_ d 150) (k:=λd=>x7 f_ d 150) (h1.ee a a) NO (acv _) (TM _) λd _ _=>⟨_,a,Rd.val a,Rd.val a,Rd.val a,C⟩) λb=>?_;refine aZ a C ?_;refine g.c0 a a (eC.ei (h1.ee a a) afx (acr b) (TJ b) (k:=oo (mR f_)) λ_=>Rd.val a) λ_=>?_;refine aZ a C ?_;refine g.c0 a a (eC.ei (h1.invoke a a a (KH _)) NN aco TI (k:=aw (.int .u8 22)) λ_=>Rd.int lC) λ_=>?_;refine a6 [-20] a E ?_;refine g.c0 a a (eC.g7 2 (bz:=.pointer (f ⟨B,0,p⟩)) a (h1.ee a a) afs (λi h=>acm b ⟨B,0,p⟩ i h) (k:=bh v) λ_=>Rd.bool) λ_=>?_;refine a6 [-23] a E ?_;refine g.c0 a a (eC.ei (h1.invoke a a a (aa5 _)) afo acj TE (k:=oo (mR dU)) λ_=>Rd.val a) λ_=>?_;refine aZ a C ?_;refine g.c0 a a (eC.ei (h1.invoke a a a (KH _)) NN acn TH (k:=aw (.int .u8 22)) λ_=>Rd.int lC) λ_=>?_;refine a6 [30] a E ?_;refine g.R (aJ.gu ba 0 a a a a a a) a ?_;refine g.c0 a a (eC.ei (h1.invoke a a a (aa6 _)) afr acl TG (k:=bh m) λ_=>Rd.bool) λ_=>?_;refine a6 [-35] a E ?_;refine g.aC (T4 e B b) [2,1] a ?_;refine aZ a C (g.aM [0,1] a ?_ JH);simp
end
end R1
abbrev zE(a b:bB)(d:Bool):y:=.ae [.R (.c (.T a)),.R (.c (.T b)),.R (.c (.bool d))]
namespace R1
variable {q:ag T}
def VE(b)(r)(d:0<=r/\r<=255):Y q 268 [b0 b,u_ r] [] (R (Lib.indexByte b (UInt8.ofNat (Int.toNat r)))) []:=by
 have a:r=((UInt8.ofNat r.toNat).toNat:Int):=by grind[UInt8.toNat_ofNat']
 grind[VD]
def Bu:bK:=λargs b=>match args,b with
 |[.p (.R (.c (.T d))),.p (.R (.c (.int .u8 a)))],[]=>f (R (Lib.indexByte d (UInt8.ofNat (Int.toNat a))),[],[0<=a/\a<=255])
 |_,_=>p
def adS:bM q 268 Bu:=by
 intro args i e g d a b;unfold Bu at a;split at a
 .cases a;exact(VE _ _ (b)).args (λ_ _ h=>h)
 cases a
def H':n (Nat×bK):=(268,Bu)::Im
def B7:a9 q H':=a9.cons adS (Tg)
def iy(a:bB):Int:=Lib.indexByte a 47
theorem VC(b):Y q 208 [b0 b,b0 [47]] [] (R (iy b)) []:=by
 refine Y.K func208 rfl λe=>?_;by_cases d:b=[47]
 .subst d;refine a8 B7 [-18,22] a E (g.ar a ?_);exact cQ
 refine a8 B7 [-18,-22,26] a ?_ (g.ar a ?_)
 .simp[ki,dj];grind
 exact cQ
def Bt:bK:=λargs a=>match args,a with
 |[.p (.R (.c (.T b))),.p (.R (.c (.T [47])))],[]=>f (R (iy b),[],[])
 |_,_=>p
def adQ:bM q 208 Bt:=by intro args h b d a e g;unfold Bt at e;grind[VC]
def Ia:n (Nat×bK):=(208,Bt)::H'
def B8:a9 q Ia:=a9.cons adQ (B7)
def jP(a:bB):bB:=if 0<=iy a then a.take (iy a).toNat else a
def mA(a:bB):bB:=if 0<=iy a then a.drop ((iy a).toNat+1)else[]
def kk(a:bB):Bool:=decide (0<=iy a)
theorem UF(b):Y q 171 [b0 b,b0 [47]] [] (zE (jP b) (mA b) (kk b)) []:=by
 refine Y.K func171 rfl λh=>?_;have i:=h.T 0 a;have e:=yH b 47;change iy b<c b∨iy b=-1 at e;by_cases d:0<=iy b
 .have r:(iy b+1).toNat=(iy b).toNat+1:=x;refine a8 B8 [12] a ?_ (g.ar a ?_)
  .simp[d,a7];omega
  simp[jP,mA,kk,d,mz,r]
 refine a8 B8 [-12] a bW (g.ar a ?_);simp[jP,mA,kk,d]
def Bs:bK:=λargs b=>match args,b with
 |[.p (.R (.c (.T a))),.p (.R (.c (.T [47])))],[]=>f (zE (jP a) (mA a) (kk a),[],[])
 |_,_=>p
def t171:bM q 171 Bs:=by intro args h b d a e g;unfold Bs at e;grind[UF]
def Ib:n (Nat×bK):=(171,Bs)::Ia
def H4:a9 q Ib:=a9.cons t171 (B8)
theorem UE(b):Y q 142 [b0 b,b0 [47]] [] (zE (jP b) (mA b) (kk b)) []:=by refine Y.K func142 rfl λd=>?_;exact b_ H4 a C (g.ar a)
def Bn:bK:=λargs b=>match args,b with
 |[.p (.R (.c (.T a))),.p (.R (.c (.T [47])))],[]=>f (zE (jP a) (mA a) (kk a),[],[])
 |_,_=>p
def adL:bM q 142 Bn:=by intro args h b d a e g;unfold Bn at e;grind[UE]
def jR(a:bB):Bool:=decide (c a=1)&&decide (97<=dj a 0)&&decide (dj a 0<=101)
theorem U3(b):Y q 143 [b0 b] [] (bh (jR b)) []:=by
 refine Y.K func143 rfl λe=>?_;by_cases d:c b=1
 .by_cases i:97<=dj b 0
  .refine a6 [5,9] a hu (g.ar a ?_);show decide (dj b 0<=101)=jR b;simp[jR,d,i]
  refine a6 [5,-9] a cQ (g.ar a ?_);simp[jR,i]
 refine a6 [-5] a bW (g.ar a ?_);simp[jR,d]
def Bo:bK:=λargs a=>match args,a with
 |[.p (.R (.c (.T b)))],[]=>f (bh (jR b),[],[])
 |_,_=>p
def adM:bM q 143 Bo:=by intro args h b d a e g;unfold Bo at e;grind[U3]
def Ic:n (Nat×bK):=(142,Bn)::(143,Bo)::Ib
def xR:a9 q Ic:=a9.cons adL (a9.cons adM (H4))
def jW(a:bB):Bool:=jR (jP a)&&(!kk a||jR (mA a))
theorem Xd(b):Y q 90 [b0 b] [] (bh (jW b)) []:=by
 refine Y.K func90 rfl λe=>?_;cases w:jR (jP b)with
 |false=>
  refine a8 xR [-13] a o3 (g.ar a ?_);simp[jW,w]
 |true=>
  cases d:kk b with
  |false=>
   refine a8 xR [13,-15] a ds (g.ar a ?_);simp[jW,w,d]
  |true=>
   refine a8 xR [13,15] a ds (g.ar a ?_);simp[jW,w,d]
def BD:bK:=λargs a=>match args,a with
 |[.p (.R (.c (.T b)))],[]=>f (bh (jW b),[],[])
 |_,_=>p
def adY:bM q 90 BD:=by intro args h b d a e g;unfold BD at e;grind[Xd]
theorem Wc(b):Y q 144 [b0 b] [] (bh (d9 b)) []:=by
 refine Y.K func144 rfl λe=>?_;have l:=e.T 0 a;refine aZ a C (g.b_ (λd=>d<=c b/\∀u,u<d->jq (b.getD u 0)=m) (λd:Nat=>[(0,b0 b),(5,R (c b)),(6,R d)]) (λ_=>[]) (λd=>c b-d) 0 a E a C ⟨by omega,by omega⟩ ?_);rintro d ⟨h,r⟩;by_cases t:d<c b
 .generalize w:b.getD d 0=i;by_cases k:i.toNat<97
  .refine a6 [7,12] a ?_ (g.bS (bX.zero a ?_))
   .simp only[U,xA,bA,w];omega
   exact z7
  by_cases j:i.toNat>122
  .refine a6 [7,-12,17] a Qz (g.bS (bX.zero a ?_));exact z7
  refine a6 [7,-12,-17] a OA (g.b5 (d+1) a E a C ?_ ?_)
  .refine⟨by omega,λu I=>?_⟩;rcases w9.1 I with I|rfl
   .grind
   rw[w];simp only[jq,cC,bA];omega
  omega
 exact OO
def Bp:bK:=λargs a=>match args,a with
 |[.p (.R (.c (.T b)))],[]=>f (bh (d9 b),[],[])
 |_,_=>p
def adN:bM q 144 Bp:=by intro args h b d a e g;unfold Bp at e;grind[Wc]
def Id:n (Nat×bK):=(90,BD)::(144,Bp)::Ic
def B9:a9 q Id:=a9.cons adY (a9.cons adN (xR))
theorem Ju(b):Y q 91 [b0 b] [] (bh (fG b)) []:=by
 refine Y.K func91 rfl λe=>?_;by_cases d:c b<=40
 .refine a8 B9 [5] a bW (g.ar a ?_);simp[fG,d]
 refine a8 B9 [-5] a bW (g.ar a ?_);simp[fG,d]
def BE:bK:=λargs a=>match args,a with
 |[.p (.R (.c (.T b)))],[]=>f (bh (fG b),[],[])
 |_,_=>p
def adZ:bM q 91 BE:=by intro args h b d a e g;unfold BE at e;grind[Ju]
def oD(b a:bB):Bool:=decide (c a<=c b)&&(b.take (c a)==a)
theorem Vf(b d):Y q 146 [b0 b,b0 d] [] (bh (oD b d)) []:=by
 refine Y.K func146 rfl λe=>?_;by_cases w:c d<=c b
 .refine a6 [9] a o3 (g.ar a ?_);simp[oD,w,mz]
 refine a6 [-9] a bW (g.ar a ?_);simp[oD,w]
def Br:bK:=λargs a=>match args,a with
 |[.p (.R (.c (.T b))),.p (.R (.c (.T d)))],[]=>f (bh (oD b d),[],[])
 |_,_=>p
def adP:bM q 146 Br:=by intro args h b d a e g;unfold Br at e;grind[Vf]
def Ie:n (Nat×bK):=(91,BE)::(146,Br)::Id
def H5:a9 q Ie:=a9.cons adZ (a9.cons adP (B9))
theorem Ve(b d):Y q 94 [b0 b,b0 d] [] (bh (oD b d)) []:=by refine Y.K func94 rfl λe=>?_;exact b_ H5 a C (g.ar a)
def BH:bK:=λargs a=>match args,a with
 |[.p (.R (.c (.T b))),.p (.R (.c (.T d)))],[]=>f (bh (oD b d),[],[])
 |_,_=>p
def ad2:bM q 94 BH:=by intro args h b d a e g;unfold BH at e;grind[Ve]
def If:n (Nat×bK):=(94,BH)::Ie
def H6:a9 q If:=a9.cons ad2 (H5)
end R1
def c0.jw(a:c0 α)(d)(h j)(k:h+j<=c d):a.af j (fA h (a.fn d))=(d.drop h).take j:=by
 apply rx
 .simp[c0.af];omega
 intro b e g;have i:b<j:=N;simp[c0.af,fA,c0.fn,gv,al,bG (by omega:h+b<c d),a.inv]
def c0.iV(a:c0 α)(d){h}:a.bT j (fA h (a.fn d)):=λb _=>by simp[fA,c0.fn,gv,a.inv]
abbrev Ts(a b:bB):y:=aw (.Q [.T a,.T b])
namespace R1
variable {q:ag T}
def under(a b:bB):Bool:=oD a (b++[47])
def Yh(b)(d k)(h:c b.1<=4000000):Y q 93 [x4 b,Ts d k] [] (bh (under d b.1)) []:=by refine Y.K func93 rfl λe=>?_;refine b_ H6 a bW (g.ar a ?_);exact cQ
def BG:bK:=λargs e=>match args,e with
 |[.p (.agg [.c (.T a),.c (.T b)]),.p (.R (.c (.Q [.T g,.T d])))],[]=>f (bh (under g a),[],[c a<=4000000/\b=b/\d=d])
 |_,_=>p
def ad1:bM q 93 BG:=by
 intro args l e g d a b;unfold BG at a;split at a
 .rename_i i h j k;cases a;exact Yh (i,h) j k b.1
 grind
def Ig:n (Nat×bK):=(93,BG)::If
def sW:a9 q Ig:=a9.cons ad1 (H6)
abbrev Cg(a b:bB):y:=aw (.fn (.func 93) [] [.Q [.T a,.T b]])
def mI(e:n cZ)(d:bB):Int:=match e.findIdx? (λa=>under d a.1)with|some b=>b|none=>-1
def aaA{o}{a}(g:e<c o)(i:under a (cn o e)=m)(h:∀b,b<e->under a (cn o b)=v):mI o a=e:=by
 have:o.findIdx? (λd=>under a d.1)=f e:=by grind[List.findIdx?_eq_some_iff_getElem,pr]
 rw[mI,this]
theorem Kg{o}{a}(e:∀b,b<c o->under a (cn o b)=v):mI o a=-1:=by
 have:o.findIdx? (λd=>under a d.1)=p:=by grind[List.getElem_of_mem,pr]
 rw[mI,this]
def Vz(o)(e k)(n:∀d,d<c o->c (cn o d)<=4000000):Y q 145 [bC.C o,Cg e k] [] (R (mI o e)) []:=by
 refine Y.K func145 rfl λl=>?_;have s:=l.C 0 a;refine b_ sW a C (g.b_ (λb=>b<=c o/\∀d,d<b->under e (cn o d)=v) (λb:Nat=>[(0,bC.C o),(1,Cg e k),(7,R (c o)),(8,R b)]) (λ_=>[]) (λb=>c o-b) 0 a E a C ⟨by omega,by omega⟩ ?_);rintro b ⟨r,j⟩;by_cases h:b<c o
 .have t:=n b h;cases i:under e (cn o b)with
  |true=>
   refine a8 sW [9,16] a ?_ (g.bS (bX.zero a ?_))
   .simp[-al,h,ku,i];omega
   simp[aaA h i j]
  |false=>
   refine a8 sW [9,-16] a ?_ (g.b5 (b+1) a ?_ a C ?_ ?_)
   .simp[-al,h,ku,i,a7];omega
   .simp
   .grind
   omega
 refine a8 sW [-9] a bW (g.bt a a ?_);refine b_ sW a C (g.ar a ?_);simp[Kg (λd u=>j d x)]
def zq(b:n cZ):Prop:=∀a,a<c b->c (cn b a)<=4000000
def Bq:bK:=λargs e=>match args,e with
 |[g,.p (.R (.c (.fn (.func 93) [] [.Q [.T h,.T d]])))],[]=>match ju 2 g with
  |none=>p
  |some (b,a)=>f (R (mI (bC.af b a) h),[],[bC.bT b a,zq (bC.af b a),d=d])
 |_,_=>p
def adO:bM q 145 Bq:=by
 intro args n h i g a b;unfold Bq at a;split at a
 .rename_i o l k;split at a
  .cases a
  rename_i r j d;cases a;exact(Vz _ l k b.2.1).args (λ_ A=>b6.imp (λ_=>bC.cw d b.1) (b6.imp (λ_ e=>e) (λ_ e=>e)) A)
 grind
def Ih:n (Nat×bK):=(145,Bq)::Ig
def H7:a9 q Ih:=a9.cons adO (sW)
def T1(o)(b k)(d:zq o):Y q 92 [bC.C o,Cg b k] [] (bh (decide (0<=mI o b))) []:=by
 refine Y.K func92 rfl λe=>?_;refine b_ H7 a ?_ (g.ar a ?_)
 .simp[bC.U,bC.m,d]
 simp[bC.m]
def BF:bK:=λargs e=>match args,e with
 |[g,.p (.R (.c (.fn (.func 93) [] [.Q [.T h,.T d]])))],[]=>match ju 2 g with
  |none=>p
  |some (b,a)=>f (bh (decide (0<=mI (bC.af b a) h)),[],[bC.bT b a,zq (bC.af b a),d=d])
 |_,_=>p
def ad0:bM q 92 BF:=by
 intro args n h i g a b;unfold BF at a;split at a
 .rename_i o l k;split at a
  .cases a
  rename_i r j d;cases a;exact(T1 _ l k b.2.1).args (λ_ A=>b6.imp (λ_=>bC.cw d b.1) (b6.imp (λ_ e=>e) (λ_ e=>e)) A)
 grind
def Tk:n (Nat×bK):=(92,BF)::Ih
def om:a9 q Tk:=a9.cons ad0 (H7)
def mX(b:n cZ)(a:Nat):Bool:=
 jW (cn b a)&&fG (lB b a)&&(a==0||!(aW (cn b a) (cn b (a-1))||cn b a==cn b (a-1)))&&(aB a).all λd=>!under (cn b a) (cn b d)
def q1(a:n cZ):Bool:=(aB (c a)).all (mX a)&&decide (c a<=6)
def zI{o}(b:e<c o)(d:mX o e=v):q1 o=v:=by
 cases a:q1 o with
 |false=>rfl
 |true=>
  simp[q1,cC]at a;grind
theorem Lp{b}(g:jW b=m):c b<=3:=by
 simp[jW,jR,cC,jG,bA,j']at g;obtain⟨⟨⟨e,_⟩,_⟩,a⟩:=g;have h:=yH b 47;change iy b<c b∨iy b=-1 at h;by_cases d:0<=iy b
 .simp only[jP,d,dH,List.length_take]at e;rcases a with a|a
  .simp[kk,d]at a
  have:=a.1.1;simp[mA,d,dH,sA]at this;omega
 simp[jP,d,dh]at e;omega
def aaB{o}{S}(k:e<=c o):decide (0<=mI (o.take e) S)=!(aB e).all λa=>!under S (cn o a):=by
 have l:∀a,a<e->cn (o.take e) a=cn o a:=by intro a d;simp[cn,al,d]
 cases q:(aB e).all λa=>!under S (cn o a)with
 |true=>
  grind[Kg]
 |false=>
  have i:∃a,a<e/\under S (cn o a)=m:=N;have:∃g:Nat,mI (o.take e) S=g:=by
   unfold mI;cases b:(o.take e).findIdx? (λj=>under S j.1)with
   |some g=>grind
   |none=>
    obtain⟨a,d,n⟩:=i;rw[AQ]at b;have h:a<c (o.take e):=N;have:=b _ (xc h);grind[pr]
  grind
def Jw(o):Y q 50 [bC.C o] [] (bh (q1 o)) []:=by
 refine Y.K func50 rfl λA=>?_;have D:=A.C 0 a;refine b_ om a C (g.aE 0 (λe=>e<=c o/\∀b,b<e->mX o b=m) (λe:Nat=>[(0,bC.C o),(5,bC.C o),(6,R (c o)),(7,R e)]) (λ_=>[]) (λe=>c o-e) 0 a E a C a ⟨by omega,by omega⟩ ?_);rintro e ⟨k,u⟩;by_cases h:e<c o
 .cases I:jW (cn o e)with
  |false=>
   refine bf om [8,-14] a ?_ (g.aX (bX.zero a ?_))
   .simp[-al,h,ku,I]
   simp[U,zI h (by simp[mX,I])]
  |true=>
   cases ae:fG (lB o e)with
   |false=>
    refine bf om [8,14,-19] a ?_ (g.aX (bX.zero a ?_))
    .simp[-al,h,ku,tX,I,ae]
    simp[U,zI h (by simp[mX,ae])]
   |true=>
    have J:zq (o.take e):=by
     intro b B;simp[List.length_take]at B;have t:cn (o.take e) b=cn o b:=by simp[cn,al,(by omega:b<e)]
     rw[t];have:=u b x;simp[mX,cC]at this;grind[Lp]
    have F:bC.af ((e:Int).toNat-0) (fA 0 (bC.fn o))=o.take e:=by rw[bC.jw o 0 _ N];simp
    cases n:(e==0||!(aW (cn o e) (cn o (e-1))||cn o e==cn o (e-1)))with
    |false=>
     have j:mX o e=v:=by simp only[mX,n];simp
     have z:e≠0:=N;have s:(aW (cn o e) (cn o (e-1))||cn o e==cn o (e-1))=m:=N;have i:a7 .i64 ((e:Int)-1):=cQ;have d:((e:Int)-1).toNat=e-1:=x;refine bf om [8,14,19,24,34] a Pc (g.aX (bX.zero a ?_));simp[zI h j]
    |true=>
     have j:mX o e=(aB e).all λb=>!under (cn o e) (cn o b):=by simp only[mX,n,I,ae];simp
     apply g.cn [(0,bC.C o),(3,R e),(5,bC.C o),(6,R (c o)),(7,R e),(4,aD 0 0)] [.cells 53 [.c (.T (cn o e)),.c (.T (lB o e))]]
     .intro bT;by_cases z:e=0
      .refine bf om [8,14,19,-24,906] a ?_ (bT _ _ a ?_)
       .simp only[U,ku,tX,c5,I,ae,bA,dv];grind
       simp
      have s:(aW (cn o e) (cn o (e-1))||cn o e==cn o (e-1))=v:=N;have i:a7 .i64 ((e:Int)-1):=cQ;have d:((e:Int)-1).toNat=e-1:=x;refine bf om [8,14,19,24,-34,906] a Pc (bT _ _ a ?_);simp
     refine g.freeze 4 0 a a a ?_;have l:=aaB (o:=o) (S:=cn o e) (e:=e) k;have w:bC.bT ((e:Int).toNat-0) (fA 0 (bC.fn o)):=bC.iV o;cases r:(aB e).all λb=>!under (cn o e) (cn o b)with
     |false=>
      rw[r]at l j;refine bf om [41] a ?_ (g.aX (bX.zero a ?_))
      .simp only[U,bU];grind
      simp[zI h j]
     |true=>
      rw[r]at l j;refine bf om [-41] a ?_ (g.ax (e+1) a ?_ ?_ ?_ ?_)
      .simp only[U,bU];have y:decide (0<=mI (bC.af ((e:Int).toNat-0) (fA 0 (bC.fn o))) (cn o e))=v:=N;exact⟨by exact cQ,w,by grind,C,y,by omega,by omega⟩
      .simp
      .trivial
      .grind
      omega
 have:e=c o:=x;subst this;refine a8 om [-8] a E (g.aB ?_);refine b_ om a C (g.ar a ?_);simp only[U,q1];grind
def rD:bK:=λargs d=>match args,d with
 |[e],[]=>match ju 2 e with
  |none=>p
  |some (a,b)=>f (bh (q1 (bC.af a b)),[],[bC.bT a b])
 |_,_=>p
def wl:bM q 50 rD:=by
 intro args j e g d a b;unfold rD at a;split at a
 .split at a
  .cases a
  rename_i k l h;cases a;exact(Jw _ ).args (λ_ A=>b6.imp (λ_=>bC.cw h b) (λ_ i=>i) A)
 grind
end R1
def b6.al{l ao}{b}(g:∀h(e:y),bx l b h e->bx ao b h e):∀{A:n Z}{d:n y},b6 l b A d->b6 ao b A d
 |[],[],_=>trivial
 |[],_::_,a=>a.elim
 |_::_,[],a=>a.elim
 |_::_,_::_,a=>⟨g _ _ a.1,b6.al g a.2⟩
def Y.eG{q:ag P}{r}{args a}{d}{res}(s:Y q r args l res ao)(C:∀b A,b6 l b A a->b6 l b A args)(z:jp d l=f ab)(B:U ab):Y q r a d res ao:=
 ⟨s.1,λb A n e t g k=>by obtain⟨i,j,D⟩:=jT z B b e;exact s.2 b A (C b A (n.al D)) i t g λh E o u w x y=>k h E o u w x ((j.too' e).trans y)⟩
def aJ.dK{i:ag P}{k}(r:dx (ι:=Unit) i D all s F l (λ_=>k) (λ_=>ao)):aJ i D all s F l k ao:=
 λw n q g o u b j t a e h d=>r w n q g o u b j t a e h λ_=>d
namespace R1
variable {q:ag T}
abbrev jv(a:n (Int×Int)):an:=.w 253 2 (c a) (a1.fn a)
abbrev mW(a:n (Int×Int)):y:=.p (.R (.w 0 2 (c a) (a1.fn a)))
def KG(L:n (Int×Int))(a b d:an)(e g h _:Bool):n an:=match h with
 |true=>[d]
 |false=>match g with
  |true=>[b]
  |false=>match e with
   |true=>[a]
   |false=>[jv L]
def CB:∀o(d:n (Int×Int)),c d+c o.af<=4000000->Y q 217 [aw (eK o),mW d] [jv d] (mW (d++o.af)) [jv (d++o.af)]
 |.nil,d,_=>by refine Y.K func217 rfl λB=>?_;refine aZ a C (g.aN (rY a underlying267 a a a) a a ?_);refine aZ a C ?_;rw[show d++dJ.nil.af=d from h2 d];exact g.aM [0] a ⟨a,bt.same⟩ s_
 |.aw lt e h b,d,z=>by
  have F:(dJ.aw lt e h b).af=lt.af++(e,h)::b.af:=rfl;have K:c d+c lt.af+(c b.af+1)<=4000000:=N;have t:=CB lt d x;have cd:=CB b (d++lt.af++[(e,h)]) N;have I:=a1.a0 (d++lt.af) (e,h);have ef:Y q 217 [aw (eK b),.p (.R (.w 0 2 (c (d++lt.af)+1) (cf (c (d++lt.af)) (a1.fn (d++lt.af)) λj=>([[.int .i64 e,.int .i64 h]]:n (n O)).getD j [])))] [.w 253 2 (c (d++lt.af)+1) (cf (c (d++lt.af)) (a1.fn (d++lt.af)) λj=>([[.int .i64 e,.int .i64 h]]:n (n O)).getD j [])] (mW (d++(dJ.aw lt e h b).af)) [jv (d++(dJ.aw lt e h b).af)]:=by
   rw[F,show d++(lt.af++(e,h)::b.af)=d++lt.af++[(e,h)]++b.af by simp];refine cd.eG (λQ A M=>?_) a (U.Y.2 ⟨⟨by grind,I⟩,C⟩)
   match A,M with
   |[_,_],⟨J,u,D⟩=>exact⟨J,pz rfl (show U [_,_]from⟨by grind,I⟩) u,D⟩
  have nA:(c (d++lt.af)+1)*oF.bytes<=140737488355328:=by rw[show oF.bytes=16 from a,dm];omega
  clear cd I K z;generalize d++(dJ.aw lt e h b).af=l at *;generalize d++lt.af=k at *;have w:a9 q []:=a9.nil;refine Y.K func217 rfl λB=>?_;refine aZ a C (g.aN (tI a underlying267 a a a) a a ?_);refine a6 [903] a C ?_;let s:Nat->y:=λj=>([aw (eK (.aw lt e h b)),aw (eK (.aw lt e h b)),aw (.Q [eK b]),aw (eK b),aw (eK (.aw lt e h b)),aw (eK (.aw lt e h b)),aw (.Q [eK lt,eK b]),aw (eK lt),mW d,mW k,aw (eK (.aw lt e h b)),aw (eK (.aw lt e h b)),aw (eK (.aw lt e h b)),pn e h,aw (.C m 2 1 λj=>([[.int .i64 e,.int .i64 h]]:n (n O)).getD j []),.p (.R (.w 0 2 (c k+1) (cf (c k) (a1.fn k) λj=>([[.int .i64 e,.int .i64 h]]:n (n O)).getD j []))),mW l,mW l]:n y).getD j .any
  cases lt<;>cases b<;>(
   refine g.cj b5 s (mE (KG d (jv k) (.w 253 2 (c k+1) (cf (c k) (a1.fn k) λj=>([[.int .i64 e,.int .i64 h]]:n (n O)).getD j [])) (jv l)) 9 15 16 17) a a a a ⟨
   .aZ,
   .aZ,
   .aZ,
   .aZ,
   .aZ,
   .aZ,
   .aZ,
   .aZ,
   .aZ,
   b4.ay a a a a a a (aJ.dK (dx.b0 t.tocF [0] a a a a E a a a bm a bm)),
   .aZ,
   .aZ,
   .aZ,
   .aZ,
   .aZ,
   b4.eU a a a a a a (dS (bg:=[]) ba w (ao:=f _) a ⟨rfl,rfl,nA⟩),
   b4.eW a a a a a a (aJ.dK (dx.b0 ef.tocF [0] a a a a E a a a bm a bm)),
   b4.eX a a a a a a (aJ.x),C⟩ ?_
   intro y i;show g q _ _ _ _ _ (KG d (jv k) _ (jv l) (y 9) (y 15) (y 16) (y 17));rw[i 9 b9,i 15 b9,i 16 b9,i 17 b9]
   exact g.aM [0] a ⟨a,bt.same⟩ s_)
abbrev K4:y:=aw (.C m 2 0 λ_=>[])
def KF(a b d:an)(e g h _:Bool):n an:=match h with
 |true=>[d]
 |false=>match g with
  |true=>[b]
  |false=>match e with
   |true=>[a]
   |false=>[]
def I_:∀(l:dJ),c l.af<=4000000->Y q 217 [aw (eK l),K4] [] (mW l.af) [jv l.af]
 |.nil,_=>by refine Y.K func217 rfl λB=>?_;refine aZ a C (g.aN (rY a underlying267 a a a) a a ?_);refine aZ a C (g.bM 4 253 2 a a ?_);refine g.bf [jv []] a E ?_;exact g.aM [0] a nX (C4 _)
 |.aw lt d e b,u=>by
  have s:(dJ.aw lt d e b).af=lt.af++(d,e)::b.af:=rfl;have J:c lt.af+(c b.af+1)<=4000000:=N;have t:=I_ lt x;have cd:=CB (q:=q) b (lt.af++[(d,e)]) N;have I:=a1.a0 lt.af (d,e);have ef:Y q 217 [aw (eK b),.p (.R (.w 0 2 (c lt.af+1) (cf (c lt.af) (a1.fn lt.af) λh=>([[.int .i64 d,.int .i64 e]]:n (n O)).getD h [])))] [.w 253 2 (c lt.af+1) (cf (c lt.af) (a1.fn lt.af) λh=>([[.int .i64 d,.int .i64 e]]:n (n O)).getD h [])] (mW (dJ.aw lt d e b).af) [jv (dJ.aw lt d e b).af]:=by
   rw[s,show lt.af++(d,e)::b.af=lt.af++[(d,e)]++b.af by simp];refine cd.eG (λM A K=>?_) a (U.Y.2 ⟨⟨by simp,I⟩,C⟩)
   match A,K with
   |[_,_],⟨F,z,D⟩=>exact⟨F,pz rfl (show U [_,_]from⟨by simp,I⟩) z,D⟩
  have nA:(c lt.af+1)*oF.bytes<=140737488355328:=by rw[show oF.bytes=16 from a];omega
  clear cd I J u;clear s;generalize(dJ.aw lt d e b).af=k at *;generalize lt.af=j at *;have w:a9 q []:=a9.nil;refine Y.K func217 rfl λB=>?_;refine aZ a C (g.aN (tI a underlying267 a a a) a a ?_);refine a6 [903] a C ?_;let o:Nat->y:=λh=>([aw (eK (.aw lt d e b)),aw (eK (.aw lt d e b)),aw (.Q [eK b]),aw (eK b),aw (eK (.aw lt d e b)),aw (eK (.aw lt d e b)),aw (.Q [eK lt,eK b]),aw (eK lt),K4,mW j,aw (eK (.aw lt d e b)),aw (eK (.aw lt d e b)),aw (eK (.aw lt d e b)),pn d e,aw (.C m 2 1 λh=>([[.int .i64 d,.int .i64 e]]:n (n O)).getD h []),.p (.R (.w 0 2 (c j+1) (cf (c j) (a1.fn j) λh=>([[.int .i64 d,.int .i64 e]]:n (n O)).getD h []))),mW k,mW k]:n y).getD h .any
  cases lt<;>cases b<;>(
   refine g.cj b5 o (mE (KF (jv j) (.w 253 2 (c j+1) (cf (c j) (a1.fn j) λh=>([[.int .i64 d,.int .i64 e]]:n (n O)).getD h [])) (jv k)) 9 15 16 17) a a a a ⟨
   .aZ,
   .aZ,
   .aZ,
   .aZ,
   .aZ,
   .aZ,
   .aZ,
   .aZ,
   .aZ,
   b4.ay a a a a a a (aJ.dK (dx.b0 t.tocF [] a a a a E a a a bm a bm)),
   .aZ,
   .aZ,
   .aZ,
   .aZ,
   .aZ,
   b4.eU a a a a a a (dS (bg:=[]) ba w (ao:=f _) a ⟨rfl,rfl,nA⟩),
   b4.eW a a a a a a (aJ.dK (dx.b0 ef.tocF [0] a a a a E a a a bm a bm)),
   b4.eX a a a a a a (aJ.x),C⟩ ?_
   intro y i;show g q _ _ _ _ _ (KF (jv j) _ (jv k) (y 9) (y 15) (y 16) (y 17));rw[i 9 b9,i 15 b9,i 16 b9,i 17 b9]
   exact g.aM [0] a ⟨a,bt.same⟩ (C4 _))
end R1
section
open Go.Conc
def bd.gR(j:bd l b){bY}{L}(aG:l[d]?=f bY)(B:b.t[d]?=f L)(z:(∃W ai,bY=.cells W ai)∨∃H,bY=.J H):
  bd (l.set d .M) {b with t:=b.t.set d ⟨L.v,[]⟩}/\cN l b (l.set d .M) {b with t:=b.t.set d ⟨L.v,[]⟩}:=by
 have C:d<c l:=(cO.1 aG).1;have K:d<c b.t:=(cO.1 B).1;have A:∀k,(b.t.set d ⟨L.v,[]⟩)[k]?=if d=k then f ⟨L.v,[]⟩else b.t[k]?:=N;have y:∀g∈b.t.set d ⟨L.v,[]⟩,∀n∈g.al,g∈b.t:=N;have u:cN l b (l.set d .M) {b with t:=b.t.set d ⟨L.v,[]⟩}:=by
  refine⟨bE _,λ_ _ _=>rfl,λ_ _ _ E=>E,λ_ _ _ _=>rfl,λg e n i=>.inr ⟨g,y g e n i,i⟩,?_,a,a,a,a⟩;intro k q g h e;by_cases t:d=k
  .subst t;rw[aG]at h;cases h;rw[B]at e;cases e;refine⟨.M,⟨L.v,[]⟩,by grind,by grind,?_⟩;rcases z with⟨W,ai,rfl⟩|⟨H,rfl⟩<;>rfl
  exact⟨q,g,by grind,by grind,.refl _ _⟩
 refine⟨⟨j.mem,by simp[j.len],?_,?_,λg e n i=>j.lt g (y g e n i) n i,λn i=>⟨(j.own n i).1,λg e o=>(j.own n i).2 g (y g e n o) o⟩⟩,u⟩
 .intro k q g h e;by_cases t:d=k
  .subst t;rw[io C]at h;cases h;trivial
  rw[j_ t]at h;rw[A,bl t]at e;exact(j.box k q g h e).ck u.ext j.len λn i=>⟨a,λM=>rfl⟩
 intro I J w x r s n D F;rw[A]at r s;split at r
 .grind
 split at s
 .grind
 exact j.a3 I J w x r s n D F
def bx.e0(g:az.E=b.E){a}(i:bx l b aa a)(h:hN 0 a=m):bx ao az aa a:=by have d:=bx.drop (aO:=[]) (bs:=l) i h;refine bx.mono (l:=[]) (b:=b.cut 0) ⟨λk o aa e=>by rw[g];exact e,λn j L aG _=>by grind⟩ (by simp[a5.cut]) d
end
section
open Go.ChangeShapes Go.WideShapes Go.ChangeAt Go.RowKit
def HS{b:au}{a:Addr}(g:b.cell? (a.add j)=f aa):b.cell? ⟨a.block,a.off+j,p⟩=f aa/\(j=0->a=⟨a.block,a.off,p⟩):=by obtain⟨e,h,d⟩:=a;cases d<;>simp only[Addr.add,aM]at*<;>grind
section
variable {H:Type}{gS:aq×Z->H}{o bz:Nat}{o':au}
def acx(F:P.underlying o=f (.slice bz))(E:P.underlying bz=f (.int .u8))(I:P.cellsOf bz=1){i:Option Addr}{d:Nat}{t:DataW H}{y:n MemPlace}(u:DataW.Trod gS P o' 0 (λ_=>m) m o (.slice i z d) t y):
  ∃l:Nat->Int,R1.Bytes l/\z<=9223372036854775807/\bx [] (a5.bA o') (.slice i z d) (aw (.C v 1 z (R1.ni l))):=by
 obtain⟨K,D⟩:=u;rcases open_ints F E I D with⟨g,_⟩|⟨k,j,r,B,g,_,aa,C,Q,_,s,A⟩<;>simp[Value.cells]at g<;>obtain⟨rfl,rfl,rfl⟩:=g
 .exact⟨λ_=>0,λ_=>by simp,by omega,Rd.dL⟩
 simp only[dH,maxLen]at Q C;have q:∀b,0<=B.getD b 0/\B.getD b 0<=255:=λb=>by
  by_cases e:b<c B
  .have:=A _ (xc e);simp[Lit.wf,IntKind.min,IntKind.max,IntKind.signed,IntKind.bits]at this;grind
  grind
 refine⟨λb=>B.getD b 0,q,by omega,Rd.hV aa x (λJ=>eN f ((HS (s 0 x)).2 a)) (λ_ _=>rfl) λb e w r h=>?_⟩
 match w,h with
 |0,h=>
  cases h;exact⟨_,by simpa[a5.bA]using(HS (s b x)).1,Rd.int (q b)⟩
abbrev G7(a:Nat×(Nat->Int)):y:=aw (.C v 1 a.1 (R1.ni a.2))
def F9(a:Nat×(Nat->Int)):Prop:=R1.Bytes a.2/\a.1<=9223372036854775807
def L8{d:n us}(B:∀g∈d,o'.heap[g.1]?=f (.cells #[g.2.2] g.2.1 (0,0)))(k:∀g∈d,∃T bz,g.2.2=.iface T bz)(q:laidOutB P=m)(I:P.readableRec o=m)(J:o<P.types.size)(z:P.underlying o=f (.slice bz))(F:P.underlying bz=f (.int .u8))(K:P.cellsOf bz=1){V:Reach}{base:Nat}:∀{i:Nat}{A:n Z}{b:n (DataW H)}{r:n MemPlace},
  DataW.TrodAll gS P o' 0 (λ_=>m) m (aY i o) A b r->(∀h j,h<i->A[h]?=f j->Value.okWide P o' V base o j) ->
  ∃l:n (Nat×(Nat->Int)),(c l=i/\c b=i)/\(∀g∈l,F9 g)/\b6 (mH d) (a5.cQ d o') A (l.map G7)/\∀s,Below o'.heap.size o' s->DataW.TrodAll gS P s 0 (λt=>decide (t<o'.heap.size)) m (aY i o) A b r
 |0,A,b,r,e,_=>by obtain⟨rfl,rfl,rfl⟩:=trodAll_nil e;exact⟨[],⟨a,a⟩,by simp,C,λ_ _=>rfl⟩
 |i+1,A,b,r,e,E=>by
  obtain⟨j,A,aa,b,r,ad,rfl,rfl,rfl,⟨u,w⟩,R⟩:=trodAll_cons e;obtain⟨X,U,D,rfl⟩:=okWide_slice z (E 0 j x rfl);obtain⟨t,M,O,S⟩:=acx z F K ⟨u,w⟩;obtain⟨l,k1,y,N,G⟩:=L8 B k q I J z F K R λh j W e=>E (h+1) j x e;refine⟨(U,t)::l,by simp[k1],by simp only[List.forall_mem_cons];exact⟨⟨M,O⟩,y⟩,⟨Rd.cQ B k (λab h Y e=>?_) S,N⟩,λs Q=>trodAll_cons_mk (Below.trod q I J ⟨u,w⟩ Q (DataW.trod_lt u _ _ _ w)) (G s Q)⟩
  match h,e with
  |0,e=>cases e;exact⟨_,_,a⟩
end
noncomputable def Kq(P:aI)(e:n (String×DataW Unit))(d i h:Nat)(os:Os):au:=
 let a:=World.laidAll P os (e.filter λj=>j.2.handleName?.isNone)
 {a with heap:=a.heap.modify d λ
   |.cells _ b k=>.cells #[.iface i (.agg #[typeHandle P h])] b k
   |g=>g}
def Ks{O:Checked}{I oB gP hn iB sb sa:Nat}(aj:∀(x w:aq×Z) (N:n (Nat×(Nat->Int))),c N=j->(∀g∈N,F9 g)->Y (ag.aJ O.prog) I (N.map G7) (mH [(oB,iB,.iface x.1 x.2),(gP,iB,.iface w.1 w.2),(hn,sb,.iface sa (.agg #[typeHandle O.prog iB]))]) (bh m) (mH [(oB,iB,.iface x.1 x.2),(gP,iB,.iface w.1 w.2),(hn,sb,.iface sa (.agg #[typeHandle O.prog iB]))])){fn:Func}{C T X:Nat}{b:ChangeSpec}{r:OpenClaim}{os:Os}(a':os.Started){H:Type}{gS:aq×Z->H}(L:O.prog.funcs[I]?=f fn)(aV:fn.params=(aY j C).toArray)(aG:fn.resultTypes=#[X])(ak:ownKnob O.prog.godebug=p)(R:laidOutB O.prog=m)(aH:O.prog.readableRec C=m)(aJ:C<O.prog.types.size)(an:O.prog.underlying C=f (.slice T))(ao:O.prog.underlying T=f (.int .u8))(ar:O.prog.cellsOf T=1)(aC:O.prog.underlying X=f .bool)(aE:O.prog.inits.idxOf? I=p)(aK:varsRowed O.prog b.vars=m)(aI:∃aX aZ,b.vars=[aX,aZ])(a5:∀(F:n (DataW H)) (i h:DataW H),c F=j->b.fn H (F++[i,h])={results:=[.lit (.bool m)],args:=F,vars:=[i,h]})(wx:∃(e:au) (tape:Tape) (u:Input),e.os=os/\(e.forCall tape u).Shaped O.prog/\u.vars=[]/\Input.okWide O.prog (e.forCall tape u) .any e.heap.size I u /\
   ((b.pre gS O.prog fn r.domain v (e.forCall tape u).memory u.args/\laidMetH O.prog r.laid (e.forCall tape u).memory)/\sizedMet gS O.prog fn (OpenSpec.ofChange b) v (e.forCall tape u).memory u.args)/\({}:Assume).holds O.prog (lone (Frame.enter O.prog I u.args .normal) [] (e.forCall tape u))){Dl Dm Dk:Nat}{aP lw S aO aQ:String}{ai x4 z:DataW Unit}{aR:Array (String×aq)}{aW:n UInt8}(az:(r.laid.filter λg=>g.2.handleName?.isNone)[Dl]?=f (aP,.iface aO ai))(aA:(r.laid.filter λg=>g.2.handleName?.isNone)[Dm]?=f (lw,.iface aQ x4))(ax:(r.laid.filter λg=>g.2.handleName?.isSome)[Dk]?=f (S,z))(U:[aP,lw,S].map O.prog.globalNamed=[f oB,f gP,f hn])(aa:[oB,gP].map (λW=>(O.prog.globals[W]?).map (·.type))=[f iB,f iB])(aT:O.prog.underlying iB=f (.interface aR))(D:[oB,gP,hn].map (λW=>(decide (W<O.prog.globals.size),((begin O.prog (λ_ _=>0) default).world.heap[W]?).bind Obj.row?))=[(m,f (#[.nilIface],iB)),(m,f (#[.nilIface],iB)),(m,f (#[.nilIface],sb))])(ad:z.funcsIn?=p)(ae:z.handleName?=f aW)(ah:(O.prog.cutTypes.find? (·.1== "internal/reflectlite.rtype")).map (·.2)=f sa)(a:((aB O.prog.types.size).filter λC=>O.prog.rowNamed C aW)=[iB])(a7:[oB,gP,hn].Nodup):
  ReturnsInLeavingWide {} O os I .any (λe args=>(b.pre gS O.prog fn r.domain v e args/\laidMetH O.prog r.laid e)/\sizedMet gS O.prog fn (OpenSpec.ofChange b) v e args) (b.post gS O.prog fn v m v v):=by
 refine acz (q:=λe _=>laidMetH O.prog r.laid e) (λ_ _ _ aD t=>t.of_heap aD) ak a' L wx λV base args k K J s M l A=>?_;have a4:=M;obtain⟨a0,a1,aU,ab,rfl,_,_⟩:=M;simp only[mr,List.map_nil,List.cons.injEq,a_,lK,bA]at U aa D;obtain⟨x,a2⟩:=Kr A l (ca az) U.1 aa.1 aT D.1.1 D.1.2;obtain⟨w,y⟩:=Kr A l (ca aA) U.2.1 aa.2 aT D.2.1.1 D.2.1.2;have P:∀g∈([(oB,iB,.iface x.1 x.2),(gP,iB,.iface w.1 w.2),(hn,sb,.iface sa (.agg #[typeHandle O.prog iB]))]:n us),V.heap[g.1]?=f (.cells #[g.2.2] g.2.1 (0,0)):=by simp only[List.forall_mem_cons];exact⟨a2,y,aaO A l (ca ax) ad ae U.2.2 ah a D.2.2.1 D.2.2.2,by simp⟩
 have a3:∀g∈([(oB,iB,.iface x.1 x.2),(gP,iB,.iface w.1 w.2),(hn,sb,.iface sa (.agg #[typeHandle O.prog iB]))]:n us),∃a6 T,g.2.2=.iface a6 T:=E;simp only[aV]at aU s;obtain⟨N,k1,aL,aM,aN⟩:=L8 P a3 R aH aJ an ao ar aU λa9 aS aF t=>s a9 C aS (by simp[aF]) wP;refine bk.ja (aj x w N k1.1 aL).tocF aE a7 P aM λ_ aS B o d F=>?_;have o:Rd B.E aS (.bool m):=o;cases o;have Q:Below V.heap.size V (B.a.at F):=⟨d.os,d.tape,d.output,d.size,d.block⟩;obtain⟨aX,aZ,a8⟩:=aI;obtain⟨i,h,rfl⟩:∃i h,K=[i,h]:=by
  rw[a8]at ab
  match K,ab with
  |[i,h],_=>exact⟨i,h,rfl⟩
 have G:=a5 k i h k1.2;have av:=aN _ Q;have aw:DataW.TrodAll gS O.prog (B.a.at F) V.heap.size (λ_=>v) v [X] [.bool m] [.lit (.bool m)] []:=trodAll_mk1 (shut_bool aC _);refine⟨k,[i,h],a0++a1,[],a0,a1,a4,?_,?_,?_,Q.frame _,λt=>by cases t⟩
 .rw[show(b.fn H (k++[i,h])).results=_ from eN _ G,aG];exact aw
 .rw[show(b.fn H (k++[i,h])).args=_ from eN _ G,aV];exact av
 rw[show(b.fn H (k++[i,h])).vars=_ from eN _ G];exact Below.trodVars R Q aK ab
end
namespace R1
section
variable {q:ag T}
def lf(a:bB):n bB:=if fG a then cy a else[]
def Ny(b:bB)(d:Nat)(a:n bB):Prop:=∃e,jX b (c b) 0=a++jX b e d/\c b<=d+e/\c a<=d
def Nc:bM q 91 (da eF (λa=>bh (fG a)) λ_=>[]):=.bd λa _=>Ju a
def Hf:bK:=λargs a=>match args,a with
 |[.p (.R (.c (.T b)))],[]=>f (aw (He b),[],[])
 |_,_=>p
def ad':bM q 252 Hf:=by intro args h b d a e g;unfold Hf at e;grind[UJ]
def UG(o):Y q 196 [b0 o] [] (bR.C (lf o)) []:=by
 refine(bk.e6 (ι:=Unit) (ao:=λ_=>[]) (res:=λ_=>bR.C (lf o)) func196 rfl rfl rfl λN=>?_).toY;have l:a9 q [(91,da eF (λK=>bh (fG K)) λ_=>[])]:=.cons Nc .nil;refine dc.seq (b2.bA (g.aT ?_));refine b_ l a C (dc.seq (b2.bA (g.aT ?_)));cases I:fG o with
 |false=>
  refine a8 l [8] a so (g.ret ⟨(),bX.zero a ?_⟩);simp[lf,I]
 |true=>
  have y:=I;simp[fG,cC,bA]at y;refine a8 l [-8] a so (dc.seq (b2.bA (g.aT ?_)));refine b_ l a C (dc.seq (dc.seq (b2.bA (g.aT (g.cr 1 0 9 1 (bR.fn []) a a ?_)))));refine b_ (.cons ad' .nil) a C (dc.block ?_);refine dc.rangeFunc (pj:=e4 [.Q [.T o]]) (bZ.callee a) (UK (ad:=n bB) o y.2 x (λ_=>.cells 9 [.c (.T o)]) (λb=>.cells 77 [.w 2 1 (c b) (bR.fn b)]) (λb=>.w 9 1 (c b) (bR.fn b)) (Ny o) [] ?_ (λo=>⟨by simp,by simp,by simp⟩) ?_) (λj=>⟨a,by simp⟩) λj=>⟨.normal,a,?_⟩
  .exact⟨c o,by simp,by omega,by simp⟩
  .rintro d b s i;have z:=sY o d s;refine iE.intro (u:=p) a a a a (g.aT ?_);refine aZ a C ⟨a,a,g.aT ?_⟩;refine aZ a ?_ ?_
   .obtain⟨h,_,_,B⟩:=i;have M:=z.1;have t:=z.2.1;refine⟨a,a,?_,Int.natCast_nonneg _,Int.ofNat_le.2 (Nat.le_of_lt M),Int.ofNat_le.2 t⟩;show(c b+1)*16<=_;omega
   have F:Ny o (eG o d) (b++[(o.drop d).take (eG o d-d)]):=by
    obtain⟨h,k,J,B⟩:=i;obtain⟨e,rfl⟩:∃e,h=e+1:=⟨h-1,by omega⟩
    refine⟨e,?_,by omega,by grind⟩;rw[k];simp[jX];grind
   refine⟨a,a,⟨_,F⟩,jT a ?_⟩;have r:mz o (f (d:Int)) (f (eG o d:Int))=(o.drop d).take (eG o d-d):=Oi;have A:bt (c b+1) (cf (c b) (bR.fn b) λj=>[[O.T (mz o (f (d:Int)) (f (eG o d:Int)))]].getD j []) (bR.fn (b++[(o.drop d).take (eG o d-d)])):=by rw[r];exact c0.a0 bR b _
   have w:c b+1=c (b++[(o.drop d).take (eG o d-d)]):=E;refine U.Y.2 ⟨by simp,U.Y.2 ⟨U.Y.2 ⟨⟨w,A⟩,C⟩,U.Y.2 ⟨⟨w,A⟩,U.Y.2 ⟨a,C⟩⟩⟩⟩
  obtain⟨b,h,k,J,B⟩:=j;have D:jX o h (c o)=[]:=by cases h<;>simp[jX]
  rw[D,h2]at k;have r:lf o=b:=by simp[lf,I,dH,cy,k]
  rw[r];show dc q _ _ _ _ _;refine b2.bA (g.aT ?_);refine aZ a C (g.ret ⟨(),bX.zero a ?_⟩);simp
def EO:bM q 196 (da eF (λa=>bR.C (lf a)) λ_=>[]):=.bd λa _=>UG a
def ael:bM q 194 (eu (e2 bR) eF (λa _=>b0 a.flatten) λa d=>[d=[],c a.flatten<=140737488355328]):=.bn λa d b=>by obtain⟨rfl,b⟩:=b;exact VS a b
def xG:bK:=eu (e2 bR) (e2 bR) (λa b=>bh (a==b)) λ_ _=>[]
def aeb:bM q 195 xG:=.bn λa b _=>UW a b
def UI(d)(t:c d.flatten<=140737488355328):Y q 161 [bR.C d] [] (iN (jO d)) []:=by
 refine Y.K func161 rfl λh=>?_;have e:a9 q [(194,eu (e2 bR) eF (λd _=>b0 d.flatten) λd b=>[b=[],c d.flatten<=140737488355328]),(91,da eF (λb=>bh (fG b)) λ_=>[]),(195,xG),(196,da eF (λb=>bR.C (lf b)) λ_=>[])]:=.cons ael (.cons Nc (.cons aeb (.cons EO .nil)));have Cq:bR.af (c d) (bR.fn d)=d:=bR.m d;cases w:fG d.flatten with
 |false=>
  refine a8 e [-8,9,16] a ?_ (g.ar a ?_)
  .simp only[U,Cq,w,bR.U,eq_self,a',a_];grind
  simp[jO,w]
 |true=>
  cases i:(cy d.flatten==d)with
  |false=>
   refine a8 e [8,-9,-14,16] a OW (g.ar a ?_);simp[jO,i]
  |true=>
   refine a8 e [8,-9,14,-16] a OW (g.ar a ?_);simp[jO,w,i,Cq]
def JU{a:n (Int×Int)}(b:e<c a):a.getD e (0,0)∈a:=N
def iX(b:n (Int×Int)):dJ:=b.foldl (λd a=>d.put a.1 a.2) .nil
theorem ae2(b:n (Int×Int))(a:Int×Int):iX (b++[a])=(iX b).put a.1 a.2:=by unfold iX;grind
def zH{d:n (Int×Int)}(a:u<c d):iX (d.take (u+1))=(iX (d.take u)).put (d.getD u (0,0)).1 (d.getD u (0,0)).2:=by grind[List.take_add_one,ae2]
abbrev qM(a:n (Int×Int)):y:=aw (.C v 1 1 λb=>([[.C v 2 (c a) (a1.fn a)]]:n (n O)).getD b [])
abbrev Ez(a:Int×Int):an:=.cells 253 [.c (.int .i64 a.1),.c (.int .i64 a.2)]
def JR(a:n (Int×Int)):Nat->bI
 |0=>[(3,aw .bb),(8,qM a),(9,R 1),(10,R 0),(14,a1.C a),(15,R (c a)),(16,R 0)]
 |b+1=>[(3,.p (.R (.aV 1))),(8,qM a),(9,R 1),(10,R 0),(14,a1.C a),(15,R (c a)),(16,R (b+1:Nat))]
def adp(a:n (Int×Int)):Nat->n an
 |0=>[]
 |b+1=>[Ez (a.getD 0 (0,0)),.J (eA mM (iX (a.take (b+1))))]
def YU(a:n (Int×Int)):Nat->bI
 |0=>[(3,aw .bb),(8,qM a),(9,R 1),(10,R 0)]
 |b+1=>match a with
  |[]=>[(3,aw .bb),(8,qM a),(9,R 1),(10,R (b+1:Nat))]
  |_::_=>[(3,.p (.R (.aV 1))),(8,qM a),(9,R 1),(10,R (b+1:Nat))]
def adq(b:n (Int×Int)):Nat->n an
 |0=>[]
 |_+1=>match b with
  |[]=>[]
  |a::d=>[Ez a,.J (eA mM (iX (a::d)))]
def Jv(d:n (Int×Int))(K:c d<=4000000)(B:∀b∈d,a7 .i64 b.1/\a7 .i64 b.2):Y q 212 [qM d] [] (aw (eK (iX d))) []:=by
 refine Y.K func212 rfl λI=>?_;refine aZ a C (g.ht 0 (λb=>b<=1) (YU d) (adq d) (λb=>1-b) 0 a E a C a x ?_);intro b k;rcases b with _|b
 .refine a6 [11] a E (g.ht 0 (λu=>u<=c d) (JR d) (adp d) (λu=>c d-u) 0 a E a C a x ?_);intro u J;rcases u with _|u
  .by_cases j:0<c d
   .have k:=B _ (JU j);have h:=zH j;have i:a9 q [(272,la [aw .bb,pn (d.getD 0 (0,0)).1 (d.getD 0 (0,0)).2] [] (.p (.R (.aV 0))) [.J (eA mM (.aw .nil (d.getD 0 (0,0)).1 (d.getD 0 (0,0)).2 .nil))])]:=.cons (ma (yh _ _ k.1 k.2 .nil)) .nil;refine bf i [17] a PS (g.fw 2 1 x a E a a a ?_ a j N);exact bJ
   obtain rfl:d=[]:=jF x;refine bN [-17] a E (g.fK a a ?_);refine cr a lC (g.fw 0 1 x a ?_ a a a C a x b9);simp
  obtain⟨e,o,s,r,h⟩:∃w y z A,iX (d.take (u+1))=.aw w y z A:=by rw[zH x];exact za _ _ _
  show g q _ _ _ _ (JR d (u+1)) [Ez (d.getD 0 (0,0)),.J (eA mM (iX (d.take (u+1))))];by_cases j:u+1<c d
  .have k:=B _ (JU j);have D:=zH j;rw[h]at D⊢;have i:a9 q [(272,la [.p (.R (.aV 0)),pn (d.getD (u+1) (0,0)).1 (d.getD (u+1) (0,0)).2] [.J (eA mM (.aw e o s r))] (.p (.R (.aV 0))) [.J (eA mM ((dJ.aw e o s r).put (d.getD (u+1) (0,0)).1 (d.getD (u+1) (0,0)).2))])]:=.cons (ma (yh _ _ k.1 k.2 (.aw e o s r))) .nil;refine bf i [17] a PS (g.fw 2 (u+2) x a E a a a ?_ a j N);simp only[U.Y,U,a',a_];rw[D]
  have l:u+1=c d:=x;rw[l,c_]at h
  match d,l,h with
  |b::t,l,h=>
   rw[l,c_,h];refine bN [-17] a E (g.fK a a ?_);refine cr a lC (g.fw 2 1 x a E a a a ?_ a x b9);exact bJ
 cases d with
 |nil=>
  refine bN [-11] a bw (g.fK a a ?_);exact cr a C (g.ar a nX)
 |cons F t=>
  refine bN [-11] a bw (g.fK a a ?_);refine cr a C (g.gm 2 1 a a ?_);obtain⟨e,o,s,r,h⟩:∃w y z A,iX (F::t)=.aw w y z A:=by have:=zH (d:=F::t) (u:=c t) E;rw[Gl E]at this;rw[this];exact za _ _ _
  rw[h];exact g.ar a
end
section
open Go.Proofs Go.Conc Go.Conc.Lib
open Go.ConcN (WgLive PayAt Has RW AtR0)
open Go.ConcR (KK WgAt stA smA rd wr mk Payload DC0)
noncomputable def SY:Code:=nu (gV (gV (gV rE)))
noncomputable def HG:Code:=nu SY
noncomputable def Bz:Code:=gV (gV (gV rE))
def SV:Bz=.seq (.seq HG (.block 0 (.loop ht))) lO:=bL
section
variable {dQ:n an}{cG:a5}{F:bI}{l:n an}{w:Act}{b:a5}{bq:ak->a5->Prop}
def dZ.goes{bo}{d:ak}:∀(n:Nat)(a:ak)b,dZ dQ cG F l w b->WgLive 243 bo b.a->Goes T m (fB 243 bo) DC0 (λa _=>a=d) n a b.a ->
  (∀g,dZ dQ cG F l w g->cc (ag.aJ T) bq d g)->cc (ag.aJ T) bq a b
 |0,a,b,r,_,h,o=>by obtain rfl:a=d:=h b.a (.refl _);grind
 |n+1,a,b,r,u,h,o=>by
  rcases h with h|⟨x,h⟩
  .obtain rfl:a=d:=h b.a (.refl _);grind
  refine .next x λg q=>?_;have j:=r.rely q.1;obtain⟨A,B⟩:=q.2;have s:WgLive 243 bo g.a:=bJ;have e:=h g.a (λ_=>s);cases k:ar T m a g.a with
  |go i z t=>
   rw[k,goes_go]at e;obtain⟨⟨rfl,rfl⟩,y⟩:=e;exact⟨i,g,#[],k,.aW j.ba,dZ.goes n i g j s y o⟩
  |_=>rw[k]at e;exact e.elim
def Sp{l}{b}(g:∀e∈l,e=.M){bg}{a}(d:i_ l b bg a):bg=[]:=by
 cases bg with
 |nil=>rfl
 |cons h bg=>
  cases a with
  |nil=>exact d.elim
  |cons i a=>
   have:=g _ (ca d.1.1);cases this
end
section
variable {h:Int}{ab:n cb}{bu:n Int}{O:Nat}{ah:n Z}
variable (h ab bu O)in
def y7:bI:=[(2,aC.C bu),(3,aD 0 0),(4,aD 1 0),(8,aD 3 0),(9,aD 4 0)]
variable (h ab bu O ah)in
def pN:n an:=[.cells 3 [.c (.int .i64 h)],.cells 23 [.c (.C v 2 (c ab) (a2.fn ab))],.J (cm 245 2 (.row O (c bu)) (c bu) ah),.cells 233 [.c (.val (.slice (f ⟨O,0,p⟩) (c bu) (c bu)))],.cells 243 [.c (.int .u64 0),.c (.int .u32 0)]]
variable (h ab bu)in
def E5(a b:Nat):Z:=if b=0 then .string ⟨((dP h ab (bu.getD a 0)).getD []).toArray⟩else .bool (dP h ab (bu.getD a 0)).isSome
variable (h ab bu)in
def nl:n Z:=bu.flatMap λa=>[.string ⟨((dP h ab a).getD []).toArray⟩,.bool (dP h ab a).isSome]
variable (h ab bu O)in
def r6:n an:=[.M,.M,.J (cm 245 2 (.row O (c bu)) (c bu) (nl h ab bu)),.M,.M]
def abJ{b:ag T}:b2 b 45 HG (uv ((18,aC.C bu)::(19,R (c bu))::(20,R 0)::y7 bu) (pN h ab bu O ah)) (y7 bu) (pN h ab bu O ah):=by refine g.aT ?_;refine aZ a C ⟨a,eH a ?_,a⟩;simp
theorem JK:c (nl h ab bu)=c bu*2:=by
 unfold nl;induction bu with
 |nil=>rfl
 |cons b d a=>grind
def C7:∀{bu:n Int}{k e:Nat},k<c bu->e<2->(nl h ab bu)[2*k+e]?=f (E5 h ab bu k e)
 |[],k,e,g,_=>by grind
 |b::d,0,e,_,a=>by
  match e,a with
  |0,_=>rfl
  |1,_=>rfl
 |b::d,k+1,e,g,a=>by have:=C7 (bu:=d) (k:=k) (e:=e) N a;unfold nl at this⊢;rw[sC,hr N];rw[show 2*(k+1)+e - [Value.string ⟨((dP h ab b).getD []).toArray⟩,Value.bool (dP h ab b).isSome].length=2*k+e by grind];exact bJ
def _root_.Go.AM.bZ.seen{D i}{d}{l}{b}{F}{w}(a:bZ D l b F w)(h:bx l b (w.tmps.getD i K) d):bZ D l b ((i,d)::F) w:=by
 refine⟨a.size,a.defers,λe=>?_⟩;simp only[look];cases g:af i e with
 |false=>exact a.aK e
 |true=>grind[Nat.eq_of_beq_eq_true]
abbrev vQ(a b:Nat):bI:=[(8,aw (.Q [.val (.slice (f ⟨b,0,p⟩) a a)]))]
variable (h ab bu O)in
abbrev Lt:bI:=(8,aw (.Q [.val (.slice (f ⟨O,0,p⟩) (c bu) (c bu))]))::(4,aw (.Q [.C v 2 (c ab) (a2.fn ab)]))::(3,aw (.Q [.int .i64 h]))::(18,aC.C bu)::(19,R (c bu))::(20,R 0)::[(9,aD 4 0)]
def YR(bn:bM (ag.c9 T) 192 (nj h)){aP:fv}(cj:c bu<=4000000)(ar:dc (ag.aJ T) 45 oj aP (vQ (c bu) O) (r6 h ab bu O)):dc (ag.aJ T) 45 Bz aP (y7 bu) (pN h ab bu O ah):=by
 intro Y b3 cd bp bO aw ai cO aL X cb;have i:dZ (pN h ab bu O ah) Y (y7 bu) (pN h ab bu O ah) b3 Y:=⟨cd,bp,.refl _ _⟩;refine i.ctl a (λbQ=>zn SV) λb i=>?_
 refine i.ctl a (λbQ=>pM) λb i=>?_;refine i.code aL abJ λa6 b i=>?_;obtain⟨bJ,w1,a',a0,Z⟩:=bZ.freeze 3 0 (W:=3) (ai:=[.c (.int .i64 h)]) (gE:=[.int .i64 h]) rfl rfl rfl i.bX i.ba;refine .aU (.of i.ba a0 w1 (Z.too' i.ba)) ?_;obtain⟨bK,w2,ba,Q,aa⟩:=bZ.freeze 4 1 (W:=23) (ai:=[.c (.C v 2 (c ab) (a2.fn ab))]) (gE:=[.C v 2 (c ab) (a2.fn ab)]) rfl rfl rfl a' a0;refine .aU (.of a0 Q w2 (aa.too' a0)) ?_;obtain⟨cu,w3,f3,S,ae⟩:=bZ.freeze 8 3 (W:=233) (ai:=[.c (.val (.slice (f ⟨O,0,p⟩) (c bu) (c bu)))]) (gE:=[.val (.slice (f ⟨O,0,p⟩) (c bu) (c bu))]) rfl rfl rfl ba Q;refine .aU (.of Q S w3 (ae.too' Q)) ?_;have i:dZ (pN h ab bu O ah) Y (Lt h ab bu O)
   [.M,.M,.J (cm 245 2 (.row O (c bu)) (c bu) ah),.M,.cells 243 [.c (.int .u64 0),.c (.int .u32 0)]] a6 cu:=
  ⟨f3.le (eH a E),S,i.bE.trans ((Z.too' i.ba).trans ((aa.too' a0).trans (ae.too' Q)))⟩
 clear Z aa ae a' ba f3 a0 Q S;refine i.ctl a (λbQ=>zj) λb i=>?_;refine i.ctl a (λbQ=>Mr) λb i=>?_;have aQ:=i.ba.len;simp[fp,gC]at aQ;obtain⟨y,aX⟩:∃L,b.t[2]?=f L:=⟨_,bG x⟩
 obtain⟨aA,a3⟩:∃L,b.t[4]?=f L:=⟨_,bG x⟩
 obtain⟨cR,bf,an,bk,cD⟩:=i.ba.box 2 _ y rfl aX;obtain⟨cw,cK,aO,cc⟩:=cm.lookup bf;obtain⟨aD,_,cJ,_,_,_⟩:=bf;have P:=(bk O).2 N;have av:=an O _ aO;obtain⟨n,A,b',cz,bC,cE⟩:=i.ba.box 4 _ aA rfl a3;have aS:A=[.int .u64 0,.int .u32 0]:=by
  match A,bC with
  |[],aE=>exact aE.elim
  |[_],aE=>exact aE.2.elim
  |_::_::_::_,aE=>exact aE.2.2.elim
  |[c0,aZ],aE=>
   have r0:=aE.1;have w:=aE.2.1;cases r0;cases w;rfl
 subst aS;have bA:O≠n:=N;have bB:a6.tmps.getD 9 K=.pointer (f ⟨n,0,p⟩):=by obtain⟨_,L,dp,aU,aV,cY⟩:=i.bX.aK 9;grind
 obtain⟨bb,cv⟩:=i.ba.gR (d:=2) rfl aX (.inr ⟨_,rfl⟩);have aK:(b.t.set 2 ⟨y.v,[]⟩)[4]?=f aA:=N;obtain⟨bc,t2⟩:=bb.gR (d:=4) (bY:=.cells 243 [.c (.int .u64 0),.c (.int .u32 0)]) rfl aK (.inl ⟨_,_,rfl⟩);generalize cI:({b with t:=(b.t.set 2 ⟨y.v,[]⟩).set 4 ⟨aA.v,[]⟩}:a5)=jY at bc t2;have cB:jY.t=(b.t.set 2 ⟨y.v,[]⟩).set 4 ⟨aA.v,[]⟩:=N;have aF:jY.E=b.E:=N;have F:jY.a=b.a:=N;have aH:jY.own=b.own:=N;have aC:=bc;have oY:=(cv.too' i.ba).trans (t2.too' bb);have aT:jY.t[2]?=f ⟨y.v,[]⟩:=N;have bP:∀L∈jY.t,∀k∈L.al,∃d,d≠2/\d≠4/\b.t[d]?=f L:=by grind[List.mem_iff_getElem?]
 have cL:=i.ba.lt y (ca aX) O P;have cN:=i.ba.lt aA (ca a3) n N;have b1:nZ O jY:=⟨by rw[aH];exactλV=>(i.ba.own O V).2 y (ca aX) P,λL g l=>by obtain⟨d,bH,bI,U⟩:=bP L g O l;exact bH (i.ba.a3 d 2 L y U aX O l P),λr=>by rw[aF];grind,by grind⟩
 have H:nZ n jY:=⟨by rw[aH];exactλV=>(i.ba.own n V).2 aA (ca a3) N,λL g l=>by obtain⟨d,bH,bI,U⟩:=bP L g n l;exact bI (i.ba.a3 d 4 L aA U a3 n l N),λr=>by rw[aF];grind,by grind⟩
 have cS:bZ 45 e6 jY (ib h ab bu O n 0) a6:=by have q:=i.bX.mono oY i.ba.len;have cq:bZ 45 e6 jY ((9,cM (.pointer (f ⟨n,0,p⟩)))::Lt h ab bu O) a6:=q.seen (by rw[bB];exact Rd.val a);exact cq.le (eH a E)
 have cQ:(ah++cw).toArray.size=2*c bu:=N;have aN:∀k,(b.own k∨∃L∈b.t,k∈L.al)->k<b.a.heap.size:=λk l=>l.elim (λq=>(i.ba.own k q).1) λ⟨L,g,q⟩=>i.ba.lt L g k q;refine .dq (ad:=λaj az=>∃s z,dZ (pN h ab bu O ah) Y (vQ (c bu) O) (r6 h ab bu O) s az/\WgLive 243 n az.a/\Goes T m (fB 243 n) DC0 (λcC _=>cC=G (bO.N (s.put (f 28) (.tuple #[])) (.inRegion oR []::.code oj::aw)) ai) z aj az.a)
  (k3.gl (j:=c bu) (ty:=243) (val:=E5 h ab bu) (D:=2*c bu) (cG:=jY) 2 x n O x bA (.of i.ba aC F oY) a ⟨y,ca aX,P⟩ ⟨aA,ca a3,by grind⟩ aN ?_ cz ⟨_,av,cQ⟩ ?_) ?_
 .rintro k (rfl|rfl)
  .exact⟨b1.own,b1.t,b1.E⟩
  exact⟨H.own,H.t,H.E⟩
 .intro o bh bg bj;subst bh bg;refine⟨Gj h ab bu o e6 jY bO aw ai,wR h ab bu o e6 jY bO aw ai,λcC b l=>Su H X l,?_,?_⟩
  .refine adk bn bj H X aL b9 cj (λe cf=>rfl) (λe cf=>rfl) (c bu) (bE _) a6 jY ⟨by grind,aC,.refl _ _⟩ ⟨_,_,by rw[F];exact cz⟩
  .rintro aj az ⟨s,⟨u,ao⟩,z,R⟩ bz aq M cg ak;obtain⟨cT,cU,cV⟩:=ak o.ag (.inl rfl);obtain⟨a7,au,ck⟩:=aq;have bm:a7=(nl h ab bu).toArray:=by
    apply Array.ext_getElem?;intro r;have a_:(nl h ab bu).toArray[r]?=(nl h ab bu)[r]?:=E;rw[a_];rcases d6 r (2*c bu)with V|V
    .have aU:=M (r / 2) x (r % 2) x;have aV:=C7 (h:=h) (ab:=ab) (bu:=bu) (k:=r / 2) (e:=r % 2) x x;rw[show 2*(r / 2)+r % 2=r by omega]at aU aV;rw[aV];simpa[aM,au]using aU
    grind[JK]
   subst bm;have bq:=u.ba.len;obtain⟨cx,ax,cn,cX,cp⟩:=u.bE.box 2 .M ⟨y.v,[]⟩ rfl aT;have cl:ax.v=.nilFunc:=by cases cn;exact(show ax.v=y.v from cp).trans aD
   have cy:∀(d:Nat) bY,e6[d]?=f bY->bY=.M:=by
    intro d bY aG
    match d,aG with
    |0,aG|1,aG|2,aG|3,aG|4,aG=>cases aG;rfl
   have cA:∀d,(az.t.set 2 ⟨.nilFunc,[o.ag]⟩)[d]?=if d=2 then f ⟨.nilFunc,[o.ag]⟩else az.t[d]?:=N;have bR:∀L∈az.t.set 2 ⟨.nilFunc,[o.ag]⟩,L=⟨.nilFunc,[o.ag]⟩∨L∈az.t:=λL g=>by grind
   have bo:bd (r6 h ab bu o.ag) {az with t:=az.t.set 2 ⟨.nilFunc,[o.ag]⟩}:=by
    refine⟨u.ba.mem,by simp[bq,r6],?_,?_,?_,λk l=>⟨(u.ba.own k l).1,λL g a4=>?_⟩⟩
    .intro d bY L aG g;rw[cA]at g;by_cases t:d=2
     .subst t;rw[br a]at g;cases g;cases aG;refine⟨λB=>if B=o.ag then f (.cells (nl h ab bu++[]).toArray 245 (0,0))else p,⟨a,?_,JK,bE _,by omega,[],by grind,a⟩,λB cW J=>?_,λB=>?_,λB J r=>?_⟩
      .intro k l;simp only[nl,List.mem_flatMap]at l;obtain⟨_,_,l⟩:=l;simp only[fr,sF,or_false]at l;rcases l with rfl|rfl<;>rfl
      .by_cases t:B=o.ag
       .subst t;simp only[dH]at J;cases J;exact bw
       grind
      .by_cases t:B=o.ag<;>simp[t]
      grind
     .match d,aG,t with
      |0,aG,_|1,aG,_|3,aG,_|4,aG,_=>cases aG;trivial
      |2,_,t=>grind
    .intro d bF L bU g I k l bD;rw[cA]at g I;by_cases t:d=2
     .grind
     rw[bl t]at g;by_cases b4:bF=2
     .grind
     rw[bl b4]at I;exact u.ba.a3 d bF L bU g I k l bD
    .intro L g k l;rcases bR L g with rfl|g
     .grind
     exact u.ba.lt L g k l
    rcases bR L g with rfl|g
    .grind
    exact(u.ba.own k l).2 L g a4
   have aR:dd [.M,.M,.J (cm 245 2 (.row o.ag (c bu)) (c bu) ah),.M,.cells 243 [.c (.int .u64 0),.c (.int .u32 0)]] b (r6 h ab bu o.ag) {az with t:=az.t.set 2 ⟨.nilFunc,[o.ag]⟩}:=by
    have q:=u.bE;refine⟨by have:=q.size;grind,λk l=>by have:=q.a6 k N;grind,λk r c5 l=>q.mem k r c5 N,λk l cH r=>?_,λL g k l=>?_,?_,by rw[q.os,F],by rw[q.tape,F],by rw[q.output,F],by rw[q.own,aH]⟩
    .rw[q.bG k N (λL g a4=>by
      obtain⟨d,_,_,U⟩:=bP L g k a4
      grind) r,aF]
    .rcases bR L g with rfl|g
     .grind
     rcases q.bW L g k l with w|⟨bV,w,aW⟩
     .grind
     obtain⟨d,_,_,U⟩:=bP bV w k aW;grind
    intro d bY L aG g;obtain⟨a1,bW,w,aW,cr⟩:=oY.box d bY L aG g;obtain⟨bS,bX,aZ,c1,nP⟩:=q.box d a1 bW w aW;have a8:=cy d a1 w;have a9:=cy d bS aZ;subst a8 a9;by_cases t:d=2
    .subst t;cases aG;rw[aX]at g;cases g;exact⟨_,⟨.nilFunc,[o.ag]⟩,a,by grind,aD.symm⟩
    refine⟨.M,bX,?_,by grind,cr.trans nP⟩
    match d,aZ,t with
    |0,_,_|1,_,_|3,_,_|4,_,_=>rfl
    |2,_,t=>grind
   refine⟨{az with t:=az.t.set 2 ⟨.nilFunc,[o.ag]⟩},⟨s,z,⟨⟨u.bX.size,⟨[],?_⟩,λcZ=>?_⟩,bo,i.bE.trans aR⟩,ao,R⟩,rfl,bz,λcP bN cF=>⟨bN.own,λk l L g a4=>?_,bN.E,bN.lt⟩⟩
   .obtain⟨nH,bt⟩:=u.bX.defers;rw[Sp (λbY aG=>by grind) bt];trivial
   .have b6:bZ 45 e6 az (vQ (c bu) o.ag) s:=u.bX.le (eH a E);exact bx.e0 (b:=az) (az:={az with t:=az.t.set 2 ⟨.nilFunc,[o.ag]⟩}) rfl (b6.aK cZ) (vt rfl)
   rcases bR L g with rfl|g
   .grind
   exact bN.t k l L g a4
 rintro aj az ⟨s,z,b_,bs,R⟩;refine dZ.goes z aj az b_ bs R λbJ aI=>?_;have b8:dZ (pN h ab bu O ah) Y ((28,.any)::vQ (c bu) O) (r6 h ab bu O) (s.put (f 28) (.tuple #[])) bJ:=⟨aI.bX.put b9 C,aI.ba,aI.bE⟩
 refine b8.ctl a (λbQ=>v_) λbK aJ=>?_;refine ar bK _ (aJ.bX.le (eH a E)) aJ.ba bO aw ai cO aL X λt bT b0 az b2 q b5 b7 bL=>cb t bT b0 az b2 q b5 b7 (aJ.bE.trans bL)
end
end
abbrev EP(a:n bB)(b:Bool):y:=.ae [.R (.c (.C v 1 (c a) (bR.fn a))),.R (.c (.bool b))]
def h6(e:Int)(b:n cb)(a:n Int):Option (n bB):=if a.all (λd=>(dP e b d).isSome)then f (a.map λd=>(dP e b d).getD [])else p
noncomputable def S1:Code:=nu rE
noncomputable def S4:Code:=nu (gV rE)
noncomputable def S5:Code:=nu (gV (gV rE))
def SX:f160.body=f (.seq S1 (.seq S4 (.seq S5 Bz))):=bL
def s6(e:Int)(b:n cb)(a:n Int)(d:Nat):n AM.O:=[.T ((dP e b (a.getD d 0)).getD []),.bool (dP e b (a.getD d 0)).isSome]
def mO(d:Int)(b:n cb)(a:n Int):n bB:=a.map λe=>(dP d b e).getD []
theorem abO{i b}(a:ia i=f b):c b<=8:=by
 unfold ia at a;split at a
 .rename_i d;cases a;simp only[cC,cE,bA]at d;omega
 grind
theorem S'{k}{a}(b:jN h k=f a):c a<=8:=by unfold jN at b;grind[abO]
theorem JD{ab}{j}:c ((dP h ab j).getD [])<=8:=by
 cases b:dP h ab j with
 |none=>simp
 |some d=>
  obtain⟨e,_,a⟩:=List.exists_of_findSome?_eq_some b;unfold gq at a;grind[S']
theorem TT{ab}{b}(g:e<c b){r}{k}(d:(s6 h ab b e)[u]?=f r)(l:(nl h ab b)[e*2+u]?=f k):Rd bD k r:=by
 have i:u<2:=(cO.1 d).1;have:=C7 (h:=h) (ab:=ab) g i;rw[Nat.mul_comm,this]at l;cases l
 match u,i with
 |0,_=>
  cases d;have:=JD (h:=h) (ab:=ab) (j:=b.getD e 0);exact .T a x
 |1,_=>cases d;exact .bool
def _root_.Go.AM.dc.le{P:aI}{d:ag P}{D}{aP}{F dF}{l}{r}(h:dc d D r aP dF l)(b:iD F dF):dc d D r aP F l:=λi e g a=>h i e (g.le b) a
def UY(w:bM (ag.c9 T) 192 (nj h))(ab)(b)(A:c b<=4000000):
  Y (ag.aJ T) 160 [R h,a2.C ab,aC.C b] [] (EP ((h6 h ab b).getD []) (h6 h ab b).isSome) []:=by
 refine bk.toY (bk.e6 (ι:=Unit) func160 rfl SX rfl λK=>?_);show dc _ 45 _ _ _ _;refine dc.seq (b2.bA (g.aT ?_));refine aZ a C ?_;show dc _ 45 _ _ _ _;refine dc.seq (b2.bA (g.aT ?_));refine aZ a C (g.jx (W:=245) (j:=c b) ba a a a a a a Af x a a λO ah=>?_);refine aZ a C ?_;show dc _ 45 _ _ _ _;refine dc.seq (b2.bA (g.aT ?_));refine aZ a C ?_;show dc _ 45 _ _ _ _;have q:dc (ag.aJ T) 45 oj (λt o e=>∃_:Unit,bX f160 0 (EP ((h6 h ab b).getD []) (h6 h ab b).isSome) [] t o e) (vQ (c b) O) (r6 h ab b O):=by
  refine b2.bA (b2.mono (aP:=bX f160 0 (EP ((h6 h ab b).getD []) (h6 h ab b).isSome) []) (g.aT ?_) λ_ _ _ z=>⟨(),z⟩);refine aZ a (show _<=_ by omega) (g.iF 29 2 (bP:=.row O (c b)) (j:=c b) (h:=2) (s6 h ab b) a a (λd i=>⟨a,λB k D Q M N=>?_⟩) ?_)
  .grind [TT]
  refine g.bM 12 9 1 a a ?_;refine g.aE 6 (λd=>d<=c b/\∀k,k<d->(dP h ab (b.getD k 0)).isSome=m) (λd:Nat=>[(29,aw (.C v 2 (c b) (s6 h ab b))),(30,R (c b)),(31,R d),(12,.p (.R (.w 5 1 (c (mO h ab (b.take d))) (bR.fn (mO h ab (b.take d))))))]) (λd=>[.M,.M,.M,.M,.M,.w 9 1 (c (mO h ab (b.take d))) (bR.fn (mO h ab (b.take d)))]) (λd=>c b-d) 0 a ?_ a ?_ a ⟨by omega,by omega⟩ ?_
  .simp[bt,mO]
  .simp[bt,mO]
  rintro d ⟨i,F⟩;by_cases n:d<c b
  .cases s:(dP h ab (b.getD d 0)).isSome with
   |true=>
    have I:mO h ab (b.take (d+1))=mO h ab (b.take d)++[(dP h ab (b.getD d 0)).getD []]:=by unfold mO;grind[List.take_add_one]
    have J:c (mO h ab (b.take d))<=4000000:=by simp[mO];omega
    refine bN [32,-37] a ?_ (g.ax (d+1) a ?_ ?_ ?_ ?_)
    .simp[-al,n,s6,s,a7];have:te.bytes=16:=rfl;grind
    .exact PI
    .exact PI
    .grind
    omega
   |false=>
    refine bN [32,37] a ?_ (g.aX (bX.zero a ?_))
    .simp[-al,n,s6,s]
    have u:h6 h ab b=p:=N5;simp[u]
  have y:d=c b:=x;subst y;refine bN [-32] a E (g.aB ?_);refine cr a C (g.ar a ?_);have r:h6 h ab b=f (mO h ab b):=by
   unfold h6;rw[br]
   .rfl
   grind[List.mem_iff_getElem]
  simp[r]
 exact dc.le (l:=pN h ab b O ah) (YR (ah:=ah) w A q) (eH a E)
end R1
end Go.AM
namespace Go.AM.R1
def rS(a)(b):iy (a::b)=if a=47 then 0 else if iy b=-1 then -1 else iy b+1:=by unfold iy;grind[Lib.indexByte.eq_def]
def Dn:iy []=-1:=cQ
def abV(b):jW b=fP b:=by
 by_cases l:c b<=3
 .match b,l with
  |[],_=>exact cQ
  |[e],_=>
   by_cases a:e=47
   .exact hu
   simp[jW,fP,jR,jP,kk,rS,Dn,a,lr,dj]
  |[e,g],_=>
   by_cases a:e=47
   .exact hu
   by_cases d:g=47
   .subst d;simp[jW,fP,jR,jP,mA,kk,rS,a]
   simp[jW,fP,jR,jP,kk,rS,Dn,a,d]
  |[e,g,i],_=>
   by_cases a:e=47
   .subst a;simp[jW,fP,jR,jP,mA,kk,rS,lr,dj]
   by_cases d:g=47
   .subst d;simp[jW,fP,jR,jP,mA,kk,rS,a,lr,dj]
   have j:¬(g.toNat:Int)=47:=by intro k;apply d;apply uD.1;grind
   by_cases h:i=47
   .subst h;simp[jW,fP,jR,jP,mA,kk,rS,a,d,lr,dj]
   simp[jW,fP,jR,jP,kk,rS,Dn,a,d,h,j,lr,dj]
  |_::_::_::_::_,k=>grind
 have n:fP b=v:=by unfold fP;grind
 grind[Lp]
end Go.AM.R1
namespace Go.AM
theorem xx(a):aW a []=v:=F6
def Bf(i)(d):aW [] (i::d)=m:=F6
theorem uT(a i)(k X):aW (a::k) (i::X)=(decide (a<i)||a==i&&aW k X):=F6
theorem xw:∀a:bB,aW a a=v
 |[]=>xx []
 |a::b=>by rw[uT,xw b];simp
def G0:∀a b:bB,aW a b=m∨a=b∨aW b a=m
 |[],[]=>.inr (.inl rfl)
 |[],b::e=>.inl (Bf b e)
 |a::d,[]=>.inr (.inr (Bf a d))
 |a::d,b::e=>by
  rw[uT,uT];rcases G0 d e with g|g|g
  .grind
  .grind
  grind
theorem Bg:∀{g h b:bB},aW g h=m->aW h b=m->aW g b=m
 |g,h,[],_,e=>by grind[xx]
 |g,[],b::i,d,_=>by grind[xx]
 |[],h::j,b::i,_,_=>Bf b i
 |g::k,h::j,b::i,d,e=>by
  rw[uT,jG,cC,bA,gZ]at d e⊢;rcases d with d|⟨rfl,d⟩
  .grind
  rcases e with e|⟨rfl,e⟩
  .grind
  exact .inr ⟨a,Bg d e⟩
theorem GZ{a i}(b:aW a i=m):aW i a=v:=by grind[Bg,xw]
def SM{a i}:(!(aW i a||i==a))=aW a i:=by
 rcases G0 a i with b|b|b
 .have r:(i==a)=v:=by simp[eM,d'];grind[xw]
  grind[GZ]
 .grind [xw]
 grind[GZ]
namespace R1
def L'{o}{e}(g:∀a,0<a->a<=e->aW (cn o (a-1)) (cn o a)=m):∀b,b<e->aW (cn o b) (cn o e)=m:=by
 intro b l;induction e with
 |zero=>omega
 |succ e i=>
  have d:=g (e+1) x (bE _);simp[qa]at d;by_cases k:b=e
  .grind
  exact Bg (i (λa h j=>g a h x) x) d
def Lq{b}(d:fP b=m):(∃a,b=[a])∨∃a e,b=[a,47,e]:=by
 unfold fP at d;split at d
 .rename_i g
  match b,g with
  |[a],_=>grind
 split at d
 .rename_i g
  match b,g with
  |[a,e,h],_=>
   right;simp[lr,dj]at d;have i:e=47:=by apply uD.1;grind
   grind
 grind
theorem Ta{b d}(g:fP b=m)(h:fP d=m)(k:aW b d=m):ld b d=under d b:=by
 rcases Lq g with⟨a,rfl⟩|⟨a,i,rfl⟩<;>rcases Lq h with⟨r,rfl⟩|⟨r,j,rfl⟩
 .exact cQ
 .by_cases e:a=r
  .subst e;simp[ld,under,oD,dj]
  have:¬(a.toNat:Int)=r.toNat:=λl=>e (uD.1 x);have o:((a.toNat:Int)==(r.toNat:Int))=v:=N;have n:(r==a)=v:=N;simp[ld,under,oD,dj];grind
 .have:¬(a.toNat:Int)=r.toNat:=by grind[UInt8.toNat_inj,uT,xx]
  simp[ld,under,oD,dj,this]
 exact cQ
theorem MK{o}{e}(b:∀a,a<e->iW o a=m):mX o e=iW o e:=by
 unfold mX iW;rw[abV,SM];cases q:fP (cn o e)with
 |false=>simp
 |true=>
  cases k:fG (lB o e)with
  |false=>simp
  |true=>
   cases r:(e==0||aW (cn o (e-1)) (cn o e))with
   |false=>simp
   |true=>
    simp[fs];have n:∀a,a<e->aW (cn o a) (cn o e)=m:=by
     apply L';intro g i d;by_cases l:g=e
     .grind
     have:=b g x;simp[iW,cC,jG,gZ]at this;grind
    rw[pb,f',f'];have s:∀a,a<e->ld (cn o a) (cn o e)=under (cn o e) (cn o a):=by
     intro a h;have j:fP (cn o a)=m:=by have:=b a h;simp[iW,cC]at this;exact this.1.1.1
     grind[Ta]
    grind
def sc(o):q1 o=dX o:=by
 unfold q1 dX;congr 1;rw[pb,f',f'];constructor
 .intro b e;induction e using Nat.strongRecOn with
  |_ e a=>grind[MK]
 grind[MK]
end R1
end Go.AM
namespace Go.AM
variable {j z:Nat}{h:Int}{d i e u:Nat}{W:aq}{H:Z->(Nat->Option Obj)->Prop}{L:Array Bool}{bD:Mem}{D:Nat}{P:aI}{bq:ak->a5->Prop}{r:Code}{B:ak}{s:ap}{b:a5}{o:aq}{aa:Z}{k X:aA}{α:Type}{η:aA->y}{ι:Type}{l:n an}{F:bI}{all:n ap}{dn:Array aq}{cap:n O}{cR:n y}{lc:Nat->Option Obj}{ai:n aL}{bg:n (Nat×Bool)}{V:Nat->n O}{cP:aA}{gs:Array ak}{aS:n Nat}{cg:n Prop}{off:Nat}{op:BinOp}{aH:Array ap}{ab:n Prop}{bs:n ap}{az:a5}{ty:aq}{val:Nat->Nat->Z}{A:n Z}{bj:au}{ah:Array aA}{ao de:n an}{res:ι->y}{aO:ι->n an}
variable {CT:n (Nat×bK)}{av:n ik}{be:fv}{ad:n (Nat×bv)}{a4:bv}
namespace R1
section
variable {q:ag T}
def hk(d:Int)(a:n cb)(b:m8):Option cZ:=match h6 d a b.2 with
 |none=>p
 |some e=>match jO e with
  |none=>p
  |some g=>f (b.1,g)
def fN(b:Int)(a:n cb)(d:n m8):n cZ:=d.map λe=>(hk b a e).getD ([],[])
def e0(b:Int)(d:eh)(a:n cb):Option (n cZ):=
 if cB b&&d.2.all (λe=>(hk b a e).isSome)&&dX (fN b a d.2)then f (fN b a d.2)else p
abbrev nO(a:n cZ)(b:Bool):y:=.ae [.R (.c (.C v 2 (c a) (bC.fn a))),.R (.c (.bool b))]
abbrev iO(a:eh):y:=.p (.agg [.c (.int .i64 a.1),.c (.C v 2 (c a.2) (cq.fn a.2))])
theorem CZ{ab}{d}(a:e<c d):fN h ab (d.take (e+1))=fN h ab (d.take e)++[(hk h ab (d.getD e ([],[]))).getD ([],[])]:=by unfold fN;grind[List.take_add_one]
def Ew{ab}{b}(d:e<c b.2)(a:hk h ab (b.2.getD e ([],[]))=p):e0 h b ab=p:=by unfold e0;rw[bl];grind
def YC{ab}{a}{d}(b:h6 h ab a=f d)(j:c a<=4000000):c d.flatten<=140737488355328/\c d<=4000000:=by
 unfold h6 at b;split at b
 .rename_i i;cases b;refine⟨?_,by grind⟩;have key:∀a:n Int,(a.all λe=>(dP h ab e).isSome)=m->(a.map λe=>(dP h ab e).getD []).flatten.length<=8*c a:=by
   intro a;induction a with
   |nil=>grind
   |cons e a g=>
    intro b;simp only[List.all_cons,cC]at b;grind[JD]
  grind
 grind
def XL(h)(b)(ab)(X:c b.2<=4000000)(G:∀e∈b.2,c e.2<=4000000):
  Y (ag.aJ T) 128 [R h,iO b,a2.C ab] [] (nO ((e0 h b ab).getD []) (e0 h b ab).isSome) []:=by
 refine Y.K func128 rfl λI=>?_;have Z:=I.C 2 a;have i:a9 (ag.aJ T) [(68,da c1 (λh=>bh (cB h)) λ_=>[])]:=.cons pR .nil;cases bT:cB h with
 |false=>
  refine a8 i [-15,16] a kE (g.ar a ?_);simp[e0,bT]
 |true=>
  have S:bM (ag.c9 T) 192 (nj h):=aec zD bT;refine a8 i [15,-16,904] a kE (g.bM 8 53 2 a a ?_);refine b_ i a C (g.aE 2 (λd=>d<=c b.2/\∀u,u<d->(hk h ab (b.2.getD u ([],[]))).isSome=m) (λd:Nat=>[(0,R h),(2,a2.C ab),(4,aD 0 0),(8,.p (.R (.w 1 2 (c (fN h ab (b.2.take d))) (bC.fn (fN h ab (b.2.take d)))))),(18,cq.C b.2),(19,R (c b.2)),(20,R d)]) (λd=>[.cells 129 [.c (.int .i64 b.1),.c (.C v 2 (c b.2) (cq.fn b.2))],.w 53 2 (c (fN h ab (b.2.take d))) (bC.fn (fN h ab (b.2.take d)))]) (λd=>c b.2-d) 0 a Ak a Ak a ⟨by omega,by omega⟩ ?_);rintro d ⟨J,aa⟩;by_cases o:d<c b.2
  .have s:b.2.getD d ([],[])∈b.2:=N;generalize l:b.2.getD d ([],[])=e at s;have z:=G e s;have n:=UY S ab e.2 z;cases j:h6 h ab e.2 with
   |none=>
    rw[j]at n;refine a8 i [21] a bw (g.aC (l▸n) [] a (a8 i [33] a E (g.aX (bX.zero a ?_))));have k:hk h ab e=p:=by simp[hk,j]
    rw[Ew o N];simp
   |some w=>
    obtain⟨V,y⟩:=YC j z;rw[j]at n;have K:=UI (q:=ag.aJ T) w V;refine a8 i [21] a bw (g.aC (l▸n) [] a (a8 i [-33] a E (g.aC K [] a ?_)));cases Q:jO w with
    |none=>
     refine a8 i [40] a E (g.aX (bX.zero a ?_));have k:hk h ab e=p:=by simp[hk,j,Q]
     rw[Ew o N];simp
    |some r=>
     have k:hk h ab e=f (e.1,r):=by simp[hk,j,Q]
     have F:b.2.getD (d:Int).toNat cq.I=e:=l;have W:c (fN h ab (b.2.take d))<=4000000:=by simp[fN];omega
     have D:bt (c (fN h ab (b.2.take d))+1) (cf (c (fN h ab (b.2.take d))) (bC.fn (fN h ab (b.2.take d))) λM=>[[O.T (b.2.getD (d:Int).toNat cq.I).1,O.T ((f r).getD [])]].getD M []) (bC.fn (fN h ab (b.2.take (d+1)))):=by rw[CZ o,l,k,F];exact bC.a0 (fN h ab (b.2.take d)) (e.1,r)
     have B:c (fN h ab (b.2.take d))+1=c (fN h ab (b.2.take (d+1))):=by grind[CZ]
     refine a8 i [-40] a ?_ (g.ax (d+1) a ?_ ?_ ?_ ?_)
     .refine⟨by exact bJ,a,a,?_,a⟩;show _*32<=_;omega
     .refine U.Y.2 ⟨a,U.Y.2 ⟨⟨a,bt.same⟩,U.Y.2 ⟨C,U.Y.2 ⟨⟨B,D⟩,U.Y.2 ⟨⟨a,bt.same⟩,U.Y.2 ⟨a,U.Y.2 ⟨?_,C⟩⟩⟩⟩⟩⟩⟩;simp
     .exact U.Y.2 ⟨U.Y.2 ⟨a,U.Y.2 ⟨⟨a,bt.same⟩,C⟩⟩,U.Y.2 ⟨⟨B,D⟩,C⟩⟩
     .grind
     omega
  have k:d=c b.2:=x;subst k;refine a8 i [-21] a E (g.aB ?_);rw[c_];have t:=Jw (q:=ag.aJ T) (fN h ab b.2);rw[sc]at t;refine b_ i a C (g.aC t [] a ?_);have H:b.2.all (λe=>(hk h ab e).isSome)=m:=List.all_eq_true.2 λe s=>by grind[List.mem_iff_getElem]
  cases A:dX (fN h ab b.2)with
  |false=>
   refine a8 i [51] a E (g.ar a ?_);simp[e0,A]
  |true=>
   refine a8 i [-51] a E (g.ar a ?_);simp[e0,A,bT,H]
abbrev cj:=n cb×n eh×n (Int×Int)
def kx(b:cj):Prop:=∀a∈b.2.1,c a.2<=4000000/\∀d∈a.2,c d.2<=4000000
abbrev bV(a:cj):y:=.p (.agg [.c (.C v 2 (c a.1) (a2.fn a.1)),.c (.C v 2 (c a.2.1) (bi.fn a.2.1)),.c (.C v 2 (c a.2.2) (a1.fn a.2.2))])
def r_(e:Int)(d:cj)(a:Int):Option (n cZ):=match d.2.1.find? (λb=>b.1==a)with
 |none=>p
 |some b=>e0 e b d.1
def BR:bK:=kj c1 (jE cq) (e2 a2) (λd b a=>nO ((e0 d b a).getD []) (e0 d b a).isSome) λ_ b _=>[c b.2<=4000000,∀e∈b.2,c e.2<=4000000]
def M8:bM (ag.aJ T) 128 BR:=.c5 λd e a b=>XL d e a b.1 b.2
def XV(h:Int)(b:cj)(d:Int)(s:kx b):
  Y (ag.aJ T) 69 [R h,bV b,R d] [] (nO ((r_ h b d).getD []) (r_ h b d).isSome) []:=by
 refine Y.K func69 rfl λu=>?_;have j:a9 (ag.aJ T) [(126,Bi),(128,BR)]:=.cons adJ (.cons M8 .nil);have q:bi.af (c b.2.1) (bi.fn b.2.1)=b.2.1:=bi.m _;refine a8 j [901] a C (g.freeze 5 1 a a a ?_);rcases aav b.2.1 d with⟨n,i⟩|⟨e,bp,n,i⟩
 .refine a8 j [14] a bJ (g.ar a ?_);simp[r_,i]
 have t:b.2.1.getD e (0,[])∈b.2.1:=N;obtain⟨r,k⟩:=s _ t;have o:r_ h b d=e0 h (b.2.1.getD e (0,[])) b.1:=by simp only[r_,i]
 have l:b.2.1.getD (oG (bi.af (c b.2.1) (bi.fn b.2.1)) d).toNat bi.I=b.2.1.getD e (0,[]):=N;refine a8 j [-14] a ?_ (g.ar a ?_)
 .simp only[U,l,cq.m,q,n];exact⟨cq.U _,a2.U _,r,k,by omega,by omega,k9 x,bi.U _⟩
 simp only[l,cq.m,a2.m,o];simp
def pf:i1 cj:=⟨bV,λr=>match r with
 |.p (.agg [.c q,.c s,.c t])=>match ju 2 (aw q)with
  |some (i,g)=>match ju 2 (aw s)with
   |some (j,k)=>match ju 2 (aw t)with
    |some (n,h)=>f ((a2.af i g,bi.af j k,a1.af n h),[a2.bT i g,bi.bT j k,a1.bT n h])
    |none=>p
   |none=>p
  |none=>p
 |_=>p,λ{r q E} e d l b aa y=>by
 split at e
 .split at e
  .rename_i i g o;split at e
   .rename_i j k w;split at e
    .rename_i n h B;cases e;obtain⟨A,u,a⟩:=y
     match A,a with
     |[],a=>exact a.elim
     |[_],a=>exact a.2.elim
     |[_,_],a=>exact a.2.2.elim
     |_::_::_::_::_,a=>exact a.2.2.2.elim
     |[z,D,x],a=>
      exact⟨_,u,a2.cw (l:=[]) (b:=b) (aa:=z) o d.1 a.1,bi.cw (l:=[]) (b:=b) (aa:=D) w d.2.1 a.2.1,a1.cw (l:=[]) (b:=b) (aa:=x) B d.2.2 a.2.2.1,C⟩
    grind
   grind
  grind
 grind⟩
abbrev ea(b:cb)(a:Nat):cW:=b.2.getD a (0,[])
def ie(d:Int)(b:cb)(a:Nat):Bool:=right d (ea b a)&&(a==0||decide ((ea b (a-1)).1<(ea b a).1))
theorem DX(h)(a):h' h a=((aB (c a.2)).all (ie h a)&&(cB h&&decide (1<=a.1)&&decide (a.1<=99)&&decide (1<=c a.2)&&decide (c a.2<=4))):=by
 have j:(a.2.all (right h)&&Ex (a.2.map (·.1)))=(aB (c a.2)).all (ie h a):=by
  rw[pb,cC,List.all_eq_true,List.all_eq_true];unfold Ex;rw[List.all_eq_true];have d:∀e,e<c a.2->(a.2.map (·.1)).getD e 0=(ea a e).1:=λe bp=>by grind
  constructor
  .rintro⟨i,b⟩ e bp;have bp:=sD.1 bp;have k:=b e N;rw[d e bp]at k;unfold ie;rw[i (ea a e) N,fs];rcases ob e with rfl|l
   .rfl
   grind
  intro t;refine⟨λn g=>?_,λe bp=>?_⟩
  .obtain⟨e,bp,rfl⟩:=A0.1 g;exact PO
  have bp:e<c a.2:=N;exact PO
 rw[<-j];unfold h';cases cB h<;>cases decide (1<=a.1)<;>cases decide (a.1<=99)<;>cases decide (1<=c a.2)<;>cases decide (c a.2<=4)<;>simp
def Lk{a}(b:e<c a.2)(d:ie h a e=v):h' h a=v:=by grind[DX]
theorem B1{k}(a:cB h=m):(jN h k).isSome=right h k:=by unfold jN right;grind
def W4(h)(b)(i:cB h=m)(A:c b.2<=4000000):Y q 167 [R h,fD b] [] (bh (h' h b)) []:=by
 refine Y.K func167 rfl λF=>?_;have e:a9 q [(68,da c1 (λh=>bh (cB h)) λ_=>[]),(204,eu sw c1 (λz h=>iN (jN h z)) λ_ h=>[cB h=m])]:=.cons pR (.cons (MY zD) .nil);refine b_ e a C (g.aE 1 (λd=>d<=c b.2/\∀j,j<d->ie h b j=m) (λd:Nat=>[(0,R h),(3,aD 0 0),(10,bH.C b.2),(11,R (c b.2)),(12,R d)]) (λ_=>[.cells 105 [.c (.int .i64 b.1),.c (lw b)]]) (λd=>c b.2-d) 0 a E a E a ⟨by omega,by omega⟩ ?_);rintro d ⟨u,s⟩;by_cases o:d<c b.2
 .cases l:right h (ea b d)with
  |false=>
   have n:(jN h (ea b d)).isSome=v:=by grind[B1]
   refine a8 e [13,24,40] a ds (g.aX (bX.zero a ?_));rw[Lk o (by simp only[ie,l,sJ])];simp
  |true=>
   have n:(!(jN h (ea b d)).isSome)=v:=by grind[B1]
   by_cases y:d=0
   .subst y;refine a8 e [13,-24,-27,-40] a lN (g.ax 1 a E E ⟨by omega,λj k=>?_⟩ x);have:j=0:=x;subst this;simp only[ie,l,fs];rfl
   have K:((d:Int)-1).toNat=d-1:=x;cases r:decide ((ea b (d-1)).1<(ea b d).1)with
   |false=>
    refine a8 e [13,-24,27,38,40] a ?_ (g.aX (bX.zero a ?_))
    .have B:(b.2.getD ((d:Int)-1).toNat bH.I).1=(ea b (d-1)).1:=bJ;refine⟨a,ff ?_,by omega,by omega,by exact bJ,ff x,n,i,by omega,by omega,ff x⟩;rw[B];show(ea b d).1<=_;grind
    rw[Lk o (by simp[ie,l,r,fs,Bool.or_false];grind)];simp
   |true=>
    refine a8 e [13,-24,27,-38,-40] a ?_ (g.ax (d+1) a ?_ ?_ ⟨by omega,λj k=>?_⟩ x)
    .have B:(b.2.getD ((d:Int)-1).toNat bH.I).1=(ea b (d-1)).1:=bJ;refine⟨by exact bJ,a,k9 ?_,by omega,by omega,by exact bJ,ff x,n,i,by omega,by omega,ff x⟩;rw[B];show¬(ea b d).1<=_;grind
    .simp
    .simp
    rcases w9.1 k with k|rfl
    .grind
    simp only[ie,l,r,fs,Bool.or_true]
 have t:d=c b.2:=x;subst t;refine a8 e [-13] a E (g.aB ?_);have w:(aB (c b.2)).all (ie h b)=m:=List.all_eq_true.2 λj k=>s j (sD.1 k);rw[DX,w,i];by_cases I:1<=b.1
 .by_cases J:b.1<=99
  .by_cases M:1<=c b.2
   .by_cases D:c b.2<=4
    .refine a8 e [43,47,52,58,64] a bJ (g.ar a ?_);exact bw
    refine a8 e [43,47,52,58,-64] a bJ (g.ar a ?_);exact bw
   refine a8 e [43,47,52,-58] a ds (g.ar a ?_);exact bw
  refine a8 e [43,47,-52] a ds (g.ar a ?_);exact bw
 refine a8 e [43,-47] a ds (g.ar a ?_);exact bw
def BN:bK:=eu c1 (jE bH) (λa b=>bh (h' a b)) λa b=>[cB a=m,c b.2<=4000000]
def M4:bM q 167 BN:=.bn λb d a=>W4 b d a.1 a.2
def IP(d)(h:c d<=4000000):Y q 116 [a1.C d] [] (cz 0 (.C (c d) 2 0 (c d))) [.q 109 2 (c d) (a1.fn d)]:=by
 refine Y.K func116 rfl λi=>?_;refine aZ a C (g.ez ba a a a a a a λb e=>?_);cases b with
 |true=>
  obtain rfl:=jF (e rfl);refine aZ a C (g.fa 2 109 2 (a1.fn []) a ?_);exact FF
 |false=>
  refine gu [] 7 a C (g.dJ 5 109 2 (a1.fn []) a ?_);refine aZ a ⟨a,a,show(0+c d)*16<=_ by omega⟩ (g.bf [.q 109 2 (c d) (a1.fn d)] a ?_ ?_)
  .simp[bt,cf]
  exact FM
def IR(d)(e:c d<=4000000):Y q 116 [a1.C d] [] (a1.C d) []:=by
 refine Y.K func116 rfl λh=>?_;refine aZ a C (g.ez ba a a a a a a λb w=>?_);cases b with
 |true=>
  exact Ft
 |false=>
  exact aZ a ⟨show(0+c d)*16<=_ by omega,.inl a⟩ Fq
def Uq(d)(e:c d<=4000000):Y q 159 [bH.C d] [] (bH.C d) []:=by
 refine Y.K func159 rfl λh=>?_;refine aZ a C (g.ez ba a a a a a a λb w=>?_);cases b with
 |true=>
  exact Ft
 |false=>
  exact aZ a ⟨show(0+c d)*24<=_ by omega,.inl a⟩ Fq
def Cw(d)(e:c d<=4000000):Y q 57 [aC.C d] [] (aC.C d) []:=by
 refine Y.K func57 rfl λh=>?_;refine aZ a C (g.ez ba a a a a a a λb w=>?_);cases b with
 |true=>
  exact Ft
 |false=>
  exact aZ a ⟨show(0+c d)*8<=_ by omega,.inl a⟩ Fq
def _root_.Go.AM.c0.cT(a:c0 α)(d)(i:e<c d)(b):bt (e+1) (cf e (a.fn (d.take e)) (λg=>[a.a9 (d.getD e b)].getD g [])) (a.fn (d.take (e+1))):=by
 have h:d.take (e+1)=d.take e++[d.getD e b]:=by grind[List.take_add_one]
 have:=a.a0 (d.take e) (d.getD e b);grind
abbrev Hb:bK:=da (e2 bH) (λa=>bH.C a) λa=>[c a<=4000000]
def ad6:bM q 159 Hb:=.bd λb a=>Uq b a
abbrev Hc:bK:=da (e2 aC) (λa=>aC.C a) λa=>[c a<=4000000]
def ad7:bM q 57 Hc:=.bd λb a=>Cw b a
def WZ(b)(d:c b.2<=4000000):Y q 114 [fD b] [] (fD b) []:=by
 refine Y.bm ba func114 rfl rfl rfl λi=>?_;have e:a9 q [(159,Hb)]:=.cons ad6 .nil;refine b_ e a ?_ ?_
 .simp only[U,bH.m];exact⟨bH.U _,d⟩
 refine g.bh () [] ?_ (λj h=>absurd h E);simp[bH.m]
abbrev xL:bK:=da (jE bH) (λa=>fD a) λa=>[c a.2<=4000000]
def ER:bM q 114 xL:=.bd λb a=>WZ b a
def XF(k)(u:c k.2<=4000000)(j:∀r∈k.2,c r.2<=4000000):Y q 115 [iO k] [] (iO k) []:=by
 refine Y.bm ba func115 rfl rfl rfl λt=>?_;have d:a9 q [(57,Hc)]:=.cons ad7 .nil;refine a8 d [902] a C (g.cr 2 1 168 2 (cq.fn []) a a ?_);refine b_ d a C ?_;refine g.aE 4 (λb=>b<=c k.2) (λb:Nat=>[(2,aD 1 0),(3,aD 2 0),(10,cq.C k.2),(11,R (c k.2)),(12,R b)])
  (λb=>[.cells 129 [.c (.int .i64 k.1),.c (.C v 2 (c k.2) (cq.fn k.2))],.cells 129 [.c (.int .i64 0),.c (.C m 0 0 λ_=>[])],.cells 129 [.c (.int .i64 k.1),.w 3 2 b (cq.fn (k.2.take b))],.w 168 2 b (cq.fn (k.2.take b))]) (λb=>c k.2-b) 0 a ?_ a ?_ a x ?_
 .simp
 .simp
 intro b n;by_cases l:b<c k.2
 .have B:k.2.getD b ([],[])∈k.2:=N;refine a8 d [13] a ?_ (g.ax (b+1) a ?_ ?_ ?_ ?_)
  .have o:=j _ B;have e:k.2.getD (b:Int).toNat cq.I=k.2.getD b ([],[]):=N;simp only[U,e,aC.m,a7];exact⟨by omega,C,C,show(b+1)*40<=_ by omega,aC.U _,o,by omega,by omega,ff x⟩
  .simp
  .have e:k.2.getD (b:Int).toNat cq.I=k.2.getD b ([],[]):=N;have h:=cq.cT k.2 l ([],[]);simp only[U.Y,U,e,aC.m,a_,a'];exact⟨bt.same,bt.same,h,h⟩
  .grind
  omega
 obtain rfl:b=c k.2:=x;refine a8 d [-13] a E (g.aB ?_);refine b_ d a C (g.bh () [] ?_ (λs i=>absurd i E));simp
abbrev xM:bK:=da (jE cq) (λa=>iO a) λa=>[c a.2<=4000000,∀b∈a.2,c b.2<=4000000]
def ES:bM q 115 xM:=.bd λb a=>XF b a.1 a.2
abbrev cD:Q:=.c (.C m 0 0 λ_=>[])
def pq(b)(o:c b.1<=4000000)(B:∀l∈b.1,c l.2<=4000000)(s:c b.2.1<=4000000)(I:kx b)(k:c b.2.2<=4000000):
  Y q 66 [bV b] [] (.p (.agg [.S 0 (.C (c b.1) 2 0 (c b.1)),.S 1 (.C (c b.2.1) 2 0 (c b.2.1)),.c (.C v 2 (c b.2.2) (a1.fn b.2.2))])) [.q 105 2 (c b.1) (a2.fn b.1),.q 129 2 (c b.2.1) (bi.fn b.2.1)]:=by
 refine Y.bm ba func66 rfl rfl rfl λr=>?_;have d:a9 q [(114,xL),(115,xM)]:=.cons ER (.cons ES .nil);refine a8 d [902] a C (g.eu 2 0 105 2 (a2.fn []) a a ?_);refine g.eu 2 1 129 2 (bi.fn []) a a ?_;refine b_ d a C ?_;refine g.aE 5 (λe=>e<=c b.1) (λe:Nat=>[(1,aD 0 0),(2,aD 1 0),(3,aD 2 0),(9,a2.C b.1),(10,R (c b.1)),(11,R e)])
  (λe=>[.cells 27 [.c (.C v 2 (c b.1) (a2.fn b.1)),.c (.C v 2 (c b.2.1) (bi.fn b.2.1)),.c (.C v 2 (c b.2.2) (a1.fn b.2.2))],.cells 27 [cD,cD,cD],.cells 27 [.S 3 (.C e 2 0 e),.S 4 (.C 0 2 0 0),cD],.q 105 2 e (a2.fn (b.1.take e)),.q 129 2 0 (bi.fn [])]) (λe=>c b.1-e) 0 a ?_ a ?_ a x ?_
 .simp
 .simp
 intro e h;by_cases t:e<c b.1
 .have ae:b.1.getD e (0,[])∈b.1:=N;have i:b.1.getD (e:Int).toNat a2.I=b.1.getD e (0,[]):=N;refine a8 d [12] a PJ (g.ax (e+1) a E Qj N ?_);omega
 obtain rfl:e=c b.1:=x;rw[c_];refine a8 d [-12] a E (g.aB ?_);refine b_ d a C ?_;refine g.aE 5 (λe=>e<=c b.2.1) (λe:Nat=>[(1,aD 0 0),(2,aD 1 0),(3,aD 2 0),(24,bi.C b.2.1),(25,R (c b.2.1)),(26,R e)])
  (λe=>[.cells 27 [.c (.C v 2 (c b.1) (a2.fn b.1)),.c (.C v 2 (c b.2.1) (bi.fn b.2.1)),.c (.C v 2 (c b.2.2) (a1.fn b.2.2))],.cells 27 [cD,cD,cD],.cells 27 [.S 3 (.C (c b.1) 2 0 (c b.1)),.S 4 (.C e 2 0 e),cD],.q 105 2 (c b.1) (a2.fn b.1),.q 129 2 e (bi.fn (b.2.1.take e))]) (λe=>c b.2.1-e) 0 a ?_ a ?_ a x ?_
 .simp
 .simp
 intro e h;by_cases t:e<c b.2.1
 .have ae:b.2.1.getD e (0,[])∈b.2.1:=N;have i:b.2.1.getD (e:Int).toNat bi.I=b.2.1.getD e (0,[]):=N;refine a8 d [27] a Qx (g.ax (e+1) a E FL N ?_);omega
 obtain rfl:e=c b.2.1:=x;rw[c_];refine a8 d [-27] a E (g.aB ?_);refine b_ d a C (g.aC (IR b.2.2 k) [] a (b_ d a C (g.bh () [3,4] ?_ (λn j=>absurd j E))));simp
def Jr(b)(o:c b.1<=4000000)(B:∀l∈b.1,c l.2<=4000000)(s:c b.2.1<=4000000)(I:kx b)(k:c b.2.2<=4000000):
  Y q 66 [bV b] [] (.p (.agg [.S 0 (.C (c b.1) 2 0 (c b.1)),.S 1 (.C (c b.2.1) 2 0 (c b.2.1)),.S 2 (.C (c b.2.2) 2 0 (c b.2.2))])) [.q 105 2 (c b.1) (a2.fn b.1),.q 129 2 (c b.2.1) (bi.fn b.2.1),.q 109 2 (c b.2.2) (a1.fn b.2.2)]:=by
 refine Y.bm ba func66 rfl rfl rfl λr=>?_;have d:a9 q [(114,xL),(115,xM)]:=.cons ER (.cons ES .nil);refine a8 d [902] a C (g.eu 2 0 105 2 (a2.fn []) a a ?_);refine g.eu 2 1 129 2 (bi.fn []) a a ?_;refine b_ d a C ?_;refine g.aE 5 (λe=>e<=c b.1) (λe:Nat=>[(1,aD 0 0),(2,aD 1 0),(3,aD 2 0),(9,a2.C b.1),(10,R (c b.1)),(11,R e)])
  (λe=>[.cells 27 [.c (.C v 2 (c b.1) (a2.fn b.1)),.c (.C v 2 (c b.2.1) (bi.fn b.2.1)),.c (.C v 2 (c b.2.2) (a1.fn b.2.2))],.cells 27 [cD,cD,cD],.cells 27 [.S 3 (.C e 2 0 e),.S 4 (.C 0 2 0 0),cD],.q 105 2 e (a2.fn (b.1.take e)),.q 129 2 0 (bi.fn [])]) (λe=>c b.1-e) 0 a ?_ a ?_ a x ?_
 .simp
 .simp
 intro e h;by_cases t:e<c b.1
 .have ae:b.1.getD e (0,[])∈b.1:=N;have i:b.1.getD (e:Int).toNat a2.I=b.1.getD e (0,[]):=N;refine a8 d [12] a PJ (g.ax (e+1) a E Qj N ?_);omega
 obtain rfl:e=c b.1:=x;rw[c_];refine a8 d [-12] a E (g.aB ?_);refine b_ d a C ?_;refine g.aE 5 (λe=>e<=c b.2.1) (λe:Nat=>[(1,aD 0 0),(2,aD 1 0),(3,aD 2 0),(24,bi.C b.2.1),(25,R (c b.2.1)),(26,R e)])
  (λe=>[.cells 27 [.c (.C v 2 (c b.1) (a2.fn b.1)),.c (.C v 2 (c b.2.1) (bi.fn b.2.1)),.c (.C v 2 (c b.2.2) (a1.fn b.2.2))],.cells 27 [cD,cD,cD],.cells 27 [.S 3 (.C (c b.1) 2 0 (c b.1)),.S 4 (.C e 2 0 e),cD],.q 105 2 (c b.1) (a2.fn b.1),.q 129 2 e (bi.fn (b.2.1.take e))]) (λe=>c b.2.1-e) 0 a ?_ a ?_ a x ?_
 .simp
 .simp
 intro e h;by_cases t:e<c b.2.1
 .have ae:b.2.1.getD e (0,[])∈b.2.1:=N;have i:b.2.1.getD (e:Int).toNat bi.I=b.2.1.getD e (0,[]):=N;refine a8 d [27] a Qx (g.ax (e+1) a E FL N ?_);omega
 obtain rfl:e=c b.2.1:=x;rw[c_];refine a8 d [-27] a E (g.aB ?_);refine b_ d a C (g.aC (IP b.2.2 k) [] a (b_ d a C (g.bh () [3,4,5] ?_ (λn j=>absurd j E))));simp
def gH(d:α->Bool)(b:n α):Int:=match b.findIdx? d with|some a=>a|none=>-1
def tf{a:α->Bool}{o}{I}(d:e<c o)(h:a (o.getD e I)=m)(g:∀b,b<e->a (o.getD b I)=v):gH a o=e:=by
 have:o.findIdx? a=f e:=by grind[List.findIdx?_eq_some_iff_getElem]
 rw[gH,this]
def tg{a:α->Bool}{o}{I}(d:∀b,b<c o->a (o.getD b I)=v):gH a o=-1:=by have:o.findIdx? a=p:=wN;rw[gH,this]
def Vt(d)(s:c d<=4000000)(i)(ai)(b:cb->Bool)(n:∀k,k∈d->Y q i [fD k,aw (.Q ai)] [] (bh (b k)) []):
  Y q 141 [cz 0 (.C (c d) 2 0 (c d)),aw (.fn (.func i) [] [.Q ai])] [.q 105 2 (c d) (a2.fn d)] (R (gH b d)) [.q 105 2 (c d) (a2.fn d)]:=by
 refine Y.K func141 rfl λr=>?_;refine aZ a C (g.aE 1 (λe=>e<=c d/\∀u,u<e->b (d.getD u (0,[]))=v) (λe:Nat=>[(0,cz 0 (.C (c d) 2 0 (c d))),(1,aw (.fn (.func i) [] [.Q ai])),(7,R (c d)),(8,R e)]) (λ_=>[.q 105 2 (c d) (a2.fn d)]) (λe=>c d-e) 0 a E a E a ⟨by omega,by omega⟩ ?_);rintro e ⟨o,w⟩;by_cases t:e<c d
 .have h:d.getD e (0,[])∈d:=N;have l:d.getD ((0+(e:Int).toNat:Nat)) a2.I=d.getD e (0,[]):=nX;refine a6 [9] a bw ?_;rw[l];refine g.aC (n _ h) [] a ?_;cases B:b (d.getD e (0,[]))with
  |true=>
   exact On
  |false=>
   exact z4
 exact Qb
def Vw(d)(s:c d<=4000000)(i)(ai)(b:eh->Bool)(n:∀k,k∈d->Y q i [iO k,aw (.Q ai)] [] (bh (b k)) []):
  Y q 126 [cz 0 (.C (c d) 2 0 (c d)),aw (.fn (.func i) [] [.Q ai])] [.q 129 2 (c d) (bi.fn d)] (R (gH b d)) [.q 129 2 (c d) (bi.fn d)]:=by
 refine Y.K func126 rfl λr=>?_;refine aZ a C (g.aE 1 (λe=>e<=c d/\∀u,u<e->b (d.getD u (0,[]))=v) (λe:Nat=>[(0,cz 0 (.C (c d) 2 0 (c d))),(1,aw (.fn (.func i) [] [.Q ai])),(7,R (c d)),(8,R e)]) (λ_=>[.q 129 2 (c d) (bi.fn d)]) (λe=>c d-e) 0 a E a E a ⟨by omega,by omega⟩ ?_);rintro e ⟨o,w⟩;by_cases t:e<c d
 .have h:d.getD e (0,[])∈d:=N;have l:d.getD ((0+(e:Int).toNat:Nat)) bi.I=d.getD e (0,[]):=nX;refine a6 [9] a bw ?_;rw[l];refine g.aC (n _ h) [] a ?_;cases B:b (d.getD e (0,[]))with
  |true=>
   exact On
  |false=>
   exact z4
 exact Qb
def Vn(d)(y:c d<=4000000)(i)(ai)(j:(Int×Int)->Bool)(o:∀k,k∈d->Y q i [.p (.agg [.c (.int .i64 k.1),.c (.int .i64 k.2)]),aw (.Q ai)] [] (bh (j k)) []):
  Y q 112 [a1.C d,aw (.fn (.func i) [] [.Q ai])] [] (R (gH j d)) []:=by
 refine Y.K func112 rfl λu=>?_;refine aZ a C (g.aE 0 (λe=>e<=c d/\∀b,b<e->j (d.getD b (0,0))=v) (λe:Nat=>[(0,a1.C d),(1,aw (.fn (.func i) [] [.Q ai])),(7,R (c d)),(8,R e)]) (λ_=>[]) (λe=>c d-e) 0 a E a E a ⟨by omega,by omega⟩ ?_);rintro e ⟨t,l⟩;by_cases s:e<c d
 .have h:d.getD e (0,0)∈d:=N;have n:d.getD (((e:Int).toNat)) a1.I=d.getD e (0,0):=nX;refine a6 [9] a bw ?_;rw[n];refine g.aC (o _ h) [] a ?_;cases r:j (d.getD e (0,0))with
  |true=>
   refine a6 [16] a E (g.aX (bX.mk [] a ?_ a a a ft));simp[tf s r l]
  |false=>
   exact z4
 refine a6 [-9] a bW (g.aB ?_);refine aZ a C (g.aM [] a ?_ ft);simp[tg (λb w=>l b x)]
def yF(b:α->Bool)(d):(gH b d=-1/\∀a∈d,b a=v)∨∃e:Nat,e<c d/\gH b d=e/\(∀a∈d.take e,b a=v)/\(∀a,d[e]?=f a->b a=m):=by unfold gH;grind[List.findIdx?_eq_some_iff_getElem,List.getElem_of_mem]
def NR{eZ bp}{b}(a:¬(eZ<=u/\u<bp)):nS eZ bp b V u=V u:=bl a
theorem ig{a:n α}(d:e<c a)(b:α):a.take (e+1)=a.take e++[a.getD e b]:=by grind[List.take_add_one]
def JF{d}{b:α->Bool}(g:e<c d)(h:∀a∈d.take e,b a=v)(i:∀a,d[e]?=f a->b a=m):(d.take (e+1)).filter (λa=>!b a)=d.take e:=by grind[List.take_add_one,List.filter_eq_self]
def _root_.Go.AM.c0.cS(a:c0 α)(d)(e)(k)(j)(b:j<=c d):bt j (lx e (a.a9 k) (a.fn d)) (a.fn (d.set e k)):=by intro h g;simp only[lx,c0.fn,gv];grind
structure R0(d:n cb)(bc:cb->Bool)(u:Nat)(nR:n cb):Prop where
 fI:u<=c d
 len:c nR=c d
 done:nR.take (c ((d.take u).filter λk=>!bc k))=(d.take u).filter λk=>!bc k
 hO:∀e,u<=e->nR[e]?=d[e]?
def UQ(d)(y:c d<=4000000)(i)(ai)(bc:cb->Bool)(o:∀k,k∈d->Y q i [fD k,aw (.Q ai)] [] (bh (bc k)) []):
  bk (ι:={l:Nat->n O // ∀e,e<c (d.filter λk=>!bc k)->l e=a2.fn (d.filter λk=>!bc k) e}) q 118 [cz 0 (.C (c d) 2 0 (c d)),aw (.fn (.func i) [] [.Q ai])] [.q 105 2 (c d) (a2.fn d)]
   (λ_=>cz 0 (.C (c d) 2 0 (c (d.filter λk=>!bc k)))) (λl=>[.q 105 2 (c d) l.1]):=by
 refine bk.cy func118 rfl rfl rfl λF=>?_;refine aZ a C (g.aC (Vt d y i ai bc o) [0] a ?_);rcases yF bc d with⟨j,z⟩|⟨i0,B,j,z,aa⟩
 .rw[j];have A:d.filter (λk=>!bc k)=d:=sx.2 λk r=>by grind
  refine a6 [12] a E (g.bL ⟨a2.fn d,λe _=>by grind⟩ (g.aM [0] a ?_ h7));simp[A]
 rw[j];refine a6 [-12] a nU ?_;refine g.aE 1 (λb:Nat×n cb=>R0 d bc b.1 b.2) (λb=>[(0,cz 0 (.C (c d) 2 0 (c d))),(1,aw (.fn (.func i) [] [.Q ai])),(5,R (c ((d.take b.1).filter λk=>!bc k))),(6,R b.1)])
  (λb=>[.q 105 2 (c d) (a2.fn b.2)]) (λb=>c d-b.1) (i0+1,d) a ?_ a ?_ a ?_ ?_
 .exact Qk
 .simp
 .exact Ri
 rintro⟨u,I⟩ ⟨s,bb,S,bz⟩;simp only at s bb S bz;by_cases J:u<c d
 .have r:d.getD u (0,[])∈d:=N;have t:c ((d.take u).filter λk=>!bc k)<=u:=fM (kI _ _) N;have D:I.getD (0+(u:Int).toNat) a2.I=d.getD u (0,[]):=N;refine a6 [19] a pY ?_;rw[D];refine g.aC (o _ r) [] a ?_;cases K:bc (d.getD u (0,[]))with
  |false=>
   have h:(d.take (u+1)).filter (λk=>!bc k)=(d.take u).filter (λk=>!bc k)++[d.getD u (0,[])]:=ih;refine a6 [29] a ?_ (g.ax (u+1,I.set (c ((d.take u).filter λk=>!bc k)) (d.getD u (0,[]))) a ?_ ?_ ?_ ?_)
   .simp only[U,a7];grind
   .simp[h]
   .have aj:=a2.cS I (c ((d.take u).filter λk=>!bc k)) (d.getD u (0,[])) (c d) x;exact OX
   .refine⟨by grind,by grind,Po,λe bp=>?_⟩;grind
   grind
  |true=>
   have h:(d.take (u+1)).filter (λk=>!bc k)=(d.take u).filter (λk=>!bc k):=ih;refine a6 [-29] a nU (g.ax (u+1,I) a ?_ ?_ ?_ ?_)
   .simp[h]
   .simp
   .exact Qt
   grind
 obtain rfl:u=c d:=x;rw[c_]at S⊢;have t:c (d.filter λk=>!bc k)<=c d:=kI _ _;refine a6 [-19] a E (g.aB ?_);refine aZ a pY (g.aN (a0.eY ba a a a a a a wM) a a ?_);refine aZ a pY (g.bL ⟨nS (0+bU 0 (f (c (d.filter λk=>!bc k):Int))) (0+bU 0 (f (c (d.filter λk=>!bc k):Int))+(bU (c d) p-bU 0 (f (c (d.filter λk=>!bc k):Int)))) nB.zero (a2.fn I),λe bp=>Q6⟩ (g.aM [0] a ?_ h7));simp[bU];rfl
structure R2(d:n eh)(bc:eh->Bool)(u:Nat)(nR:n eh):Prop where
 fI:u<=c d
 len:c nR=c d
 done:nR.take (c ((d.take u).filter λk=>!bc k))=(d.take u).filter λk=>!bc k
 hO:∀e,u<=e->nR[e]?=d[e]?
def IZ(d)(y:c d<=4000000)(i)(ai)(bc:eh->Bool)(o:∀k,k∈d->Y q i [iO k,aw (.Q ai)] [] (bh (bc k)) []):
  bk (ι:={l:Nat->n O // ∀e,e<c (d.filter λk=>!bc k)->l e=bi.fn (d.filter λk=>!bc k) e}) q 98 [cz 0 (.C (c d) 2 0 (c d)),aw (.fn (.func i) [] [.Q ai])] [.q 129 2 (c d) (bi.fn d)]
   (λ_=>cz 0 (.C (c d) 2 0 (c (d.filter λk=>!bc k)))) (λl=>[.q 129 2 (c d) l.1]):=by
 refine bk.cy func98 rfl rfl rfl λF=>?_;refine aZ a C (g.aC (Vw d y i ai bc o) [0] a ?_);rcases yF bc d with⟨j,z⟩|⟨i0,B,j,z,aa⟩
 .rw[j];have A:d.filter (λk=>!bc k)=d:=sx.2 λk r=>by grind
  refine a6 [12] a E (g.bL ⟨bi.fn d,λe _=>by grind⟩ (g.aM [0] a ?_ h7));simp[A]
 rw[j];refine a6 [-12] a nU ?_;refine g.aE 1 (λb:Nat×n eh=>R2 d bc b.1 b.2) (λb=>[(0,cz 0 (.C (c d) 2 0 (c d))),(1,aw (.fn (.func i) [] [.Q ai])),(5,R (c ((d.take b.1).filter λk=>!bc k))),(6,R b.1)])
  (λb=>[.q 129 2 (c d) (bi.fn b.2)]) (λb=>c d-b.1) (i0+1,d) a ?_ a ?_ a ?_ ?_
 .exact Qk
 .simp
 .exact Ri
 rintro⟨u,I⟩ ⟨s,bb,S,bz⟩;simp only at s bb S bz;by_cases J:u<c d
 .have r:d.getD u (0,[])∈d:=N;have t:c ((d.take u).filter λk=>!bc k)<=u:=fM (kI _ _) N;have D:I.getD (0+(u:Int).toNat) bi.I=d.getD u (0,[]):=N;refine a6 [19] a pY ?_;rw[D];refine g.aC (o _ r) [] a ?_;cases K:bc (d.getD u (0,[]))with
  |false=>
   have h:(d.take (u+1)).filter (λk=>!bc k)=(d.take u).filter (λk=>!bc k)++[d.getD u (0,[])]:=ih;refine a6 [29] a ?_ (g.ax (u+1,I.set (c ((d.take u).filter λk=>!bc k)) (d.getD u (0,[]))) a ?_ ?_ ?_ ?_)
   .simp only[U,a7];grind
   .simp[h]
   .have aj:=bi.cS I (c ((d.take u).filter λk=>!bc k)) (d.getD u (0,[])) (c d) x;exact OX
   .refine⟨by grind,by grind,Po,λe bp=>?_⟩;grind
   grind
  |true=>
   have h:(d.take (u+1)).filter (λk=>!bc k)=(d.take u).filter (λk=>!bc k):=ih;refine a6 [-29] a nU (g.ax (u+1,I) a ?_ ?_ ?_ ?_)
   .simp[h]
   .simp
   .exact Qt
   grind
 obtain rfl:u=c d:=x;rw[c_]at S⊢;have t:c (d.filter λk=>!bc k)<=c d:=kI _ _;refine a6 [-19] a E (g.aB ?_);refine aZ a pY (g.aN (a0.eY ba a a a a a a wM) a a ?_);refine aZ a pY (g.bL ⟨nS (0+bU 0 (f (c (d.filter λk=>!bc k):Int))) (0+bU 0 (f (c (d.filter λk=>!bc k):Int))+(bU (c d) p-bU 0 (f (c (d.filter λk=>!bc k):Int)))) rP.zero (bi.fn I),λe bp=>Q6⟩ (g.aM [0] a ?_ h7));simp[bU];rfl
abbrev dO:=Int×Int×Int×bB
abbrev l4(a:dO):n O:=[.int .i64 a.1,.int .i64 a.2.1,.int .i64 a.2.2.1,.T a.2.2.2]
abbrev vz(a:dO):n Q:=[.c (.int .i64 a.1),.c (.int .i64 a.2.1),.c (.int .i64 a.2.2.1),.c (.T a.2.2.2)]
abbrev eo(a:dO):y:=.p (.agg (vz a))
abbrev iv(a:n O):y:=aw (.Q a)
def VQ(k)(d):Y q 119 [fD k,iv (l4 d)] [] (bh (k.1==d.2.1)) []:=by refine Y.K func119 rfl λb=>?_;exact aZ a C (g.ar a)
def VR(d:Int×Int)(bS)(j)(b:Nat->n O):Y q 122 [.p (.agg [.c (.int .i64 d.1),.c (.int .i64 d.2)]),iv [.int .i64 bS,.C v 2 j b]] [] (bh (d.2==bS)) []:=by refine Y.K func122 rfl λe=>?_;exact aZ a C (g.ar a)
def aap(a:α->Bool)(d):decide (gH a d≥0)=d.any a:=by
 rcases yF a d with⟨b,r⟩|⟨e,bp,b,_,i⟩
 .grind
 rw[b];symm;have:=i _ (bG bp);grind
def Vg(d)(h:c d<=4000000)(bS)(j)(b:Nat->n O):Y q 62 [a1.C d,aw (.fn (.func 122) [] [.Q [.int .i64 bS,.C v 2 j b]])] [] (bh (d.any λe=>e.2==bS)) []:=by refine Y.K func62 rfl λk=>?_;refine aZ a C ?_;refine g.aC (Vn d h 122 [.int .i64 bS,.C v 2 j b] (λe=>e.2==bS) λi _=>VR i bS j b) [] a ?_;refine aZ a C (g.ar a ?_);simp only[U];exact aap _ d
def Wy(k)(b)(d:c b<=4000000):Y q 121 [iO k,iv [.C v 2 (c b) (a1.fn b)]] [] (bh (b.any λe=>e.2==k.1)) []:=by refine Y.K func121 rfl λh=>?_;refine a6 [901] a C ?_;refine g.freeze 2 0 a a a ?_;refine aZ a C ?_;refine g.aC (Vg b d k.1 (c k.2) (cq.fn k.2)) [] a ?_;exact aZ a C (g.ar a)
abbrev xZ(a:Nat)(b:dO):y:=aw (.fn (.func a) [] [.Q (l4 b)])
def UL(d)(t:d.1=1):Y q 67 [eo d] [] (xZ 117 d) []:=by refine Y.K func67 rfl λb=>?_;refine a6 [901] a C ?_;refine g.freeze 1 0 a a a ?_;exact a6 [5] a gA (g.ar a)
def IX(d)(t:d.1=2):Y q 67 [eo d] [] (xZ 120 d) []:=by refine Y.K func67 rfl λb=>?_;refine a6 [901] a C ?_;refine g.freeze 1 0 a a a ?_;exact a6 [-5,8] a gA (g.ar a)
def IY(d)(t:d.1=3):Y q 67 [eo d] [] (xZ 123 d) []:=by refine Y.K func67 rfl λb=>?_;refine a6 [901] a C ?_;refine g.freeze 1 0 a a a ?_;exact a6 [-5,-8,11] a gA (g.ar a)
def UM(d)(t:d.1=4):Y q 67 [eo d] [] (xZ 124 d) []:=by refine Y.K func67 rfl λb=>?_;refine a6 [901] a C ?_;refine g.freeze 1 0 a a a ?_;exact a6 [-5,-8,-11,14] a gA (g.ar a)
def UN(d)(h:d.1≠1)(b:d.1≠2)(i:d.1≠3)(e:d.1≠4):Y q 67 [eo d] [] (aw (.fn (.func 125) [] [])) []:=by refine Y.K func67 rfl λj=>?_;refine a6 [901] a C ?_;refine g.freeze 1 0 a a a ?_;exact a6 [-5,-8,-11,-14] a (by simp[h,b,i,e]) (g.ar a)
abbrev tK(a:n cb):O:=.C v 2 (c a) (a2.fn a)
abbrev tL(a:n eh):O:=.C v 2 (c a) (bi.fn a)
abbrev hU(a:n (Int×Int)):O:=.C v 2 (c a) (a1.fn a)
abbrev tM(a:cj)(g:dO)(h:n an)(b d e:Q):n an:=[.cells 27 [.c (tK a.1),.c (tL a.2.1),.c (hU a.2.2)],.cells 32 (vz g),.cells 27 [cD,cD,cD]]++h++[.cells 27 [b,d,e]]
abbrev dD(a d b:Nat):Q:=.S a (.C d 2 0 b)
def UR(b)(d)(k:c b.1<=4000000):
  bk (ι:={e:Nat->n O // ∀i,i<c (b.1.filter λh=>!(h.1==d.2.1))->e i=a2.fn (b.1.filter λh=>!(h.1==d.2.1)) i}) q 117 [aD 5 0,iv (l4 d)]
   (tM b d [.q 105 2 (c b.1) (a2.fn b.1),.q 129 2 (c b.2.1) (bi.fn b.2.1)] (dD 3 (c b.1) (c b.1)) (dD 4 (c b.2.1) (c b.2.1)) (.c (hU b.2.2)))
   (λ_=>.ae []) (λe=>tM b d [.q 105 2 (c b.1) e.1,.q 129 2 (c b.2.1) (bi.fn b.2.1)] (dD 3 (c b.1) (c (b.1.filter λh=>!(h.1==d.2.1)))) (dD 4 (c b.2.1) (c b.2.1)) (.c (hU b.2.2))):=by refine bk.bR func117 rfl rfl rfl (g.aT ?_);refine aZ a C (g.a8 (UQ b.1 k 119 (l4 d) (λh=>h.1==d.2.1) λh _=>VQ h d) [3] a bm ?_);rintro⟨e,j⟩;exact aZ a C ⟨⟨e,j⟩,.inr a,a,a,_,_,_,a,a,a,C⟩
def WU(l)(d:jU l=m)(b):Y q 125 [.p (.R b)] l (.ae []) l:=by refine bk.toY (bk.bR (ι:=Unit) (res:=λ_=>.ae []) (ao:=λ_=>l) func125 rfl rfl rfl (g.aT ?_));refine aZ a C ?_;exact⟨(),.inr a,a,d,_,_,_,a,a,a,C⟩
abbrev mV(a:cj)(b:dO):n an:=tM a b [.q 105 2 (c a.1) (a2.fn a.1),.q 129 2 (c a.2.1) (bi.fn a.2.1)] (dD 3 (c a.1) (c a.1)) (dD 4 (c a.2.1) (c a.2.1)) (.c (hU a.2.2))
def jr(d:Nat)(a:n (Int×Int))(e:eh):Bool:=(a.drop d).any λb=>b.2==e.1
def T_(b)(d:dO)(e:d.2.1<0∨d.2.1>c b.2.2):Y q 120 [aD 5 0,iv (l4 d)] (mV b d) (.ae []) (mV b d):=by
 refine bk.toY (bk.bR (ι:=Unit) (res:=λ_=>.ae []) (ao:=λ_=>mV b d) func120 rfl rfl rfl (g.aT ?_));by_cases w:d.2.1<0
 .exact a6 [7,16] a o3 OB
 exact a6 [-7,16] a bW OB
def _root_.Go.AM.c0.hc(a:c0 α)(d)(j z):bt z (fA j (a.fn d)) (a.fn (d.drop j)):=λb _=>by simp[fA,c0.fn,gv,al]
abbrev Ix:y:=aD 5 0
abbrev Ho(b:cj)(a:dO):O:=.C (xX v p) 2 (bU (c b.2.2) p-bU 0 (f a.2.1)) (fA (bU 0 (f a.2.1)) (a1.fn b.2.2))
def nA(b:cj)(a:dO)(d:Nat)(e:a.2.1=d)(g:d<=c b.2.2):U (ji (c b.2.2) (f a.2.1) p):=by show 0<=a.2.1/\a.2.1<=(c b.2.2:Int);omega
def T'(b:cj)(d:dO)(j:Nat)(i:d.2.1=j)(t:j<=c b.2.2)(s:c b.2.1<=4000000)(w:c b.2.2<=4000000):
  bk (ι:={e:Nat->n O // ∀h,h<c (b.2.1.filter λk=>!jr j b.2.2 k)->e h=bi.fn (b.2.1.filter λk=>!jr j b.2.2 k) h}) q 120 [aD 5 0,iv (l4 d)] (mV b d) (λ_=>.ae [])
   (λe=>tM b d [.q 105 2 (c b.1) (a2.fn b.1),.q 129 2 (c b.2.1) e.1] (dD 3 (c b.1) (c b.1)) (dD 4 (c b.2.1) (c (b.2.1.filter λk=>!jr j b.2.2 k))) (.c (.C v 2 d.2.1.toNat (a1.fn b.2.2)))++[.M]):=by
 refine bk.bR func120 rfl rfl rfl (g.aT ?_);have o:d.2.1.toNat=j:=x;refine a6 [-7,-16,901] a pY ?_;refine g.hG (ι:=Unit) b5 7 8 (λh=>ay h 6) (λh=>[Ix,Ix,aD 5 2,aw (hU b.2.2),iv [.int .i64 d.2.1,.int .i64 d.2.2.1,.T d.2.2.2],R d.2.1,aw (Ho b d)].getD h .any) (λ_ h=>[.any,.any,.any,.any,.any,.any,.any,aD 6 0,.any].getD h .any)
  (λ_=>mV b d++[.cells 25 [cD]]) (λ_=>mV b d++[.cells 25 [.c (Ho b d)]]) a a a a a a a a a a
  ⟨aJ.x,aJ.x,aJ.x,aJ.x,aJ.x,aJ.x,?_,C,C,C⟩
  (λ_=>⟨aJ.x,aJ.x,aJ.x,aJ.x,aJ.x,aJ.x,?_,C,C⟩)
  (dx.di (dS (bg:=[]) ba a9.nil (ao:=f _) (cg:=[]) a C)) (λ_=>dS (bg:=[]) ba a9.nil (ao:=f _) (cg:=[]) a C) λ_=>?_
 .exact QK
 .exact QK
 refine a6 [902] a C (g.bf (mV b d++[.cells 25 [.c (hU (b.2.2.drop j))]]) a ?_ ?_)
 .have r:=a1.hc b.2.2 j (c b.2.2-j);have u:bU 0 (f d.2.1)=j:=o;simp only[U.Y,U,u,a_,a',sA];exact⟨⟨bt.same,bt.same,bt.same⟩,⟨bt.same,bt.same,bt.same⟩,bt.same,bt.same,bt.same,a,r⟩
 refine g.freeze 3 6 a a a ?_;refine aZ a C (g.a8 (IZ b.2.1 s 121 [hU (b.2.2.drop j)] (jr j b.2.2) λk _=>Wy k (b.2.2.drop j) bW) [4] a bm ?_);rintro⟨e,l⟩;exact aZ a ⟨show 0<=d.2.1 by omega,Int.le_refl _,show d.2.1<=(c b.2.2:Int) by omega⟩ ⟨⟨e,l⟩,.inr a,a,a,_,_,_,a,a,a,C⟩
abbrev oW(a:cj)(d:dO)(b:Nat->n O):n an:=tM a d [.q 105 2 (c a.1) (a2.fn a.1),.q 129 2 (c a.2.1) (bi.fn a.2.1),.q 109 2 (c a.2.2) b] (dD 3 (c a.1) (c a.1)) (dD 4 (c a.2.1) (c a.2.1)) (dD 5 (c a.2.2) (c a.2.2))
abbrev yq(b:cj)(a:dO):Nat->n O:=lx (0+a.2.1.toNat) [.int .i64 (3-(b.2.2.getD (0+a.2.1.toNat) a1.I).1),.int .i64 (b.2.2.getD (0+a.2.1.toNat) a1.I).2] (a1.fn b.2.2)
def U1(b)(d:dO)(h:¬(0<=d.2.1/\d.2.1<c b.2.2)):Y q 124 [aD 6 0,iv (l4 d)] (oW b d (a1.fn b.2.2)) (.ae []) (oW b d (a1.fn b.2.2)):=by
 refine bk.toY (bk.bR (ι:=Unit) (res:=λ_=>.ae []) (ao:=λ_=>oW b d (a1.fn b.2.2)) func124 rfl rfl rfl (g.aT ?_));by_cases e:0<=d.2.1
 .exact a6 [6,-15] a (by simp[e];omega) O7
 exact a6 [-6,-15] a bW O7
abbrev x5:y:=aD 6 0
abbrev Iy:y:=aD 6 2
abbrev It(a:cj):y:=.p (.R (dD 5 (c a.2.2) (c a.2.2)))
abbrev x1(b:cj)(a:dO):y:=cz 5 (.bz (c b.2.2) 2 (0+a.2.1.toNat) 0)
abbrev Iw(a:dO):y:=iv [.int .i64 a.2.1,.int .i64 a.2.2.1,.T a.2.2.2]
abbrev lA(b:cj)(a:dO):Int:=(b.2.2.getD (0+a.2.1.toNat) a1.I).1
def U2(b)(d:dO)(k:0<=d.2.1)(j:d.2.1<c b.2.2)(i:a7 .i64 (3-lA b d)):Y q 124 [aD 6 0,iv (l4 d)] (oW b d (a1.fn b.2.2)) (.ae []) (oW b d (yq b d)):=by
 refine bk.toY (bk.bR (ι:=Unit) (res:=λ_=>.ae []) (ao:=λ_=>oW b d (yq b d)) func124 rfl rfl rfl (g.aT ?_));refine a6 [6,15,901] a pY ?_;have ck:0<=d.2.1/\d.2.1<((c b.2.2:Nat):Int):=⟨k,j⟩;have h:c b.2.2=c b.2.2/\0+d.2.1.toNat<c b.2.2:=⟨rfl,by omega⟩
 refine g.hG (ι:=Unit) b5 0 18 (λe=>ay 4 e&&ay e 15) (λe=>[.any,.any,.any,.any,Iw d,R d.2.1,x5,x5,Iy,It b,Iw d,R d.2.1,x1 b d,x1 b d,R (lA b d),R (3-lA b d)].getD e .any) (λ_ e=>[x5,x5,Iy,It b,.any,.any,.any,.any,.any,.any,.any,.any,.any,.any,.any,.any,x1 b d,x1 b d,.any].getD e .any)
  (λ_=>oW b d (a1.fn b.2.2)) (λ_=>oW b d (yq b d)) a a a a a a a a a a
  ⟨C,C,C,C,aJ.x,aJ.x,aJ.x,aJ.x,aJ.x,aJ.x,aJ.x,aJ.x,?_,aJ.x,?_,?_,C,C,C,C⟩
  (λ_=>⟨C,aJ.x,aJ.x,aJ.x,aJ.x,aJ.x,aJ.x,aJ.x,aJ.x,aJ.x,aJ.x,aJ.x,?_,aJ.x,?_,?_,?_,aJ.x,C⟩)
  (dx.di (aJ.x)) (λ_=>?_) λ_=>?_
 .exact Fm
 .exact aJ.eval (bg:=[]) ba a9.nil a h
 .exact aJ.eval (bg:=[]) ba a9.nil a i
 .exact Fm
 .exact aJ.eval (bg:=[]) ba a9.nil a h
 .exact aJ.eval (bg:=[]) ba a9.nil a i
 .exact Fm
 .exact dS (bg:=[]) ba a9.nil (ao:=f _) a h
 exact Rk
def VB(j eZ bp):Y q 29 [R j,R eZ,R bp] [] (bh (decide (eZ<=j/\j<=bp))) []:=by
 refine Y.K func29 rfl λd=>?_;by_cases b:eZ<=j
 .by_cases r:j<=bp
  .refine a6 [10,14] a bW (g.ar a ?_);exact bw
  refine a6 [10,-14] a bW (g.ar a ?_);simp;omega
 refine a6 [-10,-14] a bW (g.ar a ?_);simp;omega
abbrev jM:bK:=kj c1 c1 c1 (λd b a=>bh (decide (b<=d/\d<=a))) λ_ _ _=>[]
def kA:bM q 29 jM:=.c5 λd b a _=>VB d b a
def Uo(b:Nat)(k:b<=4000000):Y q 254 [R b] [] (R (e5 b)) []:=by
 refine Y.K func254 rfl λj=>?_;by_cases i:b<1
 .refine a6 [6,9] a bW (g.ar a ?_);have:e5 b=0:=by simp[e5,i]
  simp[this]
 by_cases h:8<b
 .refine a6 [-6,9] a bW (g.ar a ?_);have:e5 b=0:=by simp[e5,h]
  simp[this]
 by_cases d:b<=2
 .refine a6 [-6,-9,10] a bW (g.ar a ?_);have:e5 b=2:=by simp only[e5,bl (show¬(b<1∨8<b) by omega),br d]
  simp[this]
 by_cases e:b<=4
 .refine a6 [-6,-9,-10,13] a bW (g.ar a ?_);have:e5 b=4:=by simp only[e5,bl (show¬(b<1∨8<b) by omega),bl d,br e]
  simp[this]
 refine a6 [-6,-9,-10,-13] a bW (g.ar a ?_);have:e5 b=8:=by simp only[e5,bl (show¬(b<1∨8<b) by omega),bl d,bl e]
 simp[this]
def VA(d)(e)(n:c d<=4000000):Y q 199 [bR.C d,b0 e] [] (bh (d.contains e)) []:=by
 refine Y.K func199 rfl λl=>?_;refine aZ a C (g.aE 0 (λb=>b<=c d/\∀i,i<b->d.getD i []≠e) (λb:Nat=>[(0,bR.C d),(1,b0 e),(5,R b)]) (λ_=>[]) (λb=>c d-b) 0 a E a E a ⟨by omega,by omega⟩ ?_);rintro b ⟨j,k⟩;by_cases s:b<c d
 .have h:d.getD (b:Int).toNat bR.I=d.getD b []:=N;by_cases o:d.getD b []=e
  .refine a6 [9,17] a ?_ (g.aX (bX.zero a ?_))
   .simp only[U,h];grind
   have:e∈d:=N;simp[this]
  refine a6 [9,-17] a ?_ (g.ax (b+1) a ?_ ?_ ?_ ?_)
  .simp only[U,h,a7];grind
  .simp
  .simp
  .grind
  omega
 refine a6 [-9] a bW (g.aB ?_);refine aZ a C (g.ar a ?_);have:¬e∈d:=λr=>by grind[List.getElem_of_mem]
 simp[this]
def Us(b)(d:cE b=m):Y q 227 [b0 b] [] (R (ga b)) []:=by
 refine Y.K func227 rfl λn=>?_;have j:=d;simp[cE,cC,bA]at j;refine aZ a C (g.aE 0 (λe=>e<=c b) (λe:Nat=>[(0,b0 b),(3,R (ga (b.take e))),(4,R e)]) (λ_=>[]) (λe=>c b-e) 0 a (by simp[ga]) a E a x ?_);intro e i;by_cases k:e<c b
 .have B:=xQ d i;have r:=xQ d (e:=e+1) x;have o:=H1 k;have s:=qL j.2 (b.getD e 0) (Da k);have l:97<=dj b e/\dj b e<=122:=E';refine a6 [8] a ?_ (g.ax (e+1) a ?_ ?_ ?_ ?_)
  .simp only[U,ki,a7];grind
  .have h:(dj b e-97) % 256=dj b e-97:=Int.emod_eq_of_lt x x;exact bJ
  .simp
  .grind
  grind
 obtain rfl:e=c b:=x;exact P3
def ad9:bM q 227 (da eF (λa=>R (ga a)) λa=>[cE a=m]):=.bd λa b=>Us a b
def WM(h)(b)(d:cB h=m)(i:cE b=m):Y q 186 [R h,b0 b] [] (R (e9 h b)) []:=by
 refine Y.K func186 rfl λo=>?_;have n:a9 q [(227,da eF (λb=>R (ga b)) λb=>[cE b=m])]:=.cons ad9 .nil;have e:=d;simp[cB,cC,bA]at e;have j:=xP i;refine b_ n a ?_ (g.ar a ?_)
 .have l:0<=ga b*(2*h+1):=Int.mul_nonneg j.1 x;have k:ga b*(2*h+1)<=282429536481*199:=Int.mul_le_mul x x x x;generalize ga b*(2*h+1)=r at l k;simp[U,a7];grind
 exact bJ
def zC:bM q 186 (eu c1 eF (λa b=>R (e9 a b)) λa b=>[cB a=m,cE b=m]):=.bn λa b d=>WM a b d.1 d.2
def U0(d)(j)(o:c d<=4000000):Y q 198 [e3.C d,R j] [] (R (ll d j)) []:=by
 refine Y.K func198 rfl λn=>?_;refine aZ a C (g.aE 0 (λb=>b<=c d/\∀i,i<b->(d.getD i (0,0)).1≠j) (λb:Nat=>[(0,e3.C d),(1,R j),(5,R b)]) (λ_=>[]) (λb=>c d-b) 0 a E a E a ⟨by omega,by omega⟩ ?_);rintro b ⟨k,l⟩;by_cases s:b<c d
 .have h:d.getD (b:Int).toNat e3.I=d.getD b (0,0):=N;by_cases r:(d.getD b (0,0)).1=j
  .refine a6 [9,18] a ?_ (g.aX (bX.zero a ?_))
   .simp only[U,h];grind
   have:ll d j=(d.getD b (0,0)).2:=by
    have:d.find? (λe=>e.1==j)=f (d.getD b (0,0)):=by grind[List.find?_eq_some_iff_getElem]
    rw[ll,this]
   simp_all
  refine a6 [9,-18] a ?_ (g.ax (b+1) a ?_ ?_ ?_ ?_)
  .simp only[U,h,a7];grind
  .simp
  .simp
  .grind
  omega
 refine a6 [-9] a bW (g.aB ?_);refine aZ a C (g.ar a ?_);have:ll d j=0:=by have:d.find? (λe=>e.1==j)=p:=wN;rw[ll,this]
 simp[this]
theorem HY(a:1<=j)(b:j<=8):j<=e5 j/\e5 j<=8:=F8
abbrev Hd:bK:=da c1 (λa=>R (e5 a.toNat)) λa=>[0<=a/\a<=4000000]
def ad8:bM q 254 Hd:=.bd λb d=>by
 obtain⟨a,rfl⟩:∃a:Nat,b=a:=⟨b.toNat,by exact lN⟩
 exact Uo a lN
def W'(b)(i:cE b=m):Y q 203 [b0 b] [] (b0 (fE b)) []:=by
 refine Y.K func203 rfl λk=>?_;have e:a9 q [(254,Hd)]:=.cons ad8 .nil;have h:=i;simp only[cE,cC,bA]at h;have n:=HY h.1.1 h.1.2;refine b_ e a bw (g.aE 0 (λd=>c b+d<=e5 (c b)) (λd:Nat=>[(0,b0 (b++aY d 46)),(3,R (e5 (c b)))]) (λ_=>[]) (λd=>e5 (c b)-d) 0 a E a E a x ?_);intro d l;by_cases o:c b+d<e5 (c b)
 .refine a8 e [10] a bW (g.ax (d+1) a ?_ ?_ ?_ ?_)
  .simp[List.replicate_succ']
  .simp
  .grind
  grind
 have j:e5 (c b)-c b=d:=x;refine a8 e [-10] a bW (g.aB ?_);refine b_ e a C (g.ar a ?_);simp[fE,i,j]
def XQ(b):Y q 200 [.p (.agg [.c (.int .i64 b.1),.c (.int .i64 b.2)])] [] (bh (gx b)) []:=by
 refine Y.K func200 rfl λh=>?_;have e:a9 q [(29,jM)]:=.cons kA .nil;by_cases d:0<=b.1/\b.1<=999999999988
 .by_cases i:1<=b.2/\b.2<=99
  .refine a8 e [6,10] a (by simp[d,i]) (g.ar a ?_);have:gx b=m:=by simp[gx,d,i];omega
   simp[this]
  refine a8 e [6,-10] a (by simp[d,i]<;>omega) (g.ar a ?_);have:gx b=v:=by simp[gx,d];omega
  simp[this]
 refine a8 e [-6,-10] a bW (g.ar a ?_);have:gx b=v:=by simp[gx];omega
 simp[this]
abbrev HL:bK:=da p' (λa=>bh (gx a)) λ_=>[]
def aeO:bM q 200 HL:=.bd λa _=>XQ a
def Kf{a:α->Bool}{d}(b:d.any a=m):0<=gH a d:=by unfold gH;grind
theorem aaq{a:α->Bool}{d}(b:d.any a=v):gH a d=-1:=by unfold gH;grind
def Vo(d)(i)(b:Int×Int->Bool)(o:∀h,h∈d->Y q i [.p (.agg [.c (.int .i64 h.1),.c (.int .i64 h.2)])] [] (bh (b h)) []):
  Y q 112 [a1.C d,aw (.fn (.func i) [] [])] [] (R (gH b d)) []:=by
 refine Y.K func112 rfl λl=>?_;have r:=l.C 0 a;refine aZ a C (g.b_ (λe=>e<=c d/\∀u,u<e->b (d.getD u (0,0))=v) (λe:Nat=>[(0,a1.C d),(1,aw (.fn (.func i) [] [])),(7,R (c d)),(8,R e)]) (λ_=>[]) (λe=>c d-e) 0 a E a C ⟨by omega,by omega⟩ ?_);rintro e ⟨n,w⟩;by_cases t:e<c d
 .have j:d.getD e (0,0)∈d:=N;have k:d.getD (e:Int).toNat a1.I=d.getD e (0,0):=N;refine a6 [9] a bw ?_;rw[k];refine g.aC (o _ j) [] a ?_;cases z:b (d.getD e (0,0))with
  |true=>
   exact OZ
  |false=>
   exact OD
 exact Om
def Va(d)(h)(b:Int×Int->Bool)(i:∀e,e∈d->Y q h [.p (.agg [.c (.int .i64 e.1),.c (.int .i64 e.2)])] [] (bh (b e)) []):
  Y q 62 [a1.C d,aw (.fn (.func h) [] [])] [] (bh (d.any b)) []:=by
 refine Y.K func62 rfl λj=>?_;refine aZ a C (g.aC (Vo d h b i) [] a ?_);cases t:d.any b with
 |true=>
  exact OJ
 |false=>
  exact Pq
def Vu(d)(i)(ai)(b:cb->Bool)(o:∀h,h∈d->Y q i [fD h,aw (.Q ai)] [] (bh (b h)) []):
  Y q 141 [a2.C d,aw (.fn (.func i) [] [.Q ai])] [] (R (gH b d)) []:=by
 refine Y.K func141 rfl λl=>?_;have r:=l.C 0 a;refine aZ a C (g.b_ (λe=>e<=c d/\∀u,u<e->b (d.getD u (0,[]))=v) (λe:Nat=>[(0,a2.C d),(1,aw (.fn (.func i) [] [.Q ai])),(7,R (c d)),(8,R e)]) (λ_=>[]) (λe=>c d-e) 0 a E a C ⟨by omega,by omega⟩ ?_);rintro e ⟨n,w⟩;by_cases t:e<c d
 .have j:d.getD e (0,[])∈d:=N;have k:d.getD (e:Int).toNat a2.I=d.getD e (0,[]):=N;refine a6 [9] a bw ?_;rw[k];refine g.aC (o _ j) [] a ?_;cases z:b (d.getD e (0,[]))with
  |true=>
   exact OZ
  |false=>
   exact OD
 exact Om
def Vd(d)(e)(ai)(b:cb->Bool)(i:∀h,h∈d->Y q e [fD h,aw (.Q ai)] [] (bh (b h)) []):
  Y q 88 [a2.C d,aw (.fn (.func e) [] [.Q ai])] [] (bh (d.any b)) []:=by
 refine Y.K func88 rfl λj=>?_;refine aZ a C (g.aC (Vu d e ai b i) [] a ?_);cases t:d.any b with
 |true=>
  exact OJ
 |false=>
  exact Pq
def Vs(d)(i)(ai)(H:Z->(Nat->Option Obj)->Prop)(h:Int->Bool)(t:∀k,k∈d->Y q i [R k,aw (.Q ai)] [.J H] (bh (h k)) [.J H]):
  Y q 139 [aC.C d,aw (.fn (.func i) [] [.Q ai])] [.J H] (R (gH h d)) [.J H]:=by
 refine Y.K func139 rfl λo=>?_;have w:=o.C 0 a;refine aZ a C (g.aE 1 (λe=>e<=c d/\∀b,b<e->h (d.getD b 0)=v) (λe:Nat=>[(0,aC.C d),(1,aw (.fn (.func i) [] [.Q ai])),(7,R (c d)),(8,R e)]) (λ_=>[.J H]) (λe=>c d-e) 0 a E a E a ⟨by omega,by omega⟩ ?_);rintro e ⟨s,l⟩;by_cases r:e<c d
 .have j:d.getD e 0∈d:=N;have n:d.getD (e:Int).toNat aC.I=d.getD e 0:=N;refine a6 [9] a bw ?_;rw[n];refine g.aC (t _ j) [0] a ?_;cases u:h (d.getD e 0)with
  |true=>
   refine a6 [16] a E (g.aX (bX.mk [0] a ?_ a a a h7));simp[tf r u l]
  |false=>
   exact z4
 refine a6 [-9] a bW (g.aB ?_);refine aZ a C (g.aM [0] a ?_ h7);simp[tg (λb y=>l b x)]
def Vb(d)(e)(ai)(H:Z->(Nat->Option Obj)->Prop)(b:Int->Bool)(i:∀h,h∈d->Y q e [R h,aw (.Q ai)] [.J H] (bh (b h)) [.J H]):
  Y q 85 [aC.C d,aw (.fn (.func e) [] [.Q ai])] [.J H] (bh (d.any b)) [.J H]:=by
 refine Y.K func85 rfl λk=>?_;refine aZ a C (g.aC (Vs d e ai H b i) [0] a ?_);cases j:d.any b with
 |true=>
  refine a6 [8] a (ff (Kf j)) (g.aM [0] a ?_ h7);simp
 |false=>
  refine a6 [-8] a (k9 N_) (g.aM [0] a ?_ h7);simp
def GG(b:s.op=.call {callee:=.builtin .append,args:=#[k,X],argTypes:=#[103,103]}):j6 T s k X 153 l1:=
 ⟨⟨103,103,Dh,Dh,b,(ba _ _ a),rfl,(ba _ _ a),rfl⟩,(ba _ _ a),by decide,by decide⟩
def Hm(d)(j):∀a,a<j->∀e∈bH.fn d a,nw e=m:=by
 intro a _ e b;have:bH.fn d a=[.int .i64 (d.getD a bH.I).1,.T (d.getD a bH.I).2]:=rfl;rw[this]at b;rcases fr.1 b with rfl|b
 .rfl
 rcases fr.1 b with rfl|b
 .rfl
 grind
abbrev p6(a:n cW):Type:={b:fl×n Z // ek 2 (c a) (bH.fn a) b.2}
abbrev tx(d)(a:p6 d):an:=.J (cm 153 2 a.1.1 (c d) a.1.2)
abbrev r3(d)(a:p6 d):O:=.val (cY a.1.1 (c d))
def Ur(d)(i:0<c d)(k:c d<=4000000):bk (ι:=p6 d) q 159 [bH.C d] [] (λb=>aw (r3 d b)) (λb=>[tx d b]):=by
 refine bk.cy func159 rfl rfl rfl λj=>?_;refine aZ a C (g.ez ba a a a a a a λh l=>?_);cases h with
 |true=>grind
 |false=>
  refine gu [] 7 a C (g.fF (GG a) a a a i Af (Hm d _) a a λb=>?_);refine aZ a C (g.bL b (g.aM [0] a ?_ (λn e=>absurd e E)));simp
def W0(b)(h:0<c b.2)(e:c b.2<=4000000):bk (ι:=p6 b.2) q 114 [fD b] [] (λd=>.p (.agg [.c (.int .i64 b.1),.c (r3 b.2 d)])) (λd=>[tx b.2 d]):=by refine bk.bB ba func114 rfl rfl rfl λj=>?_;refine aZ a C ?_;refine g.a8 (Ur b.2 h e) [] a bm ?_;intro d;refine aZ a C ?_;refine g.bh d [2] ?_ (λk i=>absurd i E);simp
def nC(a:n cb)(b:Nat)(e:Z)(d:Nat):O:=if d=b then .val e else .C v 2 (a.getD d (0,[])).2.length (bH.fn (a.getD d (0,[])).2)
def gf(a:n cb)(b:Nat)(e:Z)(d:Nat):n O:=[.int .i64 (a.getD d (0,[])).1,nC a b e d]
def Lz{ab}{i0}{bz}(t:e≠i0):bt (e+1) (cf e (gf ab i0 bz) (λb=>[a2.a9 (ab.getD e (0,[]))].getD b [])) (gf ab i0 bz):=λa d=>by
 unfold cf;split
 .rfl
 have:a=e:=x;subst this;rw[uI];exact Ff
def LA{ab}{i0}{bz E2}:bt (i0+1) (cf i0 (gf ab i0 E2) (λb=>[[.int .i64 (ab.getD i0 (0,[])).1,.val bz]].getD b [])) (gf ab i0 bz):=λa d=>by
 unfold cf;split
 .simp only[gf,nC,bl (show a≠i0 by omega)]
 have:a=i0:=x;subst this;rw[uI];simp only[gf,nC,br];rfl
abbrev S3:Type:=Nat×fl×Nat×n Z
def I3(b:n cb)(a:Nat)(d:S3):Prop:=d.1<=c b/\((d.1<=a/\d.2.2.1=0)∨(a<d.1/\d.2.2.1=(b.getD a (0,[])).2.length/\ek 2 (b.getD a (0,[])).2.length (bH.fn (b.getD a (0,[])).2) d.2.2.2))
abbrev abE(a:S3):an:=.J (cm 153 2 a.2.1 a.2.2.1 a.2.2.2)
abbrev nP(a:S3):Z:=cY a.2.1 a.2.2.1
def XU(b)(i0)(V:i0<c b.1)(K:0<(b.1.getD i0 (0,[])).2.length)(y:c b.1<=4000000)(z:∀e∈b.1,c e.2<=4000000)(X:c b.2.1<=4000000)(J:kx b)(S:c b.2.2<=4000000):
  bk (ι:=p6 (b.1.getD i0 (0,[])).2) q 66 [bV b] [] (λ_=>.p (.agg [.S 0 (.C (c b.1) 2 0 (c b.1)),.S 1 (.C (c b.2.1) 2 0 (c b.2.1)),.c (.C v 2 (c b.2.2) (a1.fn b.2.2))]))
   (λj=>[.q 105 2 (c b.1) (gf b.1 i0 (cY j.1.1 (b.1.getD i0 (0,[])).2.length)),.q 129 2 (c b.2.1) (bi.fn b.2.1),tx (b.1.getD i0 (0,[])).2 j]):=by
 refine bk.bB ba func66 rfl rfl rfl λW=>?_;have k:a9 q [(114,xL),(115,xM)]:=.cons ER (.cons ES .nil);refine a8 k [902] a C (g.eu 2 0 105 2 (a2.fn []) a a ?_);refine g.eu 2 1 129 2 (bi.fn []) a a ?_;refine g.fj 153 2 ?_;refine b_ k a C ?_;refine g.aE 6 (I3 b.1 i0) (λn:S3=>[(1,aD 0 0),(2,aD 1 0),(3,aD 2 0),(9,a2.C b.1),(10,R (c b.1)),(11,R n.1)])
  (λn=>[.cells 27 [.c (.C v 2 (c b.1) (a2.fn b.1)),.c (.C v 2 (c b.2.1) (bi.fn b.2.1)),.c (.C v 2 (c b.2.2) (a1.fn b.2.2))],.cells 27 [cD,cD,cD],.cells 27 [.S 3 (.C n.1 2 0 n.1),.S 4 (.C 0 2 0 0),cD],.q 105 2 n.1 (gf b.1 i0 (nP n)),.q 129 2 0 (bi.fn []),abE n]) (λn=>c b.1-n.1) (0,.nil p,0,[]) a ?_ a ?_ a ⟨by omega,.inl ⟨by omega,rfl⟩⟩ ?_
 .simp
 .simp
 rintro⟨d,h,o,l⟩ ⟨s,w⟩;simp only at s w;by_cases t:d<c b.1
 .have u:b.1.getD d (0,[])∈b.1:=N;have i:b.1.getD (d:Int).toNat a2.I=b.1.getD d (0,[]):=N;by_cases B:d=i0
  .subst B;have D:o=0:=by rcases w with⟨_,Q⟩|⟨O,_⟩<;>omega
   have M:=z _ u;refine a8 k [12,905] a bw ?_;rw[i];generalize F:b.1.getD d (0,[])=e at *;refine g.eI (ι:=p6 e.2) b5 3 5 4 (λr=>ay r 2) (λr=>[aD 2 0,cz 3 (.C d 2 0 d),fD e].getD r .any) (λj r=>[.any,.any,.any,.p (.agg [.c (.int .i64 e.1),.c (r3 e.2 j)]),aw (.C m 2 1 (λA=>[[.int .i64 e.1,r3 e.2 j]].getD A []))].getD r .any)
    (λj=>[.cells 27 [.c (.C v 2 (c b.1) (a2.fn b.1)),.c (.C v 2 (c b.2.1) (bi.fn b.2.1)),.c (.C v 2 (c b.2.2) (a1.fn b.2.2))],.cells 27 [cD,cD,cD],.cells 27 [.S 3 (.C d 2 0 d),.S 4 (.C 0 2 0 0),cD],.q 105 2 d (gf b.1 d (cY h o)),.q 129 2 0 (bi.fn []),.J (cm 153 2 h o l),.cells 105 [.c (.int .i64 e.1),.c (.C v 2 (c e.2) (bH.fn e.2))],tx e.2 j])
    rfl rfl rfl rfl rfl rfl rfl (λr t=>by have:=fe t;omega) rfl
    ⟨aJ.x,aJ.x,aJ.x,C,C,C,C,C,C⟩
    (λj=>⟨aJ.x,aJ.x,aJ.x,C,aJ.x,C⟩)
    (dx.dp (W0 e K M) [] a a a a a a a bm a bm) λj=>?_
   refine a8 k [906] a Oq (g.swap 5 7 b9 a a (λ_ _ t=>t.1) (λ_ _ t=>t.1) ?_);refine b_ k a bJ (g.ax (d+1,j.1.1,c e.2,j.1.2) a E ?_ ?_ ?_)
   .have aj:=LA (ab:=b.1) (i0:=d) (bz:=cY j.1.1 (c e.2)) (E2:=cY h o);rw[F]at aj;simp only[U.Y,U,a_,a'];exact⟨⟨bt.same,bt.same,bt.same⟩,⟨bt.same,bt.same,bt.same⟩,⟨a,bt.same⟩,aj,bt.same⟩
   .refine⟨by grind,.inr ⟨by grind,?_⟩⟩;grind
   grind
  refine a8 k [12] a ?_ (g.ax (d+1,h,o,l) a ?_ ?_ ?_ ?_)
  .have j:=z _ u;simp only[U,i,bH.m,a7];exact⟨by omega,C,C,show(d+1)*32<=_ by omega,bH.U _,j,by omega,by omega,ff x⟩
  .simp
  .have aj:=Lz (ab:=b.1) (bz:=cY h o) B;simp only[U.Y,U,i,bH.m,a_,a'];exact⟨⟨bt.same,bt.same,bt.same⟩,⟨bt.same,bt.same,bt.same⟩,⟨a,bt.same⟩,aj,bt.same⟩
  .refine⟨by grind,?_⟩;grind
  grind
 obtain rfl:d=c b.1:=x;obtain⟨_,D,I⟩:i0<c b.1/\o=(b.1.getD i0 (0,[])).2.length/\ek 2 (b.1.getD i0 (0,[])).2.length (bH.fn (b.1.getD i0 (0,[])).2) l:=N;subst D;clear w;generalize b.1.getD i0 (0,[])=e at *;refine a8 k [-12] a E (g.aB ?_);refine b_ k a C ?_;refine g.aE 6 (λd=>d<=c b.2.1) (λd:Nat=>[(1,aD 0 0),(2,aD 1 0),(3,aD 2 0),(24,bi.C b.2.1),(25,R (c b.2.1)),(26,R d)])
  (λd=>[.cells 27 [.c (.C v 2 (c b.1) (a2.fn b.1)),.c (.C v 2 (c b.2.1) (bi.fn b.2.1)),.c (.C v 2 (c b.2.2) (a1.fn b.2.2))],.cells 27 [cD,cD,cD],.cells 27 [.S 3 (.C (c b.1) 2 0 (c b.1)),.S 4 (.C d 2 0 d),cD],.q 105 2 (c b.1) (gf b.1 i0 (cY h (c e.2))),.q 129 2 d (bi.fn (b.2.1.take d)),.J (cm 153 2 h (c e.2) l)]) (λd=>c b.2.1-d) 0 a ?_ a ?_ a x ?_
 .simp
 .simp
 intro d s;by_cases t:d<c b.2.1
 .have u:b.2.1.getD d (0,[])∈b.2.1:=N;have i:b.2.1.getD (d:Int).toNat bi.I=b.2.1.getD d (0,[]):=N;refine a8 k [27] a ?_ (g.ax (d+1) a ?_ ?_ ?_ ?_)
  .have j:=J _ u;simp only[U,i,cq.m,a7];exact⟨by omega,C,C,show(d+1)*32<=_ by omega,cq.U _,j.1,j.2,by omega,by omega,ff x⟩
  .simp
  .exact FL
  .grind
  omega
 obtain rfl:d=c b.2.1:=x;rw[c_];refine a8 k [-27] a E (g.aB ?_);refine b_ k a C (g.aC (IR b.2.2 S) [] a (b_ k a C (g.bh ⟨(h,l),I⟩ [3,4,5] ?_ (λA T=>absurd T E))));simp
end
end R1
end Go.AM
