/- Part 4. No condition. -/
import Derived.Test.YtljeodbenlfgfaaGreatDoorA3
import Derived.Lib.Bytealg
import Derived.Sort.AssemblyPlain
import Derived.Sort.LotD5
import Derived.Sort.Walk13a
import Derived.Conc.DeferLaws
import Derived.RowKit
import Derived.Conc.Holds
set_option linter.all false
set_option maxHeartbeats 8000000
open Go.Proofs
open Go.Proofs.Tryz
open List renaming length → c, range → aA, replicate → aX, getD_eq_getElem?_getD → ak, all_eq_true → aY
open Go renaming Value → Y, TypeId → ao, Event → aR, undef → I, World → au, Frame → aJ, FuncId → a2, execOp → ab, Operand → ae, Program → aE, Goroutine → ai, stepG → ar, Oper → ap
open Option renaming some → f, none → n
open Bool renaming true → l, false → u
open Nat renaming beq → ad, ble → ay
open Go.World renaming cell? → aL
open Go.Op renaming bytesLess → aU, equalIn → aO
open Go.Sem renaming events_bind → aD
open Go.Result renaming evThen_ok → aG
open Go.Region renaming ready → aQ
open Go.Proofs.Tryz renaming prog → V
open Go.Conc renaming stepG_seq → aw, stepG_region_end → aB
namespace Go.AM
variable {j z:Nat}{h:Int}{d i e t:Nat}{W:ao}{H:Y->(Nat->Option Obj)->Prop}{L:Array Bool}{bA:Mem}{D:Nat}{P:aE}{bq:ai->a5->Prop}{q:Code}{B:ai}{r:ap}{b:a5}{o:ao}{aa:Y}{α:Type}{η:ae->y}{ι:Type}{k:m an}{F:bH}{all:m ap}{dt:Array ao}{cap:m O}{cR:m y}{k7:Nat->Option Obj}{ah:m aJ}{bg:m (Nat×Bool)}{U:Nat->m O}{cP:ae}{gs:Array ai}{aT:m Nat}{cj:m Prop}{off:Nat}{op:BinOp}{aF:Array ap}{Z:m Prop}{br:m ap}{az:a5}{ty:ao}{val:Nat->Nat->Y}{A:m Y}{bj:au}{ag:Array ae}{aq dh:m an}{res:ι->y}{aP:ι->m an}
variable {CT:m (Nat×bJ)}{av:m il}{be:fB}{ac:m (Nat×cq)}{a4:cq}
structure i6(α:Type) where
 a3:α->y
 ea:y->Option (α×m Prop)
 ok:∀{K w r},ea K=f (w,r)->T r->∀{k:m an} {b:a5} {aa:Y},bv k b aa K->bv k b aa (a3 w)
def c6:i6 Int:=⟨R,λa=>match a with|.n (.ar (.c (.int .i64 b)))=>f (b,[])|_=>n,λ{a d g} e _ _ _ _ h=>by grind⟩
def eI:i6 bC:=⟨b3,λa=>match a with|.n (.ar (.c (.V b)))=>f (b,[])|_=>n,λ{a d g} e _ _ _ _ h=>by grind⟩
def dD:i6 Bool:=⟨bi,λa=>match a with|.n (.ar (.c (.bool b)))=>f (b,[])|_=>n,λ{a d g} e _ _ _ _ h=>by grind⟩
def e'(b:c1 α):i6 (m α):=⟨b.R,λh=>match jt b.bb h with|some (g,a)=>f (b.ad g a,[b.bQ g a])|none=>n,λ{h j k} d e _ _ _ i=>by
 split at d
 .rename_i g a he;cases d;exact b.cu he e i
 .cases d⟩
def si:i6 (Int×bC):=⟨λd=>.n (.agg [.c (.int .i64 d.1),.c (.V d.2)]),λb=>match b with|.n (.agg [.c (.int .i64 a),.c (.V e)])=>f ((a,e),[])|_=>n,λ{b a h} g _ _ _ _ i=>by grind⟩
def p3:i6 (Int×Int):=⟨λd=>.n (.agg [.c (.int .i64 d.1),.c (.int .i64 d.2)]),λb=>match b with|.n (.agg [.c (.int .i64 a),.c (.int .i64 e)])=>f ((a,e),[])|_=>n,λ{b a h} g _ _ _ _ i=>by grind⟩
def jC(e:c1 α):i6 (Int×m α):=⟨λj=>.n (.agg [.c (.int .i64 j.1),.c (.R u e.bb (c j.2) (e.fn j.2))]),λp=>match p with
 |.n (.agg [.c (.int .i64 o),.c q])=>match jt e.bb (.n (.ar (.c q)))with|some (i,d)=>f ((o,e.ad i d),[e.bQ i d])|none=>n
 |_=>n,λ{p o w} g h _ b _ t=>by
 split at g
 .split at g
  .rename_i i d he;cases g;obtain⟨A,r,a⟩:=t
   match A,a with
   |[],a=>exact a.elim
   |[_],a=>exact a.2.elim
   |_::_::_::_,a=>exact a.2.2.elim
   |[x,s],a=>exact⟨_,r,a.1,e.cu (k:=[]) (b:=b) (aa:=s) he h a.2.1,v⟩
  cases g
 .cases g⟩
def df(d:i6 α)(a:α->y)(pre:α->m Prop):bJ:=λargs e=>match args,e with
 |[g],[]=>match d.ea g with
  |some (b,h)=>f (a b,[],gN h (pre b))
  |none=>n
 |_,_=>n
def ev{b:Type}(g:i6 α)(h:i6 b)(a:α->b->y)(pre:α->b->m Prop):bJ:=λargs i=>match args,i with
 |[j,k],[]=>match g.ea j with
  |some (d,o)=>match h.ea k with
   |some (e,p)=>f (a d e,[],gN o (gN p (pre d e)))
   |none=>n
  |none=>n
 |_,_=>n
def kb{b d:Type}(i:i6 α)(j:i6 b)(k:i6 d)(a:α->b->d->y)(pre:α->b->d->m Prop):bJ:=λargs o=>match args,o with
 |[p,q,r],[]=>match i.ea p with
  |some (e,s)=>match j.ea q with
   |some (g,t)=>match k.ea r with
    |some (h,v)=>f (a e g h,[],gN s (gN t (gN v (pre e g h))))
    |none=>n
   |none=>n
  |none=>n
 |_,_=>n
section
variable {p:af P}{al:a2}{e t:Type}{Q:i6 α}{bS:i6 e}{O:i6 t}
def bK.a9{b:α->y}{pre:α->m Prop}(k:∀e,T (pre e)->X p al [Q.a3 e] [] (b e) []):bK p al (df Q b pre):=by
 intro args o g j h a d;unfold df at a;split at a
 .split at a
  .rename_i q e r i;cases a;rw[T.X]at d;exact(k e d.2).args λs A=>b4.imp (λ_ g=>Q.ok i d.1 g) (λ_ g=>g) A
  cases a
 cases a
def bK.bk{d:α->e->y}{pre:α->e->m Prop}(o:∀h i,T (pre h i)->X p al [Q.a3 h,bS.a3 i] [] (d h i) []):bK p al (ev Q bS d pre):=by
 intro args s g k j a b;unfold ev at a;split at a
 .split at a
  .rename_i t v h r q;split at a
   .rename_i i w cU;cases a;rw[T.X,T.X]at b;exact(o h i b.2.2).args λx A=>b4.imp (λ_ g=>Q.ok q b.1 g) (b4.imp (λ_ g=>bS.ok cU b.2.1 g) (λ_ g=>g)) A
   cases a
  cases a
 cases a
def bK.c5{j:α->e->t->y}{pre:α->e->t->m Prop}(v:∀k i q,T (pre k i q)->X p al [Q.a3 k,bS.a3 i,O.a3 q] [] (j k i q) []):bK p al (kb Q bS O j pre):=by
 intro args w g s o a b;unfold kb at a;split at a
 .split at a
  .rename_i x z B k r h;split at a
   .rename_i i C cU;split at a
    .rename_i q D d;cases a;rw[T.X,T.X,T.X]at b;exact(v k i q b.2.2.2).args λE A=>b4.imp (λ_ g=>Q.ok h b.1 g) (b4.imp (λ_ g=>bS.ok cU b.2.1 g) (b4.imp (λ_ g=>O.ok d b.2.2.1 g) (λ_ g=>g))) A
    cases a
   cases a
  cases a
 cases a
end
namespace R1
def ed(d:m y)(a:y):bJ:=λargs b=>match b with|[]=>f (a,[],[args=d])|_=>n
def eu{b:af V}{al}{d}{res}(j:X b al d [] res []):bK b al (ed d res):=by
 intro args i k g e a h;unfold ed at a;split at a
 .cases a;simp_all
 cases a
def k5(g:m y)(d:m an)(a:y)(b:m an):bJ:=λargs e=>f (a,b,[args=g,e=d])
def l3{d:af V}{al}{e}{a aP}{res}(k:X d al e a res aP):bK d al (k5 e a res aP):=by intro args j m h g b i;cases b;simp_all
end R1
def ly(b:Mem):m Y->m O->Prop
 |[],[]=>True
 |e::A,d::a=>Rd b e d/\ly b A a
 |_,_=>False
structure ra(α:Type) where
 a3:α->m O
 cl:m O->Option (α×m Prop×m O)
 ok:∀{ah w r ba},cl ah=f (w,r,ba)->T r->∀{bA:Mem} {A:m Y},ly bA A ah->∃v1 v2,A=v1++v2/\ly bA v1 (a3 w)/\ly bA v2 ba
def ly.app{bA}:∀{g h:m Y}{a b:m O},ly bA g a->ly bA h b->ly bA (g++h) (a++b)
 |[],_,[],_,_,d=>d
 |_::_,_,_::_,_,e,i=>⟨e.1,e.2.app i⟩
 |[],_,_::_,_,d,_=>d.elim
 |_::_,_,[],_,d,_=>d.elim
def ly.ar{q}{e}(d:ly bA A (q::e)):∃a b,A=a::b/\Rd bA a q/\ly bA b e:=by
 cases A with
 |nil=>exact d.elim
 |cons a A=>exact⟨a,A,rfl,d⟩
def u_(e:c1 α):ra (m α):=⟨λp=>[.R u e.bb (c p) (e.fn p)],λg=>match g with
 |t::q=>match jt e.bb (.n (.ar (.c t)))with|some (o,d)=>f (e.ad o d,[e.bQ o d],q)|none=>n
 |_=>n,λ{g y z q} h i r A j=>by
 split at h
 .split at h
  .rename_i o d he;cases h;obtain⟨aa,s,rfl,w,x⟩:=j.ar;exact⟨[aa],s,a,⟨e.cu (k:=[]) (b:=⟨[],r,default,λ_=>True⟩) (aa:=aa) he i w,v⟩,x⟩
  cases h
 .cases h⟩
def yf{k:Type}(Q:ra α)(e:ra k):ra (α×k):=⟨λp=>Q.a3 p.1++e.a3 p.2,λb=>match Q.cl b with
 |some (j,m,o)=>match e.cl o with|some (q,y,z)=>f ((j,q),gN m y,z)|none=>n
 |none=>n,λ{b j m o} d a C A g=>by
 split at d
 .rename_i t;split at d
  .rename_i B;cases d;rw[T.X]at a;obtain⟨h,D,rfl,v,s⟩:=Q.ok t a.1 g;obtain⟨w,i,rfl,x,r⟩:=e.ok B a.2 s;exact⟨h++w,i,(mh _ _ _).symm,v.app x,r⟩
  cases d
 .cases d⟩
def zJ:m Q->Option (m O)
 |[]=>f []
 |.c d::b=>match zJ b with|some a=>f (d::a)|none=>n
 |_=>n
def Ec:m O->m Q
 |[]=>[]
 |b::a=>.c b::Ec a
def Nm{k}{b}:∀{e:m Q}{g:m O}{A:m Y},zJ e=f g->bM k b A e->ly b.u A g
 |[],g,A,a,d=>by cases a;cases A with|nil=>trivial|cons=>exact d.elim
 |.c o::h,g,A,a,d=>by
  simp only[zJ]at a;split at a
  .rename_i i;cases a;cases A with
   |nil=>exact d.elim
   |cons j A=>exact⟨d.1,Nm i d.2⟩
  cases a
 |.ptr ..::_,_,_,a,_=>by cases a
 |.w ..::_,_,_,a,_=>by cases a
 |.aK ..::_,_,_,a,_=>by cases a
 |.K ..::_,_,_,a,_=>by cases a
 |.any::_,_,_,a,_=>by cases a
def L0{k}{b}:∀{d:m O}{A:m Y},ly b.u A d->bM k b A (Ec d)
 |[],[],_=>trivial
 |_::_,_::_,a=>⟨a.1,L0 a.2⟩
 |[],_::_,a=>a.elim
 |_::_,[],a=>a.elim
def AF(d:ra α):i6 α:=⟨λb=>.n (.agg (Ec (d.a3 b))),λj=>match j with
 |.n (.agg i)=>match zJ i with
  |some e=>match d.cl e with|some (b,k,[])=>f (b,k)|_=>n
  |none=>n
 |_=>n,λ{j b k} a g t v w s=>by
 split at a
 .split at a
  .rename_i B;split at a
   .rename_i p;cases a;obtain⟨A,rfl,r⟩:=s;obtain⟨h,q,rfl,o,m⟩:=d.ok p g (Nm B r);cases q with
    |nil=>exact⟨h,by simp,L0 o⟩
    |cons=>exact m.elim
   cases a
  cases a
 .cases a⟩
namespace R1
section
variable {p:af V}
def VN(h):X p 55 [R h] [] (bi (cA h)) []:=by
 refine X.I func55 rfl λd=>?_;by_cases b:1<=h
 .by_cases i:h<=99
  .refine a6 [4,7] a bu (g.aw a ?_);simp[cA,b,i]
  refine a6 [4,-7] a bu (g.aw a ?_);simp[cA,b,i]
 refine a6 [-4] a bT (g.aw a ?_);simp[cA,b]
def pJ:bK p 55 (df c6 (λa=>bi (cA a)) λ_=>[]):=.a9 λa _=>VN a
def ZE{b}(a:e<c b):dX (b.take (e+1))=(dX (b.take e)&&jq (b.getD e 0)):=by unfold dX;grind[List.take_add_one]
def Ds{i}:jq i=l↔97<=(i.toNat:Int)/\(i.toNat:Int)<=122:=by simp[jq];omega
def Ky{b}(g:e<c b)(d:jq (b.getD e 0)=u):dX b=u:=by
 cases a:dX b with
 |false=>rfl
 |true=>
  have:=aY.1 a (b.getD e 0) N;grind
def V5(b):X p 125 [b3 b] [] (bi (dX b)) []:=by
 refine X.I func125 rfl λo=>?_;have r:=o.V 0 a;refine aZ a v (g.ek (λd=>d<=c b/\dX (b.take d)=l) (λd:Nat=>[(0,b3 b),(5,R (c b)),(6,R d)]) (λ_=>[]) (λd=>c b-d) 0 a E ⟨by omega,by simp[dX]⟩ a ?_);rintro d ⟨q,k⟩;by_cases e:d<c b
 .by_cases i:dq b d<97
  .refine a6 [7,12] a ?_ (g.bP (bX.zero a ?_))
   .simp[-ak,e,ka,i]
   have:jq (b.getD d 0)=u:=by
    cases j:jq (b.getD d 0)with
    |false=>rfl
    |true=>have:=Ds.1 j;unfold dq at i;omega
   simp[Ky e this]
  by_cases h:dq b d<=122
  .refine a6 [7,-12,-17] a ?_ (g.again (d+1) a ?_ ?_ ?_ a)
   .simp[-ak,e,ka,i,h,a8];grind
   .simp
   .refine⟨by omega,?_⟩;rw[ZE e,k,fx];exact Ds.2 (by unfold dq at i h;omega)
   omega
  refine a6 [7,-12,17] a ?_ (g.bP (bX.zero a ?_))
  .simp[-ak,e,ka,i];grind
  have:jq (b.getD d 0)=u:=by
   cases j:jq (b.getD d 0)with
   |false=>rfl
   |true=>have:=Ds.1 j;unfold dq at h;omega
  simp[Ky e this]
 have m:d=c b:=x;subst m;refine a6 [-7] a E (g.bs a a ?_);refine aZ a v (g.aw a ?_);simp_all
def ac':bK p 125 (df eI (λb=>bi (dX b)) λ_=>[]):=.a9 λa _=>V5 a
abbrev adJ:m (Nat×bJ):=[(55,df c6 (λa=>bi (cA a)) λ_=>[]),(125,df eI (λb=>bi (dX b)) λ_=>[])]
def B0:a9 p adJ:=.cons pJ (.cons ac' .nil)
def W8(b):X p 277 [b3 b] [] (bi (cC b)) []:=by
 refine X.I func277 rfl λe=>?_;by_cases d:1<=c b
 .by_cases i:c b<=8
  .refine a7 B0 [5,9,11] a bT (g.aw a ?_);simp[cC,d,i]
  refine a7 B0 [5,-9,-11] a bT (g.aw a ?_);simp[cC,d,i]
 refine a7 B0 [-5,-11] a bT (g.aw a ?_);simp[cC,d]
def EI:bK p 277 (df eI (λb=>bi (cC b)) λ_=>[]):=.a9 λa _=>W8 a
def Ud(d:Nat)(i:d<=4000000):X p 279 [R d] [] (R (fe d)) []:=by
 refine X.I func279 rfl λk=>?_;by_cases h:d<1
 .refine a6 [5,9] a bT (g.aw a ?_);simp[fe,h]
 by_cases e:8<d
 .refine a6 [-5,8] a bT (g.aw a ?_);simp[fe,e]
 refine a6 [-5,-8] a bT ?_;have m:fe d=2∨fe d=4∨fe d=8:=F9;refine g.ek (λb:Nat=>(b=2∨b=4∨b=8)/\b<=fe d) (λb:Nat=>[(0,R d),(3,R b)]) (λ_=>[]) (λb=>8-b) 2 a E ⟨by simp,by omega⟩ a ?_;rintro b ⟨j,w⟩;by_cases i:b<d
 .exact a6 [12] a lF (g.again (2*b) a bT Oc x a)
 refine a6 [-12] a bT (g.bs a a ?_);refine aZ a v (g.aw a ?_);have:b=fe d:=Oc;simp[this]
theorem acr(b)(i):ft (b++[i])=if i=46 then ft b else b++[i]:=by unfold ft;grind[List.dropWhile_cons]
def MM{b}(a:j<c b):ft (b.take (j+1))=if b.getD j 0=46 then ft (b.take j)else b.take (j+1):=by grind[List.take_add_one,acr]
theorem X8(b):X p 310 [b3 b,u1 46] [] (b3 (ft b)) []:=by
 refine X.I func310 rfl λh=>?_;have o:=h.V 0 a;refine aZ a v (g.ek (λj=>j<=c b/\ft (b.take j)=ft b) (λj:Nat=>[(0,b3 (b.take j)),(1,u1 46)]) (λ_=>[]) (λj=>j) (c b) a E ⟨by omega,by simp⟩ a ?_);rintro j ⟨r,d⟩;cases j with
 |zero=>
  refine a6 [-7,-16] a E (g.bs a a ?_);refine aZ a v (g.aw a ?_);have:ft b=[]:=by rw[<-d];rfl
  simp[this]
 |succ j=>
  have K:c (b.take (j+1))=j+1:=N;have B:dq (b.take (j+1)) j=dq b j:=by simp[dq,ak,iq]
  have k:=MM (b:=b) (j:=j) x;have i:((j:Int)+1-1).toNat=j:=x;by_cases e:b.getD j 0=46
  .refine a6 [7,15,16] a ?_ (g.again j a ?_ ?_ ?_ a)
   .have q:dq b j=46:=by unfold dq;exact bD
    exact Q7
   .simp;show(b.take (j+1)).take _=_;grind
   .grind
   simp
  refine a6 [7,-15,-16] a ?_ (g.bs a a ?_)
  .have q:dq b j≠46:=by unfold dq;intro m;exact e (ut.1 N)
   exact Q7
  refine aZ a v (g.aw a ?_);rw[k,bl e]at d;simp[d]
def Hc:bJ:=λargs a=>match args,a with
 |[.n (.ar (.c (.V b))),.n (.ar (.c (.int .u8 46)))],[]=>f (b3 (ft b),[],[])
 |_,_=>n
def MQ:bK p 310 Hc:=by intro args g b d a e _;unfold Hc at e;grind[X8]
theorem X7(b):X p 294 [b3 b,b3 [46]] [] (b3 (ft b)) []:=by
 refine X.I func294 rfl λh=>?_;by_cases d:b=[]
 .subst d;refine a7 (a9.cons MQ .nil) [8,12] a E (g.aw a ?_);exact bD
 refine a7 (a9.cons MQ .nil) [-8,-11,-12,16,20,21] a ?_ (g.aw a);cases b with
 |nil=>grind
 |cons e i=>simp;decide
def Bu:bJ:=λargs a=>match args,a with
 |[.n (.ar (.c (.V b))),.n (.ar (.c (.V [46])))],[]=>f (b3 (ft b),[],[])
 |_,_=>n
def acJ:bK p 294 Bu:=by intro args g b d a e _;unfold Bu at e;grind[X7]
def H4{a:bC}(b:e<c a):gk (a.take (e+1))=27*gk (a.take e)+(dq a e-97) % 256+1:=by unfold gk;rw[w',bF b];simp only[ux,Option.toList_some,iH,List.foldl_nil,dq,ak,bF b,h5]
def xL{a:bC}(d:cC a=l)(k:e<=c a):0<=gk (a.take e)/\gk (a.take e)<282429536481:=by simp[cC,cl,bw]at d;obtain⟨i,b⟩:=B3 (a.take e) 0 1 0 (λh g=>qC d.2 h (g0 g)) x x x;have:=LG (j:=c (a.take e)) N;rw[Int.one_mul]at b;exact⟨i,Int.lt_of_lt_of_le b this⟩
def C9{a:bC}(b:e<c a):a.getD e 0∈a:=N
abbrev adK:m (Nat×bJ):=[(55,df c6 (λa=>bi (cA a)) λ_=>[]),(277,df eI (λb=>bi (cC b)) λ_=>[])]
def hO:a9 p adK:=.cons pJ (.cons EI .nil)
abbrev Ch(a:Int):y:=.Q [.ar (.c (.int .i64 a)),.ar (.c .bC)]
def WC(d:Int)(b:bC)(m:cA d=l)(h:cC b=l):X p 272 [R d,b3 b] [] (Ch (dY d b)) []:=by
 refine X.I func272 rfl λA=>?_;have j:=h;simp[cC,cl,bw]at j;have r:=m;simp[cA,cl,bw]at r;refine a7 hO [-8,-13] a du (g.ek (λe=>e<=c b) (λe:Nat=>[(0,R d),(1,b3 b),(6,R (gk (b.take e))),(19,R (c b)),(20,R e)]) (λ_=>[]) (λe=>c b-e) 0 a (by simp[gk]) x a ?_);intro e k;by_cases i:e<c b
 .have q:=xL h k;have B:=xL h (e:=e+1) x;have o:=H4 i;refine a6 [21] a ?_ (g.again (e+1) a ?_ ?_ ?_ a)
  .simp only[T,ka,a8];simp[-ak,i,ka];have y:=qC j.2 (b.getD e 0) (C9 i);have s:97<=dq b e/\dq b e<=122:=E9;omega
  .have y:=qC j.2 (b.getD e 0) (C9 i);have s:97<=dq b e/\dq b e<=122:=E9;have C:(dq b e-97) % 256=dq b e-97:=Int.emod_eq_of_lt x x;exact bD
  .grind
  grind
 have o:e=c b:=x;subst o;have q:=xK h;refine a6 [-21] a E (g.bs a a ?_);refine aZ a ?_ (g.aw a ?_)
 .rw[c9];have w:0<=gk b*(2*d+1):=Int.mul_nonneg q.1 x;have t:gk b*(2*d+1)<=282429536481*199:=Int.mul_le_mul x x x x;generalize gk b*(2*d+1)=z at w t;exact tY
 rw[c9];refine T.X.2 ⟨?_,T.X.2 ⟨a,v⟩⟩;show(_:Int)=_;rw[Int.mul_comm 7919 d];rfl
def EH:bK p 272 (ev c6 eI (λa b=>Ch (dY a b)) λa b=>[cA a=l,cC b=l]):=.bk λa b d=>WC a b d.1 d.2
def DJ{p:ae}(j:r.op=.binOp op o p (.const .nilIface) ty){t:Bool}{s:Array (String×ao)}(x:P.underlying o=f (.interface s))(z:η p=ax .bC)(y:η (.const .nilIface)=ax .bC)(q:ia op l=f t):a0 P r η k (ax (.bool t)) k:=by
 refine .aY λe g C w=>?_;have d:=w p;have b:=w (.const .nilIface);rw[z]at d;rw[y]at b;replace d:=b8 d;replace b:=b8 b;generalize h:g p=A at d;generalize i:g (.const .nilIface)=B at b;cases d;cases b;have m:(Op.equal o .nilIface .nilIface).run P e.a=.ok l e.a:=by show(aO (9999+1) o _ _).run P e.a=_;unfold aO;simp[underlying,x]
 have v:∀a,(Op.equal o .nilIface .nilIface).events P e.a a=a:=λa=>by show(aO (9999+1) o _ _).events P e.a a=a;unfold aO;simp[underlying,x]
 cases op<;>simp[ia,reduceCtorEq,e4]at q
 .subst q;exact⟨.bool l,by simp[ab,j,h,i,eqGuard,binOp,m],Rd.bool,by simp[ab,j,h,i,eqGuard,binOp,m,v]⟩
 subst q;exact⟨.bool u,by simp[ab,j,h,i,eqGuard,binOp,m],Rd.bool,by simp[ab,j,h,i,eqGuard,binOp,m,v]⟩
def WA(b:Int)(d:bC)(e:Int)(h:cA b=l)(i:cC d=l):X p 255 [R b,b3 d,R e] [] (bi (dY b d==e)) []:=by refine X.I func255 rfl λj=>?_;refine a7 (a9.cons EH .nil) [17] a du ?_;refine g.aN (DJ a underlying166 a a a) a a ?_;refine a7 (a9.cons EH .nil) [17] a oS (g.aw a ?_);simp
def acG:bK p 255 (kb c6 eI c6 (λa b d=>bi (dY a b==d)) λa b _=>[cA a=l,cC b=l]):=.c5 λa b d e=>WA a b d e.1 e.2
abbrev mr(a:Int):y:=ax (.int .u64 a)
def _root_.Go.AM.b2.fx{r:af P}{aM}{J s}(C:b2 r D s aM F k):b2 r D (.cond (.const (.bool u)) J s) aM F k:=by intro K v A d w E i t m j;refine .ctl d a (λ_=>zj (o:=u) a) λy b=>?_;exact C y v (A.rely b d) (d.rely b) w E i t m λz e g p h I x B q=>j z e g p h I x B (b.aH.trans q)
def _root_.Go.AM.g.fx{P:aE}{a:af P}{D}{be}{av}{F}{k}{e b}(d:g a D be (.code b::av) .normal F k):g a D be (.code (.cond (.const (.bool u)) e b)::av) .normal F k:=b2.fx d
def Km{j m:ae}{h d}{p i}(q)(v:r.op=.binOp op o j m ty)(B:η j=ax (.int h p))(A:η m=ax (.int d i))(y:a8 h q)(s:∀g,(binOp op o (.int h p) (.int d i)).run P g=.ok (.int h q) g)(z:∀g,(binOp op o (.int h p) (.int d i)).events P g #[]=#[]):
  a0 P r η k (ax (.int h q)) k:=by refine .aY λE e F x=>?_;have b:=x j;have a:=x m;rw[B]at b;rw[A]at a;replace b:=b8 b;replace a:=b8 a;generalize t:e j=C at b;generalize w:e m=D at a;cases b;cases a;exact⟨.int h q,by simp only[ab,v,cJ,t,w,qm,c8,s,dZ],.int y,by simp[ab,v,t,w,qm,x9,s,z]⟩
def Ww:X p 316 [mr 1,mr 2] [] (.Q [.ar (.c (.int .u64 0)),.ar (.c (.int .u64 2))]) []:=Rl
def Wx:X p 316 [mr 1,mr 3] [] (.Q [.ar (.c (.int .u64 0)),.ar (.c (.int .u64 3))]) []:=Rl
def Hd:bJ:=λargs b=>match args,b with
 |[.n (.ar (.c (.int .u64 1))),.n (.ar (.c (.int .u64 a)))],[]=>f (.Q [.ar (.c (.int .u64 0)),.ar (.c (.int .u64 a))],[],[a=2∨a=3])
 |_,_=>n
def MR:bK p 316 Hd:=by
 intro args h e g d a b;unfold Hd at a;split at a
 .cases a;rcases b with rfl|rfl
  .exact Ww
  exact Wx
 grind
def Wv(b:Int)(d:b=2∨b=3):X p 304 [mr 1,mr b] [] (.Q [.ar (.c (.int .u64 0)),.ar (.c (.int .u64 b))]) []:=by refine X.I func304 rfl λe=>?_;refine b9 (a9.cons MR .nil) a v ?_;refine g.fx ?_;refine b9 (a9.cons MR .nil) a ?_ (g.aw a);exact bu
def Bv:bJ:=λargs b=>match args,b with
 |[.n (.ar (.c (.int .u64 1))),.n (.ar (.c (.int .u64 a)))],[]=>f (.Q [.ar (.c (.int .u64 0)),.ar (.c (.int .u64 a))],[],[a=2∨a=3])
 |_,_=>n
def acK:bK p 304 Bv:=by
 intro args h e g d a b;unfold Bv at a;split at a
 .cases a;exact Wv _ b
 grind
abbrev lE:bJ:=df eI (λa=>b3 (fN a)) λ_=>[]
abbrev iP(a:Option bC):y:=.Q [.ar (.c (.V (a.getD []))),.ar (.c (.bool a.isSome))]
def WX(h:bK p 218 lE)(i):X p 254 [b3 i] [] (iP (hG i)) []:=by
 refine X.I func254 rfl λk=>?_;have d:a9 p [(294,Bu),(277,df eI (λj=>bi (cC j)) λ_=>[]),(218,lE)]:=.cons acJ (.cons EI (.cons h .nil));by_cases b:cC (ft i)=l
 .by_cases e:fN (ft i)=i
  .refine a7 d [-10,-15] a du (g.aw a ?_);simp[hG,b,e]
  refine a7 d [-10,15] a du (g.aw a ?_);simp[hG,b,e]
 refine a7 d [10,15] a ?_ (g.aw a ?_)
 .simp[b]
 simp[hG,b]
def adn(b:bK p 218 lE):bK p 254 (df eI (λa=>iP (hG a)) λ_=>[]):=.a9 λa _=>WX b a
def Lk{i a}(b:hG i=f a):cC a=l:=by unfold hG at b;grind
abbrev Cf(a:cZ):y:=si.a3 a
def T'(m:bK p 218 lE)(e)(h)(b:cA h=l):X p 203 [Cf e,R h] [] (iP (iK h e)) []:=by
 refine X.I func203 rfl λr=>?_;have i:a9 p [(254,df eI (λk=>iP (hG k)) λ_=>[]),(255,kb c6 eI c6 (λh d o=>bi (dY h d==o)) λh d _=>[cA h=l,cC d=l])]:=.cons (adn m) (.cons acG .nil);cases w:hG e.2 with
 |none=>
  refine a7 i [16,23] a oT (g.aw a ?_);simp[iK,w]
 |some d=>
  have q:=Lk w;by_cases j:dY h d=e.1
  .refine a7 i [-16,-23] a du (g.aw a ?_);simp[iK,w,j,b]
  refine a7 i [-16,23] a du (g.aw a ?_);simp[iK,w,j,b]
def MT(d:bK p 218 lE):bK p 203 (ev si c6 (λb a=>iP (iK a b)) λ_ a=>[cA a=l]):=.bk λb a e=>T' d b a e
def VC(b)(j):X p 287 [Cf b,ax (.M [.int .i64 j])] [] (bi (b.1==j)) []:=by refine X.I func287 rfl λd=>?_;exact aZ a v (g.aw a)
def Bt:bJ:=λargs d=>match args,d with
 |[.n (.agg [.c (.int .i64 b),.c (.V a)]),.n (.ar (.c (.M [.int .i64 e])))],[]=>f (bi (b==e),[],[a=a])
 |_,_=>n
def acI:bK p 287 Bt:=by
 intro args k d e b a h;unfold Bt at a;split at a
 .rename_i i g j;cases a;exact VC (i,g) j
 grind
abbrev Iu(a:Int):y:=ax (.fn (.func 287) [] [.M [.int .i64 a]])
def pn(b:m cZ)(d:Int):Int:=match b.findIdx? (λe=>e.1==d)with|some a=>a|none=>-1
def Y8{o}{j}(a:e<c o)(i:(o.getD e (0,[])).1=j)(g:∀b,b<e->(o.getD b (0,[])).1≠j):pn o j=e:=by
 have:o.findIdx? (λd=>d.1==j)=f e:=by rw[uB];refine⟨a,N,λb h=>?_⟩;grind
 rw[pn,this]
def Y_{o}{j}(d:∀a,a<c o->(o.getD a (0,[])).1≠j):pn o j=-1:=by have:o.findIdx? (λb=>b.1==j)=n:=wG;rw[pn,this]
def Vi(o)(j):X p 286 [bG.R o,Iu j] [] (R (pn o j)) []:=by
 refine X.I func286 rfl λi=>?_;have r:=i.R 0 a;have d:a9 p [(287,Bt)]:=.cons acI .nil;refine b9 d a v (g.b7 (λb=>b<=c o/\∀e,e<b->(o.getD e (0,[])).1≠j) (λb:Nat=>[(0,bG.R o),(1,Iu j),(7,R (c o)),(8,R b)]) (λ_=>[]) (λb=>c o-b) 0 a E a v ⟨by omega,by omega⟩ ?_);rintro b ⟨m,h⟩;by_cases k:b<c o
 .by_cases q:(o.getD b (0,[])).1=j
  .refine a7 d [9,16] a ?_ (g.bP (bX.zero a ?_))
   .simp only[T,c5];grind
   simp[Y8 k q h]
  refine a7 d [9,-16] a ?_ (g.b3 (b+1) a ?_ a v ?_ ?_)
  .simp only[T,c5];exact⟨by exact bD,v,eY.2 q,by omega,by omega,fo x⟩
  .simp
  .grind
  omega
 refine a7 d [-9] a bT (g.bs a a ?_);refine b9 d a v (g.aw a ?_);simp[Y_ (λe s=>h e x)]
def Bs:bJ:=λargs d=>match args,d with
 |[e,.n (.ar (.c (.fn (.func 287) [] [.M [.int .i64 g]])))],[]=>match jt 2 e with
  |none=>n
  |some (b,a)=>f (R (pn (bG.ad b a) g),[],[bG.bQ b a])
 |_,_=>n
def t286:bK p 286 Bs:=by
 intro args m h i g a d;unfold Bs at a;split at a
 .rename_i o j;split at a
  .cases a
  rename_i q k b;cases a;exact(Vi _ j).args (λ_ A=>b4.imp (λ_=>bG.cu b d) (b4.imp (λ_ e=>e) (λ_ e=>e)) A)
 grind
def Y9(o)(j):(pn o j=-1/\o.find? (λb=>b.1==j)=n)∨∃a:Nat,a<c o/\pn o j=a/\o.find? (λb=>b.1==j)=f (o.getD a (0,[])):=by unfold pn;grind[List.findIdx?_eq_some_iff_getElem,List.find?_eq_some_iff_getElem]
def WR(k:bK p 218 lE)(h)(b)(j)(o:cA h=l):X p 242 [R h,fL b,R j] [] (iP (fT h b j)) []:=by
 refine X.I func242 rfl λs=>?_;have d:a9 p [(286,Bs),(203,ev si c6 (λq h=>iP (iK h q)) λ_ h=>[cA h=l])]:=.cons t286 (.cons (MT k) .nil);have t:bG.ad (c b.2) (bG.fn b.2)=b.2:=bG.l _;refine gV [] 7 a v (g.freeze 5 1 a a a ?_);rcases Y9 b.2 j with⟨m,i⟩|⟨e,bp,m,i⟩
 .refine a7 d [14] a bD (g.aw a ?_);simp[fT,i]
 refine a7 d [-14] a bD (g.aw a ?_);have r:fT h b j=iK h (b.2.getD e (0,[])):=by simp only[fT,i]
 simp_all
def adt(e:bK p 218 lE):bK p 242 (kb c6 (jC bG) c6 (λa d b=>iP (fT a d b)) λa _ _=>[cA a=l]):=.c5 λa d b g=>WR e a d b g
def yB:∀b(a:UInt8),Lib.indexByte b a<c b∨Lib.indexByte b a=-1
 |[],a=>.inr (by rw[Lib.indexByte.eq_def])
 |e::b,a=>by have d:=yB b a;grind[Lib.indexByte.eq_def]
set_option maxRecDepth 20000 in
theorem Vu(b)(q):X p 267 [b3 b,u1 q.toNat] [] (R (Lib.indexByte b q)) []:=by
 refine X.I func267 rfl λM=>?_;have ae:=M.V 0 a;refine aZ a v (g.ar (C:=R (Lib.indexByte b q)) (aq:=[]) ?_ a ?_)
 .refine aK.aZ (λ_ _ _ _=>i5 oS) ?_;refine a0.dx λe d W h=>?_;have r:=b8 (h (.tmp 5));have o:=b8 (h (.tmp 6));generalize m:d (.tmp 5)=N at r;generalize i:d (.tmp 6)=O at o;cases r with
  |V y J=>
  cases o with
  |int K=>
  have k:d (.func 301)=.func (.func 301) #[] #[]:=by
   have:=b8 (h (.func 301));generalize d (.func 301)=Z at this;cases this with
   |fn E x Q s B D t w d1 d2=>
    grind
  have A:(callFunc 301 #[.string ‹ByteArray›,.int .u8 q.toNat]).run V e.a=.ok (.value (.int .i64 (Lib.indexByte b q))) e.a:=by rw[run_callFunc_extern func301 bU bU bU (e:=Extern.BytealgIndexByte.indexByte) bU,Lib.run_indexByteString];simp_all
  have I:dC V (Extern.BytealgIndexByte.indexByte #[.string ‹ByteArray›,.int .u8 q.toNat]):=by
   refine dC.bind (z:=Extern.Bytes.bytesOf (.string ‹ByteArray›)) (λ_ _=>rfl) λs=>dC.bind (z:=Extern.Bytes.asByte (.int .u8 q.toNat)) (λ_ _=>?_) λS=>?_
   .simp[Extern.Bytes.asByte]
   .skip
    split<;>exact .pure
  have F:=IQ func301 bU bU bU (aj:=Extern.BytealgIndexByte.indexByte) bU _ I e.a #[];refine⟨.int .i64 (Lib.indexByte b q),?_,Rd.int ?_,?_⟩
  rotate_left 2
  .intro U j;simp[ab,resolve,Deferred.ofValue,invoke,m,i,k,F]at j;subst j;exact .inr ⟨_,a⟩
  .simp[ab,resolve,Deferred.ofValue,invoke,m,i,k,A]
  have aa:=Lib.indexByte_ge b q;have Y:=yB b q;exact cT
 exact wD
def VE(b:Int)(e:O)(d:Int):X p 107 [.n (.agg [.c (.int .i64 b),.c e]),ax (.M [.int .i64 d])] [] (bi (b==d)) []:=by refine X.I func107 rfl λh=>?_;exact aZ a v (g.aw a)
def Bg:bJ:=λargs b=>match args,b with
 |[.n (.agg [.c (.int .i64 a),.c e]),.n (.ar (.c (.M [.int .i64 d])))],[]=>f (bi (a==d),[],[])
 |_,_=>n
def acx:bK p 107 Bg:=by
 intro args h d e b a g;unfold Bg at a;split at a
 .cases a;exact VE _ _ _
 cases a
abbrev It(a:Int):y:=ax (.fn (.func 107) [] [.M [.int .i64 a]])
def oo(b:m ef)(d:Int):Int:=match b.findIdx? (λe=>e.1==d)with|some a=>a|none=>-1
def Y'{a:m ef}{d:Int}(g:e<c a)(o:(a.getD e (0,[])).1=d)(h:∀b,b<e->(a.getD b (0,[])).1≠d):oo a d=e:=by
 have:a.findIdx? (λk=>k.1==d)=f e:=by rw[uB];refine⟨g,du,λb j=>?_⟩;have i:b<c a:=x;simpa[ak,bF i]using h b j
 rw[oo,this]
def Zb{a:m ef}{d:Int}(h:∀b,b<c a->(a.getD b (0,[])).1≠d):oo a d=-1:=by
 have:a.findIdx? (λe=>e.1==d)=n:=by rw[AL];intro e g;obtain⟨b,i,rfl⟩:=g6 g;simp_all
 rw[oo,this]
def Vo(d:m ef)(i:Int):X p 106 [bh.R d,It i] [] (R (oo d i)) []:=by
 refine X.I func106 rfl λq=>?_;have t:=q.R 0 a;have e:a9 p [(107,Bg)]:=.cons acx .nil;refine b9 e a v (g.b7 (λb=>b<=c d/\∀h,h<b->(d.getD h (0,[])).1≠i) (λb:Nat=>[(0,bh.R d),(1,It i),(7,R (c d)),(8,R b)]) (λ_=>[]) (λb=>c d-b) 0 a E a v ⟨by omega,by omega⟩ ?_);rintro b ⟨s,k⟩;by_cases r:b<c d
 .by_cases o:(d.getD b (0,[])).1=i
  .refine a7 e [9,16] a bD (g.bP (bX.zero a ?_));simp[Y' r o k]
  refine a7 e [9,-16] a ?_ (g.b3 (b+1) a ?_ a v ?_ ?_)
  .simp only[T,c5];exact⟨by exact bD,eY.2 o,by omega,by omega,fo x⟩
  .simp
  .refine⟨by omega,λh j=>?_⟩;rcases wX.1 j with j|rfl
   .simp_all
   omega
  omega
 refine a7 e [-9] a bT (g.bs a a ?_);refine b9 e a v (g.aw a ?_);simp[Zb (λh j=>k h x)]
def Bf:bJ:=λargs d=>match args,d with
 |[e,.n (.ar (.c (.fn (.func 107) [] [.M [.int .i64 g]])))],[]=>match jt 2 e with
  |none=>n
  |some (b,a)=>f (R (oo (bh.ad b a) g),[],[bh.bQ b a])
 |_,_=>n
def acw:bK p 106 Bf:=by
 intro args m h i g a d;unfold Bf at a;split at a
 .rename_i o j;split at a
  .cases a
  rename_i q k b;cases a;exact(Vo _ j).args (λ_ A=>b4.imp (λ_=>bh.cu b d) (b4.imp (λ_ e=>e) (λ_ e=>e)) A)
 cases a
def Za(b:m ef)(h:Int):(oo b h=-1/\b.find? (λe=>e.1==h)=n)∨∃d:Nat,d<c b/\oo b h=d/\b.find? (λe=>e.1==h)=f (b.getD d (0,[])):=by
 unfold oo;cases i:b.findIdx? (λe=>e.1==h)with
 |none=>
  refine .inl ⟨a,?_⟩;rw[AL]at i;exact uv.2 λe p=>by exact bD
 |some d=>
  rw[uB]at i;obtain⟨g,j,o⟩:=i;refine .inr ⟨d,g,a,?_⟩;rw[R9];refine⟨du,d,g,du,λq k=>?_⟩;simp_all
def sG(a:Nat->Int):Nat->m O:=λb=>[.int .u8 (a b)]
def Bytes(a:Nat->Int):Prop:=∀b,0<=a b/\a b<=255
abbrev eh(d:Nat)(a:Nat->Int)(b:Int):an:=.cells 75 [.c (.R u 1 d (sG a)),.c (.int .i64 b)]
def bk.cv{e}{fn}{args}{a:ι->m an}(r:Tryz.prog.funcs[e]?=f fn)(o:(fn.name== "runtime.NumGoroutine")=u)(d:fn.body=f q)(j:ay args.length fn.ntmps=l)(v:kx args k->g p fn.ntmps (λs i b=>∃h,bX fn k.length (res h) (a h) s i b) [.code q] .normal (h6 0 args) k):bk p e args k res a:=
 bk.e5 r o d j λt=>b2.bw (g.aU (v t))
def g.bG{fn}{d}{a:ι->m an}(e)(j:g p D (bX fn d (res e) (a e)) av .normal F k):g p D (λi F b=>∃h,bX fn d (res h) (a h) i F b) av .normal F k:=
 g.bT (λ_ _ _ o=>⟨e,o⟩) j
def qL(b:Nat)(d:Nat->Int)(a:Nat)(e:Int):Int:=
 if b=0 then 0 else if a<b then d a % e else
  ((d ((a:Int) % b).toNat*131+d (((a:Int)*7+3) % b).toNat*1117+a*29+(a:Int) / b*53).toNat ^^^ ((d ((a:Int) % b).toNat*131+d (((a:Int)*7+3) % b).toNat*1117+a*29+(a:Int) / b*53) / 64).toNat:Nat) % e
set_option maxRecDepth 20000 in
def Jj(z)(d:Nat->Int)(o:Bytes d)(b:Nat)(j)(r:b<=4000000)(A:z<=1048576)(M:1<=j/\j<=4000000):
  X p 32 [aH 0 0,R j] [eh z d b] (R (qL z d b j)) [eh z d (b+1)]:=by
 refine X.I func32 rfl λv=>?_;have i:∀e,e<c ([eh z d b]:m an)->([0]:m Nat)[e]?=f e:=λe C=>by grind
 by_cases k:z=0
 .subst k;refine a6 [-17,24] a cT (g.aQ [0] a ?_ i);exact cT
 have h:((b:Int)+1-1)=b:=x;have y:((b:Int)+1-1).toNat=b:=x;have w:=o b;by_cases E:(b:Int)<z
 .refine a6 [-17,-24,36] a ?_ (g.aQ [0] a ?_ i)
  .simp only[T,h,c5,bw,dp,eY,a8];omega
  have:b<z:=x;simp[qL,k,this]
 refine bP [-17,-24,-36] a ?_ (g.aQ [0] a ?_ i)
 .simp only[T,h,dp,eY,a8];have q:(0:Int)<z:=x;have B:=sv (b:Int) (by omega:(z:Int)≠0);have D:=sn (b:Int) q;have t:=sv ((b:Int)*7+3) (by omega:(z:Int)≠0);have F:=sn ((b:Int)*7+3) q;have w1:0<=(b:Int) / z:=Int.ediv_nonneg x x;have w2:(b:Int) / z<=b:=Int.ediv_le_self _ x;generalize(b:Int) % z=s at *;generalize((b:Int)*7+3) % z=aa at *;generalize(b:Int) / z=I at *;have J:=o s.toNat;have K:=o aa.toNat;grind
 have:¬b<z:=x;simp[qL,k,this,h]
def Lr(z)(a:Nat->Int)(h)(j)(b:1<=j):0<=qL z a h j/\qL z a h j<j:=by
 unfold qL;split
 .omega
 split
 .exact⟨sv _ x,sn _ x⟩
 exact⟨sv _ x,sn _ x⟩
def hQ(z)(a:Nat->Int)(s:Bytes a)(b:Nat)(j)(i:b<=4000000)(r:z<=1048576)(m:1<=j/\j<=4000000):
  bk (ι:={d:Int // 0<=d/\d<j}) p 32 [aH 0 0,R j] [eh z a b] (λd=>R d.1) (λ_=>[eh z a (b+1)]):=by have o:=Jj (p:=p) z a s b j i r m;exact⟨o.1,λt A k h q e g=>o.2 t A k h q e (g ⟨_,Lr z a b j m.1⟩)⟩
def ni:∀a,a<1->([0]:m Nat)[a]?=f a:=λa b=>by grind
set_option maxRecDepth 20000 in
def CD(z)(b:Nat->Int)(o:Bytes b)(e:Nat)(h:e<=4000000)(m:z<=1048576)(d)(t:1<=c d/\c d<=1000):
  bk (ι:={i:bC // i∈d}) p 63 [aH 0 0,bQ.R d] [eh z b e] (λi=>b3 i.1) (λ_=>[eh z b (e+1)]):=by refine bk.cv func63 rfl rfl rfl λs=>?_;refine aZ a v (g.a6 (hQ z b o e (c d) h m x) [0] a bn ?_);rintro⟨j,q,r⟩;refine aZ a bT ?_;have k:d.getD j.toNat bQ.C∈d:=N;refine g.bG ⟨d.getD j.toNat bQ.C,k⟩ (g.aQ [0] a ?_ ni);simp
def Ln:m bC:=[[],[102],[97,47],[97,98],[97,47,98,47,99],[47,97]]
def Lo:m bC:=[[97],[98],[99,47,97],[99,47,98],[100,47,97],[101],[97,47,98],[100]]
set_option maxRecDepth 20000 in
def Ji(z)(d:Nat->Int)(k:Bytes d)(h:Nat)(m:h<=100000)(j:z<=1048576):
  bk (ι:={b:bC // c b<=8}) p 61 [aH 0 0] [eh z d h] (λb=>b3 b.1) (λ_=>[eh z d (h+1+1)]):=by
 refine bk.cv func61 rfl rfl rfl λt=>?_;refine aZ a v (g.a6 (hQ z d k h 40 x j x) [0] a bn ?_);rintro⟨o,q,r⟩;by_cases s:o=0
 .refine a6 [5] a gY ?_;have:=CD (p:=p) z d k (h+1) x j Ln ca;refine g.b6 this [0] a a a a ?_ a a a bn a bn a ?_
  .refine⟨a,λe bp=>?_⟩;rcases e with _|_|_|_|_|_|e<;>first|rfl|omega
  rintro⟨b,i⟩;refine aZ a v (g.bG ⟨b,(by decide:∀b∈Ln,c b<=8) b i⟩ (g.aQ [0] a ?_ ni));simp
 refine a6 [-5] a gY ?_;have:=CD (p:=p) z d k (h+1) x j Lo ca;refine g.b6 this [0] a a a a Qa a a a bn a bn a ?_;rintro⟨b,i⟩;refine aZ a v (g.bG ⟨b,(by decide:∀b∈Lo,c b<=8) b i⟩ (g.aQ [0] a ?_ ni));simp
def NB:m bC:=[[97,98,99],[104,101,108,108,111],[119,111,114,108,100],[97,97,97,97],[107,101,101,112],[122,122],[98,97,99,107,117,112],[113]]
abbrev R6(b:Nat):={a:bC×Nat // c a.1<=100000/\b<=a.2/\a.2<=b+60}
def Jc(b)(j)(w:c b<=10)(B:0<=j/\j<=100):bk (ι:={o:bC // c o<=100000}) p 111 [b3 b,R j] [] (λo=>b3 o.1) (λ_=>[]):=by
 refine bk.cv func111 rfl rfl rfl λy=>?_;refine aZ a v (g.b7 (λk:Nat×bC×bC=>k.1<=100/\c k.2.2+c k.2.1*k.1<=1010) (λk=>[(0,b3 k.2.1),(1,R k.1),(5,b3 k.2.2)]) (λ_=>[]) (λk=>k.1) (j.toNat,b,[]) a bT a v ⟨by grind,?_⟩ ?_)
 .have:c b*j.toNat<=10*100:=Nat.mul_le_mul w x;grind
 rintro⟨d,h,i⟩ ⟨r,s⟩;simp only at r s;by_cases m:0<d
 .have e:c h<=c h*d:=us _ m;have z:((d:Int) / 2)=((d / 2:Nat):Int):=x;by_cases A:d % 2=1
  .have q:c (h++h)*(d / 2)+c h=c h*d:=by have t:d=2*(d / 2)+1:=x;grind
   refine a6 [7,10] a bu (g.b3 (d / 2,h++h,i++h) a E a v N ?_);grind
  have q:c (h++h)*(d / 2)=c h*d:=by have t:d=2*(d / 2):=x;grind
  refine a6 [7,-10] a bu (g.b3 (d / 2,h++h,i) a E a v N ?_);grind
 obtain rfl:d=0:=x;refine a6 [-7] a E (g.bs a a ?_);exact aZ a v (g.bG ⟨i,by omega⟩ (g.aw a))
set_option maxRecDepth 20000 in
def X0(z)(d:Nat->Int)(j:Bytes d)(h)(I:h<=100000)(k:z<=1048576):
  bk (ι:=R6 h) p 62 [aH 0 0] [eh z d h] (λA=>b3 A.1.1) (λA=>[eh z d A.1.2]):=by
 refine bk.cv func62 rfl rfl rfl λQ=>?_;refine aZ a v (g.a6 (hQ z d j h 5 x k x) [0] a bn ?_);rintro⟨T,U,V⟩;refine aZ a v (g.aL 1 (λb:Nat×bC×Nat=>b.1<=4/\c b.2.1+6*b.1<=24/\h<=b.2.2/\b.2.2+b.1<=h+5) (λb=>[(0,aH 0 0),(4,R b.1),(3,b3 b.2.1)]) (λb=>[eh z d b.2.2]) (λb=>b.1) (T.toNat,[],h+1) a bT a E a ⟨by omega,by grind,by simp,by grind⟩ ?_);rintro⟨m,b,k1⟩ ⟨C,J,F,Z⟩;simp only at C J F Z;by_cases s:0<m
 .refine a6 [9] a gY ?_;have:=CD (p:=p) z d j k1 x k NB ca;refine g.b6 this [0] a a a a Qa a a a bn a bn a ?_;rintro⟨i,r⟩;have af:c i<=6:=(by decide:∀i∈NB,c i<=6) i r;refine aZ a oQ (g.aA (m-1,b++i,k1+1) a bT E N ?_);grind
 obtain rfl:m=0:=x;refine a6 [-9] a E (g.aB ?_);refine aZ a v (g.a6 (hQ z d j k1 4 x k x) [0] a bn ?_);rintro⟨S,ab,ae⟩;by_cases B:S=0
 .refine a6 [19] a (by simp[B]) (g.a6 (hQ z d j (k1+1) 12 x k x) [0] a bn ?_);rintro⟨W,X,w1⟩;refine aZ a v (g.aL 1 (λb:Nat×bC×Nat=>b.1<=11/\c b.2.1+b.1<=36/\h<=b.2.2/\b.2.2+b.1<=h+20) (λb=>[(0,aH 0 0),(5,R b.1),(3,b3 b.2.1)]) (λb=>[eh z d b.2.2]) (λb=>b.1) (W.toNat,b,k1+2) a bT a bT a ⟨by omega,by grind,by grind,by grind⟩ ?_);rintro⟨m,o,q⟩ ⟨y,M,H,O⟩;simp only at y M H O;by_cases s:0<m
  .refine a6 [23] a gY (g.a6 (hQ z d j q 26 x k x) [0] a bn ?_);rintro⟨Y,aa,L⟩;refine aZ a oQ (g.aA (m-1,o++[UInt8.ofNat (97+Y).toNat],q+1) a bT E N ?_);grind
  obtain rfl:m=0:=x;refine a6 [-23] a E (g.aB ?_);refine a6 [-36] a bT (g.a6 (hQ z d j q 60 x k x) [0] a bn ?_);rintro⟨t,G,K⟩;by_cases D:t=0
  .refine a6 [41] a bu (g.bG ⟨(o++[65],q+1),by grind,by grind,by grind⟩ (g.aQ [0] a ?_ ni));simp
  by_cases w:t=1
  .refine a6 [-41,45] a oT (g.a6 (Jc [97,98,99,100,101] 9 ca ca) [] a bn ?_);rintro⟨i,r⟩;refine aZ a v (g.bG ⟨(i,q+1),r,by grind,by grind⟩ (g.aQ [0] a ?_ ni));simp
  refine a6 [-41,-45] a bu (g.bG ⟨(o,q+1),by grind,by grind,by grind⟩ (g.aQ [0] a ?_ ni));simp
 refine gV [-19] 2 a (by simp[B]) (a6 [-36] a bT (g.a6 (hQ z d j (k1+1) 60 x k x) [0] a bn ?_));rintro⟨t,G,K⟩;by_cases D:t=0
 .refine a6 [41] a bu (g.bG ⟨(b++[65],(k1+1)+1),by grind,by grind,by grind⟩ (g.aQ [0] a ?_ ni));simp
 by_cases w:t=1
 .refine a6 [-41,45] a oT (g.a6 (Jc [97,98,99,100,101] 9 ca ca) [] a bn ?_);rintro⟨i,r⟩;refine aZ a v (g.bG ⟨(i,(k1+1)+1),r,by grind,by grind⟩ (g.aQ [0] a ?_ ni));simp
 refine a6 [-41,-45] a bu (g.bG ⟨(b,(k1+1)+1),by grind,by grind,by grind⟩ (g.aQ [0] a ?_ ni));simp
def WO(z)(b:Nat->Int)(h:z<=1048576):bk (ι:={d:Nat // d<=1048576}) p 11 [ax (.R u 1 z (sG b))] [] (λ_=>aH 0 0) (λd=>[eh d.1 b 0]):=by
 refine bk.cv func11 rfl rfl rfl λj=>?_;by_cases k:2000<z
 .refine a6 [5] a bT (g.bf [eh 2000 b 0] a ?_ (g.bG ⟨2000,by decide⟩ (g.aQ [0] a ?_ (λi e=>by grind))))
  .simp[bs,fF,bV]
  simp
 exact a6 [-5] a bT (g.bG ⟨z,h⟩ (g.aQ [0] a E (λi e=>by grind)))
def CZ:∀a,a<1->([0]:m Nat)[a]?=f a:=ca
def sX:∀a,a<2->([0,1]:m Nat)[a]?=f a:=ca
def gB:m cZ->m Y
 |[]=>[]
 |a::b=>.int .i64 a.1::ji a.2::gB b
def gv(b:m cZ):Prop:=∀a∈b,a8 .i64 a.1/\c a.2<=9223372036854775807
theorem yl:∀a:m cZ,c (gB a)=c a*2
 |[]=>rfl
 |d::b=>by simp only[gB,fw,yl b];omega
def JK:∀{d:m cZ}{e:Nat},e<c d->(gB d)[e*2]?=f (.int .i64 (d.getD e (0,[])).1)/\(gB d)[e*2+1]?=f (ji (d.getD e (0,[])).2)
 |[],e,a=>absurd a (iG _)
 |g::b,0,_=>⟨rfl,rfl⟩
 |g::b,e+1,a=>by rw[show(e+1)*2=e*2+1+1 by omega];exact JK (d:=b) (e:=e) N
def C1:∀b a:m cZ,gB (b++a)=gB b++gB a
 |[],a=>rfl
 |d::b,a=>by simp only[uy,gB,C1 b a]
theorem JL:∀b(a:Nat)d,a<c b->gB (b.set a d)=(gB b).take (a*2)++[.int .i64 d.1,ji d.2]++(gB b).drop (a*2+2)
 |[],a,d,e=>absurd e (iG _)
 |g::b,0,d,_=>by simp[gB]
 |g::b,a+1,d,e=>by rw[List.set_cons_succ,gB,JL b a d N,gB,show(a+1)*2=a*2+1+1 by omega,show a*2+1+1+2=(a*2+2)+1+1 by omega];simp
theorem C2{d}(o:gv d):ej 2 (c d) (bG.fn d) (gB d):=by
 refine⟨yl d,λb _=>rfl,λb e p q a=>?_⟩;obtain⟨i,j⟩:=JK e;obtain⟨m,g⟩:=o (d.getD b (0,[])) N;have k:bG.fn d b=[.int .i64 (d.getD b (0,[])).1,.V (d.getD b (0,[])).2]:=rfl;rw[k]at a
 match p,a with
 |0,a=>cases a;exact⟨_,i,λh=>Rd.int m⟩
 |1,a=>cases a;exact⟨_,j,λh=>Rd.V N g⟩
abbrev g_(a:Y):y:=ax (.val a)
abbrev aI(a:fu)(d:Nat)(b:m cZ):an:=.E (cp 139 2 a d (gB b))
abbrev is(b:Nat)(a:fu)(d:Nat):an:=.E (ec b 271 (c0 a d))
abbrev sN(a:cZ):y:=ax (.cF 139 [.int .i64 a.1,.V a.2])
abbrev xY(a:cZ):y:=.n (.agg [.c (.int .i64 a.1),.c (.V a.2)])
theorem adX{a:cZ}(m:m6 A [.c (.int .i64 a.1),.c (.V a.2)]):A=[.int .i64 a.1,ji a.2]:=by
 obtain⟨i,e⟩:=m
 match A,i with
 |[q,r],_=>
  obtain⟨o,h,b⟩:=e 0 _ rfl;obtain⟨p,j,d⟩:=e 1 _ rfl;cases h;cases j;have g:=b λ_ _=>n;have k:=(EE (d λ_ _=>n)).1;cases g;rw[k]
def Sm{b d:ae}(e:r.op=.call {callee:=.builtin .append,args:=#[b,d],argTypes:=#[271,271]}):j0 V r b d 139 mz:=
 ⟨⟨271,271,Dd,Dd,e,(bb _ _ a),rfl,(bb _ _ a),rfl⟩,(bb _ _ a),by decide,by decide⟩
def Ct(bN)(j)(d):X p 219 [g_ (c0 bN j)] [aI bN j d] (R j) [aI bN j d]:=by refine X.I func219 rfl λb=>?_;refine gV [] 7 a v ?_;refine g.jx bb 0 a a a a a a a a ?_;exact aZ a v (g.aQ [0] a a CZ)
def Cu(i cap){d}(k:gv d)(o:Nat)(b:e<c d)(j:t<c d):X p 349 [g_ (c0 (.row i cap) (c d)),R e,R t] [aI (.row i cap) (c d) d] (bi (decide ((d.getD e (0,[])).1<(d.getD t (0,[])).1))) [aI (.row i cap) (c d) d]:=by
 refine X.I func349 rfl λm=>?_
 have h:=C2 k;refine a6 [901] a v ?_;refine g.gg b6 [g_ (c0 (.row i cap) (c d)),R e,g_ (.pointer (f ⟨i,0+(e:Int).toNat*2,n⟩)),g_ (.pointer (f ⟨i,0+(e:Int).toNat*2+0,n⟩)),R (d.getD e (0,[])).1,g_ (c0 (.row i cap) (c d)),R t,g_ (.pointer (f ⟨i,0+(t:Int).toNat*2,n⟩)),g_ (.pointer (f ⟨i,0+(t:Int).toNat*2+0,n⟩)),R (d.getD t (0,[])).1,bi (decide ((d.getD e (0,[])).1<(d.getD t (0,[])).1))] 10 a a a a a ⟨
  aK.x,aK.x,aK.eval (bg:=[]) bb a9.nil a bu,aK.x,
  aK.aZ (jY a) (a0.e_ (d:=0) (e:=e) (al:=0) bb a a E a h a a b),
  aK.x,aK.x,aK.eval (bg:=[]) bb a9.nil a bu,aK.x,
  aK.aZ (jY a) (a0.e_ (d:=0) (e:=t) (al:=0) bb a a E a h a a j),
  aK.x,v⟩ ?_
 exact aZ a v (g.aQ [0] a a CZ)
def ML{g m:ae}{cap}{d}{aa}(v:r.op=.store o g m)(s:b1 eO o=f mz)(b:off=e*2)(t:bE F g=cL (.pointer (f ⟨i,off,n⟩)))(q:mm (bE F m)=f [.c (.int .i64 aa.1),.c (.V aa.2)])(z:c d=j)(w:e<c d)(y:r.guard=n):
  aK p D all r F [aI (.row i cap) j d] .any [aI (.row i cap) j (d.set e aa)]:=by subst b;have x:=eF.eR (D:=D) (k:=[aI (.row i cap) j d]) bb 0 (W:=139) (h:=2) (j:=j) (i:=i) (cap:=cap) (off:=e*2) (ag:=gB d) v s t q a a a (by grind[yl]);grind[adX,JL,aK.fa]
abbrev MP(d a:Nat)(b:m cZ)(e g:Nat)(h i:Bool):m an:=match h with
 |false=>[aI (.row d a) (c b) b]
 |true=>match i with
  |false=>[aI (.row d a) (c b) (b.set e (b.getD g (0,[])))]
  |true=>[aI (.row d a) (c b) (jx b e g)]
def Cv(i cap){d}(o:gv d)(b:e<c d)(k:t<c d):X p 352 [g_ (c0 (.row i cap) (c d)),R e,R t] [aI (.row i cap) (c d) d] (.Q []) [aI (.row i cap) (c d) (jx d e t)]:=by
 refine X.I func352 rfl λr=>?_;have w:=C2 o;refine a6 [900] a v ?_;let h:Nat->y:=λq=>([g_ (c0 (.row i cap) (c d)),R e,g_ (c0 (.row i cap) (c d)),R t,g_ (c0 (.row i cap) (c d)),R t,g_ (.pointer (f ⟨i,0+(t:Int).toNat*2,n⟩)),xY (d.getD t (0,[])),g_ (c0 (.row i cap) (c d)),R e,g_ (.pointer (f ⟨i,0+(e:Int).toNat*2,n⟩)),xY (d.getD e (0,[])),g_ (.pointer (f ⟨i,0+(e:Int).toNat*2,n⟩)),.any,g_ (.pointer (f ⟨i,0+(t:Int).toNat*2,n⟩))]:m y).getD q .any
 refine g.cm b6 h (pe (MP i cap d e t) 13 15) a a a a ⟨
  .bE,.bE,.bE,.bE,.bE,.bE,
  .du bb a9.nil,
  b7.hj a a a a (aK.aZ (jY a) (a0.e_ (d:=0) (e:=t) (al:=0) bb a a E a w a a k)),
  .bE,.bE,
  .du bb a9.nil,
  b7.hj a a a a (aK.aZ (jY a) (a0.e_ (d:=0) (e:=e) (al:=0) bb a a E a w a a b)),
  .du bb a9.nil,
  b7.gE a a ?_,
  .du bb a9.nil,
  b7.gF a a ?_,v⟩ ?_
 .exact ML a a E a a a b a
 .exact ML a a E a a E N a
 intro y j;show g p _ _ _ _ _ (MP i cap d e t (y 13) (y 15));rw[j 13 ca,j 15 ca];exact bX.dk [0] a v a a a CZ
def UZ(B)(bN){d}(A:gv d)(D:c d<=1000){b}(C:c b.2<=9223372036854775807):
  bk (ι:=fu) p 351 [g_ (.pointer (f ⟨B,0,n⟩)),sN b] [is B bN (c d),aI bN (c d) d] (λ_=>.Q []) (λe=>[is B e (c d+1),aI e (c d+1) (d++[b])]):=by
 refine bk.cv func351 rfl rfl rfl λz=>?_;refine a6 [900] a v ?_;have k:=tE bN (c d);refine g.eI (ι:=fu) b6 7 8 10 (λi=>ay i 6) (λi=>([g_ (.pointer (f ⟨B,0,n⟩)),g_ (.pointer (f ⟨B,0,n⟩)),g_ (.pointer (f ⟨B,0,n⟩)),g_ (c0 bN (c d)),sN b,xY b,ax (.R l 2 1 λq=>([[.int .i64 b.1,.V b.2]]:m (m O)).getD q [])]:m y).getD i .any) (λe _=>g_ (c0 e (c d+1))) (λe=>[is B bN (c d),.E (cp 139 2 e (c d+1) (gB d++[.int .i64 b.1,ji b.2]))])
  rfl rfl rfl rfl rfl rfl rfl (λi x=>by exact lF) rfl
  ⟨aK.x,aK.x,aK.aZ (jY a) (a0.dS a a),aK.eE bb 0 a a a a a k a,aK.x,aK.aZ (jY a) (a0.f_ (ah:=[.int .i64 b.1,.V b.2]) bb a a a a),aK.x,v,v,v,v⟩
  (λe=>⟨aK.x,aK.x,aK.aZ (jY a) (a0.dS a a),aK.eE bb 0 a a a a a k a,aK.x,aK.aZ (jY a) (a0.f_ (ah:=[.int .i64 b.1,.V b.2]) bb a a a a),aK.x,v,v⟩)
  (dA.fa a (eF.ft (d:=1) (bN:=bN) (ag:=gB d) (j:=c d) (h1:=[.int .i64 b.1,ji b.2]) (Sm a) a a a a a (λt E r w h s=>?_) Ac)) λe=>?_
 .match r,h with
  |0,h=>cases h;cases s;exact bD
  |1,h=>grind[EE]
 have o:=tE e (c d+1);refine g.aN (a0.dS a a) a a ?_;refine g.h' bb 0 a a a a a (by cases e<;>rfl) o a a a ?_;refine aZ a v ⟨e,bX.dk [0,1] a v ?_ a a sX⟩;show f [_,an.E (cp _ _ _ _ (gB d++_))]=f [_,an.E (cp _ _ _ _ (gB (d++[b])))];rw[C1];rfl
def cp.cut{cap}{d}{e}(k:cp W 2 (.row i cap) (c d+1) (gB (d++[e])) aa k7):cp W 2 (.row i cap) (c d) (gB d) aa k7:=by obtain⟨a,b,r,p,h,j,o,q⟩:=k;rw[C1]at *;refine⟨a,λm g=>b m (AS _ g),yl d,by omega,h,gB [e]++j,N,?_⟩;grind
def UY(B i cap){d}{b}(q:gv (d++[b]))(r:c d<=1000)(h:c d+1<=cap):
  X p 350 [g_ (.pointer (f ⟨B,0,n⟩))] [is B (.row i cap) (c d+1),aI (.row i cap) (c d+1) (d++[b])] (sN b) [is B (.row i cap) (c d),aI (.row i cap) (c d) d]:=by
 refine X.I func350 rfl λo=>?_;have j:ej 2 (c d+1) (bG.fn (d++[b])) (gB (d++[b])):=by grind[C2,List.length_append]
 refine aZ a v (g.aN (a0.dS a a) a a ?_);refine g.ar (aK.eE bb 0 a a a a a a a) a ?_;refine aZ a bD (g.aN (a0.dS a a) a a ?_);refine g.ar (aK.eE bb 0 a a a a a a a) a ?_;refine aZ a bu (g.aN (a0.e_ (d:=1) (e:=c d) (al:=0) bb a a (by simp[show mz.size=2 from a]) a j a a E) a a ?_);refine aZ a v (g.aN (a0.dS a a) a a ?_);refine g.ar (aK.eE bb 0 a a a a a a a) a ?_;refine aZ a v (g.aN (a0.kg bb a a a a a a h x x) a a ?_);rw[show(((c d+1:Nat):Int)-1).toNat=c d from by omega];refine g.aN (a0.dS a a) a a ?_;refine g.h' bb 0 a a a a a a a a a a ?_;refine gV [] 2 a v (g.gB (ι:=Unit) 1 (λ_=>cp 139 2 (.row i cap) (c d) (gB d)) a (λs k m=>⟨(),cp.cut m⟩) λ_=>?_);refine aZ a v (g.aQ [0,1] a ?_ sX);simp
abbrev sO(a:Nat):y:=ax (.b_ 270 (.val (.pointer (f ⟨a,0,n⟩))))
section
variable {k:m an}{d B j:Nat}{bN:fu}(w:c' d k=f (is B bN j))
include w
def JD:nS V k 270 (.pointer (f ⟨B,0,n⟩)) "Len" 219 (c0 bN j):=.deref bb (lU type270) rfl rfl rfl underlying270 w rfl (tE bN j) rfl
def CO:nS V k 270 (.pointer (f ⟨B,0,n⟩)) "Less" 349 (c0 bN j):=.deref bb (lU type270) rfl rfl rfl underlying270 w rfl (tE bN j) rfl
def CQ:nS V k 270 (.pointer (f ⟨B,0,n⟩)) "Swap" 352 (c0 bN j):=.deref bb (lU type270) rfl rfl rfl underlying270 w rfl (tE bN j) rfl
end
def Yp{k}{aa}:nS V k 270 aa "Push" 351 aa:=.ptr (lU type270) rfl rfl rfl underlying270
def Yo{k}{aa}:nS V k 270 aa "Pop" 350 aa:=.ptr (lU type270) rfl rfl rfl underlying270
theorem tI{d}(h:gv d){e t}(a:e<c d)(b:t<c d):gv (jx d e t):=λi g=>h i (acv a b g)
theorem E0:∀b(d:m cZ)a,a<b->i4 b d a=i4 (a+1) d a
 |0,_,_,g=>absurd g (iG _)
 |b+1,d,a,g=>by
  rw[i4,i4];by_cases e:(a-1) / 2=a
  .grind
  rw[bl e,bl e];split
  .have q:(a-1) / 2<a:=x;rw[E0 b _ _ x,E0 a _ _ q]
  simp
def U0(B i cap){d}(w:gv d)(M:c d<=1000){t}(C:t<c d):
  X p 276 [sO B,R t] [is B (.row i cap) (c d),aI (.row i cap) (c d) d] (.Q []) [is B (.row i cap) (c d),aI (.row i cap) (c d) (i4 (t+1) d t)]:=by
 refine X.I func276 rfl λK=>?_;refine gV [] 3 a v (g.dF 2 [0] (λb:m cZ×Nat=>gv b.1/\c b.1=c d/\b.2<c d/\i4 (t+1) d t=i4 (b.2+1) b.1 b.2) (λb=>[(1,R b.2)]) (λb=>[is B (.row i cap) (c b.1),aI (.row i cap) (c b.1) b.1]) (λb=>b.2) (d,t) a E a E a ⟨w,a,C,a⟩ ?_);rintro⟨b,e⟩ ⟨q,F,I,j⟩;simp only at q F I j;cases e with
 |zero=>
  have o:i4 (0+1) b 0=b:=by rw[i4,bo a]
  rw[o]at j;rw[j];refine gV [] 5 a lv (g.aN (Km (h:=.i64) 0 a a a lv (λJ=>rfl) (λJ=>rfl)) a a ?_);refine a6 [11,17] a E (g.aB ?_);exact O3
 |succ e=>
  refine a6 [-11,901] a lF ?_;have D:(((e+1:Nat):Int)-1) / 2=((e / 2:Nat):Int):=x;rw[D];have A:(e+1-1) / 2=e / 2:=N;have s:e / 2<c b:=x;have r:e+1<c b:=x;have o:i4 (e+1+1) b (e+1)=if ny b (e+1) (e / 2)=l then i4 (e+1) (jx b (e / 2) (e+1)) (e / 2)else b:=by rw[i4,bl x,A]
  rw[o]at j;refine g.region ?_;refine a6 [-11] a bu (g.dq (Cu i cap q (c b) r s).tocH [1] (CO (d:=0) a) a a a a a a a a bn a bn a λ_=>?_);by_cases k:ny b (e+1) (e / 2)=l
  .rw[bo k]at j;have z:=uw k;refine a6 [-17] a du (g.dq (Cv i cap q s r).tocH [1] (CQ (d:=0) a) a a a a a a a a bn a bn a λ_=>?_);refine aZ a v (g.aA (jx b (e / 2) (e+1),e / 2) a E ?_ ?_ ?_)
   .simp[pI]
   .grind [tI,pI,E0]
   grind
  rw[bl k]at j;rw[j];have z:¬(b.getD (e+1) (0,[])).1<(b.getD (e / 2) (0,[])).1:=λy=>k (fo y);refine a6 [17] a du (g.aB ?_);exact O3
def J4{k}{e j}{bN}{d}(s:c' e k=f (aI bN j d))(r:0<j)(b)(i:bc k b):∃h g,bN=.row h g/\j<=g:=by
 have m:=er s;obtain⟨h,g,rfl⟩:=(cp.len m b i).2.2.1 r;have o:e<c b.s:=by rw[i.len];grind
 obtain⟨p,q,_⟩:=i.box e _ _ m (bF o);exact⟨h,g,a,q.2.2.2.1⟩
def Vb(B)(bN){d}(k:gv d)(D:c d<=100){C}(w:a8 .i64 C.1/\c C.2<=9223372036854775807):
  bk (ι:=fu) p 217 [sO B,sN C] [is B bN (c d),aI bN (c d) d] (λ_=>.Q []) (λh=>[is B h (c d+1),aI h (c d+1) (hH d C)]):=by
 refine bk.cv func217 rfl rfl rfl λA=>?_;refine aZ a v (g.dq (UZ B bN k x w.2) [0,1] Yp a a a a a a a a bn a bn a λh=>?_);have q:gv (d++[C]):=λy r=>by
  rcases fC.1 r with o|o
  .exact k y o
  grind
 refine g.fA (J4 (e:=1) (j:=c d+1) (bN:=h) (d:=d++[C]) a x) λs=>?_;obtain⟨i,b,rfl,z⟩:=s;refine aZ a v (g.dq (Ct (.row i b) (c d+1) (d++[C])).tocH [1] (JD (d:=0) a) a a a a a a a a bn a bn a λ_=>?_);refine aZ a bD ?_;rw[show((c d+1:Nat):Int)-1=(c d:Nat) by omega];have m:=U0 (p:=p) B i b q N (t:=c d) E;rw[dk,gJ]at m;exact g.aC m [0,1] a (aZ a v ⟨.row i b,bX.dk [0,1] a v a a a sX⟩)
theorem x5:∀e g(d:m cZ)a b,b<=a+e->b<=a+g->g' e d a b=g' g d a b
 |0,0,_,_,_,_,_=>rfl
 |0,g+1,d,a,b,h,_=>by rw[g',g',bo x]
 |e+1,0,d,a,b,_,h=>by rw[g',g',bo x]
 |e+1,g+1,d,a,b,j,k=>by
  have i:a<jo d a b:=F5;rw[g',g'];split
  .rfl
  split
  .exact x5 e g _ _ _ x x
  simp
def UX(B i cap j){d}(I:gv d)(O:j<=c d)(V:c d<=1000):
  X p 280 [sO B,R 0,R j] [is B (.row i cap) (c d),aI (.row i cap) (c d) d] .any [is B (.row i cap) (c d),aI (.row i cap) (c d) (g' j d 0 j)]:=by
 refine X.I func280 rfl λQ=>?_;refine cy a v (g.dF 2 [0,1,2] (λb:m cZ×Nat=>gv b.1/\c b.1=c d/\b.2<=j/\g' j d 0 j=g' j b.1 b.2 j) (λb=>[(7,R b.2)]) (λb=>[is B (.row i cap) (c b.1),aI (.row i cap) (c b.1) b.1]) (λb=>j-b.2) (d,0) a E a E a ⟨I,a,by omega,a⟩ ?_);rintro⟨b,e⟩ ⟨s,K,N,h⟩;simp only at s K N h;by_cases F:j<=2*e+1
 .have y:g' j b e j=b:=by rw[x5 j (j+1) _ _ _ x x,g',bo F]
  rw[y]at h;rw[h];refine a6 [17,21] a RE (g.aB ?_);exact Ow
 have z:e<jo b e j/\jo b e j<j:=F5;have y:g' j b e j=if ny b (jo b e j) e=l then g' j (jx b e (jo b e j)) (jo b e j) j else b:=by rw[x5 j (j+1) _ _ _ x x,g',bl F]
 rw[y]at h;have J:2*e+1<c b:=x;have C:e<c b:=x;have A:2*(e:Int)+1=((2*e+1:Nat):Int):=x;have M:((2*e+1:Nat):Int)+1=((2*e+2:Nat):Int):=x;refine a6 [-17,-21,904] a RD ?_;rw[A];refine a6 [906] a RD ?_;rw[M];apply g.cd [(0,sO B),(1,R 0),(2,R j),(7,R e),(9,R (jo b e j))] [is B (.row i cap) (c b),aI (.row i cap) (c b) b]
 .intro dx;by_cases D:2*e+2<j
  .refine g.region ?_;refine a6 [28] a bu (g.dq (Cu i cap s (c b) (e:=2*e+2) (t:=2*e+1) x J).tocH [1] (CO (d:=0) a) a a a a a a a a bn a bn a λ_=>?_);by_cases q:ny b (2*e+2) (2*e+1)=l
   .have r:jo b e j=2*e+2:=bo ⟨D,q⟩;refine a6 [33,908] a (by simpa using uw q) (dx _ _ a ?_);simp[r]
   have r:jo b e j=2*e+1:=bl λk=>q k.2;have w:¬(b.getD (2*e+2) (0,[])).1<(b.getD (2*e+1) (0,[])).1:=λk=>q (fo k);refine a6 [-33,908] a (by simpa using w) (dx _ _ a ?_);simp[r]
  have r:jo b e j=2*e+1:=bl λk=>D k.1;refine a6 [-28,-33,908] a bu (dx _ _ a ?_);simp[r]
 generalize jo b e j=o at *;obtain⟨U,S⟩:=z;refine g.region ?_;refine aZ a v (g.dq (Cu i cap s (c b) (e:=o) (t:=e) x C).tocH [1] (CO (d:=0) a) a a a a a a a a bn a bn a λ_=>?_);by_cases q:ny b o e=l
 .rw[bo q]at h;refine a6 [-39] a (by simpa using uw q) (g.dq (Cv i cap s C (show o<c b by omega)).tocH [1] (CQ (d:=0) a) a a a a a a a a bn a bn a λ_=>?_);refine aZ a v (g.aA (jx b e o,o) a E ?_ ?_ ?_)
  .simp[pI]
  .grind [tI,pI]
  grind
 rw[bl q]at h;rw[h];have w:¬(b.getD o (0,[])).1<(b.getD e (0,[])).1:=λk=>q (fo k);refine a6 [39] a (by simpa using w) (g.aB ?_);exact Ow
def Ck{j}:∀e{a:m cZ}(d:Nat),gv a->d<c a->j<=c a->gv (g' e a d j)
 |0,_,_,b,_,_=>b
 |e+1,a,d,b,g,i=>by
  rw[g'];split
  .exact b
  have h:jo a d j<j:=F5;split
  .exact Ck e _ (tI b g x) pR pR
  grind
def Va(B i cap){d}{j}(k:gv d)(r:c d=j+1)(z:j<=100)(s:j+1<=cap):
  X p 220 [sO B] [is B (.row i cap) (j+1),aI (.row i cap) (j+1) d] (sN ((hg d).getD j (0,[]))) [is B (.row i cap) j,aI (.row i cap) j ((hg d).take j)]:=by
 refine X.I func220 rfl λC=>?_;refine aZ a v (g.dq (Ct (.row i cap) (j+1) d).tocH [1] (JD (d:=0) a) a a a a a a a a bn a bn a λ_=>?_);refine aZ a bD ?_;rw[show((j+1:Nat):Int)-1=((j:Nat):Int) by omega];have q:=Cv (p:=p) i cap k (e:=0) (t:=j) x x;rw[r]at q;refine g.dq q.tocH [1] (CQ (d:=0) a) a a a a a a a a bn a bn a λ_=>?_;have m:=tI k (e:=0) (t:=j) x x;have h:=UX (p:=p) B i cap j m pR pR;have b:=Ck (j:=j) j 0 m pR pR;have o:g' j (jx d 0 j) 0 j=hg d:=by unfold hg;grind[x5]
 rw[pI,r,o]at h;rw[o]at b;have y:hg d=(hg d).take j++[(hg d).getD j (0,[])]:=by
  have D:c (hg d)=j+1:=by grind[LC]
  apply rl
  .grind
  grind
 generalize(hg d).getD j (0,[])=F at *;have w:c ((hg d).take j)=j:=N;generalize(hg d).take j=A at *;rw[y]at h b;subst w;refine aZ a v (g.aC h [0,1] a (aZ a v (g.dq (UY B i cap b x s).tocH [0,1] Yo a a a a a a a a bn a bn a λ_=>?_)));refine aZ a v (g.aQ [0,1] a E sX)
def Z7{ac}{e g:ae}(s:r.op=.binOp op o e g ty){q}{cw}(j:P.underlying o=f (.interface cw))(y:η e=ax .bC)(x:η g=ax (.val (.iface ac aa)))(w:∀M,(eqGuard op o e g .nilIface (.iface ac aa)).run P M=.ok () M)(al:∀M a,(eqGuard op o e g .nilIface (.iface ac aa)).events P M a=a)(d:ia op u=f q):a0 P r η k (ax (.bool q)) k:=by
 refine .aY λb t C v=>?_;have p:=v e;have m:=v g;rw[y]at p;rw[x]at m;replace p:=b8 p;replace m:=b8 m;generalize i:t e=z at p;generalize K:t g=A at m;cases p;cases m;have h:(Op.equal o .nilIface (.iface ac aa)).run P b.a=.ok u b.a:=QG;have B:∀a,(Op.equal o .nilIface (.iface ac aa)).events P b.a a=a:=λa=>by show(aO (9999+1) o _ _).events P b.a a=a;unfold aO;simp[underlying,j]
 cases op<;>simp only[ia,reduceCtorEq,e4]at d
 .exact QQ
 exact Qj
abbrev Tf(a:Y):y:=ax (.val a)
def I6(ac)(aa):X p 273 [ax .bC,Tf (.iface ac aa)] [] (bi u) []:=by refine X.I func273 rfl λb=>?_;refine aZ a v ?_;refine g.aN (DJ a underlying166 a a a) a a ?_;refine a6 [11] a E ?_;refine g.aN (Z7 a underlying166 a a bn (λ_ _=>rfl) a) a a ?_;exact aZ a v (g.aw a a)
abbrev ik(b a:ao×Y):m an:=[.E (ec 2 166 (.iface b.1 b.2)),.E (ec 3 166 (.iface a.1 a.2))]
def qr:∀a,a<2->([0,1]:m Nat)[a]?=f a:=ca
def CB(i e)(h)(d)(j:cA h=l)(m:cC d=l):X p 213 [R h,b3 d] (ik i e) (R (dY h d)) (ik i e):=by refine X.I func213 rfl λk=>?_;have b:a9 p [(272,ev c6 eI (λh d=>Ch (dY h d)) λh d=>[cA h=l,cC d=l])]:=.cons EH .nil;refine b9 b a du ?_;refine g.ar (aK.gr bb 0 a a a a a a) a ?_;refine g.aC (I6 _ _) [] a ?_;refine b9 b a v ?_;refine g.ar (aK.gr bb 1 a a a a a a) a ?_;refine g.iK (I6 _ _) [] a a a a a a a a a a a ?_;exact a7 b [-20] a E (g.aQ [0,1] a a qr)
end
section
open Go.Sort (swp insInner insOuter ltInt)
variable {p:af V}
def VD(j):X p 300 [R j] [] (bi u) []:=by refine X.I func300 rfl λb=>?_;exact a6 [-5] a E (g.aw a)
abbrev HA:bJ:=df c6 (λ_=>bi u) λ_=>[]
def adj:bK p 300 HA:=.a9 λa _=>VD a
def V0(b d):X p 262 [R b,R d] [] (bi (ltInt b d)) []:=by have e:a9 p [(300,HA)]:=.cons adj .nil;refine X.I func262 rfl λh=>?_;refine b9 e a E (g.aw a ?_);simp[ltInt]
abbrev qh:bJ:=ev c6 c6 (λa b=>bi (ltInt a b)) λ_ _=>[]
def r4:bK p 262 qh:=.bk λa b _=>V0 a b
def sR(a:Array Int)(b:Nat):m O:=[.int .i64 a[b]!]
abbrev dL(a:Nat):y:=cD 0 (.R a 1 0 a)
abbrev cE(b:Nat)(a:Array Int):an:=.p 3 1 b (sR a)
def ha:∀a,a<1->([0]:m Nat)[a]?=f a:=λa b=>by grind
end
section
open Go.Sort (swp insInner insOuter insertionSort ltInt)
variable {p:af V}
def k'{a}(q:a.size=j)(k:e<j)(o:t<j){g:Nat->m O}(h:bs j g (sR a)):bs j (ln t [.int .i64 a[e]!] (ln e [.int .i64 a[t]!] g)) (sR (swp a e t)):=by
 intro b d;have p:(swp a e t)[b]! = if b=t then a[e]! else if b=e then a[t]! else a[b]! := by unfold swp;grind
 have i:=h b d;simp only[sR,ln]at i⊢;grind
theorem nF(a:Array Int)(e t):(swp a e t).size=a.size:=by simp[swp]
theorem Zq{b}{a}(e:b<t)(d:ltInt a[t]! a[t-1]! = l):insInner ltInt b t a=insInner ltInt b (t-1) (swp a t (t-1)):=by
 cases t with
 |zero=>omega
 |succ t=>
  simp only[p5]at d⊢;rw[insInner,bo];grind
def Kl{b}{a}(d:b<t->ltInt a[t]! a[t-1]! = u):insInner ltInt b t a=a:=by
 cases t with
 |zero=>rfl
 |succ t=>
  simp only[p5]at d;rw[insInner,bl];grind
theorem Vz(j)(m)(d i)(B:m.size=j)(K:i<=j)(J:d<=j)(M:j<=4000000):
  X p 256 [dL j,R d,R i] [cE j m] (.Q []) [cE j (insertionSort ltInt m d i)]:=by
 have w:a9 p [(262,qh)]:=.cons r4 .nil;refine X.I func256 rfl λI=>?_;refine aZ a bD (g.aL 1 (λb:Nat×Array Int=>b.2.size=j/\d+1<=b.1/\b.1<=j+1/\insOuter ltInt d i b.1 b.2=insertionSort ltInt m d i) (λb=>[(0,dL j),(1,R d),(2,R i),(6,R b.1)]) (λb=>[cE j b.2]) (λb=>i-b.1) (d+1,m) a E a E a ⟨B,by omega,by grind,a⟩ ?_);rintro⟨e,d1⟩ ⟨z,t,A,o⟩;simp only at z t A o;by_cases s:e<i
 .refine a6 [12] a bT (g.aL 1 (λb:Nat×Array Int=>b.2.size=j/\b.1<=e/\insInner ltInt d b.1 b.2=insInner ltInt d e d1) (λb=>[(0,dL j),(1,R d),(2,R i),(6,R e),(7,R b.1)]) (λb=>[cE j b.2]) (λb=>b.1) (e,d1) a E a E a ⟨z,by simp,a⟩ ?_);rintro⟨k,d2⟩ ⟨q,C,r⟩;simp only at q C r;by_cases D:d<k
  .have h:((k:Int)-1).toNat=k-1:=x;by_cases y:ltInt d2[k]! d2[k-1]! = l
   .refine a7 w [18,29] a ?_ ?_
    .simp[a8,h,y];omega
    refine g.aA (k-1,swp d2 k (k-1)) a bT ?_ ?_ ?_
    .simp only[T.X,T,h,cW,c5,a_,a'];exact k' q x x (λ_ _=>rfl)
    .refine⟨by grind[nF],by omega,?_⟩;grind[Zq]
    omega
   refine a7 w [18,-29] a ?_ (g.aB ?_)
   .simp[a8,h,y];omega
   refine aZ a bD (g.aA (e+1,d2) a E E ?_ ?_)
   .refine⟨q,by omega,by grind,?_⟩;simp only;rw[<-o,insOuter.eq_1 ltInt d i e,bo s,<-r,Kl λ_=>by grind]
   omega
  refine a7 w [-18] a bu (g.aB ?_);refine aZ a bD (g.aA (e+1,d2) a E E ?_ ?_)
  .refine⟨q,by omega,by grind,?_⟩;simp only;rw[<-o,insOuter.eq_1 ltInt d i e,bo s,<-r,Kl λF=>absurd F D]
  omega
 refine a6 [-12] a bT (g.aB ?_);have:insertionSort ltInt m d i=d1:=by rw[<-o,insOuter,bl s]
 rw[this];exact r'
end
section
open Go.Sort (swp siftDown ltInt)
variable {p:af V}
def abT{bp first root}{a}(b:¬2*root+1<bp):siftDown ltInt bp first root a=a:=by rw[siftDown,dif_pos x]
theorem Mu{bp first root}{a}(e:2*root+1<bp)(b:2*root+1+1<bp->ltInt a[first+(2*root+1)]! a[first+(2*root+1)+1]! = u)(d:ltInt a[first+root]! a[first+(2*root+1)]! = l):
  siftDown ltInt bp first root a=siftDown ltInt bp first (2*root+1) (swp a (first+root) (first+(2*root+1))):=by rw[siftDown.eq_1 ltInt bp first root a,dif_neg x,bl N,bl N]
theorem Mv{bp first root}{a}(e:2*root+1<bp)(b:2*root+1+1<bp->ltInt a[first+(2*root+1)]! a[first+(2*root+1)+1]! = u)(d:ltInt a[first+root]! a[first+(2*root+1)]! = u):
  siftDown ltInt bp first root a=a:=by rw[siftDown.eq_1 ltInt bp first root a,dif_neg x,bl N,bo N]
theorem abR{bp first root}{a}(e:2*root+1+1<bp)(b:ltInt a[first+(2*root+1)]! a[first+(2*root+1+1)]! = l)(d:ltInt a[first+root]! a[first+(2*root+1+1)]! = l):
  siftDown ltInt bp first root a=siftDown ltInt bp first (2*root+1+1) (swp a (first+root) (first+(2*root+1+1))):=by rw[siftDown.eq_1 ltInt bp first root a,dif_neg x,bo N,bl N,dif_pos x]
theorem abS{bp first root}{a}(e:2*root+1+1<bp)(b:ltInt a[first+(2*root+1)]! a[first+(2*root+1+1)]! = l)(d:ltInt a[first+root]! a[first+(2*root+1+1)]! = u):
  siftDown ltInt bp first root a=a:=by rw[siftDown.eq_1 ltInt bp first root a,dif_neg x,bo N,bo N]
theorem Xv(j)(k)(d b first:Nat)(s:k.size=j)(D:first+b<=j)(y:d<=j)(E:j<=4000000):
  X p 295 [dL j,R d,R b,R first] [cE j k] (.Q []) [cE j (siftDown ltInt b first d k)]:=by
 have m:a9 p [(262,qh)]:=.cons r4 .nil;refine X.I func295 rfl λA=>?_;refine aZ rfl v (g.aL 1 (λe:Nat×Array Int=>e.2.size=j/\e.1<=j/\siftDown ltInt b first e.1 e.2=siftDown ltInt b first d k) (λe=>[(0,dL j),(1,R d),(2,R b),(3,R first),(8,R e.1)]) (λe=>[cE j e.2]) (λe=>b-e.1) (d,k) rfl ?_ rfl ?_ rfl ⟨s,y,rfl⟩ ?_)
 .simp
 .simp
 rintro⟨root,d1⟩ ⟨t,z,o⟩;simp only at t z o;by_cases r:2*root+1<b
 .have q:((first:Int)+(2*(root:Int)+1)).toNat=first+(2*root+1):=x
  have aj:((first:Int)+(2*(root:Int)+1)+1).toNat=first+(2*root+1+1):=x
  by_cases C:2*root+1+1<b
  .by_cases B:ltInt d1[first+(2*root+1)]! d1[first+(2*root+1+1)]! = l
   .have h:((first:Int)+(2*(root:Int)+1+1)).toNat=first+(2*root+1+1):=x
    have w:((first:Int)+(root:Int)).toNat=first+root:=x
    by_cases i:ltInt d1[first+root]! d1[first+(2*root+1+1)]! = l
    .refine bf m [-16,20,35,51] rfl ?_ (g.aA (2*root+1+1,swp d1 (first+root) (first+(2*root+1+1))) rfl ?_ ?_ ?_ ?_)
     .exact QK
     .simp
     .simp only[T.X,T,cW,q,aj,w,h,a_,a'];exact k' t x x (λ_ _=>rfl)
     .grind [nF,abR]
     grind
    rw[p8]at i;rw[show siftDown ltInt b first d k=d1 by grind[abS]];refine bf m [-16,20,35,-51] a ?_ (g.aW (bX.mk [0] a v a a a ha));exact QK
   rw[p8]at B;have w:((first:Int)+(root:Int)).toNat=first+root:=x
   by_cases i:ltInt d1[first+root]! d1[first+(2*root+1)]! = l
   .refine bf m [-16,20,-35,51] rfl ?_ (g.aA (2*root+1,swp d1 (first+root) (first+(2*root+1))) rfl ?_ ?_ ?_ ?_)
    .exact Oj
    .simp
    .exact Pm
    .grind [nF,Mu]
    grind
   rw[p8]at i;rw[show siftDown ltInt b first d k=d1 by grind[Mv]];refine bf m [-16,20,-35,-51] a ?_ (g.aW (bX.mk [0] a v a a a ha));exact Oj
  have B:True:=v;have w:((first:Int)+(root:Int)).toNat=first+root:=x
  by_cases i:ltInt d1[first+root]! d1[first+(2*root+1)]! = l
  .refine bf m [-16,-20,51] rfl ?_ (g.aA (2*root+1,swp d1 (first+root) (first+(2*root+1))) rfl ?_ ?_ ?_ ?_)
   .exact Pe
   .simp
   .exact Pm
   .grind [nF,Mu]
   grind
  rw[p8]at i;rw[show siftDown ltInt b first d k=d1 by grind[Mv]];refine bf m [-16,-20,-51] a ?_ (g.aW (bX.mk [0] a v a a a ha));exact Pe
 refine a6 [16] a sd (g.aB ?_);rw[<-o,abT r];exact r'
end
section
open Go.Sort (swp order2 median medianAdjacent choosePivot Hint ltInt)
variable {p:af V}
abbrev mj(a:Nat):an:=.cells 3 [.c (.int .i64 a)]
abbrev sQ:y:=aH 1 0
abbrev ac8(a b:Nat):y:=.Q [.ar (.c (.int .i64 a)),.ar (.c (.int .i64 b))]
def yk:∀a,a<2->([0,1]:m Nat)[a]?=f a:=λa b=>by grind
def CE(j)(e)(d i b)(r:d<j)(s:i<j)(t:j<=4000000)(o:b<=1000):
  X p 314 [dL j,R d,R i,sQ] [cE j e,mj b] (ac8 (order2 ltInt e d i b).1 (order2 ltInt e d i b).2.1) [cE j e,mj (order2 ltInt e d i b).2.2]:=by
 have m:a9 p [(262,qh)]:=.cons r4 .nil;refine X.I func314 rfl λq=>?_;by_cases h:ltInt e[i]! e[d]! = l
 .have k:order2 ltInt e d i b=(i,d,b+1):=by simp[order2,h]
  rw[k];refine bf m [18] a ?_ (g.aQ [0,1] a ?_ yk)
  .simp only[T,cW,c5,h,a8,a',a_];exact fA
  simp
 have k:order2 ltInt e d i b=(d,i,b):=by simp[order2,h]
 rw[k];rw[p8]at h;refine bf m [-18] a du (g.aQ [0,1] a ?_ yk);simp
def vK{K}{a eW}(b:a<j)(d:i<j):(order2 ltInt K a i eW).1<j/\(order2 ltInt K a i eW).2.1<j/\(order2 ltInt K a i eW).2.2<=eW+1:=by unfold order2;split<;>simp only<;>omega
theorem Jd(j)(K)(b i q eW)(h:b<j)(k:i<j)(m:q<j)(e:j<=4000000)(r:eW<=900):
  X p 299 [dL j,R b,R i,R q,sQ] [cE j K,mj eW] (R (median ltInt K b i q eW).1) [cE j K,mj (median ltInt K b i q eW).2]:=by refine X.I func299 rfl λs=>?_;have d:=vK (K:=K) (eW:=eW) h k;have o:=vK (K:=K) (eW:=(order2 ltInt K b i eW).2.2) d.2.1 m;refine cy a v (g.aC (CE j K b i eW h k e x) [0,1] a (cy a v (g.aC (CE j K (order2 ltInt K b i eW).2.1 q (order2 ltInt K b i eW).2.2 d.2.1 m e x) [0,1] a (cy a v (g.aC (CE j K (order2 ltInt K b i eW).1 (order2 ltInt K (order2 ltInt K b i eW).2.1 q (order2 ltInt K b i eW).2.2).1 (order2 ltInt K (order2 ltInt K b i eW).2.1 q (order2 ltInt K b i eW).2.2).2.2 d.1 o.1 e x) [0,1] a (cy a v (g.aQ [0,1] a ?_ yk)))))));simp[median]
def ZS{K}{a q eW}(d:a<j)(g:i<j)(h:q<j):(median ltInt K a i q eW).1<j/\(median ltInt K a i q eW).2<=eW+3:=by have b:=vK (K:=K) (eW:=eW) d g;have e:=vK (K:=K) (eW:=(order2 ltInt K a i eW).2.2) b.2.1 h;have k:=vK (K:=K) (eW:=(order2 ltInt K (order2 ltInt K a i eW).2.1 q (order2 ltInt K a i eW).2.2).2.2) b.1 e.1;unfold median;grind
theorem Wt(j)(e)(b d:Nat)(s:1<=b)(t:b+1<j)(q:j<=4000000)(o:d<=900):
  X p 298 [dL j,R b,sQ] [cE j e,mj d] (R (medianAdjacent ltInt e b d).1) [cE j e,mj (medianAdjacent ltInt e b d).2]:=by
 refine X.I func298 rfl λr=>?_;obtain⟨b,rfl⟩:∃h,b=h+1:=⟨b-1,by omega⟩
 refine cy a bD ?_;have key:∀i k m:Int,i=(b:Int)->k=((b+1:Nat):Int)->m=((b+1+1:Nat):Int)->X p 299 [dL j,R i,R k,R m,sQ] [cE j e,mj d] (R (median ltInt e b (b+1) (b+1+1) d).1) [cE j e,mj (median ltInt e b (b+1) (b+1+1) d).2]:=by rintro i k m rfl rfl rfl;exact Jd j e b (b+1) (b+1+1) d x x x q o
 refine g.aC (key (((b+1:Nat):Int)-1) _ (((b+1:Nat):Int)+1) x a x) [0,1] a (cy a v (g.aQ [0,1] a ?_ yk));simp[medianAdjacent]
def qx:Hint->Int|.unknown=>0|.increasing=>1|.decreasing=>2
def Je(b:Nat)(d:Array Int){w q:Nat}(a:Nat)(k:w<b)(o:i<b)(r:q<b)(t:b<=4000000)(j:a<=900){e g h:Int}(s:e=w)(m:g=i)(v:h=q):
  X p 299 [dL b,R e,R g,R h,sQ] [cE b d,mj a] (R (median ltInt d w i q a).1) [cE b d,mj (median ltInt d w i q a).2]:=by grind[Jd]
def CA(b:Nat)(d:Array Int){w:Nat}(a:Nat)(h:1<=w)(i:w+1<b)(k:b<=4000000)(g:a<=900){e:Int}(j:e=w):
  X p 298 [dL b,R e,sQ] [cE b d,mj a] (R (medianAdjacent ltInt d w a).1) [cE b d,mj (medianAdjacent ltInt d w a).2]:=by grind[Wt]
def DA{K:Array Int}{w eW:Nat}(a:1<=w)(b:w+1<j):(medianAdjacent ltInt K w eW).1<j/\(medianAdjacent ltInt K w eW).2<=eW+3:=
 ZS x x x
abbrev Da(a:Nat):Hint:=if a=0 then .increasing else if a=12 then .decreasing else .unknown
def SX{b:Array Int}{a:Nat}(g:8<=d)(e:d<50):choosePivot ltInt b a (a+d)=((median ltInt b (a+d / 4*1) (a+d / 4*2) (a+d / 4*3) 0).1,Da (median ltInt b (a+d / 4*1) (a+d / 4*2) (a+d / 4*3) 0).2):=by unfold choosePivot;grind
abbrev ox(b:Array Int)(a d:Nat):=medianAdjacent ltInt b (a+d / 4*1) 0
abbrev oy(b:Array Int)(a d:Nat):=medianAdjacent ltInt b (a+d / 4*2) (ox b a d).2
abbrev oz(b:Array Int)(a d:Nat):=medianAdjacent ltInt b (a+d / 4*3) (oy b a d).2
def SW{a:Array Int}{b:Nat}(e:50<=d):choosePivot ltInt a b (b+d)=((median ltInt a (ox a b d).1 (oy a b d).1 (oz a b d).1 (oz a b d).2).1,Da (median ltInt a (ox a b d).1 (oy a b d).1 (oz a b d).1 (oz a b d).2).2):=by unfold choosePivot;grind
def T_(j:Nat)(K:Array Int)(w i:Nat)(m:w<=i)(t:i<=j)(h:8<=i-w)(d:j<=4000000):
  X p 259 [dL j,R w,R i] [cE j K] (.Q [.ar (.c (.int .i64 (choosePivot ltInt K w i).1)),.ar (.c (.int .i64 (qx (choosePivot ltInt K w i).2)))]) [cE j K]:=by
 refine X.I func259 rfl λo=>?_;obtain⟨b,rfl⟩:∃b,i=w+b:=⟨i-w,by omega⟩
 rw[AN]at h;by_cases k:b<50
 .refine bP [32,-34] a QP (g.aC (Je j K (w:=w+b / 4*1) (i:=w+b / 4*2) (q:=w+b / 4*3) 0 x x x d x x x x) [0,1] a ?_);rw[SX h k];generalize median ltInt K (w+b / 4*1) (w+b / 4*2) (w+b / 4*3) 0=e;by_cases al:e.2=0
  .exact Pd
  by_cases aj:e.2=12
  .exact Oz
  exact Q8
 refine bP [32,34] a QP ?_;have r:(ox K w b).1<j/\(ox K w b).2<=0+3:=DA (K:=K) (w:=w+b / 4*1) (eW:=0) (j:=j) x x;have s:(oy K w b).1<j/\(oy K w b).2<=(ox K w b).2+3:=DA (K:=K) (w:=w+b / 4*2) (eW:=(ox K w b).2) (j:=j) x x;have y:(oz K w b).1<j/\(oz K w b).2<=(oy K w b).2+3:=DA (K:=K) (w:=w+b / 4*3) (eW:=(oy K w b).2) (j:=j) x x;refine g.aC (CA j K (w:=w+b / 4*1) 0 x x d x x) [0,1] a (cy a v (g.aC (CA j K (w:=w+b / 4*2) (ox K w b).2 x x d x x) [0,1] a (cy a v (g.aC (CA j K (w:=w+b / 4*3) (oy K w b).2 x x d x x) [0,1] a (cy a v (g.aC (Je j K (w:=(ox K w b).1) (i:=(oy K w b).1) (q:=(oz K w b).1) (oz K w b).2 x x x d x a a a) [0,1] a ?_))))));rw[SW x];generalize median ltInt K (ox K w b).1 (oy K w b).1 (oz K w b).1 (oz K w b).2=e;by_cases al:e.2=0
 .exact Pd
 by_cases aj:e.2=12
 .exact Oz
 exact Q8
end
section
open Go.Sort (swp reverseLoop reverseRange siftDown heapBuild heapPop heapSort ltInt)
variable {p:af V}
def Xf(d:Nat)(i:Array Int)(h e:Nat)(t:i.size=d)(A:1<=e)(z:h<=d)(B:e<=d)(C:d<=4000000):X p 260 [dL d,R h,R e] [cE d i] (.Q []) [cE d (reverseRange i h e)]:=by
 refine X.I func260 rfl λy=>?_;refine aZ a bD (g.aL 1 (λb:Nat×Nat×Array Int=>b.2.2.size=d/\b.1<=d/\b.2.1<d+1/\b.2.1<d/\reverseLoop b.1 b.2.1 b.2.2=reverseRange i h e) (λb=>[(0,dL d),(6,R b.1),(7,R b.2.1)]) (λb=>[cE d b.2.2]) (λb=>b.2.1-b.1) (h,e-1,i) a bT a E a ⟨t,by grind,by grind,by grind,a⟩ ?_);rintro⟨j,k,d1⟩ ⟨q,o,_,w,m⟩;simp only at q o w m;by_cases r:j<k
 .refine bP [13] a ?_ (g.aA (j+1,k-1,swp d1 j k) a ?_ ?_ ?_ ?_)
  .simp only[T,cW,c5,a8,bw,a',a_];exact fA
  .exact bu
  .simp only[T.X,T,cW,c5,a_,a'];exact k' q x x (λ_ _=>rfl)
  .refine⟨by grind[nF],by grind,by grind,by grind,?_⟩;rw[<-m,reverseLoop.eq_1 j k d1,bo r]
  grind
 have s:reverseRange i h e=d1:=by rw[<-m,reverseLoop,bl r]
 rw[s];refine a6 [-13] a bT (g.aB ?_);exact r'
def Jq(a:Nat)(b:Array Int){e7 bp first:Nat}(h:b.size=a)(k:first+bp<=a)(i:e7<=a)(o:a<=4000000){d e g:Int}(m:d=e7)(j:e=bp)(q:g=first):
  X p 295 [dL a,R d,R e,R g] [cE a b] (.Q []) [cE a (siftDown ltInt bp first e7 b)]:=by grind[Xv]
def Mw(a first:Nat):∀(d root:Nat)(b:Array Int),a-root<=d->(siftDown ltInt a first root b).size=b.size:=by
 intro d;induction d with
 |zero=>intro root b e;rw[siftDown,dif_pos x]
 |succ d g=>
  intro root b e;rw[siftDown];exact sb
theorem U'(i:Nat)(m:Array Int)(b k:Nat)(z:m.size=i)(C:b<=k)(A:1<=k-b)(B:k<=i)(t:i<=4000000):X p 257 [dL i,R b,R k] [cE i m] (.Q []) [cE i (heapSort ltInt m b k)]:=by
 refine X.I func257 rfl λF=>?_;obtain⟨e,rfl⟩:∃e,k=b+e:=⟨k-b,by omega⟩
 rw[AN]at A;refine cy a Rx (g.cg (S2:=Array Int) 0 a a (λd2=>d2.size=i/\d2=heapBuild ltInt e b ((e-1) / 2+1) m) (λ_=>[(0,dL i),(6,R b),(7,R 0),(8,R e)]) (λd2=>[cE i d2]) 1 (λd:Nat×Array Int=>d.2.size=i/\d.1<=(e-1) / 2+1/\heapBuild ltInt e b d.1 d.2=heapBuild ltInt e b ((e-1) / 2+1) m) (λd=>[(0,dL i),(6,R b),(7,R 0),(8,R e),(9,R ((d.1:Int)-1))]) (λd=>[cE i d.2]) (λd=>d.1) ((e-1) / 2+1,m) a bT a E a ⟨z,bB _,a⟩ ?_ ?_)
 .rintro dx ⟨h,d1⟩ ⟨j,r,q⟩;simp only at j r q;cases h with
  |zero=>
   refine a6 [-19] a E (g.aB ?_);exact dx d1 ⟨j,q⟩ a E a E
  |succ h=>
   refine a6 [19] rfl E (g.aC (Jq i d1 (e7:=h) (bp:=e) (first:=b) j B x t x rfl rfl) [0] rfl (cy rfl ?_ (g.aA (h,siftDown ltInt e b h d1) rfl ?_ ?_ ?_ ?_)))
   .exact tY
   .simp
   .simp
   .exact⟨by rw[Mw _ _ _ _ _ (bB _)];exact j,by grind,q⟩
   simp
 rintro o ⟨y,D⟩;refine cy a bD ?_;have w:heapSort ltInt m b (b+e)=heapPop ltInt b e o:=by unfold heapSort;grind
 rw[w];refine g.aL 1 (λd:Nat×Array Int=>d.2.size=i/\d.1<=e/\heapPop ltInt b d.1 d.2=heapPop ltInt b e o) (λd=>[(0,dL i),(6,R b),(7,R 0),(8,R e),(10,R ((d.1:Int)-1))]) (λd=>[cE i d.2]) (λd=>d.1) (e,o) a E a E a ⟨y,bB _,a⟩ ?_;rintro⟨h,d1⟩ ⟨j,r,q⟩;simp only at j r q;cases h with
 |zero=>
  rw[<-q];refine a6 [-30] a E (g.aB ?_);exact r'
 |succ h=>
  have s:((b:Int)+(((h+1:Nat):Int)-1)).toNat=b+h:=x;refine bP [30,911] a ?_ ?_
  .simp only[T,cW,c5,s,a8,bw,a',a_];exact fA
  refine g.bf [cE i (swp d1 b (b+h))] a ?_ ?_
  .simp only[T.X,T,cW,c5,s,a_,a'];exact k' j x x (λ_ _=>rfl)
  refine cy rfl v (g.aC (Jq i (swp d1 b (b+h)) (e7:=0) (bp:=h) (first:=b) sb x x t rfl x rfl) [0] rfl (cy rfl ?_ (g.aA (h,siftDown ltInt h b 0 (swp d1 b (b+h))) rfl ?_ ?_ ?_ ?_)))
  .exact tY
  .simp
  .simp
  .exact⟨by rw[Mw _ _ _ _ _ (bB _),nF];exact j,by grind,q⟩
  simp
end
section
open Go.Sort (bitsLen)
variable {p:af V}
def ov:m UInt8:=(aA 256).map λa=>UInt8.ofNat (bitsLen a)
def sF{C h}(b:C<2 ^ h):bitsLen C<=h:=by
 unfold bitsLen;split
 .omega
 rename_i a;have:=(Nat.log2_lt a).2 b;omega
theorem ZA{C:Nat}(a:C<256):(kF ov C).toNat=bitsLen C:=by unfold kF ov;rw[c5,ak,m_,List.getElem?_range a];have:=sF (C:=C) (h:=8) a;grind[UInt8.toNat_ofNat']
def GZ{h}(d:2 ^ h<=j):bitsLen j=h+bitsLen (j / 2 ^ h):=by
 have a:0<2 ^ h:=Nat.two_pow_pos h;have i:0<j / 2 ^ h:=Nat.div_pos d a;unfold bitsLen;rw[bl x,bl x];have e:Nat.log2 j=h+Nat.log2 (j / 2 ^ h):=by
  rw[Nat.log2_eq_iff x];have b:=Nat.log2_self_le (n:=j / 2 ^ h) x;have g:=Nat.lt_log2_self (n:=j / 2 ^ h);constructor
  .rw[Nat.pow_add,Nat.mul_comm];exact fR (g7 _ b) (Nat.div_mul_le_self j _)
  rw[show h+Nat.log2 (j / 2 ^ h)+1=h+(Nat.log2 (j / 2 ^ h)+1) by omega,Nat.pow_add];grind[Nat.div_lt_iff_lt_mul]
 omega
set_option maxRecDepth 100000 in
def VZ(j:Nat)(v:j<=4000000):X p 266 [mr j] [] (R (bitsLen j)) []:=by
 refine X.I func266 rfl λt=>?_;have fin:∀{b:m UInt8} {C:Nat},b=ov->C<256->(kF b (C:Int)).toNat=bitsLen C:=λaV s=>by grind[ZA]
 have e:∀{b:m UInt8},b=ov->c b=256:=λaV=>by rw[aV];rfl
 by_cases r:65536<=j
 .have i:((j:Int).toNat / 2 ^ Int.toNat 16)=j / 65536:=E;have q:bitsLen j=16+bitsLen (j / 65536):=GZ (j:=j) (h:=16) r;have k:=sF (C:=j / 65536) (h:=8) N;refine bP [-4,8,-14] a ?_ (g.aw a ?_)
  .generalize aV:(ByteArray.data _).toList=b;have d:b=ov:=tX;simp only[T,i,fin d (show j / 65536<256 by omega),e d,a8,bw,dp];exact fA
  generalize aV:(ByteArray.data _).toList=b;have d:b=ov:=tX;simp only[T,T.X,i,fin d (show j / 65536<256 by omega),a',a_];omega
 by_cases o:256<=j
 .have i:((j:Int).toNat / 2 ^ Int.toNat 8)=j / 256:=E;have q:bitsLen j=8+bitsLen (j / 256):=GZ (j:=j) (h:=8) o;have k:=sF (C:=j / 256) (h:=8) N;refine bP [-4,-8,14] a ?_ (g.aw a ?_)
  .generalize aV:(ByteArray.data _).toList=b;have d:b=ov:=tX;simp only[T,i,fin d (show j / 256<256 by omega),e d,a8,bw,dp];exact fA
  generalize aV:(ByteArray.data _).toList=b;have d:b=ov:=tX;simp only[T,T.X,i,fin d (show j / 256<256 by omega),a',a_];omega
 have k:=sF (C:=j) (h:=8) N;refine bP [-4,-8,-14] a ?_ (g.aw a ?_)
 .generalize aV:(ByteArray.data _).toList=b;have d:b=ov:=tX;simp only[T,fin d (show j<256 by omega),e d,a8,bw,dp];exact fA
 generalize aV:(ByteArray.data _).toList=b;have d:b=ov:=tX;simp only[T,T.X,fin d (show j<256 by omega),a',a_];omega
def I7(b:Nat)(d:b<=4000000):X p 206 [mr b] [] (R (bitsLen b)) []:=by refine X.I func206 rfl λe=>?_;refine cy a v ?_;refine g.fx ?_;refine cy a v ?_;refine g.aC (VZ b d) [] a ?_;exact cy a v (g.aw a)
end
section
open Go.Sort (swp bitsLen xorNextN xorNextN_lt xorNext xorNext_toNat breakStep breakPatterns)
variable {p:af V}
abbrev xm(a:Nat):an:=.cells 355 [.c (.int .u64 a)]
def WG(b):X p 297 [aH 0 0] [xm b] (mr (xorNextN b)) [xm (xorNextN b)]:=by refine X.I func297 rfl λh=>?_;have e:(2:Nat) ^ Int.toNat 13=8192:=ca;have i:(2:Nat) ^ Int.toNat 7=128:=ca;have d:(2:Nat) ^ Int.toNat 17=131072:=ca;refine cy a E ?_;refine g.bf [xm (xorNextN b)] a bD (g.aQ [0] a ?_ ha);exact bD
theorem W_(b:Nat)(d:b<=4000000):X p 296 [R b] [] (mr ((1 <<< bitsLen b:Nat):Int)) []:=by refine X.I func296 rfl λj=>?_;have e:=sF (C:=b) (h:=22) N;refine cy a bD ?_;refine g.aC (I7 b d) [] a ?_;refine cy a bu (g.aw a ?_);have i:2 ^ bitsLen b<=2 ^ 22:=AR x e;simp only[T,T.X,Nat.shiftLeft_eq,c5];grind
def aaK{L}(a:0<L):1 <<< bitsLen L<=2*L:=by rw[Nat.shiftLeft_eq,Nat.one_mul];unfold bitsLen;rw[bl x,Nat.pow_succ];grind[Nat.log2_self_le]
def aaL(L):1<=1 <<< bitsLen L:=by rw[Nat.shiftLeft_eq,Nat.one_mul];grind
def uN(d L b:Nat):Nat->Nat->UInt64×Array Int->UInt64×Array Int
 |0,_,a=>a
 |e+1,idx,a=>uN d L b e (idx+1) (breakStep d L b a idx)
def SG{b}{a L}(d:8<=L):breakPatterns b a (a+L)=(uN a L (1 <<< bitsLen L) 3 (a+L / 4*2-1) (UInt64.ofNat L,b)).2:=by unfold breakPatterns;simp only[AN];exact bD
def SH{w L bA idx}{ba}{K:Array Int}:breakStep w L bA (ba,K) idx=(xorNext ba,swp K idx (w+if(xorNextN ba.toNat &&& (bA-1))≥L then(xorNextN ba.toNat &&& (bA-1))-L else(xorNextN ba.toNat &&& (bA-1)))):=by unfold breakStep;simp only[xorNext_toNat]
abbrev SF(e a L b:Nat)(d:Nat):bH:=[(0,dL e),(1,R a),(6,R L),(7,aH 1 0),(8,mr b),(9,R ((a+L / 4*2-1+(3-d):Nat):Int))]
def T8(j)(K)(w i)(z:K.size=j)(D:w<=i)(M:i<=j)(B:j<=4000000):
  X p 258 [dL j,R w,R i] [cE j K] (.Q []) [cE j (breakPatterns K w i)]:=by
 refine X.I func258 rfl λN=>?_;obtain⟨L,rfl⟩:∃L,i=w+L:=⟨i-w,by omega⟩
 by_cases A:8<=L
 .rw[SG A];have J:=aaK (L:=L) x;have F:=aaL L;have E:(UInt64.ofNat L).toNat=L:=by grind[UInt64.toNat_ofNat']
  refine bP [15] a sd ?_;have key:∀r:Int,r=(L:Int)->X p 296 [R r] [] (mr ((1 <<< bitsLen L:Nat):Int)) []:=by grind[W_]
  refine g.aC (key _ x) [] a (cy a sd ?_);generalize I:1 <<< bitsLen L=bA at *;refine g.aL 2 (λb:Nat×UInt64×Array Int=>b.2.2.size=j/\b.1<=3/\(uN w L bA b.1 (w+L / 4*2-1+(3-b.1)) b.2).2=(uN w L bA 3 (w+L / 4*2-1) (UInt64.ofNat L,K)).2) (λb=>SF j w L bA b.1) (λb=>[cE j b.2.2,xm b.2.1.toNat]) (λb=>b.1) (3,UInt64.ofNat L,K) a ?_ a ?_ a ⟨z,bB _,a⟩ ?_
  .simp only[T.X,T,a',a_];exact fA
  .exact bu
  rintro⟨h,ba,d1⟩ ⟨d,m,q⟩;simp only at d m q;cases h with
  |zero=>
   rw[<-q];refine bP [-33] a z1 (g.aB ?_);exact r'
  |succ h=>
   have Q:=xorNextN_lt _ (UInt64.toNat_lt ba);have C:xorNextN ba.toNat &&& (bA-1)<=bA-1:=Nat.and_le_right;have t:((bA:Int)-1).toNat=bA-1:=x;refine bP [33] a sd (g.aC (WG ba.toNat) [1] a ?_);have al:=SH (w:=w) (L:=L) (bA:=bA) (idx:=w+L / 4*2-1+(3-(h+1))) (ba:=ba) (K:=d1);generalize e:xorNextN ba.toNat &&& (bA-1)=k at *;by_cases o:L<=k
   .rw[bo o]at al;have s:((w:Int)+((k:Int)-(L:Int))).toNat=w+(k-L):=x;refine bP [43] a ?_ (g.aA (h,xorNext ba,swp d1 (w+L / 4*2-1+(3-(h+1))) (w+(k-L))) a ?_ ?_ ?_ ?_)
    .simp only[T,cW,c5,t,e,s,a8,bw,a',a_];exact fA
    .exact z8
    .exact OU
    .exact Qi
    simp
   rw[bl o]at al;have s:((w:Int)+(k:Int)).toNat=w+k:=x;refine bP [-43] a ?_ (g.aA (h,xorNext ba,swp d1 (w+L / 4*2-1+(3-(h+1))) (w+k)) a ?_ ?_ ?_ ?_)
   .simp only[T,cW,c5,t,e,s,a8,dp,a',a_];exact fA
   .exact z8
   .exact OU
   .exact Qi
   simp
 have y:breakPatterns K w (w+L)=K:=by unfold breakPatterns;grind
 rw[y];exact bP [-15] a bD r'
end
section
open Go.Sort (swp scanUp scanDown partLoop partEqLoop partition partitionEqual ltInt)
variable {p:af V}
theorem zh{b:Int->Bool}{a}(g:e<=t)(d:b a[e]! = l):scanUp b a t e=scanUp b a t (e+1):=by rw[scanUp.eq_1 b a t e,bo N]
theorem Ek{b:Int->Bool}{a}(d:e<=t->b a[e]! = u):scanUp b a t e=e:=by rw[scanUp,bl];grind
theorem Mg{b:Int->Bool}{a}(h:1<=t)(i:e<=t)(g:b a[t]! = l):scanDown b a e t=scanDown b a e (t-1):=by
 obtain⟨t,rfl⟩:∃d,t=d+1:=⟨t-1,by omega⟩
 rw[scanDown,bo N,p5]
theorem Mh{b:Int->Bool}{a}(d:e<=t->b a[t]! = u):scanDown b a e t=t:=by
 cases t with
 |zero=>rfl
 |succ t=>
  rw[scanDown,bl];grind
def vY{S:Int->Bool}{K}:∀b a,t+1-a<=b->a<=scanUp S K t a/\(scanUp S K t a<=t+1∨scanUp S K t a=a):=by
 intro b;induction b with
 |zero=>intro a e;rw[Ek (λd=>by omega)];omega
 |succ b h=>
  intro a e;by_cases g:a<=t
  .cases d:S K[a]! with
   |true=>grind[zh]
   |false=>grind[Ek]
  grind
def vX{S:Int->Bool}{K}:∀a:Nat,scanDown S K e a<=a/\(e<=scanDown S K e a+1∨scanDown S K e a=a):=by
 intro a;induction a with
 |zero=>rw[show scanDown S K e 0=0 from rfl];omega
 |succ a d=>
  by_cases b:e<=a+1
  .cases q:S K[a+1]! with
   |true=>grind[Mg]
   |false=>grind[Mh]
  exact z9
def aaA{b}{K}{d g:Nat}(m:1<=e)(h:d=scanUp (λa=>ltInt a K[b]!) K t e)(i:g=scanDown (λa=>!ltInt a K[b]!) K d t):
  partLoop ltInt b e t K=if d>g then(g,K)else partLoop ltInt b (d+1) (g-1) (swp K d g):=by have j:=vY (S:=λa=>ltInt a K[b]!) (K:=K) (t:=t) (t+1-e) e (bB _);have k:=vX (S:=λa=>!ltInt a K[b]!) (K:=K) (e:=d) t;rw[<-h]at j;rw[<-i]at k;rw[partLoop.eq_1,<-h,<-i];grind
def aaB{g a:Array Int}{b aa}(k:a=swp g b aa)(h:e=scanUp (λd=>ltInt d a[b]!) a (i-1) (b+1))(j:t=scanDown (λd=>!ltInt d a[b]!) a e (i-1))(m:e>t):partition ltInt g b i aa=(t,l,swp a t b):=by unfold partition;grind
def aaC{h a:Array Int}{b aa}(o:a=swp h b aa)(k:e=scanUp (λg=>ltInt g a[b]!) a (i-1) (b+1))(m:t=scanDown (λg=>!ltInt g a[b]!) a e (i-1))(p:¬e>t){d}(j:partLoop ltInt b (e+1) (t-1) (swp a e t)=d):partition ltInt h b i aa=(d.1,u,swp d.2 d.1 b):=by subst j;unfold partition;grind
def W2(j)(K)(w i aa)(aM:K.size=j)(ah:w<i)(an:i<=j)(ar:aa<j)(aq:j<=4000000):
  X p 264 [dL j,R w,R i,R aa] [cE j K] (.Q [.ar (.c (.int .i64 (partition ltInt K w i aa).1)),.ar (.c (.bool (partition ltInt K w i aa).2.1))]) [cE j (partition ltInt K w i aa).2.2]:=by
 have B:a9 p [(262,qh)]:=.cons r4 .nil;refine X.I func264 rfl λao=>?_;refine bf B [902] a bu (g.bf [cE j (swp K w aa)] a ?_ ?_)
 .simp only[T.X,T,cW,c5,a_,a'];exact k' aM x x (λ_ _=>rfl)
 have bz:(swp K w aa).size=j:=sb;obtain⟨d0,A⟩:∃d0,d0=swp K w aa:=⟨_,rfl⟩;rw[<-A]at bz⊢;refine cM B a sa ?_
 refine g.cg (S2:=Unit) 0 a a (λ_=>True) (λ_=>[(0,dL j),(1,R w),(10,R ((scanUp (λC=>ltInt C d0[w]!) d0 (i-1) (w+1)):Nat)),(11,R (i-1:Nat))]) (λ_=>[cE j d0]) 1 (λh:Nat=>w+1<=h/\h<=j+1/\scanUp (λC=>ltInt C d0[w]!) d0 (i-1) h=scanUp (λC=>ltInt C d0[w]!) d0 (i-1) (w+1)) (λh=>[(0,dL j),(1,R w),(10,R (h:Nat)),(11,R (i-1:Nat))]) (λ_=>[cE j d0]) (λh=>i-1+1-h) (w+1) a bD a E a ⟨bB _,by omega,a⟩ ?_ ?_
 .rintro dx h ⟨o,r,M⟩;by_cases U:h<=i-1
  .by_cases av:(λC=>ltInt C d0[w]!) d0[h]! = l
   .have al:ltInt d0[h]! d0[w]! = l:=N;refine bf B [32,42] a q1 (g.aA (h+1) a E E ?_ ?_)
    .grind [zh]
    omega
   have al:ltInt d0[h]! d0[w]! = u:=N;refine bf B [32,-42] a q1 (g.aB ?_);exact Qw
  refine bf B [-32] a bu (g.aB ?_);exact Qw
 rintro⟨⟩ -;have af:=vY (S:=λC=>ltInt C d0[w]!) (K:=d0) (t:=i-1) (i-1+1-(w+1)) (w+1) (bB _);obtain⟨e,m⟩:∃e,e=scanUp (λC=>ltInt C d0[w]!) d0 (i-1) (w+1):=⟨_,rfl⟩
 rw[<-m]at af⊢;refine cM B a v (g.cg (S2:=Unit) 2 a a (λ_=>True) (λ_=>[(0,dL j),(1,R w),(10,R (e:Nat)),(11,R ((scanDown (λC=>!ltInt C d0[w]!) d0 (e) (i-1)):Nat))]) (λ_=>[cE j d0]) 1 (λh:Nat=>h<=i-1/\h<=j/\scanDown (λC=>!ltInt C d0[w]!) d0 (e) h=scanDown (λC=>!ltInt C d0[w]!) d0 (e) (i-1)) (λh=>[(0,dL j),(1,R w),(10,R (e:Nat)),(11,R (h:Nat))]) (λ_=>[cE j d0]) (λh=>h) (i-1) a ?_ a ?_ a ⟨bB _,by omega,a⟩ ?_ ?_)
 .simp[bs]<;>omega
 .simp
 .rintro dx h ⟨o,r,M⟩;by_cases U:e<=h
  .by_cases av:(λC=>!ltInt C d0[w]!) d0[h]! = l
   .have al:ltInt d0[h]! d0[w]! = u:=N;refine bf B [48,-58] a q1 (g.aA (h-1) a bu E Fm ?_);omega
   have al:ltInt d0[h]! d0[w]! = l:=N;refine bf B [48,58] a q1 (g.aB ?_);exact PM
  refine bf B [-48] a bu (g.aB ?_);exact PM
 rintro⟨⟩ -;have ag:=vX (S:=λC=>!ltInt C d0[w]!) (K:=d0) (e:=e) (i-1);obtain⟨t,F⟩:∃t,t=scanDown (λC=>!ltInt C d0[w]!) d0 e (i-1):=⟨_,rfl⟩
 rw[<-F]at ag⊢;by_cases ab:t<e
 .rw[aaB A m F ab];refine bf B [65,909] a bu (g.bf [cE j (swp d0 t w)] a Ri ?_);exact O8
 refine bf B [-65,911] a bu (g.bf [cE j (swp d0 e t)] a Ri ?_);refine cM B a sa ?_;have Y:(swp d0 e t).size=j:=sb;obtain⟨k,D⟩:∃k,partLoop ltInt w (e+1) (t-1) (swp d0 e t)=k:=⟨_,rfl⟩;rw[aaC A m F x D]
 obtain⟨d1,L⟩:∃d1,d1=swp d0 e t:=⟨_,rfl⟩;rw[<-L]at Y D⊢;refine g.cg (S2:=Unit) 4 a a (λ_=>k.1<j/\k.2.size=j) (λ_=>[(0,dL j),(1,R w),(11,R k.1)]) (λ_=>[cE j k.2]) 1 (λb:Nat×Nat×Array Int=>b.2.2.size=j/\w+1<=b.1/\b.1<=j+1/\b.2.1<j/\partLoop ltInt w b.1 b.2.1 b.2.2=k) (λb=>[(0,dL j),(1,R w),(10,R b.1),(11,R b.2.1)]) (λb=>[cE j b.2.2]) (λb=>b.2.1+1-b.1) (e+1,t-1,d1) a bu a E a ⟨Y,by grind,by grind,by grind,D⟩ ?_ ?_
 .rintro y ⟨ee,s,d2⟩ ⟨G,ae,W,P,z⟩;simp only at G ae W P z;refine cM B a v (g.cg (S2:=Unit) 6 a a (λ_=>True) (λ_=>[(0,dL j),(1,R w),(10,R ((scanUp (λC=>ltInt C d2[w]!) d2 (s) (ee)):Nat)),(11,R (s:Nat))]) (λ_=>[cE j d2]) 1 (λh:Nat=>ee<=h/\h<=j+1/\scanUp (λC=>ltInt C d2[w]!) d2 (s) h=scanUp (λC=>ltInt C d2[w]!) d2 (s) (ee)) (λh=>[(0,dL j),(1,R w),(10,R (h:Nat)),(11,R (s:Nat))]) (λ_=>[cE j d2]) (λh=>s+1-h) (ee) a ?_ a ?_ a ⟨bB _,by omega,a⟩ ?_ ?_)
  .simp[bs]<;>omega
  .simp
  .rintro dx h ⟨o,r,M⟩;by_cases U:h<=s
   .by_cases av:(λC=>ltInt C d2[w]!) d2[h]! = l
    .have al:ltInt d2[h]! d2[w]! = l:=N;refine bf B [101,111] a q1 (g.aA (h+1) a E E ?_ ?_)
     .grind [zh]
     omega
    have al:ltInt d2[h]! d2[w]! = u:=N;refine bf B [101,-111] a q1 (g.aB ?_);exact QX
   refine bf B [-101] a bu (g.aB ?_);exact QX
  rintro⟨⟩ -;have I:=vY (S:=λC=>ltInt C d2[w]!) (K:=d2) (t:=s) (s+1-ee) ee (bB _);obtain⟨d,O⟩:∃d,d=scanUp (λC=>ltInt C d2[w]!) d2 s ee:=⟨_,rfl⟩
  rw[<-O]at I⊢;refine cM B a v (g.cg (S2:=Unit) 8 a a (λ_=>True) (λ_=>[(0,dL j),(1,R w),(10,R (d:Nat)),(11,R ((scanDown (λC=>!ltInt C d2[w]!) d2 (d) (s)):Nat))]) (λ_=>[cE j d2]) 1 (λh:Nat=>h<=s/\h<=j/\scanDown (λC=>!ltInt C d2[w]!) d2 (d) h=scanDown (λC=>!ltInt C d2[w]!) d2 (d) (s)) (λh=>[(0,dL j),(1,R w),(10,R (d:Nat)),(11,R (h:Nat))]) (λ_=>[cE j d2]) (λh=>h) (s) a ?_ a ?_ a ⟨bB _,by omega,a⟩ ?_ ?_)
  .simp[bs]<;>omega
  .simp
  .rintro dx h ⟨o,r,M⟩;by_cases U:d<=h
   .by_cases av:(λC=>!ltInt C d2[w]!) d2[h]! = l
    .have al:ltInt d2[h]! d2[w]! = u:=N;refine bf B [117,-127] a q1 (g.aA (h-1) a bu E Fm ?_);omega
    have al:ltInt d2[h]! d2[w]! = l:=N;refine bf B [117,127] a q1 (g.aB ?_);exact PS
   refine bf B [-117] a bu (g.aB ?_);exact PS
  rintro⟨⟩ -;have J:=vX (S:=λC=>!ltInt C d2[w]!) (K:=d2) (e:=d) s;obtain⟨q,V⟩:∃q,q=scanDown (λC=>!ltInt C d2[w]!) d2 d s:=⟨_,rfl⟩
  rw[<-V]at J⊢;have Z:=aaA x O V;by_cases Q:q<d
  .have aj:=Z;rw[z,bo Q]at aj;refine bf B [134] a bu (g.aB ?_);exact y () N a NN a t1
  have aj:=Z;rw[z,bl x]at aj;refine bf B [-134,919] a ?_ ?_
  .simp only[T,cW,c5,a8,dp,a',a_];exact fA
  refine g.bf [cE j (swp d2 d q)] a ?_ ?_
  .simp only[T.X,T,cW,c5,a_,a'];exact k' G x x (λ_ _=>rfl)
  refine cM B a sa (g.aA (d+1,q-1,swp d2 d q) a bu E ?_ ?_)
  .grind [nF]
  grind
 rintro⟨⟩ ⟨ai,H⟩;refine bf B [922] a bu (g.bf [cE j (swp k.2 k.1 w)] a ?_ ?_)
 .simp only[T.X,T,cW,c5,a_,a'];exact k' H x x (λ_ _=>rfl)
 exact O8
def aaz{d}{K}{a h:Nat}(m:1<=e)(g:a=scanUp (λb=>!ltInt K[d]! b) K t e)(i:h=scanDown (λb=>ltInt K[d]! b) K a t):
  partEqLoop ltInt d e t K=if a>h then(a,K)else partEqLoop ltInt d (a+1) (h-1) (swp K a h):=by have j:=vY (S:=λb=>!ltInt K[d]! b) (K:=K) (t:=t) (t+1-e) e (bB _);have k:=vX (S:=λb=>ltInt K[d]! b) (K:=K) (e:=a) t;rw[<-g]at j;rw[<-i]at k;rw[partEqLoop.eq_1,<-g,<-i];grind
def W3(j)(K)(w i aa)(M:K.size=j)(ab:w<i)(af:i<=j)(aM:aa<j)(P:j<=4000000):
  X p 263 [dL j,R w,R i,R aa] [cE j K] (R (partitionEqual ltInt K w i aa).1) [cE j (partitionEqual ltInt K w i aa).2]:=by
 have k:a9 p [(262,qh)]:=.cons r4 .nil;refine X.I func263 rfl λag=>?_;refine bf k [902] a bu (g.bf [cE j (swp K w aa)] a ?_ ?_)
 .simp only[T.X,T,cW,c5,a_,a'];exact k' M x x (λ_ _=>rfl)
 have O:(swp K w aa).size=j:=sb;unfold partitionEqual;generalize swp K w aa=d1 at *;obtain⟨m,H⟩:∃m,partEqLoop ltInt w (w+1) (i-1) d1=m:=⟨_,rfl⟩;rw[H];refine cM k a sa ?_
 refine g.cg (S2:=Unit) 0 a a (λ_=>m.1<=j+1/\m.2.size=j) (λ_=>[(0,dL j),(1,R w),(9,R m.1)]) (λ_=>[cE j m.2]) 1 (λb:Nat×Nat×Array Int=>b.2.2.size=j/\w+1<=b.1/\b.1<=j+1/\b.2.1<j/\partEqLoop ltInt w b.1 b.2.1 b.2.2=m) (λb=>[(0,dL j),(1,R w),(9,R b.1),(10,R b.2.1)]) (λb=>[cE j b.2.2]) (λb=>b.2.1+1-b.1) (w+1,i-1,d1) a bu a E a ⟨O,by grind,by grind,by grind,H⟩ ?_ ?_
 .rintro V ⟨ee,q,d2⟩ ⟨F,W,Y,G,d⟩;simp only at F W Y G d;refine cM k a v (g.cg (S2:=Unit) 2 a a (λ_=>True) (λ_=>[(0,dL j),(1,R w),(9,R ((scanUp (λC=>!ltInt d2[w]! C) d2 (q) (ee)):Nat)),(10,R (q:Nat))]) (λ_=>[cE j d2]) 1 (λh:Nat=>ee<=h/\h<=j+1/\scanUp (λC=>!ltInt d2[w]! C) d2 (q) h=scanUp (λC=>!ltInt d2[w]! C) d2 (q) (ee)) (λh=>[(0,dL j),(1,R w),(9,R (h:Nat)),(10,R (q:Nat))]) (λ_=>[cE j d2]) (λh=>q+1-h) (ee) a ?_ a ?_ a ⟨bB _,by omega,a⟩ ?_ ?_)
  .simp[bs]<;>omega
  .simp
  .rintro dx h ⟨I,Q,y⟩;by_cases J:h<=q
   .by_cases L:(λC=>!ltInt d2[w]! C) d2[h]! = l
    .have B:ltInt d2[w]! d2[h]! = u:=N;refine bf k [31,-41] a z7 (g.aA (h+1) a E E ?_ ?_)
     .grind [zh]
     omega
    have B:ltInt d2[w]! d2[h]! = l:=N;refine bf k [31,41] a z7 (g.aB ?_);exact Qx
   refine bf k [-31] a bu (g.aB ?_);exact Qx
  rintro⟨⟩ -;have r:=vY (S:=λC=>!ltInt d2[w]! C) (K:=d2) (t:=q) (q+1-ee) ee (bB _);obtain⟨al,D⟩:∃al,al=scanUp (λC=>!ltInt d2[w]! C) d2 q ee:=⟨_,rfl⟩
  rw[<-D]at r⊢;refine cM k a v (g.cg (S2:=Unit) 4 a a (λ_=>True) (λ_=>[(0,dL j),(1,R w),(9,R (al:Nat)),(10,R ((scanDown (λC=>ltInt d2[w]! C) d2 (al) (q)):Nat))]) (λ_=>[cE j d2]) 1 (λh:Nat=>h<=q/\h<=j/\scanDown (λC=>ltInt d2[w]! C) d2 (al) h=scanDown (λC=>ltInt d2[w]! C) d2 (al) (q)) (λh=>[(0,dL j),(1,R w),(9,R (al:Nat)),(10,R (h:Nat))]) (λ_=>[cE j d2]) (λh=>h) (q) a ?_ a ?_ a ⟨bB _,by omega,a⟩ ?_ ?_)
  .simp[bs]<;>omega
  .simp
  .rintro dx h ⟨I,Q,y⟩;by_cases J:al<=h
   .by_cases L:(λC=>ltInt d2[w]! C) d2[h]! = l
    .have B:ltInt d2[w]! d2[h]! = l:=N;refine bf k [48,58] a z7 (g.aA (h-1) a bu E Fm ?_);omega
    have B:ltInt d2[w]! d2[h]! = u:=N;refine bf k [48,-58] a z7 (g.aB ?_);exact QF
   refine bf k [-48] a bu (g.aB ?_);exact QF
  rintro⟨⟩ -;have s:=vX (S:=λC=>ltInt d2[w]! C) (K:=d2) (e:=al) q;obtain⟨o,A⟩:∃o,o=scanDown (λC=>ltInt d2[w]! C) d2 al q:=⟨_,rfl⟩
  rw[<-A]at s⊢;have z:=aaz x D A;by_cases U:o<al
  .have aj:=z;rw[d,bo U]at aj;refine bf k [64] a bu (g.aB ?_);exact V () N a NN a t1
  have aj:=z;rw[d,bl x]at aj;refine bf k [-64,909] a bu (g.bf [cE j (swp d2 al o)] a ?_ ?_)
  .simp only[T.X,T,cW,c5,a_,a'];exact k' F x x (λ_ _=>rfl)
  refine cM k a sa (g.aA (al+1,o-1,swp d2 al o) a bu E ?_ ?_)
  .grind [nF]
  grind
 rintro⟨⟩ ⟨ae,Z⟩;refine cM k a v (g.aQ [0] a ?_ ha);simp
end
section
open Go.Sort (swp scanSorted shiftDown shiftUp partialIns partialInsertionSort ltInt)
variable {p:af V}
theorem Mi{a}(d:e<i)(b:ltInt a[e]! a[e-1]! = u):scanSorted ltInt a i e=scanSorted ltInt a i (e+1):=by rw[scanSorted.eq_1 ltInt a i e,bo N]
theorem zg{a}(b:e<i->ltInt a[e]! a[e-1]! = l):scanSorted ltInt a i e=e:=by rw[scanSorted,bl];grind
def abx{K}:∀b a,i-a<=b->a<=i->a<=scanSorted ltInt K i a/\scanSorted ltInt K i a<=i:=by
 intro b;induction b with
 |zero=>grind[zg]
 |succ b e=>
  intro a j g;by_cases d:a<i
  .cases h:ltInt K[a]! K[a-1]! with
   |false=>grind[Mi]
   |true=>grind[zg]
  grind
theorem abM{a}(d:1<=t)(s:ltInt a[t]! a[t-1]! = l):shiftDown ltInt t a=shiftDown ltInt (t-1) (swp a t (t-1)):=by
 obtain⟨t,rfl⟩:∃b,t=b+1:=⟨t-1,by omega⟩
 simp only[p5]at s⊢;rw[shiftDown,bl gY]
theorem Mq{a}(b:1<=t->ltInt a[t]! a[t-1]! = u):shiftDown ltInt t a=a:=by
 cases t with
 |zero=>rfl
 |succ t=>
  have:=b x;simp only[p5]at this;rw[shiftDown,bo N]
theorem abN{a}(b:t<i)(s:ltInt a[t]! a[t-1]! = l):shiftUp ltInt i t a=shiftUp ltInt i (t+1) (swp a t (t-1)):=by rw[shiftUp.eq_1 ltInt i t a,bo b,bl gY]
theorem Mr{a}(b:t<i->ltInt a[t]! a[t-1]! = u):shiftUp ltInt i t a=a:=by rw[shiftUp];grind
abbrev qK(e a b d g:Nat):bH:=[(0,dL e),(1,R a),(2,R b),(7,R d),(8,R (5-(g:Int)))]
def aaE{d b}{a}:partialIns ltInt d i (b+1) e a=(if scanSorted ltInt a i e=i then(a,l)else if i-d<50 then(a,u)else
  partialIns ltInt d i b (scanSorted ltInt a i e) (if i-scanSorted ltInt a i e≥2 then shiftUp ltInt i (scanSorted ltInt a i e+1) (if scanSorted ltInt a i e-d≥2 then shiftDown ltInt (scanSorted ltInt a i e-1) (swp a (scanSorted ltInt a i e) (scanSorted ltInt a i e-1))else swp a (scanSorted ltInt a i e) (scanSorted ltInt a i e-1))else(if scanSorted ltInt a i e-d≥2 then shiftDown ltInt (scanSorted ltInt a i e-1) (swp a (scanSorted ltInt a i e) (scanSorted ltInt a i e-1))else swp a (scanSorted ltInt a i e) (scanSorted ltInt a i e-1)))):=rfl
def Jh(j)(K)(r i)(W:K.size=j)(ab:r<i)(af:i<=j)(ah:j<=4000000):
  X p 261 [dL j,R r,R i] [cE j K] (bi (partialInsertionSort ltInt K r i).2) [cE j (partialInsertionSort ltInt K r i).1]:=by
 have m:a9 p [(262,qh)]:=.cons r4 .nil;refine X.I func261 rfl λag=>?_;obtain⟨w,F⟩:∃w,partialIns ltInt r i 5 (r+1) K=w:=⟨_,rfl⟩;have V:partialInsertionSort ltInt K r i=w:=F;rw[V];refine cM m a bD ?_
 refine g.cg (S2:=Unit) 0 a a (λ_=>w.2=u) (λ_=>[(0,dL j)]) (λ_=>[cE j w.1]) 1 (λb:Nat×Nat×Array Int=>b.2.2.size=j/\b.1<=5/\r+1<=b.2.1/\b.2.1<=i/\partialIns ltInt r i b.1 b.2.1 b.2.2=w) (λb=>qK j r i b.2.1 b.1) (λb=>[cE j b.2.2]) (λb=>b.1) (5,r+1,K) a E a E a ⟨W,by grind,by grind,by grind,F⟩ ?_ ?_
 .rintro Z ⟨b,e,d1⟩ ⟨bA,J,bp,o,s⟩;simp only at bA J bp o s;cases b with
  |zero=>
   rw[partialIns]at s;refine bf m [-14] a E (g.aB ?_);exact Z () N a E a (by simp[bs,<-s])
  |succ b=>
   rw[aaE]at s;refine bf m [14] a bu (g.cg (S2:=Unit) 2 a a (λ_=>True) (λ_=>qK j r i (scanSorted ltInt d1 i e) (b+1)) (λ_=>[cE j d1]) 1 (λh:Nat=>e<=h/\h<=i/\scanSorted ltInt d1 i h=scanSorted ltInt d1 i e) (λh=>qK j r i h (b+1)) (λ_=>[cE j d1]) (λh=>i-h) e a E a E a ⟨bB _,o,a⟩ ?_ ?_)
   .rintro dx h ⟨P,aa,bq⟩;by_cases ae:h<i
    .have bS:((h:Int)-1).toNat=h-1:=x;cases bd:ltInt d1[h]! d1[h-1]! with
     |false=>
      refine bf m [19,-30] a Pt (g.aA (h+1) a E E ?_ ?_)
      .grind [Mi]
      omega
     |true=>
      refine bf m [19,30] a Pt (g.aB ?_);have aj:scanSorted ltInt d1 i e=h:=by grind[zg]
      exact dx () v a bu a E
    refine bf m [-19] a bu (g.aB ?_);have aj:scanSorted ltInt d1 i e=h:=by grind[zg]
    exact dx () v a bu a E
   rintro⟨⟩ -;have Y:=abx (K:=d1) (i:=i) (i-e) e (bB _) o;obtain⟨k,H⟩:∃k,k=scanSorted ltInt d1 i e:=⟨_,rfl⟩;rw[<-H]at Y s⊢
   by_cases C:k=i
   .rw[bo C]at s;rw[<-s];refine bf m [37] a ?_ (g.aW (bX.mk [0] a ?_ a a a ha))
    .simp[C]
    simp
   rw[bl C]at s;by_cases Q:i-r<50
   .rw[bo Q]at s;rw[<-s];refine bf m [-37,41] a oQ (g.aW (bX.mk [0] a ?_ a a a ha));simp
   rw[bl Q]at s;have bS:((k:Int)-1).toNat=k-1:=x;refine bf m [-37,-41,912] a ?_ ?_
   .simp only[T,cW,c5,bS,a8,dp,eY,d6,a',a_];exact fA
   refine g.bf [cE j (swp d1 k (k-1))] a ?_ ?_
   .simp only[T.X,T,cW,c5,bS,a_,a'];exact k' bA x x (λ_ _=>rfl)
   have M:(swp d1 k (k-1)).size=j:=sb;obtain⟨d2,y⟩:∃d2,d2=swp d1 k (k-1):=⟨_,rfl⟩;rw[<-y]at M s⊢;obtain⟨d3,A⟩:∃d3,d3=if k-r≥2 then shiftDown ltInt (k-1) d2 else d2:=⟨_,rfl⟩
   rw[<-A]at s;have Ei:∀q K,(shiftDown ltInt q K).size=K.size:=by
    intro q;induction q with
    |zero=>intro K;rfl
    |succ q ai=>
     intro K;rw[shiftDown];exact sb
   have U:d3.size=j:=N;apply g.cd (qK j r i k (b+1)) [cE j d3]
   .intro dx;by_cases D:k-r≥2
    .rw[bo D]at A;refine bf m [61] a sd (g.cg (S2:=Unit) 4 a a (λ_=>True) (λ_=>qK j r i k (b+1)) (λ_=>[cE j d3]) 1 (λb:Nat×Array Int=>b.2.size=j/\b.1<i/\shiftDown ltInt b.1 b.2=d3) (λt=>qK j r i k (b+1)++[(9,R t.1)]) (λb=>[cE j b.2]) (λb=>b.1) (k-1,d2) a bu a E a ⟨M,by grind,A.symm⟩ ?_ ?_)
     .rintro d ⟨q,d4⟩ ⟨S,B,z⟩;simp only at S B z;by_cases I:1<=q
      .have bz:((q:Int)-1).toNat=q-1:=x;cases bd:ltInt d4[q]! d4[q-1]! with
       |true=>
        refine bf m [65,77] a z2 (g.aA (q-1,swp d4 q (q-1)) a bu OP ?_ ?_)
        .grind [abM]
        grind
       |false=>
        refine bf m [65,-77] a z2 (g.aB ?_);have aj:d3=d4:=by grind[Mq]
        exact d () v a E a t1
      refine bf m [-65] a bu (g.aB ?_);have aj:d3=d4:=by grind[Mq]
      exact d () v a E a t1
     rintro⟨⟩ -;exact bf m [918] a v kw
    rw[bl D]at A;rw[<-A];exact bf m [-61,918] a z1 kw
   by_cases L:i-k≥2
   .rw[bo L]at s;obtain⟨e5,O⟩:∃e5,shiftUp ltInt i (k+1) d3=e5:=⟨_,rfl⟩;rw[O]at s;refine bf m [98] a sd ?_
    refine g.cg (S2:=Unit) 6 a a (λ_=>e5.size=j) (λ_=>qK j r i k (b+1)) (λ_=>[cE j e5]) 1 (λb:Nat×Array Int=>b.2.size=j/\1<=b.1/\b.1<=i/\shiftUp ltInt i b.1 b.2=e5) (λt=>qK j r i k (b+1)++[(10,R t.1)]) (λb=>[cE j b.2]) (λb=>i-b.1) (k+1,d3) a E a E a ⟨U,by grind,by grind,O⟩ ?_ ?_
    .rintro d ⟨q,d4⟩ ⟨S,I,B,z⟩;simp only at S I B z;by_cases aM:q<i
     .have bz:((q:Int)-1).toNat=q-1:=x;cases bd:ltInt d4[q]! d4[q-1]! with
      |true=>
       refine bf m [103,115] a z2 (g.aA (q+1,swp d4 q (q-1)) a E OP ?_ ?_)
       .grind [nF,abN]
       grind
      |false=>
       refine bf m [103,-115] a z2 (g.aB ?_);have aj:e5=d4:=by grind[Mr]
       exact d () N a E a t1
     refine bf m [-103] a bu (g.aB ?_);have aj:e5=d4:=by grind[Mr]
     exact d () N a E a t1
    rintro⟨⟩ J;refine cM m a tY (g.aA (b,k,e5) a bu E N ?_);grind
   rw[bl L]at s;refine bf m [-98] a z1 (g.aA (b,k,d3) a bu E N ?_);grind
 rintro⟨⟩ G;refine cM m a v (g.aQ [0] a ?_ ha);simp[G]
end
section
open Go.Sort (swp pdq rd Rd Below SWO insertionSort heapSort breakPatterns choosePivot reverseRange partialInsertionSort partition partitionEqual Hint ltInt PermIn SortedIn)
variable {p:af V}
abbrev vS(h d e g:Nat)(a b:Bool):bH:=[(0,dL h),(1,R d),(2,R e),(3,R g),(8,bi a),(9,bi b)]
def J7{a}:qx a=2↔a=.decreasing:=by cases a<;>simp[qx]
def Y0{a}:qx a=1↔a=.increasing:=by cases a<;>simp[qx]
structure RX where
 cC:Nat
 cD:Nat
 lim:Nat
 hS:Bool
 hU:Bool
 c':Array Int
def VA(j)(a){w}(d:a.size=j)(h:i<=j)(e:w<=j)(k:j<=4000000){b}(g:b=insertionSort ltInt a w i):X p 256 [dL j,R w,R i] [cE j a] (.Q []) [cE j b]:=by grind[Vz]
def Vd(j)(a){w}(e:a.size=j)(d:w<=i)(h:1<=i-w)(k:i<=j)(m:j<=4000000){b}(g:b=heapSort ltInt a w i):X p 257 [dL j,R w,R i] [cE j a] (.Q []) [cE j b]:=by grind[U']
def W6(j)(s:j<=4000000):∀aq(K:Array Int)(w i lim:Nat),i-w<=aq->K.size=j->w<=i->i<=j->lim<=100->Below ltInt w i K ->
  ∀{C aL aN:Int},C=w->aL=i->aN=lim->∀{an:Array Int},an=pdq ltInt K w i lim l l->X p 205 [dL j,R C,R aL,R aN] [cE j K] (.Q []) [cE j an]:=by
 have e:a9 p [(262,qh)]:=.cons r4 .nil;have O:=Go.Sort.swo_ltInt;have a0:=Go.Sort.partialInsertionSort_holds (lt:=ltInt);have ah:=Go.Sort.partition_holds ltInt;have a4:=Go.Sort.partitionEqual_holds ltInt;have aU:=Go.Sort.reverseRange_holds (α:=Int);have L:=Go.Sort.pdq_sorts ltInt;intro aq;induction aq using Nat.strongRecOn with
 |_ aq ai=>
 intro K w i lim a7 ae ab az aD aI C aL aN aE aF aG an aa;subst aE aF aG;refine X.I func205 rfl λaB=>?_;refine cM e a v (g.aL 1 (λo:RX=>o.c'.size=j/\o.cC<=o.cD/\o.cD<=j/\o.lim<=100/\o.cD-o.cC<=i-w/\Below ltInt o.cC o.cD o.c'/\pdq ltInt o.c' o.cC o.cD o.lim o.hS o.hU=an) (λo=>vS j o.cC o.cD o.lim o.hS o.hU) (λo=>[cE j o.c']) (λo=>o.cD-o.cC) ⟨w,i,lim,l,l,K⟩ a E a E a ⟨ae,ab,az,aD,bB _,aI,aa.symm⟩ ?_);clear aB aI ae aa;rintro⟨h,k,q,d,m,d1⟩ ⟨U,ar,r,af,ag,aI,M⟩;simp only at U ar r af ag aI M;by_cases Q:k-h<=12
 .rw[Go.Sort.pdq_small Q]at M;refine bf e [23] a ?_ ?_
  .simp only[T,a8,bw];exact fA
  exact g.aC (VA j d1 (w:=h) (i:=k) U r x s M.symm) [0] a FP
 by_cases S:q=0
 .rw[Go.Sort.pdq_heap Q S]at M;refine bf e [-23,29] a ?_ ?_
  .simp only[T,a8,dp,gM];exact fA
  exact g.aC (Vd j d1 (w:=h) (i:=k) U ar x r s M.symm) [0] a FP
 have aj:h<k:=x;obtain⟨Y,a5,f3,f4,f5,f6,f7,f8⟩:=Go.Sort.rd_facts (limit:=q) (wb:=d) (wp:=m) O a0 aU aj N aI;have a6:=Go.Sort.rd_lim_le (lt:=ltInt) (d:=d1) (a:=h) (b:=k) (limit:=q) (wb:=d) (wp:=m);have aV:=Go.Sort.rd_dec (lt:=ltInt) (d:=d1) (a:=h) (b:=k) (limit:=q) (wb:=d) (wp:=m);have aM:=Go.Sort.rd_not (lt:=ltInt) (d:=d1) (a:=h) (b:=k) (limit:=q) (wb:=d) (wp:=m);have G:=Go.Sort.rd_pi_yes (lt:=ltInt) (d:=d1) (a:=h) (b:=k) (limit:=q) (wb:=d) (wp:=m);have aR:=Go.Sort.rd_pi_no (lt:=ltInt) (d:=d1) (a:=h) (b:=k) (limit:=q) (wb:=d) (wp:=m);have av:=Go.Sort.rd_c (lt:=ltInt) (d:=d1) (a:=h) (b:=k) (limit:=q) (wb:=d) (wp:=m);have Z:d=u->(rd ltInt d1 h k q d m).d1=breakPatterns d1 h k/\(rd ltInt d1 h k q d m).lim=q-1:=by grind[Go.Sort.rd_false]
 have a2:d=l->(rd ltInt d1 h k q d m).d1=d1/\(rd ltInt d1 h k q d m).lim=q:=by grind[Go.Sort.rd_true]
 have aO:=Go.Sort.pdq_done (lt:=ltInt) (d:=d1) (wb:=d) (wp:=m) Q S;have geq:=Go.Sort.pdq_eq (lt:=ltInt) (d:=d1) (wb:=d) (wp:=m) Q S;have y:=Go.Sort.pdq_left (lt:=ltInt) (d:=d1) (wb:=d) (wp:=m) Q S;have aT:=Go.Sort.pdq_right (lt:=ltInt) (d:=d1) (wb:=d) (wp:=m) Q S;rw[U]at Y f4 f7;rw[M]at aO geq y aT;generalize rd ltInt d1 h k q d m=b at *;apply g.cd (vS j h k b.lim d m++[(10,R ((k-h:Nat):Int))]) [cE j b.d1]
 .intro dx;cases d with
  |false=>
   obtain⟨H,J⟩:=Z rfl;refine bf e [-23,-29] a Oy (g.aC (T8 j d1 h k U ar r s) [0] a ?_);rw[<-H];refine bf e [910] a sa ?_;exact dx _ _ a (by simp[T.X,T,J,a',a_];and_intros<;>omega)
  |true=>
   obtain⟨H,J⟩:=a2 rfl;subst H;exact bf e [-23,-29,910] a Oy (dx _ _ a bu)
 refine cM e a v (g.aC (T_ j b.d1 h k ar r x s) [0] a ?_);rw[<-av];apply g.cd (vS j h k b.lim d m++[(10,R ((k-h:Nat):Int)),(11,R b.pivot),(12,R (qx b.hint))]) [cE j b.d2]
 .intro dx;by_cases aP:b.c.2=.decreasing
  .obtain⟨H,J,A⟩:=aV aP;refine bf e [50] a ?_ ?_
   .simp only[T,gM,J7];omega
   refine g.aC (Xf j b.d1 h k Y x x r s) [0] a ?_;rw[<-H];exact bf e [915] a sa (dx _ _ a (by simp[T.X,T,J,A,qx,a',a_];omega))
  obtain⟨H,J,A⟩:=aM aP;rw[<-H];refine bf e [-50,915] a ?_ ?_
  .simp only[T,eY,d6,J7];omega
  exact dx _ _ a (by simp[T.X,T,J,A,a',a_])
 by_cases B:b.pi.2=l
 ·
  have aH:(d&&m&&decide (b.hint=.increasing))=l:=N;have V:=G aH;simp[cl,bw]at aH;obtain⟨⟨rfl,rfl⟩,aW⟩:=aH;refine bf e [67] a bD (g.aC (Jh j b.d2 h k f4 aj r s) [0] a ?_);rw[<-V,B,<-aO B];exact FP
 rw[p8]at B;apply g.cd (vS j h k b.lim d m++[(10,R ((k-h:Nat):Int)),(11,R b.pivot)]) [cE j b.pi.1]
 .intro dx;cases z:(d&&m&&decide (b.hint=.increasing))with
  |true=>
   have V:=G z;simp[cl,bw]at z;obtain⟨⟨rfl,rfl⟩,aW⟩:=z;refine bf e [67] a bD (g.aC (Jh j b.d2 h k f4 aj r s) [0] a ?_);rw[<-V,B];exact FA
  |false=>
   have V:b.d2=b.pi.1:=N;rw[V];cases d with
   |false=>
    exact FA
   |true=>
    cases m with
    |false=>
     exact FA
    |true=>
     refine bf e [-67,917] a ?_ ?_
     .simp only[T,eY,d6,Y0];grind
     exact kw
 have W:((h:Int)-1).toNat=h-1:=x;cases z:(decide (h>0)&&!ltInt b.pi.1[h-1]! b.pi.1[b.pivot]!)with
 |true=>
  have au:=z;simp[cl,bw,jc]at au;obtain⟨F,t,I,D,_⟩:=Go.Sort.round_eq (mid:=(partitionEqual ltInt b.pi.1 h k b.pivot).1) (d4:=(partitionEqual ltInt b.pi.1 h k b.pivot).2) O a4 au.1 f6.1 f6.2 N f8 au.2 rfl;have ao:=geq B z ⟨F,t⟩;refine bf e [74,-85] a ?_ ?_
  .simp only[T,cW,c5,W,au.2,a8,bw,a',a_];exact fA
  refine g.aC (W3 j b.pi.1 h k b.pivot f7 aj r x s) [0] a (cM e a v (g.aA ⟨(partitionEqual ltInt b.pi.1 h k b.pivot).1,k,b.lim,d,m,(partitionEqual ltInt b.pi.1 h k b.pivot).2⟩ a E E N ?_));grind
 |false=>
  obtain⟨F,t,I,D,al,aJ,aK⟩:=Go.Sort.round_part (mid:=(partition ltInt b.pi.1 h k b.pivot).1) (ap:=(partition ltInt b.pi.1 h k b.pivot).2.1) (d4:=(partition ltInt b.pi.1 h k b.pivot).2.2) O ah f6.1 f6.2 N f8 rfl;apply g.cd (vS j h k b.lim d m++[(10,R ((k-h:Nat):Int)),(11,R b.pivot)]) [cE j b.pi.1]
  .intro dx;by_cases aS:0<h
   .have aZ:ltInt b.pi.1[h-1]! b.pi.1[b.pivot]! = l:=N;refine bf e [74,85,920] a ?_ ?_
    .simp only[T,cW,c5,W,aZ,a8,bw,a',a_];exact fA
    exact kw
   exact bf e [-74,920] a bu kw
  refine cM e a v (g.aC (W2 j b.pi.1 h k b.pivot f7 aj r x s) [0] a ?_);have aw:=y B z ⟨F,t⟩;have ax:=aT B z ⟨F,t⟩;generalize partition ltInt b.pi.1 h k b.pivot=P at *;rw[f7]at I;by_cases aQ:P.1-h<k-P.1
  .have ao:=aw aQ;obtain⟨w1,w2⟩:=L O P.2.2 h P.1 b.lim l l F N D;obtain⟨w3,_⟩:=aJ _ w1 w2;refine bf e [113] a sd (g.aC (ai (P.1-h) x P.2.2 h P.1 b.lim (bB _) I F x x D a a a a) [0] a (cM e a Rx (g.aA ⟨P.1+1,k,b.lim,decide (P.1-h≥(k-h) / 8),P.2.1,pdq ltInt P.2.2 h P.1 b.lim l l⟩ a bu E ?_ ?_)))
   .exact⟨by simp only;rw[w1.1,I],by grind,r,by grind,by grind,w3,ao.symm⟩
   grind
  have ao:=ax aQ;obtain⟨w1,w2⟩:=L O P.2.2 (P.1+1) k b.lim l l x N al;obtain⟨w3,_⟩:=aK _ w1 w2;refine bf e [-113] a z1 (g.aC (ai (k-(P.1+1)) x P.2.2 (P.1+1) k b.lim (bB _) I x r x al (C:=(P.1:Int)+1) x a a a) [0] a (cM e a ?_ (g.aA ⟨h,P.1,b.lim,decide (k-P.1≥(k-h) / 8),P.2.1,pdq ltInt P.2.2 (P.1+1) k b.lim l l⟩ a ?_ ?_ ?_ ?_)))
  .trivial
  .exact bu
  .simp
  .exact⟨by simp only;rw[w1.1,I],by grind,by grind,by grind,by grind,w3,ao.symm⟩
  grind
end
section
open Go.Proofs Go.Conc Go.Conc.Lib
open Go.ConcN (WgLive PayAt Has RW AtR0)
open Go.ConcR (KK WgAt stA smA rd wr mk Payload DC0)
instance aeO:Payload:=⟨245⟩
def na(h:Int):bJ:=λargs e=>match args,e with
 |[.n (.ar (.c (.int .i64 d))),g,.n (.ar (.c (.int .i64 i)))],[]=>match jt 2 g with
  |none=>n
  |some (b,a)=>f (xX (dg d (a3.ad b a) i),[],[a3.bQ b a,d=h])
 |_,_=>n
noncomputable def G7:Code:=(Tryz.f189.body).getD .skip
noncomputable def DT:Array ap:=match G7 with|.seq (.region _ a _) _=>a|_=>#[]
noncomputable def vJ:Array ap:=match G7 with|.seq _ (.region _ a _)=>a|_=>#[]
def SC:Tryz.f189.body=f (.seq (.region 0 DT u) (.region 1 vJ l)):=bU
def gT(e:Option Nat)(a:Op)(b:ao)(d:Array Edge):ap:={dst:=e,op:=a,type:=b,pos:= "l12_snap.go:82",after:=d,guard:=n}
def mF:m ap:=[gT (f 6) (.load 233 (.tmp 4)) 233 #[],gT (f 7) (.load 3 (.tmp 5)) 3 #[],gT (f 8) (.load 3 (.tmp 1)) 3 #[],gT (f 9) (.load 23 (.tmp 2)) 23 #[],gT (f 10) (.load 3 (.tmp 3)) 3 #[],
 gT (f 11) (.call {callee:=.value (.func 191),args:=#[.tmp 8,.tmp 9,.tmp 10],argTypes:=#[3,23,3]}) 245 #[⟨2,.data⟩,⟨3,.data⟩,⟨4,.data⟩],
 gT (f 12) (.indexAddr 233 (.tmp 6) (.tmp 7)) 0 #[⟨0,.data⟩,⟨1,.data⟩,⟨0,.phase⟩,⟨1,.phase⟩,⟨2,.phase⟩,⟨3,.phase⟩,⟨4,.phase⟩,⟨5,.phase⟩],
 gT n (.store 245 (.tmp 12) (.tmp 11)) 0 #[⟨6,.data⟩,⟨5,.data⟩,⟨5,.chain⟩,⟨0,.phase⟩,⟨1,.phase⟩,⟨2,.phase⟩,⟨3,.phase⟩,⟨4,.phase⟩,⟨5,.phase⟩]]
def aal:vJ=mF.toArray:=bU
def yZ(a:mF[e]?=f r):e<8:=(cO.1 a).1
section
variable (h:Int)(Z:m cb)(w:Int)(j C O:Nat)
def Lq(a:Y):bH:=[(0,cL a),(1,ax (.M [.int .i64 h])),(2,ax (.M [.R u 2 (c Z) (a3.fn Z)])),(3,ax (.M [.int .i64 w])),(4,ax (.M [.val (.slice (f ⟨O,0,n⟩) j j)])),(5,ax (.M [.int .i64 C]))]
def r9:Nat->y
 |0=>cL (.slice (f ⟨O,0,n⟩) j j)
 |1=>R C
 |2=>R h
 |3=>a3.R Z
 |4=>R w
 |5=>xX (dg h Z w)
 |6=>cL (.pointer (f ⟨O,C*2,n⟩))
 |_=>.any
def rM:Nat->Option Nat
 |6=>f 0|7=>f 1|8=>f 2|9=>f 3|10=>f 4|11=>f 5|12=>f 6|_=>n
def JT(a:Y):Nat->bH
 |5=>[(8,R h),(9,a3.R Z),(10,R w)]
 |6=>[(6,cL (.slice (f ⟨O,0,n⟩) j j)),(7,R C)]
 |_=>Lq h Z w j C O a
end
def aab{m:af V}{j C O}(k:C<j):aK m 13 mF (gT (f 12) (.indexAddr 233 (.tmp 6) (.tmp 7)) 0 #[⟨0,.data⟩,⟨1,.data⟩,⟨0,.phase⟩,⟨1,.phase⟩,⟨2,.phase⟩,⟨3,.phase⟩,⟨4,.phase⟩,⟨5,.phase⟩]) [(6,cL (.slice (f ⟨O,0,n⟩) j j)),(7,R C)] [] (cL (.pointer (f ⟨O,C*2,n⟩))) []:=by
 refine .aZ (λ_ _ _ _=>i5 a) (a0.aY λq e s h=>?_);have d:=h (.tmp 6);have b:=h (.tmp 7);have o:bE [(6,y.n (.ar (.v (.slice (f ⟨O,0,n⟩) j j)))),(7,R C)] (.tmp 6)=cL (.slice (f ⟨O,0,n⟩) j j):=rfl;have p:bE [(6,y.n (.ar (.v (.slice (f ⟨O,0,n⟩) j j)))),(7,R C)] (.tmp 7)=R C:=rfl;rw[o]at d;rw[p]at b;have d:=Rd.a' d;have b:=b8 b;generalize g:e (.tmp 7)=r at b;cases b;have i:=(bb 233 yz a).run_underlying (M:=q.a);refine⟨.pointer (f ⟨O,C*2,n⟩),?_,Rd.val a,?_⟩
 .simp[ab,gT,d,g,Instr.indexAt,asIntOf,i,show yz.desc=.slice 245 from a,(bb 245 rJ a).a_,show rJ.size=2 from a,g2,k]
 simp[ab,gT,d,g,Instr.indexAt,asIntOf,i,show yz.desc=.slice 245 from a,g2,k]
def adW{y:af V}{h}(D:bK y 191 (na h))(Z)(w)(j C O)(J:C<j)(d):
  ur y 13 mF.toArray (Lq h Z w j C O d) [] (r9 h Z w j C O) (JT h Z w j C O d) rM 7:=by
 have F:a9 y [(191,na h)]:=a9.cons D a9.nil;have s:∀(i:Nat) p z t m,mF[i]?=f p->hE eO [(191,na h)] [] mF z [] p=f (t,n,m)->T m->aK y 13 mF p z [] t []:=
  λi p z t m _ x e=>d_ bb F x e
 refine⟨?_,?_,?_,?_,?_,?_,by decide⟩
 .intro i p e K B _;simp[j6]at e;have g:=yZ e
  match i,g with
  |0,_|1,_|2,_|3,_|4,_|5,_|6,_|7,_=>
   cases e;simp[gT]at B;try (rcases B with rfl|rfl|rfl|rfl|rfl|rfl|rfl|rfl|rfl<;>decide)
   try (rcases B with rfl|rfl|rfl<;>decide)
 .intro i p t e A;simp[j6]at e;have g:=yZ e
  match i,g with
  |0,_|1,_|2,_|3,_|4,_|5,_|6,_|7,_=>
   cases e;cases A;try exact⟨rfl,by decide⟩
 .intro t i x;unfold rM at x;split at x<;>cases x<;>exact⟨_,rfl,rfl⟩
 .intro i p e r;simp[j6]at e;have g:=yZ e
  match i,g with
  |0,_=>cases e;exact s 0 _ _ _ _ a a v
  |1,_=>cases e;exact s 1 _ _ _ _ a a v
  |2,_=>cases e;exact s 2 _ _ _ _ a a v
  |3,_=>cases e;exact s 3 _ _ _ _ a a v
  |4,_=>cases e;exact s 4 _ _ _ _ a a v
  |5,_=>
   cases e;have:=s 5 _ (JT h Z w j C O d 5) _ _ a a (by simp[a3.T]);rw[a3.l]at this;exact this
  |6,_=>cases e;exact aab J
  |7,_=>grind
 .intro i p e r o k b aa q;simp[j6]at e;have g:=yZ e
  match i,g with
  |0,_|1,_|2,_|3,_|4,_=>
   match o with
   |0|1|2|3|4|5=>exact q
   |o+6=>trivial
  |5,_=>
   cases e
   match o with
   |8=>exact(show bv k b aa (r9 h Z w j C O 2)from by simpa[rM,gT,eS,Region.binds]using q)
   |9=>exact(show bv k b aa (r9 h Z w j C O 3)from by simpa[rM,gT,eS,Region.binds]using q)
   |10=>exact(show bv k b aa (r9 h Z w j C O 4)from by simpa[rM,gT,eS,Region.binds]using q)
   |0|1|2|3|4|5|6|7=>trivial
   |o+11=>trivial
  |6,_=>
   cases e
   match o with
   |6=>exact(show bv k b aa (r9 h Z w j C O 0)from by simpa[rM,gT,eS,Region.binds]using q)
   |7=>exact(show bv k b aa (r9 h Z w j C O 1)from by simpa[rM,gT,eS,Region.binds]using q)
   |0|1|2|3|4|5=>trivial
   |o+8=>trivial
  |7,_=>grind
 intro p e E I r;simp[j6]at e;cases e
 match E,I with
 |0,_=>exact⟨⟨0,.phase⟩,by simp[gT],rfl,rfl⟩
 |1,_=>exact⟨⟨1,.phase⟩,by simp[gT],rfl,rfl⟩
 |2,_=>exact⟨⟨2,.phase⟩,by simp[gT],rfl,rfl⟩
 |3,_=>exact⟨⟨3,.phase⟩,by simp[gT],rfl,rfl⟩
 |4,_=>exact⟨⟨4,.phase⟩,by simp[gT],rfl,rfl⟩
 |5,_=>exact⟨⟨5,.phase⟩,by simp[gT],rfl,rfl⟩
 |6,_=>exact⟨⟨6,.data⟩,by simp[gT],rfl,rfl⟩
 |7,_=>grind
noncomputable def ml:aJ:={(default:aJ)with fn:=Tryz.prog.funcs.size,defers:=[],mode:=.panicking [goexitEntry]}
def ru(A:Array Y):Deferred:={target:=.fn (.func 189) A,args:=#[]}
def SD(v0 v1 v2 a v4 b)(d):ar V u (born V (ru #[v0,v1,v2,a,v4,b])) d =
  .go (G ((baseD 189).at ⟨#[v0,v1,v2,a,v4,b,I,I,I,I,I,I,I],[]⟩ [.code (.seq (.region 0 DT u) (.region 1 vJ l))]) [ml]) d #[]:=by
 have h:=SC;have g:Tryz.f189.ntmps=13:=bU;have e:¬Tryz.f189.name= "runtime.NumGoroutine":=by have:(Tryz.f189.name== "runtime.NumGoroutine")=u:=bU;grind
 simp[born,ru,ar,unwind,callDeferred,invoke,callFunc,Tryz.func189,h,g,e,seen,GStep.after,G,Frame.enter,Frame.at,baseD,ml]
end
section
variable {p:af V}
abbrev nC(a:m cb)(b:Nat):cb:=a.getD b (0,[])
def Yw{j}{Z}{b}(g:e<c Z)(m:fT h (nC Z e) j=f b)(d:∀a,a<e->fT h (nC Z a) j=n):dg h Z j=f b:=by
 unfold dg;induction Z generalizing e with
 |nil=>grind
 |cons o Z i=>
  cases e with
  |zero=>grind
  |succ e=>
   have k:=d 0 x;grind
def Yx{j}{Z}(b:∀a,a<c Z->fT h (nC Z a) j=n):dg h Z j=n:=by unfold dg;grind[List.getElem_of_mem]
theorem k0.fb{P}{F}{k}{ac}(aV:b0 P ac){fn}{q}{res}{aq}(aT){Z}(b:tu ac fn.results.toList aT F res=f Z)(p:T Z)(r:dy aT k=f aq)(j:l0 aq=l)(g:ff aT=l)(e:∀h,h<q->aT[h]?=f h):
  k0 P fn q res aq .ret F k:=by
 refine⟨.inl a,aT,?_⟩;unfold tu at b;split at b
 .rename_i bg d;split at b
  .rename_i m o;split at b
   .rename_i i;exact⟨m,Z,oW.fb aV d o,b,p,i,r,j,g,e⟩
   grind
  grind
 grind
def fy{b:m Nat}:∀a,a<0->b[a]?=f a:=λ_ d=>absurd d (iG _)
def UO(o:bK p 218 lE)(h)(Z)(j)(i:cA h=l):X p 191 [R h,a3.R Z,R j] [] (xX (dg h Z j)) []:=by
 refine X.bx func191 rfl rfl rfl λq=>?_;have w:=q.R 1 a;have e:a9 p [(242,kb c6 (jC bG) c6 (λh t j=>iP (fT h t j)) λh _ _=>[cA h=l])]:=.cons (adt o) .nil;refine b9 e a v (g.aL 1 (λb=>b<=c Z/\∀k,k<b->fT h (nC Z k) j=n) (λb:Nat=>[(0,R h),(2,R j),(6,aH 0 0),(11,a3.R Z),(12,R (c Z)),(13,R b)]) (λ_=>[.cells 245 [.c (.V []),.c (.bool u)]]) (λb=>c Z-b) 0 a E a E a ⟨by omega,by omega⟩ ?_);rintro b ⟨s,m⟩;by_cases r:b<c Z
 .cases d:fT h (nC Z b) j with
  |some z=>
   refine a7 e [14,24] a ?_ (g.freeze 6 0 a a a (g.aW ?_))
   .simp only[T,c5,bG.l];refine⟨?_,bG.T _,i,by omega,by omega,fo x⟩;grind
   refine k0.fb bb [] a ?_ a a a fy;rw[Yw r d m];simp only[c5,bG.l];simp_all
  |none=>
   refine a7 e [14,-24] a ?_ (g.aA (b+1) a ?_ ?_ ?_ ?_)
   .simp only[T,c5,bG.l];refine⟨by exact bD,?_,bG.T _,i,by omega,by omega,fo x⟩;grind
   .simp
   .simp
   .grind
   grind
 refine a7 e [-14] a bT (g.aB ?_);refine b9 e a v (g.freeze 6 0 a a a ?_);refine g.b9 bb [] a ?_ a a a fy;rw[Yx λk y=>m k x];simp
def ac3(m:bK p 218 lE)(d:cA h=l):bK p 191 (na h):=by
 intro args s i k g b e;unfold na at b;split at b
 .rename_i k1 r j;split at b
  .cases b
  rename_i v t o;cases b;obtain⟨q,rfl⟩:=e;exact(UO m _ _ j d).args λw A=>b4.imp (λ_ a=>a) (b4.imp (λ_ a=>a3.cu o q a) (b4.imp (λ_ a=>a) (λ_ a=>a))) A
 grind
def sH:bJ:=λargs b=>match args,b with
 |[.n (.ar (.c (.V [46]))),.n (.ar (.c (.int .i64 a)))],[]=>f (b3 (aX a.toNat 46),[],[0<=a/\a<=3])
 |_,_=>n
def acH:bK p 279 (df c6 (λa=>R (fe a.toNat)) λa=>[0<=a/\a<=4000000]):=.a9 λa d=>by
 have e:0<=a/\a<=4000000:=d;obtain⟨b,rfl⟩:∃b:Nat,a=b:=⟨a.toNat,by omega⟩
 exact Ud (p:=p) b x
def S0(a:1<=j)(b:j<=8):j<=fe j/\fe j<=j+3:=F9
def WZ(h:bK p 278 sH)(d):X p 218 [b3 d] [] (b3 (fN d)) []:=by
 refine X.I func218 rfl λj=>?_;have e:a9 p [(277,df eI (λi=>bi (cC i)) λ_=>[]),(279,df c6 (λb=>R (fe b.toNat)) λb=>[0<=b/\b<=4000000]),(278,sH)]:=.cons EI (.cons acH (.cons h .nil));by_cases w:cC d=l
 .have q:=w;simp only[cC,cl,bw]at q;have k:=S0 q.1.1 q.1.2;refine a7 e [-5] a ?_ (g.aw a ?_)
  .simp[w,a8];omega
  simp[fN,w]
 refine a7 e [5] a oT (g.aw a ?_);simp[fN,w]
def ado(a:bK p 278 sH):bK p 218 lE:=.a9 λb _=>WZ a b
def Xd:X p 278 [b3 [46],R 0] [] (b3 []) []:=by refine X.I func278 rfl λb=>?_;refine a6 [12] a ?_ (g.aw a);simp
def Xe:X p 278 [b3 [46],R 1] [] (b3 [46]) []:=by refine X.I func278 rfl λb=>?_;refine a6 [-12,14] a ?_ (g.aw a);simp
def adz(g:X p 278 [b3 [46],R 2] [] (b3 [46,46]) [])(j:X p 278 [b3 [46],R 3] [] (b3 [46,46,46]) []):bK p 278 sH:=by
 intro args i d e b a h;unfold sH at a;split at a
 .rename_i q;cases a;have:q=0∨q=1∨q=2∨q=3:=lF;rcases this with rfl|rfl|rfl|rfl
  .exact Xd
  .exact Xe
  .exact g
  grind
 grind
def UN(w i):X p 194 [bQ.R w,bQ.R i] [] (bi (w==i)) []:=by
 refine X.I func194 rfl λj=>?_;have o:=j.R 0 a;by_cases al:c w=c i
 .refine a6 [-10] a zS (g.b7 (λb=>b<=c w/\∀d,d<b->w.getD d []=i.getD d []) (λb:Nat=>[(0,bQ.R w),(1,bQ.R i),(12,R (c w)),(13,R b)]) (λ_=>[]) (λb=>c w-b) 0 a E a v ⟨by omega,by omega⟩ ?_);rintro b ⟨h,k⟩;by_cases q:b<c w
  .by_cases e:w.getD b []=i.getD b []
   .refine a6 [14,-24] a ?_ (g.b3 (b+1) a ?_ a v ?_ ?_)
    .simp only[T,c5];have m:(w.getD b bQ.C==i.getD b bQ.C)=l:=gM.2 e;exact⟨by exact bD,by grind,by omega,by omega,by omega,by omega,fo x⟩
    .simp
    .grind
    omega
   refine a6 [14,24] a ?_ (g.bP (bX.zero a ?_))
   .simp only[T,c5];grind
   exact Ft
  refine a6 [-14] a bT (g.bs a a ?_);refine aZ a v (g.aw a ?_);have:w=i:=rl al λd e r=>by grind
  simp[this]
 refine a6 [10] a bT (g.aw a ?_);exact Ft
end
def vT{p s:ae}(t:r.op=.binOp op o p s ty){B}(Q:P.underlying o=f (.pointer B)){i q}(E:∀b g h,bc k b->bv k b g (η p)->bv k b h (η s)->∃y z,g=.pointer y/\h=.pointer z/\(y==z)=i/\(eqGuard op o p s g h).run P b.a=.ok () b.a/\(∀a,(eqGuard op o p s g h).events P b.a a=a) /\
   (Op.equal o g h).run P b.a=.ok i b.a/\∀a,(Op.equal o g h).events P b.a a=a)(x:ia op i=f q):a0 P r η k (ax (.bool q)) k:=by
 refine .aY λb I F A=>?_;obtain⟨y,z,d,e,J,m,C,j,D⟩:=E b _ _ F (A p) (A s);rw[d,e]at m j;have w:=C #[];have v:=D #[];rw[d,e]at w v;cases op<;>simp only[ia,reduceCtorEq,e4]at x
 .subst x;exact⟨.bool i,by simp[ab,t,d,e,m,binOp,j],Rd.bool,by simp[ab,t,d,e,m,w,binOp,j,v]⟩
 subst x;exact⟨.bool (!i),by simp[ab,t,d,e,m,binOp,j],Rd.bool,by simp[ab,t,d,e,m,w,binOp,j,v]⟩
def rS{h:ae}(p:r.op=.binOp op o h (.const (.pointer n)) ty){j}(B:P.underlying o=f (.pointer j)){q}(w:η h=ax .bo)(t:η (.const (.pointer n))=ax .bo)(v:ia op l=f q):a0 P r η k (ax (.bool q)) k:=by
 refine vT p B (i:=l) ?_ v;intro b x y _ g e;rw[w]at g;rw[t]at e;replace g:=b8 g;replace e:=b8 e;cases g;cases e;have s:(Op.equal o (.pointer n) (.pointer n)).run P b.a=.ok l b.a:=Fl;have m:∀d,(Op.equal o (.pointer n) (.pointer n)).events P b.a d=d:=λd=>by show(aO (9999+1) o _ _).events P b.a d=d;unfold aO;simp[underlying,B]
 exact⟨n,n,a,a,a,by cases op<;>simp[eqGuard],λd=>by cases op<;>simp[eqGuard],s,m⟩
def aaN{m:ae}(t:r.op=.binOp op o m (.const (.pointer n)) ty){s}(h:P.underlying o=f (.pointer s)){q}(y:η m=aH d off)(w:η (.const (.pointer n))=ax .bo)(x:ia op u=f q):a0 P r η k (ax (.bool q)) k:=by
 refine vT t h (i:=u) ?_ x;intro e z A _ j g;rw[y]at j;rw[w]at g;replace g:=b8 g;cases g;obtain⟨_,L,i,_,_,rfl⟩:=(j:cB k e z (.ptr d off));have v:(Op.equal o (.pointer (f ⟨i,off,n⟩)) (.pointer n)).run P e.a=.ok u e.a:=by show(aO (9999+1) o _ _).run P e.a=_;unfold aO;simp[underlying,h]
 have p:∀b,(Op.equal o (.pointer (f ⟨i,off,n⟩)) (.pointer n)).events P e.a b=b:=λb=>by show(aO (9999+1) o _ _).events P e.a b=b;unfold aO;simp[underlying,h]
 exact⟨_,n,a,a,a,by cases op<;>simp[eqGuard],λb=>by cases op<;>simp[eqGuard],v,p⟩
def aaO{z A:ae}(E:r.op=.binOp op o z A ty){h}(m:P.underlying o=f (.pointer h))(x:j≠0)(w:∀g,(sizeOf h).run P g=.ok j g)(D:∀g b,(sizeOf h).events P g b=b){q}(O:η z=aH d off)(M:η A=aH d off)(B:ia op l=f q):a0 P r η k (ax (.bool q)) k:=by
 refine vT E m (i:=l) ?_ B;intro e J K _ v t;rw[O]at v;rw[M]at t;obtain⟨_,L,i,Q,F,rfl⟩:=(v:cB k e J (.ptr d off));obtain⟨_,y,N,s,p,rfl⟩:=(t:cB k e K (.ptr d off));rw[Q]at s;cases s;rw[F]at p;cases p;have I:(Op.equal o (.pointer (f ⟨i,off,n⟩)) (.pointer (f ⟨i,off,n⟩))).run P e.a=.ok l e.a:=by show(aO (9999+1) o _ _).run P e.a=_;unfold aO;simp[underlying,m,w,x,sameAddr]
 have C:∀b,(Op.equal o (.pointer (f ⟨i,off,n⟩)) (.pointer (f ⟨i,off,n⟩))).events P e.a b=b:=λb=>by show(aO (9999+1) o _ _).events P e.a b=b;unfold aO;simp[underlying,m,w,D,x,sameAddr]
 exact⟨_,_,a,a,by simp,by cases op<;>simp[eqGuard],λb=>by cases op<;>simp[eqGuard],I,C⟩
def tv{j:ae}(s:r.op=.binOp op o j (.const (.pointer n)) ty){m}(B:P.underlying o=f (.pointer m)){q}{ah}(x:η j=ax (.M ah))(v:η (.const (.pointer n))=ax .bo)(w:ia op u=f q):a0 P r η k (ax (.bool q)) k:=by
 refine vT s B (i:=u) ?_ w;intro b y z _ h g;rw[x]at h;rw[v]at g;replace h:=b8 h;replace g:=b8 g;cases g;cases h with|M i e=>
 have t:(Op.equal o (.pointer (f ⟨i,e,n⟩)) (.pointer n)).run P b.a=.ok u b.a:=Fl;have p:∀d,(Op.equal o (.pointer (f ⟨i,e,n⟩)) (.pointer n)).events P b.a d=d:=λd=>by show(aO (9999+1) o _ _).events P b.a d=d;unfold aO;simp[underlying,B]
 exact⟨_,n,a,a,a,by cases op<;>simp[eqGuard],λd=>by cases op<;>simp[eqGuard],t,p⟩
section
variable {p:af V}
abbrev sD(e:Bool)(b:Y)(a:Option (Nat×Nat))(d:bC)(g:Nat):an:=.E (eL 307 5 e b a d g)
def IX(v1)(d:dU v1=l)(bN)(ag)(b):X p 289 [aH 0 0] [sD u v1 bN ag b] (.Q []) [sD l v1 bN ag b]:=by refine X.I func289 rfl λh=>?_;refine aZ a v ?_;refine g.aN (a0.iA bb a a a a a) a a ?_;refine g.aN (rS a underlying305 a a a) a a ?_;refine aZ a v ?_;refine g.aN (a0.iC a a underlying305 underlying214 (lU type307) (by simp[Tryz.t307]) a) a a ?_;refine g.aN (a0.jK func306 bU bU bU bU rfl rfl rfl) rfl rfl ?_;refine g.aN (a0.iz a a underlying214 underlying305 (lU type307) (by simp[Tryz.t307]) bU a) a a ?_;refine aZ a v ?_;refine g.aN (a0.iB bb a a a a a a d) a a ?_;refine aZ a v ?_;exact bX.dk [0] a v a a a (λi e=>by grind)
def IY(v1)(bN)(ag)(b):X p 289 [aH 0 0] [sD l v1 bN ag b] (.Q []) [sD l v1 bN ag b]:=by refine X.I func289 rfl λi=>?_;refine aZ a v ?_;refine g.aN (a0.gN bb a a a a a) a a ?_;refine g.aN (aaN a underlying305 a a a) a a ?_;refine aZ a v ?_;refine g.aN (a0.gN bb a a a a a) a a ?_;refine aZ a v ?_;refine g.aN (aaO a underlying305 (j:=2) ca (λe=>by simp) (λe d=>by simp) a a a) a a ?_;refine aZ a v ?_;exact bX.dk [0] a v a a a (λk h=>by grind)
abbrev dT(d:Bool)(a:Option (Nat×Nat))(b:bC)(e:Nat):an:=sD d (jI a (c b)) a b e
def h9:∀a,a<1->([0]:m Nat)[a]?=f a:=λa b=>by grind
def Cr(b)(bN)(ag)(i)(e:c ag<=9223372036854775807)(d:bN=n->ag=[]):X p 305 [aH 0 0] [dT b bN ag i] (R (c ag)) [dT b bN ag i]:=by
 refine X.I func305 rfl λh=>?_;refine aZ a v (g.aN (a0.eQ bb a a a a a) a a ?_);cases bN with
 |none=>
  have:=d a;subst this;refine g.aN (a0.fG a a underlying22 a E) a a ?_;exact PW
 |some j=>
  refine g.aN (a0.fG a a underlying22 a e) a a ?_;exact PW
def CJ(B cap)(ag b)(e)(k:c b<=9223372036854775807)(h:c ag+c b<=cap):X p 249 [aH 0 0,b3 b] [dT l (f (B,cap)) ag e] (.Q [.ar (.c (.int .i64 (c b))),.ar (.c .bC)]) [dT l (f (B,cap)) (ag++b) e]:=by refine X.I func249 rfl λj=>?_;refine aZ a v ?_;refine g.aC (IY (jI (f (B,cap)) (c ag)) (f (B,cap)) ag e) [0] a ?_;refine aZ a v ?_;refine g.aN (a0.eQ bb a a a a a) a a ?_;refine aZ a v ?_;refine g.aN (a0.ix (d:=0) (B:=B) (cap:=cap) (ag:=ag) a underlying22 underlying9 (lU type5) (by simp[Tryz.t5]) a a a a h) a a ?_;refine aZ a v ?_;refine g.aN (a0.gb bb a a a a a a a) a a ?_;have i:dT l (f (B,cap)) (ag++b) e=.E (eL 307 5 l (jI (f (B,cap)) (c ag+c b)) (f (B,cap)) (ag++b) e):=N;rw[i];refine aZ a v (g.aQ [0] a ?_ h9);simp
theorem Yk:X p 249 [aH 0 0,b3 []] [dT l n [] 0] (.Q [.ar (.c (.int .i64 0)),.ar (.c .bC)]) [dT l n [] 0]:=by refine X.I func249 rfl λb=>?_;refine aZ a v ?_;refine g.aC (IY (jI n 0) n [] 0) [0] a ?_;refine aZ a v ?_;refine g.aN (a0.eQ bb a a a a a) a a ?_;refine aZ a v ?_;refine g.aN (a0.iy a underlying22 underlying9 (lU type5) a a) a a ?_;refine aZ a v ?_;refine g.aN (a0.gb bb a a a a a a a) a a ?_;refine aZ a v (g.aQ [0] a ?_ h9);simp
abbrev iv:y:=aH 0 0
abbrev od:y:=aH 0 1
def CH(B cap)(ag)(q)(w:c ag<=9223372036854775807)(e:cap≠0):X p 250 [aH 0 0] [dT l (f (B,cap)) ag q] (b3 ag) [dT l (f (B,cap)) ag (c ag)]:=by
 refine X.I func250 rfl λh=>?_;refine a6 [901] a v ?_;refine g.df b6 10 (λb=>ay b 9) (λb=>[iv,iv,od,cL (.slice (f ⟨B,0,n⟩) (c ag) cap),cL (.pointer (f ⟨B,0,n⟩)),iv,iv,od,cL (.slice (f ⟨B,0,n⟩) (c ag) cap),R (c ag)].getD b .any) (λ(_:Unit) _=>b3 ag)
  (λ_=>[dT l (f (B,cap)) ag (c ag)]) a a a a a a ?_ ?_ ?_ ?_
 .refine⟨.x,.x,.x,iz,?_,.x,.x,.x,?_,?_,v,v,v⟩
  .exact .aN (a0.ic a a e) a
  .exact iz
  exact PE
 .intro _;refine⟨.x,.x,.x,iz,?_,.x,.x,.x,?_,?_,v,.x,v⟩
  .exact .aN (a0.ic a a e) a
  .exact iz
  exact PE
 .exact .dg (.aN (Sw (d:=0) a underlying352 bU a a a) a)
 exact OC
def Gy{b d:ae}(h:r.op=.binOp .add o b d ty){i}(g:η b=R 0)(e:η d=R i)(j:a8 .i64 i):a0 V r η k (R i) k:=by have:=a0.binOp (P:=V) (k:=k) h g e (q:=.int .i64 (0+i)) (cj:=[a8 .i64 (0+i)]) a bu;grind
def bk.gQ{e}{fn}{args}{a:ι->m an}(r:Tryz.prog.funcs[e]?=f fn)(o:(fn.name== "runtime.NumGoroutine")=u)(d:fn.body=f q)(j:ay args.length fn.ntmps=l)(t:g p fn.ntmps (λs i b=>∃h,bX fn k.length (res h) (a h) s i b) [.code q] .normal (h6 0 args) k):bk p e args k res a:=
 bk.intro r o d (fl j) (g.aU t)
def XR:X p 250 [aH 0 0] [dT l n [] 0] (b3 []) [dT l n [] 0]:=by
 refine X.I func250 rfl λe=>?_;refine a6 [901] a v ?_;refine g.df b6 10 (λb=>ay b 9) (λb=>[iv,iv,od,cL (.slice n 0 0),cL (.pointer n),iv,iv,od,cL (.slice n 0 0),R (0:Nat)].getD b .any) (λ(_:Unit) _=>b3 [])
  (λ_=>[dT l n [] 0]) a a a a a a ?_ ?_ ?_ ?_
 .refine⟨.x,.x,.x,iz,?_,.x,.x,.x,?_,?_,v,v,v⟩
  .exact .aN (a0.ib a a) a
  .exact iz
  exact qY
 .intro _;refine⟨.x,.x,.x,iz,?_,.x,.x,.x,?_,?_,v,.x,v⟩
  .exact .aN (a0.ib a a) a
  .exact iz
  exact qY
 .exact .dg (.aN (a0.j4 a a a) a)
 exact OC
def UW(j)(m:0<j)(o:j<=140737488355328):bk (ι:={e:Nat×Nat // j<=e.2}) p 290 [aH 0 0,R j] [dT l n [] 0] (λ_=>.Q []) (λt=>[dT l (f t.1) [] 0]):=by
 refine bk.gQ func290 rfl rfl rfl ?_;refine a6 [900] a v ?_;have i:a8 .i64 (j:Int):=bD;have q:y:=cL (.slice n 0 0);refine g.df (ι:={e:Nat×Nat // j<=e.2}) b6 8 (λb=>ay b 7||(ay 9 b&&ay b 13)) (λb=>[iv,iv,od,cL (.slice n 0 0),R (0:Nat),R 0,R j,R j,.any,iv,iv,od,cL (.slice n 0 0),R (0:Nat)].getD b .any)
  (λt b=>[cL (jI (f t.1) j),.any,.any,.any,.any,.any,cL (.slice (f ⟨t.1.1,0,n⟩) 0 t.1.2),cL (.slice (f ⟨t.1.1,0,n⟩) 0 t.1.2)].getD (b-8) .any)
  (λt=>[sD l (.slice n 0 0) (f t.1) [] 0]) a a a a a a ?_ ?_ ?_ ?_
 .refine⟨.x,.x,.x,iz,O6,Qg,.x,?_,v,.x,.x,.x,?_,?_,v,v,v⟩
  .exact .aN (Gy a a a i) a
  .exact iz
  exact qY
 .intro t;have k:t.1.2≠0:=N;refine⟨.x,.x,.x,iz,O6,Qg,.x,?_,v,.x,.x,.x,?_,?_,?_,.x,v⟩
  .exact .aN (Gy a a a i) a
  .exact iz
  .exact qY
  exact .aN (a0.jo (h:=0) a underlying22 (lU type5) a a (g1 _) t.2 k (g2 _ _ _)) a
 .exact .aZ a (Sv (d:=0) (Z:=#[3]) underlying22 func307 bU bU bU bU rfl rfl rfl m o rfl)
 intro t;refine aZ a v (g.aN (a0.eQ (d:=0) bb a a a a a) a a ?_);refine g.aN (a0.iQ a underlying22 (lU type5) a a) a a ?_;refine aZ a v (g.aN (a0.gb (d:=0) bb a a a a a a a) a a ?_);exact Om
def IN(j)(e:0<j)(h:j<=140737488355328):bk (ι:={i:Nat×Nat // j<=i.2}) p 248 [aH 0 0,R j] [dT u n [] 0] (λ_=>.Q []) (λt=>[dT l (f t.1) [] 0]):=by
 refine bk.gQ func248 rfl rfl rfl ?_;refine aZ a v (g.aC (IX (jI n 0) a n [] 0) [0] a (a6 [-7,903] a E ?_));refine g.df b6 4 (λb=>ay b 3||(ay 5 b&&ay b 9)||ad b 11) (λb=>[iv,iv,od,cL (.slice n 0 0),.any,iv,iv,od,cL (.slice n 0 0),R (0:Nat),.any,R j].getD b .any)
  (λ(_:Unit) b=>[R (0:Nat),.any,.any,.any,.any,.any,R (0-0),.any,bi l].getD (b-4) .any)
  (λ_=>[dT l n [] 0]) a a a a a a ?_ ?_ ?_ ?_
 .refine⟨.x,.x,.x,iz,v,.x,.x,.x,iz,?_,v,.x,v,v⟩;exact qY
 .intro _;refine⟨.x,.x,.x,iz,v,.x,.x,.x,iz,qY,Oi,.x,?_,v⟩;exact .eval (bg:=[21]) bb a9.nil (cj:=[decide ((0:Int)-0<(j:Int))=l]) a bT
 .exact Pr
 intro _;refine aZ a v (g.a6 (UW j e h) [0] a bn λt=>?_);exact Om
def TN:X p 248 [aH 0 0,R (0:Nat)] [dT u n [] 0] (.Q []) [dT l n [] 0]:=by
 refine X.I func248 rfl λe=>?_;refine aZ a v (g.aC (IX (jI n 0) a n [] 0) [0] a (a6 [-7,903] a E ?_));refine g.df b6 4 (λb=>ay b 3||(ay 5 b&&ay b 9)||ad b 11) (λb=>[iv,iv,od,cL (.slice n 0 0),.any,iv,iv,od,cL (.slice n 0 0),R (0:Nat),.any,R (0:Nat)].getD b .any)
  (λ(_:Unit) b=>[R (0:Nat),.any,.any,.any,.any,.any,R (0-0),.any,bi u].getD (b-4) .any)
  (λ_=>[dT l n [] 0]) a a a a a a ?_ ?_ ?_ ?_
 .refine⟨.x,.x,.x,iz,v,.x,.x,.x,iz,?_,v,.x,v,v⟩;exact qY
 .intro _;refine⟨.x,.x,.x,iz,v,.x,.x,.x,iz,qY,Oi,.x,?_,v⟩;exact .eval (bg:=[-21]) bb a9.nil (cj:=[decide ((0:Int)-0<((0:Nat):Int))=u]) a E
 .exact Pr
 intro _;exact aZ a v (bX.dk [0] a v a a a h9)
def GI(b:r.op=.alloc 307):a0 V r η k (aH (c k) 0) (k++[dT u n [] 0]):=
 a0.iw b (λd=>by simp) (λd a=>by simp)
def ZZ{h j m:ae}{b i q}(z)(p:r.op=.call {callee:=.builtin .min,args:=#[h,j,m],argTypes:=dt})(A:η h=R b)(x:η j=R i)(B:η m=R q)(I:min (min b i) q=z)(y:a8 .i64 z):a0 V r η k (R z) k:=by refine .aY λF a J o=>?_;have e:=o h;have d:=o j;have g:=o m;rw[A]at e;rw[x]at d;rw[B]at g;replace e:=b8 e;replace d:=b8 d;replace g:=b8 g;generalize s:a h=C at e;generalize v:a j=D at d;generalize t:a m=E at g;cases e;cases d;cases g;have w:(if q<(if i<b then i else b)then q else if i<b then i else b)=z:=N;exact⟨.int .i64 z,by simp[ab,p,resolve,invoke,builtin,s,v,t,Builtin.min_,Builtin.min2,w],.int y,by simp[ab,p,resolve,invoke,builtin,s,v,t,Builtin.min_,Builtin.min2]⟩
def Jk(e:Nat)(A:2<=e)(B:e<=3):X p 278 [b3 [46],R e] [] (b3 (aX e 46)) []:=by
 refine X.I func278 rfl λz=>?_;have w:a9 p [(304,Bv)]:=.cons acK .nil;refine bf w [-13,-15,-18,-30,-33,-40,-44,-45,-46,-47,-48,-96,935] a ?_ ?_
 .have o:(e:Int)=2∨(e:Int)=3:=x;have i:(kF [46] 0).toNat=46:=rfl;simp[a8,i,o];omega
 refine g.region ?_;refine g.aN (GI a) a a ?_;refine cM w a v (g.a6 (IN e x x) [0] a bn λs=>?_);obtain⟨⟨h,b⟩,j⟩:=s;have j:e<=b:=j;refine cM w a v (g.aC (CJ h b [] [46] 0 E bT) [0] a (cM w a v (g.b7 (λd=>1<=d/\d<=e) (λd:Nat=>[(0,b3 [46]),(7,R e),(8,R e),(9,aH 0 0)]) (λd=>[dT l (f (h,b)) (aX d 46) (d-1)]) (λd=>e-d) 1 a E a E ⟨by omega,by omega⟩ ?_)));rintro d ⟨y,t⟩;refine cM w a v (g.aC (Cr l (f (h,b)) (aX d 46) (d-1) bT E) [0] a ?_);by_cases q:d<e
 .refine bf w [113] a bT (g.aC (Cr l (f (h,b)) (aX d 46) (d-1) bT E) [0] a (cM w a lF (g.aC (Cr l (f (h,b)) (aX d 46) (d-1) bT E) [0] a (cM w a v (g.aN (ZZ 1 a a a a bT lv) a a ?_)))));refine cM w a v (g.aC (CH h b (aX d 46) (d-1) bT x) [0] a ?_);have m:mo (aX d (46:UInt8)) n (f 1)=[46]:=by
   obtain⟨k,rfl⟩:∃k,d=k+1:=⟨d-1,by omega⟩
   exact bD
  refine cM w a bT ?_;rw[m];refine g.aC (CJ h b (aX d 46) [46] (c (aX d 46)) E bT) [0] a ?_;have r:aX d (46:UInt8)++[46]=aX (d+1) 46:=by rw[List.replicate_succ']
  rw[r];refine cM w a v (g.b3 (d+1) a E a ?_ ⟨by omega,by omega⟩ x);simp
 refine bf w [-113] a bT (g.bs a a ?_);have i:d=e:=x;subst i;exact cM w a v (g.aC (CH h b (aX d 46) (d-1) bT x) [0] a wB)
def ady:bK p 278 sH:=adz (Jk 2 x x) (Jk 3 x x)
def zA:bK p 218 lE:=ado ady
def wS(b:Option (Nat×Nat))(d:Nat):Prop:=match b with|none=>d=0|some (_,a)=>d<=a/\0<a
def _root_.Go.AM.bk.hZ{e:Type}{r:af P}{t}{args}{d:ι->m an}{s:e->y}{a:e->m an}(v:bk r t args k res d)(i:ι->e)(F:∀b,s (i b)=res b)(E:∀b,a (i b)=d b):bk r t args k s a:=
 ⟨v.1,λC A j o w g p=>v.2 C A j o w g λb h D q k1 x z B=>p (i b) h D q k1 N N N⟩
def TO(j)(e:j<=140737488355328):bk (ι:={b:Option (Nat×Nat) // wS b j}) p 248 [aH 0 0,R j] [dT u n [] 0] (λ_=>.Q []) (λh=>[dT l h.1 [] 0]):=by
 by_cases g:j=0
 .subst g;exact TN.tocH.hZ (λ_=>⟨n,a⟩) bn bn
 exact(IN j x e).hZ (λd=>⟨f d.1,d.2,by grind⟩) bn bn
def CK(bN)(ag b)(e:c b<=9223372036854775807)(a:wS bN (c ag+c b)):X p 249 [aH 0 0,b3 b] [dT l bN ag 0] (.Q [.ar (.c (.int .i64 (c b))),.ar (.c .bC)]) [dT l bN (ag++b) 0]:=by
 cases bN with
 |none=>
  have a:c ag+c b=0:=a;grind[Yk]
 |some d=>exact CJ d.1 d.2 ag b 0 e a.1
def abP(a:Option (Nat×Nat))(b:bC):Nat:=match a with|none=>0|some _=>c b
def XS(bN)(ag)(d:c ag<=9223372036854775807)(a:wS bN (c ag)):X p 250 [aH 0 0] [dT l bN ag 0] (b3 ag) [dT l bN ag (abP bN ag)]:=by
 cases bN with
 |none=>
  have a:c ag=0:=a;have e:ag=[]:=jD a;subst e;exact XR
 |some b=>exact CH b.1 b.2 ag 0 d (by have:=a.2;omega)
def lp(b:m bC)(a:Nat):bC:=(b.take a).flatten
def wh{d}(a:e<c d):lp d (e+1)=lp d e++d.getD e []:=by unfold lp;grind[List.take_add_one]
def Ng{d}:lp d (c d)=d.flatten:=by simp[lp]
def we{d}(e):c (lp d e)<=c d.flatten:=by have a:d.flatten=(d.take e).flatten++(d.drop e).flatten:=F3;rw[a,dk];simp only[lp];omega
def VJ(d)(z:c d.flatten<=140737488355328):X p 193 [bQ.R d,b3 []] [] (b3 d.flatten) []:=by
 refine X.I func193 rfl λy=>?_;have D:=y.R 0 a;by_cases B:d=[]
 .subst B;refine a6 [14] a ?_ (g.aw a);simp
 by_cases A:c d=1
 .obtain⟨M,rfl⟩:=List.length_eq_one_iff.1 A;refine a6 [-14,16] a E (g.aw a ?_);simp
 have J:2<=c d:=by have:c d≠0:=N;omega
 refine a6 [-14,-16,-22] a bD (g.b7 (λb=>b<=c d) (λb:Nat=>[(0,bQ.R d),(1,b3 []),(5,R (c (lp d b))),(39,bQ.R d),(40,R (c d)),(41,R b)]) (λ_=>[]) (λb=>c d-b) 0 a ?_ a v x ?_)
 .simp[lp]
 intro b m;have K:=we (d:=d) b;by_cases j:b<c d
 .have t:=we (d:=d) (b+1);rw[wh j,dk]at t;refine a6 [42,-49] a ?_ (g.b3 (b+1) a ?_ a v x x)
  .have i:(d.getD (b:Int).toNat bQ.C)=d.getD b []:=rfl;simp only[T,a8,i];grind
  have i:(d.getD (b:Int).toNat bQ.C)=d.getD b []:=rfl;rw[wh j];simp_all
 have i:b=c d:=x;subst i;refine a6 [-42,918] a E (g.bs a a ?_);refine a6 [918] a v (g.region ?_);refine g.aN (GI a) a a ?_;refine cy a v ?_;rw[Ng];refine g.a6 (TO (c d.flatten) z) [0] a bn λw=>?_;obtain⟨h,k⟩:=w;refine cy a bu ?_;have e:∀o,o<=c d.flatten->wS h o:=λo C=>by
  cases h with
  |none=>
   have:c d.flatten=0:=k;grind
  |some F=>exact⟨fR C k.1,k.2⟩
 have q:lp d 1=d.getD 0 []:=by rw[wh x];simp[lp]
 have s:=we (d:=d) 1;rw[q]at s;refine g.aC (CK h [] (d.getD 0 []) x (e _ N)) [0] a (cy a bu (g.b7 (λb=>b+1<=c d) (λb:Nat=>[(1,b3 []),(8,aH 0 0),(63,ax (.R u 1 (c d-1) (fF 1 (bQ.fn d)))),(64,R (c d-1:Nat)),(65,R b)]) (λb=>[dT l h (lp d (b+1)) 0]) (λb=>c d-b) 0 a wJ a bD x ?_));intro b m;have I:=we (d:=d) (b+1);by_cases j:b+1<c d
 .have r:=we (d:=d) (b+2);rw[wh j,dk]at r;refine a6 [66] a bu (g.aC (CK h (lp d (b+1)) [] E (e _ N)) [0] a ?_);rw[hL];refine aZ a v (g.aC (CK h (lp d (b+1)) (d.getD (1+b) []) N (e _ N)) [0] a (aZ a bD (g.b3 (b+1) a E a ?_ x x)));refine T.X.2 ⟨?_,v⟩;rw[wh j,Nat.add_comm 1 b];simp
 have i:b+1=c d:=x;refine a6 [-66] a bu (g.bs a a ?_);rw[i,Ng];exact aZ a v (g.aC (XS h d.flatten x (e _ x)) [0] a wD)
def tb{b}(d:dX b=l)(e)(g:e<c b):97<=dq b e/\dq b e<=122:=by have a:=aY.1 d (b.getD e 0) N;simp only[jq,cl,bw]at a;unfold dq;omega
def T7(b)(e)(d:dX b=l)(r:3<=e)(h:e<=c b)(m:c b<=4000000):X p 308 [b3 b,R e] [] (bi (pL b e)) []:=by
 refine X.I func308 rfl λj=>?_;have k:=tb d (e-1) x;have o:=tb d (e-2) x;have s:=tb d (e-3) x;have i:((kF b ((e:Int)-1)).toNat:Int)=dq b (e-1):=tZ;have K:((kF b ((e:Int)-2)).toNat:Int)=dq b (e-2):=tZ;have q:((kF b ((e:Int)-3)).toNat:Int)=dq b (e-3):=tZ;refine aZ a ?_ (g.aw a ?_)
 .simp only[T,a8,i,K,q];omega
 exact On
def acU:bK p 308 (ev eI c6 (λb a=>bi (pL b a.toNat)) λb a=>[dX b=l,3<=a,a<=c b,c b<=4000000]):=.bk λb a h=>by
 obtain⟨e,i,j,g⟩:=h;obtain⟨d,rfl⟩:∃d:Nat,a=d:=⟨a.toNat,by omega⟩
 exact T7 b d e x x g
def yK{g h:ae}{e i}(z)(o:r.op=.call {callee:=.builtin .min,args:=#[g,h],argTypes:=dt})(v:η g=R e)(s:η h=R i)(y:min e i=z)(t:a8 .i64 z):a0 V r η k (R z) k:=by refine .aY λB d A j=>?_;have b:=j g;have a:=j h;rw[v]at b;rw[s]at a;replace b:=b8 b;replace a:=b8 a;generalize m:d g=w at b;generalize p:d h=x at a;cases b;cases a;have q:(if i<e then i else e)=z:=N;exact⟨.int .i64 z,by simp[ab,o,resolve,invoke,builtin,m,p,Builtin.min_,Builtin.min2,q],.int t,by simp[ab,o,resolve,invoke,builtin,m,p,Builtin.min_,Builtin.min2]⟩
theorem Te{o}{a}(e:c o<=a+3+t)(d:t<=5):lJ o a (5-t)=min (a+8) (c o):=by
 rcases dW t 5 with b|b
 .obtain⟨h,bW⟩:∃h,5-t=h+1:=⟨4-t,by omega⟩
  rw[bW];simp[lJ];grind
 rw[show 5-t=0 by omega];rfl
def Ux(o)(al)(z:dX o=l)(s:al<=c o)(A:c o<=4000000):X p 292 [b3 o,R al] [] (R (eo o al)) []:=by
 refine X.I func292 rfl λt=>?_;have w:a9 p [(308,ev eI c6 (λi j=>bi (pL i j.toNat)) λi j=>[dX i=l,3<=j,j<=c i,c i<=4000000])]:=.cons acU .nil;refine b9 w a bD (g.b7 (λb=>b<=5/\lJ o al (5-b)=eo o al) (λb:Nat=>[(0,b3 o),(1,R al),(5,R (al+3+b))]) (λ_=>[]) (λb=>5-b) 0 a E a v ⟨by omega,a⟩ ?_);rintro b ⟨y,e⟩;by_cases r:b<5/\al+3+b<c o
 .obtain⟨h,bW⟩:∃h,5-b=h+1:=⟨4-b,by omega⟩
  have m:al+(7-h)=al+3+b:=x;rw[bW]at e;simp[lJ,m]at e;rw[bl x]at e;have aj:((al:Int)+3+b).toNat=al+3+b:=x;cases q:pL o (al+3+b)with
  |true=>
   rw[q,bo a]at e;refine a7 w [11,16,22] a Qs (g.bP (bX.zero a ?_));exact bu
  |false=>
   rw[q,bl E]at e;refine a7 w [11,16,-22] a Qs (g.b3 (b+1) a ?_ a v ⟨by omega,by grind⟩ x);exact bu
 have aj:eo o al=min (al+8) (c o):=by
  rw[<-e];rcases dW b 5 with k|k
  .grind [Te]
  rw[show 5-b=0 by omega];rfl
 have d:a8 .i64 ((min (al+8) (c o):Nat):Int):=bD;rcases dW b 5 with k|k
 .refine a7 w [11,-16] a ?_ (g.bs a a ?_)
  .simp only[T,a8,bw,dp];omega
  exact QE
 refine a7 w [-11] a ?_ (g.bs a a ?_)
 .simp only[T,a8,bw,dp];omega
 exact QE
def acZ:bK p 292 (ev eI c6 (λb a=>R (eo b a.toNat)) λb a=>[dX b=l,0<=a,a<=c b,c b<=4000000]):=.bk λb a h=>by
 obtain⟨e,i,j,g⟩:=h;obtain⟨d,rfl⟩:∃d:Nat,a=d:=⟨a.toNat,by omega⟩
 exact Ux b d e x g
abbrev Hj(a:bC):O:=.fn (.func 291) [] [.M [.V a]]
theorem Uz(o):X p 251 [b3 o] [] (ax (Hj o)) []:=by refine X.I func251 rfl λb=>?_;refine gV [] 5 a v ?_;refine g.freeze 1 0 a a a ?_;exact aZ a v (g.aw a)
def UA{ac:Type}(text)(K:dX text=l)(J:c text<=4000000){e}{d}{t}(q s r:ac->an)(w:Nat->ac->Prop)(j:ac)(I:w 0 j)(aI:∀b,q b≠.bd/\s b≠.bd/\r b≠.bd)(i:∀h b,h<c text->w h b->iD (ι:={m:ac // w (eo text h) m}) p 3 [R h,R (eo text h)] [q b,s b,r b,.loop e d t] l (λm=>[q m.1,s m.1,r m.1,.loop e d t])):
  bk (ι:={b:ac // w (c text) b}) p 291 [.n (.ar (.aK 3)),ax (.M [.V text])] [q j,s j,r j,.loop e d t] (λ_=>.Q []) (λo=>[q o.1,s o.1,r o.1,.loop e d t]):=by
 refine bk.bO func291 rfl rfl rfl (g.aU ?_);have A:a9 p [(292,ev eI c6 (λy o=>R (eo y o.toNat)) λy o=>[dX y=l,0<=o,o<=c y,c y<=4000000])]:=.cons acZ .nil;refine b9 A a v ?_;show b2 p _ (.loop _) _ _ _;refine b2.loop (bq:=ac×Nat) (λk=>k.2<=c text/\w k.2 k.1) (λk=>[(0,.n (.ar (.aK 3))),(1,ax (.M [.V text])),(3,R k.2)]) (λk=>[q k.1,s k.1,r k.1,.loop e d t]) (λk=>c text-k.2) (j,0) ⟨g1 _,I⟩ (eJ a E) a ?_;rintro⟨b,h⟩ ⟨F,B⟩;simp only at F B;refine g.aU ?_;by_cases C:h<c text
 .have z:=rA text h C;refine a7 A [8] a du (g.yield (i h b C B) a a a a a a λm=>?_);refine a7 A [-16] a E ⟨(m.1,eo text h),⟨z.2.1,m.2⟩,?_,eJ a E,a⟩;grind
 have D:h=c text:=x;subst D;refine a7 A [-8] a E (g.fF a a ?_);exact⟨⟨b,B⟩,.inr a,a,qI (aI b).1 (qI (aI b).2.1 (qI (aI b).2.2 a)),[],.Q [],[],a,a,a,v⟩
def abg{j:ae}(t:r.op=.binOp op o j (.const (.pointer n)) ty){p}(B:P.underlying o=f (.pointer p)){q}{lt cx}{m i}(E:η j=.n (.ar (.aK d)))(x:c' d k=f (.E (eB W (.ak lt m i cx))))(y:η (.const (.pointer n))=ax .bo)(C:ia op u=f q):a0 P r η k (ax (.bool q)) k:=by
 refine vT t B (i:=u) ?_ C;intro b D F z h g;rw[E]at h;rw[y]at g;replace g:=b8 g;cases g;obtain⟨_,L,A,rfl,_⟩:=(h:cB k b D (.aK d));obtain⟨_,⟨i,_,_,_,_,v,_⟩,_⟩:=z.box d _ L (er x) A;rw[v];have w:(Op.equal o (.pointer (f ⟨i,0,n⟩)) (.pointer n)).run P b.a=.ok u b.a:=Fl
 have s:∀e,(Op.equal o (.pointer (f ⟨i,0,n⟩)) (.pointer n)).events P b.a e=e:=λe=>by show(aO (9999+1) o _ _).events P b.a e=e;unfold aO;simp[underlying,B]
 exact⟨_,n,a,a,a,by cases op<;>simp[eqGuard],λe=>by cases op<;>simp[eqGuard],w,s⟩
abbrev o'(a b:Int):y:=.n (.agg [.c (.int .i64 a),.c (.int .i64 b)])
abbrev mE:ao:=331
def y'(h i)(d:dI):∃a e g b,d.put h i=.ak a e g b:=by
 cases d with
 |nil=>exact⟨_,_,_,_,rfl⟩
 |ak a e g b=>
  simp only[dI.put];split
  .grind
  split<;>exact⟨_,_,_,_,rfl⟩
def C0:∀(b:m Nat)a,a<0->b[a]?=f a:=λ_ a d=>absurd d x
def sW:∀a,a<1->([0]:m Nat)[a]?=f a:=λa b=>by grind
def yc(b i)(A:a8 .i64 b)(I:a8 .i64 i):∀w:dI,X p 271 [.n (.ar (iu w 0)),o' b i] (hq mE w) (.n (.ar (.aK 0))) [.E (eB mE (w.put b i))]
 |.nil=>by refine X.I func271 rfl λJ=>?_;refine aZ a v (g.aN (rS a underlying267 a a a) a a ?_);refine aZ a v (g.cX 4 1 0 0 (lt:=.nil) (cx:=.nil) a a (λs=>absurd a s) (λs=>absurd a s) (λs=>absurd a s) ?_);exact g.aQ [1] a E (C0 _)
 |.ak lt j x cx=>by
  have o:=yc b i A I lt;have r:=yc b i A I cx;obtain⟨K,e,h,B,z⟩:=y' b i lt;obtain⟨al,d,t,q,F⟩:=y' b i cx;have y:(dI.ak lt j x cx).put b i=if b<j then .ak (lt.put b i) j x cx else if j<b then .ak lt j x (cx.put b i)else .ak lt b i cx:=rfl;rw[y];rw[z]at o⊢;rw[F]at r⊢;have k:a9 p [(271,k5 [.n (.ar (iu lt 0)),o' b i] (hq mE lt) (.n (.ar (.aK 0))) [.E (eB mE (.ak K e h B))])]:=.cons (l3 o) .nil;have m:a9 p [(271,k5 [.n (.ar (iu cx 0)),o' b i] (hq mE cx) (.n (.ar (.aK 0))) [.E (eB mE (.ak al d t q))])]:=.cons (l3 r) .nil;clear o r y z F;refine X.I func271 rfl λJ=>?_;refine aZ a v (g.aN (abg a underlying267 a a a a) a a ?_);refine aZ a v (g.gA 0 0 a a ?_);by_cases D:b<j
  .rw[bo D];cases lt<;>cases cx<;>refine bf k [15] rfl bD ?_
   .exact Qe
   .refine g.cX 4 0 3 2 (lt:=.ak K e h B) (cx:=_) a a bn bn (λ_ _=>by decide) ?_;exact tU
   .exact Qe
   refine g.cX 4 0 2 3 (lt:=.ak K e h B) (cx:=_) a a bn bn (λ_ _=>by decide) ?_;exact tU
  rw[bl D];by_cases C:j<b
  .rw[bo C];cases lt<;>cases cx<;>refine bf m [-15,33] rfl bD ?_
   .exact Rn
   .exact Rn
   .exact OG
   exact OG
  rw[bl C];cases lt<;>cases cx<;>refine bP [-15,-33] rfl bu ?_
  .refine g.cX 4 0 9 9 (lt:=.nil) (cx:=.nil) a a (λs=>absurd a s) (λs=>absurd a s) (λs=>absurd a s) ?_;exact tU
  .refine g.cX 4 0 9 2 (lt:=.nil) (cx:=_) a a (λs=>absurd a s) bn (λs=>absurd a s) ?_;exact tU
  .refine g.cX 4 0 2 9 (lt:=_) (cx:=.nil) a a bn (λs=>absurd a s) (λ_ s=>absurd a s) ?_;exact tU
  refine g.cX 4 0 2 3 (lt:=_) (cx:=_) a a bn bn (λ_ _=>by decide) ?_;exact tU
end
section
open Go.Proofs Go.Conc Go.Conc.Lib Go.ConcR.Gen
open Go.ConcN (WgLive PayAt Has RW AtR0)
open Go.ConcN.Gen
open Go.ConcR (KK WgAt stA smA rd wr mk Payload DC0)
def aak:DT=#[{dst:=n,op:=.defer {callee:=.value (.func 190),args:=#[.tmp 0],argTypes:=#[243]},type:=0,pos:= "l12_snap.go:81",after:=#[],guard:=n}]:=bU
def qe(a:Y):aJ:={baseD 189 with defers:=[dcall 190 #[a]]}
abbrev ET(a b d e g h:Y):Array Y:=#[a,b,d,e,g,h,I,I,I,I,I,I,I]
def acd(v0 v1 v2 b v4 d)(j):Goes V u (λ_ _=>True) DC0 (λi _=>i=G ((qe v0).N ⟨ET v0 v1 v2 b v4 d,[]⟩ [.code (.region 1 vJ l)]) [ml]) 8 (born V (ru #[v0,v1,v2,b,v4,d])) j:=by
  have e:True:=v;have g:True->True->True:=λ_ _=>trivial;refine Goes.step a (λw1 h=>?_);rw[SD];simp[goes_go];refine⟨⟨a,a⟩,?_⟩;clear h;rw[aak]
  u_c aw g e
  u_reg g e
  u_defer g e
  u_c aB g e
  exact Goes.stop λ_ _=>rfl
def TF(ac):QuitsD V 2 0 (G {(baseD 189).at ⟨ac,[]⟩ []with mode:=.returning} [ml]):=by
  have b:Tryz.f189.results=#[]:=bU;refine QuitsD.ctl (g':=G ml []) a (λd=>?_) ?_
  · simp[G,ar,unwind,doReturn,results,Frame.at,baseD,ml,Tryz.func189,b,seen,GStep.after,goexitEntry]
  refine QuitsD.ctl (g':={G ml []with status:=.finished}) rfl (λd=>?_) ⟨rfl,rfl⟩;simp[G,ar,unwind,ml,goexitEntry,Frame.catches];rfl
section
variable {J:hI}
def adI(C)(i:J.aG=2)(ac)(d)(b:WgLive 243 J.f d/\Has J.af (J.aG*C+1-1) (val C 0) d):
    ∃h,Goes V u (RW 243 J.f J.af (2*j) 0 (J.aG*C+1-1)) DC0 (AtR0 V 243 J.f J.af (2*j) 0 (J.aG*C+1) (val C 0)) h (G ((qe (.pointer (f ⟨J.f,0,n⟩))).N ⟨ac,[]⟩ [.inRegion mF.toArray []]) [ml]) d:=by
  refine⟨26,?_⟩;have g:(qe (.pointer (f ⟨J.f,0,n⟩))).N ⟨ac,[]⟩ [.inRegion mF.toArray []]=(baseD 189).at ⟨ac,[dcall 190 #[.pointer (f ⟨J.f,0,n⟩)]]⟩ [.inRegion mF.toArray []]:=rfl;rw[g]
  u_c aB kn_rely b
  u_c stepG_end kn_rely b
  u_in kn_rely b
  rw[stepG_unwind_enter (c:=body_done qV) a wm.f_done bU bU];simp[goes_go];refine⟨by u_nil,?_⟩;have e:=Tq (P:=V) (L:=qV) (bm:=J.f) (O:=J.af) (j:=2*j) (m3:=0) (C:=J.aG*C+1) (val:=val C 0) (q:={(baseD 189).at ⟨ac,[]⟩ []with mode:=.returning}) (ah:=[ml]) wm rfl (TF ac) _ b;exact e
def abe{d}(b:Rd bA aa (.V d)):aa=.string ⟨d.toArray⟩:=by
  cases b with
  |V a e=>rw[<-a]
def Eb{i}(a:Rd bA aa (.bool i)):aa=.bool i:=by cases a;rfl
def sh:ap:=gT n (.store 245 (.tmp 12) (.tmp 11)) 0 #[⟨6,.data⟩,⟨5,.data⟩,⟨5,.chain⟩,⟨0,.phase⟩,⟨1,.phase⟩,⟨2,.phase⟩,⟨3,.phase⟩,⟨4,.phase⟩,⟨5,.phase⟩]
def Su{d}(al:d<j)(Q:J.aG=2){Z}{C}(O:val d 0=.string ⟨((dg h Z C).getD []).toArray⟩)(aa:val d 1=.bool (dg h Z C).isSome){ac}(E:bv [] b (ac.getD 12 I) (r9 h Z C j d J.af 6))(F:bv [] b (ac.getD 11 I) (xX (dg h Z C))):
    ue V 243 J (2*j) val d (G ((qe (.pointer (f ⟨J.f,0,n⟩))).N ⟨ac,[]⟩ [.inRegion mF.toArray [7]]) [ml]) b:=by
  have E:=Rd.a' E;have F:ac.getD 11 I=.agg #[val d 0,val d 1]:=by
    obtain⟨A,ag,k⟩:=F
    match A,k with
    |[],k=>exact k.elim
    |[_],k=>exact k.2.elim
    |_::_::_::_,k=>exact k.2.2.elim
    |[ao,aq],k=>
      rw[ag,abe k.1,Eb k.2.1,O,aa]
  refine⟨a,λw1 aj s m=>?_⟩;obtain⟨g,t,ax⟩:=s;have af:J.aG*d=d*2:=N;have H:∀Y∈[val d 0,val d 1],Y.oneCell'=l:=by
    intro Y P;simp[fa,sr,or_false]at P;rcases P with rfl|rfl
    · rw[O];rfl
    · rw[aa];rfl
  have X:d*2+0+[val d 0,val d 1].length<=g.size:=N;have D:=run_storeCells_at V J.af (d*2) 245 [val d 0,val d 1] 0 g w1 t X H;simp only[j8,fw,gL,cW]at D;generalize W:(g.toList.take (d*2)++[val d 0,val d 1]++g.toList.drop (d*2+2)).toArray=new at D;have aB:new.size=g.size:=N;have ar:=setRow_heap w1 J.af g new 245 (0,0) t;have au:∀r,(w1.setRow J.af new).cell? ⟨J.af,r,n⟩=new[r]?:=λr=>cell_setRow_same w1 J.af r g new 245 (0,0) t;have av:∀r,w1.cell? ⟨J.af,r,n⟩=g[r]?:=λr=>by simp[aL,t]
  have az:∀e,e<2->new[d*2+e]?=f (val d e):=by
    intro e q;rw[<-W];have L:c (g.toList.take (d*2))=d*2:=N;rw[mh];simp[j6];rw[hn x,L]
    match e,q with
    |0,_=>simp
    |1,_=>simp
  have aw:∀r,(r<d*2∨d*2+2<=r)->new[r]?=g[r]?:=by
    intro r o;rw[<-W];have L:c (g.toList.take (d*2))=d*2:=N;rw[mh];simp only[j6];rcases o with o|o
    · grind
    · rw[hn x,L,hn N]
      simp only[fw,gL,p6];rw[show d*2+2+(r-d*2-(0+1+1))=r by omega];simp
  have R:(Value.agg #[val d 0,val d 1]).cells=#[val d 0,val d 1]:=rfl;have y:(ab (⟨ac,[]⟩:Act).eval sh).run V w1=.ok .skip (w1.setRow J.af new):=by have M:(⟨ac,[]⟩:Act).eval (.tmp 12)=.pointer (f ⟨J.af,d*2,n⟩):=E;have K:(⟨ac,[]⟩:Act).eval (.tmp 11)=.agg #[val d 0,val d 1]:=F;simp[ab,sh,gT,M,K,Instr.storeAt,Instr.sureAddr,storeVar,(bb 245 rJ a).a_,show rJ.size=2 from a,R,D]
  have v:∀p∈(ab (⟨ac,[]⟩:Act).eval sh).events V w1 #[],∃z,z<2/\p=tQ J.af (d*2+z):=by
    intro T v;have M:(⟨ac,[]⟩:Act).eval (.tmp 12)=.pointer (f ⟨J.af,d*2,n⟩):=E;have K:(⟨ac,[]⟩:Act).eval (.tmp 11)=.agg #[val d 0,val d 1]:=F;have p:ab (⟨ac,[]⟩:Act).eval sh=(do storeVar 245 ⟨J.af,d*2,n⟩ (.agg #[val d 0,val d 1]);pure .skip):=by simp[ab,sh,gT,M,K,Instr.storeAt,Instr.sureAddr]
    rw[p]at v;have ae:T∈(storeCells ⟨J.af,d*2,n⟩ [val d 0,val d 1]).events V w1 #[]:=by simp only[storeVar,aD,(bb 245 rJ a).a_,show rJ.size=2 from a,R,aG,events_sizeOf,d6,dm,cJ,c8,Sem.events_pure]at v;simpa[D]using v
    rcases ng [val d 0,val d 1] 0 g w1 #[] t X H T ae with aC|⟨z,_,ah,rfl⟩
    · grind
    grind
  have an:WgLive 243 J.f (w1.setRow J.af new):=by
    obtain⟨B,S,U⟩:=m;refine⟨B,S,?_⟩;show(w1.setRow J.af new).heap[J.f]?=_;rw[setRow_other w1 J.af J.f new ?_]
    · exact U
    · intro p
      have k:w1.heap[J.f]?=f (Go.ConcR.wgBlock 243 B S):=U;rw[p,t]at k;simp[Go.ConcR.wgBlock]at k;exact absurd k.2 ca
  refine⟨_,w1.setRow J.af new,_,Mo (i:=qe (.pointer (f ⟨J.f,0,n⟩))) (w:=⟨ac,[]⟩) (h:=[]) (aF:=mF.toArray) (e:=7) (br:=[]) (r:=sh) a a (by simp[qe,baseD]) y,?_,?_,?_⟩
  · refine⟨rfl,rfl,rfl,by simp,λi aM=>setRow_other w1 J.af i new aM,⟨new,ar,by grind⟩,λr o=>?_,λe q=>?_⟩
    · grind
    · rw[Q]at q
      rw[au,af];grind
  · intro p ai
    obtain⟨z,ah,rfl⟩:=v p (Go.Conc.mem_seen ai);exact⟨d*2+z,a,by omega,by omega⟩
  · exact adI d Q ac _ ⟨an,by show(w1.setRow J.af new).cell? _=_;grind⟩
def ad6(O:bK (af.c9 V) 191 (na h)){k}(C:k<j)(K:J.aG=2){Z}{m}(N:val k 0=.string ⟨((dg h Z m).getD []).toArray⟩)(F:val k 1=.bool (dg h Z m).isSome)(D:bc [] b)(Y:b.s=[]){v1 v2 e v4 g}(w:Rd b.u v1 (.M [.int .i64 h]))(s:Rd b.u v2 (.M [.R u 2 (c Z) (a3.fn Z)]))(B:Rd b.u e (.M [.int .i64 m]))(t:Rd b.u v4 (.M [.val (.slice (f ⟨J.af,0,n⟩) j j)]))(x:Rd b.u g (.M [.int .i64 k])):
    dv (af.c9 V) eP (ue V 243 J (2*j) val k) (born V (ru #[.pointer (f ⟨J.f,0,n⟩),v1,v2,e,v4,g])) b:=by
  refine dv.goes (p:=af.c9 V) (dj:=λ_ _=>True) (y:=DC0) (Stop:=λr _=>r=G ((qe (.pointer (f ⟨J.f,0,n⟩))).N ⟨ET (.pointer (f ⟨J.f,0,n⟩)) v1 v2 e v4 g,[]⟩ [.code (.region 1 vJ l)]) [ml])
    (λi=>bc [] i/\i.u=b.u) (λi o d z=>⟨d.1.rely z,z.u.trans d.2⟩) (λ_ _ _ _=>trivial) ?_ (λi d=>cV.ew d.1.mem) ?_ 8 _ b ⟨D,rfl⟩ (acd _ _ _ _ _ _ _)
  · rintro i I d T ⟨rfl,rfl⟩
    exact⟨a,.inl (.aY d.1)⟩
  · rintro r i ⟨M,W⟩ rfl
    rw[aal];refine cd.toW (λ_ _ _ d=>d) ?_;refine(adW O Z m j k J.af C (.pointer (f ⟨J.f,0,n⟩))).region bU (by simp[qe,baseD]) ⟨by simp[ET],⟨[],v⟩,λA=>?_⟩ a M λo E X q S Q R=>.stop ?_
    · rw[<-W]at w s B t x
      match A with
      |0=>exact Rd.val rfl
      |1=>exact w
      |2=>exact s
      |3=>exact B
      |4=>exact t
      |5=>exact x
      |A+6=>trivial
    · obtain⟨aa,U⟩:=E
      obtain rfl:U=[]:=S;exact Su C K N F (q 12) (q 11)
end
end
section
open Go.Proofs Go.Conc Go.Conc.Lib
open Go.ConcN (WgLive PayAt Has RW AtR0)
open Go.ConcR (KK WgAt stA smA rd wr mk Payload DC0)
def nk:Code->Code|.seq a _=>a|b=>b
def g5:Code->Code|.seq _ a=>a|b=>b
def G6:Code->Code|.block _ a=>a|b=>b
def ZI:Code->Code|.loop a=>a|b=>b
def DS:Code->Array ap|.region _ a _=>a|_=>#[]
noncomputable def rr:Code:=(Tryz.f147.body).getD .skip
noncomputable def hx:Code:=ZI (G6 (g5 (nk (g5 (g5 (g5 rr))))))
noncomputable def HM:Code:=nk hx
noncomputable def BF:Code:=G6 (nk (g5 (g5 hx)))
noncomputable def HN:Code:=nk BF
noncomputable def pu:Array ap:=DS (nk (g5 BF))
noncomputable def oC:Array ap:=DS (g5 (g5 BF))
noncomputable def n9:Code:=g5 (g5 (g5 hx))
noncomputable def lG:Code:=g5 (g5 (g5 (g5 rr)))
noncomputable def oD:Array ap:=DS (nk lG)
noncomputable def n_:Code:=g5 lG
def Hy:hx=.seq HM (.seq (.cond (.tmp 21) .skip (.exit 0)) (.seq (.block 1 (.seq HN (.seq (.region 6 pu u) (.region 7 oC u)))) n9)):=bU
def SU:lG=.seq (.region 9 oD u) n_:=bU
def uj(g:bH)(a:m an):fB:=λe b d=>e=.normal/\iA b g/\d=a
structure dV(dN:m an)(cG:a5)(F:bH)(k:m an)(w:Act)(b:a5):Prop where
 bR:bZ 45 k b F w
 a7:bc k b
 a2:de dN cG k b
section
variable {dN:m an}{cG:a5}{F t:bH}{k aP:m an}{w:Act}{b:a5}
def dV.rely(a:dV dN cG F k w b){e}(d:cV b e):dV dN cG F k w e:=⟨a.bR.rely d a.a7,a.a7.rely d,a.a2.trans d.aH⟩
structure nQ(i:Nat)(b:a5):Prop where
 own:¬b.own i
 s:∀L∈b.s,i∉L.ab
 u:∀r,b.u i r=n
 lt:i<b.a.heap.size
def nQ.step{i}(d:nQ i cG)(a:de dN cG k b):nQ i b:=
 ⟨by rw[a.own];exact d.own,λL h g=>by
  rcases a.bN L h i g with e|⟨m,j,e⟩
  .have:=d.lt;omega
  .exact d.s m j e,λo=>by rw[a.bz i d.lt d.s];exact d.u o,eH d.lt a.size⟩
def dV.eD{bm}(d:nQ bm cG):kU bm (dV dN cG F k w):=
 ⟨λ_ _ a e=>a.rely e,λ_ a=>⟨k,a.a7⟩,λ_ a=>let b:=d.step a.a2;⟨b.own,b.s,b.u⟩⟩
variable {p:af V}{bq:ai->a5->Prop}{i:aJ}{h:m Item}{ah:m aJ}
def dV.ctl(h:dV dN cG F k w b){B a}(m:B.status=.running)(j:∀i,ar V p.b4 B i=.go a i #[])(g:∀d,dV dN cG F k w d->cd p bq a d):cd p bq B b:=
 .ctl h.a7 m j λd e=>g d (h.rely e)
def dV.code(g:dV dN cG F k w b)(j:i.kind≠.early){q}(z:b2 p 45 q (uj t aP) F k)(o:∀a d,dV dN cG t aP a d->cd p bq (G (i.N a h) ah) d):cd p bq (G (i.N w (.code q::h)) ah) b:=by refine z b w g.bR g.a7 i h ah bq j ?_;rintro B s v r e ⟨rfl,m,rfl⟩ y A x;exact o e r ⟨y.le m,A,g.a2.trans x⟩
end
def cd.c0{bm}{W:a5->a5->Array aR->Prop}{A:ai->a5->Prop}{B}{b}(q:cd (af.ay V 243 bm) A B b)(m:gZ (λe=>e=bm) b)(i:WgLive 243 bm b.a):
  dv (af.ay V 243 bm) W (λB b=>A B b/\WgLive 243 bm b.a) B b:=by
 induction q with
 |stop q=>exact⟨.leaf,q,i⟩
 |@step B b O z I w r s _ y=>
  refine .step w λk g=>?_;have D:=g.2 i;have p:gZ (λe=>e=bm) k:=⟨λe d=>by rw[g.1.own];exact m.own e d,λe d=>by rw[g.1.s];exact m.s e d,λe d J=>by rw[g.1.u];exact m.u e d J,λe d=>eH (m.lt e d) g.1.size⟩
  obtain⟨⟨C,o,t,E,j⟩,F⟩:=s k g;refine⟨_,_,_,r k g,.inl ⟨⟨C,o,t,E,j⟩,F⟩,y k g (p.step j) ?_⟩;obtain⟨M,N,K⟩:=D;exact⟨M,N,by show(z k).a.heap[bm]?=_;rw[j.aV bm (p.lt bm a) (p.s bm a)];exact K⟩
 |aS h _ y=>exact .aS h (y (m.aS h) (by rw[h.a];exact i))
 |bZ x _ _ _=>exact x.elim
 |dj v _ _=>exact v.elim
def nQ.clear{bm}{b}(e:nQ bm b):gZ (λd=>d=bm) b:=⟨λd a=>a▸e.own,λd a=>a▸e.s,λd a=>a▸e.u,λd a=>a▸e.lt⟩
section
variable (h:Int)(Z:m cb)(bt:m Int)(O bm:Nat)
def ic(a:Nat):bH:=[(3,ax (.M [.int .i64 h])),(4,ax (.M [.R u 2 (c Z) (a3.fn Z)])),(8,ax (.M [.val (.slice (f ⟨O,0,n⟩) (c bt) (c bt))])),(9,cL (.pointer (f ⟨bm,0,n⟩))),
 (18,aC.R bt),(19,R (c bt)),(20,R a)]
variable {h Z bt O bm}{p:af V}{k:m an}
def Lc{e}(b:e<=c bt):b2 p 45 HM (uj ((21,bi (decide (e<c bt)))::ic h Z bt O bm e) k) (ic h Z bt O bm e) k:=by
 refine g.aU ?_;by_cases d:e<c bt
 .refine a6 [21] a bT ⟨a,eJ a ?_,a⟩;exact bu
 refine a6 [-21] a bT ⟨a,eJ a ?_,a⟩;exact bu
abbrev e5:m an:=[.J,.J,.J,.J,.J]
def aas{e}(b:e<c bt):b2 p 45 HN (uj ((10,aH 5 0)::(11,aH 6 0)::ic h Z bt O bm e) [.J,.J,.J,.J,.J,.cells 3 [.c (.int .i64 e)],.cells 3 [.c (.int .i64 (bt.getD e 0))]]) (ic h Z bt O bm e) e5:=by refine g.aU ?_;refine aZ a bT ⟨a,eJ a E,?_⟩;grind
def aat{e}(b:e<c bt)(d:c bt<=4000000):b2 p 45 n9 (uj (ic h Z bt O bm (e+1)) e5) (ic h Z bt O bm e) e5:=by refine g.aU ?_;refine aZ a bD ⟨a,eJ a ?_,a⟩;simp
variable {dN:m an}{cG:a5}{bq:ai->a5->Prop}{i:aJ}{eU:m Item}{ah:m aJ}
abbrev iN:m an:=[.J,.J,.J,.J,.J,.J,.J]
variable (h Z bt O bm)in
abbrev kO(a:Nat):bH:=(11,ax (.M [.int .i64 (bt.getD a 0)]))::(10,ax (.M [.int .i64 a]))::ic h Z bt O bm a
noncomputable abbrev s_(a:m Item):m Item:=.code (.region 7 oC u)::.inBlock 1::.code n9::.inLoop hx::.inBlock 0::a
def zm{P}{eV}{a:aJ}{w}{h}{ah}{b}{q d e}(g:q=.seq d e):ar P eV (G (a.N w (.code q::h)) ah) b=.go (G (a.N w (.code d::.code e::h)) ah) b:=by grind[pD]
def toAdd{e}(j:e<c bt)(y:i.kind≠.early){w}{d:a5}(b:dV dN cG (ic h Z bt O bm e) e5 w d)(z:∀x q,dV dN cG (kO h Z bt O bm e) iN x q->cd p bq (G (i.N x (.inRegion pu [0]::s_ eU)) ah) q):
  cd p bq (G (i.N w (.code hx::.inLoop hx::.inBlock 0::eU)) ah) d:=by
 refine b.ctl a (λg=>zm Hy) λd b=>?_;refine b.code y (Lc (Nat.le_of_lt j)) λw d b=>?_;refine b.ctl a (λg=>pD) λd b=>?_;have A:w.eval (.tmp 21)=.bool l:=by have:=b.bR.al 21;simp only[j,lB]at this;exact Eb (b8 this)
 refine b.ctl a (λg=>zj A) λd b=>?_;refine b.ctl a (λg=>Mp) λd b=>?_;refine b.ctl a (λg=>pD) λd b=>?_;refine b.ctl a (λg=>zi) λd b=>?_;refine b.ctl a (λg=>pD) λd b=>?_;have b:dV dN cG (ic h Z bt O bm e) e5 w d:=⟨b.bR.le (eJ a E),b.a7,b.a2⟩
 refine b.code y (aas j) λw d b=>?_;obtain⟨q,w1,m,k,s⟩:=bZ.freeze 10 5 (W:=3) (ah:=[.c (.int .i64 e)]) (gO:=[.int .i64 e]) rfl rfl rfl b.bR b.a7;refine .aS (.of b.a7 k w1 (s.too1 b.a7)) ?_;obtain⟨r,w2,o,t,v⟩:=bZ.freeze 11 6 (W:=3) (ah:=[.c (.int .i64 (bt.getD e 0))]) (gO:=[.int .i64 (bt.getD e 0)]) rfl rfl rfl m k;refine .aS (.of k t w2 (v.too1 k)) ?_;have b:dV dN cG (kO h Z bt O bm e) iN w r:=⟨o.le (eJ a E),t,b.a2.trans ((s.too1 b.a7).trans (v.too1 k))⟩
 refine b.ctl a (λg=>pD) λd b=>?_;refine b.ctl a (λg=>zl) λd b=>?_;exact z w d b
def rT:ap:={dst:=f 25,op:=.call {callee:=.value (.func 188),args:=#[.tmp 9,.const (.int .i64 1)],argTypes:=#[243,3]},type:=0,pos:= "l12_snap.go:79",after:=#[],guard:=n}
theorem K_:pu=#[rT]:=bU
def TG{e}(s:i.kind≠.early){w}{b}(o:dV dN cG (kO h Z bt O bm e) iN w b)(j:∀d,dV dN cG (kO h Z bt O bm e) iN w d->cd p bq (G (Frame.enter V 188 #[.pointer (f ⟨bm,0,n⟩),.int .i64 1] .normal) (i.N w (.inRegion pu [0]::s_ eU)::ah)) d):
  cd p bq (G (i.N w (.inRegion pu [0]::s_ eU)) ah) b:=by
 refine .next a λd k=>?_;have g:=o.rely (p.bM k);have m:=Rd.a' (g.bR.al 9);have q:(ab w.eval rT).run V d.a=.ok (.enter 188 #[.pointer (f ⟨bm,0,n⟩),.int .i64 1]) d.a:=by have:=run_call_body (P:=V) (a:=w) (w:=d.a) (o:=rT) (f:=188) (fn:=Tryz.f188) a Tryz.func188 bU bU;rw[this,<-m];simp only[List.map_toArray,me,List.map_nil];rfl
 have t:(ab w.eval rT).events V d.a #[]=#[]:=events_call_body (P:=V) (a:=w) (w:=d.a) (o:=rT) (f:=188) (fn:=Tryz.f188) a Tryz.func188 bU bU #[];have v:listed V i.fn w rT d.a=#[]:=by unfold listed;grind[seen_none]
 refine⟨_,d,#[],?_,.aY g.a7,j d g⟩;have:=tB (P:=V) (eV:=p.b4) (i:=i) (w:=w) (h:=s_ eU) (ah:=ah) (M:=d.a) (aF:=pu) (e:=0) (br:=[]) (r:=rT) (by grind[K_]) a s q;grind
def vD:ap:={dst:=f 26,op:=.makeFunc (.func 189) #[] #[.tmp 9,.tmp 3,.tmp 4,.tmp 11,.tmp 8,.tmp 10],type:=1,pos:= "l12_snap.go:80",after:=#[],guard:=n}
def ps:ap:={dst:=n,op:=.go {callee:=.value (.tmp 26),args:=#[],argTypes:=#[]},type:=0,pos:= "l12_snap.go:80",after:=#[⟨0,.data⟩],guard:=n}
theorem K':oC=[vD,ps].toArray:=bU
variable (h Z bt O bm)in
abbrev sJ(a:Nat):AM.O:=.fn (.func 189) [] [.val (.pointer (f ⟨bm,0,n⟩)),.M [.int .i64 h],.M [.R u 2 (c Z) (a3.fn Z)],.M [.int .i64 (bt.getD a 0)],.M [.val (.slice (f ⟨O,0,n⟩) (c bt) (c bt))],.M [.int .i64 a]]
def aaa{e}:aK p 45 [vD,ps] vD ((25,.any)::kO h Z bt O bm e) iN (ax (sJ h Z bt O bm e)) iN:=by have a:hE eO [] [] [vD,ps] ((25,.any)::kO h Z bt O bm e) iN vD=f (ax (sJ h Z bt O bm e),n,[]):=rfl;exact d_ bb a9.nil a v
def toGo{e}(x:i.kind≠.early){w}{b}(d:dV dN cG (kO h Z bt O bm e) iN w b)(q:∀aa m g,dV dN cG (kO h Z bt O bm e) iN m g->Rd g.u aa (sJ h Z bt O bm e)->m.tmps.getD 26 I=aa->cd p bq (G (i.N m (.inRegion oC [1]::.inBlock 1::.code n9::.inLoop hx::.inBlock 0::eU)) ah) g):
  cd p bq (G (i.N (w.put (f 25) (.tuple #[])) (.inRegion pu []::s_ eU)) ah) b:=by
 have t:dV dN cG ((25,.any)::kO h Z bt O bm e) iN (w.put (f 25) (.tuple #[])) b:=⟨d.bR.put ca v,d.a7,d.a2⟩
 refine t.ctl a (λy=>v3) λb d=>?_;refine d.ctl a (λy=>zl) λb d=>?_;rw[K'];refine aaa b _ d.bR d.a7 i _ ah bq 0 [1] x a λaa g j r o=>?_;have j:=b8 j;have k:=((d.bR.mono o d.a7.len).put (K:=26) (aa:=aa) (C:=.any) ca v)
 have s:26<(w.put (f 25) (.tuple #[])).tmps.size:=by rw[d.bR.size];decide
 refine q aa _ g ⟨k.le (eJ a ?_),r,d.a2.trans o⟩ j (aa3 s);simp
def adO{e}(k:e<c bt)(A:c bt<=4000000)(j:i.kind≠.early)(t:dN.length<=5){w}{b}(d:dV dN cG (kO h Z bt O bm e) iN w b)(s:∀o q,dV dN cG (ic h Z bt O bm (e+1)) e5 o q->cd p bq (G (i.N o (.code hx::.inLoop hx::.inBlock 0::eU)) ah) q):
  cd p bq (G (i.N w (.inRegion oC []::.inBlock 1::.code n9::.inLoop hx::.inBlock 0::eU)) ah) b:=by
 have g:bZ 45 (e5++[.J,.J]) b (ic h Z bt O bm e) w:=d.bR.le (eJ a E);have m:=d.a7;have v:de dN cG (e5++[.J,.J]) b:=d.a2;have z:e3 b (b.cut (c e5)):=⟨rfl,λ_ _ _ d=>d,λ_ _ _=>rfl,m.mem,λi j=>j.imp id λ⟨L,y,j⟩=>⟨L,g0 y,j⟩⟩
 refine .aS z ?_;have d:dV dN cG (ic h Z bt O bm e) e5 w (b.cut (c e5)):=⟨⟨g.size,g.defers.imp λ_ x=>x.drop a,λB=>(g.al B).drop (vm a)⟩,m.drop a,v.drop t⟩
 refine d.ctl a (λr=>v3) λb d=>?_;refine d.ctl a (λr=>Ml) λb d=>?_;refine d.code j (aat k A) λw b d=>?_;exact d.ctl a (λr=>Mm) λb d=>s w b d
end
theorem rm{a:aJ}(d:a.roundOf=n)(b)(o):a.N b o=a.at ⟨b.tmps,b.defers++a.defers⟩ o:=by cases a;simp only at d;subst d;rfl
section
variable {h:Int}{Z:m cb}{bt:m Int}{J:hI}{val:Nat->Nat->Y}{dN:m an}{cG:a5}{i:aJ}{eU:m Item}{ah:m aJ}
def J1{w:Act}{M}{q g9 iJ jJ uQ a}(d:w.tmps.getD 26 I=.func (.func 189) #[] #[q,g9,iJ,jJ,uQ,a]):(ab w.eval ps).run V M=.ok (.spawn (ru #[q,g9,iJ,jJ,uQ,a])) M/\(ab w.eval ps).events V M #[]=#[]:=by
 have b:w.eval (.tmp 26)=.func (.func 189) #[] #[q,g9,iJ,jJ,uQ,a]:=d;constructor
 .simp[ab,ps,resolve,Deferred.ofValue,b,ru]
 simp[ab,ps,resolve,Deferred.ofValue,b]
def St(ab:bK (af.c9 V) 191 (na h))(R:J.aG=2)(s:i.roundOf=n)(ag:i.kind≠.early){e}(q:e<c bt)(T:val e 0=.string ⟨((dg h Z (bt.getD e 0)).getD []).toArray⟩)(E:val e 1=.bool (dg h Z (bt.getD e 0)).isSome){aa}{w}{b}(N:dV dN cG (kO h Z bt J.af J.f e) iN w b)(z:WgLive 243 J.f b.a)(y:Rd b.u aa (sJ h Z bt J.af J.f e))(x:w.tmps.getD 26 I=aa){Next:ai->a5->Prop}(A:∀j,dV dN cG (kO h Z bt J.af J.f e) iN w j->WgLive 243 J.f j.a->Next (G (i.N w (.inRegion oC []::.inBlock 1::.code n9::.inLoop hx::.inBlock 0::eU)) ah) j):
  wM V 243 J (2*c bt) val e Next (G (i.N w (.inRegion oC [1]::.inBlock 1::.code n9::.inLoop hx::.inBlock 0::eU)) ah) b:=by
 refine⟨a,λj o=>?_⟩;have v:=N.rely o.1;have U:Rd j.u aa (sJ h Z bt J.af J.f e):=by rw[o.1.u];exact y
 cases U with
 |fn D p m k C d F K Y g=>
 have S:=jD m;subst S;have O:p=[d 0,d 1,d 2,d 3,d 4,d 5]:=by
  apply p';intro t;have k:=k
  match t with
  |0=>grind
  |1=>grind
  |2=>grind
  |3=>grind
  |4=>grind
  |5=>grind
  |t+6=>grind
 subst O;have ae:=Rd.a' (g 0 _ a);obtain⟨Q,W⟩:=J1 (w:=w) (M:=j.a) x;have B:Go.Conc.listed V i.fn ⟨w.tmps,w.defers++i.defers⟩ ps j.a=#[]:=by unfold Go.Conc.listed;have:=(J1 (w:=⟨w.tmps,w.defers++i.defers⟩) (M:=j.a) x).2;grind[seen_none]
 have X:=stepG_spawn (P:=V) (main:=l) (b:=i) (a:=⟨w.tmps,w.defers++i.defers⟩) (k:=.inBlock 1::.code n9::.inLoop hx::.inBlock 0::eU) (cs:=ah) (w:=j.a) (ops:=oC) (i:=1) (rest:=[]) (o:=ps) (by grind[K']) a ag Q a;refine⟨G (i.N w (.inRegion oC []::.inBlock 1::.code n9::.inLoop hx::.inBlock 0::eU)) ah,born V (ru #[d 0,d 1,d 2,d 3,d 4,d 5]),?_,a,?_,A j v (o.2 z)⟩
 .rw[rm s,rm s,X,B];rfl
 rw[ae];exact ad6 ab q R T E (b:=j.dw) ⟨v.a7.mem,a,by simp,by simp[a5.dw],by simp[a5.dw],by simp[a5.dw]⟩ a (g 1 _ a) (g 2 _ a) (g 3 _ a) (g 4 _ a) (g 5 _ a)
def rU:ap:={dst:=f 28,op:=.call {callee:=.value (.func 192),args:=#[.tmp 9],argTypes:=#[243]},type:=0,pos:= "l12_snap.go:85",after:=#[],guard:=n}
theorem La:oD=#[rU]:=bU
variable {p:af V}{bq:ai->a5->Prop}
def adP(m:i.kind≠.early){O bm}{w}{b}(d:dV dN cG (ic h Z bt O bm (c bt)) e5 w b)(o:∀k g,dV dN cG (ic h Z bt O bm (c bt)) e5 k g->cd p bq (G (Frame.enter V 192 #[.pointer (f ⟨bm,0,n⟩)] .normal) (i.N k (.inRegion oD [0]::.code n_::eU)::ah)) g):
  cd p bq (G (i.N w (.code hx::.inLoop hx::.inBlock 0::.code lG::eU)) ah) b:=by
 refine d.ctl a (λM=>zm Hy) λb d=>?_;refine d.code m (Lc (bB _)) λw b d=>?_;refine d.ctl a (λM=>pD) λb d=>?_;have v:w.eval (.tmp 21)=.bool u:=by have:=d.bR.al 21;simp only[w9,n1]at this;exact Eb (b8 this)
 refine d.ctl a (λM=>zj v) λb d=>?_;refine d.ctl a (λM=>Mk (gl:=.code lG::eU) a) λb d=>?_;refine d.ctl a (λM=>zm SU) λb d=>?_;refine d.ctl a (λM=>zl) λb d=>?_;have d:dV dN cG (ic h Z bt O bm (c bt)) e5 w b:=⟨d.bR.le (eJ a E),d.a7,d.a2⟩
 refine .next a λg q=>?_;have j:=d.rely (p.bM q);have x:w.eval (.tmp 9)=.pointer (f ⟨bm,0,n⟩):=Rd.a' (j.bR.al 9);have t:(ab w.eval rU).run V g.a=.ok (.enter 192 #[.pointer (f ⟨bm,0,n⟩)]) g.a:=by have:=run_call_body (P:=V) (a:=w) (w:=g.a) (o:=rU) (f:=192) (fn:=Tryz.f192) a Tryz.func192 bU bU;grind
 have y:(ab w.eval rU).events V g.a #[]=#[]:=events_call_body (P:=V) (a:=w) (w:=g.a) (o:=rU) (f:=192) (fn:=Tryz.f192) a Tryz.func192 bU bU #[];have s:Go.Conc.listed V i.fn w rU g.a=#[]:=by unfold Go.Conc.listed;grind[seen_none]
 refine⟨_,g,#[],?_,.aY j.a7,o w g j⟩;have:=tB (P:=V) (eV:=p.b4) (i:=i) (w:=w) (h:=.code n_::eU) (ah:=ah) (M:=g.a) (aF:=oD) (e:=0) (br:=[]) (r:=rU) (by grind[La]) a m t;rw[s]at this;exact this
section
variable (h Z bt J dN cG i eU ah)
def wK(b:ai)(d:a5):Prop:=∃a,wL V qV J (dV dN cG (ic h Z bt J.af J.f (c bt)) e5 a) (i.N a (.inRegion oD [0]::.code n_::eU)) ah b d
def Gm(b:ai)(d:a5):Prop:=∃a,e_ V qV J (dV dN cG (ic h Z bt J.af J.f (c bt)) e5 a) (G (i.N (a.put (f 28) (.tuple #[])) (.inRegion oD []::.code n_::eU)) ah) b d
end
def Si(j:nQ J.f cG)(e:i.roundOf=n){B}{b}(d:wK h Z bt J dN cG i eU ah B b):
  dv (af.ay V 243 J.f) (dS J.f) (q8 V 243 J (Gm h Z bt J dN cG i eU ah) (wK h Z bt J dN cG i eU ah)) B b:=by
 obtain⟨a,d⟩:=d;have k:(oD[0]?).bind (·.dst)=f 28:=by rw[La];rfl
 rw[rm e]at d;refine Sj (P:=V) (L:=qV) (hN:=i) (hM:=⟨a.tmps,a.defers++i.defers⟩) (gn:=oD) (hS:=0) (hY:=[]) (hU:=.code n_::eU) (ah:=ah) wm (dV.eD j) (λB b g=>⟨a,?_⟩) (λB b m=>⟨a,?_⟩) d
 .rw[rm e];rw[k]at g;exact g
 grind[rm]
def ab7{P}{ty}{D j}{g:ai->a5->Prop}:∀h{a:ai}{b:a5},dv (af.ay P ty J.f) (dS J.f) (λa b=>oZ P ty J D val j g h a b) a b->oZ P ty J D val j g h a b
 |0,_,_,d=>dv.bind d λ_ _ e=>e
 |_+1,_,_,d=>dv.bind d λ_ _ e=>e
def ab6(R:bK (af.c9 V) 191 (na h))(M:J.aG=2)(s:nQ J.f cG)(w:i.roundOf=n)(r:i.kind≠.early)(F:dN.length<=5)(H:c bt<=4000000)(O:∀d,d<c bt->val d 0=.string ⟨((dg h Z (bt.getD d 0)).getD []).toArray⟩)(K:∀d,d<c bt->val d 1=.bool (dg h Z (bt.getD d 0)).isSome):
  ∀o,o<=c bt->∀a b,dV dN cG (ic h Z bt J.af J.f (c bt-o)) e5 a b->WgLive 243 J.f b.a ->
   oZ V 243 J (2*c bt) val (c bt) (wK h Z bt J dN cG i eU ah) o (G (i.N a (.code hx::.inLoop hx::.inBlock 0::.code lG::eU)) ah) b:=by
 intro o;induction o with
 |zero=>
  intro _ a b e k;rw[sq]at e;have:=cd.c0 (W:=dS J.f) (adP (p:=af.ay V 243 J.f) (eU:=eU) (ah:=ah) (bq:=λj b=>∃a,j=G (Frame.enter V 192 #[.pointer (f ⟨J.f,0,n⟩)] .normal) (i.N a (.inRegion oD [0]::.code n_::eU)::ah)/\dV dN cG (ic h Z bt J.af J.f (c bt)) e5 a b) r e λq v m=>.stop ⟨q,rfl,m⟩) (s.step e.a2).clear k;refine dv.bind this ?_;rintro j b ⟨⟨a,rfl,e⟩,k⟩;exact adZ (P:=V) (L:=qV) (J:=J) wm (dV.eD s) (λj b y=>⟨a,y⟩) ⟨e,k⟩
 |succ o E=>
  intro T a b e k;have g:c bt-(o+1)<c bt:=x;generalize S:c bt-(o+1)=d at e g;have:=cd.c0 (W:=dS J.f) (toAdd (p:=af.ay V 243 J.f) (eU:=.code lG::eU) (ah:=ah) (bq:=λj b=>∃a,j=G (Frame.enter V 188 #[.pointer (f ⟨J.f,0,n⟩),.int .i64 1] .normal) (i.N a (.inRegion pu [0]::s_ (.code lG::eU))::ah)/\dV dN cG (kO h Z bt J.af J.f d) iN a b) g r e λq v m=>TG r m λN A=>.stop ⟨q,rfl,A⟩) (s.step e.a2).clear k;refine dv.bind this ?_;rintro j b ⟨⟨a,rfl,e⟩,k⟩;have D:(pu[0]?).bind (·.dst)=f 25:=by rw[K_];rfl
  rw[rm w];refine Sb (P:=V) (L:=qV) (J:=J) (eb:=dV dN cG (kO h Z bt J.af J.f d) iN a) wm (dV.eD s) (λb B=>?_) ⟨e,k⟩;rw[D];have:=cd.c0 (W:=dS J.f) (toGo (p:=af.ay V 243 J.f) (eU:=.code lG::eU) (ah:=ah) (bq:=λj b=>∃t a,j=G (i.N a (.inRegion oC [1]::.inBlock 1::.code n9::.inLoop hx::.inBlock 0::.code lG::eU)) ah/\dV dN cG (kO h Z bt J.af J.f d) iN a b/\Rd b.u t (sJ h Z bt J.af J.f d)/\a.tmps.getD 26 I=t) r B.1 λt q v m C z=>.stop ⟨t,q,rfl,m,C,z⟩) (s.step B.1.a2).clear B.2;rw[rm w]at this;refine dv.bind this ?_;rintro j b ⟨⟨t,a,rfl,e,C,z⟩,k⟩;rw[S];refine⟨.leaf,St R M w r g (O d g) (K d g) e k C z λv m Q=>?_⟩;refine ab7 o ?_;have:=cd.c0 (W:=dS J.f) (adO (p:=af.ay V 243 J.f) (eU:=.code lG::eU) (ah:=ah) (bq:=λj b=>∃a,j=G (i.N a (.code hx::.inLoop hx::.inBlock 0::.code lG::eU)) ah/\dV dN cG (ic h Z bt J.af J.f (d+1)) e5 a b) g H r F m λq v m=>.stop ⟨q,rfl,m⟩) (s.step m.a2).clear Q;refine dv.bind this ?_;rintro j b ⟨⟨a,rfl,e⟩,k⟩;refine⟨.leaf,E x a b ?_ k⟩;grind
end
end
section
variable {p:af V}[p.b2]
def SL(o):∀b,b<c o->c (bx.fn o b)=2/\∀e∈bx.fn o b,nm e=l:=by intro b _;refine⟨a,λe d=>?_⟩;simp only[c1.fn,gG,bx,fa,sr,or_false]at d;rcases d with rfl|rfl<;>rfl
abbrev m0(b:m cY)(a:m Y):Prop:=ej 2 (c b) (bx.fn b) a
abbrev A'(a:fu)(d:Nat)(b:m Y):an:=.E (cp 73 2 a d b)
abbrev adc(a:fu)(d:Nat)(b:Bool):y:=.Q [.ar (.v (c0 a d)),.ar (.c (.bool b))]
def X6(o)(a d):bk (ι:={b:fu×m Y // m0 (jy o a d).1 b.2}) p 60 [bx.R o,b3 a,b3 d] [] (λb=>adc b.1.1 (jy o a d).1.length (jy o a d).2) (λb=>[A' b.1.1 (jy o a d).1.length b.1.2]):=
 (Jy o a d).thaw func60 rfl (by simp[DM,vH,vG,rV,nl,nm]) (SL _)
def ej.nil{h}:ej h 0 U []:=⟨by simp,λb a=>by omega,λb a=>by omega⟩
def aaW{o}{d e}(a:(jy o d e).2=l):(jy o d e).1.length<=6:=by
 unfold jy at a⊢;split at a
 .rename_i i;rw[bo i];split at a
  .rename_i b;rw[bo b];exact Ni b
  grind
 grind
def Sn{b d:ae}(e:r.op=.call {callee:=.builtin .append,args:=#[b,d],argTypes:=#[36,36]}):j0 V r b d 73 rK:=
 ⟨⟨36,36,De,De,e,(bb _ _ a),rfl,(bb _ _ a),rfl⟩,(bb _ _ a),by decide,by decide⟩
def LZ{b}(d:c b<=9223372036854775807):Rd bA (ji b) (.V b):=Rd.V a d
def m0.gH{o}{ag}(p:m0 o ag)(b d)(j:c b<=9223372036854775807)(k:c d<=9223372036854775807):m0 (o++[(b,d)]) (ag++[ji b,ji d]):=by
 unfold m0;rw[dk];refine ej.gH p (λr g=>?_) a a λh q e=>?_
 .simp[c1.fn,gG,ak,j5 g]
 have m:bx.fn (o++[(b,d)]) (c o)=[.V b,.V d]:=by simp[c1.fn,gG,bx]
 rw[m]at e;rcases h with _|_|h
 .simp at e;subst e;exact⟨ji b,a,λi=>LZ j⟩
 .simp at e;subst e;exact⟨ji d,a,λi=>LZ k⟩
 grind
def m0.j3{o}{ag}(m:m0 o ag)(e)(b:e<c o)(d)(j:m6 A [.c (.V d)]):m0 (o.set e ((o.getD e bx.C).1,d)) (ag.take (e*2+1)++A++ag.drop (e*2+1+c A)):=by
 unfold m0;rw[sk];refine ej.ff m e 1 b j (bB _) (λr q h=>?_) a λg p i=>?_
 .simp[c1.fn,gG,ak,p_ h]
 have k:bx.fn (o.set e ((o.getD e bx.C).1,d)) e=[.V (o.getD e bx.C).1,.V d]:=by simp[c1.fn,gG,bx,ak,b]
 rw[k]at i;rcases g with _|_|g
 .right;exact bD
 .grind
 grind
structure uq(h q:Nat) where
 dZ:m cY
 gO:fu
 hY:m Y
 k1:Nat
 je:m0 dZ hY
 kx:c dZ<=7
 jl:h<=k1
 ku:k1<=h+q
set_option maxRecDepth 20000 in
def X2(z)(i:Nat->Int)(t:Bytes i)(h)(ah:h<=50000)(B:z<=1048576):
  bk (ι:=uq h 400) p 33 [aH 0 0] [eh z i h] (λo=>cL (c0 o.gO (c o.dZ))) (λo=>[eh z i o.k1,A' o.gO (c o.dZ) o.hY]):=by
 refine bk.cv func33 rfl rfl rfl λH=>?_;refine gV [] 9 a v (g.jH 3 73 2 a λW=>?_);refine aZ a v (g.a6 (hQ z i t h 6 x B x) [0] a bn ?_);rintro⟨D,al,an⟩;refine aZ a v (g.aL 2 (λb:Nat×m cY×fu×m Y×Nat=>b.1<=5/\m0 b.2.1 b.2.2.2.1/\c b.2.1<=6/\h<=b.2.2.2.2/\b.2.2.2.2+70*b.1<=h+351) (λb=>[(0,aH 0 0),(4,R b.1),(3,cL (c0 b.2.2.1 (c b.2.1)))]) (λb=>[eh z i b.2.2.2.2,A' b.2.2.1 (c b.2.1) b.2.2.2.1]) (λb=>b.1) (D.toNat,[],W,[],h+1) a bT a E a ⟨by omega,ej.nil,by simp,by simp,by grind⟩ ?_);rintro⟨j,e,bN,ag,k1⟩ ⟨Z,r,ae,G,aa⟩;simp only at Z r ae G aa;by_cases P:0<j
 .refine a6 [11] a (by simp[P]) (g.a6 (Ji z i t k1 x B) [0] a bn ?_);rintro⟨k,ab⟩;refine aZ a v (g.a6 (X0 z i t (k1+1+1) x B) [0] a bn ?_);rintro⟨⟨M,S⟩,af,aq,ai⟩;simp only at af aq ai;refine aZ a v (g.iM (X6 e k M) 1 0 a a a a (cp.fH a (bx.fn e) r.rd) a E a bn bn a ?_);rintro⟨⟨F,C⟩,U⟩;simp only at U⊢;cases y:(jy e k M).2 with
  |true=>
   have O:=aaW y;generalize(jy e k M).1=K at U O⊢;refine gV [] 6 a v (g.swap 1 2 ca a a (λD I J=>J.1) (λD I J=>J.1) ?_);refine a6 [23] a oQ (g.aA (j-1,K,F,C,S) a bT E N ?_);grind
  |false=>
   refine a6 [-23] a bD (g.aA (j-1,e,bN,ag,S) a bT E N ?_);grind
 obtain rfl:j=0:=x;refine a6 [-11] a E (g.aB ?_);refine aZ a v (g.a6 (hQ z i t k1 40 x B x) [0] a bn ?_);rintro⟨V,aM,av⟩;by_cases L:V=0
 .refine a6 [27] a (by simp[L]) (g.a6 (Ji z i t (k1+1) x B) [0] a bn ?_);rintro⟨k,ab⟩;refine aZ a v (g.ft (d:=1) (bN:=bN) (ag:=ag) (j:=c e) (h1:=[ji k,ji [97]]) (Sn a) a a a a a a a a (λau D az q aw ax=>?_) (by show _*32<=_;omega) λF=>?_)
  .grind [EE]
  refine aZ a v (g.bG ⟨e++[(k,[97])],F,ag++[ji k,ji [97]],k1+1+1+1,r.gH k [97] x ca,by grind,by omega,by omega⟩ (g.aQ [0,1] a E ?_ (q:=nO)));grind
 by_cases ar:V=1
 .by_cases Q:0<c e
  .refine g.fA (cp.len (d:=1) a) λao=>?_;obtain⟨X,s,rfl⟩:=ao.2.2.1 Q;refine a6 [-27,35,39] a bu (g.eR bb 1 a a a a a a a N a a λA w=>?_);have aj:=r.j3 0 Q [65] w;refine aZ a v (g.bG ⟨e.set 0 ((e.getD 0 bx.C).1,[65]),.row X s,_,k1+1,aj,by grind,by omega,by omega⟩ (g.aQ [0,1] a E ?_ (q:=nO)));grind
  cases bN;all_goals
   refine a6 [-27,35,-39] a ?_ (g.bG ⟨e,_,ag,k1+1,r,by omega,by omega,by omega⟩ (g.aQ [0,1] a ?_ ?_))
   .simp[Q,ar]<;>omega
   .simp
   grind
 refine a6 [-27,-35] a bu (g.bG ⟨e,bN,ag,k1+1,r,by omega,by omega,by omega⟩ (g.aQ [0,1] a E ?_));grind
def X3(z)(b:Nat->Int)(g:Bytes b)(h)(d:h<=50000)(e:z<=1048576):
  bk (ι:=uq h 400) p 33 [aH 0 0] [eh z b h] (λa=>bx.R a.dZ) (λa=>[eh z b a.k1]):=
 bk.e1 (aP:=λa:uq h 400=>[eh z b a.k1]) (h:=2) (j:=λa:uq h 400=>c a.dZ) (U:=λa:uq h 400=>bx.fn a.dZ) (X2 z b g h d e) (λa=>a.je) bn (λ_=>bB _)
end
section
open Go.Proofs Go.Extern
abbrev gi:ao:=171
abbrev dR:ao:=169
abbrev pK:ao:=275
abbrev aV(a:ao):Y:=.pointer (f ⟨6,a,n⟩)
abbrev mJ(a:ao):Y:=.iface pK (.agg #[aV a])
abbrev kv(d:ao)(b:Nat)(a:Int):Y:=.agg #[aV d,.pointer (f ⟨b,0,n⟩),.int .u64 a]
def NI:jA V 175 λargs=>ReflectliteValue.unpack (args.getD 0 (.tuple #[])):=⟨_,Tryz.func175,by kernel_rfl,by kernel_rfl,by kernel_rfl,by kernel_rfl⟩
def abd(b)(a):(ReflectliteValue.unpack (.iface gi (.pointer (f b)))).run V a=.ok (kv gi a.heap.size 150) (a.alloc (.cells #[.pointer (f b)] gi)):=bU
def TD(a)(b)(U):(ReflectliteValue.unpack (.iface gi (.pointer (f a)))).events V b U=U:=bU
def abc(b)(a):(ReflectliteValue.unpack (.iface dR (.pointer (f b)))).run V a=.ok (kv dR a.heap.size 150) (a.alloc (.cells #[.pointer (f b)] dR)):=bU
def TC(a)(b)(U):(ReflectliteValue.unpack (.iface dR (.pointer (f a)))).events V b U=U:=bU
def aek:jA V 176 (ReflectliteValue.methodAny (ReflectliteValue.valueError "reflectlite.Value.Type" 0) λa _ _ _=>ReflectliteType.toType a):=⟨_,Tryz.func176,by kernel_rfl,by kernel_rfl,by kernel_rfl,by kernel_rfl⟩
def aba(B)(a):(ReflectliteValue.methodAny (ReflectliteValue.valueError "reflectlite.Value.Type" 0) (λb _ _ _=>ReflectliteType.toType b) #[kv gi B 150]).run V a=.ok (mJ gi) a:=bU
def TA(B)(b)(U):(ReflectliteValue.methodAny (ReflectliteValue.valueError "reflectlite.Value.Type" 0) (λa _ _ _=>ReflectliteType.toType a) #[kv gi B 150]).events V b U=U:=bU
def KG(b)(d):(Go.method (Tryz.prog.types.size+Made.depth) pK (.agg #[b]) "Kind").run V d=.ok (340,b) d/\∀a,(Go.method (Tryz.prog.types.size+Made.depth) pK (.agg #[b]) "Kind").events V d a=a:=⟨by kernel_rfl,λa=>by kernel_rfl⟩
def NH:jA V 340 (ReflectliteType.abiMethod λa=>do pure (.int .u8 (<-Rtype.kind a))):=⟨_,Tryz.func340,by kernel_rfl,by kernel_rfl,by kernel_rfl,by kernel_rfl⟩
def aa_(a):((ReflectliteType.abiMethod λb=>do pure (.int .u8 (<-Rtype.kind b))) #[aV gi]).run V a=.ok (.int .u8 22) a:=bU
def Tz(b)(U):((ReflectliteType.abiMethod λa=>do pure (.int .u8 (<-Rtype.kind a))) #[aV gi]).events V b U=U:=bU
def aa9(a):((ReflectliteType.abiMethod λb=>do pure (.int .u8 (<-Rtype.kind b))) #[aV dR]).run V a=.ok (.int .u8 22) a:=bU
def Ty(b)(U):((ReflectliteType.abiMethod λa=>do pure (.int .u8 (<-Rtype.kind a))) #[aV dR]).events V b U=U:=bU
def aeg:jA V 177 (ReflectliteValue.method (ReflectliteValue.valueError "reflectlite.Value.IsNil" 0) ReflectliteValue.isNil):=⟨_,Tryz.func177,by kernel_rfl,by kernel_rfl,by kernel_rfl,by kernel_rfl⟩
def L6(d)(b:ao->Addr->Nat->Nat->Sem Y)(aa):ReflectliteValue.method d b #[aa]=(do match<-ReflectliteValue.parts aa with|none=>d|some (g,e,a)=>b g e a (a % 32)):=rfl
def tq(B)(b):(ReflectliteValue.parts (kv gi B 150)).run V b=.ok (f (gi,⟨B,0,n⟩,150)) b/\∀a,(ReflectliteValue.parts (kv gi B 150)).events V b a=a:=⟨by kernel_rfl,λa=>by kernel_rfl⟩
def aa8(B)(i)(b)(g:b.cell? ⟨B,0,n⟩=f (.pointer (f i))):(ReflectliteValue.method (ReflectliteValue.valueError "reflectlite.Value.IsNil" 0) ReflectliteValue.isNil #[kv gi B 150]).run V b=.ok (.bool u) b /\
  ∀a,∀d∈(ReflectliteValue.method (ReflectliteValue.valueError "reflectlite.Value.IsNil" 0) ReflectliteValue.isNil #[kv gi B 150]).events V b a,d∈a∨d=⟨.cell ⟨B,0,n⟩,u,u⟩:=by
 have h:=Tryz.underlying171;rw[L6];constructor
 .simp only[cJ,(tq B b).1,c8];simp[ReflectliteValue.isNil,loadVar,isAgg,underlying,h,g]
 intro a d e;simp only[aD,cJ,(tq B b).1,(tq B b).2,c8,aG]at e;simpa[ReflectliteValue.isNil,loadVar,isAgg,underlying,h,g,show(Mode.plain==Mode.atomic)=u from rfl]using e
def ZM(b)(d):(Go.method (Tryz.prog.types.size+Made.depth) pK (.agg #[b]) "Elem").run V d=.ok (356,.agg #[b]) d/\∀a,(Go.method (Tryz.prog.types.size+Made.depth) pK (.agg #[b]) "Elem").events V d a=a:=⟨by kernel_rfl,λa=>by kernel_rfl⟩
def aed:jA V 356 (ReflectliteType.method ReflectliteType.elem):=⟨_,Tryz.func356,by kernel_rfl,by kernel_rfl,by kernel_rfl,by kernel_rfl⟩
def aa5(a):(ReflectliteType.method ReflectliteType.elem #[.agg #[aV gi]]).run V a=.ok (mJ dR) a:=bU
def Tv(a)(U):(ReflectliteType.method ReflectliteType.elem #[.agg #[aV gi]]).events V a U=U:=bU
def ZN(b)(d):(Go.method (Tryz.prog.types.size+Made.depth) pK (.agg #[b]) "Implements").run V d=.ok (357,.agg #[b]) d/\∀a,(Go.method (Tryz.prog.types.size+Made.depth) pK (.agg #[b]) "Implements").events V d a=a:=⟨by kernel_rfl,λa=>by kernel_rfl⟩
def aef:jA V 357 (ReflectliteType.relation "Implements" ReflectliteType.implements_):=⟨_,Tryz.func357,by kernel_rfl,by kernel_rfl,by kernel_rfl,by kernel_rfl⟩
def aa7(a):(ReflectliteType.relation "Implements" ReflectliteType.implements_ #[.agg #[aV dR],mJ 166]).run V a=.ok (.bool l) a:=bU
def Tx(a)(U):(ReflectliteType.relation "Implements" ReflectliteType.implements_ #[.agg #[aV dR],mJ 166]).events V a U=U:=bU
def ZL(b)(d):(Go.method (Tryz.prog.types.size+Made.depth) pK (.agg #[b]) "AssignableTo").run V d=.ok (354,.agg #[b]) d/\∀a,(Go.method (Tryz.prog.types.size+Made.depth) pK (.agg #[b]) "AssignableTo").events V d a=a:=⟨by kernel_rfl,λa=>by kernel_rfl⟩
def ad_:jA V 354 (ReflectliteType.relation "AssignableTo" ReflectliteType.assignableTo):=⟨_,Tryz.func354,by kernel_rfl,by kernel_rfl,by kernel_rfl,by kernel_rfl⟩
def aa4(a):(ReflectliteType.relation "AssignableTo" ReflectliteType.assignableTo #[.agg #[aV dR],mJ dR]).run V a=.ok (.bool l) a:=bU
def Tu(a)(U):(ReflectliteType.relation "AssignableTo" ReflectliteType.assignableTo #[.agg #[aV dR],mJ dR]).events V a U=U:=bU
def ael:jA V 221 ReflectliteType.typeOf:=⟨_,Tryz.func221,by kernel_rfl,by kernel_rfl,by kernel_rfl,by kernel_rfl⟩
def abb(aa)(a):(ReflectliteType.typeOf #[.iface dR aa]).run V a=.ok (mJ dR) a:=bU
def TB(aa)(a)(U):(ReflectliteType.typeOf #[.iface dR aa]).events V a U=U:=bU
def aee:jA V 222 (ReflectliteValue.method (ReflectliteValue.valueError "reflectlite.Value.Elem" 0) ReflectliteValue.elem):=⟨_,Tryz.func222,by kernel_rfl,by kernel_rfl,by kernel_rfl,by kernel_rfl⟩
def LS(b):(Rtype.elem? gi).run V b=.ok (f dR) b/\∀a,(Rtype.elem? gi).events V b a=a:=⟨by kernel_rfl,λa=>by kernel_rfl⟩
def LU(b)(d):(ReflectliteValue.mk dR b ReflectliteValue.flagAddr).run V d=.ok (.agg #[aV dR,.pointer (f b),.int .u64 406]) d/\∀a,(ReflectliteValue.mk dR b ReflectliteValue.flagAddr).events V d a=a:=⟨by kernel_rfl,λa=>by kernel_rfl⟩
def aa6(B)(i)(b)(g:b.cell? ⟨B,0,n⟩=f (.pointer (f i))):(ReflectliteValue.method (ReflectliteValue.valueError "reflectlite.Value.Elem" 0) ReflectliteValue.elem #[kv gi B 150]).run V b=.ok (.agg #[aV dR,.pointer (f i),.int .u64 406]) b /\
  ∀a,∀d∈(ReflectliteValue.method (ReflectliteValue.valueError "reflectlite.Value.Elem" 0) ReflectliteValue.elem #[kv gi B 150]).events V b a,d∈a∨d=⟨.cell ⟨B,0,n⟩,u,u⟩:=by
 have h:=Tryz.underlying171;rw[L6];constructor
 .simp only[cJ,(tq B b).1,c8];simp[ReflectliteValue.elem,loadVar,isAgg,underlying,h,g,LS,LU]
 intro a d e;simp only[aD,cJ,(tq B b).1,(tq B b).2,c8,aG]at e;simpa[ReflectliteValue.elem,loadVar,isAgg,underlying,h,g,LS,LU,show(Mode.plain==Mode.atomic)=u from rfl]using e
def aej:jA V 223 ReflectliteValue.set:=⟨_,Tryz.func223,by kernel_rfl,by kernel_rfl,by kernel_rfl,by kernel_rfl⟩
def abj(aa b):ReflectliteValue.set #[aa,b]=(do
  let (f (q,a,YC),f (src,i,_)):=(<-ReflectliteValue.parts aa,<-ReflectliteValue.parts b)
   |unsupported (.noEntry "extern/(internal/reflectlite.Value).Set.zeroValue")
  if YC / ReflectliteValue.flagAddr % 2==0 then unsupported (.noEntry "extern/(internal/reflectlite.Value).Set.unaddressable")
  let val<-loadVar src i
  if<-Rtype.directlyAssignable q src then storeVar q a val
  else if<-Rtype.implements q src then
   if(<-Rtype.kind src)==20 then
    match val with
    |.nilIface=>unsupported (.noEntry "extern/reflectlite: a nil value of one interface type handed on as a value of another")
    |_=>storeVar q a val
   else storeVar q a (.iface src val)
  else panicString ("reflectlite.Set: value of type "++(<-Rtype.spelt src)++ " is not assignable to type "++(<-Rtype.spelt q))
  pure (.tuple #[])):=rfl
def D8(b)(d):(ReflectliteValue.parts (.agg #[aV dR,.pointer (f b),.int .u64 406])).run V d=.ok (f (dR,b,406)) d/\∀a,(ReflectliteValue.parts (.agg #[aV dR,.pointer (f b),.int .u64 406])).events V d a=a:=⟨by kernel_rfl,λa=>by kernel_rfl⟩
def D9(B)(b):(ReflectliteValue.parts (kv dR B 150)).run V b=.ok (f (dR,⟨B,0,n⟩,150)) b/\∀a,(ReflectliteValue.parts (kv dR B 150)).events V b a=a:=⟨by kernel_rfl,λa=>by kernel_rfl⟩
def LR(b):(Rtype.directlyAssignable dR dR).run V b=.ok l b/\∀a,(Rtype.directlyAssignable dR dR).events V b a=a:=⟨by kernel_rfl,λa=>by kernel_rfl⟩
def LV(b):(sizeOf dR).run V b=.ok 1 b/\∀a,(sizeOf dR).events V b a=a:=⟨by kernel_rfl,λa=>by kernel_rfl⟩
def aa'(B i)(W)(g)(e)(b)(q:b.heap[B]?=f (.cells #[g] W (0,0)))(p:b.cell? ⟨i,0,n⟩=f (.pointer (f e))):
  (ReflectliteValue.set #[.agg #[aV dR,.pointer (f ⟨B,0,n⟩),.int .u64 406],kv dR i 150]).run V b=.ok (.tuple #[]) (b.setRow B #[.pointer (f e)]) /\
  ∀d,∀h∈(ReflectliteValue.set #[.agg #[aV dR,.pointer (f ⟨B,0,n⟩),.int .u64 406],kv dR i 150]).events V b d,h∈d∨h=⟨.cell ⟨i,0,n⟩,u,u⟩∨h=⟨.cell ⟨B,0,n⟩,l,u⟩:=by
 have o:=Tryz.underlying169;have k:∀b∈[Value.pointer (f e)],b.oneCell'=l:=λb v=>by simp at v;exact bD
 have t:=run_storeCells_at V B 0 W [.pointer (f e)] 0 #[g] b q E k;have j:(storeCells ⟨B,0,n⟩ [.pointer (f e)] 0).run V b=.ok () (b.setRow B #[.pointer (f e)]):=t;rw[abj];constructor
 .simp only[cJ,(D8 ⟨B,0,n⟩ b).1,(D9 i b).1,c8];simp[ReflectliteValue.flagAddr,loadVar,isAgg,underlying,o,p,LR,storeVar,Value.cells,LV,j]
 intro d h m;simp only[aD,cJ,(D8 ⟨B,0,n⟩ b).1,(D8 ⟨B,0,n⟩ b).2,(D9 i b).1,(D9 i b).2,c8,aG]at m;have r:h∈(storeCells ⟨B,0,n⟩ [.pointer (f e)] 0).events V b (d.push ⟨.cell ⟨i,0,n⟩,u,u⟩):=by simpa[ReflectliteValue.flagAddr,loadVar,isAgg,underlying,o,p,LR,storeVar,Value.cells,LV,j,show(Mode.plain==Mode.atomic)=u from a]using m
 rcases ng [.pointer (f e)] 0 #[g] b _ q E k h r with w|⟨s,y,x,rfl⟩
 .grind
 obtain rfl:s=0:=N;exact .inr (.inr a)
end
section
open Go.Proofs Go.Extern
variable {p:af V}
abbrev Au:an:=.E (ec 0 220 (mJ 166))
abbrev ob(a:Y):y:=ax (.val a)
abbrev x2(d:ao)(b:Nat)(a:Int):y:=.n (.agg [.c (.val (aV d)),.c (.val (.pointer (f ⟨b,0,n⟩))),.c (.val (.int .u64 a))])
abbrev GQ(d:Addr)(a b:Nat):m an:=[.E (ec b gi (.pointer (f ⟨a,0,n⟩))),.E (ec a dR (.pointer n))]
def JJ:∀a,a<2->([0,1]:m Nat)[a]?=f a:=ca
def TU(b)(B i):X p 178 [ob (.iface dR (.pointer (f b))),ob (.iface gi (.pointer (f ⟨B,0,n⟩))),x2 gi i 150,ob (mJ dR)] (GQ b B i) (bi l) [.E (ec i gi (.pointer (f ⟨B,0,n⟩))),.E (ec B dR (.pointer (f b)))]:=by refine X.I Tryz.func178 rfl λm=>?_;refine aZ a v ?_;refine g.dF 3 [0,1,3,6] (λ_:Unit=>True) (λ_=>[]) (λ_=>GQ b B i++[.cells 217 [.c (.val (aV gi)),.c (.val (.pointer (f ⟨i,0,n⟩))),.c (.val (.int .u64 150))]]) (λ_=>0) () a E a E a v λ_ _=>?_;refine aZ a v ?_;refine g.cZ a a (eF.eh (h3.ed a a) ael (abb _) (TB _) (C:=ob (mJ dR)) λ_=>Rd.val a) λ_=>?_;refine aZ a v ?_;refine g.cZ a a (eF.eh (h3.invoke a a a (ZL _)) ad_ aa4 Tu (C:=bi l) λ_=>Rd.bool) λ_=>?_;refine a6 [19] a E ?_;refine g.cZ a a (eF.g_ 0 (bz:=.pointer (f ⟨B,0,n⟩)) a (h3.ed a a) aee (λe h=>aa6 i ⟨B,0,n⟩ e h) (C:=x2 dR B 406) λ_=>⟨_,a,Rd.val a,Rd.val a,Rd.val a,v⟩) λ_=>?_;refine aZ a v ?_;refine g.cZ a a (eF.g9 (W:=dR) (bz:=.pointer (f b)) (aa:=λd=>kv dR d 150) (C:=λd=>x2 dR d 150) (h3.ed a a) NI (abc b) (TC b) λd _ _=>⟨_,a,Rd.val a,Rd.val a,Rd.val a,v⟩) λd=>?_;refine aZ a v ?_;refine g.cZ a a (eF.iW 1 3 (E3:=.pointer n) (bz:=.pointer (f b)) a a (h3.ed a a) aej (λe k j=>aa' B d dR _ b e k j) (C:=.Q []) λ_ _=>⟨[],a,v⟩) λ_=>?_;refine aZ a v (g.aW (bX.mk [0,1] a ?_ a a a JJ));simp
def Nw{ac}{e g:ae}(s:r.op=.binOp op o e g ty){q}{cw}(j:P.underlying o=f (.interface cw))(y:η e=ax (.val (.iface ac aa)))(x:η g=ax .bC)(w:∀M,(eqGuard op o e g (.iface ac aa) .nilIface).run P M=.ok () M)(al:∀M a,(eqGuard op o e g (.iface ac aa) .nilIface).events P M a=a)(d:ia op u=f q):a0 P r η k (ax (.bool q)) k:=by
 refine .aY λb t C v=>?_;have p:=v e;have m:=v g;rw[y]at p;rw[x]at m;replace p:=b8 p;replace m:=b8 m;generalize i:t e=z at p;generalize K:t g=A at m;cases p;cases m;have h:(Op.equal o (.iface ac aa) .nilIface).run P b.a=.ok u b.a:=QG;have B:∀a,(Op.equal o (.iface ac aa) .nilIface).events P b.a a=a:=λa=>by show(aO (9999+1) o _ _).events P b.a a=a;unfold aO;simp[underlying,j]
 cases op<;>simp only[ia,reduceCtorEq,e4]at d
 .exact QQ
 exact Qj
def TT(e)(B):X p 129 [ob (.iface dR (.pointer (f e))),ob (.iface gi (.pointer (f ⟨B,0,n⟩)))] [Au,.E (ec B dR (.pointer n))] (bi l) [Au,.E (ec B dR (.pointer (f e)))]:=by refine X.I Tryz.func129 rfl λj=>?_;refine aZ a v ?_;refine g.aN (Nw a Tryz.underlying166 a a bn (λ_ _=>rfl) a) a a ?_;refine a6 [-9] a E ?_;refine g.aN (Nw a Tryz.underlying20 a a bn (λ_ _=>rfl) a) a a ?_;refine a6 [-11] a E ?_;refine g.cZ a a (eF.g9 (W:=gi) (bz:=.pointer (f ⟨B,0,n⟩)) (aa:=λd=>kv gi d 150) (C:=λd=>x2 gi d 150) (h3.ed a a) NI (abd _) (TD _) λd _ _=>⟨_,a,Rd.val a,Rd.val a,Rd.val a,v⟩) λb=>?_;refine aZ a v ?_;refine g.cZ a a (eF.eh (h3.ed a a) aek (aba b) (TA b) (C:=ob (mJ gi)) λ_=>Rd.val a) λ_=>?_;refine aZ a v ?_;refine g.cZ a a (eF.eh (h3.invoke a a a (KG _)) NH aa_ Tz (C:=ax (.int .u8 22)) λ_=>Rd.int lv) λ_=>?_;refine a6 [-20] a E ?_;refine g.cZ a a (eF.g_ 2 (bz:=.pointer (f ⟨B,0,n⟩)) a (h3.ed a a) aeg (λi h=>aa8 b ⟨B,0,n⟩ i h) (C:=bi u) λ_=>Rd.bool) λ_=>?_;refine a6 [-23] a E ?_;refine g.cZ a a (eF.eh (h3.invoke a a a (ZM _)) aed aa5 Tv (C:=ob (mJ dR)) λ_=>Rd.val a) λ_=>?_;refine aZ a v ?_;refine g.cZ a a (eF.eh (h3.invoke a a a (KG _)) NH aa9 Ty (C:=ax (.int .u8 22)) λ_=>Rd.int lv) λ_=>?_;refine a6 [30] a E ?_;refine g.ar (aK.gr bb 0 a a a a a a) a ?_;refine g.cZ a a (eF.eh (h3.invoke a a a (ZN _)) aef aa7 Tx (C:=bi l) λ_=>Rd.bool) λ_=>?_;refine a6 [-35] a E ?_;refine g.aC (TU e B b) [2,1] a ?_;refine aZ a v (g.aQ [0,1] a ?_ JJ);simp
end
end R1
abbrev zB(a b:bC)(d:Bool):y:=.Q [.ar (.c (.V a)),.ar (.c (.V b)),.ar (.c (.bool d))]
namespace R1
variable {p:af V}
def Vv(b)(q)(d:0<=q/\q<=255):X p 267 [b3 b,u1 q] [] (R (Lib.indexByte b (UInt8.ofNat (Int.toNat q)))) []:=by
 have a:q=((UInt8.ofNat q.toNat).toNat:Int):=by grind[UInt8.toNat_ofNat']
 grind[Vu]
def Br:bJ:=λargs b=>match args,b with
 |[.n (.ar (.c (.V d))),.n (.ar (.c (.int .u8 a)))],[]=>f (R (Lib.indexByte d (UInt8.ofNat (Int.toNat a))),[],[0<=a/\a<=255])
 |_,_=>n
def t267:bK p 267 Br:=by
 intro args i e g d a b;unfold Br at a;split at a
 .cases a;exact(Vv _ _ (b)).args (λ_ _ h=>h)
 cases a
def Ic:m (Nat×bJ):=(267,Br)::Ip
def B4:a9 p Ic:=a9.cons t267 (S8)
def iw(a:bC):Int:=Lib.indexByte a 47
theorem Vt(b):X p 207 [b3 b,b3 [47]] [] (R (iw b)) []:=by
 refine X.I func207 rfl λe=>?_;by_cases d:b=[47]
 .subst d;refine a7 B4 [-18,22] a E (g.aw a ?_);exact cT
 refine a7 B4 [-18,-22,26] a ?_ (g.aw a ?_)
 .simp[ka,dq];grind
 exact cT
def Bq:bJ:=λargs a=>match args,a with
 |[.n (.ar (.c (.V b))),.n (.ar (.c (.V [47])))],[]=>f (R (iw b),[],[])
 |_,_=>n
def acF:bK p 207 Bq:=by intro args h b d a e g;unfold Bq at e;grind[Vt]
def Id:m (Nat×bJ):=(207,Bq)::Ic
def B5:a9 p Id:=a9.cons acF (B4)
def jL(a:bC):bC:=if 0<=iw a then a.take (iw a).toNat else a
def mq(a:bC):bC:=if 0<=iw a then a.drop ((iw a).toNat+1)else[]
def kf(a:bC):Bool:=decide (0<=iw a)
theorem Uv(b):X p 167 [b3 b,b3 [47]] [] (zB (jL b) (mq b) (kf b)) []:=by
 refine X.I func167 rfl λh=>?_;have i:=h.V 0 a;have e:=yB b 47;change iw b<c b∨iw b=-1 at e;by_cases d:0<=iw b
 .have q:(iw b+1).toNat=(iw b).toNat+1:=x;refine a7 B5 [12] a ?_ (g.aw a ?_)
  .simp[d,a8];omega
  simp[jL,mq,kf,d,mo,q]
 refine a7 B5 [-12] a bT (g.aw a ?_);simp[jL,mq,kf,d]
def Bp:bJ:=λargs b=>match args,b with
 |[.n (.ar (.c (.V a))),.n (.ar (.c (.V [47])))],[]=>f (zB (jL a) (mq a) (kf a),[],[])
 |_,_=>n
def acE:bK p 167 Bp:=by intro args h b d a e g;unfold Bp at e;grind[Uv]
def Ie:m (Nat×bJ):=(167,Bp)::Id
def H7:a9 p Ie:=a9.cons acE (B5)
theorem Uu(b):X p 123 [b3 b,b3 [47]] [] (zB (jL b) (mq b) (kf b)) []:=by refine X.I func123 rfl λd=>?_;exact b9 H7 a v (g.aw a)
def Bj:bJ:=λargs b=>match args,b with
 |[.n (.ar (.c (.V a))),.n (.ar (.c (.V [47])))],[]=>f (zB (jL a) (mq a) (kf a),[],[])
 |_,_=>n
def acz:bK p 123 Bj:=by intro args h b d a e g;unfold Bj at e;grind[Uu]
def jN(a:bC):Bool:=decide (c a=1)&&decide (97<=dq a 0)&&decide (dq a 0<=101)
theorem UU(b):X p 124 [b3 b] [] (bi (jN b)) []:=by
 refine X.I func124 rfl λe=>?_;by_cases d:c b=1
 .by_cases i:97<=dq b 0
  .refine a6 [5,9] a hy (g.aw a ?_);show decide (dq b 0<=101)=jN b;simp[jN,d,i]
  refine a6 [5,-9] a cT (g.aw a ?_);simp[jN,i]
 refine a6 [-5] a bT (g.aw a ?_);simp[jN,d]
def Bl:bJ:=λargs a=>match args,a with
 |[.n (.ar (.c (.V b)))],[]=>f (bi (jN b),[],[])
 |_,_=>n
def acA:bK p 124 Bl:=by intro args h b d a e g;unfold Bl at e;grind[UU]
def If:m (Nat×bJ):=(123,Bj)::(124,Bl)::Ie
def xM:a9 p If:=a9.cons acz (a9.cons acA (H7))
def jT(a:bC):Bool:=jN (jL a)&&(!kf a||jN (mq a))
theorem W5(b):X p 79 [b3 b] [] (bi (jT b)) []:=by
 refine X.I func79 rfl λe=>?_;cases w:jN (jL b)with
 |false=>
  refine a7 xM [-13] a oT (g.aw a ?_);simp[jT,w]
 |true=>
  cases d:kf b with
  |false=>
   refine a7 xM [13,-15] a du (g.aw a ?_);simp[jT,w,d]
  |true=>
   refine a7 xM [13,15] a du (g.aw a ?_);simp[jT,w,d]
def BA:bJ:=λargs a=>match args,a with
 |[.n (.ar (.c (.V b)))],[]=>f (bi (jT b),[],[])
 |_,_=>n
def acN:bK p 79 BA:=by intro args h b d a e g;unfold BA at e;grind[W5]
theorem V4(b):X p 125 [b3 b] [] (bi (dX b)) []:=by
 refine X.I func125 rfl λe=>?_;have m:=e.V 0 a;refine aZ a v (g.b7 (λd=>d<=c b/\∀t,t<d->jq (b.getD t 0)=l) (λd:Nat=>[(0,b3 b),(5,R (c b)),(6,R d)]) (λ_=>[]) (λd=>c b-d) 0 a E a v ⟨by omega,by omega⟩ ?_);rintro d ⟨h,q⟩;by_cases s:d<c b
 .generalize w:b.getD d 0=i;by_cases k:i.toNat<97
  .refine a6 [7,12] a ?_ (g.bP (bX.zero a ?_))
   .simp only[T,xv,bw,w];omega
   exact z6
  by_cases j:i.toNat>122
  .refine a6 [7,-12,17] a Ov (g.bP (bX.zero a ?_));exact z6
  refine a6 [7,-12,-17] a QB (g.b3 (d+1) a E a v ?_ ?_)
  .refine⟨by omega,λt K=>?_⟩;rcases wX.1 K with K|rfl
   .grind
   rw[w];simp only[jq,cl,bw];omega
  omega
 exact OO
def Bm:bJ:=λargs a=>match args,a with
 |[.n (.ar (.c (.V b)))],[]=>f (bi (dX b),[],[])
 |_,_=>n
def acB:bK p 125 Bm:=by intro args h b d a e g;unfold Bm at e;grind[V4]
def Ig:m (Nat×bJ):=(79,BA)::(125,Bm)::If
def B6:a9 p Ig:=a9.cons acN (a9.cons acB (xM))
theorem Jv(b):X p 80 [b3 b] [] (bi (fO b)) []:=by
 refine X.I func80 rfl λe=>?_;by_cases d:c b<=40
 .refine a7 B6 [5] a bT (g.aw a ?_);simp[fO,d]
 refine a7 B6 [-5] a bT (g.aw a ?_);simp[fO,d]
def BB:bJ:=λargs a=>match args,a with
 |[.n (.ar (.c (.V b)))],[]=>f (bi (fO b),[],[])
 |_,_=>n
def acO:bK p 80 BB:=by intro args h b d a e g;unfold BB at e;grind[Jv]
def ol(b a:bC):Bool:=decide (c a<=c b)&&(b.take (c a)==a)
theorem U7(b d):X p 127 [b3 b,b3 d] [] (bi (ol b d)) []:=by
 refine X.I func127 rfl λe=>?_;by_cases w:c d<=c b
 .refine a6 [9] a oT (g.aw a ?_);simp[ol,w,mo]
 refine a6 [-9] a bT (g.aw a ?_);simp[ol,w]
def Bo:bJ:=λargs a=>match args,a with
 |[.n (.ar (.c (.V b))),.n (.ar (.c (.V d)))],[]=>f (bi (ol b d),[],[])
 |_,_=>n
def acD:bK p 127 Bo:=by intro args h b d a e g;unfold Bo at e;grind[U7]
def Ih:m (Nat×bJ):=(80,BB)::(127,Bo)::Ig
def H8:a9 p Ih:=a9.cons acO (a9.cons acD (B6))
theorem U6(b d):X p 83 [b3 b,b3 d] [] (bi (ol b d)) []:=by refine X.I func83 rfl λe=>?_;exact b9 H8 a v (g.aw a)
def BE:bJ:=λargs a=>match args,a with
 |[.n (.ar (.c (.V b))),.n (.ar (.c (.V d)))],[]=>f (bi (ol b d),[],[])
 |_,_=>n
def acR:bK p 83 BE:=by intro args h b d a e g;unfold BE at e;grind[U6]
def Ii:m (Nat×bJ):=(83,BE)::Ih
def H9:a9 p Ii:=a9.cons acR (H8)
end R1
def c1.jE(a:c1 α)(d)(h j)(k:h+j<=c d):a.ad j (fF h (a.fn d))=(d.drop h).take j:=by
 apply rl
 .simp[c1.ad];omega
 intro b e g;have i:b<j:=N;simp[c1.ad,fF,c1.fn,gG,ak,bF (by omega:h+b<c d),a.inv]
def c1.jc(a:c1 α)(d){h}:a.bQ j (fF h (a.fn d)):=λb _=>by simp[fF,c1.fn,gG,a.inv]
abbrev Ti(a b:bC):y:=ax (.M [.V a,.V b])
namespace R1
variable {p:af V}
def under(a b:bC):Bool:=ol a (b++[47])
def X_(b)(d e)(i:c b.1<=4000000):X p 82 [xZ b,Ti d e] [] (bi (under d b.1)) []:=by refine X.I func82 rfl λh=>?_;refine b9 H9 a bT (g.aw a ?_);exact cT
def BD:bJ:=λargs e=>match args,e with
 |[.n (.agg [.c (.V a),.c (.V b)]),.n (.ar (.c (.M [.V g,.V d])))],[]=>f (bi (under g a),[],[c a<=4000000/\b=b/\d=d])
 |_,_=>n
def acQ:bK p 82 BD:=by
 intro args m e g d a b;unfold BD at a;split at a
 .rename_i i h j k;cases a;exact X_ (i,h) j k b.1
 grind
def Ij:m (Nat×bJ):=(82,BD)::Ii
def sL:a9 p Ij:=a9.cons acQ (H9)
abbrev Cd(a b:bC):y:=ax (.fn (.func 82) [] [.M [.V a,.V b]])
def mA(e:m cY)(d:bC):Int:=match e.findIdx? (λa=>under d a.1)with|some b=>b|none=>-1
def Zf{o}{a}(g:e<c o)(i:under a (cr o e)=l)(h:∀b,b<e->under a (cr o b)=u):mA o a=e:=by
 have:o.findIdx? (λd=>under a d.1)=f e:=by grind[List.findIdx?_eq_some_iff_getElem,pc]
 rw[mA,this]
theorem Kg{o}{a}(e:∀b,b<c o->under a (cr o b)=u):mA o a=-1:=by
 have:o.findIdx? (λd=>under a d.1)=n:=by grind[List.getElem_of_mem,pc]
 rw[mA,this]
def Vq(o)(e k)(q:∀d,d<c o->c (cr o d)<=4000000):X p 126 [bx.R o,Cd e k] [] (R (mA o e)) []:=by
 refine X.I func126 rfl λm=>?_;have s:=m.R 0 a;refine b9 sL a v (g.b7 (λb=>b<=c o/\∀d,d<b->under e (cr o d)=u) (λb:Nat=>[(0,bx.R o),(1,Cd e k),(7,R (c o)),(8,R b)]) (λ_=>[]) (λb=>c o-b) 0 a E a v ⟨by omega,by omega⟩ ?_);rintro b ⟨r,j⟩;by_cases h:b<c o
 .have t:=q b h;cases i:under e (cr o b)with
  |true=>
   refine a7 sL [9,16] a ?_ (g.bP (bX.zero a ?_))
   .simp[-ak,h,kp,i];omega
   simp[Zf h i j]
  |false=>
   refine a7 sL [9,-16] a ?_ (g.b3 (b+1) a ?_ a v ?_ ?_)
   .simp[-ak,h,kp,i,a8];omega
   .simp
   .grind
   omega
 refine a7 sL [-9] a bT (g.bs a a ?_);refine b9 sL a v (g.aw a ?_);simp[Kg (λd w=>j d x)]
def zo(b:m cY):Prop:=∀a,a<c b->c (cr b a)<=4000000
def Bn:bJ:=λargs e=>match args,e with
 |[g,.n (.ar (.c (.fn (.func 82) [] [.M [.V h,.V d]])))],[]=>match jt 2 g with
  |none=>n
  |some (b,a)=>f (R (mA (bx.ad b a) h),[],[bx.bQ b a,zo (bx.ad b a),d=d])
 |_,_=>n
def acC:bK p 126 Bn:=by
 intro args o h i g a b;unfold Bn at a;split at a
 .rename_i q k m;split at a
  .cases a
  rename_i r j d;cases a;exact(Vq _ k m b.2.1).args (λ_ A=>b4.imp (λ_=>bx.cu d b.1) (b4.imp (λ_ e=>e) (λ_ e=>e)) A)
 grind
def Ik:m (Nat×bJ):=(126,Bn)::Ij
def H_:a9 p Ik:=a9.cons acC (sL)
def TR(o)(b e)(d:zo o):X p 81 [bx.R o,Cd b e] [] (bi (decide (0<=mA o b))) []:=by
 refine X.I func81 rfl λh=>?_;refine b9 H_ a ?_ (g.aw a ?_)
 .simp[bx.T,bx.l,d]
 simp[bx.l]
def BC:bJ:=λargs e=>match args,e with
 |[g,.n (.ar (.c (.fn (.func 82) [] [.M [.V h,.V d]])))],[]=>match jt 2 g with
  |none=>n
  |some (b,a)=>f (bi (decide (0<=mA (bx.ad b a) h)),[],[bx.bQ b a,zo (bx.ad b a),d=d])
 |_,_=>n
def acP:bK p 81 BC:=by
 intro args o h i g a b;unfold BC at a;split at a
 .rename_i q k m;split at a
  .cases a
  rename_i r j d;cases a;exact(TR _ k m b.2.1).args (λ_ A=>b4.imp (λ_=>bx.cu d b.1) (b4.imp (λ_ e=>e) (λ_ e=>e)) A)
 grind
def Ta:m (Nat×bJ):=(81,BC)::Ik
def oa:a9 p Ta:=a9.cons acP (H_)
def mQ(b:m cY)(a:Nat):Bool:=
 jT (cr b a)&&fO (lr b a)&&(a==0||!(aU (cr b a) (cr b (a-1))||cr b a==cr b (a-1)))&&(aA a).all λd=>!under (cr b a) (cr b d)
def qT(a:m cY):Bool:=(aA (c a)).all (mQ a)&&decide (c a<=6)
def zG{o}(b:e<c o)(d:mQ o e=u):qT o=u:=by
 cases a:qT o with
 |false=>rfl
 |true=>
  simp[qT,cl]at a;grind
theorem Ll{b}(g:jT b=l):c b<=3:=by
 simp[jT,jN,cl,jE,bw,jc]at g;obtain⟨⟨⟨e,_⟩,_⟩,a⟩:=g;have h:=yB b 47;change iw b<c b∨iw b=-1 at h;by_cases d:0<=iw b
 .simp only[jL,d,dH,List.length_take]at e;rcases a with a|a
  .simp[kf,d]at a
  have:=a.1.1;simp[mq,d,dH,sm]at this;omega
 simp[jL,d,dm]at e;omega
def Zg{o}{S}(k:e<=c o):decide (0<=mA (o.take e) S)=!(aA e).all λa=>!under S (cr o a):=by
 have m:∀a,a<e->cr (o.take e) a=cr o a:=by intro a d;simp[cr,ak,d]
 cases q:(aA e).all λa=>!under S (cr o a)with
 |true=>
  grind[Kg]
 |false=>
  have i:∃a,a<e/\under S (cr o a)=l:=N;have:∃g:Nat,mA (o.take e) S=g:=by
   unfold mA;cases b:(o.take e).findIdx? (λj=>under S j.1)with
   |some g=>grind
   |none=>
    obtain⟨a,d,p⟩:=i;rw[AL]at b;have h:a<c (o.take e):=N;have:=b _ (w7 h);grind[pc]
  grind
def Jx(o):X p 43 [bx.R o] [] (bi (qT o)) []:=by
 refine X.I func43 rfl λB=>?_;have D:=B.R 0 a;refine b9 oa a v (g.aL 0 (λe=>e<=c o/\∀b,b<e->mQ o b=l) (λe:Nat=>[(0,bx.R o),(5,bx.R o),(6,R (c o)),(7,R e)]) (λ_=>[]) (λe=>c o-e) 0 a E a v a ⟨by omega,by omega⟩ ?_);rintro e ⟨k,w⟩;by_cases h:e<c o
 .cases K:jT (cr o e)with
  |false=>
   refine bf oa [8,-14] a ?_ (g.aW (bX.zero a ?_))
   .simp[-ak,h,kp,K]
   simp[T,zG h (by simp[mQ,K])]
  |true=>
   cases al:fO (lr o e)with
   |false=>
    refine bf oa [8,14,-19] a ?_ (g.aW (bX.zero a ?_))
    .simp[-ak,h,kp,tN,K,al]
    simp[T,zG h (by simp[mQ,al])]
   |true=>
    have I:zo (o.take e):=by
     intro b C;simp[List.length_take]at C;have t:cr (o.take e) b=cr o b:=by simp[cr,ak,(by omega:b<e)]
     rw[t];have:=w b x;simp[mQ,cl]at this;grind[Ll]
    have F:bx.ad ((e:Int).toNat-0) (fF 0 (bx.fn o))=o.take e:=by rw[bx.jE o 0 _ N];simp
    cases q:(e==0||!(aU (cr o e) (cr o (e-1))||cr o e==cr o (e-1)))with
    |false=>
     have j:mQ o e=u:=by simp only[mQ,q];simp
     have A:e≠0:=N;have r:(aU (cr o e) (cr o (e-1))||cr o e==cr o (e-1))=l:=N;have i:a8 .i64 ((e:Int)-1):=cT;have d:((e:Int)-1).toNat=e-1:=x;refine bf oa [8,14,19,24,34] a O7 (g.aW (bX.zero a ?_));simp[zG h j]
    |true=>
     have j:mQ o e=(aA e).all λb=>!under (cr o e) (cr o b):=by simp only[mQ,q,K,al];simp
     apply g.cd [(0,bx.R o),(3,R e),(5,bx.R o),(6,R (c o)),(7,R e),(4,aH 0 0)] [.cells 73 [.c (.V (cr o e)),.c (.V (lr o e))]]
     .intro bW;by_cases A:e=0
      .refine bf oa [8,14,19,-24,906] a ?_ (bW _ _ a ?_)
       .simp only[T,kp,tN,c5,K,al,bw,dp];grind
       simp
      have r:(aU (cr o e) (cr o (e-1))||cr o e==cr o (e-1))=u:=N;have i:a8 .i64 ((e:Int)-1):=cT;have d:((e:Int)-1).toNat=e-1:=x;refine bf oa [8,14,19,24,-34,906] a O7 (bW _ _ a ?_);simp
     refine g.freeze 4 0 a a a ?_;have m:=Zg (o:=o) (S:=cr o e) (e:=e) k;have y:bx.bQ ((e:Int).toNat-0) (fF 0 (bx.fn o)):=bx.jc o;cases s:(aA e).all λb=>!under (cr o e) (cr o b)with
     |false=>
      rw[s]at m j;refine bf oa [41] a ?_ (g.aW (bX.zero a ?_))
      .simp only[T,bV];grind
      simp[zG h j]
     |true=>
      rw[s]at m j;refine bf oa [-41] a ?_ (g.aA (e+1) a ?_ ?_ ?_ ?_)
      .simp only[T,bV];have z:decide (0<=mA (bx.ad ((e:Int).toNat-0) (fF 0 (bx.fn o))) (cr o e))=u:=N;exact⟨by exact cT,y,by grind,v,z,by omega,by omega⟩
      .simp
      .trivial
      .grind
      omega
 have:e=c o:=x;subst this;refine a7 oa [-8] a E (g.aB ?_);refine b9 oa a v (g.aw a ?_);simp only[T,qT];grind
def rq:bJ:=λargs d=>match args,d with
 |[e],[]=>match jt 2 e with
  |none=>n
  |some (a,b)=>f (bi (qT (bx.ad a b)),[],[bx.bQ a b])
 |_,_=>n
def wa:bK p 43 rq:=by
 intro args j e g d a b;unfold rq at a;split at a
 .split at a
  .cases a
  rename_i k m h;cases a;exact(Jx _ ).args (λ_ A=>b4.imp (λ_=>bx.cu h b) (λ_ i=>i) A)
 grind
end R1
def b4.ab{k aq}{b}(g:∀h(e:y),bv k b h e->bv aq b h e):∀{A:m Y}{d:m y},b4 k b A d->b4 aq b A d
 |[],[],_=>trivial
 |[],_::_,a=>a.elim
 |_::_,[],a=>a.elim
 |_::_,_::_,a=>⟨g _ _ a.1,b4.ab g a.2⟩
def X.eG{q:af P}{r}{args a}{d}{res}(s:X q r args k res aq)(C:∀b A,b4 k b A a->b4 k b A args)(z:jp d k=f Z)(B:T Z):X q r a d res aq:=
 ⟨s.1,λb A o e t g m=>by obtain⟨i,j,D⟩:=jP z B b e;exact s.2 b A (C b A (o.ab D)) i t g λh E p v w x y=>m h E p v w x ((j.too1 e).trans y)⟩
def aK.dV{i:af P}{j}(s:dA (ι:=Unit) i D all r F k (λ_=>j) (λ_=>aq)):aK i D all r F k j aq:=
 λw o q g p v b m t a e h d=>s w o q g p v b m t a e h λ_=>d
namespace R1
variable {p:af V}
abbrev ju(a:m (Int×Int)):an:=.w 253 2 (c a) (a1.fn a)
abbrev mP(a:m (Int×Int)):y:=.n (.ar (.w 0 2 (c a) (a1.fn a)))
def KF(L:m (Int×Int))(a b d:an)(e g h _:Bool):m an:=match h with
 |true=>[d]
 |false=>match g with
  |true=>[b]
  |false=>match e with
   |true=>[a]
   |false=>[ju L]
def Cx:∀r(d:m (Int×Int)),c d+c r.ad<=4000000->X p 216 [ax (eN r),mP d] [ju d] (mP (d++r.ad)) [ju (d++r.ad)]
 |.nil,d,_=>by refine X.I func216 rfl λD=>?_;refine aZ a v (g.aN (rS a underlying267 a a a) a a ?_);refine aZ a v ?_;rw[show d++dI.nil.ad=d from hL d];exact g.aQ [0] a ⟨a,bs.same⟩ sW
 |.ak lt e h b,d,B=>by
  have I:(dI.ak lt e h b).ad=lt.ad++(e,h)::b.ad:=rfl;have M:c d+c lt.ad+(c b.ad+1)<=4000000:=N;have z:=Cx lt d x;have t:=Cx b (d++lt.ad++[(e,h)]) N;have K:=a1.aX (d++lt.ad) (e,h);have ee:X p 216 [ax (eN b),.n (.ar (.w 0 2 (c (d++lt.ad)+1) (cg (c (d++lt.ad)) (a1.fn (d++lt.ad)) λj=>([[.int .i64 e,.int .i64 h]]:m (m O)).getD j [])))] [.w 253 2 (c (d++lt.ad)+1) (cg (c (d++lt.ad)) (a1.fn (d++lt.ad)) λj=>([[.int .i64 e,.int .i64 h]]:m (m O)).getD j [])] (mP (d++(dI.ak lt e h b).ad)) [ju (d++(dI.ak lt e h b).ad)]:=by
   rw[I,show d++(lt.ad++(e,h)::b.ad)=d++lt.ad++[(e,h)]++b.ad by simp];refine t.eG (λR A Q=>?_) a (T.X.2 ⟨⟨by grind,K⟩,v⟩)
   match A,Q with
   |[_,_],⟨J,C,F⟩=>exact⟨J,pq rfl (show T [_,_]from⟨by grind,K⟩) C,F⟩
  have ns:(c (d++lt.ad)+1)*pm.bytes<=140737488355328:=by rw[show pm.bytes=16 from a,dk];omega
  clear t K M B;generalize d++(dI.ak lt e h b).ad=o at *;generalize d++lt.ad=k at *;have w:a9 p []:=a9.nil;refine X.I func216 rfl λD=>?_;refine aZ a v (g.aN (tv a underlying267 a a a) a a ?_);refine a6 [903] a v ?_;let s:Nat->y:=λj=>([ax (eN (.ak lt e h b)),ax (eN (.ak lt e h b)),ax (.M [eN b]),ax (eN b),ax (eN (.ak lt e h b)),ax (eN (.ak lt e h b)),ax (.M [eN lt,eN b]),ax (eN lt),mP d,mP k,ax (eN (.ak lt e h b)),ax (eN (.ak lt e h b)),ax (eN (.ak lt e h b)),o' e h,ax (.R l 2 1 λj=>([[.int .i64 e,.int .i64 h]]:m (m O)).getD j []),.n (.ar (.w 0 2 (c k+1) (cg (c k) (a1.fn k) λj=>([[.int .i64 e,.int .i64 h]]:m (m O)).getD j []))),mP o,mP o]:m y).getD j .any
  cases lt<;>cases b<;>(
   refine g.cm b6 s (mv (KF d (ju k) (.w 253 2 (c k+1) (cg (c k) (a1.fn k) λj=>([[.int .i64 e,.int .i64 h]]:m (m O)).getD j [])) (ju o)) 9 15 16 17) a a a a ⟨
   .aO,
   .aO,
   .aO,
   .aO,
   .aO,
   .aO,
   .aO,
   .aO,
   .aO,
   b7.ec a a a a a a (aK.dV (dA.b6 z.tocH [0] a a a a E a a a bn a bn)),
   .aO,
   .aO,
   .aO,
   .aO,
   .aO,
   b7.eS a a a a a a (d_ (bg:=[]) bb w (aq:=f _) a ⟨rfl,rfl,ns⟩),
   b7.eT a a a a a a (aK.dV (dA.b6 ee.tocH [0] a a a a E a a a bn a bn)),
   b7.eW a a a a a a (aK.x),v⟩ ?_
   intro y i;show g p _ _ _ _ _ (KF d (ju k) _ (ju o) (y 9) (y 15) (y 16) (y 17));rw[i 9 ca,i 15 ca,i 16 ca,i 17 ca]
   exact g.aQ [0] a ⟨a,bs.same⟩ sW)
abbrev K1:y:=ax (.R l 2 0 λ_=>[])
def KE(a b d:an)(e g h _:Bool):m an:=match h with
 |true=>[d]
 |false=>match g with
  |true=>[b]
  |false=>match e with
   |true=>[a]
   |false=>[]
def I':∀(o:dI),c o.ad<=4000000->X p 216 [ax (eN o),K1] [] (mP o.ad) [ju o.ad]
 |.nil,_=>by refine X.I func216 rfl λD=>?_;refine aZ a v (g.aN (rS a underlying267 a a a) a a ?_);refine aZ a v (g.bK 4 253 2 a a ?_);refine g.bf [ju []] a E ?_;exact g.aQ [0] a nO (C0 _)
 |.ak lt d e b,z=>by
  have s:(dI.ak lt d e b).ad=lt.ad++(d,e)::b.ad:=rfl;have J:c lt.ad+(c b.ad+1)<=4000000:=N;have B:=I' lt x;have t:=Cx (p:=p) b (lt.ad++[(d,e)]) N;have K:=a1.aX lt.ad (d,e);have ee:X p 216 [ax (eN b),.n (.ar (.w 0 2 (c lt.ad+1) (cg (c lt.ad) (a1.fn lt.ad) λh=>([[.int .i64 d,.int .i64 e]]:m (m O)).getD h [])))] [.w 253 2 (c lt.ad+1) (cg (c lt.ad) (a1.fn lt.ad) λh=>([[.int .i64 d,.int .i64 e]]:m (m O)).getD h [])] (mP (dI.ak lt d e b).ad) [ju (dI.ak lt d e b).ad]:=by
   rw[s,show lt.ad++(d,e)::b.ad=lt.ad++[(d,e)]++b.ad by simp];refine t.eG (λQ A M=>?_) a (T.X.2 ⟨⟨by simp,K⟩,v⟩)
   match A,M with
   |[_,_],⟨I,C,F⟩=>exact⟨I,pq rfl (show T [_,_]from⟨by simp,K⟩) C,F⟩
  have ns:(c lt.ad+1)*pm.bytes<=140737488355328:=by rw[show pm.bytes=16 from a];omega
  clear t K J z;clear s;generalize(dI.ak lt d e b).ad=k at *;generalize lt.ad=j at *;have w:a9 p []:=a9.nil;refine X.I func216 rfl λD=>?_;refine aZ a v (g.aN (tv a underlying267 a a a) a a ?_);refine a6 [903] a v ?_;let r:Nat->y:=λh=>([ax (eN (.ak lt d e b)),ax (eN (.ak lt d e b)),ax (.M [eN b]),ax (eN b),ax (eN (.ak lt d e b)),ax (eN (.ak lt d e b)),ax (.M [eN lt,eN b]),ax (eN lt),K1,mP j,ax (eN (.ak lt d e b)),ax (eN (.ak lt d e b)),ax (eN (.ak lt d e b)),o' d e,ax (.R l 2 1 λh=>([[.int .i64 d,.int .i64 e]]:m (m O)).getD h []),.n (.ar (.w 0 2 (c j+1) (cg (c j) (a1.fn j) λh=>([[.int .i64 d,.int .i64 e]]:m (m O)).getD h []))),mP k,mP k]:m y).getD h .any
  cases lt<;>cases b<;>(
   refine g.cm b6 r (mv (KE (ju j) (.w 253 2 (c j+1) (cg (c j) (a1.fn j) λh=>([[.int .i64 d,.int .i64 e]]:m (m O)).getD h [])) (ju k)) 9 15 16 17) a a a a ⟨
   .aO,
   .aO,
   .aO,
   .aO,
   .aO,
   .aO,
   .aO,
   .aO,
   .aO,
   b7.ec a a a a a a (aK.dV (dA.b6 B.tocH [] a a a a E a a a bn a bn)),
   .aO,
   .aO,
   .aO,
   .aO,
   .aO,
   b7.eS a a a a a a (d_ (bg:=[]) bb w (aq:=f _) a ⟨rfl,rfl,ns⟩),
   b7.eT a a a a a a (aK.dV (dA.b6 ee.tocH [0] a a a a E a a a bn a bn)),
   b7.eW a a a a a a (aK.x),v⟩ ?_
   intro y i;show g p _ _ _ _ _ (KE (ju j) _ (ju k) (y 9) (y 15) (y 16) (y 17));rw[i 9 ca,i 15 ca,i 16 ca,i 17 ca]
   exact g.aQ [0] a ⟨a,bs.same⟩ (C0 _))
end R1
section
open Go.Conc
def bc.gR(j:bc k b){bS}{L}(aI:k[d]?=f bS)(B:b.s[d]?=f L)(z:(∃W ah,bS=.cells W ah)∨∃H,bS=.E H):
  bc (k.set d .J) {b with s:=b.s.set d ⟨L.v,[]⟩}/\cN k b (k.set d .J) {b with s:=b.s.set d ⟨L.v,[]⟩}:=by
 have C:d<c k:=(cO.1 aI).1;have K:d<c b.s:=(cO.1 B).1;have A:∀m,(b.s.set d ⟨L.v,[]⟩)[m]?=if d=m then f ⟨L.v,[]⟩else b.s[m]?:=N;have y:∀g∈b.s.set d ⟨L.v,[]⟩,∀o∈g.ab,g∈b.s:=N;have v:cN k b (k.set d .J) {b with s:=b.s.set d ⟨L.v,[]⟩}:=by
  refine⟨bB _,λ_ _ _=>rfl,λ_ _ _ E=>E,λ_ _ _ _=>rfl,λg e o i=>.inr ⟨g,y g e o i,i⟩,?_,a,a,a,a⟩;intro m q g h e;by_cases t:d=m
  .subst t;rw[aI]at h;cases h;rw[B]at e;cases e;refine⟨.J,⟨L.v,[]⟩,by grind,by grind,?_⟩;rcases z with⟨W,ah,rfl⟩|⟨H,rfl⟩<;>rfl
  exact⟨q,g,by grind,by grind,.refl _ _⟩
 refine⟨⟨j.mem,by simp[j.len],?_,?_,λg e o i=>j.lt g (y g e o i) o i,λo i=>⟨(j.own o i).1,λg e p=>(j.own o i).2 g (y g e o p) p⟩⟩,v⟩
 .intro m q g h e;by_cases t:d=m
  .subst t;rw[ip C]at h;cases h;trivial
  rw[kB t]at h;rw[A,bl t]at e;exact(j.box m q g h e).cb v.ext j.len λo i=>⟨a,λM=>rfl⟩
 intro I J w x r s o D F;rw[A]at r s;split at r
 .grind
 split at s
 .grind
 exact j.a1 I J w x r s o D F
def bv.eY(g:az.u=b.u){a}(i:bv k b aa a)(h:hR 0 a=l):bv aq az aa a:=by have d:=bv.drop (aP:=[]) (br:=k) i h;refine bv.mono (k:=[]) (b:=b.cut 0) ⟨λm p aa e=>by rw[g];exact e,λo j L aI _=>by grind⟩ (by simp[a5.cut]) d
end
section
open Go.ChangeShapes Go.WideShapes Go.ChangeAt Go.RowKit
def HW{b:au}{a:Addr}(g:b.cell? (a.add j)=f aa):b.cell? ⟨a.block,a.off+j,n⟩=f aa/\(j=0->a=⟨a.block,a.off,n⟩):=by obtain⟨e,h,d⟩:=a;cases d<;>simp only[Addr.add,aL]at*<;>grind
section
variable {H:Type}{jl:ao×Y->H}{o bz:Nat}{o1:au}
def abf(E:P.underlying o=f (.slice bz))(D:P.underlying bz=f (.int .u8))(F:P.cellsOf bz=1){i:Option Addr}{d:Nat}{s:DataW H}{w:m MemPlace}(t:DataW.Trod jl P o1 0 (λ_=>l) l o (.slice i z d) s w):
  ∃k:Nat->Int,R1.Bytes k/\z<=9223372036854775807/\bv [] (a5.bw o1) (.slice i z d) (ax (.R u 1 z (R1.sG k))):=by
 obtain⟨J,C⟩:=t;rcases open_ints E D F C with⟨g,_⟩|⟨K,j,q,B,g,_,aa,A,Q,_,r,y⟩<;>simp[Value.cells]at g<;>obtain⟨rfl,rfl,rfl⟩:=g
 .exact⟨λ_=>0,λ_=>by simp,by omega,Rd.dK⟩
 simp only[dH,maxLen]at Q A;have p:∀b,0<=B.getD b 0/\B.getD b 0<=255:=λb=>by
  by_cases e:b<c B
  .have:=y _ (w7 e);simp[Lit.wf,IntKind.min,IntKind.max,IntKind.signed,IntKind.bits]at this;grind
  grind
 refine⟨λb=>B.getD b 0,p,by omega,Rd.h1 aa x (λI=>eC f ((HW (r 0 x)).2 a)) (λ_ _=>rfl) λb e v q h=>?_⟩
 match v,h with
 |0,h=>
  cases h;exact⟨_,by simpa[a5.bw]using(HW (r b x)).1,Rd.int (p b)⟩
abbrev Ha(a:Nat×(Nat->Int)):y:=ax (.R u 1 a.1 (R1.sG a.2))
def Ga(a:Nat×(Nat->Int)):Prop:=R1.Bytes a.2/\a.1<=9223372036854775807
def L2{d:m ug}(C:∀g∈d,o1.heap[g.1]?=f (.cells #[g.2.2] g.2.1 (0,0)))(k:∀g∈d,∃T bz,g.2.2=.iface T bz)(q:laidOutB P=l)(I:P.readableRec o=l)(J:o<P.types.size)(B:P.underlying o=f (.slice bz))(F:P.underlying bz=f (.int .u8))(K:P.cellsOf bz=1){V:Reach}{base:Nat}:∀{i:Nat}{A:m Y}{b:m (DataW H)}{r:m MemPlace},
  DataW.TrodAll jl P o1 0 (λ_=>l) l (aX i o) A b r->(∀h j,h<i->A[h]?=f j->Value.okWide P o1 V base o j) ->
  ∃p:m (Nat×(Nat->Int)),(c p=i/\c b=i)/\(∀g∈p,Ga g)/\b4 (my d) (a5.cS d o1) A (p.map Ha)/\∀s,Below o1.heap.size o1 s->DataW.TrodAll jl P s 0 (λt=>decide (t<o1.heap.size)) l (aX i o) A b r
 |0,A,b,r,e,_=>by obtain⟨rfl,rfl,rfl⟩:=trodAll_nil e;exact⟨[],⟨a,a⟩,by simp,v,λ_ _=>rfl⟩
 |i+1,A,b,r,e,E=>by
  obtain⟨j,A,aa,b,r,ae,rfl,rfl,rfl,⟨w,z⟩,R⟩:=trodAll_cons e;obtain⟨X,U,D,rfl⟩:=okWide_slice B (E 0 j x rfl);obtain⟨t,M,O,S⟩:=abf B F K ⟨w,z⟩;obtain⟨p,k1,y,N,G⟩:=L2 C k q I J B F K R λh j W e=>E (h+1) j x e;refine⟨(U,t)::p,by simp[k1],by simp only[List.forall_mem_cons];exact⟨⟨M,O⟩,y⟩,⟨Rd.cS C k (λab h Z e=>?_) S,N⟩,λs Q=>trodAll_cons_mk (Below.trod q I J ⟨w,z⟩ Q (DataW.trod_lt w _ _ _ z)) (G s Q)⟩
  match h,e with
  |0,e=>cases e;exact⟨_,_,a⟩
end
noncomputable def Zt(P:aE)(e:m (String×DataW Unit))(d i h:Nat)(os:Os):au:=
 let a:=World.laidAll P os (e.filter λj=>j.2.handleName?.isNone)
 {a with heap:=a.heap.modify d λ
   |.cells _ b k=>.cells #[.iface i (.agg #[typeHandle P h])] b k
   |g=>g}
def Zv{O:Checked}{I pj gP hB i1 tL tK:Nat}(aj:∀(x w:ao×Y) (N:m (Nat×(Nat->Int))),c N=j->(∀g∈N,Ga g)->X (af.aD O.prog) I (N.map Ha) (my [(pj,i1,.iface x.1 x.2),(gP,i1,.iface w.1 w.2),(hB,tL,.iface tK (.agg #[typeHandle O.prog i1]))]) (bi l) (my [(pj,i1,.iface x.1 x.2),(gP,i1,.iface w.1 w.2),(hB,tL,.iface tK (.agg #[typeHandle O.prog i1]))])){fn:Func}{C T Z:Nat}{b:ChangeSpec}{q:OpenClaim}{os:Os}(ba:os.Started){H:Type}{jl:ao×Y->H}(L:O.prog.funcs[I]?=f fn)(aV:fn.params=(aX j C).toArray)(aG:fn.resultTypes=#[Z])(al:ownKnob O.prog.godebug=n)(R:laidOutB O.prog=l)(aH:O.prog.readableRec C=l)(aJ:C<O.prog.types.size)(an:O.prog.underlying C=f (.slice T))(aq:O.prog.underlying T=f (.int .u8))(ar:O.prog.cellsOf T=1)(aC:O.prog.underlying Z=f .bool)(aE:O.prog.inits.idxOf? I=n)(aK:varsRowed O.prog b.vars=l)(aI:∃aZ a0,b.vars=[aZ,a0])(a6:∀(F:m (DataW H)) (i h:DataW H),c F=j->b.fn H (F++[i,h])={results:=[.lit (.bool l)],args:=F,vars:=[i,h]})(E4:∃(e:au) (tape:Tape) (v:Input),e.os=os/\(e.forCall tape v).Shaped O.prog/\v.vars=[]/\Input.okWide O.prog (e.forCall tape v) .any e.heap.size I v /\
   ((b.pre jl O.prog fn q.domain u (e.forCall tape v).memory v.args/\laidMetH O.prog q.laid (e.forCall tape v).memory)/\sizedMet jl O.prog fn (OpenSpec.ofChange b) u (e.forCall tape v).memory v.args)/\({}:Assume).holds O.prog (lone (Frame.enter O.prog I v.args .normal) [] (e.forCall tape v))){Kd Ke Kc:Nat}{aM lm S aP aQ:String}{ai xZ z:DataW Unit}{aR:Array (String×ao)}{aW:m UInt8}(az:(q.laid.filter λg=>g.2.handleName?.isNone)[Kd]?=f (aM,.iface aP ai))(aB:(q.laid.filter λg=>g.2.handleName?.isNone)[Ke]?=f (lm,.iface aQ xZ))(ax:(q.laid.filter λg=>g.2.handleName?.isSome)[Kc]?=f (S,z))(U:[aM,lm,S].map O.prog.globalNamed=[f pj,f gP,f hB])(aa:[pj,gP].map (λW=>(O.prog.globals[W]?).map (·.type))=[f i1,f i1])(aT:O.prog.underlying i1=f (.interface aR))(D:[pj,gP,hB].map (λW=>(decide (W<O.prog.globals.size),((begin O.prog (λ_ _=>0) default).world.heap[W]?).bind Obj.row?))=[(l,f (#[.nilIface],i1)),(l,f (#[.nilIface],i1)),(l,f (#[.nilIface],tL))])(ae:z.funcsIn?=n)(ag:z.handleName?=f aW)(ah:(O.prog.cutTypes.find? (·.1== "internal/reflectlite.rtype")).map (·.2)=f tK)(a:((aA O.prog.types.size).filter λC=>O.prog.rowNamed C aW)=[i1])(a8:[pj,gP,hB].Nodup):
  ReturnsInLeavingWide {} O os I .any (λe args=>(b.pre jl O.prog fn q.domain u e args/\laidMetH O.prog q.laid e)/\sizedMet jl O.prog fn (OpenSpec.ofChange b) u e args) (b.post jl O.prog fn u l u u):=by
 refine abh (p:=λe _=>laidMetH O.prog q.laid e) (λ_ _ _ aD s=>s.of_heap aD) al ba L E4 λV base args k K J t M o A=>?_;have a5:=M;obtain⟨a1,a2,aU,ab,rfl,_,_⟩:=M;simp only[me,List.map_nil,List.cons.injEq,a_,lD,bw]at U aa D;obtain⟨x,a3⟩:=Kr A o (b' az) U.1 aa.1 aT D.1.1 D.1.2;obtain⟨w,y⟩:=Kr A o (b' aB) U.2.1 aa.2 aT D.2.1.1 D.2.1.2;have P:∀g∈([(pj,i1,.iface x.1 x.2),(gP,i1,.iface w.1 w.2),(hB,tL,.iface tK (.agg #[typeHandle O.prog i1]))]:m ug),V.heap[g.1]?=f (.cells #[g.2.2] g.2.1 (0,0)):=by simp only[List.forall_mem_cons];exact⟨a3,y,Zu A o (b' ax) ae ag U.2.2 ah a D.2.2.1 D.2.2.2,by simp⟩
 have a4:∀g∈([(pj,i1,.iface x.1 x.2),(gP,i1,.iface w.1 w.2),(hB,tL,.iface tK (.agg #[typeHandle O.prog i1]))]:m ug),∃a7 T,g.2.2=.iface a7 T:=E;simp only[aV]at aU t;obtain⟨N,k1,aL,aN,aO⟩:=L2 P a4 R aH aJ an aq ar aU λa' aS aF s=>t a' C aS (by simp[aF]) wI;refine bk.jk (aj x w N k1.1 aL).tocH aE a8 P aN λ_ aS B r d F=>?_;have r:Rd B.u aS (.bool l):=r;cases r;have Q:Below V.heap.size V (B.a.at F):=⟨d.os,d.tape,d.output,d.size,d.block⟩;obtain⟨aZ,a0,a9⟩:=aI;obtain⟨i,h,rfl⟩:∃i h,K=[i,h]:=by
  rw[a9]at ab
  match K,ab with
  |[i,h],_=>exact⟨i,h,rfl⟩
 have G:=a6 k i h k1.2;have av:=aO _ Q;have aw:DataW.TrodAll jl O.prog (B.a.at F) V.heap.size (λ_=>u) u [Z] [.bool l] [.lit (.bool l)] []:=trodAll_mk1 (shut_bool aC _);refine⟨k,[i,h],a1++a2,[],a1,a2,a5,?_,?_,?_,Q.frame _,λs=>by cases s⟩
 .rw[show(b.fn H (k++[i,h])).results=_ from eC _ G,aG];exact aw
 .rw[show(b.fn H (k++[i,h])).args=_ from eC _ G,aV];exact av
 rw[show(b.fn H (k++[i,h])).vars=_ from eC _ G];exact Below.trodVars R Q aK ab
end
namespace R1
section
variable {p:af V}
def k9(a:bC):m bC:=if fO a then cm a else[]
def Nr(b:bC)(d:Nat)(a:m bC):Prop:=∃e,iy b (c b) 0=a++iy b e d/\c b<=d+e/\c a<=d
def M9:bK p 80 (df eI (λa=>bi (fO a)) λ_=>[]):=.a9 λa _=>Jv a
def Hk:bJ:=λargs a=>match args,a with
 |[.n (.ar (.c (.V b)))],[]=>f (ax (Hj b),[],[])
 |_,_=>n
def ac0:bK p 251 Hk:=by intro args h b d a e g;unfold Hk at e;grind[Uz]
def Uw(o):X p 195 [b3 o] [] (bQ.R (k9 o)) []:=by
 refine(bk.e5 (ι:=Unit) (aq:=λ_=>[]) (res:=λ_=>bQ.R (k9 o)) func195 rfl rfl rfl λN=>?_).toX;have q:a9 p [(80,df eI (λJ=>bi (fO J)) λ_=>[])]:=.cons M9 .nil;refine dd.seq (b2.bw (g.aU ?_));refine b9 q a v (dd.seq (b2.bw (g.aU ?_)));cases K:fO o with
 |false=>
  refine a7 q [8] a sc (g.ret ⟨(),bX.zero a ?_⟩);simp[k9,K]
 |true=>
  have z:=K;simp[fO,cl,bw]at z;refine a7 q [-8] a sc (dd.seq (b2.bw (g.aU ?_)));refine b9 q a v (dd.seq (dd.seq (b2.bw (g.aU (g.ck 1 0 9 1 (bQ.fn []) a a ?_)))));refine b9 (.cons ac0 .nil) a v (dd.block ?_);refine dd.rangeFunc (o8:=fc [.M [.V o]]) (bZ.callee a) (UA (ac:=m bC) o z.2 x (λ_=>.cells 9 [.c (.V o)]) (λb=>.cells 108 [.w 2 1 (c b) (bQ.fn b)]) (λb=>.w 9 1 (c b) (bQ.fn b)) (Nr o) [] ?_ (λo=>⟨by simp,by simp,by simp⟩) ?_) (λj=>⟨a,by simp⟩) λj=>⟨.normal,a,?_⟩
  .exact⟨c o,by simp,by omega,by simp⟩
  .rintro d b s i;have A:=rA o d s;refine iD.intro (t:=n) a a a a (g.aU ?_);refine aZ a v ⟨a,a,g.aU ?_⟩;refine aZ a ?_ ?_
   .obtain⟨h,_,_,C⟩:=i;have M:=A.1;have w:=A.2.1;refine⟨a,a,?_,Int.natCast_nonneg _,Int.ofNat_le.2 (Nat.le_of_lt M),Int.ofNat_le.2 w⟩;show(c b+1)*16<=_;omega
   have F:Nr o (eo o d) (b++[(o.drop d).take (eo o d-d)]):=by
    obtain⟨h,k,I,C⟩:=i;obtain⟨e,rfl⟩:∃e,h=e+1:=⟨h-1,by omega⟩
    refine⟨e,?_,by omega,by grind⟩;rw[k];simp[iy];grind
   refine⟨a,a,⟨_,F⟩,jP a ?_⟩;have r:mo o (f (d:Int)) (f (eo o d:Int))=(o.drop d).take (eo o d-d):=Oe;have B:bs (c b+1) (cg (c b) (bQ.fn b) λj=>[[O.V (mo o (f (d:Int)) (f (eo o d:Int)))]].getD j []) (bQ.fn (b++[(o.drop d).take (eo o d-d)])):=by rw[r];exact c1.aX bQ b _
   have y:c b+1=c (b++[(o.drop d).take (eo o d-d)]):=E;refine T.X.2 ⟨by simp,T.X.2 ⟨T.X.2 ⟨⟨y,B⟩,v⟩,T.X.2 ⟨⟨y,B⟩,T.X.2 ⟨a,v⟩⟩⟩⟩
  obtain⟨b,h,k,I,C⟩:=j;have D:iy o h (c o)=[]:=by cases h<;>simp[iy]
  rw[D,hL]at k;have r:k9 o=b:=by simp[k9,K,dH,cm,k]
  rw[r];show dd p _ _ _ _ _;refine b2.bw (g.aU ?_);refine aZ a v (g.ret ⟨(),bX.zero a ?_⟩);simp
def EM:bK p 195 (df eI (λa=>bQ.R (k9 a)) λ_=>[]):=.a9 λa _=>Uw a
def ada:bK p 193 (ev (e' bQ) eI (λa _=>b3 a.flatten) λa d=>[d=[],c a.flatten<=140737488355328]):=.bk λa d b=>by obtain⟨rfl,b⟩:=b;exact VJ a b
def xB:bJ:=ev (e' bQ) (e' bQ) (λa b=>bi (a==b)) λ_ _=>[]
def ac2:bK p 194 xB:=.bk λa b _=>UN a b
def Uy(d)(s:c d.flatten<=140737488355328):X p 148 [bQ.R d] [] (iP (iM d)) []:=by
 refine X.I func148 rfl λh=>?_;have e:a9 p [(193,ev (e' bQ) eI (λd _=>b3 d.flatten) λd b=>[b=[],c d.flatten<=140737488355328]),(80,df eI (λb=>bi (fO b)) λ_=>[]),(194,xB),(195,df eI (λb=>bQ.R (k9 b)) λ_=>[])]:=.cons ada (.cons M9 (.cons ac2 (.cons EM .nil)));have Cm:bQ.ad (c d) (bQ.fn d)=d:=bQ.l d;cases w:fO d.flatten with
 |false=>
  refine a7 e [-8,9,16] a ?_ (g.aw a ?_)
  .simp only[T,Cm,w,bQ.T,eq_self,a',a_];grind
  simp[iM,w]
 |true=>
  cases i:(cm d.flatten==d)with
  |false=>
   refine a7 e [8,-9,-14,16] a OK (g.aw a ?_);simp[iM,i]
  |true=>
   refine a7 e [8,-9,14,-16] a OK (g.aw a ?_);simp[iM,w,i,Cm]
def JV{a:m (Int×Int)}(b:e<c a):a.getD e (0,0)∈a:=N
def i2(b:m (Int×Int)):dI:=b.foldl (λd a=>d.put a.1 a.2) .nil
theorem adS(b:m (Int×Int))(a:Int×Int):i2 (b++[a])=(i2 b).put a.1 a.2:=by unfold i2;grind
def zF{d:m (Int×Int)}(a:t<c d):i2 (d.take (t+1))=(i2 (d.take t)).put (d.getD t (0,0)).1 (d.getD t (0,0)).2:=by grind[List.take_add_one,adS]
abbrev qD(a:m (Int×Int)):y:=ax (.R u 1 1 λb=>([[.R u 2 (c a) (a1.fn a)]]:m (m O)).getD b [])
abbrev Ex(a:Int×Int):an:=.cells 253 [.c (.int .i64 a.1),.c (.int .i64 a.2)]
def JS(a:m (Int×Int)):Nat->bH
 |0=>[(3,ax .bo),(8,qD a),(9,R 1),(10,R 0),(14,a1.R a),(15,R (c a)),(16,R 0)]
 |b+1=>[(3,.n (.ar (.aK 1))),(8,qD a),(9,R 1),(10,R 0),(14,a1.R a),(15,R (c a)),(16,R (b+1:Nat))]
def aca(a:m (Int×Int)):Nat->m an
 |0=>[]
 |b+1=>[Ex (a.getD 0 (0,0)),.E (eB mE (i2 (a.take (b+1))))]
def YO(a:m (Int×Int)):Nat->bH
 |0=>[(3,ax .bo),(8,qD a),(9,R 1),(10,R 0)]
 |b+1=>match a with
  |[]=>[(3,ax .bo),(8,qD a),(9,R 1),(10,R (b+1:Nat))]
  |_::_=>[(3,.n (.ar (.aK 1))),(8,qD a),(9,R 1),(10,R (b+1:Nat))]
def acb(b:m (Int×Int)):Nat->m an
 |0=>[]
 |_+1=>match b with
  |[]=>[]
  |a::d=>[Ex a,.E (eB mE (i2 (a::d)))]
def Jw(d:m (Int×Int))(K:c d<=4000000)(C:∀b∈d,a8 .i64 b.1/\a8 .i64 b.2):X p 211 [qD d] [] (ax (eN (i2 d))) []:=by
 refine X.I func211 rfl λI=>?_;refine aZ a v (g.hD 0 (λb=>b<=1) (YO d) (acb d) (λb=>1-b) 0 a E a v a x ?_);intro b k;rcases b with _|b
 .refine a6 [11] a E (g.hD 0 (λt=>t<=c d) (JS d) (aca d) (λt=>c d-t) 0 a E a v a x ?_);intro t J;rcases t with _|t
  .by_cases j:0<c d
   .have k:=C _ (JV j);have h:=zF j;have i:a9 p [(271,k5 [ax .bo,o' (d.getD 0 (0,0)).1 (d.getD 0 (0,0)).2] [] (.n (.ar (.aK 0))) [.E (eB mE (.ak .nil (d.getD 0 (0,0)).1 (d.getD 0 (0,0)).2 .nil))])]:=.cons (l3 (yc _ _ k.1 k.2 .nil)) .nil;refine bf i [17] a QH (g.fs 2 1 x a E a a a ?_ a j N);exact bD
   obtain rfl:d=[]:=jD x;refine bP [-17] a E (g.fE a a ?_);refine cy a lv (g.fs 0 1 x a ?_ a a a v a x ca);simp
  obtain⟨e,q,s,r,h⟩:∃y z A B,i2 (d.take (t+1))=.ak y z A B:=by rw[zF x];exact y' _ _ _
  show g p _ _ _ _ (JS d (t+1)) [Ex (d.getD 0 (0,0)),.E (eB mE (i2 (d.take (t+1))))];by_cases j:t+1<c d
  .have k:=C _ (JV j);have D:=zF j;rw[h]at D⊢;have i:a9 p [(271,k5 [.n (.ar (.aK 0)),o' (d.getD (t+1) (0,0)).1 (d.getD (t+1) (0,0)).2] [.E (eB mE (.ak e q s r))] (.n (.ar (.aK 0))) [.E (eB mE ((dI.ak e q s r).put (d.getD (t+1) (0,0)).1 (d.getD (t+1) (0,0)).2))])]:=.cons (l3 (yc _ _ k.1 k.2 (.ak e q s r))) .nil;refine bf i [17] a QH (g.fs 2 (t+2) x a E a a a ?_ a j N);simp only[T.X,T,a',a_];rw[D]
  have o:t+1=c d:=x;rw[o,c9]at h
  match d,o,h with
  |b::w,o,h=>
   rw[o,c9,h];refine bP [-17] a E (g.fE a a ?_);refine cy a lv (g.fs 2 1 x a E a a a ?_ a x ca);exact bD
 cases d with
 |nil=>
  refine bP [-11] a bu (g.fE a a ?_);exact cy a v (g.aw a nO)
 |cons F w=>
  refine bP [-11] a bu (g.fE a a ?_);refine cy a v (g.gj 2 1 a a ?_);obtain⟨e,q,s,r,h⟩:∃y z A B,i2 (F::w)=.ak y z A B:=by have:=zF (d:=F::w) (t:=c w) E;rw[Gr E]at this;rw[this];exact y' _ _ _
  rw[h];exact g.aw a
end
section
open Go.Proofs Go.Conc Go.Conc.Lib
open Go.ConcN (WgLive PayAt Has RW AtR0)
open Go.ConcR (KK WgAt stA smA rd wr mk Payload DC0)
noncomputable def SN:Code:=nk (g5 (g5 (g5 rr)))
noncomputable def HL:Code:=nk SN
noncomputable def Bw:Code:=g5 (g5 (g5 rr))
def SK:Bw=.seq (.seq HL (.block 0 (.loop hx))) lG:=bU
section
variable {dN:m an}{cG:a5}{F:bH}{k:m an}{w:Act}{b:a5}{bq:ai->a5->Prop}
def dV.goes{bm}{d:ai}:∀(o:Nat)(a:ai)b,dV dN cG F k w b->WgLive 243 bm b.a->Goes V l (fJ 243 bm) DC0 (λa _=>a=d) o a b.a ->
  (∀g,dV dN cG F k w g->cd (af.aD V) bq d g)->cd (af.aD V) bq a b
 |0,a,b,r,_,h,p=>by obtain rfl:a=d:=h b.a (.refl _);grind
 |o+1,a,b,r,v,h,p=>by
  rcases h with h|⟨x,h⟩
  .obtain rfl:a=d:=h b.a (.refl _);grind
  refine .next x λg q=>?_;have j:=r.rely q.1;obtain⟨A,B⟩:=q.2;have s:WgLive 243 bm g.a:=bD;have e:=h g.a (λ_=>s);cases m:ar V l a g.a with
  |go i z t=>
   rw[m,goes_go]at e;obtain⟨⟨rfl,rfl⟩,y⟩:=e;exact⟨i,g,#[],m,.aY j.a7,dV.goes o i g j s y p⟩
  |_=>rw[m]at e;exact e.elim
def Sd{k}{b}(g:∀e∈k,e=.J){bg}{a}(d:i7 k b bg a):bg=[]:=by
 cases bg with
 |nil=>rfl
 |cons h bg=>
  cases a with
  |nil=>exact d.elim
  |cons i a=>
   have:=g _ (b' d.1.1);cases this
end
section
variable {h:Int}{Z:m cb}{bt:m Int}{O:Nat}{ag:m Y}
variable (h Z bt O)in
def y6:bH:=[(2,aC.R bt),(3,aH 0 0),(4,aH 1 0),(8,aH 3 0),(9,aH 4 0)]
variable (h Z bt O ag)in
def pE:m an:=[.cells 3 [.c (.int .i64 h)],.cells 23 [.c (.R u 2 (c Z) (a3.fn Z))],.E (cp 245 2 (.row O (c bt)) (c bt) ag),.cells 233 [.c (.val (.slice (f ⟨O,0,n⟩) (c bt) (c bt)))],.cells 243 [.c (.int .u64 0),.c (.int .u32 0)]]
variable (h Z bt)in
def E2(a b:Nat):Y:=if b=0 then .string ⟨((dg h Z (bt.getD a 0)).getD []).toArray⟩else .bool (dg h Z (bt.getD a 0)).isSome
variable (h Z bt)in
def nc:m Y:=bt.flatMap λa=>[.string ⟨((dg h Z a).getD []).toArray⟩,.bool (dg h Z a).isSome]
variable (h Z bt O)in
def rY:m an:=[.J,.J,.E (cp 245 2 (.row O (c bt)) (c bt) (nc h Z bt)),.J,.J]
def aar{b:af V}:b2 b 45 HL (uj ((18,aC.R bt)::(19,R (c bt))::(20,R 0)::y6 bt) (pE h Z bt O ag)) (y6 bt) (pE h Z bt O ag):=by refine g.aU ?_;refine aZ a v ⟨a,eJ a ?_,a⟩;simp
theorem JM:c (nc h Z bt)=c bt*2:=by
 unfold nc;induction bt with
 |nil=>rfl
 |cons b d a=>grind
def C3:∀{bt:m Int}{C e:Nat},C<c bt->e<2->(nc h Z bt)[2*C+e]?=f (E2 h Z bt C e)
 |[],C,e,g,_=>by grind
 |b::d,0,e,_,a=>by
  match e,a with
  |0,_=>rfl
  |1,_=>rfl
 |b::d,C+1,e,g,a=>by have:=C3 (bt:=d) (C:=C) (e:=e) N a;unfold nc at this⊢;rw[so,hn N];rw[show 2*(C+1)+e - [Value.string ⟨((dg h Z b).getD []).toArray⟩,Value.bool (dg h Z b).isSome].length=2*C+e by grind];exact bD
def _root_.Go.AM.bZ.seen{e a:Nat}{g}{k}{b}{F}{w}(d:bZ e k b F w)(j:bv k b (w.tmps.getD a I) g):bZ e k b ((a,g)::F) w:=by
 refine⟨d.size,d.defers,λh=>?_⟩;simp only[look];cases i:ad a h with
 |false=>exact d.al h
 |true=>grind[Nat.eq_of_beq_eq_true]
abbrev vL(a b:Nat):bH:=[(8,ax (.M [.val (.slice (f ⟨b,0,n⟩) a a)]))]
variable (h Z bt O)in
abbrev Lp:bH:=(8,ax (.M [.val (.slice (f ⟨O,0,n⟩) (c bt) (c bt))]))::(4,ax (.M [.R u 2 (c Z) (a3.fn Z)]))::(3,ax (.M [.int .i64 h]))::(18,aC.R bt)::(19,R (c bt))::(20,R 0)::[(9,aH 4 0)]
def YL(bn:bK (af.c9 V) 191 (na h)){aM:fB}(cg:c bt<=4000000)(aq:dd (af.aD V) 45 n_ aM (vL (c bt) O) (rY h Z bt O)):dd (af.aD V) 45 Bw aM (y6 bt) (pE h Z bt O ag):=by
 intro Y b2 cc bq bN av ah cN aK X b_;have i:dV (pE h Z bt O ag) Y (y6 bt) (pE h Z bt O ag) b2 Y:=⟨cc,bq,.refl _ _⟩;refine i.ctl a (λbP=>zm SK) λb i=>?_
 refine i.ctl a (λbP=>pD) λb i=>?_;refine i.code aK aar λa6 b i=>?_;obtain⟨bI,w1,a',a0,aa⟩:=bZ.freeze 3 0 (W:=3) (ah:=[.c (.int .i64 h)]) (gO:=[.int .i64 h]) rfl rfl rfl i.bR i.a7;refine .aS (.of i.a7 a0 w1 (aa.too1 i.a7)) ?_;obtain⟨bJ,w2,ba,Q,ab⟩:=bZ.freeze 4 1 (W:=23) (ah:=[.c (.R u 2 (c Z) (a3.fn Z))]) (gO:=[.R u 2 (c Z) (a3.fn Z)]) rfl rfl rfl a' a0;refine .aS (.of a0 Q w2 (ab.too1 a0)) ?_;obtain⟨cr,w3,f3,S,ae⟩:=bZ.freeze 8 3 (W:=233) (ah:=[.c (.val (.slice (f ⟨O,0,n⟩) (c bt) (c bt)))]) (gO:=[.val (.slice (f ⟨O,0,n⟩) (c bt) (c bt))]) rfl rfl rfl ba Q;refine .aS (.of Q S w3 (ae.too1 Q)) ?_;have i:dV (pE h Z bt O ag) Y (Lp h Z bt O)
   [.J,.J,.E (cp 245 2 (.row O (c bt)) (c bt) ag),.J,.cells 243 [.c (.int .u64 0),.c (.int .u32 0)]] a6 cr:=
  ⟨f3.le (eJ a E),S,i.a2.trans ((aa.too1 i.a7).trans ((ab.too1 a0).trans (ae.too1 Q)))⟩
 clear aa ab ae a' ba f3 a0 Q S;refine i.ctl a (λbP=>zi) λb i=>?_;refine i.ctl a (λbP=>Mn) λb i=>?_;have aP:=i.a7.len;simp[fw,gL]at aP;obtain⟨y,aW⟩:∃L,b.s[2]?=f L:=⟨_,bF x⟩
 obtain⟨ax,a2⟩:∃L,b.s[4]?=f L:=⟨_,bF x⟩
 obtain⟨cQ,bf,al,bk,cC⟩:=i.a7.box 2 _ y rfl aW;obtain⟨cv,cJ,aO,cb⟩:=cp.lookup bf;obtain⟨aC,_,cI,_,_,_⟩:=bf;have P:=(bk O).2 N;have au:=al O _ aO;obtain⟨m,A,b9,cy,bC,cD⟩:=i.a7.box 4 _ ax rfl a2;have aR:A=[.int .u64 0,.int .u32 0]:=by
  match A,bC with
  |[],aD=>exact aD.elim
  |[_],aD=>exact aD.2.elim
  |_::_::_::_,aD=>exact aD.2.2.elim
  |[cZ,aZ],aD=>
   have r0:=aD.1;have w:=aD.2.1;cases r0;cases w;rfl
 subst aR;have bz:O≠m:=N;have bA:a6.tmps.getD 9 I=.pointer (f ⟨m,0,n⟩):=by obtain⟨_,L,dT,aT,aU,cX⟩:=i.bR.al 9;grind
 obtain⟨bb,cu⟩:=i.a7.gR (d:=2) rfl aW (.inr ⟨_,rfl⟩);have aJ:(b.s.set 2 ⟨y.v,[]⟩)[4]?=f ax:=N;obtain⟨bd,t2⟩:=bb.gR (d:=4) (bS:=.cells 243 [.c (.int .u64 0),.c (.int .u32 0)]) rfl aJ (.inl ⟨_,_,rfl⟩);generalize cH:({b with s:=(b.s.set 2 ⟨y.v,[]⟩).set 4 ⟨ax.v,[]⟩}:a5)=jU at bd t2;have cA:jU.s=(b.s.set 2 ⟨y.v,[]⟩).set 4 ⟨ax.v,[]⟩:=N;have aE:jU.u=b.u:=N;have F:jU.a=b.a:=N;have aF:jU.own=b.own:=N;have aB:=bd;have oL:=(cu.too1 i.a7).trans (t2.too1 bb);have aS:jU.s[2]?=f ⟨y.v,[]⟩:=N;have bO:∀L∈jU.s,∀C∈L.ab,∃d,d≠2/\d≠4/\b.s[d]?=f L:=by grind[List.mem_iff_getElem?]
 have cK:=i.a7.lt y (b' aW) O P;have cM:=i.a7.lt ax (b' a2) m N;have b0:nQ O jU:=⟨by rw[aF];exactλU=>(i.a7.own O U).2 y (b' aW) P,λL g k=>by obtain⟨d,bG,bH,T⟩:=bO L g O k;exact bG (i.a7.a1 d 2 L y T aW O k P),λq=>by rw[aE];grind,by grind⟩
 have H:nQ m jU:=⟨by rw[aF];exactλU=>(i.a7.own m U).2 ax (b' a2) N,λL g k=>by obtain⟨d,bG,bH,T⟩:=bO L g m k;exact bH (i.a7.a1 d 4 L ax T a2 m k N),λq=>by rw[aE];grind,by grind⟩
 have cR:bZ 45 e5 jU (ic h Z bt O m 0) a6:=by have p:=i.bR.mono oL i.a7.len;have cn:bZ 45 e5 jU ((9,cL (.pointer (f ⟨m,0,n⟩)))::Lp h Z bt O) a6:=p.seen (by rw[bA];exact Rd.val a);exact cn.le (eJ a E)
 have cP:(ag++cv).toArray.size=2*c bt:=N;have aN:∀C,(b.own C∨∃L∈b.s,C∈L.ab)->C<b.a.heap.size:=λC k=>k.elim (λp=>(i.a7.own C p).1) λ⟨L,g,p⟩=>i.a7.lt L g C p;refine .dj (ac:=λai az=>∃r z,dV (pE h Z bt O ag) Y (vL (c bt) O) (rY h Z bt O) r az/\WgLive 243 m az.a/\Goes V l (fJ 243 m) DC0 (λcB _=>cB=G (bN.N (r.put (f 28) (.tuple #[])) (.inRegion oD []::.code n_::av)) ah) z ai az.a)
  (kV.gi (j:=c bt) (ty:=243) (val:=E2 h Z bt) (D:=2*c bt) (cG:=jU) 2 x m O x bz (.of i.a7 aB F oL) a ⟨y,b' aW,P⟩ ⟨ax,b' a2,by grind⟩ aN ?_ cy ⟨_,au,cP⟩ ?_) ?_
 .rintro C (rfl|rfl)
  .exact⟨b0.own,b0.s,b0.u⟩
  exact⟨H.own,H.s,H.u⟩
 .intro o bh bg bj;subst bh bg;refine⟨Gm h Z bt o e5 jU bN av ah,wK h Z bt o e5 jU bN av ah,λcB b k=>Si H X k,?_,?_⟩
  .refine ab6 bn bj H X aK ca cg (λe cd=>rfl) (λe cd=>rfl) (c bt) (bB _) a6 jU ⟨by grind,aB,.refl _ _⟩ ⟨_,_,by rw[F];exact cy⟩
  .rintro ai az ⟨r,⟨t,an⟩,z,R⟩ bx ao M cf aj;obtain⟨cS,cT,cU⟩:=aj o.af (.inl rfl);obtain⟨a7,ar,cj⟩:=ao;have bm:a7=(nc h Z bt).toArray:=by
    apply Array.ext_getElem?;intro q;have a_:(nc h Z bt).toArray[q]?=(nc h Z bt)[q]?:=E;rw[a_];rcases dW q (2*c bt)with U|U
    .have aT:=M (q / 2) x (q % 2) x;have aU:=C3 (h:=h) (Z:=Z) (bt:=bt) (C:=q / 2) (e:=q % 2) x x;rw[show 2*(q / 2)+q % 2=q by omega]at aT aU;rw[aU];simpa[aL,ar]using aT
    grind[JM]
   subst bm;have br:=t.a7.len;obtain⟨cw,aw,cl,cW,cm⟩:=t.a2.box 2 .J ⟨y.v,[]⟩ rfl aS;have ck:aw.v=.nilFunc:=by cases cl;exact(show aw.v=y.v from cm).trans aC
   have cx:∀(d:Nat) bS,e5[d]?=f bS->bS=.J:=by
    intro d bS aI
    match d,aI with
    |0,aI|1,aI|2,aI|3,aI|4,aI=>cases aI;rfl
   have cz:∀d,(az.s.set 2 ⟨.nilFunc,[o.af]⟩)[d]?=if d=2 then f ⟨.nilFunc,[o.af]⟩else az.s[d]?:=N;have bQ:∀L∈az.s.set 2 ⟨.nilFunc,[o.af]⟩,L=⟨.nilFunc,[o.af]⟩∨L∈az.s:=λL g=>by grind
   have bp:bc (rY h Z bt o.af) {az with s:=az.s.set 2 ⟨.nilFunc,[o.af]⟩}:=by
    refine⟨t.a7.mem,by simp[br,rY],?_,?_,?_,λC k=>⟨(t.a7.own C k).1,λL g a4=>?_⟩⟩
    .intro d bS L aI g;rw[cz]at g;by_cases s:d=2
     .subst s;rw[bo a]at g;cases g;cases aI;refine⟨λB=>if B=o.af then f (.cells (nc h Z bt++[]).toArray 245 (0,0))else n,⟨a,?_,JM,bB _,by omega,[],by grind,a⟩,λB cV K=>?_,λB=>?_,λB K q=>?_⟩
      .intro C k;simp only[nc,rk]at k;obtain⟨_,_,k⟩:=k;simp only[fa,sr,or_false]at k;rcases k with rfl|rfl<;>rfl
      .by_cases s:B=o.af
       .subst s;simp only[dH]at K;cases K;exact bu
       grind
      .by_cases s:B=o.af<;>simp[s]
      grind
     .match d,aI,s with
      |0,aI,_|1,aI,_|3,aI,_|4,aI,_=>cases aI;trivial
      |2,_,s=>grind
    .intro d bE L bU g J C k bD;rw[cz]at g J;by_cases s:d=2
     .grind
     rw[bl s]at g;by_cases b3:bE=2
     .grind
     rw[bl b3]at J;exact t.a7.a1 d bE L bU g J C k bD
    .intro L g C k;rcases bQ L g with rfl|g
     .grind
     exact t.a7.lt L g C k
    rcases bQ L g with rfl|g
    .grind
    exact(t.a7.own C k).2 L g a4
   have aQ:de [.J,.J,.E (cp 245 2 (.row o.af (c bt)) (c bt) ag),.J,.cells 243 [.c (.int .u64 0),.c (.int .u32 0)]] b (rY h Z bt o.af) {az with s:=az.s.set 2 ⟨.nilFunc,[o.af]⟩}:=by
    have p:=t.a2;refine⟨by have:=p.size;grind,λC k=>by have:=p.aV C N;grind,λC q c1 k=>p.mem C q c1 N,λC k cF q=>?_,λL g C k=>?_,?_,by rw[p.os,F],by rw[p.tape,F],by rw[p.output,F],by rw[p.own,aF]⟩
    .rw[p.bz C N (λL g a4=>by
      obtain⟨d,_,_,T⟩:=bO L g C a4
      grind) q,aE]
    .rcases bQ L g with rfl|g
     .grind
     rcases p.bN L g C k with w|⟨bV,w,aV⟩
     .grind
     obtain⟨d,_,_,T⟩:=bO bV w C aV;grind
    intro d bS L aI g;obtain⟨a1,bW,w,aV,cq⟩:=oL.box d bS L aI g;obtain⟨bR,bX,aZ,c0,nI⟩:=p.box d a1 bW w aV;have a8:=cx d a1 w;have a9:=cx d bR aZ;subst a8 a9;by_cases s:d=2
    .subst s;cases aI;rw[aW]at g;cases g;exact⟨_,⟨.nilFunc,[o.af]⟩,a,by grind,aC.symm⟩
    refine⟨.J,bX,?_,by grind,cq.trans nI⟩
    match d,aZ,s with
    |0,_,_|1,_,_|3,_,_|4,_,_=>rfl
    |2,_,s=>grind
   refine⟨{az with s:=az.s.set 2 ⟨.nilFunc,[o.af]⟩},⟨r,z,⟨⟨t.bR.size,⟨[],?_⟩,λcY=>?_⟩,bp,i.a2.trans aQ⟩,an,R⟩,rfl,bx,λcO bM cE=>⟨bM.own,λC k L g a4=>?_,bM.u,bM.lt⟩⟩
   .obtain⟨nz,bw⟩:=t.bR.defers;rw[Sd (λbS aI=>by grind) bw];trivial
   .have b5:bZ 45 e5 az (vL (c bt) o.af) r:=t.bR.le (eJ a E);exact bv.eY (b:=az) (az:={az with s:=az.s.set 2 ⟨.nilFunc,[o.af]⟩}) rfl (b5.al cY) (vm rfl)
   rcases bQ L g with rfl|g
   .grind
   exact bM.s C k L g a4
 rintro ai az ⟨r,z,b8,bs,R⟩;refine dV.goes z ai az b8 bs R λbI aG=>?_;have b7:dV (pE h Z bt O ag) Y ((28,.any)::vL (c bt) O) (rY h Z bt O) (r.put (f 28) (.tuple #[])) bI:=⟨aG.bR.put ca v,aG.a7,aG.a2⟩
 refine b7.ctl a (λbP=>v3) λbJ aH=>?_;refine aq bJ _ (aH.bR.le (eJ a E)) aH.a7 bN av ah cN aK X λs bT bY az b1 p b4 b6 bL=>b_ s bT bY az b1 p b4 b6 (aH.a2.trans bL)
end
end
abbrev EN(a:m bC)(b:Bool):y:=.Q [.ar (.c (.R u 1 (c a) (bQ.fn a))),.ar (.c (.bool b))]
def g4(e:Int)(b:m cb)(a:m Int):Option (m bC):=if a.all (λd=>(dg e b d).isSome)then f (a.map λd=>(dg e b d).getD [])else n
noncomputable def SQ:Code:=nk rr
noncomputable def SR:Code:=nk (g5 rr)
noncomputable def SS:Code:=nk (g5 (g5 rr))
def SM:f147.body=f (.seq SQ (.seq SR (.seq SS Bw))):=bU
def sS(e:Int)(b:m cb)(a:m Int)(d:Nat):m AM.O:=[.V ((dg e b (a.getD d 0)).getD []),.bool (dg e b (a.getD d 0)).isSome]
def mG(d:Int)(b:m cb)(a:m Int):m bC:=a.map λe=>(dg d b e).getD []
theorem aaw{i b}(a:hG i=f b):c b<=8:=by
 unfold hG at a;split at a
 .rename_i d;cases a;simp only[cl,cC,bw]at d;omega
 grind
theorem SY{d}{a}(b:iK h d=f a):c a<=8:=by unfold iK at b;grind[aaw]
theorem JE{Z}{j}:c ((dg h Z j).getD [])<=8:=by
 cases b:dg h Z j with
 |none=>simp
 |some d=>
  obtain⟨e,_,a⟩:=List.exists_of_findSome?_eq_some b;unfold fT at a;grind[SY]
theorem TK{Z}{b}(g:e<c b){q}{m}(d:(sS h Z b e)[t]?=f q)(k:(nc h Z b)[e*2+t]?=f m):Rd bA m q:=by
 have i:t<2:=(cO.1 d).1;have:=C3 (h:=h) (Z:=Z) g i;rw[Nat.mul_comm,this]at k;cases k
 match t,i with
 |0,_=>
  cases d;have:=JE (h:=h) (Z:=Z) (j:=b.getD e 0);exact .V a x
 |1,_=>cases d;exact .bool
def _root_.Go.AM.dd.le{P:aE}{d:af P}{D}{aM}{F dG}{k}{q}(h:dd d D q aM dG k)(b:iA F dG):dd d D q aM F k:=λi e g a=>h i e (g.le b) a
def UP(y:bK (af.c9 V) 191 (na h))(Z)(b)(B:c b<=4000000):
  X (af.aD V) 147 [R h,a3.R Z,aC.R b] [] (EN ((g4 h Z b).getD []) (g4 h Z b).isSome) []:=by
 refine bk.toX (bk.e5 (ι:=Unit) func147 rfl SM rfl λJ=>?_);show dd _ 45 _ _ _ _;refine dd.seq (b2.bw (g.aU ?_));refine aZ a v ?_;show dd _ 45 _ _ _ _;refine dd.seq (b2.bw (g.aU ?_));refine aZ a v (g.jF (W:=245) (j:=c b) bb a a a a a a Ac x a a λO ag=>?_);refine aZ a v ?_;show dd _ 45 _ _ _ _;refine dd.seq (b2.bw (g.aU ?_));refine aZ a v ?_;show dd _ 45 _ _ _ _;have q:dd (af.aD V) 45 n_ (λt p e=>∃_:Unit,bX f147 0 (EN ((g4 h Z b).getD []) (g4 h Z b).isSome) [] t p e) (vL (c b) O) (rY h Z b O):=by
  refine b2.bw (b2.mono (aM:=bX f147 0 (EN ((g4 h Z b).getD []) (g4 h Z b).isSome) []) (g.aU ?_) λ_ _ _ A=>⟨(),A⟩);refine aZ a (show _<=_ by omega) (g.iN 29 2 (bN:=.row O (c b)) (j:=c b) (h:=2) (sS h Z b) a a (λd i=>⟨a,λC m D Q M N=>?_⟩) ?_)
  .grind [TK]
  refine g.bK 12 9 1 a a ?_;refine g.aL 6 (λd=>d<=c b/\∀m,m<d->(dg h Z (b.getD m 0)).isSome=l) (λd:Nat=>[(29,ax (.R u 2 (c b) (sS h Z b))),(30,R (c b)),(31,R d),(12,.n (.ar (.w 5 1 (c (mG h Z (b.take d))) (bQ.fn (mG h Z (b.take d))))))]) (λd=>[.J,.J,.J,.J,.J,.w 9 1 (c (mG h Z (b.take d))) (bQ.fn (mG h Z (b.take d)))]) (λd=>c b-d) 0 a ?_ a ?_ a ⟨by omega,by omega⟩ ?_
  .simp[bs,mG]
  .simp[bs,mG]
  rintro d ⟨i,F⟩;by_cases o:d<c b
  .cases r:(dg h Z (b.getD d 0)).isSome with
   |true=>
    have K:mG h Z (b.take (d+1))=mG h Z (b.take d)++[(dg h Z (b.getD d 0)).getD []]:=by unfold mG;grind[List.take_add_one]
    have I:c (mG h Z (b.take d))<=4000000:=by simp[mG];omega
    refine bP [32,-37] a ?_ (g.aA (d+1) a ?_ ?_ ?_ ?_)
    .simp[-ak,o,sS,r,a8];have:s4.bytes=16:=rfl;grind
    .exact Pz
    .exact Pz
    .grind
    omega
   |false=>
    refine bP [32,37] a ?_ (g.aW (bX.zero a ?_))
    .simp[-ak,o,sS,r]
    have w:g4 h Z b=n:=NY;simp[w]
  have z:d=c b:=x;subst z;refine bP [-32] a E (g.aB ?_);refine cy a v (g.aw a ?_);have s:g4 h Z b=f (mG h Z b):=by
   unfold g4;rw[bo]
   .rfl
   grind[List.mem_iff_getElem]
  simp[s]
 exact dd.le (k:=pE h Z b O ag) (YL (ag:=ag) y B q) (eJ a E)
end R1
end Go.AM
namespace Go.AM.R1
def rN(a)(b):iw (a::b)=if a=47 then 0 else if iw b=-1 then -1 else iw b+1:=by unfold iw;grind[Lib.indexByte.eq_def]
def Dh:iw []=-1:=cT
def aaD(b):jT b=fU b:=by
 by_cases m:c b<=3
 .match b,m with
  |[],_=>exact cT
  |[e],_=>
   by_cases a:e=47
   .exact hy
   simp[jT,fU,jN,jL,kf,rN,Dh,a,lk,dq]
  |[e,g],_=>
   by_cases a:e=47
   .exact hy
   by_cases d:g=47
   .subst d;simp[jT,fU,jN,jL,mq,kf,rN,a]
   simp[jT,fU,jN,jL,kf,rN,Dh,a,d]
  |[e,g,i],_=>
   by_cases a:e=47
   .subst a;simp[jT,fU,jN,jL,mq,kf,rN,lk,dq]
   by_cases d:g=47
   .subst d;simp[jT,fU,jN,jL,mq,kf,rN,a,lk,dq]
   have j:¬(g.toNat:Int)=47:=by intro k;apply d;apply ut.1;grind
   by_cases h:i=47
   .subst h;simp[jT,fU,jN,jL,mq,kf,rN,a,d,lk,dq]
   simp[jT,fU,jN,jL,kf,rN,Dh,a,d,h,j,lk,dq]
  |_::_::_::_::_,k=>grind
 have o:fU b=u:=by unfold fU;grind
 grind[Ll]
end Go.AM.R1
namespace Go.AM
theorem xr(a):aU a []=u:=F7
def Bc(i)(d):aU [] (i::d)=l:=F7
theorem uL(a i)(b d):aU (a::b) (i::d)=(decide (a<i)||a==i&&aU b d):=F7
theorem xq:∀a:bC,aU a a=u
 |[]=>xr []
 |a::b=>by rw[uL,xq b];simp
def G5:∀a b:bC,aU a b=l∨a=b∨aU b a=l
 |[],[]=>.inr (.inl rfl)
 |[],b::e=>.inl (Bc b e)
 |a::d,[]=>.inr (.inr (Bc a d))
 |a::d,b::e=>by
  rw[uL,uL];rcases G5 d e with g|g|g
  .grind
  .grind
  grind
theorem Bd:∀{g h b:bC},aU g h=l->aU h b=l->aU g b=l
 |g,h,[],_,e=>by grind[xr]
 |g,[],b::i,d,_=>by grind[xr]
 |[],h::j,b::i,_,_=>Bc b i
 |g::k,h::j,b::i,d,e=>by
  rw[uL,jE,cl,bw,gM]at d e⊢;rcases d with d|⟨rfl,d⟩
  .grind
  rcases e with e|⟨rfl,e⟩
  .grind
  exact .inr ⟨a,Bd d e⟩
theorem G4{a i}(b:aU a i=l):aU i a=u:=by grind[Bd,xq]
def SB{a i}:(!(aU i a||i==a))=aU a i:=by
 rcases G5 a i with b|b|b
 .have q:(i==a)=u:=by simp[eY,d6];grind[xq]
  grind[G4]
 .grind [xq]
 grind[G4]
namespace R1
def L5{o}{e}(g:∀a,0<a->a<=e->aU (cr o (a-1)) (cr o a)=l):∀b,b<e->aU (cr o b) (cr o e)=l:=by
 intro b m;induction e with
 |zero=>omega
 |succ e i=>
  have d:=g (e+1) x (bB _);simp[p5]at d;by_cases k:b=e
  .grind
  exact Bd (i (λa h j=>g a h x) x) d
def Lm{b}(d:fU b=l):(∃a,b=[a])∨∃a e,b=[a,47,e]:=by
 unfold fU at d;split at d
 .rename_i g
  match b,g with
  |[a],_=>grind
 split at d
 .rename_i g
  match b,g with
  |[a,e,h],_=>
   right;simp[lk,dq]at d;have i:e=47:=by apply ut.1;grind
   grind
 grind
theorem SZ{b d}(g:fU b=l)(h:fU d=l)(k:aU b d=l):k8 b d=under d b:=by
 rcases Lm g with⟨a,rfl⟩|⟨a,i,rfl⟩<;>rcases Lm h with⟨q,rfl⟩|⟨q,j,rfl⟩
 .exact cT
 .by_cases e:a=q
  .subst e;simp[k8,under,ol,dq]
  have:¬(a.toNat:Int)=q.toNat:=λm=>e (ut.1 x);have p:((a.toNat:Int)==(q.toNat:Int))=u:=N;have o:(q==a)=u:=N;simp[k8,under,ol,dq];grind
 .have:¬(a.toNat:Int)=q.toNat:=by grind[UInt8.toNat_inj,uL,xr]
  simp[k8,under,ol,dq,this]
 exact cT
theorem ME{o}{e}(b:∀a,a<e->iZ o a=l):mQ o e=iZ o e:=by
 unfold mQ iZ;rw[aaD,SB];cases q:fU (cr o e)with
 |false=>simp
 |true=>
  cases k:fO (lr o e)with
  |false=>simp
  |true=>
   cases r:(e==0||aU (cr o (e-1)) (cr o e))with
   |false=>simp
   |true=>
    simp[fx];have p:∀a,a<e->aU (cr o a) (cr o e)=l:=by
     apply L5;intro g i d;by_cases m:g=e
     .grind
     have:=b g x;simp[iZ,cl,jE,gM]at this;grind
    rw[o4,fS,fS];have s:∀a,a<e->k8 (cr o a) (cr o e)=under (cr o e) (cr o a):=by
     intro a h;have j:fU (cr o a)=l:=by have:=b a h;simp[iZ,cl]at this;exact this.1.1.1
     grind[SZ]
    grind
def r5(o):qT o=dP o:=by
 unfold qT dP;congr 1;rw[o4,fS,fS];constructor
 .intro b e;induction e using Nat.strongRecOn with
  |_ e a=>grind[ME]
 grind[ME]
end R1
end Go.AM
namespace Go.AM
variable {j z:Nat}{h:Int}{d i e t:Nat}{W:ao}{H:Y->(Nat->Option Obj)->Prop}{L:Array Bool}{bA:Mem}{D:Nat}{P:aE}{bq:ai->a5->Prop}{q:Code}{B:ai}{r:ap}{b:a5}{o:ao}{aa:Y}{α:Type}{η:ae->y}{ι:Type}{k:m an}{F:bH}{all:m ap}{dt:Array ao}{cap:m O}{cR:m y}{k7:Nat->Option Obj}{ah:m aJ}{bg:m (Nat×Bool)}{U:Nat->m O}{cP:ae}{gs:Array ai}{aT:m Nat}{cj:m Prop}{off:Nat}{op:BinOp}{aF:Array ap}{Z:m Prop}{br:m ap}{az:a5}{ty:ao}{val:Nat->Nat->Y}{A:m Y}{bj:au}{ag:Array ae}{aq dh:m an}{res:ι->y}{aP:ι->m an}
variable {CT:m (Nat×bJ)}{av:m il}{be:fB}{ac:m (Nat×cq)}{a4:cq}
namespace R1
section
variable {p:af V}
def fM(d:Int)(a:m cb)(b:m1):Option cY:=match g4 d a b.2 with
 |none=>n
 |some e=>match iM e with
  |none=>n
  |some g=>f (b.1,g)
def fq(b:Int)(a:m cb)(d:m m1):m cY:=d.map λe=>(fM b a e).getD ([],[])
def ei(b:Int)(d:ef)(a:m cb):Option (m cY):=
 if cA b&&d.2.all (λe=>(fM b a e).isSome)&&dP (fq b a d.2)then f (fq b a d.2)else n
abbrev nH(a:m cY)(b:Bool):y:=.Q [.ar (.c (.R u 2 (c a) (bx.fn a))),.ar (.c (.bool b))]
abbrev iQ(a:ef):y:=.n (.agg [.c (.int .i64 a.1),.c (.R u 2 (c a.2) (cu.fn a.2))])
theorem CV{Z}{d}(a:e<c d):fq h Z (d.take (e+1))=fq h Z (d.take e)++[(fM h Z (d.getD e ([],[]))).getD ([],[])]:=by unfold fq;grind[List.take_add_one]
def Eu{Z}{b}(d:e<c b.2)(a:fM h Z (b.2.getD e ([],[]))=n):ei h b Z=n:=by unfold ei;rw[bl];grind
def Yt{Z}{a}{d}(b:g4 h Z a=f d)(j:c a<=4000000):c d.flatten<=140737488355328/\c d<=4000000:=by
 unfold g4 at b;split at b
 .rename_i i;cases b;refine⟨?_,by grind⟩;have key:∀a:m Int,(a.all λe=>(dg h Z e).isSome)=l->(a.map λe=>(dg h Z e).getD []).flatten.length<=8*c a:=by
   intro a;induction a with
   |nil=>grind
   |cons e a g=>
    intro b;simp only[List.all_cons,cl]at b;grind[JE]
  grind
 grind
def XC(h)(b)(Z)(Y:c b.2<=4000000)(G:∀e∈b.2,c e.2<=4000000):
  X (af.aD V) 108 [R h,iQ b,a3.R Z] [] (nH ((ei h b Z).getD []) (ei h b Z).isSome) []:=by
 refine X.I func108 rfl λI=>?_;have aa:=I.R 2 a;have i:a9 (af.aD V) [(55,df c6 (λh=>bi (cA h)) λ_=>[])]:=.cons pJ .nil;cases bW:cA h with
 |false=>
  refine a7 i [-15,16] a kT (g.aw a ?_);simp[ei,bW]
 |true=>
  have S:bK (af.c9 V) 191 (na h):=ac3 zA bW;refine a7 i [15,-16,904] a kT (g.bK 8 73 2 a a ?_);refine b9 i a v (g.aL 2 (λd=>d<=c b.2/\∀w,w<d->(fM h Z (b.2.getD w ([],[]))).isSome=l) (λd:Nat=>[(0,R h),(2,a3.R Z),(4,aH 0 0),(8,.n (.ar (.w 1 2 (c (fq h Z (b.2.take d))) (bx.fn (fq h Z (b.2.take d)))))),(18,cu.R b.2),(19,R (c b.2)),(20,R d)]) (λd=>[.cells 114 [.c (.int .i64 b.1),.c (.R u 2 (c b.2) (cu.fn b.2))],.w 73 2 (c (fq h Z (b.2.take d))) (bx.fn (fq h Z (b.2.take d)))]) (λd=>c b.2-d) 0 a Ah a Ah a ⟨by omega,by omega⟩ ?_);rintro d ⟨J,ab⟩;by_cases q:d<c b.2
  .have r:b.2.getD d ([],[])∈b.2:=N;generalize m:b.2.getD d ([],[])=e at r;have A:=G e r;have o:=UP S Z e.2 A;cases j:g4 h Z e.2 with
   |none=>
    rw[j]at o;refine a7 i [21] a bu (g.aC (m▸o) [] a (a7 i [33] a E (g.aW (bX.zero a ?_))));have k:fM h Z e=n:=by simp[fM,j]
    rw[Eu q N];simp
   |some z=>
    obtain⟨U,y⟩:=Yt j A;rw[j]at o;have K:=Uy (p:=af.aD V) z U;refine a7 i [21] a bu (g.aC (m▸o) [] a (a7 i [-33] a E (g.aC K [] a ?_)));cases Q:iM z with
    |none=>
     refine a7 i [40] a E (g.aW (bX.zero a ?_));have k:fM h Z e=n:=by simp[fM,j,Q]
     rw[Eu q N];simp
    |some s=>
     have k:fM h Z e=f (e.1,s):=by simp[fM,j,Q]
     have F:b.2.getD (d:Int).toNat cu.C=e:=m;have W:c (fq h Z (b.2.take d))<=4000000:=by simp[fq];omega
     have D:bs (c (fq h Z (b.2.take d))+1) (cg (c (fq h Z (b.2.take d))) (bx.fn (fq h Z (b.2.take d))) λM=>[[O.V (b.2.getD (d:Int).toNat cu.C).1,O.V ((f s).getD [])]].getD M []) (bx.fn (fq h Z (b.2.take (d+1)))):=by rw[CV q,m,k,F];exact bx.aX (fq h Z (b.2.take d)) (e.1,s)
     have C:c (fq h Z (b.2.take d))+1=c (fq h Z (b.2.take (d+1))):=by grind[CV]
     refine a7 i [-40] a ?_ (g.aA (d+1) a ?_ ?_ ?_ ?_)
     .refine⟨by exact bD,a,a,?_,a⟩;show _*32<=_;omega
     .refine T.X.2 ⟨a,T.X.2 ⟨⟨a,bs.same⟩,T.X.2 ⟨v,T.X.2 ⟨⟨C,D⟩,T.X.2 ⟨⟨a,bs.same⟩,T.X.2 ⟨a,T.X.2 ⟨?_,v⟩⟩⟩⟩⟩⟩⟩;simp
     .exact T.X.2 ⟨T.X.2 ⟨a,T.X.2 ⟨⟨a,bs.same⟩,v⟩⟩,T.X.2 ⟨⟨C,D⟩,v⟩⟩
     .grind
     omega
  have k:d=c b.2:=x;subst k;refine a7 i [-21] a E (g.aB ?_);rw[c9];have t:=Jx (p:=af.aD V) (fq h Z b.2);rw[r5]at t;refine b9 i a v (g.aC t [] a ?_);have H:b.2.all (λe=>(fM h Z e).isSome)=l:=aY.2 λe r=>by grind[List.mem_iff_getElem]
  cases B:dP (fq h Z b.2)with
  |false=>
   refine a7 i [51] a E (g.aw a ?_);simp[ei,B]
  |true=>
   refine a7 i [-51] a E (g.aw a ?_);simp[ei,B,bW,H]
abbrev ce:=m cb×m ef×m (Int×Int)
def kr(b:ce):Prop:=∀a∈b.2.1,c a.2<=4000000/\∀d∈a.2,c d.2<=4000000
abbrev bY(a:ce):y:=.n (.agg [.c (.R u 2 (c a.1) (a3.fn a.1)),.c (.R u 2 (c a.2.1) (bh.fn a.2.1)),.c (.R u 2 (c a.2.2) (a1.fn a.2.2))])
def pG(e:Int)(d:ce)(a:Int):Option (m cY):=match d.2.1.find? (λb=>b.1==a)with
 |none=>n
 |some b=>ei e b d.1
def BO:bJ:=kb c6 (jC cu) (e' a3) (λd b a=>nH ((ei d b a).getD []) (ei d b a).isSome) λ_ b _=>[c b.2<=4000000,∀e∈b.2,c e.2<=4000000]
def M3:bK (af.aD V) 108 BO:=.c5 λd e a b=>XC d e a b.1 b.2
def XM(h:Int)(b:ce)(d:Int)(s:kr b):
  X (af.aD V) 57 [R h,bY b,R d] [] (nH ((pG h b d).getD []) (pG h b d).isSome) []:=by
 refine X.I func57 rfl λw=>?_;have j:a9 (af.aD V) [(106,Bf),(108,BO)]:=.cons acw (.cons M3 .nil);have q:bh.ad (c b.2.1) (bh.fn b.2.1)=b.2.1:=bh.l _;refine a7 j [901] a v (g.freeze 5 1 a a a ?_);rcases Za b.2.1 d with⟨o,i⟩|⟨e,bp,o,i⟩
 .refine a7 j [14] a bD (g.aw a ?_);simp[pG,i]
 have t:b.2.1.getD e (0,[])∈b.2.1:=N;obtain⟨r,k⟩:=s _ t;have p:pG h b d=ei h (b.2.1.getD e (0,[])) b.1:=by simp only[pG,i]
 have m:b.2.1.getD (oo (bh.ad (c b.2.1) (bh.fn b.2.1)) d).toNat bh.C=b.2.1.getD e (0,[]):=N;refine a7 j [-14] a ?_ (g.aw a ?_)
 .simp only[T,m,cu.l,q,o];exact⟨cu.T _,a3.T _,r,k,by omega,by omega,k2 x,bh.T _⟩
 simp only[m,cu.l,a3.l,p];simp
def o6:i6 ce:=⟨bY,λr=>match r with
 |.n (.agg [.c q,.c s,.c t])=>match jt 2 (ax q)with
  |some (i,g)=>match jt 2 (ax s)with
   |some (j,m)=>match jt 2 (ax t)with
    |some (p,h)=>f ((a3.ad i g,bh.ad j m,a1.ad p h),[a3.bQ i g,bh.bQ j m,a1.bQ p h])
    |none=>n
   |none=>n
  |none=>n
 |_=>n,λ{r q E} e d k b aa z=>by
 split at e
 .split at e
  .rename_i i g o;split at e
   .rename_i j m x;split at e
    .rename_i p h C;cases e;obtain⟨A,w,a⟩:=z
     match A,a with
     |[],a=>exact a.elim
     |[_],a=>exact a.2.elim
     |[_,_],a=>exact a.2.2.elim
     |_::_::_::_::_,a=>exact a.2.2.2.elim
     |[B,D,y],a=>
      exact⟨_,w,a3.cu (k:=[]) (b:=b) (aa:=B) o d.1 a.1,bh.cu (k:=[]) (b:=b) (aa:=D) x d.2.1 a.2.1,a1.cu (k:=[]) (b:=b) (aa:=y) C d.2.2 a.2.2.1,v⟩
    grind
   grind
  grind
 grind⟩
abbrev d8(b:cb)(a:Nat):cZ:=b.2.getD a (0,[])
def ig(d:Int)(b:cb)(a:Nat):Bool:=right d (d8 b a)&&(a==0||decide ((d8 b (a-1)).1<(d8 b a).1))
theorem DV(h)(a):ib h a=((aA (c a.2)).all (ig h a)&&(cA h&&decide (1<=a.1)&&decide (a.1<=99)&&decide (1<=c a.2)&&decide (c a.2<=4))):=by
 have j:(a.2.all (right h)&&Ev (a.2.map (·.1)))=(aA (c a.2)).all (ig h a):=by
  rw[o4,cl,aY,aY];unfold Ev;rw[aY];have d:∀e,e<c a.2->(a.2.map (·.1)).getD e 0=(d8 a e).1:=λe bp=>by grind
  constructor
  .rintro⟨i,b⟩ e bp;have bp:=rj.1 bp;have k:=b e N;rw[d e bp]at k;unfold ig;rw[i (d8 a e) N,fx];rcases n4 e with rfl|m
   .rfl
   grind
  intro s;refine⟨λo g=>?_,λe bp=>?_⟩
  .obtain⟨e,bp,rfl⟩:=AX.1 g;exact PQ
  have bp:e<c a.2:=N;exact PQ
 rw[<-j];unfold ib;cases cA h<;>cases decide (1<=a.1)<;>cases decide (a.1<=99)<;>cases decide (1<=c a.2)<;>cases decide (c a.2<=4)<;>simp
def Lf{a}(b:e<c a.2)(d:ig h a e=u):ib h a=u:=by grind[DV]
theorem BZ{C}(a:cA h=l):(iK h C).isSome=right h C:=by unfold iK right;grind
def WU(h)(b)(i:cA h=l)(C:c b.2<=4000000):X p 163 [R h,fL b] [] (bi (ib h b)) []:=by
 refine X.I func163 rfl λF=>?_;have e:a9 p [(55,df c6 (λh=>bi (cA h)) λ_=>[]),(203,ev si c6 (λA h=>iP (iK h A)) λ_ h=>[cA h=l])]:=.cons pJ (.cons (MT zA) .nil);refine b9 e a v (g.aL 1 (λd=>d<=c b.2/\∀j,j<d->ig h b j=l) (λd:Nat=>[(0,R h),(3,aH 0 0),(10,bG.R b.2),(11,R (c b.2)),(12,R d)]) (λ_=>[.cells 99 [.c (.int .i64 b.1),.c (lm b)]]) (λd=>c b.2-d) 0 a E a E a ⟨by omega,by omega⟩ ?_);rintro d ⟨w,s⟩;by_cases q:d<c b.2
 .cases m:right h (d8 b d)with
  |false=>
   have o:(iK h (d8 b d)).isSome=u:=by grind[BZ]
   refine a7 e [13,24,40] a du (g.aW (bX.zero a ?_));rw[Lf q (by simp only[ig,m,sw])];simp
  |true=>
   have o:(!(iK h (d8 b d)).isSome)=u:=by grind[BZ]
   by_cases z:d=0
   .subst z;refine a7 e [13,-24,-27,-40] a lF (g.aA 1 a E E ⟨by omega,λj k=>?_⟩ x);have:j=0:=x;subst this;simp only[ig,m,fx];rfl
   have K:((d:Int)-1).toNat=d-1:=x;cases r:decide ((d8 b (d-1)).1<(d8 b d).1)with
   |false=>
    refine a7 e [13,-24,27,38,40] a ?_ (g.aW (bX.zero a ?_))
    .have B:(b.2.getD ((d:Int)-1).toNat bG.C).1=(d8 b (d-1)).1:=bD;refine⟨a,fo ?_,by omega,by omega,by exact bD,fo x,o,i,by omega,by omega,fo x⟩;rw[B];show(d8 b d).1<=_;grind
    rw[Lf q (by simp[ig,m,r,fx,Bool.or_false];grind)];simp
   |true=>
    refine a7 e [13,-24,27,-38,-40] a ?_ (g.aA (d+1) a ?_ ?_ ⟨by omega,λj k=>?_⟩ x)
    .have B:(b.2.getD ((d:Int)-1).toNat bG.C).1=(d8 b (d-1)).1:=bD;refine⟨by exact bD,a,k2 ?_,by omega,by omega,by exact bD,fo x,o,i,by omega,by omega,fo x⟩;rw[B];show¬(d8 b d).1<=_;grind
    .simp
    .simp
    rcases wX.1 k with k|rfl
    .grind
    simp only[ig,m,r,fx,Bool.or_true]
 have t:d=c b.2:=x;subst t;refine a7 e [-13] a E (g.aB ?_);have y:(aA (c b.2)).all (ig h b)=l:=aY.2 λj k=>s j (rj.1 k);rw[DV,y,i];by_cases I:1<=b.1
 .by_cases J:b.1<=99
  .by_cases M:1<=c b.2
   .by_cases D:c b.2<=4
    .refine a7 e [43,47,52,58,64] a bD (g.aw a ?_);exact bu
    refine a7 e [43,47,52,58,-64] a bD (g.aw a ?_);exact bu
   refine a7 e [43,47,52,-58] a du (g.aw a ?_);exact bu
  refine a7 e [43,47,-52] a du (g.aw a ?_);exact bu
 refine a7 e [43,-47] a du (g.aw a ?_);exact bu
def BK:bJ:=ev c6 (jC bG) (λa b=>bi (ib a b)) λa b=>[cA a=l,c b.2<=4000000]
def MZ:bK p 163 BK:=.bk λb d a=>WU b d a.1 a.2
def IR(d)(h:c d<=4000000):X p 133 [a1.R d] [] (cD 0 (.R (c d) 2 0 (c d))) [.p 48 2 (c d) (a1.fn d)]:=by
 refine X.I func133 rfl λi=>?_;refine aZ a v (g.eu bb a a a a a a λb e=>?_);cases b with
 |true=>
  obtain rfl:=jD (e rfl);refine aZ a v (g.e9 2 48 2 (a1.fn []) a ?_);exact FE
 |false=>
  refine gV [] 7 a v (g.dI 5 48 2 (a1.fn []) a ?_);refine aZ a ⟨a,a,show(0+c d)*16<=_ by omega⟩ (g.bf [.p 48 2 (c d) (a1.fn d)] a ?_ ?_)
  .simp[bs,cg]
  exact FM
def IT(d)(e:c d<=4000000):X p 133 [a1.R d] [] (a1.R d) []:=by
 refine X.I func133 rfl λh=>?_;refine aZ a v (g.eu bb a a a a a a λb w=>?_);cases b with
 |true=>
  exact Fp
 |false=>
  exact aZ a ⟨show(0+c d)*16<=_ by omega,.inl a⟩ Fq
def Ug(d)(e:c d<=4000000):X p 179 [bG.R d] [] (bG.R d) []:=by
 refine X.I func179 rfl λh=>?_;refine aZ a v (g.eu bb a a a a a a λb w=>?_);cases b with
 |true=>
  exact Fp
 |false=>
  exact aZ a ⟨show(0+c d)*24<=_ by omega,.inl a⟩ Fq
def Cs(d)(e:c d<=4000000):X p 50 [aC.R d] [] (aC.R d) []:=by
 refine X.I func50 rfl λh=>?_;refine aZ a v (g.eu bb a a a a a a λb w=>?_);cases b with
 |true=>
  exact Fp
 |false=>
  exact aZ a ⟨show(0+c d)*8<=_ by omega,.inl a⟩ Fq
def _root_.Go.AM.c1.cV(a:c1 α)(d)(i:e<c d)(b):bs (e+1) (cg e (a.fn (d.take e)) (λg=>[a.a3 (d.getD e b)].getD g [])) (a.fn (d.take (e+1))):=by
 have h:d.take (e+1)=d.take e++[d.getD e b]:=by grind[List.take_add_one]
 have:=a.aX (d.take e) (d.getD e b);grind
abbrev Hg:bJ:=df (e' bG) (λa=>bG.R a) λa=>[c a<=4000000]
def acV:bK p 179 Hg:=.a9 λb a=>Ug b a
abbrev Hh:bJ:=df (e' aC) (λa=>aC.R a) λa=>[c a<=4000000]
def acW:bK p 50 Hh:=.a9 λb a=>Cs b a
def WP(b)(d:c b.2<=4000000):X p 131 [fL b] [] (fL b) []:=by
 refine X.bc bb func131 rfl rfl rfl λi=>?_;have e:a9 p [(179,Hg)]:=.cons acV .nil;refine b9 e a ?_ ?_
 .simp only[T,bG.l];exact⟨bG.T _,d⟩
 refine g.bh () [] ?_ (λj h=>absurd h E);simp[bG.l]
abbrev xG:bJ:=df (jC bG) (λa=>fL a) λa=>[c a.2<=4000000]
def EP:bK p 131 xG:=.a9 λb a=>WP b a
def Xw(b)(w:c b.2<=4000000)(k:∀r∈b.2,c r.2<=4000000):X p 132 [iQ b] [] (iQ b) []:=by
 refine X.bc bb func132 rfl rfl rfl λt=>?_;have e:a9 p [(50,Hh)]:=.cons acW .nil;refine a7 e [902] a v (g.ck 2 1 155 2 (cu.fn []) a a ?_);refine b9 e a v ?_;refine g.aL 4 (λd=>d<=c b.2) (λd:Nat=>[(2,aH 1 0),(3,aH 2 0),(10,cu.R b.2),(11,R (c b.2)),(12,R d)])
  (λd=>[.cells 114 [.c (.int .i64 b.1),.c (.R u 2 (c b.2) (cu.fn b.2))],.cells 114 [.c (.int .i64 0),.c (.R l 0 0 λ_=>[])],.cells 114 [.c (.int .i64 b.1),.w 3 2 d (cu.fn (b.2.take d))],.w 155 2 d (cu.fn (b.2.take d))]) (λd=>c b.2-d) 0 a ?_ a ?_ a x ?_
 .simp
 .simp
 intro d o;by_cases m:d<c b.2
 .have B:b.2.getD d ([],[])∈b.2:=N;refine a7 e [13] a ?_ (g.aA (d+1) a ?_ ?_ ?_ ?_)
  .have q:=k _ B;have h:b.2.getD (d:Int).toNat cu.C=b.2.getD d ([],[]):=N;simp only[T,h,aC.l,a8];exact⟨by omega,v,v,show(d+1)*40<=_ by omega,aC.T _,q,by omega,by omega,fo x⟩
  .simp
  .have h:b.2.getD (d:Int).toNat cu.C=b.2.getD d ([],[]):=N;have i:=cu.cV b.2 m ([],[]);simp only[T.X,T,h,aC.l,a_,a'];exact⟨bs.same,bs.same,i,i⟩
  .grind
  omega
 obtain rfl:d=c b.2:=x;refine a7 e [-13] a E (g.aB ?_);refine b9 e a v (g.bh () [] ?_ (λs j=>absurd j E));simp
abbrev xH:bJ:=df (jC cu) (λa=>iQ a) λa=>[c a.2<=4000000,∀b∈a.2,c b.2<=4000000]
def EQ:bK p 132 xH:=.a9 λb a=>Xw b a.1 a.2
abbrev cF:Q:=.c (.R l 0 0 λ_=>[])
def pb(b)(q:c b.1<=4000000)(B:∀m∈b.1,c m.2<=4000000)(t:c b.2.1<=4000000)(K:kr b)(k:c b.2.2<=4000000):
  X p 87 [bY b] [] (.n (.agg [.K 0 (.R (c b.1) 2 0 (c b.1)),.K 1 (.R (c b.2.1) 2 0 (c b.2.1)),.c (.R u 2 (c b.2.2) (a1.fn b.2.2))])) [.p 99 2 (c b.1) (a3.fn b.1),.p 114 2 (c b.2.1) (bh.fn b.2.1)]:=by
 refine X.bc bb func87 rfl rfl rfl λr=>?_;have d:a9 p [(131,xG),(132,xH)]:=.cons EP (.cons EQ .nil);refine a7 d [902] a v (g.ep 2 0 99 2 (a3.fn []) a a ?_);refine g.ep 2 1 114 2 (bh.fn []) a a ?_;refine b9 d a v ?_;refine g.aL 5 (λe=>e<=c b.1) (λe:Nat=>[(1,aH 0 0),(2,aH 1 0),(3,aH 2 0),(9,a3.R b.1),(10,R (c b.1)),(11,R e)])
  (λe=>[.cells 27 [.c (.R u 2 (c b.1) (a3.fn b.1)),.c (.R u 2 (c b.2.1) (bh.fn b.2.1)),.c (.R u 2 (c b.2.2) (a1.fn b.2.2))],.cells 27 [cF,cF,cF],.cells 27 [.K 3 (.R e 2 0 e),.K 4 (.R 0 2 0 0),cF],.p 99 2 e (a3.fn (b.1.take e)),.p 114 2 0 (bh.fn [])]) (λe=>c b.1-e) 0 a ?_ a ?_ a x ?_
 .simp
 .simp
 intro e h;by_cases s:e<c b.1
 .have al:b.1.getD e (0,[])∈b.1:=N;have i:b.1.getD (e:Int).toNat a3.C=b.1.getD e (0,[]):=N;refine a7 d [12] a PA (g.aA (e+1) a E Qf N ?_);omega
 obtain rfl:e=c b.1:=x;rw[c9];refine a7 d [-12] a E (g.aB ?_);refine b9 d a v ?_;refine g.aL 5 (λe=>e<=c b.2.1) (λe:Nat=>[(1,aH 0 0),(2,aH 1 0),(3,aH 2 0),(24,bh.R b.2.1),(25,R (c b.2.1)),(26,R e)])
  (λe=>[.cells 27 [.c (.R u 2 (c b.1) (a3.fn b.1)),.c (.R u 2 (c b.2.1) (bh.fn b.2.1)),.c (.R u 2 (c b.2.2) (a1.fn b.2.2))],.cells 27 [cF,cF,cF],.cells 27 [.K 3 (.R (c b.1) 2 0 (c b.1)),.K 4 (.R e 2 0 e),cF],.p 99 2 (c b.1) (a3.fn b.1),.p 114 2 e (bh.fn (b.2.1.take e))]) (λe=>c b.2.1-e) 0 a ?_ a ?_ a x ?_
 .simp
 .simp
 intro e h;by_cases s:e<c b.2.1
 .have al:b.2.1.getD e (0,[])∈b.2.1:=N;have i:b.2.1.getD (e:Int).toNat bh.C=b.2.1.getD e (0,[]):=N;refine a7 d [27] a Ol (g.aA (e+1) a E FL N ?_);omega
 obtain rfl:e=c b.2.1:=x;rw[c9];refine a7 d [-27] a E (g.aB ?_);refine b9 d a v (g.aC (IT b.2.2 k) [] a (b9 d a v (g.bh () [3,4] ?_ (λo j=>absurd j E))));simp
def Js(b)(q:c b.1<=4000000)(B:∀m∈b.1,c m.2<=4000000)(t:c b.2.1<=4000000)(K:kr b)(k:c b.2.2<=4000000):
  X p 87 [bY b] [] (.n (.agg [.K 0 (.R (c b.1) 2 0 (c b.1)),.K 1 (.R (c b.2.1) 2 0 (c b.2.1)),.K 2 (.R (c b.2.2) 2 0 (c b.2.2))])) [.p 99 2 (c b.1) (a3.fn b.1),.p 114 2 (c b.2.1) (bh.fn b.2.1),.p 48 2 (c b.2.2) (a1.fn b.2.2)]:=by
 refine X.bc bb func87 rfl rfl rfl λr=>?_;have d:a9 p [(131,xG),(132,xH)]:=.cons EP (.cons EQ .nil);refine a7 d [902] a v (g.ep 2 0 99 2 (a3.fn []) a a ?_);refine g.ep 2 1 114 2 (bh.fn []) a a ?_;refine b9 d a v ?_;refine g.aL 5 (λe=>e<=c b.1) (λe:Nat=>[(1,aH 0 0),(2,aH 1 0),(3,aH 2 0),(9,a3.R b.1),(10,R (c b.1)),(11,R e)])
  (λe=>[.cells 27 [.c (.R u 2 (c b.1) (a3.fn b.1)),.c (.R u 2 (c b.2.1) (bh.fn b.2.1)),.c (.R u 2 (c b.2.2) (a1.fn b.2.2))],.cells 27 [cF,cF,cF],.cells 27 [.K 3 (.R e 2 0 e),.K 4 (.R 0 2 0 0),cF],.p 99 2 e (a3.fn (b.1.take e)),.p 114 2 0 (bh.fn [])]) (λe=>c b.1-e) 0 a ?_ a ?_ a x ?_
 .simp
 .simp
 intro e h;by_cases s:e<c b.1
 .have al:b.1.getD e (0,[])∈b.1:=N;have i:b.1.getD (e:Int).toNat a3.C=b.1.getD e (0,[]):=N;refine a7 d [12] a PA (g.aA (e+1) a E Qf N ?_);omega
 obtain rfl:e=c b.1:=x;rw[c9];refine a7 d [-12] a E (g.aB ?_);refine b9 d a v ?_;refine g.aL 5 (λe=>e<=c b.2.1) (λe:Nat=>[(1,aH 0 0),(2,aH 1 0),(3,aH 2 0),(24,bh.R b.2.1),(25,R (c b.2.1)),(26,R e)])
  (λe=>[.cells 27 [.c (.R u 2 (c b.1) (a3.fn b.1)),.c (.R u 2 (c b.2.1) (bh.fn b.2.1)),.c (.R u 2 (c b.2.2) (a1.fn b.2.2))],.cells 27 [cF,cF,cF],.cells 27 [.K 3 (.R (c b.1) 2 0 (c b.1)),.K 4 (.R e 2 0 e),cF],.p 99 2 (c b.1) (a3.fn b.1),.p 114 2 e (bh.fn (b.2.1.take e))]) (λe=>c b.2.1-e) 0 a ?_ a ?_ a x ?_
 .simp
 .simp
 intro e h;by_cases s:e<c b.2.1
 .have al:b.2.1.getD e (0,[])∈b.2.1:=N;have i:b.2.1.getD (e:Int).toNat bh.C=b.2.1.getD e (0,[]):=N;refine a7 d [27] a Ol (g.aA (e+1) a E FL N ?_);omega
 obtain rfl:e=c b.2.1:=x;rw[c9];refine a7 d [-27] a E (g.aB ?_);refine b9 d a v (g.aC (IR b.2.2 k) [] a (b9 d a v (g.bh () [3,4,5] ?_ (λo j=>absurd j E))));simp
def gS(d:α->Bool)(b:m α):Int:=match b.findIdx? d with|some a=>a|none=>-1
def s5{a:α->Bool}{o}{K}(d:e<c o)(h:a (o.getD e K)=l)(g:∀b,b<e->a (o.getD b K)=u):gS a o=e:=by
 have:o.findIdx? a=f e:=by grind[List.findIdx?_eq_some_iff_getElem]
 rw[gS,this]
def s6{a:α->Bool}{o}{K}(d:∀b,b<c o->a (o.getD b K)=u):gS a o=-1:=by have:o.findIdx? a=n:=wG;rw[gS,this]
def Vk(d)(y:c d<=4000000)(i)(ah)(b:cb->Bool)(o:∀k,k∈d->X p i [fL k,ax (.M ah)] [] (bi (b k)) []):
  X p 122 [cD 0 (.R (c d) 2 0 (c d)),ax (.fn (.func i) [] [.M ah])] [.p 99 2 (c d) (a3.fn d)] (R (gS b d)) [.p 99 2 (c d) (a3.fn d)]:=by
 refine X.I func122 rfl λr=>?_;refine aZ a v (g.aL 1 (λe=>e<=c d/\∀t,t<e->b (d.getD t (0,[]))=u) (λe:Nat=>[(0,cD 0 (.R (c d) 2 0 (c d))),(1,ax (.fn (.func i) [] [.M ah])),(7,R (c d)),(8,R e)]) (λ_=>[.p 99 2 (c d) (a3.fn d)]) (λe=>c d-e) 0 a E a E a ⟨by omega,by omega⟩ ?_);rintro e ⟨q,w⟩;by_cases s:e<c d
 .have h:d.getD e (0,[])∈d:=N;have m:d.getD ((0+(e:Int).toNat:Nat)) a3.C=d.getD e (0,[]):=nO;refine a6 [9] a bu ?_;rw[m];refine g.aC (o _ h) [] a ?_;cases B:b (d.getD e (0,[]))with
  |true=>
   exact Oh
  |false=>
   exact z3
 exact Qu
def Vn(d)(y:c d<=4000000)(i)(ah)(b:ef->Bool)(o:∀k,k∈d->X p i [iQ k,ax (.M ah)] [] (bi (b k)) []):
  X p 106 [cD 0 (.R (c d) 2 0 (c d)),ax (.fn (.func i) [] [.M ah])] [.p 114 2 (c d) (bh.fn d)] (R (gS b d)) [.p 114 2 (c d) (bh.fn d)]:=by
 refine X.I func106 rfl λr=>?_;refine aZ a v (g.aL 1 (λe=>e<=c d/\∀t,t<e->b (d.getD t (0,[]))=u) (λe:Nat=>[(0,cD 0 (.R (c d) 2 0 (c d))),(1,ax (.fn (.func i) [] [.M ah])),(7,R (c d)),(8,R e)]) (λ_=>[.p 114 2 (c d) (bh.fn d)]) (λe=>c d-e) 0 a E a E a ⟨by omega,by omega⟩ ?_);rintro e ⟨q,w⟩;by_cases s:e<c d
 .have h:d.getD e (0,[])∈d:=N;have m:d.getD ((0+(e:Int).toNat:Nat)) bh.C=d.getD e (0,[]):=nO;refine a6 [9] a bu ?_;rw[m];refine g.aC (o _ h) [] a ?_;cases B:b (d.getD e (0,[]))with
  |true=>
   exact Oh
  |false=>
   exact z3
 exact Qu
def Ve(d)(z:c d<=4000000)(i)(ah)(j:(Int×Int)->Bool)(q:∀k,k∈d->X p i [.n (.agg [.c (.int .i64 k.1),.c (.int .i64 k.2)]),ax (.M ah)] [] (bi (j k)) []):
  X p 186 [a1.R d,ax (.fn (.func i) [] [.M ah])] [] (R (gS j d)) []:=by
 refine X.I func186 rfl λw=>?_;refine aZ a v (g.aL 0 (λe=>e<=c d/\∀b,b<e->j (d.getD b (0,0))=u) (λe:Nat=>[(0,a1.R d),(1,ax (.fn (.func i) [] [.M ah])),(7,R (c d)),(8,R e)]) (λ_=>[]) (λe=>c d-e) 0 a E a E a ⟨by omega,by omega⟩ ?_);rintro e ⟨t,m⟩;by_cases s:e<c d
 .have h:d.getD e (0,0)∈d:=N;have o:d.getD (((e:Int).toNat)) a1.C=d.getD e (0,0):=nO;refine a6 [9] a bu ?_;rw[o];refine g.aC (q _ h) [] a ?_;cases r:j (d.getD e (0,0))with
  |true=>
   refine a6 [16] a E (g.aW (bX.mk [] a ?_ a a a fy));simp[s5 s r m]
  |false=>
   exact z3
 refine a6 [-9] a bT (g.aB ?_);refine aZ a v (g.aQ [] a ?_ fy);simp[s6 (λb y=>m b x)]
def yA(b:α->Bool)(d):(gS b d=-1/\∀a∈d,b a=u)∨∃e:Nat,e<c d/\gS b d=e/\(∀a∈d.take e,b a=u)/\(∀a,d[e]?=f a->b a=l):=by unfold gS;grind[List.findIdx?_eq_some_iff_getElem,List.getElem_of_mem]
def NL{e7 bp}{b}(a:¬(e7<=t/\t<bp)):nM e7 bp b U t=U t:=bl a
theorem ih{a:m α}(d:e<c a)(b:α):a.take (e+1)=a.take e++[a.getD e b]:=by grind[List.take_add_one]
def JH{d}{b:α->Bool}(g:e<c d)(h:∀a∈d.take e,b a=u)(i:∀a,d[e]?=f a->b a=l):(d.take (e+1)).filter (λa=>!b a)=d.take e:=by grind[List.take_add_one,List.filter_eq_self]
def _root_.Go.AM.c1.cU(a:c1 α)(d)(e)(b)(j)(g:j<=c d):bs j (ln e (a.a3 b) (a.fn d)) (a.fn (d.set e b)):=by intro i h;simp only[ln,c1.fn,gG];grind
structure RO(d:m cb)(bd:cb->Bool)(t:Nat)(nK:m cb):Prop where
 fD:t<=c d
 len:c nK=c d
 done:nK.take (c ((d.take t).filter λC=>!bd C))=(d.take t).filter λC=>!bd C
 hN:∀e,t<=e->nK[e]?=d[e]?
def UG(d)(y:c d<=4000000)(i)(ah)(bd:cb->Bool)(o:∀C,C∈d->X p i [fL C,ax (.M ah)] [] (bi (bd C)) []):
  bk (ι:={k:Nat->m O // ∀e,e<c (d.filter λC=>!bd C)->k e=a3.fn (d.filter λC=>!bd C) e}) p 150 [cD 0 (.R (c d) 2 0 (c d)),ax (.fn (.func i) [] [.M ah])] [.p 99 2 (c d) (a3.fn d)]
   (λ_=>cD 0 (.R (c d) 2 0 (c (d.filter λC=>!bd C)))) (λk=>[.p 99 2 (c d) k.1]):=by
 refine bk.cv func150 rfl rfl rfl λF=>?_;refine aZ a v (g.aC (Vk d y i ah bd o) [0] a ?_);rcases yA bd d with⟨j,z⟩|⟨i0,B,j,z,aa⟩
 .rw[j];have A:d.filter (λC=>!bd C)=d:=sj.2 λC q=>by grind
  refine a6 [12] a E (g.bG ⟨a3.fn d,λe _=>by grind⟩ (g.aQ [0] a ?_ h9));simp[A]
 rw[j];refine a6 [-12] a oQ ?_;refine g.aL 1 (λb:Nat×m cb=>RO d bd b.1 b.2) (λb=>[(0,cD 0 (.R (c d) 2 0 (c d))),(1,ax (.fn (.func i) [] [.M ah])),(5,R (c ((d.take b.1).filter λC=>!bd C))),(6,R b.1)])
  (λb=>[.p 99 2 (c d) (a3.fn b.2)]) (λb=>c d-b.1) (i0+1,d) a ?_ a ?_ a ?_ ?_
 .exact P2
 .simp
 .exact Rb
 rintro⟨t,K⟩ ⟨r,ba,S,bz⟩;simp only at r ba S bz;by_cases I:t<c d
 .have q:d.getD t (0,[])∈d:=N;have s:c ((d.take t).filter λC=>!bd C)<=t:=fR (kA _ _) N;have D:K.getD (0+(t:Int).toNat) a3.C=d.getD t (0,[]):=N;refine a6 [19] a pQ ?_;rw[D];refine g.aC (o _ q) [] a ?_;cases J:bd (d.getD t (0,[]))with
  |false=>
   have h:(d.take (t+1)).filter (λC=>!bd C)=(d.take t).filter (λC=>!bd C)++[d.getD t (0,[])]:=ii;refine a6 [29] a ?_ (g.aA (t+1,K.set (c ((d.take t).filter λC=>!bd C)) (d.getD t (0,[]))) a ?_ ?_ ?_ ?_)
   .simp only[T,a8];grind
   .simp[h]
   .have aj:=a3.cU K (c ((d.take t).filter λC=>!bd C)) (d.getD t (0,[])) (c d) x;exact OL
   .refine⟨by grind,by grind,OS,λe bp=>?_⟩;grind
   grind
  |true=>
   have h:(d.take (t+1)).filter (λC=>!bd C)=(d.take t).filter (λC=>!bd C):=ii;refine a6 [-29] a oQ (g.aA (t+1,K) a ?_ ?_ ?_ ?_)
   .simp[h]
   .simp
   .exact Qq
   grind
 obtain rfl:t=c d:=x;rw[c9]at S⊢;have s:c (d.filter λC=>!bd C)<=c d:=kA _ _;refine a6 [-19] a E (g.aB ?_);refine aZ a pQ (g.aN (a0.eZ bb a a a a a a wF) a a ?_);refine aZ a pQ (g.bG ⟨nM (0+bV 0 (f (c (d.filter λC=>!bd C):Int))) (0+bV 0 (f (c (d.filter λC=>!bd C):Int))+(bV (c d) n-bV 0 (f (c (d.filter λC=>!bd C):Int)))) nt.zero (a3.fn K),λe bp=>PO⟩ (g.aQ [0] a ?_ h9));simp[bV];rfl
structure RP(d:m ef)(bd:ef->Bool)(t:Nat)(nK:m ef):Prop where
 fD:t<=c d
 len:c nK=c d
 done:nK.take (c ((d.take t).filter λC=>!bd C))=(d.take t).filter λC=>!bd C
 hN:∀e,t<=e->nK[e]?=d[e]?
def I1(d)(y:c d<=4000000)(i)(ah)(bd:ef->Bool)(o:∀C,C∈d->X p i [iQ C,ax (.M ah)] [] (bi (bd C)) []):
  bk (ι:={k:Nat->m O // ∀e,e<c (d.filter λC=>!bd C)->k e=bh.fn (d.filter λC=>!bd C) e}) p 88 [cD 0 (.R (c d) 2 0 (c d)),ax (.fn (.func i) [] [.M ah])] [.p 114 2 (c d) (bh.fn d)]
   (λ_=>cD 0 (.R (c d) 2 0 (c (d.filter λC=>!bd C)))) (λk=>[.p 114 2 (c d) k.1]):=by
 refine bk.cv func88 rfl rfl rfl λF=>?_;refine aZ a v (g.aC (Vn d y i ah bd o) [0] a ?_);rcases yA bd d with⟨j,z⟩|⟨i0,B,j,z,aa⟩
 .rw[j];have A:d.filter (λC=>!bd C)=d:=sj.2 λC q=>by grind
  refine a6 [12] a E (g.bG ⟨bh.fn d,λe _=>by grind⟩ (g.aQ [0] a ?_ h9));simp[A]
 rw[j];refine a6 [-12] a oQ ?_;refine g.aL 1 (λb:Nat×m ef=>RP d bd b.1 b.2) (λb=>[(0,cD 0 (.R (c d) 2 0 (c d))),(1,ax (.fn (.func i) [] [.M ah])),(5,R (c ((d.take b.1).filter λC=>!bd C))),(6,R b.1)])
  (λb=>[.p 114 2 (c d) (bh.fn b.2)]) (λb=>c d-b.1) (i0+1,d) a ?_ a ?_ a ?_ ?_
 .exact P2
 .simp
 .exact Rb
 rintro⟨t,K⟩ ⟨r,ba,S,bz⟩;simp only at r ba S bz;by_cases I:t<c d
 .have q:d.getD t (0,[])∈d:=N;have s:c ((d.take t).filter λC=>!bd C)<=t:=fR (kA _ _) N;have D:K.getD (0+(t:Int).toNat) bh.C=d.getD t (0,[]):=N;refine a6 [19] a pQ ?_;rw[D];refine g.aC (o _ q) [] a ?_;cases J:bd (d.getD t (0,[]))with
  |false=>
   have h:(d.take (t+1)).filter (λC=>!bd C)=(d.take t).filter (λC=>!bd C)++[d.getD t (0,[])]:=ii;refine a6 [29] a ?_ (g.aA (t+1,K.set (c ((d.take t).filter λC=>!bd C)) (d.getD t (0,[]))) a ?_ ?_ ?_ ?_)
   .simp only[T,a8];grind
   .simp[h]
   .have aj:=bh.cU K (c ((d.take t).filter λC=>!bd C)) (d.getD t (0,[])) (c d) x;exact OL
   .refine⟨by grind,by grind,OS,λe bp=>?_⟩;grind
   grind
  |true=>
   have h:(d.take (t+1)).filter (λC=>!bd C)=(d.take t).filter (λC=>!bd C):=ii;refine a6 [-29] a oQ (g.aA (t+1,K) a ?_ ?_ ?_ ?_)
   .simp[h]
   .simp
   .exact Qq
   grind
 obtain rfl:t=c d:=x;rw[c9]at S⊢;have s:c (d.filter λC=>!bd C)<=c d:=kA _ _;refine a6 [-19] a E (g.aB ?_);refine aZ a pQ (g.aN (a0.eZ bb a a a a a a wF) a a ?_);refine aZ a pQ (g.bG ⟨nM (0+bV 0 (f (c (d.filter λC=>!bd C):Int))) (0+bV 0 (f (c (d.filter λC=>!bd C):Int))+(bV (c d) n-bV 0 (f (c (d.filter λC=>!bd C):Int)))) rI.zero (bh.fn K),λe bp=>PO⟩ (g.aQ [0] a ?_ h9));simp[bV];rfl
abbrev dO:=Int×Int×Int×bC
abbrev lW(a:dO):m O:=[.int .i64 a.1,.int .i64 a.2.1,.int .i64 a.2.2.1,.V a.2.2.2]
abbrev vu(a:dO):m Q:=[.c (.int .i64 a.1),.c (.int .i64 a.2.1),.c (.int .i64 a.2.2.1),.c (.V a.2.2.2)]
abbrev ep(a:dO):y:=.n (.agg (vu a))
abbrev iO(a:m O):y:=ax (.M a)
def VH(b)(d):X p 151 [fL b,iO (lW d)] [] (bi (b.1==d.2.1)) []:=by refine X.I func151 rfl λe=>?_;exact aZ a v (g.aw a)
def VI(d:Int×Int)(bL)(j)(b:Nat->m O):X p 154 [.n (.agg [.c (.int .i64 d.1),.c (.int .i64 d.2)]),iO [.int .i64 bL,.R u 2 j b]] [] (bi (d.2==bL)) []:=by refine X.I func154 rfl λe=>?_;exact aZ a v (g.aw a)
def Y6(a:α->Bool)(d):decide (gS a d≥0)=d.any a:=by
 rcases yA a d with⟨b,q⟩|⟨e,bp,b,_,i⟩
 .grind
 rw[b];symm;have:=i _ (bF bp);grind
def U8(d)(h:c d<=4000000)(bL)(j)(b:Nat->m O):X p 143 [a1.R d,ax (.fn (.func 154) [] [.M [.int .i64 bL,.R u 2 j b]])] [] (bi (d.any λe=>e.2==bL)) []:=by refine X.I func143 rfl λk=>?_;refine aZ a v ?_;refine g.aC (Ve d h 154 [.int .i64 bL,.R u 2 j b] (λe=>e.2==bL) λi _=>VI i bL j b) [] a ?_;refine aZ a v (g.aw a ?_);simp only[T];exact Y6 _ d
def Wo(d)(b)(e:c b<=4000000):X p 153 [iQ d,iO [.R u 2 (c b) (a1.fn b)]] [] (bi (b.any λh=>h.2==d.1)) []:=by refine X.I func153 rfl λi=>?_;refine a6 [901] a v ?_;refine g.freeze 2 0 a a a ?_;refine aZ a v ?_;refine g.aC (U8 b e d.1 (c d.2) (cu.fn d.2)) [] a ?_;exact aZ a v (g.aw a)
abbrev xU(a:Nat)(b:dO):y:=ax (.fn (.func a) [] [.M (lW b)])
def UB(d)(s:d.1=1):X p 109 [ep d] [] (xU 149 d) []:=by refine X.I func109 rfl λb=>?_;refine a6 [901] a v ?_;refine g.freeze 1 0 a a a ?_;exact a6 [5] a gY (g.aw a)
def IZ(d)(s:d.1=2):X p 109 [ep d] [] (xU 152 d) []:=by refine X.I func109 rfl λb=>?_;refine a6 [901] a v ?_;refine g.freeze 1 0 a a a ?_;exact a6 [-5,8] a gY (g.aw a)
def I0(d)(s:d.1=3):X p 109 [ep d] [] (xU 155 d) []:=by refine X.I func109 rfl λb=>?_;refine a6 [901] a v ?_;refine g.freeze 1 0 a a a ?_;exact a6 [-5,-8,11] a gY (g.aw a)
def UC(d)(s:d.1=4):X p 109 [ep d] [] (xU 156 d) []:=by refine X.I func109 rfl λb=>?_;refine a6 [901] a v ?_;refine g.freeze 1 0 a a a ?_;exact a6 [-5,-8,-11,14] a gY (g.aw a)
def UD(d)(h:d.1≠1)(b:d.1≠2)(i:d.1≠3)(e:d.1≠4):X p 109 [ep d] [] (ax (.fn (.func 157) [] [])) []:=by refine X.I func109 rfl λj=>?_;refine a6 [901] a v ?_;refine g.freeze 1 0 a a a ?_;exact a6 [-5,-8,-11,-14] a (by simp[h,b,i,e]) (g.aw a)
abbrev tx(a:m cb):O:=.R u 2 (c a) (a3.fn a)
abbrev tz(a:m ef):O:=.R u 2 (c a) (bh.fn a)
abbrev hZ(a:m (Int×Int)):O:=.R u 2 (c a) (a1.fn a)
abbrev tA(a:ce)(g:dO)(h:m an)(b d e:Q):m an:=[.cells 27 [.c (tx a.1),.c (tz a.2.1),.c (hZ a.2.2)],.cells 32 (vu g),.cells 27 [cF,cF,cF]]++h++[.cells 27 [b,d,e]]
abbrev dD(a d b:Nat):Q:=.K a (.R d 2 0 b)
def UI(b)(d)(k:c b.1<=4000000):
  bk (ι:={e:Nat->m O // ∀i,i<c (b.1.filter λh=>!(h.1==d.2.1))->e i=a3.fn (b.1.filter λh=>!(h.1==d.2.1)) i}) p 149 [aH 5 0,iO (lW d)]
   (tA b d [.p 99 2 (c b.1) (a3.fn b.1),.p 114 2 (c b.2.1) (bh.fn b.2.1)] (dD 3 (c b.1) (c b.1)) (dD 4 (c b.2.1) (c b.2.1)) (.c (hZ b.2.2)))
   (λ_=>.Q []) (λe=>tA b d [.p 99 2 (c b.1) e.1,.p 114 2 (c b.2.1) (bh.fn b.2.1)] (dD 3 (c b.1) (c (b.1.filter λh=>!(h.1==d.2.1)))) (dD 4 (c b.2.1) (c b.2.1)) (.c (hZ b.2.2))):=by refine bk.bO func149 rfl rfl rfl (g.aU ?_);refine aZ a v (g.a6 (UG b.1 k 151 (lW d) (λh=>h.1==d.2.1) λh _=>VH h d) [3] a bn ?_);rintro⟨e,j⟩;exact aZ a v ⟨⟨e,j⟩,.inr a,a,a,_,_,_,a,a,a,v⟩
def WK(k)(d:jQ k=l)(b):X p 157 [.n (.ar b)] k (.Q []) k:=by refine bk.toX (bk.bO (ι:=Unit) (res:=λ_=>.Q []) (aq:=λ_=>k) func157 rfl rfl rfl (g.aU ?_));refine aZ a v ?_;exact⟨(),.inr a,a,d,_,_,_,a,a,a,v⟩
abbrev mO(a:ce)(b:dO):m an:=tA a b [.p 99 2 (c a.1) (a3.fn a.1),.p 114 2 (c a.2.1) (bh.fn a.2.1)] (dD 3 (c a.1) (c a.1)) (dD 4 (c a.2.1) (c a.2.1)) (.c (hZ a.2.2))
def jr(d:Nat)(a:m (Int×Int))(e:ef):Bool:=(a.drop d).any λb=>b.2==e.1
def T0(b)(d:dO)(e:d.2.1<0∨d.2.1>c b.2.2):X p 152 [aH 5 0,iO (lW d)] (mO b d) (.Q []) (mO b d):=by
 refine bk.toX (bk.bO (ι:=Unit) (res:=λ_=>.Q []) (aq:=λ_=>mO b d) func152 rfl rfl rfl (g.aU ?_));by_cases w:d.2.1<0
 .exact a6 [7,16] a oT Ot
 exact a6 [-7,16] a bT Ot
def _root_.Go.AM.c1.hg(a:c1 α)(d)(j z):bs z (fF j (a.fn d)) (a.fn (d.drop j)):=λb _=>by simp[fF,c1.fn,gG,ak]
abbrev Iz:y:=aH 5 0
abbrev Ht(b:ce)(a:dO):O:=.R (xS u n) 2 (bV (c b.2.2) n-bV 0 (f a.2.1)) (fF (bV 0 (f a.2.1)) (a1.fn b.2.2))
def ns(b:ce)(a:dO)(d:Nat)(e:a.2.1=d)(g:d<=c b.2.2):T (jh (c b.2.2) (f a.2.1) n):=by show 0<=a.2.1/\a.2.1<=(c b.2.2:Int);omega
def T1(b:ce)(d:dO)(j:Nat)(i:d.2.1=j)(s:j<=c b.2.2)(t:c b.2.1<=4000000)(y:c b.2.2<=4000000):
  bk (ι:={e:Nat->m O // ∀h,h<c (b.2.1.filter λk=>!jr j b.2.2 k)->e h=bh.fn (b.2.1.filter λk=>!jr j b.2.2 k) h}) p 152 [aH 5 0,iO (lW d)] (mO b d) (λ_=>.Q [])
   (λe=>tA b d [.p 99 2 (c b.1) (a3.fn b.1),.p 114 2 (c b.2.1) e.1] (dD 3 (c b.1) (c b.1)) (dD 4 (c b.2.1) (c (b.2.1.filter λk=>!jr j b.2.2 k))) (.c (.R u 2 d.2.1.toNat (a1.fn b.2.2)))++[.J]):=by
 refine bk.bO func152 rfl rfl rfl (g.aU ?_);have q:d.2.1.toNat=j:=x;refine a6 [-7,-16,901] a pQ ?_;refine g.hO (ι:=Unit) b6 7 8 (λh=>ay h 6) (λh=>[Iz,Iz,aH 5 2,ax (hZ b.2.2),iO [.int .i64 d.2.1,.int .i64 d.2.2.1,.V d.2.2.2],R d.2.1,ax (Ht b d)].getD h .any) (λ_ h=>[.any,.any,.any,.any,.any,.any,.any,aH 6 0,.any].getD h .any)
  (λ_=>mO b d++[.cells 25 [cF]]) (λ_=>mO b d++[.cells 25 [.c (Ht b d)]]) a a a a a a a a a a
  ⟨aK.x,aK.x,aK.x,aK.x,aK.x,aK.x,?_,v,v,v⟩
  (λ_=>⟨aK.x,aK.x,aK.x,aK.x,aK.x,aK.x,?_,v,v⟩)
  (dA.dg (d_ (bg:=[]) bb a9.nil (aq:=f _) (cj:=[]) a v)) (λ_=>d_ (bg:=[]) bb a9.nil (aq:=f _) (cj:=[]) a v) λ_=>?_
 .exact QL
 .exact QL
 refine a6 [902] a v (g.bf (mO b d++[.cells 25 [.c (hZ (b.2.2.drop j))]]) a ?_ ?_)
 .have r:=a1.hg b.2.2 j (c b.2.2-j);have w:bV 0 (f d.2.1)=j:=q;simp only[T.X,T,w,a_,a',sm];exact⟨⟨bs.same,bs.same,bs.same⟩,⟨bs.same,bs.same,bs.same⟩,bs.same,bs.same,bs.same,a,r⟩
 refine g.freeze 3 6 a a a ?_;refine aZ a v (g.a6 (I1 b.2.1 t 153 [hZ (b.2.2.drop j)] (jr j b.2.2) λk _=>Wo k (b.2.2.drop j) bT) [4] a bn ?_);rintro⟨e,o⟩;exact aZ a ⟨show 0<=d.2.1 by omega,Int.le_refl _,show d.2.1<=(c b.2.2:Int) by omega⟩ ⟨⟨e,o⟩,.inr a,a,a,_,_,_,a,a,a,v⟩
abbrev oI(a:ce)(d:dO)(b:Nat->m O):m an:=tA a d [.p 99 2 (c a.1) (a3.fn a.1),.p 114 2 (c a.2.1) (bh.fn a.2.1),.p 48 2 (c a.2.2) b] (dD 3 (c a.1) (c a.1)) (dD 4 (c a.2.1) (c a.2.1)) (dD 5 (c a.2.2) (c a.2.2))
abbrev ym(b:ce)(a:dO):Nat->m O:=ln (0+a.2.1.toNat) [.int .i64 (3-(b.2.2.getD (0+a.2.1.toNat) a1.C).1),.int .i64 (b.2.2.getD (0+a.2.1.toNat) a1.C).2] (a1.fn b.2.2)
def US(b)(d:dO)(h:¬(0<=d.2.1/\d.2.1<c b.2.2)):X p 156 [aH 6 0,iO (lW d)] (oI b d (a1.fn b.2.2)) (.Q []) (oI b d (a1.fn b.2.2)):=by
 refine bk.toX (bk.bO (ι:=Unit) (res:=λ_=>.Q []) (aq:=λ_=>oI b d (a1.fn b.2.2)) func156 rfl rfl rfl (g.aU ?_));by_cases e:0<=d.2.1
 .exact a6 [6,-15] a (by simp[e];omega) OX
 exact a6 [-6,-15] a bT OX
abbrev x0:y:=aH 6 0
abbrev IA:y:=aH 6 2
abbrev Iv(a:ce):y:=.n (.ar (dD 5 (c a.2.2) (c a.2.2)))
abbrev xW(b:ce)(a:dO):y:=cD 5 (.bp (c b.2.2) 2 (0+a.2.1.toNat) 0)
abbrev Iy(a:dO):y:=iO [.int .i64 a.2.1,.int .i64 a.2.2.1,.V a.2.2.2]
abbrev lq(b:ce)(a:dO):Int:=(b.2.2.getD (0+a.2.1.toNat) a1.C).1
def UT(b)(d:dO)(k:0<=d.2.1)(j:d.2.1<c b.2.2)(i:a8 .i64 (3-lq b d)):X p 156 [aH 6 0,iO (lW d)] (oI b d (a1.fn b.2.2)) (.Q []) (oI b d (ym b d)):=by
 refine bk.toX (bk.bO (ι:=Unit) (res:=λ_=>.Q []) (aq:=λ_=>oI b d (ym b d)) func156 rfl rfl rfl (g.aU ?_));refine a6 [6,15,901] a pQ ?_;have cz:0<=d.2.1/\d.2.1<((c b.2.2:Nat):Int):=⟨k,j⟩;have h:c b.2.2=c b.2.2/\0+d.2.1.toNat<c b.2.2:=⟨rfl,by omega⟩
 refine g.hO (ι:=Unit) b6 0 18 (λe=>ay 4 e&&ay e 15) (λe=>[.any,.any,.any,.any,Iy d,R d.2.1,x0,x0,IA,Iv b,Iy d,R d.2.1,xW b d,xW b d,R (lq b d),R (3-lq b d)].getD e .any) (λ_ e=>[x0,x0,IA,Iv b,.any,.any,.any,.any,.any,.any,.any,.any,.any,.any,.any,.any,xW b d,xW b d,.any].getD e .any)
  (λ_=>oI b d (a1.fn b.2.2)) (λ_=>oI b d (ym b d)) a a a a a a a a a a
  ⟨v,v,v,v,aK.x,aK.x,aK.x,aK.x,aK.x,aK.x,aK.x,aK.x,?_,aK.x,?_,?_,v,v,v,v⟩
  (λ_=>⟨v,aK.x,aK.x,aK.x,aK.x,aK.x,aK.x,aK.x,aK.x,aK.x,aK.x,aK.x,?_,aK.x,?_,?_,?_,aK.x,v⟩)
  (dA.dg (aK.x)) (λ_=>?_) λ_=>?_
 .exact Fo
 .exact aK.eval (bg:=[]) bb a9.nil a h
 .exact aK.eval (bg:=[]) bb a9.nil a i
 .exact Fo
 .exact aK.eval (bg:=[]) bb a9.nil a h
 .exact aK.eval (bg:=[]) bb a9.nil a i
 .exact Fo
 .exact d_ (bg:=[]) bb a9.nil (aq:=f _) a h
 exact Re
def Vs(j e7 bp):X p 26 [R j,R e7,R bp] [] (bi (decide (e7<=j/\j<=bp))) []:=by
 refine X.I func26 rfl λd=>?_;by_cases b:e7<=j
 .by_cases q:j<=bp
  .refine a6 [10,14] a bT (g.aw a ?_);exact bu
  refine a6 [10,-14] a bT (g.aw a ?_);simp;omega
 refine a6 [-10,-14] a bT (g.aw a ?_);simp;omega
abbrev jK:bJ:=kb c6 c6 c6 (λd b a=>bi (decide (b<=d/\d<=a))) λ_ _ _=>[]
def ku:bK p 26 jK:=.c5 λd b a _=>Vs d b a
def Ue(b:Nat)(k:b<=4000000):X p 253 [R b] [] (R (fe b)) []:=by
 refine X.I func253 rfl λj=>?_;by_cases i:b<1
 .refine a6 [6,9] a bT (g.aw a ?_);have:fe b=0:=by simp[fe,i]
  simp[this]
 by_cases h:8<b
 .refine a6 [-6,9] a bT (g.aw a ?_);have:fe b=0:=by simp[fe,h]
  simp[this]
 by_cases d:b<=2
 .refine a6 [-6,-9,10] a bT (g.aw a ?_);have:fe b=2:=by simp only[fe,bl (show¬(b<1∨8<b) by omega),bo d]
  simp[this]
 by_cases e:b<=4
 .refine a6 [-6,-9,-10,13] a bT (g.aw a ?_);have:fe b=4:=by simp only[fe,bl (show¬(b<1∨8<b) by omega),bl d,bo e]
  simp[this]
 refine a6 [-6,-9,-10,-13] a bT (g.aw a ?_);have:fe b=8:=by simp only[fe,bl (show¬(b<1∨8<b) by omega),bl d,bl e]
 simp[this]
def Vr(d)(e)(o:c d<=4000000):X p 198 [bQ.R d,b3 e] [] (bi (d.contains e)) []:=by
 refine X.I func198 rfl λm=>?_;refine aZ a v (g.aL 0 (λb=>b<=c d/\∀i,i<b->d.getD i []≠e) (λb:Nat=>[(0,bQ.R d),(1,b3 e),(5,R b)]) (λ_=>[]) (λb=>c d-b) 0 a E a E a ⟨by omega,by omega⟩ ?_);rintro b ⟨j,k⟩;by_cases s:b<c d
 .have h:d.getD (b:Int).toNat bQ.C=d.getD b []:=N;by_cases q:d.getD b []=e
  .refine a6 [9,17] a ?_ (g.aW (bX.zero a ?_))
   .simp only[T,h];grind
   have:e∈d:=N;simp[this]
  refine a6 [9,-17] a ?_ (g.aA (b+1) a ?_ ?_ ?_ ?_)
  .simp only[T,h,a8];grind
  .simp
  .simp
  .grind
  omega
 refine a6 [-9] a bT (g.aB ?_);refine aZ a v (g.aw a ?_);have:¬e∈d:=λr=>by grind[List.getElem_of_mem]
 simp[this]
def Ui(b)(d:cC b=l):X p 226 [b3 b] [] (R (gk b)) []:=by
 refine X.I func226 rfl λo=>?_;have j:=d;simp[cC,cl,bw]at j;refine aZ a v (g.aL 0 (λe=>e<=c b) (λe:Nat=>[(0,b3 b),(3,R (gk (b.take e))),(4,R e)]) (λ_=>[]) (λe=>c b-e) 0 a (by simp[gk]) a E a x ?_);intro e i;by_cases k:e<c b
 .have B:=xL d i;have r:=xL d (e:=e+1) x;have q:=H4 k;have s:=qC j.2 (b.getD e 0) (C9 k);have m:97<=dq b e/\dq b e<=122:=E9;refine a6 [8] a ?_ (g.aA (e+1) a ?_ ?_ ?_ ?_)
  .simp only[T,ka,a8];grind
  .have h:(dq b e-97) % 256=dq b e-97:=Int.emod_eq_of_lt x x;exact bD
  .simp
  .grind
  grind
 obtain rfl:e=c b:=x;exact P0
def acY:bK p 226 (df eI (λa=>R (gk a)) λa=>[cC a=l]):=.a9 λa b=>Ui a b
def WB(h)(b)(d:cA h=l)(i:cC b=l):X p 183 [R h,b3 b] [] (R (dY h b)) []:=by
 refine X.I func183 rfl λq=>?_;have o:a9 p [(226,df eI (λb=>R (gk b)) λb=>[cC b=l])]:=.cons acY .nil;have e:=d;simp[cA,cl,bw]at e;have j:=xK i;refine b9 o a ?_ (g.aw a ?_)
 .have m:0<=gk b*(2*h+1):=Int.mul_nonneg j.1 x;have k:gk b*(2*h+1)<=282429536481*199:=Int.mul_le_mul x x x x;generalize gk b*(2*h+1)=r at m k;simp[T,a8];grind
 exact bD
def zz:bK p 183 (ev c6 eI (λa b=>R (dY a b)) λa b=>[cA a=l,cC b=l]):=.bk λa b d=>WB a b d.1 d.2
def UR(d)(j)(q:c d<=4000000):X p 197 [fb.R d,R j] [] (R (iS d j)) []:=by
 refine X.I func197 rfl λo=>?_;refine aZ a v (g.aL 0 (λb=>b<=c d/\∀i,i<b->(d.getD i (0,0)).1≠j) (λb:Nat=>[(0,fb.R d),(1,R j),(5,R b)]) (λ_=>[]) (λb=>c d-b) 0 a E a E a ⟨by omega,by omega⟩ ?_);rintro b ⟨k,m⟩;by_cases s:b<c d
 .have h:d.getD (b:Int).toNat fb.C=d.getD b (0,0):=N;by_cases r:(d.getD b (0,0)).1=j
  .refine a6 [9,18] a ?_ (g.aW (bX.zero a ?_))
   .simp only[T,h];grind
   have:iS d j=(d.getD b (0,0)).2:=by
    have:d.find? (λe=>e.1==j)=f (d.getD b (0,0)):=by grind[List.find?_eq_some_iff_getElem]
    rw[iS,this]
   simp_all
  refine a6 [9,-18] a ?_ (g.aA (b+1) a ?_ ?_ ?_ ?_)
  .simp only[T,h,a8];grind
  .simp
  .simp
  .grind
  omega
 refine a6 [-9] a bT (g.aB ?_);refine aZ a v (g.aw a ?_);have:iS d j=0:=by have:d.find? (λe=>e.1==j)=n:=wG;rw[iS,this]
 simp[this]
theorem H1(a:1<=j)(b:j<=8):j<=fe j/\fe j<=8:=F9
abbrev Hi:bJ:=df c6 (λa=>R (fe a.toNat)) λa=>[0<=a/\a<=4000000]
def acX:bK p 253 Hi:=.a9 λb d=>by
 obtain⟨a,rfl⟩:∃a:Nat,b=a:=⟨b.toNat,by exact lF⟩
 exact Ue a lF
def W1(b)(i:cC b=l):X p 202 [b3 b] [] (b3 (fN b)) []:=by
 refine X.I func202 rfl λk=>?_;have e:a9 p [(253,Hi)]:=.cons acX .nil;have h:=i;simp only[cC,cl,bw]at h;have o:=H1 h.1.1 h.1.2;refine b9 e a bu (g.aL 0 (λd=>c b+d<=fe (c b)) (λd:Nat=>[(0,b3 (b++aX d 46)),(3,R (fe (c b)))]) (λ_=>[]) (λd=>fe (c b)-d) 0 a E a E a x ?_);intro d m;by_cases q:c b+d<fe (c b)
 .refine a7 e [10] a bT (g.aA (d+1) a ?_ ?_ ?_ ?_)
  .simp[List.replicate_succ']
  .simp
  .grind
  grind
 have j:fe (c b)-c b=d:=x;refine a7 e [-10] a bT (g.aB ?_);refine b9 e a v (g.aw a ?_);simp[fN,i,j]
def XH(b):X p 199 [.n (.agg [.c (.int .i64 b.1),.c (.int .i64 b.2)])] [] (bi (fX b)) []:=by
 refine X.I func199 rfl λh=>?_;have e:a9 p [(26,jK)]:=.cons ku .nil;by_cases d:0<=b.1/\b.1<=999999999988
 .by_cases i:1<=b.2/\b.2<=99
  .refine a7 e [6,10] a (by simp[d,i]) (g.aw a ?_);have:fX b=l:=by simp[fX,d,i];omega
   simp[this]
  refine a7 e [6,-10] a (by simp[d,i]<;>omega) (g.aw a ?_);have:fX b=u:=by simp[fX,d];omega
  simp[this]
 refine a7 e [-6,-10] a bT (g.aw a ?_);have:fX b=u:=by simp[fX];omega
 simp[this]
abbrev HQ:bJ:=df p3 (λa=>bi (fX a)) λ_=>[]
def adE:bK p 199 HQ:=.a9 λa _=>XH a
def Kf{a:α->Bool}{d}(b:d.any a=l):0<=gS a d:=by unfold gS;grind
theorem Y7{a:α->Bool}{d}(b:d.any a=u):gS a d=-1:=by unfold gS;grind
def Vf(d)(i)(b:Int×Int->Bool)(q:∀h,h∈d->X p i [.n (.agg [.c (.int .i64 h.1),.c (.int .i64 h.2)])] [] (bi (b h)) []):
  X p 186 [a1.R d,ax (.fn (.func i) [] [])] [] (R (gS b d)) []:=by
 refine X.I func186 rfl λm=>?_;have y:=m.R 0 a;refine aZ a v (g.b7 (λe=>e<=c d/\∀t,t<e->b (d.getD t (0,0))=u) (λe:Nat=>[(0,a1.R d),(1,ax (.fn (.func i) [] [])),(7,R (c d)),(8,R e)]) (λ_=>[]) (λe=>c d-e) 0 a E a v ⟨by omega,by omega⟩ ?_);rintro e ⟨o,w⟩;by_cases s:e<c d
 .have j:d.getD e (0,0)∈d:=N;have k:d.getD (e:Int).toNat a1.C=d.getD e (0,0):=N;refine a6 [9] a bu ?_;rw[k];refine g.aC (q _ j) [] a ?_;cases z:b (d.getD e (0,0))with
  |true=>
   exact ON
  |false=>
   exact Ou
 exact P7
def U3(d)(h)(b:Int×Int->Bool)(i:∀e,e∈d->X p h [.n (.agg [.c (.int .i64 e.1),.c (.int .i64 e.2)])] [] (bi (b e)) []):
  X p 143 [a1.R d,ax (.fn (.func h) [] [])] [] (bi (d.any b)) []:=by
 refine X.I func143 rfl λj=>?_;refine aZ a v (g.aC (Vf d h b i) [] a ?_);cases s:d.any b with
 |true=>
  exact Ps
 |false=>
  exact Qv
def Vl(d)(i)(ah)(b:cb->Bool)(q:∀h,h∈d->X p i [fL h,ax (.M ah)] [] (bi (b h)) []):
  X p 122 [a3.R d,ax (.fn (.func i) [] [.M ah])] [] (R (gS b d)) []:=by
 refine X.I func122 rfl λm=>?_;have y:=m.R 0 a;refine aZ a v (g.b7 (λe=>e<=c d/\∀t,t<e->b (d.getD t (0,[]))=u) (λe:Nat=>[(0,a3.R d),(1,ax (.fn (.func i) [] [.M ah])),(7,R (c d)),(8,R e)]) (λ_=>[]) (λe=>c d-e) 0 a E a v ⟨by omega,by omega⟩ ?_);rintro e ⟨o,w⟩;by_cases s:e<c d
 .have j:d.getD e (0,[])∈d:=N;have k:d.getD (e:Int).toNat a3.C=d.getD e (0,[]):=N;refine a6 [9] a bu ?_;rw[k];refine g.aC (q _ j) [] a ?_;cases z:b (d.getD e (0,[]))with
  |true=>
   exact ON
  |false=>
   exact Ou
 exact P7
def U5(d)(e)(ah)(b:cb->Bool)(i:∀h,h∈d->X p e [fL h,ax (.M ah)] [] (bi (b h)) []):
  X p 77 [a3.R d,ax (.fn (.func e) [] [.M ah])] [] (bi (d.any b)) []:=by
 refine X.I func77 rfl λj=>?_;refine aZ a v (g.aC (Vl d e ah b i) [] a ?_);cases s:d.any b with
 |true=>
  exact Ps
 |false=>
  exact Qv
def Vj(d)(i)(ah)(H:Y->(Nat->Option Obj)->Prop)(h:Int->Bool)(t:∀k,k∈d->X p i [R k,ax (.M ah)] [.E H] (bi (h k)) [.E H]):
  X p 120 [aC.R d,ax (.fn (.func i) [] [.M ah])] [.E H] (R (gS h d)) [.E H]:=by
 refine X.I func120 rfl λq=>?_;have y:=q.R 0 a;refine aZ a v (g.aL 1 (λe=>e<=c d/\∀b,b<e->h (d.getD b 0)=u) (λe:Nat=>[(0,aC.R d),(1,ax (.fn (.func i) [] [.M ah])),(7,R (c d)),(8,R e)]) (λ_=>[.E H]) (λe=>c d-e) 0 a E a E a ⟨by omega,by omega⟩ ?_);rintro e ⟨s,m⟩;by_cases r:e<c d
 .have j:d.getD e 0∈d:=N;have o:d.getD (e:Int).toNat aC.C=d.getD e 0:=N;refine a6 [9] a bu ?_;rw[o];refine g.aC (t _ j) [0] a ?_;cases w:h (d.getD e 0)with
  |true=>
   refine a6 [16] a E (g.aW (bX.mk [0] a ?_ a a a h9));simp[s5 r w m]
  |false=>
   exact z3
 refine a6 [-9] a bT (g.aB ?_);refine aZ a v (g.aQ [0] a ?_ h9);simp[s6 (λb z=>m b x)]
def U4(d)(e)(ah)(H:Y->(Nat->Option Obj)->Prop)(b:Int->Bool)(i:∀h,h∈d->X p e [R h,ax (.M ah)] [.E H] (bi (b h)) [.E H]):
  X p 74 [aC.R d,ax (.fn (.func e) [] [.M ah])] [.E H] (bi (d.any b)) [.E H]:=by
 refine X.I func74 rfl λk=>?_;refine aZ a v (g.aC (Vj d e ah H b i) [0] a ?_);cases j:d.any b with
 |true=>
  refine a6 [8] a (fo (Kf j)) (g.aQ [0] a ?_ h9);simp
 |false=>
  refine a6 [-8] a (k2 N4) (g.aQ [0] a ?_ h9);simp
def GL{b d:ae}(e:r.op=.call {callee:=.builtin .append,args:=#[b,d],argTypes:=#[97,97]}):j0 V r b d 139 mz:=
 ⟨⟨97,97,Dg,Dg,e,(bb _ _ a),rfl,(bb _ _ a),rfl⟩,(bb _ _ a),by decide,by decide⟩
def Hr(d)(j):∀a,a<j->∀e∈bG.fn d a,nm e=l:=by
 intro a _ e b;have:bG.fn d a=[.int .i64 (d.getD a bG.C).1,.V (d.getD a bG.C).2]:=rfl;rw[this]at b;rcases fa.1 b with rfl|b
 .rfl
 rcases fa.1 b with rfl|b
 .rfl
 grind
abbrev pX(a:m cZ):Type:={b:fu×m Y // ej 2 (c a) (bG.fn a) b.2}
abbrev tk(d)(a:pX d):an:=.E (cp 139 2 a.1.1 (c d) a.1.2)
abbrev rW(d)(a:pX d):O:=.val (c0 a.1.1 (c d))
def Uh(d)(i:0<c d)(k:c d<=4000000):bk (ι:=pX d) p 179 [bG.R d] [] (λb=>ax (rW d b)) (λb=>[tk d b]):=by
 refine bk.cv func179 rfl rfl rfl λj=>?_;refine aZ a v (g.eu bb a a a a a a λh m=>?_);cases h with
 |true=>grind
 |false=>
  refine gV [] 7 a v (g.fC (GL a) a a a i Ac (Hr d _) a a λb=>?_);refine aZ a v (g.bG b (g.aQ [0] a ?_ (λo e=>absurd e E)));simp
def WQ(b)(h:0<c b.2)(e:c b.2<=4000000):bk (ι:=pX b.2) p 131 [fL b] [] (λd=>.n (.agg [.c (.int .i64 b.1),.c (rW b.2 d)])) (λd=>[tk b.2 d]):=by refine bk.bx bb func131 rfl rfl rfl λj=>?_;refine aZ a v ?_;refine g.a6 (Uh b.2 h e) [] a bn ?_;intro d;refine aZ a v ?_;refine g.bh d [2] ?_ (λk i=>absurd i E);simp
end
end R1
end Go.AM
