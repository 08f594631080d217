/- Part 4. No condition. -/
import Derived.Test.YtiiglbogpodloaaGreatDoorA3
import Derived.Lib.Bytealg
import Derived.Sort.AssemblyPlain
import Derived.Sort.LotD5
import Derived.Sort.Walk13a
import Derived.Conc.DeferLaws
import Derived.RowKit
import Derived.Conc.Holds
set_option linter.all false
set_option maxHeartbeats 8000000
open Go.Proofs
open Go.Proofs.Tryz
open List renaming length → c, range → aA, replicate → aU, getD_eq_getElem?_getD → al, all_eq_true → aW
open Go renaming Value → X, TypeId → an, Event → aN, undef → I, World → au, Frame → aG, execOp → ab, Operand → ae, Program → aD, Goroutine → ag, stepG → ap, Oper → ao
open Option renaming some → f, none → n
open Bool renaming true → l, false → v
open Nat renaming beq → ad, ble → ay
open Go.World renaming cell? → aH
open Go.Op renaming bytesLess → aQ, equalIn → aK
open Go.Sem renaming events_bind → aC
open Go.Result renaming evThen_ok → aE
open Go.Proofs.Tryz renaming prog → S
open Go.Conc renaming stepG_seq → aw, stepG_region_end → aB
namespace Go.AM
variable {j A:Nat}{h:Int}{d i e u:Nat}{W:an}{H:X->(Nat->Option Obj)->Prop}{L:Array Bool}{bB:Mem}{F:Nat}{P:aD}{br:ag->a6->Prop}{s:Code}{C:ag}{r:ao}{b:a6}{o:an}{aa:X}{p:au}{α:Type}{η:ae->y}{ι:Type}{k:m ar}{J:bM}{all:m ao}{dt:Array an}{cap:m M}{cS:m y}{lc:Nat->Option Obj}{ai:m aG}{bf:m (Nat×Bool)}{V:Nat->m M}{cQ:ae}{gs:Array ag}{aY:m Nat}{cp:m Prop}{off:Nat}{op:BinOp}{aV:Array ao}{Z:m Prop}{bq:m ao}{aF:a6}{ty:an}{val:Nat->Nat->X}{z:m X}{bi:au}{ah:Array ae}{aq di:m ar}{res:ι->y}{aX:ι->m ar}
variable {CT:m (Nat×bI)}{av:m iv}{be:fF}{ac:m (Nat×cq)}{a5:cq}
namespace R1
section
variable {q:af S}
def Wx(h):Y q 56 [R h] [] (bg (ce h)) []:=by
 refine Y.I func56 rfl λd=>?_;by_cases b:1<=h
 .by_cases i:h<=99
  .refine a4 [4,7] a bv (g.aw a ?_);simp[ce,b,i]
  refine a4 [4,-7] a bv (g.aw a ?_);simp[ce,b,i]
 refine a4 [-4] a bK (g.aw a ?_);simp[ce,b]
def t56:bL q 56 (dc c7 (λa=>bg (ce a)) λ_=>[]):=.a9 λa _=>Wx a
def aai{b}(a:e<c b):d6 (b.take (e+1))=(d6 (b.take e)&&jx (b.getD e 0)):=by unfold d6;grind[List.take_add_one]
def DE{i}:jx i=l↔97<=(i.toNat:Int)/\(i.toNat:Int)<=122:=by simp[jx];omega
def KV{b}(g:e<c b)(d:jx (b.getD e 0)=v):d6 b=v:=by
 cases a:d6 b with
 |false=>rfl
 |true=>
  have:=aW.1 a (b.getD e 0) N;grind
def WR(b):Y q 136 [b2 b] [] (bg (d6 b)) []:=by
 refine Y.I func136 rfl λo=>?_;have r:=o.S 0 a;refine aR a B (g.ek (λd=>d<=c b/\d6 (b.take d)=l) (λd:Nat=>[(0,b2 b),(5,R (c b)),(6,R d)]) (λ_=>[]) (λd=>c b-d) 0 a D ⟨by omega,by simp[d6]⟩ a ?_);rintro d ⟨p,k⟩;by_cases e:d<c b
 .by_cases i:ds b d<97
  .refine a4 [7,12] a ?_ (g.bS (bZ.zero a ?_))
   .simp[-al,e,kk,i]
   have:jx (b.getD d 0)=v:=by
    cases j:jx (b.getD d 0)with
    |false=>rfl
    |true=>have:=DE.1 j;unfold ds at i;omega
   simp[KV e this]
  by_cases h:ds b d<=122
  .refine a4 [7,-12,-17] a ?_ (g.again (d+1) a ?_ ?_ ?_ a)
   .simp[-al,e,kk,i,h,a8];grind
   .simp
   .refine⟨by omega,?_⟩;rw[aai e,k,fX];exact DE.2 (by unfold ds at i h;omega)
   omega
  refine a4 [7,-12,17] a ?_ (g.bS (bZ.zero a ?_))
  .simp[-al,e,kk,i];grind
  have:jx (b.getD d 0)=v:=by
   cases j:jx (b.getD d 0)with
   |false=>rfl
   |true=>have:=DE.1 j;unfold ds at h;omega
  simp[KV e this]
 have m:d=c b:=w;subst m;refine a4 [-7] a D (g.bs a a ?_);refine aR a B (g.aw a ?_);simp_all
def adN:bL q 136 (dc eL (λb=>bg (d6 b)) λ_=>[]):=.a9 λa _=>WR a
abbrev aeo:m (Nat×bI):=[(56,dc c7 (λa=>bg (ce a)) λ_=>[]),(136,dc eL (λb=>bg (d6 b)) λ_=>[])]
def B_:a' q aeo:=.cons t56 (.cons adN .nil)
def XS(b):Y q 280 [b2 b] [] (bg (cC b)) []:=by
 refine Y.I func280 rfl λe=>?_;by_cases d:1<=c b
 .by_cases i:c b<=8
  .refine a_ B_ [5,9,11] a bK (g.aw a ?_);simp[cC,d,i]
  refine a_ B_ [5,-9,-11] a bK (g.aw a ?_);simp[cC,d,i]
 refine a_ B_ [-5,-11] a bK (g.aw a ?_);simp[cC,d]
def ES:bL q 280 (dc eL (λb=>bg (cC b)) λ_=>[]):=.a9 λa _=>XS a
def UY(d:Nat)(i:d<=4000000):Y q 282 [R d] [] (R (fk d)) []:=by
 refine Y.I func282 rfl λk=>?_;by_cases h:d<1
 .refine a4 [5,9] a bK (g.aw a ?_);simp[fk,h]
 by_cases e:8<d
 .refine a4 [-5,8] a bK (g.aw a ?_);simp[fk,e]
 refine a4 [-5,-8] a bK ?_;have m:fk d=2∨fk d=4∨fk d=8:=Fh;refine g.ek (λb:Nat=>(b=2∨b=4∨b=8)/\b<=fk d) (λb:Nat=>[(0,R d),(3,R b)]) (λ_=>[]) (λb=>8-b) 2 a D ⟨by simp,by omega⟩ a ?_;rintro b ⟨j,x⟩;by_cases i:b<d
 .exact a4 [12] a lO (g.again (2*b) a bK OS w a)
 refine a4 [-12] a bK (g.bs a a ?_);refine aR a B (g.aw a ?_);have:b=fk d:=OS;simp[this]
theorem ac8(b)(i):fw (b++[i])=if i=46 then fw b else b++[i]:=by unfold fw;grind[List.dropWhile_cons]
def Nh{b}(a:j<c b):fw (b.take (j+1))=if b.getD j 0=46 then fw (b.take j)else b.take (j+1):=by grind[List.take_add_one,ac8]
theorem YS(b):Y q 313 [b2 b,vd 46] [] (b2 (fw b)) []:=by
 refine Y.I func313 rfl λh=>?_;have o:=h.S 0 a;refine aR a B (g.ek (λj=>j<=c b/\fw (b.take j)=fw b) (λj:Nat=>[(0,b2 (b.take j)),(1,vd 46)]) (λ_=>[]) (λj=>j) (c b) a D ⟨by omega,by simp⟩ a ?_);rintro j ⟨p,d⟩;cases j with
 |zero=>
  refine a4 [-7,-16] a D (g.bs a a ?_);refine aR a B (g.aw a ?_);have:fw b=[]:=by rw[<-d];rfl
  simp[this]
 |succ j=>
  have O:c (b.take (j+1))=j+1:=N;have C:ds (b.take (j+1)) j=ds b j:=by simp[ds,al,iA]
  have k:=Nh (b:=b) (j:=j) w;have i:((j:Int)+1-1).toNat=j:=w;by_cases e:b.getD j 0=46
  .refine a4 [7,15,16] a ?_ (g.again j a ?_ ?_ ?_ a)
   .have s:ds b j=46:=by unfold ds;exact bF
    exact RK
   .simp;show(b.take (j+1)).take _=_;grind
   .grind
   simp
  refine a4 [7,-15,-16] a ?_ (g.bs a a ?_)
  .have s:ds b j≠46:=by unfold ds;intro m;exact e (uE.1 N)
   exact RK
  refine aR a B (g.aw a ?_);rw[k,bj e]at d;simp[d]
def Hj:bI:=λargs a=>match args,a with
 |[.n (.R (.c (.S b))),.n (.R (.c (.int .u8 46)))],[]=>f (b2 (fw b),[],[])
 |_,_=>n
def Nm:bL q 313 Hj:=by intro args g b d a e _;unfold Hj at e;grind[YS]
theorem YR(b):Y q 297 [b2 b,b2 [46]] [] (b2 (fw b)) []:=by
 refine Y.I func297 rfl λh=>?_;by_cases d:b=[]
 .subst d;refine a_ (a'.cons Nm .nil) [8,12] a D (g.aw a ?_);exact bF
 refine a_ (a'.cons Nm .nil) [-8,-11,-12,16,20,21] a ?_ (g.aw a);cases b with
 |nil=>grind
 |cons e i=>simp;decide
def BE:bI:=λargs a=>match args,a with
 |[.n (.R (.c (.S b))),.n (.R (.c (.S [46])))],[]=>f (b2 (fw b),[],[])
 |_,_=>n
def ado:bL q 297 BE:=by intro args g b d a e _;unfold BE at e;grind[YR]
def Id{a:bA}(b:e<c a):gn (a.take (e+1))=27*gn (a.take e)+(ds a e-97) % 256+1:=by unfold gn;rw[uO,bJ b];simp only[uI,Option.toList_some,iT,List.foldl_nil,ds,al,bJ b,ia]
def xS{a:bA}(d:cC a=l)(k:e<=c a):0<=gn (a.take e)/\gn (a.take e)<282429536481:=by simp[cC,cm,bw]at d;obtain⟨i,b⟩:=Cc (a.take e) 0 1 0 (λh g=>qE d.2 h (g4 g)) w w w;have:=L' (j:=c (a.take e)) N;rw[Int.one_mul]at b;exact⟨i,Int.lt_of_lt_of_le b this⟩
def Dg{a:bA}(b:e<c a):a.getD e 0∈a:=N
abbrev aep:m (Nat×bI):=[(56,dc c7 (λa=>bg (ce a)) λ_=>[]),(280,dc eL (λb=>bg (cC b)) λ_=>[])]
def hY:a' q aep:=.cons t56 (.cons ES .nil)
abbrev Cs(a:Int):y:=.T [.R (.c (.int .i64 a)),.R (.c .bD)]
def Xo(d:Int)(b:bA)(m:ce d=l)(h:cC b=l):Y q 275 [R d,b2 b] [] (Cs (d8 d b)) []:=by
 refine Y.I func275 rfl λz=>?_;have j:=h;simp[cC,cm,bw]at j;have r:=m;simp[ce,cm,bw]at r;refine a_ hY [-8,-13] a du (g.ek (λe=>e<=c b) (λe:Nat=>[(0,R d),(1,b2 b),(6,R (gn (b.take e))),(19,R (c b)),(20,R e)]) (λ_=>[]) (λe=>c b-e) 0 a (by simp[gn]) w a ?_);intro e k;by_cases i:e<c b
 .have p:=xS h k;have A:=xS h (e:=e+1) w;have o:=Id i;refine a4 [21] a ?_ (g.again (e+1) a ?_ ?_ ?_ a)
  .simp only[U,kk,a8];simp[-al,i,kk];have x:=qE j.2 (b.getD e 0) (Dg i);have s:97<=ds b e/\ds b e<=122:=Fk;omega
  .have x:=qE j.2 (b.getD e 0) (Dg i);have s:97<=ds b e/\ds b e<=122:=Fk;have C:(ds b e-97) % 256=ds b e-97:=Int.emod_eq_of_lt w w;exact bF
  .grind
  grind
 have o:e=c b:=w;subst o;have p:=xR h;refine a4 [-21] a D (g.bs a a ?_);refine aR a ?_ (g.aw a ?_)
 .rw[c8];have u:0<=gn b*(2*d+1):=Int.mul_nonneg p.1 w;have t:gn b*(2*d+1)<=282429536481*199:=Int.mul_le_mul w w w w;generalize gn b*(2*d+1)=y at u t;exact wP
 rw[c8];refine U.Y.2 ⟨?_,U.Y.2 ⟨a,B⟩⟩;show(_:Int)=_;rw[Int.mul_comm 7919 d];rfl
def ER:bL q 275 (ek c7 eL (λa b=>Cs (d8 a b)) λa b=>[ce a=l,cC b=l]):=.bl λa b d=>Xo a b d.1 d.2
def DV{p:ae}(j:r.op=.binOp op o p (.const .nilIface) ty){t:Bool}{s:Array (String×an)}(x:P.underlying o=f (.interface s))(z:η p=ax .bD)(y:η (.const .nilIface)=ax .bD)(q:ij op l=f t):a1 P r η k (ax (.bool t)) k:=by
 refine .aR λe g C w=>?_;have d:=w p;have b:=w (.const .nilIface);rw[z]at d;rw[y]at b;replace d:=b8 d;replace b:=b8 b;generalize h:g p=A at d;generalize i:g (.const .nilIface)=B at b;cases d;cases b;have m:(Op.equal o .nilIface .nilIface).run P e.a=.ok l e.a:=by show(aK (9999+1) o _ _).run P e.a=_;unfold aK;simp[underlying,x]
 have u:∀a,(Op.equal o .nilIface .nilIface).events P e.a a=a:=λa=>by show(aK (9999+1) o _ _).events P e.a a=a;unfold aK;simp[underlying,x]
 cases op<;>simp[ij,reduceCtorEq,e']at q
 .subst q;exact⟨.bool l,by simp[ab,j,h,i,eqGuard,binOp,m],Rd.bool,by simp[ab,j,h,i,eqGuard,binOp,m,u]⟩
 subst q;exact⟨.bool v,by simp[ab,j,h,i,eqGuard,binOp,m],Rd.bool,by simp[ab,j,h,i,eqGuard,binOp,m,u]⟩
def Xm(b:Int)(d:bA)(e:Int)(h:ce b=l)(i:cC d=l):Y q 258 [R b,b2 d,R e] [] (bg (d8 b d==e)) []:=by refine Y.I func258 rfl λj=>?_;refine a_ (a'.cons ER .nil) [17] a du ?_;refine g.aL (DV a underlying179 a a a) a a ?_;refine a_ (a'.cons ER .nil) [17] a oV (g.aw a ?_);simp
def adm:bL q 258 (kl c7 eL c7 (λa b d=>bg (d8 a b==d)) λa b _=>[ce a=l,cC b=l]):=.c7 λa b d e=>Xm a b d e.1 e.2
abbrev mz(a:Int):y:=ax (.int .u64 a)
def _root_.Go.AM.b4.fw{r:af P}{aP}{I s}(C:b4 r F s aP J k):b4 r F (.cond (.const (.bool v)) I s) aP J k:=by intro K u A d w D i t m j;refine .ctl d a (λ_=>zx (o:=v) a) λy b=>?_;exact C y u (A.rely b d) (d.rely b) w D i t m λz e g p h E x B q=>j z e g p h E x B (b.aT.trans q)
def _root_.Go.AM.g.fw{P:aD}{a:af P}{F}{be}{av}{J}{k}{e b}(d:g a F be (.code b::av) .normal J k):g a F be (.code (.cond (.const (.bool v)) e b)::av) .normal J k:=b4.fw d
def KG{j m:ae}{h d}{p i}(s)(u:r.op=.binOp op o j m ty)(B:η j=ax (.int h p))(A:η m=ax (.int d i))(y:a8 h s)(q:∀g,(binOp op o (.int h p) (.int d i)).run P g=.ok (.int h s) g)(z:∀g,(binOp op o (.int h p) (.int d i)).events P g #[]=#[]):
  a1 P r η k (ax (.int h s)) k:=by refine .aR λE e F x=>?_;have b:=x j;have a:=x m;rw[B]at b;rw[A]at a;replace b:=b8 b;replace a:=b8 a;generalize t:e j=C at b;generalize w:e m=D at a;cases b;cases a;exact⟨.int h s,by simp only[ab,u,cK,t,w,qn,c_,q,d'],.int y,by simp[ab,u,t,w,qn,yg,q,z]⟩
def Xi:Y q 319 [mz 1,mz 2] [] (.T [.R (.c (.int .u64 0)),.R (.c (.int .u64 2))]) []:=R5
def Xj:Y q 319 [mz 1,mz 3] [] (.T [.R (.c (.int .u64 0)),.R (.c (.int .u64 3))]) []:=R5
def Hk:bI:=λargs b=>match args,b with
 |[.n (.R (.c (.int .u64 1))),.n (.R (.c (.int .u64 a)))],[]=>f (.T [.R (.c (.int .u64 0)),.R (.c (.int .u64 a))],[],[a=2∨a=3])
 |_,_=>n
def Nn:bL q 319 Hk:=by
 intro args h e g d a b;unfold Hk at a;split at a
 .cases a;rcases b with rfl|rfl
  .exact Xi
  exact Xj
 grind
def Xh(b:Int)(d:b=2∨b=3):Y q 307 [mz 1,mz b] [] (.T [.R (.c (.int .u64 0)),.R (.c (.int .u64 b))]) []:=by refine Y.I func307 rfl λe=>?_;refine b9 (a'.cons Nn .nil) a B ?_;refine g.fw ?_;refine b9 (a'.cons Nn .nil) a ?_ (g.aw a);exact bv
def BF:bI:=λargs b=>match args,b with
 |[.n (.R (.c (.int .u64 1))),.n (.R (.c (.int .u64 a)))],[]=>f (.T [.R (.c (.int .u64 0)),.R (.c (.int .u64 a))],[],[a=2∨a=3])
 |_,_=>n
def t307:bL q 307 BF:=by
 intro args h e g d a b;unfold BF at a;split at a
 .cases a;exact Xh _ b
 grind
abbrev lN:bI:=dc eL (λa=>b2 (fT a)) λ_=>[]
abbrev iZ(a:Option bA):y:=.T [.R (.c (.S (a.getD []))),.R (.c (.bool a.isSome))]
def XH(h:bL q 221 lN)(i):Y q 257 [b2 i] [] (iZ (hP i)) []:=by
 refine Y.I func257 rfl λk=>?_;have d:a' q [(297,BE),(280,dc eL (λj=>bg (cC j)) λ_=>[]),(221,lN)]:=.cons ado (.cons ES (.cons h .nil));by_cases b:cC (fw i)=l
 .by_cases e:fT (fw i)=i
  .refine a_ d [-10,-15] a du (g.aw a ?_);simp[hP,b,e]
  refine a_ d [-10,15] a du (g.aw a ?_);simp[hP,b,e]
 refine a_ d [10,15] a ?_ (g.aw a ?_)
 .simp[b]
 simp[hP,b]
def ad3(b:bL q 221 lN):bL q 257 (dc eL (λa=>iZ (hP a)) λ_=>[]):=.a9 λa _=>XH b a
def LO{i a}(b:hP i=f a):cC a=l:=by unfold hP at b;grind
abbrev Cr(a:c1):y:=sy.a8 a
def UU(m:bL q 221 lN)(e)(h)(b:ce h=l):Y q 207 [Cr e,R h] [] (iZ (iV h e)) []:=by
 refine Y.I func207 rfl λr=>?_;have i:a' q [(257,dc eL (λk=>iZ (hP k)) λ_=>[]),(258,kl c7 eL c7 (λh d o=>bg (d8 h d==o)) λh d _=>[ce h=l,cC d=l])]:=.cons (ad3 m) (.cons adm .nil);cases x:hP e.2 with
 |none=>
  refine a_ i [16,23] a oW (g.aw a ?_);simp[iV,x]
 |some d=>
  have p:=LO x;by_cases j:d8 h d=e.1
  .refine a_ i [-16,-23] a du (g.aw a ?_);simp[iV,x,j,b]
  refine a_ i [-16,23] a du (g.aw a ?_);simp[iV,x,j,b]
def No(d:bL q 221 lN):bL q 207 (ek sy c7 (λb a=>iZ (iV a b)) λ_ a=>[ce a=l]):=.bl λb a e=>UU d b a e
def Wm(b)(j):Y q 289 [Cr b,ax (.Q [.int .i64 j])] [] (bg (b.1==j)) []:=by refine Y.I func289 rfl λd=>?_;exact aR a B (g.aw a)
def BD:bI:=λargs d=>match args,d with
 |[.n (.agg [.c (.int .i64 b),.c (.S a)]),.n (.R (.c (.Q [.int .i64 e])))],[]=>f (bg (b==e),[],[a=a])
 |_,_=>n
def t289:bL q 289 BD:=by
 intro args k d e b a h;unfold BD at a;split at a
 .rename_i i g j;cases a;exact Wm (i,g) j
 grind
abbrev IF(a:Int):y:=ax (.fn (.func 289) [] [.Q [.int .i64 a]])
def po(b:m c1)(d:Int):Int:=match b.findIdx? (λe=>e.1==d)with|some a=>a|none=>-1
def ZO{o}{j}(a:e<c o)(i:(o.getD e (0,[])).1=j)(g:∀b,b<e->(o.getD b (0,[])).1≠j):po o j=e:=by
 have:o.findIdx? (λd=>d.1==j)=f e:=by rw[uN];refine⟨a,N,λb h=>?_⟩;grind
 rw[po,this]
def ZQ{o}{j}(d:∀a,a<c o->(o.getD a (0,[])).1≠j):po o j=-1:=by have:o.findIdx? (λb=>b.1==j)=n:=wO;rw[po,this]
def V4(o)(j):Y q 288 [bH.B o,IF j] [] (R (po o j)) []:=by
 refine Y.I func288 rfl λi=>?_;have p:=i.B 0 a;have d:a' q [(289,BD)]:=.cons t289 .nil;refine b9 d a B (g.b' (λb=>b<=c o/\∀e,e<b->(o.getD e (0,[])).1≠j) (λb:Nat=>[(0,bH.B o),(1,IF j),(7,R (c o)),(8,R b)]) (λ_=>[]) (λb=>c o-b) 0 a D a B ⟨by omega,by omega⟩ ?_);rintro b ⟨m,h⟩;by_cases k:b<c o
 .by_cases s:(o.getD b (0,[])).1=j
  .refine a_ d [9,16] a ?_ (g.bS (bZ.zero a ?_))
   .simp only[U,cW];grind
   simp[ZO k s h]
  refine a_ d [9,-16] a ?_ (g.b6 (b+1) a ?_ a B ?_ ?_)
  .simp only[U,cW];exact⟨by exact bF,B,eW.2 s,by omega,by omega,fa w⟩
  .simp
  .grind
  omega
 refine a_ d [-9] a bK (g.bs a a ?_);refine b9 d a B (g.aw a ?_);simp[ZQ (λe r=>h e w)]
def BC:bI:=λargs d=>match args,d with
 |[e,.n (.R (.c (.fn (.func 289) [] [.Q [.int .i64 g]])))],[]=>match jA 2 e with
  |none=>n
  |some (b,a)=>f (R (po (bH.ad b a) g),[],[bH.bH b a])
 |_,_=>n
def t288:bL q 288 BC:=by
 intro args m h i g a d;unfold BC at a;split at a
 .rename_i o j;split at a
  .cases a
  rename_i p k b;cases a;exact(V4 _ j).args (λ_ z=>b5.imp (λ_=>bH.cv b d) (b5.imp (λ_ e=>e) (λ_ e=>e)) z)
 grind
def ZP(o)(j):(po o j=-1/\o.find? (λb=>b.1==j)=n)∨∃a:Nat,a<c o/\po o j=a/\o.find? (λb=>b.1==j)=f (o.getD a (0,[])):=by unfold po;grind[List.findIdx?_eq_some_iff_getElem,List.find?_eq_some_iff_getElem]
def XB(k:bL q 221 lN)(h)(b)(j)(o:ce h=l):Y q 241 [R h,fR b,R j] [] (iZ (fZ h b j)) []:=by
 refine Y.I func241 rfl λs=>?_;have d:a' q [(288,BC),(207,ek sy c7 (λp h=>iZ (iV h p)) λ_ h=>[ce h=l])]:=.cons t288 (.cons (No k) .nil);have t:bH.ad (c b.2) (bH.fn b.2)=b.2:=bH.l _;refine gv [] 7 a B (g.freeze 5 1 a a a ?_);rcases ZP b.2 j with⟨m,i⟩|⟨e,bp,m,i⟩
 .refine a_ d [14] a bF (g.aw a ?_);simp[fZ,i]
 refine a_ d [-14] a bF (g.aw a ?_);have r:fZ h b j=iV h (b.2.getD e (0,[])):=by simp only[fZ,i]
 simp_all
def ad9(e:bL q 221 lN):bL q 241 (kl c7 (jJ bH) c7 (λa d b=>iZ (fZ a d b)) λa _ _=>[ce a=l]):=.c7 λa d b g=>XB e a d b g
def yL:∀b(a:UInt8),Lib.indexByte b a<c b∨Lib.indexByte b a=-1
 |[],a=>.inr (by rw[Lib.indexByte.eq_def])
 |e::b,a=>by have d:=yL b a;grind[Lib.indexByte.eq_def]
set_option maxRecDepth 20000 in
theorem We(b)(s):Y q 270 [b2 b,vd s.toNat] [] (R (Lib.indexByte b s)) []:=by
 refine Y.I func270 rfl λM=>?_;have ae:=M.S 0 a;refine aR a B (g.R (E:=R (Lib.indexByte b s)) (aq:=[]) ?_ a ?_)
 .refine aT.aZ (λ_ _ _ _=>jf oV) ?_;refine a1.dv λe d W h=>?_;have p:=b8 (h (.tmp 5));have o:=b8 (h (.tmp 6));generalize m:d (.tmp 5)=N at p;generalize i:d (.tmp 6)=O at o;cases p with
  |S x J=>
  cases o with
  |int K=>
  have k:d (.func 304)=.func (.func 304) #[] #[]:=by
   have:=b8 (h (.func 304));generalize d (.func 304)=Z at this;cases this with
   |fn D w Q r z C t u d1 d2=>
    grind
  have y:(callFunc 304 #[.string ‹ByteArray›,.int .u8 s.toNat]).run S e.a=.ok (.value (.int .i64 (Lib.indexByte b s))) e.a:=by rw[run_callFunc_extern func304 bG bG bG (e:=Extern.BytealgIndexByte.indexByte) bG,Lib.run_indexByteString];simp_all
  have I:dB S (Extern.BytealgIndexByte.indexByte #[.string ‹ByteArray›,.int .u8 s.toNat]):=by
   refine dB.bind (A:=Extern.Bytes.bytesOf (.string ‹ByteArray›)) (λ_ _=>rfl) λr=>dB.bind (A:=Extern.Bytes.asByte (.int .u8 s.toNat)) (λ_ _=>?_) λT=>?_
   .simp[Extern.Bytes.asByte]
   .skip
    split<;>exact .pure
  have F:=I4 func304 bG bG bG (ak:=Extern.BytealgIndexByte.indexByte) bG _ I e.a #[];refine⟨.int .i64 (Lib.indexByte b s),?_,Rd.int ?_,?_⟩
  rotate_left 2
  .intro V j;simp[ab,resolve,Deferred.ofValue,invoke,m,i,k,F]at j;subst j;exact .inr ⟨_,a⟩
  .simp[ab,resolve,Deferred.ofValue,invoke,m,i,k,y]
  have aa:=Lib.indexByte_ge b s;have X:=yL b s;exact cX
 exact ue
def Wo(b:Int)(e:M)(d:Int):Y q 111 [.n (.agg [.c (.int .i64 b),.c e]),ax (.Q [.int .i64 d])] [] (bg (b==d)) []:=by refine Y.I func111 rfl λh=>?_;exact aR a B (g.aw a)
def Br:bI:=λargs b=>match args,b with
 |[.n (.agg [.c (.int .i64 a),.c e]),.n (.R (.c (.Q [.int .i64 d])))],[]=>f (bg (a==d),[],[])
 |_,_=>n
def adb:bL q 111 Br:=by
 intro args h d e b a g;unfold Br at a;split at a
 .cases a;exact Wo _ _ _
 cases a
abbrev IE(a:Int):y:=ax (.fn (.func 111) [] [.Q [.int .i64 a]])
def oy(b:m ej)(d:Int):Int:=match b.findIdx? (λe=>e.1==d)with|some a=>a|none=>-1
def ZR{a:m ej}{d:Int}(g:e<c a)(o:(a.getD e (0,[])).1=d)(h:∀b,b<e->(a.getD b (0,[])).1≠d):oy a d=e:=by
 have:a.findIdx? (λk=>k.1==d)=f e:=by rw[uN];refine⟨g,du,λb j=>?_⟩;have i:b<c a:=w;simpa[al,bJ i]using h b j
 rw[oy,this]
def ZT{a:m ej}{d:Int}(h:∀b,b<c a->(a.getD b (0,[])).1≠d):oy a d=-1:=by
 have:a.findIdx? (λe=>e.1==d)=n:=by rw[AW];intro e g;obtain⟨b,i,rfl⟩:=ha g;simp_all
 rw[oy,this]
def V_(d:m ej)(i:Int):Y q 110 [bh.B d,IE i] [] (R (oy d i)) []:=by
 refine Y.I func110 rfl λp=>?_;have t:=p.B 0 a;have e:a' q [(111,Br)]:=.cons adb .nil;refine b9 e a B (g.b' (λb=>b<=c d/\∀h,h<b->(d.getD h (0,[])).1≠i) (λb:Nat=>[(0,bh.B d),(1,IE i),(7,R (c d)),(8,R b)]) (λ_=>[]) (λb=>c d-b) 0 a D a B ⟨by omega,by omega⟩ ?_);rintro b ⟨s,k⟩;by_cases r:b<c d
 .by_cases o:(d.getD b (0,[])).1=i
  .refine a_ e [9,16] a bF (g.bS (bZ.zero a ?_));simp[ZR r o k]
  refine a_ e [9,-16] a ?_ (g.b6 (b+1) a ?_ a B ?_ ?_)
  .simp only[U,cW];exact⟨by exact bF,eW.2 o,by omega,by omega,fa w⟩
  .simp
  .refine⟨by omega,λh j=>?_⟩;rcases w_.1 j with j|rfl
   .simp_all
   omega
  omega
 refine a_ e [-9] a bK (g.bs a a ?_);refine b9 e a B (g.aw a ?_);simp[ZT (λh j=>k h w)]
def Bq:bI:=λargs d=>match args,d with
 |[e,.n (.R (.c (.fn (.func 111) [] [.Q [.int .i64 g]])))],[]=>match jA 2 e with
  |none=>n
  |some (b,a)=>f (R (oy (bh.ad b a) g),[],[bh.bH b a])
 |_,_=>n
def ada:bL q 110 Bq:=by
 intro args m h i g a d;unfold Bq at a;split at a
 .rename_i o j;split at a
  .cases a
  rename_i p k b;cases a;exact(V_ _ j).args (λ_ z=>b5.imp (λ_=>bh.cv b d) (b5.imp (λ_ e=>e) (λ_ e=>e)) z)
 cases a
def ZS(b:m ej)(h:Int):(oy b h=-1/\b.find? (λe=>e.1==h)=n)∨∃d:Nat,d<c b/\oy b h=d/\b.find? (λe=>e.1==h)=f (b.getD d (0,[])):=by
 unfold oy;cases i:b.findIdx? (λe=>e.1==h)with
 |none=>
  refine .inl ⟨a,?_⟩;rw[AW]at i;exact uH.2 λe p=>by exact bF
 |some d=>
  rw[uN]at i;obtain⟨g,j,o⟩:=i;refine .inr ⟨d,g,a,?_⟩;rw[SP];refine⟨du,d,g,du,λq k=>?_⟩;simp_all
def nl(a:Nat->Int):Nat->m M:=λb=>[.int .u8 (a b)]
def Bytes(a:Nat->Int):Prop:=∀b,0<=a b/\a b<=255
abbrev e7(d:Nat)(a:Nat->Int)(b:Int):ar:=.cells 100 [.c (.B v 1 d (nl a)),.c (.int .i64 b)]
def bm.cf{e}{fn}{args}{a:ι->m ar}(p:Tryz.prog.funcs[e]?=f fn)(o:(fn.name== "runtime.NumGoroutine")=v)(d:fn.body=f s)(j:ay args.length fn.ntmps=l)(u:kF args k->g q fn.ntmps (λr i b=>∃h,bZ fn k.length (res h) (a h) r i b) [.code s] .normal (ib 0 args) k):bm q e args k res a:=
 bm.e6 p o d j λt=>b4.bw (g.aQ (u t))
def g.bu{fn}{d}{a:ι->m ar}(e)(j:g q F (bZ fn d (res e) (a e)) av .normal J k):g q F (λi J b=>∃h,bZ fn d (res h) (a h) i J b) av .normal J k:=
 g.bW (λ_ _ _ o=>⟨e,o⟩) j
def qO(b:Nat)(d:Nat->Int)(a:Nat)(e:Int):Int:=
 if b=0 then 0 else if a<b then d a % e else
  ((d ((a:Int) % b).toNat*131+d (((a:Int)*7+3) % b).toNat*1117+a*29+(a:Int) / b*53).toNat ^^^ ((d ((a:Int) % b).toNat*131+d (((a:Int)*7+3) % b).toNat*1117+a*29+(a:Int) / b*53) / 64).toNat:Nat) % e
set_option maxRecDepth 20000 in
def JB(A)(d:Nat->Int)(o:Bytes d)(b:Nat)(j)(s:b<=4000000)(B:A<=1048576)(M:1<=j/\j<=4000000):
  Y q 18 [aI 0 0,R j] [e7 A d b] (R (qO A d b j)) [e7 A d (b+1)]:=by
 refine Y.I func18 rfl λx=>?_;have i:∀e,e<c ([e7 A d b]:m ar)->([0]:m Nat)[e]?=f e:=λe D=>by grind
 by_cases k:A=0
 .subst k;refine a4 [-17,24] a cX (g.aJ [0] a ?_ i);exact cX
 have h:((b:Int)+1-1)=b:=w;have z:((b:Int)+1-1).toNat=b:=w;have y:=o b;by_cases F:(b:Int)<A
 .refine a4 [-17,-24,36] a ?_ (g.aJ [0] a ?_ i)
  .simp only[U,h,cW,bw,dr,eW,a8];omega
  have:b<A:=w;simp[qO,k,this]
 refine bO [-17,-24,-36] a ?_ (g.aJ [0] a ?_ i)
 .simp only[U,h,dr,eW,a8];have r:(0:Int)<A:=w;have C:=rv (b:Int) (by omega:(A:Int)≠0);have E:=ro (b:Int) r;have u:=rv ((b:Int)*7+3) (by omega:(A:Int)≠0);have I:=ro ((b:Int)*7+3) r;have w1:0<=(b:Int) / A:=Int.ediv_nonneg w w;have w2:(b:Int) / A<=b:=Int.ediv_le_self _ w;generalize(b:Int) % A=t at *;generalize((b:Int)*7+3) % A=aa at *;generalize(b:Int) / A=p at *;have J:=o t.toNat;have K:=o aa.toNat;grind
 have:¬b<A:=w;simp[qO,k,this,h]
def LW(A)(a:Nat->Int)(h)(j)(b:1<=j):0<=qO A a h j/\qO A a h j<j:=by
 unfold qO;split
 .omega
 split
 .exact⟨rv _ w,ro _ w⟩
 exact⟨rv _ w,ro _ w⟩
def gF(A)(a:Nat->Int)(s:Bytes a)(b:Nat)(j)(i:b<=4000000)(r:A<=1048576)(m:1<=j/\j<=4000000):
  bm (ι:={d:Int // 0<=d/\d<j}) q 18 [aI 0 0,R j] [e7 A a b] (λd=>R d.1) (λ_=>[e7 A a (b+1)]):=by have o:=JB (q:=q) A a s b j i r m;exact⟨o.1,λt z k h p e g=>o.2 t z k h p e (g ⟨_,LW A a b j m.1⟩)⟩
def kR:∀a,a<1->([0]:m Nat)[a]?=f a:=λa b=>by grind
set_option maxRecDepth 20000 in
def CM(A)(b:Nat->Int)(o:Bytes b)(e:Nat)(h:e<=4000000)(m:A<=1048576)(d)(t:1<=c d/\c d<=1000):
  bm (ι:={i:bA // i∈d}) q 76 [aI 0 0,bS.B d] [e7 A b e] (λi=>b2 i.1) (λ_=>[e7 A b (e+1)]):=by refine bm.cf func76 rfl rfl rfl λs=>?_;refine aR a B (g.a2 (gF A b o e (c d) h m w) [0] a bn ?_);rintro⟨j,p,r⟩;refine aR a bK ?_;have k:d.getD j.toNat bS.E∈d:=N;refine g.bu ⟨d.getD j.toNat bS.E,k⟩ (g.aJ [0] a ?_ kR);simp
def LR:m bA:=[[],[102],[97,47],[97,98],[97,47,98,47,99],[47,97]]
def LS:m bA:=[[97],[98],[99,47,97],[99,47,98],[100,47,97],[101],[97,47,98],[100]]
set_option maxRecDepth 20000 in
def JA(A)(d:Nat->Int)(k:Bytes d)(h:Nat)(m:h<=100000)(j:A<=1048576):
  bm (ι:={b:bA // c b<=8}) q 74 [aI 0 0] [e7 A d h] (λb=>b2 b.1) (λ_=>[e7 A d (h+1+1)]):=by
 refine bm.cf func74 rfl rfl rfl λs=>?_;refine aR a B (g.a2 (gF A d k h 40 w j w) [0] a bn ?_);rintro⟨o,p,r⟩;by_cases t:o=0
 .refine a4 [5] a gM ?_;have:=CM (q:=q) A d k (h+1) w j LR b';refine g.bV this [0] a a a a ?_ a a a bn a bn a ?_
  .refine⟨a,λe bp=>?_⟩;rcases e with _|_|_|_|_|_|e<;>first|rfl|omega
  rintro⟨b,i⟩;refine aR a B (g.bu ⟨b,(by decide:∀b∈LR,c b<=8) b i⟩ (g.aJ [0] a ?_ kR));simp
 refine a4 [-5] a gM ?_;have:=CM (q:=q) A d k (h+1) w j LS b';refine g.bV this [0] a a a a QF a a a bn a bn a ?_;rintro⟨b,i⟩;refine aR a B (g.bu ⟨b,(by decide:∀b∈LS,c b<=8) b i⟩ (g.aJ [0] a ?_ kR));simp
def N':m bA:=[[97,98,99],[104,101,108,108,111],[119,111,114,108,100],[97,97,97,97],[107,101,101,112],[122,122],[98,97,99,107,117,112],[113]]
abbrev SM(b:Nat):={a:bA×Nat // c a.1<=100000/\b<=a.2/\a.2<=b+60}
def Jt(b)(j)(u:c b<=10)(A:0<=j/\j<=100):bm (ι:={o:bA // c o<=100000}) q 117 [b2 b,R j] [] (λo=>b2 o.1) (λ_=>[]):=by
 refine bm.cf func117 rfl rfl rfl λx=>?_;refine aR a B (g.b' (λk:Nat×bA×bA=>k.1<=100/\c k.2.2+c k.2.1*k.1<=1010) (λk=>[(0,b2 k.2.1),(1,R k.1),(5,b2 k.2.2)]) (λ_=>[]) (λk=>k.1) (j.toNat,b,[]) a bK a B ⟨by grind,?_⟩ ?_)
 .have:c b*j.toNat<=10*100:=Nat.mul_le_mul u w;grind
 rintro⟨d,h,i⟩ ⟨r,s⟩;simp only at r s;by_cases m:0<d
 .have e:c h<=c h*d:=uD _ m;have y:((d:Int) / 2)=((d / 2:Nat):Int):=w;by_cases z:d % 2=1
  .have p:c (h++h)*(d / 2)+c h=c h*d:=by have t:d=2*(d / 2)+1:=w;grind
   refine a4 [7,10] a bv (g.b6 (d / 2,h++h,i++h) a D a B N ?_);grind
  have p:c (h++h)*(d / 2)=c h*d:=by have t:d=2*(d / 2):=w;grind
  refine a4 [7,-10] a bv (g.b6 (d / 2,h++h,i) a D a B N ?_);grind
 obtain rfl:d=0:=w;refine a4 [-7] a D (g.bs a a ?_);exact aR a B (g.bu ⟨i,by omega⟩ (g.aw a))
set_option maxRecDepth 20000 in
def YK(A)(d:Nat->Int)(j:Bytes d)(h)(I:h<=100000)(k:A<=1048576):
  bm (ι:=SM h) q 75 [aI 0 0] [e7 A d h] (λu=>b2 u.1.1) (λu=>[e7 A d u.1.2]):=by
 refine bm.cf func75 rfl rfl rfl λQ=>?_;refine aR a B (g.a2 (gF A d j h 5 w k w) [0] a bn ?_);rintro⟨T,U,V⟩;refine aR a B (g.aH 1 (λb:Nat×bA×Nat=>b.1<=4/\c b.2.1+6*b.1<=24/\h<=b.2.2/\b.2.2+b.1<=h+5) (λb=>[(0,aI 0 0),(4,R b.1),(3,b2 b.2.1)]) (λb=>[e7 A d b.2.2]) (λb=>b.1) (T.toNat,[],h+1) a bK a D a ⟨by omega,by grind,by simp,by grind⟩ ?_);rintro⟨m,b,k1⟩ ⟨C,J,F,Y⟩;simp only at C J F Y;by_cases t:0<m
 .refine a4 [9] a gM ?_;have:=CM (q:=q) A d j k1 w k N' b';refine g.bV this [0] a a a a QF a a a bn a bn a ?_;rintro⟨i,r⟩;have ae:c i<=6:=(by decide:∀i∈N',c i<=6) i r;refine aR a j7 (g.az (m-1,b++i,k1+1) a bK D N ?_);grind
 obtain rfl:m=0:=w;refine a4 [-9] a D (g.aA ?_);refine aR a B (g.a2 (gF A d j k1 4 w k w) [0] a bn ?_);rintro⟨S,aa,ab⟩;by_cases z:S=0
 .refine a4 [19] a (by simp[z]) (g.a2 (gF A d j (k1+1) 12 w k w) [0] a bn ?_);rintro⟨W,cD,w1⟩;refine aR a B (g.aH 1 (λb:Nat×bA×Nat=>b.1<=11/\c b.2.1+b.1<=36/\h<=b.2.2/\b.2.2+b.1<=h+20) (λb=>[(0,aI 0 0),(5,R b.1),(3,b2 b.2.1)]) (λb=>[e7 A d b.2.2]) (λb=>b.1) (W.toNat,b,k1+2) a bK a bK a ⟨by omega,by grind,by grind,by grind⟩ ?_);rintro⟨m,o,p⟩ ⟨y,O,H,M⟩;simp only at y O H M;by_cases t:0<m
  .refine a4 [23] a gM (g.a2 (gF A d j p 26 w k w) [0] a bn ?_);rintro⟨X,Z,L⟩;refine aR a j7 (g.az (m-1,o++[UInt8.ofNat (97+X).toNat],p+1) a bK D N ?_);grind
  obtain rfl:m=0:=w;refine a4 [-23] a D (g.aA ?_);refine a4 [-36] a bK (g.a2 (gF A d j p 60 w k w) [0] a bn ?_);rintro⟨s,G,K⟩;by_cases E:s=0
  .refine a4 [41] a bv (g.bu ⟨(o++[65],p+1),by grind,by grind,by grind⟩ (g.aJ [0] a ?_ kR));simp
  by_cases x:s=1
  .refine a4 [-41,45] a oW (g.a2 (Jt [97,98,99,100,101] 9 b' b') [] a bn ?_);rintro⟨i,r⟩;refine aR a B (g.bu ⟨(i,p+1),r,by grind,by grind⟩ (g.aJ [0] a ?_ kR));simp
  refine a4 [-41,-45] a bv (g.bu ⟨(o,p+1),by grind,by grind,by grind⟩ (g.aJ [0] a ?_ kR));simp
 refine gv [-19] 2 a (by simp[z]) (a4 [-36] a bK (g.a2 (gF A d j (k1+1) 60 w k w) [0] a bn ?_));rintro⟨s,G,K⟩;by_cases E:s=0
 .refine a4 [41] a bv (g.bu ⟨(b++[65],(k1+1)+1),by grind,by grind,by grind⟩ (g.aJ [0] a ?_ kR));simp
 by_cases x:s=1
 .refine a4 [-41,45] a oW (g.a2 (Jt [97,98,99,100,101] 9 b' b') [] a bn ?_);rintro⟨i,r⟩;refine aR a B (g.bu ⟨(i,(k1+1)+1),r,by grind,by grind⟩ (g.aJ [0] a ?_ kR));simp
 refine a4 [-41,-45] a bv (g.bu ⟨(b,(k1+1)+1),by grind,by grind,by grind⟩ (g.aJ [0] a ?_ kR));simp
def Xy(A)(b:Nat->Int)(h:A<=1048576):bm (ι:={d:Nat // d<=1048576}) q 17 [ax (.B v 1 A (nl b))] [] (λ_=>aI 0 0) (λd=>[e7 d.1 b 0]):=by
 refine bm.cf func17 rfl rfl rfl λj=>?_;by_cases k:2000<A
 .refine a4 [5] a bK (g.bb [e7 2000 b 0] a ?_ (g.bu ⟨2000,by decide⟩ (g.aJ [0] a ?_ (λi e=>by grind))))
  .simp[bs,fJ,bW]
  simp
 exact a4 [-5] a bK (g.bu ⟨A,h⟩ (g.aJ [0] a D (λi e=>by grind)))
def C8:∀a,a<1->([0]:m Nat)[a]?=f a:=b'
def s9:∀a,a<2->([0,1]:m Nat)[a]?=f a:=b'
def gG:m c1->m X
 |[]=>[]
 |a::b=>.int .i64 a.1::jr a.2::gG b
def gz(b:m c1):Prop:=∀a∈b,a8 .i64 a.1/\c a.2<=9223372036854775807
theorem yu:∀a:m c1,c (gG a)=c a*2
 |[]=>rfl
 |d::b=>by simp only[gG,fs,yu b];omega
def J7:∀{d:m c1}{e:Nat},e<c d->(gG d)[e*2]?=f (.int .i64 (d.getD e (0,[])).1)/\(gG d)[e*2+1]?=f (jr (d.getD e (0,[])).2)
 |[],e,a=>absurd a (iS _)
 |g::b,0,_=>⟨rfl,rfl⟩
 |g::b,e+1,a=>by rw[show(e+1)*2=e*2+1+1 by omega];exact J7 (d:=b) (e:=e) N
def C_:∀b a:m c1,gG (b++a)=gG b++gG a
 |[],a=>rfl
 |d::b,a=>by simp only[uK,gG,C_ b a]
theorem J8:∀b(a:Nat)d,a<c b->gG (b.set a d)=(gG b).take (a*2)++[.int .i64 d.1,jr d.2]++(gG b).drop (a*2+2)
 |[],a,d,e=>absurd e (iS _)
 |g::b,0,d,_=>by simp[gG]
 |g::b,a+1,d,e=>by rw[List.set_cons_succ,gG,J8 b a d N,gG,show(a+1)*2=a*2+1+1 by omega,show a*2+1+1+2=(a*2+2)+1+1 by omega];simp
theorem C'{d}(o:gz d):et 2 (c d) (bH.fn d) (gG d):=by
 refine⟨yu d,λb _=>rfl,λb e p q a=>?_⟩;obtain⟨i,j⟩:=J7 e;obtain⟨m,g⟩:=o (d.getD b (0,[])) N;have k:bH.fn d b=[.int .i64 (d.getD b (0,[])).1,.S (d.getD b (0,[])).2]:=rfl;rw[k]at a
 match p,a with
 |0,a=>cases a;exact⟨_,i,λh=>Rd.int m⟩
 |1,a=>cases a;exact⟨_,j,λh=>Rd.S N g⟩
abbrev hg(a:X):y:=ax (.val a)
abbrev aM(a:fy)(d:Nat)(b:m c1):ar:=.K (ct 121 2 a d (gG b))
abbrev iD(b:Nat)(a:fy)(d:Nat):ar:=.K (eh b 274 (c5 a d))
abbrev sW(a:c1):y:=ax (.cE 121 [.int .i64 a.1,.S a.2])
abbrev x5(a:c1):y:=.n (.agg [.c (.int .i64 a.1),.c (.S a.2)])
theorem aeF{a:c1}(m:nd z [.c (.int .i64 a.1),.c (.S a.2)]):z=[.int .i64 a.1,jr a.2]:=by
 obtain⟨i,e⟩:=m
 match z,i with
 |[q,r],_=>
  obtain⟨o,h,b⟩:=e 0 _ rfl;obtain⟨p,j,d⟩:=e 1 _ rfl;cases h;cases j;have g:=b λ_ _=>n;have k:=(EO (d λ_ _=>n)).1;cases g;rw[k]
def S7{b d:ae}(e:r.op=.call {callee:=.builtin .append,args:=#[b,d],argTypes:=#[274,274]}):j9 S r b d 121 mH:=
 ⟨⟨274,274,Do,Do,e,(bb _ _ a),rfl,(bb _ _ a),rfl⟩,(bb _ _ a),by decide,by decide⟩
def CD(bQ)(j)(d):Y q 222 [hg (c5 bQ j)] [aM bQ j d] (R j) [aM bQ j d]:=by refine Y.I func222 rfl λb=>?_;refine gv [] 7 a B ?_;refine g.jk bb 0 a a a a a a a a ?_;exact aR a B (g.aJ [0] a a C8)
def CE(i cap){d}(k:gz d)(o:Nat)(b:e<c d)(j:u<c d):Y q 352 [hg (c5 (.row i cap) (c d)),R e,R u] [aM (.row i cap) (c d) d] (bg (decide ((d.getD e (0,[])).1<(d.getD u (0,[])).1))) [aM (.row i cap) (c d) d]:=by
 refine Y.I func352 rfl λm=>?_
 have h:=C' k;refine a4 [901] a B ?_;refine g.gf b6 [hg (c5 (.row i cap) (c d)),R e,hg (.pointer (f ⟨i,0+(e:Int).toNat*2,n⟩)),hg (.pointer (f ⟨i,0+(e:Int).toNat*2+0,n⟩)),R (d.getD e (0,[])).1,hg (c5 (.row i cap) (c d)),R u,hg (.pointer (f ⟨i,0+(u:Int).toNat*2,n⟩)),hg (.pointer (f ⟨i,0+(u:Int).toNat*2+0,n⟩)),R (d.getD u (0,[])).1,bg (decide ((d.getD e (0,[])).1<(d.getD u (0,[])).1))] 10 a a a a a ⟨
  aT.w,aT.w,aT.eval (bf:=[]) bb a'.nil a bv,aT.w,
  aT.aZ (j5 a) (a1.e_ (d:=0) (e:=e) (aj:=0) bb a a D a h a a b),
  aT.w,aT.w,aT.eval (bf:=[]) bb a'.nil a bv,aT.w,
  aT.aZ (j5 a) (a1.e_ (d:=0) (e:=u) (aj:=0) bb a a D a h a a j),
  aT.w,B⟩ ?_
 exact aR a B (g.aJ [0] a a C8)
def Ng{g m:ae}{cap}{d}{aa}(u:r.op=.store o g m)(s:b0 eU o=f mH)(b:off=e*2)(t:bE J g=cM (.pointer (f ⟨i,off,n⟩)))(p:mv (bE J m)=f [.c (.int .i64 aa.1),.c (.S aa.2)])(z:c d=j)(w:e<c d)(y:r.guard=n):
  aT q F all r J [aM (.row i cap) j d] .any [aM (.row i cap) j (d.set e aa)]:=by subst b;have x:=ei.eP (F:=F) (k:=[aM (.row i cap) j d]) bb 0 (W:=121) (h:=2) (j:=j) (i:=i) (cap:=cap) (off:=e*2) (ah:=gG d) u s t p a a a (by grind[yu]);grind[aeF,J8,aT.ev]
abbrev Nk(d a:Nat)(b:m c1)(e g:Nat)(h i:Bool):m ar:=match h with
 |false=>[aM (.row d a) (c b) b]
 |true=>match i with
  |false=>[aM (.row d a) (c b) (b.set e (b.getD g (0,[])))]
  |true=>[aM (.row d a) (c b) (jD b e g)]
def CF(i cap){d}(o:gz d)(b:e<c d)(k:u<c d):Y q 355 [hg (c5 (.row i cap) (c d)),R e,R u] [aM (.row i cap) (c d) d] (.T []) [aM (.row i cap) (c d) (jD d e u)]:=by
 refine Y.I func355 rfl λr=>?_;have x:=C' o;refine a4 [900] a B ?_;let h:Nat->y:=λp=>([hg (c5 (.row i cap) (c d)),R e,hg (c5 (.row i cap) (c d)),R u,hg (c5 (.row i cap) (c d)),R u,hg (.pointer (f ⟨i,0+(u:Int).toNat*2,n⟩)),x5 (d.getD u (0,[])),hg (c5 (.row i cap) (c d)),R e,hg (.pointer (f ⟨i,0+(e:Int).toNat*2,n⟩)),x5 (d.getD e (0,[])),hg (.pointer (f ⟨i,0+(e:Int).toNat*2,n⟩)),.any,hg (.pointer (f ⟨i,0+(u:Int).toNat*2,n⟩))]:m y).getD p .any
 refine g.b9 b6 h (mC (Nk i cap d e u) 13 15) a a a a ⟨
  .ba,.ba,.ba,.ba,.ba,.ba,
  .c8 bb a'.nil,
  bV.ha a a a a (aT.aZ (j5 a) (a1.e_ (d:=0) (e:=u) (aj:=0) bb a a D a x a a k)),
  .ba,.ba,
  .c8 bb a'.nil,
  bV.ha a a a a (aT.aZ (j5 a) (a1.e_ (d:=0) (e:=e) (aj:=0) bb a a D a x a a b)),
  .c8 bb a'.nil,
  bV.eM a a ?_,
  .c8 bb a'.nil,
  bV.eN a a ?_,B⟩ ?_
 .exact Ng a a D a a a b a
 .exact Ng a a D a a D N a
 intro y j;show g q _ _ _ _ _ (Nk i cap d e u (y 13) (y 15));rw[j 13 b',j 15 b'];exact bZ.dm [0] a B a a a C8
def VK(C)(bQ){d}(z:gz d)(D:c d<=1000){b}(A:c b.2<=9223372036854775807):
  bm (ι:=fy) q 354 [hg (.pointer (f ⟨C,0,n⟩)),sW b] [iD C bQ (c d),aM bQ (c d) d] (λ_=>.T []) (λe=>[iD C e (c d+1),aM e (c d+1) (d++[b])]):=by
 refine bm.cf func354 rfl rfl rfl λx=>?_;refine a4 [900] a B ?_;have k:=tP bQ (c d);refine g.eI (ι:=fy) b6 7 8 10 (λi=>ay i 6) (λi=>([hg (.pointer (f ⟨C,0,n⟩)),hg (.pointer (f ⟨C,0,n⟩)),hg (.pointer (f ⟨C,0,n⟩)),hg (c5 bQ (c d)),sW b,x5 b,ax (.B l 2 1 λp=>([[.int .i64 b.1,.S b.2]]:m (m M)).getD p [])]:m y).getD i .any) (λe _=>hg (c5 e (c d+1))) (λe=>[iD C bQ (c d),.K (ct 121 2 e (c d+1) (gG d++[.int .i64 b.1,jr b.2]))])
  rfl rfl rfl rfl rfl rfl rfl (λi w=>by exact lO) rfl
  ⟨aT.w,aT.w,aT.aZ (j5 a) (a1.dW a a),aT.eF bb 0 a a a a a k a,aT.w,aT.aZ (j5 a) (a1.f_ (ai:=[.int .i64 b.1,.S b.2]) bb a a a a),aT.w,B,B,B,B⟩
  (λe=>⟨aT.w,aT.w,aT.aZ (j5 a) (a1.dW a a),aT.eF bb 0 a a a a a k a,aT.w,aT.aZ (j5 a) (a1.f_ (ai:=[.int .i64 b.1,.S b.2]) bb a a a a),aT.w,B,B⟩)
  (dX.ev a (ei.fv (d:=1) (bQ:=bQ) (ah:=gG d) (j:=c d) (h9:=[.int .i64 b.1,jr b.2]) (S7 a) a a a a a (λt E r u h s=>?_) An)) λe=>?_
 .match r,h with
  |0,h=>cases h;cases s;exact bF
  |1,h=>grind[EO]
 have o:=tP e (c d+1);refine g.aL (a1.dW a a) a a ?_;refine g.hZ bb 0 a a a a a (by cases e<;>rfl) o a a a ?_;refine aR a B ⟨e,bZ.dm [0,1] a B ?_ a a s9⟩;show f [_,ar.K (ct _ _ _ _ (gG d++_))]=f [_,ar.K (ct _ _ _ _ (gG (d++[b])))];rw[C_];rfl
def ct.cut{cap}{d}{e}(k:ct W 2 (.row i cap) (c d+1) (gG (d++[e])) aa lc):ct W 2 (.row i cap) (c d) (gG d) aa lc:=by obtain⟨a,b,r,p,h,j,o,q⟩:=k;rw[C_]at *;refine⟨a,λm g=>b m (A3 _ g),yu d,by omega,h,gG [e]++j,N,?_⟩;grind
def VJ(C i cap){d}{b}(p:gz (d++[b]))(r:c d<=1000)(h:c d+1<=cap):
  Y q 353 [hg (.pointer (f ⟨C,0,n⟩))] [iD C (.row i cap) (c d+1),aM (.row i cap) (c d+1) (d++[b])] (sW b) [iD C (.row i cap) (c d),aM (.row i cap) (c d) d]:=by
 refine Y.I func353 rfl λo=>?_;have j:et 2 (c d+1) (bH.fn (d++[b])) (gG (d++[b])):=by grind[C',List.length_append]
 refine aR a B (g.aL (a1.dW a a) a a ?_);refine g.R (aT.eF bb 0 a a a a a a a) a ?_;refine aR a bF (g.aL (a1.dW a a) a a ?_);refine g.R (aT.eF bb 0 a a a a a a a) a ?_;refine aR a bv (g.aL (a1.e_ (d:=1) (e:=c d) (aj:=0) bb a a (by simp[show mH.size=2 from a]) a j a a D) a a ?_);refine aR a B (g.aL (a1.dW a a) a a ?_);refine g.R (aT.eF bb 0 a a a a a a a) a ?_;refine aR a B (g.aL (a1.jU bb a a a a a a h w w) a a ?_);rw[show(((c d+1:Nat):Int)-1).toNat=c d from by omega];refine g.aL (a1.dW a a) a a ?_;refine g.hZ bb 0 a a a a a a a a a a ?_;refine gv [] 2 a B (g.gA (ι:=Unit) 1 (λ_=>ct 121 2 (.row i cap) (c d) (gG d)) a (λs k m=>⟨(),ct.cut m⟩) λ_=>?_);refine aR a B (g.aJ [0,1] a ?_ s9);simp
abbrev sX(a:Nat):y:=ax (.cg 273 (.val (.pointer (f ⟨a,0,n⟩))))
section
variable {k:m ar}{d C j:Nat}{bQ:fy}(x:da d k=f (iD C bQ j))
include x
def J0:n0 S k 273 (.pointer (f ⟨C,0,n⟩)) "Len" 222 (c5 bQ j):=.deref bb (l2 type273) rfl rfl rfl underlying273 x rfl (tP bQ j) rfl
def CZ:n0 S k 273 (.pointer (f ⟨C,0,n⟩)) "Less" 352 (c5 bQ j):=.deref bb (l2 type273) rfl rfl rfl underlying273 x rfl (tP bQ j) rfl
def C1:n0 S k 273 (.pointer (f ⟨C,0,n⟩)) "Swap" 355 (c5 bQ j):=.deref bb (l2 type273) rfl rfl rfl underlying273 x rfl (tP bQ j) rfl
end
def Y9{k}{aa}:n0 S k 273 aa "Push" 354 aa:=.ptr (l2 type273) rfl rfl rfl underlying273
def Y8{k}{aa}:n0 S k 273 aa "Pop" 353 aa:=.ptr (l2 type273) rfl rfl rfl underlying273
theorem tT{d}(h:gz d){e u}(a:e<c d)(b:u<c d):gz (jD d e u):=λi g=>h i (ac' a b g)
theorem Fa:∀b(d:m c1)a,a<b->je b d a=je (a+1) d a
 |0,_,_,g=>absurd g (iS _)
 |b+1,d,a,g=>by
  rw[je,je];by_cases e:(a-1) / 2=a
  .grind
  rw[bj e,bj e];split
  .have s:(a-1) / 2<a:=w;rw[Fa b _ _ w,Fa a _ _ s]
  simp
def VL(C i cap){d}(t:gz d)(M:c d<=1000){u}(A:u<c d):
  Y q 279 [sX C,R u] [iD C (.row i cap) (c d),aM (.row i cap) (c d) d] (.T []) [iD C (.row i cap) (c d),aM (.row i cap) (c d) (je (u+1) d u)]:=by
 refine Y.I func279 rfl λK=>?_;refine gv [] 3 a B (g.dH 2 [0] (λb:m c1×Nat=>gz b.1/\c b.1=c d/\b.2<c d/\je (u+1) d u=je (b.2+1) b.1 b.2) (λb=>[(1,R b.2)]) (λb=>[iD C (.row i cap) (c b.1),aM (.row i cap) (c b.1) b.1]) (λb=>b.2) (d,u) a D a D a ⟨t,a,A,a⟩ ?_);rintro⟨b,e⟩ ⟨p,F,I,j⟩;simp only at p F I j;cases e with
 |zero=>
  have o:je (0+1) b 0=b:=by rw[je,bl a]
  rw[o]at j;rw[j];refine gv [] 5 a lD (g.aL (KG (h:=.i64) 0 a a a lD (λJ=>rfl) (λJ=>rfl)) a a ?_);refine a4 [11,17] a D (g.aA ?_);exact PU
 |succ e=>
  refine a4 [-11,901] a lO ?_;have E:(((e+1:Nat):Int)-1) / 2=((e / 2:Nat):Int):=w;rw[E];have z:(e+1-1) / 2=e / 2:=N;have s:e / 2<c b:=w;have r:e+1<c b:=w;have o:je (e+1+1) b (e+1)=if nK b (e+1) (e / 2)=l then je (e+1) (jD b (e / 2) (e+1)) (e / 2)else b:=by rw[je,bj w,z]
  rw[o]at j;refine g.region ?_;refine a4 [-11] a bv (g.dq (CE i cap p (c b) r s).tocI [1] (CZ (d:=0) a) a a a a a a a a bn a bn a λ_=>?_);by_cases k:nK b (e+1) (e / 2)=l
  .rw[bl k]at j;have y:=rp k;refine a4 [-17] a du (g.dq (CF i cap p s r).tocI [1] (C1 (d:=0) a) a a a a a a a a bn a bn a λ_=>?_);refine aR a B (g.az (jD b (e / 2) (e+1),e / 2) a D ?_ ?_ ?_)
   .simp[pI]
   .grind [tT,pI,Fa]
   grind
  rw[bj k]at j;rw[j];have y:¬(b.getD (e+1) (0,[])).1<(b.getD (e / 2) (0,[])).1:=λx=>k (fa x);refine a4 [17] a du (g.aA ?_);exact PU
def Kp{k}{e j}{bQ}{d}(s:da e k=f (aM bQ j d))(r:0<j)(b)(i:bc k b):∃h g,bQ=.row h g/\j<=g:=by
 have m:=ew s;obtain⟨h,g,rfl⟩:=(ct.len m b i).2.2.1 r;have o:e<c b.t:=by rw[i.len];grind
 obtain⟨p,q,_⟩:=i.box e _ _ m (bJ o);exact⟨h,g,a,q.2.2.2.1⟩
def VY(C)(bQ){d}(k:gz d)(A:c d<=100){E}(t:a8 .i64 E.1/\c E.2<=9223372036854775807):
  bm (ι:=fy) q 220 [sX C,sW E] [iD C bQ (c d),aM bQ (c d) d] (λ_=>.T []) (λh=>[iD C h (c d+1),aM h (c d+1) (hQ d E)]):=by
 refine bm.cf func220 rfl rfl rfl λz=>?_;refine aR a B (g.dq (VK C bQ k w t.2) [0,1] Y9 a a a a a a a a bn a bn a λh=>?_);have p:gz (d++[E]):=λx r=>by
  rcases fG.1 r with o|o
  .exact k x o
  grind
 refine g.fD (Kp (e:=1) (j:=c d+1) (bQ:=h) (d:=d++[E]) a w) λs=>?_;obtain⟨i,b,rfl,y⟩:=s;refine aR a B (g.dq (CD (.row i b) (c d+1) (d++[E])).tocI [1] (J0 (d:=0) a) a a a a a a a a bn a bn a λ_=>?_);refine aR a bF ?_;rw[show((c d+1:Nat):Int)-1=(c d:Nat) by omega];have m:=VL (q:=q) C i b p N (u:=c d) D;rw[dm,gC]at m;exact g.aB m [0,1] a (aR a B ⟨.row i b,bZ.dm [0,1] a B a a a s9⟩)
theorem yb:∀e g(d:m c1)a b,b<=a+e->b<=a+g->hh e d a b=hh g d a b
 |0,0,_,_,_,_,_=>rfl
 |0,g+1,d,a,b,h,_=>by rw[hh,hh,bl w]
 |e+1,0,d,a,b,_,h=>by rw[hh,hh,bl w]
 |e+1,g+1,d,a,b,j,k=>by
  have i:a<jv d a b:=Ge;rw[hh,hh];split
  .rfl
  split
  .exact yb e g _ _ _ w w
  simp
def VI(C i cap j){d}(I:gz d)(O:j<=c d)(V:c d<=1000):
  Y q 283 [sX C,R 0,R j] [iD C (.row i cap) (c d),aM (.row i cap) (c d) d] .any [iD C (.row i cap) (c d),aM (.row i cap) (c d) (hh j d 0 j)]:=by
 refine Y.I func283 rfl λQ=>?_;refine cA a B (g.dH 2 [0,1,2] (λb:m c1×Nat=>gz b.1/\c b.1=c d/\b.2<=j/\hh j d 0 j=hh j b.1 b.2 j) (λb=>[(7,R b.2)]) (λb=>[iD C (.row i cap) (c b.1),aM (.row i cap) (c b.1) b.1]) (λb=>j-b.2) (d,0) a D a D a ⟨I,a,by omega,a⟩ ?_);rintro⟨b,e⟩ ⟨p,K,N,h⟩;simp only at p K N h;by_cases F:j<=2*e+1
 .have x:hh j b e j=b:=by rw[yb j (j+1) _ _ _ w w,hh,bl F]
  rw[x]at h;rw[h];refine a4 [17,21] a Sm (g.aA ?_);exact Pa
 have y:e<jv b e j/\jv b e j<j:=Ge;have x:hh j b e j=if nK b (jv b e j) e=l then hh j (jD b e (jv b e j)) (jv b e j) j else b:=by rw[yb j (j+1) _ _ _ w w,hh,bj F]
 rw[x]at h;have J:2*e+1<c b:=w;have A:e<c b:=w;have z:2*(e:Int)+1=((2*e+1:Nat):Int):=w;have M:((2*e+1:Nat):Int)+1=((2*e+2:Nat):Int):=w;refine a4 [-17,-21,904] a Sl ?_;rw[z];refine a4 [906] a Sl ?_;rw[M];apply g.cj [(0,sX C),(1,R 0),(2,R j),(7,R e),(9,R (jv b e j))] [iD C (.row i cap) (c b),aM (.row i cap) (c b) b]
 .intro dy;by_cases E:2*e+2<j
  .refine g.region ?_;refine a4 [28] a bv (g.dq (CE i cap p (c b) (e:=2*e+2) (u:=2*e+1) w J).tocI [1] (CZ (d:=0) a) a a a a a a a a bn a bn a λ_=>?_);by_cases s:nK b (2*e+2) (2*e+1)=l
   .have r:jv b e j=2*e+2:=bl ⟨E,s⟩;refine a4 [33,908] a (by simpa using rp s) (dy _ _ a ?_);simp[r]
   have r:jv b e j=2*e+1:=bj λk=>s k.2;have t:¬(b.getD (2*e+2) (0,[])).1<(b.getD (2*e+1) (0,[])).1:=λk=>s (fa k);refine a4 [-33,908] a (by simpa using t) (dy _ _ a ?_);simp[r]
  have r:jv b e j=2*e+1:=bj λk=>E k.1;refine a4 [-28,-33,908] a bv (dy _ _ a ?_);simp[r]
 generalize jv b e j=o at *;obtain⟨T,S⟩:=y;refine g.region ?_;refine aR a B (g.dq (CE i cap p (c b) (e:=o) (u:=e) w A).tocI [1] (CZ (d:=0) a) a a a a a a a a bn a bn a λ_=>?_);by_cases s:nK b o e=l
 .rw[bl s]at h;refine a4 [-39] a (by simpa using rp s) (g.dq (CF i cap p A (show o<c b by omega)).tocI [1] (C1 (d:=0) a) a a a a a a a a bn a bn a λ_=>?_);refine aR a B (g.az (jD b e o,o) a D ?_ ?_ ?_)
  .simp[pI]
  .grind [tT,pI]
  grind
 rw[bj s]at h;rw[h];have t:¬(b.getD o (0,[])).1<(b.getD e (0,[])).1:=λk=>s (fa k);refine a4 [39] a (by simpa using t) (g.aA ?_);exact Pa
def Cw{j}:∀e{a:m c1}(d:Nat),gz a->d<c a->j<=c a->gz (hh e a d j)
 |0,_,_,b,_,_=>b
 |e+1,a,d,b,g,i=>by
  rw[hh];split
  .exact b
  have h:jv a d j<j:=Ge;split
  .exact Cw e _ (tT b g w) pR pR
  grind
def VX(C i cap){d}{j}(k:gz d)(r:c d=j+1)(y:j<=100)(s:j+1<=cap):
  Y q 223 [sX C] [iD C (.row i cap) (j+1),aM (.row i cap) (j+1) d] (sW ((hl d).getD j (0,[]))) [iD C (.row i cap) j,aM (.row i cap) j ((hl d).take j)]:=by
 refine Y.I func223 rfl λA=>?_;refine aR a B (g.dq (CD (.row i cap) (j+1) d).tocI [1] (J0 (d:=0) a) a a a a a a a a bn a bn a λ_=>?_);refine aR a bF ?_;rw[show((j+1:Nat):Int)-1=((j:Nat):Int) by omega];have p:=CF (q:=q) i cap k (e:=0) (u:=j) w w;rw[r]at p;refine g.dq p.tocI [1] (C1 (d:=0) a) a a a a a a a a bn a bn a λ_=>?_;have m:=tT k (e:=0) (u:=j) w w;have h:=VI (q:=q) C i cap j m pR pR;have b:=Cw (j:=j) j 0 m pR pR;have o:hh j (jD d 0 j) 0 j=hl d:=by unfold hl;grind[yb]
 rw[pI,r,o]at h;rw[o]at b;have x:hl d=(hl d).take j++[(hl d).getD j (0,[])]:=by
  have E:c (hl d)=j+1:=by grind[L8]
  apply p8
  .grind
  grind
 generalize(hl d).getD j (0,[])=F at *;have t:c ((hl d).take j)=j:=N;generalize(hl d).take j=z at *;rw[x]at h b;subst t;refine aR a B (g.aB h [0,1] a (aR a B (g.dq (VJ C i cap b w s).tocI [0,1] Y8 a a a a a a a a bn a bn a λ_=>?_)));refine aR a B (g.aJ [0,1] a D s9)
def aaK{ac}{e g:ae}(t:r.op=.binOp op o e g ty){s}{cy}(j:P.underlying o=f (.interface cy))(z:η e=ax .bD)(y:η g=ax (.val (.iface ac aa)))(x:∀p,(eqGuard op o e g .nilIface (.iface ac aa)).run P p=.ok () p)(aj:∀p a,(eqGuard op o e g .nilIface (.iface ac aa)).events P p a=a)(d:ij op v=f s):a1 P r η k (ax (.bool s)) k:=by
 refine .aR λb u D w=>?_;have q:=w e;have m:=w g;rw[z]at q;rw[y]at m;replace q:=b8 q;replace m:=b8 m;generalize i:u e=A at q;generalize O:u g=B at m;cases q;cases m;have h:(Op.equal o .nilIface (.iface ac aa)).run P b.a=.ok v b.a:=Rz;have C:∀a,(Op.equal o .nilIface (.iface ac aa)).events P b.a a=a:=λa=>by show(aK (9999+1) o _ _).events P b.a a=a;unfold aK;simp[underlying,j]
 cases op<;>simp only[ij,reduceCtorEq,e']at d
 .exact Rn
 exact QO
abbrev TX(a:X):y:=ax (.val a)
def Jg(ac)(aa):Y q 276 [ax .bD,TX (.iface ac aa)] [] (bg v) []:=by refine Y.I func276 rfl λb=>?_;refine aR a B ?_;refine g.aL (DV a underlying179 a a a) a a ?_;refine a4 [11] a D ?_;refine g.aL (aaK a underlying179 a a bn (λ_ _=>rfl) a) a a ?_;exact aR a B (g.aw a a)
abbrev iu(b a:an×X):m ar:=[.K (eh 2 179 (.iface b.1 b.2)),.K (eh 3 179 (.iface a.1 a.2))]
def qs:∀a,a<2->([0,1]:m Nat)[a]?=f a:=b'
def CK(i e)(h)(d)(j:ce h=l)(m:cC d=l):Y q 216 [R h,b2 d] (iu i e) (R (d8 h d)) (iu i e):=by refine Y.I func216 rfl λk=>?_;have b:a' q [(275,ek c7 eL (λh d=>Cs (d8 h d)) λh d=>[ce h=l,cC d=l])]:=.cons ER .nil;refine b9 b a du ?_;refine g.R (aT.gn bb 0 a a a a a a) a ?_;refine g.aB (Jg _ _) [] a ?_;refine b9 b a B ?_;refine g.R (aT.gn bb 1 a a a a a a) a ?_;refine g.iA (Jg _ _) [] a a a a a a a a a a a ?_;exact a_ b [-20] a D (g.aJ [0,1] a a qs)
end
section
open Go.Sort (swp insInner insOuter ltInt)
variable {q:af S}
def Wn(j):Y q 303 [R j] [] (bg v) []:=by refine Y.I func303 rfl λb=>?_;exact a4 [-5] a D (g.aw a)
abbrev HK:bI:=dc c7 (λ_=>bg v) λ_=>[]
def adZ:bL q 303 HK:=.a9 λa _=>Wn a
def WM(b d):Y q 265 [R b,R d] [] (bg (ltInt b d)) []:=by have e:a' q [(303,HK)]:=.cons adZ .nil;refine Y.I func265 rfl λh=>?_;refine b9 e a D (g.aw a ?_);simp[ltInt]
abbrev qi:bI:=ek c7 c7 (λa b=>bg (ltInt a b)) λ_ _=>[]
def sc:bL q 265 qi:=.bl λa b _=>WM a b
def s0(a:Array Int)(b:Nat):m M:=[.int .i64 a[b]!]
abbrev dK(a:Nat):y:=cE 0 (.B a 1 0 a)
abbrev cF(b:Nat)(a:Array Int):ar:=.q 3 1 b (s0 a)
def hi:∀a,a<1->([0]:m Nat)[a]?=f a:=λa b=>by grind
end
section
open Go.Sort (swp insInner insOuter insertionSort ltInt)
variable {q:af S}
def lh{a}(q:a.size=j)(k:e<j)(o:u<j){g:Nat->m M}(h:bs j g (s0 a)):bs j (l' u [.int .i64 a[e]!] (l' e [.int .i64 a[u]!] g)) (s0 (swp a e u)):=by
 intro b d;have p:(swp a e u)[b]! = if b=u then a[e]! else if b=e then a[u]! else a[b]! := by unfold swp;grind
 have i:=h b d;simp only[s0,l']at i⊢;grind
theorem nR(a:Array Int)(e u):(swp a e u).size=a.size:=by simp[swp]
theorem Z8{b}{a}(e:b<u)(d:ltInt a[u]! a[u-1]! = l):insInner ltInt b u a=insInner ltInt b (u-1) (swp a u (u-1)):=by
 cases u with
 |zero=>omega
 |succ u=>
  simp only[p5]at d⊢;rw[insInner,bl];grind
def KF{b}{a}(d:b<u->ltInt a[u]! a[u-1]! = v):insInner ltInt b u a=a:=by
 cases u with
 |zero=>rfl
 |succ u=>
  simp only[p5]at d;rw[insInner,bj];grind
theorem Wj(j)(m)(d i)(A:m.size=j)(K:i<=j)(J:d<=j)(M:j<=4000000):
  Y q 259 [dK j,R d,R i] [cF j m] (.T []) [cF j (insertionSort ltInt m d i)]:=by
 have u:a' q [(265,qi)]:=.cons sc .nil;refine Y.I func259 rfl λI=>?_;refine aR a bF (g.aH 1 (λb:Nat×Array Int=>b.2.size=j/\d+1<=b.1/\b.1<=j+1/\insOuter ltInt d i b.1 b.2=insertionSort ltInt m d i) (λb=>[(0,dK j),(1,R d),(2,R i),(6,R b.1)]) (λb=>[cF j b.2]) (λb=>i-b.1) (d+1,m) a D a D a ⟨A,by omega,by grind,a⟩ ?_);rintro⟨e,d1⟩ ⟨y,t,z,o⟩;simp only at y t z o;by_cases s:e<i
 .refine a4 [12] a bK (g.aH 1 (λb:Nat×Array Int=>b.2.size=j/\b.1<=e/\insInner ltInt d b.1 b.2=insInner ltInt d e d1) (λb=>[(0,dK j),(1,R d),(2,R i),(6,R e),(7,R b.1)]) (λb=>[cF j b.2]) (λb=>b.1) (e,d1) a D a D a ⟨y,by simp,a⟩ ?_);rintro⟨k,d2⟩ ⟨p,C,r⟩;simp only at p C r;by_cases E:d<k
  .have h:((k:Int)-1).toNat=k-1:=w;by_cases x:ltInt d2[k]! d2[k-1]! = l
   .refine a_ u [18,29] a ?_ ?_
    .simp[a8,h,x];omega
    refine g.az (k-1,swp d2 k (k-1)) a bK ?_ ?_ ?_
    .simp only[U.Y,U,h,cV,cW,a9,ba];exact lh p w w (λ_ _=>rfl)
    .refine⟨by grind[nR],by omega,?_⟩;grind[Z8]
    omega
   refine a_ u [18,-29] a ?_ (g.aA ?_)
   .simp[a8,h,x];omega
   refine aR a bF (g.az (e+1,d2) a D D ?_ ?_)
   .refine⟨p,by omega,by grind,?_⟩;simp only;rw[<-o,insOuter.eq_1 ltInt d i e,bl s,<-r,KF λ_=>by grind]
   omega
  refine a_ u [-18] a bv (g.aA ?_);refine aR a bF (g.az (e+1,d2) a D D ?_ ?_)
  .refine⟨p,by omega,by grind,?_⟩;simp only;rw[<-o,insOuter.eq_1 ltInt d i e,bl s,<-r,KF λF=>absurd F E]
  omega
 refine a4 [-12] a bK (g.aA ?_);have:insertionSort ltInt m d i=d1:=by rw[<-o,insOuter,bj s]
 rw[this];exact sn
end
section
open Go.Sort (swp siftDown ltInt)
variable {q:af S}
def acA{bp first root}{a}(b:¬2*root+1<bp):siftDown ltInt bp first root a=a:=by rw[siftDown,dif_pos w]
theorem M0{bp first root}{a}(e:2*root+1<bp)(b:2*root+1+1<bp->ltInt a[first+(2*root+1)]! a[first+(2*root+1)+1]! = v)(d:ltInt a[first+root]! a[first+(2*root+1)]! = l):
  siftDown ltInt bp first root a=siftDown ltInt bp first (2*root+1) (swp a (first+root) (first+(2*root+1))):=by rw[siftDown.eq_1 ltInt bp first root a,dif_neg w,bj N,bj N]
theorem M1{bp first root}{a}(e:2*root+1<bp)(b:2*root+1+1<bp->ltInt a[first+(2*root+1)]! a[first+(2*root+1)+1]! = v)(d:ltInt a[first+root]! a[first+(2*root+1)]! = v):
  siftDown ltInt bp first root a=a:=by rw[siftDown.eq_1 ltInt bp first root a,dif_neg w,bj N,bl N]
theorem acy{bp first root}{a}(e:2*root+1+1<bp)(b:ltInt a[first+(2*root+1)]! a[first+(2*root+1+1)]! = l)(d:ltInt a[first+root]! a[first+(2*root+1+1)]! = l):
  siftDown ltInt bp first root a=siftDown ltInt bp first (2*root+1+1) (swp a (first+root) (first+(2*root+1+1))):=by rw[siftDown.eq_1 ltInt bp first root a,dif_neg w,bl N,bj N,dif_pos w]
theorem acz{bp first root}{a}(e:2*root+1+1<bp)(b:ltInt a[first+(2*root+1)]! a[first+(2*root+1+1)]! = l)(d:ltInt a[first+root]! a[first+(2*root+1+1)]! = v):
  siftDown ltInt bp first root a=a:=by rw[siftDown.eq_1 ltInt bp first root a,dif_neg w,bl N,bl N]
theorem Yf(j)(k)(d b first:Nat)(r:k.size=j)(D:first+b<=j)(t:d<=j)(E:j<=4000000):
  Y q 298 [dK j,R d,R b,R first] [cF j k] (.T []) [cF j (siftDown ltInt b first d k)]:=by
 have m:a' q [(265,qi)]:=.cons sc .nil;refine Y.I func298 rfl λz=>?_;refine aR rfl B (g.aH 1 (λe:Nat×Array Int=>e.2.size=j/\e.1<=j/\siftDown ltInt b first e.1 e.2=siftDown ltInt b first d k) (λe=>[(0,dK j),(1,R d),(2,R b),(3,R first),(8,R e.1)]) (λe=>[cF j e.2]) (λe=>b-e.1) (d,k) rfl ?_ rfl ?_ rfl ⟨r,t,rfl⟩ ?_)
 .simp
 .simp
 rintro⟨root,d1⟩ ⟨u,y,o⟩;simp only at u y o;by_cases p:2*root+1<b
 .have s:((first:Int)+(2*(root:Int)+1)).toNat=first+(2*root+1):=w
  have ak:((first:Int)+(2*(root:Int)+1)+1).toNat=first+(2*root+1+1):=w
  by_cases A:2*root+1+1<b
  .by_cases C:ltInt d1[first+(2*root+1)]! d1[first+(2*root+1+1)]! = l
   .have h:((first:Int)+(2*(root:Int)+1+1)).toNat=first+(2*root+1+1):=w
    have x:((first:Int)+(root:Int)).toNat=first+root:=w
    by_cases i:ltInt d1[first+root]! d1[first+(2*root+1+1)]! = l
    .refine bd m [-16,20,35,51] rfl ?_ (g.az (2*root+1+1,swp d1 (first+root) (first+(2*root+1+1))) rfl ?_ ?_ ?_ ?_)
     .exact Rj
     .simp
     .simp only[U.Y,U,cV,s,ak,x,h,a9,ba];exact lh u w w (λ_ _=>rfl)
     .grind [nR,acy]
     grind
    rw[p9]at i;rw[show siftDown ltInt b first d k=d1 by grind[acz]];refine bd m [-16,20,35,-51] a ?_ (g.aS (bZ.mk [0] a B a a a hi));exact Rj
   rw[p9]at C;have x:((first:Int)+(root:Int)).toNat=first+root:=w
   by_cases i:ltInt d1[first+root]! d1[first+(2*root+1)]! = l
   .refine bd m [-16,20,-35,51] rfl ?_ (g.az (2*root+1,swp d1 (first+root) (first+(2*root+1))) rfl ?_ ?_ ?_ ?_)
    .exact O3
    .simp
    .exact P4
    .grind [nR,M0]
    grind
   rw[p9]at i;rw[show siftDown ltInt b first d k=d1 by grind[M1]];refine bd m [-16,20,-35,-51] a ?_ (g.aS (bZ.mk [0] a B a a a hi));exact O3
  have C:True:=B;have x:((first:Int)+(root:Int)).toNat=first+root:=w
  by_cases i:ltInt d1[first+root]! d1[first+(2*root+1)]! = l
  .refine bd m [-16,-20,51] rfl ?_ (g.az (2*root+1,swp d1 (first+root) (first+(2*root+1))) rfl ?_ ?_ ?_ ?_)
   .exact P0
   .simp
   .exact P4
   .grind [nR,M0]
   grind
  rw[p9]at i;rw[show siftDown ltInt b first d k=d1 by grind[M1]];refine bd m [-16,-20,-51] a ?_ (g.aS (bZ.mk [0] a B a a a hi));exact P0
 refine a4 [16] a sr (g.aA ?_);rw[<-o,acA p];exact sn
end
section
open Go.Sort (swp order2 median medianAdjacent choosePivot Hint ltInt)
variable {q:af S}
abbrev mt(a:Nat):ar:=.cells 3 [.c (.int .i64 a)]
abbrev sZ:y:=aI 1 0
abbrev adK(a b:Nat):y:=.T [.R (.c (.int .i64 a)),.R (.c (.int .i64 b))]
def yt:∀a,a<2->([0,1]:m Nat)[a]?=f a:=λa b=>by grind
def CN(j)(e)(d i b)(r:d<j)(s:i<j)(t:j<=4000000)(o:b<=1000):
  Y q 317 [dK j,R d,R i,sZ] [cF j e,mt b] (adK (order2 ltInt e d i b).1 (order2 ltInt e d i b).2.1) [cF j e,mt (order2 ltInt e d i b).2.2]:=by
 have m:a' q [(265,qi)]:=.cons sc .nil;refine Y.I func317 rfl λp=>?_;by_cases h:ltInt e[i]! e[d]! = l
 .have k:order2 ltInt e d i b=(i,d,b+1):=by simp[order2,h]
  rw[k];refine bd m [18] a ?_ (g.aJ [0,1] a ?_ yt)
  .simp only[U,cV,cW,h,a8,ba,a9];exact fE
  simp
 have k:order2 ltInt e d i b=(d,i,b):=by simp[order2,h]
 rw[k];rw[p9]at h;refine bd m [-18] a du (g.aJ [0,1] a ?_ yt);simp
def vW{O}{a e2}(b:a<j)(d:i<j):(order2 ltInt O a i e2).1<j/\(order2 ltInt O a i e2).2.1<j/\(order2 ltInt O a i e2).2.2<=e2+1:=by unfold order2;split<;>simp only<;>omega
theorem Ju(j)(O)(b i s e2)(h:b<j)(k:i<j)(m:s<j)(e:j<=4000000)(p:e2<=900):
  Y q 302 [dK j,R b,R i,R s,sZ] [cF j O,mt e2] (R (median ltInt O b i s e2).1) [cF j O,mt (median ltInt O b i s e2).2]:=by refine Y.I func302 rfl λr=>?_;have d:=vW (O:=O) (e2:=e2) h k;have o:=vW (O:=O) (e2:=(order2 ltInt O b i e2).2.2) d.2.1 m;refine cA a B (g.aB (CN j O b i e2 h k e w) [0,1] a (cA a B (g.aB (CN j O (order2 ltInt O b i e2).2.1 s (order2 ltInt O b i e2).2.2 d.2.1 m e w) [0,1] a (cA a B (g.aB (CN j O (order2 ltInt O b i e2).1 (order2 ltInt O (order2 ltInt O b i e2).2.1 s (order2 ltInt O b i e2).2.2).1 (order2 ltInt O (order2 ltInt O b i e2).2.1 s (order2 ltInt O b i e2).2.2).2.2 d.1 o.1 e w) [0,1] a (cA a B (g.aJ [0,1] a ?_ yt)))))));simp[median]
def aax{O}{a s e2}(d:a<j)(g:i<j)(h:s<j):(median ltInt O a i s e2).1<j/\(median ltInt O a i s e2).2<=e2+3:=by have b:=vW (O:=O) (e2:=e2) d g;have e:=vW (O:=O) (e2:=(order2 ltInt O a i e2).2.2) b.2.1 h;have k:=vW (O:=O) (e2:=(order2 ltInt O (order2 ltInt O a i e2).2.1 s (order2 ltInt O a i e2).2.2).2.2) b.1 e.1;unfold median;grind
theorem Xg(j)(e)(b d:Nat)(s:1<=b)(t:b+1<j)(p:j<=4000000)(o:d<=900):
  Y q 301 [dK j,R b,sZ] [cF j e,mt d] (R (medianAdjacent ltInt e b d).1) [cF j e,mt (medianAdjacent ltInt e b d).2]:=by
 refine Y.I func301 rfl λr=>?_;obtain⟨b,rfl⟩:∃h,b=h+1:=⟨b-1,by omega⟩
 refine cA a bF ?_;have key:∀i k m:Int,i=(b:Int)->k=((b+1:Nat):Int)->m=((b+1+1:Nat):Int)->Y q 302 [dK j,R i,R k,R m,sZ] [cF j e,mt d] (R (median ltInt e b (b+1) (b+1+1) d).1) [cF j e,mt (median ltInt e b (b+1) (b+1+1) d).2]:=by rintro i k m rfl rfl rfl;exact Ju j e b (b+1) (b+1+1) d w w w p o
 refine g.aB (key (((b+1:Nat):Int)-1) _ (((b+1:Nat):Int)+1) w a w) [0,1] a (cA a B (g.aJ [0,1] a ?_ yt));simp[medianAdjacent]
def qy:Hint->Int|.unknown=>0|.increasing=>1|.decreasing=>2
def Jv(b:Nat)(d:Array Int){x s:Nat}(a:Nat)(k:x<b)(o:i<b)(p:s<b)(t:b<=4000000)(j:a<=900){e g h:Int}(r:e=x)(m:g=i)(u:h=s):
  Y q 302 [dK b,R e,R g,R h,sZ] [cF b d,mt a] (R (median ltInt d x i s a).1) [cF b d,mt (median ltInt d x i s a).2]:=by grind[Ju]
def CJ(b:Nat)(d:Array Int){x:Nat}(a:Nat)(h:1<=x)(i:x+1<b)(k:b<=4000000)(g:a<=900){e:Int}(j:e=x):
  Y q 301 [dK b,R e,sZ] [cF b d,mt a] (R (medianAdjacent ltInt d x a).1) [cF b d,mt (medianAdjacent ltInt d x a).2]:=by grind[Xg]
def DM{O:Array Int}{x e2:Nat}(a:1<=x)(b:x+1<j):(medianAdjacent ltInt O x e2).1<j/\(medianAdjacent ltInt O x e2).2<=e2+3:=
 aax w w w
abbrev Dk(a:Nat):Hint:=if a=0 then .increasing else if a=12 then .decreasing else .unknown
def TG{b:Array Int}{a:Nat}(g:8<=d)(e:d<50):choosePivot ltInt b a (a+d)=((median ltInt b (a+d / 4*1) (a+d / 4*2) (a+d / 4*3) 0).1,Dk (median ltInt b (a+d / 4*1) (a+d / 4*2) (a+d / 4*3) 0).2):=by unfold choosePivot;grind
abbrev oC(b:Array Int)(a d:Nat):=medianAdjacent ltInt b (a+d / 4*1) 0
abbrev oD(b:Array Int)(a d:Nat):=medianAdjacent ltInt b (a+d / 4*2) (oC b a d).2
abbrev oE(b:Array Int)(a d:Nat):=medianAdjacent ltInt b (a+d / 4*3) (oD b a d).2
def TF{a:Array Int}{b:Nat}(e:50<=d):choosePivot ltInt a b (b+d)=((median ltInt a (oC a b d).1 (oD a b d).1 (oE a b d).1 (oE a b d).2).1,Dk (median ltInt a (oC a b d).1 (oD a b d).1 (oE a b d).1 (oE a b d).2).2):=by unfold choosePivot;grind
def UT(j:Nat)(O:Array Int)(x i:Nat)(m:x<=i)(t:i<=j)(h:8<=i-x)(d:j<=4000000):
  Y q 262 [dK j,R x,R i] [cF j O] (.T [.R (.c (.int .i64 (choosePivot ltInt O x i).1)),.R (.c (.int .i64 (qy (choosePivot ltInt O x i).2)))]) [cF j O]:=by
 refine Y.I func262 rfl λo=>?_;obtain⟨b,rfl⟩:∃b,i=x+b:=⟨i-x,by omega⟩
 rw[AX]at h;by_cases k:b<50
 .refine bO [32,-34] a Ro (g.aB (Jv j O (x:=x+b / 4*1) (i:=x+b / 4*2) (s:=x+b / 4*3) 0 w w w d w w w w) [0,1] a ?_);rw[TG h k];generalize median ltInt O (x+b / 4*1) (x+b / 4*2) (x+b / 4*3) 0=e;by_cases aj:e.2=0
  .exact Rf
  by_cases ak:e.2=12
  .exact QJ
  exact RL
 refine bO [32,34] a Ro ?_;have p:(oC O x b).1<j/\(oC O x b).2<=0+3:=DM (O:=O) (x:=x+b / 4*1) (e2:=0) (j:=j) w w;have r:(oD O x b).1<j/\(oD O x b).2<=(oC O x b).2+3:=DM (O:=O) (x:=x+b / 4*2) (e2:=(oC O x b).2) (j:=j) w w;have u:(oE O x b).1<j/\(oE O x b).2<=(oD O x b).2+3:=DM (O:=O) (x:=x+b / 4*3) (e2:=(oD O x b).2) (j:=j) w w;refine g.aB (CJ j O (x:=x+b / 4*1) 0 w w d w w) [0,1] a (cA a B (g.aB (CJ j O (x:=x+b / 4*2) (oC O x b).2 w w d w w) [0,1] a (cA a B (g.aB (CJ j O (x:=x+b / 4*3) (oD O x b).2 w w d w w) [0,1] a (cA a B (g.aB (Jv j O (x:=(oC O x b).1) (i:=(oD O x b).1) (s:=(oE O x b).1) (oE O x b).2 w w w d w a a a) [0,1] a ?_))))));rw[TF w];generalize median ltInt O (oC O x b).1 (oD O x b).1 (oE O x b).1 (oE O x b).2=e;by_cases aj:e.2=0
 .exact Rf
 by_cases ak:e.2=12
 .exact QJ
 exact RL
end
section
open Go.Sort (swp reverseLoop reverseRange siftDown heapBuild heapPop heapSort ltInt)
variable {q:af S}
def X1(d:Nat)(i:Array Int)(h e:Nat)(t:i.size=d)(z:1<=e)(y:h<=d)(A:e<=d)(C:d<=4000000):Y q 263 [dK d,R h,R e] [cF d i] (.T []) [cF d (reverseRange i h e)]:=by
 refine Y.I func263 rfl λx=>?_;refine aR a bF (g.aH 1 (λb:Nat×Nat×Array Int=>b.2.2.size=d/\b.1<=d/\b.2.1<d+1/\b.2.1<d/\reverseLoop b.1 b.2.1 b.2.2=reverseRange i h e) (λb=>[(0,dK d),(6,R b.1),(7,R b.2.1)]) (λb=>[cF d b.2.2]) (λb=>b.2.1-b.1) (h,e-1,i) a bK a D a ⟨t,by grind,by grind,by grind,a⟩ ?_);rintro⟨j,k,d1⟩ ⟨p,o,_,u,m⟩;simp only at p o u m;by_cases r:j<k
 .refine bO [13] a ?_ (g.az (j+1,k-1,swp d1 j k) a ?_ ?_ ?_ ?_)
  .simp only[U,cV,cW,a8,bw,ba,a9];exact fE
  .exact bv
  .simp only[U.Y,U,cV,cW,a9,ba];exact lh p w w (λ_ _=>rfl)
  .refine⟨by grind[nR],by grind,by grind,by grind,?_⟩;rw[<-m,reverseLoop.eq_1 j k d1,bl r]
  grind
 have s:reverseRange i h e=d1:=by rw[<-m,reverseLoop,bj r]
 rw[s];refine a4 [-13] a bK (g.aA ?_);exact sn
def JL(a:Nat)(b:Array Int){ff bp first:Nat}(h:b.size=a)(k:first+bp<=a)(i:ff<=a)(o:a<=4000000){d e g:Int}(m:d=ff)(j:e=bp)(p:g=first):
  Y q 298 [dK a,R d,R e,R g] [cF a b] (.T []) [cF a (siftDown ltInt bp first ff b)]:=by grind[Yf]
def M2(a first:Nat):∀(d root:Nat)(b:Array Int),a-root<=d->(siftDown ltInt a first root b).size=b.size:=by
 intro d;induction d with
 |zero=>intro root b e;rw[siftDown,dif_pos w]
 |succ d g=>
  intro root b e;rw[siftDown];exact sq
theorem VW(i:Nat)(m:Array Int)(b k:Nat)(y:m.size=i)(C:b<=k)(z:1<=k-b)(A:k<=i)(t:i<=4000000):Y q 260 [dK i,R b,R k] [cF i m] (.T []) [cF i (heapSort ltInt m b k)]:=by
 refine Y.I func260 rfl λF=>?_;obtain⟨e,rfl⟩:∃e,k=b+e:=⟨k-b,by omega⟩
 rw[AX]at z;refine cA a Sf (g.ck (S2:=Array Int) 0 a a (λd2=>d2.size=i/\d2=heapBuild ltInt e b ((e-1) / 2+1) m) (λ_=>[(0,dK i),(6,R b),(7,R 0),(8,R e)]) (λd2=>[cF i d2]) 1 (λd:Nat×Array Int=>d.2.size=i/\d.1<=(e-1) / 2+1/\heapBuild ltInt e b d.1 d.2=heapBuild ltInt e b ((e-1) / 2+1) m) (λd=>[(0,dK i),(6,R b),(7,R 0),(8,R e),(9,R ((d.1:Int)-1))]) (λd=>[cF i d.2]) (λd=>d.1) ((e-1) / 2+1,m) a bK a D a ⟨y,bC _,a⟩ ?_ ?_)
 .rintro dy ⟨h,d1⟩ ⟨j,p,s⟩;simp only at j p s;cases h with
  |zero=>
   refine a4 [-19] a D (g.aA ?_);exact dy d1 ⟨j,s⟩ a D a D
  |succ h=>
   refine a4 [19] rfl D (g.aB (JL i d1 (ff:=h) (bp:=e) (first:=b) j A w t w rfl rfl) [0] rfl (cA rfl ?_ (g.az (h,siftDown ltInt e b h d1) rfl ?_ ?_ ?_ ?_)))
   .exact wP
   .simp
   .simp
   .exact⟨by rw[M2 _ _ _ _ _ (bC _)];exact j,by grind,s⟩
   simp
 rintro o ⟨x,E⟩;refine cA a bF ?_;have u:heapSort ltInt m b (b+e)=heapPop ltInt b e o:=by unfold heapSort;grind
 rw[u];refine g.aH 1 (λd:Nat×Array Int=>d.2.size=i/\d.1<=e/\heapPop ltInt b d.1 d.2=heapPop ltInt b e o) (λd=>[(0,dK i),(6,R b),(7,R 0),(8,R e),(10,R ((d.1:Int)-1))]) (λd=>[cF i d.2]) (λd=>d.1) (e,o) a D a D a ⟨x,bC _,a⟩ ?_;rintro⟨h,d1⟩ ⟨j,p,s⟩;simp only at j p s;cases h with
 |zero=>
  rw[<-s];refine a4 [-30] a D (g.aA ?_);exact sn
 |succ h=>
  have r:((b:Int)+(((h+1:Nat):Int)-1)).toNat=b+h:=w;refine bO [30,911] a ?_ ?_
  .simp only[U,cV,cW,r,a8,bw,ba,a9];exact fE
  refine g.bb [cF i (swp d1 b (b+h))] a ?_ ?_
  .simp only[U.Y,U,cV,cW,r,a9,ba];exact lh j w w (λ_ _=>rfl)
  refine cA rfl B (g.aB (JL i (swp d1 b (b+h)) (ff:=0) (bp:=h) (first:=b) sq w w t rfl w rfl) [0] rfl (cA rfl ?_ (g.az (h,siftDown ltInt h b 0 (swp d1 b (b+h))) rfl ?_ ?_ ?_ ?_)))
  .exact wP
  .simp
  .simp
  .exact⟨by rw[M2 _ _ _ _ _ (bC _),nR];exact j,by grind,s⟩
  simp
end
section
open Go.Sort (bitsLen)
variable {q:af S}
def oA:m UInt8:=(aA 256).map λa=>UInt8.ofNat (bitsLen a)
def sQ{E h}(b:E<2 ^ h):bitsLen E<=h:=by
 unfold bitsLen;split
 .omega
 rename_i a;have:=(Nat.log2_lt a).2 b;omega
theorem aae{E:Nat}(a:E<256):(kM oA E).toNat=bitsLen E:=by unfold kM oA;rw[cW,al,ni,List.getElem?_range a];have:=sQ (E:=E) (h:=8) a;grind[UInt8.toNat_ofNat']
def G6{h}(d:2 ^ h<=j):bitsLen j=h+bitsLen (j / 2 ^ h):=by
 have a:0<2 ^ h:=Nat.two_pow_pos h;have i:0<j / 2 ^ h:=Nat.div_pos d a;unfold bitsLen;rw[bj w,bj w];have e:Nat.log2 j=h+Nat.log2 (j / 2 ^ h):=by
  rw[Nat.log2_eq_iff w];have b:=Nat.log2_self_le (n:=j / 2 ^ h) w;have g:=Nat.lt_log2_self (n:=j / 2 ^ h);constructor
  .rw[Nat.pow_add,xf];exact fY (hc _ b) (Nat.div_mul_le_self j _)
  rw[show h+Nat.log2 (j / 2 ^ h)+1=h+(Nat.log2 (j / 2 ^ h)+1) by omega,Nat.pow_add];grind[Nat.div_lt_iff_lt_mul]
 omega
set_option maxRecDepth 100000 in
def WL(j:Nat)(u:j<=4000000):Y q 269 [mz j] [] (R (bitsLen j)) []:=by
 refine Y.I func269 rfl λt=>?_;have fin:∀{b:m UInt8} {E:Nat},b=oA->E<256->(kM b (E:Int)).toNat=bitsLen E:=λa0 s=>by grind[aae]
 have e:∀{b:m UInt8},b=oA->c b=256:=λa0=>by rw[a0];rfl
 by_cases r:65536<=j
 .have i:((j:Int).toNat / 2 ^ Int.toNat 16)=j / 65536:=D;have p:bitsLen j=16+bitsLen (j / 65536):=G6 (j:=j) (h:=16) r;have k:=sQ (E:=j / 65536) (h:=8) N;refine bO [-4,8,-14] a ?_ (g.aw a ?_)
  .generalize a0:(ByteArray.data _).toList=b;have d:b=oA:=uf;simp only[U,i,fin d (show j / 65536<256 by omega),e d,a8,bw,dr];exact fE
  generalize a0:(ByteArray.data _).toList=b;have d:b=oA:=uf;simp only[U,U.Y,i,fin d (show j / 65536<256 by omega),ba,a9];omega
 by_cases o:256<=j
 .have i:((j:Int).toNat / 2 ^ Int.toNat 8)=j / 256:=D;have p:bitsLen j=8+bitsLen (j / 256):=G6 (j:=j) (h:=8) o;have k:=sQ (E:=j / 256) (h:=8) N;refine bO [-4,-8,14] a ?_ (g.aw a ?_)
  .generalize a0:(ByteArray.data _).toList=b;have d:b=oA:=uf;simp only[U,i,fin d (show j / 256<256 by omega),e d,a8,bw,dr];exact fE
  generalize a0:(ByteArray.data _).toList=b;have d:b=oA:=uf;simp only[U,U.Y,i,fin d (show j / 256<256 by omega),ba,a9];omega
 have k:=sQ (E:=j) (h:=8) N;refine bO [-4,-8,-14] a ?_ (g.aw a ?_)
 .generalize a0:(ByteArray.data _).toList=b;have d:b=oA:=uf;simp only[U,fin d (show j<256 by omega),e d,a8,bw,dr];exact fE
 generalize a0:(ByteArray.data _).toList=b;have d:b=oA:=uf;simp only[U,U.Y,fin d (show j<256 by omega),ba,a9];omega
def Jm(b:Nat)(d:b<=4000000):Y q 209 [mz b] [] (R (bitsLen b)) []:=by refine Y.I func209 rfl λe=>?_;refine cA a B ?_;refine g.fw ?_;refine cA a B ?_;refine g.aB (WL b d) [] a ?_;exact cA a B (g.aw a)
end
section
open Go.Sort (swp bitsLen xorNextN xorNextN_lt xorNext xorNext_toNat breakStep breakPatterns)
variable {q:af S}
abbrev xu(a:Nat):ar:=.cells 358 [.c (.int .u64 a)]
def Xq(b):Y q 300 [aI 0 0] [xu b] (mz (xorNextN b)) [xu (xorNextN b)]:=by refine Y.I func300 rfl λh=>?_;have e:(2:Nat) ^ Int.toNat 13=8192:=b';have i:(2:Nat) ^ Int.toNat 7=128:=b';have d:(2:Nat) ^ Int.toNat 17=131072:=b';refine cA a D ?_;refine g.bb [xu (xorNextN b)] a bF (g.aJ [0] a ?_ hi);exact bF
theorem XU(b:Nat)(d:b<=4000000):Y q 299 [R b] [] (mz ((1 <<< bitsLen b:Nat):Int)) []:=by refine Y.I func299 rfl λj=>?_;have e:=sQ (E:=b) (h:=22) N;refine cA a bF ?_;refine g.aB (Jm b d) [] a ?_;refine cA a bv (g.aw a ?_);have i:2 ^ bitsLen b<=2 ^ 22:=A2 w e;simp only[U,U.Y,Nat.shiftLeft_eq,cW];grind
def abm{L}(a:0<L):1 <<< bitsLen L<=2*L:=by rw[Nat.shiftLeft_eq,Nat.one_mul];unfold bitsLen;rw[bj w,Nat.pow_succ];grind[Nat.log2_self_le]
def abn(L):1<=1 <<< bitsLen L:=by rw[Nat.shiftLeft_eq,Nat.one_mul];grind
def u0(d L b:Nat):Nat->Nat->UInt64×Array Int->UInt64×Array Int
 |0,_,a=>a
 |e+1,idx,a=>u0 d L b e (idx+1) (breakStep d L b a idx)
def Tp{b}{a L}(d:8<=L):breakPatterns b a (a+L)=(u0 a L (1 <<< bitsLen L) 3 (a+L / 4*2-1) (UInt64.ofNat L,b)).2:=by unfold breakPatterns;simp only[AX];exact bF
def Tq{x L bB idx}{a7}{O:Array Int}:breakStep x L bB (a7,O) idx=(xorNext a7,swp O idx (x+if(xorNextN a7.toNat &&& (bB-1))≥L then(xorNextN a7.toNat &&& (bB-1))-L else(xorNextN a7.toNat &&& (bB-1)))):=by unfold breakStep;simp only[xorNext_toNat]
abbrev To(e a L b:Nat)(d:Nat):bM:=[(0,dK e),(1,R a),(6,R L),(7,aI 1 0),(8,mz b),(9,R ((a+L / 4*2-1+(3-d):Nat):Int))]
def UR(j)(O)(x i)(y:O.size=j)(D:x<=i)(K:i<=j)(A:j<=4000000):
  Y q 261 [dK j,R x,R i] [cF j O] (.T []) [cF j (breakPatterns O x i)]:=by
 refine Y.I func261 rfl λM=>?_;obtain⟨L,rfl⟩:∃L,i=x+L:=⟨i-x,by omega⟩
 by_cases z:8<=L
 .rw[Tp z];have J:=abm (L:=L) w;have F:=abn L;have E:(UInt64.ofNat L).toNat=L:=by grind[UInt64.toNat_ofNat']
  refine bO [15] a sr ?_;have key:∀p:Int,p=(L:Int)->Y q 299 [R p] [] (mz ((1 <<< bitsLen L:Nat):Int)) []:=by grind[XU]
  refine g.aB (key _ w) [] a (cA a sr ?_);generalize I:1 <<< bitsLen L=bB at *;refine g.aH 2 (λb:Nat×UInt64×Array Int=>b.2.2.size=j/\b.1<=3/\(u0 x L bB b.1 (x+L / 4*2-1+(3-b.1)) b.2).2=(u0 x L bB 3 (x+L / 4*2-1) (UInt64.ofNat L,O)).2) (λb=>To j x L bB b.1) (λb=>[cF j b.2.2,xu b.2.1.toNat]) (λb=>b.1) (3,UInt64.ofNat L,O) a ?_ a ?_ a ⟨y,bC _,a⟩ ?_
  .simp only[U.Y,U,ba,a9];exact fE
  .exact bv
  rintro⟨h,a7,d1⟩ ⟨d,m,s⟩;simp only at d m s;cases h with
  |zero=>
   rw[<-s];refine bO [-33] a Ac (g.aA ?_);exact sn
  |succ h=>
   have Q:=xorNextN_lt _ (UInt64.toNat_lt a7);have C:xorNextN a7.toNat &&& (bB-1)<=bB-1:=Nat.and_le_right;have u:((bB:Int)-1).toNat=bB-1:=w;refine bO [33] a sr (g.aB (Xq a7.toNat) [1] a ?_);have aj:=Tq (x:=x) (L:=L) (bB:=bB) (idx:=x+L / 4*2-1+(3-(h+1))) (a7:=a7) (O:=d1);generalize e:xorNextN a7.toNat &&& (bB-1)=k at *;by_cases o:L<=k
   .rw[bl o]at aj;have t:((x:Int)+((k:Int)-(L:Int))).toNat=x+(k-L):=w;refine bO [43] a ?_ (g.az (h,xorNext a7,swp d1 (x+L / 4*2-1+(3-(h+1))) (x+(k-L))) a ?_ ?_ ?_ ?_)
    .simp only[U,cV,cW,u,e,t,a8,bw,ba,a9];exact fE
    .simp only[U.Y,U,ba,a9];omega
    .exact PC
    .exact QN
    simp
   rw[bj o]at aj;have t:((x:Int)+(k:Int)).toNat=x+k:=w;refine bO [-43] a ?_ (g.az (h,xorNext a7,swp d1 (x+L / 4*2-1+(3-(h+1))) (x+k)) a ?_ ?_ ?_ ?_)
   .simp only[U,cV,cW,u,e,t,a8,dr,ba,a9];exact fE
   .simp only[U.Y,U,ba,a9];omega
   .exact PC
   .exact QN
   simp
 have r:breakPatterns O x (x+L)=O:=by unfold breakPatterns;grind
 rw[r];exact bO [-15] a bF sn
end
section
open Go.Sort (swp scanUp scanDown partLoop partEqLoop partition partitionEqual ltInt)
variable {q:af S}
theorem zv{b:Int->Bool}{a}(g:e<=u)(d:b a[e]! = l):scanUp b a u e=scanUp b a u (e+1):=by rw[scanUp.eq_1 b a u e,bl N]
theorem Ew{b:Int->Bool}{a}(d:e<=u->b a[e]! = v):scanUp b a u e=e:=by rw[scanUp,bj];grind
theorem MM{b:Int->Bool}{a}(h:1<=u)(i:e<=u)(g:b a[u]! = l):scanDown b a e u=scanDown b a e (u-1):=by
 obtain⟨u,rfl⟩:∃d,u=d+1:=⟨u-1,by omega⟩
 rw[scanDown,bl N,p5]
theorem MN{b:Int->Bool}{a}(d:e<=u->b a[u]! = v):scanDown b a e u=u:=by
 cases u with
 |zero=>rfl
 |succ u=>
  rw[scanDown,bj];grind
def wb{T:Int->Bool}{O}:∀b a,u+1-a<=b->a<=scanUp T O u a/\(scanUp T O u a<=u+1∨scanUp T O u a=a):=by
 intro b;induction b with
 |zero=>intro a e;rw[Ew (λd=>by omega)];omega
 |succ b h=>
  intro a e;by_cases g:a<=u
  .cases d:T O[a]! with
   |true=>grind[zv]
   |false=>grind[Ew]
  grind
def wa{T:Int->Bool}{O}:∀a:Nat,scanDown T O e a<=a/\(e<=scanDown T O e a+1∨scanDown T O e a=a):=by
 intro a;induction a with
 |zero=>rw[show scanDown T O e 0=0 from rfl];omega
 |succ a d=>
  by_cases b:e<=a+1
  .cases s:T O[a+1]! with
   |true=>grind[MM]
   |false=>grind[MN]
  exact Aj
def abc{b}{O}{d g:Nat}(m:1<=e)(h:d=scanUp (λa=>ltInt a O[b]!) O u e)(i:g=scanDown (λa=>!ltInt a O[b]!) O d u):
  partLoop ltInt b e u O=if d>g then(g,O)else partLoop ltInt b (d+1) (g-1) (swp O d g):=by have j:=wb (T:=λa=>ltInt a O[b]!) (O:=O) (u:=u) (u+1-e) e (bC _);have k:=wa (T:=λa=>!ltInt a O[b]!) (O:=O) (e:=d) u;rw[<-h]at j;rw[<-i]at k;rw[partLoop.eq_1,<-h,<-i];grind
def abd{g a:Array Int}{b aa}(k:a=swp g b aa)(h:e=scanUp (λd=>ltInt d a[b]!) a (i-1) (b+1))(j:u=scanDown (λd=>!ltInt d a[b]!) a e (i-1))(m:e>u):partition ltInt g b i aa=(u,l,swp a u b):=by unfold partition;grind
def abe{h a:Array Int}{b aa}(o:a=swp h b aa)(k:e=scanUp (λg=>ltInt g a[b]!) a (i-1) (b+1))(m:u=scanDown (λg=>!ltInt g a[b]!) a e (i-1))(p:¬e>u){d}(j:partLoop ltInt b (e+1) (u-1) (swp a e u)=d):partition ltInt h b i aa=(d.1,v,swp d.2 d.1 b):=by subst j;unfold partition;grind
def XM(j)(O)(x i aa)(aP:O.size=j)(ah:x<i)(an:i<=j)(ar:aa<j)(aq:j<=4000000):
  Y q 267 [dK j,R x,R i,R aa] [cF j O] (.T [.R (.c (.int .i64 (partition ltInt O x i aa).1)),.R (.c (.bool (partition ltInt O x i aa).2.1))]) [cF j (partition ltInt O x i aa).2.2]:=by
 have C:a' q [(265,qi)]:=.cons sc .nil;refine Y.I func267 rfl λao=>?_;refine bd C [902] a bv (g.bb [cF j (swp O x aa)] a ?_ ?_)
 .simp only[U.Y,U,cV,cW,a9,ba];exact lh aP w w (λ_ _=>rfl)
 have bz:(swp O x aa).size=j:=sq;obtain⟨d0,z⟩:∃d0,d0=swp O x aa:=⟨_,rfl⟩;rw[<-z]at bz⊢;refine cU C a so ?_
 refine g.ck (S2:=Unit) 0 a a (λ_=>True) (λ_=>[(0,dK j),(1,R x),(10,R ((scanUp (λE=>ltInt E d0[x]!) d0 (i-1) (x+1)):Nat)),(11,R (i-1:Nat))]) (λ_=>[cF j d0]) 1 (λh:Nat=>x+1<=h/\h<=j+1/\scanUp (λE=>ltInt E d0[x]!) d0 (i-1) h=scanUp (λE=>ltInt E d0[x]!) d0 (i-1) (x+1)) (λh=>[(0,dK j),(1,R x),(10,R (h:Nat)),(11,R (i-1:Nat))]) (λ_=>[cF j d0]) (λh=>i-1+1-h) (x+1) a bF a D a ⟨bC _,by omega,a⟩ ?_ ?_
 .rintro dy h ⟨o,r,p⟩;by_cases S:h<=i-1
  .by_cases av:(λE=>ltInt E d0[x]!) d0[h]! = l
   .have aj:ltInt d0[h]! d0[x]! = l:=N;refine bd C [32,42] a q7 (g.az (h+1) a D D ?_ ?_)
    .grind [zv]
    omega
   have aj:ltInt d0[h]! d0[x]! = v:=N;refine bd C [32,-42] a q7 (g.aA ?_);exact PT
  refine bd C [-32] a bv (g.aA ?_);exact PT
 rintro⟨⟩ -;have af:=wb (T:=λE=>ltInt E d0[x]!) (O:=d0) (u:=i-1) (i-1+1-(x+1)) (x+1) (bC _);obtain⟨e,m⟩:∃e,e=scanUp (λE=>ltInt E d0[x]!) d0 (i-1) (x+1):=⟨_,rfl⟩
 rw[<-m]at af⊢;refine cU C a B (g.ck (S2:=Unit) 2 a a (λ_=>True) (λ_=>[(0,dK j),(1,R x),(10,R (e:Nat)),(11,R ((scanDown (λE=>!ltInt E d0[x]!) d0 (e) (i-1)):Nat))]) (λ_=>[cF j d0]) 1 (λh:Nat=>h<=i-1/\h<=j/\scanDown (λE=>!ltInt E d0[x]!) d0 (e) h=scanDown (λE=>!ltInt E d0[x]!) d0 (e) (i-1)) (λh=>[(0,dK j),(1,R x),(10,R (e:Nat)),(11,R (h:Nat))]) (λ_=>[cF j d0]) (λh=>h) (i-1) a ?_ a ?_ a ⟨bC _,by omega,a⟩ ?_ ?_)
 .simp[bs]<;>omega
 .simp
 .rintro dy h ⟨o,r,p⟩;by_cases S:e<=h
  .by_cases av:(λE=>!ltInt E d0[x]!) d0[h]! = l
   .have aj:ltInt d0[h]! d0[x]! = v:=N;refine bd C [48,-58] a q7 (g.az (h-1) a bv D Fy ?_);omega
   have aj:ltInt d0[h]! d0[x]! = l:=N;refine bd C [48,58] a q7 (g.aA ?_);exact RD
  refine bd C [-48] a bv (g.aA ?_);exact RD
 rintro⟨⟩ -;have ag:=wa (T:=λE=>!ltInt E d0[x]!) (O:=d0) (e:=e) (i-1);obtain⟨u,I⟩:∃u,u=scanDown (λE=>!ltInt E d0[x]!) d0 e (i-1):=⟨_,rfl⟩
 rw[<-I]at ag⊢;by_cases ab:u<e
 .rw[abd z m I ab];refine bd C [65,909] a bv (g.bb [cF j (swp d0 u x)] a RZ ?_);exact PS
 refine bd C [-65,911] a bv (g.bb [cF j (swp d0 e u)] a RZ ?_);refine cU C a so ?_;have X:(swp d0 e u).size=j:=sq;obtain⟨k,F⟩:∃k,partLoop ltInt x (e+1) (u-1) (swp d0 e u)=k:=⟨_,rfl⟩;rw[abe z m I w F]
 obtain⟨d1,L⟩:∃d1,d1=swp d0 e u:=⟨_,rfl⟩;rw[<-L]at X F⊢;refine g.ck (S2:=Unit) 4 a a (λ_=>k.1<j/\k.2.size=j) (λ_=>[(0,dK j),(1,R x),(11,R k.1)]) (λ_=>[cF j k.2]) 1 (λb:Nat×Nat×Array Int=>b.2.2.size=j/\x+1<=b.1/\b.1<=j+1/\b.2.1<j/\partLoop ltInt x b.1 b.2.1 b.2.2=k) (λb=>[(0,dK j),(1,R x),(10,R b.1),(11,R b.2.1)]) (λb=>[cF j b.2.2]) (λb=>b.2.1+1-b.1) (e+1,u-1,d1) a bv a D a ⟨X,by grind,by grind,by grind,F⟩ ?_ ?_
 .rintro y ⟨dZ,t,d2⟩ ⟨G,ae,W,P,A⟩;simp only at G ae W P A;refine cU C a B (g.ck (S2:=Unit) 6 a a (λ_=>True) (λ_=>[(0,dK j),(1,R x),(10,R ((scanUp (λE=>ltInt E d2[x]!) d2 (t) (dZ)):Nat)),(11,R (t:Nat))]) (λ_=>[cF j d2]) 1 (λh:Nat=>dZ<=h/\h<=j+1/\scanUp (λE=>ltInt E d2[x]!) d2 (t) h=scanUp (λE=>ltInt E d2[x]!) d2 (t) (dZ)) (λh=>[(0,dK j),(1,R x),(10,R (h:Nat)),(11,R (t:Nat))]) (λ_=>[cF j d2]) (λh=>t+1-h) (dZ) a ?_ a ?_ a ⟨bC _,by omega,a⟩ ?_ ?_)
  .simp[bs]<;>omega
  .simp
  .rintro dy h ⟨o,r,p⟩;by_cases S:h<=t
   .by_cases av:(λE=>ltInt E d2[x]!) d2[h]! = l
    .have aj:ltInt d2[h]! d2[x]! = l:=N;refine bd C [101,111] a q7 (g.az (h+1) a D D ?_ ?_)
     .grind [zv]
     omega
    have aj:ltInt d2[h]! d2[x]! = v:=N;refine bd C [101,-111] a q7 (g.aA ?_);exact Q8
   refine bd C [-101] a bv (g.aA ?_);exact Q8
  rintro⟨⟩ -;have J:=wb (T:=λE=>ltInt E d2[x]!) (O:=d2) (u:=t) (t+1-dZ) dZ (bC _);obtain⟨d,M⟩:∃d,d=scanUp (λE=>ltInt E d2[x]!) d2 t dZ:=⟨_,rfl⟩
  rw[<-M]at J⊢;refine cU C a B (g.ck (S2:=Unit) 8 a a (λ_=>True) (λ_=>[(0,dK j),(1,R x),(10,R (d:Nat)),(11,R ((scanDown (λE=>!ltInt E d2[x]!) d2 (d) (t)):Nat))]) (λ_=>[cF j d2]) 1 (λh:Nat=>h<=t/\h<=j/\scanDown (λE=>!ltInt E d2[x]!) d2 (d) h=scanDown (λE=>!ltInt E d2[x]!) d2 (d) (t)) (λh=>[(0,dK j),(1,R x),(10,R (d:Nat)),(11,R (h:Nat))]) (λ_=>[cF j d2]) (λh=>h) (t) a ?_ a ?_ a ⟨bC _,by omega,a⟩ ?_ ?_)
  .simp[bs]<;>omega
  .simp
  .rintro dy h ⟨o,r,p⟩;by_cases S:d<=h
   .by_cases av:(λE=>!ltInt E d2[x]!) d2[h]! = l
    .have aj:ltInt d2[h]! d2[x]! = v:=N;refine bd C [117,-127] a q7 (g.az (h-1) a bv D Fy ?_);omega
    have aj:ltInt d2[h]! d2[x]! = l:=N;refine bd C [117,127] a q7 (g.aA ?_);exact Q5
   refine bd C [-117] a bv (g.aA ?_);exact Q5
  rintro⟨⟩ -;have K:=wa (T:=λE=>!ltInt E d2[x]!) (O:=d2) (e:=d) t;obtain⟨s,V⟩:∃s,s=scanDown (λE=>!ltInt E d2[x]!) d2 d t:=⟨_,rfl⟩
  rw[<-V]at K⊢;have Z:=abc w M V;by_cases Q:s<d
  .have ak:=Z;rw[A,bl Q]at ak;refine bd C [134] a bv (g.aA ?_);exact y () N a Ot a ui
  have ak:=Z;rw[A,bj w]at ak;refine bd C [-134,919] a ?_ ?_
  .simp only[U,cV,cW,a8,dr,ba,a9];exact fE
  refine g.bb [cF j (swp d2 d s)] a ?_ ?_
  .simp only[U.Y,U,cV,cW,a9,ba];exact lh G w w (λ_ _=>rfl)
  refine cU C a so (g.az (d+1,s-1,swp d2 d s) a bv D ?_ ?_)
  .grind [nR]
  grind
 rintro⟨⟩ ⟨ai,H⟩;refine bd C [922] a bv (g.bb [cF j (swp k.2 k.1 x)] a ?_ ?_)
 .simp only[U.Y,U,cV,cW,a9,ba];exact lh H w w (λ_ _=>rfl)
 exact PS
def abb{d}{O}{a h:Nat}(m:1<=e)(g:a=scanUp (λb=>!ltInt O[d]! b) O u e)(i:h=scanDown (λb=>ltInt O[d]! b) O a u):
  partEqLoop ltInt d e u O=if a>h then(a,O)else partEqLoop ltInt d (a+1) (h-1) (swp O a h):=by have j:=wb (T:=λb=>!ltInt O[d]! b) (O:=O) (u:=u) (u+1-e) e (bC _);have k:=wa (T:=λb=>ltInt O[d]! b) (O:=O) (e:=a) u;rw[<-g]at j;rw[<-i]at k;rw[partEqLoop.eq_1,<-g,<-i];grind
def XN(j)(O)(x i aa)(S:O.size=j)(ab:x<i)(af:i<=j)(aP:aa<j)(P:j<=4000000):
  Y q 266 [dK j,R x,R i,R aa] [cF j O] (R (partitionEqual ltInt O x i aa).1) [cF j (partitionEqual ltInt O x i aa).2]:=by
 have k:a' q [(265,qi)]:=.cons sc .nil;refine Y.I func266 rfl λag=>?_;refine bd k [902] a bv (g.bb [cF j (swp O x aa)] a ?_ ?_)
 .simp only[U.Y,U,cV,cW,a9,ba];exact lh S w w (λ_ _=>rfl)
 have M:(swp O x aa).size=j:=sq;unfold partitionEqual;generalize swp O x aa=d1 at *;obtain⟨m,H⟩:∃m,partEqLoop ltInt x (x+1) (i-1) d1=m:=⟨_,rfl⟩;rw[H];refine cU k a so ?_
 refine g.ck (S2:=Unit) 0 a a (λ_=>m.1<=j+1/\m.2.size=j) (λ_=>[(0,dK j),(1,R x),(9,R m.1)]) (λ_=>[cF j m.2]) 1 (λb:Nat×Nat×Array Int=>b.2.2.size=j/\x+1<=b.1/\b.1<=j+1/\b.2.1<j/\partEqLoop ltInt x b.1 b.2.1 b.2.2=m) (λb=>[(0,dK j),(1,R x),(9,R b.1),(10,R b.2.1)]) (λb=>[cF j b.2.2]) (λb=>b.2.1+1-b.1) (x+1,i-1,d1) a bv a D a ⟨M,by grind,by grind,by grind,H⟩ ?_ ?_
 .rintro p ⟨dZ,s,d2⟩ ⟨I,W,X,G,d⟩;simp only at I W X G d;refine cU k a B (g.ck (S2:=Unit) 2 a a (λ_=>True) (λ_=>[(0,dK j),(1,R x),(9,R ((scanUp (λE=>!ltInt d2[x]! E) d2 (s) (dZ)):Nat)),(10,R (s:Nat))]) (λ_=>[cF j d2]) 1 (λh:Nat=>dZ<=h/\h<=j+1/\scanUp (λE=>!ltInt d2[x]! E) d2 (s) h=scanUp (λE=>!ltInt d2[x]! E) d2 (s) (dZ)) (λh=>[(0,dK j),(1,R x),(9,R (h:Nat)),(10,R (s:Nat))]) (λ_=>[cF j d2]) (λh=>s+1-h) (dZ) a ?_ a ?_ a ⟨bC _,by omega,a⟩ ?_ ?_)
  .simp[bs]<;>omega
  .simp
  .rintro dy h ⟨J,Q,y⟩;by_cases K:h<=s
   .by_cases L:(λE=>!ltInt d2[x]! E) d2[h]! = l
    .have C:ltInt d2[x]! d2[h]! = v:=N;refine bd k [31,-41] a Ai (g.az (h+1) a D D ?_ ?_)
     .grind [zv]
     omega
    have C:ltInt d2[x]! d2[h]! = l:=N;refine bd k [31,41] a Ai (g.aA ?_);exact PH
   refine bd k [-31] a bv (g.aA ?_);exact PH
  rintro⟨⟩ -;have r:=wb (T:=λE=>!ltInt d2[x]! E) (O:=d2) (u:=s) (s+1-dZ) dZ (bC _);obtain⟨aj,F⟩:∃aj,aj=scanUp (λE=>!ltInt d2[x]! E) d2 s dZ:=⟨_,rfl⟩
  rw[<-F]at r⊢;refine cU k a B (g.ck (S2:=Unit) 4 a a (λ_=>True) (λ_=>[(0,dK j),(1,R x),(9,R (aj:Nat)),(10,R ((scanDown (λE=>ltInt d2[x]! E) d2 (aj) (s)):Nat))]) (λ_=>[cF j d2]) 1 (λh:Nat=>h<=s/\h<=j/\scanDown (λE=>ltInt d2[x]! E) d2 (aj) h=scanDown (λE=>ltInt d2[x]! E) d2 (aj) (s)) (λh=>[(0,dK j),(1,R x),(9,R (aj:Nat)),(10,R (h:Nat))]) (λ_=>[cF j d2]) (λh=>h) (s) a ?_ a ?_ a ⟨bC _,by omega,a⟩ ?_ ?_)
  .simp[bs]<;>omega
  .simp
  .rintro dy h ⟨J,Q,y⟩;by_cases K:aj<=h
   .by_cases L:(λE=>ltInt d2[x]! E) d2[h]! = l
    .have C:ltInt d2[x]! d2[h]! = l:=N;refine bd k [48,58] a Ai (g.az (h-1) a bv D Fy ?_);omega
    have C:ltInt d2[x]! d2[h]! = v:=N;refine bd k [48,-58] a Ai (g.aA ?_);exact Qs
   refine bd k [-48] a bv (g.aA ?_);exact Qs
  rintro⟨⟩ -;have t:=wa (T:=λE=>ltInt d2[x]! E) (O:=d2) (e:=aj) s;obtain⟨o,A⟩:∃o,o=scanDown (λE=>ltInt d2[x]! E) d2 aj s:=⟨_,rfl⟩
  rw[<-A]at t⊢;have z:=abb w F A;by_cases V:o<aj
  .have ak:=z;rw[d,bl V]at ak;refine bd k [64] a bv (g.aA ?_);exact p () N a Ot a ui
  have ak:=z;rw[d,bj w]at ak;refine bd k [-64,909] a bv (g.bb [cF j (swp d2 aj o)] a ?_ ?_)
  .simp only[U.Y,U,cV,cW,a9,ba];exact lh I w w (λ_ _=>rfl)
  refine cU k a so (g.az (aj+1,o-1,swp d2 aj o) a bv D ?_ ?_)
  .grind [nR]
  grind
 rintro⟨⟩ ⟨ae,Z⟩;refine cU k a B (g.aJ [0] a ?_ hi);simp
end
section
open Go.Sort (swp scanSorted shiftDown shiftUp partialIns partialInsertionSort ltInt)
variable {q:af S}
theorem MO{a}(d:e<i)(b:ltInt a[e]! a[e-1]! = v):scanSorted ltInt a i e=scanSorted ltInt a i (e+1):=by rw[scanSorted.eq_1 ltInt a i e,bl N]
theorem zu{a}(b:e<i->ltInt a[e]! a[e-1]! = l):scanSorted ltInt a i e=e:=by rw[scanSorted,bj];grind
def acc{O}:∀b a,i-a<=b->a<=i->a<=scanSorted ltInt O i a/\scanSorted ltInt O i a<=i:=by
 intro b;induction b with
 |zero=>grind[zu]
 |succ b e=>
  intro a j g;by_cases d:a<i
  .cases h:ltInt O[a]! O[a-1]! with
   |false=>grind[MO]
   |true=>grind[zu]
  grind
theorem acs{a}(d:1<=u)(t:ltInt a[u]! a[u-1]! = l):shiftDown ltInt u a=shiftDown ltInt (u-1) (swp a u (u-1)):=by
 obtain⟨u,rfl⟩:∃b,u=b+1:=⟨u-1,by omega⟩
 simp only[p5]at t⊢;rw[shiftDown,bj gM]
theorem MW{a}(b:1<=u->ltInt a[u]! a[u-1]! = v):shiftDown ltInt u a=a:=by
 cases u with
 |zero=>rfl
 |succ u=>
  have:=b w;simp only[p5]at this;rw[shiftDown,bl N]
theorem acu{a}(b:u<i)(t:ltInt a[u]! a[u-1]! = l):shiftUp ltInt i u a=shiftUp ltInt i (u+1) (swp a u (u-1)):=by rw[shiftUp.eq_1 ltInt i u a,bl b,bj gM]
theorem MX{a}(b:u<i->ltInt a[u]! a[u-1]! = v):shiftUp ltInt i u a=a:=by rw[shiftUp];grind
abbrev qN(e a b d g:Nat):bM:=[(0,dK e),(1,R a),(2,R b),(7,R d),(8,R (5-(g:Int)))]
def abg{d b}{a}:partialIns ltInt d i (b+1) e a=(if scanSorted ltInt a i e=i then(a,l)else if i-d<50 then(a,v)else
  partialIns ltInt d i b (scanSorted ltInt a i e) (if i-scanSorted ltInt a i e≥2 then shiftUp ltInt i (scanSorted ltInt a i e+1) (if scanSorted ltInt a i e-d≥2 then shiftDown ltInt (scanSorted ltInt a i e-1) (swp a (scanSorted ltInt a i e) (scanSorted ltInt a i e-1))else swp a (scanSorted ltInt a i e) (scanSorted ltInt a i e-1))else(if scanSorted ltInt a i e-d≥2 then shiftDown ltInt (scanSorted ltInt a i e-1) (swp a (scanSorted ltInt a i e) (scanSorted ltInt a i e-1))else swp a (scanSorted ltInt a i e) (scanSorted ltInt a i e-1)))):=rfl
def Jz(j)(O)(r i)(W:O.size=j)(ab:r<i)(af:i<=j)(ah:j<=4000000):
  Y q 264 [dK j,R r,R i] [cF j O] (bg (partialInsertionSort ltInt O r i).2) [cF j (partialInsertionSort ltInt O r i).1]:=by
 have m:a' q [(265,qi)]:=.cons sc .nil;refine Y.I func264 rfl λag=>?_;obtain⟨u,F⟩:∃u,partialIns ltInt r i 5 (r+1) O=u:=⟨_,rfl⟩;have V:partialInsertionSort ltInt O r i=u:=F;rw[V];refine cU m a bF ?_
 refine g.ck (S2:=Unit) 0 a a (λ_=>u.2=v) (λ_=>[(0,dK j)]) (λ_=>[cF j u.1]) 1 (λb:Nat×Nat×Array Int=>b.2.2.size=j/\b.1<=5/\r+1<=b.2.1/\b.2.1<=i/\partialIns ltInt r i b.1 b.2.1 b.2.2=u) (λb=>qN j r i b.2.1 b.1) (λb=>[cF j b.2.2]) (λb=>b.1) (5,r+1,O) a D a D a ⟨W,by grind,by grind,by grind,F⟩ ?_ ?_
 .rintro Z ⟨b,e,d1⟩ ⟨bB,J,bp,o,s⟩;simp only at bB J bp o s;cases b with
  |zero=>
   rw[partialIns]at s;refine bd m [-14] a D (g.aA ?_);exact Z () N a D a (by simp[bs,<-s])
  |succ b=>
   rw[abg]at s;refine bd m [14] a bv (g.ck (S2:=Unit) 2 a a (λ_=>True) (λ_=>qN j r i (scanSorted ltInt d1 i e) (b+1)) (λ_=>[cF j d1]) 1 (λh:Nat=>e<=h/\h<=i/\scanSorted ltInt d1 i h=scanSorted ltInt d1 i e) (λh=>qN j r i h (b+1)) (λ_=>[cF j d1]) (λh=>i-h) e a D a D a ⟨bC _,o,a⟩ ?_ ?_)
   .rintro dy h ⟨P,aa,br⟩;by_cases ae:h<i
    .have bT:((h:Int)-1).toNat=h-1:=w;cases bk:ltInt d1[h]! d1[h-1]! with
     |false=>
      refine bd m [19,-30] a P9 (g.az (h+1) a D D ?_ ?_)
      .grind [MO]
      omega
     |true=>
      refine bd m [19,30] a P9 (g.aA ?_);have ak:scanSorted ltInt d1 i e=h:=by grind[zu]
      exact dy () B a bv a D
    refine bd m [-19] a bv (g.aA ?_);have ak:scanSorted ltInt d1 i e=h:=by grind[zu]
    exact dy () B a bv a D
   rintro⟨⟩ -;have X:=acc (O:=d1) (i:=i) (i-e) e (bC _) o;obtain⟨k,H⟩:∃k,k=scanSorted ltInt d1 i e:=⟨_,rfl⟩;rw[<-H]at X s⊢
   by_cases C:k=i
   .rw[bl C]at s;rw[<-s];refine bd m [37] a ?_ (g.aS (bZ.mk [0] a ?_ a a a hi))
    .simp[C]
    simp
   rw[bj C]at s;by_cases Q:i-r<50
   .rw[bl Q]at s;rw[<-s];refine bd m [-37,41] a j7 (g.aS (bZ.mk [0] a ?_ a a a hi));simp
   rw[bj Q]at s;have bT:((k:Int)-1).toNat=k-1:=w;refine bd m [-37,-41,912] a ?_ ?_
   .simp only[U,cV,cW,bT,a8,dr,eW,ea,ba,a9];exact fE
   refine g.bb [cF j (swp d1 k (k-1))] a ?_ ?_
   .simp only[U.Y,U,cV,cW,bT,a9,ba];exact lh bB w w (λ_ _=>rfl)
   have K:(swp d1 k (k-1)).size=j:=sq;obtain⟨d2,y⟩:∃d2,d2=swp d1 k (k-1):=⟨_,rfl⟩;rw[<-y]at K s⊢;obtain⟨d3,x⟩:∃d3,d3=if k-r≥2 then shiftDown ltInt (k-1) d2 else d2:=⟨_,rfl⟩
   rw[<-x]at s;have ab':∀p O,(shiftDown ltInt p O).size=O.size:=by
    intro p;induction p with
    |zero=>intro O;rfl
    |succ p ai=>
     intro O;rw[shiftDown];exact sq
   have S:d3.size=j:=N;apply g.cj (qN j r i k (b+1)) [cF j d3]
   .intro dy;by_cases E:k-r≥2
    .rw[bl E]at x;refine bd m [61] a sr (g.ck (S2:=Unit) 4 a a (λ_=>True) (λ_=>qN j r i k (b+1)) (λ_=>[cF j d3]) 1 (λb:Nat×Array Int=>b.2.size=j/\b.1<i/\shiftDown ltInt b.1 b.2=d3) (λt=>qN j r i k (b+1)++[(9,R t.1)]) (λb=>[cF j b.2]) (λb=>b.1) (k-1,d2) a bv a D a ⟨K,by grind,x.symm⟩ ?_ ?_)
     .rintro d ⟨p,d4⟩ ⟨T,z,A⟩;simp only at T z A;by_cases I:1<=p
      .have bz:((p:Int)-1).toNat=p-1:=w;cases bk:ltInt d4[p]! d4[p-1]! with
       |true=>
        refine bd m [65,77] a Ad (g.az (p-1,swp d4 p (p-1)) a bv Pv ?_ ?_)
        .grind [acs]
        grind
       |false=>
        refine bd m [65,-77] a Ad (g.aA ?_);have ak:d3=d4:=by grind[MW]
        exact d () B a D a ui
      refine bd m [-65] a bv (g.aA ?_);have ak:d3=d4:=by grind[MW]
      exact d () B a D a ui
     rintro⟨⟩ -;exact bd m [918] a B kD
    rw[bj E]at x;rw[<-x];exact bd m [-61,918] a Ac kD
   by_cases L:i-k≥2
   .rw[bl L]at s;obtain⟨eZ,M⟩:∃eZ,shiftUp ltInt i (k+1) d3=eZ:=⟨_,rfl⟩;rw[M]at s;refine bd m [98] a sr ?_
    refine g.ck (S2:=Unit) 6 a a (λ_=>eZ.size=j) (λ_=>qN j r i k (b+1)) (λ_=>[cF j eZ]) 1 (λb:Nat×Array Int=>b.2.size=j/\1<=b.1/\b.1<=i/\shiftUp ltInt i b.1 b.2=eZ) (λt=>qN j r i k (b+1)++[(10,R t.1)]) (λb=>[cF j b.2]) (λb=>i-b.1) (k+1,d3) a D a D a ⟨S,by grind,by grind,M⟩ ?_ ?_
    .rintro d ⟨p,d4⟩ ⟨T,I,z,A⟩;simp only at T I z A;by_cases aP:p<i
     .have bz:((p:Int)-1).toNat=p-1:=w;cases bk:ltInt d4[p]! d4[p-1]! with
      |true=>
       refine bd m [103,115] a Ad (g.az (p+1,swp d4 p (p-1)) a D Pv ?_ ?_)
       .grind [nR,acu]
       grind
      |false=>
       refine bd m [103,-115] a Ad (g.aA ?_);have ak:eZ=d4:=by grind[MX]
       exact d () N a D a ui
     refine bd m [-103] a bv (g.aA ?_);have ak:eZ=d4:=by grind[MX]
     exact d () N a D a ui
    rintro⟨⟩ J;refine cU m a wP (g.az (b,k,eZ) a bv D N ?_);grind
   rw[bj L]at s;refine bd m [-98] a Ac (g.az (b,k,d3) a bv D N ?_);grind
 rintro⟨⟩ G;refine cU m a B (g.aJ [0] a ?_ hi);simp[G]
end
section
open Go.Sort (swp pdq rd Rd Below SWO insertionSort heapSort breakPatterns choosePivot reverseRange partialInsertionSort partition partitionEqual Hint ltInt PermIn SortedIn)
variable {q:af S}
abbrev v7(h d e g:Nat)(a b:Bool):bM:=[(0,dK h),(1,R d),(2,R e),(3,R g),(8,bg a),(9,bg b)]
def Ks{a}:qy a=2↔a=.decreasing:=by cases a<;>simp[qy]
def ZG{a}:qy a=1↔a=.increasing:=by cases a<;>simp[qy]
structure SE where
 cC:Nat
 cP:Nat
 lim:Nat
 hV:Bool
 hX:Bool
 db:Array Int
def Wk(j)(a){x}(d:a.size=j)(h:i<=j)(e:x<=j)(k:j<=4000000){b}(g:b=insertionSort ltInt a x i):Y q 259 [dK j,R x,R i] [cF j a] (.T []) [cF j b]:=by grind[Wj]
def VZ(j)(a){x}(e:a.size=j)(d:x<=i)(h:1<=i-x)(k:i<=j)(m:j<=4000000){b}(g:b=heapSort ltInt a x i):Y q 260 [dK j,R x,R i] [cF j a] (.T []) [cF j b]:=by grind[VW]
def XQ(j)(s:j<=4000000):∀aq(K:Array Int)(x i lim:Nat),i-x<=aq->K.size=j->x<=i->i<=j->lim<=100->Below ltInt x i K ->
  ∀{E aK aL:Int},E=x->aK=i->aL=lim->∀{an:Array Int},an=pdq ltInt K x i lim l l->Y q 208 [dK j,R E,R aK,R aL] [cF j K] (.T []) [cF j an]:=by
 have e:a' q [(265,qi)]:=.cons sc .nil;have M:=Go.Sort.swo_ltInt;have a0:=Go.Sort.partialInsertionSort_holds (lt:=ltInt);have ah:=Go.Sort.partition_holds ltInt;have a4:=Go.Sort.partitionEqual_holds ltInt;have aV:=Go.Sort.reverseRange_holds (α:=Int);have L:=Go.Sort.pdq_sorts ltInt;intro aq;induction aq using Nat.strongRecOn with
 |_ aq ai=>
 intro K x i lim a7 ae ab aB aD aM E aK aL aE aF aG an aa;subst aE aF aG;refine Y.I func208 rfl λaC=>?_;refine cU e a B (g.aH 1 (λo:SE=>o.db.size=j/\o.cC<=o.cP/\o.cP<=j/\o.lim<=100/\o.cP-o.cC<=i-x/\Below ltInt o.cC o.cP o.db/\pdq ltInt o.db o.cC o.cP o.lim o.hV o.hX=an) (λo=>v7 j o.cC o.cP o.lim o.hV o.hX) (λo=>[cF j o.db]) (λo=>o.cP-o.cC) ⟨x,i,lim,l,l,K⟩ a D a D a ⟨ae,ab,aB,aD,bC _,aM,aa.symm⟩ ?_);clear aC aM ae aa;rintro⟨h,k,p,d,m,d1⟩ ⟨T,ar,r,af,ag,aM,O⟩;simp only at T ar r af ag aM O;by_cases Q:k-h<=12
 .rw[Go.Sort.pdq_small Q]at O;refine bd e [23] a ?_ ?_
  .simp only[U,a8,bw];exact fE
  exact g.aB (Wk j d1 (x:=h) (i:=k) T r w s O.symm) [0] a FZ
 by_cases S:p=0
 .rw[Go.Sort.pdq_heap Q S]at O;refine bd e [-23,29] a ?_ ?_
  .simp only[U,a8,dr,gR];exact fE
  exact g.aB (VZ j d1 (x:=h) (i:=k) T ar w r s O.symm) [0] a FZ
 have aj:h<k:=w;obtain⟨X,a5,f3,f4,f5,f6,f7,f8⟩:=Go.Sort.rd_facts (limit:=p) (wb:=d) (wp:=m) M a0 aV aj N aM;have a6:=Go.Sort.rd_lim_le (lt:=ltInt) (d:=d1) (a:=h) (b:=k) (limit:=p) (wb:=d) (wp:=m);have aX:=Go.Sort.rd_dec (lt:=ltInt) (d:=d1) (a:=h) (b:=k) (limit:=p) (wb:=d) (wp:=m);have aP:=Go.Sort.rd_not (lt:=ltInt) (d:=d1) (a:=h) (b:=k) (limit:=p) (wb:=d) (wp:=m);have G:=Go.Sort.rd_pi_yes (lt:=ltInt) (d:=d1) (a:=h) (b:=k) (limit:=p) (wb:=d) (wp:=m);have aR:=Go.Sort.rd_pi_no (lt:=ltInt) (d:=d1) (a:=h) (b:=k) (limit:=p) (wb:=d) (wp:=m);have av:=Go.Sort.rd_c (lt:=ltInt) (d:=d1) (a:=h) (b:=k) (limit:=p) (wb:=d) (wp:=m);have Z:d=v->(rd ltInt d1 h k p d m).d1=breakPatterns d1 h k/\(rd ltInt d1 h k p d m).lim=p-1:=by grind[Go.Sort.rd_false]
 have a1:d=l->(rd ltInt d1 h k p d m).d1=d1/\(rd ltInt d1 h k p d m).lim=p:=by grind[Go.Sort.rd_true]
 have aN:=Go.Sort.pdq_done (lt:=ltInt) (d:=d1) (wb:=d) (wp:=m) Q S;have geq:=Go.Sort.pdq_eq (lt:=ltInt) (d:=d1) (wb:=d) (wp:=m) Q S;have y:=Go.Sort.pdq_left (lt:=ltInt) (d:=d1) (wb:=d) (wp:=m) Q S;have aT:=Go.Sort.pdq_right (lt:=ltInt) (d:=d1) (wb:=d) (wp:=m) Q S;rw[T]at X f4 f7;rw[O]at aN geq y aT;generalize rd ltInt d1 h k p d m=b at *;apply g.cj (v7 j h k b.lim d m++[(10,R ((k-h:Nat):Int))]) [cF j b.d1]
 .intro dy;cases d with
  |false=>
   obtain⟨H,J⟩:=Z rfl;refine bd e [-23,-29] a Pd (g.aB (UR j d1 h k T ar r s) [0] a ?_);rw[<-H];refine bd e [910] a so ?_;exact dy _ _ a (by simp[U.Y,U,J,ba,a9];and_intros<;>omega)
  |true=>
   obtain⟨H,J⟩:=a1 rfl;subst H;exact bd e [-23,-29,910] a Pd (dy _ _ a bv)
 refine cU e a B (g.aB (UT j b.d1 h k ar r w s) [0] a ?_);rw[<-av];apply g.cj (v7 j h k b.lim d m++[(10,R ((k-h:Nat):Int)),(11,R b.pivot),(12,R (qy b.hint))]) [cF j b.d2]
 .intro dy;by_cases aO:b.c.2=.decreasing
  .obtain⟨H,J,z⟩:=aX aO;refine bd e [50] a ?_ ?_
   .simp only[U,gR,Ks];omega
   refine g.aB (X1 j b.d1 h k X w w r s) [0] a ?_;rw[<-H];exact bd e [915] a so (dy _ _ a (by simp[U.Y,U,J,z,qy,ba,a9];omega))
  obtain⟨H,J,z⟩:=aP aO;rw[<-H];refine bd e [-50,915] a ?_ ?_
  .simp only[U,eW,ea,Ks];omega
  exact dy _ _ a (by simp[U.Y,U,J,z,ba,a9])
 by_cases A:b.pi.2=l
 ·
  have aH:(d&&m&&decide (b.hint=.increasing))=l:=N;have V:=G aH;simp[cm,bw]at aH;obtain⟨⟨rfl,rfl⟩,aY⟩:=aH;refine bd e [67] a bF (g.aB (Jz j b.d2 h k f4 aj r s) [0] a ?_);rw[<-V,A,<-aN A];exact FZ
 rw[p9]at A;apply g.cj (v7 j h k b.lim d m++[(10,R ((k-h:Nat):Int)),(11,R b.pivot)]) [cF j b.pi.1]
 .intro dy;cases u:(d&&m&&decide (b.hint=.increasing))with
  |true=>
   have V:=G u;simp[cm,bw]at u;obtain⟨⟨rfl,rfl⟩,aY⟩:=u;refine bd e [67] a bF (g.aB (Jz j b.d2 h k f4 aj r s) [0] a ?_);rw[<-V,A];exact FJ
  |false=>
   have V:b.d2=b.pi.1:=N;rw[V];cases d with
   |false=>
    exact FJ
   |true=>
    cases m with
    |false=>
     exact FJ
    |true=>
     refine bd e [-67,917] a ?_ ?_
     .simp only[U,eW,ea,ZG];grind
     exact kD
 have W:((h:Int)-1).toNat=h-1:=w;cases u:(decide (h>0)&&!ltInt b.pi.1[h-1]! b.pi.1[b.pivot]!)with
 |true=>
  have au:=u;simp[cm,bw,jl]at au;obtain⟨F,t,I,C,_⟩:=Go.Sort.round_eq (mid:=(partitionEqual ltInt b.pi.1 h k b.pivot).1) (d4:=(partitionEqual ltInt b.pi.1 h k b.pivot).2) M a4 au.1 f6.1 f6.2 N f8 au.2 rfl;have ao:=geq A u ⟨F,t⟩;refine bd e [74,-85] a ?_ ?_
  .simp only[U,cV,cW,W,au.2,a8,bw,ba,a9];exact fE
  refine g.aB (XN j b.pi.1 h k b.pivot f7 aj r w s) [0] a (cU e a B (g.az ⟨(partitionEqual ltInt b.pi.1 h k b.pivot).1,k,b.lim,d,m,(partitionEqual ltInt b.pi.1 h k b.pivot).2⟩ a D D N ?_));grind
 |false=>
  obtain⟨F,t,I,C,ak,aI,aJ⟩:=Go.Sort.round_part (mid:=(partition ltInt b.pi.1 h k b.pivot).1) (ap:=(partition ltInt b.pi.1 h k b.pivot).2.1) (d4:=(partition ltInt b.pi.1 h k b.pivot).2.2) M ah f6.1 f6.2 N f8 rfl;apply g.cj (v7 j h k b.lim d m++[(10,R ((k-h:Nat):Int)),(11,R b.pivot)]) [cF j b.pi.1]
  .intro dy;by_cases aS:0<h
   .have aZ:ltInt b.pi.1[h-1]! b.pi.1[b.pivot]! = l:=N;refine bd e [74,85,920] a ?_ ?_
    .simp only[U,cV,cW,W,aZ,a8,bw,ba,a9];exact fE
    exact kD
   exact bd e [-74,920] a bv kD
  refine cU e a B (g.aB (XM j b.pi.1 h k b.pivot f7 aj r w s) [0] a ?_);have aw:=y A u ⟨F,t⟩;have ax:=aT A u ⟨F,t⟩;generalize partition ltInt b.pi.1 h k b.pivot=P at *;rw[f7]at I;by_cases aQ:P.1-h<k-P.1
  .have ao:=aw aQ;obtain⟨w1,w2⟩:=L M P.2.2 h P.1 b.lim l l F N C;obtain⟨w3,_⟩:=aI _ w1 w2;refine bd e [113] a sr (g.aB (ai (P.1-h) w P.2.2 h P.1 b.lim (bC _) I F w w C a a a a) [0] a (cU e a Sf (g.az ⟨P.1+1,k,b.lim,decide (P.1-h≥(k-h) / 8),P.2.1,pdq ltInt P.2.2 h P.1 b.lim l l⟩ a bv D ?_ ?_)))
   .exact⟨by simp only;rw[w1.1,I],by grind,r,by grind,by grind,w3,ao.symm⟩
   grind
  have ao:=ax aQ;obtain⟨w1,w2⟩:=L M P.2.2 (P.1+1) k b.lim l l w N ak;obtain⟨w3,_⟩:=aJ _ w1 w2;refine bd e [-113] a Ac (g.aB (ai (k-(P.1+1)) w P.2.2 (P.1+1) k b.lim (bC _) I w r w ak (E:=(P.1:Int)+1) w a a a) [0] a (cU e a ?_ (g.az ⟨h,P.1,b.lim,decide (k-P.1≥(k-h) / 8),P.2.1,pdq ltInt P.2.2 (P.1+1) k b.lim l l⟩ a ?_ ?_ ?_ ?_)))
  .trivial
  .exact bv
  .simp
  .exact⟨by simp only;rw[w1.1,I],by grind,by grind,by grind,by grind,w3,ao.symm⟩
  grind
end
section
open Go.Proofs Go.Conc Go.Conc.Lib
open Go.ConcN (WgLive PayAt Has RW AtR0)
open Go.ConcR (KK WgAt stA smA rd wr mk Payload DC0)
instance afx:Payload:=⟨246⟩
def nm(h:Int):bI:=λargs e=>match args,e with
 |[.n (.R (.c (.int .i64 d))),g,.n (.R (.c (.int .i64 i)))],[]=>match jA 2 g with
  |none=>n
  |some (b,a)=>f (x4 (dh d (a2.ad b a) i),[],[a2.bH b a,d=h])
 |_,_=>n
noncomputable def Hc:Code:=(Tryz.f189.body).getD .skip
noncomputable def D5:Array ao:=match Hc with|.seq (.region _ a _) _=>a|_=>#[]
noncomputable def vV:Array ao:=match Hc with|.seq _ (.region _ a _)=>a|_=>#[]
def Tl:Tryz.f189.body=f (.seq (.region 0 D5 v) (.region 1 vV l)):=bG
def gY(e:Option Nat)(a:Op)(b:an)(d:Array Edge):ao:={dst:=e,op:=a,type:=b,pos:= "l12_snap.go:82",after:=d,guard:=n}
def mN:m ao:=[gY (f 6) (.load 234 (.tmp 4)) 234 #[],gY (f 7) (.load 3 (.tmp 5)) 3 #[],gY (f 8) (.load 3 (.tmp 1)) 3 #[],gY (f 9) (.load 26 (.tmp 2)) 26 #[],gY (f 10) (.load 3 (.tmp 3)) 3 #[],
 gY (f 11) (.call {callee:=.value (.func 191),args:=#[.tmp 8,.tmp 9,.tmp 10],argTypes:=#[3,26,3]}) 246 #[⟨2,.data⟩,⟨3,.data⟩,⟨4,.data⟩],
 gY (f 12) (.indexAddr 234 (.tmp 6) (.tmp 7)) 0 #[⟨0,.data⟩,⟨1,.data⟩,⟨0,.phase⟩,⟨1,.phase⟩,⟨2,.phase⟩,⟨3,.phase⟩,⟨4,.phase⟩,⟨5,.phase⟩],
 gY n (.store 246 (.tmp 12) (.tmp 11)) 0 #[⟨6,.data⟩,⟨5,.data⟩,⟨5,.chain⟩,⟨0,.phase⟩,⟨1,.phase⟩,⟨2,.phase⟩,⟨3,.phase⟩,⟨4,.phase⟩,⟨5,.phase⟩]]
def aaZ:vV=mN.toArray:=bG
def y'(a:mN[e]?=f r):e<8:=(cP.1 a).1
section
variable (h:Int)(Z:m cb)(x:Int)(j E M:Nat)
def LV(a:X):bM:=[(0,cM a),(1,ax (.Q [.int .i64 h])),(2,ax (.Q [.B v 2 (c Z) (a2.fn Z)])),(3,ax (.Q [.int .i64 x])),(4,ax (.Q [.val (.slice (f ⟨M,0,n⟩) j j)])),(5,ax (.Q [.int .i64 E]))]
def sk:Nat->y
 |0=>cM (.slice (f ⟨M,0,n⟩) j j)
 |1=>R E
 |2=>R h
 |3=>a2.B Z
 |4=>R x
 |5=>x4 (dh h Z x)
 |6=>cM (.pointer (f ⟨M,E*2,n⟩))
 |_=>.any
def rU:Nat->Option Nat
 |6=>f 0|7=>f 1|8=>f 2|9=>f 3|10=>f 4|11=>f 5|12=>f 6|_=>n
def Ke(a:X):Nat->bM
 |5=>[(8,R h),(9,a2.B Z),(10,R x)]
 |6=>[(6,cM (.slice (f ⟨M,0,n⟩) j j)),(7,R E)]
 |_=>LV h Z x j E M a
end
def aaP{m:af S}{j E M}(k:E<j):aT m 13 mN (gY (f 12) (.indexAddr 234 (.tmp 6) (.tmp 7)) 0 #[⟨0,.data⟩,⟨1,.data⟩,⟨0,.phase⟩,⟨1,.phase⟩,⟨2,.phase⟩,⟨3,.phase⟩,⟨4,.phase⟩,⟨5,.phase⟩]) [(6,cM (.slice (f ⟨M,0,n⟩) j j)),(7,R E)] [] (cM (.pointer (f ⟨M,E*2,n⟩))) []:=by
 refine .aZ (λ_ _ _ _=>jf a) (a1.aR λr e t h=>?_);have d:=h (.tmp 6);have b:=h (.tmp 7);have o:bE [(6,y.n (.R (.v (.slice (f ⟨M,0,n⟩) j j)))),(7,R E)] (.tmp 6)=cM (.slice (f ⟨M,0,n⟩) j j):=rfl;have q:bE [(6,y.n (.R (.v (.slice (f ⟨M,0,n⟩) j j)))),(7,R E)] (.tmp 7)=R E:=rfl;rw[o]at d;rw[q]at b;have d:=Rd.bd d;have b:=b8 b;generalize g:e (.tmp 7)=s at b;cases b;have i:=(bb 234 yI a).run_underlying (p:=r.a);refine⟨.pointer (f ⟨M,E*2,n⟩),?_,Rd.val a,?_⟩
 .simp[ab,gY,d,g,Instr.indexAt,asIntOf,i,show yI.desc=.slice 246 from a,(bb 246 rQ a).bc,show rQ.size=2 from a,g6,k]
 simp[ab,gY,d,g,Instr.indexAt,asIntOf,i,show yI.desc=.slice 246 from a,g6,k]
def aeD{w:af S}{h}(A:bL w 191 (nm h))(Z)(x)(j E M)(J:E<j)(d):
  uC w 13 mN.toArray (LV h Z x j E M d) [] (sk h Z x j E M) (Ke h Z x j E M d) rU 7:=by
 have F:a' w [(191,nm h)]:=a'.cons A a'.nil;have r:∀(i:Nat) p y t m,mN[i]?=f p->iI eU [(191,nm h)] [] mN y [] p=f (t,n,m)->U m->aT w 13 mN p y [] t []:=
  λi p y t m _ u e=>dT bb F u e
 refine⟨?_,?_,?_,?_,?_,?_,by decide⟩
 .intro i p e K C _;simp[kf]at e;have g:=y' e
  match i,g with
  |0,_|1,_|2,_|3,_|4,_|5,_|6,_|7,_=>
   cases e;simp[gY]at C;try (rcases C with rfl|rfl|rfl|rfl|rfl|rfl|rfl|rfl|rfl<;>decide)
   try (rcases C with rfl|rfl|rfl<;>decide)
 .intro i p t e z;simp[kf]at e;have g:=y' e
  match i,g with
  |0,_|1,_|2,_|3,_|4,_|5,_|6,_|7,_=>
   cases e;cases z;try exact⟨rfl,by decide⟩
 .intro t i u;unfold rU at u;split at u<;>cases u<;>exact⟨_,rfl,rfl⟩
 .intro i p e q;simp[kf]at e;have g:=y' e
  match i,g with
  |0,_=>cases e;exact r 0 _ _ _ _ a a B
  |1,_=>cases e;exact r 1 _ _ _ _ a a B
  |2,_=>cases e;exact r 2 _ _ _ _ a a B
  |3,_=>cases e;exact r 3 _ _ _ _ a a B
  |4,_=>cases e;exact r 4 _ _ _ _ a a B
  |5,_=>
   cases e;have:=r 5 _ (Ke h Z x j E M d 5) _ _ a a (by simp[a2.U]);rw[a2.l]at this;exact this
  |6,_=>cases e;exact aaP J
  |7,_=>grind
 .intro i p e q o k b aa s;simp[kf]at e;have g:=y' e
  match i,g with
  |0,_|1,_|2,_|3,_|4,_=>
   match o with
   |0|1|2|3|4|5=>exact s
   |o+6=>trivial
  |5,_=>
   cases e
   match o with
   |8=>exact(show bx k b aa (sk h Z x j E M 2)from by simpa[rU,gY,eY,Region.binds]using s)
   |9=>exact(show bx k b aa (sk h Z x j E M 3)from by simpa[rU,gY,eY,Region.binds]using s)
   |10=>exact(show bx k b aa (sk h Z x j E M 4)from by simpa[rU,gY,eY,Region.binds]using s)
   |0|1|2|3|4|5|6|7=>trivial
   |o+11=>trivial
  |6,_=>
   cases e
   match o with
   |6=>exact(show bx k b aa (sk h Z x j E M 0)from by simpa[rU,gY,eY,Region.binds]using s)
   |7=>exact(show bx k b aa (sk h Z x j E M 1)from by simpa[rU,gY,eY,Region.binds]using s)
   |0|1|2|3|4|5=>trivial
   |o+8=>trivial
  |7,_=>grind
 intro p e D I q;simp[kf]at e;cases e
 match D,I with
 |0,_=>exact⟨⟨0,.phase⟩,by simp[gY],rfl,rfl⟩
 |1,_=>exact⟨⟨1,.phase⟩,by simp[gY],rfl,rfl⟩
 |2,_=>exact⟨⟨2,.phase⟩,by simp[gY],rfl,rfl⟩
 |3,_=>exact⟨⟨3,.phase⟩,by simp[gY],rfl,rfl⟩
 |4,_=>exact⟨⟨4,.phase⟩,by simp[gY],rfl,rfl⟩
 |5,_=>exact⟨⟨5,.phase⟩,by simp[gY],rfl,rfl⟩
 |6,_=>exact⟨⟨6,.data⟩,by simp[gY],rfl,rfl⟩
 |7,_=>grind
noncomputable def mu:aG:={(default:aG)with fn:=Tryz.prog.funcs.size,defers:=[],mode:=.panicking [goexitEntry]}
def rE(z:Array X):Deferred:={target:=.fn (.func 189) z,args:=#[]}
def Tm(v0 v1 v2 a v4 b)(p):ap S v (born S (rE #[v0,v1,v2,a,v4,b])) p =
  .go (G ((baseD 189).at ⟨#[v0,v1,v2,a,v4,b,I,I,I,I,I,I,I],[]⟩ [.code (.seq (.region 0 D5 v) (.region 1 vV l))]) [mu]) p #[]:=by
 have g:=Tl;have e:Tryz.f189.ntmps=13:=bG;have d:¬Tryz.f189.name= "runtime.NumGoroutine":=by have:(Tryz.f189.name== "runtime.NumGoroutine")=v:=bG;grind
 simp[born,rE,ap,unwind,callDeferred,invoke,callFunc,Tryz.func189,g,e,d,seen,GStep.after,G,Frame.enter,Frame.at,baseD,mu]
end
section
variable {q:af S}
abbrev nO(a:m cb)(b:Nat):cb:=a.getD b (0,[])
def Ze{j}{Z}{b}(g:e<c Z)(m:fZ h (nO Z e) j=f b)(d:∀a,a<e->fZ h (nO Z a) j=n):dh h Z j=f b:=by
 unfold dh;induction Z generalizing e with
 |nil=>grind
 |cons o Z i=>
  cases e with
  |zero=>grind
  |succ e=>
   have k:=d 0 w;grind
def Zf{j}{Z}(b:∀a,a<c Z->fZ h (nO Z a) j=n):dh h Z j=n:=by unfold dh;grind[List.getElem_of_mem]
theorem k9.fb{P}{J}{k}{ac}(a0:b3 P ac){fn}{s}{res}{aq}(aY){Z}(b:tF ac fn.results.toList aY J res=f Z)(p:U Z)(q:dz aY k=f aq)(j:l8 aq=l)(g:fl aY=l)(e:∀h,h<s->aY[h]?=f h):
  k9 P fn s res aq .ret J k:=by
 refine⟨.inl a,aY,?_⟩;unfold tF at b;split at b
 .rename_i bf d;split at b
  .rename_i m o;split at b
   .rename_i i;exact⟨m,Z,oZ.fb a0 d o,b,p,i,q,j,g,e⟩
   grind
  grind
 grind
def eN{b:m Nat}:∀a,a<0->b[a]?=f a:=λ_ d=>absurd d (iS _)
def Vz(o:bL q 221 lN)(h)(Z)(j)(i:ce h=l):Y q 191 [R h,a2.B Z,R j] [] (x4 (dh h Z j)) []:=by
 refine Y.bE func191 rfl rfl rfl λp=>?_;have u:=p.B 1 a;have e:a' q [(241,kl c7 (jJ bH) c7 (λh t j=>iZ (fZ h t j)) λh _ _=>[ce h=l])]:=.cons (ad9 o) .nil;refine b9 e a B (g.aH 1 (λb=>b<=c Z/\∀k,k<b->fZ h (nO Z k) j=n) (λb:Nat=>[(0,R h),(2,R j),(6,aI 0 0),(11,a2.B Z),(12,R (c Z)),(13,R b)]) (λ_=>[.cells 246 [.c (.S []),.c (.bool v)]]) (λb=>c Z-b) 0 a D a D a ⟨by omega,by omega⟩ ?_);rintro b ⟨s,m⟩;by_cases r:b<c Z
 .cases d:fZ h (nO Z b) j with
  |some y=>
   refine a_ e [14,24] a ?_ (g.freeze 6 0 a a a (g.aS ?_))
   .simp only[U,cW,bH.l];refine⟨?_,bH.U _,i,by omega,by omega,fa w⟩;grind
   refine k9.fb bb [] a ?_ a a a eN;rw[Ze r d m];simp only[cW,bH.l];simp_all
  |none=>
   refine a_ e [14,-24] a ?_ (g.az (b+1) a ?_ ?_ ?_ ?_)
   .simp only[U,cW,bH.l];refine⟨by exact bF,?_,bH.U _,i,by omega,by omega,fa w⟩;grind
   .simp
   .simp
   .grind
   grind
 refine a_ e [-14] a bK (g.aA ?_);refine b9 e a B (g.freeze 6 0 a a a ?_);refine g.cb bb [] a ?_ a a a eN;rw[Zf λk x=>m k w];simp
def adF(m:bL q 221 lN)(d:ce h=l):bL q 191 (nm h):=by
 intro args s i k g b e;unfold nm at b;split at b
 .rename_i k1 r j;split at b
  .cases b
  rename_i u t o;cases b;obtain⟨p,rfl⟩:=e;exact(Vz m _ _ j d).args λw z=>b5.imp (λ_ a=>a) (b5.imp (λ_ a=>a2.cv o p a) (b5.imp (λ_ a=>a) (λ_ a=>a))) z
 grind
def sR:bI:=λargs b=>match args,b with
 |[.n (.R (.c (.S [46]))),.n (.R (.c (.int .i64 a)))],[]=>f (b2 (aU a.toNat 46),[],[0<=a/\a<=3])
 |_,_=>n
def adn:bL q 282 (dc c7 (λa=>R (fk a.toNat)) λa=>[0<=a/\a<=4000000]):=.a9 λa d=>by
 have e:0<=a/\a<=4000000:=d;obtain⟨b,rfl⟩:∃b:Nat,a=b:=⟨a.toNat,by omega⟩
 exact UY (q:=q) b w
def TJ(a:1<=j)(b:j<=8):j<=fk j/\fk j<=j+3:=Fh
def XJ(h:bL q 281 sR)(d):Y q 221 [b2 d] [] (b2 (fT d)) []:=by
 refine Y.I func221 rfl λj=>?_;have e:a' q [(280,dc eL (λi=>bg (cC i)) λ_=>[]),(282,dc c7 (λb=>R (fk b.toNat)) λb=>[0<=b/\b<=4000000]),(281,sR)]:=.cons ES (.cons adn (.cons h .nil));by_cases x:cC d=l
 .have s:=x;simp only[cC,cm,bw]at s;have k:=TJ s.1.1 s.1.2;refine a_ e [-5] a ?_ (g.aw a ?_)
  .simp[x,a8];omega
  simp[fT,x]
 refine a_ e [5] a oW (g.aw a ?_);simp[fT,x]
def ad4(a:bL q 281 sR):bL q 221 lN:=.a9 λb _=>XJ a b
def XZ:Y q 281 [b2 [46],R 0] [] (b2 []) []:=by refine Y.I func281 rfl λb=>?_;refine a4 [12] a ?_ (g.aw a);simp
def X0:Y q 281 [b2 [46],R 1] [] (b2 [46]) []:=by refine Y.I func281 rfl λb=>?_;refine a4 [-12,14] a ?_ (g.aw a);simp
def aed(g:Y q 281 [b2 [46],R 2] [] (b2 [46,46]) [])(j:Y q 281 [b2 [46],R 3] [] (b2 [46,46,46]) []):bL q 281 sR:=by
 intro args i d e b a h;unfold sR at a;split at a
 .rename_i s;cases a;have:s=0∨s=1∨s=2∨s=3:=lO;rcases this with rfl|rfl|rfl|rfl
  .exact XZ
  .exact X0
  .exact g
  grind
 grind
def Vx(x i):Y q 194 [bS.B x,bS.B i] [] (bg (x==i)) []:=by
 refine Y.I func194 rfl λj=>?_;have o:=j.B 0 a;by_cases aj:c x=c i
 .refine a4 [-10] a z3 (g.b' (λb=>b<=c x/\∀d,d<b->x.getD d []=i.getD d []) (λb:Nat=>[(0,bS.B x),(1,bS.B i),(12,R (c x)),(13,R b)]) (λ_=>[]) (λb=>c x-b) 0 a D a B ⟨by omega,by omega⟩ ?_);rintro b ⟨h,k⟩;by_cases p:b<c x
  .by_cases e:x.getD b []=i.getD b []
   .refine a4 [14,-24] a ?_ (g.b6 (b+1) a ?_ a B ?_ ?_)
    .simp only[U,cW];have m:(x.getD b bS.E==i.getD b bS.E)=l:=gR.2 e;exact⟨by exact bF,by grind,by omega,by omega,by omega,by omega,fa w⟩
    .simp
    .grind
    omega
   refine a4 [14,24] a ?_ (g.bS (bZ.zero a ?_))
   .simp only[U,cW];grind
   exact FA
  refine a4 [-14] a bK (g.bs a a ?_);refine aR a B (g.aw a ?_);have:x=i:=p8 aj λd e r=>by grind
  simp[this]
 refine a4 [10] a bK (g.aw a ?_);exact FA
end
def v8{p q:ae}(t:r.op=.binOp op o p q ty){B}(Q:P.underlying o=f (.pointer B)){i s}(E:∀b g h,bc k b->bx k b g (η p)->bx k b h (η q)->∃y z,g=.pointer y/\h=.pointer z/\(y==z)=i/\(eqGuard op o p q g h).run P b.a=.ok () b.a/\(∀a,(eqGuard op o p q g h).events P b.a a=a) /\
   (Op.equal o g h).run P b.a=.ok i b.a/\∀a,(Op.equal o g h).events P b.a a=a)(x:ij op i=f s):a1 P r η k (ax (.bool s)) k:=by
 refine .aR λb I F A=>?_;obtain⟨y,z,d,e,J,m,C,j,D⟩:=E b _ _ F (A p) (A q);rw[d,e]at m j;have w:=C #[];have u:=D #[];rw[d,e]at w u;cases op<;>simp only[ij,reduceCtorEq,e']at x
 .subst x;exact⟨.bool i,by simp[ab,t,d,e,m,binOp,j],Rd.bool,by simp[ab,t,d,e,m,w,binOp,j,u]⟩
 subst x;exact⟨.bool (!i),by simp[ab,t,d,e,m,binOp,j],Rd.bool,by simp[ab,t,d,e,m,w,binOp,j,u]⟩
def r1{h:ae}(q:r.op=.binOp op o h (.const (.pointer n)) ty){j}(C:P.underlying o=f (.pointer j)){s}(x:η h=ax .bp)(u:η (.const (.pointer n))=ax .bp)(w:ij op l=f s):a1 P r η k (ax (.bool s)) k:=by
 refine v8 q C (i:=l) ?_ w;intro b y z _ g e;rw[x]at g;rw[u]at e;replace g:=b8 g;replace e:=b8 e;cases g;cases e;have t:(Op.equal o (.pointer n) (.pointer n)).run P b.a=.ok l b.a:=FC;have m:∀d,(Op.equal o (.pointer n) (.pointer n)).events P b.a d=d:=λd=>by show(aK (9999+1) o _ _).events P b.a d=d;unfold aK;simp[underlying,C]
 exact⟨n,n,a,a,a,by cases op<;>simp[eqGuard],λd=>by cases op<;>simp[eqGuard],t,m⟩
def abp{m:ae}(t:r.op=.binOp op o m (.const (.pointer n)) ty){q}(h:P.underlying o=f (.pointer q)){s}(y:η m=aI d off)(w:η (.const (.pointer n))=ax .bp)(x:ij op v=f s):a1 P r η k (ax (.bool s)) k:=by
 refine v8 t h (i:=v) ?_ x;intro e z A _ j g;rw[y]at j;rw[w]at g;replace g:=b8 g;cases g;obtain⟨_,L,i,_,_,rfl⟩:=(j:cB k e z (.ptr d off));have u:(Op.equal o (.pointer (f ⟨i,off,n⟩)) (.pointer n)).run P e.a=.ok v e.a:=by show(aK (9999+1) o _ _).run P e.a=_;unfold aK;simp[underlying,h]
 have p:∀b,(Op.equal o (.pointer (f ⟨i,off,n⟩)) (.pointer n)).events P e.a b=b:=λb=>by show(aK (9999+1) o _ _).events P e.a b=b;unfold aK;simp[underlying,h]
 exact⟨_,n,a,a,a,by cases op<;>simp[eqGuard],λb=>by cases op<;>simp[eqGuard],u,p⟩
def abq{z A:ae}(E:r.op=.binOp op o z A ty){h}(m:P.underlying o=f (.pointer h))(x:j≠0)(w:∀g,(sizeOf h).run P g=.ok j g)(D:∀g b,(sizeOf h).events P g b=b){s}(M:η z=aI d off)(N:η A=aI d off)(B:ij op l=f s):a1 P r η k (ax (.bool s)) k:=by
 refine v8 E m (i:=l) ?_ B;intro e J K _ u t;rw[M]at u;rw[N]at t;obtain⟨_,L,i,Q,F,rfl⟩:=(u:cB k e J (.ptr d off));obtain⟨_,y,O,q,p,rfl⟩:=(t:cB k e K (.ptr d off));rw[Q]at q;cases q;rw[F]at p;cases p;have I:(Op.equal o (.pointer (f ⟨i,off,n⟩)) (.pointer (f ⟨i,off,n⟩))).run P e.a=.ok l e.a:=by show(aK (9999+1) o _ _).run P e.a=_;unfold aK;simp[underlying,m,w,x,sameAddr]
 have C:∀b,(Op.equal o (.pointer (f ⟨i,off,n⟩)) (.pointer (f ⟨i,off,n⟩))).events P e.a b=b:=λb=>by show(aK (9999+1) o _ _).events P e.a b=b;unfold aK;simp[underlying,m,w,D,x,sameAddr]
 exact⟨_,_,a,a,by simp,by cases op<;>simp[eqGuard],λb=>by cases op<;>simp[eqGuard],I,C⟩
def tG{j:ae}(t:r.op=.binOp op o j (.const (.pointer n)) ty){m}(C:P.underlying o=f (.pointer m)){s}{ai}(y:η j=ax (.Q ai))(w:η (.const (.pointer n))=ax .bp)(x:ij op v=f s):a1 P r η k (ax (.bool s)) k:=by
 refine v8 t C (i:=v) ?_ x;intro b z A _ h g;rw[y]at h;rw[w]at g;replace h:=b8 h;replace g:=b8 g;cases g;cases h with|Q i e=>
 have u:(Op.equal o (.pointer (f ⟨i,e,n⟩)) (.pointer n)).run P b.a=.ok v b.a:=FC;have q:∀d,(Op.equal o (.pointer (f ⟨i,e,n⟩)) (.pointer n)).events P b.a d=d:=λd=>by show(aK (9999+1) o _ _).events P b.a d=d;unfold aK;simp[underlying,C]
 exact⟨_,n,a,a,a,by cases op<;>simp[eqGuard],λd=>by cases op<;>simp[eqGuard],u,q⟩
section
variable {q:af S}
abbrev sO(e:Bool)(b:X)(a:Option (Nat×Nat))(d:bA)(g:Nat):ar:=.K (eP 309 5 e b a d g)
def I'(v1)(d:dU v1=l)(bQ)(ah)(b):Y q 291 [aI 0 0] [sO v v1 bQ ah b] (.T []) [sO l v1 bQ ah b]:=by refine Y.I func291 rfl λh=>?_;refine aR a B ?_;refine g.aL (a1.iq bb a a a a a) a a ?_;refine g.aL (r1 a underlying307 a a a) a a ?_;refine aR a B ?_;refine g.aL (a1.iu a a underlying307 underlying220 (l2 type309) (by simp[Tryz.t309]) a) a a ?_;refine g.aL (a1.jB func309 bG bG bG bG rfl rfl rfl) rfl rfl ?_;refine g.aL (a1.im a a underlying220 underlying307 (l2 type309) (by simp[Tryz.t309]) bG a) a a ?_;refine aR a B ?_;refine g.aL (a1.ir bb a a a a a a d) a a ?_;refine aR a B ?_;exact bZ.dm [0] a B a a a (λi e=>by grind)
def Ja(v1)(bQ)(ah)(b):Y q 291 [aI 0 0] [sO l v1 bQ ah b] (.T []) [sO l v1 bQ ah b]:=by refine Y.I func291 rfl λi=>?_;refine aR a B ?_;refine g.aL (a1.gJ bb a a a a a) a a ?_;refine g.aL (abp a underlying307 a a a) a a ?_;refine aR a B ?_;refine g.aL (a1.gJ bb a a a a a) a a ?_;refine aR a B ?_;refine g.aL (abq a underlying307 (j:=2) b' (λe=>by simp) (λe d=>by simp) a a a) a a ?_;refine aR a B ?_;exact bZ.dm [0] a B a a a (λk h=>by grind)
abbrev eb(d:Bool)(a:Option (Nat×Nat))(b:bA)(e:Nat):ar:=sO d (jQ a (c b)) a b e
def ig:∀a,a<1->([0]:m Nat)[a]?=f a:=λa b=>by grind
def CB(b)(bQ)(ah)(i)(e:c ah<=9223372036854775807)(d:bQ=n->ah=[]):Y q 308 [aI 0 0] [eb b bQ ah i] (R (c ah)) [eb b bQ ah i]:=by
 refine Y.I func308 rfl λh=>?_;refine aR a B (g.aL (a1.eS bb a a a a a) a a ?_);cases bQ with
 |none=>
  have:=d a;subst this;refine g.aL (a1.fI a a underlying22 a D) a a ?_;exact Qr
 |some j=>
  refine g.aL (a1.fI a a underlying22 a e) a a ?_;exact Qr
def CU(C cap)(ah b)(e)(k:c b<=9223372036854775807)(h:c ah+c b<=cap):Y q 248 [aI 0 0,b2 b] [eb l (f (C,cap)) ah e] (.T [.R (.c (.int .i64 (c b))),.R (.c .bD)]) [eb l (f (C,cap)) (ah++b) e]:=by refine Y.I func248 rfl λj=>?_;refine aR a B ?_;refine g.aB (Ja (jQ (f (C,cap)) (c ah)) (f (C,cap)) ah e) [0] a ?_;refine aR a B ?_;refine g.aL (a1.eS bb a a a a a) a a ?_;refine aR a B ?_;refine g.aL (a1.ik (d:=0) (C:=C) (cap:=cap) (ah:=ah) a underlying22 underlying9 (l2 type5) (by simp[Tryz.t5]) a a a a h) a a ?_;refine aR a B ?_;refine g.aL (a1.f' bb a a a a a a a) a a ?_;have i:eb l (f (C,cap)) (ah++b) e=.K (eP 309 5 l (jQ (f (C,cap)) (c ah+c b)) (f (C,cap)) (ah++b) e):=N;rw[i];refine aR a B (g.aJ [0] a ?_ ig);simp
theorem Y4:Y q 248 [aI 0 0,b2 []] [eb l n [] 0] (.T [.R (.c (.int .i64 0)),.R (.c .bD)]) [eb l n [] 0]:=by refine Y.I func248 rfl λb=>?_;refine aR a B ?_;refine g.aB (Ja (jQ n 0) n [] 0) [0] a ?_;refine aR a B ?_;refine g.aL (a1.eS bb a a a a a) a a ?_;refine aR a B ?_;refine g.aL (a1.il a underlying22 underlying9 (l2 type5) a a) a a ?_;refine aR a B ?_;refine g.aL (a1.f' bb a a a a a a a) a a ?_;refine aR a B (g.aJ [0] a ?_ ig);simp
abbrev iF:y:=aI 0 0
abbrev om:y:=aI 0 1
def CR(C cap)(ah)(s)(x:c ah<=9223372036854775807)(e:cap≠0):Y q 249 [aI 0 0] [eb l (f (C,cap)) ah s] (b2 ah) [eb l (f (C,cap)) ah (c ah)]:=by
 refine Y.I func249 rfl λh=>?_;refine a4 [901] a B ?_;refine g.dh b6 10 (λb=>ay b 9) (λb=>[iF,iF,om,cM (.slice (f ⟨C,0,n⟩) (c ah) cap),cM (.pointer (f ⟨C,0,n⟩)),iF,iF,om,cM (.slice (f ⟨C,0,n⟩) (c ah) cap),R (c ah)].getD b .any) (λ(_:Unit) _=>b2 ah)
  (λ_=>[eb l (f (C,cap)) ah (c ah)]) a a a a a a ?_ ?_ ?_ ?_
 .refine⟨.w,.w,.w,iL,?_,.w,.w,.w,?_,?_,B,B,B⟩
  .exact .aL (a1.h4 a a e) a
  .exact iL
  exact Qe
 .intro _;refine⟨.w,.w,.w,iL,?_,.w,.w,.w,?_,?_,B,.w,B⟩
  .exact .aL (a1.h4 a a e) a
  .exact iL
  exact Qe
 .exact .dj (.aL (Tf (d:=0) a underlying355 bG a a a) a)
 exact Pg
def GG{b d:ae}(h:r.op=.binOp .add o b d ty){i}(g:η b=R 0)(e:η d=R i)(j:a8 .i64 i):a1 S r η k (R i) k:=by have:=a1.binOp (P:=S) (k:=k) h g e (s:=.int .i64 (0+i)) (cp:=[a8 .i64 (0+i)]) a bv;grind
def bm.gL{e}{fn}{args}{a:ι->m ar}(p:Tryz.prog.funcs[e]?=f fn)(o:(fn.name== "runtime.NumGoroutine")=v)(d:fn.body=f s)(j:ay args.length fn.ntmps=l)(t:g q fn.ntmps (λr i b=>∃h,bZ fn k.length (res h) (a h) r i b) [.code s] .normal (ib 0 args) k):bm q e args k res a:=
 bm.intro p o d (fA j) (g.aQ t)
def YB:Y q 249 [aI 0 0] [eb l n [] 0] (b2 []) [eb l n [] 0]:=by
 refine Y.I func249 rfl λe=>?_;refine a4 [901] a B ?_;refine g.dh b6 10 (λb=>ay b 9) (λb=>[iF,iF,om,cM (.slice n 0 0),cM (.pointer n),iF,iF,om,cM (.slice n 0 0),R (0:Nat)].getD b .any) (λ(_:Unit) _=>b2 [])
  (λ_=>[eb l n [] 0]) a a a a a a ?_ ?_ ?_ ?_
 .refine⟨.w,.w,.w,iL,?_,.w,.w,.w,?_,?_,B,B,B⟩
  .exact .aL (a1.h2 a a) a
  .exact iL
  exact q4
 .intro _;refine⟨.w,.w,.w,iL,?_,.w,.w,.w,?_,?_,B,.w,B⟩
  .exact .aL (a1.h2 a a) a
  .exact iL
  exact q4
 .exact .dj (.aL (a1.jR a a a) a)
 exact Pg
def VH(j)(m:0<j)(o:j<=140737488355328):bm (ι:={e:Nat×Nat // j<=e.2}) q 292 [aI 0 0,R j] [eb l n [] 0] (λ_=>.T []) (λu=>[eb l (f u.1) [] 0]):=by
 refine bm.gL func292 rfl rfl rfl ?_;refine a4 [900] a B ?_;have i:a8 .i64 (j:Int):=bF;have r:y:=cM (.slice n 0 0);refine g.dh (ι:={e:Nat×Nat // j<=e.2}) b6 8 (λb=>ay b 7||(ay 9 b&&ay b 13)) (λb=>[iF,iF,om,cM (.slice n 0 0),R (0:Nat),R 0,R j,R j,.any,iF,iF,om,cM (.slice n 0 0),R (0:Nat)].getD b .any)
  (λu b=>[cM (jQ (f u.1) j),.any,.any,.any,.any,.any,cM (.slice (f ⟨u.1.1,0,n⟩) 0 u.1.2),cM (.slice (f ⟨u.1.1,0,n⟩) 0 u.1.2)].getD (b-8) .any)
  (λu=>[sO l (.slice n 0 0) (f u.1) [] 0]) a a a a a a ?_ ?_ ?_ ?_
 .refine⟨.w,.w,.w,iL,PP,QL,.w,?_,B,.w,.w,.w,?_,?_,B,B,B⟩
  .exact .aL (GG a a a i) a
  .exact iL
  exact q4
 .intro u;have k:u.1.2≠0:=N;refine⟨.w,.w,.w,iL,PP,QL,.w,?_,B,.w,.w,.w,?_,?_,?_,.w,B⟩
  .exact .aL (GG a a a i) a
  .exact iL
  .exact q4
  exact .aL (a1.i_ (h:=0) a underlying22 (l2 type5) a a (g5 _) u.2 k (g6 _ _ _)) a
 .exact .aZ a (Te (d:=0) (Z:=#[3]) underlying22 func310 bG bG bG bG rfl rfl rfl m o rfl)
 intro u;refine aR a B (g.aL (a1.eS (d:=0) bb a a a a a) a a ?_);refine g.aL (a1.iH a underlying22 (l2 type5) a a) a a ?_;refine aR a B (g.aL (a1.f' (d:=0) bb a a a a a a a) a a ?_);exact O4
def I0(j)(e:0<j)(h:j<=140737488355328):bm (ι:={i:Nat×Nat // j<=i.2}) q 247 [aI 0 0,R j] [eb v n [] 0] (λ_=>.T []) (λu=>[eb l (f u.1) [] 0]):=by
 refine bm.gL func247 rfl rfl rfl ?_;refine aR a B (g.aB (I' (jQ n 0) a n [] 0) [0] a (a4 [-7,903] a D ?_));refine g.dh b6 4 (λb=>ay b 3||(ay 5 b&&ay b 9)||ad b 11) (λb=>[iF,iF,om,cM (.slice n 0 0),.any,iF,iF,om,cM (.slice n 0 0),R (0:Nat),.any,R j].getD b .any)
  (λ(_:Unit) b=>[R (0:Nat),.any,.any,.any,.any,.any,R (0-0),.any,bg l].getD (b-4) .any)
  (λ_=>[eb l n [] 0]) a a a a a a ?_ ?_ ?_ ?_
 .refine⟨.w,.w,.w,iL,B,.w,.w,.w,iL,?_,B,.w,B,B⟩;exact q4
 .intro _;refine⟨.w,.w,.w,iL,B,.w,.w,.w,iL,q4,O2,.w,?_,B⟩;exact .eval (bf:=[21]) bb a'.nil (cp:=[decide ((0:Int)-0<(j:Int))=l]) a bK
 .exact P8
 intro _;refine aR a B (g.a2 (VH j e h) [0] a bn λu=>?_);exact O4
def Uw:Y q 247 [aI 0 0,R (0:Nat)] [eb v n [] 0] (.T []) [eb l n [] 0]:=by
 refine Y.I func247 rfl λe=>?_;refine aR a B (g.aB (I' (jQ n 0) a n [] 0) [0] a (a4 [-7,903] a D ?_));refine g.dh b6 4 (λb=>ay b 3||(ay 5 b&&ay b 9)||ad b 11) (λb=>[iF,iF,om,cM (.slice n 0 0),.any,iF,iF,om,cM (.slice n 0 0),R (0:Nat),.any,R (0:Nat)].getD b .any)
  (λ(_:Unit) b=>[R (0:Nat),.any,.any,.any,.any,.any,R (0-0),.any,bg v].getD (b-4) .any)
  (λ_=>[eb l n [] 0]) a a a a a a ?_ ?_ ?_ ?_
 .refine⟨.w,.w,.w,iL,B,.w,.w,.w,iL,?_,B,.w,B,B⟩;exact q4
 .intro _;refine⟨.w,.w,.w,iL,B,.w,.w,.w,iL,q4,O2,.w,?_,B⟩;exact .eval (bf:=[-21]) bb a'.nil (cp:=[decide ((0:Int)-0<((0:Nat):Int))=v]) a D
 .exact P8
 intro _;exact aR a B (bZ.dm [0] a B a a a ig)
def GO(b:r.op=.alloc 309):a1 S r η k (aI (c k) 0) (k++[eb v n [] 0]):=
 a1.ih b (λd=>by simp) (λd a=>by simp)
def aaD{h j m:ae}{b i s}(A)(p:r.op=.call {callee:=.builtin .min,args:=#[h,j,m],argTypes:=dt})(z:η h=R b)(x:η j=R i)(B:η m=R s)(I:min (min b i) s=A)(y:a8 .i64 A):a1 S r η k (R A) k:=by refine .aR λF a J o=>?_;have e:=o h;have d:=o j;have g:=o m;rw[z]at e;rw[x]at d;rw[B]at g;replace e:=b8 e;replace d:=b8 d;replace g:=b8 g;generalize q:a h=C at e;generalize u:a j=D at d;generalize t:a m=E at g;cases e;cases d;cases g;have w:(if s<(if i<b then i else b)then s else if i<b then i else b)=A:=N;exact⟨.int .i64 A,by simp[ab,p,resolve,invoke,builtin,q,u,t,Builtin.min_,Builtin.min2,w],.int y,by simp[ab,p,resolve,invoke,builtin,q,u,t,Builtin.min_,Builtin.min2]⟩
def JG(e:Nat)(z:2<=e)(A:e<=3):Y q 281 [b2 [46],R e] [] (b2 (aU e 46)) []:=by
 refine Y.I func281 rfl λy=>?_;have x:a' q [(307,BF)]:=.cons t307 .nil;refine bd x [-13,-15,-18,-30,-33,-40,-44,-45,-46,-47,-48,-96,935] a ?_ ?_
 .have o:(e:Int)=2∨(e:Int)=3:=w;have i:(kM [46] 0).toNat=46:=rfl;simp[a8,i,o];omega
 refine g.region ?_;refine g.aL (GO a) a a ?_;refine cU x a B (g.a2 (I0 e w w) [0] a bn λs=>?_);obtain⟨⟨h,b⟩,j⟩:=s;have j:e<=b:=j;refine cU x a B (g.aB (CU h b [] [46] 0 D bK) [0] a (cU x a B (g.b' (λd=>1<=d/\d<=e) (λd:Nat=>[(0,b2 [46]),(7,R e),(8,R e),(9,aI 0 0)]) (λd=>[eb l (f (h,b)) (aU d 46) (d-1)]) (λd=>e-d) 1 a D a D ⟨by omega,by omega⟩ ?_)));rintro d ⟨u,t⟩;refine cU x a B (g.aB (CB l (f (h,b)) (aU d 46) (d-1) bK D) [0] a ?_);by_cases p:d<e
 .refine bd x [113] a bK (g.aB (CB l (f (h,b)) (aU d 46) (d-1) bK D) [0] a (cU x a lO (g.aB (CB l (f (h,b)) (aU d 46) (d-1) bK D) [0] a (cU x a B (g.aL (aaD 1 a a a a bK lD) a a ?_)))));refine cU x a B (g.aB (CR h b (aU d 46) (d-1) bK w) [0] a ?_);have m:mx (aU d (46:UInt8)) n (f 1)=[46]:=by
   obtain⟨k,rfl⟩:∃k,d=k+1:=⟨d-1,by omega⟩
   exact bF
  refine cU x a bK ?_;rw[m];refine g.aB (CU h b (aU d 46) [46] (c (aU d 46)) D bK) [0] a ?_;have r:aU d (46:UInt8)++[46]=aU (d+1) 46:=by rw[List.replicate_succ']
  rw[r];refine cU x a B (g.b6 (d+1) a D a ?_ ⟨by omega,by omega⟩ w);simp
 refine bd x [-113] a bK (g.bs a a ?_);have i:d=e:=w;subst i;exact cU x a B (g.aB (CR h b (aU d 46) (d-1) bK w) [0] a wL)
def aec:bL q 281 sR:=aed (JG 2 w w) (JG 3 w w)
def zO:bL q 221 lN:=ad4 aec
def w5(b:Option (Nat×Nat))(d:Nat):Prop:=match b with|none=>d=0|some (_,a)=>d<=a/\0<a
def _root_.Go.AM.bm.hJ{e:Type}{r:af P}{t}{args}{d:ι->m ar}{s:e->y}{a:e->m ar}(u:bm r t args k res d)(i:ι->e)(F:∀b,s (i b)=res b)(E:∀b,a (i b)=d b):bm r t args k s a:=
 ⟨u.1,λC z j o w g p=>u.2 C z j o w g λb h D q k1 x A B=>p (i b) h D q k1 N N N⟩
def Ux(j)(e:j<=140737488355328):bm (ι:={b:Option (Nat×Nat) // w5 b j}) q 247 [aI 0 0,R j] [eb v n [] 0] (λ_=>.T []) (λh=>[eb l h.1 [] 0]):=by
 by_cases g:j=0
 .subst g;exact Uw.tocI.hJ (λ_=>⟨n,a⟩) bn bn
 exact(I0 j w e).hJ (λd=>⟨f d.1,d.2,by grind⟩) bn bn
def CV(bQ)(ah b)(e:c b<=9223372036854775807)(a:w5 bQ (c ah+c b)):Y q 248 [aI 0 0,b2 b] [eb l bQ ah 0] (.T [.R (.c (.int .i64 (c b))),.R (.c .bD)]) [eb l bQ (ah++b) 0]:=by
 cases bQ with
 |none=>
  have a:c ah+c b=0:=a;grind[Y4]
 |some d=>exact CU d.1 d.2 ah b 0 e a.1
def acw(a:Option (Nat×Nat))(b:bA):Nat:=match a with|none=>0|some _=>c b
def YC(bQ)(ah)(d:c ah<=9223372036854775807)(a:w5 bQ (c ah)):Y q 249 [aI 0 0] [eb l bQ ah 0] (b2 ah) [eb l bQ ah (acw bQ ah)]:=by
 cases bQ with
 |none=>
  have a:c ah=0:=a;have e:ah=[]:=jK a;subst e;exact YB
 |some b=>exact CR b.1 b.2 ah 0 d (by have:=a.2;omega)
def lz(b:m bA)(a:Nat):bA:=(b.take a).flatten
def wu{d}(a:e<c d):lz d (e+1)=lz d e++d.getD e []:=by unfold lz;grind[List.take_add_one]
def NN{d}:lz d (c d)=d.flatten:=by simp[lz]
def wt{d}(e):c (lz d e)<=c d.flatten:=by have a:d.flatten=(d.take e).flatten++(d.drop e).flatten:=Gc;rw[a,dm];simp only[lz];omega
def Wt(d)(y:c d.flatten<=140737488355328):Y q 193 [bS.B d,b2 []] [] (b2 d.flatten) []:=by
 refine Y.I func193 rfl λx=>?_;have E:=x.B 0 a;by_cases A:d=[]
 .subst A;refine a4 [14] a ?_ (g.aw a);simp
 by_cases z:c d=1
 .obtain⟨M,rfl⟩:=List.length_eq_one_iff.1 z;refine a4 [-14,16] a D (g.aw a ?_);simp
 have J:2<=c d:=by have:c d≠0:=N;omega
 refine a4 [-14,-16,-22] a bF (g.b' (λb=>b<=c d) (λb:Nat=>[(0,bS.B d),(1,b2 []),(5,R (c (lz d b))),(39,bS.B d),(40,R (c d)),(41,R b)]) (λ_=>[]) (λb=>c d-b) 0 a ?_ a B w ?_)
 .simp[lz]
 intro b m;have K:=wt (d:=d) b;by_cases j:b<c d
 .have t:=wt (d:=d) (b+1);rw[wu j,dm]at t;refine a4 [42,-49] a ?_ (g.b6 (b+1) a ?_ a B w w)
  .have i:(d.getD (b:Int).toNat bS.E)=d.getD b []:=rfl;simp only[U,a8,i];grind
  have i:(d.getD (b:Int).toNat bS.E)=d.getD b []:=rfl;rw[wu j];simp_all
 have i:b=c d:=w;subst i;refine a4 [-42,918] a D (g.bs a a ?_);refine a4 [918] a B (g.region ?_);refine g.aL (GO a) a a ?_;refine cA a B ?_;rw[NN];refine g.a2 (Ux (c d.flatten) y) [0] a bn λu=>?_;obtain⟨h,k⟩:=u;refine cA a bv ?_;have e:∀o,o<=c d.flatten->w5 h o:=λo C=>by
  cases h with
  |none=>
   have:c d.flatten=0:=k;grind
  |some F=>exact⟨fY C k.1,k.2⟩
 have p:lz d 1=d.getD 0 []:=by rw[wu w];simp[lz]
 have s:=wt (d:=d) 1;rw[p]at s;refine g.aB (CV h [] (d.getD 0 []) w (e _ N)) [0] a (cA a bv (g.b' (λb=>b+1<=c d) (λb:Nat=>[(1,b2 []),(8,aI 0 0),(63,ax (.B v 1 (c d-1) (fJ 1 (bS.fn d)))),(64,R (c d-1:Nat)),(65,R b)]) (λb=>[eb l h (lz d (b+1)) 0]) (λb=>c d-b) 0 a wS a bF w ?_));intro b m;have I:=wt (d:=d) (b+1);by_cases j:b+1<c d
 .have r:=wt (d:=d) (b+2);rw[wu j,dm]at r;refine a4 [66] a bv (g.aB (CV h (lz d (b+1)) [] D (e _ N)) [0] a ?_);rw[hU];refine aR a B (g.aB (CV h (lz d (b+1)) (d.getD (1+b) []) N (e _ N)) [0] a (aR a bF (g.b6 (b+1) a D a ?_ w w)));refine U.Y.2 ⟨?_,B⟩;rw[wu j,Nat.add_comm 1 b];simp
 have i:b+1=c d:=w;refine a4 [-66] a bv (g.bs a a ?_);rw[i,NN];exact aR a B (g.aB (YC h d.flatten w (e _ w)) [0] a ue)
def tk{b}(d:d6 b=l)(e)(g:e<c b):97<=ds b e/\ds b e<=122:=by have a:=aW.1 d (b.getD e 0) N;simp only[jx,cm,bw]at a;unfold ds;omega
def UQ(b)(e)(d:d6 b=l)(p:3<=e)(h:e<=c b)(m:c b<=4000000):Y q 311 [b2 b,R e] [] (bg (pK b e)) []:=by
 refine Y.I func311 rfl λj=>?_;have k:=tk d (e-1) w;have o:=tk d (e-2) w;have r:=tk d (e-3) w;have i:((kM b ((e:Int)-1)).toNat:Int)=ds b (e-1):=ug;have O:((kM b ((e:Int)-2)).toNat:Int)=ds b (e-2):=ug;have s:((kM b ((e:Int)-3)).toNat:Int)=ds b (e-3):=ug;refine aR a ?_ (g.aw a ?_)
 .simp only[U,a8,i,O,s];omega
 exact O5
def adw:bL q 311 (ek eL c7 (λb a=>bg (pK b a.toNat)) λb a=>[d6 b=l,3<=a,a<=c b,c b<=4000000]):=.bl λb a h=>by
 obtain⟨e,i,j,g⟩:=h;obtain⟨d,rfl⟩:∃d:Nat,a=d:=⟨a.toNat,by omega⟩
 exact UQ b d e w w g
def yX{g h:ae}{e i}(A)(o:r.op=.call {callee:=.builtin .min,args:=#[g,h],argTypes:=dt})(u:η g=R e)(s:η h=R i)(y:min e i=A)(t:a8 .i64 A):a1 S r η k (R A) k:=by refine .aR λB d z j=>?_;have b:=j g;have a:=j h;rw[u]at b;rw[s]at a;replace b:=b8 b;replace a:=b8 a;generalize m:d g=w at b;generalize p:d h=x at a;cases b;cases a;have q:(if i<e then i else e)=A:=N;exact⟨.int .i64 A,by simp[ab,o,resolve,invoke,builtin,m,p,Builtin.min_,Builtin.min2,q],.int t,by simp[ab,o,resolve,invoke,builtin,m,p,Builtin.min_,Builtin.min2]⟩
theorem TW{o}{a}(e:c o<=a+3+u)(d:u<=5):lS o a (5-u)=min (a+8) (c o):=by
 rcases dY u 5 with b|b
 .obtain⟨h,bY⟩:∃h,5-u=h+1:=⟨4-u,by omega⟩
  rw[bY];simp[lS];grind
 rw[show 5-u=0 by omega];rfl
def Vh(o)(aj)(A:d6 o=l)(r:aj<=c o)(y:c o<=4000000):Y q 294 [b2 o,R aj] [] (R (eu o aj)) []:=by
 refine Y.I func294 rfl λt=>?_;have x:a' q [(311,ek eL c7 (λi j=>bg (pK i j.toNat)) λi j=>[d6 i=l,3<=j,j<=c i,c i<=4000000])]:=.cons adw .nil;refine b9 x a bF (g.b' (λb=>b<=5/\lS o aj (5-b)=eu o aj) (λb:Nat=>[(0,b2 o),(1,R aj),(5,R (aj+3+b))]) (λ_=>[]) (λb=>5-b) 0 a D a B ⟨by omega,a⟩ ?_);rintro b ⟨u,e⟩;by_cases p:b<5/\aj+3+b<c o
 .obtain⟨h,bY⟩:∃h,5-b=h+1:=⟨4-b,by omega⟩
  have m:aj+(7-h)=aj+3+b:=w;rw[bY]at e;simp[lS,m]at e;rw[bj w]at e;have ak:((aj:Int)+3+b).toNat=aj+3+b:=w;cases s:pK o (aj+3+b)with
  |true=>
   rw[s,bl a]at e;refine a_ x [11,16,22] a QW (g.bS (bZ.zero a ?_));exact bv
  |false=>
   rw[s,bj D]at e;refine a_ x [11,16,-22] a QW (g.b6 (b+1) a ?_ a B ⟨by omega,by grind⟩ w);exact bv
 have ak:eu o aj=min (aj+8) (c o):=by
  rw[<-e];rcases dY b 5 with k|k
  .grind [TW]
  rw[show 5-b=0 by omega];rfl
 have d:a8 .i64 ((min (aj+8) (c o):Nat):Int):=bF;rcases dY b 5 with k|k
 .refine a_ x [11,-16] a ?_ (g.bs a a ?_)
  .simp only[U,a8,bw,dr];omega
  exact Rc
 refine a_ x [-11] a ?_ (g.bs a a ?_)
 .simp only[U,a8,bw,dr];omega
 exact Rc
def adB:bL q 294 (ek eL c7 (λb a=>R (eu b a.toNat)) λb a=>[d6 b=l,0<=a,a<=c b,c b<=4000000]):=.bl λb a h=>by
 obtain⟨e,i,j,g⟩:=h;obtain⟨d,rfl⟩:∃d:Nat,a=d:=⟨a.toNat,by omega⟩
 exact Vh b d e w g
abbrev Hq(a:bA):M:=.fn (.func 293) [] [.Q [.S a]]
theorem Vj(o):Y q 250 [b2 o] [] (ax (Hq o)) []:=by refine Y.I func250 rfl λb=>?_;refine gv [] 5 a B ?_;refine g.freeze 1 0 a a a ?_;exact aR a B (g.aw a)
def Vk{ac:Type}(text)(K:d6 text=l)(J:c text<=4000000){e}{d}{u}(p s r:ac->ar)(t:Nat->ac->Prop)(j:ac)(I:t 0 j)(aM:∀b,p b≠.bk/\s b≠.bk/\r b≠.bk)(i:∀h b,h<c text->t h b->iP (ι:={m:ac // t (eu text h) m}) q 3 [R h,R (eu text h)] [p b,s b,r b,.loop e d u] l (λm=>[p m.1,s m.1,r m.1,.loop e d u])):
  bm (ι:={b:ac // t (c text) b}) q 293 [.n (.R (.aP 3)),ax (.Q [.S text])] [p j,s j,r j,.loop e d u] (λ_=>.T []) (λo=>[p o.1,s o.1,r o.1,.loop e d u]):=by
 refine bm.bN func293 rfl rfl rfl (g.aQ ?_);have y:a' q [(294,ek eL c7 (λx o=>R (eu x o.toNat)) λx o=>[d6 x=l,0<=o,o<=c x,c x<=4000000])]:=.cons adB .nil;refine b9 y a B ?_;show b4 q _ (.loop _) _ _ _;refine b4.loop (br:=ac×Nat) (λk=>k.2<=c text/\t k.2 k.1) (λk=>[(0,.n (.R (.aP 3))),(1,ax (.Q [.S text])),(3,R k.2)]) (λk=>[p k.1,s k.1,r k.1,.loop e d u]) (λk=>c text-k.2) (j,0) ⟨g5 _,I⟩ (eO a D) a ?_;rintro⟨b,h⟩ ⟨F,z⟩;simp only at F z;refine g.aQ ?_;by_cases C:h<c text
 .have A:=rJ text h C;refine a_ y [8] a du (g.yield (i h b C z) a a a a a a λm=>?_);refine a_ y [-16] a D ⟨(m.1,eu text h),⟨A.2.1,m.2⟩,?_,eO a D,a⟩;grind
 have E:h=c text:=w;subst E;refine a_ y [-8] a D (g.fH a a ?_);exact⟨⟨b,z⟩,.inr a,a,qL (aM b).1 (qL (aM b).2.1 (qL (aM b).2.2 a)),[],.T [],[],a,a,a,B⟩
def abV{j:ae}(u:r.op=.binOp op o j (.const (.pointer n)) ty){q}(C:P.underlying o=f (.pointer q)){s}{lt cz}{m i}(F:η j=.n (.R (.aP d)))(y:da d k=f (.K (eD W (.ax lt m i cz))))(z:η (.const (.pointer n))=ax .bp)(D:ij op v=f s):a1 P r η k (ax (.bool s)) k:=by
 refine v8 u C (i:=v) ?_ D;intro b E I A h g;rw[F]at h;rw[z]at g;replace g:=b8 g;cases g;obtain⟨_,L,B,rfl,_⟩:=(h:cB k b E (.aP d));obtain⟨_,⟨i,_,_,_,_,w,_⟩,_⟩:=A.box d _ L (ew y) B;rw[w];have x:(Op.equal o (.pointer (f ⟨i,0,n⟩)) (.pointer n)).run P b.a=.ok v b.a:=FC
 have t:∀e,(Op.equal o (.pointer (f ⟨i,0,n⟩)) (.pointer n)).events P b.a e=e:=λe=>by show(aK (9999+1) o _ _).events P b.a e=e;unfold aK;simp[underlying,C]
 exact⟨_,n,a,a,a,by cases op<;>simp[eqGuard],λe=>by cases op<;>simp[eqGuard],x,t⟩
abbrev pc(a b:Int):y:=.n (.agg [.c (.int .i64 a),.c (.int .i64 b)])
abbrev mM:an:=334
def zm(h i)(d:dH):∃a e g b,d.put h i=.ax a e g b:=by
 cases d with
 |nil=>exact⟨_,_,_,_,rfl⟩
 |ax a e g b=>
  simp only[dH.put];split
  .grind
  split<;>exact⟨_,_,_,_,rfl⟩
def C9:∀(b:m Nat)a,a<0->b[a]?=f a:=λ_ a d=>absurd d w
def s8:∀a,a<1->([0]:m Nat)[a]?=f a:=λa b=>by grind
def yl(b i)(z:a8 .i64 b)(I:a8 .i64 i):∀r:dH,Y q 274 [.n (.R (iE r 0)),pc b i] (hy mM r) (.n (.R (.aP 0))) [.K (eD mM (r.put b i))]
 |.nil=>by refine Y.I func274 rfl λJ=>?_;refine aR a B (g.aL (r1 a underlying270 a a a) a a ?_);refine aR a B (g.c1 4 1 0 0 (lt:=.nil) (cz:=.nil) a a (λt=>absurd a t) (λt=>absurd a t) (λt=>absurd a t) ?_);exact g.aJ [1] a D (C9 _)
 |.ax lt j w cz=>by
  have o:=yl b i z I lt;have p:=yl b i z I cz;obtain⟨O,e,h,C,y⟩:=zm b i lt;obtain⟨aj,d,u,s,F⟩:=zm b i cz;have x:(dH.ax lt j w cz).put b i=if b<j then .ax (lt.put b i) j w cz else if j<b then .ax lt j w (cz.put b i)else .ax lt b i cz:=rfl;rw[x];rw[y]at o⊢;rw[F]at p⊢;have k:a' q [(274,la [.n (.R (iE lt 0)),pc b i] (hy mM lt) (.n (.R (.aP 0))) [.K (eD mM (.ax O e h C))])]:=.cons (mb o) .nil;have m:a' q [(274,la [.n (.R (iE cz 0)),pc b i] (hy mM cz) (.n (.R (.aP 0))) [.K (eD mM (.ax aj d u s))])]:=.cons (mb p) .nil;clear o p x y F;refine Y.I func274 rfl λJ=>?_;refine aR a B (g.aL (abV a underlying270 a a a a) a a ?_);refine aR a B (g.gz 0 0 a a ?_);by_cases E:b<j
  .rw[bl E];cases lt<;>cases cz<;>refine bd k [15] rfl bF ?_
   .exact QH
   .refine g.c1 4 0 3 2 (lt:=.ax O e h C) (cz:=_) a a bn bn (λ_ _=>by decide) ?_;exact uc
   .exact QH
   refine g.c1 4 0 2 3 (lt:=.ax O e h C) (cz:=_) a a bn bn (λ_ _=>by decide) ?_;exact uc
  rw[bj E];by_cases A:j<b
  .rw[bl A];cases lt<;>cases cz<;>refine bd m [-15,33] rfl bF ?_
   .exact R4
   .exact R4
   .exact Qy
   exact Qy
  rw[bj A];cases lt<;>cases cz<;>refine bO [-15,-33] rfl bv ?_
  .refine g.c1 4 0 9 9 (lt:=.nil) (cz:=.nil) a a (λt=>absurd a t) (λt=>absurd a t) (λt=>absurd a t) ?_;exact uc
  .refine g.c1 4 0 9 2 (lt:=.nil) (cz:=_) a a (λt=>absurd a t) bn (λt=>absurd a t) ?_;exact uc
  .refine g.c1 4 0 2 9 (lt:=_) (cz:=.nil) a a bn (λt=>absurd a t) (λ_ t=>absurd a t) ?_;exact uc
  refine g.c1 4 0 2 3 (lt:=_) (cz:=_) a a bn bn (λ_ _=>by decide) ?_;exact uc
end
section
open Go.Proofs Go.Conc Go.Conc.Lib Go.ConcR.Gen
open Go.ConcN (WgLive PayAt Has RW AtR0)
open Go.ConcN.Gen
open Go.ConcR (KK WgAt stA smA rd wr mk Payload DC0)
def aaY:D5=#[{dst:=n,op:=.defer {callee:=.value (.func 190),args:=#[.tmp 0],argTypes:=#[244]},type:=0,pos:= "l12_snap.go:81",after:=#[],guard:=n}]:=bG
def qf(a:X):aG:={baseD 189 with defers:=[dcall 190 #[a]]}
abbrev E4(a b d e g h:X):Array X:=#[a,b,d,e,g,h,I,I,I,I,I,I,I]
def acV(v0 v1 v2 b v4 d)(p):Goes S v (λ_ _=>True) DC0 (λi _=>i=G ((qf v0).ab ⟨E4 v0 v1 v2 b v4 d,[]⟩ [.code (.region 1 vV l)]) [mu]) 8 (born S (rE #[v0,v1,v2,b,v4,d])) p:=by
  have e:True:=B;have g:True->True->True:=λ_ _=>trivial;refine Goes.step a (λw1 h=>?_);rw[Tm];simp[goes_go];refine⟨⟨a,a⟩,?_⟩;clear h;rw[aaY]
  u_c aw g e
  u_reg g e
  u_defer g e
  u_c aB g e
  exact Goes.stop λ_ _=>rfl
def Un(ac):QuitsD S 2 0 (G {(baseD 189).at ⟨ac,[]⟩ []with mode:=.returning} [mu]):=by
  have b:Tryz.f189.results=#[]:=bG;refine QuitsD.ctl (g':=G mu []) a (λd=>?_) ?_
  · simp[G,ap,unwind,doReturn,results,Frame.at,baseD,mu,Tryz.func189,b,seen,GStep.after,goexitEntry]
  refine QuitsD.ctl (g':={G mu []with status:=.finished}) rfl (λd=>?_) ⟨rfl,rfl⟩;simp[G,ap,unwind,mu,goexitEntry,Frame.catches];rfl
section
variable {K:hR}
def aen(E)(h:K.aI=2)(ac)(p)(b:WgLive 244 K.f p/\Has K.af (K.aI*E+1-1) (val E 0) p):
    ∃g,Goes S v (RW 244 K.f K.af (2*j) 0 (K.aI*E+1-1)) DC0 (AtR0 S 244 K.f K.af (2*j) 0 (K.aI*E+1) (val E 0)) g (G ((qf (.pointer (f ⟨K.f,0,n⟩))).ab ⟨ac,[]⟩ [.inRegion mN.toArray []]) [mu]) p:=by
  refine⟨26,?_⟩;have e:(qf (.pointer (f ⟨K.f,0,n⟩))).ab ⟨ac,[]⟩ [.inRegion mN.toArray []]=(baseD 189).at ⟨ac,[dcall 190 #[.pointer (f ⟨K.f,0,n⟩)]]⟩ [.inRegion mN.toArray []]:=rfl;rw[e]
  u_c aB kn_rely b
  u_c stepG_end kn_rely b
  u_in kn_rely b
  rw[stepG_unwind_enter (c:=body_done q2) a wx.f_done bG bG];simp[goes_go];refine⟨by u_nil,?_⟩;have d:=T_ (P:=S) (L:=q2) (bo:=K.f) (M:=K.af) (j:=2*j) (na:=0) (E:=K.aI*E+1) (val:=val E 0) (s:={(baseD 189).at ⟨ac,[]⟩ []with mode:=.returning}) (ai:=[mu]) wx rfl (Un ac) _ b;exact d
def abT{d}(b:Rd bB aa (.S d)):aa=.string ⟨d.toArray⟩:=by
  cases b with
  |S a e=>rw[<-a]
def En{i}(a:Rd bB aa (.bool i)):aa=.bool i:=by cases a;rfl
def sw:ao:=gY n (.store 246 (.tmp 12) (.tmp 11)) 0 #[⟨6,.data⟩,⟨5,.data⟩,⟨5,.chain⟩,⟨0,.phase⟩,⟨1,.phase⟩,⟨2,.phase⟩,⟨3,.phase⟩,⟨4,.phase⟩,⟨5,.phase⟩]
def Td{d}(ak:d<j)(Q:K.aI=2){Z}{C}(O:val d 0=.string ⟨((dh h Z C).getD []).toArray⟩)(aa:val d 1=.bool (dh h Z C).isSome){ac}(E:bx [] b (ac.getD 12 I) (sk h Z C j d K.af 6))(F:bx [] b (ac.getD 11 I) (x4 (dh h Z C))):
    uo S 244 K (2*j) val d (G ((qf (.pointer (f ⟨K.f,0,n⟩))).ab ⟨ac,[]⟩ [.inRegion mN.toArray [7]]) [mu]) b:=by
  have E:=Rd.bd E;have F:ac.getD 11 I=.agg #[val d 0,val d 1]:=by
    obtain⟨z,ag,k⟩:=F
    match z,k with
    |[],k=>exact k.elim
    |[_],k=>exact k.2.elim
    |_::_::_::_,k=>exact k.2.2.elim
    |[ao,aq],k=>
      rw[ag,abT k.1,En k.2.1,O,aa]
  refine⟨a,λw1 aj s m=>?_⟩;obtain⟨g,t,ax⟩:=s;have af:K.aI*d=d*2:=N;have H:∀Y∈[val d 0,val d 1],Y.oneCell'=l:=by
    intro Y P;simp[fh,sE,or_false]at P;rcases P with rfl|rfl
    · rw[O];rfl
    · rw[aa];rfl
  have X:d*2+0+[val d 0,val d 1].length<=g.size:=N;have D:=run_storeCells_at S K.af (d*2) 246 [val d 0,val d 1] 0 g w1 t X H;simp only[kh,fs,gQ,cV]at D;generalize W:(g.toList.take (d*2)++[val d 0,val d 1]++g.toList.drop (d*2+2)).toArray=new at D;have aB:new.size=g.size:=N;have ar:=setRow_heap w1 K.af g new 246 (0,0) t;have au:∀r,(w1.setRow K.af new).cell? ⟨K.af,r,n⟩=new[r]?:=λr=>cell_setRow_same w1 K.af r g new 246 (0,0) t;have av:∀r,w1.cell? ⟨K.af,r,n⟩=g[r]?:=λr=>by simp[aH,t]
  have az:∀e,e<2->new[d*2+e]?=f (val d e):=by
    intro e q;rw[<-W];have L:c (g.toList.take (d*2))=d*2:=N;rw[mq];simp[kf];rw[ht w,L]
    match e,q with
    |0,_=>simp
    |1,_=>simp
  have aw:∀r,(r<d*2∨d*2+2<=r)->new[r]?=g[r]?:=by
    intro r o;rw[<-W];have L:c (g.toList.take (d*2))=d*2:=N;rw[mq];simp only[kf];rcases o with o|o
    · grind
    · rw[ht w,L,ht N]
      simp only[fs,gQ,p6];rw[show d*2+2+(r-d*2-(0+1+1))=r by omega];simp
  have R:(Value.agg #[val d 0,val d 1]).cells=#[val d 0,val d 1]:=rfl;have y:(ab (⟨ac,[]⟩:Act).eval sw).run S w1=.ok .skip (w1.setRow K.af new):=by have M:(⟨ac,[]⟩:Act).eval (.tmp 12)=.pointer (f ⟨K.af,d*2,n⟩):=E;have J:(⟨ac,[]⟩:Act).eval (.tmp 11)=.agg #[val d 0,val d 1]:=F;simp[ab,sw,gY,M,J,Instr.storeAt,Instr.sureAddr,storeVar,(bb 246 rQ a).bc,show rQ.size=2 from a,R,D]
  have u:∀p∈(ab (⟨ac,[]⟩:Act).eval sw).events S w1 #[],∃A,A<2/\p=t_ K.af (d*2+A):=by
    intro U u;have M:(⟨ac,[]⟩:Act).eval (.tmp 12)=.pointer (f ⟨K.af,d*2,n⟩):=E;have J:(⟨ac,[]⟩:Act).eval (.tmp 11)=.agg #[val d 0,val d 1]:=F;have p:ab (⟨ac,[]⟩:Act).eval sw=(do storeVar 246 ⟨K.af,d*2,n⟩ (.agg #[val d 0,val d 1]);pure .skip):=by simp[ab,sw,gY,M,J,Instr.storeAt,Instr.sureAddr]
    rw[p]at u;have ae:U∈(storeCells ⟨K.af,d*2,n⟩ [val d 0,val d 1]).events S w1 #[]:=by simp only[storeVar,aC,(bb 246 rQ a).bc,show rQ.size=2 from a,R,aE,events_sizeOf,ea,dn,cK,c_,Sem.events_pure]at u;simpa[D]using u
    rcases nu [val d 0,val d 1] 0 g w1 #[] t X H U ae with aD|⟨A,_,ah,rfl⟩
    · grind
    grind
  have an:WgLive 244 K.f (w1.setRow K.af new):=by
    obtain⟨B,T,V⟩:=m;refine⟨B,T,?_⟩;show(w1.setRow K.af new).heap[K.f]?=_;rw[setRow_other w1 K.af K.f new ?_]
    · exact V
    · intro p
      have k:w1.heap[K.f]?=f (Go.ConcR.wgBlock 244 B T):=V;rw[p,t]at k;simp[Go.ConcR.wgBlock]at k;exact absurd k.2 b'
  refine⟨_,w1.setRow K.af new,_,MU (i:=qf (.pointer (f ⟨K.f,0,n⟩))) (x:=⟨ac,[]⟩) (h:=[]) (aV:=mN.toArray) (e:=7) (bq:=[]) (r:=sw) a a (by simp[qf,baseD]) y,?_,?_,?_⟩
  · refine⟨rfl,rfl,rfl,by simp,λi aP=>setRow_other w1 K.af i new aP,⟨new,ar,by grind⟩,λr o=>?_,λe q=>?_⟩
    · grind
    · rw[Q]at q
      rw[au,af];grind
  · intro p ai
    obtain⟨A,ah,rfl⟩:=u p (Go.Conc.mem_seen ai);exact⟨d*2+A,a,by omega,by omega⟩
  · exact aen d Q ac _ ⟨an,by show(w1.setRow K.af new).cell? _=_;grind⟩
def aeO(O:bL (af.c' S) 191 (nm h)){k}(C:k<j)(J:K.aI=2){Z}{m}(N:val k 0=.string ⟨((dh h Z m).getD []).toArray⟩)(F:val k 1=.bool (dh h Z m).isSome)(D:bc [] b)(Y:b.t=[]){v1 v2 e v4 g}(u:Rd b.D v1 (.Q [.int .i64 h]))(s:Rd b.D v2 (.Q [.B v 2 (c Z) (a2.fn Z)]))(A:Rd b.D e (.Q [.int .i64 m]))(t:Rd b.D v4 (.Q [.val (.slice (f ⟨K.af,0,n⟩) j j)]))(w:Rd b.D g (.Q [.int .i64 k])):
    dv (af.c' S) eV (uo S 244 K (2*j) val k) (born S (rE #[.pointer (f ⟨K.f,0,n⟩),v1,v2,e,v4,g])) b:=by
  refine dv.goes (q:=af.c' S) (dk:=λ_ _=>True) (y:=DC0) (Stop:=λr _=>r=G ((qf (.pointer (f ⟨K.f,0,n⟩))).ab ⟨E4 (.pointer (f ⟨K.f,0,n⟩)) v1 v2 e v4 g,[]⟩ [.code (.region 1 vV l)]) [mu])
    (λi=>bc [] i/\i.D=b.D) (λi o d x=>⟨d.1.rely x,x.D.trans d.2⟩) (λ_ _ _ _=>trivial) ?_ (λi d=>c0.ew d.1.mem) ?_ 8 _ b ⟨D,rfl⟩ (acV _ _ _ _ _ _ _)
  · rintro i I d U ⟨rfl,rfl⟩
    exact⟨a,.inl (.aR d.1)⟩
  · rintro r i ⟨M,W⟩ rfl
    rw[aaZ];refine cg.toW (λ_ _ _ d=>d) ?_;refine(aeD O Z m j k K.af C (.pointer (f ⟨K.f,0,n⟩))).region bG (by simp[qf,baseD]) ⟨by simp[E4],⟨[],B⟩,λz=>?_⟩ a M λo E X p T Q R=>.stop ?_
    · rw[<-W]at u s A t w
      match z with
      |0=>exact Rd.val rfl
      |1=>exact u
      |2=>exact s
      |3=>exact A
      |4=>exact t
      |5=>exact w
      |z+6=>trivial
    · obtain⟨aa,V⟩:=E
      obtain rfl:V=[]:=T;exact Td C J N F (p 12) (p 11)
end
end
section
open Go.Proofs Go.Conc Go.Conc.Lib
open Go.ConcN (WgLive PayAt Has RW AtR0)
open Go.ConcR (KK WgAt stA smA rd wr mk Payload DC0)
def nw:Code->Code|.seq a _=>a|b=>b
def g':Code->Code|.seq _ a=>a|b=>b
def Hb:Code->Code|.block _ a=>a|b=>b
def aan:Code->Code|.loop a=>a|b=>b
def D4:Code->Array ao|.region _ a _=>a|_=>#[]
noncomputable def rC:Code:=(Tryz.f151.body).getD .skip
noncomputable def hJ:Code:=aan (Hb (g' (nw (g' (g' (g' rC))))))
noncomputable def HW:Code:=nw hJ
noncomputable def BP:Code:=Hb (nw (g' (g' hJ)))
noncomputable def HX:Code:=nw BP
noncomputable def pw:Array ao:=D4 (nw (g' BP))
noncomputable def oG:Array ao:=D4 (g' (g' BP))
noncomputable def oe:Code:=g' (g' (g' hJ))
noncomputable def lP:Code:=g' (g' (g' (g' rC)))
noncomputable def oH:Array ao:=D4 (nw lP)
noncomputable def og:Code:=g' lP
def HH:hJ=.seq HW (.seq (.cond (.tmp 21) .skip (.exit 0)) (.seq (.block 1 (.seq HX (.seq (.region 6 pw v) (.region 7 oG v)))) oe)):=bG
def TD:lP=.seq (.region 9 oH v) og:=bG
def ut(g:bM)(a:m ar):fF:=λe b d=>e=.normal/\iM b g/\d=a
structure dW(dM:m ar)(cH:a6)(J:bM)(k:m ar)(x:Act)(b:a6):Prop where
 bT:b1 45 k b J x
 a7:bc k b
 a_:dg dM cH k b
section
variable {dM:m ar}{cH:a6}{J u:bM}{k aX:m ar}{x:Act}{b:a6}
def dW.rely(a:dW dM cH J k x b){e}(d:c0 b e):dW dM cH J k x e:=⟨a.bT.rely d a.a7,a.a7.rely d,a.a_.trans d.aT⟩
structure nZ(i:Nat)(b:a6):Prop where
 own:¬b.own i
 t:∀L∈b.t,i∉L.al
 D:∀r,b.D i r=n
 lt:i<b.a.heap.size
def nZ.step{i}(d:nZ i cH)(a:dg dM cH k b):nZ i b:=
 ⟨by rw[a.own];exact d.own,λL h g=>by
  rcases a.bR L h i g with e|⟨m,j,e⟩
  .have:=d.lt;omega
  .exact d.t m j e,λo=>by rw[a.bz i d.lt d.t];exact d.D o,eK d.lt a.size⟩
def dW.eE{bo}(d:nZ bo cH):k4 bo (dW dM cH J k x):=
 ⟨λ_ _ a e=>a.rely e,λ_ a=>⟨k,a.a7⟩,λ_ a=>let b:=d.step a.a_;⟨b.own,b.t,b.D⟩⟩
variable {q:af S}{br:ag->a6->Prop}{i:aG}{h:m Item}{ai:m aG}
def dW.ctl(h:dW dM cH J k x b){C a}(m:C.status=.running)(j:∀i,ap S q.b5 C i=.go a i #[])(g:∀d,dW dM cH J k x d->cg q br a d):cg q br C b:=
 .ctl h.a7 m j λd e=>g d (h.rely e)
def dW.code(g:dW dM cH J k x b)(j:i.kind≠.early){s}(z:b4 q 45 s (ut u aX) J k)(o:∀a d,dW dM cH u aX a d->cg q br (G (i.ab a h) ai) d):cg q br (G (i.ab x (.code s::h)) ai) b:=by refine z b x g.bT g.a7 i h ai br j ?_;rintro B r t p e ⟨rfl,m,rfl⟩ y A w;exact o e p ⟨y.le m,A,g.a_.trans w⟩
end
def cg.cZ{bo}{W:a6->a6->Array aN->Prop}{A:ag->a6->Prop}{C}{b}(q:cg (af.aE S 244 bo) A C b)(m:g2 (λe=>e=bo) b)(i:WgLive 244 bo b.a):
  dv (af.aE S 244 bo) W (λC b=>A C b/\WgLive 244 bo b.a) C b:=by
 induction q with
 |stop q=>exact⟨.leaf,q,i⟩
 |@step C b O z I w r s _ y=>
  refine .step w λk g=>?_;have D:=g.2 i;have p:g2 (λe=>e=bo) k:=⟨λe d=>by rw[g.1.own];exact m.own e d,λe d=>by rw[g.1.t];exact m.t e d,λe d J=>by rw[g.1.D];exact m.D e d J,λe d=>eK (m.lt e d) g.1.size⟩
  obtain⟨⟨B,o,t,E,j⟩,F⟩:=s k g;refine⟨_,_,_,r k g,.inl ⟨⟨B,o,t,E,j⟩,F⟩,y k g (p.step j) ?_⟩;obtain⟨M,N,K⟩:=D;exact⟨M,N,by show(z k).a.heap[bo]?=_;rw[j.a4 bo (p.lt bo a) (p.t bo a)];exact K⟩
 |aO h _ y=>exact .aO h (y (m.aO h) (by rw[h.a];exact i))
 |b2 x _ _ _=>exact x.elim
 |dk u _ _=>exact u.elim
def nZ.clear{bo}{b}(e:nZ bo b):g2 (λd=>d=bo) b:=⟨λd a=>a▸e.own,λd a=>a▸e.t,λd a=>a▸e.D,λd a=>a▸e.lt⟩
section
variable (h:Int)(Z:m cb)(bt:m Int)(M bo:Nat)
def im(a:Nat):bM:=[(3,ax (.Q [.int .i64 h])),(4,ax (.Q [.B v 2 (c Z) (a2.fn Z)])),(8,ax (.Q [.val (.slice (f ⟨M,0,n⟩) (c bt) (c bt))])),(9,cM (.pointer (f ⟨bo,0,n⟩))),
 (18,az.B bt),(19,R (c bt)),(20,R a)]
variable {h Z bt M bo}{q:af S}{k:m ar}
def LG{e}(b:e<=c bt):b4 q 45 HW (ut ((21,bg (decide (e<c bt)))::im h Z bt M bo e) k) (im h Z bt M bo e) k:=by
 refine g.aQ ?_;by_cases d:e<c bt
 .refine a4 [21] a bK ⟨a,eO a ?_,a⟩;exact bv
 refine a4 [-21] a bK ⟨a,eO a ?_,a⟩;exact bv
abbrev eZ:m ar:=[.N,.N,.N,.N,.N]
def aa6{e}(b:e<c bt):b4 q 45 HX (ut ((10,aI 5 0)::(11,aI 6 0)::im h Z bt M bo e) [.N,.N,.N,.N,.N,.cells 3 [.c (.int .i64 e)],.cells 3 [.c (.int .i64 (bt.getD e 0))]]) (im h Z bt M bo e) eZ:=by refine g.aQ ?_;refine aR a bK ⟨a,eO a D,?_⟩;grind
def aa7{e}(b:e<c bt)(d:c bt<=4000000):b4 q 45 oe (ut (im h Z bt M bo (e+1)) eZ) (im h Z bt M bo e) eZ:=by refine g.aQ ?_;refine aR a bF ⟨a,eO a ?_,a⟩;simp
variable {dM:m ar}{cH:a6}{br:ag->a6->Prop}{i:aG}{e0:m Item}{ai:m aG}
abbrev kn:m ar:=[.N,.N,.N,.N,.N,.N,.N]
variable (h Z bt M bo)in
abbrev kY(a:Nat):bM:=(11,ax (.Q [.int .i64 (bt.getD a 0)]))::(10,ax (.Q [.int .i64 a]))::im h Z bt M bo a
noncomputable abbrev th(a:m Item):m Item:=.code (.region 7 oG v)::.inBlock 1::.code oe::.inLoop hJ::.inBlock 0::a
def zA{P}{e1}{a:aG}{x}{h}{ai}{p}{s b d}(e:s=.seq b d):ap P e1 (G (a.ab x (.code s::h)) ai) p=.go (G (a.ab x (.code b::.code d::h)) ai) p:=by grind[pE]
def toAdd{e}(j:e<c bt)(y:i.kind≠.early){x}{d:a6}(b:dW dM cH (im h Z bt M bo e) eZ x d)(z:∀w p,dW dM cH (kY h Z bt M bo e) kn w p->cg q br (G (i.ab w (.inRegion pw [0]::th e0)) ai) p):
  cg q br (G (i.ab x (.code hJ::.inLoop hJ::.inBlock 0::e0)) ai) d:=by
 refine b.ctl a (λg=>zA HH) λd b=>?_;refine b.code y (LG (Nat.le_of_lt j)) λx d b=>?_;refine b.ctl a (λg=>pE) λd b=>?_;have A:x.eval (.tmp 21)=.bool l:=by have:=b.bT.aK 21;simp only[j,lJ]at this;exact En (b8 this)
 refine b.ctl a (λg=>zx A) λd b=>?_;refine b.ctl a (λg=>MV) λd b=>?_;refine b.ctl a (λg=>pE) λd b=>?_;refine b.ctl a (λg=>zw) λd b=>?_;refine b.ctl a (λg=>pE) λd b=>?_;have b:dW dM cH (im h Z bt M bo e) eZ x d:=⟨b.bT.le (eO a D),b.a7,b.a_⟩
 refine b.code y (aa6 j) λx d b=>?_;obtain⟨p,w1,m,k,s⟩:=b1.freeze 10 5 (W:=3) (ai:=[.c (.int .i64 e)]) (gU:=[.int .i64 e]) rfl rfl rfl b.bT b.a7;refine .aO (.of b.a7 k w1 (s.too4 b.a7)) ?_;obtain⟨r,w2,o,t,u⟩:=b1.freeze 11 6 (W:=3) (ai:=[.c (.int .i64 (bt.getD e 0))]) (gU:=[.int .i64 (bt.getD e 0)]) rfl rfl rfl m k;refine .aO (.of k t w2 (u.too4 k)) ?_;have b:dW dM cH (kY h Z bt M bo e) kn x r:=⟨o.le (eO a D),t,b.a_.trans ((s.too4 b.a7).trans (u.too4 k))⟩
 refine b.ctl a (λg=>pE) λd b=>?_;refine b.ctl a (λg=>zz) λd b=>?_;exact z x d b
def r2:ao:={dst:=f 25,op:=.call {callee:=.value (.func 188),args:=#[.tmp 9,.const (.int .i64 1)],argTypes:=#[244,3]},type:=0,pos:= "l12_snap.go:79",after:=#[],guard:=n}
theorem LB:pw=#[r2]:=bG
def Uo{e}(t:i.kind≠.early){x}{b}(o:dW dM cH (kY h Z bt M bo e) kn x b)(j:∀d,dW dM cH (kY h Z bt M bo e) kn x d->cg q br (G (Frame.enter S 188 #[.pointer (f ⟨bo,0,n⟩),.int .i64 1] .normal) (i.ab x (.inRegion pw [0]::th e0)::ai)) d):
  cg q br (G (i.ab x (.inRegion pw [0]::th e0)) ai) b:=by
 refine .next a λd k=>?_;have g:=o.rely (q.bO k);have m:=Rd.bd (g.bT.aK 9);have s:(ab x.eval r2).run S d.a=.ok (.enter 188 #[.pointer (f ⟨bo,0,n⟩),.int .i64 1]) d.a:=by have:=run_call_body (P:=S) (a:=x) (w:=d.a) (o:=r2) (f:=188) (fn:=Tryz.f188) a Tryz.func188 bG bG;rw[this,<-m];simp only[List.map_toArray,mm,List.map_nil];rfl
 have u:(ab x.eval r2).events S d.a #[]=#[]:=events_call_body (P:=S) (a:=x) (w:=d.a) (o:=r2) (f:=188) (fn:=Tryz.f188) a Tryz.func188 bG bG #[];have w:listed S i.fn x r2 d.a=#[]:=by unfold listed;grind[seen_none]
 refine⟨_,d,#[],?_,.aR g.a7,j d g⟩;have:=tN (P:=S) (e1:=q.b5) (i:=i) (x:=x) (h:=th e0) (ai:=ai) (p:=d.a) (aV:=pw) (e:=0) (bq:=[]) (r:=r2) (by grind[LB]) a t s;grind
def vP:ao:={dst:=f 26,op:=.makeFunc (.func 189) #[] #[.tmp 9,.tmp 3,.tmp 4,.tmp 11,.tmp 8,.tmp 10],type:=1,pos:= "l12_snap.go:80",after:=#[],guard:=n}
def pu:ao:={dst:=n,op:=.go {callee:=.value (.tmp 26),args:=#[],argTypes:=#[]},type:=0,pos:= "l12_snap.go:80",after:=#[⟨0,.data⟩],guard:=n}
theorem LC:oG=[vP,pu].toArray:=bG
variable (h Z bt M bo)in
abbrev sT(a:Nat):AM.M:=.fn (.func 189) [] [.val (.pointer (f ⟨bo,0,n⟩)),.Q [.int .i64 h],.Q [.B v 2 (c Z) (a2.fn Z)],.Q [.int .i64 (bt.getD a 0)],.Q [.val (.slice (f ⟨M,0,n⟩) (c bt) (c bt))],.Q [.int .i64 a]]
def aaO{e}:aT q 45 [vP,pu] vP ((25,.any)::kY h Z bt M bo e) kn (ax (sT h Z bt M bo e)) kn:=by have a:iI eU [] [] [vP,pu] ((25,.any)::kY h Z bt M bo e) kn vP=f (ax (sT h Z bt M bo e),n,[]):=rfl;exact dT bb a'.nil a B
def toGo{e}(u:i.kind≠.early){x}{b}(d:dW dM cH (kY h Z bt M bo e) kn x b)(p:∀aa m g,dW dM cH (kY h Z bt M bo e) kn m g->Rd g.D aa (sT h Z bt M bo e)->m.tmps.getD 26 I=aa->cg q br (G (i.ab m (.inRegion oG [1]::.inBlock 1::.code oe::.inLoop hJ::.inBlock 0::e0)) ai) g):
  cg q br (G (i.ab (x.put (f 25) (.tuple #[])) (.inRegion pw []::th e0)) ai) b:=by
 have t:dW dM cH ((25,.any)::kY h Z bt M bo e) kn (x.put (f 25) (.tuple #[])) b:=⟨d.bT.put b' B,d.a7,d.a_⟩
 refine t.ctl a (λw=>wd) λb d=>?_;refine d.ctl a (λw=>zz) λb d=>?_;rw[LC];refine aaO b _ d.bT d.a7 i _ ai br 0 [1] u a λaa g j r o=>?_;have j:=b8 j;have k:=((d.bT.mono o d.a7.len).put (O:=26) (aa:=aa) (E:=.any) b' B)
 have s:26<(x.put (f 25) (.tuple #[])).tmps.size:=by rw[d.bT.size];decide
 refine p aa _ g ⟨k.le (eO a ?_),r,d.a_.trans o⟩ j (abF s);simp
def aes{e}(k:e<c bt)(A:c bt<=4000000)(j:i.kind≠.early)(t:dM.length<=5){x}{b}(d:dW dM cH (kY h Z bt M bo e) kn x b)(s:∀o p,dW dM cH (im h Z bt M bo (e+1)) eZ o p->cg q br (G (i.ab o (.code hJ::.inLoop hJ::.inBlock 0::e0)) ai) p):
  cg q br (G (i.ab x (.inRegion oG []::.inBlock 1::.code oe::.inLoop hJ::.inBlock 0::e0)) ai) b:=by
 have g:b1 45 (eZ++[.N,.N]) b (im h Z bt M bo e) x:=d.bT.le (eO a D);have m:=d.a7;have u:dg dM cH (eZ++[.N,.N]) b:=d.a_;have z:e_ b (b.cut (c eZ)):=⟨rfl,λ_ _ _ d=>d,λ_ _ _=>rfl,m.mem,λi j=>j.imp id λ⟨L,y,j⟩=>⟨L,g4 y,j⟩⟩
 refine .aO z ?_;have d:dW dM cH (im h Z bt M bo e) eZ x (b.cut (c eZ)):=⟨⟨g.size,g.defers.imp λ_ w=>w.drop a,λB=>(g.aK B).drop (vz a)⟩,m.drop a,u.drop t⟩
 refine d.ctl a (λr=>wd) λb d=>?_;refine d.ctl a (λr=>MR) λb d=>?_;refine d.code j (aa7 k A) λx b d=>?_;exact d.ctl a (λr=>MS) λb d=>s x b d
end
theorem rx{a:aG}(d:a.roundOf=n)(b)(o):a.ab b o=a.at ⟨b.tmps,b.defers++a.defers⟩ o:=by cases a;simp only at d;subst d;rfl
section
variable {h:Int}{Z:m cb}{bt:m Int}{K:hR}{val:Nat->Nat->X}{dM:m ar}{cH:a6}{i:aG}{e0:m Item}{ai:m aG}
def Km{x:Act}{p}{s hf iU jR u3 a}(d:x.tmps.getD 26 I=.func (.func 189) #[] #[s,hf,iU,jR,u3,a]):(ab x.eval pu).run S p=.ok (.spawn (rE #[s,hf,iU,jR,u3,a])) p/\(ab x.eval pu).events S p #[]=#[]:=by
 have b:x.eval (.tmp 26)=.func (.func 189) #[] #[s,hf,iU,jR,u3,a]:=d;constructor
 .simp[ab,pu,resolve,Deferred.ofValue,b,rE]
 simp[ab,pu,resolve,Deferred.ofValue,b]
def Tc(ab:bL (af.c' S) 191 (nm h))(R:K.aI=2)(t:i.roundOf=n)(ah:i.kind≠.early){e}(s:e<c bt)(U:val e 0=.string ⟨((dh h Z (bt.getD e 0)).getD []).toArray⟩)(F:val e 1=.bool (dh h Z (bt.getD e 0)).isSome){aa}{x}{b}(N:dW dM cH (kY h Z bt K.af K.f e) kn x b)(A:WgLive 244 K.f b.a)(y:Rd b.D aa (sT h Z bt K.af K.f e))(z:x.tmps.getD 26 I=aa){Next:ag->a6->Prop}(B:∀j,dW dM cH (kY h Z bt K.af K.f e) kn x j->WgLive 244 K.f j.a->Next (G (i.ab x (.inRegion oG []::.inBlock 1::.code oe::.inLoop hJ::.inBlock 0::e0)) ai) j):
  wV S 244 K (2*c bt) val e Next (G (i.ab x (.inRegion oG [1]::.inBlock 1::.code oe::.inLoop hJ::.inBlock 0::e0)) ai) b:=by
 refine⟨a,λj o=>?_⟩;have w:=N.rely o.1;have V:Rd j.D aa (sT h Z bt K.af K.f e):=by rw[o.1.D];exact y
 cases V with
 |fn E q m k D d J M Y g=>
 have T:=jK m;subst T;have O:q=[d 0,d 1,d 2,d 3,d 4,d 5]:=by
  apply qa;intro u;have k:=k
  match u with
  |0=>grind
  |1=>grind
  |2=>grind
  |3=>grind
  |4=>grind
  |5=>grind
  |u+6=>grind
 subst O;have ae:=Rd.bd (g 0 _ a);obtain⟨Q,W⟩:=Km (x:=x) (p:=j.a) z;have C:Go.Conc.listed S i.fn ⟨x.tmps,x.defers++i.defers⟩ pu j.a=#[]:=by unfold Go.Conc.listed;have:=(Km (x:=⟨x.tmps,x.defers++i.defers⟩) (p:=j.a) z).2;grind[seen_none]
 have X:=stepG_spawn (P:=S) (main:=l) (b:=i) (a:=⟨x.tmps,x.defers++i.defers⟩) (k:=.inBlock 1::.code oe::.inLoop hJ::.inBlock 0::e0) (cs:=ai) (w:=j.a) (ops:=oG) (i:=1) (rest:=[]) (o:=pu) (by grind[LC]) a ah Q a;refine⟨G (i.ab x (.inRegion oG []::.inBlock 1::.code oe::.inLoop hJ::.inBlock 0::e0)) ai,born S (rE #[d 0,d 1,d 2,d 3,d 4,d 5]),?_,a,?_,B j w (o.2 A)⟩
 .rw[rx t,rx t,X,C];rfl
 rw[ae];exact aeO ab s R U F (b:=j.dy) ⟨w.a7.mem,a,by simp,by simp[a6.dy],by simp[a6.dy],by simp[a6.dy]⟩ a (g 1 _ a) (g 2 _ a) (g 3 _ a) (g 4 _ a) (g 5 _ a)
def r3:ao:={dst:=f 28,op:=.call {callee:=.value (.func 192),args:=#[.tmp 9],argTypes:=#[244]},type:=0,pos:= "l12_snap.go:85",after:=#[],guard:=n}
theorem LD:oH=#[r3]:=bG
variable {q:af S}{br:ag->a6->Prop}
def aet(m:i.kind≠.early){M bo}{x}{b}(d:dW dM cH (im h Z bt M bo (c bt)) eZ x b)(o:∀k g,dW dM cH (im h Z bt M bo (c bt)) eZ k g->cg q br (G (Frame.enter S 192 #[.pointer (f ⟨bo,0,n⟩)] .normal) (i.ab k (.inRegion oH [0]::.code og::e0)::ai)) g):
  cg q br (G (i.ab x (.code hJ::.inLoop hJ::.inBlock 0::.code lP::e0)) ai) b:=by
 refine d.ctl a (λp=>zA HH) λb d=>?_;refine d.code m (LG (bC _)) λx b d=>?_;refine d.ctl a (λp=>pE) λb d=>?_;have w:x.eval (.tmp 21)=.bool v:=by have:=d.bT.aK 21;simp only[xg,n8]at this;exact En (b8 this)
 refine d.ctl a (λp=>zx w) λb d=>?_;refine d.ctl a (λp=>MQ (gp:=.code lP::e0) a) λb d=>?_;refine d.ctl a (λp=>zA TD) λb d=>?_;refine d.ctl a (λp=>zz) λb d=>?_;have d:dW dM cH (im h Z bt M bo (c bt)) eZ x b:=⟨d.bT.le (eO a D),d.a7,d.a_⟩
 refine .next a λg s=>?_;have j:=d.rely (q.bO s);have y:x.eval (.tmp 9)=.pointer (f ⟨bo,0,n⟩):=Rd.bd (j.bT.aK 9);have u:(ab x.eval r3).run S g.a=.ok (.enter 192 #[.pointer (f ⟨bo,0,n⟩)]) g.a:=by have:=run_call_body (P:=S) (a:=x) (w:=g.a) (o:=r3) (f:=192) (fn:=Tryz.f192) a Tryz.func192 bG bG;grind
 have z:(ab x.eval r3).events S g.a #[]=#[]:=events_call_body (P:=S) (a:=x) (w:=g.a) (o:=r3) (f:=192) (fn:=Tryz.f192) a Tryz.func192 bG bG #[];have t:Go.Conc.listed S i.fn x r3 g.a=#[]:=by unfold Go.Conc.listed;grind[seen_none]
 refine⟨_,g,#[],?_,.aR j.a7,o x g j⟩;have:=tN (P:=S) (e1:=q.b5) (i:=i) (x:=x) (h:=.code og::e0) (ai:=ai) (p:=g.a) (aV:=oH) (e:=0) (bq:=[]) (r:=r3) (by grind[LD]) a m u;rw[t]at this;exact this
section
variable (h Z bt K dM cH i e0 ai)
def wT(b:ag)(d:a6):Prop:=∃a,wU S q2 K (dW dM cH (im h Z bt K.af K.f (c bt)) eZ a) (i.ab a (.inRegion oH [0]::.code og::e0)) ai b d
def Gv(b:ag)(d:a6):Prop:=∃a,fQ S q2 K (dW dM cH (im h Z bt K.af K.f (c bt)) eZ a) (G (i.ab (a.put (f 28) (.tuple #[])) (.inRegion oH []::.code og::e0)) ai) b d
end
def S1(j:nZ K.f cH)(e:i.roundOf=n){C}{b}(d:wT h Z bt K dM cH i e0 ai C b):
  dv (af.aE S 244 K.f) (dR K.f) (re S 244 K (Gv h Z bt K dM cH i e0 ai) (wT h Z bt K dM cH i e0 ai)) C b:=by
 obtain⟨a,d⟩:=d;have k:(oH[0]?).bind (·.dst)=f 28:=by rw[LD];rfl
 rw[rx e]at d;refine S4 (P:=S) (L:=q2) (hX:=i) (hV:=⟨a.tmps,a.defers++i.defers⟩) (gq:=oH) (h1:=0) (h5:=[]) (h3:=.code og::e0) (ai:=ai) wx (dW.eE j) (λC b g=>⟨a,?_⟩) (λC b m=>⟨a,?_⟩) d
 .rw[rx e];rw[k]at g;exact g
 grind[rx]
def acO{P}{ty}{F j}{g:ag->a6->Prop}:∀h{a:ag}{b:a6},dv (af.aE P ty K.f) (dR K.f) (λa b=>o2 P ty K F val j g h a b) a b->o2 P ty K F val j g h a b
 |0,_,_,d=>dv.bind d λ_ _ e=>e
 |_+1,_,_,d=>dv.bind d λ_ _ e=>e
def acN(R:bL (af.c' S) 191 (nm h))(M:K.aI=2)(s:nZ K.f cH)(x:i.roundOf=n)(r:i.kind≠.early)(F:dM.length<=5)(H:c bt<=4000000)(O:∀d,d<c bt->val d 0=.string ⟨((dh h Z (bt.getD d 0)).getD []).toArray⟩)(J:∀d,d<c bt->val d 1=.bool (dh h Z (bt.getD d 0)).isSome):
  ∀o,o<=c bt->∀a b,dW dM cH (im h Z bt K.af K.f (c bt-o)) eZ a b->WgLive 244 K.f b.a ->
   o2 S 244 K (2*c bt) val (c bt) (wT h Z bt K dM cH i e0 ai) o (G (i.ab a (.code hJ::.inLoop hJ::.inBlock 0::.code lP::e0)) ai) b:=by
 intro o;induction o with
 |zero=>
  intro _ a b e k;rw[sD]at e;have:=cg.cZ (W:=dR K.f) (aet (q:=af.aE S 244 K.f) (e0:=e0) (ai:=ai) (br:=λj b=>∃a,j=G (Frame.enter S 192 #[.pointer (f ⟨K.f,0,n⟩)] .normal) (i.ab a (.inRegion oH [0]::.code og::e0)::ai)/\dW dM cH (im h Z bt K.af K.f (c bt)) eZ a b) r e λp u m=>.stop ⟨p,rfl,m⟩) (s.step e.a_).clear k;refine dv.bind this ?_;rintro j b ⟨⟨a,rfl,e⟩,k⟩;exact aeH (P:=S) (L:=q2) (K:=K) wx (dW.eE s) (λj b y=>⟨a,y⟩) ⟨e,k⟩
 |succ o E=>
  intro U a b e k;have g:c bt-(o+1)<c bt:=w;generalize T:c bt-(o+1)=d at e g;have:=cg.cZ (W:=dR K.f) (toAdd (q:=af.aE S 244 K.f) (e0:=.code lP::e0) (ai:=ai) (br:=λj b=>∃a,j=G (Frame.enter S 188 #[.pointer (f ⟨K.f,0,n⟩),.int .i64 1] .normal) (i.ab a (.inRegion pw [0]::th (.code lP::e0))::ai)/\dW dM cH (kY h Z bt K.af K.f d) kn a b) g r e λp u m=>Uo r m λN A=>.stop ⟨p,rfl,A⟩) (s.step e.a_).clear k;refine dv.bind this ?_;rintro j b ⟨⟨a,rfl,e⟩,k⟩;have D:(pw[0]?).bind (·.dst)=f 25:=by rw[LB];rfl
  rw[rx x];refine ST (P:=S) (L:=q2) (K:=K) (dN:=dW dM cH (kY h Z bt K.af K.f d) kn a) wx (dW.eE s) (λb B=>?_) ⟨e,k⟩;rw[D];have:=cg.cZ (W:=dR K.f) (toGo (q:=af.aE S 244 K.f) (e0:=.code lP::e0) (ai:=ai) (br:=λj b=>∃t a,j=G (i.ab a (.inRegion oG [1]::.inBlock 1::.code oe::.inLoop hJ::.inBlock 0::.code lP::e0)) ai/\dW dM cH (kY h Z bt K.af K.f d) kn a b/\Rd b.D t (sT h Z bt K.af K.f d)/\a.tmps.getD 26 I=t) r B.1 λt p u m C z=>.stop ⟨t,p,rfl,m,C,z⟩) (s.step B.1.a_).clear B.2;rw[rx x]at this;refine dv.bind this ?_;rintro j b ⟨⟨t,a,rfl,e,C,z⟩,k⟩;rw[T];refine⟨.leaf,Tc R M x r g (O d g) (J d g) e k C z λu m Q=>?_⟩;refine acO o ?_;have:=cg.cZ (W:=dR K.f) (aes (q:=af.aE S 244 K.f) (e0:=.code lP::e0) (ai:=ai) (br:=λj b=>∃a,j=G (i.ab a (.code hJ::.inLoop hJ::.inBlock 0::.code lP::e0)) ai/\dW dM cH (im h Z bt K.af K.f (d+1)) eZ a b) g H r F m λp u m=>.stop ⟨p,rfl,m⟩) (s.step m.a_).clear Q;refine dv.bind this ?_;rintro j b ⟨⟨a,rfl,e⟩,k⟩;refine⟨.leaf,E w a b ?_ k⟩;grind
end
end
section
variable {q:af S}[q.bZ]
def Tu(o):∀b,b<c o->c (bu.fn o b)=2/\∀e∈bu.fn o b,ny e=l:=by intro b _;refine⟨a,λe d=>?_⟩;simp only[c6.fn,gK,bu,fh,sE,or_false]at d;rcases d with rfl|rfl<;>rfl
abbrev m9(b:m cN)(a:m X):Prop:=et 2 (c b) (bu.fn b) a
abbrev Bl(a:fy)(d:Nat)(b:m X):ar:=.K (ct 51 2 a d b)
abbrev adQ(a:fy)(d:Nat)(b:Bool):y:=.T [.R (.v (c5 a d)),.R (.c (.bool b))]
def YQ(o)(a d):bm (ι:={b:fy×m X // m9 (jE o a d).1 b.2}) q 73 [bu.B o,b2 a,b2 d] [] (λb=>adQ b.1.1 (jE o a d).1.length (jE o a d).2) (λb=>[Bl b.1.1 (jE o a d).1.length b.1.2]):=
 (JT o a d).thaw func73 rfl (by simp[DY,vT,vS,r4,nx,ny]) (Tu _)
def et.nil{h}:et h 0 V []:=⟨by simp,λb a=>by omega,λb a=>by omega⟩
def aby{o}{d e}(a:(jE o d e).2=l):(jE o d e).1.length<=6:=by
 unfold jE at a⊢;split at a
 .rename_i i;rw[bl i];split at a
  .rename_i b;rw[bl b];exact NP b
  grind
 grind
def S8{b d:ae}(e:r.op=.call {callee:=.builtin .append,args:=#[b,d],argTypes:=#[43,43]}):j9 S r b d 51 rR:=
 ⟨⟨43,43,Dp,Dp,e,(bb _ _ a),rfl,(bb _ _ a),rfl⟩,(bb _ _ a),by decide,by decide⟩
def Ms{b}(d:c b<=9223372036854775807):Rd bB (jr b) (.S b):=Rd.S a d
def m9.gE{o}{ah}(p:m9 o ah)(b d)(j:c b<=9223372036854775807)(k:c d<=9223372036854775807):m9 (o++[(b,d)]) (ah++[jr b,jr d]):=by
 unfold m9;rw[dm];refine et.gE p (λr g=>?_) a a λh q e=>?_
 .simp[c6.fn,gK,al,kb g]
 have m:bu.fn (o++[(b,d)]) (c o)=[.S b,.S d]:=by simp[c6.fn,gK,bu]
 rw[m]at e;rcases h with _|_|h
 .simp at e;subst e;exact⟨jr b,a,λi=>Ms j⟩
 .simp at e;subst e;exact⟨jr d,a,λi=>Ms k⟩
 grind
def m9.jQ{o}{ah}(m:m9 o ah)(e)(b:e<c o)(d)(j:nd z [.c (.S d)]):m9 (o.set e ((o.getD e bu.E).1,d)) (ah.take (e*2+1)++z++ah.drop (e*2+1+c z)):=by
 unfold m9;rw[xc];refine et.fi m e 1 b j (bC _) (λr q h=>?_) a λg p i=>?_
 .simp[c6.fn,gK,al,o8 h]
 have k:bu.fn (o.set e ((o.getD e bu.E).1,d)) e=[.S (o.getD e bu.E).1,.S d]:=by simp[c6.fn,gK,bu,al,b]
 rw[k]at i;rcases g with _|_|g
 .right;exact bF
 .grind
 grind
structure uA(h s:Nat) where
 d':m cN
 gK:fy
 h1:m X
 k1:Nat
 iS:m9 d' h1
 kj:c d'<=7
 iZ:h<=k1
 j_:k1<=h+s
set_option maxRecDepth 20000 in
def YM(A)(i:Nat->Int)(t:Bytes i)(h)(ag:h<=50000)(x:A<=1048576):
  bm (ι:=uA h 400) q 45 [aI 0 0] [e7 A i h] (λo=>cM (c5 o.gK (c o.d'))) (λo=>[e7 A i o.k1,Bl o.gK (c o.d') o.h1]):=by
 refine bm.cf func45 rfl rfl rfl λH=>?_;refine gv [] 9 a B (g.jy 3 51 2 a λW=>?_);refine aR a B (g.a2 (gF A i t h 6 w x w) [0] a bn ?_);rintro⟨E,ak,an⟩;refine aR a B (g.aH 2 (λb:Nat×m cN×fy×m X×Nat=>b.1<=5/\m9 b.2.1 b.2.2.2.1/\c b.2.1<=6/\h<=b.2.2.2.2/\b.2.2.2.2+70*b.1<=h+351) (λb=>[(0,aI 0 0),(4,R b.1),(3,cM (c5 b.2.2.1 (c b.2.1)))]) (λb=>[e7 A i b.2.2.2.2,Bl b.2.2.1 (c b.2.1) b.2.2.2.1]) (λb=>b.1) (E.toNat,[],W,[],h+1) a bK a D a ⟨by omega,et.nil,by simp,by simp,by grind⟩ ?_);rintro⟨j,e,bQ,ah,k1⟩ ⟨Z,p,ae,G,aa⟩;simp only at Z p ae G aa;by_cases P:0<j
 .refine a4 [11] a (by simp[P]) (g.a2 (JA A i t k1 w x) [0] a bn ?_);rintro⟨k,ab⟩;refine aR a B (g.a2 (YK A i t (k1+1+1) w x) [0] a bn ?_);rintro⟨⟨O,S⟩,af,aq,ai⟩;simp only at af aq ai;refine aR a B (g.iB (YQ e k O) 1 0 a a a a (ct.fB a (bu.fn e) p.rd) a D a bn bn a ?_);rintro⟨⟨F,C⟩,T⟩;simp only at T⊢;cases y:(jE e k O).2 with
  |true=>
   have M:=aby y;generalize(jE e k O).1=K at T M⊢;refine gv [] 6 a B (g.swap 1 2 b' a a (λE I J=>J.1) (λE I J=>J.1) ?_);refine a4 [23] a j7 (g.az (j-1,K,F,C,S) a bK D N ?_);grind
  |false=>
   refine a4 [-23] a bF (g.az (j-1,e,bQ,ah,S) a bK D N ?_);grind
 obtain rfl:j=0:=w;refine a4 [-11] a D (g.aA ?_);refine aR a B (g.a2 (gF A i t k1 40 w x w) [0] a bn ?_);rintro⟨V,aP,av⟩;by_cases L:V=0
 .refine a4 [27] a (by simp[L]) (g.a2 (JA A i t (k1+1) w x) [0] a bn ?_);rintro⟨k,ab⟩;refine aR a B (g.fv (d:=1) (bQ:=bQ) (ah:=ah) (j:=c e) (h9:=[jr k,jr [97]]) (S8 a) a a a a a a a a (λau E aB s aw ax=>?_) (by show _*32<=_;omega) λF=>?_)
  .grind [EO]
  refine aR a B (g.bu ⟨e++[(k,[97])],F,ah++[jr k,jr [97]],k1+1+1+1,p.gE k [97] w b',by grind,by omega,by omega⟩ (g.aJ [0,1] a D ?_ (s:=nX)));grind
 by_cases ar:V=1
 .by_cases Q:0<c e
  .refine g.fD (ct.len (d:=1) a) λao=>?_;obtain⟨Y,r,rfl⟩:=ao.2.2.1 Q;refine a4 [-27,35,39] a bv (g.eP bb 1 a a a a a a a N a a λz u=>?_);have aj:=p.jQ 0 Q [65] u;refine aR a B (g.bu ⟨e.set 0 ((e.getD 0 bu.E).1,[65]),.row Y r,_,k1+1,aj,by grind,by omega,by omega⟩ (g.aJ [0,1] a D ?_ (s:=nX)));grind
  cases bQ;all_goals
   refine a4 [-27,35,-39] a ?_ (g.bu ⟨e,_,ah,k1+1,p,by omega,by omega,by omega⟩ (g.aJ [0,1] a ?_ ?_))
   .simp[Q,ar]<;>omega
   .simp
   grind
 refine a4 [-27,-35] a bv (g.bu ⟨e,bQ,ah,k1+1,p,by omega,by omega,by omega⟩ (g.aJ [0,1] a D ?_));grind
def YN(A)(b:Nat->Int)(g:Bytes b)(h)(d:h<=50000)(e:A<=1048576):
  bm (ι:=uA h 400) q 45 [aI 0 0] [e7 A b h] (λa=>bu.B a.d') (λa=>[e7 A b a.k1]):=
 bm.e4 (aX:=λa:uA h 400=>[e7 A b a.k1]) (h:=2) (j:=λa:uA h 400=>c a.d') (V:=λa:uA h 400=>bu.fn a.d') (YM A b g h d e) (λa=>a.iS) bn (λ_=>bC _)
end
section
open Go.Proofs Go.Extern
abbrev gl:an:=184
abbrev dQ:an:=182
abbrev pJ:an:=278
abbrev a0(a:an):X:=.pointer (f ⟨6,a,n⟩)
abbrev mR(a:an):X:=.iface pJ (.agg #[a0 a])
abbrev kC(d:an)(b:Nat)(a:Int):X:=.agg #[a0 d,.pointer (f ⟨b,0,n⟩),.int .u64 a]
def Oh:jG S 181 λargs=>ReflectliteValue.unpack (args.getD 0 (.tuple #[])):=⟨_,Tryz.func181,by kernel_rfl,by kernel_rfl,by kernel_rfl,by kernel_rfl⟩
def abS(a)(p):(ReflectliteValue.unpack (.iface gl (.pointer (f a)))).run S p=.ok (kC gl p.heap.size 150) (p.alloc (.cells #[.pointer (f a)] gl)):=bG
def Ul(a)(p)(V):(ReflectliteValue.unpack (.iface gl (.pointer (f a)))).events S p V=V:=bG
def abR(a)(p):(ReflectliteValue.unpack (.iface dQ (.pointer (f a)))).run S p=.ok (kC dQ p.heap.size 150) (p.alloc (.cells #[.pointer (f a)] dQ)):=bG
def Uk(a)(p)(V):(ReflectliteValue.unpack (.iface dQ (.pointer (f a)))).events S p V=V:=bG
def ae5:jG S 182 (ReflectliteValue.methodAny (ReflectliteValue.valueError "reflectlite.Value.Type" 0) λa _ _ _=>ReflectliteType.toType a):=⟨_,Tryz.func182,by kernel_rfl,by kernel_rfl,by kernel_rfl,by kernel_rfl⟩
def abP(C)(p):(ReflectliteValue.methodAny (ReflectliteValue.valueError "reflectlite.Value.Type" 0) (λa _ _ _=>ReflectliteType.toType a) #[kC gl C 150]).run S p=.ok (mR gl) p:=bG
def Ui(C)(p)(V):(ReflectliteValue.methodAny (ReflectliteValue.valueError "reflectlite.Value.Type" 0) (λa _ _ _=>ReflectliteType.toType a) #[kC gl C 150]).events S p V=V:=bG
def K4(b)(p):(Go.method (Tryz.prog.types.size+Made.depth) pJ (.agg #[b]) "Kind").run S p=.ok (343,b) p/\∀a,(Go.method (Tryz.prog.types.size+Made.depth) pJ (.agg #[b]) "Kind").events S p a=a:=⟨by kernel_rfl,λa=>by kernel_rfl⟩
def Of:jG S 343 (ReflectliteType.abiMethod λa=>do pure (.int .u8 (<-Rtype.kind a))):=⟨_,Tryz.func343,by kernel_rfl,by kernel_rfl,by kernel_rfl,by kernel_rfl⟩
def abN(p):((ReflectliteType.abiMethod λa=>do pure (.int .u8 (<-Rtype.kind a))) #[a0 gl]).run S p=.ok (.int .u8 22) p:=bG
def Uh(p)(V):((ReflectliteType.abiMethod λa=>do pure (.int .u8 (<-Rtype.kind a))) #[a0 gl]).events S p V=V:=bG
def abM(p):((ReflectliteType.abiMethod λa=>do pure (.int .u8 (<-Rtype.kind a))) #[a0 dQ]).run S p=.ok (.int .u8 22) p:=bG
def Ug(p)(V):((ReflectliteType.abiMethod λa=>do pure (.int .u8 (<-Rtype.kind a))) #[a0 dQ]).events S p V=V:=bG
def aeZ:jG S 183 (ReflectliteValue.method (ReflectliteValue.valueError "reflectlite.Value.IsNil" 0) ReflectliteValue.isNil):=⟨_,Tryz.func183,by kernel_rfl,by kernel_rfl,by kernel_rfl,by kernel_rfl⟩
def My(d)(b:an->Addr->Nat->Nat->Sem X)(aa):ReflectliteValue.method d b #[aa]=(do match<-ReflectliteValue.parts aa with|none=>d|some (g,e,a)=>b g e a (a % 32)):=rfl
def tB(C)(p):(ReflectliteValue.parts (kC gl C 150)).run S p=.ok (f (gl,⟨C,0,n⟩,150)) p/\∀a,(ReflectliteValue.parts (kC gl C 150)).events S p a=a:=⟨by kernel_rfl,λa=>by kernel_rfl⟩
def abL(C)(h)(p)(e:p.cell? ⟨C,0,n⟩=f (.pointer (f h))):(ReflectliteValue.method (ReflectliteValue.valueError "reflectlite.Value.IsNil" 0) ReflectliteValue.isNil #[kC gl C 150]).run S p=.ok (.bool v) p /\
  ∀a,∀b∈(ReflectliteValue.method (ReflectliteValue.valueError "reflectlite.Value.IsNil" 0) ReflectliteValue.isNil #[kC gl C 150]).events S p a,b∈a∨b=⟨.cell ⟨C,0,n⟩,v,v⟩:=by
 have g:=Tryz.underlying184;rw[My];constructor
 .simp only[cK,(tB C p).1,c_];simp[ReflectliteValue.isNil,loadVar,isAgg,underlying,g,e]
 intro a b d;simp only[aC,cK,(tB C p).1,(tB C p).2,c_,aE]at d;simpa[ReflectliteValue.isNil,loadVar,isAgg,underlying,g,e,show(Mode.plain==Mode.atomic)=v from rfl]using d
def aar(b)(p):(Go.method (Tryz.prog.types.size+Made.depth) pJ (.agg #[b]) "Elem").run S p=.ok (359,.agg #[b]) p/\∀a,(Go.method (Tryz.prog.types.size+Made.depth) pJ (.agg #[b]) "Elem").events S p a=a:=⟨by kernel_rfl,λa=>by kernel_rfl⟩
def aeW:jG S 359 (ReflectliteType.method ReflectliteType.elem):=⟨_,Tryz.func359,by kernel_rfl,by kernel_rfl,by kernel_rfl,by kernel_rfl⟩
def abH(p):(ReflectliteType.method ReflectliteType.elem #[.agg #[a0 gl]]).run S p=.ok (mR dQ) p:=bG
def Ud(p)(V):(ReflectliteType.method ReflectliteType.elem #[.agg #[a0 gl]]).events S p V=V:=bG
def aas(b)(p):(Go.method (Tryz.prog.types.size+Made.depth) pJ (.agg #[b]) "Implements").run S p=.ok (360,.agg #[b]) p/\∀a,(Go.method (Tryz.prog.types.size+Made.depth) pJ (.agg #[b]) "Implements").events S p a=a:=⟨by kernel_rfl,λa=>by kernel_rfl⟩
def aeY:jG S 360 (ReflectliteType.relation "Implements" ReflectliteType.implements_):=⟨_,Tryz.func360,by kernel_rfl,by kernel_rfl,by kernel_rfl,by kernel_rfl⟩
def abK(p):(ReflectliteType.relation "Implements" ReflectliteType.implements_ #[.agg #[a0 dQ],mR 179]).run S p=.ok (.bool l) p:=bG
def Uf(p)(V):(ReflectliteType.relation "Implements" ReflectliteType.implements_ #[.agg #[a0 dQ],mR 179]).events S p V=V:=bG
def aaq(b)(p):(Go.method (Tryz.prog.types.size+Made.depth) pJ (.agg #[b]) "AssignableTo").run S p=.ok (357,.agg #[b]) p/\∀a,(Go.method (Tryz.prog.types.size+Made.depth) pJ (.agg #[b]) "AssignableTo").events S p a=a:=⟨by kernel_rfl,λa=>by kernel_rfl⟩
def aeR:jG S 357 (ReflectliteType.relation "AssignableTo" ReflectliteType.assignableTo):=⟨_,Tryz.func357,by kernel_rfl,by kernel_rfl,by kernel_rfl,by kernel_rfl⟩
def abG(p):(ReflectliteType.relation "AssignableTo" ReflectliteType.assignableTo #[.agg #[a0 dQ],mR dQ]).run S p=.ok (.bool l) p:=bG
def Uc(p)(V):(ReflectliteType.relation "AssignableTo" ReflectliteType.assignableTo #[.agg #[a0 dQ],mR dQ]).events S p V=V:=bG
def ae6:jG S 224 ReflectliteType.typeOf:=⟨_,Tryz.func224,by kernel_rfl,by kernel_rfl,by kernel_rfl,by kernel_rfl⟩
def abQ(aa)(p):(ReflectliteType.typeOf #[.iface dQ aa]).run S p=.ok (mR dQ) p:=bG
def Uj(aa)(p)(V):(ReflectliteType.typeOf #[.iface dQ aa]).events S p V=V:=bG
def aeX:jG S 225 (ReflectliteValue.method (ReflectliteValue.valueError "reflectlite.Value.Elem" 0) ReflectliteValue.elem):=⟨_,Tryz.func225,by kernel_rfl,by kernel_rfl,by kernel_rfl,by kernel_rfl⟩
def Mm(p):(Rtype.elem? gl).run S p=.ok (f dQ) p/\∀a,(Rtype.elem? gl).events S p a=a:=⟨by kernel_rfl,λa=>by kernel_rfl⟩
def Mn(b)(p):(ReflectliteValue.mk dQ b ReflectliteValue.flagAddr).run S p=.ok (.agg #[a0 dQ,.pointer (f b),.int .u64 406]) p/\∀a,(ReflectliteValue.mk dQ b ReflectliteValue.flagAddr).events S p a=a:=⟨by kernel_rfl,λa=>by kernel_rfl⟩
def abI(C)(h)(p)(e:p.cell? ⟨C,0,n⟩=f (.pointer (f h))):(ReflectliteValue.method (ReflectliteValue.valueError "reflectlite.Value.Elem" 0) ReflectliteValue.elem #[kC gl C 150]).run S p=.ok (.agg #[a0 dQ,.pointer (f h),.int .u64 406]) p /\
  ∀a,∀b∈(ReflectliteValue.method (ReflectliteValue.valueError "reflectlite.Value.Elem" 0) ReflectliteValue.elem #[kC gl C 150]).events S p a,b∈a∨b=⟨.cell ⟨C,0,n⟩,v,v⟩:=by
 have g:=Tryz.underlying184;rw[My];constructor
 .simp only[cK,(tB C p).1,c_];simp[ReflectliteValue.elem,loadVar,isAgg,underlying,g,e,Mm,Mn]
 intro a b d;simp only[aC,cK,(tB C p).1,(tB C p).2,c_,aE]at d;simpa[ReflectliteValue.elem,loadVar,isAgg,underlying,g,e,Mm,Mn,show(Mode.plain==Mode.atomic)=v from rfl]using d
def ae4:jG S 226 ReflectliteValue.set:=⟨_,Tryz.func226,by kernel_rfl,by kernel_rfl,by kernel_rfl,by kernel_rfl⟩
def abY(aa b):ReflectliteValue.set #[aa,b]=(do
  let (f (s,a,Zj),f (src,i,_)):=(<-ReflectliteValue.parts aa,<-ReflectliteValue.parts b)
   |unsupported (.noEntry "extern/(internal/reflectlite.Value).Set.zeroValue")
  if Zj / ReflectliteValue.flagAddr % 2==0 then unsupported (.noEntry "extern/(internal/reflectlite.Value).Set.unaddressable")
  let val<-loadVar src i
  if<-Rtype.directlyAssignable s src then storeVar s a val
  else if<-Rtype.implements s src then
   if(<-Rtype.kind src)==20 then
    match val with
    |.nilIface=>unsupported (.noEntry "extern/reflectlite: a nil value of one interface type handed on as a value of another")
    |_=>storeVar s a val
   else storeVar s a (.iface src val)
  else panicString ("reflectlite.Set: value of type "++(<-Rtype.spelt src)++ " is not assignable to type "++(<-Rtype.spelt s))
  pure (.tuple #[])):=rfl
def Ei(b)(p):(ReflectliteValue.parts (.agg #[a0 dQ,.pointer (f b),.int .u64 406])).run S p=.ok (f (dQ,b,406)) p/\∀a,(ReflectliteValue.parts (.agg #[a0 dQ,.pointer (f b),.int .u64 406])).events S p a=a:=⟨by kernel_rfl,λa=>by kernel_rfl⟩
def Ej(C)(p):(ReflectliteValue.parts (kC dQ C 150)).run S p=.ok (f (dQ,⟨C,0,n⟩,150)) p/\∀a,(ReflectliteValue.parts (kC dQ C 150)).events S p a=a:=⟨by kernel_rfl,λa=>by kernel_rfl⟩
def Mk(p):(Rtype.directlyAssignable dQ dQ).run S p=.ok l p/\∀a,(Rtype.directlyAssignable dQ dQ).events S p a=a:=⟨by kernel_rfl,λa=>by kernel_rfl⟩
def Mo(p):(sizeOf dQ).run S p=.ok 1 p/\∀a,(sizeOf dQ).events S p a=a:=⟨by kernel_rfl,λa=>by kernel_rfl⟩
def abO(C i)(W)(cD)(d)(p)(o:p.heap[C]?=f (.cells #[cD] W (0,0)))(m:p.cell? ⟨i,0,n⟩=f (.pointer (f d))):
  (ReflectliteValue.set #[.agg #[a0 dQ,.pointer (f ⟨C,0,n⟩),.int .u64 406],kC dQ i 150]).run S p=.ok (.tuple #[]) (p.setRow C #[.pointer (f d)]) /\
  ∀b,∀e∈(ReflectliteValue.set #[.agg #[a0 dQ,.pointer (f ⟨C,0,n⟩),.int .u64 406],kC dQ i 150]).events S p b,e∈b∨e=⟨.cell ⟨i,0,n⟩,v,v⟩∨e=⟨.cell ⟨C,0,n⟩,l,v⟩:=by
 have k:=Tryz.underlying182;have h:∀p∈[Value.pointer (f d)],p.oneCell'=l:=λp t=>by simp at t;exact bF
 have s:=run_storeCells_at S C 0 W [.pointer (f d)] 0 #[cD] p o D h;have g:(storeCells ⟨C,0,n⟩ [.pointer (f d)] 0).run S p=.ok () (p.setRow C #[.pointer (f d)]):=s;rw[abY];constructor
 .simp only[cK,(Ei ⟨C,0,n⟩ p).1,(Ej i p).1,c_];simp[ReflectliteValue.flagAddr,loadVar,isAgg,underlying,k,m,Mk,storeVar,Value.cells,Mo,g]
 intro b e j;simp only[aC,cK,(Ei ⟨C,0,n⟩ p).1,(Ei ⟨C,0,n⟩ p).2,(Ej i p).1,(Ej i p).2,c_,aE]at j;have q:e∈(storeCells ⟨C,0,n⟩ [.pointer (f d)] 0).events S p (b.push ⟨.cell ⟨i,0,n⟩,v,v⟩):=by simpa[ReflectliteValue.flagAddr,loadVar,isAgg,underlying,k,m,Mk,storeVar,Value.cells,Mo,g,show(Mode.plain==Mode.atomic)=v from a]using j
 rcases nu [.pointer (f d)] 0 #[cD] p _ o D h e q with u|⟨r,x,w,rfl⟩
 .grind
 obtain rfl:r=0:=N;exact .inr (.inr a)
end
section
open Go.Proofs Go.Extern
variable {q:af S}
abbrev AD:ar:=.K (eh 0 226 (mR 179))
abbrev oj(a:X):y:=ax (.val a)
abbrev x9(d:an)(b:Nat)(a:Int):y:=.n (.agg [.c (.val (a0 d)),.c (.val (.pointer (f ⟨b,0,n⟩))),.c (.val (.int .u64 a))])
abbrev GX(d:Addr)(a b:Nat):m ar:=[.K (eh b gl (.pointer (f ⟨a,0,n⟩))),.K (eh a dQ (.pointer n))]
def J6:∀a,a<2->([0,1]:m Nat)[a]?=f a:=b'
def UD(b)(C i):Y q 184 [oj (.iface dQ (.pointer (f b))),oj (.iface gl (.pointer (f ⟨C,0,n⟩))),x9 gl i 150,oj (mR dQ)] (GX b C i) (bg l) [.K (eh i gl (.pointer (f ⟨C,0,n⟩))),.K (eh C dQ (.pointer (f b)))]:=by refine Y.I Tryz.func184 rfl λm=>?_;refine aR a B ?_;refine g.dH 3 [0,1,3,6] (λ_:Unit=>True) (λ_=>[]) (λ_=>GX b C i++[.cells 223 [.c (.val (a0 gl)),.c (.val (.pointer (f ⟨i,0,n⟩))),.c (.val (.int .u64 150))]]) (λ_=>0) () a D a D a B λ_ _=>?_;refine aR a B ?_;refine g.c0 a a (ei.ee (h'.ed a a) ae6 (abQ _) (Uj _) (E:=oj (mR dQ)) λ_=>Rd.val a) λ_=>?_;refine aR a B ?_;refine g.c0 a a (ei.ee (h'.invoke a a a (aaq _)) aeR abG Uc (E:=bg l) λ_=>Rd.bool) λ_=>?_;refine a4 [19] a D ?_;refine g.c0 a a (ei.g4 0 (bz:=.pointer (f ⟨C,0,n⟩)) a (h'.ed a a) aeX (λe h=>abI i ⟨C,0,n⟩ e h) (E:=x9 dQ C 406) λ_=>⟨_,a,Rd.val a,Rd.val a,Rd.val a,B⟩) λ_=>?_;refine aR a B ?_;refine g.c0 a a (ei.g2 (W:=dQ) (bz:=.pointer (f b)) (aa:=λd=>kC dQ d 150) (E:=λd=>x9 dQ d 150) (h'.ed a a) Oh (abR b) (Uk b) λd _ _=>⟨_,a,Rd.val a,Rd.val a,Rd.val a,B⟩) λd=>?_;refine aR a B ?_;refine g.c0 a a (ei.iM 1 3 (cD:=.pointer n) (bz:=.pointer (f b)) a a (h'.ed a a) ae4 (λe k j=>abO C d dQ _ b e k j) (E:=.T []) λ_ _=>⟨[],a,B⟩) λ_=>?_;refine aR a B (g.aS (bZ.mk [0,1] a ?_ a a a J6));simp
def N6{ac}{e g:ae}(t:r.op=.binOp op o e g ty){s}{cy}(j:P.underlying o=f (.interface cy))(z:η e=ax (.val (.iface ac aa)))(y:η g=ax .bD)(x:∀p,(eqGuard op o e g (.iface ac aa) .nilIface).run P p=.ok () p)(aj:∀p a,(eqGuard op o e g (.iface ac aa) .nilIface).events P p a=a)(d:ij op v=f s):a1 P r η k (ax (.bool s)) k:=by
 refine .aR λb u D w=>?_;have q:=w e;have m:=w g;rw[z]at q;rw[y]at m;replace q:=b8 q;replace m:=b8 m;generalize i:u e=A at q;generalize O:u g=B at m;cases q;cases m;have h:(Op.equal o (.iface ac aa) .nilIface).run P b.a=.ok v b.a:=Rz;have C:∀a,(Op.equal o (.iface ac aa) .nilIface).events P b.a a=a:=λa=>by show(aK (9999+1) o _ _).events P b.a a=a;unfold aK;simp[underlying,j]
 cases op<;>simp only[ij,reduceCtorEq,e']at d
 .exact Rn
 exact QO
def UC(e)(C):Y q 140 [oj (.iface dQ (.pointer (f e))),oj (.iface gl (.pointer (f ⟨C,0,n⟩)))] [AD,.K (eh C dQ (.pointer n))] (bg l) [AD,.K (eh C dQ (.pointer (f e)))]:=by refine Y.I Tryz.func140 rfl λj=>?_;refine aR a B ?_;refine g.aL (N6 a Tryz.underlying179 a a bn (λ_ _=>rfl) a) a a ?_;refine a4 [-9] a D ?_;refine g.aL (N6 a Tryz.underlying20 a a bn (λ_ _=>rfl) a) a a ?_;refine a4 [-11] a D ?_;refine g.c0 a a (ei.g2 (W:=gl) (bz:=.pointer (f ⟨C,0,n⟩)) (aa:=λd=>kC gl d 150) (E:=λd=>x9 gl d 150) (h'.ed a a) Oh (abS _) (Ul _) λd _ _=>⟨_,a,Rd.val a,Rd.val a,Rd.val a,B⟩) λb=>?_;refine aR a B ?_;refine g.c0 a a (ei.ee (h'.ed a a) ae5 (abP b) (Ui b) (E:=oj (mR gl)) λ_=>Rd.val a) λ_=>?_;refine aR a B ?_;refine g.c0 a a (ei.ee (h'.invoke a a a (K4 _)) Of abN Uh (E:=ax (.int .u8 22)) λ_=>Rd.int lD) λ_=>?_;refine a4 [-20] a D ?_;refine g.c0 a a (ei.g4 2 (bz:=.pointer (f ⟨C,0,n⟩)) a (h'.ed a a) aeZ (λi h=>abL b ⟨C,0,n⟩ i h) (E:=bg v) λ_=>Rd.bool) λ_=>?_;refine a4 [-23] a D ?_;refine g.c0 a a (ei.ee (h'.invoke a a a (aar _)) aeW abH Ud (E:=oj (mR dQ)) λ_=>Rd.val a) λ_=>?_;refine aR a B ?_;refine g.c0 a a (ei.ee (h'.invoke a a a (K4 _)) Of abM Ug (E:=ax (.int .u8 22)) λ_=>Rd.int lD) λ_=>?_;refine a4 [30] a D ?_;refine g.R (aT.gn bb 0 a a a a a a) a ?_;refine g.c0 a a (ei.ee (h'.invoke a a a (aas _)) aeY abK Uf (E:=bg l) λ_=>Rd.bool) λ_=>?_;refine a4 [-35] a D ?_;refine g.aB (UD e C b) [2,1] a ?_;refine aR a B (g.aJ [0,1] a ?_ J6);simp
end
end R1
abbrev zP(a b:bA)(d:Bool):y:=.T [.R (.c (.S a)),.R (.c (.S b)),.R (.c (.bool d))]
namespace R1
variable {q:af S}
def Wf(b)(s)(d:0<=s/\s<=255):Y q 270 [b2 b,vd s] [] (R (Lib.indexByte b (UInt8.ofNat (Int.toNat s)))) []:=by
 have a:s=((UInt8.ofNat s.toNat).toNat:Int):=by grind[UInt8.toNat_ofNat']
 grind[We]
def BB:bI:=λargs b=>match args,b with
 |[.n (.R (.c (.S d))),.n (.R (.c (.int .u8 a)))],[]=>f (R (Lib.indexByte d (UInt8.ofNat (Int.toNat a))),[],[0<=a/\a<=255])
 |_,_=>n
def t270:bL q 270 BB:=by
 intro args i e g d a b;unfold BB at a;split at a
 .cases a;exact(Wf _ _ (b)).args (λ_ _ h=>h)
 cases a
def In:m (Nat×bI):=(270,BB)::IA
def Cd:a' q In:=a'.cons t270 (TO)
def iG(a:bA):Int:=Lib.indexByte a 47
theorem Wd(b):Y q 210 [b2 b,b2 [47]] [] (R (iG b)) []:=by
 refine Y.I func210 rfl λe=>?_;by_cases d:b=[47]
 .subst d;refine a_ Cd [-18,22] a D (g.aw a ?_);exact cX
 refine a_ Cd [-18,-22,26] a ?_ (g.aw a ?_)
 .simp[kk,ds];grind
 exact cX
def BA:bI:=λargs a=>match args,a with
 |[.n (.R (.c (.S b))),.n (.R (.c (.S [47])))],[]=>f (R (iG b),[],[])
 |_,_=>n
def adl:bL q 210 BA:=by intro args h b d a e g;unfold BA at e;grind[Wd]
def Io:m (Nat×bI):=(210,BA)::In
def Ce:a' q Io:=a'.cons adl (Cd)
def jS(a:bA):bA:=if 0<=iG a then a.take (iG a).toNat else a
def my(a:bA):bA:=if 0<=iG a then a.drop ((iG a).toNat+1)else[]
def km(a:bA):Bool:=decide (0<=iG a)
theorem Vf(b):Y q 173 [b2 b,b2 [47]] [] (zP (jS b) (my b) (km b)) []:=by
 refine Y.I func173 rfl λh=>?_;have i:=h.S 0 a;have e:=yL b 47;change iG b<c b∨iG b=-1 at e;by_cases d:0<=iG b
 .have s:(iG b+1).toNat=(iG b).toNat+1:=w;refine a_ Ce [12] a ?_ (g.aw a ?_)
  .simp[d,a8];omega
  simp[jS,my,km,d,mx,s]
 refine a_ Ce [-12] a bK (g.aw a ?_);simp[jS,my,km,d]
def Bz:bI:=λargs b=>match args,b with
 |[.n (.R (.c (.S a))),.n (.R (.c (.S [47])))],[]=>f (zP (jS a) (my a) (km a),[],[])
 |_,_=>n
def adk:bL q 173 Bz:=by intro args h b d a e g;unfold Bz at e;grind[Vf]
def Ip:m (Nat×bI):=(173,Bz)::Io
def Ig:a' q Ip:=a'.cons adk (Ce)
theorem Ve(b):Y q 134 [b2 b,b2 [47]] [] (zP (jS b) (my b) (km b)) []:=by refine Y.I func134 rfl λd=>?_;exact b9 Ig a B (g.aw a)
def Bu:bI:=λargs b=>match args,b with
 |[.n (.R (.c (.S a))),.n (.R (.c (.S [47])))],[]=>f (zP (jS a) (my a) (km a),[],[])
 |_,_=>n
def adf:bL q 134 Bu:=by intro args h b d a e g;unfold Bu at e;grind[Ve]
def jU(a:bA):Bool:=decide (c a=1)&&decide (97<=ds a 0)&&decide (ds a 0<=101)
theorem VF(b):Y q 135 [b2 b] [] (bg (jU b)) []:=by
 refine Y.I func135 rfl λe=>?_;by_cases d:c b=1
 .by_cases i:97<=ds b 0
  .refine a4 [5,9] a hK (g.aw a ?_);show decide (ds b 0<=101)=jU b;simp[jU,d,i]
  refine a4 [5,-9] a cX (g.aw a ?_);simp[jU,i]
 refine a4 [-5] a bK (g.aw a ?_);simp[jU,d]
def Bv:bI:=λargs a=>match args,a with
 |[.n (.R (.c (.S b)))],[]=>f (bg (jU b),[],[])
 |_,_=>n
def adg:bL q 135 Bv:=by intro args h b d a e g;unfold Bv at e;grind[VF]
def Iq:m (Nat×bI):=(134,Bu)::(135,Bv)::Ip
def xT:a' q Iq:=a'.cons adf (a'.cons adg (Ig))
def j0(a:bA):Bool:=jU (jS a)&&(!km a||jU (my a))
theorem XP(b):Y q 95 [b2 b] [] (bg (j0 b)) []:=by
 refine Y.I func95 rfl λe=>?_;cases x:jU (jS b)with
 |false=>
  refine a_ xT [-13] a oW (g.aw a ?_);simp[j0,x]
 |true=>
  cases d:km b with
  |false=>
   refine a_ xT [13,-15] a du (g.aw a ?_);simp[j0,x,d]
  |true=>
   refine a_ xT [13,15] a du (g.aw a ?_);simp[j0,x,d]
def BK:bI:=λargs a=>match args,a with
 |[.n (.R (.c (.S b)))],[]=>f (bg (j0 b),[],[])
 |_,_=>n
def adr:bL q 95 BK:=by intro args h b d a e g;unfold BK at e;grind[XP]
theorem WQ(b):Y q 136 [b2 b] [] (bg (d6 b)) []:=by
 refine Y.I func136 rfl λe=>?_;have m:=e.S 0 a;refine aR a B (g.b' (λd=>d<=c b/\∀u,u<d->jx (b.getD u 0)=l) (λd:Nat=>[(0,b2 b),(5,R (c b)),(6,R d)]) (λ_=>[]) (λd=>c b-d) 0 a D a B ⟨by omega,by omega⟩ ?_);rintro d ⟨h,s⟩;by_cases t:d<c b
 .generalize x:b.getD d 0=i;by_cases k:i.toNat<97
  .refine a4 [7,12] a ?_ (g.bS (bZ.zero a ?_))
   .simp only[U,xC,bw,x];omega
   exact Ah
  by_cases j:i.toNat>122
  .refine a4 [7,-12,17] a O_ (g.bS (bZ.zero a ?_));exact Ah
  refine a4 [7,-12,-17] a Q7 (g.b6 (d+1) a D a B ?_ ?_)
  .refine⟨by omega,λu O=>?_⟩;rcases w_.1 O with O|rfl
   .grind
   rw[x];simp only[jx,cm,bw];omega
  omega
 exact Pu
def Bw:bI:=λargs a=>match args,a with
 |[.n (.R (.c (.S b)))],[]=>f (bg (d6 b),[],[])
 |_,_=>n
def adh:bL q 136 Bw:=by intro args h b d a e g;unfold Bw at e;grind[WQ]
def Ir:m (Nat×bI):=(95,BK)::(136,Bw)::Iq
def Cf:a' q Ir:=a'.cons adr (a'.cons adh (xT))
theorem JQ(b):Y q 96 [b2 b] [] (bg (fU b)) []:=by
 refine Y.I func96 rfl λe=>?_;by_cases d:c b<=40
 .refine a_ Cf [5] a bK (g.aw a ?_);simp[fU,d]
 refine a_ Cf [-5] a bK (g.aw a ?_);simp[fU,d]
def BL:bI:=λargs a=>match args,a with
 |[.n (.R (.c (.S b)))],[]=>f (bg (fU b),[],[])
 |_,_=>n
def t96:bL q 96 BL:=by intro args h b d a e g;unfold BL at e;grind[JQ]
def ow(b a:bA):Bool:=decide (c a<=c b)&&(b.take (c a)==a)
theorem VS(b d):Y q 138 [b2 b,b2 d] [] (bg (ow b d)) []:=by
 refine Y.I func138 rfl λe=>?_;by_cases x:c d<=c b
 .refine a4 [9] a oW (g.aw a ?_);simp[ow,x,mx]
 refine a4 [-9] a bK (g.aw a ?_);simp[ow,x]
def By:bI:=λargs a=>match args,a with
 |[.n (.R (.c (.S b))),.n (.R (.c (.S d)))],[]=>f (bg (ow b d),[],[])
 |_,_=>n
def adj:bL q 138 By:=by intro args h b d a e g;unfold By at e;grind[VS]
def Is:m (Nat×bI):=(96,BL)::(138,By)::Ir
def Ih:a' q Is:=a'.cons t96 (a'.cons adj (Cf))
theorem VR(b d):Y q 99 [b2 b,b2 d] [] (bg (ow b d)) []:=by refine Y.I func99 rfl λe=>?_;exact b9 Ih a B (g.aw a)
def BO:bI:=λargs a=>match args,a with
 |[.n (.R (.c (.S b))),.n (.R (.c (.S d)))],[]=>f (bg (ow b d),[],[])
 |_,_=>n
def t99:bL q 99 BO:=by intro args h b d a e g;unfold BO at e;grind[VR]
def It:m (Nat×bI):=(99,BO)::Is
def Ii:a' q It:=a'.cons t99 (Ih)
end R1
def c6.ju(a:c6 α)(d)(h j)(k:h+j<=c d):a.ad j (fJ h (a.fn d))=(d.drop h).take j:=by
 apply p8
 .simp[c6.ad];omega
 intro b e g;have i:b<j:=N;simp[c6.ad,fJ,c6.fn,gK,al,bJ (by omega:h+b<c d),a.inv]
def c6.iR(a:c6 α)(d){h}:a.bH j (fJ h (a.fn d)):=λb _=>by simp[fJ,c6.fn,gK,a.inv]
abbrev T1(a b:bA):y:=ax (.Q [.S a,.S b])
namespace R1
variable {q:af S}
def under(a b:bA):Bool:=ow a (b++[47])
def YU(b)(d e)(i:c b.1<=4000000):Y q 98 [x6 b,T1 d e] [] (bg (under d b.1)) []:=by refine Y.I func98 rfl λh=>?_;refine b9 Ii a bK (g.aw a ?_);exact cX
def BN:bI:=λargs e=>match args,e with
 |[.n (.agg [.c (.S a),.c (.S b)]),.n (.R (.c (.Q [.S g,.S d])))],[]=>f (bg (under g a),[],[c a<=4000000/\b=b/\d=d])
 |_,_=>n
def adt:bL q 98 BN:=by
 intro args m e g d a b;unfold BN at a;split at a
 .rename_i i h j k;cases a;exact YU (i,h) j k b.1
 grind
def Iu:m (Nat×bI):=(98,BN)::It
def sU:a' q Iu:=a'.cons adt (Ii)
abbrev Cp(a b:bA):y:=ax (.fn (.func 98) [] [.Q [.S a,.S b]])
def mI(e:m cN)(d:bA):Int:=match e.findIdx? (λa=>under d a.1)with|some b=>b|none=>-1
def ZX{o}{a}(g:e<c o)(i:under a (cu o e)=l)(h:∀b,b<e->under a (cu o b)=v):mI o a=e:=by
 have:o.findIdx? (λd=>under a d.1)=f e:=by grind[List.findIdx?_eq_some_iff_getElem,pg]
 rw[mI,this]
theorem KA{o}{a}(e:∀b,b<c o->under a (cu o b)=v):mI o a=-1:=by
 have:o.findIdx? (λd=>under a d.1)=n:=by grind[List.getElem_of_mem,pg]
 rw[mI,this]
def Wa(o)(e k)(p:∀d,d<c o->c (cu o d)<=4000000):Y q 137 [bu.B o,Cp e k] [] (R (mI o e)) []:=by
 refine Y.I func137 rfl λm=>?_;have s:=m.B 0 a;refine b9 sU a B (g.b' (λb=>b<=c o/\∀d,d<b->under e (cu o d)=v) (λb:Nat=>[(0,bu.B o),(1,Cp e k),(7,R (c o)),(8,R b)]) (λ_=>[]) (λb=>c o-b) 0 a D a B ⟨by omega,by omega⟩ ?_);rintro b ⟨r,j⟩;by_cases h:b<c o
 .have t:=p b h;cases i:under e (cu o b)with
  |true=>
   refine a_ sU [9,16] a ?_ (g.bS (bZ.zero a ?_))
   .simp[-al,h,kx,i];omega
   simp[ZX h i j]
  |false=>
   refine a_ sU [9,-16] a ?_ (g.b6 (b+1) a ?_ a B ?_ ?_)
   .simp[-al,h,kx,i,a8];omega
   .simp
   .grind
   omega
 refine a_ sU [-9] a bK (g.bs a a ?_);refine b9 sU a B (g.aw a ?_);simp[KA (λd u=>j d w)]
def zC(b:m cN):Prop:=∀a,a<c b->c (cu b a)<=4000000
def Bx:bI:=λargs e=>match args,e with
 |[g,.n (.R (.c (.fn (.func 98) [] [.Q [.S h,.S d]])))],[]=>match jA 2 g with
  |none=>n
  |some (b,a)=>f (R (mI (bu.ad b a) h),[],[bu.bH b a,zC (bu.ad b a),d=d])
 |_,_=>n
def adi:bL q 137 Bx:=by
 intro args o h i g a b;unfold Bx at a;split at a
 .rename_i p k m;split at a
  .cases a
  rename_i r j d;cases a;exact(Wa _ k m b.2.1).args (λ_ z=>b5.imp (λ_=>bu.cv d b.1) (b5.imp (λ_ e=>e) (λ_ e=>e)) z)
 grind
def Iv:m (Nat×bI):=(137,Bx)::Iu
def Ij:a' q Iv:=a'.cons adi (sU)
def UA(o)(b e)(d:zC o):Y q 97 [bu.B o,Cp b e] [] (bg (decide (0<=mI o b))) []:=by
 refine Y.I func97 rfl λh=>?_;refine b9 Ij a ?_ (g.aw a ?_)
 .simp[bu.U,bu.l,d]
 simp[bu.l]
def BM:bI:=λargs e=>match args,e with
 |[g,.n (.R (.c (.fn (.func 98) [] [.Q [.S h,.S d]])))],[]=>match jA 2 g with
  |none=>n
  |some (b,a)=>f (bg (decide (0<=mI (bu.ad b a) h)),[],[bu.bH b a,zC (bu.ad b a),d=d])
 |_,_=>n
def ads:bL q 97 BM:=by
 intro args o h i g a b;unfold BM at a;split at a
 .rename_i p k m;split at a
  .cases a
  rename_i r j d;cases a;exact(UA _ k m b.2.1).args (λ_ z=>b5.imp (λ_=>bu.cv d b.1) (b5.imp (λ_ e=>e) (λ_ e=>e)) z)
 grind
def TS:m (Nat×bI):=(97,BM)::Iv
def oi:a' q TS:=a'.cons ads (Ij)
def mX(b:m cN)(a:Nat):Bool:=
 j0 (cu b a)&&fU (lB b a)&&(a==0||!(aQ (cu b a) (cu b (a-1))||cu b a==cu b (a-1)))&&(aA a).all λd=>!under (cu b a) (cu b d)
def qX(a:m cN):Bool:=(aA (c a)).all (mX a)&&decide (c a<=6)
def zT{o}(b:e<c o)(d:mX o e=v):qX o=v:=by
 cases a:qX o with
 |false=>rfl
 |true=>
  simp[qX,cm]at a;grind
theorem LP{b}(g:j0 b=l):c b<=3:=by
 simp[j0,jU,cm,jL,bw,jl]at g;obtain⟨⟨⟨e,_⟩,_⟩,a⟩:=g;have h:=yL b 47;change iG b<c b∨iG b=-1 at h;by_cases d:0<=iG b
 .simp only[jS,d,dx,List.length_take]at e;rcases a with a|a
  .simp[km,d]at a
  have:=a.1.1;simp[my,d,dx,sB]at this;omega
 simp[jS,d,dn]at e;omega
def ZY{o}{T}(k:e<=c o):decide (0<=mI (o.take e) T)=!(aA e).all λa=>!under T (cu o a):=by
 have m:∀a,a<e->cu (o.take e) a=cu o a:=by intro a d;simp[cu,al,d]
 cases q:(aA e).all λa=>!under T (cu o a)with
 |true=>
  grind[KA]
 |false=>
  have i:∃a,a<e/\under T (cu o a)=l:=N;have:∃g:Nat,mI (o.take e) T=g:=by
   unfold mI;cases b:(o.take e).findIdx? (λj=>under T j.1)with
   |some g=>grind
   |none=>
    obtain⟨a,d,p⟩:=i;rw[AW]at b;have h:a<c (o.take e):=N;have:=b _ (xe h);grind[pg]
  grind
def JS(o):Y q 59 [bu.B o] [] (bg (qX o)) []:=by
 refine Y.I func59 rfl λA=>?_;have E:=A.B 0 a;refine b9 oi a B (g.aH 0 (λe=>e<=c o/\∀b,b<e->mX o b=l) (λe:Nat=>[(0,bu.B o),(5,bu.B o),(6,R (c o)),(7,R e)]) (λ_=>[]) (λe=>c o-e) 0 a D a B a ⟨by omega,by omega⟩ ?_);rintro e ⟨k,u⟩;by_cases h:e<c o
 .cases O:j0 (cu o e)with
  |false=>
   refine bd oi [8,-14] a ?_ (g.aS (bZ.zero a ?_))
   .simp[-al,h,kx,O]
   simp[U,zT h (by simp[mX,O])]
  |true=>
   cases aj:fU (lB o e)with
   |false=>
    refine bd oi [8,14,-19] a ?_ (g.aS (bZ.zero a ?_))
    .simp[-al,h,kx,tY,O,aj]
    simp[U,zT h (by simp[mX,aj])]
   |true=>
    have I:zC (o.take e):=by
     intro b C;simp[List.length_take]at C;have t:cu (o.take e) b=cu o b:=by simp[cu,al,(by omega:b<e)]
     rw[t];have:=u b w;simp[mX,cm]at this;grind[LP]
    have F:bu.ad ((e:Int).toNat-0) (fJ 0 (bu.fn o))=o.take e:=by rw[bu.ju o 0 _ N];simp
    cases p:(e==0||!(aQ (cu o e) (cu o (e-1))||cu o e==cu o (e-1)))with
    |false=>
     have j:mX o e=v:=by simp only[mX,p];simp
     have z:e≠0:=N;have r:(aQ (cu o e) (cu o (e-1))||cu o e==cu o (e-1))=l:=N;have i:a8 .i64 ((e:Int)-1):=cX;have d:((e:Int)-1).toNat=e-1:=w;refine bd oi [8,14,19,24,34] a PR (g.aS (bZ.zero a ?_));simp[zT h j]
    |true=>
     have j:mX o e=(aA e).all λb=>!under (cu o e) (cu o b):=by simp only[mX,p,O,aj];simp
     apply g.cj [(0,bu.B o),(3,R e),(5,bu.B o),(6,R (c o)),(7,R e),(4,aI 0 0)] [.cells 51 [.c (.S (cu o e)),.c (.S (lB o e))]]
     .intro bY;by_cases z:e=0
      .refine bd oi [8,14,19,-24,906] a ?_ (bY _ _ a ?_)
       .simp only[U,kx,tY,cW,O,aj,bw,dr];grind
       simp
      have r:(aQ (cu o e) (cu o (e-1))||cu o e==cu o (e-1))=v:=N;have i:a8 .i64 ((e:Int)-1):=cX;have d:((e:Int)-1).toNat=e-1:=w;refine bd oi [8,14,19,24,-34,906] a PR (bY _ _ a ?_);simp
     refine g.freeze 4 0 a a a ?_;have m:=ZY (o:=o) (T:=cu o e) (e:=e) k;have x:bu.bH ((e:Int).toNat-0) (fJ 0 (bu.fn o)):=bu.iR o;cases s:(aA e).all λb=>!under (cu o e) (cu o b)with
     |false=>
      rw[s]at m j;refine bd oi [41] a ?_ (g.aS (bZ.zero a ?_))
      .simp only[U,bW];grind
      simp[zT h j]
     |true=>
      rw[s]at m j;refine bd oi [-41] a ?_ (g.az (e+1) a ?_ ?_ ?_ ?_)
      .simp only[U,bW];have y:decide (0<=mI (bu.ad ((e:Int).toNat-0) (fJ 0 (bu.fn o))) (cu o e))=v:=N;exact⟨by exact cX,x,by grind,B,y,by omega,by omega⟩
      .simp
      .trivial
      .grind
      omega
 have:e=c o:=w;subst this;refine a_ oi [-8] a D (g.aA ?_);refine b9 oi a B (g.aw a ?_);simp only[U,qX];grind
def rB:bI:=λargs d=>match args,d with
 |[e],[]=>match jA 2 e with
  |none=>n
  |some (a,b)=>f (bg (qX (bu.ad a b)),[],[bu.bH a b])
 |_,_=>n
def wn:bL q 59 rB:=by
 intro args j e g d a b;unfold rB at a;split at a
 .split at a
  .cases a
  rename_i k m h;cases a;exact(JS _ ).args (λ_ z=>b5.imp (λ_=>bu.cv h b) (λ_ i=>i) z)
 grind
end R1
def b5.al{k aq}{b}(g:∀h(e:y),bx k b h e->bx aq b h e):∀{z:m X}{d:m y},b5 k b z d->b5 aq b z d
 |[],[],_=>trivial
 |[],_::_,a=>a.elim
 |_::_,[],a=>a.elim
 |_::_,_::_,a=>⟨g _ _ a.1,b5.al g a.2⟩
def Y.eG{q:af P}{r}{args a}{d}{res}(s:Y q r args k res aq)(C:∀b z,b5 k b z a->b5 k b z args)(A:jw d k=f Z)(B:U Z):Y q r a d res aq:=
 ⟨s.1,λb z o e t g m=>by obtain⟨i,j,D⟩:=jW A B b e;exact s.2 b z (C b z (o.al D)) i t g λh E p u w x y=>m h E p u w x ((j.too4 e).trans y)⟩
def aT.dO{i:af P}{j}(s:dX (ι:=Unit) i F all r J k (λ_=>j) (λ_=>aq)):aT i F all r J k j aq:=
 λw o q g p u b m t a e h d=>s w o q g p u b m t a e h λ_=>d
namespace R1
variable {q:af S}
abbrev jB(a:m (Int×Int)):ar:=.x 255 2 (c a) (a3.fn a)
abbrev mW(a:m (Int×Int)):y:=.n (.R (.x 0 2 (c a) (a3.fn a)))
def K3(L:m (Int×Int))(a b d:ar)(e g h _:Bool):m ar:=match h with
 |true=>[d]
 |false=>match g with
  |true=>[b]
  |false=>match e with
   |true=>[a]
   |false=>[jB L]
def CG:∀p(d:m (Int×Int)),c d+c p.ad<=4000000->Y q 219 [ax (eT p),mW d] [jB d] (mW (d++p.ad)) [jB (d++p.ad)]
 |.nil,d,_=>by refine Y.I func219 rfl λE=>?_;refine aR a B (g.aL (r1 a underlying270 a a a) a a ?_);refine aR a B ?_;rw[show d++dH.nil.ad=d from hU d];exact g.aJ [0] a ⟨a,bs.same⟩ s8
 |.ax lt e h b,d,A=>by
  have I:(dH.ax lt e h b).ad=lt.ad++(e,h)::b.ad:=rfl;have K:c d+c lt.ad+(c b.ad+1)<=4000000:=N;have u:=CG lt d w;have t:=CG b (d++lt.ad++[(e,h)]) N;have O:=a3.aW (d++lt.ad) (e,h);have dZ:Y q 219 [ax (eT b),.n (.R (.x 0 2 (c (d++lt.ad)+1) (cj (c (d++lt.ad)) (a3.fn (d++lt.ad)) λj=>([[.int .i64 e,.int .i64 h]]:m (m M)).getD j [])))] [.x 255 2 (c (d++lt.ad)+1) (cj (c (d++lt.ad)) (a3.fn (d++lt.ad)) λj=>([[.int .i64 e,.int .i64 h]]:m (m M)).getD j [])] (mW (d++(dH.ax lt e h b).ad)) [jB (d++(dH.ax lt e h b).ad)]:=by
   rw[I,show d++(lt.ad++(e,h)::b.ad)=d++lt.ad++[(e,h)]++b.ad by simp];refine t.eG (λR z Q=>?_) a (U.Y.2 ⟨⟨by grind,O⟩,B⟩)
   match z,Q with
   |[_,_],⟨J,C,F⟩=>exact⟨J,pr rfl (show U [_,_]from⟨by grind,O⟩) C,F⟩
  have nC:(c (d++lt.ad)+1)*pn.bytes<=140737488355328:=by rw[show pn.bytes=16 from a,dm];omega
  clear t O K A;generalize d++(dH.ax lt e h b).ad=o at *;generalize d++lt.ad=k at *;have x:a' q []:=a'.nil;refine Y.I func219 rfl λE=>?_;refine aR a B (g.aL (tG a underlying270 a a a) a a ?_);refine a4 [903] a B ?_;let r:Nat->y:=λj=>([ax (eT (.ax lt e h b)),ax (eT (.ax lt e h b)),ax (.Q [eT b]),ax (eT b),ax (eT (.ax lt e h b)),ax (eT (.ax lt e h b)),ax (.Q [eT lt,eT b]),ax (eT lt),mW d,mW k,ax (eT (.ax lt e h b)),ax (eT (.ax lt e h b)),ax (eT (.ax lt e h b)),pc e h,ax (.B l 2 1 λj=>([[.int .i64 e,.int .i64 h]]:m (m M)).getD j []),.n (.R (.x 0 2 (c k+1) (cj (c k) (a3.fn k) λj=>([[.int .i64 e,.int .i64 h]]:m (m M)).getD j []))),mW o,mW o]:m y).getD j .any
  cases lt<;>cases b<;>(
   refine g.b9 b6 r (mD (K3 d (jB k) (.x 255 2 (c k+1) (cj (c k) (a3.fn k) λj=>([[.int .i64 e,.int .i64 h]]:m (m M)).getD j [])) (jB o)) 9 15 16 17) a a a a ⟨
   .aU,
   .aU,
   .aU,
   .aU,
   .aU,
   .aU,
   .aU,
   .aU,
   .aU,
   bV.eb a a a a a a (aT.dO (dX.bV u.tocI [0] a a a a D a a a bn a bn)),
   .aU,
   .aU,
   .aU,
   .aU,
   .aU,
   bV.eT a a a a a a (dT (bf:=[]) bb x (aq:=f _) a ⟨rfl,rfl,nC⟩),
   bV.eU a a a a a a (aT.dO (dX.bV dZ.tocI [0] a a a a D a a a bn a bn)),
   bV.eV a a a a a a (aT.w),B⟩ ?_
   intro y i;show g q _ _ _ _ _ (K3 d (jB k) _ (jB o) (y 9) (y 15) (y 16) (y 17));rw[i 9 b',i 15 b',i 16 b',i 17 b']
   exact g.aJ [0] a ⟨a,bs.same⟩ s8)
abbrev Lp:y:=ax (.B l 2 0 λ_=>[])
def K2(a b d:ar)(e g h _:Bool):m ar:=match h with
 |true=>[d]
 |false=>match g with
  |true=>[b]
  |false=>match e with
   |true=>[a]
   |false=>[]
def Jq:∀(o:dH),c o.ad<=4000000->Y q 219 [ax (eT o),Lp] [] (mW o.ad) [jB o.ad]
 |.nil,_=>by refine Y.I func219 rfl λE=>?_;refine aR a B (g.aL (r1 a underlying270 a a a) a a ?_);refine aR a B (g.bG 4 255 2 a a ?_);refine g.bb [jB []] a D ?_;exact g.aJ [0] a nX (C9 _)
 |.ax lt d e b,u=>by
  have r:(dH.ax lt d e b).ad=lt.ad++(d,e)::b.ad:=rfl;have J:c lt.ad+(c b.ad+1)<=4000000:=N;have A:=Jq lt w;have t:=CG (q:=q) b (lt.ad++[(d,e)]) N;have O:=a3.aW lt.ad (d,e);have dZ:Y q 219 [ax (eT b),.n (.R (.x 0 2 (c lt.ad+1) (cj (c lt.ad) (a3.fn lt.ad) λh=>([[.int .i64 d,.int .i64 e]]:m (m M)).getD h [])))] [.x 255 2 (c lt.ad+1) (cj (c lt.ad) (a3.fn lt.ad) λh=>([[.int .i64 d,.int .i64 e]]:m (m M)).getD h [])] (mW (dH.ax lt d e b).ad) [jB (dH.ax lt d e b).ad]:=by
   rw[r,show lt.ad++(d,e)::b.ad=lt.ad++[(d,e)]++b.ad by simp];refine t.eG (λQ z K=>?_) a (U.Y.2 ⟨⟨by simp,O⟩,B⟩)
   match z,K with
   |[_,_],⟨I,C,F⟩=>exact⟨I,pr rfl (show U [_,_]from⟨by simp,O⟩) C,F⟩
  have nC:(c lt.ad+1)*pn.bytes<=140737488355328:=by rw[show pn.bytes=16 from a];omega
  clear t O J u;clear r;generalize(dH.ax lt d e b).ad=k at *;generalize lt.ad=j at *;have x:a' q []:=a'.nil;refine Y.I func219 rfl λE=>?_;refine aR a B (g.aL (tG a underlying270 a a a) a a ?_);refine a4 [903] a B ?_;let p:Nat->y:=λh=>([ax (eT (.ax lt d e b)),ax (eT (.ax lt d e b)),ax (.Q [eT b]),ax (eT b),ax (eT (.ax lt d e b)),ax (eT (.ax lt d e b)),ax (.Q [eT lt,eT b]),ax (eT lt),Lp,mW j,ax (eT (.ax lt d e b)),ax (eT (.ax lt d e b)),ax (eT (.ax lt d e b)),pc d e,ax (.B l 2 1 λh=>([[.int .i64 d,.int .i64 e]]:m (m M)).getD h []),.n (.R (.x 0 2 (c j+1) (cj (c j) (a3.fn j) λh=>([[.int .i64 d,.int .i64 e]]:m (m M)).getD h []))),mW k,mW k]:m y).getD h .any
  cases lt<;>cases b<;>(
   refine g.b9 b6 p (mD (K2 (jB j) (.x 255 2 (c j+1) (cj (c j) (a3.fn j) λh=>([[.int .i64 d,.int .i64 e]]:m (m M)).getD h [])) (jB k)) 9 15 16 17) a a a a ⟨
   .aU,
   .aU,
   .aU,
   .aU,
   .aU,
   .aU,
   .aU,
   .aU,
   .aU,
   bV.eb a a a a a a (aT.dO (dX.bV A.tocI [] a a a a D a a a bn a bn)),
   .aU,
   .aU,
   .aU,
   .aU,
   .aU,
   bV.eT a a a a a a (dT (bf:=[]) bb x (aq:=f _) a ⟨rfl,rfl,nC⟩),
   bV.eU a a a a a a (aT.dO (dX.bV dZ.tocI [0] a a a a D a a a bn a bn)),
   bV.eV a a a a a a (aT.w),B⟩ ?_
   intro y i;show g q _ _ _ _ _ (K2 (jB j) _ (jB k) (y 9) (y 15) (y 16) (y 17));rw[i 9 b',i 15 b',i 16 b',i 17 b']
   exact g.aJ [0] a ⟨a,bs.same⟩ (C9 _))
end R1
section
open Go.Conc
def bc.gQ(j:bc k b){bT}{L}(aM:k[d]?=f bT)(B:b.t[d]?=f L)(z:(∃W ai,bT=.cells W ai)∨∃H,bT=.K H):
  bc (k.set d .N) {b with t:=b.t.set d ⟨L.v,[]⟩}/\cO k b (k.set d .N) {b with t:=b.t.set d ⟨L.v,[]⟩}:=by
 have C:d<c k:=(cP.1 aM).1;have K:d<c b.t:=(cP.1 B).1;have A:∀m,(b.t.set d ⟨L.v,[]⟩)[m]?=if d=m then f ⟨L.v,[]⟩else b.t[m]?:=N;have y:∀g∈b.t.set d ⟨L.v,[]⟩,∀o∈g.al,g∈b.t:=N;have u:cO k b (k.set d .N) {b with t:=b.t.set d ⟨L.v,[]⟩}:=by
  refine⟨bC _,λ_ _ _=>rfl,λ_ _ _ E=>E,λ_ _ _ _=>rfl,λg e o i=>.inr ⟨g,y g e o i,i⟩,?_,a,a,a,a⟩;intro m q g h e;by_cases t:d=m
  .subst t;rw[aM]at h;cases h;rw[B]at e;cases e;refine⟨.N,⟨L.v,[]⟩,by grind,by grind,?_⟩;rcases z with⟨W,ai,rfl⟩|⟨H,rfl⟩<;>rfl
  exact⟨q,g,by grind,by grind,.refl _ _⟩
 refine⟨⟨j.mem,by simp[j.len],?_,?_,λg e o i=>j.lt g (y g e o i) o i,λo i=>⟨(j.own o i).1,λg e p=>(j.own o i).2 g (y g e o p) p⟩⟩,u⟩
 .intro m q g h e;by_cases t:d=m
  .subst t;rw[iy C]at h;cases h;trivial
  rw[kJ t]at h;rw[A,bj t]at e;exact(j.box m q g h e).ca u.ext j.len λo i=>⟨a,λM=>rfl⟩
 intro I J w x r s o D F;rw[A]at r s;split at r
 .grind
 split at s
 .grind
 exact j.a3 I J w x r s o D F
def bx.eY(g:aF.D=b.D){a}(i:bx k b aa a)(h:h0 0 a=l):bx aq aF aa a:=by have d:=bx.drop (aX:=[]) (bq:=k) i h;refine bx.mono (k:=[]) (b:=b.cut 0) ⟨λm p aa e=>by rw[g];exact e,λo j L aM _=>by grind⟩ (by simp[a6.cut]) d
end
section
open Go.ChangeShapes Go.WideShapes Go.ChangeAt Go.RowKit
def H7{a:Addr}(e:p.cell? (a.add j)=f aa):p.cell? ⟨a.block,a.off+j,n⟩=f aa/\(j=0->a=⟨a.block,a.off,n⟩):=by obtain⟨d,g,b⟩:=a;cases b<;>simp only[Addr.add,aH]at*<;>grind
section
variable {H:Type}{g8:an×X->H}{o bz:Nat}{o4:au}
def abU(E:P.underlying o=f (.slice bz))(D:P.underlying bz=f (.int .u8))(F:P.cellsOf bz=1){i:Option Addr}{d:Nat}{q:DataW H}{x:m MemPlace}(t:DataW.Trod g8 P o4 0 (λ_=>l) l o (.slice i A d) q x):
  ∃k:Nat->Int,R1.Bytes k/\A<=9223372036854775807/\bx [] (a6.bw o4) (.slice i A d) (ax (.B v 1 A (R1.nl k))):=by
 obtain⟨J,B⟩:=t;rcases open_ints E D F B with⟨g,_⟩|⟨K,j,s,C,g,_,aa,z,Q,_,r,y⟩<;>simp[Value.cells]at g<;>obtain⟨rfl,rfl,rfl⟩:=g
 .exact⟨λ_=>0,λ_=>by simp,by omega,Rd.dK⟩
 simp only[dx,maxLen]at Q z;have p:∀b,0<=C.getD b 0/\C.getD b 0<=255:=λb=>by
  by_cases e:b<c C
  .have:=y _ (xe e);simp[Lit.wf,IntKind.min,IntKind.max,IntKind.signed,IntKind.bits]at this;grind
  grind
 refine⟨λb=>C.getD b 0,p,by omega,Rd.hM aa w (λI=>eF f ((H7 (r 0 w)).2 a)) (λ_ _=>rfl) λb e u s h=>?_⟩
 match u,h with
 |0,h=>
  cases h;exact⟨_,by simpa[a6.bw]using(H7 (r b w)).1,Rd.int (p b)⟩
abbrev Hh(a:Nat×(Nat->Int)):y:=ax (.B v 1 a.1 (R1.nl a.2))
def Gj(a:Nat×(Nat->Int)):Prop:=R1.Bytes a.2/\a.1<=9223372036854775807
def Mu{d:m uq}(C:∀g∈d,o4.heap[g.1]?=f (.cells #[g.2.2] g.2.1 (0,0)))(k:∀g∈d,∃T bz,g.2.2=.iface T bz)(q:laidOutB P=l)(I:P.readableRec o=l)(J:o<P.types.size)(A:P.underlying o=f (.slice bz))(F:P.underlying bz=f (.int .u8))(K:P.cellsOf bz=1){V:Reach}{base:Nat}:∀{i:Nat}{z:m X}{b:m (DataW H)}{r:m MemPlace},
  DataW.TrodAll g8 P o4 0 (λ_=>l) l (aU i o) z b r->(∀h j,h<i->z[h]?=f j->Value.okWide P o4 V base o j) ->
  ∃p:m (Nat×(Nat->Int)),(c p=i/\c b=i)/\(∀g∈p,Gj g)/\b5 (mG d) (a6.cR d o4) z (p.map Hh)/\∀s,Below o4.heap.size o4 s->DataW.TrodAll g8 P s 0 (λt=>decide (t<o4.heap.size)) l (aU i o) z b r
 |0,z,b,r,e,_=>by obtain⟨rfl,rfl,rfl⟩:=trodAll_nil e;exact⟨[],⟨a,a⟩,by simp,B,λ_ _=>rfl⟩
 |i+1,z,b,r,e,E=>by
  obtain⟨j,z,aa,b,r,ae,rfl,rfl,rfl,⟨u,x⟩,R⟩:=trodAll_cons e;obtain⟨Y,U,D,rfl⟩:=okWide_slice A (E 0 j w rfl);obtain⟨t,N,M,S⟩:=abU A F K ⟨u,x⟩;obtain⟨p,k1,y,O,G⟩:=Mu C k q I J A F K R λh j W e=>E (h+1) j w e;refine⟨(U,t)::p,by simp[k1],by simp only[List.forall_mem_cons];exact⟨⟨N,M⟩,y⟩,⟨Rd.cR C k (λab h Z e=>?_) S,O⟩,λs Q=>trodAll_cons_mk (Below.trod q I J ⟨u,x⟩ Q (DataW.trod_lt u _ _ _ x)) (G s Q)⟩
  match h,e with
  |0,e=>cases e;exact⟨_,_,a⟩
end
noncomputable def KM(P:aD)(d:m (String×DataW Unit))(b h g:Nat)(os:Os):au:=
 let cD:=World.laidAll P os (d.filter λi=>i.2.handleName?.isNone)
 {cD with heap:=cD.heap.modify b λ
   |.cells _ a j=>.cells #[.iface h (.agg #[typeHandle P g])] a j
   |e=>e}
def KO{M:Checked}{I ou gP hD iK se sd:Nat}(aj:∀(x w:an×X) (O:m (Nat×(Nat->Int))),c O=j->(∀g∈O,Gj g)->Y (af.ay M.prog) I (O.map Hh) (mG [(ou,iK,.iface x.1 x.2),(gP,iK,.iface w.1 w.2),(hD,se,.iface sd (.agg #[typeHandle M.prog iK]))]) (bg l) (mG [(ou,iK,.iface x.1 x.2),(gP,iK,.iface w.1 w.2),(hD,se,.iface sd (.agg #[typeHandle M.prog iK]))])){fn:Func}{C T Z:Nat}{b:ChangeSpec}{s:OpenClaim}{os:Os}(ba:os.Started){H:Type}{g8:an×X->H}(L:M.prog.funcs[I]?=f fn)(aX:fn.params=(aU j C).toArray)(aG:fn.resultTypes=#[Z])(ak:ownKnob M.prog.godebug=n)(R:laidOutB M.prog=l)(aH:M.prog.readableRec C=l)(aJ:C<M.prog.types.size)(ao:M.prog.underlying C=f (.slice T))(aq:M.prog.underlying T=f (.int .u8))(ar:M.prog.cellsOf T=1)(aC:M.prog.underlying Z=f .bool)(aE:M.prog.inits.idxOf? I=n)(aK:varsRowed M.prog b.vars=l)(aI:∃aZ a0,b.vars=[aZ,a0])(a6:∀(F:m (DataW H)) (i h:DataW H),c F=j->b.fn H (F++[i,h])={results:=[.lit (.bool l)],args:=F,vars:=[i,h]})(wy:∃(e:au) (tape:Tape) (u:Input),e.os=os/\(e.forCall tape u).Shaped M.prog/\u.vars=[]/\Input.okWide M.prog (e.forCall tape u) .any e.heap.size I u /\
   ((b.pre g8 M.prog fn s.domain v (e.forCall tape u).memory u.args/\laidMetH M.prog s.laid (e.forCall tape u).memory)/\sizedMet g8 M.prog fn (OpenSpec.ofChange b) v (e.forCall tape u).memory u.args)/\({}:Assume).holds M.prog (lone (Frame.enter M.prog I u.args .normal) [] (e.forCall tape u))){Ds Dt Dr:Nat}{aP lw S aO aQ:String}{ai x6 z:DataW Unit}{aR:Array (String×an)}{aY:m UInt8}(az:(s.laid.filter λg=>g.2.handleName?.isNone)[Ds]?=f (aP,.iface aO ai))(aB:(s.laid.filter λg=>g.2.handleName?.isNone)[Dt]?=f (lw,.iface aQ x6))(ax:(s.laid.filter λg=>g.2.handleName?.isSome)[Dr]?=f (S,z))(U:[aP,lw,S].map M.prog.globalNamed=[f ou,f gP,f hD])(aa:[ou,gP].map (λW=>(M.prog.globals[W]?).map (·.type))=[f iK,f iK])(aT:M.prog.underlying iK=f (.interface aR))(E:[ou,gP,hD].map (λW=>(decide (W<M.prog.globals.size),((begin M.prog (λ_ _=>0) default).world.heap[W]?).bind Obj.row?))=[(l,f (#[.nilIface],iK)),(l,f (#[.nilIface],iK)),(l,f (#[.nilIface],se))])(ae:z.funcsIn?=n)(ag:z.handleName?=f aY)(ah:(M.prog.cutTypes.find? (·.1== "internal/reflectlite.rtype")).map (·.2)=f sd)(a:((aA M.prog.types.size).filter λC=>M.prog.rowNamed C aY)=[iK])(a8:[ou,gP,hD].Nodup):
  ReturnsInLeavingWide {} M os I .any (λe args=>(b.pre g8 M.prog fn s.domain v e args/\laidMetH M.prog s.laid e)/\sizedMet g8 M.prog fn (OpenSpec.ofChange b) v e args) (b.post g8 M.prog fn v l v v):=by
 refine abW (q:=λe _=>laidMetH M.prog s.laid e) (λ_ _ _ aD t=>t.of_heap aD) ak ba L wy λV base args k K J r N o A=>?_;have a5:=N;obtain⟨a1,a2,aV,ab,rfl,_,_⟩:=N;simp only[mm,List.map_nil,List.cons.injEq,a9,lL,bw]at U aa E;obtain⟨x,a3⟩:=KN A o (ca az) U.1 aa.1 aT E.1.1 E.1.2;obtain⟨w,y⟩:=KN A o (ca aB) U.2.1 aa.2 aT E.2.1.1 E.2.1.2;have P:∀g∈([(ou,iK,.iface x.1 x.2),(gP,iK,.iface w.1 w.2),(hD,se,.iface sd (.agg #[typeHandle M.prog iK]))]:m uq),V.heap[g.1]?=f (.cells #[g.2.2] g.2.1 (0,0)):=by simp only[List.forall_mem_cons];exact⟨a3,y,Z' A o (ca ax) ae ag U.2.2 ah a E.2.2.1 E.2.2.2,by simp⟩
 have a4:∀g∈([(ou,iK,.iface x.1 x.2),(gP,iK,.iface w.1 w.2),(hD,se,.iface sd (.agg #[typeHandle M.prog iK]))]:m uq),∃a7 T,g.2.2=.iface a7 T:=D;simp only[aX]at aV r;obtain⟨O,k1,aL,aM,aN⟩:=Mu P a4 R aH aJ ao aq ar aV λa' aS aF t=>r a' C aS (by simp[aF]) wR;refine bm.iY (aj x w O k1.1 aL).tocI aE a8 P aM λ_ aS B p d F=>?_;have p:Rd B.D aS (.bool l):=p;cases p;have Q:Below V.heap.size V (B.a.at F):=⟨d.os,d.tape,d.output,d.size,d.block⟩;obtain⟨aZ,a0,a_⟩:=aI;obtain⟨i,h,rfl⟩:∃i h,K=[i,h]:=by
  rw[a_]at ab
  match K,ab with
  |[i,h],_=>exact⟨i,h,rfl⟩
 have G:=a6 k i h k1.2;have av:=aN _ Q;have aw:DataW.TrodAll g8 M.prog (B.a.at F) V.heap.size (λ_=>v) v [Z] [.bool l] [.lit (.bool l)] []:=trodAll_mk1 (shut_bool aC _);refine⟨k,[i,h],a1++a2,[],a1,a2,a5,?_,?_,?_,Q.frame _,λt=>by cases t⟩
 .rw[show(b.fn H (k++[i,h])).results=_ from eF _ G,aG];exact aw
 .rw[show(b.fn H (k++[i,h])).args=_ from eF _ G,aX];exact av
 rw[show(b.fn H (k++[i,h])).vars=_ from eF _ G];exact Below.trodVars R Q aK ab
end
namespace R1
section
variable {q:af S}
def lf(a:bA):m bA:=if fU a then cn a else[]
def NZ(b:bA)(d:Nat)(a:m bA):Prop:=∃e,iJ b (c b) 0=a++iJ b e d/\c b<=d+e/\c a<=d
def NE:bL q 96 (dc eL (λa=>bg (fU a)) λ_=>[]):=.a9 λa _=>JQ a
def Hr:bI:=λargs a=>match args,a with
 |[.n (.R (.c (.S b)))],[]=>f (ax (Hq b),[],[])
 |_,_=>n
def adC:bL q 250 Hr:=by intro args h b d a e g;unfold Hr at e;grind[Vj]
def Vg(o):Y q 195 [b2 o] [] (bS.B (lf o)) []:=by
 refine(bm.e6 (ι:=Unit) (aq:=λ_=>[]) (res:=λ_=>bS.B (lf o)) func195 rfl rfl rfl λN=>?_).toY;have p:a' q [(96,dc eL (λJ=>bg (fU J)) λ_=>[])]:=.cons NE .nil;refine df.seq (b4.bw (g.aQ ?_));refine b9 p a B (df.seq (b4.bw (g.aQ ?_)));cases O:fU o with
 |false=>
  refine a_ p [8] a pS (g.ret ⟨(),bZ.zero a ?_⟩);simp[lf,O]
 |true=>
  have y:=O;simp[fU,cm,bw]at y;refine a_ p [-8] a pS (df.seq (b4.bw (g.aQ ?_)));refine b9 p a B (df.seq (df.seq (b4.bw (g.aQ (g.cn 1 0 9 1 (bS.fn []) a a ?_)))));refine b9 (.cons adC .nil) a B (df.block ?_);refine df.rangeFunc (o':=fj [.Q [.S o]]) (b1.callee a) (Vk (ac:=m bA) o y.2 w (λ_=>.cells 9 [.c (.S o)]) (λb=>.cells 81 [.x 2 1 (c b) (bS.fn b)]) (λb=>.x 9 1 (c b) (bS.fn b)) (NZ o) [] ?_ (λo=>⟨by simp,by simp,by simp⟩) ?_) (λj=>⟨a,by simp⟩) λj=>⟨.normal,a,?_⟩
  .exact⟨c o,by simp,by omega,by simp⟩
  .rintro d b s i;have z:=rJ o d s;refine iP.intro (u:=n) a a a a (g.aQ ?_);refine aR a B ⟨a,a,g.aQ ?_⟩;refine aR a ?_ ?_
   .obtain⟨h,_,_,C⟩:=i;have K:=z.1;have t:=z.2.1;refine⟨a,a,?_,Int.natCast_nonneg _,Int.ofNat_le.2 (Nat.le_of_lt K),Int.ofNat_le.2 t⟩;show(c b+1)*16<=_;omega
   have F:NZ o (eu o d) (b++[(o.drop d).take (eu o d-d)]):=by
    obtain⟨h,k,I,C⟩:=i;obtain⟨e,rfl⟩:∃e,h=e+1:=⟨h-1,by omega⟩
    refine⟨e,?_,by omega,by grind⟩;rw[k];simp[iJ];grind
   refine⟨a,a,⟨_,F⟩,jW a ?_⟩;have r:mx o (f (d:Int)) (f (eu o d:Int))=(o.drop d).take (eu o d-d):=OU;have A:bs (c b+1) (cj (c b) (bS.fn b) λj=>[[M.S (mx o (f (d:Int)) (f (eu o d:Int)))]].getD j []) (bS.fn (b++[(o.drop d).take (eu o d-d)])):=by rw[r];exact c6.aW bS b _
   have x:c b+1=c (b++[(o.drop d).take (eu o d-d)]):=D;refine U.Y.2 ⟨by simp,U.Y.2 ⟨U.Y.2 ⟨⟨x,A⟩,B⟩,U.Y.2 ⟨⟨x,A⟩,U.Y.2 ⟨a,B⟩⟩⟩⟩
  obtain⟨b,h,k,I,C⟩:=j;have E:iJ o h (c o)=[]:=by cases h<;>simp[iJ]
  rw[E,hU]at k;have r:lf o=b:=by simp[lf,O,dx,cn,k]
  rw[r];show df q _ _ _ _ _;refine b4.bw (g.aQ ?_);refine aR a B (g.ret ⟨(),bZ.zero a ?_⟩);simp
def EW:bL q 195 (dc eL (λa=>bS.B (lf a)) λ_=>[]):=.a9 λa _=>Vg a
def adO:bL q 193 (ek (eS bS) eL (λa _=>b2 a.flatten) λa d=>[d=[],c a.flatten<=140737488355328]):=.bl λa d b=>by obtain⟨rfl,b⟩:=b;exact Wt a b
def xI:bI:=ek (eS bS) (eS bS) (λa b=>bg (a==b)) λ_ _=>[]
def adE:bL q 194 xI:=.bl λa b _=>Vx a b
def Vi(d)(t:c d.flatten<=140737488355328):Y q 152 [bS.B d] [] (iZ (iX d)) []:=by
 refine Y.I func152 rfl λh=>?_;have e:a' q [(193,ek (eS bS) eL (λd _=>b2 d.flatten) λd b=>[b=[],c d.flatten<=140737488355328]),(96,dc eL (λb=>bg (fU b)) λ_=>[]),(194,xI),(195,dc eL (λb=>bS.B (lf b)) λ_=>[])]:=.cons adO (.cons NE (.cons adE (.cons EW .nil)));have Cy:bS.ad (c d) (bS.fn d)=d:=bS.l d;cases x:fU d.flatten with
 |false=>
  refine a_ e [-8,9,16] a ?_ (g.aw a ?_)
  .simp only[U,Cy,x,bS.U,eq_self,ba,a9];grind
  simp[iX,x]
 |true=>
  cases i:(cn d.flatten==d)with
  |false=>
   refine a_ e [8,-9,-14,16] a Po (g.aw a ?_);simp[iX,i]
  |true=>
   refine a_ e [8,-9,14,-16] a Po (g.aw a ?_);simp[iX,x,i,Cy]
def Kg{a:m (Int×Int)}(b:e<c a):a.getD e (0,0)∈a:=N
def jd(b:m (Int×Int)):dH:=b.foldl (λd a=>d.put a.1 a.2) .nil
theorem aew(b:m (Int×Int))(a:Int×Int):jd (b++[a])=(jd b).put a.1 a.2:=by unfold jd;grind
def zS{d:m (Int×Int)}(a:u<c d):jd (d.take (u+1))=(jd (d.take u)).put (d.getD u (0,0)).1 (d.getD u (0,0)).2:=by grind[List.take_add_one,aew]
abbrev qF(a:m (Int×Int)):y:=ax (.B v 1 1 λb=>([[.B v 2 (c a) (a3.fn a)]]:m (m M)).getD b [])
abbrev EI(a:Int×Int):ar:=.cells 255 [.c (.int .i64 a.1),.c (.int .i64 a.2)]
def Kd(a:m (Int×Int)):Nat->bM
 |0=>[(3,ax .bp),(8,qF a),(9,R 1),(10,R 0),(14,a3.B a),(15,R (c a)),(16,R 0)]
 |b+1=>[(3,.n (.R (.aP 1))),(8,qF a),(9,R 1),(10,R 0),(14,a3.B a),(15,R (c a)),(16,R (b+1:Nat))]
def acS(a:m (Int×Int)):Nat->m ar
 |0=>[]
 |b+1=>[EI (a.getD 0 (0,0)),.K (eD mM (jd (a.take (b+1))))]
def Zv(a:m (Int×Int)):Nat->bM
 |0=>[(3,ax .bp),(8,qF a),(9,R 1),(10,R 0)]
 |b+1=>match a with
  |[]=>[(3,ax .bp),(8,qF a),(9,R 1),(10,R (b+1:Nat))]
  |_::_=>[(3,.n (.R (.aP 1))),(8,qF a),(9,R 1),(10,R (b+1:Nat))]
def acT(b:m (Int×Int)):Nat->m ar
 |0=>[]
 |_+1=>match b with
  |[]=>[]
  |a::d=>[EI a,.K (eD mM (jd (a::d)))]
def JR(d:m (Int×Int))(K:c d<=4000000)(C:∀b∈d,a8 .i64 b.1/\a8 .i64 b.2):Y q 214 [qF d] [] (ax (eT (jd d))) []:=by
 refine Y.I func214 rfl λI=>?_;refine aR a B (g.hl 0 (λb=>b<=1) (Zv d) (acT d) (λb=>1-b) 0 a D a B a w ?_);intro b k;rcases b with _|b
 .refine a4 [11] a D (g.hl 0 (λu=>u<=c d) (Kd d) (acS d) (λu=>c d-u) 0 a D a B a w ?_);intro u J;rcases u with _|u
  .by_cases j:0<c d
   .have k:=C _ (Kg j);have h:=zS j;have i:a' q [(274,la [ax .bp,pc (d.getD 0 (0,0)).1 (d.getD 0 (0,0)).2] [] (.n (.R (.aP 0))) [.K (eD mM (.ax .nil (d.getD 0 (0,0)).1 (d.getD 0 (0,0)).2 .nil))])]:=.cons (mb (yl _ _ k.1 k.2 .nil)) .nil;refine bd i [17] a Rh (g.fu 2 1 w a D a a a ?_ a j N);exact bF
   obtain rfl:d=[]:=jK w;refine bO [-17] a D (g.fG a a ?_);refine cA a lD (g.fu 0 1 w a ?_ a a a B a w b');simp
  obtain⟨e,p,s,r,h⟩:∃x y z A,jd (d.take (u+1))=.ax x y z A:=by rw[zS w];exact zm _ _ _
  show g q _ _ _ _ (Kd d (u+1)) [EI (d.getD 0 (0,0)),.K (eD mM (jd (d.take (u+1))))];by_cases j:u+1<c d
  .have k:=C _ (Kg j);have E:=zS j;rw[h]at E⊢;have i:a' q [(274,la [.n (.R (.aP 0)),pc (d.getD (u+1) (0,0)).1 (d.getD (u+1) (0,0)).2] [.K (eD mM (.ax e p s r))] (.n (.R (.aP 0))) [.K (eD mM ((dH.ax e p s r).put (d.getD (u+1) (0,0)).1 (d.getD (u+1) (0,0)).2))])]:=.cons (mb (yl _ _ k.1 k.2 (.ax e p s r))) .nil;refine bd i [17] a Rh (g.fu 2 (u+2) w a D a a a ?_ a j N);simp only[U.Y,U,ba,a9];rw[E]
  have o:u+1=c d:=w;rw[o,c8]at h
  match d,o,h with
  |b::t,o,h=>
   rw[o,c8,h];refine bO [-17] a D (g.fG a a ?_);refine cA a lD (g.fu 2 1 w a D a a a ?_ a w b');exact bF
 cases d with
 |nil=>
  refine bO [-11] a bv (g.fG a a ?_);exact cA a B (g.aw a nX)
 |cons F t=>
  refine bO [-11] a bv (g.fG a a ?_);refine cA a B (g.gk 2 1 a a ?_);obtain⟨e,p,s,r,h⟩:∃x y z A,jd (F::t)=.ax x y z A:=by have:=zS (d:=F::t) (u:=c t) D;rw[Gy D]at this;rw[this];exact zm _ _ _
  rw[h];exact g.aw a
end
section
open Go.Proofs Go.Conc Go.Conc.Lib
open Go.ConcN (WgLive PayAt Has RW AtR0)
open Go.ConcR (KK WgAt stA smA rd wr mk Payload DC0)
noncomputable def Tw:Code:=nw (g' (g' (g' rC)))
noncomputable def HV:Code:=nw Tw
noncomputable def BG:Code:=g' (g' (g' rC))
def Tt:BG=.seq (.seq HV (.block 0 (.loop hJ))) lP:=bG
section
variable {dM:m ar}{cH:a6}{J:bM}{k:m ar}{x:Act}{b:a6}{br:ag->a6->Prop}
def dW.goes{bo}{d:ag}:∀(o:Nat)(a:ag)b,dW dM cH J k x b->WgLive 244 bo b.a->Goes S l (fO 244 bo) DC0 (λa _=>a=d) o a b.a ->
  (∀g,dW dM cH J k x g->cg (af.ay S) br d g)->cg (af.ay S) br a b
 |0,a,b,r,_,h,p=>by obtain rfl:a=d:=h b.a (.refl _);grind
 |o+1,a,b,r,u,h,p=>by
  rcases h with h|⟨w,h⟩
  .obtain rfl:a=d:=h b.a (.refl _);grind
  refine .next w λg q=>?_;have j:=r.rely q.1;obtain⟨A,B⟩:=q.2;have s:WgLive 244 bo g.a:=bF;have e:=h g.a (λ_=>s);cases m:ap S l a g.a with
  |go i z t=>
   rw[m,goes_go]at e;obtain⟨⟨rfl,rfl⟩,y⟩:=e;exact⟨i,g,#[],m,.aR j.a7,dW.goes o i g j s y p⟩
  |_=>rw[m]at e;exact e.elim
def SW{k}{b}(g:∀e∈k,e=.N){bf}{a}(d:jh k b bf a):bf=[]:=by
 cases bf with
 |nil=>rfl
 |cons h bf=>
  cases a with
  |nil=>exact d.elim
  |cons i a=>
   have:=g _ (ca d.1.1);cases this
end
section
variable {h:Int}{Z:m cb}{bt:m Int}{M:Nat}{ah:m X}
variable (h Z bt M)in
def zg:bM:=[(2,az.B bt),(3,aI 0 0),(4,aI 1 0),(8,aI 3 0),(9,aI 4 0)]
variable (h Z bt M ah)in
def pF:m ar:=[.cells 3 [.c (.int .i64 h)],.cells 26 [.c (.B v 2 (c Z) (a2.fn Z))],.K (ct 246 2 (.row M (c bt)) (c bt) ah),.cells 234 [.c (.val (.slice (f ⟨M,0,n⟩) (c bt) (c bt)))],.cells 244 [.c (.int .u64 0),.c (.int .u32 0)]]
variable (h Z bt)in
def Fc(a b:Nat):X:=if b=0 then .string ⟨((dh h Z (bt.getD a 0)).getD []).toArray⟩else .bool (dh h Z (bt.getD a 0)).isSome
variable (h Z bt)in
def np:m X:=bt.flatMap λa=>[.string ⟨((dh h Z a).getD []).toArray⟩,.bool (dh h Z a).isSome]
variable (h Z bt M)in
def r8:m ar:=[.N,.N,.K (ct 246 2 (.row M (c bt)) (c bt) (np h Z bt)),.N,.N]
def aa5{b:af S}:b4 b 45 HV (ut ((18,az.B bt)::(19,R (c bt))::(20,R 0)::zg bt) (pF h Z bt M ah)) (zg bt) (pF h Z bt M ah):=by refine g.aQ ?_;refine aR a B ⟨a,eO a ?_,a⟩;simp
theorem J9:c (np h Z bt)=c bt*2:=by
 unfold np;induction bt with
 |nil=>rfl
 |cons b d a=>grind
def Da:∀{bt:m Int}{E e:Nat},E<c bt->e<2->(np h Z bt)[2*E+e]?=f (Fc h Z bt E e)
 |[],E,e,g,_=>by grind
 |b::d,0,e,_,a=>by
  match e,a with
  |0,_=>rfl
  |1,_=>rfl
 |b::d,E+1,e,g,a=>by have:=Da (bt:=d) (E:=E) (e:=e) N a;unfold np at this⊢;rw[sC,ht N];rw[show 2*(E+1)+e - [Value.string ⟨((dh h Z b).getD []).toArray⟩,Value.bool (dh h Z b).isSome].length=2*E+e by grind];exact bF
def _root_.Go.AM.b1.seen{e a:Nat}{g}{k}{b}{J}{x}(d:b1 e k b J x)(j:bx k b (x.tmps.getD a I) g):b1 e k b ((a,g)::J) x:=by
 refine⟨d.size,d.defers,λh=>?_⟩;simp only[look];cases i:ad a h with
 |false=>exact d.aK h
 |true=>grind[Nat.eq_of_beq_eq_true]
abbrev vX(a b:Nat):bM:=[(8,ax (.Q [.val (.slice (f ⟨b,0,n⟩) a a)]))]
variable (h Z bt M)in
abbrev LU:bM:=(8,ax (.Q [.val (.slice (f ⟨M,0,n⟩) (c bt) (c bt))]))::(4,ax (.Q [.B v 2 (c Z) (a2.fn Z)]))::(3,ax (.Q [.int .i64 h]))::(18,az.B bt)::(19,R (c bt))::(20,R 0)::[(9,aI 4 0)]
def Zs(bo:bL (af.c' S) 191 (nm h)){aP:fF}(cg:c bt<=4000000)(aq:df (af.ay S) 45 og aP (vX (c bt) M) (r8 h Z bt M)):df (af.ay S) 45 BG aP (zg bt) (pF h Z bt M ah):=by
 intro Y b2 cc bq bN av ai cL aK X b_;have i:dW (pF h Z bt M ah) Y (zg bt) (pF h Z bt M ah) b2 Y:=⟨cc,bq,.refl _ _⟩;refine i.ctl a (λbP=>zA Tt) λb i=>?_
 refine i.ctl a (λbP=>pE) λb i=>?_;refine i.code aK aa5 λa5 b i=>?_;obtain⟨bH,w1,a',a0,aa⟩:=b1.freeze 3 0 (W:=3) (ai:=[.c (.int .i64 h)]) (gU:=[.int .i64 h]) rfl rfl rfl i.bT i.a7;refine .aO (.of i.a7 a0 w1 (aa.too4 i.a7)) ?_;obtain⟨bI,w2,ba,Q,ab⟩:=b1.freeze 4 1 (W:=26) (ai:=[.c (.B v 2 (c Z) (a2.fn Z))]) (gU:=[.B v 2 (c Z) (a2.fn Z)]) rfl rfl rfl a' a0;refine .aO (.of a0 Q w2 (ab.too4 a0)) ?_;obtain⟨cq,w3,f3,T,ae⟩:=b1.freeze 8 3 (W:=234) (ai:=[.c (.val (.slice (f ⟨M,0,n⟩) (c bt) (c bt)))]) (gU:=[.val (.slice (f ⟨M,0,n⟩) (c bt) (c bt))]) rfl rfl rfl ba Q;refine .aO (.of Q T w3 (ae.too4 Q)) ?_;have i:dW (pF h Z bt M ah) Y (LU h Z bt M)
   [.N,.N,.K (ct 246 2 (.row M (c bt)) (c bt) ah),.N,.cells 244 [.c (.int .u64 0),.c (.int .u32 0)]] a5 cq:=
  ⟨f3.le (eO a D),T,i.a_.trans ((aa.too4 i.a7).trans ((ab.too4 a0).trans (ae.too4 Q)))⟩
 clear aa ab ae a' ba f3 a0 Q T;refine i.ctl a (λbP=>zw) λb i=>?_;refine i.ctl a (λbP=>MT) λb i=>?_;have aO:=i.a7.len;simp[fs,gQ]at aO;obtain⟨y,aY⟩:∃L,b.t[2]?=f L:=⟨_,bJ w⟩
 obtain⟨ax,a3⟩:∃L,b.t[4]?=f L:=⟨_,bJ w⟩
 obtain⟨cP,bf,ak,bm,cB⟩:=i.a7.box 2 _ y rfl aY;obtain⟨cu,cI,aN,cb⟩:=ct.lookup bf;obtain⟨aB,_,cG,_,_,_⟩:=bf;have P:=(bm M).2 N;have au:=ak M _ aN;obtain⟨m,z,b9,cx,bB,cC⟩:=i.a7.box 4 _ ax rfl a3;have aR:z=[.int .u64 0,.int .u32 0]:=by
  match z,bB with
  |[],aC=>exact aC.elim
  |[_],aC=>exact aC.2.elim
  |_::_::_::_,aC=>exact aC.2.2.elim
  |[cY,aZ],aC=>
   have r0:=aC.1;have t:=aC.2.1;cases r0;cases t;rfl
 subst aR;have bz:M≠m:=N;have bA:a5.tmps.getD 9 I=.pointer (f ⟨m,0,n⟩):=by obtain⟨_,L,eb,aT,aV,cW⟩:=i.bT.aK 9;grind
 obtain⟨bb,cr⟩:=i.a7.gQ (d:=2) rfl aY (.inr ⟨_,rfl⟩);have aJ:(b.t.set 2 ⟨y.v,[]⟩)[4]?=f ax:=N;obtain⟨bd,t2⟩:=bb.gQ (d:=4) (bT:=.cells 244 [.c (.int .u64 0),.c (.int .u32 0)]) rfl aJ (.inl ⟨_,_,rfl⟩);generalize cF:({b with t:=(b.t.set 2 ⟨y.v,[]⟩).set 4 ⟨ax.v,[]⟩}:a6)=j1 at bd t2;have cz:j1.t=(b.t.set 2 ⟨y.v,[]⟩).set 4 ⟨ax.v,[]⟩:=N;have aD:j1.D=b.D:=N;have C:j1.a=b.a:=N;have aE:j1.own=b.own:=N;have az:=bd;have oP:=(cr.too4 i.a7).trans (t2.too4 bb);have aS:j1.t[2]?=f ⟨y.v,[]⟩:=N;have bO:∀L∈j1.t,∀E∈L.al,∃d,d≠2/\d≠4/\b.t[d]?=f L:=by grind[List.mem_iff_getElem?]
 have cJ:=i.a7.lt y (ca aY) M P;have cK:=i.a7.lt ax (ca a3) m N;have bZ:nZ M j1:=⟨by rw[aE];exactλV=>(i.a7.own M V).2 y (ca aY) P,λL g k=>by obtain⟨d,bF,bG,U⟩:=bO L g M k;exact bF (i.a7.a3 d 2 L y U aY M k P),λq=>by rw[aD];grind,by grind⟩
 have H:nZ m j1:=⟨by rw[aE];exactλV=>(i.a7.own m V).2 ax (ca a3) N,λL g k=>by obtain⟨d,bF,bG,U⟩:=bO L g m k;exact bG (i.a7.a3 d 4 L ax U a3 m k N),λq=>by rw[aD];grind,by grind⟩
 have cQ:b1 45 eZ j1 (im h Z bt M m 0) a5:=by have p:=i.bT.mono oP i.a7.len;have cn:b1 45 eZ j1 ((9,cM (.pointer (f ⟨m,0,n⟩)))::LU h Z bt M) a5:=p.seen (by rw[bA];exact Rd.val a);exact cn.le (eO a D)
 have cO:(ah++cu).toArray.size=2*c bt:=N;have aL:∀E,(b.own E∨∃L∈b.t,E∈L.al)->E<b.a.heap.size:=λE k=>k.elim (λp=>(i.a7.own E p).1) λ⟨L,g,p⟩=>i.a7.lt L g E p;refine .dk (ac:=λag aF=>∃r A,dW (pF h Z bt M ah) Y (vX (c bt) M) (r8 h Z bt M) r aF/\WgLive 244 m aF.a/\Goes S l (fO 244 m) DC0 (λcA _=>cA=G (bN.ab (r.put (f 28) (.tuple #[])) (.inRegion oH []::.code og::av)) ai) A ag aF.a)
  (k5.gi (j:=c bt) (ty:=244) (val:=Fc h Z bt) (F:=2*c bt) (cH:=j1) 2 w m M w bz (.of i.a7 az C oP) a ⟨y,ca aY,P⟩ ⟨ax,ca a3,by grind⟩ aL ?_ cx ⟨_,au,cO⟩ ?_) ?_
 .rintro E (rfl|rfl)
  .exact⟨bZ.own,bZ.t,bZ.D⟩
  exact⟨H.own,H.t,H.D⟩
 .intro o bh bg bk;subst bh bg;refine⟨Gv h Z bt o eZ j1 bN av ai,wT h Z bt o eZ j1 bN av ai,λcA b k=>S1 H X k,?_,?_⟩
  .refine acN bo bk H X aK b' cg (λe cd=>rfl) (λe cd=>rfl) (c bt) (bC _) a5 j1 ⟨by grind,az,.refl _ _⟩ ⟨_,_,by rw[C];exact cx⟩
  .rintro ag aF ⟨r,⟨u,an⟩,A,R⟩ bw ao O cf aj;obtain⟨cR,cS,cT⟩:=aj o.af (.inl rfl);obtain⟨a7,ar,cj⟩:=ao;have bn:a7=(np h Z bt).toArray:=by
    apply Array.ext_getElem?;intro q;have a_:(np h Z bt).toArray[q]?=(np h Z bt)[q]?:=D;rw[a_];rcases dY q (2*c bt)with V|V
    .have aT:=O (q / 2) w (q % 2) w;have aV:=Da (h:=h) (Z:=Z) (bt:=bt) (E:=q / 2) (e:=q % 2) w w;rw[show 2*(q / 2)+q % 2=q by omega]at aT aV;rw[aV];simpa[aH,ar]using aT
    grind[J9]
   subst bn;have br:=u.a7.len;obtain⟨cv,aw,cl,cV,cm⟩:=u.a_.box 2 .N ⟨y.v,[]⟩ rfl aS;have ck:aw.v=.nilFunc:=by cases cl;exact(show aw.v=y.v from cm).trans aB
   have cw:∀(d:Nat) bT,eZ[d]?=f bT->bT=.N:=by
    intro d bT aM
    match d,aM with
    |0,aM|1,aM|2,aM|3,aM|4,aM=>cases aM;rfl
   have cy:∀d,(aF.t.set 2 ⟨.nilFunc,[o.af]⟩)[d]?=if d=2 then f ⟨.nilFunc,[o.af]⟩else aF.t[d]?:=N;have bQ:∀L∈aF.t.set 2 ⟨.nilFunc,[o.af]⟩,L=⟨.nilFunc,[o.af]⟩∨L∈aF.t:=λL g=>by grind
   have bp:bc (r8 h Z bt o.af) {aF with t:=aF.t.set 2 ⟨.nilFunc,[o.af]⟩}:=by
    refine⟨u.a7.mem,by simp[br,r8],?_,?_,?_,λE k=>⟨(u.a7.own E k).1,λL g a4=>?_⟩⟩
    .intro d bT L aM g;rw[cy]at g;by_cases s:d=2
     .subst s;rw[bl a]at g;cases g;cases aM;refine⟨λx=>if x=o.af then f (.cells (np h Z bt++[]).toArray 246 (0,0))else n,⟨a,?_,J9,bC _,by omega,[],by grind,a⟩,λx cU K=>?_,λx=>?_,λx K q=>?_⟩
      .intro E k;simp only[np,ru]at k;obtain⟨_,_,k⟩:=k;simp only[fh,sE,or_false]at k;rcases k with rfl|rfl<;>rfl
      .by_cases s:x=o.af
       .subst s;simp only[dx]at K;cases K;exact bv
       grind
      .by_cases s:x=o.af<;>simp[s]
      grind
     .match d,aM,s with
      |0,aM,_|1,aM,_|3,aM,_|4,aM,_=>cases aM;trivial
      |2,_,s=>grind
    .intro d bE L bU g J E k bD;rw[cy]at g J;by_cases s:d=2
     .grind
     rw[bj s]at g;by_cases b3:bE=2
     .grind
     rw[bj b3]at J;exact u.a7.a3 d bE L bU g J E k bD
    .intro L g E k;rcases bQ L g with rfl|g
     .grind
     exact u.a7.lt L g E k
    rcases bQ L g with rfl|g
    .grind
    exact(u.a7.own E k).2 L g a4
   have aQ:dg [.N,.N,.K (ct 246 2 (.row o.af (c bt)) (c bt) ah),.N,.cells 244 [.c (.int .u64 0),.c (.int .u32 0)]] b (r8 h Z bt o.af) {aF with t:=aF.t.set 2 ⟨.nilFunc,[o.af]⟩}:=by
    have p:=u.a_;refine⟨by have:=p.size;grind,λE k=>by have:=p.a4 E N;grind,λE q c0 k=>p.mem E q c0 N,λE k cE q=>?_,λL g E k=>?_,?_,by rw[p.os,C],by rw[p.tape,C],by rw[p.output,C],by rw[p.own,aE]⟩
    .rw[p.bz E N (λL g a4=>by
      obtain⟨d,_,_,U⟩:=bO L g E a4
      grind) q,aD]
    .rcases bQ L g with rfl|g
     .grind
     rcases p.bR L g E k with t|⟨bV,t,aX⟩
     .grind
     obtain⟨d,_,_,U⟩:=bO bV t E aX;grind
    intro d bT L aM g;obtain⟨a1,bW,t,aX,cp⟩:=oP.box d bT L aM g;obtain⟨bR,bX,aZ,cZ,nT⟩:=p.box d a1 bW t aX;have a8:=cw d a1 t;have a9:=cw d bR aZ;subst a8 a9;by_cases s:d=2
    .subst s;cases aM;rw[aY]at g;cases g;exact⟨_,⟨.nilFunc,[o.af]⟩,a,by grind,aB.symm⟩
    refine⟨.N,bX,?_,by grind,cp.trans nT⟩
    match d,aZ,s with
    |0,_,_|1,_,_|3,_,_|4,_,_=>rfl
    |2,_,s=>grind
   refine⟨{aF with t:=aF.t.set 2 ⟨.nilFunc,[o.af]⟩},⟨r,A,⟨⟨u.bT.size,⟨[],?_⟩,λcX=>?_⟩,bp,i.a_.trans aQ⟩,an,R⟩,rfl,bw,λcN bM cD=>⟨bM.own,λE k L g a4=>?_,bM.D,bM.lt⟩⟩
   .obtain⟨nL,bu⟩:=u.bT.defers;rw[SW (λbT aM=>by grind) bu];trivial
   .have b5:b1 45 eZ aF (vX (c bt) o.af) r:=u.bT.le (eO a D);exact bx.eY (b:=aF) (aF:={aF with t:=aF.t.set 2 ⟨.nilFunc,[o.af]⟩}) rfl (b5.aK cX) (vz rfl)
   rcases bQ L g with rfl|g
   .grind
   exact bM.t E k L g a4
 rintro ag aF ⟨r,A,b8,bs,R⟩;refine dW.goes A ag aF b8 bs R λbH aG=>?_;have b7:dW (pF h Z bt M ah) Y ((28,.any)::vX (c bt) M) (r8 h Z bt M) (r.put (f 28) (.tuple #[])) bH:=⟨aG.bT.put b' B,aG.a7,aG.a_⟩
 refine b7.ctl a (λbP=>wd) λbI aI=>?_;refine aq bI _ (aI.bT.le (eO a D)) aI.a7 bN av ai cL aK X λs bS bY aF b0 p b4 b6 bK=>b_ s bS bY aF b0 p b4 b6 (aI.a_.trans bK)
end
end
abbrev EX(a:m bA)(b:Bool):y:=.T [.R (.c (.B v 1 (c a) (bS.fn a))),.R (.c (.bool b))]
def g9(e:Int)(b:m cb)(a:m Int):Option (m bA):=if a.all (λd=>(dh e b d).isSome)then f (a.map λd=>(dh e b d).getD [])else n
noncomputable def Tz:Code:=nw rC
noncomputable def TA:Code:=nw (g' rC)
noncomputable def TB:Code:=nw (g' (g' rC))
def Tv:f151.body=f (.seq Tz (.seq TA (.seq TB BG))):=bG
def s3(e:Int)(b:m cb)(a:m Int)(d:Nat):m AM.M:=[.S ((dh e b (a.getD d 0)).getD []),.bool (dh e b (a.getD d 0)).isSome]
def mO(d:Int)(b:m cb)(a:m Int):m bA:=a.map λe=>(dh d b e).getD []
theorem aa_{i b}(a:hP i=f b):c b<=8:=by
 unfold hP at a;split at a
 .rename_i d;cases a;simp only[cm,cC,bw]at d;omega
 grind
theorem TH{d}{a}(b:iV h d=f a):c a<=8:=by unfold iV at b;grind[aa_]
theorem J1{Z}{j}:c ((dh h Z j).getD [])<=8:=by
 cases b:dh h Z j with
 |none=>simp
 |some d=>
  obtain⟨e,_,a⟩:=List.exists_of_findSome?_eq_some b;unfold fZ at a;grind[TH]
theorem Us{Z}{b}(g:e<c b){s}{m}(d:(s3 h Z b e)[u]?=f s)(k:(np h Z b)[e*2+u]?=f m):Rd bB m s:=by
 have i:u<2:=(cP.1 d).1;have:=Da (h:=h) (Z:=Z) g i;rw[xf,this]at k;cases k
 match u,i with
 |0,_=>
  cases d;have:=J1 (h:=h) (Z:=Z) (j:=b.getD e 0);exact .S a w
 |1,_=>cases d;exact .bool
def _root_.Go.AM.df.le{P:aD}{d:af P}{F}{aP}{J dG}{k}{s}(h:df d F s aP dG k)(b:iM J dG):df d F s aP J k:=λi e g a=>h i e (g.le b) a
def VA(x:bL (af.c' S) 191 (nm h))(Z)(b)(A:c b<=4000000):
  Y (af.ay S) 151 [R h,a2.B Z,az.B b] [] (EX ((g9 h Z b).getD []) (g9 h Z b).isSome) []:=by
 refine bm.toY (bm.e6 (ι:=Unit) func151 rfl Tv rfl λJ=>?_);show df _ 45 _ _ _ _;refine df.seq (b4.bw (g.aQ ?_));refine aR a B ?_;show df _ 45 _ _ _ _;refine df.seq (b4.bw (g.aQ ?_));refine aR a B (g.jx (W:=246) (j:=c b) bb a a a a a a An w a a λM ah=>?_);refine aR a B ?_;show df _ 45 _ _ _ _;refine df.seq (b4.bw (g.aQ ?_));refine aR a B ?_;show df _ 45 _ _ _ _;have q:df (af.ay S) 45 og (λt p e=>∃_:Unit,bZ f151 0 (EX ((g9 h Z b).getD []) (g9 h Z b).isSome) [] t p e) (vX (c b) M) (r8 h Z b M):=by
  refine b4.bw (b4.mono (aP:=bZ f151 0 (EX ((g9 h Z b).getD []) (g9 h Z b).isSome) []) (g.aQ ?_) λ_ _ _ z=>⟨(),z⟩);refine aR a (show _<=_ by omega) (g.iD 29 2 (bQ:=.row M (c b)) (j:=c b) (h:=2) (s3 h Z b) a a (λd i=>⟨a,λC m E Q K N=>?_⟩) ?_)
  .grind [Us]
  refine g.bG 12 9 1 a a ?_;refine g.aH 6 (λd=>d<=c b/\∀m,m<d->(dh h Z (b.getD m 0)).isSome=l) (λd:Nat=>[(29,ax (.B v 2 (c b) (s3 h Z b))),(30,R (c b)),(31,R d),(12,.n (.R (.x 5 1 (c (mO h Z (b.take d))) (bS.fn (mO h Z (b.take d))))))]) (λd=>[.N,.N,.N,.N,.N,.x 9 1 (c (mO h Z (b.take d))) (bS.fn (mO h Z (b.take d)))]) (λd=>c b-d) 0 a ?_ a ?_ a ⟨by omega,by omega⟩ ?_
  .simp[bs,mO]
  .simp[bs,mO]
  rintro d ⟨i,F⟩;by_cases o:d<c b
  .cases r:(dh h Z (b.getD d 0)).isSome with
   |true=>
    have O:mO h Z (b.take (d+1))=mO h Z (b.take d)++[(dh h Z (b.getD d 0)).getD []]:=by unfold mO;grind[List.take_add_one]
    have I:c (mO h Z (b.take d))<=4000000:=by simp[mO];omega
    refine bO [32,-37] a ?_ (g.az (d+1) a ?_ ?_ ?_ ?_)
    .simp[-al,o,s3,r,a8];have:tc.bytes=16:=rfl;grind
    .exact Qc
    .exact Qc
    .grind
    omega
   |false=>
    refine bO [32,37] a ?_ (g.aS (bZ.zero a ?_))
    .simp[-al,o,s3,r]
    have u:g9 h Z b=n:=OE;simp[u]
  have y:d=c b:=w;subst y;refine bO [-32] a D (g.aA ?_);refine cA a B (g.aw a ?_);have s:g9 h Z b=f (mO h Z b):=by
   unfold g9;rw[bl]
   .rfl
   grind[List.mem_iff_getElem]
  simp[s]
 exact df.le (k:=pF h Z b M ah) (Zs (ah:=ah) x A q) (eO a D)
end R1
end Go.AM
namespace Go.AM.R1
def rV(a)(b):iG (a::b)=if a=47 then 0 else if iG b=-1 then -1 else iG b+1:=by unfold iG;grind[Lib.indexByte.eq_def]
def Du:iG []=-1:=cX
def abf(b):j0 b=f_ b:=by
 by_cases m:c b<=3
 .match b,m with
  |[],_=>exact cX
  |[e],_=>
   by_cases a:e=47
   .exact hK
   simp[j0,f_,jU,jS,km,rV,Du,a,lr,ds]
  |[e,g],_=>
   by_cases a:e=47
   .exact hK
   by_cases d:g=47
   .subst d;simp[j0,f_,jU,jS,my,km,rV,a]
   simp[j0,f_,jU,jS,km,rV,Du,a,d]
  |[e,g,i],_=>
   by_cases a:e=47
   .subst a;simp[j0,f_,jU,jS,my,km,rV,lr,ds]
   by_cases d:g=47
   .subst d;simp[j0,f_,jU,jS,my,km,rV,a,lr,ds]
   have j:¬(g.toNat:Int)=47:=by intro k;apply d;apply uE.1;grind
   by_cases h:i=47
   .subst h;simp[j0,f_,jU,jS,my,km,rV,a,d,lr,ds]
   simp[j0,f_,jU,jS,km,rV,Du,a,d,h,j,lr,ds]
  |_::_::_::_::_,k=>grind
 have o:f_ b=v:=by unfold f_;grind
 grind[LP]
end Go.AM.R1
namespace Go.AM
theorem xz(a):aQ a []=v:=Gh
def Bn(i)(d):aQ [] (i::d)=l:=Gh
theorem uY(a i)(b d):aQ (a::b) (i::d)=(decide (a<i)||a==i&&aQ b d):=Gh
theorem xy:∀a:bA,aQ a a=v
 |[]=>xz []
 |a::b=>by rw[uY,xy b];simp
def Ha:∀a b:bA,aQ a b=l∨a=b∨aQ b a=l
 |[],[]=>.inr (.inl rfl)
 |[],b::e=>.inl (Bn b e)
 |a::d,[]=>.inr (.inr (Bn a d))
 |a::d,b::e=>by
  rw[uY,uY];rcases Ha d e with g|g|g
  .grind
  .grind
  grind
theorem Bo:∀{g h b:bA},aQ g h=l->aQ h b=l->aQ g b=l
 |g,h,[],_,e=>by grind[xz]
 |g,[],b::i,d,_=>by grind[xz]
 |[],h::j,b::i,_,_=>Bn b i
 |g::k,h::j,b::i,d,e=>by
  rw[uY,jL,cm,bw,gR]at d e⊢;rcases d with d|⟨rfl,d⟩
  .grind
  rcases e with e|⟨rfl,e⟩
  .grind
  exact .inr ⟨a,Bo d e⟩
theorem G'{a i}(b:aQ a i=l):aQ i a=v:=by grind[Bo,xy]
def Tk{a i}:(!(aQ i a||i==a))=aQ a i:=by
 rcases Ha a i with b|b|b
 .have s:(i==a)=v:=by simp[eW,ea];grind[xy]
  grind[G']
 .grind [xy]
 grind[G']
namespace R1
def Mx{o}{e}(g:∀a,0<a->a<=e->aQ (cu o (a-1)) (cu o a)=l):∀b,b<e->aQ (cu o b) (cu o e)=l:=by
 intro b m;induction e with
 |zero=>omega
 |succ e i=>
  have d:=g (e+1) w (bC _);simp[p5]at d;by_cases k:b=e
  .grind
  exact Bo (i (λa h j=>g a h w) w) d
def LQ{b}(d:f_ b=l):(∃a,b=[a])∨∃a e,b=[a,47,e]:=by
 unfold f_ at d;split at d
 .rename_i g
  match b,g with
  |[a],_=>grind
 split at d
 .rename_i g
  match b,g with
  |[a,e,h],_=>
   right;simp[lr,ds]at d;have i:e=47:=by apply uE.1;grind
   grind
 grind
theorem TI{b d}(g:f_ b=l)(h:f_ d=l)(k:aQ b d=l):ld b d=under d b:=by
 rcases LQ g with⟨a,rfl⟩|⟨a,i,rfl⟩<;>rcases LQ h with⟨s,rfl⟩|⟨s,j,rfl⟩
 .exact cX
 .by_cases e:a=s
  .subst e;simp[ld,under,ow,ds]
  have:¬(a.toNat:Int)=s.toNat:=λm=>e (uE.1 w);have p:((a.toNat:Int)==(s.toNat:Int))=v:=N;have o:(s==a)=v:=N;simp[ld,under,ow,ds];grind
 .have:¬(a.toNat:Int)=s.toNat:=by grind[UInt8.toNat_inj,uY,xz]
  simp[ld,under,ow,ds,this]
 exact cX
theorem M_{o}{e}(b:∀a,a<e->jc o a=l):mX o e=jc o e:=by
 unfold mX jc;rw[abf,Tk];cases q:f_ (cu o e)with
 |false=>simp
 |true=>
  cases k:fU (lB o e)with
  |false=>simp
  |true=>
   cases r:(e==0||aQ (cu o (e-1)) (cu o e))with
   |false=>simp
   |true=>
    simp[fX];have p:∀a,a<e->aQ (cu o a) (cu o e)=l:=by
     apply Mx;intro g i d;by_cases m:g=e
     .grind
     have:=b g w;simp[jc,cm,jL,gR]at this;grind
    rw[o6,gf,gf];have s:∀a,a<e->ld (cu o a) (cu o e)=under (cu o e) (cu o a):=by
     intro a h;have j:f_ (cu o a)=l:=by have:=b a h;simp[jc,cm]at this;exact this.1.1.1
     grind[TI]
    grind
def sf(o):qX o=dO o:=by
 unfold qX dO;congr 1;rw[o6,gf,gf];constructor
 .intro b e;induction e using Nat.strongRecOn with
  |_ e a=>grind[M_]
 grind[M_]
end R1
end Go.AM
namespace Go.AM
variable {j A:Nat}{h:Int}{d i e u:Nat}{W:an}{H:X->(Nat->Option Obj)->Prop}{L:Array Bool}{bB:Mem}{F:Nat}{P:aD}{br:ag->a6->Prop}{s:Code}{C:ag}{r:ao}{b:a6}{o:an}{aa:X}{p:au}{α:Type}{η:ae->y}{ι:Type}{k:m ar}{J:bM}{all:m ao}{dt:Array an}{cap:m M}{cS:m y}{lc:Nat->Option Obj}{ai:m aG}{bf:m (Nat×Bool)}{V:Nat->m M}{cQ:ae}{gs:Array ag}{aY:m Nat}{cp:m Prop}{off:Nat}{op:BinOp}{aV:Array ao}{Z:m Prop}{bq:m ao}{aF:a6}{ty:an}{val:Nat->Nat->X}{z:m X}{bi:au}{ah:Array ae}{aq di:m ar}{res:ι->y}{aX:ι->m ar}
variable {CT:m (Nat×bI)}{av:m iv}{be:fF}{ac:m (Nat×cq)}{a5:cq}
namespace R1
section
variable {q:af S}
def fS(d:Int)(a:m cb)(b:m_):Option cN:=match g9 d a b.2 with
 |none=>n
 |some e=>match iX e with
  |none=>n
  |some g=>f (b.1,g)
def fu(b:Int)(a:m cb)(d:m m_):m cN:=d.map λe=>(fS b a e).getD ([],[])
def ep(b:Int)(d:ej)(a:m cb):Option (m cN):=
 if ce b&&d.2.all (λe=>(fS b a e).isSome)&&dO (fu b a d.2)then f (fu b a d.2)else n
abbrev mZ(a:m cN)(b:Bool):y:=.T [.R (.c (.B v 2 (c a) (bu.fn a))),.R (.c (.bool b))]
abbrev i1(a:ej):y:=.n (.agg [.c (.int .i64 a.1),.c (.B v 2 (c a.2) (cw.fn a.2))])
theorem C4{Z}{d}(a:e<c d):fu h Z (d.take (e+1))=fu h Z (d.take e)++[(fS h Z (d.getD e ([],[]))).getD ([],[])]:=by unfold fu;grind[List.take_add_one]
def EF{Z}{b}(d:e<c b.2)(a:fS h Z (b.2.getD e ([],[]))=n):ep h b Z=n:=by unfold ep;rw[bj];grind
def Zb{Z}{a}{d}(b:g9 h Z a=f d)(j:c a<=4000000):c d.flatten<=140737488355328/\c d<=4000000:=by
 unfold g9 at b;split at b
 .rename_i i;cases b;refine⟨?_,by grind⟩;have key:∀a:m Int,(a.all λe=>(dh h Z e).isSome)=l->(a.map λe=>(dh h Z e).getD []).flatten.length<=8*c a:=by
   intro a;induction a with
   |nil=>grind
   |cons e a g=>
    intro b;simp only[List.all_cons,cm]at b;grind[J1]
  grind
 grind
def Ym(h)(b)(Z)(X:c b.2<=4000000)(G:∀e∈b.2,c e.2<=4000000):
  Y (af.ay S) 112 [R h,i1 b,a2.B Z] [] (mZ ((ep h b Z).getD []) (ep h b Z).isSome) []:=by
 refine Y.I func112 rfl λI=>?_;have aa:=I.B 2 a;have i:a' (af.ay S) [(56,dc c7 (λh=>bg (ce h)) λ_=>[])]:=.cons t56 .nil;cases bY:ce h with
 |false=>
  refine a_ i [-15,16] a k3 (g.aw a ?_);simp[ep,bY]
 |true=>
  have T:bL (af.c' S) 191 (nm h):=adF zO bY;refine a_ i [15,-16,904] a k3 (g.bG 8 51 2 a a ?_);refine b9 i a B (g.aH 2 (λd=>d<=c b.2/\∀u,u<d->(fS h Z (b.2.getD u ([],[]))).isSome=l) (λd:Nat=>[(0,R h),(2,a2.B Z),(4,aI 0 0),(8,.n (.R (.x 1 2 (c (fu h Z (b.2.take d))) (bu.fn (fu h Z (b.2.take d)))))),(18,cw.B b.2),(19,R (c b.2)),(20,R d)]) (λd=>[.cells 90 [.c (.int .i64 b.1),.c (.B v 2 (c b.2) (cw.fn b.2))],.x 51 2 (c (fu h Z (b.2.take d))) (bu.fn (fu h Z (b.2.take d)))]) (λd=>c b.2-d) 0 a z2 a z2 a ⟨by omega,by omega⟩ ?_);rintro d ⟨J,ab⟩;by_cases p:d<c b.2
  .have r:b.2.getD d ([],[])∈b.2:=N;generalize m:b.2.getD d ([],[])=e at r;have z:=G e r;have o:=VA T Z e.2 z;cases j:g9 h Z e.2 with
   |none=>
    rw[j]at o;refine a_ i [21] a bv (g.aB (m▸o) [] a (a_ i [33] a D (g.aS (bZ.zero a ?_))));have k:fS h Z e=n:=by simp[fS,j]
    rw[EF p N];simp
   |some x=>
    obtain⟨V,y⟩:=Zb j z;rw[j]at o;have K:=Vi (q:=af.ay S) x V;refine a_ i [21] a bv (g.aB (m▸o) [] a (a_ i [-33] a D (g.aB K [] a ?_)));cases Q:iX x with
    |none=>
     refine a_ i [40] a D (g.aS (bZ.zero a ?_));have k:fS h Z e=n:=by simp[fS,j,Q]
     rw[EF p N];simp
    |some s=>
     have k:fS h Z e=f (e.1,s):=by simp[fS,j,Q]
     have F:b.2.getD (d:Int).toNat cw.E=e:=m;have W:c (fu h Z (b.2.take d))<=4000000:=by simp[fu];omega
     have E:bs (c (fu h Z (b.2.take d))+1) (cj (c (fu h Z (b.2.take d))) (bu.fn (fu h Z (b.2.take d))) λO=>[[M.S (b.2.getD (d:Int).toNat cw.E).1,M.S ((f s).getD [])]].getD O []) (bu.fn (fu h Z (b.2.take (d+1)))):=by rw[C4 p,m,k,F];exact bu.aW (fu h Z (b.2.take d)) (e.1,s)
     have C:c (fu h Z (b.2.take d))+1=c (fu h Z (b.2.take (d+1))):=by grind[C4]
     refine a_ i [-40] a ?_ (g.az (d+1) a ?_ ?_ ?_ ?_)
     .refine⟨by exact bF,a,a,?_,a⟩;show _*32<=_;omega
     .refine U.Y.2 ⟨a,U.Y.2 ⟨⟨a,bs.same⟩,U.Y.2 ⟨B,U.Y.2 ⟨⟨C,E⟩,U.Y.2 ⟨⟨a,bs.same⟩,U.Y.2 ⟨a,U.Y.2 ⟨?_,B⟩⟩⟩⟩⟩⟩⟩;simp
     .exact U.Y.2 ⟨U.Y.2 ⟨a,U.Y.2 ⟨⟨a,bs.same⟩,B⟩⟩,U.Y.2 ⟨⟨C,E⟩,B⟩⟩
     .grind
     omega
  have k:d=c b.2:=w;subst k;refine a_ i [-21] a D (g.aA ?_);rw[c8];have t:=JS (q:=af.ay S) (fu h Z b.2);rw[sf]at t;refine b9 i a B (g.aB t [] a ?_);have H:b.2.all (λe=>(fS h Z e).isSome)=l:=aW.2 λe r=>by grind[List.mem_iff_getElem]
  cases A:dO (fu h Z b.2)with
  |false=>
   refine a_ i [51] a D (g.aw a ?_);simp[ep,A]
  |true=>
   refine a_ i [-51] a D (g.aw a ?_);simp[ep,A,bY,H]
abbrev cc:=m cb×m ej×m (Int×Int)
def kz(b:cc):Prop:=∀a∈b.2.1,c a.2<=4000000/\∀d∈a.2,c d.2<=4000000
abbrev bX(a:cc):y:=.n (.agg [.c (.B v 2 (c a.1) (a2.fn a.1)),.c (.B v 2 (c a.2.1) (bh.fn a.2.1)),.c (.B v 2 (c a.2.2) (a3.fn a.2.2))])
def oQ(e:Int)(d:cc)(a:Int):Option (m cN):=match d.2.1.find? (λb=>b.1==a)with
 |none=>n
 |some b=>ep e b d.1
def BZ:bI:=kl c7 (jJ cw) (eS a2) (λd b a=>mZ ((ep d b a).getD []) (ep d b a).isSome) λ_ b _=>[c b.2<=4000000,∀e∈b.2,c e.2<=4000000]
def Nz:bL (af.ay S) 112 BZ:=.c7 λd e a b=>Ym d e a b.1 b.2
def Yw(h:Int)(b:cc)(d:Int)(s:kz b):
  Y (af.ay S) 67 [R h,bX b,R d] [] (mZ ((oQ h b d).getD []) (oQ h b d).isSome) []:=by
 refine Y.I func67 rfl λu=>?_;have j:a' (af.ay S) [(110,Bq),(112,BZ)]:=.cons ada (.cons Nz .nil);have q:bh.ad (c b.2.1) (bh.fn b.2.1)=b.2.1:=bh.l _;refine a_ j [901] a B (g.freeze 5 1 a a a ?_);rcases ZS b.2.1 d with⟨o,i⟩|⟨e,bp,o,i⟩
 .refine a_ j [14] a bF (g.aw a ?_);simp[oQ,i]
 have t:b.2.1.getD e (0,[])∈b.2.1:=N;obtain⟨r,k⟩:=s _ t;have p:oQ h b d=ep h (b.2.1.getD e (0,[])) b.1:=by simp only[oQ,i]
 have m:b.2.1.getD (oy (bh.ad (c b.2.1) (bh.fn b.2.1)) d).toNat bh.E=b.2.1.getD e (0,[]):=N;refine a_ j [-14] a ?_ (g.aw a ?_)
 .simp only[U,m,cw.l,q,o];exact⟨cw.U _,a2.U _,r,k,by omega,by omega,nj w,bh.U _⟩
 simp only[m,cw.l,a2.l,p];simp
def oa:jg cc:=⟨bX,λs=>match s with
 |.n (.agg [.c r,.c t,.c u])=>match jA 2 (ax r)with
  |some (i,g)=>match jA 2 (ax t)with
   |some (j,m)=>match jA 2 (ax u)with
    |some (q,h)=>f ((a2.ad i g,bh.ad j m,a3.ad q h),[a2.bH i g,bh.bH j m,a3.bH q h])
    |none=>n
   |none=>n
  |none=>n
 |_=>n,λ{s r E} e d k b aa A=>by
 split at e
 .split at e
  .rename_i i g o;split at e
   .rename_i j m x;split at e
    .rename_i q h p;cases e;obtain⟨z,w,a⟩:=A
     match z,a with
     |[],a=>exact a.elim
     |[_],a=>exact a.2.elim
     |[_,_],a=>exact a.2.2.elim
     |_::_::_::_::_,a=>exact a.2.2.2.elim
     |[C,D,y],a=>
      exact⟨_,w,a2.cv (k:=[]) (b:=b) (aa:=C) o d.1 a.1,bh.cv (k:=[]) (b:=b) (aa:=D) x d.2.1 a.2.1,a3.cv (k:=[]) (b:=b) (aa:=y) p d.2.2 a.2.2.1,B⟩
    grind
   grind
  grind
 grind⟩
abbrev ec(b:cb)(a:Nat):c1:=b.2.getD a (0,[])
def ip(d:Int)(b:cb)(a:Nat):Bool:=right d (ec b a)&&(a==0||decide ((ec b (a-1)).1<(ec b a).1))
theorem D7(h)(a):il h a=((aA (c a.2)).all (ip h a)&&(ce h&&decide (1<=a.1)&&decide (a.1<=99)&&decide (1<=c a.2)&&decide (c a.2<=4))):=by
 have j:(a.2.all (right h)&&EG (a.2.map (·.1)))=(aA (c a.2)).all (ip h a):=by
  rw[o6,cm,aW,aW];unfold EG;rw[aW];have d:∀e,e<c a.2->(a.2.map (·.1)).getD e 0=(ec a e).1:=λe bp=>by grind
  constructor
  .rintro⟨i,b⟩ e bp;have bp:=rr.1 bp;have k:=b e N;rw[d e bp]at k;unfold ip;rw[i (ec a e) N,fX];rcases n_ e with rfl|m
   .rfl
   grind
  intro t;refine⟨λo g=>?_,λe bp=>?_⟩
  .obtain⟨e,bp,rfl⟩:=A8.1 g;exact Ru
  have bp:e<c a.2:=N;exact Ru
 rw[<-j];unfold il;cases ce h<;>cases decide (1<=a.1)<;>cases decide (a.1<=99)<;>cases decide (1<=c a.2)<;>cases decide (c a.2<=4)<;>simp
def LJ{a}(b:e<c a.2)(d:ip h a e=v):il h a=v:=by grind[D7]
theorem B9{E}(a:ce h=l):(iV h E).isSome=right h E:=by unfold iV right;grind
def XE(h)(b)(i:ce h=l)(E:c b.2<=4000000):Y q 170 [R h,fR b] [] (bg (il h b)) []:=by
 refine Y.I func170 rfl λI=>?_;have e:a' q [(56,dc c7 (λh=>bg (ce h)) λ_=>[]),(207,ek sy c7 (λA h=>iZ (iV h A)) λ_ h=>[ce h=l])]:=.cons t56 (.cons (No zO) .nil);refine b9 e a B (g.aH 1 (λd=>d<=c b.2/\∀j,j<d->ip h b j=l) (λd:Nat=>[(0,R h),(3,aI 0 0),(10,bH.B b.2),(11,R (c b.2)),(12,R d)]) (λ_=>[.cells 86 [.c (.int .i64 b.1),.c (lw b)]]) (λd=>c b.2-d) 0 a D a D a ⟨by omega,by omega⟩ ?_);rintro d ⟨x,t⟩;by_cases r:d<c b.2
 .cases m:right h (ec b d)with
  |false=>
   have o:(iV h (ec b d)).isSome=v:=by grind[B9]
   refine a_ e [13,24,40] a du (g.aS (bZ.zero a ?_));rw[LJ r (by simp only[ip,m,sH])];simp
  |true=>
   have o:(!(iV h (ec b d)).isSome)=v:=by grind[B9]
   by_cases z:d=0
   .subst z;refine a_ e [13,-24,-27,-40] a lO (g.az 1 a D D ⟨by omega,λj k=>?_⟩ w);have:j=0:=w;subst this;simp only[ip,m,fX];rfl
   have M:((d:Int)-1).toNat=d-1:=w;cases s:decide ((ec b (d-1)).1<(ec b d).1)with
   |false=>
    refine a_ e [13,-24,27,38,40] a ?_ (g.aS (bZ.zero a ?_))
    .have C:(b.2.getD ((d:Int)-1).toNat bH.E).1=(ec b (d-1)).1:=bF;refine⟨a,fa ?_,by omega,by omega,by exact bF,fa w,o,i,by omega,by omega,fa w⟩;rw[C];show(ec b d).1<=_;grind
    rw[LJ r (by simp[ip,m,s,fX,Bool.or_false];grind)];simp
   |true=>
    refine a_ e [13,-24,27,-38,-40] a ?_ (g.az (d+1) a ?_ ?_ ⟨by omega,λj k=>?_⟩ w)
    .have C:(b.2.getD ((d:Int)-1).toNat bH.E).1=(ec b (d-1)).1:=bF;refine⟨by exact bF,a,nj ?_,by omega,by omega,by exact bF,fa w,o,i,by omega,by omega,fa w⟩;rw[C];show¬(ec b d).1<=_;grind
    .simp
    .simp
    rcases w_.1 k with k|rfl
    .grind
    simp only[ip,m,s,fX,Bool.or_true]
 have u:d=c b.2:=w;subst u;refine a_ e [-13] a D (g.aA ?_);have y:(aA (c b.2)).all (ip h b)=l:=aW.2 λj k=>t j (rr.1 k);rw[D7,y,i];by_cases J:1<=b.1
 .by_cases K:b.1<=99
  .by_cases p:1<=c b.2
   .by_cases F:c b.2<=4
    .refine a_ e [43,47,52,58,64] a bF (g.aw a ?_);exact bv
    refine a_ e [43,47,52,58,-64] a bF (g.aw a ?_);exact bv
   refine a_ e [43,47,52,-58] a du (g.aw a ?_);exact bv
  refine a_ e [43,47,-52] a du (g.aw a ?_);exact bv
 refine a_ e [43,-47] a du (g.aw a ?_);exact bv
def BU:bI:=ek c7 (jJ bH) (λa b=>bg (il a b)) λa b=>[ce a=l,c b.2<=4000000]
def Nu:bL q 170 BU:=.bl λb d a=>XE b d a.1 a.2
def I5(d)(h:c d<=4000000):Y q 144 [a3.B d] [] (cE 0 (.B (c d) 2 0 (c d))) [.q 56 2 (c d) (a3.fn d)]:=by
 refine Y.I func144 rfl λi=>?_;refine aR a B (g.er bb a a a a a a λb e=>?_);cases b with
 |true=>
  obtain rfl:=jK (e rfl);refine aR a B (g.e' 2 56 2 (a3.fn []) a ?_);exact FL
 |false=>
  refine gv [] 7 a B (g.dJ 5 56 2 (a3.fn []) a ?_);refine aR a ⟨a,a,show(0+c d)*16<=_ by omega⟩ (g.bb [.q 56 2 (c d) (a3.fn d)] a ?_ ?_)
  .simp[bs,cj]
  exact FW
def I7(d)(e:c d<=4000000):Y q 144 [a3.B d] [] (a3.B d) []:=by
 refine Y.I func144 rfl λh=>?_;refine aR a B (g.er bb a a a a a a λb x=>?_);cases b with
 |true=>
  exact FV
 |false=>
  exact aR a ⟨show(0+c d)*16<=_ by omega,.inl a⟩ FB
def U1(d)(e:c d<=4000000):Y q 185 [bH.B d] [] (bH.B d) []:=by
 refine Y.I func185 rfl λh=>?_;refine aR a B (g.er bb a a a a a a λb x=>?_);cases b with
 |true=>
  exact FV
 |false=>
  exact aR a ⟨show(0+c d)*24<=_ by omega,.inl a⟩ FB
def CC(d)(e:c d<=4000000):Y q 66 [az.B d] [] (az.B d) []:=by
 refine Y.I func66 rfl λh=>?_;refine aR a B (g.er bb a a a a a a λb x=>?_);cases b with
 |true=>
  exact FV
 |false=>
  exact aR a ⟨show(0+c d)*8<=_ by omega,.inl a⟩ FB
def _root_.Go.AM.c6.cW(a:c6 α)(d)(i:e<c d)(b):bs (e+1) (cj e (a.fn (d.take e)) (λg=>[a.a8 (d.getD e b)].getD g [])) (a.fn (d.take (e+1))):=by
 have h:d.take (e+1)=d.take e++[d.getD e b]:=by grind[List.take_add_one]
 have:=a.aW (d.take e) (d.getD e b);grind
abbrev Hn:bI:=dc (eS bH) (λa=>bH.B a) λa=>[c a<=4000000]
def adx:bL q 185 Hn:=.a9 λb a=>U1 b a
abbrev Ho:bI:=dc (eS az) (λa=>az.B a) λa=>[c a<=4000000]
def ady:bL q 66 Ho:=.a9 λb a=>CC b a
def Xz(b)(d:c b.2<=4000000):Y q 142 [fR b] [] (fR b) []:=by
 refine Y.bh bb func142 rfl rfl rfl λi=>?_;have e:a' q [(185,Hn)]:=.cons adx .nil;refine b9 e a ?_ ?_
 .simp only[U,bH.l];exact⟨bH.U _,d⟩
 refine g.bg () [] ?_ (λj h=>absurd h D);simp[bH.l]
abbrev xN:bI:=dc (jJ bH) (λa=>fR a) λa=>[c a.2<=4000000]
def EZ:bL q 142 xN:=.a9 λb a=>Xz b a
def Yg(b)(u:c b.2<=4000000)(k:∀r∈b.2,c r.2<=4000000):Y q 143 [i1 b] [] (i1 b) []:=by
 refine Y.bh bb func143 rfl rfl rfl λt=>?_;have e:a' q [(66,Ho)]:=.cons ady .nil;refine a_ e [902] a B (g.cn 2 1 123 2 (cw.fn []) a a ?_);refine b9 e a B ?_;refine g.aH 4 (λd=>d<=c b.2) (λd:Nat=>[(2,aI 1 0),(3,aI 2 0),(10,cw.B b.2),(11,R (c b.2)),(12,R d)])
  (λd=>[.cells 90 [.c (.int .i64 b.1),.c (.B v 2 (c b.2) (cw.fn b.2))],.cells 90 [.c (.int .i64 0),.c (.B l 0 0 λ_=>[])],.cells 90 [.c (.int .i64 b.1),.x 3 2 d (cw.fn (b.2.take d))],.x 123 2 d (cw.fn (b.2.take d))]) (λd=>c b.2-d) 0 a ?_ a ?_ a w ?_
 .simp
 .simp
 intro d o;by_cases m:d<c b.2
 .have C:b.2.getD d ([],[])∈b.2:=N;refine a_ e [13] a ?_ (g.az (d+1) a ?_ ?_ ?_ ?_)
  .have p:=k _ C;have h:b.2.getD (d:Int).toNat cw.E=b.2.getD d ([],[]):=N;simp only[U,h,az.l,a8];exact⟨by omega,B,B,show(d+1)*40<=_ by omega,az.U _,p,by omega,by omega,fa w⟩
  .simp
  .have h:b.2.getD (d:Int).toNat cw.E=b.2.getD d ([],[]):=N;have i:=cw.cW b.2 m ([],[]);simp only[U.Y,U,h,az.l,a9,ba];exact⟨bs.same,bs.same,i,i⟩
  .grind
  omega
 obtain rfl:d=c b.2:=w;refine a_ e [-13] a D (g.aA ?_);refine b9 e a B (g.bg () [] ?_ (λs j=>absurd j D));simp
abbrev xO:bI:=dc (jJ cw) (λa=>i1 a) λa=>[c a.2<=4000000,∀b∈a.2,c b.2<=4000000]
def E0:bL q 143 xO:=.a9 λb a=>Yg b a.1 a.2
abbrev cG:Q:=.c (.B l 0 0 λ_=>[])
def pf(b)(p:c b.1<=4000000)(C:∀m∈b.1,c m.2<=4000000)(s:c b.2.1<=4000000)(O:kz b)(k:c b.2.2<=4000000):
  Y q 103 [bX b] [] (.n (.agg [.O 0 (.B (c b.1) 2 0 (c b.1)),.O 1 (.B (c b.2.1) 2 0 (c b.2.1)),.c (.B v 2 (c b.2.2) (a3.fn b.2.2))])) [.q 86 2 (c b.1) (a2.fn b.1),.q 90 2 (c b.2.1) (bh.fn b.2.1)]:=by
 refine Y.bh bb func103 rfl rfl rfl λr=>?_;have d:a' q [(142,xN),(143,xO)]:=.cons EZ (.cons E0 .nil);refine a_ d [902] a B (g.ep 2 0 86 2 (a2.fn []) a a ?_);refine g.ep 2 1 90 2 (bh.fn []) a a ?_;refine b9 d a B ?_;refine g.aH 5 (λe=>e<=c b.1) (λe:Nat=>[(1,aI 0 0),(2,aI 1 0),(3,aI 2 0),(9,a2.B b.1),(10,R (c b.1)),(11,R e)])
  (λe=>[.cells 30 [.c (.B v 2 (c b.1) (a2.fn b.1)),.c (.B v 2 (c b.2.1) (bh.fn b.2.1)),.c (.B v 2 (c b.2.2) (a3.fn b.2.2))],.cells 30 [cG,cG,cG],.cells 30 [.O 3 (.B e 2 0 e),.O 4 (.B 0 2 0 0),cG],.q 86 2 e (a2.fn (b.1.take e)),.q 90 2 0 (bh.fn [])]) (λe=>c b.1-e) 0 a ?_ a ?_ a w ?_
 .simp
 .simp
 intro e h;by_cases t:e<c b.1
 .have aj:b.1.getD e (0,[])∈b.1:=N;have i:b.1.getD (e:Int).toNat a2.E=b.1.getD e (0,[]):=N;refine a_ d [12] a Ry (g.az (e+1) a D QK N ?_);omega
 obtain rfl:e=c b.1:=w;rw[c8];refine a_ d [-12] a D (g.aA ?_);refine b9 d a B ?_;refine g.aH 5 (λe=>e<=c b.2.1) (λe:Nat=>[(1,aI 0 0),(2,aI 1 0),(3,aI 2 0),(24,bh.B b.2.1),(25,R (c b.2.1)),(26,R e)])
  (λe=>[.cells 30 [.c (.B v 2 (c b.1) (a2.fn b.1)),.c (.B v 2 (c b.2.1) (bh.fn b.2.1)),.c (.B v 2 (c b.2.2) (a3.fn b.2.2))],.cells 30 [cG,cG,cG],.cells 30 [.O 3 (.B (c b.1) 2 0 (c b.1)),.O 4 (.B e 2 0 e),cG],.q 86 2 (c b.1) (a2.fn b.1),.q 90 2 e (bh.fn (b.2.1.take e))]) (λe=>c b.2.1-e) 0 a ?_ a ?_ a w ?_
 .simp
 .simp
 intro e h;by_cases t:e<c b.2.1
 .have aj:b.2.1.getD e (0,[])∈b.2.1:=N;have i:b.2.1.getD (e:Int).toNat bh.E=b.2.1.getD e (0,[]):=N;refine a_ d [27] a Pj (g.az (e+1) a D FT N ?_);omega
 obtain rfl:e=c b.2.1:=w;rw[c8];refine a_ d [-27] a D (g.aA ?_);refine b9 d a B (g.aB (I7 b.2.2 k) [] a (b9 d a B (g.bg () [3,4] ?_ (λo j=>absurd j D))));simp
def JN(b)(p:c b.1<=4000000)(C:∀m∈b.1,c m.2<=4000000)(s:c b.2.1<=4000000)(O:kz b)(k:c b.2.2<=4000000):
  Y q 103 [bX b] [] (.n (.agg [.O 0 (.B (c b.1) 2 0 (c b.1)),.O 1 (.B (c b.2.1) 2 0 (c b.2.1)),.O 2 (.B (c b.2.2) 2 0 (c b.2.2))])) [.q 86 2 (c b.1) (a2.fn b.1),.q 90 2 (c b.2.1) (bh.fn b.2.1),.q 56 2 (c b.2.2) (a3.fn b.2.2)]:=by
 refine Y.bh bb func103 rfl rfl rfl λr=>?_;have d:a' q [(142,xN),(143,xO)]:=.cons EZ (.cons E0 .nil);refine a_ d [902] a B (g.ep 2 0 86 2 (a2.fn []) a a ?_);refine g.ep 2 1 90 2 (bh.fn []) a a ?_;refine b9 d a B ?_;refine g.aH 5 (λe=>e<=c b.1) (λe:Nat=>[(1,aI 0 0),(2,aI 1 0),(3,aI 2 0),(9,a2.B b.1),(10,R (c b.1)),(11,R e)])
  (λe=>[.cells 30 [.c (.B v 2 (c b.1) (a2.fn b.1)),.c (.B v 2 (c b.2.1) (bh.fn b.2.1)),.c (.B v 2 (c b.2.2) (a3.fn b.2.2))],.cells 30 [cG,cG,cG],.cells 30 [.O 3 (.B e 2 0 e),.O 4 (.B 0 2 0 0),cG],.q 86 2 e (a2.fn (b.1.take e)),.q 90 2 0 (bh.fn [])]) (λe=>c b.1-e) 0 a ?_ a ?_ a w ?_
 .simp
 .simp
 intro e h;by_cases t:e<c b.1
 .have aj:b.1.getD e (0,[])∈b.1:=N;have i:b.1.getD (e:Int).toNat a2.E=b.1.getD e (0,[]):=N;refine a_ d [12] a Ry (g.az (e+1) a D QK N ?_);omega
 obtain rfl:e=c b.1:=w;rw[c8];refine a_ d [-12] a D (g.aA ?_);refine b9 d a B ?_;refine g.aH 5 (λe=>e<=c b.2.1) (λe:Nat=>[(1,aI 0 0),(2,aI 1 0),(3,aI 2 0),(24,bh.B b.2.1),(25,R (c b.2.1)),(26,R e)])
  (λe=>[.cells 30 [.c (.B v 2 (c b.1) (a2.fn b.1)),.c (.B v 2 (c b.2.1) (bh.fn b.2.1)),.c (.B v 2 (c b.2.2) (a3.fn b.2.2))],.cells 30 [cG,cG,cG],.cells 30 [.O 3 (.B (c b.1) 2 0 (c b.1)),.O 4 (.B e 2 0 e),cG],.q 86 2 (c b.1) (a2.fn b.1),.q 90 2 e (bh.fn (b.2.1.take e))]) (λe=>c b.2.1-e) 0 a ?_ a ?_ a w ?_
 .simp
 .simp
 intro e h;by_cases t:e<c b.2.1
 .have aj:b.2.1.getD e (0,[])∈b.2.1:=N;have i:b.2.1.getD (e:Int).toNat bh.E=b.2.1.getD e (0,[]):=N;refine a_ d [27] a Pj (g.az (e+1) a D FT N ?_);omega
 obtain rfl:e=c b.2.1:=w;rw[c8];refine a_ d [-27] a D (g.aA ?_);refine b9 d a B (g.aB (I5 b.2.2 k) [] a (b9 d a B (g.bg () [3,4,5] ?_ (λo j=>absurd j D))));simp
def gX(d:α->Bool)(b:m α):Int:=match b.findIdx? d with|some a=>a|none=>-1
def td{a:α->Bool}{o}{O}(d:e<c o)(h:a (o.getD e O)=l)(g:∀b,b<e->a (o.getD b O)=v):gX a o=e:=by
 have:o.findIdx? a=f e:=by grind[List.findIdx?_eq_some_iff_getElem]
 rw[gX,this]
def te{a:α->Bool}{o}{O}(d:∀b,b<c o->a (o.getD b O)=v):gX a o=-1:=by have:o.findIdx? a=n:=wO;rw[gX,this]
def V6(d)(s:c d<=4000000)(i)(ai)(b:cb->Bool)(o:∀k,k∈d->Y q i [fR k,ax (.Q ai)] [] (bg (b k)) []):
  Y q 133 [cE 0 (.B (c d) 2 0 (c d)),ax (.fn (.func i) [] [.Q ai])] [.q 86 2 (c d) (a2.fn d)] (R (gX b d)) [.q 86 2 (c d) (a2.fn d)]:=by
 refine Y.I func133 rfl λr=>?_;refine aR a B (g.aH 1 (λe=>e<=c d/\∀u,u<e->b (d.getD u (0,[]))=v) (λe:Nat=>[(0,cE 0 (.B (c d) 2 0 (c d))),(1,ax (.fn (.func i) [] [.Q ai])),(7,R (c d)),(8,R e)]) (λ_=>[.q 86 2 (c d) (a2.fn d)]) (λe=>c d-e) 0 a D a D a ⟨by omega,by omega⟩ ?_);rintro e ⟨p,x⟩;by_cases t:e<c d
 .have h:d.getD e (0,[])∈d:=N;have m:d.getD ((0+(e:Int).toNat:Nat)) a2.E=d.getD e (0,[]):=nX;refine a4 [9] a bv ?_;rw[m];refine g.aB (o _ h) [] a ?_;cases C:b (d.getD e (0,[]))with
  |true=>
   exact O1
  |false=>
   exact Ae
 exact QZ
def V9(d)(s:c d<=4000000)(i)(ai)(b:ej->Bool)(o:∀k,k∈d->Y q i [i1 k,ax (.Q ai)] [] (bg (b k)) []):
  Y q 110 [cE 0 (.B (c d) 2 0 (c d)),ax (.fn (.func i) [] [.Q ai])] [.q 90 2 (c d) (bh.fn d)] (R (gX b d)) [.q 90 2 (c d) (bh.fn d)]:=by
 refine Y.I func110 rfl λr=>?_;refine aR a B (g.aH 1 (λe=>e<=c d/\∀u,u<e->b (d.getD u (0,[]))=v) (λe:Nat=>[(0,cE 0 (.B (c d) 2 0 (c d))),(1,ax (.fn (.func i) [] [.Q ai])),(7,R (c d)),(8,R e)]) (λ_=>[.q 90 2 (c d) (bh.fn d)]) (λe=>c d-e) 0 a D a D a ⟨by omega,by omega⟩ ?_);rintro e ⟨p,x⟩;by_cases t:e<c d
 .have h:d.getD e (0,[])∈d:=N;have m:d.getD ((0+(e:Int).toNat:Nat)) bh.E=d.getD e (0,[]):=nX;refine a4 [9] a bv ?_;rw[m];refine g.aB (o _ h) [] a ?_;cases C:b (d.getD e (0,[]))with
  |true=>
   exact O1
  |false=>
   exact Ae
 exact QZ
def V0(d)(y:c d<=4000000)(i)(ai)(j:(Int×Int)->Bool)(p:∀k,k∈d->Y q i [.n (.agg [.c (.int .i64 k.1),.c (.int .i64 k.2)]),ax (.Q ai)] [] (bg (j k)) []):
  Y q 114 [a3.B d,ax (.fn (.func i) [] [.Q ai])] [] (R (gX j d)) []:=by
 refine Y.I func114 rfl λu=>?_;refine aR a B (g.aH 0 (λe=>e<=c d/\∀b,b<e->j (d.getD b (0,0))=v) (λe:Nat=>[(0,a3.B d),(1,ax (.fn (.func i) [] [.Q ai])),(7,R (c d)),(8,R e)]) (λ_=>[]) (λe=>c d-e) 0 a D a D a ⟨by omega,by omega⟩ ?_);rintro e ⟨t,m⟩;by_cases s:e<c d
 .have h:d.getD e (0,0)∈d:=N;have o:d.getD (((e:Int).toNat)) a3.E=d.getD e (0,0):=nX;refine a4 [9] a bv ?_;rw[o];refine g.aB (p _ h) [] a ?_;cases r:j (d.getD e (0,0))with
  |true=>
   refine a4 [16] a D (g.aS (bZ.mk [] a ?_ a a a eN));simp[td s r m]
  |false=>
   exact Ae
 refine a4 [-9] a bK (g.aA ?_);refine aR a B (g.aJ [] a ?_ eN);simp[te (λb x=>m b w)]
def yK(b:α->Bool)(d):(gX b d=-1/\∀a∈d,b a=v)∨∃e:Nat,e<c d/\gX b d=e/\(∀a∈d.take e,b a=v)/\(∀a,d[e]?=f a->b a=l):=by unfold gX;grind[List.findIdx?_eq_some_iff_getElem,List.getElem_of_mem]
def Om{ff bp}{b}(a:¬(ff<=u/\u<bp)):nV ff bp b V u=V u:=bj a
theorem iq{a:m α}(d:e<c a)(b:α):a.take (e+1)=a.take e++[a.getD e b]:=by grind[List.take_add_one]
def J4{d}{b:α->Bool}(g:e<c d)(h:∀a∈d.take e,b a=v)(i:∀a,d[e]?=f a->b a=l):(d.take (e+1)).filter (λa=>!b a)=d.take e:=by grind[List.take_add_one,List.filter_eq_self]
def _root_.Go.AM.c6.cV(a:c6 α)(d)(e)(b)(j)(g:j<=c d):bs j (l' e (a.a8 b) (a.fn d)) (a.fn (d.set e b)):=by intro i h;simp only[l',c6.fn,gK];grind
structure Su(d:m cb)(bk:cb->Bool)(u:Nat)(nU:m cb):Prop where
 fA:u<=c d
 len:c nU=c d
 done:nU.take (c ((d.take u).filter λE=>!bk E))=(d.take u).filter λE=>!bk E
 hL:∀e,u<=e->nU[e]?=d[e]?
def Vq(d)(y:c d<=4000000)(i)(ai)(bk:cb->Bool)(o:∀E,E∈d->Y q i [fR E,ax (.Q ai)] [] (bg (bk E)) []):
  bm (ι:={k:Nat->m M // ∀e,e<c (d.filter λE=>!bk E)->k e=a2.fn (d.filter λE=>!bk E) e}) q 154 [cE 0 (.B (c d) 2 0 (c d)),ax (.fn (.func i) [] [.Q ai])] [.q 86 2 (c d) (a2.fn d)]
   (λ_=>cE 0 (.B (c d) 2 0 (c (d.filter λE=>!bk E)))) (λk=>[.q 86 2 (c d) k.1]):=by
 refine bm.cf func154 rfl rfl rfl λF=>?_;refine aR a B (g.aB (V6 d y i ai bk o) [0] a ?_);rcases yK bk d with⟨j,A⟩|⟨i0,C,j,A,aa⟩
 .rw[j];have t:d.filter (λE=>!bk E)=d:=sz.2 λE p=>by grind
  refine a4 [12] a D (g.bu ⟨a2.fn d,λe _=>by grind⟩ (g.aJ [0] a ?_ ig));simp[t]
 rw[j];refine a4 [-12] a j7 ?_;refine g.aH 1 (λb:Nat×m cb=>Su d bk b.1 b.2) (λb=>[(0,cE 0 (.B (c d) 2 0 (c d))),(1,ax (.fn (.func i) [] [.Q ai])),(5,R (c ((d.take b.1).filter λE=>!bk E))),(6,R b.1)])
  (λb=>[.q 86 2 (c d) (a2.fn b.2)]) (λb=>c d-b.1) (i0+1,d) a ?_ a ?_ a ?_ ?_
 .exact PM
 .simp
 .exact RR
 rintro⟨u,O⟩ ⟨r,a7,T,bz⟩;simp only at r a7 T bz;by_cases I:u<c d
 .have p:d.getD u (0,[])∈d:=N;have s:c ((d.take u).filter λE=>!bk E)<=u:=fY (kI _ _) N;have z:O.getD (0+(u:Int).toNat) a2.E=d.getD u (0,[]):=N;refine a4 [19] a pQ ?_;rw[z];refine g.aB (o _ p) [] a ?_;cases J:bk (d.getD u (0,[]))with
  |false=>
   have h:(d.take (u+1)).filter (λE=>!bk E)=(d.take u).filter (λE=>!bk E)++[d.getD u (0,[])]:=ir;refine a4 [29] a ?_ (g.az (u+1,O.set (c ((d.take u).filter λE=>!bk E)) (d.getD u (0,[]))) a ?_ ?_ ?_ ?_)
   .simp only[U,a8];grind
   .simp[h]
   .have ak:=a2.cV O (c ((d.take u).filter λE=>!bk E)) (d.getD u (0,[])) (c d) w;exact Pp
   .refine⟨by grind,by grind,Q9,λe bp=>?_⟩;grind
   grind
  |true=>
   have h:(d.take (u+1)).filter (λE=>!bk E)=(d.take u).filter (λE=>!bk E):=ir;refine a4 [-29] a j7 (g.az (u+1,O) a ?_ ?_ ?_ ?_)
   .simp[h]
   .simp
   .exact QT
   grind
 obtain rfl:u=c d:=w;rw[c8]at T⊢;have s:c (d.filter λE=>!bk E)<=c d:=kI _ _;refine a4 [-19] a D (g.aA ?_);refine aR a pQ (g.aL (a1.eX bb a a a a a a wN) a a ?_);refine aR a pQ (g.bu ⟨nV (0+bW 0 (f (c (d.filter λE=>!bk E):Int))) (0+bW 0 (f (c (d.filter λE=>!bk E):Int))+(bW (c d) n-bW 0 (f (c (d.filter λE=>!bk E):Int)))) nD.zero (a2.fn O),λe bp=>RG⟩ (g.aJ [0] a ?_ ig));simp[bW];rfl
structure Sv(d:m ej)(bk:ej->Bool)(u:Nat)(nU:m ej):Prop where
 fA:u<=c d
 len:c nU=c d
 done:nU.take (c ((d.take u).filter λE=>!bk E))=(d.take u).filter λE=>!bk E
 hL:∀e,u<=e->nU[e]?=d[e]?
def Jd(d)(y:c d<=4000000)(i)(ai)(bk:ej->Bool)(o:∀E,E∈d->Y q i [i1 E,ax (.Q ai)] [] (bg (bk E)) []):
  bm (ι:={k:Nat->m M // ∀e,e<c (d.filter λE=>!bk E)->k e=bh.fn (d.filter λE=>!bk E) e}) q 104 [cE 0 (.B (c d) 2 0 (c d)),ax (.fn (.func i) [] [.Q ai])] [.q 90 2 (c d) (bh.fn d)]
   (λ_=>cE 0 (.B (c d) 2 0 (c (d.filter λE=>!bk E)))) (λk=>[.q 90 2 (c d) k.1]):=by
 refine bm.cf func104 rfl rfl rfl λF=>?_;refine aR a B (g.aB (V9 d y i ai bk o) [0] a ?_);rcases yK bk d with⟨j,A⟩|⟨i0,C,j,A,aa⟩
 .rw[j];have t:d.filter (λE=>!bk E)=d:=sz.2 λE p=>by grind
  refine a4 [12] a D (g.bu ⟨bh.fn d,λe _=>by grind⟩ (g.aJ [0] a ?_ ig));simp[t]
 rw[j];refine a4 [-12] a j7 ?_;refine g.aH 1 (λb:Nat×m ej=>Sv d bk b.1 b.2) (λb=>[(0,cE 0 (.B (c d) 2 0 (c d))),(1,ax (.fn (.func i) [] [.Q ai])),(5,R (c ((d.take b.1).filter λE=>!bk E))),(6,R b.1)])
  (λb=>[.q 90 2 (c d) (bh.fn b.2)]) (λb=>c d-b.1) (i0+1,d) a ?_ a ?_ a ?_ ?_
 .exact PM
 .simp
 .exact RR
 rintro⟨u,O⟩ ⟨r,a7,T,bz⟩;simp only at r a7 T bz;by_cases I:u<c d
 .have p:d.getD u (0,[])∈d:=N;have s:c ((d.take u).filter λE=>!bk E)<=u:=fY (kI _ _) N;have z:O.getD (0+(u:Int).toNat) bh.E=d.getD u (0,[]):=N;refine a4 [19] a pQ ?_;rw[z];refine g.aB (o _ p) [] a ?_;cases J:bk (d.getD u (0,[]))with
  |false=>
   have h:(d.take (u+1)).filter (λE=>!bk E)=(d.take u).filter (λE=>!bk E)++[d.getD u (0,[])]:=ir;refine a4 [29] a ?_ (g.az (u+1,O.set (c ((d.take u).filter λE=>!bk E)) (d.getD u (0,[]))) a ?_ ?_ ?_ ?_)
   .simp only[U,a8];grind
   .simp[h]
   .have ak:=bh.cV O (c ((d.take u).filter λE=>!bk E)) (d.getD u (0,[])) (c d) w;exact Pp
   .refine⟨by grind,by grind,Q9,λe bp=>?_⟩;grind
   grind
  |true=>
   have h:(d.take (u+1)).filter (λE=>!bk E)=(d.take u).filter (λE=>!bk E):=ir;refine a4 [-29] a j7 (g.az (u+1,O) a ?_ ?_ ?_ ?_)
   .simp[h]
   .simp
   .exact QT
   grind
 obtain rfl:u=c d:=w;rw[c8]at T⊢;have s:c (d.filter λE=>!bk E)<=c d:=kI _ _;refine a4 [-19] a D (g.aA ?_);refine aR a pQ (g.aL (a1.eX bb a a a a a a wN) a a ?_);refine aR a pQ (g.bu ⟨nV (0+bW 0 (f (c (d.filter λE=>!bk E):Int))) (0+bW 0 (f (c (d.filter λE=>!bk E):Int))+(bW (c d) n-bW 0 (f (c (d.filter λE=>!bk E):Int)))) rS.zero (bh.fn O),λe bp=>RG⟩ (g.aJ [0] a ?_ ig));simp[bW];rfl
abbrev dq:=Int×Int×Int×bA
abbrev l4(a:dq):m M:=[.int .i64 a.1,.int .i64 a.2.1,.int .i64 a.2.2.1,.S a.2.2.2]
abbrev vH(a:dq):m Q:=[.c (.int .i64 a.1),.c (.int .i64 a.2.1),.c (.int .i64 a.2.2.1),.c (.S a.2.2.2)]
abbrev ev(a:dq):y:=.n (.agg (vH a))
abbrev iY(a:m M):y:=ax (.Q a)
def Wr(b)(d):Y q 155 [fR b,iY (l4 d)] [] (bg (b.1==d.2.1)) []:=by refine Y.I func155 rfl λe=>?_;exact aR a B (g.aw a)
def Ws(d:Int×Int)(bN)(j)(b:Nat->m M):Y q 158 [.n (.agg [.c (.int .i64 d.1),.c (.int .i64 d.2)]),iY [.int .i64 bN,.B v 2 j b]] [] (bg (d.2==bN)) []:=by refine Y.I func158 rfl λe=>?_;exact aR a B (g.aw a)
def ZM(a:α->Bool)(d):decide (gX a d≥0)=d.any a:=by
 rcases yK a d with⟨b,s⟩|⟨e,bp,b,_,i⟩
 .grind
 rw[b];symm;have:=i _ (bJ bp);grind
def VT(d)(h:c d<=4000000)(bN)(j)(b:Nat->m M):Y q 69 [a3.B d,ax (.fn (.func 158) [] [.Q [.int .i64 bN,.B v 2 j b]])] [] (bg (d.any λe=>e.2==bN)) []:=by refine Y.I func69 rfl λk=>?_;refine aR a B ?_;refine g.aB (V0 d h 158 [.int .i64 bN,.B v 2 j b] (λe=>e.2==bN) λi _=>Ws i bN j b) [] a ?_;refine aR a B (g.aw a ?_);simp only[U];exact ZM _ d
def Xa(d)(b)(e:c b<=4000000):Y q 157 [i1 d,iY [.B v 2 (c b) (a3.fn b)]] [] (bg (b.any λh=>h.2==d.1)) []:=by refine Y.I func157 rfl λi=>?_;refine a4 [901] a B ?_;refine g.freeze 2 0 a a a ?_;refine aR a B ?_;refine g.aB (VT b e d.1 (c d.2) (cw.fn d.2)) [] a ?_;exact aR a B (g.aw a)
abbrev x1(a:Nat)(b:dq):y:=ax (.fn (.func a) [] [.Q (l4 b)])
def Vl(d)(t:d.1=1):Y q 113 [ev d] [] (x1 153 d) []:=by refine Y.I func113 rfl λb=>?_;refine a4 [901] a B ?_;refine g.freeze 1 0 a a a ?_;exact a4 [5] a gM (g.aw a)
def Jb(d)(t:d.1=2):Y q 113 [ev d] [] (x1 156 d) []:=by refine Y.I func113 rfl λb=>?_;refine a4 [901] a B ?_;refine g.freeze 1 0 a a a ?_;exact a4 [-5,8] a gM (g.aw a)
def Jc(d)(t:d.1=3):Y q 113 [ev d] [] (x1 159 d) []:=by refine Y.I func113 rfl λb=>?_;refine a4 [901] a B ?_;refine g.freeze 1 0 a a a ?_;exact a4 [-5,-8,11] a gM (g.aw a)
def Vm(d)(t:d.1=4):Y q 113 [ev d] [] (x1 160 d) []:=by refine Y.I func113 rfl λb=>?_;refine a4 [901] a B ?_;refine g.freeze 1 0 a a a ?_;exact a4 [-5,-8,-11,14] a gM (g.aw a)
def Vn(d)(h:d.1≠1)(b:d.1≠2)(i:d.1≠3)(e:d.1≠4):Y q 113 [ev d] [] (ax (.fn (.func 161) [] [])) []:=by refine Y.I func113 rfl λj=>?_;refine a4 [901] a B ?_;refine g.freeze 1 0 a a a ?_;exact a4 [-5,-8,-11,-14] a (by simp[h,b,i,e]) (g.aw a)
abbrev tK(a:m cb):M:=.B v 2 (c a) (a2.fn a)
abbrev tL(a:m ej):M:=.B v 2 (c a) (bh.fn a)
abbrev h6(a:m (Int×Int)):M:=.B v 2 (c a) (a3.fn a)
abbrev tM(a:cc)(g:dq)(h:m ar)(b d e:Q):m ar:=[.cells 30 [.c (tK a.1),.c (tL a.2.1),.c (h6 a.2.2)],.cells 35 (vH g),.cells 30 [cG,cG,cG]]++h++[.cells 30 [b,d,e]]
abbrev dD(a d b:Nat):Q:=.O a (.B d 2 0 b)
def Vs(b)(d)(k:c b.1<=4000000):
  bm (ι:={e:Nat->m M // ∀i,i<c (b.1.filter λh=>!(h.1==d.2.1))->e i=a2.fn (b.1.filter λh=>!(h.1==d.2.1)) i}) q 153 [aI 5 0,iY (l4 d)]
   (tM b d [.q 86 2 (c b.1) (a2.fn b.1),.q 90 2 (c b.2.1) (bh.fn b.2.1)] (dD 3 (c b.1) (c b.1)) (dD 4 (c b.2.1) (c b.2.1)) (.c (h6 b.2.2)))
   (λ_=>.T []) (λe=>tM b d [.q 86 2 (c b.1) e.1,.q 90 2 (c b.2.1) (bh.fn b.2.1)] (dD 3 (c b.1) (c (b.1.filter λh=>!(h.1==d.2.1)))) (dD 4 (c b.2.1) (c b.2.1)) (.c (h6 b.2.2))):=by refine bm.bN func153 rfl rfl rfl (g.aQ ?_);refine aR a B (g.a2 (Vq b.1 k 155 (l4 d) (λh=>h.1==d.2.1) λh _=>Wr h d) [3] a bn ?_);rintro⟨e,j⟩;exact aR a B ⟨⟨e,j⟩,.inr a,a,a,_,_,_,a,a,a,B⟩
def Xu(k)(d:jX k=l)(b):Y q 161 [.n (.R b)] k (.T []) k:=by refine bm.toY (bm.bN (ι:=Unit) (res:=λ_=>.T []) (aq:=λ_=>k) func161 rfl rfl rfl (g.aQ ?_));refine aR a B ?_;exact⟨(),.inr a,a,d,_,_,_,a,a,a,B⟩
abbrev mV(a:cc)(b:dq):m ar:=tM a b [.q 86 2 (c a.1) (a2.fn a.1),.q 90 2 (c a.2.1) (bh.fn a.2.1)] (dD 3 (c a.1) (c a.1)) (dD 4 (c a.2.1) (c a.2.1)) (.c (h6 a.2.2))
def jy(d:Nat)(a:m (Int×Int))(e:ej):Bool:=(a.drop d).any λb=>b.2==e.1
def UJ(b)(d:dq)(e:d.2.1<0∨d.2.1>c b.2.2):Y q 156 [aI 5 0,iY (l4 d)] (mV b d) (.T []) (mV b d):=by
 refine bm.toY (bm.bN (ι:=Unit) (res:=λ_=>.T []) (aq:=λ_=>mV b d) func156 rfl rfl rfl (g.aQ ?_));by_cases x:d.2.1<0
 .exact a4 [7,16] a oW O8
 exact a4 [-7,16] a bK O8
def _root_.Go.AM.c6.g_(a:c6 α)(d)(j A):bs A (fJ j (a.fn d)) (a.fn (d.drop j)):=λb _=>by simp[fJ,c6.fn,gK,al]
abbrev IK:y:=aI 5 0
abbrev HA(b:cc)(a:dq):M:=.B (xZ v n) 2 (bW (c b.2.2) n-bW 0 (f a.2.1)) (fJ (bW 0 (f a.2.1)) (a3.fn b.2.2))
def nC(b:cc)(a:dq)(d:Nat)(e:a.2.1=d)(g:d<=c b.2.2):U (jq (c b.2.2) (f a.2.1) n):=by show 0<=a.2.1/\a.2.1<=(c b.2.2:Int);omega
def UK(b:cc)(d:dq)(j:Nat)(i:d.2.1=j)(t:j<=c b.2.2)(s:c b.2.1<=4000000)(x:c b.2.2<=4000000):
  bm (ι:={e:Nat->m M // ∀h,h<c (b.2.1.filter λk=>!jy j b.2.2 k)->e h=bh.fn (b.2.1.filter λk=>!jy j b.2.2 k) h}) q 156 [aI 5 0,iY (l4 d)] (mV b d) (λ_=>.T [])
   (λe=>tM b d [.q 86 2 (c b.1) (a2.fn b.1),.q 90 2 (c b.2.1) e.1] (dD 3 (c b.1) (c b.1)) (dD 4 (c b.2.1) (c (b.2.1.filter λk=>!jy j b.2.2 k))) (.c (.B v 2 d.2.1.toNat (a3.fn b.2.2)))++[.N]):=by
 refine bm.bN func156 rfl rfl rfl (g.aQ ?_);have p:d.2.1.toNat=j:=w;refine a4 [-7,-16,901] a pQ ?_;refine g.hz (ι:=Unit) b6 7 8 (λh=>ay h 6) (λh=>[IK,IK,aI 5 2,ax (h6 b.2.2),iY [.int .i64 d.2.1,.int .i64 d.2.2.1,.S d.2.2.2],R d.2.1,ax (HA b d)].getD h .any) (λ_ h=>[.any,.any,.any,.any,.any,.any,.any,aI 6 0,.any].getD h .any)
  (λ_=>mV b d++[.cells 28 [cG]]) (λ_=>mV b d++[.cells 28 [.c (HA b d)]]) a a a a a a a a a a
  ⟨aT.w,aT.w,aT.w,aT.w,aT.w,aT.w,?_,B,B,B⟩
  (λ_=>⟨aT.w,aT.w,aT.w,aT.w,aT.w,aT.w,?_,B,B⟩)
  (dX.dj (dT (bf:=[]) bb a'.nil (aq:=f _) (cp:=[]) a B)) (λ_=>dT (bf:=[]) bb a'.nil (aq:=f _) (cp:=[]) a B) λ_=>?_
 .exact Rk
 .exact Rk
 refine a4 [902] a B (g.bb (mV b d++[.cells 28 [.c (h6 (b.2.2.drop j))]]) a ?_ ?_)
 .have r:=a3.g_ b.2.2 j (c b.2.2-j);have u:bW 0 (f d.2.1)=j:=p;simp only[U.Y,U,u,a9,ba,sB];exact⟨⟨bs.same,bs.same,bs.same⟩,⟨bs.same,bs.same,bs.same⟩,bs.same,bs.same,bs.same,a,r⟩
 refine g.freeze 3 6 a a a ?_;refine aR a B (g.a2 (Jd b.2.1 s 157 [h6 (b.2.2.drop j)] (jy j b.2.2) λk _=>Xa k (b.2.2.drop j) bK) [4] a bn ?_);rintro⟨e,o⟩;exact aR a ⟨show 0<=d.2.1 by omega,Int.le_refl _,show d.2.1<=(c b.2.2:Int) by omega⟩ ⟨⟨e,o⟩,.inr a,a,a,_,_,_,a,a,a,B⟩
abbrev oM(a:cc)(d:dq)(b:Nat->m M):m ar:=tM a d [.q 86 2 (c a.1) (a2.fn a.1),.q 90 2 (c a.2.1) (bh.fn a.2.1),.q 56 2 (c a.2.2) b] (dD 3 (c a.1) (c a.1)) (dD 4 (c a.2.1) (c a.2.1)) (dD 5 (c a.2.2) (c a.2.2))
abbrev yv(b:cc)(a:dq):Nat->m M:=l' (0+a.2.1.toNat) [.int .i64 (3-(b.2.2.getD (0+a.2.1.toNat) a3.E).1),.int .i64 (b.2.2.getD (0+a.2.1.toNat) a3.E).2] (a3.fn b.2.2)
def VD(b)(d:dq)(h:¬(0<=d.2.1/\d.2.1<c b.2.2)):Y q 160 [aI 6 0,iY (l4 d)] (oM b d (a3.fn b.2.2)) (.T []) (oM b d (a3.fn b.2.2)):=by
 refine bm.toY (bm.bN (ι:=Unit) (res:=λ_=>.T []) (aq:=λ_=>oM b d (a3.fn b.2.2)) func160 rfl rfl rfl (g.aQ ?_));by_cases e:0<=d.2.1
 .exact a4 [6,-15] a (by simp[e];omega) PF
 exact a4 [-6,-15] a bK PF
abbrev x7:y:=aI 6 0
abbrev IL:y:=aI 6 2
abbrev IG(a:cc):y:=.n (.R (dD 5 (c a.2.2) (c a.2.2)))
abbrev x3(b:cc)(a:dq):y:=cE 5 (.bx (c b.2.2) 2 (0+a.2.1.toNat) 0)
abbrev IJ(a:dq):y:=iY [.int .i64 a.2.1,.int .i64 a.2.2.1,.S a.2.2.2]
abbrev lA(b:cc)(a:dq):Int:=(b.2.2.getD (0+a.2.1.toNat) a3.E).1
def VE(b)(d:dq)(k:0<=d.2.1)(j:d.2.1<c b.2.2)(i:a8 .i64 (3-lA b d)):Y q 160 [aI 6 0,iY (l4 d)] (oM b d (a3.fn b.2.2)) (.T []) (oM b d (yv b d)):=by
 refine bm.toY (bm.bN (ι:=Unit) (res:=λ_=>.T []) (aq:=λ_=>oM b d (yv b d)) func160 rfl rfl rfl (g.aQ ?_));refine a4 [6,15,901] a pQ ?_;have cx:0<=d.2.1/\d.2.1<((c b.2.2:Nat):Int):=⟨k,j⟩;have h:c b.2.2=c b.2.2/\0+d.2.1.toNat<c b.2.2:=⟨rfl,by omega⟩
 refine g.hz (ι:=Unit) b6 0 18 (λe=>ay 4 e&&ay e 15) (λe=>[.any,.any,.any,.any,IJ d,R d.2.1,x7,x7,IL,IG b,IJ d,R d.2.1,x3 b d,x3 b d,R (lA b d),R (3-lA b d)].getD e .any) (λ_ e=>[x7,x7,IL,IG b,.any,.any,.any,.any,.any,.any,.any,.any,.any,.any,.any,.any,x3 b d,x3 b d,.any].getD e .any)
  (λ_=>oM b d (a3.fn b.2.2)) (λ_=>oM b d (yv b d)) a a a a a a a a a a
  ⟨B,B,B,B,aT.w,aT.w,aT.w,aT.w,aT.w,aT.w,aT.w,aT.w,?_,aT.w,?_,?_,B,B,B,B⟩
  (λ_=>⟨B,aT.w,aT.w,aT.w,aT.w,aT.w,aT.w,aT.w,aT.w,aT.w,aT.w,aT.w,?_,aT.w,?_,?_,?_,aT.w,B⟩)
  (dX.dj (aT.w)) (λ_=>?_) λ_=>?_
 .exact Fz
 .exact aT.eval (bf:=[]) bb a'.nil a h
 .exact aT.eval (bf:=[]) bb a'.nil a i
 .exact Fz
 .exact aT.eval (bf:=[]) bb a'.nil a h
 .exact aT.eval (bf:=[]) bb a'.nil a i
 .exact Fz
 .exact dT (bf:=[]) bb a'.nil (aq:=f _) a h
 exact RT
def Wc(j ff bp):Y q 49 [R j,R ff,R bp] [] (bg (decide (ff<=j/\j<=bp))) []:=by
 refine Y.I func49 rfl λd=>?_;by_cases b:ff<=j
 .by_cases s:j<=bp
  .refine a4 [10,14] a bK (g.aw a ?_);exact bv
  refine a4 [10,-14] a bK (g.aw a ?_);simp;omega
 refine a4 [-10,-14] a bK (g.aw a ?_);simp;omega
abbrev kN:bI:=kl c7 c7 c7 (λd b a=>bg (decide (b<=d/\d<=a))) λ_ _ _=>[]
def ly:bL q 49 kN:=.c7 λd b a _=>Wc d b a
def UZ(b:Nat)(k:b<=4000000):Y q 253 [R b] [] (R (fk b)) []:=by
 refine Y.I func253 rfl λj=>?_;by_cases i:b<1
 .refine a4 [6,9] a bK (g.aw a ?_);have:fk b=0:=by simp[fk,i]
  simp[this]
 by_cases h:8<b
 .refine a4 [-6,9] a bK (g.aw a ?_);have:fk b=0:=by simp[fk,h]
  simp[this]
 by_cases d:b<=2
 .refine a4 [-6,-9,10] a bK (g.aw a ?_);have:fk b=2:=by simp only[fk,bj (show¬(b<1∨8<b) by omega),bl d]
  simp[this]
 by_cases e:b<=4
 .refine a4 [-6,-9,-10,13] a bK (g.aw a ?_);have:fk b=4:=by simp only[fk,bj (show¬(b<1∨8<b) by omega),bj d,bl e]
  simp[this]
 refine a4 [-6,-9,-10,-13] a bK (g.aw a ?_);have:fk b=8:=by simp only[fk,bj (show¬(b<1∨8<b) by omega),bj d,bj e]
 simp[this]
def Wb(d)(e)(o:c d<=4000000):Y q 199 [bS.B d,b2 e] [] (bg (d.contains e)) []:=by
 refine Y.I func199 rfl λm=>?_;refine aR a B (g.aH 0 (λb=>b<=c d/\∀i,i<b->d.getD i []≠e) (λb:Nat=>[(0,bS.B d),(1,b2 e),(5,R b)]) (λ_=>[]) (λb=>c d-b) 0 a D a D a ⟨by omega,by omega⟩ ?_);rintro b ⟨j,k⟩;by_cases s:b<c d
 .have h:d.getD (b:Int).toNat bS.E=d.getD b []:=N;by_cases p:d.getD b []=e
  .refine a4 [9,17] a ?_ (g.aS (bZ.zero a ?_))
   .simp only[U,h];grind
   have:e∈d:=N;simp[this]
  refine a4 [9,-17] a ?_ (g.az (b+1) a ?_ ?_ ?_ ?_)
  .simp only[U,h,a8];grind
  .simp
  .simp
  .grind
  omega
 refine a4 [-9] a bK (g.aA ?_);refine aR a B (g.aw a ?_);have:¬e∈d:=λr=>by grind[List.getElem_of_mem]
 simp[this]
def U3(b)(d:cC b=l):Y q 252 [b2 b] [] (R (gn b)) []:=by
 refine Y.I func252 rfl λo=>?_;have j:=d;simp[cC,cm,bw]at j;refine aR a B (g.aH 0 (λe=>e<=c b) (λe:Nat=>[(0,b2 b),(3,R (gn (b.take e))),(4,R e)]) (λ_=>[]) (λe=>c b-e) 0 a (by simp[gn]) a D a w ?_);intro e i;by_cases k:e<c b
 .have C:=xS d i;have r:=xS d (e:=e+1) w;have p:=Id k;have s:=qE j.2 (b.getD e 0) (Dg k);have m:97<=ds b e/\ds b e<=122:=Fk;refine a4 [8] a ?_ (g.az (e+1) a ?_ ?_ ?_ ?_)
  .simp only[U,kk,a8];grind
  .have h:(ds b e-97) % 256=ds b e-97:=Int.emod_eq_of_lt w w;exact bF
  .simp
  .grind
  grind
 obtain rfl:e=c b:=w;exact Qt
def adA:bL q 252 (dc eL (λa=>R (gn a)) λa=>[cC a=l]):=.a9 λa b=>U3 a b
def Xn(h)(b)(d:ce h=l)(i:cC b=l):Y q 198 [R h,b2 b] [] (R (d8 h b)) []:=by
 refine Y.I func198 rfl λp=>?_;have o:a' q [(252,dc eL (λb=>R (gn b)) λb=>[cC b=l])]:=.cons adA .nil;have e:=d;simp[ce,cm,bw]at e;have j:=xR i;refine b9 o a ?_ (g.aw a ?_)
 .have m:0<=gn b*(2*h+1):=Int.mul_nonneg j.1 w;have k:gn b*(2*h+1)<=282429536481*199:=Int.mul_le_mul w w w w;generalize gn b*(2*h+1)=r at m k;simp[U,a8];grind
 exact bF
def zN:bL q 198 (ek c7 eL (λa b=>R (d8 a b)) λa b=>[ce a=l,cC b=l]):=.bl λa b d=>Xn a b d.1 d.2
def VC(d)(j)(p:c d<=4000000):Y q 197 [fi.B d,R j] [] (R (i5 d j)) []:=by
 refine Y.I func197 rfl λo=>?_;refine aR a B (g.aH 0 (λb=>b<=c d/\∀i,i<b->(d.getD i (0,0)).1≠j) (λb:Nat=>[(0,fi.B d),(1,R j),(5,R b)]) (λ_=>[]) (λb=>c d-b) 0 a D a D a ⟨by omega,by omega⟩ ?_);rintro b ⟨k,m⟩;by_cases s:b<c d
 .have h:d.getD (b:Int).toNat fi.E=d.getD b (0,0):=N;by_cases r:(d.getD b (0,0)).1=j
  .refine a4 [9,18] a ?_ (g.aS (bZ.zero a ?_))
   .simp only[U,h];grind
   have:i5 d j=(d.getD b (0,0)).2:=by
    have:d.find? (λe=>e.1==j)=f (d.getD b (0,0)):=by grind[List.find?_eq_some_iff_getElem]
    rw[i5,this]
   simp_all
  refine a4 [9,-18] a ?_ (g.az (b+1) a ?_ ?_ ?_ ?_)
  .simp only[U,h,a8];grind
  .simp
  .simp
  .grind
  omega
 refine a4 [-9] a bK (g.aA ?_);refine aR a B (g.aw a ?_);have:i5 d j=0:=by have:d.find? (λe=>e.1==j)=n:=wO;rw[i5,this]
 simp[this]
theorem Ia(a:1<=j)(b:j<=8):j<=fk j/\fk j<=8:=Fh
abbrev Hp:bI:=dc c7 (λa=>R (fk a.toNat)) λa=>[0<=a/\a<=4000000]
def adz:bL q 253 Hp:=.a9 λb d=>by
 obtain⟨a,rfl⟩:∃a:Nat,b=a:=⟨b.toNat,by exact lO⟩
 exact UZ a lO
def XL(b)(i:cC b=l):Y q 203 [b2 b] [] (b2 (fT b)) []:=by
 refine Y.I func203 rfl λk=>?_;have e:a' q [(253,Hp)]:=.cons adz .nil;have h:=i;simp only[cC,cm,bw]at h;have o:=Ia h.1.1 h.1.2;refine b9 e a bv (g.aH 0 (λd=>c b+d<=fk (c b)) (λd:Nat=>[(0,b2 (b++aU d 46)),(3,R (fk (c b)))]) (λ_=>[]) (λd=>fk (c b)-d) 0 a D a D a w ?_);intro d m;by_cases p:c b+d<fk (c b)
 .refine a_ e [10] a bK (g.az (d+1) a ?_ ?_ ?_ ?_)
  .simp[List.replicate_succ']
  .simp
  .grind
  grind
 have j:fk (c b)-c b=d:=w;refine a_ e [-10] a bK (g.aA ?_);refine b9 e a B (g.aw a ?_);simp[fT,i,j]
def Yr(b):Y q 200 [.n (.agg [.c (.int .i64 b.1),.c (.int .i64 b.2)])] [] (bg (gb b)) []:=by
 refine Y.I func200 rfl λh=>?_;have e:a' q [(49,kN)]:=.cons ly .nil;by_cases d:0<=b.1/\b.1<=999999999988
 .by_cases i:1<=b.2/\b.2<=99
  .refine a_ e [6,10] a (by simp[d,i]) (g.aw a ?_);have:gb b=l:=by simp[gb,d,i];omega
   simp[this]
  refine a_ e [6,-10] a (by simp[d,i]<;>omega) (g.aw a ?_);have:gb b=v:=by simp[gb,d];omega
  simp[this]
 refine a_ e [-6,-10] a bK (g.aw a ?_);have:gb b=v:=by simp[gb];omega
 simp[this]
abbrev HZ:bI:=dc sx (λa=>bg (gb a)) λ_=>[]
def aeh:bL q 200 HZ:=.a9 λa _=>Yr a
def Kz{a:α->Bool}{d}(b:d.any a=l):0<=gX a d:=by unfold gX;grind
theorem ZN{a:α->Bool}{d}(b:d.any a=v):gX a d=-1:=by unfold gX;grind
def V1(d)(i)(b:Int×Int->Bool)(p:∀h,h∈d->Y q i [.n (.agg [.c (.int .i64 h.1),.c (.int .i64 h.2)])] [] (bg (b h)) []):
  Y q 114 [a3.B d,ax (.fn (.func i) [] [])] [] (R (gX b d)) []:=by
 refine Y.I func114 rfl λm=>?_;have s:=m.B 0 a;refine aR a B (g.b' (λe=>e<=c d/\∀u,u<e->b (d.getD u (0,0))=v) (λe:Nat=>[(0,a3.B d),(1,ax (.fn (.func i) [] [])),(7,R (c d)),(8,R e)]) (λ_=>[]) (λe=>c d-e) 0 a D a B ⟨by omega,by omega⟩ ?_);rintro e ⟨o,x⟩;by_cases t:e<c d
 .have j:d.getD e (0,0)∈d:=N;have k:d.getD (e:Int).toNat a3.E=d.getD e (0,0):=N;refine a4 [9] a bv ?_;rw[k];refine g.aB (p _ j) [] a ?_;cases A:b (d.getD e (0,0))with
  |true=>
   exact Ps
  |false=>
   exact O9
 exact QA
def VO(d)(h)(b:Int×Int->Bool)(i:∀e,e∈d->Y q h [.n (.agg [.c (.int .i64 e.1),.c (.int .i64 e.2)])] [] (bg (b e)) []):
  Y q 69 [a3.B d,ax (.fn (.func h) [] [])] [] (bg (d.any b)) []:=by
 refine Y.I func69 rfl λj=>?_;refine aR a B (g.aB (V1 d h b i) [] a ?_);cases t:d.any b with
 |true=>
  exact OZ
 |false=>
  exact Ra
def V7(d)(i)(ai)(b:cb->Bool)(p:∀h,h∈d->Y q i [fR h,ax (.Q ai)] [] (bg (b h)) []):
  Y q 133 [a2.B d,ax (.fn (.func i) [] [.Q ai])] [] (R (gX b d)) []:=by
 refine Y.I func133 rfl λm=>?_;have s:=m.B 0 a;refine aR a B (g.b' (λe=>e<=c d/\∀u,u<e->b (d.getD u (0,[]))=v) (λe:Nat=>[(0,a2.B d),(1,ax (.fn (.func i) [] [.Q ai])),(7,R (c d)),(8,R e)]) (λ_=>[]) (λe=>c d-e) 0 a D a B ⟨by omega,by omega⟩ ?_);rintro e ⟨o,x⟩;by_cases t:e<c d
 .have j:d.getD e (0,[])∈d:=N;have k:d.getD (e:Int).toNat a2.E=d.getD e (0,[]):=N;refine a4 [9] a bv ?_;rw[k];refine g.aB (p _ j) [] a ?_;cases A:b (d.getD e (0,[]))with
  |true=>
   exact Ps
  |false=>
   exact O9
 exact QA
def VQ(d)(e)(ai)(b:cb->Bool)(i:∀h,h∈d->Y q e [fR h,ax (.Q ai)] [] (bg (b h)) []):
  Y q 93 [a2.B d,ax (.fn (.func e) [] [.Q ai])] [] (bg (d.any b)) []:=by
 refine Y.I func93 rfl λj=>?_;refine aR a B (g.aB (V7 d e ai b i) [] a ?_);cases t:d.any b with
 |true=>
  exact OZ
 |false=>
  exact Ra
def V5(d)(i)(ai)(H:X->(Nat->Option Obj)->Prop)(h:Int->Bool)(t:∀k,k∈d->Y q i [R k,ax (.Q ai)] [.K H] (bg (h k)) [.K H]):
  Y q 131 [az.B d,ax (.fn (.func i) [] [.Q ai])] [.K H] (R (gX h d)) [.K H]:=by
 refine Y.I func131 rfl λp=>?_;have x:=p.B 0 a;refine aR a B (g.aH 1 (λe=>e<=c d/\∀b,b<e->h (d.getD b 0)=v) (λe:Nat=>[(0,az.B d),(1,ax (.fn (.func i) [] [.Q ai])),(7,R (c d)),(8,R e)]) (λ_=>[.K H]) (λe=>c d-e) 0 a D a D a ⟨by omega,by omega⟩ ?_);rintro e ⟨s,m⟩;by_cases r:e<c d
 .have j:d.getD e 0∈d:=N;have o:d.getD (e:Int).toNat az.E=d.getD e 0:=N;refine a4 [9] a bv ?_;rw[o];refine g.aB (t _ j) [0] a ?_;cases u:h (d.getD e 0)with
  |true=>
   refine a4 [16] a D (g.aS (bZ.mk [0] a ?_ a a a ig));simp[td r u m]
  |false=>
   exact Ae
 refine a4 [-9] a bK (g.aA ?_);refine aR a B (g.aJ [0] a ?_ ig);simp[te (λb y=>m b w)]
def VP(d)(e)(ai)(H:X->(Nat->Option Obj)->Prop)(b:Int->Bool)(i:∀h,h∈d->Y q e [R h,ax (.Q ai)] [.K H] (bg (b h)) [.K H]):
  Y q 90 [az.B d,ax (.fn (.func e) [] [.Q ai])] [.K H] (bg (d.any b)) [.K H]:=by
 refine Y.I func90 rfl λk=>?_;refine aR a B (g.aB (V5 d e ai H b i) [0] a ?_);cases j:d.any b with
 |true=>
  refine a4 [8] a (fa (Kz j)) (g.aJ [0] a ?_ ig);simp
 |false=>
  refine a4 [-8] a (nj OJ) (g.aJ [0] a ?_ ig);simp
def GR{b d:ae}(e:r.op=.call {callee:=.builtin .append,args:=#[b,d],argTypes:=#[84,84]}):j9 S r b d 121 mH:=
 ⟨⟨84,84,Dq,Dq,e,(bb _ _ a),rfl,(bb _ _ a),rfl⟩,(bb _ _ a),by decide,by decide⟩
def Hy(d)(j):∀a,a<j->∀e∈bH.fn d a,ny e=l:=by
 intro a _ e b;have:bH.fn d a=[.int .i64 (d.getD a bH.E).1,.S (d.getD a bH.E).2]:=rfl;rw[this]at b;rcases fh.1 b with rfl|b
 .rfl
 rcases fh.1 b with rfl|b
 .rfl
 grind
abbrev pZ(a:m c1):Type:={b:fy×m X // et 2 (c a) (bH.fn a) b.2}
abbrev tv(d)(a:pZ d):ar:=.K (ct 121 2 a.1.1 (c d) a.1.2)
abbrev r5(d)(a:pZ d):M:=.val (c5 a.1.1 (c d))
def U2(d)(i:0<c d)(k:c d<=4000000):bm (ι:=pZ d) q 185 [bH.B d] [] (λb=>ax (r5 d b)) (λb=>[tv d b]):=by
 refine bm.cf func185 rfl rfl rfl λj=>?_;refine aR a B (g.er bb a a a a a a λh m=>?_);cases h with
 |true=>grind
 |false=>
  refine gv [] 7 a B (g.fE (GR a) a a a i An (Hy d _) a a λb=>?_);refine aR a B (g.bu b (g.aJ [0] a ?_ (λo e=>absurd e D)));simp
def XA(b)(h:0<c b.2)(e:c b.2<=4000000):bm (ι:=pZ b.2) q 142 [fR b] [] (λd=>.n (.agg [.c (.int .i64 b.1),.c (r5 b.2 d)])) (λd=>[tv b.2 d]):=by refine bm.bE bb func142 rfl rfl rfl λj=>?_;refine aR a B ?_;refine g.a2 (U2 b.2 h e) [] a bn ?_;intro d;refine aR a B ?_;refine g.bg d [2] ?_ (λk i=>absurd i D);simp
def nF(a:m cb)(b:Nat)(e:X)(d:Nat):M:=if d=b then .val e else .B v 2 (a.getD d (0,[])).2.length (bH.fn (a.getD d (0,[])).2)
def gr(a:m cb)(b:Nat)(e:X)(d:Nat):m M:=[.int .i64 (a.getD d (0,[])).1,nF a b e d]
def L0{Z}{i0}{bz}(t:e≠i0):bs (e+1) (cj e (gr Z i0 bz) (λb=>[a2.a8 (Z.getD e (0,[]))].getD b [])) (gr Z i0 bz):=λa d=>by
 unfold cj;split
 .rfl
 have:a=e:=w;subst this;rw[sI];exact Fq
def L2{Z}{i0}{bz E_}:bs (i0+1) (cj i0 (gr Z i0 E_) (λb=>[[.int .i64 (Z.getD i0 (0,[])).1,.val bz]].getD b [])) (gr Z i0 bz):=λa d=>by
 unfold cj;split
 .simp only[gr,nF,bj (show a≠i0 by omega)]
 have:a=i0:=w;subst this;rw[sI];simp only[gr,nF,bl];rfl
abbrev S3:Type:=Nat×fy×Nat×m X
def I3(b:m cb)(a:Nat)(d:S3):Prop:=d.1<=c b/\((d.1<=a/\d.2.2.1=0)∨(a<d.1/\d.2.2.1=(b.getD a (0,[])).2.length/\et 2 (b.getD a (0,[])).2.length (bH.fn (b.getD a (0,[])).2) d.2.2.2))
abbrev aa0(a:S3):ar:=.K (ct 121 2 a.2.1 a.2.2.1 a.2.2.2)
abbrev nT(a:S3):X:=c5 a.2.1 a.2.2.1
def Yv(b)(i0)(V:i0<c b.1)(K:0<(b.1.getD i0 (0,[])).2.length)(y:c b.1<=4000000)(z:∀e∈b.1,c e.2<=4000000)(X:c b.2.1<=4000000)(J:kz b)(S:c b.2.2<=4000000):
  bm (ι:=pZ (b.1.getD i0 (0,[])).2) q 103 [bX b] [] (λ_=>.n (.agg [.O 0 (.B (c b.1) 2 0 (c b.1)),.O 1 (.B (c b.2.1) 2 0 (c b.2.1)),.c (.B v 2 (c b.2.2) (a3.fn b.2.2))]))
   (λj=>[.q 86 2 (c b.1) (gr b.1 i0 (c5 j.1.1 (b.1.getD i0 (0,[])).2.length)),.q 90 2 (c b.2.1) (bh.fn b.2.1),tv (b.1.getD i0 (0,[])).2 j]):=by
 refine bm.bE bb func103 rfl rfl rfl λW=>?_;have k:a' q [(142,xN),(143,xO)]:=.cons EZ (.cons E0 .nil);refine a_ k [902] a B (g.ep 2 0 86 2 (a2.fn []) a a ?_);refine g.ep 2 1 90 2 (bh.fn []) a a ?_;refine g.fg 121 2 ?_;refine b9 k a B ?_;refine g.aH 6 (I3 b.1 i0) (λo:S3=>[(1,aI 0 0),(2,aI 1 0),(3,aI 2 0),(9,a2.B b.1),(10,R (c b.1)),(11,R o.1)])
  (λo=>[.cells 30 [.c (.B v 2 (c b.1) (a2.fn b.1)),.c (.B v 2 (c b.2.1) (bh.fn b.2.1)),.c (.B v 2 (c b.2.2) (a3.fn b.2.2))],.cells 30 [cG,cG,cG],.cells 30 [.O 3 (.B o.1 2 0 o.1),.O 4 (.B 0 2 0 0),cG],.q 86 2 o.1 (gr b.1 i0 (nT o)),.q 90 2 0 (bh.fn []),aa0 o]) (λo=>c b.1-o.1) (0,.nil n,0,[]) a ?_ a ?_ a ⟨by omega,.inl ⟨by omega,rfl⟩⟩ ?_
 .simp
 .simp
 rintro⟨d,h,p,m⟩ ⟨s,x⟩;simp only at s x;by_cases t:d<c b.1
 .have u:b.1.getD d (0,[])∈b.1:=N;have i:b.1.getD (d:Int).toNat a2.E=b.1.getD d (0,[]):=N;by_cases C:d=i0
  .subst C;have E:p=0:=by rcases x with⟨_,Q⟩|⟨M,_⟩<;>omega
   have O:=z _ u;refine a_ k [12,905] a bv ?_;rw[i];generalize F:b.1.getD d (0,[])=e at *;refine g.eI (ι:=pZ e.2) b6 3 5 4 (λr=>ay r 2) (λr=>[aI 2 0,cE 3 (.B d 2 0 d),fR e].getD r .any) (λj r=>[.any,.any,.any,.n (.agg [.c (.int .i64 e.1),.c (r5 e.2 j)]),ax (.B l 2 1 (λA=>[[.int .i64 e.1,r5 e.2 j]].getD A []))].getD r .any)
    (λj=>[.cells 30 [.c (.B v 2 (c b.1) (a2.fn b.1)),.c (.B v 2 (c b.2.1) (bh.fn b.2.1)),.c (.B v 2 (c b.2.2) (a3.fn b.2.2))],.cells 30 [cG,cG,cG],.cells 30 [.O 3 (.B d 2 0 d),.O 4 (.B 0 2 0 0),cG],.q 86 2 d (gr b.1 d (c5 h p)),.q 90 2 0 (bh.fn []),.K (ct 121 2 h p m),.cells 86 [.c (.int .i64 e.1),.c (.B v 2 (c e.2) (bH.fn e.2))],tv e.2 j])
    rfl rfl rfl rfl rfl rfl rfl (λr t=>by have:=fA t;omega) rfl
    ⟨aT.w,aT.w,aT.w,B,B,B,B,B,B⟩
    (λj=>⟨aT.w,aT.w,aT.w,B,aT.w,B⟩)
    (dX.ec (XA e K O) [] a a a a a a a bn a bn) λj=>?_
   refine a_ k [906] a Q0 (g.swap 5 7 b' a a (λ_ _ t=>t.1) (λ_ _ t=>t.1) ?_);refine b9 k a bF (g.az (d+1,j.1.1,c e.2,j.1.2) a D ?_ ?_ ?_)
   .have ak:=L2 (Z:=b.1) (i0:=d) (bz:=c5 j.1.1 (c e.2)) (E_:=c5 h p);rw[F]at ak;simp only[U.Y,U,a9,ba];exact⟨⟨bs.same,bs.same,bs.same⟩,⟨bs.same,bs.same,bs.same⟩,⟨a,bs.same⟩,ak,bs.same⟩
   .refine⟨by grind,.inr ⟨by grind,?_⟩⟩;grind
   grind
  refine a_ k [12] a ?_ (g.az (d+1,h,p,m) a ?_ ?_ ?_ ?_)
  .have j:=z _ u;simp only[U,i,bH.l,a8];exact⟨by omega,B,B,show(d+1)*32<=_ by omega,bH.U _,j,by omega,by omega,fa w⟩
  .simp
  .have ak:=L0 (Z:=b.1) (bz:=c5 h p) C;simp only[U.Y,U,i,bH.l,a9,ba];exact⟨⟨bs.same,bs.same,bs.same⟩,⟨bs.same,bs.same,bs.same⟩,⟨a,bs.same⟩,ak,bs.same⟩
  .refine⟨by grind,?_⟩;grind
  grind
 obtain rfl:d=c b.1:=w;obtain⟨_,E,I⟩:i0<c b.1/\p=(b.1.getD i0 (0,[])).2.length/\et 2 (b.1.getD i0 (0,[])).2.length (bH.fn (b.1.getD i0 (0,[])).2) m:=N;subst E;clear x;generalize b.1.getD i0 (0,[])=e at *;refine a_ k [-12] a D (g.aA ?_);refine b9 k a B ?_;refine g.aH 6 (λd=>d<=c b.2.1) (λd:Nat=>[(1,aI 0 0),(2,aI 1 0),(3,aI 2 0),(24,bh.B b.2.1),(25,R (c b.2.1)),(26,R d)])
  (λd=>[.cells 30 [.c (.B v 2 (c b.1) (a2.fn b.1)),.c (.B v 2 (c b.2.1) (bh.fn b.2.1)),.c (.B v 2 (c b.2.2) (a3.fn b.2.2))],.cells 30 [cG,cG,cG],.cells 30 [.O 3 (.B (c b.1) 2 0 (c b.1)),.O 4 (.B d 2 0 d),cG],.q 86 2 (c b.1) (gr b.1 i0 (c5 h (c e.2))),.q 90 2 d (bh.fn (b.2.1.take d)),.K (ct 121 2 h (c e.2) m)]) (λd=>c b.2.1-d) 0 a ?_ a ?_ a w ?_
 .simp
 .simp
 intro d s;by_cases t:d<c b.2.1
 .have u:b.2.1.getD d (0,[])∈b.2.1:=N;have i:b.2.1.getD (d:Int).toNat bh.E=b.2.1.getD d (0,[]):=N;refine a_ k [27] a ?_ (g.az (d+1) a ?_ ?_ ?_ ?_)
  .have j:=J _ u;simp only[U,i,cw.l,a8];exact⟨by omega,B,B,show(d+1)*32<=_ by omega,cw.U _,j.1,j.2,by omega,by omega,fa w⟩
  .simp
  .exact FT
  .grind
  omega
 obtain rfl:d=c b.2.1:=w;rw[c8];refine a_ k [-27] a D (g.aA ?_);refine b9 k a B (g.aB (I7 b.2.2 S) [] a (b9 k a B (g.bg ⟨(h,m),I⟩ [3,4,5] ?_ (λA T=>absurd T D))));simp
end
abbrev AN(d:m cN):Prop:=d.Pairwise λa b=>aQ a.1 b.1=l
def aex{o}(g:dO o=l):AN o:=by simp only[dO,cm]at g;have i:=gf.1 g.1;rw[AN,nf];intro e k b d a;rw[pg b,pg d];refine Mx (o:=o) (e:=k) (λm j h=>?_) e a;have:=i m w;simp[jc,cm,jL,gR]at this;grind
def zV{o}:dO o=l↔(∀d∈o,f_ d.1=l/\fU d.2=l)/\AN o/\o.Pairwise (λj k=>ld j.1 k.1=v)/\c o<=6:=by
 constructor
 .intro b;have t:=aex b;simp only[dO,cm,bw]at b;have h:=gf.1 b.1;refine⟨λd p=>?_,t,?_,b.2⟩
  .obtain⟨e,a,rfl⟩:=ha p;have:=h e a;exact Pf
  rw[nf];intro e r a g i;have:=h r g;exact Pf
 rintro⟨s,u,w,q⟩;simp only[dO,cm,bw];refine⟨gf.2 λe a=>?_,q⟩;have m:=s _ (xe a);rw[pg a]at m;simp only[jc,cm,jL,gR];grind[List.pairwise_iff_getElem,pg]
end R1
def bm.le{s:af P}{t}{args}{oJ:ι->y}(u:bm s t args k res aX){e:ι->m Prop}(x:∀a,kt (res a) (oJ a)=f (e a))(A:∀a,U (e a)):bm s t args k oJ aX:=
 ⟨u.1,λB z p j w g i=>u.2 B z p j w g λa h C q o b d r=>i a h C q o (pr (x a) (A a) b) d r⟩
def bm.R{p:af P}{q}{args}{res}{aX}(r:bm (ι:=ι) p q args k (λ_=>res) (λ_=>aX)):Y p q args k res aX:=
 ⟨r.1,λt z j h s d g=>r.2 t z j h s d λ_ e u m i a b o=>g e u m i a b o⟩
namespace R1
variable {q:af S}
abbrev us(e:c6 α)(d:m α):Type:={a:Nat->m M // ∀b,b<c d->a b=e.fn d b}
structure dJ(b:cc):Prop where
 a0:c b.1<=4000000
 bn:∀a0∈b.1,c a0.2<=4000000
 a1:c b.2.1<=4000000
 bt:kz b
 aM:c b.2.2<=4000000
def WV(b)(d)(h:dJ b)(o:d.1=1):
  bm (ι:={e:Nat->m M // ∀j,j<c (b.1.filter λi=>!(i.1==d.2.1))->e j=a2.fn (b.1.filter λi=>!(i.1==d.2.1)) j}) q 68 [bX b,ev d] []
   (λ_=>.n (.agg [dD 0 (c b.1) (c (b.1.filter λi=>!(i.1==d.2.1))),dD 1 (c b.2.1) (c b.2.1),.c (h6 b.2.2)])) (λe=>[.q 86 2 (c b.1) e.1,.q 90 2 (c b.2.1) (bh.fn b.2.1)]):=by refine bm.bE bb func68 rfl rfl rfl λp=>?_;refine aR a B (g.aB (pf b h.a0 h.bn h.a1 h.bt h.aM) [] a (aR a B (g.aB (Vl d o) [] a (aR a B (g.cL (Vs b d h.a0) a a a a D a ?_)))));rintro⟨e,k⟩;refine aR a B (g.bg ⟨e,k⟩ [3,4] ?_ eN);simp
def WU(b)(d)(k:dJ b)(o:d.1=1):Y q 68 [bX b,ev d] [] (bX (b.1.filter λa=>!(a.1==d.2.1),b.2.1,b.2.2)) []:=by
 have m:c (b.1.filter λa=>!(a.1==d.2.1))<=c b.1:=kI _ _;have e:=WV (q:=q) b d k o;have g:=bm.bK (aX:=λV:us a2 (b.1.filter λa=>!(a.1==d.2.1))=>[.q 86 2 (c b.1) V.1]) (W:=90) (h:=2) (j:=λ_=>c b.2.1) (V:=λ_=>bh.fn b.2.1) e bn (λ_=>?_) bn (λ_=>g5 _);have i:=bm.bK (aX:=λ_=>[]) (W:=86) (h:=2) (j:=λ_=>c b.1) (V:=λV:us a2 (b.1.filter λa=>!(a.1==d.2.1))=>V.1) g bn (λ_=>?_) bn (λ_=>bC _);refine(i.le (oJ:=λ_=>bX (b.1.filter λa=>!(a.1==d.2.1),b.2.1,b.2.2)) bn (λV=>?_)).R
 .simp only[U.Y,U,a9,ba];exact⟨V.2,bs.same,bs.same⟩
 .simpa using m
 simp
def W5(b)(d)(e:dJ b)(j:d.1≠1)(h:d.1≠2)(k:d.1≠3)(i:d.1≠4):
  bm (ι:=Unit) q 68 [bX b,ev d] [] (λ_=>.n (.agg [dD 0 (c b.1) (c b.1),dD 1 (c b.2.1) (c b.2.1),.c (h6 b.2.2)])) (λ_=>[.q 86 2 (c b.1) (a2.fn b.1),.q 90 2 (c b.2.1) (bh.fn b.2.1)]):=by refine bm.bE bb func68 rfl rfl rfl λm=>?_;refine aR a B (g.aB (pf b e.a0 e.bn e.a1 e.bt e.aM) [] a (aR a B (g.aB (Vn d j h k i) [] a (aR a B (g.cL (Xu (mV b d) a (.ptr 5 0)).tocI a a a a D a ?_)))));intro _;refine aR a B (g.bg () [3,4] ?_ eN);simp
def WY(b)(d:dq)(e:dJ b)(h:d.1=2)(i:d.2.1<0∨d.2.1>c b.2.2):
  bm (ι:=Unit) q 68 [bX b,ev d] [] (λ_=>.n (.agg [dD 0 (c b.1) (c b.1),dD 1 (c b.2.1) (c b.2.1),.c (h6 b.2.2)])) (λ_=>[.q 86 2 (c b.1) (a2.fn b.1),.q 90 2 (c b.2.1) (bh.fn b.2.1)]):=by refine bm.bE bb func68 rfl rfl rfl λj=>?_;refine aR a B (g.aB (pf b e.a0 e.bn e.a1 e.bt e.aM) [] a (aR a B (g.aB (Jb d h) [] a (aR a B (g.cL (UJ b d i).tocI a a a a D a ?_)))));intro _;refine aR a B (g.bg () [3,4] ?_ eN);simp
def CO{b}{d}(a:bm (ι:=Unit) q 68 [bX b,ev d] [] (λ_=>.n (.agg [dD 0 (c b.1) (c b.1),dD 1 (c b.2.1) (c b.2.1),.c (h6 b.2.2)])) (λ_=>[.q 86 2 (c b.1) (a2.fn b.1),.q 90 2 (c b.2.1) (bh.fn b.2.1)])):Y q 68 [bX b,ev d] [] (bX b) []:=by
 have e:=bm.bK (aX:=λ_:Unit=>[.q 86 2 (c b.1) (a2.fn b.1)]) (W:=90) (h:=2) (j:=λ_=>c b.2.1) (V:=λ_=>bh.fn b.2.1) a bn (λ_=>?_) bn (λ_=>g5 _);have g:=bm.bK (aX:=λ_:Unit=>[]) (W:=86) (h:=2) (j:=λ_=>c b.1) (V:=λ_=>a2.fn b.1) e bn (λ_=>?_) bn (λ_=>bC _);refine(g.le (oJ:=λ_=>bX b) bn (λV=>?_)).R
 .simp only[U.Y,U,a9,ba];exact⟨bs.same,bs.same,bs.same⟩
 .simp
 simp
def WX(b)(h:dq)(d:dJ b)(m:h.1=2)(i:Nat)(o:h.2.1=i)(p:i<=c b.2.2):
  bm (ι:=us bh (b.2.1.filter λj=>!jy i b.2.2 j)) q 68 [bX b,ev h] []
   (λ_=>.n (.agg [dD 0 (c b.1) (c b.1),dD 1 (c b.2.1) (c (b.2.1.filter λj=>!jy i b.2.2 j)),.c (.B v 2 h.2.1.toNat (a3.fn b.2.2))])) (λe=>[.q 86 2 (c b.1) (a2.fn b.1),.q 90 2 (c b.2.1) e.1]):=by refine bm.bE bb func68 rfl rfl rfl λr=>?_;refine aR a B (g.aB (pf b d.a0 d.bn d.a1 d.bt d.aM) [] a (aR a B (g.aB (Jb h m) [] a (aR a B (g.cL (UK b h i o p d.a1 d.aM) a a a a D a ?_)))));rintro⟨e,k⟩;refine aR a B (g.bg ⟨e,k⟩ [3,4] ?_ eN);simp
def WW(b)(d:dq)(u:dJ b)(p:d.1=2)(j:Nat)(w:d.2.1=j)(r:j<=c b.2.2):Y q 68 [bX b,ev d] [] (bX (b.1,b.2.1.filter λa=>!jy j b.2.2 a,b.2.2.take j)) []:=by
 have m:c (b.2.1.filter λa=>!jy j b.2.2 a)<=c b.2.1:=kI _ _;have e:=WX (q:=q) b d u p j w r;have g:=bm.bK (aX:=λ_:us bh (b.2.1.filter λa=>!jy j b.2.2 a)=>[.q 86 2 (c b.1) (a2.fn b.1)]) (W:=90) (h:=2) (j:=λ_=>c b.2.1) (V:=λV=>V.1) e bn (λ_=>?_) bn (λ_=>g5 _);have i:=bm.bK (aX:=λ_:us bh (b.2.1.filter λa=>!jy j b.2.2 a)=>[]) (W:=86) (h:=2) (j:=λ_=>c b.1) (V:=λ_=>a2.fn b.1) g bn (λ_=>?_) bn (λ_=>bC _);refine(i.le (oJ:=λ_=>bX (b.1,b.2.1.filter λa=>!jy j b.2.2 a,b.2.2.take j)) bn (λV=>?_)).R
 .have o:d.2.1.toNat=c (b.2.2.take j):=N;simp only[U.Y,U,a9,ba];refine⟨bs.same,V.2,o,λt s=>?_⟩;have k:t<j:=N;simp[c6.fn,gK,al,iA,k]
 .simp
 simpa using m
end R1
end Go.AM
