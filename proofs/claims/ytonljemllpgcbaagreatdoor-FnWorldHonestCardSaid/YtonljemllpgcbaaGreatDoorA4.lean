/- Part 4. No condition. -/
import Derived.Test.YtonljemllpgcbaaGreatDoorA3
import Derived.Lib.Bytealg
import Derived.Sort.AssemblyPlain
import Derived.Sort.LotD5
import Derived.Sort.Walk13a
import Derived.Conc.DeferLaws
import Derived.RowKit
import Derived.Conc.Holds
set_option linter.all false
set_option maxHeartbeats 8000000
open Go.Proofs
open Go.Proofs.Tryz
open List renaming length → c, range → az, replicate → aW, getD_eq_getElem?_getD → aj, all_eq_true → aX
open Go renaming Value → X, TypeId → al, Event → aR, undef → I, World → ar, Frame → aG, execOp → ab, Operand → ae, Program → aE, Goroutine → ai, stepG → aq, Oper → ao
open Option renaming some → f, none → n
open Bool renaming true → l, false → v
open Nat renaming beq → ad, ble → ay
open Go.World renaming cell? → aJ
open Go.Op renaming bytesLess → aT, equalIn → aN
open Go.Sem renaming events_bind → aD
open Go.Result renaming evThen_ok → aF
open Go.Proofs.Tryz renaming prog → V
open Go.Conc renaming stepG_seq → aw, stepG_region_end → aC
namespace Go.AM
variable {j z:Nat}{h:Int}{d i e t:Nat}{W:al}{H:X->(Nat->Option Obj)->Prop}{L:Array Bool}{bz:Mem}{E:Nat}{P:aE}{br:ai->a6->Prop}{r:Code}{B:ai}{q:ao}{b:a6}{o:al}{aa:X}{α:Type}{η:ae->x}{ι:Type}{k:m ap}{F:bJ}{all:m ao}{ds:Array al}{cap:m K}{cQ:m x}{k5:Nat->Option Obj}{ag:m aG}{bf:m (Nat×Bool)}{U:Nat->m K}{cP:ae}{gs:Array ai}{aU:m Nat}{cl:m Prop}{off:Nat}{op:BinOp}{aM:Array ao}{Y:m Prop}{bq:m ao}{aB:a6}{ty:al}{val:Nat->Nat->X}{y:m X}{bg:ar}{af:Array ae}{an dh:m ap}{res:ι->x}{aQ:ι->m ap}
variable {CT:m (Nat×bK)}{av:m im}{bd:fw}{ac:m (Nat×cm)}{a4:cm}
namespace R1
section
variable {p:ah V}
def VD(h):Z p 38 [R h] [] (bh (cj h)) []:=by
 refine Z.I func38 rfl λd=>?_;by_cases b:1<=h
 .by_cases i:h<=99
  .refine a5 [4,7] a bu (g.aq a ?_);simp[cj,b,i]
  refine a5 [4,-7] a bu (g.aq a ?_);simp[cj,b,i]
 refine a5 [-4] a bQ (g.aq a ?_);simp[cj,b]
def t38:bL p 38 (dk c8 (λa=>bh (cj a)) λ_=>[]):=.a7 λa _=>VD a
def Zi{b}(a:e<c b):dX (b.take (e+1))=(dX (b.take e)&&jp (b.getD e 0)):=by unfold dX;grind[List.take_add_one]
def C8{i}:jp i=l↔97<=(i.toNat:Int)/\(i.toNat:Int)<=122:=by simp[jp];omega
def Ke{b}(g:e<c b)(d:jp (b.getD e 0)=v):dX b=v:=by
 cases a:dX b with
 |false=>rfl
 |true=>
  have:=aX.1 a (b.getD e 0) M;grind
def VV(b):Z p 113 [b1 b] [] (bh (dX b)) []:=by
 refine Z.I func113 rfl λo=>?_;have r:=o.V 0 a;refine aO a A (g.ef (λd=>d<=c b/\dX (b.take d)=l) (λd:Nat=>[(0,b1 b),(5,R (c b)),(6,R d)]) (λ_=>[]) (λd=>c b-d) 0 a C ⟨by omega,by simp[dX]⟩ a ?_);rintro d ⟨q,k⟩;by_cases e:d<c b
 .by_cases i:dq b d<97
  .refine a5 [7,12] a ?_ (g.bR (bY.zero a ?_))
   .simp[-aj,e,kg,i]
   have:jp (b.getD d 0)=v:=by
    cases j:jp (b.getD d 0)with
    |false=>rfl
    |true=>have:=C8.1 j;unfold dq at i;omega
   simp[Ke e this]
  by_cases h:dq b d<=122
  .refine a5 [7,-12,-17] a ?_ (g.again (d+1) a ?_ ?_ ?_ a)
   .simp[-aj,e,kg,i,h,a8];grind
   .simp
   .refine⟨by omega,?_⟩;rw[Zi e,k,fR];exact C8.2 (by unfold dq at i h;omega)
   omega
  refine a5 [7,-12,17] a ?_ (g.bR (bY.zero a ?_))
  .simp[-aj,e,kg,i];grind
  have:jp (b.getD d 0)=v:=by
   cases j:jp (b.getD d 0)with
   |false=>rfl
   |true=>have:=C8.1 j;unfold dq at h;omega
  simp[Ke e this]
 have m:d=c b:=u;subst m;refine a5 [-7] a C (g.bs a a ?_);refine aO a A (g.aq a ?_);simp_all
def acM:bL p 113 (dk eE (λb=>bh (dX b)) λ_=>[]):=.a7 λa _=>VV a
abbrev adm:m (Nat×bK):=[(38,dk c8 (λa=>bh (cj a)) λ_=>[]),(113,dk eE (λb=>bh (dX b)) λ_=>[])]
def BH:ba p adm:=.cons t38 (.cons acM .nil)
def WW(b):Z p 250 [b1 b] [] (bh (cC b)) []:=by
 refine Z.I func250 rfl λe=>?_;by_cases d:1<=c b
 .by_cases i:c b<=8
  .refine a_ BH [5,9,11] a bQ (g.aq a ?_);simp[cC,d,i]
  refine a_ BH [5,-9,-11] a bQ (g.aq a ?_);simp[cC,d,i]
 refine a_ BH [-5,-11] a bQ (g.aq a ?_);simp[cC,d]
def t250:bL p 250 (dk eE (λb=>bh (cC b)) λ_=>[]):=.a7 λa _=>WW a
def T6(d:Nat)(i:d<=4000000):Z p 252 [R d] [] (R (fa d)) []:=by
 refine Z.I func252 rfl λk=>?_;by_cases h:d<1
 .refine a5 [5,9] a bQ (g.aq a ?_);simp[fa,h]
 by_cases e:8<d
 .refine a5 [-5,8] a bQ (g.aq a ?_);simp[fa,e]
 refine a5 [-5,-8] a bQ ?_;have m:fa d=2∨fa d=4∨fa d=8:=FK;refine g.ef (λb:Nat=>(b=2∨b=4∨b=8)/\b<=fa d) (λb:Nat=>[(0,R d),(3,R b)]) (λ_=>[]) (λb=>8-b) 2 a C ⟨by simp,by omega⟩ a ?_;rintro b ⟨j,w⟩;by_cases i:b<d
 .exact a5 [12] a lH (g.again (2*b) a bQ N3 u a)
 refine a5 [-12] a bQ (g.bs a a ?_);refine aO a A (g.aq a ?_);have:b=fa d:=N3;simp[this]
theorem ab7(b)(i):fm (b++[i])=if i=46 then fm b else b++[i]:=by unfold fm;grind[List.dropWhile_cons]
def Mx{b}(a:j<c b):fm (b.take (j+1))=if b.getD j 0=46 then fm (b.take j)else b.take (j+1):=by grind[List.take_add_one,ab7]
theorem XV(b):Z p 293 [b1 b,uY 46] [] (b1 (fm b)) []:=by
 refine Z.I func293 rfl λh=>?_;have o:=h.V 0 a;refine aO a A (g.ef (λj=>j<=c b/\fm (b.take j)=fm b) (λj:Nat=>[(0,b1 (b.take j)),(1,uY 46)]) (λ_=>[]) (λj=>j) (c b) a C ⟨by omega,by simp⟩ a ?_);rintro j ⟨q,d⟩;cases j with
 |zero=>
  refine a5 [-7,-16] a C (g.bs a a ?_);refine aO a A (g.aq a ?_);have:fm b=[]:=by rw[<-d];rfl
  simp[this]
 |succ j=>
  have N:c (b.take (j+1))=j+1:=M;have B:dq (b.take (j+1)) j=dq b j:=by simp[dq,aj,h2]
  have k:=Mx (b:=b) (j:=j) u;have i:((j:Int)+1-1).toNat=j:=u;by_cases e:b.getD j 0=46
  .refine a5 [7,15,16] a ?_ (g.again j a ?_ ?_ ?_ a)
   .have r:dq b j=46:=by unfold dq;exact bG
    exact QX
   .simp;show(b.take (j+1)).take _=_;grind
   .grind
   simp
  refine a5 [7,-15,-16] a ?_ (g.bs a a ?_)
  .have r:dq b j≠46:=by unfold dq;intro m;exact e (ur.1 M)
   exact QX
  refine aO a A (g.aq a ?_);rw[k,bm e]at d;simp[d]
def GK:bK:=λargs a=>match args,a with
 |[.n (.R (.c (.V b))),.n (.R (.c (.int .u8 46)))],[]=>f (b1 (fm b),[],[])
 |_,_=>n
def t293:bL p 293 GK:=by intro args g b d a e _;unfold GK at e;grind[XV]
theorem XU(b):Z p 256 [b1 b,b1 [46]] [] (b1 (fm b)) []:=by
 refine Z.I func256 rfl λh=>?_;by_cases d:b=[]
 .subst d;refine a_ (ba.cons t293 .nil) [8,12] a C (g.aq a ?_);exact bG
 refine a_ (ba.cons t293 .nil) [-8,-11,-12,16,20,21] a ?_ (g.aq a);cases b with
 |nil=>grind
 |cons e i=>simp;decide
def A9:bK:=λargs a=>match args,a with
 |[.n (.R (.c (.V b))),.n (.R (.c (.V [46])))],[]=>f (b1 (fm b),[],[])
 |_,_=>n
def acg:bL p 256 A9:=by intro args g b d a e _;unfold A9 at e;grind[XU]
def HD{a:bC}(b:e<c a):gj (a.take (e+1))=27*gj (a.take e)+(dq a e-97) % 256+1:=by unfold gj;rw[sy,bI b];simp only[uu,Option.toList_some,iL,List.foldl_nil,dq,aj,bI b,h3]
def xy{a:bC}(d:cC a=l)(k:e<=c a):0<=gj (a.take e)/\gj (a.take e)<282429536481:=by simp[cC,cn,bw]at d;obtain⟨i,b⟩:=BL (a.take e) 0 1 0 (λh g=>qv d.2 h (gY g)) u u u;have:=Lo (j:=c (a.take e)) M;rw[Int.one_mul]at b;exact⟨i,Int.lt_of_lt_of_le b this⟩
def CK{a:bC}(b:e<c a):a.getD e 0∈a:=M
abbrev adn:m (Nat×bK):=[(38,dk c8 (λa=>bh (cj a)) λ_=>[]),(250,dk eE (λb=>bh (cC b)) λ_=>[])]
def iw:ba p adn:=.cons t38 (.cons t250 .nil)
abbrev B1(a:Int):x:=.Q [.R (.c (.int .i64 a)),.R (.c .bE)]
def Wq(d:Int)(b:bC)(m:cj d=l)(h:cC b=l):Z p 245 [R d,b1 b] [] (B1 (dY d b)) []:=by
 refine Z.I func245 rfl λz=>?_;have j:=h;simp[cC,cn,bw]at j;have r:=m;simp[cj,cn,bw]at r;refine a_ iw [-8,-13] a dB (g.ef (λe=>e<=c b) (λe:Nat=>[(0,R d),(1,b1 b),(6,R (gj (b.take e))),(19,R (c b)),(20,R e)]) (λ_=>[]) (λe=>c b-e) 0 a (by simp[gj]) u a ?_);intro e k;by_cases i:e<c b
 .have q:=xy h k;have B:=xy h (e:=e+1) u;have o:=HD i;refine a5 [21] a ?_ (g.again (e+1) a ?_ ?_ ?_ a)
  .simp only[T,kg,a8];simp[-aj,i,kg];have x:=qv j.2 (b.getD e 0) (CK i);have s:97<=dq b e/\dq b e<=122:=EK;omega
  .have x:=qv j.2 (b.getD e 0) (CK i);have s:97<=dq b e/\dq b e<=122:=EK;have D:(dq b e-97) % 256=dq b e-97:=Int.emod_eq_of_lt u u;exact bG
  .grind
  grind
 have o:e=c b:=u;subst o;have q:=xx h;refine a5 [-21] a C (g.bs a a ?_);refine aO a ?_ (g.aq a ?_)
 .rw[cY];have w:0<=gj b*(2*d+1):=Int.mul_nonneg q.1 u;have t:gj b*(2*d+1)<=282429536481*199:=Int.mul_le_mul u u u u;generalize gj b*(2*d+1)=y at w t;exact wx
 rw[cY];refine T.Z.2 ⟨?_,T.Z.2 ⟨a,A⟩⟩;show(_:Int)=_;rw[Int.mul_comm 7919 d];rfl
def Ek:bL p 245 (er c8 eE (λa b=>B1 (dY a b)) λa b=>[cj a=l,cC b=l]):=.bh λa b d=>Wq a b d.1 d.2
def Dn{p:ae}(j:q.op=.binOp op o p (.const .nilIface) ty){t:Bool}{s:Array (String×al)}(x:P.underlying o=f (.interface s))(z:η p=ax .bE)(y:η (.const .nilIface)=ax .bE)(r:h_ op l=f t):a0 P q η k (ax (.bool t)) k:=by
 refine .aS λe g C w=>?_;have d:=w p;have b:=w (.const .nilIface);rw[z]at d;rw[y]at b;replace d:=b6 d;replace b:=b6 b;generalize h:g p=A at d;generalize i:g (.const .nilIface)=B at b;cases d;cases b;have m:(Op.equal o .nilIface .nilIface).run P e.a=.ok l e.a:=by show(aN (9999+1) o _ _).run P e.a=_;unfold aN;simp[underlying,x]
 have u:∀a,(Op.equal o .nilIface .nilIface).events P e.a a=a:=λa=>by show(aN (9999+1) o _ _).events P e.a a=a;unfold aN;simp[underlying,x]
 cases op<;>simp[h_,reduceCtorEq,e1]at r
 .subst r;exact⟨.bool l,by simp[ab,j,h,i,eqGuard,binOp,m],Rd.bool,by simp[ab,j,h,i,eqGuard,binOp,m,u]⟩
 subst r;exact⟨.bool v,by simp[ab,j,h,i,eqGuard,binOp,m],Rd.bool,by simp[ab,j,h,i,eqGuard,binOp,m,u]⟩
def Wo(b:Int)(d:bC)(e:Int)(h:cj b=l)(i:cC d=l):Z p 219 [R b,b1 d,R e] [] (bh (dY b d==e)) []:=by refine Z.I func219 rfl λj=>?_;refine a_ (ba.cons Ek .nil) [17] a dB ?_;refine g.aK (Dn a underlying158 a a a) a a ?_;refine a_ (ba.cons Ek .nil) [17] a oI (g.aq a ?_);simp
def t219:bL p 219 (kh c8 eE c8 (λa b d=>bh (dY a b==d)) λa b _=>[cj a=l,cC b=l]):=.c5 λa b d e=>Wo a b d e.1 e.2
abbrev mr(a:Int):x:=ax (.int .u64 a)
def _root_.Go.AM.b0.fy{r:ah P}{aL}{J s}(C:b0 r E s aL F k):b0 r E (.cond (.const (.bool v)) J s) aL F k:=by intro K u A d w D i t m j;refine .ctl d a (λ_=>y_ (o:=v) a) λy b=>?_;exact C y u (A.rely b d) (d.rely b) w D i t m λz e g p h I x B q=>j z e g p h I x B (b.aI.trans q)
def _root_.Go.AM.g.fy{P:aE}{a:ah P}{E}{bd}{av}{F}{k}{e b}(d:g a E bd (.code b::av) .normal F k):g a E bd (.code (.cond (.const (.bool v)) e b)::av) .normal F k:=b0.fy d
def J2{j m:ae}{h d}{p i}(r)(u:q.op=.binOp op o j m ty)(B:η j=ax (.int h p))(A:η m=ax (.int d i))(y:a8 h r)(s:∀g,(binOp op o (.int h p) (.int d i)).run P g=.ok (.int h r) g)(z:∀g,(binOp op o (.int h p) (.int d i)).events P g #[]=#[]):
  a0 P q η k (ax (.int h r)) k:=by refine .aS λE e F x=>?_;have b:=x j;have a:=x m;rw[B]at b;rw[A]at a;replace b:=b6 b;replace a:=b6 a;generalize t:e j=C at b;generalize w:e m=D at a;cases b;cases a;exact⟨.int h r,by simp only[ab,u,cK,t,w,qe,c9,s,dZ],.int y,by simp[ab,u,t,w,qe,xX,s,z]⟩
def Wk:Z p 309 [mr 1,mr 2] [] (.Q [.R (.c (.int .u64 0)),.R (.c (.int .u64 2))]) []:=Rg
def Wl:Z p 309 [mr 1,mr 3] [] (.Q [.R (.c (.int .u64 0)),.R (.c (.int .u64 3))]) []:=Rg
def GL:bK:=λargs b=>match args,b with
 |[.n (.R (.c (.int .u64 1))),.n (.R (.c (.int .u64 a)))],[]=>f (.Q [.R (.c (.int .u64 0)),.R (.c (.int .u64 a))],[],[a=2∨a=3])
 |_,_=>n
def MB:bL p 309 GL:=by
 intro args h e g d a b;unfold GL at a;split at a
 .cases a;rcases b with rfl|rfl
  .exact Wk
  exact Wl
 grind
def Wj(b:Int)(d:b=2∨b=3):Z p 290 [mr 1,mr b] [] (.Q [.R (.c (.int .u64 0)),.R (.c (.int .u64 b))]) []:=by refine Z.I func290 rfl λe=>?_;refine b_ (ba.cons MB .nil) a A ?_;refine g.fy ?_;refine b_ (ba.cons MB .nil) a ?_ (g.aq a);exact bu
def A_:bK:=λargs b=>match args,b with
 |[.n (.R (.c (.int .u64 1))),.n (.R (.c (.int .u64 a)))],[]=>f (.Q [.R (.c (.int .u64 0)),.R (.c (.int .u64 a))],[],[a=2∨a=3])
 |_,_=>n
def t290:bL p 290 A_:=by
 intro args h e g d a b;unfold A_ at a;split at a
 .cases a;exact Wj _ b
 grind
abbrev lG:bK:=dk eE (λa=>b1 (fJ a)) λ_=>[]
abbrev iS(a:Option bC):x:=.Q [.R (.c (.V (a.getD []))),.R (.c (.bool a.isSome))]
def WL(h:bL p 205 lG)(i):Z p 218 [b1 i] [] (iS (hJ i)) []:=by
 refine Z.I func218 rfl λk=>?_;have d:ba p [(256,A9),(250,dk eE (λj=>bh (cC j)) λ_=>[]),(205,lG)]:=.cons acg (.cons t250 (.cons h .nil));by_cases b:cC (fm i)=l
 .by_cases e:fJ (fm i)=i
  .refine a_ d [-10,-15] a dB (g.aq a ?_);simp[hJ,b,e]
  refine a_ d [-10,15] a dB (g.aq a ?_);simp[hJ,b,e]
 refine a_ d [10,15] a ?_ (g.aq a ?_)
 .simp[b]
 simp[hJ,b]
def acZ(b:bL p 205 lG):bL p 218 (dk eE (λa=>iS (hJ a)) λ_=>[]):=.a7 λa _=>WL b a
def K4{i a}(b:hJ i=f a):cC a=l:=by unfold hJ at b;grind
abbrev B0(a:cX):x:=sl.a2 a
def T2(m:bL p 205 lG)(e)(h)(b:cj h=l):Z p 185 [B0 e,R h] [] (iS (iO h e)) []:=by
 refine Z.I func185 rfl λr=>?_;have i:ba p [(218,dk eE (λk=>iS (hJ k)) λ_=>[]),(219,kh c8 eE c8 (λh d o=>bh (dY h d==o)) λh d _=>[cj h=l,cC d=l])]:=.cons (acZ m) (.cons t219 .nil);cases w:hJ e.2 with
 |none=>
  refine a_ i [16,23] a oJ (g.aq a ?_);simp[iO,w]
 |some d=>
  have q:=K4 w;by_cases j:dY h d=e.1
  .refine a_ i [-16,-23] a dB (g.aq a ?_);simp[iO,w,j,b]
  refine a_ i [-16,23] a dB (g.aq a ?_);simp[iO,w,j,b]
def MF(d:bL p 205 lG):bL p 185 (er sl c8 (λb a=>iS (iO a b)) λ_ a=>[cj a=l]):=.bh λb a e=>T2 d b a e
def Vt(b)(j):Z p 303 [B0 b,ax (.O [.int .i64 j])] [] (bh (b.1==j)) []:=by refine Z.I func303 rfl λd=>?_;exact aO a A (g.aq a)
def Ba:bK:=λargs d=>match args,d with
 |[.n (.agg [.c (.int .i64 b),.c (.V a)]),.n (.R (.c (.O [.int .i64 e])))],[]=>f (bh (b==e),[],[a=a])
 |_,_=>n
def aci:bL p 303 Ba:=by
 intro args k d e b a h;unfold Ba at a;split at a
 .rename_i i g j;cases a;exact Vt (i,g) j
 grind
abbrev H4(a:Int):x:=ax (.fn (.func 303) [] [.O [.int .i64 a]])
def pa(b:m cX)(d:Int):Int:=match b.findIdx? (λe=>e.1==d)with|some a=>a|none=>-1
def YR{o}{j}(a:e<c o)(i:(o.getD e (0,[])).1=j)(g:∀b,b<e->(o.getD b (0,[])).1≠j):pa o j=e:=by
 have:o.findIdx? (λd=>d.1==j)=f e:=by rw[AG];refine⟨a,M,λb h=>?_⟩;grind
 rw[pa,this]
def YT{o}{j}(d:∀a,a<c o->(o.getD a (0,[])).1≠j):pa o j=-1:=by have:o.findIdx? (λb=>b.1==j)=n:=ww;rw[pa,this]
def U'(o)(j):Z p 302 [bH.A o,H4 j] [] (R (pa o j)) []:=by
 refine Z.I func302 rfl λi=>?_;have q:=i.A 0 a;have d:ba p [(303,Ba)]:=.cons aci .nil;refine b_ d a A (g.b' (λb=>b<=c o/\∀e,e<b->(o.getD e (0,[])).1≠j) (λb:Nat=>[(0,bH.A o),(1,H4 j),(7,R (c o)),(8,R b)]) (λ_=>[]) (λb=>c o-b) 0 a C a A ⟨by omega,by omega⟩ ?_);rintro b ⟨m,h⟩;by_cases k:b<c o
 .by_cases r:(o.getD b (0,[])).1=j
  .refine a_ d [9,16] a ?_ (g.bR (bY.zero a ?_))
   .simp only[T,cZ];grind
   simp[YR k r h]
  refine a_ d [9,-16] a ?_ (g.b5 (b+1) a ?_ a A ?_ ?_)
  .simp only[T,cZ];exact⟨by exact bG,A,e0.2 r,by omega,by omega,fQ u⟩
  .simp
  .grind
  omega
 refine a_ d [-9] a bQ (g.bs a a ?_);refine b_ d a A (g.aq a ?_);simp[YT (λe s=>h e u)]
def A':bK:=λargs d=>match args,d with
 |[e,.n (.R (.c (.fn (.func 303) [] [.O [.int .i64 g]])))],[]=>match jT 2 e with
  |none=>n
  |some (b,a)=>f (R (pa (bH.ad b a) g),[],[bH.bM b a])
 |_,_=>n
def ach:bL p 302 A':=by
 intro args m h i g a d;unfold A' at a;split at a
 .rename_i o j;split at a
  .cases a
  rename_i q k b;cases a;exact(U' _ j).args (λ_ y=>b4.imp (λ_=>bH.cA b d) (b4.imp (λ_ e=>e) (λ_ e=>e)) y)
 grind
def YS(o)(j):(pa o j=-1/\o.find? (λb=>b.1==j)=n)∨∃a:Nat,a<c o/\pa o j=a/\o.find? (λb=>b.1==j)=f (o.getD a (0,[])):=by unfold pa;grind[List.findIdx?_eq_some_iff_getElem,List.find?_eq_some_iff_getElem]
def WF(k:bL p 205 lG)(h)(b)(j)(o:cj h=l):Z p 276 [R h,fH b,R j] [] (iS (fS h b j)) []:=by
 refine Z.I func276 rfl λs=>?_;have d:ba p [(302,A'),(185,er sl c8 (λq h=>iS (iO h q)) λ_ h=>[cj h=l])]:=.cons ach (.cons (MF k) .nil);have t:bH.ad (c b.2) (bH.fn b.2)=b.2:=bH.l _;refine gF [] 7 a A (g.freeze 5 1 a a a ?_);rcases YS b.2 j with⟨m,i⟩|⟨e,bp,m,i⟩
 .refine a_ d [14] a bG (g.aq a ?_);simp[fS,i]
 refine a_ d [-14] a bG (g.aq a ?_);have r:fS h b j=iO h (b.2.getD e (0,[])):=by simp only[fS,i]
 simp_all
def ac5(e:bL p 205 lG):bL p 276 (kh c8 (jA bH) c8 (λa d b=>iS (fS a d b)) λa _ _=>[cj a=l]):=.c5 λa d b g=>WF e a d b g
def yr:∀b(a:UInt8),Lib.indexByte b a<c b∨Lib.indexByte b a=-1
 |[],a=>.inr (by rw[Lib.indexByte.eq_def])
 |e::b,a=>by have d:=yr b a;grind[Lib.indexByte.eq_def]
set_option maxRecDepth 20000 in
theorem Vl(b)(r):Z p 238 [b1 b,uY r.toNat] [] (R (Lib.indexByte b r)) []:=by
 refine Z.I func238 rfl λM=>?_;have ae:=M.V 0 a;refine aO a A (g.R (D:=R (Lib.indexByte b r)) (an:=[]) ?_ a ?_)
 .refine aZ.a1 (λ_ _ _ _=>i_ oI) ?_;refine a0.du λe d W h=>?_;have q:=b6 (h (.tmp 5));have o:=b6 (h (.tmp 6));generalize m:d (.tmp 5)=N at q;generalize i:d (.tmp 6)=O at o;cases q with
  |V x J=>
  cases o with
  |int K=>
  have k:d (.func 285)=.func (.func 285) #[] #[]:=by
   have:=b6 (h (.func 285));generalize d (.func 285)=Y at this;cases this with
   |fn E w Q s B C t u d1 d2=>
    grind
  have y:(callFunc 285 #[.string ‹ByteArray›,.int .u8 r.toNat]).run V e.a=.ok (.value (.int .i64 (Lib.indexByte b r))) e.a:=by rw[run_callFunc_extern func285 bF bF bF (e:=Extern.BytealgIndexByte.indexByte) bF,Lib.run_indexByteString];simp_all
  have I:dz V (Extern.BytealgIndexByte.indexByte #[.string ‹ByteArray›,.int .u8 r.toNat]):=by
   refine dz.bind (z:=Extern.Bytes.bytesOf (.string ‹ByteArray›)) (λ_ _=>rfl) λs=>dz.bind (z:=Extern.Bytes.asByte (.int .u8 r.toNat)) (λ_ _=>?_) λS=>?_
   .simp[Extern.Bytes.asByte]
   .skip
    split<;>exact .pure
  have F:=Iq func285 bF bF bF (au:=Extern.BytealgIndexByte.indexByte) bF _ I e.a #[];refine⟨.int .i64 (Lib.indexByte b r),?_,Rd.int ?_,?_⟩
  rotate_left 2
  .intro U j;simp[ab,resolve,Deferred.ofValue,invoke,m,i,k,F]at j;subst j;exact .inr ⟨_,a⟩
  .simp[ab,resolve,Deferred.ofValue,invoke,m,i,k,y]
  have aa:=Lib.indexByte_ge b r;have X:=yr b r;exact cS
 exact wt
def p9(a:Nat->Int):Nat->m K:=λb=>[.int .u8 (a b)]
def Bytes(a:Nat->Int):Prop:=∀b,0<=a b/\a b<=255
abbrev eY(d:Nat)(a:Nat->Int)(b:Int):ap:=.cells 66 [.c (.A v 1 d (p9 a)),.c (.int .i64 b)]
def bl.ca{e}{fn}{args}{a:ι->m ap}(q:Tryz.prog.funcs[e]?=f fn)(o:(fn.name== "runtime.NumGoroutine")=v)(d:fn.body=f r)(j:ay args.length fn.ntmps=l)(u:kA args k->g p fn.ntmps (λs i b=>∃h,bY fn k.length (res h) (a h) s i b) [.code r] .normal (h4 0 args) k):bl p e args k res a:=
 bl.e5 q o d j λt=>b0.bw (g.aR (u t))
def g.bu{fn}{d}{a:ι->m ap}(e)(j:g p E (bY fn d (res e) (a e)) av .normal F k):g p E (λi F b=>∃h,bY fn d (res h) (a h) i F b) av .normal F k:=
 g.bU (λ_ _ _ o=>⟨e,o⟩) j
def qF(b:Nat)(d:Nat->Int)(a:Nat)(e:Int):Int:=
 if b=0 then 0 else if a<b then d a % e else
  ((d ((a:Int) % b).toNat*131+d (((a:Int)*7+3) % b).toNat*1117+a*29+(a:Int) / b*53).toNat ^^^ ((d ((a:Int) % b).toNat*131+d (((a:Int)*7+3) % b).toNat*1117+a*29+(a:Int) / b*53) / 64).toNat:Nat) % e
set_option maxRecDepth 20000 in
def IW(z)(d:Nat->Int)(o:Bytes d)(b:Nat)(j)(r:b<=4000000)(A:z<=1048576)(M:1<=j/\j<=4000000):
  Z p 12 [aI 0 0,R j] [eY z d b] (R (qF z d b j)) [eY z d (b+1)]:=by
 refine Z.I func12 rfl λw=>?_;have i:∀e,e<c ([eY z d b]:m ap)->([0]:m Nat)[e]?=f e:=λe C=>by grind
 by_cases k:z=0
 .subst k;refine a5 [-17,24] a cS (g.aJ [0] a ?_ i);exact cS
 have h:((b:Int)+1-1)=b:=u;have y:((b:Int)+1-1).toNat=b:=u;have x:=o b;by_cases E:(b:Int)<z
 .refine a5 [-17,-24,36] a ?_ (g.aJ [0] a ?_ i)
  .simp only[T,h,cZ,bw,dp,e0,a8];omega
  have:b<z:=u;simp[qF,k,this]
 refine bR [-17,-24,-36] a ?_ (g.aJ [0] a ?_ i)
 .simp only[T,h,dp,e0,a8];have q:(0:Int)<z:=u;have B:=ri (b:Int) (by omega:(z:Int)≠0);have D:=q' (b:Int) q;have t:=ri ((b:Int)*7+3) (by omega:(z:Int)≠0);have F:=q' ((b:Int)*7+3) q;have w1:0<=(b:Int) / z:=Int.ediv_nonneg u u;have w2:(b:Int) / z<=b:=Int.ediv_le_self _ u;generalize(b:Int) % z=s at *;generalize((b:Int)*7+3) % z=aa at *;generalize(b:Int) / z=I at *;have J:=o s.toNat;have K:=o aa.toNat;grind
 have:¬b<z:=u;simp[qF,k,this,h]
def K'(z)(a:Nat->Int)(h)(j)(b:1<=j):0<=qF z a h j/\qF z a h j<j:=by
 unfold qF;split
 .omega
 split
 .exact⟨ri _ u,q' _ u⟩
 exact⟨ri _ u,q' _ u⟩
def gz(z)(a:Nat->Int)(s:Bytes a)(b:Nat)(j)(i:b<=4000000)(r:z<=1048576)(m:1<=j/\j<=4000000):
  bl (ι:={d:Int // 0<=d/\d<j}) p 12 [aI 0 0,R j] [eY z a b] (λd=>R d.1) (λ_=>[eY z a (b+1)]):=by have o:=IW (p:=p) z a s b j i r m;exact⟨o.1,λt y k h q e g=>o.2 t y k h q e (g ⟨_,K' z a b j m.1⟩)⟩
def kK:∀a,a<1->([0]:m Nat)[a]?=f a:=λa b=>by grind
set_option maxRecDepth 20000 in
def Ch(z)(b:Nat->Int)(o:Bytes b)(e:Nat)(h:e<=4000000)(m:z<=1048576)(d)(t:1<=c d/\c d<=1000):
  bl (ι:={i:bC // i∈d}) p 53 [aI 0 0,bS.A d] [eY z b e] (λi=>b1 i.1) (λ_=>[eY z b (e+1)]):=by refine bl.ca func53 rfl rfl rfl λs=>?_;refine aO a A (g.aX (gz z b o e (c d) h m u) [0] a bk ?_);rintro⟨j,q,r⟩;refine aO a bQ ?_;have k:d.getD j.toNat bS.D∈d:=M;refine g.bu ⟨d.getD j.toNat bS.D,k⟩ (g.aJ [0] a ?_ kK);simp
def K7:m bC:=[[],[102],[97,47],[97,98],[97,47,98,47,99],[47,97]]
def K8:m bC:=[[97],[98],[99,47,97],[99,47,98],[100,47,97],[101],[97,47,98],[100]]
set_option maxRecDepth 20000 in
def IV(z)(d:Nat->Int)(k:Bytes d)(h:Nat)(m:h<=100000)(j:z<=1048576):
  bl (ι:={b:bC // c b<=8}) p 51 [aI 0 0] [eY z d h] (λb=>b1 b.1) (λ_=>[eY z d (h+1+1)]):=by
 refine bl.ca func51 rfl rfl rfl λt=>?_;refine aO a A (g.aX (gz z d k h 40 u j u) [0] a bk ?_);rintro⟨o,q,r⟩;by_cases s:o=0
 .refine a5 [5] a g6 ?_;have:=Ch (p:=p) z d k (h+1) u j K7 ca;refine g.bH this [0] a a a a ?_ a a a bk a bk a ?_
  .refine⟨a,λe bp=>?_⟩;rcases e with _|_|_|_|_|_|e<;>first|rfl|omega
  rintro⟨b,i⟩;refine aO a A (g.bu ⟨b,(by decide:∀b∈K7,c b<=8) b i⟩ (g.aJ [0] a ?_ kK));simp
 refine a5 [-5] a g6 ?_;have:=Ch (p:=p) z d k (h+1) u j K8 ca;refine g.bH this [0] a a a a P2 a a a bk a bk a ?_;rintro⟨b,i⟩;refine aO a A (g.bu ⟨b,(by decide:∀b∈K8,c b<=8) b i⟩ (g.aJ [0] a ?_ kK));simp
def No:m bC:=[[97,98,99],[104,101,108,108,111],[119,111,114,108,100],[97,97,97,97],[107,101,101,112],[122,122],[98,97,99,107,117,112],[113]]
abbrev RX(b:Nat):={a:bC×Nat // c a.1<=100000/\b<=a.2/\a.2<=b+60}
def IP(b)(j)(w:c b<=10)(B:0<=j/\j<=100):bl (ι:={o:bC // c o<=100000}) p 92 [b1 b,R j] [] (λo=>b1 o.1) (λ_=>[]):=by
 refine bl.ca func92 rfl rfl rfl λx=>?_;refine aO a A (g.b' (λk:Nat×bC×bC=>k.1<=100/\c k.2.2+c k.2.1*k.1<=1010) (λk=>[(0,b1 k.2.1),(1,R k.1),(5,b1 k.2.2)]) (λ_=>[]) (λk=>k.1) (j.toNat,b,[]) a bQ a A ⟨by grind,?_⟩ ?_)
 .have:c b*j.toNat<=10*100:=Nat.mul_le_mul w u;grind
 rintro⟨d,h,i⟩ ⟨r,s⟩;simp only at r s;by_cases m:0<d
 .have e:c h<=c h*d:=uq _ m;have y:((d:Int) / 2)=((d / 2:Nat):Int):=u;by_cases z:d % 2=1
  .have q:c (h++h)*(d / 2)+c h=c h*d:=by have t:d=2*(d / 2)+1:=u;grind
   refine a5 [7,10] a bu (g.b5 (d / 2,h++h,i++h) a C a A M ?_);grind
  have q:c (h++h)*(d / 2)=c h*d:=by have t:d=2*(d / 2):=u;grind
  refine a5 [7,-10] a bu (g.b5 (d / 2,h++h,i) a C a A M ?_);grind
 obtain rfl:d=0:=u;refine a5 [-7] a C (g.bs a a ?_);exact aO a A (g.bu ⟨i,by omega⟩ (g.aq a))
set_option maxRecDepth 20000 in
def XN(z)(d:Nat->Int)(j:Bytes d)(h)(I:h<=100000)(k:z<=1048576):
  bl (ι:=RX h) p 52 [aI 0 0] [eY z d h] (λy=>b1 y.1.1) (λy=>[eY z d y.1.2]):=by
 refine bl.ca func52 rfl rfl rfl λO=>?_;refine aO a A (g.aX (gz z d j h 5 u k u) [0] a bk ?_);rintro⟨T,U,V⟩;refine aO a A (g.aC 1 (λb:Nat×bC×Nat=>b.1<=4/\c b.2.1+6*b.1<=24/\h<=b.2.2/\b.2.2+b.1<=h+5) (λb=>[(0,aI 0 0),(4,R b.1),(3,b1 b.2.1)]) (λb=>[eY z d b.2.2]) (λb=>b.1) (T.toNat,[],h+1) a bQ a C a ⟨by omega,by grind,by simp,by grind⟩ ?_);rintro⟨m,b,k1⟩ ⟨D,J,F,Y⟩;simp only at D J F Y;by_cases s:0<m
 .refine a5 [9] a g6 ?_;have:=Ch (p:=p) z d j k1 u k No ca;refine g.bH this [0] a a a a P2 a a a bk a bk a ?_;rintro⟨i,r⟩;have ae:c i<=6:=(by decide:∀i∈No,c i<=6) i r;refine aO a kT (g.aw (m-1,b++i,k1+1) a bQ C M ?_);grind
 obtain rfl:m=0:=u;refine a5 [-9] a C (g.az ?_);refine aO a A (g.aX (gz z d j k1 4 u k u) [0] a bk ?_);rintro⟨S,aa,ab⟩;by_cases B:S=0
 .refine a5 [19] a (by simp[B]) (g.aX (gz z d j (k1+1) 12 u k u) [0] a bk ?_);rintro⟨W,cb,w1⟩;refine aO a A (g.aC 1 (λb:Nat×bC×Nat=>b.1<=11/\c b.2.1+b.1<=36/\h<=b.2.2/\b.2.2+b.1<=h+20) (λb=>[(0,aI 0 0),(5,R b.1),(3,b1 b.2.1)]) (λb=>[eY z d b.2.2]) (λb=>b.1) (W.toNat,b,k1+2) a bQ a bQ a ⟨by omega,by grind,by grind,by grind⟩ ?_);rintro⟨m,o,q⟩ ⟨x,Q,H,K⟩;simp only at x Q H K;by_cases s:0<m
  .refine a5 [23] a g6 (g.aX (gz z d j q 26 u k u) [0] a bk ?_);rintro⟨X,Z,L⟩;refine aO a kT (g.aw (m-1,o++[UInt8.ofNat (97+X).toNat],q+1) a bQ C M ?_);grind
  obtain rfl:m=0:=u;refine a5 [-23] a C (g.az ?_);refine a5 [-36] a bQ (g.aX (gz z d j q 60 u k u) [0] a bk ?_);rintro⟨t,G,N⟩;by_cases E:t=0
  .refine a5 [41] a bu (g.bu ⟨(o++[65],q+1),by grind,by grind,by grind⟩ (g.aJ [0] a ?_ kK));simp
  by_cases w:t=1
  .refine a5 [-41,45] a oJ (g.aX (IP [97,98,99,100,101] 9 ca ca) [] a bk ?_);rintro⟨i,r⟩;refine aO a A (g.bu ⟨(i,q+1),r,by grind,by grind⟩ (g.aJ [0] a ?_ kK));simp
  refine a5 [-41,-45] a bu (g.bu ⟨(o,q+1),by grind,by grind,by grind⟩ (g.aJ [0] a ?_ kK));simp
 refine gF [-19] 2 a (by simp[B]) (a5 [-36] a bQ (g.aX (gz z d j (k1+1) 60 u k u) [0] a bk ?_));rintro⟨t,G,N⟩;by_cases E:t=0
 .refine a5 [41] a bu (g.bu ⟨(b++[65],(k1+1)+1),by grind,by grind,by grind⟩ (g.aJ [0] a ?_ kK));simp
 by_cases w:t=1
 .refine a5 [-41,45] a oJ (g.aX (IP [97,98,99,100,101] 9 ca ca) [] a bk ?_);rintro⟨i,r⟩;refine aO a A (g.bu ⟨(i,(k1+1)+1),r,by grind,by grind⟩ (g.aJ [0] a ?_ kK));simp
 refine a5 [-41,-45] a bu (g.bu ⟨(b,(k1+1)+1),by grind,by grind,by grind⟩ (g.aJ [0] a ?_ kK));simp
def WB(z)(b:Nat->Int)(h:z<=1048576):bl (ι:={d:Nat // d<=1048576}) p 11 [ax (.A v 1 z (p9 b))] [] (λ_=>aI 0 0) (λd=>[eY d.1 b 0]):=by
 refine bl.ca func11 rfl rfl rfl λj=>?_;by_cases k:2000<z
 .refine a5 [5] a bQ (g.a_ [eY 2000 b 0] a ?_ (g.bu ⟨2000,by decide⟩ (g.aJ [0] a ?_ (λi e=>by grind))))
  .simp[bs,fs,bU]
  simp
 exact a5 [-5] a bQ (g.bu ⟨z,h⟩ (g.aJ [0] a C (λi e=>by grind)))
def CA:∀a,a<1->([0]:m Nat)[a]?=f a:=ca
def sW:∀a,a<2->([0,1]:m Nat)[a]?=f a:=ca
def gA:m cX->m X
 |[]=>[]
 |a::b=>.int .i64 a.1::jj a.2::gA b
def gr(b:m cX):Prop:=∀a∈b,a8 .i64 a.1/\c a.2<=9223372036854775807
theorem ya:∀a:m cX,c (gA a)=c a*2
 |[]=>rfl
 |d::b=>by simp only[gA,fh,ya b];omega
def Jq:∀{d:m cX}{e:Nat},e<c d->(gA d)[e*2]?=f (.int .i64 (d.getD e (0,[])).1)/\(gA d)[e*2+1]?=f (jj (d.getD e (0,[])).2)
 |[],e,a=>absurd a (iJ _)
 |g::b,0,_=>⟨rfl,rfl⟩
 |g::b,e+1,a=>by rw[show(e+1)*2=e*2+1+1 by omega];exact Jq (d:=b) (e:=e) M
def CC:∀b a:m cX,gA (b++a)=gA b++gA a
 |[],a=>rfl
 |d::b,a=>by simp only[uw,gA,CC b a]
theorem Jr:∀b(a:Nat)d,a<c b->gA (b.set a d)=(gA b).take (a*2)++[.int .i64 d.1,jj d.2]++(gA b).drop (a*2+2)
 |[],a,d,e=>absurd e (iJ _)
 |g::b,0,d,_=>by simp[gA]
 |g::b,a+1,d,e=>by rw[List.set_cons_succ,gA,Jr b a d M,gA,show(a+1)*2=a*2+1+1 by omega,show a*2+1+1+2=(a*2+2)+1+1 by omega];simp
theorem CD{d}(o:gr d):ek 2 (c d) (bH.fn d) (gA d):=by
 refine⟨ya d,λb _=>rfl,λb e p q a=>?_⟩;obtain⟨i,j⟩:=Jq e;obtain⟨m,g⟩:=o (d.getD b (0,[])) M;have k:bH.fn d b=[.int .i64 (d.getD b (0,[])).1,.V (d.getD b (0,[])).2]:=rfl;rw[k]at a
 match p,a with
 |0,a=>cases a;exact⟨_,i,λh=>Rd.int m⟩
 |1,a=>cases a;exact⟨_,j,λh=>Rd.V M g⟩
abbrev g_(a:X):x:=ax (.val a)
abbrev aH(a:fo)(d:Nat)(b:m cX):ap:=.J (cq 138 2 a d (gA b))
abbrev iu(b:Nat)(a:fo)(d:Nat):ap:=.J (ee b 250 (c0 a d))
abbrev sL(a:cX):x:=ax (.cD 138 [.int .i64 a.1,.V a.2])
abbrev xL(a:cX):x:=.n (.agg [.c (.int .i64 a.1),.c (.V a.2)])
theorem adA{a:cX}(m:m2 y [.c (.int .i64 a.1),.c (.V a.2)]):y=[.int .i64 a.1,jj a.2]:=by
 obtain⟨i,e⟩:=m
 match y,i with
 |[q,r],_=>
  obtain⟨o,h,b⟩:=e 0 _ rfl;obtain⟨p,j,d⟩:=e 1 _ rfl;cases h;cases j;have g:=b λ_ _=>n;have k:=(Eh (d λ_ _=>n)).1;cases g;rw[k]
def Sf{b d:ae}(e:q.op=.call {callee:=.builtin .append,args:=#[b,d],argTypes:=#[250,250]}):j0 V q b d 138 mz:=
 ⟨⟨250,250,CU,CU,e,(bc _ _ a),rfl,(bc _ _ a),rfl⟩,(bc _ _ a),by decide,by decide⟩
def B_(bO)(j)(d):Z p 206 [g_ (c0 bO j)] [aH bO j d] (R j) [aH bO j d]:=by refine Z.I func206 rfl λb=>?_;refine gF [] 7 a A ?_;refine g.jl bc 0 a a a a a a a a ?_;exact aO a A (g.aJ [0] a a CA)
def B'(i cap){d}(k:gr d)(o:Nat)(b:e<c d)(j:t<c d):Z p 344 [g_ (c0 (.row i cap) (c d)),R e,R t] [aH (.row i cap) (c d) d] (bh (decide ((d.getD e (0,[])).1<(d.getD t (0,[])).1))) [aH (.row i cap) (c d) d]:=by
 refine Z.I func344 rfl λm=>?_
 have h:=CD k;refine a5 [901] a A ?_;refine g.gm b5 [g_ (c0 (.row i cap) (c d)),R e,g_ (.pointer (f ⟨i,0+(e:Int).toNat*2,n⟩)),g_ (.pointer (f ⟨i,0+(e:Int).toNat*2+0,n⟩)),R (d.getD e (0,[])).1,g_ (c0 (.row i cap) (c d)),R t,g_ (.pointer (f ⟨i,0+(t:Int).toNat*2,n⟩)),g_ (.pointer (f ⟨i,0+(t:Int).toNat*2+0,n⟩)),R (d.getD t (0,[])).1,bh (decide ((d.getD e (0,[])).1<(d.getD t (0,[])).1))] 10 a a a a a ⟨
  aZ.u,aZ.u,aZ.eval (bf:=[]) bc ba.nil a bu,aZ.u,
  aZ.a1 (jW a) (a0.e9 (d:=0) (e:=e) (ak:=0) bc a a C a h a a b),
  aZ.u,aZ.u,aZ.eval (bf:=[]) bc ba.nil a bu,aZ.u,
  aZ.a1 (jW a) (a0.e9 (d:=0) (e:=t) (ak:=0) bc a a C a h a a j),
  aZ.u,A⟩ ?_
 exact aO a A (g.aJ [0] a a CA)
def Mw{g m:ae}{cap}{d}{aa}(u:q.op=.store o g m)(s:bW eN o=f mz)(b:off=e*2)(t:bD F g=cM (.pointer (f ⟨i,off,n⟩)))(r:mm (bD F m)=f [.c (.int .i64 aa.1),.c (.V aa.2)])(z:c d=j)(w:e<c d)(y:q.guard=n):
  aZ p E all q F [aH (.row i cap) j d] .any [aH (.row i cap) j (d.set e aa)]:=by subst b;have x:=eg.eP (E:=E) (k:=[aH (.row i cap) j d]) bc 0 (W:=138) (h:=2) (j:=j) (i:=i) (cap:=cap) (off:=e*2) (af:=gA d) u s t r a a a (by grind[ya]);grind[adA,Jr,aZ.er]
abbrev MA(d a:Nat)(b:m cX)(e g:Nat)(h i:Bool):m ap:=match h with
 |false=>[aH (.row d a) (c b) b]
 |true=>match i with
  |false=>[aH (.row d a) (c b) (b.set e (b.getD g (0,[])))]
  |true=>[aH (.row d a) (c b) (ju b e g)]
def Ca(i cap){d}(o:gr d)(b:e<c d)(k:t<c d):Z p 347 [g_ (c0 (.row i cap) (c d)),R e,R t] [aH (.row i cap) (c d) d] (.Q []) [aH (.row i cap) (c d) (ju d e t)]:=by
 refine Z.I func347 rfl λr=>?_;have w:=CD o;refine a5 [900] a A ?_;let h:Nat->x:=λq=>([g_ (c0 (.row i cap) (c d)),R e,g_ (c0 (.row i cap) (c d)),R t,g_ (c0 (.row i cap) (c d)),R t,g_ (.pointer (f ⟨i,0+(t:Int).toNat*2,n⟩)),xL (d.getD t (0,[])),g_ (c0 (.row i cap) (c d)),R e,g_ (.pointer (f ⟨i,0+(e:Int).toNat*2,n⟩)),xL (d.getD e (0,[])),g_ (.pointer (f ⟨i,0+(e:Int).toNat*2,n⟩)),.any,g_ (.pointer (f ⟨i,0+(t:Int).toNat*2,n⟩))]:m x).getD q .any
 refine g.b_ b5 h (nh (MA i cap d e t) 13 15) a a a a ⟨
  .bk,.bk,.bk,.bk,.bk,.bk,
  .df bc ba.nil,
  cd.hc a a a a (aZ.a1 (jW a) (a0.e9 (d:=0) (e:=t) (ak:=0) bc a a C a w a a k)),
  .bk,.bk,
  .df bc ba.nil,
  cd.hc a a a a (aZ.a1 (jW a) (a0.e9 (d:=0) (e:=e) (ak:=0) bc a a C a w a a b)),
  .df bc ba.nil,
  cd.fb a a ?_,
  .df bc ba.nil,
  cd.fc a a ?_,A⟩ ?_
 .exact Mw a a C a a a b a
 .exact Mw a a C a a C M a
 intro x j;show g p _ _ _ _ _ (MA i cap d e t (x 13) (x 15));rw[j 13 ca,j 15 ca];exact bY.di [0] a A a a a CA
def UR(B)(bO){d}(z:gr d)(D:c d<=1000){b}(C:c b.2<=9223372036854775807):
  bl (ι:=fo) p 346 [g_ (.pointer (f ⟨B,0,n⟩)),sL b] [iu B bO (c d),aH bO (c d) d] (λ_=>.Q []) (λe=>[iu B e (c d+1),aH e (c d+1) (d++[b])]):=by
 refine bl.ca func346 rfl rfl rfl λy=>?_;refine a5 [900] a A ?_;have k:=tE bO (c d);refine g.eJ (ι:=fo) b5 7 8 10 (λi=>ay i 6) (λi=>([g_ (.pointer (f ⟨B,0,n⟩)),g_ (.pointer (f ⟨B,0,n⟩)),g_ (.pointer (f ⟨B,0,n⟩)),g_ (c0 bO (c d)),sL b,xL b,ax (.A l 2 1 λq=>([[.int .i64 b.1,.V b.2]]:m (m K)).getD q [])]:m x).getD i .any) (λe _=>g_ (c0 e (c d+1))) (λe=>[iu B bO (c d),.J (cq 138 2 e (c d+1) (gA d++[.int .i64 b.1,jj b.2]))])
  rfl rfl rfl rfl rfl rfl rfl (λi w=>by exact lH) rfl
  ⟨aZ.u,aZ.u,aZ.a1 (jW a) (a0.dO a a),aZ.eD bc 0 a a a a a k a,aZ.u,aZ.a1 (jW a) (a0.gd (ag:=[.int .i64 b.1,.V b.2]) bc a a a a),aZ.u,A,A,A,A⟩
  (λe=>⟨aZ.u,aZ.u,aZ.a1 (jW a) (a0.dO a a),aZ.eD bc 0 a a a a a k a,aZ.u,aZ.a1 (jW a) (a0.gd (ag:=[.int .i64 b.1,.V b.2]) bc a a a a),aZ.u,A,A⟩)
  (dV.er a (eg.fu (d:=1) (bO:=bO) (af:=gA d) (j:=c d) (hZ:=[.int .i64 b.1,jj b.2]) (Sf a) a a a a a (λt E r u h s=>?_) zY)) λe=>?_
 .match r,h with
  |0,h=>cases h;cases s;exact bG
  |1,h=>grind[Eh]
 have o:=tE e (c d+1);refine g.aK (a0.dO a a) a a ?_;refine g.h6 bc 0 a a a a a (by cases e<;>rfl) o a a a ?_;refine aO a A ⟨e,bY.di [0,1] a A ?_ a a sW⟩;show f [_,ap.J (cq _ _ _ _ (gA d++_))]=f [_,ap.J (cq _ _ _ _ (gA (d++[b])))];rw[CC];rfl
def cq.cut{cap}{d}{e}(k:cq W 2 (.row i cap) (c d+1) (gA (d++[e])) aa k5):cq W 2 (.row i cap) (c d) (gA d) aa k5:=by obtain⟨a,b,r,p,h,j,o,q⟩:=k;rw[CC]at *;refine⟨a,λm g=>b m (AA _ g),ya d,by omega,h,gA [e]++j,M,?_⟩;grind
def UQ(B i cap){d}{b}(q:gr (d++[b]))(r:c d<=1000)(h:c d+1<=cap):
  Z p 345 [g_ (.pointer (f ⟨B,0,n⟩))] [iu B (.row i cap) (c d+1),aH (.row i cap) (c d+1) (d++[b])] (sL b) [iu B (.row i cap) (c d),aH (.row i cap) (c d) d]:=by
 refine Z.I func345 rfl λo=>?_;have j:ek 2 (c d+1) (bH.fn (d++[b])) (gA (d++[b])):=by grind[CD,List.length_append]
 refine aO a A (g.aK (a0.dO a a) a a ?_);refine g.R (aZ.eD bc 0 a a a a a a a) a ?_;refine aO a bG (g.aK (a0.dO a a) a a ?_);refine g.R (aZ.eD bc 0 a a a a a a a) a ?_;refine aO a bu (g.aK (a0.e9 (d:=1) (e:=c d) (ak:=0) bc a a (by simp[show mz.size=2 from a]) a j a a C) a a ?_);refine aO a A (g.aK (a0.dO a a) a a ?_);refine g.R (aZ.eD bc 0 a a a a a a a) a ?_;refine aO a A (g.aK (a0.jU bc a a a a a a h u u) a a ?_);rw[show(((c d+1:Nat):Int)-1).toNat=c d from by omega];refine g.aK (a0.dO a a) a a ?_;refine g.h6 bc 0 a a a a a a a a a a ?_;refine gF [] 2 a A (g.gC (ι:=Unit) 1 (λ_=>cq 138 2 (.row i cap) (c d) (gA d)) a (λs k m=>⟨(),cq.cut m⟩) λ_=>?_);refine aO a A (g.aJ [0,1] a ?_ sW);simp
abbrev sM(a:Nat):x:=ax (.cd 249 (.val (.pointer (f ⟨a,0,n⟩))))
section
variable {k:m ap}{d B j:Nat}{bO:fo}(w:c' d k=f (iu B bO j))
include w
def Jj:nQ V k 249 (.pointer (f ⟨B,0,n⟩)) "Len" 206 (c0 bO j):=.deref bc (lV type249) rfl rfl rfl underlying249 w rfl (tE bO j) rfl
def Cr:nQ V k 249 (.pointer (f ⟨B,0,n⟩)) "Less" 344 (c0 bO j):=.deref bc (lV type249) rfl rfl rfl underlying249 w rfl (tE bO j) rfl
def Ct:nQ V k 249 (.pointer (f ⟨B,0,n⟩)) "Swap" 347 (c0 bO j):=.deref bc (lV type249) rfl rfl rfl underlying249 w rfl (tE bO j) rfl
end
def X'{k}{aa}:nQ V k 249 aa "Push" 346 aa:=.ptr (lV type249) rfl rfl rfl underlying249
def X_{k}{aa}:nQ V k 249 aa "Pop" 345 aa:=.ptr (lV type249) rfl rfl rfl underlying249
theorem tJ{d}(h:gr d){e t}(a:e<c d)(b:t<c d):gr (ju d e t):=λi g=>h i (ab_ a b g)
theorem EC:∀b(d:m cX)a,a<b->i7 b d a=i7 (a+1) d a
 |0,_,_,g=>absurd g (iJ _)
 |b+1,d,a,g=>by
  rw[i7,i7];by_cases e:(a-1) / 2=a
  .grind
  rw[bm e,bm e];split
  .have r:(a-1) / 2<a:=u;rw[EC b _ _ u,EC a _ _ r]
  simp
def US(B i cap){d}(w:gr d)(N:c d<=1000){t}(D:t<c d):
  Z p 249 [sM B,R t] [iu B (.row i cap) (c d),aH (.row i cap) (c d) d] (.Q []) [iu B (.row i cap) (c d),aH (.row i cap) (c d) (i7 (t+1) d t)]:=by
 refine Z.I func249 rfl λK=>?_;refine gF [] 3 a A (g.dC 2 [0] (λb:m cX×Nat=>gr b.1/\c b.1=c d/\b.2<c d/\i7 (t+1) d t=i7 (b.2+1) b.1 b.2) (λb=>[(1,R b.2)]) (λb=>[iu B (.row i cap) (c b.1),aH (.row i cap) (c b.1) b.1]) (λb=>b.2) (d,t) a C a C a ⟨w,a,D,a⟩ ?_);rintro⟨b,e⟩ ⟨q,F,I,j⟩;simp only at q F I j;cases e with
 |zero=>
  have o:i7 (0+1) b 0=b:=by rw[i7,bo a]
  rw[o]at j;rw[j];refine gF [] 5 a lx (g.aK (J2 (h:=.i64) 0 a a a lx (λJ=>rfl) (λJ=>rfl)) a a ?_);refine a5 [11,17] a C (g.az ?_);exact OX
 |succ e=>
  refine a5 [-11,901] a lH ?_;have E:(((e+1:Nat):Int)-1) / 2=((e / 2:Nat):Int):=u;rw[E];have z:(e+1-1) / 2=e / 2:=M;have s:e / 2<c b:=u;have r:e+1<c b:=u;have o:i7 (e+1+1) b (e+1)=if nx b (e+1) (e / 2)=l then i7 (e+1) (ju b (e / 2) (e+1)) (e / 2)else b:=by rw[i7,bm u,z]
  rw[o]at j;refine g.region ?_;refine a5 [-11] a bu (g.dq (B' i cap q (c b) r s).tocH [1] (Cr (d:=0) a) a a a a a a a a bk a bk a λ_=>?_);by_cases k:nx b (e+1) (e / 2)=l
  .rw[bo k]at j;have y:=ra k;refine a5 [-17] a dB (g.dq (Ca i cap q s r).tocH [1] (Ct (d:=0) a) a a a a a a a a bk a bk a λ_=>?_);refine aO a A (g.aw (ju b (e / 2) (e+1),e / 2) a C ?_ ?_ ?_)
   .simp[px]
   .grind [tJ,px,EC]
   grind
  rw[bm k]at j;rw[j];have y:¬(b.getD (e+1) (0,[])).1<(b.getD (e / 2) (0,[])).1:=λx=>k (fQ x);refine a5 [17] a dB (g.az ?_);exact OX
def JK{k}{e j}{bO}{d}(s:c' e k=f (aH bO j d))(r:0<j)(b)(i:bb k b):∃h g,bO=.row h g/\j<=g:=by
 have m:=eo s;obtain⟨h,g,rfl⟩:=(cq.len m b i).2.2.1 r;have o:e<c b.s:=by rw[i.len];grind
 obtain⟨p,q,_⟩:=i.box e _ _ m (bI o);exact⟨h,g,a,q.2.2.2.1⟩
def U5(B)(bO){d}(k:gr d)(E:c d<=100){D}(w:a8 .i64 D.1/\c D.2<=9223372036854775807):
  bl (ι:=fo) p 204 [sM B,sL D] [iu B bO (c d),aH bO (c d) d] (λ_=>.Q []) (λh=>[iu B h (c d+1),aH h (c d+1) (hK d D)]):=by
 refine bl.ca func204 rfl rfl rfl λz=>?_;refine aO a A (g.dq (UR B bO k u w.2) [0,1] X' a a a a a a a a bk a bk a λh=>?_);have q:gr (d++[D]):=λx r=>by
  rcases fy.1 r with o|o
  .exact k x o
  grind
 refine g.fB (JK (e:=1) (j:=c d+1) (bO:=h) (d:=d++[D]) a u) λs=>?_;obtain⟨i,b,rfl,y⟩:=s;refine aO a A (g.dq (B_ (.row i b) (c d+1) (d++[D])).tocH [1] (Jj (d:=0) a) a a a a a a a a bk a bk a λ_=>?_);refine aO a bG ?_;rw[show((c d+1:Nat):Int)-1=(c d:Nat) by omega];have m:=US (p:=p) B i b q M (t:=c d) C;rw[df,gh]at m;exact g.aA m [0,1] a (aO a A ⟨.row i b,bY.di [0,1] a A a a a sW⟩)
theorem xT:∀e g(d:m cX)a b,b<=a+e->b<=a+g->g' e d a b=g' g d a b
 |0,0,_,_,_,_,_=>rfl
 |0,g+1,d,a,b,h,_=>by rw[g',g',bo u]
 |e+1,0,d,a,b,_,h=>by rw[g',g',bo u]
 |e+1,g+1,d,a,b,j,k=>by
  have i:a<jn d a b:=FF;rw[g',g'];split
  .rfl
  split
  .exact xT e g _ _ _ u u
  simp
def UP(B i cap j){d}(I:gr d)(Q:j<=c d)(V:c d<=1000):
  Z p 253 [sM B,R 0,R j] [iu B (.row i cap) (c d),aH (.row i cap) (c d) d] .any [iu B (.row i cap) (c d),aH (.row i cap) (c d) (g' j d 0 j)]:=by
 refine Z.I func253 rfl λO=>?_;refine cy a A (g.dC 2 [0,1,2] (λb:m cX×Nat=>gr b.1/\c b.1=c d/\b.2<=j/\g' j d 0 j=g' j b.1 b.2 j) (λb=>[(7,R b.2)]) (λb=>[iu B (.row i cap) (c b.1),aH (.row i cap) (c b.1) b.1]) (λb=>j-b.2) (d,0) a C a C a ⟨I,a,by omega,a⟩ ?_);rintro⟨b,e⟩ ⟨s,K,N,h⟩;simp only at s K N h;by_cases F:j<=2*e+1
 .have x:g' j b e j=b:=by rw[xT j (j+1) _ _ _ u u,g',bo F]
  rw[x]at h;rw[h];refine a5 [17,21] a Ry (g.az ?_);exact On
 have y:e<jn b e j/\jn b e j<j:=FF;have x:g' j b e j=if nx b (jn b e j) e=l then g' j (ju b e (jn b e j)) (jn b e j) j else b:=by rw[xT j (j+1) _ _ _ u u,g',bm F]
 rw[x]at h;have J:2*e+1<c b:=u;have D:e<c b:=u;have z:2*(e:Int)+1=((2*e+1:Nat):Int):=u;have M:((2*e+1:Nat):Int)+1=((2*e+2:Nat):Int):=u;refine a5 [-17,-21,904] a Rx ?_;rw[z];refine a5 [906] a Rx ?_;rw[M];apply g.cf [(0,sM B),(1,R 0),(2,R j),(7,R e),(9,R (jn b e j))] [iu B (.row i cap) (c b),aH (.row i cap) (c b) b]
 .intro dw;by_cases E:2*e+2<j
  .refine g.region ?_;refine a5 [28] a bu (g.dq (B' i cap s (c b) (e:=2*e+2) (t:=2*e+1) u J).tocH [1] (Cr (d:=0) a) a a a a a a a a bk a bk a λ_=>?_);by_cases r:nx b (2*e+2) (2*e+1)=l
   .have q:jn b e j=2*e+2:=bo ⟨E,r⟩;refine a5 [33,908] a (by simpa using ra r) (dw _ _ a ?_);simp[q]
   have q:jn b e j=2*e+1:=bm λk=>r k.2;have w:¬(b.getD (2*e+2) (0,[])).1<(b.getD (2*e+1) (0,[])).1:=λk=>r (fQ k);refine a5 [-33,908] a (by simpa using w) (dw _ _ a ?_);simp[q]
  have q:jn b e j=2*e+1:=bm λk=>E k.1;refine a5 [-28,-33,908] a bu (dw _ _ a ?_);simp[q]
 generalize jn b e j=o at *;obtain⟨U,S⟩:=y;refine g.region ?_;refine aO a A (g.dq (B' i cap s (c b) (e:=o) (t:=e) u D).tocH [1] (Cr (d:=0) a) a a a a a a a a bk a bk a λ_=>?_);by_cases r:nx b o e=l
 .rw[bo r]at h;refine a5 [-39] a (by simpa using ra r) (g.dq (Ca i cap s D (show o<c b by omega)).tocH [1] (Ct (d:=0) a) a a a a a a a a bk a bk a λ_=>?_);refine aO a A (g.aw (ju b e o,o) a C ?_ ?_ ?_)
  .simp[px]
  .grind [tJ,px]
  grind
 rw[bm r]at h;rw[h];have w:¬(b.getD o (0,[])).1<(b.getD e (0,[])).1:=λk=>r (fQ k);refine a5 [39] a (by simpa using w) (g.az ?_);exact On
def B3{j}:∀e{a:m cX}(d:Nat),gr a->d<c a->j<=c a->gr (g' e a d j)
 |0,_,_,b,_,_=>b
 |e+1,a,d,b,g,i=>by
  rw[g'];split
  .exact b
  have h:jn a d j<j:=FF;split
  .exact B3 e _ (tJ b g u) pH pH
  grind
def U4(B i cap){d}{j}(k:gr d)(r:c d=j+1)(y:j<=100)(s:j+1<=cap):
  Z p 207 [sM B] [iu B (.row i cap) (j+1),aH (.row i cap) (j+1) d] (sL ((hf d).getD j (0,[]))) [iu B (.row i cap) j,aH (.row i cap) j ((hf d).take j)]:=by
 refine Z.I func207 rfl λD=>?_;refine aO a A (g.dq (B_ (.row i cap) (j+1) d).tocH [1] (Jj (d:=0) a) a a a a a a a a bk a bk a λ_=>?_);refine aO a bG ?_;rw[show((j+1:Nat):Int)-1=((j:Nat):Int) by omega];have q:=Ca (p:=p) i cap k (e:=0) (t:=j) u u;rw[r]at q;refine g.dq q.tocH [1] (Ct (d:=0) a) a a a a a a a a bk a bk a λ_=>?_;have m:=tJ k (e:=0) (t:=j) u u;have h:=UP (p:=p) B i cap j m pH pH;have b:=B3 (j:=j) j 0 m pH pH;have o:g' j (ju d 0 j) 0 j=hf d:=by unfold hf;grind[xT]
 rw[px,r,o]at h;rw[o]at b;have x:hf d=(hf d).take j++[(hf d).getD j (0,[])]:=by
  have E:c (hf d)=j+1:=by grind[Ll]
  apply rh
  .grind
  grind
 generalize(hf d).getD j (0,[])=F at *;have w:c ((hf d).take j)=j:=M;generalize(hf d).take j=z at *;rw[x]at h b;subst w;refine aO a A (g.aA h [0,1] a (aO a A (g.dq (UQ B i cap b u s).tocH [0,1] X_ a a a a a a a a bk a bk a λ_=>?_)));refine aO a A (g.aJ [0,1] a C sW)
def ZM{ac}{e g:ae}(s:q.op=.binOp op o e g ty){r}{cw}(j:P.underlying o=f (.interface cw))(y:η e=ax .bE)(x:η g=ax (.val (.iface ac aa)))(w:∀Q,(eqGuard op o e g .nilIface (.iface ac aa)).run P Q=.ok () Q)(ak:∀Q a,(eqGuard op o e g .nilIface (.iface ac aa)).events P Q a=a)(d:h_ op v=f r):a0 P q η k (ax (.bool r)) k:=by
 refine .aS λb t C u=>?_;have p:=u e;have m:=u g;rw[y]at p;rw[x]at m;replace p:=b6 p;replace m:=b6 m;generalize i:t e=z at p;generalize N:t g=A at m;cases p;cases m;have h:(Op.equal o .nilIface (.iface ac aa)).run P b.a=.ok v b.a:=QH;have B:∀a,(Op.equal o .nilIface (.iface ac aa)).events P b.a a=a:=λa=>by show(aN (9999+1) o _ _).events P b.a a=a;unfold aN;simp[underlying,j]
 cases op<;>simp only[h_,reduceCtorEq,e1]at d
 .exact QD
 exact Qa
abbrev S8(a:X):x:=ax (.val a)
def IE(ac)(aa):Z p 246 [ax .bE,S8 (.iface ac aa)] [] (bh v) []:=by refine Z.I func246 rfl λb=>?_;refine aO a A ?_;refine g.aK (Dn a underlying158 a a a) a a ?_;refine a5 [11] a C ?_;refine g.aK (ZM a underlying158 a a bk (λ_ _=>rfl) a) a a ?_;exact aO a A (g.aq a a)
abbrev il(b a:al×X):m ap:=[.J (ee 2 158 (.iface b.1 b.2)),.J (ee 3 158 (.iface a.1 a.2))]
def qj:∀a,a<2->([0,1]:m Nat)[a]?=f a:=ca
def Cf(i e)(h)(d)(j:cj h=l)(m:cC d=l):Z p 200 [R h,b1 d] (il i e) (R (dY h d)) (il i e):=by refine Z.I func200 rfl λk=>?_;have b:ba p [(245,er c8 eE (λh d=>B1 (dY h d)) λh d=>[cj h=l,cC d=l])]:=.cons Ek .nil;refine b_ b a dB ?_;refine g.R (aZ.gq bc 0 a a a a a a) a ?_;refine g.aA (IE _ _) [] a ?_;refine b_ b a A ?_;refine g.R (aZ.gq bc 1 a a a a a a) a ?_;refine g.iC (IE _ _) [] a a a a a a a a a a a ?_;exact a_ b [-20] a C (g.aJ [0,1] a a qj)
end
section
open Go.Sort (swp insInner insOuter ltInt)
variable {p:ah V}
def Vu(j):Z p 262 [R j] [] (bh v) []:=by refine Z.I func262 rfl λb=>?_;exact a5 [-5] a C (g.aq a)
abbrev G9:bK:=dk c8 (λ_=>bh v) λ_=>[]
def acV:bL p 262 G9:=.a7 λa _=>Vu a
def VQ(b d):Z p 226 [R b,R d] [] (bh (ltInt b d)) []:=by have e:ba p [(262,G9)]:=.cons acV .nil;refine Z.I func226 rfl λh=>?_;refine b_ e a C (g.aq a ?_);simp[ltInt]
abbrev p_:bK:=er c8 c8 (λa b=>bh (ltInt a b)) λ_ _=>[]
def r2:bL p 226 p_:=.bh λa b _=>VQ a b
def sP(a:Array Int)(b:Nat):m K:=[.int .i64 a[b]!]
abbrev dI(a:Nat):x:=cD 0 (.A a 1 0 a)
abbrev cE(b:Nat)(a:Array Int):ap:=.p 3 1 b (sP a)
def ha:∀a,a<1->([0]:m Nat)[a]?=f a:=λa b=>by grind
end
section
open Go.Sort (swp insInner insOuter insertionSort ltInt)
variable {p:ah V}
def k9{a}(q:a.size=j)(k:e<j)(o:t<j){g:Nat->m K}(h:bs j g (sP a)):bs j (l3 t [.int .i64 a[e]!] (l3 e [.int .i64 a[t]!] g)) (sP (swp a e t)):=by
 intro b d;have p:(swp a e t)[b]! = if b=t then a[e]! else if b=e then a[t]! else a[b]! := by unfold swp;grind
 have i:=h b d;simp only[sP,l3]at i⊢;grind
theorem nF(a:Array Int)(e t):(swp a e t).size=a.size:=by simp[swp]
theorem Y8{b}{a}(e:b<t)(d:ltInt a[t]! a[t-1]! = l):insInner ltInt b t a=insInner ltInt b (t-1) (swp a t (t-1)):=by
 cases t with
 |zero=>omega
 |succ t=>
  simp only[pS]at d⊢;rw[insInner,bo];grind
def J1{b}{a}(d:b<t->ltInt a[t]! a[t-1]! = v):insInner ltInt b t a=a:=by
 cases t with
 |zero=>rfl
 |succ t=>
  simp only[pS]at d;rw[insInner,bm];grind
theorem Vq(j)(m)(d i)(B:m.size=j)(K:i<=j)(J:d<=j)(M:j<=4000000):
  Z p 220 [dI j,R d,R i] [cE j m] (.Q []) [cE j (insertionSort ltInt m d i)]:=by
 have w:ba p [(226,p_)]:=.cons r2 .nil;refine Z.I func220 rfl λI=>?_;refine aO a bG (g.aC 1 (λb:Nat×Array Int=>b.2.size=j/\d+1<=b.1/\b.1<=j+1/\insOuter ltInt d i b.1 b.2=insertionSort ltInt m d i) (λb=>[(0,dI j),(1,R d),(2,R i),(6,R b.1)]) (λb=>[cE j b.2]) (λb=>i-b.1) (d+1,m) a C a C a ⟨B,by omega,by grind,a⟩ ?_);rintro⟨e,d1⟩ ⟨y,t,z,o⟩;simp only at y t z o;by_cases s:e<i
 .refine a5 [12] a bQ (g.aC 1 (λb:Nat×Array Int=>b.2.size=j/\b.1<=e/\insInner ltInt d b.1 b.2=insInner ltInt d e d1) (λb=>[(0,dI j),(1,R d),(2,R i),(6,R e),(7,R b.1)]) (λb=>[cE j b.2]) (λb=>b.1) (e,d1) a C a C a ⟨y,by simp,a⟩ ?_);rintro⟨k,d2⟩ ⟨q,D,r⟩;simp only at q D r;by_cases E:d<k
  .have h:((k:Int)-1).toNat=k-1:=u;by_cases x:ltInt d2[k]! d2[k-1]! = l
   .refine a_ w [18,29] a ?_ ?_
    .simp[a8,h,x];omega
    refine g.aw (k-1,swp d2 k (k-1)) a bQ ?_ ?_ ?_
    .simp only[T.Z,T,h,cW,cZ,a7,a'];exact k9 q u u (λ_ _=>rfl)
    .refine⟨by grind[nF],by omega,?_⟩;grind[Y8]
    omega
   refine a_ w [18,-29] a ?_ (g.az ?_)
   .simp[a8,h,x];omega
   refine aO a bG (g.aw (e+1,d2) a C C ?_ ?_)
   .refine⟨q,by omega,by grind,?_⟩;simp only;rw[<-o,insOuter.eq_1 ltInt d i e,bo s,<-r,J1 λ_=>by grind]
   omega
  refine a_ w [-18] a bu (g.az ?_);refine aO a bG (g.aw (e+1,d2) a C C ?_ ?_)
  .refine⟨q,by omega,by grind,?_⟩;simp only;rw[<-o,insOuter.eq_1 ltInt d i e,bo s,<-r,J1 λF=>absurd F E]
  omega
 refine a5 [-12] a bQ (g.az ?_);have:insertionSort ltInt m d i=d1:=by rw[<-o,insOuter,bm s]
 rw[this];exact sc
end
section
open Go.Sort (swp siftDown ltInt)
variable {p:ah V}
def abz{bp first root}{a}(b:¬2*root+1<bp):siftDown ltInt bp first root a=a:=by rw[siftDown,dif_pos u]
theorem Me{bp first root}{a}(e:2*root+1<bp)(b:2*root+1+1<bp->ltInt a[first+(2*root+1)]! a[first+(2*root+1)+1]! = v)(d:ltInt a[first+root]! a[first+(2*root+1)]! = l):
  siftDown ltInt bp first root a=siftDown ltInt bp first (2*root+1) (swp a (first+root) (first+(2*root+1))):=by rw[siftDown.eq_1 ltInt bp first root a,dif_neg u,bm M,bm M]
theorem Mf{bp first root}{a}(e:2*root+1<bp)(b:2*root+1+1<bp->ltInt a[first+(2*root+1)]! a[first+(2*root+1)+1]! = v)(d:ltInt a[first+root]! a[first+(2*root+1)]! = v):
  siftDown ltInt bp first root a=a:=by rw[siftDown.eq_1 ltInt bp first root a,dif_neg u,bm M,bo M]
theorem abx{bp first root}{a}(e:2*root+1+1<bp)(b:ltInt a[first+(2*root+1)]! a[first+(2*root+1+1)]! = l)(d:ltInt a[first+root]! a[first+(2*root+1+1)]! = l):
  siftDown ltInt bp first root a=siftDown ltInt bp first (2*root+1+1) (swp a (first+root) (first+(2*root+1+1))):=by rw[siftDown.eq_1 ltInt bp first root a,dif_neg u,bo M,bm M,dif_pos u]
theorem aby{bp first root}{a}(e:2*root+1+1<bp)(b:ltInt a[first+(2*root+1)]! a[first+(2*root+1+1)]! = l)(d:ltInt a[first+root]! a[first+(2*root+1+1)]! = v):
  siftDown ltInt bp first root a=a:=by rw[siftDown.eq_1 ltInt bp first root a,dif_neg u,bo M,bo M]
theorem Xj(j)(k)(d b first:Nat)(s:k.size=j)(D:first+b<=j)(x:d<=j)(E:j<=4000000):
  Z p 257 [dI j,R d,R b,R first] [cE j k] (.Q []) [cE j (siftDown ltInt b first d k)]:=by
 have m:ba p [(226,p_)]:=.cons r2 .nil;refine Z.I func257 rfl λz=>?_;refine aO rfl A (g.aC 1 (λe:Nat×Array Int=>e.2.size=j/\e.1<=j/\siftDown ltInt b first e.1 e.2=siftDown ltInt b first d k) (λe=>[(0,dI j),(1,R d),(2,R b),(3,R first),(8,R e.1)]) (λe=>[cE j e.2]) (λe=>b-e.1) (d,k) rfl ?_ rfl ?_ rfl ⟨s,x,rfl⟩ ?_)
 .simp
 .simp
 rintro⟨root,d1⟩ ⟨t,y,o⟩;simp only at t y o;by_cases q:2*root+1<b
 .have r:((first:Int)+(2*(root:Int)+1)).toNat=first+(2*root+1):=u
  have au:((first:Int)+(2*(root:Int)+1)+1).toNat=first+(2*root+1+1):=u
  by_cases C:2*root+1+1<b
  .by_cases B:ltInt d1[first+(2*root+1)]! d1[first+(2*root+1+1)]! = l
   .have h:((first:Int)+(2*(root:Int)+1+1)).toNat=first+(2*root+1+1):=u
    have w:((first:Int)+(root:Int)).toNat=first+root:=u
    by_cases i:ltInt d1[first+root]! d1[first+(2*root+1+1)]! = l
    .refine be m [-16,20,35,51] rfl ?_ (g.aw (2*root+1+1,swp d1 (first+root) (first+(2*root+1+1))) rfl ?_ ?_ ?_ ?_)
     .exact QA
     .simp
     .simp only[T.Z,T,cW,r,au,w,h,a7,a'];exact k9 t u u (λ_ _=>rfl)
     .grind [nF,abx]
     grind
    rw[pV]at i;rw[show siftDown ltInt b first d k=d1 by grind[aby]];refine be m [-16,20,35,-51] a ?_ (g.aT (bY.mk [0] a A a a a ha));exact QA
   rw[pV]at B;have w:((first:Int)+(root:Int)).toNat=first+root:=u
   by_cases i:ltInt d1[first+root]! d1[first+(2*root+1)]! = l
   .refine be m [-16,20,-35,51] rfl ?_ (g.aw (2*root+1,swp d1 (first+root) (first+(2*root+1))) rfl ?_ ?_ ?_ ?_)
    .exact Oa
    .simp
    .exact Pf
    .grind [nF,Me]
    grind
   rw[pV]at i;rw[show siftDown ltInt b first d k=d1 by grind[Mf]];refine be m [-16,20,-35,-51] a ?_ (g.aT (bY.mk [0] a A a a a ha));exact Oa
  have B:True:=A;have w:((first:Int)+(root:Int)).toNat=first+root:=u
  by_cases i:ltInt d1[first+root]! d1[first+(2*root+1)]! = l
  .refine be m [-16,-20,51] rfl ?_ (g.aw (2*root+1,swp d1 (first+root) (first+(2*root+1))) rfl ?_ ?_ ?_ ?_)
   .exact Pa
   .simp
   .exact Pf
   .grind [nF,Me]
   grind
  rw[pV]at i;rw[show siftDown ltInt b first d k=d1 by grind[Mf]];refine be m [-16,-20,-51] a ?_ (g.aT (bY.mk [0] a A a a a ha));exact Pa
 refine a5 [16] a sf (g.az ?_);rw[<-o,abz q];exact sc
end
section
open Go.Sort (swp order2 median medianAdjacent choosePivot Hint ltInt)
variable {p:ah V}
abbrev mj(a:Nat):ap:=.cells 3 [.c (.int .i64 a)]
abbrev sO:x:=aI 1 0
abbrev acJ(a b:Nat):x:=.Q [.R (.c (.int .i64 a)),.R (.c (.int .i64 b))]
def x':∀a,a<2->([0,1]:m Nat)[a]?=f a:=λa b=>by grind
def Ci(j)(e)(d i b)(r:d<j)(s:i<j)(t:j<=4000000)(o:b<=1000):
  Z p 297 [dI j,R d,R i,sO] [cE j e,mj b] (acJ (order2 ltInt e d i b).1 (order2 ltInt e d i b).2.1) [cE j e,mj (order2 ltInt e d i b).2.2]:=by
 have m:ba p [(226,p_)]:=.cons r2 .nil;refine Z.I func297 rfl λq=>?_;by_cases h:ltInt e[i]! e[d]! = l
 .have k:order2 ltInt e d i b=(i,d,b+1):=by simp[order2,h]
  rw[k];refine be m [18] a ?_ (g.aJ [0,1] a ?_ x')
  .simp only[T,cW,cZ,h,a8,a',a7];exact fv
  simp
 have k:order2 ltInt e d i b=(d,i,b):=by simp[order2,h]
 rw[k];rw[pV]at h;refine be m [-18] a dB (g.aJ [0,1] a ?_ x');simp
def vE{N}{a eT}(b:a<j)(d:i<j):(order2 ltInt N a i eT).1<j/\(order2 ltInt N a i eT).2.1<j/\(order2 ltInt N a i eT).2.2<=eT+1:=by unfold order2;split<;>simp only<;>omega
theorem IQ(j)(N)(b i r eT)(h:b<j)(k:i<j)(m:r<j)(e:j<=4000000)(q:eT<=900):
  Z p 261 [dI j,R b,R i,R r,sO] [cE j N,mj eT] (R (median ltInt N b i r eT).1) [cE j N,mj (median ltInt N b i r eT).2]:=by refine Z.I func261 rfl λs=>?_;have d:=vE (N:=N) (eT:=eT) h k;have o:=vE (N:=N) (eT:=(order2 ltInt N b i eT).2.2) d.2.1 m;refine cy a A (g.aA (Ci j N b i eT h k e u) [0,1] a (cy a A (g.aA (Ci j N (order2 ltInt N b i eT).2.1 r (order2 ltInt N b i eT).2.2 d.2.1 m e u) [0,1] a (cy a A (g.aA (Ci j N (order2 ltInt N b i eT).1 (order2 ltInt N (order2 ltInt N b i eT).2.1 r (order2 ltInt N b i eT).2.2).1 (order2 ltInt N (order2 ltInt N b i eT).2.1 r (order2 ltInt N b i eT).2.2).2.2 d.1 o.1 e u) [0,1] a (cy a A (g.aJ [0,1] a ?_ x')))))));simp[median]
def Zx{N}{a r eT}(d:a<j)(g:i<j)(h:r<j):(median ltInt N a i r eT).1<j/\(median ltInt N a i r eT).2<=eT+3:=by have b:=vE (N:=N) (eT:=eT) d g;have e:=vE (N:=N) (eT:=(order2 ltInt N a i eT).2.2) b.2.1 h;have k:=vE (N:=N) (eT:=(order2 ltInt N (order2 ltInt N a i eT).2.1 r (order2 ltInt N a i eT).2.2).2.2) b.1 e.1;unfold median;grind
theorem Wi(j)(e)(b d:Nat)(s:1<=b)(t:b+1<j)(q:j<=4000000)(o:d<=900):
  Z p 260 [dI j,R b,sO] [cE j e,mj d] (R (medianAdjacent ltInt e b d).1) [cE j e,mj (medianAdjacent ltInt e b d).2]:=by
 refine Z.I func260 rfl λr=>?_;obtain⟨b,rfl⟩:∃h,b=h+1:=⟨b-1,by omega⟩
 refine cy a bG ?_;have key:∀i k m:Int,i=(b:Int)->k=((b+1:Nat):Int)->m=((b+1+1:Nat):Int)->Z p 261 [dI j,R i,R k,R m,sO] [cE j e,mj d] (R (median ltInt e b (b+1) (b+1+1) d).1) [cE j e,mj (median ltInt e b (b+1) (b+1+1) d).2]:=by rintro i k m rfl rfl rfl;exact IQ j e b (b+1) (b+1+1) d u u u q o
 refine g.aA (key (((b+1:Nat):Int)-1) _ (((b+1:Nat):Int)+1) u a u) [0,1] a (cy a A (g.aJ [0,1] a ?_ x'));simp[medianAdjacent]
def qp:Hint->Int|.unknown=>0|.increasing=>1|.decreasing=>2
def IR(b:Nat)(d:Array Int){w r:Nat}(a:Nat)(k:w<b)(o:i<b)(q:r<b)(t:b<=4000000)(j:a<=900){e g h:Int}(s:e=w)(m:g=i)(u:h=r):
  Z p 261 [dI b,R e,R g,R h,sO] [cE b d,mj a] (R (median ltInt d w i r a).1) [cE b d,mj (median ltInt d w i r a).2]:=by grind[IQ]
def Ce(b:Nat)(d:Array Int){w:Nat}(a:Nat)(h:1<=w)(i:w+1<b)(k:b<=4000000)(g:a<=900){e:Int}(j:e=w):
  Z p 260 [dI b,R e,sO] [cE b d,mj a] (R (medianAdjacent ltInt d w a).1) [cE b d,mj (medianAdjacent ltInt d w a).2]:=by grind[Wi]
def Dd{N:Array Int}{w eT:Nat}(a:1<=w)(b:w+1<j):(medianAdjacent ltInt N w eT).1<j/\(medianAdjacent ltInt N w eT).2<=eT+3:=
 Zx u u u
abbrev CO(a:Nat):Hint:=if a=0 then .increasing else if a=12 then .decreasing else .unknown
def SP{b:Array Int}{a:Nat}(g:8<=d)(e:d<50):choosePivot ltInt b a (a+d)=((median ltInt b (a+d / 4*1) (a+d / 4*2) (a+d / 4*3) 0).1,CO (median ltInt b (a+d / 4*1) (a+d / 4*2) (a+d / 4*3) 0).2):=by unfold choosePivot;grind
abbrev oj(b:Array Int)(a d:Nat):=medianAdjacent ltInt b (a+d / 4*1) 0
abbrev ol(b:Array Int)(a d:Nat):=medianAdjacent ltInt b (a+d / 4*2) (oj b a d).2
abbrev om(b:Array Int)(a d:Nat):=medianAdjacent ltInt b (a+d / 4*3) (ol b a d).2
def SO{a:Array Int}{b:Nat}(e:50<=d):choosePivot ltInt a b (b+d)=((median ltInt a (oj a b d).1 (ol a b d).1 (om a b d).1 (om a b d).2).1,CO (median ltInt a (oj a b d).1 (ol a b d).1 (om a b d).1 (om a b d).2).2):=by unfold choosePivot;grind
def T1(j:Nat)(N:Array Int)(w i:Nat)(m:w<=i)(t:i<=j)(h:8<=i-w)(d:j<=4000000):
  Z p 223 [dI j,R w,R i] [cE j N] (.Q [.R (.c (.int .i64 (choosePivot ltInt N w i).1)),.R (.c (.int .i64 (qp (choosePivot ltInt N w i).2)))]) [cE j N]:=by
 refine Z.I func223 rfl λo=>?_;obtain⟨b,rfl⟩:∃b,i=w+b:=⟨i-w,by omega⟩
 rw[Av]at h;by_cases k:b<50
 .refine bR [32,-34] a QE (g.aA (IR j N (w:=w+b / 4*1) (i:=w+b / 4*2) (r:=w+b / 4*3) 0 u u u d u u u u) [0,1] a ?_);rw[SP h k];generalize median ltInt N (w+b / 4*1) (w+b / 4*2) (w+b / 4*3) 0=e;by_cases ak:e.2=0
  .exact Qj
  by_cases au:e.2=12
  .exact P4
  exact QY
 refine bR [32,34] a QE ?_;have q:(oj N w b).1<j/\(oj N w b).2<=0+3:=Dd (N:=N) (w:=w+b / 4*1) (eT:=0) (j:=j) u u;have s:(ol N w b).1<j/\(ol N w b).2<=(oj N w b).2+3:=Dd (N:=N) (w:=w+b / 4*2) (eT:=(oj N w b).2) (j:=j) u u;have x:(om N w b).1<j/\(om N w b).2<=(ol N w b).2+3:=Dd (N:=N) (w:=w+b / 4*3) (eT:=(ol N w b).2) (j:=j) u u;refine g.aA (Ce j N (w:=w+b / 4*1) 0 u u d u u) [0,1] a (cy a A (g.aA (Ce j N (w:=w+b / 4*2) (oj N w b).2 u u d u u) [0,1] a (cy a A (g.aA (Ce j N (w:=w+b / 4*3) (ol N w b).2 u u d u u) [0,1] a (cy a A (g.aA (IR j N (w:=(oj N w b).1) (i:=(ol N w b).1) (r:=(om N w b).1) (om N w b).2 u u u d u a a a) [0,1] a ?_))))));rw[SO u];generalize median ltInt N (oj N w b).1 (ol N w b).1 (om N w b).1 (om N w b).2=e;by_cases ak:e.2=0
 .exact Qj
 by_cases au:e.2=12
 .exact P4
 exact QY
end
section
open Go.Sort (swp reverseLoop reverseRange siftDown heapBuild heapPop heapSort ltInt)
variable {p:ah V}
def W5(d:Nat)(i:Array Int)(h e:Nat)(t:i.size=d)(z:1<=e)(y:h<=d)(B:e<=d)(D:d<=4000000):Z p 224 [dI d,R h,R e] [cE d i] (.Q []) [cE d (reverseRange i h e)]:=by
 refine Z.I func224 rfl λx=>?_;refine aO a bG (g.aC 1 (λb:Nat×Nat×Array Int=>b.2.2.size=d/\b.1<=d/\b.2.1<d+1/\b.2.1<d/\reverseLoop b.1 b.2.1 b.2.2=reverseRange i h e) (λb=>[(0,dI d),(6,R b.1),(7,R b.2.1)]) (λb=>[cE d b.2.2]) (λb=>b.2.1-b.1) (h,e-1,i) a bQ a C a ⟨t,by grind,by grind,by grind,a⟩ ?_);rintro⟨j,k,d1⟩ ⟨q,o,_,w,m⟩;simp only at q o w m;by_cases r:j<k
 .refine bR [13] a ?_ (g.aw (j+1,k-1,swp d1 j k) a ?_ ?_ ?_ ?_)
  .simp only[T,cW,cZ,a8,bw,a',a7];exact fv
  .exact bu
  .simp only[T.Z,T,cW,cZ,a7,a'];exact k9 q u u (λ_ _=>rfl)
  .refine⟨by grind[nF],by grind,by grind,by grind,?_⟩;rw[<-m,reverseLoop.eq_1 j k d1,bo r]
  grind
 have s:reverseRange i h e=d1:=by rw[<-m,reverseLoop,bm r]
 rw[s];refine a5 [-13] a bQ (g.az ?_);exact sc
def I6(a:Nat)(b:Array Int){e5 bp first:Nat}(h:b.size=a)(k:first+bp<=a)(i:e5<=a)(o:a<=4000000){d e g:Int}(m:d=e5)(j:e=bp)(q:g=first):
  Z p 257 [dI a,R d,R e,R g] [cE a b] (.Q []) [cE a (siftDown ltInt bp first e5 b)]:=by grind[Xj]
def Mg(a first:Nat):∀(d root:Nat)(b:Array Int),a-root<=d->(siftDown ltInt a first root b).size=b.size:=by
 intro d;induction d with
 |zero=>intro root b e;rw[siftDown,dif_pos u]
 |succ d g=>
  intro root b e;rw[siftDown];exact se
theorem U3(i:Nat)(m:Array Int)(b k:Nat)(y:m.size=i)(D:b<=k)(z:1<=k-b)(B:k<=i)(t:i<=4000000):Z p 221 [dI i,R b,R k] [cE i m] (.Q []) [cE i (heapSort ltInt m b k)]:=by
 refine Z.I func221 rfl λF=>?_;obtain⟨e,rfl⟩:∃e,k=b+e:=⟨k-b,by omega⟩
 rw[Av]at z;refine cy a Rr (g.cj (S2:=Array Int) 0 a a (λd2=>d2.size=i/\d2=heapBuild ltInt e b ((e-1) / 2+1) m) (λ_=>[(0,dI i),(6,R b),(7,R 0),(8,R e)]) (λd2=>[cE i d2]) 1 (λd:Nat×Array Int=>d.2.size=i/\d.1<=(e-1) / 2+1/\heapBuild ltInt e b d.1 d.2=heapBuild ltInt e b ((e-1) / 2+1) m) (λd=>[(0,dI i),(6,R b),(7,R 0),(8,R e),(9,R ((d.1:Int)-1))]) (λd=>[cE i d.2]) (λd=>d.1) ((e-1) / 2+1,m) a bQ a C a ⟨y,bA _,a⟩ ?_ ?_)
 .rintro dw ⟨h,d1⟩ ⟨j,q,r⟩;simp only at j q r;cases h with
  |zero=>
   refine a5 [-19] a C (g.az ?_);exact dw d1 ⟨j,r⟩ a C a C
  |succ h=>
   refine a5 [19] rfl C (g.aA (I6 i d1 (e5:=h) (bp:=e) (first:=b) j B u t u rfl rfl) [0] rfl (cy rfl ?_ (g.aw (h,siftDown ltInt e b h d1) rfl ?_ ?_ ?_ ?_)))
   .exact wx
   .simp
   .simp
   .exact⟨by rw[Mg _ _ _ _ _ (bA _)];exact j,by grind,r⟩
   simp
 rintro o ⟨x,E⟩;refine cy a bG ?_;have w:heapSort ltInt m b (b+e)=heapPop ltInt b e o:=by unfold heapSort;grind
 rw[w];refine g.aC 1 (λd:Nat×Array Int=>d.2.size=i/\d.1<=e/\heapPop ltInt b d.1 d.2=heapPop ltInt b e o) (λd=>[(0,dI i),(6,R b),(7,R 0),(8,R e),(10,R ((d.1:Int)-1))]) (λd=>[cE i d.2]) (λd=>d.1) (e,o) a C a C a ⟨x,bA _,a⟩ ?_;rintro⟨h,d1⟩ ⟨j,q,r⟩;simp only at j q r;cases h with
 |zero=>
  rw[<-r];refine a5 [-30] a C (g.az ?_);exact sc
 |succ h=>
  have s:((b:Int)+(((h+1:Nat):Int)-1)).toNat=b+h:=u;refine bR [30,911] a ?_ ?_
  .simp only[T,cW,cZ,s,a8,bw,a',a7];exact fv
  refine g.a_ [cE i (swp d1 b (b+h))] a ?_ ?_
  .simp only[T.Z,T,cW,cZ,s,a7,a'];exact k9 j u u (λ_ _=>rfl)
  refine cy rfl A (g.aA (I6 i (swp d1 b (b+h)) (e5:=0) (bp:=h) (first:=b) se u u t rfl u rfl) [0] rfl (cy rfl ?_ (g.aw (h,siftDown ltInt h b 0 (swp d1 b (b+h))) rfl ?_ ?_ ?_ ?_)))
  .exact wx
  .simp
  .simp
  .exact⟨by rw[Mg _ _ _ _ _ (bA _),nF];exact j,by grind,r⟩
  simp
end
section
open Go.Sort (bitsLen)
variable {p:ah V}
def oh:m UInt8:=(az 256).map λa=>UInt8.ofNat (bitsLen a)
def sF{D h}(b:D<2 ^ h):bitsLen D<=h:=by
 unfold bitsLen;split
 .omega
 rename_i a;have:=(Nat.log2_lt a).2 b;omega
theorem Ze{D:Nat}(a:D<256):(kG oh D).toNat=bitsLen D:=by unfold kG oh;rw[cZ,aj,m6,List.getElem?_range a];have:=sF (D:=D) (h:=8) a;grind[UInt8.toNat_ofNat']
def Gu{h}(d:2 ^ h<=j):bitsLen j=h+bitsLen (j / 2 ^ h):=by
 have a:0<2 ^ h:=Nat.two_pow_pos h;have i:0<j / 2 ^ h:=Nat.div_pos d a;unfold bitsLen;rw[bm u,bm u];have e:Nat.log2 j=h+Nat.log2 (j / 2 ^ h):=by
  rw[Nat.log2_eq_iff u];have b:=Nat.log2_self_le (n:=j / 2 ^ h) u;have g:=Nat.lt_log2_self (n:=j / 2 ^ h);constructor
  .rw[Nat.pow_add,wU];exact fG (g7 _ b) (Nat.div_mul_le_self j _)
  rw[show h+Nat.log2 (j / 2 ^ h)+1=h+(Nat.log2 (j / 2 ^ h)+1) by omega,Nat.pow_add];grind[Nat.div_lt_iff_lt_mul]
 omega
set_option maxRecDepth 100000 in
def VP(j:Nat)(u:j<=4000000):Z p 230 [mr j] [] (R (bitsLen j)) []:=by
 refine Z.I func230 rfl λt=>?_;have fin:∀{b:m UInt8} {D:Nat},b=oh->D<256->(kG b (D:Int)).toNat=bitsLen D:=λaY s=>by grind[Ze]
 have e:∀{b:m UInt8},b=oh->c b=256:=λaY=>by rw[aY];rfl
 by_cases r:65536<=j
 .have i:((j:Int).toNat / 2 ^ Int.toNat 16)=j / 65536:=C;have q:bitsLen j=16+bitsLen (j / 65536):=Gu (j:=j) (h:=16) r;have k:=sF (D:=j / 65536) (h:=8) M;refine bR [-4,8,-14] a ?_ (g.aq a ?_)
  .generalize aY:(ByteArray.data _).toList=b;have d:b=oh:=tW;simp only[T,i,fin d (show j / 65536<256 by omega),e d,a8,bw,dp];exact fv
  generalize aY:(ByteArray.data _).toList=b;have d:b=oh:=tW;simp only[T,T.Z,i,fin d (show j / 65536<256 by omega),a',a7];omega
 by_cases o:256<=j
 .have i:((j:Int).toNat / 2 ^ Int.toNat 8)=j / 256:=C;have q:bitsLen j=8+bitsLen (j / 256):=Gu (j:=j) (h:=8) o;have k:=sF (D:=j / 256) (h:=8) M;refine bR [-4,-8,14] a ?_ (g.aq a ?_)
  .generalize aY:(ByteArray.data _).toList=b;have d:b=oh:=tW;simp only[T,i,fin d (show j / 256<256 by omega),e d,a8,bw,dp];exact fv
  generalize aY:(ByteArray.data _).toList=b;have d:b=oh:=tW;simp only[T,T.Z,i,fin d (show j / 256<256 by omega),a',a7];omega
 have k:=sF (D:=j) (h:=8) M;refine bR [-4,-8,-14] a ?_ (g.aq a ?_)
 .generalize aY:(ByteArray.data _).toList=b;have d:b=oh:=tW;simp only[T,fin d (show j<256 by omega),e d,a8,bw,dp];exact fv
 generalize aY:(ByteArray.data _).toList=b;have d:b=oh:=tW;simp only[T,T.Z,fin d (show j<256 by omega),a',a7];omega
def II(b:Nat)(d:b<=4000000):Z p 188 [mr b] [] (R (bitsLen b)) []:=by refine Z.I func188 rfl λe=>?_;refine cy a A ?_;refine g.fy ?_;refine cy a A ?_;refine g.aA (VP b d) [] a ?_;exact cy a A (g.aq a)
end
section
open Go.Sort (swp bitsLen xorNextN xorNextN_lt xorNext xorNext_toNat breakStep breakPatterns)
variable {p:ah V}
abbrev xa(a:Nat):ap:=.cells 322 [.c (.int .u64 a)]
def Wt(b):Z p 259 [aI 0 0] [xa b] (mr (xorNextN b)) [xa (xorNextN b)]:=by refine Z.I func259 rfl λh=>?_;have e:(2:Nat) ^ Int.toNat 13=8192:=ca;have i:(2:Nat) ^ Int.toNat 7=128:=ca;have d:(2:Nat) ^ Int.toNat 17=131072:=ca;refine cy a C ?_;refine g.a_ [xa (xorNextN b)] a bG (g.aJ [0] a ?_ ha);exact bG
theorem WY(b:Nat)(d:b<=4000000):Z p 258 [R b] [] (mr ((1 <<< bitsLen b:Nat):Int)) []:=by refine Z.I func258 rfl λj=>?_;have e:=sF (D:=b) (h:=22) M;refine cy a bG ?_;refine g.aA (II b d) [] a ?_;refine cy a bu (g.aq a ?_);have i:2 ^ bitsLen b<=2 ^ 22:=Az u e;simp only[T,T.Z,Nat.shiftLeft_eq,cZ];grind
def aap{L}(a:0<L):1 <<< bitsLen L<=2*L:=by rw[Nat.shiftLeft_eq,Nat.one_mul];unfold bitsLen;rw[bm u,Nat.pow_succ];grind[Nat.log2_self_le]
def aaq(L):1<=1 <<< bitsLen L:=by rw[Nat.shiftLeft_eq,Nat.one_mul];grind
def uK(d L b:Nat):Nat->Nat->UInt64×Array Int->UInt64×Array Int
 |0,_,a=>a
 |e+1,idx,a=>uK d L b e (idx+1) (breakStep d L b a idx)
def Sy{b}{a L}(d:8<=L):breakPatterns b a (a+L)=(uK a L (1 <<< bitsLen L) 3 (a+L / 4*2-1) (UInt64.ofNat L,b)).2:=by unfold breakPatterns;simp only[Av];exact bG
def Sz{w L bz idx}{a9}{N:Array Int}:breakStep w L bz (a9,N) idx=(xorNext a9,swp N idx (w+if(xorNextN a9.toNat &&& (bz-1))≥L then(xorNextN a9.toNat &&& (bz-1))-L else(xorNextN a9.toNat &&& (bz-1)))):=by unfold breakStep;simp only[xorNext_toNat]
abbrev Sx(e a L b:Nat)(d:Nat):bJ:=[(0,dI e),(1,R a),(6,R L),(7,aI 1 0),(8,mr b),(9,R ((a+L / 4*2-1+(3-d):Nat):Int))]
def TZ(j)(N)(w i)(y:N.size=j)(D:w<=i)(K:i<=j)(B:j<=4000000):
  Z p 222 [dI j,R w,R i] [cE j N] (.Q []) [cE j (breakPatterns N w i)]:=by
 refine Z.I func222 rfl λM=>?_;obtain⟨L,rfl⟩:∃L,i=w+L:=⟨i-w,by omega⟩
 by_cases z:8<=L
 .rw[Sy z];have J:=aap (L:=L) u;have F:=aaq L;have E:(UInt64.ofNat L).toNat=L:=by grind[UInt64.toNat_ofNat']
  refine bR [15] a sf ?_;have key:∀q:Int,q=(L:Int)->Z p 258 [R q] [] (mr ((1 <<< bitsLen L:Nat):Int)) []:=by grind[WY]
  refine g.aA (key _ u) [] a (cy a sf ?_);generalize I:1 <<< bitsLen L=bz at *;refine g.aC 2 (λb:Nat×UInt64×Array Int=>b.2.2.size=j/\b.1<=3/\(uK w L bz b.1 (w+L / 4*2-1+(3-b.1)) b.2).2=(uK w L bz 3 (w+L / 4*2-1) (UInt64.ofNat L,N)).2) (λb=>Sx j w L bz b.1) (λb=>[cE j b.2.2,xa b.2.1.toNat]) (λb=>b.1) (3,UInt64.ofNat L,N) a ?_ a ?_ a ⟨y,bA _,a⟩ ?_
  .simp only[T.Z,T,a',a7];exact fv
  .exact bu
  rintro⟨h,a9,d1⟩ ⟨d,m,r⟩;simp only at d m r;cases h with
  |zero=>
   rw[<-r];refine bR [-33] a zM (g.az ?_);exact sc
  |succ h=>
   have O:=xorNextN_lt _ (UInt64.toNat_lt a9);have C:xorNextN a9.toNat &&& (bz-1)<=bz-1:=Nat.and_le_right;have t:((bz:Int)-1).toNat=bz-1:=u;refine bR [33] a sf (g.aA (Wt a9.toNat) [1] a ?_);have ak:=Sz (w:=w) (L:=L) (bz:=bz) (idx:=w+L / 4*2-1+(3-(h+1))) (a9:=a9) (N:=d1);generalize e:xorNextN a9.toNat &&& (bz-1)=k at *;by_cases o:L<=k
   .rw[bo o]at ak;have s:((w:Int)+((k:Int)-(L:Int))).toNat=w+(k-L):=u;refine bR [43] a ?_ (g.aw (h,xorNext a9,swp d1 (w+L / 4*2-1+(3-(h+1))) (w+(k-L))) a ?_ ?_ ?_ ?_)
    .simp only[T,cW,cZ,t,e,s,a8,bw,a',a7];exact fv
    .simp only[T.Z,T,a',a7];omega
    .exact OO
    .exact P_
    simp
   rw[bm o]at ak;have s:((w:Int)+(k:Int)).toNat=w+k:=u;refine bR [-43] a ?_ (g.aw (h,xorNext a9,swp d1 (w+L / 4*2-1+(3-(h+1))) (w+k)) a ?_ ?_ ?_ ?_)
   .simp only[T,cW,cZ,t,e,s,a8,dp,a',a7];exact fv
   .simp only[T.Z,T,a',a7];omega
   .exact OO
   .exact P_
   simp
 have x:breakPatterns N w (w+L)=N:=by unfold breakPatterns;grind
 rw[x];exact bR [-15] a bG sc
end
section
open Go.Sort (swp scanUp scanDown partLoop partEqLoop partition partitionEqual ltInt)
variable {p:ah V}
theorem y8{b:Int->Bool}{a}(g:e<=t)(d:b a[e]! = l):scanUp b a t e=scanUp b a t (e+1):=by rw[scanUp.eq_1 b a t e,bo M]
theorem D0{b:Int->Bool}{a}(d:e<=t->b a[e]! = v):scanUp b a t e=e:=by rw[scanUp,bm];grind
theorem L0{b:Int->Bool}{a}(h:1<=t)(i:e<=t)(g:b a[t]! = l):scanDown b a e t=scanDown b a e (t-1):=by
 obtain⟨t,rfl⟩:∃d,t=d+1:=⟨t-1,by omega⟩
 rw[scanDown,bo M,pS]
theorem L2{b:Int->Bool}{a}(d:e<=t->b a[t]! = v):scanDown b a e t=t:=by
 cases t with
 |zero=>rfl
 |succ t=>
  rw[scanDown,bm];grind
def vR{S:Int->Bool}{N}:∀b a,t+1-a<=b->a<=scanUp S N t a/\(scanUp S N t a<=t+1∨scanUp S N t a=a):=by
 intro b;induction b with
 |zero=>intro a e;rw[D0 (λd=>by omega)];omega
 |succ b h=>
  intro a e;by_cases g:a<=t
  .cases d:S N[a]! with
   |true=>grind[y8]
   |false=>grind[D0]
  grind
def vQ{S:Int->Bool}{N}:∀a:Nat,scanDown S N e a<=a/\(e<=scanDown S N e a+1∨scanDown S N e a=a):=by
 intro a;induction a with
 |zero=>rw[show scanDown S N e 0=0 from rfl];omega
 |succ a d=>
  by_cases b:e<=a+1
  .cases r:S N[a+1]! with
   |true=>grind[L0]
   |false=>grind[L2]
  exact zU
def aae{b}{N}{d g:Nat}(m:1<=e)(h:d=scanUp (λa=>ltInt a N[b]!) N t e)(i:g=scanDown (λa=>!ltInt a N[b]!) N d t):
  partLoop ltInt b e t N=if d>g then(g,N)else partLoop ltInt b (d+1) (g-1) (swp N d g):=by have j:=vR (S:=λa=>ltInt a N[b]!) (N:=N) (t:=t) (t+1-e) e (bA _);have k:=vQ (S:=λa=>!ltInt a N[b]!) (N:=N) (e:=d) t;rw[<-h]at j;rw[<-i]at k;rw[partLoop.eq_1,<-h,<-i];grind
def aaf{g a:Array Int}{b aa}(k:a=swp g b aa)(h:e=scanUp (λd=>ltInt d a[b]!) a (i-1) (b+1))(j:t=scanDown (λd=>!ltInt d a[b]!) a e (i-1))(m:e>t):partition ltInt g b i aa=(t,l,swp a t b):=by unfold partition;grind
def aag{h a:Array Int}{b aa}(o:a=swp h b aa)(k:e=scanUp (λg=>ltInt g a[b]!) a (i-1) (b+1))(m:t=scanDown (λg=>!ltInt g a[b]!) a e (i-1))(p:¬e>t){d}(j:partLoop ltInt b (e+1) (t-1) (swp a e t)=d):partition ltInt h b i aa=(d.1,v,swp d.2 d.1 b):=by subst j;unfold partition;grind
def WQ(j)(N)(w i aa)(aL:N.size=j)(ah:w<i)(al:i<=j)(aq:aa<j)(ao:j<=4000000):
  Z p 228 [dI j,R w,R i,R aa] [cE j N] (.Q [.R (.c (.int .i64 (partition ltInt N w i aa).1)),.R (.c (.bool (partition ltInt N w i aa).2.1))]) [cE j (partition ltInt N w i aa).2.2]:=by
 have B:ba p [(226,p_)]:=.cons r2 .nil;refine Z.I func228 rfl λan=>?_;refine be B [902] a bu (g.a_ [cE j (swp N w aa)] a ?_ ?_)
 .simp only[T.Z,T,cW,cZ,a7,a'];exact k9 aL u u (λ_ _=>rfl)
 have bx:(swp N w aa).size=j:=se;obtain⟨d0,y⟩:∃d0,d0=swp N w aa:=⟨_,rfl⟩;rw[<-y]at bx⊢;refine cU B a sd ?_
 refine g.cj (S2:=Unit) 0 a a (λ_=>True) (λ_=>[(0,dI j),(1,R w),(10,R ((scanUp (λD=>ltInt D d0[w]!) d0 (i-1) (w+1)):Nat)),(11,R (i-1:Nat))]) (λ_=>[cE j d0]) 1 (λh:Nat=>w+1<=h/\h<=j+1/\scanUp (λD=>ltInt D d0[w]!) d0 (i-1) h=scanUp (λD=>ltInt D d0[w]!) d0 (i-1) (w+1)) (λh=>[(0,dI j),(1,R w),(10,R (h:Nat)),(11,R (i-1:Nat))]) (λ_=>[cE j d0]) (λh=>i-1+1-h) (w+1) a bG a C a ⟨bA _,by omega,a⟩ ?_ ?_
 .rintro dw h ⟨o,q,Q⟩;by_cases U:h<=i-1
  .by_cases av:(λD=>ltInt D d0[w]!) d0[h]! = l
   .have ak:ltInt d0[h]! d0[w]! = l:=M;refine be B [32,42] a qT (g.aw (h+1) a C C ?_ ?_)
    .grind [y8]
    omega
   have ak:ltInt d0[h]! d0[w]! = v:=M;refine be B [32,-42] a qT (g.az ?_);exact OA
  refine be B [-32] a bu (g.az ?_);exact OA
 rintro⟨⟩ -;have af:=vR (S:=λD=>ltInt D d0[w]!) (N:=d0) (t:=i-1) (i-1+1-(w+1)) (w+1) (bA _);obtain⟨e,m⟩:∃e,e=scanUp (λD=>ltInt D d0[w]!) d0 (i-1) (w+1):=⟨_,rfl⟩
 rw[<-m]at af⊢;refine cU B a A (g.cj (S2:=Unit) 2 a a (λ_=>True) (λ_=>[(0,dI j),(1,R w),(10,R (e:Nat)),(11,R ((scanDown (λD=>!ltInt D d0[w]!) d0 (e) (i-1)):Nat))]) (λ_=>[cE j d0]) 1 (λh:Nat=>h<=i-1/\h<=j/\scanDown (λD=>!ltInt D d0[w]!) d0 (e) h=scanDown (λD=>!ltInt D d0[w]!) d0 (e) (i-1)) (λh=>[(0,dI j),(1,R w),(10,R (e:Nat)),(11,R (h:Nat))]) (λ_=>[cE j d0]) (λh=>h) (i-1) a ?_ a ?_ a ⟨bA _,by omega,a⟩ ?_ ?_)
 .simp[bs]<;>omega
 .simp
 .rintro dw h ⟨o,q,Q⟩;by_cases U:e<=h
  .by_cases av:(λD=>!ltInt D d0[w]!) d0[h]! = l
   .have ak:ltInt d0[h]! d0[w]! = v:=M;refine be B [48,-58] a qT (g.aw (h-1) a bu C EV ?_);omega
   have ak:ltInt d0[h]! d0[w]! = l:=M;refine be B [48,58] a qT (g.az ?_);exact QP
  refine be B [-48] a bu (g.az ?_);exact QP
 rintro⟨⟩ -;have ag:=vQ (S:=λD=>!ltInt D d0[w]!) (N:=d0) (e:=e) (i-1);obtain⟨t,F⟩:∃t,t=scanDown (λD=>!ltInt D d0[w]!) d0 e (i-1):=⟨_,rfl⟩
 rw[<-F]at ag⊢;by_cases ab:t<e
 .rw[aaf y m F ab];refine be B [65,909] a bu (g.a_ [cE j (swp d0 t w)] a Q' ?_);exact O2
 refine be B [-65,911] a bu (g.a_ [cE j (swp d0 e t)] a Q' ?_);refine cU B a sd ?_;have X:(swp d0 e t).size=j:=se;obtain⟨k,E⟩:∃k,partLoop ltInt w (e+1) (t-1) (swp d0 e t)=k:=⟨_,rfl⟩;rw[aag y m F u E]
 obtain⟨d1,L⟩:∃d1,d1=swp d0 e t:=⟨_,rfl⟩;rw[<-L]at X E⊢;refine g.cj (S2:=Unit) 4 a a (λ_=>k.1<j/\k.2.size=j) (λ_=>[(0,dI j),(1,R w),(11,R k.1)]) (λ_=>[cE j k.2]) 1 (λb:Nat×Nat×Array Int=>b.2.2.size=j/\w+1<=b.1/\b.1<=j+1/\b.2.1<j/\partLoop ltInt w b.1 b.2.1 b.2.2=k) (λb=>[(0,dI j),(1,R w),(10,R b.1),(11,R b.2.1)]) (λb=>[cE j b.2.2]) (λb=>b.2.1+1-b.1) (e+1,t-1,d1) a bu a C a ⟨X,by grind,by grind,by grind,E⟩ ?_ ?_
 .rintro x ⟨d9,s,d2⟩ ⟨G,ae,W,P,z⟩;simp only at G ae W P z;refine cU B a A (g.cj (S2:=Unit) 6 a a (λ_=>True) (λ_=>[(0,dI j),(1,R w),(10,R ((scanUp (λD=>ltInt D d2[w]!) d2 (s) (d9)):Nat)),(11,R (s:Nat))]) (λ_=>[cE j d2]) 1 (λh:Nat=>d9<=h/\h<=j+1/\scanUp (λD=>ltInt D d2[w]!) d2 (s) h=scanUp (λD=>ltInt D d2[w]!) d2 (s) (d9)) (λh=>[(0,dI j),(1,R w),(10,R (h:Nat)),(11,R (s:Nat))]) (λ_=>[cE j d2]) (λh=>s+1-h) (d9) a ?_ a ?_ a ⟨bA _,by omega,a⟩ ?_ ?_)
  .simp[bs]<;>omega
  .simp
  .rintro dw h ⟨o,q,Q⟩;by_cases U:h<=s
   .by_cases av:(λD=>ltInt D d2[w]!) d2[h]! = l
    .have ak:ltInt d2[h]! d2[w]! = l:=M;refine be B [101,111] a qT (g.aw (h+1) a C C ?_ ?_)
     .grind [y8]
     omega
    have ak:ltInt d2[h]! d2[w]! = v:=M;refine be B [101,-111] a qT (g.az ?_);exact O5
   refine be B [-101] a bu (g.az ?_);exact O5
  rintro⟨⟩ -;have I:=vR (S:=λD=>ltInt D d2[w]!) (N:=d2) (t:=s) (s+1-d9) d9 (bA _);obtain⟨d,K⟩:∃d,d=scanUp (λD=>ltInt D d2[w]!) d2 s d9:=⟨_,rfl⟩
  rw[<-K]at I⊢;refine cU B a A (g.cj (S2:=Unit) 8 a a (λ_=>True) (λ_=>[(0,dI j),(1,R w),(10,R (d:Nat)),(11,R ((scanDown (λD=>!ltInt D d2[w]!) d2 (d) (s)):Nat))]) (λ_=>[cE j d2]) 1 (λh:Nat=>h<=s/\h<=j/\scanDown (λD=>!ltInt D d2[w]!) d2 (d) h=scanDown (λD=>!ltInt D d2[w]!) d2 (d) (s)) (λh=>[(0,dI j),(1,R w),(10,R (d:Nat)),(11,R (h:Nat))]) (λ_=>[cE j d2]) (λh=>h) (s) a ?_ a ?_ a ⟨bA _,by omega,a⟩ ?_ ?_)
  .simp[bs]<;>omega
  .simp
  .rintro dw h ⟨o,q,Q⟩;by_cases U:d<=h
   .by_cases av:(λD=>!ltInt D d2[w]!) d2[h]! = l
    .have ak:ltInt d2[h]! d2[w]! = v:=M;refine be B [117,-127] a qT (g.aw (h-1) a bu C EV ?_);omega
    have ak:ltInt d2[h]! d2[w]! = l:=M;refine be B [117,127] a qT (g.az ?_);exact Qp
   refine be B [-117] a bu (g.az ?_);exact Qp
  rintro⟨⟩ -;have J:=vQ (S:=λD=>!ltInt D d2[w]!) (N:=d2) (e:=d) s;obtain⟨r,V⟩:∃r,r=scanDown (λD=>!ltInt D d2[w]!) d2 d s:=⟨_,rfl⟩
  rw[<-V]at J⊢;have Y:=aae u K V;by_cases O:r<d
  .have au:=Y;rw[z,bo O]at au;refine be B [134] a bu (g.az ?_);exact x () M a NC a tZ
  have au:=Y;rw[z,bm u]at au;refine be B [-134,919] a ?_ ?_
  .simp only[T,cW,cZ,a8,dp,a',a7];exact fv
  refine g.a_ [cE j (swp d2 d r)] a ?_ ?_
  .simp only[T.Z,T,cW,cZ,a7,a'];exact k9 G u u (λ_ _=>rfl)
  refine cU B a sd (g.aw (d+1,r-1,swp d2 d r) a bu C ?_ ?_)
  .grind [nF]
  grind
 rintro⟨⟩ ⟨ai,H⟩;refine be B [922] a bu (g.a_ [cE j (swp k.2 k.1 w)] a ?_ ?_)
 .simp only[T.Z,T,cW,cZ,a7,a'];exact k9 H u u (λ_ _=>rfl)
 exact O2
def aad{d}{N}{a h:Nat}(m:1<=e)(g:a=scanUp (λb=>!ltInt N[d]! b) N t e)(i:h=scanDown (λb=>ltInt N[d]! b) N a t):
  partEqLoop ltInt d e t N=if a>h then(a,N)else partEqLoop ltInt d (a+1) (h-1) (swp N a h):=by have j:=vR (S:=λb=>!ltInt N[d]! b) (N:=N) (t:=t) (t+1-e) e (bA _);have k:=vQ (S:=λb=>ltInt N[d]! b) (N:=N) (e:=a) t;rw[<-g]at j;rw[<-i]at k;rw[partEqLoop.eq_1,<-g,<-i];grind
def WR(j)(N)(w i aa)(Q:N.size=j)(ab:w<i)(af:i<=j)(aL:aa<j)(P:j<=4000000):
  Z p 227 [dI j,R w,R i,R aa] [cE j N] (R (partitionEqual ltInt N w i aa).1) [cE j (partitionEqual ltInt N w i aa).2]:=by
 have k:ba p [(226,p_)]:=.cons r2 .nil;refine Z.I func227 rfl λag=>?_;refine be k [902] a bu (g.a_ [cE j (swp N w aa)] a ?_ ?_)
 .simp only[T.Z,T,cW,cZ,a7,a'];exact k9 Q u u (λ_ _=>rfl)
 have K:(swp N w aa).size=j:=se;unfold partitionEqual;generalize swp N w aa=d1 at *;obtain⟨m,H⟩:∃m,partEqLoop ltInt w (w+1) (i-1) d1=m:=⟨_,rfl⟩;rw[H];refine cU k a sd ?_
 refine g.cj (S2:=Unit) 0 a a (λ_=>m.1<=j+1/\m.2.size=j) (λ_=>[(0,dI j),(1,R w),(9,R m.1)]) (λ_=>[cE j m.2]) 1 (λb:Nat×Nat×Array Int=>b.2.2.size=j/\w+1<=b.1/\b.1<=j+1/\b.2.1<j/\partEqLoop ltInt w b.1 b.2.1 b.2.2=m) (λb=>[(0,dI j),(1,R w),(9,R b.1),(10,R b.2.1)]) (λb=>[cE j b.2.2]) (λb=>b.2.1+1-b.1) (w+1,i-1,d1) a bu a C a ⟨K,by grind,by grind,by grind,H⟩ ?_ ?_
 .rintro V ⟨d9,r,d2⟩ ⟨F,W,X,G,d⟩;simp only at F W X G d;refine cU k a A (g.cj (S2:=Unit) 2 a a (λ_=>True) (λ_=>[(0,dI j),(1,R w),(9,R ((scanUp (λD=>!ltInt d2[w]! D) d2 (r) (d9)):Nat)),(10,R (r:Nat))]) (λ_=>[cE j d2]) 1 (λh:Nat=>d9<=h/\h<=j+1/\scanUp (λD=>!ltInt d2[w]! D) d2 (r) h=scanUp (λD=>!ltInt d2[w]! D) d2 (r) (d9)) (λh=>[(0,dI j),(1,R w),(9,R (h:Nat)),(10,R (r:Nat))]) (λ_=>[cE j d2]) (λh=>r+1-h) (d9) a ?_ a ?_ a ⟨bA _,by omega,a⟩ ?_ ?_)
  .simp[bs]<;>omega
  .simp
  .rintro dw h ⟨I,O,x⟩;by_cases J:h<=r
   .by_cases L:(λD=>!ltInt d2[w]! D) d2[h]! = l
    .have B:ltInt d2[w]! d2[h]! = v:=M;refine be k [31,-41] a zS (g.aw (h+1) a C C ?_ ?_)
     .grind [y8]
     omega
    have B:ltInt d2[w]! d2[h]! = l:=M;refine be k [31,41] a zS (g.az ?_);exact Q9
   refine be k [-31] a bu (g.az ?_);exact Q9
  rintro⟨⟩ -;have q:=vR (S:=λD=>!ltInt d2[w]! D) (N:=d2) (t:=r) (r+1-d9) d9 (bA _);obtain⟨ak,E⟩:∃ak,ak=scanUp (λD=>!ltInt d2[w]! D) d2 r d9:=⟨_,rfl⟩
  rw[<-E]at q⊢;refine cU k a A (g.cj (S2:=Unit) 4 a a (λ_=>True) (λ_=>[(0,dI j),(1,R w),(9,R (ak:Nat)),(10,R ((scanDown (λD=>ltInt d2[w]! D) d2 (ak) (r)):Nat))]) (λ_=>[cE j d2]) 1 (λh:Nat=>h<=r/\h<=j/\scanDown (λD=>ltInt d2[w]! D) d2 (ak) h=scanDown (λD=>ltInt d2[w]! D) d2 (ak) (r)) (λh=>[(0,dI j),(1,R w),(9,R (ak:Nat)),(10,R (h:Nat))]) (λ_=>[cE j d2]) (λh=>h) (r) a ?_ a ?_ a ⟨bA _,by omega,a⟩ ?_ ?_)
  .simp[bs]<;>omega
  .simp
  .rintro dw h ⟨I,O,x⟩;by_cases J:ak<=h
   .by_cases L:(λD=>ltInt d2[w]! D) d2[h]! = l
    .have B:ltInt d2[w]! d2[h]! = l:=M;refine be k [48,58] a zS (g.aw (h-1) a bu C EV ?_);omega
    have B:ltInt d2[w]! d2[h]! = v:=M;refine be k [48,-58] a zS (g.az ?_);exact PJ
   refine be k [-48] a bu (g.az ?_);exact PJ
  rintro⟨⟩ -;have s:=vQ (S:=λD=>ltInt d2[w]! D) (N:=d2) (e:=ak) r;obtain⟨o,z⟩:∃o,o=scanDown (λD=>ltInt d2[w]! D) d2 ak r:=⟨_,rfl⟩
  rw[<-z]at s⊢;have y:=aad u E z;by_cases U:o<ak
  .have au:=y;rw[d,bo U]at au;refine be k [64] a bu (g.az ?_);exact V () M a NC a tZ
  have au:=y;rw[d,bm u]at au;refine be k [-64,909] a bu (g.a_ [cE j (swp d2 ak o)] a ?_ ?_)
  .simp only[T.Z,T,cW,cZ,a7,a'];exact k9 F u u (λ_ _=>rfl)
  refine cU k a sd (g.aw (ak+1,o-1,swp d2 ak o) a bu C ?_ ?_)
  .grind [nF]
  grind
 rintro⟨⟩ ⟨ae,Y⟩;refine cU k a A (g.aJ [0] a ?_ ha);simp
end
section
open Go.Sort (swp scanSorted shiftDown shiftUp partialIns partialInsertionSort ltInt)
variable {p:ah V}
theorem L3{a}(d:e<i)(b:ltInt a[e]! a[e-1]! = v):scanSorted ltInt a i e=scanSorted ltInt a i (e+1):=by rw[scanSorted.eq_1 ltInt a i e,bo M]
theorem y7{a}(b:e<i->ltInt a[e]! a[e-1]! = l):scanSorted ltInt a i e=e:=by rw[scanSorted,bm];grind
def abe{N}:∀b a,i-a<=b->a<=i->a<=scanSorted ltInt N i a/\scanSorted ltInt N i a<=i:=by
 intro b;induction b with
 |zero=>grind[y7]
 |succ b e=>
  intro a j g;by_cases d:a<i
  .cases h:ltInt N[a]! N[a-1]! with
   |false=>grind[L3]
   |true=>grind[y7]
  grind
theorem abt{a}(d:1<=t)(s:ltInt a[t]! a[t-1]! = l):shiftDown ltInt t a=shiftDown ltInt (t-1) (swp a t (t-1)):=by
 obtain⟨t,rfl⟩:∃b,t=b+1:=⟨t-1,by omega⟩
 simp only[pS]at s⊢;rw[shiftDown,bm g6]
theorem Ma{a}(b:1<=t->ltInt a[t]! a[t-1]! = v):shiftDown ltInt t a=a:=by
 cases t with
 |zero=>rfl
 |succ t=>
  have:=b u;simp only[pS]at this;rw[shiftDown,bo M]
theorem abu{a}(b:t<i)(s:ltInt a[t]! a[t-1]! = l):shiftUp ltInt i t a=shiftUp ltInt i (t+1) (swp a t (t-1)):=by rw[shiftUp.eq_1 ltInt i t a,bo b,bm g6]
theorem Mb{a}(b:t<i->ltInt a[t]! a[t-1]! = v):shiftUp ltInt i t a=a:=by rw[shiftUp];grind
abbrev qE(e a b d g:Nat):bJ:=[(0,dI e),(1,R a),(2,R b),(7,R d),(8,R (5-(g:Int)))]
def aai{d b}{a}:partialIns ltInt d i (b+1) e a=(if scanSorted ltInt a i e=i then(a,l)else if i-d<50 then(a,v)else
  partialIns ltInt d i b (scanSorted ltInt a i e) (if i-scanSorted ltInt a i e≥2 then shiftUp ltInt i (scanSorted ltInt a i e+1) (if scanSorted ltInt a i e-d≥2 then shiftDown ltInt (scanSorted ltInt a i e-1) (swp a (scanSorted ltInt a i e) (scanSorted ltInt a i e-1))else swp a (scanSorted ltInt a i e) (scanSorted ltInt a i e-1))else(if scanSorted ltInt a i e-d≥2 then shiftDown ltInt (scanSorted ltInt a i e-1) (swp a (scanSorted ltInt a i e) (scanSorted ltInt a i e-1))else swp a (scanSorted ltInt a i e) (scanSorted ltInt a i e-1)))):=rfl
def IU(j)(N)(r i)(W:N.size=j)(ab:r<i)(af:i<=j)(ah:j<=4000000):
  Z p 225 [dI j,R r,R i] [cE j N] (bh (partialInsertionSort ltInt N r i).2) [cE j (partialInsertionSort ltInt N r i).1]:=by
 have m:ba p [(226,p_)]:=.cons r2 .nil;refine Z.I func225 rfl λag=>?_;obtain⟨w,F⟩:∃w,partialIns ltInt r i 5 (r+1) N=w:=⟨_,rfl⟩;have V:partialInsertionSort ltInt N r i=w:=F;rw[V];refine cU m a bG ?_
 refine g.cj (S2:=Unit) 0 a a (λ_=>w.2=v) (λ_=>[(0,dI j)]) (λ_=>[cE j w.1]) 1 (λb:Nat×Nat×Array Int=>b.2.2.size=j/\b.1<=5/\r+1<=b.2.1/\b.2.1<=i/\partialIns ltInt r i b.1 b.2.1 b.2.2=w) (λb=>qE j r i b.2.1 b.1) (λb=>[cE j b.2.2]) (λb=>b.1) (5,r+1,N) a C a C a ⟨W,by grind,by grind,by grind,F⟩ ?_ ?_
 .rintro Y ⟨b,e,d1⟩ ⟨bz,J,bp,o,s⟩;simp only at bz J bp o s;cases b with
  |zero=>
   rw[partialIns]at s;refine be m [-14] a C (g.az ?_);exact Y () M a C a (by simp[bs,<-s])
  |succ b=>
   rw[aai]at s;refine be m [14] a bu (g.cj (S2:=Unit) 2 a a (λ_=>True) (λ_=>qE j r i (scanSorted ltInt d1 i e) (b+1)) (λ_=>[cE j d1]) 1 (λh:Nat=>e<=h/\h<=i/\scanSorted ltInt d1 i h=scanSorted ltInt d1 i e) (λh=>qE j r i h (b+1)) (λ_=>[cE j d1]) (λh=>i-h) e a C a C a ⟨bA _,o,a⟩ ?_ ?_)
   .rintro dw h ⟨P,aa,br⟩;by_cases ae:h<i
    .have bT:((h:Int)-1).toNat=h-1:=u;cases bi:ltInt d1[h]! d1[h-1]! with
     |false=>
      refine be m [19,-30] a Po (g.aw (h+1) a C C ?_ ?_)
      .grind [L3]
      omega
     |true=>
      refine be m [19,30] a Po (g.az ?_);have au:scanSorted ltInt d1 i e=h:=by grind[y7]
      exact dw () A a bu a C
    refine be m [-19] a bu (g.az ?_);have au:scanSorted ltInt d1 i e=h:=by grind[y7]
    exact dw () A a bu a C
   rintro⟨⟩ -;have X:=abe (N:=d1) (i:=i) (i-e) e (bA _) o;obtain⟨k,H⟩:∃k,k=scanSorted ltInt d1 i e:=⟨_,rfl⟩;rw[<-H]at X s⊢
   by_cases D:k=i
   .rw[bo D]at s;rw[<-s];refine be m [37] a ?_ (g.aT (bY.mk [0] a ?_ a a a ha))
    .simp[D]
    simp
   rw[bm D]at s;by_cases O:i-r<50
   .rw[bo O]at s;rw[<-s];refine be m [-37,41] a kT (g.aT (bY.mk [0] a ?_ a a a ha));simp
   rw[bm O]at s;have bT:((k:Int)-1).toNat=k-1:=u;refine be m [-37,-41,912] a ?_ ?_
   .simp only[T,cW,cZ,bT,a8,dp,e0,d6,a',a7];exact fv
   refine g.a_ [cE j (swp d1 k (k-1))] a ?_ ?_
   .simp only[T.Z,T,cW,cZ,bT,a7,a'];exact k9 bz u u (λ_ _=>rfl)
   have Q:(swp d1 k (k-1)).size=j:=se;obtain⟨d2,x⟩:∃d2,d2=swp d1 k (k-1):=⟨_,rfl⟩;rw[<-x]at Q s⊢;obtain⟨d3,y⟩:∃d3,d3=if k-r≥2 then shiftDown ltInt (k-1) d2 else d2:=⟨_,rfl⟩
   rw[<-y]at s;have abb:∀q N,(shiftDown ltInt q N).size=N.size:=by
    intro q;induction q with
    |zero=>intro N;rfl
    |succ q ai=>
     intro N;rw[shiftDown];exact se
   have U:d3.size=j:=M;apply g.cf (qE j r i k (b+1)) [cE j d3]
   .intro dw;by_cases E:k-r≥2
    .rw[bo E]at y;refine be m [61] a sf (g.cj (S2:=Unit) 4 a a (λ_=>True) (λ_=>qE j r i k (b+1)) (λ_=>[cE j d3]) 1 (λb:Nat×Array Int=>b.2.size=j/\b.1<i/\shiftDown ltInt b.1 b.2=d3) (λt=>qE j r i k (b+1)++[(9,R t.1)]) (λb=>[cE j b.2]) (λb=>b.1) (k-1,d2) a bu a C a ⟨Q,by grind,y.symm⟩ ?_ ?_)
     .rintro d ⟨q,d4⟩ ⟨S,B,z⟩;simp only at S B z;by_cases I:1<=q
      .have bx:((q:Int)-1).toNat=q-1:=u;cases bi:ltInt d4[q]! d4[q-1]! with
       |true=>
        refine be m [65,77] a zN (g.aw (q-1,swp d4 q (q-1)) a bu OJ ?_ ?_)
        .grind [abt]
        grind
       |false=>
        refine be m [65,-77] a zN (g.az ?_);have au:d3=d4:=by grind[Ma]
        exact d () A a C a tZ
      refine be m [-65] a bu (g.az ?_);have au:d3=d4:=by grind[Ma]
      exact d () A a C a tZ
     rintro⟨⟩ -;exact be m [918] a A ky
    rw[bm E]at y;rw[<-y];exact be m [-61,918] a zM ky
   by_cases L:i-k≥2
   .rw[bo L]at s;obtain⟨e2,K⟩:∃e2,shiftUp ltInt i (k+1) d3=e2:=⟨_,rfl⟩;rw[K]at s;refine be m [98] a sf ?_
    refine g.cj (S2:=Unit) 6 a a (λ_=>e2.size=j) (λ_=>qE j r i k (b+1)) (λ_=>[cE j e2]) 1 (λb:Nat×Array Int=>b.2.size=j/\1<=b.1/\b.1<=i/\shiftUp ltInt i b.1 b.2=e2) (λt=>qE j r i k (b+1)++[(10,R t.1)]) (λb=>[cE j b.2]) (λb=>i-b.1) (k+1,d3) a C a C a ⟨U,by grind,by grind,K⟩ ?_ ?_
    .rintro d ⟨q,d4⟩ ⟨S,I,B,z⟩;simp only at S I B z;by_cases aL:q<i
     .have bx:((q:Int)-1).toNat=q-1:=u;cases bi:ltInt d4[q]! d4[q-1]! with
      |true=>
       refine be m [103,115] a zN (g.aw (q+1,swp d4 q (q-1)) a C OJ ?_ ?_)
       .grind [nF,abu]
       grind
      |false=>
       refine be m [103,-115] a zN (g.az ?_);have au:e2=d4:=by grind[Mb]
       exact d () M a C a tZ
     refine be m [-103] a bu (g.az ?_);have au:e2=d4:=by grind[Mb]
     exact d () M a C a tZ
    rintro⟨⟩ J;refine cU m a wx (g.aw (b,k,e2) a bu C M ?_);grind
   rw[bm L]at s;refine be m [-98] a zM (g.aw (b,k,d3) a bu C M ?_);grind
 rintro⟨⟩ G;refine cU m a A (g.aJ [0] a ?_ ha);simp[G]
end
section
open Go.Sort (swp pdq rd Rd Below SWO insertionSort heapSort breakPatterns choosePivot reverseRange partialInsertionSort partition partitionEqual Hint ltInt PermIn SortedIn)
variable {p:ah V}
abbrev vL(h d e g:Nat)(a b:Bool):bJ:=[(0,dI h),(1,R d),(2,R e),(3,R g),(8,bh a),(9,bh b)]
def JN{a}:qp a=2↔a=.decreasing:=by cases a<;>simp[qp]
def YJ{a}:qp a=1↔a=.increasing:=by cases a<;>simp[qp]
structure RP where
 cO:Nat
 dv:Nat
 lim:Nat
 hO:Bool
 hR:Bool
 c':Array Int
def Vr(j)(a){w}(d:a.size=j)(h:i<=j)(e:w<=j)(k:j<=4000000){b}(g:b=insertionSort ltInt a w i):Z p 220 [dI j,R w,R i] [cE j a] (.Q []) [cE j b]:=by grind[Vq]
def U6(j)(a){w}(e:a.size=j)(d:w<=i)(h:1<=i-w)(k:i<=j)(m:j<=4000000){b}(g:b=heapSort ltInt a w i):Z p 221 [dI j,R w,R i] [cE j a] (.Q []) [cE j b]:=by grind[U3]
def WU(j)(s:j<=4000000):∀aq(N:Array Int)(w i lim:Nat),i-w<=aq->N.size=j->w<=i->i<=j->lim<=100->Below ltInt w i N ->
  ∀{D aM aN:Int},D=w->aM=i->aN=lim->∀{an:Array Int},an=pdq ltInt N w i lim l l->Z p 187 [dI j,R D,R aM,R aN] [cE j N] (.Q []) [cE j an]:=by
 have e:ba p [(226,p_)]:=.cons r2 .nil;have K:=Go.Sort.swo_ltInt;have a0:=Go.Sort.partialInsertionSort_holds (lt:=ltInt);have ah:=Go.Sort.partition_holds ltInt;have a4:=Go.Sort.partitionEqual_holds ltInt;have aU:=Go.Sort.reverseRange_holds (α:=Int);have L:=Go.Sort.pdq_sorts ltInt;intro aq;induction aq using Nat.strongRecOn with
 |_ aq ai=>
 intro N w i lim a9 ae ab aB aD aH D aM aN aE aF aG an aa;subst aE aF aG;refine Z.I func187 rfl λaC=>?_;refine cU e a A (g.aC 1 (λo:RP=>o.c'.size=j/\o.cO<=o.dv/\o.dv<=j/\o.lim<=100/\o.dv-o.cO<=i-w/\Below ltInt o.cO o.dv o.c'/\pdq ltInt o.c' o.cO o.dv o.lim o.hO o.hR=an) (λo=>vL j o.cO o.dv o.lim o.hO o.hR) (λo=>[cE j o.c']) (λo=>o.dv-o.cO) ⟨w,i,lim,l,l,N⟩ a C a C a ⟨ae,ab,aB,aD,bA _,aH,aa.symm⟩ ?_);clear aC aH ae aa;rintro⟨h,k,q,d,m,d1⟩ ⟨U,ar,r,af,ag,aH,Q⟩;simp only at U ar r af ag aH Q;by_cases O:k-h<=12
 .rw[Go.Sort.pdq_small O]at Q;refine be e [23] a ?_ ?_
  .simp only[T,a8,bw];exact fv
  exact g.aA (Vr j d1 (w:=h) (i:=k) U r u s Q.symm) [0] a Fp
 by_cases S:q=0
 .rw[Go.Sort.pdq_heap O S]at Q;refine be e [-23,29] a ?_ ?_
  .simp only[T,a8,dp,gL];exact fv
  exact g.aA (U6 j d1 (w:=h) (i:=k) U ar u r s Q.symm) [0] a Fp
 have ak:h<k:=u;obtain⟨X,a5,f3,f4,f5,f6,f7,f8⟩:=Go.Sort.rd_facts (limit:=q) (wb:=d) (wp:=m) K a0 aU ak M aH;have a6:=Go.Sort.rd_lim_le (lt:=ltInt) (d:=d1) (a:=h) (b:=k) (limit:=q) (wb:=d) (wp:=m);have aV:=Go.Sort.rd_dec (lt:=ltInt) (d:=d1) (a:=h) (b:=k) (limit:=q) (wb:=d) (wp:=m);have aL:=Go.Sort.rd_not (lt:=ltInt) (d:=d1) (a:=h) (b:=k) (limit:=q) (wb:=d) (wp:=m);have G:=Go.Sort.rd_pi_yes (lt:=ltInt) (d:=d1) (a:=h) (b:=k) (limit:=q) (wb:=d) (wp:=m);have aR:=Go.Sort.rd_pi_no (lt:=ltInt) (d:=d1) (a:=h) (b:=k) (limit:=q) (wb:=d) (wp:=m);have av:=Go.Sort.rd_c (lt:=ltInt) (d:=d1) (a:=h) (b:=k) (limit:=q) (wb:=d) (wp:=m);have Y:d=v->(rd ltInt d1 h k q d m).d1=breakPatterns d1 h k/\(rd ltInt d1 h k q d m).lim=q-1:=by grind[Go.Sort.rd_false]
 have a1:d=l->(rd ltInt d1 h k q d m).d1=d1/\(rd ltInt d1 h k q d m).lim=q:=by grind[Go.Sort.rd_true]
 have aO:=Go.Sort.pdq_done (lt:=ltInt) (d:=d1) (wb:=d) (wp:=m) O S;have geq:=Go.Sort.pdq_eq (lt:=ltInt) (d:=d1) (wb:=d) (wp:=m) O S;have x:=Go.Sort.pdq_left (lt:=ltInt) (d:=d1) (wb:=d) (wp:=m) O S;have aT:=Go.Sort.pdq_right (lt:=ltInt) (d:=d1) (wb:=d) (wp:=m) O S;rw[U]at X f4 f7;rw[Q]at aO geq x aT;generalize rd ltInt d1 h k q d m=b at *;apply g.cf (vL j h k b.lim d m++[(10,R ((k-h:Nat):Int))]) [cE j b.d1]
 .intro dw;cases d with
  |false=>
   obtain⟨H,J⟩:=Y rfl;refine be e [-23,-29] a Og (g.aA (TZ j d1 h k U ar r s) [0] a ?_);rw[<-H];refine be e [910] a sd ?_;exact dw _ _ a (by simp[T.Z,T,J,a',a7];and_intros<;>omega)
  |true=>
   obtain⟨H,J⟩:=a1 rfl;subst H;exact be e [-23,-29,910] a Og (dw _ _ a bu)
 refine cU e a A (g.aA (T1 j b.d1 h k ar r u s) [0] a ?_);rw[<-av];apply g.cf (vL j h k b.lim d m++[(10,R ((k-h:Nat):Int)),(11,R b.pivot),(12,R (qp b.hint))]) [cE j b.d2]
 .intro dw;by_cases aP:b.c.2=.decreasing
  .obtain⟨H,J,z⟩:=aV aP;refine be e [50] a ?_ ?_
   .simp only[T,gL,JN];omega
   refine g.aA (W5 j b.d1 h k X u u r s) [0] a ?_;rw[<-H];exact be e [915] a sd (dw _ _ a (by simp[T.Z,T,J,z,qp,a',a7];omega))
  obtain⟨H,J,z⟩:=aL aP;rw[<-H];refine be e [-50,915] a ?_ ?_
  .simp only[T,e0,d6,JN];omega
  exact dw _ _ a (by simp[T.Z,T,J,z,a',a7])
 by_cases B:b.pi.2=l
 ·
  have aI:(d&&m&&decide (b.hint=.increasing))=l:=M;have V:=G aI;simp[cn,bw]at aI;obtain⟨⟨rfl,rfl⟩,aY⟩:=aI;refine be e [67] a bG (g.aA (IU j b.d2 h k f4 ak r s) [0] a ?_);rw[<-V,B,<-aO B];exact Fp
 rw[pV]at B;apply g.cf (vL j h k b.lim d m++[(10,R ((k-h:Nat):Int)),(11,R b.pivot)]) [cE j b.pi.1]
 .intro dw;cases y:(d&&m&&decide (b.hint=.increasing))with
  |true=>
   have V:=G y;simp[cn,bw]at y;obtain⟨⟨rfl,rfl⟩,aY⟩:=y;refine be e [67] a bG (g.aA (IU j b.d2 h k f4 ak r s) [0] a ?_);rw[<-V,B];exact E'
  |false=>
   have V:b.d2=b.pi.1:=M;rw[V];cases d with
   |false=>
    exact E'
   |true=>
    cases m with
    |false=>
     exact E'
    |true=>
     refine be e [-67,917] a ?_ ?_
     .simp only[T,e0,d6,YJ];grind
     exact ky
 have W:((h:Int)-1).toNat=h-1:=u;cases y:(decide (h>0)&&!ltInt b.pi.1[h-1]! b.pi.1[b.pivot]!)with
 |true=>
  have au:=y;simp[cn,bw,je]at au;obtain⟨F,t,I,E,_⟩:=Go.Sort.round_eq (mid:=(partitionEqual ltInt b.pi.1 h k b.pivot).1) (d4:=(partitionEqual ltInt b.pi.1 h k b.pivot).2) K a4 au.1 f6.1 f6.2 M f8 au.2 rfl;have ao:=geq B y ⟨F,t⟩;refine be e [74,-85] a ?_ ?_
  .simp only[T,cW,cZ,W,au.2,a8,bw,a',a7];exact fv
  refine g.aA (WR j b.pi.1 h k b.pivot f7 ak r u s) [0] a (cU e a A (g.aw ⟨(partitionEqual ltInt b.pi.1 h k b.pivot).1,k,b.lim,d,m,(partitionEqual ltInt b.pi.1 h k b.pivot).2⟩ a C C M ?_));grind
 |false=>
  obtain⟨F,t,I,E,al,aJ,aK⟩:=Go.Sort.round_part (mid:=(partition ltInt b.pi.1 h k b.pivot).1) (ap:=(partition ltInt b.pi.1 h k b.pivot).2.1) (d4:=(partition ltInt b.pi.1 h k b.pivot).2.2) K ah f6.1 f6.2 M f8 rfl;apply g.cf (vL j h k b.lim d m++[(10,R ((k-h:Nat):Int)),(11,R b.pivot)]) [cE j b.pi.1]
  .intro dw;by_cases aS:0<h
   .have aZ:ltInt b.pi.1[h-1]! b.pi.1[b.pivot]! = l:=M;refine be e [74,85,920] a ?_ ?_
    .simp only[T,cW,cZ,W,aZ,a8,bw,a',a7];exact fv
    exact ky
   exact be e [-74,920] a bu ky
  refine cU e a A (g.aA (WQ j b.pi.1 h k b.pivot f7 ak r u s) [0] a ?_);have aw:=x B y ⟨F,t⟩;have ax:=aT B y ⟨F,t⟩;generalize partition ltInt b.pi.1 h k b.pivot=P at *;rw[f7]at I;by_cases aQ:P.1-h<k-P.1
  .have ao:=aw aQ;obtain⟨w1,w2⟩:=L K P.2.2 h P.1 b.lim l l F M E;obtain⟨w3,_⟩:=aJ _ w1 w2;refine be e [113] a sf (g.aA (ai (P.1-h) u P.2.2 h P.1 b.lim (bA _) I F u u E a a a a) [0] a (cU e a Rr (g.aw ⟨P.1+1,k,b.lim,decide (P.1-h≥(k-h) / 8),P.2.1,pdq ltInt P.2.2 h P.1 b.lim l l⟩ a bu C ?_ ?_)))
   .exact⟨by simp only;rw[w1.1,I],by grind,r,by grind,by grind,w3,ao.symm⟩
   grind
  have ao:=ax aQ;obtain⟨w1,w2⟩:=L K P.2.2 (P.1+1) k b.lim l l u M al;obtain⟨w3,_⟩:=aK _ w1 w2;refine be e [-113] a zM (g.aA (ai (k-(P.1+1)) u P.2.2 (P.1+1) k b.lim (bA _) I u r u al (D:=(P.1:Int)+1) u a a a) [0] a (cU e a ?_ (g.aw ⟨h,P.1,b.lim,decide (k-P.1≥(k-h) / 8),P.2.1,pdq ltInt P.2.2 (P.1+1) k b.lim l l⟩ a ?_ ?_ ?_ ?_)))
  .trivial
  .exact bu
  .simp
  .exact⟨by simp only;rw[w1.1,I],by grind,by grind,by grind,by grind,w3,ao.symm⟩
  grind
end
section
open Go.Proofs Go.Conc Go.Conc.Lib
open Go.ConcN (WgLive PayAt Has RW AtR0)
open Go.ConcR (KK WgAt stA smA rd wr mk Payload DC0)
instance aet:Payload:=⟨296⟩
def m9(h:Int):bK:=λargs e=>match args,e with
 |[.n (.R (.c (.int .i64 d))),g,.n (.R (.c (.int .i64 i)))],[]=>match jT 2 g with
  |none=>n
  |some (b,a)=>f (xK (dg d (a2.ad b a) i),[],[a2.bM b a,d=h])
 |_,_=>n
noncomputable def GC:Code:=(Tryz.f232.body).getD .skip
noncomputable def Dx:Array ao:=match GC with|.seq (.region _ a _) _=>a|_=>#[]
noncomputable def vD:Array ao:=match GC with|.seq _ (.region _ a _)=>a|_=>#[]
def Sv:Tryz.f232.body=f (.seq (.region 0 Dx v) (.region 1 vD l)):=bF
def gS(e:Option Nat)(a:Op)(b:al)(d:Array Edge):ao:={dst:=e,op:=a,type:=b,pos:= "l12_snap.go:82",after:=d,guard:=n}
def mF:m ao:=[gS (f 6) (.load 286 (.tmp 4)) 286 #[],gS (f 7) (.load 3 (.tmp 5)) 3 #[],gS (f 8) (.load 3 (.tmp 1)) 3 #[],gS (f 9) (.load 26 (.tmp 2)) 26 #[],gS (f 10) (.load 3 (.tmp 3)) 3 #[],
 gS (f 11) (.call {callee:=.value (.func 234),args:=#[.tmp 8,.tmp 9,.tmp 10],argTypes:=#[3,26,3]}) 296 #[⟨2,.data⟩,⟨3,.data⟩,⟨4,.data⟩],
 gS (f 12) (.indexAddr 286 (.tmp 6) (.tmp 7)) 0 #[⟨0,.data⟩,⟨1,.data⟩,⟨0,.phase⟩,⟨1,.phase⟩,⟨2,.phase⟩,⟨3,.phase⟩,⟨4,.phase⟩,⟨5,.phase⟩],
 gS n (.store 296 (.tmp 12) (.tmp 11)) 0 #[⟨6,.data⟩,⟨5,.data⟩,⟨5,.chain⟩,⟨0,.phase⟩,⟨1,.phase⟩,⟨2,.phase⟩,⟨3,.phase⟩,⟨4,.phase⟩,⟨5,.phase⟩]]
def Z1:vD=mF.toArray:=bF
def yO(a:mF[e]?=f q):e<8:=(cO.1 a).1
section
variable (h:Int)(Y:m b')(w:Int)(j D K:Nat)
def K_(a:X):bJ:=[(0,cM a),(1,ax (.O [.int .i64 h])),(2,ax (.O [.A v 2 (c Y) (a2.fn Y)])),(3,ax (.O [.int .i64 w])),(4,ax (.O [.val (.slice (f ⟨K,0,n⟩) j j)])),(5,ax (.O [.int .i64 D]))]
def r_:Nat->x
 |0=>cM (.slice (f ⟨K,0,n⟩) j j)
 |1=>R D
 |2=>R h
 |3=>a2.A Y
 |4=>R w
 |5=>xK (dg h Y w)
 |6=>cM (.pointer (f ⟨K,D*2,n⟩))
 |_=>.any
def rK:Nat->Option Nat
 |6=>f 0|7=>f 1|8=>f 2|9=>f 3|10=>f 4|11=>f 5|12=>f 6|_=>n
def Jz(a:X):Nat->bJ
 |5=>[(8,R h),(9,a2.A Y),(10,R w)]
 |6=>[(6,cM (.slice (f ⟨K,0,n⟩) j j)),(7,R D)]
 |_=>K_ h Y w j D K a
end
def ZR{m:ah V}{j D K}(k:D<j):aZ m 13 mF (gS (f 12) (.indexAddr 286 (.tmp 6) (.tmp 7)) 0 #[⟨0,.data⟩,⟨1,.data⟩,⟨0,.phase⟩,⟨1,.phase⟩,⟨2,.phase⟩,⟨3,.phase⟩,⟨4,.phase⟩,⟨5,.phase⟩]) [(6,cM (.slice (f ⟨K,0,n⟩) j j)),(7,R D)] [] (cM (.pointer (f ⟨K,D*2,n⟩))) []:=by
 refine .a1 (λ_ _ _ _=>i_ a) (a0.aS λq e s h=>?_);have d:=h (.tmp 6);have b:=h (.tmp 7);have o:bD [(6,x.n (.R (.v (.slice (f ⟨K,0,n⟩) j j)))),(7,R D)] (.tmp 6)=cM (.slice (f ⟨K,0,n⟩) j j):=rfl;have p:bD [(6,x.n (.R (.v (.slice (f ⟨K,0,n⟩) j j)))),(7,R D)] (.tmp 7)=R D:=rfl;rw[o]at d;rw[p]at b;have d:=Rd.ba d;have b:=b6 b;generalize g:e (.tmp 7)=r at b;cases b;have i:=(bc 286 yo a).run_underlying (Q:=q.a);refine⟨.pointer (f ⟨K,D*2,n⟩),?_,Rd.val a,?_⟩
 .simp[ab,gS,d,g,Instr.indexAt,asIntOf,i,show yo.desc=.slice 296 from a,(bc 296 rH a).a',show rH.size=2 from a,g0,k]
 simp[ab,gS,d,g,Instr.indexAt,asIntOf,i,show yo.desc=.slice 296 from a,g0,k]
def adz{x:ah V}{h}(C:bL x 234 (m9 h))(Y)(w)(j D K)(J:D<j)(d):
  uo x 13 mF.toArray (K_ h Y w j D K d) [] (r_ h Y w j D K) (Jz h Y w j D K d) rK 7:=by
 have F:ba x [(234,m9 h)]:=ba.cons C ba.nil;have s:∀(i:Nat) p y t m,mF[i]?=f p->iA eN [(234,m9 h)] [] mF y [] p=f (t,n,m)->T m->aZ x 13 mF p y [] t []:=
  λi p y t m _ u e=>ef bc F u e
 refine⟨?_,?_,?_,?_,?_,?_,by decide⟩
 .intro i p e M B _;simp[j8]at e;have g:=yO e
  match i,g with
  |0,_|1,_|2,_|3,_|4,_|5,_|6,_|7,_=>
   cases e;simp[gS]at B;try (rcases B with rfl|rfl|rfl|rfl|rfl|rfl|rfl|rfl|rfl<;>decide)
   try (rcases B with rfl|rfl|rfl<;>decide)
 .intro i p t e z;simp[j8]at e;have g:=yO e
  match i,g with
  |0,_|1,_|2,_|3,_|4,_|5,_|6,_|7,_=>
   cases e;cases z;try exact⟨rfl,by decide⟩
 .intro t i u;unfold rK at u;split at u<;>cases u<;>exact⟨_,rfl,rfl⟩
 .intro i p e q;simp[j8]at e;have g:=yO e
  match i,g with
  |0,_=>cases e;exact s 0 _ _ _ _ a a A
  |1,_=>cases e;exact s 1 _ _ _ _ a a A
  |2,_=>cases e;exact s 2 _ _ _ _ a a A
  |3,_=>cases e;exact s 3 _ _ _ _ a a A
  |4,_=>cases e;exact s 4 _ _ _ _ a a A
  |5,_=>
   cases e;have:=s 5 _ (Jz h Y w j D K d 5) _ _ a a (by simp[a2.T]);rw[a2.l]at this;exact this
  |6,_=>cases e;exact ZR J
  |7,_=>grind
 .intro i p e q o k b aa r;simp[j8]at e;have g:=yO e
  match i,g with
  |0,_|1,_|2,_|3,_|4,_=>
   match o with
   |0|1|2|3|4|5=>exact r
   |o+6=>trivial
  |5,_=>
   cases e
   match o with
   |8=>exact(show bv k b aa (r_ h Y w j D K 2)from by simpa[rK,gS,eQ,Region.binds]using r)
   |9=>exact(show bv k b aa (r_ h Y w j D K 3)from by simpa[rK,gS,eQ,Region.binds]using r)
   |10=>exact(show bv k b aa (r_ h Y w j D K 4)from by simpa[rK,gS,eQ,Region.binds]using r)
   |0|1|2|3|4|5|6|7=>trivial
   |o+11=>trivial
  |6,_=>
   cases e
   match o with
   |6=>exact(show bv k b aa (r_ h Y w j D K 0)from by simpa[rK,gS,eQ,Region.binds]using r)
   |7=>exact(show bv k b aa (r_ h Y w j D K 1)from by simpa[rK,gS,eQ,Region.binds]using r)
   |0|1|2|3|4|5=>trivial
   |o+8=>trivial
  |7,_=>grind
 intro p e E I q;simp[j8]at e;cases e
 match E,I with
 |0,_=>exact⟨⟨0,.phase⟩,by simp[gS],rfl,rfl⟩
 |1,_=>exact⟨⟨1,.phase⟩,by simp[gS],rfl,rfl⟩
 |2,_=>exact⟨⟨2,.phase⟩,by simp[gS],rfl,rfl⟩
 |3,_=>exact⟨⟨3,.phase⟩,by simp[gS],rfl,rfl⟩
 |4,_=>exact⟨⟨4,.phase⟩,by simp[gS],rfl,rfl⟩
 |5,_=>exact⟨⟨5,.phase⟩,by simp[gS],rfl,rfl⟩
 |6,_=>exact⟨⟨6,.data⟩,by simp[gS],rfl,rfl⟩
 |7,_=>grind
noncomputable def ml:aG:={(default:aG)with fn:=Tryz.prog.funcs.size,defers:=[],mode:=.panicking [goexitEntry]}
def rr(y:Array X):Deferred:={target:=.fn (.func 232) y,args:=#[]}
def Sw(v0 v1 v2 a v4 b)(d):aq V v (born V (rr #[v0,v1,v2,a,v4,b])) d =
  .go (G ((baseD 232).at ⟨#[v0,v1,v2,a,v4,b,I,I,I,I,I,I,I],[]⟩ [.code (.seq (.region 0 Dx v) (.region 1 vD l))]) [ml]) d #[]:=by
 have h:=Sv;have g:Tryz.f232.ntmps=13:=bF;have e:¬Tryz.f232.name= "runtime.NumGoroutine":=by have:(Tryz.f232.name== "runtime.NumGoroutine")=v:=bF;grind
 simp[born,rr,aq,unwind,callDeferred,invoke,callFunc,Tryz.func232,h,g,e,seen,GStep.after,G,Frame.enter,Frame.at,baseD,ml]
end
section
variable {p:ah V}
abbrev nC(a:m b')(b:Nat):b':=a.getD b (0,[])
def Yg{j}{Y}{b}(g:e<c Y)(m:fS h (nC Y e) j=f b)(d:∀a,a<e->fS h (nC Y a) j=n):dg h Y j=f b:=by
 unfold dg;induction Y generalizing e with
 |nil=>grind
 |cons o Y i=>
  cases e with
  |zero=>grind
  |succ e=>
   have k:=d 0 u;grind
def Yh{j}{Y}(b:∀a,a<c Y->fS h (nC Y a) j=n):dg h Y j=n:=by unfold dg;grind[List.getElem_of_mem]
theorem kZ.fa{P}{F}{k}{ac}(aY:bZ P ac){fn}{r}{res}{an}(aU){Y}(b:tt ac fn.results.toList aU F res=f Y)(p:T Y)(q:dx aU k=f an)(j:l1 an=l)(g:fb aU=l)(e:∀h,h<r->aU[h]?=f h):
  kZ P fn r res an .ret F k:=by
 refine⟨.inl a,aU,?_⟩;unfold tt at b;split at b
 .rename_i bf d;split at b
  .rename_i m o;split at b
   .rename_i i;exact⟨m,Y,oL.fa aY d o,b,p,i,q,j,g,e⟩
   grind
  grind
 grind
def eW{b:m Nat}:∀a,a<0->b[a]?=f a:=λ_ d=>absurd d (iJ _)
def UG(o:bL p 205 lG)(h)(Y)(j)(i:cj h=l):Z p 234 [R h,a2.A Y,R j] [] (xK (dg h Y j)) []:=by
 refine Z.bG func234 rfl rfl rfl λq=>?_;have w:=q.A 1 a;have e:ba p [(276,kh c8 (jA bH) c8 (λh t j=>iS (fS h t j)) λh _ _=>[cj h=l])]:=.cons (ac5 o) .nil;refine b_ e a A (g.aC 1 (λb=>b<=c Y/\∀k,k<b->fS h (nC Y k) j=n) (λb:Nat=>[(0,R h),(2,R j),(6,aI 0 0),(11,a2.A Y),(12,R (c Y)),(13,R b)]) (λ_=>[.cells 296 [.c (.V []),.c (.bool v)]]) (λb=>c Y-b) 0 a C a C a ⟨by omega,by omega⟩ ?_);rintro b ⟨s,m⟩;by_cases r:b<c Y
 .cases d:fS h (nC Y b) j with
  |some y=>
   refine a_ e [14,24] a ?_ (g.freeze 6 0 a a a (g.aT ?_))
   .simp only[T,cZ,bH.l];refine⟨?_,bH.T _,i,by omega,by omega,fQ u⟩;grind
   refine kZ.fa bc [] a ?_ a a a eW;rw[Yg r d m];simp only[cZ,bH.l];simp_all
  |none=>
   refine a_ e [14,-24] a ?_ (g.aw (b+1) a ?_ ?_ ?_ ?_)
   .simp only[T,cZ,bH.l];refine⟨by exact bG,?_,bH.T _,i,by omega,by omega,fQ u⟩;grind
   .simp
   .simp
   .grind
   grind
 refine a_ e [-14] a bQ (g.az ?_);refine b_ e a A (g.freeze 6 0 a a a ?_);refine g.cr bc [] a ?_ a a a eW;rw[Yh λk x=>m k u];simp
def acE(m:bL p 205 lG)(d:cj h=l):bL p 234 (m9 h):=by
 intro args s i k g b e;unfold m9 at b;split at b
 .rename_i k1 r j;split at b
  .cases b
  rename_i u t o;cases b;obtain⟨q,rfl⟩:=e;exact(UG m _ _ j d).args λw y=>b4.imp (λ_ a=>a) (b4.imp (λ_ a=>a2.cA o q a) (b4.imp (λ_ a=>a) (λ_ a=>a))) y
 grind
def sG:bK:=λargs b=>match args,b with
 |[.n (.R (.c (.V [46]))),.n (.R (.c (.int .i64 a)))],[]=>f (b1 (aW a.toNat 46),[],[0<=a/\a<=3])
 |_,_=>n
def acf:bL p 252 (dk c8 (λa=>R (fa a.toNat)) λa=>[0<=a/\a<=4000000]):=.a7 λa d=>by
 have e:0<=a/\a<=4000000:=d;obtain⟨b,rfl⟩:∃b:Nat,a=b:=⟨a.toNat,by omega⟩
 exact T6 (p:=p) b u
def SS(a:1<=j)(b:j<=8):j<=fa j/\fa j<=j+3:=FK
def WN(h:bL p 251 sG)(d):Z p 205 [b1 d] [] (b1 (fJ d)) []:=by
 refine Z.I func205 rfl λj=>?_;have e:ba p [(250,dk eE (λi=>bh (cC i)) λ_=>[]),(252,dk c8 (λb=>R (fa b.toNat)) λb=>[0<=b/\b<=4000000]),(251,sG)]:=.cons t250 (.cons acf (.cons h .nil));by_cases w:cC d=l
 .have r:=w;simp only[cC,cn,bw]at r;have k:=SS r.1.1 r.1.2;refine a_ e [-5] a ?_ (g.aq a ?_)
  .simp[w,a8];omega
  simp[fJ,w]
 refine a_ e [5] a oJ (g.aq a ?_);simp[fJ,w]
def ac0(a:bL p 251 sG):bL p 205 lG:=.a7 λb _=>WN a b
def W3:Z p 251 [b1 [46],R 0] [] (b1 []) []:=by refine Z.I func251 rfl λb=>?_;refine a5 [12] a ?_ (g.aq a);simp
def W4:Z p 251 [b1 [46],R 1] [] (b1 [46]) []:=by refine Z.I func251 rfl λb=>?_;refine a5 [-12,14] a ?_ (g.aq a);simp
def ac'(g:Z p 251 [b1 [46],R 2] [] (b1 [46,46]) [])(j:Z p 251 [b1 [46],R 3] [] (b1 [46,46,46]) []):bL p 251 sG:=by
 intro args i d e b a h;unfold sG at a;split at a
 .rename_i r;cases a;have:r=0∨r=1∨r=2∨r=3:=lH;rcases this with rfl|rfl|rfl|rfl
  .exact W3
  .exact W4
  .exact g
  grind
 grind
def UE(w i):Z p 237 [bS.A w,bS.A i] [] (bh (w==i)) []:=by
 refine Z.I func237 rfl λk=>?_;have q:=k.A 0 a;by_cases h:c w=c i
 .refine a5 [-10] a (by simp[h]) (g.b' (λb=>b<=c w/\∀d,d<b->w.getD d []=i.getD d []) (λb:Nat=>[(0,bS.A w),(1,bS.A i),(12,R (c w)),(13,R b)]) (λ_=>[]) (λb=>c w-b) 0 a C a A ⟨by omega,by omega⟩ ?_);rintro b ⟨j,m⟩;by_cases r:b<c w
  .by_cases e:w.getD b []=i.getD b []
   .refine a5 [14,-24] a ?_ (g.b5 (b+1) a ?_ a A ?_ ?_)
    .simp only[T,cZ];have o:(w.getD b bS.D==i.getD b bS.D)=l:=gL.2 e;exact⟨by exact bG,by grind,by omega,by omega,by omega,by omega,fQ u⟩
    .simp
    .grind
    omega
   refine a5 [14,24] a ?_ (g.bR (bY.zero a ?_))
   .simp only[T,cZ];grind
   exact EZ
  refine a5 [-14] a bQ (g.bs a a ?_);refine aO a A (g.aq a ?_);have:w=i:=rh h λd e s=>by grind
  simp[this]
 refine a5 [10] a bQ (g.aq a ?_);exact EZ
end
def vM{p s:ae}(t:q.op=.binOp op o p s ty){B}(O:P.underlying o=f (.pointer B)){i r}(E:∀b g h,bb k b->bv k b g (η p)->bv k b h (η s)->∃y z,g=.pointer y/\h=.pointer z/\(y==z)=i/\(eqGuard op o p s g h).run P b.a=.ok () b.a/\(∀a,(eqGuard op o p s g h).events P b.a a=a) /\
   (Op.equal o g h).run P b.a=.ok i b.a/\∀a,(Op.equal o g h).events P b.a a=a)(x:h_ op i=f r):a0 P q η k (ax (.bool r)) k:=by
 refine .aS λb I F A=>?_;obtain⟨y,z,d,e,J,m,C,j,D⟩:=E b _ _ F (A p) (A s);rw[d,e]at m j;have w:=C #[];have u:=D #[];rw[d,e]at w u;cases op<;>simp only[h_,reduceCtorEq,e1]at x
 .subst x;exact⟨.bool i,by simp[ab,t,d,e,m,binOp,j],Rd.bool,by simp[ab,t,d,e,m,w,binOp,j,u]⟩
 subst x;exact⟨.bool (!i),by simp[ab,t,d,e,m,binOp,j],Rd.bool,by simp[ab,t,d,e,m,w,binOp,j,u]⟩
def rQ{h:ae}(p:q.op=.binOp op o h (.const (.pointer n)) ty){j}(B:P.underlying o=f (.pointer j)){r}(w:η h=ax .bp)(t:η (.const (.pointer n))=ax .bp)(u:h_ op l=f r):a0 P q η k (ax (.bool r)) k:=by
 refine vM p B (i:=l) ?_ u;intro b x y _ g e;rw[w]at g;rw[t]at e;replace g:=b6 g;replace e:=b6 e;cases g;cases e;have s:(Op.equal o (.pointer n) (.pointer n)).run P b.a=.ok l b.a:=E5;have m:∀d,(Op.equal o (.pointer n) (.pointer n)).events P b.a d=d:=λd=>by show(aN (9999+1) o _ _).events P b.a d=d;unfold aN;simp[underlying,B]
 exact⟨n,n,a,a,a,by cases op<;>simp[eqGuard],λd=>by cases op<;>simp[eqGuard],s,m⟩
def aas{m:ae}(t:q.op=.binOp op o m (.const (.pointer n)) ty){s}(h:P.underlying o=f (.pointer s)){r}(y:η m=aI d off)(w:η (.const (.pointer n))=ax .bp)(x:h_ op v=f r):a0 P q η k (ax (.bool r)) k:=by
 refine vM t h (i:=v) ?_ x;intro e z A _ j g;rw[y]at j;rw[w]at g;replace g:=b6 g;cases g;obtain⟨_,L,i,_,_,rfl⟩:=(j:cB k e z (.ptr d off));have u:(Op.equal o (.pointer (f ⟨i,off,n⟩)) (.pointer n)).run P e.a=.ok v e.a:=by show(aN (9999+1) o _ _).run P e.a=_;unfold aN;simp[underlying,h]
 have p:∀b,(Op.equal o (.pointer (f ⟨i,off,n⟩)) (.pointer n)).events P e.a b=b:=λb=>by show(aN (9999+1) o _ _).events P e.a b=b;unfold aN;simp[underlying,h]
 exact⟨_,n,a,a,a,by cases op<;>simp[eqGuard],λb=>by cases op<;>simp[eqGuard],u,p⟩
def aat{z A:ae}(E:q.op=.binOp op o z A ty){h}(m:P.underlying o=f (.pointer h))(y:j≠0)(w:∀g,(sizeOf h).run P g=.ok j g)(D:∀g b,(sizeOf h).events P g b=b){r}(K:η z=aI d off)(N:η A=aI d off)(B:h_ op l=f r):a0 P q η k (ax (.bool r)) k:=by
 refine vM E m (i:=l) ?_ B;intro e J M _ u t;rw[K]at u;rw[N]at t;obtain⟨_,L,i,O,F,rfl⟩:=(u:cB k e J (.ptr d off));obtain⟨_,x,Q,s,p,rfl⟩:=(t:cB k e M (.ptr d off));rw[O]at s;cases s;rw[F]at p;cases p;have I:(Op.equal o (.pointer (f ⟨i,off,n⟩)) (.pointer (f ⟨i,off,n⟩))).run P e.a=.ok l e.a:=by show(aN (9999+1) o _ _).run P e.a=_;unfold aN;simp[underlying,m,w,y,sameAddr]
 have C:∀b,(Op.equal o (.pointer (f ⟨i,off,n⟩)) (.pointer (f ⟨i,off,n⟩))).events P e.a b=b:=λb=>by show(aN (9999+1) o _ _).events P e.a b=b;unfold aN;simp[underlying,m,w,D,y,sameAddr]
 exact⟨_,_,a,a,by simp,by cases op<;>simp[eqGuard],λb=>by cases op<;>simp[eqGuard],I,C⟩
def tu{j:ae}(s:q.op=.binOp op o j (.const (.pointer n)) ty){m}(B:P.underlying o=f (.pointer m)){r}{ag}(x:η j=ax (.O ag))(u:η (.const (.pointer n))=ax .bp)(w:h_ op v=f r):a0 P q η k (ax (.bool r)) k:=by
 refine vM s B (i:=v) ?_ w;intro b y z _ h g;rw[x]at h;rw[u]at g;replace h:=b6 h;replace g:=b6 g;cases g;cases h with|O i e=>
 have t:(Op.equal o (.pointer (f ⟨i,e,n⟩)) (.pointer n)).run P b.a=.ok v b.a:=E5;have p:∀d,(Op.equal o (.pointer (f ⟨i,e,n⟩)) (.pointer n)).events P b.a d=d:=λd=>by show(aN (9999+1) o _ _).events P b.a d=d;unfold aN;simp[underlying,B]
 exact⟨_,n,a,a,a,by cases op<;>simp[eqGuard],λd=>by cases op<;>simp[eqGuard],t,p⟩
section
variable {p:ah V}
abbrev sD(e:Bool)(b:X)(a:Option (Nat×Nat))(d:bC)(g:Nat):ap:=.J (eJ 343 5 e b a d g)
def Ix(v1)(d:dS v1=l)(bO)(af)(b):Z p 305 [aI 0 0] [sD v v1 bO af b] (.Q []) [sD l v1 bO af b]:=by refine Z.I func305 rfl λh=>?_;refine aO a A ?_;refine g.aK (a0.iu bc a a a a a) a a ?_;refine g.aK (rQ a underlying341 a a a) a a ?_;refine aO a A ?_;refine g.aK (a0.iw a a underlying341 underlying201 (lV type343) (by simp[Tryz.t343]) a) a a ?_;refine g.aK (a0.jB func313 bF bF bF bF rfl rfl rfl) rfl rfl ?_;refine g.aK (a0.ir a a underlying201 underlying341 (lV type343) (by simp[Tryz.t343]) bF a) a a ?_;refine aO a A ?_;refine g.aK (a0.iv bc a a a a a a d) a a ?_;refine aO a A ?_;exact bY.di [0] a A a a a (λi e=>by grind)
def Iy(v1)(bO)(af)(b):Z p 305 [aI 0 0] [sD l v1 bO af b] (.Q []) [sD l v1 bO af b]:=by refine Z.I func305 rfl λi=>?_;refine aO a A ?_;refine g.aK (a0.gM bc a a a a a) a a ?_;refine g.aK (aas a underlying341 a a a) a a ?_;refine aO a A ?_;refine g.aK (a0.gM bc a a a a a) a a ?_;refine aO a A ?_;refine g.aK (aat a underlying341 (j:=2) ca (λe=>by simp) (λe d=>by simp) a a a) a a ?_;refine aO a A ?_;exact bY.di [0] a A a a a (λk h=>by grind)
abbrev d8(d:Bool)(a:Option (Nat×Nat))(b:bC)(e:Nat):ap:=sD d (jG a (c b)) a b e
def h7:∀a,a<1->([0]:m Nat)[a]?=f a:=λa b=>by grind
def B8(b)(bO)(af)(i)(e:c af<=9223372036854775807)(d:bO=n->af=[]):Z p 291 [aI 0 0] [d8 b bO af i] (R (c af)) [d8 b bO af i]:=by
 refine Z.I func291 rfl λh=>?_;refine aO a A (g.aK (a0.eQ bc a a a a a) a a ?_);cases bO with
 |none=>
  have:=d a;subst this;refine g.aK (a0.fJ a a underlying22 a C) a a ?_;exact PI
 |some j=>
  refine g.aK (a0.fJ a a underlying22 a e) a a ?_;exact PI
def Cm(B cap)(af b)(e)(k:c b<=9223372036854775807)(h:c af+c b<=cap):Z p 283 [aI 0 0,b1 b] [d8 l (f (B,cap)) af e] (.Q [.R (.c (.int .i64 (c b))),.R (.c .bE)]) [d8 l (f (B,cap)) (af++b) e]:=by refine Z.I func283 rfl λj=>?_;refine aO a A ?_;refine g.aA (Iy (jG (f (B,cap)) (c af)) (f (B,cap)) af e) [0] a ?_;refine aO a A ?_;refine g.aK (a0.eQ bc a a a a a) a a ?_;refine aO a A ?_;refine g.aK (a0.ik (d:=0) (B:=B) (cap:=cap) (af:=af) a underlying22 underlying9 (lV type5) (by simp[Tryz.t5]) a a a a h) a a ?_;refine aO a A ?_;refine g.aK (a0.gf bc a a a a a a a) a a ?_;have i:d8 l (f (B,cap)) (af++b) e=.J (eJ 343 5 l (jG (f (B,cap)) (c af+c b)) (f (B,cap)) (af++b) e):=M;rw[i];refine aO a A (g.aJ [0] a ?_ h7);simp
theorem X6:Z p 283 [aI 0 0,b1 []] [d8 l n [] 0] (.Q [.R (.c (.int .i64 0)),.R (.c .bE)]) [d8 l n [] 0]:=by refine Z.I func283 rfl λb=>?_;refine aO a A ?_;refine g.aA (Iy (jG n 0) n [] 0) [0] a ?_;refine aO a A ?_;refine g.aK (a0.eQ bc a a a a a) a a ?_;refine aO a A ?_;refine g.aK (a0.il a underlying22 underlying9 (lV type5) a a) a a ?_;refine aO a A ?_;refine g.aK (a0.gf bc a a a a a a a) a a ?_;refine aO a A (g.aJ [0] a ?_ h7);simp
abbrev ix:x:=aI 0 0
abbrev n9:x:=aI 0 1
def Cl(B cap)(af)(r)(w:c af<=9223372036854775807)(e:cap≠0):Z p 284 [aI 0 0] [d8 l (f (B,cap)) af r] (b1 af) [d8 l (f (B,cap)) af (c af)]:=by
 refine Z.I func284 rfl λh=>?_;refine a5 [901] a A ?_;refine g.dc b5 10 (λb=>ay b 9) (λb=>[ix,ix,n9,cM (.slice (f ⟨B,0,n⟩) (c af) cap),cM (.pointer (f ⟨B,0,n⟩)),ix,ix,n9,cM (.slice (f ⟨B,0,n⟩) (c af) cap),R (c af)].getD b .any) (λ(_:Unit) _=>b1 af)
  (λ_=>[d8 l (f (B,cap)) af (c af)]) a a a a a a ?_ ?_ ?_ ?_
 .refine⟨.u,.u,.u,iD,?_,.u,.u,.u,?_,?_,A,A,A⟩
  .exact .aK (a0.h8 a a e) a
  .exact iD
  exact Px
 .intro _;refine⟨.u,.u,.u,iD,?_,.u,.u,.u,?_,?_,A,.u,A⟩
  .exact .aK (a0.h8 a a e) a
  .exact iD
  exact Px
 .exact .dd (.aK (Sp (d:=0) a underlying370 bF a a a) a)
 exact Ow
def F6{b d:ae}(h:q.op=.binOp .add o b d ty){i}(g:η b=R 0)(e:η d=R i)(j:a8 .i64 i):a0 V q η k (R i) k:=by have:=a0.binOp (P:=V) (k:=k) h g e (r:=.int .i64 (0+i)) (cl:=[a8 .i64 (0+i)]) a bu;grind
def bl.gL{e}{fn}{args}{a:ι->m ap}(q:Tryz.prog.funcs[e]?=f fn)(o:(fn.name== "runtime.NumGoroutine")=v)(d:fn.body=f r)(j:ay args.length fn.ntmps=l)(t:g p fn.ntmps (λs i b=>∃h,bY fn k.length (res h) (a h) s i b) [.code r] .normal (h4 0 args) k):bl p e args k res a:=
 bl.intro q o d (fq j) (g.aR t)
def XE:Z p 284 [aI 0 0] [d8 l n [] 0] (b1 []) [d8 l n [] 0]:=by
 refine Z.I func284 rfl λe=>?_;refine a5 [901] a A ?_;refine g.dc b5 10 (λb=>ay b 9) (λb=>[ix,ix,n9,cM (.slice n 0 0),cM (.pointer n),ix,ix,n9,cM (.slice n 0 0),R (0:Nat)].getD b .any) (λ(_:Unit) _=>b1 [])
  (λ_=>[d8 l n [] 0]) a a a a a a ?_ ?_ ?_ ?_
 .refine⟨.u,.u,.u,iD,?_,.u,.u,.u,?_,?_,A,A,A⟩
  .exact .aK (a0.h7 a a) a
  .exact iD
  exact qR
 .intro _;refine⟨.u,.u,.u,iD,?_,.u,.u,.u,?_,?_,A,.u,A⟩
  .exact .aK (a0.h7 a a) a
  .exact iD
  exact qR
 .exact .dd (.aK (a0.jR a a a) a)
 exact Ow
def UO(j)(m:0<j)(o:j<=140737488355328):bl (ι:={e:Nat×Nat // j<=e.2}) p 306 [aI 0 0,R j] [d8 l n [] 0] (λ_=>.Q []) (λt=>[d8 l (f t.1) [] 0]):=by
 refine bl.gL func306 rfl rfl rfl ?_;refine a5 [900] a A ?_;have i:a8 .i64 (j:Int):=bG;have q:x:=cM (.slice n 0 0);refine g.dc (ι:={e:Nat×Nat // j<=e.2}) b5 8 (λb=>ay b 7||(ay 9 b&&ay b 13)) (λb=>[ix,ix,n9,cM (.slice n 0 0),R (0:Nat),R 0,R j,R j,.any,ix,ix,n9,cM (.slice n 0 0),R (0:Nat)].getD b .any)
  (λt b=>[cM (jG (f t.1) j),.any,.any,.any,.any,.any,cM (.slice (f ⟨t.1.1,0,n⟩) 0 t.1.2),cM (.slice (f ⟨t.1.1,0,n⟩) 0 t.1.2)].getD (b-8) .any)
  (λt=>[sD l (.slice n 0 0) (f t.1) [] 0]) a a a a a a ?_ ?_ ?_ ?_
 .refine⟨.u,.u,.u,iD,O0,P8,.u,?_,A,.u,.u,.u,?_,?_,A,A,A⟩
  .exact .aK (F6 a a a i) a
  .exact iD
  exact qR
 .intro t;have k:t.1.2≠0:=M;refine⟨.u,.u,.u,iD,O0,P8,.u,?_,A,.u,.u,.u,?_,?_,?_,.u,A⟩
  .exact .aK (F6 a a a i) a
  .exact iD
  .exact qR
  exact .aK (a0.jc (h:=0) a underlying22 (lV type5) a a (gZ _) t.2 k (g0 _ _ _)) a
 .exact .a1 a (So (d:=0) (Y:=#[3]) underlying22 func314 bF bF bF bF rfl rfl rfl m o rfl)
 intro t;refine aO a A (g.aK (a0.eQ (d:=0) bc a a a a a) a a ?_);refine g.aK (a0.iK a underlying22 (lV type5) a a) a a ?_;refine aO a A (g.aK (a0.gf (d:=0) bc a a a a a a a) a a ?_);exact Od
def In(j)(e:0<j)(h:j<=140737488355328):bl (ι:={i:Nat×Nat // j<=i.2}) p 282 [aI 0 0,R j] [d8 v n [] 0] (λ_=>.Q []) (λt=>[d8 l (f t.1) [] 0]):=by
 refine bl.gL func282 rfl rfl rfl ?_;refine aO a A (g.aA (Ix (jG n 0) a n [] 0) [0] a (a5 [-7,903] a C ?_));refine g.dc b5 4 (λb=>ay b 3||(ay 5 b&&ay b 9)||ad b 11) (λb=>[ix,ix,n9,cM (.slice n 0 0),.any,ix,ix,n9,cM (.slice n 0 0),R (0:Nat),.any,R j].getD b .any)
  (λ(_:Unit) b=>[R (0:Nat),.any,.any,.any,.any,.any,R (0-0),.any,bh l].getD (b-4) .any)
  (λ_=>[d8 l n [] 0]) a a a a a a ?_ ?_ ?_ ?_
 .refine⟨.u,.u,.u,iD,A,.u,.u,.u,iD,?_,A,.u,A,A⟩;exact qR
 .intro _;refine⟨.u,.u,.u,iD,A,.u,.u,.u,iD,qR,N',.u,?_,A⟩;exact .eval (bf:=[21]) bc ba.nil (cl:=[decide ((0:Int)-0<(j:Int))=l]) a bQ
 .exact Pm
 intro _;refine aO a A (g.aX (UO j e h) [0] a bk λt=>?_);exact Od
def TE:Z p 282 [aI 0 0,R (0:Nat)] [d8 v n [] 0] (.Q []) [d8 l n [] 0]:=by
 refine Z.I func282 rfl λe=>?_;refine aO a A (g.aA (Ix (jG n 0) a n [] 0) [0] a (a5 [-7,903] a C ?_));refine g.dc b5 4 (λb=>ay b 3||(ay 5 b&&ay b 9)||ad b 11) (λb=>[ix,ix,n9,cM (.slice n 0 0),.any,ix,ix,n9,cM (.slice n 0 0),R (0:Nat),.any,R (0:Nat)].getD b .any)
  (λ(_:Unit) b=>[R (0:Nat),.any,.any,.any,.any,.any,R (0-0),.any,bh v].getD (b-4) .any)
  (λ_=>[d8 l n [] 0]) a a a a a a ?_ ?_ ?_ ?_
 .refine⟨.u,.u,.u,iD,A,.u,.u,.u,iD,?_,A,.u,A,A⟩;exact qR
 .intro _;refine⟨.u,.u,.u,iD,A,.u,.u,.u,iD,qR,N',.u,?_,A⟩;exact .eval (bf:=[-21]) bc ba.nil (cl:=[decide ((0:Int)-0<((0:Nat):Int))=v]) a C
 .exact Pm
 intro _;exact aO a A (bY.di [0] a A a a a h7)
def Gc(b:q.op=.alloc 343):a0 V q η k (aI (c k) 0) (k++[d8 v n [] 0]):=
 a0.ij b (λd=>by simp) (λd a=>by simp)
def ZF{h j m:ae}{b i r}(z)(p:q.op=.call {callee:=.builtin .min,args:=#[h,j,m],argTypes:=ds})(A:η h=R b)(x:η j=R i)(B:η m=R r)(I:min (min b i) r=z)(y:a8 .i64 z):a0 V q η k (R z) k:=by refine .aS λF a J o=>?_;have e:=o h;have d:=o j;have g:=o m;rw[A]at e;rw[x]at d;rw[B]at g;replace e:=b6 e;replace d:=b6 d;replace g:=b6 g;generalize s:a h=C at e;generalize u:a j=D at d;generalize t:a m=E at g;cases e;cases d;cases g;have w:(if r<(if i<b then i else b)then r else if i<b then i else b)=z:=M;exact⟨.int .i64 z,by simp[ab,p,resolve,invoke,builtin,s,u,t,Builtin.min_,Builtin.min2,w],.int y,by simp[ab,p,resolve,invoke,builtin,s,u,t,Builtin.min_,Builtin.min2]⟩
def I0(e:Nat)(z:2<=e)(B:e<=3):Z p 251 [b1 [46],R e] [] (b1 (aW e 46)) []:=by
 refine Z.I func251 rfl λy=>?_;have w:ba p [(290,A_)]:=.cons t290 .nil;refine be w [-13,-15,-18,-30,-33,-40,-44,-45,-46,-47,-48,-96,935] a ?_ ?_
 .have o:(e:Int)=2∨(e:Int)=3:=u;have i:(kG [46] 0).toNat=46:=rfl;simp[a8,i,o];omega
 refine g.region ?_;refine g.aK (Gc a) a a ?_;refine cU w a A (g.aX (In e u u) [0] a bk λs=>?_);obtain⟨⟨h,b⟩,j⟩:=s;have j:e<=b:=j;refine cU w a A (g.aA (Cm h b [] [46] 0 C bQ) [0] a (cU w a A (g.b' (λd=>1<=d/\d<=e) (λd:Nat=>[(0,b1 [46]),(7,R e),(8,R e),(9,aI 0 0)]) (λd=>[d8 l (f (h,b)) (aW d 46) (d-1)]) (λd=>e-d) 1 a C a C ⟨by omega,by omega⟩ ?_)));rintro d ⟨x,t⟩;refine cU w a A (g.aA (B8 l (f (h,b)) (aW d 46) (d-1) bQ C) [0] a ?_);by_cases q:d<e
 .refine be w [113] a bQ (g.aA (B8 l (f (h,b)) (aW d 46) (d-1) bQ C) [0] a (cU w a lH (g.aA (B8 l (f (h,b)) (aW d 46) (d-1) bQ C) [0] a (cU w a A (g.aK (ZF 1 a a a a bQ lx) a a ?_)))));refine cU w a A (g.aA (Cl h b (aW d 46) (d-1) bQ u) [0] a ?_);have m:mo (aW d (46:UInt8)) n (f 1)=[46]:=by
   obtain⟨k,rfl⟩:∃k,d=k+1:=⟨d-1,by omega⟩
   exact bG
  refine cU w a bQ ?_;rw[m];refine g.aA (Cm h b (aW d 46) [46] (c (aW d 46)) C bQ) [0] a ?_;have r:aW d (46:UInt8)++[46]=aW (d+1) 46:=by rw[List.replicate_succ']
  rw[r];refine cU w a A (g.b5 (d+1) a C a ?_ ⟨by omega,by omega⟩ u);simp
 refine be w [-113] a bQ (g.bs a a ?_);have i:d=e:=u;subst i;exact cU w a A (g.aA (Cl h b (aW d 46) (d-1) bQ u) [0] a zQ)
def ac_:bL p 251 sG:=ac' (I0 2 u u) (I0 3 u u)
def zp:bL p 205 lG:=ac0 ac_
def wJ(b:Option (Nat×Nat))(d:Nat):Prop:=match b with|none=>d=0|some (_,a)=>d<=a/\0<a
def _root_.Go.AM.bl.hS{e:Type}{r:ah P}{t}{args}{d:ι->m ap}{s:e->x}{a:e->m ap}(u:bl r t args k res d)(i:ι->e)(F:∀b,s (i b)=res b)(E:∀b,a (i b)=d b):bl r t args k s a:=
 ⟨u.1,λC y j o w g p=>u.2 C y j o w g λb h D q k1 z A B=>p (i b) h D q k1 M M M⟩
def TF(j)(e:j<=140737488355328):bl (ι:={b:Option (Nat×Nat) // wJ b j}) p 282 [aI 0 0,R j] [d8 v n [] 0] (λ_=>.Q []) (λh=>[d8 l h.1 [] 0]):=by
 by_cases g:j=0
 .subst g;exact TE.tocH.hS (λ_=>⟨n,a⟩) bk bk
 exact(In j u e).hS (λd=>⟨f d.1,d.2,by grind⟩) bk bk
def Cn(bO)(af b)(e:c b<=9223372036854775807)(a:wJ bO (c af+c b)):Z p 283 [aI 0 0,b1 b] [d8 l bO af 0] (.Q [.R (.c (.int .i64 (c b))),.R (.c .bE)]) [d8 l bO (af++b) 0]:=by
 cases bO with
 |none=>
  have a:c af+c b=0:=a;grind[X6]
 |some d=>exact Cm d.1 d.2 af b 0 e a.1
def abw(a:Option (Nat×Nat))(b:bC):Nat:=match a with|none=>0|some _=>c b
def XF(bO)(af)(d:c af<=9223372036854775807)(a:wJ bO (c af)):Z p 284 [aI 0 0] [d8 l bO af 0] (b1 af) [d8 l bO af (abw bO af)]:=by
 cases bO with
 |none=>
  have a:c af=0:=a;have e:af=[]:=jB a;subst e;exact XE
 |some b=>exact Cl b.1 b.2 af 0 d (by have:=a.2;omega)
def lq(b:m bC)(a:Nat):bC:=(b.take a).flatten
def v8{d}(a:e<c d):lq d (e+1)=lq d e++d.getD e []:=by unfold lq;grind[List.take_add_one]
def M2{d}:lq d (c d)=d.flatten:=by simp[lq]
def v7{d}(e):c (lq d e)<=c d.flatten:=by have a:d.flatten=(d.take e).flatten++(d.drop e).flatten:=FD;rw[a,df];simp only[lq];omega
def Vz(d)(y:c d.flatten<=140737488355328):Z p 236 [bS.A d,b1 []] [] (b1 d.flatten) []:=by
 refine Z.I func236 rfl λx=>?_;have E:=x.A 0 a;by_cases B:d=[]
 .subst B;refine a5 [14] a ?_ (g.aq a);simp
 by_cases z:c d=1
 .obtain⟨N,rfl⟩:=List.length_eq_one_iff.1 z;refine a5 [-14,16] a C (g.aq a ?_);simp
 have J:2<=c d:=by have:c d≠0:=M;omega
 refine a5 [-14,-16,-22] a bG (g.b' (λb=>b<=c d) (λb:Nat=>[(0,bS.A d),(1,b1 []),(5,R (c (lq d b))),(39,bS.A d),(40,R (c d)),(41,R b)]) (λ_=>[]) (λb=>c d-b) 0 a ?_ a A u ?_)
 .simp[lq]
 intro b m;have K:=v7 (d:=d) b;by_cases j:b<c d
 .have t:=v7 (d:=d) (b+1);rw[v8 j,df]at t;refine a5 [42,-49] a ?_ (g.b5 (b+1) a ?_ a A u u)
  .have i:(d.getD (b:Int).toNat bS.D)=d.getD b []:=rfl;simp only[T,a8,i];grind
  have i:(d.getD (b:Int).toNat bS.D)=d.getD b []:=rfl;rw[v8 j];simp_all
 have i:b=c d:=u;subst i;refine a5 [-42,918] a C (g.bs a a ?_);refine a5 [918] a A (g.region ?_);refine g.aK (Gc a) a a ?_;refine cy a A ?_;rw[M2];refine g.aX (TF (c d.flatten) y) [0] a bk λw=>?_;obtain⟨h,k⟩:=w;refine cy a bu ?_;have e:∀o,o<=c d.flatten->wJ h o:=λo D=>by
  cases h with
  |none=>
   have:c d.flatten=0:=k;grind
  |some F=>exact⟨fG D k.1,k.2⟩
 have q:lq d 1=d.getD 0 []:=by rw[v8 u];simp[lq]
 have s:=v7 (d:=d) 1;rw[q]at s;refine g.aA (Cn h [] (d.getD 0 []) u (e _ M)) [0] a (cy a bu (g.b' (λb=>b+1<=c d) (λb:Nat=>[(1,b1 []),(8,aI 0 0),(63,ax (.A v 1 (c d-1) (fs 1 (bS.fn d)))),(64,R (c d-1:Nat)),(65,R b)]) (λb=>[d8 l h (lq d (b+1)) 0]) (λb=>c d-b) 0 a wA a bG u ?_));intro b m;have I:=v7 (d:=d) (b+1);by_cases j:b+1<c d
 .have r:=v7 (d:=d) (b+2);rw[v8 j,df]at r;refine a5 [66] a bu (g.aA (Cn h (lq d (b+1)) [] C (e _ M)) [0] a ?_);rw[hp];refine aO a A (g.aA (Cn h (lq d (b+1)) (d.getD (1+b) []) M (e _ M)) [0] a (aO a bG (g.b5 (b+1) a C a ?_ u u)));refine T.Z.2 ⟨?_,A⟩;rw[v8 j,Nat.add_comm 1 b];simp
 have i:b+1=c d:=u;refine a5 [-66] a bu (g.bs a a ?_);rw[i,M2];exact aO a A (g.aA (XF h d.flatten u (e _ u)) [0] a wt)
def s'{b}(d:dX b=l)(e)(g:e<c b):97<=dq b e/\dq b e<=122:=by have a:=aX.1 d (b.getD e 0) M;simp only[jp,cn,bw]at a;unfold dq;omega
def TY(b)(e)(d:dX b=l)(q:3<=e)(h:e<=c b)(m:c b<=4000000):Z p 307 [b1 b,R e] [] (bh (pA b e)) []:=by
 refine Z.I func307 rfl λj=>?_;have k:=s' d (e-1) u;have o:=s' d (e-2) u;have s:=s' d (e-3) u;have i:((kG b ((e:Int)-1)).toNat:Int)=dq b (e-1):=tX;have N:((kG b ((e:Int)-2)).toNat:Int)=dq b (e-2):=tX;have r:((kG b ((e:Int)-3)).toNat:Int)=dq b (e-3):=tX;refine aO a ?_ (g.aq a ?_)
 .simp only[T,a8,i,N,r];omega
 exact Oe
def acv:bL p 307 (er eE c8 (λb a=>bh (pA b a.toNat)) λb a=>[dX b=l,3<=a,a<=c b,c b<=4000000]):=.bh λb a h=>by
 obtain⟨e,i,j,g⟩:=h;obtain⟨d,rfl⟩:∃d:Nat,a=d:=⟨a.toNat,by omega⟩
 exact TY b d e u u g
def yB{g h:ae}{e i}(z)(o:q.op=.call {callee:=.builtin .min,args:=#[g,h],argTypes:=ds})(u:η g=R e)(s:η h=R i)(y:min e i=z)(t:a8 .i64 z):a0 V q η k (R z) k:=by refine .aS λB d A j=>?_;have b:=j g;have a:=j h;rw[u]at b;rw[s]at a;replace b:=b6 b;replace a:=b6 a;generalize m:d g=w at b;generalize p:d h=x at a;cases b;cases a;have r:(if i<e then i else e)=z:=M;exact⟨.int .i64 z,by simp[ab,o,resolve,invoke,builtin,m,p,Builtin.min_,Builtin.min2,r],.int t,by simp[ab,o,resolve,invoke,builtin,m,p,Builtin.min_,Builtin.min2]⟩
theorem S7{o}{a}(e:c o<=a+3+t)(d:t<=5):lL o a (5-t)=min (a+8) (c o):=by
 rcases dW t 5 with b|b
 .obtain⟨h,b2⟩:∃h,5-t=h+1:=⟨4-t,by omega⟩
  rw[b2];simp[lL];grind
 rw[show 5-t=0 by omega];rfl
def Uo(o)(ak)(z:dX o=l)(s:ak<=c o)(y:c o<=4000000):Z p 288 [b1 o,R ak] [] (R (en o ak)) []:=by
 refine Z.I func288 rfl λt=>?_;have w:ba p [(307,er eE c8 (λi j=>bh (pA i j.toNat)) λi j=>[dX i=l,3<=j,j<=c i,c i<=4000000])]:=.cons acv .nil;refine b_ w a bG (g.b' (λb=>b<=5/\lL o ak (5-b)=en o ak) (λb:Nat=>[(0,b1 o),(1,R ak),(5,R (ak+3+b))]) (λ_=>[]) (λb=>5-b) 0 a C a A ⟨by omega,a⟩ ?_);rintro b ⟨x,e⟩;by_cases q:b<5/\ak+3+b<c o
 .obtain⟨h,b2⟩:∃h,5-b=h+1:=⟨4-b,by omega⟩
  have m:ak+(7-h)=ak+3+b:=u;rw[b2]at e;simp[lL,m]at e;rw[bm u]at e;have au:((ak:Int)+3+b).toNat=ak+3+b:=u;cases r:pA o (ak+3+b)with
  |true=>
   rw[r,bo a]at e;refine a_ w [11,16,22] a Qi (g.bR (bY.zero a ?_));exact bu
  |false=>
   rw[r,bm C]at e;refine a_ w [11,16,-22] a Qi (g.b5 (b+1) a ?_ a A ⟨by omega,by grind⟩ u);exact bu
 have au:en o ak=min (ak+8) (c o):=by
  rw[<-e];rcases dW b 5 with k|k
  .grind [S7]
  rw[show 5-b=0 by omega];rfl
 have d:a8 .i64 ((min (ak+8) (c o):Nat):Int):=bG;rcases dW b 5 with k|k
 .refine a_ w [11,-16] a ?_ (g.bs a a ?_)
  .simp only[T,a8,bw,dp];omega
  exact Qv
 refine a_ w [-11] a ?_ (g.bs a a ?_)
 .simp only[T,a8,bw,dp];omega
 exact Qv
def acA:bL p 288 (er eE c8 (λb a=>R (en b a.toNat)) λb a=>[dX b=l,0<=a,a<=c b,c b<=4000000]):=.bh λb a h=>by
 obtain⟨e,i,j,g⟩:=h;obtain⟨d,rfl⟩:∃d:Nat,a=d:=⟨a.toNat,by omega⟩
 exact Uo b d e u g
abbrev GR(a:bC):K:=.fn (.func 287) [] [.O [.V a]]
theorem Uq(o):Z p 244 [b1 o] [] (ax (GR o)) []:=by refine Z.I func244 rfl λb=>?_;refine gF [] 5 a A ?_;refine g.freeze 1 0 a a a ?_;exact aO a A (g.aq a)
def Ur{ac:Type}(text)(K:dX text=l)(J:c text<=4000000){e}{d}{t}(q s r:ac->ap)(w:Nat->ac->Prop)(j:ac)(I:w 0 j)(aH:∀b,q b≠.bl/\s b≠.bl/\r b≠.bl)(i:∀h b,h<c text->w h b->iF (ι:={m:ac // w (en text h) m}) p 3 [R h,R (en text h)] [q b,s b,r b,.loop e d t] l (λm=>[q m.1,s m.1,r m.1,.loop e d t])):
  bl (ι:={b:ac // w (c text) b}) p 287 [.n (.R (.aV 3)),ax (.O [.V text])] [q j,s j,r j,.loop e d t] (λ_=>.Q []) (λo=>[q o.1,s o.1,r o.1,.loop e d t]):=by
 refine bl.bP func287 rfl rfl rfl (g.aR ?_);have y:ba p [(288,er eE c8 (λx o=>R (en x o.toNat)) λx o=>[dX x=l,0<=o,o<=c x,c x<=4000000])]:=.cons acA .nil;refine b_ y a A ?_;show b0 p _ (.loop _) _ _ _;refine b0.loop (br:=ac×Nat) (λk=>k.2<=c text/\w k.2 k.1) (λk=>[(0,.n (.R (.aV 3))),(1,ax (.O [.V text])),(3,R k.2)]) (λk=>[q k.1,s k.1,r k.1,.loop e d t]) (λk=>c text-k.2) (j,0) ⟨gZ _,I⟩ (eH a C) a ?_;rintro⟨b,h⟩ ⟨F,B⟩;simp only at F B;refine g.aR ?_;by_cases D:h<c text
 .have z:=rz text h D;refine a_ y [8] a dB (g.yield (i h b D B) a a a a a a λm=>?_);refine a_ y [-16] a C ⟨(m.1,en text h),⟨z.2.1,m.2⟩,?_,eH a C,a⟩;grind
 have E:h=c text:=u;subst E;refine a_ y [-8] a C (g.fI a a ?_);exact⟨⟨b,B⟩,.inr a,a,qC (aH b).1 (qC (aH b).2.1 (qC (aH b).2.2 a)),[],.Q [],[],a,a,a,A⟩
def aaX{j:ae}(t:q.op=.binOp op o j (.const (.pointer n)) ty){p}(B:P.underlying o=f (.pointer p)){r}{lt cx}{m i}(E:η j=.n (.R (.aV d)))(x:c' d k=f (.J (ez W (.ax lt m i cx))))(y:η (.const (.pointer n))=ax .bp)(C:h_ op v=f r):a0 P q η k (ax (.bool r)) k:=by
 refine vM t B (i:=v) ?_ C;intro b D F z h g;rw[E]at h;rw[y]at g;replace g:=b6 g;cases g;obtain⟨_,L,A,rfl,_⟩:=(h:cB k b D (.aV d));obtain⟨_,⟨i,_,_,_,_,u,_⟩,_⟩:=z.box d _ L (eo x) A;rw[u];have w:(Op.equal o (.pointer (f ⟨i,0,n⟩)) (.pointer n)).run P b.a=.ok v b.a:=E5
 have s:∀e,(Op.equal o (.pointer (f ⟨i,0,n⟩)) (.pointer n)).events P b.a e=e:=λe=>by show(aN (9999+1) o _ _).events P b.a e=e;unfold aN;simp[underlying,B]
 exact⟨_,n,a,a,a,by cases op<;>simp[eqGuard],λe=>by cases op<;>simp[eqGuard],w,s⟩
abbrev o3(a b:Int):x:=.n (.agg [.c (.int .i64 a),.c (.int .i64 b)])
abbrev mE:al:=307
def y0(h i)(d:dG):∃a e g b,d.put h i=.ax a e g b:=by
 cases d with
 |nil=>exact⟨_,_,_,_,rfl⟩
 |ax a e g b=>
  simp only[dG.put];split
  .grind
  split<;>exact⟨_,_,_,_,rfl⟩
def CB:∀(b:m Nat)a,a<0->b[a]?=f a:=λ_ a d=>absurd d u
def sV:∀a,a<1->([0]:m Nat)[a]?=f a:=λa b=>by grind
def x3(b i)(z:a8 .i64 b)(I:a8 .i64 i):∀u:dG,Z p 243 [.n (.R (iv u 0)),o3 b i] (ht mE u) (.n (.R (.aV 0))) [.J (ez mE (u.put b i))]
 |.nil=>by refine Z.I func243 rfl λJ=>?_;refine aO a A (g.aK (rQ a underlying246 a a a) a a ?_);refine aO a A (g.cU 4 1 0 0 (lt:=.nil) (cx:=.nil) a a (λs=>absurd a s) (λs=>absurd a s) (λs=>absurd a s) ?_);exact g.aJ [1] a C (CB _)
 |.ax lt j w cx=>by
  have o:=x3 b i z I lt;have q:=x3 b i z I cx;obtain⟨N,e,h,B,y⟩:=y0 b i lt;obtain⟨ak,d,t,r,F⟩:=y0 b i cx;have x:(dG.ax lt j w cx).put b i=if b<j then .ax (lt.put b i) j w cx else if j<b then .ax lt j w (cx.put b i)else .ax lt b i cx:=rfl;rw[x];rw[y]at o⊢;rw[F]at q⊢;have k:ba p [(243,k3 [.n (.R (iv lt 0)),o3 b i] (ht mE lt) (.n (.R (.aV 0))) [.J (ez mE (.ax N e h B))])]:=.cons (l5 o) .nil;have m:ba p [(243,k3 [.n (.R (iv cx 0)),o3 b i] (ht mE cx) (.n (.R (.aV 0))) [.J (ez mE (.ax ak d t r))])]:=.cons (l5 q) .nil;clear o q x y F;refine Z.I func243 rfl λJ=>?_;refine aO a A (g.aK (aaX a underlying246 a a a a) a a ?_);refine aO a A (g.gB 0 0 a a ?_);by_cases E:b<j
  .rw[bo E];cases lt<;>cases cx<;>refine be k [15] rfl bG ?_
   .exact P5
   .refine g.cU 4 0 3 2 (lt:=.ax N e h B) (cx:=_) a a bk bk (λ_ _=>by decide) ?_;exact tU
   .exact P5
   refine g.cU 4 0 2 3 (lt:=.ax N e h B) (cx:=_) a a bk bk (λ_ _=>by decide) ?_;exact tU
  rw[bm E];by_cases D:j<b
  .rw[bo D];cases lt<;>cases cx<;>refine be m [-15,33] rfl bG ?_
   .exact Rf
   .exact Rf
   .exact PP
   exact PP
  rw[bm D];cases lt<;>cases cx<;>refine bR [-15,-33] rfl bu ?_
  .refine g.cU 4 0 9 9 (lt:=.nil) (cx:=.nil) a a (λs=>absurd a s) (λs=>absurd a s) (λs=>absurd a s) ?_;exact tU
  .refine g.cU 4 0 9 2 (lt:=.nil) (cx:=_) a a (λs=>absurd a s) bk (λs=>absurd a s) ?_;exact tU
  .refine g.cU 4 0 2 9 (lt:=_) (cx:=.nil) a a bk (λs=>absurd a s) (λ_ s=>absurd a s) ?_;exact tU
  refine g.cU 4 0 2 3 (lt:=_) (cx:=_) a a bk bk (λ_ _=>by decide) ?_;exact tU
end
section
open Go.Proofs Go.Conc Go.Conc.Lib Go.ConcR.Gen
open Go.ConcN (WgLive PayAt Has RW AtR0)
open Go.ConcN.Gen
open Go.ConcR (KK WgAt stA smA rd wr mk Payload DC0)
def Z0:Dx=#[{dst:=n,op:=.defer {callee:=.value (.func 233),args:=#[.tmp 0],argTypes:=#[294]},type:=0,pos:= "l12_snap.go:81",after:=#[],guard:=n}]:=bF
def p6(a:X):aG:={baseD 232 with defers:=[dcall 233 #[a]]}
abbrev Ev(a b d e g h:X):Array X:=#[a,b,d,e,g,h,I,I,I,I,I,I,I]
def abU(v0 v1 v2 b v4 d)(j):Goes V v (λ_ _=>True) DC0 (λi _=>i=G ((p6 v0).ab ⟨Ev v0 v1 v2 b v4 d,[]⟩ [.code (.region 1 vD l)]) [ml]) 8 (born V (rr #[v0,v1,v2,b,v4,d])) j:=by
  have e:True:=A;have g:True->True->True:=λ_ _=>trivial;refine Goes.step a (λw1 h=>?_);rw[Sw];simp[goes_go];refine⟨⟨a,a⟩,?_⟩;clear h;rw[Z0]
  u_c aw g e
  u_reg g e
  u_defer g e
  u_c aC g e
  exact Goes.stop λ_ _=>rfl
def Tv(ac):QuitsD V 2 0 (G {(baseD 232).at ⟨ac,[]⟩ []with mode:=.returning} [ml]):=by
  have b:Tryz.f232.results=#[]:=bF;refine QuitsD.ctl (g':=G ml []) a (λd=>?_) ?_
  · simp[G,aq,unwind,doReturn,results,Frame.at,baseD,ml,Tryz.func232,b,seen,GStep.after,goexitEntry]
  refine QuitsD.ctl (g':={G ml []with status:=.finished}) rfl (λd=>?_) ⟨rfl,rfl⟩;simp[G,aq,unwind,ml,goexitEntry,Frame.catches];rfl
section
variable {J:hL}
def adl(D)(i:J.aH=2)(ac)(d)(b:WgLive 294 J.f d/\Has J.ah (J.aH*D+1-1) (val D 0) d):
    ∃h,Goes V v (RW 294 J.f J.ah (2*j) 0 (J.aH*D+1-1)) DC0 (AtR0 V 294 J.f J.ah (2*j) 0 (J.aH*D+1) (val D 0)) h (G ((p6 (.pointer (f ⟨J.f,0,n⟩))).ab ⟨ac,[]⟩ [.inRegion mF.toArray []]) [ml]) d:=by
  refine⟨26,?_⟩;have g:(p6 (.pointer (f ⟨J.f,0,n⟩))).ab ⟨ac,[]⟩ [.inRegion mF.toArray []]=(baseD 232).at ⟨ac,[dcall 233 #[.pointer (f ⟨J.f,0,n⟩)]]⟩ [.inRegion mF.toArray []]:=rfl;rw[g]
  u_c aC kn_rely b
  u_c stepG_end kn_rely b
  u_in kn_rely b
  rw[stepG_unwind_enter (c:=body_done qP) a v'.f_done bF bF];simp[goes_go];refine⟨by u_nil,?_⟩;have e:=Tg (P:=V) (L:=qP) (bn:=J.f) (K:=J.ah) (j:=2*j) (mZ:=0) (D:=J.aH*D+1) (val:=val D 0) (r:={(baseD 232).at ⟨ac,[]⟩ []with mode:=.returning}) (ag:=[ml]) v' rfl (Tv ac) _ b;exact e
def aaV{d}(b:Rd bz aa (.V d)):aa=.string ⟨d.toArray⟩:=by
  cases b with
  |V a e=>rw[<-a]
def DR{i}(a:Rd bz aa (.bool i)):aa=.bool i:=by cases a;rfl
def sj:ao:=gS n (.store 296 (.tmp 12) (.tmp 11)) 0 #[⟨6,.data⟩,⟨5,.data⟩,⟨5,.chain⟩,⟨0,.phase⟩,⟨1,.phase⟩,⟨2,.phase⟩,⟨3,.phase⟩,⟨4,.phase⟩,⟨5,.phase⟩]
def Sn{d}(al:d<j)(O:J.aH=2){Y}{C}(Q:val d 0=.string ⟨((dg h Y C).getD []).toArray⟩)(aa:val d 1=.bool (dg h Y C).isSome){ac}(E:bv [] b (ac.getD 12 I) (r_ h Y C j d J.ah 6))(F:bv [] b (ac.getD 11 I) (xK (dg h Y C))):
    ub V 294 J (2*j) val d (G ((p6 (.pointer (f ⟨J.f,0,n⟩))).ab ⟨ac,[]⟩ [.inRegion mF.toArray [7]]) [ml]) b:=by
  have E:=Rd.ba E;have F:ac.getD 11 I=.agg #[val d 0,val d 1]:=by
    obtain⟨y,ag,k⟩:=F
    match y,k with
    |[],k=>exact k.elim
    |[_],k=>exact k.2.elim
    |_::_::_::_,k=>exact k.2.2.elim
    |[ao,aq],k=>
      rw[ag,aaV k.1,DR k.2.1,Q,aa]
  refine⟨a,λw1 ak s m=>?_⟩;obtain⟨g,t,ax⟩:=s;have af:J.aH*d=d*2:=M;have H:∀Z∈[val d 0,val d 1],Z.oneCell'=l:=by
    intro Z P;simp[e8,ss,or_false]at P;rcases P with rfl|rfl
    · rw[Q];rfl
    · rw[aa];rfl
  have X:d*2+0+[val d 0,val d 1].length<=g.size:=M;have D:=run_storeCells_at V J.ah (d*2) 296 [val d 0,val d 1] 0 g w1 t X H;simp only[ka,fh,gK,cW]at D;generalize W:(g.toList.take (d*2)++[val d 0,val d 1]++g.toList.drop (d*2+2)).toArray=new at D;have aB:new.size=g.size:=M;have ar:=setRow_heap w1 J.ah g new 296 (0,0) t;have au:∀q,(w1.setRow J.ah new).cell? ⟨J.ah,q,n⟩=new[q]?:=λq=>cell_setRow_same w1 J.ah q g new 296 (0,0) t;have av:∀q,w1.cell? ⟨J.ah,q,n⟩=g[q]?:=λq=>by simp[aJ,t]
  have aA:∀e,e<2->new[d*2+e]?=f (val d e):=by
    intro e r;rw[<-W];have L:c (g.toList.take (d*2))=d*2:=M;rw[mh];simp[j8];rw[ho u,L]
    match e,r with
    |0,_=>simp
    |1,_=>simp
  have aw:∀q,(q<d*2∨d*2+2<=q)->new[q]?=g[q]?:=by
    intro q o;rw[<-W];have L:c (g.toList.take (d*2))=d*2:=M;rw[mh];simp only[j8];rcases o with o|o
    · grind
    · rw[ho u,L,ho M]
      simp only[fh,gK,pT];rw[show d*2+2+(q-d*2-(0+1+1))=q by omega];simp
  have R:(Value.agg #[val d 0,val d 1]).cells=#[val d 0,val d 1]:=rfl;have x:(ab (⟨ac,[]⟩:Act).eval sj).run V w1=.ok .skip (w1.setRow J.ah new):=by have N:(⟨ac,[]⟩:Act).eval (.tmp 12)=.pointer (f ⟨J.ah,d*2,n⟩):=E;have K:(⟨ac,[]⟩:Act).eval (.tmp 11)=.agg #[val d 0,val d 1]:=F;simp[ab,sj,gS,N,K,Instr.storeAt,Instr.sureAddr,storeVar,(bc 296 rH a).a',show rH.size=2 from a,R,D]
  have z:∀p∈(ab (⟨ac,[]⟩:Act).eval sj).events V w1 #[],∃A,A<2/\p=tQ J.ah (d*2+A):=by
    intro T z;have N:(⟨ac,[]⟩:Act).eval (.tmp 12)=.pointer (f ⟨J.ah,d*2,n⟩):=E;have K:(⟨ac,[]⟩:Act).eval (.tmp 11)=.agg #[val d 0,val d 1]:=F;have p:ab (⟨ac,[]⟩:Act).eval sj=(do storeVar 296 ⟨J.ah,d*2,n⟩ (.agg #[val d 0,val d 1]);pure .skip):=by simp[ab,sj,gS,N,K,Instr.storeAt,Instr.sureAddr]
    rw[p]at z;have ae:T∈(storeCells ⟨J.ah,d*2,n⟩ [val d 0,val d 1]).events V w1 #[]:=by simp only[storeVar,aD,(bc 296 rH a).a',show rH.size=2 from a,R,aF,events_sizeOf,d6,dm,cK,c9,Sem.events_pure]at z;simpa[D]using z
    rcases nd [val d 0,val d 1] 0 g w1 #[] t X H T ae with aC|⟨A,_,ah,rfl⟩
    · grind
    grind
  have an:WgLive 294 J.f (w1.setRow J.ah new):=by
    obtain⟨B,S,U⟩:=m;refine⟨B,S,?_⟩;show(w1.setRow J.ah new).heap[J.f]?=_;rw[setRow_other w1 J.ah J.f new ?_]
    · exact U
    · intro p
      have k:w1.heap[J.f]?=f (Go.ConcR.wgBlock 294 B S):=U;rw[p,t]at k;simp[Go.ConcR.wgBlock]at k;exact absurd k.2 ca
  refine⟨_,w1.setRow J.ah new,_,L_ (i:=p6 (.pointer (f ⟨J.f,0,n⟩))) (w:=⟨ac,[]⟩) (h:=[]) (aM:=mF.toArray) (e:=7) (bq:=[]) (q:=sj) a a (by simp[p6,baseD]) x,?_,?_,?_⟩
  · refine⟨rfl,rfl,rfl,by simp,λi aL=>setRow_other w1 J.ah i new aL,⟨new,ar,by grind⟩,λq o=>?_,λe r=>?_⟩
    · grind
    · rw[O]at r
      rw[au,af];grind
  · intro p ai
    obtain⟨A,ah,rfl⟩:=z p (Go.Conc.mem_seen ai);exact⟨d*2+A,a,by omega,by omega⟩
  · exact adl d O ac _ ⟨an,by show(w1.setRow J.ah new).cell? _=_;grind⟩
def adJ(Q:bL (ah.c8 V) 234 (m9 h)){k}(C:k<j)(K:J.aH=2){Y}{m}(N:val k 0=.string ⟨((dg h Y m).getD []).toArray⟩)(F:val k 1=.bool (dg h Y m).isSome)(D:bb [] b)(Z:b.s=[]){v1 v2 e v4 g}(u:Rd b.C v1 (.O [.int .i64 h]))(s:Rd b.C v2 (.O [.A v 2 (c Y) (a2.fn Y)]))(B:Rd b.C e (.O [.int .i64 m]))(t:Rd b.C v4 (.O [.val (.slice (f ⟨J.ah,0,n⟩) j j)]))(w:Rd b.C g (.O [.int .i64 k])):
    du (ah.c8 V) eO (ub V 294 J (2*j) val k) (born V (rr #[.pointer (f ⟨J.f,0,n⟩),v1,v2,e,v4,g])) b:=by
  refine du.goes (p:=ah.c8 V) (dj:=λ_ _=>True) (x:=DC0) (Stop:=λr _=>r=G ((p6 (.pointer (f ⟨J.f,0,n⟩))).ab ⟨Ev (.pointer (f ⟨J.f,0,n⟩)) v1 v2 e v4 g,[]⟩ [.code (.region 1 vD l)]) [ml])
    (λi=>bb [] i/\i.C=b.C) (λi o d y=>⟨d.1.rely y,y.C.trans d.2⟩) (λ_ _ _ _=>trivial) ?_ (λi d=>cV.eo d.1.mem) ?_ 8 _ b ⟨D,rfl⟩ (abU _ _ _ _ _ _ _)
  · rintro i I d T ⟨rfl,rfl⟩
    exact⟨a,.inl (.aS d.1)⟩
  · rintro r i ⟨M,W⟩ rfl
    rw[Z1];refine ce.toW (λ_ _ _ d=>d) ?_;refine(adz Q Y m j k J.ah C (.pointer (f ⟨J.f,0,n⟩))).region bF (by simp[p6,baseD]) ⟨by simp[Ev],⟨[],A⟩,λz=>?_⟩ a M λo E X q S O R=>.stop ?_
    · rw[<-W]at u s B t w
      match z with
      |0=>exact Rd.val rfl
      |1=>exact u
      |2=>exact s
      |3=>exact B
      |4=>exact t
      |5=>exact w
      |z+6=>trivial
    · obtain⟨aa,U⟩:=E
      obtain rfl:U=[]:=S;exact Sn C K N F (q 12) (q 11)
end
end
section
open Go.Proofs Go.Conc Go.Conc.Lib
open Go.ConcN (WgLive PayAt Has RW AtR0)
open Go.ConcR (KK WgAt stA smA rd wr mk Payload DC0)
def ni:Code->Code|.seq a _=>a|b=>b
def g5:Code->Code|.seq _ a=>a|b=>b
def GB:Code->Code|.block _ a=>a|b=>b
def Zn:Code->Code|.loop a=>a|b=>b
def Dw:Code->Array ao|.region _ a _=>a|_=>#[]
noncomputable def rp:Code:=(Tryz.f189.body).getD .skip
noncomputable def hD:Code:=Zn (GB (g5 (ni (g5 (g5 (g5 rp))))))
noncomputable def Hj:Code:=ni hD
noncomputable def Bn:Code:=GB (ni (g5 (g5 hD)))
noncomputable def Hk:Code:=ni Bn
noncomputable def pj:Array ao:=Dw (ni (g5 Bn))
noncomputable def oq:Array ao:=Dw (g5 (g5 Bn))
noncomputable def n3:Code:=g5 (g5 (g5 hD))
noncomputable def lI:Code:=g5 (g5 (g5 (g5 rp)))
noncomputable def ot:Array ao:=Dw (ni lI)
noncomputable def n4:Code:=g5 lI
def G7:hD=.seq Hj (.seq (.cond (.tmp 21) .skip (.exit 0)) (.seq (.block 1 (.seq Hk (.seq (.region 6 pj v) (.region 7 oq v)))) n3)):=bF
def SM:lI=.seq (.region 9 ot v) n4:=bF
def ug(g:bJ)(a:m ap):fw:=λe b d=>e=.normal/\iE b g/\d=a
structure dU(dK:m ap)(cG:a6)(F:bJ)(k:m ap)(w:Act)(b:a6):Prop where
 bT:bX 45 k b F w
 a9:bb k b
 a5:de dK cG k b
section
variable {dK:m ap}{cG:a6}{F t:bJ}{k aQ:m ap}{w:Act}{b:a6}
def dU.rely(a:dU dK cG F k w b){e}(d:cV b e):dU dK cG F k w e:=⟨a.bT.rely d a.a9,a.a9.rely d,a.a5.trans d.aI⟩
structure nP(i:Nat)(b:a6):Prop where
 own:¬b.own i
 s:∀L∈b.s,i∉L.aj
 C:∀q,b.C i q=n
 lt:i<b.a.heap.size
def nP.step{i}(d:nP i cG)(a:de dK cG k b):nP i b:=
 ⟨by rw[a.own];exact d.own,λL h g=>by
  rcases a.bS L h i g with e|⟨m,j,e⟩
  .have:=d.lt;omega
  .exact d.s m j e,λo=>by rw[a.bC i d.lt d.s];exact d.C o,eC d.lt a.size⟩
def dU.eB{bn}(d:nP bn cG):kU bn (dU dK cG F k w):=
 ⟨λ_ _ a e=>a.rely e,λ_ a=>⟨k,a.a9⟩,λ_ a=>let b:=d.step a.a5;⟨b.own,b.s,b.C⟩⟩
variable {p:ah V}{br:ai->a6->Prop}{i:aG}{h:m Item}{ag:m aG}
def dU.ctl(h:dU dK cG F k w b){B a}(m:B.status=.running)(j:∀i,aq V p.b3 B i=.go a i #[])(g:∀d,dU dK cG F k w d->ce p br a d):ce p br B b:=
 .ctl h.a9 m j λd e=>g d (h.rely e)
def dU.code(g:dU dK cG F k w b)(j:i.kind≠.early){r}(z:b0 p 45 r (ug t aQ) F k)(o:∀a d,dU dK cG t aQ a d->ce p br (G (i.ab a h) ag) d):ce p br (G (i.ab w (.code r::h)) ag) b:=by refine z b w g.bT g.a9 i h ag br j ?_;rintro B s u q e ⟨rfl,m,rfl⟩ y A x;exact o e q ⟨y.le m,A,g.a5.trans x⟩
end
def ce.cZ{bn}{W:a6->a6->Array aR->Prop}{A:ai->a6->Prop}{B}{b}(q:ce (ah.aD V 294 bn) A B b)(m:gW (λe=>e=bn) b)(i:WgLive 294 bn b.a):
  du (ah.aD V 294 bn) W (λB b=>A B b/\WgLive 294 bn b.a) B b:=by
 induction q with
 |stop q=>exact⟨.leaf,q,i⟩
 |@step B b O z I w r s _ y=>
  refine .step w λk g=>?_;have D:=g.2 i;have p:gW (λe=>e=bn) k:=⟨λe d=>by rw[g.1.own];exact m.own e d,λe d=>by rw[g.1.s];exact m.s e d,λe d J=>by rw[g.1.C];exact m.C e d J,λe d=>eC (m.lt e d) g.1.size⟩
  obtain⟨⟨C,o,t,E,j⟩,F⟩:=s k g;refine⟨_,_,_,r k g,.inl ⟨⟨C,o,t,E,j⟩,F⟩,y k g (p.step j) ?_⟩;obtain⟨M,N,K⟩:=D;exact⟨M,N,by show(z k).a.heap[bn]?=_;rw[j.a3 bn (p.lt bn a) (p.s bn a)];exact K⟩
 |aP h _ y=>exact .aP h (y (m.aP h) (by rw[h.a];exact i))
 |b1 x _ _ _=>exact x.elim
 |dj u _ _=>exact u.elim
def nP.clear{bn}{b}(e:nP bn b):gW (λd=>d=bn) b:=⟨λd a=>a▸e.own,λd a=>a▸e.s,λd a=>a▸e.C,λd a=>a▸e.lt⟩
section
variable (h:Int)(Y:m b')(bt:m Int)(K bn:Nat)
def ib(a:Nat):bJ:=[(3,ax (.O [.int .i64 h])),(4,ax (.O [.A v 2 (c Y) (a2.fn Y)])),(8,ax (.O [.val (.slice (f ⟨K,0,n⟩) (c bt) (c bt))])),(9,cM (.pointer (f ⟨bn,0,n⟩))),
 (18,aA.A bt),(19,R (c bt)),(20,R a)]
variable {h Y bt K bn}{p:ah V}{k:m ap}
def KW{e}(b:e<=c bt):b0 p 45 Hj (ug ((21,bh (decide (e<c bt)))::ib h Y bt K bn e) k) (ib h Y bt K bn e) k:=by
 refine g.aR ?_;by_cases d:e<c bt
 .refine a5 [21] a bQ ⟨a,eH a ?_,a⟩;exact bu
 refine a5 [-21] a bQ ⟨a,eH a ?_,a⟩;exact bu
abbrev e2:m ap:=[.M,.M,.M,.M,.M]
def Z8{e}(b:e<c bt):b0 p 45 Hk (ug ((10,aI 5 0)::(11,aI 6 0)::ib h Y bt K bn e) [.M,.M,.M,.M,.M,.cells 3 [.c (.int .i64 e)],.cells 3 [.c (.int .i64 (bt.getD e 0))]]) (ib h Y bt K bn e) e2:=by refine g.aR ?_;refine aO a bQ ⟨a,eH a C,?_⟩;grind
def Z9{e}(b:e<c bt)(d:c bt<=4000000):b0 p 45 n3 (ug (ib h Y bt K bn (e+1)) e2) (ib h Y bt K bn e) e2:=by refine g.aR ?_;refine aO a bG ⟨a,eH a ?_,a⟩;simp
variable {dK:m ap}{cG:a6}{br:ai->a6->Prop}{i:aG}{eR:m Item}{ag:m aG}
abbrev kj:m ap:=[.M,.M,.M,.M,.M,.M,.M]
variable (h Y bt K bn)in
abbrev kQ(a:Nat):bJ:=(11,ax (.O [.int .i64 (bt.getD a 0)]))::(10,ax (.O [.int .i64 a]))::ib h Y bt K bn a
noncomputable abbrev s8(a:m Item):m Item:=.code (.region 7 oq v)::.inBlock 1::.code n3::.inLoop hD::.inBlock 0::a
def zb{P}{eS}{a:aG}{w}{h}{ag}{b}{r d e}(g:r=.seq d e):aq P eS (G (a.ab w (.code r::h)) ag) b=.go (G (a.ab w (.code d::.code e::h)) ag) b:=by grind[pt]
def toAdd{e}(j:e<c bt)(y:i.kind≠.early){w}{d:a6}(b:dU dK cG (ib h Y bt K bn e) e2 w d)(z:∀x q,dU dK cG (kQ h Y bt K bn e) kj x q->ce p br (G (i.ab x (.inRegion pj [0]::s8 eR)) ag) q):
  ce p br (G (i.ab w (.code hD::.inLoop hD::.inBlock 0::eR)) ag) d:=by
 refine b.ctl a (λg=>zb G7) λd b=>?_;refine b.code y (KW (Nat.le_of_lt j)) λw d b=>?_;refine b.ctl a (λg=>pt) λd b=>?_;have A:w.eval (.tmp 21)=.bool l:=by have:=b.bT.ak 21;simp only[j,m7]at this;exact DR (b6 this)
 refine b.ctl a (λg=>y_ A) λd b=>?_;refine b.ctl a (λg=>L') λd b=>?_;refine b.ctl a (λg=>pt) λd b=>?_;refine b.ctl a (λg=>y9) λd b=>?_;refine b.ctl a (λg=>pt) λd b=>?_;have b:dU dK cG (ib h Y bt K bn e) e2 w d:=⟨b.bT.le (eH a C),b.a9,b.a5⟩
 refine b.code y (Z8 j) λw d b=>?_;obtain⟨q,w1,m,k,s⟩:=bX.freeze 10 5 (W:=3) (ag:=[.c (.int .i64 e)]) (gN:=[.int .i64 e]) rfl rfl rfl b.bT b.a9;refine .aP (.of b.a9 k w1 (s.tooQ b.a9)) ?_;obtain⟨r,w2,o,t,u⟩:=bX.freeze 11 6 (W:=3) (ag:=[.c (.int .i64 (bt.getD e 0))]) (gN:=[.int .i64 (bt.getD e 0)]) rfl rfl rfl m k;refine .aP (.of k t w2 (u.tooQ k)) ?_;have b:dU dK cG (kQ h Y bt K bn e) kj w r:=⟨o.le (eH a C),t,b.a5.trans ((s.tooQ b.a9).trans (u.tooQ k))⟩
 refine b.ctl a (λg=>pt) λd b=>?_;refine b.ctl a (λg=>za) λd b=>?_;exact z w d b
def rR:ao:={dst:=f 25,op:=.call {callee:=.value (.func 231),args:=#[.tmp 9,.const (.int .i64 1)],argTypes:=#[294,3]},type:=0,pos:= "l12_snap.go:79",after:=#[],guard:=n}
theorem KS:pj=#[rR]:=bF
def Tw{e}(s:i.kind≠.early){w}{b}(o:dU dK cG (kQ h Y bt K bn e) kj w b)(j:∀d,dU dK cG (kQ h Y bt K bn e) kj w d->ce p br (G (Frame.enter V 231 #[.pointer (f ⟨bn,0,n⟩),.int .i64 1] .normal) (i.ab w (.inRegion pj [0]::s8 eR)::ag)) d):
  ce p br (G (i.ab w (.inRegion pj [0]::s8 eR)) ag) b:=by
 refine .next a λd k=>?_;have g:=o.rely (p.bI k);have m:=Rd.ba (g.bT.ak 9);have r:(ab w.eval rR).run V d.a=.ok (.enter 231 #[.pointer (f ⟨bn,0,n⟩),.int .i64 1]) d.a:=by have:=run_call_body (P:=V) (a:=w) (w:=d.a) (o:=rR) (f:=231) (fn:=Tryz.f231) a Tryz.func231 bF bF;rw[this,<-m];simp only[List.map_toArray,me,List.map_nil];rfl
 have t:(ab w.eval rR).events V d.a #[]=#[]:=events_call_body (P:=V) (a:=w) (w:=d.a) (o:=rR) (f:=231) (fn:=Tryz.f231) a Tryz.func231 bF bF #[];have u:listed V i.fn w rR d.a=#[]:=by unfold listed;grind[seen_none]
 refine⟨_,d,#[],?_,.aS g.a9,j d g⟩;have:=tC (P:=V) (eS:=p.b3) (i:=i) (w:=w) (h:=s8 eR) (ag:=ag) (Q:=d.a) (aM:=pj) (e:=0) (bq:=[]) (q:=rR) (by grind[KS]) a s r;grind
def vx:ao:={dst:=f 26,op:=.makeFunc (.func 232) #[] #[.tmp 9,.tmp 3,.tmp 4,.tmp 11,.tmp 8,.tmp 10],type:=1,pos:= "l12_snap.go:80",after:=#[],guard:=n}
def pf:ao:={dst:=n,op:=.go {callee:=.value (.tmp 26),args:=#[],argTypes:=#[]},type:=0,pos:= "l12_snap.go:80",after:=#[⟨0,.data⟩],guard:=n}
theorem KT:oq=[vx,pf].toArray:=bF
variable (h Y bt K bn)in
abbrev sI(a:Nat):AM.K:=.fn (.func 232) [] [.val (.pointer (f ⟨bn,0,n⟩)),.O [.int .i64 h],.O [.A v 2 (c Y) (a2.fn Y)],.O [.int .i64 (bt.getD a 0)],.O [.val (.slice (f ⟨K,0,n⟩) (c bt) (c bt))],.O [.int .i64 a]]
def ZQ{e}:aZ p 45 [vx,pf] vx ((25,.any)::kQ h Y bt K bn e) kj (ax (sI h Y bt K bn e)) kj:=by have a:iA eN [] [] [vx,pf] ((25,.any)::kQ h Y bt K bn e) kj vx=f (ax (sI h Y bt K bn e),n,[]):=rfl;exact ef bc ba.nil a A
def toGo{e}(u:i.kind≠.early){w}{b}(d:dU dK cG (kQ h Y bt K bn e) kj w b)(q:∀aa m g,dU dK cG (kQ h Y bt K bn e) kj m g->Rd g.C aa (sI h Y bt K bn e)->m.tmps.getD 26 I=aa->ce p br (G (i.ab m (.inRegion oq [1]::.inBlock 1::.code n3::.inLoop hD::.inBlock 0::eR)) ag) g):
  ce p br (G (i.ab (w.put (f 25) (.tuple #[])) (.inRegion pj []::s8 eR)) ag) b:=by
 have t:dU dK cG ((25,.any)::kQ h Y bt K bn e) kj (w.put (f 25) (.tuple #[])) b:=⟨d.bT.put ca A,d.a9,d.a5⟩
 refine t.ctl a (λx=>vT) λb d=>?_;refine d.ctl a (λx=>za) λb d=>?_;rw[KT];refine ZQ b _ d.bT d.a9 i _ ag br 0 [1] u a λaa g j r o=>?_;have j:=b6 j;have k:=((d.bT.mono o d.a9.len).put (N:=26) (aa:=aa) (D:=.any) ca A)
 have s:26<(w.put (f 25) (.tuple #[])).tmps.size:=by rw[d.bT.size];decide
 refine q aa _ g ⟨k.le (eH a ?_),r,d.a5.trans o⟩ j (aaI s);simp
def adq{e}(k:e<c bt)(A:c bt<=4000000)(j:i.kind≠.early)(t:dK.length<=5){w}{b}(d:dU dK cG (kQ h Y bt K bn e) kj w b)(s:∀o q,dU dK cG (ib h Y bt K bn (e+1)) e2 o q->ce p br (G (i.ab o (.code hD::.inLoop hD::.inBlock 0::eR)) ag) q):
  ce p br (G (i.ab w (.inRegion oq []::.inBlock 1::.code n3::.inLoop hD::.inBlock 0::eR)) ag) b:=by
 have g:bX 45 (e2++[.M,.M]) b (ib h Y bt K bn e) w:=d.bT.le (eH a C);have m:=d.a9;have u:de dK cG (e2++[.M,.M]) b:=d.a5;have z:eZ b (b.cut (c e2)):=⟨rfl,λ_ _ _ d=>d,λ_ _ _=>rfl,m.mem,λi j=>j.imp id λ⟨L,y,j⟩=>⟨L,gY y,j⟩⟩
 refine .aP z ?_;have d:dU dK cG (ib h Y bt K bn e) e2 w (b.cut (c e2)):=⟨⟨g.size,g.defers.imp λ_ x=>x.drop a,λB=>(g.ak B).drop (vh a)⟩,m.drop a,u.drop t⟩
 refine d.ctl a (λr=>vT) λb d=>?_;refine d.ctl a (λr=>L6) λb d=>?_;refine d.code j (Z9 k A) λw b d=>?_;exact d.ctl a (λr=>L8) λb d=>s w b d
end
theorem rj{a:aG}(d:a.roundOf=n)(b)(o):a.ab b o=a.at ⟨b.tmps,b.defers++a.defers⟩ o:=by cases a;simp only at d;subst d;rfl
section
variable {h:Int}{Y:m b'}{bt:m Int}{J:hL}{val:Nat->Nat->X}{dK:m ap}{cG:a6}{i:aG}{eR:m Item}{ag:m aG}
def JH{w:Act}{Q}{r g9 iN jH uN a}(d:w.tmps.getD 26 I=.func (.func 232) #[] #[r,g9,iN,jH,uN,a]):(ab w.eval pf).run V Q=.ok (.spawn (rr #[r,g9,iN,jH,uN,a])) Q/\(ab w.eval pf).events V Q #[]=#[]:=by
 have b:w.eval (.tmp 26)=.func (.func 232) #[] #[r,g9,iN,jH,uN,a]:=d;constructor
 .simp[ab,pf,resolve,Deferred.ofValue,b,rr]
 simp[ab,pf,resolve,Deferred.ofValue,b]
def Sm(ab:bL (ah.c8 V) 234 (m9 h))(R:J.aH=2)(s:i.roundOf=n)(af:i.kind≠.early){e}(r:e<c bt)(T:val e 0=.string ⟨((dg h Y (bt.getD e 0)).getD []).toArray⟩)(E:val e 1=.bool (dg h Y (bt.getD e 0)).isSome){aa}{w}{b}(M:dU dK cG (kQ h Y bt J.ah J.f e) kj w b)(z:WgLive 294 J.f b.a)(x:Rd b.C aa (sI h Y bt J.ah J.f e))(y:w.tmps.getD 26 I=aa){Next:ai->a6->Prop}(A:∀j,dU dK cG (kQ h Y bt J.ah J.f e) kj w j->WgLive 294 J.f j.a->Next (G (i.ab w (.inRegion oq []::.inBlock 1::.code n3::.inLoop hD::.inBlock 0::eR)) ag) j):
  wD V 294 J (2*c bt) val e Next (G (i.ab w (.inRegion oq [1]::.inBlock 1::.code n3::.inLoop hD::.inBlock 0::eR)) ag) b:=by
 refine⟨a,λj o=>?_⟩;have u:=M.rely o.1;have U:Rd j.C aa (sI h Y bt J.ah J.f e):=by rw[o.1.C];exact x
 cases U with
 |fn D p m k C d F K Z g=>
 have S:=jB m;subst S;have N:p=[d 0,d 1,d 2,d 3,d 4,d 5]:=by
  apply pZ;intro t;have k:=k
  match t with
  |0=>grind
  |1=>grind
  |2=>grind
  |3=>grind
  |4=>grind
  |5=>grind
  |t+6=>grind
 subst N;have ae:=Rd.ba (g 0 _ a);obtain⟨O,W⟩:=JH (w:=w) (Q:=j.a) y;have B:Go.Conc.listed V i.fn ⟨w.tmps,w.defers++i.defers⟩ pf j.a=#[]:=by unfold Go.Conc.listed;have:=(JH (w:=⟨w.tmps,w.defers++i.defers⟩) (Q:=j.a) y).2;grind[seen_none]
 have X:=stepG_spawn (P:=V) (main:=l) (b:=i) (a:=⟨w.tmps,w.defers++i.defers⟩) (k:=.inBlock 1::.code n3::.inLoop hD::.inBlock 0::eR) (cs:=ag) (w:=j.a) (ops:=oq) (i:=1) (rest:=[]) (o:=pf) (by grind[KT]) a af O a;refine⟨G (i.ab w (.inRegion oq []::.inBlock 1::.code n3::.inLoop hD::.inBlock 0::eR)) ag,born V (rr #[d 0,d 1,d 2,d 3,d 4,d 5]),?_,a,?_,A j u (o.2 z)⟩
 .rw[rj s,rj s,X,B];rfl
 rw[ae];exact adJ ab r R T E (b:=j.dw) ⟨u.a9.mem,a,by simp,by simp[a6.dw],by simp[a6.dw],by simp[a6.dw]⟩ a (g 1 _ a) (g 2 _ a) (g 3 _ a) (g 4 _ a) (g 5 _ a)
def rS:ao:={dst:=f 28,op:=.call {callee:=.value (.func 235),args:=#[.tmp 9],argTypes:=#[294]},type:=0,pos:= "l12_snap.go:85",after:=#[],guard:=n}
theorem KU:ot=#[rS]:=bF
variable {p:ah V}{br:ai->a6->Prop}
def adr(m:i.kind≠.early){K bn}{w}{b}(d:dU dK cG (ib h Y bt K bn (c bt)) e2 w b)(o:∀k g,dU dK cG (ib h Y bt K bn (c bt)) e2 k g->ce p br (G (Frame.enter V 235 #[.pointer (f ⟨bn,0,n⟩)] .normal) (i.ab k (.inRegion ot [0]::.code n4::eR)::ag)) g):
  ce p br (G (i.ab w (.code hD::.inLoop hD::.inBlock 0::.code lI::eR)) ag) b:=by
 refine d.ctl a (λQ=>zb G7) λb d=>?_;refine d.code m (KW (bA _)) λw b d=>?_;refine d.ctl a (λQ=>pt) λb d=>?_;have u:w.eval (.tmp 21)=.bool v:=by have:=d.bT.ak 21;simp only[wV,oT]at this;exact DR (b6 this)
 refine d.ctl a (λQ=>y_ u) λb d=>?_;refine d.ctl a (λQ=>L5 (gk:=.code lI::eR) a) λb d=>?_;refine d.ctl a (λQ=>zb SM) λb d=>?_;refine d.ctl a (λQ=>za) λb d=>?_;have d:dU dK cG (ib h Y bt K bn (c bt)) e2 w b:=⟨d.bT.le (eH a C),d.a9,d.a5⟩
 refine .next a λg r=>?_;have j:=d.rely (p.bI r);have x:w.eval (.tmp 9)=.pointer (f ⟨bn,0,n⟩):=Rd.ba (j.bT.ak 9);have t:(ab w.eval rS).run V g.a=.ok (.enter 235 #[.pointer (f ⟨bn,0,n⟩)]) g.a:=by have:=run_call_body (P:=V) (a:=w) (w:=g.a) (o:=rS) (f:=235) (fn:=Tryz.f235) a Tryz.func235 bF bF;grind
 have y:(ab w.eval rS).events V g.a #[]=#[]:=events_call_body (P:=V) (a:=w) (w:=g.a) (o:=rS) (f:=235) (fn:=Tryz.f235) a Tryz.func235 bF bF #[];have s:Go.Conc.listed V i.fn w rS g.a=#[]:=by unfold Go.Conc.listed;grind[seen_none]
 refine⟨_,g,#[],?_,.aS j.a9,o w g j⟩;have:=tC (P:=V) (eS:=p.b3) (i:=i) (w:=w) (h:=.code n4::eR) (ag:=ag) (Q:=g.a) (aM:=ot) (e:=0) (bq:=[]) (q:=rS) (by grind[KU]) a m t;rw[s]at this;exact this
section
variable (h Y bt J dK cG i eR ag)
def wB(b:ai)(d:a6):Prop:=∃a,wC V qP J (dU dK cG (ib h Y bt J.ah J.f (c bt)) e2 a) (i.ab a (.inRegion ot [0]::.code n4::eR)) ag b d
def FW(b:ai)(d:a6):Prop:=∃a,fN V qP J (dU dK cG (ib h Y bt J.ah J.f (c bt)) e2 a) (G (i.ab (a.put (f 28) (.tuple #[])) (.inRegion ot []::.code n4::eR)) ag) b d
end
def Sb(j:nP J.f cG)(e:i.roundOf=n){B}{b}(d:wB h Y bt J dK cG i eR ag B b):
  du (ah.aD V 294 J.f) (dQ J.f) (q0 V 294 J (FW h Y bt J dK cG i eR ag) (wB h Y bt J dK cG i eR ag)) B b:=by
 obtain⟨a,d⟩:=d;have k:(ot[0]?).bind (·.dst)=f 28:=by rw[KU];rfl
 rw[rj e]at d;refine Sc (P:=V) (L:=qP) (hO:=i) (hN:=⟨a.tmps,a.defers++i.defers⟩) (gl:=ot) (hR:=0) (hV:=[]) (hT:=.code n4::eR) (ag:=ag) v' (dU.eB j) (λB b g=>⟨a,?_⟩) (λB b m=>⟨a,?_⟩) d
 .rw[rj e];rw[k]at g;exact g
 grind[rj]
def abN{P}{ty}{E j}{g:ai->a6->Prop}:∀h{a:ai}{b:a6},du (ah.aD P ty J.f) (dQ J.f) (λa b=>oO P ty J E val j g h a b) a b->oO P ty J E val j g h a b
 |0,_,_,d=>du.bind d λ_ _ e=>e
 |_+1,_,_,d=>du.bind d λ_ _ e=>e
def abM(R:bL (ah.c8 V) 234 (m9 h))(M:J.aH=2)(s:nP J.f cG)(y:i.roundOf=n)(r:i.kind≠.early)(F:dK.length<=5)(H:c bt<=4000000)(Q:∀d,d<c bt->val d 0=.string ⟨((dg h Y (bt.getD d 0)).getD []).toArray⟩)(K:∀d,d<c bt->val d 1=.bool (dg h Y (bt.getD d 0)).isSome):
  ∀o,o<=c bt->∀a b,dU dK cG (ib h Y bt J.ah J.f (c bt-o)) e2 a b->WgLive 294 J.f b.a ->
   oO V 294 J (2*c bt) val (c bt) (wB h Y bt J dK cG i eR ag) o (G (i.ab a (.code hD::.inLoop hD::.inBlock 0::.code lI::eR)) ag) b:=by
 intro o;induction o with
 |zero=>
  intro _ a b e k;rw[sr]at e;have:=ce.cZ (W:=dQ J.f) (adr (p:=ah.aD V 294 J.f) (eR:=eR) (ag:=ag) (br:=λj b=>∃a,j=G (Frame.enter V 235 #[.pointer (f ⟨J.f,0,n⟩)] .normal) (i.ab a (.inRegion ot [0]::.code n4::eR)::ag)/\dU dK cG (ib h Y bt J.ah J.f (c bt)) e2 a b) r e λq w m=>.stop ⟨q,rfl,m⟩) (s.step e.a5).clear k;refine du.bind this ?_;rintro j b ⟨⟨a,rfl,e⟩,k⟩;exact adC (P:=V) (L:=qP) (J:=J) v' (dU.eB s) (λj b x=>⟨a,x⟩) ⟨e,k⟩
 |succ o E=>
  intro T a b e k;have g:c bt-(o+1)<c bt:=u;generalize S:c bt-(o+1)=d at e g;have:=ce.cZ (W:=dQ J.f) (toAdd (p:=ah.aD V 294 J.f) (eR:=.code lI::eR) (ag:=ag) (br:=λj b=>∃a,j=G (Frame.enter V 231 #[.pointer (f ⟨J.f,0,n⟩),.int .i64 1] .normal) (i.ab a (.inRegion pj [0]::s8 (.code lI::eR))::ag)/\dU dK cG (kQ h Y bt J.ah J.f d) kj a b) g r e λq w m=>Tw r m λN A=>.stop ⟨q,rfl,A⟩) (s.step e.a5).clear k;refine du.bind this ?_;rintro j b ⟨⟨a,rfl,e⟩,k⟩;have D:(pj[0]?).bind (·.dst)=f 25:=by rw[KS];rfl
  rw[rj y];refine R5 (P:=V) (L:=qP) (J:=J) (ed:=dU dK cG (kQ h Y bt J.ah J.f d) kj a) v' (dU.eB s) (λb B=>?_) ⟨e,k⟩;rw[D];have:=ce.cZ (W:=dQ J.f) (toGo (p:=ah.aD V 294 J.f) (eR:=.code lI::eR) (ag:=ag) (br:=λj b=>∃t a,j=G (i.ab a (.inRegion oq [1]::.inBlock 1::.code n3::.inLoop hD::.inBlock 0::.code lI::eR)) ag/\dU dK cG (kQ h Y bt J.ah J.f d) kj a b/\Rd b.C t (sI h Y bt J.ah J.f d)/\a.tmps.getD 26 I=t) r B.1 λt q w m C z=>.stop ⟨t,q,rfl,m,C,z⟩) (s.step B.1.a5).clear B.2;rw[rj y]at this;refine du.bind this ?_;rintro j b ⟨⟨t,a,rfl,e,C,z⟩,k⟩;rw[S];refine⟨.leaf,Sm R M y r g (Q d g) (K d g) e k C z λw m O=>?_⟩;refine abN o ?_;have:=ce.cZ (W:=dQ J.f) (adq (p:=ah.aD V 294 J.f) (eR:=.code lI::eR) (ag:=ag) (br:=λj b=>∃a,j=G (i.ab a (.code hD::.inLoop hD::.inBlock 0::.code lI::eR)) ag/\dU dK cG (ib h Y bt J.ah J.f (d+1)) e2 a b) g H r F m λq w m=>.stop ⟨q,rfl,m⟩) (s.step m.a5).clear O;refine du.bind this ?_;rintro j b ⟨⟨a,rfl,e⟩,k⟩;refine⟨.leaf,E u a b ?_ k⟩;grind
end
end
section
variable {p:ah V}[p.bZ]
def SD(o):∀b,b<c o->c (bB.fn o b)=2/\∀e∈bB.fn o b,nk e=l:=by intro b _;refine⟨a,λe d=>?_⟩;simp only[c1.fn,gG,bB,e8,ss,or_false]at d;rcases d with rfl|rfl<;>rfl
abbrev mX(b:m c7)(a:m X):Prop:=ek 2 (c b) (bB.fn b) a
abbrev AW(a:fo)(d:Nat)(b:m X):ap:=.J (cq 91 2 a d b)
abbrev acP(a:fo)(d:Nat)(b:Bool):x:=.Q [.R (.v (c0 a d)),.R (.c (.bool b))]
def XT(o)(a d):bl (ι:={b:fo×m X // mX (jv o a d).1 b.2}) p 50 [bB.A o,b1 a,b1 d] [] (λb=>acP b.1.1 (jv o a d).1.length (jv o a d).2) (λb=>[AW b.1.1 (jv o a d).1.length b.1.2]):=
 (Jc o a d).thaw func50 rfl (by simp[Dq,vB,vA,rT,nj,nk]) (SD _)
def ek.nil{h}:ek h 0 U []:=⟨by simp,λb a=>by omega,λb a=>by omega⟩
def aaB{o}{d e}(a:(jv o d e).2=l):(jv o d e).1.length<=6:=by
 unfold jv at a⊢;split at a
 .rename_i i;rw[bo i];split at a
  .rename_i b;rw[bo b];exact M4 b
  grind
 grind
def Sg{b d:ae}(e:q.op=.call {callee:=.builtin .append,args:=#[b,d],argTypes:=#[43,43]}):j0 V q b d 91 rI:=
 ⟨⟨43,43,CV,CV,e,(bc _ _ a),rfl,(bc _ _ a),rfl⟩,(bc _ _ a),by decide,by decide⟩
def LH{b}(d:c b<=9223372036854775807):Rd bz (jj b) (.V b):=Rd.V a d
def mX.gH{o}{af}(p:mX o af)(b d)(j:c b<=9223372036854775807)(k:c d<=9223372036854775807):mX (o++[(b,d)]) (af++[jj b,jj d]):=by
 unfold mX;rw[df];refine ek.gH p (λr g=>?_) a a λh q e=>?_
 .simp[c1.fn,gG,aj,j6 g]
 have m:bB.fn (o++[(b,d)]) (c o)=[.V b,.V d]:=by simp[c1.fn,gG,bB]
 rw[m]at e;rcases h with _|_|h
 .simp at e;subst e;exact⟨jj b,a,λi=>LH j⟩
 .simp at e;subst e;exact⟨jj d,a,λi=>LH k⟩
 grind
def mX.jQ{o}{af}(m:mX o af)(e)(b:e<c o)(d)(j:m2 y [.c (.V d)]):mX (o.set e ((o.getD e bB.D).1,d)) (af.take (e*2+1)++y++af.drop (e*2+1+c y)):=by
 unfold mX;rw[wR];refine ek.fh m e 1 b j (bA _) (λr q h=>?_) a λg p i=>?_
 .simp[c1.fn,gG,aj,pY h]
 have k:bB.fn (o.set e ((o.getD e bB.D).1,d)) e=[.V (o.getD e bB.D).1,.V d]:=by simp[c1.fn,gG,bB,aj,b]
 rw[k]at i;rcases g with _|_|g
 .right;exact bG
 .grind
 grind
structure un(h r:Nat) where
 dT:m c7
 gK:fo
 hT:m X
 k1:Nat
 iW:mX dT hT
 kl:c dT<=7
 jb:h<=k1
 j1:k1<=h+r
set_option maxRecDepth 20000 in
def XP(z)(i:Nat->Int)(t:Bytes i)(h)(ah:h<=50000)(B:z<=1048576):
  bl (ι:=un h 400) p 27 [aI 0 0] [eY z i h] (λo=>cM (c0 o.gK (c o.dT))) (λo=>[eY z i o.k1,AW o.gK (c o.dT) o.hT]):=by
 refine bl.ca func27 rfl rfl rfl λH=>?_;refine gF [] 9 a A (g.jy 3 91 2 a λW=>?_);refine aO a A (g.aX (gz z i t h 6 u B u) [0] a bk ?_);rintro⟨E,al,an⟩;refine aO a A (g.aC 2 (λb:Nat×m c7×fo×m X×Nat=>b.1<=5/\mX b.2.1 b.2.2.2.1/\c b.2.1<=6/\h<=b.2.2.2.2/\b.2.2.2.2+70*b.1<=h+351) (λb=>[(0,aI 0 0),(4,R b.1),(3,cM (c0 b.2.2.1 (c b.2.1)))]) (λb=>[eY z i b.2.2.2.2,AW b.2.2.1 (c b.2.1) b.2.2.2.1]) (λb=>b.1) (E.toNat,[],W,[],h+1) a bQ a C a ⟨by omega,ek.nil,by simp,by simp,by grind⟩ ?_);rintro⟨j,e,bO,af,k1⟩ ⟨Z,q,ae,G,aa⟩;simp only at Z q ae G aa;by_cases P:0<j
 .refine a5 [11] a (by simp[P]) (g.aX (IV z i t k1 u B) [0] a bk ?_);rintro⟨k,ab⟩;refine aO a A (g.aX (XN z i t (k1+1+1) u B) [0] a bk ?_);rintro⟨⟨Q,S⟩,ag,aq,ai⟩;simp only at ag aq ai;refine aO a A (g.iD (XT e k Q) 1 0 a a a a (cq.fK a (bB.fn e) q.rd) a C a bk bk a ?_);rintro⟨⟨F,D⟩,U⟩;simp only at U⊢;cases x:(jv e k Q).2 with
  |true=>
   have K:=aaB x;generalize(jv e k Q).1=N at U K⊢;refine gF [] 6 a A (g.swap 1 2 ca a a (λE I J=>J.1) (λE I J=>J.1) ?_);refine a5 [23] a kT (g.aw (j-1,N,F,D,S) a bQ C M ?_);grind
  |false=>
   refine a5 [-23] a bG (g.aw (j-1,e,bO,af,S) a bQ C M ?_);grind
 obtain rfl:j=0:=u;refine a5 [-11] a C (g.az ?_);refine aO a A (g.aX (gz z i t k1 40 u B u) [0] a bk ?_);rintro⟨V,aL,av⟩;by_cases L:V=0
 .refine a5 [27] a (by simp[L]) (g.aX (IV z i t (k1+1) u B) [0] a bk ?_);rintro⟨k,ab⟩;refine aO a A (g.fu (d:=1) (bO:=bO) (af:=af) (j:=c e) (hZ:=[jj k,jj [97]]) (Sg a) a a a a a a a a (λau E aB r aw ax=>?_) (by show _*32<=_;omega) λF=>?_)
  .grind [Eh]
  refine aO a A (g.bu ⟨e++[(k,[97])],F,af++[jj k,jj [97]],k1+1+1+1,q.gH k [97] u ca,by grind,by omega,by omega⟩ (g.aJ [0,1] a C ?_ (r:=nN)));grind
 by_cases ar:V=1
 .by_cases O:0<c e
  .refine g.fB (cq.len (d:=1) a) λao=>?_;obtain⟨Y,s,rfl⟩:=ao.2.2.1 O;refine a5 [-27,35,39] a bu (g.eP bc 1 a a a a a a a M a a λy w=>?_);have ak:=q.jQ 0 O [65] w;refine aO a A (g.bu ⟨e.set 0 ((e.getD 0 bB.D).1,[65]),.row Y s,_,k1+1,ak,by grind,by omega,by omega⟩ (g.aJ [0,1] a C ?_ (r:=nN)));grind
  cases bO;all_goals
   refine a5 [-27,35,-39] a ?_ (g.bu ⟨e,_,af,k1+1,q,by omega,by omega,by omega⟩ (g.aJ [0,1] a ?_ ?_))
   .simp[O,ar]<;>omega
   .simp
   grind
 refine a5 [-27,-35] a bu (g.bu ⟨e,bO,af,k1+1,q,by omega,by omega,by omega⟩ (g.aJ [0,1] a C ?_));grind
def XQ(z)(b:Nat->Int)(g:Bytes b)(h)(d:h<=50000)(e:z<=1048576):
  bl (ι:=un h 400) p 27 [aI 0 0] [eY z b h] (λa=>bB.A a.dT) (λa=>[eY z b a.k1]):=
 bl.e4 (aQ:=λa:un h 400=>[eY z b a.k1]) (h:=2) (j:=λa:un h 400=>c a.dT) (U:=λa:un h 400=>bB.fn a.dT) (XP z b g h d e) (λa=>a.iW) bk (λ_=>bA _)
end
section
open Go.Proofs Go.Extern
abbrev gg:al:=163
abbrev dP:al:=161
abbrev pz:al:=254
abbrev aY(a:al):X:=.pointer (f ⟨6,a,n⟩)
abbrev mJ(a:al):X:=.iface pz (.agg #[aY a])
abbrev kx(d:al)(b:Nat)(a:Int):X:=.agg #[aY d,.pointer (f ⟨b,0,n⟩),.int .u64 a]
def Nt:jx V 167 λargs=>ReflectliteValue.unpack (args.getD 0 (.tuple #[])):=⟨_,Tryz.func167,by kernel_rfl,by kernel_rfl,by kernel_rfl,by kernel_rfl⟩
def aaU(b)(a):(ReflectliteValue.unpack (.iface gg (.pointer (f b)))).run V a=.ok (kx gg a.heap.size 150) (a.alloc (.cells #[.pointer (f b)] gg)):=bF
def Tt(a)(b)(U):(ReflectliteValue.unpack (.iface gg (.pointer (f a)))).events V b U=U:=bF
def aaT(b)(a):(ReflectliteValue.unpack (.iface dP (.pointer (f b)))).run V a=.ok (kx dP a.heap.size 150) (a.alloc (.cells #[.pointer (f b)] dP)):=bF
def Ts(a)(b)(U):(ReflectliteValue.unpack (.iface dP (.pointer (f a)))).events V b U=U:=bF
def ad1:jx V 168 (ReflectliteValue.methodAny (ReflectliteValue.valueError "reflectlite.Value.Type" 0) λa _ _ _=>ReflectliteType.toType a):=⟨_,Tryz.func168,by kernel_rfl,by kernel_rfl,by kernel_rfl,by kernel_rfl⟩
def aaR(B)(a):(ReflectliteValue.methodAny (ReflectliteValue.valueError "reflectlite.Value.Type" 0) (λb _ _ _=>ReflectliteType.toType b) #[kx gg B 150]).run V a=.ok (mJ gg) a:=bF
def Tq(B)(b)(U):(ReflectliteValue.methodAny (ReflectliteValue.valueError "reflectlite.Value.Type" 0) (λa _ _ _=>ReflectliteType.toType a) #[kx gg B 150]).events V b U=U:=bF
def Kl(b)(d):(Go.method (Tryz.prog.types.size+Made.depth) pz (.agg #[b]) "Kind").run V d=.ok (335,b) d/\∀a,(Go.method (Tryz.prog.types.size+Made.depth) pz (.agg #[b]) "Kind").events V d a=a:=⟨by kernel_rfl,λa=>by kernel_rfl⟩
def Ns:jx V 335 (ReflectliteType.abiMethod λa=>do pure (.int .u8 (<-Rtype.kind a))):=⟨_,Tryz.func335,by kernel_rfl,by kernel_rfl,by kernel_rfl,by kernel_rfl⟩
def aaP(a):((ReflectliteType.abiMethod λb=>do pure (.int .u8 (<-Rtype.kind b))) #[aY gg]).run V a=.ok (.int .u8 22) a:=bF
def Tp(b)(U):((ReflectliteType.abiMethod λa=>do pure (.int .u8 (<-Rtype.kind a))) #[aY gg]).events V b U=U:=bF
def aaO(a):((ReflectliteType.abiMethod λb=>do pure (.int .u8 (<-Rtype.kind b))) #[aY dP]).run V a=.ok (.int .u8 22) a:=bF
def To(b)(U):((ReflectliteType.abiMethod λa=>do pure (.int .u8 (<-Rtype.kind a))) #[aY dP]).events V b U=U:=bF
def adV:jx V 169 (ReflectliteValue.method (ReflectliteValue.valueError "reflectlite.Value.IsNil" 0) ReflectliteValue.isNil):=⟨_,Tryz.func169,by kernel_rfl,by kernel_rfl,by kernel_rfl,by kernel_rfl⟩
def LN(d)(b:al->Addr->Nat->Nat->Sem X)(aa):ReflectliteValue.method d b #[aa]=(do match<-ReflectliteValue.parts aa with|none=>d|some (g,e,a)=>b g e a (a % 32)):=rfl
def tp(B)(b):(ReflectliteValue.parts (kx gg B 150)).run V b=.ok (f (gg,⟨B,0,n⟩,150)) b/\∀a,(ReflectliteValue.parts (kx gg B 150)).events V b a=a:=⟨by kernel_rfl,λa=>by kernel_rfl⟩
def aaN(B)(i)(b)(g:b.cell? ⟨B,0,n⟩=f (.pointer (f i))):(ReflectliteValue.method (ReflectliteValue.valueError "reflectlite.Value.IsNil" 0) ReflectliteValue.isNil #[kx gg B 150]).run V b=.ok (.bool v) b /\
  ∀a,∀d∈(ReflectliteValue.method (ReflectliteValue.valueError "reflectlite.Value.IsNil" 0) ReflectliteValue.isNil #[kx gg B 150]).events V b a,d∈a∨d=⟨.cell ⟨B,0,n⟩,v,v⟩:=by
 have h:=Tryz.underlying163;rw[LN];constructor
 .simp only[cK,(tp B b).1,c9];simp[ReflectliteValue.isNil,loadVar,isAgg,underlying,h,g]
 intro a d e;simp only[aD,cK,(tp B b).1,(tp B b).2,c9,aF]at e;simpa[ReflectliteValue.isNil,loadVar,isAgg,underlying,h,g,show(Mode.plain==Mode.atomic)=v from rfl]using e
def Zr(b)(d):(Go.method (Tryz.prog.types.size+Made.depth) pz (.agg #[b]) "Elem").run V d=.ok (351,.agg #[b]) d/\∀a,(Go.method (Tryz.prog.types.size+Made.depth) pz (.agg #[b]) "Elem").events V d a=a:=⟨by kernel_rfl,λa=>by kernel_rfl⟩
def adS:jx V 351 (ReflectliteType.method ReflectliteType.elem):=⟨_,Tryz.func351,by kernel_rfl,by kernel_rfl,by kernel_rfl,by kernel_rfl⟩
def aaK(a):(ReflectliteType.method ReflectliteType.elem #[.agg #[aY gg]]).run V a=.ok (mJ dP) a:=bF
def Tl(a)(U):(ReflectliteType.method ReflectliteType.elem #[.agg #[aY gg]]).events V a U=U:=bF
def Zs(b)(d):(Go.method (Tryz.prog.types.size+Made.depth) pz (.agg #[b]) "Implements").run V d=.ok (352,.agg #[b]) d/\∀a,(Go.method (Tryz.prog.types.size+Made.depth) pz (.agg #[b]) "Implements").events V d a=a:=⟨by kernel_rfl,λa=>by kernel_rfl⟩
def adU:jx V 352 (ReflectliteType.relation "Implements" ReflectliteType.implements_):=⟨_,Tryz.func352,by kernel_rfl,by kernel_rfl,by kernel_rfl,by kernel_rfl⟩
def aaM(a):(ReflectliteType.relation "Implements" ReflectliteType.implements_ #[.agg #[aY dP],mJ 158]).run V a=.ok (.bool l) a:=bF
def Tn(a)(U):(ReflectliteType.relation "Implements" ReflectliteType.implements_ #[.agg #[aY dP],mJ 158]).events V a U=U:=bF
def Zq(b)(d):(Go.method (Tryz.prog.types.size+Made.depth) pz (.agg #[b]) "AssignableTo").run V d=.ok (349,.agg #[b]) d/\∀a,(Go.method (Tryz.prog.types.size+Made.depth) pz (.agg #[b]) "AssignableTo").events V d a=a:=⟨by kernel_rfl,λa=>by kernel_rfl⟩
def adM:jx V 349 (ReflectliteType.relation "AssignableTo" ReflectliteType.assignableTo):=⟨_,Tryz.func349,by kernel_rfl,by kernel_rfl,by kernel_rfl,by kernel_rfl⟩
def aaJ(a):(ReflectliteType.relation "AssignableTo" ReflectliteType.assignableTo #[.agg #[aY dP],mJ dP]).run V a=.ok (.bool l) a:=bF
def Tk(a)(U):(ReflectliteType.relation "AssignableTo" ReflectliteType.assignableTo #[.agg #[aY dP],mJ dP]).events V a U=U:=bF
def ad2:jx V 208 ReflectliteType.typeOf:=⟨_,Tryz.func208,by kernel_rfl,by kernel_rfl,by kernel_rfl,by kernel_rfl⟩
def aaS(aa)(a):(ReflectliteType.typeOf #[.iface dP aa]).run V a=.ok (mJ dP) a:=bF
def Tr(aa)(a)(U):(ReflectliteType.typeOf #[.iface dP aa]).events V a U=U:=bF
def adT:jx V 209 (ReflectliteValue.method (ReflectliteValue.valueError "reflectlite.Value.Elem" 0) ReflectliteValue.elem):=⟨_,Tryz.func209,by kernel_rfl,by kernel_rfl,by kernel_rfl,by kernel_rfl⟩
def LA(b):(Rtype.elem? gg).run V b=.ok (f dP) b/\∀a,(Rtype.elem? gg).events V b a=a:=⟨by kernel_rfl,λa=>by kernel_rfl⟩
def LB(b)(d):(ReflectliteValue.mk dP b ReflectliteValue.flagAddr).run V d=.ok (.agg #[aY dP,.pointer (f b),.int .u64 406]) d/\∀a,(ReflectliteValue.mk dP b ReflectliteValue.flagAddr).events V d a=a:=⟨by kernel_rfl,λa=>by kernel_rfl⟩
def aaL(B)(i)(b)(g:b.cell? ⟨B,0,n⟩=f (.pointer (f i))):(ReflectliteValue.method (ReflectliteValue.valueError "reflectlite.Value.Elem" 0) ReflectliteValue.elem #[kx gg B 150]).run V b=.ok (.agg #[aY dP,.pointer (f i),.int .u64 406]) b /\
  ∀a,∀d∈(ReflectliteValue.method (ReflectliteValue.valueError "reflectlite.Value.Elem" 0) ReflectliteValue.elem #[kx gg B 150]).events V b a,d∈a∨d=⟨.cell ⟨B,0,n⟩,v,v⟩:=by
 have h:=Tryz.underlying163;rw[LN];constructor
 .simp only[cK,(tp B b).1,c9];simp[ReflectliteValue.elem,loadVar,isAgg,underlying,h,g,LA,LB]
 intro a d e;simp only[aD,cK,(tp B b).1,(tp B b).2,c9,aF]at e;simpa[ReflectliteValue.elem,loadVar,isAgg,underlying,h,g,LA,LB,show(Mode.plain==Mode.atomic)=v from rfl]using e
def ad0:jx V 210 ReflectliteValue.set:=⟨_,Tryz.func210,by kernel_rfl,by kernel_rfl,by kernel_rfl,by kernel_rfl⟩
def aa0(aa b):ReflectliteValue.set #[aa,b]=(do
  let (f (r,a,Yl),f (src,i,_)):=(<-ReflectliteValue.parts aa,<-ReflectliteValue.parts b)
   |unsupported (.noEntry "extern/(internal/reflectlite.Value).Set.zeroValue")
  if Yl / ReflectliteValue.flagAddr % 2==0 then unsupported (.noEntry "extern/(internal/reflectlite.Value).Set.unaddressable")
  let val<-loadVar src i
  if<-Rtype.directlyAssignable r src then storeVar r a val
  else if<-Rtype.implements r src then
   if(<-Rtype.kind src)==20 then
    match val with
    |.nilIface=>unsupported (.noEntry "extern/reflectlite: a nil value of one interface type handed on as a value of another")
    |_=>storeVar r a val
   else storeVar r a (.iface src val)
  else panicString ("reflectlite.Set: value of type "++(<-Rtype.spelt src)++ " is not assignable to type "++(<-Rtype.spelt r))
  pure (.tuple #[])):=rfl
def DM(b)(d):(ReflectliteValue.parts (.agg #[aY dP,.pointer (f b),.int .u64 406])).run V d=.ok (f (dP,b,406)) d/\∀a,(ReflectliteValue.parts (.agg #[aY dP,.pointer (f b),.int .u64 406])).events V d a=a:=⟨by kernel_rfl,λa=>by kernel_rfl⟩
def DN(B)(b):(ReflectliteValue.parts (kx dP B 150)).run V b=.ok (f (dP,⟨B,0,n⟩,150)) b/\∀a,(ReflectliteValue.parts (kx dP B 150)).events V b a=a:=⟨by kernel_rfl,λa=>by kernel_rfl⟩
def Lz(b):(Rtype.directlyAssignable dP dP).run V b=.ok l b/\∀a,(Rtype.directlyAssignable dP dP).events V b a=a:=⟨by kernel_rfl,λa=>by kernel_rfl⟩
def LC(b):(sizeOf dP).run V b=.ok 1 b/\∀a,(sizeOf dP).events V b a=a:=⟨by kernel_rfl,λa=>by kernel_rfl⟩
def aaQ(B i)(W)(cb)(e)(b)(p:b.heap[B]?=f (.cells #[cb] W (0,0)))(o:b.cell? ⟨i,0,n⟩=f (.pointer (f e))):
  (ReflectliteValue.set #[.agg #[aY dP,.pointer (f ⟨B,0,n⟩),.int .u64 406],kx dP i 150]).run V b=.ok (.tuple #[]) (b.setRow B #[.pointer (f e)]) /\
  ∀d,∀g∈(ReflectliteValue.set #[.agg #[aY dP,.pointer (f ⟨B,0,n⟩),.int .u64 406],kx dP i 150]).events V b d,g∈d∨g=⟨.cell ⟨i,0,n⟩,v,v⟩∨g=⟨.cell ⟨B,0,n⟩,l,v⟩:=by
 have m:=Tryz.underlying161;have j:∀b∈[Value.pointer (f e)],b.oneCell'=l:=λb t=>by simp at t;exact bG
 have s:=run_storeCells_at V B 0 W [.pointer (f e)] 0 #[cb] b p C j;have h:(storeCells ⟨B,0,n⟩ [.pointer (f e)] 0).run V b=.ok () (b.setRow B #[.pointer (f e)]):=s;rw[aa0];constructor
 .simp only[cK,(DM ⟨B,0,n⟩ b).1,(DN i b).1,c9];simp[ReflectliteValue.flagAddr,loadVar,isAgg,underlying,m,o,Lz,storeVar,Value.cells,LC,h]
 intro d g k;simp only[aD,cK,(DM ⟨B,0,n⟩ b).1,(DM ⟨B,0,n⟩ b).2,(DN i b).1,(DN i b).2,c9,aF]at k;have q:g∈(storeCells ⟨B,0,n⟩ [.pointer (f e)] 0).events V b (d.push ⟨.cell ⟨i,0,n⟩,v,v⟩):=by simpa[ReflectliteValue.flagAddr,loadVar,isAgg,underlying,m,o,Lz,storeVar,Value.cells,LC,h,show(Mode.plain==Mode.atomic)=v from a]using k
 rcases nd [.pointer (f e)] 0 #[cb] b _ p C j g q with u|⟨r,x,w,rfl⟩
 .grind
 obtain rfl:r=0:=M;exact .inr (.inr a)
end
section
open Go.Proofs Go.Extern
variable {p:ah V}
abbrev Ac:ap:=.J (ee 0 207 (mJ 158))
abbrev n7(a:X):x:=ax (.val a)
abbrev xP(d:al)(b:Nat)(a:Int):x:=.n (.agg [.c (.val (aY d)),.c (.val (.pointer (f ⟨b,0,n⟩))),.c (.val (.int .u64 a))])
abbrev Gk(d:Addr)(a b:Nat):m ap:=[.J (ee b gg (.pointer (f ⟨a,0,n⟩))),.J (ee a dP (.pointer n))]
def Jp:∀a,a<2->([0,1]:m Nat)[a]?=f a:=ca
def TL(b)(B i):Z p 170 [n7 (.iface dP (.pointer (f b))),n7 (.iface gg (.pointer (f ⟨B,0,n⟩))),xP gg i 150,n7 (mJ dP)] (Gk b B i) (bh l) [.J (ee i gg (.pointer (f ⟨B,0,n⟩))),.J (ee B dP (.pointer (f b)))]:=by refine Z.I Tryz.func170 rfl λm=>?_;refine aO a A ?_;refine g.dC 3 [0,1,3,6] (λ_:Unit=>True) (λ_=>[]) (λ_=>Gk b B i++[.cells 204 [.c (.val (aY gg)),.c (.val (.pointer (f ⟨i,0,n⟩))),.c (.val (.int .u64 150))]]) (λ_=>0) () a C a C a A λ_ _=>?_;refine aO a A ?_;refine g.cX a a (eg.ea (h1.dY a a) ad2 (aaS _) (Tr _) (D:=n7 (mJ dP)) λ_=>Rd.val a) λ_=>?_;refine aO a A ?_;refine g.cX a a (eg.ea (h1.invoke a a a (Zq _)) adM aaJ Tk (D:=bh l) λ_=>Rd.bool) λ_=>?_;refine a5 [19] a C ?_;refine g.cX a a (eg.g6 0 (bx:=.pointer (f ⟨B,0,n⟩)) a (h1.dY a a) adT (λe h=>aaL i ⟨B,0,n⟩ e h) (D:=xP dP B 406) λ_=>⟨_,a,Rd.val a,Rd.val a,Rd.val a,A⟩) λ_=>?_;refine aO a A ?_;refine g.cX a a (eg.g5 (W:=dP) (bx:=.pointer (f b)) (aa:=λd=>kx dP d 150) (D:=λd=>xP dP d 150) (h1.dY a a) Nt (aaT b) (Ts b) λd _ _=>⟨_,a,Rd.val a,Rd.val a,Rd.val a,A⟩) λd=>?_;refine aO a A ?_;refine g.cX a a (eg.iP 1 3 (cb:=.pointer n) (bx:=.pointer (f b)) a a (h1.dY a a) ad0 (λe k j=>aaQ B d dP _ b e k j) (D:=.Q []) λ_ _=>⟨[],a,A⟩) λ_=>?_;refine aO a A (g.aT (bY.mk [0,1] a ?_ a a a Jp));simp
def Nj{ac}{e g:ae}(s:q.op=.binOp op o e g ty){r}{cw}(j:P.underlying o=f (.interface cw))(y:η e=ax (.val (.iface ac aa)))(x:η g=ax .bE)(w:∀Q,(eqGuard op o e g (.iface ac aa) .nilIface).run P Q=.ok () Q)(ak:∀Q a,(eqGuard op o e g (.iface ac aa) .nilIface).events P Q a=a)(d:h_ op v=f r):a0 P q η k (ax (.bool r)) k:=by
 refine .aS λb t C u=>?_;have p:=u e;have m:=u g;rw[y]at p;rw[x]at m;replace p:=b6 p;replace m:=b6 m;generalize i:t e=z at p;generalize N:t g=A at m;cases p;cases m;have h:(Op.equal o (.iface ac aa) .nilIface).run P b.a=.ok v b.a:=QH;have B:∀a,(Op.equal o (.iface ac aa) .nilIface).events P b.a a=a:=λa=>by show(aN (9999+1) o _ _).events P b.a a=a;unfold aN;simp[underlying,j]
 cases op<;>simp only[h_,reduceCtorEq,e1]at d
 .exact QD
 exact Qa
def TK(e)(B):Z p 119 [n7 (.iface dP (.pointer (f e))),n7 (.iface gg (.pointer (f ⟨B,0,n⟩)))] [Ac,.J (ee B dP (.pointer n))] (bh l) [Ac,.J (ee B dP (.pointer (f e)))]:=by refine Z.I Tryz.func119 rfl λj=>?_;refine aO a A ?_;refine g.aK (Nj a Tryz.underlying158 a a bk (λ_ _=>rfl) a) a a ?_;refine a5 [-9] a C ?_;refine g.aK (Nj a Tryz.underlying20 a a bk (λ_ _=>rfl) a) a a ?_;refine a5 [-11] a C ?_;refine g.cX a a (eg.g5 (W:=gg) (bx:=.pointer (f ⟨B,0,n⟩)) (aa:=λd=>kx gg d 150) (D:=λd=>xP gg d 150) (h1.dY a a) Nt (aaU _) (Tt _) λd _ _=>⟨_,a,Rd.val a,Rd.val a,Rd.val a,A⟩) λb=>?_;refine aO a A ?_;refine g.cX a a (eg.ea (h1.dY a a) ad1 (aaR b) (Tq b) (D:=n7 (mJ gg)) λ_=>Rd.val a) λ_=>?_;refine aO a A ?_;refine g.cX a a (eg.ea (h1.invoke a a a (Kl _)) Ns aaP Tp (D:=ax (.int .u8 22)) λ_=>Rd.int lx) λ_=>?_;refine a5 [-20] a C ?_;refine g.cX a a (eg.g6 2 (bx:=.pointer (f ⟨B,0,n⟩)) a (h1.dY a a) adV (λi h=>aaN b ⟨B,0,n⟩ i h) (D:=bh v) λ_=>Rd.bool) λ_=>?_;refine a5 [-23] a C ?_;refine g.cX a a (eg.ea (h1.invoke a a a (Zr _)) adS aaK Tl (D:=n7 (mJ dP)) λ_=>Rd.val a) λ_=>?_;refine aO a A ?_;refine g.cX a a (eg.ea (h1.invoke a a a (Kl _)) Ns aaO To (D:=ax (.int .u8 22)) λ_=>Rd.int lx) λ_=>?_;refine a5 [30] a C ?_;refine g.R (aZ.gq bc 0 a a a a a a) a ?_;refine g.cX a a (eg.ea (h1.invoke a a a (Zs _)) adU aaM Tn (D:=bh l) λ_=>Rd.bool) λ_=>?_;refine a5 [-35] a C ?_;refine g.aA (TL e B b) [2,1] a ?_;refine aO a A (g.aJ [0,1] a ?_ Jp);simp
end
end R1
abbrev zq(a b:bC)(d:Bool):x:=.Q [.R (.c (.V a)),.R (.c (.V b)),.R (.c (.bool d))]
namespace R1
variable {p:ah V}
def Vm(b)(r)(d:0<=r/\r<=255):Z p 238 [b1 b,uY r] [] (R (Lib.indexByte b (UInt8.ofNat (Int.toNat r)))) []:=by
 have a:r=((UInt8.ofNat r.toNat).toNat:Int):=by grind[UInt8.toNat_ofNat']
 grind[Vl]
def A8:bK:=λargs b=>match args,b with
 |[.n (.R (.c (.V d))),.n (.R (.c (.int .u8 a)))],[]=>f (R (Lib.indexByte d (UInt8.ofNat (Int.toNat a))),[],[0<=a/\a<=255])
 |_,_=>n
def ace:bL p 238 A8:=by
 intro args i e g d a b;unfold A8 at a;split at a
 .cases a;exact(Vm _ _ (b)).args (λ_ _ h=>h)
 cases a
def HN:m (Nat×bK):=(238,A8)::H0
def BM:ba p HN:=ba.cons ace (SX)
def iy(a:bC):Int:=Lib.indexByte a 47
theorem Vk(b):Z p 192 [b1 b,b1 [47]] [] (R (iy b)) []:=by
 refine Z.I func192 rfl λe=>?_;by_cases d:b=[47]
 .subst d;refine a_ BM [-18,22] a C (g.aq a ?_);exact cS
 refine a_ BM [-18,-22,26] a ?_ (g.aq a ?_)
 .simp[kg,dq];grind
 exact cS
def A7:bK:=λargs a=>match args,a with
 |[.n (.R (.c (.V b))),.n (.R (.c (.V [47])))],[]=>f (R (iy b),[],[])
 |_,_=>n
def acd:bL p 192 A7:=by intro args h b d a e g;unfold A7 at e;grind[Vk]
def HO:m (Nat×bK):=(192,A7)::HN
def BN:ba p HO:=ba.cons acd (BM)
def jI(a:bC):bC:=if 0<=iy a then a.take (iy a).toNat else a
def mq(a:bC):bC:=if 0<=iy a then a.drop ((iy a).toNat+1)else[]
def ki(a:bC):Bool:=decide (0<=iy a)
theorem Um(b):Z p 147 [b1 b,b1 [47]] [] (zq (jI b) (mq b) (ki b)) []:=by
 refine Z.I func147 rfl λh=>?_;have i:=h.V 0 a;have e:=yr b 47;change iy b<c b∨iy b=-1 at e;by_cases d:0<=iy b
 .have r:(iy b+1).toNat=(iy b).toNat+1:=u;refine a_ BN [12] a ?_ (g.aq a ?_)
  .simp[d,a8];omega
  simp[jI,mq,ki,d,mo,r]
 refine a_ BN [-12] a bQ (g.aq a ?_);simp[jI,mq,ki,d]
def A6:bK:=λargs b=>match args,b with
 |[.n (.R (.c (.V a))),.n (.R (.c (.V [47])))],[]=>f (zq (jI a) (mq a) (ki a),[],[])
 |_,_=>n
def t147:bL p 147 A6:=by intro args h b d a e g;unfold A6 at e;grind[Um]
def HP:m (Nat×bK):=(147,A6)::HO
def HG:ba p HP:=ba.cons t147 (BN)
theorem Ul(b):Z p 111 [b1 b,b1 [47]] [] (zq (jI b) (mq b) (ki b)) []:=by refine Z.I func111 rfl λd=>?_;exact b_ HG a A (g.aq a)
def A1:bK:=λargs b=>match args,b with
 |[.n (.R (.c (.V a))),.n (.R (.c (.V [47])))],[]=>f (zq (jI a) (mq a) (ki a),[],[])
 |_,_=>n
def ab':bL p 111 A1:=by intro args h b d a e g;unfold A1 at e;grind[Ul]
def jK(a:bC):Bool:=decide (c a=1)&&decide (97<=dq a 0)&&decide (dq a 0<=101)
theorem UM(b):Z p 112 [b1 b] [] (bh (jK b)) []:=by
 refine Z.I func112 rfl λe=>?_;by_cases d:c b=1
 .by_cases i:97<=dq b 0
  .refine a5 [5,9] a hE (g.aq a ?_);show decide (dq b 0<=101)=jK b;simp[jK,d,i]
  refine a5 [5,-9] a cS (g.aq a ?_);simp[jK,i]
 refine a5 [-5] a bQ (g.aq a ?_);simp[jK,d]
def A2:bK:=λargs a=>match args,a with
 |[.n (.R (.c (.V b)))],[]=>f (bh (jK b),[],[])
 |_,_=>n
def aca:bL p 112 A2:=by intro args h b d a e g;unfold A2 at e;grind[UM]
def HQ:m (Nat×bK):=(111,A1)::(112,A2)::HP
def xz:ba p HQ:=ba.cons ab' (ba.cons aca (HG))
def jQ(a:bC):Bool:=jK (jI a)&&(!ki a||jK (mq a))
theorem WT(b):Z p 75 [b1 b] [] (bh (jQ b)) []:=by
 refine Z.I func75 rfl λe=>?_;cases w:jK (jI b)with
 |false=>
  refine a_ xz [-13] a oJ (g.aq a ?_);simp[jQ,w]
 |true=>
  cases d:ki b with
  |false=>
   refine a_ xz [13,-15] a dB (g.aq a ?_);simp[jQ,w,d]
  |true=>
   refine a_ xz [13,15] a dB (g.aq a ?_);simp[jQ,w,d]
def Bf:bK:=λargs a=>match args,a with
 |[.n (.R (.c (.V b)))],[]=>f (bh (jQ b),[],[])
 |_,_=>n
def acm:bL p 75 Bf:=by intro args h b d a e g;unfold Bf at e;grind[WT]
theorem VU(b):Z p 113 [b1 b] [] (bh (dX b)) []:=by
 refine Z.I func113 rfl λe=>?_;have m:=e.V 0 a;refine aO a A (g.b' (λd=>d<=c b/\∀t,t<d->jp (b.getD t 0)=l) (λd:Nat=>[(0,b1 b),(5,R (c b)),(6,R d)]) (λ_=>[]) (λd=>c b-d) 0 a C a A ⟨by omega,by omega⟩ ?_);rintro d ⟨h,r⟩;by_cases s:d<c b
 .generalize w:b.getD d 0=i;by_cases k:i.toNat<97
  .refine a5 [7,12] a ?_ (g.bR (bY.zero a ?_))
   .simp only[T,xi,bw,w];omega
   exact zL
  by_cases j:i.toNat>122
  .refine a5 [7,-12,17] a Om (g.bR (bY.zero a ?_));exact zL
  refine a5 [7,-12,-17] a Qq (g.b5 (d+1) a C a A ?_ ?_)
  .refine⟨by omega,λt N=>?_⟩;rcases Au.1 N with N|rfl
   .grind
   rw[w];simp only[jp,cn,bw];omega
  omega
 exact Oy
def A3:bK:=λargs a=>match args,a with
 |[.n (.R (.c (.V b)))],[]=>f (bh (dX b),[],[])
 |_,_=>n
def acb:bL p 113 A3:=by intro args h b d a e g;unfold A3 at e;grind[VU]
def HR:m (Nat×bK):=(75,Bf)::(113,A3)::HQ
def BO:ba p HR:=ba.cons acm (ba.cons acb (xz))
theorem I'(b):Z p 76 [b1 b] [] (bh (fK b)) []:=by
 refine Z.I func76 rfl λe=>?_;by_cases d:c b<=40
 .refine a_ BO [5] a bQ (g.aq a ?_);simp[fK,d]
 refine a_ BO [-5] a bQ (g.aq a ?_);simp[fK,d]
def Bg:bK:=λargs a=>match args,a with
 |[.n (.R (.c (.V b)))],[]=>f (bh (fK b),[],[])
 |_,_=>n
def acn:bL p 76 Bg:=by intro args h b d a e g;unfold Bg at e;grind[I']
def od(b a:bC):Bool:=decide (c a<=c b)&&(b.take (c a)==a)
theorem UZ(b d):Z p 115 [b1 b,b1 d] [] (bh (od b d)) []:=by
 refine Z.I func115 rfl λe=>?_;by_cases w:c d<=c b
 .refine a5 [9] a oJ (g.aq a ?_);simp[od,w,mo]
 refine a5 [-9] a bQ (g.aq a ?_);simp[od,w]
def A5:bK:=λargs a=>match args,a with
 |[.n (.R (.c (.V b))),.n (.R (.c (.V d)))],[]=>f (bh (od b d),[],[])
 |_,_=>n
def acc:bL p 115 A5:=by intro args h b d a e g;unfold A5 at e;grind[UZ]
def HS:m (Nat×bK):=(76,Bg)::(115,A5)::HR
def HH:ba p HS:=ba.cons acn (ba.cons acc (BO))
theorem UY(b d):Z p 79 [b1 b,b1 d] [] (bh (od b d)) []:=by refine Z.I func79 rfl λe=>?_;exact b_ HH a A (g.aq a)
def Bj:bK:=λargs a=>match args,a with
 |[.n (.R (.c (.V b))),.n (.R (.c (.V d)))],[]=>f (bh (od b d),[],[])
 |_,_=>n
def acr:bL p 79 Bj:=by intro args h b d a e g;unfold Bj at e;grind[UY]
def HT:m (Nat×bK):=(79,Bj)::HS
def HI:ba p HT:=ba.cons acr (HH)
end R1
def c1.jv(a:c1 α)(d)(h j)(k:h+j<=c d):a.ad j (fs h (a.fn d))=(d.drop h).take j:=by
 apply rh
 .simp[c1.ad];omega
 intro b e g;have i:b<j:=M;simp[c1.ad,fs,c1.fn,gG,aj,bI (by omega:h+b<c d),a.inv]
def c1.iV(a:c1 α)(d){h}:a.bM j (fs h (a.fn d)):=λb _=>by simp[fs,c1.fn,gG,a.inv]
abbrev Ta(a b:bC):x:=ax (.O [.V a,.V b])
namespace R1
variable {p:ah V}
def under(a b:bC):Bool:=od a (b++[47])
def XX(b)(d e)(i:c b.1<=4000000):Z p 78 [xM b,Ta d e] [] (bh (under d b.1)) []:=by refine Z.I func78 rfl λh=>?_;refine b_ HI a bQ (g.aq a ?_);exact cS
def Bi:bK:=λargs e=>match args,e with
 |[.n (.agg [.c (.V a),.c (.V b)]),.n (.R (.c (.O [.V g,.V d])))],[]=>f (bh (under g a),[],[c a<=4000000/\b=b/\d=d])
 |_,_=>n
def acp:bL p 78 Bi:=by
 intro args m e g d a b;unfold Bi at a;split at a
 .rename_i i h j k;cases a;exact XX (i,h) j k b.1
 grind
def HU:m (Nat×bK):=(78,Bi)::HT
def sJ:ba p HU:=ba.cons acp (HI)
abbrev BY(a b:bC):x:=ax (.fn (.func 78) [] [.O [.V a,.V b]])
def mA(e:m c7)(d:bC):Int:=match e.findIdx? (λa=>under d a.1)with|some b=>b|none=>-1
def YX{o}{a}(g:e<c o)(i:under a (ct o e)=l)(h:∀b,b<e->under a (ct o b)=v):mA o a=e:=by
 have:o.findIdx? (λd=>under a d.1)=f e:=by grind[List.findIdx?_eq_some_iff_getElem,o7]
 rw[mA,this]
theorem JV{o}{a}(e:∀b,b<c o->under a (ct o b)=v):mA o a=-1:=by
 have:o.findIdx? (λd=>under a d.1)=n:=by grind[List.getElem_of_mem,o7]
 rw[mA,this]
def Vh(o)(e k)(q:∀d,d<c o->c (ct o d)<=4000000):Z p 114 [bB.A o,BY e k] [] (R (mA o e)) []:=by
 refine Z.I func114 rfl λm=>?_;have s:=m.A 0 a;refine b_ sJ a A (g.b' (λb=>b<=c o/\∀d,d<b->under e (ct o d)=v) (λb:Nat=>[(0,bB.A o),(1,BY e k),(7,R (c o)),(8,R b)]) (λ_=>[]) (λb=>c o-b) 0 a C a A ⟨by omega,by omega⟩ ?_);rintro b ⟨r,j⟩;by_cases h:b<c o
 .have t:=q b h;cases i:under e (ct o b)with
  |true=>
   refine a_ sJ [9,16] a ?_ (g.bR (bY.zero a ?_))
   .simp[-aj,h,kt,i];omega
   simp[YX h i j]
  |false=>
   refine a_ sJ [9,-16] a ?_ (g.b5 (b+1) a ?_ a A ?_ ?_)
   .simp[-aj,h,kt,i,a8];omega
   .simp
   .grind
   omega
 refine a_ sJ [-9] a bQ (g.bs a a ?_);refine b_ sJ a A (g.aq a ?_);simp[JV (λd w=>j d u)]
def zd(b:m c7):Prop:=∀a,a<c b->c (ct b a)<=4000000
def A4:bK:=λargs e=>match args,e with
 |[g,.n (.R (.c (.fn (.func 78) [] [.O [.V h,.V d]])))],[]=>match jT 2 g with
  |none=>n
  |some (b,a)=>f (R (mA (bB.ad b a) h),[],[bB.bM b a,zd (bB.ad b a),d=d])
 |_,_=>n
def t114:bL p 114 A4:=by
 intro args o h i g a b;unfold A4 at a;split at a
 .rename_i q k m;split at a
  .cases a
  rename_i r j d;cases a;exact(Vh _ k m b.2.1).args (λ_ y=>b4.imp (λ_=>bB.cA d b.1) (b4.imp (λ_ e=>e) (λ_ e=>e)) y)
 grind
def HV:m (Nat×bK):=(114,A4)::HU
def HJ:ba p HV:=ba.cons t114 (sJ)
def TI(o)(b e)(d:zd o):Z p 77 [bB.A o,BY b e] [] (bh (decide (0<=mA o b))) []:=by
 refine Z.I func77 rfl λh=>?_;refine b_ HJ a ?_ (g.aq a ?_)
 .simp[bB.T,bB.l,d]
 simp[bB.l]
def Bh:bK:=λargs e=>match args,e with
 |[g,.n (.R (.c (.fn (.func 78) [] [.O [.V h,.V d]])))],[]=>match jT 2 g with
  |none=>n
  |some (b,a)=>f (bh (decide (0<=mA (bB.ad b a) h)),[],[bB.bM b a,zd (bB.ad b a),d=d])
 |_,_=>n
def aco:bL p 77 Bh:=by
 intro args o h i g a b;unfold Bh at a;split at a
 .rename_i q k m;split at a
  .cases a
  rename_i r j d;cases a;exact(TI _ k m b.2.1).args (λ_ y=>b4.imp (λ_=>bB.cA d b.1) (b4.imp (λ_ e=>e) (λ_ e=>e)) y)
 grind
def S1:m (Nat×bK):=(77,Bh)::HV
def n6:ba p S1:=ba.cons aco (HJ)
def mP(b:m c7)(a:Nat):Bool:=
 jQ (ct b a)&&fK (lu b a)&&(a==0||!(aT (ct b a) (ct b (a-1))||ct b a==ct b (a-1)))&&(az a).all λd=>!under (ct b a) (ct b d)
def qN(a:m c7):Bool:=(az (c a)).all (mP a)&&decide (c a<=6)
def zu{o}(b:e<c o)(d:mP o e=v):qN o=v:=by
 cases a:qN o with
 |false=>rfl
 |true=>
  simp[qN,cn]at a;grind
theorem K5{b}(g:jQ b=l):c b<=3:=by
 simp[jQ,jK,cn,jC,bw,je]at g;obtain⟨⟨⟨e,_⟩,_⟩,a⟩:=g;have h:=yr b 47;change iy b<c b∨iy b=-1 at h;by_cases d:0<=iy b
 .simp only[jI,d,dA,List.length_take]at e;rcases a with a|a
  .simp[ki,d]at a
  have:=a.1.1;simp[mq,d,dA,so]at this;omega
 simp[jI,d,dm]at e;omega
def YY{o}{S}(k:e<=c o):decide (0<=mA (o.take e) S)=!(az e).all λa=>!under S (ct o a):=by
 have m:∀a,a<e->ct (o.take e) a=ct o a:=by intro a d;simp[ct,aj,d]
 cases q:(az e).all λa=>!under S (ct o a)with
 |true=>
  grind[JV]
 |false=>
  have i:∃a,a<e/\under S (ct o a)=l:=M;have:∃g:Nat,mA (o.take e) S=g:=by
   unfold mA;cases b:(o.take e).findIdx? (λj=>under S j.1)with
   |some g=>grind
   |none=>
    obtain⟨a,d,p⟩:=i;rw[List.findIdx?_eq_none_iff]at b;have h:a<c (o.take e):=M;have:=b _ (wT h);grind[o7]
  grind
def Jb(o):Z p 42 [bB.A o] [] (bh (qN o)) []:=by
 refine Z.I func42 rfl λB=>?_;have E:=B.A 0 a;refine b_ n6 a A (g.aC 0 (λe=>e<=c o/\∀b,b<e->mP o b=l) (λe:Nat=>[(0,bB.A o),(5,bB.A o),(6,R (c o)),(7,R e)]) (λ_=>[]) (λe=>c o-e) 0 a C a A a ⟨by omega,by omega⟩ ?_);rintro e ⟨k,w⟩;by_cases h:e<c o
 .cases N:jQ (ct o e)with
  |false=>
   refine be n6 [8,-14] a ?_ (g.aT (bY.zero a ?_))
   .simp[-aj,h,kt,N]
   simp[T,zu h (by simp[mP,N])]
  |true=>
   cases ak:fK (lu o e)with
   |false=>
    refine be n6 [8,14,-19] a ?_ (g.aT (bY.zero a ?_))
    .simp[-aj,h,kt,tN,N,ak]
    simp[T,zu h (by simp[mP,ak])]
   |true=>
    have I:zd (o.take e):=by
     intro b D;simp[List.length_take]at D;have t:ct (o.take e) b=ct o b:=by simp[ct,aj,(by omega:b<e)]
     rw[t];have:=w b u;simp[mP,cn]at this;grind[K5]
    have F:bB.ad ((e:Int).toNat-0) (fs 0 (bB.fn o))=o.take e:=by rw[bB.jv o 0 _ M];simp
    cases r:(e==0||!(aT (ct o e) (ct o (e-1))||ct o e==ct o (e-1)))with
    |false=>
     have j:mP o e=v:=by simp only[mP,r];simp
     have z:e≠0:=M;have q:(aT (ct o e) (ct o (e-1))||ct o e==ct o (e-1))=l:=M;have i:a8 .i64 ((e:Int)-1):=cS;have d:((e:Int)-1).toNat=e-1:=u;refine be n6 [8,14,19,24,34] a O1 (g.aT (bY.zero a ?_));simp[zu h j]
    |true=>
     have j:mP o e=(az e).all λb=>!under (ct o e) (ct o b):=by simp only[mP,r,N,ak];simp
     apply g.cf [(0,bB.A o),(3,R e),(5,bB.A o),(6,R (c o)),(7,R e),(4,aI 0 0)] [.cells 91 [.c (.V (ct o e)),.c (.V (lu o e))]]
     .intro b2;by_cases z:e=0
      .refine be n6 [8,14,19,-24,906] a ?_ (b2 _ _ a ?_)
       .simp only[T,kt,tN,cZ,N,ak,bw,dp];grind
       simp
      have q:(aT (ct o e) (ct o (e-1))||ct o e==ct o (e-1))=v:=M;have i:a8 .i64 ((e:Int)-1):=cS;have d:((e:Int)-1).toNat=e-1:=u;refine be n6 [8,14,19,24,-34,906] a O1 (b2 _ _ a ?_);simp
     refine g.freeze 4 0 a a a ?_;have m:=YY (o:=o) (S:=ct o e) (e:=e) k;have x:bB.bM ((e:Int).toNat-0) (fs 0 (bB.fn o)):=bB.iV o;cases s:(az e).all λb=>!under (ct o e) (ct o b)with
     |false=>
      rw[s]at m j;refine be n6 [41] a ?_ (g.aT (bY.zero a ?_))
      .simp only[T,bU];grind
      simp[zu h j]
     |true=>
      rw[s]at m j;refine be n6 [-41] a ?_ (g.aw (e+1) a ?_ ?_ ?_ ?_)
      .simp only[T,bU];have y:decide (0<=mA (bB.ad ((e:Int).toNat-0) (fs 0 (bB.fn o))) (ct o e))=v:=M;exact⟨by exact cS,x,by grind,A,y,by omega,by omega⟩
      .simp
      .trivial
      .grind
      omega
 have:e=c o:=u;subst this;refine a_ n6 [-8] a C (g.az ?_);refine b_ n6 a A (g.aq a ?_);simp only[T,qN];grind
def ro:bK:=λargs d=>match args,d with
 |[e],[]=>match jT 2 e with
  |none=>n
  |some (a,b)=>f (bh (qN (bB.ad a b)),[],[bB.bM a b])
 |_,_=>n
def v3:bL p 42 ro:=by
 intro args j e g d a b;unfold ro at a;split at a
 .split at a
  .cases a
  rename_i k m h;cases a;exact(Jb _ ).args (λ_ y=>b4.imp (λ_=>bB.cA h b) (λ_ i=>i) y)
 grind
end R1
def b4.aj{k an}{b}(g:∀h(e:x),bv k b h e->bv an b h e):∀{y:m X}{d:m x},b4 k b y d->b4 an b y d
 |[],[],_=>trivial
 |[],_::_,a=>a.elim
 |_::_,[],a=>a.elim
 |_::_,_::_,a=>⟨g _ _ a.1,b4.aj g a.2⟩
def Z.eE{q:ah P}{r}{args a}{d}{res}(s:Z q r args k res an)(C:∀b y,b4 k b y a->b4 k b y args)(A:jo d k=f Y)(B:T Y):Z q r a d res an:=
 ⟨s.1,λb y o e t g m=>by obtain⟨i,j,D⟩:=jM A B b e;exact s.2 b y (C b y (o.aj D)) i t g λh E p u w x z=>m h E p u w x ((j.tooQ e).trans z)⟩
def aZ.dQ{i:ah P}{j}(s:dV (ι:=Unit) i E all q F k (λ_=>j) (λ_=>an)):aZ i E all q F k j an:=
 λw o r g p u b m t a e h d=>s w o r g p u b m t a e h λ_=>d
namespace R1
variable {p:ah V}
abbrev js(a:m (Int×Int)):ap:=.w 220 2 (c a) (a3.fn a)
abbrev mO(a:m (Int×Int)):x:=.n (.R (.w 0 2 (c a) (a3.fn a)))
def Kk(L:m (Int×Int))(a b d:ap)(e g h _:Bool):m ap:=match h with
 |true=>[d]
 |false=>match g with
  |true=>[b]
  |false=>match e with
   |true=>[a]
   |false=>[js L]
def Cb:∀q(d:m (Int×Int)),c d+c q.ad<=4000000->Z p 203 [ax (eM q),mO d] [js d] (mO (d++q.ad)) [js (d++q.ad)]
 |.nil,d,_=>by refine Z.I func203 rfl λE=>?_;refine aO a A (g.aK (rQ a underlying246 a a a) a a ?_);refine aO a A ?_;rw[show d++dG.nil.ad=d from hp d];exact g.aJ [0] a ⟨a,bs.same⟩ sV
 |.ax lt e h b,d,B=>by
  have I:(dG.ax lt e h b).ad=lt.ad++(e,h)::b.ad:=rfl;have O:c d+c lt.ad+(c b.ad+1)<=4000000:=M;have z:=Cb lt d u;have t:=Cb b (d++lt.ad++[(e,h)]) M;have N:=a3.aW (d++lt.ad) (e,h);have d9:Z p 203 [ax (eM b),.n (.R (.w 0 2 (c (d++lt.ad)+1) (cf (c (d++lt.ad)) (a3.fn (d++lt.ad)) λj=>([[.int .i64 e,.int .i64 h]]:m (m K)).getD j [])))] [.w 220 2 (c (d++lt.ad)+1) (cf (c (d++lt.ad)) (a3.fn (d++lt.ad)) λj=>([[.int .i64 e,.int .i64 h]]:m (m K)).getD j [])] (mO (d++(dG.ax lt e h b).ad)) [js (d++(dG.ax lt e h b).ad)]:=by
   rw[I,show d++(lt.ad++(e,h)::b.ad)=d++lt.ad++[(e,h)]++b.ad by simp];refine t.eE (λR y Q=>?_) a (T.Z.2 ⟨⟨by grind,N⟩,A⟩)
   match y,Q with
   |[_,_],⟨J,D,F⟩=>exact⟨J,pd rfl (show T [_,_]from⟨by grind,N⟩) D,F⟩
  have np:(c (d++lt.ad)+1)*o'.bytes<=140737488355328:=by rw[show o'.bytes=16 from a,df];omega
  clear t N O B;generalize d++(dG.ax lt e h b).ad=o at *;generalize d++lt.ad=k at *;have w:ba p []:=ba.nil;refine Z.I func203 rfl λE=>?_;refine aO a A (g.aK (tu a underlying246 a a a) a a ?_);refine a5 [903] a A ?_;let s:Nat->x:=λj=>([ax (eM (.ax lt e h b)),ax (eM (.ax lt e h b)),ax (.O [eM b]),ax (eM b),ax (eM (.ax lt e h b)),ax (eM (.ax lt e h b)),ax (.O [eM lt,eM b]),ax (eM lt),mO d,mO k,ax (eM (.ax lt e h b)),ax (eM (.ax lt e h b)),ax (eM (.ax lt e h b)),o3 e h,ax (.A l 2 1 λj=>([[.int .i64 e,.int .i64 h]]:m (m K)).getD j []),.n (.R (.w 0 2 (c k+1) (cf (c k) (a3.fn k) λj=>([[.int .i64 e,.int .i64 h]]:m (m K)).getD j []))),mO o,mO o]:m x).getD j .any
  cases lt<;>cases b<;>(
   refine g.b_ b5 s (mv (Kk d (js k) (.w 220 2 (c k+1) (cf (c k) (a3.fn k) λj=>([[.int .i64 e,.int .i64 h]]:m (m K)).getD j [])) (js o)) 9 15 16 17) a a a a ⟨
   .aN,
   .aN,
   .aN,
   .aN,
   .aN,
   .aN,
   .aN,
   .aN,
   .aN,
   cd.dW a a a a a a (aZ.dQ (dV.bH z.tocH [0] a a a a C a a a bk a bk)),
   .aN,
   .aN,
   .aN,
   .aN,
   .aN,
   cd.eT a a a a a a (ef (bf:=[]) bc w (an:=f _) a ⟨rfl,rfl,np⟩),
   cd.eU a a a a a a (aZ.dQ (dV.bH d9.tocH [0] a a a a C a a a bk a bk)),
   cd.eV a a a a a a (aZ.u),A⟩ ?_
   intro x i;show g p _ _ _ _ _ (Kk d (js k) _ (js o) (x 9) (x 15) (x 16) (x 17));rw[i 9 ca,i 15 ca,i 16 ca,i 17 ca]
   exact g.aJ [0] a ⟨a,bs.same⟩ sV)
abbrev KF:x:=ax (.A l 2 0 λ_=>[])
def Kj(a b d:ap)(e g h _:Bool):m ap:=match h with
 |true=>[d]
 |false=>match g with
  |true=>[b]
  |false=>match e with
   |true=>[a]
   |false=>[]
def IM:∀(o:dG),c o.ad<=4000000->Z p 203 [ax (eM o),KF] [] (mO o.ad) [js o.ad]
 |.nil,_=>by refine Z.I func203 rfl λE=>?_;refine aO a A (g.aK (rQ a underlying246 a a a) a a ?_);refine aO a A (g.bB 4 220 2 a a ?_);refine g.a_ [js []] a C ?_;exact g.aJ [0] a nN (CB _)
 |.ax lt d e b,z=>by
  have s:(dG.ax lt d e b).ad=lt.ad++(d,e)::b.ad:=rfl;have J:c lt.ad+(c b.ad+1)<=4000000:=M;have B:=IM lt u;have t:=Cb (p:=p) b (lt.ad++[(d,e)]) M;have N:=a3.aW lt.ad (d,e);have d9:Z p 203 [ax (eM b),.n (.R (.w 0 2 (c lt.ad+1) (cf (c lt.ad) (a3.fn lt.ad) λh=>([[.int .i64 d,.int .i64 e]]:m (m K)).getD h [])))] [.w 220 2 (c lt.ad+1) (cf (c lt.ad) (a3.fn lt.ad) λh=>([[.int .i64 d,.int .i64 e]]:m (m K)).getD h [])] (mO (dG.ax lt d e b).ad) [js (dG.ax lt d e b).ad]:=by
   rw[s,show lt.ad++(d,e)::b.ad=lt.ad++[(d,e)]++b.ad by simp];refine t.eE (λQ y O=>?_) a (T.Z.2 ⟨⟨by simp,N⟩,A⟩)
   match y,O with
   |[_,_],⟨I,D,F⟩=>exact⟨I,pd rfl (show T [_,_]from⟨by simp,N⟩) D,F⟩
  have np:(c lt.ad+1)*o'.bytes<=140737488355328:=by rw[show o'.bytes=16 from a];omega
  clear t N J z;clear s;generalize(dG.ax lt d e b).ad=k at *;generalize lt.ad=j at *;have w:ba p []:=ba.nil;refine Z.I func203 rfl λE=>?_;refine aO a A (g.aK (tu a underlying246 a a a) a a ?_);refine a5 [903] a A ?_;let q:Nat->x:=λh=>([ax (eM (.ax lt d e b)),ax (eM (.ax lt d e b)),ax (.O [eM b]),ax (eM b),ax (eM (.ax lt d e b)),ax (eM (.ax lt d e b)),ax (.O [eM lt,eM b]),ax (eM lt),KF,mO j,ax (eM (.ax lt d e b)),ax (eM (.ax lt d e b)),ax (eM (.ax lt d e b)),o3 d e,ax (.A l 2 1 λh=>([[.int .i64 d,.int .i64 e]]:m (m K)).getD h []),.n (.R (.w 0 2 (c j+1) (cf (c j) (a3.fn j) λh=>([[.int .i64 d,.int .i64 e]]:m (m K)).getD h []))),mO k,mO k]:m x).getD h .any
  cases lt<;>cases b<;>(
   refine g.b_ b5 q (mv (Kj (js j) (.w 220 2 (c j+1) (cf (c j) (a3.fn j) λh=>([[.int .i64 d,.int .i64 e]]:m (m K)).getD h [])) (js k)) 9 15 16 17) a a a a ⟨
   .aN,
   .aN,
   .aN,
   .aN,
   .aN,
   .aN,
   .aN,
   .aN,
   .aN,
   cd.dW a a a a a a (aZ.dQ (dV.bH B.tocH [] a a a a C a a a bk a bk)),
   .aN,
   .aN,
   .aN,
   .aN,
   .aN,
   cd.eT a a a a a a (ef (bf:=[]) bc w (an:=f _) a ⟨rfl,rfl,np⟩),
   cd.eU a a a a a a (aZ.dQ (dV.bH d9.tocH [0] a a a a C a a a bk a bk)),
   cd.eV a a a a a a (aZ.u),A⟩ ?_
   intro x i;show g p _ _ _ _ _ (Kj (js j) _ (js k) (x 9) (x 15) (x 16) (x 17));rw[i 9 ca,i 15 ca,i 16 ca,i 17 ca]
   exact g.aJ [0] a ⟨a,bs.same⟩ (CB _))
end R1
section
open Go.Conc
def bb.gN(j:bb k b){bT}{L}(aH:k[d]?=f bT)(B:b.s[d]?=f L)(z:(∃W ag,bT=.cells W ag)∨∃H,bT=.J H):
  bb (k.set d .M) {b with s:=b.s.set d ⟨L.v,[]⟩}/\cN k b (k.set d .M) {b with s:=b.s.set d ⟨L.v,[]⟩}:=by
 have C:d<c k:=(cO.1 aH).1;have K:d<c b.s:=(cO.1 B).1;have A:∀m,(b.s.set d ⟨L.v,[]⟩)[m]?=if d=m then f ⟨L.v,[]⟩else b.s[m]?:=M;have y:∀g∈b.s.set d ⟨L.v,[]⟩,∀o∈g.aj,g∈b.s:=M;have u:cN k b (k.set d .M) {b with s:=b.s.set d ⟨L.v,[]⟩}:=by
  refine⟨bA _,λ_ _ _=>rfl,λ_ _ _ E=>E,λ_ _ _ _=>rfl,λg e o i=>.inr ⟨g,y g e o i,i⟩,?_,a,a,a,a⟩;intro m q g h e;by_cases t:d=m
  .subst t;rw[aH]at h;cases h;rw[B]at e;cases e;refine⟨.M,⟨L.v,[]⟩,by grind,by grind,?_⟩;rcases z with⟨W,ag,rfl⟩|⟨H,rfl⟩<;>rfl
  exact⟨q,g,by grind,by grind,.refl _ _⟩
 refine⟨⟨j.mem,by simp[j.len],?_,?_,λg e o i=>j.lt g (y g e o i) o i,λo i=>⟨(j.own o i).1,λg e p=>(j.own o i).2 g (y g e o p) p⟩⟩,u⟩
 .intro m q g h e;by_cases t:d=m
  .subst t;rw[iq C]at h;cases h;trivial
  rw[j9 t]at h;rw[A,bm t]at e;exact(j.box m q g h e).b8 u.ext j.len λo i=>⟨a,λN=>rfl⟩
 intro I J w x r s o D F;rw[A]at r s;split at r
 .grind
 split at s
 .grind
 exact j.a0 I J w x r s o D F
def bv.eY(g:aB.C=b.C){a}(i:bv k b aa a)(h:hQ 0 a=l):bv an aB aa a:=by have d:=bv.drop (aQ:=[]) (bq:=k) i h;refine bv.mono (k:=[]) (b:=b.cut 0) ⟨λm p aa e=>by rw[g];exact e,λo j L aH _=>by grind⟩ (by simp[a6.cut]) d
end
section
open Go.ChangeShapes Go.WideShapes Go.ChangeAt Go.RowKit
def Hv{b:ar}{a:Addr}(g:b.cell? (a.add j)=f aa):b.cell? ⟨a.block,a.off+j,n⟩=f aa/\(j=0->a=⟨a.block,a.off,n⟩):=by obtain⟨e,h,d⟩:=a;cases d<;>simp only[Addr.add,aJ]at*<;>grind
section
variable {H:Type}{g3:al×X->H}{o bx:Nat}{oQ:ar}
def aaW(E:P.underlying o=f (.slice bx))(D:P.underlying bx=f (.int .u8))(F:P.cellsOf bx=1){i:Option Addr}{d:Nat}{s:DataW H}{x:m MemPlace}(t:DataW.Trod g3 P oQ 0 (λ_=>l) l o (.slice i z d) s x):
  ∃k:Nat->Int,R1.Bytes k/\z<=9223372036854775807/\bv [] (a6.bw oQ) (.slice i z d) (ax (.A v 1 z (R1.p9 k))):=by
 obtain⟨J,C⟩:=t;rcases open_ints E D F C with⟨g,_⟩|⟨K,j,r,B,g,_,aa,A,O,_,q,y⟩<;>simp[Value.cells]at g<;>obtain⟨rfl,rfl,rfl⟩:=g
 .exact⟨λ_=>0,λ_=>by simp,by omega,Rd.dJ⟩
 simp only[dA,maxLen]at O A;have p:∀b,0<=B.getD b 0/\B.getD b 0<=255:=λb=>by
  by_cases e:b<c B
  .have:=y _ (wT e);simp[Lit.wf,IntKind.min,IntKind.max,IntKind.signed,IntKind.bits]at this;grind
  grind
 refine⟨λb=>B.getD b 0,p,by omega,Rd.hQ aa u (λI=>eD f ((Hv (q 0 u)).2 a)) (λ_ _=>rfl) λb e w r h=>?_⟩
 match w,h with
 |0,h=>
  cases h;exact⟨_,by simpa[a6.bw]using(Hv (q b u)).1,Rd.int (p b)⟩
abbrev GI(a:Nat×(Nat->Int)):x:=ax (.A v 1 a.1 (R1.p9 a.2))
def FL(a:Nat×(Nat->Int)):Prop:=R1.Bytes a.2/\a.1<=9223372036854775807
def LJ{d:m ud}(C:∀g∈d,oQ.heap[g.1]?=f (.cells #[g.2.2] g.2.1 (0,0)))(k:∀g∈d,∃T bx,g.2.2=.iface T bx)(q:laidOutB P=l)(I:P.readableRec o=l)(J:o<P.types.size)(B:P.underlying o=f (.slice bx))(F:P.underlying bx=f (.int .u8))(M:P.cellsOf bx=1){V:Reach}{base:Nat}:∀{i:Nat}{y:m X}{b:m (DataW H)}{r:m MemPlace},
  DataW.TrodAll g3 P oQ 0 (λ_=>l) l (aW i o) y b r->(∀h j,h<i->y[h]?=f j->Value.okWide P oQ V base o j) ->
  ∃p:m (Nat×(Nat->Int)),(c p=i/\c b=i)/\(∀g∈p,FL g)/\b4 (my d) (a6.cR d oQ) y (p.map GI)/\∀s,Below oQ.heap.size oQ s->DataW.TrodAll g3 P s 0 (λt=>decide (t<oQ.heap.size)) l (aW i o) y b r
 |0,y,b,r,e,_=>by obtain⟨rfl,rfl,rfl⟩:=trodAll_nil e;exact⟨[],⟨a,a⟩,by simp,A,λ_ _=>rfl⟩
 |i+1,y,b,r,e,E=>by
  obtain⟨j,y,aa,b,r,ae,rfl,rfl,rfl,⟨w,z⟩,R⟩:=trodAll_cons e;obtain⟨Y,U,D,rfl⟩:=okWide_slice B (E 0 j u rfl);obtain⟨t,N,K,S⟩:=aaW B F M ⟨w,z⟩;obtain⟨p,k1,x,Q,G⟩:=LJ C k q I J B F M R λh j W e=>E (h+1) j u e;refine⟨(U,t)::p,by simp[k1],by simp only[List.forall_mem_cons];exact⟨⟨N,K⟩,x⟩,⟨Rd.cR C k (λab h Z e=>?_) S,Q⟩,λs O=>trodAll_cons_mk (Below.trod q I J ⟨w,z⟩ O (DataW.trod_lt w _ _ _ z)) (G s O)⟩
  match h,e with
  |0,e=>cases e;exact⟨_,_,a⟩
end
noncomputable def J7(P:aE)(d:m (String×DataW Unit))(b h g:Nat)(os:Os):ar:=
 let cb:=World.laidAll P os (d.filter λi=>i.2.handleName?.isNone)
 {cb with heap:=cb.heap.modify b λ
   |.cells _ a j=>.cells #[.iface h (.agg #[typeHandle P g])] a j
   |e=>e}
def J9{K:Checked}{I ob gP hv iC r4 r3:Nat}(ak:∀(y w:al×X) (Q:m (Nat×(Nat->Int))),c Q=j->(∀g∈Q,FL g)->Z (ah.aF K.prog) I (Q.map GI) (my [(ob,iC,.iface y.1 y.2),(gP,iC,.iface w.1 w.2),(hv,r4,.iface r3 (.agg #[typeHandle K.prog iC]))]) (bh l) (my [(ob,iC,.iface y.1 y.2),(gP,iC,.iface w.1 w.2),(hv,r4,.iface r3 (.agg #[typeHandle K.prog iC]))])){fn:Func}{D T Y:Nat}{b:ChangeSpec}{r:OpenClaim}{os:Os}(ba:os.Started){H:Type}{g3:al×X->H}(L:K.prog.funcs[I]?=f fn)(aV:fn.params=(aW j D).toArray)(aG:fn.resultTypes=#[Y])(an:ownKnob K.prog.godebug=n)(R:laidOutB K.prog=l)(aH:K.prog.readableRec D=l)(aJ:D<K.prog.types.size)(ao:K.prog.underlying D=f (.slice T))(aq:K.prog.underlying T=f (.int .u8))(au:K.prog.cellsOf T=1)(aC:K.prog.underlying Y=f .bool)(aE:K.prog.inits.idxOf? I=n)(aK:varsRowed K.prog b.vars=l)(aI:∃aZ a0,b.vars=[aZ,a0])(a6:∀(F:m (DataW H)) (i h:DataW H),c F=j->b.fn H (F++[i,h])={results:=[.lit (.bool l)],args:=F,vars:=[i,h]})(wa:∃(e:ar) (tape:Tape) (u:Input),e.os=os/\(e.forCall tape u).Shaped K.prog/\u.vars=[]/\Input.okWide K.prog (e.forCall tape u) .any e.heap.size I u /\
   ((b.pre g3 K.prog fn r.domain v (e.forCall tape u).memory u.args/\laidMetH K.prog r.laid (e.forCall tape u).memory)/\sizedMet g3 K.prog fn (OpenSpec.ofChange b) v (e.forCall tape u).memory u.args)/\({}:Assume).holds K.prog (lone (Frame.enter K.prog I u.args .normal) [] (e.forCall tape u))){CX CY CW:Nat}{aL lm S aP aQ:String}{ai xM z:DataW Unit}{aR:Array (String×al)}{aY:m UInt8}(aA:(r.laid.filter λg=>g.2.handleName?.isNone)[CX]?=f (aL,.iface aP ai))(aB:(r.laid.filter λg=>g.2.handleName?.isNone)[CY]?=f (lm,.iface aQ xM))(ax:(r.laid.filter λg=>g.2.handleName?.isSome)[CW]?=f (S,z))(U:[aL,lm,S].map K.prog.globalNamed=[f ob,f gP,f hv])(aa:[ob,gP].map (λW=>(K.prog.globals[W]?).map (·.type))=[f iC,f iC])(aT:K.prog.underlying iC=f (.interface aR))(E:[ob,gP,hv].map (λW=>(decide (W<K.prog.globals.size),((begin K.prog (λ_ _=>0) default).world.heap[W]?).bind Obj.row?))=[(l,f (#[.nilIface],iC)),(l,f (#[.nilIface],iC)),(l,f (#[.nilIface],r4))])(ae:z.funcsIn?=n)(af:z.handleName?=f aY)(ag:(K.prog.cutTypes.find? (·.1== "internal/reflectlite.rtype")).map (·.2)=f r3)(a:((az K.prog.types.size).filter λD=>K.prog.rowNamed D aY)=[iC])(a9:[ob,gP,hv].Nodup):
  ReturnsInLeavingWide {} K os I .any (λe args=>(b.pre g3 K.prog fn r.domain v e args/\laidMetH K.prog r.laid e)/\sizedMet g3 K.prog fn (OpenSpec.ofChange b) v e args) (b.post g3 K.prog fn v l v v):=by
 refine aaY (p:=λe _=>laidMetH K.prog r.laid e) (λ_ _ _ aD s=>s.of_heap aD) an ba L wa λV base args k M J t N o A=>?_;have a5:=N;obtain⟨a1,a2,aU,ab,rfl,_,_⟩:=N;simp only[me,List.map_nil,List.cons.injEq,a7,lE,bw]at U aa E;obtain⟨y,a3⟩:=J8 A o (b8 aA) U.1 aa.1 aT E.1.1 E.1.2;obtain⟨w,x⟩:=J8 A o (b8 aB) U.2.1 aa.2 aT E.2.1.1 E.2.1.2;have P:∀g∈([(ob,iC,.iface y.1 y.2),(gP,iC,.iface w.1 w.2),(hv,r4,.iface r3 (.agg #[typeHandle K.prog iC]))]:m ud),V.heap[g.1]?=f (.cells #[g.2.2] g.2.1 (0,0)):=by simp only[List.forall_mem_cons];exact⟨a3,x,Y' A o (b8 ax) ae af U.2.2 ag a E.2.2.1 E.2.2.2,by simp⟩
 have a4:∀g∈([(ob,iC,.iface y.1 y.2),(gP,iC,.iface w.1 w.2),(hv,r4,.iface r3 (.agg #[typeHandle K.prog iC]))]:m ud),∃a8 T,g.2.2=.iface a8 T:=C;simp only[aV]at aU t;obtain⟨Q,k1,aM,aN,aO⟩:=LJ P a4 R aH aJ ao aq au aU λa' aS aF s=>t a' D aS (by simp[aF]) wz;refine bl.ja (ak y w Q k1.1 aM).tocH aE a9 P aN λ_ aS B q d F=>?_;have q:Rd B.C aS (.bool l):=q;cases q;have O:Below V.heap.size V (B.a.at F):=⟨d.os,d.tape,d.output,d.size,d.block⟩;obtain⟨aZ,a0,a_⟩:=aI;obtain⟨i,h,rfl⟩:∃i h,M=[i,h]:=by
  rw[a_]at ab
  match M,ab with
  |[i,h],_=>exact⟨i,h,rfl⟩
 have G:=a6 k i h k1.2;have av:=aO _ O;have aw:DataW.TrodAll g3 K.prog (B.a.at F) V.heap.size (λ_=>v) v [Y] [.bool l] [.lit (.bool l)] []:=trodAll_mk1 (shut_bool aC _);refine⟨k,[i,h],a1++a2,[],a1,a2,a5,?_,?_,?_,O.frame _,λs=>by cases s⟩
 .rw[show(b.fn H (k++[i,h])).results=_ from eD _ G,aG];exact aw
 .rw[show(b.fn H (k++[i,h])).args=_ from eD _ G,aV];exact av
 rw[show(b.fn H (k++[i,h])).vars=_ from eD _ G];exact Below.trodVars R O aK ab
end
namespace R1
section
variable {p:ah V}
def k7(a:bC):m bC:=if fK a then ck a else[]
def Nb(b:bC)(d:Nat)(a:m bC):Prop:=∃e,iB b (c b) 0=a++iB b e d/\c b<=d+e/\c a<=d
def MT:bL p 76 (dk eE (λa=>bh (fK a)) λ_=>[]):=.a7 λa _=>I' a
def GS:bK:=λargs a=>match args,a with
 |[.n (.R (.c (.V b)))],[]=>f (ax (GR b),[],[])
 |_,_=>n
def acB:bL p 244 GS:=by intro args h b d a e g;unfold GS at e;grind[Uq]
def Un(o):Z p 198 [b1 o] [] (bS.A (k7 o)) []:=by
 refine(bl.e5 (ι:=Unit) (an:=λ_=>[]) (res:=λ_=>bS.A (k7 o)) func198 rfl rfl rfl λO=>?_).toZ;have q:ba p [(76,dk eE (λJ=>bh (fK J)) λ_=>[])]:=.cons MT .nil;refine dd.seq (b0.bw (g.aR ?_));refine b_ q a A (dd.seq (b0.bw (g.aR ?_)));cases N:fK o with
 |false=>
  refine a_ q [8] a pI (g.ret ⟨(),bY.zero a ?_⟩);simp[k7,N]
 |true=>
  have y:=N;simp[fK,cn,bw]at y;refine a_ q [-8] a pI (dd.seq (b0.bw (g.aR ?_)));refine b_ q a A (dd.seq (dd.seq (b0.bw (g.aR (g.ck 1 0 9 1 (bS.fn []) a a ?_)))));refine b_ (.cons acB .nil) a A (dd.block ?_);refine dd.rangeFunc (o0:=e' [.O [.V o]]) (bX.callee a) (Ur (ac:=m bC) o y.2 u (λ_=>.cells 9 [.c (.V o)]) (λb=>.cells 93 [.w 2 1 (c b) (bS.fn b)]) (λb=>.w 9 1 (c b) (bS.fn b)) (Nb o) [] ?_ (λo=>⟨by simp,by simp,by simp⟩) ?_) (λj=>⟨a,by simp⟩) λj=>⟨.normal,a,?_⟩
  .exact⟨c o,by simp,by omega,by simp⟩
  .rintro d b s i;have z:=rz o d s;refine iF.intro (t:=n) a a a a (g.aR ?_);refine aO a A ⟨a,a,g.aR ?_⟩;refine aO a ?_ ?_
   .obtain⟨h,_,_,D⟩:=i;have M:=z.1;have w:=z.2.1;refine⟨a,a,?_,Int.natCast_nonneg _,Int.ofNat_le.2 (Nat.le_of_lt M),Int.ofNat_le.2 w⟩;show(c b+1)*16<=_;omega
   have F:Nb o (en o d) (b++[(o.drop d).take (en o d-d)]):=by
    obtain⟨h,k,I,D⟩:=i;obtain⟨e,rfl⟩:∃e,h=e+1:=⟨h-1,by omega⟩
    refine⟨e,?_,by omega,by grind⟩;rw[k];simp[iB];grind
   refine⟨a,a,⟨_,F⟩,jM a ?_⟩;have r:mo o (f (d:Int)) (f (en o d:Int))=(o.drop d).take (en o d-d):=N5;have B:bs (c b+1) (cf (c b) (bS.fn b) λj=>[[K.V (mo o (f (d:Int)) (f (en o d:Int)))]].getD j []) (bS.fn (b++[(o.drop d).take (en o d-d)])):=by rw[r];exact c1.aW bS b _
   have x:c b+1=c (b++[(o.drop d).take (en o d-d)]):=C;refine T.Z.2 ⟨by simp,T.Z.2 ⟨T.Z.2 ⟨⟨x,B⟩,A⟩,T.Z.2 ⟨⟨x,B⟩,T.Z.2 ⟨a,A⟩⟩⟩⟩
  obtain⟨b,h,k,I,D⟩:=j;have E:iB o h (c o)=[]:=by cases h<;>simp[iB]
  rw[E,hp]at k;have r:k7 o=b:=by simp[k7,N,dA,ck,k]
  rw[r];show dd p _ _ _ _ _;refine b0.bw (g.aR ?_);refine aO a A (g.ret ⟨(),bY.zero a ?_⟩);simp
def Eo:bL p 198 (dk eE (λa=>bS.A (k7 a)) λ_=>[]):=.a7 λa _=>Un a
def acN:bL p 236 (er (e7 bS) eE (λa _=>b1 a.flatten) λa d=>[d=[],c a.flatten<=140737488355328]):=.bh λa d b=>by obtain⟨rfl,b⟩:=b;exact Vz a b
def xo:bK:=er (e7 bS) (e7 bS) (λa b=>bh (a==b)) λ_ _=>[]
def acD:bL p 237 xo:=.bh λa b _=>UE a b
def Up(d)(s:c d.flatten<=140737488355328):Z p 190 [bS.A d] [] (iS (iQ d)) []:=by
 refine Z.I func190 rfl λh=>?_;have e:ba p [(236,er (e7 bS) eE (λd _=>b1 d.flatten) λd b=>[b=[],c d.flatten<=140737488355328]),(76,dk eE (λb=>bh (fK b)) λ_=>[]),(237,xo),(198,dk eE (λb=>bS.A (k7 b)) λ_=>[])]:=.cons acN (.cons MT (.cons acD (.cons Eo .nil)));have B5:bS.ad (c d) (bS.fn d)=d:=bS.l d;cases w:fK d.flatten with
 |false=>
  refine a_ e [-8,9,16] a ?_ (g.aq a ?_)
  .simp only[T,B5,w,bS.T,eq_self,a',a7];grind
  simp[iQ,w]
 |true=>
  cases i:(ck d.flatten==d)with
  |false=>
   refine a_ e [8,-9,-14,16] a OE (g.aq a ?_);simp[iQ,i]
  |true=>
   refine a_ e [8,-9,14,-16] a OE (g.aq a ?_);simp[iQ,w,i,B5]
def JB{a:m (Int×Int)}(b:e<c a):a.getD e (0,0)∈a:=M
def i6(b:m (Int×Int)):dG:=b.foldl (λd a=>d.put a.1 a.2) .nil
theorem adu(b:m (Int×Int))(a:Int×Int):i6 (b++[a])=(i6 b).put a.1 a.2:=by unfold i6;grind
def zt{d:m (Int×Int)}(a:t<c d):i6 (d.take (t+1))=(i6 (d.take t)).put (d.getD t (0,0)).1 (d.getD t (0,0)).2:=by grind[List.take_add_one,adu]
abbrev qw(a:m (Int×Int)):x:=ax (.A v 1 1 λb=>([[.A v 2 (c a) (a3.fn a)]]:m (m K)).getD b [])
abbrev Ea(a:Int×Int):ap:=.cells 220 [.c (.int .i64 a.1),.c (.int .i64 a.2)]
def Jy(a:m (Int×Int)):Nat->bJ
 |0=>[(3,ax .bp),(8,qw a),(9,R 1),(10,R 0),(14,a3.A a),(15,R (c a)),(16,R 0)]
 |b+1=>[(3,.n (.R (.aV 1))),(8,qw a),(9,R 1),(10,R 0),(14,a3.A a),(15,R (c a)),(16,R (b+1:Nat))]
def abR(a:m (Int×Int)):Nat->m ap
 |0=>[]
 |b+1=>[Ea (a.getD 0 (0,0)),.J (ez mE (i6 (a.take (b+1))))]
def Yx(a:m (Int×Int)):Nat->bJ
 |0=>[(3,ax .bp),(8,qw a),(9,R 1),(10,R 0)]
 |b+1=>match a with
  |[]=>[(3,ax .bp),(8,qw a),(9,R 1),(10,R (b+1:Nat))]
  |_::_=>[(3,.n (.R (.aV 1))),(8,qw a),(9,R 1),(10,R (b+1:Nat))]
def abS(b:m (Int×Int)):Nat->m ap
 |0=>[]
 |_+1=>match b with
  |[]=>[]
  |a::d=>[Ea a,.J (ez mE (i6 (a::d)))]
def Ja(d:m (Int×Int))(K:c d<=4000000)(D:∀b∈d,a8 .i64 b.1/\a8 .i64 b.2):Z p 197 [qw d] [] (ax (eM (i6 d))) []:=by
 refine Z.I func197 rfl λI=>?_;refine aO a A (g.hr 0 (λb=>b<=1) (Yx d) (abS d) (λb=>1-b) 0 a C a A a u ?_);intro b k;rcases b with _|b
 .refine a5 [11] a C (g.hr 0 (λt=>t<=c d) (Jy d) (abR d) (λt=>c d-t) 0 a C a A a u ?_);intro t J;rcases t with _|t
  .by_cases j:0<c d
   .have k:=D _ (JB j);have h:=zt j;have i:ba p [(243,k3 [ax .bp,o3 (d.getD 0 (0,0)).1 (d.getD 0 (0,0)).2] [] (.n (.R (.aV 0))) [.J (ez mE (.ax .nil (d.getD 0 (0,0)).1 (d.getD 0 (0,0)).2 .nil))])]:=.cons (l5 (x3 _ _ k.1 k.2 .nil)) .nil;refine be i [17] a Qw (g.ft 2 1 u a C a a a ?_ a j M);exact bG
   obtain rfl:d=[]:=jB u;refine bR [-17] a C (g.fG a a ?_);refine cy a lx (g.ft 0 1 u a ?_ a a a A a u ca);simp
  obtain⟨e,q,s,r,h⟩:∃x y z B,i6 (d.take (t+1))=.ax x y z B:=by rw[zt u];exact y0 _ _ _
  show g p _ _ _ _ (Jy d (t+1)) [Ea (d.getD 0 (0,0)),.J (ez mE (i6 (d.take (t+1))))];by_cases j:t+1<c d
  .have k:=D _ (JB j);have E:=zt j;rw[h]at E⊢;have i:ba p [(243,k3 [.n (.R (.aV 0)),o3 (d.getD (t+1) (0,0)).1 (d.getD (t+1) (0,0)).2] [.J (ez mE (.ax e q s r))] (.n (.R (.aV 0))) [.J (ez mE ((dG.ax e q s r).put (d.getD (t+1) (0,0)).1 (d.getD (t+1) (0,0)).2))])]:=.cons (l5 (x3 _ _ k.1 k.2 (.ax e q s r))) .nil;refine be i [17] a Qw (g.ft 2 (t+2) u a C a a a ?_ a j M);simp only[T.Z,T,a',a7];rw[E]
  have o:t+1=c d:=u;rw[o,cY]at h
  match d,o,h with
  |b::w,o,h=>
   rw[o,cY,h];refine bR [-17] a C (g.fG a a ?_);refine cy a lx (g.ft 2 1 u a C a a a ?_ a u ca);exact bG
 cases d with
 |nil=>
  refine bR [-11] a bu (g.fG a a ?_);exact cy a A (g.aq a nN)
 |cons F w=>
  refine bR [-11] a bu (g.fG a a ?_);refine cy a A (g.gp 2 1 a a ?_);obtain⟨e,q,s,r,h⟩:∃x y z B,i6 (F::w)=.ax x y z B:=by have:=zt (d:=F::w) (t:=c w) C;rw[FZ C]at this;rw[this];exact y0 _ _ _
  rw[h];exact g.aq a
end
section
open Go.Proofs Go.Conc Go.Conc.Lib
open Go.ConcN (WgLive PayAt Has RW AtR0)
open Go.ConcR (KK WgAt stA smA rd wr mk Payload DC0)
noncomputable def SF:Code:=ni (g5 (g5 (g5 rp)))
noncomputable def Hi:Code:=ni SF
noncomputable def Bb:Code:=g5 (g5 (g5 rp))
def SC:Bb=.seq (.seq Hi (.block 0 (.loop hD))) lI:=bF
section
variable {dK:m ap}{cG:a6}{F:bJ}{k:m ap}{w:Act}{b:a6}{br:ai->a6->Prop}
def dU.goes{bn}{d:ai}:∀(o:Nat)(a:ai)b,dU dK cG F k w b->WgLive 294 bn b.a->Goes V l (fE 294 bn) DC0 (λa _=>a=d) o a b.a ->
  (∀g,dU dK cG F k w g->ce (ah.aF V) br d g)->ce (ah.aF V) br a b
 |0,a,b,r,_,h,p=>by obtain rfl:a=d:=h b.a (.refl _);grind
 |o+1,a,b,r,u,h,p=>by
  rcases h with h|⟨x,h⟩
  .obtain rfl:a=d:=h b.a (.refl _);grind
  refine .next x λg q=>?_;have j:=r.rely q.1;obtain⟨A,B⟩:=q.2;have s:WgLive 294 bn g.a:=bG;have e:=h g.a (λ_=>s);cases m:aq V l a g.a with
  |go i z t=>
   rw[m,goes_go]at e;obtain⟨⟨rfl,rfl⟩,y⟩:=e;exact⟨i,g,#[],m,.aS j.a9,dU.goes o i g j s y p⟩
  |_=>rw[m]at e;exact e.elim
def R8{k}{b}(g:∀e∈k,e=.M){bf}{a}(d:ja k b bf a):bf=[]:=by
 cases bf with
 |nil=>rfl
 |cons h bf=>
  cases a with
  |nil=>exact d.elim
  |cons i a=>
   have:=g _ (b8 d.1.1);cases this
end
section
variable {h:Int}{Y:m b'}{bt:m Int}{K:Nat}{af:m X}
variable (h Y bt K)in
def yV:bJ:=[(2,aA.A bt),(3,aI 0 0),(4,aI 1 0),(8,aI 3 0),(9,aI 4 0)]
variable (h Y bt K af)in
def pu:m ap:=[.cells 3 [.c (.int .i64 h)],.cells 26 [.c (.A v 2 (c Y) (a2.fn Y))],.J (cq 296 2 (.row K (c bt)) (c bt) af),.cells 286 [.c (.val (.slice (f ⟨K,0,n⟩) (c bt) (c bt)))],.cells 294 [.c (.int .u64 0),.c (.int .u32 0)]]
variable (h Y bt)in
def EE(a b:Nat):X:=if b=0 then .string ⟨((dg h Y (bt.getD a 0)).getD []).toArray⟩else .bool (dg h Y (bt.getD a 0)).isSome
variable (h Y bt)in
def m':m X:=bt.flatMap λa=>[.string ⟨((dg h Y a).getD []).toArray⟩,.bool (dg h Y a).isSome]
variable (h Y bt K)in
def rW:m ap:=[.M,.M,.J (cq 296 2 (.row K (c bt)) (c bt) (m' h Y bt)),.M,.M]
def Z7{b:ah V}:b0 b 45 Hi (ug ((18,aA.A bt)::(19,R (c bt))::(20,R 0)::yV bt) (pu h Y bt K af)) (yV bt) (pu h Y bt K af):=by refine g.aR ?_;refine aO a A ⟨a,eH a ?_,a⟩;simp
theorem Js:c (m' h Y bt)=c bt*2:=by
 unfold m';induction bt with
 |nil=>rfl
 |cons b d a=>grind
def CE:∀{bt:m Int}{D e:Nat},D<c bt->e<2->(m' h Y bt)[2*D+e]?=f (EE h Y bt D e)
 |[],D,e,g,_=>by grind
 |b::d,0,e,_,a=>by
  match e,a with
  |0,_=>rfl
  |1,_=>rfl
 |b::d,D+1,e,g,a=>by have:=CE (bt:=d) (D:=D) (e:=e) M a;unfold m' at this⊢;rw[sq,ho M];rw[show 2*(D+1)+e - [Value.string ⟨((dg h Y b).getD []).toArray⟩,Value.bool (dg h Y b).isSome].length=2*D+e by grind];exact bG
def _root_.Go.AM.bX.seen{e a:Nat}{g}{k}{b}{F}{w}(d:bX e k b F w)(j:bv k b (w.tmps.getD a I) g):bX e k b ((a,g)::F) w:=by
 refine⟨d.size,d.defers,λh=>?_⟩;simp only[look];cases i:ad a h with
 |false=>exact d.ak h
 |true=>grind[Nat.eq_of_beq_eq_true]
abbrev vF(a b:Nat):bJ:=[(8,ax (.O [.val (.slice (f ⟨b,0,n⟩) a a)]))]
variable (h Y bt K)in
abbrev K9:bJ:=(8,ax (.O [.val (.slice (f ⟨K,0,n⟩) (c bt) (c bt))]))::(4,ax (.O [.A v 2 (c Y) (a2.fn Y)]))::(3,ax (.O [.int .i64 h]))::(18,aA.A bt)::(19,R (c bt))::(20,R 0)::[(9,aI 4 0)]
def Yu(bn:bL (ah.c8 V) 234 (m9 h)){aL:fw}(cg:c bt<=4000000)(aq:dd (ah.aF V) 45 n4 aL (vF (c bt) K) (rW h Y bt K)):dd (ah.aF V) 45 Bb aL (yV bt) (pu h Y bt K af):=by
 intro Z b2 cc bq bN av ag cN aM X b';have i:dU (pu h Y bt K af) Z (yV bt) (pu h Y bt K af) b2 Z:=⟨cc,bq,.refl _ _⟩;refine i.ctl a (λbP=>zb SC) λb i=>?_
 refine i.ctl a (λbP=>pt) λb i=>?_;refine i.code aM Z7 λa5 b i=>?_;obtain⟨bH,w1,a',a0,aa⟩:=bX.freeze 3 0 (W:=3) (ag:=[.c (.int .i64 h)]) (gN:=[.int .i64 h]) rfl rfl rfl i.bT i.a9;refine .aP (.of i.a9 a0 w1 (aa.tooQ i.a9)) ?_;obtain⟨bJ,w2,ba,O,ab⟩:=bX.freeze 4 1 (W:=26) (ag:=[.c (.A v 2 (c Y) (a2.fn Y))]) (gN:=[.A v 2 (c Y) (a2.fn Y)]) rfl rfl rfl a' a0;refine .aP (.of a0 O w2 (ab.tooQ a0)) ?_;obtain⟨cr,w3,f3,S,ae⟩:=bX.freeze 8 3 (W:=286) (ag:=[.c (.val (.slice (f ⟨K,0,n⟩) (c bt) (c bt)))]) (gN:=[.val (.slice (f ⟨K,0,n⟩) (c bt) (c bt))]) rfl rfl rfl ba O;refine .aP (.of O S w3 (ae.tooQ O)) ?_;have i:dU (pu h Y bt K af) Z (K9 h Y bt K)
   [.M,.M,.J (cq 296 2 (.row K (c bt)) (c bt) af),.M,.cells 294 [.c (.int .u64 0),.c (.int .u32 0)]] a5 cr:=
  ⟨f3.le (eH a C),S,i.a5.trans ((aa.tooQ i.a9).trans ((ab.tooQ a0).trans (ae.tooQ O)))⟩
 clear aa ab ae a' ba f3 a0 O S;refine i.ctl a (λbP=>y9) λb i=>?_;refine i.ctl a (λbP=>L9) λb i=>?_;have aP:=i.a9.len;simp[fh,gK]at aP;obtain⟨x,aY⟩:∃L,b.s[2]?=f L:=⟨_,bI u⟩
 obtain⟨ax,a3⟩:∃L,b.s[4]?=f L:=⟨_,bI u⟩
 obtain⟨cQ,bf,al,bk,cC⟩:=i.a9.box 2 _ x rfl aY;obtain⟨cv,cJ,aO,cb⟩:=cq.lookup bf;obtain⟨aC,_,cI,_,_,_⟩:=bf;have P:=(bk K).2 M;have au:=al K _ aO;obtain⟨m,y,b_,cy,bC,cD⟩:=i.a9.box 4 _ ax rfl a3;have aR:y=[.int .u64 0,.int .u32 0]:=by
  match y,bC with
  |[],aD=>exact aD.elim
  |[_],aD=>exact aD.2.elim
  |_::_::_::_,aD=>exact aD.2.2.elim
  |[cZ,aZ],aD=>
   have r0:=aD.1;have w:=aD.2.1;cases r0;cases w;rfl
 subst aR;have bz:K≠m:=M;have bB:a5.tmps.getD 9 I=.pointer (f ⟨m,0,n⟩):=by obtain⟨_,L,d8,aT,aU,cX⟩:=i.bT.ak 9;grind
 obtain⟨bc,cu⟩:=i.a9.gN (d:=2) rfl aY (.inr ⟨_,rfl⟩);have aK:(b.s.set 2 ⟨x.v,[]⟩)[4]?=f ax:=M;obtain⟨bd,t2⟩:=bc.gN (d:=4) (bT:=.cells 294 [.c (.int .u64 0),.c (.int .u32 0)]) rfl aK (.inl ⟨_,_,rfl⟩);generalize cH:({b with s:=(b.s.set 2 ⟨x.v,[]⟩).set 4 ⟨ax.v,[]⟩}:a6)=jR at bd t2;have cA:jR.s=(b.s.set 2 ⟨x.v,[]⟩).set 4 ⟨ax.v,[]⟩:=M;have aE:jR.C=b.C:=M;have F:jR.a=b.a:=M;have aF:jR.own=b.own:=M;have aA:=bd;have oD:=(cu.tooQ i.a9).trans (t2.tooQ bc);have aS:jR.s[2]?=f ⟨x.v,[]⟩:=M;have bO:∀L∈jR.s,∀D∈L.aj,∃d,d≠2/\d≠4/\b.s[d]?=f L:=by grind[List.mem_iff_getElem?]
 have cK:=i.a9.lt x (b8 aY) K P;have cL:=i.a9.lt ax (b8 a3) m M;have b0:nP K jR:=⟨by rw[aF];exactλU=>(i.a9.own K U).2 x (b8 aY) P,λL g k=>by obtain⟨d,bF,bG,T⟩:=bO L g K k;exact bF (i.a9.a0 d 2 L x T aY K k P),λq=>by rw[aE];grind,by grind⟩
 have H:nP m jR:=⟨by rw[aF];exactλU=>(i.a9.own m U).2 ax (b8 a3) M,λL g k=>by obtain⟨d,bF,bG,T⟩:=bO L g m k;exact bG (i.a9.a0 d 4 L ax T a3 m k M),λq=>by rw[aE];grind,by grind⟩
 have cR:bX 45 e2 jR (ib h Y bt K m 0) a5:=by have p:=i.bT.mono oD i.a9.len;have cn:bX 45 e2 jR ((9,cM (.pointer (f ⟨m,0,n⟩)))::K9 h Y bt K) a5:=p.seen (by rw[bB];exact Rd.val a);exact cn.le (eH a C)
 have cP:(af++cv).toArray.size=2*c bt:=M;have aN:∀D,(b.own D∨∃L∈b.s,D∈L.aj)->D<b.a.heap.size:=λD k=>k.elim (λp=>(i.a9.own D p).1) λ⟨L,g,p⟩=>i.a9.lt L g D p;refine .dj (ac:=λai aB=>∃r z,dU (pu h Y bt K af) Z (vF (c bt) K) (rW h Y bt K) r aB/\WgLive 294 m aB.a/\Goes V l (fE 294 m) DC0 (λcB _=>cB=G (bN.ab (r.put (f 28) (.tuple #[])) (.inRegion ot []::.code n4::av)) ag) z ai aB.a)
  (kV.gk (j:=c bt) (ty:=294) (val:=EE h Y bt) (E:=2*c bt) (cG:=jR) 2 u m K u bz (.of i.a9 aA F oD) a ⟨x,b8 aY,P⟩ ⟨ax,b8 a3,by grind⟩ aN ?_ cy ⟨_,au,cP⟩ ?_) ?_
 .rintro D (rfl|rfl)
  .exact⟨b0.own,b0.s,b0.C⟩
  exact⟨H.own,H.s,H.C⟩
 .intro o bh bg bj;subst bh bg;refine⟨FW h Y bt o e2 jR bN av ag,wB h Y bt o e2 jR bN av ag,λcB b k=>Sb H X k,?_,?_⟩
  .refine abM bn bj H X aM ca cg (λe cd=>rfl) (λe cd=>rfl) (c bt) (bA _) a5 jR ⟨by grind,aA,.refl _ _⟩ ⟨_,_,by rw[F];exact cy⟩
  .rintro ai aB ⟨r,⟨t,an⟩,z,R⟩ bx ao Q cf ak;obtain⟨cS,cT,cU⟩:=ak o.ah (.inl rfl);obtain⟨a7,ar,cj⟩:=ao;have bl:a7=(m' h Y bt).toArray:=by
    apply Array.ext_getElem?;intro q;have a_:(m' h Y bt).toArray[q]?=(m' h Y bt)[q]?:=C;rw[a_];rcases dW q (2*c bt)with U|U
    .have aT:=Q (q / 2) u (q % 2) u;have aU:=CE (h:=h) (Y:=Y) (bt:=bt) (D:=q / 2) (e:=q % 2) u u;rw[show 2*(q / 2)+q % 2=q by omega]at aT aU;rw[aU];simpa[aJ,ar]using aT
    grind[Js]
   subst bl;have br:=t.a9.len;obtain⟨cw,aw,cl,cW,cm⟩:=t.a5.box 2 .M ⟨x.v,[]⟩ rfl aS;have ck:aw.v=.nilFunc:=by cases cl;exact(show aw.v=x.v from cm).trans aC
   have cx:∀(d:Nat) bT,e2[d]?=f bT->bT=.M:=by
    intro d bT aH
    match d,aH with
    |0,aH|1,aH|2,aH|3,aH|4,aH=>cases aH;rfl
   have cz:∀d,(aB.s.set 2 ⟨.nilFunc,[o.ah]⟩)[d]?=if d=2 then f ⟨.nilFunc,[o.ah]⟩else aB.s[d]?:=M;have bQ:∀L∈aB.s.set 2 ⟨.nilFunc,[o.ah]⟩,L=⟨.nilFunc,[o.ah]⟩∨L∈aB.s:=λL g=>by grind
   have bp:bb (rW h Y bt o.ah) {aB with s:=aB.s.set 2 ⟨.nilFunc,[o.ah]⟩}:=by
    refine⟨t.a9.mem,by simp[br,rW],?_,?_,?_,λD k=>⟨(t.a9.own D k).1,λL g a4=>?_⟩⟩
    .intro d bT L aH g;rw[cz]at g;by_cases s:d=2
     .subst s;rw[bo a]at g;cases g;cases aH;refine⟨λB=>if B=o.ah then f (.cells (m' h Y bt++[]).toArray 296 (0,0))else n,⟨a,?_,Js,bA _,by omega,[],by grind,a⟩,λB cV N=>?_,λB=>?_,λB N q=>?_⟩
      .intro D k;simp only[m',rf]at k;obtain⟨_,_,k⟩:=k;simp only[e8,ss,or_false]at k;rcases k with rfl|rfl<;>rfl
      .by_cases s:B=o.ah
       .subst s;simp only[dA]at N;cases N;exact bu
       grind
      .by_cases s:B=o.ah<;>simp[s]
      grind
     .match d,aH,s with
      |0,aH,_|1,aH,_|3,aH,_|4,aH,_=>cases aH;trivial
      |2,_,s=>grind
    .intro d bE L bU g J D k bD;rw[cz]at g J;by_cases s:d=2
     .grind
     rw[bm s]at g;by_cases b3:bE=2
     .grind
     rw[bm b3]at J;exact t.a9.a0 d bE L bU g J D k bD
    .intro L g D k;rcases bQ L g with rfl|g
     .grind
     exact t.a9.lt L g D k
    rcases bQ L g with rfl|g
    .grind
    exact(t.a9.own D k).2 L g a4
   have aQ:de [.M,.M,.J (cq 296 2 (.row o.ah (c bt)) (c bt) af),.M,.cells 294 [.c (.int .u64 0),.c (.int .u32 0)]] b (rW h Y bt o.ah) {aB with s:=aB.s.set 2 ⟨.nilFunc,[o.ah]⟩}:=by
    have p:=t.a5;refine⟨by have:=p.size;grind,λD k=>by have:=p.a3 D M;grind,λD q c1 k=>p.mem D q c1 M,λD k cF q=>?_,λL g D k=>?_,?_,by rw[p.os,F],by rw[p.tape,F],by rw[p.output,F],by rw[p.own,aF]⟩
    .rw[p.bC D M (λL g a4=>by
      obtain⟨d,_,_,T⟩:=bO L g D a4
      grind) q,aE]
    .rcases bQ L g with rfl|g
     .grind
     rcases p.bS L g D k with w|⟨bV,w,aV⟩
     .grind
     obtain⟨d,_,_,T⟩:=bO bV w D aV;grind
    intro d bT L aH g;obtain⟨a1,bW,w,aV,cp⟩:=oD.box d bT L aH g;obtain⟨bR,bY,aZ,c0,nI⟩:=p.box d a1 bW w aV;have a8:=cx d a1 w;have a9:=cx d bR aZ;subst a8 a9;by_cases s:d=2
    .subst s;cases aH;rw[aY]at g;cases g;exact⟨_,⟨.nilFunc,[o.ah]⟩,a,by grind,aC.symm⟩
    refine⟨.M,bY,?_,by grind,cp.trans nI⟩
    match d,aZ,s with
    |0,_,_|1,_,_|3,_,_|4,_,_=>rfl
    |2,_,s=>grind
   refine⟨{aB with s:=aB.s.set 2 ⟨.nilFunc,[o.ah]⟩},⟨r,z,⟨⟨t.bT.size,⟨[],?_⟩,λcY=>?_⟩,bp,i.a5.trans aQ⟩,an,R⟩,rfl,bx,λcO bM cE=>⟨bM.own,λD k L g a4=>?_,bM.C,bM.lt⟩⟩
   .obtain⟨nz,bw⟩:=t.bT.defers;rw[R8 (λbT aH=>by grind) bw];trivial
   .have b5:bX 45 e2 aB (vF (c bt) o.ah) r:=t.bT.le (eH a C);exact bv.eY (b:=aB) (aB:={aB with s:=aB.s.set 2 ⟨.nilFunc,[o.ah]⟩}) rfl (b5.ak cY) (vh rfl)
   rcases bQ L g with rfl|g
   .grind
   exact bM.s D k L g a4
 rintro ai aB ⟨r,z,b9,bs,R⟩;refine dU.goes z ai aB b9 bs R λbH aG=>?_;have b7:dU (pu h Y bt K af) Z ((28,.any)::vF (c bt) K) (rW h Y bt K) (r.put (f 28) (.tuple #[])) bH:=⟨aG.bT.put ca A,aG.a9,aG.a5⟩
 refine b7.ctl a (λbP=>vT) λbJ aI=>?_;refine aq bJ _ (aI.bT.le (eH a C)) aI.a9 bN av ag cN aM X λs bS bZ aB b1 p b4 b6 bK=>b' s bS bZ aB b1 p b4 b6 (aI.a5.trans bK)
end
end
abbrev Ep(a:m bC)(b:Bool):x:=.Q [.R (.c (.A v 1 (c a) (bS.fn a))),.R (.c (.bool b))]
def g4(e:Int)(b:m b')(a:m Int):Option (m bC):=if a.all (λd=>(dg e b d).isSome)then f (a.map λd=>(dg e b d).getD [])else n
noncomputable def SI:Code:=ni rp
noncomputable def SJ:Code:=ni (g5 rp)
noncomputable def SK:Code:=ni (g5 (g5 rp))
def SE:f189.body=f (.seq SI (.seq SJ (.seq SK Bb))):=bF
def sQ(e:Int)(b:m b')(a:m Int)(d:Nat):m AM.K:=[.V ((dg e b (a.getD d 0)).getD []),.bool (dg e b (a.getD d 0)).isSome]
def mG(d:Int)(b:m b')(a:m Int):m bC:=a.map λe=>(dg d b e).getD []
theorem aaa{i b}(a:hJ i=f b):c b<=8:=by
 unfold hJ at a;split at a
 .rename_i d;cases a;simp only[cn,cC,bw]at d;omega
 grind
theorem SQ{d}{a}(b:iO h d=f a):c a<=8:=by unfold iO at b;grind[aaa]
theorem Jk{Y}{j}:c ((dg h Y j).getD [])<=8:=by
 cases b:dg h Y j with
 |none=>simp
 |some d=>
  obtain⟨e,_,a⟩:=List.exists_of_findSome?_eq_some b;unfold fS at a;grind[SQ]
theorem TA{Y}{b}(g:e<c b){r}{m}(d:(sQ h Y b e)[t]?=f r)(k:(m' h Y b)[e*2+t]?=f m):Rd bz m r:=by
 have i:t<2:=(cO.1 d).1;have:=CE (h:=h) (Y:=Y) g i;rw[wU,this]at k;cases k
 match t,i with
 |0,_=>
  cases d;have:=Jk (h:=h) (Y:=Y) (j:=b.getD e 0);exact .V a u
 |1,_=>cases d;exact .bool
def _root_.Go.AM.dd.le{P:aE}{d:ah P}{E}{aL}{F dF}{k}{r}(h:dd d E r aL dF k)(b:iE F dF):dd d E r aL F k:=λi e g a=>h i e (g.le b) a
def UH(x:bL (ah.c8 V) 234 (m9 h))(Y)(b)(B:c b<=4000000):
  Z (ah.aF V) 189 [R h,a2.A Y,aA.A b] [] (Ep ((g4 h Y b).getD []) (g4 h Y b).isSome) []:=by
 refine bl.toZ (bl.e5 (ι:=Unit) func189 rfl SE rfl λJ=>?_);show dd _ 45 _ _ _ _;refine dd.seq (b0.bw (g.aR ?_));refine aO a A ?_;show dd _ 45 _ _ _ _;refine dd.seq (b0.bw (g.aR ?_));refine aO a A (g.jw (W:=296) (j:=c b) bc a a a a a a zY u a a λK af=>?_);refine aO a A ?_;show dd _ 45 _ _ _ _;refine dd.seq (b0.bw (g.aR ?_));refine aO a A ?_;show dd _ 45 _ _ _ _;have r:dd (ah.aF V) 45 n4 (λt p e=>∃_:Unit,bY f189 0 (Ep ((g4 h Y b).getD []) (g4 h Y b).isSome) [] t p e) (vF (c b) K) (rW h Y b K):=by
  refine b0.bw (b0.mono (aL:=bY f189 0 (Ep ((g4 h Y b).getD []) (g4 h Y b).isSome) []) (g.aR ?_) λ_ _ _ z=>⟨(),z⟩);refine aO a (show _<=_ by omega) (g.iG 29 2 (bO:=.row K (c b)) (j:=c b) (h:=2) (sQ h Y b) a a (λd i=>⟨a,λD m E Q M O=>?_⟩) ?_)
  .grind [TA]
  refine g.bB 12 9 1 a a ?_;refine g.aC 6 (λd=>d<=c b/\∀m,m<d->(dg h Y (b.getD m 0)).isSome=l) (λd:Nat=>[(29,ax (.A v 2 (c b) (sQ h Y b))),(30,R (c b)),(31,R d),(12,.n (.R (.w 5 1 (c (mG h Y (b.take d))) (bS.fn (mG h Y (b.take d))))))]) (λd=>[.M,.M,.M,.M,.M,.w 9 1 (c (mG h Y (b.take d))) (bS.fn (mG h Y (b.take d)))]) (λd=>c b-d) 0 a ?_ a ?_ a ⟨by omega,by omega⟩ ?_
  .simp[bs,mG]
  .simp[bs,mG]
  rintro d ⟨i,F⟩;by_cases o:d<c b
  .cases q:(dg h Y (b.getD d 0)).isSome with
   |true=>
    have N:mG h Y (b.take (d+1))=mG h Y (b.take d)++[(dg h Y (b.getD d 0)).getD []]:=by unfold mG;grind[List.take_add_one]
    have I:c (mG h Y (b.take d))<=4000000:=by simp[mG];omega
    refine bR [32,-37] a ?_ (g.aw (d+1) a ?_ ?_ ?_ ?_)
    .simp[-aj,o,sQ,q,a8];have:s3.bytes=16:=rfl;grind
    .exact Pu
    .exact Pu
    .grind
    omega
   |false=>
    refine bR [32,37] a ?_ (g.aT (bY.zero a ?_))
    .simp[-aj,o,sQ,q]
    have w:g4 h Y b=n:=NN;simp[w]
  have y:d=c b:=u;subst y;refine bR [-32] a C (g.az ?_);refine cy a A (g.aq a ?_);have s:g4 h Y b=f (mG h Y b):=by
   unfold g4;rw[bo]
   .rfl
   grind[List.mem_iff_getElem]
  simp[s]
 exact dd.le (k:=pu h Y b K af) (Yu (af:=af) x B r) (eH a C)
end R1
end Go.AM
namespace Go.AM.R1
def rL(a)(b):iy (a::b)=if a=47 then 0 else if iy b=-1 then -1 else iy b+1:=by unfold iy;grind[Lib.indexByte.eq_def]
def CZ:iy []=-1:=cS
def aah(b):jQ b=fT b:=by
 by_cases m:c b<=3
 .match b,m with
  |[],_=>exact cS
  |[e],_=>
   by_cases a:e=47
   .exact hE
   simp[jQ,fT,jK,jI,ki,rL,CZ,a,lj,dq]
  |[e,g],_=>
   by_cases a:e=47
   .exact hE
   by_cases d:g=47
   .subst d;simp[jQ,fT,jK,jI,mq,ki,rL,a]
   simp[jQ,fT,jK,jI,ki,rL,CZ,a,d]
  |[e,g,i],_=>
   by_cases a:e=47
   .subst a;simp[jQ,fT,jK,jI,mq,ki,rL,lj,dq]
   by_cases d:g=47
   .subst d;simp[jQ,fT,jK,jI,mq,ki,rL,a,lj,dq]
   have j:¬(g.toNat:Int)=47:=by intro k;apply d;apply ur.1;grind
   by_cases h:i=47
   .subst h;simp[jQ,fT,jK,jI,mq,ki,rL,a,d,lj,dq]
   simp[jQ,fT,jK,jI,ki,rL,CZ,a,d,h,j,lj,dq]
  |_::_::_::_::_,k=>grind
 have o:fT b=v:=by unfold fT;grind
 grind[K5]
end Go.AM.R1
namespace Go.AM
theorem xf(a):aT a []=v:=FI
def AY(i)(d):aT [] (i::d)=l:=FI
theorem uI(a i)(b d):aT (a::b) (i::d)=(decide (a<i)||a==i&&aT b d):=FI
theorem xe:∀a:bC,aT a a=v
 |[]=>xf []
 |a::b=>by rw[uI,xe b];simp
def GA:∀a b:bC,aT a b=l∨a=b∨aT b a=l
 |[],[]=>.inr (.inl rfl)
 |[],b::e=>.inl (AY b e)
 |a::d,[]=>.inr (.inr (AY a d))
 |a::d,b::e=>by
  rw[uI,uI];rcases GA d e with g|g|g
  .grind
  .grind
  grind
theorem AZ:∀{g h b:bC},aT g h=l->aT h b=l->aT g b=l
 |g,h,[],_,e=>by grind[xf]
 |g,[],b::i,d,_=>by grind[xf]
 |[],h::j,b::i,_,_=>AY b i
 |g::k,h::j,b::i,d,e=>by
  rw[uI,jC,cn,bw,gL]at d e⊢;rcases d with d|⟨rfl,d⟩
  .grind
  rcases e with e|⟨rfl,e⟩
  .grind
  exact .inr ⟨a,AZ d e⟩
theorem Gz{a i}(b:aT a i=l):aT i a=v:=by grind[AZ,xe]
def Su{a i}:(!(aT i a||i==a))=aT a i:=by
 rcases GA a i with b|b|b
 .have r:(i==a)=v:=by simp[e0,d6];grind[xe]
  grind[Gz]
 .grind [xe]
 grind[Gz]
namespace R1
def LM{o}{e}(g:∀a,0<a->a<=e->aT (ct o (a-1)) (ct o a)=l):∀b,b<e->aT (ct o b) (ct o e)=l:=by
 intro b m;induction e with
 |zero=>omega
 |succ e i=>
  have d:=g (e+1) u (bA _);simp[pS]at d;by_cases k:b=e
  .grind
  exact AZ (i (λa h j=>g a h u) u) d
def K6{b}(d:fT b=l):(∃a,b=[a])∨∃a e,b=[a,47,e]:=by
 unfold fT at d;split at d
 .rename_i g
  match b,g with
  |[a],_=>grind
 split at d
 .rename_i g
  match b,g with
  |[a,e,h],_=>
   right;simp[lj,dq]at d;have i:e=47:=by apply ur.1;grind
   grind
 grind
theorem SR{b d}(g:fT b=l)(h:fT d=l)(k:aT b d=l):k6 b d=under d b:=by
 rcases K6 g with⟨a,rfl⟩|⟨a,i,rfl⟩<;>rcases K6 h with⟨r,rfl⟩|⟨r,j,rfl⟩
 .exact cS
 .by_cases e:a=r
  .subst e;simp[k6,under,od,dq]
  have:¬(a.toNat:Int)=r.toNat:=λm=>e (ur.1 u);have p:((a.toNat:Int)==(r.toNat:Int))=v:=M;have o:(r==a)=v:=M;simp[k6,under,od,dq];grind
 .have:¬(a.toNat:Int)=r.toNat:=by grind[UInt8.toNat_inj,uI,xf]
  simp[k6,under,od,dq,this]
 exact cS
theorem Mp{o}{e}(b:∀a,a<e->i5 o a=l):mP o e=i5 o e:=by
 unfold mP i5;rw[aah,Su];cases q:fT (ct o e)with
 |false=>simp
 |true=>
  cases k:fK (lu o e)with
  |false=>simp
  |true=>
   cases r:(e==0||aT (ct o (e-1)) (ct o e))with
   |false=>simp
   |true=>
    simp[fR];have p:∀a,a<e->aT (ct o a) (ct o e)=l:=by
     apply LM;intro g i d;by_cases m:g=e
     .grind
     have:=b g u;simp[i5,cn,jC,gL]at this;grind
    rw[oV,fZ,fZ];have s:∀a,a<e->k6 (ct o a) (ct o e)=under (ct o e) (ct o a):=by
     intro a h;have j:fT (ct o a)=l:=by have:=b a h;simp[i5,cn]at this;exact this.1.1.1
     grind[SR]
    grind
def r5(o):qN o=dN o:=by
 unfold qN dN;congr 1;rw[oV,fZ,fZ];constructor
 .intro b e;induction e using Nat.strongRecOn with
  |_ e a=>grind[Mp]
 grind[Mp]
end R1
end Go.AM
namespace Go.AM
variable {j z:Nat}{h:Int}{d i e t:Nat}{W:al}{H:X->(Nat->Option Obj)->Prop}{L:Array Bool}{bz:Mem}{E:Nat}{P:aE}{br:ai->a6->Prop}{r:Code}{B:ai}{q:ao}{b:a6}{o:al}{aa:X}{α:Type}{η:ae->x}{ι:Type}{k:m ap}{F:bJ}{all:m ao}{ds:Array al}{cap:m K}{cQ:m x}{k5:Nat->Option Obj}{ag:m aG}{bf:m (Nat×Bool)}{U:Nat->m K}{cP:ae}{gs:Array ai}{aU:m Nat}{cl:m Prop}{off:Nat}{op:BinOp}{aM:Array ao}{Y:m Prop}{bq:m ao}{aB:a6}{ty:al}{val:Nat->Nat->X}{y:m X}{bg:ar}{af:Array ae}{an dh:m ap}{res:ι->x}{aQ:ι->m ap}
variable {CT:m (Nat×bK)}{av:m im}{bd:fw}{ac:m (Nat×cm)}{a4:cm}
namespace R1
section
variable {p:ah V}
def fI(d:Int)(a:m b')(b:mY):Option c7:=match g4 d a b.2 with
 |none=>n
 |some e=>match iQ e with
  |none=>n
  |some g=>f (b.1,g)
def fj(b:Int)(a:m b')(d:m mY):m c7:=d.map λe=>(fI b a e).getD ([],[])
def ev(b:Int)(d:eK)(a:m b'):Option (m c7):=
 if cj b&&d.2.all (λe=>(fI b a e).isSome)&&dN (fj b a d.2)then f (fj b a d.2)else n
abbrev r1(a:m c7)(b:Bool):x:=.Q [.R (.c (.A v 2 (c a) (bB.fn a))),.R (.c (.bool b))]
abbrev iT(a:eK):x:=.n (.agg [.c (.int .i64 a.1),.c (.A v 2 (c a.2) (cA.fn a.2))])
theorem Cw{Y}{d}(a:e<c d):fj h Y (d.take (e+1))=fj h Y (d.take e)++[(fI h Y (d.getD e ([],[]))).getD ([],[])]:=by unfold fj;grind[List.take_add_one]
def D9{Y}{b}(d:e<c b.2)(a:fI h Y (b.2.getD e ([],[]))=n):ev h b Y=n:=by unfold ev;rw[bm];grind
def Yd{Y}{a}{d}(b:g4 h Y a=f d)(j:c a<=4000000):c d.flatten<=140737488355328/\c d<=4000000:=by
 unfold g4 at b;split at b
 .rename_i i;cases b;refine⟨?_,by grind⟩;have key:∀a:m Int,(a.all λe=>(dg h Y e).isSome)=l->(a.map λe=>(dg h Y e).getD []).flatten.length<=8*c a:=by
   intro a;induction a with
   |nil=>grind
   |cons e a g=>
    intro b;simp only[List.all_cons,cn]at b;grind[Jk]
  grind
 grind
def Xq(h)(b)(Y)(X:c b.2<=4000000)(G:∀e∈b.2,c e.2<=4000000):
  Z (ah.aF V) 143 [R h,iT b,a2.A Y] [] (r1 ((ev h b Y).getD []) (ev h b Y).isSome) []:=by
 refine Z.I func143 rfl λI=>?_;have aa:=I.A 2 a;have i:ba (ah.aF V) [(38,dk c8 (λh=>bh (cj h)) λ_=>[])]:=.cons t38 .nil;cases b2:cj h with
 |false=>
  refine a_ i [-15,16] a l8 (g.aq a ?_);simp[ev,b2]
 |true=>
  have S:bL (ah.c8 V) 234 (m9 h):=acE zp b2;refine a_ i [15,-16,904] a l8 (g.bB 8 91 2 a a ?_);refine b_ i a A (g.aC 2 (λd=>d<=c b.2/\∀w,w<d->(fI h Y (b.2.getD w ([],[]))).isSome=l) (λd:Nat=>[(0,R h),(2,a2.A Y),(4,aI 0 0),(8,.n (.R (.w 1 2 (c (fj h Y (b.2.take d))) (bB.fn (fj h Y (b.2.take d)))))),(18,cA.A b.2),(19,R (c b.2)),(20,R d)]) (λd=>[.cells 104 [.c (.int .i64 b.1),.c (.A v 2 (c b.2) (cA.fn b.2))],.w 91 2 (c (fj h Y (b.2.take d))) (bB.fn (fj h Y (b.2.take d)))]) (λd=>c b.2-d) 0 a z3 a z3 a ⟨by omega,by omega⟩ ?_);rintro d ⟨J,ab⟩;by_cases r:d<c b.2
  .have q:b.2.getD d ([],[])∈b.2:=M;generalize m:b.2.getD d ([],[])=e at q;have z:=G e q;have o:=UH S Y e.2 z;cases j:g4 h Y e.2 with
   |none=>
    rw[j]at o;refine a_ i [21] a bu (g.aA (m▸o) [] a (a_ i [33] a C (g.aT (bY.zero a ?_))));have k:fI h Y e=n:=by simp[fI,j]
    rw[D9 r M];simp
   |some y=>
    obtain⟨U,x⟩:=Yd j z;rw[j]at o;have N:=Up (p:=ah.aF V) y U;refine a_ i [21] a bu (g.aA (m▸o) [] a (a_ i [-33] a C (g.aA N [] a ?_)));cases O:iQ y with
    |none=>
     refine a_ i [40] a C (g.aT (bY.zero a ?_));have k:fI h Y e=n:=by simp[fI,j,O]
     rw[D9 r M];simp
    |some s=>
     have k:fI h Y e=f (e.1,s):=by simp[fI,j,O]
     have F:b.2.getD (d:Int).toNat cA.D=e:=m;have W:c (fj h Y (b.2.take d))<=4000000:=by simp[fj];omega
     have E:bs (c (fj h Y (b.2.take d))+1) (cf (c (fj h Y (b.2.take d))) (bB.fn (fj h Y (b.2.take d))) λQ=>[[K.V (b.2.getD (d:Int).toNat cA.D).1,K.V ((f s).getD [])]].getD Q []) (bB.fn (fj h Y (b.2.take (d+1)))):=by rw[Cw r,m,k,F];exact bB.aW (fj h Y (b.2.take d)) (e.1,s)
     have D:c (fj h Y (b.2.take d))+1=c (fj h Y (b.2.take (d+1))):=by grind[Cw]
     refine a_ i [-40] a ?_ (g.aw (d+1) a ?_ ?_ ?_ ?_)
     .refine⟨by exact bG,a,a,?_,a⟩;show _*32<=_;omega
     .refine T.Z.2 ⟨a,T.Z.2 ⟨⟨a,bs.same⟩,T.Z.2 ⟨A,T.Z.2 ⟨⟨D,E⟩,T.Z.2 ⟨⟨a,bs.same⟩,T.Z.2 ⟨a,T.Z.2 ⟨?_,A⟩⟩⟩⟩⟩⟩⟩;simp
     .exact T.Z.2 ⟨T.Z.2 ⟨a,T.Z.2 ⟨⟨a,bs.same⟩,A⟩⟩,T.Z.2 ⟨⟨D,E⟩,A⟩⟩
     .grind
     omega
  have k:d=c b.2:=u;subst k;refine a_ i [-21] a C (g.az ?_);rw[cY];have t:=Jb (p:=ah.aF V) (fj h Y b.2);rw[r5]at t;refine b_ i a A (g.aA t [] a ?_);have H:b.2.all (λe=>(fI h Y e).isSome)=l:=aX.2 λe q=>by grind[List.mem_iff_getElem]
  cases B:dN (fj h Y b.2)with
  |false=>
   refine a_ i [51] a C (g.aq a ?_);simp[ev,B]
  |true=>
   refine a_ i [-51] a C (g.aq a ?_);simp[ev,B,b2,H]
abbrev cz:=m b'×m eK×m (Int×Int)
def ln(b:cz):Prop:=∀a∈b.2.1,c a.2<=4000000/\∀d∈a.2,c d.2<=4000000
abbrev b9(a:cz):x:=.n (.agg [.c (.A v 2 (c a.1) (a2.fn a.1)),.c (.A v 2 (c a.2.1) (bj.fn a.2.1)),.c (.A v 2 (c a.2.2) (a3.fn a.2.2))])
def Hm:bK:=kh c8 (jA cA) (e7 a2) (λd b a=>r1 ((ev d b a).getD []) (ev d b a).isSome) λ_ b _=>[c b.2<=4000000,∀e∈b.2,c e.2<=4000000]
def ade:bL (ah.aF V) 143 Hm:=.c5 λd e a b=>Xq d e a b.1 b.2
def oX:i' cz:=⟨b9,λr=>match r with
 |.n (.agg [.c q,.c s,.c t])=>match jT 2 (ax q)with
  |some (i,g)=>match jT 2 (ax s)with
   |some (j,m)=>match jT 2 (ax t)with
    |some (p,h)=>f ((a2.ad i g,bj.ad j m,a3.ad p h),[a2.bM i g,bj.bM j m,a3.bM p h])
    |none=>n
   |none=>n
  |none=>n
 |_=>n,λ{r q E} e d k b aa z=>by
 split at e
 .split at e
  .rename_i i g o;split at e
   .rename_i j m w;split at e
    .rename_i p h C;cases e;obtain⟨y,u,a⟩:=z
     match y,a with
     |[],a=>exact a.elim
     |[_],a=>exact a.2.elim
     |[_,_],a=>exact a.2.2.elim
     |_::_::_::_::_,a=>exact a.2.2.2.elim
     |[B,D,x],a=>
      exact⟨_,u,a2.cA (k:=[]) (b:=b) (aa:=B) o d.1 a.1,bj.cA (k:=[]) (b:=b) (aa:=D) w d.2.1 a.2.1,a3.cA (k:=[]) (b:=b) (aa:=x) C d.2.2 a.2.2.1,A⟩
    grind
   grind
  grind
 grind⟩
abbrev d_(b:b')(a:Nat):cX:=b.2.getD a (0,[])
def ie(d:Int)(b:b')(a:Nat):Bool:=right d (d_ b a)&&(a==0||decide ((d_ b (a-1)).1<(d_ b a).1))
theorem Dz(h)(a):ia h a=((az (c a.2)).all (ie h a)&&(cj h&&decide (1<=a.1)&&decide (a.1<=99)&&decide (1<=c a.2)&&decide (c a.2<=4))):=by
 have j:(a.2.all (right h)&&D_ (a.2.map (·.1)))=(az (c a.2)).all (ie h a):=by
  rw[oV,cn,aX,aX];unfold D_;rw[aX];have d:∀e,e<c a.2->(a.2.map (·.1)).getD e 0=(d_ a e).1:=λe bp=>by grind
  constructor
  .rintro⟨i,b⟩ e bp;have bp:=re.1 bp;have k:=b e M;rw[d e bp]at k;unfold ie;rw[i (d_ a e) M,fR];rcases nZ e with rfl|m
   .rfl
   grind
  intro s;refine⟨λo g=>?_,λe bp=>?_⟩
  .obtain⟨e,bp,rfl⟩:=AH.1 g;exact OM
  have bp:e<c a.2:=M;exact OM
 rw[<-j];unfold ia;cases cj h<;>cases decide (1<=a.1)<;>cases decide (a.1<=99)<;>cases decide (1<=c a.2)<;>cases decide (c a.2<=4)<;>simp
def KZ{a}(b:e<c a.2)(d:ie h a e=v):ia h a=v:=by grind[Dz]
theorem BG{D}(a:cj h=l):(iO h D).isSome=right h D:=by unfold iO right;grind
def WI(h)(b)(i:cj h=l)(D:c b.2<=4000000):Z p 139 [R h,fH b] [] (bh (ia h b)) []:=by
 refine Z.I func139 rfl λF=>?_;have e:ba p [(38,dk c8 (λh=>bh (cj h)) λ_=>[]),(185,er sl c8 (λz h=>iS (iO h z)) λ_ h=>[cj h=l])]:=.cons t38 (.cons (MF zp) .nil);refine b_ e a A (g.aC 1 (λd=>d<=c b.2/\∀j,j<d->ie h b j=l) (λd:Nat=>[(0,R h),(3,aI 0 0),(10,bH.A b.2),(11,R (c b.2)),(12,R d)]) (λ_=>[.cells 107 [.c (.int .i64 b.1),.c (lm b)]]) (λd=>c b.2-d) 0 a C a C a ⟨by omega,by omega⟩ ?_);rintro d ⟨w,s⟩;by_cases q:d<c b.2
 .cases m:right h (d_ b d)with
  |false=>
   have o:(iO h (d_ b d)).isSome=v:=by grind[BG]
   refine a_ e [13,24,40] a dB (g.aT (bY.zero a ?_));rw[KZ q (by simp only[ie,m,sv])];simp
  |true=>
   have o:(!(iO h (d_ b d)).isSome)=v:=by grind[BG]
   by_cases y:d=0
   .subst y;refine a_ e [13,-24,-27,-40] a lH (g.aw 1 a C C ⟨by omega,λj k=>?_⟩ u);have:j=0:=u;subst this;simp only[ie,m,fR];rfl
   have K:((d:Int)-1).toNat=d-1:=u;cases r:decide ((d_ b (d-1)).1<(d_ b d).1)with
   |false=>
    refine a_ e [13,-24,27,38,40] a ?_ (g.aT (bY.zero a ?_))
    .have B:(b.2.getD ((d:Int)-1).toNat bH.D).1=(d_ b (d-1)).1:=bG;refine⟨a,fQ ?_,by omega,by omega,by exact bG,fQ u,o,i,by omega,by omega,fQ u⟩;rw[B];show(d_ b d).1<=_;grind
    rw[KZ q (by simp[ie,m,r,fR,Bool.or_false];grind)];simp
   |true=>
    refine a_ e [13,-24,27,-38,-40] a ?_ (g.aw (d+1) a ?_ ?_ ⟨by omega,λj k=>?_⟩ u)
    .have B:(b.2.getD ((d:Int)-1).toNat bH.D).1=(d_ b (d-1)).1:=bG;refine⟨by exact bG,a,oS ?_,by omega,by omega,by exact bG,fQ u,o,i,by omega,by omega,fQ u⟩;rw[B];show¬(d_ b d).1<=_;grind
    .simp
    .simp
    rcases Au.1 k with k|rfl
    .grind
    simp only[ie,m,r,fR,Bool.or_true]
 have t:d=c b.2:=u;subst t;refine a_ e [-13] a C (g.az ?_);have x:(az (c b.2)).all (ie h b)=l:=aX.2 λj k=>s j (re.1 k);rw[Dz,x,i];by_cases I:1<=b.1
 .by_cases J:b.1<=99
  .by_cases M:1<=c b.2
   .by_cases E:c b.2<=4
    .refine a_ e [43,47,52,58,64] a bG (g.aq a ?_);exact bu
    refine a_ e [43,47,52,58,-64] a bG (g.aq a ?_);exact bu
   refine a_ e [43,47,52,-58] a dB (g.aq a ?_);exact bu
  refine a_ e [43,47,-52] a dB (g.aq a ?_);exact bu
 refine a_ e [43,-47] a dB (g.aq a ?_);exact bu
def Bt:bK:=er c8 (jA bH) (λa b=>bh (ia a b)) λa b=>[cj a=l,c b.2<=4000000]
def ML:bL p 139 Bt:=.bh λb d a=>WI b d a.1 a.2
def Ir(d)(h:c d<=4000000):Z p 123 [a3.A d] [] (cD 0 (.A (c d) 2 0 (c d))) [.p 140 2 (c d) (a3.fn d)]:=by
 refine Z.I func123 rfl λi=>?_;refine aO a A (g.en bc a a a a a a λb e=>?_);cases b with
 |true=>
  obtain rfl:=jB (e rfl);refine aO a A (g.e_ 2 140 2 (a3.fn []) a ?_);exact Fb
 |false=>
  refine gF [] 7 a A (g.dI 5 140 2 (a3.fn []) a ?_);refine aO a ⟨a,a,show(0+c d)*16<=_ by omega⟩ (g.a_ [.p 140 2 (c d) (a3.fn d)] a ?_ ?_)
  .simp[bs,cf]
  exact Fm
def It(d)(e:c d<=4000000):Z p 123 [a3.A d] [] (a3.A d) []:=by
 refine Z.I func123 rfl λh=>?_;refine aO a A (g.en bc a a a a a a λb w=>?_);cases b with
 |true=>
  exact Fl
 |false=>
  exact aO a ⟨show(0+c d)*16<=_ by omega,.inl a⟩ EY
def T9(d)(e:c d<=4000000):Z p 171 [bH.A d] [] (bH.A d) []:=by
 refine Z.I func171 rfl λh=>?_;refine aO a A (g.en bc a a a a a a λb w=>?_);cases b with
 |true=>
  exact Fl
 |false=>
  exact aO a ⟨show(0+c d)*24<=_ by omega,.inl a⟩ EY
def B9(d)(e:c d<=4000000):Z p 49 [aA.A d] [] (aA.A d) []:=by
 refine Z.I func49 rfl λh=>?_;refine aO a A (g.en bc a a a a a a λb w=>?_);cases b with
 |true=>
  exact Fl
 |false=>
  exact aO a ⟨show(0+c d)*8<=_ by omega,.inl a⟩ EY
def _root_.Go.AM.c1.cV(a:c1 α)(d)(i:e<c d)(b):bs (e+1) (cf e (a.fn (d.take e)) (λg=>[a.a2 (d.getD e b)].getD g [])) (a.fn (d.take (e+1))):=by
 have h:d.take (e+1)=d.take e++[d.getD e b]:=by grind[List.take_add_one]
 have:=a.aW (d.take e) (d.getD e b);grind
abbrev GO:bK:=dk (e7 bH) (λa=>bH.A a) λa=>[c a<=4000000]
def acw:bL p 171 GO:=.a7 λb a=>T9 b a
abbrev GP:bK:=dk (e7 aA) (λa=>aA.A a) λa=>[c a<=4000000]
def acx:bL p 49 GP:=.a7 λb a=>B9 b a
def WC(b)(d:c b.2<=4000000):Z p 121 [fH b] [] (fH b) []:=by
 refine Z.bb bc func121 rfl rfl rfl λi=>?_;have e:ba p [(171,GO)]:=.cons acw .nil;refine b_ e a ?_ ?_
 .simp only[T,bH.l];exact⟨bH.T _,d⟩
 refine g.bc () [] ?_ (λj h=>absurd h C);simp[bH.l]
abbrev xt:bK:=dk (jA bH) (λa=>fH a) λa=>[c a.2<=4000000]
def Er:bL p 121 xt:=.a7 λb a=>WC b a
def Xk(b)(w:c b.2<=4000000)(k:∀r∈b.2,c r.2<=4000000):Z p 122 [iT b] [] (iT b) []:=by
 refine Z.bb bc func122 rfl rfl rfl λt=>?_;have e:ba p [(49,GP)]:=.cons acx .nil;refine a_ e [902] a A (g.ck 2 1 144 2 (cA.fn []) a a ?_);refine b_ e a A ?_;refine g.aC 4 (λd=>d<=c b.2) (λd:Nat=>[(2,aI 1 0),(3,aI 2 0),(10,cA.A b.2),(11,R (c b.2)),(12,R d)])
  (λd=>[.cells 104 [.c (.int .i64 b.1),.c (.A v 2 (c b.2) (cA.fn b.2))],.cells 104 [.c (.int .i64 0),.c (.A l 0 0 λ_=>[])],.cells 104 [.c (.int .i64 b.1),.w 3 2 d (cA.fn (b.2.take d))],.w 144 2 d (cA.fn (b.2.take d))]) (λd=>c b.2-d) 0 a ?_ a ?_ a u ?_
 .simp
 .simp
 intro d o;by_cases m:d<c b.2
 .have B:b.2.getD d ([],[])∈b.2:=M;refine a_ e [13] a ?_ (g.aw (d+1) a ?_ ?_ ?_ ?_)
  .have q:=k _ B;have h:b.2.getD (d:Int).toNat cA.D=b.2.getD d ([],[]):=M;simp only[T,h,aA.l,a8];exact⟨by omega,A,A,show(d+1)*40<=_ by omega,aA.T _,q,by omega,by omega,fQ u⟩
  .simp
  .have h:b.2.getD (d:Int).toNat cA.D=b.2.getD d ([],[]):=M;have i:=cA.cV b.2 m ([],[]);simp only[T.Z,T,h,aA.l,a7,a'];exact⟨bs.same,bs.same,i,i⟩
  .grind
  omega
 obtain rfl:d=c b.2:=u;refine a_ e [-13] a C (g.az ?_);refine b_ e a A (g.bc () [] ?_ (λs j=>absurd j C));simp
abbrev xu:bK:=dk (jA cA) (λa=>iT a) λa=>[c a.2<=4000000,∀b∈a.2,c b.2<=4000000]
def Es:bL p 122 xu:=.a7 λb a=>Xk b a.1 a.2
abbrev cF:O:=.c (.A l 0 0 λ_=>[])
def o6(b)(q:c b.1<=4000000)(B:∀m∈b.1,c m.2<=4000000)(t:c b.2.1<=4000000)(N:ln b)(k:c b.2.2<=4000000):
  Z p 84 [b9 b] [] (.n (.agg [.N 0 (.A (c b.1) 2 0 (c b.1)),.N 1 (.A (c b.2.1) 2 0 (c b.2.1)),.c (.A v 2 (c b.2.2) (a3.fn b.2.2))])) [.p 107 2 (c b.1) (a2.fn b.1),.p 104 2 (c b.2.1) (bj.fn b.2.1)]:=by
 refine Z.bb bc func84 rfl rfl rfl λr=>?_;have d:ba p [(121,xt),(122,xu)]:=.cons Er (.cons Es .nil);refine a_ d [902] a A (g.ej 2 0 107 2 (a2.fn []) a a ?_);refine g.ej 2 1 104 2 (bj.fn []) a a ?_;refine b_ d a A ?_;refine g.aC 5 (λe=>e<=c b.1) (λe:Nat=>[(1,aI 0 0),(2,aI 1 0),(3,aI 2 0),(9,a2.A b.1),(10,R (c b.1)),(11,R e)])
  (λe=>[.cells 30 [.c (.A v 2 (c b.1) (a2.fn b.1)),.c (.A v 2 (c b.2.1) (bj.fn b.2.1)),.c (.A v 2 (c b.2.2) (a3.fn b.2.2))],.cells 30 [cF,cF,cF],.cells 30 [.N 3 (.A e 2 0 e),.N 4 (.A 0 2 0 0),cF],.p 107 2 e (a2.fn (b.1.take e)),.p 104 2 0 (bj.fn [])]) (λe=>c b.1-e) 0 a ?_ a ?_ a u ?_
 .simp
 .simp
 intro e h;by_cases s:e<c b.1
 .have ak:b.1.getD e (0,[])∈b.1:=M;have i:b.1.getD (e:Int).toNat a2.D=b.1.getD e (0,[]):=M;refine a_ d [12] a Pn (g.aw (e+1) a C P6 M ?_);omega
 obtain rfl:e=c b.1:=u;rw[cY];refine a_ d [-12] a C (g.az ?_);refine b_ d a A ?_;refine g.aC 5 (λe=>e<=c b.2.1) (λe:Nat=>[(1,aI 0 0),(2,aI 1 0),(3,aI 2 0),(24,bj.A b.2.1),(25,R (c b.2.1)),(26,R e)])
  (λe=>[.cells 30 [.c (.A v 2 (c b.1) (a2.fn b.1)),.c (.A v 2 (c b.2.1) (bj.fn b.2.1)),.c (.A v 2 (c b.2.2) (a3.fn b.2.2))],.cells 30 [cF,cF,cF],.cells 30 [.N 3 (.A (c b.1) 2 0 (c b.1)),.N 4 (.A e 2 0 e),cF],.p 107 2 (c b.1) (a2.fn b.1),.p 104 2 e (bj.fn (b.2.1.take e))]) (λe=>c b.2.1-e) 0 a ?_ a ?_ a u ?_
 .simp
 .simp
 intro e h;by_cases s:e<c b.2.1
 .have ak:b.2.1.getD e (0,[])∈b.2.1:=M;have i:b.2.1.getD (e:Int).toNat bj.D=b.2.1.getD e (0,[]):=M;refine a_ d [27] a PK (g.aw (e+1) a C Fk M ?_);omega
 obtain rfl:e=c b.2.1:=u;rw[cY];refine a_ d [-27] a C (g.az ?_);refine b_ d a A (g.aA (It b.2.2 k) [] a (b_ d a A (g.bc () [3,4] ?_ (λo j=>absurd j C))));simp
def I8(b)(q:c b.1<=4000000)(B:∀m∈b.1,c m.2<=4000000)(t:c b.2.1<=4000000)(N:ln b)(k:c b.2.2<=4000000):
  Z p 84 [b9 b] [] (.n (.agg [.N 0 (.A (c b.1) 2 0 (c b.1)),.N 1 (.A (c b.2.1) 2 0 (c b.2.1)),.N 2 (.A (c b.2.2) 2 0 (c b.2.2))])) [.p 107 2 (c b.1) (a2.fn b.1),.p 104 2 (c b.2.1) (bj.fn b.2.1),.p 140 2 (c b.2.2) (a3.fn b.2.2)]:=by
 refine Z.bb bc func84 rfl rfl rfl λr=>?_;have d:ba p [(121,xt),(122,xu)]:=.cons Er (.cons Es .nil);refine a_ d [902] a A (g.ej 2 0 107 2 (a2.fn []) a a ?_);refine g.ej 2 1 104 2 (bj.fn []) a a ?_;refine b_ d a A ?_;refine g.aC 5 (λe=>e<=c b.1) (λe:Nat=>[(1,aI 0 0),(2,aI 1 0),(3,aI 2 0),(9,a2.A b.1),(10,R (c b.1)),(11,R e)])
  (λe=>[.cells 30 [.c (.A v 2 (c b.1) (a2.fn b.1)),.c (.A v 2 (c b.2.1) (bj.fn b.2.1)),.c (.A v 2 (c b.2.2) (a3.fn b.2.2))],.cells 30 [cF,cF,cF],.cells 30 [.N 3 (.A e 2 0 e),.N 4 (.A 0 2 0 0),cF],.p 107 2 e (a2.fn (b.1.take e)),.p 104 2 0 (bj.fn [])]) (λe=>c b.1-e) 0 a ?_ a ?_ a u ?_
 .simp
 .simp
 intro e h;by_cases s:e<c b.1
 .have ak:b.1.getD e (0,[])∈b.1:=M;have i:b.1.getD (e:Int).toNat a2.D=b.1.getD e (0,[]):=M;refine a_ d [12] a Pn (g.aw (e+1) a C P6 M ?_);omega
 obtain rfl:e=c b.1:=u;rw[cY];refine a_ d [-12] a C (g.az ?_);refine b_ d a A ?_;refine g.aC 5 (λe=>e<=c b.2.1) (λe:Nat=>[(1,aI 0 0),(2,aI 1 0),(3,aI 2 0),(24,bj.A b.2.1),(25,R (c b.2.1)),(26,R e)])
  (λe=>[.cells 30 [.c (.A v 2 (c b.1) (a2.fn b.1)),.c (.A v 2 (c b.2.1) (bj.fn b.2.1)),.c (.A v 2 (c b.2.2) (a3.fn b.2.2))],.cells 30 [cF,cF,cF],.cells 30 [.N 3 (.A (c b.1) 2 0 (c b.1)),.N 4 (.A e 2 0 e),cF],.p 107 2 (c b.1) (a2.fn b.1),.p 104 2 e (bj.fn (b.2.1.take e))]) (λe=>c b.2.1-e) 0 a ?_ a ?_ a u ?_
 .simp
 .simp
 intro e h;by_cases s:e<c b.2.1
 .have ak:b.2.1.getD e (0,[])∈b.2.1:=M;have i:b.2.1.getD (e:Int).toNat bj.D=b.2.1.getD e (0,[]):=M;refine a_ d [27] a PK (g.aw (e+1) a C Fk M ?_);omega
 obtain rfl:e=c b.2.1:=u;rw[cY];refine a_ d [-27] a C (g.az ?_);refine b_ d a A (g.aA (Ir b.2.2 k) [] a (b_ d a A (g.bc () [3,4,5] ?_ (λo j=>absurd j C))));simp
def gR(d:α->Bool)(b:m α):Int:=match b.findIdx? d with|some a=>a|none=>-1
def s4{a:α->Bool}{o}{N}(d:e<c o)(h:a (o.getD e N)=l)(g:∀b,b<e->a (o.getD b N)=v):gR a o=e:=by
 have:o.findIdx? a=f e:=by grind[List.findIdx?_eq_some_iff_getElem]
 rw[gR,this]
def s5{a:α->Bool}{o}{N}(d:∀b,b<c o->a (o.getD b N)=v):gR a o=-1:=by have:o.findIdx? a=n:=ww;rw[gR,this]
def Vb(d)(x:c d<=4000000)(i)(ag)(b:b'->Bool)(o:∀k,k∈d->Z p i [fH k,ax (.O ag)] [] (bh (b k)) []):
  Z p 110 [cD 0 (.A (c d) 2 0 (c d)),ax (.fn (.func i) [] [.O ag])] [.p 107 2 (c d) (a2.fn d)] (R (gR b d)) [.p 107 2 (c d) (a2.fn d)]:=by
 refine Z.I func110 rfl λr=>?_;refine aO a A (g.aC 1 (λe=>e<=c d/\∀t,t<e->b (d.getD t (0,[]))=v) (λe:Nat=>[(0,cD 0 (.A (c d) 2 0 (c d))),(1,ax (.fn (.func i) [] [.O ag])),(7,R (c d)),(8,R e)]) (λ_=>[.p 107 2 (c d) (a2.fn d)]) (λe=>c d-e) 0 a C a C a ⟨by omega,by omega⟩ ?_);rintro e ⟨q,w⟩;by_cases s:e<c d
 .have h:d.getD e (0,[])∈d:=M;have m:d.getD ((0+(e:Int).toNat:Nat)) a2.D=d.getD e (0,[]):=nN;refine a5 [9] a bu ?_;rw[m];refine g.aA (o _ h) [] a ?_;cases B:b (d.getD e (0,[]))with
  |true=>
   exact N_
  |false=>
   exact zO
 exact P0
def Vf(d)(x:c d<=4000000)(i)(ag)(b:eK->Bool)(o:∀k,k∈d->Z p i [iT k,ax (.O ag)] [] (bh (b k)) []):
  Z p 124 [cD 0 (.A (c d) 2 0 (c d)),ax (.fn (.func i) [] [.O ag])] [.p 104 2 (c d) (bj.fn d)] (R (gR b d)) [.p 104 2 (c d) (bj.fn d)]:=by
 refine Z.I func124 rfl λr=>?_;refine aO a A (g.aC 1 (λe=>e<=c d/\∀t,t<e->b (d.getD t (0,[]))=v) (λe:Nat=>[(0,cD 0 (.A (c d) 2 0 (c d))),(1,ax (.fn (.func i) [] [.O ag])),(7,R (c d)),(8,R e)]) (λ_=>[.p 104 2 (c d) (bj.fn d)]) (λe=>c d-e) 0 a C a C a ⟨by omega,by omega⟩ ?_);rintro e ⟨q,w⟩;by_cases s:e<c d
 .have h:d.getD e (0,[])∈d:=M;have m:d.getD ((0+(e:Int).toNat:Nat)) bj.D=d.getD e (0,[]):=nN;refine a5 [9] a bu ?_;rw[m];refine g.aA (o _ h) [] a ?_;cases B:b (d.getD e (0,[]))with
  |true=>
   exact N_
  |false=>
   exact zO
 exact P0
def U7(d)(y:c d<=4000000)(i)(ag)(j:(Int×Int)->Bool)(q:∀k,k∈d->Z p i [.n (.agg [.c (.int .i64 k.1),.c (.int .i64 k.2)]),ax (.O ag)] [] (bh (j k)) []):
  Z p 191 [a3.A d,ax (.fn (.func i) [] [.O ag])] [] (R (gR j d)) []:=by
 refine Z.I func191 rfl λw=>?_;refine aO a A (g.aC 0 (λe=>e<=c d/\∀b,b<e->j (d.getD b (0,0))=v) (λe:Nat=>[(0,a3.A d),(1,ax (.fn (.func i) [] [.O ag])),(7,R (c d)),(8,R e)]) (λ_=>[]) (λe=>c d-e) 0 a C a C a ⟨by omega,by omega⟩ ?_);rintro e ⟨t,m⟩;by_cases s:e<c d
 .have h:d.getD e (0,0)∈d:=M;have o:d.getD (((e:Int).toNat)) a3.D=d.getD e (0,0):=nN;refine a5 [9] a bu ?_;rw[o];refine g.aA (q _ h) [] a ?_;cases r:j (d.getD e (0,0))with
  |true=>
   refine a5 [16] a C (g.aT (bY.mk [] a ?_ a a a eW));simp[s4 s r m]
  |false=>
   exact zO
 refine a5 [-9] a bQ (g.az ?_);refine aO a A (g.aJ [] a ?_ eW);simp[s5 (λb x=>m b u)]
def yq(b:α->Bool)(d):(gR b d=-1/\∀a∈d,b a=v)∨∃e:Nat,e<c d/\gR b d=e/\(∀a∈d.take e,b a=v)/\(∀a,d[e]?=f a->b a=l):=by unfold gR;grind[List.findIdx?_eq_some_iff_getElem,List.getElem_of_mem]
def Ny{e5 bp}{b}(a:¬(e5<=t/\t<bp)):nK e5 bp b U t=U t:=bm a
theorem ih{a:m α}(d:e<c a)(b:α):a.take (e+1)=a.take e++[a.getD e b]:=by grind[List.take_add_one]
def Jn{d}{b:α->Bool}(g:e<c d)(h:∀a∈d.take e,b a=v)(i:∀a,d[e]?=f a->b a=l):(d.take (e+1)).filter (λa=>!b a)=d.take e:=by grind[List.take_add_one,List.filter_eq_self]
def _root_.Go.AM.c1.cT(a:c1 α)(d)(e)(b)(j)(g:j<=c d):bs j (l3 e (a.a2 b) (a.fn d)) (a.fn (d.set e b)):=by intro i h;simp only[l3,c1.fn,gG];grind
structure RF(d:m b')(bi:b'->Bool)(t:Nat)(nJ:m b'):Prop where
 fH:t<=c d
 len:c nJ=c d
 done:nJ.take (c ((d.take t).filter λD=>!bi D))=(d.take t).filter λD=>!bi D
 hN:∀e,t<=e->nJ[e]?=d[e]?
def Ux(d)(x:c d<=4000000)(i)(ag)(bi:b'->Bool)(o:∀D,D∈d->Z p i [fH D,ax (.O ag)] [] (bh (bi D)) []):
  bl (ι:={k:Nat->m K // ∀e,e<c (d.filter λD=>!bi D)->k e=a2.fn (d.filter λD=>!bi D) e}) p 152 [cD 0 (.A (c d) 2 0 (c d)),ax (.fn (.func i) [] [.O ag])] [.p 107 2 (c d) (a2.fn d)]
   (λ_=>cD 0 (.A (c d) 2 0 (c (d.filter λD=>!bi D)))) (λk=>[.p 107 2 (c d) k.1]):=by
 refine bl.ca func152 rfl rfl rfl λF=>?_;refine aO a A (g.aA (Vb d x i ag bi o) [0] a ?_);rcases yq bi d with⟨j,z⟩|⟨i0,B,j,z,aa⟩
 .rw[j];have y:d.filter (λD=>!bi D)=d:=sm.2 λD q=>by grind
  refine a5 [12] a C (g.bu ⟨a2.fn d,λe _=>by grind⟩ (g.aJ [0] a ?_ h7));simp[y]
 rw[j];refine a5 [-12] a kT ?_;refine g.aC 1 (λb:Nat×m b'=>RF d bi b.1 b.2) (λb=>[(0,cD 0 (.A (c d) 2 0 (c d))),(1,ax (.fn (.func i) [] [.O ag])),(5,R (c ((d.take b.1).filter λD=>!bi D))),(6,R b.1)])
  (λb=>[.p 107 2 (c d) (a2.fn b.2)]) (λb=>c d-b.1) (i0+1,d) a ?_ a ?_ a ?_ ?_
 .exact P7
 .simp
 .exact Q3
 rintro⟨t,N⟩ ⟨r,a9,S,bx⟩;simp only at r a9 S bx;by_cases I:t<c d
 .have q:d.getD t (0,[])∈d:=M;have s:c ((d.take t).filter λD=>!bi D)<=t:=fG (j7 _ _) M;have E:N.getD (0+(t:Int).toNat) a2.D=d.getD t (0,[]):=M;refine a5 [19] a pG ?_;rw[E];refine g.aA (o _ q) [] a ?_;cases J:bi (d.getD t (0,[]))with
  |false=>
   have h:(d.take (t+1)).filter (λD=>!bi D)=(d.take t).filter (λD=>!bi D)++[d.getD t (0,[])]:=ij;refine a5 [29] a ?_ (g.aw (t+1,N.set (c ((d.take t).filter λD=>!bi D)) (d.getD t (0,[]))) a ?_ ?_ ?_ ?_)
   .simp only[T,a8];grind
   .simp[h]
   .have au:=a2.cT N (c ((d.take t).filter λD=>!bi D)) (d.getD t (0,[])) (c d) u;exact OF
   .refine⟨by grind,by grind,Ou,λe bp=>?_⟩;grind
   grind
  |true=>
   have h:(d.take (t+1)).filter (λD=>!bi D)=(d.take t).filter (λD=>!bi D):=ij;refine a5 [-29] a kT (g.aw (t+1,N) a ?_ ?_ ?_ ?_)
   .simp[h]
   .simp
   .exact Qf
   grind
 obtain rfl:t=c d:=u;rw[cY]at S⊢;have s:c (d.filter λD=>!bi D)<=c d:=j7 _ _;refine a5 [-19] a C (g.az ?_);refine aO a pG (g.aK (a0.eX bc a a a a a a wv) a a ?_);refine aO a pG (g.bu ⟨nK (0+bU 0 (f (c (d.filter λD=>!bi D):Int))) (0+bU 0 (f (c (d.filter λD=>!bi D):Int))+(bU (c d) n-bU 0 (f (c (d.filter λD=>!bi D):Int)))) nq.zero (a2.fn N),λe bp=>O4⟩ (g.aJ [0] a ?_ h7));simp[bU];rfl
structure RG(d:m eK)(bi:eK->Bool)(t:Nat)(nJ:m eK):Prop where
 fH:t<=c d
 len:c nJ=c d
 done:nJ.take (c ((d.take t).filter λD=>!bi D))=(d.take t).filter λD=>!bi D
 hN:∀e,t<=e->nJ[e]?=d[e]?
def IB(d)(x:c d<=4000000)(i)(ag)(bi:eK->Bool)(o:∀D,D∈d->Z p i [iT D,ax (.O ag)] [] (bh (bi D)) []):
  bl (ι:={k:Nat->m K // ∀e,e<c (d.filter λD=>!bi D)->k e=bj.fn (d.filter λD=>!bi D) e}) p 85 [cD 0 (.A (c d) 2 0 (c d)),ax (.fn (.func i) [] [.O ag])] [.p 104 2 (c d) (bj.fn d)]
   (λ_=>cD 0 (.A (c d) 2 0 (c (d.filter λD=>!bi D)))) (λk=>[.p 104 2 (c d) k.1]):=by
 refine bl.ca func85 rfl rfl rfl λF=>?_;refine aO a A (g.aA (Vf d x i ag bi o) [0] a ?_);rcases yq bi d with⟨j,z⟩|⟨i0,B,j,z,aa⟩
 .rw[j];have y:d.filter (λD=>!bi D)=d:=sm.2 λD q=>by grind
  refine a5 [12] a C (g.bu ⟨bj.fn d,λe _=>by grind⟩ (g.aJ [0] a ?_ h7));simp[y]
 rw[j];refine a5 [-12] a kT ?_;refine g.aC 1 (λb:Nat×m eK=>RG d bi b.1 b.2) (λb=>[(0,cD 0 (.A (c d) 2 0 (c d))),(1,ax (.fn (.func i) [] [.O ag])),(5,R (c ((d.take b.1).filter λD=>!bi D))),(6,R b.1)])
  (λb=>[.p 104 2 (c d) (bj.fn b.2)]) (λb=>c d-b.1) (i0+1,d) a ?_ a ?_ a ?_ ?_
 .exact P7
 .simp
 .exact Q3
 rintro⟨t,N⟩ ⟨r,a9,S,bx⟩;simp only at r a9 S bx;by_cases I:t<c d
 .have q:d.getD t (0,[])∈d:=M;have s:c ((d.take t).filter λD=>!bi D)<=t:=fG (j7 _ _) M;have E:N.getD (0+(t:Int).toNat) bj.D=d.getD t (0,[]):=M;refine a5 [19] a pG ?_;rw[E];refine g.aA (o _ q) [] a ?_;cases J:bi (d.getD t (0,[]))with
  |false=>
   have h:(d.take (t+1)).filter (λD=>!bi D)=(d.take t).filter (λD=>!bi D)++[d.getD t (0,[])]:=ij;refine a5 [29] a ?_ (g.aw (t+1,N.set (c ((d.take t).filter λD=>!bi D)) (d.getD t (0,[]))) a ?_ ?_ ?_ ?_)
   .simp only[T,a8];grind
   .simp[h]
   .have au:=bj.cT N (c ((d.take t).filter λD=>!bi D)) (d.getD t (0,[])) (c d) u;exact OF
   .refine⟨by grind,by grind,Ou,λe bp=>?_⟩;grind
   grind
  |true=>
   have h:(d.take (t+1)).filter (λD=>!bi D)=(d.take t).filter (λD=>!bi D):=ij;refine a5 [-29] a kT (g.aw (t+1,N) a ?_ ?_ ?_ ?_)
   .simp[h]
   .simp
   .exact Qf
   grind
 obtain rfl:t=c d:=u;rw[cY]at S⊢;have s:c (d.filter λD=>!bi D)<=c d:=j7 _ _;refine a5 [-19] a C (g.az ?_);refine aO a pG (g.aK (a0.eX bc a a a a a a wv) a a ?_);refine aO a pG (g.bu ⟨nK (0+bU 0 (f (c (d.filter λD=>!bi D):Int))) (0+bU 0 (f (c (d.filter λD=>!bi D):Int))+(bU (c d) n-bU 0 (f (c (d.filter λD=>!bi D):Int)))) rG.zero (bj.fn N),λe bp=>O4⟩ (g.aJ [0] a ?_ h7));simp[bU];rfl
abbrev dR:=Int×Int×Int×bC
abbrev lX(a:dR):m K:=[.int .i64 a.1,.int .i64 a.2.1,.int .i64 a.2.2.1,.V a.2.2.2]
abbrev vp(a:dR):m O:=[.c (.int .i64 a.1),.c (.int .i64 a.2.1),.c (.int .i64 a.2.2.1),.c (.V a.2.2.2)]
abbrev eG(a:dR):x:=.n (.agg (vp a))
abbrev iR(a:m K):x:=ax (.O a)
def Vx(b)(d):Z p 153 [fH b,iR (lX d)] [] (bh (b.1==d.2.1)) []:=by refine Z.I func153 rfl λe=>?_;exact aO a A (g.aq a)
def Vy(d:Int×Int)(bN)(j)(b:Nat->m K):Z p 156 [.n (.agg [.c (.int .i64 d.1),.c (.int .i64 d.2)]),iR [.int .i64 bN,.A v 2 j b]] [] (bh (d.2==bN)) []:=by refine Z.I func156 rfl λe=>?_;exact aO a A (g.aq a)
def YP(a:α->Bool)(d):decide (gR a d≥0)=d.any a:=by
 rcases yq a d with⟨b,r⟩|⟨e,bp,b,_,i⟩
 .grind
 rw[b];symm;have:=i _ (bI bp);grind
def U0(d)(h:c d<=4000000)(bN)(j)(b:Nat->m K):Z p 144 [a3.A d,ax (.fn (.func 156) [] [.O [.int .i64 bN,.A v 2 j b]])] [] (bh (d.any λe=>e.2==bN)) []:=by refine Z.I func144 rfl λk=>?_;refine aO a A ?_;refine g.aA (U7 d h 156 [.int .i64 bN,.A v 2 j b] (λe=>e.2==bN) λi _=>Vy i bN j b) [] a ?_;refine aO a A (g.aq a ?_);simp only[T];exact YP _ d
def Wd(d)(b)(e:c b<=4000000):Z p 155 [iT d,iR [.A v 2 (c b) (a3.fn b)]] [] (bh (b.any λh=>h.2==d.1)) []:=by refine Z.I func155 rfl λi=>?_;refine a5 [901] a A ?_;refine g.freeze 2 0 a a a ?_;refine aO a A ?_;refine g.aA (U0 b e d.1 (c d.2) (cA.fn d.2)) [] a ?_;exact aO a A (g.aq a)
abbrev xH(a:Nat)(b:dR):x:=ax (.fn (.func a) [] [.O (lX b)])
def Us(d)(s:d.1=1):Z p 117 [eG d] [] (xH 151 d) []:=by refine Z.I func117 rfl λb=>?_;refine a5 [901] a A ?_;refine g.freeze 1 0 a a a ?_;exact a5 [5] a g6 (g.aq a)
def Iz(d)(s:d.1=2):Z p 117 [eG d] [] (xH 154 d) []:=by refine Z.I func117 rfl λb=>?_;refine a5 [901] a A ?_;refine g.freeze 1 0 a a a ?_;exact a5 [-5,8] a g6 (g.aq a)
def IA(d)(s:d.1=3):Z p 117 [eG d] [] (xH 157 d) []:=by refine Z.I func117 rfl λb=>?_;refine a5 [901] a A ?_;refine g.freeze 1 0 a a a ?_;exact a5 [-5,-8,11] a g6 (g.aq a)
def Ut(d)(s:d.1=4):Z p 117 [eG d] [] (xH 158 d) []:=by refine Z.I func117 rfl λb=>?_;refine a5 [901] a A ?_;refine g.freeze 1 0 a a a ?_;exact a5 [-5,-8,-11,14] a g6 (g.aq a)
def Uu(d)(h:d.1≠1)(b:d.1≠2)(i:d.1≠3)(e:d.1≠4):Z p 117 [eG d] [] (ax (.fn (.func 159) [] [])) []:=by refine Z.I func117 rfl λj=>?_;refine a5 [901] a A ?_;refine g.freeze 1 0 a a a ?_;exact a5 [-5,-8,-11,-14] a (by simp[h,b,i,e]) (g.aq a)
abbrev tz(a:m b'):K:=.A v 2 (c a) (a2.fn a)
abbrev tA(a:m eK):K:=.A v 2 (c a) (bj.fn a)
abbrev hX(a:m (Int×Int)):K:=.A v 2 (c a) (a3.fn a)
abbrev tB(a:cz)(g:dR)(h:m ap)(b d e:O):m ap:=[.cells 30 [.c (tz a.1),.c (tA a.2.1),.c (hX a.2.2)],.cells 35 (vp g),.cells 30 [cF,cF,cF]]++h++[.cells 30 [b,d,e]]
abbrev dC(a d b:Nat):O:=.N a (.A d 2 0 b)
def Uz(b)(d)(k:c b.1<=4000000):
  bl (ι:={e:Nat->m K // ∀i,i<c (b.1.filter λh=>!(h.1==d.2.1))->e i=a2.fn (b.1.filter λh=>!(h.1==d.2.1)) i}) p 151 [aI 5 0,iR (lX d)]
   (tB b d [.p 107 2 (c b.1) (a2.fn b.1),.p 104 2 (c b.2.1) (bj.fn b.2.1)] (dC 3 (c b.1) (c b.1)) (dC 4 (c b.2.1) (c b.2.1)) (.c (hX b.2.2)))
   (λ_=>.Q []) (λe=>tB b d [.p 107 2 (c b.1) e.1,.p 104 2 (c b.2.1) (bj.fn b.2.1)] (dC 3 (c b.1) (c (b.1.filter λh=>!(h.1==d.2.1)))) (dC 4 (c b.2.1) (c b.2.1)) (.c (hX b.2.2))):=by refine bl.bP func151 rfl rfl rfl (g.aR ?_);refine aO a A (g.aX (Ux b.1 k 153 (lX d) (λh=>h.1==d.2.1) λh _=>Vx h d) [3] a bk ?_);rintro⟨e,j⟩;exact aO a A ⟨⟨e,j⟩,.inr a,a,a,_,_,_,a,a,a,A⟩
def Wx(k)(d:jN k=l)(b):Z p 159 [.n (.R b)] k (.Q []) k:=by refine bl.toZ (bl.bP (ι:=Unit) (res:=λ_=>.Q []) (an:=λ_=>k) func159 rfl rfl rfl (g.aR ?_));refine aO a A ?_;exact⟨(),.inr a,a,d,_,_,_,a,a,a,A⟩
abbrev mN(a:cz)(b:dR):m ap:=tB a b [.p 107 2 (c a.1) (a2.fn a.1),.p 104 2 (c a.2.1) (bj.fn a.2.1)] (dC 3 (c a.1) (c a.1)) (dC 4 (c a.2.1) (c a.2.1)) (.c (hX a.2.2))
def jq(d:Nat)(a:m (Int×Int))(e:eK):Bool:=(a.drop d).any λb=>b.2==e.1
def TR(b)(d:dR)(e:d.2.1<0∨d.2.1>c b.2.2):Z p 154 [aI 5 0,iR (lX d)] (mN b d) (.Q []) (mN b d):=by
 refine bl.toZ (bl.bP (ι:=Unit) (res:=λ_=>.Q []) (an:=λ_=>mN b d) func154 rfl rfl rfl (g.aR ?_));by_cases w:d.2.1<0
 .exact a5 [7,16] a oJ Oi
 exact a5 [-7,16] a bQ Oi
def _root_.Go.AM.c1.g'(a:c1 α)(d)(j z):bs z (fs j (a.fn d)) (a.fn (d.drop j)):=λb _=>by simp[fs,c1.fn,gG,aj]
abbrev H8:x:=aI 5 0
abbrev G2(b:cz)(a:dR):K:=.A (xF v n) 2 (bU (c b.2.2) n-bU 0 (f a.2.1)) (fs (bU 0 (f a.2.1)) (a3.fn b.2.2))
def np(b:cz)(a:dR)(d:Nat)(e:a.2.1=d)(g:d<=c b.2.2):T (ji (c b.2.2) (f a.2.1) n):=by show 0<=a.2.1/\a.2.1<=(c b.2.2:Int);omega
def TS(b:cz)(d:dR)(j:Nat)(i:d.2.1=j)(s:j<=c b.2.2)(t:c b.2.1<=4000000)(x:c b.2.2<=4000000):
  bl (ι:={e:Nat->m K // ∀h,h<c (b.2.1.filter λk=>!jq j b.2.2 k)->e h=bj.fn (b.2.1.filter λk=>!jq j b.2.2 k) h}) p 154 [aI 5 0,iR (lX d)] (mN b d) (λ_=>.Q [])
   (λe=>tB b d [.p 107 2 (c b.1) (a2.fn b.1),.p 104 2 (c b.2.1) e.1] (dC 3 (c b.1) (c b.1)) (dC 4 (c b.2.1) (c (b.2.1.filter λk=>!jq j b.2.2 k))) (.c (.A v 2 d.2.1.toNat (a3.fn b.2.2)))++[.M]):=by
 refine bl.bP func154 rfl rfl rfl (g.aR ?_);have q:d.2.1.toNat=j:=u;refine a5 [-7,-16,901] a pG ?_;refine g.hH (ι:=Unit) b5 7 8 (λh=>ay h 6) (λh=>[H8,H8,aI 5 2,ax (hX b.2.2),iR [.int .i64 d.2.1,.int .i64 d.2.2.1,.V d.2.2.2],R d.2.1,ax (G2 b d)].getD h .any) (λ_ h=>[.any,.any,.any,.any,.any,.any,.any,aI 6 0,.any].getD h .any)
  (λ_=>mN b d++[.cells 28 [cF]]) (λ_=>mN b d++[.cells 28 [.c (G2 b d)]]) a a a a a a a a a a
  ⟨aZ.u,aZ.u,aZ.u,aZ.u,aZ.u,aZ.u,?_,A,A,A⟩
  (λ_=>⟨aZ.u,aZ.u,aZ.u,aZ.u,aZ.u,aZ.u,?_,A,A⟩)
  (dV.dd (ef (bf:=[]) bc ba.nil (an:=f _) (cl:=[]) a A)) (λ_=>ef (bf:=[]) bc ba.nil (an:=f _) (cl:=[]) a A) λ_=>?_
 .exact QB
 .exact QB
 refine a5 [902] a A (g.a_ (mN b d++[.cells 28 [.c (hX (b.2.2.drop j))]]) a ?_ ?_)
 .have r:=a3.g' b.2.2 j (c b.2.2-j);have w:bU 0 (f d.2.1)=j:=q;simp only[T.Z,T,w,a7,a',so];exact⟨⟨bs.same,bs.same,bs.same⟩,⟨bs.same,bs.same,bs.same⟩,bs.same,bs.same,bs.same,a,r⟩
 refine g.freeze 3 6 a a a ?_;refine aO a A (g.aX (IB b.2.1 t 155 [hX (b.2.2.drop j)] (jq j b.2.2) λk _=>Wd k (b.2.2.drop j) bQ) [4] a bk ?_);rintro⟨e,o⟩;exact aO a ⟨show 0<=d.2.1 by omega,Int.le_refl _,show d.2.1<=(c b.2.2:Int) by omega⟩ ⟨⟨e,o⟩,.inr a,a,a,_,_,_,a,a,a,A⟩
abbrev oA(a:cz)(d:dR)(b:Nat->m K):m ap:=tB a d [.p 107 2 (c a.1) (a2.fn a.1),.p 104 2 (c a.2.1) (bj.fn a.2.1),.p 140 2 (c a.2.2) b] (dC 3 (c a.1) (c a.1)) (dC 4 (c a.2.1) (c a.2.1)) (dC 5 (c a.2.2) (c a.2.2))
abbrev yb(b:cz)(a:dR):Nat->m K:=l3 (0+a.2.1.toNat) [.int .i64 (3-(b.2.2.getD (0+a.2.1.toNat) a3.D).1),.int .i64 (b.2.2.getD (0+a.2.1.toNat) a3.D).2] (a3.fn b.2.2)
def UK(b)(d:dR)(h:¬(0<=d.2.1/\d.2.1<c b.2.2)):Z p 158 [aI 6 0,iR (lX d)] (oA b d (a3.fn b.2.2)) (.Q []) (oA b d (a3.fn b.2.2)):=by
 refine bl.toZ (bl.bP (ι:=Unit) (res:=λ_=>.Q []) (an:=λ_=>oA b d (a3.fn b.2.2)) func158 rfl rfl rfl (g.aR ?_));by_cases e:0<=d.2.1
 .exact a5 [6,-15] a (by simp[e];omega) OS
 exact a5 [-6,-15] a bQ OS
abbrev xN:x:=aI 6 0
abbrev H9:x:=aI 6 2
abbrev H5(a:cz):x:=.n (.R (dC 5 (c a.2.2) (c a.2.2)))
abbrev xJ(b:cz)(a:dR):x:=cD 5 (.bt (c b.2.2) 2 (0+a.2.1.toNat) 0)
abbrev H7(a:dR):x:=iR [.int .i64 a.2.1,.int .i64 a.2.2.1,.V a.2.2.2]
abbrev lr(b:cz)(a:dR):Int:=(b.2.2.getD (0+a.2.1.toNat) a3.D).1
def UL(b)(d:dR)(k:0<=d.2.1)(j:d.2.1<c b.2.2)(i:a8 .i64 (3-lr b d)):Z p 158 [aI 6 0,iR (lX d)] (oA b d (a3.fn b.2.2)) (.Q []) (oA b d (yb b d)):=by
 refine bl.toZ (bl.bP (ι:=Unit) (res:=λ_=>.Q []) (an:=λ_=>oA b d (yb b d)) func158 rfl rfl rfl (g.aR ?_));refine a5 [6,15,901] a pG ?_;have cv:0<=d.2.1/\d.2.1<((c b.2.2:Nat):Int):=⟨k,j⟩;have h:c b.2.2=c b.2.2/\0+d.2.1.toNat<c b.2.2:=⟨rfl,by omega⟩
 refine g.hH (ι:=Unit) b5 0 18 (λe=>ay 4 e&&ay e 15) (λe=>[.any,.any,.any,.any,H7 d,R d.2.1,xN,xN,H9,H5 b,H7 d,R d.2.1,xJ b d,xJ b d,R (lr b d),R (3-lr b d)].getD e .any) (λ_ e=>[xN,xN,H9,H5 b,.any,.any,.any,.any,.any,.any,.any,.any,.any,.any,.any,.any,xJ b d,xJ b d,.any].getD e .any)
  (λ_=>oA b d (a3.fn b.2.2)) (λ_=>oA b d (yb b d)) a a a a a a a a a a
  ⟨A,A,A,A,aZ.u,aZ.u,aZ.u,aZ.u,aZ.u,aZ.u,aZ.u,aZ.u,?_,aZ.u,?_,?_,A,A,A,A⟩
  (λ_=>⟨A,aZ.u,aZ.u,aZ.u,aZ.u,aZ.u,aZ.u,aZ.u,aZ.u,aZ.u,aZ.u,aZ.u,?_,aZ.u,?_,?_,?_,aZ.u,A⟩)
  (dV.dd (aZ.u)) (λ_=>?_) λ_=>?_
 .exact EW
 .exact aZ.eval (bf:=[]) bc ba.nil a h
 .exact aZ.eval (bf:=[]) bc ba.nil a i
 .exact EW
 .exact aZ.eval (bf:=[]) bc ba.nil a h
 .exact aZ.eval (bf:=[]) bc ba.nil a i
 .exact EW
 .exact ef (bf:=[]) bc ba.nil (an:=f _) a h
 exact Q6
def Vj(j e5 bp):Z p 31 [R j,R e5,R bp] [] (bh (decide (e5<=j/\j<=bp))) []:=by
 refine Z.I func31 rfl λd=>?_;by_cases b:e5<=j
 .by_cases r:j<=bp
  .refine a5 [10,14] a bQ (g.aq a ?_);exact bu
  refine a5 [10,-14] a bQ (g.aq a ?_);simp;omega
 refine a5 [-10,-14] a bQ (g.aq a ?_);simp;omega
abbrev kH:bK:=kh c8 c8 c8 (λd b a=>bh (decide (b<=d/\d<=a))) λ_ _ _=>[]
def lp:bL p 31 kH:=.c5 λd b a _=>Vj d b a
def T7(b:Nat)(k:b<=4000000):Z p 214 [R b] [] (R (fa b)) []:=by
 refine Z.I func214 rfl λj=>?_;by_cases i:b<1
 .refine a5 [6,9] a bQ (g.aq a ?_);have:fa b=0:=by simp[fa,i]
  simp[this]
 by_cases h:8<b
 .refine a5 [-6,9] a bQ (g.aq a ?_);have:fa b=0:=by simp[fa,h]
  simp[this]
 by_cases d:b<=2
 .refine a5 [-6,-9,10] a bQ (g.aq a ?_);have:fa b=2:=by simp only[fa,bm (show¬(b<1∨8<b) by omega),bo d]
  simp[this]
 by_cases e:b<=4
 .refine a5 [-6,-9,-10,13] a bQ (g.aq a ?_);have:fa b=4:=by simp only[fa,bm (show¬(b<1∨8<b) by omega),bm d,bo e]
  simp[this]
 refine a5 [-6,-9,-10,-13] a bQ (g.aq a ?_);have:fa b=8:=by simp only[fa,bm (show¬(b<1∨8<b) by omega),bm d,bm e]
 simp[this]
def Vi(d)(e)(o:c d<=4000000):Z p 177 [bS.A d,b1 e] [] (bh (d.contains e)) []:=by
 refine Z.I func177 rfl λm=>?_;refine aO a A (g.aC 0 (λb=>b<=c d/\∀i,i<b->d.getD i []≠e) (λb:Nat=>[(0,bS.A d),(1,b1 e),(5,R b)]) (λ_=>[]) (λb=>c d-b) 0 a C a C a ⟨by omega,by omega⟩ ?_);rintro b ⟨j,k⟩;by_cases s:b<c d
 .have h:d.getD (b:Int).toNat bS.D=d.getD b []:=M;by_cases q:d.getD b []=e
  .refine a5 [9,17] a ?_ (g.aT (bY.zero a ?_))
   .simp only[T,h];grind
   have:e∈d:=M;simp[this]
  refine a5 [9,-17] a ?_ (g.aw (b+1) a ?_ ?_ ?_ ?_)
  .simp only[T,h,a8];grind
  .simp
  .simp
  .grind
  omega
 refine a5 [-9] a bQ (g.az ?_);refine aO a A (g.aq a ?_);have:¬e∈d:=λr=>by grind[List.getElem_of_mem]
 simp[this]
def T'(b)(d:cC b=l):Z p 213 [b1 b] [] (R (gj b)) []:=by
 refine Z.I func213 rfl λo=>?_;have j:=d;simp[cC,cn,bw]at j;refine aO a A (g.aC 0 (λe=>e<=c b) (λe:Nat=>[(0,b1 b),(3,R (gj (b.take e))),(4,R e)]) (λ_=>[]) (λe=>c b-e) 0 a (by simp[gj]) a C a u ?_);intro e i;by_cases k:e<c b
 .have B:=xy d i;have r:=xy d (e:=e+1) u;have q:=HD k;have s:=qv j.2 (b.getD e 0) (CK k);have m:97<=dq b e/\dq b e<=122:=EK;refine a5 [8] a ?_ (g.aw (e+1) a ?_ ?_ ?_ ?_)
  .simp only[T,kg,a8];grind
  .have h:(dq b e-97) % 256=dq b e-97:=Int.emod_eq_of_lt u u;exact bG
  .simp
  .grind
  grind
 obtain rfl:e=c b:=u;exact PL
def acz:bL p 213 (dk eE (λa=>R (gj a)) λa=>[cC a=l]):=.a7 λa b=>T' a b
def Wp(h)(b)(d:cj h=l)(i:cC b=l):Z p 176 [R h,b1 b] [] (R (dY h b)) []:=by
 refine Z.I func176 rfl λq=>?_;have o:ba p [(213,dk eE (λb=>R (gj b)) λb=>[cC b=l])]:=.cons acz .nil;have e:=d;simp[cj,cn,bw]at e;have j:=xx i;refine b_ o a ?_ (g.aq a ?_)
 .have m:0<=gj b*(2*h+1):=Int.mul_nonneg j.1 u;have k:gj b*(2*h+1)<=282429536481*199:=Int.mul_le_mul u u u u;generalize gj b*(2*h+1)=r at m k;simp[T,a8];grind
 exact bG
def zo:bL p 176 (er c8 eE (λa b=>R (dY a b)) λa b=>[cj a=l,cC b=l]):=.bh λa b d=>Wp a b d.1 d.2
def UJ(d)(j)(q:c d<=4000000):Z p 175 [e_.A d,R j] [] (R (iW d j)) []:=by
 refine Z.I func175 rfl λo=>?_;refine aO a A (g.aC 0 (λb=>b<=c d/\∀i,i<b->(d.getD i (0,0)).1≠j) (λb:Nat=>[(0,e_.A d),(1,R j),(5,R b)]) (λ_=>[]) (λb=>c d-b) 0 a C a C a ⟨by omega,by omega⟩ ?_);rintro b ⟨k,m⟩;by_cases s:b<c d
 .have h:d.getD (b:Int).toNat e_.D=d.getD b (0,0):=M;by_cases r:(d.getD b (0,0)).1=j
  .refine a5 [9,18] a ?_ (g.aT (bY.zero a ?_))
   .simp only[T,h];grind
   have:iW d j=(d.getD b (0,0)).2:=by
    have:d.find? (λe=>e.1==j)=f (d.getD b (0,0)):=by grind[List.find?_eq_some_iff_getElem]
    rw[iW,this]
   simp_all
  refine a5 [9,-18] a ?_ (g.aw (b+1) a ?_ ?_ ?_ ?_)
  .simp only[T,h,a8];grind
  .simp
  .simp
  .grind
  omega
 refine a5 [-9] a bQ (g.az ?_);refine aO a A (g.aq a ?_);have:iW d j=0:=by have:d.find? (λe=>e.1==j)=n:=ww;rw[iW,this]
 simp[this]
theorem HA(a:1<=j)(b:j<=8):j<=fa j/\fa j<=8:=FK
abbrev GQ:bK:=dk c8 (λa=>R (fa a.toNat)) λa=>[0<=a/\a<=4000000]
def acy:bL p 214 GQ:=.a7 λb d=>by
 obtain⟨a,rfl⟩:∃a:Nat,b=a:=⟨b.toNat,by exact lH⟩
 exact T7 a lH
def WP(b)(i:cC b=l):Z p 181 [b1 b] [] (b1 (fJ b)) []:=by
 refine Z.I func181 rfl λk=>?_;have e:ba p [(214,GQ)]:=.cons acy .nil;have h:=i;simp only[cC,cn,bw]at h;have o:=HA h.1.1 h.1.2;refine b_ e a bu (g.aC 0 (λd=>c b+d<=fa (c b)) (λd:Nat=>[(0,b1 (b++aW d 46)),(3,R (fa (c b)))]) (λ_=>[]) (λd=>fa (c b)-d) 0 a C a C a u ?_);intro d m;by_cases q:c b+d<fa (c b)
 .refine a_ e [10] a bQ (g.aw (d+1) a ?_ ?_ ?_ ?_)
  .simp[List.replicate_succ']
  .simp
  .grind
  grind
 have j:fa (c b)-c b=d:=u;refine a_ e [-10] a bQ (g.az ?_);refine b_ e a A (g.aq a ?_);simp[fJ,i,j]
def Xv(b):Z p 178 [.n (.agg [.c (.int .i64 b.1),.c (.int .i64 b.2)])] [] (bh (fX b)) []:=by
 refine Z.I func178 rfl λh=>?_;have e:ba p [(31,kH)]:=.cons lp .nil;by_cases d:0<=b.1/\b.1<=999999999988
 .by_cases i:1<=b.2/\b.2<=99
  .refine a_ e [6,10] a (by simp[d,i]) (g.aq a ?_);have:fX b=l:=by simp[fX,d,i];omega
   simp[this]
  refine a_ e [6,-10] a (by simp[d,i]<;>omega) (g.aq a ?_);have:fX b=v:=by simp[fX,d];omega
  simp[this]
 refine a_ e [-6,-10] a bQ (g.aq a ?_);have:fX b=v:=by simp[fX];omega
 simp[this]
abbrev Ho:bK:=dk sk (λa=>bh (fX a)) λ_=>[]
def adg:bL p 178 Ho:=.a7 λa _=>Xv a
def JU{a:α->Bool}{d}(b:d.any a=l):0<=gR a d:=by unfold gR;grind
theorem YQ{a:α->Bool}{d}(b:d.any a=v):gR a d=-1:=by unfold gR;grind
def U8(d)(i)(b:Int×Int->Bool)(r:∀h,h∈d->Z p i [.n (.agg [.c (.int .i64 h.1),.c (.int .i64 h.2)])] [] (bh (b h)) []):
  Z p 191 [a3.A d,ax (.fn (.func i) [] [])] [] (R (gR b d)) []:=by
 refine Z.I func191 rfl λm=>?_;have x:=m.A 0 a;refine aO a A (g.b' (λe=>e<=c d/\∀t,t<e->b (d.getD t (0,0))=v) (λe:Nat=>[(0,a3.A d),(1,ax (.fn (.func i) [] [])),(7,R (c d)),(8,R e)]) (λ_=>[]) (λe=>c d-e) 0 a C a A ⟨by omega,by omega⟩ ?_);rintro e ⟨o,w⟩;by_cases s:e<c d
 .have j:d.getD e (0,0)∈d:=M;have k:d.getD (e:Int).toNat a3.D=d.getD e (0,0):=M;refine a5 [9] a bu ?_;rw[k];refine g.aA (r _ j) [] a ?_;cases z:b (d.getD e (0,0))with
  |true=>
   exact OI
  |false=>
   exact Ol
 exact N9
def UV(d)(h)(b:Int×Int->Bool)(i:∀e,e∈d->Z p h [.n (.agg [.c (.int .i64 e.1),.c (.int .i64 e.2)])] [] (bh (b e)) []):
  Z p 144 [a3.A d,ax (.fn (.func h) [] [])] [] (bh (d.any b)) []:=by
 refine Z.I func144 rfl λj=>?_;refine aO a A (g.aA (U8 d h b i) [] a ?_);cases s:d.any b with
 |true=>
  exact N7
 |false=>
  exact Py
def Vd(d)(i)(ag)(b:b'->Bool)(r:∀h,h∈d->Z p i [fH h,ax (.O ag)] [] (bh (b h)) []):
  Z p 110 [a2.A d,ax (.fn (.func i) [] [.O ag])] [] (R (gR b d)) []:=by
 refine Z.I func110 rfl λm=>?_;have x:=m.A 0 a;refine aO a A (g.b' (λe=>e<=c d/\∀t,t<e->b (d.getD t (0,[]))=v) (λe:Nat=>[(0,a2.A d),(1,ax (.fn (.func i) [] [.O ag])),(7,R (c d)),(8,R e)]) (λ_=>[]) (λe=>c d-e) 0 a C a A ⟨by omega,by omega⟩ ?_);rintro e ⟨o,w⟩;by_cases s:e<c d
 .have j:d.getD e (0,[])∈d:=M;have k:d.getD (e:Int).toNat a2.D=d.getD e (0,[]):=M;refine a5 [9] a bu ?_;rw[k];refine g.aA (r _ j) [] a ?_;cases z:b (d.getD e (0,[]))with
  |true=>
   exact OI
  |false=>
   exact Ol
 exact N9
def UX(d)(e)(ag)(b:b'->Bool)(i:∀h,h∈d->Z p e [fH h,ax (.O ag)] [] (bh (b h)) []):
  Z p 73 [a2.A d,ax (.fn (.func e) [] [.O ag])] [] (bh (d.any b)) []:=by
 refine Z.I func73 rfl λj=>?_;refine aO a A (g.aA (Vd d e ag b i) [] a ?_);cases s:d.any b with
 |true=>
  exact N7
 |false=>
  exact Py
def Va(d)(i)(ag)(H:X->(Nat->Option Obj)->Prop)(h:Int->Bool)(t:∀k,k∈d->Z p i [R k,ax (.O ag)] [.J H] (bh (h k)) [.J H]):
  Z p 108 [aA.A d,ax (.fn (.func i) [] [.O ag])] [.J H] (R (gR h d)) [.J H]:=by
 refine Z.I func108 rfl λq=>?_;have x:=q.A 0 a;refine aO a A (g.aC 1 (λe=>e<=c d/\∀b,b<e->h (d.getD b 0)=v) (λe:Nat=>[(0,aA.A d),(1,ax (.fn (.func i) [] [.O ag])),(7,R (c d)),(8,R e)]) (λ_=>[.J H]) (λe=>c d-e) 0 a C a C a ⟨by omega,by omega⟩ ?_);rintro e ⟨s,m⟩;by_cases r:e<c d
 .have j:d.getD e 0∈d:=M;have o:d.getD (e:Int).toNat aA.D=d.getD e 0:=M;refine a5 [9] a bu ?_;rw[o];refine g.aA (t _ j) [0] a ?_;cases w:h (d.getD e 0)with
  |true=>
   refine a5 [16] a C (g.aT (bY.mk [0] a ?_ a a a h7));simp[s4 r w m]
  |false=>
   exact zO
 refine a5 [-9] a bQ (g.az ?_);refine aO a A (g.aJ [0] a ?_ h7);simp[s5 (λb y=>m b u)]
def UW(d)(e)(ag)(H:X->(Nat->Option Obj)->Prop)(b:Int->Bool)(i:∀h,h∈d->Z p e [R h,ax (.O ag)] [.J H] (bh (b h)) [.J H]):
  Z p 70 [aA.A d,ax (.fn (.func e) [] [.O ag])] [.J H] (bh (d.any b)) [.J H]:=by
 refine Z.I func70 rfl λk=>?_;refine aO a A (g.aA (Va d e ag H b i) [0] a ?_);cases j:d.any b with
 |true=>
  refine a5 [8] a (fQ (JU j)) (g.aJ [0] a ?_ h7);simp
 |false=>
  refine a5 [-8] a (oS NS) (g.aJ [0] a ?_ h7);simp
def Gf{b d:ae}(e:q.op=.call {callee:=.builtin .append,args:=#[b,d],argTypes:=#[105,105]}):j0 V q b d 138 mz:=
 ⟨⟨105,105,CS,CS,e,(bc _ _ a),rfl,(bc _ _ a),rfl⟩,(bc _ _ a),by decide,by decide⟩
def G0(d)(j):∀a,a<j->∀e∈bH.fn d a,nk e=l:=by
 intro a _ e b;have:bH.fn d a=[.int .i64 (d.getD a bH.D).1,.V (d.getD a bH.D).2]:=rfl;rw[this]at b;rcases e8.1 b with rfl|b
 .rfl
 rcases e8.1 b with rfl|b
 .rfl
 grind
abbrev pO(a:m cX):Type:={b:fo×m X // ek 2 (c a) (bH.fn a) b.2}
abbrev tj(d)(a:pO d):ap:=.J (cq 138 2 a.1.1 (c d) a.1.2)
abbrev rU(d)(a:pO d):K:=.val (c0 a.1.1 (c d))
def T_(d)(i:0<c d)(k:c d<=4000000):bl (ι:=pO d) p 171 [bH.A d] [] (λb=>ax (rU d b)) (λb=>[tj d b]):=by
 refine bl.ca func171 rfl rfl rfl λj=>?_;refine aO a A (g.en bc a a a a a a λh m=>?_);cases h with
 |true=>grind
 |false=>
  refine gF [] 7 a A (g.fD (Gf a) a a a i zY (G0 d _) a a λb=>?_);refine aO a A (g.bu b (g.aJ [0] a ?_ (λo e=>absurd e C)));simp
def WE(b)(h:0<c b.2)(e:c b.2<=4000000):bl (ι:=pO b.2) p 121 [fH b] [] (λd=>.n (.agg [.c (.int .i64 b.1),.c (rU b.2 d)])) (λd=>[tj b.2 d]):=by refine bl.bG bc func121 rfl rfl rfl λj=>?_;refine aO a A ?_;refine g.aX (T_ b.2 h e) [] a bk ?_;intro d;refine aO a A ?_;refine g.bc d [2] ?_ (λk i=>absurd i C);simp
def nt(a:m b')(b:Nat)(e:X)(d:Nat):K:=if d=b then .val e else .A v 2 (a.getD d (0,[])).2.length (bH.fn (a.getD d (0,[])).2)
def gm(a:m b')(b:Nat)(e:X)(d:Nat):m K:=[.int .i64 (a.getD d (0,[])).1,nt a b e d]
def Ld{Y}{i0}{bx}(s:e≠i0):bs (e+1) (cf e (gm Y i0 bx) (λb=>[a2.a2 (Y.getD e (0,[]))].getD b [])) (gm Y i0 bx):=λa d=>by
 unfold cf;split
 .rfl
 have:a=e:=u;subst this;rw[sw];exact EP
def Le{Y}{i0}{bx EA}:bs (i0+1) (cf i0 (gm Y i0 EA) (λb=>[[.int .i64 (Y.getD i0 (0,[])).1,.val bx]].getD b [])) (gm Y i0 bx):=λa d=>by
 unfold cf;split
 .simp only[gm,nt,bm (show a≠i0 by omega)]
 have:a=i0:=u;subst this;rw[sw];simp only[gm,nt,bo];rfl
abbrev S3:Type:=Nat×fo×Nat×m X
def I3(b:m b')(a:Nat)(d:S3):Prop:=d.1<=c b/\((d.1<=a/\d.2.2.1=0)∨(a<d.1/\d.2.2.1=(b.getD a (0,[])).2.length/\ek 2 (b.getD a (0,[])).2.length (bH.fn (b.getD a (0,[])).2) d.2.2.2))
abbrev Z2(a:S3):ap:=.J (cq 138 2 a.2.1 a.2.2.1 a.2.2.2)
abbrev nI(a:S3):X:=c0 a.2.1 a.2.2.1
def Xz(b)(i0)(V:i0<c b.1)(N:0<(b.1.getD i0 (0,[])).2.length)(x:c b.1<=4000000)(z:∀e∈b.1,c e.2<=4000000)(X:c b.2.1<=4000000)(J:ln b)(S:c b.2.2<=4000000):
  bl (ι:=pO (b.1.getD i0 (0,[])).2) p 84 [b9 b] [] (λ_=>.n (.agg [.N 0 (.A (c b.1) 2 0 (c b.1)),.N 1 (.A (c b.2.1) 2 0 (c b.2.1)),.c (.A v 2 (c b.2.2) (a3.fn b.2.2))]))
   (λj=>[.p 107 2 (c b.1) (gm b.1 i0 (c0 j.1.1 (b.1.getD i0 (0,[])).2.length)),.p 104 2 (c b.2.1) (bj.fn b.2.1),tj (b.1.getD i0 (0,[])).2 j]):=by
 refine bl.bG bc func84 rfl rfl rfl λW=>?_;have k:ba p [(121,xt),(122,xu)]:=.cons Er (.cons Es .nil);refine a_ k [902] a A (g.ej 2 0 107 2 (a2.fn []) a a ?_);refine g.ej 2 1 104 2 (bj.fn []) a a ?_;refine g.fg 138 2 ?_;refine b_ k a A ?_;refine g.aC 6 (I3 b.1 i0) (λo:S3=>[(1,aI 0 0),(2,aI 1 0),(3,aI 2 0),(9,a2.A b.1),(10,R (c b.1)),(11,R o.1)])
  (λo=>[.cells 30 [.c (.A v 2 (c b.1) (a2.fn b.1)),.c (.A v 2 (c b.2.1) (bj.fn b.2.1)),.c (.A v 2 (c b.2.2) (a3.fn b.2.2))],.cells 30 [cF,cF,cF],.cells 30 [.N 3 (.A o.1 2 0 o.1),.N 4 (.A 0 2 0 0),cF],.p 107 2 o.1 (gm b.1 i0 (nI o)),.p 104 2 0 (bj.fn []),Z2 o]) (λo=>c b.1-o.1) (0,.nil n,0,[]) a ?_ a ?_ a ⟨by omega,.inl ⟨by omega,rfl⟩⟩ ?_
 .simp
 .simp
 rintro⟨d,h,q,m⟩ ⟨t,y⟩;simp only at t y;by_cases s:d<c b.1
 .have w:b.1.getD d (0,[])∈b.1:=M;have i:b.1.getD (d:Int).toNat a2.D=b.1.getD d (0,[]):=M;by_cases D:d=i0
  .subst D;have E:q=0:=by rcases y with⟨_,O⟩|⟨K,_⟩<;>omega
   have Q:=z _ w;refine a_ k [12,905] a bu ?_;rw[i];generalize F:b.1.getD d (0,[])=e at *;refine g.eJ (ι:=pO e.2) b5 3 5 4 (λr=>ay r 2) (λr=>[aI 2 0,cD 3 (.A d 2 0 d),fH e].getD r .any) (λj r=>[.any,.any,.any,.n (.agg [.c (.int .i64 e.1),.c (rU e.2 j)]),ax (.A l 2 1 (λB=>[[.int .i64 e.1,rU e.2 j]].getD B []))].getD r .any)
    (λj=>[.cells 30 [.c (.A v 2 (c b.1) (a2.fn b.1)),.c (.A v 2 (c b.2.1) (bj.fn b.2.1)),.c (.A v 2 (c b.2.2) (a3.fn b.2.2))],.cells 30 [cF,cF,cF],.cells 30 [.N 3 (.A d 2 0 d),.N 4 (.A 0 2 0 0),cF],.p 107 2 d (gm b.1 d (c0 h q)),.p 104 2 0 (bj.fn []),.J (cq 138 2 h q m),.cells 107 [.c (.int .i64 e.1),.c (.A v 2 (c e.2) (bH.fn e.2))],tj e.2 j])
    rfl rfl rfl rfl rfl rfl rfl (λr s=>by have:=fq s;omega) rfl
    ⟨aZ.u,aZ.u,aZ.u,A,A,A,A,A,A⟩
    (λj=>⟨aZ.u,aZ.u,aZ.u,A,aZ.u,A⟩)
    (dV.dX (WE e N Q) [] a a a a a a a bk a bk) λj=>?_
   refine a_ k [906] a O' (g.swap 5 7 ca a a (λ_ _ s=>s.1) (λ_ _ s=>s.1) ?_);refine b_ k a bG (g.aw (d+1,j.1.1,c e.2,j.1.2) a C ?_ ?_ ?_)
   .have au:=Le (Y:=b.1) (i0:=d) (bx:=c0 j.1.1 (c e.2)) (EA:=c0 h q);rw[F]at au;simp only[T.Z,T,a7,a'];exact⟨⟨bs.same,bs.same,bs.same⟩,⟨bs.same,bs.same,bs.same⟩,⟨a,bs.same⟩,au,bs.same⟩
   .refine⟨by grind,.inr ⟨by grind,?_⟩⟩;grind
   grind
  refine a_ k [12] a ?_ (g.aw (d+1,h,q,m) a ?_ ?_ ?_ ?_)
  .have j:=z _ w;simp only[T,i,bH.l,a8];exact⟨by omega,A,A,show(d+1)*32<=_ by omega,bH.T _,j,by omega,by omega,fQ u⟩
  .simp
  .have au:=Ld (Y:=b.1) (bx:=c0 h q) D;simp only[T.Z,T,i,bH.l,a7,a'];exact⟨⟨bs.same,bs.same,bs.same⟩,⟨bs.same,bs.same,bs.same⟩,⟨a,bs.same⟩,au,bs.same⟩
  .refine⟨by grind,?_⟩;grind
  grind
 obtain rfl:d=c b.1:=u;obtain⟨_,E,I⟩:i0<c b.1/\q=(b.1.getD i0 (0,[])).2.length/\ek 2 (b.1.getD i0 (0,[])).2.length (bH.fn (b.1.getD i0 (0,[])).2) m:=M;subst E;clear y;generalize b.1.getD i0 (0,[])=e at *;refine a_ k [-12] a C (g.az ?_);refine b_ k a A ?_;refine g.aC 6 (λd=>d<=c b.2.1) (λd:Nat=>[(1,aI 0 0),(2,aI 1 0),(3,aI 2 0),(24,bj.A b.2.1),(25,R (c b.2.1)),(26,R d)])
  (λd=>[.cells 30 [.c (.A v 2 (c b.1) (a2.fn b.1)),.c (.A v 2 (c b.2.1) (bj.fn b.2.1)),.c (.A v 2 (c b.2.2) (a3.fn b.2.2))],.cells 30 [cF,cF,cF],.cells 30 [.N 3 (.A (c b.1) 2 0 (c b.1)),.N 4 (.A d 2 0 d),cF],.p 107 2 (c b.1) (gm b.1 i0 (c0 h (c e.2))),.p 104 2 d (bj.fn (b.2.1.take d)),.J (cq 138 2 h (c e.2) m)]) (λd=>c b.2.1-d) 0 a ?_ a ?_ a u ?_
 .simp
 .simp
 intro d t;by_cases s:d<c b.2.1
 .have w:b.2.1.getD d (0,[])∈b.2.1:=M;have i:b.2.1.getD (d:Int).toNat bj.D=b.2.1.getD d (0,[]):=M;refine a_ k [27] a ?_ (g.aw (d+1) a ?_ ?_ ?_ ?_)
  .have j:=J _ w;simp only[T,i,cA.l,a8];exact⟨by omega,A,A,show(d+1)*32<=_ by omega,cA.T _,j.1,j.2,by omega,by omega,fQ u⟩
  .simp
  .exact Fk
  .grind
  omega
 obtain rfl:d=c b.2.1:=u;rw[cY];refine a_ k [-27] a C (g.az ?_);refine b_ k a A (g.aA (It b.2.2 S) [] a (b_ k a A (g.bc ⟨(h,m),I⟩ [3,4,5] ?_ (λB U=>absurd U C))));simp
end
abbrev Al(d:m c7):Prop:=d.Pairwise λa b=>aT a.1 b.1=l
def adv{o}(g:dN o=l):Al o:=by simp only[dN,cn]at g;have i:=fZ.1 g.1;rw[Al,m3];intro e k b d a;rw[o7 b,o7 d];refine LM (o:=o) (e:=k) (λm j h=>?_) e a;have:=i m u;simp[i5,cn,jC,gL]at this;grind
def zw{o}:dN o=l↔(∀d∈o,fT d.1=l/\fK d.2=l)/\Al o/\o.Pairwise (λj k=>k6 j.1 k.1=v)/\c o<=6:=by
 constructor
 .intro b;have t:=adv b;simp only[dN,cn,bw]at b;have h:=fZ.1 b.1;refine⟨λd p=>?_,t,?_,b.2⟩
  .obtain⟨e,a,rfl⟩:=hn p;have:=h e a;exact Pv
  rw[m3];intro e r a g i;have:=h r g;exact Pv
 rintro⟨s,u,w,q⟩;simp only[dN,cn,bw];refine⟨fZ.2 λe a=>?_,q⟩;have m:=s _ (wT a);rw[o7 a]at m;simp only[i5,cn,jC,gL];grind[List.pairwise_iff_getElem,o7]
end R1
def bl.le{s:ah P}{t}{args}{ow:ι->x}(u:bl s t args k res aQ){e:ι->m Prop}(z:∀a,ko (res a) (ow a)=f (e a))(A:∀a,T (e a)):bl s t args k ow aQ:=
 ⟨u.1,λB y p j w g i=>u.2 B y p j w g λa h C q o b d r=>i a h C q o (pd (z a) (A a) b) d r⟩
def bl.R{p:ah P}{q}{args}{res}{aQ}(r:bl (ι:=ι) p q args k (λ_=>res) (λ_=>aQ)):Z p q args k res aQ:=
 ⟨r.1,λt y j h s d g=>r.2 t y j h s d λ_ e u m i a b o=>g e u m i a b o⟩
namespace R1
variable {p:ah V}
abbrev uf(e:c1 α)(d:m α):Type:={a:Nat->m K // ∀b,b<c d->a b=e.fn d b}
structure dO(b:cz):Prop where
 aY:c b.1<=4000000
 bm:∀aY∈b.1,c aY.2<=4000000
 aZ:c b.2.1<=4000000
 bx:ln b
 aL:c b.2.2<=4000000
def VY(b)(d)(h:dO b)(o:d.1=1):
  bl (ι:={e:Nat->m K // ∀j,j<c (b.1.filter λi=>!(i.1==d.2.1))->e j=a2.fn (b.1.filter λi=>!(i.1==d.2.1)) j}) p 81 [b9 b,eG d] []
   (λ_=>.n (.agg [dC 0 (c b.1) (c (b.1.filter λi=>!(i.1==d.2.1))),dC 1 (c b.2.1) (c b.2.1),.c (hX b.2.2)])) (λe=>[.p 107 2 (c b.1) e.1,.p 104 2 (c b.2.1) (bj.fn b.2.1)]):=by refine bl.bG bc func81 rfl rfl rfl λq=>?_;refine aO a A (g.aA (o6 b h.aY h.bm h.aZ h.bx h.aL) [] a (aO a A (g.aA (Us d o) [] a (aO a A (g.cI (Uz b d h.aY) a a a a C a ?_)))));rintro⟨e,k⟩;refine aO a A (g.bc ⟨e,k⟩ [3,4] ?_ eW);simp
def VX(b)(d)(k:dO b)(o:d.1=1):Z p 81 [b9 b,eG d] [] (b9 (b.1.filter λa=>!(a.1==d.2.1),b.2.1,b.2.2)) []:=by
 have m:c (b.1.filter λa=>!(a.1==d.2.1))<=c b.1:=j7 _ _;have e:=VY (p:=p) b d k o;have g:=bl.bL (aQ:=λU:uf a2 (b.1.filter λa=>!(a.1==d.2.1))=>[.p 107 2 (c b.1) U.1]) (W:=104) (h:=2) (j:=λ_=>c b.2.1) (U:=λ_=>bj.fn b.2.1) e bk (λ_=>?_) bk (λ_=>gZ _);have i:=bl.bL (aQ:=λ_=>[]) (W:=107) (h:=2) (j:=λ_=>c b.1) (U:=λU:uf a2 (b.1.filter λa=>!(a.1==d.2.1))=>U.1) g bk (λ_=>?_) bk (λ_=>bA _);refine(i.le (ow:=λ_=>b9 (b.1.filter λa=>!(a.1==d.2.1),b.2.1,b.2.2)) bk (λU=>?_)).R
 .simp only[T.Z,T,a7,a'];exact⟨U.2,bs.same,bs.same⟩
 .simpa using m
 simp
def V8(b)(d)(e:dO b)(j:d.1≠1)(h:d.1≠2)(k:d.1≠3)(i:d.1≠4):
  bl (ι:=Unit) p 81 [b9 b,eG d] [] (λ_=>.n (.agg [dC 0 (c b.1) (c b.1),dC 1 (c b.2.1) (c b.2.1),.c (hX b.2.2)])) (λ_=>[.p 107 2 (c b.1) (a2.fn b.1),.p 104 2 (c b.2.1) (bj.fn b.2.1)]):=by refine bl.bG bc func81 rfl rfl rfl λm=>?_;refine aO a A (g.aA (o6 b e.aY e.bm e.aZ e.bx e.aL) [] a (aO a A (g.aA (Uu d j h k i) [] a (aO a A (g.cI (Wx (mN b d) a (.ptr 5 0)).tocH a a a a C a ?_)))));intro _;refine aO a A (g.bc () [3,4] ?_ eW);simp
def V1(b)(d:dR)(e:dO b)(h:d.1=2)(i:d.2.1<0∨d.2.1>c b.2.2):
  bl (ι:=Unit) p 81 [b9 b,eG d] [] (λ_=>.n (.agg [dC 0 (c b.1) (c b.1),dC 1 (c b.2.1) (c b.2.1),.c (hX b.2.2)])) (λ_=>[.p 107 2 (c b.1) (a2.fn b.1),.p 104 2 (c b.2.1) (bj.fn b.2.1)]):=by refine bl.bG bc func81 rfl rfl rfl λj=>?_;refine aO a A (g.aA (o6 b e.aY e.bm e.aZ e.bx e.aL) [] a (aO a A (g.aA (Iz d h) [] a (aO a A (g.cI (TR b d i).tocH a a a a C a ?_)))));intro _;refine aO a A (g.bc () [3,4] ?_ eW);simp
def Cj{b}{d}(a:bl (ι:=Unit) p 81 [b9 b,eG d] [] (λ_=>.n (.agg [dC 0 (c b.1) (c b.1),dC 1 (c b.2.1) (c b.2.1),.c (hX b.2.2)])) (λ_=>[.p 107 2 (c b.1) (a2.fn b.1),.p 104 2 (c b.2.1) (bj.fn b.2.1)])):Z p 81 [b9 b,eG d] [] (b9 b) []:=by
 have e:=bl.bL (aQ:=λ_:Unit=>[.p 107 2 (c b.1) (a2.fn b.1)]) (W:=104) (h:=2) (j:=λ_=>c b.2.1) (U:=λ_=>bj.fn b.2.1) a bk (λ_=>?_) bk (λ_=>gZ _);have g:=bl.bL (aQ:=λ_:Unit=>[]) (W:=107) (h:=2) (j:=λ_=>c b.1) (U:=λ_=>a2.fn b.1) e bk (λ_=>?_) bk (λ_=>bA _);refine(g.le (ow:=λ_=>b9 b) bk (λU=>?_)).R
 .simp only[T.Z,T,a7,a'];exact⟨bs.same,bs.same,bs.same⟩
 .simp
 simp
def V0(b)(h:dR)(d:dO b)(m:h.1=2)(i:Nat)(o:h.2.1=i)(q:i<=c b.2.2):
  bl (ι:=uf bj (b.2.1.filter λj=>!jq i b.2.2 j)) p 81 [b9 b,eG h] []
   (λ_=>.n (.agg [dC 0 (c b.1) (c b.1),dC 1 (c b.2.1) (c (b.2.1.filter λj=>!jq i b.2.2 j)),.c (.A v 2 h.2.1.toNat (a3.fn b.2.2))])) (λe=>[.p 107 2 (c b.1) (a2.fn b.1),.p 104 2 (c b.2.1) e.1]):=by refine bl.bG bc func81 rfl rfl rfl λr=>?_;refine aO a A (g.aA (o6 b d.aY d.bm d.aZ d.bx d.aL) [] a (aO a A (g.aA (Iz h m) [] a (aO a A (g.cI (TS b h i o q d.aZ d.aL) a a a a C a ?_)))));rintro⟨e,k⟩;refine aO a A (g.bc ⟨e,k⟩ [3,4] ?_ eW);simp
def VZ(b)(d:dR)(u:dO b)(q:d.1=2)(j:Nat)(w:d.2.1=j)(r:j<=c b.2.2):Z p 81 [b9 b,eG d] [] (b9 (b.1,b.2.1.filter λa=>!jq j b.2.2 a,b.2.2.take j)) []:=by
 have m:c (b.2.1.filter λa=>!jq j b.2.2 a)<=c b.2.1:=j7 _ _;have e:=V0 (p:=p) b d u q j w r;have g:=bl.bL (aQ:=λ_:uf bj (b.2.1.filter λa=>!jq j b.2.2 a)=>[.p 107 2 (c b.1) (a2.fn b.1)]) (W:=104) (h:=2) (j:=λ_=>c b.2.1) (U:=λU=>U.1) e bk (λ_=>?_) bk (λ_=>gZ _);have i:=bl.bL (aQ:=λ_:uf bj (b.2.1.filter λa=>!jq j b.2.2 a)=>[]) (W:=107) (h:=2) (j:=λ_=>c b.1) (U:=λ_=>a2.fn b.1) g bk (λ_=>?_) bk (λ_=>bA _);refine(i.le (ow:=λ_=>b9 (b.1,b.2.1.filter λa=>!jq j b.2.2 a,b.2.2.take j)) bk (λU=>?_)).R
 .have o:d.2.1.toNat=c (b.2.2.take j):=M;simp only[T.Z,T,a7,a'];refine⟨bs.same,U.2,o,λt s=>?_⟩;have k:t<j:=M;simp[c1.fn,gG,aj,h2,k]
 .simp
 simpa using m
end R1
def dG.cB:dG->Nat
 |.nil=>0
 |.ax a _ _ b=>a.cB+b.cB+1
namespace R1
variable {p:ah V}
def UI(o)(j):Z p 199 [ax (eM o),R j] [] (R (o.find j)) []:=by
 refine Z.I func199 rfl λs=>?_;refine aO a A (g.loop (λd:dG=>d.find j=o.find j) (λd=>[(0,ax (eM d)),(1,R j)]) (λ_=>[]) (λd=>d.cB) o a (.cons a (eH a C)) a ?_);intro d b;cases d with
 |nil=>
  refine aO a A (g.aK (rQ a underlying246 a a a) a a ?_);refine a5 [-7,-15] a C (g.bs a a ?_);refine aO a A (g.aK (rQ a underlying246 a a a) a a ?_);refine aO a A (g.aq a ?_);exact bG
 |ax h e k i=>
  have r:(dG.ax h e k i).find j=if j=e then k else if j<e then h.find j else i.find j:=rfl;rw[r]at b;refine aO a A (g.aK (tu a underlying246 a a a) a a ?_);by_cases q:j=e
  .subst q;rw[bo a]at b;refine a5 [7,-15] a C (g.bs a a ?_);refine aO a A (g.aK (tu a underlying246 a a a) a a ?_);refine aO a A (g.aq a ?_);exact bu
  rw[bm q]at b;by_cases m:j<e
  .rw[bo m]at b;cases h<;>exact a5 [7,15,22] rfl bu ⟨_,b,by simp only[dG.cB];omega,.cons rfl (eH rfl C),rfl⟩
  rw[bm m]at b;cases i<;>exact a5 [7,15,-22] rfl bu ⟨_,b,by simp only[dG.cB];omega,.cons rfl (eH rfl C),rfl⟩
end R1
namespace R1
section
variable {p:ah V}
def IJ(b)(d)(e:dO b)(j:d.1=4)(h:Nat->m K)(i:Z p 158 [aI 6 0,iR (lX d)] (oA b d (a3.fn b.2.2)) (.Q []) (oA b d h)):
  bl (ι:=Unit) p 81 [b9 b,eG d] [] (λ_=>.n (.agg [dC 0 (c b.1) (c b.1),dC 1 (c b.2.1) (c b.2.1),dC 2 (c b.2.2) (c b.2.2)])) (λ_=>[.p 107 2 (c b.1) (a2.fn b.1),.p 104 2 (c b.2.1) (bj.fn b.2.1),.p 140 2 (c b.2.2) h]):=by refine bl.bG bc func81 rfl rfl rfl λk=>?_;refine aO a A (g.aA (I8 b e.aY e.bm e.aZ e.bx e.aL) [] a (aO a A (g.aA (Ut d j) [] a (aO a A (g.cI i.tocH a a a a C a ?_)))));intro _;refine aO a A (g.bc () [3,4,5] ?_ eW);simp
def IK(b)(d)(U:Nat->m K)(e)(g:c e=c b.2.2)(q:bs (c b.2.2) U (a3.fn e))(i:bl (ι:=Unit) p 81 [b9 b,eG d] [] (λ_=>.n (.agg [dC 0 (c b.1) (c b.1),dC 1 (c b.2.1) (c b.2.1),dC 2 (c b.2.2) (c b.2.2)])) (λ_=>[.p 107 2 (c b.1) (a2.fn b.1),.p 104 2 (c b.2.1) (bj.fn b.2.1),.p 140 2 (c b.2.2) U])):
  Z p 81 [b9 b,eG d] [] (b9 (b.1,b.2.1,e)) []:=by
 have r:=bl.bL (aQ:=λ_:Unit=>[.p 107 2 (c b.1) (a2.fn b.1),.p 104 2 (c b.2.1) (bj.fn b.2.1)]) (W:=140) (h:=2) (j:=λ_=>c b.2.2) (U:=λ_=>U) i bk (λ_=>?_) bk (λ_=>gZ _);have k:=bl.bL (aQ:=λ_:Unit=>[.p 107 2 (c b.1) (a2.fn b.1)]) (W:=104) (h:=2) (j:=λ_=>c b.2.1) (U:=λ_=>bj.fn b.2.1) r bk (λ_=>?_) bk (λ_=>gZ _);have o:=bl.bL (aQ:=λ_:Unit=>[]) (W:=107) (h:=2) (j:=λ_=>c b.1) (U:=λ_=>a2.fn b.1) k bk (λ_=>?_) bk (λ_=>bA _);refine(o.le (ow:=λ_=>b9 (b.1,b.2.1,e)) bk (λ_=>?_)).R
 .simp only[T.Z,T,a7,a'];refine⟨bs.same,bs.same,g.symm,?_⟩;intro s a;exact q s (by first|exact a|(rw[<-g];exact a))
 .simp
 .simp
 simp
def V7(b)(a:dR)(d:dO b)(i:a.1=4)(e:0<=a.2.1)(g:a.2.1<c b.2.2)(h:a8 .i64 (3-lr b a)):
  Z p 81 [b9 b,eG a] [] (b9 (b.1,b.2.1,b.2.2.set (0+a.2.1.toNat) (3-lr b a,(b.2.2.getD (0+a.2.1.toNat) a3.D).2))) []:=
 IK b a _ _ C (a3.cT b.2.2 (0+a.2.1.toNat) (3-lr b a,(b.2.2.getD (0+a.2.1.toNat) a3.D).2) (c b.2.2) (bA _)) (IJ b a d i _ (UL b a e g h))
def V6(b)(d:dR)(e:dO b)(h:d.1=4)(g:¬(0<=d.2.1/\d.2.1<c b.2.2)):Z p 81 [b9 b,eG d] [] (b9 b) []:=
 IK b d _ b.2.2 a bs.same (IJ b d e h _ (UK b d g))
end
end R1
end Go.AM
