/- Part 4. No condition. -/
import Derived.Test.YtkpmoikakakhkaaGreatDoorA3
import Derived.Sort.AssemblyPlain
import Derived.Sort.LotD5
import Derived.Sort.Walk13a
import Derived.Conc.DeferLaws
import Derived.RowKit
import Derived.Conc.Holds
set_option linter.all false
set_option maxHeartbeats 8000000
open Go.Proofs
open Go.Proofs.Tryz
open List renaming length → c, range → aB, replicate → aU, getD_eq_getElem?_getD → ak, all_eq_true → aX
open Go renaming Value → Y, TypeId → al, Event → aO, undef → J, World → ar, Frame → aG, execOp → ab, Operand → ae, Program → aE, Goroutine → ai, stepG → ao, Oper → an
open Option renaming some → f, none → n
open Bool renaming true → l, false → v
open Nat renaming beq → ad, ble → ay
open Go.World renaming cell? → aH
open Go.Op renaming bytesLess → aR, equalIn → aL
open Go.Sem renaming events_bind → aD
open Go.Result renaming evThen_ok → aF
open Go.Proofs.Tryz renaming prog → T
open Go.Conc renaming stepG_seq → av, stepG_region_end → aC
namespace Go.AM
variable {j A:Nat}{h:Int}{d i e u:Nat}{W:al}{H:Y->(Nat->Option Obj)->Prop}{L:Array Bool}{bB:Mem}{E:Nat}{P:aE}{br:ai->a6->Prop}{s:Code}{C:ai}{r:an}{b:a6}{o:al}{aa:Y}{p:ar}{α:Type}{η:ae->y}{ι:Type}{k:m aq}{I:bJ}{all:m an}{dr:Array al}{cap:m N}{cQ:m y}{k6:Nat->Option Obj}{ah:m aG}{bh:m (Nat×Bool)}{V:Nat->m N}{cP:ae}{gs:Array ai}{aV:m Nat}{cn:m Prop}{off:Nat}{op:BinOp}{aQ:Array an}{Z:m Prop}{bq:m an}{aA:a6}{ty:al}{val:Nat->Nat->Y}{z:m Y}{bi:ar}{ag:Array ae}{ap dh:m aq}{res:ι->y}{aS:ι->m aq}
variable {CT:m (Nat×bI)}{au:m ik}{bd:fw}{ac:m (Nat×cp)}{a4:cp}
namespace R1
section
variable {q:af T}
abbrev sI(a:Nat):y:=ax (.cf 272 (.val (.pointer (f ⟨a,0,n⟩))))
section
variable {k:m aq}{d C j:Nat}{bO:fp}(x:c_ d k=f (is C bO j))
include x
def Jy:nQ T k 272 (.pointer (f ⟨C,0,n⟩)) "Len" 220 (cZ bO j):=.deref bb (lW type272) rfl rfl rfl underlying272 x rfl (tz bO j) rfl
def CD:nQ T k 272 (.pointer (f ⟨C,0,n⟩)) "Less" 350 (cZ bO j):=.deref bb (lW type272) rfl rfl rfl underlying272 x rfl (tz bO j) rfl
def CF:nQ T k 272 (.pointer (f ⟨C,0,n⟩)) "Swap" 353 (cZ bO j):=.deref bb (lW type272) rfl rfl rfl underlying272 x rfl (tz bO j) rfl
end
def Yx{k}{aa}:nQ T k 272 aa "Push" 352 aa:=.ptr (lW type272) rfl rfl rfl underlying272
def Yw{k}{aa}:nQ T k 272 aa "Pop" 351 aa:=.ptr (lW type272) rfl rfl rfl underlying272
theorem tE{d}(h:gu d){e u}(a:e<c d)(b:u<c d):gu (jw d e u):=λi g=>h i (acE a b g)
theorem EL:∀b(d:m cW)a,a<b->i5 b d a=i5 (a+1) d a
 |0,_,_,g=>absurd g (iH _)
 |b+1,d,a,g=>by
  rw[i5,i5];by_cases e:(a-1) / 2=a
  .grind
  rw[bj e,bj e];split
  .have s:(a-1) / 2<a:=w;rw[EL b _ _ w,EL a _ _ s]
  simp
def U6(C i cap){d}(t:gu d)(N:c d<=1000){u}(A:u<c d):
  X q 277 [sI C,Q u] [is C (.row i cap) (c d),aJ (.row i cap) (c d) d] (.S []) [is C (.row i cap) (c d),aJ (.row i cap) (c d) (i5 (u+1) d u)]:=by
 refine X.J func277 rfl λK=>?_;refine gp [] 3 a B (g.dF 2 [0] (λb:m cW×Nat=>gu b.1/\c b.1=c d/\b.2<c d/\i5 (u+1) d u=i5 (b.2+1) b.1 b.2) (λb=>[(1,Q b.2)]) (λb=>[is C (.row i cap) (c b.1),aJ (.row i cap) (c b.1) b.1]) (λb=>b.2) (d,u) a D a D a ⟨t,a,A,a⟩ ?_);rintro⟨b,e⟩ ⟨p,F,I,j⟩;simp only at p F I j;cases e with
 |zero=>
  have o:i5 (0+1) b 0=b:=by rw[i5,bo a]
  rw[o]at j;rw[j];refine gp [] 5 a lx (g.aK (Kh (h:=.i64) 0 a a a lx (λJ=>rfl) (λJ=>rfl)) a a ?_);refine a5 [11,17] a D (g.az ?_);exact O7
 |succ e=>
  refine a5 [-11,901] a lI ?_;have E:(((e+1:Nat):Int)-1) / 2=((e / 2:Nat):Int):=w;rw[E];have z:(e+1-1) / 2=e / 2:=M;have s:e / 2<c b:=w;have r:e+1<c b:=w;have o:i5 (e+1+1) b (e+1)=if nB b (e+1) (e / 2)=l then i5 (e+1) (jw b (e / 2) (e+1)) (e / 2)else b:=by rw[i5,bj w,z]
  rw[o]at j;refine g.region ?_;refine a5 [-11] a bv (g.dq (Cj i cap p (c b) r s).tocH [1] (CD (d:=0) a) a a a a a a a a bn a bn a λ_=>?_);by_cases k:nB b (e+1) (e / 2)=l
  .rw[bo k]at j;have y:=ut k;refine a5 [-17] a ds (g.dq (Ck i cap p s r).tocH [1] (CF (d:=0) a) a a a a a a a a bn a bn a λ_=>?_);refine aW a B (g.av (jw b (e / 2) (e+1),e / 2) a D ?_ ?_ ?_)
   .simp[pC]
   .grind [tE,pC,EL]
   grind
  rw[bj k]at j;rw[j];have y:¬(b.getD (e+1) (0,[])).1<(b.getD (e / 2) (0,[])).1:=λx=>k (fi x);refine a5 [17] a ds (g.az ?_);exact O7
def JZ{k}{e j}{bO}{d}(s:c_ e k=f (aJ bO j d))(r:0<j)(b)(i:bc k b):∃h g,bO=.row h g/\j<=g:=by
 have m:=et s;obtain⟨h,g,rfl⟩:=(cr.len m b i).2.2.1 r;have o:e<c b.t:=by rw[i.len];grind
 obtain⟨p,q,_⟩:=i.box e _ _ m (bH o);exact⟨h,g,a,q.2.2.2.1⟩
def Vi(C)(bO){d}(k:gu d)(A:c d<=100){F}(t:a7 .i64 F.1/\c F.2<=9223372036854775807):
  bk (ι:=fp) q 218 [sI C,sH F] [is C bO (c d),aJ bO (c d) d] (λ_=>.S []) (λh=>[is C h (c d+1),aJ h (c d+1) (hF d F)]):=by
 refine bk.cd func218 rfl rfl rfl λz=>?_;refine aW a B (g.dq (U5 C bO k w t.2) [0,1] Yx a a a a a a a a bn a bn a λh=>?_);have p:gu (d++[F]):=λx r=>by
  rcases fx.1 r with o|o
  .exact k x o
  grind
 refine g.fy (JZ (e:=1) (j:=c d+1) (bO:=h) (d:=d++[F]) a w) λs=>?_;obtain⟨i,b,rfl,y⟩:=s;refine aW a B (g.dq (Ci (.row i b) (c d+1) (d++[F])).tocH [1] (Jy (d:=0) a) a a a a a a a a bn a bn a λ_=>?_);refine aW a bE ?_;rw[show((c d+1:Nat):Int)-1=(c d:Nat) by omega];have m:=U6 (q:=q) C i b p M (u:=c d) D;rw[dk,gx]at m;exact g.aB m [0,1] a (aW a B ⟨.row i b,bY.di [0,1] a B a a a sR⟩)
theorem xZ:∀e g(d:m cW)a b,b<=a+e->b<=a+g->g9 e d a b=g9 g d a b
 |0,0,_,_,_,_,_=>rfl
 |0,g+1,d,a,b,h,_=>by rw[g9,g9,bo w]
 |e+1,0,d,a,b,_,h=>by rw[g9,g9,bo w]
 |e+1,g+1,d,a,b,j,k=>by
  have i:a<jn d a b:=FS;rw[g9,g9];split
  .rfl
  split
  .exact xZ e g _ _ _ w w
  simp
def U3(C i cap j){d}(F:gu d)(N:j<=c d)(V:c d<=1000):
  X q 281 [sI C,Q 0,Q j] [is C (.row i cap) (c d),aJ (.row i cap) (c d) d] .any [is C (.row i cap) (c d),aJ (.row i cap) (c d) (g9 j d 0 j)]:=by
 refine X.J func281 rfl λR=>?_;refine cz a B (g.dF 2 [0,1,2] (λb:m cW×Nat=>gu b.1/\c b.1=c d/\b.2<=j/\g9 j d 0 j=g9 j b.1 b.2 j) (λb=>[(7,Q b.2)]) (λb=>[is C (.row i cap) (c b.1),aJ (.row i cap) (c b.1) b.1]) (λb=>j-b.2) (d,0) a D a D a ⟨F,a,by omega,a⟩ ?_);rintro⟨b,e⟩ ⟨p,J,M,h⟩;simp only at p J M h;by_cases E:j<=2*e+1
 .have t:g9 j b e j=b:=by rw[xZ j (j+1) _ _ _ w w,g9,bo E]
  rw[t]at h;rw[h];refine a5 [17,21] a RE (g.az ?_);exact OA
 have x:e<jn b e j/\jn b e j<j:=FS;have t:g9 j b e j=if nB b (jn b e j) e=l then g9 j (jw b e (jn b e j)) (jn b e j) j else b:=by rw[xZ j (j+1) _ _ _ w w,g9,bj E]
 rw[t]at h;have I:2*e+1<c b:=w;have z:e<c b:=w;have y:2*(e:Int)+1=((2*e+1:Nat):Int):=w;have K:((2*e+1:Nat):Int)+1=((2*e+2:Nat):Int):=w;refine a5 [-17,-21,904] a RD ?_;rw[y];refine a5 [906] a RD ?_;rw[K];apply g.cg [(0,sI C),(1,Q 0),(2,Q j),(7,Q e),(9,Q (jn b e j))] [is C (.row i cap) (c b),aJ (.row i cap) (c b) b]
 .intro dw;by_cases A:2*e+2<j
  .refine g.region ?_;refine a5 [28] a bv (g.dq (Cj i cap p (c b) (e:=2*e+2) (u:=2*e+1) w I).tocH [1] (CD (d:=0) a) a a a a a a a a bn a bn a λ_=>?_);by_cases s:nB b (2*e+2) (2*e+1)=l
   .have r:jn b e j=2*e+2:=bo ⟨A,s⟩;refine a5 [33,908] a (by simpa using ut s) (dw _ _ a ?_);simp[r]
   have r:jn b e j=2*e+1:=bj λk=>s k.2;have O:¬(b.getD (2*e+2) (0,[])).1<(b.getD (2*e+1) (0,[])).1:=λk=>s (fi k);refine a5 [-33,908] a E6 (dw _ _ a ?_);simp[r]
  have r:jn b e j=2*e+1:=bj λk=>A k.1;refine a5 [-28,-33,908] a bv (dw _ _ a ?_);simp[r]
 generalize jn b e j=o at *;obtain⟨T,S⟩:=x;refine g.region ?_;refine aW a B (g.dq (Cj i cap p (c b) (e:=o) (u:=e) w z).tocH [1] (CD (d:=0) a) a a a a a a a a bn a bn a λ_=>?_);by_cases s:nB b o e=l
 .rw[bo s]at h;refine a5 [-39] a (by simpa using ut s) (g.dq (Ck i cap p z (show o<c b by omega)).tocH [1] (CF (d:=0) a) a a a a a a a a bn a bn a λ_=>?_);refine aW a B (g.av (jw b e o,o) a D ?_ ?_ ?_)
  .simp[pC]
  .grind [tE,pC]
  grind
 rw[bj s]at h;rw[h];have O:¬(b.getD o (0,[])).1<(b.getD e (0,[])).1:=λk=>s (fi k);refine a5 [39] a E6 (g.az ?_);exact OA
def Cb{j}:∀e{a:m cW}(d:Nat),gu a->d<c a->j<=c a->gu (g9 e a d j)
 |0,_,_,b,_,_=>b
 |e+1,a,d,b,g,i=>by
  rw[g9];split
  .exact b
  have h:jn a d j<j:=FS;split
  .exact Cb e _ (tE b g w) pK pK
  grind
def Vh(C i cap){d}{j}(k:gu d)(r:c d=j+1)(y:j<=100)(s:j+1<=cap):
  X q 221 [sI C] [is C (.row i cap) (j+1),aJ (.row i cap) (j+1) d] (sH ((hc d).getD j (0,[]))) [is C (.row i cap) j,aJ (.row i cap) j ((hc d).take j)]:=by
 refine X.J func221 rfl λA=>?_;refine aW a B (g.dq (Ci (.row i cap) (j+1) d).tocH [1] (Jy (d:=0) a) a a a a a a a a bn a bn a λ_=>?_);refine aW a bE ?_;rw[show((j+1:Nat):Int)-1=((j:Nat):Int) by omega];have p:=Ck (q:=q) i cap k (e:=0) (u:=j) w w;rw[r]at p;refine g.dq p.tocH [1] (CF (d:=0) a) a a a a a a a a bn a bn a λ_=>?_;have m:=tE k (e:=0) (u:=j) w w;have h:=U3 (q:=q) C i cap j m pK pK;have b:=Cb (j:=j) j 0 m pK pK;have o:g9 j (jw d 0 j) 0 j=hc d:=by unfold hc;grind[xZ]
 rw[pC,r,o]at h;rw[o]at b;have x:hc d=(hc d).take j++[(hc d).getD j (0,[])]:=by
  have E:c (hc d)=j+1:=by grind[Lz]
  apply pZ
  .grind
  grind
 generalize(hc d).getD j (0,[])=F at *;have t:c ((hc d).take j)=j:=M;generalize(hc d).take j=z at *;rw[x]at h b;subst t;refine aW a B (g.aB h [0,1] a (aW a B (g.dq (U4 C i cap b w s).tocH [0,1] Yw a a a a a a a a bn a bn a λ_=>?_)));refine aW a B (g.aH [0,1] a D sR)
def aad{ac}{e g:ae}(t:r.op=.binOp op o e g ty){s}{cx}(j:P.underlying o=f (.interface cx))(z:η e=ax .bD)(y:η g=ax (.val (.iface ac aa)))(x:∀p,(eqGuard op o e g .nilIface (.iface ac aa)).run P p=.ok () p)(aj:∀p a,(eqGuard op o e g .nilIface (.iface ac aa)).events P p a=a)(d:h9 op v=f s):a1 P r η k (ax (.bool s)) k:=by
 refine .aR λb u D w=>?_;have q:=w e;have m:=w g;rw[z]at q;rw[y]at m;replace q:=b7 q;replace m:=b7 m;generalize i:u e=A at q;generalize O:u g=B at m;cases q;cases m;have h:(Op.equal o .nilIface (.iface ac aa)).run P b.a=.ok v b.a:=QE;have C:∀a,(Op.equal o .nilIface (.iface ac aa)).events P b.a a=a:=λa=>by show(aL (9999+1) o _ _).events P b.a a=a;unfold aL;simp[underlying,j]
 cases op<;>simp only[h9,reduceCtorEq,e3]at d
 .exact QI
 exact Qb
abbrev Th(a:Y):y:=ax (.val a)
def IW(ac)(aa):X q 274 [ax .bD,Th (.iface ac aa)] [] (bf v) []:=by refine X.J func274 rfl λb=>?_;refine aW a B ?_;refine g.aK (Dx a underlying177 a a a) a a ?_;refine a5 [11] a D ?_;refine g.aK (aad a underlying177 a a bn (λ_ _=>rfl) a) a a ?_;exact aW a B (g.ao a a)
abbrev ii(b a:al×Y):m aq:=[.K (ed 2 177 (.iface b.1 b.2)),.K (ed 3 177 (.iface a.1 a.2))]
def ql:∀a,a<2->([0,1]:m Nat)[a]?=f a:=ca
def Cp(i e)(h)(d)(j:ce h=l)(m:cB d=l):X q 214 [Q h,b1 d] (ii i e) (Q (dW h d)) (ii i e):=by refine X.J func214 rfl λk=>?_;have b:a_ q [(273,ei c1 eE (λh d=>B_ (dW h d)) λh d=>[ce h=l,cB d=l])]:=.cons t273 .nil;refine b8 b a ds ?_;refine g.Q (aZ.gk bb 0 a a a a a a) a ?_;refine g.aB (IW _ _) [] a ?_;refine b8 b a B ?_;refine g.Q (aZ.gk bb 1 a a a a a a) a ?_;refine g.ix (IW _ _) [] a a a a a a a a a a a ?_;exact a8 b [-20] a D (g.aH [0,1] a a ql)
end
section
open Go.Sort (swp insInner insOuter ltInt)
variable {q:af T}
def VJ(j):X q 301 [Q j] [] (bf v) []:=by refine X.J func301 rfl λb=>?_;exact a5 [-5] a D (g.ao a)
abbrev Hn:bI:=dc c1 (λ_=>bf v) λ_=>[]
def ads:bK q 301 Hn:=.a9 λa _=>VJ a
def V7(b d):X q 263 [Q b,Q d] [] (bf (ltInt b d)) []:=by have e:a_ q [(301,Hn)]:=.cons ads .nil;refine X.J func263 rfl λh=>?_;refine b8 e a D (g.ao a ?_);simp[ltInt]
abbrev qb:bI:=ei c1 c1 (λa b=>bf (ltInt a b)) λ_ _=>[]
def r1:bK q 263 qb:=.bk λa b _=>V7 a b
def sL(a:Array Int)(b:Nat):m N:=[.int .i64 a[b]!]
abbrev dJ(a:Nat):y:=cC 0 (.B a 1 0 a)
abbrev cD(b:Nat)(a:Array Int):aq:=.q 3 1 b (sL a)
def g_:∀a,a<1->([0]:m Nat)[a]?=f a:=λa b=>by grind
end
section
open Go.Sort (swp insInner insOuter insertionSort ltInt)
variable {q:af T}
def k_{a}(q:a.size=j)(k:e<j)(o:u<j){g:Nat->m N}(h:bs j g (sL a)):bs j (l5 u [.int .i64 a[e]!] (l5 e [.int .i64 a[u]!] g)) (sL (swp a e u)):=by
 intro b d;have p:(swp a e u)[b]! = if b=u then a[e]! else if b=e then a[u]! else a[b]! := by unfold swp;grind
 have i:=h b d;simp only[sL,l5]at i⊢;grind
theorem nI(a:Array Int)(e u):(swp a e u).size=a.size:=by simp[swp]
theorem Zx{b}{a}(e:b<u)(d:ltInt a[u]! a[u-1]! = l):insInner ltInt b u a=insInner ltInt b (u-1) (swp a u (u-1)):=by
 cases u with
 |zero=>omega
 |succ u=>
  simp only[pW]at d⊢;rw[insInner,bo];grind
def Kg{b}{a}(d:b<u->ltInt a[u]! a[u-1]! = v):insInner ltInt b u a=a:=by
 cases u with
 |zero=>rfl
 |succ u=>
  simp only[pW]at d;rw[insInner,bj];grind
theorem VF(j)(m)(d i)(A:m.size=j)(K:i<=j)(J:d<=j)(M:j<=4000000):
  X q 257 [dJ j,Q d,Q i] [cD j m] (.S []) [cD j (insertionSort ltInt m d i)]:=by
 have u:a_ q [(263,qb)]:=.cons r1 .nil;refine X.J func257 rfl λI=>?_;refine aW a bE (g.aC 1 (λb:Nat×Array Int=>b.2.size=j/\d+1<=b.1/\b.1<=j+1/\insOuter ltInt d i b.1 b.2=insertionSort ltInt m d i) (λb=>[(0,dJ j),(1,Q d),(2,Q i),(6,Q b.1)]) (λb=>[cD j b.2]) (λb=>i-b.1) (d+1,m) a D a D a ⟨A,by omega,by grind,a⟩ ?_);rintro⟨e,d1⟩ ⟨y,t,z,o⟩;simp only at y t z o;by_cases s:e<i
 .refine a5 [12] a bQ (g.aC 1 (λb:Nat×Array Int=>b.2.size=j/\b.1<=e/\insInner ltInt d b.1 b.2=insInner ltInt d e d1) (λb=>[(0,dJ j),(1,Q d),(2,Q i),(6,Q e),(7,Q b.1)]) (λb=>[cD j b.2]) (λb=>b.1) (e,d1) a D a D a ⟨y,by simp,a⟩ ?_);rintro⟨k,d2⟩ ⟨p,C,r⟩;simp only at p C r;by_cases E:d<k
  .have h:((k:Int)-1).toNat=k-1:=w;by_cases x:ltInt d2[k]! d2[k-1]! = l
   .refine a8 u [18,29] a ?_ ?_
    .simp[a7,h,x];omega
    refine g.av (k-1,swp d2 k (k-1)) a bQ ?_ ?_ ?_
    .simp only[U.X,U,h,cX,cY,a9,ba];exact k_ p w w (λ_ _=>rfl)
    .refine⟨by grind[nI],by omega,?_⟩;grind[Zx]
    omega
   refine a8 u [18,-29] a ?_ (g.az ?_)
   .simp[a7,h,x];omega
   refine aW a bE (g.av (e+1,d2) a D D ?_ ?_)
   .refine⟨p,by omega,by grind,?_⟩;simp only;rw[<-o,insOuter.eq_1 ltInt d i e,bo s,<-r,Kg λ_=>by grind]
   omega
  refine a8 u [-18] a bv (g.az ?_);refine aW a bE (g.av (e+1,d2) a D D ?_ ?_)
  .refine⟨p,by omega,by grind,?_⟩;simp only;rw[<-o,insOuter.eq_1 ltInt d i e,bo s,<-r,Kg λF=>absurd F E]
  omega
 refine a5 [-12] a bQ (g.az ?_);have:insertionSort ltInt m d i=d1:=by rw[<-o,insOuter,bj s]
 rw[this];exact r9
end
section
open Go.Sort (swp siftDown ltInt)
variable {q:af T}
def ab3{bp first root}{a}(b:¬2*root+1<bp):siftDown ltInt bp first root a=a:=by rw[siftDown,dif_pos w]
theorem Mr{bp first root}{a}(e:2*root+1<bp)(b:2*root+1+1<bp->ltInt a[first+(2*root+1)]! a[first+(2*root+1)+1]! = v)(d:ltInt a[first+root]! a[first+(2*root+1)]! = l):
  siftDown ltInt bp first root a=siftDown ltInt bp first (2*root+1) (swp a (first+root) (first+(2*root+1))):=by rw[siftDown.eq_1 ltInt bp first root a,dif_neg w,bj M,bj M]
theorem Ms{bp first root}{a}(e:2*root+1<bp)(b:2*root+1+1<bp->ltInt a[first+(2*root+1)]! a[first+(2*root+1)+1]! = v)(d:ltInt a[first+root]! a[first+(2*root+1)]! = v):
  siftDown ltInt bp first root a=a:=by rw[siftDown.eq_1 ltInt bp first root a,dif_neg w,bj M,bo M]
theorem ab1{bp first root}{a}(e:2*root+1+1<bp)(b:ltInt a[first+(2*root+1)]! a[first+(2*root+1+1)]! = l)(d:ltInt a[first+root]! a[first+(2*root+1+1)]! = l):
  siftDown ltInt bp first root a=siftDown ltInt bp first (2*root+1+1) (swp a (first+root) (first+(2*root+1+1))):=by rw[siftDown.eq_1 ltInt bp first root a,dif_neg w,bo M,bj M,dif_pos w]
theorem ab2{bp first root}{a}(e:2*root+1+1<bp)(b:ltInt a[first+(2*root+1)]! a[first+(2*root+1+1)]! = l)(d:ltInt a[first+root]! a[first+(2*root+1+1)]! = v):
  siftDown ltInt bp first root a=a:=by rw[siftDown.eq_1 ltInt bp first root a,dif_neg w,bo M,bo M]
theorem XF(j)(k)(d b first:Nat)(r:k.size=j)(D:first+b<=j)(t:d<=j)(E:j<=4000000):
  X q 296 [dJ j,Q d,Q b,Q first] [cD j k] (.S []) [cD j (siftDown ltInt b first d k)]:=by
 have m:a_ q [(263,qb)]:=.cons r1 .nil;refine X.J func296 rfl λz=>?_;refine aW rfl B (g.aC 1 (λe:Nat×Array Int=>e.2.size=j/\e.1<=j/\siftDown ltInt b first e.1 e.2=siftDown ltInt b first d k) (λe=>[(0,dJ j),(1,Q d),(2,Q b),(3,Q first),(8,Q e.1)]) (λe=>[cD j e.2]) (λe=>b-e.1) (d,k) rfl ?_ rfl ?_ rfl ⟨r,t,rfl⟩ ?_)
 .simp
 .simp
 rintro⟨root,d1⟩ ⟨u,y,o⟩;simp only at u y o;by_cases p:2*root+1<b
 .have s:((first:Int)+(2*(root:Int)+1)).toNat=first+(2*root+1):=w
  have aw:((first:Int)+(2*(root:Int)+1)+1).toNat=first+(2*root+1+1):=w
  by_cases A:2*root+1+1<b
  .by_cases C:ltInt d1[first+(2*root+1)]! d1[first+(2*root+1+1)]! = l
   .have h:((first:Int)+(2*(root:Int)+1+1)).toNat=first+(2*root+1+1):=w
    have x:((first:Int)+(root:Int)).toNat=first+root:=w
    by_cases i:ltInt d1[first+root]! d1[first+(2*root+1+1)]! = l
    .refine be m [-16,20,35,51] rfl ?_ (g.av (2*root+1+1,swp d1 (first+root) (first+(2*root+1+1))) rfl ?_ ?_ ?_ ?_)
     .exact QC
     .simp
     .simp only[U.X,U,cX,s,aw,x,h,a9,ba];exact k_ u w w (λ_ _=>rfl)
     .grind [nI,ab1]
     grind
    rw[p0]at i;rw[show siftDown ltInt b first d k=d1 by grind[ab2]];refine be m [-16,20,35,-51] a ?_ (g.aT (bY.mk [0] a B a a a g_));exact QC
   rw[p0]at C;have x:((first:Int)+(root:Int)).toNat=first+root:=w
   by_cases i:ltInt d1[first+root]! d1[first+(2*root+1)]! = l
   .refine be m [-16,20,-35,51] rfl ?_ (g.av (2*root+1,swp d1 (first+root) (first+(2*root+1))) rfl ?_ ?_ ?_ ?_)
    .exact Oj
    .simp
    .exact Pn
    .grind [nI,Mr]
    grind
   rw[p0]at i;rw[show siftDown ltInt b first d k=d1 by grind[Ms]];refine be m [-16,20,-35,-51] a ?_ (g.aT (bY.mk [0] a B a a a g_));exact Oj
  have C:True:=B;have x:((first:Int)+(root:Int)).toNat=first+root:=w
  by_cases i:ltInt d1[first+root]! d1[first+(2*root+1)]! = l
  .refine be m [-16,-20,51] rfl ?_ (g.av (2*root+1,swp d1 (first+root) (first+(2*root+1))) rfl ?_ ?_ ?_ ?_)
   .exact Ph
   .simp
   .exact Pn
   .grind [nI,Mr]
   grind
  rw[p0]at i;rw[show siftDown ltInt b first d k=d1 by grind[Ms]];refine be m [-16,-20,-51] a ?_ (g.aT (bY.mk [0] a B a a a g_));exact Ph
 refine a5 [16] a sa (g.az ?_);rw[<-o,ab3 p];exact r9
end
section
open Go.Sort (swp order2 median medianAdjacent choosePivot Hint ltInt)
variable {q:af T}
abbrev ml(a:Nat):aq:=.cells 3 [.c (.int .i64 a)]
abbrev sK:y:=aI 1 0
abbrev ade(a b:Nat):y:=.S [.Q (.c (.int .i64 a)),.Q (.c (.int .i64 b))]
def ye:∀a,a<2->([0,1]:m Nat)[a]?=f a:=λa b=>by grind
def Cs(j)(e)(d i b)(r:d<j)(s:i<j)(t:j<=4000000)(o:b<=1000):
  X q 315 [dJ j,Q d,Q i,sK] [cD j e,ml b] (ade (order2 ltInt e d i b).1 (order2 ltInt e d i b).2.1) [cD j e,ml (order2 ltInt e d i b).2.2]:=by
 have m:a_ q [(263,qb)]:=.cons r1 .nil;refine X.J func315 rfl λp=>?_;by_cases h:ltInt e[i]! e[d]! = l
 .have k:order2 ltInt e d i b=(i,d,b+1):=by simp[order2,h]
  rw[k];refine be m [18] a ?_ (g.aH [0,1] a ?_ ye)
  .simp only[U,cX,cY,h,a7,ba,a9];exact fv
  simp
 have k:order2 ltInt e d i b=(d,i,b):=by simp[order2,h]
 rw[k];rw[p0]at h;refine be m [-18] a ds (g.aH [0,1] a ?_ ye);simp
def vI{O}{a eV}(b:a<j)(d:i<j):(order2 ltInt O a i eV).1<j/\(order2 ltInt O a i eV).2.1<j/\(order2 ltInt O a i eV).2.2<=eV+1:=by unfold order2;split<;>simp only<;>omega
theorem I_(j)(O)(b i s eV)(h:b<j)(k:i<j)(m:s<j)(e:j<=4000000)(p:eV<=900):
  X q 300 [dJ j,Q b,Q i,Q s,sK] [cD j O,ml eV] (Q (median ltInt O b i s eV).1) [cD j O,ml (median ltInt O b i s eV).2]:=by refine X.J func300 rfl λr=>?_;have d:=vI (O:=O) (eV:=eV) h k;have o:=vI (O:=O) (eV:=(order2 ltInt O b i eV).2.2) d.2.1 m;refine cz a B (g.aB (Cs j O b i eV h k e w) [0,1] a (cz a B (g.aB (Cs j O (order2 ltInt O b i eV).2.1 s (order2 ltInt O b i eV).2.2 d.2.1 m e w) [0,1] a (cz a B (g.aB (Cs j O (order2 ltInt O b i eV).1 (order2 ltInt O (order2 ltInt O b i eV).2.1 s (order2 ltInt O b i eV).2.2).1 (order2 ltInt O (order2 ltInt O b i eV).2.1 s (order2 ltInt O b i eV).2.2).2.2 d.1 o.1 e w) [0,1] a (cz a B (g.aH [0,1] a ?_ ye)))))));simp[median]
def Z0{O}{a s eV}(d:a<j)(g:i<j)(h:s<j):(median ltInt O a i s eV).1<j/\(median ltInt O a i s eV).2<=eV+3:=by have b:=vI (O:=O) (eV:=eV) d g;have e:=vI (O:=O) (eV:=(order2 ltInt O a i eV).2.2) b.2.1 h;have k:=vI (O:=O) (eV:=(order2 ltInt O (order2 ltInt O a i eV).2.1 s (order2 ltInt O a i eV).2.2).2.2) b.1 e.1;unfold median;grind
theorem WA(j)(e)(b d:Nat)(s:1<=b)(t:b+1<j)(p:j<=4000000)(o:d<=900):
  X q 299 [dJ j,Q b,sK] [cD j e,ml d] (Q (medianAdjacent ltInt e b d).1) [cD j e,ml (medianAdjacent ltInt e b d).2]:=by
 refine X.J func299 rfl λr=>?_;obtain⟨b,rfl⟩:∃h,b=h+1:=⟨b-1,by omega⟩
 refine cz a bE ?_;have key:∀i k m:Int,i=(b:Int)->k=((b+1:Nat):Int)->m=((b+1+1:Nat):Int)->X q 300 [dJ j,Q i,Q k,Q m,sK] [cD j e,ml d] (Q (median ltInt e b (b+1) (b+1+1) d).1) [cD j e,ml (median ltInt e b (b+1) (b+1+1) d).2]:=by rintro i k m rfl rfl rfl;exact I_ j e b (b+1) (b+1+1) d w w w p o
 refine g.aB (key (((b+1:Nat):Int)-1) _ (((b+1:Nat):Int)+1) w a w) [0,1] a (cz a B (g.aH [0,1] a ?_ ye));simp[medianAdjacent]
def qr:Hint->Int|.unknown=>0|.increasing=>1|.decreasing=>2
def I'(b:Nat)(d:Array Int){x s:Nat}(a:Nat)(k:x<b)(o:i<b)(p:s<b)(t:b<=4000000)(j:a<=900){e g h:Int}(r:e=x)(m:g=i)(u:h=s):
  X q 300 [dJ b,Q e,Q g,Q h,sK] [cD b d,ml a] (Q (median ltInt d x i s a).1) [cD b d,ml (median ltInt d x i s a).2]:=by grind[I_]
def Co(b:Nat)(d:Array Int){x:Nat}(a:Nat)(h:1<=x)(i:x+1<b)(k:b<=4000000)(g:a<=900){e:Int}(j:e=x):
  X q 299 [dJ b,Q e,sK] [cD b d,ml a] (Q (medianAdjacent ltInt d x a).1) [cD b d,ml (medianAdjacent ltInt d x a).2]:=by grind[WA]
def Do{O:Array Int}{x eV:Nat}(a:1<=x)(b:x+1<j):(medianAdjacent ltInt O x eV).1<j/\(medianAdjacent ltInt O x eV).2<=eV+3:=
 Z0 w w w
abbrev C1(a:Nat):Hint:=if a=0 then .increasing else if a=12 then .decreasing else .unknown
def SZ{b:Array Int}{a:Nat}(g:8<=d)(e:d<50):choosePivot ltInt b a (a+d)=((median ltInt b (a+d / 4*1) (a+d / 4*2) (a+d / 4*3) 0).1,C1 (median ltInt b (a+d / 4*1) (a+d / 4*2) (a+d / 4*3) 0).2):=by unfold choosePivot;grind
abbrev oo(b:Array Int)(a d:Nat):=medianAdjacent ltInt b (a+d / 4*1) 0
abbrev oq(b:Array Int)(a d:Nat):=medianAdjacent ltInt b (a+d / 4*2) (oo b a d).2
abbrev ot(b:Array Int)(a d:Nat):=medianAdjacent ltInt b (a+d / 4*3) (oq b a d).2
def SY{a:Array Int}{b:Nat}(e:50<=d):choosePivot ltInt a b (b+d)=((median ltInt a (oo a b d).1 (oq a b d).1 (ot a b d).1 (ot a b d).2).1,C1 (median ltInt a (oo a b d).1 (oq a b d).1 (ot a b d).1 (ot a b d).2).2):=by unfold choosePivot;grind
def Uc(j:Nat)(O:Array Int)(x i:Nat)(m:x<=i)(t:i<=j)(h:8<=i-x)(d:j<=4000000):
  X q 260 [dJ j,Q x,Q i] [cD j O] (.S [.Q (.c (.int .i64 (choosePivot ltInt O x i).1)),.Q (.c (.int .i64 (qr (choosePivot ltInt O x i).2)))]) [cD j O]:=by
 refine X.J func260 rfl λo=>?_;obtain⟨b,rfl⟩:∃b,i=x+b:=⟨i-x,by omega⟩
 rw[AG]at h;by_cases k:b<50
 .refine bL [32,-34] a QJ (g.aB (I' j O (x:=x+b / 4*1) (i:=x+b / 4*2) (s:=x+b / 4*3) 0 w w w d w w w w) [0,1] a ?_);rw[SZ h k];generalize median ltInt O (x+b / 4*1) (x+b / 4*2) (x+b / 4*3) 0=e;by_cases aj:e.2=0
  .exact Q9
  by_cases aw:e.2=12
  .exact QP
  exact Q5
 refine bL [32,34] a QJ ?_;have p:(oo O x b).1<j/\(oo O x b).2<=0+3:=Do (O:=O) (x:=x+b / 4*1) (eV:=0) (j:=j) w w;have r:(oq O x b).1<j/\(oq O x b).2<=(oo O x b).2+3:=Do (O:=O) (x:=x+b / 4*2) (eV:=(oo O x b).2) (j:=j) w w;have u:(ot O x b).1<j/\(ot O x b).2<=(oq O x b).2+3:=Do (O:=O) (x:=x+b / 4*3) (eV:=(oq O x b).2) (j:=j) w w;refine g.aB (Co j O (x:=x+b / 4*1) 0 w w d w w) [0,1] a (cz a B (g.aB (Co j O (x:=x+b / 4*2) (oo O x b).2 w w d w w) [0,1] a (cz a B (g.aB (Co j O (x:=x+b / 4*3) (oq O x b).2 w w d w w) [0,1] a (cz a B (g.aB (I' j O (x:=(oo O x b).1) (i:=(oq O x b).1) (s:=(ot O x b).1) (ot O x b).2 w w w d w a a a) [0,1] a ?_))))));rw[SY w];generalize median ltInt O (oo O x b).1 (oq O x b).1 (ot O x b).1 (ot O x b).2=e;by_cases aj:e.2=0
 .exact Q9
 by_cases aw:e.2=12
 .exact QP
 exact Q5
end
section
open Go.Sort (swp reverseLoop reverseRange siftDown heapBuild heapPop heapSort ltInt)
variable {q:af T}
def Xp(d:Nat)(i:Array Int)(h e:Nat)(t:i.size=d)(z:1<=e)(y:h<=d)(A:e<=d)(C:d<=4000000):X q 261 [dJ d,Q h,Q e] [cD d i] (.S []) [cD d (reverseRange i h e)]:=by
 refine X.J func261 rfl λx=>?_;refine aW a bE (g.aC 1 (λb:Nat×Nat×Array Int=>b.2.2.size=d/\b.1<=d/\b.2.1<d+1/\b.2.1<d/\reverseLoop b.1 b.2.1 b.2.2=reverseRange i h e) (λb=>[(0,dJ d),(6,Q b.1),(7,Q b.2.1)]) (λb=>[cD d b.2.2]) (λb=>b.2.1-b.1) (h,e-1,i) a bQ a D a ⟨t,by grind,by grind,by grind,a⟩ ?_);rintro⟨j,k,d1⟩ ⟨p,o,_,u,m⟩;simp only at p o u m;by_cases r:j<k
 .refine bL [13] a ?_ (g.av (j+1,k-1,swp d1 j k) a ?_ ?_ ?_ ?_)
  .simp only[U,cX,cY,a7,bw,ba,a9];exact fv
  .exact bv
  .simp only[U.X,U,cX,cY,a9,ba];exact k_ p w w (λ_ _=>rfl)
  .refine⟨by grind[nI],by grind,by grind,by grind,?_⟩;rw[<-m,reverseLoop.eq_1 j k d1,bo r]
  grind
 have s:reverseRange i h e=d1:=by rw[<-m,reverseLoop,bj r]
 rw[s];refine a5 [-13] a bQ (g.az ?_);exact r9
def Jk(a:Nat)(b:Array Int){e6 bp first:Nat}(h:b.size=a)(k:first+bp<=a)(i:e6<=a)(o:a<=4000000){d e g:Int}(m:d=e6)(j:e=bp)(p:g=first):
  X q 296 [dJ a,Q d,Q e,Q g] [cD a b] (.S []) [cD a (siftDown ltInt bp first e6 b)]:=by grind[XF]
def Mt(a first:Nat):∀(d root:Nat)(b:Array Int),a-root<=d->(siftDown ltInt a first root b).size=b.size:=by
 intro d;induction d with
 |zero=>intro root b e;rw[siftDown,dif_pos w]
 |succ d g=>
  intro root b e;rw[siftDown];exact r'
theorem Vg(i:Nat)(m:Array Int)(b k:Nat)(y:m.size=i)(C:b<=k)(z:1<=k-b)(A:k<=i)(t:i<=4000000):X q 258 [dJ i,Q b,Q k] [cD i m] (.S []) [cD i (heapSort ltInt m b k)]:=by
 refine X.J func258 rfl λF=>?_;obtain⟨e,rfl⟩:∃e,k=b+e:=⟨k-b,by omega⟩
 rw[AG]at z;refine cz a Rx (g.cm (S2:=Array Int) 0 a a (λd2=>d2.size=i/\d2=heapBuild ltInt e b ((e-1) / 2+1) m) (λ_=>[(0,dJ i),(6,Q b),(7,Q 0),(8,Q e)]) (λd2=>[cD i d2]) 1 (λd:Nat×Array Int=>d.2.size=i/\d.1<=(e-1) / 2+1/\heapBuild ltInt e b d.1 d.2=heapBuild ltInt e b ((e-1) / 2+1) m) (λd=>[(0,dJ i),(6,Q b),(7,Q 0),(8,Q e),(9,Q ((d.1:Int)-1))]) (λd=>[cD i d.2]) (λd=>d.1) ((e-1) / 2+1,m) a bQ a D a ⟨y,bC _,a⟩ ?_ ?_)
 .rintro dw ⟨h,d1⟩ ⟨j,p,s⟩;simp only at j p s;cases h with
  |zero=>
   refine a5 [-19] a D (g.az ?_);exact dw d1 ⟨j,s⟩ a D a D
  |succ h=>
   refine a5 [19] rfl D (g.aB (Jk i d1 (e6:=h) (bp:=e) (first:=b) j A w t w rfl rfl) [0] rfl (cz rfl ?_ (g.av (h,siftDown ltInt e b h d1) rfl ?_ ?_ ?_ ?_)))
   .exact wA
   .simp
   .simp
   .exact⟨by rw[Mt _ _ _ _ _ (bC _)];exact j,by grind,s⟩
   simp
 rintro o ⟨x,E⟩;refine cz a bE ?_;have u:heapSort ltInt m b (b+e)=heapPop ltInt b e o:=by unfold heapSort;grind
 rw[u];refine g.aC 1 (λd:Nat×Array Int=>d.2.size=i/\d.1<=e/\heapPop ltInt b d.1 d.2=heapPop ltInt b e o) (λd=>[(0,dJ i),(6,Q b),(7,Q 0),(8,Q e),(10,Q ((d.1:Int)-1))]) (λd=>[cD i d.2]) (λd=>d.1) (e,o) a D a D a ⟨x,bC _,a⟩ ?_;rintro⟨h,d1⟩ ⟨j,p,s⟩;simp only at j p s;cases h with
 |zero=>
  rw[<-s];refine a5 [-30] a D (g.az ?_);exact r9
 |succ h=>
  have r:((b:Int)+(((h+1:Nat):Int)-1)).toNat=b+h:=w;refine bL [30,911] a ?_ ?_
  .simp only[U,cX,cY,r,a7,bw,ba,a9];exact fv
  refine g.bb [cD i (swp d1 b (b+h))] a ?_ ?_
  .simp only[U.X,U,cX,cY,r,a9,ba];exact k_ j w w (λ_ _=>rfl)
  refine cz rfl B (g.aB (Jk i (swp d1 b (b+h)) (e6:=0) (bp:=h) (first:=b) r' w w t rfl w rfl) [0] rfl (cz rfl ?_ (g.av (h,siftDown ltInt h b 0 (swp d1 b (b+h))) rfl ?_ ?_ ?_ ?_)))
  .exact wA
  .simp
  .simp
  .exact⟨by rw[Mt _ _ _ _ _ (bC _),nI];exact j,by grind,s⟩
  simp
end
section
open Go.Sort (bitsLen)
variable {q:af T}
def ol:m UInt8:=(aB 256).map λa=>UInt8.ofNat (bitsLen a)
def sB{F h}(b:F<2 ^ h):bitsLen F<=h:=by
 unfold bitsLen;split
 .omega
 rename_i a;have:=(Nat.log2_lt a).2 b;omega
theorem ZH{F:Nat}(a:F<256):(kD ol F).toNat=bitsLen F:=by unfold kD ol;rw[cY,ak,m',List.getElem?_range a];have:=sB (F:=F) (h:=8) a;grind[UInt8.toNat_ofNat']
def GJ{h}(d:2 ^ h<=j):bitsLen j=h+bitsLen (j / 2 ^ h):=by
 have a:0<2 ^ h:=Nat.two_pow_pos h;have i:0<j / 2 ^ h:=Nat.div_pos d a;unfold bitsLen;rw[bj w,bj w];have e:Nat.log2 j=h+Nat.log2 (j / 2 ^ h):=by
  rw[Nat.log2_eq_iff w];have b:=Nat.log2_self_le (n:=j / 2 ^ h) w;have g:=Nat.lt_log2_self (n:=j / 2 ^ h);constructor
  .rw[Nat.pow_add,wZ];exact fQ (g5 _ b) (Nat.div_mul_le_self j _)
  rw[show h+Nat.log2 (j / 2 ^ h)+1=h+(Nat.log2 (j / 2 ^ h)+1) by omega,Nat.pow_add];grind[Nat.div_lt_iff_lt_mul]
 omega
set_option maxRecDepth 100000 in
def V6(j:Nat)(u:j<=4000000):X q 267 [mt j] [] (Q (bitsLen j)) []:=by
 refine X.J func267 rfl λt=>?_;have fin:∀{b:m UInt8} {F:Nat},b=ol->F<256->(kD b (F:Int)).toNat=bitsLen F:=λaY s=>by grind[ZH]
 have e:∀{b:m UInt8},b=ol->c b=256:=λaY=>by rw[aY];rfl
 by_cases r:65536<=j
 .have i:((j:Int).toNat / 2 ^ Int.toNat 16)=j / 65536:=D;have p:bitsLen j=16+bitsLen (j / 65536):=GJ (j:=j) (h:=16) r;have k:=sB (F:=j / 65536) (h:=8) M;refine bL [-4,8,-14] a ?_ (g.ao a ?_)
  .generalize aY:(ByteArray.data _).toList=b;have d:b=ol:=tV;simp only[U,i,fin d (show j / 65536<256 by omega),e d,a7,bw,dp];exact fv
  generalize aY:(ByteArray.data _).toList=b;have d:b=ol:=tV;simp only[U,U.X,i,fin d (show j / 65536<256 by omega),ba,a9];omega
 by_cases o:256<=j
 .have i:((j:Int).toNat / 2 ^ Int.toNat 8)=j / 256:=D;have p:bitsLen j=8+bitsLen (j / 256):=GJ (j:=j) (h:=8) o;have k:=sB (F:=j / 256) (h:=8) M;refine bL [-4,-8,14] a ?_ (g.ao a ?_)
  .generalize aY:(ByteArray.data _).toList=b;have d:b=ol:=tV;simp only[U,i,fin d (show j / 256<256 by omega),e d,a7,bw,dp];exact fv
  generalize aY:(ByteArray.data _).toList=b;have d:b=ol:=tV;simp only[U,U.X,i,fin d (show j / 256<256 by omega),ba,a9];omega
 have k:=sB (F:=j) (h:=8) M;refine bL [-4,-8,-14] a ?_ (g.ao a ?_)
 .generalize aY:(ByteArray.data _).toList=b;have d:b=ol:=tV;simp only[U,fin d (show j<256 by omega),e d,a7,bw,dp];exact fv
 generalize aY:(ByteArray.data _).toList=b;have d:b=ol:=tV;simp only[U,U.X,fin d (show j<256 by omega),ba,a9];omega
def I1(b:Nat)(d:b<=4000000):X q 207 [mt b] [] (Q (bitsLen b)) []:=by refine X.J func207 rfl λe=>?_;refine cz a B ?_;refine g.fv ?_;refine cz a B ?_;refine g.aB (V6 b d) [] a ?_;exact cz a B (g.ao a)
end
section
open Go.Sort (swp bitsLen xorNextN xorNextN_lt xorNext xorNext_toNat breakStep breakPatterns)
variable {q:af T}
abbrev xg(a:Nat):aq:=.cells 357 [.c (.int .u64 a)]
def WM(b):X q 298 [aI 0 0] [xg b] (mt (xorNextN b)) [xg (xorNextN b)]:=by refine X.J func298 rfl λh=>?_;have e:(2:Nat) ^ Int.toNat 13=8192:=ca;have i:(2:Nat) ^ Int.toNat 7=128:=ca;have d:(2:Nat) ^ Int.toNat 17=131072:=ca;refine cz a D ?_;refine g.bb [xg (xorNextN b)] a bE (g.aH [0] a ?_ g_);exact bE
theorem Xi(b:Nat)(d:b<=4000000):X q 297 [Q b] [] (mt ((1 <<< bitsLen b:Nat):Int)) []:=by refine X.J func297 rfl λj=>?_;have e:=sB (F:=b) (h:=22) M;refine cz a bE ?_;refine g.aB (I1 b d) [] a ?_;refine cz a bv (g.ao a ?_);have i:2 ^ bitsLen b<=2 ^ 22:=AK w e;simp only[U,U.X,Nat.shiftLeft_eq,cY];grind
def aaR{L}(a:0<L):1 <<< bitsLen L<=2*L:=by rw[Nat.shiftLeft_eq,Nat.one_mul];unfold bitsLen;rw[bj w,Nat.pow_succ];grind[Nat.log2_self_le]
def aaS(L):1<=1 <<< bitsLen L:=by rw[Nat.shiftLeft_eq,Nat.one_mul];grind
def uM(d L b:Nat):Nat->Nat->UInt64×Array Int->UInt64×Array Int
 |0,_,a=>a
 |e+1,idx,a=>uM d L b e (idx+1) (breakStep d L b a idx)
def SI{b}{a L}(d:8<=L):breakPatterns b a (a+L)=(uM a L (1 <<< bitsLen L) 3 (a+L / 4*2-1) (UInt64.ofNat L,b)).2:=by unfold breakPatterns;simp only[AG];exact bE
def SJ{x L bB idx}{a'}{O:Array Int}:breakStep x L bB (a',O) idx=(xorNext a',swp O idx (x+if(xorNextN a'.toNat &&& (bB-1))≥L then(xorNextN a'.toNat &&& (bB-1))-L else(xorNextN a'.toNat &&& (bB-1)))):=by unfold breakStep;simp only[xorNext_toNat]
abbrev SH(e a L b:Nat)(d:Nat):bJ:=[(0,dJ e),(1,Q a),(6,Q L),(7,aI 1 0),(8,mt b),(9,Q ((a+L / 4*2-1+(3-d):Nat):Int))]
def Ua(j)(O)(x i)(y:O.size=j)(D:x<=i)(K:i<=j)(A:j<=4000000):
  X q 259 [dJ j,Q x,Q i] [cD j O] (.S []) [cD j (breakPatterns O x i)]:=by
 refine X.J func259 rfl λM=>?_;obtain⟨L,rfl⟩:∃L,i=x+L:=⟨i-x,by omega⟩
 by_cases z:8<=L
 .rw[SI z];have J:=aaR (L:=L) w;have F:=aaS L;have E:(UInt64.ofNat L).toNat=L:=by grind[UInt64.toNat_ofNat']
  refine bL [15] a sa ?_;have key:∀p:Int,p=(L:Int)->X q 297 [Q p] [] (mt ((1 <<< bitsLen L:Nat):Int)) []:=by grind[Xi]
  refine g.aB (key _ w) [] a (cz a sa ?_);generalize I:1 <<< bitsLen L=bB at *;refine g.aC 2 (λb:Nat×UInt64×Array Int=>b.2.2.size=j/\b.1<=3/\(uM x L bB b.1 (x+L / 4*2-1+(3-b.1)) b.2).2=(uM x L bB 3 (x+L / 4*2-1) (UInt64.ofNat L,O)).2) (λb=>SH j x L bB b.1) (λb=>[cD j b.2.2,xg b.2.1.toNat]) (λb=>b.1) (3,UInt64.ofNat L,O) a ?_ a ?_ a ⟨y,bC _,a⟩ ?_
  .simp only[U.X,U,ba,a9];exact fv
  .exact bv
  rintro⟨h,a',d1⟩ ⟨d,m,s⟩;simp only at d m s;cases h with
  |zero=>
   rw[<-s];refine bL [-33] a zX (g.az ?_);exact r9
  |succ h=>
   have R:=xorNextN_lt _ (UInt64.toNat_lt a');have C:xorNextN a'.toNat &&& (bB-1)<=bB-1:=Nat.and_le_right;have u:((bB:Int)-1).toNat=bB-1:=w;refine bL [33] a sa (g.aB (WM a'.toNat) [1] a ?_);have aj:=SJ (x:=x) (L:=L) (bB:=bB) (idx:=x+L / 4*2-1+(3-(h+1))) (a':=a') (O:=d1);generalize e:xorNextN a'.toNat &&& (bB-1)=k at *;by_cases o:L<=k
   .rw[bo o]at aj;have t:((x:Int)+((k:Int)-(L:Int))).toNat=x+(k-L):=w;refine bL [43] a ?_ (g.av (h,xorNext a',swp d1 (x+L / 4*2-1+(3-(h+1))) (x+(k-L))) a ?_ ?_ ?_ ?_)
    .simp only[U,cX,cY,u,e,t,a7,bw,ba,a9];exact fv
    .simp only[U.X,U,ba,a9];omega
    .exact OV
    .exact Qa
    simp
   rw[bj o]at aj;have t:((x:Int)+(k:Int)).toNat=x+k:=w;refine bL [-43] a ?_ (g.av (h,xorNext a',swp d1 (x+L / 4*2-1+(3-(h+1))) (x+k)) a ?_ ?_ ?_ ?_)
   .simp only[U,cX,cY,u,e,t,a7,dp,ba,a9];exact fv
   .simp only[U.X,U,ba,a9];omega
   .exact OV
   .exact Qa
   simp
 have r:breakPatterns O x (x+L)=O:=by unfold breakPatterns;grind
 rw[r];exact bL [-15] a bE r9
end
section
open Go.Sort (swp scanUp scanDown partLoop partEqLoop partition partitionEqual ltInt)
variable {q:af T}
theorem ze{b:Int->Bool}{a}(g:e<=u)(d:b a[e]! = l):scanUp b a u e=scanUp b a u (e+1):=by rw[scanUp.eq_1 b a u e,bo M]
theorem D9{b:Int->Bool}{a}(d:e<=u->b a[e]! = v):scanUp b a u e=e:=by rw[scanUp,bj];grind
theorem Md{b:Int->Bool}{a}(h:1<=u)(i:e<=u)(g:b a[u]! = l):scanDown b a e u=scanDown b a e (u-1):=by
 obtain⟨u,rfl⟩:∃d,u=d+1:=⟨u-1,by omega⟩
 rw[scanDown,bo M,pW]
theorem Me{b:Int->Bool}{a}(d:e<=u->b a[u]! = v):scanDown b a e u=u:=by
 cases u with
 |zero=>rfl
 |succ u=>
  rw[scanDown,bj];grind
def vV{S:Int->Bool}{O}:∀b a,u+1-a<=b->a<=scanUp S O u a/\(scanUp S O u a<=u+1∨scanUp S O u a=a):=by
 intro b;induction b with
 |zero=>intro a e;rw[D9 (λd=>by omega)];omega
 |succ b h=>
  intro a e;by_cases g:a<=u
  .cases d:S O[a]! with
   |true=>grind[ze]
   |false=>grind[D9]
  grind
def vU{S:Int->Bool}{O}:∀a:Nat,scanDown S O e a<=a/\(e<=scanDown S O e a+1∨scanDown S O e a=a):=by
 intro a;induction a with
 |zero=>rw[show scanDown S O e 0=0 from rfl];omega
 |succ a d=>
  by_cases b:e<=a+1
  .cases s:S O[a+1]! with
   |true=>grind[Md]
   |false=>grind[Me]
  exact z4
def aaH{b}{O}{d g:Nat}(m:1<=e)(h:d=scanUp (λa=>ltInt a O[b]!) O u e)(i:g=scanDown (λa=>!ltInt a O[b]!) O d u):
  partLoop ltInt b e u O=if d>g then(g,O)else partLoop ltInt b (d+1) (g-1) (swp O d g):=by have j:=vV (S:=λa=>ltInt a O[b]!) (O:=O) (u:=u) (u+1-e) e (bC _);have k:=vU (S:=λa=>!ltInt a O[b]!) (O:=O) (e:=d) u;rw[<-h]at j;rw[<-i]at k;rw[partLoop.eq_1,<-h,<-i];grind
def aaI{g a:Array Int}{b aa}(k:a=swp g b aa)(h:e=scanUp (λd=>ltInt d a[b]!) a (i-1) (b+1))(j:u=scanDown (λd=>!ltInt d a[b]!) a e (i-1))(m:e>u):partition ltInt g b i aa=(u,l,swp a u b):=by unfold partition;grind
def aaJ{h a:Array Int}{b aa}(o:a=swp h b aa)(k:e=scanUp (λg=>ltInt g a[b]!) a (i-1) (b+1))(m:u=scanDown (λg=>!ltInt g a[b]!) a e (i-1))(p:¬e>u){d}(j:partLoop ltInt b (e+1) (u-1) (swp a e u)=d):partition ltInt h b i aa=(d.1,v,swp d.2 d.1 b):=by subst j;unfold partition;grind
def W8(j)(O)(x i aa)(aM:O.size=j)(ah:x<i)(al:i<=j)(aq:aa<j)(ao:j<=4000000):
  X q 265 [dJ j,Q x,Q i,Q aa] [cD j O] (.S [.Q (.c (.int .i64 (partition ltInt O x i aa).1)),.Q (.c (.bool (partition ltInt O x i aa).2.1))]) [cD j (partition ltInt O x i aa).2.2]:=by
 have C:a_ q [(263,qb)]:=.cons r1 .nil;refine X.J func265 rfl λan=>?_;refine be C [902] a bv (g.bb [cD j (swp O x aa)] a ?_ ?_)
 .simp only[U.X,U,cX,cY,a9,ba];exact k_ aM w w (λ_ _=>rfl)
 have bz:(swp O x aa).size=j:=r';obtain⟨d0,z⟩:∃d0,d0=swp O x aa:=⟨_,rfl⟩;rw[<-z]at bz⊢;refine cU C a r_ ?_
 refine g.cm (S2:=Unit) 0 a a (λ_=>True) (λ_=>[(0,dJ j),(1,Q x),(10,Q ((scanUp (λF=>ltInt F d0[x]!) d0 (i-1) (x+1)):Nat)),(11,Q (i-1:Nat))]) (λ_=>[cD j d0]) 1 (λh:Nat=>x+1<=h/\h<=j+1/\scanUp (λF=>ltInt F d0[x]!) d0 (i-1) h=scanUp (λF=>ltInt F d0[x]!) d0 (i-1) (x+1)) (λh=>[(0,dJ j),(1,Q x),(10,Q (h:Nat)),(11,Q (i-1:Nat))]) (λ_=>[cD j d0]) (λh=>i-1+1-h) (x+1) a bE a D a ⟨bC _,by omega,a⟩ ?_ ?_
 .rintro dw h ⟨o,r,p⟩;by_cases T:h<=i-1
  .by_cases au:(λF=>ltInt F d0[x]!) d0[h]! = l
   .have aj:ltInt d0[h]! d0[x]! = l:=M;refine be C [32,42] a qY (g.av (h+1) a D D ?_ ?_)
    .grind [ze]
    omega
   have aj:ltInt d0[h]! d0[x]! = v:=M;refine be C [32,-42] a qY (g.az ?_);exact Ra
  refine be C [-32] a bv (g.az ?_);exact Ra
 rintro⟨⟩ -;have af:=vV (S:=λF=>ltInt F d0[x]!) (O:=d0) (u:=i-1) (i-1+1-(x+1)) (x+1) (bC _);obtain⟨e,m⟩:∃e,e=scanUp (λF=>ltInt F d0[x]!) d0 (i-1) (x+1):=⟨_,rfl⟩
 rw[<-m]at af⊢;refine cU C a B (g.cm (S2:=Unit) 2 a a (λ_=>True) (λ_=>[(0,dJ j),(1,Q x),(10,Q (e:Nat)),(11,Q ((scanDown (λF=>!ltInt F d0[x]!) d0 (e) (i-1)):Nat))]) (λ_=>[cD j d0]) 1 (λh:Nat=>h<=i-1/\h<=j/\scanDown (λF=>!ltInt F d0[x]!) d0 (e) h=scanDown (λF=>!ltInt F d0[x]!) d0 (e) (i-1)) (λh=>[(0,dJ j),(1,Q x),(10,Q (e:Nat)),(11,Q (h:Nat))]) (λ_=>[cD j d0]) (λh=>h) (i-1) a ?_ a ?_ a ⟨bC _,by omega,a⟩ ?_ ?_)
 .simp[bs]<;>omega
 .simp
 .rintro dw h ⟨o,r,p⟩;by_cases T:e<=h
  .by_cases au:(λF=>!ltInt F d0[x]!) d0[h]! = l
   .have aj:ltInt d0[h]! d0[x]! = v:=M;refine be C [48,-58] a qY (g.av (h-1) a bv D E9 ?_);omega
   have aj:ltInt d0[h]! d0[x]! = l:=M;refine be C [48,58] a qY (g.az ?_);exact Pv
  refine be C [-48] a bv (g.az ?_);exact Pv
 rintro⟨⟩ -;have ag:=vU (S:=λF=>!ltInt F d0[x]!) (O:=d0) (e:=e) (i-1);obtain⟨u,I⟩:∃u,u=scanDown (λF=>!ltInt F d0[x]!) d0 e (i-1):=⟨_,rfl⟩
 rw[<-I]at ag⊢;by_cases ab:u<e
 .rw[aaI z m I ab];refine be C [65,909] a bv (g.bb [cD j (swp d0 u x)] a Rh ?_);exact Pb
 refine be C [-65,911] a bv (g.bb [cD j (swp d0 e u)] a Rh ?_);refine cU C a r_ ?_;have Y:(swp d0 e u).size=j:=r';obtain⟨k,E⟩:∃k,partLoop ltInt x (e+1) (u-1) (swp d0 e u)=k:=⟨_,rfl⟩;rw[aaJ z m I w E]
 obtain⟨d1,L⟩:∃d1,d1=swp d0 e u:=⟨_,rfl⟩;rw[<-L]at Y E⊢;refine g.cm (S2:=Unit) 4 a a (λ_=>k.1<j/\k.2.size=j) (λ_=>[(0,dJ j),(1,Q x),(11,Q k.1)]) (λ_=>[cD j k.2]) 1 (λb:Nat×Nat×Array Int=>b.2.2.size=j/\x+1<=b.1/\b.1<=j+1/\b.2.1<j/\partLoop ltInt x b.1 b.2.1 b.2.2=k) (λb=>[(0,dJ j),(1,Q x),(10,Q b.1),(11,Q b.2.1)]) (λb=>[cD j b.2.2]) (λb=>b.2.1+1-b.1) (e+1,u-1,d1) a bv a D a ⟨Y,by grind,by grind,by grind,E⟩ ?_ ?_
 .rintro y ⟨d8,t,d2⟩ ⟨G,ae,W,P,A⟩;simp only at G ae W P A;refine cU C a B (g.cm (S2:=Unit) 6 a a (λ_=>True) (λ_=>[(0,dJ j),(1,Q x),(10,Q ((scanUp (λF=>ltInt F d2[x]!) d2 (t) (d8)):Nat)),(11,Q (t:Nat))]) (λ_=>[cD j d2]) 1 (λh:Nat=>d8<=h/\h<=j+1/\scanUp (λF=>ltInt F d2[x]!) d2 (t) h=scanUp (λF=>ltInt F d2[x]!) d2 (t) (d8)) (λh=>[(0,dJ j),(1,Q x),(10,Q (h:Nat)),(11,Q (t:Nat))]) (λ_=>[cD j d2]) (λh=>t+1-h) (d8) a ?_ a ?_ a ⟨bC _,by omega,a⟩ ?_ ?_)
  .simp[bs]<;>omega
  .simp
  .rintro dw h ⟨o,r,p⟩;by_cases T:h<=t
   .by_cases au:(λF=>ltInt F d2[x]!) d2[h]! = l
    .have aj:ltInt d2[h]! d2[x]! = l:=M;refine be C [101,111] a qY (g.av (h+1) a D D ?_ ?_)
     .grind [ze]
     omega
    have aj:ltInt d2[h]! d2[x]! = v:=M;refine be C [101,-111] a qY (g.az ?_);exact OY
   refine be C [-101] a bv (g.az ?_);exact OY
  rintro⟨⟩ -;have J:=vV (S:=λF=>ltInt F d2[x]!) (O:=d2) (u:=t) (t+1-d8) d8 (bC _);obtain⟨d,N⟩:∃d,d=scanUp (λF=>ltInt F d2[x]!) d2 t d8:=⟨_,rfl⟩
  rw[<-N]at J⊢;refine cU C a B (g.cm (S2:=Unit) 8 a a (λ_=>True) (λ_=>[(0,dJ j),(1,Q x),(10,Q (d:Nat)),(11,Q ((scanDown (λF=>!ltInt F d2[x]!) d2 (d) (t)):Nat))]) (λ_=>[cD j d2]) 1 (λh:Nat=>h<=t/\h<=j/\scanDown (λF=>!ltInt F d2[x]!) d2 (d) h=scanDown (λF=>!ltInt F d2[x]!) d2 (d) (t)) (λh=>[(0,dJ j),(1,Q x),(10,Q (d:Nat)),(11,Q (h:Nat))]) (λ_=>[cD j d2]) (λh=>h) (t) a ?_ a ?_ a ⟨bC _,by omega,a⟩ ?_ ?_)
  .simp[bs]<;>omega
  .simp
  .rintro dw h ⟨o,r,p⟩;by_cases T:d<=h
   .by_cases au:(λF=>!ltInt F d2[x]!) d2[h]! = l
    .have aj:ltInt d2[h]! d2[x]! = v:=M;refine be C [117,-127] a qY (g.av (h-1) a bv D E9 ?_);omega
    have aj:ltInt d2[h]! d2[x]! = l:=M;refine be C [117,127] a qY (g.az ?_);exact QV
   refine be C [-117] a bv (g.az ?_);exact QV
  rintro⟨⟩ -;have K:=vU (S:=λF=>!ltInt F d2[x]!) (O:=d2) (e:=d) t;obtain⟨s,V⟩:∃s,s=scanDown (λF=>!ltInt F d2[x]!) d2 d t:=⟨_,rfl⟩
  rw[<-V]at K⊢;have Z:=aaH w N V;by_cases R:s<d
  .have aw:=Z;rw[A,bo R]at aw;refine be C [134] a bv (g.az ?_);exact y () M a NM a tY
  have aw:=Z;rw[A,bj w]at aw;refine be C [-134,919] a ?_ ?_
  .simp only[U,cX,cY,a7,dp,ba,a9];exact fv
  refine g.bb [cD j (swp d2 d s)] a ?_ ?_
  .simp only[U.X,U,cX,cY,a9,ba];exact k_ G w w (λ_ _=>rfl)
  refine cU C a r_ (g.av (d+1,s-1,swp d2 d s) a bv D ?_ ?_)
  .grind [nI]
  grind
 rintro⟨⟩ ⟨ai,H⟩;refine be C [922] a bv (g.bb [cD j (swp k.2 k.1 x)] a ?_ ?_)
 .simp only[U.X,U,cX,cY,a9,ba];exact k_ H w w (λ_ _=>rfl)
 exact Pb
def aaG{d}{O}{a h:Nat}(m:1<=e)(g:a=scanUp (λb=>!ltInt O[d]! b) O u e)(i:h=scanDown (λb=>ltInt O[d]! b) O a u):
  partEqLoop ltInt d e u O=if a>h then(a,O)else partEqLoop ltInt d (a+1) (h-1) (swp O a h):=by have j:=vV (S:=λb=>!ltInt O[d]! b) (O:=O) (u:=u) (u+1-e) e (bC _);have k:=vU (S:=λb=>ltInt O[d]! b) (O:=O) (e:=a) u;rw[<-g]at j;rw[<-i]at k;rw[partEqLoop.eq_1,<-g,<-i];grind
def W9(j)(O)(x i aa)(T:O.size=j)(ab:x<i)(af:i<=j)(aM:aa<j)(P:j<=4000000):
  X q 264 [dJ j,Q x,Q i,Q aa] [cD j O] (Q (partitionEqual ltInt O x i aa).1) [cD j (partitionEqual ltInt O x i aa).2]:=by
 have k:a_ q [(263,qb)]:=.cons r1 .nil;refine X.J func264 rfl λag=>?_;refine be k [902] a bv (g.bb [cD j (swp O x aa)] a ?_ ?_)
 .simp only[U.X,U,cX,cY,a9,ba];exact k_ T w w (λ_ _=>rfl)
 have N:(swp O x aa).size=j:=r';unfold partitionEqual;generalize swp O x aa=d1 at *;obtain⟨m,H⟩:∃m,partEqLoop ltInt x (x+1) (i-1) d1=m:=⟨_,rfl⟩;rw[H];refine cU k a r_ ?_
 refine g.cm (S2:=Unit) 0 a a (λ_=>m.1<=j+1/\m.2.size=j) (λ_=>[(0,dJ j),(1,Q x),(9,Q m.1)]) (λ_=>[cD j m.2]) 1 (λb:Nat×Nat×Array Int=>b.2.2.size=j/\x+1<=b.1/\b.1<=j+1/\b.2.1<j/\partEqLoop ltInt x b.1 b.2.1 b.2.2=m) (λb=>[(0,dJ j),(1,Q x),(9,Q b.1),(10,Q b.2.1)]) (λb=>[cD j b.2.2]) (λb=>b.2.1+1-b.1) (x+1,i-1,d1) a bv a D a ⟨N,by grind,by grind,by grind,H⟩ ?_ ?_
 .rintro p ⟨d8,s,d2⟩ ⟨I,W,Y,G,d⟩;simp only at I W Y G d;refine cU k a B (g.cm (S2:=Unit) 2 a a (λ_=>True) (λ_=>[(0,dJ j),(1,Q x),(9,Q ((scanUp (λF=>!ltInt d2[x]! F) d2 (s) (d8)):Nat)),(10,Q (s:Nat))]) (λ_=>[cD j d2]) 1 (λh:Nat=>d8<=h/\h<=j+1/\scanUp (λF=>!ltInt d2[x]! F) d2 (s) h=scanUp (λF=>!ltInt d2[x]! F) d2 (s) (d8)) (λh=>[(0,dJ j),(1,Q x),(9,Q (h:Nat)),(10,Q (s:Nat))]) (λ_=>[cD j d2]) (λh=>s+1-h) (d8) a ?_ a ?_ a ⟨bC _,by omega,a⟩ ?_ ?_)
  .simp[bs]<;>omega
  .simp
  .rintro dw h ⟨J,R,y⟩;by_cases K:h<=s
   .by_cases L:(λF=>!ltInt d2[x]! F) d2[h]! = l
    .have C:ltInt d2[x]! d2[h]! = v:=M;refine be k [31,-41] a z3 (g.av (h+1) a D D ?_ ?_)
     .grind [ze]
     omega
    have C:ltInt d2[x]! d2[h]! = l:=M;refine be k [31,41] a z3 (g.az ?_);exact OR
   refine be k [-31] a bv (g.az ?_);exact OR
  rintro⟨⟩ -;have r:=vV (S:=λF=>!ltInt d2[x]! F) (O:=d2) (u:=s) (s+1-d8) d8 (bC _);obtain⟨aj,E⟩:∃aj,aj=scanUp (λF=>!ltInt d2[x]! F) d2 s d8:=⟨_,rfl⟩
  rw[<-E]at r⊢;refine cU k a B (g.cm (S2:=Unit) 4 a a (λ_=>True) (λ_=>[(0,dJ j),(1,Q x),(9,Q (aj:Nat)),(10,Q ((scanDown (λF=>ltInt d2[x]! F) d2 (aj) (s)):Nat))]) (λ_=>[cD j d2]) 1 (λh:Nat=>h<=s/\h<=j/\scanDown (λF=>ltInt d2[x]! F) d2 (aj) h=scanDown (λF=>ltInt d2[x]! F) d2 (aj) (s)) (λh=>[(0,dJ j),(1,Q x),(9,Q (aj:Nat)),(10,Q (h:Nat))]) (λ_=>[cD j d2]) (λh=>h) (s) a ?_ a ?_ a ⟨bC _,by omega,a⟩ ?_ ?_)
  .simp[bs]<;>omega
  .simp
  .rintro dw h ⟨J,R,y⟩;by_cases K:aj<=h
   .by_cases L:(λF=>ltInt d2[x]! F) d2[h]! = l
    .have C:ltInt d2[x]! d2[h]! = l:=M;refine be k [48,58] a z3 (g.av (h-1) a bv D E9 ?_);omega
    have C:ltInt d2[x]! d2[h]! = v:=M;refine be k [48,-58] a z3 (g.az ?_);exact QR
   refine be k [-48] a bv (g.az ?_);exact QR
  rintro⟨⟩ -;have t:=vU (S:=λF=>ltInt d2[x]! F) (O:=d2) (e:=aj) s;obtain⟨o,A⟩:∃o,o=scanDown (λF=>ltInt d2[x]! F) d2 aj s:=⟨_,rfl⟩
  rw[<-A]at t⊢;have z:=aaG w E A;by_cases V:o<aj
  .have aw:=z;rw[d,bo V]at aw;refine be k [64] a bv (g.az ?_);exact p () M a NM a tY
  have aw:=z;rw[d,bj w]at aw;refine be k [-64,909] a bv (g.bb [cD j (swp d2 aj o)] a ?_ ?_)
  .simp only[U.X,U,cX,cY,a9,ba];exact k_ I w w (λ_ _=>rfl)
  refine cU k a r_ (g.av (aj+1,o-1,swp d2 aj o) a bv D ?_ ?_)
  .grind [nI]
  grind
 rintro⟨⟩ ⟨ae,Z⟩;refine cU k a B (g.aH [0] a ?_ g_);simp
end
section
open Go.Sort (swp scanSorted shiftDown shiftUp partialIns partialInsertionSort ltInt)
variable {q:af T}
theorem Mf{a}(d:e<i)(b:ltInt a[e]! a[e-1]! = v):scanSorted ltInt a i e=scanSorted ltInt a i (e+1):=by rw[scanSorted.eq_1 ltInt a i e,bo M]
theorem zd{a}(b:e<i->ltInt a[e]! a[e-1]! = l):scanSorted ltInt a i e=e:=by rw[scanSorted,bj];grind
def abH{O}:∀b a,i-a<=b->a<=i->a<=scanSorted ltInt O i a/\scanSorted ltInt O i a<=i:=by
 intro b;induction b with
 |zero=>grind[zd]
 |succ b e=>
  intro a j g;by_cases d:a<i
  .cases h:ltInt O[a]! O[a-1]! with
   |false=>grind[Mf]
   |true=>grind[zd]
  grind
theorem abW{a}(d:1<=u)(t:ltInt a[u]! a[u-1]! = l):shiftDown ltInt u a=shiftDown ltInt (u-1) (swp a u (u-1)):=by
 obtain⟨u,rfl⟩:∃b,u=b+1:=⟨u-1,by omega⟩
 simp only[pW]at t⊢;rw[shiftDown,bj gH]
theorem Mn{a}(b:1<=u->ltInt a[u]! a[u-1]! = v):shiftDown ltInt u a=a:=by
 cases u with
 |zero=>rfl
 |succ u=>
  have:=b w;simp only[pW]at this;rw[shiftDown,bo M]
theorem abX{a}(b:u<i)(t:ltInt a[u]! a[u-1]! = l):shiftUp ltInt i u a=shiftUp ltInt i (u+1) (swp a u (u-1)):=by rw[shiftUp.eq_1 ltInt i u a,bo b,bj gH]
theorem Mo{a}(b:u<i->ltInt a[u]! a[u-1]! = v):shiftUp ltInt i u a=a:=by rw[shiftUp];grind
abbrev qG(e a b d g:Nat):bJ:=[(0,dJ e),(1,Q a),(2,Q b),(7,Q d),(8,Q (5-(g:Int)))]
def aaL{d b}{a}:partialIns ltInt d i (b+1) e a=(if scanSorted ltInt a i e=i then(a,l)else if i-d<50 then(a,v)else
  partialIns ltInt d i b (scanSorted ltInt a i e) (if i-scanSorted ltInt a i e≥2 then shiftUp ltInt i (scanSorted ltInt a i e+1) (if scanSorted ltInt a i e-d≥2 then shiftDown ltInt (scanSorted ltInt a i e-1) (swp a (scanSorted ltInt a i e) (scanSorted ltInt a i e-1))else swp a (scanSorted ltInt a i e) (scanSorted ltInt a i e-1))else(if scanSorted ltInt a i e-d≥2 then shiftDown ltInt (scanSorted ltInt a i e-1) (swp a (scanSorted ltInt a i e) (scanSorted ltInt a i e-1))else swp a (scanSorted ltInt a i e) (scanSorted ltInt a i e-1)))):=rfl
def Jc(j)(O)(r i)(W:O.size=j)(ab:r<i)(ag:i<=j)(ai:j<=4000000):
  X q 262 [dJ j,Q r,Q i] [cD j O] (bf (partialInsertionSort ltInt O r i).2) [cD j (partialInsertionSort ltInt O r i).1]:=by
 have m:a_ q [(263,qb)]:=.cons r1 .nil;refine X.J func262 rfl λah=>?_;obtain⟨u,F⟩:∃u,partialIns ltInt r i 5 (r+1) O=u:=⟨_,rfl⟩;have V:partialInsertionSort ltInt O r i=u:=F;rw[V];refine cU m a bE ?_
 refine g.cm (S2:=Unit) 0 a a (λ_=>u.2=v) (λ_=>[(0,dJ j)]) (λ_=>[cD j u.1]) 1 (λb:Nat×Nat×Array Int=>b.2.2.size=j/\b.1<=5/\r+1<=b.2.1/\b.2.1<=i/\partialIns ltInt r i b.1 b.2.1 b.2.2=u) (λb=>qG j r i b.2.1 b.1) (λb=>[cD j b.2.2]) (λb=>b.1) (5,r+1,O) a D a D a ⟨W,by grind,by grind,by grind,F⟩ ?_ ?_
 .rintro Z ⟨b,e,d1⟩ ⟨bB,J,bp,o,s⟩;simp only at bB J bp o s;cases b with
  |zero=>
   rw[partialIns]at s;refine be m [-14] a D (g.az ?_);exact Z () M a D a (by simp[bs,<-s])
  |succ b=>
   rw[aaL]at s;refine be m [14] a bv (g.cm (S2:=Unit) 2 a a (λ_=>True) (λ_=>qG j r i (scanSorted ltInt d1 i e) (b+1)) (λ_=>[cD j d1]) 1 (λh:Nat=>e<=h/\h<=i/\scanSorted ltInt d1 i h=scanSorted ltInt d1 i e) (λh=>qG j r i h (b+1)) (λ_=>[cD j d1]) (λh=>i-h) e a D a D a ⟨bC _,o,a⟩ ?_ ?_)
   .rintro dw h ⟨P,aa,br⟩;by_cases ae:h<i
    .have bS:((h:Int)-1).toNat=h-1:=w;cases bl:ltInt d1[h]! d1[h-1]! with
     |false=>
      refine be m [19,-30] a Pt (g.av (h+1) a D D ?_ ?_)
      .grind [Mf]
      omega
     |true=>
      refine be m [19,30] a Pt (g.az ?_);have aw:scanSorted ltInt d1 i e=h:=by grind[zd]
      exact dw () B a bv a D
    refine be m [-19] a bv (g.az ?_);have aw:scanSorted ltInt d1 i e=h:=by grind[zd]
    exact dw () B a bv a D
   rintro⟨⟩ -;have Y:=abH (O:=d1) (i:=i) (i-e) e (bC _) o;obtain⟨k,H⟩:∃k,k=scanSorted ltInt d1 i e:=⟨_,rfl⟩;rw[<-H]at Y s⊢
   by_cases C:k=i
   .rw[bo C]at s;rw[<-s];refine be m [37] a ?_ (g.aT (bY.mk [0] a ?_ a a a g_))
    .simp[C]
    simp
   rw[bj C]at s;by_cases R:i-r<50
   .rw[bo R]at s;rw[<-s];refine be m [-37,41] a kT (g.aT (bY.mk [0] a ?_ a a a g_));simp
   rw[bj R]at s;have bS:((k:Int)-1).toNat=k-1:=w;refine be m [-37,-41,912] a ?_ ?_
   .simp only[U,cX,cY,bS,a7,dp,eZ,dZ,ba,a9];exact fv
   refine g.bb [cD j (swp d1 k (k-1))] a ?_ ?_
   .simp only[U.X,U,cX,cY,bS,a9,ba];exact k_ bB w w (λ_ _=>rfl)
   have K:(swp d1 k (k-1)).size=j:=r';obtain⟨d2,y⟩:∃d2,d2=swp d1 k (k-1):=⟨_,rfl⟩;rw[<-y]at K s⊢;obtain⟨d3,x⟩:∃d3,d3=if k-r≥2 then shiftDown ltInt (k-1) d2 else d2:=⟨_,rfl⟩
   rw[<-x]at s;have af:∀p O,(shiftDown ltInt p O).size=O.size:=by
    intro p;induction p with
    |zero=>intro O;rfl
    |succ p aj=>
     intro O;rw[shiftDown];exact r'
   have T:d3.size=j:=M;apply g.cg (qG j r i k (b+1)) [cD j d3]
   .intro dw;by_cases E:k-r≥2
    .rw[bo E]at x;refine be m [61] a sa (g.cm (S2:=Unit) 4 a a (λ_=>True) (λ_=>qG j r i k (b+1)) (λ_=>[cD j d3]) 1 (λb:Nat×Array Int=>b.2.size=j/\b.1<i/\shiftDown ltInt b.1 b.2=d3) (λt=>qG j r i k (b+1)++[(9,Q t.1)]) (λb=>[cD j b.2]) (λb=>b.1) (k-1,d2) a bv a D a ⟨K,by grind,x.symm⟩ ?_ ?_)
     .rintro d ⟨p,d4⟩ ⟨S,z,A⟩;simp only at S z A;by_cases I:1<=p
      .have bz:((p:Int)-1).toNat=p-1:=w;cases bl:ltInt d4[p]! d4[p-1]! with
       |true=>
        refine be m [65,77] a zY (g.av (p-1,swp d4 p (p-1)) a bv OQ ?_ ?_)
        .grind [abW]
        grind
       |false=>
        refine be m [65,-77] a zY (g.az ?_);have aw:d3=d4:=by grind[Mn]
        exact d () B a D a tY
      refine be m [-65] a bv (g.az ?_);have aw:d3=d4:=by grind[Mn]
      exact d () B a D a tY
     rintro⟨⟩ -;exact be m [918] a B ku
    rw[bj E]at x;rw[<-x];exact be m [-61,918] a zX ku
   by_cases L:i-k≥2
   .rw[bo L]at s;obtain⟨eL,N⟩:∃eL,shiftUp ltInt i (k+1) d3=eL:=⟨_,rfl⟩;rw[N]at s;refine be m [98] a sa ?_
    refine g.cm (S2:=Unit) 6 a a (λ_=>eL.size=j) (λ_=>qG j r i k (b+1)) (λ_=>[cD j eL]) 1 (λb:Nat×Array Int=>b.2.size=j/\1<=b.1/\b.1<=i/\shiftUp ltInt i b.1 b.2=eL) (λt=>qG j r i k (b+1)++[(10,Q t.1)]) (λb=>[cD j b.2]) (λb=>i-b.1) (k+1,d3) a D a D a ⟨T,by grind,by grind,N⟩ ?_ ?_
    .rintro d ⟨p,d4⟩ ⟨S,I,z,A⟩;simp only at S I z A;by_cases aM:p<i
     .have bz:((p:Int)-1).toNat=p-1:=w;cases bl:ltInt d4[p]! d4[p-1]! with
      |true=>
       refine be m [103,115] a zY (g.av (p+1,swp d4 p (p-1)) a D OQ ?_ ?_)
       .grind [nI,abX]
       grind
      |false=>
       refine be m [103,-115] a zY (g.az ?_);have aw:eL=d4:=by grind[Mo]
       exact d () M a D a tY
     refine be m [-103] a bv (g.az ?_);have aw:eL=d4:=by grind[Mo]
     exact d () M a D a tY
    rintro⟨⟩ J;refine cU m a wA (g.av (b,k,eL) a bv D M ?_);grind
   rw[bj L]at s;refine be m [-98] a zX (g.av (b,k,d3) a bv D M ?_);grind
 rintro⟨⟩ G;refine cU m a B (g.aH [0] a ?_ g_);simp[G]
end
section
open Go.Sort (swp pdq rd Rd Below SWO insertionSort heapSort breakPatterns choosePivot reverseRange partialInsertionSort partition partitionEqual Hint ltInt PermIn SortedIn)
variable {q:af T}
abbrev vP(h d e g:Nat)(a b:Bool):bJ:=[(0,dJ h),(1,Q d),(2,Q e),(3,Q g),(8,bf a),(9,bf b)]
def J2{a}:qr a=2↔a=.decreasing:=by cases a<;>simp[qr]
def Y7{a}:qr a=1↔a=.increasing:=by cases a<;>simp[qr]
structure RZ where
 cC:Nat
 c_:Nat
 lim:Nat
 hL:Bool
 hP:Bool
 c':Array Int
def VG(j)(a){x}(d:a.size=j)(h:i<=j)(e:x<=j)(k:j<=4000000){b}(g:b=insertionSort ltInt a x i):X q 257 [dJ j,Q x,Q i] [cD j a] (.S []) [cD j b]:=by grind[VF]
def Vj(j)(a){x}(e:a.size=j)(d:x<=i)(h:1<=i-x)(k:i<=j)(m:j<=4000000){b}(g:b=heapSort ltInt a x i):X q 258 [dJ j,Q x,Q i] [cD j a] (.S []) [cD j b]:=by grind[Vg]
def Xa(j)(s:j<=4000000):∀aq(K:Array Int)(x i lim:Nat),i-x<=aq->K.size=j->x<=i->i<=j->lim<=100->Below ltInt x i K ->
  ∀{F aL aN:Int},F=x->aL=i->aN=lim->∀{an:Array Int},an=pdq ltInt K x i lim l l->X q 206 [dJ j,Q F,Q aL,Q aN] [cD j K] (.S []) [cD j an]:=by
 have e:a_ q [(263,qb)]:=.cons r1 .nil;have N:=Go.Sort.swo_ltInt;have a0:=Go.Sort.partialInsertionSort_holds (lt:=ltInt);have ah:=Go.Sort.partition_holds ltInt;have a4:=Go.Sort.partitionEqual_holds ltInt;have aV:=Go.Sort.reverseRange_holds (α:=Int);have L:=Go.Sort.pdq_sorts ltInt;intro aq;induction aq using Nat.strongRecOn with
 |_ aq ai=>
 intro K x i lim a8 ae ab aA aD aJ F aL aN aE aF aG an aa;subst aE aF aG;refine X.J func206 rfl λaC=>?_;refine cU e a B (g.aC 1 (λo:RZ=>o.c'.size=j/\o.cC<=o.c_/\o.c_<=j/\o.lim<=100/\o.c_-o.cC<=i-x/\Below ltInt o.cC o.c_ o.c'/\pdq ltInt o.c' o.cC o.c_ o.lim o.hL o.hP=an) (λo=>vP j o.cC o.c_ o.lim o.hL o.hP) (λo=>[cD j o.c']) (λo=>o.c_-o.cC) ⟨x,i,lim,l,l,K⟩ a D a D a ⟨ae,ab,aA,aD,bC _,aJ,aa.symm⟩ ?_);clear aC aJ ae aa;rintro⟨h,k,p,d,m,d1⟩ ⟨T,ar,r,af,ag,aJ,O⟩;simp only at T ar r af ag aJ O;by_cases R:k-h<=12
 .rw[Go.Sort.pdq_small R]at O;refine be e [23] a ?_ ?_
  .simp only[U,a7,bw];exact fv
  exact g.aB (VG j d1 (x:=h) (i:=k) T r w s O.symm) [0] a FC
 by_cases S:p=0
 .rw[Go.Sort.pdq_heap R S]at O;refine be e [-23,29] a ?_ ?_
  .simp only[U,a7,dp,gL];exact fv
  exact g.aB (Vj j d1 (x:=h) (i:=k) T ar w r s O.symm) [0] a FC
 have aj:h<k:=w;obtain⟨Y,a5,f3,f4,f5,f6,f7,f8⟩:=Go.Sort.rd_facts (limit:=p) (wb:=d) (wp:=m) N a0 aV aj M aJ;have a6:=Go.Sort.rd_lim_le (lt:=ltInt) (d:=d1) (a:=h) (b:=k) (limit:=p) (wb:=d) (wp:=m);have aW:=Go.Sort.rd_dec (lt:=ltInt) (d:=d1) (a:=h) (b:=k) (limit:=p) (wb:=d) (wp:=m);have aM:=Go.Sort.rd_not (lt:=ltInt) (d:=d1) (a:=h) (b:=k) (limit:=p) (wb:=d) (wp:=m);have G:=Go.Sort.rd_pi_yes (lt:=ltInt) (d:=d1) (a:=h) (b:=k) (limit:=p) (wb:=d) (wp:=m);have aR:=Go.Sort.rd_pi_no (lt:=ltInt) (d:=d1) (a:=h) (b:=k) (limit:=p) (wb:=d) (wp:=m);have av:=Go.Sort.rd_c (lt:=ltInt) (d:=d1) (a:=h) (b:=k) (limit:=p) (wb:=d) (wp:=m);have Z:d=v->(rd ltInt d1 h k p d m).d1=breakPatterns d1 h k/\(rd ltInt d1 h k p d m).lim=p-1:=by grind[Go.Sort.rd_false]
 have a1:d=l->(rd ltInt d1 h k p d m).d1=d1/\(rd ltInt d1 h k p d m).lim=p:=by grind[Go.Sort.rd_true]
 have aO:=Go.Sort.pdq_done (lt:=ltInt) (d:=d1) (wb:=d) (wp:=m) R S;have geq:=Go.Sort.pdq_eq (lt:=ltInt) (d:=d1) (wb:=d) (wp:=m) R S;have y:=Go.Sort.pdq_left (lt:=ltInt) (d:=d1) (wb:=d) (wp:=m) R S;have aT:=Go.Sort.pdq_right (lt:=ltInt) (d:=d1) (wb:=d) (wp:=m) R S;rw[T]at Y f4 f7;rw[O]at aO geq y aT;generalize rd ltInt d1 h k p d m=b at *;apply g.cg (vP j h k b.lim d m++[(10,Q ((k-h:Nat):Int))]) [cD j b.d1]
 .intro dw;cases d with
  |false=>
   obtain⟨H,J⟩:=Z rfl;refine be e [-23,-29] a Ou (g.aB (Ua j d1 h k T ar r s) [0] a ?_);rw[<-H];refine be e [910] a r_ ?_;exact dw _ _ a (by simp[U.X,U,J,ba,a9];and_intros<;>omega)
  |true=>
   obtain⟨H,J⟩:=a1 rfl;subst H;exact be e [-23,-29,910] a Ou (dw _ _ a bv)
 refine cU e a B (g.aB (Uc j b.d1 h k ar r w s) [0] a ?_);rw[<-av];apply g.cg (vP j h k b.lim d m++[(10,Q ((k-h:Nat):Int)),(11,Q b.pivot),(12,Q (qr b.hint))]) [cD j b.d2]
 .intro dw;by_cases aP:b.c.2=.decreasing
  .obtain⟨H,J,z⟩:=aW aP;refine be e [50] a ?_ ?_
   .simp only[U,gL,J2];omega
   refine g.aB (Xp j b.d1 h k Y w w r s) [0] a ?_;rw[<-H];exact be e [915] a r_ (dw _ _ a (by simp[U.X,U,J,z,qr,ba,a9];omega))
  obtain⟨H,J,z⟩:=aM aP;rw[<-H];refine be e [-50,915] a ?_ ?_
  .simp only[U,eZ,dZ,J2];omega
  exact dw _ _ a (by simp[U.X,U,J,z,ba,a9])
 by_cases A:b.pi.2=l
 ·
  have aH:(d&&m&&decide (b.hint=.increasing))=l:=M;have V:=G aH;simp[ck,bw]at aH;obtain⟨⟨rfl,rfl⟩,aY⟩:=aH;refine be e [67] a bE (g.aB (Jc j b.d2 h k f4 aj r s) [0] a ?_);rw[<-V,A,<-aO A];exact FC
 rw[p0]at A;apply g.cg (vP j h k b.lim d m++[(10,Q ((k-h:Nat):Int)),(11,Q b.pivot)]) [cD j b.pi.1]
 .intro dw;cases u:(d&&m&&decide (b.hint=.increasing))with
  |true=>
   have V:=G u;simp[ck,bw]at u;obtain⟨⟨rfl,rfl⟩,aY⟩:=u;refine be e [67] a bE (g.aB (Jc j b.d2 h k f4 aj r s) [0] a ?_);rw[<-V,A];exact Fi
  |false=>
   have V:b.d2=b.pi.1:=M;rw[V];cases d with
   |false=>
    exact Fi
   |true=>
    cases m with
    |false=>
     exact Fi
    |true=>
     refine be e [-67,917] a ?_ ?_
     .simp only[U,eZ,dZ,Y7];grind
     exact ku
 have W:((h:Int)-1).toNat=h-1:=w;cases u:(decide (h>0)&&!ltInt b.pi.1[h-1]! b.pi.1[b.pivot]!)with
 |true=>
  have au:=u;simp[ck,bw,jc]at au;obtain⟨E,t,I,C,_⟩:=Go.Sort.round_eq (mid:=(partitionEqual ltInt b.pi.1 h k b.pivot).1) (d4:=(partitionEqual ltInt b.pi.1 h k b.pivot).2) N a4 au.1 f6.1 f6.2 M f8 au.2 rfl;have ao:=geq A u ⟨E,t⟩;refine be e [74,-85] a ?_ ?_
  .simp only[U,cX,cY,W,au.2,a7,bw,ba,a9];exact fv
  refine g.aB (W9 j b.pi.1 h k b.pivot f7 aj r w s) [0] a (cU e a B (g.av ⟨(partitionEqual ltInt b.pi.1 h k b.pivot).1,k,b.lim,d,m,(partitionEqual ltInt b.pi.1 h k b.pivot).2⟩ a D D M ?_));grind
 |false=>
  obtain⟨E,t,I,C,al,aI,aK⟩:=Go.Sort.round_part (mid:=(partition ltInt b.pi.1 h k b.pivot).1) (ap:=(partition ltInt b.pi.1 h k b.pivot).2.1) (d4:=(partition ltInt b.pi.1 h k b.pivot).2.2) N ah f6.1 f6.2 M f8 rfl;apply g.cg (vP j h k b.lim d m++[(10,Q ((k-h:Nat):Int)),(11,Q b.pivot)]) [cD j b.pi.1]
  .intro dw;by_cases aS:0<h
   .have aZ:ltInt b.pi.1[h-1]! b.pi.1[b.pivot]! = l:=M;refine be e [74,85,920] a ?_ ?_
    .simp only[U,cX,cY,W,aZ,a7,bw,ba,a9];exact fv
    exact ku
   exact be e [-74,920] a bv ku
  refine cU e a B (g.aB (W8 j b.pi.1 h k b.pivot f7 aj r w s) [0] a ?_);have aw:=y A u ⟨E,t⟩;have ax:=aT A u ⟨E,t⟩;generalize partition ltInt b.pi.1 h k b.pivot=P at *;rw[f7]at I;by_cases aQ:P.1-h<k-P.1
  .have ao:=aw aQ;obtain⟨w1,w2⟩:=L N P.2.2 h P.1 b.lim l l E M C;obtain⟨w3,_⟩:=aI _ w1 w2;refine be e [113] a sa (g.aB (ai (P.1-h) w P.2.2 h P.1 b.lim (bC _) I E w w C a a a a) [0] a (cU e a Rx (g.av ⟨P.1+1,k,b.lim,decide (P.1-h≥(k-h) / 8),P.2.1,pdq ltInt P.2.2 h P.1 b.lim l l⟩ a bv D ?_ ?_)))
   .exact⟨by simp only;rw[w1.1,I],by grind,r,by grind,by grind,w3,ao.symm⟩
   grind
  have ao:=ax aQ;obtain⟨w1,w2⟩:=L N P.2.2 (P.1+1) k b.lim l l w M al;obtain⟨w3,_⟩:=aK _ w1 w2;refine be e [-113] a zX (g.aB (ai (k-(P.1+1)) w P.2.2 (P.1+1) k b.lim (bC _) I w r w al (F:=(P.1:Int)+1) w a a a) [0] a (cU e a ?_ (g.av ⟨h,P.1,b.lim,decide (k-P.1≥(k-h) / 8),P.2.1,pdq ltInt P.2.2 (P.1+1) k b.lim l l⟩ a ?_ ?_ ?_ ?_)))
  .trivial
  .exact bv
  .simp
  .exact⟨by simp only;rw[w1.1,I],by grind,by grind,by grind,by grind,w3,ao.symm⟩
  grind
end
section
open Go.Proofs Go.Conc Go.Conc.Lib
open Go.ConcN (WgLive PayAt Has RW AtR0)
open Go.ConcR (KK WgAt stA smA rd wr mk Payload DC0)
instance ae5:Payload:=⟨244⟩
def nc(h:Int):bI:=λargs e=>match args,e with
 |[.n (.Q (.c (.int .i64 d))),g,.n (.Q (.c (.int .i64 i)))],[]=>match js 2 g with
  |none=>n
  |some (b,a)=>f (xR (dg d (a2.ad b a) i),[],[a2.bK b a,d=h])
 |_,_=>n
noncomputable def GR:Code:=(Tryz.f186.body).getD .skip
noncomputable def DH:Array an:=match GR with|.seq (.region _ a _) _=>a|_=>#[]
noncomputable def vH:Array an:=match GR with|.seq _ (.region _ a _)=>a|_=>#[]
def SE:Tryz.f186.body=f (.seq (.region 0 DH v) (.region 1 vH l)):=bU
def gS(e:Option Nat)(a:Op)(b:al)(d:Array Edge):an:={dst:=e,op:=a,type:=b,pos:= "l12_snap.go:82",after:=d,guard:=n}
def mG:m an:=[gS (f 6) (.load 232 (.tmp 4)) 232 #[],gS (f 7) (.load 3 (.tmp 5)) 3 #[],gS (f 8) (.load 3 (.tmp 1)) 3 #[],gS (f 9) (.load 26 (.tmp 2)) 26 #[],gS (f 10) (.load 3 (.tmp 3)) 3 #[],
 gS (f 11) (.call {callee:=.value (.func 188),args:=#[.tmp 8,.tmp 9,.tmp 10],argTypes:=#[3,26,3]}) 244 #[⟨2,.data⟩,⟨3,.data⟩,⟨4,.data⟩],
 gS (f 12) (.indexAddr 232 (.tmp 6) (.tmp 7)) 0 #[⟨0,.data⟩,⟨1,.data⟩,⟨0,.phase⟩,⟨1,.phase⟩,⟨2,.phase⟩,⟨3,.phase⟩,⟨4,.phase⟩,⟨5,.phase⟩],
 gS n (.store 244 (.tmp 12) (.tmp 11)) 0 #[⟨6,.data⟩,⟨5,.data⟩,⟨5,.chain⟩,⟨0,.phase⟩,⟨1,.phase⟩,⟨2,.phase⟩,⟨3,.phase⟩,⟨4,.phase⟩,⟨5,.phase⟩]]
def aas:vH=mG.toArray:=bU
def yV(a:mG[e]?=f r):e<8:=(cO.1 a).1
section
variable (h:Int)(Z:m b')(x:Int)(j F N:Nat)
def Lo(a:Y):bJ:=[(0,cL a),(1,ax (.R [.int .i64 h])),(2,ax (.R [.B v 2 (c Z) (a2.fn Z)])),(3,ax (.R [.int .i64 x])),(4,ax (.R [.val (.slice (f ⟨N,0,n⟩) j j)])),(5,ax (.R [.int .i64 F]))]
def r7:Nat->y
 |0=>cL (.slice (f ⟨N,0,n⟩) j j)
 |1=>Q F
 |2=>Q h
 |3=>a2.B Z
 |4=>Q x
 |5=>xR (dg h Z x)
 |6=>cL (.pointer (f ⟨N,F*2,n⟩))
 |_=>.any
def rJ:Nat->Option Nat
 |6=>f 0|7=>f 1|8=>f 2|9=>f 3|10=>f 4|11=>f 5|12=>f 6|_=>n
def JO(a:Y):Nat->bJ
 |5=>[(8,Q h),(9,a2.B Z),(10,Q x)]
 |6=>[(6,cL (.slice (f ⟨N,0,n⟩) j j)),(7,Q F)]
 |_=>Lo h Z x j F N a
end
def aai{m:af T}{j F N}(k:F<j):aZ m 13 mG (gS (f 12) (.indexAddr 232 (.tmp 6) (.tmp 7)) 0 #[⟨0,.data⟩,⟨1,.data⟩,⟨0,.phase⟩,⟨1,.phase⟩,⟨2,.phase⟩,⟨3,.phase⟩,⟨4,.phase⟩,⟨5,.phase⟩]) [(6,cL (.slice (f ⟨N,0,n⟩) j j)),(7,Q F)] [] (cL (.pointer (f ⟨N,F*2,n⟩))) []:=by
 refine .a0 (λ_ _ _ _=>i6 a) (a1.aR λr e t h=>?_);have d:=h (.tmp 6);have b:=h (.tmp 7);have o:bD [(6,y.n (.Q (.v (.slice (f ⟨N,0,n⟩) j j)))),(7,Q F)] (.tmp 6)=cL (.slice (f ⟨N,0,n⟩) j j):=rfl;have q:bD [(6,y.n (.Q (.v (.slice (f ⟨N,0,n⟩) j j)))),(7,Q F)] (.tmp 7)=Q F:=rfl;rw[o]at d;rw[q]at b;have d:=Rd.bc d;have b:=b7 b;generalize g:e (.tmp 7)=s at b;cases b;have i:=(bb 232 yu a).run_underlying (p:=r.a);refine⟨.pointer (f ⟨N,F*2,n⟩),?_,Rd.val a,?_⟩
 .simp[ab,gS,d,g,Instr.indexAt,asIntOf,i,show yu.desc=.slice 244 from a,(bb 244 rF a).ba,show rF.size=2 from a,g0,k]
 simp[ab,gS,d,g,Instr.indexAt,asIntOf,i,show yu.desc=.slice 244 from a,g0,k]
def ad'{w:af T}{h}(A:bK w 188 (nc h))(Z)(x)(j F N)(J:F<j)(d):
  un w 13 mG.toArray (Lo h Z x j F N d) [] (r7 h Z x j F N) (JO h Z x j F N d) rJ 7:=by
 have E:a_ w [(188,nc h)]:=a_.cons A a_.nil;have r:∀(i:Nat) p y t m,mG[i]?=f p->iy eO [(188,nc h)] [] mG y [] p=f (t,n,m)->U m->aZ w 13 mG p y [] t []:=
  λi p y t m _ u e=>ee bb E u e
 refine⟨?_,?_,?_,?_,?_,?_,by decide⟩
 .intro i p e K C _;simp[j4]at e;have g:=yV e
  match i,g with
  |0,_|1,_|2,_|3,_|4,_|5,_|6,_|7,_=>
   cases e;simp[gS]at C;try (rcases C with rfl|rfl|rfl|rfl|rfl|rfl|rfl|rfl|rfl<;>decide)
   try (rcases C with rfl|rfl|rfl<;>decide)
 .intro i p t e z;simp[j4]at e;have g:=yV e
  match i,g with
  |0,_|1,_|2,_|3,_|4,_|5,_|6,_|7,_=>
   cases e;cases z;try exact⟨rfl,by decide⟩
 .intro t i u;unfold rJ at u;split at u<;>cases u<;>exact⟨_,rfl,rfl⟩
 .intro i p e q;simp[j4]at e;have g:=yV e
  match i,g with
  |0,_=>cases e;exact r 0 _ _ _ _ a a B
  |1,_=>cases e;exact r 1 _ _ _ _ a a B
  |2,_=>cases e;exact r 2 _ _ _ _ a a B
  |3,_=>cases e;exact r 3 _ _ _ _ a a B
  |4,_=>cases e;exact r 4 _ _ _ _ a a B
  |5,_=>
   cases e;have:=r 5 _ (JO h Z x j F N d 5) _ _ a a (by simp[a2.U]);rw[a2.l]at this;exact this
  |6,_=>cases e;exact aai J
  |7,_=>grind
 .intro i p e q o k b aa s;simp[j4]at e;have g:=yV e
  match i,g with
  |0,_|1,_|2,_|3,_|4,_=>
   match o with
   |0|1|2|3|4|5=>exact s
   |o+6=>trivial
  |5,_=>
   cases e
   match o with
   |8=>exact(show bx k b aa (r7 h Z x j F N 2)from by simpa[rJ,gS,eS,Region.binds]using s)
   |9=>exact(show bx k b aa (r7 h Z x j F N 3)from by simpa[rJ,gS,eS,Region.binds]using s)
   |10=>exact(show bx k b aa (r7 h Z x j F N 4)from by simpa[rJ,gS,eS,Region.binds]using s)
   |0|1|2|3|4|5|6|7=>trivial
   |o+11=>trivial
  |6,_=>
   cases e
   match o with
   |6=>exact(show bx k b aa (r7 h Z x j F N 0)from by simpa[rJ,gS,eS,Region.binds]using s)
   |7=>exact(show bx k b aa (r7 h Z x j F N 1)from by simpa[rJ,gS,eS,Region.binds]using s)
   |0|1|2|3|4|5=>trivial
   |o+8=>trivial
  |7,_=>grind
 intro p e D I q;simp[j4]at e;cases e
 match D,I with
 |0,_=>exact⟨⟨0,.phase⟩,by simp[gS],rfl,rfl⟩
 |1,_=>exact⟨⟨1,.phase⟩,by simp[gS],rfl,rfl⟩
 |2,_=>exact⟨⟨2,.phase⟩,by simp[gS],rfl,rfl⟩
 |3,_=>exact⟨⟨3,.phase⟩,by simp[gS],rfl,rfl⟩
 |4,_=>exact⟨⟨4,.phase⟩,by simp[gS],rfl,rfl⟩
 |5,_=>exact⟨⟨5,.phase⟩,by simp[gS],rfl,rfl⟩
 |6,_=>exact⟨⟨6,.data⟩,by simp[gS],rfl,rfl⟩
 |7,_=>grind
noncomputable def mm:aG:={(default:aG)with fn:=Tryz.prog.funcs.size,defers:=[],mode:=.panicking [goexitEntry]}
def rp(z:Array Y):Deferred:={target:=.fn (.func 186) z,args:=#[]}
def SF(v0 v1 v2 a v4 b)(p):ao T v (born T (rp #[v0,v1,v2,a,v4,b])) p =
  .go (G ((baseD 186).at ⟨#[v0,v1,v2,a,v4,b,J,J,J,J,J,J,J],[]⟩ [.code (.seq (.region 0 DH v) (.region 1 vH l))]) [mm]) p #[]:=by
 have g:=SE;have e:Tryz.f186.ntmps=13:=bU;have d:¬Tryz.f186.name= "runtime.NumGoroutine":=by have:(Tryz.f186.name== "runtime.NumGoroutine")=v:=bU;grind
 simp[born,rp,ao,unwind,callDeferred,invoke,callFunc,Tryz.func186,g,e,d,seen,GStep.after,G,Frame.enter,Frame.at,baseD,mm]
end
section
variable {q:af T}
abbrev nF(a:m b')(b:Nat):b':=a.getD b (0,[])
def YE{j}{Z}{b}(g:e<c Z)(m:fS h (nF Z e) j=f b)(d:∀a,a<e->fS h (nF Z a) j=n):dg h Z j=f b:=by
 unfold dg;induction Z generalizing e with
 |nil=>grind
 |cons o Z i=>
  cases e with
  |zero=>grind
  |succ e=>
   have k:=d 0 w;grind
def YF{j}{Z}(b:∀a,a<c Z->fS h (nF Z a) j=n):dg h Z j=n:=by unfold dg;grind[List.getElem_of_mem]
theorem k0.e'{P}{I}{k}{ac}(aY:b2 P ac){fn}{s}{res}{ap}(aV){Z}(b:tp ac fn.results.toList aV I res=f Z)(p:U Z)(q:dx aV k=f ap)(j:l3 ap=l)(g:fb aV=l)(e:∀h,h<s->aV[h]?=f h):
  k0 P fn s res ap .ret I k:=by
 refine⟨.inl a,aV,?_⟩;unfold tp at b;split at b
 .rename_i bh d;split at b
  .rename_i m o;split at b
   .rename_i i;exact⟨m,Z,oQ.e' aY d o,b,p,i,q,j,g,e⟩
   grind
  grind
 grind
def eG{b:m Nat}:∀a,a<0->b[a]?=f a:=λ_ d=>absurd d (iH _)
def UU(o:bK q 219 lH)(h)(Z)(j)(i:ce h=l):X q 188 [Q h,a2.B Z,Q j] [] (xR (dg h Z j)) []:=by
 refine X.bA func188 rfl rfl rfl λp=>?_;have u:=p.B 1 a;have e:a_ q [(239,j' c1 (jB bG) c1 (λh t j=>iQ (fS h t j)) λh _ _=>[ce h=l])]:=.cons (adC o) .nil;refine b8 e a B (g.aC 1 (λb=>b<=c Z/\∀k,k<b->fS h (nF Z k) j=n) (λb:Nat=>[(0,Q h),(2,Q j),(6,aI 0 0),(11,a2.B Z),(12,Q (c Z)),(13,Q b)]) (λ_=>[.cells 244 [.c (.T []),.c (.bool v)]]) (λb=>c Z-b) 0 a D a D a ⟨by omega,by omega⟩ ?_);rintro b ⟨s,m⟩;by_cases r:b<c Z
 .cases d:fS h (nF Z b) j with
  |some y=>
   refine a8 e [14,24] a ?_ (g.freeze 6 0 a a a (g.aT ?_))
   .simp only[U,cY,bG.l];refine⟨?_,bG.U _,i,by omega,by omega,fi w⟩;grind
   refine k0.e' bb [] a ?_ a a a eG;rw[YE r d m];simp only[cY,bG.l];simp_all
  |none=>
   refine a8 e [14,-24] a ?_ (g.av (b+1) a ?_ ?_ ?_ ?_)
   .simp only[U,cY,bG.l];refine⟨by exact bE,?_,bG.U _,i,by omega,by omega,fi w⟩;grind
   .simp
   .simp
   .grind
   grind
 refine a8 e [-14] a bQ (g.az ?_);refine b8 e a B (g.freeze 6 0 a a a ?_);refine g.b8 bb [] a ?_ a a a eG;rw[YF λk x=>m k w];simp
def ac_(m:bK q 219 lH)(d:ce h=l):bK q 188 (nc h):=by
 intro args s i k g b e;unfold nc at b;split at b
 .rename_i k1 r j;split at b
  .cases b
  rename_i u t o;cases b;obtain⟨p,rfl⟩:=e;exact(UU m _ _ j d).args λw z=>b4.imp (λ_ a=>a) (b4.imp (λ_ a=>a2.cv o p a) (b4.imp (λ_ a=>a) (λ_ a=>a))) z
 grind
def sC:bI:=λargs b=>match args,b with
 |[.n (.Q (.c (.T [46]))),.n (.Q (.c (.int .i64 a)))],[]=>f (b1 (aU a.toNat 46),[],[0<=a/\a<=3])
 |_,_=>n
def acR:bK q 280 (dc c1 (λa=>Q (fa a.toNat)) λa=>[0<=a/\a<=4000000]):=.a9 λa d=>by
 have e:0<=a/\a<=4000000:=d;obtain⟨b,rfl⟩:∃b:Nat,a=b:=⟨a.toNat,by omega⟩
 exact Uh (q:=q) b w
def S4(a:1<=j)(b:j<=8):j<=fa j/\fa j<=j+3:=FX
def W5(h:bK q 279 sC)(d):X q 219 [b1 d] [] (b1 (fK d)) []:=by
 refine X.J func219 rfl λj=>?_;have e:a_ q [(278,dc eE (λi=>bf (cB i)) λ_=>[]),(280,dc c1 (λb=>Q (fa b.toNat)) λb=>[0<=b/\b<=4000000]),(279,sC)]:=.cons Et (.cons acR (.cons h .nil));by_cases x:cB d=l
 .have s:=x;simp only[cB,ck,bw]at s;have k:=S4 s.1.1 s.1.2;refine a8 e [-5] a ?_ (g.ao a ?_)
  .simp[x,a7];omega
  simp[fK,x]
 refine a8 e [5] a oN (g.ao a ?_);simp[fK,x]
def adx(a:bK q 279 sC):bK q 219 lH:=.a9 λb _=>W5 a b
def Xn:X q 279 [b1 [46],Q 0] [] (b1 []) []:=by refine X.J func279 rfl λb=>?_;refine a5 [12] a ?_ (g.ao a);simp
def Xo:X q 279 [b1 [46],Q 1] [] (b1 [46]) []:=by refine X.J func279 rfl λb=>?_;refine a5 [-12,14] a ?_ (g.ao a);simp
def adI(g:X q 279 [b1 [46],Q 2] [] (b1 [46,46]) [])(j:X q 279 [b1 [46],Q 3] [] (b1 [46,46,46]) []):bK q 279 sC:=by
 intro args i d e b a h;unfold sC at a;split at a
 .rename_i s;cases a;have:s=0∨s=1∨s=2∨s=3:=lI;rcases this with rfl|rfl|rfl|rfl
  .exact Xn
  .exact Xo
  .exact g
  grind
 grind
def US(x i):X q 191 [bR.B x,bR.B i] [] (bf (x==i)) []:=by
 refine X.J func191 rfl λj=>?_;have o:=j.B 0 a;by_cases aj:c x=c i
 .refine a5 [-10] a zM (g.b6 (λb=>b<=c x/\∀d,d<b->x.getD d []=i.getD d []) (λb:Nat=>[(0,bR.B x),(1,bR.B i),(12,Q (c x)),(13,Q b)]) (λ_=>[]) (λb=>c x-b) 0 a D a B ⟨by omega,by omega⟩ ?_);rintro b ⟨h,k⟩;by_cases p:b<c x
  .by_cases e:x.getD b []=i.getD b []
   .refine a5 [14,-24] a ?_ (g.b1 (b+1) a ?_ a B ?_ ?_)
    .simp only[U,cY];have m:(x.getD b bR.F==i.getD b bR.F)=l:=gL.2 e;exact⟨by exact bE,by grind,by omega,by omega,by omega,by omega,fi w⟩
    .simp
    .grind
    omega
   refine a5 [14,24] a ?_ (g.bQ (bY.zero a ?_))
   .simp only[U,cY];grind
   exact Fb
  refine a5 [-14] a bQ (g.bs a a ?_);refine aW a B (g.ao a ?_);have:x=i:=pZ aj λd e r=>by grind
  simp[this]
 refine a5 [10] a bQ (g.ao a ?_);exact Fb
end
def vQ{p q:ae}(t:r.op=.binOp op o p q ty){B}(R:P.underlying o=f (.pointer B)){i s}(E:∀b g h,bc k b->bx k b g (η p)->bx k b h (η q)->∃y z,g=.pointer y/\h=.pointer z/\(y==z)=i/\(eqGuard op o p q g h).run P b.a=.ok () b.a/\(∀a,(eqGuard op o p q g h).events P b.a a=a) /\
   (Op.equal o g h).run P b.a=.ok i b.a/\∀a,(Op.equal o g h).events P b.a a=a)(x:h9 op i=f s):a1 P r η k (ax (.bool s)) k:=by
 refine .aR λb I F A=>?_;obtain⟨y,z,d,e,J,m,C,j,D⟩:=E b _ _ F (A p) (A q);rw[d,e]at m j;have w:=C #[];have u:=D #[];rw[d,e]at w u;cases op<;>simp only[h9,reduceCtorEq,e3]at x
 .subst x;exact⟨.bool i,by simp[ab,t,d,e,m,binOp,j],Rd.bool,by simp[ab,t,d,e,m,w,binOp,j,u]⟩
 subst x;exact⟨.bool (!i),by simp[ab,t,d,e,m,binOp,j],Rd.bool,by simp[ab,t,d,e,m,w,binOp,j,u]⟩
def rP{h:ae}(q:r.op=.binOp op o h (.const (.pointer n)) ty){j}(C:P.underlying o=f (.pointer j)){s}(x:η h=ax .bo)(u:η (.const (.pointer n))=ax .bo)(w:h9 op l=f s):a1 P r η k (ax (.bool s)) k:=by
 refine vQ q C (i:=l) ?_ w;intro b y z _ g e;rw[x]at g;rw[u]at e;replace g:=b7 g;replace e:=b7 e;cases g;cases e;have t:(Op.equal o (.pointer n) (.pointer n)).run P b.a=.ok l b.a:=Fg;have m:∀d,(Op.equal o (.pointer n) (.pointer n)).events P b.a d=d:=λd=>by show(aL (9999+1) o _ _).events P b.a d=d;unfold aL;simp[underlying,C]
 exact⟨n,n,a,a,a,by cases op<;>simp[eqGuard],λd=>by cases op<;>simp[eqGuard],t,m⟩
def aaU{m:ae}(t:r.op=.binOp op o m (.const (.pointer n)) ty){q}(h:P.underlying o=f (.pointer q)){s}(y:η m=aI d off)(w:η (.const (.pointer n))=ax .bo)(x:h9 op v=f s):a1 P r η k (ax (.bool s)) k:=by
 refine vQ t h (i:=v) ?_ x;intro e z A _ j g;rw[y]at j;rw[w]at g;replace g:=b7 g;cases g;obtain⟨_,L,i,_,_,rfl⟩:=(j:cA k e z (.ptr d off));have u:(Op.equal o (.pointer (f ⟨i,off,n⟩)) (.pointer n)).run P e.a=.ok v e.a:=by show(aL (9999+1) o _ _).run P e.a=_;unfold aL;simp[underlying,h]
 have p:∀b,(Op.equal o (.pointer (f ⟨i,off,n⟩)) (.pointer n)).events P e.a b=b:=λb=>by show(aL (9999+1) o _ _).events P e.a b=b;unfold aL;simp[underlying,h]
 exact⟨_,n,a,a,a,by cases op<;>simp[eqGuard],λb=>by cases op<;>simp[eqGuard],u,p⟩
def aaV{z A:ae}(E:r.op=.binOp op o z A ty){h}(m:P.underlying o=f (.pointer h))(x:j≠0)(w:∀g,(sizeOf h).run P g=.ok j g)(D:∀g b,(sizeOf h).events P g b=b){s}(N:η z=aI d off)(M:η A=aI d off)(B:h9 op l=f s):a1 P r η k (ax (.bool s)) k:=by
 refine vQ E m (i:=l) ?_ B;intro e J K _ u t;rw[N]at u;rw[M]at t;obtain⟨_,L,i,R,F,rfl⟩:=(u:cA k e J (.ptr d off));obtain⟨_,y,O,q,p,rfl⟩:=(t:cA k e K (.ptr d off));rw[R]at q;cases q;rw[F]at p;cases p;have I:(Op.equal o (.pointer (f ⟨i,off,n⟩)) (.pointer (f ⟨i,off,n⟩))).run P e.a=.ok l e.a:=by show(aL (9999+1) o _ _).run P e.a=_;unfold aL;simp[underlying,m,w,x,sameAddr]
 have C:∀b,(Op.equal o (.pointer (f ⟨i,off,n⟩)) (.pointer (f ⟨i,off,n⟩))).events P e.a b=b:=λb=>by show(aL (9999+1) o _ _).events P e.a b=b;unfold aL;simp[underlying,m,w,D,x,sameAddr]
 exact⟨_,_,a,a,by simp,by cases op<;>simp[eqGuard],λb=>by cases op<;>simp[eqGuard],I,C⟩
def tq{j:ae}(t:r.op=.binOp op o j (.const (.pointer n)) ty){m}(C:P.underlying o=f (.pointer m)){s}{ah}(y:η j=ax (.R ah))(w:η (.const (.pointer n))=ax .bo)(x:h9 op v=f s):a1 P r η k (ax (.bool s)) k:=by
 refine vQ t C (i:=v) ?_ x;intro b z A _ h g;rw[y]at h;rw[w]at g;replace h:=b7 h;replace g:=b7 g;cases g;cases h with|R i e=>
 have u:(Op.equal o (.pointer (f ⟨i,e,n⟩)) (.pointer n)).run P b.a=.ok v b.a:=Fg;have q:∀d,(Op.equal o (.pointer (f ⟨i,e,n⟩)) (.pointer n)).events P b.a d=d:=λd=>by show(aL (9999+1) o _ _).events P b.a d=d;unfold aL;simp[underlying,C]
 exact⟨_,n,a,a,a,by cases op<;>simp[eqGuard],λd=>by cases op<;>simp[eqGuard],u,q⟩
section
variable {q:af T}
abbrev sz(e:Bool)(b:Y)(a:Option (Nat×Nat))(d:bA)(g:Nat):aq:=.K (eI 308 5 e b a d g)
def IP(v1)(d:dQ v1=l)(bO)(ag)(b):X q 289 [aI 0 0] [sz v v1 bO ag b] (.S []) [sz l v1 bO ag b]:=by refine X.J func289 rfl λh=>?_;refine aW a B ?_;refine g.aK (a1.ih bb a a a a a) a a ?_;refine g.aK (rP a underlying306 a a a) a a ?_;refine aW a B ?_;refine g.aK (a1.il a a underlying306 underlying218 (lW type308) (by simp[Tryz.t308]) a) a a ?_;refine g.aK (a1.jA func307 bU bU bU bU rfl rfl rfl) rfl rfl ?_;refine g.aK (a1.ig a a underlying218 underlying306 (lW type308) (by simp[Tryz.t308]) bU a) a a ?_;refine aW a B ?_;refine g.aK (a1.ij bb a a a a a a d) a a ?_;refine aW a B ?_;exact bY.di [0] a B a a a (λi e=>by grind)
def IQ(v1)(bO)(ag)(b):X q 289 [aI 0 0] [sz l v1 bO ag b] (.S []) [sz l v1 bO ag b]:=by refine X.J func289 rfl λi=>?_;refine aW a B ?_;refine g.aK (a1.gH bb a a a a a) a a ?_;refine g.aK (aaU a underlying306 a a a) a a ?_;refine aW a B ?_;refine g.aK (a1.gH bb a a a a a) a a ?_;refine aW a B ?_;refine g.aK (aaV a underlying306 (j:=2) ca (λe=>by simp) (λe d=>by simp) a a a) a a ?_;refine aW a B ?_;exact bY.di [0] a B a a a (λk h=>by grind)
abbrev d6(d:Bool)(a:Option (Nat×Nat))(b:bA)(e:Nat):aq:=sz d (jH a (c b)) a b e
def h6:∀a,a<1->([0]:m Nat)[a]?=f a:=λa b=>by grind
def Cg(b)(bO)(ag)(i)(e:c ag<=9223372036854775807)(d:bO=n->ag=[]):X q 306 [aI 0 0] [d6 b bO ag i] (Q (c ag)) [d6 b bO ag i]:=by
 refine X.J func306 rfl λh=>?_;refine aW a B (g.aK (a1.eQ bb a a a a a) a a ?_);cases bO with
 |none=>
  have:=d a;subst this;refine g.aK (a1.fE a a underlying22 a D) a a ?_;exact PQ
 |some j=>
  refine g.aK (a1.fE a a underlying22 a e) a a ?_;exact PQ
def Cy(C cap)(ag b)(e)(k:c b<=9223372036854775807)(h:c ag+c b<=cap):X q 246 [aI 0 0,b1 b] [d6 l (f (C,cap)) ag e] (.S [.Q (.c (.int .i64 (c b))),.Q (.c .bD)]) [d6 l (f (C,cap)) (ag++b) e]:=by refine X.J func246 rfl λj=>?_;refine aW a B ?_;refine g.aB (IQ (jH (f (C,cap)) (c ag)) (f (C,cap)) ag e) [0] a ?_;refine aW a B ?_;refine g.aK (a1.eQ bb a a a a a) a a ?_;refine aW a B ?_;refine g.aK (a1.ic (d:=0) (C:=C) (cap:=cap) (ag:=ag) a underlying22 underlying9 (lW type5) (by simp[Tryz.t5]) a a a a h) a a ?_;refine aW a B ?_;refine g.aK (a1.ga bb a a a a a a a) a a ?_;have i:d6 l (f (C,cap)) (ag++b) e=.K (eI 308 5 l (jH (f (C,cap)) (c ag+c b)) (f (C,cap)) (ag++b) e):=M;rw[i];refine aW a B (g.aH [0] a ?_ h6);simp
theorem Ys:X q 246 [aI 0 0,b1 []] [d6 l n [] 0] (.S [.Q (.c (.int .i64 0)),.Q (.c .bD)]) [d6 l n [] 0]:=by refine X.J func246 rfl λb=>?_;refine aW a B ?_;refine g.aB (IQ (jH n 0) n [] 0) [0] a ?_;refine aW a B ?_;refine g.aK (a1.eQ bb a a a a a) a a ?_;refine aW a B ?_;refine g.aK (a1.ie a underlying22 underlying9 (lW type5) a a) a a ?_;refine aW a B ?_;refine g.aK (a1.ga bb a a a a a a a) a a ?_;refine aW a B (g.aH [0] a ?_ h6);simp
abbrev iv:y:=aI 0 0
abbrev n':y:=aI 0 1
def Cw(C cap)(ag)(s)(x:c ag<=9223372036854775807)(e:cap≠0):X q 247 [aI 0 0] [d6 l (f (C,cap)) ag s] (b1 ag) [d6 l (f (C,cap)) ag (c ag)]:=by
 refine X.J func247 rfl λh=>?_;refine a5 [901] a B ?_;refine g.dd b6 10 (λb=>ay b 9) (λb=>[iv,iv,n',cL (.slice (f ⟨C,0,n⟩) (c ag) cap),cL (.pointer (f ⟨C,0,n⟩)),iv,iv,n',cL (.slice (f ⟨C,0,n⟩) (c ag) cap),Q (c ag)].getD b .any) (λ(_:Unit) _=>b1 ag)
  (λ_=>[d6 l (f (C,cap)) ag (c ag)]) a a a a a a ?_ ?_ ?_ ?_
 .refine⟨.w,.w,.w,iA,?_,.w,.w,.w,?_,?_,B,B,B⟩
  .exact .aK (a1.h5 a a e) a
  .exact iA
  exact PC
 .intro _;refine⟨.w,.w,.w,iA,?_,.w,.w,.w,?_,?_,B,.w,B⟩
  .exact .aK (a1.h5 a a e) a
  .exact iA
  exact PC
 .exact .de (.aK (Sy (d:=0) a underlying354 bU a a a) a)
 exact OE
def Gi{b d:ae}(h:r.op=.binOp .add o b d ty){i}(g:η b=Q 0)(e:η d=Q i)(j:a7 .i64 i):a1 T r η k (Q i) k:=by have:=a1.binOp (P:=T) (k:=k) h g e (s:=.int .i64 (0+i)) (cn:=[a7 .i64 (0+i)]) a bv;grind
def bk.gJ{e}{fn}{args}{a:ι->m aq}(p:Tryz.prog.funcs[e]?=f fn)(o:(fn.name== "runtime.NumGoroutine")=v)(d:fn.body=f s)(j:ay args.length fn.ntmps=l)(t:g q fn.ntmps (λr i b=>∃h,bY fn k.length (res h) (a h) r i b) [.code s] .normal (h2 0 args) k):bk q e args k res a:=
 bk.intro p o d (fs j) (g.aO t)
def X1:X q 247 [aI 0 0] [d6 l n [] 0] (b1 []) [d6 l n [] 0]:=by
 refine X.J func247 rfl λe=>?_;refine a5 [901] a B ?_;refine g.dd b6 10 (λb=>ay b 9) (λb=>[iv,iv,n',cL (.slice n 0 0),cL (.pointer n),iv,iv,n',cL (.slice n 0 0),Q (0:Nat)].getD b .any) (λ(_:Unit) _=>b1 [])
  (λ_=>[d6 l n [] 0]) a a a a a a ?_ ?_ ?_ ?_
 .refine⟨.w,.w,.w,iA,?_,.w,.w,.w,?_,?_,B,B,B⟩
  .exact .aK (a1.h2 a a) a
  .exact iA
  exact qV
 .intro _;refine⟨.w,.w,.w,iA,?_,.w,.w,.w,?_,?_,B,.w,B⟩
  .exact .aK (a1.h2 a a) a
  .exact iA
  exact qV
 .exact .de (.aK (a1.jQ a a a) a)
 exact OE
def U2(j)(m:0<j)(o:j<=140737488355328):bk (ι:={e:Nat×Nat // j<=e.2}) q 290 [aI 0 0,Q j] [d6 l n [] 0] (λ_=>.S []) (λu=>[d6 l (f u.1) [] 0]):=by
 refine bk.gJ func290 rfl rfl rfl ?_;refine a5 [900] a B ?_;have i:a7 .i64 (j:Int):=bE;have r:y:=cL (.slice n 0 0);refine g.dd (ι:={e:Nat×Nat // j<=e.2}) b6 8 (λb=>ay b 7||(ay 9 b&&ay b 13)) (λb=>[iv,iv,n',cL (.slice n 0 0),Q (0:Nat),Q 0,Q j,Q j,.any,iv,iv,n',cL (.slice n 0 0),Q (0:Nat)].getD b .any)
  (λu b=>[cL (jH (f u.1) j),.any,.any,.any,.any,.any,cL (.slice (f ⟨u.1.1,0,n⟩) 0 u.1.2),cL (.slice (f ⟨u.1.1,0,n⟩) 0 u.1.2)].getD (b-8) .any)
  (λu=>[sz l (.slice n 0 0) (f u.1) [] 0]) a a a a a a ?_ ?_ ?_ ?_
 .refine⟨.w,.w,.w,iA,O_,P9,.w,?_,B,.w,.w,.w,?_,?_,B,B,B⟩
  .exact .aK (Gi a a a i) a
  .exact iA
  exact qV
 .intro u;have k:u.1.2≠0:=M;refine⟨.w,.w,.w,iA,O_,P9,.w,?_,B,.w,.w,.w,?_,?_,?_,.w,B⟩
  .exact .aK (Gi a a a i) a
  .exact iA
  .exact qV
  exact .aK (a1.i_ (h:=0) a underlying22 (lW type5) a a (gZ _) u.2 k (g0 _ _ _)) a
 .exact .a0 a (Sx (d:=0) (Z:=#[3]) underlying22 func308 bU bU bU bU rfl rfl rfl m o rfl)
 intro u;refine aW a B (g.aK (a1.eQ (d:=0) bb a a a a a) a a ?_);refine g.aK (a1.iE a underlying22 (lW type5) a a) a a ?_;refine aW a B (g.aK (a1.ga (d:=0) bb a a a a a a a) a a ?_);exact Om
def IF(j)(e:0<j)(h:j<=140737488355328):bk (ι:={i:Nat×Nat // j<=i.2}) q 245 [aI 0 0,Q j] [d6 v n [] 0] (λ_=>.S []) (λu=>[d6 l (f u.1) [] 0]):=by
 refine bk.gJ func245 rfl rfl rfl ?_;refine aW a B (g.aB (IP (jH n 0) a n [] 0) [0] a (a5 [-7,903] a D ?_));refine g.dd b6 4 (λb=>ay b 3||(ay 5 b&&ay b 9)||ad b 11) (λb=>[iv,iv,n',cL (.slice n 0 0),.any,iv,iv,n',cL (.slice n 0 0),Q (0:Nat),.any,Q j].getD b .any)
  (λ(_:Unit) b=>[Q (0:Nat),.any,.any,.any,.any,.any,Q (0-0),.any,bf l].getD (b-4) .any)
  (λ_=>[d6 l n [] 0]) a a a a a a ?_ ?_ ?_ ?_
 .refine⟨.w,.w,.w,iA,B,.w,.w,.w,iA,?_,B,.w,B,B⟩;exact qV
 .intro _;refine⟨.w,.w,.w,iA,B,.w,.w,.w,iA,qV,Oi,.w,?_,B⟩;exact .eval (bh:=[21]) bb a_.nil (cn:=[decide ((0:Int)-0<(j:Int))=l]) a bQ
 .exact Pr
 intro _;refine aW a B (g.a2 (U2 j e h) [0] a bn λu=>?_);exact Om
def TR:X q 245 [aI 0 0,Q (0:Nat)] [d6 v n [] 0] (.S []) [d6 l n [] 0]:=by
 refine X.J func245 rfl λe=>?_;refine aW a B (g.aB (IP (jH n 0) a n [] 0) [0] a (a5 [-7,903] a D ?_));refine g.dd b6 4 (λb=>ay b 3||(ay 5 b&&ay b 9)||ad b 11) (λb=>[iv,iv,n',cL (.slice n 0 0),.any,iv,iv,n',cL (.slice n 0 0),Q (0:Nat),.any,Q (0:Nat)].getD b .any)
  (λ(_:Unit) b=>[Q (0:Nat),.any,.any,.any,.any,.any,Q (0-0),.any,bf v].getD (b-4) .any)
  (λ_=>[d6 l n [] 0]) a a a a a a ?_ ?_ ?_ ?_
 .refine⟨.w,.w,.w,iA,B,.w,.w,.w,iA,?_,B,.w,B,B⟩;exact qV
 .intro _;refine⟨.w,.w,.w,iA,B,.w,.w,.w,iA,qV,Oi,.w,?_,B⟩;exact .eval (bh:=[-21]) bb a_.nil (cn:=[decide ((0:Int)-0<((0:Nat):Int))=v]) a D
 .exact Pr
 intro _;exact aW a B (bY.di [0] a B a a a h6)
def Gr(b:r.op=.alloc 308):a1 T r η k (aI (c k) 0) (k++[d6 v n [] 0]):=
 a1.ib b (λd=>by simp) (λd a=>by simp)
def Z8{h j m:ae}{b i s}(A)(p:r.op=.call {callee:=.builtin .min,args:=#[h,j,m],argTypes:=dr})(z:η h=Q b)(x:η j=Q i)(B:η m=Q s)(I:min (min b i) s=A)(y:a7 .i64 A):a1 T r η k (Q A) k:=by refine .aR λF a J o=>?_;have e:=o h;have d:=o j;have g:=o m;rw[z]at e;rw[x]at d;rw[B]at g;replace e:=b7 e;replace d:=b7 d;replace g:=b7 g;generalize q:a h=C at e;generalize u:a j=D at d;generalize t:a m=E at g;cases e;cases d;cases g;have w:(if s<(if i<b then i else b)then s else if i<b then i else b)=A:=M;exact⟨.int .i64 A,by simp[ab,p,resolve,invoke,builtin,q,u,t,Builtin.min_,Builtin.min2,w],.int y,by simp[ab,p,resolve,invoke,builtin,q,u,t,Builtin.min_,Builtin.min2]⟩
def Jf(e:Nat)(z:2<=e)(A:e<=3):X q 279 [b1 [46],Q e] [] (b1 (aU e 46)) []:=by
 refine X.J func279 rfl λy=>?_;have x:a_ q [(305,Bo)]:=.cons acU .nil;refine be x [-13,-15,-18,-30,-33,-40,-44,-45,-46,-47,-48,-96,935] a ?_ ?_
 .have o:(e:Int)=2∨(e:Int)=3:=w;have i:(kD [46] 0).toNat=46:=rfl;simp[a7,i,o];omega
 refine g.region ?_;refine g.aK (Gr a) a a ?_;refine cU x a B (g.a2 (IF e w w) [0] a bn λs=>?_);obtain⟨⟨h,b⟩,j⟩:=s;have j:e<=b:=j;refine cU x a B (g.aB (Cy h b [] [46] 0 D bQ) [0] a (cU x a B (g.b6 (λd=>1<=d/\d<=e) (λd:Nat=>[(0,b1 [46]),(7,Q e),(8,Q e),(9,aI 0 0)]) (λd=>[d6 l (f (h,b)) (aU d 46) (d-1)]) (λd=>e-d) 1 a D a D ⟨by omega,by omega⟩ ?_)));rintro d ⟨u,t⟩;refine cU x a B (g.aB (Cg l (f (h,b)) (aU d 46) (d-1) bQ D) [0] a ?_);by_cases p:d<e
 .refine be x [113] a bQ (g.aB (Cg l (f (h,b)) (aU d 46) (d-1) bQ D) [0] a (cU x a lI (g.aB (Cg l (f (h,b)) (aU d 46) (d-1) bQ D) [0] a (cU x a B (g.aK (Z8 1 a a a a bQ lx) a a ?_)))));refine cU x a B (g.aB (Cw h b (aU d 46) (d-1) bQ w) [0] a ?_);have m:mq (aU d (46:UInt8)) n (f 1)=[46]:=by
   obtain⟨k,rfl⟩:∃k,d=k+1:=⟨d-1,by omega⟩
   exact bE
  refine cU x a bQ ?_;rw[m];refine g.aB (Cy h b (aU d 46) [46] (c (aU d 46)) D bQ) [0] a ?_;have r:aU d (46:UInt8)++[46]=aU (d+1) 46:=by rw[List.replicate_succ']
  rw[r];refine cU x a B (g.b1 (d+1) a D a ?_ ⟨by omega,by omega⟩ w);simp
 refine be x [-113] a bQ (g.bs a a ?_);have i:d=e:=w;subst i;exact cU x a B (g.aB (Cw h b (aU d 46) (d-1) bQ w) [0] a wv)
def adH:bK q 279 sC:=adI (Jf 2 w w) (Jf 3 w w)
def zx:bK q 219 lH:=adx adH
def wM(b:Option (Nat×Nat))(d:Nat):Prop:=match b with|none=>d=0|some (_,a)=>d<=a/\0<a
def _root_.Go.AM.bk.hI{e:Type}{r:af P}{t}{args}{d:ι->m aq}{s:e->y}{a:e->m aq}(u:bk r t args k res d)(i:ι->e)(F:∀b,s (i b)=res b)(E:∀b,a (i b)=d b):bk r t args k s a:=
 ⟨u.1,λC z j o w g p=>u.2 C z j o w g λb h D q k1 x A B=>p (i b) h D q k1 M M M⟩
def TS(j)(e:j<=140737488355328):bk (ι:={b:Option (Nat×Nat) // wM b j}) q 245 [aI 0 0,Q j] [d6 v n [] 0] (λ_=>.S []) (λh=>[d6 l h.1 [] 0]):=by
 by_cases g:j=0
 .subst g;exact TR.tocH.hI (λ_=>⟨n,a⟩) bn bn
 exact(IF j w e).hI (λd=>⟨f d.1,d.2,by grind⟩) bn bn
def Cz(bO)(ag b)(e:c b<=9223372036854775807)(a:wM bO (c ag+c b)):X q 246 [aI 0 0,b1 b] [d6 l bO ag 0] (.S [.Q (.c (.int .i64 (c b))),.Q (.c .bD)]) [d6 l bO (ag++b) 0]:=by
 cases bO with
 |none=>
  have a:c ag+c b=0:=a;grind[Ys]
 |some d=>exact Cy d.1 d.2 ag b 0 e a.1
def abZ(a:Option (Nat×Nat))(b:bA):Nat:=match a with|none=>0|some _=>c b
def X2(bO)(ag)(d:c ag<=9223372036854775807)(a:wM bO (c ag)):X q 247 [aI 0 0] [d6 l bO ag 0] (b1 ag) [d6 l bO ag (abZ bO ag)]:=by
 cases bO with
 |none=>
  have a:c ag=0:=a;have e:ag=[]:=jC a;subst e;exact X1
 |some b=>exact Cw b.1 b.2 ag 0 d (by have:=a.2;omega)
def lp(b:m bA)(a:Nat):bA:=(b.take a).flatten
def v'{d}(a:e<c d):lp d (e+1)=lp d e++d.getD e []:=by unfold lp;grind[List.take_add_one]
def Na{d}:lp d (c d)=d.flatten:=by simp[lp]
def v_{d}(e):c (lp d e)<=c d.flatten:=by have a:d.flatten=(d.take e).flatten++(d.drop e).flatten:=FQ;rw[a,dk];simp only[lp];omega
def VP(d)(y:c d.flatten<=140737488355328):X q 190 [bR.B d,b1 []] [] (b1 d.flatten) []:=by
 refine X.J func190 rfl λx=>?_;have E:=x.B 0 a;by_cases A:d=[]
 .subst A;refine a5 [14] a ?_ (g.ao a);simp
 by_cases z:c d=1
 .obtain⟨N,rfl⟩:=List.length_eq_one_iff.1 z;refine a5 [-14,16] a D (g.ao a ?_);simp
 have J:2<=c d:=by have:c d≠0:=M;omega
 refine a5 [-14,-16,-22] a bE (g.b6 (λb=>b<=c d) (λb:Nat=>[(0,bR.B d),(1,b1 []),(5,Q (c (lp d b))),(39,bR.B d),(40,Q (c d)),(41,Q b)]) (λ_=>[]) (λb=>c d-b) 0 a ?_ a B w ?_)
 .simp[lp]
 intro b m;have K:=v_ (d:=d) b;by_cases j:b<c d
 .have t:=v_ (d:=d) (b+1);rw[v' j,dk]at t;refine a5 [42,-49] a ?_ (g.b1 (b+1) a ?_ a B w w)
  .have i:(d.getD (b:Int).toNat bR.F)=d.getD b []:=rfl;simp only[U,a7,i];grind
  have i:(d.getD (b:Int).toNat bR.F)=d.getD b []:=rfl;rw[v' j];simp_all
 have i:b=c d:=w;subst i;refine a5 [-42,918] a D (g.bs a a ?_);refine a5 [918] a B (g.region ?_);refine g.aK (Gr a) a a ?_;refine cz a B ?_;rw[Na];refine g.a2 (TS (c d.flatten) y) [0] a bn λu=>?_;obtain⟨h,k⟩:=u;refine cz a bv ?_;have e:∀o,o<=c d.flatten->wM h o:=λo C=>by
  cases h with
  |none=>
   have:c d.flatten=0:=k;grind
  |some F=>exact⟨fQ C k.1,k.2⟩
 have p:lp d 1=d.getD 0 []:=by rw[v' w];simp[lp]
 have s:=v_ (d:=d) 1;rw[p]at s;refine g.aB (Cz h [] (d.getD 0 []) w (e _ M)) [0] a (cz a bv (g.b6 (λb=>b+1<=c d) (λb:Nat=>[(1,b1 []),(8,aI 0 0),(63,ax (.B v 1 (c d-1) (fA 1 (bR.fn d)))),(64,Q (c d-1:Nat)),(65,Q b)]) (λb=>[d6 l h (lp d (b+1)) 0]) (λb=>c d-b) 0 a wD a bE w ?_));intro b m;have I:=v_ (d:=d) (b+1);by_cases j:b+1<c d
 .have r:=v_ (d:=d) (b+2);rw[v' j,dk]at r;refine a5 [66] a bv (g.aB (Cz h (lp d (b+1)) [] D (e _ M)) [0] a ?_);rw[h1];refine aW a B (g.aB (Cz h (lp d (b+1)) (d.getD (1+b) []) M (e _ M)) [0] a (aW a bE (g.b1 (b+1) a D a ?_ w w)));refine U.X.2 ⟨?_,B⟩;rw[v' j,Nat.add_comm 1 b];simp
 have i:b+1=c d:=w;refine a5 [-66] a bv (g.bs a a ?_);rw[i,Na];exact aW a B (g.aB (X2 h d.flatten w (e _ w)) [0] a ww)
def s6{b}(d:dV b=l)(e)(g:e<c b):97<=dq b e/\dq b e<=122:=by have a:=aX.1 d (b.getD e 0) M;simp only[jp,ck,bw]at a;unfold dq;omega
def T'(b)(e)(d:dV b=l)(p:3<=e)(h:e<=c b)(m:c b<=4000000):X q 309 [b1 b,Q e] [] (bf (pE b e)) []:=by
 refine X.J func309 rfl λj=>?_;have k:=s6 d (e-1) w;have o:=s6 d (e-2) w;have r:=s6 d (e-3) w;have i:((kD b ((e:Int)-1)).toNat:Int)=dq b (e-1):=tW;have O:((kD b ((e:Int)-2)).toNat:Int)=dq b (e-2):=tW;have s:((kD b ((e:Int)-3)).toNat:Int)=dq b (e-3):=tW;refine aW a ?_ (g.ao a ?_)
 .simp only[U,a7,i,O,s];omega
 exact On
def ac1:bK q 309 (ei eE c1 (λb a=>bf (pE b a.toNat)) λb a=>[dV b=l,3<=a,a<=c b,c b<=4000000]):=.bk λb a h=>by
 obtain⟨e,i,j,g⟩:=h;obtain⟨d,rfl⟩:∃d:Nat,a=d:=⟨a.toNat,by omega⟩
 exact T' b d e w w g
def yH{g h:ae}{e i}(A)(o:r.op=.call {callee:=.builtin .min,args:=#[g,h],argTypes:=dr})(u:η g=Q e)(s:η h=Q i)(y:min e i=A)(t:a7 .i64 A):a1 T r η k (Q A) k:=by refine .aR λB d z j=>?_;have b:=j g;have a:=j h;rw[u]at b;rw[s]at a;replace b:=b7 b;replace a:=b7 a;generalize m:d g=w at b;generalize p:d h=x at a;cases b;cases a;have q:(if i<e then i else e)=A:=M;exact⟨.int .i64 A,by simp[ab,o,resolve,invoke,builtin,m,p,Builtin.min_,Builtin.min2,q],.int t,by simp[ab,o,resolve,invoke,builtin,m,p,Builtin.min_,Builtin.min2]⟩
theorem Tg{o}{a}(e:c o<=a+3+u)(d:u<=5):lM o a (5-u)=min (a+8) (c o):=by
 rcases dT u 5 with b|b
 .obtain⟨h,bX⟩:∃h,5-u=h+1:=⟨4-u,by omega⟩
  rw[bX];simp[lM];grind
 rw[show 5-u=0 by omega];rfl
def UB(o)(aj)(A:dV o=l)(r:aj<=c o)(y:c o<=4000000):X q 292 [b1 o,Q aj] [] (Q (ep o aj)) []:=by
 refine X.J func292 rfl λt=>?_;have x:a_ q [(309,ei eE c1 (λi j=>bf (pE i j.toNat)) λi j=>[dV i=l,3<=j,j<=c i,c i<=4000000])]:=.cons ac1 .nil;refine b8 x a bE (g.b6 (λb=>b<=5/\lM o aj (5-b)=ep o aj) (λb:Nat=>[(0,b1 o),(1,Q aj),(5,Q (aj+3+b))]) (λ_=>[]) (λb=>5-b) 0 a D a B ⟨by omega,a⟩ ?_);rintro b ⟨u,e⟩;by_cases p:b<5/\aj+3+b<c o
 .obtain⟨h,bX⟩:∃h,5-b=h+1:=⟨4-b,by omega⟩
  have m:aj+(7-h)=aj+3+b:=w;rw[bX]at e;simp[lM,m]at e;rw[bj w]at e;have aw:((aj:Int)+3+b).toNat=aj+3+b:=w;cases s:pE o (aj+3+b)with
  |true=>
   rw[s,bo a]at e;refine a8 x [11,16,22] a Qi (g.bQ (bY.zero a ?_));exact bv
  |false=>
   rw[s,bj D]at e;refine a8 x [11,16,-22] a Qi (g.b1 (b+1) a ?_ a B ⟨by omega,by grind⟩ w);exact bv
 have aw:ep o aj=min (aj+8) (c o):=by
  rw[<-e];rcases dT b 5 with k|k
  .grind [Tg]
  rw[show 5-b=0 by omega];rfl
 have d:a7 .i64 ((min (aj+8) (c o):Nat):Int):=bE;rcases dT b 5 with k|k
 .refine a8 x [11,-16] a ?_ (g.bs a a ?_)
  .simp only[U,a7,bw,dp];omega
  exact Qx
 refine a8 x [-11] a ?_ (g.bs a a ?_)
 .simp only[U,a7,bw,dp];omega
 exact Qx
def ac6:bK q 292 (ei eE c1 (λb a=>Q (ep b a.toNat)) λb a=>[dV b=l,0<=a,a<=c b,c b<=4000000]):=.bk λb a h=>by
 obtain⟨e,i,j,g⟩:=h;obtain⟨d,rfl⟩:∃d:Nat,a=d:=⟨a.toNat,by omega⟩
 exact UB b d e w g
abbrev G6(a:bA):N:=.fn (.func 291) [] [.R [.T a]]
theorem UD(o):X q 248 [b1 o] [] (ax (G6 o)) []:=by refine X.J func248 rfl λb=>?_;refine gp [] 5 a B ?_;refine g.freeze 1 0 a a a ?_;exact aW a B (g.ao a)
def UE{ac:Type}(text)(K:dV text=l)(J:c text<=4000000){e}{d}{u}(p s r:ac->aq)(t:Nat->ac->Prop)(j:ac)(I:t 0 j)(aJ:∀b,p b≠.bl/\s b≠.bl/\r b≠.bl)(i:∀h b,h<c text->t h b->iE (ι:={m:ac // t (ep text h) m}) q 3 [Q h,Q (ep text h)] [p b,s b,r b,.loop e d u] l (λm=>[p m.1,s m.1,r m.1,.loop e d u])):
  bk (ι:={b:ac // t (c text) b}) q 291 [.n (.Q (.aM 3)),ax (.R [.T text])] [p j,s j,r j,.loop e d u] (λ_=>.S []) (λo=>[p o.1,s o.1,r o.1,.loop e d u]):=by
 refine bk.bP func291 rfl rfl rfl (g.aO ?_);have y:a_ q [(292,ei eE c1 (λx o=>Q (ep x o.toNat)) λx o=>[dV x=l,0<=o,o<=c x,c x<=4000000])]:=.cons ac6 .nil;refine b8 y a B ?_;show b3 q _ (.loop _) _ _ _;refine b3.loop (br:=ac×Nat) (λk=>k.2<=c text/\t k.2 k.1) (λk=>[(0,.n (.Q (.aM 3))),(1,ax (.R [.T text])),(3,Q k.2)]) (λk=>[p k.1,s k.1,r k.1,.loop e d u]) (λk=>c text-k.2) (j,0) ⟨gZ _,I⟩ (eH a D) a ?_;rintro⟨b,h⟩ ⟨F,z⟩;simp only at F z;refine g.aO ?_;by_cases C:h<c text
 .have A:=rx text h C;refine a8 y [8] a ds (g.yield (i h b C z) a a a a a a λm=>?_);refine a8 y [-16] a D ⟨(m.1,ep text h),⟨A.2.1,m.2⟩,?_,eH a D,a⟩;grind
 have E:h=c text:=w;subst E;refine a8 y [-8] a D (g.fD a a ?_);exact⟨⟨b,z⟩,.inr a,a,qE (aJ b).1 (qE (aJ b).2.1 (qE (aJ b).2.2 a)),[],.S [],[],a,a,a,B⟩
def abn{j:ae}(u:r.op=.binOp op o j (.const (.pointer n)) ty){q}(C:P.underlying o=f (.pointer q)){s}{lt cy}{m i}(F:η j=.n (.Q (.aM d)))(y:c_ d k=f (.K (eA W (.ay lt m i cy))))(z:η (.const (.pointer n))=ax .bo)(D:h9 op v=f s):a1 P r η k (ax (.bool s)) k:=by
 refine vQ u C (i:=v) ?_ D;intro b E I A h g;rw[F]at h;rw[z]at g;replace g:=b7 g;cases g;obtain⟨_,L,B,rfl,_⟩:=(h:cA k b E (.aM d));obtain⟨_,⟨i,_,_,_,_,w,_⟩,_⟩:=A.box d _ L (et y) B;rw[w];have x:(Op.equal o (.pointer (f ⟨i,0,n⟩)) (.pointer n)).run P b.a=.ok v b.a:=Fg
 have t:∀e,(Op.equal o (.pointer (f ⟨i,0,n⟩)) (.pointer n)).events P b.a e=e:=λe=>by show(aL (9999+1) o _ _).events P b.a e=e;unfold aL;simp[underlying,C]
 exact⟨_,n,a,a,a,by cases op<;>simp[eqGuard],λe=>by cases op<;>simp[eqGuard],x,t⟩
abbrev o6(a b:Int):y:=.n (.agg [.c (.int .i64 a),.c (.int .i64 b)])
abbrev mF:al:=333
def y7(h i)(d:dF):∃a e g b,d.put h i=.ay a e g b:=by
 cases d with
 |nil=>exact⟨_,_,_,_,rfl⟩
 |ay a e g b=>
  simp only[dF.put];split
  .grind
  split<;>exact⟨_,_,_,_,rfl⟩
def CO:∀(b:m Nat)a,a<0->b[a]?=f a:=λ_ a d=>absurd d w
def sQ:∀a,a<1->([0]:m Nat)[a]?=f a:=λa b=>by grind
def x8(b i)(z:a7 .i64 b)(I:a7 .i64 i):∀r:dF,X q 272 [.n (.Q (iu r 0)),o6 b i] (hq mF r) (.n (.Q (.aM 0))) [.K (eA mF (r.put b i))]
 |.nil=>by refine X.J func272 rfl λJ=>?_;refine aW a B (g.aK (rP a underlying269 a a a) a a ?_);refine aW a B (g.cU 4 1 0 0 (lt:=.nil) (cy:=.nil) a a (λt=>absurd a t) (λt=>absurd a t) (λt=>absurd a t) ?_);exact g.aH [1] a D (CO _)
 |.ay lt j w cy=>by
  have o:=x8 b i z I lt;have p:=x8 b i z I cy;obtain⟨O,e,h,C,y⟩:=y7 b i lt;obtain⟨aj,d,u,s,F⟩:=y7 b i cy;have x:(dF.ay lt j w cy).put b i=if b<j then .ay (lt.put b i) j w cy else if j<b then .ay lt j w (cy.put b i)else .ay lt b i cy:=rfl;rw[x];rw[y]at o⊢;rw[F]at p⊢;have k:a_ q [(272,k4 [.n (.Q (iu lt 0)),o6 b i] (hq mF lt) (.n (.Q (.aM 0))) [.K (eA mF (.ay O e h C))])]:=.cons (l7 o) .nil;have m:a_ q [(272,k4 [.n (.Q (iu cy 0)),o6 b i] (hq mF cy) (.n (.Q (.aM 0))) [.K (eA mF (.ay aj d u s))])]:=.cons (l7 p) .nil;clear o p x y F;refine X.J func272 rfl λJ=>?_;refine aW a B (g.aK (abn a underlying269 a a a a) a a ?_);refine aW a B (g.gw 0 0 a a ?_);by_cases E:b<j
  .rw[bo E];cases lt<;>cases cy<;>refine be k [15] rfl bE ?_
   .exact P7
   .refine g.cU 4 0 3 2 (lt:=.ay O e h C) (cy:=_) a a bn bn (λ_ _=>by decide) ?_;exact tT
   .exact P7
   refine g.cU 4 0 2 3 (lt:=.ay O e h C) (cy:=_) a a bn bn (λ_ _=>by decide) ?_;exact tT
  rw[bj E];by_cases A:j<b
  .rw[bo A];cases lt<;>cases cy<;>refine be m [-15,33] rfl bE ?_
   .exact Rm
   .exact Rm
   .exact PV
   exact PV
  rw[bj A];cases lt<;>cases cy<;>refine bL [-15,-33] rfl bv ?_
  .refine g.cU 4 0 9 9 (lt:=.nil) (cy:=.nil) a a (λt=>absurd a t) (λt=>absurd a t) (λt=>absurd a t) ?_;exact tT
  .refine g.cU 4 0 9 2 (lt:=.nil) (cy:=_) a a (λt=>absurd a t) bn (λt=>absurd a t) ?_;exact tT
  .refine g.cU 4 0 2 9 (lt:=_) (cy:=.nil) a a bn (λt=>absurd a t) (λ_ t=>absurd a t) ?_;exact tT
  refine g.cU 4 0 2 3 (lt:=_) (cy:=_) a a bn bn (λ_ _=>by decide) ?_;exact tT
end
section
open Go.Proofs Go.Conc Go.Conc.Lib Go.ConcR.Gen
open Go.ConcN (WgLive PayAt Has RW AtR0)
open Go.ConcN.Gen
open Go.ConcR (KK WgAt stA smA rd wr mk Payload DC0)
def aar:DH=#[{dst:=n,op:=.defer {callee:=.value (.func 187),args:=#[.tmp 0],argTypes:=#[242]},type:=0,pos:= "l12_snap.go:81",after:=#[],guard:=n}]:=bU
def p9(a:Y):aG:={baseD 186 with defers:=[dcall 187 #[a]]}
abbrev EE(a b d e g h:Y):Array Y:=#[a,b,d,e,g,h,J,J,J,J,J,J,J]
def acm(v0 v1 v2 b v4 d)(p):Goes T v (λ_ _=>True) DC0 (λi _=>i=G ((p9 v0).ab ⟨EE v0 v1 v2 b v4 d,[]⟩ [.code (.region 1 vH l)]) [mm]) 8 (born T (rp #[v0,v1,v2,b,v4,d])) p:=by
  have e:True:=B;have g:True->True->True:=λ_ _=>trivial;refine Goes.step a (λw1 h=>?_);rw[SF];simp[goes_go];refine⟨⟨a,a⟩,?_⟩;clear h;rw[aar]
  u_c av g e
  u_reg g e
  u_defer g e
  u_c aC g e
  exact Goes.stop λ_ _=>rfl
def TI(ac):QuitsD T 2 0 (G {(baseD 186).at ⟨ac,[]⟩ []with mode:=.returning} [mm]):=by
  have b:Tryz.f186.results=#[]:=bU;refine QuitsD.ctl (g':=G mm []) a (λd=>?_) ?_
  · simp[G,ao,unwind,doReturn,results,Frame.at,baseD,mm,Tryz.func186,b,seen,GStep.after,goexitEntry]
  refine QuitsD.ctl (g':={G mm []with status:=.finished}) rfl (λd=>?_) ⟨rfl,rfl⟩;simp[G,ao,unwind,mm,goexitEntry,Frame.catches];rfl
section
variable {K:hH}
def adT(F)(h:K.aI=2)(ac)(p)(b:WgLive 242 K.f p/\Has K.af (K.aI*F+1-1) (val F 0) p):
    ∃g,Goes T v (RW 242 K.f K.af (2*j) 0 (K.aI*F+1-1)) DC0 (AtR0 T 242 K.f K.af (2*j) 0 (K.aI*F+1) (val F 0)) g (G ((p9 (.pointer (f ⟨K.f,0,n⟩))).ab ⟨ac,[]⟩ [.inRegion mG.toArray []]) [mm]) p:=by
  refine⟨26,?_⟩;have e:(p9 (.pointer (f ⟨K.f,0,n⟩))).ab ⟨ac,[]⟩ [.inRegion mG.toArray []]=(baseD 186).at ⟨ac,[dcall 187 #[.pointer (f ⟨K.f,0,n⟩)]]⟩ [.inRegion mG.toArray []]:=rfl;rw[e]
  u_c aC kn_rely b
  u_c stepG_end kn_rely b
  u_in kn_rely b
  rw[stepG_unwind_enter (c:=body_done qT) a wc.f_done bU bU];simp[goes_go];refine⟨by u_nil,?_⟩;have d:=Tt (P:=T) (L:=qT) (bm:=K.f) (N:=K.af) (j:=2*j) (m4:=0) (F:=K.aI*F+1) (val:=val F 0) (s:={(baseD 186).at ⟨ac,[]⟩ []with mode:=.returning}) (ah:=[mm]) wc rfl (TI ac) _ b;exact d
def abl{d}(b:Rd bB aa (.T d)):aa=.string ⟨d.toArray⟩:=by
  cases b with
  |T a e=>rw[<-a]
def D1{i}(a:Rd bB aa (.bool i)):aa=.bool i:=by cases a;rfl
def se:an:=gS n (.store 244 (.tmp 12) (.tmp 11)) 0 #[⟨6,.data⟩,⟨5,.data⟩,⟨5,.chain⟩,⟨0,.phase⟩,⟨1,.phase⟩,⟨2,.phase⟩,⟨3,.phase⟩,⟨4,.phase⟩,⟨5,.phase⟩]
def Sw{d}(al:d<j)(R:K.aI=2){Z}{C}(O:val d 0=.string ⟨((dg h Z C).getD []).toArray⟩)(aa:val d 1=.bool (dg h Z C).isSome){ac}(E:bx [] b (ac.getD 12 J) (r7 h Z C j d K.af 6))(F:bx [] b (ac.getD 11 J) (xR (dg h Z C))):
    ua T 242 K (2*j) val d (G ((p9 (.pointer (f ⟨K.f,0,n⟩))).ab ⟨ac,[]⟩ [.inRegion mG.toArray [7]]) [mm]) b:=by
  have E:=Rd.bc E;have F:ac.getD 11 J=.agg #[val d 0,val d 1]:=by
    obtain⟨z,ag,k⟩:=F
    match z,k with
    |[],k=>exact k.elim
    |[_],k=>exact k.2.elim
    |_::_::_::_,k=>exact k.2.2.elim
    |[ao,aq],k=>
      rw[ag,abl k.1,D1 k.2.1,O,aa]
  refine⟨a,λw1 aj s m=>?_⟩;obtain⟨g,t,ax⟩:=s;have af:K.aI*d=d*2:=M;have H:∀Y∈[val d 0,val d 1],Y.oneCell'=l:=by
    intro Y P;simp[e9,sn,or_false]at P;rcases P with rfl|rfl
    · rw[O];rfl
    · rw[aa];rfl
  have X:d*2+0+[val d 0,val d 1].length<=g.size:=M;have D:=run_storeCells_at T K.af (d*2) 244 [val d 0,val d 1] 0 g w1 t X H;simp only[j6,fh,gK,cX]at D;generalize W:(g.toList.take (d*2)++[val d 0,val d 1]++g.toList.drop (d*2+2)).toArray=new at D;have aA:new.size=g.size:=M;have ar:=setRow_heap w1 K.af g new 244 (0,0) t;have au:∀r,(w1.setRow K.af new).cell? ⟨K.af,r,n⟩=new[r]?:=λr=>cell_setRow_same w1 K.af r g new 244 (0,0) t;have av:∀r,w1.cell? ⟨K.af,r,n⟩=g[r]?:=λr=>by simp[aH,t]
  have az:∀e,e<2->new[d*2+e]?=f (val d e):=by
    intro e q;rw[<-W];have L:c (g.toList.take (d*2))=d*2:=M;rw[mi];simp[j4];rw[hl w,L]
    match e,q with
    |0,_=>simp
    |1,_=>simp
  have aw:∀r,(r<d*2∨d*2+2<=r)->new[r]?=g[r]?:=by
    intro r o;rw[<-W];have L:c (g.toList.take (d*2))=d*2:=M;rw[mi];simp only[j4];rcases o with o|o
    · grind
    · rw[hl w,L,hl M]
      simp only[fh,gK,pX];rw[show d*2+2+(r-d*2-(0+1+1))=r by omega];simp
  have Q:(Value.agg #[val d 0,val d 1]).cells=#[val d 0,val d 1]:=rfl;have y:(ab (⟨ac,[]⟩:Act).eval se).run T w1=.ok .skip (w1.setRow K.af new):=by have N:(⟨ac,[]⟩:Act).eval (.tmp 12)=.pointer (f ⟨K.af,d*2,n⟩):=E;have I:(⟨ac,[]⟩:Act).eval (.tmp 11)=.agg #[val d 0,val d 1]:=F;simp[ab,se,gS,N,I,Instr.storeAt,Instr.sureAddr,storeVar,(bb 244 rF a).ba,show rF.size=2 from a,Q,D]
  have u:∀p∈(ab (⟨ac,[]⟩:Act).eval se).events T w1 #[],∃A,A<2/\p=tP K.af (d*2+A):=by
    intro U u;have N:(⟨ac,[]⟩:Act).eval (.tmp 12)=.pointer (f ⟨K.af,d*2,n⟩):=E;have I:(⟨ac,[]⟩:Act).eval (.tmp 11)=.agg #[val d 0,val d 1]:=F;have p:ab (⟨ac,[]⟩:Act).eval se=(do storeVar 244 ⟨K.af,d*2,n⟩ (.agg #[val d 0,val d 1]);pure .skip):=by simp[ab,se,gS,N,I,Instr.storeAt,Instr.sureAddr]
    rw[p]at u;have ae:U∈(storeCells ⟨K.af,d*2,n⟩ [val d 0,val d 1]).events T w1 #[]:=by simp only[storeVar,aD,(bb 244 rF a).ba,show rF.size=2 from a,Q,aF,events_sizeOf,dZ,dm,cJ,c8,Sem.events_pure]at u;simpa[D]using u
    rcases nj [val d 0,val d 1] 0 g w1 #[] t X H U ae with aC|⟨A,_,ah,rfl⟩
    · grind
    grind
  have an:WgLive 242 K.f (w1.setRow K.af new):=by
    obtain⟨B,S,V⟩:=m;refine⟨B,S,?_⟩;show(w1.setRow K.af new).heap[K.f]?=_;rw[setRow_other w1 K.af K.f new ?_]
    · exact V
    · intro p
      have k:w1.heap[K.f]?=f (Go.ConcR.wgBlock 242 B S):=V;rw[p,t]at k;simp[Go.ConcR.wgBlock]at k;exact absurd k.2 ca
  refine⟨_,w1.setRow K.af new,_,Ml (i:=p9 (.pointer (f ⟨K.f,0,n⟩))) (x:=⟨ac,[]⟩) (h:=[]) (aQ:=mG.toArray) (e:=7) (bq:=[]) (r:=se) a a (by simp[p9,baseD]) y,?_,?_,?_⟩
  · refine⟨rfl,rfl,rfl,by simp,λi aM=>setRow_other w1 K.af i new aM,⟨new,ar,by grind⟩,λr o=>?_,λe q=>?_⟩
    · grind
    · rw[R]at q
      rw[au,af];grind
  · intro p ai
    obtain⟨A,ah,rfl⟩:=u p (Go.Conc.mem_seen ai);exact⟨d*2+A,a,by omega,by omega⟩
  · exact adT d R ac _ ⟨an,by show(w1.setRow K.af new).cell? _=_;grind⟩
def aek(O:bK (af.c8 T) 188 (nc h)){k}(C:k<j)(J:K.aI=2){Z}{m}(N:val k 0=.string ⟨((dg h Z m).getD []).toArray⟩)(F:val k 1=.bool (dg h Z m).isSome)(D:bc [] b)(Y:b.t=[]){v1 v2 e v4 g}(u:Rd b.D v1 (.R [.int .i64 h]))(s:Rd b.D v2 (.R [.B v 2 (c Z) (a2.fn Z)]))(A:Rd b.D e (.R [.int .i64 m]))(t:Rd b.D v4 (.R [.val (.slice (f ⟨K.af,0,n⟩) j j)]))(w:Rd b.D g (.R [.int .i64 k])):
    dt (af.c8 T) eP (ua T 242 K (2*j) val k) (born T (rp #[.pointer (f ⟨K.f,0,n⟩),v1,v2,e,v4,g])) b:=by
  refine dt.goes (q:=af.c8 T) (dj:=λ_ _=>True) (y:=DC0) (Stop:=λr _=>r=G ((p9 (.pointer (f ⟨K.f,0,n⟩))).ab ⟨EE (.pointer (f ⟨K.f,0,n⟩)) v1 v2 e v4 g,[]⟩ [.code (.region 1 vH l)]) [mm])
    (λi=>bc [] i/\i.D=b.D) (λi o d x=>⟨d.1.rely x,x.D.trans d.2⟩) (λ_ _ _ _=>trivial) ?_ (λi d=>cV.et d.1.mem) ?_ 8 _ b ⟨D,rfl⟩ (acm _ _ _ _ _ _ _)
  · rintro i I d U ⟨rfl,rfl⟩
    exact⟨a,.inl (.aR d.1)⟩
  · rintro r i ⟨M,W⟩ rfl
    rw[aas];refine cf.toW (λ_ _ _ d=>d) ?_;refine(ad' O Z m j k K.af C (.pointer (f ⟨K.f,0,n⟩))).region bU (by simp[p9,baseD]) ⟨by simp[EE],⟨[],B⟩,λz=>?_⟩ a M λo E X p S R Q=>.stop ?_
    · rw[<-W]at u s A t w
      match z with
      |0=>exact Rd.val rfl
      |1=>exact u
      |2=>exact s
      |3=>exact A
      |4=>exact t
      |5=>exact w
      |z+6=>trivial
    · obtain⟨aa,V⟩:=E
      obtain rfl:V=[]:=S;exact Sw C J N F (p 12) (p 11)
end
end
section
open Go.Proofs Go.Conc Go.Conc.Lib
open Go.ConcN (WgLive PayAt Has RW AtR0)
open Go.ConcR (KK WgAt stA smA rd wr mk Payload DC0)
def nm:Code->Code|.seq a _=>a|b=>b
def g3:Code->Code|.seq _ a=>a|b=>b
def GQ:Code->Code|.block _ a=>a|b=>b
def ZQ:Code->Code|.loop a=>a|b=>b
def DG:Code->Array an|.region _ a _=>a|_=>#[]
noncomputable def rn:Code:=(Tryz.f147.body).getD .skip
noncomputable def hx:Code:=ZQ (GQ (g3 (nm (g3 (g3 (g3 rn))))))
noncomputable def Hz:Code:=nm hx
noncomputable def By:Code:=GQ (nm (g3 (g3 hx)))
noncomputable def HA:Code:=nm By
noncomputable def pp:Array an:=DG (nm (g3 By))
noncomputable def ov:Array an:=DG (g3 (g3 By))
noncomputable def n5:Code:=g3 (g3 (g3 hx))
noncomputable def lJ:Code:=g3 (g3 (g3 (g3 rn)))
noncomputable def ow:Array an:=DG (nm lJ)
noncomputable def n6:Code:=g3 lJ
def Hl:hx=.seq Hz (.seq (.cond (.tmp 21) .skip (.exit 0)) (.seq (.block 1 (.seq HA (.seq (.region 6 pp v) (.region 7 ov v)))) n5)):=bU
def SW:lJ=.seq (.region 9 ow v) n6:=bU
def ue(g:bJ)(a:m aq):fw:=λe b d=>e=.normal/\iB b g/\d=a
structure dS(dL:m aq)(cG:a6)(I:bJ)(k:m aq)(x:Act)(b:a6):Prop where
 bS:b0 45 k b I x
 a8:bc k b
 a5:df dL cG k b
section
variable {dL:m aq}{cG:a6}{I u:bJ}{k aS:m aq}{x:Act}{b:a6}
def dS.rely(a:dS dL cG I k x b){e}(d:cV b e):dS dL cG I k x e:=⟨a.bS.rely d a.a8,a.a8.rely d,a.a5.trans d.aU⟩
structure nP(i:Nat)(b:a6):Prop where
 own:¬b.own i
 t:∀L∈b.t,i∉L.ak
 D:∀r,b.D i r=n
 lt:i<b.a.heap.size
def nP.step{i}(d:nP i cG)(a:df dL cG k b):nP i b:=
 ⟨by rw[a.own];exact d.own,λL h g=>by
  rcases a.bR L h i g with e|⟨m,j,e⟩
  .have:=d.lt;omega
  .exact d.t m j e,λo=>by rw[a.bz i d.lt d.t];exact d.D o,eC d.lt a.size⟩
def dS.eD{bm}(d:nP bm cG):kV bm (dS dL cG I k x):=
 ⟨λ_ _ a e=>a.rely e,λ_ a=>⟨k,a.a8⟩,λ_ a=>let b:=d.step a.a5;⟨b.own,b.t,b.D⟩⟩
variable {q:af T}{br:ai->a6->Prop}{i:aG}{h:m Item}{ah:m aG}
def dS.ctl(h:dS dL cG I k x b){C a}(m:C.status=.running)(j:∀i,ao T q.b4 C i=.go a i #[])(g:∀d,dS dL cG I k x d->cf q br a d):cf q br C b:=
 .ctl h.a8 m j λd e=>g d (h.rely e)
def dS.code(g:dS dL cG I k x b)(j:i.kind≠.early){s}(z:b3 q 45 s (ue u aS) I k)(o:∀a d,dS dL cG u aS a d->cf q br (G (i.ab a h) ah) d):cf q br (G (i.ab x (.code s::h)) ah) b:=by refine z b x g.bS g.a8 i h ah br j ?_;rintro B r t p e ⟨rfl,m,rfl⟩ y A w;exact o e p ⟨y.le m,A,g.a5.trans w⟩
end
def cf.cY{bm}{W:a6->a6->Array aO->Prop}{A:ai->a6->Prop}{C}{b}(q:cf (af.aF T 242 bm) A C b)(m:gW (λe=>e=bm) b)(i:WgLive 242 bm b.a):
  dt (af.aF T 242 bm) W (λC b=>A C b/\WgLive 242 bm b.a) C b:=by
 induction q with
 |stop q=>exact⟨.leaf,q,i⟩
 |@step C b O z I w r s _ y=>
  refine .step w λk g=>?_;have D:=g.2 i;have p:gW (λe=>e=bm) k:=⟨λe d=>by rw[g.1.own];exact m.own e d,λe d=>by rw[g.1.t];exact m.t e d,λe d J=>by rw[g.1.D];exact m.D e d J,λe d=>eC (m.lt e d) g.1.size⟩
  obtain⟨⟨B,o,t,E,j⟩,F⟩:=s k g;refine⟨_,_,_,r k g,.inl ⟨⟨B,o,t,E,j⟩,F⟩,y k g (p.step j) ?_⟩;obtain⟨M,N,K⟩:=D;exact⟨M,N,by show(z k).a.heap[bm]?=_;rw[j.a3 bm (p.lt bm a) (p.t bm a)];exact K⟩
 |aP h _ y=>exact .aP h (y (m.aP h) (by rw[h.a];exact i))
 |b0 x _ _ _=>exact x.elim
 |dj u _ _=>exact u.elim
def nP.clear{bm}{b}(e:nP bm b):gW (λd=>d=bm) b:=⟨λd a=>a▸e.own,λd a=>a▸e.t,λd a=>a▸e.D,λd a=>a▸e.lt⟩
section
variable (h:Int)(Z:m b')(bt:m Int)(N bm:Nat)
def ia(a:Nat):bJ:=[(3,ax (.R [.int .i64 h])),(4,ax (.R [.B v 2 (c Z) (a2.fn Z)])),(8,ax (.R [.val (.slice (f ⟨N,0,n⟩) (c bt) (c bt))])),(9,cL (.pointer (f ⟨bm,0,n⟩))),
 (18,az.B bt),(19,Q (c bt)),(20,Q a)]
variable {h Z bt N bm}{q:af T}{k:m aq}
def La{e}(b:e<=c bt):b3 q 45 Hz (ue ((21,bf (decide (e<c bt)))::ia h Z bt N bm e) k) (ia h Z bt N bm e) k:=by
 refine g.aO ?_;by_cases d:e<c bt
 .refine a5 [21] a bQ ⟨a,eH a ?_,a⟩;exact bv
 refine a5 [-21] a bQ ⟨a,eH a ?_,a⟩;exact bv
abbrev eL:m aq:=[.M,.M,.M,.M,.M]
def aaz{e}(b:e<c bt):b3 q 45 HA (ue ((10,aI 5 0)::(11,aI 6 0)::ia h Z bt N bm e) [.M,.M,.M,.M,.M,.cells 3 [.c (.int .i64 e)],.cells 3 [.c (.int .i64 (bt.getD e 0))]]) (ia h Z bt N bm e) eL:=by refine g.aO ?_;refine aW a bQ ⟨a,eH a D,?_⟩;grind
def aaA{e}(b:e<c bt)(d:c bt<=4000000):b3 q 45 n5 (ue (ia h Z bt N bm (e+1)) eL) (ia h Z bt N bm e) eL:=by refine g.aO ?_;refine aW a bE ⟨a,eH a ?_,a⟩;simp
variable {dL:m aq}{cG:a6}{br:ai->a6->Prop}{i:aG}{eT:m Item}{ah:m aG}
abbrev kb:m aq:=[.M,.M,.M,.M,.M,.M,.M]
variable (h Z bt N bm)in
abbrev kP(a:Nat):bJ:=(11,ax (.R [.int .i64 (bt.getD a 0)]))::(10,ax (.R [.int .i64 a]))::ia h Z bt N bm a
noncomputable abbrev s3(a:m Item):m Item:=.code (.region 7 ov v)::.inBlock 1::.code n5::.inLoop hx::.inBlock 0::a
def zj{P}{eU}{a:aG}{x}{h}{ah}{p}{s b d}(e:s=.seq b d):ao P eU (G (a.ab x (.code s::h)) ah) p=.go (G (a.ab x (.code b::.code d::h)) ah) p:=by grind[px]
def toAdd{e}(j:e<c bt)(y:i.kind≠.early){x}{d:a6}(b:dS dL cG (ia h Z bt N bm e) eL x d)(z:∀w p,dS dL cG (kP h Z bt N bm e) kb w p->cf q br (G (i.ab w (.inRegion pp [0]::s3 eT)) ah) p):
  cf q br (G (i.ab x (.code hx::.inLoop hx::.inBlock 0::eT)) ah) d:=by
 refine b.ctl a (λg=>zj Hl) λd b=>?_;refine b.code y (La (Nat.le_of_lt j)) λx d b=>?_;refine b.ctl a (λg=>px) λd b=>?_;have A:x.eval (.tmp 21)=.bool l:=by have:=b.bS.aL 21;simp only[j,lD]at this;exact D1 (b7 this)
 refine b.ctl a (λg=>zg A) λd b=>?_;refine b.ctl a (λg=>Mm) λd b=>?_;refine b.ctl a (λg=>px) λd b=>?_;refine b.ctl a (λg=>zf) λd b=>?_;refine b.ctl a (λg=>px) λd b=>?_;have b:dS dL cG (ia h Z bt N bm e) eL x d:=⟨b.bS.le (eH a D),b.a8,b.a5⟩
 refine b.code y (aaz j) λx d b=>?_;obtain⟨p,w1,m,k,s⟩:=b0.freeze 10 5 (W:=3) (ah:=[.c (.int .i64 e)]) (gN:=[.int .i64 e]) rfl rfl rfl b.bS b.a8;refine .aP (.of b.a8 k w1 (s.tooV b.a8)) ?_;obtain⟨r,w2,o,t,u⟩:=b0.freeze 11 6 (W:=3) (ah:=[.c (.int .i64 (bt.getD e 0))]) (gN:=[.int .i64 (bt.getD e 0)]) rfl rfl rfl m k;refine .aP (.of k t w2 (u.tooV k)) ?_;have b:dS dL cG (kP h Z bt N bm e) kb x r:=⟨o.le (eH a D),t,b.a5.trans ((s.tooV b.a8).trans (u.tooV k))⟩
 refine b.ctl a (λg=>px) λd b=>?_;refine b.ctl a (λg=>zi) λd b=>?_;exact z x d b
def rQ:an:={dst:=f 25,op:=.call {callee:=.value (.func 185),args:=#[.tmp 9,.const (.int .i64 1)],argTypes:=#[242,3]},type:=0,pos:= "l12_snap.go:79",after:=#[],guard:=n}
theorem K8:pp=#[rQ]:=bU
def TJ{e}(t:i.kind≠.early){x}{b}(o:dS dL cG (kP h Z bt N bm e) kb x b)(j:∀d,dS dL cG (kP h Z bt N bm e) kb x d->cf q br (G (Frame.enter T 185 #[.pointer (f ⟨bm,0,n⟩),.int .i64 1] .normal) (i.ab x (.inRegion pp [0]::s3 eT)::ah)) d):
  cf q br (G (i.ab x (.inRegion pp [0]::s3 eT)) ah) b:=by
 refine .next a λd k=>?_;have g:=o.rely (q.bH k);have m:=Rd.bc (g.bS.aL 9);have s:(ab x.eval rQ).run T d.a=.ok (.enter 185 #[.pointer (f ⟨bm,0,n⟩),.int .i64 1]) d.a:=by have:=run_call_body (P:=T) (a:=x) (w:=d.a) (o:=rQ) (f:=185) (fn:=Tryz.f185) a Tryz.func185 bU bU;rw[this,<-m];simp only[List.map_toArray,mf,List.map_nil];rfl
 have u:(ab x.eval rQ).events T d.a #[]=#[]:=events_call_body (P:=T) (a:=x) (w:=d.a) (o:=rQ) (f:=185) (fn:=Tryz.f185) a Tryz.func185 bU bU #[];have w:listed T i.fn x rQ d.a=#[]:=by unfold listed;grind[seen_none]
 refine⟨_,d,#[],?_,.aR g.a8,j d g⟩;have:=tw (P:=T) (eU:=q.b4) (i:=i) (x:=x) (h:=s3 eT) (ah:=ah) (p:=d.a) (aQ:=pp) (e:=0) (bq:=[]) (r:=rQ) (by grind[K8]) a t s;grind
def vB:an:={dst:=f 26,op:=.makeFunc (.func 186) #[] #[.tmp 9,.tmp 3,.tmp 4,.tmp 11,.tmp 8,.tmp 10],type:=1,pos:= "l12_snap.go:80",after:=#[],guard:=n}
def pn:an:={dst:=n,op:=.go {callee:=.value (.tmp 26),args:=#[],argTypes:=#[]},type:=0,pos:= "l12_snap.go:80",after:=#[⟨0,.data⟩],guard:=n}
theorem K9:ov=[vB,pn].toArray:=bU
variable (h Z bt N bm)in
abbrev sE(a:Nat):AM.N:=.fn (.func 186) [] [.val (.pointer (f ⟨bm,0,n⟩)),.R [.int .i64 h],.R [.B v 2 (c Z) (a2.fn Z)],.R [.int .i64 (bt.getD a 0)],.R [.val (.slice (f ⟨N,0,n⟩) (c bt) (c bt))],.R [.int .i64 a]]
def aah{e}:aZ q 45 [vB,pn] vB ((25,.any)::kP h Z bt N bm e) kb (ax (sE h Z bt N bm e)) kb:=by have a:iy eO [] [] [vB,pn] ((25,.any)::kP h Z bt N bm e) kb vB=f (ax (sE h Z bt N bm e),n,[]):=rfl;exact ee bb a_.nil a B
def toGo{e}(u:i.kind≠.early){x}{b}(d:dS dL cG (kP h Z bt N bm e) kb x b)(p:∀aa m g,dS dL cG (kP h Z bt N bm e) kb m g->Rd g.D aa (sE h Z bt N bm e)->m.tmps.getD 26 J=aa->cf q br (G (i.ab m (.inRegion ov [1]::.inBlock 1::.code n5::.inLoop hx::.inBlock 0::eT)) ah) g):
  cf q br (G (i.ab (x.put (f 25) (.tuple #[])) (.inRegion pp []::s3 eT)) ah) b:=by
 have t:dS dL cG ((25,.any)::kP h Z bt N bm e) kb (x.put (f 25) (.tuple #[])) b:=⟨d.bS.put ca B,d.a8,d.a5⟩
 refine t.ctl a (λw=>vX) λb d=>?_;refine d.ctl a (λw=>zi) λb d=>?_;rw[K9];refine aah b _ d.bS d.a8 i _ ah br 0 [1] u a λaa g j r o=>?_;have j:=b7 j;have k:=((d.bS.mono o d.a8.len).put (O:=26) (aa:=aa) (F:=.any) ca B)
 have s:26<(x.put (f 25) (.tuple #[])).tmps.size:=by rw[d.bS.size];decide
 refine p aa _ g ⟨k.le (eH a ?_),r,d.a5.trans o⟩ j (aa_ s);simp
def adZ{e}(k:e<c bt)(A:c bt<=4000000)(j:i.kind≠.early)(t:dL.length<=5){x}{b}(d:dS dL cG (kP h Z bt N bm e) kb x b)(s:∀o p,dS dL cG (ia h Z bt N bm (e+1)) eL o p->cf q br (G (i.ab o (.code hx::.inLoop hx::.inBlock 0::eT)) ah) p):
  cf q br (G (i.ab x (.inRegion ov []::.inBlock 1::.code n5::.inLoop hx::.inBlock 0::eT)) ah) b:=by
 have g:b0 45 (eL++[.M,.M]) b (ia h Z bt N bm e) x:=d.bS.le (eH a D);have m:=d.a8;have u:df dL cG (eL++[.M,.M]) b:=d.a5;have z:e2 b (b.cut (c eL)):=⟨rfl,λ_ _ _ d=>d,λ_ _ _=>rfl,m.mem,λi j=>j.imp id λ⟨L,y,j⟩=>⟨L,gY y,j⟩⟩
 refine .aP z ?_;have d:dS dL cG (ia h Z bt N bm e) eL x (b.cut (c eL)):=⟨⟨g.size,g.defers.imp λ_ w=>w.drop a,λB=>(g.aL B).drop (vk a)⟩,m.drop a,u.drop t⟩
 refine d.ctl a (λr=>vX) λb d=>?_;refine d.ctl a (λr=>Mi) λb d=>?_;refine d.code j (aaA k A) λx b d=>?_;exact d.ctl a (λr=>Mj) λb d=>s x b d
end
theorem ri{a:aG}(d:a.roundOf=n)(b)(o):a.ab b o=a.at ⟨b.tmps,b.defers++a.defers⟩ o:=by cases a;simp only at d;subst d;rfl
section
variable {h:Int}{Z:m b'}{bt:m Int}{K:hH}{val:Nat->Nat->Y}{dL:m aq}{cG:a6}{i:aG}{eT:m Item}{ah:m aG}
def JW{x:Act}{p}{s g7 iK jI uP a}(d:x.tmps.getD 26 J=.func (.func 186) #[] #[s,g7,iK,jI,uP,a]):(ab x.eval pn).run T p=.ok (.spawn (rp #[s,g7,iK,jI,uP,a])) p/\(ab x.eval pn).events T p #[]=#[]:=by
 have b:x.eval (.tmp 26)=.func (.func 186) #[] #[s,g7,iK,jI,uP,a]:=d;constructor
 .simp[ab,pn,resolve,Deferred.ofValue,b,rp]
 simp[ab,pn,resolve,Deferred.ofValue,b]
def Sv(ab:bK (af.c8 T) 188 (nc h))(Q:K.aI=2)(t:i.roundOf=n)(ag:i.kind≠.early){e}(s:e<c bt)(U:val e 0=.string ⟨((dg h Z (bt.getD e 0)).getD []).toArray⟩)(F:val e 1=.bool (dg h Z (bt.getD e 0)).isSome){aa}{x}{b}(N:dS dL cG (kP h Z bt K.af K.f e) kb x b)(A:WgLive 242 K.f b.a)(y:Rd b.D aa (sE h Z bt K.af K.f e))(z:x.tmps.getD 26 J=aa){Next:ai->a6->Prop}(B:∀j,dS dL cG (kP h Z bt K.af K.f e) kb x j->WgLive 242 K.f j.a->Next (G (i.ab x (.inRegion ov []::.inBlock 1::.code n5::.inLoop hx::.inBlock 0::eT)) ah) j):
  wG T 242 K (2*c bt) val e Next (G (i.ab x (.inRegion ov [1]::.inBlock 1::.code n5::.inLoop hx::.inBlock 0::eT)) ah) b:=by
 refine⟨a,λj o=>?_⟩;have w:=N.rely o.1;have V:Rd j.D aa (sE h Z bt K.af K.f e):=by rw[o.1.D];exact y
 cases V with
 |fn E q m k D d I M Y g=>
 have S:=jC m;subst S;have O:q=[d 0,d 1,d 2,d 3,d 4,d 5]:=by
  apply p4;intro u;have k:=k
  match u with
  |0=>grind
  |1=>grind
  |2=>grind
  |3=>grind
  |4=>grind
  |5=>grind
  |u+6=>grind
 subst O;have ae:=Rd.bc (g 0 _ a);obtain⟨R,W⟩:=JW (x:=x) (p:=j.a) z;have C:Go.Conc.listed T i.fn ⟨x.tmps,x.defers++i.defers⟩ pn j.a=#[]:=by unfold Go.Conc.listed;have:=(JW (x:=⟨x.tmps,x.defers++i.defers⟩) (p:=j.a) z).2;grind[seen_none]
 have X:=stepG_spawn (P:=T) (main:=l) (b:=i) (a:=⟨x.tmps,x.defers++i.defers⟩) (k:=.inBlock 1::.code n5::.inLoop hx::.inBlock 0::eT) (cs:=ah) (w:=j.a) (ops:=ov) (i:=1) (rest:=[]) (o:=pn) (by grind[K9]) a ag R a;refine⟨G (i.ab x (.inRegion ov []::.inBlock 1::.code n5::.inLoop hx::.inBlock 0::eT)) ah,born T (rp #[d 0,d 1,d 2,d 3,d 4,d 5]),?_,a,?_,B j w (o.2 A)⟩
 .rw[ri t,ri t,X,C];rfl
 rw[ae];exact aek ab s Q U F (b:=j.dw) ⟨w.a8.mem,a,by simp,by simp[a6.dw],by simp[a6.dw],by simp[a6.dw]⟩ a (g 1 _ a) (g 2 _ a) (g 3 _ a) (g 4 _ a) (g 5 _ a)
def rR:an:={dst:=f 28,op:=.call {callee:=.value (.func 189),args:=#[.tmp 9],argTypes:=#[242]},type:=0,pos:= "l12_snap.go:85",after:=#[],guard:=n}
theorem K_:ow=#[rR]:=bU
variable {q:af T}{br:ai->a6->Prop}
def ad0(m:i.kind≠.early){N bm}{x}{b}(d:dS dL cG (ia h Z bt N bm (c bt)) eL x b)(o:∀k g,dS dL cG (ia h Z bt N bm (c bt)) eL k g->cf q br (G (Frame.enter T 189 #[.pointer (f ⟨bm,0,n⟩)] .normal) (i.ab k (.inRegion ow [0]::.code n6::eT)::ah)) g):
  cf q br (G (i.ab x (.code hx::.inLoop hx::.inBlock 0::.code lJ::eT)) ah) b:=by
 refine d.ctl a (λp=>zj Hl) λb d=>?_;refine d.code m (La (bC _)) λx b d=>?_;refine d.ctl a (λp=>px) λb d=>?_;have w:x.eval (.tmp 21)=.bool v:=by have:=d.bS.aL 21;simp only[w5,nY]at this;exact D1 (b7 this)
 refine d.ctl a (λp=>zg w) λb d=>?_;refine d.ctl a (λp=>Mh (gk:=.code lJ::eT) a) λb d=>?_;refine d.ctl a (λp=>zj SW) λb d=>?_;refine d.ctl a (λp=>zi) λb d=>?_;have d:dS dL cG (ia h Z bt N bm (c bt)) eL x b:=⟨d.bS.le (eH a D),d.a8,d.a5⟩
 refine .next a λg s=>?_;have j:=d.rely (q.bH s);have y:x.eval (.tmp 9)=.pointer (f ⟨bm,0,n⟩):=Rd.bc (j.bS.aL 9);have u:(ab x.eval rR).run T g.a=.ok (.enter 189 #[.pointer (f ⟨bm,0,n⟩)]) g.a:=by have:=run_call_body (P:=T) (a:=x) (w:=g.a) (o:=rR) (f:=189) (fn:=Tryz.f189) a Tryz.func189 bU bU;grind
 have z:(ab x.eval rR).events T g.a #[]=#[]:=events_call_body (P:=T) (a:=x) (w:=g.a) (o:=rR) (f:=189) (fn:=Tryz.f189) a Tryz.func189 bU bU #[];have t:Go.Conc.listed T i.fn x rR g.a=#[]:=by unfold Go.Conc.listed;grind[seen_none]
 refine⟨_,g,#[],?_,.aR j.a8,o x g j⟩;have:=tw (P:=T) (eU:=q.b4) (i:=i) (x:=x) (h:=.code n6::eT) (ah:=ah) (p:=g.a) (aQ:=ow) (e:=0) (bq:=[]) (r:=rR) (by grind[K_]) a m u;rw[t]at this;exact this
section
variable (h Z bt K dL cG i eT ah)
def wE(b:ai)(d:a6):Prop:=∃a,wF T qT K (dS dL cG (ia h Z bt K.af K.f (c bt)) eL a) (i.ab a (.inRegion ow [0]::.code n6::eT)) ah b d
def F_(b:ai)(d:a6):Prop:=∃a,fN T qT K (dS dL cG (ia h Z bt K.af K.f (c bt)) eL a) (G (i.ab (a.put (f 28) (.tuple #[])) (.inRegion ow []::.code n6::eT)) ah) b d
end
def Sk(j:nP K.f cG)(e:i.roundOf=n){C}{b}(d:wE h Z bt K dL cG i eT ah C b):
  dt (af.aF T 242 K.f) (dP K.f) (q5 T 242 K (F_ h Z bt K dL cG i eT ah) (wE h Z bt K dL cG i eT ah)) C b:=by
 obtain⟨a,d⟩:=d;have k:(ow[0]?).bind (·.dst)=f 28:=by rw[K_];rfl
 rw[ri e]at d;refine Sl (P:=T) (L:=qT) (hL:=i) (hK:=⟨a.tmps,a.defers++i.defers⟩) (gl:=ow) (hP:=0) (hT:=[]) (hR:=.code n6::eT) (ah:=ah) wc (dS.eD j) (λC b g=>⟨a,?_⟩) (λC b m=>⟨a,?_⟩) d
 .rw[ri e];rw[k]at g;exact g
 grind[ri]
def acf{P}{ty}{E j}{g:ai->a6->Prop}:∀h{a:ai}{b:a6},dt (af.aF P ty K.f) (dP K.f) (λa b=>oT P ty K E val j g h a b) a b->oT P ty K E val j g h a b
 |0,_,_,d=>dt.bind d λ_ _ e=>e
 |_+1,_,_,d=>dt.bind d λ_ _ e=>e
def ace(Q:bK (af.c8 T) 188 (nc h))(M:K.aI=2)(s:nP K.f cG)(x:i.roundOf=n)(r:i.kind≠.early)(F:dL.length<=5)(H:c bt<=4000000)(O:∀d,d<c bt->val d 0=.string ⟨((dg h Z (bt.getD d 0)).getD []).toArray⟩)(I:∀d,d<c bt->val d 1=.bool (dg h Z (bt.getD d 0)).isSome):
  ∀o,o<=c bt->∀a b,dS dL cG (ia h Z bt K.af K.f (c bt-o)) eL a b->WgLive 242 K.f b.a ->
   oT T 242 K (2*c bt) val (c bt) (wE h Z bt K dL cG i eT ah) o (G (i.ab a (.code hx::.inLoop hx::.inBlock 0::.code lJ::eT)) ah) b:=by
 intro o;induction o with
 |zero=>
  intro _ a b e k;rw[sm]at e;have:=cf.cY (W:=dP K.f) (ad0 (q:=af.aF T 242 K.f) (eT:=eT) (ah:=ah) (br:=λj b=>∃a,j=G (Frame.enter T 189 #[.pointer (f ⟨K.f,0,n⟩)] .normal) (i.ab a (.inRegion ow [0]::.code n6::eT)::ah)/\dS dL cG (ia h Z bt K.af K.f (c bt)) eL a b) r e λp u m=>.stop ⟨p,rfl,m⟩) (s.step e.a5).clear k;refine dt.bind this ?_;rintro j b ⟨⟨a,rfl,e⟩,k⟩;exact aed (P:=T) (L:=qT) (K:=K) wc (dS.eD s) (λj b y=>⟨a,y⟩) ⟨e,k⟩
 |succ o E=>
  intro U a b e k;have g:c bt-(o+1)<c bt:=w;generalize S:c bt-(o+1)=d at e g;have:=cf.cY (W:=dP K.f) (toAdd (q:=af.aF T 242 K.f) (eT:=.code lJ::eT) (ah:=ah) (br:=λj b=>∃a,j=G (Frame.enter T 185 #[.pointer (f ⟨K.f,0,n⟩),.int .i64 1] .normal) (i.ab a (.inRegion pp [0]::s3 (.code lJ::eT))::ah)/\dS dL cG (kP h Z bt K.af K.f d) kb a b) g r e λp u m=>TJ r m λN A=>.stop ⟨p,rfl,A⟩) (s.step e.a5).clear k;refine dt.bind this ?_;rintro j b ⟨⟨a,rfl,e⟩,k⟩;have D:(pp[0]?).bind (·.dst)=f 25:=by rw[K8];rfl
  rw[ri x];refine Sc (P:=T) (L:=qT) (K:=K) (ec:=dS dL cG (kP h Z bt K.af K.f d) kb a) wc (dS.eD s) (λb B=>?_) ⟨e,k⟩;rw[D];have:=cf.cY (W:=dP K.f) (toGo (q:=af.aF T 242 K.f) (eT:=.code lJ::eT) (ah:=ah) (br:=λj b=>∃t a,j=G (i.ab a (.inRegion ov [1]::.inBlock 1::.code n5::.inLoop hx::.inBlock 0::.code lJ::eT)) ah/\dS dL cG (kP h Z bt K.af K.f d) kb a b/\Rd b.D t (sE h Z bt K.af K.f d)/\a.tmps.getD 26 J=t) r B.1 λt p u m C z=>.stop ⟨t,p,rfl,m,C,z⟩) (s.step B.1.a5).clear B.2;rw[ri x]at this;refine dt.bind this ?_;rintro j b ⟨⟨t,a,rfl,e,C,z⟩,k⟩;rw[S];refine⟨.leaf,Sv Q M x r g (O d g) (I d g) e k C z λu m R=>?_⟩;refine acf o ?_;have:=cf.cY (W:=dP K.f) (adZ (q:=af.aF T 242 K.f) (eT:=.code lJ::eT) (ah:=ah) (br:=λj b=>∃a,j=G (i.ab a (.code hx::.inLoop hx::.inBlock 0::.code lJ::eT)) ah/\dS dL cG (ia h Z bt K.af K.f (d+1)) eL a b) g H r F m λp u m=>.stop ⟨p,rfl,m⟩) (s.step m.a5).clear R;refine dt.bind this ?_;rintro j b ⟨⟨a,rfl,e⟩,k⟩;refine⟨.leaf,E w a b ?_ k⟩;grind
end
end
section
variable {q:af T}[q.bX]
def SN(o):∀b,b<c o->c (bu.fn o b)=2/\∀e∈bu.fn o b,np e=l:=by intro b _;refine⟨a,λe d=>?_⟩;simp only[c0.fn,gF,bu,e9,sn,or_false]at d;rcases d with rfl|rfl<;>rfl
abbrev m1(b:m cM)(a:m Y):Prop:=eo 2 (c b) (bu.fn b) a
abbrev A5(a:fp)(d:Nat)(b:m Y):aq:=.K (cr 45 2 a d b)
abbrev adk(a:fp)(d:Nat)(b:Bool):y:=.S [.Q (.v (cZ a d)),.Q (.c (.bool b))]
def Ye(o)(a d):bk (ι:={b:fp×m Y // m1 (jx o a d).1 b.2}) q 68 [bu.B o,b1 a,b1 d] [] (λb=>adk b.1.1 (jx o a d).1.length (jx o a d).2) (λb=>[A5 b.1.1 (jx o a d).1.length b.1.2]):=
 (Js o a d).thaw func68 rfl (by simp[DA,vF,vE,rS,nn,np]) (SN _)
def eo.nil{h}:eo h 0 V []:=⟨by simp,λb a=>by omega,λb a=>by omega⟩
def aa3{o}{d e}(a:(jx o d e).2=l):(jx o d e).1.length<=6:=by
 unfold jx at a⊢;split at a
 .rename_i i;rw[bo i];split at a
  .rename_i b;rw[bo b];exact Nc b
  grind
 grind
def Sp{b d:ae}(e:r.op=.call {callee:=.builtin .append,args:=#[b,d],argTypes:=#[46,46]}):jY T r b d 45 rG:=
 ⟨⟨46,46,C6,C6,e,(bb _ _ a),rfl,(bb _ _ a),rfl⟩,(bb _ _ a),by decide,by decide⟩
def LW{b}(d:c b<=9223372036854775807):Rd bB (ji b) (.T b):=Rd.T a d
def m1.gC{o}{ag}(p:m1 o ag)(b d)(j:c b<=9223372036854775807)(k:c d<=9223372036854775807):m1 (o++[(b,d)]) (ag++[ji b,ji d]):=by
 unfold m1;rw[dk];refine eo.gC p (λr g=>?_) a a λh q e=>?_
 .simp[c0.fn,gF,ak,j3 g]
 have m:bu.fn (o++[(b,d)]) (c o)=[.T b,.T d]:=by simp[c0.fn,gF,bu]
 rw[m]at e;rcases h with _|_|h
 .simp at e;subst e;exact⟨ji b,a,λi=>LW j⟩
 .simp at e;subst e;exact⟨ji d,a,λi=>LW k⟩
 grind
def m1.jP{o}{ag}(m:m1 o ag)(e)(b:e<c o)(d)(j:m7 z [.c (.T d)]):m1 (o.set e ((o.getD e bu.F).1,d)) (ag.take (e*2+1)++z++ag.drop (e*2+1+c z)):=by
 unfold m1;rw[wW];refine eo.fc m e 1 b j (bC _) (λr q h=>?_) a λg p i=>?_
 .simp[c0.fn,gF,ak,oZ h]
 have k:bu.fn (o.set e ((o.getD e bu.F).1,d)) e=[.T (o.getD e bu.F).1,.T d]:=by simp[c0.fn,gF,bu,ak,b]
 rw[k]at i;rcases g with _|_|g
 .right;exact bE
 .grind
 grind
structure ul(h s:Nat) where
 dX:m cM
 gI:fp
 hR:m Y
 k1:Nat
 iS:m1 dX hR
 ki:c dX<=7
 iZ:h<=k1
 jZ:k1<=h+s
set_option maxRecDepth 20000 in
def Ya(A)(i:Nat->Int)(t:Bytes i)(h)(ah:h<=50000)(x:A<=1048576):
  bk (ι:=ul h 400) q 41 [aI 0 0] [e1 A i h] (λo=>cL (cZ o.gI (c o.dX))) (λo=>[e1 A i o.k1,A5 o.gI (c o.dX) o.hR]):=by
 refine bk.cd func41 rfl rfl rfl λH=>?_;refine gp [] 9 a B (g.jx 3 45 2 a λW=>?_);refine aW a B (g.a2 (gA A i t h 6 w x w) [0] a bn ?_);rintro⟨E,al,an⟩;refine aW a B (g.aC 2 (λb:Nat×m cM×fp×m Y×Nat=>b.1<=5/\m1 b.2.1 b.2.2.2.1/\c b.2.1<=6/\h<=b.2.2.2.2/\b.2.2.2.2+70*b.1<=h+351) (λb=>[(0,aI 0 0),(4,Q b.1),(3,cL (cZ b.2.2.1 (c b.2.1)))]) (λb=>[e1 A i b.2.2.2.2,A5 b.2.2.1 (c b.2.1) b.2.2.2.1]) (λb=>b.1) (E.toNat,[],W,[],h+1) a bQ a D a ⟨by omega,eo.nil,by simp,by simp,by grind⟩ ?_);rintro⟨j,e,bO,ag,k1⟩ ⟨Z,p,ae,G,aa⟩;simp only at Z p ae G aa;by_cases P:0<j
 .refine a5 [11] a (by simp[P]) (g.a2 (Jd A i t k1 w x) [0] a bn ?_);rintro⟨k,ab⟩;refine aW a B (g.a2 (X_ A i t (k1+1+1) w x) [0] a bn ?_);rintro⟨⟨O,S⟩,af,aq,ai⟩;simp only at af aq ai;refine aW a B (g.iy (Ye e k O) 1 0 a a a a (cr.fF a (bu.fn e) p.rd) a D a bn bn a ?_);rintro⟨⟨F,C⟩,T⟩;simp only at T⊢;cases y:(jx e k O).2 with
  |true=>
   have N:=aa3 y;generalize(jx e k O).1=K at T N⊢;refine gp [] 6 a B (g.swap 1 2 ca a a (λE I J=>J.1) (λE I J=>J.1) ?_);refine a5 [23] a kT (g.av (j-1,K,F,C,S) a bQ D M ?_);grind
  |false=>
   refine a5 [-23] a bE (g.av (j-1,e,bO,ag,S) a bQ D M ?_);grind
 obtain rfl:j=0:=w;refine a5 [-11] a D (g.az ?_);refine aW a B (g.a2 (gA A i t k1 40 w x w) [0] a bn ?_);rintro⟨V,aM,av⟩;by_cases L:V=0
 .refine a5 [27] a (by simp[L]) (g.a2 (Jd A i t (k1+1) w x) [0] a bn ?_);rintro⟨k,ab⟩;refine aW a B (g.fu (d:=1) (bO:=bO) (ag:=ag) (j:=c e) (hX:=[ji k,ji [97]]) (Sp a) a a a a a a a a (λau E aA s aw ax=>?_) (by show _*32<=_;omega) λF=>?_)
  .grind [Ep]
  refine aW a B (g.bu ⟨e++[(k,[97])],F,ag++[ji k,ji [97]],k1+1+1+1,p.gC k [97] w ca,by grind,by omega,by omega⟩ (g.aH [0,1] a D ?_ (s:=nN)));grind
 by_cases ar:V=1
 .by_cases R:0<c e
  .refine g.fy (cr.len (d:=1) a) λao=>?_;obtain⟨X,r,rfl⟩:=ao.2.2.1 R;refine a5 [-27,35,39] a bv (g.eM bb 1 a a a a a a a M a a λz u=>?_);have aj:=p.jP 0 R [65] u;refine aW a B (g.bu ⟨e.set 0 ((e.getD 0 bu.F).1,[65]),.row X r,_,k1+1,aj,by grind,by omega,by omega⟩ (g.aH [0,1] a D ?_ (s:=nN)));grind
  cases bO;all_goals
   refine a5 [-27,35,-39] a ?_ (g.bu ⟨e,_,ag,k1+1,p,by omega,by omega,by omega⟩ (g.aH [0,1] a ?_ ?_))
   .simp[R,ar]<;>omega
   .simp
   grind
 refine a5 [-27,-35] a bv (g.bu ⟨e,bO,ag,k1+1,p,by omega,by omega,by omega⟩ (g.aH [0,1] a D ?_));grind
def Yb(A)(b:Nat->Int)(g:Bytes b)(h)(d:h<=50000)(e:A<=1048576):
  bk (ι:=ul h 400) q 41 [aI 0 0] [e1 A b h] (λa=>bu.B a.dX) (λa=>[e1 A b a.k1]):=
 bk.e0 (aS:=λa:ul h 400=>[e1 A b a.k1]) (h:=2) (j:=λa:ul h 400=>c a.dX) (V:=λa:ul h 400=>bu.fn a.dX) (Ya A b g h d e) (λa=>a.iS) bn (λ_=>bC _)
end
section
open Go.Proofs Go.Extern
abbrev gf:al:=182
abbrev dO:al:=180
abbrev pD:al:=277
abbrev aY(a:al):Y:=.pointer (f ⟨6,a,n⟩)
abbrev mK(a:al):Y:=.iface pD (.agg #[aY a])
abbrev kt(d:al)(b:Nat)(a:Int):Y:=.agg #[aY d,.pointer (f ⟨b,0,n⟩),.int .u64 a]
def NF:jz T 178 λargs=>ReflectliteValue.unpack (args.getD 0 (.tuple #[])):=⟨_,Tryz.func178,by kernel_rfl,by kernel_rfl,by kernel_rfl,by kernel_rfl⟩
def abk(a)(p):(ReflectliteValue.unpack (.iface gf (.pointer (f a)))).run T p=.ok (kt gf p.heap.size 150) (p.alloc (.cells #[.pointer (f a)] gf)):=bU
def TG(a)(p)(V):(ReflectliteValue.unpack (.iface gf (.pointer (f a)))).events T p V=V:=bU
def abj(a)(p):(ReflectliteValue.unpack (.iface dO (.pointer (f a)))).run T p=.ok (kt dO p.heap.size 150) (p.alloc (.cells #[.pointer (f a)] dO)):=bU
def TF(a)(p)(V):(ReflectliteValue.unpack (.iface dO (.pointer (f a)))).events T p V=V:=bU
def aeC:jz T 179 (ReflectliteValue.methodAny (ReflectliteValue.valueError "reflectlite.Value.Type" 0) λa _ _ _=>ReflectliteType.toType a):=⟨_,Tryz.func179,by kernel_rfl,by kernel_rfl,by kernel_rfl,by kernel_rfl⟩
def abh(C)(p):(ReflectliteValue.methodAny (ReflectliteValue.valueError "reflectlite.Value.Type" 0) (λa _ _ _=>ReflectliteType.toType a) #[kt gf C 150]).run T p=.ok (mK gf) p:=bU
def TD(C)(p)(V):(ReflectliteValue.methodAny (ReflectliteValue.valueError "reflectlite.Value.Type" 0) (λa _ _ _=>ReflectliteType.toType a) #[kt gf C 150]).events T p V=V:=bU
def KC(b)(p):(Go.method (Tryz.prog.types.size+Made.depth) pD (.agg #[b]) "Kind").run T p=.ok (341,b) p/\∀a,(Go.method (Tryz.prog.types.size+Made.depth) pD (.agg #[b]) "Kind").events T p a=a:=⟨by kernel_rfl,λa=>by kernel_rfl⟩
def NE:jz T 341 (ReflectliteType.abiMethod λa=>do pure (.int .u8 (<-Rtype.kind a))):=⟨_,Tryz.func341,by kernel_rfl,by kernel_rfl,by kernel_rfl,by kernel_rfl⟩
def abf(p):((ReflectliteType.abiMethod λa=>do pure (.int .u8 (<-Rtype.kind a))) #[aY gf]).run T p=.ok (.int .u8 22) p:=bU
def TC(p)(V):((ReflectliteType.abiMethod λa=>do pure (.int .u8 (<-Rtype.kind a))) #[aY gf]).events T p V=V:=bU
def abe(p):((ReflectliteType.abiMethod λa=>do pure (.int .u8 (<-Rtype.kind a))) #[aY dO]).run T p=.ok (.int .u8 22) p:=bU
def TB(p)(V):((ReflectliteType.abiMethod λa=>do pure (.int .u8 (<-Rtype.kind a))) #[aY dO]).events T p V=V:=bU
def aew:jz T 180 (ReflectliteValue.method (ReflectliteValue.valueError "reflectlite.Value.IsNil" 0) ReflectliteValue.isNil):=⟨_,Tryz.func180,by kernel_rfl,by kernel_rfl,by kernel_rfl,by kernel_rfl⟩
def L3(d)(b:al->Addr->Nat->Nat->Sem Y)(aa):ReflectliteValue.method d b #[aa]=(do match<-ReflectliteValue.parts aa with|none=>d|some (g,e,a)=>b g e a (a % 32)):=rfl
def tk(C)(p):(ReflectliteValue.parts (kt gf C 150)).run T p=.ok (f (gf,⟨C,0,n⟩,150)) p/\∀a,(ReflectliteValue.parts (kt gf C 150)).events T p a=a:=⟨by kernel_rfl,λa=>by kernel_rfl⟩
def abd(C)(h)(p)(e:p.cell? ⟨C,0,n⟩=f (.pointer (f h))):(ReflectliteValue.method (ReflectliteValue.valueError "reflectlite.Value.IsNil" 0) ReflectliteValue.isNil #[kt gf C 150]).run T p=.ok (.bool v) p /\
  ∀a,∀b∈(ReflectliteValue.method (ReflectliteValue.valueError "reflectlite.Value.IsNil" 0) ReflectliteValue.isNil #[kt gf C 150]).events T p a,b∈a∨b=⟨.cell ⟨C,0,n⟩,v,v⟩:=by
 have g:=Tryz.underlying182;rw[L3];constructor
 .simp only[cJ,(tk C p).1,c8];simp[ReflectliteValue.isNil,loadVar,isAgg,underlying,g,e]
 intro a b d;simp only[aD,cJ,(tk C p).1,(tk C p).2,c8,aF]at d;simpa[ReflectliteValue.isNil,loadVar,isAgg,underlying,g,e,show(Mode.plain==Mode.atomic)=v from rfl]using d
def ZU(b)(p):(Go.method (Tryz.prog.types.size+Made.depth) pD (.agg #[b]) "Elem").run T p=.ok (357,.agg #[b]) p/\∀a,(Go.method (Tryz.prog.types.size+Made.depth) pD (.agg #[b]) "Elem").events T p a=a:=⟨by kernel_rfl,λa=>by kernel_rfl⟩
def aet:jz T 357 (ReflectliteType.method ReflectliteType.elem):=⟨_,Tryz.func357,by kernel_rfl,by kernel_rfl,by kernel_rfl,by kernel_rfl⟩
def aba(p):(ReflectliteType.method ReflectliteType.elem #[.agg #[aY gf]]).run T p=.ok (mK dO) p:=bU
def Ty(p)(V):(ReflectliteType.method ReflectliteType.elem #[.agg #[aY gf]]).events T p V=V:=bU
def ZV(b)(p):(Go.method (Tryz.prog.types.size+Made.depth) pD (.agg #[b]) "Implements").run T p=.ok (358,.agg #[b]) p/\∀a,(Go.method (Tryz.prog.types.size+Made.depth) pD (.agg #[b]) "Implements").events T p a=a:=⟨by kernel_rfl,λa=>by kernel_rfl⟩
def aev:jz T 358 (ReflectliteType.relation "Implements" ReflectliteType.implements_):=⟨_,Tryz.func358,by kernel_rfl,by kernel_rfl,by kernel_rfl,by kernel_rfl⟩
def abc(p):(ReflectliteType.relation "Implements" ReflectliteType.implements_ #[.agg #[aY dO],mK 177]).run T p=.ok (.bool l) p:=bU
def TA(p)(V):(ReflectliteType.relation "Implements" ReflectliteType.implements_ #[.agg #[aY dO],mK 177]).events T p V=V:=bU
def ZT(b)(p):(Go.method (Tryz.prog.types.size+Made.depth) pD (.agg #[b]) "AssignableTo").run T p=.ok (355,.agg #[b]) p/\∀a,(Go.method (Tryz.prog.types.size+Made.depth) pD (.agg #[b]) "AssignableTo").events T p a=a:=⟨by kernel_rfl,λa=>by kernel_rfl⟩
def aeo:jz T 355 (ReflectliteType.relation "AssignableTo" ReflectliteType.assignableTo):=⟨_,Tryz.func355,by kernel_rfl,by kernel_rfl,by kernel_rfl,by kernel_rfl⟩
def aa'(p):(ReflectliteType.relation "AssignableTo" ReflectliteType.assignableTo #[.agg #[aY dO],mK dO]).run T p=.ok (.bool l) p:=bU
def Tx(p)(V):(ReflectliteType.relation "AssignableTo" ReflectliteType.assignableTo #[.agg #[aY dO],mK dO]).events T p V=V:=bU
def aeD:jz T 222 ReflectliteType.typeOf:=⟨_,Tryz.func222,by kernel_rfl,by kernel_rfl,by kernel_rfl,by kernel_rfl⟩
def abi(aa)(p):(ReflectliteType.typeOf #[.iface dO aa]).run T p=.ok (mK dO) p:=bU
def TE(aa)(p)(V):(ReflectliteType.typeOf #[.iface dO aa]).events T p V=V:=bU
def aeu:jz T 223 (ReflectliteValue.method (ReflectliteValue.valueError "reflectlite.Value.Elem" 0) ReflectliteValue.elem):=⟨_,Tryz.func223,by kernel_rfl,by kernel_rfl,by kernel_rfl,by kernel_rfl⟩
def LP(p):(Rtype.elem? gf).run T p=.ok (f dO) p/\∀a,(Rtype.elem? gf).events T p a=a:=⟨by kernel_rfl,λa=>by kernel_rfl⟩
def LQ(b)(p):(ReflectliteValue.mk dO b ReflectliteValue.flagAddr).run T p=.ok (.agg #[aY dO,.pointer (f b),.int .u64 406]) p/\∀a,(ReflectliteValue.mk dO b ReflectliteValue.flagAddr).events T p a=a:=⟨by kernel_rfl,λa=>by kernel_rfl⟩
def abb(C)(h)(p)(e:p.cell? ⟨C,0,n⟩=f (.pointer (f h))):(ReflectliteValue.method (ReflectliteValue.valueError "reflectlite.Value.Elem" 0) ReflectliteValue.elem #[kt gf C 150]).run T p=.ok (.agg #[aY dO,.pointer (f h),.int .u64 406]) p /\
  ∀a,∀b∈(ReflectliteValue.method (ReflectliteValue.valueError "reflectlite.Value.Elem" 0) ReflectliteValue.elem #[kt gf C 150]).events T p a,b∈a∨b=⟨.cell ⟨C,0,n⟩,v,v⟩:=by
 have g:=Tryz.underlying182;rw[L3];constructor
 .simp only[cJ,(tk C p).1,c8];simp[ReflectliteValue.elem,loadVar,isAgg,underlying,g,e,LP,LQ]
 intro a b d;simp only[aD,cJ,(tk C p).1,(tk C p).2,c8,aF]at d;simpa[ReflectliteValue.elem,loadVar,isAgg,underlying,g,e,LP,LQ,show(Mode.plain==Mode.atomic)=v from rfl]using d
def aeB:jz T 224 ReflectliteValue.set:=⟨_,Tryz.func224,by kernel_rfl,by kernel_rfl,by kernel_rfl,by kernel_rfl⟩
def abq(aa b):ReflectliteValue.set #[aa,b]=(do
  let (f (s,a,YJ),f (src,i,_)):=(<-ReflectliteValue.parts aa,<-ReflectliteValue.parts b)
   |unsupported (.noEntry "extern/(internal/reflectlite.Value).Set.zeroValue")
  if YJ / ReflectliteValue.flagAddr % 2==0 then unsupported (.noEntry "extern/(internal/reflectlite.Value).Set.unaddressable")
  let val<-loadVar src i
  if<-Rtype.directlyAssignable s src then storeVar s a val
  else if<-Rtype.implements s src then
   if(<-Rtype.kind src)==20 then
    match val with
    |.nilIface=>unsupported (.noEntry "extern/reflectlite: a nil value of one interface type handed on as a value of another")
    |_=>storeVar s a val
   else storeVar s a (.iface src val)
  else panicString ("reflectlite.Set: value of type "++(<-Rtype.spelt src)++ " is not assignable to type "++(<-Rtype.spelt s))
  pure (.tuple #[])):=rfl
def DW(b)(p):(ReflectliteValue.parts (.agg #[aY dO,.pointer (f b),.int .u64 406])).run T p=.ok (f (dO,b,406)) p/\∀a,(ReflectliteValue.parts (.agg #[aY dO,.pointer (f b),.int .u64 406])).events T p a=a:=⟨by kernel_rfl,λa=>by kernel_rfl⟩
def DX(C)(p):(ReflectliteValue.parts (kt dO C 150)).run T p=.ok (f (dO,⟨C,0,n⟩,150)) p/\∀a,(ReflectliteValue.parts (kt dO C 150)).events T p a=a:=⟨by kernel_rfl,λa=>by kernel_rfl⟩
def LO(p):(Rtype.directlyAssignable dO dO).run T p=.ok l p/\∀a,(Rtype.directlyAssignable dO dO).events T p a=a:=⟨by kernel_rfl,λa=>by kernel_rfl⟩
def LR(p):(sizeOf dO).run T p=.ok 1 p/\∀a,(sizeOf dO).events T p a=a:=⟨by kernel_rfl,λa=>by kernel_rfl⟩
def abg(C i)(W)(e)(d)(p)(q:p.heap[C]?=f (.cells #[e] W (0,0)))(o:p.cell? ⟨i,0,n⟩=f (.pointer (f d))):
  (ReflectliteValue.set #[.agg #[aY dO,.pointer (f ⟨C,0,n⟩),.int .u64 406],kt dO i 150]).run T p=.ok (.tuple #[]) (p.setRow C #[.pointer (f d)]) /\
  ∀b,∀g∈(ReflectliteValue.set #[.agg #[aY dO,.pointer (f ⟨C,0,n⟩),.int .u64 406],kt dO i 150]).events T p b,g∈b∨g=⟨.cell ⟨i,0,n⟩,v,v⟩∨g=⟨.cell ⟨C,0,n⟩,l,v⟩:=by
 have m:=Tryz.underlying180;have j:∀p∈[Value.pointer (f d)],p.oneCell'=l:=λp u=>by simp at u;exact bE
 have t:=run_storeCells_at T C 0 W [.pointer (f d)] 0 #[e] p q D j;have h:(storeCells ⟨C,0,n⟩ [.pointer (f d)] 0).run T p=.ok () (p.setRow C #[.pointer (f d)]):=t;rw[abq];constructor
 .simp only[cJ,(DW ⟨C,0,n⟩ p).1,(DX i p).1,c8];simp[ReflectliteValue.flagAddr,loadVar,isAgg,underlying,m,o,LO,storeVar,Value.cells,LR,h]
 intro b g k;simp only[aD,cJ,(DW ⟨C,0,n⟩ p).1,(DW ⟨C,0,n⟩ p).2,(DX i p).1,(DX i p).2,c8,aF]at k;have r:g∈(storeCells ⟨C,0,n⟩ [.pointer (f d)] 0).events T p (b.push ⟨.cell ⟨i,0,n⟩,v,v⟩):=by simpa[ReflectliteValue.flagAddr,loadVar,isAgg,underlying,m,o,LO,storeVar,Value.cells,LR,h,show(Mode.plain==Mode.atomic)=v from a]using k
 rcases nj [.pointer (f d)] 0 #[e] p _ q D j g r with w|⟨s,y,x,rfl⟩
 .grind
 obtain rfl:s=0:=M;exact .inr (.inr a)
end
section
open Go.Proofs Go.Extern
variable {q:af T}
abbrev Al:aq:=.K (ed 0 224 (mK 177))
abbrev n9(a:Y):y:=ax (.val a)
abbrev xW(d:al)(b:Nat)(a:Int):y:=.n (.agg [.c (.val (aY d)),.c (.val (.pointer (f ⟨b,0,n⟩))),.c (.val (.int .u64 a))])
abbrev Gz(d:Addr)(a b:Nat):m aq:=[.K (ed b gf (.pointer (f ⟨a,0,n⟩))),.K (ed a dO (.pointer n))]
def JE:∀a,a<2->([0,1]:m Nat)[a]?=f a:=ca
def TY(b)(C i):X q 181 [n9 (.iface dO (.pointer (f b))),n9 (.iface gf (.pointer (f ⟨C,0,n⟩))),xW gf i 150,n9 (mK dO)] (Gz b C i) (bf l) [.K (ed i gf (.pointer (f ⟨C,0,n⟩))),.K (ed C dO (.pointer (f b)))]:=by refine X.J Tryz.func181 rfl λm=>?_;refine aW a B ?_;refine g.dF 3 [0,1,3,6] (λ_:Unit=>True) (λ_=>[]) (λ_=>Gz b C i++[.cells 221 [.c (.val (aY gf)),.c (.val (.pointer (f ⟨i,0,n⟩))),.c (.val (.int .u64 150))]]) (λ_=>0) () a D a D a B λ_ _=>?_;refine aW a B ?_;refine g.c0 a a (eg.ee (hZ.ed a a) aeD (abi _) (TE _) (F:=n9 (mK dO)) λ_=>Rd.val a) λ_=>?_;refine aW a B ?_;refine g.c0 a a (eg.ee (hZ.invoke a a a (ZT _)) aeo aa' Tx (F:=bf l) λ_=>Rd.bool) λ_=>?_;refine a5 [19] a D ?_;refine g.c0 a a (eg.g2 0 (bz:=.pointer (f ⟨C,0,n⟩)) a (hZ.ed a a) aeu (λe h=>abb i ⟨C,0,n⟩ e h) (F:=xW dO C 406) λ_=>⟨_,a,Rd.val a,Rd.val a,Rd.val a,B⟩) λ_=>?_;refine aW a B ?_;refine g.c0 a a (eg.g1 (W:=dO) (bz:=.pointer (f b)) (aa:=λd=>kt dO d 150) (F:=λd=>xW dO d 150) (hZ.ed a a) NF (abj b) (TF b) λd _ _=>⟨_,a,Rd.val a,Rd.val a,Rd.val a,B⟩) λd=>?_;refine aW a B ?_;refine g.c0 a a (eg.iK 1 3 (EO:=.pointer n) (bz:=.pointer (f b)) a a (hZ.ed a a) aeB (λe k j=>abg C d dO _ b e k j) (F:=.S []) λ_ _=>⟨[],a,B⟩) λ_=>?_;refine aW a B (g.aT (bY.mk [0,1] a ?_ a a a JE));simp
def Nt{ac}{e g:ae}(t:r.op=.binOp op o e g ty){s}{cx}(j:P.underlying o=f (.interface cx))(z:η e=ax (.val (.iface ac aa)))(y:η g=ax .bD)(x:∀p,(eqGuard op o e g (.iface ac aa) .nilIface).run P p=.ok () p)(aj:∀p a,(eqGuard op o e g (.iface ac aa) .nilIface).events P p a=a)(d:h9 op v=f s):a1 P r η k (ax (.bool s)) k:=by
 refine .aR λb u D w=>?_;have q:=w e;have m:=w g;rw[z]at q;rw[y]at m;replace q:=b7 q;replace m:=b7 m;generalize i:u e=A at q;generalize O:u g=B at m;cases q;cases m;have h:(Op.equal o (.iface ac aa) .nilIface).run P b.a=.ok v b.a:=QE;have C:∀a,(Op.equal o (.iface ac aa) .nilIface).events P b.a a=a:=λa=>by show(aL (9999+1) o _ _).events P b.a a=a;unfold aL;simp[underlying,j]
 cases op<;>simp only[h9,reduceCtorEq,e3]at d
 .exact QI
 exact Qb
def TX(e)(C):X q 136 [n9 (.iface dO (.pointer (f e))),n9 (.iface gf (.pointer (f ⟨C,0,n⟩)))] [Al,.K (ed C dO (.pointer n))] (bf l) [Al,.K (ed C dO (.pointer (f e)))]:=by refine X.J Tryz.func136 rfl λj=>?_;refine aW a B ?_;refine g.aK (Nt a Tryz.underlying177 a a bn (λ_ _=>rfl) a) a a ?_;refine a5 [-9] a D ?_;refine g.aK (Nt a Tryz.underlying20 a a bn (λ_ _=>rfl) a) a a ?_;refine a5 [-11] a D ?_;refine g.c0 a a (eg.g1 (W:=gf) (bz:=.pointer (f ⟨C,0,n⟩)) (aa:=λd=>kt gf d 150) (F:=λd=>xW gf d 150) (hZ.ed a a) NF (abk _) (TG _) λd _ _=>⟨_,a,Rd.val a,Rd.val a,Rd.val a,B⟩) λb=>?_;refine aW a B ?_;refine g.c0 a a (eg.ee (hZ.ed a a) aeC (abh b) (TD b) (F:=n9 (mK gf)) λ_=>Rd.val a) λ_=>?_;refine aW a B ?_;refine g.c0 a a (eg.ee (hZ.invoke a a a (KC _)) NE abf TC (F:=ax (.int .u8 22)) λ_=>Rd.int lx) λ_=>?_;refine a5 [-20] a D ?_;refine g.c0 a a (eg.g2 2 (bz:=.pointer (f ⟨C,0,n⟩)) a (hZ.ed a a) aew (λi h=>abd b ⟨C,0,n⟩ i h) (F:=bf v) λ_=>Rd.bool) λ_=>?_;refine a5 [-23] a D ?_;refine g.c0 a a (eg.ee (hZ.invoke a a a (ZU _)) aet aba Ty (F:=n9 (mK dO)) λ_=>Rd.val a) λ_=>?_;refine aW a B ?_;refine g.c0 a a (eg.ee (hZ.invoke a a a (KC _)) NE abe TB (F:=ax (.int .u8 22)) λ_=>Rd.int lx) λ_=>?_;refine a5 [30] a D ?_;refine g.Q (aZ.gk bb 0 a a a a a a) a ?_;refine g.c0 a a (eg.ee (hZ.invoke a a a (ZV _)) aev abc TA (F:=bf l) λ_=>Rd.bool) λ_=>?_;refine a5 [-35] a D ?_;refine g.aB (TY e C b) [2,1] a ?_;refine aW a B (g.aH [0,1] a ?_ JE);simp
end
end R1
abbrev zy(a b:bA)(d:Bool):y:=.S [.Q (.c (.T a)),.Q (.c (.T b)),.Q (.c (.bool d))]
namespace R1
variable {q:af T}
def VB(b)(s)(d:0<=s/\s<=255):X q 268 [b1 b,u0 s] [] (Q (Lib.indexByte b (UInt8.ofNat (Int.toNat s)))) []:=by
 have a:s=((UInt8.ofNat s.toNat).toNat:Int):=by grind[UInt8.toNat_ofNat']
 grind[VA]
def Bj:bI:=λargs b=>match args,b with
 |[.n (.Q (.c (.T d))),.n (.Q (.c (.int .u8 a)))],[]=>f (Q (Lib.indexByte d (UInt8.ofNat (Int.toNat a))),[],[0<=a/\a<=255])
 |_,_=>n
def acQ:bK q 268 Bj:=by
 intro args i e g d a b;unfold Bj at a;split at a
 .cases a;exact(VB _ _ (b)).args (λ_ _ h=>h)
 cases a
def H3:m (Nat×bI):=(268,Bj)::Ie
def BW:a_ q H3:=a_.cons acQ (S_)
def iw(a:bA):Int:=Lib.indexByte a 47
theorem Vz(b):X q 208 [b1 b,b1 [47]] [] (Q (iw b)) []:=by
 refine X.J func208 rfl λe=>?_;by_cases d:b=[47]
 .subst d;refine a8 BW [-18,22] a D (g.ao a ?_);exact cS
 refine a8 BW [-18,-22,26] a ?_ (g.ao a ?_)
 .simp[j_,dq];grind
 exact cS
def Bi:bI:=λargs a=>match args,a with
 |[.n (.Q (.c (.T b))),.n (.Q (.c (.T [47])))],[]=>f (Q (iw b),[],[])
 |_,_=>n
def acO:bK q 208 Bi:=by intro args h b d a e g;unfold Bi at e;grind[Vz]
def H4:m (Nat×bI):=(208,Bi)::H3
def BX:a_ q H4:=a_.cons acO (BW)
def jJ(a:bA):bA:=if 0<=iw a then a.take (iw a).toNat else a
def mr(a:bA):bA:=if 0<=iw a then a.drop ((iw a).toNat+1)else[]
def ka(a:bA):Bool:=decide (0<=iw a)
theorem Uz(b):X q 170 [b1 b,b1 [47]] [] (zy (jJ b) (mr b) (ka b)) []:=by
 refine X.J func170 rfl λh=>?_;have i:=h.T 0 a;have e:=yx b 47;change iw b<c b∨iw b=-1 at e;by_cases d:0<=iw b
 .have s:(iw b+1).toNat=(iw b).toNat+1:=w;refine a8 BX [12] a ?_ (g.ao a ?_)
  .simp[d,a7];omega
  simp[jJ,mr,ka,d,mq,s]
 refine a8 BX [-12] a bQ (g.ao a ?_);simp[jJ,mr,ka,d]
def Bh:bI:=λargs b=>match args,b with
 |[.n (.Q (.c (.T a))),.n (.Q (.c (.T [47])))],[]=>f (zy (jJ a) (mr a) (ka a),[],[])
 |_,_=>n
def acN:bK q 170 Bh:=by intro args h b d a e g;unfold Bh at e;grind[Uz]
def H5:m (Nat×bI):=(170,Bh)::H4
def HW:a_ q H5:=a_.cons acN (BX)
theorem Uy(b):X q 130 [b1 b,b1 [47]] [] (zy (jJ b) (mr b) (ka b)) []:=by refine X.J func130 rfl λd=>?_;exact b8 HW a B (g.ao a)
def Bc:bI:=λargs b=>match args,b with
 |[.n (.Q (.c (.T a))),.n (.Q (.c (.T [47])))],[]=>f (zy (jJ a) (mr a) (ka a),[],[])
 |_,_=>n
def acI:bK q 130 Bc:=by intro args h b d a e g;unfold Bc at e;grind[Uy]
def jL(a:bA):Bool:=decide (c a=1)&&decide (97<=dq a 0)&&decide (dq a 0<=101)
theorem U0(b):X q 131 [b1 b] [] (bf (jL b)) []:=by
 refine X.J func131 rfl λe=>?_;by_cases d:c b=1
 .by_cases i:97<=dq b 0
  .refine a5 [5,9] a hy (g.ao a ?_);show decide (dq b 0<=101)=jL b;simp[jL,d,i]
  refine a5 [5,-9] a cS (g.ao a ?_);simp[jL,i]
 refine a5 [-5] a bQ (g.ao a ?_);simp[jL,d]
def Bd:bI:=λargs a=>match args,a with
 |[.n (.Q (.c (.T b)))],[]=>f (bf (jL b),[],[])
 |_,_=>n
def acJ:bK q 131 Bd:=by intro args h b d a e g;unfold Bd at e;grind[U0]
def H6:m (Nat×bI):=(130,Bc)::(131,Bd)::H5
def xG:a_ q H6:=a_.cons acI (a_.cons acJ (HW))
def jR(a:bA):Bool:=jL (jJ a)&&(!ka a||jL (mr a))
theorem W'(b):X q 90 [b1 b] [] (bf (jR b)) []:=by
 refine X.J func90 rfl λe=>?_;cases x:jL (jJ b)with
 |false=>
  refine a8 xG [-13] a oN (g.ao a ?_);simp[jR,x]
 |true=>
  cases d:ka b with
  |false=>
   refine a8 xG [13,-15] a ds (g.ao a ?_);simp[jR,x,d]
  |true=>
   refine a8 xG [13,15] a ds (g.ao a ?_);simp[jR,x,d]
def Bt:bI:=λargs a=>match args,a with
 |[.n (.Q (.c (.T b)))],[]=>f (bf (jR b),[],[])
 |_,_=>n
def t90:bK q 90 Bt:=by intro args h b d a e g;unfold Bt at e;grind[W']
theorem V'(b):X q 132 [b1 b] [] (bf (dV b)) []:=by
 refine X.J func132 rfl λe=>?_;have m:=e.T 0 a;refine aW a B (g.b6 (λd=>d<=c b/\∀u,u<d->jp (b.getD u 0)=l) (λd:Nat=>[(0,b1 b),(5,Q (c b)),(6,Q d)]) (λ_=>[]) (λd=>c b-d) 0 a D a B ⟨by omega,by omega⟩ ?_);rintro d ⟨h,s⟩;by_cases t:d<c b
 .generalize x:b.getD d 0=i;by_cases k:i.toNat<97
  .refine a5 [7,12] a ?_ (g.bQ (bY.zero a ?_))
   .simp only[U,xo,bw,x];omega
   exact zW
  by_cases j:i.toNat>122
  .refine a5 [7,-12,17] a Ox (g.bQ (bY.zero a ?_));exact zW
  refine a5 [7,-12,-17] a Qt (g.b1 (d+1) a D a B ?_ ?_)
  .refine⟨by omega,λu O=>?_⟩;rcases wR.1 O with O|rfl
   .grind
   rw[x];simp only[jp,ck,bw];omega
  omega
 exact OP
def Be:bI:=λargs a=>match args,a with
 |[.n (.Q (.c (.T b)))],[]=>f (bf (dV b),[],[])
 |_,_=>n
def acK:bK q 132 Be:=by intro args h b d a e g;unfold Be at e;grind[V']
def H7:m (Nat×bI):=(90,Bt)::(132,Be)::H6
def BY:a_ q H7:=a_.cons t90 (a_.cons acK (xG))
theorem Jp(b):X q 91 [b1 b] [] (bf (fL b)) []:=by
 refine X.J func91 rfl λe=>?_;by_cases d:c b<=40
 .refine a8 BY [5] a bQ (g.ao a ?_);simp[fL,d]
 refine a8 BY [-5] a bQ (g.ao a ?_);simp[fL,d]
def Bu:bI:=λargs a=>match args,a with
 |[.n (.Q (.c (.T b)))],[]=>f (bf (fL b),[],[])
 |_,_=>n
def acX:bK q 91 Bu:=by intro args h b d a e g;unfold Bu at e;grind[Jp]
def og(b a:bA):Bool:=decide (c a<=c b)&&(b.take (c a)==a)
theorem Vb(b d):X q 134 [b1 b,b1 d] [] (bf (og b d)) []:=by
 refine X.J func134 rfl λe=>?_;by_cases x:c d<=c b
 .refine a5 [9] a oN (g.ao a ?_);simp[og,x,mq]
 refine a5 [-9] a bQ (g.ao a ?_);simp[og,x]
def Bg:bI:=λargs a=>match args,a with
 |[.n (.Q (.c (.T b))),.n (.Q (.c (.T d)))],[]=>f (bf (og b d),[],[])
 |_,_=>n
def acM:bK q 134 Bg:=by intro args h b d a e g;unfold Bg at e;grind[Vb]
def H8:m (Nat×bI):=(91,Bu)::(134,Bg)::H7
def HX:a_ q H8:=a_.cons acX (a_.cons acM (BY))
theorem Va(b d):X q 94 [b1 b,b1 d] [] (bf (og b d)) []:=by refine X.J func94 rfl λe=>?_;exact b8 HX a B (g.ao a)
def Bx:bI:=λargs a=>match args,a with
 |[.n (.Q (.c (.T b))),.n (.Q (.c (.T d)))],[]=>f (bf (og b d),[],[])
 |_,_=>n
def t94:bK q 94 Bx:=by intro args h b d a e g;unfold Bx at e;grind[Va]
def H9:m (Nat×bI):=(94,Bx)::H8
def HY:a_ q H9:=a_.cons t94 (HX)
end R1
def c0.ju(a:c0 α)(d)(h j)(k:h+j<=c d):a.ad j (fA h (a.fn d))=(d.drop h).take j:=by
 apply pZ
 .simp[c0.ad];omega
 intro b e g;have i:b<j:=M;simp[c0.ad,fA,c0.fn,gF,ak,bH (by omega:h+b<c d),a.inv]
def c0.iR(a:c0 α)(d){h}:a.bK j (fA h (a.fn d)):=λb _=>by simp[fA,c0.fn,gF,a.inv]
abbrev Tl(a b:bA):y:=ax (.R [.T a,.T b])
namespace R1
variable {q:af T}
def under(a b:bA):Bool:=og a (b++[47])
def Yi(b)(d e)(i:c b.1<=4000000):X q 93 [xT b,Tl d e] [] (bf (under d b.1)) []:=by refine X.J func93 rfl λh=>?_;refine b8 HY a bQ (g.ao a ?_);exact cS
def Bw:bI:=λargs e=>match args,e with
 |[.n (.agg [.c (.T a),.c (.T b)]),.n (.Q (.c (.R [.T g,.T d])))],[]=>f (bf (under g a),[],[c a<=4000000/\b=b/\d=d])
 |_,_=>n
def t93:bK q 93 Bw:=by
 intro args m e g d a b;unfold Bw at a;split at a
 .rename_i i h j k;cases a;exact Yi (i,h) j k b.1
 grind
def H_:m (Nat×bI):=(93,Bw)::H9
def sF:a_ q H_:=a_.cons t93 (HY)
abbrev B7(a b:bA):y:=ax (.fn (.func 93) [] [.R [.T a,.T b]])
def mB(e:m cM)(d:bA):Int:=match e.findIdx? (λa=>under d a.1)with|some b=>b|none=>-1
def Zm{o}{a}(g:e<c o)(i:under a (cu o e)=l)(h:∀b,b<e->under a (cu o b)=v):mB o a=e:=by
 have:o.findIdx? (λd=>under a d.1)=f e:=by grind[List.findIdx?_eq_some_iff_getElem,o_]
 rw[mB,this]
theorem Kb{o}{a}(e:∀b,b<c o->under a (cu o b)=v):mB o a=-1:=by
 have:o.findIdx? (λd=>under a d.1)=n:=by grind[List.getElem_of_mem,o_]
 rw[mB,this]
def Vw(o)(e k)(p:∀d,d<c o->c (cu o d)<=4000000):X q 133 [bu.B o,B7 e k] [] (Q (mB o e)) []:=by
 refine X.J func133 rfl λm=>?_;have s:=m.B 0 a;refine b8 sF a B (g.b6 (λb=>b<=c o/\∀d,d<b->under e (cu o d)=v) (λb:Nat=>[(0,bu.B o),(1,B7 e k),(7,Q (c o)),(8,Q b)]) (λ_=>[]) (λb=>c o-b) 0 a D a B ⟨by omega,by omega⟩ ?_);rintro b ⟨r,j⟩;by_cases h:b<c o
 .have t:=p b h;cases i:under e (cu o b)with
  |true=>
   refine a8 sF [9,16] a ?_ (g.bQ (bY.zero a ?_))
   .simp[-ak,h,ko,i];omega
   simp[Zm h i j]
  |false=>
   refine a8 sF [9,-16] a ?_ (g.b1 (b+1) a ?_ a B ?_ ?_)
   .simp[-ak,h,ko,i,a7];omega
   .simp
   .grind
   omega
 refine a8 sF [-9] a bQ (g.bs a a ?_);refine b8 sF a B (g.ao a ?_);simp[Kb (λd u=>j d w)]
def zl(b:m cM):Prop:=∀a,a<c b->c (cu b a)<=4000000
def Bf:bI:=λargs e=>match args,e with
 |[g,.n (.Q (.c (.fn (.func 93) [] [.R [.T h,.T d]])))],[]=>match js 2 g with
  |none=>n
  |some (b,a)=>f (Q (mB (bu.ad b a) h),[],[bu.bK b a,zl (bu.ad b a),d=d])
 |_,_=>n
def acL:bK q 133 Bf:=by
 intro args o h i g a b;unfold Bf at a;split at a
 .rename_i p k m;split at a
  .cases a
  rename_i r j d;cases a;exact(Vw _ k m b.2.1).args (λ_ z=>b4.imp (λ_=>bu.cv d b.1) (b4.imp (λ_ e=>e) (λ_ e=>e)) z)
 grind
def H':m (Nat×bI):=(133,Bf)::H_
def HZ:a_ q H':=a_.cons acL (sF)
def TV(o)(b e)(d:zl o):X q 92 [bu.B o,B7 b e] [] (bf (decide (0<=mB o b))) []:=by
 refine X.J func92 rfl λh=>?_;refine b8 HZ a ?_ (g.ao a ?_)
 .simp[bu.U,bu.l,d]
 simp[bu.l]
def Bv:bI:=λargs e=>match args,e with
 |[g,.n (.Q (.c (.fn (.func 93) [] [.R [.T h,.T d]])))],[]=>match js 2 g with
  |none=>n
  |some (b,a)=>f (bf (decide (0<=mB (bu.ad b a) h)),[],[bu.bK b a,zl (bu.ad b a),d=d])
 |_,_=>n
def acY:bK q 92 Bv:=by
 intro args o h i g a b;unfold Bv at a;split at a
 .rename_i p k m;split at a
  .cases a
  rename_i r j d;cases a;exact(TV _ k m b.2.1).args (λ_ z=>b4.imp (λ_=>bu.cv d b.1) (b4.imp (λ_ e=>e) (λ_ e=>e)) z)
 grind
def Tc:m (Nat×bI):=(92,Bv)::H'
def n8:a_ q Tc:=a_.cons acY (HZ)
def mR(b:m cM)(a:Nat):Bool:=
 jR (cu b a)&&fL (lr b a)&&(a==0||!(aR (cu b a) (cu b (a-1))||cu b a==cu b (a-1)))&&(aB a).all λd=>!under (cu b a) (cu b d)
def qP(a:m cM):Bool:=(aB (c a)).all (mR a)&&decide (c a<=6)
def zC{o}(b:e<c o)(d:mR o e=v):qP o=v:=by
 cases a:qP o with
 |false=>rfl
 |true=>
  simp[qP,ck]at a;grind
theorem Lj{b}(g:jR b=l):c b<=3:=by
 simp[jR,jL,ck,jD,bw,jc]at g;obtain⟨⟨⟨e,_⟩,_⟩,a⟩:=g;have h:=yx b 47;change iw b<c b∨iw b=-1 at h;by_cases d:0<=iw b
 .simp only[jJ,d,dv,List.length_take]at e;rcases a with a|a
  .simp[ka,d]at a
  have:=a.1.1;simp[mr,d,dv,sj]at this;omega
 simp[jJ,d,dm]at e;omega
def Zn{o}{S}(k:e<=c o):decide (0<=mB (o.take e) S)=!(aB e).all λa=>!under S (cu o a):=by
 have m:∀a,a<e->cu (o.take e) a=cu o a:=by intro a d;simp[cu,ak,d]
 cases q:(aB e).all λa=>!under S (cu o a)with
 |true=>
  grind[Kb]
 |false=>
  have i:∃a,a<e/\under S (cu o a)=l:=M;have:∃g:Nat,mB (o.take e) S=g:=by
   unfold mB;cases b:(o.take e).findIdx? (λj=>under S j.1)with
   |some g=>grind
   |none=>
    obtain⟨a,d,p⟩:=i;rw[AF]at b;have h:a<c (o.take e):=M;have:=b _ (wY h);grind[o_]
  grind
def Jr(o):X q 54 [bu.B o] [] (bf (qP o)) []:=by
 refine X.J func54 rfl λA=>?_;have E:=A.B 0 a;refine b8 n8 a B (g.aC 0 (λe=>e<=c o/\∀b,b<e->mR o b=l) (λe:Nat=>[(0,bu.B o),(5,bu.B o),(6,Q (c o)),(7,Q e)]) (λ_=>[]) (λe=>c o-e) 0 a D a B a ⟨by omega,by omega⟩ ?_);rintro e ⟨k,u⟩;by_cases h:e<c o
 .cases O:jR (cu o e)with
  |false=>
   refine be n8 [8,-14] a ?_ (g.aT (bY.zero a ?_))
   .simp[-ak,h,ko,O]
   simp[U,zC h (by simp[mR,O])]
  |true=>
   cases aj:fL (lr o e)with
   |false=>
    refine be n8 [8,14,-19] a ?_ (g.aT (bY.zero a ?_))
    .simp[-ak,h,ko,tL,O,aj]
    simp[U,zC h (by simp[mR,aj])]
   |true=>
    have I:zl (o.take e):=by
     intro b C;simp[List.length_take]at C;have t:cu (o.take e) b=cu o b:=by simp[cu,ak,(by omega:b<e)]
     rw[t];have:=u b w;simp[mR,ck]at this;grind[Lj]
    have F:bu.ad ((e:Int).toNat-0) (fA 0 (bu.fn o))=o.take e:=by rw[bu.ju o 0 _ M];simp
    cases p:(e==0||!(aR (cu o e) (cu o (e-1))||cu o e==cu o (e-1)))with
    |false=>
     have j:mR o e=v:=by simp only[mR,p];simp
     have z:e≠0:=M;have r:(aR (cu o e) (cu o (e-1))||cu o e==cu o (e-1))=l:=M;have i:a7 .i64 ((e:Int)-1):=cS;have d:((e:Int)-1).toNat=e-1:=w;refine be n8 [8,14,19,24,34] a O' (g.aT (bY.zero a ?_));simp[zC h j]
    |true=>
     have j:mR o e=(aB e).all λb=>!under (cu o e) (cu o b):=by simp only[mR,p,O,aj];simp
     apply g.cg [(0,bu.B o),(3,Q e),(5,bu.B o),(6,Q (c o)),(7,Q e),(4,aI 0 0)] [.cells 45 [.c (.T (cu o e)),.c (.T (lr o e))]]
     .intro bX;by_cases z:e=0
      .refine be n8 [8,14,19,-24,906] a ?_ (bX _ _ a ?_)
       .simp only[U,ko,tL,cY,O,aj,bw,dp];grind
       simp
      have r:(aR (cu o e) (cu o (e-1))||cu o e==cu o (e-1))=v:=M;have i:a7 .i64 ((e:Int)-1):=cS;have d:((e:Int)-1).toNat=e-1:=w;refine be n8 [8,14,19,24,-34,906] a O' (bX _ _ a ?_);simp
     refine g.freeze 4 0 a a a ?_;have m:=Zn (o:=o) (S:=cu o e) (e:=e) k;have x:bu.bK ((e:Int).toNat-0) (fA 0 (bu.fn o)):=bu.iR o;cases s:(aB e).all λb=>!under (cu o e) (cu o b)with
     |false=>
      rw[s]at m j;refine be n8 [41] a ?_ (g.aT (bY.zero a ?_))
      .simp only[U,bV];grind
      simp[zC h j]
     |true=>
      rw[s]at m j;refine be n8 [-41] a ?_ (g.av (e+1) a ?_ ?_ ?_ ?_)
      .simp only[U,bV];have y:decide (0<=mB (bu.ad ((e:Int).toNat-0) (fA 0 (bu.fn o))) (cu o e))=v:=M;exact⟨by exact cS,x,by grind,B,y,by omega,by omega⟩
      .simp
      .trivial
      .grind
      omega
 have:e=c o:=w;subst this;refine a8 n8 [-8] a D (g.az ?_);refine b8 n8 a B (g.ao a ?_);simp only[U,qP];grind
def rm:bI:=λargs d=>match args,d with
 |[e],[]=>match js 2 e with
  |none=>n
  |some (a,b)=>f (bf (qP (bu.ad a b)),[],[bu.bK a b])
 |_,_=>n
def t54:bK q 54 rm:=by
 intro args j e g d a b;unfold rm at a;split at a
 .split at a
  .cases a
  rename_i k m h;cases a;exact(Jr _ ).args (λ_ z=>b4.imp (λ_=>bu.cv h b) (λ_ i=>i) z)
 grind
end R1
def b4.ak{k ap}{b}(g:∀h(e:y),bx k b h e->bx ap b h e):∀{z:m Y}{d:m y},b4 k b z d->b4 ap b z d
 |[],[],_=>trivial
 |[],_::_,a=>a.elim
 |_::_,[],a=>a.elim
 |_::_,_::_,a=>⟨g _ _ a.1,b4.ak g a.2⟩
def X.eF{q:af P}{r}{args a}{d}{res}(s:X q r args k res ap)(C:∀b z,b4 k b z a->b4 k b z args)(A:jo d k=f Z)(B:U Z):X q r a d res ap:=
 ⟨s.1,λb z o e t g m=>by obtain⟨i,j,D⟩:=jN A B b e;exact s.2 b z (C b z (o.ak D)) i t g λh E p u w x y=>m h E p u w x ((j.tooV e).trans y)⟩
def aZ.ey{i:af P}{j}(s:dX (ι:=Unit) i E all r I k (λ_=>j) (λ_=>ap)):aZ i E all r I k j ap:=
 λw o q g p u b m t a e h d=>s w o q g p u b m t a e h λ_=>d
namespace R1
variable {q:af T}
abbrev jt(a:m (Int×Int)):aq:=.x 253 2 (c a) (a3.fn a)
abbrev mQ(a:m (Int×Int)):y:=.n (.Q (.x 0 2 (c a) (a3.fn a)))
def KB(L:m (Int×Int))(a b d:aq)(e g h _:Bool):m aq:=match h with
 |true=>[d]
 |false=>match g with
  |true=>[b]
  |false=>match e with
   |true=>[a]
   |false=>[jt L]
def Cl:∀p(d:m (Int×Int)),c d+c p.ad<=4000000->X q 217 [ax (eN p),mQ d] [jt d] (mQ (d++p.ad)) [jt (d++p.ad)]
 |.nil,d,_=>by refine X.J func217 rfl λE=>?_;refine aW a B (g.aK (rP a underlying269 a a a) a a ?_);refine aW a B ?_;rw[show d++dF.nil.ad=d from h1 d];exact g.aH [0] a ⟨a,bs.same⟩ sQ
 |.ay lt e h b,d,A=>by
  have I:(dF.ay lt e h b).ad=lt.ad++(e,h)::b.ad:=rfl;have K:c d+c lt.ad+(c b.ad+1)<=4000000:=M;have u:=Cl lt d w;have t:=Cl b (d++lt.ad++[(e,h)]) M;have O:=a3.aX (d++lt.ad) (e,h);have d8:X q 217 [ax (eN b),.n (.Q (.x 0 2 (c (d++lt.ad)+1) (cg (c (d++lt.ad)) (a3.fn (d++lt.ad)) λj=>([[.int .i64 e,.int .i64 h]]:m (m N)).getD j [])))] [.x 253 2 (c (d++lt.ad)+1) (cg (c (d++lt.ad)) (a3.fn (d++lt.ad)) λj=>([[.int .i64 e,.int .i64 h]]:m (m N)).getD j [])] (mQ (d++(dF.ay lt e h b).ad)) [jt (d++(dF.ay lt e h b).ad)]:=by
   rw[I,show d++(lt.ad++(e,h)::b.ad)=d++lt.ad++[(e,h)]++b.ad by simp];refine t.eF (λR z Q=>?_) a (U.X.2 ⟨⟨by grind,O⟩,B⟩)
   match z,Q with
   |[_,_],⟨J,C,F⟩=>exact⟨J,pj rfl (show U [_,_]from⟨by grind,O⟩) C,F⟩
  have nu:(c (d++lt.ad)+1)*pc.bytes<=140737488355328:=by rw[show pc.bytes=16 from a,dk];omega
  clear t O K A;generalize d++(dF.ay lt e h b).ad=o at *;generalize d++lt.ad=k at *;have x:a_ q []:=a_.nil;refine X.J func217 rfl λE=>?_;refine aW a B (g.aK (tq a underlying269 a a a) a a ?_);refine a5 [903] a B ?_;let r:Nat->y:=λj=>([ax (eN (.ay lt e h b)),ax (eN (.ay lt e h b)),ax (.R [eN b]),ax (eN b),ax (eN (.ay lt e h b)),ax (eN (.ay lt e h b)),ax (.R [eN lt,eN b]),ax (eN lt),mQ d,mQ k,ax (eN (.ay lt e h b)),ax (eN (.ay lt e h b)),ax (eN (.ay lt e h b)),o6 e h,ax (.B l 2 1 λj=>([[.int .i64 e,.int .i64 h]]:m (m N)).getD j []),.n (.Q (.x 0 2 (c k+1) (cg (c k) (a3.fn k) λj=>([[.int .i64 e,.int .i64 h]]:m (m N)).getD j []))),mQ o,mQ o]:m y).getD j .any
  cases lt<;>cases b<;>(
   refine g.cc b6 r (mw (KB d (jt k) (.x 253 2 (c k+1) (cg (c k) (a3.fn k) λj=>([[.int .i64 e,.int .i64 h]]:m (m N)).getD j [])) (jt o)) 9 15 16 17) a a a a ⟨
   .aW,
   .aW,
   .aW,
   .aW,
   .aW,
   .aW,
   .aW,
   .aW,
   .aW,
   cc.d_ a a a a a a (aZ.ey (dX.cb u.tocH [0] a a a a D a a a bn a bn)),
   .aW,
   .aW,
   .aW,
   .aW,
   .aW,
   cc.eR a a a a a a (ee (bh:=[]) bb x (ap:=f _) a ⟨rfl,rfl,nu⟩),
   cc.eS a a a a a a (aZ.ey (dX.cb d8.tocH [0] a a a a D a a a bn a bn)),
   cc.eV a a a a a a (aZ.w),B⟩ ?_
   intro y i;show g q _ _ _ _ _ (KB d (jt k) _ (jt o) (y 9) (y 15) (y 16) (y 17));rw[i 9 ca,i 15 ca,i 16 ca,i 17 ca]
   exact g.aH [0] a ⟨a,bs.same⟩ sQ)
abbrev KX:y:=ax (.B l 2 0 λ_=>[])
def KA(a b d:aq)(e g h _:Bool):m aq:=match h with
 |true=>[d]
 |false=>match g with
  |true=>[b]
  |false=>match e with
   |true=>[a]
   |false=>[]
def I6:∀(o:dF),c o.ad<=4000000->X q 217 [ax (eN o),KX] [] (mQ o.ad) [jt o.ad]
 |.nil,_=>by refine X.J func217 rfl λE=>?_;refine aW a B (g.aK (rP a underlying269 a a a) a a ?_);refine aW a B (g.bG 4 253 2 a a ?_);refine g.bb [jt []] a D ?_;exact g.aH [0] a nN (CO _)
 |.ay lt d e b,u=>by
  have r:(dF.ay lt d e b).ad=lt.ad++(d,e)::b.ad:=rfl;have J:c lt.ad+(c b.ad+1)<=4000000:=M;have A:=I6 lt w;have t:=Cl (q:=q) b (lt.ad++[(d,e)]) M;have O:=a3.aX lt.ad (d,e);have d8:X q 217 [ax (eN b),.n (.Q (.x 0 2 (c lt.ad+1) (cg (c lt.ad) (a3.fn lt.ad) λh=>([[.int .i64 d,.int .i64 e]]:m (m N)).getD h [])))] [.x 253 2 (c lt.ad+1) (cg (c lt.ad) (a3.fn lt.ad) λh=>([[.int .i64 d,.int .i64 e]]:m (m N)).getD h [])] (mQ (dF.ay lt d e b).ad) [jt (dF.ay lt d e b).ad]:=by
   rw[r,show lt.ad++(d,e)::b.ad=lt.ad++[(d,e)]++b.ad by simp];refine t.eF (λQ z K=>?_) a (U.X.2 ⟨⟨by simp,O⟩,B⟩)
   match z,K with
   |[_,_],⟨I,C,F⟩=>exact⟨I,pj rfl (show U [_,_]from⟨by simp,O⟩) C,F⟩
  have nu:(c lt.ad+1)*pc.bytes<=140737488355328:=by rw[show pc.bytes=16 from a];omega
  clear t O J u;clear r;generalize(dF.ay lt d e b).ad=k at *;generalize lt.ad=j at *;have x:a_ q []:=a_.nil;refine X.J func217 rfl λE=>?_;refine aW a B (g.aK (tq a underlying269 a a a) a a ?_);refine a5 [903] a B ?_;let p:Nat->y:=λh=>([ax (eN (.ay lt d e b)),ax (eN (.ay lt d e b)),ax (.R [eN b]),ax (eN b),ax (eN (.ay lt d e b)),ax (eN (.ay lt d e b)),ax (.R [eN lt,eN b]),ax (eN lt),KX,mQ j,ax (eN (.ay lt d e b)),ax (eN (.ay lt d e b)),ax (eN (.ay lt d e b)),o6 d e,ax (.B l 2 1 λh=>([[.int .i64 d,.int .i64 e]]:m (m N)).getD h []),.n (.Q (.x 0 2 (c j+1) (cg (c j) (a3.fn j) λh=>([[.int .i64 d,.int .i64 e]]:m (m N)).getD h []))),mQ k,mQ k]:m y).getD h .any
  cases lt<;>cases b<;>(
   refine g.cc b6 p (mw (KA (jt j) (.x 253 2 (c j+1) (cg (c j) (a3.fn j) λh=>([[.int .i64 d,.int .i64 e]]:m (m N)).getD h [])) (jt k)) 9 15 16 17) a a a a ⟨
   .aW,
   .aW,
   .aW,
   .aW,
   .aW,
   .aW,
   .aW,
   .aW,
   .aW,
   cc.d_ a a a a a a (aZ.ey (dX.cb A.tocH [] a a a a D a a a bn a bn)),
   .aW,
   .aW,
   .aW,
   .aW,
   .aW,
   cc.eR a a a a a a (ee (bh:=[]) bb x (ap:=f _) a ⟨rfl,rfl,nu⟩),
   cc.eS a a a a a a (aZ.ey (dX.cb d8.tocH [0] a a a a D a a a bn a bn)),
   cc.eV a a a a a a (aZ.w),B⟩ ?_
   intro y i;show g q _ _ _ _ _ (KA (jt j) _ (jt k) (y 9) (y 15) (y 16) (y 17));rw[i 9 ca,i 15 ca,i 16 ca,i 17 ca]
   exact g.aH [0] a ⟨a,bs.same⟩ (CO _))
end R1
section
open Go.Conc
def bc.gK(j:bc k b){bS}{L}(aJ:k[d]?=f bS)(B:b.t[d]?=f L)(z:(∃W ah,bS=.cells W ah)∨∃H,bS=.K H):
  bc (k.set d .M) {b with t:=b.t.set d ⟨L.v,[]⟩}/\cN k b (k.set d .M) {b with t:=b.t.set d ⟨L.v,[]⟩}:=by
 have C:d<c k:=(cO.1 aJ).1;have K:d<c b.t:=(cO.1 B).1;have A:∀m,(b.t.set d ⟨L.v,[]⟩)[m]?=if d=m then f ⟨L.v,[]⟩else b.t[m]?:=M;have y:∀g∈b.t.set d ⟨L.v,[]⟩,∀o∈g.ak,g∈b.t:=M;have u:cN k b (k.set d .M) {b with t:=b.t.set d ⟨L.v,[]⟩}:=by
  refine⟨bC _,λ_ _ _=>rfl,λ_ _ _ E=>E,λ_ _ _ _=>rfl,λg e o i=>.inr ⟨g,y g e o i,i⟩,?_,a,a,a,a⟩;intro m q g h e;by_cases t:d=m
  .subst t;rw[aJ]at h;cases h;rw[B]at e;cases e;refine⟨.M,⟨L.v,[]⟩,by grind,by grind,?_⟩;rcases z with⟨W,ah,rfl⟩|⟨H,rfl⟩<;>rfl
  exact⟨q,g,by grind,by grind,.refl _ _⟩
 refine⟨⟨j.mem,by simp[j.len],?_,?_,λg e o i=>j.lt g (y g e o i) o i,λo i=>⟨(j.own o i).1,λg e p=>(j.own o i).2 g (y g e o p) p⟩⟩,u⟩
 .intro m q g h e;by_cases t:d=m
  .subst t;rw[io C]at h;cases h;trivial
  rw[kA t]at h;rw[A,bj t]at e;exact(j.box m q g h e).b_ u.ext j.len λo i=>⟨a,λN=>rfl⟩
 intro I J w x r s o D F;rw[A]at r s;split at r
 .grind
 split at s
 .grind
 exact j.a1 I J w x r s o D F
def bx.eX(g:aA.D=b.D){a}(i:bx k b aa a)(h:hO 0 a=l):bx ap aA aa a:=by have d:=bx.drop (aS:=[]) (bq:=k) i h;refine bx.mono (k:=[]) (b:=b.cut 0) ⟨λm p aa e=>by rw[g];exact e,λo j L aJ _=>by grind⟩ (by simp[a6.cut]) d
end
section
open Go.ChangeShapes Go.WideShapes Go.ChangeAt Go.RowKit
def HL{a:Addr}(e:p.cell? (a.add j)=f aa):p.cell? ⟨a.block,a.off+j,n⟩=f aa/\(j=0->a=⟨a.block,a.off,n⟩):=by obtain⟨d,g,b⟩:=a;cases b<;>simp only[Addr.add,aH]at*<;>grind
section
variable {H:Type}{jl:al×Y->H}{o bz:Nat}{oV:ar}
def abm(E:P.underlying o=f (.slice bz))(D:P.underlying bz=f (.int .u8))(F:P.cellsOf bz=1){i:Option Addr}{d:Nat}{q:DataW H}{x:m MemPlace}(t:DataW.Trod jl P oV 0 (λ_=>l) l o (.slice i A d) q x):
  ∃k:Nat->Int,R1.Bytes k/\A<=9223372036854775807/\bx [] (a6.bw oV) (.slice i A d) (ax (.B v 1 A (R1.qa k))):=by
 obtain⟨J,B⟩:=t;rcases open_ints E D F B with⟨g,_⟩|⟨K,j,s,C,g,_,aa,z,R,_,r,y⟩<;>simp[Value.cells]at g<;>obtain⟨rfl,rfl,rfl⟩:=g
 .exact⟨λ_=>0,λ_=>by simp,by omega,Rd.dJ⟩
 simp only[dv,maxLen]at R z;have p:∀b,0<=C.getD b 0/\C.getD b 0<=255:=λb=>by
  by_cases e:b<c C
  .have:=y _ (wY e);simp[Lit.wf,IntKind.min,IntKind.max,IntKind.signed,IntKind.bits]at this;grind
  grind
 refine⟨λb=>C.getD b 0,p,by omega,Rd.hM aa w (λI=>eD f ((HL (r 0 w)).2 a)) (λ_ _=>rfl) λb e u s h=>?_⟩
 match u,h with
 |0,h=>
  cases h;exact⟨_,by simpa[a6.bw]using(HL (r b w)).1,Rd.int (p b)⟩
abbrev GX(a:Nat×(Nat->Int)):y:=ax (.B v 1 a.1 (R1.qa a.2))
def FZ(a:Nat×(Nat->Int)):Prop:=R1.Bytes a.2/\a.1<=9223372036854775807
def LY{d:m ub}(C:∀g∈d,oV.heap[g.1]?=f (.cells #[g.2.2] g.2.1 (0,0)))(k:∀g∈d,∃T bz,g.2.2=.iface T bz)(q:laidOutB P=l)(I:P.readableRec o=l)(J:o<P.types.size)(A:P.underlying o=f (.slice bz))(F:P.underlying bz=f (.int .u8))(K:P.cellsOf bz=1){V:Reach}{base:Nat}:∀{i:Nat}{z:m Y}{b:m (DataW H)}{r:m MemPlace},
  DataW.TrodAll jl P oV 0 (λ_=>l) l (aU i o) z b r->(∀h j,h<i->z[h]?=f j->Value.okWide P oV V base o j) ->
  ∃p:m (Nat×(Nat->Int)),(c p=i/\c b=i)/\(∀g∈p,FZ g)/\b4 (mz d) (a6.cR d oV) z (p.map GX)/\∀s,Below oV.heap.size oV s->DataW.TrodAll jl P s 0 (λt=>decide (t<oV.heap.size)) l (aU i o) z b r
 |0,z,b,r,e,_=>by obtain⟨rfl,rfl,rfl⟩:=trodAll_nil e;exact⟨[],⟨a,a⟩,by simp,B,λ_ _=>rfl⟩
 |i+1,z,b,r,e,E=>by
  obtain⟨j,z,aa,b,r,ae,rfl,rfl,rfl,⟨u,x⟩,Q⟩:=trodAll_cons e;obtain⟨X,U,D,rfl⟩:=okWide_slice A (E 0 j w rfl);obtain⟨t,M,N,S⟩:=abm A F K ⟨u,x⟩;obtain⟨p,k1,y,O,G⟩:=LY C k q I J A F K Q λh j W e=>E (h+1) j w e;refine⟨(U,t)::p,by simp[k1],by simp only[List.forall_mem_cons];exact⟨⟨M,N⟩,y⟩,⟨Rd.cR C k (λab h Z e=>?_) S,O⟩,λs R=>trodAll_cons_mk (Below.trod q I J ⟨u,x⟩ R (DataW.trod_lt u _ _ _ x)) (G s R)⟩
  match h,e with
  |0,e=>cases e;exact⟨_,_,a⟩
end
noncomputable def ZA(P:aE)(e:m (String×DataW Unit))(d i h:Nat)(os:Os):ar:=
 let a:=World.laidAll P os (e.filter λj=>j.2.handleName?.isNone)
 {a with heap:=a.heap.modify d λ
   |.cells _ b k=>.cells #[.iface i (.agg #[typeHandle P h])] b k
   |g=>g}
def ZC{N:Checked}{I pb gP hB i2 tI tH:Nat}(aj:∀(x w:al×Y) (O:m (Nat×(Nat->Int))),c O=j->(∀g∈O,FZ g)->X (af.aD N.prog) I (O.map GX) (mz [(pb,i2,.iface x.1 x.2),(gP,i2,.iface w.1 w.2),(hB,tI,.iface tH (.agg #[typeHandle N.prog i2]))]) (bf l) (mz [(pb,i2,.iface x.1 x.2),(gP,i2,.iface w.1 w.2),(hB,tI,.iface tH (.agg #[typeHandle N.prog i2]))])){fn:Func}{C T Z:Nat}{b:ChangeSpec}{s:OpenClaim}{os:Os}(ba:os.Started){H:Type}{jl:al×Y->H}(L:N.prog.funcs[I]?=f fn)(aW:fn.params=(aU j C).toArray)(aG:fn.resultTypes=#[Z])(an:ownKnob N.prog.godebug=n)(Q:laidOutB N.prog=l)(aH:N.prog.readableRec C=l)(aJ:C<N.prog.types.size)(ao:N.prog.underlying C=f (.slice T))(aq:N.prog.underlying T=f (.int .u8))(au:N.prog.cellsOf T=1)(aC:N.prog.underlying Z=f .bool)(aE:N.prog.inits.idxOf? I=n)(aK:varsRowed N.prog b.vars=l)(aI:∃aZ a0,b.vars=[aZ,a0])(a6:∀(F:m (DataW H)) (i h:DataW H),c F=j->b.fn H (F++[i,h])={results:=[.lit (.bool l)],args:=F,vars:=[i,h]})(EP:∃(e:ar) (tape:Tape) (u:Input),e.os=os/\(e.forCall tape u).Shaped N.prog/\u.vars=[]/\Input.okWide N.prog (e.forCall tape u) .any e.heap.size I u /\
   ((b.pre jl N.prog fn s.domain v (e.forCall tape u).memory u.args/\laidMetH N.prog s.laid (e.forCall tape u).memory)/\sizedMet jl N.prog fn (OpenSpec.ofChange b) v (e.forCall tape u).memory u.args)/\({}:Assume).holds N.prog (lone (Frame.enter N.prog I u.args .normal) [] (e.forCall tape u))){J_ J' J9:Nat}{aM lm S aP aQ:String}{ai xT z:DataW Unit}{aR:Array (String×al)}{aY:m UInt8}(az:(s.laid.filter λg=>g.2.handleName?.isNone)[J_]?=f (aM,.iface aP ai))(aA:(s.laid.filter λg=>g.2.handleName?.isNone)[J']?=f (lm,.iface aQ xT))(ax:(s.laid.filter λg=>g.2.handleName?.isSome)[J9]?=f (S,z))(U:[aM,lm,S].map N.prog.globalNamed=[f pb,f gP,f hB])(aa:[pb,gP].map (λW=>(N.prog.globals[W]?).map (·.type))=[f i2,f i2])(aT:N.prog.underlying i2=f (.interface aR))(E:[pb,gP,hB].map (λW=>(decide (W<N.prog.globals.size),((begin N.prog (λ_ _=>0) default).world.heap[W]?).bind Obj.row?))=[(l,f (#[.nilIface],i2)),(l,f (#[.nilIface],i2)),(l,f (#[.nilIface],tI))])(ae:z.funcsIn?=n)(ag:z.handleName?=f aY)(ah:(N.prog.cutTypes.find? (·.1== "internal/reflectlite.rtype")).map (·.2)=f tH)(a:((aB N.prog.types.size).filter λC=>N.prog.rowNamed C aY)=[i2])(a8:[pb,gP,hB].Nodup):
  ReturnsInLeavingWide {} N os I .any (λe args=>(b.pre jl N.prog fn s.domain v e args/\laidMetH N.prog s.laid e)/\sizedMet jl N.prog fn (OpenSpec.ofChange b) v e args) (b.post jl N.prog fn v l v v):=by
 refine abo (q:=λe _=>laidMetH N.prog s.laid e) (λ_ _ _ aD t=>t.of_heap aD) an ba L EP λV base args k K J r M o A=>?_;have a5:=M;obtain⟨a1,a2,aV,ab,rfl,_,_⟩:=M;simp only[mf,List.map_nil,List.cons.injEq,a9,lF,bw]at U aa E;obtain⟨x,a3⟩:=Km A o (b_ az) U.1 aa.1 aT E.1.1 E.1.2;obtain⟨w,y⟩:=Km A o (b_ aA) U.2.1 aa.2 aT E.2.1.1 E.2.1.2;have P:∀g∈([(pb,i2,.iface x.1 x.2),(gP,i2,.iface w.1 w.2),(hB,tI,.iface tH (.agg #[typeHandle N.prog i2]))]:m ub),V.heap[g.1]?=f (.cells #[g.2.2] g.2.1 (0,0)):=by simp only[List.forall_mem_cons];exact⟨a3,y,ZB A o (b_ ax) ae ag U.2.2 ah a E.2.2.1 E.2.2.2,by simp⟩
 have a4:∀g∈([(pb,i2,.iface x.1 x.2),(gP,i2,.iface w.1 w.2),(hB,tI,.iface tH (.agg #[typeHandle N.prog i2]))]:m ub),∃a7 T,g.2.2=.iface a7 T:=D;simp only[aW]at aV r;obtain⟨O,k1,aL,aN,aO⟩:=LY P a4 Q aH aJ ao aq au aV λa' aS aF t=>r a' C aS (by simp[aF]) wC;refine bk.iY (aj x w O k1.1 aL).tocH aE a8 P aN λ_ aS B p d F=>?_;have p:Rd B.D aS (.bool l):=p;cases p;have R:Below V.heap.size V (B.a.at F):=⟨d.os,d.tape,d.output,d.size,d.block⟩;obtain⟨aZ,a0,a_⟩:=aI;obtain⟨i,h,rfl⟩:∃i h,K=[i,h]:=by
  rw[a_]at ab
  match K,ab with
  |[i,h],_=>exact⟨i,h,rfl⟩
 have G:=a6 k i h k1.2;have av:=aO _ R;have aw:DataW.TrodAll jl N.prog (B.a.at F) V.heap.size (λ_=>v) v [Z] [.bool l] [.lit (.bool l)] []:=trodAll_mk1 (shut_bool aC _);refine⟨k,[i,h],a1++a2,[],a1,a2,a5,?_,?_,?_,R.frame _,λt=>by cases t⟩
 .rw[show(b.fn H (k++[i,h])).results=_ from eD _ G,aG];exact aw
 .rw[show(b.fn H (k++[i,h])).args=_ from eD _ G,aW];exact av
 rw[show(b.fn H (k++[i,h])).vars=_ from eD _ G];exact Below.trodVars Q R aK ab
end
namespace R1
section
variable {q:af T}
def k8(a:bA):m bA:=if fL a then cm a else[]
def Nn(b:bA)(d:Nat)(a:m bA):Prop:=∃e,iz b (c b) 0=a++iz b e d/\c b<=d+e/\c a<=d
def M4:bK q 91 (dc eE (λa=>bf (fL a)) λ_=>[]):=.a9 λa _=>Jp a
def G7:bI:=λargs a=>match args,a with
 |[.n (.Q (.c (.T b)))],[]=>f (ax (G6 b),[],[])
 |_,_=>n
def ac7:bK q 248 G7:=by intro args h b d a e g;unfold G7 at e;grind[UD]
def UA(o):X q 192 [b1 o] [] (bR.B (k8 o)) []:=by
 refine(bk.e4 (ι:=Unit) (ap:=λ_=>[]) (res:=λ_=>bR.B (k8 o)) func192 rfl rfl rfl λM=>?_).toX;have p:a_ q [(91,dc eE (λJ=>bf (fL J)) λ_=>[])]:=.cons M4 .nil;refine de.seq (b3.bw (g.aO ?_));refine b8 p a B (de.seq (b3.bw (g.aO ?_)));cases O:fL o with
 |false=>
  refine a8 p [8] a pL (g.ret ⟨(),bY.zero a ?_⟩);simp[k8,O]
 |true=>
  have y:=O;simp[fL,ck,bw]at y;refine a8 p [-8] a pL (de.seq (b3.bw (g.aO ?_)));refine b8 p a B (de.seq (de.seq (b3.bw (g.aO (g.cq 1 0 9 1 (bR.fn []) a a ?_)))));refine b8 (.cons ac7 .nil) a B (de.block ?_);refine de.rangeFunc (o3:=e' [.R [.T o]]) (b0.callee a) (UE (ac:=m bA) o y.2 w (λ_=>.cells 9 [.c (.T o)]) (λb=>.cells 69 [.x 2 1 (c b) (bR.fn b)]) (λb=>.x 9 1 (c b) (bR.fn b)) (Nn o) [] ?_ (λo=>⟨by simp,by simp,by simp⟩) ?_) (λj=>⟨a,by simp⟩) λj=>⟨.normal,a,?_⟩
  .exact⟨c o,by simp,by omega,by simp⟩
  .rintro d b s i;have z:=rx o d s;refine iE.intro (u:=n) a a a a (g.aO ?_);refine aW a B ⟨a,a,g.aO ?_⟩;refine aW a ?_ ?_
   .obtain⟨h,_,_,C⟩:=i;have K:=z.1;have t:=z.2.1;refine⟨a,a,?_,Int.natCast_nonneg _,Int.ofNat_le.2 (Nat.le_of_lt K),Int.ofNat_le.2 t⟩;show(c b+1)*16<=_;omega
   have F:Nn o (ep o d) (b++[(o.drop d).take (ep o d-d)]):=by
    obtain⟨h,k,I,C⟩:=i;obtain⟨e,rfl⟩:∃e,h=e+1:=⟨h-1,by omega⟩
    refine⟨e,?_,by omega,by grind⟩;rw[k];simp[iz];grind
   refine⟨a,a,⟨_,F⟩,jN a ?_⟩;have r:mq o (f (d:Int)) (f (ep o d:Int))=(o.drop d).take (ep o d-d):=Oc;have A:bs (c b+1) (cg (c b) (bR.fn b) λj=>[[N.T (mq o (f (d:Int)) (f (ep o d:Int)))]].getD j []) (bR.fn (b++[(o.drop d).take (ep o d-d)])):=by rw[r];exact c0.aX bR b _
   have x:c b+1=c (b++[(o.drop d).take (ep o d-d)]):=D;refine U.X.2 ⟨by simp,U.X.2 ⟨U.X.2 ⟨⟨x,A⟩,B⟩,U.X.2 ⟨⟨x,A⟩,U.X.2 ⟨a,B⟩⟩⟩⟩
  obtain⟨b,h,k,I,C⟩:=j;have E:iz o h (c o)=[]:=by cases h<;>simp[iz]
  rw[E,h1]at k;have r:k8 o=b:=by simp[k8,O,dv,cm,k]
  rw[r];show de q _ _ _ _ _;refine b3.bw (g.aO ?_);refine aW a B (g.ret ⟨(),bY.zero a ?_⟩);simp
def Ex:bK q 192 (dc eE (λa=>bR.B (k8 a)) λ_=>[]):=.a9 λa _=>UA a
def adi:bK q 190 (ei (eK bR) eE (λa _=>b1 a.flatten) λa d=>[d=[],c a.flatten<=140737488355328]):=.bk λa d b=>by obtain⟨rfl,b⟩:=b;exact VP a b
def xv:bI:=ei (eK bR) (eK bR) (λa b=>bf (a==b)) λ_ _=>[]
def ac9:bK q 191 xv:=.bk λa b _=>US a b
def UC(d)(t:c d.flatten<=140737488355328):X q 148 [bR.B d] [] (iQ (iO d)) []:=by
 refine X.J func148 rfl λh=>?_;have e:a_ q [(190,ei (eK bR) eE (λd _=>b1 d.flatten) λd b=>[b=[],c d.flatten<=140737488355328]),(91,dc eE (λb=>bf (fL b)) λ_=>[]),(191,xv),(192,dc eE (λb=>bR.B (k8 b)) λ_=>[])]:=.cons adi (.cons M4 (.cons ac9 (.cons Ex .nil)));have Cd:bR.ad (c d) (bR.fn d)=d:=bR.l d;cases x:fL d.flatten with
 |false=>
  refine a8 e [-8,9,16] a ?_ (g.ao a ?_)
  .simp only[U,Cd,x,bR.U,eq_self,ba,a9];grind
  simp[iO,x]
 |true=>
  cases i:(cm d.flatten==d)with
  |false=>
   refine a8 e [8,-9,-14,16] a OL (g.ao a ?_);simp[iO,i]
  |true=>
   refine a8 e [8,-9,14,-16] a OL (g.ao a ?_);simp[iO,x,i,Cd]
def JQ{a:m (Int×Int)}(b:e<c a):a.getD e (0,0)∈a:=M
def i4(b:m (Int×Int)):dF:=b.foldl (λd a=>d.put a.1 a.2) .nil
theorem ad3(b:m (Int×Int))(a:Int×Int):i4 (b++[a])=(i4 b).put a.1 a.2:=by unfold i4;grind
def zB{d:m (Int×Int)}(a:u<c d):i4 (d.take (u+1))=(i4 (d.take u)).put (d.getD u (0,0)).1 (d.getD u (0,0)).2:=by grind[List.take_add_one,ad3]
abbrev qy(a:m (Int×Int)):y:=ax (.B v 1 1 λb=>([[.B v 2 (c a) (a3.fn a)]]:m (m N)).getD b [])
abbrev Ej(a:Int×Int):aq:=.cells 253 [.c (.int .i64 a.1),.c (.int .i64 a.2)]
def JN(a:m (Int×Int)):Nat->bJ
 |0=>[(3,ax .bo),(8,qy a),(9,Q 1),(10,Q 0),(14,a3.B a),(15,Q (c a)),(16,Q 0)]
 |b+1=>[(3,.n (.Q (.aM 1))),(8,qy a),(9,Q 1),(10,Q 0),(14,a3.B a),(15,Q (c a)),(16,Q (b+1:Nat))]
def acj(a:m (Int×Int)):Nat->m aq
 |0=>[]
 |b+1=>[Ej (a.getD 0 (0,0)),.K (eA mF (i4 (a.take (b+1))))]
def YV(a:m (Int×Int)):Nat->bJ
 |0=>[(3,ax .bo),(8,qy a),(9,Q 1),(10,Q 0)]
 |b+1=>match a with
  |[]=>[(3,ax .bo),(8,qy a),(9,Q 1),(10,Q (b+1:Nat))]
  |_::_=>[(3,.n (.Q (.aM 1))),(8,qy a),(9,Q 1),(10,Q (b+1:Nat))]
def ack(b:m (Int×Int)):Nat->m aq
 |0=>[]
 |_+1=>match b with
  |[]=>[]
  |a::d=>[Ej a,.K (eA mF (i4 (a::d)))]
def Jq(d:m (Int×Int))(K:c d<=4000000)(C:∀b∈d,a7 .i64 b.1/\a7 .i64 b.2):X q 212 [qy d] [] (ax (eN (i4 d))) []:=by
 refine X.J func212 rfl λI=>?_;refine aW a B (g.hh 0 (λb=>b<=1) (YV d) (ack d) (λb=>1-b) 0 a D a B a w ?_);intro b k;rcases b with _|b
 .refine a5 [11] a D (g.hh 0 (λu=>u<=c d) (JN d) (acj d) (λu=>c d-u) 0 a D a B a w ?_);intro u J;rcases u with _|u
  .by_cases j:0<c d
   .have k:=C _ (JQ j);have h:=zB j;have i:a_ q [(272,k4 [ax .bo,o6 (d.getD 0 (0,0)).1 (d.getD 0 (0,0)).2] [] (.n (.Q (.aM 0))) [.K (eA mF (.ay .nil (d.getD 0 (0,0)).1 (d.getD 0 (0,0)).2 .nil))])]:=.cons (l7 (x8 _ _ k.1 k.2 .nil)) .nil;refine be i [17] a Qz (g.fr 2 1 w a D a a a ?_ a j M);exact bE
   obtain rfl:d=[]:=jC w;refine bL [-17] a D (g.fC a a ?_);refine cz a lx (g.fr 0 1 w a ?_ a a a B a w ca);simp
  obtain⟨e,p,s,r,h⟩:∃x y z A,i4 (d.take (u+1))=.ay x y z A:=by rw[zB w];exact y7 _ _ _
  show g q _ _ _ _ (JN d (u+1)) [Ej (d.getD 0 (0,0)),.K (eA mF (i4 (d.take (u+1))))];by_cases j:u+1<c d
  .have k:=C _ (JQ j);have E:=zB j;rw[h]at E⊢;have i:a_ q [(272,k4 [.n (.Q (.aM 0)),o6 (d.getD (u+1) (0,0)).1 (d.getD (u+1) (0,0)).2] [.K (eA mF (.ay e p s r))] (.n (.Q (.aM 0))) [.K (eA mF ((dF.ay e p s r).put (d.getD (u+1) (0,0)).1 (d.getD (u+1) (0,0)).2))])]:=.cons (l7 (x8 _ _ k.1 k.2 (.ay e p s r))) .nil;refine be i [17] a Qz (g.fr 2 (u+2) w a D a a a ?_ a j M);simp only[U.X,U,ba,a9];rw[E]
  have o:u+1=c d:=w;rw[o,c6]at h
  match d,o,h with
  |b::t,o,h=>
   rw[o,c6,h];refine bL [-17] a D (g.fC a a ?_);refine cz a lx (g.fr 2 1 w a D a a a ?_ a w ca);exact bE
 cases d with
 |nil=>
  refine bL [-11] a bv (g.fC a a ?_);exact cz a B (g.ao a nN)
 |cons F t=>
  refine bL [-11] a bv (g.fC a a ?_);refine cz a B (g.gh 2 1 a a ?_);obtain⟨e,p,s,r,h⟩:∃x y z A,i4 (F::t)=.ay x y z A:=by have:=zB (d:=F::t) (u:=c t) D;rw[Gb D]at this;rw[this];exact y7 _ _ _
  rw[h];exact g.ao a
end
section
open Go.Proofs Go.Conc Go.Conc.Lib
open Go.ConcN (WgLive PayAt Has RW AtR0)
open Go.ConcR (KK WgAt stA smA rd wr mk Payload DC0)
noncomputable def SP:Code:=nm (g3 (g3 (g3 rn)))
noncomputable def Hy:Code:=nm SP
noncomputable def Bp:Code:=g3 (g3 (g3 rn))
def SM:Bp=.seq (.seq Hy (.block 0 (.loop hx))) lJ:=bU
section
variable {dL:m aq}{cG:a6}{I:bJ}{k:m aq}{x:Act}{b:a6}{br:ai->a6->Prop}
def dS.goes{bm}{d:ai}:∀(o:Nat)(a:ai)b,dS dL cG I k x b->WgLive 242 bm b.a->Goes T l (fE 242 bm) DC0 (λa _=>a=d) o a b.a ->
  (∀g,dS dL cG I k x g->cf (af.aD T) br d g)->cf (af.aD T) br a b
 |0,a,b,r,_,h,p=>by obtain rfl:a=d:=h b.a (.refl _);grind
 |o+1,a,b,r,u,h,p=>by
  rcases h with h|⟨w,h⟩
  .obtain rfl:a=d:=h b.a (.refl _);grind
  refine .next w λg q=>?_;have j:=r.rely q.1;obtain⟨A,B⟩:=q.2;have s:WgLive 242 bm g.a:=bE;have e:=h g.a (λ_=>s);cases m:ao T l a g.a with
  |go i z t=>
   rw[m,goes_go]at e;obtain⟨⟨rfl,rfl⟩,y⟩:=e;exact⟨i,g,#[],m,.aR j.a8,dS.goes o i g j s y p⟩
  |_=>rw[m]at e;exact e.elim
def Sf{k}{b}(g:∀e∈k,e=.M){bh}{a}(d:i_ k b bh a):bh=[]:=by
 cases bh with
 |nil=>rfl
 |cons h bh=>
  cases a with
  |nil=>exact d.elim
  |cons i a=>
   have:=g _ (b_ d.1.1);cases this
end
section
variable {h:Int}{Z:m b'}{bt:m Int}{N:Nat}{ag:m Y}
variable (h Z bt N)in
def y2:bJ:=[(2,az.B bt),(3,aI 0 0),(4,aI 1 0),(8,aI 3 0),(9,aI 4 0)]
variable (h Z bt N ag)in
def py:m aq:=[.cells 3 [.c (.int .i64 h)],.cells 26 [.c (.B v 2 (c Z) (a2.fn Z))],.K (cr 244 2 (.row N (c bt)) (c bt) ag),.cells 232 [.c (.val (.slice (f ⟨N,0,n⟩) (c bt) (c bt)))],.cells 242 [.c (.int .u64 0),.c (.int .u32 0)]]
variable (h Z bt)in
def EN(a b:Nat):Y:=if b=0 then .string ⟨((dg h Z (bt.getD a 0)).getD []).toArray⟩else .bool (dg h Z (bt.getD a 0)).isSome
variable (h Z bt)in
def nf:m Y:=bt.flatMap λa=>[.string ⟨((dg h Z a).getD []).toArray⟩,.bool (dg h Z a).isSome]
variable (h Z bt N)in
def rV:m aq:=[.M,.M,.K (cr 244 2 (.row N (c bt)) (c bt) (nf h Z bt)),.M,.M]
def aay{b:af T}:b3 b 45 Hy (ue ((18,az.B bt)::(19,Q (c bt))::(20,Q 0)::y2 bt) (py h Z bt N ag)) (y2 bt) (py h Z bt N ag):=by refine g.aO ?_;refine aW a B ⟨a,eH a ?_,a⟩;simp
theorem JH:c (nf h Z bt)=c bt*2:=by
 unfold nf;induction bt with
 |nil=>rfl
 |cons b d a=>grind
def CR:∀{bt:m Int}{F e:Nat},F<c bt->e<2->(nf h Z bt)[2*F+e]?=f (EN h Z bt F e)
 |[],F,e,g,_=>by grind
 |b::d,0,e,_,a=>by
  match e,a with
  |0,_=>rfl
  |1,_=>rfl
 |b::d,F+1,e,g,a=>by have:=CR (bt:=d) (F:=F) (e:=e) M a;unfold nf at this⊢;rw[sl,hl M];rw[show 2*(F+1)+e - [Value.string ⟨((dg h Z b).getD []).toArray⟩,Value.bool (dg h Z b).isSome].length=2*F+e by grind];exact bE
def _root_.Go.AM.b0.seen{e a:Nat}{g}{k}{b}{I}{x}(d:b0 e k b I x)(j:bx k b (x.tmps.getD a J) g):b0 e k b ((a,g)::I) x:=by
 refine⟨d.size,d.defers,λh=>?_⟩;simp only[look];cases i:ad a h with
 |false=>exact d.aL h
 |true=>grind[Nat.eq_of_beq_eq_true]
abbrev vJ(a b:Nat):bJ:=[(8,ax (.R [.val (.slice (f ⟨b,0,n⟩) a a)]))]
variable (h Z bt N)in
abbrev Ln:bJ:=(8,ax (.R [.val (.slice (f ⟨N,0,n⟩) (c bt) (c bt))]))::(4,ax (.R [.B v 2 (c Z) (a2.fn Z)]))::(3,ax (.R [.int .i64 h]))::(18,az.B bt)::(19,Q (c bt))::(20,Q 0)::[(9,aI 4 0)]
def YS(bn:bK (af.c8 T) 188 (nc h)){aM:fw}(cg:c bt<=4000000)(aq:de (af.aD T) 45 n6 aM (vJ (c bt) N) (rV h Z bt N)):de (af.aD T) 45 Bp aM (y2 bt) (py h Z bt N ag):=by
 intro Y b2 cc bq bN av ah cN aL X b';have i:dS (py h Z bt N ag) Y (y2 bt) (py h Z bt N ag) b2 Y:=⟨cc,bq,.refl _ _⟩;refine i.ctl a (λbP=>zj SM) λb i=>?_
 refine i.ctl a (λbP=>px) λb i=>?_;refine i.code aL aay λa5 b i=>?_;obtain⟨bI,w1,a',a0,aa⟩:=b0.freeze 3 0 (W:=3) (ah:=[.c (.int .i64 h)]) (gN:=[.int .i64 h]) rfl rfl rfl i.bS i.a8;refine .aP (.of i.a8 a0 w1 (aa.tooV i.a8)) ?_;obtain⟨bJ,w2,ba,R,ab⟩:=b0.freeze 4 1 (W:=26) (ah:=[.c (.B v 2 (c Z) (a2.fn Z))]) (gN:=[.B v 2 (c Z) (a2.fn Z)]) rfl rfl rfl a' a0;refine .aP (.of a0 R w2 (ab.tooV a0)) ?_;obtain⟨cq,w3,f3,S,ae⟩:=b0.freeze 8 3 (W:=232) (ah:=[.c (.val (.slice (f ⟨N,0,n⟩) (c bt) (c bt)))]) (gN:=[.val (.slice (f ⟨N,0,n⟩) (c bt) (c bt))]) rfl rfl rfl ba R;refine .aP (.of R S w3 (ae.tooV R)) ?_;have i:dS (py h Z bt N ag) Y (Ln h Z bt N)
   [.M,.M,.K (cr 244 2 (.row N (c bt)) (c bt) ag),.M,.cells 242 [.c (.int .u64 0),.c (.int .u32 0)]] a5 cq:=
  ⟨f3.le (eH a D),S,i.a5.trans ((aa.tooV i.a8).trans ((ab.tooV a0).trans (ae.tooV R)))⟩
 clear aa ab ae a' ba f3 a0 R S;refine i.ctl a (λbP=>zf) λb i=>?_;refine i.ctl a (λbP=>Mk) λb i=>?_;have aP:=i.a8.len;simp[fh,gK]at aP;obtain⟨y,aY⟩:∃L,b.t[2]?=f L:=⟨_,bH w⟩
 obtain⟨ax,a3⟩:∃L,b.t[4]?=f L:=⟨_,bH w⟩
 obtain⟨cQ,bf,al,bl,cC⟩:=i.a8.box 2 _ y rfl aY;obtain⟨cv,cJ,aO,cb⟩:=cr.lookup bf;obtain⟨aC,_,cI,_,_,_⟩:=bf;have P:=(bl N).2 M;have au:=al N _ aO;obtain⟨m,z,b9,cy,bB,cD⟩:=i.a8.box 4 _ ax rfl a3;have aR:z=[.int .u64 0,.int .u32 0]:=by
  match z,bB with
  |[],aD=>exact aD.elim
  |[_],aD=>exact aD.2.elim
  |_::_::_::_,aD=>exact aD.2.2.elim
  |[cZ,aZ],aD=>
   have r0:=aD.1;have t:=aD.2.1;cases r0;cases t;rfl
 subst aR;have bz:N≠m:=M;have bA:a5.tmps.getD 9 J=.pointer (f ⟨m,0,n⟩):=by obtain⟨_,L,d6,aT,aV,cX⟩:=i.bS.aL 9;grind
 obtain⟨bb,cu⟩:=i.a8.gK (d:=2) rfl aY (.inr ⟨_,rfl⟩);have aK:(b.t.set 2 ⟨y.v,[]⟩)[4]?=f ax:=M;obtain⟨bd,t2⟩:=bb.gK (d:=4) (bS:=.cells 242 [.c (.int .u64 0),.c (.int .u32 0)]) rfl aK (.inl ⟨_,_,rfl⟩);generalize cH:({b with t:=(b.t.set 2 ⟨y.v,[]⟩).set 4 ⟨ax.v,[]⟩}:a6)=jS at bd t2;have cA:jS.t=(b.t.set 2 ⟨y.v,[]⟩).set 4 ⟨ax.v,[]⟩:=M;have aE:jS.D=b.D:=M;have C:jS.a=b.a:=M;have aF:jS.own=b.own:=M;have az:=bd;have oF:=(cu.tooV i.a8).trans (t2.tooV bb);have aS:jS.t[2]?=f ⟨y.v,[]⟩:=M;have bO:∀L∈jS.t,∀F∈L.ak,∃d,d≠2/\d≠4/\b.t[d]?=f L:=by grind[List.mem_iff_getElem?]
 have cK:=i.a8.lt y (b_ aY) N P;have cM:=i.a8.lt ax (b_ a3) m M;have bZ:nP N jS:=⟨by rw[aF];exactλV=>(i.a8.own N V).2 y (b_ aY) P,λL g k=>by obtain⟨d,bF,bG,U⟩:=bO L g N k;exact bF (i.a8.a1 d 2 L y U aY N k P),λq=>by rw[aE];grind,by grind⟩
 have H:nP m jS:=⟨by rw[aF];exactλV=>(i.a8.own m V).2 ax (b_ a3) M,λL g k=>by obtain⟨d,bF,bG,U⟩:=bO L g m k;exact bG (i.a8.a1 d 4 L ax U a3 m k M),λq=>by rw[aE];grind,by grind⟩
 have cR:b0 45 eL jS (ia h Z bt N m 0) a5:=by have p:=i.bS.mono oF i.a8.len;have cn:b0 45 eL jS ((9,cL (.pointer (f ⟨m,0,n⟩)))::Ln h Z bt N) a5:=p.seen (by rw[bA];exact Rd.val a);exact cn.le (eH a D)
 have cP:(ag++cv).toArray.size=2*c bt:=M;have aN:∀F,(b.own F∨∃L∈b.t,F∈L.ak)->F<b.a.heap.size:=λF k=>k.elim (λp=>(i.a8.own F p).1) λ⟨L,g,p⟩=>i.a8.lt L g F p;refine .dj (ac:=λai aA=>∃r A,dS (py h Z bt N ag) Y (vJ (c bt) N) (rV h Z bt N) r aA/\WgLive 242 m aA.a/\Goes T l (fE 242 m) DC0 (λcB _=>cB=G (bN.ab (r.put (f 28) (.tuple #[])) (.inRegion ow []::.code n6::av)) ah) A ai aA.a)
  (kW.gg (j:=c bt) (ty:=242) (val:=EN h Z bt) (E:=2*c bt) (cG:=jS) 2 w m N w bz (.of i.a8 az C oF) a ⟨y,b_ aY,P⟩ ⟨ax,b_ a3,by grind⟩ aN ?_ cy ⟨_,au,cP⟩ ?_) ?_
 .rintro F (rfl|rfl)
  .exact⟨bZ.own,bZ.t,bZ.D⟩
  exact⟨H.own,H.t,H.D⟩
 .intro o bh bg bk;subst bh bg;refine⟨F_ h Z bt o eL jS bN av ah,wE h Z bt o eL jS bN av ah,λcB b k=>Sk H X k,?_,?_⟩
  .refine ace bn bk H X aL ca cg (λe cd=>rfl) (λe cd=>rfl) (c bt) (bC _) a5 jS ⟨by grind,az,.refl _ _⟩ ⟨_,_,by rw[C];exact cy⟩
  .rintro ai aA ⟨r,⟨u,an⟩,A,Q⟩ bw ao O cf aj;obtain⟨cS,cT,cU⟩:=aj o.af (.inl rfl);obtain⟨a7,ar,cj⟩:=ao;have bm:a7=(nf h Z bt).toArray:=by
    apply Array.ext_getElem?;intro q;have a_:(nf h Z bt).toArray[q]?=(nf h Z bt)[q]?:=D;rw[a_];rcases dT q (2*c bt)with V|V
    .have aT:=O (q / 2) w (q % 2) w;have aV:=CR (h:=h) (Z:=Z) (bt:=bt) (F:=q / 2) (e:=q % 2) w w;rw[show 2*(q / 2)+q % 2=q by omega]at aT aV;rw[aV];simpa[aH,ar]using aT
    grind[JH]
   subst bm;have br:=u.a8.len;obtain⟨cw,aw,cl,cW,cm⟩:=u.a5.box 2 .M ⟨y.v,[]⟩ rfl aS;have ck:aw.v=.nilFunc:=by cases cl;exact(show aw.v=y.v from cm).trans aC
   have cx:∀(d:Nat) bS,eL[d]?=f bS->bS=.M:=by
    intro d bS aJ
    match d,aJ with
    |0,aJ|1,aJ|2,aJ|3,aJ|4,aJ=>cases aJ;rfl
   have cz:∀d,(aA.t.set 2 ⟨.nilFunc,[o.af]⟩)[d]?=if d=2 then f ⟨.nilFunc,[o.af]⟩else aA.t[d]?:=M;have bQ:∀L∈aA.t.set 2 ⟨.nilFunc,[o.af]⟩,L=⟨.nilFunc,[o.af]⟩∨L∈aA.t:=λL g=>by grind
   have bp:bc (rV h Z bt o.af) {aA with t:=aA.t.set 2 ⟨.nilFunc,[o.af]⟩}:=by
    refine⟨u.a8.mem,by simp[br,rV],?_,?_,?_,λF k=>⟨(u.a8.own F k).1,λL g a4=>?_⟩⟩
    .intro d bS L aJ g;rw[cz]at g;by_cases s:d=2
     .subst s;rw[bo a]at g;cases g;cases aJ;refine⟨λx=>if x=o.af then f (.cells (nf h Z bt++[]).toArray 244 (0,0))else n,⟨a,?_,JH,bC _,by omega,[],by grind,a⟩,λx cV K=>?_,λx=>?_,λx K q=>?_⟩
      .intro F k;simp only[nf,rh]at k;obtain⟨_,_,k⟩:=k;simp only[e9,sn,or_false]at k;rcases k with rfl|rfl<;>rfl
      .by_cases s:x=o.af
       .subst s;simp only[dv]at K;cases K;exact bv
       grind
      .by_cases s:x=o.af<;>simp[s]
      grind
     .match d,aJ,s with
      |0,aJ,_|1,aJ,_|3,aJ,_|4,aJ,_=>cases aJ;trivial
      |2,_,s=>grind
    .intro d bE L bU g I F k bD;rw[cz]at g I;by_cases s:d=2
     .grind
     rw[bj s]at g;by_cases b3:bE=2
     .grind
     rw[bj b3]at I;exact u.a8.a1 d bE L bU g I F k bD
    .intro L g F k;rcases bQ L g with rfl|g
     .grind
     exact u.a8.lt L g F k
    rcases bQ L g with rfl|g
    .grind
    exact(u.a8.own F k).2 L g a4
   have aQ:df [.M,.M,.K (cr 244 2 (.row o.af (c bt)) (c bt) ag),.M,.cells 242 [.c (.int .u64 0),.c (.int .u32 0)]] b (rV h Z bt o.af) {aA with t:=aA.t.set 2 ⟨.nilFunc,[o.af]⟩}:=by
    have p:=u.a5;refine⟨by have:=p.size;grind,λF k=>by have:=p.a3 F M;grind,λF q c1 k=>p.mem F q c1 M,λF k cF q=>?_,λL g F k=>?_,?_,by rw[p.os,C],by rw[p.tape,C],by rw[p.output,C],by rw[p.own,aF]⟩
    .rw[p.bz F M (λL g a4=>by
      obtain⟨d,_,_,U⟩:=bO L g F a4
      grind) q,aE]
    .rcases bQ L g with rfl|g
     .grind
     rcases p.bR L g F k with t|⟨bV,t,aW⟩
     .grind
     obtain⟨d,_,_,U⟩:=bO bV t F aW;grind
    intro d bS L aJ g;obtain⟨a1,bW,t,aW,cp⟩:=oF.box d bS L aJ g;obtain⟨bR,bX,aZ,c0,nK⟩:=p.box d a1 bW t aW;have a8:=cx d a1 t;have a9:=cx d bR aZ;subst a8 a9;by_cases s:d=2
    .subst s;cases aJ;rw[aY]at g;cases g;exact⟨_,⟨.nilFunc,[o.af]⟩,a,by grind,aC.symm⟩
    refine⟨.M,bX,?_,by grind,cp.trans nK⟩
    match d,aZ,s with
    |0,_,_|1,_,_|3,_,_|4,_,_=>rfl
    |2,_,s=>grind
   refine⟨{aA with t:=aA.t.set 2 ⟨.nilFunc,[o.af]⟩},⟨r,A,⟨⟨u.bS.size,⟨[],?_⟩,λcY=>?_⟩,bp,i.a5.trans aQ⟩,an,Q⟩,rfl,bw,λcO bM cE=>⟨bM.own,λF k L g a4=>?_,bM.D,bM.lt⟩⟩
   .obtain⟨nC,bu⟩:=u.bS.defers;rw[Sf (λbS aJ=>by grind) bu];trivial
   .have b5:b0 45 eL aA (vJ (c bt) o.af) r:=u.bS.le (eH a D);exact bx.eX (b:=aA) (aA:={aA with t:=aA.t.set 2 ⟨.nilFunc,[o.af]⟩}) rfl (b5.aL cY) (vk rfl)
   rcases bQ L g with rfl|g
   .grind
   exact bM.t F k L g a4
 rintro ai aA ⟨r,A,b8,bs,Q⟩;refine dS.goes A ai aA b8 bs Q λbI aG=>?_;have b7:dS (py h Z bt N ag) Y ((28,.any)::vJ (c bt) N) (rV h Z bt N) (r.put (f 28) (.tuple #[])) bI:=⟨aG.bS.put ca B,aG.a8,aG.a5⟩
 refine b7.ctl a (λbP=>vX) λbJ aI=>?_;refine aq bJ _ (aI.bS.le (eH a D)) aI.a8 bN av ah cN aL X λs bT bY aA b1 p b4 b6 bL=>b' s bT bY aA b1 p b4 b6 (aI.a5.trans bL)
end
end
abbrev Ey(a:m bA)(b:Bool):y:=.S [.Q (.c (.B v 1 (c a) (bR.fn a))),.Q (.c (.bool b))]
def g2(e:Int)(b:m b')(a:m Int):Option (m bA):=if a.all (λd=>(dg e b d).isSome)then f (a.map λd=>(dg e b d).getD [])else n
noncomputable def SS:Code:=nm rn
noncomputable def ST:Code:=nm (g3 rn)
noncomputable def SU:Code:=nm (g3 (g3 rn))
def SO:f147.body=f (.seq SS (.seq ST (.seq SU Bp))):=bU
def sM(e:Int)(b:m b')(a:m Int)(d:Nat):m AM.N:=[.T ((dg e b (a.getD d 0)).getD []),.bool (dg e b (a.getD d 0)).isSome]
def mH(d:Int)(b:m b')(a:m Int):m bA:=a.map λe=>(dg d b e).getD []
theorem aaD{i b}(a:hE i=f b):c b<=8:=by
 unfold hE at a;split at a
 .rename_i d;cases a;simp only[ck,cB,bw]at d;omega
 grind
theorem S0{d}{a}(b:iM h d=f a):c a<=8:=by unfold iM at b;grind[aaD]
theorem Jz{Z}{j}:c ((dg h Z j).getD [])<=8:=by
 cases b:dg h Z j with
 |none=>simp
 |some d=>
  obtain⟨e,_,a⟩:=List.exists_of_findSome?_eq_some b;unfold fS at a;grind[S0]
theorem TN{Z}{b}(g:e<c b){s}{m}(d:(sM h Z b e)[u]?=f s)(k:(nf h Z b)[e*2+u]?=f m):Rd bB m s:=by
 have i:u<2:=(cO.1 d).1;have:=CR (h:=h) (Z:=Z) g i;rw[wZ,this]at k;cases k
 match u,i with
 |0,_=>
  cases d;have:=Jz (h:=h) (Z:=Z) (j:=b.getD e 0);exact .T a w
 |1,_=>cases d;exact .bool
def _root_.Go.AM.de.le{P:aE}{d:af P}{E}{aM}{I dD}{k}{s}(h:de d E s aM dD k)(b:iB I dD):de d E s aM I k:=λi e g a=>h i e (g.le b) a
def UV(x:bK (af.c8 T) 188 (nc h))(Z)(b)(A:c b<=4000000):
  X (af.aD T) 147 [Q h,a2.B Z,az.B b] [] (Ey ((g2 h Z b).getD []) (g2 h Z b).isSome) []:=by
 refine bk.toX (bk.e4 (ι:=Unit) func147 rfl SO rfl λJ=>?_);show de _ 45 _ _ _ _;refine de.seq (b3.bw (g.aO ?_));refine aW a B ?_;show de _ 45 _ _ _ _;refine de.seq (b3.bw (g.aO ?_));refine aW a B (g.jv (W:=244) (j:=c b) bb a a a a a a z8 w a a λN ag=>?_);refine aW a B ?_;show de _ 45 _ _ _ _;refine de.seq (b3.bw (g.aO ?_));refine aW a B ?_;show de _ 45 _ _ _ _;have q:de (af.aD T) 45 n6 (λt p e=>∃_:Unit,bY f147 0 (Ey ((g2 h Z b).getD []) (g2 h Z b).isSome) [] t p e) (vJ (c b) N) (rV h Z b N):=by
  refine b3.bw (b3.mono (aM:=bY f147 0 (Ey ((g2 h Z b).getD []) (g2 h Z b).isSome) []) (g.aO ?_) λ_ _ _ z=>⟨(),z⟩);refine aW a (show _<=_ by omega) (g.iA 29 2 (bO:=.row N (c b)) (j:=c b) (h:=2) (sM h Z b) a a (λd i=>⟨a,λC m E R K M=>?_⟩) ?_)
  .grind [TN]
  refine g.bG 12 9 1 a a ?_;refine g.aC 6 (λd=>d<=c b/\∀m,m<d->(dg h Z (b.getD m 0)).isSome=l) (λd:Nat=>[(29,ax (.B v 2 (c b) (sM h Z b))),(30,Q (c b)),(31,Q d),(12,.n (.Q (.x 5 1 (c (mH h Z (b.take d))) (bR.fn (mH h Z (b.take d))))))]) (λd=>[.M,.M,.M,.M,.M,.x 9 1 (c (mH h Z (b.take d))) (bR.fn (mH h Z (b.take d)))]) (λd=>c b-d) 0 a ?_ a ?_ a ⟨by omega,by omega⟩ ?_
  .simp[bs,mH]
  .simp[bs,mH]
  rintro d ⟨i,F⟩;by_cases o:d<c b
  .cases r:(dg h Z (b.getD d 0)).isSome with
   |true=>
    have O:mH h Z (b.take (d+1))=mH h Z (b.take d)++[(dg h Z (b.getD d 0)).getD []]:=by unfold mH;grind[List.take_add_one]
    have I:c (mH h Z (b.take d))<=4000000:=by simp[mH];omega
    refine bL [32,-37] a ?_ (g.av (d+1) a ?_ ?_ ?_ ?_)
    .simp[-ak,o,sM,r,a7];have:sW.bytes=16:=rfl;grind
    .exact Py
    .exact Py
    .grind
    omega
   |false=>
    refine bL [32,37] a ?_ (g.aT (bY.zero a ?_))
    .simp[-ak,o,sM,r]
    have u:g2 h Z b=n:=NX;simp[u]
  have y:d=c b:=w;subst y;refine bL [-32] a D (g.az ?_);refine cz a B (g.ao a ?_);have s:g2 h Z b=f (mH h Z b):=by
   unfold g2;rw[bo]
   .rfl
   grind[List.mem_iff_getElem]
  simp[s]
 exact de.le (k:=py h Z b N ag) (YS (ag:=ag) x A q) (eH a D)
end R1
end Go.AM
namespace Go.AM.R1
def rK(a)(b):iw (a::b)=if a=47 then 0 else if iw b=-1 then -1 else iw b+1:=by unfold iw;grind[Lib.indexByte.eq_def]
def C8:iw []=-1:=cS
def aaK(b):jR b=fT b:=by
 by_cases m:c b<=3
 .match b,m with
  |[],_=>exact cS
  |[e],_=>
   by_cases a:e=47
   .exact hy
   simp[jR,fT,jL,jJ,ka,rK,C8,a,lj,dq]
  |[e,g],_=>
   by_cases a:e=47
   .exact hy
   by_cases d:g=47
   .subst d;simp[jR,fT,jL,jJ,mr,ka,rK,a]
   simp[jR,fT,jL,jJ,ka,rK,C8,a,d]
  |[e,g,i],_=>
   by_cases a:e=47
   .subst a;simp[jR,fT,jL,jJ,mr,ka,rK,lj,dq]
   by_cases d:g=47
   .subst d;simp[jR,fT,jL,jJ,mr,ka,rK,a,lj,dq]
   have j:¬(g.toNat:Int)=47:=by intro k;apply d;apply uq.1;grind
   by_cases h:i=47
   .subst h;simp[jR,fT,jL,jJ,mr,ka,rK,a,d,lj,dq]
   simp[jR,fT,jL,jJ,ka,rK,C8,a,d,h,j,lj,dq]
  |_::_::_::_::_,k=>grind
 have o:fT b=v:=by unfold fT;grind
 grind[Lj]
end Go.AM.R1
namespace Go.AM
theorem xl(a):aR a []=v:=FV
def A7(i)(d):aR [] (i::d)=l:=FV
theorem uK(a i)(b d):aR (a::b) (i::d)=(decide (a<i)||a==i&&aR b d):=FV
theorem xk:∀a:bA,aR a a=v
 |[]=>xl []
 |a::b=>by rw[uK,xk b];simp
def GP:∀a b:bA,aR a b=l∨a=b∨aR b a=l
 |[],[]=>.inr (.inl rfl)
 |[],b::e=>.inl (A7 b e)
 |a::d,[]=>.inr (.inr (A7 a d))
 |a::d,b::e=>by
  rw[uK,uK];rcases GP d e with g|g|g
  .grind
  .grind
  grind
theorem A8:∀{g h b:bA},aR g h=l->aR h b=l->aR g b=l
 |g,h,[],_,e=>by grind[xl]
 |g,[],b::i,d,_=>by grind[xl]
 |[],h::j,b::i,_,_=>A7 b i
 |g::k,h::j,b::i,d,e=>by
  rw[uK,jD,ck,bw,gL]at d e⊢;rcases d with d|⟨rfl,d⟩
  .grind
  rcases e with e|⟨rfl,e⟩
  .grind
  exact .inr ⟨a,A8 d e⟩
theorem GO{a i}(b:aR a i=l):aR i a=v:=by grind[A8,xk]
def SD{a i}:(!(aR i a||i==a))=aR a i:=by
 rcases GP a i with b|b|b
 .have s:(i==a)=v:=by simp[eZ,dZ];grind[xk]
  grind[GO]
 .grind [xk]
 grind[GO]
namespace R1
def L2{o}{e}(g:∀a,0<a->a<=e->aR (cu o (a-1)) (cu o a)=l):∀b,b<e->aR (cu o b) (cu o e)=l:=by
 intro b m;induction e with
 |zero=>omega
 |succ e i=>
  have d:=g (e+1) w (bC _);simp[pW]at d;by_cases k:b=e
  .grind
  exact A8 (i (λa h j=>g a h w) w) d
def Lk{b}(d:fT b=l):(∃a,b=[a])∨∃a e,b=[a,47,e]:=by
 unfold fT at d;split at d
 .rename_i g
  match b,g with
  |[a],_=>grind
 split at d
 .rename_i g
  match b,g with
  |[a,e,h],_=>
   right;simp[lj,dq]at d;have i:e=47:=by apply uq.1;grind
   grind
 grind
theorem S1{b d}(g:fT b=l)(h:fT d=l)(k:aR b d=l):k7 b d=under d b:=by
 rcases Lk g with⟨a,rfl⟩|⟨a,i,rfl⟩<;>rcases Lk h with⟨s,rfl⟩|⟨s,j,rfl⟩
 .exact cS
 .by_cases e:a=s
  .subst e;simp[k7,under,og,dq]
  have:¬(a.toNat:Int)=s.toNat:=λm=>e (uq.1 w);have p:((a.toNat:Int)==(s.toNat:Int))=v:=M;have o:(s==a)=v:=M;simp[k7,under,og,dq];grind
 .have:¬(a.toNat:Int)=s.toNat:=by grind[UInt8.toNat_inj,uK,xl]
  simp[k7,under,og,dq,this]
 exact cS
theorem MB{o}{e}(b:∀a,a<e->i1 o a=l):mR o e=i1 o e:=by
 unfold mR i1;rw[aaK,SD];cases q:fT (cu o e)with
 |false=>simp
 |true=>
  cases k:fL (lr o e)with
  |false=>simp
  |true=>
   cases r:(e==0||aR (cu o (e-1)) (cu o e))with
   |false=>simp
   |true=>
    simp[fP];have p:∀a,a<e->aR (cu o a) (cu o e)=l:=by
     apply L2;intro g i d;by_cases m:g=e
     .grind
     have:=b g w;simp[i1,ck,jD,gL]at this;grind
    rw[oX,fZ,fZ];have s:∀a,a<e->k7 (cu o a) (cu o e)=under (cu o e) (cu o a):=by
     intro a h;have j:fT (cu o a)=l:=by have:=b a h;simp[i1,ck]at this;exact this.1.1.1
     grind[S1]
    grind
def r2(o):qP o=dM o:=by
 unfold qP dM;congr 1;rw[oX,fZ,fZ];constructor
 .intro b e;induction e using Nat.strongRecOn with
  |_ e a=>grind[MB]
 grind[MB]
end R1
end Go.AM
namespace Go.AM
variable {j A:Nat}{h:Int}{d i e u:Nat}{W:al}{H:Y->(Nat->Option Obj)->Prop}{L:Array Bool}{bB:Mem}{E:Nat}{P:aE}{br:ai->a6->Prop}{s:Code}{C:ai}{r:an}{b:a6}{o:al}{aa:Y}{p:ar}{α:Type}{η:ae->y}{ι:Type}{k:m aq}{I:bJ}{all:m an}{dr:Array al}{cap:m N}{cQ:m y}{k6:Nat->Option Obj}{ah:m aG}{bh:m (Nat×Bool)}{V:Nat->m N}{cP:ae}{gs:Array ai}{aV:m Nat}{cn:m Prop}{off:Nat}{op:BinOp}{aQ:Array an}{Z:m Prop}{bq:m an}{aA:a6}{ty:al}{val:Nat->Nat->Y}{z:m Y}{bi:ar}{ag:Array ae}{ap dh:m aq}{res:ι->y}{aS:ι->m aq}
variable {CT:m (Nat×bI)}{au:m ik}{bd:fw}{ac:m (Nat×cp)}{a4:cp}
namespace R1
section
variable {q:af T}
def fI(d:Int)(a:m b')(b:m2):Option cM:=match g2 d a b.2 with
 |none=>n
 |some e=>match iO e with
  |none=>n
  |some g=>f (b.1,g)
def fk(b:Int)(a:m b')(d:m m2):m cM:=d.map λe=>(fI b a e).getD ([],[])
def en(b:Int)(d:eh)(a:m b'):Option (m cM):=
 if ce b&&d.2.all (λe=>(fI b a e).isSome)&&dM (fk b a d.2)then f (fk b a d.2)else n
abbrev mT(a:m cM)(b:Bool):y:=.S [.Q (.c (.B v 2 (c a) (bu.fn a))),.Q (.c (.bool b))]
abbrev iR(a:eh):y:=.n (.agg [.c (.int .i64 a.1),.c (.B v 2 (c a.2) (cw.fn a.2))])
theorem CJ{Z}{d}(a:e<c d):fk h Z (d.take (e+1))=fk h Z (d.take e)++[(fI h Z (d.getD e ([],[]))).getD ([],[])]:=by unfold fk;grind[List.take_add_one]
def Eg{Z}{b}(d:e<c b.2)(a:fI h Z (b.2.getD e ([],[]))=n):en h b Z=n:=by unfold en;rw[bj];grind
def YB{Z}{a}{d}(b:g2 h Z a=f d)(j:c a<=4000000):c d.flatten<=140737488355328/\c d<=4000000:=by
 unfold g2 at b;split at b
 .rename_i i;cases b;refine⟨?_,by grind⟩;have key:∀a:m Int,(a.all λe=>(dg h Z e).isSome)=l->(a.map λe=>(dg h Z e).getD []).flatten.length<=8*c a:=by
   intro a;induction a with
   |nil=>grind
   |cons e a g=>
    intro b;simp only[List.all_cons,ck]at b;grind[Jz]
  grind
 grind
def XM(h)(b)(Z)(Y:c b.2<=4000000)(G:∀e∈b.2,c e.2<=4000000):
  X (af.aD T) 107 [Q h,iR b,a2.B Z] [] (mT ((en h b Z).getD []) (en h b Z).isSome) []:=by
 refine X.J func107 rfl λI=>?_;have aa:=I.B 2 a;have i:a_ (af.aD T) [(52,dc c1 (λh=>bf (ce h)) λ_=>[])]:=.cons oG .nil;cases bX:ce h with
 |false=>
  refine a8 i [-15,16] a kU (g.ao a ?_);simp[en,bX]
 |true=>
  have S:bK (af.c8 T) 188 (nc h):=ac_ zx bX;refine a8 i [15,-16,904] a kU (g.bG 8 45 2 a a ?_);refine b8 i a B (g.aC 2 (λd=>d<=c b.2/\∀u,u<d->(fI h Z (b.2.getD u ([],[]))).isSome=l) (λd:Nat=>[(0,Q h),(2,a2.B Z),(4,aI 0 0),(8,.n (.Q (.x 1 2 (c (fk h Z (b.2.take d))) (bu.fn (fk h Z (b.2.take d)))))),(18,cw.B b.2),(19,Q (c b.2)),(20,Q d)]) (λd=>[.cells 84 [.c (.int .i64 b.1),.c (.B v 2 (c b.2) (cw.fn b.2))],.x 45 2 (c (fk h Z (b.2.take d))) (bu.fn (fk h Z (b.2.take d)))]) (λd=>c b.2-d) 0 a Ab a Ab a ⟨by omega,by omega⟩ ?_);rintro d ⟨J,ab⟩;by_cases p:d<c b.2
  .have r:b.2.getD d ([],[])∈b.2:=M;generalize m:b.2.getD d ([],[])=e at r;have z:=G e r;have o:=UV S Z e.2 z;cases j:g2 h Z e.2 with
   |none=>
    rw[j]at o;refine a8 i [21] a bv (g.aB (m▸o) [] a (a8 i [33] a D (g.aT (bY.zero a ?_))));have k:fI h Z e=n:=by simp[fI,j]
    rw[Eg p M];simp
   |some x=>
    obtain⟨V,y⟩:=YB j z;rw[j]at o;have K:=UC (q:=af.aD T) x V;refine a8 i [21] a bv (g.aB (m▸o) [] a (a8 i [-33] a D (g.aB K [] a ?_)));cases R:iO x with
    |none=>
     refine a8 i [40] a D (g.aT (bY.zero a ?_));have k:fI h Z e=n:=by simp[fI,j,R]
     rw[Eg p M];simp
    |some s=>
     have k:fI h Z e=f (e.1,s):=by simp[fI,j,R]
     have F:b.2.getD (d:Int).toNat cw.F=e:=m;have W:c (fk h Z (b.2.take d))<=4000000:=by simp[fk];omega
     have E:bs (c (fk h Z (b.2.take d))+1) (cg (c (fk h Z (b.2.take d))) (bu.fn (fk h Z (b.2.take d))) λO=>[[N.T (b.2.getD (d:Int).toNat cw.F).1,N.T ((f s).getD [])]].getD O []) (bu.fn (fk h Z (b.2.take (d+1)))):=by rw[CJ p,m,k,F];exact bu.aX (fk h Z (b.2.take d)) (e.1,s)
     have C:c (fk h Z (b.2.take d))+1=c (fk h Z (b.2.take (d+1))):=by grind[CJ]
     refine a8 i [-40] a ?_ (g.av (d+1) a ?_ ?_ ?_ ?_)
     .refine⟨by exact bE,a,a,?_,a⟩;show _*32<=_;omega
     .refine U.X.2 ⟨a,U.X.2 ⟨⟨a,bs.same⟩,U.X.2 ⟨B,U.X.2 ⟨⟨C,E⟩,U.X.2 ⟨⟨a,bs.same⟩,U.X.2 ⟨a,U.X.2 ⟨?_,B⟩⟩⟩⟩⟩⟩⟩;simp
     .exact U.X.2 ⟨U.X.2 ⟨a,U.X.2 ⟨⟨a,bs.same⟩,B⟩⟩,U.X.2 ⟨⟨C,E⟩,B⟩⟩
     .grind
     omega
  have k:d=c b.2:=w;subst k;refine a8 i [-21] a D (g.az ?_);rw[c6];have t:=Jr (q:=af.aD T) (fk h Z b.2);rw[r2]at t;refine b8 i a B (g.aB t [] a ?_);have H:b.2.all (λe=>(fI h Z e).isSome)=l:=aX.2 λe r=>by grind[List.mem_iff_getElem]
  cases A:dM (fk h Z b.2)with
  |false=>
   refine a8 i [51] a D (g.ao a ?_);simp[en,A]
  |true=>
   refine a8 i [-51] a D (g.ao a ?_);simp[en,A,bX,H]
abbrev cd:=m b'×m eh×m (Int×Int)
def kq(b:cd):Prop:=∀a∈b.2.1,c a.2<=4000000/\∀d∈a.2,c d.2<=4000000
abbrev bW(a:cd):y:=.n (.agg [.c (.B v 2 (c a.1) (a2.fn a.1)),.c (.B v 2 (c a.2.1) (bg.fn a.2.1)),.c (.B v 2 (c a.2.2) (a3.fn a.2.2))])
def pA(e:Int)(d:cd)(a:Int):Option (m cM):=match d.2.1.find? (λb=>b.1==a)with
 |none=>n
 |some b=>en e b d.1
def BH:bI:=j' c1 (jB cw) (eK a2) (λd b a=>mT ((en d b a).getD []) (en d b a).isSome) λ_ b _=>[c b.2<=4000000,∀e∈b.2,c e.2<=4000000]
def MZ:bK (af.aD T) 107 BH:=.c5 λd e a b=>XM d e a b.1 b.2
def XW(h:Int)(b:cd)(d:Int)(s:kq b):
  X (af.aD T) 62 [Q h,bW b,Q d] [] (mT ((pA h b d).getD []) (pA h b d).isSome) []:=by
 refine X.J func62 rfl λu=>?_;have j:a_ (af.aD T) [(105,A_),(107,BH)]:=.cons acF (.cons MZ .nil);have q:bg.ad (c b.2.1) (bg.fn b.2.1)=b.2.1:=bg.l _;refine a8 j [901] a B (g.freeze 5 1 a a a ?_);rcases Zh b.2.1 d with⟨o,i⟩|⟨e,bp,o,i⟩
 .refine a8 j [14] a bE (g.ao a ?_);simp[pA,i]
 have t:b.2.1.getD e (0,[])∈b.2.1:=M;obtain⟨r,k⟩:=s _ t;have p:pA h b d=en h (b.2.1.getD e (0,[])) b.1:=by simp only[pA,i]
 have m:b.2.1.getD (oi (bg.ad (c b.2.1) (bg.fn b.2.1)) d).toNat bg.F=b.2.1.getD e (0,[]):=M;refine a8 j [-14] a ?_ (g.ao a ?_)
 .simp only[U,m,cw.l,q,o];exact⟨cw.U _,a2.U _,r,k,by omega,by omega,na w,bg.U _⟩
 simp only[m,cw.l,a2.l,p];simp
def o0:i7 cd:=⟨bW,λs=>match s with
 |.n (.agg [.c r,.c t,.c u])=>match js 2 (ax r)with
  |some (i,g)=>match js 2 (ax t)with
   |some (j,m)=>match js 2 (ax u)with
    |some (q,h)=>f ((a2.ad i g,bg.ad j m,a3.ad q h),[a2.bK i g,bg.bK j m,a3.bK q h])
    |none=>n
   |none=>n
  |none=>n
 |_=>n,λ{s r E} e d k b aa A=>by
 split at e
 .split at e
  .rename_i i g o;split at e
   .rename_i j m x;split at e
    .rename_i q h p;cases e;obtain⟨z,w,a⟩:=A
     match z,a with
     |[],a=>exact a.elim
     |[_],a=>exact a.2.elim
     |[_,_],a=>exact a.2.2.elim
     |_::_::_::_::_,a=>exact a.2.2.2.elim
     |[C,D,y],a=>
      exact⟨_,w,a2.cv (k:=[]) (b:=b) (aa:=C) o d.1 a.1,bg.cv (k:=[]) (b:=b) (aa:=D) x d.2.1 a.2.1,a3.cv (k:=[]) (b:=b) (aa:=y) p d.2.2 a.2.2.1,B⟩
    grind
   grind
  grind
 grind⟩
abbrev d9(b:b')(a:Nat):cW:=b.2.getD a (0,[])
def ic(d:Int)(b:b')(a:Nat):Bool:=right d (d9 b a)&&(a==0||decide ((d9 b (a-1)).1<(d9 b a).1))
theorem DJ(h)(a):h' h a=((aB (c a.2)).all (ic h a)&&(ce h&&decide (1<=a.1)&&decide (a.1<=99)&&decide (1<=c a.2)&&decide (c a.2<=4))):=by
 have j:(a.2.all (right h)&&Eh (a.2.map (·.1)))=(aB (c a.2)).all (ic h a):=by
  rw[oX,ck,aX,aX];unfold Eh;rw[aX];have d:∀e,e<c a.2->(a.2.map (·.1)).getD e 0=(d9 a e).1:=λe bp=>by grind
  constructor
  .rintro⟨i,b⟩ e bp;have bp:=rg.1 bp;have k:=b e M;rw[d e bp]at k;unfold ic;rw[i (d9 a e) M,fP];rcases n0 e with rfl|m
   .rfl
   grind
  intro t;refine⟨λo g=>?_,λe bp=>?_⟩
  .obtain⟨e,bp,rfl⟩:=AR.1 g;exact Og
  have bp:e<c a.2:=M;exact Og
 rw[<-j];unfold h';cases ce h<;>cases decide (1<=a.1)<;>cases decide (a.1<=99)<;>cases decide (1<=c a.2)<;>cases decide (c a.2<=4)<;>simp
def Ld{a}(b:e<c a.2)(d:ic h a e=v):h' h a=v:=by grind[DJ]
theorem BR{F}(a:ce h=l):(iM h F).isSome=right h F:=by unfold iM right;grind
def W0(h)(b)(i:ce h=l)(E:c b.2<=4000000):X q 166 [Q h,fH b] [] (bf (h' h b)) []:=by
 refine X.J func166 rfl λI=>?_;have e:a_ q [(52,dc c1 (λh=>bf (ce h)) λ_=>[]),(204,ei sg c1 (λA h=>iQ (iM h A)) λ_ h=>[ce h=l])]:=.cons oG (.cons (MP zx) .nil);refine b8 e a B (g.aC 1 (λd=>d<=c b.2/\∀j,j<d->ic h b j=l) (λd:Nat=>[(0,Q h),(3,aI 0 0),(10,bG.B b.2),(11,Q (c b.2)),(12,Q d)]) (λ_=>[.cells 80 [.c (.int .i64 b.1),.c (lm b)]]) (λd=>c b.2-d) 0 a D a D a ⟨by omega,by omega⟩ ?_);rintro d ⟨x,t⟩;by_cases r:d<c b.2
 .cases m:right h (d9 b d)with
  |false=>
   have o:(iM h (d9 b d)).isSome=v:=by grind[BR]
   refine a8 e [13,24,40] a ds (g.aT (bY.zero a ?_));rw[Ld r (by simp only[ic,m,sr])];simp
  |true=>
   have o:(!(iM h (d9 b d)).isSome)=v:=by grind[BR]
   by_cases z:d=0
   .subst z;refine a8 e [13,-24,-27,-40] a lI (g.av 1 a D D ⟨by omega,λj k=>?_⟩ w);have:j=0:=w;subst this;simp only[ic,m,fP];rfl
   have M:((d:Int)-1).toNat=d-1:=w;cases s:decide ((d9 b (d-1)).1<(d9 b d).1)with
   |false=>
    refine a8 e [13,-24,27,38,40] a ?_ (g.aT (bY.zero a ?_))
    .have C:(b.2.getD ((d:Int)-1).toNat bG.F).1=(d9 b (d-1)).1:=bE;refine⟨a,fi ?_,by omega,by omega,by exact bE,fi w,o,i,by omega,by omega,fi w⟩;rw[C];show(d9 b d).1<=_;grind
    rw[Ld r (by simp[ic,m,s,fP,Bool.or_false];grind)];simp
   |true=>
    refine a8 e [13,-24,27,-38,-40] a ?_ (g.av (d+1) a ?_ ?_ ⟨by omega,λj k=>?_⟩ w)
    .have C:(b.2.getD ((d:Int)-1).toNat bG.F).1=(d9 b (d-1)).1:=bE;refine⟨by exact bE,a,na ?_,by omega,by omega,by exact bE,fi w,o,i,by omega,by omega,fi w⟩;rw[C];show¬(d9 b d).1<=_;grind
    .simp
    .simp
    rcases wR.1 k with k|rfl
    .grind
    simp only[ic,m,s,fP,Bool.or_true]
 have u:d=c b.2:=w;subst u;refine a8 e [-13] a D (g.az ?_);have y:(aB (c b.2)).all (ic h b)=l:=aX.2 λj k=>t j (rg.1 k);rw[DJ,y,i];by_cases J:1<=b.1
 .by_cases K:b.1<=99
  .by_cases p:1<=c b.2
   .by_cases F:c b.2<=4
    .refine a8 e [43,47,52,58,64] a bE (g.ao a ?_);exact bv
    refine a8 e [43,47,52,58,-64] a bE (g.ao a ?_);exact bv
   refine a8 e [43,47,52,-58] a ds (g.ao a ?_);exact bv
  refine a8 e [43,47,-52] a ds (g.ao a ?_);exact bv
 refine a8 e [43,-47] a ds (g.ao a ?_);exact bv
def BD:bI:=ei c1 (jB bG) (λa b=>bf (h' a b)) λa b=>[ce a=l,c b.2<=4000000]
def MV:bK q 166 BD:=.bk λb d a=>W0 b d a.1 a.2
def IJ(d)(h:c d<=4000000):X q 140 [a3.B d] [] (cC 0 (.B (c d) 2 0 (c d))) [.q 54 2 (c d) (a3.fn d)]:=by
 refine X.J func140 rfl λi=>?_;refine aW a B (g.ep bb a a a a a a λb e=>?_);cases b with
 |true=>
  obtain rfl:=jC (e rfl);refine aW a B (g.e9 2 54 2 (a3.fn []) a ?_);exact Fl
 |false=>
  refine gp [] 7 a B (g.dH 5 54 2 (a3.fn []) a ?_);refine aW a ⟨a,a,show(0+c d)*16<=_ by omega⟩ (g.bb [.q 54 2 (c d) (a3.fn d)] a ?_ ?_)
  .simp[bs,cg]
  exact FA
def IL(d)(e:c d<=4000000):X q 140 [a3.B d] [] (a3.B d) []:=by
 refine X.J func140 rfl λh=>?_;refine aW a B (g.ep bb a a a a a a λb x=>?_);cases b with
 |true=>
  exact Fz
 |false=>
  exact aW a ⟨show(0+c d)*16<=_ by omega,.inl a⟩ Fa
def Uk(d)(e:c d<=4000000):X q 182 [bG.B d] [] (bG.B d) []:=by
 refine X.J func182 rfl λh=>?_;refine aW a B (g.ep bb a a a a a a λb x=>?_);cases b with
 |true=>
  exact Fz
 |false=>
  exact aW a ⟨show(0+c d)*24<=_ by omega,.inl a⟩ Fa
def Ch(d)(e:c d<=4000000):X q 61 [az.B d] [] (az.B d) []:=by
 refine X.J func61 rfl λh=>?_;refine aW a B (g.ep bb a a a a a a λb x=>?_);cases b with
 |true=>
  exact Fz
 |false=>
  exact aW a ⟨show(0+c d)*8<=_ by omega,.inl a⟩ Fa
def _root_.Go.AM.c0.cV(a:c0 α)(d)(i:e<c d)(b):bs (e+1) (cg e (a.fn (d.take e)) (λg=>[a.a7 (d.getD e b)].getD g [])) (a.fn (d.take (e+1))):=by
 have h:d.take (e+1)=d.take e++[d.getD e b]:=by grind[List.take_add_one]
 have:=a.aX (d.take e) (d.getD e b);grind
abbrev G3:bI:=dc (eK bG) (λa=>bG.B a) λa=>[c a<=4000000]
def ac2:bK q 182 G3:=.a9 λb a=>Uk b a
abbrev G4:bI:=dc (eK az) (λa=>az.B a) λa=>[c a<=4000000]
def ac3:bK q 61 G4:=.a9 λb a=>Ch b a
def WV(b)(d:c b.2<=4000000):X q 138 [fH b] [] (fH b) []:=by
 refine X.bg bb func138 rfl rfl rfl λi=>?_;have e:a_ q [(182,G3)]:=.cons ac2 .nil;refine b8 e a ?_ ?_
 .simp only[U,bG.l];exact⟨bG.U _,d⟩
 refine g.bf () [] ?_ (λj h=>absurd h D);simp[bG.l]
abbrev xA:bI:=dc (jB bG) (λa=>fH a) λa=>[c a.2<=4000000]
def EA:bK q 138 xA:=.a9 λb a=>WV b a
def XG(b)(u:c b.2<=4000000)(k:∀r∈b.2,c r.2<=4000000):X q 139 [iR b] [] (iR b) []:=by
 refine X.bg bb func139 rfl rfl rfl λt=>?_;have e:a_ q [(61,G4)]:=.cons ac3 .nil;refine a8 e [902] a B (g.cq 2 1 116 2 (cw.fn []) a a ?_);refine b8 e a B ?_;refine g.aC 4 (λd=>d<=c b.2) (λd:Nat=>[(2,aI 1 0),(3,aI 2 0),(10,cw.B b.2),(11,Q (c b.2)),(12,Q d)])
  (λd=>[.cells 84 [.c (.int .i64 b.1),.c (.B v 2 (c b.2) (cw.fn b.2))],.cells 84 [.c (.int .i64 0),.c (.B l 0 0 λ_=>[])],.cells 84 [.c (.int .i64 b.1),.x 3 2 d (cw.fn (b.2.take d))],.x 116 2 d (cw.fn (b.2.take d))]) (λd=>c b.2-d) 0 a ?_ a ?_ a w ?_
 .simp
 .simp
 intro d o;by_cases m:d<c b.2
 .have C:b.2.getD d ([],[])∈b.2:=M;refine a8 e [13] a ?_ (g.av (d+1) a ?_ ?_ ?_ ?_)
  .have p:=k _ C;have h:b.2.getD (d:Int).toNat cw.F=b.2.getD d ([],[]):=M;simp only[U,h,az.l,a7];exact⟨by omega,B,B,show(d+1)*40<=_ by omega,az.U _,p,by omega,by omega,fi w⟩
  .simp
  .have h:b.2.getD (d:Int).toNat cw.F=b.2.getD d ([],[]):=M;have i:=cw.cV b.2 m ([],[]);simp only[U.X,U,h,az.l,a9,ba];exact⟨bs.same,bs.same,i,i⟩
  .grind
  omega
 obtain rfl:d=c b.2:=w;refine a8 e [-13] a D (g.az ?_);refine b8 e a B (g.bf () [] ?_ (λs j=>absurd j D));simp
abbrev xB:bI:=dc (jB cw) (λa=>iR a) λa=>[c a.2<=4000000,∀b∈a.2,c b.2<=4000000]
def EB:bK q 139 xB:=.a9 λb a=>XG b a.1 a.2
abbrev cF:R:=.c (.B l 0 0 λ_=>[])
def o9(b)(p:c b.1<=4000000)(C:∀m∈b.1,c m.2<=4000000)(s:c b.2.1<=4000000)(O:kq b)(k:c b.2.2<=4000000):
  X q 98 [bW b] [] (.n (.agg [.O 0 (.B (c b.1) 2 0 (c b.1)),.O 1 (.B (c b.2.1) 2 0 (c b.2.1)),.c (.B v 2 (c b.2.2) (a3.fn b.2.2))])) [.q 80 2 (c b.1) (a2.fn b.1),.q 84 2 (c b.2.1) (bg.fn b.2.1)]:=by
 refine X.bg bb func98 rfl rfl rfl λr=>?_;have d:a_ q [(138,xA),(139,xB)]:=.cons EA (.cons EB .nil);refine a8 d [902] a B (g.en 2 0 80 2 (a2.fn []) a a ?_);refine g.en 2 1 84 2 (bg.fn []) a a ?_;refine b8 d a B ?_;refine g.aC 5 (λe=>e<=c b.1) (λe:Nat=>[(1,aI 0 0),(2,aI 1 0),(3,aI 2 0),(9,a2.B b.1),(10,Q (c b.1)),(11,Q e)])
  (λe=>[.cells 30 [.c (.B v 2 (c b.1) (a2.fn b.1)),.c (.B v 2 (c b.2.1) (bg.fn b.2.1)),.c (.B v 2 (c b.2.2) (a3.fn b.2.2))],.cells 30 [cF,cF,cF],.cells 30 [.O 3 (.B e 2 0 e),.O 4 (.B 0 2 0 0),cF],.q 80 2 e (a2.fn (b.1.take e)),.q 84 2 0 (bg.fn [])]) (λe=>c b.1-e) 0 a ?_ a ?_ a w ?_
 .simp
 .simp
 intro e h;by_cases t:e<c b.1
 .have aj:b.1.getD e (0,[])∈b.1:=M;have i:b.1.getD (e:Int).toNat a2.F=b.1.getD e (0,[]):=M;refine a8 d [12] a Pz (g.av (e+1) a D P8 M ?_);omega
 obtain rfl:e=c b.1:=w;rw[c6];refine a8 d [-12] a D (g.az ?_);refine b8 d a B ?_;refine g.aC 5 (λe=>e<=c b.2.1) (λe:Nat=>[(1,aI 0 0),(2,aI 1 0),(3,aI 2 0),(24,bg.B b.2.1),(25,Q (c b.2.1)),(26,Q e)])
  (λe=>[.cells 30 [.c (.B v 2 (c b.1) (a2.fn b.1)),.c (.B v 2 (c b.2.1) (bg.fn b.2.1)),.c (.B v 2 (c b.2.2) (a3.fn b.2.2))],.cells 30 [cF,cF,cF],.cells 30 [.O 3 (.B (c b.1) 2 0 (c b.1)),.O 4 (.B e 2 0 e),cF],.q 80 2 (c b.1) (a2.fn b.1),.q 84 2 e (bg.fn (b.2.1.take e))]) (λe=>c b.2.1-e) 0 a ?_ a ?_ a w ?_
 .simp
 .simp
 intro e h;by_cases t:e<c b.2.1
 .have aj:b.2.1.getD e (0,[])∈b.2.1:=M;have i:b.2.1.getD (e:Int).toNat bg.F=b.2.1.getD e (0,[]):=M;refine a8 d [27] a Ol (g.av (e+1) a D Fw M ?_);omega
 obtain rfl:e=c b.2.1:=w;rw[c6];refine a8 d [-27] a D (g.az ?_);refine b8 d a B (g.aB (IL b.2.2 k) [] a (b8 d a B (g.bf () [3,4] ?_ (λo j=>absurd j D))));simp
def Jm(b)(p:c b.1<=4000000)(C:∀m∈b.1,c m.2<=4000000)(s:c b.2.1<=4000000)(O:kq b)(k:c b.2.2<=4000000):
  X q 98 [bW b] [] (.n (.agg [.O 0 (.B (c b.1) 2 0 (c b.1)),.O 1 (.B (c b.2.1) 2 0 (c b.2.1)),.O 2 (.B (c b.2.2) 2 0 (c b.2.2))])) [.q 80 2 (c b.1) (a2.fn b.1),.q 84 2 (c b.2.1) (bg.fn b.2.1),.q 54 2 (c b.2.2) (a3.fn b.2.2)]:=by
 refine X.bg bb func98 rfl rfl rfl λr=>?_;have d:a_ q [(138,xA),(139,xB)]:=.cons EA (.cons EB .nil);refine a8 d [902] a B (g.en 2 0 80 2 (a2.fn []) a a ?_);refine g.en 2 1 84 2 (bg.fn []) a a ?_;refine b8 d a B ?_;refine g.aC 5 (λe=>e<=c b.1) (λe:Nat=>[(1,aI 0 0),(2,aI 1 0),(3,aI 2 0),(9,a2.B b.1),(10,Q (c b.1)),(11,Q e)])
  (λe=>[.cells 30 [.c (.B v 2 (c b.1) (a2.fn b.1)),.c (.B v 2 (c b.2.1) (bg.fn b.2.1)),.c (.B v 2 (c b.2.2) (a3.fn b.2.2))],.cells 30 [cF,cF,cF],.cells 30 [.O 3 (.B e 2 0 e),.O 4 (.B 0 2 0 0),cF],.q 80 2 e (a2.fn (b.1.take e)),.q 84 2 0 (bg.fn [])]) (λe=>c b.1-e) 0 a ?_ a ?_ a w ?_
 .simp
 .simp
 intro e h;by_cases t:e<c b.1
 .have aj:b.1.getD e (0,[])∈b.1:=M;have i:b.1.getD (e:Int).toNat a2.F=b.1.getD e (0,[]):=M;refine a8 d [12] a Pz (g.av (e+1) a D P8 M ?_);omega
 obtain rfl:e=c b.1:=w;rw[c6];refine a8 d [-12] a D (g.az ?_);refine b8 d a B ?_;refine g.aC 5 (λe=>e<=c b.2.1) (λe:Nat=>[(1,aI 0 0),(2,aI 1 0),(3,aI 2 0),(24,bg.B b.2.1),(25,Q (c b.2.1)),(26,Q e)])
  (λe=>[.cells 30 [.c (.B v 2 (c b.1) (a2.fn b.1)),.c (.B v 2 (c b.2.1) (bg.fn b.2.1)),.c (.B v 2 (c b.2.2) (a3.fn b.2.2))],.cells 30 [cF,cF,cF],.cells 30 [.O 3 (.B (c b.1) 2 0 (c b.1)),.O 4 (.B e 2 0 e),cF],.q 80 2 (c b.1) (a2.fn b.1),.q 84 2 e (bg.fn (b.2.1.take e))]) (λe=>c b.2.1-e) 0 a ?_ a ?_ a w ?_
 .simp
 .simp
 intro e h;by_cases t:e<c b.2.1
 .have aj:b.2.1.getD e (0,[])∈b.2.1:=M;have i:b.2.1.getD (e:Int).toNat bg.F=b.2.1.getD e (0,[]):=M;refine a8 d [27] a Ol (g.av (e+1) a D Fw M ?_);omega
 obtain rfl:e=c b.2.1:=w;rw[c6];refine a8 d [-27] a D (g.az ?_);refine b8 d a B (g.aB (IJ b.2.2 k) [] a (b8 d a B (g.bf () [3,4,5] ?_ (λo j=>absurd j D))));simp
def gR(d:α->Bool)(b:m α):Int:=match b.findIdx? d with|some a=>a|none=>-1
def sX{a:α->Bool}{o}{O}(d:e<c o)(h:a (o.getD e O)=l)(g:∀b,b<e->a (o.getD b O)=v):gR a o=e:=by
 have:o.findIdx? a=f e:=by grind[List.findIdx?_eq_some_iff_getElem]
 rw[gR,this]
def sY{a:α->Bool}{o}{O}(d:∀b,b<c o->a (o.getD b O)=v):gR a o=-1:=by have:o.findIdx? a=n:=wz;rw[gR,this]
def Vq(d)(s:c d<=4000000)(i)(ah)(b:b'->Bool)(o:∀k,k∈d->X q i [fH k,ax (.R ah)] [] (bf (b k)) []):
  X q 129 [cC 0 (.B (c d) 2 0 (c d)),ax (.fn (.func i) [] [.R ah])] [.q 80 2 (c d) (a2.fn d)] (Q (gR b d)) [.q 80 2 (c d) (a2.fn d)]:=by
 refine X.J func129 rfl λr=>?_;refine aW a B (g.aC 1 (λe=>e<=c d/\∀u,u<e->b (d.getD u (0,[]))=v) (λe:Nat=>[(0,cC 0 (.B (c d) 2 0 (c d))),(1,ax (.fn (.func i) [] [.R ah])),(7,Q (c d)),(8,Q e)]) (λ_=>[.q 80 2 (c d) (a2.fn d)]) (λe=>c d-e) 0 a D a D a ⟨by omega,by omega⟩ ?_);rintro e ⟨p,x⟩;by_cases t:e<c d
 .have h:d.getD e (0,[])∈d:=M;have m:d.getD ((0+(e:Int).toNat:Nat)) a2.F=d.getD e (0,[]):=nN;refine a5 [9] a bv ?_;rw[m];refine g.aB (o _ h) [] a ?_;cases C:b (d.getD e (0,[]))with
  |true=>
   exact Oh
  |false=>
   exact zZ
 exact Qm
def Vt(d)(s:c d<=4000000)(i)(ah)(b:eh->Bool)(o:∀k,k∈d->X q i [iR k,ax (.R ah)] [] (bf (b k)) []):
  X q 105 [cC 0 (.B (c d) 2 0 (c d)),ax (.fn (.func i) [] [.R ah])] [.q 84 2 (c d) (bg.fn d)] (Q (gR b d)) [.q 84 2 (c d) (bg.fn d)]:=by
 refine X.J func105 rfl λr=>?_;refine aW a B (g.aC 1 (λe=>e<=c d/\∀u,u<e->b (d.getD u (0,[]))=v) (λe:Nat=>[(0,cC 0 (.B (c d) 2 0 (c d))),(1,ax (.fn (.func i) [] [.R ah])),(7,Q (c d)),(8,Q e)]) (λ_=>[.q 84 2 (c d) (bg.fn d)]) (λe=>c d-e) 0 a D a D a ⟨by omega,by omega⟩ ?_);rintro e ⟨p,x⟩;by_cases t:e<c d
 .have h:d.getD e (0,[])∈d:=M;have m:d.getD ((0+(e:Int).toNat:Nat)) bg.F=d.getD e (0,[]):=nN;refine a5 [9] a bv ?_;rw[m];refine g.aB (o _ h) [] a ?_;cases C:b (d.getD e (0,[]))with
  |true=>
   exact Oh
  |false=>
   exact zZ
 exact Qm
def Vk(d)(y:c d<=4000000)(i)(ah)(j:(Int×Int)->Bool)(p:∀k,k∈d->X q i [.n (.agg [.c (.int .i64 k.1),.c (.int .i64 k.2)]),ax (.R ah)] [] (bf (j k)) []):
  X q 109 [a3.B d,ax (.fn (.func i) [] [.R ah])] [] (Q (gR j d)) []:=by
 refine X.J func109 rfl λu=>?_;refine aW a B (g.aC 0 (λe=>e<=c d/\∀b,b<e->j (d.getD b (0,0))=v) (λe:Nat=>[(0,a3.B d),(1,ax (.fn (.func i) [] [.R ah])),(7,Q (c d)),(8,Q e)]) (λ_=>[]) (λe=>c d-e) 0 a D a D a ⟨by omega,by omega⟩ ?_);rintro e ⟨t,m⟩;by_cases s:e<c d
 .have h:d.getD e (0,0)∈d:=M;have o:d.getD (((e:Int).toNat)) a3.F=d.getD e (0,0):=nN;refine a5 [9] a bv ?_;rw[o];refine g.aB (p _ h) [] a ?_;cases r:j (d.getD e (0,0))with
  |true=>
   refine a5 [16] a D (g.aT (bY.mk [] a ?_ a a a eG));simp[sX s r m]
  |false=>
   exact zZ
 refine a5 [-9] a bQ (g.az ?_);refine aW a B (g.aH [] a ?_ eG);simp[sY (λb x=>m b w)]
def yw(b:α->Bool)(d):(gR b d=-1/\∀a∈d,b a=v)∨∃e:Nat,e<c d/\gR b d=e/\(∀a∈d.take e,b a=v)/\(∀a,d[e]?=f a->b a=l):=by unfold gR;grind[List.findIdx?_eq_some_iff_getElem,List.getElem_of_mem]
def NJ{e6 bp}{b}(a:¬(e6<=u/\u<bp)):nM e6 bp b V u=V u:=bj a
theorem ie{a:m α}(d:e<c a)(b:α):a.take (e+1)=a.take e++[a.getD e b]:=by grind[List.take_add_one]
def JC{d}{b:α->Bool}(g:e<c d)(h:∀a∈d.take e,b a=v)(i:∀a,d[e]?=f a->b a=l):(d.take (e+1)).filter (λa=>!b a)=d.take e:=by grind[List.take_add_one,List.filter_eq_self]
def _root_.Go.AM.c0.cT(a:c0 α)(d)(e)(b)(j)(g:j<=c d):bs j (l5 e (a.a7 b) (a.fn d)) (a.fn (d.set e b)):=by intro i h;simp only[l5,c0.fn,gF];grind
structure RO(d:m b')(bl:b'->Bool)(u:Nat)(nL:m b'):Prop where
 fB:u<=c d
 len:c nL=c d
 done:nL.take (c ((d.take u).filter λF=>!bl F))=(d.take u).filter λF=>!bl F
 hK:∀e,u<=e->nL[e]?=d[e]?
def UK(d)(y:c d<=4000000)(i)(ah)(bl:b'->Bool)(o:∀F,F∈d->X q i [fH F,ax (.R ah)] [] (bf (bl F)) []):
  bk (ι:={k:Nat->m N // ∀e,e<c (d.filter λF=>!bl F)->k e=a2.fn (d.filter λF=>!bl F) e}) q 150 [cC 0 (.B (c d) 2 0 (c d)),ax (.fn (.func i) [] [.R ah])] [.q 80 2 (c d) (a2.fn d)]
   (λ_=>cC 0 (.B (c d) 2 0 (c (d.filter λF=>!bl F)))) (λk=>[.q 80 2 (c d) k.1]):=by
 refine bk.cd func150 rfl rfl rfl λE=>?_;refine aW a B (g.aB (Vq d y i ah bl o) [0] a ?_);rcases yw bl d with⟨j,A⟩|⟨i0,C,j,A,aa⟩
 .rw[j];have t:d.filter (λF=>!bl F)=d:=sh.2 λF p=>by grind
  refine a5 [12] a D (g.bu ⟨a2.fn d,λe _=>by grind⟩ (g.aH [0] a ?_ h6));simp[t]
 rw[j];refine a5 [-12] a kT ?_;refine g.aC 1 (λb:Nat×m b'=>RO d bl b.1 b.2) (λb=>[(0,cC 0 (.B (c d) 2 0 (c d))),(1,ax (.fn (.func i) [] [.R ah])),(5,Q (c ((d.take b.1).filter λF=>!bl F))),(6,Q b.1)])
  (λb=>[.q 80 2 (c d) (a2.fn b.2)]) (λb=>c d-b.1) (i0+1,d) a ?_ a ?_ a ?_ ?_
 .exact P0
 .simp
 .exact Q'
 rintro⟨u,O⟩ ⟨r,a',S,bz⟩;simp only at r a' S bz;by_cases I:u<c d
 .have p:d.getD u (0,[])∈d:=M;have s:c ((d.take u).filter λF=>!bl F)<=u:=fQ (kz _ _) M;have z:O.getD (0+(u:Int).toNat) a2.F=d.getD u (0,[]):=M;refine a5 [19] a pJ ?_;rw[z];refine g.aB (o _ p) [] a ?_;cases J:bl (d.getD u (0,[]))with
  |false=>
   have h:(d.take (u+1)).filter (λF=>!bl F)=(d.take u).filter (λF=>!bl F)++[d.getD u (0,[])]:=ig;refine a5 [29] a ?_ (g.av (u+1,O.set (c ((d.take u).filter λF=>!bl F)) (d.getD u (0,[]))) a ?_ ?_ ?_ ?_)
   .simp only[U,a7];grind
   .simp[h]
   .have aw:=a2.cT O (c ((d.take u).filter λF=>!bl F)) (d.getD u (0,[])) (c d) w;exact OM
   .refine⟨by grind,by grind,OH,λe bp=>?_⟩;grind
   grind
  |true=>
   have h:(d.take (u+1)).filter (λF=>!bl F)=(d.take u).filter (λF=>!bl F):=ig;refine a5 [-29] a kT (g.av (u+1,O) a ?_ ?_ ?_ ?_)
   .simp[h]
   .simp
   .exact Qg
   grind
 obtain rfl:u=c d:=w;rw[c6]at S⊢;have s:c (d.filter λF=>!bl F)<=c d:=kz _ _;refine a5 [-19] a D (g.az ?_);refine aW a pJ (g.aK (a1.eY bb a a a a a a wy) a a ?_);refine aW a pJ (g.bu ⟨nM (0+bV 0 (f (c (d.filter λF=>!bl F):Int))) (0+bV 0 (f (c (d.filter λF=>!bl F):Int))+(bV (c d) n-bV 0 (f (c (d.filter λF=>!bl F):Int)))) nv.zero (a2.fn O),λe bp=>Pc⟩ (g.aH [0] a ?_ h6));simp[bV];rfl
structure RP(d:m eh)(bl:eh->Bool)(u:Nat)(nL:m eh):Prop where
 fB:u<=c d
 len:c nL=c d
 done:nL.take (c ((d.take u).filter λF=>!bl F))=(d.take u).filter λF=>!bl F
 hK:∀e,u<=e->nL[e]?=d[e]?
def IT(d)(y:c d<=4000000)(i)(ah)(bl:eh->Bool)(o:∀F,F∈d->X q i [iR F,ax (.R ah)] [] (bf (bl F)) []):
  bk (ι:={k:Nat->m N // ∀e,e<c (d.filter λF=>!bl F)->k e=bg.fn (d.filter λF=>!bl F) e}) q 99 [cC 0 (.B (c d) 2 0 (c d)),ax (.fn (.func i) [] [.R ah])] [.q 84 2 (c d) (bg.fn d)]
   (λ_=>cC 0 (.B (c d) 2 0 (c (d.filter λF=>!bl F)))) (λk=>[.q 84 2 (c d) k.1]):=by
 refine bk.cd func99 rfl rfl rfl λE=>?_;refine aW a B (g.aB (Vt d y i ah bl o) [0] a ?_);rcases yw bl d with⟨j,A⟩|⟨i0,C,j,A,aa⟩
 .rw[j];have t:d.filter (λF=>!bl F)=d:=sh.2 λF p=>by grind
  refine a5 [12] a D (g.bu ⟨bg.fn d,λe _=>by grind⟩ (g.aH [0] a ?_ h6));simp[t]
 rw[j];refine a5 [-12] a kT ?_;refine g.aC 1 (λb:Nat×m eh=>RP d bl b.1 b.2) (λb=>[(0,cC 0 (.B (c d) 2 0 (c d))),(1,ax (.fn (.func i) [] [.R ah])),(5,Q (c ((d.take b.1).filter λF=>!bl F))),(6,Q b.1)])
  (λb=>[.q 84 2 (c d) (bg.fn b.2)]) (λb=>c d-b.1) (i0+1,d) a ?_ a ?_ a ?_ ?_
 .exact P0
 .simp
 .exact Q'
 rintro⟨u,O⟩ ⟨r,a',S,bz⟩;simp only at r a' S bz;by_cases I:u<c d
 .have p:d.getD u (0,[])∈d:=M;have s:c ((d.take u).filter λF=>!bl F)<=u:=fQ (kz _ _) M;have z:O.getD (0+(u:Int).toNat) bg.F=d.getD u (0,[]):=M;refine a5 [19] a pJ ?_;rw[z];refine g.aB (o _ p) [] a ?_;cases J:bl (d.getD u (0,[]))with
  |false=>
   have h:(d.take (u+1)).filter (λF=>!bl F)=(d.take u).filter (λF=>!bl F)++[d.getD u (0,[])]:=ig;refine a5 [29] a ?_ (g.av (u+1,O.set (c ((d.take u).filter λF=>!bl F)) (d.getD u (0,[]))) a ?_ ?_ ?_ ?_)
   .simp only[U,a7];grind
   .simp[h]
   .have aw:=bg.cT O (c ((d.take u).filter λF=>!bl F)) (d.getD u (0,[])) (c d) w;exact OM
   .refine⟨by grind,by grind,OH,λe bp=>?_⟩;grind
   grind
  |true=>
   have h:(d.take (u+1)).filter (λF=>!bl F)=(d.take u).filter (λF=>!bl F):=ig;refine a5 [-29] a kT (g.av (u+1,O) a ?_ ?_ ?_ ?_)
   .simp[h]
   .simp
   .exact Qg
   grind
 obtain rfl:u=c d:=w;rw[c6]at S⊢;have s:c (d.filter λF=>!bl F)<=c d:=kz _ _;refine a5 [-19] a D (g.az ?_);refine aW a pJ (g.aK (a1.eY bb a a a a a a wy) a a ?_);refine aW a pJ (g.bu ⟨nM (0+bV 0 (f (c (d.filter λF=>!bl F):Int))) (0+bV 0 (f (c (d.filter λF=>!bl F):Int))+(bV (c d) n-bV 0 (f (c (d.filter λF=>!bl F):Int)))) rH.zero (bg.fn O),λe bp=>Pc⟩ (g.aH [0] a ?_ h6));simp[bV];rfl
abbrev dH:=Int×Int×Int×bA
abbrev lZ(a:dH):m N:=[.int .i64 a.1,.int .i64 a.2.1,.int .i64 a.2.2.1,.T a.2.2.2]
abbrev vs(a:dH):m R:=[.c (.int .i64 a.1),.c (.int .i64 a.2.1),.c (.int .i64 a.2.2.1),.c (.T a.2.2.2)]
abbrev er(a:dH):y:=.n (.agg (vs a))
abbrev iP(a:m N):y:=ax (.R a)
def VN(b)(d):X q 151 [fH b,iP (lZ d)] [] (bf (b.1==d.2.1)) []:=by refine X.J func151 rfl λe=>?_;exact aW a B (g.ao a)
def VO(d:Int×Int)(bN)(j)(b:Nat->m N):X q 154 [.n (.agg [.c (.int .i64 d.1),.c (.int .i64 d.2)]),iP [.int .i64 bN,.B v 2 j b]] [] (bf (d.2==bN)) []:=by refine X.J func154 rfl λe=>?_;exact aW a B (g.ao a)
def Zb(a:α->Bool)(d):decide (gR a d≥0)=d.any a:=by
 rcases yw a d with⟨b,s⟩|⟨e,bp,b,_,i⟩
 .grind
 rw[b];symm;have:=i _ (bH bp);grind
def Vd(d)(h:c d<=4000000)(bN)(j)(b:Nat->m N):X q 64 [a3.B d,ax (.fn (.func 154) [] [.R [.int .i64 bN,.B v 2 j b]])] [] (bf (d.any λe=>e.2==bN)) []:=by refine X.J func64 rfl λk=>?_;refine aW a B ?_;refine g.aB (Vk d h 154 [.int .i64 bN,.B v 2 j b] (λe=>e.2==bN) λi _=>VO i bN j b) [] a ?_;refine aW a B (g.ao a ?_);simp only[U];exact Zb _ d
def Wv(d)(b)(e:c b<=4000000):X q 153 [iR d,iP [.B v 2 (c b) (a3.fn b)]] [] (bf (b.any λh=>h.2==d.1)) []:=by refine X.J func153 rfl λi=>?_;refine a5 [901] a B ?_;refine g.freeze 2 0 a a a ?_;refine aW a B ?_;refine g.aB (Vd b e d.1 (c d.2) (cw.fn d.2)) [] a ?_;exact aW a B (g.ao a)
abbrev xO(a:Nat)(b:dH):y:=ax (.fn (.func a) [] [.R (lZ b)])
def UF(d)(t:d.1=1):X q 108 [er d] [] (xO 149 d) []:=by refine X.J func108 rfl λb=>?_;refine a5 [901] a B ?_;refine g.freeze 1 0 a a a ?_;exact a5 [5] a gH (g.ao a)
def IR(d)(t:d.1=2):X q 108 [er d] [] (xO 152 d) []:=by refine X.J func108 rfl λb=>?_;refine a5 [901] a B ?_;refine g.freeze 1 0 a a a ?_;exact a5 [-5,8] a gH (g.ao a)
def IS(d)(t:d.1=3):X q 108 [er d] [] (xO 155 d) []:=by refine X.J func108 rfl λb=>?_;refine a5 [901] a B ?_;refine g.freeze 1 0 a a a ?_;exact a5 [-5,-8,11] a gH (g.ao a)
def UG(d)(t:d.1=4):X q 108 [er d] [] (xO 156 d) []:=by refine X.J func108 rfl λb=>?_;refine a5 [901] a B ?_;refine g.freeze 1 0 a a a ?_;exact a5 [-5,-8,-11,14] a gH (g.ao a)
def UH(d)(h:d.1≠1)(b:d.1≠2)(i:d.1≠3)(e:d.1≠4):X q 108 [er d] [] (ax (.fn (.func 157) [] [])) []:=by refine X.J func108 rfl λj=>?_;refine a5 [901] a B ?_;refine g.freeze 1 0 a a a ?_;exact a5 [-5,-8,-11,-14] a (by simp[h,b,i,e]) (g.ao a)
abbrev tt(a:m b'):N:=.B v 2 (c a) (a2.fn a)
abbrev tu(a:m eh):N:=.B v 2 (c a) (bg.fn a)
abbrev hU(a:m (Int×Int)):N:=.B v 2 (c a) (a3.fn a)
abbrev tv(a:cd)(g:dH)(h:m aq)(b d e:R):m aq:=[.cells 30 [.c (tt a.1),.c (tu a.2.1),.c (hU a.2.2)],.cells 35 (vs g),.cells 30 [cF,cF,cF]]++h++[.cells 30 [b,d,e]]
abbrev dA(a d b:Nat):R:=.O a (.B d 2 0 b)
def UN(b)(d)(k:c b.1<=4000000):
  bk (ι:={e:Nat->m N // ∀i,i<c (b.1.filter λh=>!(h.1==d.2.1))->e i=a2.fn (b.1.filter λh=>!(h.1==d.2.1)) i}) q 149 [aI 5 0,iP (lZ d)]
   (tv b d [.q 80 2 (c b.1) (a2.fn b.1),.q 84 2 (c b.2.1) (bg.fn b.2.1)] (dA 3 (c b.1) (c b.1)) (dA 4 (c b.2.1) (c b.2.1)) (.c (hU b.2.2)))
   (λ_=>.S []) (λe=>tv b d [.q 80 2 (c b.1) e.1,.q 84 2 (c b.2.1) (bg.fn b.2.1)] (dA 3 (c b.1) (c (b.1.filter λh=>!(h.1==d.2.1)))) (dA 4 (c b.2.1) (c b.2.1)) (.c (hU b.2.2))):=by refine bk.bP func149 rfl rfl rfl (g.aO ?_);refine aW a B (g.a2 (UK b.1 k 151 (lZ d) (λh=>h.1==d.2.1) λh _=>VN h d) [3] a bn ?_);rintro⟨e,j⟩;exact aW a B ⟨⟨e,j⟩,.inr a,a,a,_,_,_,a,a,a,B⟩
def WQ(k)(d:jO k=l)(b):X q 157 [.n (.Q b)] k (.S []) k:=by refine bk.toX (bk.bP (ι:=Unit) (res:=λ_=>.S []) (ap:=λ_=>k) func157 rfl rfl rfl (g.aO ?_));refine aW a B ?_;exact⟨(),.inr a,a,d,_,_,_,a,a,a,B⟩
abbrev mP(a:cd)(b:dH):m aq:=tv a b [.q 80 2 (c a.1) (a2.fn a.1),.q 84 2 (c a.2.1) (bg.fn a.2.1)] (dA 3 (c a.1) (c a.1)) (dA 4 (c a.2.1) (c a.2.1)) (.c (hU a.2.2))
def jq(d:Nat)(a:m (Int×Int))(e:eh):Bool:=(a.drop d).any λb=>b.2==e.1
def T4(b)(d:dH)(e:d.2.1<0∨d.2.1>c b.2.2):X q 152 [aI 5 0,iP (lZ d)] (mP b d) (.S []) (mP b d):=by
 refine bk.toX (bk.bP (ι:=Unit) (res:=λ_=>.S []) (ap:=λ_=>mP b d) func152 rfl rfl rfl (g.aO ?_));by_cases x:d.2.1<0
 .exact a5 [7,16] a oN Ov
 exact a5 [-7,16] a bQ Ov
def _root_.Go.AM.c0.g7(a:c0 α)(d)(j A):bs A (fA j (a.fn d)) (a.fn (d.drop j)):=λb _=>by simp[fA,c0.fn,gF,ak]
abbrev Io:y:=aI 5 0
abbrev He(b:cd)(a:dH):N:=.B (xM v n) 2 (bV (c b.2.2) n-bV 0 (f a.2.1)) (fA (bV 0 (f a.2.1)) (a3.fn b.2.2))
def nu(b:cd)(a:dH)(d:Nat)(e:a.2.1=d)(g:d<=c b.2.2):U (jh (c b.2.2) (f a.2.1) n):=by show 0<=a.2.1/\a.2.1<=(c b.2.2:Int);omega
def T5(b:cd)(d:dH)(j:Nat)(i:d.2.1=j)(t:j<=c b.2.2)(s:c b.2.1<=4000000)(x:c b.2.2<=4000000):
  bk (ι:={e:Nat->m N // ∀h,h<c (b.2.1.filter λk=>!jq j b.2.2 k)->e h=bg.fn (b.2.1.filter λk=>!jq j b.2.2 k) h}) q 152 [aI 5 0,iP (lZ d)] (mP b d) (λ_=>.S [])
   (λe=>tv b d [.q 80 2 (c b.1) (a2.fn b.1),.q 84 2 (c b.2.1) e.1] (dA 3 (c b.1) (c b.1)) (dA 4 (c b.2.1) (c (b.2.1.filter λk=>!jq j b.2.2 k))) (.c (.B v 2 d.2.1.toNat (a3.fn b.2.2)))++[.M]):=by
 refine bk.bP func152 rfl rfl rfl (g.aO ?_);have p:d.2.1.toNat=j:=w;refine a5 [-7,-16,901] a pJ ?_;refine g.hz (ι:=Unit) b6 7 8 (λh=>ay h 6) (λh=>[Io,Io,aI 5 2,ax (hU b.2.2),iP [.int .i64 d.2.1,.int .i64 d.2.2.1,.T d.2.2.2],Q d.2.1,ax (He b d)].getD h .any) (λ_ h=>[.any,.any,.any,.any,.any,.any,.any,aI 6 0,.any].getD h .any)
  (λ_=>mP b d++[.cells 28 [cF]]) (λ_=>mP b d++[.cells 28 [.c (He b d)]]) a a a a a a a a a a
  ⟨aZ.w,aZ.w,aZ.w,aZ.w,aZ.w,aZ.w,?_,B,B,B⟩
  (λ_=>⟨aZ.w,aZ.w,aZ.w,aZ.w,aZ.w,aZ.w,?_,B,B⟩)
  (dX.de (ee (bh:=[]) bb a_.nil (ap:=f _) (cn:=[]) a B)) (λ_=>ee (bh:=[]) bb a_.nil (ap:=f _) (cn:=[]) a B) λ_=>?_
 .exact QD
 .exact QD
 refine a5 [902] a B (g.bb (mP b d++[.cells 28 [.c (hU (b.2.2.drop j))]]) a ?_ ?_)
 .have r:=a3.g7 b.2.2 j (c b.2.2-j);have u:bV 0 (f d.2.1)=j:=p;simp only[U.X,U,u,a9,ba,sj];exact⟨⟨bs.same,bs.same,bs.same⟩,⟨bs.same,bs.same,bs.same⟩,bs.same,bs.same,bs.same,a,r⟩
 refine g.freeze 3 6 a a a ?_;refine aW a B (g.a2 (IT b.2.1 s 153 [hU (b.2.2.drop j)] (jq j b.2.2) λk _=>Wv k (b.2.2.drop j) bQ) [4] a bn ?_);rintro⟨e,o⟩;exact aW a ⟨show 0<=d.2.1 by omega,Int.le_refl _,show d.2.1<=(c b.2.2:Int) by omega⟩ ⟨⟨e,o⟩,.inr a,a,a,_,_,_,a,a,a,B⟩
abbrev oB(a:cd)(d:dH)(b:Nat->m N):m aq:=tv a d [.q 80 2 (c a.1) (a2.fn a.1),.q 84 2 (c a.2.1) (bg.fn a.2.1),.q 54 2 (c a.2.2) b] (dA 3 (c a.1) (c a.1)) (dA 4 (c a.2.1) (c a.2.1)) (dA 5 (c a.2.2) (c a.2.2))
abbrev yg(b:cd)(a:dH):Nat->m N:=l5 (0+a.2.1.toNat) [.int .i64 (3-(b.2.2.getD (0+a.2.1.toNat) a3.F).1),.int .i64 (b.2.2.getD (0+a.2.1.toNat) a3.F).2] (a3.fn b.2.2)
def UY(b)(d:dH)(h:¬(0<=d.2.1/\d.2.1<c b.2.2)):X q 156 [aI 6 0,iP (lZ d)] (oB b d (a3.fn b.2.2)) (.S []) (oB b d (a3.fn b.2.2)):=by
 refine bk.toX (bk.bP (ι:=Unit) (res:=λ_=>.S []) (ap:=λ_=>oB b d (a3.fn b.2.2)) func156 rfl rfl rfl (g.aO ?_));by_cases e:0<=d.2.1
 .exact a5 [6,-15] a (by simp[e];omega) O1
 exact a5 [-6,-15] a bQ O1
abbrev xU:y:=aI 6 0
abbrev Ip:y:=aI 6 2
abbrev Ik(a:cd):y:=.n (.Q (dA 5 (c a.2.2) (c a.2.2)))
abbrev xQ(b:cd)(a:dH):y:=cC 5 (.bt (c b.2.2) 2 (0+a.2.1.toNat) 0)
abbrev In(a:dH):y:=iP [.int .i64 a.2.1,.int .i64 a.2.2.1,.T a.2.2.2]
abbrev lq(b:cd)(a:dH):Int:=(b.2.2.getD (0+a.2.1.toNat) a3.F).1
def UZ(b)(d:dH)(k:0<=d.2.1)(j:d.2.1<c b.2.2)(i:a7 .i64 (3-lq b d)):X q 156 [aI 6 0,iP (lZ d)] (oB b d (a3.fn b.2.2)) (.S []) (oB b d (yg b d)):=by
 refine bk.toX (bk.bP (ι:=Unit) (res:=λ_=>.S []) (ap:=λ_=>oB b d (yg b d)) func156 rfl rfl rfl (g.aO ?_));refine a5 [6,15,901] a pJ ?_;have cl:0<=d.2.1/\d.2.1<((c b.2.2:Nat):Int):=⟨k,j⟩;have h:c b.2.2=c b.2.2/\0+d.2.1.toNat<c b.2.2:=⟨rfl,by omega⟩
 refine g.hz (ι:=Unit) b6 0 18 (λe=>ay 4 e&&ay e 15) (λe=>[.any,.any,.any,.any,In d,Q d.2.1,xU,xU,Ip,Ik b,In d,Q d.2.1,xQ b d,xQ b d,Q (lq b d),Q (3-lq b d)].getD e .any) (λ_ e=>[xU,xU,Ip,Ik b,.any,.any,.any,.any,.any,.any,.any,.any,.any,.any,.any,.any,xQ b d,xQ b d,.any].getD e .any)
  (λ_=>oB b d (a3.fn b.2.2)) (λ_=>oB b d (yg b d)) a a a a a a a a a a
  ⟨B,B,B,B,aZ.w,aZ.w,aZ.w,aZ.w,aZ.w,aZ.w,aZ.w,aZ.w,?_,aZ.w,?_,?_,B,B,B,B⟩
  (λ_=>⟨B,aZ.w,aZ.w,aZ.w,aZ.w,aZ.w,aZ.w,aZ.w,aZ.w,aZ.w,aZ.w,aZ.w,?_,aZ.w,?_,?_,?_,aZ.w,B⟩)
  (dX.de (aZ.w)) (λ_=>?_) λ_=>?_
 .exact E_
 .exact aZ.eval (bh:=[]) bb a_.nil a h
 .exact aZ.eval (bh:=[]) bb a_.nil a i
 .exact E_
 .exact aZ.eval (bh:=[]) bb a_.nil a h
 .exact aZ.eval (bh:=[]) bb a_.nil a i
 .exact E_
 .exact ee (bh:=[]) bb a_.nil (ap:=f _) a h
 exact Re
def Vy(j e6 bp):X q 45 [Q j,Q e6,Q bp] [] (bf (decide (e6<=j/\j<=bp))) []:=by
 refine X.J func45 rfl λd=>?_;by_cases b:e6<=j
 .by_cases s:j<=bp
  .refine a5 [10,14] a bQ (g.ao a ?_);exact bv
  refine a5 [10,-14] a bQ (g.ao a ?_);simp;omega
 refine a5 [-10,-14] a bQ (g.ao a ?_);simp;omega
abbrev kE:bI:=j' c1 c1 c1 (λd b a=>bf (decide (b<=d/\d<=a))) λ_ _ _=>[]
def lo:bK q 45 kE:=.c5 λd b a _=>Vy d b a
def Ui(b:Nat)(k:b<=4000000):X q 251 [Q b] [] (Q (fa b)) []:=by
 refine X.J func251 rfl λj=>?_;by_cases i:b<1
 .refine a5 [6,9] a bQ (g.ao a ?_);have:fa b=0:=by simp[fa,i]
  simp[this]
 by_cases h:8<b
 .refine a5 [-6,9] a bQ (g.ao a ?_);have:fa b=0:=by simp[fa,h]
  simp[this]
 by_cases d:b<=2
 .refine a5 [-6,-9,10] a bQ (g.ao a ?_);have:fa b=2:=by simp only[fa,bj (show¬(b<1∨8<b) by omega),bo d]
  simp[this]
 by_cases e:b<=4
 .refine a5 [-6,-9,-10,13] a bQ (g.ao a ?_);have:fa b=4:=by simp only[fa,bj (show¬(b<1∨8<b) by omega),bj d,bo e]
  simp[this]
 refine a5 [-6,-9,-10,-13] a bQ (g.ao a ?_);have:fa b=8:=by simp only[fa,bj (show¬(b<1∨8<b) by omega),bj d,bj e]
 simp[this]
def Vx(d)(e)(o:c d<=4000000):X q 196 [bR.B d,b1 e] [] (bf (d.contains e)) []:=by
 refine X.J func196 rfl λm=>?_;refine aW a B (g.aC 0 (λb=>b<=c d/\∀i,i<b->d.getD i []≠e) (λb:Nat=>[(0,bR.B d),(1,b1 e),(5,Q b)]) (λ_=>[]) (λb=>c d-b) 0 a D a D a ⟨by omega,by omega⟩ ?_);rintro b ⟨j,k⟩;by_cases s:b<c d
 .have h:d.getD (b:Int).toNat bR.F=d.getD b []:=M;by_cases p:d.getD b []=e
  .refine a5 [9,17] a ?_ (g.aT (bY.zero a ?_))
   .simp only[U,h];grind
   have:e∈d:=M;simp[this]
  refine a5 [9,-17] a ?_ (g.av (b+1) a ?_ ?_ ?_ ?_)
  .simp only[U,h,a7];grind
  .simp
  .simp
  .grind
  omega
 refine a5 [-9] a bQ (g.az ?_);refine aW a B (g.ao a ?_);have:¬e∈d:=λr=>by grind[List.getElem_of_mem]
 simp[this]
def Um(b)(d:cB b=l):X q 250 [b1 b] [] (Q (gj b)) []:=by
 refine X.J func250 rfl λo=>?_;have j:=d;simp[cB,ck,bw]at j;refine aW a B (g.aC 0 (λe=>e<=c b) (λe:Nat=>[(0,b1 b),(3,Q (gj (b.take e))),(4,Q e)]) (λ_=>[]) (λe=>c b-e) 0 a (by simp[gj]) a D a w ?_);intro e i;by_cases k:e<c b
 .have C:=xF d i;have r:=xF d (e:=e+1) w;have p:=HT k;have s:=qx j.2 (b.getD e 0) (CY k);have m:97<=dq b e/\dq b e<=122:=EV;refine a5 [8] a ?_ (g.av (e+1) a ?_ ?_ ?_ ?_)
  .simp only[U,j_,a7];grind
  .have h:(dq b e-97) % 256=dq b e-97:=Int.emod_eq_of_lt w w;exact bE
  .simp
  .grind
  grind
 obtain rfl:e=c b:=w;exact PR
def ac5:bK q 250 (dc eE (λa=>Q (gj a)) λa=>[cB a=l]):=.a9 λa b=>Um a b
def WI(h)(b)(d:ce h=l)(i:cB b=l):X q 195 [Q h,b1 b] [] (Q (dW h b)) []:=by
 refine X.J func195 rfl λp=>?_;have o:a_ q [(250,dc eE (λb=>Q (gj b)) λb=>[cB b=l])]:=.cons ac5 .nil;have e:=d;simp[ce,ck,bw]at e;have j:=xE i;refine b8 o a ?_ (g.ao a ?_)
 .have m:0<=gj b*(2*h+1):=Int.mul_nonneg j.1 w;have k:gj b*(2*h+1)<=282429536481*199:=Int.mul_le_mul w w w w;generalize gj b*(2*h+1)=r at m k;simp[U,a7];grind
 exact bE
def zw:bK q 195 (ei c1 eE (λa b=>Q (dW a b)) λa b=>[ce a=l,cB b=l]):=.bk λa b d=>WI a b d.1 d.2
def UX(d)(j)(p:c d<=4000000):X q 194 [e_.B d,Q j] [] (Q (iU d j)) []:=by
 refine X.J func194 rfl λo=>?_;refine aW a B (g.aC 0 (λb=>b<=c d/\∀i,i<b->(d.getD i (0,0)).1≠j) (λb:Nat=>[(0,e_.B d),(1,Q j),(5,Q b)]) (λ_=>[]) (λb=>c d-b) 0 a D a D a ⟨by omega,by omega⟩ ?_);rintro b ⟨k,m⟩;by_cases s:b<c d
 .have h:d.getD (b:Int).toNat e_.F=d.getD b (0,0):=M;by_cases r:(d.getD b (0,0)).1=j
  .refine a5 [9,18] a ?_ (g.aT (bY.zero a ?_))
   .simp only[U,h];grind
   have:iU d j=(d.getD b (0,0)).2:=by
    have:d.find? (λe=>e.1==j)=f (d.getD b (0,0)):=by grind[List.find?_eq_some_iff_getElem]
    rw[iU,this]
   simp_all
  refine a5 [9,-18] a ?_ (g.av (b+1) a ?_ ?_ ?_ ?_)
  .simp only[U,h,a7];grind
  .simp
  .simp
  .grind
  omega
 refine a5 [-9] a bQ (g.az ?_);refine aW a B (g.ao a ?_);have:iU d j=0:=by have:d.find? (λe=>e.1==j)=n:=wz;rw[iU,this]
 simp[this]
theorem HQ(a:1<=j)(b:j<=8):j<=fa j/\fa j<=8:=FX
abbrev G5:bI:=dc c1 (λa=>Q (fa a.toNat)) λa=>[0<=a/\a<=4000000]
def ac4:bK q 251 G5:=.a9 λb d=>by
 obtain⟨a,rfl⟩:∃a:Nat,b=a:=⟨b.toNat,by exact lI⟩
 exact Ui a lI
def W7(b)(i:cB b=l):X q 200 [b1 b] [] (b1 (fK b)) []:=by
 refine X.J func200 rfl λk=>?_;have e:a_ q [(251,G5)]:=.cons ac4 .nil;have h:=i;simp only[cB,ck,bw]at h;have o:=HQ h.1.1 h.1.2;refine b8 e a bv (g.aC 0 (λd=>c b+d<=fa (c b)) (λd:Nat=>[(0,b1 (b++aU d 46)),(3,Q (fa (c b)))]) (λ_=>[]) (λd=>fa (c b)-d) 0 a D a D a w ?_);intro d m;by_cases p:c b+d<fa (c b)
 .refine a8 e [10] a bQ (g.av (d+1) a ?_ ?_ ?_ ?_)
  .simp[List.replicate_succ']
  .simp
  .grind
  grind
 have j:fa (c b)-c b=d:=w;refine a8 e [-10] a bQ (g.az ?_);refine b8 e a B (g.ao a ?_);simp[fK,i,j]
def XR(b):X q 197 [.n (.agg [.c (.int .i64 b.1),.c (.int .i64 b.2)])] [] (bf (fW b)) []:=by
 refine X.J func197 rfl λh=>?_;have e:a_ q [(45,kE)]:=.cons lo .nil;by_cases d:0<=b.1/\b.1<=999999999988
 .by_cases i:1<=b.2/\b.2<=99
  .refine a8 e [6,10] a (by simp[d,i]) (g.ao a ?_);have:fW b=l:=by simp[fW,d,i];omega
   simp[this]
  refine a8 e [6,-10] a (by simp[d,i]<;>omega) (g.ao a ?_);have:fW b=v:=by simp[fW,d];omega
  simp[this]
 refine a8 e [-6,-10] a bQ (g.ao a ?_);have:fW b=v:=by simp[fW];omega
 simp[this]
abbrev HD:bI:=dc sf (λa=>bf (fW a)) λ_=>[]
def adN:bK q 197 HD:=.a9 λa _=>XR a
def Ka{a:α->Bool}{d}(b:d.any a=l):0<=gR a d:=by unfold gR;grind
theorem Zc{a:α->Bool}{d}(b:d.any a=v):gR a d=-1:=by unfold gR;grind
def Vl(d)(i)(b:Int×Int->Bool)(p:∀h,h∈d->X q i [.n (.agg [.c (.int .i64 h.1),.c (.int .i64 h.2)])] [] (bf (b h)) []):
  X q 109 [a3.B d,ax (.fn (.func i) [] [])] [] (Q (gR b d)) []:=by
 refine X.J func109 rfl λm=>?_;have s:=m.B 0 a;refine aW a B (g.b6 (λe=>e<=c d/\∀u,u<e->b (d.getD u (0,0))=v) (λe:Nat=>[(0,a3.B d),(1,ax (.fn (.func i) [] [])),(7,Q (c d)),(8,Q e)]) (λ_=>[]) (λe=>c d-e) 0 a D a B ⟨by omega,by omega⟩ ?_);rintro e ⟨o,x⟩;by_cases t:e<c d
 .have j:d.getD e (0,0)∈d:=M;have k:d.getD (e:Int).toNat a3.F=d.getD e (0,0):=M;refine a5 [9] a bv ?_;rw[k];refine g.aB (p _ j) [] a ?_;cases A:b (d.getD e (0,0))with
  |true=>
   exact OO
  |false=>
   exact Ow
 exact PY
def U9(d)(h)(b:Int×Int->Bool)(i:∀e,e∈d->X q h [.n (.agg [.c (.int .i64 e.1),.c (.int .i64 e.2)])] [] (bf (b e)) []):
  X q 64 [a3.B d,ax (.fn (.func h) [] [])] [] (bf (d.any b)) []:=by
 refine X.J func64 rfl λj=>?_;refine aW a B (g.aB (Vl d h b i) [] a ?_);cases t:d.any b with
 |true=>
  exact Ps
 |false=>
  exact OT
def Vr(d)(i)(ah)(b:b'->Bool)(p:∀h,h∈d->X q i [fH h,ax (.R ah)] [] (bf (b h)) []):
  X q 129 [a2.B d,ax (.fn (.func i) [] [.R ah])] [] (Q (gR b d)) []:=by
 refine X.J func129 rfl λm=>?_;have s:=m.B 0 a;refine aW a B (g.b6 (λe=>e<=c d/\∀u,u<e->b (d.getD u (0,[]))=v) (λe:Nat=>[(0,a2.B d),(1,ax (.fn (.func i) [] [.R ah])),(7,Q (c d)),(8,Q e)]) (λ_=>[]) (λe=>c d-e) 0 a D a B ⟨by omega,by omega⟩ ?_);rintro e ⟨o,x⟩;by_cases t:e<c d
 .have j:d.getD e (0,[])∈d:=M;have k:d.getD (e:Int).toNat a2.F=d.getD e (0,[]):=M;refine a5 [9] a bv ?_;rw[k];refine g.aB (p _ j) [] a ?_;cases A:b (d.getD e (0,[]))with
  |true=>
   exact OO
  |false=>
   exact Ow
 exact PY
def U'(d)(e)(ah)(b:b'->Bool)(i:∀h,h∈d->X q e [fH h,ax (.R ah)] [] (bf (b h)) []):
  X q 88 [a2.B d,ax (.fn (.func e) [] [.R ah])] [] (bf (d.any b)) []:=by
 refine X.J func88 rfl λj=>?_;refine aW a B (g.aB (Vr d e ah b i) [] a ?_);cases t:d.any b with
 |true=>
  exact Ps
 |false=>
  exact OT
def Vp(d)(i)(ah)(H:Y->(Nat->Option Obj)->Prop)(h:Int->Bool)(t:∀k,k∈d->X q i [Q k,ax (.R ah)] [.K H] (bf (h k)) [.K H]):
  X q 127 [az.B d,ax (.fn (.func i) [] [.R ah])] [.K H] (Q (gR h d)) [.K H]:=by
 refine X.J func127 rfl λp=>?_;have x:=p.B 0 a;refine aW a B (g.aC 1 (λe=>e<=c d/\∀b,b<e->h (d.getD b 0)=v) (λe:Nat=>[(0,az.B d),(1,ax (.fn (.func i) [] [.R ah])),(7,Q (c d)),(8,Q e)]) (λ_=>[.K H]) (λe=>c d-e) 0 a D a D a ⟨by omega,by omega⟩ ?_);rintro e ⟨s,m⟩;by_cases r:e<c d
 .have j:d.getD e 0∈d:=M;have o:d.getD (e:Int).toNat az.F=d.getD e 0:=M;refine a5 [9] a bv ?_;rw[o];refine g.aB (t _ j) [0] a ?_;cases u:h (d.getD e 0)with
  |true=>
   refine a5 [16] a D (g.aT (bY.mk [0] a ?_ a a a h6));simp[sX r u m]
  |false=>
   exact zZ
 refine a5 [-9] a bQ (g.az ?_);refine aW a B (g.aH [0] a ?_ h6);simp[sY (λb y=>m b w)]
def U_(d)(e)(ah)(H:Y->(Nat->Option Obj)->Prop)(b:Int->Bool)(i:∀h,h∈d->X q e [Q h,ax (.R ah)] [.K H] (bf (b h)) [.K H]):
  X q 85 [az.B d,ax (.fn (.func e) [] [.R ah])] [.K H] (bf (d.any b)) [.K H]:=by
 refine X.J func85 rfl λk=>?_;refine aW a B (g.aB (Vp d e ah H b i) [0] a ?_);cases j:d.any b with
 |true=>
  refine a5 [8] a (fi (Ka j)) (g.aH [0] a ?_ h6);simp
 |false=>
  refine a5 [-8] a (na N3) (g.aH [0] a ?_ h6);simp
def Gu{b d:ae}(e:r.op=.call {callee:=.builtin .append,args:=#[b,d],argTypes:=#[78,78]}):jY T r b d 114 mA:=
 ⟨⟨78,78,C7,C7,e,(bb _ _ a),rfl,(bb _ _ a),rfl⟩,(bb _ _ a),by decide,by decide⟩
def Hc(d)(j):∀a,a<j->∀e∈bG.fn d a,np e=l:=by
 intro a _ e b;have:bG.fn d a=[.int .i64 (d.getD a bG.F).1,.T (d.getD a bG.F).2]:=rfl;rw[this]at b;rcases e9.1 b with rfl|b
 .rfl
 rcases e9.1 b with rfl|b
 .rfl
 grind
abbrev pR(a:m cW):Type:={b:fp×m Y // eo 2 (c a) (bG.fn a) b.2}
abbrev te(d)(a:pR d):aq:=.K (cr 114 2 a.1.1 (c d) a.1.2)
abbrev rT(d)(a:pR d):N:=.val (cZ a.1.1 (c d))
def Ul(d)(i:0<c d)(k:c d<=4000000):bk (ι:=pR d) q 182 [bG.B d] [] (λb=>ax (rT d b)) (λb=>[te d b]):=by
 refine bk.cd func182 rfl rfl rfl λj=>?_;refine aW a B (g.ep bb a a a a a a λh m=>?_);cases h with
 |true=>grind
 |false=>
  refine gp [] 7 a B (g.fz (Gu a) a a a i z8 (Hc d _) a a λb=>?_);refine aW a B (g.bu b (g.aH [0] a ?_ (λo e=>absurd e D)));simp
def WW(b)(h:0<c b.2)(e:c b.2<=4000000):bk (ι:=pR b.2) q 138 [fH b] [] (λd=>.n (.agg [.c (.int .i64 b.1),.c (rT b.2 d)])) (λd=>[te b.2 d]):=by refine bk.bA bb func138 rfl rfl rfl λj=>?_;refine aW a B ?_;refine g.a2 (Ul b.2 h e) [] a bn ?_;intro d;refine aW a B ?_;refine g.bf d [2] ?_ (λk i=>absurd i D);simp
def nx(a:m b')(b:Nat)(e:Y)(d:Nat):N:=if d=b then .val e else .B v 2 (a.getD d (0,[])).2.length (bG.fn (a.getD d (0,[])).2)
def gm(a:m b')(b:Nat)(e:Y)(d:Nat):m N:=[.int .i64 (a.getD d (0,[])).1,nx a b e d]
def Lt{Z}{i0}{bz}(t:e≠i0):bs (e+1) (cg e (gm Z i0 bz) (λb=>[a2.a7 (Z.getD e (0,[]))].getD b [])) (gm Z i0 bz):=λa d=>by
 unfold cg;split
 .rfl
 have:a=e:=w;subst this;rw[ss];exact E0
def Lu{Z}{i0}{bz EJ}:bs (i0+1) (cg i0 (gm Z i0 EJ) (λb=>[[.int .i64 (Z.getD i0 (0,[])).1,.val bz]].getD b [])) (gm Z i0 bz):=λa d=>by
 unfold cg;split
 .simp only[gm,nx,bj (show a≠i0 by omega)]
 have:a=i0:=w;subst this;rw[ss];simp only[gm,nx,bo];rfl
abbrev S3:Type:=Nat×fp×Nat×m Y
def I3(b:m b')(a:Nat)(d:S3):Prop:=d.1<=c b/\((d.1<=a/\d.2.2.1=0)∨(a<d.1/\d.2.2.1=(b.getD a (0,[])).2.length/\eo 2 (b.getD a (0,[])).2.length (bG.fn (b.getD a (0,[])).2) d.2.2.2))
abbrev aat(a:S3):aq:=.K (cr 114 2 a.2.1 a.2.2.1 a.2.2.2)
abbrev nK(a:S3):Y:=cZ a.2.1 a.2.2.1
def XV(b)(i0)(V:i0<c b.1)(K:0<(b.1.getD i0 (0,[])).2.length)(y:c b.1<=4000000)(z:∀e∈b.1,c e.2<=4000000)(X:c b.2.1<=4000000)(J:kq b)(S:c b.2.2<=4000000):
  bk (ι:=pR (b.1.getD i0 (0,[])).2) q 98 [bW b] [] (λ_=>.n (.agg [.O 0 (.B (c b.1) 2 0 (c b.1)),.O 1 (.B (c b.2.1) 2 0 (c b.2.1)),.c (.B v 2 (c b.2.2) (a3.fn b.2.2))]))
   (λj=>[.q 80 2 (c b.1) (gm b.1 i0 (cZ j.1.1 (b.1.getD i0 (0,[])).2.length)),.q 84 2 (c b.2.1) (bg.fn b.2.1),te (b.1.getD i0 (0,[])).2 j]):=by
 refine bk.bA bb func98 rfl rfl rfl λW=>?_;have k:a_ q [(138,xA),(139,xB)]:=.cons EA (.cons EB .nil);refine a8 k [902] a B (g.en 2 0 80 2 (a2.fn []) a a ?_);refine g.en 2 1 84 2 (bg.fn []) a a ?_;refine g.fg 114 2 ?_;refine b8 k a B ?_;refine g.aC 6 (I3 b.1 i0) (λo:S3=>[(1,aI 0 0),(2,aI 1 0),(3,aI 2 0),(9,a2.B b.1),(10,Q (c b.1)),(11,Q o.1)])
  (λo=>[.cells 30 [.c (.B v 2 (c b.1) (a2.fn b.1)),.c (.B v 2 (c b.2.1) (bg.fn b.2.1)),.c (.B v 2 (c b.2.2) (a3.fn b.2.2))],.cells 30 [cF,cF,cF],.cells 30 [.O 3 (.B o.1 2 0 o.1),.O 4 (.B 0 2 0 0),cF],.q 80 2 o.1 (gm b.1 i0 (nK o)),.q 84 2 0 (bg.fn []),aat o]) (λo=>c b.1-o.1) (0,.nil n,0,[]) a ?_ a ?_ a ⟨by omega,.inl ⟨by omega,rfl⟩⟩ ?_
 .simp
 .simp
 rintro⟨d,h,p,m⟩ ⟨s,x⟩;simp only at s x;by_cases t:d<c b.1
 .have u:b.1.getD d (0,[])∈b.1:=M;have i:b.1.getD (d:Int).toNat a2.F=b.1.getD d (0,[]):=M;by_cases C:d=i0
  .subst C;have E:p=0:=by rcases x with⟨_,R⟩|⟨N,_⟩<;>omega
   have O:=z _ u;refine a8 k [12,905] a bv ?_;rw[i];generalize F:b.1.getD d (0,[])=e at *;refine g.eI (ι:=pR e.2) b6 3 5 4 (λr=>ay r 2) (λr=>[aI 2 0,cC 3 (.B d 2 0 d),fH e].getD r .any) (λj r=>[.any,.any,.any,.n (.agg [.c (.int .i64 e.1),.c (rT e.2 j)]),ax (.B l 2 1 (λA=>[[.int .i64 e.1,rT e.2 j]].getD A []))].getD r .any)
    (λj=>[.cells 30 [.c (.B v 2 (c b.1) (a2.fn b.1)),.c (.B v 2 (c b.2.1) (bg.fn b.2.1)),.c (.B v 2 (c b.2.2) (a3.fn b.2.2))],.cells 30 [cF,cF,cF],.cells 30 [.O 3 (.B d 2 0 d),.O 4 (.B 0 2 0 0),cF],.q 80 2 d (gm b.1 d (cZ h p)),.q 84 2 0 (bg.fn []),.K (cr 114 2 h p m),.cells 80 [.c (.int .i64 e.1),.c (.B v 2 (c e.2) (bG.fn e.2))],te e.2 j])
    rfl rfl rfl rfl rfl rfl rfl (λr t=>by have:=fs t;omega) rfl
    ⟨aZ.w,aZ.w,aZ.w,B,B,B,B,B,B⟩
    (λj=>⟨aZ.w,aZ.w,aZ.w,B,aZ.w,B⟩)
    (dX.d' (WW e K O) [] a a a a a a a bn a bn) λj=>?_
   refine a8 k [906] a OX (g.swap 5 7 ca a a (λ_ _ t=>t.1) (λ_ _ t=>t.1) ?_);refine b8 k a bE (g.av (d+1,j.1.1,c e.2,j.1.2) a D ?_ ?_ ?_)
   .have aw:=Lu (Z:=b.1) (i0:=d) (bz:=cZ j.1.1 (c e.2)) (EJ:=cZ h p);rw[F]at aw;simp only[U.X,U,a9,ba];exact⟨⟨bs.same,bs.same,bs.same⟩,⟨bs.same,bs.same,bs.same⟩,⟨a,bs.same⟩,aw,bs.same⟩
   .refine⟨by grind,.inr ⟨by grind,?_⟩⟩;grind
   grind
  refine a8 k [12] a ?_ (g.av (d+1,h,p,m) a ?_ ?_ ?_ ?_)
  .have j:=z _ u;simp only[U,i,bG.l,a7];exact⟨by omega,B,B,show(d+1)*32<=_ by omega,bG.U _,j,by omega,by omega,fi w⟩
  .simp
  .have aw:=Lt (Z:=b.1) (bz:=cZ h p) C;simp only[U.X,U,i,bG.l,a9,ba];exact⟨⟨bs.same,bs.same,bs.same⟩,⟨bs.same,bs.same,bs.same⟩,⟨a,bs.same⟩,aw,bs.same⟩
  .refine⟨by grind,?_⟩;grind
  grind
 obtain rfl:d=c b.1:=w;obtain⟨_,E,I⟩:i0<c b.1/\p=(b.1.getD i0 (0,[])).2.length/\eo 2 (b.1.getD i0 (0,[])).2.length (bG.fn (b.1.getD i0 (0,[])).2) m:=M;subst E;clear x;generalize b.1.getD i0 (0,[])=e at *;refine a8 k [-12] a D (g.az ?_);refine b8 k a B ?_;refine g.aC 6 (λd=>d<=c b.2.1) (λd:Nat=>[(1,aI 0 0),(2,aI 1 0),(3,aI 2 0),(24,bg.B b.2.1),(25,Q (c b.2.1)),(26,Q d)])
  (λd=>[.cells 30 [.c (.B v 2 (c b.1) (a2.fn b.1)),.c (.B v 2 (c b.2.1) (bg.fn b.2.1)),.c (.B v 2 (c b.2.2) (a3.fn b.2.2))],.cells 30 [cF,cF,cF],.cells 30 [.O 3 (.B (c b.1) 2 0 (c b.1)),.O 4 (.B d 2 0 d),cF],.q 80 2 (c b.1) (gm b.1 i0 (cZ h (c e.2))),.q 84 2 d (bg.fn (b.2.1.take d)),.K (cr 114 2 h (c e.2) m)]) (λd=>c b.2.1-d) 0 a ?_ a ?_ a w ?_
 .simp
 .simp
 intro d s;by_cases t:d<c b.2.1
 .have u:b.2.1.getD d (0,[])∈b.2.1:=M;have i:b.2.1.getD (d:Int).toNat bg.F=b.2.1.getD d (0,[]):=M;refine a8 k [27] a ?_ (g.av (d+1) a ?_ ?_ ?_ ?_)
  .have j:=J _ u;simp only[U,i,cw.l,a7];exact⟨by omega,B,B,show(d+1)*32<=_ by omega,cw.U _,j.1,j.2,by omega,by omega,fi w⟩
  .simp
  .exact Fw
  .grind
  omega
 obtain rfl:d=c b.2.1:=w;rw[c6];refine a8 k [-27] a D (g.az ?_);refine b8 k a B (g.aB (IL b.2.2 S) [] a (b8 k a B (g.bf ⟨(h,m),I⟩ [3,4,5] ?_ (λA T=>absurd T D))));simp
end
abbrev Av(d:m cM):Prop:=d.Pairwise λa b=>aR a.1 b.1=l
def ad4{o}(g:dM o=l):Av o:=by simp only[dM,ck]at g;have i:=fZ.1 g.1;rw[Av,m8];intro e k b d a;rw[o_ b,o_ d];refine L2 (o:=o) (e:=k) (λm j h=>?_) e a;have:=i m w;simp[i1,ck,jD,gL]at this;grind
def zE{o}:dM o=l↔(∀d∈o,fT d.1=l/\fL d.2=l)/\Av o/\o.Pairwise (λj k=>k7 j.1 k.1=v)/\c o<=6:=by
 constructor
 .intro b;have t:=ad4 b;simp only[dM,ck,bw]at b;have h:=fZ.1 b.1;refine⟨λd p=>?_,t,?_,b.2⟩
  .obtain⟨e,a,rfl⟩:=g4 p;have:=h e a;exact OD
  rw[m8];intro e r a g i;have:=h r g;exact OD
 rintro⟨s,u,w,q⟩;simp only[dM,ck,bw];refine⟨fZ.2 λe a=>?_,q⟩;have m:=s _ (wY a);rw[o_ a]at m;simp only[i1,ck,jD,gL];grind[List.pairwise_iff_getElem,o_]
end R1
def bk.le{s:af P}{t}{args}{oy:ι->y}(u:bk s t args k res aS){e:ι->m Prop}(x:∀a,kj (res a) (oy a)=f (e a))(A:∀a,U (e a)):bk s t args k oy aS:=
 ⟨u.1,λB z p j w g i=>u.2 B z p j w g λa h C q o b d r=>i a h C q o (pj (x a) (A a) b) d r⟩
def bk.Q{p:af P}{q}{args}{res}{aS}(r:bk (ι:=ι) p q args k (λ_=>res) (λ_=>aS)):X p q args k res aS:=
 ⟨r.1,λt z j h s d g=>r.2 t z j h s d λ_ e u m i a b o=>g e u m i a b o⟩
namespace R1
variable {q:af T}
abbrev ud(e:c0 α)(d:m α):Type:={a:Nat->m N // ∀b,b<c d->a b=e.fn d b}
structure dI(b:cd):Prop where
 aY:c b.1<=4000000
 bm:∀aY∈b.1,c aY.2<=4000000
 aZ:c b.2.1<=4000000
 bp:kq b
 aJ:c b.2.2<=4000000
def We(b)(d)(h:dI b)(o:d.1=1):
  bk (ι:={e:Nat->m N // ∀j,j<c (b.1.filter λi=>!(i.1==d.2.1))->e j=a2.fn (b.1.filter λi=>!(i.1==d.2.1)) j}) q 63 [bW b,er d] []
   (λ_=>.n (.agg [dA 0 (c b.1) (c (b.1.filter λi=>!(i.1==d.2.1))),dA 1 (c b.2.1) (c b.2.1),.c (hU b.2.2)])) (λe=>[.q 80 2 (c b.1) e.1,.q 84 2 (c b.2.1) (bg.fn b.2.1)]):=by refine bk.bA bb func63 rfl rfl rfl λp=>?_;refine aW a B (g.aB (o9 b h.aY h.bm h.aZ h.bp h.aJ) [] a (aW a B (g.aB (UF d o) [] a (aW a B (g.cK (UN b d h.aY) a a a a D a ?_)))));rintro⟨e,k⟩;refine aW a B (g.bf ⟨e,k⟩ [3,4] ?_ eG);simp
def Wd(b)(d)(k:dI b)(o:d.1=1):X q 63 [bW b,er d] [] (bW (b.1.filter λa=>!(a.1==d.2.1),b.2.1,b.2.2)) []:=by
 have m:c (b.1.filter λa=>!(a.1==d.2.1))<=c b.1:=kz _ _;have e:=We (q:=q) b d k o;have g:=bk.bL (aS:=λV:ud a2 (b.1.filter λa=>!(a.1==d.2.1))=>[.q 80 2 (c b.1) V.1]) (W:=84) (h:=2) (j:=λ_=>c b.2.1) (V:=λ_=>bg.fn b.2.1) e bn (λ_=>?_) bn (λ_=>gZ _);have i:=bk.bL (aS:=λ_=>[]) (W:=80) (h:=2) (j:=λ_=>c b.1) (V:=λV:ud a2 (b.1.filter λa=>!(a.1==d.2.1))=>V.1) g bn (λ_=>?_) bn (λ_=>bC _);refine(i.le (oy:=λ_=>bW (b.1.filter λa=>!(a.1==d.2.1),b.2.1,b.2.2)) bn (λV=>?_)).Q
 .simp only[U.X,U,a9,ba];exact⟨V.2,bs.same,bs.same⟩
 .simpa using m
 simp
def Wo(b)(d)(e:dI b)(j:d.1≠1)(h:d.1≠2)(k:d.1≠3)(i:d.1≠4):
  bk (ι:=Unit) q 63 [bW b,er d] [] (λ_=>.n (.agg [dA 0 (c b.1) (c b.1),dA 1 (c b.2.1) (c b.2.1),.c (hU b.2.2)])) (λ_=>[.q 80 2 (c b.1) (a2.fn b.1),.q 84 2 (c b.2.1) (bg.fn b.2.1)]):=by refine bk.bA bb func63 rfl rfl rfl λm=>?_;refine aW a B (g.aB (o9 b e.aY e.bm e.aZ e.bp e.aJ) [] a (aW a B (g.aB (UH d j h k i) [] a (aW a B (g.cK (WQ (mP b d) a (.ptr 5 0)).tocH a a a a D a ?_)))));intro _;refine aW a B (g.bf () [3,4] ?_ eG);simp
def Wh(b)(d:dH)(e:dI b)(h:d.1=2)(i:d.2.1<0∨d.2.1>c b.2.2):
  bk (ι:=Unit) q 63 [bW b,er d] [] (λ_=>.n (.agg [dA 0 (c b.1) (c b.1),dA 1 (c b.2.1) (c b.2.1),.c (hU b.2.2)])) (λ_=>[.q 80 2 (c b.1) (a2.fn b.1),.q 84 2 (c b.2.1) (bg.fn b.2.1)]):=by refine bk.bA bb func63 rfl rfl rfl λj=>?_;refine aW a B (g.aB (o9 b e.aY e.bm e.aZ e.bp e.aJ) [] a (aW a B (g.aB (IR d h) [] a (aW a B (g.cK (T4 b d i).tocH a a a a D a ?_)))));intro _;refine aW a B (g.bf () [3,4] ?_ eG);simp
def Ct{b}{d}(a:bk (ι:=Unit) q 63 [bW b,er d] [] (λ_=>.n (.agg [dA 0 (c b.1) (c b.1),dA 1 (c b.2.1) (c b.2.1),.c (hU b.2.2)])) (λ_=>[.q 80 2 (c b.1) (a2.fn b.1),.q 84 2 (c b.2.1) (bg.fn b.2.1)])):X q 63 [bW b,er d] [] (bW b) []:=by
 have e:=bk.bL (aS:=λ_:Unit=>[.q 80 2 (c b.1) (a2.fn b.1)]) (W:=84) (h:=2) (j:=λ_=>c b.2.1) (V:=λ_=>bg.fn b.2.1) a bn (λ_=>?_) bn (λ_=>gZ _);have g:=bk.bL (aS:=λ_:Unit=>[]) (W:=80) (h:=2) (j:=λ_=>c b.1) (V:=λ_=>a2.fn b.1) e bn (λ_=>?_) bn (λ_=>bC _);refine(g.le (oy:=λ_=>bW b) bn (λV=>?_)).Q
 .simp only[U.X,U,a9,ba];exact⟨bs.same,bs.same,bs.same⟩
 .simp
 simp
def Wg(b)(h:dH)(d:dI b)(m:h.1=2)(i:Nat)(o:h.2.1=i)(p:i<=c b.2.2):
  bk (ι:=ud bg (b.2.1.filter λj=>!jq i b.2.2 j)) q 63 [bW b,er h] []
   (λ_=>.n (.agg [dA 0 (c b.1) (c b.1),dA 1 (c b.2.1) (c (b.2.1.filter λj=>!jq i b.2.2 j)),.c (.B v 2 h.2.1.toNat (a3.fn b.2.2))])) (λe=>[.q 80 2 (c b.1) (a2.fn b.1),.q 84 2 (c b.2.1) e.1]):=by refine bk.bA bb func63 rfl rfl rfl λr=>?_;refine aW a B (g.aB (o9 b d.aY d.bm d.aZ d.bp d.aJ) [] a (aW a B (g.aB (IR h m) [] a (aW a B (g.cK (T5 b h i o p d.aZ d.aJ) a a a a D a ?_)))));rintro⟨e,k⟩;refine aW a B (g.bf ⟨e,k⟩ [3,4] ?_ eG);simp
def Wf(b)(d:dH)(u:dI b)(p:d.1=2)(j:Nat)(w:d.2.1=j)(r:j<=c b.2.2):X q 63 [bW b,er d] [] (bW (b.1,b.2.1.filter λa=>!jq j b.2.2 a,b.2.2.take j)) []:=by
 have m:c (b.2.1.filter λa=>!jq j b.2.2 a)<=c b.2.1:=kz _ _;have e:=Wg (q:=q) b d u p j w r;have g:=bk.bL (aS:=λ_:ud bg (b.2.1.filter λa=>!jq j b.2.2 a)=>[.q 80 2 (c b.1) (a2.fn b.1)]) (W:=84) (h:=2) (j:=λ_=>c b.2.1) (V:=λV=>V.1) e bn (λ_=>?_) bn (λ_=>gZ _);have i:=bk.bL (aS:=λ_:ud bg (b.2.1.filter λa=>!jq j b.2.2 a)=>[]) (W:=80) (h:=2) (j:=λ_=>c b.1) (V:=λ_=>a2.fn b.1) g bn (λ_=>?_) bn (λ_=>bC _);refine(i.le (oy:=λ_=>bW (b.1,b.2.1.filter λa=>!jq j b.2.2 a,b.2.2.take j)) bn (λV=>?_)).Q
 .have o:d.2.1.toNat=c (b.2.2.take j):=M;simp only[U.X,U,a9,ba];refine⟨bs.same,V.2,o,λt s=>?_⟩;have k:t<j:=M;simp[c0.fn,gF,ak,iq,k]
 .simp
 simpa using m
end R1
def dF.cB:dF->Nat
 |.nil=>0
 |.ay a _ _ b=>a.cB+b.cB+1
namespace R1
variable {q:af T}
def UW(o)(j):X q 213 [ax (eN o),Q j] [] (Q (o.find j)) []:=by
 refine X.J func213 rfl λs=>?_;refine aW a B (g.loop (λd:dF=>d.find j=o.find j) (λd=>[(0,ax (eN d)),(1,Q j)]) (λ_=>[]) (λd=>d.cB) o a (.cons a (eH a D)) a ?_);intro d b;cases d with
 |nil=>
  refine aW a B (g.aK (rP a underlying269 a a a) a a ?_);refine a5 [-7,-15] a D (g.bs a a ?_);refine aW a B (g.aK (rP a underlying269 a a a) a a ?_);refine aW a B (g.ao a ?_);exact bE
 |ay h e k i=>
  have r:(dF.ay h e k i).find j=if j=e then k else if j<e then h.find j else i.find j:=rfl;rw[r]at b;refine aW a B (g.aK (tq a underlying269 a a a) a a ?_);by_cases p:j=e
  .subst p;rw[bo a]at b;refine a5 [7,-15] a D (g.bs a a ?_);refine aW a B (g.aK (tq a underlying269 a a a) a a ?_);refine aW a B (g.ao a ?_);exact bv
  rw[bj p]at b;by_cases m:j<e
  .rw[bo m]at b;cases h<;>exact a5 [7,15,22] rfl bv ⟨_,b,by simp only[dF.cB];omega,.cons rfl (eH rfl D),rfl⟩
  rw[bj m]at b;cases i<;>exact a5 [7,15,-22] rfl bv ⟨_,b,by simp only[dF.cB];omega,.cons rfl (eH rfl D),rfl⟩
end R1
namespace R1
section
variable {q:af T}
def I2(b)(d)(e:dI b)(j:d.1=4)(h:Nat->m N)(i:X q 156 [aI 6 0,iP (lZ d)] (oB b d (a3.fn b.2.2)) (.S []) (oB b d h)):
  bk (ι:=Unit) q 63 [bW b,er d] [] (λ_=>.n (.agg [dA 0 (c b.1) (c b.1),dA 1 (c b.2.1) (c b.2.1),dA 2 (c b.2.2) (c b.2.2)])) (λ_=>[.q 80 2 (c b.1) (a2.fn b.1),.q 84 2 (c b.2.1) (bg.fn b.2.1),.q 54 2 (c b.2.2) h]):=by refine bk.bA bb func63 rfl rfl rfl λk=>?_;refine aW a B (g.aB (Jm b e.aY e.bm e.aZ e.bp e.aJ) [] a (aW a B (g.aB (UG d j) [] a (aW a B (g.cK i.tocH a a a a D a ?_)))));intro _;refine aW a B (g.bf () [3,4,5] ?_ eG);simp
def I4(b)(d)(V:Nat->m N)(e)(g:c e=c b.2.2)(p:bs (c b.2.2) V (a3.fn e))(i:bk (ι:=Unit) q 63 [bW b,er d] [] (λ_=>.n (.agg [dA 0 (c b.1) (c b.1),dA 1 (c b.2.1) (c b.2.1),dA 2 (c b.2.2) (c b.2.2)])) (λ_=>[.q 80 2 (c b.1) (a2.fn b.1),.q 84 2 (c b.2.1) (bg.fn b.2.1),.q 54 2 (c b.2.2) V])):
  X q 63 [bW b,er d] [] (bW (b.1,b.2.1,e)) []:=by
 have r:=bk.bL (aS:=λ_:Unit=>[.q 80 2 (c b.1) (a2.fn b.1),.q 84 2 (c b.2.1) (bg.fn b.2.1)]) (W:=54) (h:=2) (j:=λ_=>c b.2.2) (V:=λ_=>V) i bn (λ_=>?_) bn (λ_=>gZ _);have k:=bk.bL (aS:=λ_:Unit=>[.q 80 2 (c b.1) (a2.fn b.1)]) (W:=84) (h:=2) (j:=λ_=>c b.2.1) (V:=λ_=>bg.fn b.2.1) r bn (λ_=>?_) bn (λ_=>gZ _);have o:=bk.bL (aS:=λ_:Unit=>[]) (W:=80) (h:=2) (j:=λ_=>c b.1) (V:=λ_=>a2.fn b.1) k bn (λ_=>?_) bn (λ_=>bC _);refine(o.le (oy:=λ_=>bW (b.1,b.2.1,e)) bn (λ_=>?_)).Q
 .simp only[U.X,U,a9,ba];refine⟨bs.same,bs.same,g.symm,?_⟩;intro s a;exact p s (by first|exact a|(rw[<-g];exact a))
 .simp
 .simp
 simp
def Wn(b)(a:dH)(d:dI b)(i:a.1=4)(e:0<=a.2.1)(g:a.2.1<c b.2.2)(h:a7 .i64 (3-lq b a)):
  X q 63 [bW b,er a] [] (bW (b.1,b.2.1,b.2.2.set (0+a.2.1.toNat) (3-lq b a,(b.2.2.getD (0+a.2.1.toNat) a3.F).2))) []:=
 I4 b a _ _ D (a3.cT b.2.2 (0+a.2.1.toNat) (3-lq b a,(b.2.2.getD (0+a.2.1.toNat) a3.F).2) (c b.2.2) (bC _)) (I2 b a d i _ (UZ b a e g h))
def Wm(b)(d:dH)(e:dI b)(h:d.1=4)(g:¬(0<=d.2.1/\d.2.1<c b.2.2)):X q 63 [bW b,er d] [] (bW b) []:=
 I4 b d _ b.2.2 a bs.same (I2 b d e h _ (UY b d g))
abbrev D'(a:cd)(i:dH)(e:Nat)(g b d:Nat)(h:m Y):m aq:=tv a i [.q 80 2 (c a.1) (gm a.1 e (.slice (f ⟨g,0,n⟩) d b)),.q 84 2 (c a.2.1) (bg.fn a.2.1),.K (cr 114 2 (.row g b) d h)] (dA 3 (c a.1) (c a.1)) (dA 4 (c a.2.1) (c a.2.1)) (.c (hU a.2.2))
def gT(a:m cW)(b:Nat)(d:bA):m cW:=a.set b ((a.getD b (0,[])).1,d)
def JI{ag}{o}{d}(k:eo 2 (c ag) (bG.fn ag) d)(e:A<c ag)(j:m7 z [.c (.T o)]):eo 2 (c ag) (bG.fn (gT ag A o)) (d.take (A*2+1)++z++d.drop (A*2+1+c z)):=by
 refine eo.fc k A 1 e j D (λq p h=>?_) a λg m b=>?_
 .simp[c0.fn,gF,gT,ak,n1,oZ h]
 have i:bG.fn (gT ag A o) A=[.int .i64 (ag.getD A (0,[])).1,.T o]:=by simp[c0.fn,gF,gT,ak,n1,e];rfl
 rw[i]at b;rcases g with _|_|g
 .simp at b;subst b;exact .inr ⟨by omega,a⟩
 .grind
 simp at b
def T9(b)(i:dH)(V:c b.1<=4000000)(d r e p:Nat)(ag)(R:(b.1.getD d (0,[])).2=ag)(T:d<c b.1)(K:(b.1.getD d (0,[])).1=i.2.1)(M:∀x,x<c b.1->x≠d->(b.1.getD x (0,[])).1≠i.2.1)(N:i.2.2.1=p)(S:p<c ag)(W:c ag<=4000000)(C)(J:eo 2 (c ag) (bG.fn ag) C):
  bk (ι:={y:m Y // eo 2 (c ag) (bG.fn (gT ag p i.2.2.2)) y}) q 155 [aI 6 0,iP (lZ i)] (D' b i d r e (c ag) C) (λ_=>.S []) (λy=>D' b i d r e (c ag) y.1):=by
 refine bk.bP func155 rfl rfl rfl (g.aO ?_);refine aW a B (g.aC 7 (λj:Nat×m Y=>j.1<=c b.1/\(j.1<=d->j.2=C)/\(d<j.1->eo 2 (c ag) (bG.fn (gT ag p i.2.2.2)) j.2)) (λj=>[(0,aI 6 0),(1,iP (lZ i)),(8,.n (.Q (dA 3 (c b.1) (c b.1)))),(9,Q (c b.1)),(10,Q j.1)]) (λj=>D' b i d r e (c ag) j.2) (λj=>c b.1-j.1) (0,C) a D a D a ⟨by omega,λ_=>rfl,λF=>by omega⟩ ?_);rintro⟨h,k⟩ ⟨t,E,A⟩;simp only at t E A;have I:0+(h:Int).toNat=h:=w;by_cases F:h<c b.1
 .by_cases o:h=d
  .subst o;obtain rfl:=E (bC _);refine gp [11] 12 a Qq (g.aK (a1.e7 bb (aw:=.agg [.c (.int .i64 i.2.1),.c (.val (.slice (f ⟨r,0,n⟩) (c ag) e))]) a a a a a ?_ ?_) a a ?_)
   .show f (E1.agg [.c (.int .i64 (b.1.getD (0+(h:Int).toNat) (0,[])).1),.c (nx b.1 h (.slice (f ⟨r,0,n⟩) (c ag) e) (0+(h:Int).toNat))])=_;rw[I,K,nx,bo a]
   .show 0+(h:Int).toNat<_;omega
   refine a5 [19,24,31] a ?_ ?_
   .simp only[U,a7,bw,gi,ba,a9];exact fv
   have Z:=J.len;have u:0+i.2.2.1.toNat*2+1=p*2+1:=w;refine g.eM bb 5 a a a a a a a ?_ a a λz s=>?_
   .show 0+i.2.2.1.toNat*2+1+1<=c k;omega
   have X:=JI J S s;refine aW a FN (g.av (h+1,k.take (p*2+1)++z++k.drop (p*2+1+c z)) a D ?_ ?_ ?_)
   .simp only[U.X,U,bs.same,a9,ba];show cr 114 2 _ _ (List.take (0+i.2.2.1.toNat*2+1) k++z++List.drop (0+i.2.2.1.toNat*2+1+c z) k)=_;rw[u]
   .grind
   grind
  have O:=M h F o;refine gp [11] 12 a Qq (g.aK (a1.e7 bb (aw:=.agg [.c (.int .i64 (b.1.getD h (0,[])).1),.c (.B v 2 (b.1.getD h (0,[])).2.length (bG.fn (b.1.getD h (0,[])).2))]) a a a a a ?_ ?_) a a ?_)
  .show f (E1.agg [.c (.int .i64 (b.1.getD (0+(h:Int).toNat) (0,[])).1),.c (nx b.1 d (.slice (f ⟨r,0,n⟩) (c ag) e) (0+(h:Int).toNat))])=_;rw[I,nx,bj o]
  .show 0+(h:Int).toNat<_;omega
  refine a5 [-19,-24,-31] a ?_ (g.av (h+1,k) a ?_ ?_ ?_ ?_)
  .simp only[U,a7,eZ,ba,a9];exact⟨by omega,O⟩
  .simp
  .simp
  .grind
  grind
 obtain rfl:h=c b.1:=w;refine a5 [-11] a D (g.az ?_);exact aW a B ⟨⟨k,A T⟩,.inr a,a,a,_,_,_,a,a,a,B⟩
structure sb(b:cd)(d:dH)(i0 A:Nat):Prop where
 a_:i0<c b.1
 cZ:(b.1.getD i0 (0,[])).1=d.2.1
 bT:∀u,u<c b.1->u≠i0->(b.1.getD u (0,[])).1≠d.2.1
 b2:d.2.2.1=A
 gp:A<(b.1.getD i0 (0,[])).2.length
def LL(ag)(A)(o):c (gT ag A o)=c ag:=by simp[gT]
def vc{a:cd}{i0}(b:i0<c a.1):a.1.getD i0 (0,[])∈a.1:=M
set_option maxRecDepth 20000 in
def Wj(b)(d)(i:dI b)(s:d.1=3)(i0 A)(h:sb b d i0 A):
  bk (ι:={j:fp×m Y // eo 2 (b.1.getD i0 (0,[])).2.length (bG.fn (gT (b.1.getD i0 (0,[])).2 A d.2.2.2)) j.2}) q 63 [bW b,er d] []
   (λ_=>.n (.agg [dA 0 (c b.1) (c b.1),dA 1 (c b.2.1) (c b.2.1),.c (hU b.2.2)]))
   (λj=>[.q 80 2 (c b.1) (gm b.1 i0 (cZ j.1.1 (b.1.getD i0 (0,[])).2.length)),.q 84 2 (c b.2.1) (bg.fn b.2.1),.K (cr 114 2 j.1.1 (b.1.getD i0 (0,[])).2.length j.1.2)]):=by have t:=h.gp;have r:=i.bm _ (vc h.a_);refine bk.bA bb func63 rfl rfl rfl λC=>?_;refine aW a B (g.a2 (XV b i0 h.a_ w i.aY i.bm i.aZ i.bp i.aJ) [] a bn ?_);rintro⟨⟨o,x⟩,z⟩;refine g.fy (cr.len (d:=5) a) λp=>?_;obtain⟨k,e,rfl⟩:=p.2.2.1 w;refine aW a B (g.aB (IS d s) [] a (aW a B (g.cK (T9 b d i.aY i0 k e A _ a h.a_ h.cZ h.bT h.b2 t r x z) a a a a D a ?_)));rintro⟨y,u⟩;refine aW a B (g.bf ⟨(.row k e,y),u⟩ [3,4,5] ?_ eG);simp
abbrev g6(b:cd)(d:dH)(a e:Nat):cd:=(b.1.set a ((b.1.getD a (0,[])).1,gT (b.1.getD a (0,[])).2 e d.2.2.2),b.2.1,b.2.2)
def Uq{p}{args}(b)(d)(i0 A)(x:i0<c b.1)(s:bk (ι:={g:fp×m Y // eo 2 (b.1.getD i0 (0,[])).2.length (bG.fn (gT (b.1.getD i0 (0,[])).2 A d.2.2.2)) g.2}) q p args []
   (λ_=>.n (.agg [dA 0 (c b.1) (c b.1),dA 1 (c b.2.1) (c b.2.1),.c (hU b.2.2)]))
   (λg=>[.q 80 2 (c b.1) (gm b.1 i0 (cZ g.1.1 (b.1.getD i0 (0,[])).2.length)),.q 84 2 (c b.2.1) (bg.fn b.2.1),.K (cr 114 2 g.1.1 (b.1.getD i0 (0,[])).2.length g.1.2)])):
  X q p args [] (bW (g6 b d i0 A)) []:=by
 generalize e:b.1.getD i0 (0,[])=i at *;have z:∀k,k≠i0->a2.fn (g6 b d i0 A).1 k=a2.fn b.1 k:=λk o=>by simp[c0.fn,gF,ak,n1,oZ o]
 have C:a2.fn (g6 b d i0 A).1 i0=[.int .i64 i.1,.B v 2 (c i.2) (bG.fn (gT i.2 A d.2.2.2))]:=by have:(g6 b d i0 A).1.getD i0 a2.F=(i.1,gT i.2 A d.2.2.2):=M;show a2.a7 ((g6 b d i0 A).1.getD i0 a2.F)=_;rw[this];show[N.int .i64 i.1,N.B v 2 (c (gT i.2 A d.2.2.2)) (bG.fn (gT i.2 A d.2.2.2))]=_;rw[LL]
 have y:=bk.ft (aS:=λg:{g:fp×m Y // eo 2 (c i.2) (bG.fn (gT i.2 A d.2.2.2)) g.2}=>[.q 80 2 (c b.1) (gm b.1 i0 (cZ g.1.1 (c i.2))),.q 84 2 (c b.2.1) (bg.fn b.2.1)]) (fe:=λ_=>[.q 80 2 (c b.1) (a2.fn (g6 b d i0 A).1),.q 84 2 (c b.2.1) (bg.fn b.2.1)]) (W:=114) (h:=2) (j:=c i.2) (bO:=λg=>g.1.1) (ag:=λg=>g.1.2) s (λg=>g.2) 0 bn bn bn bn (λ_=>gZ _)
  (λg k o=>by exact bE)
  (λg k o r B O=>by
   by_cases t:k=i0
   .subst t;rw[C]at O;have:gm b.1 k (cZ g.1.1 (c i.2)) k=[.int .i64 i.1,.val (cZ g.1.1 (c i.2))]:=N6;rw[this];rcases r with _|_|r
    .simp at O;subst O;exact⟨_,a,.inl a⟩
    .exact Rk
    exact bE
   .rw[z k t]at O;have:gm b.1 i0 (cZ g.1.1 (c i.2)) k=a2.fn b.1 k:=E0
    rw[this];exact⟨B,O,.inl a⟩)
 have u:=bk.bL (aS:=λ_=>[.q 80 2 (c b.1) (a2.fn (g6 b d i0 A).1)]) (W:=84) (h:=2) (j:=λ_=>c b.2.1) (V:=λ_=>bg.fn b.2.1) y bn (λ_=>?_) bn (λ_=>gZ _);have w:=bk.bL (aS:=λ_=>[]) (W:=80) (h:=2) (j:=λ_=>c b.1) (V:=λ_=>a2.fn (g6 b d i0 A).1) u bn (λ_=>?_) bn (λ_=>bC _);refine(w.le (oy:=λ_=>bW (g6 b d i0 A)) bn (λ_=>?_)).Q
 .exact P5
 .simp
 simp
set_option maxRecDepth 20000 in
def Wi(b)(d)(e:dI b)(g:d.1=3)(i0 A)(a:sb b d i0 A):X q 63 [bW b,er d] [] (bW (g6 b d i0 A)) []:=
 Uq b d i0 A a.a_ (Wj b d e g i0 A a)
def pP(d:cd)(b:dH):Prop:=∀a,a<c d.1->¬((d.1.getD a (0,[])).1=b.2.1/\0<=b.2.2.1/\b.2.2.1<(d.1.getD a (0,[])).2.length)
def T_(b)(d)(j:dI b)(r:pP b d):X q 155 [aI 5 0,iP (lZ d)] (mP b d) (.S []) (mP b d):=by
 have y:=j.aY;refine bk.toX (bk.bP (ι:=Unit) (res:=λ_=>.S []) (ap:=λ_=>mP b d) func155 rfl rfl rfl (g.aO ?_));refine aW a B (g.aC 6 (λe=>e<=c b.1) (λe:Nat=>[(0,aI 5 0),(1,iP (lZ d)),(8,.n (.Q (dA 3 (c b.1) (c b.1)))),(9,Q (c b.1)),(10,Q e)]) (λ_=>mP b d) (λe=>c b.1-e) 0 a D a D a w ?_);intro e o;by_cases k:e<c b.1
 .have s:=r e k;have t:=j.bm _ (vc k);have p:0+(e:Int).toNat=e:=w;have i:b.1.getD (0+(e:Int).toNat) a2.F=b.1.getD e (0,[]):=by rw[p];rfl
  generalize b.1.getD e (0,[])=m at *;by_cases x:m.1=d.2.1
  .by_cases u:0<=d.2.2.1
   .have h:¬d.2.2.1<c m.2:=λh=>s ⟨x,u,h⟩;refine a5 [11,19,24,-31] a Q1 (g.av (e+1) a D D qX ?_);omega
   refine a5 [11,19,-24,-31] a Q1 (g.av (e+1) a D D qX ?_);omega
  refine a5 [11,-19,-24,-31] a ?_ (g.av (e+1) a ?_ ?_ ?_ ?_)
  .simp only[U,a7,i,eZ,bw,dp,ba,a9];and_intros<;>first|exact x|omega
  .simp
  .simp
  .exact qX
  omega
 obtain rfl:e=c b.1:=w;refine a5 [-11] a D (g.az ?_);exact Re
def Wl(b)(d)(e:dI b)(i:d.1=3)(h:pP b d):
  bk (ι:=Unit) q 63 [bW b,er d] [] (λ_=>.n (.agg [dA 0 (c b.1) (c b.1),dA 1 (c b.2.1) (c b.2.1),.c (hU b.2.2)])) (λ_=>[.q 80 2 (c b.1) (a2.fn b.1),.q 84 2 (c b.2.1) (bg.fn b.2.1)]):=by refine bk.bA bb func63 rfl rfl rfl λj=>?_;refine aW a B (g.aB (o9 b e.aY e.bm e.aZ e.bp e.aJ) [] a (aW a B (g.aB (IS d i) [] a (aW a B (g.cK (T_ b d e h).tocH a a a a D a ?_)))));intro _;refine aW a B (g.bf () [3,4] ?_ eG);simp
def Wk(b)(d)(a:dI b)(g:d.1=3)(e:pP b d):X q 63 [bW b,er d] [] (bW b) []:=Ct (Wl b d a g e)
end
section
open Go.Sort (pdq bitsLen ltInt Below)
variable {q:af T}
def jU(a:m Int):m Int:=a.mergeSort λb d=>decide (b<=d)
def qM(d):c (jU d)=c d:=List.length_mergeSort _
def acc(d):pdq ltInt d.toArray 0 (c d) (bitsLen (c d)) l l=(jU d).toArray:=by have a:=Go.Sort.sortInt d;unfold Go.Sort.sort at a;rw[List.size_toArray]at a;exact Array.ext' bE
theorem Tz(d):sL d.toArray=az.fn d:=by funext u;simp only[sL,c0.fn,gF,az,ak];simp
abbrev jf(b:Nat)(a:m Int):aq:=.q 3 1 b (az.fn a)
def Cv(d)(b:c d<=4000000):X q 168 [dJ (c d)] [jf (c d) d] (.S []) [jf (c d) (jU d)]:=by
 refine X.J func168 rfl λe=>?_;refine cz a bE (g.aB (I1 (c d) b) [] a (cz a B ?_));have i:=sB (F:=c d) (h:=22) M;have key:X q 206 [dJ (c d),Q 0,Q (c d),Q (bitsLen (c d))] [jf (c d) d] (.S []) [jf (c d) (jU d)]:=by have:=Xa (q:=q) (c d) b (c d) d.toArray 0 (c d) (bitsLen (c d)) w D w (bC _) w (.inl a) (F:=0) a a a (acc d).symm;grind[Tz]
 exact g.aB key [0] a (cz a B r9)
def fz(b:m Int):Nat->m Int
 |0=>[]
 |a+1=>if a≠0/\b.getD a 0=b.getD (a-1) 0 then fz b a else fz b a++[b.getD a 0]
def hN(a:m Int):m Int:=fz a (c a)
def w'(d):∀a,c (fz d a)<=a
 |0=>bC _
 |a+1=>by have:=w' d a;simp[fz];grind
def uD{d}:∀{b:Nat},b<=c d->(∀a,1<=a->a<b->d.getD a 0≠d.getD (a-1) 0)->fz d b=d.take b
 |0,_,_=>by simp[fz]
 |b+1,h,g=>by rw[fz,bj,uD w λa e i=>g a e w,ie w 0];grind
structure RN(d:m Int)(s4:Nat)(rL:Nat)(nL:m Int):Prop where
 iZ:1<=rL
 fB:s4+rL<=c d
 len:c nL=c d
 lt:c (fz d (s4+rL))<s4+rL
 done:nL.take (c (fz d (s4+rL)))=fz d (s4+rL)
 hK:∀e,s4+rL<=e+1->nL.getD e 0=d.getD e 0
abbrev Ap(d:m Int):Type:={a:Nat->m N // ∀b,b<c d->a b=az.fn d b}
def IM(d)(Z:c d<=4000000):bk (ι:=Ap (hN d)) q 169 [dJ (c d)] [jf (c d) d] (λ_=>cC 0 (.B (c d) 1 0 (c (hN d)))) (λA=>[.q 3 1 (c d) A.1]):=by
 refine bk.cd func169 rfl rfl rfl λY=>?_;by_cases R:c d<2
 .have t:hN d=d:=by unfold hN;rw[uD (bC _) λb _ _=>by omega,c6]
  refine bL [8] a bv (g.bu ⟨az.fn d,λb _=>by rw[t]⟩ (g.aH [0] a ?_ g_));simp[t]
 refine bL [-8] a bv (g.cm (S2:=Unit) 0 a a (λ_=>hN d=d) (λ_=>[(0,dJ (c d))]) (λ_=>[jf (c d) d]) 1 (λh:Nat=>1<=h/\h<=c d/\∀b,1<=b->b<h->d.getD b 0≠d.getD (b-1) 0) (λh=>[(0,dJ (c d)),(3,Q h)]) (λ_=>[jf (c d) d]) (λh=>c d-h) 1 a D a D a ⟨bC _,by omega,λb G R=>by omega⟩ ?_ ?_)
 .rintro dw h ⟨V,bX,F⟩;by_cases ab:h<c d
  .have aa:((h:Int)-1).toNat=h-1:=w;have I:∀u,d.getD u az.F=d.getD u 0:=λ_=>rfl;by_cases o:d.getD h 0=d.getD (h-1) 0
   .refine bL [13,25] a ?_ ?_
    .simp only[U,cX,cY,aa,I,o,a7,bw,gi,ba,a9];exact fv
    have aY:=uD (d:=d) w F;have H:fz d (h+1)=d.take h:=by rw[fz,bo ⟨by omega,o⟩,aY]
    refine g.cm (S2:=m Int) 2 a a (λs=>c s=c d/\s.take (c (hN d))=hN d) (λ_=>[(0,dJ (c d)),(3,Q (c (hN d)))]) (λs=>[jf (c d) s]) 1 (λe:Nat×m Int=>RN d h e.1 e.2) (λe=>[(0,dJ (c d)),(3,Q (c (fz d (h+e.1)))),(4,cC 0 (.B (c d) 1 h (c d-h))),(5,Q e.1)]) (λe=>[jf (c d) e.2]) (λe=>c d-e.1) (1,d) a bE a D a ?_ ?_ ?_
    .exact⟨bC _,by omega,a,by grind,by grind,λ_ _=>rfl⟩
    .rintro T ⟨i,s⟩ ⟨g7,iK,jI,uP,j,r⟩;simp only at g7 iK jI uP j r;by_cases ae:h+i<c d
     .have K:((i:Int)-1).toNat=i-1:=w;have E:∀u,s.getD u az.F=s.getD u 0:=λ_=>rfl;have C:s.getD (h+i) 0=d.getD (h+i) 0:=r _ w;have O:s.getD (h+(i-1)) 0=d.getD (h+(i-1)) 0:=r _ w;by_cases x:d.getD (h+i) 0=d.getD (h+(i-1)) 0
      .have p:fz d (h+(i+1))=fz d (h+i):=by rw[show h+(i+1)=h+i+1 by omega,fz,bo ⟨by omega,by rw[x,show h+i-1=h+(i-1) by omega]⟩]
       refine bL [32,-44] a ?_ (g.av (i+1,s) a ?_ ?_ ?_ ?_)
       .simp only[U,cX,cY,K,E,C,O,x,a7,bw,ip,ft,gi,ba,a9];and_intros<;>first|trivial|omega
       .exact bE
       .simp
       .exact⟨by grind,by grind,jI,by grind,by grind,λb k=>r b M⟩
       omega
      have p:fz d (h+(i+1))=fz d (h+i)++[d.getD (h+i) 0]:=by rw[show h+(i+1)=h+i+1 by omega,fz,bj];rintro⟨_,o⟩;exact x (by rw[o,show h+i-1=h+(i-1) by omega])
      refine bL [32,44] a ?_ (g.av (i+1,s.set (c (fz d (h+i))) (d.getD (h+i) 0)) a ?_ ?_ ?_ ?_)
      .simp only[U,cX,cY,K,E,C,O,a7,bw,jc,eZ,iJ,dZ,ba,a9];and_intros<;>first|exact x|omega
      .exact bE
      .have z:=az.cT s (c (fz d (h+i))) (d.getD (h+i) 0) (c d) w;simp only[U.X,U,cX,cY,E,C,a9,ba];exact z
      .refine⟨by grind,by grind,by grind,by grind,?_,λb k=>?_⟩
       .simp only;rw[p,dk,show ∀S:Int,[S].length=1 fromλ_=>rfl,uA,AQ,Gd M,j,io w];rfl
       simp only at k⊢;rw[ak,kA w,<-ak];grind
      omega
     have X:h+i=c d:=w;have J:fz d (h+i)=hN d:=bE;refine bL [-32] a bv (g.az ?_);rw[J]at j;exact T s ⟨jI,j⟩ a (by simp[J]) a D
    rintro s ⟨N,y⟩;have W:c (hN d)<=c d:=w' d _;refine cz a bv (g.aK (a1.eY bb a a a a a a wy) a a ?_);refine aW a bv (g.aT ⟨⟨nM (0+bV 0 (f (c (hN d):Int))) (0+bV 0 (f (c (hN d):Int))+(bV (c d) n-bV 0 (f (c (hN d):Int)))) d8.zero (az.fn s),λb k=>?_⟩,bY.mk [0] a ?_ a a a g_⟩)
    .have z:s[b]?=(hN d)[b]?:=M;refine(NJ wy).trans ?_;simp[c0.fn,gF,ak,z]
    exact bE
   refine bL [13,-25] a ?_ (g.av (h+1) a ?_ ?_ ?_ ?_)
   .simp only[U,cX,cY,aa,I,a7,bw,eZ,dZ,ba,a9];and_intros<;>first|exact o|omega
   .simp
   .simp
   .grind
   omega
  obtain rfl:h=c d:=w;refine bL [-13] a D (g.az ?_);exact dw () (by unfold hN;rw[uD (bC _) F,c6]) a D a D
 rintro⟨⟩ t;refine cz a B (g.bu ⟨az.fn d,λb _=>by rw[t]⟩ (g.aH [0] a ?_ g_));simp[t]
end
section
variable {q:af T}
def d_(a:m m2):m Int:=a.flatMap (·.2)
def gd(a:eh):m Int:=hN (jU (d_ a.2))
def KM{d}(a:e<c d):d_ (d.take (e+1))=d_ (d.take e)++(d.getD e ([],[])).2:=by rw[ie a ([],[])];simp[d_]
def _root_.Go.AM.c0.g6(b:c0 α)(a i)(j)(e:j=c (a++i)):bs j (cg (c a) (b.fn a) (b.fn i)) (b.fn (a++i)):=by intro g d;simp only[cg,c0.fn,gF,ak];grind
def XI(b)(z:c b.2<=4000000)(j:c (d_ b.2)<=4000000)(t:∀d,d<=c b.2->c (d_ (b.2.take d))<=4000000):
  bk (ι:=Ap (gd b)) q 128 [iR b] [] (λ_=>cC 0 (.B (c (d_ b.2)) 1 0 (c (gd b)))) (λe=>[.q 3 1 (c (d_ b.2)) e.1]):=by
 refine bk.cd func128 rfl rfl rfl λy=>?_;refine bL [902] a B (g.e9 3 3 1 (az.fn []) a ?_);refine cz a B ?_;refine g.aC 2 (λd=>d<=c b.2) (λd:Nat=>[(3,cC 1 (.B (c (d_ (b.2.take d))) 1 0 (c (d_ (b.2.take d))))),(7,cw.B b.2),(8,Q (c b.2)),(9,Q d)])
  (λd=>[.cells 84 [.c (.int .i64 b.1),.c (.B v 2 (c b.2) (cw.fn b.2))],jf (c (d_ (b.2.take d))) (d_ (b.2.take d))]) (λd=>c b.2-d) 0 a ?_ a ?_ a w ?_
 .simp[d_]
 .simp[bs,d_]
 intro d r;by_cases k:d<c b.2
 .have i:b.2.getD (d:Int).toNat cw.F=b.2.getD d ([],[]):=ds;have h:=KM k;have p:=t (d+1) k;rw[h,dk]at p;refine bL [10] a ?_ (g.av (d+1) a ?_ ?_ ?_ ?_)
  .simp only[U,i,a7,show d8.bytes=8 from a,bw,ba,a9];exact fv
  .simp only[U.X,U,i,h,dk,a9,ba];and_intros<;>first|exact bs.same|rfl|omega
  .have u:=az.g6 (d_ (b.2.take d)) (b.2.getD d ([],[])).2 _ a;simp_all
  .omega
  omega
 obtain rfl:d=c b.2:=w;rw[c6];refine bL [-10] a D (g.az ?_);refine cz a B (g.aB (Cv (d_ b.2) j) [1] a (cz a B ?_));have m:=IM (q:=q) (jU (d_ b.2)) (by rw[qM];exact j);rw[qM]at m;refine g.a2 m [1] a bn ?_;rintro⟨e,o⟩;refine cz a B (g.bu ⟨e,o⟩ (g.aH [1] a ?_ (λx s=>absurd s D)));simp[gd]
def KN(d)(e):c (d_ (d.take e))<=c (d_ d):=by
 have a:d_ d=d_ (d.take e)++d_ (d.drop e):=by unfold d_;grind[List.take_append_drop]
 grind
def H0(d):c (hN d)<=c d:=w' d _
def XH(F)(e:c F.2<=4000000)(a:c (d_ F.2)<=4000000):X q 128 [iR F] [] (az.B (gd F)) []:=by
 have b:=XI (q:=q) F e a λg _=>fQ (KN _ _) a;have d:=bk.bL (aS:=λ_:Ap (gd F)=>[]) (W:=3) (h:=1) (j:=λ_=>c (d_ F.2)) (V:=λV=>V.1) b bn (λ_=>?_) bn (λ_=>bC _);refine(d.le (oy:=λ_=>az.B (gd F)) bn (λV=>?_)).Q
 .simp only[U.X,U,a9,ba];exact V.2
 have:c (gd F)<=c (d_ F.2):=Rs;exact bv
def Yh(b)(e)(d:dV b=l)(p:3<=e)(h:e<=c b)(m:c b<=4000000):X q 310 [b1 b,Q e] [] (bf (pE b e)) []:=by
 refine X.J func310 rfl λj=>?_;have k:=s6 d (e-1) w;have o:=s6 d (e-2) w;have r:=s6 d (e-3) w;have i:((kD b ((e:Int)-1)).toNat:Int)=dq b (e-1):=tW;have O:((kD b ((e:Int)-2)).toNat:Int)=dq b (e-2):=tW;have s:((kD b ((e:Int)-3)).toNat:Int)=dq b (e-3):=tW;refine aW a ?_ (g.ao a ?_)
 .simp only[U,a7,i,O,s];omega
 exact On
abbrev HG:bI:=ei eE c1 (λa b=>bf (pE a b.toNat)) λa b=>[dV a=l,3<=b,b<=c a,c a<=4000000]
def adQ:bK q 310 HG:=.bk λh b g=>by
 obtain⟨d,i,j,e⟩:=g;obtain⟨a,rfl⟩:∃a:Nat,b=a:=⟨b.toNat,by omega⟩
 exact Yh h a d w w e
def T0(o)(d)(e:dV o=l)(t:d<=c o)(y:c o<=4000000):X q 293 [b1 o,Q d] [] (Q (ep o d)) []:=by
 refine X.J func293 rfl λu=>?_;have j:a_ q [(310,HG)]:=.cons adQ .nil;refine b8 j a B (g.b6 (λb=>b<=5/\lM o d (5-b)=ep o d) (λb:Nat=>[(0,b1 o),(1,Q d),(5,Q (3+b))]) (λ_=>[]) (λb=>5-b) 0 a D a B ⟨by omega,a⟩ ?_);rintro b ⟨x,i⟩;by_cases r:b<5
 .obtain⟨h,bX⟩:∃h,5-b=h+1:=⟨4-b,by omega⟩
  have m:d+(7-h)=d+3+b:=w;rw[bX]at i;simp[lM,m]at i;by_cases k:c o<=d+3+b
  .rw[bo k]at i;refine a8 j [7,15] a RE (g.bQ (bY.zero a ?_));exact bv
  rw[bj k]at i;have aw:((d:Int)+(3+(b:Int))).toNat=d+3+b:=w;cases s:pE o (d+3+b)with
  |true=>
   rw[s,bo a]at i;refine a8 j [7,-15,22] a Qp (g.bQ (bY.zero a ?_));exact bv
  |false=>
   rw[s,bj D]at i;refine a8 j [7,-15,-22] a Qp (g.b1 (b+1) a ?_ a B ⟨by omega,by grind⟩ w);exact bv
 have aw:ep o d=min (d+8) (c o):=by rw[<-i,show 5-b=0 by omega];rfl
 have p:a7 .i64 ((min (d+8) (c o):Nat):Int):=bE;refine a8 j [-7] a bv (g.bs a a ?_);refine b8 j a bE (g.aK (yH ((min (d+8) (c o):Nat):Int) a a a w p) a a ?_);refine b8 j a B (g.ao a ?_);simp[aw]
abbrev G1:bI:=ei eE c1 (λa b=>Q (ep a b.toNat)) λa b=>[dV a=l,0<=b,b<=c a,c a<=4000000]
def acZ:bK q 293 G1:=.bk λh b g=>by
 obtain⟨d,i,j,e⟩:=g;obtain⟨a,rfl⟩:∃a:Nat,b=a:=⟨b.toNat,by omega⟩
 exact T0 h a d w e
abbrev mu(b:bA):m Int:=(Td b).map λa:Nat=>(a:Int)
def UO(o)(y:dV o=l)(E:c o<=4000000):X q 249 [b1 o] [] (az.B (mu o)) []:=by
 refine X.J func249 rfl λC=>?_;have i:a_ q [(293,G1)]:=.cons acZ .nil;refine a8 i [903] a B (g.bG 3 3 1 a a ?_);refine b8 i a B (g.aC 1 (λd:Nat×m Int=>d.1<=c o/\c d.2<=d.1/\∃e,c o<=d.1+e/\mu o=d.2++(k' o e d.1).map λz:Nat=>(z:Int)) (λd=>[(0,b1 o),(3,.n (.Q (.x 0 1 (c d.2) (az.fn d.2)))),(4,Q d.1)]) (λd=>[.x 3 1 (c d.2) (az.fn d.2)]) (λd=>c o-d.1) (0,[]) a D a D a ⟨by simp,by simp,c o,by simp,by exact bE⟩ ?_);rintro⟨h,b⟩ ⟨w,u,e,k,s⟩;simp only at w u k s;by_cases j:h<c o
 .obtain⟨e,rfl⟩:∃p,e=p+1:=⟨e-1,by omega⟩
  have x:=rx o h j;have t:=az.aX b (ep o h:Int);have r:c b+1=c (b++[(ep o h:Int)]):=D;refine a8 i [9] a ?_ (g.av (ep o h,b++[(ep o h:Int)]) a ?_ ?_ ?_ ?_)
  .simp only[U,y,show d8.bytes=8 from a,bw,ba,a9];exact fv
  .exact U.X.2 ⟨a,U.X.2 ⟨⟨r,t⟩,U.X.2 ⟨a,B⟩⟩⟩
  .exact U.X.2 ⟨⟨r,t⟩,B⟩
  .refine⟨x.2.1,by grind,e,by grind,?_⟩;rw[s];simp only[k',bo j];simp
  grind
 have A:mu o=b:=by
  have:k' o e h=[]:=by cases e<;>simp[k',j]
  grind
 refine a8 i [-9] a bv (g.az ?_);refine b8 i a B (g.ao a ?_);simp_all
abbrev G8:bI:=dc eE (λa=>az.B (mu a)) λa=>[dV a=l,c a<=4000000]
def ac8:bK q 249 G8:=.a9 λb a=>UO b a.1 a.2
def Tw{d a}{b:α}(h:d.drop e=b::a)(g:α):e<c d/\d.getD e g=b/\d.drop (e+1)=a:=by grind[List.drop_eq_nil_of_le,List.drop_eq_getElem_cons]
def IA(o):∀a b,c (k' o a b)<=a
 |0,_=>bC _
 |a+1,b=>by
  simp[k'];split
  .have:=IA o a (ep o b);grind
  simp
def TU(o)(S:dV o=l)(R:c o<=4000000):X q 193 [b1 o] [] (bR.B (cm o)) []:=by
 refine X.J func193 rfl λW=>?_;have j:a_ q [(249,G8)]:=.cons ac8 .nil;have V:c (mu o)<=c o:=by simp[mu,kB];exact IA o _ _
 refine a8 j [902] a B (g.bG 3 9 1 a a ?_);refine b8 j a ds (g.aC 1 (λd:Nat×Nat×m bA=>d.1<=c (mu o)/\d.2.1<=c o/\c d.2.2<=d.1/\∃h,c o<=d.2.1+h/\(mu o).drop d.1=((k' o h d.2.1).map λJ:Nat=>(J:Int))/\cm o=d.2.2++iz o h d.2.1) (λd=>[(0,b1 o),(3,.n (.Q (.x 0 1 (c d.2.2) (bR.fn d.2.2)))),(4,Q d.2.1),(5,az.B (mu o)),(6,Q d.1)]) (λd=>[.x 9 1 (c d.2.2) (bR.fn d.2.2)]) (λd=>c (mu o)-d.1) (0,0,[]) a D a D a ⟨by simp,by simp,by simp,c o,by simp,by exact bE,by simp[cm]⟩ ?_);rintro⟨s,b,e⟩ ⟨p,I,F,h,r,x,w⟩;simp only at p I F r x w;by_cases k:s<c (mu o)
 .have C:k' o h b≠[]:=by grind[List.length_drop]
  obtain⟨h,rfl⟩:∃u,h=u+1:=by
   cases h with
   |zero=>exact bE
   |succ h=>grind
  have i:b<c o:=by
   rcases dT b (c o) with k|k
   .exact k
   exact absurd (by simp[k',bj (show¬b<c o by omega)]) C
  simp[k',bo i,mf]at x;obtain⟨_,Y,N⟩:=Tw x 0;have K:=rx o b i;have t:(mu o).getD (s:Int).toNat az.F=(ep o b:Int):=M;have y:mq o (f (b:Int)) (f (ep o b:Int))=(o.drop b).take (ep o b-b):=Oc;have E:=bR.aX e ((o.drop b).take (ep o b-b));have A:c e+1=c (e++[(o.drop b).take (ep o b-b)]):=D;refine a8 j [13] a ?_ (g.av (s+1,ep o b,e++[(o.drop b).take (ep o b-b)]) a ?_ ?_ ?_ ?_)
  .simp only[U,t,a7,jh,show sW.bytes=16 from a,bw,ba,a9];exact fv
  .simp only[U.X,U,t,y,ba,a9];and_intros<;>first|exact A|exact E|simp|omega
  .simp only[U.X,U,t,y,ba,a9];and_intros<;>first|exact A|exact E
  .refine⟨by grind,K.2.1,by grind,h,by grind,N,?_⟩;rw[w];simp only[iz,bo i];simp
  grind
 have T:cm o=e:=by
  have z:k' o h b=[]:=by grind[List.map_eq_nil_iff]
  have i:¬b<c o:=by
   intro O;cases h with
   |zero=>omega
   |succ h=>simp only[k',bo O]at z;cases z
  rw[w];cases h<;>simp[iz,i]
 refine a8 j [-13] a ds (g.az ?_);refine b8 j a B (g.ao a ?_);simp_all
abbrev xt:bI:=dc eE (λa=>bR.B (cm a)) λa=>[dV a=l,c a<=4000000]
def Ev:bK q 193 xt:=.a9 λb a=>TU b a.1 a.2
def _root_.Go.AM.c0.e1(e:c0 α)(d)(b h):bs (c d+1+1) (cg (c d+1) (cg (c d) (e.fn d) λa=>[e.a7 b].getD a []) λa=>[e.a7 h].getD a []) (e.fn (d++[b,h])):=by
 have j:=e.aX d b;have g:=e.aX (d++[b]) h;rw[show(d++[b]).length=c d+1 by simp,show d++[b]++[h]=d++[b,h] by simp]at g;intro a k;rw[<-g a k];simp[cg];by_cases i:a<c d+1
 .rw[bo i,bo i];exact j a i
 grind
abbrev Ti(a:cW):y:=.n (.agg [.c (.int .i64 a.1),.c (.T a.2)])
def ju(d:cW)(a:m cW×Bool)(b:cW):m cW×Bool:=if a.2=l then(a.1++[b],l)else if d.1<b.1 then(a.1++[d,b],l)else(a.1++[b],v)
def MC(b):∀d(a:m cW),(d.foldl (ju b) (a,l))=(a++d,l)
 |[],a=>by simp
 |e::g,a=>by rw[iI,show ju b (a,l) e=(a++[e],l)from rfl,MC b g];simp
def MD(b):∀g(a:m cW),(if(g.foldl (ju b) (a,v)).2=l then(g.foldl (ju b) (a,v)).1 else(g.foldl (ju b) (a,v)).1++[b])=a++fB g b
 |[],a=>by simp[fB]
 |d::h,a=>by
  rw[iI];by_cases e:b.1<d.1
  .rw[show ju b (a,v) d=(a++[b,d],l) by simp[ju,e],MC];simp[fB,e]
  rw[show ju b (a,v) d=(a++[d],v) by simp[ju,e],MD b h];simp[fB,e]
theorem ME(b):∀d(a:m cW×Bool),(d.foldl (ju b) a).1.length<=c a.1+c d+1-(if a.2=l then 1 else 0)
 |[],a=>by grind
 |g::e,a=>by rw[iI];have:=ME b e (ju b a g);unfold ju at this⊢;grind
abbrev mj(d:cW)(b:m cW)(a:Nat):m cW×Bool:=(b.take a).foldl (ju d) ([],v)
def Sa{F}{d}(a:e<c d):mj F d (e+1)=ju F (mj F d e) (d.getD e (0,[])):=ig
def Gg(a)(d)(e):(mj a d e).1.length<=c d+1:=by grind[ME]
abbrev aav(d:m cW)(e:cW)(b:Nat)(a:m cW×Bool):bJ:=[(0,bG.B d),(3,aI 0 0),(5,.n (.Q (.x 1 2 (c a.1) (bG.fn a.1)))),(6,bf a.2),(7,Q b)]
abbrev aau(b:cW)(a:m cW):m aq:=[.cells 114 [.c (.int .i64 b.1),.c (.T b.2)],.x 114 2 (c a) (bG.fn a)]
def Xk(d)(F)(y:c d<=4000000):X q 199 [bG.B d,Ti F] [] (bG.B (fB d F)) []:=by
 refine X.J func199 rfl λx=>?_;refine bL [902] a B (g.bG 5 114 2 a a ?_);refine cz a B (g.aC 2 (λb=>b<=c d) (λb:Nat=>aav d F b (mj F d b)) (λb=>aau F (mj F d b).1) (λb=>c d-b) 0 a ?_ a ?_ a w ?_)
 .simp[mj]
 .simp[mj]
 intro b r;by_cases p:b<c d
 .have j:=Sa (F:=F) p;have i:=Gg F d b;have aj:d.getD (b:Int).toNat bG.F=d.getD b (0,[]):=M;generalize mj F d b=e at j i;obtain⟨e,m⟩:=e;simp only at i;have h:=bG.aX e (d.getD b (0,[]));have o:=bG.e1 e F (d.getD b (0,[]));cases m with
  |true=>
   have s:mj F d (b+1)=(e++[d.getD b (0,[])],l):=j;have u:c e+1=c (e++[d.getD b (0,[])]):=D;refine bL [12] a ?_ (g.av (b+1) a ?_ ?_ ?_ ?_)
   .simp only[U,aj,a7,show mA.bytes=24 from a,bw,ba,a9];exact fv
   .exact OF
   .exact OZ
   .grind
   omega
  |false=>
   by_cases k:F.1<(d.getD b (0,[])).1
   .have s:mj F d (b+1)=(e++[F,d.getD b (0,[])],l):=by rw[j];simp only[ju,bo k];rfl
    have u:c e+1+1=c (e++[F,d.getD b (0,[])]):=D;refine bL [12,25] a ?_ (g.av (b+1) a ?_ ?_ ?_ ?_)
    .simp only[U,aj,a7,show mA.bytes=24 from a,k,lD,bw,ba,a9];exact fv
    .rw[s];simp[U.X,U,aj,ba,a9];and_intros<;>first|exact u|exact o|simp|rfl|omega
    .rw[s];simp[U.X,U,aj,ba,a9];and_intros<;>first|exact u|exact o|exactλ_ _=>rfl|rfl|omega
    .grind
    omega
   have s:mj F d (b+1)=(e++[d.getD b (0,[])],v):=by rw[j];simp only[ju,bj k];rfl
   have u:c e+1=c (e++[d.getD b (0,[])]):=D;refine bL [12,-25] a ?_ (g.av (b+1) a ?_ ?_ ?_ ?_)
   .simp only[U,aj,a7,show mA.bytes=24 from a,bw,k,nY,p6,dp,ba,a9];exact fv
   .exact OF
   .exact OZ
   .grind
   omega
 obtain rfl:b=c d:=w;have O:=MD F d [];have i:=Gg F d (c d);refine bL [-12] a D (g.az ?_);have t:mj F d (c d)=d.foldl (ju F) ([],v):=M;rw[t]at i⊢;generalize d.foldl (ju F) ([],v)=e at *;obtain⟨e,m⟩:=e;simp only[p1]at O i;cases m with
 |true=>
  exact Oo
 |false=>
  simp only[j5,dm]at O;have h:=bG.aX e F;refine cz a ?_ (g.ao a ?_)
  .simp only[U,show mA.bytes=24 from a,ba,a9];grind
  rw[<-O];simp only[U.X,U,ba,a9];and_intros<;>first|exact h|simp
abbrev Hw:bI:=ei (eK bG) sg (λa b=>bG.B (fB a b)) λa _=>[c a<=4000000]
def adF:bK q 199 Hw:=.bk λb d a=>Xk b d a
abbrev Tm(a:fg):y:=.n (.agg [.c (.int .i64 a.1),.c (.int .i64 a.2)])
def fm(d:fg)(a:m fg×Bool)(b:fg):m fg×Bool:=
 if a.2=l then(if b.1=d.1 then a else(a.1++[b],l))else if d.1<=b.1 then(if b.1=d.1 then(a.1++[d],l)else(a.1++[d,b],l))else(a.1++[b],v)
def zr(b):∀(g:m fg)a,(g.foldl (fm b) (a,l))=(a++g.filter λi=>!(i.1==b.1),l)
 |[],a=>by simp
 |e::h,a=>by
  rw[iI];by_cases d:e.1=b.1
  .rw[show fm b (a,l) e=(a,l) by simp[fm,d],zr b h];simp[d]
  rw[show fm b (a,l) e=(a++[e],l) by simp[fm,d],zr b h];simp[d]
def MG(a):∀g(b:m fg),(if(g.foldl (fm a) (b,v)).2=l then(g.foldl (fm a) (b,v)).1 else(g.foldl (fm a) (b,v)).1++[a])=b++d' g a
 |[],b=>by simp[d']
 |d::i,b=>by
  rw[iI];by_cases h:a.1<=d.1
  .have s:¬d.1<a.1:=w;by_cases e:d.1=a.1
   .rw[show fm a (b,v) d=(b++[a],l) by simp[fm,e],zr];simp[d',e]
   rw[show fm a (b,v) d=(b++[a,d],l) by simp[fm,h,e],zr];simp[d',s,e]
  have s:d.1<a.1:=w;rw[show fm a (b,v) d=(b++[d],v) by simp[fm,h],MG a i];simp[d',s]
theorem MH(b):∀i(a:m fg×Bool),(i.foldl (fm b) a).1.length<=c a.1+c i+1-(if a.2=l then 1 else 0)
 |[],a=>by grind
 |d::k,a=>by
  rw[iI];have g:=MH b k (fm b a d);obtain⟨a,j⟩:=a;simp[fh];cases j with
  |true=>
   by_cases e:d.1=b.1
   .rw[show fm b (a,l) d=(a,l) by simp[fm,e]]at g⊢;grind
   rw[show fm b (a,l) d=(a++[d],l) by simp[fm,e]]at g⊢;grind
  |false=>
   by_cases h:b.1<=d.1
   .by_cases e:d.1=b.1
    .rw[show fm b (a,v) d=(a++[b],l) by simp[fm,e]]at g⊢;grind
    rw[show fm b (a,v) d=(a++[b,d],l) by simp[fm,h,e]]at g⊢;grind
   rw[show fm b (a,v) d=(a++[d],v) by simp[fm,h]]at g⊢;grind
abbrev k3(d:fg)(b:m fg)(a:Nat):m fg×Bool:=(b.take a).foldl (fm d) ([],v)
def Sb{F}{d}(a:e<c d):k3 F d (e+1)=fm F (k3 F d e) (d.getD e (0,0)):=ig
def Gh(a)(d)(e):(k3 a d e).1.length<=c d+1:=by grind[MH]
abbrev aax(d:m fg)(e:fg)(b:Nat)(a:m fg×Bool):bJ:=[(0,e_.B d),(3,aI 0 0),(5,.n (.Q (.x 1 2 (c a.1) (e_.fn a.1)))),(6,bf a.2),(7,Q b)]
abbrev aaw(b:fg)(a:m fg):m aq:=[.cells 253 [.c (.int .i64 b.1),.c (.int .i64 b.2)],.x 253 2 (c a) (e_.fn a)]
def Xl(d)(F:fg)(x:c d<=4000000):X q 198 [e_.B d,Tm F] [] (e_.B (d' d F)) []:=by
 refine X.J func198 rfl λt=>?_;refine bL [902] a B (g.bG 5 253 2 a a ?_);refine cz a B (g.aC 2 (λb=>b<=c d) (λb:Nat=>aax d F b (k3 F d b)) (λb=>aaw F (k3 F d b).1) (λb=>c d-b) 0 a ?_ a ?_ a w ?_)
 .simp[k3]
 .simp[k3]
 intro b p;by_cases o:b<c d
 .have h:=Sb (F:=F) o;have i:=Gh F d b;have aj:d.getD (b:Int).toNat e_.F=d.getD b (0,0):=M;generalize k3 F d b=e at h i;obtain⟨e,j⟩:=e;simp only at i;have u:=e_.aX e (d.getD b (0,0));have k:=e_.aX e F;have m:=e_.e1 e F (d.getD b (0,0));cases j with
  |true=>
   by_cases heq:(d.getD b (0,0)).1=F.1
   .have s:k3 F d (b+1)=(e,l):=by rw[h];simp only[fm,dv,bo heq]
    refine bL [12,-38] a QA (g.av (b+1) a FW FW M ?_);omega
   have s:k3 F d (b+1)=(e++[d.getD b (0,0)],l):=by rw[h];simp only[fm,dv,bj heq]
   refine bL [12,38] a QA (g.av (b+1) a OW PH M ?_);omega
  |false=>
   by_cases aw:F.1<=(d.getD b (0,0)).1
   .by_cases heq:(d.getD b (0,0)).1=F.1
    .have s:k3 F d (b+1)=(e++[F],l):=by rw[h];simp only[fm,bo aw,bo heq];rfl
     refine bL [12,25,-38] a Fx (g.av (b+1) a ?_ ?_ ?_ ?_)
     .rw[s];simp only[U.X,U,aj,ba,a9];and_intros<;>first|exact u|exact k|simp|simp|rfl|omega|simp
     .rw[s];exact bE
     .grind
     omega
    have s:k3 F d (b+1)=(e++[F,d.getD b (0,0)],l):=by rw[h];simp only[fm,bo aw,bj heq];rfl
    refine bL [12,25,38] a Fx (g.av (b+1) a ?_ ?_ ?_ ?_)
    .rw[s];simp only[U.X,U,aj,ba,a9];and_intros<;>first|exact u|exact k|exact m|simp|rfl|omega|simp
    .rw[s];simp only[U.X,U,aj,ba,a9];and_intros<;>first|exact u|exact k|exact m|grind|rfl|omega|simp
    .grind
    omega
   have heq:¬(d.getD b (0,0)).1=F.1:=w;have s:k3 F d (b+1)=(e++[d.getD b (0,0)],v):=by rw[h];simp only[fm,bj aw];rfl
   refine bL [12,-25,38] a Fx (g.av (b+1) a OW PH M ?_);omega
 obtain rfl:b=c d:=w;have O:=MG F d [];have i:=Gh F d (c d);refine bL [-12] a D (g.az ?_);have r:k3 F d (c d)=d.foldl (fm F) ([],v):=M;rw[r]at i⊢;generalize d.foldl (fm F) ([],v)=e at *;obtain⟨e,j⟩:=e;simp only[p1]at O i;cases j with
 |true=>
  exact Oo
 |false=>
  simp only[j5,dm]at O;have u:=e_.aX e F;refine cz a ?_ (g.ao a ?_)
  .simp only[U,show pc.bytes=16 from a,ba,a9];grind
  rw[<-O];simp only[U.X,U,ba,a9];and_intros<;>first|exact u|simp
abbrev Hx:bI:=ei (eK e_) sf (λa b=>e_.B (d' a b)) λa _=>[c a<=4000000]
def adG:bK q 198 Hx:=.bk λb d a=>Xl b d a
abbrev El(a:b'):m fg:=a.2.map λb=>(b.1,a.1)
def hf(b:m b')(a d:Nat):m fg:=dC (b.take a)++(El (b.getD a (0,[]))).take d
def Em{d}(a:e<c d):dC (d.take (e+1))=dC (d.take e)++El (d.getD e (0,[])):=by rw[ie a (0,[])];simp[dC]
theorem Mx(d)(e):c (dC (d.take e))<=c (dC d):=by have a:dC d=dC (d.take e)++dC (d.drop e):=RI;grind
def zp{d}(b:e<c d):∃g,dC d=hf d e u++g:=by have a:dC d=dC (d.take (e+1))++dC (d.drop (e+1)):=RI;refine⟨(El (d.getD e (0,[]))).drop u++dC (d.drop (e+1)),?_⟩;rw[a,Em b,hf,mi,mi];grind[List.take_append_drop]
theorem aa8(d)(a):c (d' d a)<=c d+1:=by
 induction d with
 |nil=>simp[d']
 |cons g e b=>
  simp only[d'];grind
theorem CV(d):∀a:m fg,c (d.foldl d' a)<=c a+c d:=by
 induction d with
 |nil=>grind
 |cons g e b=>grind[aa8]
def VC(d)(J:c d<=4000000)(I:c (dC d)<=100000):X q 160 [a2.B d] [] (e_.B (eB d)) []:=by
 refine X.J func160 rfl λK=>?_;have e:a_ q [(197,HD),(198,Hx)]:=.cons adN (.cons adG .nil);refine cU e a B (g.aC 0 (λb=>b<=c d/\(dC (d.take b)).all fW=l) (λb:Nat=>[(0,a2.B d),(3,e_.B ((dC (d.take b)).foldl d' [])),(4,Q b)]) (λ_=>[]) (λb=>c d-b) 0 a ?_ a ?_ a ⟨by omega,a⟩ ?_)
 .simp[dC]
 .simp
 rintro b ⟨r,j⟩;by_cases k:b<c d
 .have h:d.getD (b:Int).toNat a2.F=d.getD b (0,[]):=M;have p:=Em k;refine be e [11] a bv (g.aC 0 (λu=>u<=(d.getD b (0,[])).2.length/\(hf d b u).all fW=l) (λu:Nat=>[(0,a2.B d),(3,e_.B ((hf d b u).foldl d' [])),(4,Q b),(5,Q u)]) (λ_=>[]) (λu=>(d.getD b (0,[])).2.length-u) 0 a ?_ a ?_ a ⟨by omega,by simpa[hf]using j⟩ ?_)
  .simp[hf]
  .simp
  rintro u ⟨O,C⟩;obtain⟨y,x⟩:=zp (d:=d) (u:=u) k;have A:c (hf d b u)<=100000:=M;have t:=CV (hf d b u) [];simp only[gK]at t;have E:(d.getD b (0,[])).2.length<=100000:=by grind[Mx]
  by_cases N:u<(d.getD b (0,[])).2.length
  .have i:(d.getD b (0,[])).2.getD (u:Int).toNat bG.F=(d.getD b (0,[])).2.getD u (0,[]):=M;have s:hf d b (u+1)=hf d b u++[(((d.getD b (0,[])).2.getD u (0,[])).1,(d.getD b (0,[])).1)]:=Rp;cases m:fW (((d.getD b (0,[])).2.getD u (0,[])).1,(d.getD b (0,[])).1)with
   |false=>
    have z:eB d=[]:=by obtain⟨y,x⟩:=zp (d:=d) (u:=u+1) k;unfold eB;rw[bj];grind
    refine be e [21,-40] a ?_ (g.aT (bY.zero a ?_))
    .simp only[U,h,i,m,bw,ba,a9];exact fv
    rw[z];simp
   |true=>
    refine be e [21,40] a ?_ (g.av (u+1) a ?_ ?_ ?_ ?_)
    .simp only[U,h,i,m,a7,e_.l,bw,ba,a9];and_intros<;>first|exact e_.U _|omega
    .rw[s];simp only[uu,iI,List.foldl_nil,U.X,U,h,i,e_.l,ba,a9];and_intros<;>first|simp|rfl|omega
    .simp
    .grind
    omega
  have F:u=(d.getD b (0,[])).2.length:=w;have o:hf d b u=dC (d.take (b+1)):=by rw[p,hf];grind[List.length_map]
  refine be e [-21] a ?_ (g.az ?_)
  .simp only[U,h,dp];exact fv
  refine cU e a bE (g.av (b+1) a ?_ ?_ ?_ ?_)
  .rw[o];simp
  .simp
  .grind
  omega
 obtain rfl:b=c d:=w;rw[c6]at j⊢;refine be e [-11] a D (g.az ?_);refine cU e a B (g.ao a ?_);simp[eB,j]
abbrev Ha:bI:=dc (eK a2) (λa=>e_.B (eB a)) λa=>[c a<=4000000,c (dC a)<=100000]
def adf:bK q 160 Ha:=.a9 λb a=>VC b a.1 a.2
abbrev xz:bI:=ei c1 eE (λa b=>Q (dW a b)) λa b=>[ce a=l,cB b=l]
abbrev BF:bI:=dc eE (λa=>b1 (fK a)) λa=>[cB a=l]
def MX:bK q 200 BF:=.a9 λb a=>W7 b a
theorem aa2(d)(b):c (fB d b)=c d+1:=by
 induction d with
 |nil=>simp[fB]
 |cons g e a=>simp only[fB];split<;>simp[a]
def h8(d:Int)(a:m bA):m cW:=a.foldl (λe b=>fB e (dW d b,fK b)) []
def Ds(h)(Z):c (h8 h Z)=c Z:=by
 have d:∀Z b,c (Z.foldl (λe a=>fB e (dW h a,fK a)) b)=c b+c Z:=by
  intro Z;induction Z with
  |nil=>grind
  |cons a i g=>grind[aa2]
 have:=d Z [];rw[gK,cX]at this;exact this
def Z'{Z}(a:e<c Z):h8 h (Z.take (e+1))=fB (h8 h (Z.take e)) (dW h (Z.getD e []),fK (Z.getD e [])):=by unfold h8;grind[ie]
abbrev aaN(a:Int)(b:m cW):aq:=.cells 80 [.c (.int .i64 a),.c (.B v 2 (c b) (bG.fn b))]
def Ww(bN h)(Z)(e:ce h=l)(m:∀t∈Z,cB t=l)(y:c Z<=4000000):X q 161 [Q bN,Q h,bR.B Z] [] (fH (jQ bN h Z)) []:=by
 refine X.bg bb func161 rfl rfl rfl λx=>?_;have d:a_ q [(195,xz),(200,BF),(199,Hw)]:=.cons zw (.cons MX (.cons adF .nil));refine cU d a B (g.aC 2 (λb=>b<=c Z) (λb:Nat=>[(1,Q h),(2,bR.B Z),(6,aI 0 0),(7,aI 1 0),(8,Q b)]) (λb=>[.cells 80 [.c (.int .i64 0),.c (.B l 0 0 λ_=>[])],aaN bN (h8 h (Z.take b))]) (λb=>c Z-b) 0 a D a ?_ a w ?_)
 .simp[h8]
 intro b p;by_cases o:b<c Z
 .have i:Z.getD (b:Int).toNat bR.F=Z.getD b []:=M;have j:cB (Z.getD b [])=l:=m _ M;have r:=Z' (h:=h) o;have k:=Ds h (Z.take b);rw[List.length_take]at k;refine be d [15] a ?_ (g.av (b+1) a ?_ ?_ ?_ ?_)
  .simp only[U,i,e,j,a7,bG.l,bw,ba,a9];and_intros<;>first|exact bG.U _|omega
  .simp
  .rw[r];simp only[U.X,U,i,bG.l,ba,a9];and_intros<;>first|simp|rfl|omega
  .grind
  omega
 obtain rfl:b=c Z:=w;rw[c6];refine be d [-15] a D (g.az ?_);refine cU d a B (g.bf () [] ?_ (λu s=>absurd s D));simp[jQ,h8]
def Xd(b):X q 294 [b1 b] [] (bf (cB b)) []:=by
 refine X.J func294 rfl λh=>?_;have e:a_ q [(45,kE),(114,xp)]:=.cons lo (.cons t114 .nil);by_cases d:1<=c b/\c b<=8
 .refine a8 e [6] a bQ (g.ao a ?_);simp[cB,d.1,d.2]
 refine a8 e [-6] a bQ (g.ao a ?_);have:cB b=v:=by simp[cB,<-Bool.decide_and,na d,sr]
 simp[this]
abbrev Ht:bI:=dc eE (λa=>bf (cB a)) λ_=>[]
def adA:bK q 294 Ht:=.a9 λa _=>Xd a
def W6(a):X q 252 [b1 a] [] (b1 (fK a)) []:=by
 refine X.J func252 rfl λd=>?_;have b:a_ q [(294,Ht),(200,BF)]:=.cons adA (.cons MX .nil);cases t:cB a with
 |true=>exact a8 b [-5] rfl gH (g.ao rfl)
 |false=>exact a8 b [5] rfl gH (g.ao rfl (by simp[fK,t]))
abbrev Hr:bI:=dc eE (λa=>b1 (fK a)) λ_=>[]
def ady:bK q 252 Hr:=.a9 λa _=>W6 a
def aaF(b):c (fK b)<=8:=by
 unfold fK;split
 .rename_i a;simp[cB,ck,bw]at a;grind[HQ]
 simp
def W4(i):X q 201 [b1 i] [] (iQ (hE i)) []:=by
 refine X.J func201 rfl λz=>?_;have C:=z.T 0 a;have p:a_ q [(252,Hr)]:=.cons ady .nil;refine aW a B ?_;have fin:∀j,j<=c i->fo (i.take j)=fo i->(j=0∨fo (i.take j)=i.take j)->i.take j=fo i:=λj d u o=>by
  rcases o with rfl|o
  .exact bE
  grind
 have e:∀j,j<=c i->i.take j=fo i->hE i=if c i<=8/\fK (fo i)=i/\j≠0 then f (i.take j)else n:=λj d u=>by
  have E:=aaF (fo i);have r:j=0↔fo i=[]:=by grind[List.take_eq_nil_iff]
  unfold hE;rw[u];by_cases O:fK (fo i)=i
  .by_cases h:cB (fo i)=l
   .have:j≠0:=λx=>by rw[r.1 x]at h;cases h
    grind
   have x:j=0:=r.2 (by rw[fK,bj h]at O;grind);grind
  grind
 refine g.cm (S2:=Nat) 0 a a (λj=>j<=c i/\i.take j=fo i) (λj=>[(0,b1 i),(4,Q j)]) (λ_=>[]) 0 (λj=>j<=c i/\fo (i.take j)=fo i) (λj:Nat=>[(0,b1 i),(4,Q j)]) (λ_=>[]) (λj=>j) (c i) a D a B a ⟨by omega,by simp⟩ ?_ ?_
 .rintro dw j ⟨d,s⟩;rcases j with _|j
  .refine a5 [-9,-15] a D (g.az ?_);exact dw 0 ⟨d,fin 0 d s (.inl a)⟩ a D a B
  have r:=MJ (b:=i) (j:=j) w;have aj:((j:Int)+1-1).toNat=j:=w;by_cases o:i.getD j 0=46
  .refine a5 [9,15] a ?_ (g.av j a ?_ B ⟨by omega,?_⟩ w)
   .have O:dq i j=46:=by unfold dq;exact bE
    exact Pp
   .simp
   grind
  refine a5 [9,-15] a ?_ (g.az ?_)
  .have O:dq i j≠46:=by unfold dq;intro A;exact o (uq.1 M)
   exact Pp
  exact dw (j+1) ⟨d,fin _ d s (.inr M)⟩ a D a B
 rintro j ⟨d,y⟩;have F:=e j d y;have t:mq i n (f (j:Int))=fo i:=y▸rfl;have m:((c i:Int)<=8)↔c i<=8:=w;by_cases k:c i<=8
 .by_cases iK:fK (fo i)=i
  .by_cases jI:j=0
   .refine a8 p [-21,-29,32] a ?_ (g.ao a ?_)
    .subst jI;simp[U,t,iK];grind
    exact bE
   refine a8 p [-21,-29,-32] a ?_ (g.ao a ?_)
   .simp[t,m,k,iK,jI,d]
   exact bE
  refine a8 p [-21,29,32] a ?_ (g.ao a ?_)
  .simp[t,m,k,iK,d]
  exact bE
 refine a8 p [21,29,32] a bQ (g.ao a ?_);exact bE
abbrev BE:bI:=dc eE (λa=>iQ (hE a)) λ_=>[]
def MW:bK q 201 BE:=.a9 λa _=>W4 a
def Xq(h)(b)(a:ce h=l):X q 164 [Q h,B9 b] [] (bf (right h b)) []:=by
 refine X.J func164 rfl λe=>?_;have d:a_ q [(201,BE),(195,xz)]:=.cons MW (.cons zw .nil);cases x:hE b.2 with
 |none=>exact a8 d [-14] rfl oN (g.ao rfl (by simp[right,x]))
 |some i=>exact a8 d [14] rfl (by simp[x,a,Li x]) (g.ao rfl (by simp[right,x]))
abbrev BG:bI:=ei c1 sg (λa b=>bf (right a b)) λa _=>[ce a=l]
def MY:bK q 164 BG:=.bk λb d a=>Xq b d a
def VS(h):X q 44 [Q h] [] (bf (ce h)) []:=by refine X.J func44 rfl λd=>?_;have b:a_ q [(45,kE)]:=.cons lo .nil;exact b8 b a B (g.ao a (by simp[ce]))
abbrev ro:bI:=dc c1 (λa=>bf (ce a)) λ_=>[]
def tF:bK q 44 ro:=.a9 λa _=>VS a
abbrev xw(a:b'):aq:=.cells 80 [.c (.int .i64 a.1),.c (lm a)]
def WY(h)(b)(j):X q 253 [Q h,fH b,Q j] [] (iQ (fS h b j)) []:=by
 refine X.J func253 rfl λu=>?_;have i:a_ q [(44,ro),(164,BG),(201,BE)]:=.cons tF (.cons MY (.cons MW .nil));cases bX:ce h with
 |false=>
  refine a8 i [11] a kU (g.ao a ?_);have:fS h b j=n:=by unfold fS iM;grind
  simp[this]
 |true=>
 have x:=u.fX 1 a 1 a;refine a8 i [-11] a kU (g.aC 1 (λd=>d<=c b.2/\b.2.find? (λF=>F.1==j)=(b.2.drop d).find? (λF=>F.1==j)) (λd:Nat=>[(0,Q h),(4,aI 0 0),(2,Q j),(8,Q d)]) (λ_=>[xw b]) (λd=>c b.2-d) 0 a D a D a ⟨by omega,a⟩ ?_);rintro d ⟨t,e⟩;by_cases p:d<c b.2
 .have A:b.2.getD d bG.F=d9 b d:=rfl;have r:b.2.drop d=d9 b d::b.2.drop (d+1):=FM;rw[r,List.find?_cons]at e;by_cases m:(d9 b d).1=j
  .rw[show((d9 b d).1==j)=l by grind]at e;cases k:right h (d9 b d)with
   |false=>
    have s:right h (j,(d9 b d).2)=v:=m▸k;refine a8 i [16,26,34] a ds (g.aT (bY.zero a ?_));have o:fS h b j=n:=by have:=BR (h:=h) (F:=d9 b d) bX;rw[k]at this;simp[fS,e];simp_all
    simp[o]
   |true=>
    have s:right h (j,(d9 b d).2)=l:=m▸k;refine a8 i [16,26,-34] a ds (g.aT (bY.zero a ?_));have o:fS h b j=hE (d9 b d).2:=by simp[fS,e,iM];unfold right at k;grind
    simp_all
  rw[show((d9 b d).1==j)=v by grind]at e;refine a8 i [16,-26] a ?_ (g.av (d+1) a D D ⟨p,e⟩ w);simp[-ak,A,m,a7,p];omega
 obtain rfl:d=c b.2:=w;refine a8 i [-16] a D (g.az ?_);refine b8 i a B (g.ao a ?_);simp[fS,e]
abbrev Hu:bI:=j' c1 (jB bG) c1 (λa d b=>iQ (fS a d b)) λ_ _ _=>[]
def adD:bK q 253 Hu:=.c5 λa d b _=>WY a d b
theorem DK(b:Int)(a:b'):h' b a=(decide (1<=a.1/\a.1<=99)&&ce b&&decide (1<=c a.2/\c a.2<=4)&&(aB (c a.2)).all (ic b a)):=by grind[DJ]
def aco{S:b'}(a:e≠0):ic h S e=(right h (d9 S e)&&decide ((d9 S (e-1)).1<(d9 S e).1)):=by unfold ic;grind
def W1(h:Int)(S:b'):X q 122 [Q h,fH S] [] (bf (h' h S)) []:=by
 refine X.J func122 rfl λu=>?_;have d:a_ q [(45,kE),(44,ro),(164,BG)]:=.cons lo (.cons tF (.cons MY .nil));have y:=u.fX 1 a 1 a;rw[DK];by_cases j:1<=S.1/\S.1<=99
 rotate_left
 .exact a8 d [10,14,21] a bQ (g.ao a bE)
 cases e:ce h
 .exact a8 d [-10,14,21] a ds (g.ao a)
 by_cases k:1<=c S.2/\c S.2<=4
 rotate_left
 .exact a8 d [-10,-14,21] a bE (g.ao a bv)
 refine a8 d [-10,-14,-21] a lI ?_;rw[fi j,fi k,fP,fP,fP];refine g.aC 1 (λb=>b<=c S.2/\∀r,r<b->ic h S r=l) (λb:Nat=>[(0,Q h),(3,aI 0 0),(5,Q b)]) (λ_=>[xw S]) (λb=>c S.2-b) 0 a D a D a ⟨by omega,by omega⟩ ?_;rintro b ⟨s,m⟩;by_cases t:b<c S.2
 .have C:S.2.getD b bG.F=d9 S b:=rfl;cases i:right h (d9 S b)with
  |false=>
   refine a8 d [26,37,56] a ds (g.aT (bY.zero a ?_));rw[lG t (by simp only[ic,i,sr])];simp
  |true=>
   by_cases p:b=0
   .subst p;refine a8 d [26,-37,-40,-56] a ?_ (g.av 1 a D D ⟨t,je m (by simp only[ic,i,fP];rfl)⟩ w);exact lI
   have o:S.2.getD (b-1) bG.F=d9 S (b-1):=rfl;have z:=aco (h:=h) (S:=S) p;by_cases x:(d9 S (b-1)).1<(d9 S b).1
   .refine a8 d [26,-37,40,-54,-56] a ?_ (g.av (b+1) a D D ⟨t,je m M⟩ w);simp[-ak,C,o,i,e,t,x,a7];omega
   refine a8 d [26,-37,40,54,56] a ?_ (g.aT (bY.zero a ?_))
   .simp[-ak,C,o,i,e,t,a7];omega
   exact jX
 obtain rfl:b=c S.2:=w;refine a8 d [-26] a D (g.az ?_);exact b8 d a B (g.ao a bv)
abbrev Hq:bI:=ei c1 (jB bG) (λa b=>bf (h' a b)) λ_ _=>[]
def adv:bK q 122 Hq:=.bk λa b _=>W1 a b
def oe{a:m α}{O:α}(b:e<c a):a.getD e O∈a:=M
def Y1{a:m Int}{b:Int}:a.contains b=!(aB (c a)).all λd=>!(a.getD d 0==b):=by rw[oX,jc,<-p0,fZ,AI];grind[List.mem_iff_getElem]
def U8(d:m Int)(e:Int):X q 80 [az.B d,Q e] [] (bf (d.contains e)) []:=by
 refine X.J func80 rfl λk=>?_;have p:=k.B 0 a;refine aW a B ?_;rw[Y1];refine g.b6 (λb=>b<=c d/\∀i,i<b->(!(d.getD i 0==e))=l) (λb:Nat=>[(0,az.B d),(1,Q e),(5,Q b)]) (λ_=>[]) (λb=>c d-b) 0 a D a B ⟨by omega,by omega⟩ ?_;rintro b ⟨o,j⟩;by_cases t:b<c d
 .have s:d.getD b az.F=d.getD b 0:=rfl;by_cases h:d.getD b 0=e
  .refine a5 [9,17] a ?_ (g.bQ (bY.zero a ?_))
   .simp[-ak,s,h,t]
   exact jX
  refine a5 [9,-17] a ?_ (g.b1 (b+1) a D a B ⟨t,je j M⟩ w);simp[-ak,s,h,t,a7];omega
 obtain rfl:b=c d:=w;refine a5 [-9] a D (g.bs a a ?_);exact aW a B (g.ao a ds)
abbrev uR:bI:=ei (eK az) c1 (λa b=>bf (a.contains b)) λ_ _=>[]
def zu:bK q 80 uR:=.bk λa b _=>U8 a b
def Xb(e:Int)(b:m b')(h:Int):X q 202 [Q e,a2.B b,Q h] [] (iQ (dg e b h)) []:=by
 refine X.J func202 rfl λr=>?_;have u:=r.B 1 a;have k:a_ q [(253,Hu)]:=.cons adD .nil;refine b8 k a B (g.b6 (λd=>d<=c b/\dg e b h=dg e (b.drop d) h) (λd:Nat=>[(0,Q e),(1,a2.B b),(2,Q h),(8,Q d)]) (λ_=>[]) (λd=>c b-d) 0 a D a B ⟨by omega,a⟩ ?_);rintro d ⟨t,i⟩;by_cases o:d<c b
 .have s:b.drop d=b.getD d (0,[])::b.drop (d+1):=FM;have p:((b.getD d a2.F).1,bG.ad (b.getD d a2.F).2.length (bG.fn (b.getD d a2.F).2))=b.getD d (0,[]):=bE;rw[s,show dg e (b.getD d (0,[])::b.drop (d+1)) h=_ from List.findSome?_cons]at i;cases j:fS e (b.getD d (0,[])) h with
  |some x=>
   rw[j]at i;refine a8 k [14,27] a ?_ (g.bQ (bY.zero a ?_))
   .simp[-ak,p,j,o,bG.U]
   simp_all
  |none=>
   rw[j]at i;refine a8 k [14,-27] a ?_ (g.b1 (d+1) a D a B ⟨o,i⟩ w);simp[-ak,p,j,o,a7,bG.U];omega
 obtain rfl:d=c b:=w;refine a5 [-14] a D (g.bs a a ?_);exact aW a B (g.ao a (by rw[i,uv];simp[dg]))
abbrev Hs:bI:=j' c1 (eK a2) c1 (λb a d=>iQ (dg b a d)) λ_ _ _=>[]
def adz:bK q 202 Hs:=.c5 λb a d _=>Xb b a d
def Xr(x i):X q 254 [bR.B x,bR.B i] [] (bf (x==i)) []:=by
 refine X.J func254 rfl λk=>?_;have t:=k.B 0 a;by_cases r:c x=c i
 rotate_left
 .have:(x==i)=v:=eZ.2 M;exact a5 [10] a bQ (g.ao a (by simp[this]))
 refine a5 [-10] a bQ (g.b6 (λb=>b<=c x/\∀d,d<b->x.getD d []=i.getD d []) (λb:Nat=>[(0,bR.B x),(1,bR.B i),(5,Q b)]) (λ_=>[]) (λb=>c x-b) 0 a D a B ⟨by omega,by omega⟩ ?_);rintro b ⟨p,s⟩;by_cases o:b<c x
 .have h:∀j:m bA,j.getD b bR.F=j.getD b []:=λ_=>rfl;by_cases e:x.getD b []=i.getD b []
  .refine a5 [14,-25] a ?_ (g.b1 (b+1) a D a B ⟨o,λd u=>?_⟩ w)
   .simp[-ak,h,e,a7];omega
   grind
  refine a5 [14,25] a ?_ (g.bQ (bY.zero a ?_))
  .simp[-ak,h,e];omega
  exact Fb
 obtain rfl:b=c x:=w;have:x=i:=pZ r λd e y=>by grind
 refine a5 [-14] a D (g.bs a a ?_);exact aW a B (g.ao a (by simp[this]))
def adJ:bK q 254 xv:=.bk λa b _=>Xr a b
def Lq(o):∀d e b,b∈iz o d e->c b<=8
 |0,_,b,a=>by exact bE
 |d+1,e,b,a=>by
  simp only[iz]at a;split at a
  .rename_i g;rcases e9.1 a with rfl|a
   .grind [rx]
   exact Lq o d _ b a
  grind
def Tf{d}{a}(e:a∈d)(g:8<c a):iO d=n:=by unfold iO;rw[bj];intro b;simp[ck,gL]at b;have:=Lq d.flatten (c d.flatten) 0 a (by rw[show iz d.flatten (c d.flatten) 0=d from b.2];exact e);omega
def YM(a:m bA)(e):(a.take e).flatten.length<=c a.flatten:=FQ
def Te{d:m bA}(b:40<(d.take e).flatten.length):iO d=n:=by have:=YM d e;unfold iO;rw[bj];intro a;simp only[ck,fL,bw]at a;omega
def VQ(d):X q 203 [bR.B d] [] (iQ (iO d)) []:=by
 refine X.J func203 rfl λp=>?_;have r:=p.B 0 a;have b:a_ q [(73,xq),(193,xt),(254,xv)]:=.cons t73 (.cons Ev (.cons adJ .nil));refine b8 b a B (g.b6 (λe=>e<=c d/\(d.take e).flatten.length<=48) (λe:Nat=>[(0,bR.B d),(4,b1 (d.take e).flatten),(5,Q e)]) (λ_=>[]) (λe=>c d-e) 0 a D a B ⟨by omega,by simp⟩ ?_);rintro e ⟨o,k⟩;by_cases j:e<c d
 .have i:d.getD e bR.F=d.getD e []:=rfl;have u:(d.take (e+1)).flatten=(d.take e).flatten++d.getD e []:=ig;by_cases h:c (d.getD e [])<=8
  .by_cases s:(d.take e).flatten.length<=40
   .refine a8 b [9,-18,-22] a ?_ (g.b1 (e+1) a ?_ a B ⟨j,by grind⟩ w)
    .simp[-ak,-List.length_flatten,i,a7];omega
    simp_all
   refine a8 b [9,-18,22] a ?_ (g.bQ (bY.zero a ?_))
   .simp[-ak,-List.length_flatten,i];omega
   simp[Te (d:=d) (e:=e) w]
  refine a8 b [9,18,22] a ?_ (g.bQ (bY.zero a ?_))
  .simp[-ak,i];omega
  simp[U,U.X,Tf (oe (O:=[]) j) w]
 obtain rfl:e=c d:=w;rw[c6]at k⊢;refine a8 b [-9] a D (g.bs a a ?_);have m:=bR.l d;cases h:fL d.flatten with
 |false=>exact a8 b [32,38] rfl (by simp[h]) (g.ao rfl (by simp[iO,h]))
 |true=>
  have t:dV d.flatten=l:=by simp[fL,ck]at h;exact h.2
  cases s:(cm d.flatten==d)with
  |false=>
   refine a8 b [-32,38] a ?_ (g.ao a (by simp[iO,s]));exact bE
  |true=>
   refine a8 b [-32,-38] a ?_ (g.ao a (by simp[iO,h,s]));exact bE
abbrev Hd:bI:=dc (eK bR) (λa=>iQ (iO a)) λ_=>[]
def adj:bK q 203 Hd:=.a9 λa _=>VQ a
abbrev zm(a:eh):aq:=.cells 84 [.c (.int .i64 a.1),.c (.B v 2 (c a.2) (cw.fn a.2))]
abbrev ns(d:Int)(b:m b')(a:m Int):m bA:=a.map λe=>(dg d b e).getD []
def Y0{Z}{a}(b:u<c a):ns h Z (a.take (u+1))=ns h Z (a.take u)++[(dg h Z (a.getD u 0)).getD []]:=ig
def YC{Z}{a}(d:u<c a)(b:dg h Z (a.getD u 0)=n):g2 h Z a=n:=NX
def YD{Z}{a}(d:∀b,b<c a->(dg h Z (a.getD b 0)).isSome=l):g2 h Z a=f (ns h Z a):=by unfold g2;rw[bo];grind[List.mem_iff_getElem]
def XN(h)(b)(Z)(ab:c b.2<=4000000)(T:∀e∈b.2,c e.2<=4000000):
  X q 165 [Q h,iR b,a2.B Z] [] (mT ((en h b Z).getD []) (en h b Z).isSome) []:=by
 refine X.J func165 rfl λH=>?_;have o:a_ q [(44,ro),(202,Hs),(203,Hd),(46,sD)]:=.cons tF (.cons adz (.cons adj (.cons t46 .nil)));cases bX:ce h with
 |false=>
  refine a8 o [19] a kU (g.ao a ?_);simp[en,bX]
 |true=>
 refine a8 o [-19,904] a kU (g.bG 8 45 2 a a ?_);refine b8 o a B (g.aC 2 (λm=>m<=c b.2/\∀k,k<m->(fI h Z (b.2.getD k ([],[]))).isSome=l) (λm:Nat=>[(0,Q h),(2,a2.B Z),(4,aI 0 0),(8,.n (.Q (.x 1 2 (c (fk h Z (b.2.take m))) (bu.fn (fk h Z (b.2.take m)))))),(9,Q m)]) (λm=>[zm b,.x 45 2 (c (fk h Z (b.2.take m))) (bu.fn (fk h Z (b.2.take m)))]) (λm=>c b.2-m) 0 a Ab a Ab a ⟨by omega,by omega⟩ ?_);rintro m ⟨V,N⟩;by_cases u:m<c b.2
 .have F:=T _ (oe (O:=([],[])) u);have aj:=CJ (h:=h) (Z:=Z) u;have Y:c (fk h Z (b.2.take m))=m:=by simp[fk];omega
  have i:b.2.getD (m:Int).toNat cw.F=b.2.getD m ([],[]):=M;have C:=Eg (h:=h) (Z:=Z) u;generalize y:b.2.getD m ([],[])=e at F aj i C;generalize fk h Z (b.2.take m)=p at *;refine a8 o [25,908] a bQ (g.bG 10 9 1 a a ?_);refine b8 o a B (g.aC 3 (λk=>k<=c e.2/\∀x,x<k->(dg h Z (e.2.getD x 0)).isSome=l) (λk:Nat=>[(0,Q h),(2,a2.B Z),(4,aI 0 0),(8,.n (.Q (.x 1 2 (c p) (bu.fn p)))),(9,Q m),(10,.n (.Q (.x 2 1 (c (ns h Z (e.2.take k))) (bR.fn (ns h Z (e.2.take k)))))),(11,Q k)]) (λk=>[zm b,.x 45 2 (c p) (bu.fn p),.x 9 1 (c (ns h Z (e.2.take k))) (bR.fn (ns h Z (e.2.take k)))]) (λk=>c e.2-k) 0 a D a D a ⟨by omega,by omega⟩ ?_);rintro k ⟨ae,aa⟩;by_cases E:k<c e.2
  .have s:e.2.getD (k:Int).toNat az.F=e.2.getD k 0:=M;cases A:dg h Z (e.2.getD k 0)with
   |none=>
    have t:fI h Z e=n:=by simp[fI,YC E A]
    refine a8 o [37,56] a ?_ (g.aT (g.dK (bY.zero a ?_)))
    .simp only[U,i,s,A,a2.l,a2.U];grind
    rw[C t];simp
   |some x=>
    have d:=Y0 (h:=h) (Z:=Z) E;rw[A]at d;have K:c (ns h Z (e.2.take k))=k:=M;have r:=bR.aX (ns h Z (e.2.take k)) x;refine a8 o [37,-56] a ?_ (g.av (k+1) a ?_ ?_ ⟨E,λW S=>?_⟩ w)
    .simp only[U,i,s,A,a2.l,a2.U,K,a7,show sW.bytes=16 from a];grind
    .exact QN
    .exact QN
    grind
  obtain rfl:k=c e.2:=w;have I:=YD aa;rw[c6];have K:c (ns h Z e.2)=c e.2:=D;refine a8 o [-37] a (by simp only[U,i];simp[u]) (g.az ?_);cases j:iO (ns h Z e.2)with
  |none=>
   have t:fI h Z e=n:=by simp[fI,I,j]
   refine a8 o [68] a ?_ (g.aT (bY.zero a ?_))
   .simp only[U,bR.l,bR.U,j];simp
   rw[C t];simp
  |some J=>
   have t:fI h Z e=f (e.1,J):=by simp[fI,I,j]
   rw[t]at aj;have R:=bu.aX p (e.1,J);refine a8 o [-68] a ?_ (g.av (m+1) a ?_ ?_ ⟨u,λW S=>?_⟩ w)
   .simp only[U,i,bR.l,bR.U,j,Y,a7,show rG.bytes=32 from a];grind
   .exact O5
   .exact O5
   grind
 obtain rfl:m=c b.2:=w;rw[c6];have G:b.2.all (λe=>(fI h Z e).isSome)=l:=aX.2 λe F=>by grind[List.mem_iff_getElem]
 refine a8 o [-25] a D (g.az ?_);cases z:dM (fk h Z b.2)with
 |false=>
  refine a8 o [83] a ?_ (g.ao a ?_)
  .simp[bu.l,bu.U,z]
  simp[en,z]
 |true=>
  refine a8 o [-83] a ?_ (g.ao a ?_)
  .simp[bu.l,bu.U,z]
  simp[en,z,bX,G]
abbrev HC:bI:=j' c1 (jB cw) (eK a2) (λd b a=>mT ((en d b a).getD []) (en d b a).isSome) λ_ b _=>[c b.2<=4000000,∀e∈b.2,c e.2<=4000000]
def adM:bK q 165 HC:=.c5 λd e a b=>XN d e a b.1 b.2
end
end R1
end Go.AM
