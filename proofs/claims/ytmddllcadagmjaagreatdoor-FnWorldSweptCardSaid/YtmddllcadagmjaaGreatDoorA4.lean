/- Part 4. No condition. -/
import Derived.Test.YtmddllcadagmjaaGreatDoorA3
import Derived.Sort.AssemblyPlain
import Derived.Sort.LotD5
import Derived.Sort.Walk13a
import Derived.Conc.DeferLaws
import Derived.RowKit
import Derived.Conc.Holds
set_option linter.all false
set_option maxHeartbeats 8000000
open Go.Proofs
open Go.Proofs.Tryz
open List renaming length → c, range → aA, replicate → aV, getD_eq_getElem?_getD → aj, all_eq_true → aW
open Go renaming Value → X, TypeId → ak, Event → aO, undef → J, World → au, Frame → aG, execOp → ab, Operand → ae, Program → aD, Goroutine → ai, stepG → ao, Oper → an
open Option renaming some → h, none → n
open Bool renaming true → l, false → v
open Nat renaming beq → ad, ble → ax
open Go.World renaming cell? → aI
open Go.Op renaming bytesLess → aS, equalIn → aL
open Go.Sem renaming events_bind → aC
open Go.Result renaming evThen_ok → aF
open Go.Proofs.Tryz renaming prog → T
open Go.Conc renaming stepG_seq → aw, stepG_region_end → aB
namespace Go.AM
variable {j A:Nat}{f:Int}{d i e u:Nat}{W:ak}{H:X->(Nat->Option Obj)->Prop}{L:Array Bool}{bB:Mem}{F:Nat}{P:aD}{br:ai->a6->Prop}{t:Code}{C:ai}{r:an}{b:a6}{o:ak}{aa:X}{p:au}{α:Type}{η:ae->y}{ι:Type}{k:m aq}{I:bL}{all:m an}{dt:Array ak}{cap:m M}{cS:m y}{ld:Nat->Option Obj}{ah:m aG}{bh:m (Nat×Bool)}{V:Nat->m M}{cQ:ae}{gs:Array ai}{aX:m Nat}{cq:m Prop}{off:Nat}{op:BinOp}{aR:Array an}{Z:m Prop}{bq:m an}{aE:a6}{ty:ak}{val:Nat->Nat->X}{z:m X}{bi:au}{ag:Array ae}{ar dj:m aq}{res:ι->y}{aU:ι->m aq}
variable {CT:m (Nat×bH)}{av:m iu}{be:fD}{ac:m (Nat×cr)}{a5:cr}
namespace R1
section
variable {q:af T}
abbrev sZ(a:Nat):y:=ay (.cg 320 (.val (.pointer (h ⟨a,0,n⟩))))
section
variable {k:m aq}{d C j:Nat}{bP:fv}(x:db d k=h (iD C bP j))
include x
def JT:nX T k 320 (.pointer (h ⟨C,0,n⟩)) "Len" 271 (c6 bP j):=.deref bc (l1 type320) rfl rfl rfl underlying320 x rfl (tR bP j) rfl
def CV:nX T k 320 (.pointer (h ⟨C,0,n⟩)) "Less" 354 (c6 bP j):=.deref bc (l1 type320) rfl rfl rfl underlying320 x rfl (tR bP j) rfl
def CX:nX T k 320 (.pointer (h ⟨C,0,n⟩)) "Swap" 357 (c6 bP j):=.deref bc (l1 type320) rfl rfl rfl underlying320 x rfl (tR bP j) rfl
end
def YY{k}{aa}:nX T k 320 aa "Push" 356 aa:=.ptr (l1 type320) rfl rfl rfl underlying320
def YX{k}{aa}:nX T k 320 aa "Pop" 355 aa:=.ptr (l1 type320) rfl rfl rfl underlying320
theorem tW{d}(g:gw d){e u}(a:e<c d)(b:u<c d):gw (jD d e u):=λi f=>g i (ac1 a b f)
theorem E7:∀b(d:m cY)a,a<b->je b d a=je (a+1) d a
 |0,_,_,f=>absurd f (iU _)
 |b+1,d,a,f=>by
  rw[je,je];by_cases e:(a-1) / 2=a
  .grind
  rw[bj e,bj e];split
  .have t:(a-1) / 2<a:=w;rw[E7 b _ _ w,E7 a _ _ t]
  simp
def VC(C i cap){d}(t:gw d)(M:c d<=1000){u}(A:u<c d):
  Y q 299 [sZ C,Q u] [iD C (.row i cap) (c d),aJ (.row i cap) (c d) d] (.S []) [iD C (.row i cap) (c d),aJ (.row i cap) (c d) (je (u+1) d u)]:=by
 refine Y.ab func299 rfl λK=>?_;refine gH [] 3 a B (g.dF 2 [0] (λb:m cY×Nat=>gw b.1/\c b.1=c d/\b.2<c d/\je (u+1) d u=je (b.2+1) b.1 b.2) (λb=>[(1,Q b.2)]) (λb=>[iD C (.row i cap) (c b.1),aJ (.row i cap) (c b.1) b.1]) (λb=>b.2) (d,u) a D a D a ⟨t,a,A,a⟩ ?_);rintro⟨b,e⟩ ⟨p,F,I,j⟩;simp only at p F I j;cases e with
 |zero=>
  have o:je (0+1) b 0=b:=by rw[je,bo a]
  rw[o]at j;rw[j];refine gH [] 5 a lF (g.aK (KB (f:=.i64) 0 a a a lF (λJ=>rfl) (λJ=>rfl)) a a ?_);refine a3 [11,17] a D (g.az ?_);exact Px
 |succ e=>
  refine a3 [-11,901] a lO ?_;have E:(((e+1:Nat):Int)-1) / 2=((e / 2:Nat):Int):=w;rw[E];have z:(e+1-1) / 2=e / 2:=N;have s:e / 2<c b:=w;have r:e+1<c b:=w;have o:je (e+1+1) b (e+1)=if nG b (e+1) (e / 2)=l then je (e+1) (jD b (e / 2) (e+1)) (e / 2)else b:=by rw[je,bj w,z]
  rw[o]at j;refine g.region ?_;refine a3 [-11] a bw (g.dk (CB i cap p (c b) r s).tocE [1] (CV (d:=0) a) a a a a a a a a bk a bk a λ_=>?_);by_cases k:nG b (e+1) (e / 2)=l
  .rw[bo k]at j;have y:=rn k;refine a3 [-17] a ds (g.dk (CC i cap p s r).tocE [1] (CX (d:=0) a) a a a a a a a a bk a bk a λ_=>?_);refine aQ a B (g.aw (jD b (e / 2) (e+1),e / 2) a D ?_ ?_ ?_)
   .simp[pJ]
   .grind [tW,pJ,E7]
   grind
  rw[bj k]at j;rw[j];have y:¬(b.getD (e+1) (0,[])).1<(b.getD (e / 2) (0,[])).1:=λx=>k (fA x);refine a3 [17] a ds (g.az ?_);exact Px
def Kj{k}{e j}{bP}{d}(s:db e k=h (aJ bP j d))(r:0<j)(b)(i:bb k b):∃g f,bP=.row g f/\j<=f:=by
 have m:=er s;obtain⟨g,f,rfl⟩:=(cu.len m b i).2.2.1 r;have o:e<c b.s:=by rw[i.len];grind
 obtain⟨p,q,_⟩:=i.box e _ _ m (bJ o);exact⟨g,f,a,q.2.2.2.1⟩
def VP(C)(bP){d}(k:gw d)(A:c d<=100){E}(t:a7 .i64 E.1/\c E.2<=9223372036854775807):
  bl (ι:=fv) q 269 [sZ C,sY E] [iD C bP (c d),aJ bP (c d) d] (λ_=>.S []) (λf=>[iD C f (c d+1),aJ f (c d+1) (hN d E)]):=by
 refine bl.cb func269 rfl rfl rfl λz=>?_;refine aQ a B (g.dk (VB C bP k w t.2) [0,1] YY a a a a a a a a bk a bk a λf=>?_);have p:gw (d++[E]):=λx r=>by
  rcases e2.1 r with o|o
  .exact k x o
  grind
 refine g.fC (Kj (e:=1) (j:=c d+1) (bP:=f) (d:=d++[E]) a w) λs=>?_;obtain⟨i,b,rfl,y⟩:=s;refine aQ a B (g.dk (CA (.row i b) (c d+1) (d++[E])).tocE [1] (JT (d:=0) a) a a a a a a a a bk a bk a λ_=>?_);refine aQ a bE ?_;rw[show((c d+1:Nat):Int)-1=(c d:Nat) by omega];have m:=VC (q:=q) C i b p N (u:=c d) D;rw[c9,fT]at m;exact g.aA m [0,1] a (aQ a B ⟨.row i b,bW.dh [0,1] a B a a a ta⟩)
theorem yd:∀e f(d:m cY)a b,b<=a+e->b<=a+f->hk e d a b=hk f d a b
 |0,0,_,_,_,_,_=>rfl
 |0,f+1,d,a,b,g,_=>by rw[hk,hk,bo w]
 |e+1,0,d,a,b,_,g=>by rw[hk,hk,bo w]
 |e+1,f+1,d,a,b,j,k=>by
  have i:a<jv d a b:=F8;rw[hk,hk];split
  .rfl
  split
  .exact yd e f _ _ _ w w
  simp
def Vz(C i cap j){d}(I:gw d)(O:j<=c d)(V:c d<=1000):
  Y q 303 [sZ C,Q 0,Q j] [iD C (.row i cap) (c d),aJ (.row i cap) (c d) d] .any [iD C (.row i cap) (c d),aJ (.row i cap) (c d) (hk j d 0 j)]:=by
 refine Y.ab func303 rfl λR=>?_;refine cB a B (g.dF 2 [0,1,2] (λb:m cY×Nat=>gw b.1/\c b.1=c d/\b.2<=j/\hk j d 0 j=hk j b.1 b.2 j) (λb=>[(7,Q b.2)]) (λb=>[iD C (.row i cap) (c b.1),aJ (.row i cap) (c b.1) b.1]) (λb=>j-b.2) (d,0) a D a D a ⟨I,a,by omega,a⟩ ?_);rintro⟨b,e⟩ ⟨p,K,N,f⟩;simp only at p K N f;by_cases F:j<=2*e+1
 .have x:hk j b e j=b:=by rw[yd j (j+1) _ _ _ w w,hk,bo F]
  rw[x]at f;rw[f];refine a3 [17,21] a Sc (g.az ?_);exact O0
 have y:e<jv b e j/\jv b e j<j:=F8;have x:hk j b e j=if nG b (jv b e j) e=l then hk j (jD b e (jv b e j)) (jv b e j) j else b:=by rw[yd j (j+1) _ _ _ w w,hk,bj F]
 rw[x]at f;have J:2*e+1<c b:=w;have A:e<c b:=w;have z:2*(e:Int)+1=((2*e+1:Nat):Int):=w;have M:((2*e+1:Nat):Int)+1=((2*e+2:Nat):Int):=w;refine a3 [-17,-21,904] a Sb ?_;rw[z];refine a3 [906] a Sb ?_;rw[M];apply g.cj [(0,sZ C),(1,Q 0),(2,Q j),(7,Q e),(9,Q (jv b e j))] [iD C (.row i cap) (c b),aJ (.row i cap) (c b) b]
 .intro dx;by_cases E:2*e+2<j
  .refine g.region ?_;refine a3 [28] a bw (g.dk (CB i cap p (c b) (e:=2*e+2) (u:=2*e+1) w J).tocE [1] (CV (d:=0) a) a a a a a a a a bk a bk a λ_=>?_);by_cases t:nG b (2*e+2) (2*e+1)=l
   .have r:jv b e j=2*e+2:=bo ⟨E,t⟩;refine a3 [33,908] a (by simpa using rn t) (dx _ _ a ?_);simp[r]
   have r:jv b e j=2*e+1:=bj λk=>t k.2;have s:¬(b.getD (2*e+2) (0,[])).1<(b.getD (2*e+1) (0,[])).1:=λk=>t (fA k);refine a3 [-33,908] a (by simpa using s) (dx _ _ a ?_);simp[r]
  have r:jv b e j=2*e+1:=bj λk=>E k.1;refine a3 [-28,-33,908] a bw (dx _ _ a ?_);simp[r]
 generalize jv b e j=o at *;obtain⟨T,S⟩:=y;refine g.region ?_;refine aQ a B (g.dk (CB i cap p (c b) (e:=o) (u:=e) w A).tocE [1] (CV (d:=0) a) a a a a a a a a bk a bk a λ_=>?_);by_cases t:nG b o e=l
 .rw[bo t]at f;refine a3 [-39] a (by simpa using rn t) (g.dk (CC i cap p A (show o<c b by omega)).tocE [1] (CX (d:=0) a) a a a a a a a a bk a bk a λ_=>?_);refine aQ a B (g.aw (jD b e o,o) a D ?_ ?_ ?_)
  .simp[pJ]
  .grind [tW,pJ]
  grind
 rw[bj t]at f;rw[f];have s:¬(b.getD o (0,[])).1<(b.getD e (0,[])).1:=λk=>t (fA k);refine a3 [39] a (by simpa using s) (g.az ?_);exact O0
def Ct{j}:∀e{a:m cY}(d:Nat),gw a->d<c a->j<=c a->gw (hk e a d j)
 |0,_,_,b,_,_=>b
 |e+1,a,d,b,f,i=>by
  rw[hk];split
  .exact b
  have g:jv a d j<j:=F8;split
  .exact Ct e _ (tW b f w) pT pT
  grind
def VO(C i cap){d}{j}(k:gw d)(r:c d=j+1)(y:j<=100)(s:j+1<=cap):
  Y q 272 [sZ C] [iD C (.row i cap) (j+1),aJ (.row i cap) (j+1) d] (sY ((hp d).getD j (0,[]))) [iD C (.row i cap) j,aJ (.row i cap) j ((hp d).take j)]:=by
 refine Y.ab func272 rfl λA=>?_;refine aQ a B (g.dk (CA (.row i cap) (j+1) d).tocE [1] (JT (d:=0) a) a a a a a a a a bk a bk a λ_=>?_);refine aQ a bE ?_;rw[show((j+1:Nat):Int)-1=((j:Nat):Int) by omega];have p:=CC (q:=q) i cap k (e:=0) (u:=j) w w;rw[r]at p;refine g.dk p.tocE [1] (CX (d:=0) a) a a a a a a a a bk a bk a λ_=>?_;have m:=tW k (e:=0) (u:=j) w w;have f:=Vz (q:=q) C i cap j m pT pT;have b:=Ct (j:=j) j 0 m pT pT;have o:hk j (jD d 0 j) 0 j=hp d:=by unfold hp;grind[yd]
 rw[pJ,r,o]at f;rw[o]at b;have x:hp d=(hp d).take j++[(hp d).getD j (0,[])]:=by
  have E:c (hp d)=j+1:=by grind[LW]
  apply ru
  .grind
  grind
 generalize(hp d).getD j (0,[])=F at *;have t:c ((hp d).take j)=j:=N;generalize(hp d).take j=z at *;rw[x]at f b;subst t;refine aQ a B (g.aA f [0,1] a (aQ a B (g.dk (VA C i cap b w s).tocE [0,1] YX a a a a a a a a bk a bk a λ_=>?_)));refine aQ a B (g.aI [0,1] a D ta)
def aaC{ac}{e g:ae}(s:r.op=.binOp op o e g ty){t}{cz}(j:P.underlying o=h (.interface cz))(z:η e=ay .bD)(y:η g=ay (.val (.iface ac aa)))(x:∀p,(eqGuard op o e g .nilIface (.iface ac aa)).run P p=.ok () p)(al:∀p a,(eqGuard op o e g .nilIface (.iface ac aa)).events P p a=a)(d:ih op v=h t):a2 P r η k (ay (.bool t)) k:=by
 refine .aQ λb u D w=>?_;have q:=w e;have m:=w g;rw[z]at q;rw[y]at m;replace q:=b8 q;replace m:=b8 m;generalize i:u e=A at q;generalize O:u g=B at m;cases q;cases m;have f:(Op.equal o .nilIface (.iface ac aa)).run P b.a=.ok v b.a:=Q6;have C:∀a,(Op.equal o .nilIface (.iface ac aa)).events P b.a a=a:=λa=>by show(aL (9999+1) o _ _).events P b.a a=a;unfold aL;simp[underlying,j]
 cases op<;>simp only[ih,reduceCtorEq,e_]at d
 .exact Rk
 exact QN
abbrev TM(a:X):y:=ay (.val a)
def I'(ac)(aa):Y q 296 [ay .bD,TM (.iface ac aa)] [] (bg v) []:=by refine Y.ab func296 rfl λb=>?_;refine aQ a B ?_;refine g.aK (DQ a underlying191 a a a) a a ?_;refine a3 [11] a D ?_;refine g.aK (aaC a underlying191 a a bk (λ_ _=>rfl) a) a a ?_;exact aQ a B (g.ao a a)
abbrev is(b a:ak×X):m aq:=[.K (ef 2 191 (.iface b.1 b.2)),.K (ef 3 191 (.iface a.1 a.2))]
def qt:∀a,a<2->([0,1]:m Nat)[a]?=h a:=ca
def CH(i e)(f)(d)(j:cm f=l)(m:cD d=l):Y q 265 [Q f,b2 d] (is i e) (Q (d8 f d)) (is i e):=by refine Y.ab func265 rfl λk=>?_;have b:a_ q [(295,ej c7 eG (λf d=>Cq (d8 f d)) λf d=>[cm f=l,cD d=l])]:=.cons EO .nil;refine b9 b a ds ?_;refine g.Q (aY.gl bc 0 a a a a a a) a ?_;refine g.aA (I' _ _) [] a ?_;refine b9 b a B ?_;refine g.Q (aY.gl bc 1 a a a a a a) a ?_;refine g.iy (I' _ _) [] a a a a a a a a a a a ?_;exact a8 b [-20] a D (g.aI [0,1] a a qt)
end
section
open Go.Sort (swp insInner insOuter ltInt)
variable {q:af T}
def We(j):Y q 245 [Q j] [] (bg v) []:=by refine Y.ab func245 rfl λb=>?_;exact a3 [-5] a D (g.ao a)
abbrev HB:bH:=di c7 (λ_=>bg v) λ_=>[]
def adR:bK q 245 HB:=.a9 λa _=>We a
def WE(b d):Y q 184 [Q b,Q d] [] (bg (ltInt b d)) []:=by have e:a_ q [(245,HB)]:=.cons adR .nil;refine Y.ab func184 rfl λf=>?_;refine b9 e a D (g.ao a ?_);simp[ltInt]
abbrev qi:bH:=ej c7 c7 (λa b=>bg (ltInt a b)) λ_ _=>[]
def r':bK q 184 qi:=.bk λa b _=>WE a b
def s4(a:Array Int)(b:Nat):m M:=[.int .i64 a[b]!]
abbrev dL(a:Nat):y:=cF 0 (.B a 1 0 a)
abbrev cG(b:Nat)(a:Array Int):aq:=.q 3 1 b (s4 a)
def hl:∀a,a<1->([0]:m Nat)[a]?=h a:=λa b=>by grind
end
section
open Go.Sort (swp insInner insOuter insertionSort ltInt)
variable {q:af T}
def li{a}(q:a.size=j)(k:e<j)(o:u<j){f:Nat->m M}(g:bs j f (s4 a)):bs j (l9 u [.int .i64 a[e]!] (l9 e [.int .i64 a[u]!] f)) (s4 (swp a e u)):=by
 intro b d;have p:(swp a e u)[b]! = if b=u then a[e]! else if b=e then a[u]! else a[b]! := by unfold swp;grind
 have i:=g b d;simp only[s4,l9]at i⊢;grind
theorem nM(a:Array Int)(e u):(swp a e u).size=a.size:=by simp[swp]
theorem ZX{b}{a}(e:b<u)(d:ltInt a[u]! a[u-1]! = l):insInner ltInt b u a=insInner ltInt b (u-1) (swp a u (u-1)):=by
 cases u with
 |zero=>omega
 |succ u=>
  simp only[p5]at d⊢;rw[insInner,bo];grind
def KA{b}{a}(d:b<u->ltInt a[u]! a[u-1]! = v):insInner ltInt b u a=a:=by
 cases u with
 |zero=>rfl
 |succ u=>
  simp only[p5]at d;rw[insInner,bj];grind
theorem Wa(j)(m)(d i)(A:m.size=j)(K:i<=j)(J:d<=j)(M:j<=4000000):
  Y q 178 [dL j,Q d,Q i] [cG j m] (.S []) [cG j (insertionSort ltInt m d i)]:=by
 have u:a_ q [(184,qi)]:=.cons r' .nil;refine Y.ab func178 rfl λI=>?_;refine aQ a bE (g.aB 1 (λb:Nat×Array Int=>b.2.size=j/\d+1<=b.1/\b.1<=j+1/\insOuter ltInt d i b.1 b.2=insertionSort ltInt m d i) (λb=>[(0,dL j),(1,Q d),(2,Q i),(6,Q b.1)]) (λb=>[cG j b.2]) (λb=>i-b.1) (d+1,m) a D a D a ⟨A,by omega,by grind,a⟩ ?_);rintro⟨e,d1⟩ ⟨y,t,z,o⟩;simp only at y t z o;by_cases s:e<i
 .refine a3 [12] a bM (g.aB 1 (λb:Nat×Array Int=>b.2.size=j/\b.1<=e/\insInner ltInt d b.1 b.2=insInner ltInt d e d1) (λb=>[(0,dL j),(1,Q d),(2,Q i),(6,Q e),(7,Q b.1)]) (λb=>[cG j b.2]) (λb=>b.1) (e,d1) a D a D a ⟨y,by simp,a⟩ ?_);rintro⟨k,d2⟩ ⟨p,C,r⟩;simp only at p C r;by_cases E:d<k
  .have f:((k:Int)-1).toNat=k-1:=w;by_cases x:ltInt d2[k]! d2[k-1]! = l
   .refine a8 u [18,29] a ?_ ?_
    .simp[a7,f,x];omega
    refine g.aw (k-1,swp d2 k (k-1)) a bM ?_ ?_ ?_
    .simp only[U.Y,U,f,cZ,cR,a9,a'];exact li p w w (λ_ _=>rfl)
    .refine⟨by grind[nM],by omega,?_⟩;grind[ZX]
    omega
   refine a8 u [18,-29] a ?_ (g.az ?_)
   .simp[a7,f,x];omega
   refine aQ a bE (g.aw (e+1,d2) a D D ?_ ?_)
   .refine⟨p,by omega,by grind,?_⟩;simp only;rw[<-o,insOuter.eq_1 ltInt d i e,bo s,<-r,KA λ_=>by grind]
   omega
  refine a8 u [-18] a bw (g.az ?_);refine aQ a bE (g.aw (e+1,d2) a D D ?_ ?_)
  .refine⟨p,by omega,by grind,?_⟩;simp only;rw[<-o,insOuter.eq_1 ltInt d i e,bo s,<-r,KA λF=>absurd F E]
  omega
 refine a3 [-12] a bM (g.az ?_);have:insertionSort ltInt m d i=d1:=by rw[<-o,insOuter,bj s]
 rw[this];exact sk
end
section
open Go.Sort (swp siftDown ltInt)
variable {q:af T}
def aco{bp first root}{a}(b:¬2*root+1<bp):siftDown ltInt bp first root a=a:=by rw[siftDown,dif_pos w]
theorem MO{bp first root}{a}(e:2*root+1<bp)(b:2*root+1+1<bp->ltInt a[first+(2*root+1)]! a[first+(2*root+1)+1]! = v)(d:ltInt a[first+root]! a[first+(2*root+1)]! = l):
  siftDown ltInt bp first root a=siftDown ltInt bp first (2*root+1) (swp a (first+root) (first+(2*root+1))):=by rw[siftDown.eq_1 ltInt bp first root a,dif_neg w,bj N,bj N]
theorem MP{bp first root}{a}(e:2*root+1<bp)(b:2*root+1+1<bp->ltInt a[first+(2*root+1)]! a[first+(2*root+1)+1]! = v)(d:ltInt a[first+root]! a[first+(2*root+1)]! = v):
  siftDown ltInt bp first root a=a:=by rw[siftDown.eq_1 ltInt bp first root a,dif_neg w,bj N,bo N]
theorem acm{bp first root}{a}(e:2*root+1+1<bp)(b:ltInt a[first+(2*root+1)]! a[first+(2*root+1+1)]! = l)(d:ltInt a[first+root]! a[first+(2*root+1+1)]! = l):
  siftDown ltInt bp first root a=siftDown ltInt bp first (2*root+1+1) (swp a (first+root) (first+(2*root+1+1))):=by rw[siftDown.eq_1 ltInt bp first root a,dif_neg w,bo N,bj N,dif_pos w]
theorem acn{bp first root}{a}(e:2*root+1+1<bp)(b:ltInt a[first+(2*root+1)]! a[first+(2*root+1+1)]! = l)(d:ltInt a[first+root]! a[first+(2*root+1+1)]! = v):
  siftDown ltInt bp first root a=a:=by rw[siftDown.eq_1 ltInt bp first root a,dif_neg w,bo N,bo N]
theorem X8(j)(k)(d b first:Nat)(r:k.size=j)(D:first+b<=j)(s:d<=j)(E:j<=4000000):
  Y q 240 [dL j,Q d,Q b,Q first] [cG j k] (.S []) [cG j (siftDown ltInt b first d k)]:=by
 have m:a_ q [(184,qi)]:=.cons r' .nil;refine Y.ab func240 rfl λz=>?_;refine aQ rfl B (g.aB 1 (λe:Nat×Array Int=>e.2.size=j/\e.1<=j/\siftDown ltInt b first e.1 e.2=siftDown ltInt b first d k) (λe=>[(0,dL j),(1,Q d),(2,Q b),(3,Q first),(8,Q e.1)]) (λe=>[cG j e.2]) (λe=>b-e.1) (d,k) rfl ?_ rfl ?_ rfl ⟨r,s,rfl⟩ ?_)
 .simp
 .simp
 rintro⟨root,d1⟩ ⟨u,y,o⟩;simp only at u y o;by_cases p:2*root+1<b
 .have t:((first:Int)+(2*(root:Int)+1)).toNat=first+(2*root+1):=w
  have ap:((first:Int)+(2*(root:Int)+1)+1).toNat=first+(2*root+1+1):=w
  by_cases A:2*root+1+1<b
  .by_cases C:ltInt d1[first+(2*root+1)]! d1[first+(2*root+1+1)]! = l
   .have f:((first:Int)+(2*(root:Int)+1+1)).toNat=first+(2*root+1+1):=w
    have x:((first:Int)+(root:Int)).toNat=first+root:=w
    by_cases i:ltInt d1[first+root]! d1[first+(2*root+1+1)]! = l
    .refine bf m [-16,20,35,51] rfl ?_ (g.aw (2*root+1+1,swp d1 (first+root) (first+(2*root+1+1))) rfl ?_ ?_ ?_ ?_)
     .exact Re
     .simp
     .simp only[U.Y,U,cZ,t,ap,x,f,a9,a'];exact li u w w (λ_ _=>rfl)
     .grind [nM,acm]
     grind
    rw[p9]at i;rw[show siftDown ltInt b first d k=d1 by grind[acn]];refine bf m [-16,20,35,-51] a ?_ (g.aS (bW.mk [0] a B a a a hl));exact Re
   rw[p9]at C;have x:((first:Int)+(root:Int)).toNat=first+root:=w
   by_cases i:ltInt d1[first+root]! d1[first+(2*root+1)]! = l
   .refine bf m [-16,20,-35,51] rfl ?_ (g.aw (2*root+1,swp d1 (first+root) (first+(2*root+1))) rfl ?_ ?_ ?_ ?_)
    .exact OP
    .simp
    .exact PT
    .grind [nM,MO]
    grind
   rw[p9]at i;rw[show siftDown ltInt b first d k=d1 by grind[MP]];refine bf m [-16,20,-35,-51] a ?_ (g.aS (bW.mk [0] a B a a a hl));exact OP
  have C:True:=B;have x:((first:Int)+(root:Int)).toNat=first+root:=w
  by_cases i:ltInt d1[first+root]! d1[first+(2*root+1)]! = l
  .refine bf m [-16,-20,51] rfl ?_ (g.aw (2*root+1,swp d1 (first+root) (first+(2*root+1))) rfl ?_ ?_ ?_ ?_)
   .exact PQ
   .simp
   .exact PT
   .grind [nM,MO]
   grind
  rw[p9]at i;rw[show siftDown ltInt b first d k=d1 by grind[MP]];refine bf m [-16,-20,-51] a ?_ (g.aS (bW.mk [0] a B a a a hl));exact PQ
 refine a3 [16] a so (g.az ?_);rw[<-o,aco p];exact sk
end
section
open Go.Sort (swp order2 median medianAdjacent choosePivot Hint ltInt)
variable {q:af T}
abbrev mq(a:Nat):aq:=.cells 3 [.c (.int .i64 a)]
abbrev s3:y:=aH 1 0
abbrev adC(a b:Nat):y:=.S [.Q (.c (.int .i64 a)),.Q (.c (.int .i64 b))]
def yy:∀a,a<2->([0,1]:m Nat)[a]?=h a:=λa b=>by grind
def CK(j)(e)(d i b)(r:d<j)(s:i<j)(t:j<=4000000)(o:b<=1000):
  Y q 282 [dL j,Q d,Q i,s3] [cG j e,mq b] (adC (order2 ltInt e d i b).1 (order2 ltInt e d i b).2.1) [cG j e,mq (order2 ltInt e d i b).2.2]:=by
 have m:a_ q [(184,qi)]:=.cons r' .nil;refine Y.ab func282 rfl λp=>?_;by_cases f:ltInt e[i]! e[d]! = l
 .have k:order2 ltInt e d i b=(i,d,b+1):=by simp[order2,f]
  rw[k];refine bf m [18] a ?_ (g.aI [0,1] a ?_ yy)
  .simp only[U,cZ,cR,f,a7,a',a9];exact fC
  simp
 have k:order2 ltInt e d i b=(d,i,b):=by simp[order2,f]
 rw[k];rw[p9]at f;refine bf m [-18] a ds (g.aI [0,1] a ?_ yy);simp
def vY{O}{a eZ}(b:a<j)(d:i<j):(order2 ltInt O a i eZ).1<j/\(order2 ltInt O a i eZ).2.1<j/\(order2 ltInt O a i eZ).2.2<=eZ+1:=by unfold order2;split<;>simp only<;>omega
theorem Jn(j)(O)(b i t eZ)(f:b<j)(k:i<j)(m:t<j)(e:j<=4000000)(p:eZ<=900):
  Y q 244 [dL j,Q b,Q i,Q t,s3] [cG j O,mq eZ] (Q (median ltInt O b i t eZ).1) [cG j O,mq (median ltInt O b i t eZ).2]:=by refine Y.ab func244 rfl λr=>?_;have d:=vY (O:=O) (eZ:=eZ) f k;have o:=vY (O:=O) (eZ:=(order2 ltInt O b i eZ).2.2) d.2.1 m;refine cB a B (g.aA (CK j O b i eZ f k e w) [0,1] a (cB a B (g.aA (CK j O (order2 ltInt O b i eZ).2.1 t (order2 ltInt O b i eZ).2.2 d.2.1 m e w) [0,1] a (cB a B (g.aA (CK j O (order2 ltInt O b i eZ).1 (order2 ltInt O (order2 ltInt O b i eZ).2.1 t (order2 ltInt O b i eZ).2.2).1 (order2 ltInt O (order2 ltInt O b i eZ).2.1 t (order2 ltInt O b i eZ).2.2).2.2 d.1 o.1 e w) [0,1] a (cB a B (g.aI [0,1] a ?_ yy)))))));simp[median]
def aap{O}{a t eZ}(d:a<j)(f:i<j)(g:t<j):(median ltInt O a i t eZ).1<j/\(median ltInt O a i t eZ).2<=eZ+3:=by have b:=vY (O:=O) (eZ:=eZ) d f;have e:=vY (O:=O) (eZ:=(order2 ltInt O a i eZ).2.2) b.2.1 g;have k:=vY (O:=O) (eZ:=(order2 ltInt O (order2 ltInt O a i eZ).2.1 t (order2 ltInt O a i eZ).2.2).2.2) b.1 e.1;unfold median;grind
theorem W9(j)(e)(b d:Nat)(s:1<=b)(t:b+1<j)(p:j<=4000000)(o:d<=900):
  Y q 243 [dL j,Q b,s3] [cG j e,mq d] (Q (medianAdjacent ltInt e b d).1) [cG j e,mq (medianAdjacent ltInt e b d).2]:=by
 refine Y.ab func243 rfl λr=>?_;obtain⟨b,rfl⟩:∃f,b=f+1:=⟨b-1,by omega⟩
 refine cB a bE ?_;have key:∀i k m:Int,i=(b:Int)->k=((b+1:Nat):Int)->m=((b+1+1:Nat):Int)->Y q 244 [dL j,Q i,Q k,Q m,s3] [cG j e,mq d] (Q (median ltInt e b (b+1) (b+1+1) d).1) [cG j e,mq (median ltInt e b (b+1) (b+1+1) d).2]:=by rintro i k m rfl rfl rfl;exact Jn j e b (b+1) (b+1+1) d w w w p o
 refine g.aA (key (((b+1:Nat):Int)-1) _ (((b+1:Nat):Int)+1) w a w) [0,1] a (cB a B (g.aI [0,1] a ?_ yy));simp[medianAdjacent]
def qy:Hint->Int|.unknown=>0|.increasing=>1|.decreasing=>2
def Jo(b:Nat)(d:Array Int){x t:Nat}(a:Nat)(k:x<b)(o:i<b)(p:t<b)(s:b<=4000000)(j:a<=900){e f g:Int}(r:e=x)(m:f=i)(u:g=t):
  Y q 244 [dL b,Q e,Q f,Q g,s3] [cG b d,mq a] (Q (median ltInt d x i t a).1) [cG b d,mq (median ltInt d x i t a).2]:=by grind[Jn]
def CG(b:Nat)(d:Array Int){x:Nat}(a:Nat)(g:1<=x)(i:x+1<b)(k:b<=4000000)(f:a<=900){e:Int}(j:e=x):
  Y q 243 [dL b,Q e,s3] [cG b d,mq a] (Q (medianAdjacent ltInt d x a).1) [cG b d,mq (medianAdjacent ltInt d x a).2]:=by grind[W9]
def DF{O:Array Int}{x eZ:Nat}(a:1<=x)(b:x+1<j):(medianAdjacent ltInt O x eZ).1<j/\(medianAdjacent ltInt O x eZ).2<=eZ+3:=
 aap w w w
abbrev Df(a:Nat):Hint:=if a=0 then .increasing else if a=12 then .decreasing else .unknown
def Tv{b:Array Int}{a:Nat}(f:8<=d)(e:d<50):choosePivot ltInt b a (a+d)=((median ltInt b (a+d / 4*1) (a+d / 4*2) (a+d / 4*3) 0).1,Df (median ltInt b (a+d / 4*1) (a+d / 4*2) (a+d / 4*3) 0).2):=by unfold choosePivot;grind
abbrev oA(b:Array Int)(a d:Nat):=medianAdjacent ltInt b (a+d / 4*1) 0
abbrev oB(b:Array Int)(a d:Nat):=medianAdjacent ltInt b (a+d / 4*2) (oA b a d).2
abbrev oC(b:Array Int)(a d:Nat):=medianAdjacent ltInt b (a+d / 4*3) (oB b a d).2
def Tu{a:Array Int}{b:Nat}(e:50<=d):choosePivot ltInt a b (b+d)=((median ltInt a (oA a b d).1 (oB a b d).1 (oC a b d).1 (oC a b d).2).1,Df (median ltInt a (oA a b d).1 (oB a b d).1 (oC a b d).1 (oC a b d).2).2):=by unfold choosePivot;grind
def UK(j:Nat)(O:Array Int)(x i:Nat)(m:x<=i)(s:i<=j)(f:8<=i-x)(d:j<=4000000):
  Y q 181 [dL j,Q x,Q i] [cG j O] (.S [.Q (.c (.int .i64 (choosePivot ltInt O x i).1)),.Q (.c (.int .i64 (qy (choosePivot ltInt O x i).2)))]) [cG j O]:=by
 refine Y.ab func181 rfl λo=>?_;obtain⟨b,rfl⟩:∃b,i=x+b:=⟨i-x,by omega⟩
 rw[AU]at f;by_cases k:b<50
 .refine bR [32,-34] a Ri (g.aA (Jo j O (x:=x+b / 4*1) (i:=x+b / 4*2) (t:=x+b / 4*3) 0 w w w d w w w w) [0,1] a ?_);rw[Tv f k];generalize median ltInt O (x+b / 4*1) (x+b / 4*2) (x+b / 4*3) 0=e;by_cases al:e.2=0
  .exact QW
  by_cases ap:e.2=12
  .exact PN
  exact RB
 refine bR [32,34] a Ri ?_;have p:(oA O x b).1<j/\(oA O x b).2<=0+3:=DF (O:=O) (x:=x+b / 4*1) (eZ:=0) (j:=j) w w;have r:(oB O x b).1<j/\(oB O x b).2<=(oA O x b).2+3:=DF (O:=O) (x:=x+b / 4*2) (eZ:=(oA O x b).2) (j:=j) w w;have u:(oC O x b).1<j/\(oC O x b).2<=(oB O x b).2+3:=DF (O:=O) (x:=x+b / 4*3) (eZ:=(oB O x b).2) (j:=j) w w;refine g.aA (CG j O (x:=x+b / 4*1) 0 w w d w w) [0,1] a (cB a B (g.aA (CG j O (x:=x+b / 4*2) (oA O x b).2 w w d w w) [0,1] a (cB a B (g.aA (CG j O (x:=x+b / 4*3) (oB O x b).2 w w d w w) [0,1] a (cB a B (g.aA (Jo j O (x:=(oA O x b).1) (i:=(oB O x b).1) (t:=(oC O x b).1) (oC O x b).2 w w w d w a a a) [0,1] a ?_))))));rw[Tu w];generalize median ltInt O (oA O x b).1 (oB O x b).1 (oC O x b).1 (oC O x b).2=e;by_cases al:e.2=0
 .exact QW
 by_cases ap:e.2=12
 .exact PN
 exact RB
end
section
open Go.Sort (swp reverseLoop reverseRange siftDown heapBuild heapPop heapSort ltInt)
variable {q:af T}
def XS(d:Nat)(i:Array Int)(f e:Nat)(t:i.size=d)(z:1<=e)(y:f<=d)(A:e<=d)(C:d<=4000000):Y q 182 [dL d,Q f,Q e] [cG d i] (.S []) [cG d (reverseRange i f e)]:=by
 refine Y.ab func182 rfl λx=>?_;refine aQ a bE (g.aB 1 (λb:Nat×Nat×Array Int=>b.2.2.size=d/\b.1<=d/\b.2.1<d+1/\b.2.1<d/\reverseLoop b.1 b.2.1 b.2.2=reverseRange i f e) (λb=>[(0,dL d),(6,Q b.1),(7,Q b.2.1)]) (λb=>[cG d b.2.2]) (λb=>b.2.1-b.1) (f,e-1,i) a bM a D a ⟨t,by grind,by grind,by grind,a⟩ ?_);rintro⟨j,k,d1⟩ ⟨p,o,_,u,m⟩;simp only at p o u m;by_cases r:j<k
 .refine bR [13] a ?_ (g.aw (j+1,k-1,swp d1 j k) a ?_ ?_ ?_ ?_)
  .simp only[U,cZ,cR,a7,bz,a',a9];exact fC
  .exact bw
  .simp only[U.Y,U,cZ,cR,a9,a'];exact li p w w (λ_ _=>rfl)
  .refine⟨by grind[nM],by grind,by grind,by grind,?_⟩;rw[<-m,reverseLoop.eq_1 j k d1,bo r]
  grind
 have s:reverseRange i f e=d1:=by rw[<-m,reverseLoop,bj r]
 rw[s];refine a3 [-13] a bM (g.az ?_);exact sk
def JE(a:Nat)(b:Array Int){fb bp first:Nat}(g:b.size=a)(k:first+bp<=a)(i:fb<=a)(o:a<=4000000){d e f:Int}(m:d=fb)(j:e=bp)(p:f=first):
  Y q 240 [dL a,Q d,Q e,Q f] [cG a b] (.S []) [cG a (siftDown ltInt bp first fb b)]:=by grind[X8]
def MQ(a first:Nat):∀(d root:Nat)(b:Array Int),a-root<=d->(siftDown ltInt a first root b).size=b.size:=by
 intro d;induction d with
 |zero=>intro root b e;rw[siftDown,dif_pos w]
 |succ d f=>
  intro root b e;rw[siftDown];exact sn
theorem VN(i:Nat)(m:Array Int)(b k:Nat)(y:m.size=i)(C:b<=k)(z:1<=k-b)(A:k<=i)(s:i<=4000000):Y q 179 [dL i,Q b,Q k] [cG i m] (.S []) [cG i (heapSort ltInt m b k)]:=by
 refine Y.ab func179 rfl λF=>?_;obtain⟨e,rfl⟩:∃e,k=b+e:=⟨k-b,by omega⟩
 rw[AU]at z;refine cB a R7 (g.ck (S2:=Array Int) 0 a a (λd2=>d2.size=i/\d2=heapBuild ltInt e b ((e-1) / 2+1) m) (λ_=>[(0,dL i),(6,Q b),(7,Q 0),(8,Q e)]) (λd2=>[cG i d2]) 1 (λd:Nat×Array Int=>d.2.size=i/\d.1<=(e-1) / 2+1/\heapBuild ltInt e b d.1 d.2=heapBuild ltInt e b ((e-1) / 2+1) m) (λd=>[(0,dL i),(6,Q b),(7,Q 0),(8,Q e),(9,Q ((d.1:Int)-1))]) (λd=>[cG i d.2]) (λd=>d.1) ((e-1) / 2+1,m) a bM a D a ⟨y,bC _,a⟩ ?_ ?_)
 .rintro dx ⟨f,d1⟩ ⟨j,p,t⟩;simp only at j p t;cases f with
  |zero=>
   refine a3 [-19] a D (g.az ?_);exact dx d1 ⟨j,t⟩ a D a D
  |succ f=>
   refine a3 [19] rfl D (g.aA (JE i d1 (fb:=f) (bp:=e) (first:=b) j A w s w rfl rfl) [0] rfl (cB rfl ?_ (g.aw (f,siftDown ltInt e b f d1) rfl ?_ ?_ ?_ ?_)))
   .exact wP
   .simp
   .simp
   .exact⟨by rw[MQ _ _ _ _ _ (bC _)];exact j,by grind,t⟩
   simp
 rintro o ⟨x,E⟩;refine cB a bE ?_;have u:heapSort ltInt m b (b+e)=heapPop ltInt b e o:=by unfold heapSort;grind
 rw[u];refine g.aB 1 (λd:Nat×Array Int=>d.2.size=i/\d.1<=e/\heapPop ltInt b d.1 d.2=heapPop ltInt b e o) (λd=>[(0,dL i),(6,Q b),(7,Q 0),(8,Q e),(10,Q ((d.1:Int)-1))]) (λd=>[cG i d.2]) (λd=>d.1) (e,o) a D a D a ⟨x,bC _,a⟩ ?_;rintro⟨f,d1⟩ ⟨j,p,t⟩;simp only at j p t;cases f with
 |zero=>
  rw[<-t];refine a3 [-30] a D (g.az ?_);exact sk
 |succ f=>
  have r:((b:Int)+(((f+1:Nat):Int)-1)).toNat=b+f:=w;refine bR [30,911] a ?_ ?_
  .simp only[U,cZ,cR,r,a7,bz,a',a9];exact fC
  refine g.bc [cG i (swp d1 b (b+f))] a ?_ ?_
  .simp only[U.Y,U,cZ,cR,r,a9,a'];exact li j w w (λ_ _=>rfl)
  refine cB rfl B (g.aA (JE i (swp d1 b (b+f)) (fb:=0) (bp:=f) (first:=b) sn w w s rfl w rfl) [0] rfl (cB rfl ?_ (g.aw (f,siftDown ltInt f b 0 (swp d1 b (b+f))) rfl ?_ ?_ ?_ ?_)))
  .exact wP
  .simp
  .simp
  .exact⟨by rw[MQ _ _ _ _ _ (bC _),nM];exact j,by grind,t⟩
  simp
end
section
open Go.Sort (bitsLen)
variable {q:af T}
def ox:m UInt8:=(aA 256).map λa=>UInt8.ofNat (bitsLen a)
def sS{E f}(b:E<2 ^ f):bitsLen E<=f:=by
 unfold bitsLen;split
 .omega
 rename_i a;have:=(Nat.log2_lt a).2 b;omega
theorem Z5{E:Nat}(a:E<256):(kM ox E).toNat=bitsLen E:=by unfold kM ox;rw[cR,aj,nd,List.getElem?_range a];have:=sS (E:=E) (f:=8) a;grind[UInt8.toNat_ofNat']
def GX{f}(d:2 ^ f<=j):bitsLen j=f+bitsLen (j / 2 ^ f):=by
 have a:0<2 ^ f:=Nat.two_pow_pos f;have i:0<j / 2 ^ f:=Nat.div_pos d a;unfold bitsLen;rw[bj w,bj w];have e:Nat.log2 j=f+Nat.log2 (j / 2 ^ f):=by
  rw[Nat.log2_eq_iff w];have b:=Nat.log2_self_le (n:=j / 2 ^ f) w;have g:=Nat.lt_log2_self (n:=j / 2 ^ f);constructor
  .rw[Nat.pow_add,xg];exact e3 (hf _ b) (Nat.div_mul_le_self j _)
  rw[show f+Nat.log2 (j / 2 ^ f)+1=f+(Nat.log2 (j / 2 ^ f)+1) by omega,Nat.pow_add];grind[Nat.div_lt_iff_lt_mul]
 omega
set_option maxRecDepth 100000 in
def WC(j:Nat)(u:j<=4000000):Y q 188 [my j] [] (Q (bitsLen j)) []:=by
 refine Y.ab func188 rfl λt=>?_;have fin:∀{b:m UInt8} {E:Nat},b=ox->E<256->(kM b (E:Int)).toNat=bitsLen E:=λaZ s=>by grind[Z5]
 have e:∀{b:m UInt8},b=ox->c b=256:=λaZ=>by rw[aZ];rfl
 by_cases r:65536<=j
 .have i:((j:Int).toNat / 2 ^ Int.toNat 16)=j / 65536:=D;have p:bitsLen j=16+bitsLen (j / 65536):=GX (j:=j) (f:=16) r;have k:=sS (E:=j / 65536) (f:=8) N;refine bR [-4,8,-14] a ?_ (g.ao a ?_)
  .generalize aZ:(ByteArray.data _).toList=b;have d:b=ox:=uh;simp only[U,i,fin d (show j / 65536<256 by omega),e d,a7,bz,dq];exact fC
  generalize aZ:(ByteArray.data _).toList=b;have d:b=ox:=uh;simp only[U,U.Y,i,fin d (show j / 65536<256 by omega),a',a9];omega
 by_cases o:256<=j
 .have i:((j:Int).toNat / 2 ^ Int.toNat 8)=j / 256:=D;have p:bitsLen j=8+bitsLen (j / 256):=GX (j:=j) (f:=8) o;have k:=sS (E:=j / 256) (f:=8) N;refine bR [-4,-8,14] a ?_ (g.ao a ?_)
  .generalize aZ:(ByteArray.data _).toList=b;have d:b=ox:=uh;simp only[U,i,fin d (show j / 256<256 by omega),e d,a7,bz,dq];exact fC
  generalize aZ:(ByteArray.data _).toList=b;have d:b=ox:=uh;simp only[U,U.Y,i,fin d (show j / 256<256 by omega),a',a9];omega
 have k:=sS (E:=j) (f:=8) N;refine bR [-4,-8,-14] a ?_ (g.ao a ?_)
 .generalize aZ:(ByteArray.data _).toList=b;have d:b=ox:=uh;simp only[U,fin d (show j<256 by omega),e d,a7,bz,dq];exact fC
 generalize aZ:(ByteArray.data _).toList=b;have d:b=ox:=uh;simp only[U,U.Y,fin d (show j<256 by omega),a',a9];omega
def Jf(b:Nat)(d:b<=4000000):Y q 117 [my b] [] (Q (bitsLen b)) []:=by refine Y.ab func117 rfl λe=>?_;refine cB a B ?_;refine g.fy ?_;refine cB a B ?_;refine g.aA (WC b d) [] a ?_;exact cB a B (g.ao a)
end
section
open Go.Sort (swp bitsLen xorNextN xorNextN_lt xorNext xorNext_toNat breakStep breakPatterns)
variable {q:af T}
abbrev xw(a:Nat):aq:=.cells 291 [.c (.int .u64 a)]
def Xh(b):Y q 242 [aH 0 0] [xw b] (my (xorNextN b)) [xw (xorNextN b)]:=by refine Y.ab func242 rfl λf=>?_;have e:(2:Nat) ^ Int.toNat 13=8192:=ca;have i:(2:Nat) ^ Int.toNat 7=128:=ca;have d:(2:Nat) ^ Int.toNat 17=131072:=ca;refine cB a D ?_;refine g.bc [xw (xorNextN b)] a bE (g.aI [0] a ?_ hl);exact bE
theorem XL(b:Nat)(d:b<=4000000):Y q 241 [Q b] [] (my ((1 <<< bitsLen b:Nat):Int)) []:=by refine Y.ab func241 rfl λj=>?_;have e:=sS (E:=b) (f:=22) N;refine cB a bE ?_;refine g.aA (Jf b d) [] a ?_;refine cB a bw (g.ao a ?_);have i:2 ^ bitsLen b<=2 ^ 22:=AZ w e;simp only[U,U.Y,Nat.shiftLeft_eq,cR];grind
def abe{L}(a:0<L):1 <<< bitsLen L<=2*L:=by rw[Nat.shiftLeft_eq,Nat.one_mul];unfold bitsLen;rw[bj w,Nat.pow_succ];grind[Nat.log2_self_le]
def abf(L):1<=1 <<< bitsLen L:=by rw[Nat.shiftLeft_eq,Nat.one_mul];grind
def u1(d L b:Nat):Nat->Nat->UInt64×Array Int->UInt64×Array Int
 |0,_,a=>a
 |e+1,idx,a=>u1 d L b e (idx+1) (breakStep d L b a idx)
def Te{b}{a L}(d:8<=L):breakPatterns b a (a+L)=(u1 a L (1 <<< bitsLen L) 3 (a+L / 4*2-1) (UInt64.ofNat L,b)).2:=by unfold breakPatterns;simp only[AU];exact bE
def Tf{x L bB idx}{ba}{O:Array Int}:breakStep x L bB (ba,O) idx=(xorNext ba,swp O idx (x+if(xorNextN ba.toNat &&& (bB-1))≥L then(xorNextN ba.toNat &&& (bB-1))-L else(xorNextN ba.toNat &&& (bB-1)))):=by unfold breakStep;simp only[xorNext_toNat]
abbrev Td(e a L b:Nat)(d:Nat):bL:=[(0,dL e),(1,Q a),(6,Q L),(7,aH 1 0),(8,my b),(9,Q ((a+L / 4*2-1+(3-d):Nat):Int))]
def UI(j)(O)(x i)(y:O.size=j)(D:x<=i)(K:i<=j)(A:j<=4000000):
  Y q 180 [dL j,Q x,Q i] [cG j O] (.S []) [cG j (breakPatterns O x i)]:=by
 refine Y.ab func180 rfl λM=>?_;obtain⟨L,rfl⟩:∃L,i=x+L:=⟨i-x,by omega⟩
 by_cases z:8<=L
 .rw[Te z];have J:=abe (L:=L) w;have F:=abf L;have E:(UInt64.ofNat L).toNat=L:=by grind[UInt64.toNat_ofNat']
  refine bR [15] a so ?_;have key:∀p:Int,p=(L:Int)->Y q 241 [Q p] [] (my ((1 <<< bitsLen L:Nat):Int)) []:=by grind[XL]
  refine g.aA (key _ w) [] a (cB a so ?_);generalize I:1 <<< bitsLen L=bB at *;refine g.aB 2 (λb:Nat×UInt64×Array Int=>b.2.2.size=j/\b.1<=3/\(u1 x L bB b.1 (x+L / 4*2-1+(3-b.1)) b.2).2=(u1 x L bB 3 (x+L / 4*2-1) (UInt64.ofNat L,O)).2) (λb=>Td j x L bB b.1) (λb=>[cG j b.2.2,xw b.2.1.toNat]) (λb=>b.1) (3,UInt64.ofNat L,O) a ?_ a ?_ a ⟨y,bC _,a⟩ ?_
  .simp only[U.Y,U,a',a9];exact fC
  .exact bw
  rintro⟨f,ba,d1⟩ ⟨d,m,t⟩;simp only at d m t;cases f with
  |zero=>
   rw[<-t];refine bR [-33] a z' (g.az ?_);exact sk
  |succ f=>
   have R:=xorNextN_lt _ (UInt64.toNat_lt ba);have C:xorNextN ba.toNat &&& (bB-1)<=bB-1:=Nat.and_le_right;have u:((bB:Int)-1).toNat=bB-1:=w;refine bR [33] a so (g.aA (Xh ba.toNat) [1] a ?_);have al:=Tf (x:=x) (L:=L) (bB:=bB) (idx:=x+L / 4*2-1+(3-(f+1))) (ba:=ba) (O:=d1);generalize e:xorNextN ba.toNat &&& (bB-1)=k at *;by_cases o:L<=k
   .rw[bo o]at al;have s:((x:Int)+((k:Int)-(L:Int))).toNat=x+(k-L):=w;refine bR [43] a ?_ (g.aw (f,xorNext ba,swp d1 (x+L / 4*2-1+(3-(f+1))) (x+(k-L))) a ?_ ?_ ?_ ?_)
    .simp only[U,cZ,cR,u,e,s,a7,bz,a',a9];exact fC
    .simp only[U.Y,U,a',a9];omega
    .exact Pn
    .exact QK
    simp
   rw[bj o]at al;have s:((x:Int)+(k:Int)).toNat=x+k:=w;refine bR [-43] a ?_ (g.aw (f,xorNext ba,swp d1 (x+L / 4*2-1+(3-(f+1))) (x+k)) a ?_ ?_ ?_ ?_)
   .simp only[U,cZ,cR,u,e,s,a7,dq,a',a9];exact fC
   .simp only[U.Y,U,a',a9];omega
   .exact Pn
   .exact QK
   simp
 have r:breakPatterns O x (x+L)=O:=by unfold breakPatterns;grind
 rw[r];exact bR [-15] a bE sk
end
section
open Go.Sort (swp scanUp scanDown partLoop partEqLoop partition partitionEqual ltInt)
variable {q:af T}
theorem zv{b:Int->Bool}{a}(f:e<=u)(d:b a[e]! = l):scanUp b a u e=scanUp b a u (e+1):=by rw[scanUp.eq_1 b a u e,bo N]
theorem Ep{b:Int->Bool}{a}(d:e<=u->b a[e]! = v):scanUp b a u e=e:=by rw[scanUp,bj];grind
theorem MA{b:Int->Bool}{a}(g:1<=u)(i:e<=u)(f:b a[u]! = l):scanDown b a e u=scanDown b a e (u-1):=by
 obtain⟨u,rfl⟩:∃d,u=d+1:=⟨u-1,by omega⟩
 rw[scanDown,bo N,p5]
theorem MB{b:Int->Bool}{a}(d:e<=u->b a[u]! = v):scanDown b a e u=u:=by
 cases u with
 |zero=>rfl
 |succ u=>
  rw[scanDown,bj];grind
def wd{S:Int->Bool}{O}:∀b a,u+1-a<=b->a<=scanUp S O u a/\(scanUp S O u a<=u+1∨scanUp S O u a=a):=by
 intro b;induction b with
 |zero=>intro a e;rw[Ep (λd=>by omega)];omega
 |succ b g=>
  intro a e;by_cases f:a<=u
  .cases d:S O[a]! with
   |true=>grind[zv]
   |false=>grind[Ep]
  grind
def wc{S:Int->Bool}{O}:∀a:Nat,scanDown S O e a<=a/\(e<=scanDown S O e a+1∨scanDown S O e a=a):=by
 intro a;induction a with
 |zero=>rw[show scanDown S O e 0=0 from rfl];omega
 |succ a d=>
  by_cases b:e<=a+1
  .cases t:S O[a+1]! with
   |true=>grind[MA]
   |false=>grind[MB]
  exact Ah
def aa6{b}{O}{d f:Nat}(m:1<=e)(g:d=scanUp (λa=>ltInt a O[b]!) O u e)(i:f=scanDown (λa=>!ltInt a O[b]!) O d u):
  partLoop ltInt b e u O=if d>f then(f,O)else partLoop ltInt b (d+1) (f-1) (swp O d f):=by have j:=wd (S:=λa=>ltInt a O[b]!) (O:=O) (u:=u) (u+1-e) e (bC _);have k:=wc (S:=λa=>!ltInt a O[b]!) (O:=O) (e:=d) u;rw[<-g]at j;rw[<-i]at k;rw[partLoop.eq_1,<-g,<-i];grind
def aa7{f a:Array Int}{b aa}(k:a=swp f b aa)(g:e=scanUp (λd=>ltInt d a[b]!) a (i-1) (b+1))(j:u=scanDown (λd=>!ltInt d a[b]!) a e (i-1))(m:e>u):partition ltInt f b i aa=(u,l,swp a u b):=by unfold partition;grind
def aa8{g a:Array Int}{b aa}(o:a=swp g b aa)(k:e=scanUp (λf=>ltInt f a[b]!) a (i-1) (b+1))(m:u=scanDown (λf=>!ltInt f a[b]!) a e (i-1))(p:¬e>u){d}(j:partLoop ltInt b (e+1) (u-1) (swp a e u)=d):partition ltInt g b i aa=(d.1,v,swp d.2 d.1 b):=by subst j;unfold partition;grind
def XD(j)(O)(x i aa)(aM:O.size=j)(ah:x<i)(ak:i<=j)(aq:aa<j)(ao:j<=4000000):
  Y q 186 [dL j,Q x,Q i,Q aa] [cG j O] (.S [.Q (.c (.int .i64 (partition ltInt O x i aa).1)),.Q (.c (.bool (partition ltInt O x i aa).2.1))]) [cG j (partition ltInt O x i aa).2.2]:=by
 have C:a_ q [(184,qi)]:=.cons r' .nil;refine Y.ab func186 rfl λan=>?_;refine bf C [902] a bw (g.bc [cG j (swp O x aa)] a ?_ ?_)
 .simp only[U.Y,U,cZ,cR,a9,a'];exact li aM w w (λ_ _=>rfl)
 have bA:(swp O x aa).size=j:=sn;obtain⟨d0,z⟩:∃d0,d0=swp O x aa:=⟨_,rfl⟩;rw[<-z]at bA⊢;refine cU C a sm ?_
 refine g.ck (S2:=Unit) 0 a a (λ_=>True) (λ_=>[(0,dL j),(1,Q x),(10,Q ((scanUp (λE=>ltInt E d0[x]!) d0 (i-1) (x+1)):Nat)),(11,Q (i-1:Nat))]) (λ_=>[cG j d0]) 1 (λf:Nat=>x+1<=f/\f<=j+1/\scanUp (λE=>ltInt E d0[x]!) d0 (i-1) f=scanUp (λE=>ltInt E d0[x]!) d0 (i-1) (x+1)) (λf=>[(0,dL j),(1,Q x),(10,Q (f:Nat)),(11,Q (i-1:Nat))]) (λ_=>[cG j d0]) (λf=>i-1+1-f) (x+1) a bE a D a ⟨bC _,by omega,a⟩ ?_ ?_
 .rintro dx f ⟨o,r,p⟩;by_cases T:f<=i-1
  .by_cases av:(λE=>ltInt E d0[x]!) d0[f]! = l
   .have al:ltInt d0[f]! d0[x]! = l:=N;refine bf C [32,42] a q4 (g.aw (f+1) a D D ?_ ?_)
    .grind [zv]
    omega
   have al:ltInt d0[f]! d0[x]! = v:=N;refine bf C [32,-42] a q4 (g.az ?_);exact Q2
  refine bf C [-32] a bw (g.az ?_);exact Q2
 rintro⟨⟩ -;have af:=wd (S:=λE=>ltInt E d0[x]!) (O:=d0) (u:=i-1) (i-1+1-(x+1)) (x+1) (bC _);obtain⟨e,m⟩:∃e,e=scanUp (λE=>ltInt E d0[x]!) d0 (i-1) (x+1):=⟨_,rfl⟩
 rw[<-m]at af⊢;refine cU C a B (g.ck (S2:=Unit) 2 a a (λ_=>True) (λ_=>[(0,dL j),(1,Q x),(10,Q (e:Nat)),(11,Q ((scanDown (λE=>!ltInt E d0[x]!) d0 (e) (i-1)):Nat))]) (λ_=>[cG j d0]) 1 (λf:Nat=>f<=i-1/\f<=j/\scanDown (λE=>!ltInt E d0[x]!) d0 (e) f=scanDown (λE=>!ltInt E d0[x]!) d0 (e) (i-1)) (λf=>[(0,dL j),(1,Q x),(10,Q (e:Nat)),(11,Q (f:Nat))]) (λ_=>[cG j d0]) (λf=>f) (i-1) a ?_ a ?_ a ⟨bC _,by omega,a⟩ ?_ ?_)
 .simp[bs]<;>omega
 .simp
 .rintro dx f ⟨o,r,p⟩;by_cases T:e<=f
  .by_cases av:(λE=>!ltInt E d0[x]!) d0[f]! = l
   .have al:ltInt d0[f]! d0[x]! = v:=N;refine bf C [48,-58] a q4 (g.aw (f-1) a bw D Fq ?_);omega
   have al:ltInt d0[f]! d0[x]! = l:=N;refine bf C [48,58] a q4 (g.az ?_);exact Pk
  refine bf C [-48] a bw (g.az ?_);exact Pk
 rintro⟨⟩ -;have ag:=wc (S:=λE=>!ltInt E d0[x]!) (O:=d0) (e:=e) (i-1);obtain⟨u,I⟩:∃u,u=scanDown (λE=>!ltInt E d0[x]!) d0 e (i-1):=⟨_,rfl⟩
 rw[<-I]at ag⊢;by_cases ab:u<e
 .rw[aa7 z m I ab];refine bf C [65,909] a bw (g.bc [cG j (swp d0 u x)] a Qy ?_);exact PD
 refine bf C [-65,911] a bw (g.bc [cG j (swp d0 e u)] a Qy ?_);refine cU C a sm ?_;have X:(swp d0 e u).size=j:=sn;obtain⟨k,F⟩:∃k,partLoop ltInt x (e+1) (u-1) (swp d0 e u)=k:=⟨_,rfl⟩;rw[aa8 z m I w F]
 obtain⟨d1,L⟩:∃d1,d1=swp d0 e u:=⟨_,rfl⟩;rw[<-L]at X F⊢;refine g.ck (S2:=Unit) 4 a a (λ_=>k.1<j/\k.2.size=j) (λ_=>[(0,dL j),(1,Q x),(11,Q k.1)]) (λ_=>[cG j k.2]) 1 (λb:Nat×Nat×Array Int=>b.2.2.size=j/\x+1<=b.1/\b.1<=j+1/\b.2.1<j/\partLoop ltInt x b.1 b.2.1 b.2.2=k) (λb=>[(0,dL j),(1,Q x),(10,Q b.1),(11,Q b.2.1)]) (λb=>[cG j b.2.2]) (λb=>b.2.1+1-b.1) (e+1,u-1,d1) a bw a D a ⟨X,by grind,by grind,by grind,F⟩ ?_ ?_
 .rintro y ⟨dZ,s,d2⟩ ⟨G,ae,W,P,A⟩;simp only at G ae W P A;refine cU C a B (g.ck (S2:=Unit) 6 a a (λ_=>True) (λ_=>[(0,dL j),(1,Q x),(10,Q ((scanUp (λE=>ltInt E d2[x]!) d2 (s) (dZ)):Nat)),(11,Q (s:Nat))]) (λ_=>[cG j d2]) 1 (λf:Nat=>dZ<=f/\f<=j+1/\scanUp (λE=>ltInt E d2[x]!) d2 (s) f=scanUp (λE=>ltInt E d2[x]!) d2 (s) (dZ)) (λf=>[(0,dL j),(1,Q x),(10,Q (f:Nat)),(11,Q (s:Nat))]) (λ_=>[cG j d2]) (λf=>s+1-f) (dZ) a ?_ a ?_ a ⟨bC _,by omega,a⟩ ?_ ?_)
  .simp[bs]<;>omega
  .simp
  .rintro dx f ⟨o,r,p⟩;by_cases T:f<=s
   .by_cases av:(λE=>ltInt E d2[x]!) d2[f]! = l
    .have al:ltInt d2[f]! d2[x]! = l:=N;refine bf C [101,111] a q4 (g.aw (f+1) a D D ?_ ?_)
     .grind [zv]
     omega
    have al:ltInt d2[f]! d2[x]! = v:=N;refine bf C [101,-111] a q4 (g.az ?_);exact Rn
   refine bf C [-101] a bw (g.az ?_);exact Rn
  rintro⟨⟩ -;have J:=wd (S:=λE=>ltInt E d2[x]!) (O:=d2) (u:=s) (s+1-dZ) dZ (bC _);obtain⟨d,M⟩:∃d,d=scanUp (λE=>ltInt E d2[x]!) d2 s dZ:=⟨_,rfl⟩
  rw[<-M]at J⊢;refine cU C a B (g.ck (S2:=Unit) 8 a a (λ_=>True) (λ_=>[(0,dL j),(1,Q x),(10,Q (d:Nat)),(11,Q ((scanDown (λE=>!ltInt E d2[x]!) d2 (d) (s)):Nat))]) (λ_=>[cG j d2]) 1 (λf:Nat=>f<=s/\f<=j/\scanDown (λE=>!ltInt E d2[x]!) d2 (d) f=scanDown (λE=>!ltInt E d2[x]!) d2 (d) (s)) (λf=>[(0,dL j),(1,Q x),(10,Q (d:Nat)),(11,Q (f:Nat))]) (λ_=>[cG j d2]) (λf=>f) (s) a ?_ a ?_ a ⟨bC _,by omega,a⟩ ?_ ?_)
  .simp[bs]<;>omega
  .simp
  .rintro dx f ⟨o,r,p⟩;by_cases T:d<=f
   .by_cases av:(λE=>!ltInt E d2[x]!) d2[f]! = l
    .have al:ltInt d2[f]! d2[x]! = v:=N;refine bf C [117,-127] a q4 (g.aw (f-1) a bw D Fq ?_);omega
    have al:ltInt d2[f]! d2[x]! = l:=N;refine bf C [117,127] a q4 (g.az ?_);exact O6
   refine bf C [-117] a bw (g.az ?_);exact O6
  rintro⟨⟩ -;have K:=wc (S:=λE=>!ltInt E d2[x]!) (O:=d2) (e:=d) s;obtain⟨t,V⟩:∃t,t=scanDown (λE=>!ltInt E d2[x]!) d2 d s:=⟨_,rfl⟩
  rw[<-V]at K⊢;have Z:=aa6 w M V;by_cases R:t<d
  .have ap:=Z;rw[A,bo R]at ap;refine bf C [134] a bw (g.az ?_);exact y () N a Ob a ul
  have ap:=Z;rw[A,bj w]at ap;refine bf C [-134,919] a ?_ ?_
  .simp only[U,cZ,cR,a7,dq,a',a9];exact fC
  refine g.bc [cG j (swp d2 d t)] a ?_ ?_
  .simp only[U.Y,U,cZ,cR,a9,a'];exact li G w w (λ_ _=>rfl)
  refine cU C a sm (g.aw (d+1,t-1,swp d2 d t) a bw D ?_ ?_)
  .grind [nM]
  grind
 rintro⟨⟩ ⟨ai,H⟩;refine bf C [922] a bw (g.bc [cG j (swp k.2 k.1 x)] a ?_ ?_)
 .simp only[U.Y,U,cZ,cR,a9,a'];exact li H w w (λ_ _=>rfl)
 exact PD
def aa5{d}{O}{a g:Nat}(m:1<=e)(f:a=scanUp (λb=>!ltInt O[d]! b) O u e)(i:g=scanDown (λb=>ltInt O[d]! b) O a u):
  partEqLoop ltInt d e u O=if a>g then(a,O)else partEqLoop ltInt d (a+1) (g-1) (swp O a g):=by have j:=wd (S:=λb=>!ltInt O[d]! b) (O:=O) (u:=u) (u+1-e) e (bC _);have k:=wc (S:=λb=>ltInt O[d]! b) (O:=O) (e:=a) u;rw[<-f]at j;rw[<-i]at k;rw[partEqLoop.eq_1,<-f,<-i];grind
def XE(j)(O)(x i aa)(T:O.size=j)(ab:x<i)(af:i<=j)(aM:aa<j)(P:j<=4000000):
  Y q 185 [dL j,Q x,Q i,Q aa] [cG j O] (Q (partitionEqual ltInt O x i aa).1) [cG j (partitionEqual ltInt O x i aa).2]:=by
 have k:a_ q [(184,qi)]:=.cons r' .nil;refine Y.ab func185 rfl λag=>?_;refine bf k [902] a bw (g.bc [cG j (swp O x aa)] a ?_ ?_)
 .simp only[U.Y,U,cZ,cR,a9,a'];exact li T w w (λ_ _=>rfl)
 have M:(swp O x aa).size=j:=sn;unfold partitionEqual;generalize swp O x aa=d1 at *;obtain⟨m,H⟩:∃m,partEqLoop ltInt x (x+1) (i-1) d1=m:=⟨_,rfl⟩;rw[H];refine cU k a sm ?_
 refine g.ck (S2:=Unit) 0 a a (λ_=>m.1<=j+1/\m.2.size=j) (λ_=>[(0,dL j),(1,Q x),(9,Q m.1)]) (λ_=>[cG j m.2]) 1 (λb:Nat×Nat×Array Int=>b.2.2.size=j/\x+1<=b.1/\b.1<=j+1/\b.2.1<j/\partEqLoop ltInt x b.1 b.2.1 b.2.2=m) (λb=>[(0,dL j),(1,Q x),(9,Q b.1),(10,Q b.2.1)]) (λb=>[cG j b.2.2]) (λb=>b.2.1+1-b.1) (x+1,i-1,d1) a bw a D a ⟨M,by grind,by grind,by grind,H⟩ ?_ ?_
 .rintro p ⟨dZ,t,d2⟩ ⟨I,W,X,G,d⟩;simp only at I W X G d;refine cU k a B (g.ck (S2:=Unit) 2 a a (λ_=>True) (λ_=>[(0,dL j),(1,Q x),(9,Q ((scanUp (λE=>!ltInt d2[x]! E) d2 (t) (dZ)):Nat)),(10,Q (t:Nat))]) (λ_=>[cG j d2]) 1 (λf:Nat=>dZ<=f/\f<=j+1/\scanUp (λE=>!ltInt d2[x]! E) d2 (t) f=scanUp (λE=>!ltInt d2[x]! E) d2 (t) (dZ)) (λf=>[(0,dL j),(1,Q x),(9,Q (f:Nat)),(10,Q (t:Nat))]) (λ_=>[cG j d2]) (λf=>t+1-f) (dZ) a ?_ a ?_ a ⟨bC _,by omega,a⟩ ?_ ?_)
  .simp[bs]<;>omega
  .simp
  .rintro dx f ⟨J,R,y⟩;by_cases K:f<=t
   .by_cases L:(λE=>!ltInt d2[x]! E) d2[f]! = l
    .have C:ltInt d2[x]! d2[f]! = v:=N;refine bf k [31,-41] a Ag (g.aw (f+1) a D D ?_ ?_)
     .grind [zv]
     omega
    have C:ltInt d2[x]! d2[f]! = l:=N;refine bf k [31,41] a Ag (g.az ?_);exact Q3
   refine bf k [-31] a bw (g.az ?_);exact Q3
  rintro⟨⟩ -;have r:=wd (S:=λE=>!ltInt d2[x]! E) (O:=d2) (u:=t) (t+1-dZ) dZ (bC _);obtain⟨al,F⟩:∃al,al=scanUp (λE=>!ltInt d2[x]! E) d2 t dZ:=⟨_,rfl⟩
  rw[<-F]at r⊢;refine cU k a B (g.ck (S2:=Unit) 4 a a (λ_=>True) (λ_=>[(0,dL j),(1,Q x),(9,Q (al:Nat)),(10,Q ((scanDown (λE=>ltInt d2[x]! E) d2 (al) (t)):Nat))]) (λ_=>[cG j d2]) 1 (λf:Nat=>f<=t/\f<=j/\scanDown (λE=>ltInt d2[x]! E) d2 (al) f=scanDown (λE=>ltInt d2[x]! E) d2 (al) (t)) (λf=>[(0,dL j),(1,Q x),(9,Q (al:Nat)),(10,Q (f:Nat))]) (λ_=>[cG j d2]) (λf=>f) (t) a ?_ a ?_ a ⟨bC _,by omega,a⟩ ?_ ?_)
  .simp[bs]<;>omega
  .simp
  .rintro dx f ⟨J,R,y⟩;by_cases K:al<=f
   .by_cases L:(λE=>ltInt d2[x]! E) d2[f]! = l
    .have C:ltInt d2[x]! d2[f]! = l:=N;refine bf k [48,58] a Ag (g.aw (f-1) a bw D Fq ?_);omega
    have C:ltInt d2[x]! d2[f]! = v:=N;refine bf k [48,-58] a Ag (g.az ?_);exact PX
   refine bf k [-48] a bw (g.az ?_);exact PX
  rintro⟨⟩ -;have s:=wc (S:=λE=>ltInt d2[x]! E) (O:=d2) (e:=al) t;obtain⟨o,A⟩:∃o,o=scanDown (λE=>ltInt d2[x]! E) d2 al t:=⟨_,rfl⟩
  rw[<-A]at s⊢;have z:=aa5 w F A;by_cases V:o<al
  .have ap:=z;rw[d,bo V]at ap;refine bf k [64] a bw (g.az ?_);exact p () N a Ob a ul
  have ap:=z;rw[d,bj w]at ap;refine bf k [-64,909] a bw (g.bc [cG j (swp d2 al o)] a ?_ ?_)
  .simp only[U.Y,U,cZ,cR,a9,a'];exact li I w w (λ_ _=>rfl)
  refine cU k a sm (g.aw (al+1,o-1,swp d2 al o) a bw D ?_ ?_)
  .grind [nM]
  grind
 rintro⟨⟩ ⟨ae,Z⟩;refine cU k a B (g.aI [0] a ?_ hl);simp
end
section
open Go.Sort (swp scanSorted shiftDown shiftUp partialIns partialInsertionSort ltInt)
variable {q:af T}
theorem MC{a}(d:e<i)(b:ltInt a[e]! a[e-1]! = v):scanSorted ltInt a i e=scanSorted ltInt a i (e+1):=by rw[scanSorted.eq_1 ltInt a i e,bo N]
theorem zu{a}(b:e<i->ltInt a[e]! a[e-1]! = l):scanSorted ltInt a i e=e:=by rw[scanSorted,bj];grind
def ab5{O}:∀b a,i-a<=b->a<=i->a<=scanSorted ltInt O i a/\scanSorted ltInt O i a<=i:=by
 intro b;induction b with
 |zero=>grind[zu]
 |succ b e=>
  intro a j f;by_cases d:a<i
  .cases g:ltInt O[a]! O[a-1]! with
   |false=>grind[MC]
   |true=>grind[zu]
  grind
theorem aci{a}(d:1<=u)(s:ltInt a[u]! a[u-1]! = l):shiftDown ltInt u a=shiftDown ltInt (u-1) (swp a u (u-1)):=by
 obtain⟨u,rfl⟩:∃b,u=b+1:=⟨u-1,by omega⟩
 simp only[p5]at s⊢;rw[shiftDown,bj ha]
theorem MK{a}(b:1<=u->ltInt a[u]! a[u-1]! = v):shiftDown ltInt u a=a:=by
 cases u with
 |zero=>rfl
 |succ u=>
  have:=b w;simp only[p5]at this;rw[shiftDown,bo N]
theorem acj{a}(b:u<i)(s:ltInt a[u]! a[u-1]! = l):shiftUp ltInt i u a=shiftUp ltInt i (u+1) (swp a u (u-1)):=by rw[shiftUp.eq_1 ltInt i u a,bo b,bj ha]
theorem ML{a}(b:u<i->ltInt a[u]! a[u-1]! = v):shiftUp ltInt i u a=a:=by rw[shiftUp];grind
abbrev qM(e a b d f:Nat):bL:=[(0,dL e),(1,Q a),(2,Q b),(7,Q d),(8,Q (5-(f:Int)))]
def aa_{d b}{a}:partialIns ltInt d i (b+1) e a=(if scanSorted ltInt a i e=i then(a,l)else if i-d<50 then(a,v)else
  partialIns ltInt d i b (scanSorted ltInt a i e) (if i-scanSorted ltInt a i e≥2 then shiftUp ltInt i (scanSorted ltInt a i e+1) (if scanSorted ltInt a i e-d≥2 then shiftDown ltInt (scanSorted ltInt a i e-1) (swp a (scanSorted ltInt a i e) (scanSorted ltInt a i e-1))else swp a (scanSorted ltInt a i e) (scanSorted ltInt a i e-1))else(if scanSorted ltInt a i e-d≥2 then shiftDown ltInt (scanSorted ltInt a i e-1) (swp a (scanSorted ltInt a i e) (scanSorted ltInt a i e-1))else swp a (scanSorted ltInt a i e) (scanSorted ltInt a i e-1)))):=rfl
def Js(j)(O)(r i)(W:O.size=j)(ab:r<i)(af:i<=j)(ah:j<=4000000):
  Y q 183 [dL j,Q r,Q i] [cG j O] (bg (partialInsertionSort ltInt O r i).2) [cG j (partialInsertionSort ltInt O r i).1]:=by
 have m:a_ q [(184,qi)]:=.cons r' .nil;refine Y.ab func183 rfl λag=>?_;obtain⟨u,F⟩:∃u,partialIns ltInt r i 5 (r+1) O=u:=⟨_,rfl⟩;have V:partialInsertionSort ltInt O r i=u:=F;rw[V];refine cU m a bE ?_
 refine g.ck (S2:=Unit) 0 a a (λ_=>u.2=v) (λ_=>[(0,dL j)]) (λ_=>[cG j u.1]) 1 (λb:Nat×Nat×Array Int=>b.2.2.size=j/\b.1<=5/\r+1<=b.2.1/\b.2.1<=i/\partialIns ltInt r i b.1 b.2.1 b.2.2=u) (λb=>qM j r i b.2.1 b.1) (λb=>[cG j b.2.2]) (λb=>b.1) (5,r+1,O) a D a D a ⟨W,by grind,by grind,by grind,F⟩ ?_ ?_
 .rintro Z ⟨b,e,d1⟩ ⟨bB,J,bp,o,s⟩;simp only at bB J bp o s;cases b with
  |zero=>
   rw[partialIns]at s;refine bf m [-14] a D (g.az ?_);exact Z () N a D a (by simp[bs,<-s])
  |succ b=>
   rw[aa_]at s;refine bf m [14] a bw (g.ck (S2:=Unit) 2 a a (λ_=>True) (λ_=>qM j r i (scanSorted ltInt d1 i e) (b+1)) (λ_=>[cG j d1]) 1 (λf:Nat=>e<=f/\f<=i/\scanSorted ltInt d1 i f=scanSorted ltInt d1 i e) (λf=>qM j r i f (b+1)) (λ_=>[cG j d1]) (λf=>i-f) e a D a D a ⟨bC _,o,a⟩ ?_ ?_)
   .rintro dx f ⟨P,aa,br⟩;by_cases ae:f<i
    .have bU:((f:Int)-1).toNat=f-1:=w;cases bm:ltInt d1[f]! d1[f-1]! with
     |false=>
      refine bf m [19,-30] a P0 (g.aw (f+1) a D D ?_ ?_)
      .grind [MC]
      omega
     |true=>
      refine bf m [19,30] a P0 (g.az ?_);have ap:scanSorted ltInt d1 i e=f:=by grind[zu]
      exact dx () B a bw a D
    refine bf m [-19] a bw (g.az ?_);have ap:scanSorted ltInt d1 i e=f:=by grind[zu]
    exact dx () B a bw a D
   rintro⟨⟩ -;have X:=ab5 (O:=d1) (i:=i) (i-e) e (bC _) o;obtain⟨k,H⟩:∃k,k=scanSorted ltInt d1 i e:=⟨_,rfl⟩;rw[<-H]at X s⊢
   by_cases C:k=i
   .rw[bo C]at s;rw[<-s];refine bf m [37] a ?_ (g.aS (bW.mk [0] a ?_ a a a hl))
    .simp[C]
    simp
   rw[bj C]at s;by_cases R:i-r<50
   .rw[bo R]at s;rw[<-s];refine bf m [-37,41] a j8 (g.aS (bW.mk [0] a ?_ a a a hl));simp
   rw[bj R]at s;have bU:((k:Int)-1).toNat=k-1:=w;refine bf m [-37,-41,912] a ?_ ?_
   .simp only[U,cZ,cR,bU,a7,dq,eN,d',a',a9];exact fC
   refine g.bc [cG j (swp d1 k (k-1))] a ?_ ?_
   .simp only[U.Y,U,cZ,cR,bU,a9,a'];exact li bB w w (λ_ _=>rfl)
   have K:(swp d1 k (k-1)).size=j:=sn;obtain⟨d2,y⟩:∃d2,d2=swp d1 k (k-1):=⟨_,rfl⟩;rw[<-y]at K s⊢;obtain⟨d3,x⟩:∃d3,d3=if k-r≥2 then shiftDown ltInt (k-1) d2 else d2:=⟨_,rfl⟩
   rw[<-x]at s;have ab2:∀p O,(shiftDown ltInt p O).size=O.size:=by
    intro p;induction p with
    |zero=>intro O;rfl
    |succ p ai=>
     intro O;rw[shiftDown];exact sn
   have T:d3.size=j:=N;apply g.cj (qM j r i k (b+1)) [cG j d3]
   .intro dx;by_cases E:k-r≥2
    .rw[bo E]at x;refine bf m [61] a so (g.ck (S2:=Unit) 4 a a (λ_=>True) (λ_=>qM j r i k (b+1)) (λ_=>[cG j d3]) 1 (λb:Nat×Array Int=>b.2.size=j/\b.1<i/\shiftDown ltInt b.1 b.2=d3) (λt=>qM j r i k (b+1)++[(9,Q t.1)]) (λb=>[cG j b.2]) (λb=>b.1) (k-1,d2) a bw a D a ⟨K,by grind,x.symm⟩ ?_ ?_)
     .rintro d ⟨p,d4⟩ ⟨S,z,A⟩;simp only at S z A;by_cases I:1<=p
      .have bA:((p:Int)-1).toNat=p-1:=w;cases bm:ltInt d4[p]! d4[p-1]! with
       |true=>
        refine bf m [65,77] a Aa (g.aw (p-1,swp d4 p (p-1)) a bw Ph ?_ ?_)
        .grind [aci]
        grind
       |false=>
        refine bf m [65,-77] a Aa (g.az ?_);have ap:d3=d4:=by grind[MK]
        exact d () B a D a ul
      refine bf m [-65] a bw (g.az ?_);have ap:d3=d4:=by grind[MK]
      exact d () B a D a ul
     rintro⟨⟩ -;exact bf m [918] a B kE
    rw[bj E]at x;rw[<-x];exact bf m [-61,918] a z' kE
   by_cases L:i-k≥2
   .rw[bo L]at s;obtain⟨eW,M⟩:∃eW,shiftUp ltInt i (k+1) d3=eW:=⟨_,rfl⟩;rw[M]at s;refine bf m [98] a so ?_
    refine g.ck (S2:=Unit) 6 a a (λ_=>eW.size=j) (λ_=>qM j r i k (b+1)) (λ_=>[cG j eW]) 1 (λb:Nat×Array Int=>b.2.size=j/\1<=b.1/\b.1<=i/\shiftUp ltInt i b.1 b.2=eW) (λt=>qM j r i k (b+1)++[(10,Q t.1)]) (λb=>[cG j b.2]) (λb=>i-b.1) (k+1,d3) a D a D a ⟨T,by grind,by grind,M⟩ ?_ ?_
    .rintro d ⟨p,d4⟩ ⟨S,I,z,A⟩;simp only at S I z A;by_cases aM:p<i
     .have bA:((p:Int)-1).toNat=p-1:=w;cases bm:ltInt d4[p]! d4[p-1]! with
      |true=>
       refine bf m [103,115] a Aa (g.aw (p+1,swp d4 p (p-1)) a D Ph ?_ ?_)
       .grind [nM,acj]
       grind
      |false=>
       refine bf m [103,-115] a Aa (g.az ?_);have ap:eW=d4:=by grind[ML]
       exact d () N a D a ul
     refine bf m [-103] a bw (g.az ?_);have ap:eW=d4:=by grind[ML]
     exact d () N a D a ul
    rintro⟨⟩ J;refine cU m a wP (g.aw (b,k,eW) a bw D N ?_);grind
   rw[bj L]at s;refine bf m [-98] a z' (g.aw (b,k,d3) a bw D N ?_);grind
 rintro⟨⟩ G;refine cU m a B (g.aI [0] a ?_ hl);simp[G]
end
section
open Go.Sort (swp pdq rd Rd Below SWO insertionSort heapSort breakPatterns choosePivot reverseRange partialInsertionSort partition partitionEqual Hint ltInt PermIn SortedIn)
variable {q:af T}
abbrev v9(g d e f:Nat)(a b:Bool):bL:=[(0,dL g),(1,Q d),(2,Q e),(3,Q f),(8,bg a),(9,bg b)]
def Km{a}:qy a=2↔a=.decreasing:=by cases a<;>simp[qy]
def Zv{a}:qy a=1↔a=.increasing:=by cases a<;>simp[qy]
structure St where
 cP:Nat
 dw:Nat
 lim:Nat
 hT:Bool
 hU:Bool
 c':Array Int
def Wb(j)(a){x}(d:a.size=j)(g:i<=j)(e:x<=j)(k:j<=4000000){b}(f:b=insertionSort ltInt a x i):Y q 178 [dL j,Q x,Q i] [cG j a] (.S []) [cG j b]:=by grind[Wa]
def VQ(j)(a){x}(e:a.size=j)(d:x<=i)(g:1<=i-x)(k:i<=j)(m:j<=4000000){b}(f:b=heapSort ltInt a x i):Y q 179 [dL j,Q x,Q i] [cG j a] (.S []) [cG j b]:=by grind[VN]
def XH(j)(s:j<=4000000):∀aq(K:Array Int)(x i lim:Nat),i-x<=aq->K.size=j->x<=i->i<=j->lim<=100->Below ltInt x i K ->
  ∀{E aL aN:Int},E=x->aL=i->aN=lim->∀{an:Array Int},an=pdq ltInt K x i lim l l->Y q 116 [dL j,Q E,Q aL,Q aN] [cG j K] (.S []) [cG j an]:=by
 have e:a_ q [(184,qi)]:=.cons r' .nil;have M:=Go.Sort.swo_ltInt;have a0:=Go.Sort.partialInsertionSort_holds (lt:=ltInt);have ah:=Go.Sort.partition_holds ltInt;have a3:=Go.Sort.partitionEqual_holds ltInt;have aU:=Go.Sort.reverseRange_holds (α:=Int);have L:=Go.Sort.pdq_sorts ltInt;intro aq;induction aq using Nat.strongRecOn with
 |_ aq ai=>
 intro K x i lim a8 ae ab aB aD aJ E aL aN aE aF aG an aa;subst aE aF aG;refine Y.ab func116 rfl λaC=>?_;refine cU e a B (g.aB 1 (λo:St=>o.c'.size=j/\o.cP<=o.dw/\o.dw<=j/\o.lim<=100/\o.dw-o.cP<=i-x/\Below ltInt o.cP o.dw o.c'/\pdq ltInt o.c' o.cP o.dw o.lim o.hT o.hU=an) (λo=>v9 j o.cP o.dw o.lim o.hT o.hU) (λo=>[cG j o.c']) (λo=>o.dw-o.cP) ⟨x,i,lim,l,l,K⟩ a D a D a ⟨ae,ab,aB,aD,bC _,aJ,aa.symm⟩ ?_);clear aC aJ ae aa;rintro⟨f,k,p,d,m,d1⟩ ⟨T,ar,r,af,ag,aJ,O⟩;simp only at T ar r af ag aJ O;by_cases R:k-f<=12
 .rw[Go.Sort.pdq_small R]at O;refine bf e [23] a ?_ ?_
  .simp only[U,a7,bz];exact fC
  exact g.aA (Wb j d1 (x:=f) (i:=k) T r w s O.symm) [0] a FS
 by_cases S:p=0
 .rw[Go.Sort.pdq_heap R S]at O;refine bf e [-23,29] a ?_ ?_
  .simp only[U,a7,dq,gl];exact fC
  exact g.aA (VQ j d1 (x:=f) (i:=k) T ar w r s O.symm) [0] a FS
 have ak:f<k:=w;obtain⟨X,a5,f3,f4,f5,f6,f7,f8⟩:=Go.Sort.rd_facts (limit:=p) (wb:=d) (wp:=m) M a0 aU ak N aJ;have a6:=Go.Sort.rd_lim_le (lt:=ltInt) (d:=d1) (a:=f) (b:=k) (limit:=p) (wb:=d) (wp:=m);have aX:=Go.Sort.rd_dec (lt:=ltInt) (d:=d1) (a:=f) (b:=k) (limit:=p) (wb:=d) (wp:=m);have aM:=Go.Sort.rd_not (lt:=ltInt) (d:=d1) (a:=f) (b:=k) (limit:=p) (wb:=d) (wp:=m);have G:=Go.Sort.rd_pi_yes (lt:=ltInt) (d:=d1) (a:=f) (b:=k) (limit:=p) (wb:=d) (wp:=m);have aR:=Go.Sort.rd_pi_no (lt:=ltInt) (d:=d1) (a:=f) (b:=k) (limit:=p) (wb:=d) (wp:=m);have av:=Go.Sort.rd_c (lt:=ltInt) (d:=d1) (a:=f) (b:=k) (limit:=p) (wb:=d) (wp:=m);have Z:d=v->(rd ltInt d1 f k p d m).d1=breakPatterns d1 f k/\(rd ltInt d1 f k p d m).lim=p-1:=by grind[Go.Sort.rd_false]
 have a2:d=l->(rd ltInt d1 f k p d m).d1=d1/\(rd ltInt d1 f k p d m).lim=p:=by grind[Go.Sort.rd_true]
 have aO:=Go.Sort.pdq_done (lt:=ltInt) (d:=d1) (wb:=d) (wp:=m) R S;have geq:=Go.Sort.pdq_eq (lt:=ltInt) (d:=d1) (wb:=d) (wp:=m) R S;have y:=Go.Sort.pdq_left (lt:=ltInt) (d:=d1) (wb:=d) (wp:=m) R S;have aT:=Go.Sort.pdq_right (lt:=ltInt) (d:=d1) (wb:=d) (wp:=m) R S;rw[T]at X f4 f7;rw[O]at aO geq y aT;generalize rd ltInt d1 f k p d m=b at *;apply g.cj (v9 j f k b.lim d m++[(10,Q ((k-f:Nat):Int))]) [cG j b.d1]
 .intro dx;cases d with
  |false=>
   obtain⟨H,J⟩:=Z rfl;refine bf e [-23,-29] a P_ (g.aA (UI j d1 f k T ar r s) [0] a ?_);rw[<-H];refine bf e [910] a sm ?_;exact dx _ _ a (by simp[U.Y,U,J,a',a9];and_intros<;>omega)
  |true=>
   obtain⟨H,J⟩:=a2 rfl;subst H;exact bf e [-23,-29,910] a P_ (dx _ _ a bw)
 refine cU e a B (g.aA (UK j b.d1 f k ar r w s) [0] a ?_);rw[<-av];apply g.cj (v9 j f k b.lim d m++[(10,Q ((k-f:Nat):Int)),(11,Q b.pivot),(12,Q (qy b.hint))]) [cG j b.d2]
 .intro dx;by_cases aP:b.c.2=.decreasing
  .obtain⟨H,J,z⟩:=aX aP;refine bf e [50] a ?_ ?_
   .simp only[U,gl,Km];omega
   refine g.aA (XS j b.d1 f k X w w r s) [0] a ?_;rw[<-H];exact bf e [915] a sm (dx _ _ a (by simp[U.Y,U,J,z,qy,a',a9];omega))
  obtain⟨H,J,z⟩:=aM aP;rw[<-H];refine bf e [-50,915] a ?_ ?_
  .simp only[U,eN,d',Km];omega
  exact dx _ _ a (by simp[U.Y,U,J,z,a',a9])
 by_cases A:b.pi.2=l
 ·
  have aH:(d&&m&&decide (b.hint=.increasing))=l:=N;have V:=G aH;simp[cp,bz]at aH;obtain⟨⟨rfl,rfl⟩,aY⟩:=aH;refine bf e [67] a bE (g.aA (Js j b.d2 f k f4 ak r s) [0] a ?_);rw[<-V,A,<-aO A];exact FS
 rw[p9]at A;apply g.cj (v9 j f k b.lim d m++[(10,Q ((k-f:Nat):Int)),(11,Q b.pivot)]) [cG j b.pi.1]
 .intro dx;cases u:(d&&m&&decide (b.hint=.increasing))with
  |true=>
   have V:=G u;simp[cp,bz]at u;obtain⟨⟨rfl,rfl⟩,aY⟩:=u;refine bf e [67] a bE (g.aA (Js j b.d2 f k f4 ak r s) [0] a ?_);rw[<-V,A];exact FC
  |false=>
   have V:b.d2=b.pi.1:=N;rw[V];cases d with
   |false=>
    exact FC
   |true=>
    cases m with
    |false=>
     exact FC
    |true=>
     refine bf e [-67,917] a ?_ ?_
     .simp only[U,eN,d',Zv];grind
     exact kE
 have W:((f:Int)-1).toNat=f-1:=w;cases u:(decide (f>0)&&!ltInt b.pi.1[f-1]! b.pi.1[b.pivot]!)with
 |true=>
  have au:=u;simp[cp,bz,iT]at au;obtain⟨F,t,I,C,_⟩:=Go.Sort.round_eq (mid:=(partitionEqual ltInt b.pi.1 f k b.pivot).1) (d4:=(partitionEqual ltInt b.pi.1 f k b.pivot).2) M a3 au.1 f6.1 f6.2 N f8 au.2 rfl;have ao:=geq A u ⟨F,t⟩;refine bf e [74,-85] a ?_ ?_
  .simp only[U,cZ,cR,W,au.2,a7,bz,a',a9];exact fC
  refine g.aA (XE j b.pi.1 f k b.pivot f7 ak r w s) [0] a (cU e a B (g.aw ⟨(partitionEqual ltInt b.pi.1 f k b.pivot).1,k,b.lim,d,m,(partitionEqual ltInt b.pi.1 f k b.pivot).2⟩ a D D N ?_));grind
 |false=>
  obtain⟨F,t,I,C,al,aI,aK⟩:=Go.Sort.round_part (mid:=(partition ltInt b.pi.1 f k b.pivot).1) (ap:=(partition ltInt b.pi.1 f k b.pivot).2.1) (d4:=(partition ltInt b.pi.1 f k b.pivot).2.2) M ah f6.1 f6.2 N f8 rfl;apply g.cj (v9 j f k b.lim d m++[(10,Q ((k-f:Nat):Int)),(11,Q b.pivot)]) [cG j b.pi.1]
  .intro dx;by_cases aS:0<f
   .have aZ:ltInt b.pi.1[f-1]! b.pi.1[b.pivot]! = l:=N;refine bf e [74,85,920] a ?_ ?_
    .simp only[U,cZ,cR,W,aZ,a7,bz,a',a9];exact fC
    exact kE
   exact bf e [-74,920] a bw kE
  refine cU e a B (g.aA (XD j b.pi.1 f k b.pivot f7 ak r w s) [0] a ?_);have aw:=y A u ⟨F,t⟩;have ay:=aT A u ⟨F,t⟩;generalize partition ltInt b.pi.1 f k b.pivot=P at *;rw[f7]at I;by_cases aQ:P.1-f<k-P.1
  .have ao:=aw aQ;obtain⟨w1,w2⟩:=L M P.2.2 f P.1 b.lim l l F N C;obtain⟨w3,_⟩:=aI _ w1 w2;refine bf e [113] a so (g.aA (ai (P.1-f) w P.2.2 f P.1 b.lim (bC _) I F w w C a a a a) [0] a (cU e a R7 (g.aw ⟨P.1+1,k,b.lim,decide (P.1-f≥(k-f) / 8),P.2.1,pdq ltInt P.2.2 f P.1 b.lim l l⟩ a bw D ?_ ?_)))
   .exact⟨by simp only;rw[w1.1,I],by grind,r,by grind,by grind,w3,ao.symm⟩
   grind
  have ao:=ay aQ;obtain⟨w1,w2⟩:=L M P.2.2 (P.1+1) k b.lim l l w N al;obtain⟨w3,_⟩:=aK _ w1 w2;refine bf e [-113] a z' (g.aA (ai (k-(P.1+1)) w P.2.2 (P.1+1) k b.lim (bC _) I w r w al (E:=(P.1:Int)+1) w a a a) [0] a (cU e a ?_ (g.aw ⟨f,P.1,b.lim,decide (k-P.1≥(k-f) / 8),P.2.1,pdq ltInt P.2.2 (P.1+1) k b.lim l l⟩ a ?_ ?_ ?_ ?_)))
  .trivial
  .exact bw
  .simp
  .exact⟨by simp only;rw[w1.1,I],by grind,by grind,by grind,by grind,w3,ao.symm⟩
  grind
end
section
open Go.Proofs Go.Conc Go.Conc.Lib
open Go.ConcN (WgLive PayAt Has RW AtR0)
open Go.ConcR (KK WgAt stA smA rd wr mk Payload DC0)
instance afp:Payload:=⟨164⟩
def nh(g:Int):bH:=λargs e=>match args,e with
 |[.n (.Q (.c (.int .i64 d))),f,.n (.Q (.c (.int .i64 i)))],[]=>match jA 2 f with
  |none=>n
  |some (b,a)=>h (x6 (dd d (a1.ad b a) i),[],[a1.bN b a,d=g])
 |_,_=>n
noncomputable def G5:Code:=(Tryz.f109.body).getD .skip
noncomputable def D0:Array an:=match G5 with|.seq (.region _ a _) _=>a|_=>#[]
noncomputable def vX:Array an:=match G5 with|.seq _ (.region _ a _)=>a|_=>#[]
def Tb:Tryz.f109.body=h (.seq (.region 0 D0 v) (.region 1 vX l)):=bG
def gX(e:Option Nat)(a:Op)(b:ak)(d:Array Edge):an:={dst:=e,op:=a,type:=b,pos:= "l12_snap.go:82",after:=d,guard:=n}
def mL:m an:=[gX (h 6) (.load 152 (.tmp 4)) 152 #[],gX (h 7) (.load 3 (.tmp 5)) 3 #[],gX (h 8) (.load 3 (.tmp 1)) 3 #[],gX (h 9) (.load 26 (.tmp 2)) 26 #[],gX (h 10) (.load 3 (.tmp 3)) 3 #[],
 gX (h 11) (.call {callee:=.value (.func 111),args:=#[.tmp 8,.tmp 9,.tmp 10],argTypes:=#[3,26,3]}) 164 #[⟨2,.data⟩,⟨3,.data⟩,⟨4,.data⟩],
 gX (h 12) (.indexAddr 152 (.tmp 6) (.tmp 7)) 0 #[⟨0,.data⟩,⟨1,.data⟩,⟨0,.phase⟩,⟨1,.phase⟩,⟨2,.phase⟩,⟨3,.phase⟩,⟨4,.phase⟩,⟨5,.phase⟩],
 gX n (.store 164 (.tmp 12) (.tmp 11)) 0 #[⟨6,.data⟩,⟨5,.data⟩,⟨5,.chain⟩,⟨0,.phase⟩,⟨1,.phase⟩,⟨2,.phase⟩,⟨3,.phase⟩,⟨4,.phase⟩,⟨5,.phase⟩]]
def aaR:vX=mL.toArray:=bG
def y'(a:mL[e]?=h r):e<8:=(cP.1 a).1
section
variable (f:Int)(Z:m b4)(x:Int)(j E M:Nat)
def LK(a:X):bL:=[(0,cN a),(1,ay (.R [.int .i64 f])),(2,ay (.R [.B v 2 (c Z) (a1.fn Z)])),(3,ay (.R [.int .i64 x])),(4,ay (.R [.val (.slice (h ⟨M,0,n⟩) j j)])),(5,ay (.R [.int .i64 E]))]
def sh:Nat->y
 |0=>cN (.slice (h ⟨M,0,n⟩) j j)
 |1=>Q E
 |2=>Q f
 |3=>a1.B Z
 |4=>Q x
 |5=>x6 (dd f Z x)
 |6=>cN (.pointer (h ⟨M,E*2,n⟩))
 |_=>.any
def rU:Nat->Option Nat
 |6=>h 0|7=>h 1|8=>h 2|9=>h 3|10=>h 4|11=>h 5|12=>h 6|_=>n
def J_(a:X):Nat->bL
 |5=>[(8,Q f),(9,a1.B Z),(10,Q x)]
 |6=>[(6,cN (.slice (h ⟨M,0,n⟩) j j)),(7,Q E)]
 |_=>LK f Z x j E M a
end
def aaH{m:af T}{j E M}(k:E<j):aY m 13 mL (gX (h 12) (.indexAddr 152 (.tmp 6) (.tmp 7)) 0 #[⟨0,.data⟩,⟨1,.data⟩,⟨0,.phase⟩,⟨1,.phase⟩,⟨2,.phase⟩,⟨3,.phase⟩,⟨4,.phase⟩,⟨5,.phase⟩]) [(6,cN (.slice (h ⟨M,0,n⟩) j j)),(7,Q E)] [] (cN (.pointer (h ⟨M,E*2,n⟩))) []:=by
 refine .a3 (λ_ _ _ _=>jf a) (a2.aQ λr e t g=>?_);have d:=g (.tmp 6);have b:=g (.tmp 7);have o:bF [(6,y.n (.Q (.v (.slice (h ⟨M,0,n⟩) j j)))),(7,Q E)] (.tmp 6)=cN (.slice (h ⟨M,0,n⟩) j j):=rfl;have q:bF [(6,y.n (.Q (.v (.slice (h ⟨M,0,n⟩) j j)))),(7,Q E)] (.tmp 7)=Q E:=rfl;rw[o]at d;rw[q]at b;have d:=Rd.bd d;have b:=b8 b;generalize f:e (.tmp 7)=s at b;cases b;have i:=(bc 152 yN a).run_underlying (p:=r.a);refine⟨.pointer (h ⟨M,E*2,n⟩),?_,Rd.val a,?_⟩
 .simp[ab,gX,d,f,Instr.indexAt,asIntOf,i,show yN.desc=.slice 164 from a,(bc 164 rQ a).bb,show rQ.size=2 from a,g6,k]
 simp[ab,gX,d,f,Instr.indexAt,asIntOf,i,show yN.desc=.slice 164 from a,g6,k]
def aeu{w:af T}{f}(A:bK w 111 (nh f))(Z)(x)(j E M)(J:E<j)(d):
  uE w 13 mL.toArray (LK f Z x j E M d) [] (sh f Z x j E M) (J_ f Z x j E M d) rU 7:=by
 have F:a_ w [(111,nh f)]:=a_.cons A a_.nil;have r:∀(i:Nat) p y s m,mL[i]?=h p->iJ eQ [(111,nh f)] [] mL y [] p=h (s,n,m)->U m->aY w 13 mL p y [] s []:=
  λi p y s m _ u e=>eh bc F u e
 refine⟨?_,?_,?_,?_,?_,?_,by decide⟩
 .intro i p e K C _;simp[kg]at e;have g:=y' e
  match i,g with
  |0,_|1,_|2,_|3,_|4,_|5,_|6,_|7,_=>
   cases e;simp[gX]at C;try (rcases C with rfl|rfl|rfl|rfl|rfl|rfl|rfl|rfl|rfl<;>decide)
   try (rcases C with rfl|rfl|rfl<;>decide)
 .intro i p s e z;simp[kg]at e;have g:=y' e
  match i,g with
  |0,_|1,_|2,_|3,_|4,_|5,_|6,_|7,_=>
   cases e;cases z;try exact⟨rfl,by decide⟩
 .intro s i u;unfold rU at u;split at u<;>cases u<;>exact⟨_,rfl,rfl⟩
 .intro i p e q;simp[kg]at e;have g:=y' e
  match i,g with
  |0,_=>cases e;exact r 0 _ _ _ _ a a B
  |1,_=>cases e;exact r 1 _ _ _ _ a a B
  |2,_=>cases e;exact r 2 _ _ _ _ a a B
  |3,_=>cases e;exact r 3 _ _ _ _ a a B
  |4,_=>cases e;exact r 4 _ _ _ _ a a B
  |5,_=>
   cases e;have:=r 5 _ (J_ f Z x j E M d 5) _ _ a a (by simp[a1.J]);rw[a1.l]at this;exact this
  |6,_=>cases e;exact aaH J
  |7,_=>grind
 .intro i p e q o k b aa t;simp[kg]at e;have g:=y' e
  match i,g with
  |0,_|1,_|2,_|3,_|4,_=>
   match o with
   |0|1|2|3|4|5=>exact t
   |o+6=>trivial
  |5,_=>
   cases e
   match o with
   |8=>exact(show bx k b aa (sh f Z x j E M 2)from by simpa[rU,gX,eV,Region.binds]using t)
   |9=>exact(show bx k b aa (sh f Z x j E M 3)from by simpa[rU,gX,eV,Region.binds]using t)
   |10=>exact(show bx k b aa (sh f Z x j E M 4)from by simpa[rU,gX,eV,Region.binds]using t)
   |0|1|2|3|4|5|6|7=>trivial
   |o+11=>trivial
  |6,_=>
   cases e
   match o with
   |6=>exact(show bx k b aa (sh f Z x j E M 0)from by simpa[rU,gX,eV,Region.binds]using t)
   |7=>exact(show bx k b aa (sh f Z x j E M 1)from by simpa[rU,gX,eV,Region.binds]using t)
   |0|1|2|3|4|5=>trivial
   |o+8=>trivial
  |7,_=>grind
 intro p e D I q;simp[kg]at e;cases e
 match D,I with
 |0,_=>exact⟨⟨0,.phase⟩,by simp[gX],rfl,rfl⟩
 |1,_=>exact⟨⟨1,.phase⟩,by simp[gX],rfl,rfl⟩
 |2,_=>exact⟨⟨2,.phase⟩,by simp[gX],rfl,rfl⟩
 |3,_=>exact⟨⟨3,.phase⟩,by simp[gX],rfl,rfl⟩
 |4,_=>exact⟨⟨4,.phase⟩,by simp[gX],rfl,rfl⟩
 |5,_=>exact⟨⟨5,.phase⟩,by simp[gX],rfl,rfl⟩
 |6,_=>exact⟨⟨6,.data⟩,by simp[gX],rfl,rfl⟩
 |7,_=>grind
noncomputable def mr:aG:={(default:aG)with fn:=Tryz.prog.funcs.size,defers:=[],mode:=.panicking [goexitEntry]}
def rE(z:Array X):Deferred:={target:=.fn (.func 109) z,args:=#[]}
def Tc(v0 v1 v2 a v4 b)(p):ao T v (born T (rE #[v0,v1,v2,a,v4,b])) p =
  .go (G ((baseD 109).at ⟨#[v0,v1,v2,a,v4,b,J,J,J,J,J,J,J],[]⟩ [.code (.seq (.region 0 D0 v) (.region 1 vX l))]) [mr]) p #[]:=by
 have f:=Tb;have e:Tryz.f109.ntmps=13:=bG;have d:¬Tryz.f109.name= "runtime.NumGoroutine":=by have:(Tryz.f109.name== "runtime.NumGoroutine")=v:=bG;grind
 simp[born,rE,ao,unwind,callDeferred,invoke,callFunc,Tryz.func109,f,e,d,seen,GStep.after,G,Frame.enter,Frame.at,baseD,mr]
end
section
variable {q:af T}
abbrev nK(a:m b4)(b:Nat):b4:=a.getD b (0,[])
def Y5{j}{Z}{b}(g:e<c Z)(m:fX f (nK Z e) j=h b)(d:∀a,a<e->fX f (nK Z a) j=n):dd f Z j=h b:=by
 unfold dd;induction Z generalizing e with
 |nil=>grind
 |cons o Z i=>
  cases e with
  |zero=>grind
  |succ e=>
   have k:=d 0 w;grind
def Y6{j}{Z}(b:∀a,a<c Z->fX f (nK Z a) j=n):dd f Z j=n:=by unfold dd;grind[List.getElem_of_mem]
theorem k7.fb{P}{I}{k}{ac}(aZ:bZ P ac){fn}{t}{res}{ar}(aX){Z}(b:tH ac fn.results.toList aX I res=h Z)(p:U Z)(q:dy aX k=h ar)(j:l7 ar=l)(f:fi aX=l)(e:∀g,g<t->aX[g]?=h g):
  k7 P fn t res ar .ret I k:=by
 refine⟨.inl a,aX,?_⟩;unfold tH at b;split at b
 .rename_i bh d;split at b
  .rename_i m o;split at b
   .rename_i i;exact⟨m,Z,oV.fb aZ d o,b,p,i,q,j,f,e⟩
   grind
  grind
 grind
def e4{b:m Nat}:∀a,a<0->b[a]?=h a:=λ_ d=>absurd d (iU _)
def Vq(o:bK q 270 lN)(f)(Z)(j)(i:cm f=l):Y q 111 [Q f,a1.B Z,Q j] [] (x6 (dd f Z j)) []:=by
 refine Y.bG func111 rfl rfl rfl λp=>?_;have u:=p.B 1 a;have e:a_ q [(168,jS c7 (jI bI) c7 (λf t j=>i1 (fX f t j)) λf _ _=>[cm f=l])]:=.cons (ad2 o) .nil;refine b9 e a B (g.aB 1 (λb=>b<=c Z/\∀k,k<b->fX f (nK Z k) j=n) (λb:Nat=>[(0,Q f),(2,Q j),(6,aH 0 0),(11,a1.B Z),(12,Q (c Z)),(13,Q b)]) (λ_=>[.cells 164 [.c (.T []),.c (.bool v)]]) (λb=>c Z-b) 0 a D a D a ⟨by omega,by omega⟩ ?_);rintro b ⟨s,m⟩;by_cases r:b<c Z
 .cases d:fX f (nK Z b) j with
  |some y=>
   refine a8 e [14,24] a ?_ (g.freeze 6 0 a a a (g.aS ?_))
   .simp only[U,cR,bI.l];refine⟨?_,bI.J _,i,by omega,by omega,fA w⟩;grind
   refine k7.fb bc [] a ?_ a a a e4;rw[Y5 r d m];simp only[cR,bI.l];simp_all
  |none=>
   refine a8 e [14,-24] a ?_ (g.aw (b+1) a ?_ ?_ ?_ ?_)
   .simp only[U,cR,bI.l];refine⟨by exact bE,?_,bI.J _,i,by omega,by omega,fA w⟩;grind
   .simp
   .simp
   .grind
   grind
 refine a8 e [-14] a bM (g.az ?_);refine b9 e a B (g.freeze 6 0 a a a ?_);refine g.cv bc [] a ?_ a a a e4;rw[Y6 λk x=>m k w];simp
def adx(m:bK q 270 lN)(d:cm f=l):bK q 111 (nh f):=by
 intro args s i k g b e;unfold nh at b;split at b
 .rename_i k1 r j;split at b
  .cases b
  rename_i u t o;cases b;obtain⟨p,rfl⟩:=e;exact(Vq m _ _ j d).args λw z=>b5.imp (λ_ a=>a) (b5.imp (λ_ a=>a1.cu o p a) (b5.imp (λ_ a=>a) (λ_ a=>a))) z
 grind
def sT:bH:=λargs b=>match args,b with
 |[.n (.Q (.c (.T [46]))),.n (.Q (.c (.int .i64 a)))],[]=>h (b2 (aV a.toNat 46),[],[0<=a/\a<=3])
 |_,_=>n
def ada:bK q 302 (di c7 (λa=>Q (fh a.toNat)) λa=>[0<=a/\a<=4000000]):=.a9 λa d=>by
 have e:0<=a/\a<=4000000:=d;obtain⟨b,rfl⟩:∃b:Nat,a=b:=⟨a.toNat,by omega⟩
 exact UP (q:=q) b w
def Ty(a:1<=j)(b:j<=8):j<=fh j/\fh j<=j+3:=Gb
def XA(f:bK q 301 sT)(d):Y q 270 [b2 d] [] (b2 (fN d)) []:=by
 refine Y.ab func270 rfl λj=>?_;have e:a_ q [(300,di eG (λi=>bg (cD i)) λ_=>[]),(302,di c7 (λb=>Q (fh b.toNat)) λb=>[0<=b/\b<=4000000]),(301,sT)]:=.cons t300 (.cons ada (.cons f .nil));by_cases x:cD d=l
 .have t:=x;simp only[cD,cp,bz]at t;have k:=Ty t.1.1 t.1.2;refine a8 e [-5] a ?_ (g.ao a ?_)
  .simp[x,a7];omega
  simp[fN,x]
 refine a8 e [5] a nU (g.ao a ?_);simp[fN,x]
def adX(a:bK q 301 sT):bK q 270 lN:=.a9 λb _=>XA a b
def XQ:Y q 301 [b2 [46],Q 0] [] (b2 []) []:=by refine Y.ab func301 rfl λb=>?_;refine a3 [12] a ?_ (g.ao a);simp
def XR:Y q 301 [b2 [46],Q 1] [] (b2 [46]) []:=by refine Y.ab func301 rfl λb=>?_;refine a3 [-12,14] a ?_ (g.ao a);simp
def ad8(f:Y q 301 [b2 [46],Q 2] [] (b2 [46,46]) [])(j:Y q 301 [b2 [46],Q 3] [] (b2 [46,46,46]) []):bK q 301 sT:=by
 intro args i d e b a g;unfold sT at a;split at a
 .rename_i t;cases a;have:t=0∨t=1∨t=2∨t=3:=lO;rcases this with rfl|rfl|rfl|rfl
  .exact XQ
  .exact XR
  .exact f
  grind
 grind
def Vo(x i):Y q 114 [bS.B x,bS.B i] [] (bg (x==i)) []:=by
 refine Y.ab func114 rfl λk=>?_;have p:=k.B 0 a;by_cases f:c x=c i
 .refine a3 [-10] a (by simp[f]) (g.b7 (λb=>b<=c x/\∀d,d<b->x.getD d []=i.getD d []) (λb:Nat=>[(0,bS.B x),(1,bS.B i),(12,Q (c x)),(13,Q b)]) (λ_=>[]) (λb=>c x-b) 0 a D a B ⟨by omega,by omega⟩ ?_);rintro b ⟨j,m⟩;by_cases r:b<c x
  .by_cases e:x.getD b []=i.getD b []
   .refine a3 [14,-24] a ?_ (g.b4 (b+1) a ?_ a B ?_ ?_)
    .simp only[U,cR];have o:(x.getD b bS.E==i.getD b bS.E)=l:=gl.2 e;exact⟨by exact bE,by grind,by omega,by omega,by omega,by omega,fA w⟩
    .simp
    .grind
    omega
   refine a3 [14,24] a ?_ (g.bR (bW.zero a ?_))
   .simp only[U,cR];grind
   exact Fw
  refine a3 [-14] a bM (g.bs a a ?_);refine aQ a B (g.ao a ?_);have:x=i:=ru f λd e s=>by grind
  simp[this]
 refine a3 [10] a bM (g.ao a ?_);exact Fw
end
def v_{p q:ae}(s:r.op=.binOp op o p q ty){B}(R:P.underlying o=h (.pointer B)){i t}(E:∀b f g,bb k b->bx k b f (η p)->bx k b g (η q)->∃y z,f=.pointer y/\g=.pointer z/\(y==z)=i/\(eqGuard op o p q f g).run P b.a=.ok () b.a/\(∀a,(eqGuard op o p q f g).events P b.a a=a) /\
   (Op.equal o f g).run P b.a=.ok i b.a/\∀a,(Op.equal o f g).events P b.a a=a)(x:ih op i=h t):a2 P r η k (ay (.bool t)) k:=by
 refine .aQ λb I F A=>?_;obtain⟨y,z,d,e,J,m,C,j,D⟩:=E b _ _ F (A p) (A q);rw[d,e]at m j;have w:=C #[];have u:=D #[];rw[d,e]at w u;cases op<;>simp only[ih,reduceCtorEq,e_]at x
 .subst x;exact⟨.bool i,by simp[ab,s,d,e,m,binOp,j],Rd.bool,by simp[ab,s,d,e,m,w,binOp,j,u]⟩
 subst x;exact⟨.bool (!i),by simp[ab,s,d,e,m,binOp,j],Rd.bool,by simp[ab,s,d,e,m,w,binOp,j,u]⟩
def r1{g:ae}(q:r.op=.binOp op o g (.const (.pointer n)) ty){j}(C:P.underlying o=h (.pointer j)){t}(x:η g=ay .bp)(u:η (.const (.pointer n))=ay .bp)(w:ih op l=h t):a2 P r η k (ay (.bool t)) k:=by
 refine v_ q C (i:=l) ?_ w;intro b y z _ f e;rw[x]at f;rw[u]at e;replace f:=b8 f;replace e:=b8 e;cases f;cases e;have s:(Op.equal o (.pointer n) (.pointer n)).run P b.a=.ok l b.a:=Fy;have m:∀d,(Op.equal o (.pointer n) (.pointer n)).events P b.a d=d:=λd=>by show(aL (9999+1) o _ _).events P b.a d=d;unfold aL;simp[underlying,C]
 exact⟨n,n,a,a,a,by cases op<;>simp[eqGuard],λd=>by cases op<;>simp[eqGuard],s,m⟩
def abh{m:ae}(s:r.op=.binOp op o m (.const (.pointer n)) ty){q}(g:P.underlying o=h (.pointer q)){t}(y:η m=aH d off)(w:η (.const (.pointer n))=ay .bp)(x:ih op v=h t):a2 P r η k (ay (.bool t)) k:=by
 refine v_ s g (i:=v) ?_ x;intro e z A _ j f;rw[y]at j;rw[w]at f;replace f:=b8 f;cases f;obtain⟨_,L,i,_,_,rfl⟩:=(j:cC k e z (.ptr d off));have u:(Op.equal o (.pointer (h ⟨i,off,n⟩)) (.pointer n)).run P e.a=.ok v e.a:=by show(aL (9999+1) o _ _).run P e.a=_;unfold aL;simp[underlying,g]
 have p:∀b,(Op.equal o (.pointer (h ⟨i,off,n⟩)) (.pointer n)).events P e.a b=b:=λb=>by show(aL (9999+1) o _ _).events P e.a b=b;unfold aL;simp[underlying,g]
 exact⟨_,n,a,a,a,by cases op<;>simp[eqGuard],λb=>by cases op<;>simp[eqGuard],u,p⟩
def abi{z A:ae}(E:r.op=.binOp op o z A ty){g}(m:P.underlying o=h (.pointer g))(x:j≠0)(w:∀f,(sizeOf g).run P f=.ok j f)(D:∀f b,(sizeOf g).events P f b=b){t}(M:η z=aH d off)(N:η A=aH d off)(B:ih op l=h t):a2 P r η k (ay (.bool t)) k:=by
 refine v_ E m (i:=l) ?_ B;intro e J K _ u s;rw[M]at u;rw[N]at s;obtain⟨_,L,i,R,F,rfl⟩:=(u:cC k e J (.ptr d off));obtain⟨_,y,O,q,p,rfl⟩:=(s:cC k e K (.ptr d off));rw[R]at q;cases q;rw[F]at p;cases p;have I:(Op.equal o (.pointer (h ⟨i,off,n⟩)) (.pointer (h ⟨i,off,n⟩))).run P e.a=.ok l e.a:=by show(aL (9999+1) o _ _).run P e.a=_;unfold aL;simp[underlying,m,w,x,sameAddr]
 have C:∀b,(Op.equal o (.pointer (h ⟨i,off,n⟩)) (.pointer (h ⟨i,off,n⟩))).events P e.a b=b:=λb=>by show(aL (9999+1) o _ _).events P e.a b=b;unfold aL;simp[underlying,m,w,D,x,sameAddr]
 exact⟨_,_,a,a,by simp,by cases op<;>simp[eqGuard],λb=>by cases op<;>simp[eqGuard],I,C⟩
def tI{j:ae}(s:r.op=.binOp op o j (.const (.pointer n)) ty){m}(C:P.underlying o=h (.pointer m)){t}{ah}(y:η j=ay (.R ah))(w:η (.const (.pointer n))=ay .bp)(x:ih op v=h t):a2 P r η k (ay (.bool t)) k:=by
 refine v_ s C (i:=v) ?_ x;intro b z A _ g f;rw[y]at g;rw[w]at f;replace g:=b8 g;replace f:=b8 f;cases f;cases g with|R i e=>
 have u:(Op.equal o (.pointer (h ⟨i,e,n⟩)) (.pointer n)).run P b.a=.ok v b.a:=Fy;have q:∀d,(Op.equal o (.pointer (h ⟨i,e,n⟩)) (.pointer n)).events P b.a d=d:=λd=>by show(aL (9999+1) o _ _).events P b.a d=d;unfold aL;simp[underlying,C]
 exact⟨_,n,a,a,a,by cases op<;>simp[eqGuard],λd=>by cases op<;>simp[eqGuard],u,q⟩
section
variable {q:af T}
abbrev sQ(e:Bool)(b:X)(a:Option (Nat×Nat))(d:bD)(f:Nat):aq:=.K (eK 226 5 e b a d f)
def I4(v1)(d:dT v1=l)(bP)(ag)(b):Y q 236 [aH 0 0] [sQ v v1 bP ag b] (.S []) [sQ l v1 bP ag b]:=by refine Y.ab func236 rfl λf=>?_;refine aQ a B ?_;refine g.aK (a2.il bc a a a a a) a a ?_;refine g.aK (r1 a underlying224 a a a) a a ?_;refine aQ a B ?_;refine g.aK (a2.iq a a underlying224 underlying209 (l1 type226) (by simp[Tryz.t226]) a) a a ?_;refine g.aK (a2.jy func279 bG bG bG bG rfl rfl rfl) rfl rfl ?_;refine g.aK (a2.ik a a underlying209 underlying224 (l1 type226) (by simp[Tryz.t226]) bG a) a a ?_;refine aQ a B ?_;refine g.aK (a2.im bc a a a a a a d) a a ?_;refine aQ a B ?_;exact bW.dh [0] a B a a a (λi e=>by grind)
def I5(v1)(bP)(ag)(b):Y q 236 [aH 0 0] [sQ l v1 bP ag b] (.S []) [sQ l v1 bP ag b]:=by refine Y.ab func236 rfl λi=>?_;refine aQ a B ?_;refine g.aK (a2.gH bc a a a a a) a a ?_;refine g.aK (abh a underlying224 a a a) a a ?_;refine aQ a B ?_;refine g.aK (a2.gH bc a a a a a) a a ?_;refine aQ a B ?_;refine g.aK (abi a underlying224 (j:=2) ca (λe=>by simp) (λe d=>by simp) a a a) a a ?_;refine aQ a B ?_;exact bW.dh [0] a B a a a (λk f=>by grind)
abbrev ea(d:Bool)(a:Option (Nat×Nat))(b:bD)(e:Nat):aq:=sQ d (jQ a (c b)) a b e
def ib:∀a,a<1->([0]:m Nat)[a]?=h a:=λa b=>by grind
def Cy(b)(bP)(ag)(i)(e:c ag<=9223372036854775807)(d:bP=n->ag=[]):Y q 311 [aH 0 0] [ea b bP ag i] (Q (c ag)) [ea b bP ag i]:=by
 refine Y.ab func311 rfl λf=>?_;refine aQ a B (g.aK (a2.eT bc a a a a a) a a ?_);cases bP with
 |none=>
  have:=d a;subst this;refine g.aK (a2.fI a a underlying22 a D) a a ?_;exact Qm
 |some j=>
  refine g.aK (a2.fI a a underlying22 a e) a a ?_;exact Qm
def CP(C cap)(ag b)(e)(k:c b<=9223372036854775807)(f:c ag+c b<=cap):Y q 175 [aH 0 0,b2 b] [ea l (h (C,cap)) ag e] (.S [.Q (.c (.int .i64 (c b))),.Q (.c .bD)]) [ea l (h (C,cap)) (ag++b) e]:=by refine Y.ab func175 rfl λj=>?_;refine aQ a B ?_;refine g.aA (I5 (jQ (h (C,cap)) (c ag)) (h (C,cap)) ag e) [0] a ?_;refine aQ a B ?_;refine g.aK (a2.eT bc a a a a a) a a ?_;refine aQ a B ?_;refine g.aK (a2.ig (d:=0) (C:=C) (cap:=cap) (ag:=ag) a underlying22 underlying9 (l1 type5) (by simp[Tryz.t5]) a a a a f) a a ?_;refine aQ a B ?_;refine g.aK (a2.f' bc a a a a a a a) a a ?_;have i:ea l (h (C,cap)) (ag++b) e=.K (eK 226 5 l (jQ (h (C,cap)) (c ag+c b)) (h (C,cap)) (ag++b) e):=N;rw[i];refine aQ a B (g.aI [0] a ?_ ib);simp
theorem YT:Y q 175 [aH 0 0,b2 []] [ea l n [] 0] (.S [.Q (.c (.int .i64 0)),.Q (.c .bD)]) [ea l n [] 0]:=by refine Y.ab func175 rfl λb=>?_;refine aQ a B ?_;refine g.aA (I5 (jQ n 0) n [] 0) [0] a ?_;refine aQ a B ?_;refine g.aK (a2.eT bc a a a a a) a a ?_;refine aQ a B ?_;refine g.aK (a2.ij a underlying22 underlying9 (l1 type5) a a) a a ?_;refine aQ a B ?_;refine g.aK (a2.f' bc a a a a a a a) a a ?_;refine aQ a B (g.aI [0] a ?_ ib);simp
abbrev iG:y:=aH 0 0
abbrev oh:y:=aH 0 1
def CN(C cap)(ag)(t)(x:c ag<=9223372036854775807)(e:cap≠0):Y q 176 [aH 0 0] [ea l (h (C,cap)) ag t] (b2 ag) [ea l (h (C,cap)) ag (c ag)]:=by
 refine Y.ab func176 rfl λf=>?_;refine a3 [901] a B ?_;refine g.dd b7 10 (λb=>ax b 9) (λb=>[iG,iG,oh,cN (.slice (h ⟨C,0,n⟩) (c ag) cap),cN (.pointer (h ⟨C,0,n⟩)),iG,iG,oh,cN (.slice (h ⟨C,0,n⟩) (c ag) cap),Q (c ag)].getD b .any) (λ(_:Unit) _=>b2 ag)
  (λ_=>[ea l (h (C,cap)) ag (c ag)]) a a a a a a ?_ ?_ ?_ ?_
 .refine⟨.w,.w,.w,iN,?_,.w,.w,.w,?_,?_,B,B,B⟩
  .exact .aK (a2.h3 a a e) a
  .exact iN
  exact P'
 .intro _;refine⟨.w,.w,.w,iN,?_,.w,.w,.w,?_,?_,B,.w,B⟩
  .exact .aK (a2.h3 a a e) a
  .exact iN
  exact P'
 .exact .dc (.aK (S6 (d:=0) a underlying289 bG a a a) a)
 exact O4
def Gx{b d:ae}(g:r.op=.binOp .add o b d ty){i}(f:η b=Q 0)(e:η d=Q i)(j:a7 .i64 i):a2 T r η k (Q i) k:=by have:=a2.binOp (P:=T) (k:=k) g f e (t:=.int .i64 (0+i)) (cq:=[a7 .i64 (0+i)]) a bw;grind
def bl.gJ{e}{fn}{args}{a:ι->m aq}(p:Tryz.prog.funcs[e]?=h fn)(o:(fn.name== "runtime.NumGoroutine")=v)(d:fn.body=h t)(j:ax args.length fn.ntmps=l)(s:g q fn.ntmps (λr i b=>∃f,bW fn k.length (res f) (a f) r i b) [.code t] .normal (h_ 0 args) k):bl q e args k res a:=
 bl.intro p o d (fz j) (g.aO s)
def Yq:Y q 176 [aH 0 0] [ea l n [] 0] (b2 []) [ea l n [] 0]:=by
 refine Y.ab func176 rfl λe=>?_;refine a3 [901] a B ?_;refine g.dd b7 10 (λb=>ax b 9) (λb=>[iG,iG,oh,cN (.slice n 0 0),cN (.pointer n),iG,iG,oh,cN (.slice n 0 0),Q (0:Nat)].getD b .any) (λ(_:Unit) _=>b2 [])
  (λ_=>[ea l n [] 0]) a a a a a a ?_ ?_ ?_ ?_
 .refine⟨.w,.w,.w,iN,?_,.w,.w,.w,?_,?_,B,B,B⟩
  .exact .aK (a2.h2 a a) a
  .exact iN
  exact q1
 .intro _;refine⟨.w,.w,.w,iN,?_,.w,.w,.w,?_,?_,B,.w,B⟩
  .exact .aK (a2.h2 a a) a
  .exact iN
  exact q1
 .exact .dc (.aK (a2.jO a a a) a)
 exact O4
def Vy(j)(m:0<j)(o:j<=140737488355328):bl (ι:={e:Nat×Nat // j<=e.2}) q 237 [aH 0 0,Q j] [ea l n [] 0] (λ_=>.S []) (λu=>[ea l (h u.1) [] 0]):=by
 refine bl.gJ func237 rfl rfl rfl ?_;refine a3 [900] a B ?_;have i:a7 .i64 (j:Int):=bE;have r:y:=cN (.slice n 0 0);refine g.dd (ι:={e:Nat×Nat // j<=e.2}) b7 8 (λb=>ax b 7||(ax 9 b&&ax b 13)) (λb=>[iG,iG,oh,cN (.slice n 0 0),Q (0:Nat),Q 0,Q j,Q j,.any,iG,iG,oh,cN (.slice n 0 0),Q (0:Nat)].getD b .any)
  (λu b=>[cN (jQ (h u.1) j),.any,.any,.any,.any,.any,cN (.slice (h ⟨u.1.1,0,n⟩) 0 u.1.2),cN (.slice (h ⟨u.1.1,0,n⟩) 0 u.1.2)].getD (b-8) .any)
  (λu=>[sQ l (.slice n 0 0) (h u.1) [] 0]) a a a a a a ?_ ?_ ?_ ?_
 .refine⟨.w,.w,.w,iN,PA,QI,.w,?_,B,.w,.w,.w,?_,?_,B,B,B⟩
  .exact .aK (Gx a a a i) a
  .exact iN
  exact q1
 .intro u;have k:u.1.2≠0:=N;refine⟨.w,.w,.w,iN,PA,QI,.w,?_,B,.w,.w,.w,?_,?_,?_,.w,B⟩
  .exact .aK (Gx a a a i) a
  .exact iN
  .exact q1
  exact .aK (a2.iY (f:=0) a underlying22 (l1 type5) a a (g5 _) u.2 k (g6 _ _ _)) a
 .exact .a3 a (S5 (d:=0) (Z:=#[3]) underlying22 func280 bG bG bG bG rfl rfl rfl m o rfl)
 intro u;refine aQ a B (g.aK (a2.eT (d:=0) bc a a a a a) a a ?_);refine g.aK (a2.iF a underlying22 (l1 type5) a a) a a ?_;refine aQ a B (g.aK (a2.f' (d:=0) bc a a a a a a a) a a ?_);exact OQ
def IT(j)(e:0<j)(f:j<=140737488355328):bl (ι:={i:Nat×Nat // j<=i.2}) q 174 [aH 0 0,Q j] [ea v n [] 0] (λ_=>.S []) (λu=>[ea l (h u.1) [] 0]):=by
 refine bl.gJ func174 rfl rfl rfl ?_;refine aQ a B (g.aA (I4 (jQ n 0) a n [] 0) [0] a (a3 [-7,903] a D ?_));refine g.dd b7 4 (λb=>ax b 3||(ax 5 b&&ax b 9)||ad b 11) (λb=>[iG,iG,oh,cN (.slice n 0 0),.any,iG,iG,oh,cN (.slice n 0 0),Q (0:Nat),.any,Q j].getD b .any)
  (λ(_:Unit) b=>[Q (0:Nat),.any,.any,.any,.any,.any,Q (0-0),.any,bg l].getD (b-4) .any)
  (λ_=>[ea l n [] 0]) a a a a a a ?_ ?_ ?_ ?_
 .refine⟨.w,.w,.w,iN,B,.w,.w,.w,iN,?_,B,.w,B,B⟩;exact q1
 .intro _;refine⟨.w,.w,.w,iN,B,.w,.w,.w,iN,q1,ON,.w,?_,B⟩;exact .eval (bh:=[21]) bc a_.nil (cq:=[decide ((0:Int)-0<(j:Int))=l]) a bM
 .exact PZ
 intro _;refine aQ a B (g.a1 (Vy j e f) [0] a bk λu=>?_);exact OQ
def Un:Y q 174 [aH 0 0,Q (0:Nat)] [ea v n [] 0] (.S []) [ea l n [] 0]:=by
 refine Y.ab func174 rfl λe=>?_;refine aQ a B (g.aA (I4 (jQ n 0) a n [] 0) [0] a (a3 [-7,903] a D ?_));refine g.dd b7 4 (λb=>ax b 3||(ax 5 b&&ax b 9)||ad b 11) (λb=>[iG,iG,oh,cN (.slice n 0 0),.any,iG,iG,oh,cN (.slice n 0 0),Q (0:Nat),.any,Q (0:Nat)].getD b .any)
  (λ(_:Unit) b=>[Q (0:Nat),.any,.any,.any,.any,.any,Q (0-0),.any,bg v].getD (b-4) .any)
  (λ_=>[ea l n [] 0]) a a a a a a ?_ ?_ ?_ ?_
 .refine⟨.w,.w,.w,iN,B,.w,.w,.w,iN,?_,B,.w,B,B⟩;exact q1
 .intro _;refine⟨.w,.w,.w,iN,B,.w,.w,.w,iN,q1,ON,.w,?_,B⟩;exact .eval (bh:=[-21]) bc a_.nil (cq:=[decide ((0:Int)-0<((0:Nat):Int))=v]) a D
 .exact PZ
 intro _;exact aQ a B (bW.dh [0] a B a a a ib)
def GD(b:r.op=.alloc 226):a2 T r η k (aH (c k) 0) (k++[ea v n [] 0]):=
 a2.ie b (λd=>by simp) (λd a=>by simp)
def aau{g j m:ae}{b i t}(A)(p:r.op=.call {callee:=.builtin .min,args:=#[g,j,m],argTypes:=dt})(z:η g=Q b)(x:η j=Q i)(B:η m=Q t)(I:min (min b i) t=A)(y:a7 .i64 A):a2 T r η k (Q A) k:=by refine .aQ λF a J o=>?_;have e:=o g;have d:=o j;have f:=o m;rw[z]at e;rw[x]at d;rw[B]at f;replace e:=b8 e;replace d:=b8 d;replace f:=b8 f;generalize q:a g=C at e;generalize u:a j=D at d;generalize s:a m=E at f;cases e;cases d;cases f;have w:(if t<(if i<b then i else b)then t else if i<b then i else b)=A:=N;exact⟨.int .i64 A,by simp[ab,p,resolve,invoke,builtin,q,u,s,Builtin.min_,Builtin.min2,w],.int y,by simp[ab,p,resolve,invoke,builtin,q,u,s,Builtin.min_,Builtin.min2]⟩
def Jz(e:Nat)(z:2<=e)(A:e<=3):Y q 301 [b2 [46],Q e] [] (b2 (aV e 46)) []:=by
 refine Y.ab func301 rfl λy=>?_;have x:a_ q [(310,BB)]:=.cons adc .nil;refine bf x [-13,-15,-18,-30,-33,-40,-44,-45,-46,-47,-48,-96,935] a ?_ ?_
 .have o:(e:Int)=2∨(e:Int)=3:=w;have i:(kM [46] 0).toNat=46:=rfl;simp[a7,i,o];omega
 refine g.region ?_;refine g.aK (GD a) a a ?_;refine cU x a B (g.a1 (IT e w w) [0] a bk λs=>?_);obtain⟨⟨f,b⟩,j⟩:=s;have j:e<=b:=j;refine cU x a B (g.aA (CP f b [] [46] 0 D bM) [0] a (cU x a B (g.b7 (λd=>1<=d/\d<=e) (λd:Nat=>[(0,b2 [46]),(7,Q e),(8,Q e),(9,aH 0 0)]) (λd=>[ea l (h (f,b)) (aV d 46) (d-1)]) (λd=>e-d) 1 a D a D ⟨by omega,by omega⟩ ?_)));rintro d ⟨u,t⟩;refine cU x a B (g.aA (Cy l (h (f,b)) (aV d 46) (d-1) bM D) [0] a ?_);by_cases p:d<e
 .refine bf x [113] a bM (g.aA (Cy l (h (f,b)) (aV d 46) (d-1) bM D) [0] a (cU x a lO (g.aA (Cy l (h (f,b)) (aV d 46) (d-1) bM D) [0] a (cU x a B (g.aK (aau 1 a a a a bM lF) a a ?_)))));refine cU x a B (g.aA (CN f b (aV d 46) (d-1) bM w) [0] a ?_);have m:mv (aV d (46:UInt8)) n (h 1)=[46]:=by
   obtain⟨k,rfl⟩:∃k,d=k+1:=⟨d-1,by omega⟩
   exact bE
  refine cU x a bM ?_;rw[m];refine g.aA (CP f b (aV d 46) [46] (c (aV d 46)) D bM) [0] a ?_;have r:aV d (46:UInt8)++[46]=aV (d+1) 46:=by rw[List.replicate_succ']
  rw[r];refine cU x a B (g.b4 (d+1) a D a ?_ ⟨by omega,by omega⟩ w);simp
 refine bf x [-113] a bM (g.bs a a ?_);have i:d=e:=w;subst i;exact cU x a B (g.aA (CN f b (aV d 46) (d-1) bM w) [0] a Ad)
def ad7:bK q 301 sT:=ad8 (Jz 2 w w) (Jz 3 w w)
def zN:bK q 270 lN:=adX ad7
def w5(b:Option (Nat×Nat))(d:Nat):Prop:=match b with|none=>d=0|some (_,a)=>d<=a/\0<a
def _root_.Go.AM.bl.hH{e:Type}{r:af P}{t}{args}{d:ι->m aq}{s:e->y}{a:e->m aq}(u:bl r t args k res d)(i:ι->e)(F:∀b,s (i b)=res b)(E:∀b,a (i b)=d b):bl r t args k s a:=
 ⟨u.1,λC z j o w f p=>u.2 C z j o w f λb g D q k1 x A B=>p (i b) g D q k1 N N N⟩
def Uo(j)(e:j<=140737488355328):bl (ι:={b:Option (Nat×Nat) // w5 b j}) q 174 [aH 0 0,Q j] [ea v n [] 0] (λ_=>.S []) (λg=>[ea l g.1 [] 0]):=by
 by_cases f:j=0
 .subst f;exact Un.tocE.hH (λ_=>⟨n,a⟩) bk bk
 exact(IT j w e).hH (λd=>⟨h d.1,d.2,by grind⟩) bk bk
def CQ(bP)(ag b)(e:c b<=9223372036854775807)(a:w5 bP (c ag+c b)):Y q 175 [aH 0 0,b2 b] [ea l bP ag 0] (.S [.Q (.c (.int .i64 (c b))),.Q (.c .bD)]) [ea l bP (ag++b) 0]:=by
 cases bP with
 |none=>
  have a:c ag+c b=0:=a;grind[YT]
 |some d=>exact CP d.1 d.2 ag b 0 e a.1
def acl(a:Option (Nat×Nat))(b:bD):Nat:=match a with|none=>0|some _=>c b
def Yr(bP)(ag)(d:c ag<=9223372036854775807)(a:w5 bP (c ag)):Y q 176 [aH 0 0] [ea l bP ag 0] (b2 ag) [ea l bP ag (acl bP ag)]:=by
 cases bP with
 |none=>
  have a:c ag=0:=a;have e:ag=[]:=jJ a;subst e;exact Yq
 |some b=>exact CN b.1 b.2 ag 0 d (by have:=a.2;omega)
def lB(b:m bD)(a:Nat):bD:=(b.take a).flatten
def ww{d}(a:e<c d):lB d (e+1)=lB d e++d.getD e []:=by unfold lB;grind[List.take_add_one]
def NC{d}:lB d (c d)=d.flatten:=by simp[lB]
def wv{d}(e):c (lB d e)<=c d.flatten:=by have a:d.flatten=(d.take e).flatten++(d.drop e).flatten:=F6;rw[a,c9];simp only[lB];omega
def Wk(d)(y:c d.flatten<=140737488355328):Y q 113 [bS.B d,b2 []] [] (b2 d.flatten) []:=by
 refine Y.ab func113 rfl λx=>?_;have E:=x.B 0 a;by_cases A:d=[]
 .subst A;refine a3 [14] a ?_ (g.ao a);simp
 by_cases z:c d=1
 .obtain⟨M,rfl⟩:=List.length_eq_one_iff.1 z;refine a3 [-14,16] a D (g.ao a ?_);simp
 have J:2<=c d:=by have:c d≠0:=N;omega
 refine a3 [-14,-16,-22] a bE (g.b7 (λb=>b<=c d) (λb:Nat=>[(0,bS.B d),(1,b2 []),(5,Q (c (lB d b))),(39,bS.B d),(40,Q (c d)),(41,Q b)]) (λ_=>[]) (λb=>c d-b) 0 a ?_ a B w ?_)
 .simp[lB]
 intro b m;have K:=wv (d:=d) b;by_cases j:b<c d
 .have t:=wv (d:=d) (b+1);rw[ww j,c9]at t;refine a3 [42,-49] a ?_ (g.b4 (b+1) a ?_ a B w w)
  .have i:(d.getD (b:Int).toNat bS.E)=d.getD b []:=rfl;simp only[U,a7,i];grind
  have i:(d.getD (b:Int).toNat bS.E)=d.getD b []:=rfl;rw[ww j];simp_all
 have i:b=c d:=w;subst i;refine a3 [-42,918] a D (g.bs a a ?_);refine a3 [918] a B (g.region ?_);refine g.aK (GD a) a a ?_;refine cB a B ?_;rw[NC];refine g.a1 (Uo (c d.flatten) y) [0] a bk λu=>?_;obtain⟨f,k⟩:=u;refine cB a bw ?_;have e:∀o,o<=c d.flatten->w5 f o:=λo C=>by
  cases f with
  |none=>
   have:c d.flatten=0:=k;grind
  |some F=>exact⟨e3 C k.1,k.2⟩
 have p:lB d 1=d.getD 0 []:=by rw[ww w];simp[lB]
 have s:=wv (d:=d) 1;rw[p]at s;refine g.aA (CQ f [] (d.getD 0 []) w (e _ N)) [0] a (cB a bw (g.b7 (λb=>b+1<=c d) (λb:Nat=>[(1,b2 []),(8,aH 0 0),(63,ay (.B v 1 (c d-1) (fH 1 (bS.fn d)))),(64,Q (c d-1:Nat)),(65,Q b)]) (λb=>[ea l f (lB d (b+1)) 0]) (λb=>c d-b) 0 a wS a bE w ?_));intro b m;have I:=wv (d:=d) (b+1);by_cases j:b+1<c d
 .have r:=wv (d:=d) (b+2);rw[ww j,c9]at r;refine a3 [66] a bw (g.aA (CQ f (lB d (b+1)) [] D (e _ N)) [0] a ?_);rw[g3];refine aQ a B (g.aA (CQ f (lB d (b+1)) (d.getD (1+b) []) N (e _ N)) [0] a (aQ a bE (g.b4 (b+1) a D a ?_ w w)));refine U.Y.2 ⟨?_,B⟩;rw[ww j,Nat.add_comm 1 b];simp
 have i:b+1=c d:=w;refine a3 [-66] a bw (g.bs a a ?_);rw[i,NC];exact aQ a B (g.aA (Yr f d.flatten w (e _ w)) [0] a sl)
def tn{b}(d:d6 b=l)(e)(f:e<c b):97<=dr b e/\dr b e<=122:=by have a:=aW.1 d (b.getD e 0) N;simp only[jx,cp,bz]at a;unfold dr;omega
def UH(b)(e)(d:d6 b=l)(p:3<=e)(f:e<=c b)(m:c b<=4000000):Y q 281 [b2 b,Q e] [] (bg (pM b e)) []:=by
 refine Y.ab func281 rfl λj=>?_;have k:=tn d (e-1) w;have o:=tn d (e-2) w;have r:=tn d (e-3) w;have i:((kM b ((e:Int)-1)).toNat:Int)=dr b (e-1):=ui;have O:((kM b ((e:Int)-2)).toNat:Int)=dr b (e-2):=ui;have t:((kM b ((e:Int)-3)).toNat:Int)=dr b (e-3):=ui;refine aQ a ?_ (g.ao a ?_)
 .simp only[U,a7,i,O,t];omega
 exact OR
def ado:bK q 281 (ej eG c7 (λb a=>bg (pM b a.toNat)) λb a=>[d6 b=l,3<=a,a<=c b,c b<=4000000]):=.bk λb a g=>by
 obtain⟨e,i,j,f⟩:=g;obtain⟨d,rfl⟩:∃d:Nat,a=d:=⟨a.toNat,by omega⟩
 exact UH b d e w w f
def yZ{f g:ae}{e i}(A)(o:r.op=.call {callee:=.builtin .min,args:=#[f,g],argTypes:=dt})(u:η f=Q e)(s:η g=Q i)(y:min e i=A)(t:a7 .i64 A):a2 T r η k (Q A) k:=by refine .aQ λB d z j=>?_;have b:=j f;have a:=j g;rw[u]at b;rw[s]at a;replace b:=b8 b;replace a:=b8 a;generalize m:d f=w at b;generalize p:d g=x at a;cases b;cases a;have q:(if i<e then i else e)=A:=N;exact⟨.int .i64 A,by simp[ab,o,resolve,invoke,builtin,m,p,Builtin.min_,Builtin.min2,q],.int t,by simp[ab,o,resolve,invoke,builtin,m,p,Builtin.min_,Builtin.min2]⟩
theorem TL{o}{a}(e:c o<=a+3+u)(d:u<=5):lS o a (5-u)=min (a+8) (c o):=by
 rcases dY u 5 with b|b
 .obtain⟨f,b3⟩:∃f,5-u=f+1:=⟨4-u,by omega⟩
  rw[b3];simp[lS];grind
 rw[show 5-u=0 by omega];rfl
def U9(o)(al)(A:d6 o=l)(r:al<=c o)(y:c o<=4000000):Y q 239 [b2 o,Q al] [] (Q (ep o al)) []:=by
 refine Y.ab func239 rfl λs=>?_;have x:a_ q [(281,ej eG c7 (λi j=>bg (pM i j.toNat)) λi j=>[d6 i=l,3<=j,j<=c i,c i<=4000000])]:=.cons ado .nil;refine b9 x a bE (g.b7 (λb=>b<=5/\lS o al (5-b)=ep o al) (λb:Nat=>[(0,b2 o),(1,Q al),(5,Q (al+3+b))]) (λ_=>[]) (λb=>5-b) 0 a D a B ⟨by omega,a⟩ ?_);rintro b ⟨u,e⟩;by_cases p:b<5/\al+3+b<c o
 .obtain⟨f,b3⟩:∃f,5-b=f+1:=⟨4-b,by omega⟩
  have m:al+(7-f)=al+3+b:=w;rw[b3]at e;simp[lS,m]at e;rw[bj w]at e;have ap:((al:Int)+3+b).toNat=al+3+b:=w;cases t:pM o (al+3+b)with
  |true=>
   rw[t,bo a]at e;refine a8 x [11,16,22] a QU (g.bR (bW.zero a ?_));exact bw
  |false=>
   rw[t,bj D]at e;refine a8 x [11,16,-22] a QU (g.b4 (b+1) a ?_ a B ⟨by omega,by grind⟩ w);exact bw
 have ap:ep o al=min (al+8) (c o):=by
  rw[<-e];rcases dY b 5 with k|k
  .grind [TL]
  rw[show 5-b=0 by omega];rfl
 have d:a7 .i64 ((min (al+8) (c o):Nat):Int):=bE;rcases dY b 5 with k|k
 .refine a8 x [11,-16] a ?_ (g.bs a a ?_)
  .simp only[U,a7,bz,dq];omega
  exact Ra
 refine a8 x [-11] a ?_ (g.bs a a ?_)
 .simp only[U,a7,bz,dq];omega
 exact Ra
def adt:bK q 239 (ej eG c7 (λb a=>Q (ep b a.toNat)) λb a=>[d6 b=l,0<=a,a<=c b,c b<=4000000]):=.bk λb a g=>by
 obtain⟨e,i,j,f⟩:=g;obtain⟨d,rfl⟩:∃d:Nat,a=d:=⟨a.toNat,by omega⟩
 exact U9 b d e w f
abbrev Hh(a:bD):M:=.fn (.func 238) [] [.R [.T a]]
theorem U'(o):Y q 177 [b2 o] [] (ay (Hh o)) []:=by refine Y.ab func177 rfl λb=>?_;refine gH [] 5 a B ?_;refine g.freeze 1 0 a a a ?_;exact aQ a B (g.ao a)
def Va{ac:Type}(text)(K:d6 text=l)(J:c text<=4000000){e}{d}{u}(p s r:ac->aq)(t:Nat->ac->Prop)(j:ac)(I:t 0 j)(aJ:∀b,p b≠.bn/\s b≠.bn/\r b≠.bn)(i:∀f b,f<c text->t f b->iQ (ι:={m:ac // t (ep text f) m}) q 3 [Q f,Q (ep text f)] [p b,s b,r b,.loop e d u] l (λm=>[p m.1,s m.1,r m.1,.loop e d u])):
  bl (ι:={b:ac // t (c text) b}) q 238 [.n (.Q (.aY 3)),ay (.R [.T text])] [p j,s j,r j,.loop e d u] (λ_=>.S []) (λo=>[p o.1,s o.1,r o.1,.loop e d u]):=by
 refine bl.bO func238 rfl rfl rfl (g.aO ?_);have y:a_ q [(239,ej eG c7 (λx o=>Q (ep x o.toNat)) λx o=>[d6 x=l,0<=o,o<=c x,c x<=4000000])]:=.cons adt .nil;refine b9 y a B ?_;show b1 q _ (.loop _) _ _ _;refine b1.loop (br:=ac×Nat) (λk=>k.2<=c text/\t k.2 k.1) (λk=>[(0,.n (.Q (.aY 3))),(1,ay (.R [.T text])),(3,Q k.2)]) (λk=>[p k.1,s k.1,r k.1,.loop e d u]) (λk=>c text-k.2) (j,0) ⟨g5 _,I⟩ (eu a D) a ?_;rintro⟨b,f⟩ ⟨F,z⟩;simp only at F z;refine g.aO ?_;by_cases C:f<c text
 .have A:=rJ text f C;refine a8 y [8] a ds (g.yield (i f b C z) a a a a a a λm=>?_);refine a8 y [-16] a D ⟨(m.1,ep text f),⟨A.2.1,m.2⟩,?_,eu a D,a⟩;grind
 have E:f=c text:=w;subst E;refine a8 y [-8] a D (g.fH a a ?_);exact⟨⟨b,z⟩,.inr a,a,qK (aJ b).1 (qK (aJ b).2.1 (qK (aJ b).2.2 a)),[],.S [],[],a,a,a,B⟩
def abM{j:ae}(u:r.op=.binOp op o j (.const (.pointer n)) ty){q}(C:P.underlying o=h (.pointer q)){t}{lt cA}{m i}(F:η j=.n (.Q (.aY d)))(y:db d k=h (.K (eC W (.ax lt m i cA))))(z:η (.const (.pointer n))=ay .bp)(D:ih op v=h t):a2 P r η k (ay (.bool t)) k:=by
 refine v_ u C (i:=v) ?_ D;intro b E I A g f;rw[F]at g;rw[z]at f;replace f:=b8 f;cases f;obtain⟨_,L,B,rfl,_⟩:=(g:cC k b E (.aY d));obtain⟨_,⟨i,_,_,_,_,w,_⟩,_⟩:=A.box d _ L (er y) B;rw[w];have x:(Op.equal o (.pointer (h ⟨i,0,n⟩)) (.pointer n)).run P b.a=.ok v b.a:=Fy
 have s:∀e,(Op.equal o (.pointer (h ⟨i,0,n⟩)) (.pointer n)).events P b.a e=e:=λe=>by show(aL (9999+1) o _ _).events P b.a e=e;unfold aL;simp[underlying,C]
 exact⟨_,n,a,a,a,by cases op<;>simp[eqGuard],λe=>by cases op<;>simp[eqGuard],x,s⟩
abbrev pa(a b:Int):y:=.n (.agg [.c (.int .i64 a),.c (.int .i64 b)])
abbrev mK:ak:=352
def zl(g i)(d:dJ):∃a e f b,d.put g i=.ax a e f b:=by
 cases d with
 |nil=>exact⟨_,_,_,_,rfl⟩
 |ax a e f b=>
  simp only[dJ.put];split
  .grind
  split<;>exact⟨_,_,_,_,rfl⟩
def C4:∀(b:m Nat)a,a<0->b[a]?=h a:=λ_ a d=>absurd d w
def s':∀a,a<1->([0]:m Nat)[a]?=h a:=λa b=>by grind
def yo(b i)(z:a7 .i64 b)(I:a7 .i64 i):∀r:dJ,Y q 294 [.n (.Q (iE r 0)),pa b i] (hz mK r) (.n (.Q (.aY 0))) [.K (eC mK (r.put b i))]
 |.nil=>by refine Y.ab func294 rfl λJ=>?_;refine aQ a B (g.aK (r1 a underlying317 a a a) a a ?_);refine aQ a B (g.cU 4 1 0 0 (lt:=.nil) (cA:=.nil) a a (λs=>absurd a s) (λs=>absurd a s) (λs=>absurd a s) ?_);exact g.aI [1] a D (C4 _)
 |.ax lt j w cA=>by
  have o:=yo b i z I lt;have p:=yo b i z I cA;obtain⟨O,e,f,C,y⟩:=zl b i lt;obtain⟨al,d,u,t,F⟩:=zl b i cA;have x:(dJ.ax lt j w cA).put b i=if b<j then .ax (lt.put b i) j w cA else if j<b then .ax lt j w (cA.put b i)else .ax lt b i cA:=rfl;rw[x];rw[y]at o⊢;rw[F]at p⊢;have k:a_ q [(294,lb [.n (.Q (iE lt 0)),pa b i] (hz mK lt) (.n (.Q (.aY 0))) [.K (eC mK (.ax O e f C))])]:=.cons (l' o) .nil;have m:a_ q [(294,lb [.n (.Q (iE cA 0)),pa b i] (hz mK cA) (.n (.Q (.aY 0))) [.K (eC mK (.ax al d u t))])]:=.cons (l' p) .nil;clear o p x y F;refine Y.ab func294 rfl λJ=>?_;refine aQ a B (g.aK (abM a underlying317 a a a a) a a ?_);refine aQ a B (g.gw 0 0 a a ?_);by_cases E:b<j
  .rw[bo E];cases lt<;>cases cA<;>refine bf k [15] rfl bE ?_
   .exact QG
   .refine g.cU 4 0 3 2 (lt:=.ax O e f C) (cA:=_) a a bk bk (λ_ _=>by decide) ?_;exact ue
   .exact QG
   refine g.cU 4 0 2 3 (lt:=.ax O e f C) (cA:=_) a a bk bk (λ_ _=>by decide) ?_;exact ue
  rw[bj E];by_cases A:j<b
  .rw[bo A];cases lt<;>cases cA<;>refine bf m [-15,33] rfl bE ?_
   .exact RS
   .exact RS
   .exact O'
   exact O'
  rw[bj A];cases lt<;>cases cA<;>refine bR [-15,-33] rfl bw ?_
  .refine g.cU 4 0 9 9 (lt:=.nil) (cA:=.nil) a a (λs=>absurd a s) (λs=>absurd a s) (λs=>absurd a s) ?_;exact ue
  .refine g.cU 4 0 9 2 (lt:=.nil) (cA:=_) a a (λs=>absurd a s) bk (λs=>absurd a s) ?_;exact ue
  .refine g.cU 4 0 2 9 (lt:=_) (cA:=.nil) a a bk (λs=>absurd a s) (λ_ s=>absurd a s) ?_;exact ue
  refine g.cU 4 0 2 3 (lt:=_) (cA:=_) a a bk bk (λ_ _=>by decide) ?_;exact ue
end
section
open Go.Proofs Go.Conc Go.Conc.Lib Go.ConcR.Gen
open Go.ConcN (WgLive PayAt Has RW AtR0)
open Go.ConcN.Gen
open Go.ConcR (KK WgAt stA smA rd wr mk Payload DC0)
def aaQ:D0=#[{dst:=n,op:=.defer {callee:=.value (.func 110),args:=#[.tmp 0],argTypes:=#[162]},type:=0,pos:= "l12_snap.go:81",after:=#[],guard:=n}]:=bG
def qe(a:X):aG:={baseD 109 with defers:=[dcall 110 #[a]]}
abbrev EZ(a b d e f g:X):Array X:=#[a,b,d,e,f,g,J,J,J,J,J,J,J]
def acK(v0 v1 v2 b v4 d)(p):Goes T v (λ_ _=>True) DC0 (λi _=>i=G ((qe v0).U ⟨EZ v0 v1 v2 b v4 d,[]⟩ [.code (.region 1 vX l)]) [mr]) 8 (born T (rE #[v0,v1,v2,b,v4,d])) p:=by
  have e:True:=B;have f:True->True->True:=λ_ _=>trivial;refine Goes.step a (λw1 g=>?_);rw[Tc];simp[goes_go];refine⟨⟨a,a⟩,?_⟩;clear g;rw[aaQ]
  u_c aw f e
  u_reg f e
  u_defer f e
  u_c aB f e
  exact Goes.stop λ_ _=>rfl
def Ub(ac):QuitsD T 2 0 (G {(baseD 109).at ⟨ac,[]⟩ []with mode:=.returning} [mr]):=by
  have b:Tryz.f109.results=#[]:=bG;refine QuitsD.ctl (g':=G mr []) a (λd=>?_) ?_
  · simp[G,ao,unwind,doReturn,results,Frame.at,baseD,mr,Tryz.func109,b,seen,GStep.after,goexitEntry]
  refine QuitsD.ctl (g':={G mr []with status:=.finished}) rfl (λd=>?_) ⟨rfl,rfl⟩;simp[G,ao,unwind,mr,goexitEntry,Frame.catches];rfl
section
variable {K:hP}
def aeg(E)(g:K.aJ=2)(ac)(p)(b:WgLive 162 K.h p/\Has K.af (K.aJ*E+1-1) (val E 0) p):
    ∃f,Goes T v (RW 162 K.h K.af (2*j) 0 (K.aJ*E+1-1)) DC0 (AtR0 T 162 K.h K.af (2*j) 0 (K.aJ*E+1) (val E 0)) f (G ((qe (.pointer (h ⟨K.h,0,n⟩))).U ⟨ac,[]⟩ [.inRegion mL.toArray []]) [mr]) p:=by
  refine⟨26,?_⟩;have e:(qe (.pointer (h ⟨K.h,0,n⟩))).U ⟨ac,[]⟩ [.inRegion mL.toArray []]=(baseD 109).at ⟨ac,[dcall 110 #[.pointer (h ⟨K.h,0,n⟩)]]⟩ [.inRegion mL.toArray []]:=rfl;rw[e]
  u_c aB kn_rely b
  u_c stepG_end kn_rely b
  u_in kn_rely b
  rw[stepG_unwind_enter (c:=body_done qZ) a wz.f_done bG bG];simp[goes_go];refine⟨by u_nil,?_⟩;have d:=TY (P:=T) (L:=qZ) (bn:=K.h) (M:=K.af) (j:=2*j) (m8:=0) (E:=K.aJ*E+1) (val:=val E 0) (t:={(baseD 109).at ⟨ac,[]⟩ []with mode:=.returning}) (ah:=[mr]) wz rfl (Ub ac) _ b;exact d
def abK{d}(b:Rd bB aa (.T d)):aa=.string ⟨d.toArray⟩:=by
  cases b with
  |T a e=>rw[<-a]
def Ei{i}(a:Rd bB aa (.bool i)):aa=.bool i:=by cases a;rfl
def sv:an:=gX n (.store 164 (.tmp 12) (.tmp 11)) 0 #[⟨6,.data⟩,⟨5,.data⟩,⟨5,.chain⟩,⟨0,.phase⟩,⟨1,.phase⟩,⟨2,.phase⟩,⟨3,.phase⟩,⟨4,.phase⟩,⟨5,.phase⟩]
def S4{d}(al:d<j)(R:K.aJ=2){Z}{C}(O:val d 0=.string ⟨((dd f Z C).getD []).toArray⟩)(aa:val d 1=.bool (dd f Z C).isSome){ac}(E:bx [] b (ac.getD 12 J) (sh f Z C j d K.af 6))(F:bx [] b (ac.getD 11 J) (x6 (dd f Z C))):
    us T 162 K (2*j) val d (G ((qe (.pointer (h ⟨K.h,0,n⟩))).U ⟨ac,[]⟩ [.inRegion mL.toArray [7]]) [mr]) b:=by
  have E:=Rd.bd E;have F:ac.getD 11 J=.agg #[val d 0,val d 1]:=by
    obtain⟨z,ag,k⟩:=F
    match z,k with
    |[],k=>exact k.elim
    |[_],k=>exact k.2.elim
    |_::_::_::_,k=>exact k.2.2.elim
    |[ao,aq],k=>
      rw[ag,abK k.1,Ei k.2.1,O,aa]
  refine⟨a,λw1 ak s m=>?_⟩;obtain⟨g,t,ay⟩:=s;have af:K.aJ*d=d*2:=N;have H:∀Y∈[val d 0,val d 1],Y.oneCell'=l:=by
    intro Y P;simp[eT,rq,or_false]at P;rcases P with rfl|rfl
    · rw[O];rfl
    · rw[aa];rfl
  have X:d*2+0+[val d 0,val d 1].length<=g.size:=N;have D:=run_storeCells_at T K.af (d*2) 164 [val d 0,val d 1] 0 g w1 t X H;simp only[kk,fe,gO,cZ]at D;generalize W:(g.toList.take (d*2)++[val d 0,val d 1]++g.toList.drop (d*2+2)).toArray=new at D;have aB:new.size=g.size:=N;have ar:=setRow_heap w1 K.af g new 164 (0,0) t;have au:∀r,(w1.setRow K.af new).cell? ⟨K.af,r,n⟩=new[r]?:=λr=>cell_setRow_same w1 K.af r g new 164 (0,0) t;have av:∀r,w1.cell? ⟨K.af,r,n⟩=g[r]?:=λr=>by simp[aI,t]
  have az:∀e,e<2->new[d*2+e]?=h (val d e):=by
    intro e q;rw[<-W];have L:c (g.toList.take (d*2))=d*2:=N;rw[k_];simp[kg];rw[hx w,L]
    match e,q with
    |0,_=>simp
    |1,_=>simp
  have aw:∀r,(r<d*2∨d*2+2<=r)->new[r]?=g[r]?:=by
    intro r o;rw[<-W];have L:c (g.toList.take (d*2))=d*2:=N;rw[k_];simp only[kg];rcases o with o|o
    · grind
    · rw[hx w,L,hx N]
      simp only[fe,gO,p6];rw[show d*2+2+(r-d*2-(0+1+1))=r by omega];simp
  have Q:(Value.agg #[val d 0,val d 1]).cells=#[val d 0,val d 1]:=rfl;have y:(ab (⟨ac,[]⟩:Act).eval sv).run T w1=.ok .skip (w1.setRow K.af new):=by have M:(⟨ac,[]⟩:Act).eval (.tmp 12)=.pointer (h ⟨K.af,d*2,n⟩):=E;have I:(⟨ac,[]⟩:Act).eval (.tmp 11)=.agg #[val d 0,val d 1]:=F;simp[ab,sv,gX,M,I,Instr.storeAt,Instr.sureAddr,storeVar,(bc 164 rQ a).bb,show rQ.size=2 from a,Q,D]
  have u:∀p∈(ab (⟨ac,[]⟩:Act).eval sv).events T w1 #[],∃A,A<2/\p=ua K.af (d*2+A):=by
    intro U u;have M:(⟨ac,[]⟩:Act).eval (.tmp 12)=.pointer (h ⟨K.af,d*2,n⟩):=E;have I:(⟨ac,[]⟩:Act).eval (.tmp 11)=.agg #[val d 0,val d 1]:=F;have p:ab (⟨ac,[]⟩:Act).eval sv=(do storeVar 164 ⟨K.af,d*2,n⟩ (.agg #[val d 0,val d 1]);pure .skip):=by simp[ab,sv,gX,M,I,Instr.storeAt,Instr.sureAddr]
    rw[p]at u;have ae:U∈(storeCells ⟨K.af,d*2,n⟩ [val d 0,val d 1]).events T w1 #[]:=by simp only[storeVar,aC,(bc 164 rQ a).bb,show rQ.size=2 from a,Q,aF,events_sizeOf,d',dn,cL,c',Sem.events_pure]at u;simpa[D]using u
    rcases np [val d 0,val d 1] 0 g w1 #[] t X H U ae with aD|⟨A,_,ah,rfl⟩
    · grind
    grind
  have an:WgLive 162 K.h (w1.setRow K.af new):=by
    obtain⟨B,S,V⟩:=m;refine⟨B,S,?_⟩;show(w1.setRow K.af new).heap[K.h]?=_;rw[setRow_other w1 K.af K.h new ?_]
    · exact V
    · intro p
      have k:w1.heap[K.h]?=h (Go.ConcR.wgBlock 162 B S):=V;rw[p,t]at k;simp[Go.ConcR.wgBlock]at k;exact absurd k.2 ca
  refine⟨_,w1.setRow K.af new,_,MI (i:=qe (.pointer (h ⟨K.h,0,n⟩))) (x:=⟨ac,[]⟩) (f:=[]) (aR:=mL.toArray) (e:=7) (bq:=[]) (r:=sv) a a (by simp[qe,baseD]) y,?_,?_,?_⟩
  · refine⟨rfl,rfl,rfl,by simp,λi aM=>setRow_other w1 K.af i new aM,⟨new,ar,by grind⟩,λr o=>?_,λe q=>?_⟩
    · grind
    · rw[R]at q
      rw[au,af];grind
  · intro p ai
    obtain⟨A,ah,rfl⟩:=u p (Go.Conc.mem_seen ai);exact⟨d*2+A,a,by omega,by omega⟩
  · exact aeg d R ac _ ⟨an,by show(w1.setRow K.af new).cell? _=_;grind⟩
def aeF(O:bK (af.c7 T) 111 (nh f)){k}(C:k<j)(J:K.aJ=2){Z}{m}(N:val k 0=.string ⟨((dd f Z m).getD []).toArray⟩)(F:val k 1=.bool (dd f Z m).isSome)(D:bb [] b)(Y:b.s=[]){v1 v2 e v4 g}(u:Rd b.D v1 (.R [.int .i64 f]))(s:Rd b.D v2 (.R [.B v 2 (c Z) (a1.fn Z)]))(A:Rd b.D e (.R [.int .i64 m]))(t:Rd b.D v4 (.R [.val (.slice (h ⟨K.af,0,n⟩) j j)]))(w:Rd b.D g (.R [.int .i64 k])):
    du (af.c7 T) eR (us T 162 K (2*j) val k) (born T (rE #[.pointer (h ⟨K.h,0,n⟩),v1,v2,e,v4,g])) b:=by
  refine du.goes (q:=af.c7 T) (dm:=λ_ _=>True) (y:=DC0) (Stop:=λr _=>r=G ((qe (.pointer (h ⟨K.h,0,n⟩))).U ⟨EZ (.pointer (h ⟨K.h,0,n⟩)) v1 v2 e v4 g,[]⟩ [.code (.region 1 vX l)]) [mr])
    (λi=>bb [] i/\i.D=b.D) (λi o d x=>⟨d.1.rely x,x.D.trans d.2⟩) (λ_ _ _ _=>trivial) ?_ (λi d=>cX.er d.1.mem) ?_ 8 _ b ⟨D,rfl⟩ (acK _ _ _ _ _ _ _)
  · rintro i I d U ⟨rfl,rfl⟩
    exact⟨a,.inl (.aQ d.1)⟩
  · rintro r i ⟨M,W⟩ rfl
    rw[aaR];refine cj.toW (λ_ _ _ d=>d) ?_;refine(aeu O Z m j k K.af C (.pointer (h ⟨K.h,0,n⟩))).region bG (by simp[qe,baseD]) ⟨by simp[EZ],⟨[],B⟩,λz=>?_⟩ a M λo E X p S R Q=>.stop ?_
    · rw[<-W]at u s A t w
      match z with
      |0=>exact Rd.val rfl
      |1=>exact u
      |2=>exact s
      |3=>exact A
      |4=>exact t
      |5=>exact w
      |z+6=>trivial
    · obtain⟨aa,V⟩:=E
      obtain rfl:V=[]:=S;exact S4 C J N F (p 12) (p 11)
end
end
section
open Go.Proofs Go.Conc Go.Conc.Lib
open Go.ConcN (WgLive PayAt Has RW AtR0)
open Go.ConcR (KK WgAt stA smA rd wr mk Payload DC0)
def nt:Code->Code|.seq a _=>a|b=>b
def g':Code->Code|.seq _ a=>a|b=>b
def G4:Code->Code|.block _ a=>a|b=>b
def aaf:Code->Code|.loop a=>a|b=>b
def DZ:Code->Array an|.region _ a _=>a|_=>#[]
noncomputable def rC:Code:=(Tryz.f62.body).getD .skip
noncomputable def hH:Code:=aaf (G4 (g' (nt (g' (g' (g' rC))))))
noncomputable def HO:Code:=nt hH
noncomputable def BN:Code:=G4 (nt (g' (g' hH)))
noncomputable def HP:Code:=nt BN
noncomputable def px:Array an:=DZ (nt (g' BN))
noncomputable def oE:Array an:=DZ (g' (g' BN))
noncomputable def oa:Code:=g' (g' (g' hH))
noncomputable def lP:Code:=g' (g' (g' (g' rC)))
noncomputable def oF:Array an:=DZ (nt lP)
noncomputable def ob:Code:=g' lP
def Hy:hH=.seq HO (.seq (.cond (.tmp 21) .skip (.exit 0)) (.seq (.block 1 (.seq HP (.seq (.region 6 px v) (.region 7 oE v)))) oa)):=bG
def Ts:lP=.seq (.region 9 oF v) ob:=bG
def uw(f:bL)(a:m aq):fD:=λe b d=>e=.normal/\iO b f/\d=a
structure dW(dN:m aq)(cI:a6)(I:bL)(k:m aq)(x:Act)(b:a6):Prop where
 bT:bY 45 k b I x
 a_:bb k b
 a2:dh dN cI k b
section
variable {dN:m aq}{cI:a6}{I u:bL}{k aU:m aq}{x:Act}{b:a6}
def dW.rely(a:dW dN cI I k x b){e}(d:cX b e):dW dN cI I k x e:=⟨a.bT.rely d a.a_,a.a_.rely d,a.a2.trans d.aT⟩
structure nW(i:Nat)(b:a6):Prop where
 own:¬b.own i
 s:∀L∈b.s,i∉L.aj
 D:∀r,b.D i r=n
 lt:i<b.a.heap.size
def nW.step{i}(d:nW i cI)(a:dh dN cI k b):nW i b:=
 ⟨by rw[a.own];exact d.own,λL g f=>by
  rcases a.bS L g i f with e|⟨m,j,e⟩
  .have:=d.lt;omega
  .exact d.s m j e,λo=>by rw[a.bA i d.lt d.s];exact d.D o,eE d.lt a.size⟩
def dW.eC{bn}(d:nW bn cI):k0 bn (dW dN cI I k x):=
 ⟨λ_ _ a e=>a.rely e,λ_ a=>⟨k,a.a_⟩,λ_ a=>let b:=d.step a.a2;⟨b.own,b.s,b.D⟩⟩
variable {q:af T}{br:ai->a6->Prop}{i:aG}{f:m Item}{ah:m aG}
def dW.ctl(g:dW dN cI I k x b){C a}(m:C.status=.running)(j:∀i,ao T q.b3 C i=.go a i #[])(f:∀d,dW dN cI I k x d->cj q br a d):cj q br C b:=
 .ctl g.a_ m j λd e=>f d (g.rely e)
def dW.code(g:dW dN cI I k x b)(j:i.kind≠.early){t}(z:b1 q 45 t (uw u aU) I k)(o:∀a d,dW dN cI u aU a d->cj q br (G (i.U a f) ah) d):cj q br (G (i.U x (.code t::f)) ah) b:=by refine z b x g.bT g.a_ i f ah br j ?_;rintro B r s p e ⟨rfl,m,rfl⟩ y A w;exact o e p ⟨y.le m,A,g.a2.trans w⟩
end
def cj.cZ{bn}{W:a6->a6->Array aO->Prop}{A:ai->a6->Prop}{C}{b}(q:cj (af.aH T 162 bn) A C b)(m:g1 (λe=>e=bn) b)(i:WgLive 162 bn b.a):
  du (af.aH T 162 bn) W (λC b=>A C b/\WgLive 162 bn b.a) C b:=by
 induction q with
 |stop q=>exact⟨.leaf,q,i⟩
 |@step C b O z I w r s _ y=>
  refine .step w λk f=>?_;have D:=f.2 i;have p:g1 (λe=>e=bn) k:=⟨λe d=>by rw[f.1.own];exact m.own e d,λe d=>by rw[f.1.s];exact m.s e d,λe d J=>by rw[f.1.D];exact m.D e d J,λe d=>eE (m.lt e d) f.1.size⟩
  obtain⟨⟨B,o,t,E,j⟩,F⟩:=s k f;refine⟨_,_,_,r k f,.inl ⟨⟨B,o,t,E,j⟩,F⟩,y k f (p.step j) ?_⟩;obtain⟨M,N,K⟩:=D;exact⟨M,N,by show(z k).a.heap[bn]?=_;rw[j.a7 bn (p.lt bn a) (p.s bn a)];exact K⟩
 |aP g _ y=>exact .aP g (y (m.aP g) (by rw[g.a];exact i))
 |b2 x _ _ _=>exact x.elim
 |dm u _ _=>exact u.elim
def nW.clear{bn}{b}(e:nW bn b):g1 (λd=>d=bn) b:=⟨λd a=>a▸e.own,λd a=>a▸e.s,λd a=>a▸e.D,λd a=>a▸e.lt⟩
section
variable (f:Int)(Z:m b4)(bt:m Int)(M bn:Nat)
def ik(a:Nat):bL:=[(3,ay (.R [.int .i64 f])),(4,ay (.R [.B v 2 (c Z) (a1.fn Z)])),(8,ay (.R [.val (.slice (h ⟨M,0,n⟩) (c bt) (c bt))])),(9,cN (.pointer (h ⟨bn,0,n⟩))),
 (18,az.B bt),(19,Q (c bt)),(20,Q a)]
variable {f Z bt M bn}{q:af T}{k:m aq}
def Lv{e}(b:e<=c bt):b1 q 45 HO (uw ((21,bg (decide (e<c bt)))::ik f Z bt M bn e) k) (ik f Z bt M bn e) k:=by
 refine g.aO ?_;by_cases d:e<c bt
 .refine a3 [21] a bM ⟨a,eu a ?_,a⟩;exact bw
 refine a3 [-21] a bM ⟨a,eu a ?_,a⟩;exact bw
abbrev eW:m aq:=[.N,.N,.N,.N,.N]
def aaY{e}(b:e<c bt):b1 q 45 HP (uw ((10,aH 5 0)::(11,aH 6 0)::ik f Z bt M bn e) [.N,.N,.N,.N,.N,.cells 3 [.c (.int .i64 e)],.cells 3 [.c (.int .i64 (bt.getD e 0))]]) (ik f Z bt M bn e) eW:=by refine g.aO ?_;refine aQ a bM ⟨a,eu a D,?_⟩;grind
def aaZ{e}(b:e<c bt)(d:c bt<=4000000):b1 q 45 oa (uw (ik f Z bt M bn (e+1)) eW) (ik f Z bt M bn e) eW:=by refine g.aO ?_;refine aQ a bE ⟨a,eu a ?_,a⟩;simp
variable {dN:m aq}{cI:a6}{br:ai->a6->Prop}{i:aG}{eX:m Item}{ah:m aG}
abbrev kp:m aq:=[.N,.N,.N,.N,.N,.N,.N]
variable (f Z bt M bn)in
abbrev kX(a:Nat):bL:=(11,ay (.R [.int .i64 (bt.getD a 0)]))::(10,ay (.R [.int .i64 a]))::ik f Z bt M bn a
noncomputable abbrev tk(a:m Item):m Item:=.code (.region 7 oE v)::.inBlock 1::.code oa::.inLoop hH::.inBlock 0::a
def zA{P}{eY}{a:aG}{x}{f}{ah}{p}{t b d}(e:t=.seq b d):ao P eY (G (a.U x (.code t::f)) ah) p=.go (G (a.U x (.code b::.code d::f)) ah) p:=by grind[pF]
def toAdd{e}(j:e<c bt)(y:i.kind≠.early){x}{d:a6}(b:dW dN cI (ik f Z bt M bn e) eW x d)(z:∀w p,dW dN cI (kX f Z bt M bn e) kp w p->cj q br (G (i.U w (.inRegion px [0]::tk eX)) ah) p):
  cj q br (G (i.U x (.code hH::.inLoop hH::.inBlock 0::eX)) ah) d:=by
 refine b.ctl a (λg=>zA Hy) λd b=>?_;refine b.code y (Lv (Nat.le_of_lt j)) λx d b=>?_;refine b.ctl a (λg=>pF) λd b=>?_;have A:x.eval (.tmp 21)=.bool l:=by have:=b.bT.aL 21;simp only[j,nf]at this;exact Ei (b8 this)
 refine b.ctl a (λg=>zx A) λd b=>?_;refine b.ctl a (λg=>MJ) λd b=>?_;refine b.ctl a (λg=>pF) λd b=>?_;refine b.ctl a (λg=>zw) λd b=>?_;refine b.ctl a (λg=>pF) λd b=>?_;have b:dW dN cI (ik f Z bt M bn e) eW x d:=⟨b.bT.le (eu a D),b.a_,b.a2⟩
 refine b.code y (aaY j) λx d b=>?_;obtain⟨p,w1,m,k,s⟩:=bY.freeze 10 5 (W:=3) (ah:=[.c (.int .i64 e)]) (gR:=[.int .i64 e]) rfl rfl rfl b.bT b.a_;refine .aP (.of b.a_ k w1 (s.too0 b.a_)) ?_;obtain⟨r,w2,o,t,u⟩:=bY.freeze 11 6 (W:=3) (ah:=[.c (.int .i64 (bt.getD e 0))]) (gR:=[.int .i64 (bt.getD e 0)]) rfl rfl rfl m k;refine .aP (.of k t w2 (u.too0 k)) ?_;have b:dW dN cI (kX f Z bt M bn e) kp x r:=⟨o.le (eu a D),t,b.a2.trans ((s.too0 b.a_).trans (u.too0 k))⟩
 refine b.ctl a (λg=>pF) λd b=>?_;refine b.ctl a (λg=>zz) λd b=>?_;exact z x d b
def r2:an:={dst:=h 25,op:=.call {callee:=.value (.func 108),args:=#[.tmp 9,.const (.int .i64 1)],argTypes:=#[162,3]},type:=0,pos:= "l12_snap.go:79",after:=#[],guard:=n}
theorem Lr:px=#[r2]:=bG
def Uf{e}(t:i.kind≠.early){x}{b}(o:dW dN cI (kX f Z bt M bn e) kp x b)(j:∀d,dW dN cI (kX f Z bt M bn e) kp x d->cj q br (G (Frame.enter T 108 #[.pointer (h ⟨bn,0,n⟩),.int .i64 1] .normal) (i.U x (.inRegion px [0]::tk eX)::ah)) d):
  cj q br (G (i.U x (.inRegion px [0]::tk eX)) ah) b:=by
 refine .next a λd k=>?_;have g:=o.rely (q.bJ k);have m:=Rd.bd (g.bT.aL 9);have s:(ab x.eval r2).run T d.a=.ok (.enter 108 #[.pointer (h ⟨bn,0,n⟩),.int .i64 1]) d.a:=by have:=run_call_body (P:=T) (a:=x) (w:=d.a) (o:=r2) (f:=108) (fn:=Tryz.f108) a Tryz.func108 bG bG;rw[this,<-m];simp only[List.map_toArray,kj,List.map_nil];rfl
 have u:(ab x.eval r2).events T d.a #[]=#[]:=events_call_body (P:=T) (a:=x) (w:=d.a) (o:=r2) (f:=108) (fn:=Tryz.f108) a Tryz.func108 bG bG #[];have w:listed T i.fn x r2 d.a=#[]:=by unfold listed;grind[seen_none]
 refine⟨_,d,#[],?_,.aQ g.a_,j d g⟩;have:=tP (P:=T) (eY:=q.b3) (i:=i) (x:=x) (f:=tk eX) (ah:=ah) (p:=d.a) (aR:=px) (e:=0) (bq:=[]) (r:=r2) (by grind[Lr]) a t s;grind
def vR:an:={dst:=h 26,op:=.makeFunc (.func 109) #[] #[.tmp 9,.tmp 3,.tmp 4,.tmp 11,.tmp 8,.tmp 10],type:=1,pos:= "l12_snap.go:80",after:=#[],guard:=n}
def pv:an:={dst:=n,op:=.go {callee:=.value (.tmp 26),args:=#[],argTypes:=#[]},type:=0,pos:= "l12_snap.go:80",after:=#[⟨0,.data⟩],guard:=n}
theorem Ls:oE=[vR,pv].toArray:=bG
variable (f Z bt M bn)in
abbrev sV(a:Nat):AM.M:=.fn (.func 109) [] [.val (.pointer (h ⟨bn,0,n⟩)),.R [.int .i64 f],.R [.B v 2 (c Z) (a1.fn Z)],.R [.int .i64 (bt.getD a 0)],.R [.val (.slice (h ⟨M,0,n⟩) (c bt) (c bt))],.R [.int .i64 a]]
def aaG{e}:aY q 45 [vR,pv] vR ((25,.any)::kX f Z bt M bn e) kp (ay (sV f Z bt M bn e)) kp:=by have a:iJ eQ [] [] [vR,pv] ((25,.any)::kX f Z bt M bn e) kp vR=h (ay (sV f Z bt M bn e),n,[]):=rfl;exact eh bc a_.nil a B
def toGo{e}(u:i.kind≠.early){x}{b}(d:dW dN cI (kX f Z bt M bn e) kp x b)(p:∀aa m g,dW dN cI (kX f Z bt M bn e) kp m g->Rd g.D aa (sV f Z bt M bn e)->m.tmps.getD 26 J=aa->cj q br (G (i.U m (.inRegion oE [1]::.inBlock 1::.code oa::.inLoop hH::.inBlock 0::eX)) ah) g):
  cj q br (G (i.U (x.put (h 25) (.tuple #[])) (.inRegion px []::tk eX)) ah) b:=by
 have t:dW dN cI ((25,.any)::kX f Z bt M bn e) kp (x.put (h 25) (.tuple #[])) b:=⟨d.bT.put ca B,d.a_,d.a2⟩
 refine t.ctl a (λw=>wh) λb d=>?_;refine d.ctl a (λw=>zz) λb d=>?_;rw[Ls];refine aaG b _ d.bT d.a_ i _ ah br 0 [1] u a λaa g j r o=>?_;have j:=b8 j;have k:=((d.bT.mono o d.a_.len).put (O:=26) (aa:=aa) (E:=.any) ca B)
 have s:26<(x.put (h 25) (.tuple #[])).tmps.size:=by rw[d.bT.size];decide
 refine p aa _ g ⟨k.le (eu a ?_),r,d.a2.trans o⟩ j (abx s);simp
def ael{e}(k:e<c bt)(A:c bt<=4000000)(j:i.kind≠.early)(t:dN.length<=5){x}{b}(d:dW dN cI (kX f Z bt M bn e) kp x b)(s:∀o p,dW dN cI (ik f Z bt M bn (e+1)) eW o p->cj q br (G (i.U o (.code hH::.inLoop hH::.inBlock 0::eX)) ah) p):
  cj q br (G (i.U x (.inRegion oE []::.inBlock 1::.code oa::.inLoop hH::.inBlock 0::eX)) ah) b:=by
 have g:bY 45 (eW++[.N,.N]) b (ik f Z bt M bn e) x:=d.bT.le (eu a D);have m:=d.a_;have u:dh dN cI (eW++[.N,.N]) b:=d.a2;have z:e9 b (b.cut (c eW)):=⟨rfl,λ_ _ _ d=>d,λ_ _ _=>rfl,m.mem,λi j=>j.imp id λ⟨L,y,j⟩=>⟨L,gN y,j⟩⟩
 refine .aP z ?_;have d:dW dN cI (ik f Z bt M bn e) eW x (b.cut (c eW)):=⟨⟨g.size,g.defers.imp λ_ w=>w.drop a,λB=>(g.aL B).drop (vz a)⟩,m.drop a,u.drop t⟩
 refine d.ctl a (λr=>wh) λb d=>?_;refine d.ctl a (λr=>MF) λb d=>?_;refine d.code j (aaZ k A) λx b d=>?_;exact d.ctl a (λr=>MG) λb d=>s x b d
end
theorem rv{a:aG}(d:a.roundOf=n)(b)(o):a.U b o=a.at ⟨b.tmps,b.defers++a.defers⟩ o:=by cases a;simp only at d;subst d;rfl
section
variable {f:Int}{Z:m b4}{bt:m Int}{K:hP}{val:Nat->Nat->X}{dN:m aq}{cI:a6}{i:aG}{eX:m Item}{ah:m aG}
def Kg{x:Act}{p}{t hi iV jR u4 a}(d:x.tmps.getD 26 J=.func (.func 109) #[] #[t,hi,iV,jR,u4,a]):(ab x.eval pv).run T p=.ok (.spawn (rE #[t,hi,iV,jR,u4,a])) p/\(ab x.eval pv).events T p #[]=#[]:=by
 have b:x.eval (.tmp 26)=.func (.func 109) #[] #[t,hi,iV,jR,u4,a]:=d;constructor
 .simp[ab,pv,resolve,Deferred.ofValue,b,rE]
 simp[ab,pv,resolve,Deferred.ofValue,b]
def S1(ab:bK (af.c7 T) 111 (nh f))(Q:K.aJ=2)(t:i.roundOf=n)(ag:i.kind≠.early){e}(s:e<c bt)(U:val e 0=.string ⟨((dd f Z (bt.getD e 0)).getD []).toArray⟩)(F:val e 1=.bool (dd f Z (bt.getD e 0)).isSome){aa}{x}{b}(N:dW dN cI (kX f Z bt K.af K.h e) kp x b)(A:WgLive 162 K.h b.a)(y:Rd b.D aa (sV f Z bt K.af K.h e))(z:x.tmps.getD 26 J=aa){Next:ai->a6->Prop}(B:∀j,dW dN cI (kX f Z bt K.af K.h e) kp x j->WgLive 162 K.h j.a->Next (G (i.U x (.inRegion oE []::.inBlock 1::.code oa::.inLoop hH::.inBlock 0::eX)) ah) j):
  wV T 162 K (2*c bt) val e Next (G (i.U x (.inRegion oE [1]::.inBlock 1::.code oa::.inLoop hH::.inBlock 0::eX)) ah) b:=by
 refine⟨a,λj o=>?_⟩;have w:=N.rely o.1;have V:Rd j.D aa (sV f Z bt K.af K.h e):=by rw[o.1.D];exact y
 cases V with
 |fn E q m k D d I M Y g=>
 have S:=jJ m;subst S;have O:q=[d 0,d 1,d 2,d 3,d 4,d 5]:=by
  apply qa;intro u;have k:=k
  match u with
  |0=>grind
  |1=>grind
  |2=>grind
  |3=>grind
  |4=>grind
  |5=>grind
  |u+6=>grind
 subst O;have ae:=Rd.bd (g 0 _ a);obtain⟨R,W⟩:=Kg (x:=x) (p:=j.a) z;have C:Go.Conc.listed T i.fn ⟨x.tmps,x.defers++i.defers⟩ pv j.a=#[]:=by unfold Go.Conc.listed;have:=(Kg (x:=⟨x.tmps,x.defers++i.defers⟩) (p:=j.a) z).2;grind[seen_none]
 have X:=stepG_spawn (P:=T) (main:=l) (b:=i) (a:=⟨x.tmps,x.defers++i.defers⟩) (k:=.inBlock 1::.code oa::.inLoop hH::.inBlock 0::eX) (cs:=ah) (w:=j.a) (ops:=oE) (i:=1) (rest:=[]) (o:=pv) (by grind[Ls]) a ag R a;refine⟨G (i.U x (.inRegion oE []::.inBlock 1::.code oa::.inLoop hH::.inBlock 0::eX)) ah,born T (rE #[d 0,d 1,d 2,d 3,d 4,d 5]),?_,a,?_,B j w (o.2 A)⟩
 .rw[rv t,rv t,X,C];rfl
 rw[ae];exact aeF ab s Q U F (b:=j.dx) ⟨w.a_.mem,a,by simp,by simp[a6.dx],by simp[a6.dx],by simp[a6.dx]⟩ a (g 1 _ a) (g 2 _ a) (g 3 _ a) (g 4 _ a) (g 5 _ a)
def r3:an:={dst:=h 28,op:=.call {callee:=.value (.func 112),args:=#[.tmp 9],argTypes:=#[162]},type:=0,pos:= "l12_snap.go:85",after:=#[],guard:=n}
theorem Lt:oF=#[r3]:=bG
variable {q:af T}{br:ai->a6->Prop}
def aem(m:i.kind≠.early){M bn}{x}{b}(d:dW dN cI (ik f Z bt M bn (c bt)) eW x b)(o:∀k g,dW dN cI (ik f Z bt M bn (c bt)) eW k g->cj q br (G (Frame.enter T 112 #[.pointer (h ⟨bn,0,n⟩)] .normal) (i.U k (.inRegion oF [0]::.code ob::eX)::ah)) g):
  cj q br (G (i.U x (.code hH::.inLoop hH::.inBlock 0::.code lP::eX)) ah) b:=by
 refine d.ctl a (λp=>zA Hy) λb d=>?_;refine d.code m (Lv (bC _)) λx b d=>?_;refine d.ctl a (λp=>pF) λb d=>?_;have w:x.eval (.tmp 21)=.bool v:=by have:=d.bT.aL 21;simp only[xi,o2]at this;exact Ei (b8 this)
 refine d.ctl a (λp=>zx w) λb d=>?_;refine d.ctl a (λp=>ME (gn:=.code lP::eX) a) λb d=>?_;refine d.ctl a (λp=>zA Ts) λb d=>?_;refine d.ctl a (λp=>zz) λb d=>?_;have d:dW dN cI (ik f Z bt M bn (c bt)) eW x b:=⟨d.bT.le (eu a D),d.a_,d.a2⟩
 refine .next a λg s=>?_;have j:=d.rely (q.bJ s);have y:x.eval (.tmp 9)=.pointer (h ⟨bn,0,n⟩):=Rd.bd (j.bT.aL 9);have u:(ab x.eval r3).run T g.a=.ok (.enter 112 #[.pointer (h ⟨bn,0,n⟩)]) g.a:=by have:=run_call_body (P:=T) (a:=x) (w:=g.a) (o:=r3) (f:=112) (fn:=Tryz.f112) a Tryz.func112 bG bG;grind
 have z:(ab x.eval r3).events T g.a #[]=#[]:=events_call_body (P:=T) (a:=x) (w:=g.a) (o:=r3) (f:=112) (fn:=Tryz.f112) a Tryz.func112 bG bG #[];have t:Go.Conc.listed T i.fn x r3 g.a=#[]:=by unfold Go.Conc.listed;grind[seen_none]
 refine⟨_,g,#[],?_,.aQ j.a_,o x g j⟩;have:=tP (P:=T) (eY:=q.b3) (i:=i) (x:=x) (f:=.code ob::eX) (ah:=ah) (p:=g.a) (aR:=oF) (e:=0) (bq:=[]) (r:=r3) (by grind[Lt]) a m u;rw[t]at this;exact this
section
variable (f Z bt K dN cI i eX ah)
def wT(b:ai)(d:a6):Prop:=∃a,wU T qZ K (dW dN cI (ik f Z bt K.af K.h (c bt)) eW a) (i.U a (.inRegion oF [0]::.code ob::eX)) ah b d
def Gn(b:ai)(d:a6):Prop:=∃a,fx T qZ K (dW dN cI (ik f Z bt K.af K.h (c bt)) eW a) (G (i.U (a.put (h 28) (.tuple #[])) (.inRegion oF []::.code ob::eX)) ah) b d
end
def SQ(j:nW K.h cI)(e:i.roundOf=n){C}{b}(d:wT f Z bt K dN cI i eX ah C b):
  du (af.aH T 162 K.h) (dQ K.h) (q' T 162 K (Gn f Z bt K dN cI i eX ah) (wT f Z bt K dN cI i eX ah)) C b:=by
 obtain⟨a,d⟩:=d;have k:(oF[0]?).bind (·.dst)=h 28:=by rw[Lt];rfl
 rw[rv e]at d;refine SR (P:=T) (L:=qZ) (hU:=i) (hT:=⟨a.tmps,a.defers++i.defers⟩) (gp:=oF) (hY:=0) (h1:=[]) (h0:=.code ob::eX) (ah:=ah) wz (dW.eC j) (λC b g=>⟨a,?_⟩) (λC b m=>⟨a,?_⟩) d
 .rw[rv e];rw[k]at g;exact g
 grind[rv]
def acD{P}{ty}{F j}{f:ai->a6->Prop}:∀g{a:ai}{b:a6},du (af.aH P ty K.h) (dQ K.h) (λa b=>oY P ty K F val j f g a b) a b->oY P ty K F val j f g a b
 |0,_,_,d=>du.bind d λ_ _ e=>e
 |_+1,_,_,d=>du.bind d λ_ _ e=>e
def acC(Q:bK (af.c7 T) 111 (nh f))(M:K.aJ=2)(s:nW K.h cI)(x:i.roundOf=n)(r:i.kind≠.early)(F:dN.length<=5)(H:c bt<=4000000)(O:∀d,d<c bt->val d 0=.string ⟨((dd f Z (bt.getD d 0)).getD []).toArray⟩)(I:∀d,d<c bt->val d 1=.bool (dd f Z (bt.getD d 0)).isSome):
  ∀o,o<=c bt->∀a b,dW dN cI (ik f Z bt K.af K.h (c bt-o)) eW a b->WgLive 162 K.h b.a ->
   oY T 162 K (2*c bt) val (c bt) (wT f Z bt K dN cI i eX ah) o (G (i.U a (.code hH::.inLoop hH::.inBlock 0::.code lP::eX)) ah) b:=by
 intro o;induction o with
 |zero=>
  intro _ a b e k;rw[sD]at e;have:=cj.cZ (W:=dQ K.h) (aem (q:=af.aH T 162 K.h) (eX:=eX) (ah:=ah) (br:=λj b=>∃a,j=G (Frame.enter T 112 #[.pointer (h ⟨K.h,0,n⟩)] .normal) (i.U a (.inRegion oF [0]::.code ob::eX)::ah)/\dW dN cI (ik f Z bt K.af K.h (c bt)) eW a b) r e λp u m=>.stop ⟨p,rfl,m⟩) (s.step e.a2).clear k;refine du.bind this ?_;rintro j b ⟨⟨a,rfl,e⟩,k⟩;exact aey (P:=T) (L:=qZ) (K:=K) wz (dW.eC s) (λj b y=>⟨a,y⟩) ⟨e,k⟩
 |succ o E=>
  intro U a b e k;have g:c bt-(o+1)<c bt:=w;generalize S:c bt-(o+1)=d at e g;have:=cj.cZ (W:=dQ K.h) (toAdd (q:=af.aH T 162 K.h) (eX:=.code lP::eX) (ah:=ah) (br:=λj b=>∃a,j=G (Frame.enter T 108 #[.pointer (h ⟨K.h,0,n⟩),.int .i64 1] .normal) (i.U a (.inRegion px [0]::tk (.code lP::eX))::ah)/\dW dN cI (kX f Z bt K.af K.h d) kp a b) g r e λp u m=>Uf r m λN A=>.stop ⟨p,rfl,A⟩) (s.step e.a2).clear k;refine du.bind this ?_;rintro j b ⟨⟨a,rfl,e⟩,k⟩;have D:(px[0]?).bind (·.dst)=h 25:=by rw[Lr];rfl
  rw[rv x];refine SI (P:=T) (L:=qZ) (K:=K) (ee:=dW dN cI (kX f Z bt K.af K.h d) kp a) wz (dW.eC s) (λb B=>?_) ⟨e,k⟩;rw[D];have:=cj.cZ (W:=dQ K.h) (toGo (q:=af.aH T 162 K.h) (eX:=.code lP::eX) (ah:=ah) (br:=λj b=>∃t a,j=G (i.U a (.inRegion oE [1]::.inBlock 1::.code oa::.inLoop hH::.inBlock 0::.code lP::eX)) ah/\dW dN cI (kX f Z bt K.af K.h d) kp a b/\Rd b.D t (sV f Z bt K.af K.h d)/\a.tmps.getD 26 J=t) r B.1 λt p u m C z=>.stop ⟨t,p,rfl,m,C,z⟩) (s.step B.1.a2).clear B.2;rw[rv x]at this;refine du.bind this ?_;rintro j b ⟨⟨t,a,rfl,e,C,z⟩,k⟩;rw[S];refine⟨.leaf,S1 Q M x r g (O d g) (I d g) e k C z λu m R=>?_⟩;refine acD o ?_;have:=cj.cZ (W:=dQ K.h) (ael (q:=af.aH T 162 K.h) (eX:=.code lP::eX) (ah:=ah) (br:=λj b=>∃a,j=G (i.U a (.code hH::.inLoop hH::.inBlock 0::.code lP::eX)) ah/\dW dN cI (ik f Z bt K.af K.h (d+1)) eW a b) g H r F m λp u m=>.stop ⟨p,rfl,m⟩) (s.step m.a2).clear R;refine du.bind this ?_;rintro j b ⟨⟨a,rfl,e⟩,k⟩;refine⟨.leaf,E w a b ?_ k⟩;grind
end
end
section
variable {q:af T}[q.b1]
def Tj(o):∀b,b<c o->c (bu.fn o b)=2/\∀e∈bu.fn o b,nv e=l:=by intro b _;refine⟨a,λe d=>?_⟩;simp only[c5.fn,gI,bu,eT,rq,or_false]at d;rcases d with rfl|rfl<;>rfl
abbrev m6(b:m cJ)(a:m X):Prop:=eo 2 (c b) (bu.fn b) a
abbrev Bi(a:fv)(d:Nat)(b:m X):aq:=.K (cu 81 2 a d b)
abbrev adI(a:fv)(d:Nat)(b:Bool):y:=.S [.Q (.v (c6 a d)),.Q (.c (.bool b))]
def YF(o)(a d):bl (ι:={b:fv×m X // m6 (jE o a d).1 b.2}) q 67 [bu.B o,b2 a,b2 d] [] (λb=>adI b.1.1 (jE o a d).1.length (jE o a d).2) (λb=>[Bi b.1.1 (jE o a d).1.length b.1.2]):=
 (JO o a d).thaw func67 rfl (by simp[DT,vV,vU,r4,nu,nv]) (Tj _)
def eo.nil{f}:eo f 0 V []:=⟨by simp,λb a=>by omega,λb a=>by omega⟩
def abq{o}{d e}(a:(jE o d e).2=l):(jE o d e).1.length<=6:=by
 unfold jE at a⊢;split at a
 .rename_i i;rw[bo i];split at a
  .rename_i b;rw[bo b];exact NE b
  grind
 grind
def SV{b d:ae}(e:r.op=.call {callee:=.builtin .append,args:=#[b,d],argTypes:=#[45,45]}):j_ T r b d 81 rS:=
 ⟨⟨45,45,Dl,Dl,e,(bc _ _ a),rfl,(bc _ _ a),rfl⟩,(bc _ _ a),by decide,by decide⟩
def Mh{b}(d:c b<=9223372036854775807):Rd bB (jr b) (.T b):=Rd.T a d
def m6.gC{o}{ag}(p:m6 o ag)(b d)(j:c b<=9223372036854775807)(k:c d<=9223372036854775807):m6 (o++[(b,d)]) (ag++[jr b,jr d]):=by
 unfold m6;rw[c9];refine eo.gC p (λr f=>?_) a a λg q e=>?_
 .simp[c5.fn,gI,aj,jm f]
 have m:bu.fn (o++[(b,d)]) (c o)=[.T b,.T d]:=by simp[c5.fn,gI,bu]
 rw[m]at e;rcases g with _|_|g
 .simp at e;subst e;exact⟨jr b,a,λi=>Mh j⟩
 .simp at e;subst e;exact⟨jr d,a,λi=>Mh k⟩
 grind
def m6.jL{o}{ag}(m:m6 o ag)(e)(b:e<c o)(d)(j:m' z [.c (.T d)]):m6 (o.set e ((o.getD e bu.E).1,d)) (ag.take (e*2+1)++z++ag.drop (e*2+1+c z)):=by
 unfold m6;rw[xb];refine eo.fi m e 1 b j (bC _) (λr q g=>?_) a λf p i=>?_
 .simp[c5.fn,gI,aj,p' g]
 have k:bu.fn (o.set e ((o.getD e bu.E).1,d)) e=[.T (o.getD e bu.E).1,.T d]:=by simp[c5.fn,gI,bu,aj,b]
 rw[k]at i;rcases f with _|_|f
 .right;exact bE
 .grind
 grind
structure uD(f t:Nat) where
 dU:m cJ
 gI:fv
 hY:m X
 k1:Nat
 iQ:m6 dU hY
 kg:c dU<=7
 iX:f<=k1
 j_:k1<=f+t
set_option maxRecDepth 20000 in
def YB(A)(i:Nat->Int)(s:Bytes i)(f)(ah:f<=50000)(x:A<=1048576):
  bl (ι:=uD f 400) q 40 [aH 0 0] [e6 A i f] (λo=>cN (c6 o.gI (c o.dU))) (λo=>[e6 A i o.k1,Bi o.gI (c o.dU) o.hY]):=by
 refine bl.cb func40 rfl rfl rfl λH=>?_;refine gH [] 9 a B (g.jx 3 81 2 a λW=>?_);refine aQ a B (g.a1 (gC A i s f 6 w x w) [0] a bk ?_);rintro⟨E,al,an⟩;refine aQ a B (g.aB 2 (λb:Nat×m cJ×fv×m X×Nat=>b.1<=5/\m6 b.2.1 b.2.2.2.1/\c b.2.1<=6/\f<=b.2.2.2.2/\b.2.2.2.2+70*b.1<=f+351) (λb=>[(0,aH 0 0),(4,Q b.1),(3,cN (c6 b.2.2.1 (c b.2.1)))]) (λb=>[e6 A i b.2.2.2.2,Bi b.2.2.1 (c b.2.1) b.2.2.2.1]) (λb=>b.1) (E.toNat,[],W,[],f+1) a bM a D a ⟨by omega,eo.nil,by simp,by simp,by grind⟩ ?_);rintro⟨j,e,bP,ag,k1⟩ ⟨Z,p,ae,G,aa⟩;simp only at Z p ae G aa;by_cases P:0<j
 .refine a3 [11] a (by simp[P]) (g.a1 (Jt A i s k1 w x) [0] a bk ?_);rintro⟨k,ab⟩;refine aQ a B (g.a1 (Yz A i s (k1+1+1) w x) [0] a bk ?_);rintro⟨⟨O,S⟩,af,aq,ai⟩;simp only at af aq ai;refine aQ a B (g.iz (YF e k O) 1 0 a a a a (cu.fJ a (bu.fn e) p.rd) a D a bk bk a ?_);rintro⟨⟨F,C⟩,T⟩;simp only at T⊢;cases y:(jE e k O).2 with
  |true=>
   have M:=abq y;generalize(jE e k O).1=K at T M⊢;refine gH [] 6 a B (g.swap 1 2 ca a a (λE I J=>J.1) (λE I J=>J.1) ?_);refine a3 [23] a j8 (g.aw (j-1,K,F,C,S) a bM D N ?_);grind
  |false=>
   refine a3 [-23] a bE (g.aw (j-1,e,bP,ag,S) a bM D N ?_);grind
 obtain rfl:j=0:=w;refine a3 [-11] a D (g.az ?_);refine aQ a B (g.a1 (gC A i s k1 40 w x w) [0] a bk ?_);rintro⟨V,aM,av⟩;by_cases L:V=0
 .refine a3 [27] a (by simp[L]) (g.a1 (Jt A i s (k1+1) w x) [0] a bk ?_);rintro⟨k,ab⟩;refine aQ a B (g.fu (d:=1) (bP:=bP) (ag:=ag) (j:=c e) (h6:=[jr k,jr [97]]) (SV a) a a a a a a a a (λau E aB t aw ay=>?_) (by show _*32<=_;omega) λF=>?_)
  .grind [EK]
  refine aQ a B (g.bu ⟨e++[(k,[97])],F,ag++[jr k,jr [97]],k1+1+1+1,p.gC k [97] w ca,by grind,by omega,by omega⟩ (g.aI [0,1] a D ?_ (t:=nT)));grind
 by_cases ar:V=1
 .by_cases R:0<c e
  .refine g.fC (cu.len (d:=1) a) λao=>?_;obtain⟨Y,r,rfl⟩:=ao.2.2.1 R;refine a3 [-27,35,39] a bw (g.eS bc 1 a a a a a a a N a a λz u=>?_);have ak:=p.jL 0 R [65] u;refine aQ a B (g.bu ⟨e.set 0 ((e.getD 0 bu.E).1,[65]),.row Y r,_,k1+1,ak,by grind,by omega,by omega⟩ (g.aI [0,1] a D ?_ (t:=nT)));grind
  cases bP;all_goals
   refine a3 [-27,35,-39] a ?_ (g.bu ⟨e,_,ag,k1+1,p,by omega,by omega,by omega⟩ (g.aI [0,1] a ?_ ?_))
   .simp[R,ar]<;>omega
   .simp
   grind
 refine a3 [-27,-35] a bw (g.bu ⟨e,bP,ag,k1+1,p,by omega,by omega,by omega⟩ (g.aI [0,1] a D ?_));grind
def YC(A)(b:Nat->Int)(g:Bytes b)(f)(d:f<=50000)(e:A<=1048576):
  bl (ι:=uD f 400) q 40 [aH 0 0] [e6 A b f] (λa=>bu.B a.dU) (λa=>[e6 A b a.k1]):=
 bl.e4 (aU:=λa:uD f 400=>[e6 A b a.k1]) (f:=2) (j:=λa:uD f 400=>c a.dU) (V:=λa:uD f 400=>bu.fn a.dU) (YB A b g f d e) (λa=>a.iQ) bk (λ_=>bC _)
end
section
open Go.Proofs Go.Extern
abbrev gj:ak:=196
abbrev dP:ak:=194
abbrev pL:ak:=325
abbrev aZ(a:ak):X:=.pointer (h ⟨6,a,n⟩)
abbrev mP(a:ak):X:=.iface pL (.agg #[aZ a])
abbrev kD(d:ak)(b:Nat)(a:Int):X:=.agg #[aZ d,.pointer (h ⟨b,0,n⟩),.int .u64 a]
def N4:jG T 221 λargs=>ReflectliteValue.unpack (args.getD 0 (.tuple #[])):=⟨_,Tryz.func221,by kernel_rfl,by kernel_rfl,by kernel_rfl,by kernel_rfl⟩
def abJ(a)(p):(ReflectliteValue.unpack (.iface gj (.pointer (h a)))).run T p=.ok (kD gj p.heap.size 150) (p.alloc (.cells #[.pointer (h a)] gj)):=bG
def T'(a)(p)(V):(ReflectliteValue.unpack (.iface gj (.pointer (h a)))).events T p V=V:=bG
def abI(a)(p):(ReflectliteValue.unpack (.iface dP (.pointer (h a)))).run T p=.ok (kD dP p.heap.size 150) (p.alloc (.cells #[.pointer (h a)] dP)):=bG
def T_(a)(p)(V):(ReflectliteValue.unpack (.iface dP (.pointer (h a)))).events T p V=V:=bG
def aeX:jG T 222 (ReflectliteValue.methodAny (ReflectliteValue.valueError "reflectlite.Value.Type" 0) λa _ _ _=>ReflectliteType.toType a):=⟨_,Tryz.func222,by kernel_rfl,by kernel_rfl,by kernel_rfl,by kernel_rfl⟩
def abG(C)(p):(ReflectliteValue.methodAny (ReflectliteValue.valueError "reflectlite.Value.Type" 0) (λa _ _ _=>ReflectliteType.toType a) #[kD gj C 150]).run T p=.ok (mP gj) p:=bG
def T8(C)(p)(V):(ReflectliteValue.methodAny (ReflectliteValue.valueError "reflectlite.Value.Type" 0) (λa _ _ _=>ReflectliteType.toType a) #[kD gj C 150]).events T p V=V:=bG
def KX(b)(p):(Go.method (Tryz.prog.types.size+Made.depth) pL (.agg #[b]) "Kind").run T p=.ok (342,b) p/\∀a,(Go.method (Tryz.prog.types.size+Made.depth) pL (.agg #[b]) "Kind").events T p a=a:=⟨by kernel_rfl,λa=>by kernel_rfl⟩
def N3:jG T 342 (ReflectliteType.abiMethod λa=>do pure (.int .u8 (<-Rtype.kind a))):=⟨_,Tryz.func342,by kernel_rfl,by kernel_rfl,by kernel_rfl,by kernel_rfl⟩
def abE(p):((ReflectliteType.abiMethod λa=>do pure (.int .u8 (<-Rtype.kind a))) #[aZ gj]).run T p=.ok (.int .u8 22) p:=bG
def T7(p)(V):((ReflectliteType.abiMethod λa=>do pure (.int .u8 (<-Rtype.kind a))) #[aZ gj]).events T p V=V:=bG
def abD(p):((ReflectliteType.abiMethod λa=>do pure (.int .u8 (<-Rtype.kind a))) #[aZ dP]).run T p=.ok (.int .u8 22) p:=bG
def T6(p)(V):((ReflectliteType.abiMethod λa=>do pure (.int .u8 (<-Rtype.kind a))) #[aZ dP]).events T p V=V:=bG
def aeQ:jG T 223 (ReflectliteValue.method (ReflectliteValue.valueError "reflectlite.Value.IsNil" 0) ReflectliteValue.isNil):=⟨_,Tryz.func223,by kernel_rfl,by kernel_rfl,by kernel_rfl,by kernel_rfl⟩
def Mn(d)(b:ak->Addr->Nat->Nat->Sem X)(aa):ReflectliteValue.method d b #[aa]=(do match<-ReflectliteValue.parts aa with|none=>d|some (f,e,a)=>b f e a (a % 32)):=rfl
def tD(C)(p):(ReflectliteValue.parts (kD gj C 150)).run T p=.ok (h (gj,⟨C,0,n⟩,150)) p/\∀a,(ReflectliteValue.parts (kD gj C 150)).events T p a=a:=⟨by kernel_rfl,λa=>by kernel_rfl⟩
def abC(C)(g)(p)(e:p.cell? ⟨C,0,n⟩=h (.pointer (h g))):(ReflectliteValue.method (ReflectliteValue.valueError "reflectlite.Value.IsNil" 0) ReflectliteValue.isNil #[kD gj C 150]).run T p=.ok (.bool v) p /\
  ∀a,∀b∈(ReflectliteValue.method (ReflectliteValue.valueError "reflectlite.Value.IsNil" 0) ReflectliteValue.isNil #[kD gj C 150]).events T p a,b∈a∨b=⟨.cell ⟨C,0,n⟩,v,v⟩:=by
 have f:=Tryz.underlying196;rw[Mn];constructor
 .simp only[cL,(tD C p).1,c'];simp[ReflectliteValue.isNil,loadVar,isAgg,underlying,f,e]
 intro a b d;simp only[aC,cL,(tD C p).1,(tD C p).2,c',aF]at d;simpa[ReflectliteValue.isNil,loadVar,isAgg,underlying,f,e,show(Mode.plain==Mode.atomic)=v from rfl]using d
def aaj(b)(p):(Go.method (Tryz.prog.types.size+Made.depth) pL (.agg #[b]) "Elem").run T p=.ok (361,.agg #[b]) p/\∀a,(Go.method (Tryz.prog.types.size+Made.depth) pL (.agg #[b]) "Elem").events T p a=a:=⟨by kernel_rfl,λa=>by kernel_rfl⟩
def aeN:jG T 361 (ReflectliteType.method ReflectliteType.elem):=⟨_,Tryz.func361,by kernel_rfl,by kernel_rfl,by kernel_rfl,by kernel_rfl⟩
def abz(p):(ReflectliteType.method ReflectliteType.elem #[.agg #[aZ gj]]).run T p=.ok (mP dP) p:=bG
def T3(p)(V):(ReflectliteType.method ReflectliteType.elem #[.agg #[aZ gj]]).events T p V=V:=bG
def aak(b)(p):(Go.method (Tryz.prog.types.size+Made.depth) pL (.agg #[b]) "Implements").run T p=.ok (362,.agg #[b]) p/\∀a,(Go.method (Tryz.prog.types.size+Made.depth) pL (.agg #[b]) "Implements").events T p a=a:=⟨by kernel_rfl,λa=>by kernel_rfl⟩
def aeP:jG T 362 (ReflectliteType.relation "Implements" ReflectliteType.implements_):=⟨_,Tryz.func362,by kernel_rfl,by kernel_rfl,by kernel_rfl,by kernel_rfl⟩
def abB(p):(ReflectliteType.relation "Implements" ReflectliteType.implements_ #[.agg #[aZ dP],mP 191]).run T p=.ok (.bool l) p:=bG
def T5(p)(V):(ReflectliteType.relation "Implements" ReflectliteType.implements_ #[.agg #[aZ dP],mP 191]).events T p V=V:=bG
def aai(b)(p):(Go.method (Tryz.prog.types.size+Made.depth) pL (.agg #[b]) "AssignableTo").run T p=.ok (359,.agg #[b]) p/\∀a,(Go.method (Tryz.prog.types.size+Made.depth) pL (.agg #[b]) "AssignableTo").events T p a=a:=⟨by kernel_rfl,λa=>by kernel_rfl⟩
def aeI:jG T 359 (ReflectliteType.relation "AssignableTo" ReflectliteType.assignableTo):=⟨_,Tryz.func359,by kernel_rfl,by kernel_rfl,by kernel_rfl,by kernel_rfl⟩
def aby(p):(ReflectliteType.relation "AssignableTo" ReflectliteType.assignableTo #[.agg #[aZ dP],mP dP]).run T p=.ok (.bool l) p:=bG
def T2(p)(V):(ReflectliteType.relation "AssignableTo" ReflectliteType.assignableTo #[.agg #[aZ dP],mP dP]).events T p V=V:=bG
def aeY:jG T 273 ReflectliteType.typeOf:=⟨_,Tryz.func273,by kernel_rfl,by kernel_rfl,by kernel_rfl,by kernel_rfl⟩
def abH(aa)(p):(ReflectliteType.typeOf #[.iface dP aa]).run T p=.ok (mP dP) p:=bG
def T9(aa)(p)(V):(ReflectliteType.typeOf #[.iface dP aa]).events T p V=V:=bG
def aeO:jG T 274 (ReflectliteValue.method (ReflectliteValue.valueError "reflectlite.Value.Elem" 0) ReflectliteValue.elem):=⟨_,Tryz.func274,by kernel_rfl,by kernel_rfl,by kernel_rfl,by kernel_rfl⟩
def Mb(p):(Rtype.elem? gj).run T p=.ok (h dP) p/\∀a,(Rtype.elem? gj).events T p a=a:=⟨by kernel_rfl,λa=>by kernel_rfl⟩
def Mc(b)(p):(ReflectliteValue.mk dP b ReflectliteValue.flagAddr).run T p=.ok (.agg #[aZ dP,.pointer (h b),.int .u64 406]) p/\∀a,(ReflectliteValue.mk dP b ReflectliteValue.flagAddr).events T p a=a:=⟨by kernel_rfl,λa=>by kernel_rfl⟩
def abA(C)(g)(p)(e:p.cell? ⟨C,0,n⟩=h (.pointer (h g))):(ReflectliteValue.method (ReflectliteValue.valueError "reflectlite.Value.Elem" 0) ReflectliteValue.elem #[kD gj C 150]).run T p=.ok (.agg #[aZ dP,.pointer (h g),.int .u64 406]) p /\
  ∀a,∀b∈(ReflectliteValue.method (ReflectliteValue.valueError "reflectlite.Value.Elem" 0) ReflectliteValue.elem #[kD gj C 150]).events T p a,b∈a∨b=⟨.cell ⟨C,0,n⟩,v,v⟩:=by
 have f:=Tryz.underlying196;rw[Mn];constructor
 .simp only[cL,(tD C p).1,c'];simp[ReflectliteValue.elem,loadVar,isAgg,underlying,f,e,Mb,Mc]
 intro a b d;simp only[aC,cL,(tD C p).1,(tD C p).2,c',aF]at d;simpa[ReflectliteValue.elem,loadVar,isAgg,underlying,f,e,Mb,Mc,show(Mode.plain==Mode.atomic)=v from rfl]using d
def aeW:jG T 275 ReflectliteValue.set:=⟨_,Tryz.func275,by kernel_rfl,by kernel_rfl,by kernel_rfl,by kernel_rfl⟩
def abP(aa b):ReflectliteValue.set #[aa,b]=(do
  let (h (t,a,Y_),h (src,i,_)):=(<-ReflectliteValue.parts aa,<-ReflectliteValue.parts b)
   |unsupported (.noEntry "extern/(internal/reflectlite.Value).Set.zeroValue")
  if Y_ / ReflectliteValue.flagAddr % 2==0 then unsupported (.noEntry "extern/(internal/reflectlite.Value).Set.unaddressable")
  let val<-loadVar src i
  if<-Rtype.directlyAssignable t src then storeVar t a val
  else if<-Rtype.implements t src then
   if(<-Rtype.kind src)==20 then
    match val with
    |.nilIface=>unsupported (.noEntry "extern/reflectlite: a nil value of one interface type handed on as a value of another")
    |_=>storeVar t a val
   else storeVar t a (.iface src val)
  else panicString ("reflectlite.Set: value of type "++(<-Rtype.spelt src)++ " is not assignable to type "++(<-Rtype.spelt t))
  pure (.tuple #[])):=rfl
def Ed(b)(p):(ReflectliteValue.parts (.agg #[aZ dP,.pointer (h b),.int .u64 406])).run T p=.ok (h (dP,b,406)) p/\∀a,(ReflectliteValue.parts (.agg #[aZ dP,.pointer (h b),.int .u64 406])).events T p a=a:=⟨by kernel_rfl,λa=>by kernel_rfl⟩
def Ee(C)(p):(ReflectliteValue.parts (kD dP C 150)).run T p=.ok (h (dP,⟨C,0,n⟩,150)) p/\∀a,(ReflectliteValue.parts (kD dP C 150)).events T p a=a:=⟨by kernel_rfl,λa=>by kernel_rfl⟩
def Ma(p):(Rtype.directlyAssignable dP dP).run T p=.ok l p/\∀a,(Rtype.directlyAssignable dP dP).events T p a=a:=⟨by kernel_rfl,λa=>by kernel_rfl⟩
def Md(p):(sizeOf dP).run T p=.ok 1 p/\∀a,(sizeOf dP).events T p a=a:=⟨by kernel_rfl,λa=>by kernel_rfl⟩
def abF(C i)(W)(ce)(d)(p)(o:p.heap[C]?=h (.cells #[ce] W (0,0)))(m:p.cell? ⟨i,0,n⟩=h (.pointer (h d))):
  (ReflectliteValue.set #[.agg #[aZ dP,.pointer (h ⟨C,0,n⟩),.int .u64 406],kD dP i 150]).run T p=.ok (.tuple #[]) (p.setRow C #[.pointer (h d)]) /\
  ∀b,∀e∈(ReflectliteValue.set #[.agg #[aZ dP,.pointer (h ⟨C,0,n⟩),.int .u64 406],kD dP i 150]).events T p b,e∈b∨e=⟨.cell ⟨i,0,n⟩,v,v⟩∨e=⟨.cell ⟨C,0,n⟩,l,v⟩:=by
 have k:=Tryz.underlying194;have g:∀p∈[Value.pointer (h d)],p.oneCell'=l:=λp t=>by simp at t;exact bE
 have s:=run_storeCells_at T C 0 W [.pointer (h d)] 0 #[ce] p o D g;have f:(storeCells ⟨C,0,n⟩ [.pointer (h d)] 0).run T p=.ok () (p.setRow C #[.pointer (h d)]):=s;rw[abP];constructor
 .simp only[cL,(Ed ⟨C,0,n⟩ p).1,(Ee i p).1,c'];simp[ReflectliteValue.flagAddr,loadVar,isAgg,underlying,k,m,Ma,storeVar,Value.cells,Md,f]
 intro b e j;simp only[aC,cL,(Ed ⟨C,0,n⟩ p).1,(Ed ⟨C,0,n⟩ p).2,(Ee i p).1,(Ee i p).2,c',aF]at j;have q:e∈(storeCells ⟨C,0,n⟩ [.pointer (h d)] 0).events T p (b.push ⟨.cell ⟨i,0,n⟩,v,v⟩):=by simpa[ReflectliteValue.flagAddr,loadVar,isAgg,underlying,k,m,Ma,storeVar,Value.cells,Md,f,show(Mode.plain==Mode.atomic)=v from a]using j
 rcases np [.pointer (h d)] 0 #[ce] p _ o D g e q with u|⟨r,x,w,rfl⟩
 .grind
 obtain rfl:r=0:=N;exact .inr (.inr a)
end
section
open Go.Proofs Go.Extern
variable {q:af T}
abbrev AA:aq:=.K (ef 0 273 (mP 191))
abbrev oe(a:X):y:=ay (.val a)
abbrev x'(d:ak)(b:Nat)(a:Int):y:=.n (.agg [.c (.val (aZ d)),.c (.val (.pointer (h ⟨b,0,n⟩))),.c (.val (.int .u64 a))])
abbrev GM(d:Addr)(a b:Nat):m aq:=[.K (ef b gj (.pointer (h ⟨a,0,n⟩))),.K (ef a dP (.pointer n))]
def JY:∀a,a<2->([0,1]:m Nat)[a]?=h a:=ca
def Uu(b)(C i):Y q 224 [oe (.iface dP (.pointer (h b))),oe (.iface gj (.pointer (h ⟨C,0,n⟩))),x' gj i 150,oe (mP dP)] (GM b C i) (bg l) [.K (ef i gj (.pointer (h ⟨C,0,n⟩))),.K (ef C dP (.pointer (h b)))]:=by refine Y.ab Tryz.func224 rfl λm=>?_;refine aQ a B ?_;refine g.dF 3 [0,1,3,6] (λ_:Unit=>True) (λ_=>[]) (λ_=>GM b C i++[.cells 270 [.c (.val (aZ gj)),.c (.val (.pointer (h ⟨i,0,n⟩))),.c (.val (.int .u64 150))]]) (λ_=>0) () a D a D a B λ_ _=>?_;refine aQ a B ?_;refine g.cX a a (ei.eb (h8.dZ a a) aeY (abH _) (T9 _) (E:=oe (mP dP)) λ_=>Rd.val a) λ_=>?_;refine aQ a B ?_;refine g.cX a a (ei.eb (h8.invoke a a a (aai _)) aeI aby T2 (E:=bg l) λ_=>Rd.bool) λ_=>?_;refine a3 [19] a D ?_;refine g.cX a a (ei.g1 0 (bA:=.pointer (h ⟨C,0,n⟩)) a (h8.dZ a a) aeO (λe f=>abA i ⟨C,0,n⟩ e f) (E:=x' dP C 406) λ_=>⟨_,a,Rd.val a,Rd.val a,Rd.val a,B⟩) λ_=>?_;refine aQ a B ?_;refine g.cX a a (ei.gZ (W:=dP) (bA:=.pointer (h b)) (aa:=λd=>kD dP d 150) (E:=λd=>x' dP d 150) (h8.dZ a a) N4 (abI b) (T_ b) λd _ _=>⟨_,a,Rd.val a,Rd.val a,Rd.val a,B⟩) λd=>?_;refine aQ a B ?_;refine g.cX a a (ei.iK 1 3 (ce:=.pointer n) (bA:=.pointer (h b)) a a (h8.dZ a a) aeW (λe k j=>abF C d dP _ b e k j) (E:=.S []) λ_ _=>⟨[],a,B⟩) λ_=>?_;refine aQ a B (g.aS (bW.mk [0,1] a ?_ a a a JY));simp
def NT{ac}{e g:ae}(s:r.op=.binOp op o e g ty){t}{cz}(j:P.underlying o=h (.interface cz))(z:η e=ay (.val (.iface ac aa)))(y:η g=ay .bD)(x:∀p,(eqGuard op o e g (.iface ac aa) .nilIface).run P p=.ok () p)(al:∀p a,(eqGuard op o e g (.iface ac aa) .nilIface).events P p a=a)(d:ih op v=h t):a2 P r η k (ay (.bool t)) k:=by
 refine .aQ λb u D w=>?_;have q:=w e;have m:=w g;rw[z]at q;rw[y]at m;replace q:=b8 q;replace m:=b8 m;generalize i:u e=A at q;generalize O:u g=B at m;cases q;cases m;have f:(Op.equal o (.iface ac aa) .nilIface).run P b.a=.ok v b.a:=Q6;have C:∀a,(Op.equal o (.iface ac aa) .nilIface).events P b.a a=a:=λa=>by show(aL (9999+1) o _ _).events P b.a a=a;unfold aL;simp[underlying,j]
 cases op<;>simp only[ih,reduceCtorEq,e_]at d
 .exact Rk
 exact QN
def Ut(e)(C):Y q 144 [oe (.iface dP (.pointer (h e))),oe (.iface gj (.pointer (h ⟨C,0,n⟩)))] [AA,.K (ef C dP (.pointer n))] (bg l) [AA,.K (ef C dP (.pointer (h e)))]:=by refine Y.ab Tryz.func144 rfl λj=>?_;refine aQ a B ?_;refine g.aK (NT a Tryz.underlying191 a a bk (λ_ _=>rfl) a) a a ?_;refine a3 [-9] a D ?_;refine g.aK (NT a Tryz.underlying20 a a bk (λ_ _=>rfl) a) a a ?_;refine a3 [-11] a D ?_;refine g.cX a a (ei.gZ (W:=gj) (bA:=.pointer (h ⟨C,0,n⟩)) (aa:=λd=>kD gj d 150) (E:=λd=>x' gj d 150) (h8.dZ a a) N4 (abJ _) (T' _) λd _ _=>⟨_,a,Rd.val a,Rd.val a,Rd.val a,B⟩) λb=>?_;refine aQ a B ?_;refine g.cX a a (ei.eb (h8.dZ a a) aeX (abG b) (T8 b) (E:=oe (mP gj)) λ_=>Rd.val a) λ_=>?_;refine aQ a B ?_;refine g.cX a a (ei.eb (h8.invoke a a a (KX _)) N3 abE T7 (E:=ay (.int .u8 22)) λ_=>Rd.int lF) λ_=>?_;refine a3 [-20] a D ?_;refine g.cX a a (ei.g1 2 (bA:=.pointer (h ⟨C,0,n⟩)) a (h8.dZ a a) aeQ (λi f=>abC b ⟨C,0,n⟩ i f) (E:=bg v) λ_=>Rd.bool) λ_=>?_;refine a3 [-23] a D ?_;refine g.cX a a (ei.eb (h8.invoke a a a (aaj _)) aeN abz T3 (E:=oe (mP dP)) λ_=>Rd.val a) λ_=>?_;refine aQ a B ?_;refine g.cX a a (ei.eb (h8.invoke a a a (KX _)) N3 abD T6 (E:=ay (.int .u8 22)) λ_=>Rd.int lF) λ_=>?_;refine a3 [30] a D ?_;refine g.Q (aY.gl bc 0 a a a a a a) a ?_;refine g.cX a a (ei.eb (h8.invoke a a a (aak _)) aeP abB T5 (E:=bg l) λ_=>Rd.bool) λ_=>?_;refine a3 [-35] a D ?_;refine g.aA (Uu e C b) [2,1] a ?_;refine aQ a B (g.aI [0,1] a ?_ JY);simp
end
end R1
abbrev zO(a b:bD)(d:Bool):y:=.S [.Q (.c (.T a)),.Q (.c (.T b)),.Q (.c (.bool d))]
namespace R1
variable {q:af T}
def V8(b)(t)(d:0<=t/\t<=255):Y q 289 [b2 b,ve t] [] (Q (Lib.indexByte b (UInt8.ofNat (Int.toNat t)))) []:=by
 have a:t=((UInt8.ofNat t.toNat).toNat:Int):=by grind[UInt8.toNat_ofNat']
 grind[V7]
def Bz:bH:=λargs b=>match args,b with
 |[.n (.Q (.c (.T d))),.n (.Q (.c (.int .u8 a)))],[]=>h (Q (Lib.indexByte d (UInt8.ofNat (Int.toNat a))),[],[0<=a/\a<=255])
 |_,_=>n
def t289:bK q 289 Bz:=by
 intro args i e f d a b;unfold Bz at a;split at a
 .cases a;exact(V8 _ _ (b)).args (λ_ _ g=>g)
 cases a
def If:m (Nat×bH):=(289,Bz)::Is
def Cc:a_ q If:=a_.cons t289 (TD)
def iH(a:bD):Int:=Lib.indexByte a 47
theorem V6(b):Y q 258 [b2 b,b2 [47]] [] (Q (iH b)) []:=by
 refine Y.ab func258 rfl λe=>?_;by_cases d:b=[47]
 .subst d;refine a8 Cc [-18,22] a D (g.ao a ?_);exact cV
 refine a8 Cc [-18,-22,26] a ?_ (g.ao a ?_)
 .simp[kn,dr];grind
 exact cV
def By:bH:=λargs a=>match args,a with
 |[.n (.Q (.c (.T b))),.n (.Q (.c (.T [47])))],[]=>h (Q (iH b),[],[])
 |_,_=>n
def ac_:bK q 258 By:=by intro args g b d a e f;unfold By at e;grind[V6]
def Ig:m (Nat×bH):=(258,By)::If
def Cd:a_ q Ig:=a_.cons ac_ (Cc)
def jT(a:bD):bD:=if 0<=iH a then a.take (iH a).toNat else a
def mw(a:bD):bD:=if 0<=iH a then a.drop ((iH a).toNat+1)else[]
def ko(a:bD):Bool:=decide (0<=iH a)
theorem U7(b):Y q 201 [b2 b,b2 [47]] [] (zO (jT b) (mw b) (ko b)) []:=by
 refine Y.ab func201 rfl λf=>?_;have i:=f.T 0 a;have e:=yQ b 47;change iH b<c b∨iH b=-1 at e;by_cases d:0<=iH b
 .have t:(iH b+1).toNat=(iH b).toNat+1:=w;refine a8 Cd [12] a ?_ (g.ao a ?_)
  .simp[d,a7];omega
  simp[jT,mw,ko,d,mv,t]
 refine a8 Cd [-12] a bM (g.ao a ?_);simp[jT,mw,ko,d]
def Bv:bH:=λargs b=>match args,b with
 |[.n (.Q (.c (.T a))),.n (.Q (.c (.T [47])))],[]=>h (zO (jT a) (mw a) (ko a),[],[])
 |_,_=>n
def ac7:bK q 201 Bv:=by intro args g b d a e f;unfold Bv at e;grind[U7]
def Ih:m (Nat×bH):=(201,Bv)::Ig
def H_:a_ q Ih:=a_.cons ac7 (Cd)
theorem U6(b):Y q 136 [b2 b,b2 [47]] [] (zO (jT b) (mw b) (ko b)) []:=by refine Y.ab func136 rfl λd=>?_;exact b9 H_ a B (g.ao a)
def Bq:bH:=λargs b=>match args,b with
 |[.n (.Q (.c (.T a))),.n (.Q (.c (.T [47])))],[]=>h (zO (jT a) (mw a) (ko a),[],[])
 |_,_=>n
def ac3:bK q 136 Bq:=by intro args g b d a e f;unfold Bq at e;grind[U6]
def jV(a:bD):Bool:=decide (c a=1)&&decide (97<=dr a 0)&&decide (dr a 0<=101)
theorem Vw(b):Y q 137 [b2 b] [] (bg (jV b)) []:=by
 refine Y.ab func137 rfl λe=>?_;by_cases d:c b=1
 .by_cases i:97<=dr b 0
  .refine a3 [5,9] a hI (g.ao a ?_);show decide (dr b 0<=101)=jV b;simp[jV,d,i]
  refine a3 [5,-9] a cV (g.ao a ?_);simp[jV,i]
 refine a3 [-5] a bM (g.ao a ?_);simp[jV,d]
def Br:bH:=λargs a=>match args,a with
 |[.n (.Q (.c (.T b)))],[]=>h (bg (jV b),[],[])
 |_,_=>n
def ac4:bK q 137 Br:=by intro args g b d a e f;unfold Br at e;grind[Vw]
def Ii:m (Nat×bH):=(136,Bq)::(137,Br)::Ih
def xV:a_ q Ii:=a_.cons ac3 (a_.cons ac4 (H_))
def j1(a:bD):Bool:=jV (jT a)&&(!ko a||jV (mw a))
theorem XG(b):Y q 92 [b2 b] [] (bg (j1 b)) []:=by
 refine Y.ab func92 rfl λe=>?_;cases x:jV (jT b)with
 |false=>
  refine a8 xV [-13] a nU (g.ao a ?_);simp[j1,x]
 |true=>
  cases d:ko b with
  |false=>
   refine a8 xV [13,-15] a ds (g.ao a ?_);simp[j1,x,d]
  |true=>
   refine a8 xV [13,15] a ds (g.ao a ?_);simp[j1,x,d]
def BI:bH:=λargs a=>match args,a with
 |[.n (.Q (.c (.T b)))],[]=>h (bg (j1 b),[],[])
 |_,_=>n
def adh:bK q 92 BI:=by intro args g b d a e f;unfold BI at e;grind[XG]
theorem WI(b):Y q 138 [b2 b] [] (bg (d6 b)) []:=by
 refine Y.ab func138 rfl λe=>?_;have m:=e.T 0 a;refine aQ a B (g.b7 (λd=>d<=c b/\∀u,u<d->jx (b.getD u 0)=l) (λd:Nat=>[(0,b2 b),(5,Q (c b)),(6,Q d)]) (λ_=>[]) (λd=>c b-d) 0 a D a B ⟨by omega,by omega⟩ ?_);rintro d ⟨f,t⟩;by_cases s:d<c b
 .generalize x:b.getD d 0=i;by_cases k:i.toNat<97
  .refine a3 [7,12] a ?_ (g.bR (bW.zero a ?_))
   .simp only[U,xE,bz,x];omega
   exact z_
  by_cases j:i.toNat>122
  .refine a3 [7,-12,17] a OZ (g.bR (bW.zero a ?_));exact z_
  refine a3 [7,-12,-17] a Q8 (g.b4 (d+1) a D a B ?_ ?_)
  .refine⟨by omega,λu O=>?_⟩;rcases w9.1 O with O|rfl
   .grind
   rw[x];simp only[jx,cp,bz];omega
  omega
 exact O7
def Bs:bH:=λargs a=>match args,a with
 |[.n (.Q (.c (.T b)))],[]=>h (bg (d6 b),[],[])
 |_,_=>n
def t138:bK q 138 Bs:=by intro args g b d a e f;unfold Bs at e;grind[WI]
def Ij:m (Nat×bH):=(92,BI)::(138,Bs)::Ii
def Ce:a_ q Ij:=a_.cons adh (a_.cons t138 (xV))
theorem JL(b):Y q 93 [b2 b] [] (bg (fO b)) []:=by
 refine Y.ab func93 rfl λe=>?_;by_cases d:c b<=40
 .refine a8 Ce [5] a bM (g.ao a ?_);simp[fO,d]
 refine a8 Ce [-5] a bM (g.ao a ?_);simp[fO,d]
def BJ:bH:=λargs a=>match args,a with
 |[.n (.Q (.c (.T b)))],[]=>h (bg (fO b),[],[])
 |_,_=>n
def adi:bK q 93 BJ:=by intro args g b d a e f;unfold BJ at e;grind[JL]
def ot(b a:bD):Bool:=decide (c a<=c b)&&(b.take (c a)==a)
theorem VJ(b d):Y q 140 [b2 b,b2 d] [] (bg (ot b d)) []:=by
 refine Y.ab func140 rfl λe=>?_;by_cases x:c d<=c b
 .refine a3 [9] a nU (g.ao a ?_);simp[ot,x,mv]
 refine a3 [-9] a bM (g.ao a ?_);simp[ot,x]
def Bu:bH:=λargs a=>match args,a with
 |[.n (.Q (.c (.T b))),.n (.Q (.c (.T d)))],[]=>h (bg (ot b d),[],[])
 |_,_=>n
def ac6:bK q 140 Bu:=by intro args g b d a e f;unfold Bu at e;grind[VJ]
def Ik:m (Nat×bH):=(93,BJ)::(140,Bu)::Ij
def H':a_ q Ik:=a_.cons adi (a_.cons ac6 (Ce))
theorem VI(b d):Y q 96 [b2 b,b2 d] [] (bg (ot b d)) []:=by refine Y.ab func96 rfl λe=>?_;exact b9 H' a B (g.ao a)
def BM:bH:=λargs a=>match args,a with
 |[.n (.Q (.c (.T b))),.n (.Q (.c (.T d)))],[]=>h (bg (ot b d),[],[])
 |_,_=>n
def adl:bK q 96 BM:=by intro args g b d a e f;unfold BM at e;grind[VI]
def Il:m (Nat×bH):=(96,BM)::Ik
def Ia:a_ q Il:=a_.cons adl (H')
end R1
def c5.jo(a:c5 α)(d)(f j)(k:f+j<=c d):a.ad j (fH f (a.fn d))=(d.drop f).take j:=by
 apply ru
 .simp[c5.ad];omega
 intro b e g;have i:b<j:=N;simp[c5.ad,fH,c5.fn,gI,aj,bJ (by omega:f+b<c d),a.inv]
def c5.iP(a:c5 α)(d){f}:a.bN j (fH f (a.fn d)):=λb _=>by simp[fH,c5.fn,gI,a.inv]
abbrev TQ(a b:bD):y:=ay (.R [.T a,.T b])
namespace R1
variable {q:af T}
def under(a b:bD):Bool:=ot a (b++[47])
def YJ(b)(d e)(i:c b.1<=4000000):Y q 95 [x8 b,TQ d e] [] (bg (under d b.1)) []:=by refine Y.ab func95 rfl λf=>?_;refine b9 Ia a bM (g.ao a ?_);exact cV
def BL:bH:=λargs e=>match args,e with
 |[.n (.agg [.c (.T a),.c (.T b)]),.n (.Q (.c (.R [.T f,.T d])))],[]=>h (bg (under f a),[],[c a<=4000000/\b=b/\d=d])
 |_,_=>n
def adk:bK q 95 BL:=by
 intro args m e f d a b;unfold BL at a;split at a
 .rename_i i g j k;cases a;exact YJ (i,g) j k b.1
 grind
def Im:m (Nat×bH):=(95,BL)::Il
def sW:a_ q Im:=a_.cons adk (Ia)
abbrev Cn(a b:bD):y:=ay (.fn (.func 95) [] [.R [.T a,.T b]])
def mG(e:m cJ)(d:bD):Int:=match e.findIdx? (λa=>under d a.1)with|some b=>b|none=>-1
def ZM{o}{a}(f:e<c o)(i:under a (cv o e)=l)(g:∀b,b<e->under a (cv o b)=v):mG o a=e:=by
 have:o.findIdx? (λd=>under a d.1)=h e:=by grind[List.findIdx?_eq_some_iff_getElem,pe]
 rw[mG,this]
theorem Ku{o}{a}(e:∀b,b<c o->under a (cv o b)=v):mG o a=-1:=by
 have:o.findIdx? (λd=>under a d.1)=n:=by grind[List.getElem_of_mem,pe]
 rw[mG,this]
def V3(o)(e k)(p:∀d,d<c o->c (cv o d)<=4000000):Y q 139 [bu.B o,Cn e k] [] (Q (mG o e)) []:=by
 refine Y.ab func139 rfl λm=>?_;have s:=m.B 0 a;refine b9 sW a B (g.b7 (λb=>b<=c o/\∀d,d<b->under e (cv o d)=v) (λb:Nat=>[(0,bu.B o),(1,Cn e k),(7,Q (c o)),(8,Q b)]) (λ_=>[]) (λb=>c o-b) 0 a D a B ⟨by omega,by omega⟩ ?_);rintro b ⟨r,j⟩;by_cases f:b<c o
 .have t:=p b f;cases i:under e (cv o b)with
  |true=>
   refine a8 sW [9,16] a ?_ (g.bR (bW.zero a ?_))
   .simp[-aj,f,kA,i];omega
   simp[ZM f i j]
  |false=>
   refine a8 sW [9,-16] a ?_ (g.b4 (b+1) a ?_ a B ?_ ?_)
   .simp[-aj,f,kA,i,a7];omega
   .simp
   .grind
   omega
 refine a8 sW [-9] a bM (g.bs a a ?_);refine b9 sW a B (g.ao a ?_);simp[Ku (λd u=>j d w)]
def zC(b:m cJ):Prop:=∀a,a<c b->c (cv b a)<=4000000
def Bt:bH:=λargs e=>match args,e with
 |[f,.n (.Q (.c (.fn (.func 95) [] [.R [.T g,.T d]])))],[]=>match jA 2 f with
  |none=>n
  |some (b,a)=>h (Q (mG (bu.ad b a) g),[],[bu.bN b a,zC (bu.ad b a),d=d])
 |_,_=>n
def ac5:bK q 139 Bt:=by
 intro args o g i f a b;unfold Bt at a;split at a
 .rename_i p k m;split at a
  .cases a
  rename_i r j d;cases a;exact(V3 _ k m b.2.1).args (λ_ z=>b5.imp (λ_=>bu.cu d b.1) (b5.imp (λ_ e=>e) (λ_ e=>e)) z)
 grind
def In:m (Nat×bH):=(139,Bt)::Im
def Ib:a_ q In:=a_.cons ac5 (sW)
def Ur(o)(b e)(d:zC o):Y q 94 [bu.B o,Cn b e] [] (bg (decide (0<=mG o b))) []:=by
 refine Y.ab func94 rfl λf=>?_;refine b9 Ib a ?_ (g.ao a ?_)
 .simp[bu.J,bu.l,d]
 simp[bu.l]
def BK:bH:=λargs e=>match args,e with
 |[f,.n (.Q (.c (.fn (.func 95) [] [.R [.T g,.T d]])))],[]=>match jA 2 f with
  |none=>n
  |some (b,a)=>h (bg (decide (0<=mG (bu.ad b a) g)),[],[bu.bN b a,zC (bu.ad b a),d=d])
 |_,_=>n
def adj:bK q 94 BK:=by
 intro args o g i f a b;unfold BK at a;split at a
 .rename_i p k m;split at a
  .cases a
  rename_i r j d;cases a;exact(Ur _ k m b.2.1).args (λ_ z=>b5.imp (λ_=>bu.cu d b.1) (b5.imp (λ_ e=>e) (λ_ e=>e)) z)
 grind
def TH:m (Nat×bH):=(94,BK)::In
def od:a_ q TH:=a_.cons adj (Ib)
def mX(b:m cJ)(a:Nat):Bool:=
 j1 (cv b a)&&fO (lD b a)&&(a==0||!(aS (cv b a) (cv b (a-1))||cv b a==cv b (a-1)))&&(aA a).all λd=>!under (cv b a) (cv b d)
def qX(a:m cJ):Bool:=(aA (c a)).all (mX a)&&decide (c a<=6)
def zS{o}(b:e<c o)(d:mX o e=v):qX o=v:=by
 cases a:qX o with
 |false=>rfl
 |true=>
  simp[qX,cp]at a;grind
theorem LF{b}(f:j1 b=l):c b<=3:=by
 simp[j1,jV,cp,jK,bz,iT]at f;obtain⟨⟨⟨e,_⟩,_⟩,a⟩:=f;have g:=yQ b 47;change iH b<c b∨iH b=-1 at g;by_cases d:0<=iH b
 .simp only[jT,d,dw,List.length_take]at e;rcases a with a|a
  .simp[ko,d]at a
  have:=a.1.1;simp[mw,d,dw,sA]at this;omega
 simp[jT,d,dn]at e;omega
def ZN{o}{S}(k:e<=c o):decide (0<=mG (o.take e) S)=!(aA e).all λa=>!under S (cv o a):=by
 have m:∀a,a<e->cv (o.take e) a=cv o a:=by intro a d;simp[cv,aj,d]
 cases q:(aA e).all λa=>!under S (cv o a)with
 |true=>
  grind[Ku]
 |false=>
  have i:∃a,a<e/\under S (cv o a)=l:=N;have:∃f:Nat,mG (o.take e) S=f:=by
   unfold mG;cases b:(o.take e).findIdx? (λj=>under S j.1)with
   |some f=>grind
   |none=>
    obtain⟨a,d,p⟩:=i;rw[AT]at b;have g:a<c (o.take e):=N;have:=b _ (xf g);grind[pe]
  grind
def JN(o):Y q 54 [bu.B o] [] (bg (qX o)) []:=by
 refine Y.ab func54 rfl λA=>?_;have E:=A.B 0 a;refine b9 od a B (g.aB 0 (λe=>e<=c o/\∀b,b<e->mX o b=l) (λe:Nat=>[(0,bu.B o),(5,bu.B o),(6,Q (c o)),(7,Q e)]) (λ_=>[]) (λe=>c o-e) 0 a D a B a ⟨by omega,by omega⟩ ?_);rintro e ⟨k,u⟩;by_cases f:e<c o
 .cases O:j1 (cv o e)with
  |false=>
   refine bf od [8,-14] a ?_ (g.aS (bW.zero a ?_))
   .simp[-aj,f,kA,O]
   simp[U,zS f (by simp[mX,O])]
  |true=>
   cases al:fO (lD o e)with
   |false=>
    refine bf od [8,14,-19] a ?_ (g.aS (bW.zero a ?_))
    .simp[-aj,f,kA,t0,O,al]
    simp[U,zS f (by simp[mX,al])]
   |true=>
    have I:zC (o.take e):=by
     intro b C;simp[List.length_take]at C;have t:cv (o.take e) b=cv o b:=by simp[cv,aj,(by omega:b<e)]
     rw[t];have:=u b w;simp[mX,cp]at this;grind[LF]
    have F:bu.ad ((e:Int).toNat-0) (fH 0 (bu.fn o))=o.take e:=by rw[bu.jo o 0 _ N];simp
    cases p:(e==0||!(aS (cv o e) (cv o (e-1))||cv o e==cv o (e-1)))with
    |false=>
     have j:mX o e=v:=by simp only[mX,p];simp
     have z:e≠0:=N;have r:(aS (cv o e) (cv o (e-1))||cv o e==cv o (e-1))=l:=N;have i:a7 .i64 ((e:Int)-1):=cV;have d:((e:Int)-1).toNat=e-1:=w;refine bf od [8,14,19,24,34] a PC (g.aS (bW.zero a ?_));simp[zS f j]
    |true=>
     have j:mX o e=(aA e).all λb=>!under (cv o e) (cv o b):=by simp only[mX,p,O,al];simp
     apply g.cj [(0,bu.B o),(3,Q e),(5,bu.B o),(6,Q (c o)),(7,Q e),(4,aH 0 0)] [.cells 81 [.c (.T (cv o e)),.c (.T (lD o e))]]
     .intro b3;by_cases z:e=0
      .refine bf od [8,14,19,-24,906] a ?_ (b3 _ _ a ?_)
       .simp only[U,kA,t0,cR,O,al,bz,dq];grind
       simp
      have r:(aS (cv o e) (cv o (e-1))||cv o e==cv o (e-1))=v:=N;have i:a7 .i64 ((e:Int)-1):=cV;have d:((e:Int)-1).toNat=e-1:=w;refine bf od [8,14,19,24,-34,906] a PC (b3 _ _ a ?_);simp
     refine g.freeze 4 0 a a a ?_;have m:=ZN (o:=o) (S:=cv o e) (e:=e) k;have x:bu.bN ((e:Int).toNat-0) (fH 0 (bu.fn o)):=bu.iP o;cases s:(aA e).all λb=>!under (cv o e) (cv o b)with
     |false=>
      rw[s]at m j;refine bf od [41] a ?_ (g.aS (bW.zero a ?_))
      .simp only[U,bV];grind
      simp[zS f j]
     |true=>
      rw[s]at m j;refine bf od [-41] a ?_ (g.aw (e+1) a ?_ ?_ ?_ ?_)
      .simp only[U,bV];have y:decide (0<=mG (bu.ad ((e:Int).toNat-0) (fH 0 (bu.fn o))) (cv o e))=v:=N;exact⟨by exact cV,x,by grind,B,y,by omega,by omega⟩
      .simp
      .trivial
      .grind
      omega
 have:e=c o:=w;subst this;refine a8 od [-8] a D (g.az ?_);refine b9 od a B (g.ao a ?_);simp only[U,qX];grind
def rB:bH:=λargs d=>match args,d with
 |[e],[]=>match jA 2 e with
  |none=>n
  |some (a,b)=>h (bg (qX (bu.ad a b)),[],[bu.bN a b])
 |_,_=>n
def t54:bK q 54 rB:=by
 intro args j e f d a b;unfold rB at a;split at a
 .split at a
  .cases a
  rename_i k m g;cases a;exact(JN _ ).args (λ_ z=>b5.imp (λ_=>bu.cu g b) (λ_ i=>i) z)
 grind
end R1
def b5.aj{k ar}{b}(f:∀g(e:y),bx k b g e->bx ar b g e):∀{z:m X}{d:m y},b5 k b z d->b5 ar b z d
 |[],[],_=>trivial
 |[],_::_,a=>a.elim
 |_::_,[],a=>a.elim
 |_::_,_::_,a=>⟨f _ _ a.1,b5.aj f a.2⟩
def Y.eF{q:af P}{r}{args a}{d}{res}(s:Y q r args k res ar)(C:∀b z,b5 k b z a->b5 k b z args)(A:jw d k=h Z)(B:U Z):Y q r a d res ar:=
 ⟨s.1,λb z o e t f m=>by obtain⟨i,j,D⟩:=jX A B b e;exact s.2 b z (C b z (o.aj D)) i t f λg E p u w x y=>m g E p u w x ((j.too0 e).trans y)⟩
def aY.dS{i:af P}{j}(s:dX (ι:=Unit) i F all r I k (λ_=>j) (λ_=>ar)):aY i F all r I k j ar:=
 λw o q f p u b m t a e g d=>s w o q f p u b m t a e g λ_=>d
namespace R1
variable {q:af T}
abbrev jB(a:m (Int×Int)):aq:=.x 300 2 (c a) (a4.fn a)
abbrev mW(a:m (Int×Int)):y:=.n (.Q (.x 0 2 (c a) (a4.fn a)))
def KW(L:m (Int×Int))(a b d:aq)(e f g _:Bool):m aq:=match g with
 |true=>[d]
 |false=>match f with
  |true=>[b]
  |false=>match e with
   |true=>[a]
   |false=>[jB L]
def CD:∀p(d:m (Int×Int)),c d+c p.ad<=4000000->Y q 268 [ay (eP p),mW d] [jB d] (mW (d++p.ad)) [jB (d++p.ad)]
 |.nil,d,_=>by refine Y.ab func268 rfl λE=>?_;refine aQ a B (g.aK (r1 a underlying317 a a a) a a ?_);refine aQ a B ?_;rw[show d++dJ.nil.ad=d from g3 d];exact g.aI [0] a ⟨a,bs.same⟩ s'
 |.ax lt e f b,d,A=>by
  have I:(dJ.ax lt e f b).ad=lt.ad++(e,f)::b.ad:=rfl;have K:c d+c lt.ad+(c b.ad+1)<=4000000:=N;have u:=CD lt d w;have s:=CD b (d++lt.ad++[(e,f)]) N;have O:=a4.a0 (d++lt.ad) (e,f);have dZ:Y q 268 [ay (eP b),.n (.Q (.x 0 2 (c (d++lt.ad)+1) (ck (c (d++lt.ad)) (a4.fn (d++lt.ad)) λj=>([[.int .i64 e,.int .i64 f]]:m (m M)).getD j [])))] [.x 300 2 (c (d++lt.ad)+1) (ck (c (d++lt.ad)) (a4.fn (d++lt.ad)) λj=>([[.int .i64 e,.int .i64 f]]:m (m M)).getD j [])] (mW (d++(dJ.ax lt e f b).ad)) [jB (d++(dJ.ax lt e f b).ad)]:=by
   rw[I,show d++(lt.ad++(e,f)::b.ad)=d++lt.ad++[(e,f)]++b.ad by simp];refine s.eF (λR z Q=>?_) a (U.Y.2 ⟨⟨by grind,O⟩,B⟩)
   match z,Q with
   |[_,_],⟨J,C,F⟩=>exact⟨J,pp rfl (show U [_,_]from⟨by grind,O⟩) C,F⟩
  have nz:(c (d++lt.ad)+1)*pk.bytes<=140737488355328:=by rw[show pk.bytes=16 from a,c9];omega
  clear s O K A;generalize d++(dJ.ax lt e f b).ad=o at *;generalize d++lt.ad=k at *;have x:a_ q []:=a_.nil;refine Y.ab func268 rfl λE=>?_;refine aQ a B (g.aK (tI a underlying317 a a a) a a ?_);refine a3 [903] a B ?_;let r:Nat->y:=λj=>([ay (eP (.ax lt e f b)),ay (eP (.ax lt e f b)),ay (.R [eP b]),ay (eP b),ay (eP (.ax lt e f b)),ay (eP (.ax lt e f b)),ay (.R [eP lt,eP b]),ay (eP lt),mW d,mW k,ay (eP (.ax lt e f b)),ay (eP (.ax lt e f b)),ay (eP (.ax lt e f b)),pa e f,ay (.B l 2 1 λj=>([[.int .i64 e,.int .i64 f]]:m (m M)).getD j []),.n (.Q (.x 0 2 (c k+1) (ck (c k) (a4.fn k) λj=>([[.int .i64 e,.int .i64 f]]:m (m M)).getD j []))),mW o,mW o]:m y).getD j .any
  cases lt<;>cases b<;>(
   refine g.ca b7 r (mC (KW d (jB k) (.x 300 2 (c k+1) (ck (c k) (a4.fn k) λj=>([[.int .i64 e,.int .i64 f]]:m (m M)).getD j [])) (jB o)) 9 15 16 17) a a a a ⟨
   .aV,
   .aV,
   .aV,
   .aV,
   .aV,
   .aV,
   .aV,
   .aV,
   .aV,
   cg.dX a a a a a a (aY.dS (dX.bI u.tocE [0] a a a a D a a a bk a bk)),
   .aV,
   .aV,
   .aV,
   .aV,
   .aV,
   cg.eU a a a a a a (eh (bh:=[]) bc x (ar:=h _) a ⟨rfl,rfl,nz⟩),
   cg.eV a a a a a a (aY.dS (dX.bI dZ.tocE [0] a a a a D a a a bk a bk)),
   cg.eW a a a a a a (aY.w),B⟩ ?_
   intro y i;show g q _ _ _ _ _ (KW d (jB k) _ (jB o) (y 9) (y 15) (y 16) (y 17));rw[i 9 ca,i 15 ca,i 16 ca,i 17 ca]
   exact g.aI [0] a ⟨a,bs.same⟩ s')
abbrev Lf:y:=ay (.B l 2 0 λ_=>[])
def KV(a b d:aq)(e f g _:Bool):m aq:=match g with
 |true=>[d]
 |false=>match f with
  |true=>[b]
  |false=>match e with
   |true=>[a]
   |false=>[]
def Jj:∀(o:dJ),c o.ad<=4000000->Y q 268 [ay (eP o),Lf] [] (mW o.ad) [jB o.ad]
 |.nil,_=>by refine Y.ab func268 rfl λE=>?_;refine aQ a B (g.aK (r1 a underlying317 a a a) a a ?_);refine aQ a B (g.bE 4 300 2 a a ?_);refine g.bc [jB []] a D ?_;exact g.aI [0] a nT (C4 _)
 |.ax lt d e b,u=>by
  have r:(dJ.ax lt d e b).ad=lt.ad++(d,e)::b.ad:=rfl;have J:c lt.ad+(c b.ad+1)<=4000000:=N;have A:=Jj lt w;have s:=CD (q:=q) b (lt.ad++[(d,e)]) N;have O:=a4.a0 lt.ad (d,e);have dZ:Y q 268 [ay (eP b),.n (.Q (.x 0 2 (c lt.ad+1) (ck (c lt.ad) (a4.fn lt.ad) λf=>([[.int .i64 d,.int .i64 e]]:m (m M)).getD f [])))] [.x 300 2 (c lt.ad+1) (ck (c lt.ad) (a4.fn lt.ad) λf=>([[.int .i64 d,.int .i64 e]]:m (m M)).getD f [])] (mW (dJ.ax lt d e b).ad) [jB (dJ.ax lt d e b).ad]:=by
   rw[r,show lt.ad++(d,e)::b.ad=lt.ad++[(d,e)]++b.ad by simp];refine s.eF (λQ z K=>?_) a (U.Y.2 ⟨⟨by simp,O⟩,B⟩)
   match z,K with
   |[_,_],⟨I,C,F⟩=>exact⟨I,pp rfl (show U [_,_]from⟨by simp,O⟩) C,F⟩
  have nz:(c lt.ad+1)*pk.bytes<=140737488355328:=by rw[show pk.bytes=16 from a];omega
  clear s O J u;clear r;generalize(dJ.ax lt d e b).ad=k at *;generalize lt.ad=j at *;have x:a_ q []:=a_.nil;refine Y.ab func268 rfl λE=>?_;refine aQ a B (g.aK (tI a underlying317 a a a) a a ?_);refine a3 [903] a B ?_;let p:Nat->y:=λf=>([ay (eP (.ax lt d e b)),ay (eP (.ax lt d e b)),ay (.R [eP b]),ay (eP b),ay (eP (.ax lt d e b)),ay (eP (.ax lt d e b)),ay (.R [eP lt,eP b]),ay (eP lt),Lf,mW j,ay (eP (.ax lt d e b)),ay (eP (.ax lt d e b)),ay (eP (.ax lt d e b)),pa d e,ay (.B l 2 1 λf=>([[.int .i64 d,.int .i64 e]]:m (m M)).getD f []),.n (.Q (.x 0 2 (c j+1) (ck (c j) (a4.fn j) λf=>([[.int .i64 d,.int .i64 e]]:m (m M)).getD f []))),mW k,mW k]:m y).getD f .any
  cases lt<;>cases b<;>(
   refine g.ca b7 p (mC (KV (jB j) (.x 300 2 (c j+1) (ck (c j) (a4.fn j) λf=>([[.int .i64 d,.int .i64 e]]:m (m M)).getD f [])) (jB k)) 9 15 16 17) a a a a ⟨
   .aV,
   .aV,
   .aV,
   .aV,
   .aV,
   .aV,
   .aV,
   .aV,
   .aV,
   cg.dX a a a a a a (aY.dS (dX.bI A.tocE [] a a a a D a a a bk a bk)),
   .aV,
   .aV,
   .aV,
   .aV,
   .aV,
   cg.eU a a a a a a (eh (bh:=[]) bc x (ar:=h _) a ⟨rfl,rfl,nz⟩),
   cg.eV a a a a a a (aY.dS (dX.bI dZ.tocE [0] a a a a D a a a bk a bk)),
   cg.eW a a a a a a (aY.w),B⟩ ?_
   intro y i;show g q _ _ _ _ _ (KV (jB j) _ (jB k) (y 9) (y 15) (y 16) (y 17));rw[i 9 ca,i 15 ca,i 16 ca,i 17 ca]
   exact g.aI [0] a ⟨a,bs.same⟩ (C4 _))
end R1
section
open Go.Conc
def bb.gO(j:bb k b){bU}{L}(aJ:k[d]?=h bU)(B:b.s[d]?=h L)(z:(∃W ah,bU=.cells W ah)∨∃H,bU=.K H):
  bb (k.set d .N) {b with s:=b.s.set d ⟨L.v,[]⟩}/\cO k b (k.set d .N) {b with s:=b.s.set d ⟨L.v,[]⟩}:=by
 have C:d<c k:=(cP.1 aJ).1;have K:d<c b.s:=(cP.1 B).1;have A:∀m,(b.s.set d ⟨L.v,[]⟩)[m]?=if d=m then h ⟨L.v,[]⟩else b.s[m]?:=N;have y:∀f∈b.s.set d ⟨L.v,[]⟩,∀o∈f.aj,f∈b.s:=N;have u:cO k b (k.set d .N) {b with s:=b.s.set d ⟨L.v,[]⟩}:=by
  refine⟨bC _,λ_ _ _=>rfl,λ_ _ _ E=>E,λ_ _ _ _=>rfl,λf e o i=>.inr ⟨f,y f e o i,i⟩,?_,a,a,a,a⟩;intro m q f g e;by_cases t:d=m
  .subst t;rw[aJ]at g;cases g;rw[B]at e;cases e;refine⟨.N,⟨L.v,[]⟩,by grind,by grind,?_⟩;rcases z with⟨W,ah,rfl⟩|⟨H,rfl⟩<;>rfl
  exact⟨q,f,by grind,by grind,.refl _ _⟩
 refine⟨⟨j.mem,by simp[j.len],?_,?_,λf e o i=>j.lt f (y f e o i) o i,λo i=>⟨(j.own o i).1,λf e p=>(j.own o i).2 f (y f e o p) p⟩⟩,u⟩
 .intro m q f g e;by_cases t:d=m
  .subst t;rw[ix C]at g;cases g;trivial
  rw[kJ t]at g;rw[A,bj t]at e;exact(j.box m q f g e).cc u.ext j.len λo i=>⟨a,λM=>rfl⟩
 intro I J w x r s o D F;rw[A]at r s;split at r
 .grind
 split at s
 .grind
 exact j.a4 I J w x r s o D F
def bx.e0(f:aE.D=b.D){a}(i:bx k b aa a)(g:hX 0 a=l):bx ar aE aa a:=by have d:=bx.drop (aU:=[]) (bq:=k) i g;refine bx.mono (k:=[]) (b:=b.cut 0) ⟨λm p aa e=>by rw[f];exact e,λo j L aJ _=>by grind⟩ (by simp[a6.cut]) d
end
section
open Go.ChangeShapes Go.WideShapes Go.ChangeAt Go.RowKit
def HZ{a:Addr}(e:p.cell? (a.add j)=h aa):p.cell? ⟨a.block,a.off+j,n⟩=h aa/\(j=0->a=⟨a.block,a.off,n⟩):=by obtain⟨d,f,b⟩:=a;cases b<;>simp only[Addr.add,aI]at*<;>grind
section
variable {H:Type}{g9:ak×X->H}{o bA:Nat}{o0:au}
def abL(E:P.underlying o=h (.slice bA))(D:P.underlying bA=h (.int .u8))(F:P.cellsOf bA=1){i:Option Addr}{d:Nat}{q:DataW H}{x:m MemPlace}(s:DataW.Trod g9 P o0 0 (λ_=>l) l o (.slice i A d) q x):
  ∃k:Nat->Int,R1.Bytes k/\A<=9223372036854775807/\bx [] (a6.bw o0) (.slice i A d) (ay (.B v 1 A (R1.qh k))):=by
 obtain⟨J,B⟩:=s;rcases open_ints E D F B with⟨f,_⟩|⟨K,j,t,C,f,_,aa,z,R,_,r,y⟩<;>simp[Value.cells]at f<;>obtain⟨rfl,rfl,rfl⟩:=f
 .exact⟨λ_=>0,λ_=>by simp,by omega,Rd.dI⟩
 simp only[dw,maxLen]at R z;have p:∀b,0<=C.getD b 0/\C.getD b 0<=255:=λb=>by
  by_cases e:b<c C
  .have:=y _ (xf e);simp[Lit.wf,IntKind.min,IntKind.max,IntKind.signed,IntKind.bits]at this;grind
  grind
 refine⟨λb=>C.getD b 0,p,by omega,Rd.hK aa w (λI=>eF h ((HZ (r 0 w)).2 a)) (λ_ _=>rfl) λb e u t g=>?_⟩
 match u,g with
 |0,g=>
  cases g;exact⟨_,by simpa[a6.bw]using(HZ (r b w)).1,Rd.int (p b)⟩
abbrev G_(a:Nat×(Nat->Int)):y:=ay (.B v 1 a.1 (R1.qh a.2))
def Gc(a:Nat×(Nat->Int)):Prop:=R1.Bytes a.2/\a.1<=9223372036854775807
def Mj{d:m ut}(C:∀f∈d,o0.heap[f.1]?=h (.cells #[f.2.2] f.2.1 (0,0)))(k:∀f∈d,∃T bA,f.2.2=.iface T bA)(q:laidOutB P=l)(I:P.readableRec o=l)(J:o<P.types.size)(A:P.underlying o=h (.slice bA))(F:P.underlying bA=h (.int .u8))(K:P.cellsOf bA=1){V:Reach}{base:Nat}:∀{i:Nat}{z:m X}{b:m (DataW H)}{r:m MemPlace},
  DataW.TrodAll g9 P o0 0 (λ_=>l) l (aV i o) z b r->(∀g j,g<i->z[g]?=h j->Value.okWide P o0 V base o j) ->
  ∃p:m (Nat×(Nat->Int)),(c p=i/\c b=i)/\(∀f∈p,Gc f)/\b5 (mE d) (a6.cR d o0) z (p.map G_)/\∀s,Below o0.heap.size o0 s->DataW.TrodAll g9 P s 0 (λt=>decide (t<o0.heap.size)) l (aV i o) z b r
 |0,z,b,r,e,_=>by obtain⟨rfl,rfl,rfl⟩:=trodAll_nil e;exact⟨[],⟨a,a⟩,by simp,B,λ_ _=>rfl⟩
 |i+1,z,b,r,e,E=>by
  obtain⟨j,z,aa,b,r,ae,rfl,rfl,rfl,⟨u,x⟩,Q⟩:=trodAll_cons e;obtain⟨Y,U,D,rfl⟩:=okWide_slice A (E 0 j w rfl);obtain⟨t,N,M,S⟩:=abL A F K ⟨u,x⟩;obtain⟨p,k1,y,O,G⟩:=Mj C k q I J A F K Q λg j W e=>E (g+1) j w e;refine⟨(U,t)::p,by simp[k1],by simp only[List.forall_mem_cons];exact⟨⟨N,M⟩,y⟩,⟨Rd.cR C k (λab g Z e=>?_) S,O⟩,λs R=>trodAll_cons_mk (Below.trod q I J ⟨u,x⟩ R (DataW.trod_lt u _ _ _ x)) (G s R)⟩
  match g,e with
  |0,e=>cases e;exact⟨_,_,a⟩
end
noncomputable def KG(P:aD)(d:m (String×DataW Unit))(b g f:Nat)(os:Os):au:=
 let ce:=World.laidAll P os (d.filter λi=>i.2.handleName?.isNone)
 {ce with heap:=ce.heap.modify b λ
   |.cells _ a j=>.cells #[.iface g (.agg #[typeHandle P f])] a j
   |e=>e}
def KI{M:Checked}{I om gP hB iM sb sa:Nat}(al:∀(x w:ak×X) (O:m (Nat×(Nat->Int))),c O=j->(∀f∈O,Gc f)->Y (af.aC M.prog) I (O.map G_) (mE [(om,iM,.iface x.1 x.2),(gP,iM,.iface w.1 w.2),(hB,sb,.iface sa (.agg #[typeHandle M.prog iM]))]) (bg l) (mE [(om,iM,.iface x.1 x.2),(gP,iM,.iface w.1 w.2),(hB,sb,.iface sa (.agg #[typeHandle M.prog iM]))])){fn:Func}{C T Z:Nat}{b:ChangeSpec}{t:OpenClaim}{os:Os}(ba:os.Started){H:Type}{g9:ak×X->H}(L:M.prog.funcs[I]?=h fn)(aX:fn.params=(aV j C).toArray)(aG:fn.resultTypes=#[Z])(an:ownKnob M.prog.godebug=n)(Q:laidOutB M.prog=l)(aH:M.prog.readableRec C=l)(aJ:C<M.prog.types.size)(ao:M.prog.underlying C=h (.slice T))(aq:M.prog.underlying T=h (.int .u8))(ar:M.prog.cellsOf T=1)(aC:M.prog.underlying Z=h .bool)(aE:M.prog.inits.idxOf? I=n)(aK:varsRowed M.prog b.vars=l)(aI:∃aZ a0,b.vars=[aZ,a0])(a6:∀(F:m (DataW H)) (i g:DataW H),c F=j->b.fn H (F++[i,g])={results:=[.lit (.bool l)],args:=F,vars:=[i,g]})(wA:∃(e:au) (tape:Tape) (u:Input),e.os=os/\(e.forCall tape u).Shaped M.prog/\u.vars=[]/\Input.okWide M.prog (e.forCall tape u) .any e.heap.size I u /\
   ((b.pre g9 M.prog fn t.domain v (e.forCall tape u).memory u.args/\laidMetH M.prog t.laid (e.forCall tape u).memory)/\sizedMet g9 M.prog fn (OpenSpec.ofChange b) v (e.forCall tape u).memory u.args)/\({}:Assume).holds M.prog (lone (Frame.enter M.prog I u.args .normal) [] (e.forCall tape u))){Dn Do Dm:Nat}{aM ly S aP aQ:String}{ai x8 z:DataW Unit}{aR:Array (String×ak)}{aY:m UInt8}(az:(t.laid.filter λf=>f.2.handleName?.isNone)[Dn]?=h (aM,.iface aP ai))(aB:(t.laid.filter λf=>f.2.handleName?.isNone)[Do]?=h (ly,.iface aQ x8))(ay:(t.laid.filter λf=>f.2.handleName?.isSome)[Dm]?=h (S,z))(U:[aM,ly,S].map M.prog.globalNamed=[h om,h gP,h hB])(aa:[om,gP].map (λW=>(M.prog.globals[W]?).map (·.type))=[h iM,h iM])(aT:M.prog.underlying iM=h (.interface aR))(E:[om,gP,hB].map (λW=>(decide (W<M.prog.globals.size),((begin M.prog (λ_ _=>0) default).world.heap[W]?).bind Obj.row?))=[(l,h (#[.nilIface],iM)),(l,h (#[.nilIface],iM)),(l,h (#[.nilIface],sb))])(ae:z.funcsIn?=n)(ag:z.handleName?=h aY)(ah:(M.prog.cutTypes.find? (·.1== "internal/reflectlite.rtype")).map (·.2)=h sa)(a:((aA M.prog.types.size).filter λC=>M.prog.rowNamed C aY)=[iM])(a8:[om,gP,hB].Nodup):
  ReturnsInLeavingWide {} M os I .any (λe args=>(b.pre g9 M.prog fn t.domain v e args/\laidMetH M.prog t.laid e)/\sizedMet g9 M.prog fn (OpenSpec.ofChange b) v e args) (b.post g9 M.prog fn v l v v):=by
 refine abN (q:=λe _=>laidMetH M.prog t.laid e) (λ_ _ _ aD s=>s.of_heap aD) an ba L wA λV base args k K J r N o A=>?_;have a5:=N;obtain⟨a1,a2,aU,ab,rfl,_,_⟩:=N;simp only[kj,List.map_nil,List.cons.injEq,a9,lL,bz]at U aa E;obtain⟨x,a3⟩:=KH A o (b' az) U.1 aa.1 aT E.1.1 E.1.2;obtain⟨w,y⟩:=KH A o (b' aB) U.2.1 aa.2 aT E.2.1.1 E.2.1.2;have P:∀f∈([(om,iM,.iface x.1 x.2),(gP,iM,.iface w.1 w.2),(hB,sb,.iface sa (.agg #[typeHandle M.prog iM]))]:m ut),V.heap[f.1]?=h (.cells #[f.2.2] f.2.1 (0,0)):=by simp only[List.forall_mem_cons];exact⟨a3,y,Z0 A o (b' ay) ae ag U.2.2 ah a E.2.2.1 E.2.2.2,by simp⟩
 have a4:∀f∈([(om,iM,.iface x.1 x.2),(gP,iM,.iface w.1 w.2),(hB,sb,.iface sa (.agg #[typeHandle M.prog iM]))]:m ut),∃a7 T,f.2.2=.iface a7 T:=D;simp only[aX]at aU r;obtain⟨O,k1,aL,aN,aO⟩:=Mj P a4 Q aH aJ ao aq ar aU λa' aS aF s=>r a' C aS (by simp[aF]) wR;refine bl.iW (al x w O k1.1 aL).tocE aE a8 P aN λ_ aS B p d F=>?_;have p:Rd B.D aS (.bool l):=p;cases p;have R:Below V.heap.size V (B.a.at F):=⟨d.os,d.tape,d.output,d.size,d.block⟩;obtain⟨aZ,a0,a_⟩:=aI;obtain⟨i,g,rfl⟩:∃i g,K=[i,g]:=by
  rw[a_]at ab
  match K,ab with
  |[i,g],_=>exact⟨i,g,rfl⟩
 have G:=a6 k i g k1.2;have av:=aO _ R;have aw:DataW.TrodAll g9 M.prog (B.a.at F) V.heap.size (λ_=>v) v [Z] [.bool l] [.lit (.bool l)] []:=trodAll_mk1 (shut_bool aC _);refine⟨k,[i,g],a1++a2,[],a1,a2,a5,?_,?_,?_,R.frame _,λs=>by cases s⟩
 .rw[show(b.fn H (k++[i,g])).results=_ from eF _ G,aG];exact aw
 .rw[show(b.fn H (k++[i,g])).args=_ from eF _ G,aX];exact av
 rw[show(b.fn H (k++[i,g])).vars=_ from eF _ G];exact Below.trodVars Q R aK ab
end
namespace R1
section
variable {q:af T}
def lg(a:bD):m bD:=if fO a then cn a else[]
def NN(b:bD)(d:Nat)(a:m bD):Prop:=∃e,iK b (c b) 0=a++iK b e d/\c b<=d+e/\c a<=d
def Nt:bK q 93 (di eG (λa=>bg (fO a)) λ_=>[]):=.a9 λa _=>JL a
def Hi:bH:=λargs a=>match args,a with
 |[.n (.Q (.c (.T b)))],[]=>h (ay (Hh b),[],[])
 |_,_=>n
def adu:bK q 177 Hi:=by intro args g b d a e f;unfold Hi at e;grind[U']
def U8(o):Y q 115 [b2 o] [] (bS.B (lg o)) []:=by
 refine(bl.e7 (ι:=Unit) (ar:=λ_=>[]) (res:=λ_=>bS.B (lg o)) func115 rfl rfl rfl λN=>?_).toY;have p:a_ q [(93,di eG (λJ=>bg (fO J)) λ_=>[])]:=.cons Nt .nil;refine dg.seq (b1.bw (g.aO ?_));refine b9 p a B (dg.seq (b1.bw (g.aO ?_)));cases O:fO o with
 |false=>
  refine a8 p [8] a pU (g.ret ⟨(),bW.zero a ?_⟩);simp[lg,O]
 |true=>
  have y:=O;simp[fO,cp,bz]at y;refine a8 p [-8] a pU (dg.seq (b1.bw (g.aO ?_)));refine b9 p a B (dg.seq (dg.seq (b1.bw (g.aO (g.cm 1 0 9 1 (bS.fn []) a a ?_)))));refine b9 (.cons adu .nil) a B (dg.block ?_);refine dg.rangeFunc (o9:=fg [.R [.T o]]) (bY.callee a) (Va (ac:=m bD) o y.2 w (λ_=>.cells 9 [.c (.T o)]) (λb=>.cells 112 [.x 2 1 (c b) (bS.fn b)]) (λb=>.x 9 1 (c b) (bS.fn b)) (NN o) [] ?_ (λo=>⟨by simp,by simp,by simp⟩) ?_) (λj=>⟨a,by simp⟩) λj=>⟨.normal,a,?_⟩
  .exact⟨c o,by simp,by omega,by simp⟩
  .rintro d b s i;have z:=rJ o d s;refine iQ.intro (u:=n) a a a a (g.aO ?_);refine aQ a B ⟨a,a,g.aO ?_⟩;refine aQ a ?_ ?_
   .obtain⟨f,_,_,C⟩:=i;have K:=z.1;have t:=z.2.1;refine⟨a,a,?_,Int.natCast_nonneg _,Int.ofNat_le.2 (Nat.le_of_lt K),Int.ofNat_le.2 t⟩;show(c b+1)*16<=_;omega
   have F:NN o (ep o d) (b++[(o.drop d).take (ep o d-d)]):=by
    obtain⟨f,k,I,C⟩:=i;obtain⟨e,rfl⟩:∃e,f=e+1:=⟨f-1,by omega⟩
    refine⟨e,?_,by omega,by grind⟩;rw[k];simp[iK];grind
   refine⟨a,a,⟨_,F⟩,jX a ?_⟩;have r:mv o (h (d:Int)) (h (ep o d:Int))=(o.drop d).take (ep o d-d):=OH;have A:bs (c b+1) (ck (c b) (bS.fn b) λj=>[[M.T (mv o (h (d:Int)) (h (ep o d:Int)))]].getD j []) (bS.fn (b++[(o.drop d).take (ep o d-d)])):=by rw[r];exact c5.a0 bS b _
   have x:c b+1=c (b++[(o.drop d).take (ep o d-d)]):=D;refine U.Y.2 ⟨by simp,U.Y.2 ⟨U.Y.2 ⟨⟨x,A⟩,B⟩,U.Y.2 ⟨⟨x,A⟩,U.Y.2 ⟨a,B⟩⟩⟩⟩
  obtain⟨b,f,k,I,C⟩:=j;have E:iK o f (c o)=[]:=by cases f<;>simp[iK]
  rw[E,g3]at k;have r:lg o=b:=by simp[lg,O,dw,cn,k]
  rw[r];show dg q _ _ _ _ _;refine b1.bw (g.aO ?_);refine aQ a B (g.ret ⟨(),bW.zero a ?_⟩);simp
def ES:bK q 115 (di eG (λa=>bS.B (lg a)) λ_=>[]):=.a9 λa _=>U8 a
def adG:bK q 113 (ej (eS bS) eG (λa _=>b2 a.flatten) λa d=>[d=[],c a.flatten<=140737488355328]):=.bk λa d b=>by obtain⟨rfl,b⟩:=b;exact Wk a b
def xK:bH:=ej (eS bS) (eS bS) (λa b=>bg (a==b)) λ_ _=>[]
def adw:bK q 114 xK:=.bk λa b _=>Vo a b
def U_(d)(s:c d.flatten<=140737488355328):Y q 63 [bS.B d] [] (i1 (iY d)) []:=by
 refine Y.ab func63 rfl λf=>?_;have e:a_ q [(113,ej (eS bS) eG (λd _=>b2 d.flatten) λd b=>[b=[],c d.flatten<=140737488355328]),(93,di eG (λb=>bg (fO b)) λ_=>[]),(114,xK),(115,di eG (λb=>bS.B (lg b)) λ_=>[])]:=.cons adG (.cons Nt (.cons adw (.cons ES .nil)));have Cv:bS.ad (c d) (bS.fn d)=d:=bS.l d;cases x:fO d.flatten with
 |false=>
  refine a8 e [-8,9,16] a ?_ (g.ao a ?_)
  .simp only[U,Cv,x,bS.J,eq_self,a',a9];grind
  simp[iY,x]
 |true=>
  cases i:(cn d.flatten==d)with
  |false=>
   refine a8 e [8,-9,-14,16] a Pc (g.ao a ?_);simp[iY,i]
  |true=>
   refine a8 e [8,-9,14,-16] a Pc (g.ao a ?_);simp[iY,x,i,Cv]
def Ka{a:m (Int×Int)}(b:e<c a):a.getD e (0,0)∈a:=N
def jd(b:m (Int×Int)):dJ:=b.foldl (λd a=>d.put a.1 a.2) .nil
theorem aep(b:m (Int×Int))(a:Int×Int):jd (b++[a])=(jd b).put a.1 a.2:=by unfold jd;grind
def zR{d:m (Int×Int)}(a:u<c d):jd (d.take (u+1))=(jd (d.take u)).put (d.getD u (0,0)).1 (d.getD u (0,0)).2:=by grind[List.take_add_one,aep]
abbrev qF(a:m (Int×Int)):y:=ay (.B v 1 1 λb=>([[.B v 2 (c a) (a4.fn a)]]:m (m M)).getD b [])
abbrev ED(a:Int×Int):aq:=.cells 300 [.c (.int .i64 a.1),.c (.int .i64 a.2)]
def J9(a:m (Int×Int)):Nat->bL
 |0=>[(3,ay .bp),(8,qF a),(9,Q 1),(10,Q 0),(14,a4.B a),(15,Q (c a)),(16,Q 0)]
 |b+1=>[(3,.n (.Q (.aY 1))),(8,qF a),(9,Q 1),(10,Q 0),(14,a4.B a),(15,Q (c a)),(16,Q (b+1:Nat))]
def acH(a:m (Int×Int)):Nat->m aq
 |0=>[]
 |b+1=>[ED (a.getD 0 (0,0)),.K (eC mK (jd (a.take (b+1))))]
def Zj(a:m (Int×Int)):Nat->bL
 |0=>[(3,ay .bp),(8,qF a),(9,Q 1),(10,Q 0)]
 |b+1=>match a with
  |[]=>[(3,ay .bp),(8,qF a),(9,Q 1),(10,Q (b+1:Nat))]
  |_::_=>[(3,.n (.Q (.aY 1))),(8,qF a),(9,Q 1),(10,Q (b+1:Nat))]
def acI(b:m (Int×Int)):Nat->m aq
 |0=>[]
 |_+1=>match b with
  |[]=>[]
  |a::d=>[ED a,.K (eC mK (jd (a::d)))]
def JM(d:m (Int×Int))(K:c d<=4000000)(C:∀b∈d,a7 .i64 b.1/\a7 .i64 b.2):Y q 263 [qF d] [] (ay (eP (jd d))) []:=by
 refine Y.ab func263 rfl λI=>?_;refine aQ a B (g.hi 0 (λb=>b<=1) (Zj d) (acI d) (λb=>1-b) 0 a D a B a w ?_);intro b k;rcases b with _|b
 .refine a3 [11] a D (g.hi 0 (λu=>u<=c d) (J9 d) (acH d) (λu=>c d-u) 0 a D a B a w ?_);intro u J;rcases u with _|u
  .by_cases j:0<c d
   .have k:=C _ (Ka j);have f:=zR j;have i:a_ q [(294,lb [ay .bp,pa (d.getD 0 (0,0)).1 (d.getD 0 (0,0)).2] [] (.n (.Q (.aY 0))) [.K (eC mK (.ax .nil (d.getD 0 (0,0)).1 (d.getD 0 (0,0)).2 .nil))])]:=.cons (l' (yo _ _ k.1 k.2 .nil)) .nil;refine bf i [17] a Rb (g.ft 2 1 w a D a a a ?_ a j N);exact bE
   obtain rfl:d=[]:=jJ w;refine bR [-17] a D (g.fF a a ?_);refine cB a lF (g.ft 0 1 w a ?_ a a a B a w ca);simp
  obtain⟨e,p,s,r,f⟩:∃x y z A,jd (d.take (u+1))=.ax x y z A:=by rw[zR w];exact zl _ _ _
  show g q _ _ _ _ (J9 d (u+1)) [ED (d.getD 0 (0,0)),.K (eC mK (jd (d.take (u+1))))];by_cases j:u+1<c d
  .have k:=C _ (Ka j);have E:=zR j;rw[f]at E⊢;have i:a_ q [(294,lb [.n (.Q (.aY 0)),pa (d.getD (u+1) (0,0)).1 (d.getD (u+1) (0,0)).2] [.K (eC mK (.ax e p s r))] (.n (.Q (.aY 0))) [.K (eC mK ((dJ.ax e p s r).put (d.getD (u+1) (0,0)).1 (d.getD (u+1) (0,0)).2))])]:=.cons (l' (yo _ _ k.1 k.2 (.ax e p s r))) .nil;refine bf i [17] a Rb (g.ft 2 (u+2) w a D a a a ?_ a j N);simp only[U.Y,U,a',a9];rw[E]
  have o:u+1=c d:=w;rw[o,c0]at f
  match d,o,f with
  |b::t,o,f=>
   rw[o,c0,f];refine bR [-17] a D (g.fF a a ?_);refine cB a lF (g.ft 2 1 w a D a a a ?_ a w ca);exact bE
 cases d with
 |nil=>
  refine bR [-11] a bw (g.fF a a ?_);exact cB a B (g.ao a nT)
 |cons F t=>
  refine bR [-11] a bw (g.fF a a ?_);refine cB a B (g.gj 2 1 a a ?_);obtain⟨e,p,s,r,f⟩:∃x y z A,jd (F::t)=.ax x y z A:=by have:=zR (d:=F::t) (u:=c t) D;rw[AO D]at this;rw[this];exact zl _ _ _
  rw[f];exact g.ao a
end
section
open Go.Proofs Go.Conc Go.Conc.Lib
open Go.ConcN (WgLive PayAt Has RW AtR0)
open Go.ConcR (KK WgAt stA smA rd wr mk Payload DC0)
noncomputable def Tl:Code:=nt (g' (g' (g' rC)))
noncomputable def HN:Code:=nt Tl
noncomputable def BE:Code:=g' (g' (g' rC))
def Ti:BE=.seq (.seq HN (.block 0 (.loop hH))) lP:=bG
section
variable {dN:m aq}{cI:a6}{I:bL}{k:m aq}{x:Act}{b:a6}{br:ai->a6->Prop}
def dW.goes{bn}{d:ai}:∀(o:Nat)(a:ai)b,dW dN cI I k x b->WgLive 162 bn b.a->Goes T l (fK 162 bn) DC0 (λa _=>a=d) o a b.a ->
  (∀f,dW dN cI I k x f->cj (af.aC T) br d f)->cj (af.aC T) br a b
 |0,a,b,r,_,g,p=>by obtain rfl:a=d:=g b.a (.refl _);grind
 |o+1,a,b,r,u,g,p=>by
  rcases g with g|⟨w,g⟩
  .obtain rfl:a=d:=g b.a (.refl _);grind
  refine .next w λf q=>?_;have j:=r.rely q.1;obtain⟨A,B⟩:=q.2;have s:WgLive 162 bn f.a:=bE;have e:=g f.a (λ_=>s);cases m:ao T l a f.a with
  |go i z t=>
   rw[m,goes_go]at e;obtain⟨⟨rfl,rfl⟩,y⟩:=e;exact⟨i,f,#[],m,.aQ j.a_,dW.goes o i f j s y p⟩
  |_=>rw[m]at e;exact e.elim
def SL{k}{b}(f:∀e∈k,e=.N){bh}{a}(d:ji k b bh a):bh=[]:=by
 cases bh with
 |nil=>rfl
 |cons g bh=>
  cases a with
  |nil=>exact d.elim
  |cons i a=>
   have:=f _ (b' d.1.1);cases this
end
section
variable {f:Int}{Z:m b4}{bt:m Int}{M:Nat}{ag:m X}
variable (f Z bt M)in
def zg:bL:=[(2,az.B bt),(3,aH 0 0),(4,aH 1 0),(8,aH 3 0),(9,aH 4 0)]
variable (f Z bt M ag)in
def pG:m aq:=[.cells 3 [.c (.int .i64 f)],.cells 26 [.c (.B v 2 (c Z) (a1.fn Z))],.K (cu 164 2 (.row M (c bt)) (c bt) ag),.cells 152 [.c (.val (.slice (h ⟨M,0,n⟩) (c bt) (c bt)))],.cells 162 [.c (.int .u64 0),.c (.int .u32 0)]]
variable (f Z bt)in
def E_(a b:Nat):X:=if b=0 then .string ⟨((dd f Z (bt.getD a 0)).getD []).toArray⟩else .bool (dd f Z (bt.getD a 0)).isSome
variable (f Z bt)in
def nj:m X:=bt.flatMap λa=>[.string ⟨((dd f Z a).getD []).toArray⟩,.bool (dd f Z a).isSome]
variable (f Z bt M)in
def r7:m aq:=[.N,.N,.K (cu 164 2 (.row M (c bt)) (c bt) (nj f Z bt)),.N,.N]
def aaX{b:af T}:b1 b 45 HN (uw ((18,az.B bt)::(19,Q (c bt))::(20,Q 0)::zg bt) (pG f Z bt M ag)) (zg bt) (pG f Z bt M ag):=by refine g.aO ?_;refine aQ a B ⟨a,eu a ?_,a⟩;simp
theorem J2:c (nj f Z bt)=c bt*2:=by
 unfold nj;induction bt with
 |nil=>rfl
 |cons b d a=>grind
def C7:∀{bt:m Int}{E e:Nat},E<c bt->e<2->(nj f Z bt)[2*E+e]?=h (E_ f Z bt E e)
 |[],E,e,g,_=>by grind
 |b::d,0,e,_,a=>by
  match e,a with
  |0,_=>rfl
  |1,_=>rfl
 |b::d,E+1,e,g,a=>by have:=C7 (bt:=d) (E:=E) (e:=e) N a;unfold nj at this⊢;rw[rp,hx N];rw[show 2*(E+1)+e - [Value.string ⟨((dd f Z b).getD []).toArray⟩,Value.bool (dd f Z b).isSome].length=2*E+e by grind];exact bE
def _root_.Go.AM.bY.seen{e a:Nat}{f}{k}{b}{I}{x}(d:bY e k b I x)(j:bx k b (x.tmps.getD a J) f):bY e k b ((a,f)::I) x:=by
 refine⟨d.size,d.defers,λg=>?_⟩;simp only[look];cases i:ad a g with
 |false=>exact d.aL g
 |true=>grind[Nat.eq_of_beq_eq_true]
abbrev vZ(a b:Nat):bL:=[(8,ay (.R [.val (.slice (h ⟨b,0,n⟩) a a)]))]
variable (f Z bt M)in
abbrev LJ:bL:=(8,ay (.R [.val (.slice (h ⟨M,0,n⟩) (c bt) (c bt))]))::(4,ay (.R [.B v 2 (c Z) (a1.fn Z)]))::(3,ay (.R [.int .i64 f]))::(18,az.B bt)::(19,Q (c bt))::(20,Q 0)::[(9,aH 4 0)]
def Zg(bn:bK (af.c7 T) 111 (nh f)){aM:fD}(cj:c bt<=4000000)(aq:dg (af.aC T) 45 ob aM (vZ (c bt) M) (r7 f Z bt M)):dg (af.aC T) 45 BE aM (zg bt) (pG f Z bt M ag):=by
 intro Y b3 cd bq bO av ah cO aL X cb;have i:dW (pG f Z bt M ag) Y (zg bt) (pG f Z bt M ag) b3 Y:=⟨cd,bq,.refl _ _⟩;refine i.ctl a (λbQ=>zA Ti) λb i=>?_
 refine i.ctl a (λbQ=>pF) λb i=>?_;refine i.code aL aaX λa5 b i=>?_;obtain⟨bI,w1,a',a0,aa⟩:=bY.freeze 3 0 (W:=3) (ah:=[.c (.int .i64 f)]) (gR:=[.int .i64 f]) rfl rfl rfl i.bT i.a_;refine .aP (.of i.a_ a0 w1 (aa.too0 i.a_)) ?_;obtain⟨bL,w2,ba,R,ab⟩:=bY.freeze 4 1 (W:=26) (ah:=[.c (.B v 2 (c Z) (a1.fn Z))]) (gR:=[.B v 2 (c Z) (a1.fn Z)]) rfl rfl rfl a' a0;refine .aP (.of a0 R w2 (ab.too0 a0)) ?_;obtain⟨cr,w3,f3,S,ae⟩:=bY.freeze 8 3 (W:=152) (ah:=[.c (.val (.slice (h ⟨M,0,n⟩) (c bt) (c bt)))]) (gR:=[.val (.slice (h ⟨M,0,n⟩) (c bt) (c bt))]) rfl rfl rfl ba R;refine .aP (.of R S w3 (ae.too0 R)) ?_;have i:dW (pG f Z bt M ag) Y (LJ f Z bt M)
   [.N,.N,.K (cu 164 2 (.row M (c bt)) (c bt) ag),.N,.cells 162 [.c (.int .u64 0),.c (.int .u32 0)]] a5 cr:=
  ⟨f3.le (eu a D),S,i.a2.trans ((aa.too0 i.a_).trans ((ab.too0 a0).trans (ae.too0 R)))⟩
 clear aa ab ae a' ba f3 a0 R S;refine i.ctl a (λbQ=>zw) λb i=>?_;refine i.ctl a (λbQ=>MH) λb i=>?_;have aP:=i.a_.len;simp[fe,gO]at aP;obtain⟨y,aY⟩:∃L,b.s[2]?=h L:=⟨_,bJ w⟩
 obtain⟨ay,a3⟩:∃L,b.s[4]?=h L:=⟨_,bJ w⟩
 obtain⟨cR,bf,al,bl,cD⟩:=i.a_.box 2 _ y rfl aY;obtain⟨cw,cK,aO,cc⟩:=cu.lookup bf;obtain⟨aB,_,cJ,_,_,_⟩:=bf;have P:=(bl M).2 N;have au:=al M _ aO;obtain⟨m,z,b_,cz,bD,cE⟩:=i.a_.box 4 _ ay rfl a3;have aR:z=[.int .u64 0,.int .u32 0]:=by
  match z,bD with
  |[],aC=>exact aC.elim
  |[_],aC=>exact aC.2.elim
  |_::_::_::_,aC=>exact aC.2.2.elim
  |[c0,aZ],aC=>
   have r0:=aC.1;have t:=aC.2.1;cases r0;cases t;rfl
 subst aR;have bA:M≠m:=N;have bB:a5.tmps.getD 9 J=.pointer (h ⟨m,0,n⟩):=by obtain⟨_,L,ea,aT,aU,cY⟩:=i.bT.aL 9;grind
 obtain⟨bc,cv⟩:=i.a_.gO (d:=2) rfl aY (.inr ⟨_,rfl⟩);have aK:(b.s.set 2 ⟨y.v,[]⟩)[4]?=h ay:=N;obtain⟨bd,t2⟩:=bc.gO (d:=4) (bU:=.cells 162 [.c (.int .u64 0),.c (.int .u32 0)]) rfl aK (.inl ⟨_,_,rfl⟩);generalize cH:({b with s:=(b.s.set 2 ⟨y.v,[]⟩).set 4 ⟨ay.v,[]⟩}:a6)=j2 at bd t2;have cB:j2.s=(b.s.set 2 ⟨y.v,[]⟩).set 4 ⟨ay.v,[]⟩:=N;have aD:j2.D=b.D:=N;have C:j2.a=b.a:=N;have aF:j2.own=b.own:=N;have az:=bd;have oN:=(cv.too0 i.a_).trans (t2.too0 bc);have aS:j2.s[2]?=h ⟨y.v,[]⟩:=N;have bP:∀L∈j2.s,∀E∈L.aj,∃d,d≠2/\d≠4/\b.s[d]?=h L:=by grind[List.mem_iff_getElem?]
 have cL:=i.a_.lt y (b' aY) M P;have cM:=i.a_.lt ay (b' a3) m N;have b1:nW M j2:=⟨by rw[aF];exactλV=>(i.a_.own M V).2 y (b' aY) P,λL g k=>by obtain⟨d,bG,bH,U⟩:=bP L g M k;exact bG (i.a_.a4 d 2 L y U aY M k P),λq=>by rw[aD];grind,by grind⟩
 have H:nW m j2:=⟨by rw[aF];exactλV=>(i.a_.own m V).2 ay (b' a3) N,λL g k=>by obtain⟨d,bG,bH,U⟩:=bP L g m k;exact bH (i.a_.a4 d 4 L ay U a3 m k N),λq=>by rw[aD];grind,by grind⟩
 have cS:bY 45 eW j2 (ik f Z bt M m 0) a5:=by have p:=i.bT.mono oN i.a_.len;have cp:bY 45 eW j2 ((9,cN (.pointer (h ⟨m,0,n⟩)))::LJ f Z bt M) a5:=p.seen (by rw[bB];exact Rd.val a);exact cp.le (eu a D)
 have cQ:(ag++cw).toArray.size=2*c bt:=N;have aN:∀E,(b.own E∨∃L∈b.s,E∈L.aj)->E<b.a.heap.size:=λE k=>k.elim (λp=>(i.a_.own E p).1) λ⟨L,g,p⟩=>i.a_.lt L g E p;refine .dm (ac:=λai aE=>∃r A,dW (pG f Z bt M ag) Y (vZ (c bt) M) (r7 f Z bt M) r aE/\WgLive 162 m aE.a/\Goes T l (fK 162 m) DC0 (λcC _=>cC=G (bO.U (r.put (h 28) (.tuple #[])) (.inRegion oF []::.code ob::av)) ah) A ai aE.a)
  (k2.gh (j:=c bt) (ty:=162) (val:=E_ f Z bt) (F:=2*c bt) (cI:=j2) 2 w m M w bA (.of i.a_ az C oN) a ⟨y,b' aY,P⟩ ⟨ay,b' a3,by grind⟩ aN ?_ cz ⟨_,au,cQ⟩ ?_) ?_
 .rintro E (rfl|rfl)
  .exact⟨b1.own,b1.s,b1.D⟩
  exact⟨H.own,H.s,H.D⟩
 .intro o bh bg bk;subst bh bg;refine⟨Gn f Z bt o eW j2 bO av ah,wT f Z bt o eW j2 bO av ah,λcC b k=>SQ H X k,?_,?_⟩
  .refine acC bn bk H X aL ca cj (λe cf=>rfl) (λe cf=>rfl) (c bt) (bC _) a5 j2 ⟨by grind,az,.refl _ _⟩ ⟨_,_,by rw[C];exact cz⟩
  .rintro ai aE ⟨r,⟨u,an⟩,A,Q⟩ bz ao O cg ak;obtain⟨cT,cU,cV⟩:=ak o.af (.inl rfl);obtain⟨a7,ar,ck⟩:=ao;have bm:a7=(nj f Z bt).toArray:=by
    apply Array.ext_getElem?;intro q;have a_:(nj f Z bt).toArray[q]?=(nj f Z bt)[q]?:=D;rw[a_];rcases dY q (2*c bt)with V|V
    .have aT:=O (q / 2) w (q % 2) w;have aU:=C7 (f:=f) (Z:=Z) (bt:=bt) (E:=q / 2) (e:=q % 2) w w;rw[show 2*(q / 2)+q % 2=q by omega]at aT aU;rw[aU];simpa[aI,ar]using aT
    grind[J2]
   subst bm;have br:=u.a_.len;obtain⟨cx,aw,cm,cX,cn⟩:=u.a2.box 2 .N ⟨y.v,[]⟩ rfl aS;have cl:aw.v=.nilFunc:=by cases cm;exact(show aw.v=y.v from cn).trans aB
   have cy:∀(d:Nat) bU,eW[d]?=h bU->bU=.N:=by
    intro d bU aJ
    match d,aJ with
    |0,aJ|1,aJ|2,aJ|3,aJ|4,aJ=>cases aJ;rfl
   have cA:∀d,(aE.s.set 2 ⟨.nilFunc,[o.af]⟩)[d]?=if d=2 then h ⟨.nilFunc,[o.af]⟩else aE.s[d]?:=N;have bR:∀L∈aE.s.set 2 ⟨.nilFunc,[o.af]⟩,L=⟨.nilFunc,[o.af]⟩∨L∈aE.s:=λL g=>by grind
   have bp:bb (r7 f Z bt o.af) {aE with s:=aE.s.set 2 ⟨.nilFunc,[o.af]⟩}:=by
    refine⟨u.a_.mem,by simp[br,r7],?_,?_,?_,λE k=>⟨(u.a_.own E k).1,λL g a4=>?_⟩⟩
    .intro d bU L aJ g;rw[cA]at g;by_cases s:d=2
     .subst s;rw[bo a]at g;cases g;cases aJ;refine⟨λx=>if x=o.af then h (.cells (nj f Z bt++[]).toArray 164 (0,0))else n,⟨a,?_,J2,bC _,by omega,[],by grind,a⟩,λx cW K=>?_,λx=>?_,λx K q=>?_⟩
      .intro E k;simp only[nj,p8]at k;obtain⟨_,_,k⟩:=k;simp only[eT,rq,or_false]at k;rcases k with rfl|rfl<;>rfl
      .by_cases s:x=o.af
       .subst s;simp only[dw]at K;cases K;exact bw
       grind
      .by_cases s:x=o.af<;>simp[s]
      grind
     .match d,aJ,s with
      |0,aJ,_|1,aJ,_|3,aJ,_|4,aJ,_=>cases aJ;trivial
      |2,_,s=>grind
    .intro d bF L bV g I E k bE;rw[cA]at g I;by_cases s:d=2
     .grind
     rw[bj s]at g;by_cases b4:bF=2
     .grind
     rw[bj b4]at I;exact u.a_.a4 d bF L bV g I E k bE
    .intro L g E k;rcases bR L g with rfl|g
     .grind
     exact u.a_.lt L g E k
    rcases bR L g with rfl|g
    .grind
    exact(u.a_.own E k).2 L g a4
   have aQ:dh [.N,.N,.K (cu 164 2 (.row o.af (c bt)) (c bt) ag),.N,.cells 162 [.c (.int .u64 0),.c (.int .u32 0)]] b (r7 f Z bt o.af) {aE with s:=aE.s.set 2 ⟨.nilFunc,[o.af]⟩}:=by
    have p:=u.a2;refine⟨by have:=p.size;grind,λE k=>by have:=p.a7 E N;grind,λE q c5 k=>p.mem E q c5 N,λE k cG q=>?_,λL g E k=>?_,?_,by rw[p.os,C],by rw[p.tape,C],by rw[p.output,C],by rw[p.own,aF]⟩
    .rw[p.bA E N (λL g a4=>by
      obtain⟨d,_,_,U⟩:=bP L g E a4
      grind) q,aD]
    .rcases bR L g with rfl|g
     .grind
     rcases p.bS L g E k with t|⟨bW,t,aX⟩
     .grind
     obtain⟨d,_,_,U⟩:=bP bW t E aX;grind
    intro d bU L aJ g;obtain⟨a2,bX,t,aX,cq⟩:=oN.box d bU L aJ g;obtain⟨bS,bZ,aZ,c1,nO⟩:=p.box d a2 bX t aX;have a8:=cy d a2 t;have a9:=cy d bS aZ;subst a8 a9;by_cases s:d=2
    .subst s;cases aJ;rw[aY]at g;cases g;exact⟨_,⟨.nilFunc,[o.af]⟩,a,by grind,aB.symm⟩
    refine⟨.N,bZ,?_,by grind,cq.trans nO⟩
    match d,aZ,s with
    |0,_,_|1,_,_|3,_,_|4,_,_=>rfl
    |2,_,s=>grind
   refine⟨{aE with s:=aE.s.set 2 ⟨.nilFunc,[o.af]⟩},⟨r,A,⟨⟨u.bT.size,⟨[],?_⟩,λcZ=>?_⟩,bp,i.a2.trans aQ⟩,an,Q⟩,rfl,bz,λcP bN cF=>⟨bN.own,λE k L g a4=>?_,bN.D,bN.lt⟩⟩
   .obtain⟨nH,bu⟩:=u.bT.defers;rw[SL (λbU aJ=>by grind) bu];trivial
   .have b6:bY 45 eW aE (vZ (c bt) o.af) r:=u.bT.le (eu a D);exact bx.e0 (b:=aE) (aE:={aE with s:=aE.s.set 2 ⟨.nilFunc,[o.af]⟩}) rfl (b6.aL cZ) (vz rfl)
   rcases bR L g with rfl|g
   .grind
   exact bN.s E k L g a4
 rintro ai aE ⟨r,A,b9,bs,Q⟩;refine dW.goes A ai aE b9 bs Q λbI aG=>?_;have b8:dW (pG f Z bt M ag) Y ((28,.any)::vZ (c bt) M) (r7 f Z bt M) (r.put (h 28) (.tuple #[])) bI:=⟨aG.bT.put ca B,aG.a_,aG.a2⟩
 refine b8.ctl a (λbQ=>wh) λbL aH=>?_;refine aq bL _ (aH.bT.le (eu a D)) aH.a_ bO av ah cO aL X λs bT b0 aE b2 p b5 b7 bM=>cb s bT b0 aE b2 p b5 b7 (aH.a2.trans bM)
end
end
abbrev ET(a:m bD)(b:Bool):y:=.S [.Q (.c (.B v 1 (c a) (bS.fn a))),.Q (.c (.bool b))]
def gD(e:Int)(b:m b4)(a:m Int):Option (m bD):=if a.all (λd=>(dd e b d).isSome)then h (a.map λd=>(dd e b d).getD [])else n
noncomputable def To:Code:=nt rC
noncomputable def Tp:Code:=nt (g' rC)
noncomputable def Tq:Code:=nt (g' (g' rC))
def Tk:f62.body=h (.seq To (.seq Tp (.seq Tq BE))):=bG
def s5(e:Int)(b:m b4)(a:m Int)(d:Nat):m AM.M:=[.T ((dd e b (a.getD d 0)).getD []),.bool (dd e b (a.getD d 0)).isSome]
def mM(d:Int)(b:m b4)(a:m Int):m bD:=a.map λe=>(dd d b e).getD []
theorem aa2{i b}(a:hM i=h b):c b<=8:=by
 unfold hM at a;split at a
 .rename_i d;cases a;simp only[cp,cD,bz]at d;omega
 grind
theorem Tw{d}{a}(b:iW f d=h a):c a<=8:=by unfold iW at b;grind[aa2]
theorem JU{Z}{j}:c ((dd f Z j).getD [])<=8:=by
 cases b:dd f Z j with
 |none=>simp
 |some d=>
  obtain⟨e,_,a⟩:=List.exists_of_findSome?_eq_some b;unfold fX at a;grind[Tw]
theorem Uj{Z}{b}(g:e<c b){t}{m}(d:(s5 f Z b e)[u]?=h t)(k:(nj f Z b)[e*2+u]?=h m):Rd bB m t:=by
 have i:u<2:=(cP.1 d).1;have:=C7 (f:=f) (Z:=Z) g i;rw[xg,this]at k;cases k
 match u,i with
 |0,_=>
  cases d;have:=JU (f:=f) (Z:=Z) (j:=b.getD e 0);exact .T a w
 |1,_=>cases d;exact .bool
def _root_.Go.AM.dg.le{P:aD}{d:af P}{F}{aM}{I dE}{k}{t}(g:dg d F t aM dE k)(b:iO I dE):dg d F t aM I k:=λi e f a=>g i e (f.le b) a
def Vr(x:bK (af.c7 T) 111 (nh f))(Z)(b)(A:c b<=4000000):
  Y (af.aC T) 62 [Q f,a1.B Z,az.B b] [] (ET ((gD f Z b).getD []) (gD f Z b).isSome) []:=by
 refine bl.toY (bl.e7 (ι:=Unit) func62 rfl Tk rfl λJ=>?_);show dg _ 45 _ _ _ _;refine dg.seq (b1.bw (g.aO ?_));refine aQ a B ?_;show dg _ 45 _ _ _ _;refine dg.seq (b1.bw (g.aO ?_));refine aQ a B (g.jv (W:=164) (j:=c b) bc a a a a a a Al w a a λM ag=>?_);refine aQ a B ?_;show dg _ 45 _ _ _ _;refine dg.seq (b1.bw (g.aO ?_));refine aQ a B ?_;show dg _ 45 _ _ _ _;have q:dg (af.aC T) 45 ob (λt p e=>∃_:Unit,bW f62 0 (ET ((gD f Z b).getD []) (gD f Z b).isSome) [] t p e) (vZ (c b) M) (r7 f Z b M):=by
  refine b1.bw (b1.mono (aM:=bW f62 0 (ET ((gD f Z b).getD []) (gD f Z b).isSome) []) (g.aO ?_) λ_ _ _ z=>⟨(),z⟩);refine aQ a (show _<=_ by omega) (g.iA 29 2 (bP:=.row M (c b)) (j:=c b) (f:=2) (s5 f Z b) a a (λd i=>⟨a,λC m E R K N=>?_⟩) ?_)
  .grind [Uj]
  refine g.bE 12 9 1 a a ?_;refine g.aB 6 (λd=>d<=c b/\∀m,m<d->(dd f Z (b.getD m 0)).isSome=l) (λd:Nat=>[(29,ay (.B v 2 (c b) (s5 f Z b))),(30,Q (c b)),(31,Q d),(12,.n (.Q (.x 5 1 (c (mM f Z (b.take d))) (bS.fn (mM f Z (b.take d))))))]) (λd=>[.N,.N,.N,.N,.N,.x 9 1 (c (mM f Z (b.take d))) (bS.fn (mM f Z (b.take d)))]) (λd=>c b-d) 0 a ?_ a ?_ a ⟨by omega,by omega⟩ ?_
  .simp[bs,mM]
  .simp[bs,mM]
  rintro d ⟨i,F⟩;by_cases o:d<c b
  .cases r:(dd f Z (b.getD d 0)).isSome with
   |true=>
    have O:mM f Z (b.take (d+1))=mM f Z (b.take d)++[(dd f Z (b.getD d 0)).getD []]:=by unfold mM;grind[List.take_add_one]
    have I:c (mM f Z (b.take d))<=4000000:=by simp[mM];omega
    refine bR [32,-37] a ?_ (g.aw (d+1) a ?_ ?_ ?_ ?_)
    .simp[-aj,o,s5,r,a7];have:tf.bytes=16:=rfl;grind
    .exact P7
    .exact P7
    .grind
    omega
   |false=>
    refine bR [32,37] a ?_ (g.aS (bW.zero a ?_))
    .simp[-aj,o,s5,r]
    have u:gD f Z b=n:=On;simp[u]
  have y:d=c b:=w;subst y;refine bR [-32] a D (g.az ?_);refine cB a B (g.ao a ?_);have s:gD f Z b=h (mM f Z b):=by
   unfold gD;rw[bo]
   .rfl
   grind[List.mem_iff_getElem]
  simp[s]
 exact dg.le (k:=pG f Z b M ag) (Zg (ag:=ag) x A q) (eu a D)
end R1
end Go.AM
namespace Go.AM.R1
def rV(a)(b):iH (a::b)=if a=47 then 0 else if iH b=-1 then -1 else iH b+1:=by unfold iH;grind[Lib.indexByte.eq_def]
def Dp:iH []=-1:=cV
def aa9(b):j1 b=fY b:=by
 by_cases m:c b<=3
 .match b,m with
  |[],_=>exact cV
  |[e],_=>
   by_cases a:e=47
   .exact hI
   simp[j1,fY,jV,jT,ko,rV,Dp,a,lv,dr]
  |[e,f],_=>
   by_cases a:e=47
   .exact hI
   by_cases d:f=47
   .subst d;simp[j1,fY,jV,jT,mw,ko,rV,a]
   simp[j1,fY,jV,jT,ko,rV,Dp,a,d]
  |[e,f,i],_=>
   by_cases a:e=47
   .subst a;simp[j1,fY,jV,jT,mw,ko,rV,lv,dr]
   by_cases d:f=47
   .subst d;simp[j1,fY,jV,jT,mw,ko,rV,a,lv,dr]
   have j:¬(f.toNat:Int)=47:=by intro k;apply d;apply uH.1;grind
   by_cases g:i=47
   .subst g;simp[j1,fY,jV,jT,mw,ko,rV,a,d,lv,dr]
   simp[j1,fY,jV,jT,ko,rV,Dp,a,d,g,j,lv,dr]
  |_::_::_::_::_,k=>grind
 have o:fY b=v:=by unfold fY;grind
 grind[LF]
end Go.AM.R1
namespace Go.AM
theorem xB(a):aS a []=v:=F'
def Bl(i)(d):aS [] (i::d)=l:=F'
theorem uZ(a i)(b d):aS (a::b) (i::d)=(decide (a<i)||a==i&&aS b d):=F'
theorem xA:∀a:bD,aS a a=v
 |[]=>xB []
 |a::b=>by rw[uZ,xA b];simp
def G3:∀a b:bD,aS a b=l∨a=b∨aS b a=l
 |[],[]=>.inr (.inl rfl)
 |[],b::e=>.inl (Bl b e)
 |a::d,[]=>.inr (.inr (Bl a d))
 |a::d,b::e=>by
  rw[uZ,uZ];rcases G3 d e with f|f|f
  .grind
  .grind
  grind
theorem Bm:∀{f g b:bD},aS f g=l->aS g b=l->aS f b=l
 |f,g,[],_,e=>by grind[xB]
 |f,[],b::i,d,_=>by grind[xB]
 |[],g::j,b::i,_,_=>Bl b i
 |f::k,g::j,b::i,d,e=>by
  rw[uZ,jK,cp,bz,gl]at d e⊢;rcases d with d|⟨rfl,d⟩
  .grind
  rcases e with e|⟨rfl,e⟩
  .grind
  exact .inr ⟨a,Bm d e⟩
theorem G2{a i}(b:aS a i=l):aS i a=v:=by grind[Bm,xA]
def Ta{a i}:(!(aS i a||i==a))=aS a i:=by
 rcases G3 a i with b|b|b
 .have t:(i==a)=v:=by simp[eN,d'];grind[xA]
  grind[G2]
 .grind [xA]
 grind[G2]
namespace R1
def Mm{o}{e}(f:∀a,0<a->a<=e->aS (cv o (a-1)) (cv o a)=l):∀b,b<e->aS (cv o b) (cv o e)=l:=by
 intro b m;induction e with
 |zero=>omega
 |succ e i=>
  have d:=f (e+1) w (bC _);simp[p5]at d;by_cases k:b=e
  .grind
  exact Bm (i (λa g j=>f a g w) w) d
def LG{b}(d:fY b=l):(∃a,b=[a])∨∃a e,b=[a,47,e]:=by
 unfold fY at d;split at d
 .rename_i f
  match b,f with
  |[a],_=>grind
 split at d
 .rename_i f
  match b,f with
  |[a,e,g],_=>
   right;simp[lv,dr]at d;have i:e=47:=by apply uH.1;grind
   grind
 grind
theorem Tx{b d}(f:fY b=l)(g:fY d=l)(k:aS b d=l):lf b d=under d b:=by
 rcases LG f with⟨a,rfl⟩|⟨a,i,rfl⟩<;>rcases LG g with⟨t,rfl⟩|⟨t,j,rfl⟩
 .exact cV
 .by_cases e:a=t
  .subst e;simp[lf,under,ot,dr]
  have:¬(a.toNat:Int)=t.toNat:=λm=>e (uH.1 w);have p:((a.toNat:Int)==(t.toNat:Int))=v:=N;have o:(t==a)=v:=N;simp[lf,under,ot,dr];grind
 .have:¬(a.toNat:Int)=t.toNat:=by grind[UInt8.toNat_inj,uZ,xB]
  simp[lf,under,ot,dr,this]
 exact cV
theorem MX{o}{e}(b:∀a,a<e->jc o a=l):mX o e=jc o e:=by
 unfold mX jc;rw[aa9,Ta];cases q:fY (cv o e)with
 |false=>simp
 |true=>
  cases k:fO (lD o e)with
  |false=>simp
  |true=>
   cases r:(e==0||aS (cv o (e-1)) (cv o e))with
   |false=>simp
   |true=>
    simp[fV];have p:∀a,a<e->aS (cv o a) (cv o e)=l:=by
     apply Mm;intro f i d;by_cases m:f=e
     .grind
     have:=b f w;simp[jc,cp,jK,gl]at this;grind
    rw[o4,gd,gd];have s:∀a,a<e->lf (cv o a) (cv o e)=under (cv o e) (cv o a):=by
     intro a g;have j:fY (cv o a)=l:=by have:=b a g;simp[jc,cp]at this;exact this.1.1.1
     grind[Tx]
    grind
def sc(o):qX o=dO o:=by
 unfold qX dO;congr 1;rw[o4,gd,gd];constructor
 .intro b e;induction e using Nat.strongRecOn with
  |_ e a=>grind[MX]
 grind[MX]
end R1
end Go.AM
namespace Go.AM
variable {j A:Nat}{f:Int}{d i e u:Nat}{W:ak}{H:X->(Nat->Option Obj)->Prop}{L:Array Bool}{bB:Mem}{F:Nat}{P:aD}{br:ai->a6->Prop}{t:Code}{C:ai}{r:an}{b:a6}{o:ak}{aa:X}{p:au}{α:Type}{η:ae->y}{ι:Type}{k:m aq}{I:bL}{all:m an}{dt:Array ak}{cap:m M}{cS:m y}{ld:Nat->Option Obj}{ah:m aG}{bh:m (Nat×Bool)}{V:Nat->m M}{cQ:ae}{gs:Array ai}{aX:m Nat}{cq:m Prop}{off:Nat}{op:BinOp}{aR:Array an}{Z:m Prop}{bq:m an}{aE:a6}{ty:ak}{val:Nat->Nat->X}{z:m X}{bi:au}{ag:Array ae}{ar dj:m aq}{res:ι->y}{aU:ι->m aq}
variable {CT:m (Nat×bH)}{av:m iu}{be:fD}{ac:m (Nat×cr)}{a5:cr}
namespace R1
section
variable {q:af T}
def fG(d:Int)(a:m b4)(b:m7):Option cJ:=match gD d a b.2 with
 |none=>n
 |some e=>match iY e with
  |none=>n
  |some f=>h (b.1,f)
def fq(b:Int)(a:m b4)(d:m m7):m cJ:=d.map λe=>(fG b a e).getD ([],[])
def dU(b:Int)(d:dF)(a:m b4):Option (m cJ):=
 if cm b&&d.2.all (λe=>(fG b a e).isSome)&&dO (fq b a d.2)then h (fq b a d.2)else n
abbrev oO(a:m cJ)(b:Bool):y:=.S [.Q (.c (.B v 2 (c a) (bu.fn a))),.Q (.c (.bool b))]
abbrev i2(a:dF):y:=.n (.agg [.c (.int .i64 a.1),.c (.B v 2 (c a.2) (cx.fn a.2))])
theorem CZ{Z}{d}(a:e<c d):fq f Z (d.take (e+1))=fq f Z (d.take e)++[(fG f Z (d.getD e ([],[]))).getD ([],[])]:=by unfold fq;grind[List.take_add_one]
def EA{Z}{b}(d:e<c b.2)(a:fG f Z (b.2.getD e ([],[]))=n):dU f b Z=n:=by unfold dU;rw[bj];grind
def Y2{Z}{a}{d}(b:gD f Z a=h d)(j:c a<=4000000):c d.flatten<=140737488355328/\c d<=4000000:=by
 unfold gD at b;split at b
 .rename_i i;cases b;refine⟨?_,by grind⟩;have key:∀a:m Int,(a.all λe=>(dd f Z e).isSome)=l->(a.map λe=>(dd f Z e).getD []).flatten.length<=8*c a:=by
   intro a;induction a with
   |nil=>grind
   |cons e a g=>
    intro b;simp only[List.all_cons,cp]at b;grind[JU]
  grind
 grind
def Yc(f)(b)(Z)(X:c b.2<=4000000)(G:∀e∈b.2,c e.2<=4000000):
  Y (af.aC T) 35 [Q f,i2 b,a1.B Z] [] (oO ((dU f b Z).getD []) (dU f b Z).isSome) []:=by
 refine Y.ab func35 rfl λI=>?_;have aa:=I.B 2 a;have i:a_ (af.aC T) [(25,di c7 (λf=>bg (cm f)) λ_=>[])]:=.cons qU .nil;cases b3:cm f with
 |false=>
  refine a8 i [-15,16] a mc (g.ao a ?_);simp[dU,b3]
 |true=>
  have S:bK (af.c7 T) 111 (nh f):=adx zN b3;refine a8 i [15,-16,904] a mc (g.bE 8 81 2 a a ?_);refine b9 i a B (g.aB 2 (λd=>d<=c b.2/\∀u,u<d->(fG f Z (b.2.getD u ([],[]))).isSome=l) (λd:Nat=>[(0,Q f),(2,a1.B Z),(4,aH 0 0),(8,.n (.Q (.x 1 2 (c (fq f Z (b.2.take d))) (bu.fn (fq f Z (b.2.take d)))))),(18,cx.B b.2),(19,Q (c b.2)),(20,Q d)]) (λd=>[.cells 50 [.c (.int .i64 b.1),.c (.B v 2 (c b.2) (cx.fn b.2))],.x 81 2 (c (fq f Z (b.2.take d))) (bu.fn (fq f Z (b.2.take d)))]) (λd=>c b.2-d) 0 a z1 a z1 a ⟨by omega,by omega⟩ ?_);rintro d ⟨J,ab⟩;by_cases p:d<c b.2
  .have r:b.2.getD d ([],[])∈b.2:=N;generalize m:b.2.getD d ([],[])=e at r;have z:=G e r;have o:=Vr S Z e.2 z;cases j:gD f Z e.2 with
   |none=>
    rw[j]at o;refine a8 i [21] a bw (g.aA (m▸o) [] a (a8 i [33] a D (g.aS (bW.zero a ?_))));have k:fG f Z e=n:=by simp[fG,j]
    rw[EA p N];simp
   |some x=>
    obtain⟨V,y⟩:=Y2 j z;rw[j]at o;have K:=U_ (q:=af.aC T) x V;refine a8 i [21] a bw (g.aA (m▸o) [] a (a8 i [-33] a D (g.aA K [] a ?_)));cases R:iY x with
    |none=>
     refine a8 i [40] a D (g.aS (bW.zero a ?_));have k:fG f Z e=n:=by simp[fG,j,R]
     rw[EA p N];simp
    |some s=>
     have k:fG f Z e=h (e.1,s):=by simp[fG,j,R]
     have F:b.2.getD (d:Int).toNat cx.E=e:=m;have W:c (fq f Z (b.2.take d))<=4000000:=by simp[fq];omega
     have E:bs (c (fq f Z (b.2.take d))+1) (ck (c (fq f Z (b.2.take d))) (bu.fn (fq f Z (b.2.take d))) λO=>[[M.T (b.2.getD (d:Int).toNat cx.E).1,M.T ((h s).getD [])]].getD O []) (bu.fn (fq f Z (b.2.take (d+1)))):=by rw[CZ p,m,k,F];exact bu.a0 (fq f Z (b.2.take d)) (e.1,s)
     have C:c (fq f Z (b.2.take d))+1=c (fq f Z (b.2.take (d+1))):=by grind[CZ]
     refine a8 i [-40] a ?_ (g.aw (d+1) a ?_ ?_ ?_ ?_)
     .refine⟨by exact bE,a,a,?_,a⟩;show _*32<=_;omega
     .refine U.Y.2 ⟨a,U.Y.2 ⟨⟨a,bs.same⟩,U.Y.2 ⟨B,U.Y.2 ⟨⟨C,E⟩,U.Y.2 ⟨⟨a,bs.same⟩,U.Y.2 ⟨a,U.Y.2 ⟨?_,B⟩⟩⟩⟩⟩⟩⟩;simp
     .exact U.Y.2 ⟨U.Y.2 ⟨a,U.Y.2 ⟨⟨a,bs.same⟩,B⟩⟩,U.Y.2 ⟨⟨C,E⟩,B⟩⟩
     .grind
     omega
  have k:d=c b.2:=w;subst k;refine a8 i [-21] a D (g.az ?_);rw[c0];have t:=JN (q:=af.aC T) (fq f Z b.2);rw[sc]at t;refine b9 i a B (g.aA t [] a ?_);have H:b.2.all (λe=>(fG f Z e).isSome)=l:=aW.2 λe r=>by grind[List.mem_iff_getElem]
  cases A:dO (fq f Z b.2)with
  |false=>
   refine a8 i [51] a D (g.ao a ?_);simp[dU,A]
  |true=>
   refine a8 i [-51] a D (g.ao a ?_);simp[dU,A,b3,H]
abbrev cb:=m b4×m dF×m (Int×Int)
def iL(b:cb):Prop:=∀a∈b.2.1,c a.2<=4000000/\∀d∈a.2,c d.2<=4000000
abbrev b0(a:cb):y:=.n (.agg [.c (.B v 2 (c a.1) (a1.fn a.1)),.c (.B v 2 (c a.2.1) (bd.fn a.2.1)),.c (.B v 2 (c a.2.2) (a4.fn a.2.2))])
def gJ(e:Int)(d:cb)(a:Int):Option (m cJ):=match d.2.1.find? (λb=>b.1==a)with
 |none=>n
 |some b=>dU e b d.1
def BY:bH:=jS c7 (jI cx) (eS a1) (λd b a=>oO ((dU d b a).getD []) (dU d b a).isSome) λ_ b _=>[c b.2<=4000000,∀e∈b.2,c e.2<=4000000]
def No:bK (af.aC T) 35 BY:=.cM λd e a b=>Yc d e a b.1 b.2
def JI(f:Int)(b:cb)(d:Int)(s:iL b):
  Y (af.aC T) 11 [Q f,b0 b,Q d] [] (oO ((gJ f b d).getD []) (gJ f b d).isSome) []:=by
 refine Y.ab func11 rfl λu=>?_;have j:a_ (af.aC T) [(33,BC),(35,BY)]:=.cons t33 (.cons No .nil);have q:bd.ad (c b.2.1) (bd.fn b.2.1)=b.2.1:=bd.l _;refine a8 j [901] a B (g.freeze 5 1 a a a ?_);rcases ZH b.2.1 d with⟨o,i⟩|⟨e,bp,o,i⟩
 .refine a8 j [14] a bE (g.ao a ?_);simp[gJ,i]
 have t:b.2.1.getD e (0,[])∈b.2.1:=N;obtain⟨r,k⟩:=s _ t;have p:gJ f b d=dU f (b.2.1.getD e (0,[])) b.1:=by simp only[gJ,i]
 have m:b.2.1.getD (ov (bd.ad (c b.2.1) (bd.fn b.2.1)) d).toNat bd.E=b.2.1.getD e (0,[]):=N;refine a8 j [-14] a ?_ (g.ao a ?_)
 .simp only[U,m,cx.l,q,o];exact⟨cx.J _,a1.J _,r,k,by omega,by omega,n4 w,bd.J _⟩
 simp only[m,cx.l,a1.l,p];simp
def mn:jh cb:=⟨b0,λs=>match s with
 |.n (.agg [.c r,.c t,.c u])=>match jA 2 (ay r)with
  |some (i,f)=>match jA 2 (ay t)with
   |some (j,m)=>match jA 2 (ay u)with
    |some (q,g)=>h ((a1.ad i f,bd.ad j m,a4.ad q g),[a1.bN i f,bd.bN j m,a4.bN q g])
    |none=>n
   |none=>n
  |none=>n
 |_=>n,λ{s r E} e d k b aa A=>by
 split at e
 .split at e
  .rename_i i f o;split at e
   .rename_i j m x;split at e
    .rename_i q g p;cases e;obtain⟨z,w,a⟩:=A
     match z,a with
     |[],a=>exact a.elim
     |[_],a=>exact a.2.elim
     |[_,_],a=>exact a.2.2.elim
     |_::_::_::_::_,a=>exact a.2.2.2.elim
     |[C,D,y],a=>
      exact⟨_,w,a1.cu (k:=[]) (b:=b) (aa:=C) o d.1 a.1,bd.cu (k:=[]) (b:=b) (aa:=D) x d.2.1 a.2.1,a4.cu (k:=[]) (b:=b) (aa:=y) p d.2.2 a.2.2.1,B⟩
    grind
   grind
  grind
 grind⟩
def HS:bH:=jS c7 mn c7 (λb a d=>oO ((gJ b a d).getD []) (gJ b a d).isSome) λ_ a _=>[iL a]
def aeb:bK (af.aC T) 11 HS:=.cM λb e d a=>JI b e d a
abbrev eb(b:b4)(a:Nat):cY:=b.2.getD a (0,[])
def io(d:Int)(b:b4)(a:Nat):Bool:=right d (eb b a)&&(a==0||decide ((eb b (a-1)).1<(eb b a).1))
theorem D2(f)(a):ij f a=((aA (c a.2)).all (io f a)&&(cm f&&decide (1<=a.1)&&decide (a.1<=99)&&decide (1<=c a.2)&&decide (c a.2<=4))):=by
 have j:(a.2.all (right f)&&EB (a.2.map (·.1)))=(aA (c a.2)).all (io f a):=by
  rw[o4,cp,aW,aW];unfold EB;rw[aW];have d:∀e,e<c a.2->(a.2.map (·.1)).getD e 0=(eb a e).1:=λe bp=>by grind
  constructor
  .rintro⟨i,b⟩ e bp;have bp:=rr.1 bp;have k:=b e N;rw[d e bp]at k;unfold io;rw[i (eb a e) N,fV];rcases n9 e with rfl|m
   .rfl
   grind
  intro s;refine⟨λo g=>?_,λe bp=>?_⟩
  .obtain⟨e,bp,rfl⟩:=A4.1 g;exact Ro
  have bp:e<c a.2:=N;exact Ro
 rw[<-j];unfold ij;cases cm f<;>cases decide (1<=a.1)<;>cases decide (a.1<=99)<;>cases decide (1<=c a.2)<;>cases decide (c a.2<=4)<;>simp
def Ly{a}(b:e<c a.2)(d:io f a e=v):ij f a=v:=by grind[D2]
theorem B8{E}(a:cm f=l):(iW f E).isSome=right f E:=by unfold iW right;grind
def Xv(f)(b)(i:cm f=l)(E:c b.2<=4000000):Y q 197 [Q f,fM b] [] (bg (ij f b)) []:=by
 refine Y.ab func197 rfl λI=>?_;have e:a_ q [(25,di c7 (λf=>bg (cm f)) λ_=>[]),(234,ej sy c7 (λA f=>i1 (iW f A)) λ_ f=>[cm f=l])]:=.cons qU (.cons (Nc zN) .nil);refine b9 e a B (g.aB 1 (λd=>d<=c b.2/\∀j,j<d->io f b j=l) (λd:Nat=>[(0,Q f),(3,aH 0 0),(10,bI.B b.2),(11,Q (c b.2)),(12,Q d)]) (λ_=>[.cells 119 [.c (.int .i64 b.1),.c (ly b)]]) (λd=>c b.2-d) 0 a D a D a ⟨by omega,by omega⟩ ?_);rintro d ⟨x,t⟩;by_cases r:d<c b.2
 .cases m:right f (eb b d)with
  |false=>
   have o:(iW f (eb b d)).isSome=v:=by grind[B8]
   refine a8 e [13,24,40] a ds (g.aS (bW.zero a ?_));rw[Ly r (by simp only[io,m,sH])];simp
  |true=>
   have o:(!(iW f (eb b d)).isSome)=v:=by grind[B8]
   by_cases z:d=0
   .subst z;refine a8 e [13,-24,-27,-40] a lO (g.aw 1 a D D ⟨by omega,λj k=>?_⟩ w);have:j=0:=w;subst this;simp only[io,m,fV];rfl
   have M:((d:Int)-1).toNat=d-1:=w;cases s:decide ((eb b (d-1)).1<(eb b d).1)with
   |false=>
    refine a8 e [13,-24,27,38,40] a ?_ (g.aS (bW.zero a ?_))
    .have C:(b.2.getD ((d:Int)-1).toNat bI.E).1=(eb b (d-1)).1:=bE;refine⟨a,fA ?_,by omega,by omega,by exact bE,fA w,o,i,by omega,by omega,fA w⟩;rw[C];show(eb b d).1<=_;grind
    rw[Ly r (by simp[io,m,s,fV,Bool.or_false];grind)];simp
   |true=>
    refine a8 e [13,-24,27,-38,-40] a ?_ (g.aw (d+1) a ?_ ?_ ⟨by omega,λj k=>?_⟩ w)
    .have C:(b.2.getD ((d:Int)-1).toNat bI.E).1=(eb b (d-1)).1:=bE;refine⟨by exact bE,a,n4 ?_,by omega,by omega,by exact bE,fA w,o,i,by omega,by omega,fA w⟩;rw[C];show¬(eb b d).1<=_;grind
    .simp
    .simp
    rcases w9.1 k with k|rfl
    .grind
    simp only[io,m,s,fV,Bool.or_true]
 have u:d=c b.2:=w;subst u;refine a8 e [-13] a D (g.az ?_);have y:(aA (c b.2)).all (io f b)=l:=aW.2 λj k=>t j (rr.1 k);rw[D2,y,i];by_cases J:1<=b.1
 .by_cases K:b.1<=99
  .by_cases p:1<=c b.2
   .by_cases F:c b.2<=4
    .refine a8 e [43,47,52,58,64] a bE (g.ao a ?_);exact bw
    refine a8 e [43,47,52,58,-64] a bE (g.ao a ?_);exact bw
   refine a8 e [43,47,52,-58] a ds (g.ao a ?_);exact bw
  refine a8 e [43,47,-52] a ds (g.ao a ?_);exact bw
 refine a8 e [43,-47] a ds (g.ao a ?_);exact bw
def BT:bH:=ej c7 (jI bI) (λa b=>bg (ij a b)) λa b=>[cm a=l,c b.2<=4000000]
def Nj:bK q 197 BT:=.bk λb d a=>Xv b d a.1 a.2
def IX(d)(f:c d<=4000000):Y q 148 [a4.B d] [] (cF 0 (.B (c d) 2 0 (c d))) [.q 54 2 (c d) (a4.fn d)]:=by
 refine Y.ab func148 rfl λi=>?_;refine aQ a B (g.ey bc a a a a a a λb e=>?_);cases b with
 |true=>
  obtain rfl:=jJ (e rfl);refine aQ a B (g.e_ 2 54 2 (a4.fn []) a ?_);exact FE
 |false=>
  refine gH [] 7 a B (g.dH 5 54 2 (a4.fn []) a ?_);refine aQ a ⟨a,a,show(0+c d)*16<=_ by omega⟩ (g.bc [.q 54 2 (c d) (a4.fn d)] a ?_ ?_)
  .simp[bs,ck]
  exact FQ
def IZ(d)(e:c d<=4000000):Y q 148 [a4.B d] [] (a4.B d) []:=by
 refine Y.ab func148 rfl λf=>?_;refine aQ a B (g.ey bc a a a a a a λb x=>?_);cases b with
 |true=>
  exact FP
 |false=>
  exact aQ a ⟨show(0+c d)*16<=_ by omega,.inl a⟩ Fu
def US(d)(e:c d<=4000000):Y q 225 [bI.B d] [] (bI.B d) []:=by
 refine Y.ab func225 rfl λf=>?_;refine aQ a B (g.ey bc a a a a a a λb x=>?_);cases b with
 |true=>
  exact FP
 |false=>
  exact aQ a ⟨show(0+c d)*24<=_ by omega,.inl a⟩ Fu
def Cz(d)(e:c d<=4000000):Y q 61 [az.B d] [] (az.B d) []:=by
 refine Y.ab func61 rfl λf=>?_;refine aQ a B (g.ey bc a a a a a a λb x=>?_);cases b with
 |true=>
  exact FP
 |false=>
  exact aQ a ⟨show(0+c d)*8<=_ by omega,.inl a⟩ Fu
def _root_.Go.AM.c5.cW(a:c5 α)(d)(i:e<c d)(b):bs (e+1) (ck e (a.fn (d.take e)) (λf=>[a.a8 (d.getD e b)].getD f [])) (a.fn (d.take (e+1))):=by
 have g:d.take (e+1)=d.take e++[d.getD e b]:=by grind[List.take_add_one]
 have:=a.a0 (d.take e) (d.getD e b);grind
abbrev He:bH:=di (eS bI) (λa=>bI.B a) λa=>[c a<=4000000]
def adp:bK q 225 He:=.a9 λb a=>US b a
abbrev Hf:bH:=di (eS az) (λa=>az.B a) λa=>[c a<=4000000]
def adq:bK q 61 Hf:=.a9 λb a=>Cz b a
def Xq(b)(d:c b.2<=4000000):Y q 146 [fM b] [] (fM b) []:=by
 refine Y.bg bc func146 rfl rfl rfl λi=>?_;have e:a_ q [(225,He)]:=.cons adp .nil;refine b9 e a ?_ ?_
 .simp only[U,bI.l];exact⟨bI.J _,d⟩
 refine g.bf () [] ?_ (λj f=>absurd f D);simp[bI.l]
abbrev xP:bH:=di (jI bI) (λa=>fM a) λa=>[c a.2<=4000000]
def EV:bK q 146 xP:=.a9 λb a=>Xq b a
def X9(b)(u:c b.2<=4000000)(k:∀r∈b.2,c r.2<=4000000):Y q 147 [i2 b] [] (i2 b) []:=by
 refine Y.bg bc func147 rfl rfl rfl λt=>?_;have e:a_ q [(61,Hf)]:=.cons adq .nil;refine a8 e [902] a B (g.cm 2 1 111 2 (cx.fn []) a a ?_);refine b9 e a B ?_;refine g.aB 4 (λd=>d<=c b.2) (λd:Nat=>[(2,aH 1 0),(3,aH 2 0),(10,cx.B b.2),(11,Q (c b.2)),(12,Q d)])
  (λd=>[.cells 50 [.c (.int .i64 b.1),.c (.B v 2 (c b.2) (cx.fn b.2))],.cells 50 [.c (.int .i64 0),.c (.B l 0 0 λ_=>[])],.cells 50 [.c (.int .i64 b.1),.x 3 2 d (cx.fn (b.2.take d))],.x 111 2 d (cx.fn (b.2.take d))]) (λd=>c b.2-d) 0 a ?_ a ?_ a w ?_
 .simp
 .simp
 intro d o;by_cases m:d<c b.2
 .have C:b.2.getD d ([],[])∈b.2:=N;refine a8 e [13] a ?_ (g.aw (d+1) a ?_ ?_ ?_ ?_)
  .have p:=k _ C;have f:b.2.getD (d:Int).toNat cx.E=b.2.getD d ([],[]):=N;simp only[U,f,az.l,a7];exact⟨by omega,B,B,show(d+1)*40<=_ by omega,az.J _,p,by omega,by omega,fA w⟩
  .simp
  .have f:b.2.getD (d:Int).toNat cx.E=b.2.getD d ([],[]):=N;have i:=cx.cW b.2 m ([],[]);simp only[U.Y,U,f,az.l,a9,a'];exact⟨bs.same,bs.same,i,i⟩
  .grind
  omega
 obtain rfl:d=c b.2:=w;refine a8 e [-13] a D (g.az ?_);refine b9 e a B (g.bf () [] ?_ (λs j=>absurd j D));simp
abbrev xQ:bH:=di (jI cx) (λa=>i2 a) λa=>[c a.2<=4000000,∀b∈a.2,c b.2<=4000000]
def EW:bK q 147 xQ:=.a9 λb a=>X9 b a.1 a.2
abbrev cH:R:=.c (.B l 0 0 λ_=>[])
def pd(b)(p:c b.1<=4000000)(C:∀m∈b.1,c m.2<=4000000)(t:c b.2.1<=4000000)(O:iL b)(k:c b.2.2<=4000000):
  Y q 101 [b0 b] [] (.n (.agg [.O 0 (.B (c b.1) 2 0 (c b.1)),.O 1 (.B (c b.2.1) 2 0 (c b.2.1)),.c (.B v 2 (c b.2.2) (a4.fn b.2.2))])) [.q 119 2 (c b.1) (a1.fn b.1),.q 50 2 (c b.2.1) (bd.fn b.2.1)]:=by
 refine Y.bg bc func101 rfl rfl rfl λr=>?_;have d:a_ q [(146,xP),(147,xQ)]:=.cons EV (.cons EW .nil);refine a8 d [902] a B (g.ep 2 0 119 2 (a1.fn []) a a ?_);refine g.ep 2 1 50 2 (bd.fn []) a a ?_;refine b9 d a B ?_;refine g.aB 5 (λe=>e<=c b.1) (λe:Nat=>[(1,aH 0 0),(2,aH 1 0),(3,aH 2 0),(9,a1.B b.1),(10,Q (c b.1)),(11,Q e)])
  (λe=>[.cells 30 [.c (.B v 2 (c b.1) (a1.fn b.1)),.c (.B v 2 (c b.2.1) (bd.fn b.2.1)),.c (.B v 2 (c b.2.2) (a4.fn b.2.2))],.cells 30 [cH,cH,cH],.cells 30 [.O 3 (.B e 2 0 e),.O 4 (.B 0 2 0 0),cH],.q 119 2 e (a1.fn (b.1.take e)),.q 50 2 0 (bd.fn [])]) (λe=>c b.1-e) 0 a ?_ a ?_ a w ?_
 .simp
 .simp
 intro e f;by_cases s:e<c b.1
 .have al:b.1.getD e (0,[])∈b.1:=N;have i:b.1.getD (e:Int).toNat a1.E=b.1.getD e (0,[]):=N;refine a8 d [12] a PG (g.aw (e+1) a D QH N ?_);omega
 obtain rfl:e=c b.1:=w;rw[c0];refine a8 d [-12] a D (g.az ?_);refine b9 d a B ?_;refine g.aB 5 (λe=>e<=c b.2.1) (λe:Nat=>[(1,aH 0 0),(2,aH 1 0),(3,aH 2 0),(24,bd.B b.2.1),(25,Q (c b.2.1)),(26,Q e)])
  (λe=>[.cells 30 [.c (.B v 2 (c b.1) (a1.fn b.1)),.c (.B v 2 (c b.2.1) (bd.fn b.2.1)),.c (.B v 2 (c b.2.2) (a4.fn b.2.2))],.cells 30 [cH,cH,cH],.cells 30 [.O 3 (.B (c b.1) 2 0 (c b.1)),.O 4 (.B e 2 0 e),cH],.q 119 2 (c b.1) (a1.fn b.1),.q 50 2 e (bd.fn (b.2.1.take e))]) (λe=>c b.2.1-e) 0 a ?_ a ?_ a w ?_
 .simp
 .simp
 intro e f;by_cases s:e<c b.2.1
 .have al:b.2.1.getD e (0,[])∈b.2.1:=N;have i:b.2.1.getD (e:Int).toNat bd.E=b.2.1.getD e (0,[]):=N;refine a8 d [27] a Qq (g.aw (e+1) a D FM N ?_);omega
 obtain rfl:e=c b.2.1:=w;rw[c0];refine a8 d [-27] a D (g.az ?_);refine b9 d a B (g.aA (IZ b.2.2 k) [] a (b9 d a B (g.bf () [3,4] ?_ (λo j=>absurd j D))));simp
def JH(b)(p:c b.1<=4000000)(C:∀m∈b.1,c m.2<=4000000)(t:c b.2.1<=4000000)(O:iL b)(k:c b.2.2<=4000000):
  Y q 101 [b0 b] [] (.n (.agg [.O 0 (.B (c b.1) 2 0 (c b.1)),.O 1 (.B (c b.2.1) 2 0 (c b.2.1)),.O 2 (.B (c b.2.2) 2 0 (c b.2.2))])) [.q 119 2 (c b.1) (a1.fn b.1),.q 50 2 (c b.2.1) (bd.fn b.2.1),.q 54 2 (c b.2.2) (a4.fn b.2.2)]:=by
 refine Y.bg bc func101 rfl rfl rfl λr=>?_;have d:a_ q [(146,xP),(147,xQ)]:=.cons EV (.cons EW .nil);refine a8 d [902] a B (g.ep 2 0 119 2 (a1.fn []) a a ?_);refine g.ep 2 1 50 2 (bd.fn []) a a ?_;refine b9 d a B ?_;refine g.aB 5 (λe=>e<=c b.1) (λe:Nat=>[(1,aH 0 0),(2,aH 1 0),(3,aH 2 0),(9,a1.B b.1),(10,Q (c b.1)),(11,Q e)])
  (λe=>[.cells 30 [.c (.B v 2 (c b.1) (a1.fn b.1)),.c (.B v 2 (c b.2.1) (bd.fn b.2.1)),.c (.B v 2 (c b.2.2) (a4.fn b.2.2))],.cells 30 [cH,cH,cH],.cells 30 [.O 3 (.B e 2 0 e),.O 4 (.B 0 2 0 0),cH],.q 119 2 e (a1.fn (b.1.take e)),.q 50 2 0 (bd.fn [])]) (λe=>c b.1-e) 0 a ?_ a ?_ a w ?_
 .simp
 .simp
 intro e f;by_cases s:e<c b.1
 .have al:b.1.getD e (0,[])∈b.1:=N;have i:b.1.getD (e:Int).toNat a1.E=b.1.getD e (0,[]):=N;refine a8 d [12] a PG (g.aw (e+1) a D QH N ?_);omega
 obtain rfl:e=c b.1:=w;rw[c0];refine a8 d [-12] a D (g.az ?_);refine b9 d a B ?_;refine g.aB 5 (λe=>e<=c b.2.1) (λe:Nat=>[(1,aH 0 0),(2,aH 1 0),(3,aH 2 0),(24,bd.B b.2.1),(25,Q (c b.2.1)),(26,Q e)])
  (λe=>[.cells 30 [.c (.B v 2 (c b.1) (a1.fn b.1)),.c (.B v 2 (c b.2.1) (bd.fn b.2.1)),.c (.B v 2 (c b.2.2) (a4.fn b.2.2))],.cells 30 [cH,cH,cH],.cells 30 [.O 3 (.B (c b.1) 2 0 (c b.1)),.O 4 (.B e 2 0 e),cH],.q 119 2 (c b.1) (a1.fn b.1),.q 50 2 e (bd.fn (b.2.1.take e))]) (λe=>c b.2.1-e) 0 a ?_ a ?_ a w ?_
 .simp
 .simp
 intro e f;by_cases s:e<c b.2.1
 .have al:b.2.1.getD e (0,[])∈b.2.1:=N;have i:b.2.1.getD (e:Int).toNat bd.E=b.2.1.getD e (0,[]):=N;refine a8 d [27] a Qq (g.aw (e+1) a D FM N ?_);omega
 obtain rfl:e=c b.2.1:=w;rw[c0];refine a8 d [-27] a D (g.az ?_);refine b9 d a B (g.aA (IX b.2.2 k) [] a (b9 d a B (g.bf () [3,4,5] ?_ (λo j=>absurd j D))));simp
def gV(d:α->Bool)(b:m α):Int:=match b.findIdx? d with|some a=>a|none=>-1
def tg{a:α->Bool}{o}{O}(d:e<c o)(g:a (o.getD e O)=l)(f:∀b,b<e->a (o.getD b O)=v):gV a o=e:=by
 have:o.findIdx? a=h e:=by grind[List.findIdx?_eq_some_iff_getElem]
 rw[gV,this]
def th{a:α->Bool}{o}{O}(d:∀b,b<c o->a (o.getD b O)=v):gV a o=-1:=by have:o.findIdx? a=n:=ug;rw[gV,this]
def VX(d)(t:c d<=4000000)(i)(ah)(b:b4->Bool)(o:∀k,k∈d->Y q i [fM k,ay (.R ah)] [] (bg (b k)) []):
  Y q 135 [cF 0 (.B (c d) 2 0 (c d)),ay (.fn (.func i) [] [.R ah])] [.q 119 2 (c d) (a1.fn d)] (Q (gV b d)) [.q 119 2 (c d) (a1.fn d)]:=by
 refine Y.ab func135 rfl λr=>?_;refine aQ a B (g.aB 1 (λe=>e<=c d/\∀u,u<e->b (d.getD u (0,[]))=v) (λe:Nat=>[(0,cF 0 (.B (c d) 2 0 (c d))),(1,ay (.fn (.func i) [] [.R ah])),(7,Q (c d)),(8,Q e)]) (λ_=>[.q 119 2 (c d) (a1.fn d)]) (λe=>c d-e) 0 a D a D a ⟨by omega,by omega⟩ ?_);rintro e ⟨p,x⟩;by_cases s:e<c d
 .have f:d.getD e (0,[])∈d:=N;have m:d.getD ((0+(e:Int).toNat:Nat)) a1.E=d.getD e (0,[]):=nT;refine a3 [9] a bw ?_;rw[m];refine g.aA (o _ f) [] a ?_;cases C:b (d.getD e (0,[]))with
  |true=>
   exact OO
  |false=>
   exact Ab
 exact QB
def V0(d)(t:c d<=4000000)(i)(ah)(b:dF->Bool)(o:∀k,k∈d->Y q i [i2 k,ay (.R ah)] [] (bg (b k)) []):
  Y q 33 [cF 0 (.B (c d) 2 0 (c d)),ay (.fn (.func i) [] [.R ah])] [.q 50 2 (c d) (bd.fn d)] (Q (gV b d)) [.q 50 2 (c d) (bd.fn d)]:=by
 refine Y.ab func33 rfl λr=>?_;refine aQ a B (g.aB 1 (λe=>e<=c d/\∀u,u<e->b (d.getD u (0,[]))=v) (λe:Nat=>[(0,cF 0 (.B (c d) 2 0 (c d))),(1,ay (.fn (.func i) [] [.R ah])),(7,Q (c d)),(8,Q e)]) (λ_=>[.q 50 2 (c d) (bd.fn d)]) (λe=>c d-e) 0 a D a D a ⟨by omega,by omega⟩ ?_);rintro e ⟨p,x⟩;by_cases s:e<c d
 .have f:d.getD e (0,[])∈d:=N;have m:d.getD ((0+(e:Int).toNat:Nat)) bd.E=d.getD e (0,[]):=nT;refine a3 [9] a bw ?_;rw[m];refine g.aA (o _ f) [] a ?_;cases C:b (d.getD e (0,[]))with
  |true=>
   exact OO
  |false=>
   exact Ab
 exact QB
def VR(d)(y:c d<=4000000)(i)(ah)(j:(Int×Int)->Bool)(p:∀k,k∈d->Y q i [.n (.agg [.c (.int .i64 k.1),.c (.int .i64 k.2)]),ay (.R ah)] [] (bg (j k)) []):
  Y q 257 [a4.B d,ay (.fn (.func i) [] [.R ah])] [] (Q (gV j d)) []:=by
 refine Y.ab func257 rfl λu=>?_;refine aQ a B (g.aB 0 (λe=>e<=c d/\∀b,b<e->j (d.getD b (0,0))=v) (λe:Nat=>[(0,a4.B d),(1,ay (.fn (.func i) [] [.R ah])),(7,Q (c d)),(8,Q e)]) (λ_=>[]) (λe=>c d-e) 0 a D a D a ⟨by omega,by omega⟩ ?_);rintro e ⟨t,m⟩;by_cases s:e<c d
 .have f:d.getD e (0,0)∈d:=N;have o:d.getD (((e:Int).toNat)) a4.E=d.getD e (0,0):=nT;refine a3 [9] a bw ?_;rw[o];refine g.aA (p _ f) [] a ?_;cases r:j (d.getD e (0,0))with
  |true=>
   refine a3 [16] a D (g.aS (bW.mk [] a ?_ a a a e4));simp[tg s r m]
  |false=>
   exact Ab
 refine a3 [-9] a bM (g.az ?_);refine aQ a B (g.aI [] a ?_ e4);simp[th (λb x=>m b w)]
def yP(b:α->Bool)(d):(gV b d=-1/\∀a∈d,b a=v)∨∃e:Nat,e<c d/\gV b d=e/\(∀a∈d.take e,b a=v)/\(∀a,d[e]?=h a->b a=l):=by unfold gV;grind[List.findIdx?_eq_some_iff_getElem,List.getElem_of_mem]
def N9{fb bp}{b}(a:¬(fb<=u/\u<bp)):nQ fb bp b V u=V u:=bj a
theorem h4{a:m α}(d:e<c a)(b:α):a.take (e+1)=a.take e++[a.getD e b]:=by grind[List.take_add_one]
def JW{d}{b:α->Bool}(f:e<c d)(g:∀a∈d.take e,b a=v)(i:∀a,d[e]?=h a->b a=l):(d.take (e+1)).filter (λa=>!b a)=d.take e:=by grind[List.take_add_one,List.filter_eq_self]
def _root_.Go.AM.c5.cV(a:c5 α)(d)(e)(b)(j)(f:j<=c d):bs j (l9 e (a.a8 b) (a.fn d)) (a.fn (d.set e b)):=by intro i g;simp only[l9,c5.fn,gI];grind
structure Sj(d:m b4)(bm:b4->Bool)(u:Nat)(nP:m b4):Prop where
 fG:u<=c d
 len:c nP=c d
 done:nP.take (c ((d.take u).filter λE=>!bm E))=(d.take u).filter λE=>!bm E
 hJ:∀e,u<=e->nP[e]?=d[e]?
def Vh(d)(y:c d<=4000000)(i)(ah)(bm:b4->Bool)(o:∀E,E∈d->Y q i [fM E,ay (.R ah)] [] (bg (bm E)) []):
  bl (ι:={k:Nat->m M // ∀e,e<c (d.filter λE=>!bm E)->k e=a1.fn (d.filter λE=>!bm E) e}) q 206 [cF 0 (.B (c d) 2 0 (c d)),ay (.fn (.func i) [] [.R ah])] [.q 119 2 (c d) (a1.fn d)]
   (λ_=>cF 0 (.B (c d) 2 0 (c (d.filter λE=>!bm E)))) (λk=>[.q 119 2 (c d) k.1]):=by
 refine bl.cb func206 rfl rfl rfl λF=>?_;refine aQ a B (g.aA (VX d y i ah bm o) [0] a ?_);rcases yP bm d with⟨j,A⟩|⟨i0,C,j,A,aa⟩
 .rw[j];have t:d.filter (λE=>!bm E)=d:=rl.2 λE p=>by grind
  refine a3 [12] a D (g.bu ⟨a1.fn d,λe _=>by grind⟩ (g.aI [0] a ?_ ib));simp[t]
 rw[j];refine a3 [-12] a j8 ?_;refine g.aB 1 (λb:Nat×m b4=>Sj d bm b.1 b.2) (λb=>[(0,cF 0 (.B (c d) 2 0 (c d))),(1,ay (.fn (.func i) [] [.R ah])),(5,Q (c ((d.take b.1).filter λE=>!bm E))),(6,Q b.1)])
  (λb=>[.q 119 2 (c d) (a1.fn b.2)]) (λb=>c d-b.1) (i0+1,d) a ?_ a ?_ a ?_ ?_
 .exact OV
 .simp
 .exact RG
 rintro⟨u,O⟩ ⟨r,ba,S,bA⟩;simp only at r ba S bA;by_cases I:u<c d
 .have p:d.getD u (0,[])∈d:=N;have s:c ((d.take u).filter λE=>!bm E)<=u:=e3 (iz _ _) N;have z:O.getD (0+(u:Int).toNat) a1.E=d.getD u (0,[]):=N;refine a3 [19] a pS ?_;rw[z];refine g.aA (o _ p) [] a ?_;cases J:bm (d.getD u (0,[]))with
  |false=>
   have f:(d.take (u+1)).filter (λE=>!bm E)=(d.take u).filter (λE=>!bm E)++[d.getD u (0,[])]:=iq;refine a3 [29] a ?_ (g.aw (u+1,O.set (c ((d.take u).filter λE=>!bm E)) (d.getD u (0,[]))) a ?_ ?_ ?_ ?_)
   .simp only[U,a7];grind
   .simp[f]
   .have ap:=a1.cV O (c ((d.take u).filter λE=>!bm E)) (d.getD u (0,[])) (c d) w;exact Pd
   .refine⟨by grind,by grind,OS,λe bp=>?_⟩;grind
   grind
  |true=>
   have f:(d.take (u+1)).filter (λE=>!bm E)=(d.take u).filter (λE=>!bm E):=iq;refine a3 [-29] a j8 (g.aw (u+1,O) a ?_ ?_ ?_ ?_)
   .simp[f]
   .simp
   .exact QS
   grind
 obtain rfl:u=c d:=w;rw[c0]at S⊢;have s:c (d.filter λE=>!bm E)<=c d:=iz _ _;refine a3 [-19] a D (g.az ?_);refine aQ a pS (g.aK (a2.e1 bc a a a a a a wO) a a ?_);refine aQ a pS (g.bu ⟨nQ (0+bV 0 (h (c (d.filter λE=>!bm E):Int))) (0+bV 0 (h (c (d.filter λE=>!bm E):Int))+(bV (c d) n-bV 0 (h (c (d.filter λE=>!bm E):Int)))) nA.zero (a1.fn O),λe bp=>PH⟩ (g.aI [0] a ?_ ib));simp[bV];rfl
structure Sk(d:m dF)(bm:dF->Bool)(u:Nat)(nP:m dF):Prop where
 fG:u<=c d
 len:c nP=c d
 done:nP.take (c ((d.take u).filter λE=>!bm E))=(d.take u).filter λE=>!bm E
 hJ:∀e,u<=e->nP[e]?=d[e]?
def I8(d)(y:c d<=4000000)(i)(ah)(bm:dF->Bool)(o:∀E,E∈d->Y q i [i2 E,ay (.R ah)] [] (bg (bm E)) []):
  bl (ι:={k:Nat->m M // ∀e,e<c (d.filter λE=>!bm E)->k e=bd.fn (d.filter λE=>!bm E) e}) q 102 [cF 0 (.B (c d) 2 0 (c d)),ay (.fn (.func i) [] [.R ah])] [.q 50 2 (c d) (bd.fn d)]
   (λ_=>cF 0 (.B (c d) 2 0 (c (d.filter λE=>!bm E)))) (λk=>[.q 50 2 (c d) k.1]):=by
 refine bl.cb func102 rfl rfl rfl λF=>?_;refine aQ a B (g.aA (V0 d y i ah bm o) [0] a ?_);rcases yP bm d with⟨j,A⟩|⟨i0,C,j,A,aa⟩
 .rw[j];have t:d.filter (λE=>!bm E)=d:=rl.2 λE p=>by grind
  refine a3 [12] a D (g.bu ⟨bd.fn d,λe _=>by grind⟩ (g.aI [0] a ?_ ib));simp[t]
 rw[j];refine a3 [-12] a j8 ?_;refine g.aB 1 (λb:Nat×m dF=>Sk d bm b.1 b.2) (λb=>[(0,cF 0 (.B (c d) 2 0 (c d))),(1,ay (.fn (.func i) [] [.R ah])),(5,Q (c ((d.take b.1).filter λE=>!bm E))),(6,Q b.1)])
  (λb=>[.q 50 2 (c d) (bd.fn b.2)]) (λb=>c d-b.1) (i0+1,d) a ?_ a ?_ a ?_ ?_
 .exact OV
 .simp
 .exact RG
 rintro⟨u,O⟩ ⟨r,ba,S,bA⟩;simp only at r ba S bA;by_cases I:u<c d
 .have p:d.getD u (0,[])∈d:=N;have s:c ((d.take u).filter λE=>!bm E)<=u:=e3 (iz _ _) N;have z:O.getD (0+(u:Int).toNat) bd.E=d.getD u (0,[]):=N;refine a3 [19] a pS ?_;rw[z];refine g.aA (o _ p) [] a ?_;cases J:bm (d.getD u (0,[]))with
  |false=>
   have f:(d.take (u+1)).filter (λE=>!bm E)=(d.take u).filter (λE=>!bm E)++[d.getD u (0,[])]:=iq;refine a3 [29] a ?_ (g.aw (u+1,O.set (c ((d.take u).filter λE=>!bm E)) (d.getD u (0,[]))) a ?_ ?_ ?_ ?_)
   .simp only[U,a7];grind
   .simp[f]
   .have ap:=bd.cV O (c ((d.take u).filter λE=>!bm E)) (d.getD u (0,[])) (c d) w;exact Pd
   .refine⟨by grind,by grind,OS,λe bp=>?_⟩;grind
   grind
  |true=>
   have f:(d.take (u+1)).filter (λE=>!bm E)=(d.take u).filter (λE=>!bm E):=iq;refine a3 [-29] a j8 (g.aw (u+1,O) a ?_ ?_ ?_ ?_)
   .simp[f]
   .simp
   .exact QS
   grind
 obtain rfl:u=c d:=w;rw[c0]at S⊢;have s:c (d.filter λE=>!bm E)<=c d:=iz _ _;refine a3 [-19] a D (g.az ?_);refine aQ a pS (g.aK (a2.e1 bc a a a a a a wO) a a ?_);refine aQ a pS (g.bu ⟨nQ (0+bV 0 (h (c (d.filter λE=>!bm E):Int))) (0+bV 0 (h (c (d.filter λE=>!bm E):Int))+(bV (c d) n-bV 0 (h (c (d.filter λE=>!bm E):Int)))) rR.zero (bd.fn O),λe bp=>PH⟩ (g.aI [0] a ?_ ib));simp[bV];rfl
abbrev dS:=Int×Int×Int×bD
abbrev l3(a:dS):m M:=[.int .i64 a.1,.int .i64 a.2.1,.int .i64 a.2.2.1,.T a.2.2.2]
abbrev vI(a:dS):m R:=[.c (.int .i64 a.1),.c (.int .i64 a.2.1),.c (.int .i64 a.2.2.1),.c (.T a.2.2.2)]
abbrev eI(a:dS):y:=.n (.agg (vI a))
abbrev iZ(a:m M):y:=ay (.R a)
def Wi(b)(d):Y q 207 [fM b,iZ (l3 d)] [] (bg (b.1==d.2.1)) []:=by refine Y.ab func207 rfl λe=>?_;exact aQ a B (g.ao a)
def Wj(d:Int×Int)(bO)(j)(b:Nat->m M):Y q 210 [.n (.agg [.c (.int .i64 d.1),.c (.int .i64 d.2)]),iZ [.int .i64 bO,.B v 2 j b]] [] (bg (d.2==bO)) []:=by refine Y.ab func210 rfl λe=>?_;exact aQ a B (g.ao a)
def ZB(a:α->Bool)(d):decide (gV a d≥0)=d.any a:=by
 rcases yP a d with⟨b,t⟩|⟨e,bp,b,_,i⟩
 .grind
 rw[b];symm;have:=i _ (bJ bp);grind
def VK(d)(f:c d<=4000000)(bO)(j)(b:Nat->m M):Y q 198 [a4.B d,ay (.fn (.func 210) [] [.R [.int .i64 bO,.B v 2 j b]])] [] (bg (d.any λe=>e.2==bO)) []:=by refine Y.ab func198 rfl λk=>?_;refine aQ a B ?_;refine g.aA (VR d f 210 [.int .i64 bO,.B v 2 j b] (λe=>e.2==bO) λi _=>Wj i bO j b) [] a ?_;refine aQ a B (g.ao a ?_);simp only[U];exact ZB _ d
def W3(d)(b)(e:c b<=4000000):Y q 209 [i2 d,iZ [.B v 2 (c b) (a4.fn b)]] [] (bg (b.any λf=>f.2==d.1)) []:=by refine Y.ab func209 rfl λi=>?_;refine a3 [901] a B ?_;refine g.freeze 2 0 a a a ?_;refine aQ a B ?_;refine g.aA (VK b e d.1 (c d.2) (cx.fn d.2)) [] a ?_;exact aQ a B (g.ao a)
abbrev x3(a:Nat)(b:dS):y:=ay (.fn (.func a) [] [.R (l3 b)])
def Vb(d)(s:d.1=1):Y q 142 [eI d] [] (x3 205 d) []:=by refine Y.ab func142 rfl λb=>?_;refine a3 [901] a B ?_;refine g.freeze 1 0 a a a ?_;exact a3 [5] a ha (g.ao a)
def I6(d)(s:d.1=2):Y q 142 [eI d] [] (x3 208 d) []:=by refine Y.ab func142 rfl λb=>?_;refine a3 [901] a B ?_;refine g.freeze 1 0 a a a ?_;exact a3 [-5,8] a ha (g.ao a)
def I7(d)(s:d.1=3):Y q 142 [eI d] [] (x3 211 d) []:=by refine Y.ab func142 rfl λb=>?_;refine a3 [901] a B ?_;refine g.freeze 1 0 a a a ?_;exact a3 [-5,-8,11] a ha (g.ao a)
def Vd(d)(s:d.1=4):Y q 142 [eI d] [] (x3 212 d) []:=by refine Y.ab func142 rfl λb=>?_;refine a3 [901] a B ?_;refine g.freeze 1 0 a a a ?_;exact a3 [-5,-8,-11,14] a ha (g.ao a)
def Ve(d)(f:d.1≠1)(b:d.1≠2)(i:d.1≠3)(e:d.1≠4):Y q 142 [eI d] [] (ay (.fn (.func 213) [] [])) []:=by refine Y.ab func142 rfl λj=>?_;refine a3 [901] a B ?_;refine g.freeze 1 0 a a a ?_;exact a3 [-5,-8,-11,-14] a (by simp[f,b,i,e]) (g.ao a)
abbrev tM(a:m b4):M:=.B v 2 (c a) (a1.fn a)
abbrev tN(a:m dF):M:=.B v 2 (c a) (bd.fn a)
abbrev h2(a:m (Int×Int)):M:=.B v 2 (c a) (a4.fn a)
abbrev tO(a:cb)(f:dS)(g:m aq)(b d e:R):m aq:=[.cells 30 [.c (tM a.1),.c (tN a.2.1),.c (h2 a.2.2)],.cells 35 (vI f),.cells 30 [cH,cH,cH]]++g++[.cells 30 [b,d,e]]
abbrev dB(a d b:Nat):R:=.O a (.B d 2 0 b)
def Vj(b)(d)(k:c b.1<=4000000):
  bl (ι:={e:Nat->m M // ∀i,i<c (b.1.filter λf=>!(f.1==d.2.1))->e i=a1.fn (b.1.filter λf=>!(f.1==d.2.1)) i}) q 205 [aH 5 0,iZ (l3 d)]
   (tO b d [.q 119 2 (c b.1) (a1.fn b.1),.q 50 2 (c b.2.1) (bd.fn b.2.1)] (dB 3 (c b.1) (c b.1)) (dB 4 (c b.2.1) (c b.2.1)) (.c (h2 b.2.2)))
   (λ_=>.S []) (λe=>tO b d [.q 119 2 (c b.1) e.1,.q 50 2 (c b.2.1) (bd.fn b.2.1)] (dB 3 (c b.1) (c (b.1.filter λf=>!(f.1==d.2.1)))) (dB 4 (c b.2.1) (c b.2.1)) (.c (h2 b.2.2))):=by refine bl.bO func205 rfl rfl rfl (g.aO ?_);refine aQ a B (g.a1 (Vh b.1 k 207 (l3 d) (λf=>f.1==d.2.1) λf _=>Wi f d) [3] a bk ?_);rintro⟨e,j⟩;exact aQ a B ⟨⟨e,j⟩,.inr a,a,a,_,_,_,a,a,a,B⟩
def Xl(k)(d:jY k=l)(b):Y q 213 [.n (.Q b)] k (.S []) k:=by refine bl.toY (bl.bO (ι:=Unit) (res:=λ_=>.S []) (ar:=λ_=>k) func213 rfl rfl rfl (g.aO ?_));refine aQ a B ?_;exact⟨(),.inr a,a,d,_,_,_,a,a,a,B⟩
abbrev mU(a:cb)(b:dS):m aq:=tO a b [.q 119 2 (c a.1) (a1.fn a.1),.q 50 2 (c a.2.1) (bd.fn a.2.1)] (dB 3 (c a.1) (c a.1)) (dB 4 (c a.2.1) (c a.2.1)) (.c (h2 a.2.2))
def jy(d:Nat)(a:m (Int×Int))(e:dF):Bool:=(a.drop d).any λb=>b.2==e.1
def UA(b)(d:dS)(e:d.2.1<0∨d.2.1>c b.2.2):Y q 208 [aH 5 0,iZ (l3 d)] (mU b d) (.S []) (mU b d):=by
 refine bl.toY (bl.bO (ι:=Unit) (res:=λ_=>.S []) (ar:=λ_=>mU b d) func208 rfl rfl rfl (g.aO ?_));by_cases x:d.2.1<0
 .exact a3 [7,16] a nU OX
 exact a3 [-7,16] a bM OX
def _root_.Go.AM.c5.g6(a:c5 α)(d)(j A):bs A (fH j (a.fn d)) (a.fn (d.drop j)):=λb _=>by simp[fH,c5.fn,gI,aj]
abbrev IB:y:=aH 5 0
abbrev Hr(b:cb)(a:dS):M:=.B (x1 v n) 2 (bV (c b.2.2) n-bV 0 (h a.2.1)) (fH (bV 0 (h a.2.1)) (a4.fn b.2.2))
def nz(b:cb)(a:dS)(d:Nat)(e:a.2.1=d)(f:d<=c b.2.2):U (jq (c b.2.2) (h a.2.1) n):=by show 0<=a.2.1/\a.2.1<=(c b.2.2:Int);omega
def UB(b:cb)(d:dS)(j:Nat)(i:d.2.1=j)(s:j<=c b.2.2)(t:c b.2.1<=4000000)(x:c b.2.2<=4000000):
  bl (ι:={e:Nat->m M // ∀f,f<c (b.2.1.filter λk=>!jy j b.2.2 k)->e f=bd.fn (b.2.1.filter λk=>!jy j b.2.2 k) f}) q 208 [aH 5 0,iZ (l3 d)] (mU b d) (λ_=>.S [])
   (λe=>tO b d [.q 119 2 (c b.1) (a1.fn b.1),.q 50 2 (c b.2.1) e.1] (dB 3 (c b.1) (c b.1)) (dB 4 (c b.2.1) (c (b.2.1.filter λk=>!jy j b.2.2 k))) (.c (.B v 2 d.2.1.toNat (a4.fn b.2.2)))++[.N]):=by
 refine bl.bO func208 rfl rfl rfl (g.aO ?_);have p:d.2.1.toNat=j:=w;refine a3 [-7,-16,901] a pS ?_;refine g.hy (ι:=Unit) b7 7 8 (λf=>ax f 6) (λf=>[IB,IB,aH 5 2,ay (h2 b.2.2),iZ [.int .i64 d.2.1,.int .i64 d.2.2.1,.T d.2.2.2],Q d.2.1,ay (Hr b d)].getD f .any) (λ_ f=>[.any,.any,.any,.any,.any,.any,.any,aH 6 0,.any].getD f .any)
  (λ_=>mU b d++[.cells 28 [cH]]) (λ_=>mU b d++[.cells 28 [.c (Hr b d)]]) a a a a a a a a a a
  ⟨aY.w,aY.w,aY.w,aY.w,aY.w,aY.w,?_,B,B,B⟩
  (λ_=>⟨aY.w,aY.w,aY.w,aY.w,aY.w,aY.w,?_,B,B⟩)
  (dX.dc (eh (bh:=[]) bc a_.nil (ar:=h _) (cq:=[]) a B)) (λ_=>eh (bh:=[]) bc a_.nil (ar:=h _) (cq:=[]) a B) λ_=>?_
 .exact Rf
 .exact Rf
 refine a3 [902] a B (g.bc (mU b d++[.cells 28 [.c (h2 (b.2.2.drop j))]]) a ?_ ?_)
 .have r:=a4.g6 b.2.2 j (c b.2.2-j);have u:bV 0 (h d.2.1)=j:=p;simp only[U.Y,U,u,a9,a',sA];exact⟨⟨bs.same,bs.same,bs.same⟩,⟨bs.same,bs.same,bs.same⟩,bs.same,bs.same,bs.same,a,r⟩
 refine g.freeze 3 6 a a a ?_;refine aQ a B (g.a1 (I8 b.2.1 t 209 [h2 (b.2.2.drop j)] (jy j b.2.2) λk _=>W3 k (b.2.2.drop j) bM) [4] a bk ?_);rintro⟨e,o⟩;exact aQ a ⟨show 0<=d.2.1 by omega,uN _,show d.2.1<=(c b.2.2:Int) by omega⟩ ⟨⟨e,o⟩,.inr a,a,a,_,_,_,a,a,a,B⟩
abbrev oL(a:cb)(d:dS)(b:Nat->m M):m aq:=tO a d [.q 119 2 (c a.1) (a1.fn a.1),.q 50 2 (c a.2.1) (bd.fn a.2.1),.q 54 2 (c a.2.2) b] (dB 3 (c a.1) (c a.1)) (dB 4 (c a.2.1) (c a.2.1)) (dB 5 (c a.2.2) (c a.2.2))
abbrev yA(b:cb)(a:dS):Nat->m M:=l9 (0+a.2.1.toNat) [.int .i64 (3-(b.2.2.getD (0+a.2.1.toNat) a4.E).1),.int .i64 (b.2.2.getD (0+a.2.1.toNat) a4.E).2] (a4.fn b.2.2)
def Vu(b)(d:dS)(f:¬(0<=d.2.1/\d.2.1<c b.2.2)):Y q 212 [aH 6 0,iZ (l3 d)] (oL b d (a4.fn b.2.2)) (.S []) (oL b d (a4.fn b.2.2)):=by
 refine bl.toY (bl.bO (ι:=Unit) (res:=λ_=>.S []) (ar:=λ_=>oL b d (a4.fn b.2.2)) func212 rfl rfl rfl (g.aO ?_));by_cases e:0<=d.2.1
 .exact a3 [6,-15] a (by simp[e];omega) Pq
 exact a3 [-6,-15] a bM Pq
abbrev x9:y:=aH 6 0
abbrev IC:y:=aH 6 2
abbrev Iy(a:cb):y:=.n (.Q (dB 5 (c a.2.2) (c a.2.2)))
abbrev x5(b:cb)(a:dS):y:=cF 5 (.bx (c b.2.2) 2 (0+a.2.1.toNat) 0)
abbrev IA(a:dS):y:=iZ [.int .i64 a.2.1,.int .i64 a.2.2.1,.T a.2.2.2]
abbrev lC(b:cb)(a:dS):Int:=(b.2.2.getD (0+a.2.1.toNat) a4.E).1
def Vv(b)(d:dS)(k:0<=d.2.1)(j:d.2.1<c b.2.2)(i:a7 .i64 (3-lC b d)):Y q 212 [aH 6 0,iZ (l3 d)] (oL b d (a4.fn b.2.2)) (.S []) (oL b d (yA b d)):=by
 refine bl.toY (bl.bO (ι:=Unit) (res:=λ_=>.S []) (ar:=λ_=>oL b d (yA b d)) func212 rfl rfl rfl (g.aO ?_));refine a3 [6,15,901] a pS ?_;have cy:0<=d.2.1/\d.2.1<((c b.2.2:Nat):Int):=⟨k,j⟩;have f:c b.2.2=c b.2.2/\0+d.2.1.toNat<c b.2.2:=⟨rfl,by omega⟩
 refine g.hy (ι:=Unit) b7 0 18 (λe=>ax 4 e&&ax e 15) (λe=>[.any,.any,.any,.any,IA d,Q d.2.1,x9,x9,IC,Iy b,IA d,Q d.2.1,x5 b d,x5 b d,Q (lC b d),Q (3-lC b d)].getD e .any) (λ_ e=>[x9,x9,IC,Iy b,.any,.any,.any,.any,.any,.any,.any,.any,.any,.any,.any,.any,x5 b d,x5 b d,.any].getD e .any)
  (λ_=>oL b d (a4.fn b.2.2)) (λ_=>oL b d (yA b d)) a a a a a a a a a a
  ⟨B,B,B,B,aY.w,aY.w,aY.w,aY.w,aY.w,aY.w,aY.w,aY.w,?_,aY.w,?_,?_,B,B,B,B⟩
  (λ_=>⟨B,aY.w,aY.w,aY.w,aY.w,aY.w,aY.w,aY.w,aY.w,aY.w,aY.w,aY.w,?_,aY.w,?_,?_,?_,aY.w,B⟩)
  (dX.dc (aY.w)) (λ_=>?_) λ_=>?_
 .exact Fs
 .exact aY.eval (bh:=[]) bc a_.nil a f
 .exact aY.eval (bh:=[]) bc a_.nil a i
 .exact Fs
 .exact aY.eval (bh:=[]) bc a_.nil a f
 .exact aY.eval (bh:=[]) bc a_.nil a i
 .exact Fs
 .exact eh (bh:=[]) bc a_.nil (ar:=h _) a f
 exact RJ
def V5(j fb bp):Y q 44 [Q j,Q fb,Q bp] [] (bg (decide (fb<=j/\j<=bp))) []:=by
 refine Y.ab func44 rfl λd=>?_;by_cases b:fb<=j
 .by_cases t:j<=bp
  .refine a3 [10,14] a bM (g.ao a ?_);exact bw
  refine a3 [10,-14] a bM (g.ao a ?_);simp;omega
 refine a3 [-10,-14] a bM (g.ao a ?_);simp;omega
abbrev kN:bH:=jS c7 c7 c7 (λd b a=>bg (decide (b<=d/\d<=a))) λ_ _ _=>[]
def lA:bK q 44 kN:=.cM λd b a _=>V5 d b a
def UQ(b:Nat)(k:b<=4000000):Y q 285 [Q b] [] (Q (fh b)) []:=by
 refine Y.ab func285 rfl λj=>?_;by_cases i:b<1
 .refine a3 [6,9] a bM (g.ao a ?_);have:fh b=0:=by simp[fh,i]
  simp[this]
 by_cases f:8<b
 .refine a3 [-6,9] a bM (g.ao a ?_);have:fh b=0:=by simp[fh,f]
  simp[this]
 by_cases d:b<=2
 .refine a3 [-6,-9,10] a bM (g.ao a ?_);have:fh b=2:=by simp only[fh,bj (show¬(b<1∨8<b) by omega),bo d]
  simp[this]
 by_cases e:b<=4
 .refine a3 [-6,-9,-10,13] a bM (g.ao a ?_);have:fh b=4:=by simp only[fh,bj (show¬(b<1∨8<b) by omega),bj d,bo e]
  simp[this]
 refine a3 [-6,-9,-10,-13] a bM (g.ao a ?_);have:fh b=8:=by simp only[fh,bj (show¬(b<1∨8<b) by omega),bj d,bj e]
 simp[this]
def V4(d)(e)(o:c d<=4000000):Y q 249 [bS.B d,b2 e] [] (bg (d.contains e)) []:=by
 refine Y.ab func249 rfl λm=>?_;refine aQ a B (g.aB 0 (λb=>b<=c d/\∀i,i<b->d.getD i []≠e) (λb:Nat=>[(0,bS.B d),(1,b2 e),(5,Q b)]) (λ_=>[]) (λb=>c d-b) 0 a D a D a ⟨by omega,by omega⟩ ?_);rintro b ⟨j,k⟩;by_cases s:b<c d
 .have f:d.getD (b:Int).toNat bS.E=d.getD b []:=N;by_cases p:d.getD b []=e
  .refine a3 [9,17] a ?_ (g.aS (bW.zero a ?_))
   .simp only[U,f];grind
   have:e∈d:=N;simp[this]
  refine a3 [9,-17] a ?_ (g.aw (b+1) a ?_ ?_ ?_ ?_)
  .simp only[U,f,a7];grind
  .simp
  .simp
  .grind
  omega
 refine a3 [-9] a bM (g.az ?_);refine aQ a B (g.ao a ?_);have:¬e∈d:=λr=>by grind[List.getElem_of_mem]
 simp[this]
def UU(b)(d:cD b=l):Y q 284 [b2 b] [] (Q (gm b)) []:=by
 refine Y.ab func284 rfl λo=>?_;have j:=d;simp[cD,cp,bz]at j;refine aQ a B (g.aB 0 (λe=>e<=c b) (λe:Nat=>[(0,b2 b),(3,Q (gm (b.take e))),(4,Q e)]) (λ_=>[]) (λe=>c b-e) 0 a (by simp[gm]) a D a w ?_);intro e i;by_cases k:e<c b
 .have C:=xU d i;have r:=xU d (e:=e+1) w;have p:=H7 k;have s:=qE j.2 (b.getD e 0) (Db k);have m:97<=dr b e/\dr b e<=122:=Fe;refine a3 [8] a ?_ (g.aw (e+1) a ?_ ?_ ?_ ?_)
  .simp only[U,kn,a7];grind
  .have f:(dr b e-97) % 256=dr b e-97:=Int.emod_eq_of_lt w w;exact bE
  .simp
  .grind
  grind
 obtain rfl:e=c b:=w;exact Qp
def ads:bK q 284 (di eG (λa=>Q (gm a)) λa=>[cD a=l]):=.a9 λa b=>UU a b
def Xe(f)(b)(d:cm f=l)(i:cD b=l):Y q 248 [Q f,b2 b] [] (Q (d8 f b)) []:=by
 refine Y.ab func248 rfl λp=>?_;have o:a_ q [(284,di eG (λb=>Q (gm b)) λb=>[cD b=l])]:=.cons ads .nil;have e:=d;simp[cm,cp,bz]at e;have j:=xT i;refine b9 o a ?_ (g.ao a ?_)
 .have m:0<=gm b*(2*f+1):=Int.mul_nonneg j.1 w;have k:gm b*(2*f+1)<=282429536481*199:=Int.mul_le_mul w w w w;generalize gm b*(2*f+1)=r at m k;simp[U,a7];grind
 exact bE
def zM:bK q 248 (ej c7 eG (λa b=>Q (d8 a b)) λa b=>[cm a=l,cD b=l]):=.bk λa b d=>Xe a b d.1 d.2
def Vt(d)(j)(p:c d<=4000000):Y q 247 [ff.B d,Q j] [] (Q (i6 d j)) []:=by
 refine Y.ab func247 rfl λo=>?_;refine aQ a B (g.aB 0 (λb=>b<=c d/\∀i,i<b->(d.getD i (0,0)).1≠j) (λb:Nat=>[(0,ff.B d),(1,Q j),(5,Q b)]) (λ_=>[]) (λb=>c d-b) 0 a D a D a ⟨by omega,by omega⟩ ?_);rintro b ⟨k,m⟩;by_cases s:b<c d
 .have f:d.getD (b:Int).toNat ff.E=d.getD b (0,0):=N;by_cases r:(d.getD b (0,0)).1=j
  .refine a3 [9,18] a ?_ (g.aS (bW.zero a ?_))
   .simp only[U,f];grind
   have:i6 d j=(d.getD b (0,0)).2:=by
    have:d.find? (λe=>e.1==j)=h (d.getD b (0,0)):=by grind[List.find?_eq_some_iff_getElem]
    rw[i6,this]
   simp_all
  refine a3 [9,-18] a ?_ (g.aw (b+1) a ?_ ?_ ?_ ?_)
  .simp only[U,f,a7];grind
  .simp
  .simp
  .grind
  omega
 refine a3 [-9] a bM (g.az ?_);refine aQ a B (g.ao a ?_);have:i6 d j=0:=by have:d.find? (λe=>e.1==j)=n:=ug;rw[i6,this]
 simp[this]
theorem H4(a:1<=j)(b:j<=8):j<=fh j/\fh j<=8:=Gb
abbrev Hg:bH:=di c7 (λa=>Q (fh a.toNat)) λa=>[0<=a/\a<=4000000]
def adr:bK q 285 Hg:=.a9 λb d=>by
 obtain⟨a,rfl⟩:∃a:Nat,b=a:=⟨b.toNat,by exact lO⟩
 exact UQ a lO
def XC(b)(i:cD b=l):Y q 253 [b2 b] [] (b2 (fN b)) []:=by
 refine Y.ab func253 rfl λk=>?_;have e:a_ q [(285,Hg)]:=.cons adr .nil;have f:=i;simp only[cD,cp,bz]at f;have o:=H4 f.1.1 f.1.2;refine b9 e a bw (g.aB 0 (λd=>c b+d<=fh (c b)) (λd:Nat=>[(0,b2 (b++aV d 46)),(3,Q (fh (c b)))]) (λ_=>[]) (λd=>fh (c b)-d) 0 a D a D a w ?_);intro d m;by_cases p:c b+d<fh (c b)
 .refine a8 e [10] a bM (g.aw (d+1) a ?_ ?_ ?_ ?_)
  .simp[List.replicate_succ']
  .simp
  .grind
  grind
 have j:fh (c b)-c b=d:=w;refine a8 e [-10] a bM (g.az ?_);refine b9 e a B (g.ao a ?_);simp[fN,i,j]
def Yh(b):Y q 250 [.n (.agg [.c (.int .i64 b.1),.c (.int .i64 b.2)])] [] (bg (f' b)) []:=by
 refine Y.ab func250 rfl λf=>?_;have e:a_ q [(44,kN)]:=.cons lA .nil;by_cases d:0<=b.1/\b.1<=999999999988
 .by_cases i:1<=b.2/\b.2<=99
  .refine a8 e [6,10] a (by simp[d,i]) (g.ao a ?_);have:f' b=l:=by simp[f',d,i];omega
   simp[this]
  refine a8 e [6,-10] a (by simp[d,i]<;>omega) (g.ao a ?_);have:f' b=v:=by simp[f',d];omega
  simp[this]
 refine a8 e [-6,-10] a bM (g.ao a ?_);have:f' b=v:=by simp[f'];omega
 simp[this]
abbrev HR:bH:=di sx (λa=>bg (f' a)) λ_=>[]
def aea:bK q 250 HR:=.a9 λa _=>Yh a
def Kt{a:α->Bool}{d}(b:d.any a=l):0<=gV a d:=by unfold gV;grind
theorem ZC{a:α->Bool}{d}(b:d.any a=v):gV a d=-1:=by unfold gV;grind
def VS(d)(i)(b:Int×Int->Bool)(p:∀f,f∈d->Y q i [.n (.agg [.c (.int .i64 f.1),.c (.int .i64 f.2)])] [] (bg (b f)) []):
  Y q 257 [a4.B d,ay (.fn (.func i) [] [])] [] (Q (gV b d)) []:=by
 refine Y.ab func257 rfl λm=>?_;have t:=m.B 0 a;refine aQ a B (g.b7 (λe=>e<=c d/\∀u,u<e->b (d.getD u (0,0))=v) (λe:Nat=>[(0,a4.B d),(1,ay (.fn (.func i) [] [])),(7,Q (c d)),(8,Q e)]) (λ_=>[]) (λe=>c d-e) 0 a D a B ⟨by omega,by omega⟩ ?_);rintro e ⟨o,x⟩;by_cases s:e<c d
 .have j:d.getD e (0,0)∈d:=N;have k:d.getD (e:Int).toNat a4.E=d.getD e (0,0):=N;refine a3 [9] a bw ?_;rw[k];refine g.aA (p _ j) [] a ?_;cases A:b (d.getD e (0,0))with
  |true=>
   exact Pg
  |false=>
   exact OY
 exact OM
def VF(d)(f)(b:Int×Int->Bool)(i:∀e,e∈d->Y q f [.n (.agg [.c (.int .i64 e.1),.c (.int .i64 e.2)])] [] (bg (b e)) []):
  Y q 198 [a4.B d,ay (.fn (.func f) [] [])] [] (bg (d.any b)) []:=by
 refine Y.ab func198 rfl λj=>?_;refine aQ a B (g.aA (VS d f b i) [] a ?_);cases s:d.any b with
 |true=>
  exact QQ
 |false=>
  exact Rs
def VY(d)(i)(ah)(b:b4->Bool)(p:∀f,f∈d->Y q i [fM f,ay (.R ah)] [] (bg (b f)) []):
  Y q 135 [a1.B d,ay (.fn (.func i) [] [.R ah])] [] (Q (gV b d)) []:=by
 refine Y.ab func135 rfl λm=>?_;have t:=m.B 0 a;refine aQ a B (g.b7 (λe=>e<=c d/\∀u,u<e->b (d.getD u (0,[]))=v) (λe:Nat=>[(0,a1.B d),(1,ay (.fn (.func i) [] [.R ah])),(7,Q (c d)),(8,Q e)]) (λ_=>[]) (λe=>c d-e) 0 a D a B ⟨by omega,by omega⟩ ?_);rintro e ⟨o,x⟩;by_cases s:e<c d
 .have j:d.getD e (0,[])∈d:=N;have k:d.getD (e:Int).toNat a1.E=d.getD e (0,[]):=N;refine a3 [9] a bw ?_;rw[k];refine g.aA (p _ j) [] a ?_;cases A:b (d.getD e (0,[]))with
  |true=>
   exact Pg
  |false=>
   exact OY
 exact OM
def VH(d)(e)(ah)(b:b4->Bool)(i:∀f,f∈d->Y q e [fM f,ay (.R ah)] [] (bg (b f)) []):
  Y q 90 [a1.B d,ay (.fn (.func e) [] [.R ah])] [] (bg (d.any b)) []:=by
 refine Y.ab func90 rfl λj=>?_;refine aQ a B (g.aA (VY d e ah b i) [] a ?_);cases s:d.any b with
 |true=>
  exact QQ
 |false=>
  exact Rs
def VW(d)(i)(ah)(H:X->(Nat->Option Obj)->Prop)(f:Int->Bool)(t:∀k,k∈d->Y q i [Q k,ay (.R ah)] [.K H] (bg (f k)) [.K H]):
  Y q 134 [az.B d,ay (.fn (.func i) [] [.R ah])] [.K H] (Q (gV f d)) [.K H]:=by
 refine Y.ab func134 rfl λp=>?_;have x:=p.B 0 a;refine aQ a B (g.aB 1 (λe=>e<=c d/\∀b,b<e->f (d.getD b 0)=v) (λe:Nat=>[(0,az.B d),(1,ay (.fn (.func i) [] [.R ah])),(7,Q (c d)),(8,Q e)]) (λ_=>[.K H]) (λe=>c d-e) 0 a D a D a ⟨by omega,by omega⟩ ?_);rintro e ⟨s,m⟩;by_cases r:e<c d
 .have j:d.getD e 0∈d:=N;have o:d.getD (e:Int).toNat az.E=d.getD e 0:=N;refine a3 [9] a bw ?_;rw[o];refine g.aA (t _ j) [0] a ?_;cases u:f (d.getD e 0)with
  |true=>
   refine a3 [16] a D (g.aS (bW.mk [0] a ?_ a a a ib));simp[tg r u m]
  |false=>
   exact Ab
 refine a3 [-9] a bM (g.az ?_);refine aQ a B (g.aI [0] a ?_ ib);simp[th (λb y=>m b w)]
def VG(d)(e)(ah)(H:X->(Nat->Option Obj)->Prop)(b:Int->Bool)(i:∀f,f∈d->Y q e [Q f,ay (.R ah)] [.K H] (bg (b f)) [.K H]):
  Y q 87 [az.B d,ay (.fn (.func e) [] [.R ah])] [.K H] (bg (d.any b)) [.K H]:=by
 refine Y.ab func87 rfl λk=>?_;refine aQ a B (g.aA (VW d e ah H b i) [0] a ?_);cases j:d.any b with
 |true=>
  refine a3 [8] a (fA (Kt j)) (g.aI [0] a ?_ ib);simp
 |false=>
  refine a3 [-8] a (n4 Ow) (g.aI [0] a ?_ ib);simp
def GH{b d:ae}(e:r.op=.call {callee:=.builtin .append,args:=#[b,d],argTypes:=#[117,117]}):j_ T r b d 170 mF:=
 ⟨⟨117,117,Dj,Dj,e,(bc _ _ a),rfl,(bc _ _ a),rfl⟩,(bc _ _ a),by decide,by decide⟩
def Hp(d)(j):∀a,a<j->∀e∈bI.fn d a,nv e=l:=by
 intro a _ e b;have:bI.fn d a=[.int .i64 (d.getD a bI.E).1,.T (d.getD a bI.E).2]:=rfl;rw[this]at b;rcases eT.1 b with rfl|b
 .rfl
 rcases eT.1 b with rfl|b
 .rfl
 grind
abbrev p0(a:m cY):Type:={b:fv×m X // eo 2 (c a) (bI.fn a) b.2}
abbrev tx(d)(a:p0 d):aq:=.K (cu 170 2 a.1.1 (c d) a.1.2)
abbrev r5(d)(a:p0 d):M:=.val (c6 a.1.1 (c d))
def UT(d)(i:0<c d)(k:c d<=4000000):bl (ι:=p0 d) q 225 [bI.B d] [] (λb=>ay (r5 d b)) (λb=>[tx d b]):=by
 refine bl.cb func225 rfl rfl rfl λj=>?_;refine aQ a B (g.ey bc a a a a a a λf m=>?_);cases f with
 |true=>grind
 |false=>
  refine gH [] 7 a B (g.fE (GH a) a a a i Al (Hp d _) a a λb=>?_);refine aQ a B (g.bu b (g.aI [0] a ?_ (λo e=>absurd e D)));simp
def Xr(b)(f:0<c b.2)(e:c b.2<=4000000):bl (ι:=p0 b.2) q 146 [fM b] [] (λd=>.n (.agg [.c (.int .i64 b.1),.c (r5 b.2 d)])) (λd=>[tx b.2 d]):=by refine bl.bG bc func146 rfl rfl rfl λj=>?_;refine aQ a B ?_;refine g.a1 (UT b.2 f e) [] a bk ?_;intro d;refine aQ a B ?_;refine g.bf d [2] ?_ (λk i=>absurd i D);simp
def nC(a:m b4)(b:Nat)(e:X)(d:Nat):M:=if d=b then .val e else .B v 2 (a.getD d (0,[])).2.length (bI.fn (a.getD d (0,[])).2)
def gq(a:m b4)(b:Nat)(e:X)(d:Nat):m M:=[.int .i64 (a.getD d (0,[])).1,nC a b e d]
def LP{Z}{i0}{bA}(s:e≠i0):bs (e+1) (ck e (gq Z i0 bA) (λb=>[a1.a8 (Z.getD e (0,[]))].getD b [])) (gq Z i0 bA):=λa d=>by
 unfold ck;split
 .rfl
 have:a=e:=w;subst this;rw[sI];exact Fj
def LQ{Z}{i0}{bA E5}:bs (i0+1) (ck i0 (gq Z i0 E5) (λb=>[[.int .i64 (Z.getD i0 (0,[])).1,.val bA]].getD b [])) (gq Z i0 bA):=λa d=>by
 unfold ck;split
 .simp only[gq,nC,bj (show a≠i0 by omega)]
 have:a=i0:=w;subst this;rw[sI];simp only[gq,nC,bo];rfl
abbrev S3:Type:=Nat×fv×Nat×m X
def I3(b:m b4)(a:Nat)(d:S3):Prop:=d.1<=c b/\((d.1<=a/\d.2.2.1=0)∨(a<d.1/\d.2.2.1=(b.getD a (0,[])).2.length/\eo 2 (b.getD a (0,[])).2.length (bI.fn (b.getD a (0,[])).2) d.2.2.2))
abbrev aaS(a:S3):aq:=.K (cu 170 2 a.2.1 a.2.2.1 a.2.2.2)
abbrev nO(a:S3):X:=c6 a.2.1 a.2.2.1
def Yl(b)(i0)(V:i0<c b.1)(K:0<(b.1.getD i0 (0,[])).2.length)(y:c b.1<=4000000)(z:∀e∈b.1,c e.2<=4000000)(X:c b.2.1<=4000000)(J:iL b)(S:c b.2.2<=4000000):
  bl (ι:=p0 (b.1.getD i0 (0,[])).2) q 101 [b0 b] [] (λ_=>.n (.agg [.O 0 (.B (c b.1) 2 0 (c b.1)),.O 1 (.B (c b.2.1) 2 0 (c b.2.1)),.c (.B v 2 (c b.2.2) (a4.fn b.2.2))]))
   (λj=>[.q 119 2 (c b.1) (gq b.1 i0 (c6 j.1.1 (b.1.getD i0 (0,[])).2.length)),.q 50 2 (c b.2.1) (bd.fn b.2.1),tx (b.1.getD i0 (0,[])).2 j]):=by
 refine bl.bG bc func101 rfl rfl rfl λW=>?_;have k:a_ q [(146,xP),(147,xQ)]:=.cons EV (.cons EW .nil);refine a8 k [902] a B (g.ep 2 0 119 2 (a1.fn []) a a ?_);refine g.ep 2 1 50 2 (bd.fn []) a a ?_;refine g.fh 170 2 ?_;refine b9 k a B ?_;refine g.aB 6 (I3 b.1 i0) (λo:S3=>[(1,aH 0 0),(2,aH 1 0),(3,aH 2 0),(9,a1.B b.1),(10,Q (c b.1)),(11,Q o.1)])
  (λo=>[.cells 30 [.c (.B v 2 (c b.1) (a1.fn b.1)),.c (.B v 2 (c b.2.1) (bd.fn b.2.1)),.c (.B v 2 (c b.2.2) (a4.fn b.2.2))],.cells 30 [cH,cH,cH],.cells 30 [.O 3 (.B o.1 2 0 o.1),.O 4 (.B 0 2 0 0),cH],.q 119 2 o.1 (gq b.1 i0 (nO o)),.q 50 2 0 (bd.fn []),aaS o]) (λo=>c b.1-o.1) (0,.nil n,0,[]) a ?_ a ?_ a ⟨by omega,.inl ⟨by omega,rfl⟩⟩ ?_
 .simp
 .simp
 rintro⟨d,f,p,m⟩ ⟨t,x⟩;simp only at t x;by_cases s:d<c b.1
 .have u:b.1.getD d (0,[])∈b.1:=N;have i:b.1.getD (d:Int).toNat a1.E=b.1.getD d (0,[]):=N;by_cases C:d=i0
  .subst C;have E:p=0:=by rcases x with⟨_,R⟩|⟨M,_⟩<;>omega
   have O:=z _ u;refine a8 k [12,905] a bw ?_;rw[i];generalize F:b.1.getD d (0,[])=e at *;refine g.eI (ι:=p0 e.2) b7 3 5 4 (λr=>ax r 2) (λr=>[aH 2 0,cF 3 (.B d 2 0 d),fM e].getD r .any) (λj r=>[.any,.any,.any,.n (.agg [.c (.int .i64 e.1),.c (r5 e.2 j)]),ay (.B l 2 1 (λA=>[[.int .i64 e.1,r5 e.2 j]].getD A []))].getD r .any)
    (λj=>[.cells 30 [.c (.B v 2 (c b.1) (a1.fn b.1)),.c (.B v 2 (c b.2.1) (bd.fn b.2.1)),.c (.B v 2 (c b.2.2) (a4.fn b.2.2))],.cells 30 [cH,cH,cH],.cells 30 [.O 3 (.B d 2 0 d),.O 4 (.B 0 2 0 0),cH],.q 119 2 d (gq b.1 d (c6 f p)),.q 50 2 0 (bd.fn []),.K (cu 170 2 f p m),.cells 119 [.c (.int .i64 e.1),.c (.B v 2 (c e.2) (bI.fn e.2))],tx e.2 j])
    rfl rfl rfl rfl rfl rfl rfl (λr s=>by have:=fz s;omega) rfl
    ⟨aY.w,aY.w,aY.w,B,B,B,B,B,B⟩
    (λj=>⟨aY.w,aY.w,aY.w,B,aY.w,B⟩)
    (dX.dY (Xr e K O) [] a a a a a a a bk a bk) λj=>?_
   refine a8 k [906] a Qo (g.swap 5 7 ca a a (λ_ _ s=>s.1) (λ_ _ s=>s.1) ?_);refine b9 k a bE (g.aw (d+1,j.1.1,c e.2,j.1.2) a D ?_ ?_ ?_)
   .have ap:=LQ (Z:=b.1) (i0:=d) (bA:=c6 j.1.1 (c e.2)) (E5:=c6 f p);rw[F]at ap;simp only[U.Y,U,a9,a'];exact⟨⟨bs.same,bs.same,bs.same⟩,⟨bs.same,bs.same,bs.same⟩,⟨a,bs.same⟩,ap,bs.same⟩
   .refine⟨by grind,.inr ⟨by grind,?_⟩⟩;grind
   grind
  refine a8 k [12] a ?_ (g.aw (d+1,f,p,m) a ?_ ?_ ?_ ?_)
  .have j:=z _ u;simp only[U,i,bI.l,a7];exact⟨by omega,B,B,show(d+1)*32<=_ by omega,bI.J _,j,by omega,by omega,fA w⟩
  .simp
  .have ap:=LP (Z:=b.1) (bA:=c6 f p) C;simp only[U.Y,U,i,bI.l,a9,a'];exact⟨⟨bs.same,bs.same,bs.same⟩,⟨bs.same,bs.same,bs.same⟩,⟨a,bs.same⟩,ap,bs.same⟩
  .refine⟨by grind,?_⟩;grind
  grind
 obtain rfl:d=c b.1:=w;obtain⟨_,E,I⟩:i0<c b.1/\p=(b.1.getD i0 (0,[])).2.length/\eo 2 (b.1.getD i0 (0,[])).2.length (bI.fn (b.1.getD i0 (0,[])).2) m:=N;subst E;clear x;generalize b.1.getD i0 (0,[])=e at *;refine a8 k [-12] a D (g.az ?_);refine b9 k a B ?_;refine g.aB 6 (λd=>d<=c b.2.1) (λd:Nat=>[(1,aH 0 0),(2,aH 1 0),(3,aH 2 0),(24,bd.B b.2.1),(25,Q (c b.2.1)),(26,Q d)])
  (λd=>[.cells 30 [.c (.B v 2 (c b.1) (a1.fn b.1)),.c (.B v 2 (c b.2.1) (bd.fn b.2.1)),.c (.B v 2 (c b.2.2) (a4.fn b.2.2))],.cells 30 [cH,cH,cH],.cells 30 [.O 3 (.B (c b.1) 2 0 (c b.1)),.O 4 (.B d 2 0 d),cH],.q 119 2 (c b.1) (gq b.1 i0 (c6 f (c e.2))),.q 50 2 d (bd.fn (b.2.1.take d)),.K (cu 170 2 f (c e.2) m)]) (λd=>c b.2.1-d) 0 a ?_ a ?_ a w ?_
 .simp
 .simp
 intro d t;by_cases s:d<c b.2.1
 .have u:b.2.1.getD d (0,[])∈b.2.1:=N;have i:b.2.1.getD (d:Int).toNat bd.E=b.2.1.getD d (0,[]):=N;refine a8 k [27] a ?_ (g.aw (d+1) a ?_ ?_ ?_ ?_)
  .have j:=J _ u;simp only[U,i,cx.l,a7];exact⟨by omega,B,B,show(d+1)*32<=_ by omega,cx.J _,j.1,j.2,by omega,by omega,fA w⟩
  .simp
  .exact FM
  .grind
  omega
 obtain rfl:d=c b.2.1:=w;rw[c0];refine a8 k [-27] a D (g.az ?_);refine b9 k a B (g.aA (IZ b.2.2 S) [] a (b9 k a B (g.bf ⟨(f,m),I⟩ [3,4,5] ?_ (λA T=>absurd T D))));simp
end
abbrev AK(d:m cJ):Prop:=d.Pairwise λa b=>aS a.1 b.1=l
def aeq{o}(f:dO o=l):AK o:=by simp only[dO,cp]at f;have i:=gd.1 f.1;rw[AK,na];intro e k b d a;rw[pe b,pe d];refine Mm (o:=o) (e:=k) (λm j g=>?_) e a;have:=i m w;simp[jc,cp,jK,gl]at this;grind
def zU{o}:dO o=l↔(∀d∈o,fY d.1=l/\fO d.2=l)/\AK o/\o.Pairwise (λj k=>lf j.1 k.1=v)/\c o<=6:=by
 constructor
 .intro b;have t:=aeq b;simp only[dO,cp,bz]at b;have g:=gd.1 b.1;refine⟨λd p=>?_,t,?_,b.2⟩
  .obtain⟨e,a,rfl⟩:=hd p;have:=g e a;exact P8
  rw[na];intro e r a f i;have:=g r f;exact P8
 rintro⟨s,u,w,q⟩;simp only[dO,cp,bz];refine⟨gd.2 λe a=>?_,q⟩;have m:=s _ (xf a);rw[pe a]at m;simp only[jc,cp,jK,gl];grind[List.pairwise_iff_getElem,pe]
end R1
def bl.le{s:af P}{t}{args}{oH:ι->y}(u:bl s t args k res aU){e:ι->m Prop}(x:∀a,kw (res a) (oH a)=h (e a))(A:∀a,U (e a)):bl s t args k oH aU:=
 ⟨u.1,λB z p j w f i=>u.2 B z p j w f λa g C q o b d r=>i a g C q o (pp (x a) (A a) b) d r⟩
def bl.Q{p:af P}{q}{args}{res}{aU}(r:bl (ι:=ι) p q args k (λ_=>res) (λ_=>aU)):Y p q args k res aU:=
 ⟨r.1,λt z j g s d f=>r.2 t z j g s d λ_ e u m i a b o=>f e u m i a b o⟩
namespace R1
variable {q:af T}
abbrev uv(e:c5 α)(d:m α):Type:={a:Nat->m M // ∀b,b<c d->a b=e.fn d b}
structure dH(b:cb):Prop where
 aZ:c b.1<=4000000
 bl:∀aZ∈b.1,c aZ.2<=4000000
 aW:c b.2.1<=4000000
 bm:iL b
 aM:c b.2.2<=4000000
def WM(b)(d)(f:dH b)(o:d.1=1):
  bl (ι:={e:Nat->m M // ∀j,j<c (b.1.filter λi=>!(i.1==d.2.1))->e j=a1.fn (b.1.filter λi=>!(i.1==d.2.1)) j}) q 98 [b0 b,eI d] []
   (λ_=>.n (.agg [dB 0 (c b.1) (c (b.1.filter λi=>!(i.1==d.2.1))),dB 1 (c b.2.1) (c b.2.1),.c (h2 b.2.2)])) (λe=>[.q 119 2 (c b.1) e.1,.q 50 2 (c b.2.1) (bd.fn b.2.1)]):=by refine bl.bG bc func98 rfl rfl rfl λp=>?_;refine aQ a B (g.aA (pd b f.aZ f.bl f.aW f.bm f.aM) [] a (aQ a B (g.aA (Vb d o) [] a (aQ a B (g.cH (Vj b d f.aZ) a a a a D a ?_)))));rintro⟨e,k⟩;refine aQ a B (g.bf ⟨e,k⟩ [3,4] ?_ e4);simp
def WL(b)(d)(k:dH b)(o:d.1=1):Y q 98 [b0 b,eI d] [] (b0 (b.1.filter λa=>!(a.1==d.2.1),b.2.1,b.2.2)) []:=by
 have m:c (b.1.filter λa=>!(a.1==d.2.1))<=c b.1:=iz _ _;have e:=WM (q:=q) b d k o;have g:=bl.bK (aU:=λV:uv a1 (b.1.filter λa=>!(a.1==d.2.1))=>[.q 119 2 (c b.1) V.1]) (W:=50) (f:=2) (j:=λ_=>c b.2.1) (V:=λ_=>bd.fn b.2.1) e bk (λ_=>?_) bk (λ_=>g5 _);have i:=bl.bK (aU:=λ_=>[]) (W:=119) (f:=2) (j:=λ_=>c b.1) (V:=λV:uv a1 (b.1.filter λa=>!(a.1==d.2.1))=>V.1) g bk (λ_=>?_) bk (λ_=>bC _);refine(i.le (oH:=λ_=>b0 (b.1.filter λa=>!(a.1==d.2.1),b.2.1,b.2.2)) bk (λV=>?_)).Q
 .simp only[U.Y,U,a9,a'];exact⟨V.2,bs.same,bs.same⟩
 .simpa using m
 simp
def WW(b)(d)(e:dH b)(j:d.1≠1)(f:d.1≠2)(k:d.1≠3)(i:d.1≠4):
  bl (ι:=Unit) q 98 [b0 b,eI d] [] (λ_=>.n (.agg [dB 0 (c b.1) (c b.1),dB 1 (c b.2.1) (c b.2.1),.c (h2 b.2.2)])) (λ_=>[.q 119 2 (c b.1) (a1.fn b.1),.q 50 2 (c b.2.1) (bd.fn b.2.1)]):=by refine bl.bG bc func98 rfl rfl rfl λm=>?_;refine aQ a B (g.aA (pd b e.aZ e.bl e.aW e.bm e.aM) [] a (aQ a B (g.aA (Ve d j f k i) [] a (aQ a B (g.cH (Xl (mU b d) a (.ptr 5 0)).tocE a a a a D a ?_)))));intro _;refine aQ a B (g.bf () [3,4] ?_ e4);simp
def WP(b)(d:dS)(e:dH b)(f:d.1=2)(i:d.2.1<0∨d.2.1>c b.2.2):
  bl (ι:=Unit) q 98 [b0 b,eI d] [] (λ_=>.n (.agg [dB 0 (c b.1) (c b.1),dB 1 (c b.2.1) (c b.2.1),.c (h2 b.2.2)])) (λ_=>[.q 119 2 (c b.1) (a1.fn b.1),.q 50 2 (c b.2.1) (bd.fn b.2.1)]):=by refine bl.bG bc func98 rfl rfl rfl λj=>?_;refine aQ a B (g.aA (pd b e.aZ e.bl e.aW e.bm e.aM) [] a (aQ a B (g.aA (I6 d f) [] a (aQ a B (g.cH (UA b d i).tocE a a a a D a ?_)))));intro _;refine aQ a B (g.bf () [3,4] ?_ e4);simp
def CL{b}{d}(a:bl (ι:=Unit) q 98 [b0 b,eI d] [] (λ_=>.n (.agg [dB 0 (c b.1) (c b.1),dB 1 (c b.2.1) (c b.2.1),.c (h2 b.2.2)])) (λ_=>[.q 119 2 (c b.1) (a1.fn b.1),.q 50 2 (c b.2.1) (bd.fn b.2.1)])):Y q 98 [b0 b,eI d] [] (b0 b) []:=by
 have e:=bl.bK (aU:=λ_:Unit=>[.q 119 2 (c b.1) (a1.fn b.1)]) (W:=50) (f:=2) (j:=λ_=>c b.2.1) (V:=λ_=>bd.fn b.2.1) a bk (λ_=>?_) bk (λ_=>g5 _);have g:=bl.bK (aU:=λ_:Unit=>[]) (W:=119) (f:=2) (j:=λ_=>c b.1) (V:=λ_=>a1.fn b.1) e bk (λ_=>?_) bk (λ_=>bC _);refine(g.le (oH:=λ_=>b0 b) bk (λV=>?_)).Q
 .simp only[U.Y,U,a9,a'];exact⟨bs.same,bs.same,bs.same⟩
 .simp
 simp
def WO(b)(f:dS)(d:dH b)(m:f.1=2)(i:Nat)(o:f.2.1=i)(p:i<=c b.2.2):
  bl (ι:=uv bd (b.2.1.filter λj=>!jy i b.2.2 j)) q 98 [b0 b,eI f] []
   (λ_=>.n (.agg [dB 0 (c b.1) (c b.1),dB 1 (c b.2.1) (c (b.2.1.filter λj=>!jy i b.2.2 j)),.c (.B v 2 f.2.1.toNat (a4.fn b.2.2))])) (λe=>[.q 119 2 (c b.1) (a1.fn b.1),.q 50 2 (c b.2.1) e.1]):=by refine bl.bG bc func98 rfl rfl rfl λr=>?_;refine aQ a B (g.aA (pd b d.aZ d.bl d.aW d.bm d.aM) [] a (aQ a B (g.aA (I6 f m) [] a (aQ a B (g.cH (UB b f i o p d.aW d.aM) a a a a D a ?_)))));rintro⟨e,k⟩;refine aQ a B (g.bf ⟨e,k⟩ [3,4] ?_ e4);simp
def WN(b)(d:dS)(u:dH b)(p:d.1=2)(j:Nat)(w:d.2.1=j)(r:j<=c b.2.2):Y q 98 [b0 b,eI d] [] (b0 (b.1,b.2.1.filter λa=>!jy j b.2.2 a,b.2.2.take j)) []:=by
 have m:c (b.2.1.filter λa=>!jy j b.2.2 a)<=c b.2.1:=iz _ _;have e:=WO (q:=q) b d u p j w r;have g:=bl.bK (aU:=λ_:uv bd (b.2.1.filter λa=>!jy j b.2.2 a)=>[.q 119 2 (c b.1) (a1.fn b.1)]) (W:=50) (f:=2) (j:=λ_=>c b.2.1) (V:=λV=>V.1) e bk (λ_=>?_) bk (λ_=>g5 _);have i:=bl.bK (aU:=λ_:uv bd (b.2.1.filter λa=>!jy j b.2.2 a)=>[]) (W:=119) (f:=2) (j:=λ_=>c b.1) (V:=λ_=>a1.fn b.1) g bk (λ_=>?_) bk (λ_=>bC _);refine(i.le (oH:=λ_=>b0 (b.1,b.2.1.filter λa=>!jy j b.2.2 a,b.2.2.take j)) bk (λV=>?_)).Q
 .have o:d.2.1.toNat=c (b.2.2.take j):=N;simp only[U.Y,U,a9,a'];refine⟨bs.same,V.2,o,λt s=>?_⟩;have k:t<j:=N;simp[c5.fn,gI,aj,iA,k]
 .simp
 simpa using m
end R1
def dJ.cC:dJ->Nat
 |.nil=>0
 |.ax a _ _ b=>a.cC+b.cC+1
namespace R1
variable {q:af T}
def Vs(o)(j):Y q 264 [ay (eP o),Q j] [] (Q (o.find j)) []:=by
 refine Y.ab func264 rfl λs=>?_;refine aQ a B (g.loop (λd:dJ=>d.find j=o.find j) (λd=>[(0,ay (eP d)),(1,Q j)]) (λ_=>[]) (λd=>d.cC) o a (.cons a (eu a D)) a ?_);intro d b;cases d with
 |nil=>
  refine aQ a B (g.aK (r1 a underlying317 a a a) a a ?_);refine a3 [-7,-15] a D (g.bs a a ?_);refine aQ a B (g.aK (r1 a underlying317 a a a) a a ?_);refine aQ a B (g.ao a ?_);exact bE
 |ax f e k i=>
  have r:(dJ.ax f e k i).find j=if j=e then k else if j<e then f.find j else i.find j:=rfl;rw[r]at b;refine aQ a B (g.aK (tI a underlying317 a a a) a a ?_);by_cases p:j=e
  .subst p;rw[bo a]at b;refine a3 [7,-15] a D (g.bs a a ?_);refine aQ a B (g.aK (tI a underlying317 a a a) a a ?_);refine aQ a B (g.ao a ?_);exact bw
  rw[bj p]at b;by_cases m:j<e
  .rw[bo m]at b;cases f<;>exact a3 [7,15,22] rfl bw ⟨_,b,by simp only[dJ.cC];omega,.cons rfl (eu rfl D),rfl⟩
  rw[bj m]at b;cases i<;>exact a3 [7,15,-22] rfl bw ⟨_,b,by simp only[dJ.cC];omega,.cons rfl (eu rfl D),rfl⟩
end R1
namespace R1
section
variable {q:af T}
def Jg(b)(d)(e:dH b)(j:d.1=4)(f:Nat->m M)(i:Y q 212 [aH 6 0,iZ (l3 d)] (oL b d (a4.fn b.2.2)) (.S []) (oL b d f)):
  bl (ι:=Unit) q 98 [b0 b,eI d] [] (λ_=>.n (.agg [dB 0 (c b.1) (c b.1),dB 1 (c b.2.1) (c b.2.1),dB 2 (c b.2.2) (c b.2.2)])) (λ_=>[.q 119 2 (c b.1) (a1.fn b.1),.q 50 2 (c b.2.1) (bd.fn b.2.1),.q 54 2 (c b.2.2) f]):=by refine bl.bG bc func98 rfl rfl rfl λk=>?_;refine aQ a B (g.aA (JH b e.aZ e.bl e.aW e.bm e.aM) [] a (aQ a B (g.aA (Vd d j) [] a (aQ a B (g.cH i.tocE a a a a D a ?_)))));intro _;refine aQ a B (g.bf () [3,4,5] ?_ e4);simp
def Jh(b)(d)(V:Nat->m M)(e)(g:c e=c b.2.2)(p:bs (c b.2.2) V (a4.fn e))(i:bl (ι:=Unit) q 98 [b0 b,eI d] [] (λ_=>.n (.agg [dB 0 (c b.1) (c b.1),dB 1 (c b.2.1) (c b.2.1),dB 2 (c b.2.2) (c b.2.2)])) (λ_=>[.q 119 2 (c b.1) (a1.fn b.1),.q 50 2 (c b.2.1) (bd.fn b.2.1),.q 54 2 (c b.2.2) V])):
  Y q 98 [b0 b,eI d] [] (b0 (b.1,b.2.1,e)) []:=by
 have r:=bl.bK (aU:=λ_:Unit=>[.q 119 2 (c b.1) (a1.fn b.1),.q 50 2 (c b.2.1) (bd.fn b.2.1)]) (W:=54) (f:=2) (j:=λ_=>c b.2.2) (V:=λ_=>V) i bk (λ_=>?_) bk (λ_=>g5 _);have k:=bl.bK (aU:=λ_:Unit=>[.q 119 2 (c b.1) (a1.fn b.1)]) (W:=50) (f:=2) (j:=λ_=>c b.2.1) (V:=λ_=>bd.fn b.2.1) r bk (λ_=>?_) bk (λ_=>g5 _);have o:=bl.bK (aU:=λ_:Unit=>[]) (W:=119) (f:=2) (j:=λ_=>c b.1) (V:=λ_=>a1.fn b.1) k bk (λ_=>?_) bk (λ_=>bC _);refine(o.le (oH:=λ_=>b0 (b.1,b.2.1,e)) bk (λ_=>?_)).Q
 .simp only[U.Y,U,a9,a'];refine⟨bs.same,bs.same,g.symm,?_⟩;intro s a;exact p s (by first|exact a|(rw[<-g];exact a))
 .simp
 .simp
 simp
def WV(b)(a:dS)(d:dH b)(i:a.1=4)(e:0<=a.2.1)(f:a.2.1<c b.2.2)(g:a7 .i64 (3-lC b a)):
  Y q 98 [b0 b,eI a] [] (b0 (b.1,b.2.1,b.2.2.set (0+a.2.1.toNat) (3-lC b a,(b.2.2.getD (0+a.2.1.toNat) a4.E).2))) []:=
 Jh b a _ _ D (a4.cV b.2.2 (0+a.2.1.toNat) (3-lC b a,(b.2.2.getD (0+a.2.1.toNat) a4.E).2) (c b.2.2) (bC _)) (Jg b a d i _ (Vv b a e f g))
def WU(b)(d:dS)(e:dH b)(g:d.1=4)(f:¬(0<=d.2.1/\d.2.1<c b.2.2)):Y q 98 [b0 b,eI d] [] (b0 b) []:=
 Jh b d _ b.2.2 a bs.same (Jg b d e g _ (Vu b d f))
abbrev Es(a:cb)(i:dS)(e:Nat)(f b d:Nat)(g:m X):m aq:=tO a i [.q 119 2 (c a.1) (gq a.1 e (.slice (h ⟨f,0,n⟩) d b)),.q 50 2 (c a.2.1) (bd.fn a.2.1),.K (cu 170 2 (.row f b) d g)] (dB 3 (c a.1) (c a.1)) (dB 4 (c a.2.1) (c a.2.1)) (.c (h2 a.2.2))
def gY(a:m cY)(b:Nat)(d:bD):m cY:=a.set b ((a.getD b (0,[])).1,d)
def J3{ag}{o}{d}(k:eo 2 (c ag) (bI.fn ag) d)(e:A<c ag)(j:m' z [.c (.T o)]):eo 2 (c ag) (bI.fn (gY ag A o)) (d.take (A*2+1)++z++d.drop (A*2+1+c z)):=by
 refine eo.fi k A 1 e j D (λq p g=>?_) a λf m b=>?_
 .simp[c5.fn,gI,gY,aj,o1,p' g]
 have i:bI.fn (gY ag A o) A=[.int .i64 (ag.getD A (0,[])).1,.T o]:=by simp[c5.fn,gI,gY,aj,o1,e];rfl
 rw[i]at b;rcases f with _|_|f
 .simp at b;subst b;exact .inr ⟨by omega,a⟩
 .grind
 simp at b
def UF(b)(i:dS)(V:c b.1<=4000000)(d r e p:Nat)(ag)(R:(b.1.getD d (0,[])).2=ag)(T:d<c b.1)(K:(b.1.getD d (0,[])).1=i.2.1)(N:∀x,x<c b.1->x≠d->(b.1.getD x (0,[])).1≠i.2.1)(M:i.2.2.1=p)(S:p<c ag)(W:c ag<=4000000)(C)(J:eo 2 (c ag) (bI.fn ag) C):
  bl (ι:={y:m X // eo 2 (c ag) (bI.fn (gY ag p i.2.2.2)) y}) q 211 [aH 6 0,iZ (l3 i)] (Es b i d r e (c ag) C) (λ_=>.S []) (λy=>Es b i d r e (c ag) y.1):=by
 refine bl.bO func211 rfl rfl rfl (g.aO ?_);refine aQ a B (g.aB 7 (λj:Nat×m X=>j.1<=c b.1/\(j.1<=d->j.2=C)/\(d<j.1->eo 2 (c ag) (bI.fn (gY ag p i.2.2.2)) j.2)) (λj=>[(0,aH 6 0),(1,iZ (l3 i)),(8,.n (.Q (dB 3 (c b.1) (c b.1)))),(9,Q (c b.1)),(10,Q j.1)]) (λj=>Es b i d r e (c ag) j.2) (λj=>c b.1-j.1) (0,C) a D a D a ⟨by omega,λ_=>rfl,λF=>by omega⟩ ?_);rintro⟨f,k⟩ ⟨t,E,A⟩;simp only at t E A;have I:0+(f:Int).toNat=f:=w;by_cases F:f<c b.1
 .by_cases o:f=d
  .subst o;obtain rfl:=E (bC _);refine gH [11] 12 a Q7 (g.aK (a2.e' bc (ap:=.agg [.c (.int .i64 i.2.1),.c (.val (.slice (h ⟨r,0,n⟩) (c ag) e))]) a a a a a ?_ ?_) a a ?_)
   .show h (E1.agg [.c (.int .i64 (b.1.getD (0+(f:Int).toNat) (0,[])).1),.c (nC b.1 f (.slice (h ⟨r,0,n⟩) (c ag) e) (0+(f:Int).toNat))])=_;rw[I,K,nC,bo a]
   .show 0+(f:Int).toNat<_;omega
   refine a3 [19,24,31] a ?_ ?_
   .simp only[U,a7,bz,gk,a',a9];exact fC
   have Z:=J.len;have u:0+i.2.2.1.toNat*2+1=p*2+1:=w;refine g.eS bc 5 a a a a a a a ?_ a a λz s=>?_
   .show 0+i.2.2.1.toNat*2+1+1<=c k;omega
   have Y:=J3 J S s;refine aQ a F3 (g.aw (f+1,k.take (p*2+1)++z++k.drop (p*2+1+c z)) a D ?_ ?_ ?_)
   .simp only[U.Y,U,bs.same,a9,a'];show cu 170 2 _ _ (List.take (0+i.2.2.1.toNat*2+1) k++z++List.drop (0+i.2.2.1.toNat*2+1+c z) k)=_;rw[u]
   .grind
   grind
  have O:=N f F o;refine gH [11] 12 a Q7 (g.aK (a2.e' bc (ap:=.agg [.c (.int .i64 (b.1.getD f (0,[])).1),.c (.B v 2 (b.1.getD f (0,[])).2.length (bI.fn (b.1.getD f (0,[])).2))]) a a a a a ?_ ?_) a a ?_)
  .show h (E1.agg [.c (.int .i64 (b.1.getD (0+(f:Int).toNat) (0,[])).1),.c (nC b.1 d (.slice (h ⟨r,0,n⟩) (c ag) e) (0+(f:Int).toNat))])=_;rw[I,nC,bj o]
  .show 0+(f:Int).toNat<_;omega
  refine a3 [-19,-24,-31] a ?_ (g.aw (f+1,k) a ?_ ?_ ?_ ?_)
  .simp only[U,a7,eN,a',a9];exact⟨by omega,O⟩
  .simp
  .simp
  .grind
  grind
 obtain rfl:f=c b.1:=w;refine a3 [-11] a D (g.az ?_);exact aQ a B ⟨⟨k,A T⟩,.inr a,a,a,_,_,_,a,a,a,B⟩
structure sq(b:cb)(d:dS)(i0 A:Nat):Prop where
 a':i0<c b.1
 c0:(b.1.getD i0 (0,[])).1=d.2.1
 bZ:∀u,u<c b.1->u≠i0->(b.1.getD u (0,[])).1≠d.2.1
 bU:d.2.2.1=A
 gn:A<(b.1.getD i0 (0,[])).2.length
def L9(ag)(A)(o):c (gY ag A o)=c ag:=by simp[gY]
def vr{a:cb}{i0}(b:i0<c a.1):a.1.getD i0 (0,[])∈a.1:=N
set_option maxRecDepth 20000 in
def WR(b)(d)(i:dH b)(s:d.1=3)(i0 A)(f:sq b d i0 A):
  bl (ι:={j:fv×m X // eo 2 (b.1.getD i0 (0,[])).2.length (bI.fn (gY (b.1.getD i0 (0,[])).2 A d.2.2.2)) j.2}) q 98 [b0 b,eI d] []
   (λ_=>.n (.agg [dB 0 (c b.1) (c b.1),dB 1 (c b.2.1) (c b.2.1),.c (h2 b.2.2)]))
   (λj=>[.q 119 2 (c b.1) (gq b.1 i0 (c6 j.1.1 (b.1.getD i0 (0,[])).2.length)),.q 50 2 (c b.2.1) (bd.fn b.2.1),.K (cu 170 2 j.1.1 (b.1.getD i0 (0,[])).2.length j.1.2)]):=by have t:=f.gn;have r:=i.bl _ (vr f.a');refine bl.bG bc func98 rfl rfl rfl λC=>?_;refine aQ a B (g.a1 (Yl b i0 f.a' w i.aZ i.bl i.aW i.bm i.aM) [] a bk ?_);rintro⟨⟨o,x⟩,z⟩;refine g.fC (cu.len (d:=5) a) λp=>?_;obtain⟨k,e,rfl⟩:=p.2.2.1 w;refine aQ a B (g.aA (I7 d s) [] a (aQ a B (g.cH (UF b d i.aZ i0 k e A _ a f.a' f.c0 f.bZ f.bU t r x z) a a a a D a ?_)));rintro⟨y,u⟩;refine aQ a B (g.bf ⟨(.row k e,y),u⟩ [3,4,5] ?_ e4);simp
abbrev hh(b:cb)(d:dS)(a e:Nat):cb:=(b.1.set a ((b.1.getD a (0,[])).1,gY (b.1.getD a (0,[])).2 e d.2.2.2),b.2.1,b.2.2)
def UY{p}{args}(b)(d)(i0 A)(x:i0<c b.1)(t:bl (ι:={g:fv×m X // eo 2 (b.1.getD i0 (0,[])).2.length (bI.fn (gY (b.1.getD i0 (0,[])).2 A d.2.2.2)) g.2}) q p args []
   (λ_=>.n (.agg [dB 0 (c b.1) (c b.1),dB 1 (c b.2.1) (c b.2.1),.c (h2 b.2.2)]))
   (λg=>[.q 119 2 (c b.1) (gq b.1 i0 (c6 g.1.1 (b.1.getD i0 (0,[])).2.length)),.q 50 2 (c b.2.1) (bd.fn b.2.1),.K (cu 170 2 g.1.1 (b.1.getD i0 (0,[])).2.length g.1.2)])):
  Y q p args [] (b0 (hh b d i0 A)) []:=by
 generalize e:b.1.getD i0 (0,[])=i at *;have z:∀k,k≠i0->a1.fn (hh b d i0 A).1 k=a1.fn b.1 k:=λk o=>by simp[c5.fn,gI,aj,o1,p' o]
 have C:a1.fn (hh b d i0 A).1 i0=[.int .i64 i.1,.B v 2 (c i.2) (bI.fn (gY i.2 A d.2.2.2))]:=by have:(hh b d i0 A).1.getD i0 a1.E=(i.1,gY i.2 A d.2.2.2):=N;show a1.a8 ((hh b d i0 A).1.getD i0 a1.E)=_;rw[this];show[M.int .i64 i.1,M.B v 2 (c (gY i.2 A d.2.2.2)) (bI.fn (gY i.2 A d.2.2.2))]=_;rw[L9]
 have y:=bl.fA (aU:=λg:{g:fv×m X // eo 2 (c i.2) (bI.fn (gY i.2 A d.2.2.2)) g.2}=>[.q 119 2 (c b.1) (gq b.1 i0 (c6 g.1.1 (c i.2))),.q 50 2 (c b.2.1) (bd.fn b.2.1)]) (fl:=λ_=>[.q 119 2 (c b.1) (a1.fn (hh b d i0 A).1),.q 50 2 (c b.2.1) (bd.fn b.2.1)]) (W:=170) (f:=2) (j:=c i.2) (bP:=λg=>g.1.1) (ag:=λg=>g.1.2) t (λg=>g.2) 0 bk bk bk bk (λ_=>g5 _)
  (λg k o=>by exact bE)
  (λg k o r B O=>by
   by_cases s:k=i0
   .subst s;rw[C]at O;have:gq b.1 k (c6 g.1.1 (c i.2)) k=[.int .i64 i.1,.val (c6 g.1.1 (c i.2))]:=Oz;rw[this];rcases r with _|_|r
    .simp at O;subst O;exact⟨_,a,.inl a⟩
    .exact RQ
    exact bE
   .rw[z k s]at O;have:gq b.1 i0 (c6 g.1.1 (c i.2)) k=a1.fn b.1 k:=Fj
    rw[this];exact⟨B,O,.inl a⟩)
 have u:=bl.bK (aU:=λ_=>[.q 119 2 (c b.1) (a1.fn (hh b d i0 A).1)]) (W:=50) (f:=2) (j:=λ_=>c b.2.1) (V:=λ_=>bd.fn b.2.1) y bk (λ_=>?_) bk (λ_=>g5 _);have w:=bl.bK (aU:=λ_=>[]) (W:=119) (f:=2) (j:=λ_=>c b.1) (V:=λ_=>a1.fn (hh b d i0 A).1) u bk (λ_=>?_) bk (λ_=>bC _);refine(w.le (oH:=λ_=>b0 (hh b d i0 A)) bk (λ_=>?_)).Q
 .exact QE
 .simp
 simp
set_option maxRecDepth 20000 in
def WQ(b)(d)(e:dH b)(f:d.1=3)(i0 A)(a:sq b d i0 A):Y q 98 [b0 b,eI d] [] (b0 (hh b d i0 A)) []:=
 UY b d i0 A a.a' (WR b d e f i0 A a)
def pY(d:cb)(b:dS):Prop:=∀a,a<c d.1->¬((d.1.getD a (0,[])).1=b.2.1/\0<=b.2.2.1/\b.2.2.1<(d.1.getD a (0,[])).2.length)
def UG(b)(d)(j:dH b)(r:pY b d):Y q 211 [aH 5 0,iZ (l3 d)] (mU b d) (.S []) (mU b d):=by
 have y:=j.aZ;refine bl.toY (bl.bO (ι:=Unit) (res:=λ_=>.S []) (ar:=λ_=>mU b d) func211 rfl rfl rfl (g.aO ?_));refine aQ a B (g.aB 6 (λe=>e<=c b.1) (λe:Nat=>[(0,aH 5 0),(1,iZ (l3 d)),(8,.n (.Q (dB 3 (c b.1) (c b.1)))),(9,Q (c b.1)),(10,Q e)]) (λ_=>mU b d) (λe=>c b.1-e) 0 a D a D a w ?_);intro e o;by_cases k:e<c b.1
 .have t:=r e k;have s:=j.bl _ (vr k);have p:0+(e:Int).toNat=e:=w;have i:b.1.getD (0+(e:Int).toNat) a1.E=b.1.getD e (0,[]):=by rw[p];rfl
  generalize b.1.getD e (0,[])=m at *;by_cases x:m.1=d.2.1
  .by_cases u:0<=d.2.2.1
   .have f:¬d.2.2.1<c m.2:=λf=>t ⟨x,u,f⟩;refine a3 [11,19,24,-31] a RI (g.aw (e+1) a D D q3 ?_);omega
   refine a3 [11,19,-24,-31] a RI (g.aw (e+1) a D D q3 ?_);omega
  refine a3 [11,-19,-24,-31] a ?_ (g.aw (e+1) a ?_ ?_ ?_ ?_)
  .simp only[U,a7,i,eN,bz,dq,a',a9];and_intros<;>first|exact x|omega
  .simp
  .simp
  .exact q3
  omega
 obtain rfl:e=c b.1:=w;refine a3 [-11] a D (g.az ?_);exact RJ
def WT(b)(d)(e:dH b)(i:d.1=3)(f:pY b d):
  bl (ι:=Unit) q 98 [b0 b,eI d] [] (λ_=>.n (.agg [dB 0 (c b.1) (c b.1),dB 1 (c b.2.1) (c b.2.1),.c (h2 b.2.2)])) (λ_=>[.q 119 2 (c b.1) (a1.fn b.1),.q 50 2 (c b.2.1) (bd.fn b.2.1)]):=by refine bl.bG bc func98 rfl rfl rfl λj=>?_;refine aQ a B (g.aA (pd b e.aZ e.bl e.aW e.bm e.aM) [] a (aQ a B (g.aA (I7 d i) [] a (aQ a B (g.cH (UG b d e f).tocE a a a a D a ?_)))));intro _;refine aQ a B (g.bf () [3,4] ?_ e4);simp
def WS(b)(d)(a:dH b)(f:d.1=3)(e:pY b d):Y q 98 [b0 b,eI d] [] (b0 b) []:=CL (WT b d a f e)
end
section
open Go.Sort (pdq bitsLen ltInt Below)
variable {q:af T}
def j3(a:m Int):m Int:=a.mergeSort λb d=>decide (b<=d)
def qT(d):c (j3 d)=c d:=List.length_mergeSort _
def acA(d):pdq ltInt d.toArray 0 (c d) (bitsLen (c d)) l l=(j3 d).toArray:=by have a:=Go.Sort.sortInt d;unfold Go.Sort.sort at a;rw[List.size_toArray]at a;exact Array.ext' bE
theorem T4(d):s4 d.toArray=az.fn d:=by funext u;simp only[s4,c5.fn,gI,az,aj];simp
abbrev jo(b:Nat)(a:m Int):aq:=.q 3 1 b (az.fn a)
def CM(d)(b:c d<=4000000):Y q 65 [dL (c d)] [jo (c d) d] (.S []) [jo (c d) (j3 d)]:=by
 refine Y.ab func65 rfl λe=>?_;refine cB a bE (g.aA (Jf (c d) b) [] a (cB a B ?_));have i:=sS (E:=c d) (f:=22) N;have key:Y q 116 [dL (c d),Q 0,Q (c d),Q (bitsLen (c d))] [jo (c d) d] (.S []) [jo (c d) (j3 d)]:=by have:=XH (q:=q) (c d) b (c d) d.toArray 0 (c d) (bitsLen (c d)) w D w (bC _) w (.inl a) (E:=0) a a a (acA d).symm;grind[T4]
 exact g.aA key [0] a (cB a B sk)
def fF(b:m Int):Nat->m Int
 |0=>[]
 |a+1=>if a≠0/\b.getD a 0=b.getD (a-1) 0 then fF b a else fF b a++[b.getD a 0]
def hV(a:m Int):m Int:=fF a (c a)
def xo(d):∀a,c (fF d a)<=a
 |0=>bC _
 |a+1=>by have:=xo d a;simp[fF];grind
def uS{d}:∀{b:Nat},b<=c d->(∀a,1<=a->a<b->d.getD a 0≠d.getD (a-1) 0)->fF d b=d.take b
 |0,_,_=>by simp[fF]
 |b+1,g,f=>by rw[fF,bj,uS w λa e i=>f a e w,h4 w 0];grind
structure Si(d:m Int)(tl:Nat)(rW:Nat)(nP:m Int):Prop where
 iX:1<=rW
 fG:tl+rW<=c d
 len:c nP=c d
 lt:c (fF d (tl+rW))<tl+rW
 done:nP.take (c (fF d (tl+rW)))=fF d (tl+rW)
 hJ:∀e,tl+rW<=e+1->nP.getD e 0=d.getD e 0
abbrev AF(d:m Int):Type:={a:Nat->m M // ∀b,b<c d->a b=az.fn d b}
def I0(d)(Z:c d<=4000000):bl (ι:=AF (hV d)) q 66 [dL (c d)] [jo (c d) d] (λ_=>cF 0 (.B (c d) 1 0 (c (hV d)))) (λA=>[.q 3 1 (c d) A.1]):=by
 refine bl.cb func66 rfl rfl rfl λY=>?_;by_cases R:c d<2
 .have s:hV d=d:=by unfold hV;rw[uS (bC _) λb _ _=>by omega,c0]
  refine bR [8] a bw (g.bu ⟨az.fn d,λb _=>by rw[s]⟩ (g.aI [0] a ?_ hl));simp[s]
 refine bR [-8] a bw (g.ck (S2:=Unit) 0 a a (λ_=>hV d=d) (λ_=>[(0,dL (c d))]) (λ_=>[jo (c d) d]) 1 (λf:Nat=>1<=f/\f<=c d/\∀b,1<=b->b<f->d.getD b 0≠d.getD (b-1) 0) (λf=>[(0,dL (c d)),(3,Q f)]) (λ_=>[jo (c d) d]) (λf=>c d-f) 1 a D a D a ⟨bC _,by omega,λb G R=>by omega⟩ ?_ ?_)
 .rintro dx f ⟨V,b3,F⟩;by_cases ab:f<c d
  .have aa:((f:Int)-1).toNat=f-1:=w;have I:∀u,d.getD u az.E=d.getD u 0:=λ_=>rfl;by_cases o:d.getD f 0=d.getD (f-1) 0
   .refine bR [13,25] a ?_ ?_
    .simp only[U,cZ,cR,aa,I,o,a7,bz,gk,a',a9];exact fC
    have aZ:=uS (d:=d) w F;have H:fF d (f+1)=d.take f:=by rw[fF,bo ⟨by omega,o⟩,aZ]
    refine g.ck (S2:=m Int) 2 a a (λt=>c t=c d/\t.take (c (hV d))=hV d) (λ_=>[(0,dL (c d)),(3,Q (c (hV d)))]) (λt=>[jo (c d) t]) 1 (λe:Nat×m Int=>Si d f e.1 e.2) (λe=>[(0,dL (c d)),(3,Q (c (fF d (f+e.1)))),(4,cF 0 (.B (c d) 1 f (c d-f))),(5,Q e.1)]) (λe=>[jo (c d) e.2]) (λe=>c d-e.1) (1,d) a bE a D a ?_ ?_ ?_
    .exact⟨bC _,by omega,a,by grind,by grind,λ_ _=>rfl⟩
    .rintro T ⟨i,t⟩ ⟨hi,iV,jR,u4,j,r⟩;simp only at hi iV jR u4 j r;by_cases ae:f+i<c d
     .have K:((i:Int)-1).toNat=i-1:=w;have E:∀u,t.getD u az.E=t.getD u 0:=λ_=>rfl;have C:t.getD (f+i) 0=d.getD (f+i) 0:=r _ w;have O:t.getD (f+(i-1)) 0=d.getD (f+(i-1)) 0:=r _ w;by_cases x:d.getD (f+i) 0=d.getD (f+(i-1)) 0
      .have p:fF d (f+(i+1))=fF d (f+i):=by rw[show f+(i+1)=f+i+1 by omega,fF,bo ⟨by omega,by rw[x,show f+i-1=f+(i-1) by omega]⟩]
       refine bR [32,-44] a ?_ (g.aw (i+1,t) a ?_ ?_ ?_ ?_)
       .simp only[U,cZ,cR,K,E,C,O,x,a7,bz,iS,gz,gk,a',a9];and_intros<;>first|trivial|omega
       .exact bE
       .simp
       .exact⟨by grind,by grind,jR,by grind,by grind,λb k=>r b N⟩
       omega
      have p:fF d (f+(i+1))=fF d (f+i)++[d.getD (f+i) 0]:=by rw[show f+(i+1)=f+i+1 by omega,fF,bj];rintro⟨_,o⟩;exact x (by rw[o,show f+i-1=f+(i-1) by omega])
      refine bR [32,44] a ?_ (g.aw (i+1,t.set (c (fF d (f+i))) (d.getD (f+i) 0)) a ?_ ?_ ?_ ?_)
      .simp only[U,cZ,cR,K,E,C,O,a7,bz,iT,eN,ki,d',a',a9];and_intros<;>first|exact x|omega
      .exact bE
      .have z:=az.cV t (c (fF d (f+i))) (d.getD (f+i) 0) (c d) w;simp only[U.Y,U,cZ,cR,E,C,a9,a'];exact z
      .refine⟨by grind,by grind,by grind,by grind,?_,λb k=>?_⟩
       .simp only;rw[p,c9,show ∀S:Int,[S].length=1 fromλ_=>rfl,sL,A3,Gs N,j,ix w];rfl
       simp only at k⊢;rw[aj,kJ w,<-aj];grind
      omega
     have X:f+i=c d:=w;have J:fF d (f+i)=hV d:=bE;refine bR [-32] a bw (g.az ?_);rw[J]at j;exact T t ⟨jR,j⟩ a (by simp[J]) a D
    rintro t ⟨M,y⟩;have W:c (hV d)<=c d:=xo d _;refine cB a bw (g.aK (a2.e1 bc a a a a a a wO) a a ?_);refine aQ a bw (g.aS ⟨⟨nQ (0+bV 0 (h (c (hV d):Int))) (0+bV 0 (h (c (hV d):Int))+(bV (c d) n-bV 0 (h (c (hV d):Int)))) dZ.zero (az.fn t),λb k=>?_⟩,bW.mk [0] a ?_ a a a hl⟩)
    .have z:t[b]?=(hV d)[b]?:=N;refine(N9 wO).trans ?_;simp[c5.fn,gI,aj,z]
    exact bE
   refine bR [13,-25] a ?_ (g.aw (f+1) a ?_ ?_ ?_ ?_)
   .simp only[U,cZ,cR,aa,I,a7,bz,eN,d',a',a9];and_intros<;>first|exact o|omega
   .simp
   .simp
   .grind
   omega
  obtain rfl:f=c d:=w;refine bR [-13] a D (g.az ?_);exact dx () (by unfold hV;rw[uS (bC _) F,c0]) a D a D
 rintro⟨⟩ s;refine cB a B (g.bu ⟨az.fn d,λb _=>by rw[s]⟩ (g.aI [0] a ?_ hl));simp[s]
end
section
variable {q:af T}
def d9(a:m m7):m Int:=a.flatMap (·.2)
def ez(a:dF):m Int:=hV (j3 (d9 a.2))
def K6{d}(a:e<c d):d9 (d.take (e+1))=d9 (d.take e)++(d.getD e ([],[])).2:=by rw[h4 a ([],[])];simp[d9]
def _root_.Go.AM.c5.g5(b:c5 α)(a i)(j)(e:j=c (a++i)):bs j (ck (c a) (b.fn a) (b.fn i)) (b.fn (a++i)):=by intro f d;simp only[ck,c5.fn,gI,aj];grind
def X_(b)(z:c b.2<=4000000)(j:c (d9 b.2)<=4000000)(t:∀d,d<=c b.2->c (d9 (b.2.take d))<=4000000):
  bl (ι:=AF (ez b)) q 38 [i2 b] [] (λ_=>cF 0 (.B (c (d9 b.2)) 1 0 (c (ez b)))) (λe=>[.q 3 1 (c (d9 b.2)) e.1]):=by
 refine bl.cb func38 rfl rfl rfl λy=>?_;refine bR [902] a B (g.e_ 3 3 1 (az.fn []) a ?_);refine cB a B ?_;refine g.aB 2 (λd=>d<=c b.2) (λd:Nat=>[(3,cF 1 (.B (c (d9 (b.2.take d))) 1 0 (c (d9 (b.2.take d))))),(7,cx.B b.2),(8,Q (c b.2)),(9,Q d)])
  (λd=>[.cells 50 [.c (.int .i64 b.1),.c (.B v 2 (c b.2) (cx.fn b.2))],jo (c (d9 (b.2.take d))) (d9 (b.2.take d))]) (λd=>c b.2-d) 0 a ?_ a ?_ a w ?_
 .simp[d9]
 .simp[bs,d9]
 intro d r;by_cases k:d<c b.2
 .have i:b.2.getD (d:Int).toNat cx.E=b.2.getD d ([],[]):=ds;have f:=K6 k;have p:=t (d+1) k;rw[f,c9]at p;refine bR [10] a ?_ (g.aw (d+1) a ?_ ?_ ?_ ?_)
  .simp only[U,i,a7,show dZ.bytes=8 from a,bz,a',a9];exact fC
  .simp only[U.Y,U,i,f,c9,a9,a'];and_intros<;>first|exact bs.same|rfl|omega
  .have u:=az.g5 (d9 (b.2.take d)) (b.2.getD d ([],[])).2 _ a;simp_all
  .omega
  omega
 obtain rfl:d=c b.2:=w;rw[c0];refine bR [-10] a D (g.az ?_);refine cB a B (g.aA (CM (d9 b.2) j) [1] a (cB a B ?_));have m:=I0 (q:=q) (j3 (d9 b.2)) (by rw[qT];exact j);rw[qT]at m;refine g.a1 m [1] a bk ?_;rintro⟨e,o⟩;refine cB a B (g.bu ⟨e,o⟩ (g.aI [1] a ?_ (λx s=>absurd s D)));simp[ez]
def K7(d)(e):c (d9 (d.take e))<=c (d9 d):=by
 have a:d9 d=d9 (d.take e)++d9 (d.drop e):=by unfold d9;grind[List.take_append_drop]
 grind
def Ic(d):c (hV d)<=c d:=xo d _
def JF(E)(e:c E.2<=4000000)(a:c (d9 E.2)<=4000000):Y q 38 [i2 E] [] (az.B (ez E)) []:=by
 have b:=X_ (q:=q) E e a λg _=>e3 (K7 _ _) a;have d:=bl.bK (aU:=λ_:AF (ez E)=>[]) (W:=3) (f:=1) (j:=λ_=>c (d9 E.2)) (V:=λV=>V.1) b bk (λ_=>?_) bk (λ_=>bC _);refine(d.le (oH:=λ_=>az.B (ez E)) bk (λV=>?_)).Q
 .simp only[U.Y,U,a9,a'];exact V.2
 have:c (ez E)<=c (d9 E.2):=R0;exact bw
def YI(b)(e)(d:d6 b=l)(p:3<=e)(f:e<=c b)(m:c b<=4000000):Y q 316 [b2 b,Q e] [] (bg (pM b e)) []:=by
 refine Y.ab func316 rfl λj=>?_;have k:=tn d (e-1) w;have o:=tn d (e-2) w;have r:=tn d (e-3) w;have i:((kM b ((e:Int)-1)).toNat:Int)=dr b (e-1):=ui;have O:((kM b ((e:Int)-2)).toNat:Int)=dr b (e-2):=ui;have t:((kM b ((e:Int)-3)).toNat:Int)=dr b (e-3):=ui;refine aQ a ?_ (g.ao a ?_)
 .simp only[U,a7,i,O,t];omega
 exact OR
abbrev HV:bH:=ej eG c7 (λa b=>bg (pM a b.toNat)) λa b=>[d6 a=l,3<=b,b<=c a,c a<=4000000]
def aee:bK q 316 HV:=.bk λg b f=>by
 obtain⟨d,i,j,e⟩:=f;obtain⟨a,rfl⟩:∃a:Nat,b=a:=⟨b.toNat,by omega⟩
 exact YI g a d w w e
def Uw(o)(d)(e:d6 o=l)(s:d<=c o)(y:c o<=4000000):Y q 305 [b2 o,Q d] [] (Q (ep o d)) []:=by
 refine Y.ab func305 rfl λu=>?_;have j:a_ q [(316,HV)]:=.cons aee .nil;refine b9 j a B (g.b7 (λb=>b<=5/\lS o d (5-b)=ep o d) (λb:Nat=>[(0,b2 o),(1,Q d),(5,Q (3+b))]) (λ_=>[]) (λb=>5-b) 0 a D a B ⟨by omega,a⟩ ?_);rintro b ⟨x,i⟩;by_cases r:b<5
 .obtain⟨f,b3⟩:∃f,5-b=f+1:=⟨4-b,by omega⟩
  have m:d+(7-f)=d+3+b:=w;rw[b3]at i;simp[lS,m]at i;by_cases k:c o<=d+3+b
  .rw[bo k]at i;refine a8 j [7,15] a Sc (g.bR (bW.zero a ?_));exact bw
  rw[bj k]at i;have ap:((d:Int)+(3+(b:Int))).toNat=d+3+b:=w;cases t:pM o (d+3+b)with
  |true=>
   rw[t,bo a]at i;refine a8 j [7,-15,22] a Q4 (g.bR (bW.zero a ?_));exact bw
  |false=>
   rw[t,bj D]at i;refine a8 j [7,-15,-22] a Q4 (g.b4 (b+1) a ?_ a B ⟨by omega,by grind⟩ w);exact bw
 have ap:ep o d=min (d+8) (c o):=by rw[<-i,show 5-b=0 by omega];rfl
 have p:a7 .i64 ((min (d+8) (c o):Nat):Int):=bE;refine a8 j [-7] a bw (g.bs a a ?_);refine b9 j a bE (g.aK (yZ ((min (d+8) (c o):Nat):Int) a a a w p) a a ?_);refine b9 j a B (g.ao a ?_);simp[ap]
abbrev Hc:bH:=ej eG c7 (λa b=>Q (ep a b.toNat)) λa b=>[d6 a=l,0<=b,b<=c a,c a<=4000000]
def adm:bK q 305 Hc:=.bk λg b f=>by
 obtain⟨d,i,j,e⟩:=f;obtain⟨a,rfl⟩:∃a:Nat,b=a:=⟨b.toNat,by omega⟩
 exact Uw g a d w e
abbrev mz(b:bD):m Int:=(TI b).map λa:Nat=>(a:Int)
def Vk(o)(y:d6 o=l)(E:c o<=4000000):Y q 283 [b2 o] [] (az.B (mz o)) []:=by
 refine Y.ab func283 rfl λC=>?_;have i:a_ q [(305,Hc)]:=.cons adm .nil;refine a8 i [903] a B (g.bE 3 3 1 a a ?_);refine b9 i a B (g.aB 1 (λd:Nat×m Int=>d.1<=c o/\c d.2<=d.1/\∃e,c o<=d.1+e/\mz o=d.2++(lj o e d.1).map λz:Nat=>(z:Int)) (λd=>[(0,b2 o),(3,.n (.Q (.x 0 1 (c d.2) (az.fn d.2)))),(4,Q d.1)]) (λd=>[.x 3 1 (c d.2) (az.fn d.2)]) (λd=>c o-d.1) (0,[]) a D a D a ⟨by simp,by simp,c o,by simp,by exact bE⟩ ?_);rintro⟨f,b⟩ ⟨w,u,e,k,s⟩;simp only at w u k s;by_cases j:f<c o
 .obtain⟨e,rfl⟩:∃p,e=p+1:=⟨e-1,by omega⟩
  have x:=rJ o f j;have t:=az.a0 b (ep o f:Int);have r:c b+1=c (b++[(ep o f:Int)]):=D;refine a8 i [9] a ?_ (g.aw (ep o f,b++[(ep o f:Int)]) a ?_ ?_ ?_ ?_)
  .simp only[U,y,show dZ.bytes=8 from a,bz,a',a9];exact fC
  .exact U.Y.2 ⟨a,U.Y.2 ⟨⟨r,t⟩,U.Y.2 ⟨a,B⟩⟩⟩
  .exact U.Y.2 ⟨⟨r,t⟩,B⟩
  .refine⟨x.2.1,by grind,e,by grind,?_⟩;rw[s];simp only[lj,bo j];simp
  grind
 have A:mz o=b:=by
  have:lj o e f=[]:=by cases e<;>simp[lj,j]
  grind
 refine a8 i [-9] a bw (g.az ?_);refine b9 i a B (g.ao a ?_);simp_all
abbrev Hj:bH:=di eG (λa=>az.B (mz a)) λa=>[d6 a=l,c a<=4000000]
def adv:bK q 283 Hj:=.a9 λb a=>Vk b a.1 a.2
def T1{d a}{b:α}(g:d.drop e=b::a)(f:α):e<c d/\d.getD e f=b/\d.drop (e+1)=a:=by grind[List.drop_eq_nil_of_le,List.drop_eq_getElem_cons]
def IO(o):∀a b,c (lj o a b)<=a
 |0,_=>bC _
 |a+1,b=>by
  simp[lj];split
  .have:=IO o a (ep o b);grind
  simp
def Uq(o)(S:d6 o=l)(R:c o<=4000000):Y q 246 [b2 o] [] (bS.B (cn o)) []:=by
 refine Y.ab func246 rfl λW=>?_;have j:a_ q [(283,Hj)]:=.cons adv .nil;have V:c (mz o)<=c o:=by simp[mz,kK];exact IO o _ _
 refine a8 j [902] a B (g.bE 3 9 1 a a ?_);refine b9 j a ds (g.aB 1 (λd:Nat×Nat×m bD=>d.1<=c (mz o)/\d.2.1<=c o/\c d.2.2<=d.1/\∃f,c o<=d.2.1+f/\(mz o).drop d.1=((lj o f d.2.1).map λJ:Nat=>(J:Int))/\cn o=d.2.2++iK o f d.2.1) (λd=>[(0,b2 o),(3,.n (.Q (.x 0 1 (c d.2.2) (bS.fn d.2.2)))),(4,Q d.2.1),(5,az.B (mz o)),(6,Q d.1)]) (λd=>[.x 9 1 (c d.2.2) (bS.fn d.2.2)]) (λd=>c (mz o)-d.1) (0,0,[]) a D a D a ⟨by simp,by simp,by simp,c o,by simp,by exact bE,by simp[cn]⟩ ?_);rintro⟨s,b,e⟩ ⟨p,I,F,f,r,x,w⟩;simp only at p I F r x w;by_cases k:s<c (mz o)
 .have C:lj o f b≠[]:=by grind[List.length_drop]
  obtain⟨f,rfl⟩:∃u,f=u+1:=by
   cases f with
   |zero=>exact bE
   |succ f=>grind
  have i:b<c o:=by
   rcases dY b (c o) with k|k
   .exact k
   exact absurd (by simp[lj,bj (show¬b<c o by omega)]) C
  simp[lj,bo i,kj]at x;obtain⟨_,X,M⟩:=T1 x 0;have K:=rJ o b i;have t:(mz o).getD (s:Int).toNat az.E=(ep o b:Int):=N;have y:mv o (h (b:Int)) (h (ep o b:Int))=(o.drop b).take (ep o b-b):=OH;have E:=bS.a0 e ((o.drop b).take (ep o b-b));have A:c e+1=c (e++[(o.drop b).take (ep o b-b)]):=D;refine a8 j [13] a ?_ (g.aw (s+1,ep o b,e++[(o.drop b).take (ep o b-b)]) a ?_ ?_ ?_ ?_)
  .simp only[U,t,a7,jq,show tf.bytes=16 from a,bz,a',a9];exact fC
  .simp only[U.Y,U,t,y,a',a9];and_intros<;>first|exact A|exact E|simp|omega
  .simp only[U.Y,U,t,y,a',a9];and_intros<;>first|exact A|exact E
  .refine⟨by grind,K.2.1,by grind,f,by grind,M,?_⟩;rw[w];simp only[iK,bo i];simp
  grind
 have T:cn o=e:=by
  have z:lj o f b=[]:=by grind[List.map_eq_nil_iff]
  have i:¬b<c o:=by
   intro O;cases f with
   |zero=>omega
   |succ f=>simp only[lj,bo O]at z;cases z
  rw[w];cases f<;>simp[iK,i]
 refine a8 j [-13] a ds (g.az ?_);refine b9 j a B (g.ao a ?_);simp_all
abbrev xI:bH:=di eG (λa=>bS.B (cn a)) λa=>[d6 a=l,c a<=4000000]
def EQ:bK q 246 xI:=.a9 λb a=>Uq b a.1 a.2
def _root_.Go.AM.c5.e2(e:c5 α)(d)(b g):bs (c d+1+1) (ck (c d+1) (ck (c d) (e.fn d) λa=>[e.a8 b].getD a []) λa=>[e.a8 g].getD a []) (e.fn (d++[b,g])):=by
 have j:=e.a0 d b;have f:=e.a0 (d++[b]) g;rw[show(d++[b]).length=c d+1 by simp,show d++[b]++[g]=d++[b,g] by simp]at f;intro a k;rw[<-f a k];simp[ck];by_cases i:a<c d+1
 .rw[bo i,bo i];exact j a i
 grind
abbrev TN(a:cY):y:=.n (.agg [.c (.int .i64 a.1),.c (.T a.2)])
def jC(d:cY)(a:m cY×Bool)(b:cY):m cY×Bool:=if a.2=l then(a.1++[b],l)else if d.1<b.1 then(a.1++[d,b],l)else(a.1++[b],v)
def MY(b):∀d(a:m cY),(d.foldl (jC b) (a,l))=(a++d,l)
 |[],a=>by simp
 |e::f,a=>by rw[hS,show jC b (a,l) e=(a++[e],l)from rfl,MY b f];simp
def MZ(b):∀f(a:m cY),(if(f.foldl (jC b) (a,v)).2=l then(f.foldl (jC b) (a,v)).1 else(f.foldl (jC b) (a,v)).1++[b])=a++fI f b
 |[],a=>by simp[fI]
 |d::g,a=>by
  rw[hS];by_cases e:b.1<d.1
  .rw[show jC b (a,v) d=(a++[b,d],l) by simp[jC,e],MY];simp[fI,e]
  rw[show jC b (a,v) d=(a++[d],v) by simp[jC,e],MZ b g];simp[fI,e]
theorem M0(b):∀d(a:m cY×Bool),(d.foldl (jC b) a).1.length<=c a.1+c d+1-(if a.2=l then 1 else 0)
 |[],a=>by grind
 |f::e,a=>by rw[hS];have:=M0 b e (jC b a f);unfold jC at this⊢;grind
abbrev mo(d:cY)(b:m cY)(a:Nat):m cY×Bool:=(b.take a).foldl (jC d) ([],v)
def SG{E}{d}(a:e<c d):mo E d (e+1)=jC E (mo E d e) (d.getD e (0,[])):=iq
def Gv(a)(d)(e):(mo a d e).1.length<=c d+1:=by grind[M0]
abbrev aaU(d:m cY)(e:cY)(b:Nat)(a:m cY×Bool):bL:=[(0,bI.B d),(3,aH 0 0),(5,.n (.Q (.x 1 2 (c a.1) (bI.fn a.1)))),(6,bg a.2),(7,Q b)]
abbrev aaT(b:cY)(a:m cY):m aq:=[.cells 170 [.c (.int .i64 b.1),.c (.T b.2)],.x 170 2 (c a) (bI.fn a)]
def XN(d)(E)(y:c d<=4000000):Y q 252 [bI.B d,TN E] [] (bI.B (fI d E)) []:=by
 refine Y.ab func252 rfl λx=>?_;refine bR [902] a B (g.bE 5 170 2 a a ?_);refine cB a B (g.aB 2 (λb=>b<=c d) (λb:Nat=>aaU d E b (mo E d b)) (λb=>aaT E (mo E d b).1) (λb=>c d-b) 0 a ?_ a ?_ a w ?_)
 .simp[mo]
 .simp[mo]
 intro b r;by_cases p:b<c d
 .have j:=SG (E:=E) p;have i:=Gv E d b;have al:d.getD (b:Int).toNat bI.E=d.getD b (0,[]):=N;generalize mo E d b=e at j i;obtain⟨e,m⟩:=e;simp only at i;have f:=bI.a0 e (d.getD b (0,[]));have o:=bI.e2 e E (d.getD b (0,[]));cases m with
  |true=>
   have t:mo E d (b+1)=(e++[d.getD b (0,[])],l):=j;have u:c e+1=c (e++[d.getD b (0,[])]):=D;refine bR [12] a ?_ (g.aw (b+1) a ?_ ?_ ?_ ?_)
   .simp only[U,al,a7,show mF.bytes=24 from a,bz,a',a9];exact fC
   .exact O5
   .exact Pp
   .grind
   omega
  |false=>
   by_cases k:E.1<(d.getD b (0,[])).1
   .have t:mo E d (b+1)=(e++[E,d.getD b (0,[])],l):=by rw[j];simp only[jC,bo k];rfl
    have u:c e+1+1=c (e++[E,d.getD b (0,[])]):=D;refine bR [12,25] a ?_ (g.aw (b+1) a ?_ ?_ ?_ ?_)
    .simp only[U,al,a7,show mF.bytes=24 from a,k,nf,bz,a',a9];exact fC
    .rw[t];simp[U.Y,U,al,a',a9];and_intros<;>first|exact u|exact o|simp|rfl|omega
    .rw[t];simp[U.Y,U,al,a',a9];and_intros<;>first|exact u|exact o|exactλ_ _=>rfl|rfl|omega
    .grind
    omega
   have t:mo E d (b+1)=(e++[d.getD b (0,[])],v):=by rw[j];simp only[jC,bj k];rfl
   have u:c e+1=c (e++[d.getD b (0,[])]):=D;refine bR [12,-25] a ?_ (g.aw (b+1) a ?_ ?_ ?_ ?_)
   .simp only[U,al,a7,show mF.bytes=24 from a,bz,k,o2,qb,dq,a',a9];exact fC
   .exact O5
   .exact Pp
   .grind
   omega
 obtain rfl:b=c d:=w;have O:=MZ E d [];have i:=Gv E d (c d);refine bR [-12] a D (g.az ?_);have s:mo E d (c d)=d.foldl (jC E) ([],v):=N;rw[s]at i⊢;generalize d.foldl (jC E) ([],v)=e at *;obtain⟨e,m⟩:=e;simp only[n7]at O i;cases m with
 |true=>
  exact Qn
 |false=>
  simp only[kh,dn]at O;have f:=bI.a0 e E;refine cB a ?_ (g.ao a ?_)
  .simp only[U,show mF.bytes=24 from a,a',a9];grind
  rw[<-O];simp only[U.Y,U,a',a9];and_intros<;>first|exact f|simp
abbrev HL:bH:=ej (eS bI) sy (λa b=>bI.B (fI a b)) λa _=>[c a<=4000000]
def ad5:bK q 252 HL:=.bk λb d a=>XN b d a
abbrev TR(a:fo):y:=.n (.agg [.c (.int .i64 a.1),.c (.int .i64 a.2)])
def ft(d:fo)(a:m fo×Bool)(b:fo):m fo×Bool:=
 if a.2=l then(if b.1=d.1 then a else(a.1++[b],l))else if d.1<=b.1 then(if b.1=d.1 then(a.1++[d],l)else(a.1++[d,b],l))else(a.1++[b],v)
def zJ(b):∀(f:m fo)a,(f.foldl (ft b) (a,l))=(a++f.filter λi=>!(i.1==b.1),l)
 |[],a=>by simp
 |e::g,a=>by
  rw[hS];by_cases d:e.1=b.1
  .rw[show ft b (a,l) e=(a,l) by simp[ft,d],zJ b g];simp[d]
  rw[show ft b (a,l) e=(a++[e],l) by simp[ft,d],zJ b g];simp[d]
def M1(a):∀f(b:m fo),(if(f.foldl (ft a) (b,v)).2=l then(f.foldl (ft a) (b,v)).1 else(f.foldl (ft a) (b,v)).1++[a])=b++ec f a
 |[],b=>by simp[ec]
 |d::i,b=>by
  rw[hS];by_cases g:a.1<=d.1
  .have t:¬d.1<a.1:=w;by_cases e:d.1=a.1
   .rw[show ft a (b,v) d=(b++[a],l) by simp[ft,e],zJ];simp[ec,e]
   rw[show ft a (b,v) d=(b++[a,d],l) by simp[ft,g,e],zJ];simp[ec,t,e]
  have t:d.1<a.1:=w;rw[show ft a (b,v) d=(b++[d],v) by simp[ft,g],M1 a i];simp[ec,t]
theorem M2(b):∀i(a:m fo×Bool),(i.foldl (ft b) a).1.length<=c a.1+c i+1-(if a.2=l then 1 else 0)
 |[],a=>by grind
 |d::k,a=>by
  rw[hS];have f:=M2 b k (ft b a d);obtain⟨a,j⟩:=a;simp[fe];cases j with
  |true=>
   by_cases e:d.1=b.1
   .rw[show ft b (a,l) d=(a,l) by simp[ft,e]]at f⊢;grind
   rw[show ft b (a,l) d=(a++[d],l) by simp[ft,e]]at f⊢;grind
  |false=>
   by_cases g:b.1<=d.1
   .by_cases e:d.1=b.1
    .rw[show ft b (a,v) d=(a++[b],l) by simp[ft,e]]at f⊢;grind
    rw[show ft b (a,v) d=(a++[b,d],l) by simp[ft,g,e]]at f⊢;grind
   rw[show ft b (a,v) d=(a++[d],v) by simp[ft,g]]at f⊢;grind
abbrev la(d:fo)(b:m fo)(a:Nat):m fo×Bool:=(b.take a).foldl (ft d) ([],v)
def SH{E}{d}(a:e<c d):la E d (e+1)=ft E (la E d e) (d.getD e (0,0)):=iq
def Gw(a)(d)(e):(la a d e).1.length<=c d+1:=by grind[M2]
abbrev aaW(d:m fo)(e:fo)(b:Nat)(a:m fo×Bool):bL:=[(0,ff.B d),(3,aH 0 0),(5,.n (.Q (.x 1 2 (c a.1) (ff.fn a.1)))),(6,bg a.2),(7,Q b)]
abbrev aaV(b:fo)(a:m fo):m aq:=[.cells 300 [.c (.int .i64 b.1),.c (.int .i64 b.2)],.x 300 2 (c a) (ff.fn a)]
def XO(d)(E:fo)(x:c d<=4000000):Y q 251 [ff.B d,TR E] [] (ff.B (ec d E)) []:=by
 refine Y.ab func251 rfl λs=>?_;refine bR [902] a B (g.bE 5 300 2 a a ?_);refine cB a B (g.aB 2 (λb=>b<=c d) (λb:Nat=>aaW d E b (la E d b)) (λb=>aaV E (la E d b).1) (λb=>c d-b) 0 a ?_ a ?_ a w ?_)
 .simp[la]
 .simp[la]
 intro b p;by_cases o:b<c d
 .have f:=SH (E:=E) o;have i:=Gw E d b;have al:d.getD (b:Int).toNat ff.E=d.getD b (0,0):=N;generalize la E d b=e at f i;obtain⟨e,j⟩:=e;simp only at i;have u:=ff.a0 e (d.getD b (0,0));have k:=ff.a0 e E;have m:=ff.e2 e E (d.getD b (0,0));cases j with
  |true=>
   by_cases heq:(d.getD b (0,0)).1=E.1
   .have t:la E d (b+1)=(e,l):=by rw[f];simp only[ft,dw,bo heq]
    refine bR [12,-38] a OT (g.aw (b+1) a Ga Ga N ?_);omega
   have t:la E d (b+1)=(e++[d.getD b (0,0)],l):=by rw[f];simp only[ft,dw,bj heq]
   refine bR [12,38] a OT (g.aw (b+1) a Po Qd N ?_);omega
  |false=>
   by_cases ap:E.1<=(d.getD b (0,0)).1
   .by_cases heq:(d.getD b (0,0)).1=E.1
    .have t:la E d (b+1)=(e++[E],l):=by rw[f];simp only[ft,bo ap,bo heq];rfl
     refine bR [12,25,-38] a FG (g.aw (b+1) a ?_ ?_ ?_ ?_)
     .rw[t];simp only[U.Y,U,al,a',a9];and_intros<;>first|exact u|exact k|simp|simp|rfl|omega|simp
     .rw[t];exact bE
     .grind
     omega
    have t:la E d (b+1)=(e++[E,d.getD b (0,0)],l):=by rw[f];simp only[ft,bo ap,bj heq];rfl
    refine bR [12,25,38] a FG (g.aw (b+1) a ?_ ?_ ?_ ?_)
    .rw[t];simp only[U.Y,U,al,a',a9];and_intros<;>first|exact u|exact k|exact m|simp|rfl|omega|simp
    .rw[t];simp only[U.Y,U,al,a',a9];and_intros<;>first|exact u|exact k|exact m|grind|rfl|omega|simp
    .grind
    omega
   have heq:¬(d.getD b (0,0)).1=E.1:=w;have t:la E d (b+1)=(e++[d.getD b (0,0)],v):=by rw[f];simp only[ft,bj ap];rfl
   refine bR [12,-25,38] a FG (g.aw (b+1) a Po Qd N ?_);omega
 obtain rfl:b=c d:=w;have O:=M1 E d [];have i:=Gw E d (c d);refine bR [-12] a D (g.az ?_);have r:la E d (c d)=d.foldl (ft E) ([],v):=N;rw[r]at i⊢;generalize d.foldl (ft E) ([],v)=e at *;obtain⟨e,j⟩:=e;simp only[n7]at O i;cases j with
 |true=>
  exact Qn
 |false=>
  simp only[kh,dn]at O;have u:=ff.a0 e E;refine cB a ?_ (g.ao a ?_)
  .simp only[U,show pk.bytes=16 from a,a',a9];grind
  rw[<-O];simp only[U.Y,U,a',a9];and_intros<;>first|exact u|simp
abbrev HM:bH:=ej (eS ff) sx (λa b=>ff.B (ec a b)) λa _=>[c a<=4000000]
def ad6:bK q 251 HM:=.bk λb d a=>XO b d a
abbrev EF(a:b4):m fo:=a.2.map λb=>(b.1,a.1)
def hr(b:m b4)(a d:Nat):m fo:=dD (b.take a)++(EF (b.getD a (0,[]))).take d
def EG{d}(a:e<c d):dD (d.take (e+1))=dD (d.take e)++EF (d.getD e (0,[])):=by rw[h4 a (0,[])];simp[dD]
theorem MU(d)(e):c (dD (d.take e))<=c (dD d):=by have a:dD d=dD (d.take e)++dD (d.drop e):=Sg;grind
def zG{d}(b:e<c d):∃f,dD d=hr d e u++f:=by have a:dD d=dD (d.take (e+1))++dD (d.drop (e+1)):=Sg;refine⟨(EF (d.getD e (0,[]))).drop u++dD (d.drop (e+1)),?_⟩;rw[a,EG b,hr,k_,k_];grind[List.take_append_drop]
theorem abv(d)(a):c (ec d a)<=c d+1:=by
 induction d with
 |nil=>simp[ec]
 |cons f e b=>
  simp only[ec];grind
theorem C_(d):∀a:m fo,c (d.foldl ec a)<=c a+c d:=by
 induction d with
 |nil=>grind
 |cons f e b=>grind[abv]
def V9(d)(J:c d<=4000000)(I:c (dD d)<=100000):Y q 191 [a1.B d] [] (ff.B (eD d)) []:=by
 refine Y.ab func191 rfl λK=>?_;have e:a_ q [(250,HR),(251,HM)]:=.cons aea (.cons ad6 .nil);refine cU e a B (g.aB 0 (λb=>b<=c d/\(dD (d.take b)).all f'=l) (λb:Nat=>[(0,a1.B d),(3,ff.B ((dD (d.take b)).foldl ec [])),(4,Q b)]) (λ_=>[]) (λb=>c d-b) 0 a ?_ a ?_ a ⟨by omega,a⟩ ?_)
 .simp[dD]
 .simp
 rintro b ⟨r,j⟩;by_cases k:b<c d
 .have f:d.getD (b:Int).toNat a1.E=d.getD b (0,[]):=N;have p:=EG k;refine bf e [11] a bw (g.aB 0 (λu=>u<=(d.getD b (0,[])).2.length/\(hr d b u).all f'=l) (λu:Nat=>[(0,a1.B d),(3,ff.B ((hr d b u).foldl ec [])),(4,Q b),(5,Q u)]) (λ_=>[]) (λu=>(d.getD b (0,[])).2.length-u) 0 a ?_ a ?_ a ⟨by omega,by simpa[hr]using j⟩ ?_)
  .simp[hr]
  .simp
  rintro u ⟨O,C⟩;obtain⟨y,x⟩:=zG (d:=d) (u:=u) k;have A:c (hr d b u)<=100000:=N;have t:=C_ (hr d b u) [];simp only[gO]at t;have E:(d.getD b (0,[])).2.length<=100000:=by grind[MU]
  by_cases M:u<(d.getD b (0,[])).2.length
  .have i:(d.getD b (0,[])).2.getD (u:Int).toNat bI.E=(d.getD b (0,[])).2.getD u (0,[]):=N;have s:hr d b (u+1)=hr d b u++[(((d.getD b (0,[])).2.getD u (0,[])).1,(d.getD b (0,[])).1)]:=RX;cases m:f' (((d.getD b (0,[])).2.getD u (0,[])).1,(d.getD b (0,[])).1)with
   |false=>
    have z:eD d=[]:=by obtain⟨y,x⟩:=zG (d:=d) (u:=u+1) k;unfold eD;rw[bj];grind
    refine bf e [21,-40] a ?_ (g.aS (bW.zero a ?_))
    .simp only[U,f,i,m,bz,a',a9];exact fC
    rw[z];simp
   |true=>
    refine bf e [21,40] a ?_ (g.aw (u+1) a ?_ ?_ ?_ ?_)
    .simp only[U,f,i,m,a7,ff.l,bz,a',a9];and_intros<;>first|exact ff.J _|omega
    .rw[s];simp only[uK,hS,List.foldl_nil,U.Y,U,f,i,ff.l,a',a9];and_intros<;>first|simp|rfl|omega
    .simp
    .grind
    omega
  have F:u=(d.getD b (0,[])).2.length:=w;have o:hr d b u=dD (d.take (b+1)):=by rw[p,hr];grind[List.length_map]
  refine bf e [-21] a ?_ (g.az ?_)
  .simp only[U,f,dq];exact fC
  refine cU e a bE (g.aw (b+1) a ?_ ?_ ?_ ?_)
  .rw[o];simp
  .simp
  .grind
  omega
 obtain rfl:b=c d:=w;rw[c0]at j⊢;refine bf e [-11] a D (g.az ?_);refine cU e a B (g.ao a ?_);simp[eD,j]
abbrev Hn:bH:=di (eS a1) (λa=>ff.B (eD a)) λa=>[c a<=4000000,c (dD a)<=100000]
def adD:bK q 191 Hn:=.a9 λb a=>V9 b a.1 a.2
abbrev xO:bH:=ej c7 eG (λa b=>Q (d8 a b)) λa b=>[cm a=l,cD b=l]
abbrev BV:bH:=di eG (λa=>b2 (fN a)) λa=>[cD a=l]
def Nl:bK q 253 BV:=.a9 λb a=>XC b a
theorem abp(d)(b):c (fI d b)=c d+1:=by
 induction d with
 |nil=>simp[fI]
 |cons f e a=>simp only[fI];split<;>simp[a]
def ig(d:Int)(a:m bD):m cY:=a.foldl (λe b=>fI e (d8 d b,fN b)) []
def DJ(f)(Z):c (ig f Z)=c Z:=by
 have d:∀Z b,c (Z.foldl (λe a=>fI e (d8 f a,fN a)) b)=c b+c Z:=by
  intro Z;induction Z with
  |nil=>grind
  |cons a i g=>grind[abp]
 have:=d Z [];rw[gO,cZ]at this;exact this
def aax{Z}(a:e<c Z):ig f (Z.take (e+1))=fI (ig f (Z.take e)) (d8 f (Z.getD e []),fN (Z.getD e [])):=by unfold ig;grind[h4]
abbrev aba(a:Int)(b:m cY):aq:=.cells 119 [.c (.int .i64 a),.c (.B v 2 (c b) (bI.fn b))]
def W4(bO f)(Z)(e:cm f=l)(m:∀t∈Z,cD t=l)(y:c Z<=4000000):Y q 192 [Q bO,Q f,bS.B Z] [] (fM (j0 bO f Z)) []:=by
 refine Y.bg bc func192 rfl rfl rfl λx=>?_;have d:a_ q [(248,xO),(253,BV),(252,HL)]:=.cons zM (.cons Nl (.cons ad5 .nil));refine cU d a B (g.aB 2 (λb=>b<=c Z) (λb:Nat=>[(1,Q f),(2,bS.B Z),(6,aH 0 0),(7,aH 1 0),(8,Q b)]) (λb=>[.cells 119 [.c (.int .i64 0),.c (.B l 0 0 λ_=>[])],aba bO (ig f (Z.take b))]) (λb=>c Z-b) 0 a D a ?_ a w ?_)
 .simp[ig]
 intro b p;by_cases o:b<c Z
 .have i:Z.getD (b:Int).toNat bS.E=Z.getD b []:=N;have j:cD (Z.getD b [])=l:=m _ N;have r:=aax (f:=f) o;have k:=DJ f (Z.take b);rw[List.length_take]at k;refine bf d [15] a ?_ (g.aw (b+1) a ?_ ?_ ?_ ?_)
  .simp only[U,i,e,j,a7,bI.l,bz,a',a9];and_intros<;>first|exact bI.J _|omega
  .simp
  .rw[r];simp only[U.Y,U,i,bI.l,a',a9];and_intros<;>first|simp|rfl|omega
  .grind
  omega
 obtain rfl:b=c Z:=w;rw[c0];refine bf d [-15] a D (g.az ?_);refine cU d a B (g.bf () [] ?_ (λu s=>absurd s D));simp[j0,ig]
def XK(b):Y q 306 [b2 b] [] (bg (cD b)) []:=by
 refine Y.ab func306 rfl λf=>?_;have e:a_ q [(44,kN),(121,xF)]:=.cons lA (.cons M' .nil);by_cases d:1<=c b/\c b<=8
 .refine a8 e [6] a bM (g.ao a ?_);simp[cD,d.1,d.2]
 refine a8 e [-6] a bM (g.ao a ?_);have:cD b=v:=by simp[cD,<-Bool.decide_and,n4 d,sH]
 simp[this]
abbrev HI:bH:=di eG (λa=>bg (cD a)) λ_=>[]
def ad0:bK q 306 HI:=.a9 λa _=>XK a
def XB(a):Y q 286 [b2 a] [] (b2 (fN a)) []:=by
 refine Y.ab func286 rfl λd=>?_;have b:a_ q [(306,HI),(253,BV)]:=.cons ad0 (.cons Nl .nil);cases s:cD a with
 |true=>exact a8 b [-5] rfl ha (g.ao rfl)
 |false=>exact a8 b [5] rfl ha (g.ao rfl (by simp[fN,s]))
abbrev HG:bH:=di eG (λa=>b2 (fN a)) λ_=>[]
def adY:bK q 286 HG:=.a9 λa _=>XB a
def aa4(b):c (fN b)<=8:=by
 unfold fN;split
 .rename_i a;simp[cD,cp,bz]at a;grind[H4]
 simp
def Xz(i):Y q 254 [b2 i] [] (i1 (hM i)) []:=by
 refine Y.ab func254 rfl λz=>?_;have C:=z.T 0 a;have p:a_ q [(286,HG)]:=.cons adY .nil;refine aQ a B ?_;have fin:∀j,j<=c i->fu (i.take j)=fu i->(j=0∨fu (i.take j)=i.take j)->i.take j=fu i:=λj d u o=>by
  rcases o with rfl|o
  .exact bE
  grind
 have e:∀j,j<=c i->i.take j=fu i->hM i=if c i<=8/\fN (fu i)=i/\j≠0 then h (i.take j)else n:=λj d u=>by
  have E:=aa4 (fu i);have r:j=0↔fu i=[]:=by grind[List.take_eq_nil_iff]
  unfold hM;rw[u];by_cases O:fN (fu i)=i
  .by_cases f:cD (fu i)=l
   .have:j≠0:=λx=>by rw[r.1 x]at f;cases f
    grind
   have x:j=0:=r.2 (by rw[fN,bj f]at O;grind);grind
  grind
 refine g.ck (S2:=Nat) 0 a a (λj=>j<=c i/\i.take j=fu i) (λj=>[(0,b2 i),(4,Q j)]) (λ_=>[]) 0 (λj=>j<=c i/\fu (i.take j)=fu i) (λj:Nat=>[(0,b2 i),(4,Q j)]) (λ_=>[]) (λj=>j) (c i) a D a B a ⟨by omega,by simp⟩ ?_ ?_
 .rintro dx j ⟨d,t⟩;rcases j with _|j
  .refine a3 [-9,-15] a D (g.az ?_);exact dx 0 ⟨d,fin 0 d t (.inl a)⟩ a D a B
  have r:=M5 (b:=i) (j:=j) w;have al:((j:Int)+1-1).toNat=j:=w;by_cases o:i.getD j 0=46
  .refine a3 [9,15] a ?_ (g.aw j a ?_ B ⟨by omega,?_⟩ w)
   .have O:dr i j=46:=by unfold dr;exact bE
    exact PW
   .simp
   grind
  refine a3 [9,-15] a ?_ (g.az ?_)
  .have O:dr i j≠46:=by unfold dr;intro A;exact o (uH.1 N)
   exact PW
  exact dx (j+1) ⟨d,fin _ d t (.inr N)⟩ a D a B
 rintro j ⟨d,y⟩;have F:=e j d y;have s:mv i n (h (j:Int))=fu i:=y▸rfl;have m:((c i:Int)<=8)↔c i<=8:=w;by_cases k:c i<=8
 .by_cases iV:fN (fu i)=i
  .by_cases jR:j=0
   .refine a8 p [-21,-29,32] a ?_ (g.ao a ?_)
    .subst jR;simp[U,s,iV];grind
    exact bE
   refine a8 p [-21,-29,-32] a ?_ (g.ao a ?_)
   .simp[s,m,k,iV,jR,d]
   exact bE
  refine a8 p [-21,29,32] a ?_ (g.ao a ?_)
  .simp[s,m,k,iV,d]
  exact bE
 refine a8 p [21,29,32] a bM (g.ao a ?_);exact bE
abbrev BU:bH:=di eG (λa=>i1 (hM a)) λ_=>[]
def Nk:bK q 254 BU:=.a9 λa _=>Xz a
def XT(f)(b)(a:cm f=l):Y q 195 [Q f,Cp b] [] (bg (right f b)) []:=by
 refine Y.ab func195 rfl λe=>?_;have d:a_ q [(254,BU),(248,xO)]:=.cons Nk (.cons zM .nil);cases x:hM b.2 with
 |none=>exact a8 d [-14] rfl nU (g.ao rfl (by simp[right,x]))
 |some i=>exact a8 d [14] rfl (by simp[x,a,LD x]) (g.ao rfl (by simp[right,x]))
abbrev BW:bH:=ej c7 sy (λa b=>bg (right a b)) λa _=>[cm a=l]
def Nm:bK q 195 BW:=.bk λb d a=>XT b d a
def Wn(f):Y q 43 [Q f] [] (bg (cm f)) []:=by refine Y.ab func43 rfl λd=>?_;have b:a_ q [(44,kN)]:=.cons lA .nil;exact b9 b a B (g.ao a (by simp[cm]))
abbrev rD:bH:=di c7 (λa=>bg (cm a)) λ_=>[]
def tX:bK q 43 rD:=.a9 λa _=>Wn a
abbrev xL(a:b4):aq:=.cells 119 [.c (.int .i64 a.1),.c (ly a)]
def Xt(f)(b)(j):Y q 287 [Q f,fM b,Q j] [] (i1 (fX f b j)) []:=by
 refine Y.ab func287 rfl λu=>?_;have i:a_ q [(43,rD),(195,BW),(254,BU)]:=.cons tX (.cons Nm (.cons Nk .nil));cases b3:cm f with
 |false=>
  refine a8 i [11] a mc (g.ao a ?_);have:fX f b j=n:=by unfold fX iW;grind
  simp[this]
 |true=>
 have x:=u.fY 1 a 1 a;refine a8 i [-11] a mc (g.aB 1 (λd=>d<=c b.2/\b.2.find? (λE=>E.1==j)=(b.2.drop d).find? (λE=>E.1==j)) (λd:Nat=>[(0,Q f),(4,aH 0 0),(2,Q j),(8,Q d)]) (λ_=>[xL b]) (λd=>c b.2-d) 0 a D a D a ⟨by omega,a⟩ ?_);rintro d ⟨t,e⟩;by_cases p:d<c b.2
 .have A:b.2.getD d bI.E=eb b d:=rfl;have r:b.2.drop d=eb b d::b.2.drop (d+1):=F2;rw[r,List.find?_cons]at e;by_cases m:(eb b d).1=j
  .rw[show((eb b d).1==j)=l by grind]at e;cases k:right f (eb b d)with
   |false=>
    have s:right f (j,(eb b d).2)=v:=m▸k;refine a8 i [16,26,34] a ds (g.aS (bW.zero a ?_));have o:fX f b j=n:=by have:=B8 (f:=f) (E:=eb b d) b3;rw[k]at this;simp[fX,e];simp_all
    simp[o]
   |true=>
    have s:right f (j,(eb b d).2)=l:=m▸k;refine a8 i [16,26,-34] a ds (g.aS (bW.zero a ?_));have o:fX f b j=hM (eb b d).2:=by simp[fX,e,iW];unfold right at k;grind
    simp_all
  rw[show((eb b d).1==j)=v by grind]at e;refine a8 i [16,-26] a ?_ (g.aw (d+1) a D D ⟨p,e⟩ w);simp[-aj,A,m,a7,p];omega
 obtain rfl:d=c b.2:=w;refine a8 i [-16] a D (g.az ?_);refine b9 i a B (g.ao a ?_);simp[fX,e]
abbrev HJ:bH:=jS c7 (jI bI) c7 (λa d b=>i1 (fX a d b)) λ_ _ _=>[]
def ad3:bK q 287 HJ:=.cM λa d b _=>Xt a d b
theorem D3(b:Int)(a:b4):ij b a=(decide (1<=a.1/\a.1<=99)&&cm b&&decide (1<=c a.2/\c a.2<=4)&&(aA (c a.2)).all (io b a)):=by grind[D2]
def acM{S:b4}(a:e≠0):io f S e=(right f (eb S e)&&decide ((eb S (e-1)).1<(eb S e).1)):=by unfold io;grind
def Xw(f:Int)(S:b4):Y q 129 [Q f,fM S] [] (bg (ij f S)) []:=by
 refine Y.ab func129 rfl λu=>?_;have d:a_ q [(44,kN),(43,rD),(195,BW)]:=.cons lA (.cons tX (.cons Nm .nil));have y:=u.fY 1 a 1 a;rw[D3];by_cases j:1<=S.1/\S.1<=99
 rotate_left
 .exact a8 d [10,14,21] a bM (g.ao a bE)
 cases e:cm f
 .exact a8 d [-10,14,21] a ds (g.ao a)
 by_cases k:1<=c S.2/\c S.2<=4
 rotate_left
 .exact a8 d [-10,-14,21] a bE (g.ao a bw)
 refine a8 d [-10,-14,-21] a lO ?_;rw[fA j,fA k,fV,fV,fV];refine g.aB 1 (λb=>b<=c S.2/\∀r,r<b->io f S r=l) (λb:Nat=>[(0,Q f),(3,aH 0 0),(5,Q b)]) (λ_=>[xL S]) (λb=>c S.2-b) 0 a D a D a ⟨by omega,by omega⟩ ?_;rintro b ⟨t,m⟩;by_cases s:b<c S.2
 .have C:S.2.getD b bI.E=eb S b:=rfl;cases i:right f (eb S b)with
  |false=>
   refine a8 d [26,37,56] a ds (g.aS (bW.zero a ?_));rw[lM s (by simp only[io,i,sH])];simp
  |true=>
   by_cases p:b=0
   .subst p;refine a8 d [26,-37,-40,-56] a ?_ (g.aw 1 a D D ⟨s,jn m (by simp only[io,i,fV];rfl)⟩ w);exact lO
   have o:S.2.getD (b-1) bI.E=eb S (b-1):=rfl;have z:=acM (f:=f) (S:=S) p;by_cases x:(eb S (b-1)).1<(eb S b).1
   .refine a8 d [26,-37,40,-54,-56] a ?_ (g.aw (b+1) a D D ⟨s,jn m N⟩ w);simp[-aj,C,o,i,e,s,x,a7];omega
   refine a8 d [26,-37,40,54,56] a ?_ (g.aS (bW.zero a ?_))
   .simp[-aj,C,o,i,e,s,a7];omega
   exact j9
 obtain rfl:b=c S.2:=w;refine a8 d [-26] a D (g.az ?_);exact b9 d a B (g.ao a bw)
abbrev HF:bH:=ej c7 (jI bI) (λa b=>bg (ij a b)) λ_ _=>[]
def adV:bK q 129 HF:=.bk λa b _=>Xw a b
def oo{a:m α}{O:α}(b:e<c a):a.getD e O∈a:=N
def Zp{a:m Int}{b:Int}:a.contains b=!(aA (c a)).all λd=>!(a.getD d 0==b):=by rw[o4,iT,<-p9,gd,AX];grind[List.mem_iff_getElem]
def VE(d:m Int)(e:Int):Y q 79 [az.B d,Q e] [] (bg (d.contains e)) []:=by
 refine Y.ab func79 rfl λk=>?_;have p:=k.B 0 a;refine aQ a B ?_;rw[Zp];refine g.b7 (λb=>b<=c d/\∀i,i<b->(!(d.getD i 0==e))=l) (λb:Nat=>[(0,az.B d),(1,Q e),(5,Q b)]) (λ_=>[]) (λb=>c d-b) 0 a D a B ⟨by omega,by omega⟩ ?_;rintro b ⟨o,j⟩;by_cases s:b<c d
 .have t:d.getD b az.E=d.getD b 0:=rfl;by_cases f:d.getD b 0=e
  .refine a3 [9,17] a ?_ (g.bR (bW.zero a ?_))
   .simp[-aj,t,f,s]
   exact j9
  refine a3 [9,-17] a ?_ (g.b4 (b+1) a D a B ⟨s,jn j N⟩ w);simp[-aj,t,f,s,a7];omega
 obtain rfl:b=c d:=w;refine a3 [-9] a D (g.bs a a ?_);exact aQ a B (g.ao a ds)
abbrev u5:bH:=ej (eS az) c7 (λa b=>bg (a.contains b)) λ_ _=>[]
def zL:bK q 79 u5:=.bk λa b _=>VE a b
def XI(e:Int)(b:m b4)(f:Int):Y q 255 [Q e,a1.B b,Q f] [] (i1 (dd e b f)) []:=by
 refine Y.ab func255 rfl λr=>?_;have u:=r.B 1 a;have k:a_ q [(287,HJ)]:=.cons ad3 .nil;refine b9 k a B (g.b7 (λd=>d<=c b/\dd e b f=dd e (b.drop d) f) (λd:Nat=>[(0,Q e),(1,a1.B b),(2,Q f),(8,Q d)]) (λ_=>[]) (λd=>c b-d) 0 a D a B ⟨by omega,a⟩ ?_);rintro d ⟨s,i⟩;by_cases o:d<c b
 .have t:b.drop d=b.getD d (0,[])::b.drop (d+1):=F2;have p:((b.getD d a1.E).1,bI.ad (b.getD d a1.E).2.length (bI.fn (b.getD d a1.E).2))=b.getD d (0,[]):=bE;rw[t,show dd e (b.getD d (0,[])::b.drop (d+1)) f=_ from List.findSome?_cons]at i;cases j:fX e (b.getD d (0,[])) f with
  |some x=>
   rw[j]at i;refine a8 k [14,27] a ?_ (g.bR (bW.zero a ?_))
   .simp[-aj,p,j,o,bI.J]
   simp_all
  |none=>
   rw[j]at i;refine a8 k [14,-27] a ?_ (g.b4 (d+1) a D a B ⟨o,i⟩ w);simp[-aj,p,j,o,a7,bI.J];omega
 obtain rfl:d=c b:=w;refine a3 [-14] a D (g.bs a a ?_);exact aQ a B (g.ao a (by rw[i,uL];simp[dd]))
abbrev HH:bH:=jS c7 (eS a1) c7 (λb a d=>i1 (dd b a d)) λ_ _ _=>[]
def adZ:bK q 255 HH:=.cM λb a d _=>XI b a d
def XU(x i):Y q 288 [bS.B x,bS.B i] [] (bg (x==i)) []:=by
 refine Y.ab func288 rfl λk=>?_;have t:=k.B 0 a;by_cases r:c x=c i
 rotate_left
 .have:(x==i)=v:=eN.2 N;exact a3 [10] a bM (g.ao a (by simp[this]))
 refine a3 [-10] a bM (g.b7 (λb=>b<=c x/\∀d,d<b->x.getD d []=i.getD d []) (λb:Nat=>[(0,bS.B x),(1,bS.B i),(5,Q b)]) (λ_=>[]) (λb=>c x-b) 0 a D a B ⟨by omega,by omega⟩ ?_);rintro b ⟨p,s⟩;by_cases o:b<c x
 .have f:∀j:m bD,j.getD b bS.E=j.getD b []:=λ_=>rfl;by_cases e:x.getD b []=i.getD b []
  .refine a3 [14,-25] a ?_ (g.b4 (b+1) a D a B ⟨o,λd u=>?_⟩ w)
   .simp[-aj,f,e,a7];omega
   grind
  refine a3 [14,25] a ?_ (g.bR (bW.zero a ?_))
  .simp[-aj,f,e];omega
  exact Fw
 obtain rfl:b=c x:=w;have:x=i:=ru r λd e y=>by grind
 refine a3 [-14] a D (g.bs a a ?_);exact aQ a B (g.ao a (by simp[this]))
def ad9:bK q 288 xK:=.bk λa b _=>XU a b
def LM(o):∀d e b,b∈iK o d e->c b<=8
 |0,_,b,a=>by exact bE
 |d+1,e,b,a=>by
  simp only[iK]at a;split at a
  .rename_i f;rcases eT.1 a with rfl|a
   .grind [rJ]
   exact LM o d _ b a
  grind
def TK{d}{a}(e:a∈d)(f:8<c a):iY d=n:=by unfold iY;rw[bj];intro b;simp[cp,gl]at b;have:=LM d.flatten (c d.flatten) 0 a (by rw[show iK d.flatten (c d.flatten) 0=d from b.2];exact e);omega
def Za(a:m bD)(e):(a.take e).flatten.length<=c a.flatten:=F6
def TJ{d:m bD}(b:40<(d.take e).flatten.length):iY d=n:=by have:=Za d e;unfold iY;rw[bj];intro a;simp only[cp,fO,bz]at a;omega
def Wl(d):Y q 256 [bS.B d] [] (i1 (iY d)) []:=by
 refine Y.ab func256 rfl λp=>?_;have r:=p.B 0 a;have b:a_ q [(72,xG),(246,xI),(288,xK)]:=.cons t72 (.cons EQ (.cons ad9 .nil));refine b9 b a B (g.b7 (λe=>e<=c d/\(d.take e).flatten.length<=48) (λe:Nat=>[(0,bS.B d),(4,b2 (d.take e).flatten),(5,Q e)]) (λ_=>[]) (λe=>c d-e) 0 a D a B ⟨by omega,by simp⟩ ?_);rintro e ⟨o,k⟩;by_cases j:e<c d
 .have i:d.getD e bS.E=d.getD e []:=rfl;have u:(d.take (e+1)).flatten=(d.take e).flatten++d.getD e []:=iq;by_cases f:c (d.getD e [])<=8
  .by_cases t:(d.take e).flatten.length<=40
   .refine a8 b [9,-18,-22] a ?_ (g.b4 (e+1) a ?_ a B ⟨j,by grind⟩ w)
    .simp[-aj,-List.length_flatten,i,a7];omega
    simp_all
   refine a8 b [9,-18,22] a ?_ (g.bR (bW.zero a ?_))
   .simp[-aj,-List.length_flatten,i];omega
   simp[TJ (d:=d) (e:=e) w]
  refine a8 b [9,18,22] a ?_ (g.bR (bW.zero a ?_))
  .simp[-aj,i];omega
  simp[U,U.Y,TK (oo (O:=[]) j) w]
 obtain rfl:e=c d:=w;rw[c0]at k⊢;refine a8 b [-9] a D (g.bs a a ?_);have m:=bS.l d;cases f:fO d.flatten with
 |false=>exact a8 b [32,38] rfl (by simp[f]) (g.ao rfl (by simp[iY,f]))
 |true=>
  have s:d6 d.flatten=l:=by simp[fO,cp]at f;exact f.2
  cases t:(cn d.flatten==d)with
  |false=>
   refine a8 b [-32,38] a ?_ (g.ao a (by simp[iY,t]));exact bE
  |true=>
   refine a8 b [-32,-38] a ?_ (g.ao a (by simp[iY,f,t]));exact bE
abbrev Hq:bH:=di (eS bS) (λa=>i1 (iY a)) λ_=>[]
def adH:bK q 256 Hq:=.a9 λa _=>Wl a
abbrev zD(a:dF):aq:=.cells 50 [.c (.int .i64 a.1),.c (.B v 2 (c a.2) (cx.fn a.2))]
abbrev nx(d:Int)(b:m b4)(a:m Int):m bD:=a.map λe=>(dd d b e).getD []
def Zo{Z}{a}(b:u<c a):nx f Z (a.take (u+1))=nx f Z (a.take u)++[(dd f Z (a.getD u 0)).getD []]:=iq
def Y3{Z}{a}(d:u<c a)(b:dd f Z (a.getD u 0)=n):gD f Z a=n:=On
def Y4{Z}{a}(d:∀b,b<c a->(dd f Z (a.getD b 0)).isSome=l):gD f Z a=h (nx f Z a):=by unfold gD;rw[bo];grind[List.mem_iff_getElem]
def Yd(f)(b)(Z)(ab:c b.2<=4000000)(T:∀e∈b.2,c e.2<=4000000):
  Y q 196 [Q f,i2 b,a1.B Z] [] (oO ((dU f b Z).getD []) (dU f b Z).isSome) []:=by
 refine Y.ab func196 rfl λH=>?_;have o:a_ q [(43,rD),(255,HH),(256,Hq),(45,sU)]:=.cons tX (.cons adZ (.cons adH (.cons t45 .nil)));cases b3:cm f with
 |false=>
  refine a8 o [19] a mc (g.ao a ?_);simp[dU,b3]
 |true=>
 refine a8 o [-19,904] a mc (g.bE 8 81 2 a a ?_);refine b9 o a B (g.aB 2 (λm=>m<=c b.2/\∀k,k<m->(fG f Z (b.2.getD k ([],[]))).isSome=l) (λm:Nat=>[(0,Q f),(2,a1.B Z),(4,aH 0 0),(8,.n (.Q (.x 1 2 (c (fq f Z (b.2.take m))) (bu.fn (fq f Z (b.2.take m)))))),(9,Q m)]) (λm=>[zD b,.x 81 2 (c (fq f Z (b.2.take m))) (bu.fn (fq f Z (b.2.take m)))]) (λm=>c b.2-m) 0 a z1 a z1 a ⟨by omega,by omega⟩ ?_);rintro m ⟨V,M⟩;by_cases u:m<c b.2
 .have F:=T _ (oo (O:=([],[])) u);have al:=CZ (f:=f) (Z:=Z) u;have X:c (fq f Z (b.2.take m))=m:=by simp[fq];omega
  have i:b.2.getD (m:Int).toNat cx.E=b.2.getD m ([],[]):=N;have C:=EA (f:=f) (Z:=Z) u;generalize y:b.2.getD m ([],[])=e at F al i C;generalize fq f Z (b.2.take m)=p at *;refine a8 o [25,908] a bM (g.bE 10 9 1 a a ?_);refine b9 o a B (g.aB 3 (λk=>k<=c e.2/\∀x,x<k->(dd f Z (e.2.getD x 0)).isSome=l) (λk:Nat=>[(0,Q f),(2,a1.B Z),(4,aH 0 0),(8,.n (.Q (.x 1 2 (c p) (bu.fn p)))),(9,Q m),(10,.n (.Q (.x 2 1 (c (nx f Z (e.2.take k))) (bS.fn (nx f Z (e.2.take k)))))),(11,Q k)]) (λk=>[zD b,.x 81 2 (c p) (bu.fn p),.x 9 1 (c (nx f Z (e.2.take k))) (bS.fn (nx f Z (e.2.take k)))]) (λk=>c e.2-k) 0 a D a D a ⟨by omega,by omega⟩ ?_);rintro k ⟨ae,aa⟩;by_cases E:k<c e.2
  .have t:e.2.getD (k:Int).toNat az.E=e.2.getD k 0:=N;cases A:dd f Z (e.2.getD k 0)with
   |none=>
    have s:fG f Z e=n:=by simp[fG,Y3 E A]
    refine a8 o [37,56] a ?_ (g.aS (g.dJ (bW.zero a ?_)))
    .simp only[U,i,t,A,a1.l,a1.J];grind
    rw[C s];simp
   |some x=>
    have d:=Zo (f:=f) (Z:=Z) E;rw[A]at d;have K:c (nx f Z (e.2.take k))=k:=N;have r:=bS.a0 (nx f Z (e.2.take k)) x;refine a8 o [37,-56] a ?_ (g.aw (k+1) a ?_ ?_ ⟨E,λW S=>?_⟩ w)
    .simp only[U,i,t,A,a1.l,a1.J,K,a7,show tf.bytes=16 from a];grind
    .exact RO
    .exact RO
    grind
  obtain rfl:k=c e.2:=w;have I:=Y4 aa;rw[c0];have K:c (nx f Z e.2)=c e.2:=D;refine a8 o [-37] a (by simp only[U,i];simp[u]) (g.az ?_);cases j:iY (nx f Z e.2)with
  |none=>
   have s:fG f Z e=n:=by simp[fG,I,j]
   refine a8 o [68] a ?_ (g.aS (bW.zero a ?_))
   .simp only[U,bS.l,bS.J,j];simp
   rw[C s];simp
  |some J=>
   have s:fG f Z e=h (e.1,J):=by simp[fG,I,j]
   rw[s]at al;have R:=bu.a0 p (e.1,J);refine a8 o [-68] a ?_ (g.aw (m+1) a ?_ ?_ ⟨u,λW S=>?_⟩ w)
   .simp only[U,i,bS.l,bS.J,j,X,a7,show rS.bytes=32 from a];grind
   .exact OK
   .exact OK
   grind
 obtain rfl:m=c b.2:=w;rw[c0];have G:b.2.all (λe=>(fG f Z e).isSome)=l:=aW.2 λe F=>by grind[List.mem_iff_getElem]
 refine a8 o [-25] a D (g.az ?_);cases z:dO (fq f Z b.2)with
 |false=>
  refine a8 o [83] a ?_ (g.ao a ?_)
  .simp[bu.l,bu.J,z]
  simp[dU,z]
 |true=>
  refine a8 o [-83] a ?_ (g.ao a ?_)
  .simp[bu.l,bu.J,z]
  simp[dU,z,b3,G]
abbrev HQ:bH:=jS c7 (jI cx) (eS a1) (λd b a=>oO ((dU d b a).getD []) (dU d b a).isSome) λ_ b _=>[c b.2<=4000000,∀e∈b.2,c e.2<=4000000]
def ad':bK q 196 HQ:=.cM λd e a b=>Yd d e a b.1 b.2
end
end R1
end Go.AM
