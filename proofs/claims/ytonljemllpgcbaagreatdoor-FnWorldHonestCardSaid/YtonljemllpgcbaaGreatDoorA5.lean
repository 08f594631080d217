/- Part 5. No condition. -/
import Derived.Test.YtonljemllpgcbaaGreatDoorA4
import Derived.Conc.CrowdComm
import Derived.Conc.SmallLaws
import Derived.Conc.EventLaws
set_option linter.all false
set_option maxHeartbeats 8000000
open Go.Proofs
open Go.Proofs.Tryz
open List renaming length → c, range → az, getD_eq_getElem?_getD → aj, all_eq_true → aX
open Go renaming Value → X, TypeId → al, World → ar, Frame → aG, execOp → ab, Operand → ae, Program → aE, Goroutine → ai, Oper → ao
open Option renaming some → f, none → n
open Bool renaming true → l, false → v
open Nat renaming beq → ad, ble → ay
open Go.Proofs.Tryz renaming prog → V
namespace Go.AM
variable {j z:Nat}{h:Int}{d i e t:Nat}{W:al}{H:X->(Nat->Option Obj)->Prop}{L:Array Bool}{bz:Mem}{E:Nat}{P:aE}{br:ai->a6->Prop}{r:Code}{B:ai}{q:ao}{b:a6}{o:al}{aa:X}{α:Type}{η:ae->x}{ι:Type}{k:m ap}{F:bJ}{all:m ao}{ds:Array al}{cap:m K}{cQ:m x}{k5:Nat->Option Obj}{ag:m aG}{bf:m (Nat×Bool)}{U:Nat->m K}{cP:ae}{gs:Array ai}{aU:m Nat}{cl:m Prop}{off:Nat}{op:BinOp}{aM:Array ao}{Y:m Prop}{bq:m ao}{aB:a6}{ty:al}{val:Nat->Nat->X}{y:m X}{bg:ar}{af:Array ae}{an dh:m ap}{res:ι->x}{aQ:ι->m ap}
variable {CT:m (Nat×bK)}{av:m im}{bd:fw}{ac:m (Nat×cm)}{a4:cm}
namespace R1
section
variable {p:ah V}
abbrev D2(a:cz)(i:dR)(e:Nat)(g b d:Nat)(h:m X):m ap:=tB a i [.p 107 2 (c a.1) (gm a.1 e (.slice (f ⟨g,0,n⟩) d b)),.p 104 2 (c a.2.1) (bj.fn a.2.1),.J (cq 138 2 (.row g b) d h)] (dC 3 (c a.1) (c a.1)) (dC 4 (c a.2.1) (c a.2.1)) (.c (hX a.2.2))
def gT(a:m cX)(b:Nat)(d:bC):m cX:=a.set b ((a.getD b (0,[])).1,d)
def Jt{af}{o}{d}(k:ek 2 (c af) (bH.fn af) d)(e:z<c af)(j:m2 y [.c (.V o)]):ek 2 (c af) (bH.fn (gT af z o)) (d.take (z*2+1)++y++d.drop (z*2+1+c y)):=by
 refine ek.fh k z 1 e j C (λq p h=>?_) a λg m b=>?_
 .simp[c1.fn,gG,gT,aj,oR,pY h]
 have i:bH.fn (gT af z o) z=[.int .i64 (af.getD z (0,[])).1,.V o]:=by simp[c1.fn,gG,gT,aj,oR,e];rfl
 rw[i]at b;rcases g with _|_|g
 .simp at b;subst b;exact .inr ⟨by omega,a⟩
 .grind
 simp at b
def TW(b)(i:dR)(V:c b.1<=4000000)(d r e q:Nat)(af)(O:(b.1.getD d (0,[])).2=af)(U:d<c b.1)(M:(b.1.getD d (0,[])).1=i.2.1)(N:∀x,x<c b.1->x≠d->(b.1.getD x (0,[])).1≠i.2.1)(K:i.2.2.1=q)(S:q<c af)(W:c af<=4000000)(B)(J:ek 2 (c af) (bH.fn af) B):
  bl (ι:={z:m X // ek 2 (c af) (bH.fn (gT af q i.2.2.2)) z}) p 157 [aI 6 0,iR (lX i)] (D2 b i d r e (c af) B) (λ_=>.Q []) (λz=>D2 b i d r e (c af) z.1):=by
 refine bl.bP func157 rfl rfl rfl (g.aR ?_);refine aO a A (g.aC 7 (λj:Nat×m X=>j.1<=c b.1/\(j.1<=d->j.2=B)/\(d<j.1->ek 2 (c af) (bH.fn (gT af q i.2.2.2)) j.2)) (λj=>[(0,aI 6 0),(1,iR (lX i)),(8,.n (.R (dC 3 (c b.1) (c b.1)))),(9,R (c b.1)),(10,R j.1)]) (λj=>D2 b i d r e (c af) j.2) (λj=>c b.1-j.1) (0,B) a C a C a ⟨by omega,λ_=>rfl,λF=>by omega⟩ ?_);rintro⟨h,k⟩ ⟨t,E,D⟩;simp only at t E D;have I:0+(h:Int).toNat=h:=u;by_cases F:h<c b.1
 .by_cases o:h=d
  .subst o;obtain rfl:=E (bA _);refine gF [11] 12 a Qo (g.aK (a0.e8 bc (au:=.agg [.c (.int .i64 i.2.1),.c (.val (.slice (f ⟨r,0,n⟩) (c af) e))]) a a a a a ?_ ?_) a a ?_)
   .show f (E1.agg [.c (.int .i64 (b.1.getD (0+(h:Int).toNat) (0,[])).1),.c (nt b.1 h (.slice (f ⟨r,0,n⟩) (c af) e) (0+(h:Int).toNat))])=_;rw[I,M,nt,bo a]
   .show 0+(h:Int).toNat<_;omega
   refine a5 [19,24,31] a ?_ ?_
   .simp only[T,a8,bw,gi,a',a7];exact fv
   have Z:=J.len;have w:0+i.2.2.1.toNat*2+1=q*2+1:=u;refine g.eP bc 5 a a a a a a a ?_ a a λy s=>?_
   .show 0+i.2.2.1.toNat*2+1+1<=c k;omega
   have Y:=Jt J S s;refine aO a FA (g.aw (h+1,k.take (q*2+1)++y++k.drop (q*2+1+c y)) a C ?_ ?_ ?_)
   .simp only[T.Z,T,bs.same,a7,a'];show cq 138 2 _ _ (List.take (0+i.2.2.1.toNat*2+1) k++y++List.drop (0+i.2.2.1.toNat*2+1+c y) k)=_;rw[w]
   .grind
   grind
  have Q:=N h F o;refine gF [11] 12 a Qo (g.aK (a0.e8 bc (au:=.agg [.c (.int .i64 (b.1.getD h (0,[])).1),.c (.A v 2 (b.1.getD h (0,[])).2.length (bH.fn (b.1.getD h (0,[])).2))]) a a a a a ?_ ?_) a a ?_)
  .show f (E1.agg [.c (.int .i64 (b.1.getD (0+(h:Int).toNat) (0,[])).1),.c (nt b.1 d (.slice (f ⟨r,0,n⟩) (c af) e) (0+(h:Int).toNat))])=_;rw[I,nt,bm o]
  .show 0+(h:Int).toNat<_;omega
  refine a5 [-19,-24,-31] a ?_ (g.aw (h+1,k) a ?_ ?_ ?_ ?_)
  .simp only[T,a8,e0,a',a7];exact⟨by omega,Q⟩
  .simp
  .simp
  .grind
  grind
 obtain rfl:h=c b.1:=u;refine a5 [-11] a C (g.az ?_);exact aO a A ⟨⟨k,D U⟩,.inr a,a,a,_,_,_,a,a,a,A⟩
structure sg(b:cz)(d:dR)(i0 z:Nat):Prop where
 a8:i0<c b.1
 c0:(b.1.getD i0 (0,[])).1=d.2.1
 bV:∀t,t<c b.1->t≠i0->(b.1.getD t (0,[])).1≠d.2.1
 b2:d.2.2.1=z
 gx:z<(b.1.getD i0 (0,[])).2.length
def Lw(af)(z)(o):c (gT af z o)=c af:=by simp[gT]
def u'{a:cz}{i0}(b:i0<c a.1):a.1.getD i0 (0,[])∈a.1:=M
set_option maxRecDepth 20000 in
def V3(b)(d)(i:dO b)(s:d.1=3)(i0 z)(h:sg b d i0 z):
  bl (ι:={j:fo×m X // ek 2 (b.1.getD i0 (0,[])).2.length (bH.fn (gT (b.1.getD i0 (0,[])).2 z d.2.2.2)) j.2}) p 81 [b9 b,eG d] []
   (λ_=>.n (.agg [dC 0 (c b.1) (c b.1),dC 1 (c b.2.1) (c b.2.1),.c (hX b.2.2)]))
   (λj=>[.p 107 2 (c b.1) (gm b.1 i0 (c0 j.1.1 (b.1.getD i0 (0,[])).2.length)),.p 104 2 (c b.2.1) (bj.fn b.2.1),.J (cq 138 2 j.1.1 (b.1.getD i0 (0,[])).2.length j.1.2)]):=by have t:=h.gx;have r:=i.bm _ (u' h.a8);refine bl.bG bc func81 rfl rfl rfl λD=>?_;refine aO a A (g.aX (Xz b i0 h.a8 u i.aY i.bm i.aZ i.bx i.aL) [] a bk ?_);rintro⟨⟨o,x⟩,B⟩;refine g.fB (cq.len (d:=5) a) λq=>?_;obtain⟨k,e,rfl⟩:=q.2.2.1 u;refine aO a A (g.aA (IA d s) [] a (aO a A (g.cI (TW b d i.aY i0 k e z _ a h.a8 h.c0 h.bV h.b2 t r x B) a a a a C a ?_)));rintro⟨y,w⟩;refine aO a A (g.bc ⟨(.row k e,y),w⟩ [3,4,5] ?_ eW);simp
abbrev g8(b:cz)(d:dR)(a e:Nat):cz:=(b.1.set a ((b.1.getD a (0,[])).1,gT (b.1.getD a (0,[])).2 e d.2.2.2),b.2.1,b.2.2)
def Ud{q}{args}(b)(d)(i0 z)(x:i0<c b.1)(t:bl (ι:={g:fo×m X // ek 2 (b.1.getD i0 (0,[])).2.length (bH.fn (gT (b.1.getD i0 (0,[])).2 z d.2.2.2)) g.2}) p q args []
   (λ_=>.n (.agg [dC 0 (c b.1) (c b.1),dC 1 (c b.2.1) (c b.2.1),.c (hX b.2.2)]))
   (λg=>[.p 107 2 (c b.1) (gm b.1 i0 (c0 g.1.1 (b.1.getD i0 (0,[])).2.length)),.p 104 2 (c b.2.1) (bj.fn b.2.1),.J (cq 138 2 g.1.1 (b.1.getD i0 (0,[])).2.length g.1.2)])):
  Z p q args [] (b9 (g8 b d i0 z)) []:=by
 generalize e:b.1.getD i0 (0,[])=i at *;have A:∀k,k≠i0->a2.fn (g8 b d i0 z).1 k=a2.fn b.1 k:=λk o=>by simp[c1.fn,gG,aj,oR,pY o]
 have C:a2.fn (g8 b d i0 z).1 i0=[.int .i64 i.1,.A v 2 (c i.2) (bH.fn (gT i.2 z d.2.2.2))]:=by have:(g8 b d i0 z).1.getD i0 a2.D=(i.1,gT i.2 z d.2.2.2):=M;show a2.a2 ((g8 b d i0 z).1.getD i0 a2.D)=_;rw[this];show[K.int .i64 i.1,K.A v 2 (c (gT i.2 z d.2.2.2)) (bH.fn (gT i.2 z d.2.2.2))]=_;rw[Lw]
 have y:=bl.fz (aQ:=λg:{g:fo×m X // ek 2 (c i.2) (bH.fn (gT i.2 z d.2.2.2)) g.2}=>[.p 107 2 (c b.1) (gm b.1 i0 (c0 g.1.1 (c i.2))),.p 104 2 (c b.2.1) (bj.fn b.2.1)]) (fe:=λ_=>[.p 107 2 (c b.1) (a2.fn (g8 b d i0 z).1),.p 104 2 (c b.2.1) (bj.fn b.2.1)]) (W:=138) (h:=2) (j:=c i.2) (bO:=λg=>g.1.1) (af:=λg=>g.1.2) t (λg=>g.2) 0 bk bk bk bk (λ_=>gZ _)
  (λg k o=>by exact bG)
  (λg k o r B N=>by
   by_cases s:k=i0
   .subst s;rw[C]at N;have:gm b.1 k (c0 g.1.1 (c i.2)) k=[.int .i64 i.1,.val (c0 g.1.1 (c i.2))]:=NV;rw[this];rcases r with _|_|r
    .simp at N;subst N;exact⟨_,a,.inl a⟩
    .exact Rc
    exact bG
   .rw[A k s]at N;have:gm b.1 i0 (c0 g.1.1 (c i.2)) k=a2.fn b.1 k:=EP
    rw[this];exact⟨B,N,.inl a⟩)
 have u:=bl.bL (aQ:=λ_=>[.p 107 2 (c b.1) (a2.fn (g8 b d i0 z).1)]) (W:=104) (h:=2) (j:=λ_=>c b.2.1) (U:=λ_=>bj.fn b.2.1) y bk (λ_=>?_) bk (λ_=>gZ _);have w:=bl.bL (aQ:=λ_=>[]) (W:=107) (h:=2) (j:=λ_=>c b.1) (U:=λ_=>a2.fn (g8 b d i0 z).1) u bk (λ_=>?_) bk (λ_=>bA _);refine(w.le (ow:=λ_=>b9 (g8 b d i0 z)) bk (λ_=>?_)).R
 .exact Oc
 .simp
 simp
set_option maxRecDepth 20000 in
def V2(b)(d)(e:dO b)(g:d.1=3)(i0 z)(a:sg b d i0 z):Z p 81 [b9 b,eG d] [] (b9 (g8 b d i0 z)) []:=
 Ud b d i0 z a.a8 (V3 b d e g i0 z a)
def pM(d:cz)(b:dR):Prop:=∀a,a<c d.1->¬((d.1.getD a (0,[])).1=b.2.1/\0<=b.2.2.1/\b.2.2.1<(d.1.getD a (0,[])).2.length)
def TX(b)(d)(j:dO b)(s:pM b d):Z p 157 [aI 5 0,iR (lX d)] (mN b d) (.Q []) (mN b d):=by
 have y:=j.aY;refine bl.toZ (bl.bP (ι:=Unit) (res:=λ_=>.Q []) (an:=λ_=>mN b d) func157 rfl rfl rfl (g.aR ?_));refine aO a A (g.aC 6 (λe=>e<=c b.1) (λe:Nat=>[(0,aI 5 0),(1,iR (lX d)),(8,.n (.R (dC 3 (c b.1) (c b.1)))),(9,R (c b.1)),(10,R e)]) (λ_=>mN b d) (λe=>c b.1-e) 0 a C a C a u ?_);intro e o;by_cases k:e<c b.1
 .have r:=s e k;have x:=j.bm _ (u' k);have q:0+(e:Int).toNat=e:=u;have i:b.1.getD (0+(e:Int).toNat) a2.D=b.1.getD e (0,[]):=by rw[q];rfl
  generalize b.1.getD e (0,[])=m at *;by_cases w:m.1=d.2.1
  .by_cases t:0<=d.2.2.1
   .have h:¬d.2.2.1<c m.2:=λh=>r ⟨w,t,h⟩;refine a5 [11,19,24,-31] a Qt (g.aw (e+1) a C C sb ?_);omega
   refine a5 [11,19,-24,-31] a Qt (g.aw (e+1) a C C sb ?_);omega
  refine a5 [11,-19,-24,-31] a ?_ (g.aw (e+1) a ?_ ?_ ?_ ?_)
  .simp only[T,a8,i,e0,bw,dp,a',a7];and_intros<;>first|exact w|omega
  .simp
  .simp
  .exact sb
  omega
 obtain rfl:e=c b.1:=u;refine a5 [-11] a C (g.az ?_);exact Q6
def V5(b)(d)(e:dO b)(i:d.1=3)(h:pM b d):
  bl (ι:=Unit) p 81 [b9 b,eG d] [] (λ_=>.n (.agg [dC 0 (c b.1) (c b.1),dC 1 (c b.2.1) (c b.2.1),.c (hX b.2.2)])) (λ_=>[.p 107 2 (c b.1) (a2.fn b.1),.p 104 2 (c b.2.1) (bj.fn b.2.1)]):=by refine bl.bG bc func81 rfl rfl rfl λj=>?_;refine aO a A (g.aA (o6 b e.aY e.bm e.aZ e.bx e.aL) [] a (aO a A (g.aA (IA d i) [] a (aO a A (g.cI (TX b d e h).tocH a a a a C a ?_)))));intro _;refine aO a A (g.bc () [3,4] ?_ eW);simp
def V4(b)(d)(a:dO b)(g:d.1=3)(e:pM b d):Z p 81 [b9 b,eG d] [] (b9 b) []:=Cj (V5 b d a g e)
end
section
open Go.Sort (pdq bitsLen ltInt Below)
variable {p:ah V}
def jU(a:m Int):m Int:=a.mergeSort λb d=>decide (b<=d)
def qK(d):c (jU d)=c d:=List.length_mergeSort _
def abK(d):pdq ltInt d.toArray 0 (c d) (bitsLen (c d)) l l=(jU d).toArray:=by have a:=Go.Sort.sortInt d;unfold Go.Sort.sort at a;rw[List.size_toArray]at a;exact Array.ext' bG
theorem Tm(d):sP d.toArray=aA.fn d:=by funext t;simp only[sP,c1.fn,gG,aA,aj];simp
abbrev jg(b:Nat)(a:m Int):ap:=.p 3 1 b (aA.fn a)
def Ck(d)(b:c d<=4000000):Z p 141 [dI (c d)] [jg (c d) d] (.Q []) [jg (c d) (jU d)]:=by
 refine Z.I func141 rfl λe=>?_;refine cy a bG (g.aA (II (c d) b) [] a (cy a A ?_));have i:=sF (D:=c d) (h:=22) M;have key:Z p 187 [dI (c d),R 0,R (c d),R (bitsLen (c d))] [jg (c d) d] (.Q []) [jg (c d) (jU d)]:=by have:=WU (p:=p) (c d) b (c d) d.toArray 0 (c d) (bitsLen (c d)) u C u (bA _) u (.inl a) (D:=0) a a a (abK d).symm;grind[Tm]
 exact g.aA key [0] a (cy a A sc)
def fA(b:m Int):Nat->m Int
 |0=>[]
 |a+1=>if a≠0/\b.getD a 0=b.getD (a-1) 0 then fA b a else fA b a++[b.getD a 0]
def hP(a:m Int):m Int:=fA a (c a)
def w5(d):∀a,c (fA d a)<=a
 |0=>bA _
 |a+1=>by have:=w5 d a;simp[fA];grind
def uB{d}:∀{b:Nat},b<=c d->(∀a,1<=a->a<b->d.getD a 0≠d.getD (a-1) 0)->fA d b=d.take b
 |0,_,_=>by simp[fA]
 |b+1,h,g=>by rw[fA,bm,uB u λa e i=>g a e u,ih u 0];grind
structure RE(d:m Int)(s9:Nat)(rM:Nat)(nJ:m Int):Prop where
 jb:1<=rM
 fH:s9+rM<=c d
 len:c nJ=c d
 lt:c (fA d (s9+rM))<s9+rM
 done:nJ.take (c (fA d (s9+rM)))=fA d (s9+rM)
 hN:∀e,s9+rM<=e+1->nJ.getD e 0=d.getD e 0
abbrev Ag(d:m Int):Type:={a:Nat->m K // ∀b,b<c d->a b=aA.fn d b}
def Iu(d)(Z:c d<=4000000):bl (ι:=Ag (hP d)) p 142 [dI (c d)] [jg (c d) d] (λ_=>cD 0 (.A (c d) 1 0 (c (hP d)))) (λz=>[.p 3 1 (c d) z.1]):=by
 refine bl.ca func142 rfl rfl rfl λY=>?_;by_cases O:c d<2
 .have s:hP d=d:=by unfold hP;rw[uB (bA _) λb _ _=>by omega,cY]
  refine bR [8] a bu (g.bu ⟨aA.fn d,λb _=>by rw[s]⟩ (g.aJ [0] a ?_ ha));simp[s]
 refine bR [-8] a bu (g.cj (S2:=Unit) 0 a a (λ_=>hP d=d) (λ_=>[(0,dI (c d))]) (λ_=>[jg (c d) d]) 1 (λh:Nat=>1<=h/\h<=c d/\∀b,1<=b->b<h->d.getD b 0≠d.getD (b-1) 0) (λh=>[(0,dI (c d)),(3,R h)]) (λ_=>[jg (c d) d]) (λh=>c d-h) 1 a C a C a ⟨bA _,by omega,λb G O=>by omega⟩ ?_ ?_)
 .rintro dw h ⟨V,b2,E⟩;by_cases ab:h<c d
  .have aa:((h:Int)-1).toNat=h-1:=u;have F:∀t,d.getD t aA.D=d.getD t 0:=λ_=>rfl;by_cases o:d.getD h 0=d.getD (h-1) 0
   .refine bR [13,25] a ?_ ?_
    .simp only[T,cW,cZ,aa,F,o,a8,bw,gi,a',a7];exact fv
    have aY:=uB (d:=d) u E;have H:fA d (h+1)=d.take h:=by rw[fA,bo ⟨by omega,o⟩,aY]
    refine g.cj (S2:=m Int) 2 a a (λr=>c r=c d/\r.take (c (hP d))=hP d) (λ_=>[(0,dI (c d)),(3,R (c (hP d)))]) (λr=>[jg (c d) r]) 1 (λe:Nat×m Int=>RE d h e.1 e.2) (λe=>[(0,dI (c d)),(3,R (c (fA d (h+e.1)))),(4,cD 0 (.A (c d) 1 h (c d-h))),(5,R e.1)]) (λe=>[jg (c d) e.2]) (λe=>c d-e.1) (1,d) a bG a C a ?_ ?_ ?_
    .exact⟨bA _,by omega,a,by grind,by grind,λ_ _=>rfl⟩
    .rintro U ⟨i,r⟩ ⟨g9,iN,jH,uN,j,q⟩;simp only at g9 iN jH uN j q;by_cases ae:h+i<c d
     .have J:((i:Int)-1).toNat=i-1:=u;have D:∀t,r.getD t aA.D=r.getD t 0:=λ_=>rfl;have B:r.getD (h+i) 0=d.getD (h+i) 0:=q _ u;have Q:r.getD (h+(i-1)) 0=d.getD (h+(i-1)) 0:=q _ u;by_cases w:d.getD (h+i) 0=d.getD (h+(i-1)) 0
      .have N:fA d (h+(i+1))=fA d (h+i):=by rw[show h+(i+1)=h+i+1 by omega,fA,bo ⟨by omega,by rw[w,show h+i-1=h+(i-1) by omega]⟩]
       refine bR [32,-44] a ?_ (g.aw (i+1,r) a ?_ ?_ ?_ ?_)
       .simp only[T,cW,cZ,J,D,B,Q,w,a8,bw,iI,gw,gi,a',a7];and_intros<;>first|trivial|omega
       .exact bG
       .simp
       .exact⟨by grind,by grind,jH,by grind,by grind,λb k=>q b M⟩
       omega
      have N:fA d (h+(i+1))=fA d (h+i)++[d.getD (h+i) 0]:=by rw[show h+(i+1)=h+i+1 by omega,fA,bm];rintro⟨_,o⟩;exact w (by rw[o,show h+i-1=h+(i-1) by omega])
      refine bR [32,44] a ?_ (g.aw (i+1,r.set (c (fA d (h+i))) (d.getD (h+i) 0)) a ?_ ?_ ?_ ?_)
      .simp only[T,cW,cZ,J,D,B,Q,a8,bw,je,e0,j',d6,a',a7];and_intros<;>first|exact w|omega
      .exact bG
      .have y:=aA.cT r (c (fA d (h+i))) (d.getD (h+i) 0) (c d) u;simp only[T.Z,T,cW,cZ,D,B,a7,a'];exact y
      .refine⟨by grind,by grind,by grind,by grind,?_,λb k=>?_⟩
       .simp only;rw[N,df,show ∀S:Int,[S].length=1 fromλ_=>rfl,sy,AF,F1 M,j,iq u];rfl
       simp only at k⊢;rw[aj,j9 u,<-aj];grind
      omega
     have X:h+i=c d:=u;have I:fA d (h+i)=hP d:=bG;refine bR [-32] a bu (g.az ?_);rw[I]at j;exact U r ⟨jH,j⟩ a (by simp[I]) a C
    rintro r ⟨K,x⟩;have W:c (hP d)<=c d:=w5 d _;refine cy a bu (g.aK (a0.eX bc a a a a a a wv) a a ?_);refine aO a bu (g.aT ⟨⟨nK (0+bU 0 (f (c (hP d):Int))) (0+bU 0 (f (c (hP d):Int))+(bU (c d) n-bU 0 (f (c (hP d):Int)))) d9.zero (aA.fn r),λb k=>?_⟩,bY.mk [0] a ?_ a a a ha⟩)
    .have y:r[b]?=(hP d)[b]?:=M;refine(Ny wv).trans ?_;simp[c1.fn,gG,aj,y]
    exact bG
   refine bR [13,-25] a ?_ (g.aw (h+1) a ?_ ?_ ?_ ?_)
   .simp only[T,cW,cZ,aa,F,a8,bw,e0,d6,a',a7];and_intros<;>first|exact o|omega
   .simp
   .simp
   .grind
   omega
  obtain rfl:h=c d:=u;refine bR [-13] a C (g.az ?_);exact dw () (by unfold hP;rw[uB (bA _) E,cY]) a C a C
 rintro⟨⟩ s;refine cy a A (g.bu ⟨aA.fn d,λb _=>by rw[s]⟩ (g.aJ [0] a ?_ ha));simp[s]
end
section
variable {p:ah V}
def d'(a:m mY):m Int:=a.flatMap (·.2)
def gf(a:eK):m Int:=hP (jU (d' a.2))
def Ku{d}(a:e<c d):d' (d.take (e+1))=d' (d.take e)++(d.getD e ([],[])).2:=by rw[ih a ([],[])];simp[d']
def _root_.Go.AM.c1.g9(b:c1 α)(a i)(j)(e:j=c (a++i)):bs j (cf (c a) (b.fn a) (b.fn i)) (b.fn (a++i)):=by intro g d;simp only[cf,c1.fn,gG,aj];grind
def Xm(b)(z:c b.2<=4000000)(j:c (d' b.2)<=4000000)(t:∀d,d<=c b.2->c (d' (b.2.take d))<=4000000):
  bl (ι:=Ag (gf b)) p 109 [iT b] [] (λ_=>cD 0 (.A (c (d' b.2)) 1 0 (c (gf b)))) (λe=>[.p 3 1 (c (d' b.2)) e.1]):=by
 refine bl.ca func109 rfl rfl rfl λy=>?_;refine bR [902] a A (g.e_ 3 3 1 (aA.fn []) a ?_);refine cy a A ?_;refine g.aC 2 (λd=>d<=c b.2) (λd:Nat=>[(3,cD 1 (.A (c (d' (b.2.take d))) 1 0 (c (d' (b.2.take d))))),(7,cA.A b.2),(8,R (c b.2)),(9,R d)])
  (λd=>[.cells 104 [.c (.int .i64 b.1),.c (.A v 2 (c b.2) (cA.fn b.2))],jg (c (d' (b.2.take d))) (d' (b.2.take d))]) (λd=>c b.2-d) 0 a ?_ a ?_ a u ?_
 .simp[d']
 .simp[bs,d']
 intro d r;by_cases k:d<c b.2
 .have i:b.2.getD (d:Int).toNat cA.D=b.2.getD d ([],[]):=dB;have h:=Ku k;have q:=t (d+1) k;rw[h,df]at q;refine bR [10] a ?_ (g.aw (d+1) a ?_ ?_ ?_ ?_)
  .simp only[T,i,a8,show d9.bytes=8 from a,bw,a',a7];exact fv
  .simp only[T.Z,T,i,h,df,a7,a'];and_intros<;>first|exact bs.same|rfl|omega
  .have w:=aA.g9 (d' (b.2.take d)) (b.2.getD d ([],[])).2 _ a;simp_all
  .omega
  omega
 obtain rfl:d=c b.2:=u;rw[cY];refine bR [-10] a C (g.az ?_);refine cy a A (g.aA (Ck (d' b.2) j) [1] a (cy a A ?_));have m:=Iu (p:=p) (jU (d' b.2)) (by rw[qK];exact j);rw[qK]at m;refine g.aX m [1] a bk ?_;rintro⟨e,o⟩;refine cy a A (g.bu ⟨e,o⟩ (g.aJ [1] a ?_ (λx s=>absurd s C)));simp[gf]
def Kv(d)(e):c (d' (d.take e))<=c (d' d):=by
 have a:d' d=d' (d.take e)++d' (d.drop e):=by unfold d';grind[List.take_append_drop]
 grind
def HK(d):c (hP d)<=c d:=w5 d _
def Xl(D)(e:c D.2<=4000000)(a:c (d' D.2)<=4000000):Z p 109 [iT D] [] (aA.A (gf D)) []:=by
 have b:=Xm (p:=p) D e a λg _=>fG (Kv _ _) a;have d:=bl.bL (aQ:=λ_:Ag (gf D)=>[]) (W:=3) (h:=1) (j:=λ_=>c (d' D.2)) (U:=λU=>U.1) b bk (λ_=>?_) bk (λ_=>bA _);refine(d.le (ow:=λ_=>aA.A (gf D)) bk (λU=>?_)).R
 .simp only[T.Z,T,a7,a'];exact U.2
 have:c (gf D)<=c (d' D.2):=Rm;exact bu
def XW(b)(e)(d:dX b=l)(q:3<=e)(h:e<=c b)(m:c b<=4000000):Z p 292 [b1 b,R e] [] (bh (pA b e)) []:=by
 refine Z.I func292 rfl λj=>?_;have k:=s' d (e-1) u;have o:=s' d (e-2) u;have s:=s' d (e-3) u;have i:((kG b ((e:Int)-1)).toNat:Int)=dq b (e-1):=tX;have N:((kG b ((e:Int)-2)).toNat:Int)=dq b (e-2):=tX;have r:((kG b ((e:Int)-3)).toNat:Int)=dq b (e-3):=tX;refine aO a ?_ (g.aq a ?_)
 .simp only[T,a8,i,N,r];omega
 exact Oe
abbrev Hr:bK:=er eE c8 (λa b=>bh (pA a b.toNat)) λa b=>[dX a=l,3<=b,b<=c a,c a<=4000000]
def adj:bL p 292 Hr:=.bh λh b g=>by
 obtain⟨d,i,j,e⟩:=g;obtain⟨a,rfl⟩:∃a:Nat,b=a:=⟨b.toNat,by omega⟩
 exact XW h a d u u e
def TN(o)(d)(e:dX o=l)(t:d<=c o)(y:c o<=4000000):Z p 254 [b1 o,R d] [] (R (en o d)) []:=by
 refine Z.I func254 rfl λw=>?_;have j:ba p [(292,Hr)]:=.cons adj .nil;refine b_ j a A (g.b' (λb=>b<=5/\lL o d (5-b)=en o d) (λb:Nat=>[(0,b1 o),(1,R d),(5,R (3+b))]) (λ_=>[]) (λb=>5-b) 0 a C a A ⟨by omega,a⟩ ?_);rintro b ⟨x,i⟩;by_cases s:b<5
 .obtain⟨h,b2⟩:∃h,5-b=h+1:=⟨4-b,by omega⟩
  have m:d+(7-h)=d+3+b:=u;rw[b2]at i;simp[lL,m]at i;by_cases k:c o<=d+3+b
  .rw[bo k]at i;refine a_ j [7,15] a Ry (g.bR (bY.zero a ?_));exact bu
  rw[bm k]at i;have au:((d:Int)+(3+(b:Int))).toNat=d+3+b:=u;cases r:pA o (d+3+b)with
  |true=>
   rw[r,bo a]at i;refine a_ j [7,-15,22] a Qn (g.bR (bY.zero a ?_));exact bu
  |false=>
   rw[r,bm C]at i;refine a_ j [7,-15,-22] a Qn (g.b5 (b+1) a ?_ a A ⟨by omega,by grind⟩ u);exact bu
 have au:en o d=min (d+8) (c o):=by rw[<-i,show 5-b=0 by omega];rfl
 have q:a8 .i64 ((min (d+8) (c o):Nat):Int):=bG;refine a_ j [-7] a bu (g.bs a a ?_);refine b_ j a bG (g.aK (yB ((min (d+8) (c o):Nat):Int) a a a u q) a a ?_);refine b_ j a A (g.aq a ?_);simp[au]
abbrev GM:bK:=er eE c8 (λa b=>R (en a b.toNat)) λa b=>[dX a=l,0<=b,b<=c a,c a<=4000000]
def acs:bL p 254 GM:=.bh λh b g=>by
 obtain⟨d,i,j,e⟩:=g;obtain⟨a,rfl⟩:∃a:Nat,b=a:=⟨b.toNat,by omega⟩
 exact TN h a d u e
abbrev mt(b:bC):m Int:=(S4 b).map λa:Nat=>(a:Int)
def UA(o)(y:dX o=l)(E:c o<=4000000):Z p 212 [b1 o] [] (aA.A (mt o)) []:=by
 refine Z.I func212 rfl λD=>?_;have i:ba p [(254,GM)]:=.cons acs .nil;refine a_ i [903] a A (g.bB 3 3 1 a a ?_);refine b_ i a A (g.aC 1 (λd:Nat×m Int=>d.1<=c o/\c d.2<=d.1/\∃e,c o<=d.1+e/\mt o=d.2++(k_ o e d.1).map λz:Nat=>(z:Int)) (λd=>[(0,b1 o),(3,.n (.R (.w 0 1 (c d.2) (aA.fn d.2)))),(4,R d.1)]) (λd=>[.w 3 1 (c d.2) (aA.fn d.2)]) (λd=>c o-d.1) (0,[]) a C a C a ⟨by simp,by simp,c o,by simp,by exact bG⟩ ?_);rintro⟨h,b⟩ ⟨w,u,e,k,s⟩;simp only at w u k s;by_cases j:h<c o
 .obtain⟨e,rfl⟩:∃q,e=q+1:=⟨e-1,by omega⟩
  have x:=rz o h j;have t:=aA.aW b (en o h:Int);have r:c b+1=c (b++[(en o h:Int)]):=C;refine a_ i [9] a ?_ (g.aw (en o h,b++[(en o h:Int)]) a ?_ ?_ ?_ ?_)
  .simp only[T,y,show d9.bytes=8 from a,bw,a',a7];exact fv
  .exact T.Z.2 ⟨a,T.Z.2 ⟨⟨r,t⟩,T.Z.2 ⟨a,A⟩⟩⟩
  .exact T.Z.2 ⟨⟨r,t⟩,A⟩
  .refine⟨x.2.1,by grind,e,by grind,?_⟩;rw[s];simp only[k_,bo j];simp
  grind
 have B:mt o=b:=by
  have:k_ o e h=[]:=by cases e<;>simp[k_,j]
  grind
 refine a_ i [-9] a bu (g.az ?_);refine b_ i a A (g.aq a ?_);simp_all
abbrev GU:bK:=dk eE (λa=>aA.A (mt a)) λa=>[dX a=l,c a<=4000000]
def acC:bL p 212 GU:=.a7 λb a=>UA b a.1 a.2
def Tj{d a}{b:α}(h:d.drop e=b::a)(g:α):e<c d/\d.getD e g=b/\d.drop (e+1)=a:=by grind[List.drop_eq_nil_of_le,List.drop_eq_getElem_cons]
def Ii(o):∀a b,c (k_ o a b)<=a
 |0,_=>bA _
 |a+1,b=>by
  simp[k_];split
  .have:=Ii o a (en o b);grind
  simp
def TH(o)(S:dX o=l)(O:c o<=4000000):Z p 174 [b1 o] [] (bS.A (ck o)) []:=by
 refine Z.I func174 rfl λW=>?_;have j:ba p [(212,GU)]:=.cons acC .nil;have V:c (mt o)<=c o:=by simp[mt,kE];exact Ii o _ _
 refine a_ j [902] a A (g.bB 3 9 1 a a ?_);refine b_ j a dB (g.aC 1 (λd:Nat×Nat×m bC=>d.1<=c (mt o)/\d.2.1<=c o/\c d.2.2<=d.1/\∃h,c o<=d.2.1+h/\(mt o).drop d.1=((k_ o h d.2.1).map λJ:Nat=>(J:Int))/\ck o=d.2.2++iB o h d.2.1) (λd=>[(0,b1 o),(3,.n (.R (.w 0 1 (c d.2.2) (bS.fn d.2.2)))),(4,R d.2.1),(5,aA.A (mt o)),(6,R d.1)]) (λd=>[.w 9 1 (c d.2.2) (bS.fn d.2.2)]) (λd=>c (mt o)-d.1) (0,0,[]) a C a C a ⟨by simp,by simp,by simp,c o,by simp,by exact bG,by simp[ck]⟩ ?_);rintro⟨s,b,e⟩ ⟨q,I,F,h,r,x,w⟩;simp only at q I F r x w;by_cases k:s<c (mt o)
 .have B:k_ o h b≠[]:=by grind[List.length_drop]
  obtain⟨h,rfl⟩:∃u,h=u+1:=by
   cases h with
   |zero=>exact bG
   |succ h=>grind
  have i:b<c o:=by
   rcases dW b (c o) with k|k
   .exact k
   exact absurd (by simp[k_,bm (show¬b<c o by omega)]) B
  simp[k_,bo i,me]at x;obtain⟨_,X,N⟩:=Tj x 0;have K:=rz o b i;have t:(mt o).getD (s:Int).toNat aA.D=(en o b:Int):=M;have y:mo o (f (b:Int)) (f (en o b:Int))=(o.drop b).take (en o b-b):=N5;have E:=bS.aW e ((o.drop b).take (en o b-b));have D:c e+1=c (e++[(o.drop b).take (en o b-b)]):=C;refine a_ j [13] a ?_ (g.aw (s+1,en o b,e++[(o.drop b).take (en o b-b)]) a ?_ ?_ ?_ ?_)
  .simp only[T,t,a8,ji,show s3.bytes=16 from a,bw,a',a7];exact fv
  .simp only[T.Z,T,t,y,a',a7];and_intros<;>first|exact D|exact E|simp|omega
  .simp only[T.Z,T,t,y,a',a7];and_intros<;>first|exact D|exact E
  .refine⟨by grind,K.2.1,by grind,h,by grind,N,?_⟩;rw[w];simp only[iB,bo i];simp
  grind
 have U:ck o=e:=by
  have z:k_ o h b=[]:=by grind[List.map_eq_nil_iff]
  have i:¬b<c o:=by
   intro Q;cases h with
   |zero=>omega
   |succ h=>simp only[k_,bo Q]at z;cases z
  rw[w];cases h<;>simp[iB,i]
 refine a_ j [-13] a dB (g.az ?_);refine b_ j a A (g.aq a ?_);simp_all
abbrev xm:bK:=dk eE (λa=>bS.A (ck a)) λa=>[dX a=l,c a<=4000000]
def Em:bL p 174 xm:=.a7 λb a=>TH b a.1 a.2
def _root_.Go.AM.c1.eZ(e:c1 α)(d)(b h):bs (c d+1+1) (cf (c d+1) (cf (c d) (e.fn d) λa=>[e.a2 b].getD a []) λa=>[e.a2 h].getD a []) (e.fn (d++[b,h])):=by
 have j:=e.aW d b;have g:=e.aW (d++[b]) h;rw[show(d++[b]).length=c d+1 by simp,show d++[b]++[h]=d++[b,h] by simp]at g;intro a k;rw[<-g a k];simp[cf];by_cases i:a<c d+1
 .rw[bo i,bo i];exact j a i
 grind
abbrev S9(a:cX):x:=.n (.agg [.c (.int .i64 a.1),.c (.V a.2)])
def jt(d:cX)(a:m cX×Bool)(b:cX):m cX×Bool:=if a.2=l then(a.1++[b],l)else if d.1<b.1 then(a.1++[d,b],l)else(a.1++[b],v)
def Mq(b):∀d(a:m cX),(d.foldl (jt b) (a,l))=(a++d,l)
 |[],a=>by simp
 |e::g,a=>by rw[iL,show jt b (a,l) e=(a++[e],l)from rfl,Mq b g];simp
def Mr(b):∀g(a:m cX),(if(g.foldl (jt b) (a,v)).2=l then(g.foldl (jt b) (a,v)).1 else(g.foldl (jt b) (a,v)).1++[b])=a++fB g b
 |[],a=>by simp[fB]
 |d::h,a=>by
  rw[iL];by_cases e:b.1<d.1
  .rw[show jt b (a,v) d=(a++[b,d],l) by simp[jt,e],Mq];simp[fB,e]
  rw[show jt b (a,v) d=(a++[d],v) by simp[jt,e],Mr b h];simp[fB,e]
theorem Ms(b):∀d(a:m cX×Bool),(d.foldl (jt b) a).1.length<=c a.1+c d+1-(if a.2=l then 1 else 0)
 |[],a=>by grind
 |g::e,a=>by rw[iL];have:=Ms b e (jt b a g);unfold jt at this⊢;grind
abbrev mi(d:cX)(b:m cX)(a:Nat):m cX×Bool:=(b.take a).foldl (jt d) ([],v)
def R3{D}{d}(a:e<c d):mi D d (e+1)=jt D (mi D d e) (d.getD e (0,[])):=ij
def F4(a)(d)(e):(mi a d e).1.length<=c d+1:=by grind[Ms]
abbrev Z4(d:m cX)(e:cX)(b:Nat)(a:m cX×Bool):bJ:=[(0,bH.A d),(3,aI 0 0),(5,.n (.R (.w 1 2 (c a.1) (bH.fn a.1)))),(6,bh a.2),(7,R b)]
abbrev Z3(b:cX)(a:m cX):m ap:=[.cells 138 [.c (.int .i64 b.1),.c (.V b.2)],.w 138 2 (c a) (bH.fn a)]
def W0(d)(D)(y:c d<=4000000):Z p 180 [bH.A d,S9 D] [] (bH.A (fB d D)) []:=by
 refine Z.I func180 rfl λx=>?_;refine bR [902] a A (g.bB 5 138 2 a a ?_);refine cy a A (g.aC 2 (λb=>b<=c d) (λb:Nat=>Z4 d D b (mi D d b)) (λb=>Z3 D (mi D d b).1) (λb=>c d-b) 0 a ?_ a ?_ a u ?_)
 .simp[mi]
 .simp[mi]
 intro b s;by_cases q:b<c d
 .have j:=R3 (D:=D) q;have i:=F4 D d b;have ak:d.getD (b:Int).toNat bH.D=d.getD b (0,[]):=M;generalize mi D d b=e at j i;obtain⟨e,m⟩:=e;simp only at i;have h:=bH.aW e (d.getD b (0,[]));have o:=bH.eZ e D (d.getD b (0,[]));cases m with
  |true=>
   have r:mi D d (b+1)=(e++[d.getD b (0,[])],l):=j;have t:c e+1=c (e++[d.getD b (0,[])]):=C;refine bR [12] a ?_ (g.aw (b+1) a ?_ ?_ ?_ ?_)
   .simp only[T,ak,a8,show mz.bytes=24 from a,bw,a',a7];exact fv
   .exact Ox
   .exact OQ
   .grind
   omega
  |false=>
   by_cases k:D.1<(d.getD b (0,[])).1
   .have r:mi D d (b+1)=(e++[D,d.getD b (0,[])],l):=by rw[j];simp only[jt,bo k];rfl
    have t:c e+1+1=c (e++[D,d.getD b (0,[])]):=C;refine bR [12,25] a ?_ (g.aw (b+1) a ?_ ?_ ?_ ?_)
    .simp only[T,ak,a8,show mz.bytes=24 from a,k,m7,bw,a',a7];exact fv
    .rw[r];simp[T.Z,T,ak,a',a7];and_intros<;>first|exact t|exact o|simp|rfl|omega
    .rw[r];simp[T.Z,T,ak,a',a7];and_intros<;>first|exact t|exact o|exactλ_ _=>rfl|rfl|omega
    .grind
    omega
   have r:mi D d (b+1)=(e++[d.getD b (0,[])],v):=by rw[j];simp only[jt,bm k];rfl
   have t:c e+1=c (e++[d.getD b (0,[])]):=C;refine bR [12,-25] a ?_ (g.aw (b+1) a ?_ ?_ ?_ ?_)
   .simp only[T,ak,a8,show mz.bytes=24 from a,bw,k,oT,p1,dp,a',a7];exact fv
   .exact Ox
   .exact OQ
   .grind
   omega
 obtain rfl:b=c d:=u;have N:=Mr D d [];have i:=F4 D d (c d);refine bR [-12] a C (g.az ?_);have w:mi D d (c d)=d.foldl (jt D) ([],v):=M;rw[w]at i⊢;generalize d.foldl (jt D) ([],v)=e at *;obtain⟨e,m⟩:=e;simp only[pW]at N i;cases m with
 |true=>
  exact PZ
 |false=>
  simp only[j_,dm]at N;have h:=bH.aW e D;refine cy a ?_ (g.aq a ?_)
  .simp only[T,show mz.bytes=24 from a,a',a7];grind
  rw[<-N];simp only[T.Z,T,a',a7];and_intros<;>first|exact h|simp
abbrev Hg:bK:=er (e7 bH) sl (λa b=>bH.A (fB a b)) λa _=>[c a<=4000000]
def ac8:bL p 180 Hg:=.bh λb d a=>W0 b d a
abbrev Tb(a:fg):x:=.n (.agg [.c (.int .i64 a.1),.c (.int .i64 a.2)])
def fl(d:fg)(a:m fg×Bool)(b:fg):m fg×Bool:=
 if a.2=l then(if b.1=d.1 then a else(a.1++[b],l))else if d.1<=b.1 then(if b.1=d.1 then(a.1++[d],l)else(a.1++[d,b],l))else(a.1++[b],v)
def zk(b):∀(g:m fg)a,(g.foldl (fl b) (a,l))=(a++g.filter λi=>!(i.1==b.1),l)
 |[],a=>by simp
 |e::h,a=>by
  rw[iL];by_cases d:e.1=b.1
  .rw[show fl b (a,l) e=(a,l) by simp[fl,d],zk b h];simp[d]
  rw[show fl b (a,l) e=(a++[e],l) by simp[fl,d],zk b h];simp[d]
def Mu(a):∀g(b:m fg),(if(g.foldl (fl a) (b,v)).2=l then(g.foldl (fl a) (b,v)).1 else(g.foldl (fl a) (b,v)).1++[a])=b++ea g a
 |[],b=>by simp[ea]
 |d::i,b=>by
  rw[iL];by_cases h:a.1<=d.1
  .have r:¬d.1<a.1:=u;by_cases e:d.1=a.1
   .rw[show fl a (b,v) d=(b++[a],l) by simp[fl,e],zk];simp[ea,e]
   rw[show fl a (b,v) d=(b++[a,d],l) by simp[fl,h,e],zk];simp[ea,r,e]
  have r:d.1<a.1:=u;rw[show fl a (b,v) d=(b++[d],v) by simp[fl,h],Mu a i];simp[ea,r]
theorem Mv(b):∀i(a:m fg×Bool),(i.foldl (fl b) a).1.length<=c a.1+c i+1-(if a.2=l then 1 else 0)
 |[],a=>by grind
 |d::k,a=>by
  rw[iL];have g:=Mv b k (fl b a d);obtain⟨a,j⟩:=a;simp[fh];cases j with
  |true=>
   by_cases e:d.1=b.1
   .rw[show fl b (a,l) d=(a,l) by simp[fl,e]]at g⊢;grind
   rw[show fl b (a,l) d=(a++[d],l) by simp[fl,e]]at g⊢;grind
  |false=>
   by_cases h:b.1<=d.1
   .by_cases e:d.1=b.1
    .rw[show fl b (a,v) d=(a++[b],l) by simp[fl,e]]at g⊢;grind
    rw[show fl b (a,v) d=(a++[b,d],l) by simp[fl,h,e]]at g⊢;grind
   rw[show fl b (a,v) d=(a++[d],v) by simp[fl,h]]at g⊢;grind
abbrev k2(d:fg)(b:m fg)(a:Nat):m fg×Bool:=(b.take a).foldl (fl d) ([],v)
def R4{D}{d}(a:e<c d):k2 D d (e+1)=fl D (k2 D d e) (d.getD e (0,0)):=ij
def F5(a)(d)(e):(k2 a d e).1.length<=c d+1:=by grind[Mv]
abbrev Z6(d:m fg)(e:fg)(b:Nat)(a:m fg×Bool):bJ:=[(0,e_.A d),(3,aI 0 0),(5,.n (.R (.w 1 2 (c a.1) (e_.fn a.1)))),(6,bh a.2),(7,R b)]
abbrev Z5(b:fg)(a:m fg):m ap:=[.cells 220 [.c (.int .i64 b.1),.c (.int .i64 b.2)],.w 220 2 (c a) (e_.fn a)]
def W1(d)(D:fg)(x:c d<=4000000):Z p 179 [e_.A d,Tb D] [] (e_.A (ea d D)) []:=by
 refine Z.I func179 rfl λw=>?_;refine bR [902] a A (g.bB 5 220 2 a a ?_);refine cy a A (g.aC 2 (λb=>b<=c d) (λb:Nat=>Z6 d D b (k2 D d b)) (λb=>Z5 D (k2 D d b).1) (λb=>c d-b) 0 a ?_ a ?_ a u ?_)
 .simp[k2]
 .simp[k2]
 intro b q;by_cases o:b<c d
 .have h:=R4 (D:=D) o;have i:=F5 D d b;have ak:d.getD (b:Int).toNat e_.D=d.getD b (0,0):=M;generalize k2 D d b=e at h i;obtain⟨e,j⟩:=e;simp only at i;have t:=e_.aW e (d.getD b (0,0));have k:=e_.aW e D;have m:=e_.eZ e D (d.getD b (0,0));cases j with
  |true=>
   by_cases heq:(d.getD b (0,0)).1=D.1
   .have r:k2 D d (b+1)=(e,l):=by rw[h];simp only[fl,dA,bo heq]
    refine bR [12,-38] a QS (g.aw (b+1) a FJ FJ M ?_);omega
   have r:k2 D d (b+1)=(e++[d.getD b (0,0)],l):=by rw[h];simp only[fl,dA,bm heq]
   refine bR [12,38] a QS (g.aw (b+1) a OP PC M ?_);omega
  |false=>
   by_cases au:D.1<=(d.getD b (0,0)).1
   .by_cases heq:(d.getD b (0,0)).1=D.1
    .have r:k2 D d (b+1)=(e++[D],l):=by rw[h];simp only[fl,bo au,bo heq];rfl
     refine bR [12,25,-38] a E7 (g.aw (b+1) a ?_ ?_ ?_ ?_)
     .rw[r];simp only[T.Z,T,ak,a',a7];and_intros<;>first|exact t|exact k|simp|simp|rfl|omega|simp
     .rw[r];exact bG
     .grind
     omega
    have r:k2 D d (b+1)=(e++[D,d.getD b (0,0)],l):=by rw[h];simp only[fl,bo au,bm heq];rfl
    refine bR [12,25,38] a E7 (g.aw (b+1) a ?_ ?_ ?_ ?_)
    .rw[r];simp only[T.Z,T,ak,a',a7];and_intros<;>first|exact t|exact k|exact m|simp|rfl|omega|simp
    .rw[r];simp only[T.Z,T,ak,a',a7];and_intros<;>first|exact t|exact k|exact m|grind|rfl|omega|simp
    .grind
    omega
   have heq:¬(d.getD b (0,0)).1=D.1:=u;have r:k2 D d (b+1)=(e++[d.getD b (0,0)],v):=by rw[h];simp only[fl,bm au];rfl
   refine bR [12,-25,38] a E7 (g.aw (b+1) a OP PC M ?_);omega
 obtain rfl:b=c d:=u;have N:=Mu D d [];have i:=F5 D d (c d);refine bR [-12] a C (g.az ?_);have s:k2 D d (c d)=d.foldl (fl D) ([],v):=M;rw[s]at i⊢;generalize d.foldl (fl D) ([],v)=e at *;obtain⟨e,j⟩:=e;simp only[pW]at N i;cases j with
 |true=>
  exact PZ
 |false=>
  simp only[j_,dm]at N;have t:=e_.aW e D;refine cy a ?_ (g.aq a ?_)
  .simp only[T,show o'.bytes=16 from a,a',a7];grind
  rw[<-N];simp only[T.Z,T,a',a7];and_intros<;>first|exact t|simp
abbrev Hh:bK:=er (e7 e_) sk (λa b=>e_.A (ea a b)) λa _=>[c a<=4000000]
def ac9:bL p 179 Hh:=.bh λb d a=>W1 b d a
abbrev Ed(a:b'):m fg:=a.2.map λb=>(b.1,a.1)
def hh(b:m b')(a d:Nat):m fg:=dE (b.take a)++(Ed (b.getD a (0,[]))).take d
def Ee{d}(a:e<c d):dE (d.take (e+1))=dE (d.take e)++Ed (d.getD e (0,[])):=by rw[ih a (0,[])];simp[dE]
theorem Ml(d)(e):c (dE (d.take e))<=c (dE d):=by have a:dE d=dE (d.take e)++dE (d.drop e):=RC;grind
def zh{d}(b:e<c d):∃g,dE d=hh d e t++g:=by have a:dE d=dE (d.take (e+1))++dE (d.drop (e+1)):=RC;refine⟨(Ed (d.getD e (0,[]))).drop t++dE (d.drop (e+1)),?_⟩;rw[a,Ee b,hh,mh,mh];grind[List.take_append_drop]
theorem aaG(d)(a):c (ea d a)<=c d+1:=by
 induction d with
 |nil=>simp[ea]
 |cons g e b=>
  simp only[ea];grind
theorem CH(d):∀a:m fg,c (d.foldl ea a)<=c a+c d:=by
 induction d with
 |nil=>grind
 |cons g e b=>grind[aaG]
def Vn(d)(J:c d<=4000000)(I:c (dE d)<=100000):Z p 133 [a2.A d] [] (e_.A (eB d)) []:=by
 refine Z.I func133 rfl λK=>?_;have e:ba p [(178,Ho),(179,Hh)]:=.cons adg (.cons ac9 .nil);refine cU e a A (g.aC 0 (λb=>b<=c d/\(dE (d.take b)).all fX=l) (λb:Nat=>[(0,a2.A d),(3,e_.A ((dE (d.take b)).foldl ea [])),(4,R b)]) (λ_=>[]) (λb=>c d-b) 0 a ?_ a ?_ a ⟨by omega,a⟩ ?_)
 .simp[dE]
 .simp
 rintro b ⟨r,j⟩;by_cases k:b<c d
 .have h:d.getD (b:Int).toNat a2.D=d.getD b (0,[]):=M;have q:=Ee k;refine be e [11] a bu (g.aC 0 (λt=>t<=(d.getD b (0,[])).2.length/\(hh d b t).all fX=l) (λt:Nat=>[(0,a2.A d),(3,e_.A ((hh d b t).foldl ea [])),(4,R b),(5,R t)]) (λ_=>[]) (λt=>(d.getD b (0,[])).2.length-t) 0 a ?_ a ?_ a ⟨by omega,by simpa[hh]using j⟩ ?_)
  .simp[hh]
  .simp
  rintro t ⟨O,D⟩;obtain⟨y,x⟩:=zh (d:=d) (t:=t) k;have B:c (hh d b t)<=100000:=M;have w:=CH (hh d b t) [];simp only[gK]at w;have E:(d.getD b (0,[])).2.length<=100000:=by grind[Ml]
  by_cases N:t<(d.getD b (0,[])).2.length
  .have i:(d.getD b (0,[])).2.getD (t:Int).toNat bH.D=(d.getD b (0,[])).2.getD t (0,[]):=M;have s:hh d b (t+1)=hh d b t++[(((d.getD b (0,[])).2.getD t (0,[])).1,(d.getD b (0,[])).1)]:=Rj;cases m:fX (((d.getD b (0,[])).2.getD t (0,[])).1,(d.getD b (0,[])).1)with
   |false=>
    have z:eB d=[]:=by obtain⟨y,x⟩:=zh (d:=d) (t:=t+1) k;unfold eB;rw[bm];grind
    refine be e [21,-40] a ?_ (g.aT (bY.zero a ?_))
    .simp only[T,h,i,m,bw,a',a7];exact fv
    rw[z];simp
   |true=>
    refine be e [21,40] a ?_ (g.aw (t+1) a ?_ ?_ ?_ ?_)
    .simp only[T,h,i,m,a8,e_.l,bw,a',a7];and_intros<;>first|exact e_.T _|omega
    .rw[s];simp only[uu,iL,List.foldl_nil,T.Z,T,h,i,e_.l,a',a7];and_intros<;>first|simp|rfl|omega
    .simp
    .grind
    omega
  have F:t=(d.getD b (0,[])).2.length:=u;have o:hh d b t=dE (d.take (b+1)):=by rw[q,hh];grind[List.length_map]
  refine be e [-21] a ?_ (g.az ?_)
  .simp only[T,h,dp];exact fv
  refine cU e a bG (g.aw (b+1) a ?_ ?_ ?_ ?_)
  .rw[o];simp
  .simp
  .grind
  omega
 obtain rfl:b=c d:=u;rw[cY]at j⊢;refine be e [-11] a C (g.az ?_);refine cU e a A (g.aq a ?_);simp[eB,j]
abbrev GY:bK:=dk (e7 a2) (λa=>e_.A (eB a)) λa=>[c a<=4000000,c (dE a)<=100000]
def acK:bL p 133 GY:=.a7 λb a=>Vn b a.1 a.2
abbrev xr:bK:=er c8 eE (λa b=>R (dY a b)) λa b=>[cj a=l,cC b=l]
abbrev Bv:bK:=dk eE (λa=>b1 (fJ a)) λa=>[cC a=l]
def MN:bL p 181 Bv:=.a7 λb a=>WP b a
theorem aaA(d)(b):c (fB d b)=c d+1:=by
 induction d with
 |nil=>simp[fB]
 |cons g e a=>simp only[fB];split<;>simp[a]
def h9(d:Int)(a:m bC):m cX:=a.foldl (λe b=>fB e (dY d b,fJ b)) []
def Dh(h)(Y):c (h9 h Y)=c Y:=by
 have d:∀Y b,c (Y.foldl (λe a=>fB e (dY h a,fJ a)) b)=c b+c Y:=by
  intro Y;induction Y with
  |nil=>grind
  |cons a i g=>grind[aaA]
 have:=d Y [];rw[gK,cW]at this;exact this
def ZI{Y}(a:e<c Y):h9 h (Y.take (e+1))=fB (h9 h (Y.take e)) (dY h (Y.getD e []),fJ (Y.getD e [])):=by unfold h9;grind[ih]
abbrev aak(a:Int)(b:m cX):ap:=.cells 107 [.c (.int .i64 a),.c (.A v 2 (c b) (bH.fn b))]
def We(bN h)(Y)(e:cj h=l)(m:∀t∈Y,cC t=l)(y:c Y<=4000000):Z p 134 [R bN,R h,bS.A Y] [] (fH (jP bN h Y)) []:=by
 refine Z.bb bc func134 rfl rfl rfl λx=>?_;have d:ba p [(176,xr),(181,Bv),(180,Hg)]:=.cons zo (.cons MN (.cons ac8 .nil));refine cU d a A (g.aC 2 (λb=>b<=c Y) (λb:Nat=>[(1,R h),(2,bS.A Y),(6,aI 0 0),(7,aI 1 0),(8,R b)]) (λb=>[.cells 107 [.c (.int .i64 0),.c (.A l 0 0 λ_=>[])],aak bN (h9 h (Y.take b))]) (λb=>c Y-b) 0 a C a ?_ a u ?_)
 .simp[h9]
 intro b q;by_cases o:b<c Y
 .have i:Y.getD (b:Int).toNat bS.D=Y.getD b []:=M;have j:cC (Y.getD b [])=l:=m _ M;have r:=ZI (h:=h) o;have k:=Dh h (Y.take b);rw[List.length_take]at k;refine be d [15] a ?_ (g.aw (b+1) a ?_ ?_ ?_ ?_)
  .simp only[T,i,e,j,a8,bH.l,bw,a',a7];and_intros<;>first|exact bH.T _|omega
  .simp
  .rw[r];simp only[T.Z,T,i,bH.l,a',a7];and_intros<;>first|simp|rfl|omega
  .grind
  omega
 obtain rfl:b=c Y:=u;rw[cY];refine be d [-15] a C (g.az ?_);refine cU d a A (g.bc () [] ?_ (λw s=>absurd s C));simp[jP,h9]
def WX(b):Z p 255 [b1 b] [] (bh (cC b)) []:=by
 refine Z.I func255 rfl λh=>?_;have e:ba p [(31,kH),(94,xk)]:=.cons lp (.cons MD .nil);by_cases d:1<=c b/\c b<=8
 .refine a_ e [6] a bQ (g.aq a ?_);simp[cC,d.1,d.2]
 refine a_ e [-6] a bQ (g.aq a ?_);have:cC b=v:=by simp[cC,<-Bool.decide_and,oS d,sv]
 simp[this]
abbrev Hd:bK:=dk eE (λa=>bh (cC a)) λ_=>[]
def ac3:bL p 255 Hd:=.a7 λa _=>WX a
def WO(a):Z p 215 [b1 a] [] (b1 (fJ a)) []:=by
 refine Z.I func215 rfl λd=>?_;have b:ba p [(255,Hd),(181,Bv)]:=.cons ac3 (.cons MN .nil);cases s:cC a with
 |true=>exact a_ b [-5] rfl g6 (g.aq rfl)
 |false=>exact a_ b [5] rfl g6 (g.aq rfl (by simp[fJ,s]))
abbrev Hb:bK:=dk eE (λa=>b1 (fJ a)) λ_=>[]
def ac1:bL p 215 Hb:=.a7 λa _=>WO a
def aac(b):c (fJ b)<=8:=by
 unfold fJ;split
 .rename_i a;simp[cC,cn,bw]at a;grind[HA]
 simp
def WM(i):Z p 182 [b1 i] [] (iS (hJ i)) []:=by
 refine Z.I func182 rfl λz=>?_;have D:=z.V 0 a;have q:ba p [(215,Hb)]:=.cons ac1 .nil;refine aO a A ?_;have fin:∀j,j<=c i->fm (i.take j)=fm i->(j=0∨fm (i.take j)=i.take j)->i.take j=fm i:=λj d w o=>by
  rcases o with rfl|o
  .exact bG
  grind
 have e:∀j,j<=c i->i.take j=fm i->hJ i=if c i<=8/\fJ (fm i)=i/\j≠0 then f (i.take j)else n:=λj d w=>by
  have E:=aac (fm i);have s:j=0↔fm i=[]:=by grind[List.take_eq_nil_iff]
  unfold hJ;rw[w];by_cases N:fJ (fm i)=i
  .by_cases h:cC (fm i)=l
   .have:j≠0:=λx=>by rw[s.1 x]at h;cases h
    grind
   have x:j=0:=s.2 (by rw[fJ,bm h]at N;grind);grind
  grind
 refine g.cj (S2:=Nat) 0 a a (λj=>j<=c i/\i.take j=fm i) (λj=>[(0,b1 i),(4,R j)]) (λ_=>[]) 0 (λj=>j<=c i/\fm (i.take j)=fm i) (λj:Nat=>[(0,b1 i),(4,R j)]) (λ_=>[]) (λj=>j) (c i) a C a A a ⟨by omega,by simp⟩ ?_ ?_
 .rintro dw j ⟨d,r⟩;rcases j with _|j
  .refine a5 [-9,-15] a C (g.az ?_);exact dw 0 ⟨d,fin 0 d r (.inl a)⟩ a C a A
  have s:=Mx (b:=i) (j:=j) u;have ak:((j:Int)+1-1).toNat=j:=u;by_cases o:i.getD j 0=46
  .refine a5 [9,15] a ?_ (g.aw j a ?_ A ⟨by omega,?_⟩ u)
   .have N:dq i j=46:=by unfold dq;exact bG
    exact Pj
   .simp
   grind
  refine a5 [9,-15] a ?_ (g.az ?_)
  .have N:dq i j≠46:=by unfold dq;intro B;exact o (ur.1 M)
   exact Pj
  exact dw (j+1) ⟨d,fin _ d r (.inr M)⟩ a C a A
 rintro j ⟨d,y⟩;have F:=e j d y;have t:mo i n (f (j:Int))=fm i:=y▸rfl;have m:((c i:Int)<=8)↔c i<=8:=u;by_cases k:c i<=8
 .by_cases iN:fJ (fm i)=i
  .by_cases jH:j=0
   .refine a_ q [-21,-29,32] a ?_ (g.aq a ?_)
    .subst jH;simp[T,t,iN];grind
    exact bG
   refine a_ q [-21,-29,-32] a ?_ (g.aq a ?_)
   .simp[t,m,k,iN,jH,d]
   exact bG
  refine a_ q [-21,29,32] a ?_ (g.aq a ?_)
  .simp[t,m,k,iN,d]
  exact bG
 refine a_ q [21,29,32] a bQ (g.aq a ?_);exact bG
abbrev Bu:bK:=dk eE (λa=>iS (hJ a)) λ_=>[]
def MM:bL p 182 Bu:=.a7 λa _=>WM a
def W6(h)(b)(a:cj h=l):Z p 137 [R h,B0 b] [] (bh (right h b)) []:=by
 refine Z.I func137 rfl λe=>?_;have d:ba p [(182,Bu),(176,xr)]:=.cons MM (.cons zo .nil);cases w:hJ b.2 with
 |none=>exact a_ d [-14] rfl oJ (g.aq rfl (by simp[right,w]))
 |some i=>exact a_ d [14] rfl (by simp[w,a,K4 w]) (g.aq rfl (by simp[right,w]))
abbrev Bw:bK:=er c8 sl (λa b=>bh (right a b)) λa _=>[cj a=l]
def MO:bL p 137 Bw:=.bh λb d a=>W6 b d a
def VC(h):Z p 30 [R h] [] (bh (cj h)) []:=by refine Z.I func30 rfl λd=>?_;have b:ba p [(31,kH)]:=.cons lp .nil;exact b_ b a A (g.aq a (by simp[cj]))
abbrev rq:bK:=dk c8 (λa=>bh (cj a)) λ_=>[]
def tK:bL p 30 rq:=.a7 λa _=>VC a
abbrev xp(a:b'):ap:=.cells 107 [.c (.int .i64 a.1),.c (lm a)]
def WG(h)(b)(j):Z p 216 [R h,fH b,R j] [] (iS (fS h b j)) []:=by
 refine Z.I func216 rfl λw=>?_;have i:ba p [(30,rq),(137,Bw),(182,Bu)]:=.cons tK (.cons MO (.cons MM .nil));cases b2:cj h with
 |false=>
  refine a_ i [11] a l8 (g.aq a ?_);have:fS h b j=n:=by unfold fS iO;grind
  simp[this]
 |true=>
 have x:=w.ga 1 a 1 a;refine a_ i [-11] a l8 (g.aC 1 (λd=>d<=c b.2/\b.2.find? (λD=>D.1==j)=(b.2.drop d).find? (λD=>D.1==j)) (λd:Nat=>[(0,R h),(4,aI 0 0),(2,R j),(8,R d)]) (λ_=>[xp b]) (λd=>c b.2-d) 0 a C a C a ⟨by omega,a⟩ ?_);rintro d ⟨t,e⟩;by_cases q:d<c b.2
 .have z:b.2.getD d bH.D=d_ b d:=rfl;have r:b.2.drop d=d_ b d::b.2.drop (d+1):=Fz;rw[r,List.find?_cons]at e;by_cases m:(d_ b d).1=j
  .rw[show((d_ b d).1==j)=l by grind]at e;cases k:right h (d_ b d)with
   |false=>
    have s:right h (j,(d_ b d).2)=v:=m▸k;refine a_ i [16,26,34] a dB (g.aT (bY.zero a ?_));have o:fS h b j=n:=by have:=BG (h:=h) (D:=d_ b d) b2;rw[k]at this;simp[fS,e];simp_all
    simp[o]
   |true=>
    have s:right h (j,(d_ b d).2)=l:=m▸k;refine a_ i [16,26,-34] a dB (g.aT (bY.zero a ?_));have o:fS h b j=hJ (d_ b d).2:=by simp[fS,e,iO];unfold right at k;grind
    simp_all
  rw[show((d_ b d).1==j)=v by grind]at e;refine a_ i [16,-26] a ?_ (g.aw (d+1) a C C ⟨q,e⟩ u);simp[-aj,z,m,a8,q];omega
 obtain rfl:d=c b.2:=u;refine a_ i [-16] a C (g.az ?_);refine b_ i a A (g.aq a ?_);simp[fS,e]
abbrev He:bK:=kh c8 (jA bH) c8 (λa d b=>iS (fS a d b)) λ_ _ _=>[]
def ac6:bL p 216 He:=.c5 λa d b _=>WG a d b
theorem DA(b:Int)(a:b'):ia b a=(decide (1<=a.1/\a.1<=99)&&cj b&&decide (1<=c a.2/\c a.2<=4)&&(az (c a.2)).all (ie b a)):=by grind[Dz]
def abW{S:b'}(a:e≠0):ie h S e=(right h (d_ S e)&&decide ((d_ S (e-1)).1<(d_ S e).1)):=by unfold ie;grind
def WJ(h:Int)(S:b'):Z p 102 [R h,fH S] [] (bh (ia h S)) []:=by
 refine Z.I func102 rfl λw=>?_;have d:ba p [(31,kH),(30,rq),(137,Bw)]:=.cons lp (.cons tK (.cons MO .nil));have y:=w.ga 1 a 1 a;rw[DA];by_cases j:1<=S.1/\S.1<=99
 rotate_left
 .exact a_ d [10,14,21] a bQ (g.aq a bG)
 cases e:cj h
 .exact a_ d [-10,14,21] a dB (g.aq a)
 by_cases k:1<=c S.2/\c S.2<=4
 rotate_left
 .exact a_ d [-10,-14,21] a bG (g.aq a bu)
 refine a_ d [-10,-14,-21] a lH ?_;rw[fQ j,fQ k,fR,fR,fR];refine g.aC 1 (λb=>b<=c S.2/\∀r,r<b->ie h S r=l) (λb:Nat=>[(0,R h),(3,aI 0 0),(5,R b)]) (λ_=>[xp S]) (λb=>c S.2-b) 0 a C a C a ⟨by omega,by omega⟩ ?_;rintro b ⟨t,m⟩;by_cases s:b<c S.2
 .have B:S.2.getD b bH.D=d_ S b:=rfl;cases i:right h (d_ S b)with
  |false=>
   refine a_ d [26,37,56] a dB (g.aT (bY.zero a ?_));rw[lF s (by simp only[ie,i,sv])];simp
  |true=>
   by_cases q:b=0
   .subst q;refine a_ d [26,-37,-40,-56] a ?_ (g.aw 1 a C C ⟨s,jf m (by simp only[ie,i,fR];rfl)⟩ u);exact lH
   have o:S.2.getD (b-1) bH.D=d_ S (b-1):=rfl;have z:=abW (h:=h) (S:=S) q;by_cases x:(d_ S (b-1)).1<(d_ S b).1
   .refine a_ d [26,-37,40,-54,-56] a ?_ (g.aw (b+1) a C C ⟨s,jf m M⟩ u);simp[-aj,B,o,i,e,s,x,a8];omega
   refine a_ d [26,-37,40,54,56] a ?_ (g.aT (bY.zero a ?_))
   .simp[-aj,B,o,i,e,s,a8];omega
   exact jZ
 obtain rfl:b=c S.2:=u;refine a_ d [-26] a C (g.az ?_);exact b_ d a A (g.aq a bu)
abbrev Ha:bK:=er c8 (jA bH) (λa b=>bh (ia a b)) λ_ _=>[]
def acY:bL p 102 Ha:=.bh λa b _=>WJ a b
def oc{a:m α}{N:α}(b:e<c a):a.getD e N∈a:=M
def YE{a:m Int}{b:Int}:a.contains b=!(az (c a)).all λd=>!(a.getD d 0==b):=by rw[oV,je,<-pV,fZ,Ax];grind[List.mem_iff_getElem]
def UU(d:m Int)(e:Int):Z p 62 [aA.A d,R e] [] (bh (d.contains e)) []:=by
 refine Z.I func62 rfl λk=>?_;have q:=k.A 0 a;refine aO a A ?_;rw[YE];refine g.b' (λb=>b<=c d/\∀i,i<b->(!(d.getD i 0==e))=l) (λb:Nat=>[(0,aA.A d),(1,R e),(5,R b)]) (λ_=>[]) (λb=>c d-b) 0 a C a A ⟨by omega,by omega⟩ ?_;rintro b ⟨o,j⟩;by_cases s:b<c d
 .have r:d.getD b aA.D=d.getD b 0:=rfl;by_cases h:d.getD b 0=e
  .refine a5 [9,17] a ?_ (g.bR (bY.zero a ?_))
   .simp[-aj,r,h,s]
   exact jZ
  refine a5 [9,-17] a ?_ (g.b5 (b+1) a C a A ⟨s,jf j M⟩ u);simp[-aj,r,h,s,a8];omega
 obtain rfl:b=c d:=u;refine a5 [-9] a C (g.bs a a ?_);exact aO a A (g.aq a dB)
abbrev uO:bK:=er (e7 aA) c8 (λa b=>bh (a.contains b)) λ_ _=>[]
def zm:bL p 62 uO:=.bh λa b _=>UU a b
def WV(e:Int)(b:m b')(h:Int):Z p 183 [R e,a2.A b,R h] [] (iS (dg e b h)) []:=by
 refine Z.I func183 rfl λs=>?_;have w:=s.A 1 a;have k:ba p [(216,He)]:=.cons ac6 .nil;refine b_ k a A (g.b' (λd=>d<=c b/\dg e b h=dg e (b.drop d) h) (λd:Nat=>[(0,R e),(1,a2.A b),(2,R h),(8,R d)]) (λ_=>[]) (λd=>c b-d) 0 a C a A ⟨by omega,a⟩ ?_);rintro d ⟨t,i⟩;by_cases o:d<c b
 .have r:b.drop d=b.getD d (0,[])::b.drop (d+1):=Fz;have q:((b.getD d a2.D).1,bH.ad (b.getD d a2.D).2.length (bH.fn (b.getD d a2.D).2))=b.getD d (0,[]):=bG;rw[r,show dg e (b.getD d (0,[])::b.drop (d+1)) h=_ from List.findSome?_cons]at i;cases j:fS e (b.getD d (0,[])) h with
  |some x=>
   rw[j]at i;refine a_ k [14,27] a ?_ (g.bR (bY.zero a ?_))
   .simp[-aj,q,j,o,bH.T]
   simp_all
  |none=>
   rw[j]at i;refine a_ k [14,-27] a ?_ (g.b5 (d+1) a C a A ⟨o,i⟩ u);simp[-aj,q,j,o,a8,bH.T];omega
 obtain rfl:d=c b:=u;refine a5 [-14] a C (g.bs a a ?_);exact aO a A (g.aq a (by rw[i,uv];simp[dg]))
abbrev Hc:bK:=kh c8 (e7 a2) c8 (λb a d=>iS (dg b a d)) λ_ _ _=>[]
def ac2:bL p 183 Hc:=.c5 λb a d _=>WV b a d
def W7(w i):Z p 217 [bS.A w,bS.A i] [] (bh (w==i)) []:=by
 refine Z.I func217 rfl λk=>?_;have t:=k.A 0 a;by_cases r:c w=c i
 rotate_left
 .have:(w==i)=v:=e0.2 M;exact a5 [10] a bQ (g.aq a (by simp[this]))
 refine a5 [-10] a bQ (g.b' (λb=>b<=c w/\∀d,d<b->w.getD d []=i.getD d []) (λb:Nat=>[(0,bS.A w),(1,bS.A i),(5,R b)]) (λ_=>[]) (λb=>c w-b) 0 a C a A ⟨by omega,by omega⟩ ?_);rintro b ⟨q,s⟩;by_cases o:b<c w
 .have h:∀j:m bC,j.getD b bS.D=j.getD b []:=λ_=>rfl;by_cases e:w.getD b []=i.getD b []
  .refine a5 [14,-25] a ?_ (g.b5 (b+1) a C a A ⟨o,λd x=>?_⟩ u)
   .simp[-aj,h,e,a8];omega
   grind
  refine a5 [14,25] a ?_ (g.bR (bY.zero a ?_))
  .simp[-aj,h,e];omega
  exact EZ
 obtain rfl:b=c w:=u;have:w=i:=rh r λd e y=>by grind
 refine a5 [-14] a C (g.bs a a ?_);exact aO a A (g.aq a (by simp[this]))
def ada:bL p 217 xo:=.bh λa b _=>W7 a b
def La(o):∀d e b,b∈iB o d e->c b<=8
 |0,_,b,a=>by exact bG
 |d+1,e,b,a=>by
  simp only[iB]at a;split at a
  .rename_i g;rcases e8.1 a with rfl|a
   .grind [rz]
   exact La o d _ b a
  grind
def S6{d}{a}(e:a∈d)(g:8<c a):iQ d=n:=by unfold iQ;rw[bm];intro b;simp[cn,gL]at b;have:=La d.flatten (c d.flatten) 0 a (by rw[show iB d.flatten (c d.flatten) 0=d from b.2];exact e);omega
def Yo(a:m bC)(e):(a.take e).flatten.length<=c a.flatten:=FD
def S5{d:m bC}(b:40<(d.take e).flatten.length):iQ d=n:=by have:=Yo d e;unfold iQ;rw[bm];intro a;simp only[cn,fK,bw]at a;omega
def VA(d):Z p 184 [bS.A d] [] (iS (iQ d)) []:=by
 refine Z.I func184 rfl λq=>?_;have s:=q.A 0 a;have b:ba p [(55,xj),(174,xm),(217,xo)]:=.cons MC (.cons Em (.cons ada .nil));refine b_ b a A (g.b' (λe=>e<=c d/\(d.take e).flatten.length<=48) (λe:Nat=>[(0,bS.A d),(4,b1 (d.take e).flatten),(5,R e)]) (λ_=>[]) (λe=>c d-e) 0 a C a A ⟨by omega,by simp⟩ ?_);rintro e ⟨o,k⟩;by_cases j:e<c d
 .have i:d.getD e bS.D=d.getD e []:=rfl;have w:(d.take (e+1)).flatten=(d.take e).flatten++d.getD e []:=ij;by_cases h:c (d.getD e [])<=8
  .by_cases r:(d.take e).flatten.length<=40
   .refine a_ b [9,-18,-22] a ?_ (g.b5 (e+1) a ?_ a A ⟨j,by grind⟩ u)
    .simp[-aj,-List.length_flatten,i,a8];omega
    simp_all
   refine a_ b [9,-18,22] a ?_ (g.bR (bY.zero a ?_))
   .simp[-aj,-List.length_flatten,i];omega
   simp[S5 (d:=d) (e:=e) u]
  refine a_ b [9,18,22] a ?_ (g.bR (bY.zero a ?_))
  .simp[-aj,i];omega
  simp[T,T.Z,S6 (oc (N:=[]) j) u]
 obtain rfl:e=c d:=u;rw[cY]at k⊢;refine a_ b [-9] a C (g.bs a a ?_);have m:=bS.l d;cases h:fK d.flatten with
 |false=>exact a_ b [32,38] rfl (by simp[h]) (g.aq rfl (by simp[iQ,h]))
 |true=>
  have t:dX d.flatten=l:=by simp[fK,cn]at h;exact h.2
  cases r:(ck d.flatten==d)with
  |false=>
   refine a_ b [-32,38] a ?_ (g.aq a (by simp[iQ,r]));exact bG
  |true=>
   refine a_ b [-32,-38] a ?_ (g.aq a (by simp[iQ,h,r]));exact bG
abbrev G1:bK:=dk (e7 bS) (λa=>iS (iQ a)) λ_=>[]
def acO:bL p 184 G1:=.a7 λa _=>VA a
abbrev ze(a:eK):ap:=.cells 104 [.c (.int .i64 a.1),.c (.A v 2 (c a.2) (cA.fn a.2))]
abbrev nm(d:Int)(b:m b')(a:m Int):m bC:=a.map λe=>(dg d b e).getD []
def YD{Y}{a}(b:t<c a):nm h Y (a.take (t+1))=nm h Y (a.take t)++[(dg h Y (a.getD t 0)).getD []]:=ij
def Ye{Y}{a}(d:t<c a)(b:dg h Y (a.getD t 0)=n):g4 h Y a=n:=NN
def Yf{Y}{a}(d:∀b,b<c a->(dg h Y (a.getD b 0)).isSome=l):g4 h Y a=f (nm h Y a):=by unfold g4;rw[bo];grind[List.mem_iff_getElem]
def Xr(h)(b)(Y)(ab:c b.2<=4000000)(U:∀e∈b.2,c e.2<=4000000):
  Z p 138 [R h,iT b,a2.A Y] [] (r1 ((ev h b Y).getD []) (ev h b Y).isSome) []:=by
 refine Z.I func138 rfl λH=>?_;have o:ba p [(30,rq),(183,Hc),(184,G1),(32,sH)]:=.cons tK (.cons ac2 (.cons acO (.cons t32 .nil)));cases b2:cj h with
 |false=>
  refine a_ o [19] a l8 (g.aq a ?_);simp[ev,b2]
 |true=>
 refine a_ o [-19,904] a l8 (g.bB 8 91 2 a a ?_);refine b_ o a A (g.aC 2 (λm=>m<=c b.2/\∀k,k<m->(fI h Y (b.2.getD k ([],[]))).isSome=l) (λm:Nat=>[(0,R h),(2,a2.A Y),(4,aI 0 0),(8,.n (.R (.w 1 2 (c (fj h Y (b.2.take m))) (bB.fn (fj h Y (b.2.take m)))))),(9,R m)]) (λm=>[ze b,.w 91 2 (c (fj h Y (b.2.take m))) (bB.fn (fj h Y (b.2.take m)))]) (λm=>c b.2-m) 0 a z3 a z3 a ⟨by omega,by omega⟩ ?_);rintro m ⟨V,K⟩;by_cases w:m<c b.2
 .have F:=U _ (oc (N:=([],[])) w);have ak:=Cw (h:=h) (Y:=Y) w;have X:c (fj h Y (b.2.take m))=m:=by simp[fj];omega
  have i:b.2.getD (m:Int).toNat cA.D=b.2.getD m ([],[]):=M;have D:=D9 (h:=h) (Y:=Y) w;generalize x:b.2.getD m ([],[])=e at F ak i D;generalize fj h Y (b.2.take m)=s at *;refine a_ o [25,908] a bQ (g.bB 10 9 1 a a ?_);refine b_ o a A (g.aC 3 (λk=>k<=c e.2/\∀y,y<k->(dg h Y (e.2.getD y 0)).isSome=l) (λk:Nat=>[(0,R h),(2,a2.A Y),(4,aI 0 0),(8,.n (.R (.w 1 2 (c s) (bB.fn s)))),(9,R m),(10,.n (.R (.w 2 1 (c (nm h Y (e.2.take k))) (bS.fn (nm h Y (e.2.take k)))))),(11,R k)]) (λk=>[ze b,.w 91 2 (c s) (bB.fn s),.w 9 1 (c (nm h Y (e.2.take k))) (bS.fn (nm h Y (e.2.take k)))]) (λk=>c e.2-k) 0 a C a C a ⟨by omega,by omega⟩ ?_);rintro k ⟨ae,aa⟩;by_cases E:k<c e.2
  .have r:e.2.getD (k:Int).toNat aA.D=e.2.getD k 0:=M;cases z:dg h Y (e.2.getD k 0)with
   |none=>
    have t:fI h Y e=n:=by simp[fI,Ye E z]
    refine a_ o [37,56] a ?_ (g.aT (g.dL (bY.zero a ?_)))
    .simp only[T,i,r,z,a2.l,a2.T];grind
    rw[D t];simp
   |some y=>
    have d:=YD (h:=h) (Y:=Y) E;rw[z]at d;have Q:c (nm h Y (e.2.take k))=k:=M;have q:=bS.aW (nm h Y (e.2.take k)) y;refine a_ o [37,-56] a ?_ (g.aw (k+1) a ?_ ?_ ⟨E,λW S=>?_⟩ u)
    .simp only[T,i,r,z,a2.l,a2.T,Q,a8,show s3.bytes=16 from a];grind
    .exact Qs
    .exact Qs
    grind
  obtain rfl:k=c e.2:=u;have I:=Yf aa;rw[cY];have Q:c (nm h Y e.2)=c e.2:=C;refine a_ o [-37] a (by simp only[T,i];simp[w]) (g.az ?_);cases j:iQ (nm h Y e.2)with
  |none=>
   have t:fI h Y e=n:=by simp[fI,I,j]
   refine a_ o [68] a ?_ (g.aT (bY.zero a ?_))
   .simp only[T,bS.l,bS.T,j];simp
   rw[D t];simp
  |some J=>
   have t:fI h Y e=f (e.1,J):=by simp[fI,I,j]
   rw[t]at ak;have O:=bB.aW s (e.1,J);refine a_ o [-68] a ?_ (g.aw (m+1) a ?_ ?_ ⟨w,λW S=>?_⟩ u)
   .simp only[T,i,bS.l,bS.T,j,X,a8,show rI.bytes=32 from a];grind
   .exact Of
   .exact Of
   grind
 obtain rfl:m=c b.2:=u;rw[cY];have G:b.2.all (λe=>(fI h Y e).isSome)=l:=aX.2 λe F=>by grind[List.mem_iff_getElem]
 refine a_ o [-25] a C (g.az ?_);cases B:dN (fj h Y b.2)with
 |false=>
  refine a_ o [83] a ?_ (g.aq a ?_)
  .simp[bB.l,bB.T,B]
  simp[ev,B]
 |true=>
  refine a_ o [-83] a ?_ (g.aq a ?_)
  .simp[bB.l,bB.T,B]
  simp[ev,B,b2,G]
abbrev Hn:bK:=kh c8 (jA cA) (e7 a2) (λd b a=>r1 ((ev d b a).getD []) (ev d b a).isSome) λ_ b _=>[c b.2<=4000000,∀e∈b.2,c e.2<=4000000]
def adf:bL p 138 Hn:=.c5 λd e a b=>Xr d e a b.1 b.2
abbrev Af:=Int×Int
def hx(a:Af):Bool:=decide (1<=a.1/\a.1<=2)&&decide (1<=a.2/\a.2<=20)
def f'(a:m Af):Bool:=(az (c a)).all (λb=>hx (a.getD b (0,0)))&&decide (c a<=9)
abbrev BZ(a:Af):x:=.n (.agg [.c (.int .i64 a.1),.c (.int .i64 a.2)])
def U2(b):Z p 136 [BZ b] [] (bh (hx b)) []:=by
 refine Z.I func136 rfl λh=>?_;have e:ba p [(31,kH)]:=.cons lp .nil;by_cases d:1<=b.1/\b.1<=2
 .exact a_ e [6] a (by simp[d]) (g.aq a (by simp[hx,d]))
 exact a_ e [-6] a bQ (g.aq a (by simp only[T,hx,oS d];simp))
def Wb(d):Z p 99 [a3.A d] [] (bh (f' d)) []:=by
 refine Z.I func99 rfl λm=>?_;have r:=m.A 0 a;have h:ba p [(136,dk sk (λe=>bh (hx e)) λ_=>[])]:=.cons (.a7 λe _=>U2 e) .nil;refine b_ h a A ?_;unfold f';refine g.b' (λb=>b<=c d/\∀k,k<b->hx (d.getD k (0,0))=l) (λb:Nat=>[(0,a3.A d),(3,R b)]) (λ_=>[]) (λb=>c d-b) 0 a C a A ⟨by omega,by omega⟩ ?_;rintro b ⟨q,j⟩;by_cases e:b<c d
 .have o:d.getD b a3.D=d.getD b (0,0):=rfl;cases i:hx (d.getD b (0,0))with
  |false=>
   refine a_ h [7,15] a dB (g.bR (bY.zero a ?_));rw[lF e i];simp
  |true=>
   refine a_ h [7,-15] a ?_ (g.b5 (b+1) a C a A ⟨e,jf j i⟩ u);simp[-aj,o,i,e,a8];omega
 obtain rfl:b=c d:=u;refine a_ h [-7] a C (g.bs a a ?_);exact b_ h a A (g.aq a (by rw[fZ.2 j];simp;omega))
abbrev n2:bK:=dk (e7 a3) (λa=>bh (f' a)) λ_=>[]
def MI:bL p 99 n2:=.a7 λa _=>Wb a
def cr(a:m b'):m Int:=a.flatMap λb=>b.2.map (·.1)
def kb(d:α->Int)(b:α)(e:m α)(a:Nat):Bool:=a==0||decide (d (e.getD (a-1) b)<d (e.getD a b))
def nG(d:Int)(a:m b')(b:Nat):Bool:=ia d (a.getD b (0,[]))&&kb (·.1) (0,[]) a b
def lo(d:Int)(a:cz)(b:Nat):Bool:=decide (1<=(a.2.1.getD b (0,[])).1/\(a.2.1.getD b (0,[])).1<=20)&&kb (·.1) (0,[]) a.2.1 b&&(ev d (a.2.1.getD b (0,[])) a.1).isSome
def hY(b:Int)(a:cz):Bool:=(az (c a.1)).all (nG b a.1)&&decide (cr a.1).Nodup&&(az (c a.2.1)).all (lo b a)&&cj b&&f' a.2.2&&decide (c a.1<=20)
def Kx{Y}(a:e<c Y):cr (Y.take (e+1))=cr (Y.take e)++(Y.getD e (0,[])).2.map (·.1):=by rw[ih a (0,[])];simp[cr]
def ZL{Y}(a:¬(cr (Y.take e)).Nodup):¬(cr Y).Nodup:=λb=>a (by
 have:cr Y=cr (Y.take e)++cr (Y.drop e):=RA
 grind)
abbrev oD(a:cz):ap:=.cells 30 [.c (.A v 2 (c a.1) (a2.fn a.1)),.c (.A v 2 (c a.2.1) (bj.fn a.2.1)),.c (.A v 2 (c a.2.2) (a3.fn a.2.2))]
def UT(h)(b)(d)(j:c d.2<=4000000)(m:∀i∈d.2,c i.2<=4000000):Z p 103 [R h,b9 b,iT d] [] (bh (ev h d b.1).isSome) []:=by
 refine Z.I func103 rfl λk=>?_;have e:ba p [(138,Hn)]:=.cons adf .nil;have o:(d.1,cA.ad (c d.2) (cA.fn d.2))=d:=by rw[cA.l]
 refine b_ e a bG (g.aq a ?_);simp[cA.l,a2.l]
abbrev GW:bK:=kh c8 oX (jA cA) (λb d a=>bh (ev b a d.1).isSome) λ_ _ a=>[c a.2<=4000000,∀e∈a.2,c e.2<=4000000]
def acH:bL p 103 GW:=.c5 λb d e a=>UT b d e a.1 a.2
def p4{ak:α->Int}{N}{d}(a:e≠0):kb ak N d e=decide (ak (d.getD (e-1) N)<ak (d.getD e N)):=by unfold kb;grind
def XB(h)(b)(L:ln b)(P:c b.1<=4000000)(ae:c b.2.1<=4000000):Z p 60 [R h,b9 b] [] (bh (hY h b)) []:=by
 refine Z.I func60 rfl λaL=>?_;have r:ba p [(102,Ha),(62,uO),(31,kH),(103,GW),(30,rq),(99,n2)]:=.cons acY (.cons zm (.cons lp (.cons acH (.cons tK (.cons MI .nil)))));refine a_ r [902] a A (g.bB 5 3 1 a a ?_);refine b_ r a A ?_;unfold hY;refine g.aC 2 (λe=>e<=c b.1/\(∀k,k<e->nG h b.1 k=l)/\(cr (b.1.take e)).Nodup/\c (cr (b.1.take e))<=4*e) (λe:Nat=>[(0,R h),(3,aI 0 0),(5,.n (.R (.w 1 1 (c (cr (b.1.take e))) (aA.fn (cr (b.1.take e)))))),(6,R e)]) (λe=>[oD b,.w 3 1 (c (cr (b.1.take e))) (aA.fn (cr (b.1.take e)))]) (λe=>c b.1-e) 0 a ET a ET a ⟨by omega,by omega,by simp[cr],by simp[cr]⟩ ?_;rintro e ⟨J,B,U,ab⟩;by_cases s:e<c b.1
 .have S:=Kx s;have K:=ZL (Y:=b.1) (e:=e+1);have z:b.1.getD e a2.D=b.1.getD e (0,[]):=rfl;have j:b.1.getD (e-1) a2.D=b.1.getD (e-1) (0,[]):=rfl;have t:nG h b.1 e=(ia h (b.1.getD e (0,[]))&&kb (·.1) (0,[]) b.1 e):=rfl;have W:=p4 (ak:=λi:b'=>i.1) (N:=(0,[])) (d:=b.1) (e:=e);generalize x:b.1.getD e (0,[])=i at *;generalize b.1.getD (e-1) (0,[])=w at *;cases o:ia h i with
  |false=>
   rw[o,sv]at t;refine a_ r [14,25,44] a P9 (g.aT (bY.zero a ?_));rw[lF s t];simp
  |true=>
   have af:c i.2<=4:=by grind[DA]
   rw[o,fR]at t;cases D:kb (·.1) (0,[]) b.1 e with
   |false=>
    have y:e≠0:=by rintro rfl;cases D
    have I:¬w.1<i.1:=M;refine a_ r [14,-25,28,42,44] a QC (g.aT (bY.zero a ?_));rw[lF s (t.trans D)];simp
   |true=>
   rw[D]at t;apply g.cf [(0,R h),(3,aI 0 0),(5,.n (.R (.w 1 1 (c (cr (b.1.take e))) (aA.fn (cr (b.1.take e)))))),(6,R e),(7,R 0)] [oD b,.w 3 1 (c (cr (b.1.take e))) (aA.fn (cr (b.1.take e)))]
   .intro aa;by_cases y:e=0
    .subst y;refine a_ r [14,-25,-28,-44] a P9 (aa _ _ a ?_);simp
    have I:w.1<i.1:=M;refine a_ r [14,-25,28,-42,-44] a QC (aa _ _ a ?_);simp
   generalize cr (b.1.take e)=m at *;refine g.aC 2 (λk=>k<=c i.2/\(m++(i.2.take k).map (·.1)).Nodup) (λk:Nat=>[(0,R h),(3,aI 0 0),(5,.n (.R (.w 1 1 (c (m++(i.2.take k).map (·.1))) (aA.fn (m++(i.2.take k).map (·.1)))))),(6,R e),(7,R k)]) (λk=>[oD b,.w 3 1 (c (m++(i.2.take k).map (·.1))) (aA.fn (m++(i.2.take k).map (·.1)))]) (λk=>c i.2-k) 0 a C a C a ⟨by omega,by grind⟩ ?_;rintro k ⟨ag,G⟩;by_cases q:k<c i.2
   .have O:i.2.getD k bH.D=d_ i k:=rfl;have eI:m++(i.2.take (k+1)).map (·.1)=(m++(i.2.take k).map (·.1))++[(d_ i k).1]:=ij;have V:c (m++(i.2.take k).map (·.1))=c m+k:=M;generalize m++(i.2.take k).map (·.1)=E at *;cases Q:E.contains (d_ i k).1 with
    |true=>
     refine a_ r [53,67] a ?_ (g.aT (g.dL (bY.zero a ?_)))
     .simp[-aj,-List.contains_eq_mem,z,O,s,q,Q,aA.l,aA.T]
     .have bz:¬(cr b.1).Nodup:=K (by
       have ah:m++i.2.map (·.1)=(m++(i.2.take (k+1)).map (·.1))++(i.2.drop (k+1)).map (·.1):=C
       grind)
      simp[bz]
    |false=>
     have H:=aA.aW E (d_ i k).1;have X:aA.ad (c m+k) (aA.fn E)=E:=by rw[<-V];exact aA.l E
     refine a_ r [53,-67] a ?_ (g.aw (k+1) a ?_ ?_ ⟨q,?_⟩ u)
     .simp[-aj,-List.contains_eq_mem,z,O,s,q,Q,aA.l,aA.T,V,X,a8,show d9.bytes=8 from a];omega
     .exact QQ
     .exact QQ
     grind
   obtain rfl:k=c i.2:=u;rw[cY]at G⊢;refine a_ r [-53] a ?_ (g.az ?_)
   .simp[-aj,z,s]
   refine b_ r a bG (g.aw (e+1) a ?_ ?_ ⟨s,jf B t,by grind,by grind⟩ u)
   .rw[S];simp
   rw[S];simp
 obtain rfl:e=c b.1:=u;rw[cY]at U⊢;refine a_ r [-14] a C (g.az ?_);refine b_ r a A ?_;rw[fZ.2 B,fQ U,fR,fR];generalize cr b.1=m;refine g.aC 2 (λe=>e<=c b.2.1/\(∀k,k<e->lo h b k=l)) (λe:Nat=>[(0,R h),(3,aI 0 0),(8,R e)]) (λ_=>[oD b,.w 3 1 (c m) (aA.fn m)]) (λe=>c b.2.1-e) 0 a C a C a ⟨by omega,by omega⟩ ?_;rintro e ⟨J,B⟩;by_cases s:e<c b.2.1
 .have z:b.2.1.getD e bj.D=b.2.1.getD e (0,[]):=rfl;have j:b.2.1.getD (e-1) bj.D=b.2.1.getD (e-1) (0,[]):=rfl;have bi:=L _ (oc (N:=(0,[])) s);have t:lo h b e=(decide (1<=(b.2.1.getD e (0,[])).1/\(b.2.1.getD e (0,[])).1<=20)&&kb (·.1) (0,[]) b.2.1 e&&(ev h (b.2.1.getD e (0,[])) b.1).isSome):=rfl;have W:=p4 (ak:=λi:eK=>i.1) (N:=(0,[])) (d:=b.2.1) (e:=e);generalize x:b.2.1.getD e (0,[])=i at *;generalize b.2.1.getD (e-1) (0,[])=w at *;by_cases g9:1<=i.1/\i.1<=20
  rotate_left
  .refine a_ r [85,96,116,126] a ?_ (g.aT (bY.zero a ?_))
   .simp[-aj,z,s];omega
   exact jZ
  cases D:kb (·.1) (0,[]) b.2.1 e with
  |false=>
   have y:e≠0:=by rintro rfl;cases D
   have I:¬w.1<i.1:=M;refine a_ r [85,-96,99,113,116,126] a ?_ (g.aT (bY.zero a ?_))
   .simp[-aj,z,j,s,g9,a8];omega
   exact jZ
  |true=>
   rw[fQ g9,D,fR,fR]at t;cases q:(ev h i b.1).isSome with
   |false=>
    by_cases y:e=0
    .subst y;refine a_ r [85,-96,-99,-116,126] a ?_ (g.aT (bY.zero a ?_))
     .simp[-aj,z,s,g9,cA.l,cA.T,a2.l,a2.T,bj.T,a3.T,q,bi.1];grind
     rw[lF s (t.trans q)];simp
    have I:w.1<i.1:=M;refine a_ r [85,-96,99,-113,-116,126] a Q_ (g.aT (bY.zero a ?_));rw[lF s (t.trans q)];simp
   |true=>
    rw[q]at t;by_cases y:e=0
    .subst y;refine a_ r [85,-96,-99,-116,-126] a ?_ (g.aw 1 a C C ⟨s,jf B t⟩ u);simp[-aj,z,s,g9,a8,cA.l,cA.T,a2.l,a2.T,bj.T,a3.T,q,bi.1];grind
    have I:w.1<i.1:=M;refine a_ r [85,-96,99,-113,-116,-126] a ?_ (g.aw (e+1) a C C ⟨s,jf B t⟩ u);exact Q_
 obtain rfl:e=c b.2.1:=u;refine a_ r [-85] a C (g.az ?_);rw[fZ.2 B,fR];cases b2:cj h
 .exact a_ r [-129,-134] a l8 (g.aq a)
 cases F:f' b.2.2
 .exact a_ r [129,-134] a NP (g.aq a)
 exact a_ r [129,134] a NP (g.aq a bQ)
abbrev By:bK:=er c8 oX (λb a=>bh (hY b a)) λ_ a=>[ln a,c a.1<=4000000,c a.2.1<=4000000]
def MR:bL p 60 By:=.bh λb d a=>XB b d a.1 a.2.1 a.2.2
def gp(d:Int)(a:m Int×Bool)(b:Int):m Int×Bool:=
 if a.2=l then(if b=d then a else(a.1++[b],l))else if d<=b then(if b=d then(a.1++[d],l)else(a.1++[d,b],l))else(a.1++[b],v)
abbrev fz(d:Int)(b:m Int)(a:Nat):m Int×Bool:=(b.take a).foldl (gp d) ([],v)
def e4(b:m Int)(a:Int):m Int:=if(b.foldl (gp a) ([],v)).2=l then(b.foldl (gp a) ([],v)).1 else(b.foldl (gp a) ([],v)).1++[a]
def w0{j}{d}(a:e<c d):fz j d (e+1)=gp j (fz j d e) (d.getD e 0):=ij
def wZ(j)(d):∀a,a<=c d->(fz j d a).1.length+(if(fz j d a).2=l then 0 else 1)<=a+1
 |0,_=>by simp[fz]
 |a+1,g=>by have:=wZ j d a u;rw[w0 u];generalize fz j d a=b at *;obtain⟨b,e⟩:=b;unfold gp;grind
theorem Y7(d)(j):c (e4 d j)<=c d+1:=by
 have:=wZ j d (c d) (bA _);simp[fz,cY]at this;unfold e4;split at this<;>rename_i a
 .grind
 grind
def aef{h:Type}(a:c1 h)(d)(e g):bs (c d+1+1) (cf (c d+1) (cf (c d) (a.fn d) λb=>[a.a2 e].getD b []) λb=>[a.a2 g].getD b []) (a.fn (d++[e,g])):=a.eZ d e g
def TG(d)(j)(B:c d<=100000000):Z p 98 [aA.A d,R j] [] (aA.A (e4 d j)) []:=by
 refine Z.I func98 rfl λz=>?_;refine a5 [902] a A (g.bB 5 3 1 a a ?_);refine aO a A (g.aC 1 (λb=>b<=c d) (λb:Nat=>[(0,aA.A d),(1,R j),(5,.n (.R (.w 0 1 (fz j d b).1.length (aA.fn (fz j d b).1)))),(6,bh (fz j d b).2),(7,R b)]) (λb=>[.w 3 1 (fz j d b).1.length (aA.fn (fz j d b).1)]) (λb=>c d-b) 0 a NQ a NQ a u ?_);intro b s;have w:=wZ j d b s;by_cases i:b<c d
 .have r:=w0 (j:=j) i;have N:d.getD (b:Int).toNat aA.D=d.getD b 0:=dB;generalize d.getD b 0=bE at *;generalize fz j d b=e at *;obtain⟨e,m⟩:=e;have ak:=λbE=>aA.aW e bE;have q:=λx bE=>aA.eZ e x bE;have y:(c e+1+1)*8<=140737488355328:=M;have fin:∀o,fz j d (b+1)=o->True:=λ_ _=>trivial;have k:c d-(b+1)<c d-b:=u;by_cases h:bE=j
  .cases m with
   |true=>
    rw[show gp j (e,l) bE=(e,l) by simp[gp,h]]at r;refine a5 [12,-34] a ?_ (g.aw (b+1) a ?_ ?_ i k)
    .simp only[T,N,h,a8];simp;omega
    .rw[r];simp
    rw[r];simp
   |false=>
    rw[show gp j (e,v) bE=(e++[j],l) by simp[gp,h]]at r;refine a5 [12,24,-34] a ?_ (g.aw (b+1) a ?_ ?_ i k)
    .simp only[T,N,h,a8,show d9.bytes=8 from a];simp;omega
    .exact QN
    exact QN
  cases m with
  |true=>
   rw[show gp j (e,l) bE=(e++[bE],l) by simp[gp,h]]at r;refine a5 [12,34] a OU (g.aw (b+1) a zE ?_ i k);exact zE
  |false=>
   by_cases t:j<=bE
   .rw[show gp j (e,v) bE=(e++[j,bE],l) by simp[gp,h,t]]at r;refine a5 [12,24,34] a ?_ (g.aw (b+1) a ?_ ?_ i k)
    .simp only[T,N,a8,show d9.bytes=8 from a];simp[h,t];omega
    .exact Pq
    exact Pq
   rw[show gp j (e,v) bE=(e++[bE],v) by simp[gp,t]]at r;refine a5 [12,-24,34] a OU (g.aw (b+1) a zE ?_ i k);exact zE
 obtain rfl:b=c d:=u;unfold e4;simp[fz,cY]at w⊢;generalize d.foldl (gp j) ([],v)=e at *;obtain⟨e,m⟩:=e;have ak:=aA.aW e j;refine a5 [-12] a C (g.az ?_);cases m with
 |true=>exact aO rfl C (g.aq rfl)
 |false=>
  refine aO a ?_ (g.aq a ?_)
  .simp only[T,show d9.bytes=8 from a];simp at w⊢;omega
  simp[T,j_,dm,df,gh];and_intros<;>first|exact ak|trivial
abbrev xl:bK:=er (e7 aA) c8 (λa b=>aA.A (e4 a b)) λa _=>[c a<=100000000]
def El:bL p 98 xl:=.bh λb d a=>TG b d a
theorem qk(b):∀a:m Int,c (a.foldl e4 b)<=c b+c a
 |[]=>by simp
 |d::a=>by have:=qk (e4 b d) a;grind[Y7]
def yc{a:Type}(b:a->Int->a)(e:a){d}(g:t<c d):(d.take (t+1)).foldl b e=b ((d.take t).foldl b e) (d.getD t 0):=ij
def gE(a:m mY):m Int:=(d' a).foldl e4 []
theorem th(d):c (gE d)<=c (d' d):=by
 have:=qk [] (d' d)
 rwa [gK,cW]at this
def Xn(b)(I:c b.2<=4000000)(F:c (d' b.2)<=4000000):Z p 97 [iT b] [] (aA.A (gE b.2)) []:=by
 refine Z.I func97 rfl λB=>?_;have i:ba p [(98,xl)]:=.cons El .nil;refine b_ i a A (g.aC 1 (λe=>e<=c b.2) (λe:Nat=>[(1,aI 0 0),(3,aA.A (gE (b.2.take e))),(4,R e)]) (λ_=>[ze b]) (λe=>c b.2-e) 0 a (by simp[gE,d']) a C a u ?_);intro e x;by_cases s:e<c b.2
 .have d:b.2.getD e cA.D=b.2.getD e ([],[]):=rfl;have o:=Ku s;have y:=Kv b.2 (e+1);have E:=th (b.2.take e);have z:gE (b.2.take (e+1))=(b.2.getD e ([],[])).2.foldl e4 (gE (b.2.take e)):=by simp[gE,o,uu]
  rw[o,df]at y;generalize b.2.getD e ([],[])=j at *;generalize gE (b.2.take e)=k at *;refine a_ i [11] a g6 (g.aC 1 (λh=>h<=c j.2) (λh:Nat=>[(1,aI 0 0),(3,aA.A ((j.2.take h).foldl e4 k)),(4,R e),(5,R h)]) (λ_=>[ze b]) (λh=>c j.2-h) 0 a C a C a u ?_);intro h D;by_cases m:h<c j.2
  .have r:j.2.getD h aA.D=j.2.getD h 0:=rfl;have t:=yc e4 k m;have w:=qk k (j.2.take h);rw[List.length_take]at w;generalize(j.2.take h).foldl e4 k=j5 at *;have q:=aA.l j5;refine a_ i [22] a ?_ (g.aw (h+1) a ?_ ?_ m u)
   .simp[-aj,d,r,s,m,q,aA.T,a8];omega
   .rw[t];simp[-aj,d,r,q]
   simp
  obtain rfl:h=c j.2:=u;rw[cY,<-z];refine a_ i [-22] a dB (g.az ?_);exact Qh
 obtain rfl:e=c b.2:=u;rw[cY];refine a_ i [-11] a C (g.az ?_);exact b_ i a A (g.aq a)
abbrev Bs:bK:=dk (jA cA) (λa=>aA.A (gE a.2)) λa=>[c a.2<=4000000,c (d' a.2)<=4000000]
def MK:bL p 97 Bs:=.a7 λb a=>Xn b a.1 a.2
def hr(a:m eK):m Int:=a.flatMap λb=>d' b.2
def hU(b:m eK):m Int:=b.foldl (λa d=>(gE d.2).foldl e4 a) []
theorem AK{d}(a:e<c d):hr (d.take (e+1))=hr (d.take e)++d' (d.getD e (0,[])).2:=by rw[ih a (0,[])];simp[hr]
def F_(d)(e):c (hr (d.take e))<=c (hr d):=by
 have a:hr d=hr (d.take e)++hr (d.drop e):=by unfold hr;grind[List.take_append_drop]
 grind
theorem Km{d}(a:e<c d):hU (d.take (e+1))=(gE (d.getD e (0,[])).2).foldl e4 (hU (d.take e)):=by unfold hU;grind[ih]
def yx(d):∀a,a<=c d->c (hU (d.take a))<=c (hr (d.take a))
 |0,_=>by simp[hU]
 |a+1,e=>by have b:=yx d a u;grind[qk,th,Km,AK]
def Wh(b)(t:ln b)(M:c b.2.1<=4000000)(O:c (hr b.2.1)<=4000000):Z p 63 [b9 b] [] (aA.A (hU b.2.1)) []:=by
 refine Z.I func63 rfl λI=>?_;have i:ba p [(98,xl),(97,Bs)]:=.cons El (.cons MK .nil);refine b_ i a A (g.aC 1 (λe=>e<=c b.2.1) (λe:Nat=>[(1,aI 0 0),(3,aA.A (hU (b.2.1.take e))),(4,R e)]) (λ_=>[oD b]) (λe=>c b.2.1-e) 0 a (by simp[hU]) a C a u ?_);intro e m;by_cases s:e<c b.2.1
 .have q:b.2.1.getD e bj.D=b.2.1.getD e (0,[]):=rfl;have E:=t _ (oc (N:=(0,[])) s);have x:=AK s;have D:=F_ b.2.1 (e+1);have K:=yx b.2.1 e m;have t:=Km s;rw[x,df]at D;generalize b.2.1.getD e (0,[])=j at *;have F:=th j.2;generalize hU (b.2.1.take e)=k at *;refine a_ i [12] a ?_ ?_
  .simp[-aj,s,q,cA.l,cA.T];omega
  have y:b.2.1.getD (e:Int).toNat bj.D=j:=by rw[cZ];exact q
  rw[y,cA.l];refine g.aC 1 (λd=>d<=c (gE j.2)) (λd:Nat=>[(1,aI 0 0),(3,aA.A (((gE j.2).take d).foldl e4 k)),(4,R e),(5,aA.A (gE j.2)),(6,R d)]) (λ_=>[oD b]) (λd=>c (gE j.2)-d) 0 a C a C a u ?_;intro d J;generalize gE j.2=h at *;by_cases o:d<c h
  .have r:h.getD d aA.D=h.getD d 0:=rfl;have z:=yc e4 k o;have B:=qk k (h.take d);rw[List.length_take]at B;generalize(h.take d).foldl e4 k=j5 at *;have w:=aA.l j5;refine a_ i [24] a ?_ (g.aw (d+1) a ?_ ?_ o u)
   .simp[-aj,r,o,w,aA.T,a8];omega
   .rw[z];simp[-aj,r,w]
   simp
  obtain rfl:d=c h:=u;rw[cY,<-t];refine a_ i [-24] a C (g.az ?_);exact Qh
 obtain rfl:e=c b.2.1:=u;rw[cY];refine a_ i [-12] a C (g.az ?_);exact b_ i a A (g.aq a)
abbrev Br:bK:=dk oX (λa=>aA.A (hU a.2.1)) λa=>[ln a,c a.2.1<=4000000,c (hr a.2.1)<=4000000]
def MJ:bL p 63 Br:=.a7 λb a=>Wh b a.1 a.2.1 a.2.2
abbrev dM:=cz×m Int×m Int
abbrev fx:=Int×dM×(Int×Int×Int×bC)×m (Int×Int)×m Int
abbrev Ya:q3 cz:=x6 (u5 a2) (x6 (u5 bj) (u5 a3))
abbrev Cs:q3 dM:=x6 Ya (x6 (u5 aA) (u5 aA))
abbrev cL(a:c1 α)(b:m α):O:=.c (.A v a.bj (c b) (a.fn b))
abbrev vY(a:dM):m O:=[cL a2 a.1.1,cL bj a.1.2.1,cL a3 a.1.2.2,cL aA a.2.1,cL aA a.2.2]
abbrev gy(a:dM):x:=.n (.agg (vY a))
abbrev ii(a:fx):m O:=.c (.int .i64 a.1)::(vY a.2.1++[.c (.int .i64 a.2.2.1.1),.c (.int .i64 a.2.2.1.2.1),.c (.int .i64 a.2.2.1.2.2.1),.c (.V a.2.2.1.2.2.2),cL a3 a.2.2.2.1,cL aA a.2.2.2.2])
abbrev g2(a:fx):x:=.n (.agg (ii a))
structure q6(b:cz):Prop where
 fQ:c b.1<=4000000
 dS:ln b
 fe:c b.2.1<=4000000
 ez:c (hr b.2.1)<=4000000
def nw(a:m b')(d:m Int)(b:Nat):Bool:=(a.any λe=>e.1==d.getD b 0)&&kb (λg=>g) 0 d b
def hi(b:Int)(a:dM):Bool:=(hU a.1.2.1).all (λd=>a.2.1.contains d)&&(az (c a.2.2)).all (nw a.1.1 a.2.2)&&hY b a.1
def R'{d}{a:Int->Bool}:d.all a=(az (c d)).all λb=>a (d.getD b 0):=by rw[oV,fZ,aX];grind[List.mem_iff_getElem]
def Se{d}{S:b'->Bool}(a:t<c d):(d.take (t+1)).any S=((d.take t).any S||S (d.getD t (0,[]))):=ij
abbrev gq(a:dM):ap:=.cells 33 (vY a)
def XJ(h)(b)(o:q6 b.1):Z p 95 [R h,gy b] [] (bh (hi h b)) []:=by
 refine Z.I func95 rfl λI=>?_;have m:ba p [(63,Br),(62,uO),(60,By)]:=.cons MJ (.cons zm (.cons MR .nil));have K:=I.ga 1 a 4 a;have J:=yx b.1.2.1 _ (bA _);rw[cY]at J;have X:=o.ez;refine b_ m a ?_ ?_
 .simp[a2.l,a2.T,bj.l,bj.T,a3.l,a3.T,o.dS,o.fe,o.ez]
 rw[bj.l];unfold hi;rw[R'];generalize hU b.1.2.1=k at *;refine g.aC 1 (λe=>e<=c k/\∀j,j<e->b.2.1.contains (k.getD j 0)=l) (λe:Nat=>[(0,R h),(3,aI 0 0),(5,aA.A k),(6,R e)]) (λ_=>[gq b]) (λe=>c k-e) 0 a C a C a ⟨by omega,by omega⟩ ?_;rintro e ⟨z,r⟩;by_cases s:e<c k
 .have q:k.getD e aA.D=k.getD e 0:=rfl;cases y:b.2.1.contains (k.getD e 0)with
  |false=>
   refine a_ m [16,26] a ?_ (g.aT (bY.zero a ?_))
   .simp[-aj,-List.contains_eq_mem,q,s,y,aA.l,aA.T]
   rw[lF s y];simp
  |true=>
   refine a_ m [16,-26] a ?_ (g.aw (e+1) a C C ⟨s,jf r y⟩ u);simp[-aj,-List.contains_eq_mem,q,s,y,aA.l,aA.T,a8];omega
 obtain rfl:e=c k:=u;rw[fZ.2 r,fR];refine a_ m [-16] a C (g.az ?_);refine b_ m a A (g.aC 1 (λe=>e<=c b.2.2/\∀j,j<e->nw b.1.1 b.2.2 j=l) (λe:Nat=>[(0,R h),(3,aI 0 0),(7,R e)]) (λ_=>[gq b]) (λe=>c b.2.2-e) 0 a C a C a ⟨by omega,by omega⟩ ?_);rintro e ⟨z,r⟩;by_cases s:e<c b.2.2
 .have q:b.2.2.getD e aA.D=b.2.2.getD e 0:=rfl;have bi:b.2.2.getD (e-1) aA.D=b.2.2.getD (e-1) 0:=rfl;have B:nw b.1.1 b.2.2 e=((b.1.1.any λS=>S.1==b.2.2.getD e 0)&&kb (λE=>E) 0 b.2.2 e):=rfl;have O:=p4 (ak:=λE:Int=>E) (N:=0) (d:=b.2.2) (e:=e);generalize b.2.2.getD e 0=t at *;generalize b.2.2.getD (e-1) 0=D at *;refine a_ m [31] a g6 (g.aC 1 (λj=>j<=c b.1.1) (λj:Nat=>[(0,R h),(3,aI 0 0),(7,R e),(8,bh ((b.1.1.take j).any λS=>S.1==t)),(9,R j)]) (λ_=>[gq b]) (λj=>c b.1.1-j) 0 a C a C a u ?_);intro j G;by_cases w:j<c b.1.1
  .have V:=o.fQ;have x:b.1.1.getD j a2.D=b.1.1.getD j (0,[]):=rfl;have W:=Se (S:=λS=>S.1==t) w;generalize b.1.1.getD j (0,[])=S at *;generalize(b.1.1.take j).any (λS=>S.1==t)=i at *;cases i with
   |true=>
    refine a_ m [39] a ?_ (g.aw (j+1) a ?_ ?_ w u)
    .simp[w,a8];omega
    .exact bG
    simp
   |false=>
    refine a_ m [39] a ?_ (g.aw (j+1) a ?_ ?_ w u)
    .simp[-aj,s,w,a8];omega
    .exact bG
    simp
  obtain rfl:j=c b.1.1:=u;rw[cY];refine a_ m [-39] a C (g.az ?_);cases F:b.1.1.any (λS=>S.1==t)with
  |false=>
   rw[F,sv]at B;refine a_ m [77] a C (g.aT (bY.zero a ?_));rw[lF s B];simp
  |true=>
   rw[F,fR]at B;by_cases Q:e=0
   .subst Q;refine a_ m [-63,-77] a ?_ (g.aw 1 a C C ⟨s,jf r bG⟩ u);simp[a8]
   by_cases U:D<t
   .refine a_ m [63,-75,-77] a ?_ (g.aw (e+1) a C C ⟨s,jf r M⟩ u);exact PE
   refine a_ m [63,75,77] a PE (g.aT (bY.zero a ?_));exact jZ
 obtain rfl:e=c b.2.2:=u;rw[fZ.2 r,fR];refine a_ m [-31] a C (g.az ?_);refine b_ m a ?_ (g.aq a ?_)
 .simp[a2.l,a2.T,bj.l,bj.T,a3.l,a3.T,o.dS,o.fe,o.fQ]
 simp[a2.l,bj.l,a3.l]
abbrev Hq:bK:=er c8 (Am Cs) (λb a=>bh (hi b a)) λ_ a=>[q6 a.1]
def adi:bL p 95 Hq:=.bh λb d a=>XJ b d a
theorem Zh{b a}(e:dX b=l)(g:∀d∈a,d∈b):dX a=l:=by unfold dX at e⊢;grind
def Lc{o}(g:dX o=l):∀e a,∀d∈iB o e a,cC d=l
 |0,_,d,b=>by exact bG
 |e+1,a,d,b=>by
  simp only[iB]at b;split at b
  .rename_i h;have i:=rz o a h;rcases e8.1 b with rfl|b
   .have r:c ((o.drop a).take (en o a-a))=en o a-a:=M;simp[cC,cn,bw];grind[Zh]
   exact Lc g e _ d b
  grind
def vH{o}(a:dX o=l):∀b∈ck o,cC b=l:=Lc a _ _
def Lb(o):∀a b,c (iB o a b)<=a
 |0,_=>bA _
 |a+1,b=>by
  simp[iB];split
  .have:=Lb o a (en o b);grind
  simp
theorem vG(o):c (ck o)<=c o:=Lb o _ _
def eP(b:m c7):m bC:=b.flatMap λa=>ck a.2
def Gb{o}(a:e<c o):eP (o.take (e+1))=eP (o.take e)++ck (o.getD e ([],[])).2:=by rw[ih a ([],[])];simp[eP]
def Ga(o)(e):c (eP (o.take e))<=c (eP o):=by
 have a:eP o=eP (o.take e)++eP (o.drop e):=by unfold eP;grind[List.take_append_drop]
 grind
def CG(h)(d)(Y):∀a:m bC,c (Y.foldl (e6 h d) a)<=c a+c Y:=by
 induction Y with
 |nil=>grind
 |cons b j e=>
  intro a;have g:=e (e6 h d a b);have i:c (e6 h d a b)<=c a+1:=by unfold e6;split<;>simp
  grind
abbrev GV:bK:=er (e7 e_) c8 (λa b=>R (iW a b)) λa _=>[c a<=4000000]
def acF:bL p 175 GV:=.bh λb d a=>UJ b d a
abbrev GZ:bK:=er (e7 bS) eE (λa b=>bh (a.contains b)) λa _=>[c a<=4000000]
def acL:bL p 177 GZ:=.bh λb d a=>Vi b d a
abbrev H_(a:m bC):x:=.n (.R (.w 0 1 (c a) (bS.fn a)))
structure q4(o:m c7):Prop where
 len:c o<=4000000
 fl:∀ak∈o,dX ak.2=l/\c ak.2<=4000000
 all:c (eP o)<=100000
def Ws(h)(o)(d)(q:cj h=l)(t:q4 o)(U:c d<=4000000):Z p 132 [R h,bB.A o,e_.A d] [] (bS.A (fV h o d)) []:=by
 refine Z.I func132 rfl λO=>?_;have k:ba p [(174,xm),(176,xr),(175,GV),(177,GZ)]:=.cons Em (.cons zo (.cons acF (.cons acL .nil)));refine be k [902] a A (g.bB 7 9 1 a a ?_);refine cU k a A (g.aC 1 (λb=>b<=c o) (λb:Nat=>[(0,R h),(1,bB.A o),(2,e_.A d),(7,H_ ((eP (o.take b)).foldl (e6 h d) [])),(8,R b)]) (λb=>[.w 9 1 (c ((eP (o.take b)).foldl (e6 h d) [])) (bS.fn ((eP (o.take b)).foldl (e6 h d) []))]) (λb=>c o-b) 0 a ?_ a ?_ a u ?_)
 .simp[eP]
 .simp[eP]
 intro b D;by_cases B:b<c o
 .have Q:o.getD (b:Int).toNat bB.D=o.getD b ([],[]):=M;have z:o.getD b ([],[])∈o:=M;obtain⟨S,J⟩:=t.fl _ z;have E:=Gb B;have N:=Ga o (b+1);have V:=t.all;have W:=t.len;have I:=vH S;generalize o.getD b ([],[])=j at *;rw[E,df]at N;refine be k [15] a dB ?_;rw[Q];refine g.aC 1 (λe=>e<=c (ck j.2)) (λe:Nat=>[(0,R h),(1,bB.A o),(2,e_.A d),(7,H_ ((eP (o.take b)++(ck j.2).take e).foldl (e6 h d) [])),(8,R b),(9,bS.A (ck j.2)),(10,R e)]) (λe=>[.w 9 1 (c ((eP (o.take b)++(ck j.2).take e).foldl (e6 h d) [])) (bS.fn ((eP (o.take b)++(ck j.2).take e).foldl (e6 h d) []))]) (λe=>c (ck j.2)-e) 0 a C a C a u ?_;intro e x;have F:=CG h d (eP (o.take b)++(ck j.2).take e) [];simp only[gK,df,List.length_take]at F;by_cases K:e<c (ck j.2)
  .have i:(ck j.2).getD (e:Int).toNat bS.D=(ck j.2).getD e []:=M;have r:cC ((ck j.2).getD e [])=l:=I _ M;have m:(eP (o.take b)++(ck j.2).take (e+1)).foldl (e6 h d) []=e6 h d ((eP (o.take b)++(ck j.2).take e).foldl (e6 h d) []) ((ck j.2).getD e []):=ij;generalize(eP (o.take b)++(ck j.2).take e).foldl (e6 h d) []=dw at *;generalize(ck j.2).getD e []=w at *;have y:=bS.aW dw w;by_cases s:iW d (dY h w)=0
   .cases aa:dw.contains w with
    |true=>
     rw[e6,bm M]at m;refine be k [27,38,45] a ?_ (g.aw (e+1) a ?_ ?_ ?_ ?_)
     .simp only[T,i,q,r,s,aa,a8,bS.l,e_.l,gi,bw,a',a7];exact QG
     .rw[m];simp
     .rw[m];simp
     .grind
     omega
    |false=>
     rw[e6,bo M]at m;refine be k [27,38,-45] a ?_ (g.aw (e+1) a ?_ ?_ ?_ ?_)
     .simp only[T,i,q,r,s,aa,a8,show s3.bytes=16 from a,bS.l,e_.l,gi,bw,a',a7];exact QG
     .rw[m];simp only[T.Z,T,i,df,fh,gK,a',a7];and_intros<;>first|exactλ_ _=>rfl|exact y|rfl|omega
     .rw[m];simp only[T.Z,T,i,df,fh,gK,a',a7];and_intros<;>first|exact y|rfl|omega
     .grind
     omega
   rw[e6,bm M]at m;refine be k [27,-38] a ?_ (g.aw (e+1) a ?_ ?_ ?_ ?_)
   .simp only[T,i,q,r,a8,e_.l,e0,d6,s,p1,bw,a',a7];and_intros<;>first|exact e_.T _|omega
   .rw[m];simp
   .rw[m];simp
   .grind
   omega
  have X:e=c (ck j.2):=u;refine be k [-27] a bu (g.az ?_);exact cU k a bG (g.aw (b+1) a dB dB M u)
 obtain rfl:b=c o:=u;rw[cY];refine be k [-15] a C (g.az ?_);refine cU k a A (g.aq a ?_);simp[fV,eP]
abbrev kq(b:Int)(a:m bC):m Int:=a.map (dY b)
abbrev oi(a:Int)(b:m c7):m mY:=b.map (kN a)
abbrev KN(b:Int)(a:m mY):m ap:=[.cells 104 [.c (.int .i64 0),.c (.A l 0 0 λ_=>[])],.cells 104 [.c (.int .i64 b),.w 2 2 (c a) (cA.fn a)],.w 144 2 (c a) (cA.fn a)]
def Wz(bN h)(o)(m:cj h=l)(t:q4 o):Z p 135 [R bN,R h,bB.A o] [] (iT (fW bN h o)) []:=by
 refine Z.bb bc func135 rfl rfl rfl λU=>?_;have j:ba p [(174,xm),(176,xr)]:=.cons Em (.cons zo .nil);refine be j [902] a A (g.ck 1 1 144 2 (cA.fn []) a a ?_);refine cU j a A (g.aC 3 (λe=>e<=c o) (λe:Nat=>[(1,R h),(2,bB.A o),(6,aI 0 0),(7,aI 1 0),(8,R e)]) (λe=>KN bN (oi h (o.take e))) (λe=>c o-e) 0 a C a C a u ?_);intro e z;by_cases N:e<c o
 .have q:o.getD (e:Int).toNat bB.D=o.getD e ([],[]):=M;have y:o.getD e ([],[])∈o:=M;obtain⟨I,F⟩:=t.fl _ y;have S:=t.len;have D:=vH I;have Q:=vG (o.getD e ([],[])).2;have s:oi h (o.take (e+1))=oi h (o.take e)++[kN h (o.getD e ([],[]))]:=ij;have O:c (oi h (o.take e))=e:=M;generalize o.getD e ([],[])=b at *;generalize oi h (o.take e)=k at *;refine be j [18,907] a dB ?_;rw[q];refine g.bB 10 3 1 a a ?_;refine cU j a A (g.aC 4 (λd=>d<=c (ck b.2)) (λd:Nat=>[(1,R h),(2,bB.A o),(6,aI 0 0),(7,aI 1 0),(8,R e),(9,bS.A (ck b.2)),(10,.n (.R (.w 3 1 d (aA.fn (kq h ((ck b.2).take d)))))),(11,R d)]) (λd=>KN bN k++[.w 3 1 d (aA.fn (kq h ((ck b.2).take d)))]) (λd=>c (ck b.2)-d) 0 a C a C a u ?_);intro d x;by_cases V:d<c (ck b.2)
  .have i:(ck b.2).getD (d:Int).toNat bS.D=(ck b.2).getD d []:=M;have B:cC ((ck b.2).getD d [])=l:=D _ M;have r:=aA.aW (kq h ((ck b.2).take d)) (dY h ((ck b.2).getD d []));rw[show(kq h ((ck b.2).take d)).length=d by grind,show kq h ((ck b.2).take d)++[dY h ((ck b.2).getD d [])]=kq h ((ck b.2).take (d+1)) by grind[ih]]at r;refine be j [31] a ?_ (g.aw (d+1) a ?_ ?_ ?_ ?_)
   .simp only[T,i,m,B,a8,show d9.bytes=8 from a,bw,a',a7];exact fv
   .exact PG
   .exact PG
   .grind
   omega
  have E:d=c (ck b.2):=u;rw[E,cY];have r:=cA.aW k (kN h b);have w:c k+1=c (k++[kN h b]):=C;have J:cA.a2 (kN h b)=[K.V b.1,K.A v 1 (c (ck b.2)) (aA.fn (kq h (ck b.2)))]:=by show[K.V b.1,K.A v 1 (c (kq h (ck b.2))) (aA.fn (kq h (ck b.2)))]=_;grind
  rw[J,<-s]at r;rw[<-s]at w;refine be j [-31] a C (g.az ?_);refine cU j a OW (g.aw (e+1) a C ?_ ?_ ?_)
  .simp only[T.Z,T,q,a',a7];and_intros<;>first|exact bs.same|exact r|exact w|rfl
  .grind
  omega
 obtain rfl:e=c o:=u;rw[cY];refine be j [-18] a C (g.az ?_);refine cU j a A (g.bc () [] ?_ (λd x=>absurd x C));simp[fW]
def oY(b a:Nat->m K):cf 0 b a=a:=by funext e;simp[cf]
abbrev jS(a:cz):ap:=.cells 30 [.c (.A v 2 (c a.1) (a2.fn a.1)),.c (.A v 2 (c a.2.1) (bj.fn a.2.1)),.c (.A v 2 (c a.2.2) (a3.fn a.2.2))]
abbrev BU(a:cz)(b:Nat)(e:m b')(d:Nat)(g:m eK):m ap:=[jS a,.cells 30 [cF,cF,cF],.p 107 2 b (a2.fn e),.p 104 2 d (bj.fn g),.p 140 2 (c a.2.2) (a3.fn a.2.2),.cells 30 [.N 2 (.A b 2 0 b),.N 3 (.A d 2 0 d),.N 4 (.A (c a.2.2) 2 0 (c a.2.2))]]
def Uf(b)(y:c b.1<=4000000)(s:∀x∈b.1,c x.2<=4000000)(F:c b.2.1<=4000000)(r:ln b)(E:c b.2.2<=4000000):
  Z p 61 [b9 b] [] (.n (.agg [.N 0 (.A (c b.1) 2 0 (c b.1)),.N 1 (.A (c b.2.1) 2 0 (c b.2.1)),.N 2 (.A (c b.2.2) 2 0 (c b.2.2))])) [.p 107 2 (c b.1) (a2.fn b.1),.p 104 2 (c b.2.1) (bj.fn b.2.1),.p 140 2 (c b.2.2) (a3.fn b.2.2)]:=by
 refine Z.bb bc func61 rfl rfl rfl λB=>?_;refine bR [901] a A (g.region ?_);refine gF [] 5 a A (g.dI 9 107 2 (a2.fn []) a ?_);refine g.dI 10 104 2 (bj.fn []) a ?_;refine g.dI 11 140 2 (a3.fn []) a ?_;refine cy a Oj (g.aC 6 (λd=>d<=c b.1) (λd:Nat=>[(1,aI 0 0),(2,aI 1 0),(3,aI 5 0),(4,R d)]) (λd=>BU b d (b.1.take d) 0 []) (λd=>c b.1-d) 0 a C a ?_ a u ?_)
 .simp[bs,oY];rfl
 intro d m;by_cases k:d<c b.1
 .have j:b.1.getD d (0,[])∈b.1:=M;have w:b.1.getD (d:Int).toNat a2.D=b.1.getD d (0,[]):=M;have q:=s _ j;refine bR [20,2000038] a E6 (g.aw (d+1) a C ?_ ?_ ?_)
  .have au:=a2.cV b.1 k (0,[]);exact N6
  .grind
  omega
 obtain rfl:d=c b.1:=u;rw[cY];refine bR [-20] a C (g.az ?_);refine cy a A (g.aC 6 (λd=>d<=c b.2.1) (λd:Nat=>[(1,aI 0 0),(2,aI 1 0),(3,aI 5 0),(5,R d)]) (λd=>BU b (c b.1) b.1 d (b.2.1.take d)) (λd=>c b.2.1-d) 0 a C a C a u ?_);intro d m;by_cases k:d<c b.2.1
 .have j:b.2.1.getD d (0,[])∈b.2.1:=M;have w:b.2.1.getD (d:Int).toNat bj.D=b.2.1.getD d (0,[]):=M;have q:=r _ j;have au:=bj.cV b.2.1 k (0,[]);generalize b.2.1.getD d (0,[])=h at *;refine bR [47,910] a bu ?_;rw[w];refine g.ck 6 1 144 2 (cA.fn []) a a ?_;refine cy a A (g.aC 8 (λe=>e<=c h.2) (λe:Nat=>[(1,aI 0 0),(2,aI 1 0),(3,aI 5 0),(5,R d),(6,aI 6 0),(7,R e)]) (λe=>BU b (c b.1) b.1 d (b.2.1.take d)++[.cells 104 [.c (.int .i64 h.1),.w 7 2 e (cA.fn (h.2.take e))],.w 144 2 e (cA.fn (h.2.take e))]) (λe=>c h.2-e) 0 a C a C a u ?_);intro e o;by_cases t:e<c h.2
  .have i:h.2.getD (e:Int).toNat cA.D=h.2.getD e ([],[]):=M;have D:=q.2 (h.2.getD e ([],[])) M;have z:=cA.cV h.2 t ([],[]);refine bR [66,2000085] a Pc (g.aw (e+1) a C Qc M ?_);omega
  obtain rfl:e=c h.2:=u;rw[cY];refine bR [-66] a Fg (g.az ?_);refine cy a E_ (g.aw (d+1) a C Fo M ?_);omega
 obtain rfl:d=c b.2.1:=u;rw[cY];refine bR [-47] a C (g.az ?_);refine cy a A (g.bc () [2,3,4] ?_ (λe o=>absurd o C));simp
def yy{g h:ae}{e i}(z)(o:q.op=.call {callee:=.builtin .max,args:=#[g,h],argTypes:=ds})(u:η g=R e)(s:η h=R i)(y:max e i=z)(t:a8 .i64 z):a0 V q η k (R z) k:=by refine .aS λB d A j=>?_;have b:=j g;have a:=j h;rw[u]at b;rw[s]at a;replace b:=b6 b;replace a:=b6 a;generalize m:d g=w at b;generalize p:d h=x at a;cases b;cases a;have r:(if e<i then i else e)=z:=M;exact⟨.int .i64 z,by simp[ab,o,resolve,invoke,builtin,m,p,Builtin.max_,Builtin.max2,r],.int t,by simp[ab,o,resolve,invoke,builtin,m,p,Builtin.max_,Builtin.max2]⟩
def di(a:cz):Int:=if c a.1=0 then 1 else(a.1.getD (c a.1-1) (0,[])).1+1
def lR(b:m (Int×Int)):Int:=b.foldl (λd a=>max d (a.2+1)) 1
def dr(a:cz):Int:=if c a.2.1=0 then lR a.2.2 else max (lR a.2.2) ((a.2.1.getD (c a.2.1-1) (0,[])).1+1)
structure mb(b7:cz):Prop where
 aY:∀D∈b7.1,-4000000<=D.1/\D.1<=4000000
 bn:∀D∈b7.2.1,-4000000<=D.1/\D.1<=4000000
 aL:∀D∈b7.2.2,-4000000<=D.2/\D.2<=4000000
def s0(d)(e:∀b∈d,-4000000<=b.2/\b.2<=4000000):1<=lR d/\lR d<=4000001:=by
 have:∀(d:m (Int×Int)) a,(∀b∈d,-4000000<=b.2/\b.2<=4000000)->1<=a->a<=4000001->1<=d.foldl (λa e=>max a (e.2+1)) a/\d.foldl (λa e=>max a (e.2+1)) a<=4000001:=by
  intro d;induction d with
  |nil=>grind
  |cons b h g=>
   grind
 exact this d 1 e u u
def YI{d}(a:e<c d):lR (d.take (e+1))=max (lR (d.take e)) ((d.getD e (0,0)).2+1):=by unfold lR;grind[ih]
def mw{d:m α}(b:e<c d)(a:α):d.getD e a∈d:=M
def Wu(b:cz)(i:dO b)(h:mb b):Z p 131 [b9 b] [] (.Q [.R (.c (.int .i64 (di b))),.R (.c (.int .i64 (dr b)))]) []:=by
 refine Z.I func131 rfl λy=>?_;have t:=i.aY;have x:=i.aZ;have s:=i.aL;apply g.cf [(1,aI 0 0),(4,R (di b)),(5,R 1)] [jS b]
 .intro dw;by_cases e:c b.1=0
  .exact bR [-10,905] a dB (dw _ _ a (by simp[di,e]))
  have j:=h.aY _ (mw (show c b.1-1<c b.1 by omega) (0,[]));have w:b.1.getD ((c b.1:Int)-1).toNat a2.D=b.1.getD (c b.1-1) (0,[]):=by rw[show((c b.1:Int)-1).toNat=c b.1-1 by omega];rfl
  exact bR [10,905] a wi (dw _ _ a (by simp only[T.Z,T,di,bm e,w,a',a7]))
 refine cy a A (g.aC 1 (λd=>d<=c b.2.2) (λd:Nat=>[(1,aI 0 0),(4,R (di b)),(5,R (lR (b.2.2.take d))),(6,R d)]) (λd=>[jS b]) (λd=>c b.2.2-d) 0 a ?_ a ?_ a u ?_)
 .simp[lR]
 .simp
 intro d k;by_cases e:d<c b.2.2
 .have j:=h.aL _ (mw e (0,0));have o:=s0 (b.2.2.take d) λr q=>h.aL r (gY q);have w:b.2.2.getD (d:Int).toNat a3.D=b.2.2.getD d (0,0):=M;have m:=YI e;refine bR [25] a wi ?_;rw[w];refine g.aK (yy (lR (b.2.2.take (d+1))) a a a m.symm nM) a a ?_;exact cy a bG (g.aw (d+1) a C C M u)
 obtain rfl:d=c b.2.2:=u;rw[cY];refine bR [-25] a C (g.az ?_);have o:=s0 b.2.2 h.aL;by_cases e:c b.2.1=0
 .refine bR [-40] a dB (g.aq a ?_);simp[dr,e]
 have j:=h.bn _ (mw (show c b.2.1-1<c b.2.1 by omega) (0,[]));have w:b.2.1.getD ((c b.2.1:Int)-1).toNat bj.D=b.2.1.getD (c b.2.1-1) (0,[]):=Ro;refine bR [40] a wi ?_;rw[w];refine g.aK (yy (dr b) a a a (by rw[dr,bm e]) (by rw[dr,bm e];simp only[a8];omega)) a a ?_;exact cy a A (g.aq a)
abbrev BV(a:cz)(b:Nat)(e:m b')(d:Nat)(g:m eK):m ap:=[jS a,.cells 30 [cF,cF,cF],.w 140 2 (c a.2.2) (a3.fn a.2.2),.cells 30 [.w 4 2 b (a2.fn e),.w 5 2 d (bj.fn g),.w 2 2 (c a.2.2) (a3.fn a.2.2)],.w 107 2 b (a2.fn e),.w 104 2 d (bj.fn g)]
def qg(b)(y:c b.1<=4000000)(s:∀x∈b.1,c x.2<=4000000)(F:c b.2.1<=4000000)(r:ln b)(E:c b.2.2<=4000000):
  Z p 61 [b9 b] [] (.n (.agg [.w 0 2 (c b.1) (a2.fn b.1),.w 1 2 (c b.2.1) (bj.fn b.2.1),.w 2 2 (c b.2.2) (a3.fn b.2.2)])) [.w 107 2 (c b.1) (a2.fn b.1),.w 104 2 (c b.2.1) (bj.fn b.2.1),.w 140 2 (c b.2.2) (a3.fn b.2.2)]:=by
 refine Z.bb bc func61 rfl rfl rfl λB=>?_;refine bR [902] a ?_ ?_
 .simp only[T,show vf.bytes=16 from a,a',a7,lC];grind
 refine g.ck 3 0 107 2 (a2.fn []) a a ?_;refine g.ck 3 1 104 2 (bj.fn []) a a ?_;refine cy a A (g.aC 6 (λd=>d<=c b.1) (λd:Nat=>[(1,aI 0 0),(2,aI 1 0),(3,aI 3 0),(4,R d)]) (λd=>BV b d (b.1.take d) 0 []) (λd=>c b.1-d) 0 a C a ?_ a u ?_)
 .simp[bs,oY]
 intro d m;by_cases k:d<c b.1
 .have j:b.1.getD d (0,[])∈b.1:=M;have w:b.1.getD (d:Int).toNat a2.D=b.1.getD d (0,[]):=M;have q:=s _ j;refine bR [20,2000038] a E6 (g.aw (d+1) a C ?_ ?_ ?_)
  .have au:=a2.cV b.1 k (0,[]);simp only[T.Z,T,w,oY,cW,a7,a'];exact QL
  .grind
  omega
 obtain rfl:d=c b.1:=u;rw[cY];refine bR [-20] a C (g.az ?_);refine cy a A (g.aC 6 (λd=>d<=c b.2.1) (λd:Nat=>[(1,aI 0 0),(2,aI 1 0),(3,aI 3 0),(5,R d)]) (λd=>BV b (c b.1) b.1 d (b.2.1.take d)) (λd=>c b.2.1-d) 0 a C a C a u ?_);intro d m;by_cases k:d<c b.2.1
 .have j:b.2.1.getD d (0,[])∈b.2.1:=M;have w:b.2.1.getD (d:Int).toNat bj.D=b.2.1.getD d (0,[]):=M;have q:=r _ j;have au:=bj.cV b.2.1 k (0,[]);generalize b.2.1.getD d (0,[])=h at *;refine bR [47,910] a bu ?_;rw[w];refine g.ck 6 1 144 2 (cA.fn []) a a ?_;refine cy a A (g.aC 8 (λe=>e<=c h.2) (λe:Nat=>[(1,aI 0 0),(2,aI 1 0),(3,aI 3 0),(5,R d),(6,aI 6 0),(7,R e)]) (λe=>BV b (c b.1) b.1 d (b.2.1.take d)++[.cells 104 [.c (.int .i64 h.1),.w 7 2 e (cA.fn (h.2.take e))],.w 144 2 e (cA.fn (h.2.take e))]) (λe=>c h.2-e) 0 a C a C a u ?_);intro e o;by_cases t:e<c h.2
  .have i:h.2.getD (e:Int).toNat cA.D=h.2.getD e ([],[]):=M;have D:=q.2 (h.2.getD e ([],[])) M;have z:=cA.cV h.2 t ([],[]);refine bR [66,2000085] a Pc (g.aw (e+1) a C Qc M ?_);omega
  obtain rfl:e=c h.2:=u;rw[cY];refine bR [-66] a Fg (g.az ?_);refine cy a E_ (g.aw (d+1) a C ?_ ?_ ?_)
  .simp only[T.Z,T,a7,a'];exact QL
  .grind
  omega
 obtain rfl:d=c b.2.1:=u;rw[cY];refine bR [-47] a C (g.az ?_);refine cy a A (g.bc () [4,5,2] ?_ (λe o=>absurd o C));simp
def _root_.Go.AM.c1.hl(a:c1 α)(d)(g:bs j U (a.fn d))(k:j<=c d):a.ad j U=d.take j:=by
 apply rh
 .simp[c1.ad];omega
 intro e h i;have b:e<j:=M;simp[c1.ad,g e b,c1.fn,gG,aj,bI (show e<c d by omega),a.inv]
def _root_.Go.AM.c1.g7(a:c1 α)(d)(g:bs j U (a.fn d)):a.bM j U:=λe b=>by rw[g e b];exact a.T d e (Nat.lt_succ_self e)
def ZG(a b:Nat):min (a:Int) (b:Int)=((min a b:Nat):Int):=M
def ga(d:Int):Nat->Int->m bC->m b'
 |0,_,_=>[]
 |e+1,b,a=>if 0<c a then jP b d (a.take 4)::ga d e (b+1) (a.drop 4)else[]
def kp(a:Int)(b:cz)(d:m c7):m b':=ga a (c (fV a d (eB b.1))) (di b) (fV a d (eB b.1))
def fr(b:Int)(a:cz)(d:m c7):Bool:=decide (20<c a.1+c (kp b a d))||(decide (99<di a+c (kp b a d)-1)||(decide (20<dr a)||decide (9<=c a.2.2)))
def ft(d:Int)(a:cz)(b:Int)(e:m c7):cz:=(a.1++kp d a e,a.2.1++[fW (dr a) d e],a.2.2++[(b,dr a)])
theorem K1(h):∀d a b,c (ga h d a b)<=d
 |0,_,_=>bA _
 |d+1,a,b=>by
  simp[ga];split
  .have:=K1 h d (a+1) (b.drop 4);grind
  simp
abbrev G8:bK:=kh c8 c8 (e7 bS) (λd b a=>fH (jP d b a)) λ_ b a=>[cj b=l,∀e∈a,cC e=l,c a<=4000000]
def acU:bL p 134 G8:=.c5 λb e d a=>We b e d a.1 a.2.1 a.2.2
abbrev G':bK:=kh c8 c8 (e7 bB) (λb a d=>iT (fW b a d)) λ_ a d=>[cj a=l,q4 d]
def acX:bL p 135 G':=.c5 λa d e b=>Wz a d e b.1 b.2
abbrev G_:bK:=kh c8 (e7 bB) (e7 e_) (λa d b=>bS.A (fV a d b)) λa d b=>[cj a=l,q4 d,c b<=4000000]
def acW:bL p 132 G_:=.c5 λb e d a=>Ws b e d a.1 a.2.1 a.2.2
def qJ{o}{d}(i:q4 o):(∀a∈fV h o d,cC a=l)/\c (fV h o d)<=100000:=by
 constructor
 .have:∀(b g:m bC),(∀a∈b,cC a=l)->(∀a∈g,cC a=l)->∀a∈b.foldl (e6 h d) g,cC a=l:=by
   intro b;induction b with
   |nil=>grind
   |cons s t k=>
    intro g r q;refine k _ (λa e=>r a (mg _ e)) λa e=>?_;unfold e6 at e;grind
  refine this _ [] (λa e=>?_) C;obtain⟨p,j,e⟩:=rf.1 e;exact vH (i.fl p j).1 a e
 have:=CG h d (eP o) [];have q:=i.all;unfold fV;simp[gK]at this;exact fG this u
theorem JZ{d}(a:c (dE d)<=100000):c (eB d)<=100000:=by unfold eB;grind[CH]
abbrev abc(e b d:Int)(g:cz)(h:m c7)(a:m bC):bJ:=[(0,R e),(2,R b),(3,bB.A h),(5,aI 0 0),(8,aI 1 0),(10,aI 5 0),(11,R d),(12,R (dr g)),(13,bS.A a)]
abbrev LY(b:cz)(a:m b'):m ap:=[jS b,.cells 30 [cF,cF,cF],.w 107 2 (c a) (a2.fn a),.w 104 2 (c b.2.1) (bj.fn b.2.1),.w 140 2 (c b.2.2) (a3.fn b.2.2),.cells 30 [.w 2 2 (c a) (a2.fn a),.w 3 2 (c b.2.1) (bj.fn b.2.1),.w 4 2 (c b.2.2) (a3.fn b.2.2)]]
abbrev MQ(a:cz)(b:Bool):x:=.Q [.agg [.c (.A v 2 (c a.1) (a2.fn a.1)),.c (.A v 2 (c a.2.1) (bj.fn a.2.1)),.c (.A v 2 (c a.2.2) (a3.fn a.2.2))],.R (.c (.bool b))]
def W8(h)(b)(j)(o)(B:cj h=l)(w:dO b)(N:mb b)(J:q4 o)(al:c (dE b.1)<=100000):
  Z p 96 [R h,b9 b,R j,bB.A o] [] (MQ (if fr h b o=l then b else ft h b j o) (!fr h b o)) []:=by
 refine Z.bG func96 rfl rfl rfl λau=>?_;have r:ba p [(133,GY),(132,G_),(134,G8),(135,G')]:=.cons acK (.cons acW (.cons acU (.cons acX .nil)));have aL:=w.aY;have P:=w.aZ;have av:=w.aL;have ax:=JZ al;refine cU r a A (g.aA (qg b w.aY w.bm w.aZ w.bx w.aL) [] a (cU r a A (g.aA (Wu b w N) [] a (cU r a bG ?_))));simp[a2.l,e_.l,bB.l];obtain⟨an,aB⟩:=qJ (h:=h) (d:=eB b.1) J;have aw:kp h b o=ga h (c (fV h o (eB b.1))) (di b) (fV h o (eB b.1)):=rfl;generalize fV h o (eB b.1)=C at *;generalize U:kp h b o=e at *;have L:-4000000<=di b/\di b<=4000001:=by
  unfold di;split
  .omega
  rename_i s;exact Q1
 have H:c e<=100000:=by grind[K1]
 refine g.cj (S2:=Unit) 0 a a (λ_=>True) (λ_=>[(0,R h),(2,R j),(3,bB.A o),(5,aI 0 0),(8,aI 1 0),(10,aI 5 0),(11,R (di b+c e)),(12,R (dr b))]) (λ_=>LY b (b.1++e)) 6
  (λk:m bC×m b'=>(∀S∈k.1,cC S=l)/\c k.2+c k.1<=5000000/\c b.1<=c k.2/\∃q,c k.1<=q/\b.1++e=k.2++ga h q (di b+(c k.2-c b.1:Nat)) k.1) (λk=>abc h j (di b+(c k.2-c b.1:Nat)) b o k.1) (λk=>LY b k.2) (λk=>c k.1) (C,b.1) a ?_ a ?_ a ⟨an,by grind,bA _,c C,bA _,by grind⟩ ?_ ?_
 .simp
 .simp
 .rintro dw ⟨bq,Y⟩ ⟨t,O,af,q,G,z⟩;simp only at t O af G z;by_cases s:0<c bq
  .obtain⟨q,rfl⟩:∃aa,q=aa+1:=⟨q-1,by omega⟩
   simp[ga,bo s]at z;have ae:a8 .i64 ((min (c bq) 4:Nat):Int):=nM;refine be r [30] a bu (g.aK (yB ((min (c bq) 4:Nat):Int) a a a (ZG (c bq) 4) ae) a a ?_);have Q:bS.ad (bU (c bq) (f ((min (c bq) 4:Nat):Int))-bU 0 n) (fs (bU 0 n) (bS.fn bq))=bq.take 4:=by have E:bU (c bq) (f ((min (c bq) 4:Nat):Int))-bU 0 n=min (c bq) 4:=wA;rw[E,bS.hl bq (λI y=>by simp[fs,bU]) u];grind
   have X:bS.bM (bU (c bq) (f ((min (c bq) 4:Nat):Int))-bU 0 n) (fs (bU 0 n) (bS.fn bq)):=bS.g7 bq (λI y=>by simp[fs,bU]);have ao:bs (c bq-min (c bq) 4) (fs (min (c bq) 4) (bS.fn bq)) (bS.fn (bq.drop 4)):=by intro I y;have V:min (c bq) 4=4:=u;rw[V];simp[fs,c1.fn,gG,aj,pT]
   have aq:∀S∈bq.take 4,cC S=l:=λS D=>t S (gY D);have ab:=a2.aW Y (jP (di b+(c Y-c b.1:Nat)) h (bq.take 4));refine cU r a ?_ (g.aw (bq.drop 4,Y++[jP (di b+(c Y-c b.1:Nat)) h (bq.take 4)]) a ?_ ?_ ?_ ?_)
   .simp only[T,a8,Q,B,X,List.length_take,show nq.bytes=32 from a,a',a7];and_intros<;>first|omega|omega
   .simp only[T.Z,T,df,fh,gK,so,bU,cZ,a',a7];and_intros<;>first|rfl|omega|simp|exact ao
   .simp only[T.Z,T,Q,df,fh,gK,a',a7];and_intros<;>first|rfl|exactλ_ _=>rfl|exact ab|omega
   .refine⟨λS D=>t S (p3 D),by grind,by grind,q,by grind,?_⟩;grind
   grind
  have F:Y=b.1++e:=by rw[z];cases q<;>simp[ga,s]
  refine be r [-30] a bG (g.az ?_);refine dw () A a ?_ a ?_
  .simp only[T.Z,T,F,df,a',a7];and_intros<;>first|rfl|omega|simp
  simp[F]
 rintro⟨⟩ -;have x:fr h b o=(decide (20<c b.1+c e)||(decide (99<di b+c e-1)||(decide (20<dr b)||decide (9<=c b.2.2)))):=by unfold fr;rw[U]
 have K:-4000000<=dr b/\dr b<=4000001:=by
  have:=s0 b.2.2 N.aL;unfold dr;split
  .omega
  rename_i s;exact OG
 have ar:c (b.1++e)=c b.1+c e:=df;by_cases ag:20<c b.1+c e
 .have i:fr h b o=l:=M;rw[i];exact be r [53] a bu zR
 by_cases ah:99<di b+c e-1
 .have i:fr h b o=l:=M;rw[i];exact be r [-53,57] a Fa zR
 by_cases ai:20<dr b
 .have i:fr h b o=l:=M;rw[i];exact be r [-53,-57,61] a Fa zR
 by_cases ak:9<=c b.2.2
 .have i:fr h b o=l:=M;rw[i];exact be r [-53,-57,-61,67] a Fa zR
 have i:fr h b o=v:=M;rw[i];have E:=bj.aW b.2.1 (fW (dr b) h o);have W:=a3.aW b.2.2 (j,dr b);refine be r [-53,-57,-61,-67] a ?_ ?_
 .simp only[T,B,bB.l,df,a8,show rG.bytes=32 from a,show vf.bytes=16 from a,bw,dp,a',a7];and_intros<;>first|exact J|exact bB.T _|rfl|omega
 refine g.freeze 8 1 a a a ?_;refine g.cr bc [] a ?_ a a a eW;simp[T.Z,T,bB.l,ft,U,df,fh,gK,a',a7];and_intros<;>first|rfl|exactλ_ _=>rfl|exact E|exact W|simp
def vt(a:Int×Int):Bool:=decide (0<=a.1/\a.1<=9)&&decide (0<=a.2)
abbrev qt(b:fx)(a:Nat):Int×Int:=b.2.2.2.1.getD a (0,0)
abbrev rC(b:fx)(a:Nat):Int:=b.2.2.2.2.getD a 0
def v_(b:fx)(a:Nat):Bool:=vt (qt b a)&&decide (0<=rC b a/\rC b a<=2)
def jX(a:fx):Bool:=decide (c a.2.2.2.1=2)&&decide (c a.2.2.2.2=2)&&(az 2).all (v_ a)&&hi a.1 a.2.1
abbrev xD(a:cz)(e:Nat)(d:Nat->m K)(g:Nat)(j:m eK)(b:fo)(i:Nat)(h:m X):m ap:=[jS a,.cells 30 [cF,cF,cF],.p 107 2 e d,.p 104 2 g (bj.fn j),.p 140 2 (c a.2.2) (a3.fn a.2.2),.cells 30 [.N 2 (.A e 2 0 e),.N 3 (.A g 2 0 g),.N 4 (.A (c a.2.2) 2 0 (c a.2.2))],.J (cq 138 2 b i h)]
def Uh(b)(i0)(V:i0<c b.1)(z:0<(b.1.getD i0 (0,[])).2.length)(x:c b.1<=4000000)(N:∀y∈b.1,c y.2<=4000000)(H:c b.2.1<=4000000)(S:ln b)(G:c b.2.2<=4000000):
  bl (ι:=pO (b.1.getD i0 (0,[])).2) p 61 [b9 b] [] (λ_=>.n (.agg [.N 0 (.A (c b.1) 2 0 (c b.1)),.N 1 (.A (c b.2.1) 2 0 (c b.2.1)),.N 2 (.A (c b.2.2) 2 0 (c b.2.2))]))
   (λj=>[.p 107 2 (c b.1) (gm b.1 i0 (c0 j.1.1 (b.1.getD i0 (0,[])).2.length)),.p 104 2 (c b.2.1) (bj.fn b.2.1),.p 140 2 (c b.2.2) (a3.fn b.2.2),tj (b.1.getD i0 (0,[])).2 j]):=by
 refine bl.bG bc func61 rfl rfl rfl λW=>?_;refine bR [901] a A (g.region ?_);refine gF [] 5 a A (g.dI 9 107 2 (a2.fn []) a ?_);refine g.dI 10 104 2 (bj.fn []) a ?_;refine g.dI 11 140 2 (a3.fn []) a ?_;refine bR [902] a Oj (g.fg 138 2 ?_);refine cy a A (g.aC 7 (I3 b.1 i0) (λi:S3=>[(1,aI 0 0),(2,aI 1 0),(3,aI 5 0),(4,R i.1)]) (λi=>xD b i.1 (gm b.1 i0 (nI i)) 0 [] i.2.1 i.2.2.1 i.2.2.2) (λi=>c b.1-i.1) (0,.nil n,0,[]) a C a ?_ a ⟨by omega,.inl ⟨by omega,a⟩⟩ ?_)
 .simp[bs,oY];rfl
 rintro⟨d,h,q,k⟩ ⟨s,B⟩;simp only at s B;by_cases o:d<c b.1
 .have aa:b.1.getD d (0,[])∈b.1:=M;have w:b.1.getD (d:Int).toNat a2.D=b.1.getD d (0,[]):=M;have j:=N _ aa;by_cases t:d=i0
  .subst t;have F:q=0:=by rcases B with⟨_,O⟩|⟨K,_⟩<;>omega
   rw[<-w]at z j;refine a5 [20,905] a bu ?_;refine g.eJ (ι:=pO (b.1.getD (d:Int).toNat a2.D).2) b5 15 18 8 (λr=>ay r 14)
    (λr=>[aI 5 0,cD 2 (.A d 2 0 d),aI 0 0,a2.A b.1,R d,iR [.int .i64 (b.1.getD (d:Int).toNat a2.D).1,lm (b.1.getD (d:Int).toNat a2.D)],iR [.int .i64 (b.1.getD (d:Int).toNat a2.D).1,lm (b.1.getD (d:Int).toNat a2.D)],R (b.1.getD (d:Int).toNat a2.D).1,
     ax (.A l 2 0 (λe=>[].getD e [])),aI 0 0,a2.A b.1,R d,iR [.int .i64 (b.1.getD (d:Int).toNat a2.D).1,lm (b.1.getD (d:Int).toNat a2.D)],iR [lm (b.1.getD (d:Int).toNat a2.D)],ax (lm (b.1.getD (d:Int).toNat a2.D))].getD r .any)
    (λj r=>[ax (rU _ j),.n (.agg [.c (.int .i64 (b.1.getD (d:Int).toNat a2.D).1),.c (rU _ j)]),ax (.A l 2 1 (λe=>[[.int .i64 (b.1.getD (d:Int).toNat a2.D).1,rU _ j]].getD e []))].getD (r-15) .any)
    (λj=>xD b d (gm b.1 d (c0 h q)) 0 [] h q k++[tj _ j])
    rfl rfl rfl rfl rfl rfl rfl (λr o=>by have:=fq o;omega) rfl
    ⟨aZ.u,aZ.u,aZ.u,aZ.u,aZ.u,aZ.eval (bf:=[]) bc ba.nil a ?_,aZ.u,aZ.u,aZ.u,aZ.u,aZ.u,aZ.u,aZ.eval (bf:=[]) bc ba.nil a ?_,aZ.u,aZ.u,A,A,A,A,A,A,A⟩
    (λj=>⟨aZ.u,aZ.u,aZ.u,aZ.u,aZ.u,aZ.eval (bf:=[]) bc ba.nil a ?_,aZ.u,aZ.u,aZ.u,aZ.u,aZ.u,aZ.u,aZ.eval (bf:=[]) bc ba.nil a ?_,aZ.u,aZ.u,A,aZ.u,aZ.u,A⟩)
    (dV.er a (eg.fD (Gf a) a a a z zY (G0 _ _))) ?_
   .exact bu
   .exact bu
   .exact bu
   .exact bu
   rw[w];rw[w]at z j;generalize J:b.1.getD d (0,[])=y at *;intro D;refine a5 [904] a O' (g.swap 6 7 ca a a (λ_ _ o=>o.1) (λ_ _ o=>o.1) ?_);refine aO a bG (g.aw (d+1,D.1.1,c y.2,D.1.2) a C ?_ ?_ ?_)
   .have au:=Le (Y:=b.1) (i0:=d) (bx:=c0 D.1.1 (c y.2)) (EA:=c0 h q);rw[J]at au;exact Fo
   .refine⟨by grind,.inr ⟨by grind,?_⟩⟩;grind
   grind
  refine bR [20,2000038] a E6 (g.aw (d+1,h,q,k) a C ?_ ?_ ?_)
  .have au:=Ld (Y:=b.1) (bx:=c0 h q) t;exact N6
  .refine⟨by grind,?_⟩;grind
  grind
 obtain rfl:d=c b.1:=u;obtain⟨_,F,Q⟩:i0<c b.1/\q=(b.1.getD i0 (0,[])).2.length/\ek 2 (b.1.getD i0 (0,[])).2.length (bH.fn (b.1.getD i0 (0,[])).2) k:=M;subst F;clear B;generalize b.1.getD i0 (0,[])=m at *;refine bR [-20] a C (g.az ?_);refine cy a A (g.aC 7 (λd=>d<=c b.2.1) (λd:Nat=>[(1,aI 0 0),(2,aI 1 0),(3,aI 5 0),(5,R d)]) (λd=>xD b (c b.1) (gm b.1 i0 (c0 h (c m.2))) d (b.2.1.take d) h (c m.2) k) (λd=>c b.2.1-d) 0 a C a C a u ?_);intro d s;by_cases o:d<c b.2.1
 .have aa:b.2.1.getD d (0,[])∈b.2.1:=M;have w:b.2.1.getD (d:Int).toNat bj.D=b.2.1.getD d (0,[]):=M;have j:=S _ aa;have au:=bj.cV b.2.1 o (0,[]);generalize b.2.1.getD d (0,[])=i at *;refine bR [47,910] a bu ?_;rw[w];refine g.ck 7 1 144 2 (cA.fn []) a a ?_;refine cy a A (g.aC 9 (λe=>e<=c i.2) (λe:Nat=>[(1,aI 0 0),(2,aI 1 0),(3,aI 5 0),(5,R d),(6,aI 7 0),(7,R e)]) (λe=>xD b (c b.1) (gm b.1 i0 (c0 h (c m.2))) d (b.2.1.take d) h (c m.2) k++[.cells 104 [.c (.int .i64 i.1),.w 8 2 e (cA.fn (i.2.take e))],.w 144 2 e (cA.fn (i.2.take e))]) (λe=>c i.2-e) 0 a C a C a u ?_);intro e I;by_cases t:e<c i.2
  .have E:i.2.getD (e:Int).toNat cA.D=i.2.getD e ([],[]):=M;have X:=j.2 (i.2.getD e ([],[])) M;have U:=cA.cV i.2 t ([],[]);refine bR [66,2000085] a ?_ (g.aw (e+1) a ?_ ?_ ?_ ?_)
   .simp only[T,w,E,a8,show yn.bytes=40 from a,show d9.bytes=8 from a,bw,lC,a',a7];exact fv
   .simp
   .simp only[T.Z,T,w,E,oY,cW,a7,a'];and_intros<;>first|exactλ_ _=>rfl|exact U|rfl
   .grind
   omega
  obtain rfl:e=c i.2:=u;rw[cY];refine bR [-66] a Fg (g.az ?_);refine cy a E_ (g.aw (d+1) a C Fo M ?_);omega
 obtain rfl:d=c b.2.1:=u;rw[cY];refine bR [-47] a C (g.az ?_);refine cy a A (g.bc ⟨(h,k),Q⟩ [2,3,4,6] ?_ (λe I=>absurd I C));simp
def TP(b:cz)(d:Int)(j:c b.2.2<=4000000)(k:d<0∨d>c b.2.2):Z p 101 [b9 b,R d] [] (b9 b) []:=by refine Z.bb bc func101 rfl rfl rfl λi=>?_;have h:ba p [(31,kH)]:=.cons lp .nil;refine be h [15] a bQ ?_;refine g.bc () [] ?_ (λm e=>absurd e C);simp
abbrev mB(a:Nat)(d:cz)(b:m eK):m eK:=b.filter λe=>!jq a d.2.2 e
abbrev sZ(d:Nat)(e:cz)(b:Nat)(g:eK):Bool:=((e.2.2.drop d).take b).any λa=>a.2==g.1
abbrev Gw(b:cz)(d:Nat)(a:m eK):m ap:=[.cells 30 [.c (tz b.1),.c (tA b.2.1),.c (hX (b.2.2.take d))],.cells 30 [cF,cF,cF],.w 104 2 (c a) (bj.fn a)]
def Jo(a:α->Bool){d}(g:e<c d)(b):(d.take (e+1)).filter a=(d.take e).filter a++(if a (d.getD e b)then[d.getD e b]else[]):=ij
def Sd(a:α->Bool){d}(g:e<c d)(b):(d.take (e+1)).any a=((d.take e).any a||a (d.getD e b)):=ij
def TQ(b)(j)(S:j<=c b.2.2)(Q:c b.2.1<=4000000)(D:∀m∈b.2.1,-4000000<=m.1/\m.1<=4000000)(O:c b.2.2<=4000000):Z p 101 [b9 b,R j] [] (b9 (b.1,mB j b b.2.1,b.2.2.take j)) []:=by
 refine Z.bb bc func101 rfl rfl rfl λN=>?_;have o:ba p [(31,kH)]:=.cons lp .nil;refine a_ o [-15,906] a ?_ ?_
 .simp[ji];omega
 refine g.bB 6 104 2 a a ?_;refine b_ o a A (g.aC 3 (λe=>e<=c b.2.1) (λe:Nat=>[(2,aI 0 0),(4,aI 1 0),(5,a3.A (b.2.2.drop j)),(6,.n (.R (.w 2 2 (c (mB j b (b.2.1.take e))) (bj.fn (mB j b (b.2.1.take e)))))),(7,R e)]) (λe=>Gw b j (mB j b (b.2.1.take e))) (λe=>c b.2.1-e) 0 a ?_ a ?_ a u ?_)
 .have x:=a3.g' b.2.2 j (c b.2.2-j);simp[bU];exact x
 .simp[bU];exact⟨by omega,λe t=>by have B:e<j:=t;simp[fs,bU,c1.fn,gG,aj,h2,B]⟩
 intro e t;by_cases w:e<c b.2.1
 .have F:b.2.1.getD e (0,[])∈b.2.1:=M;have r:b.2.1.getD (e:Int).toNat bj.D=b.2.1.getD e (0,[]):=M;have J:=D _ F;have x:=bj.cV b.2.1 w (0,[]);have y:mB j b (b.2.1.take (e+1))=mB j b (b.2.1.take e)++(if !jq j b.2.2 (b.2.1.getD e (0,[]))then[b.2.1.getD e (0,[])]else[]):=Jo (λm=>!jq j b.2.2 m) w (0,[]);have K:c (mB j b (b.2.1.take e))<=e:=fG (j7 _ _) M;generalize mB j b (b.2.1.take e)=k at *;generalize b.2.1.getD e (0,[])=m at *;refine be o [31] a ?_ ?_
  .simp only[T,r,bw,lC,a',a7];grind
  refine g.aC 3 (λh=>h<=c (b.2.2.drop j)) (λh:Nat=>[(2,aI 0 0),(4,aI 1 0),(5,a3.A (b.2.2.drop j)),(6,.n (.R (.w 2 2 (c k) (bj.fn k)))),(7,R e),(8,bh (sZ j b h m)),(9,R h)]) (λh=>Gw b j k) (λh=>c (b.2.2.drop j)-h) 0 a C a C a u ?_;intro h z;have I:=so (i:=j) (l:=b.2.2);by_cases E:h<c (b.2.2.drop j)
  .have i:(b.2.2.drop j).getD (h:Int).toNat a3.D=(b.2.2.drop j).getD h (0,0):=M;have q:sZ j b (h+1) m=(sZ j b h m||((b.2.2.drop j).getD h (0,0)).2==m.1):=Sd (λw:Int×Int=>w.2==m.1) E (0,0);cases s:sZ j b h m with
   |true=>
    refine be o [37] a N8 (g.aw (h+1) a ?_ ?_ ?_ ?_)
    .rw[s]at q;simp[q]
    .simp
    .grind
    omega
   |false=>
    refine be o [37] a N8 (g.aw (h+1) a ?_ ?_ ?_ ?_)
    .rw[s]at q;simp only[T.Z,T,bs.same,q,r,i,a',a7,Bool.false_or];rfl
    .simp
    .grind
    omega
  obtain rfl:h=c (b.2.2.drop j):=u;have q:sZ j b (c (b.2.2.drop j)) m=jq j b.2.2 m:=by unfold sZ jq;grind
  rw[q];cases s:jq j b.2.2 m with
  |true=>
   rw[s]at y;refine be o [-37] a C (g.az ?_);refine cU o a tT (g.aw (e+1) a ?_ ?_ ?_ ?_)
   .have:mB j b (b.2.1.take (e+1))=k:=M;rw[this];exact PW
   .rw[show mB j b (b.2.1.take (e+1))=k by grind];simp
   .grind
   omega
  |false=>
   rw[s]at y;refine be o [-37] a C (g.az ?_);refine cU o a ?_ (g.aw (e+1) a ?_ ?_ ?_ ?_)
   .simp only[T,a8,show rG.bytes=32 from a,a',a7];exact fv
   .rw[show mB j b (b.2.1.take (e+1))=k++[m] by grind];simp only[T.Z,T,r,bs.same,a',a7,df,gh];exact⟨bj.aW k m,a⟩
   .rw[show mB j b (b.2.1.take (e+1))=k++[m] by grind];simp only[T.Z,T,r,bs.same,a',a7,df,gh];exact bj.aW k m
   .grind
   omega
 obtain rfl:e=c b.2.1:=u;rw[cY];refine be o [-31] a C (g.az ?_);refine cU o a A (g.bc () [] ?_ (λh z=>absurd z C));simp
def Xh(b)(d)(e:dO b)(k:d.1≠1)(h:d.1≠2)(m:d.1≠3)(j:d.1≠4):Z p 59 [b9 b,eG d] [] (b9 b) []:=by
 refine Z.bb bc func59 rfl rfl rfl λo=>?_;refine aO a A (g.aA (qg b e.aY e.bm e.aZ e.bx e.aL) [] a (a5 [-13,-42,-48,-91] a ?_ ?_))
 .simp[k,h,m,j]
 exact OH
def I5(b)(d)(aB)(e:dO b)(h:d.1=2)(j:Z p 101 [b9 b,R d.2.1] [] (b9 aB) []):Z p 59 [b9 b,eG d] [] (b9 aB) []:=by
 refine Z.bb bc func59 rfl rfl rfl λk=>?_;refine aO a A (g.aA (qg b e.aY e.bm e.aZ e.bx e.aL) [] a (a5 [-13,42] a ?_ ?_))
 .simp[h]
 refine g.bH j.tocH [] a a a a C a a a bk a bk a ?_;rintro -;exact aO a A OH
abbrev nu(a:Int)(b:m b'):m b':=b.filter λd=>!(d.1==a)
abbrev abs(a:cz)(d:dR)(b:m b'):m ap:=[jS a,.cells 35 (vp d),.cells 30 [cF,cF,cF],.w 107 2 (c a.1) (a2.fn a.1),.w 104 2 (c a.2.1) (bj.fn a.2.1),.w 140 2 (c a.2.2) (a3.fn a.2.2),
 .cells 30 [.w 3 2 (c a.1) (a2.fn a.1),.w 4 2 (c a.2.1) (bj.fn a.2.1),.w 5 2 (c a.2.2) (a3.fn a.2.2)],.w 107 2 (c b) (a2.fn b)]
def Xb(b)(d)(k:dO b)(t:d.1=1):Z p 59 [b9 b,eG d] [] (b9 (b.1.filter λi=>!(i.1==d.2.1),b.2.1,b.2.2)) []:=by
 refine Z.bb bc func59 rfl rfl rfl λz=>?_;refine aO a A (g.aA (qg b k.aY k.bm k.aZ k.bx k.aL) [] a (a5 [13,905] a ?_ ?_))
 .simp[t]
 refine g.bB 6 107 2 a a ?_;refine aO a A ?_;have w:=k.aY;refine g.aC 8 (λe=>e<=c b.1) (λe:Nat=>[(3,aI 1 0),(4,aI 2 0),(5,aI 6 0),(6,.n (.R (.w 7 2 (c (nu d.2.1 (b.1.take e))) (a2.fn (nu d.2.1 (b.1.take e)))))),(7,R e)]) (λe=>abs b d (nu d.2.1 (b.1.take e))) (λe=>c b.1-e) 0 a C a C a u ?_;intro e s;by_cases q:e<c b.1
 .have r:b.1.getD (e:Int).toNat a2.D=b.1.getD e (0,[]):=by rw[cZ];rfl
  have j:nu d.2.1 (b.1.take (e+1))=nu d.2.1 (b.1.take e)++(if !((b.1.getD e (0,[])).1==d.2.1)then[b.1.getD e (0,[])]else[]):=Jo (λi:b'=>!(i.1==d.2.1)) q (0,[]);have y:c (nu d.2.1 (b.1.take e))<=e:=fG (j7 _ _) bQ;generalize nu d.2.1 (b.1.take e)=h at *;generalize b.1.getD e (0,[])=i at *;cases m:i.1==d.2.1 with
  |true=>
   rw[m]at j;refine bR [20,-31] a ?_ (g.aw (e+1) a ?_ ?_ ?_ ?_)
   .simp only[T,r,a8,bw,dp,lC,a',a7];and_intros<;>first|omega|simp[bne,m]
   .rw[show nu d.2.1 (b.1.take (e+1))=h by simpa using j];exact PW
   .rw[show nu d.2.1 (b.1.take (e+1))=h by simpa using j];simp
   .exact sb
   omega
  |false=>
   rw[m]at j;refine bR [20,31] a ?_ (g.aw (e+1) a ?_ ?_ ?_ ?_)
   .simp only[T,r,a8,show nq.bytes=32 from a,bw,dp,lC,a',a7];and_intros<;>first|omega|simp[bne,m]
   .rw[show nu d.2.1 (b.1.take (e+1))=h++[i] by simpa using j];simp only[T.Z,T,r,bs.same,a',a7,df,gh];exact⟨a2.aW h i,a⟩
   .rw[show nu d.2.1 (b.1.take (e+1))=h++[i] by simpa using j];simp only[T.Z,T,r,bs.same,a',a7,df,gh];exact a2.aW h i
   .exact sb
   omega
 obtain rfl:e=c b.1:=u;rw[cY];refine bR [-20] a C (g.az ?_);refine cy a A (g.bc () [] ?_ (λx o=>absurd o C));simp
def Uc{b}{args}(Y)(dy)(j)(U:Nat->m K)(a)(k:c a=j)(i:bs j U (a3.fn a))(d:bl (ι:=Unit) p b args [] (λ_=>.n (.agg [dC 0 (c Y) (c Y),dC 1 (c dy) (c dy),dC 2 j j])) (λ_=>[.p 107 2 (c Y) (a2.fn Y),.p 104 2 (c dy) (bj.fn dy),.p 140 2 j U])):
  Z p b args [] (b9 (Y,dy,a)) []:=by
 have o:=bl.bL (aQ:=λ_:Unit=>[.p 107 2 (c Y) (a2.fn Y),.p 104 2 (c dy) (bj.fn dy)]) (W:=140) (h:=2) (j:=λ_=>j) (U:=λ_=>U) d bk (λ_=>?_) bk (λ_=>gZ _);have e:=bl.bL (aQ:=λ_:Unit=>[.p 107 2 (c Y) (a2.fn Y)]) (W:=104) (h:=2) (j:=λ_=>c dy) (U:=λ_=>bj.fn dy) o bk (λ_=>?_) bk (λ_=>gZ _);have g:=bl.bL (aQ:=λ_:Unit=>[]) (W:=107) (h:=2) (j:=λ_=>c Y) (U:=λ_=>a2.fn Y) e bk (λ_=>?_) bk (λ_=>bA _);refine(g.le (ow:=λ_=>b9 (Y,dy,a)) bk (λ_=>?_)).R
 .simp only[T.Z,T,a7,a'];exact⟨bs.same,bs.same,k.symm,i⟩
 .simp
 .simp
 simp
def Xg(b)(d:dR)(e:dO b)(j:d.1=4)(q:0<=d.2.1)(o:d.2.1<c b.2.2)(h:a8 .i64 (3-lr b d)):
  bl (ι:=Unit) p 59 [b9 b,eG d] [] (λ_=>.n (.agg [dC 0 (c b.1) (c b.1),dC 1 (c b.2.1) (c b.2.1),dC 2 (c b.2.2) (c b.2.2)])) (λ_=>[.p 107 2 (c b.1) (a2.fn b.1),.p 104 2 (c b.2.1) (bj.fn b.2.1),.p 140 2 (c b.2.2) (yb b d)]):=by
 refine bl.bG bc func59 rfl rfl rfl λk=>?_;have i:ba p [(31,kH)]:=.cons lp .nil;have m:=e.aL;refine b_ i a A (g.aA (Uf b e.aY e.bm e.aZ e.bx e.aL) [] a (a_ i [-13,-42,-48,91,99] a ?_ ?_))
 .have h:a8 .i64 (3-(b.2.2.getD (0+d.2.1.toNat) a3.D).1):=h;simp only[T,a8,j,bw,a',a7]at h⊢;exact Fs
 refine g.bc () [3,4,5] ?_ eW;simp
def Xe(b)(a:dR)(d:dO b)(i:a.1=4)(e:0<=a.2.1)(g:a.2.1<c b.2.2)(h:a8 .i64 (3-lr b a)):
  Z p 59 [b9 b,eG a] [] (b9 (b.1,b.2.1,b.2.2.set (0+a.2.1.toNat) (3-lr b a,(b.2.2.getD (0+a.2.1.toNat) a3.D).2))) []:=
 Uc b.1 b.2.1 _ _ _ C (a3.cT b.2.2 (0+a.2.1.toNat) (3-lr b a,(b.2.2.getD (0+a.2.1.toNat) a3.D).2) (c b.2.2) (bA _)) (Xg b a d i e g h)
def Xf(b)(e:dR)(d:dO b)(j:e.1=4)(o:¬(0<=e.2.1/\e.2.1<c b.2.2)):Z p 59 [b9 b,eG e] [] (b9 b) []:=by
 refine Z.bb bc func59 rfl rfl rfl λk=>?_;have h:ba p [(31,kH)]:=.cons lp .nil;have m:=d.aL;refine b_ h a A (g.aA (qg b d.aY d.bm d.aZ d.bx d.aL) [] a (a_ h [-13,-42,-48,91,-99] a ?_ ?_))
 .simp only[T,a8,j,dp,a',a7];exact Fs
 refine g.bc () [] ?_ (λq i=>absurd i C);simp
abbrev D6(a:cz)(i:dR)(e g b d:Nat)(h:m X):m ap:=[jS a,.cells 35 (vp i),.cells 30 [cF,cF,cF],.p 107 2 (c a.1) (gm a.1 e (.slice (f ⟨g,0,n⟩) d b)),.p 104 2 (c a.2.1) (bj.fn a.2.1),.p 140 2 (c a.2.2) (a3.fn a.2.2),.J (cq 138 2 (.row g b) d h),.cells 30 [dC 3 (c a.1) (c a.1),dC 4 (c a.2.1) (c a.2.1),dC 5 (c a.2.2) (c a.2.2)]]
def Xd(b)(d)(B:dO b)(s:d.1=3)(i0 z)(w:sg b d i0 z):
  bl (ι:={E:fo×m X // ek 2 (b.1.getD i0 (0,[])).2.length (bH.fn (gT (b.1.getD i0 (0,[])).2 z d.2.2.2)) E.2}) p 59 [b9 b,eG d] []
   (λ_=>.n (.agg [dC 0 (c b.1) (c b.1),dC 1 (c b.2.1) (c b.2.1),dC 2 (c b.2.2) (c b.2.2)]))
   (λE=>[.p 107 2 (c b.1) (gm b.1 i0 (c0 E.1.1 (b.1.getD i0 (0,[])).2.length)),.p 104 2 (c b.2.1) (bj.fn b.2.1),.p 140 2 (c b.2.2) (a3.fn b.2.2),.J (cq 138 2 E.1.1 (b.1.getD i0 (0,[])).2.length E.1.2)]):=by
 have W:=w.gx;have Z:=B.bm _ (u' w.a8);have G:=B.aY;refine bl.bG bc func59 rfl rfl rfl λH=>?_;have h:ba p [(31,kH)]:=.cons lp .nil;refine b_ h a A (g.aX (Uh b i0 w.a8 u B.aY B.bm B.aZ B.bx B.aL) [] a bk ?_);rintro⟨⟨U,N⟩,Q⟩;refine g.fB (cq.len (d:=6) a) λV=>?_;obtain⟨i,cap,rfl⟩:=V.2.2.1 u;refine a_ h [-13,-42,48] a g6 (g.aC 8 (λo:Nat×m X=>o.1<=c b.1/\(o.1<=i0->o.2=N)/\(i0<o.1->ek 2 (b.1.getD i0 (0,[])).2.length (bH.fn (gT (b.1.getD i0 (0,[])).2 z d.2.2.2)) o.2)) (λo=>[(3,aI 1 0),(4,aI 2 0),(5,aI 7 0),(8,R o.1)]) (λo=>D6 b d i0 i cap (b.1.getD i0 (0,[])).2.length o.2) (λo=>c b.1-o.1) (0,N) a C a ?_ a ⟨by omega,λ_=>rfl,λs=>by omega⟩ ?_)
 .simp only[T.Z,T,bs.same,a7,a'];and_intros<;>first|exactλ_ _=>rfl|rfl
 rintro⟨e,q⟩ ⟨F,M,J⟩;simp only at F M J;have j:0+(e:Int).toNat=e:=u;by_cases s:e<c b.1
 .by_cases S:e=i0
  .subst S;obtain rfl:=M (bA _);have t:=w.c0;have x:=w.b2;generalize aa:(b.1.getD e (0,[])).2=af at *;refine a_ h [54,917] a ?_ ?_
   .simp only[T,bw,a',a7];omega
   refine g.eJ (ι:=Unit) b5 17 20 20 (λk=>ay k 16) (λk=>[aI 7 0,.n (.R (dC 3 (c b.1) (c b.1))),R e,cD 3 (.bt (c b.1) 2 (0+(e:Int).toNat) 0),cD 3 (.bt (c b.1) 2 (0+(e:Int).toNat) 0),R (b.1.getD (0+(e:Int).toNat) (0,[])).1,aI 1 1,R d.2.1,bh ((b.1.getD (0+(e:Int).toNat) (0,[])).1==d.2.1),bh l,aI 1 2,R d.2.2.1,aI 7 0,.n (.R (dC 3 (c b.1) (c b.1))),R e,cD 3 (.bt (c b.1) 2 (0+(e:Int).toNat) 0),cD 3 (.bt (c b.1) 2 (0+(e:Int).toNat) 1)].getD k .any)
    (λ_ k=>[ax (.val (.slice (f ⟨i,0,n⟩) (c af) cap)),R (c af),R (c af-1)].getD (k-17) .any)
    (λ_=>D6 b d e i cap (c af) q) a a a a a a a (λk s=>by have:=fq s;omega) a
    ⟨aZ.u,aZ.u,aZ.u,aZ.eval (bf:=[]) bc h a qU,aZ.u,aZ.eval (bf:=[]) bc h a NM,aZ.u,aZ.u,aZ.u,aZ.eval (bf:=[66]) bc h a NB,aZ.u,aZ.u,aZ.u,aZ.u,aZ.u,aZ.eval (bf:=[]) bc h a qU,aZ.u,A,A,A,A,A,A⟩
    (λ_=>⟨aZ.u,aZ.u,aZ.u,aZ.eval (bf:=[]) bc h a qU,aZ.u,aZ.eval (bf:=[]) bc h a NM,aZ.u,aZ.u,aZ.u,aZ.eval (bf:=[66]) bc h a NB,aZ.u,aZ.u,aZ.u,aZ.u,aZ.u,aZ.eval (bf:=[]) bc h a qU,aZ.u,A,aZ.eval (bf:=[]) bc h a qU,aZ.eval (bf:=[]) bc h a FA,A⟩)
    (dV.dd (aZ.a1 (jW a) (a0.e8 bc (au:=.R (.c (.val (.slice (f ⟨i,0,n⟩) (c af) cap)))) a a a a a ?_ ?_))) λ_=>?_
   .exact OR
   .grind
   refine a_ h [78,918] a ?_ ?_
   .simp only[T,bw,a7];omega
   refine g.eJ (ι:=Unit) b5 5 10 8 (λk=>ay k 4||(ay 6 k&&ay k 9)) (λk=>[aI 7 0,.n (.R (dC 3 (c b.1) (c b.1))),R e,cD 3 (.bt (c b.1) 2 (0+(e:Int).toNat) 0),cD 3 (.bt (c b.1) 2 (0+(e:Int).toNat) 1),.any,aI 1 2,R d.2.2.1,aI 1 3,ax (.V d.2.2.2)].getD k .any)
    (λ_ k=>[ax (.val (.slice (f ⟨i,0,n⟩) (c af) cap))].getD (k-5) .any)
    (λ_=>D6 b d e i cap (c af) q) a a a a a a a (λk s=>by simp at s;omega) a
    ⟨aZ.u,aZ.u,aZ.u,aZ.eval (bf:=[]) bc h a qU,aZ.u,A,aZ.u,aZ.u,aZ.u,aZ.u,A,A,A,A⟩
    (λ_=>⟨aZ.u,aZ.u,aZ.u,aZ.eval (bf:=[]) bc h a qU,aZ.u,A,aZ.u,aZ.u,aZ.u,aZ.u,A⟩)
    (dV.dd (aZ.a1 (jW a) (a0.e8 bc (au:=.R (.c (.val (.slice (f ⟨i,0,n⟩) (c af) cap)))) a a a a a ?_ ?_))) λ_=>?_
   .exact OR
   .grind
   refine b_ h a qU ?_;have K:c q=c af*2:=Q.len;have I:0+d.2.2.1.toNat*2+1=z*2+1:=u;refine g.eP bc 6 a a a a a a a ?_ a a λy D=>?_
   .show 0+d.2.2.1.toNat*2+1+1<=c q;omega
   have ab:=Jt Q W D;refine b_ h a FA (g.aw (e+1,q.take (z*2+1)++y++q.drop (z*2+1+c y)) a C ?_ ?_ ?_)
   .simp only[T.Z,T,bs.same,a7,a'];show cq 138 2 _ _ (List.take (0+d.2.2.1.toNat*2+1) q++y++List.drop (0+d.2.2.1.toNat*2+1+c y) q)=_;rw[I]
   .grind
   grind
  have Y:=w.bV e s S;refine a_ h [54,-66,-78] a ?_ (g.aw (e+1,q) a ?_ ?_ ?_ ?_)
  .simp only[T,a8,j,e0,bw,a',a7];and_intros<;>first|exact Y|omega
  .simp
  .simp
  .grind
  grind
 obtain rfl:e=c b.1:=u;refine a_ h [-54] a C (g.az ?_);refine b_ h a A (g.bc ⟨(.row i cap,q),J w.a8⟩ [3,4,5,6] ?_ eW);simp
def Ue{q}{args}(b)(d)(i0 z)(x:i0<c b.1)(t:bl (ι:={g:fo×m X // ek 2 (b.1.getD i0 (0,[])).2.length (bH.fn (gT (b.1.getD i0 (0,[])).2 z d.2.2.2)) g.2}) p q args []
   (λ_=>.n (.agg [dC 0 (c b.1) (c b.1),dC 1 (c b.2.1) (c b.2.1),dC 2 (c b.2.2) (c b.2.2)]))
   (λg=>[.p 107 2 (c b.1) (gm b.1 i0 (c0 g.1.1 (b.1.getD i0 (0,[])).2.length)),.p 104 2 (c b.2.1) (bj.fn b.2.1),.p 140 2 (c b.2.2) (a3.fn b.2.2),.J (cq 138 2 g.1.1 (b.1.getD i0 (0,[])).2.length g.1.2)])):
  Z p q args [] (b9 (g8 b d i0 z)) []:=by
 generalize e:b.1.getD i0 (0,[])=i at *;have A:∀k,k≠i0->a2.fn (g8 b d i0 z).1 k=a2.fn b.1 k:=λk o=>by simp[c1.fn,gG,aj,oR,pY o]
 have D:a2.fn (g8 b d i0 z).1 i0=[.int .i64 i.1,.A v 2 (c i.2) (bH.fn (gT i.2 z d.2.2.2))]:=by have:(g8 b d i0 z).1.getD i0 a2.D=(i.1,gT i.2 z d.2.2.2):=M;show a2.a2 ((g8 b d i0 z).1.getD i0 a2.D)=_;rw[this];show[K.int .i64 i.1,K.A v 2 (c (gT i.2 z d.2.2.2)) (bH.fn (gT i.2 z d.2.2.2))]=_;rw[Lw]
 have y:=bl.fz (aQ:=λg:{g:fo×m X // ek 2 (c i.2) (bH.fn (gT i.2 z d.2.2.2)) g.2}=>[.p 107 2 (c b.1) (gm b.1 i0 (c0 g.1.1 (c i.2))),.p 104 2 (c b.2.1) (bj.fn b.2.1),.p 140 2 (c b.2.2) (a3.fn b.2.2)]) (fe:=λ_=>[.p 107 2 (c b.1) (a2.fn (g8 b d i0 z).1),.p 104 2 (c b.2.1) (bj.fn b.2.1),.p 140 2 (c b.2.2) (a3.fn b.2.2)]) (W:=138) (h:=2) (j:=c i.2) (bO:=λg=>g.1.1) (af:=λg=>g.1.2) t (λg=>g.2) 0 bk bk bk bk (λ_=>gZ _)
  (λg k o=>by exact bG)
  (λg k o r C N=>by
   by_cases s:k=i0
   .subst s;rw[D]at N;have:gm b.1 k (c0 g.1.1 (c i.2)) k=[.int .i64 i.1,.val (c0 g.1.1 (c i.2))]:=NV;rw[this];rcases r with _|_|r
    .simp at N;subst N;exact⟨_,a,.inl a⟩
    .exact Rc
    grind
   .rw[A k s]at N;have:gm b.1 i0 (c0 g.1.1 (c i.2)) k=a2.fn b.1 k:=EP
    rw[this];exact⟨C,N,.inl a⟩)
 have B:=bl.bL (aQ:=λ_=>[.p 107 2 (c b.1) (a2.fn (g8 b d i0 z).1),.p 104 2 (c b.2.1) (bj.fn b.2.1)]) (W:=140) (h:=2) (j:=λ_=>c b.2.2) (U:=λ_=>a3.fn b.2.2) y bk (λ_=>?_) bk (λ_=>gZ _);have u:=bl.bL (aQ:=λ_=>[.p 107 2 (c b.1) (a2.fn (g8 b d i0 z).1)]) (W:=104) (h:=2) (j:=λ_=>c b.2.1) (U:=λ_=>bj.fn b.2.1) B bk (λ_=>?_) bk (λ_=>gZ _);have w:=bl.bL (aQ:=λ_=>[]) (W:=107) (h:=2) (j:=λ_=>c b.1) (U:=λ_=>a2.fn (g8 b d i0 z).1) u bk (λ_=>?_) bk (λ_=>bA _);refine(w.le (ow:=λ_=>b9 (g8 b d i0 z)) bk (λ_=>?_)).R
 .exact Oc
 .simp
 .simp
 simp
def Xc(b)(d)(e:dO b)(g:d.1=3)(i0 z)(a:sg b d i0 z):Z p 59 [b9 b,eG d] [] (b9 (g8 b d i0 z)) []:=
 Ue b d i0 z a.a8 (Xd b d e g i0 z a)
abbrev abv(a:cz)(b:dR):m ap:=[jS a,.cells 35 (vp b),.cells 30 [cF,cF,cF],.w 107 2 (c a.1) (a2.fn a.1),.w 104 2 (c a.2.1) (bj.fn a.2.1),.w 140 2 (c a.2.2) (a3.fn a.2.2),
 .cells 30 [.w 3 2 (c a.1) (a2.fn a.1),.w 4 2 (c a.2.1) (bj.fn a.2.1),.w 5 2 (c a.2.2) (a3.fn a.2.2)]]
def Xi(b)(d)(h:dO b)(s:d.1=3)(q:pM b d):Z p 59 [b9 b,eG d] [] (b9 b) []:=by
 refine Z.bb bc func59 rfl rfl rfl λz=>?_;have i:ba p [(31,kH)]:=.cons lp .nil;have y:=h.aY;refine b_ i a A (g.aA (qg b h.aY h.bm h.aZ h.bx h.aL) [] a (a_ i [-13,-42,48] a g6 (g.aC 7 (λe=>e<=c b.1) (λe:Nat=>[(3,aI 1 0),(4,aI 2 0),(5,aI 6 0),(8,R e)]) (λ_=>abv b d) (λe=>c b.1-e) 0 a C a C a u ?_)));intro e m;by_cases s:e<c b.1
 .have t:=q e s;have w:=h.bm _ (u' s);have j:b.1.getD (e:Int).toNat a2.D=b.1.getD e (0,[]):=by rw[cZ];rfl
  generalize b.1.getD e (0,[])=r at *;by_cases k:r.1=d.2.1
  .refine a_ i [54,66,-78] a ?_ (g.aw (e+1) a ?_ ?_ ?_ ?_)
   .simp only[T,a8,j,k,gi,bw,dp,a',a7];exact fv
   .simp
   .simp
   .exact sb
   omega
  refine a_ i [54,-66,-78] a ?_ (g.aw (e+1) a ?_ ?_ ?_ ?_)
  .simp only[T,a8,j,e0,bw,dp,a',a7];and_intros<;>first|exact k|omega
  .simp
  .simp
  .exact sb
  omega
 obtain rfl:e=c b.1:=u;refine a_ i [-54] a C (g.az ?_);refine b_ i a A (g.bc () [] ?_ (λx o=>absurd o C));simp
def Wn(j):Z p 248 [R j] [] (bh (decide (0<=j)&&decide (j<999999999989))) []:=by
 refine Z.I func248 rfl λb=>?_;by_cases s:0<=j
 .exact a5 [5] a g6 (g.aq a g6)
 exact a5 [-5] a g6 (g.aq a g6)
def Xu(b i):Z p 202 [o3 b i] [] (bh (fX (b,i))) []:=by
 refine Z.I func202 rfl λh=>?_;have e:ba p [(248,dk c8 (λd=>bh (decide (0<=d)&&decide (d<999999999989))) λ_=>[])]:=.cons (.a7 λd _=>Wn d) .nil;unfold fX;cases s:(decide (0<=b)&&decide (b<999999999989))with
 |false=>exact a_ e [-6,-11] rfl g6 (g.aq rfl)
 |true=>
  by_cases N:1<=i
  .exact a_ e [6,11] a dB (g.aq a pI)
  exact a_ e [6,-11] a dB (g.aq a pI)
abbrev Bx:bK:=dk sk (λa=>bh (fX a)) λ_=>[]
def MP:bL p 202 Bx:=.a7 λa _=>Xu a.1 a.2
def M3(d:m (Int×Int)):∀a:dG,dG.fp a->(d.foldl (λa b=>a.put b.1 b.2) a).ad=d.foldl ea a.ad/\dG.fp (d.foldl (λa b=>a.put b.1 b.2) a):=by
 induction d with
 |nil=>grind
 |cons b g e=>
  grind[DJ,aaH]
def Vo(d:m b')(U:c d<=4000000)(O:c (dE d)<=100000):Z p 163 [a2.A d] [] (a3.A (eB d)) []:=by
 refine Z.I func163 rfl λK=>?_;have e:ba p [(202,Bx)]:=.cons MP .nil;refine cU e a A (g.bB 3 220 2 a a ?_);refine g.aC 1 (λb=>b<=c d/\(dE (d.take b)).all fX=l) (λb:Nat=>[(3,.n (.R (.w 0 2 (c (dE (d.take b))) (a3.fn (dE (d.take b)))))),(9,a2.A d),(10,R (c d)),(11,R b)]) (λb=>[js (dE (d.take b))]) (λb=>c d-b) 0 a ?_ a ?_ a ⟨by omega,a⟩ ?_
 .simp[dE]
 .simp[dE]
 rintro b ⟨D,j⟩;by_cases k:b<c d
 .have o:d.getD (b:Int).toNat a2.D=d.getD b (0,[]):=M;have F:=Ee k;refine be e [12] a bu (g.aC 2 (λt=>t<=(d.getD b (0,[])).2.length/\(hh d b t).all fX=l) (λt:Nat=>[(3,.n (.R (.w 0 2 (c (hh d b t)) (a3.fn (hh d b t))))),(5,aI 1 0),(9,a2.A d),(10,R (c d)),(11,R b),(16,bH.A (d.getD b (0,[])).2),(17,R (d.getD b (0,[])).2.length),(18,R t)]) (λt=>[js (hh d b t),.cells 107 [.c (.int .i64 (d.getD b (0,[])).1),.c (.A v 2 (d.getD b (0,[])).2.length (bH.fn (d.getD b (0,[])).2))]]) (λt=>(d.getD b (0,[])).2.length-t) 0 a Ps a Ps a ⟨by omega,by simpa[hh]using j⟩ ?_);rintro t ⟨V,B⟩;obtain⟨J,Q⟩:=zh (d:=d) (t:=t) k;have X:c (hh d b t)<=100000:=M;have Y:(d.getD b (0,[])).2.length<=100000:=by grind[Ml]
  by_cases x:t<(d.getD b (0,[])).2.length
  .have w:(d.getD b (0,[])).2.getD (t:Int).toNat bH.D=(d.getD b (0,[])).2.getD t (0,[]):=M;have h:hh d b (t+1)=hh d b t++[(((d.getD b (0,[])).2.getD t (0,[])).1,(d.getD b (0,[])).1)]:=Rj;have z:=a3.aW (hh d b t) (((d.getD b (0,[])).2.getD t (0,[])).1,(d.getD b (0,[])).1);cases y:fX (((d.getD b (0,[])).2.getD t (0,[])).1,(d.getD b (0,[])).1)with
   |false=>
    have W:eB d=[]:=by obtain⟨J,Q⟩:=zh (d:=d) (t:=t+1) k;unfold eB;rw[bm];grind
    refine be e [19,29] a ?_ (g.aT (bY.zero a ?_))
    .simp only[T,w,y,bw,a',a7];exact qS
    exact bu
   |true=>
    refine be e [19,-29] a ?_ (g.aw (t+1) a ?_ ?_ ?_ ?_)
    .simp only[T,w,y,a8,show o'.bytes=16 from a,bw,a',a7];exact qS
    .exact Qd
    .exact Qd
    .grind
    omega
  have aa:t=(d.getD b (0,[])).2.length:=u;have s:hh d b t=dE (d.take (b+1)):=by rw[F,hh];grind[List.length_map]
  refine be e [-19] a bG (g.az ?_);rw[s];refine cU e a bG (g.aw (b+1) a C ?_ ⟨k,s▸B⟩ u);simp
 .obtain rfl:b=c d:=u;rw[cY]at j⊢;refine be e [-12] a C (g.az ?_);refine g.fZ (dF:=[(3,a3.A (dE d))]) (an:=[js (dE d)]) ?_ a C a C;have I:∀q∈dE d,a8 .i64 q.1/\a8 .i64 q.2:=λq S=>by have:=aX.1 j q S;simp only[fX,cn,bw]at this;simp only[a8];omega
  have i:ba p [(197,e9 [qw (dE d)] (ax (eM (i6 (dE d)))))]:=.cons (fu (Ja (dE d) u I)) .nil;have aY:(i6 (dE d)).ad=eB d:=by unfold eB;rw[bo j];exact(M3 (dE d) .nil bG).1
  have E:c (eB d)<=100000:=by have:=CH (dE d) [];unfold eB;grind
  rw[<-aY]at E⊢;clear aY;generalize i6 (dE d)=r at *;have N:=IM (p:=p) r u
  cases r<;>(
   refine cU i a a (g.bH N.tocH [] a a a a (by simp[eM]) a a a bk a bk a λ_=>?_)
   exact cU i a A (g.aq a))
def qq(b:m bC)(d:bC):Int:=match b.findIdx? (λe=>e==d)with
 |some a=>a
 |none=>-1
def YU{d}{aa}(a:e<c d)(j:∀b,b<e->d.getD b []≠aa)(h:d.getD e []=aa):qq d aa=e:=by
 have:d.findIdx? (λg=>g==aa)=f e:=by rw[AG];refine⟨a,by grind,λb i=>?_⟩;grind
 simp[qq,this]
def YW{d}{aa}(e:∀a,a<c d->d.getD a []≠aa):qq d aa=-1:=by have:d.findIdx? (λb=>b==aa)=n:=ww;simp[qq,this]
def YV(d)(aa):decide (0<=qq d aa)=d.contains aa:=by unfold qq;grind
def Vg(d)(aa):Z p 247 [bS.A d,b1 aa] [] (R (qq d aa)) []:=by
 refine Z.I func247 rfl λm=>?_;have r:=m.A 0 a;refine aO a A (g.aC 0 (λb=>b<=c d/\∀e,e<b->d.getD e []≠aa) (λb:Nat=>[(0,bS.A d),(1,b1 aa),(7,R (c d)),(8,R b)]) (λ_=>[]) (λb=>c d-b) 0 a C a A a ⟨by omega,by omega⟩ ?_);rintro b ⟨q,h⟩;by_cases k:b<c d
 .have i:d.getD (b:Int).toNat bS.D=d.getD b []:=rfl;by_cases j:d.getD b []=aa
  .rw[YU k h j];refine a5 [9,16] a ?_ (g.aT (bY.zero a));simp[T,i,bw,gL,a',a7];and_intros<;>first|exact j.symm|omega
  refine a5 [9,-16] a ?_ (g.aw (b+1) a ?_ A ⟨k,λe o=>?_⟩ u)
  .simp only[T,i,a8,bw,e0,a',a7];and_intros<;>first|grind|omega
  .simp
  grind
 rw[YW λe o=>h e u];exact QF
abbrev SG:bK:=er (e7 bS) eE (λa b=>R (qq a b)) λ_ _=>[]
def U1(d)(aa):Z p 201 [bS.A d,b1 aa] [] (bh (d.contains aa)) []:=by refine Z.I func201 rfl λe=>?_;have b:ba p [(247,SG)]:=.cons (.bh λd aa _=>Vg d aa) .nil;refine b_ b a (by simp[T];exact bS.T _) (g.aq a ?_);simp only[T,bS.l,a7];exact YV d aa
abbrev GX:bK:=er (e7 bS) eE (λa b=>bh (a.contains b)) λ_ _=>[]
def acI:bL p 201 GX:=.bh λa b _=>U1 a b
def kP(b:m fg)(d:Nat):Bool:=(az d).all λa=>fX (b.getD a (0,0))&&(a==0||decide ((b.getD (a-1) (0,0)).1<(b.getD a (0,0)).1))
theorem KQ{d}:kP d (e+1)=(kP d e&&(fX (d.getD e (0,0))&&(e==0||decide ((d.getD (e-1) (0,0)).1<(d.getD e (0,0)).1)))):=by unfold kP;rw[List.range_succ,List.all_append];simp
def KO{d}(h:kP d e=v):∀a,e<=a->kP d a=v:=by
 intro a g;obtain⟨b,rfl⟩:=Nat.exists_eq_add_of_le g;induction b with
 |zero=>exact h
 |succ b i=>grind[KQ]
def Vp(d):Z p 196 [a3.A d] [] (bh (kP d (c d))) []:=by
 refine Z.I func196 rfl λq=>?_;have t:=q.A 0 a;have b:ba p [(202,Bx)]:=.cons MP .nil;refine b_ b a A (g.aC 0 (λe=>e<=c d/\kP d e=l) (λe:Nat=>[(0,a3.A d),(5,a3.A d),(6,R (c d)),(7,R e)]) (λ_=>[]) (λe=>c d-e) 0 a C a A a ⟨by omega,a⟩ ?_);rintro e ⟨r,k⟩;by_cases o:e<c d
 .have j:=KQ (d:=d) (e:=e);rw[k,fR]at j;have i:d.getD (e:Int).toNat a3.D=d.getD e (0,0):=rfl;cases h:fX (d.getD e (0,0))with
  |false=>
   rw[KO (e:=e+1) M (c d) u];refine a_ b [8,14,29] a ?_ (g.aT (bY.zero a));simp_all
  |true=>
  rw[h,fR]at j;by_cases s:e=0
  .subst s;refine a_ b [8,-14,-17,-29] a ?_ (g.aw 1 a C A ⟨o,j⟩ u);simp only[T,i,h,a8,bw,dp,a',a7];exact qS
  have m:d.getD ((e:Int)-1).toNat a3.D=d.getD (e-1) (0,0):=by rw[show((e:Int)-1).toNat=e-1 by omega];rfl
  by_cases w:(d.getD (e-1) (0,0)).1<(d.getD e (0,0)).1
  .refine a_ b [8,-14,17,-29] a ?_ (g.aw (e+1) a C A ⟨o,by grind⟩ u);simp only[T,i,m,h,a8,bw,dp,a',a7];exact qS
  rw[KO (e:=e+1) M (c d) u];refine a_ b [8,-14,17,29] a ?_ (g.aT (bY.zero a));simp only[T,i,m,h,a8,bw,a',a7];exact qS
 obtain rfl:e=c d:=u;rw[k];refine a_ b [-8] a C (g.az ?_);exact b_ b a A (g.aq a)
def VJ(d):Z p 10 [aA.A d,aA.A d] [] (bh l) []:=by
 refine Z.I func10 rfl λb=>?_;have i:=b.A 0 a;refine a5 [-10] a C (g.aC 0 (λe=>e<=c d) (λe:Nat=>[(0,aA.A d),(1,aA.A d),(5,R e)]) (λ_=>[]) (λe=>c d-e) 0 a C a C a u ?_);intro e h;by_cases j:e<c d
 .exact OY
 exact QV
abbrev uP:bK:=er (e7 aA) (e7 aA) (λ_ _=>bh l) λa b=>[b=a]
def zn:bL p 10 uP:=.bh λa b d=>by have:b=a:=d;subst this;exact VJ _
def VK(d):Z p 65 [a3.A d,a3.A d] [] (bh l) []:=by
 refine Z.I func65 rfl λb=>?_;have i:=b.A 0 a;refine a5 [-10] a C (g.aC 0 (λe=>e<=c d) (λe:Nat=>[(0,a3.A d),(1,a3.A d),(5,R e)]) (λ_=>[]) (λe=>c d-e) 0 a C a C a u ?_);intro e h;by_cases j:e<c d
 .exact OY
 exact QV
abbrev G3:bK:=er (e7 a3) (e7 a3) (λ_ _=>bh l) λa b=>[b=a]
def acQ:bL p 65 G3:=.bh λa b d=>by have:b=a:=d;subst this;exact VK _
abbrev KV(a:b'):ap:=.cells 107 [.c (.int .i64 a.1),.c (.A v 2 (c a.2) (bH.fn a.2))]
def VL(b):Z p 66 [fH b,fH b] [] (bh l) []:=by
 refine Z.I func66 rfl λr=>?_;by_cases E:c b.2<=9223372036854775807
 .refine a5 [-10,-18] a C (g.aC 2 (λd=>d<=c b.2) (λd:Nat=>[(2,aI 0 0),(3,aI 1 0),(5,R d)]) (λ_=>[KV b,KV b]) (λd=>c b.2-d) 0 a C a C a u ?_);intro d q;by_cases o:d<c b.2
  .refine bR [24,-37] a ?_ (g.aw (d+1) a ?_ ?_ ?_ ?_)
   .simp[a8,o];omega
   .simp
   .simp
   .grind
   omega
  refine bR [-24] a bQ (g.az ?_);exact cy a A (g.aq a)
 exfalso;obtain⟨k,y,h,_⟩:=r;obtain⟨D,t⟩:∃w,bv [] k w (fH b):=by
  match y,h with
  |[i,_],h=>exact⟨i,h.1⟩
 obtain⟨s,_,e⟩:=t
 match s,e with
 |[i,m],e=>
  have:=e.2.1;cases(show Rd k.C m (.A v 2 (c b.2) (bH.fn b.2))from this)with
  |A x j z B F=>omega
abbrev G4:bK:=er (jA bH) (jA bH) (λ_ _=>bh l) λa b=>[b=a]
def acR:bL p 66 G4:=.bh λa b d=>by have:b=a:=d;subst this;exact VL _
abbrev jR(a:eK):ap:=.cells 104 [.c (.int .i64 a.1),.c (.A v 2 (c a.2) (cA.fn a.2))]
def VM(d)(h:c d.2<=4000000):Z p 67 [iT d,iT d] [] (bh l) []:=by
 refine Z.I func67 rfl λi=>?_;have w:ba p [(10,uP)]:=.cons zn .nil;refine a_ w [-10,-18] a C (g.aC 2 (λb=>b<=c d.2) (λb:Nat=>[(2,aI 0 0),(3,aI 1 0),(5,R b)]) (λ_=>[jR d,jR d]) (λb=>c d.2-b) 0 a C a C a u ?_);intro b e;by_cases j:b<c d.2
 .refine be w [24,-39,53] a ?_ (g.aw (b+1) a ?_ ?_ ?_ ?_)
  .simp only[T,a8,gi,gw,iI,bw,a',a7];and_intros<;>first|exact aA.T _|omega
  .simp
  .simp
  .grind
  omega
 refine be w [-24] a bQ (g.az ?_);exact zQ
abbrev G5:bK:=er (jA cA) (jA cA) (λ_ _=>bh l) λb a=>[a=b,c a.2<=4000000]
def acS:bL p 67 G5:=.bh λa b e=>by obtain⟨rfl,d⟩:b=a/\_:=e;exact VM _ d
abbrev zj(a:cz):ap:=.cells 30 [.c (.A v 2 (c a.1) (a2.fn a.1)),.c (.A v 2 (c a.2.1) (bj.fn a.2.1)),.c (.A v 2 (c a.2.2) (a3.fn a.2.2))]
def VN(b)(e:dO b):Z p 39 [b9 b,b9 b] [] (bh l) []:=by
 refine Z.I func39 rfl λk=>?_;have w:ba p [(65,G3),(66,G4),(67,G5)]:=.cons acQ (.cons acR (.cons acS .nil));have o:=e.aY;have m:=e.aZ;refine be w [-13,-21,28] a ?_ ?_
 .simp only[T,a8,gi,gw,iI,bw,a',a7];and_intros<;>first|exact a3.T _|omega
 refine g.aC 2 (λd=>d<=c b.1) (λd:Nat=>[(2,aI 0 0),(3,aI 1 0),(5,R d)]) (λ_=>[zj b,zj b]) (λd=>c b.1-d) 0 a C a C a u ?_;intro d h;by_cases i:d<c b.1
 .refine be w [35,48] a ?_ (g.aw (d+1) a ?_ ?_ ?_ ?_)
  .simp only[T,a8,bw,a',a7];and_intros<;>first|exact bH.T _|omega
  .simp
  .simp
  .grind
  omega
 refine be w [-35] a bQ (g.az ?_);refine cU w a A (g.aC 2 (λd=>d<=c b.2.1) (λd:Nat=>[(2,aI 0 0),(3,aI 1 0),(6,R d)]) (λ_=>[zj b,zj b]) (λd=>c b.2.1-d) 0 a C a C a u ?_);intro d h;by_cases i:d<c b.2.1
 .have t:=(e.bx _ (mw i (0,[]))).1;have j:b.2.1.getD (d:Int).toNat bj.D=b.2.1.getD d (0,[]):=M;refine be w [54,67] a ?_ (g.aw (d+1) a ?_ ?_ ?_ ?_)
  .simp only[T,a8,j,cA.l,bw,a',a7];and_intros<;>first|exact cA.T _|omega
  .simp
  .simp
  .grind
  omega
 refine be w [-54] a bQ (g.az ?_);exact zQ
end
def F8{d}:∀{h:Nat},c (fA d h)=h->∀a,1<=a->a<h->d.getD a 0≠d.getD (a-1) 0
 |0,_,a,_,b=>by omega
 |h+1,b,a,e,i=>by
  have g:=w5 d h;rw[fA]at b;split at b
  .omega
  rename_i j;simp only[df,gh]at b;by_cases k:a=h
  .grind
  exact F8 (h:=h) u a e u
def Mi(d):(jU d).Pairwise λa b=>a<=b:=by have:=List.pairwise_mergeSort (le:=λa b:Int=>decide (a<=b)) (λe g h i j=>by grind) (λe g=>by grind) d;exact this.imp λk=>by grind
def zg(d):(jU d).Perm d:=List.mergeSort_perm _ _
def SY(d):c (hP (jU d))=c d↔d.Nodup:=by
 rw[<-qK d,<-(zg d).nodup_iff];have r:=Mi d;generalize jU d=i at *;have k:∀{b:Nat} (e:b<c i),i.getD b 0=i[b]:=λ{b} e=>by grind
 constructor
 .intro e;have o:=F8 e;refine List.Pairwise.imp (R:=λs t=>s<t) (λe q=>by omega) (m3.2 λb g h a m=>?_);have j:=m3.1 r;have p:=o g u a;rw[k a,k u]at p;have w:=j (g-1) g u a u;by_cases q:b=g-1
  .grind
  have:=j b (g-1) h u u;omega
 intro e;unfold hP;rw[uB (bA _),cY];exact Fh
def Mn(j z):∀(g:m Int)d(e:Bool),(e=l->j∈d) ->
  ((z∈(g.foldl (gp j) (d,e)).1∨(z=j/\(g.foldl (gp j) (d,e)).2=v))↔((z∈d∨(z=j/\e=v))∨z∈g))
 |[],d,e,_=>by simp
 |i::g,d,e,r=>by
  rw[iL];have h:∀a b,gp j (d,e) i=(a,b)->(b=l->j∈a)/\((z∈a∨(z=j/\b=v))↔((z∈d∨(z=j/\e=v))∨z=i)):=λa b p=>by unfold gp at p;grind
  cases k:gp j (d,e) i with
  |mk a b=>
   obtain⟨q,o⟩:=h a b k;rw[Mn j z g a b q,o,e8,or_assoc]
def ZC{d}{b a:Int}:a∈e4 d b↔a∈d∨a=b:=by have:=Mn b a d [] v C;unfold e4;grind
def yz{z}:∀{b a:m Int},z∈b.foldl e4 a↔z∈a∨z∈b
 |[],a=>by simp
 |d::b,a=>by rw[iL,yz,ZC,e8,or_assoc]
def Df{d}{z}:z∈gE d↔z∈d' d:=by unfold gE;rw[yz];simp
def Kp{z}:∀{e:m eK}{b:m Int},z∈e.foldl (λa d=>(gE d.2).foldl e4 a) b↔z∈b∨∃d∈e,z∈d' d.2
 |[],b=>by simp
 |d::e,b=>by rw[iL,Kp,yz,Df,or_assoc];simp
def tf{d}{z}:z∈hU d↔∃a∈d,z∈d' a.2:=by unfold hU;rw[Kp];simp
def Ko{d}{z}:∀{t:Nat},t<=c d->(z∈fA d t↔z∈d.take t)
 |0,_=>by simp[fA]
 |t+1,e=>by
  have b:=Ko (d:=d) (z:=z) (t:=t) u;rw[fA,ih u 0];split
  .rename_i r;rw[b,fy];constructor
   .exact .inl
   rintro(a|a)
   .exact a
   simp only[gJ]at a;subst a;rw[r.2,aj,bI u];exact AH.2 ⟨t-1,by simp;omega,by simp⟩
  grind
def yA{a}{z}:z∈gf a↔z∈d' a.2:=by unfold gf hP;rw[Ko (bA _),cY];exact(zg _).mem_iff
def Zv{d}{j:Int->Bool}:(hU d).all j=(az (c d)).all λe=>!(gf (d.getD e (0,[]))).any λb=>!j b:=by
 rw[oV,aX,fZ];constructor
 .intro h e a;rw[je,List.any_eq_false];intro b g;have:=h b (tf.2 ⟨_,oc a,yA.1 g⟩);simp[this]
 intro h b g;obtain⟨o,m,k⟩:=tf.1 g;obtain⟨e,a,rfl⟩:=AH.1 m;have i:=h e a;rw[aj,bI a,h3,je,List.any_eq_false]at i;simpa using i b (yA.2 k)
def sY{a:m α}(d:e<c a)(b:α):a.getD e b=a[e]:=M
def w_{ak:α->Int}{N}{d}:(∀a,a<c d->kb ak N d a=l)↔d.Pairwise λo p=>ak o<ak p:=by
 constructor
 .intro j;have key:∀g a e (b:a<c d) (h:e<c d),e=a+g->0<g->ak d[a]<ak d[e]:=by
   intro g;induction g with
   |zero=>grind
   |succ g q=>
    intro a e b h k _;have m:=j e h;rw[p4 u,decide_eq_true_iff,sY u,sY h]at m;by_cases i:g=0
    .subst i;grind
    grind
  exact m3.2 λa e b h k=>key (e-a) a e b h u u
 intro j a b;by_cases i:a=0
 .exact bG
 rw[p4 i,decide_eq_true_iff,sY u,sY b];exact(m3.1 j) (a-1) a u b u
def sB{d}{S:α->Bool}{N}:(∀a,a<c d->S (d.getD a N)=l)↔∀b∈d,S b=l:=by grind[List.mem_iff_getElem]
structure nV(h:Int)(S:b'):Prop where
 c0:1<=S.1/\S.1<=99
 key:cj h=l
 len:1<=c S.2/\c S.2<=4
 gE:∀D∈S.2,right h D=l
 ih:S.2.Pairwise λD bE=>D.1<bE.1
def yP{d}:ia h d=l↔nV h d:=by
 rw[DA];simp[cn,bw,fZ];have k:(∀b,b<c d.2->ie h d b=l)↔(∀g∈d.2,right h g=l)/\d.2.Pairwise λg m=>g.1<m.1:=by
  rw[<-sB (N:=(0,[])),<-w_ (ak:=λg:cX=>g.1) (N:=(0,[]))];constructor
  .intro e;exact⟨λb a=>by have:=e b a;simp[ie,cn]at this;exact this.1,λb a=>by have:=e b a;simp only[ie,cn]at this;exact this.2⟩
  intro e b a;simp only[ie,cn];exact⟨e.1 b a,e.2 b a⟩
 rw[k];constructor
 .rintro⟨⟨⟨r,j⟩,t⟩,i,B⟩;exact⟨r,j,t,i,B⟩
 rintro⟨r,j,t,i,B⟩;grind
structure jz(h:Int)(b:cz):Prop where
 cq:∀S∈b.1,nV h S
 c6:b.1.Pairwise λS bi=>S.1<bi.1
 ax:(cr b.1).Nodup
 aZ:∀D∈b.2.1,(1<=D.1/\D.1<=20)/\(ev h D b.1).isSome=l
 cG:b.2.1.Pairwise λD bE=>D.1<bE.1
 key:cj h=l
 dn:f' b.2.2=l
 len:c b.1<=20
def rZ{b}:hY h b=l↔jz h b:=by
 unfold hY;simp[cn,bw,fZ];have q:(∀e,e<c b.1->nG h b.1 e=l)↔(∀g∈b.1,nV h g)/\b.1.Pairwise λg s=>g.1<s.1:=by
  rw[<-w_ (ak:=λg:b'=>g.1) (N:=(0,[]))];have:(∀g∈b.1,nV h g)↔∀g∈b.1,ia h g=l:=⟨λk g o=>yP.2 (k g o),λk g o=>yP.1 (k g o)⟩
  rw[this,<-sB (N:=(0,[]))];constructor
  .intro k;exact⟨λe a=>by have:=k e a;simp[nG,cn]at this;exact this.1,λe a=>by have:=k e a;simp[nG,cn]at this;exact this.2⟩
  intro k e a;simp[nG,cn];grind
 have u:(∀e,e<c b.2.1->lo h b e=l)↔(∀i∈b.2.1,(1<=i.1/\i.1<=20)/\(ev h i b.1).isSome=l)/\b.2.1.Pairwise λi w=>i.1<w.1:=by
  rw[<-w_ (ak:=λg:eK=>g.1) (N:=(0,[]))];have:(∀i∈b.2.1,(1<=i.1/\i.1<=20)/\(ev h i b.1).isSome=l)↔∀i∈b.2.1,(decide (1<=i.1/\i.1<=20)&&(ev h i b.1).isSome)=l:=M;rw[this,<-sB (N:=(0,[]))];constructor
  .intro k;exact⟨λe a=>by have:=k e a;simp[lo,cn]at this⊢;grind,λe a=>by have:=k e a;simp[lo,cn]at this;exact this.1.2⟩
  intro k e a;have m:=k.1 e a;simp[lo,cn]at m⊢;grind
 rw[q,u];constructor
 .rintro⟨⟨⟨⟨⟨⟨m,B⟩,j⟩,t,z⟩,r⟩,d⟩,p⟩;exact⟨m,B,j,t,z,r,d,p⟩
 rintro⟨m,B,j,t,z,r,d,p⟩;grind
structure kC(h:Int)(Q:dM):Prop extends jz h Q.1 where
 gw:∀D∈Q.1.2.1,∀j∈d' D.2,j∈Q.2.1
 gr:∀j∈Q.2.2,∃S∈Q.1.1,S.1=j
 hi:Q.2.2.Pairwise λD bE=>D<bE
def tI{a}:hi h a=l↔kC h a:=by
 unfold hi;simp only[cn,rZ,fZ];have p:(hU a.1.2.1).all (λb=>a.2.1.contains b)=l↔∀j∈a.1.2.1,∀b∈d' j.2,b∈a.2.1:=by
  rw[aX];constructor
  .intro g j t b m;simpa using g b (tf.2 ⟨j,t,m⟩)
  intro g b m;obtain⟨j,t,m⟩:=tf.1 m;grind
 have q:(∀e,e<c a.2.2->nw a.1.1 a.2.2 e=l)↔(∀b∈a.2.2,∃k∈a.1.1,k.1=b)/\a.2.2.Pairwise λj s=>j<s:=by
  rw[<-w_ (ak:=λb:Int=>b) (N:=0)];have:(∀b∈a.2.2,∃k∈a.1.1,k.1=b)↔∀b∈a.2.2,(a.1.1.any λk=>k.1==b)=l:=C;rw[this,<-sB (N:=0)];constructor
  .intro g;exact⟨λe d=>by have:=g e d;simp only[nw,cn]at this;exact this.1,λe d=>by have:=g e d;simp[nw,cn]at this;exact this.2⟩
  intro g e d;simp[nw,cn];grind
 rw[p,q];constructor
 .rintro⟨⟨o,i,B⟩,r⟩;exact⟨r,o,i,B⟩
 rintro⟨r,o,i,B⟩;grind
def i2(b:Int)(a:m Int)(d:b'):b':=if d.1=b then hI d a else d
def fk(b:Int)(a:m Int)(d:m b'):m b':=(d.map (i2 b a)).filter λe=>!e.2.isEmpty
def ig(a:dM):dM:=match a.2.2 with
 |[]=>a
 |b::d=>((fk b a.2.1 a.1.1,a.1.2),a.2.1,d)
def Yk{d:m cX}{a:m Int}{j}(e:j∈a):(d.filter λb=>a.contains b.1).find? (λb=>b.1==j)=d.find? (λb=>b.1==j):=M
def Z_{bN:Int}{a:m Int}{S}{j}(b:j∈a):fS h (i2 bN a S) j=fS h S j:=by
 unfold i2;split
 .simp only[fS,hI,Yk b]
 simp
def Jm{h bN}{cw}{j}(b:j∈cw):∀a:m b',dg h (fk bN cw a) j=dg h a j
 |[]=>rfl
 |S::a=>by
  have g:=Jm (h:=h) (bN:=bN) b a;have e:=Z_ (h:=h) (bN:=bN) (S:=S) b;unfold fk dg at *;rw[me,rg];split
  .grind
  rename_i d;have d:(i2 bN cw S).2=[]:=M;have:fS h S j=n:=by rw[<-e];unfold fS;grind
  grind
def Yc{Y cR}{a}(d:∀b∈a,dg h Y b=dg h cR b):g4 h Y a=g4 h cR a:=by unfold g4;grind[List.map_congr_left]
def abE{Y cR}{b}(i:∀a∈d' b.2,dg h Y a=dg h cR a):ev h b Y=ev h b cR:=by
 have j:∀d∈b.2,fI h Y d=fI h cR d:=λd g=>by unfold fI;rw[Yc λa e=>i a (rf.2 ⟨d,g,e⟩)]
 unfold ev fj;grind[List.map_congr_left]
theorem yt{bN}{cw}{a}:(i2 bN cw a).1=a.1:=by unfold i2 hI;split<;>rfl
theorem C7{bN}{cw}{S}:List.Sublist (i2 bN cw S).2 S.2:=by unfold i2 hI;split<;>simp
def Mt{bN}{cw}{Y}{a}(b:a∈fk bN cw Y):∃d∈Y,a=i2 bN cw d/\a.2≠[]:=by unfold fk at b;grind
def Kw{bN}{cw}:∀a:m b',List.Sublist (cr (fk bN cw a)) (cr a)
 |[]=>.refl _
 |d::a=>by
  have b:=Kw (bN:=bN) (cw:=cw) a;unfold fk cr at *;rw[me,rg,sq];split
  .rw[sq];exact(C7.map _).append b
  grind
def kC.step{b}(d:kC h b):kC h (ig b):=by
 unfold ig;split
 .exact d
 rename_i bN y o;have s:=d.gr;have r:=d.hi;rw[o]at s r;have w:∀e∈b.1.2.1,ev h e (fk bN b.2.1 b.1.1)=ev h e b.1.1:=λe j=>abE λp g=>Jm (d.gw e j p g) _;refine⟨⟨λx t=>?_,?_,d.ax.sublist (Kw _),λe j=>?_,d.cG,d.key,d.dn,?_⟩,d.gw,λp g=>?_,(iH.1 r).2⟩
 .obtain⟨S,k,rfl,q⟩:=Mt t;have i:=d.cq S k;have m:=C7 (bN:=bN) (cw:=b.2.1) (S:=S);refine⟨by rw[yt];exact i.c0,i.key,⟨AE.2 q,fG m.length_le i.len.2⟩,λe j=>i.gE e (m.subset j),i.ih.sublist m⟩
 .show (fk bN b.2.1 b.1.1).Pairwise _;unfold fk;refine List.Pairwise.filter _ (rb.2 (d.c6.imp λu=>?_));grind[yt]
 .have:=d.aZ e j;grind
 .show (c (fk bN b.2.1 b.1.1))<=20;have:c (fk bN b.2.1 b.1.1)<=c b.1.1:=by unfold fk;grind
  exact fG this d.len
 obtain⟨S,k,rfl⟩:=s p (mg _ g);have q:S.1≠bN:=by grind[List.pairwise_cons]
 refine⟨S,?_,a⟩;show S∈fk bN b.2.1 b.1.1;unfold fk;refine iK.2 ⟨hq.2 ⟨S,k,by unfold i2;grind⟩,?_⟩;have:=(d.cq S k).len.1;grind
def oE{o}(i:dN o=l):q4 o:=by
 obtain⟨k,_,_,t⟩:=zw.1 i;have q:∀a∈o,dX a.2=l/\c a.2<=40:=λa d=>by have:=(k a d).2;simp[fK,cn,bw]at this;grind
 refine⟨by omega,λa d=>⟨(q a d).1,by grind⟩,?_⟩;have:∀b:m c7,(∀a∈b,c a.2<=40)->c (eP b)<=40*c b:=by
  intro b;induction b with
  |nil=>exact bG
  |cons a u j=>
   intro e;have g:=j λh p=>e h (mg _ p);have r:=e a ir;have s:=vG a.2;simp[eP,sq,df,fh]at g⊢;omega
 grind
theorem ZH(bN h)(Y):(jP bN h Y).2.length=c Y:=Dh h Y
def w'{d:m eK}:∀a,d.Pairwise (λa g=>a.1<g.1)->(∀b∈d,a<=b.1/\b.1<=20)->(c d:Int)<=max 0 (21-a):=by
 induction d with
 |nil=>grind
 |cons b r h=>
  intro a k e;obtain⟨p,i⟩:=iH.1 k;have q:=e b ir;have:=h (b.1+1) i λo j=>⟨by grind,(e o (mg _ j)).2⟩
  grind
def K3(h):∀j a(b:m bC),(∀g∈b,cC g=l)->∀k∈ga h j a b,∃i d,a<=i/\i<a+c (ga h j a b)/\0<c d/\c d<=4/\(∀g∈d,cC g=l)/\k=jP i h d
 |0,_,_,_,k,e=>by exact bG
 |j+1,a,b,o,k,e=>by
  simp only[ga]at e⊢;split at e
  .rename_i q;rw[bo q];rcases e8.1 e with rfl|e
   .grind
   obtain⟨i,d,s,r,t⟩:=K3 h j (a+1) (b.drop 4) (λg p=>o g (p3 p)) k e;grind
  grind
def CJ{a:m α}(d:c a≠0)(b:α):a.getD (c a-1) b∈a:=mw u b
def DB(h):∀g a(b:m bC),∀e∈ga h g a b,a<=e.1
 |0,_,_,e,d=>by exact bG
 |g+1,a,b,e,d=>by
  simp only[ga]at d;split at d
  .rcases e8.1 d with rfl|d
   .exact Int.le_refl _
   have:=DB h g (a+1) (b.drop 4) e d;omega
  grind
def K0(h):∀(d:Nat) (a:Int)(b:m bC),(ga h d a b).Pairwise λe g=>e.1<g.1
 |0,_,_=>by simp[ga]
 |d+1,a,b=>by
  simp[ga];split
  .refine iH.2 ⟨λj i=>?_,K0 h d (a+1) (b.drop 4)⟩;have:=DB h d (a+1) (b.drop 4) j i;exact bG
  simp
theorem ZE{d}{e a}(b:a∈fB d e):a=e∨a∈d:=by
 induction d with
 |nil=>simp[fB]at b;grind
 |cons i h g=>
  simp only[fB]at b;grind
def ZD{Y}{d}(e:d∈h9 h Y):∃a∈Y,d=(dY h a,fJ a):=by
 have key:∀(Y:m bC) b,d∈Y.foldl (λg a=>fB g (dY h a,fJ a)) b->d∈b∨∃a∈Y,d=(dY h a,fJ a):=by
  intro Y;induction Y with
  |nil=>grind
  |cons a j i=>
   grind[ZE]
 rcases key Y [] e with e|e
 .cases e
 grind
def Cu{Y}{j}{b}(d:dg h Y j=f b):cC b=l/\dY h b=j/\j∈cr Y:=by
 unfold dg at d;obtain⟨nC,k,a⟩:=List.exists_of_findSome?_eq_some d;unfold fS at a;split at a
 .rename_i e i;have m:e.1=j:=NT;have g:=wN i;unfold iO hJ at a;refine⟨by grind,by grind,rf.2 ⟨nC,k,hq.2 ⟨e,g,m⟩⟩⟩
 cases a
def Jl{Y}{j}(p:cj h=l)(i:∀b∈Y,nV h b)(o:j∈cr Y):∃b,dg h Y j=f b:=by
 obtain⟨nC,e,m⟩:=rf.1 o;obtain⟨s,r,t⟩:=hq.1 m;cases k:dg h Y j with
 |some b=>simp
 |none=>
  have d:fS h nC j=n:=List.findSome?_eq_none_iff.1 k nC e;unfold fS at d;split at d
  .rename_i g a;have u:g.1=j:=by simpa using List.find?_some a
   have q:=(i nC e).gE g (wN a);unfold right at q;unfold iO at d;grind
  rename_i a;have:=List.find?_eq_none.1 a s r;grind
def Yi{Y cR}(a:cj h=l)(e:∀b∈Y,nV h b)(q:∀j∈cr cR,j∈cr Y){j}{b}(p:dg h cR j=f b):dg h Y j=f b:=by obtain⟨i,k,o⟩:=Cu p;obtain⟨r,d⟩:=Jl a e (q j o);obtain⟨g,m,_⟩:=Cu d;rw[d,yE a i g (k.trans m.symm)]
def Yj{Y cR}(q:∀a(g:bC),dg h cR a=f g->dg h Y a=f g){b}{j}(k:fI h cR b=f j):fI h Y b=f j:=by
 have key:∀e,g4 h cR b.2=f e->g4 h Y b.2=f e:=by
  intro e d;unfold g4 at *;split at d
  .rename_i i;cases d;have p:∀a∈b.2,dg h Y a=dg h cR a:=λa m=>by have:=aX.1 i a m;obtain⟨g,o⟩:=An.1 this;simp_all
   simp_all
  cases d
 unfold fI at *;split at k
 .cases k
 simp_all
def abH{Y cR}(k:∀i(j:bC),dg h cR i=f j->dg h Y i=f j){a}{o}(d:ev h a cR=f o):ev h a Y=f o:=by
 unfold ev at *;split at d
 .rename_i r;cases d;simp only[cn]at r;have m:∀b∈a.2,fI h Y b=fI h cR b:=λb g=>by obtain⟨p,e⟩:=An.1 (aX.1 r.1.2 b g);rw[e,Yj k e]
  have q:fj h Y a.2=fj h cR a.2:=p0 λb g=>by simp_all
  simp_all
 cases d
section
variable {p:ah V}
structure q5(b:cz):Prop where
 size:dO b
 hL:b.1.Pairwise λw i=>w.1<i.1
 num:∀D∈b.2.1,-4000000<=D.1/\D.1<=4000000
 aL:∀D∈b.2.2,1<=D.1/\D.1<=2
def JQ{b}(i:q5 b)(d):(∃a r,sg b d a r)∨pM b d:=by
 by_cases h:pM b d
 .exact .inr h
 refine .inl ?_;simp only[pM,Classical.not_forall,Classical.not_not]at h;obtain⟨a,e,k,w,x⟩:=h;refine⟨a,d.2.2.1.toNat,e,k,λg j t o=>?_,by omega,by omega⟩;have q:b.1.getD a (0,[])=b.1[a]:=M;have p:b.1.getD g (0,[])=b.1[g]:=M;rw[q]at k;rw[p]at o;rcases dW g a with m|s
 .have:=m3.1 i.hL g a j e m;omega
 have:=m3.1 i.hL a g e j u;omega
theorem KP{d}(g:kP d (c d)=l):(∀b∈d,fX b=l)/\d.Pairwise λb h=>b.1<h.1:=by
 have i:=fZ.1 g;have j:∀a,a<c d->∀e,e<a->(d.getD e (0,0)).1<(d.getD a (0,0)).1:=by
  intro a;induction a with
  |zero=>grind
  |succ a k=>
   grind
 grind[List.getElem_of_mem,List.pairwise_iff_getElem]
def Yp(d):∀a:m fg,(a++d).Pairwise (λb e=>b.1<e.1)->d.foldl ea a=a++d:=by
 induction d with
 |nil=>grind
 |cons b h g=>
  grind[aaC]
def adt{d}(g:kP d (c d)=l)(j):(i6 d).find j=iW d j:=by obtain⟨a,b⟩:=M3 d .nil bG;have e:=Yp d [] (by grind[KP]);rw[i6,Cz b,a];exact eD (iW · j) e
def M5{o}(d:dN o=l):∀a∈o,fK a.2=l:=λa b=>((zw.1 d).1 a b).2
abbrev H'(a:m bC):x:=.n (.R (.w 2 1 (c a) (bS.fn a)))
def Xo(z B)(h)(o)(d)(k:cj h=l)(D:dN o=l)(K:kP d (c d)=l)(ae:c d<=4000000):
  Z p 162 [R h,bB.A o,a3.A d] (il z B) (bS.A (fV h o d)) (il z B):=by
 refine Z.I func162 rfl λaL=>?_;have P:ba p [(38,dk c8 (λh=>bh (cj h)) λ_=>[]),(42,ro),(196,dk (e7 a3) (λd=>bh (kP d (c d))) λ_=>[])]:=.cons t38 (.cons v3 (.cons (.a7 λd _=>Vp d) .nil));refine be P [-15,-20,-25] a ?_ ?_
 .simp only[T,k,bB.l,a3.l,r5,D,K];exact⟨a,a3.T _,a,bB.T _,a⟩
 have G:=KP K;have Q:∀r∈d,a8 .i64 r.1/\a8 .i64 r.2:=λr a9=>by have:=G.1 r a9;simp only[fX,cn,bw]at this;simp only[a8];omega
 have aY:=adt K;have af:=Ja (p:=p) d ae Q;have V:∀m,Z p 199 [ax (eM (i6 d)),R m] [] (R (iW d m)) []:=λm=>aY m▸UI (i6 d) m
 clear aY;generalize i6 d=F at *;have s:ba p [(197,e9 [qw d] (ax (eM F)))]:=.cons (fu af) .nil;cases F<;>(
  refine cU s a a (g.bB 8 9 1 a a ?_);refine g.dC 3 [0,7,29,30] (λb=>b<=c o) (λb:Nat=>[(8,H' ((eP (o.take b)).foldl (e6 h d) [])),(31,R b)]) (λb=>il z B++[.w 9 1 (c ((eP (o.take b)).foldl (e6 h d) [])) (bS.fn ((eP (o.take b)).foldl (e6 h d) []))]) (λb=>c o-b) 0 a ?_ a ?_ a u ?_
  .simp[eP]
  .simp[eP]
  intro b Y;by_cases X:b<c o
  .have L:o.getD (b:Int).toNat bB.D=o.getD b ([],[]):=M;have I:o.getD b ([],[])∈o:=M;have ai:=M5 D _ I;have y:=Gb X;have H:=Ga o (b+1);have E:=oE D;have W:=(E.fl _ I).1;have ag:=E.all;have ah:=E.len;have S:=vH W;generalize o.getD b ([],[])=i at *;rw[y,df]at H;have U:k7 i.2=ck i.2:=by unfold k7;grind
   have t:ba p [(198,dk eE (λaa=>bS.A (k7 aa)) λ_=>[])]:=.cons Eo .nil;refine be t [32] a bu ?_;rw[L,U];refine g.dC 4 [0,7,29,30,31,37,38] (λe=>e<=c (ck i.2)) (λe:Nat=>[(8,H' ((eP (o.take b)++(ck i.2).take e).foldl (e6 h d) [])),(39,R e)]) (λe=>il z B++[.w 9 1 (c ((eP (o.take b)++(ck i.2).take e).foldl (e6 h d) [])) (bS.fn ((eP (o.take b)++(ck i.2).take e).foldl (e6 h d) [])),.cells 91 [.c (.V i.1),.c (.V i.2)]]) (λe=>c (ck i.2)-e) 0 a C a C a u ?_;intro e al;have x:=CG h d (eP (o.take b)++(ck i.2).take e) [];simp only[gK,df,List.length_take]at x;by_cases ak:e<c (ck i.2)
   .have ab:(ck i.2).getD (e:Int).toNat bS.D=(ck i.2).getD e []:=M;have O:cC ((ck i.2).getD e [])=l:=S _ M;have w:(eP (o.take b)++(ck i.2).take (e+1)).foldl (e6 h d) []=e6 h d ((eP (o.take b)++(ck i.2).take e).foldl (e6 h d) []) ((ck i.2).getD e []):=ij;generalize(eP (o.take b)++(ck i.2).take e).foldl (e6 h d) []=dw at *;generalize(ck i.2).getD e []=q at *;have a9:=bS.aW dw q;refine bR [40] a bu ?_;rw[ab];refine g.aA (Cf z B h q k O) [0,1] a (g.aA (V _) [] a ?_);have j:ba p [(201,GX)]:=.cons acI .nil;by_cases N:iW d (dY h q)=0
    .cases av:dw.contains q with
     |true=>
      rw[e6,bm M]at w;refine be j [49,-54] a ?_ (g.aw (e+1) a ?_ ?_ ?_ ?_)
      .simp only[T,N,av,a8,bS.l,gi,bw,a',a7];exact P3
      .rw[w];simp
      .rw[w];simp
      .grind
      omega
     |false=>
      rw[e6,bo M]at w;refine be j [49,54] a ?_ (g.aw (e+1) a ?_ ?_ ?_ ?_)
      .simp only[T,N,av,a8,show s3.bytes=16 from a,bS.l,gi,bw,a',a7];exact P3
      .exact Q5
      .exact Q5
      .grind
      omega
    rw[e6,bm M]at w;refine be j [-49] a bG (g.aw (e+1) a ?_ ?_ ?_ ?_)
    .rw[w];simp
    .rw[w];simp
    .grind
    omega
   have J:e=c (ck i.2):=u;refine bR [-40] a bu (g.az ?_);refine cy a bG (g.aw (b+1) a ?_ ?_ ?_ ?_)
   .rw[y,J,cY];simp
   .rw[y,J,cY];simp
   .grind
   omega
  .obtain rfl:b=c o:=u;rw[cY];refine bR [-32] a C (g.az ?_)
   refine cy a A (g.aJ [0,1] a ?_ qj);simp[fV,eP])
abbrev ac4(a:b'×Bool):x:=.Q [.agg [.c (.int .i64 a.1.1),.c (.A v 2 (c a.1.2) (bH.fn a.1.2))],.R (.c (.bool a.2))]
def gD(b:Int)(a:bC):cX:=(dY b a,fJ a)
def tk(a d:Int)(b:m bC):b':=(a,l4 (b.map (gD d)))
def l0(a d:Int)(b:m bC):b'×Bool:=if ia d (tk a d b)=l then(tk a d b,l)else((0,[]),v)
theorem yY:∀b a,c (b.foldl hK a)=c a+c b
 |[],a=>by simp
 |d::b,a=>by rw[iL,yY b,Lt,fh];omega
def Na:∀d{b:m cX}{e:Nat},gr b->e<c b->gr (i7 d b e)
 |0,_,_,a,_=>a
 |d+1,b,e,a,g=>by
  rw[i7];split
  .exact a
  split
  .exact Na d (tJ a u g) pH
  grind
theorem aav{d}{a}(e:gr d)(i:a8 .i64 a.1/\c a.2<=9223372036854775807):gr (hK d a):=by
 refine Na _ (λh g=>?_) C;rcases fy.1 g with b|b
 .exact e h b
 grind
def aam{d}(a:gr d)(b:0<c d):gr (hf d):=
 B3 _ _ (tJ a b u) pH pH
theorem Kq{a}(b:cC a=l):a8 .i64 (gD h a).1/\(gD h a).2.length<=9223372036854775807:=by
 have d:=b;simp only[cC,cn,bw]at d;have e:=ri (gj a*(2*h+1)+h*7919) (show(999999999989:Int)≠0 by decide);have g:=q' (gj a*(2*h+1)+h*7919) (show(0:Int)<999999999989 by decide);refine⟨?_,?_⟩
 .show a8 .i64 (dY h a);simp only[a8,dY];omega
 show c (fJ a)<=_;unfold fJ fa;grind
def J3(h)(a:m bC)(g:∀d∈a,cC d=l):gr ((a.map (gD h)).foldl hK []):=by
 have:∀(b:m bC) e,(∀d∈b,cC d=l)->gr e->gr ((b.map (gD h)).foldl hK e):=by
  intro b;induction b with
  |nil=>grind
  |cons d j i=>grind[aav,Kq]
 exact this a [] g (by simp[gr])
abbrev Lk(e d:al×X)(g:Nat)(a:fo)(b:m cX):m ap:=il e d++[.cells 107 [.c (.int .i64 0),.c (.A l 0 0 λ_=>[])],iu g a (c b),aH a (c b) b]
abbrev DD(b:Int)(a:m cX):m ap:=[.cells 107 [.c (.int .i64 b),.w 6 2 (c a) (bH.fn a)],.w 138 2 (c a) (bH.fn a)]
def IT(s r:al×X)(bN h)(Y)(H:a8 .i64 bN)(b2:cj h=l)(N:∀t∈Y,cC t=l)(aw:c Y<=4):
  Z p 164 [R bN,R h,bS.A Y] (il s r) (ac4 (l0 bN h Y)) (il s r):=by
 refine Z.bb bc func164 rfl rfl rfl λav=>?_;refine bR [902] a A (g.jF 8 3 138 2 a a λq an=>?_);refine cy a A (g.dC 5 [0,1,6,8,14,15] (λi:Nat×fo=>i.1<=c Y) (λi=>[(16,R i.1)]) (λi=>Lk s r q i.2 (((Y.take i.1).map (gD h)).foldl hK [])) (λi=>c Y-i.1) (0,.nil an) a C a ?_ a u ?_)
 .simp[gA]
 rintro⟨e,bO⟩ J;simp only at J;by_cases o:e<c Y
 .have G:Y.getD (e:Int).toNat bS.D=Y.getD e []:=M;have ab:cC (Y.getD e [])=l:=N _ M;have L:((Y.take (e+1)).map (gD h)).foldl hK []=hK (((Y.take e).map (gD h)).foldl hK []) (gD h (Y.getD e [])):=ij;have ao:c (((Y.take e).map (gD h)).foldl hK [])=e:=by grind[yY]
  have I:=J3 h (Y.take e) λt S=>N t (gY S);generalize Y.getD e []=t at *;generalize((Y.take e).map (gD h)).foldl hK []=d at *;refine be (.cons zp .nil:ba p [(205,lG)]) [17] a bu ?_;rw[G];refine g.aA (Cf s r h t b2 ab) [0,1] a (cU (.cons zp .nil:ba p [(205,lG)]) a A (g.aX (U5 q bO I u (D:=gD h t) (Kq ab)) [3,4] a bk λO=>?_));have aa:=Lt d (gD h t);refine cy a bG (g.aw (e+1,O) a C dB M ?_);grind
 obtain rfl:e=c Y:=u;rw[cY];refine bR [-17] a C (g.az ?_);have au:c ((Y.map (gD h)).foldl hK [])<=4:=by grind[yY]
 have I:=J3 h Y N;have af:l4 (Y.map (gD h))=[]++kR (c ((Y.map (gD h)).foldl hK [])) ((Y.map (gD h)).foldl hK []):=by rw[l4,yY,pW,gK,cW]
 refine cy a A (g.ck 5 1 138 2 (bH.fn []) a a ?_);refine g.dC 7 [1,6,8,11] (λi:m cX×fo×m cX=>gr i.1/\c i.1+c i.2.2<=4/\l4 (Y.map (gD h))=i.2.2++kR (c i.1) i.1) (λi=>[]) (λi=>Lk s r q i.2.1 i.1++DD bN i.2.2) (λi=>c i.1) ((Y.map (gD h)).foldl hK [],bO,[]) a C a C a ⟨I,by grind,af⟩ ?_;rintro⟨o,bO,b⟩ ⟨Q,ah,B⟩;simp only at Q ah B;refine cy a A (g.aK (a0.dO a a) a a ?_);refine g.R (aZ.eD bc 3 a a a a a (tE bO _) a) a ?_;refine g.aA (B_ bO (c o) o) [4] a ?_;by_cases ak:c o=0
 .rw[ak,kR,hp]at B;subst B;refine bR [-37] a dB (g.az ?_);have U:ba p [(139,Bt)]:=.cons ML .nil;have ar:c (l4 (Y.map (gD h)))<=4:=u;cases ae:ia h (tk bN h Y)with
  |false=>
   have w:ia h (bN,l4 (Y.map (gD h)))=v:=ae;have F:l0 bN h Y=((0,[]),v):=by unfold l0;grind
   rw[F];refine be U [50] a Q2 (g.b9 () [0,1] ?_ qj);simp
  |true=>
   have w:ia h (bN,l4 (Y.map (gD h)))=l:=ae;have F:l0 bN h Y=(tk bN h Y,l):=by unfold l0;grind
   rw[F];refine be U [-50] a Q2 (g.b9 () [0,1] ?_ qj);simp[tk]
 obtain⟨j,z⟩:∃j,c o=j+1:=⟨c o-1,by omega⟩
 refine bR [37,909] a bu (g.iR (JK (e:=4) (j:=c o) (bO:=bO) (d:=o) a u) λP=>?_);obtain⟨y,k,rfl,V⟩:=P;rw[z]at V;have S:=U4 (p:=p) q y k Q z u V;have ai:=aam Q u;have aa:c ((hf o).take j)=j:=by grind[Ll]
 have aL:l4 (Y.map (gD h))=(b++[(hf o).getD j (0,[])])++kR j ((hf o).take j):=by rw[B,z,kR,bm u,z];simp
 have aq:gr ((hf o).take j):=λD E=>ai D (gY E);show g p _ _ _ _ _ (il s r++[.cells 107 [.c (.int .i64 0),.c (.A l 0 0 λ_=>[])],iu q (.row y k) (c o),aH (.row y k) (c o) o]++DD bN b);rw[z];generalize(hf o).getD j (0,[])=D at *;generalize(hf o).take j=W at *;refine g.eJ (ι:=Unit) b5 4 7 10 (λh=>ay h 3) (λh=>([aI 5 1,.n (.R (.w 6 2 (c b) (bH.fn b))),g_ (.pointer (f ⟨q,0,n⟩)),sM q]:m x).getD h .any) (λ_ h=>([.any,.any,.any,.any,sL D,xL D,ax (.A l 2 1 λe=>([[.int .i64 D.1,.V D.2]]:m (m K)).getD e [])]:m x).getD h .any)
  (λ_=>il s r++[.cells 107 [.c (.int .i64 0),.c (.A l 0 0 λ_=>[])],iu q (.row y k) j,aH (.row y k) j W]++DD bN b)
  rfl rfl rfl rfl rfl rfl rfl (λh o=>by have:=fq o;omega) rfl
  ⟨aZ.u,aZ.u,aZ.u,aZ.u,A,A,A,A,A,A,A⟩
  (λ_=>⟨aZ.u,aZ.u,aZ.u,aZ.u,A,aZ.a1 (jW a) (a0.gd (ag:=[.int .i64 D.1,.V D.2]) bc a a a a),aZ.u,A⟩)
  (dV.dX S.tocH [3,4] a a a a a a a bk a bk) λ_=>?_
 have E:=bH.aW b D;refine cy a ?_ (g.aw (W,.row y k,b++[D]) a ?_ ?_ ?_ ?_)
 .simp only[T,show mz.bytes=24 from a,a'];omega
 .simp
 .simp only[aa,T.Z,T,df,fh,gK,a',a7];and_intros<;>first|exact bs.same|exact E|rfl
 .grind
 grind
abbrev adc(a:eK):x:=.Q [.agg [.c (.int .i64 a.1),.c (.A v 2 (c a.2) (cA.fn a.2))],.R (.c (.bool l))]
abbrev Mh(e d:al×X)(b:Int)(a:m mY):m ap:=il e d++[.cells 104 [.c (.int .i64 0),.c (.A l 0 0 λ_=>[])],.cells 104 [.c (.int .i64 b),.w 4 2 (c a) (cA.fn a)],.w 144 2 (c a) (cA.fn a)]
abbrev abI(b:c7)(a:m Int):m ap:=[.cells 91 [.c (.V b.1),.c (.V b.2)],.cells 144 [.c (.V b.1),.w 7 1 (c a) (aA.fn a)],.w 3 1 (c a) (aA.fn a)]
def Xp(B q)(bN h)(o)(ah:1<=bN/\bN<=99)(r:cj h=l)(y:dN o=l):
  Z p 165 [R bN,R h,bB.A o] (il B q) (adc (fW bN h o)) (il B q):=by
 refine Z.bb bc func165 rfl rfl rfl λae=>?_;have G:ba p [(38,dk c8 (λh=>bh (cj h)) λ_=>[]),(42,ro)]:=.cons t38 (.cons v3 .nil);refine be G [-15,-19,-24,-29] a ?_ ?_
 .simp only[T,r,bB.l,r5,y,dp];and_intros<;>first|exact bB.T _|rfl|omega
 refine g.ck 3 1 144 2 (cA.fn []) a a ?_;refine g.dC 5 [1,6,8,33,34] (λb=>b<=c o) (λb:Nat=>[(35,R b)]) (λb=>Mh B q bN (oi h (o.take b))) (λb=>c o-b) 0 a C a C a u ?_;intro b N;by_cases ag:b<c o
 .have Y:o.getD (b:Int).toNat bB.D=o.getD b ([],[]):=M;have z:o.getD b ([],[])∈o:=M;have E:=oE y;have I:=E.fl _ z;have ab:=M5 y _ z;have x:=E.len;have U:=vH I.1;have aa:=vG (o.getD b ([],[])).2;have D:oi h (o.take (b+1))=oi h (o.take b)++[kN h (o.getD b ([],[]))]:=ij;have O:c (oi h (o.take b))=b:=M;generalize o.getD b ([],[])=d at *;generalize oi h (o.take b)=i at *;have X:k7 d.2=ck d.2:=by unfold k7;grind
  have w:ba p [(198,dk eE (λV=>bS.A (k7 V)) λ_=>[])]:=.cons Eo .nil;refine be w [36] a bu ?_;rw[Y,X];refine g.ck 6 1 3 1 (aA.fn []) a a ?_;refine g.dC 8 [1,6,8,10,11,33,34,35,44,45] (λe=>e<=c (ck d.2)) (λe:Nat=>[(46,R e)]) (λe=>Mh B q bN i++abI d (kq h ((ck d.2).take e))) (λe=>c (ck d.2)-e) 0 a C a C a u ?_;intro e L;by_cases af:e<c (ck d.2)
  .have j:(ck d.2).getD (e:Int).toNat bS.D=(ck d.2).getD e []:=M;have S:cC ((ck d.2).getD e [])=l:=U _ M;have Q:kq h ((ck d.2).take (e+1))=kq h ((ck d.2).take e)++[dY h ((ck d.2).getD e [])]:=ij;have H:c (kq h ((ck d.2).take e))=e:=M;generalize(ck d.2).getD e []=s at *;generalize kq h ((ck d.2).take e)=k at *;have t:=aA.aW k (dY h s);refine bR [47,911] a bu ?_
   rw[j];refine g.gm b5 [aI 6 1,.n (.R (.w 7 1 (c k) (aA.fn k))),R h,b1 s,R (dY h s),ax (.A l 1 1 λb=>([[.int .i64 (dY h s)]]:m (m K)).getD b [])] 6 a a a a a ⟨aZ.u,aZ.u,aZ.u,aZ.u,
    aZ.dQ (dV.dX (Cf B q h s r S).tocH [0,1] a a a a a a a bk a bk),aZ.u,A⟩ ?_
   refine cy a ?_ (g.aw (e+1) a ?_ ?_ ?_ ?_)
   .simp only[T,a8,show d9.bytes=8 from a,a',a7];exact fv
   .simp
   .simp only[Q,T.Z,T,df,fh,gK,a',a7];and_intros<;>first|exact bs.same|exactλ_ _=>rfl|exact t|rfl|omega
   .grind
   omega
  have W:e=c (ck d.2):=u;rw[W,cY];have t:=cA.aW i (kN h d);have F:c i+1=c (i++[kN h d]):=C;have J:cA.a2 (kN h d)=[K.V d.1,K.A v 1 (c (kq h (ck d.2))) (aA.fn (kq h (ck d.2)))]:=rfl;rw[J,<-D]at t;rw[<-D]at F;refine bR [-47] a C (g.az ?_);refine cy a OW (g.aw (b+1) a C ?_ ?_ ?_)
  .simp only[T.Z,T,a',a7];and_intros<;>first|exact bs.same|exact t|exact F|rfl
  .grind
  omega
 obtain rfl:b=c o:=u;rw[cY];refine bR [-36] a C (g.az ?_);refine cy a A (g.b9 () [0,1] ?_ qj);simp[fW]
end
section
variable {p:ah V}[p.bZ]
abbrev FN(b:Nat):={a:m c7×Nat // dN a.1=l/\b<=a.2/\a.2<=b+400}
end
section
variable {p:ah V}
set_option maxRecDepth 20000 in
def WA(z)(b:Nat->Int)(j:Bytes b)(e:Nat)(h:e<=4000000)(i:z<=1048576)(d)(o:1<=c d/\c d<=1000):
  Z p 53 [aI 0 0,bS.A d] [eY z b e] (b1 (d.getD (qF z b e (c d)).toNat [])) [eY z b (e+1)]:=by refine Z.I func53 rfl λk=>?_;refine aO a A (g.aA (IW z b j e (c d) h i u) [0] a ?_);have m:=K' z b e (c d) u;exact aO a bQ (g.aJ [0] a oI kK)
end
end R1
def bl.die{E:ah P}{I}{args}{W h}{F:Nat->m K}{k}{q:ι->Nat->m K}{S:ι->Nat}(J:bl E I args [.p W h j F] (λ_=>cD 0 k) (λB=>[.p W h (S B) (q B)])):Z E I args [.p W h j F] (cD 0 k) [.M]:=
 ⟨J.1,λT y z w Q p u=>J.2 T y z w Q p λB r M i x d g b=>u r M i x (by
  obtain⟨D,e,_,_⟩:cB _ _ _ (.N 0 k):=d;exact(⟨D,e,by simp,λ_ _ _ _ R=>by grind⟩:cB [.M] i M (.N 0 k))) g.dU
  ⟨b.size,b.a3,b.mem,b.bC,b.bS,λC N L aH t=>by
   obtain⟨O,o,e,s,U⟩:=b.box C N L aH t;cases C with
   |zero=>simp at aH;subst aH;exact⟨.M,o,a,s,A⟩
   |succ C=>grind,b.os,b.tape,b.output,b.own⟩⟩
namespace R1
variable {p:ah V}
def ID(b):Z p 146 [BZ b] [] (bh (hx b)) []:=by
 refine Z.I func146 rfl λi=>?_;have d:ba p []:=.nil;unfold hx;by_cases e:b.1=1
 .by_cases jH:1<=b.2
  .exact a_ d [6,11,16] a bu (g.aq a dB)
  exact a_ d [6,11,-16] a bu (g.aq a t1)
 by_cases h:b.1=2
 .by_cases jH:1<=b.2
  .exact a_ d [-6,11,16] a bu (g.aq a dB)
  exact a_ d [-6,11,-16] a bu (g.aq a t1)
 exact a_ d [-6,-11,-16] a bu (g.aq a bu)
def V'(b):Z p 145 [BZ b] [] (bh (!hx b)) []:=by refine Z.I func145 rfl λe=>?_;have d:ba p [(146,dk sk (λb=>bh (hx b)) λ_=>[])]:=.cons (.a7 λb _=>ID b) .nil;exact b_ d a A (g.aq a)
def Zl(d):f' d=(decide (c d<=9)&&!d.any λa=>!hx a):=by
 have:(az (c d)).all (λb=>hx (d.getD b (0,0)))=!d.any λa=>!hx a:=by rw[oV,fZ,je,List.any_eq_false];grind[List.mem_iff_getElem]
 rw[f',this,Bool.and_comm]
def Wa(d):Z p 107 [a3.A d] [] (bh (f' d)) []:=by
 refine Z.I func107 rfl λi=>?_;have e:=UV (p:=p) d 145 (λs=>!hx s) λh _=>V' h;have b:ba p [(144,e9 [a3.A d,ax (.fn (.func 145) [] [])] (bh (d.any λs=>!hx s)))]:=.cons (fu e) .nil;rw[Zl];by_cases s:c d<=9
 .exact a_ b [6] a ⟨a,fQ u⟩ (g.aq a g6)
 exact a_ b [-6] a bQ (g.aq a bu)
def tL:bL p 107 n2:=.a7 λa _=>Wa a
def WH(d)(k:c d.2<=4000000):Z p 186 [fH d] [] (aA.A (d.2.map (·.1))) []:=by
 refine Z.I func186 rfl λm=>?_;refine a5 [902] a A (g.bB 3 3 1 a a ?_);refine aO a A (g.aC 2 (λb=>b<=c d.2) (λb:Nat=>[(1,aI 0 0),(3,.n (.R (.w 1 1 b (aA.fn ((d.2.take b).map (·.1)))))),(7,bH.A d.2),(8,R (c d.2)),(9,R b)]) (λb=>[xp d,.w 3 1 b (aA.fn ((d.2.take b).map (·.1)))]) (λb=>c d.2-b) 0 a C a C a u ?_);intro b j;by_cases h:b<c d.2
 .have i:d.2.getD (b:Int).toNat bH.D=d_ d b:=M;have w:(d.2.take (b+1)).map (·.1)=(d.2.take b).map (·.1)++[(d_ d b).1]:=ij;have e:c ((d.2.take b).map (·.1))=b:=M;have au:=aA.aW ((d.2.take b).map (·.1)) (d_ d b).1;rw[e]at au;refine a5 [10] a ?_ (g.aw (b+1) a ?_ ?_ h u)
  .simp only[T,a8,show d9.bytes=8 from a];grind
  .exact Pe
  exact Pe
 obtain rfl:b=c d.2:=u;rw[cY];refine a5 [-10] a C (g.az ?_);exact wt
abbrev Hf:bK:=dk (jA bH) (λa=>aA.A (a.2.map (·.1))) λa=>[c a.2<=4000000]
def ac7:bL p 186 Hf:=.a7 λb a=>WH b a
def ZK(Y)(e):c (cr (Y.take e))<=c (cr Y):=by have:cr Y=cr (Y.take e)++cr (Y.drop e):=RA;grind
abbrev aa1(a:m Int):x:=cD 0 (.A (c a) 1 0 (c a))
def IS(Y)(q:∀i∈Y,c i.2<=4000000)(y:c (cr Y)<=4000000):Z p 140 [a2.A Y] [] (aa1 (cr Y)) [jg (c (cr Y)) (cr Y)]:=by
 refine Z.I func140 rfl λr=>?_;have w:=r.A 0 a;have d:ba p [(186,Hf)]:=.cons ac7 .nil;refine a_ d [902] a A (g.e_ 3 3 1 (aA.fn []) a ?_);refine b_ d a A (g.aC 1 (λb=>b<=c Y) (λb:Nat=>[(3,cD 0 (.A (c (cr (Y.take b))) 1 0 (c (cr (Y.take b))))),(6,a2.A Y),(7,R (c Y)),(8,R b)]) (λb=>[jg (c (cr (Y.take b))) (cr (Y.take b))]) (λb=>c Y-b) 0 a ET a (by simp[bs,cr]) a u ?_);intro b o;by_cases h:b<c Y
 .have B:Y.getD (b:Int).toNat a2.D=Y.getD b (0,[]):=M;have e:=Kx h;have j:=ZK Y (b+1);have x:=q _ (oc (N:=(0,[])) h);generalize Y.getD b (0,[])=i at *;rw[e]at j;generalize cr (Y.take b)=k at *;have m:=aA.g9 k (i.2.map (·.1)) _ a;simp only[df,kE]at j m;refine a_ d [9] a ?_ (g.aw (b+1) a ?_ ?_ h u)
  .simp only[T,B,a8,bH.l,bH.T,kE,show d9.bytes=8 from a];grind
  .rw[e];simp only[T.Z,T,B,bH.l,df,kE,a',a7];and_intros<;>first|exact bs.same|rfl|omega
  rw[e];simp only[T.Z,T,B,bH.l,df,kE,a',a7];grind
 obtain rfl:b=c Y:=u;rw[cY];refine a_ d [-9] a C (g.az ?_);refine b_ d a A (g.aJ [0] a ?_ (λt s=>absurd s C));simp
def Wr(Y)(b:∀e∈Y,c e.2<=4000000)(d:c (cr Y)<=4000000):Z p 140 [a2.A Y] [] (aA.A (cr Y)) []:=
 Z.bL (aQ:=[]) (W:=3) (h:=1) (j:=c (cr Y)) (U:=aA.fn (cr Y)) (IS Y b d) a C a (bA _)
end R1
namespace R1
section
variable {p:ah V}
def I4(b):Z p 104 [b9 b] [] (b9 b) []:=by refine Z.bG func104 rfl rfl rfl λe=>?_;refine aO a C ?_;refine g.freeze 2 1 a a a ?_;exact g.cr bc [] a C a a a (λh d=>absurd d C)
abbrev Hl:bK:=dk oX (λa=>b9 a) λ_=>[]
def adb:bL p 104 Hl:=.a7 λa _=>I4 a
abbrev zc(a:cz):ap:=.cells 147 [.c (.A v 2 (c a.1) (a2.fn a.1)),.c (.A v 2 (c a.2.1) (bj.fn a.2.1)),.c (.A v 2 (c a.2.2) (a3.fn a.2.2))]
structure nW(b:cz):Prop extends q6 b where
 cq:∀S∈b.1,c S.2<=4000000
 e':c (cr b.1)<=4000000
def tl(b:Int)(a:cz):Bool:=(az (c a.1)).all (nG b a.1)&&decide (c a.1<=20)&&decide (cr a.1).Nodup
def WK(h)(b)(b2:cj h=l)(m:nW b):Z p 105 [b9 b,R h] [] (bh (tl h b)) []:=by
 refine Z.I func105 rfl λX=>?_;have x:=m.fQ;have S:=m.cq;have U:=Wr (p:=p) b.1 m.cq m.e';have r:ba p [(139,Bt)]:=.cons ML .nil;refine b_ r a A ?_;unfold tl;refine g.aC 1 (λe=>e<=c b.1/\∀D,D<e->nG h b.1 D=l) (λe:Nat=>[(1,R h),(2,aI 0 0),(9,a2.A b.1),(10,R (c b.1)),(11,R e)]) (λ_=>[zc b]) (λe=>c b.1-e) 0 a C a C a ⟨by omega,by omega⟩ ?_;rintro e ⟨Q,w⟩;by_cases s:e<c b.1
 .have bx:b.1.getD e a2.D=b.1.getD e (0,[]):=rfl;have o:b.1.getD (e-1) a2.D=b.1.getD (e-1) (0,[]):=rfl;have y:nG h b.1 e=(ia h (b.1.getD e (0,[]))&&kb (·.1) (0,[]) b.1 e):=rfl;have I:=p4 (ak:=λt:b'=>t.1) (N:=(0,[])) (d:=b.1) (e:=e);have i:=S _ (oc (N:=(0,[])) s);generalize b.1.getD e (0,[])=t at *;generalize b.1.getD (e-1) (0,[])=z at *;cases q:ia h t with
  |false=>
   rw[q,sv]at y;refine a_ r [12,20,35] a ?_ (g.aT (bY.zero a ?_))
   .simp[-aj,bx,b2,i,q,bH.l,bH.T];omega
   rw[lF s y];simp
  |true=>
   rw[q,fR]at y;by_cases J:e=0
   .subst J;refine a_ r [12,-20,-23,-35] a ?_ (g.aw 1 a C C ⟨s,jf w bG⟩ u);simp[-aj,bx,b2,i,q,bH.l,bH.T,a8];omega
   have I:=I J;by_cases K:z.1<t.1
   .refine a_ r [12,-20,23,-33,-35] a ?_ (g.aw (e+1) a C C ⟨s,jf w M⟩ u);exact Qe
   refine a_ r [12,-20,23,33,35] a Qe (g.aT (bY.zero a ?_));exact jZ
 obtain rfl:e=c b.1:=u;rw[fZ.2 w,fR];refine a_ r [-12] a C (g.az ?_);refine b_ r a A (g.aA (IS b.1 m.cq m.e') [] a (b_ r a A (g.aA (Ck (cr b.1) m.e') [1] a ?_)));have W:=SY (cr b.1);have F:=(Iu (p:=p) (jU (cr b.1)) (by rw[qK];exact m.e')).die;rw[qK]at F;have V:=HK (jU (cr b.1));rw[qK]at V;have O:=m.e';generalize hP (jU (cr b.1))=j at *;generalize jU (cr b.1)=B at *;have iw:ba p [(142,k3 [dI (c (cr b.1))] [jg (c (cr b.1)) B] (cD 0 (.A (c (cr b.1)) 1 0 (c j))) [.M]),(140,e9 [a2.A b.1] (aA.A (cr b.1)))]:=.cons (l5 F) (.cons (fu U) .nil);refine a_ iw [909] a A ?_;by_cases aa:c b.1<=20
 rotate_left
 .refine a_ iw [-46] a bQ (g.aq a ?_);exact bu
 have E:(c b.1:Int)<=20:=u;generalize Y:cr b.1=k at *;refine g.dc (ι:=Unit) b5 6 (λe=>match ay e 5 with|true=>l|false=>match ad e 8 with|true=>l|false=>ad e 9) (λe=>[aI 0 0,a2.A b.1,R (c b.1),bh (decide ((c b.1:Int)<=20)),bh l,cD 1 (.A (c k) 1 0 (c k)),.any,.any,aI 0 0,a2.A b.1].getD e .any)
  (λ_ e=>[.any,.any,.any,.any,.any,.any,cD 1 (.A (c k) 1 0 (c j)),R (c j),.any,.any,aA.A k,R (c k),bh ((c j:Int)==c k),bh ((c j:Int)==c k),bh ((c j:Int)==c k)].getD e .any) (λ_=>[zc b,.M]) a a a a a a ?_ ?_ ?_ ?_
 .exact⟨.u,.u,.u,.u,.eval bc iw (bf:=[46]) a (fQ E),.u,A,A,.u,.u,A,A,A,A,A,A⟩
 .intro _;exact⟨.u,.u,.u,.u,.eval bc iw (bf:=[46]) a (fQ E),.u,A,.u,.u,.u,.eval bc iw (bf:=[]) a a,.u,.u,.u,.u,A⟩
 .exact .dd (ef bc iw (bf:=[]) (an:=f [zc b,.M]) a ⟨a,a⟩)
 intro _;refine b_ iw a A (g.aq a ?_);have:((c j:Int)==c k)=decide k.Nodup:=M;exact bG
def iz:m (Int×Int)->K
 |[]=>.bp
 |a::b=>.O [.int .i64 a.1,.int .i64 a.2,iz b]
abbrev vU(a:m (Int×Int)):K:=.A v 2 (c a) (a3.fn a)
def TO(b:m (Int×Int)):Z p 193 [a3.A b] [] (ax (.fn (.func 242) [] [.O [vU b]])) []:=by refine Z.I func193 rfl λd=>?_;refine gF [] 5 a A ?_;refine g.freeze 1 0 a a a ?_;refine aO a A (g.aq a ?_);rfl
def TT(j:m (Int×Int))(x:c j<=4000000){d:Nat}{b:bJ}{o:Loop}{r:ap}(k:Nat->ap)(s:r=k (c j))(aH:∀w,k w≠.bl)(e:∀h,h<c j->iF (ι:=Unit) p 1 [R h,.n (.agg [.c (.int .i64 (j.getD h (0,0)).1),.c (.int .i64 (j.getD h (0,0)).2)])] [k (h+1),.loop d b o] l (λ_=>[k h,.loop d b o])):
  bl (ι:=Unit) p 242 [.n (.R (.aV 1)),ax (.O [vU j])] [r,.loop d b o] (λ_=>.Q []) (λ_=>[k 0,.loop d b o]):=by
 subst s;refine bl.bP func242 rfl rfl rfl (g.aR ?_);refine aO a tT ?_;show b0 p _ (.loop _) _ _ _;refine b0.loop (br:=Nat) (λi=>i<=c j) (λi=>[(0,.n (.R (.aV 1))),(1,ax (.O [vU j])),(3,R ((i:Int)-1))]) (λi=>[k i,.loop d b o]) (λi=>i) (c j) (bA _) (eH a C) a ?_;intro i q;rcases i with _|h
 .refine g.aR ?_;refine a5 [-8] a C (g.fI a a ?_);exact⟨(),.inr a,a,qC (aH 0) (qC C a),[],.Q [],[],a,a,a,A⟩
 have t:(((h+1:Nat):Int)-1)=(h:Int):=u;rw[t];refine g.aR ?_;refine a5 [8] a ?_ ?_
 .simp only[T,bw,a',a7];omega
 refine g.yield (e h q) a a a a a a λ_=>?_;exact a5 [-18] a Rv ⟨h,by omega,by omega,eH a C,a⟩
def If{a:m (Int×Int)}(b:e<c a):a.drop e=a.getD e (0,0)::a.drop (e+1):=Fz
def IL(b:m (Int×Int))(i:c b<=4000000):Z p 148 [a3.A b] [] (ax (iz b)) []:=by
 refine(bl.e5 (ι:=Unit) (an:=λ_=>[]) (res:=λ_=>ax (iz b)) func148 rfl rfl rfl λo=>?_).toZ;have e:ba p [(193,e9 [a3.A b] (ax (.fn (.func 242) [] [.O [vU b]])))]:=.cons (fu (TO b)) .nil;refine dd.seq (b0.bw (g.aR ?_));refine b_ e a A (dd.seq (b0.bw (g.aR ?_)));refine b_ e a A (dd.seq (dd.seq (b0.bw (g.aR ?_))));refine b_ e a a (dd.block ?_);have h:iz (b.drop (c b))=.bp:=by rw[uv];rfl
 refine dd.rangeFunc (o0:=e' [.O [vU b]]) (bX.callee a) (TT b i (λd=>.cells 187 [.c (iz (b.drop d))]) (by rw[h];rfl) C ?_) (λd=>⟨a,by simp⟩) λd=>⟨.normal,a,?_⟩
 .intro d bp;refine iF.cF (bq:=λ_=>[.cells 140 [.c (.int .i64 (b.getD d (0,0)).1),.c (.int .i64 (b.getD d (0,0)).2)],.M]) ?_ bk (λ_ t k aH=>?_)
  .rw[If bp];generalize b.drop (d+1)=j;cases j<;>(
    refine iF.intro (t:=n) a a a a (g.aR ?_);refine aO a A ?_;refine⟨a,a,g.aR ?_⟩;refine gF [] 1 a A ?_;refine g.region ?_;refine gF [] 4 a A ?_;refine g.e1 13 3 a a a ?_;refine aO a A ?_;refine⟨a,a,(),jM a ?_⟩;simp[iz])
  .match t,aH with
   |0,aH=>cases aH;exact .inl ⟨_,_,a,a⟩
   |1,aH=>exact .inr (.inl aH)
   |t+2,aH=>simp at aH
 .show dd p _ _ _ _ _;refine b0.bw (g.aR ?_);rw[List.drop_zero];cases b<;>(
   refine aO a A ?_;refine g.ret ⟨(),bY.zero a ?_⟩;simp[iz])
abbrev acG(a:m (Int×Int))(b:Bool):x:=.Q [.R (.c (.A v 2 (c a) (a3.fn a))),.R (.c (.bool b))]
def V_(d)(b)(i:f' d=l)(j:hx b=l)(o:c d<=9):Z p 166 [a3.A d,o3 b.1 b.2] [] (acG (if c d=9 then d else d++[b]) (decide (c d≠9))) []:=by
 refine Z.I func166 rfl λm=>?_;have e:ba p [(107,n2),(146,dk sk (λh=>bh (hx h)) λ_=>[])]:=.cons tL (.cons (.a7 λh _=>ID h) .nil);refine a_ e [-9,-14] a ?_ ?_
 .simp only[T,a3.l,i,j,gw,a',a7];first|exact a3.T _|(and_intros<;>first|rfl|exact a3.T _)
 refine g.aA (Ir d u) [] a ?_;by_cases w:c d=9
 .exact a_ e [19] a oJ OK
 refine a_ e [-19] a ?_ ?_
 .simp only[T,show vf.bytes=16 from a,e0,a',a7];exact qS
 have k:=a3.aW d b;refine g.fZ (dF:=[(4,cD 1 (.A (c d+1) 2 0 (c d+1))),(5,bh l)]) (an:=[.cells 140 [.c (.int .i64 b.1),.c (.int .i64 b.2)],.p 140 2 (c d+1) (a3.fn (d++[b]))]) ?_ a nN a bG;exact OK
def VG(d)(e:c d<=4000000):Z p 194 [a2.A d] [] (R (if c d=0 then 0 else(d.getD (c d-1) (0,[])).1)) []:=by
 refine Z.I func194 rfl λh=>?_;by_cases s:c d=0
 .rw[bo s];exact a5 [5] a g6 (g.aq a)
 have b:d.getD ((c d:Int)-1).toNat a2.D=d.getD (c d-1) (0,[]):=by rw[show((c d:Int)-1).toNat=c d-1 by omega];rfl
 rw[bm s];refine a5 [-5] a ?_ (g.aq a dB);simp only[T,b,a8,e0,a',a7];exact fv
def kL(a:Int)(d:m (Int×Int)):Int:=d.foldl (λa b=>max a (b.2+1)) a
def JM(d):∀a b:Int,kL (max a b) d=max a (kL b d):=by
 induction d with
 |nil=>intro a b;rfl
 |cons g e h=>
  intro a b;show kL (max (max a b) (g.2+1)) e=max a (kL (max b (g.2+1)) e);grind
def YG{z}{d}(a:e<c d):kL z (d.take (e+1))=max (kL z (d.take e)) ((d.getD e (0,0)).2+1):=by unfold kL;grind[ih]
def kw(a:cz):Int:=if c a.2.1=0 then 1 else max 1 ((a.2.1.getD (c a.2.1-1) (0,[])).1+1)
def abT(b):kL (kw b) b.2.2=dr b:=by
 unfold kw dr;have a:kL 1 b.2.2=lR b.2.2:=rfl;split
 .exact a
 rw[show max 1 ((b.2.1.getD (c b.2.1-1) (0,[])).1+1)=max ((b.2.1.getD (c b.2.1-1) (0,[])).1+1) 1 by omega,JM,a];omega
def Wv(b)(h:dO b)(N:mb b):Z p 160 [b9 b] [] (.Q [.R (.c (.int .i64 (di b))),.R (.c (.int .i64 (dr b)))]) []:=by
 refine Z.I func160 rfl λF=>?_;have s:=h.aY;have I:=h.aZ;have O:=h.aL;have J:1<=kw b/\kw b<=4000001:=by
  unfold kw;split
  .omega
  exact OG
 apply g.cf [(1,aI 0 0),(4,R (kw b))] [jS b]
 .intro dw;by_cases e:c b.2.1=0
  .exact bR [-12,905] a dB (dw _ _ a (by simp[kw,e]))
  have E:=N.bn _ (mw (show c b.2.1-1<c b.2.1 by omega) (0,[]));have w:b.2.1.getD ((c b.2.1:Int)-1).toNat bj.D=b.2.1.getD (c b.2.1-1) (0,[]):=Ro;refine bR [12] a wi ?_;rw[w];refine g.aK (yy (kw b) a a a (by unfold kw;grind) bG) a a ?_;exact bR [905] a A ky
 refine cy a A (g.aC 1 (λd=>d<=c b.2.2) (λd:Nat=>[(1,aI 0 0),(4,R (kL (kw b) (b.2.2.take d))),(24,a3.A b.2.2),(25,R (c b.2.2)),(26,R d)]) (λd=>[jS b]) (λd=>c b.2.2-d) 0 a ?_ a ?_ a u ?_)
 .simp[kL]
 .simp
 intro d o;have j:∀d,1<=kL (kw b) (b.2.2.take d)/\kL (kw b) (b.2.2.take d)<=4000001:=λd=>by have k:=s0 (b.2.2.take d) λB D=>N.aL B (gY D);have x:kL 1 (b.2.2.take d)=lR (b.2.2.take d):=rfl;rw[show kw b=max (kw b) 1 by omega,JM,x];omega
 have k:=j d;have K:=j (d+1);by_cases e:d<c b.2.2
 .have E:=N.aL _ (mw e (0,0));have w:b.2.2.getD (d:Int).toNat a3.D=b.2.2.getD d (0,0):=M;have t:=YG (z:=kw b) e;refine bR [27] a wi ?_;rw[w];refine g.aK (yy (kL (kw b) (b.2.2.take (d+1))) a a a t.symm nM) a a ?_;refine cy a bG (g.aw (d+1) a C ?_ e u);simp
 obtain rfl:d=c b.2.2:=u;rw[cY,abT]at k⊢;have i:di b=(if c b.1=0 then 0 else(b.1.getD (c b.1-1) (0,[])).1)+1:=by unfold di;split<;>rfl
 have m:-4000000<=di b-1/\di b-1<=4000000:=by
  rw[i];split
  .omega
  exact Q1
 have q:=VG (p:=p) b.1 s;have r:=I4 (p:=p) b;rw[i]at m⊢;generalize(if c b.1=0 then 0 else(b.1.getD (c b.1-1) (0,[])).1)=S at *;have y:ba p [(104,e9 [b9 b] (b9 b)),(194,e9 [a2.A b.1] (R S))]:=.cons (fu r) (.cons (fu q) .nil);refine bR [-27] a C (g.az ?_);refine cU y a ?_ (g.aq a);exact bG
abbrev qI(a:m bC):K:=.A v 1 (c a) (bS.fn a)
def T4(d):Z p 161 [bS.A d,R 4] [] (ax (.fn (.func 195) [] [.O [qI d],.O [.int .i64 4]])) []:=by refine Z.I func161 rfl λb=>?_;refine gF [] 6 a A ?_;refine g.freeze 2 0 a a a ?_;refine g.freeze 3 1 a a a ?_;exact a5 [-6] a C (g.aq a nN)
def gO(b:m bC)(a:Nat):m bC:=(b.drop (4*a)).take 4
def T3(d)(W:c d<=4000000){i}{N0}{io}{w yw}(z)(V:z<=(c d+3) / 4)(e:Nat->m ap)(t)(Y:∀b,c (e b)=i)(Q:∀b,jN (e b++[.loop N0 io w])=l)(K:jN (t++[.loop N0 io yw])=l)(h:∀b,b<z->4*b<c d->iF (ι:=Unit) p i [bS.A (gO d b)] (e b++[.loop N0 io w]) l (λ_=>e (b+1)++[.loop N0 io w]))(k:4*z<c d->iF (ι:=Unit) p i [bS.A (gO d z)] (e z++[.loop N0 io w]) v (λ_=>t++[.loop N0 io yw])):
  bl (ι:=Unit) p 195 [.n (.R (.aV i)),ax (.O [qI d]),ax (.O [.int .i64 4])] (e 0++[.loop N0 io w]) (λ_=>.Q []) (λ_=>if 4*z<c d then t++[.loop N0 io yw]else e z++[.loop N0 io w]):=by
 refine bl.bP func195 rfl rfl rfl (g.aR ?_);refine aO a A ?_;show b0 p _ (.loop _) _ _ _;refine b0.loop (br:=Nat) (λb=>b<=z) (λb=>[(0,.n (.R (.aV i))),(1,ax (.O [qI d])),(2,ax (.O [.int .i64 4])),(4,R (4*b:Nat))]) (λb=>e b++[.loop N0 io w]) (λb=>z-b) 0 (gZ _) ?_ a ?_
 .exact .cons a (eH a C)
 intro b F;refine g.aR ?_;by_cases o:4*b<c d
 .have B:T (ji (c d) (f ((4*b:Nat):Int)) n):=by simp only[ji,T];omega
  have J:bU (c d) n-bU 0 (f ((4*b:Nat):Int))=c d-4*b:=bG;refine a5 [9,903] a bu ?_;let y:Nat->x:=λq=>([R 4,bS.A d,R (4*b:Nat),ax (.A v 1 (bU (c d) n-bU 0 (f ((4*b:Nat):Int))) (fs (bU 0 (f ((4*b:Nat):Int))) (bS.fn d))),R (bU (c d) n-bU 0 (f ((4*b:Nat):Int)):Nat),R (min 4 (c d-4*b):Nat),R (min 4 (c d-4*b):Nat)]:m x).getD q .any;refine g.b_ b5 y (lc (λ_ _ _=>e b++[.loop N0 io w]) 100 101 102) oI oI oI oI ?_ ?_
  .exact⟨.ay,
   .ay,
   .ay,
   cd.eL a a a (λ_ _ _=>aZ.eval (bf:=[]) bc ba.nil a B),
   .ay,
   cd.eL a a a (λ_ _ _=>aZ.a1 (λ_ _ _ _=>i_ a) (yB _ a a a M nM)),
   .ay,A⟩
  intro x X;show g p _ _ _ _ _ (e b++[.loop N0 io w]);have S:(((4*b:Nat):Int)+((min 4 (c d-4*b):Nat):Int))=((4*b+min 4 (c d-4*b):Nat):Int):=u;refine aO a tT (g.aK (a0.jT bc a a a a (j:=c d) (U:=bS.fn d) (eN:=v) (λ_ _ a9=>b6 a9) a a a u u u u) a a ?_);have O:c (gO d b)=min 4 (c d-4*b):=by simp[gO]
  refine ff.le (dF:=[(0,.n (.R (.aV i))),(19,.n (.R (.aV i))),(1,ax (.O [qI d])),(2,ax (.O [.int .i64 4])),(4,R (4*b:Nat)),(28,bS.A (gO d b))]) ?_ (.cons a (.cons a (eH a ?_)))
  .have N:(e b++[ap.loop N0 io w])[i]?=f (.loop N0 io w):=M;rcases dW b z with D|D
   .refine g.yield (h b D o) a a a (N0:=N0) (io:=io) (a9:=w) N a a λ_=>?_;exact a5 [-30] a Rv ⟨b+1,by omega,by omega,.cons a (eH a bu),a⟩
   obtain rfl:b=z:=u;refine g.yield (k o) a a a (N0:=N0) (io:=io) (a9:=w) N a a λ_=>?_;exact a5 [30] a C (g.ret ⟨(),.inl a,(bo o).symm,by grind,[],.Q [],[],a,a,a,A⟩)
  simp only[T.Z,T,a',a7];have I:((4*b:Nat):Int).toNat=4*b:=u;have E:(((4*b:Nat):Int)+((min 4 (c d-4*b):Nat):Int)).toNat-((4*b:Nat):Int).toNat=c (gO d b):=M;refine⟨E,λq s=>?_⟩;rw[E]at s;rw[I];show bS.a2 (d.getD (4*b+q) bS.D)=bS.a2 ((gO d b).getD q bS.D);congr 1;simp only[gO,aj];grind
 obtain rfl:b=z:=u;refine a5 [-9] a bu (g.fI a a ?_);exact⟨(),.inr a,(bm o).symm,by grind,[],.Q [],[],a,a,a,A⟩
def nl(d:Int)(b:cz)(e:m bC)(a:Nat):Bool:=(l0 (di b+a) d (gO e a)).2&&!(c b.1+a==20)
def mQ(b:Nat->Bool):Nat->Nat->Nat
 |0,a=>a
 |d+1,a=>if b a=l then mQ b d (a+1)else a
def Ef(d:Nat->Bool):∀b a,a<=mQ d b a/\mQ d b a<=a+b/\(∀e,a<=e->e<mQ d b a->d e=l)/\(mQ d b a<a+b->d (mQ d b a)=v)
 |0,a=>⟨bA _,bA _,λe g h=>absurd g (by simp[mQ]at h;omega),λi=>absurd i (by simp[mQ])⟩
 |b+1,a=>by obtain⟨g,h,k,j⟩:=Ef d b (a+1);rw[mQ];grind
def jr(b:Int)(g:cz)(d:m bC)(e:Nat):m b':=(az e).map λa:Nat=>(l0 (di g+a) b (gO d a)).1
theorem Db(h)(b)(d)(j):c (jr h b d j)=j:=by simp[jr]
def Zt(h)(b)(d)(j):jr h b d (j+1)=jr h b d j++[(l0 (di b+(j:Nat)) h (gO d j)).1]:=by simp[jr,List.range_succ]
def KY{b}(a:mb b):-4000000<=di b/\di b<=4000001:=by
 unfold di;split
 .omega
 rename_i d;have:=a.aY _ (CJ d (0,[]));omega
def ps(d:Int)(a:cz)(b:Int)(h:m c7):cz×Option bC:=
 let e:=fV d h (eB a.1);let g:=mQ (nl d a e) ((c e+3) / 4) 0
 if g<(c e+3) / 4 then(([],[],[]),f [112,97,99,107,115])
 else if 20<dr a then(([],[],[]),f [115,110,97,112,115,104,111,116,115])
 else if c a.2.2=9 then(([],[],[]),f [104,101,97,100,115])
 else((a.1++jr d a e g,a.2.1++[fW (dr a) d h],a.2.2++[(b,dr a)]),n)
def Tz:Option bC->E1
 |none=>.R (.c .bE)
 |some a=>.R (.c (.cd 161 (.O [.V a])))
def MS(a:cz×Option bC):x:=.Q [.agg [.c (tz a.1.1),.c (tA a.1.2.1),.c (hX a.1.2.2)],Tz a.2]
abbrev ab8(d:cz)(a:Int)(e:m c7)(b:m bC):bJ:=[(2,R a),(3,bB.A e),(4,aI 2 0),(5,aI 3 0),(8,aI 4 0),(9,aI 5 0),(10,aI 9 0),(11,aI 10 0),(12,R (dr d)),(33,ax (.fn (.func 195) [] [.O [qI b],.O [.int .i64 4]]))]
abbrev vX(g e:al×X)(i:Int)(b:cz)(h:K)(a:m b')(d:Int):m ap:=il g e++[.cells 30 [.c (tz b.1),.c (tA b.2.1),.c (hX b.2.2)],.cells 3 [.c (.int .i64 i)],.cells 30 [cF,cF,cF],.cells 158 [.c h],
 .p 107 2 (c a) (a2.fn a),.p 104 2 (c b.2.1) (bj.fn b.2.1),.M,.cells 30 [.N 6 (.A (c a) 2 0 (c a)),.N 7 (.A (c b.2.1) 2 0 (c b.2.1)),.c (hX b.2.2)],.cells 3 [.c (.int .i64 d)]]
def Mz{r i}{b}{m k}{Y d}{bN a}{o g}(e)(j)(aH:(vX r i h b m Y bN++[.loop E F o])[e]?=f j):Aa 12 (vX r i h b k d a++[.loop E F g]) e j:=by
 rcases e with _|_|_|_|_|_|_|_|_|_|_|_|e<;>first
  |(cases aH;exact .inl ⟨_,_,rfl,rfl⟩)
  |(cases aH;exact .inr (.inr (.inl ⟨_,_,_,_,rfl,rfl⟩)))
  |(cases aH;exact .inr (.inr (.inr ⟨by grind,by grind⟩)))
  |simp_all
def W_(s i)(h)(b)(e)(o)(b2:cj h=l)(y:dO b)(ed:mb b)(D:dN o=l)(P:c (dE b.1)<=100000)(G:kP (eB b.1) (c (eB b.1))=l)(Y:f' b.2.2=l)(aK:e=1∨e=2)(ah:1<=dr b):
  Z p 118 [b9 b,R h,R e,bB.A o] (il s i) (MS (ps h b e o)) (il s i):=by
 obtain⟨Q,q⟩:∃Q,Q=ps h b e o:=⟨_,rfl⟩;rw[<-q];unfold ps at q;simp only at q;refine(bl.ji (ι:=Unit) (an:=λ_=>il s i) (res:=λ_=>MS Q) func118 rfl rfl rfl ?_).toZ
 refine dd.seq (b0.bw (g.aR ?_));refine aO a A (dd.seq (b0.bw (g.aR ?_)));refine aO a A (g.aA (I8 b y.aY y.bm y.aZ y.bx y.aL) [] a (aO a A (dd.seq (b0.bw (g.aR ?_)))));refine g.bN 8 a a a C (by simp;exact⟨A,A⟩) (aO a A (g.aA (Wv b y ed) [] a (aO a A (dd.seq (dd.seq (b0.bw (g.aR ?_)))))));generalize al:eB b.1=d at *;have ab:ba p [(163,e9 [a2.A b.1] (a3.A d)),(161,e9 [bS.A (fV h o d),R 4] (ax (.fn (.func 195) [] [.O [qI (fV h o d)],.O [.int .i64 4]])))]:=.cons (fu (al▸Vo b.1 y.aY P)) (.cons (fu (T4 _)) .nil);have aF:c d<=4000000:=by grind[JZ]
 refine g.gm b5 [R h,bB.A o,aI 2 0,a2.A b.1,a3.A d,bS.A (fV h o d),ax (.fn (.func 195) [] [.O [qI (fV h o d)],.O [.int .i64 4]])] 12 rfl rfl rfl rfl rfl ⟨aZ.u,aZ.u,aZ.u,aZ.u,
  aZ.eval (bf:=[]) bc ab a a,aZ.dQ (dV.dX (Xo s i h o d b2 D G aF).tocH [0,1] a a a a a a a bk a bk),aZ.eval (bf:=[]) bc ab a a,A⟩ ?_
 refine aO a A (dd.block ?_);refine dd.a_ (ab8 b e o (fV h o d)) (vX s i h b .bE (b.1++jr h b (fV h o d) 0) (di b+(0:Nat))) a C a ?_ ?_
 .simp[jr];exact⟨a,λaC _=>rfl⟩
 have ae:∀B∈fV h o d,cC B=l:=(qJ (oE D)).1;have ag:c (fV h o d)<=4000000:=fG (qJ (oE D)).2 ca;generalize fV h o d=j at *;obtain⟨au,av,I,ar⟩:=Ef (nl h b j) ((c j+3) / 4) 0;have aJ:=y.aY;generalize V:mQ (nl h b j) ((c j+3) / 4) 0=k at *;refine dd.jL (o0:=e' [.O [qI j],.O [.int .i64 4]]) (bX.callee a)
  (T3 (yw:=?aeq) j ag k u (λt=>vX s i h b .bE (b.1++jr h b j t) (di b+(t:Nat))) (vX s i h b (.cd 161 (.O [.V [112,97,99,107,115]])) (b.1++jr h b j k) (di b+(k:Nat))) (λt=>rfl) (λt=>rfl) a (λt J L=>?YL) λaH=>?YM) λaC=>?b2
 case YM=>
  have O:=ar u;have S:=IT (p:=p) s i (di b+(k:Nat)) h (gO j k) NF b2 (λB F=>ae B (p3 (gY F))) (by simp[gO];omega);have af:=Db h b j k;generalize ao:l0 (di b+(k:Nat)) h (gO j k)=r at *;refine iF.cF (bq:=λ_=>[.cells 107 [.c (.int .i64 r.1.1),.c (.A v 2 (c r.1.2) (bH.fn r.1.2))],.M]) (iF.intro (t:=f .ret) a a a a (g.aR ?_)) ?_ ?_
  .refine aO a A ⟨a,a,g.aR ?_⟩;refine aO a A (g.aA S [0,1] a ?_);have aa:c (b.1++jr h b j k)=c b.1+k:=M;have E:r.2=l->c b.1+k=20:=λaw=>by simpa[nl,ao,aw]using O
   cases x:r.2 with
   |false=>
    refine a5 [44,49,907] a (by simp[x]) (g.region ?_);refine gF [] 3 a A (g.e1 52 13 a a a ?_);refine aO a A (g.ret ?_);refine⟨a,a,(),jM a ?_⟩;simp[T.Z,T,a',a7];and_intros<;>first|exact bs.same|exact bs.nil|rfl
   |true=>
    have:=E x;refine a5 [-44,49,907] a bG (g.region ?_);refine gF [] 3 a A (g.e1 52 13 a a a ?_);refine aO a A (g.ret ?_);refine⟨a,a,(),jM a ?_⟩;simp
  .exact λ_=>rfl
  exactλ_=>Mz
 case YL=>
  have aE:=I t (gZ _) J;have S:=IT (p:=p) s i (di b+(t:Nat)) h (gO j t) NF b2 (λB F=>ae B (p3 (gY F))) (by simp[gO];omega);have af:=Db h b j t;have W:=Zt h b j t;obtain⟨aq,aD⟩:(l0 (di b+(t:Nat)) h (gO j t)).2=l/\¬(c b.1)+t=20:=by simpa[nl]using aE
  generalize l0 (di b+(t:Nat)) h (gO j t)=r at *;have aa:c (b.1++jr h b j t)=c b.1+t:=M;have ai:b.1++jr h b j (t+1)=(b.1++jr h b j t)++[r.1]:=M;generalize b.1++jr h b j t=m at *;refine iF.cF (bq:=λ_=>[.cells 107 [.c (.int .i64 r.1.1),.c (.A v 2 (c r.1.2) (bH.fn r.1.2))]]) (iF.intro (t:=n) a a a a (g.aR ?_)) ?_ ?_
  .refine aO a A ⟨a,a,g.aR ?_⟩;refine aO a A (g.aA S [0,1] a ?_);have mc:=a2.aW m r.1;have aB:=KY ed;refine a5 [-44,-49] a ?_ ?_
   .simp only[T,a8,aq,show nq.bytes=32 from a,aa,e0,d6,gw,a',a7];omega
   refine⟨a,a,(),jM a ?_⟩;have aL:c (m++[r.1])=c m+1:=C;have H:di b+(t:Int)+1=di b+((t+1:Nat):Int):=u;rw[ai,aL,<-H];simp only[T.Z,T,a',a7];exact Ql
  .exact λ_=>rfl
  exactλ_=>Mz
 case b2=>
  by_cases L:4*k<c j
  .rw[bo L];refine⟨_,a,by simp,.ret,a,?_⟩;rw[bo (show k<(c j+3) / 4 by omega)]at q;subst q;simp only[uJ,v5];refine .freeze 8 4 a a a (.freeze 9 5 a a a (.of ⟨(),kZ.cells bc [0,1] a ?_ a a a qj⟩));simp
  rw[bm L];refine⟨_,a,by simp,.normal,a,?_⟩;rw[bm (show¬k<(c j+3) / 4 by omega)]at q;show dd p _ _ _ _ _;refine b0.bw (g.aR ?_);by_cases E:20<dr b
  .rw[bo E]at q;subst q;refine a5 [63,911] a bu (g.region ?_);refine gF [] 3 a A (g.e1 66 13 a a a ?_);exact Pp
  rw[bm E]at q;have ak:c b.2.2<=9:=by simp only[f',cn,bw]at Y;omega
  refine a5 [-63] a bu (g.aA (Xp s i (dr b) h o ⟨ah,by omega⟩ b2 D) [0,1] a ?_);have mc:=bj.aW b.2.1 (fW (dr b) h o);have aG:=y.aZ;refine a5 [914] a ?_ ?_
  .simp only[T,show rG.bytes=32 from a,a',a7];omega
  refine g.region ?_;refine aO a A (g.aA (V_ b.2.2 (e,dr b) Y (by simp only[hx,cn,bw];omega) ak) [] a ?_);by_cases z:c b.2.2=9
  .rw[bo z]at q;subst q;refine a5 [91,916] a (by simp[z]) (g.region ?_);refine gF [] 3 a A (g.e1 94 14 a a a ?_);exact Pp
  rw[bm z]at q;subst q;simp only[bm z];refine a5 [-91,918] a (by simp[z]) ?_;have af:c (b.1++jr h b j k)=c b.1+k:=by grind[Db]
  generalize b.1++jr h b j k=m at *;generalize X:b.2.1++[fW (dr b) h o]=w at *;have K:c w=c b.2.1+1:=M;generalize U:b.2.2++[(e,dr b)]=N at *;refine g.fZ (dF:=[(8,aI 4 0),(9,aI 5 0),(10,aI 9 0)]) (an:=il s i++[.cells 30 [.c (tz b.1),.c (tA b.2.1),.c (hX b.2.2)],.cells 3 [.c (.int .i64 h)],.cells 30 [cF,cF,cF],.cells 158 [.c .bE],.p 107 2 (c m) (a2.fn m),.p 104 2 (c w) (bj.fn w),.M,.cells 30 [.N 6 (.A (c m) 2 0 (c m)),.N 7 (.A (c w) 2 0 (c w)),.c (hX N)],.cells 3 [.c (.int .i64 (di b+(k:Nat)))],.M,.bl,.cells 104 [.c (.int .i64 (fW (dr b) h o).1),.c (.A v 2 (fW (dr b) h o).2.length (cA.fn (fW (dr b) h o).2))]]) ?_ a ?_ a ?_
  .refine g.bN 6 a a a C C (g.bN 7 a a a C C (aO a A (g.ret (.freeze 8 4 a a a (.freeze 9 5 a a a (.of ⟨(),kZ.cells bc [0,1] a ?_ a a a qj⟩))))));simp[h']
  .simp
  simp only[T.Z,T,K,a',a7];exact Ql
end
structure j4(b:cz):Prop where
 eI:c b.1<=20
 dF:∀S∈b.1,(1<=S.1/\S.1<=99)/\c S.2<=4
 ey:c b.2.1<=21
 c9:∀D∈b.2.1,(1<=D.1/\D.1<=20)/\c D.2<=6/\∀bE∈D.2,c bE.2<=40
 f':c b.2.2<=9
 fq:∀s∈b.2.2,1<=s.2/\s.2<=20
def sX{a g:Type}{ak:a->m g}{j}:∀{d:m a},(∀b∈d,c (ak b)<=j)->c (d.flatMap ak)<=j*c d
 |[],_=>by simp
 |b::d,e=>by have k:=e b ir;have o:=sX (d:=d) λi h=>e i (mg _ h);grind[Nat.mul_succ]
def v6{a:eK}(d:c a.2<=6/\∀b∈a.2,c b.2<=40):c (d' a.2)<=240:=by have:=sX (ak:=λb:mY=>b.2) (j:=40) d.2;unfold d';omega
def j4.fV{b:cz}(a:j4 b):nW b:=by
 have i:=a.eI;have k:=a.ey;have j:c (cr b.1)<=4*c b.1:=sX λg d=>by rw[kE];exact(a.dF g d).2
 have m:c (hr b.2.1)<=240*c b.2.1:=sX λh e=>v6 (a.c9 h e).2;refine⟨⟨by omega,λh e=>?_,by omega,by omega⟩,λg d=>?_,by omega⟩
 .have:=(a.c9 h e).2;grind
 have:=(a.dF g d).2;omega
def j4.eN{b}(d:j4 b):dO b:=by have a:=d.fV;have e:=d.f';exact⟨a.fQ,a.cq,a.fe,a.dS,by omega⟩
def j4.eG{b}(e:j4 b):mb b:=
 ⟨λd a=>by have:=(e.dF d a).1;omega,λd a=>by have:=(e.c9 d a).1;omega,λd a=>by have:=e.fq d a;omega⟩
def j4.j5{b}(a:j4 b):c (dE b.1)<=100000:=by
 have e:=a.eI;have:c (R1.dE b.1)<=4*c b.1:=sX λg d=>by rw[kE];exact(a.dF g d).2
 omega
def abF{e}{Y}(j:(ev h e Y).isSome=l):c e.2<=6/\∀b∈e.2,c b.2<=40:=by
 unfold ev at j;split at j
 .rename_i i;simp only[cn]at i;obtain⟨⟨_,o⟩,k⟩:=i;refine⟨?_,λb m=>?_⟩
  .simp only[dN,cn,bw,fj,kE]at k;omega
  have a:=aX.1 o b m;unfold fI at a;split at a
  .cases a
  rename_i p d;split at a
  .cases a
  rename_i r g;have q:c p=c b.2:=by unfold g4 at d;split at d<;>cases d;simp
  unfold iQ at g;split at g
  .rename_i i;simp[cn,gL,fK,bw]at i;grind[vG]
  grind
 grind
def jz.h5{b}(a:jz h b):j4 b:=by
 have k:c b.2.1<=20:=by have:=w' 1 a.cG λe d=>(a.aZ e d).1;omega
 have g:=a.dn;simp[f',cn,bw,fZ]at g;refine⟨a.len,λS i=>⟨(a.cq S i).c0,(a.cq S i).len.2⟩,by omega,λe d=>⟨(a.aZ e d).1,abF (a.aZ e d).2⟩,g.2,λm j=>?_⟩;have:=(sB (S:=hx) (N:=(0,0))).1 g.1 m j;simp[hx,cn,bw]at this;omega
def YH{d}(b:∀a∈d,-4000000<=a.2/\a.2<=4000000):1<=lR d:=(s0 d b).1
def abC{b}(a:j4 b):1<=dr b:=by have:=YH a.eG.aL;unfold dr;split<;>omega
def Z'{b}(d:j4 b):1<=di b:=by
 unfold di;split
 .omega
 rename_i a;have:=(d.dF _ (CJ a (0,[]))).1;omega
def j4.cM{b}{o}{bV}(i:j4 b)(D:c b.2.1<=20)(q:dN o=l)(j:fr h b o=v):j4 (ft h b bV o):=by
 simp[fr,wQ,dp]at j;obtain⟨w,x,f3,f4⟩:=j;have B:=abC i;have E:=Z' i;have y:=zw.1 q;unfold ft;refine⟨by grind,λe a=>?_,by grind,λe a=>?_,by grind,λe a=>?_⟩
 .rcases fy.1 a with a|a
  .exact i.dF e a
  obtain⟨k,C,r,g,s,t,u,rfl⟩:=K3 h _ _ _ (qJ (h:=h) (d:=eB b.1) (oE q)).1 e a;have g:k<di b+c (kp h b o):=g;exact⟨⟨by show 1<=k;omega,by show k<=99;omega⟩,by grind[ZH]⟩
 .rcases fy.1 a with a|a
  .exact i.c9 e a
  rw[gJ]at a;subst a;refine⟨⟨B,by show dr b<=20;omega⟩,by show(o.map _).length<=6;grind,λF A=>?_⟩;obtain⟨m,j,rfl⟩:=hq.1 A;have p:=(y.1 m j).2;simp[fK,cn,bw]at p;have z:=vG m.2;show((ck m.2).map _).length<=40;grind
 rcases fy.1 a with a|a
 .exact i.fq e a
 grind
structure jc(b:cz):Prop extends j4 b where
 c6:b.1.Pairwise λS bi=>S.1<bi.1
 cG:b.2.1.Pairwise λD bE=>D.1<bE.1
 fF:∀s∈b.2.2,1<=s.1/\s.1<=2
def jc.nil:jc ([],[],[]):=⟨⟨by simp,by simp,by simp,by simp,by simp,by simp⟩,by simp,by simp,by simp⟩
def jc.eC{b}(a:jc b):q5 b:=⟨a.eN,a.c6,a.eG.bn,a.fF⟩
def jc.j0{b}(a:jc b):c b.2.1<=20:=by have:=w' 1 a.cG λe d=>(a.c9 e d).1;omega
def Gl{ak:α->Int}{d}(i:d.Pairwise λa b=>ak a<ak b)(h:c d≠0)(e):∀g∈d,ak g<=ak (d.getD (c d-1) e):=by grind[List.getElem_of_mem,List.pairwise_iff_getElem]
def jc.cM{h}{b}{o}{bV}(d:jc b)(p:dN o=l)(r:1<=bV/\bV<=2)(m:fr h b o=v):jc (ft h b bV o):=by
 refine⟨d.toj4.cM d.j0 p m,?_,?_,λe a=>?_⟩
 .refine m5.2 ⟨d.c6,K0 h _ _ _,λe a k g=>?_⟩;have q:e.1<di b:=by
   unfold di;split
   .grind
   rename_i i;have:=Gl (ak:=λj:b'=>j.1) d.c6 i (0,[]) e a;omega
  have:=DB h _ _ _ k g;omega
 .refine m5.2 ⟨d.cG,by simp,λe a k g=>?_⟩;rw[gJ]at g;subst g;show e.1<dr b;unfold dr;split
  .grind
  rename_i i;have:=Gl (ak:=λj:eK=>j.1) d.cG i (0,[]) e a;omega
 rcases fy.1 a with a|a
 .exact d.fF e a
 grind
def jc.j3{b}(a:jc b)(e:eK->Bool):jc (b.1,b.2.1.filter e,b.2.2):=
 ⟨⟨a.eI,a.dF,fG (j7 _ _) a.ey,λg d=>a.c9 g (iK.1 d).1,a.f',a.fq⟩,a.c6,a.cG.filter _,a.fF⟩
def jc.step{b}(a:jc b)(bN)(cw):jc (fk bN cw b.1,b.2):=by
 refine⟨⟨?_,λh d=>?_,a.ey,a.c9,a.f',a.fq⟩,?_,a.cG,a.fF⟩
 .have:c (fk bN cw b.1)<=c b.1:=by unfold fk;grind
  exact fG this a.eI
 .obtain⟨e,r,rfl,_⟩:=Mt d;have:=a.dF e r;grind[C7,yt]
 show (fk bN cw b.1).Pairwise _;unfold fk;refine List.Pairwise.filter _ (rb.2 (a.c6.imp λg=>?_));grind[yt]
structure fN(j:Nat)(Q:dM):Prop where
 bn:jc Q.1
 cp:c Q.2.1<=j
 cY:c Q.2.2<=20
def fN.mono{d}(a:fN j d)(b:j<=z):fN z d:=⟨a.bn,fG a.cp b,a.cY⟩
abbrev hk:dM:=(([],[],[]),[],[])
def fN.nil{j}:fN j hk:=⟨jc.nil,by simp,by simp⟩
def iM(e:Int)(a:cz)(d:m Int):dM×Bool:=
 if hY e a=l then(((a.1,a.2.1.filter λb=>d.contains b.1,a.2.2),hU (a.2.1.filter λb=>d.contains b.1),a.1.map (·.1)),l)else(hk,v)
def adp{b}(a:j4 b):c (hr b.2.1)<=240*21:=by have g:=a.ey;have h:c (hr b.2.1)<=240*c b.2.1:=sX λe d=>v6 (a.c9 e d).2;omega
def fN.ix{b}{C2}(e:jc b):fN 6000 (iM h b C2).1:=by
 unfold iM;split
 .have d:=e.j3 λa=>C2.contains a.1;refine⟨d,?_,by simp only[kE];exact e.eI⟩;have g:=yx (b.2.1.filter λa=>C2.contains a.1) _ (bA _);have i:=adp d.toj4;grind
 exact fN.nil
def fN.step{j}{b}(a:fN j b):fN j (ig b):=by
 unfold ig;split
 .exact a
 rename_i e g d;refine⟨a.bn.step _ _,a.cp,?_⟩;have:=a.cY;grind
def oz(d:Int)(b:dM)(a:Int)(e:m c7):dM:=(ft d b.1 a e,(gE (fW (dr b.1) d e).2).foldl e4 b.2.1,b.2.2)
def qx(b:Int)(e:dM)(a:Int)(d:m c7):Bool:=hi b e&&decide (1<=a/\a<=2)&&dN d
def fN.cM{h}{j}{a}{o}{bV}(b:fN j a)(i:dN o=l)(d:1<=bV/\bV<=2)(g:fr h a.1 o=v):fN (j+240) (oz h a bV o):=by have e:=b.bn.cM i d g;refine⟨e,?_,b.cY⟩;have k:=qk a.2.1 (gE (fW (dr a.1) h o).2);have m:=th (fW (dr a.1) h o).2;have q:=v6 (e.c9 (fW (dr a.1) h o) (by simp[ft])).2;have p:=b.cp;show((gE _).foldl e4 a.2.1).length<=_;omega
def fN.jY{a}(b:fN j a):q6 a.1:=b.bn.fV.toq6
def fD(b:m (Int×Int)):Int:=b.foldl (λd a=>64*d+21*a.1+a.2) 0
def gC(a:Int×Int)(b:m (Int×Int)):(Int×Int)×Int:=
 if f' b=l/\a.1<=c b/\0<=a.1 then
  if fD (b.take a.1.toNat)=a.2 then(((c b:Int),fD b),0)else(a,2)
 else(a,1)
def Ei{b:m (Int×Int)}(e:∀d∈b,(1<=d.1/\d.1<=2)/\1<=d.2/\d.2<=20):∀a,0<=fD (b.take a)/\fD (b.take a)<((64 ^ a:Nat):Int)
 |0=>by simp[fD]
 |a+1=>by
  have h:=Ei e a;by_cases g:a<c b
  .have i:fD (b.take (a+1))=64*fD (b.take a)+21*(b.getD a (0,0)).1+(b.getD a (0,0)).2:=by unfold fD;grind[ih]
   grind
  grind[List.take_of_length_le]
def C'{d}(b:f' d=l):(∀a∈d,(1<=a.1/\a.1<=2)/\1<=a.2/\a.2<=20)/\c d<=9:=by simp only[f',cn,bw,fZ]at b;refine⟨λa e=>?_,b.2⟩;have:=(sB (S:=hx) (N:=(0,0))).1 b.1 a e;simpa only[hx,cn,bw]using this
def vW{d}(g:∀a∈d,(1<=a.1/\a.1<=2)/\1<=a.2/\a.2<=20)(h:c d<=9)(e):0<=fD (d.take e)/\fD (d.take e)<18014398509481984:=by
 rcases Nat.le_total e 9 with b|b
 .have i:=Ei g e;have:64 ^ e<=64 ^ 9:=Az u b;grind
 rw[FZ u];have i:=Ei g (c d);rw[cY]at i;have:64 ^ c d<=64 ^ 9:=Az u h;grind
abbrev SN:m (Nat×bK):=[(143,Hm)]
def Xs(h)(b)(y:nW b):Z (ah.aF V) 106 [b9 b,R h] [] (bh ((az (c b.2.1)).all (lo h b))) []:=by
 refine Z.I func106 rfl λK=>?_;have J:=y.fe;have F:=y.dS;have i:ba (ah.aF V) SN:=.cons ade .nil;refine b_ i a A (g.aC 1 (λe=>e<=c b.2.1/\∀w,w<e->lo h b w=l) (λe:Nat=>[(1,R h),(2,aI 0 0),(10,bj.A b.2.1),(11,R (c b.2.1)),(12,R e)]) (λ_=>[zc b]) (λe=>c b.2.1-e) 0 a C a C a ⟨by omega,by omega⟩ ?_);rintro e ⟨D,o⟩;by_cases s:e<c b.2.1
 .have j:b.2.1.getD e bj.D=b.2.1.getD e (0,[]):=rfl;have q:b.2.1.getD (e-1) bj.D=b.2.1.getD (e-1) (0,[]):=rfl;have k:lo h b e=(decide (1<=(b.2.1.getD e (0,[])).1/\(b.2.1.getD e (0,[])).1<=20)&&kb (·.1) (0,[]) b.2.1 e&&(ev h (b.2.1.getD e (0,[])) b.1).isSome):=rfl;have E:=p4 (ak:=λm:eK=>m.1) (N:=(0,[])) (d:=b.2.1) (e:=e);have B:=F _ (oc (N:=(0,[])) s);generalize b.2.1.getD e (0,[])=m at *;generalize b.2.1.getD (e-1) (0,[])=t at *;by_cases p:1<=m.1
  rotate_left
  .refine a_ i [13,20,25,40] a ?_ (g.aT (bY.zero a ?_))
   .simp[-aj,j];omega
   exact jZ
  by_cases r:m.1<=20
  rotate_left
  .refine a_ i [13,-20,25,40] a ?_ (g.aT (bY.zero a ?_))
   .simp[-aj,j];omega
   exact jZ
  rw[fQ ⟨p,r⟩,fR]at k;by_cases x:e=0
  .subst x;rw[show kb (·.1) (0,[]) b.2.1 0=l from a,fR]at k;cases z:(ev h m b.1).isSome with
   |false=>
    refine a_ i [13,-20,-25,-27,-40,50] a Ov (g.aT (bY.zero a ?_));rw[lF s (k.trans z)];simp
   |true=>
    refine a_ i [13,-20,-25,-27,-40,-50] a ?_ (g.aw 1 a C C ⟨s,jf o (k.trans z)⟩ u);exact Ov
  rw[E x]at k;by_cases I:t.1<m.1
  rotate_left
  .refine a_ i [13,-20,-25,28,38,40] a ?_ (g.aT (bY.zero a ?_))
   .simp[-aj,j,q,a8];omega
   exact jZ
  rw[fQ I,fR]at k;cases z:(ev h m b.1).isSome with
  |false=>
   refine a_ i [13,-20,-25,28,-38,-40,50] a QK (g.aT (bY.zero a ?_));rw[lF s (k.trans z)];simp
  |true=>
   refine a_ i [13,-20,-25,28,-38,-40,-50] a ?_ (g.aw (e+1) a C C ⟨s,jf o (k.trans z)⟩ u);exact QK
 obtain rfl:e=c b.2.1:=u;rw[fZ.2 o];refine a_ i [-13] a C (g.az ?_);exact b_ i a A (g.aq a)
def ab4(h)(b):hY h b=(cj h&&tl h b&&(az (c b.2.1)).all (lo h b)&&f' b.2.2):=by unfold hY tl;cases(az (c b.1)).all (nG h b.1)<;>cases decide (cr b.1).Nodup<;>cases(az (c b.2.1)).all (lo h b)<;>cases cj h<;>cases f' b.2.2<;>cases decide (c b.1<=20)<;>rfl
abbrev SH:bK:=er oX c8 (λb a=>bh (tl a b)) λb a=>[cj a=l,nW b]
abbrev SL:bK:=er oX c8 (λa b=>bh ((az (c a.2.1)).all (lo b a))) λa _=>[nW a]
def XA(h)(b)(ak:nW b):Z (ah.aF V) 68 [R h,b9 b] [] (bh (hY h b)) []:=by
 refine Z.I func68 rfl λj=>?_;have d:ba (ah.aF V) [(104,Hl),(38,dk c8 (λh=>bh (cj h)) λ_=>[]),(105,SH),(106,SL),(107,n2)]:=.cons adb (.cons t38 (.cons (.bh λb h e=>WK h b e.1 e.2) (.cons (.bh λb h e=>Xs h b e) (.cons tL .nil))));have i:=a2.l b.1;have r:=bj.l b.2.1;have w:=a3.l b.2.2;rw[ab4];cases b2:cj h
 .exact a_ d [-10,-15,-20] a (by simp[b2,i,r,w,a2.T,bj.T,a3.T]) (g.aq a)
 cases au:tl h b
 .exact a_ d [10,-15,-20] a (by simp[b2,i,r,w,a2.T,bj.T,a3.T,ak,au]) (g.aq a)
 cases B:(az (c b.2.1)).all (lo h b)
 .exact a_ d [10,15,-20] a Qm (g.aq a)
 exact a_ d [10,15,20] a Qm (g.aq a oJ)
abbrev xv:bK:=er c8 oX (λb a=>bh (hY b a)) λ_ a=>[nW a]
def Et:bL (ah.aF V) 68 xv:=.bh λb d a=>XA b d a
abbrev hy(b a:al×X):m ap:=il b a++[Ac]
def qr(d:Int)(b:cz)(a:Int)(e:m c7):cz×Bool:=
 if hY d b=l/\(a=1∨a=2)/\dN e=l then(match(ps d b a e).2 with|none=>((ps d b a e).1,l)|some _=>(b,v))else(([],[],[]),v)
structure FU(h:Int)(b:cz):Prop where
 kk:cj h=l
 sp:c (dE b.1)<=100000
 km:kP (eB b.1) (c (eB b.1))=l
 dn:f' b.2.2=l
 aZ:1<=dr b
def ng:∀a,a<3->([0,1,2]:m Nat)[a]?=f a:=ca
def TM{b:ah V}(aa):Z b 119 [ax .bE,n7 aa] [] (bh v) []:=by refine Z.I func119 rfl λd=>?_;refine aO a A ?_;refine g.aK (Dn a underlying158 a a a) a a ?_;exact a5 [9] a C (g.aq a)
def XC(u t)(h)(b)(i)(o)(r:dO b)(a9:nW b)(F:mb b)(G:a8 .i64 i)(Q:hY h b=l->FU h b):
  Z (ah.aF V) 82 [R h,b9 b,R i,bB.A o] (hy u t) (MQ (qr h b i o).1 (qr h b i o).2) (hy u t):=by
 refine Z.bb bc func82 rfl rfl rfl λH=>?_;have k:ba (ah.aF V) [(68,xv),(42,ro)]:=.cons Et (.cons v3 .nil);by_cases e:hY h b=l
 .by_cases d:i=1∨i=2
  .by_cases j:dN o=l
   .have m:qr h b i o=(match(ps h b i o).2 with|none=>((ps h b i o).1,l)|some _=>(b,v)):=bo ⟨e,d,j⟩;rw[m];obtain⟨K,D,x,E,O⟩:=Q e;have B:=W_ (p:=ah.aF V) u t h b i o K r F j D x E d O;apply g.cf [(0,R h),(2,R i),(3,bB.A o),(5,aI 3 0),(8,aI 4 0)] (hy u t++[.cells 30 [.c (tz b.1),.c (tA b.2.1),.c (hX b.2.2)],.cells 30 [cF,cF,cF]])
    .intro dw;rcases d with rfl|rfl
     .refine be k [-17,-20,-25,-29,903] a Pr (dw _ _ a ?_);simp
     refine be k [-17,20,-25,-29,903] a Pr (dw _ _ a ?_);simp
    have N:∀y:X,Z (ah.aF V) 119 [ax .bE,n7 y] [] (bh v) []:=λy=>TM y;generalize ps h b i o=J at *;obtain⟨W,S⟩:=J;cases S with
    |none=>
     have w:=B;refine cU k a A (g.aA w [0,1] a (be k [905] a A (g.hI 12 6 a a λz=>?_)));refine cU k a A (g.g4 40 a ?_);exact g.aA (N _) [] a (be k [-41] a C kz)
    |some U=>
     have w:=B;refine cU k a A (g.aA w [0,1] a (be k [905] a A (g.hI 12 6 a a λz=>?_)));refine g.iQ 11 a λI=>?_;refine cU k a A (g.g4 40 a ?_);refine g.aA (TK I z) [2,6] a (be k [41] a C (g.aA (o6 b r.aY r.bm r.aZ r.bx r.aL) [] a (tv k [] 2 a A (g.hJ ?_))));exact g.bN 7 a a a C C (g.bN 8 a a a C C PD)
   have m:qr h b i o=(([],[],[]),v):=bm λs=>j s.2.2;rw[m];have q:dN o=v:=M;rcases d with rfl|rfl
   .exact be k [-17,-20,-25,29] a QJ kz
   exact be k [-17,20,-25,29] a QJ kz
  have m:qr h b i o=(([],[],[]),v):=bm λs=>d s.2.1;rw[m];exact be k [-17,20,25,29] a bG kz
 have m:qr h b i o=(([],[],[]),v):=bm λs=>e s.1;rw[m];refine be k [17,25,29] a ?_ ?_
 .simp only[T,a2.l,bj.l,a3.l];and_intros<;>first|rfl|exact True.intro|exact a2.T _|exact bj.T _|exact a3.T _|exact a9|grind
 exact kz
section
variable {p:ah V}
def Ug(b)(d:dO b):Z p 61 [b9 b] [] (b9 b) []:=by refine(qg b d.aY d.bm d.aZ d.bx d.aL).b1 a ?_ a;simp
abbrev Bp:bK:=dk oX (λa=>b9 a) λa=>[dO a]
def MG:bL p 61 Bp:=.a7 λb a=>Ug b a
def Iw(b)(e:dO b.1)(i:c b.2.1<=4000000)(k:c b.2.2<=4000000):Z p 37 [gy b] [] (.n (.agg [cL a2 b.1.1,cL bj b.1.2.1,cL a3 b.1.2.2,cL aA b.2.1,.w 0 1 (c b.2.2) (aA.fn b.2.2)])) [.w 3 1 (c b.2.2) (aA.fn b.2.2)]:=by
 refine Z.bb bc func37 rfl rfl rfl λj=>?_;have h:ba p [(61,Bp)]:=.cons MG .nil;refine be h [2000009] a ?_ ?_
 .simp only[T,a2.l,a2.T,bj.l,bj.T,a3.l,a3.T,e,a',a7,show d9.bytes=8 from a,lC];exact fv
 refine g.a_ [gq b,.cells 33 [cL a2 b.1.1,cL bj b.1.2.1,cL a3 b.1.2.2,cL aA b.2.1,.w 2 1 (c b.2.2) (aA.fn b.2.2)],.w 3 1 (c b.2.2) (aA.fn b.2.2)] a ?_ ?_
 .simp[a2.l,bj.l,a3.l,oY]
 refine g.bc () [2] ?_ (λm d=>absurd d C);simp
def Ui(b)(d:dO b.1)(e:c b.2.1<=4000000)(g:c b.2.2<=4000000):Z p 37 [gy b] [] (gy b) []:=
 (Iw b d e g).b1 a C a
abbrev xn:bK:=dk (Am Cs) (λa=>gy a) λa=>[dO a.1,c a.2.1<=4000000,c a.2.2<=4000000]
def En:bL p 37 xn:=.a7 λb a=>Ui b a.1 a.2.1 a.2.2
abbrev Kd(b:b')(a:m cX):m ap:=[xp b,.cells 107 [.c (.int .i64 0),cF],.cells 107 [.c (.int .i64 b.1),.w 3 2 (c a) (bH.fn a)],.w 138 2 (c a) (bH.fn a)]
def Cy{d}{a:α->Bool}(g:e<c d)(b):(d.take (e+1)).filter a=if a (d.getD e b)=l then(d.take e).filter a++[d.getD e b]else(d.take e).filter a:=by rw[ih g b,List.filter_append,rg];split<;>simp
def Cx(d)(a:α->Bool)(b:e<=c d):c ((d.take e).filter a)<=e:=fG (j7 _ _) bQ
def VS(S)(b)(B:c S.2<=4000000):Z p 64 [fH S,aA.A b] [] (fH (hI S b)) []:=by
 refine Z.bb bc func64 rfl rfl rfl λo=>?_;have i:ba p [(62,uO)]:=.cons zm .nil;refine be i [902] a A (g.ck 2 1 138 2 (bH.fn []) a a ?_);refine b_ i a A ?_;refine g.aC 4 (λe=>e<=c S.2) (λe:Nat=>[(1,aA.A b),(2,aI 0 0),(4,aI 1 0),(5,aI 2 0),(6,R e)])
  (λe=>Kd S ((S.2.take e).filter λd=>b.contains d.1)) (λe=>c S.2-e) 0 a C a C a u ?_
 intro e j;have m:=Cx S.2 (λd=>b.contains d.1) j;by_cases s:e<c S.2
 .have N:S.2.getD e bH.D=d_ S e:=rfl;have r:(S.2.take (e+1)).filter (λd=>b.contains d.1)=if b.contains (d_ S e).1=l then(S.2.take e).filter (λd=>b.contains d.1)++[d_ S e]else(S.2.take e).filter (λd=>b.contains d.1):=Cy s (0,[]);generalize(S.2.take e).filter (λd=>b.contains d.1)=k at *;generalize d_ S e=d at *;cases ak:b.contains d.1 with
  |true=>
   rw[bo ak]at r;have B:=bH.aW k d;refine be i [15,25] a PQ (g.aw (e+1) a C ?_ s u);exact Q7
  |false=>
   rw[bm dB]at r;refine be i [15,-25] a PS (g.aw (e+1) a C ?_ s u);simp_all
 exact Pw
abbrev G6:bK:=er (jA bH) (e7 aA) (λb a=>fH (hI b a)) λb _=>[c b.2<=4000000]
def acT:bL p 64 G6:=.bh λd a b=>VS d a b
abbrev jV(b:dM)(a:Bool):x:=.Q [.agg (vY b),.R (.c (.bool a))]
abbrev lw:m O:=[cF,cF,cF,cF,cF]
def stepT(b:Int)(a:m Int)(d:m b')(e:Nat):m b':=fk b a (d.take e)
def ab1{bN}{cw}{Y}(a:e<c Y):stepT bN cw Y (e+1)=if(i2 bN cw (Y.getD e (0,[]))).2.length=0 then stepT bN cw Y e else stepT bN cw Y e++[i2 bN cw (Y.getD e (0,[]))]:=by unfold stepT fk;rw[ih a (0,[]),List.map_append,List.filter_append,List.map_singleton];grind
def ab0(bN)(cw)(Y)(a:e<=c Y):c (stepT bN cw Y e)<=e:=by unfold stepT fk;grind
def Xx(b)(j:dO b.1)(e:c b.2.1<=4000000)(i:b.2.2=[]):Z p 36 [gy b] [] (jV b v) []:=by refine Z.bG func36 rfl rfl rfl λh=>?_;have d:ba p [(37,xn)]:=.cons En .nil;refine be d [13] a bG ?_;refine g.freeze 2 1 a a a ?_;refine g.cr bc [] a ?_ a a a eW;simp[a2.l,bj.l,a3.l,aA.l]
abbrev ab5(b:cz)(a:m Int)(e:m Int)(d:m b'):m ap:=[gq (b,a,e),.cells 33 lw,gq (b,a,e),.w 107 2 (c d) (a2.fn d)]
def _root_.Go.AM.c1.iX(a:c1 α)(g)(d)(h:j=c d):bs j (fs 1 (a.fn (g::d))) (a.fn d):=by intro e b;simp only[fs,c1.fn,gG,aj,Nat.add_comm 1 e,nY]
def Xy(b)(cw k)(bN)(w)(F:k=bN::w)(x:dO b)(J:c cw<=4000000)(I:c k<=4000000):Z p 36 [gy (b,cw,k)] [] (jV ((fk bN cw b.1,b.2),cw,w) l) []:=by
 refine Z.bG func36 rfl rfl rfl λO=>?_;have m:ba p [(37,xn),(64,G6)]:=.cons En (.cons acT .nil);have K:0<c k:=dB;refine be m [-13,905] a ?_ ?_
 .simp only[T,a2.l,a2.T,bj.l,bj.T,a3.l,a3.T,aA.l,aA.T,x,J,I,a',a7,e0,d6];omega
 refine g.bB 5 107 2 a a ?_;refine cU m a A ?_;have M:=x.aY;refine g.aC 4 (λe=>e<=c b.1) (λe:Nat=>[(1,aI 0 0),(2,aI 1 0),(4,aI 2 0),(5,.n (.R (.w 3 2 (c (stepT bN cw b.1 e)) (a2.fn (stepT bN cw b.1 e))))),(6,R e)])
  (λe=>ab5 b cw k (stepT bN cw b.1 e)) (λe=>c b.1-e) 0 a ?_ a ?_ a u ?_
 .simp[stepT,fk]
 .simp[stepT,fk,a2.l,bj.l,a3.l,aA.l]
 intro e t;by_cases o:e<c b.1
 .have N:b.1.getD e a2.D=b.1.getD e (0,[]):=rfl;have z:=x.bm _ (mw o (0,[]));have i:=ab1 (bN:=bN) (cw:=cw) o;have Q:=ab0 bN cw b.1 t;have s:k.getD (Int.toNat 0) aA.D=bN:=bG;generalize stepT bN cw b.1 e=y at *;generalize b.1.getD e (0,[])=h at *;by_cases j:h.1=bN
  .have B:i2 bN cw h=hI h cw:=by unfold i2;exact bu
   rw[B]at i;have d:=a2.aW y (hI h cw);have S:(hI h cw).2.length<=c h.2:=j7 _ _;have r:(h.1,h.2)=h:=rfl;by_cases q:(hI h cw).2.length=0
   .rw[bo q]at i;refine be m [21,36,-44] a ?_ (g.aw (e+1) a ?_ ?_ o u)
    .simp only[T,cZ,N,s,r,z,bH.l,bH.T,aA.l,aA.T,a8,bw,dp,gL,a',a7];exact zI
    .rw[i];simp
    rw[i];simp
   rw[bm q]at i;refine be m [21,36,44] a ?_ (g.aw (e+1) a ?_ ?_ o u)
   .simp only[T,cZ,N,s,r,z,bH.l,bH.T,aA.l,aA.T,a8,show nq.bytes=32 from a,bw,dp,gL,a',a7];exact zI
   .exact QI
   exact QI
  have B:i2 bN cw h=h:=by unfold i2;exact bu
  rw[B]at i;have d:=a2.aW y h;by_cases q:c h.2=0
  .rw[bo q]at i;refine be m [21,-36,-44] a ?_ (g.aw (e+1) a ?_ ?_ o u)
   .simp only[T,cZ,N,s,a8,bw,dp,e0,d6,a',a7];exact zI
   .rw[i];simp
   rw[i];simp
  rw[bm q]at i;refine be m [21,-36,44] a ?_ (g.aw (e+1) a ?_ ?_ o u)
  .simp only[T,cZ,N,s,a8,show nq.bytes=32 from a,bw,dp,e0,d6,a',a7];exact zI
  .exact PT
  exact PT
 obtain rfl:e=c b.1:=u;have E:stepT bN cw b.1 (c b.1)=fk bN cw b.1:=by unfold stepT;simp
 rw[E];refine be m [-21] a C (g.az ?_);refine cU m a bu (g.freeze 2 1 a a a ?_);refine g.cr bc [] a ?_ a a a eW;have D:=aA.iX bN w a;rw[<-F]at D;simp only[T.Z,T,bU,a',a7];and_intros<;>first|exact bs.same|exact D|simp_all|grind|rfl
def qo(a:dM):Bool:=!a.2.2.isEmpty
def Xw(a)(g:dO a.1)(h:c a.2.1<=4000000)(k:c a.2.2<=4000000):Z p 36 [gy a] [] (jV (ig a) (qo a)) []:=by
 obtain⟨e,b,j⟩:=a;cases j with
 |nil=>exact Xx (e,b,[]) g h rfl
 |cons d i=>exact Xy e b (d::i) d i rfl g h k
abbrev Gq(d:cz)(a:m eK)(b:m Int):m ap:=[jS d,.cells 33 lw,.cells 33 [cL a2 d.1,.w 4 2 (c a) (bj.fn a),cL a3 d.2.2,cF,.w 5 1 (c b) (aA.fn b)],jS d,.w 104 2 (c a) (bj.fn a),.w 3 1 (c b) (aA.fn b)]
def map_take{b:Type}{d}{ak:α->b}(g:e<c d)(a):(d.take (e+1)).map ak=(d.take e).map ak++[ak (d.getD e a)]:=by rw[ih g a,List.map_append];rfl
def F9(d)(a:eK->Bool):c (hr (d.filter a))<=c (hr d):=by
 induction d with
 |nil=>simp
 |cons e d b=>
  unfold hr at *;grind
def TV(h)(b)(i)(o:dO b)(y:q6 b):Z p 35 [R h,b9 b,aA.A i] [] (jV (iM h b i).1 (iM h b i).2) []:=by
 refine Z.bG func35 rfl rfl rfl λN=>?_;have k:ba p [(60,By),(61,Bp),(62,uO),(63,Br)]:=.cons MR (.cons MG (.cons zm (.cons MJ .nil)));have M:=o.aY;have F:=o.aZ;unfold iM;cases s:hY h b with
 |false=>
  refine be k [15] a ?_ ?_
  .simp only[T,a2.l,a2.T,bj.l,bj.T,a3.l,a3.T,s,o.aY,o.aZ,a',a7,is];exact y.dS
  refine g.freeze 6 1 a a a ?_;refine g.cr bc [] a ?_ a a a eW;simp
 |true=>
 rw[bo a];refine be k [-15,906] a ?_ ?_
 .simp only[T,a2.l,a2.T,bj.l,bj.T,a3.l,a3.T,s,o.aY,o.aZ,o,a',a7,gw];exact y.dS
 refine g.ck 2 1 104 2 (bj.fn []) a a ?_;refine g.ck 2 4 3 1 (aA.fn []) a a ?_;refine cU k a A ?_;refine g.aC 6 (λe=>e<=c b.2.1) (λe:Nat=>[(2,aA.A i),(4,aI 0 0),(6,aI 1 0),(8,aI 2 0),(9,aI 3 0),(10,R e)])
  (λe=>Gq b ((b.2.1.take e).filter λj=>i.contains j.1) []) (λe=>c b.2.1-e) 0 a ?_ a ?_ a u ?_
 .simp
 .simp[a2.l,bj.l,a3.l]
 intro e q;have D:=Cx b.2.1 (λj=>i.contains j.1) q;by_cases m:e<c b.2.1
 .have t:b.2.1.getD e bj.D=b.2.1.getD e (0,[]):=rfl;have r:(b.2.1.take (e+1)).filter (λj=>i.contains j.1)=if i.contains (b.2.1.getD e (0,[])).1=l then(b.2.1.take e).filter (λj=>i.contains j.1)++[b.2.1.getD e (0,[])]else(b.2.1.take e).filter (λj=>i.contains j.1):=Cy m (0,[]);generalize(b.2.1.take e).filter (λj=>i.contains j.1)=x at *;generalize b.2.1.getD e (0,[])=j at *;cases z:i.contains j.1 with
  |true=>
   rw[bo z]at r;have d:=bj.aW x j;refine be k [30,40] a ?_ (g.aw (e+1) a C ?_ m u)
   .simp[-aj,-List.contains_eq_mem,t,m,z,aA.l,aA.T,a8,show rG.bytes=32 from a];omega
   exact OL
  |false=>
   rw[bm dB]at r;refine be k [30,-40] a ?_ (g.aw (e+1) a C ?_ m u)
   .simp[-aj,-List.contains_eq_mem,t,m,z,aA.l,aA.T,a8];omega
   simp_all
 obtain rfl:e=c b.2.1:=u;rw[cY]at D⊢;have E:=F9 b.2.1 λj=>i.contains j.1;have I:ln (b.1,b.2.1.filter (λj=>i.contains j.1),b.2.2):=λj d=>o.bx j (iK.1 d).1;have J:=y.ez;generalize b.2.1.filter (λj=>i.contains j.1)=B at *;refine be k [-30] a C (g.az ?_);refine cU k a A ?_;refine g.aC 6 (λe=>e<=c b.1) (λe:Nat=>[(2,aA.A i),(4,aI 0 0),(6,aI 1 0),(8,aI 2 0),(11,R e)])
  (λe=>Gq b B ((b.1.take e).map (·.1))) (λe=>c b.1-e) 0 a C a C a u ?_
 intro e q;have K:c ((b.1.take e).map (·.1))=e:=bQ;by_cases m:e<c b.1
 .have t:b.1.getD e a2.D=b.1.getD e (0,[]):=rfl;have r:=map_take (ak:=λw:b'=>w.1) m (0,[]);generalize(b.1.take e).map (λw:b'=>w.1)=x at *;generalize b.1.getD e (0,[])=w at *;have d:=aA.aW x w.1;refine be k [57] a ?_ (g.aw (e+1) a C ?_ m u)
  .simp[-aj,t,m,a8,show d9.bytes=8 from a];omega
  exact OL
 obtain rfl:e=c b.1:=u;rw[cY];refine be k [-57] a C (g.az ?_);refine cU k a bG (g.freeze 8 2 a a a ?_);refine g.freeze 6 1 a a a ?_;refine g.cr bc [] a ?_ a a a eW;simp[bj.l]
abbrev GN:bK:=kh c8 oX (e7 aA) (λd a b=>jV (iM d a b).1 (iM d a b).2) λ_ a _=>[dO a,q6 a]
def acu:bL p 35 GN:=.c5 λd e b a=>TV d e b a.1 a.2
def rF(a:dR)(b:b'):b':=if b.1=a.2.1/\0<=a.2.2.1/\a.2.2.1<c b.2 then(b.1,gT b.2 a.2.2.1.toNat a.2.2.2)else b
def ny(a:cz)(b:dR):cz:=
 if b.1=1 then(a.1.filter λd=>!(d.1==b.2.1),a.2.1,a.2.2)
 else if b.1=2 then(if b.2.1<0∨b.2.1>c a.2.2 then a else(a.1,a.2.1.filter λd=>!jq b.2.1.toNat a.2.2 d,a.2.2.take b.2.1.toNat))
 else if b.1=3 then(a.1.map (rF b),a.2)
 else if b.1=4 then(if 0<=b.2.1/\b.2.1<c a.2.2 then(a.1,a.2.1,a.2.2.set b.2.1.toNat (3-(a.2.2.getD b.2.1.toNat (0,0)).1,(a.2.2.getD b.2.1.toNat (0,0)).2))else a)
 else a
def JP{b}{d}(e:pM b d):b.1.map (rF d)=b.1:=by apply rh C;intro g h a;rw[List.getElem_map];have:=e g a;rw[aj,bI a,h3]at this;exact bm this
def JO{b}{d}{i0}(a:sg b d i0 z):b.1.map (rF d)=(g8 b d i0 z).1:=by
 have m:=a.a8;apply pZ;intro e;have j:(g8 b d i0 z).1=b.1.set i0 ((b.1.getD i0 (0,[])).1,gT (b.1.getD i0 (0,[])).2 z d.2.2.2):=rfl;rw[j,m6];by_cases h:e<c b.1
 .have r:b.1[e]?=f (b.1.getD e (0,[])):=M;by_cases g:e=i0
  .subst g;rw[iq h,r];have o:=a.gx;have i:=a.b2;simp only[lD,rF];rw[bo ⟨a.c0,by omega,by omega⟩,i,cZ]
  rw[j9 (λa=>g a.symm),r];simp only[lD,rF];rw[bm (λk=>a.bV e h g k.1)]
 grind
structure RT(p:ah V)(b:cz)(d:dR)(aB:cz):Prop where
 fo:dO aB
 dv:Z p 59 [b9 b,eG d] [] (b9 aB) []
def zi{b}(k:q5 b)(d):RT p b d (ny b d):=by
 have a:=k.size;have C:=a.aL;unfold ny;by_cases m:d.1=1
 .rw[bo m];exact⟨⟨fG (j7 _ _) a.aY,λs g=>a.bm s (iK.1 g).1,a.aZ,a.bx,a.aL⟩,Xb b d a m⟩
 rw[bm m];by_cases h:d.1=2
 .rw[bo h];by_cases e:d.2.1<0∨d.2.1>c b.2.2
  .rw[bo e];exact⟨a,I5 b d b a h (TP b d.2.1 a.aL e)⟩
  rw[bm e];have o:d.2.1=(d.2.1.toNat:Nat):=u;have t:=TQ (p:=p) b d.2.1.toNat u a.aZ k.num a.aL;rw[<-o]at t;refine⟨⟨a.aY,a.bm,fG (j7 _ _) a.aZ,λB A=>a.bx B (iK.1 A).1,?_⟩,I5 b d _ a h t⟩;simp;omega
 rw[bm h];by_cases e:d.1=3
 .rw[bo e];rcases JQ k d with⟨i0,z,q⟩|o
  .have r:(b.1.map (rF d),b.2)=g8 b d i0 z:=by rw[JO q]
   rw[r];refine⟨⟨by simpa using a.aY,λs g=>?_,a.aZ,a.bx,a.aL⟩,Xc b d a e i0 z q⟩;rcases As g with g|rfl
   .exact a.bm s g
   simpa[gT]using a.bm _ (u' q.a8)
  rw[JP o];exact⟨a,Xi b d a e o⟩
 rw[bm e];by_cases i:d.1=4
 .rw[bo i];by_cases j:0<=d.2.1/\d.2.1<c b.2.2
  .rw[bo j];have x:(b.2.2.getD (0+d.2.1.toNat) a3.D)∈b.2.2:=M;have t:=k.aL _ x;have y:a8 .i64 (3-lr b d):=Rk;have w:=Xe (p:=p) b d a i j.1 j.2 y;have r:b.2.2.set (0+d.2.1.toNat) (3-lr b d,(b.2.2.getD (0+d.2.1.toNat) a3.D).2)=b.2.2.set d.2.1.toNat (3-(b.2.2.getD d.2.1.toNat (0,0)).1,(b.2.2.getD d.2.1.toNat (0,0)).2):=M;rw[r]at w;exact⟨⟨a.aY,a.bm,a.aZ,a.bx,by simpa using a.aL⟩,w⟩
  rw[bm j];exact⟨a,Xf b d a i j⟩
 rw[bm i];exact⟨a,Xh b d a m h e i⟩
def JX{b}(m:q5 b)(d):Z p 81 [b9 b,eG d] [] (b9 (ny b d)) []:=by
 have e:=m.size;have w:=e.aL;unfold ny;by_cases j:d.1=1
 .rw[bo j];exact VX b d e j
 rw[bm j];by_cases g:d.1=2
 .rw[bo g];by_cases a:d.2.1<0∨d.2.1>c b.2.2
  .rw[bo a];exact Cj (V1 b d e g a)
  rw[bm a];have k:d.2.1=(d.2.1.toNat:Nat):=u;exact VZ b d e g d.2.1.toNat k u
 rw[bm g];by_cases a:d.1=3
 .rw[bo a];rcases JQ m d with⟨i0,z,o⟩|k
  .have q:(b.1.map (rF d),b.2)=g8 b d i0 z:=by rw[JO o]
   rw[q];exact V2 b d e a i0 z o
  rw[JP k];exact V4 b d e a k
 rw[bm a];by_cases h:d.1=4
 .rw[bo h];by_cases i:0<=d.2.1/\d.2.1<c b.2.2
  .rw[bo i];have r:(b.2.2.getD (0+d.2.1.toNat) a3.D)∈b.2.2:=M;have x:=m.aL _ r;have s:a8 .i64 (3-lr b d):=Rk;have t:=V7 (p:=p) b d e h i.1 i.2 s;grind
  rw[bm i];exact V6 b d e h i
 rw[bm h];exact Cj (V8 b d e j g a h)
structure nT(d:m (Int×Int)):Prop where
 aL:∀D∈d,(1<=D.1/\D.1<=2)/\1<=D.2/\D.2<=20
 cx:c d<=9
def nT.of{d}(a:f' d=l):nT d:=⟨(C' a).1,(C' a).2⟩
def nT.take{d}(a:nT d)(e):nT (d.take e):=⟨λg b=>a.aL g (gY b),by have:=a.cx;rw[List.length_take];omega⟩
def My{d}(a:e<c d):fD (d.take (e+1))=64*fD (d.take e)+21*(d.getD e (0,0)).1+(d.getD e (0,0)).2:=by unfold fD;rw[ih a (0,0),uu];rfl
def XG(d)(e:nT d):Z p 100 [a3.A d] [] (R (fD d)) []:=by
 refine Z.I func100 rfl λm=>?_;have s:=e.cx;refine aO a A (g.aC 0 (λb=>b<=c d) (λb:Nat=>[(0,a3.A d),(3,R (fD (d.take b))),(4,R b)]) (λ_=>[]) (λb=>c d-b) 0 a (by simp[fD]) a A a u ?_);intro b j;by_cases h:b<c d
 .have i:d.getD b a3.D=d.getD b (0,0):=rfl;have q:=My h;have o:=vW e.aL e.cx b;have k:=vW e.aL e.cx (b+1);have r:=e.aL _ (mw h (0,0));refine a5 [8] a ?_ (g.aw (b+1) a ?_ A h u)
  .simp only[T,cZ,i,a8,bw,a',a7];exact fv
  simp only[T.Z,T,cZ,i,a',a7];and_intros<;>first|exact bs.same|omega
 obtain rfl:b=c d:=u;rw[cY];exact PL
abbrev Hp:bK:=dk (e7 a3) (λa=>R (fD a)) λa=>[nT a]
def adh:bL p 100 Hp:=.a7 λb a=>XG b a
abbrev qc(a:Int×Int):x:=.n (.agg [.c (.int .i64 a.1),.c (.int .i64 a.2)])
abbrev py(a:(Int×Int)×Int):x:=.Q [.agg [.c (.int .i64 a.1.1),.c (.int .i64 a.1.2)],.R (.c (.int .i64 a.2))]
def Xa(z)(d)(t:c d<=4000000):Z p 58 [qc z,a3.A d] [] (py (gC z d)) []:=by
 refine Z.bG func58 rfl rfl rfl λs=>?_;have b:ba p [(99,n2),(100,Hp)]:=.cons MI (.cons adh .nil);unfold gC;cases b2:f' d with
 |false=>
  rw[bm C];exact be b [8,15,20] a FC sa
 |true=>
 have h:=nT.of b2;by_cases k:z.1<=c d
 rotate_left
 .rw[bm (by simp[k])];exact be b [-8,15,20] a PX sa
 by_cases N:0<=z.1
 rotate_left
 .rw[bm pI];exact be b [-8,-15,20] a PV sa
 rw[bo ⟨rfl,k,N⟩];have r:(z.1.toNat:Int)=z.1:=q_ N;have m:a3.ad (bU (c d) (f z.1)-bU 0 n) (fs (bU 0 n) (a3.fn d))=d.take z.1.toNat:=by have o:bU (c d) (f z.1)-bU 0 n=z.1.toNat:=wA;rw[o,a3.hl d (λq i=>by simp[fs,bU]) u]
 have j:a3.bM (bU (c d) (f z.1)-bU 0 n) (fs (bU 0 n) (a3.fn d)):=a3.g7 d (λq i=>by simp[fs,bU]);by_cases e:fD (d.take z.1.toNat)=z.2
 .rw[bo e];refine be b [-8,-15,-20,-29] a ?_ ?_
  .simp only[T,ji,m,j,b2,h,h.take,e,a3.l,a3.T,gw,bw,dp,iI,a',a7];omega
  refine g.freeze 4 1 a a a ?_;exact g.cr bc [] a (by simp[a3.l]) a a a eW
 rw[bm e];refine be b [-8,-15,-20,29] a ?_ ?_
 .simp only[T,ji,m,j,b2,h,h.take,a3.l,a3.T,gw,bw,dp,j',a',a7];and_intros<;>first|exact e|omega
 exact sa
def fC(d:Int)(b:dM)(a:Int)(e:m c7):dM×Bool:=
 if qx d b a e=l then(if fr d b.1 e=l then(b,v)else(oz d b a e,l))else(hk,v)
structure um(Q:dM):Prop where
 bn:dO Q.1
 cp:q6 Q.1
 cx:c Q.2.1<=4000000
 cY:c Q.2.2<=4000000
def fN.cB{b}(a:fN j b)(d:j<=1000000):um b:=⟨a.bn.toj4.eN,a.jY,by have:=a.cp;omega,by have:=a.cY;omega⟩
def XL(h)(b)(bV)(o)(k:um b):Z p 57 [R h,gy b,R bV,bB.A o] [] (jV (fC h b bV o).1 (fC h b bV o).2) []:=by
 refine Z.bG func57 rfl rfl rfl λL=>?_;have j:ba p [(95,Hq),(31,kH),(32,sH),(37,xn),(97,Bs),(98,xl)]:=.cons adi (.cons lp (.cons t32 (.cons En (.cons MK (.cons El .nil)))));have aa:=k.cp;have w:(b.1,b.2.1,b.2.2)=b:=rfl;have V:fC h b bV o=if hi h b=l then(if 1<=bV/\bV<=2 then(if dN o=l then(if fr h b.1 o=l then(b,v)else(oz h b bV o,l))else(hk,v))else(hk,v))else(hk,v):=by unfold fC qx;by_cases ak:hi h b=l<;>by_cases B:1<=bV/\bV<=2<;>by_cases q:dN o=l<;>simp[ak,B,q]
 rw[V];cases ak:hi h b with
 |false=>
  rw[bm C];refine be j [18,23,28] a ?_ ?_
  .simp only[T,a2.l,a2.T,bj.l,bj.T,a3.l,a3.T,aA.l,aA.T,w,ak,aa,is,a',a7]
  exact zK
 |true=>
 rw[bo a];by_cases B:1<=bV/\bV<=2
 rotate_left
 .rw[bm B];refine be j [-18,23,28] a ?_ ?_
  .simp only[T,a2.l,a2.T,bj.l,bj.T,a3.l,a3.T,aA.l,aA.T,w,ak,aa,gw,a',a7];grind
  exact zK
 rw[bo B];cases q:dN o with
 |false=>
  rw[bm C];exact be j [-18,-23,28] a E8 zK
 |true=>
 rw[bo a];have s:=tI.1 ak;have aY:=s.tojz.h5;have N:=aY.eG;have m:=W8 (p:=p) h b.1 bV o s.key k.bn N (oE q) aY.j5;cases y:fr h b.1 o with
 |true=>
  rw[y,bo a]at m;rw[bo a];refine be j [-18,-23,-28] a E8 (g.aA m [] a (be j [42] a ?_ ?_))
  .simp only[T,a2.l,a2.T,bj.l,bj.T,a3.l,a3.T,aA.l,aA.T,w,k.bn,k.cx,k.cY,gw,is,a',a7]
  refine g.freeze 8 1 a a a ?_;exact g.cr bc [] a FG a a a eW
 |false=>
 rw[y,bm C]at m;rw[bm C];refine be j [-18,-23,-28] a E8 (g.aA m [] a ?_);have F:=aY.cM (h:=h) (o:=o) (bV:=bV) (by have:=w' 1 s.cG λr J=>(s.aZ r J).1;omega) q y;have O:(ft h b.1 bV o).2.1.length=c b.1.2.1+1:=by simp[ft]
 have S:(ft h b.1 bV o).2.1.getD ((ft h b.1 bV o).2.1.length-1) (0,[])=fW (dr b.1) h o:=by rw[O];simp[ft,aj]
 have K:=F.c9 (fW (dr b.1) h o) M;have X:=v6 K.2;have H:=th (fW (dr b.1) h o).2;have G:=F.ey;have W:=k.cx;unfold oz;generalize ft h b.1 bV o=i at *;generalize fW (dr b.1) h o=r at *;have U:((c i.2.1:Int)-1).toNat=c i.2.1-1:=u;have z:i.2.1.getD ((c i.2.1:Int)-1).toNat bj.D=r:=by rw[U];exact S
 refine be j [-42] a ?_ ?_
 .simp only[T,z,a2.l,a2.T,bj.l,bj.T,a3.l,a3.T,aA.l,aA.T,cA.l,cA.T,w,k.bn,k.cx,k.cY,a8,gw,is,a',a7];omega
 rw[z];simp only[cA.l];generalize gE r.2=d at *;refine g.aC 4 (λe=>e<=c d) (λe:Nat=>[(5,aI 0 0),(8,aI 1 0),(10,aI 2 0),(12,aI 3 0),(13,aA.A d),(14,R e)])
  (λe=>[gq b,.cells 33 lw,jS i,gq (i,(d.take e).foldl e4 b.2.1,b.2.2)]) (λe=>c d-e) 0 a ?_ a ?_ a u ?_
 .simp
 .exact FG
 intro e Q;by_cases t:e<c d
 .have E:d.getD e aA.D=d.getD e 0:=rfl;have x:=yc e4 b.2.1 t;have I:=qk b.2.1 (d.take e);rw[List.length_take]at I;generalize(d.take e).foldl e4 b.2.1=j5 at *;have D:=aA.l j5;refine be j [58] a ?_ (g.aw (e+1) a ?_ ?_ t u)
  .simp[-aj,E,t,D,aA.T,a8];omega
  .simp
  rw[x];simp[-aj,E,D]
 obtain rfl:e=c d:=u;rw[cY];refine be j [-58] a C (g.az ?_);exact cU j a A zK
def I9(d)(b:nT d)(z)(r:z<=c d):Z p 149 [ax (iz d),R z] [] (R (fD (d.take z))) []:=by
 refine Z.I func149 rfl λs=>?_;have x:=b.cx;refine aO a A (g.loop (λe=>e<=z) (λe:Nat=>[(0,ax (iz (d.drop e))),(1,R ((z:Int)-e)),(5,R (fD (d.take e)))]) (λ_=>[]) (λe=>z-e) 0 u (.cons a (eH a (by simp[fD]))) a ?_);intro e m;by_cases k:e<z
 .have h:=My (d:=d) (e:=e) u;have t:=vW b.aL b.cx e;have q:=vW b.aL b.cx (e+1);have w:=b.aL _ (mw (e:=e) (d:=d) u (0,0));rw[If (e:=e) u]
  generalize d.getD e (0,0)=o at *;generalize j:d.drop (e+1)=i;cases i<;>(
   refine aO a A (g.aK (tu a underlying187 a a a) a a ?_);refine a5 [8,11] a ?_ ⟨e+1,k,by omega,.cons (by rw[j];rfl) (eH a ?_),a⟩
   .simp only[T,a8,bw,a',a7];exact Fs
   .simp only[T.Z,T,a',a7];and_intros<;>omega)
 obtain rfl:e=z:=u;generalize d.drop e=i;cases i with
 |nil=>
  refine aO a A (g.aK (rQ a underlying187 a a a) a a ?_);refine a5 [-8,-11] a C (g.bs a a ?_);exact wt
 |cons o i=>
  refine aO a A (g.aK (tu a underlying187 a a a) a a ?_);refine a5 [8,-11] a C (g.bs a a ?_);exact wt
def Wc(d)(i:c d<=4000000):Z p 150 [a3.A d] [] (R (if f' d=l then fD d else -1)) []:=by
 refine Z.I func150 rfl λj=>?_;have h:=IL (p:=p) d i;cases b2:f' d with
 |false=>
  have b:ba p [(107,n2)]:=.cons tL .nil;refine be b [5] a FC (g.aq a)
 |true=>
  have e:=I9 (p:=p) d (.of b2) (c d) (bA _);rw[cY]at e;have b:ba p [(107,n2),(148,e9 [a3.A d] (ax (iz d))),(149,e9 [ax (iz d),R (c d)] (R (fD d)))]:=.cons tL (.cons (fu h) (.cons (fu e) .nil));generalize fD d=k at *;cases d<;>(
   refine be b [-5] a ?_ (g.aq a);simp only[T,b2,a3.l,a3.T,gw,a',a7]
   and_intros<;>rfl)
def W'(z)(d)(i:c d<=4000000):Z p 116 [qc z,a3.A d] [] (py (gC z d)) []:=by
 refine Z.bG func116 rfl rfl rfl λt=>?_;have m:=IL (p:=p) d i;have h:=Wc (p:=p) d i;have e:ba p [(107,n2)]:=.cons tL .nil;unfold gC;cases b2:f' d with
 |false=>
  rw[bm C];exact be e [9,16,21] a FC sa
 |true=>
 have r:=nT.of b2;by_cases j:z.1<=c d
 rotate_left
 .rw[bm (by simp[j])];exact be e [-9,16,21] a PX sa
 by_cases N:0<=z.1
 rotate_left
 .rw[bm pI];exact be e [-9,-16,21] a PV sa
 rw[bo ⟨rfl,j,N⟩];have q:(z.1.toNat:Int)=z.1:=q_ N;have k:=I9 (p:=p) d r z.1.toNat u;rw[bo b2]at h;rw[q]at k;have iw:ba p [(107,n2),(148,e9 [a3.A d] (ax (iz d))),(149,e9 [ax (iz d),R z.1] (R (fD (d.take z.1.toNat)))),(150,e9 [a3.A d] (R (fD d)))]:=.cons tL (.cons (fu m) (.cons (fu k) (.cons (fu h) .nil)));generalize fD d=s at *;generalize fD (d.take z.1.toNat)=o at *;by_cases b:o=z.2
 .rw[bo b];cases d<;>(
   refine be iw [-9,-16,-21,-23] a ?_ ?_
   .simp only[T,b2,b,a3.l,a3.T,gw,bw,dp,iI,a',a7];exact qS
   refine g.freeze 4 1 a a a ?_;exact g.cr bc [] a C a a a eW)
 .rw[bm b];cases d<;>(
   refine be iw [-9,-16,-21,23] a ?_ ?_
   .simp only[T,b2,a3.l,a3.T,gw,bw,dp,j',a',a7];and_intros<;>first|exact b|rfl|omega
   refine g.freeze 4 1 a a a ?_;exact g.cr bc [] a C a a a eW)
def rn(a:Int):Bool:=decide (1<=a/\a<=2)
def T0(j):Z p 41 [R j] [] (bh (rn j)) []:=by
 refine Z.I func41 rfl λb=>?_;unfold rn;by_cases s:j=1
 .refine a5 [5] a g6 (g.aq a ?_);simp[s]
 refine a5 [-5] a g6 (g.aq a ?_);simp only[T,a7];rw[oV];simp only[gL,bw];omega
abbrev Bo:bK:=dk c8 (λa=>bh (rn a)) λ_=>[]
def ME:bL p 41 Bo:=.a7 λa _=>T0 a
def JT:cm:=⟨1,8,v,TypeDesc.map 3 4,[.val (.map n)],[]⟩
def Yz:eL V 114 JT:=⟨underlying114,rfl,⟨Tryz.t114,_,lV type114,rfl,rfl,rfl,rfl,⟨#[],rfl⟩,rfl⟩,λb=>absurd a b⟩
def dc:bZ V ((114,JT)::eN):=bZ.cons Yz bc
abbrev sN(a:X):x:=cM a
abbrev jh(a:X)(b:m Int):ap:=.J (jb a b)
def Io(r)(e d):Z p 69 [sN r,aA.A d] [jh r e] (.Q []) [jh r (e++d)]:=by
 refine Z.I func69 rfl λh=>?_;have m:=h.A 1 a;refine g.aO b5 dc ba.nil [] 100 a A (g.aC 1 (λb=>b<=c d) (λb:Nat=>[(0,sN r),(6,aA.A d),(7,R (c d)),(8,R b)]) (λb=>[jh r (e++d.take b)]) (λb=>c d-b) 0 a C a C a u ?_);intro b k;by_cases j:b<c d
 .have o:d.getD (b:Int).toNat aA.D=d.getD b 0:=dB;refine g.aO b5 dc ba.nil [9] 100 a bQ (g.aK (a0.jP a underlying114 underlying3 (i:=0) a a a a) a a ?_);refine g.aO b5 dc ba.nil [] 100 a bG (g.aw (b+1) a C ?_ j u);simp_all
 obtain rfl:b=c d:=u;rw[cY];refine g.aO b5 dc ba.nil [-9] 100 a C (g.az ?_);exact bY.di [0] a C a a a h7
def Wy(b)(d)(j):Z p 72 [R j,ax (.O [.val b])] [jh b d] (bh (!d.contains j)) [jh b d]:=by refine Z.I func72 rfl λh=>?_;refine g.aO b5 dc ba.nil [] 100 a A ?_;refine g.aK (a0.jN a underlying114 underlying3 (λe=>Tryz.zeroValue4 e) (i:=0) a a a) a a ?_;exact g.aO b5 dc ba.nil [] 100 a A (g.aJ [0] a C h7)
def Vv(b)(j):Z p 74 [fH b,ax (.O [.int .i64 j])] [] (bh (b.1==j)) []:=by refine Z.I func74 rfl λd=>?_;exact aO a A (g.aq a)
def Cg(b)(d:c b.2<=4000000)(e:c (d' b.2)<=4000000):Z p 71 [iT b] [] (aA.A (gf b)) []:=by refine Z.I func71 rfl λh=>?_;refine aO a A ?_;refine g.aA (Xl b d e) [] a ?_;exact aO a A (g.aq a)
def oM(g:X)(h:Nat)(b:Array MapEntry)(e:Nat):X->(Nat->Option Obj)->Prop:=λi a=>i=g/\∀d,a d=if d=h then f (.map b e)else n
def iY(a:MapEntry):Int:=match a.key with|.int _ b=>b|_=>0
structure oN(N:X)(d:m Int)(a9:Nat)(U:Array MapEntry)(r:Nat):Prop where
 cp:N=.map (f a9)
 a5:MapKept.Stamped U r
 cv:∀au∈U.toList,au.key=.int .i64 (iY au)/\a8 .i64 (iY au)/\au.val=.bool l
 mem:∀j,j∈d↔j∈U.toList.map iY
def jb.j8{N}{d}(s:jb N d aa k5):∃b:{b:Nat×Array MapEntry×Nat // oN N d b.1 b.2.1 b.2.2},oM N b.1.1 b.1.2.1 b.1.2.2 aa k5:=by
 obtain⟨j,x,g,p,k,w,t,u,o⟩:=s;have i:∀a∈g.toList,a.key=.int .i64 (iY a)/\a8 .i64 (iY a)/\a.val=.bool l:=λa e=>by
  obtain⟨m,k1,q,r⟩:=u a e;have:iY a=m:=by simp[iY,k1]
  rw[this];exact⟨k1,r,q⟩
 refine⟨⟨(x,g,p),k,t,i,λm=>?_⟩,j,w⟩;rw[o,hq];constructor
 .rintro⟨a,e,h⟩;exact⟨a,e,by simp[iY,h]⟩
 rintro⟨a,e,rfl⟩;exact⟨a,e,(i a e).1⟩
def oN.cS{N}{d}{a9}{U}{r}(e:oN N d a9 U r)(g:oM N a9 U r aa k5):jb N d aa k5:=by
 refine⟨g.1,a9,U,r,e.cp,g.2,e.a5,λb a=>⟨_,(e.cv b a).1,(e.cv b a).2.2,(e.cv b a).2.1⟩,λi=>?_⟩;rw[e.mem,hq];constructor
 .rintro⟨b,a,rfl⟩;exact⟨b,a,(e.cv b a).1⟩
 rintro⟨b,a,h⟩;exact⟨b,a,by simp[iY,h]⟩
def uh(a:Array MapEntry)(pre:m Int)(b:Array Nat):Prop:=pre.Nodup/\(∀e∈pre,e∈a.toList.map iY)/\∀d∈a.toList,d.born∈b↔iY d∈pre
section
variable {N:X}{d:m Int}{a9 r:Nat}{U:Array MapEntry}(bi:oN N d a9 U r)
include bi
def oN.ax:(U.toList.map iY).Nodup:=by
 have b:U.toList.map (·.key)=(U.toList.map iY).map (Value.int .i64):=by rw[ux];exact p0 λa d=>(bi.cv a d).1
 have:=bi.a5.2.2;rw[b]at this;rw[List.Nodup,rb]at this;exact this.imp λb a=>b (eD (Value.int .i64) a)
def oN.step{pre}{dy}(i:uh U pre dy){b}(g:b∈U.toList)(j:b.born∉dy):uh U (pre++[iY b]) (dy.push b.born)/\iY b∉pre:=by
 have k:iY b∉pre:=λm=>j ((i.2.2 b g).2 m);refine⟨⟨by grind[uh],λo e=>?_,λh a=>?_⟩,k⟩
 .rcases fy.1 e with e|e
  .exact i.2.1 o e
  rw[gJ.1 e];exact List.mem_map_of_mem g
 simp only[Array.mem_push,fy,gJ,i.2.2 h a];refine or_congr_right ⟨λd=>?_,λd=>?_⟩
 .rw[Do bi.a5.2.1 a g d]
 rw[Do bi.ax a g d]
def oN.over{pre}{dy}(g:uh U pre dy)(i:∀e∈U.toList,e.born∈dy):pre.Nodup/\∀b,b∈pre↔b∈d:=by refine⟨g.1,λb=>⟨λa=>(bi.mem b).2 (g.2.1 b a),λa=>?_⟩⟩;obtain⟨e,h,rfl⟩:=hq.1 ((bi.mem b).1 a);exact(g.2.2 e h).1 (i e h)
end
def x_{b}:∀a,a<1->(0::b)[a]?=f a:=λa d=>by simp_all
abbrev xq(a:X):K:=.fn (.func 173) [] [.O [.val a]]
def VE(N):Z p 127 [sN N] [] (ax (xq N)) []:=by refine Z.I func127 rfl λb=>?_;refine g.aO b5 dc ba.nil [901] 100 a A ?_;refine g.freeze 1 0 a a a ?_;exact g.aO b5 dc ba.nil [] 100 a A (g.aq a)
set_option maxRecDepth 20000 in
def VF{ac:Type}{N}{d}{a9}{U}{r}(k:oN N d a9 U r){h}{e}{t}(u w:ac->ap)(y:m Int->ac->Prop)(o:ac)(S:y [] o)(aH:∀j,u j≠.bl/\w j≠.bl)(i:∀pre b j M,b∉pre->pre.Nodup->(∀bE∈pre++[b],bE∈d)->y pre j->iF (ι:={q:ac // y (pre++[b]) q}) p 3 [R b] [.J (oM N a9 U r),u j,w j,.loop h e t,.J M] l (λq=>[.J (oM N a9 U r),u q.1,w q.1,.loop h e t,.J M])):
  bl (ι:={D:ac×m Int×Array Nat // (D.2.1.Nodup/\∀J,J∈D.2.1↔J∈d)/\y D.2.1 D.1}) p 173 [.n (.R (.aV 3)),ax (.O [.val N])] [.J (oM N a9 U r),u o,w o,.loop h e t] (λ_=>.Q []) (λz=>[.J (oM N a9 U r),u z.1.1,w z.1.1,.loop h e t,.J (kX a9 r z.1.2.2)]):=by
 obtain rfl:=k.cp;have F:ue (oM (.map (f a9)) a9 U r) a9 U r:=λY V W=>by rw[W.2];simp
 refine bl.bP func173 rfl rfl rfl (g.aR ?_);refine g.aO b5 dc ba.nil [] 100 a A (g.range (qy:=0) (a9:=a9) a a a a underlying114 (bX.j' a) a F ?_);refine g.aO b5 dc ba.nil [] 100 a A ?_;show b0 p _ (.loop _) _ _ _;refine b0.loop (br:=ac×m Int×Array Nat) (λb=>uh U b.2.1 b.2.2/\y b.2.1 b.1) (λ_=>[(0,.n (.R (.aV 3))),(5,.n (.R (.aV 4)))]) (λb=>[.J (oM (.map (f a9)) a9 U r),u b.1,w b.1,.loop h e t,.J (kX a9 r b.2.2)]) (λb=>c U.toList-c b.2.1) (o,[],#[]) ⟨⟨List.nodup_nil,by simp,by simp⟩,S⟩ (eH a C) a ?_;rintro⟨j,pre,dy⟩ ⟨I,Q⟩;refine g.aR ?_;refine g.aO b5 dc ba.nil [] 100 a A (g.next (qy:=0) (kl:=4) (a9:=a9) (r:=r) (dy:=dy) (U:=U) a a a a a a a a F k.a5 (λau s=>⟨by rw[(k.cv au s).1];rfl,by rw[(k.cv au s).2.2];rfl⟩) λz=>?_);cases z with
 |over E=>
  refine g.aO b5 dc ba.nil [-7] 100 a C (g.fI a a ?_);exact⟨⟨(j,pre,dy),k.over I E,Q⟩,.inr a,a,qC (bT:=.J _) C (qC (aH j).1 (qC (aH j).2 a)),[],.Q [],[],a,a,a,A⟩
 |R au s G=>
  refine g.aO b5 dc ba.nil [7] 100 a C ?_;obtain⟨k1,O,K⟩:=k.cv au s;obtain⟨B,T⟩:=k.step I s G;refine g.entry (qy:=0) (kl:=4) (a9:=a9) (r:=r) (dy:=dy) (U:=U) (au:=au) (bE:=.Q [.R (.c (.int .i64 (iY au))),.R .any]) a a a a a a a F k.a5 s (λX=>⟨[au.key,au.val],a,?_,by rw[K];rfl,A⟩) ?_
  .rw[k1];exact Rd.int O
  refine g.aO b5 dc ba.nil [] 100 a A (g.yield (i pre (iY au) j _ T I.1 (λbE x=>(k.mem bE).2 (B.2.1 bE x)) Q) a a a a a a λq=>?_);refine g.aO b5 dc ba.nil [-13] 100 a C ⟨(q.1,pre++[iY au],dy.push au.born),⟨B,q.2⟩,?_,eH a C,a⟩;have:=yF _ _ B.1 B.2.1;simp at this⊢;omega
abbrev Ak(d:m Int):Type:={b:m Int // b.Nodup/\∀a,a∈b↔a∈d}
set_option maxRecDepth 20000 in
def TJ(N)(d)(J:c d<=4000000):
  bl (ι:=Ak d) p 211 [ax (.A l 0 0 λ_=>[]),ax (xq N)] [jh N d] (λb=>cD 1 (.A (c b.1) 1 0 (c b.1))) (λb=>[jh N d,jg (c b.1) b.1]):=by
 refine bl.e5 func211 rfl rfl rfl λI=>?_;refine dd.seq (b0.bw (g.aR ?_));refine aO a A (dd.seq (dd.seq (b0.bw (g.aR ?_))));refine g.gC 0 (λb:{b:Nat×Array MapEntry×Nat // oN N d b.1 b.2.1 b.2.2}=>oM N b.1.1 b.1.2.1 b.1.2.2) a (λB e h=>jb.j8 h) ?_;rintro⟨⟨K,w,E⟩,b⟩;refine g.ej 1 0 3 1 (aA.fn []) a a ?_;refine aO a A (dd.block ?_);refine dd.rangeFunc (o0:=e' [.O [.val N]]) (bX.callee a) (VF (ac:=m Int) b (λo=>.cells 31 [.N 2 (.A (c o) 1 0 (c o))]) (λo=>jg (c o) o) (λpre o=>o=pre) [] a (λo=>⟨by simp,by simp⟩) ?_) (λr=>⟨a,by simp⟩) λr=>⟨.normal,a,?_⟩
 .rintro pre i o q j z s rfl;have F:c o+1<=4000000:=by have:=yF (o++[i]) d M s;simp at this;omega
  refine iF.intro (t:=n) a a a a (g.aR ?_);refine aO a A ⟨a,a,g.aR ?_⟩;refine aO a (by simp[a8,show d9.bytes=8 from a];omega) ?_;have k:=aA.aW o i;refine⟨a,a,⟨o++[i],a⟩,jM a ?_⟩;simp only[T.Z,T,df,gh,a',a7];and_intros<;>first|exact k|rfl|exact bs.same
 show dd p _ _ _ _ _;obtain⟨⟨o,pre,y⟩,u,x⟩:=r;obtain rfl:o=pre:=x;refine b0.bw (g.aR ?_);refine g.gC (ι:=Unit) 0 (λ_=>jb N d) a (λB e h=>⟨(),b.cS h⟩) λ_=>?_;refine aO a A (g.bU (λk C D b=>⟨⟨o,u⟩,b⟩) (g.aJ [0,2] a ?_ x_));simp
def Ua(N)(d)(e:c d<=4000000):
  bl (ι:=Ak d) p 172 [ax (xq N)] [jh N d] (λb=>cD 1 (.A (c b.1) 1 0 (c b.1))) (λb=>[jh N d,jg (c b.1) b.1]):=by refine bl.ca func172 rfl rfl rfl λh=>?_;refine aO a A (g.bH (TJ N d e) [0] a a a a C a a a bk a bk a λb=>?_);refine aO a A (g.bu b (g.aJ [0,1] a ?_ x_));simp
def abg{d aL}(j:aL.Pairwise (· < ·))(m:∀g,g∈aL↔g∈d)(a:Ak d):jU a.1=aL:=by
 have h:(jU a.1).Pairwise λb e=>b<=e:=(List.pairwise_mergeSort (λb e o h i=>by grind) (λb e=>by grind) a.1).imp λk=>by grind
 have i:(jU a.1).Nodup:=(zg _).nodup_iff.2 a.2.1;refine AV ?_ j λg=>by rw[(zg _).mem_iff,a.2.2,m]
 exact(h.and i).imp λk=>by omega
def Xt(N)(b aL:m Int)(o:c b<=4000000)(q:aL.Pairwise (· < ·))(k:∀e,e∈aL↔e∈b):
  Z p 126 [ax (xq N)] [jh N b] (cD 1 (.A (c aL) 1 0 (c aL))) [jh N b,jg (c aL) aL]:=by
 refine Z.I func126 rfl λs=>?_;refine aO a A (g.aX (Ua N b o) [0] a bk λd=>?_);have j:=abg q k d;have t:=yF d.1 b d.2.1 λe r=>(d.2.2 e).1 r;have i:=Ck (p:=p) d.1 u;have h:c d.1=c aL:=by rw[<-j,qK]
 rw[j,h]at i;rw[h];refine aO a A (g.aA i [1] a (aO a A (g.aJ [0,1] a ?_ x_)));simp
def V9(N)(d aL)(h:c d<=4000000)(e:aL.Pairwise (· < ·))(i:∀b,b∈aL↔b∈d):
  Z p 88 [sN N] [jh N d] (aA.A aL) [jh N d]:=by
 have j:Z p 88 [sN N] [jh N d] (cD 1 (.A (c aL) 1 0 (c aL))) ([jh N d]++[jg (c aL) aL]):=by refine Z.I func88 rfl λk=>?_;refine g.aO b5 dc ba.nil [] 100 a A (g.aA (VE N) [] a (g.aO b5 dc ba.nil [] 100 a A (g.aA (Xt N d aL h e i) [0] a (g.aO b5 dc ba.nil [] 100 a A (g.aJ [0,1] a ?_ x_)))));simp
 exact Z.bL j a C a (bA _)
abbrev jF(b:Nat)(a:m Int):ap:=.p 3 1 b (aA.fn a)
end
section
variable {p:ah V}
abbrev RO:={a:m Int // c a<=5}
def VB(z)(e:Nat->Int)(w:Bytes e)(h:Nat)(q:h<=500000)(j:z<=1048576):
  bl (ι:=RO) p 29 [aI 0 0] [eY z e h] (λx=>aA.A x.1) (λ_=>[eY z e (h+5:Nat)]):=by
 refine bl.ca func29 rfl rfl rfl λF=>?_;refine a5 [902] a A (g.bB 3 3 1 a a ?_);refine aO a A (g.aC 2 (λb:Nat×m Int=>1<=b.1/\b.1<=6/\c b.2+1<=b.1) (λb=>[(0,aI 0 0),(3,.n (.R (.w 1 1 (c b.2) (aA.fn b.2)))),(4,R b.1)]) (λb=>[eY z e (h+(b.1-1):Nat),.w 3 1 (c b.2) (aA.fn b.2)]) (λb=>6-b.1) (1,[]) a C a C a ⟨by decide,by decide,by decide⟩ ?_);rintro⟨d,i⟩ ⟨s,o,t⟩;simp only at s o t;by_cases E:d<=5
 .refine a5 [7] a bu (g.aX (gz z e w (h+(d-1)) 2 u j u) [0] a bk ?_);rintro⟨y,B,D⟩;by_cases k:y=0
  .have r:=aA.aW i (d:Int);refine a5 [12] a ?_ (g.aw (d+1,i++[(d:Int)]) a ?_ ?_ ⟨by omega,by omega,by grind⟩ u)
   .simp only[T,k,a8,show d9.bytes=8 from a,gi,a',a7];exact fv
   .exact PY
   exact PY
  refine a5 [-12] a bG (g.aw (d+1,i) a C ?_ ⟨by omega,by omega,by exact bu⟩ u);exact bu
 obtain rfl:d=6:=u;refine a5 [-7] a C (g.az ?_);refine aO a A (g.bu ⟨i,by omega⟩ (g.aJ [0] a ?_ kK));simp
def zB:m bC:=[[122,122],[98,46],[104,101,108,108,111,46,46,46]]
def adH:bs 3 (λa=>([[.V [122,122]],[.V [98,46]],[.V [104,101,108,108,111,46,46,46]]]:m (m K)).getD a []) (bS.fn zB):=by intro a b;have:a=0∨a=1∨a=2:=u;rcases this with rfl|rfl|rfl<;>rfl
set_option maxRecDepth 20000 in
def VW(z)(b:Nat->Int)(h:Bytes b)(d:Nat)(m:d<=500000)(e:z<=1048576):
  bl (ι:=dR) p 28 [aI 0 0] [eY z b d] (λo=>eG o) (λ_=>[eY z b (d+4:Nat)]):=by
 refine bl.bG bc func28 rfl rfl rfl λr=>?_;refine aO a A (g.aX (gz z b h d 5 u e u) [0] a bk ?_);rintro⟨i,_⟩;refine aO a A (g.aX (gz z b h (d+1) 5 u e u) [0] a bk ?_);rintro⟨k,_⟩;refine aO a A (g.aX (gz z b h (d+1+1) 3 u e u) [0] a bk ?_);rintro⟨j,_⟩;refine aO a A (g.bH (WA z b h (d+1+1+1) u e zB ca).tocH [0] a a a a ?_ a a a bk a bk a ?_)
 .simp only[T.Z,T,a',a7];exact⟨a,adH⟩
 rintro -;generalize zB.getD (qF z b (d+1+1+1) (c zB)).toNat []=q;refine aO a A (g.bc (i,k,j,q) [0] ?_ ha);simp
end
structure pQ(Q:dM):Prop extends nW Q.1 where
 fO:c Q.2.1<=4000000
 fL:c Q.2.2<=4000000
def F'{d}(a:e<c d):c (d' (d.getD e (0,[])).2)<=c (hr d):=by have:=F_ d (e+1);grind[AK]
def ab9(h)(a):hi h a=(hY h a.1&&(az (c a.1.2.1)).all (λb=>!(gf (a.1.2.1.getD b (0,[]))).any λd=>!a.2.1.contains d)&&(az (c a.2.2)).all (nw a.1.1 a.2.2)):=by rw[hi,Zv];cases hY h a.1<;>simp
def XI(h)(i)(t:pQ i):Z (ah.aF V) 40 [R h,gy i] [] (bh (hi h i)) []:=by
 refine Z.I func40 rfl λU=>?_;have k:ba (ah.aF V) [(68,xv)]:=.cons Et .nil;have bE:=a2.l i.1.1;have aa:=bj.l i.1.2.1;have eI:=a3.l i.1.2.2;have a9:=t.tonW;rw[ab9];cases b2:hY h i.1
 .exact g.aO b5 dc k [14] 100 a Rq (g.aq a)
 refine g.aO b5 dc k [-14] 100 a Rq ?_;rw[fR];refine g.h1 a a a λp=>?_;refine g.aO b5 dc k [] 100 a A (g.aA (Io p [] i.2.1) [1] a ?_);rw[pW];refine g.aO b5 dc k [905] 100 a A (g.freeze 5 2 a a a ?_);refine g.aO b5 dc k [] 100 a A (g.aC 3 (λe=>e<=c i.1.2.1/\∀m,m<e->(!(gf (i.1.2.1.getD m (0,[]))).any λj=>!i.2.1.contains j)=l) (λe:Nat=>[(0,R h),(3,aI 0 0),(5,ax (.O [.val p])),(22,bj.A i.1.2.1),(23,R (c i.1.2.1)),(24,R e)]) (λ_=>[gq i,jh p i.2.1,.M]) (λe=>c i.1.2.1-e) 0 a C a C a ⟨by omega,by omega⟩ ?_);have H:=t.fe;rintro e ⟨w,r⟩;by_cases s:e<c i.1.2.1
 .have b:i.1.2.1.getD (e:Int).toNat bj.D=i.1.2.1.getD e (0,[]):=M;have D:=t.dS _ (oc (N:=(0,[])) s);have O:=F' s;have I:=t.ez;have L:=lF (S:=λm=>!(gf (i.1.2.1.getD m (0,[]))).any λj=>!i.2.1.contains j) s;have z:=jf (S:=λm=>!(gf (i.1.2.1.getD m (0,[]))).any λj=>!i.2.1.contains j) (e:=e);generalize i.1.2.1.getD e (0,[])=o at *;refine g.aO b5 dc k [25] 100 a bQ ?_;rw[b];refine g.aA (Cg o D.1 u) [] a (g.aO b5 dc k [] 100 a A (g.aA (UW (gf o) 72 [.val p] (jb p i.2.1) (λj=>!i.2.1.contains j) λj _=>Wy p i.2.1 j) [1] a ?_));cases G:(gf o).any λj=>!i.2.1.contains j with
  |true=>
   refine g.aO b5 dc k [] 100 a A (g.aT (bY.zero a ?_));exact bG
  |false=>
   refine g.aO b5 dc k [] 100 a ?_ (g.aw (e+1) a C C ⟨s,z r M⟩ u);exact bG
 obtain rfl:e=c i.1.2.1:=u;rw[fZ.2 r,fR];refine g.aO b5 dc k [-25] 100 a C (g.az ?_);refine g.aO b5 dc k [] 100 a A ?_;have E:=t.fL;refine g.aC 3 (λe=>e<=c i.2.2/\∀m,m<e->nw i.1.1 i.2.2 m=l) (λe:Nat=>[(0,R h),(3,aI 0 0),(34,aA.A i.2.2),(35,R (c i.2.2)),(36,R e)]) (λ_=>[gq i,jh p i.2.1,.M]) (λe=>c i.2.2-e) 0 a C a C a ⟨by omega,by omega⟩ ?_;rintro e ⟨w,r⟩;by_cases s:e<c i.2.2
 .have b:i.2.2.getD (e:Int).toNat aA.D=i.2.2.getD e 0:=M;have B:i.2.2.getD (e-1) aA.D=i.2.2.getD (e-1) 0:=rfl;have x:nw i.1.1 i.2.2 e=((i.1.1.any λS=>S.1==i.2.2.getD e 0)&&kb (λo=>o) 0 i.2.2 e):=rfl;have F:=p4 (ak:=λo:Int=>o) (N:=0) (d:=i.2.2) (e:=e);generalize i.2.2.getD e 0=j at *;generalize i.2.2.getD (e-1) 0=y at *;have iw:ba (ah.aF V) [(73,e9 [a2.A i.1.1,ax (.fn (.func 74) [] [.O [.int .i64 j]])] (bh (i.1.1.any λS=>S.1==j)))]:=.cons (fu (UX i.1.1 74 [.int .i64 j] (λS=>S.1==j) λS _=>Vv S j)) .nil;refine g.aO b5 dc k [37,914] 100 a bQ ?_;rw[b];refine g.freeze 9 3 a a a ?_;have fin:i.1.1.any (λS=>S.1==j)=l->kb (λo=>o) 0 i.2.2 e=l->nw i.1.1 i.2.2 e=l:=λG J=>by grind
  by_cases K:e=0
  .subst K;cases q:i.1.1.any (λS=>S.1==j)with
   |true=>
    refine g.aO b5 dc iw [-43,-60] 100 a ?_ (g.aw 1 a C C ⟨s,jf r (fin q a)⟩ u);simp[a8,q,c1.A]
   |false=>
    refine g.aO b5 dc iw [-43,60] 100 a bG (g.aT (bY.zero a ?_));exact jZ
  by_cases Q:y<j
  rotate_left
  .refine g.aO b5 dc iw [43,51,60] 100 a ?_ (g.aT (bY.zero a ?_))
   .simp[-aj,B,a8];omega
   exact jZ
  cases q:i.1.1.any (λS=>S.1==j)with
  |true=>
   refine g.aO b5 dc iw [43,-51,-60] 100 a ?_ (g.aw (e+1) a C C ⟨s,jf r (fin q M)⟩ u);exact Oz
  |false=>
   refine g.aO b5 dc iw [43,-51,60] 100 a Oz (g.aT (bY.zero a ?_));exact jZ
 obtain rfl:e=c i.2.2:=u;rw[fZ.2 r];refine g.aO b5 dc k [-37] 100 a C (g.az ?_);exact g.aO b5 dc k [] 100 a A (g.aq a)
abbrev xw:bK:=er c8 (Am Cs) (λb a=>bh (hi b a)) λ_ a=>[pQ a]
def Eu:bL (ah.aF V) 40 xw:=.bh λb d a=>XI b d a
section
variable {p:ah V}
inductive RN (ι:Type)
 |cx
 |iq (bi:ι)
 |i' (bi:ι)
 |done (bi:ι) (aa:X)
abbrev DQ{k1}(b:Nat)(a:Nat->Int)(e:Int)(g:Bool):RN (FN k1)->ap
 |.cx=>match g with
  |false=>eY b a e
  |true=>eY b a (e+1)
 |.iq d|.i' d|.done d _=>eY b a d.1.2
section
variable {i:Nat->Int}{bx:Int}{k1:Nat}{Q:dM}{S:FN k1->Bool}
end
end
abbrev adF(a:fx):ap:=.cells 38 (ii a)
def adK(a):jX a=(hi a.1 a.2.1&&decide (c a.2.2.2.1=2)&&decide (c a.2.2.2.2=2)&&(az 2).all (v_ a)):=by unfold jX;cases hi a.1 a.2.1<;>cases decide (c a.2.2.2.1=2)<;>cases decide (c a.2.2.2.2=2)<;>simp
def X5(b)(z:pQ b.2.1):Z (ah.aF V) 20 [g2 b] [] (bh (jX b)) []:=by
 refine Z.I func20 rfl λE=>?_;have i:ba (ah.aF V) [(40,xw)]:=.cons Eu .nil;have B:=a2.l b.2.1.1.1;have j:=bj.l b.2.1.1.2.1;have h:=a3.l b.2.1.1.2.2;have d:=aA.l b.2.1.2.1;have ak:=aA.l b.2.1.2.2;rw[adK];cases b2:hi b.1 b.2.1
 .exact g.aO b5 dc i [11,17,22] 100 a (by simp[b2,B,j,h,d,ak,a2.T,bj.T,a3.T,aA.T,z]) (g.aq a)
 by_cases p:c b.2.2.2.1=2
 rotate_left
 .exact g.aO b5 dc i [-11,17,22] 100 a Ff (g.aq a (by simp[oS p]))
 by_cases o:c b.2.2.2.2=2
 rotate_left
 .exact g.aO b5 dc i [-11,-17,22] 100 a Ff (g.aq a (by simp[oS o]))
 refine g.aO b5 dc i [-11,-17,-22] 100 a Ff ?_;rw[fQ p,fQ o,fR,fR,fR];refine g.aC 1 (λe=>e<=2/\∀m,m<e->v_ b m=l) (λe:Nat=>[(1,aI 0 0),(24,a3.A b.2.2.2.1),(25,R (c b.2.2.2.1)),(26,R e)]) (λ_=>[adF b]) (λe=>2-e) 0 a C a C a ⟨by omega,by omega⟩ ?_;rintro e ⟨y,k⟩;by_cases s:e<2
 .have N:b.2.2.2.1.getD e a3.D=qt b e:=rfl;have r:b.2.2.2.2.getD e aA.D=rC b e:=rfl;have D:v_ b e=(decide (0<=(qt b e).1/\(qt b e).1<=9)&&decide (0<=(qt b e).2)&&decide (0<=rC b e/\rC b e<=2)):=rfl;by_cases q:0<=(qt b e).1
  rotate_left
  .refine g.aO b5 dc i [27,34,39,44,52,59] 100 a Fq (g.aT (bY.zero a ?_));exact jZ
  by_cases t:(qt b e).1<=9
  rotate_left
  .refine g.aO b5 dc i [27,-34,39,44,52,59] 100 a Fq (g.aT (bY.zero a ?_));exact jZ
  by_cases w:0<=(qt b e).2
  rotate_left
  .refine g.aO b5 dc i [27,-34,-39,44,52,59] 100 a Fq (g.aT (bY.zero a ?_));exact jZ
  by_cases x:0<=rC b e
  rotate_left
  .refine g.aO b5 dc i [27,-34,-39,-44,52,59] 100 a Q8 (g.aT (bY.zero a ?_));exact jZ
  by_cases F:rC b e<=2
  rotate_left
  .refine g.aO b5 dc i [27,-34,-39,-44,-52,59] 100 a Q8 (g.aT (bY.zero a ?_));exact jZ
  refine g.aO b5 dc i [27,-34,-39,-44,-52,-59] 100 a ?_ (g.aw (e+1) a C C ⟨s,jf k M⟩ u);simp[-aj,N,r,a8];omega
 obtain rfl:e=2:=u;rw[fZ.2 k];refine g.aO b5 dc i [-27] 100 a bQ (g.az ?_);exact g.aO b5 dc i [] 100 a A (g.aq a)
section
variable {p:ah V}[p.bZ]
abbrev ej:=Int×Int×m c7×dR×m Int
abbrev Il(a:ej):m O:=[.c (.int .i64 a.1),.c (.int .i64 a.2.1),cL bB a.2.2.1,.c (.int .i64 a.2.2.2.1.1),.c (.int .i64 a.2.2.2.1.2.1),.c (.int .i64 a.2.2.2.1.2.2.1),.c (.V a.2.2.2.1.2.2.2),cL aA a.2.2.2.2]
abbrev nb(a:ej):x:=.n (.agg (Il a))
abbrev ad7:m O:=[.c (.int .i64 0),.c (.int .i64 0),cF,.c (.int .i64 0),.c (.int .i64 0),.c (.int .i64 0),.c (.V []),cF]
abbrev ad8:ap:=.cells 45 ad7
abbrev lv:dR:=(0,0,0,[])
structure RI(h:Nat)(bi:ej×Nat):Prop where
 dT:c bi.1.2.2.1<=7
 kn:c bi.1.2.2.2.2<=5
 hn:h<=bi.2
 g3:bi.2<=h+500
set_option maxRecDepth 20000 in
def UF(z)(b:Nat->Int)(i:Bytes b)(h)(w:h<=40000)(e:z<=1048576):
  bl (ι:={k:ej×Nat // RI h k}) p 13 [aI 0 0] [eY z b h] (λk=>nb k.1.1) (λk=>[eY z b k.1.2]):=by
 refine bl.bG bc func13 rfl rfl rfl λS=>?_;refine aO a A (g.aX (gz z b i h 9 u e u) [0] a bk ?_);rintro⟨d,E,F⟩;by_cases U:d<=3
 .apply g.cf [(0,aI 0 0),(2,aI 1 0)] [eY z b (h+1:Nat),ad8]
  .intro dw;have:d=0∨d=1∨d=2∨d=3:=u;rcases this with rfl|rfl|rfl|rfl
   .exact a5 [6,906] a C ky
   .exact a5 [-6,7,906] a C ky
   .exact a5 [-6,-7,8,906] a C ky
   exact a5 [-6,-7,-8,9,906] a C ky
  refine aO a A (g.aX (gz z b i (h+1) 2 u e u) [0] a bk ?_);rintro⟨j,m,o⟩;refine aO a wx (g.aX (XQ z b i (h+1+1) u e) [0] a bk ?_);rintro⟨D,s,M,k1,t,J,x,R⟩;simp only;refine aO a A (g.bc ⟨((1,1+j,D,lv,[]),k1),J,by simp,by grind,by grind⟩ [0] ?_ ha);simp
 by_cases N:d=4
 .subst N;refine a5 [-6,-7,-8,-9,17] a C (g.aX (gz z b i (h+1) 4 u e u) [0] a bk ?_);rintro⟨j,m,o⟩;refine aO a A (g.bc ⟨((2,j,[],lv,[]),h+1+1),by simp,by simp,by grind,by grind⟩ [0] ?_ ha);simp
 by_cases Q:d=5
 .subst Q;refine a5 [-6,-7,-8,-9,-17,22] a C (g.aX (gz z b i (h+1) 2 u e u) [0] a bk ?_);rintro⟨j,m,o⟩;by_cases r:j=0
  .refine a5 [25] a (by simp[r]) (g.bc ⟨((3,0,[],lv,[]),h+1+1),by simp,by simp,by grind,by grind⟩ [0] ?_ ha);simp
  refine a5 [-25] a (by simp[r]) (g.aX (VW z b i (h+1+1) u e) [0] a bk ?_);intro y;refine aO a A (g.bc ⟨((3,0,[],y,[]),h+1+1+4),by simp,by simp,by grind,by grind⟩ [0] ?_ ha);simp
 by_cases I:d=6
 .subst I;refine a5 [-6,-7,-8,-9,-17,-22,31] a C (g.aX (VB z b i (h+1) u e) [0] a bk ?_);rintro⟨da,B⟩;refine aO a A (g.bc ⟨((4,0,[],lv,da),h+1+5),by simp,B,by grind,by grind⟩ [0] ?_ ha);simp
 by_cases O:d=7
 .subst O;refine a5 [-6,-7,-8,-9,-17,-22,-31,36] a C (g.bc ⟨((5,0,[],lv,[]),h+1),by simp,by simp,by grind,by grind⟩ [0] ?_ ha);simp
 obtain rfl:d=8:=u;refine a5 [-6,-7,-8,-9,-17,-22,-31,-36] a C (g.aX (gz z b i (h+1) 8 u e u) [0] a bk ?_);rintro⟨j,m,o⟩;refine aO a A (g.aX (gz z b i (h+1+1) 4 u e u) [0] a bk ?_);rintro⟨q,K,nI⟩;refine aO a A (g.bc ⟨((j,q,[],lv,[]),h+1+1+1),by simp,by simp,by grind,by grind⟩ [0] ?_ ha);simp
abbrev gV(d:Int)(e:dM)(a:dR)(b:Nat):m O:=.c (.int .i64 d)::(vY e++[.c (.int .i64 a.1),.c (.int .i64 a.2.1),.c (.int .i64 a.2.2.1),.c (.V a.2.2.2),.N b (.A 2 2 0 2),.N (b+1) (.A 2 1 0 2)])
abbrev lh(da:m (Int×Int))(a:m Int):m ap:=[.p 58 2 2 (a3.fn da),.p 3 1 2 (aA.fn a)]
abbrev ys:m (Int×Int):=[(0,0),(0,0)]
abbrev x7:m Int:=[0,0]
omit [p.bZ]in
def Jf(h)(b2:cj h=l):Z p 15 [R h] [] (.Q [.agg (gV h hk lv 0),.R (.c (.bool l))]) (lh ys x7):=by
 refine Z.bb bc func15 rfl rfl rfl λj=>?_;have b:ba p [(30,rq)]:=.cons tK .nil;refine a_ b [-7,903] a l8 (g.region ?_);refine tv b [] 3 a A (g.gT bc a a a a a a ?_);refine g.gT bc a a a a a a ?_;refine b_ b a A (g.a_ [.cells 38 (gV h hk lv 1),.p 58 2 2 (a3.fn ys),.p 3 1 2 (aA.fn x7),.cells 38 (gV h hk lv 1)] a ?_ ?_)
 .simp only[T.Z,T,a',a7];and_intros<;>first|rfl|exact bs.nil|(intro i d;match i,d with|0,_=>rfl|1,_=>rfl)
 refine g.b9 () [1,2] ?_ (λk e=>absurd e C);simp
def D'(d:Int)(b:cz)(a:Int)(e:m c7):cz×Bool:=
 if hY d b=l/\(1<=a/\a<=2)/\dN e=l then(if fr d b e=l then b else ft d b a e,!fr d b e)else(([],[],[]),v)
end
section
variable {p:ah V}
def x9:∀a,a<2->([0,1]:m Nat)[a]?=f a:=λa b=>by
 match a,b with
 |0,_=>rfl
 |1,_=>rfl
def gB(a:Int)(e:cz)(d:dR)(b:m (Int×Int)×m Int):m (Int×Int)×m Int:=
 if b.2.getD (a-1).toNat 0=0 then(b.1.set (a-1).toNat (gC (b.1.getD (a-1).toNat (0,0)) (ny e d).2.2).1,b.2.set (a-1).toNat (gC (b.1.getD (a-1).toNat (0,0)) (ny e d).2.2).2)else b
def tc{bV}{b}{d}{bi}(a:c bi.1=2)(e:c bi.2=2):(gB bV b d bi).1.length=2/\(gB bV b d bi).2.length=2:=by unfold gB;split<;>simp[a,e]
abbrev Nx:ap:=.cells 58 [.c (.int .i64 0),.c (.int .i64 0)]
abbrev Dk(a:Int×Int):ap:=.cells 58 [.c (.int .i64 a.1),.c (.int .i64 a.2)]
abbrev ad9:m O:=[.c (.int .i64 0),cF,cF,cF,cF,cF,.c (.int .i64 0),.c (.int .i64 0),.c (.int .i64 0),.c (.V []),cF,cF]
abbrev fL:ap:=.cells 38 ad9
def H6(b:Int)(e:dM)(d:dR)(da:m (Int×Int))(a:m Int)(g:Int×Int)(_ h i:Bool):m ap:=
 match h,i with
 |false,_=>lh da a++[.cells 38 (gV b e d 0),fL]
 |true,v=>lh da a++[.cells 38 (gV b e d 0),fL,Nx]
 |true,l=>lh da a++[.cells 38 (gV b e d 0),fL,Dk g]
abbrev adW(i:dM)(g:dR)(a:Int)(h:Int×Int)(d:cz)(b:(Int×Int)×Int)(e:Nat):x:=
 [aI 2 10,cD 0 (.A 2 2 0 2),R a,R (a-1),cD 0 (.bt 2 2 (0+(a-1).toNat) 0),qc h,aI 2 1,aI 2 1,b9 i.1,aI 2 6,eG g,b9 d,a3.A d.2.2,py b,py b,qc b.1,R b.2,aI 4 0,.any,R b.2].getD e .any
set_option maxRecDepth 20000 in
def Cd(h)(e)(d)(b)(da)(B)(y:q5 e.1)(K:1<=b/\b<=2)(Q:c da=2)(J:c B=2):
  Z p 34 [.n (.agg (gV h e d 0)),R b] (lh da B) (.n (.agg (gV h e d 0))) (lh (gB b e.1 d (da,B)).1 (gB b e.1 d (da,B)).2):=by
 refine Z.bb bc func34 rfl rfl rfl λI=>?_;have O:=(zi (p:=p) y d).fo.aL;have aH:=(zi (p:=p) y d).dv;unfold gB;generalize ny e.1 d=i at *;have M:(b-1).toNat<2:=u;have C:(0:Nat)+(b-1).toNat<2:=u;have E:da.getD (b-1).toNat (0,0)=da.getD (0+(b-1).toNat) a3.D:=qW;have S:(da.getD (0+(b-1).toNat) a3.D)=(da.getD (0+(b-1).toNat) a3.D):=rfl;rw[E];have F:=Xa (p:=p) (da.getD (0+(b-1).toNat) a3.D) i.2.2 O;generalize gC (da.getD (0+(b-1).toNat) a3.D) i.2.2=k at *;have j:ba p [(59,e9 [b9 e.1,eG d] (b9 i)),(58,e9 [qc (da.getD (0+(b-1).toNat) a3.D),a3.A i.2.2] (py k))]:=.cons (fu aH) (.cons (fu F) .nil);have z:a8 .i64 (b-1):=nM;have cv:0<=b-1/\b-1<((2:Nat):Int):=u;have D:2=2/\0+(b-1).toNat<2:=⟨rfl,C⟩;refine be j [901] a A ?_;refine g.b_ b5 (adW e d b (da.getD (0+(b-1).toNat) a3.D) i k) (lc (H6 h e d da B k.1) 19 17 18) a a a a
  ⟨.ay,
  .ay,
  .ay,
  .cK bc j (cv:=by exact z),
  .cK bc j (cv:=by exact cv),
  .cK bc j (cv:=by exact D),
  .ay,
  .ay,
  .ay,
  .ay,
  .ay,
  .cK bc j (cv:=by exact a),
  .ay,
  .cK bc j (cv:=by exact a),
  .ay,
  .ay,
  .ay,
  cd.d_ a a a a a (λw=>by cases w<;>exact ef (bf:=[]) bc j (an:=f _) a A),
  cd.d' a a a a a (λw=>by cases w<;>exact ef (bf:=[]) bc j (an:=f _) a A),
  cd.dZ a a a a (λr N=>by cases r<;>cases N<;>exact aZ.u),A⟩ ?_
 intro x s;show g p _ _ _ _ _ (H6 h e d da B k.1 (x 19) (x 17) (x 18));rw[s 19 ca,s 17 ca,s 18 ca];have t:B.getD (0+(b-1).toNat) aA.D=B.getD (b-1).toNat 0:=qW;by_cases q:B.getD (b-1).toNat 0=0
 .rw[bo q];refine be j [30] a ?_ ?_
  .simp only[T,t,q,a8,gi,a',a7];omega
  have m:=a3.cT da (0+(b-1).toNat) k.1 2 u;have o:=aA.cT B (0+(b-1).toNat) k.2 2 u;rw[cW]at m o;refine g.a_ [.p 58 2 2 (a3.fn (da.set (b-1).toNat k.1)),.p 3 1 2 (aA.fn (B.set (b-1).toNat k.2)),.cells 38 (gV h e d 0),.cells 38 (gV h e d 0),Dk k.1] a ?_ ?_
  .simp only[T.Z,T,cW,a',a7];and_intros<;>first|exact bs.same|exact m|exact o|rfl
  exact PF
 rw[bm q];refine be j [-30] a ?_ ?_
 .simp only[T,t,a8,e0,d6,a',a7];and_intros<;>first|exact q|omega
 exact PF
abbrev fO:=dM×dR×m (Int×Int)×m Int
def nE(d:Int)(b:fO)(a:Int)(e:m c7):fO×Bool:=
 if(gB a b.1.1 b.2.1 b.2.2).2.getD (a-1).toNat 0=0/\b.2.1.1=0 then
  (if(fC d b.1 a e).2=l then(((fC d b.1 a e).1,b.2.1,gB a (fC d b.1 a e).1.1 b.2.1 (gB a b.1.1 b.2.1 b.2.2)),l)else((b.1,b.2.1,gB a b.1.1 b.2.1 b.2.2),v))
 else((b.1,b.2.1,gB a b.1.1 b.2.1 b.2.2),v)
def cI(d:Int)(a:fO)(b:ej):fO×Bool:=
 if b.1=1 then(if(1<=b.2.1/\b.2.1<=2)/\dN b.2.2.1=l then nE d a b.2.1 b.2.2.1 else(a,v))
 else if b.1=2 then(if 1<=b.2.1/\b.2.1<=2 then((a.1,a.2.1,gB b.2.1 a.1.1 a.2.1 a.2.2),l)else(a,v))
 else if b.1=3 then((a.1,b.2.2.2.1,a.2.2),l)
 else if b.1=4 then(if c a.1.2.2=0 then(((iM d a.1.1 b.2.2.2.2).1,a.2),l)else(a,v))
 else if b.1=5 then((ig a.1,a.2),qo a.1)
 else(a,v)
structure eA(j:Nat)(b:fO):Prop where
 a:fN (6000+240*j) b.1
 bj:c b.2.2.1=2
 cc:c b.2.2.2=2
def DZ{b}{bV}{o}(g:fN j b)(e:(fC h b bV o).2=l):fN (j+240) (fC h b bV o).1/\(fC h b bV o).1=oz h b bV o/\hi h b=l/\(1<=bV/\bV<=2)/\dN o=l/\fr h b.1 o=v:=by
 unfold fC at e⊢;split at e
 .rename_i d;rw[bo d];simp only[qx,cn,bw]at d;split at e
  .cases e
  rename_i r;have r:fr h b.1 o=v:=by simpa using r
  rw[bm FJ];exact⟨g.cM d.2 d.1.2 r,a,d.1.1,d.1.2,d.2,r⟩
 cases e
def eA.cM{b}{bV}{o}(s:eA j b):eA (j+1) (nE h b bV o).1:=by
 have b2:=tc (bV:=bV) (b:=b.1.1) (d:=b.2.1) (bi:=b.2.2) s.bj s.cc;unfold nE;split
 .split
  .rename_i i;have a:=tc (bV:=bV) (b:=(fC h b.1 bV o).1.1) (d:=b.2.1) (bi:=gB bV b.1.1 b.2.1 b.2.2) b2.1 b2.2;exact⟨(DZ s.a i).1.mono u,a.1,a.2⟩
  exact Fi
 exact Fi
def eA.mono{j z}{b}(a:eA j b)(d:j<=z):eA z b:=⟨a.a.mono u,a.bj,a.cc⟩
def eA.do{b}{au}(s:eA j b):eA (j+1) (cI h b au).1:=by
 unfold cI;split
 .split
  .exact s.cM
  exact s.mono u
 split
 .split
  .have b2:=tc (bV:=au.2.1) (b:=b.1.1) (d:=b.2.1) (bi:=b.2.2) s.bj s.cc;exact Fi
  exact s.mono u
 split
 .exact⟨s.a.mono u,s.bj,s.cc⟩
 split
 .split
  .exact⟨(fN.ix s.a.bn).mono u,s.bj,s.cc⟩
  exact s.mono u
 split
 .exact⟨(fN.step s.a).mono u,s.bj,s.cc⟩
 exact s.mono u
abbrev B2(b:Int)(a:fO):x:=.n (.agg (gV b a.1 a.2.1 0))
abbrev Ew(d:Int)(a:fO)(b:Bool):x:=.Q [.agg (gV d a.1 a.2.1 0),.R (.c (.bool b))]
abbrev hH(a:fO):m ap:=lh a.2.2.1 a.2.2.2
def W9(h)(b)(bV)(o)(j)(k:eA j b)(E:j<=1000)(w:1<=bV/\bV<=2):
  Z p 33 [B2 h b,R bV,bB.A o] (hH b) (Ew h (nE h b bV o).1 (nE h b bV o).2) (hH (nE h b bV o).1):=by
 refine Z.bb bc func33 rfl rfl rfl λD=>?_;have x:=Cd (p:=p) h b.1 b.2.1 bV b.2.2.1 b.2.2.2 k.a.bn.eC w k.bj k.cc;have z:=XL (p:=p) h b.1 bV o (k.a.cB u);have s:=tc (bV:=bV) (b:=b.1.1) (d:=b.2.1) (bi:=b.2.2) k.bj k.cc;have y:=DZ (h:=h) (bV:=bV) (o:=o) k.a;unfold nE;rw[show((b.2.2.1,b.2.2.2):m (Int×Int)×m Int)=b.2.2 from a]at x;generalize gB bV b.1.1 b.2.1 b.2.2=e at *;have r:e.2.getD (0+(bV-1).toNat) aA.D=e.2.getD (bV-1).toNat 0:=qW;refine cy a A (g.aA x [0,1] a ?_);by_cases i:e.2.getD (bV-1).toNat 0=0
 rotate_left
 .rw[bm (λk=>i k.1)];refine bR [19,25] a ?_ ?_
  .simp only[T,r,a8,j',d6,a',a7];and_intros<;>first|exact i|omega
  exact oH
 by_cases q:b.2.1.1=0
 rotate_left
 .rw[bm (λk=>q k.2)];refine bR [-19,25] a ?_ ?_
  .simp only[T,r,i,a8,j',iI,d6,a',a7];and_intros<;>first|exact q|omega
  exact oH
 rw[bo ⟨i,q⟩];refine bR [-19,-25] a ?_ ?_
 .simp only[T,r,i,q,a8,iI,a',a7];omega
 refine g.aA z [] a ?_;cases jH:(fC h b.1 bV o).2 with
 |false=>
  rw[bm C];exact bR [38] a t1 oH
 |true=>
  rw[bo a];have B:=(y jH).1;generalize(fC h b.1 bV o).1=w2 at *;have t:=Cd (p:=p) h w2 b.2.1 bV e.1 e.2 B.bn.eC w s.1 s.2;rw[show((e.1,e.2):m (Int×Int)×m Int)=e from a]at t;exact bR [-38] a t1 (g.aA t [0,1] a (cy a A oH))
def tF(j):∀(e b:m Int)i,(b++e).Pairwise (· < ·)->(if i=l then True else ∀d∈b,d<j)->(i=l->∀d∈e,j<=d/\(j∈b)) ->
  (if(e.foldl (gp j) (b,i)).2=l then(e.foldl (gp j) (b,i)).1 else(e.foldl (gp j) (b,i)).1++[j]).Pairwise (· < ·)
 |[],b,i,s,r,_=>by
  simp[hp]at s;cases i<;>simp at r⊢
  .exact m5.2 ⟨s,by simp,by exact bu⟩
  omega
 |h::e,b,i,s,r,y=>by
  rw[iL];obtain⟨x,p,t⟩:=m5.1 s;obtain⟨w,A⟩:=iH.1 p;have B:∀d∈b,d<h:=λd g=>t d g h ir;have o:((b++[h])++e).Pairwise (· < ·):=wz;have u:(b++e).Pairwise (· < ·):=m5.2 ⟨x,A,λd g q k=>t d g q (mg _ k)⟩;unfold gp;cases i with
  |true=>
   simp[dA];split
   .exact tF j e b l u C λ_ d g=>⟨by grind,(y a h ir).2⟩
   exact tF j e (b++[h]) l o C λ_ d g=>⟨by grind,AA _ (y a h ir).2⟩
  |false=>
   simp[j_,dm]at r⊢;split
   .split
    .rename_i z;subst z;exact tF h e (b++[h]) l o C λ_ d g=>⟨by grind,by simp⟩
    refine tF j e (b++[j,h]) l ?_ C λ_ d g=>⟨by grind,by simp⟩
    rw[mh];refine m5.2 ⟨x,iH.2 ⟨λq k=>?_,p⟩,λd g q k=>?_⟩
    .rcases e8.1 k with rfl|k
     .omega
     have:=w q k;omega
    rcases e8.1 k with rfl|k
    .exact r d g
    exact t d g q k
   exact tF j e (b++[h]) v o (by simp;grind) C
def Y6{d}{j}(s:d.Pairwise (· < ·)):(e4 d j).Pairwise (· < ·):=tF j d [] v wz C C
def CF:∀{d a:m Int},a.Pairwise (· < ·)->(d.foldl e4 a).Pairwise (· < ·)
 |[],a,b=>b
 |e::d,a,b=>CF (d:=d) (Y6 b)
def Zw(d):(hU d).Pairwise (· < ·):=by
 unfold hU;have:∀(d:m eK) b,b.Pairwise (· < ·)->(d.foldl (λa e=>(gE e.2).foldl e4 a) b).Pairwise (· < ·):=λd=>by
  induction d with
  |nil=>simp
  |cons e d g=>exactλb h=>g _ (CF h)
 simp_all
def Ym(d):c (d.flatMap gf)<=c (hr d):=by
 induction d with
 |nil=>simp
 |cons D d a=>
  have:c (gf D)<=c (d' D.2):=Rm;simp[hr,sq,df]at a⊢;omega
def rJ(b:m Int)(d:Int):Int:=match b.findIdx? (λe=>e==d)with
 |some a=>a
 |none=>-1
def U_(d)(aa):Z p 125 [aA.A d,R aa] [] (R (rJ d aa)) []:=by
 refine Z.I func125 rfl λk=>?_;have s:=k.A 0 a;refine aO a A (g.aC 0 (λb=>b<=c d/\∀e,e<b->d.getD e 0≠aa) (λb:Nat=>[(0,aA.A d),(1,R aa),(7,R (c d)),(8,R b)]) (λ_=>[]) (λb=>c d-b) 0 a C a A a ⟨by omega,by omega⟩ ?_);rintro b ⟨o,q⟩;by_cases j:b<c d
 .have i:d.getD (b:Int).toNat aA.D=d.getD b 0:=rfl;by_cases r:d.getD b 0=aa
  .have:rJ d aa=b:=by
    have:d.findIdx? (λh=>h==aa)=f b:=by rw[AG];exact⟨j,by grind,λe m=>by grind⟩
    simp[rJ,this]
   rw[this];refine a5 [9,16] a ?_ (g.aT (bY.zero a));simp only[T,i,bw,gL,a',a7];and_intros<;>first|omega|omega
  refine a5 [9,-16] a ?_ (g.aw (b+1) a ?_ A ⟨j,λe m=>?_⟩ u)
  .simp only[T,i,a8,bw,e0,a',a7];and_intros<;>first|grind|omega
  .simp
  grind
 have:rJ d aa=-1:=by have:d.findIdx? (λh=>h==aa)=n:=ww;simp[rJ,this]
 rw[this];exact QF
abbrev Bq:bK:=er (e7 aA) c8 (λa b=>bh (a.contains b)) λ_ _=>[]
def MH:bL p 87 Bq:=.bh λb d _=>by refine Z.I func87 rfl λh=>?_;have e:ba p [(125,er (e7 aA) c8 (λb d=>R (rJ b d)) λ_ _=>[])]:=.cons (.bh λb d _=>U_ b d) .nil;refine b_ e a NK (g.aq a ?_);simp[T,aA.l,a7];unfold rJ;grind
def UN(d)(b):Z p 86 [iT d,ax (.O [.A v 1 (c b) (aA.fn b)])] [] (bh (!b.contains d.1)) []:=by refine Z.I func86 rfl λh=>?_;have e:ba p [(87,Bq)]:=.cons MH .nil;refine b_ e a NK (g.aq a ?_);simp only[aA.l];simp
abbrev Gp(e:cz)(b:m eK)(d:O)(a:m Int)(h:X)(g:m Int):m ap:=[jS e,.M,.cells 33 lw,.M,.M,.cells 33 [cL a2 e.1,cL bj b,cL a3 e.2.2,d,.w 6 1 (c a) (aA.fn a)],.w 3 1 (c a) (aA.fn a),jh h g]
def TU(h)(b)(i)(m:dO b)(s:nW b):Z (ah.aF V) 45 [R h,b9 b,aA.A i] [] (jV (iM h b i).1 (iM h b i).2) []:=by
 refine Z.bG func45 rfl rfl rfl λx=>?_;have k:ba (ah.aF V) [(68,xv)]:=.cons Et .nil;have K:=m.aY;have U:=m.aZ;unfold iM;cases q:hY h b with
 |false=>
  refine g.aO b5 dc k [17] 200 a ?_ ?_
  .simp only[T,a2.l,a2.T,bj.l,bj.T,a3.l,a3.T,q,s,a',a7,is]
  refine g.freeze 6 2 a a a ?_;refine g.cr dc [] a ?_ a a a eW;simp
 |true=>
 rw[bo a];refine g.aO b5 dc k [-17] 200 a ?_ ?_
 .simp only[T,a2.l,a2.T,bj.l,bj.T,a3.l,a3.T,q,s,a',a7,gw]
 refine g.aA (o6 b m.aY m.bm m.aZ m.bx m.aL) [] a (g.aO b5 dc k [904] 200 a A (g.freeze 5 1 a a a ?_));refine g.aO b5 dc k [] 200 a A (g.aX (IB b.2.1 m.aZ 86 [.A v 1 (c i) (aA.fn i)] (λj=>!i.contains j.1) λj _=>UN j i) [4] a bk ?_);rintro⟨F,D⟩;simp only[Bool.not_not]at D⊢;have B:c (b.2.1.filter λj=>i.contains j.1)<=c b.2.1:=j7 _ _;have I:∀j∈b.2.1.filter (λj=>i.contains j.1),j∈b.2.1:=λj r=>(iK.1 r).1;have M:c (hr (b.2.1.filter λj=>i.contains j.1))<=c (hr b.2.1):=F9 b.2.1 λj=>i.contains j.1;generalize b.2.1.filter (λj=>i.contains j.1)=d at *;refine g.aO b5 dc k [905] 200 a A (g.bN 4 a a a (by simp;exact B) (by simp;exact⟨A,B⟩) (g.bN 3 a a a C (by simp;exact A) (g.ck 5 4 3 1 (aA.fn []) a a ?_)));refine g.a_ [jS b,.M,.cells 33 lw,.M,.M,.cells 33 [cL a2 b.1,cL bj d,cL a3 b.2.2,cF,.w 6 1 0 (aA.fn [])],.w 3 1 0 (aA.fn [])] a ?_ ?_
 .simp only[T.Z,T,a',a7];and_intros<;>first|exact bs.same|exactλe p=>D e p|rfl|simp
 refine g.aO b5 dc k [] 200 a A (g.h1 a a a λw=>?_);refine g.aO b5 dc k [] 200 a A ?_;refine g.aC 8 (λe=>e<=c d) (λe:Nat=>[(4,aI 0 0),(6,aI 2 0),(8,aI 5 0),(9,sN w),(32,bj.A d),(33,R (c d)),(34,R e)])
  (λe=>Gp b d cF [] w ((d.take e).flatMap gf)) (λe=>c d-e) 0 a C a C a u ?_
 intro e p;by_cases o:e<c d
 .have y:d.getD e bj.D=d.getD e (0,[]):=rfl;have r:=s.dS _ (I _ (oc (N:=(0,[])) o));have S:=F' o;have J:=s.ez;have z:(d.take (e+1)).flatMap gf=(d.take e).flatMap gf++gf (d.getD e (0,[])):=by rw[ih o (0,[])];simp
  generalize d.getD e (0,[])=j at *;refine g.aO b5 dc k [35] 200 a bQ ?_;simp only[cZ,y];refine g.aA (Cg j r.1 u) [] a (g.aO b5 dc k [] 200 a A (g.aA (Io w ((d.take e).flatMap gf) (gf j)) [7] a ?_));rw[<-z];refine g.aO b5 dc k [] 200 a ?_ (g.aw (e+1) a C C o u);exact kT
 obtain rfl:e=c d:=u;rw[cY];have W:=Ym d;have J:=s.ez;refine g.aO b5 dc k [-35] 200 a C (g.az ?_);refine g.aO b5 dc k [] 200 a A (g.aA (V9 w (d.flatMap gf) (hU d) u (Zw d) λQ=>by rw[tf];simp[yA]) [7] a (g.aO b5 dc k [] 200 a A ?_));refine g.aC 8 (λe=>e<=c b.1) (λe:Nat=>[(4,aI 0 0),(6,aI 2 0),(8,aI 5 0),(47,a2.A b.1),(48,R (c b.1)),(49,R e)])
  (λe=>Gp b d (cL aA (hU d)) ((b.1.take e).map (·.1)) w (d.flatMap gf)) (λe=>c b.1-e) 0 a C a C a u ?_
 intro e p;have O:c ((b.1.take e).map (·.1))=e:=bQ;by_cases o:e<c b.1
 .have y:b.1.getD e a2.D=b.1.getD e (0,[]):=rfl;have z:=map_take (ak:=λt:b'=>t.1) o (0,[]);generalize(b.1.take e).map (λt:b'=>t.1)=E at *;generalize b.1.getD e (0,[])=t at *;have r:=aA.aW E t.1;refine g.aO b5 dc k [50] 200 a ?_ (g.aw (e+1) a C ?_ o u)
  .simp[-aj,y,o,a8,show d9.bytes=8 from a];omega
  rw[z];simp only[T.Z,T,cZ,y,df,gh,a',a7];and_intros<;>first|exact bs.same|exact r|rfl|omega
 obtain rfl:e=c b.1:=u;rw[cY];refine g.aO b5 dc k [-50] 200 a C (g.az ?_);refine g.aO b5 dc k [] 200 a A (g.freeze 8 5 a a a ?_);refine g.freeze 6 2 a a a ?_;refine g.cr dc [] a ?_ a a a eW;simp[bj.l]
def Uy(h)(b)(d)(j)(e:eA j b)(x:j<=1000):
  Z p 16 [B2 h b,nb d] (hH b) (Ew h (cI h b d).1 (cI h b d).2) (hH (cI h b d).1):=by
 refine Z.bb bc func16 rfl rfl rfl λy=>?_;have m:=e.a.cB u;have w:ba p [(31,kH),(32,sH),(35,GN)]:=.cons lp (.cons t32 (.cons acu .nil));unfold cI;by_cases B:d.1=1
 .rw[bo B];by_cases r:1<=d.2.1/\d.2.1<=2
  rotate_left
  .rw[bm (λe=>r e.1)];refine be w [13,-16,-21] a ?_ ?_
   .simp only[T,B,gi,a',a7];grind
   exact oH
  cases i:dN d.2.2.1 with
  |false=>
   rw[bm C];exact be w [13,16,-21] a PM oH
  |true=>
   rw[bo ⟨r,rfl⟩];have q:=W9 (p:=p) h b d.2.1 d.2.2.1 j e x r;exact be w [13,16,21] a PM (g.aA q [0,1] a Fe)
 rw[bm B];by_cases r:d.1=2
 .rw[bo r];by_cases i:1<=d.2.1/\d.2.1<=2
  rotate_left
  .rw[bm i];refine be w [-13,31,-34] a ?_ ?_
   .simp only[T,r,gi,a',a7];grind
   exact oH
  rw[bo i];have t:=Cd (p:=p) h b.1 b.2.1 d.2.1 b.2.2.1 b.2.2.2 e.a.bn.eC i e.bj e.cc;refine be w [-13,31,34] a ?_ ?_
  .simp only[T,r,i,m7,and_self,gi,a',a7];decide
  exact g.aA t [0,1] a Fe
 rw[bm r];by_cases i:d.1=3
 .rw[bo i];refine be w [-13,-31,40] a ?_ ?_
  .simp only[T,i,gi,a',a7];decide
  exact oH
 rw[bm i];by_cases o:d.1=4
 .rw[bo o];by_cases k:c b.1.2.2=0
  .rw[bo k];have s:(c b.1.2.2:Int)=0:=u;refine be w [-13,-31,-40,46,51] a ?_ ?_
   .simp only[T,o,s,m.bn,m.cp,a2.l,a2.T,bj.l,bj.T,a3.l,a3.T,aA.l,aA.T,gi,a',a7];decide
   refine g.b9 () [0,1] ?_ x9;exact FG
  rw[bm k];refine be w [-13,-31,-40,46,-51] a ?_ ?_
  .simp only[T,o,gi,e0,d6,a',a7];and_intros<;>first|decide|omega
  exact oH
 rw[bm o];by_cases k:d.1=5
 .rw[bo k];have q:=Xw (p:=p) b.1 m.bn m.cx m.cY;refine be w [-13,-31,-40,-46,67] a ?_ ?_
  .simp only[T,k,gi,a',a7];decide
  exact g.aA q [] a Fe
 rw[bm k];refine be w [-13,-31,-40,-46,-67] a ?_ ?_
 .simp only[T,e0,d6,a',a7];grind
 exact oH
abbrev ta(a:dR):m O:=[.c (.int .i64 a.1),.c (.int .i64 a.2.1),.c (.int .i64 a.2.2.1),.c (.V a.2.2.2)]
abbrev S_(da:m (Int×Int))(a:m Int):m ap:=[.p 58 2 (c da) (a3.fn da),.p 3 1 (c a) (aA.fn a)]
abbrev Nn(a:fx)(d b:Nat):m O:=.c (.int .i64 a.1)::([cL a2 a.2.1.1.1,cL bj a.2.1.1.2.1,cL a3 a.2.1.1.2.2,cL aA a.2.1.2.1,.w d 1 (c a.2.1.2.2) (aA.fn a.2.1.2.2)]++ta a.2.2.1++[.N b (.A (c a.2.2.2.1) 2 0 (c a.2.2.2.1)),.N (b+1) (.A (c a.2.2.2.2) 1 0 (c a.2.2.2.2))])
abbrev mT(a:fx):ap:=.cells 38 (ii a)
abbrev i1(a:dM):ap:=.w 3 1 (c a.2.2) (aA.fn a.2.2)
def H2(a:fx)(d e g h:Bool):m ap:=
 match d,e,g,h with
 |true,l,l,l=>[mT a,.cells 38 (.c (.int .i64 a.1)::([cL a2 a.2.1.1.1,cL bj a.2.1.1.2.1,cL a3 a.2.1.1.2.2,cL aA a.2.1.2.1,.w 2 1 (c a.2.1.2.2) (aA.fn a.2.1.2.2)]++ta a.2.2.1++[.N 3 (.A (0+c a.2.2.2.1) 2 0 (0+c a.2.2.2.1)),.N 4 (.A (0+c a.2.2.2.2) 1 0 (0+c a.2.2.2.2))])),i1 a.2.1,
   .p 58 2 (0+c a.2.2.2.1) (cf 0 (λb=>([]:m (m K)).getD b []) (a3.fn a.2.2.2.1)),.p 3 1 (0+c a.2.2.2.2) (cf 0 (λb=>([]:m (m K)).getD b []) (aA.fn a.2.2.2.2))]
 |true,l,l,v=>[mT a,fL,i1 a.2.1,.p 58 2 (0+c a.2.2.2.1) (cf 0 (λb=>([]:m (m K)).getD b []) (a3.fn a.2.2.2.1)),.p 3 1 (0+c a.2.2.2.2) (cf 0 (λb=>([]:m (m K)).getD b []) (aA.fn a.2.2.2.2))]
 |true,l,v,_=>[mT a,fL,i1 a.2.1,.p 58 2 (0+c a.2.2.2.1) (cf 0 (λb=>([]:m (m K)).getD b []) (a3.fn a.2.2.2.1))]
 |true,v,_,_=>[mT a,fL,i1 a.2.1]
 |false,_,_,_=>[mT a,fL]
abbrev KE(b:Nat):x:=ax (.A l b 0 λa=>([]:m (m K)).getD a [])
abbrev Ej(a:dM)(b:Nat):m O:=[cL a2 a.1.1,cL bj a.1.2.1,cL a3 a.1.2.2,cL aA a.2.1,.w b 1 (c a.2.2) (aA.fn a.2.2)]
abbrev adQ(a:fx)(b:Nat):x:=
 [aI 0 0,R a.1,aI 0 1,gy a.2.1,.n (.agg (Ej a.2.1 2)),aI 0 6,eG a.2.2.1,KE 2,aI 0 10,a3.A a.2.2.2.1,cD 3 (.A (0+c a.2.2.2.1) 2 0 (0+c a.2.2.2.1)),KE 1,aI 0 11,aA.A a.2.2.2.2,cD 4 (.A (0+c a.2.2.2.2) 1 0 (0+c a.2.2.2.2)),
  .n (.agg (.c (.int .i64 a.1)::(Ej a.2.1 2++ta a.2.2.1++[.N 3 (.A (0+c a.2.2.2.1) 2 0 (0+c a.2.2.2.1)),.N 4 (.A (0+c a.2.2.2.2) 1 0 (0+c a.2.2.2.2))]))),.any].getD b .any
set_option maxRecDepth 20000 in
def Uk(b)(r:um b.2.1)(j:c b.2.2.2.1<=4000000)(N:c b.2.2.2.2<=4000000):Z p 17 [g2 b] [] (.n (.agg (Nn b 0 1))) ([i1 b.2.1]++S_ b.2.2.2.1 b.2.2.2.2):=by
 refine Z.bb bc func17 rfl rfl rfl λk=>?_;have w:ba p [(37,k3 [gy b.2.1] [] (.n (.agg (Ej b.2.1 0))) [i1 b.2.1])]:=.cons (l5 (Iw b.2.1 r.bn r.cx r.cY)) .nil;have h:(0+c b.2.2.2.1)*yp.bytes<=140737488355328:=by rw[show yp.bytes=16 from a];omega
 have e:(0+c b.2.2.2.2)*d9.bytes<=140737488355328:=by rw[show d9.bytes=8 from a];omega
 refine be w [901] a A ?_;refine g.b_ b5 (adQ b) (mv (H2 b) 4 10 14 16) a a a a
  ⟨.aN,
  .aN,
  .aN,
  .aN,
  cd.dW a a a a a a (ef (bf:=[]) bc w (an:=f _) a ⟨rfl,rfl⟩),
  .aN,
  .aN,
  .aN,
  .aN,
  .aN,
  cd.eT a a a a a a (ef (bf:=[3000013]) bc w (an:=f _) a h),
  .aN,
  .aN,
  .aN,
  cd.eU a a a a a a (ef (bf:=[3000017]) bc w (an:=f _) a e),
  .aN,
  cd.eV a a a a a a (ef (bf:=[]) bc w (an:=f _) a A),A⟩ ?_
 intro x i;show g p _ _ _ _ _ (H2 b (x 4) (x 10) (x 14) (x 16));rw[i 4 ca,i 10 ca,i 14 ca,i 16 ca];refine tv w [] 1 a A (g.a_ [mT b,.cells 38 (Nn b 2 3),i1 b.2.1,.p 58 2 (c b.2.2.2.1) (a3.fn b.2.2.2.1),.p 3 1 (c b.2.2.2.2) (aA.fn b.2.2.2.2)] a ?_ ?_)
 .simp[oY]
 refine g.bc () [2,3,4] ?_ (λm d=>absurd d C);simp
def Uj(b)(i:um b.2.1)(d:c b.2.2.2.1<=4000000)(h:c b.2.2.2.2<=4000000):Z p 17 [g2 b] [] (g2 b) []:=by have e:=Z.bL (aQ:=[i1 b.2.1,.p 58 2 (c b.2.2.2.1) (a3.fn b.2.2.2.1)]) (Uk (p:=p) b i d h) a C a C;have g:=Z.bL (aQ:=[i1 b.2.1]) e a C a C;refine g.b1 a ?_ a;simp[h']
end
section
variable {p:ah V}
def I1(z)(d)(e:c d<=4000000):Z p 80 [qc z,a3.A d] [] (py (gC z d)) []:=by refine Z.bb bc func80 rfl rfl rfl λi=>?_;have h:ba p [(116,e9 [qc z,a3.A d] (py (gC z d)))]:=.cons (fu (W' z d e)) .nil;refine b_ h a (by simp[a3.l];rfl) ?_;refine g.b9 () [] ?_ (λj b=>absurd b C);simp
abbrev sR(a:ej):ap:=.cells 45 (Il a)
abbrev pD(a:Int)(d:dM)(b:dR):ap:=.cells 38 (gV a d b 6)
abbrev abf(a:Int×Int):x:=ax (.val (.func (.func 80) #[.agg [.int .i64 a.1,.int .i64 a.2].toArray] #[]))
abbrev pn(b a:al×X)(cb:fx)(d:ej):m ap:=hy b a++[.cells 38 (ii cb),sR d,fL]
abbrev Nr(h:Nat)(i:dM)(e:dR)(g:Int×Int)(b:cz)(a:(Int×Int)×Int)(d:Nat):x:=
 [abf g,aI 8 0,aI 8 0,aI 8 1,aI 8 1,b9 i.1,aI 8 0,aI 8 0,aI 8 6,eG e,b9 b,a3.A b.2.2,py a,py a,qc a.1,R a.2,aI h 0,.any,R a.2].getD d .any
def xI(a:m ap)(b:Int×Int)(_ d e:Bool):m ap:=
 match d,e with
 |false,_=>a
 |true,v=>a++[Nx]
 |true,l=>a++[Dk b]
abbrev qh(b:m Int):={a:Nat->m K // bs 2 a (aA.fn b)}
abbrev n1(d b:al×X)(cb:fx)(e:ej)(h:Int)(j:dM)(i:dR)(da:m (Int×Int))(a:Nat->m K)(g:ej):m ap:=pn d b cb e++[.p 58 2 2 (a3.fn da),.p 3 1 2 a,pD h j i]++[sR g]
set_option maxRecDepth 20000 in
def Iv(q j)(cb)(e)(z)(h)(m)(d)(b)(da)(k)(C:q5 m.1)(J:1<=b/\b<=2)(Q:c da=2)(O:c k=2):
  bl (ι:=qh (gB b m.1 d (da,k)).2) p 43 [aI 8 0,R b] (n1 q j cb e h m d da (aA.fn k) z) (λ_=>.Q []) (λE=>n1 q j cb e h m d (gB b m.1 d (da,k)).1 E.1 z++[.M]):=by
 refine bl.bP func43 rfl rfl rfl (g.aR ?_);have F:=(zi (p:=p) C d).fo.aL;have aH:=JX (p:=p) C d;unfold gB;generalize ny m.1 d=o at *;have M:(b-1).toNat<2:=u;have S:(0:Nat)+(b-1).toNat<2:=u;have I:da.getD (b-1).toNat (0,0)=da.getD (0+(b-1).toNat) a3.D:=qW;rw[I];have D:=I1 (p:=p) (da.getD (0+(b-1).toNat) a3.D) o.2.2 F;generalize gC (da.getD (0+(b-1).toNat) a3.D) o.2.2=s at *;have i:ba p [(81,e9 [b9 m.1,eG d] (b9 o))]:=.cons (fu aH) .nil;have B:k.getD (0+(b-1).toNat) aA.D=k.getD (b-1).toNat 0:=qW;by_cases t:k.getD (b-1).toNat 0=0
 rotate_left
 .rw[bm t];refine g.fg 0 1 ?_;refine g.cL 10 a bk ?_;refine be i [15] a ?_ ?_
  .simp only[T,B,a8,j',d6,a',a7];and_intros<;>first|exact t|omega
  exact OV
 rw[bo t];refine be i [-15] a ?_ ?_
 .simp only[T,B,t,a8,iI,a',a7];omega
 refine g.cC _ _ a a (eg.hs a a a) λK=>?_;refine be i [902] a A ?_;refine g.b_ b5 (Nr 10 m d (da.getD (0+(b-1).toNat) a3.D) o s) (lc (xI (n1 q j cb e h m d da (aA.fn k) z) s.1) 18 16 17) a a a a
  ⟨.ay,
  .ay,
  .ay,
  .ay,
  .ay,
  .ay,
  .ay,
  .ay,
  .ay,
  .ay,
  .cK bc i (cv:=by exact a),
  .ay,
  cd.eL a a a (λw r N=>aZ.gZ (λ_ _ _ _=>i_ a) a a K.2 a D a a a),
  .ay,
  .ay,
  .ay,
  cd.d_ a a a a a (λw=>by cases w<;>exact ef (bf:=[]) bc i (an:=f _) a A),
  cd.d' a a a a a (λw=>by cases w<;>exact ef (bf:=[]) bc i (an:=f _) a A),
  cd.dZ a a a a (λr N=>by cases r<;>cases N<;>exact aZ.u),A⟩ ?_
 intro x y;show g p _ _ _ _ _ (xI (n1 q j cb e h m d da (aA.fn k) z) s.1 (x 18) (x 16) (x 17));rw[y 18 ca,y 16 ca,y 17 ca];refine be i [904] a tT (g.cL 10 a bk ?_);have dJ:=a3.cT da (0+(b-1).toNat) s.1 2 u;have e3:=aA.cT k (0+(b-1).toNat) s.2 2 u;rw[cW]at dJ e3;refine g.a_ (n1 q j cb e h m d (da.set (b-1).toNat s.1) (aA.fn k) z++[.M]) a Pz ?_;exact Pd
abbrev uL(g e:al×X)(cb:fx)(b:ej)(i:Int)(k:dM)(j:dR)(da:m (Int×Int))(a:Nat->m K)(h:ej)(d:dM):m ap:=pn g e cb b++[.p 58 2 2 (a3.fn da),.p 3 1 2 a,pD i k j]++[sR h,.M,gq d]
set_option maxRecDepth 20000 in
def Ub(q j)(cb)(e)(z)(t)(h)(m)(d)(b)(da)(k)(D:q5 m.1)(M:1<=b/\b<=2)(S:c da=2)(J:c k=2):
  bl (ι:=qh (gB b m.1 d (da,k)).2) p 43 [aI 8 0,R b] (uL q j cb e h m d da (aA.fn k) z t) (λ_=>.Q []) (λF=>uL q j cb e h m d (gB b m.1 d (da,k)).1 F.1 z t++[.M]):=by
 refine bl.bP func43 rfl rfl rfl (g.aR ?_);have I:=(zi (p:=p) D d).fo.aL;have aH:=JX (p:=p) D d;unfold gB;generalize ny m.1 d=o at *;have Q:(b-1).toNat<2:=u;have U:(0:Nat)+(b-1).toNat<2:=u;have O:da.getD (b-1).toNat (0,0)=da.getD (0+(b-1).toNat) a3.D:=qW;rw[O];have K:=I1 (p:=p) (da.getD (0+(b-1).toNat) a3.D) o.2.2 I;generalize gC (da.getD (0+(b-1).toNat) a3.D) o.2.2=s at *;have i:ba p [(81,e9 [b9 m.1,eG d] (b9 o))]:=.cons (fu aH) .nil;have C:k.getD (0+(b-1).toNat) aA.D=k.getD (b-1).toNat 0:=qW;by_cases y:k.getD (b-1).toNat 0=0
 rotate_left
 .rw[bm y];refine g.fg 0 1 ?_;refine g.cL 12 a bk ?_;refine be i [15] a ?_ ?_
  .simp only[T,C,a8,j',d6,a',a7];and_intros<;>first|exact y|omega
  exact OV
 rw[bo y];refine be i [-15] a ?_ ?_
 .simp only[T,C,y,a8,iI,a',a7];omega
 refine g.cC _ _ a a (eg.hs a a a) λE=>?_;refine be i [902] a A ?_;refine g.b_ b5 (Nr 12 m d (da.getD (0+(b-1).toNat) a3.D) o s) (lc (xI (uL q j cb e h m d da (aA.fn k) z t) s.1) 18 16 17) a a a a
  ⟨.ay,
  .ay,
  .ay,
  .ay,
  .ay,
  .ay,
  .ay,
  .ay,
  .ay,
  .ay,
  .cK bc i (cv:=by exact a),
  .ay,
  cd.eL a a a (λw r N=>aZ.gZ (λ_ _ _ _=>i_ a) a a E.2 a K a a a),
  .ay,
  .ay,
  .ay,
  cd.d_ a a a a a (λw=>by cases w<;>exact ef (bf:=[]) bc i (an:=f _) a A),
  cd.d' a a a a a (λw=>by cases w<;>exact ef (bf:=[]) bc i (an:=f _) a A),
  cd.dZ a a a a (λr N=>by cases r<;>cases N<;>exact aZ.u),A⟩ ?_
 intro x B;show g p _ _ _ _ _ (xI (uL q j cb e h m d da (aA.fn k) z t) s.1 (x 18) (x 16) (x 17));rw[B 18 ca,B 16 ca,B 17 ca];refine be i [904] a tT (g.cL 12 a bk ?_);have dJ:=a3.cT da (0+(b-1).toNat) s.1 2 u;have e3:=aA.cT k (0+(b-1).toNat) s.2 2 u;rw[cW]at dJ e3;refine g.a_ (uL q j cb e h m d (da.set (b-1).toNat s.1) (aA.fn k) z t++[.M]) a Pz ?_;exact Pd
end
section
variable {p:ah V}
def VR(S)(b)(B:c S.2<=4000000):Z p 129 [fH S,aA.A b] [] (fH (hI S b)) []:=by
 refine Z.bb bc func129 rfl rfl rfl λo=>?_;have i:ba p [(87,Bq)]:=.cons MH .nil;refine be i [902] a A (g.ck 2 1 138 2 (bH.fn []) a a ?_);refine b_ i a A ?_;refine g.aC 4 (λe=>e<=c S.2) (λe:Nat=>[(1,aA.A b),(4,aI 1 0),(5,aI 2 0),(12,bH.A S.2),(13,R (c S.2)),(14,R e)])
  (λe=>Kd S ((S.2.take e).filter λd=>b.contains d.1)) (λe=>c S.2-e) 0 a C a C a u ?_
 intro e j;have m:=Cx S.2 (λd=>b.contains d.1) j;by_cases s:e<c S.2
 .have N:S.2.getD e bH.D=d_ S e:=rfl;have r:(S.2.take (e+1)).filter (λd=>b.contains d.1)=if b.contains (d_ S e).1=l then(S.2.take e).filter (λd=>b.contains d.1)++[d_ S e]else(S.2.take e).filter (λd=>b.contains d.1):=Cy s (0,[]);generalize(S.2.take e).filter (λd=>b.contains d.1)=k at *;generalize d_ S e=d at *;cases ak:b.contains d.1 with
  |true=>
   rw[bo ak]at r;have B:=bH.aW k d;refine be i [15,21] a PQ (g.aw (e+1) a C ?_ s u);exact Q7
  |false=>
   rw[bm dB]at r;refine be i [15,-21] a PS (g.aw (e+1) a C ?_ s u);simp_all
 exact Pw
abbrev Hz(a:dM)(b d:Bool):m ap:=
 match b,d with
 |false,_=>[gq a,.cells 33 lw]
 |true,v=>[gq a,.cells 33 lw,.p 107 2 (c a.1.1) (a2.fn a.1.1),.p 104 2 (c a.1.2.1) (bj.fn a.1.2.1)]
 |true,l=>[gq a,.cells 33 [.N 2 (.A (c a.1.1) 2 0 (c a.1.1)),.N 3 (.A (c a.1.2.1) 2 0 (c a.1.2.1)),cL a3 a.1.2.2,cL aA (aA.ad (c a.2.1) (aA.fn a.2.1)),cL aA (aA.ad (c a.2.2) (aA.fn a.2.2))],.p 107 2 (c a.1.1) (a2.fn a.1.1),.p 104 2 (c a.1.2.1) (bj.fn a.1.2.1)]
abbrev adO(a:dM)(b:Nat):x:=
 [aI 0 0,b9 a.1,.n (.agg [.N 2 (.A (c a.1.1) 2 0 (c a.1.1)),.N 3 (.A (c a.1.2.1) 2 0 (c a.1.2.1)),cL a3 a.1.2.2]),aI 0 3,aA.A a.2.1,aA.A (aA.ad (c a.2.1) (aA.fn a.2.1)),aI 0 4,aA.A a.2.2,aA.A (aA.ad (c a.2.2) (aA.fn a.2.2)),
  .n (.agg [.N 2 (.A (c a.1.1) 2 0 (c a.1.1)),.N 3 (.A (c a.1.2.1) 2 0 (c a.1.2.1)),cL a3 a.1.2.2,cL aA (aA.ad (c a.2.1) (aA.fn a.2.1)),cL aA (aA.ad (c a.2.2) (aA.fn a.2.2))]),.any].getD b .any
def I_(b)(i:dO b.1)(h:c b.2.1<=4000000)(m:c b.2.2<=4000000):Z p 47 [gy b] [] (.n (.agg [.N 0 (.A (c b.1.1) 2 0 (c b.1.1)),cL bj b.1.2.1,cL a3 b.1.2.2,cL aA b.2.1,cL aA b.2.2])) [.p 107 2 (c b.1.1) (a2.fn b.1.1)]:=by
 refine Z.bb bc func47 rfl rfl rfl λq=>?_
 have w:ba p [(84,k3 [b9 b.1] [] (.n (.agg [.N 0 (.A (c b.1.1) 2 0 (c b.1.1)),.N 1 (.A (c b.1.2.1) 2 0 (c b.1.2.1)),.c (.A v 2 (c b.1.2.2) (a3.fn b.1.2.2))])) [.p 107 2 (c b.1.1) (a2.fn b.1.1),.p 104 2 (c b.1.2.1) (bj.fn b.1.2.1)]),
   (49,dk (e7 aA) (λd=>aA.A d) λd=>[c d<=4000000])]:=.cons (l5 (o6 b.1 i.aY i.bm i.aZ i.bx i.aL)) (.cons (.a7 λd k=>B9 d k) .nil)
 refine be w [901] a A ?_;refine g.b_ b5 (adO b) (nh (Hz b) 2 10) a a a a
  ⟨.bk,.bk,cd.fb a a (ef (bf:=[]) bc w (an:=f _) a C),.bk,.bk,.df bc w (cv:=by exact⟨aA.T _,by rw[aA.l];exact h⟩),.bk,.bk,.df bc w (cv:=by exact⟨aA.T _,by rw[aA.l];exact m⟩),.bk,
   cd.fc a a (ef (bf:=[]) bc w (an:=f _) a A),A⟩ ?_
 intro x e;show g p _ _ _ _ _ (Hz b (x 2) (x 10));rw[e 2 ca,e 10 ca];refine tv w [] 1 a A (g.bN 3 a a a C C (g.a_ [gq b,.cells 33 [.N 2 (.A (c b.1.1) 2 0 (c b.1.1)),cL bj b.1.2.1,cL a3 b.1.2.2,cL aA b.2.1,cL aA b.2.2],.p 107 2 (c b.1.1) (a2.fn b.1.1),.M] a ?_ ?_))
 .simp[aA.l,h']
 refine g.bc () [2] ?_ (λo j=>absurd j C);simp
abbrev p5(a:m b'):ap:=.p 107 2 (c a) (a2.fn a)
abbrev xG(b a:Nat):x:=cD 0 (.A b 2 0 a)
def Ve(d)(z)(E:z<=c d)(I:c d<=4000000)(m)(ag)(i:b'->Bool)(y:∀r,r∈d.take z->Z p m [fH r,ax (.O ag)] [] (bh (i r)) []):
  Z p 110 [xG (c d) z,ax (.fn (.func m) [] [.O ag])] [p5 d] (R (gR i (d.take z))) [p5 d]:=by
 refine Z.I func110 rfl λF=>?_;refine aO a A ?_;have D:c (d.take z)=z:=bQ;have k:∀e,e<z->(d.take z).getD e (0,[])=d.getD e (0,[]):=λe q=>by simp[h2,q]
 refine g.aC 1 (λb=>b<=z/\∀e,e<b->i ((d.take z).getD e (0,[]))=v) (λb:Nat=>[(0,xG (c d) z),(1,ax (.fn (.func m) [] [.O ag])),(7,R z),(8,R b)]) (λ_=>[p5 d]) (λb=>z-b) 0 a C a C a ⟨by omega,by omega⟩ ?_;rintro b ⟨w,j⟩;by_cases h:b<z
 .have B:d.getD b (0,[])∈d.take z:=by rw[<-k b h];grind
  have x:d.getD ((0+(b:Int).toNat:Nat)) a2.D=d.getD b (0,[]):=nN;refine a5 [9] a bu ?_;rw[x];refine g.aA (y _ B) [] a ?_;cases s:i (d.getD b (0,[]))with
  |true=>
   refine a5 [16] a C (g.aT (bY.mk [0] a ?_ a a a h7));simp[s4 (o:=d.take z) (N:=(0,[])) u (by rw[k b h];exact s) j]
  |false=>
   refine a5 [-16] a bG (g.aw (b+1) a C C ⟨h,λe q=>?_⟩ u);by_cases t:e=b
   .rw[t,k b h];exact s
   exact j e u
 refine a5 [-9] a bQ (g.az ?_);refine aO a A (g.aJ [0] a ?_ h7);simp[s5 (o:=d.take z) (N:=(0,[])) (λe q=>j e u)]
def n8(a:m b')(b d:Nat):m b':=(a.take b).eraseIdx d++(0,[])::a.drop b
def Te{d}(b:z<=c d)(a:e<z):c (n8 d z e)=c d:=by unfold n8;rw[df,F0 bQ];simp;omega
def Uv(d)(z e)(Q:z<=c d)(x:e<z)(O:c d<=4000000):
  Z p 130 [xG (c d) z,R e,R ((e:Int)+1)] [p5 d] (xG (c d) (z-1)) [.p 107 2 (c d) (a2.fn (n8 d z e))]:=by
 refine Z.I func130 rfl λS=>?_;refine bR [-16,906] a EO ?_;have B:bU z (f (e:Int))-bU 0 n+(bU z n-bU 0 (f ((e:Int)+1)))=z-1:=EO;rw[B];refine g.region ?_;refine gF [] 4 a A (g.aK (a0.hZ bc a a a a a a a a a u u u) a a ?_);refine g.aK (a0.eX bc a a a a a a u) a a ?_;refine bR [907] a A (g.gR 0 (a2.fn (n8 d z e)) a (λ_ _=>rfl) (λN idx o s r M=>?_) ?_)
 .have J:bU z (f (e:Int))-bU 0 n=e:=wA;have I:bU 0 (f ((e:Int)+1))=e+1:=bG;have C:bU z n=z:=rfl;simp only[cZ];rw[J,I,C];have y:(n8 d z e).getD idx (0,[])=if idx<e then d.getD idx (0,[])else if idx<z-1 then d.getD (idx+1) (0,[])else if idx<z then(0,[])else d.getD idx (0,[]):=by
   unfold n8;have w:c ((d.take z).eraseIdx e)=z-1:=NE;simp only[aj];by_cases m:idx<z-1
   .rw[j6 u,List.getElem?_eraseIdx];by_cases h:idx<e
    .rw[bo h,bo h,h2,bo u]
    rw[bm h,bm h,bo m,h2,bo u]
   rw[ho u,w];by_cases F:idx=z-1
   .subst F;rw[bm u,bm u,bo u];simp
   obtain⟨j,rfl⟩:∃j,idx=z+j:=⟨idx-z,by omega⟩
   rw[bm u,bm u,bm u,show z+j-(z-1)=j+1 by omega];simp
  have b:(a2.a2 ((n8 d z e).getD idx (0,[])))[s]?=f r:=M;rw[y]at b;by_cases m:idx=z-1
  .subst m;rw[bm u,bm u,bo u]at b;have E:nK (0+(z-1)) (0+(z-1)+(z-(z-1))) nq.zero (qA e (0+(e+1)) (z-(e+1)) (a2.fn d)) (z-1)=nq.zero:=bo u;rw[E]
   match s,b with
   |0,b=>exact⟨_,rfl,λK i=>by cases b;exact i⟩
   |1,b=>exact⟨_,rfl,λK i=>by cases b;exact Ka (D:=.A l 0 0 λ_=>[]) rfl ⟨rfl,rfl⟩ i⟩
  refine⟨r,?_,λ_ i=>i⟩;rw[<-b];congr 1;unfold nK qA;rw[bm u];have k:∀t,a2.fn d t=a2.a2 (d.getD t (0,[])):=λ_=>rfl;by_cases h:idx<e
  .rw[bm u,bo h,k]
  rw[bm h];by_cases q:idx<z-1
  .rw[bo u,bo q,k,show 0+(e+1)+(idx-e)=idx+1 by omega]
  rw[bm u,bm q,bm u,k]
 exact PO
end
def kv(a:dM):Nat->dM
 |0=>a
 |b+1=>ig (kv a b)
def Mm{Q}:∀{t:Nat},t<=c Q.2.2->(kv Q t).1.2=Q.1.2/\(kv Q t).2.1=Q.2.1/\(kv Q t).2.2=Q.2.2.drop t/\(kv Q t).1.1=(Q.2.2.take t).foldl (λd b=>fk b Q.2.1 d) Q.1.1
 |0,_=>⟨rfl,rfl,rfl,rfl⟩
 |t+1,m=>by
  obtain⟨j,i,k,e⟩:=Mm (Q:=Q) (t:=t) u;have h:Q.2.2.drop t=Q.2.2.getD t 0::Q.2.2.drop (t+1):=by rw[RZ u];simp[bI (show t<c Q.2.2 by omega)]
  have g:kv Q (t+1)=((fk (Q.2.2.getD t 0) Q.2.1 (kv Q t).1.1,(kv Q t).1.2),(kv Q t).2.1,Q.2.2.drop (t+1)):=by rw[show kv Q (t+1)=ig (kv Q t)from a];unfold ig;simp_all
  rw[g,ih u 0,uu,<-e];simp_all
def kC.h2{h}{d}(b:kC h d):∀a,kC h (kv d a)
 |0=>b
 |a+1=>(kC.h2 b a).step
def Lr{cw}{bN}:∀{Y:m b'}{e:Nat},(Y.Pairwise λa b=>a.1<b.1)->(∀a∈Y,a.2≠[])->e<c Y->(Y.getD e (0,[])).1=bN ->
  gR (λa:b'=>a.1==bN) Y=e/\fk bN cw Y=if(hI (Y.getD e (0,[])) cw).2.length=0 then Y.eraseIdx e else Y.set e (hI (Y.getD e (0,[])) cw)
 |a::Y,0,i,h,_,d=>by
  obtain⟨k,q⟩:=iH.1 i;simp only[List.getD_cons_zero]at d⊢;have j:Y.map (i2 bN cw)=Y:=by rw[p0 (g:=id) λb g=>by have:=k b g;exact bm u,List.map_id]
  refine⟨by simp[gR,List.findIdx?_cons,d],?_⟩;unfold fk;rw[me,j,show i2 bN cw a=hI a cw from bo d,rg,sm.2 λb g=>by simpa using h b (mg _ g)];split<;>split<;>simp_all
 |a::Y,e+1,i,h,o,d=>by
  obtain⟨k,q⟩:=iH.1 i;simp only[List.getD_cons_succ,fh]at d o⊢;obtain⟨k1,t⟩:=Lr (cw:=cw) (e:=e) q (λb g=>h b (mg _ g)) u d;have s:Y.getD e (0,[])∈Y:=M;have r:a.1≠bN:=by have:=k _ s;omega
  have x:=h a ir;refine⟨?_,?_⟩
  .unfold gR at k1⊢;rw[List.findIdx?_cons];have:(a.1==bN)=v:=bu;rw[this];cases p:Y.findIdx? λa=>a.1==bN with
   |none=>rw[p]at k1;exact bG
   |some w=>rw[p]at k1;exact bu
  have j:fk bN cw (a::Y)=a::fk bN cw Y:=by unfold fk;rw[me,show i2 bN cw a=a from bm r,rg,bo bu]
  rw[j,t];split<;>simp
def ks(a:m Int)(d:m b')(e b:Nat):m b'×Nat:=
 if(hI (d.getD b (0,[])) a).2.length=0 then(n8 d e b,e-1)else(d.set b (hI (d.getD b (0,[])) a),e)
def aar{cw}{bN}{d}(j:z<=c d)(a:e<z)(i:(d.take z).Pairwise λb p=>b.1<p.1)(m:∀b∈d.take z,b.2≠[])(o:(d.getD e (0,[])).1=bN):
  gR (λb:b'=>b.1==bN) (d.take z)=e/\(ks cw d z e).1.length=c d/\(ks cw d z e).2<=z/\(ks cw d z e).1.take (ks cw d z e).2=fk bN cw (d.take z):=by
 have h:(d.take z).getD e (0,[])=d.getD e (0,[]):=by simp[h2,a]
 obtain⟨k1,g⟩:=Lr (cw:=cw) (bN:=bN) (Y:=d.take z) (e:=e) i m dB (h▸o);rw[h]at g;rw[g];unfold ks;split
 .refine⟨k1,Te j a,by omega,?_⟩;unfold n8;have k:c ((d.take z).eraseIdx e)=z-1:=NE;simp only;exact List.take_left' k
 exact⟨k1,by simp,bA _,by rw[AF]⟩
section
variable {p:ah V}
def Vw(b)(j):Z p 128 [fH b,ax (.O [.int .i64 j])] [] (bh (b.1==j)) []:=by refine Z.I func128 rfl λd=>?_;exact aO a A (g.aq a)
abbrev lM(b:m b')(a:Nat):b':=b.getD (0+(a:Int).toNat) a2.D
abbrev Lq(d:m b')(b:Nat)(a:m Int):ap:=.cells 107 [.c (.int .i64 (lM d b).1),.c (lm (hI (lM d b) a))]
end
structure wG(Q:dM)(Kt t:Nat)(d:m b')(z:Nat):Prop where
 fH:t<=c Q.2.2
 len:c d=Kt
 gl:z<=Kt
 c1:d.take z=(kv Q t).1.1
 cB:∀S∈d,c S.2<=4000000
def wG.next{Q}{w}{d}(D:kC h Q)(e:wG Q w t d z)(x:t<c Q.2.2):
  ∃g,g<z/\gR (λi:b'=>i.1==Q.2.2.getD t 0) (d.take z)=g/\wG Q w (t+1) (ks Q.2.1 d z g).1 (ks Q.2.1 d z g).2:=by
 have j:=D.h2 t;obtain⟨B,k,s,I⟩:=Mm (Q:=Q) (t:=t) e.fH;have q:Q.2.2.drop t=Q.2.2.getD t 0::Q.2.2.drop (t+1):=dB;obtain⟨i,b,r⟩:=j.gr (Q.2.2.getD t 0) (by rw[s,q];simp);rw[<-e.c1]at b;obtain⟨g,m,A⟩:=hn b;rw[List.length_take]at m;have p:g<z:=u;have E:(d.getD g (0,[])).1=Q.2.2.getD t 0:=by rw[<-r,<-A];simp[bI (show g<c d by omega)]
 have y:∀i∈d.take z,i.2≠[]:=λi b=>by rw[e.c1]at b;have:=(j.cq i b).len.1;grind
 obtain⟨k1,a9,C,F⟩:=aar (cw:=Q.2.1) (by rw[e.len];exact e.gl) p (by rw[e.c1];exact j.c6) y E;refine⟨g,p,k1,x,by rw[a9,e.len],fG C e.gl,?_,λi b=>?_⟩
 .rw[F,e.c1];rw[show kv Q (t+1)=ig (kv Q t)from a];unfold ig;rw[s,q,k]
 unfold ks at b;split at b
 .unfold n8 at b;simp only[fy,e8]at b;rcases b with b|b|b
  .exact e.cB i (gY (List.mem_of_mem_eraseIdx b))
  .exact bG
  exact e.cB i (p3 b)
 rcases As b with b|b
 .exact e.cB i b
 rw[b];have o:d.getD g (0,[])∈d:=M;exact fG (j7 _ _) (e.cB _ o)
section
variable {p:ah V}
def Is(d)(h:c d<=4000000):Z p 49 [aA.A d] [] (cD 0 (.A (c d) 1 0 (c d))) [jF (c d) d]:=by
 refine Z.I func49 rfl λi=>?_;refine aO a A (g.en bc a a a a a a λb e=>?_);cases b with
 |true=>
  obtain rfl:=jB (e rfl);refine aO a A (g.e_ 2 3 1 (aA.fn []) a ?_);exact Fb
 |false=>
  refine gF [] 7 a A (g.dI 5 3 1 (aA.fn []) a ?_);refine aO a ⟨a,a,show(0+c d)*8<=_ by omega⟩ (g.a_ [jF (c d) d] a ?_ ?_)
  .simp[bs,cf]
  exact Fm
abbrev Hy(a:dM)(b:Bool):m O:=[.N 2 (.A (c a.1.1) 2 0 (c a.1.1)),.N 3 (.A (c a.1.2.1) 2 0 (c a.1.2.1)),cL a3 a.1.2.2,cL aA (aA.ad (c a.2.1) (aA.fn a.2.1)),.N 4 (.A (c a.2.2) 1 0 (c a.2.2))]
abbrev Hx(a:dM)(b d e g:Bool):m ap:=
 match b,d,e,g with
 |false,_,_,_=>[gq a,.cells 33 lw]
 |true,_,v,_=>[gq a,.cells 33 lw,.p 107 2 (c a.1.1) (a2.fn a.1.1),.p 104 2 (c a.1.2.1) (bj.fn a.1.2.1)]
 |true,_,l,v=>[gq a,.cells 33 lw,.p 107 2 (c a.1.1) (a2.fn a.1.1),.p 104 2 (c a.1.2.1) (bj.fn a.1.2.1),jF (c a.2.2) a.2.2]
 |true,_,l,l=>[gq a,.cells 33 (Hy a l),.p 107 2 (c a.1.1) (a2.fn a.1.1),.p 104 2 (c a.1.2.1) (bj.fn a.1.2.1),jF (c a.2.2) a.2.2]
abbrev adN(a:dM)(b:Nat):x:=
 [aI 0 0,b9 a.1,.n (.agg [.N 2 (.A (c a.1.1) 2 0 (c a.1.1)),.N 3 (.A (c a.1.2.1) 2 0 (c a.1.2.1)),cL a3 a.1.2.2]),aI 0 3,aA.A a.2.1,aA.A (aA.ad (c a.2.1) (aA.fn a.2.1)),aI 0 4,aA.A a.2.2,cD 4 (.A (c a.2.2) 1 0 (c a.2.2)),
  .n (.agg (Hy a l)),.any].getD b .any
def XH(b)(i:dO b.1)(e:c b.2.1<=4000000)(k:c b.2.2<=4000000):Z p 47 [gy b] [] (.n (.agg [.N 0 (.A (c b.1.1) 2 0 (c b.1.1)),cL bj b.1.2.1,cL a3 b.1.2.2,cL aA b.2.1,.N 1 (.A (c b.2.2) 1 0 (c b.2.2))])) [.p 107 2 (c b.1.1) (a2.fn b.1.1),jF (c b.2.2) b.2.2]:=by
 refine Z.bb bc func47 rfl rfl rfl λo=>?_
 have w:ba p [(84,k3 [b9 b.1] [] (.n (.agg [.N 0 (.A (c b.1.1) 2 0 (c b.1.1)),.N 1 (.A (c b.1.2.1) 2 0 (c b.1.2.1)),.c (.A v 2 (c b.1.2.2) (a3.fn b.1.2.2))])) [.p 107 2 (c b.1.1) (a2.fn b.1.1),.p 104 2 (c b.1.2.1) (bj.fn b.1.2.1)]),
   (49,dk (e7 aA) (λd=>aA.A d) λd=>[c d<=4000000])]:=.cons (l5 (o6 b.1 i.aY i.bm i.aZ i.bx i.aL)) (.cons (.a7 λd j=>B9 d j) .nil)
 have iw:ba p [(49,k3 [aA.A b.2.2] [] (cD 0 (.A (c b.2.2) 1 0 (c b.2.2))) [jF (c b.2.2) b.2.2])]:=.cons (l5 (Is b.2.2 k)) .nil;refine be w [901] a A ?_;refine g.b_ b5 (adN b) (mv (Hx b) 2 5 8 10) a a a a
  ⟨.aN,.aN,cd.dW a a a a a a (ef (bf:=[]) bc w (an:=f _) a C),.aN,.aN,cd.eT a a a a a a (aZ.eval (bf:=[]) bc w a (by exact⟨aA.T _,by rw[aA.l];exact e⟩)),.aN,.aN,cd.eU a a a a a a (ef (bf:=[]) bc iw (an:=f _) a bG),.aN,
   cd.eV a a a a a a (ef (bf:=[]) bc w (an:=f _) a A),A⟩ ?_
 intro x N;show g p _ _ _ _ _ (Hx b (x 2) (x 5) (x 8) (x 10));rw[N 2 ca,N 5 ca,N 8 ca,N 10 ca];refine tv w [] 1 a A (g.bN 3 a a a C C (g.a_ [gq b,.cells 33 [.N 2 (.A (c b.1.1) 2 0 (c b.1.1)),cL bj b.1.2.1,cL a3 b.1.2.2,cL aA b.2.1,.N 4 (.A (c b.2.2) 1 0 (c b.2.2))],.p 107 2 (c b.1.1) (a2.fn b.1.1),.M,jF (c b.2.2) b.2.2] a ?_ ?_))
 .simp[aA.l,h']
 refine g.bc () [2,4] ?_ (λm h=>absurd h C);simp
abbrev tR:ap:=.cells 33 lw
abbrev vZ(h g:Nat)(d:m eK)(e:m (Int×Int))(b a:m Int):ap:=.cells 33 [.N 2 (.A h 2 0 g),cL bj d,cL a3 e,cL aA b,.N 3 (.A (c a) 1 0 (c a))]
abbrev adZ(d:m b')(g b:Nat)(a:m Int)(e:Nat):x:=
 [aI 4 0,aI 4 0,aI 4 0,aI 4 0,cD 2 (.A (c d) 2 0 g),R b,cD 2 (.bt (c d) 2 (0+(b:Int).toNat) 0),fH (lM d b),
  aI 4 0,aI 4 0,aI 4 3,aA.A a,fH (hI (lM d b) a),aI 6 0,.any].getD e .any
abbrev Lp(i:dM)(d:m b')(h o:Nat)(e:m eK)(g:m (Int×Int))(b a:m Int)(j k:Bool):m ap:=
 match j,k with
 |false,_=>[gq i,tR,p5 d,jF (c a) a,vZ (c d) h e g b a,.M]
 |true,v=>[gq i,tR,p5 d,jF (c a) a,vZ (c d) h e g b a,.M,.cells 107 [.c (.int .i64 0),cF]]
 |true,l=>[gq i,tR,p5 d,jF (c a) a,vZ (c d) h e g b a,.M,Lq d o b]
set_option maxRecDepth 20000 in
def WZ(r)(bN)(d)(z e)(dy)(k)(cw b)(t:z<=c d)(y:c d<=4000000)(s:e<z)(E:gR (λj:b'=>j.1==bN) (d.take z)=e)(C:∀j∈d,c j.2<=4000000):
  bl (ι:={h:Nat->m K // bs (c d) h (a2.fn (ks cw d z e).1)}) p 89 [aI 4 0,R bN] [gq r,tR,p5 d,jF (c b) b,vZ (c d) z dy k cw b] (λ_=>.Q []) (λh=>[gq r,tR,.p 107 2 (c d) h.1,jF (c b) b,vZ (c d) (ks cw d z e).2 dy k cw b,.M,Lq d e cw]):=by
 refine bl.bP func89 rfl rfl rfl (g.aR ?_);refine bR [901] a A (g.freeze 3 5 a a a ?_);refine cy a A (g.aA (Ve d z t y 128 [.int .i64 bN] (λj=>j.1==bN) λj _=>Vw j bN) [2] a ?_);rw[E];have o:lM d e=d.getD e (0,[]):=nN;have i:lM d e∈d:=by rw[o];grind
 have w:ba p [(129,e9 [fH (lM d e),aA.A cw] (fH (hI (lM d e) cw)))]:=.cons (fu (VR (lM d e) cw (C _ i))) .nil;have cv:0<=(e:Int)/\(e:Int)<((z:Nat):Int):=u;have D:c d=c d/\0+(e:Int).toNat<c d:=⟨rfl,by omega⟩
 refine bR [902] a A ?_;refine g.b_ b5 (adZ d z e cw) (nh (Lp r d z e dy k cw b) 13 14) a a a a
  ⟨.bk,.bk,.bk,.bk,.bk,.bk,.df bc w (cv:=by exact cv),.df bc w (cv:=by exact D),.bk,.bk,.bk,.bk,.df bc w (cv:=by exact a),
   cd.fb a a (ef (bf:=[]) bc w (an:=f _) a A),cd.fc a a (ef (bf:=[]) bc w (an:=f _) a A),A⟩ ?_
 intro x B;show g p _ _ _ _ _ (Lp r d z e dy k cw b (x 13) (x 14));rw[B 13 ca,B 14 ca];unfold ks;by_cases q:(hI (lM d e) cw).2.length=0
 .rw[bo (by rw[<-o];exact q)];refine bR [29] a ?_ ?_
  .simp only[T,a8,q];exact bu
  exact g.aA (Uv d z e t s y) [2] a (cy a A ⟨⟨_,bs.same⟩,.inr a,a,a,_,_,_,a,a,a,A⟩)
 rw[bm (by rw[<-o];exact q)];refine bR [-29] a ?_ ?_
 .simp only[T];exact⟨A,by omega,by omega,by omega,by simpa using q⟩
 refine⟨⟨l3 (0+(e:Int).toNat) [.int .i64 (lM d e).1,lm (hI (lM d e) cw)] (a2.fn d),?_⟩,.inr a,a,a,_,_,_,a,a,a,A⟩;have:=a2.cT d e (hI (lM d e) cw) (c d) (bA _);rw[o]at *;rw[show 0+(e:Int).toNat=e by omega];exact this
def Uw(d)(b)(z:c b<=4000000):
  Z p 90 [cD 0 (.A (c (d::b)) 1 0 (c (d::b))),R 0,R 1] [jF (c (d::b)) (d::b)] (cD 0 (.A (c (d::b)) 1 0 (c b))) [jF (c (d::b)) (b++[0])]:=by
 refine Z.I func90 rfl λy=>?_;refine bR [-16,906] a EO ?_;have j:bU (c (d::b)) (f 0)-bU 0 n+(bU (c (d::b)) n-bU 0 (f 1))=c b:=wA;rw[j];refine g.region ?_;refine gF [] 4 a A ?_;refine g.aK (a0.hZ bc a a a a a a a a a u bG (by simp<;>omega)) a a ?_;refine g.aK (a0.eX bc a a a a a a ?_) a a ?_
 .simp
 refine bR [907] a A (g.gR 0 (aA.fn (b++[0])) a (λ_ _=>rfl) (λw idx e x m s=>?_) ?_)
 .refine⟨m,?_,λ_ i=>i⟩;rw[<-s];congr 1;unfold nK qA;simp[fh]at e;have o:bU (c b+1) (f 0)-bU 0 n=0:=rfl;have k:bU 0 (f 1)=1:=rfl;have q:bU (c b+1) n=c b+1:=rfl;simp only[fh,cZ,o,k,q];have r:aA.fn (b++[0]) idx=aA.a2 ((b++[0]).getD idx 0):=rfl;rw[r];by_cases i:idx<c b
  .have h:(b++[0]).getD idx 0=b.getD idx 0:=dB;have t:aA.fn (d::b) (0+1+(idx-0))=aA.a2 (b.getD idx 0):=by rw[show 0+1+(idx-0)=idx+1 by omega];rfl
   rw[bm u,bo u,h,<-t]
  obtain rfl:idx=c b:=u;have h:(b++[0]).getD (c b) 0=0:=C;rw[bo u,h];rfl
 exact PO
end
def zl(b:Int)(a:dM):dM×Bool:=if hi b a=l then(ig a,qo a)else(hk,v)
def XM(h)(j)(o:pQ j)(p:dO j.1):Z (ah.aF V) 46 [R h,gy j] [] (jV (zl h j).1 (zl h j).2) []:=by
 refine Z.bb bc func46 rfl rfl rfl λS=>?_;have w:ba (ah.aF V) [(40,xw)]:=.cons Eu .nil;have E:=p.aY;have D:=o.fL;unfold zl;cases k:hi h j with
 |false=>
  refine be w [10] a ?_ ?_
  .simp only[T,a2.l,a2.T,bj.l,bj.T,a3.l,a3.T,aA.l,aA.T,k,o,a',a7,is]
  exact E3
 |true=>
 rw[bo a];have J:=tI.1 k;refine be w [-10] a ?_ ?_
 .simp only[T,a2.l,a2.T,bj.l,bj.T,a3.l,a3.T,aA.l,aA.T,k,o,a',a7,gw]
 refine g.aA (XH j p o.fO o.fL) [] a ?_;obtain⟨b,d,K⟩:=j;cases K with
 |nil=>
  have z:(ig (b,d,[]),qo (b,d,[]))=((b,d,[]),v):=rfl;rw[z];refine bR [17] a C (g.bN 2 a a a C C (g.bN 3 a a a C C (g.b9 () [] ?_ eW)));simp[h']
 |cons e i=>
  have F:wG (b,d,e::i) (c b.1) 0 b.1 (c b.1):=⟨gZ _,rfl,bA _,by simp[kv],p.bm⟩
  obtain⟨m,s,M,r⟩:=F.next J C;have x:c i<=4000000:=by have:c i+1<=4000000:=D;omega
  refine bR [-17] a ?_ ?_
  .simp<;>omega
  refine g.cI (WZ (b,d,e::i) e b.1 (c b.1) m b.2.1 b.2.2 d (e::i) (bA _) E s M p.bm) a a a a C a ?_;rintro⟨B,y⟩;refine cy a A (g.aA (Uw e i x) [3] a (cy a A ?_));have O:(ks d b.1 (c b.1) m).1.length=c b.1:=r.len;have Q:(ks d b.1 (c b.1) m).2<=c b.1:=r.gl;have I:(ig (b,d,e::i)).1.1=(ks d b.1 (c b.1) m).1.take (ks d b.1 (c b.1) m).2:=r.c1.symm;refine g.bN 2 a a a bu bu (g.bN 3 a a a C C (g.b9 () [] ?_ eW));generalize ks d b.1 (c b.1) m=N at *;simp only[T.Z,T,I,a',a7];and_intros<;>first|exact bs.same|rfl|(simp;omega)|skip
  .intro t q;have:=y t u;simp[h',this,c1.fn,gG,aj,h2,q,dA]
  intro t q;show aA.a2 ((i++[0]).getD t 0)=aA.a2 (i.getD t 0);simp[List.getElem?_append,q]
end R1
end Go.AM
