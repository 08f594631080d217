/- Part 7. No condition. -/
import Derived.Test.YtonljemllpgcbaaGreatDoorA6
set_option linter.all false
set_option maxHeartbeats 8000000
open Go.Proofs
open Go.Proofs.Tryz
open List renaming length → c, getD_eq_getElem?_getD → aj
open Go renaming Value → X, TypeId → al, World → ar, Frame → aG, Operand → ae, Program → aE, Goroutine → ai, Oper → ao
open Option renaming some → f, none → n
open Bool renaming true → l, false → v
open Go.Proofs.Tryz renaming prog → V
namespace Go.AM
variable {j z:Nat}{h:Int}{d i e t:Nat}{W:al}{H:X->(Nat->Option Obj)->Prop}{L:Array Bool}{bz:Mem}{E:Nat}{P:aE}{br:ai->a6->Prop}{r:Code}{B:ai}{q:ao}{b:a6}{o:al}{aa:X}{α:Type}{η:ae->x}{ι:Type}{k:m ap}{F:bJ}{all:m ao}{ds:Array al}{cap:m K}{cQ:m x}{k5:Nat->Option Obj}{ag:m aG}{bf:m (Nat×Bool)}{U:Nat->m K}{cP:ae}{gs:Array ai}{aU:m Nat}{cl:m Prop}{off:Nat}{op:BinOp}{aM:Array ao}{Y:m Prop}{bq:m ao}{aB:a6}{ty:al}{val:Nat->Nat->X}{y:m X}{bg:ar}{af:Array ae}{an dh:m ap}{res:ι->x}{aQ:ι->m ap}
variable {CT:m (Nat×bK)}{av:m im}{bd:fw}{ac:m (Nat×cm)}{a4:cm}
namespace R1
abbrev BX(e d:al×X)(a:Int)(b g j:fO)(h i:Bool):m ap:=
 match h,i with
 |false,_=>hy e d++[.cells 38 (ii (a,b)),.cells 38 (ii (a,b)),.cells 38 (ii (a,g))]
 |true,v=>hy e d++[.cells 38 (ii (a,b)),.cells 38 (ii (a,b)),.cells 38 (ii (a,g)),fL]
 |true,l=>hy e d++[.cells 38 (ii (a,b)),.cells 38 (ii (a,b)),.cells 38 (ii (a,g)),.cells 38 (ii (a,j))]
abbrev adP(b:Int)(e:m ej)(d:Nat)(i g:fO)(a:Bool)(h:Nat):x:=
 [g2 (b,i),dL.A e,R d,ax (.O (dL.fn e d)),nb (e.getD d dL.D),nH ((b,g),a),nH ((b,g),a),g2 (b,g),bh a,aI 6 0,.any,bh a].getD h .any
def VH(m j:al×X)(z r:Nat)(i G:Nat->Int)(Q:Bytes i)(_:Bytes G)(_:z<=9223372036854775807)(_:r<=9223372036854775807):Z (ah.aF V) 3 [ax (.A v 1 z (p9 i)),ax (.A v 1 r (p9 G))] (hy m j) (bh l) (hy m j):=by
 refine Z.I func3 rfl λai=>?_;by_cases P:1048576<z
 .refine a5 [20,24] a bQ (g.aJ [0,1,2] a ?_ ng);simp
 by_cases ae:1048576<r
 .refine a5 [-20,24] a bQ (g.aJ [0,1,2] a ?_ ng);simp
 refine a5 [-20,-24] a bQ (g.aX (IC z i Q u) [] a bk ?_);rintro⟨⟨h,b|⟨B,t⟩⟩,o⟩
 rotate_left
 .have o:31<=B/\B<=40:=o;refine aO a A (g.bH (IZ (p:=ah.aF V) h B t o).tocH [] a a a a C a a a bk a bk a ?_);rintro -;refine aO a A (g.bH (IX m j h B t o).tocH [0,1,2] a a a a C a a a bk a bk a ?_);rintro -;exact Qb
 have o:c b<=30:=o;refine aO a A (g.bH (IY (p:=ah.aF V) h b u).tocH [] a a a a C a a a bk a bk a ?_);rintro -;refine aO a A (g.bH (x1 m j h b u).tocH [0,1,2] a a a a C a a a bk a bk a ?_);rintro -;by_cases k:cj h=l
 rotate_left
 .have K:ov h b=(jY,v):=bm λs=>k s.1;rw[K];exact Qb
 have K:ov h b=((h,eb h (cb h).2 b),l):=bo ⟨k,o⟩;rw[K];have O:=tw (h:=h) b eA.zero;have W:eA (0+c b) (eb h (cb h).2 b):=O;have J:=W.hj (p:=ah.aF V) (h:=h);generalize ab:eb h (cb h).2 b=q at *;have N:ba (ah.aF V) [(8,e9 [g2 (h,q),g2 (h,q)] (bh l))]:=.cons (fu J) .nil;have aa:0<=(r:Int) % ((c b:Int)+1):=ri _ u;have ag:(r:Int) % ((c b:Int)+1)<c b+1:=q' _ u;refine be N [-45,-51,-54] a kT ?_;generalize(r:Int) % ((c b:Int)+1)=ak at *;obtain⟨e,rfl⟩:=Int.eq_ofNat_of_zero_le aa;have af:e<=c b:=u;have aY:=x1 m j h (b.take e) bQ;rw[show ov h (b.take e)=((h,eb h (cb h).2 (b.take e)),l)from bo ⟨k,by simp;omega⟩]at aY;have M:bs e (dL.fn b) (dL.fn (b.take e)):=λd y=>by
  have:(b.take e).getD d dL.D=b.getD d dL.D:=by simp[aj,h2,y]
  show dL.a2 (b.getD d dL.D)=dL.a2 ((b.take e).getD d dL.D);rw[this]
 refine g.bH aY.tocH [0,1,2] a a a a ?_ a a a bk a bk a ?_
 .have H:bU (c b) (f (e:Int))-bU 0 n=e:=rfl;have S:fs (bU 0 n) (dL.fn b)=dL.fn b:=by funext d;show dL.fn b (0+d)=_;rw[cW]
  simp only[T.Z,T,H,S,a',a7];exact⟨by simp;omega,M⟩
 rintro -;refine aO a A (g.aC 6 (λd=>e<=d/\d<=c b) (λd:Nat=>[(6,dL.A b),(9,aI 4 0),(12,aI 5 0),(13,bh l),(14,R d)]) (λd=>BX m j h q (eb h (cb h).2 (b.take d)) q v v) (λd=>c b-d) e a C a C a u ?_);intro d y;have U:=tw (h:=h) (b.take d) eA.zero;have Y:=DV (b.take d) eA.zero (EF k);by_cases s:d<c b
 .have L:eb h (cb h).2 (b.take (d+1))=(cI h (eb h (cb h).2 (b.take d)) (b.getD d dL.D)).1:=Ft;have F:=Jd m j (h,eb h (cb h).2 (b.take d)) (b.getD d dL.D) (c (b.take d)) (by simpa using U.a) bQ;rw[show xS (h,eb h (cb h).2 (b.take d)) (b.getD d dL.D)=((h,(cI h (eb h (cb h).2 (b.take d)) (b.getD d dL.D)).1),(cI h (eb h (cb h).2 (b.take d)) (b.getD d dL.D)).2)from bo Y]at F;refine a5 [81,913] a bQ ?_;generalize eb h (cb h).2 (b.take d)=E at *;generalize cI h E (b.getD d dL.D)=D at *;refine g.b_ b5 (adP h b d E D.1 D.2) (nh (BX m j h q E D.1) 9 10) a a a a
   ⟨.bk,.bk,.bk,.df bc N (cv:=by simp;omega),.bk,
   cd.fR a a (λw i=>aZ.dQ (by cases w<;>cases i<;>exact dV.bH F.tocH [0,1,2] a a a a C a a a bk a bk)),
   .bk,.bk,.bk,
   cd.fb a a (ef (bf:=[]) bc N (an:=f _) a A),cd.fc a a (ef (bf:=[]) bc N (an:=f _) a A),.bk,A⟩ ?_
  intro x I;show g _ _ _ _ _ _ (BX m j h q E D.1 (x 9) (x 10));rw[I 9 ca,I 10 ca];refine aO a kT (g.aw (d+1) a C ?_ ?_ ?_)
  .rw[L];simp
  .omega
  omega
 obtain rfl:d=c b:=u;rw[cY,ab]at *;refine a5 [-81] a C (g.az ?_);refine a_ N [95] a C (g.aJ [0,1,2] a ?_ ng);simp
end R1
end Go.AM
