/- Part 7. No condition. -/
import Derived.Test.YtonljemllpgcbaaGreatDoorA6
set_option linter.all false
set_option maxHeartbeats 8000000
open Go.Proofs
open Go.Proofs.Tryz
open List renaming length → c, getD_eq_getElem?_getD → aj
open Go renaming Value → X, TypeId → al, World → ar, Frame → aG, Operand → ae, Program → aE, Goroutine → ai, Oper → ao
open Bool renaming true → l, false → v
open Go.Proofs.Tryz renaming prog → V
namespace Go.AM
variable {j z:Nat}{h:Int}{d i e t:Nat}{W:al}{H:X->(Nat->Option Obj)->Prop}{L:Array Bool}{bz:Mem}{E:Nat}{P:aE}{br:ai->a6->Prop}{r:Code}{B:ai}{q:ao}{b:a6}{o:al}{aa:X}{α:Type}{η:ae->x}{ι:Type}{k:m ap}{F:bJ}{all:m ao}{ds:Array al}{cap:m K}{cQ:m x}{k5:Nat->Option Obj}{ag:m aG}{bf:m (Nat×Bool)}{U:Nat->m K}{cP:ae}{gs:Array ai}{aU:m Nat}{cl:m Prop}{off:Nat}{op:BinOp}{aM:Array ao}{Y:m Prop}{bq:m ao}{aB:a6}{ty:al}{val:Nat->Nat->X}{y:m X}{bg:ar}{af:Array ae}{an dh:m ap}{res:ι->x}{aQ:ι->m ap}
variable {CT:m (Nat×bK)}{av:m im}{bd:fw}{ac:m (Nat×cm)}{a4:cm}
namespace R1
def ZB{d:Int×Int}{b:m (Int×Int)}(a:(gC d b).2=0):gC d b=(((c b:Int),fD b),0):=by
 unfold gC at *;split at a
 .rename_i e;rw[bo e];split at a
  .rename_i i;rw[bo i]
  simp at a
 simp at a
def Zz{d a9:m (Int×Int)}(a:f' (d++a9)=l):gC ((c d:Int),fD d) (d++a9)=(((c (d++a9):Int),fD (d++a9)),0):=by unfold gC;rw[bo ⟨a,by simp;omega,by simp⟩,bo C]
def Zm{i:Int}{b:cz}{d:dR}{bi:m (Int×Int)×m Int}(e:bi.2.getD (i-1).toNat 0=0)(a:d.1=0):gB i b d bi=(bi.1.set (i-1).toNat (gC (bi.1.getD (i-1).toNat (0,0)) b.2.2).1,bi.2.set (i-1).toNat (gC (bi.1.getD (i-1).toNat (0,0)) b.2.2).2):=by unfold gB;rw[bo e];simp[ny,a]
def YA{a:m α}{b d:α}(g:e<c a):(a.set e b).getD e d=b:=by simp[aj,g]
def Zy{d:Int×Int}{b e:m (Int×Int)}(a:(gC d b).2=0)(i:f' (b++e)=l):(gC d (b++e)).2=0:=by
 unfold gC at *;split at a
 .rename_i g;split at a
  .rename_i j;have h:d.1.toNat<=c b:=u;rw[bo ⟨i,by simp;omega,g.2.2⟩,bo (by rw[List.take_append_of_le_length h];exact j)]
  simp at a
 simp at a
structure j2(b:fO):Prop where
 fM:b.2.1.1=0
 fC:b.2.2.2=[0,0]
 len:c b.2.2.1=2
 gv:∀e,e<2->(gC (b.2.2.1.getD e (0,0)) b.1.1.2.2).2=0
def j2.look{b:fO}(e:j2 b)(p:f' b.1.1.2.2=l){i:Int}(q:1<=i/\i<=2):j2 (b.1,b.2.1,gB i b.1.1 b.2.1 b.2.2):=by
 have a:(i-1).toNat<2:=u;have j:b.2.2.2.getD (i-1).toNat 0=0:=by
  rw[e.fC]
  match(i-1).toNat,a with
  |0,_=>rfl
  |1,_=>rfl
 have m:=Zm (i:=i) (b:=b.1.1) (d:=b.2.1) (bi:=b.2.2) j e.fM;rw[ZB (e.gv _ a)]at m;rw[m];refine⟨e.fM,?_,by simp[e.len],λg k=>?_⟩
 .show b.2.2.2.set (i-1).toNat 0=[0,0];rw[e.fC]
  match(i-1).toNat,a with
  |0,_=>rfl
  |1,_=>rfl
 show (gC ((b.2.2.1.set (i-1).toNat ((c b.1.1.2.2:Int),fD b.1.1.2.2)).getD g (0,0)) b.1.1.2.2).2=0;by_cases o:(i-1).toNat=g
 .subst o;rw[YA (by rw[e.len];exact a)];have:=Zz (d:=b.1.1.2.2) (a9:=[]) (by simpa using p);rw[hp]at this;rw[this]
 have h:(b.2.2.1.set (i-1).toNat ((c b.1.1.2.2:Int),fD b.1.1.2.2)).getD g (0,0)=b.2.2.1.getD g (0,0):=by simp only[aj,j9 o]
 rw[h];exact e.gv g k
def j2.cn{b:fO}(d:j2 b){Q:dM}{a9:m (Int×Int)}(h:Q.1.2.2=b.1.1.2.2++a9)(a:f' Q.1.2.2=l):j2 (Q,b.2.1,b.2.2):=by refine⟨d.fM,d.fC,d.len,λg e=>?_⟩;show(gC (b.2.2.1.getD g (0,0)) Q.1.2.2).2=0;rw[h]at a⊢;exact Zy (d.gv g e) a
def j2.do{b:fO}{au:ej}(d:j2 b)(r:eA j b)(o:jX (h,b)=l)(w:au.1≠3):j2 (cI h b au).1:=by
 obtain⟨q,u⟩:=zC.1 o;have k:=q.dn;unfold cI;split
 .split
  .rename_i dt;have m:=d.look k dt.1;unfold nE;split
   .split
    .rename_i e;obtain⟨t,g,p⟩:=LZ r.a.bn.eG e;rw[p];have s:j2 (oz h b.1 au.2.1 au.2.2.1,b.2.1,gB au.2.1 b.1.1 b.2.1 b.2.2):=m.cn (a9:=[(au.2.1,dr b.1.1)]) a g.ok.dn;exact s.look g.ok.dn dt.1
    exact m
   exact m
  exact d
 split
 .split
  .rename_i dt;exact d.look k dt
  exact d
 split
 .split
  .have i:(iM h b.1.1 au.2.2.2.2).1.1.2.2=b.1.1.2.2:=by unfold iM;rw[bo (rZ.2 q.tojz)]
   exact d.cn (Q:=(iM h b.1.1 au.2.2.2.2).1) (a9:=[]) (by rw[i,hp]) (by rw[i];exact k)
  exact d
 split
 .have i:(ig b.1).1.2.2=b.1.1.2.2:=by unfold ig;split<;>rfl
  exact d.cn (Q:=ig b.1) (a9:=[]) (by rw[i,hp]) (by rw[i];exact k)
 exact d
def j2.zero:j2 DY:=⟨rfl,rfl,rfl,λe bp=>by
 match e,bp with
 |0,_=>rfl
 |1,_=>rfl⟩
def LQ{j:Int}:∀(d:m ej){k:Nat}{b:fO},eA k b->jX (j,b)=l->j2 b->(∀g∈d,g.1≠3)->j2 (eb j b d)
 |[],_,_,_,_,h,_=>h
 |g::d,k,b,e,a,h,i=>LQ d e.do (Ic e.a a) (h.do e a (i g C)) λp o=>i p (by simp[o])
abbrev kr(b:m ej):m ej:=b.filter λa=>!(a.1==3)
def VI(k j:al×X)(r:Nat)(w:Nat->Int)(I:Bytes w)(_:r<=9223372036854775807):Z (ah.aF V) 4 [ax (.A v 1 r (p9 w))] (hy k j) (bh l) (hy k j):=by
 refine Z.I func4 rfl λab=>?_;by_cases L:1048576<r
 .refine a5 [15] a bQ (g.aJ [0,1,2] a ?_ ng);simp
 refine a5 [-15] a bQ (g.aX (IC r w I u) [] a bk ?_);rintro⟨⟨h,b|⟨s,m⟩⟩,i⟩
 rotate_left
 .have i:31<=s/\s<=40:=i;refine aO a A (g.bH (IZ (p:=ah.aF V) h s m i).tocH [] a a a a C a a a bk a bk a ?_);rintro -;refine aO a A (g.bH (IX k j h s m i).tocH [0,1,2] a a a a C a a a bk a bk a ?_);rintro -;exact QM
 have i:c b<=30:=i;refine aO a A (g.bH (IY (p:=ah.aF V) h b u).tocH [] a a a a C a a a bk a bk a ?_);rintro -;refine aO a A (g.bH (x1 k j h b u).tocH [0,1,2] a a a a C a a a bk a bk a ?_);rintro -;by_cases e:cj h=l
 rotate_left
 .have D:ov h b=(jY,v):=bm λz=>e z.1;rw[D];exact QM
 have D:ov h b=((h,eb h (cb h).2 b),l):=bo ⟨e,i⟩;rw[D];have N:eA (0+c b) (eb h (cb h).2 b):=tw (h:=h) b eA.zero;have Q:=N.hj (p:=ah.aF V) (h:=h);generalize eb h (cb h).2 b=o at *;have S:ba (ah.aF V) [(8,e9 [g2 (h,o),g2 (h,o)] (bh l))]:=.cons (fu Q) .nil;refine be S [-36,-42,-45,909] a C (g.bB 9 45 8 a a ?_);refine aO a A (g.aC 6 (λd=>d<=c b) (λd:Nat=>[(3,R h),(4,dL.A b),(9,.n (.R (.w 5 8 (c (kr (b.take d))) (dL.fn (kr (b.take d)))))),(10,R d)]) (λd=>hy k j++[.cells 38 (ii (h,o)),.cells 38 (ii (h,o)),Ng (kr (b.take d))]) (λd=>c b-d) 0 a C a C a u ?_);intro d B;have ag:c (kr (b.take d))<=d:=fG (j7 _ _) bQ;by_cases z:d<c b
 .have F:b.take (d+1)=b.take d++[b.getD d dL.D]:=by rw[sy];simp[aj,z]
  by_cases t:(b.getD d dL.D).1=3
  .have q:kr (b.take (d+1))=kr (b.take d):=by rw[F];simp[kr];simpa[aj]using t
   refine a5 [58,-66] a ?_ (g.aw (d+1) a ?_ ?_ ?_ ?_)
   .simp only[T,a8,bw,a',a7];have:((b.getD (d:Int).toNat dL.D).1 != 3)=v:=by rw[cZ];simpa using t
    and_intros<;>first|exact this|omega|rfl
   .rw[q];simp
   .rw[q];simp
   .omega
   omega
  have q:kr (b.take (d+1))=kr (b.take d)++[b.getD d dL.D]:=by
   rw[F];have:(!((b.getD d dL.D).1==3))=l:=by simpa using t
   simp only[kr,List.filter_append,rg,this,dA,List.filter_nil]
  have bT:=dL.aW (kr (b.take d)) (b.getD d dL.D);refine a5 [58,66] a ?_ (g.aw (d+1) a ?_ ?_ ?_ ?_)
  .simp only[T,a8,bw,a',a7];have:((b.getD (d:Int).toNat dL.D).1 != 3)=l:=by rw[cZ];simpa using t
   and_intros<;>first|exact this|omega|rfl|(show(_+1)*104<=_;omega)
  .exact Pk
  .exact Pk
  .omega
  omega
 obtain rfl:d=c b:=u;rw[cY]at *;have O:j2 (eb h (cb h).2 (kr b)):=LQ _ eA.zero (EF e) j2.zero λaf G=>by simpa using(iK.1 G).2
 have x:=x1 k j h (kr b) u;rw[show ov h (kr b)=((h,eb h (cb h).2 (kr b)),l)from bo ⟨e,by omega⟩]at x;generalize eb h (cb h).2 (kr b)=M at *;refine a5 [-58] a C (g.az ?_);refine aO a A (g.bH x.tocH [0,1,2] a a a a C a a a bk a bk a ?_);rintro -;have Y:=O.fC;have U:=O.fM;obtain⟨ae,aa,H,J⟩:=M;obtain rfl:J=[0,0]:=Y;have y:ba (ah.aF V) [(10,uP)]:=.cons zn .nil;have E:aA.ad 2 (λd=>[[K.int .i64 0],[K.int .i64 0]].getD d [])=[0,0]:=rfl;have W:aA.bM 2 (λd=>[[K.int .i64 0],[K.int .i64 0]].getD d []):=by
  intro d B;obtain rfl|rfl:d=0∨d=1:=u
  .rfl
  rfl
 refine a_ y [81,87] a ?_ (g.aJ [0,1,2] a ?_ ng)
 .simp only[T,aA.T,aA.l,E,a',a7];and_intros<;>first|exact W|exact E|rfl
 simpa using U
end R1
end Go.AM
