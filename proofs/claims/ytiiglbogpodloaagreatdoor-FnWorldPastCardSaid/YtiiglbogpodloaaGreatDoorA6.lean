/- Part 6. No condition. -/
import Derived.Test.YtiiglbogpodloaaGreatDoorA5
set_option linter.all false
set_option maxHeartbeats 8000000
open Go.Proofs
open Go.Proofs.Tryz
open List renaming length → c, range → aA, getD_eq_getElem?_getD → al, all_eq_true → aW
open Go renaming Value → X, TypeId → an, World → au, Frame → aG, Operand → ae, Program → aD, Goroutine → ag, Oper → ao
open Option renaming some → f, none → n
open Bool renaming true → l, false → v
open Nat renaming ble → ay
open Go.Proofs.Tryz renaming prog → S
namespace Go.AM
variable {j A:Nat}{h:Int}{d i e u:Nat}{W:an}{H:X->(Nat->Option Obj)->Prop}{L:Array Bool}{bB:Mem}{F:Nat}{P:aD}{br:ag->a6->Prop}{s:Code}{C:ag}{r:ao}{b:a6}{o:an}{aa:X}{p:au}{α:Type}{η:ae->y}{ι:Type}{k:m ar}{J:bM}{all:m ao}{dt:Array an}{cap:m M}{cS:m y}{lc:Nat->Option Obj}{ai:m aG}{bf:m (Nat×Bool)}{V:Nat->m M}{cQ:ae}{gs:Array ag}{aY:m Nat}{cp:m Prop}{off:Nat}{op:BinOp}{aV:Array ao}{Z:m Prop}{bq:m ao}{aF:a6}{ty:an}{val:Nat->Nat->X}{z:m X}{bi:au}{ah:Array ae}{aq di:m ar}{res:ι->y}{aX:ι->m ar}
variable {CT:m (Nat×bI)}{av:m iv}{be:fF}{ac:m (Nat×cq)}{a5:cq}
namespace R1
section
variable {q:af S}
def I6(d)(h:c d<=4000000):Y q 66 [az.B d] [] (cE 0 (.B (c d) 1 0 (c d))) [jO (c d) d]:=by
 refine Y.I func66 rfl λi=>?_;refine aR a B (g.er bb a a a a a a λb e=>?_);cases b with
 |true=>
  obtain rfl:=jK (e rfl);refine aR a B (g.e' 2 3 1 (az.fn []) a ?_);exact FL
 |false=>
  refine gv [] 7 a B (g.dJ 5 3 1 (az.fn []) a ?_);refine aR a ⟨a,a,show(0+c d)*8<=_ by omega⟩ (g.bb [jO (c d) d] a ?_ ?_)
  .simp[bs,cj]
  exact FW
abbrev H_(a:dP)(b:Bool):m Q:=[.O 2 (.B (c a.1.1) 2 0 (c a.1.1)),.O 3 (.B (c a.1.2.1) 2 0 (c a.1.2.1)),cL a3 a.1.2.2,cL az (az.ad (c a.2.1) (az.fn a.2.1)),.O 4 (.B (c a.2.2) 1 0 (c a.2.2))]
abbrev H9(a:dP)(b d e g:Bool):m ar:=
 match b,d,e,g with
 |false,_,_,_=>[gx a,.cells 33 lC]
 |true,_,v,_=>[gx a,.cells 33 lC,.q 86 2 (c a.1.1) (a2.fn a.1.1),.q 90 2 (c a.1.2.1) (bh.fn a.1.2.1)]
 |true,_,l,v=>[gx a,.cells 33 lC,.q 86 2 (c a.1.1) (a2.fn a.1.1),.q 90 2 (c a.1.2.1) (bh.fn a.1.2.1),jO (c a.2.2) a.2.2]
 |true,_,l,l=>[gx a,.cells 33 (H_ a l),.q 86 2 (c a.1.1) (a2.fn a.1.1),.q 90 2 (c a.1.2.1) (bh.fn a.1.2.1),jO (c a.2.2) a.2.2]
abbrev aeS(a:dP)(b:Nat):y:=
 [aI 0 0,bX a.1,.n (.agg [.O 2 (.B (c a.1.1) 2 0 (c a.1.1)),.O 3 (.B (c a.1.2.1) 2 0 (c a.1.2.1)),cL a3 a.1.2.2]),aI 0 3,az.B a.2.1,az.B (az.ad (c a.2.1) (az.fn a.2.1)),aI 0 4,az.B a.2.2,cE 4 (.B (c a.2.2) 1 0 (c a.2.2)),
  .n (.agg (H_ a l)),.any].getD b .any
def YE(p)(i:dJ p.1)(d:c p.2.1<=4000000)(j:c p.2.2<=4000000):Y q 64 [gE p] [] (.n (.agg [.O 0 (.B (c p.1.1) 2 0 (c p.1.1)),cL bh p.1.2.1,cL a3 p.1.2.2,cL az p.2.1,.O 1 (.B (c p.2.2) 1 0 (c p.2.2))])) [.q 86 2 (c p.1.1) (a2.fn p.1.1),jO (c p.2.2) p.2.2]:=by
 refine Y.bh bb func64 rfl rfl rfl λm=>?_
 have x:a' q [(103,la [bX p.1] [] (.n (.agg [.O 0 (.B (c p.1.1) 2 0 (c p.1.1)),.O 1 (.B (c p.1.2.1) 2 0 (c p.1.2.1)),.c (.B v 2 (c p.1.2.2) (a3.fn p.1.2.2))])) [.q 86 2 (c p.1.1) (a2.fn p.1.1),.q 90 2 (c p.1.2.1) (bh.fn p.1.2.1)]),
   (66,dc (eS az) (λb=>az.B b) λb=>[c b<=4000000])]:=.cons (mb (pf p.1 i.a0 i.bn i.a1 i.bt i.aM)) (.cons (.a9 λb h=>CC b h) .nil)
 have hY:a' q [(66,la [az.B p.2.2] [] (cE 0 (.B (c p.2.2) 1 0 (c p.2.2))) [jO (c p.2.2) p.2.2])]:=.cons (mb (I6 p.2.2 j)) .nil;refine bd x [901] a B ?_;refine g.b9 b6 (aeS p) (mD (H9 p) 2 5 8 10) a a a a
  ⟨.aU,.aU,bV.eb a a a a a a (dT (bf:=[]) bb x (aq:=f _) a D),.aU,.aU,bV.eT a a a a a a (aT.eval (bf:=[]) bb x a (by exact⟨az.U _,by rw[az.l];exact d⟩)),.aU,.aU,bV.eU a a a a a a (dT (bf:=[]) bb hY (aq:=f _) a bF),.aU,
   bV.eV a a a a a a (dT (bf:=[]) bb x (aq:=f _) a B),B⟩ ?_
 intro y O;show g q _ _ _ _ _ (H9 p (y 2) (y 5) (y 8) (y 10));rw[O 2 b',O 5 b',O 8 b',O 10 b'];refine tH x [] 1 a B (g.bL 3 a a a D D (g.bb [gx p,.cells 33 [.O 2 (.B (c p.1.1) 2 0 (c p.1.1)),cL bh p.1.2.1,cL a3 p.1.2.2,cL az p.2.1,.O 4 (.B (c p.2.2) 1 0 (c p.2.2))],.q 86 2 (c p.1.1) (a2.fn p.1.1),.N,jO (c p.2.2) p.2.2] a ?_ ?_))
 .simp[az.l,ik]
 refine g.bg () [2,4] ?_ (λk e=>absurd e D);simp
abbrev t':ar:=.cells 33 lC
abbrev wm(h g:Nat)(d:m ej)(e:m (Int×Int))(b a:m Int):ar:=.cells 33 [.O 2 (.B h 2 0 g),cL bh d,cL a3 e,cL az b,.O 3 (.B (c a) 1 0 (c a))]
abbrev ae3(d:m cb)(g b:Nat)(a:m Int)(e:Nat):y:=
 [aI 4 0,aI 4 0,aI 4 0,aI 4 0,cE 2 (.B (c d) 2 0 g),R b,cE 2 (.bx (c d) 2 (0+(b:Int).toNat) 0),fR (lT d b),
  aI 4 0,aI 4 0,aI 4 3,az.B a,fR (hO (lT d b) a),aI 6 0,.any].getD e .any
abbrev Ma(i:dP)(d:m cb)(h o:Nat)(e:m ej)(g:m (Int×Int))(b a:m Int)(j k:Bool):m ar:=
 match j,k with
 |false,_=>[gx i,t',qe d,jO (c a) a,wm (c d) h e g b a,.N]
 |true,v=>[gx i,t',qe d,jO (c a) a,wm (c d) h e g b a,.N,.cells 86 [.c (.int .i64 0),cG]]
 |true,l=>[gx i,t',qe d,jO (c a) a,wm (c d) h e g b a,.N,Mb d o b]
set_option maxRecDepth 20000 in
def XV(p)(bN)(d)(A e)(dA)(k)(cy b)(t:A<=c d)(u:c d<=4000000)(s:e<A)(E:gX (λj:cb=>j.1==bN) (d.take A)=e)(C:∀j∈d,c j.2<=4000000):
  bm (ι:={h:Nat->m M // bs (c d) h (a2.fn (kw cy d A e).1)}) q 108 [aI 4 0,R bN] [gx p,t',qe d,jO (c b) b,wm (c d) A dA k cy b] (λ_=>.T []) (λh=>[gx p,t',.q 86 2 (c d) h.1,jO (c b) b,wm (c d) (kw cy d A e).2 dA k cy b,.N,Mb d e cy]):=by
 refine bm.bN func108 rfl rfl rfl (g.aQ ?_);refine bO [901] a B (g.freeze 3 5 a a a ?_);refine cA a B (g.aB (V8 d A t u 148 [.int .i64 bN] (λj=>j.1==bN) λj _=>Wq j bN) [2] a ?_);rw[E];have o:lT d e=d.getD e (0,[]):=nX;have i:lT d e∈d:=by rw[o];grind
 have x:a' q [(149,dS [fR (lT d e),az.B cy] (fR (hO (lT d e) cy)))]:=.cons (d9 (WN (lT d e) cy (C _ i))) .nil;have cx:0<=(e:Int)/\(e:Int)<((A:Nat):Int):=w;have D:c d=c d/\0+(e:Int).toNat<c d:=⟨rfl,by omega⟩
 refine bO [902] a B ?_;refine g.b9 b6 (ae3 d A e cy) (mC (Ma p d A e dA k cy b) 13 14) a a a a
  ⟨.ba,.ba,.ba,.ba,.ba,.ba,.c8 bb x (cx:=by exact cx),.c8 bb x (cx:=by exact D),.ba,.ba,.ba,.ba,.c8 bb x (cx:=by exact a),
   bV.eM a a (dT (bf:=[]) bb x (aq:=f _) a B),bV.eN a a (dT (bf:=[]) bb x (aq:=f _) a B),B⟩ ?_
 intro y z;show g q _ _ _ _ _ (Ma p d A e dA k cy b (y 13) (y 14));rw[z 13 b',z 14 b'];unfold kw;by_cases r:(hO (lT d e) cy).2.length=0
 .rw[bl (by rw[<-o];exact r)];refine bO [29] a ?_ ?_
  .simp only[U,a8,r];exact bv
  exact g.aB (Vo d A e t s u) [2] a (cA a B ⟨⟨_,bs.same⟩,.inr a,a,a,_,_,_,a,a,a,B⟩)
 rw[bj (by rw[<-o];exact r)];refine bO [-29] a ?_ ?_
 .simp only[U];exact⟨B,by omega,by omega,by omega,by simpa using r⟩
 refine⟨⟨l' (0+(e:Int).toNat) [.int .i64 (lT d e).1,lw (hO (lT d e) cy)] (a2.fn d),?_⟩,.inr a,a,a,_,_,_,a,a,a,B⟩;have:=a2.cV d e (hO (lT d e) cy) (c d) (bC _);rw[o]at *;rw[show 0+(e:Int).toNat=e by omega];exact this
def Vp(d)(b)(z:c b<=4000000):
  Y q 109 [cE 0 (.B (c (d::b)) 1 0 (c (d::b))),R 0,R 1] [jO (c (d::b)) (d::b)] (cE 0 (.B (c (d::b)) 1 0 (c b))) [jO (c (d::b)) (b++[0])]:=by
 refine Y.I func109 rfl λy=>?_;refine bO [-16,906] a Fp ?_;have j:bW (c (d::b)) (f 0)-bW 0 n+(bW (c (d::b)) n-bW 0 (f 1))=c b:=wS;rw[j];refine g.region ?_;refine gv [] 4 a B ?_;refine g.aL (a1.hQ bb a a a a a a a a a w bF (by simp<;>omega)) a a ?_;refine g.aL (a1.eX bb a a a a a a ?_) a a ?_
 .simp
 refine bO [907] a B (g.gN 0 (az.fn (b++[0])) a (λ_ _=>rfl) (λu idx e x m s=>?_) ?_)
 .refine⟨m,?_,λ_ i=>i⟩;rw[<-s];congr 1;unfold nV qJ;simp[fs]at e;have o:bW (c b+1) (f 0)-bW 0 n=0:=rfl;have k:bW 0 (f 1)=1:=rfl;have p:bW (c b+1) n=c b+1:=rfl;simp only[fs,cW,o,k,p];have r:az.fn (b++[0]) idx=az.a8 ((b++[0]).getD idx 0):=rfl;rw[r];by_cases i:idx<c b
  .have h:(b++[0]).getD idx 0=b.getD idx 0:=du;have t:az.fn (d::b) (0+1+(idx-0))=az.a8 (b.getD idx 0):=by rw[show 0+1+(idx-0)=idx+1 by omega];rfl
   rw[bj w,bl w,h,<-t]
  obtain rfl:idx=c b:=w;have h:(b++[0]).getD (c b) 0=0:=D;rw[bl w,h];rfl
 exact Qx
end
def zJ(b:Int)(a:dP):dP×Bool:=if hp b a=l then(h7 a,qx a)else(hr,v)
def YJ(h)(p)(m:p1 p)(o:dJ p.1):Y (af.ay S) 63 [R h,gE p] [] (j4 (zJ h p).1 (zJ h p).2) []:=by
 refine Y.bh bb func63 rfl rfl rfl λT=>?_;have t:a' (af.ay S) [(58,xQ)]:=.cons E3 .nil;have E:=o.a0;have C:=m.fJ;unfold zJ;cases j:hp h p with
 |false=>
  refine bd t [10] a ?_ ?_
  .simp only[U,a2.l,a2.U,bh.l,bh.U,a3.l,a3.U,az.l,az.U,j,m,ba,a9,hT]
  exact FU
 |true=>
 rw[bl a];have J:=sb.1 j;refine bd t [-10] a ?_ ?_
 .simp only[U,a2.l,a2.U,bh.l,bh.U,a3.l,a3.U,az.l,az.U,j,m,ba,a9,fB]
 refine g.aB (YE p o m.gv m.fJ) [] a ?_;obtain⟨b,d,K⟩:=p;cases K with
 |nil=>
  have z:(h7 (b,d,[]),qx (b,d,[]))=((b,d,[]),v):=rfl;rw[z];refine bO [17] a D (g.bL 2 a a a D D (g.bL 3 a a a D D (g.cc () [] ?_ eN)));simp[ik]
 |cons e i=>
  have F:wY (b,d,e::i) (c b.1) 0 b.1 (c b.1):=⟨g5 _,rfl,bC _,by simp[kA],o.bn⟩
  obtain⟨k,s,M,r⟩:=F.next J D;have x:c i<=4000000:=by have:c i+1<=4000000:=C;omega
  refine bO [-17] a ?_ ?_
  .simp<;>omega
  refine g.cL (XV (b,d,e::i) e b.1 (c b.1) k b.2.1 b.2.2 d (e::i) (bC _) E s M o.bn) a a a a D a ?_;rintro⟨A,y⟩;refine cA a B (g.aB (Vp e i x) [3] a (cA a B ?_));have O:(kw d b.1 (c b.1) k).1.length=c b.1:=r.len;have Q:(kw d b.1 (c b.1) k).2<=c b.1:=r.gj;have I:(h7 (b,d,e::i)).1.1=(kw d b.1 (c b.1) k).1.take (kw d b.1 (c b.1) k).2:=r.c6.symm;refine g.bL 2 a a a bv bv (g.bL 3 a a a D D (g.cc () [] ?_ eN));generalize kw d b.1 (c b.1) k=N at *;simp only[U.Y,U,I,ba,a9];and_intros<;>first|exact bs.same|rfl|(simp;omega)|skip
  .intro u q;have:=y u w;simp[ik,this,c6.fn,gK,al,iA,q,dx]
  intro u q;show az.a8 ((i++[0]).getD u 0)=az.a8 (i.getD u 0);simp[List.getElem?_append,q]
def A9{j}{d}{b}(g:∀h,h<b->d.getD h 0<j)(e:b<c d->j<=d.getD b 0):∀a,a<=c d->(fH j d a).2=decide (b<a)
 |0,_=>by simp[fH]
 |a+1,p=>by
  have m:=A9 g e a w;rw[xl w];generalize fH j d a=k at *;unfold gw;by_cases o:b<a
  .grind
  by_cases i:b=a
  .subst i;have:=e w;grind
  have:=g a w;grind
def SQ{j}{d}{a}(g:∀i,i<a->d.getD i 0<j)(b:a<c d->j<=d.getD a 0)(h:e<c d):
  (fH j d (e+1)).1=(fH j d e).1++(if e=a then[j]else[])++(if d.getD e 0≠j then[d.getD e 0]else[]):=by
 have o:=A9 g b e w;rw[xl h];generalize fH j d e=m at *;unfold gw;by_cases p:a<e
 .grind
 by_cases k:a=e
 .subst k;have:=b h;grind
 have:=g e w;grind
def Z5{j}{d}{a}(e:∀b,b<a->d.getD b 0<j)(g:a<c d->j<=d.getD a 0)(i:a<=c d):fe d j=(fH j d (c d)).1++(if a=c d then[j]else[]):=by
 have:=A9 e g (c d) (bC _);have h:fH j d (c d)=d.foldl (gw j) ([],v):=by unfold fH;rw[c8]
 unfold fe;rw[<-h];grind
section
variable {q:af S}
def V2(d)(i)(ai)(h:Int->Bool)(u:∀j,j∈d->Y q i [R j,ax (.Q ai)] [] (bg (h j)) []):
  Y q 131 [az.B d,ax (.fn (.func i) [] [.Q ai])] [] (R (gX h d)) []:=by
 refine Y.I func131 rfl λt=>?_;have y:=t.B 0 a;refine aR a B (g.aH 0 (λb=>b<=c d/\∀e,e<b->h (d.getD e 0)=v) (λb:Nat=>[(0,az.B d),(1,ax (.fn (.func i) [] [.Q ai])),(7,R (c d)),(8,R b)]) (λ_=>[]) (λb=>c d-b) 0 a D a B a ⟨by omega,by omega⟩ ?_);rintro b ⟨s,k⟩;by_cases p:b<c d
 .have r:d.getD b 0∈d:=N;have m:d.getD (b:Int).toNat az.E=d.getD b 0:=N;refine a4 [9] a pQ ?_;rw[m];refine g.aB (u _ r) [] a ?_;cases x:h (d.getD b 0)with
  |true=>
   refine a4 [16] a D (g.aS (bZ.zero a ?_));simp[td p x k]
  |false=>
   exact a4 [-16] a j7 (g.az (b+1) a D B N w)
 refine a4 [-9] a bK (g.aA ?_);refine aR a B (g.aw a ?_);simp[te (o:=d) (O:=0) (λe z=>k e w)]
def Xd(A j):Y q 141 [R A,ax (.Q [.int .i64 j])] [] (bg (decide (j<=A))) []:=by refine Y.I func141 rfl λb=>?_;exact aR a B (g.aw a)
abbrev Y7(a:m Int)(b:Int)(d:Nat):bM:=[(0,az.B a),(3,ax (.Q [.int .i64 b])),(5,R d)]
def Xe(d)(j)(F:c d<=100000000):Y q 102 [az.B d,R j] [] (az.B (fe d j)) []:=by
 refine Y.I func102 rfl λE=>?_;refine a4 [901] a B (g.freeze 3 0 a a a ?_);refine aR a B (g.aB (V2 d 141 [.int .i64 j] (λm=>decide (j<=m)) λm _=>Xd m j) [] a ?_);obtain⟨b,z,x,u,O⟩:∃b:Nat,b<=c d/\(∀p,p<b->d.getD p 0<j)/\(b<c d->j<=d.getD b 0)/\gX (λm=>decide (j<=m)) d=if b<c d then(b:Int)else -1:=by
  rcases yK (λm=>decide (j<=m)) d with⟨r,h⟩|⟨e,k,r,h,aa⟩
  .refine⟨c d,bC _,λp A=>?_,λh=>absurd h (xg _),by rw[r,bj (xg _)]⟩;have:=h (d.getD p 0) N;simp at this;grind
  refine⟨e,by omega,λp A=>?_,λ_=>?_,by rw[r,bl k]⟩
  .have:=h (d.getD p 0) (by grind[List.mem_take_iff_getElem]);simp at this;grind
  grind
 rw[O];apply g.cj (Y7 d j b) [.N]
 .intro dy;by_cases t:b<c d
  .rw[bl t];exact a4 [-13,904] a D kD
  rw[bj t];obtain rfl:b=c d:=w;exact a4 [13,904] a D kD
 refine a4 [905] a B (g.bG 6 3 1 a a ?_);refine aR a B ?_;refine g.aH 2 (λe=>e<=c d) (λe:Nat=>[(0,az.B d),(3,ax (.Q [.int .i64 j])),(5,R b),(6,.n (.R (.x 1 1 (fH j d e).1.length (az.fn (fH j d e).1)))),(16,az.B d),(17,R (c d)),(18,R e)])
  (λe=>[.N,.x 3 1 (fH j d e).1.length (az.fn (fH j d e).1)]) (λe=>c d-e) 0 a ?_ a ?_ a w ?_
 .simp[fH]
 .simp[fH]
 intro e k;have C:=xk j d e k;by_cases h:e<c d
 .have i:=SQ x u h;have aj:d.getD (e:Int).toNat az.E=d.getD e 0:=rfl;generalize fH j d e=o at *;have I:c o.1<=e+1:=w;generalize d.getD e 0=s at *;by_cases hf:e=b<;>by_cases iU:s=j
  .rw[bl hf,bj Aq,hU]at i;have O:=az.aW o.1 j;refine bO [19,25,-32] a z6 (g.az (e+1) a ?_ ?_ h w)
   .rw[i];simp;exact O
   rw[i];simp;exact O
  .rw[bl hf,bl Aq]at i;have O:=az.eZ o.1 j s;refine bO [19,25,32] a z6 (g.az (e+1) a z8 ?_ h w);exact z8
  .rw[bj hf,bj Aq,hU,hU]at i;refine bO [19,-25,-32] a z6 (g.az (e+1) a ?_ ?_ h w)
   .rw[i];simp
   rw[i];simp
  rw[bj hf,bl Aq,hU]at i;have O:=az.aW o.1 s;refine bO [19,-25,32] a z6 (g.az (e+1) a z8 ?_ h w);exact z8
 obtain rfl:e=c d:=w;have y:=Z5 x u z;rw[y];generalize fH j d (c d)=o at *;refine bO [-19] a D (g.aA ?_);by_cases hf:b=c d
 .rw[bl hf];have O:=az.aW o.1 j;refine bO [41] a PZ (g.aw a ?_);simp;exact O
 rw[bj hf,hU];refine bO [-41] a PZ (g.aw a ?_);simp
end
def Lj{h}{d}:∀(a b:m bA),b.Nodup->(a.foldl (fg h d) b).Nodup
 |[],b,e=>e
 |g::a,b,e=>by rw[iT];refine Lj a _ ?_;unfold fg;grind
def EE(h)(o)(d):(ga h o d).Nodup:=Lj _ _ List.nodup_nil
theorem Ee{d}{b a}:a∈fK d b↔a=b∨a∈d:=by
 induction d with
 |nil=>simp[fK]
 |cons g h e=>simp[fK];split<;>simp[e,or_left_comm,or_assoc]
def abw{d}{e}(h:d.Pairwise λa b=>a.1<b.1)(g:∀i∈d,i.1≠e.1):(fK d e).Pairwise λa b=>a.1<b.1:=by
 induction d with
 |nil=>simp[fK]
 |cons a p j=>
  obtain⟨o,m⟩:=iR.1 h;have k:=g a iB;simp[fK];grind[List.pairwise_cons,Ee]
def DP:∀(d e:m c1),e.Pairwise (λa b=>a.1<b.1)->d.Pairwise (λa b=>a.1≠b.1)->(∀a∈d,∀b∈e,b.1≠a.1)->(d.foldl fK e).Pairwise λa b=>a.1<b.1
 |[],_,g,_,_=>g
 |a::d,e,g,h,i=>by obtain⟨d1,d2⟩:=iR.1 h;refine DP d _ (abw g (i a iB)) d2 λo k b j=>?_;grind[Ee]
theorem yY(h)(cT):ii h cT=(cT.map (gI h)).foldl fK []:=by unfold ii;rw[List.foldl_map];rfl
theorem DS{a:m bA}(b:ce h=l)(d:∀q∈a,cC q=l)(k:a.Nodup):(a.map (gI h)).Pairwise λr s=>r.1≠s.1:=by rw[rq];refine List.Pairwise.imp_of_mem (λ{e g} o p i j=>i ?_) k;exact y1 b (d e o) (d g p) j
theorem LH{bN}{cT}(a:ce h=l)(e:∀b∈cT,cC b=l)(d:cT.Nodup)(g:c cT<=4):tw bN h cT=jZ bN h cT:=by
 show(bN,ma (cT.map (gI h)))=(bN,ii h cT)
 grind[abv,DS,yY]
theorem D6{bN}{cT}(b:ce h=l)(e:∀m∈cT,cC m=l)(i:cT.Nodup)(r:1<=c cT)(q:c cT<=4):il h (jZ bN h cT)=decide (1<=bN/\bN<=99):=by
 have p:c (ii h cT)=c cT:=DQ h cT;rw[o6,za,bw];constructor
 .exact λd=>d.c5
 intro d;refine⟨d,b,by show 1<=c (ii h cT)/\_;rw[show(jZ bN h cT).2=ii h cT from a];omega,λo j=>?_,?_⟩
 .obtain⟨k,g,rfl⟩:=aaB (show o∈ii h cT from j);have:=aa' (e k g);simp[right,this]
 show (ii h cT).Pairwise _;rw[yY];exact DP _ _ List.Pairwise.nil (DS b e i) D
def zb(h):∀e a(b:m bA),c b<=e->gh h e a b=(aA ((c b+3) / 4)).map λd:Nat=>jZ (a+d) h (gV b d)
 |0,a,b,j=>by have:c b=0:=w;exact bF
 |e+1,a,b,j=>by
  simp[gh];by_cases g:0<c b
  .rw[bl g,zb h e (a+1) (b.drop 4) N];have i:(c b+3) / 4=(c (b.drop 4)+3) / 4+1:=N;rw[i,w',mm,uL];congr 1
   .simp[gV]
   refine qb λd _=>?_;show jZ (a+1+(d:Nat)) h (((b.drop 4).drop (4*d)).take 4)=jZ (a+((d+1:Nat):Int)) h ((b.drop (4*(d+1))).take 4);grind[List.drop_drop]
  grind
def B7{d}(e:∀a∈d,cC a=l)(b:d.Nodup)(h:u<(c d+3) / 4):(∀a∈gV d u,cC a=l)/\(gV d u).Nodup/\1<=c (gV d u)/\c (gV d u)<=4:=
 ⟨λa g=>e a (p4 (g4 g)),(b.sublist (List.drop_sublist _ _)).sublist (List.take_sublist _ _),by simp[gV];omega,by simp[gV];omega⟩
def Kl{b}{d}(o:ce h=l)(e:∀p∈d,cC p=l)(a:d.Nodup)(g:u<(c d+3) / 4):nz h b d u=(decide (1<=dj b+(u:Int)/\dj b+(u:Int)<=99)&&!(c b.1+u==20)):=by obtain⟨i,j,k,m⟩:=B7 e a g;unfold nz l7;grind[LH,D6]
def aau{b}{a:m bA}(d:ce h=l)(q:∀u∈a,cC u=l)(p:a.Nodup)(t:∀e,e<(c a+3) / 4->nz h b a e=l):jz h b a ((c a+3) / 4)=gh h (c a) (dj b) a:=by
 rw[zb h _ _ _ (bC _)];refine qb λe g=>?_;have g:=rr.1 g;obtain⟨i,j,o,k⟩:=B7 q p g;have s:=t e g;have r:il h (jZ (dj b+(e:Int)) h (gV a e))=l:=by rw[D6 d i j o k];rw[Kl d q p g]at s;grind
 unfold l7;rw[LH d i j k,bl r]
def iN.hF{h}{b}(d:iN h b):1<=dj b/\dj b<=100:=by
 unfold R1.dj;split
 .omega
 rename_i a;have:=(d.cr _ (Df a (0,[]))).c5;omega
def Z2(h)(b)(a)(o):qA h b a o=EH h b a o:=by
 unfold qA EH;by_cases i:h8 h b=l/\(a=1∨a=2)/\dO o=l
 .rw[bl i,bl ⟨i.1,by omega,i.2.2⟩];have g:=sa.1 i.1;have y:=g.hF;have K:c b.2.2<=9:=by have:=g.df;simp[gH,cm,bw]at this;omega
  have I:=g.len;have z:=(qT (h:=h) (d:=eG b.1) (oR i.2.2)).1;have s:=EE h o (eG b.1);have r:c (ku h b o)=(c (ga h o (eG b.1))+3) / 4:=by unfold ku;rw[zb _ _ _ _ (bC _)];simp
  have B:ku h b o=gh h (c (ga h o (eG b.1))) (dj b) (ga h o (eG b.1)):=rfl;unfold pD;simp only;generalize ga h o (eG b.1)=d at *;obtain⟨M,E,Q,D⟩:=EM (nz h b d) ((c d+3) / 4) 0;generalize mY (nz h b d) ((c d+3) / 4) 0=m at *;have C:∀e,e<(c d+3) / 4->nz h b d e=(decide (1<=dj b+(e:Int)/\dj b+(e:Int)<=99)&&!(c b.1+e==20)):=λe k=>Kl g.key z s k;by_cases p:m<(c d+3) / 4
  .rw[bl p];have u:=D w;rw[C m p]at u;have j:fC h b o=l:=by simp[fC,jL,bw,r];simp[AQ,dr,AS,gR]at u;omega
   grind
  rw[bj p];obtain rfl:m=(c d+3) / 4:=w;have q:∀e,e<(c d+3) / 4->1<=dj b+(e:Int)/\dj b+(e:Int)<=99/\c b.1+e≠20:=λe k=>by grind
  have J:c b.1+(c d+3) / 4<=20:=by refine Nat.le_of_not_lt λF=>?_;exact(q (20-c b.1) w).2.2 w
  have N:dj b+(((c d+3) / 4:Nat):Int)-1<=99:=by
   rcases n_ ((c d+3) / 4)with A|A
   .grind
   have:=(q ((c d+3) / 4-1) w).2.1;omega
  by_cases x:20<cR b
  .rw[bl x];have j:fC h b o=l:=Oy;grind
  rw[bj x];by_cases t:c b.2.2=9
  .rw[bl t];have j:fC h b o=l:=Oy;grind
  rw[bj t];have j:fC h b o=v:=by simp[fC,xb,dr,r];omega
  rw[j];simp only[eI,B,aau g.key z s λe k=>Q e (g5 _) k,hT];rfl
 grind
theorem Mj{d}{e a}(b:a∈ee d e):a=e∨a∈d:=by
 induction d with
 |nil=>simpa[ee]using b
 |cons g i h=>
  simp only[ee]at b;grind
def abA{d}{i}(h:d.Pairwise λa b=>a.1<b.1):(ee d i).Pairwise λa b=>a.1<b.1:=by
 induction d with
 |nil=>simp[ee]
 |cons a m e=>
  obtain⟨k,g⟩:=iR.1 h;simp only[ee];split
  .rename_i s;refine iR.2 ⟨λo j=>?_,e g⟩;grind[Mj]
  grind[List.pairwise_cons]
def De:∀(d a:m fr),(∀b∈d,gb b=l)->(∀b∈a,gb b=l)->a.Pairwise (λa e=>a.1<e.1)->(∀b∈d.foldl ee a,gb b=l)/\(d.foldl ee a).Pairwise λa e=>a.1<e.1
 |[],a,_,h,g=>⟨h,g⟩
 |b::d,a,k,h,g=>De d (ee a b) (λj i=>k j (mo _ i)) (λj i=>by grind[Mj]) (abA g)
theorem aaQ{d}(g:∀j∈d,gb j=l)(k:d.Pairwise λb e=>b.1<e.1):kX d (c d)=l:=by
 refine gf.2 λi h=>?_;rw[cm];refine⟨g _ N,?_⟩;rcases n_ i with a|a
 .simp[a]
 rw[jL];exact FQ
def Z4(a:m cb):kX (eG a) (c (eG a))=l:=by
 unfold eG;split
 .rename_i b;obtain⟨d,e⟩:=De (dF a) [] (aW.1 b) D List.Pairwise.nil;grind[aaQ]
 rfl
def acP{d}(a:∀j∈d,c j.2<=4):c (dF d)<=4*c d:=by
 induction d with
 |nil=>simp[dF]
 |cons h m e=>
  have b:=e λi g=>a i (mo _ g);have k:=a h iB;simp only[dF,sC,dm,kK,fs]at b⊢;omega
def iN.hR{h}{b}(e:iN h b)(a:mi b):1<=cR b:=by have d:=tb b.2.2 a.aM;unfold R1.cR;split<;>omega
def iN.cM{b}(a:iN h b)(d:mi b):Gt h b:=by refine⟨a.key,?_,Z4 _,a.df,a.hR d⟩;have:=acP λg e=>(a.cr g e).len.2;have:=a.len;omega
def acM{b}{a}{o}(d:h8 h b=l)(e:1<=a/\a<=2)(g:dO o=l):EH h b a o=(if fC h b o=l then b else eI h b a o,!fC h b o):=bl ⟨d,e,g⟩
def Li{h}{d}:∀(b e:m bA)a,a∈b.foldl (fg h d) e↔a∈e∨(a∈b/\i5 d (d8 h a)=0)
 |[],e,a=>by simp
 |o::b,e,a=>by
  rw[iT,Li b];unfold fg;split
  .rename_i i;simp[cm,gR]at i;grind
  rename_i i;simp only[cm,gR,jl]at i;by_cases k:a=o
  .subst k;by_cases g:i5 d (d8 h a)=0
   .have:e.contains a=l:=by
     cases j:e.contains a with
     |true=>rfl
     |false=>exact absurd ⟨g,j⟩ i
    have:a∈e:=by simpa using this
    grind
   grind
  grind
def zE{o}{b:m fr}{a}:a∈ga h o b↔(∃d∈o,a∈cn d.2)/\i5 b (d8 h a)=0:=by unfold ga;rw[Li];simp
def abB{d}{e}{j}:(∃b∈ee d e,b.1=j)↔j=e.1∨∃b∈d,b.1=j:=by
 induction d with
 |nil=>simp[ee,eq_comm]
 |cons k m h=>
  simp only[ee];split
  .simp only[fh,exists_eq_or_imp,h];grind
  constructor
  .rintro⟨b,i,rfl⟩;rcases fh.1 i with rfl|i
   .omega
   exact .inr ⟨b,(jm.1 i).1,a⟩
  rintro(rfl|⟨b,i,rfl⟩)
  .exact⟨e,iB,a⟩
  by_cases g:b.1=e.1
  .exact⟨e,iB,g.symm⟩
  exact⟨b,mo _ (jm.2 ⟨i,by simpa using g⟩),a⟩
def J':∀(e d:m fr) a,(∃b∈e.foldl ee d,b.1=a)↔(∃b∈e,b.1=a)∨∃b∈d,b.1=a
 |[],d,a=>by simp
 |g::e,d,a=>by rw[iT,J' e,abB];grind
def abX{e}(b:right h e=l):∃d,cC d=l/\e.1=d8 h d:=by
 unfold right at b;split at b
 .rename_i d a;unfold hP at a;split at a
  .rename_i i;cases a;simp[cm]at i;exact⟨_,i.1,(by simpa using b:d8 h _=e.1).symm⟩
  cases a
 cases b
def acQ{Z}(e:∀a∈Z,n4 h a):(dF Z).all gb=l:=by refine aW.2 λp b=>?_;obtain⟨a,d,b⟩:=ru.1 b;obtain⟨j,g,rfl⟩:=hu.1 b;obtain⟨o,m,i⟩:=abX ((e a d).gC j g);have k:=(e a d).c5;simp[gb,cm,bw,i,d8];omega
def KE{e:m cb}(w:∀k∈e,n4 h k)(g:Int):i5 (eG e) g=0↔g∉ck e:=by
 have t:=acQ w;unfold eG;rw[bl t];have j:=J' (dF e) [] g;have s:(∃r∈dF e,r.1=g)↔g∈ck e:=by
  simp only[dF,ck,ru,hu];constructor
  .rintro⟨_,⟨k,o,q,p,rfl⟩,rfl⟩;exact⟨k,o,q,p,a⟩
  rintro⟨k,o,q,p,rfl⟩;exact⟨_,⟨k,o,q,p,a⟩,a⟩
 have x:=(De (dF e) [] (aW.1 t) D List.Pairwise.nil).1;generalize(dF e).foldl ee []=d at *;unfold i5;split
 .rename_i b i;have z:=x b (w9 i);have A:b.1=g:=OK;have:g∈ck e:=by rw[<-s];have:=j.1 ⟨b,w9 i,A⟩;simpa using this
  simp[gb,cm,bw]at z;grind
 rename_i i;have B:=uH.1 i;refine⟨λ_ u=>?_,λ_=>rfl⟩;obtain⟨r,y,ak⟩:=j.2 (.inl (s.2 u));exact B r y afg
def DR{cT}{b}:b∈ii h cT↔∃g∈cT,b=gI h g:=by
 rw[yY];have:∀(a d:m c1),b∈a.foldl fK d↔b∈a∨b∈d:=by
  intro a;induction a with
  |nil=>simp
  |cons i a e=>intro d;rw[iT,e,Ee];grind
 rw[this];grind
def zc{h}{j}:∀g d(b:m bA),c b<=g->(j∈ck (gh h g d b)↔∃e∈b,d8 h e=j)
 |0,d,b,p=>by have:b=[]:=AY.1 w;subst this;simp[gh,ck]
 |g+1,d,b,p=>by
  simp[gh];split
  .have i:=zc (h:=h) (j:=j) g (d+1) (b.drop 4) bK;have o:ck (jZ d h (b.take 4)::gh h g (d+1) (b.drop 4))=(ii h (b.take 4)).map (·.1)++ck (gh h g (d+1) (b.drop 4)):=bF;rw[o,fG,i];have:(j∈(ii h (b.take 4)).map (·.1))↔∃e∈b.take 4,d8 h e=j:=by
    rw[hu];constructor
    .rintro⟨q,s,rfl⟩;obtain⟨e,k,rfl⟩:=DR.1 s;exact⟨e,k,a⟩
    rintro⟨e,k,rfl⟩;exact⟨gI h e,DR.2 ⟨e,k,a⟩,a⟩
   rw[this];conv=>rhs;rw[<-uM 4 b]
   grind
  have:b=[]:=AY.1 w;subst this;simp[ck]
def LM{h}(j:ce h=l):∀i b(d:m bA),c d<=i->(∀e∈d,cC e=l)->d.Nodup->(ck (gh h i b d)).Nodup
 |0,b,d,r,_,_=>by simp[gh,ck]
 |i+1,b,d,r,p,o=>by
  simp[gh];split
  .have g:ck (jZ b h (d.take 4)::gh h i (b+1) (d.drop 4))=(ii h (d.take 4)).map (·.1)++ck (gh h i (b+1) (d.drop 4)):=bF;have t:(ii h (d.take 4)).Pairwise λs z=>s.1<z.1:=by rw[yY];exact DP _ _ List.Pairwise.nil (DS j (λe k=>p e (g4 k)) (o.sublist (List.take_sublist _ _))) D
   rw[g,List.nodup_append];refine⟨rq.2 (t.imp λr=>by omega),LM j i _ _ bK (λe k=>p e (p4 k)) (o.sublist (List.drop_sublist _ _)),λA w B u g=>?_⟩;subst g;obtain⟨s,x,rfl⟩:=hu.1 w;obtain⟨y,q,rfl⟩:=DR.1 x;obtain⟨e,k,g⟩:=(zc i _ _ bK).1 u;have g:=y1 j (p e (p4 k)) (p y (g4 q)) g;subst g;rw[<-uM 4 d,List.nodup_append]at o;exact o.2.2 e q e k a
  exact bF
def abh(o):(cn o).flatten=o:=by
 have:∀b a,a<=c o->c o-a<=b->(iJ o b a).flatten=o.drop a:=by
  intro b;induction b with
  |zero=>intro a g e;simp[iJ,GB (show c o<=a by omega)]
  |succ b d=>
   intro a g e;simp[iJ];split
   .rename_i i;obtain⟨j,h,_⟩:=rJ o a i;rw[List.flatten_cons,d _ h w];conv=>rhs;rw[<-uM (eu o a-a) (o.drop a),List.drop_drop,show a+(eu o a-a)=eu o a by omega]
   exact bv
 exact(this (c o) 0 (g5 _) w).trans D
def acH{bN}{Z}{o}(g:ce h=l)(j:dO o=l)(q:∀a∈o,∀d∈cn a.2,dh h Z (d8 h d)=f d):ep h (fM bN h o) Z=f o:=by
 have e:=(zV.1 j).1;have m:∀a∈o,fS h Z (kV h a)=f a:=λa b=>by
  have p:=q a b;have x:g9 h Z (kV h a).2=f (cn a.2):=by
   unfold g9 kV;rw[bl]
   .congr 1;rw[uL];conv=>rhs;rw[<-List.map_id (cn a.2)]
    exact qb λd i=>by simp[p d i]
   refine aW.2 λw t=>?_;obtain⟨d,i,rfl⟩:=hu.1 t;exact bF
  have u:iX (cn a.2)=f a.2:=by unfold iX;rw[abh,(e a b).2];simp
  unfold fS;exact bF
 have s:fu h Z (o.map (kV h))=o:=by
  unfold fu;rw[uL];conv=>rhs;rw[<-List.map_id o]
  exact qb λa b=>by simp[m a b]
 have r:((o.map (kV h)).all λk=>(fS h Z k).isSome)=l:=aW.2 λk e=>by obtain⟨a,b,rfl⟩:=hu.1 e;exact bF
 unfold ep fM;simp[s,r,g,j,Bool.and_self,dx]
structure iO(h:Int)(b:cc)(bU:Int)(o:m cN):Prop where
 a_:iN h b
 jC:mi b
 ij:1<=bU/\bU<=2
 fT:dO o=l
 g3:fC h b o=v
section
variable {b:cc}{bU:Int}{o:m cN}
def iO.jH(k:iO h b bU o){e}(j:e∈o){g}(i:g∈cn e.2):cC g=l:=by have:=(qT (h:=h) (d:=[]) (oR k.fT)).1 g;exact this (zE.2 ⟨⟨e,j,i⟩,a⟩)
def iO.hs(q:iO h b bU o)(m:Int):m∈ck (eI h b bU o).1↔m∈ck b.1∨∃g∈o,∃d∈cn g.2,d8 h d=m:=by
 have p:ck (eI h b bU o).1=ck b.1++ck (ku h b o):=by simp[eI,ck]
 rw[p,fG];unfold ku;rw[zc _ _ _ (bC _)];constructor
 .rintro(i|⟨d,e,rfl⟩)
  .exact .inl i
  obtain⟨⟨g,j,e⟩,_⟩:=zE.1 e;exact .inr ⟨g,j,d,e,a⟩
 rintro(i|⟨g,j,d,e,rfl⟩)
 .simp_all
 by_cases k:d8 h d∈ck b.1
 .simp_all
 exact .inr ⟨d,zE.2 ⟨⟨g,j,e⟩,(KE q.a_.cr _).2 k⟩,a⟩
def iO.new(g:iO h b bU o):(∀e∈ku h b o,n4 h e)/\(ku h b o).Pairwise (λe x=>e.1<x.1)/\∀e∈ku h b o,dj b<=e.1:=by
 have t:=qT (h:=h) (d:=eG b.1) (oR g.fT);have w:=EE h o (eG b.1);have q:=g.g3;have z:=g.a_.hF;unfold fC at q;unfold ku at *;generalize ga h o (eG b.1)=d at *;rw[zb h _ _ _ (bC _)]at *;simp[xb,dr,kK,List.length_range]at q;refine⟨λe p=>?_,?_,λe p=>?_⟩
 .obtain⟨u,a,rfl⟩:=hu.1 p;have a:=rr.1 a;obtain⟨i,j,k,m⟩:=B7 t.1 w a;rw[<-za,D6 g.a_.key i j k m,bw];omega
 .rw[rq];refine List.pairwise_lt_range.imp λ{r s} y=>?_;show dj b+(r:Int)<dj b+(s:Int);omega
 obtain⟨u,a,rfl⟩:=hu.1 p;show dj b<=dj b+(u:Int);omega
def iN.jG(i:iN h b):∀e∈b.1,e.1<R1.dj b:=by
 intro e g;obtain⟨d,a,rfl⟩:=ha g;unfold R1.dj;rw[bj w,s' w];by_cases j:d=c b.1-1
 .exact bF
 have:=nf.1 i.cH d (c b.1-1) a w w;omega
def iN.hS(i:iN h b):∀e∈b.2.1,e.1<R1.cR b:=by
 intro e g;obtain⟨d,a,rfl⟩:=ha g;unfold R1.cR;rw[bj w,s' w];by_cases j:d=c b.2.1-1
 .exact bF
 have:=nf.1 i.cJ d (c b.2.1-1) a w w;omega
def iO.eD(e:iO h b bU o):∀d∈(eI h b bU o).1,n4 h d:=λd a=>by
 rcases fG.1 a with a|a
 .exact e.a_.cr d a
 exact e.new.1 d a
def iO.h0(a:iO h b bU o){bN}:ep h (fM bN h o) (eI h b bU o).1=f o:=by refine acH a.a_.key a.fT λk e m d=>?_;obtain⟨p,g⟩:=J2 a.a_.key a.eD ((a.hs _).2 (.inr ⟨k,e,m,d,rfl⟩));obtain⟨i,j,_⟩:=C2 g;rw[g,y1 a.a_.key i (a.jH e d) j]
def iO.old(a:iO h b bU o){i}{g}(j:ep h i b.1=f g):ep h i (eI h b bU o).1=f g:=
 acI (λe k=>Zg a.a_.key a.eD (λe d=>(a.hs e).2 (.inl d))) j
def iO.ok(a:iO h b bU o):iN h (eI h b bU o):=by
 have y:=a.g3;simp[fC,xb,dr]at y;have m:=a.new;have x:=a.a_.hS;have u:=a.a_.hR a.jC;refine⟨a.eD,?_,?_,λB g=>?_,?_,a.a_.key,?_,by simp[eI,dm];omega⟩
 .refine nh.2 ⟨a.a_.cH,m.2.1,λp j q e=>?_⟩;have:=a.a_.jG p j;have:=m.2.2 q e;omega
 .have i:ck (eI h b bU o).1=ck b.1++ck (ku h b o):=by simp[eI,ck]
  have t:=qT (h:=h) (d:=eG b.1) (oR a.fT);rw[i,List.nodup_append];refine⟨a.a_.ax,LM a.a_.key _ _ _ (bC _) t.1 (EE _ _ _),λp j q e i=>?_⟩;subst i;obtain⟨C,z,rfl⟩:=(zc _ _ _ (bC _)).1 e;exact(KE a.a_.cr _).1 (zE.1 z).2 j
 .rcases fG.1 g with g|g
  .obtain⟨cY,dC⟩:=a.a_.a1 B g;obtain⟨D,A⟩:=AP.1 dC;exact⟨cY,by rw[a.old A];rfl⟩
  rw[gO]at g;subst g;exact⟨⟨u,by show cR b<=20;omega⟩,by rw[a.h0];rfl⟩
 .refine nh.2 ⟨a.a_.cJ,by simp,λp j q e=>?_⟩;rw[gO]at e;subst e;exact x p j
 have k:=a.a_.df;have e:=a.ij;simp only[gH,cm,bw,gf]at k⊢;refine⟨λs r=>?_,by simp only[eI,dm,gC];omega⟩;simp only[eI,dm,gC]at r⊢;by_cases i:s<c b.2.2
 .have:=k.1 s i
  rwa [al,kb i,<-al]
 obtain rfl:s=c b.2.2:=w;rw[al,ht (bC _),sI];simp only[mn,ia,hE,cm,bw];omega
def iO.load(d:iO h b bU o):oQ h (eI h b bU o) (cR b)=f o:=by
 unfold oQ;have g:(eI h b bU o).2.1.find? (λa=>a.1==cR b)=f (fM (cR b) h o):=by
  simp only[eI,List.find?_append];have:b.2.1.find? (λa=>a.1==cR b)=n:=uH.2 λa e=>by have:=d.a_.hS a e;simp;omega
  rw[this];simp[fM]
 rw[g];exact d.h0
end
section
variable {q:af S}[q.bZ]
abbrev MK:eR:=(hr,er,yM,yp)
def eJ.zero:eJ 0 MK:=⟨fQ.nil,rfl,rfl⟩
end
section
section
variable {q:af S}[q.bZ]
end
def iN.dF{e:cc}(a:iN h e):oY e:=by have d:=a.gG;have b:=m'.of a.df;exact⟨d.du,a.cH,d.dL.bj,λi g=>(b.aM i g).1⟩
def Oa{a:eE}(b:fD a=l):jI a.1 a.2.1:=by simp only[fD,cm]at b;exact sb.1 b.2
def nQ(a:eE):cc:=if fD a=l then g_ a.2.1.1 a.2.2.1 else([],[],[])
variable {q:af S}
def Ye(b:eE)(h:p1 b.2.1):Y (af.ay S) 40 [fb b] [] (bX (nQ b)) []:=by
 refine Y.bh bb func40 rfl rfl rfl λk=>?_;have d:=CS b h;have j:a' (af.ay S) [(28,dS [fb b] (bg (fD b)))]:=.cons (d9 d) .nil;unfold nQ;cases bY:fD b with
 |false=>
  exact a_ j [5] a k3 z9
 |true=>
  have e:=(Tn (q:=af.ay S) (Oa bY).dF b.2.2.1).cC;have hY:a' (af.ay S) [(28,dS [fb b] (bg (fD b))),(68,dS [bX b.2.1.1,ev b.2.2.1] (bX (g_ b.2.1.1 b.2.2.1)))]:=.cons (d9 d) (.cons (d9 e) .nil);rw[bl a];refine a_ hY [-5] a (by simp only[U,bY,fB,ba,a9];and_intros<;>rfl) ?_;exact z9
def acx{p:eE}:dJ (nQ p):=by
 unfold nQ;split
 .rename_i a;exact(r9 (q:=af.ay S) (Oa a).dF p.2.2.1).eO
 exact⟨by simp,by simp,by simp,by simp[kz],by simp⟩
end
def fQ.fR{p}(a:fQ j p)(b:j<=1000000):p1 p:=⟨a.bj.toj'.fQ,by have:=a.cm;omega,by have:=a.de;omega⟩
end R1
section
namespace R1
variable {q:af S}[q.bZ]
abbrev aac(b:cc)(a:Nat):Nat:=bW (c b.1) (f (a:Int))-bW 0 n
abbrev aad(b:cc)(a:Nat):Nat:=bW (c b.1) n-bW 0 (f ((a:Int)+1))
abbrev lU(a:cc):Nat->m M:=fJ (bW 0 n) (a2.fn a.1)
abbrev kQ(b:cc)(a:Nat):Nat->m M:=fJ (bW 0 (f ((a:Int)+1))) (a2.fn b.1)
end R1
end
namespace R1
section
variable {q:af S}
def WI(p)(b:dJ p.1):Y q 25 [gE p,gE p] [] (bg l) []:=by refine Y.I func25 rfl λe=>?_;have d:a' q [(13,dS [bX p.1,bX p.1] (bg l)),(11,xL)]:=.cons (d9 (Jj p.1 b)) (.cons EY .nil);refine bd d [10,17] a ?_ (g.aw a);exact bF
end
def Th{b}{g:m Int}(a:iN h b):jI h ((b.1,b.2.1.filter λd=>g.contains d.1,b.2.2),h4 (b.2.1.filter λd=>g.contains d.1),b.1.map (·.1)):=by refine⟨⟨a.cr,a.cH,a.ax,λd e=>a.a1 d (jm.1 e).1,a.cJ.filter _,a.key,a.df,a.len⟩,λd e j i=>tr.2 ⟨d,e,i⟩,λj i=>?_,rq.2 a.cH⟩;simp_all
def GH{d}(o:d.Pairwise (·<=·)):∀a,a<=c d->(fI d a).Pairwise (· < ·)/\∀e∈fI d a,0<a/\e<=d.getD (a-1) 0
 |0,_=>by simp[fI]
 |a+1,q=>by
  obtain⟨j,m⟩:=GH o a w;have i:∀g,g<a->d.getD g 0<=d.getD a 0:=λg p=>by have:=nf.1 o g a w w p;grind
  rw[fI];split
  .rename_i A;refine⟨j,λe b=>⟨by omega,?_⟩⟩;have:=m e b;have:=i (a-1) w;simp only[p5];omega
  rename_i A;have h:∀e∈fI d a,e<d.getD a 0:=λe b=>by have s:=m e b;have r:=i (a-1) w;omega
  refine⟨nh.2 ⟨j,by simp,λe b t k=>?_⟩,λe b=>⟨by omega,?_⟩⟩
  .rw[gO]at k;subst k;exact h e b
  simp only[p5];rcases fG.1 b with b|b
  .have:=h e b;omega
  rw[gO]at b;omega
def acE(a):gk a=gJ a.2:=by
 refine Bj ?_ (Db List.Pairwise.nil) λb=>by rw[yW,DO]
 unfold gk hZ;exact(GH (M4 _) _ (bC _)).1
abbrev acR(g e:an×X)(d:dP)(b:cc)(a:m Int):m ar:=gy g e++[gx d,.cells 33 lC,.N,gx (b,a,d.2.2),j2 b]
def acb{p}{a}{o}(b:hp h p=l)(d:1<=a/\a<=2)(e:dO o=l):fL h p a o=if fC h p.1 o=l then(p,v)else(l9 h p a o,l):=by unfold fL qG;simp_all
def YH(j A)(h)(p)(bU)(o)(i:p1 p)(u:dJ p.1)(I:mi p.1)(H:a8 .i64 bU):
  Y (af.ay S) 61 [R h,gE p,R bU,bu.B o] (gy j A) (j4 (fL h p bU o).1 (fL h p bU o).2) (gy j A):=by
 refine Y.bh bb func61 rfl rfl rfl λP=>?_;have k:a' (af.ay S) [(58,xQ),(59,rB)]:=.cons E3 (.cons wn .nil);have x:(p.1,p.2.1,p.2.2)=p:=rfl;have ao:=u.a0;cases s:hp h p with
 |false=>
  have r:fL h p bU o=(hr,v):=by unfold fL qG;simp[s]
  rw[r];refine bd k [19,27,31] a ?_ ?_
  .simp only[U,a2.l,a2.U,bh.l,bh.U,a3.l,a3.U,az.l,az.U,x,s,i,hT,ba,a9]
  exact kE
 |true=>
 by_cases F:1<=bU/\bU<=2
 rotate_left
 .have r:fL h p bU o=(hr,v):=by unfold fL qG;simp[F]
  rw[r];exact bd k [-19,22,27,31] a bF kE
 have T:bU=1∨bU=2:=w;cases O:dO o with
 |false=>
  have r:fL h p bU o=(hr,v):=by unfold fL qG;simp[O]
  rw[r];rcases T with rfl|rfl
  .exact bd k [-19,-22,-27,31] a Ag kE
  exact bd k [-19,22,-27,31] a Ag kE
 |true=>
 rw[acb s F O];have z:=sb.1 s;have ah:=sa.2 z.toiN;have a0:=z.toiN.gG;have y:=Yz j A h p.1 bU o u i.ton5 I H λt=>(sa.1 t).cM I;rw[Z2,acM ah F O]at y;apply g.cj [(0,R h),(2,R bU),(3,bu.B o),(5,aI 3 0),(8,aI 4 0)] (gy j A++[gx p,.cells 33 lC])
 .intro dy;rcases T with rfl|rfl
  .exact bd k [-19,-22,-27,-31,903] a Ag kD
  exact bd k [-19,22,-27,-31,903] a Ag kD
 refine cA a B (g.aB (JP p u i.gv i.fJ) [] a (bO [904] a B (g.bL 5 a a a D D (cA a B (g.aB y [0,1,2] a ?_)))));cases X:fC h p.1 o with
 |true=>
  exact bO [45] a D Qk
 |false=>
 have an:=u.bt;have J:=a0.cM (h:=h) (o:=o) (bU:=bU) (by have:=xt 1 z.cJ λm Z=>(z.a1 m Z).1;omega) O X;have ai:(eI h p.1 bU o).2.1.length=c p.1.2.1+1:=by simp[eI]
 have aa:(eI h p.1 bU o).2.1.getD ((eI h p.1 bU o).2.1.length-1) (0,[])=fM (cR p.1) h o:=by rw[ai];simp[eI,al]
 have V:=J.c9 (fM (cR p.1) h o) N;have L:=wq V.2;have ak:=tt (fM (cR p.1) h o).2;have aj:=J.ey;have G:=i.gv;have K:=CL (q:=af.ay S) (fM (cR p.1) h o) w w;rw[acE]at K;unfold l9;simp only[bj (show¬(v=l) by simp)];generalize eI h p.1 bU o=e at *;generalize fM (cR p.1) h o=m at *;have ae:((c e.2.1:Int)-1).toNat=c e.2.1-1:=w;have W:e.2.1.getD ((c e.2.1:Int)-1).toNat bh.E=m:=by rw[ae];exact aa
 have C:a' (af.ay S) [(91,dS [i1 m] (az.B (gJ m.2)))]:=.cons (d9 K) .nil;refine bd C [-45] a ?_ ?_
 .simp only[U,W,a8];and_intros<;>first|rfl|exact True.intro|omega
 generalize gJ m.2=b at *;refine g.aH 8 (λd=>d<=c b) (λd:Nat=>[(8,aI 4 0),(10,aI 6 0),(57,az.B b),(58,R (c b)),(59,R d)])
  (λd=>acR j A p e ((b.take d).foldl fe p.2.1)) (λd=>c b-d) 0 a ?_ a ?_ a w ?_
 .simp
 .simp
 intro d ab;by_cases t:d<c b
 .have ag:b.getD (d:Int).toNat az.E=b.getD d 0:=rfl;have M:=yw fe p.2.1 t;have Q:=qt p.2.1 (b.take d);rw[List.length_take]at Q;generalize(b.take d).foldl fe p.2.1=ka at *;have E:a' (af.ay S) [(102,dS [az.B ka,R (b.getD d 0)] (az.B (fe ka (b.getD d 0))))]:=.cons (d9 (Xe ka (b.getD d 0) w)) .nil;refine bd E [60] a ?_ (g.az (d+1) a D ?_ t w)
  .simp only[U,ag,a8,bw];exact q5
  rw[M];simp
 obtain rfl:d=c b:=w;rw[c8];refine bO [-60] a D (g.aA ?_);exact cA a B kE
abbrev xB(e d:an×X)(cD:eE)(g:d_)(h:Int)(b:eR)(a:Nat->m M):m ar:=py e d cD g++[.q 58 2 2 (a3.fn b.2.2.1),.q 3 1 2 a,pN h b.1 b.2.1]
abbrev qh(d b:an×X)(cD:eE)(e:d_)(g:Int)(h:eR)(a:Nat->m M):m ar:=xB d b cD e g h a++[.N,.N,.N,.N]
abbrev mh(i:Nat)(g e:an×X)(cD:eE)(h:d_)(a:Int)(b:eR)(d:d_):Prop:=
 bm (ι:=qq (cd a b d).1.2.2.2) (af.ay S) i [aI 8 0,ns d] (xB g e cD h a b (az.fn b.2.2.2)) (λ_=>bg (cd a b d).2) (λj=>qh g e cD h a (cd a b d).1 j.1)
def YX(j s)(cD)(e)(h)(b)(d)(k:d.1=3):mh 31 j s cD e h b d:=by
 have i:cd h b d=((b.1,d.2.2.2.1,b.2.2),l):=by unfold cd;simp[k]
 unfold mh;rw[i];refine bm.bN func31 rfl rfl rfl (g.aQ ?_);exact cA a B wM
def YY(e C)(cD)(p)(h)(b)(d)(o:eJ j b)(q:d.1=2):mh 30 e C cD p h b d:=by
 unfold mh;have m:a' (af.ay S) [(38,u4)]:=.cons zK .nil;by_cases k:1<=d.2.1/\d.2.1<=2
 rotate_left
 .have i:cd h b d=(b,v):=by unfold cd;simp[q,k]
  rw[i];refine bm.bN func30 rfl rfl rfl (g.aQ ?_);exact bd m [8] a (by simp[oc,k]) wM
 have i:cd h b d=((b.1,b.2.1,eH d.2.1 b.1.1 b.2.1 b.2.2),l):=by unfold cd;simp[q,k]
 rw[i];refine bm.bN func30 rfl rfl rfl (g.aQ ?_);refine bd m [-8] a (by simp[oc,k]) (g.cL (I9 e C cD p d h b.1 b.2.1 d.2.1 b.2.2.1 b.2.2.2 o.a.bj.dF k o.bm o.b3) a a a a D a λr=>?_);refine cU m a B (g.eK 2 ?_);refine g.cN 9 a bn ?_;refine g.ret ?_;exact⟨r,.inl a,a,a,_,_,_,a,a,a,a⟩
abbrev tu(a:m ar)(e:dP)(_ b d:Bool):m ar:=
 match b,d with
 |false,_=>a
 |true,v=>a++[t']
 |true,l=>a++[gx e]
def ac0{p}(a:qx p=v):h7 p=p:=by
 obtain⟨e,d,b⟩:=p;cases b with
 |nil=>rfl
 |cons g h=>cases a
abbrev ae8(e:Int)(g b:dP)(a:Bool)(d:Nat):y:=
 [aI 8 0,aI 8 0,aI 8 0,R e,aI 8 0,aI 8 0,aI 8 1,gE g,j4 b a,j4 b a,gE b,bg a,aI 10 0,.any,bg a].getD d .any
set_option maxRecDepth 20000 in
def Y0(A d)(cD)(e)(h)(b)(k)(z:eJ j b)(I:j<=1000)(E:hp h b.1=l)(F:k.1=5):mh 33 A d cD e h b k:=by
 unfold mh;have q:cd h b k=((h7 b.1,b.2),qx b.1):=by unfold cd;simp[F]
 have C:=YJ h b.1 (z.a.fR w) z.a.bj.du;have r:zJ h b.1=(h7 b.1,qx b.1):=bl E;rw[r]at C;have t:=ac0 (p:=b.1);rw[q];generalize h7 b.1=m at *;generalize qx b.1=o at *;have i:a' (af.ay S) [(63,dS [R h,gE b.1] (j4 m o))]:=.cons (d9 C) .nil;refine bm.bN func33 rfl rfl rfl (g.aQ ?_);refine bd i [901] a B ?_;refine g.b9 b6 (ae8 h b.1 m o) (kS (tu (xB A d cD e h b (az.fn b.2.2.2)++[s4 k]) m) 14 12 13) a a a a
  ⟨.aC,.aC,.aC,.aC,.aC,.aC,.aC,.aC,.cK bb i (cx:=by exact a),.aC,.aC,.aC,
  bV.dR a a a a a (λx=>by cases x<;>exact dT (bf:=[]) bb i (aq:=f _) a B),
  bV.dS a a a a a (λx=>by cases x<;>exact dT (bf:=[]) bb i (aq:=f _) a B),
  bV.dQ a a a a (λs O=>by cases s<;>cases O<;>exact aT.w),B⟩ ?_
 intro y u;show g (af.ay S) _ _ _ _ _ (tu _ m (y 14) (y 12) (y 13));rw[u 14 b',u 12 b',u 13 b'];cases o with
 |true=>
  exact bd i [19] a D FF
 |false=>
  obtain rfl:=t rfl;exact bd i [-19] a D FF
abbrev ae7(e:Int)(g b:dP)(db:m Int)(a:Bool)(d:Nat):y:=
 [aI 8 0,aI 8 0,aI 8 0,R e,aI 8 0,aI 8 0,aI 8 1,aI 8 1,bX g.1,aI 9 7,az.B db,j4 b a,j4 b a,gE b,bg a,aI 10 0,.any,bg a].getD d .any
set_option maxRecDepth 20000 in
def YW(A d)(cD)(C)(h)(b)(e)(q:eJ j b)(w:hp h b.1=l)(u:e.1=4):mh 32 A d cD C h b e:=by
 unfold mh;by_cases r:c b.1.2.2=0
 rotate_left
 .have i:cd h b e=(b,v):=by unfold cd;simp[u,r]
  rw[i];refine bm.bN func32 rfl rfl rfl (g.aQ ?_);exact bO [13] a OQ wM
 have i:cd h b e=(((jP h b.1.1 e.2.2.2.2).1,b.2),l):=by unfold cd;simp[u,r]
 have t:=UM h b.1.1 e.2.2.2.2 q.a.bj.du q.a.bj.toj'.fQ;have o:(jP h b.1.1 e.2.2.2.2).2=l:=by unfold jP;rw[bl (sa.2 (sb.1 w).toiN)]
 rw[o]at t;rw[i];generalize(jP h b.1.1 e.2.2.2.2).1=m at *;have k:a' (af.ay S) [(62,dS [R h,bX b.1.1,az.B e.2.2.2.2] (j4 m l))]:=.cons (d9 t) .nil;refine bm.bN func32 rfl rfl rfl (g.aQ ?_);refine bd k [-13,903] a OP ?_;refine g.b9 b6 (ae7 h b.1 m e.2.2.2.2 l) (kS (tu (xB A d cD C h b (az.fn b.2.2.2)++[s4 e]) m) 17 15 16) a a a a
  ⟨.aC,.aC,.aC,.aC,.aC,.aC,.aC,.aC,.aC,.aC,.aC,.cK bb k (cx:=by exact a),.aC,.aC,.aC,
  bV.dR a a a a a (λx=>by cases x<;>exact dT (bf:=[]) bb k (aq:=f _) a B),
  bV.dS a a a a a (λx=>by cases x<;>exact dT (bf:=[]) bb k (aq:=f _) a B),
  bV.dQ a a a a (λs O=>by cases s<;>cases O<;>exact aT.w),B⟩ ?_
 intro y p;show g (af.ay S) _ _ _ _ _ (tu _ m (y 17) (y 15) (y 16));rw[p 17 b',p 15 b',p 16 b'];exact bd k [29] a D FF
abbrev ae9(g:Int)(i d:dP)(a:Int)(h:m cN)(b:Bool)(e:Nat):y:=
 [aI 8 0,aI 8 0,aI 8 0,R g,aI 8 0,aI 8 0,aI 8 1,gE i,aI 9 1,R a,aI 9 2,bu.B h,j4 d b,j4 d b,gE d,bg b,aI 11 0,.any,bg b].getD e .any
set_option maxRecDepth 20000 in
def YZ(r A)(cD)(F)(h)(b)(i)(p:eJ j b)(X:j<=1000)(J:i.1=1):mh 29 r A cD F h b i:=by
 unfold mh;have E:a' (af.ay S) [(38,u4),(59,rB)]:=.cons zK (.cons wn .nil);by_cases e:1<=i.2.1/\i.2.1<=2
 rotate_left
 .have z:cd h b i=(b,v):=by unfold cd;simp[J,e]
  rw[z];refine bm.bN func29 rfl rfl rfl (g.aQ ?_);exact bd E [11,16] a (by simp[oc,e]) wM
 cases aa:dO i.2.2.1 with
 |false=>
  have z:cd h b i=(b,v):=by unfold cd;simp[J,aa]
  rw[z];refine bm.bN func29 rfl rfl rfl (g.aQ ?_);exact bd E [-11,16] a Sh wM
 |true=>
 have z:cd h b i=k2 h b i.2.1 i.2.2.1:=by unfold cd;simp[J,e,aa]
 rw[z];have N:=ps (bU:=i.2.1) (b:=b.1.1) (d:=b.2.1) (bk:=b.2.2) p.bm p.b3;have M:=I9 (q:=af.ay S) r A cD F i h b.1 b.2.1 i.2.1 b.2.2.1 b.2.2.2 p.a.bj.dF e p.bm p.b3;have Q:=YH r A h b.1 i.2.1 i.2.2.1 (p.a.fR w) p.a.bj.du p.a.bj.dL m5;have W:=Ev (h:=h) (bU:=i.2.1) (o:=i.2.2.1) p.a;unfold k2;rw[show((b.2.2.1,b.2.2.2):m (Int×Int)×m Int)=b.2.2 from a]at M;generalize eH i.2.1 b.1.1 b.2.1 b.2.2=k at *;have I:k.2.getD (0+(i.2.1-1).toNat) az.E=k.2.getD (i.2.1-1).toNat 0:=q_;refine bm.bN func29 rfl rfl rfl (g.aQ ?_);refine bd E [-11,-16] a Sh (g.cL M a a a a D a λu=>?_);refine bO [904] a B (g.bb (ob r A cD F h b.1 b.2.1 k.1 (az.fn k.2) i++[.N]) a ud ?_);by_cases t:k.2.getD (i.2.1-1).toNat 0=0
 rotate_left
 .rw[bj (λp=>t p.1)];refine bO [31,38] a ?_ ?_
  .simp only[U,I,a8,iC,ea,ba,a9];and_intros<;>first|exact t|omega
  exact Qp
 by_cases C:b.2.1.1=0
 rotate_left
 .rw[bj (λp=>C p.2)];refine bO [-31,38] a ?_ ?_
  .simp only[U,I,t,a8,iC,iz,ea,ba,a9];and_intros<;>first|exact C|omega
  exact Qp
 rw[bl ⟨t,C⟩];refine bO [-31,-38,906] a ?_ ?_
 .simp only[U,I,t,C,a8,iz,ba,a9];omega
 refine g.b9 b6 (ae9 h b.1 (fL h b.1 i.2.1 i.2.2.1).1 i.2.1 i.2.2.1 (fL h b.1 i.2.1 i.2.2.1).2) (kS (tu (ob r A cD F h b.1 b.2.1 k.1 (az.fn k.2) i++[.N]) (fL h b.1 i.2.1 i.2.2.1).1) 18 16 17) a a a a
  ⟨.aC,.aC,.aC,.aC,.aC,.aC,.aC,.aC,.aC,.aC,.aC,.aC,
  bV.bJ a a a (λx s O=>aT.dO (by cases s<;>cases O<;>exact dX.ec Q.tocI [0,1,2] a a a a a a a bn a bn)),
  .aC,.aC,.aC,
  bV.dR a a a a a (λx=>by cases x<;>exact dT (bf:=[]) bb E (aq:=f _) a B),
  bV.dS a a a a a (λx=>by cases x<;>exact dT (bf:=[]) bb E (aq:=f _) a B),
  bV.dQ a a a a (λs O=>by cases s<;>cases O<;>exact aT.w),B⟩ ?_
 intro y K;show g (af.ay S) _ _ _ _ _ (tu _ (fL h b.1 i.2.1 i.2.2.1).1 (y 18) (y 16) (y 17));rw[K 18 b',K 16 b',K 17 b'];cases jR:(fL h b.1 i.2.1 i.2.2.1).2 with
 |false=>
  rw[bj D];refine bO [56] a uk (g.eK 1 ?_);refine g.cN 9 a bn ?_;refine g.cN 11 a bn ?_;refine g.ret ?_;exact⟨⟨_,bs.same⟩,.inl a,a,a,_,_,_,a,a,a,a⟩
 |true=>
  rw[bl a];have T:=(W jR).1;generalize(fL h b.1 i.2.1 i.2.2.1).1=w2 at *;have R:=U5 (q:=af.ay S) r A cD F i w2 h w2 b.2.1 i.2.1 k.1 k.2 T.bj.dF e N.1 N.2;rw[show((k.1,k.2):m (Int×Int)×m Int)=k from a]at R;refine bO [-56] a uk (g.cL R a a a a D a λV=>?_);refine cA a B (g.cN 9 a bn ?_);refine g.cN 11 a bn ?_;refine g.ret ?_;exact⟨V,.inl a,a,a,_,_,_,a,a,a,a⟩
section
variable {q:af S}
def U0(d)(h:c d<=4000000):Y q 65 [a3.B d] [] (cE 0 (.B (c d) 2 0 (c d))) [.q 58 2 (c d) (a3.fn d)]:=by
 refine Y.I func65 rfl λi=>?_;refine aR a B (g.er bb a a a a a a λb e=>?_);cases b with
 |true=>
  obtain rfl:=jK (e rfl);refine aR a B (g.e' 2 58 2 (a3.fn []) a ?_);exact FL
 |false=>
  refine gv [] 7 a B (g.dJ 5 58 2 (a3.fn []) a ?_);refine aR a ⟨a,a,show(0+c d)*16<=_ by omega⟩ (g.bb [.q 58 2 (c d) (a3.fn d)] a ?_ ?_)
  .simp[bs,cj]
  exact FW
abbrev uW(a:dP):ar:=.q 86 2 (c a.1.1) (a2.fn a.1.1)
abbrev xv(db:m (Int×Int)):ar:=.q 58 2 (c db) (a3.fn db)
abbrev N9(a:eE):m Q:=.c (.int .i64 a.1)::([.O 2 (.B (c a.2.1.1.1) 2 0 (c a.2.1.1.1)),cL bh a.2.1.1.2.1,cL a3 a.2.1.1.2.2,cL az a.2.1.2.1,cL az a.2.1.2.2]++tl a.2.2.1++[.O 3 (.B (c a.2.2.2.1) 2 0 (c a.2.2.2.1)),.O 4 (.B (c a.2.2.2.2) 1 0 (c a.2.2.2.2))])
def ID(a:eE)(b d e g:Bool):m ar:=
 match b,d,e,g with
 |true,l,l,l=>[m4 a,.cells 38 (N9 a),uW a.2.1,xv a.2.2.2.1,jO (c a.2.2.2.2) a.2.2.2.2]
 |true,l,l,v=>[m4 a,fN,uW a.2.1,xv a.2.2.2.1,jO (c a.2.2.2.2) a.2.2.2.2]
 |true,l,v,_=>[m4 a,fN,uW a.2.1,xv a.2.2.2.1]
 |true,v,_,_=>[m4 a,fN,uW a.2.1]
 |false,_,_,_=>[m4 a,fN]
abbrev aeV(a:eE)(b:Nat):y:=
 [aI 0 0,R a.1,aI 0 1,gE a.2.1,.n (.agg [.O 2 (.B (c a.2.1.1.1) 2 0 (c a.2.1.1.1)),cL bh a.2.1.1.2.1,cL a3 a.2.1.1.2.2,cL az a.2.1.2.1,cL az a.2.1.2.2]),aI 0 6,ev a.2.2.1,aI 0 10,a3.B a.2.2.2.1,cE 3 (.B (c a.2.2.2.1) 2 0 (c a.2.2.2.1)),
  aI 0 11,az.B a.2.2.2.2,cE 4 (.B (c a.2.2.2.2) 1 0 (c a.2.2.2.2)),.n (.agg (N9 a)),.any].getD b .any
set_option maxRecDepth 20000 in
def YV(p)(h:dJ p.2.1.1)(O:c p.2.1.2.1<=4000000)(e:c p.2.1.2.2<=4000000)(b:c p.2.2.2.1=2)(s:c p.2.2.2.2=2):
  Y q 34 [fb p] [] (.n (.agg (g1 p.1 p.2.1 p.2.2.1 0))) (lq p.2.2.2.1 p.2.2.2.2):=by
 refine Y.bh bb func34 rfl rfl rfl λj=>?_
 have x:a' q [(64,la [gE p.2.1] [] (.n (.agg [.O 0 (.B (c p.2.1.1.1) 2 0 (c p.2.1.1.1)),cL bh p.2.1.1.2.1,cL a3 p.2.1.1.2.2,cL az p.2.1.2.1,cL az p.2.1.2.2])) [uW p.2.1]),
   (65,la [a3.B p.2.2.2.1] [] (cE 0 (.B (c p.2.2.2.1) 2 0 (c p.2.2.2.1))) [xv p.2.2.2.1]),
   (66,la [az.B p.2.2.2.2] [] (cE 0 (.B (c p.2.2.2.2) 1 0 (c p.2.2.2.2))) [jO (c p.2.2.2.2) p.2.2.2.2])]:=
  .cons (mb (JP p.2.1 h O e)) (.cons (mb (U0 p.2.2.2.1 w)) (.cons (mb (I6 p.2.2.2.2 w)) .nil))
 refine bd x [901] a B ?_;refine g.b9 b6 (aeV p) (mD (ID p) 4 9 12 14) a a a a
  ⟨.aU,.aU,.aU,.aU,
  bV.eb a a a a a a (dT (bf:=[]) bb x (aq:=f _) a ⟨rfl,rfl⟩),
  .aU,.aU,.aU,.aU,
  bV.eT a a a a a a (dT (bf:=[]) bb x (aq:=f _) a ⟨rfl,rfl⟩),
  .aU,.aU,
  bV.eU a a a a a a (dT (bf:=[]) bb x (aq:=f _) a ⟨rfl,rfl⟩),
  .aU,
  bV.eV a a a a a a (dT (bf:=[]) bb x (aq:=f _) a B),B⟩ ?_
 intro y i;show g q _ _ _ _ _ (ID p (y 4) (y 9) (y 12) (y 14));rw[i 4 b',i 9 b',i 12 b',i 14 b'];refine tH x [] 1 a B (g.bL 2 a a a D D (g.bb [m4 p,.cells 38 (g1 p.1 p.2.1 p.2.2.1 3),.N,.q 58 2 2 (a3.fn p.2.2.2.1),.q 3 1 2 (az.fn p.2.2.2.2)] a ?_ ?_))
 .simp[ik,b,s]
 refine g.bg () [3,4] ?_ (λk d=>absurd d D);simp
end
abbrev j6:eE:=(0,hr,er,[],[])
def Cv(a:eE)(b:d_):eE×Bool:=if fD a=l then((a.1,(cd a.1 a.2 b).1),(cd a.1 a.2 b).2)else(j6,v)
abbrev m1(a:eE×Bool):y:=.T [.agg (fx a.1),.R (.c (.bool a.2))]
def Ob{p}(a:fD p=l):c p.2.2.2.1=2/\c p.2.2.2.2=2/\hp p.1 p.2.1=l:=by simp only[fD,cm,bw]at a;exact⟨a.1.1.1,a.1.1.2,a.2⟩
abbrev vm(a:Nat):m M:=[.fn (.func a) [] []]
abbrev E6:m (m M):=[vm 29,vm 30,vm 31,vm 32,vm 33]
abbrev Y'(a:Nat):Nat:=[29,30,31,32,33].getD (a-1) 0
abbrev wA(a:Int)(e:d_)(d:Bool)(b:Nat):y:=
 [ax (.B l 1 5 λb=>E6.getD b []),aI 4 0,R a,R (a-1),ax (.Q (E6.getD (a-1).toNat [])),ax ((E6.getD (a-1).toNat []).getD 0 (.bool v)),ns e,bg d,bg d].getD b .any
set_option maxRecDepth 20000 in
def Y1(k i)(p)(e)(j)(t:fQ (6000+240*j) p.2.1)(I:j<=1000):
  Y (af.ay S) 10 [fb p,ns e] (gy k i) (m1 (Cv p e)) (gy k i):=by
 refine Y.bh bb func10 rfl rfl rfl λy=>?_;have x:a' (af.ay S) [(28,dS [fb p] (bg (fD p)))]:=.cons (d9 (CS p (t.fR w))) .nil;unfold Cv;cases bY:fD p with
 |false=>
  exact bd x [11] a k3 kE
 |true=>
 obtain⟨A,E,F⟩:=Ob bY;have s:eJ j p.2:=⟨t,A,E⟩;have M:=t.cB w
 rw[bl a];refine bd x [-11] a k3 (g.aB (YV p M.bj (by have:=t.cm;omega) (by have:=t.de;omega) A E) [] a ?_);by_cases N:1<=e.1/\e.1<=5
 rotate_left
 .have Q:cd p.1 p.2 e=(p.2,v):=by unfold cd;grind
  rw[Q];apply g.cj [(2,aI 3 0),(3,aI 4 0),(4,aI 5 0),(7,aI 8 0)] (py k i p e++lq p.2.2.2.1 p.2.2.2.2++[pN p.1 p.2.1 p.2.2.1])
  .intro dy;by_cases J:e.1<1
   .exact bd x [19,23,906] a (by simp[J]) kD
   exact bd x [-19,23,906] a bK kD
  refine g.bL 6 a a a D D (g.bL 7 a a a D D (cU x a B (g.cc () [0,1,2] ?_ kp)));simp[ik,A,E]
 have bz:mh (Y' e.1.toNat) k i p e p.1 p.2 e:=by
  have z:e.1=1∨e.1=2∨e.1=3∨e.1=4∨e.1=5:=w;rcases z with r|r|r|r|r<;>rw[r]
  .exact YZ k i p e p.1 p.2 e s I r
  .exact YY k i p e p.1 p.2 e s r
  .exact YX k i p e p.1 p.2 e r
  .exact YW k i p e p.1 p.2 e s F r
  exact Y0 k i p e p.1 p.2 e s I F r
 unfold mh at bz;have C:(cd p.1 p.2 e).1.2.2.1.length=2/\(cd p.1 p.2 e).1.2.2.2.length=2:=⟨(s.do).bm,(s.do).b3⟩;refine bd x [-19,-23,907] a bK ?_
 generalize K:cd p.1 p.2 e=d at *;have z:e.1=1∨e.1=2∨e.1=3∨e.1=4∨e.1=5:=w;obtain⟨r,b,q,h,o⟩:=e;simp only at z bz;rcases z with rfl|rfl|rfl|rfl|rfl
 .refine g.dh b6 7 (λm=>ay m 6) (wA 1 (1,b,q,h,o) d.2) (λ(_:qq d.1.2.2.2) m=>[bg d.2,bg d.2].getD (m-7) .any) (λu=>qh k i p (1,b,q,h,o) p.1 d.1 u.1) a a a a a a wI wH wK ?_;intro u;refine g.bb (py k i p (1,b,q,h,o)++lq d.1.2.2.1 d.1.2.2.2++[pN p.1 d.1.1 d.1.2.1,.N,.N,.N,.N]) a ud ?_;exact wG
 .refine g.dh b6 7 (λm=>ay m 6) (wA 2 (2,b,q,h,o) d.2) (λ(_:qq d.1.2.2.2) m=>[bg d.2,bg d.2].getD (m-7) .any) (λu=>qh k i p (2,b,q,h,o) p.1 d.1 u.1) a a a a a a wI wH wK ?_;intro u;refine g.bb (py k i p (2,b,q,h,o)++lq d.1.2.2.1 d.1.2.2.2++[pN p.1 d.1.1 d.1.2.1,.N,.N,.N,.N]) a ud ?_;exact wG
 .refine g.dh b6 7 (λm=>ay m 6) (wA 3 (3,b,q,h,o) d.2) (λ(_:qq d.1.2.2.2) m=>[bg d.2,bg d.2].getD (m-7) .any) (λu=>qh k i p (3,b,q,h,o) p.1 d.1 u.1) a a a a a a wI wH wK ?_;intro u;refine g.bb (py k i p (3,b,q,h,o)++lq d.1.2.2.1 d.1.2.2.2++[pN p.1 d.1.1 d.1.2.1,.N,.N,.N,.N]) a ud ?_;exact wG
 .refine g.dh b6 7 (λm=>ay m 6) (wA 4 (4,b,q,h,o) d.2) (λ(_:qq d.1.2.2.2) m=>[bg d.2,bg d.2].getD (m-7) .any) (λu=>qh k i p (4,b,q,h,o) p.1 d.1 u.1) a a a a a a wI wH wK ?_;intro u;refine g.bb (py k i p (4,b,q,h,o)++lq d.1.2.2.1 d.1.2.2.2++[pN p.1 d.1.1 d.1.2.1,.N,.N,.N,.N]) a ud ?_;exact wG
 refine g.dh b6 7 (λm=>ay m 6) (wA 5 (5,b,q,h,o) d.2) (λ(_:qq d.1.2.2.2) m=>[bg d.2,bg d.2].getD (m-7) .any) (λu=>qh k i p (5,b,q,h,o) p.1 d.1 u.1) a a a a a a wI wH wK ?_;intro u;refine g.bb (py k i p (5,b,q,h,o)++lq d.1.2.2.1 d.1.2.2.2++[pN p.1 d.1.1 d.1.2.1,.N,.N,.N,.N]) a ud ?_;exact wG
section
variable {p:dP}{bU:Int}{o:m cN}
def zt(i:mi p.1)(d:(fL h p bU o).2=l):jI h p/\iO h p.1 bU o/\fL h p bU o=(l9 h p bU o,l):=by
 unfold fL at *;split at d
 .rename_i b;rw[bl b];split at d
  .cases d
  rename_i g;rw[bj g];simp only[qG,cm,bw]at b;have e:=sb.1 b.1.1;exact⟨e,⟨e.toiN,i,b.1.2,b.2,by simp_all⟩,a⟩
 cases d
def jI.cM(e:jI h p)(i:iO h p.1 bU o):jI h (l9 h p bU o):=by
 refine⟨i.ok,λg b d a=>?_,λd a=>?_,e.g8⟩
 .show d∈(gJ (fM (cR p.1) h o).2).foldl fe p.2.1;rw[yV,DO];have b:g∈p.1.2.1++[fM (cR p.1) h o]:=b;rcases fG.1 b with b|b
  .exact .inl (e.gq g b d a)
  simp_all
 obtain⟨m,j,k⟩:=e.gp d a;exact⟨m,A3 _ j,k⟩
end
section
variable {q:af S}
abbrev Od(a:eE)(d b:Nat):m Q:=.c (.int .i64 a.1)::([cL a2 a.2.1.1.1,cL bh a.2.1.1.2.1,cL a3 a.2.1.1.2.2,cL az a.2.1.2.1,.x d 1 (c a.2.1.2.2) (az.fn a.2.1.2.2)]++tl a.2.2.1++[.O b (.B 2 2 0 2),.O (b+1) (.B 2 1 0 2)])
abbrev m3(b:eE)(a:d_):m ar:=[.cells 38 (fx b),s4 a,fN]
abbrev Lq:ar:=.K λ_ _=>False
def ab'(a:eE)(b:d_)(h:Option Bool)(g d e:Bool):m ar:=
 match h with
 |none=>match d with
  |false=>m3 a b
  |true=>m3 a b++[fN]
 |some l=>match g,d,e with
  |false,v,_=>m3 a b++[fN,i' a.2.1]++hN a.2++[Lq]
  |true,v,_=>m3 a b++[fN,i' a.2.1]++hN (cd a.1 a.2 b).1++[Lq]
  |false,l,_=>m3 a b++[fN,i' a.2.1]++hN a.2
  |true,l,v=>m3 a b++[fN,i' a.2.1]++hN (cd a.1 a.2 b).1
  |true,l,l=>m3 a b++[.cells 38 (g1 a.1 (cd a.1 a.2 b).1.1 (cd a.1 a.2 b).1.2.1 5),i' a.2.1]++hN (cd a.1 a.2 b).1
 |some v=>match g,d,e with
  |false,v,_=>m3 a b++[i' a.2.1]++hN a.2
  |false,l,_=>m3 a b++[i' a.2.1]++hN a.2++[fN]
  |true,v,_=>m3 a b++[i' a.2.1]++hN (cd a.1 a.2 b).1
  |true,l,v=>m3 a b++[i' a.2.1]++hN (cd a.1 a.2 b).1++[fN]
  |true,l,l=>m3 a b++[i' a.2.1]++hN (cd a.1 a.2 b).1++[.cells 38 (g1 a.1 (cd a.1 a.2 b).1.1 (cd a.1 a.2 b).1.2.1 4)]
def sj(a:eE)(b:d_)(e:Option Bool)(d:Nat):y:=
 match e with
 |none=>[fb a,.any,ns b,.any,.any,.any,.any,aI 3 0,.any,.any].getD d .any
 |some l=>[fb a,.n (.agg (Od a 4 5)),ns b,.T [.agg (g1 a.1 (cd a.1 a.2 b).1.1 (cd a.1 a.2 b).1.2.1 5),.R (.c (.bool (cd a.1 a.2 b).2))],.T [.agg (g1 a.1 (cd a.1 a.2 b).1.1 (cd a.1 a.2 b).1.2.1 5),.R (.c (.bool (cd a.1 a.2 b).2))],.n (.agg (g1 a.1 (cd a.1 a.2 b).1.1 (cd a.1 a.2 b).1.2.1 5)),bg (cd a.1 a.2 b).2,aI 3 0,.any,bg (cd a.1 a.2 b).2].getD d .any
 |some v=>[fb a,.n (.agg (Od a 3 4)),ns b,.T [.agg (g1 a.1 (cd a.1 a.2 b).1.1 (cd a.1 a.2 b).1.2.1 4),.R (.c (.bool (cd a.1 a.2 b).2))],.T [.agg (g1 a.1 (cd a.1 a.2 b).1.1 (cd a.1 a.2 b).1.2.1 4),.R (.c (.bool (cd a.1 a.2 b).2))],.n (.agg (g1 a.1 (cd a.1 a.2 b).1.1 (cd a.1 a.2 b).1.2.1 4)),bg (cd a.1 a.2 b).2,aI 6 0,.any,bg (cd a.1 a.2 b).2].getD d .any
def eJ.j5{b}(a:eJ j b)(d:j<=1001):uz b.1:=a.a.cB w
end
section
variable {q:af S}
def Jk(p)(d:dJ p.2.1.1)(h:c p.2.2.2.1<=4000000):Y q 8 [fb p,fb p] [] (bg l) []:=by
 refine Y.I func8 rfl λi=>?_;have x:a' q [(25,dS [gE p.2.1,gE p.2.1] (bg l)),(11,xL)]:=.cons (d9 (WI p.2.1 d)) (.cons EY .nil);refine bd x [-11,-19,-26,-35,-42] a (by simp[az.U,az.l]) (g.aH 2 (λb=>b<=c p.2.2.2.1) (λb:Nat=>[(2,aI 0 0),(3,aI 1 0),(5,R b)]) (λ_=>[.cells 38 (fx p),.cells 38 (fx p)]) (λb=>c p.2.2.2.1-b) 0 a D a D a w ?_);intro b e;by_cases j:b<c p.2.2.2.1
 .refine bd x [47,-60] a ?_ (g.az (b+1) a ?_ ?_ ?_ ?_)
  .simp only[U,a8,gm,fB,iz,bw,ba,a9];and_intros<;>first|omega|rfl|simp
  .simp
  .simp
  .grind
  omega
 refine bd x [-47] a bK (g.aA ?_);exact wL
end
section
variable {q:af S}[q.bZ]
end
def uy(a:m (Int×Int)×m Int):Prop:=c a.1=2/\c a.2=2/\∀b,b<2->vL (a.1.getD b (0,0))=l/\0<=a.2.getD b 0/\a.2.getD b 0<=2
def t1{b}:fD (h,b)=l↔jI h b.1/\uy b.2.2:=by
 unfold fD uy;simp[cm,bw,gf,sb,ww];constructor
 .rintro⟨⟨⟨a,i⟩,d⟩,s⟩;exact⟨s,a,i,d⟩
 rintro⟨s,a,i,d⟩;exact⟨⟨⟨a,i⟩,d⟩,s⟩
def aaz{A}{d}(b:vL A=l):vL (e6 A d).1=l/\0<=(e6 A d).2/\(e6 A d).2<=2:=by
 unfold e6;split
 .rename_i s;split
  .obtain⟨i,e⟩:=yP s.1;have a:=(wi i e (c d)).1;rw[c8]at a;refine⟨?_,by simp,by simp⟩;simp only[vL,cm,bw];exact⟨⟨by omega,by omega⟩,a⟩
  exact⟨b,by simp,by simp⟩
 exact⟨b,by simp,by simp⟩
def uy.look{bU}{b}{d}{h}(g:uy h)(s:1<=bU/\bU<=2):uy (eH bU b d h):=by
 obtain⟨k,m⟩:=ps (bU:=bU) (b:=b) (d:=d) g.1 g.2.1;refine⟨k,m,λa o=>?_⟩;have p:(bU-1).toNat<2:=w;obtain⟨r,q⟩:=g.2.2 a o;have i:=aaz (d:=(g_ b d).2.2) (g.2.2 _ p).1;unfold eH;split
 .have dL:∀e,(h.1.set (bU-1).toNat e).getD a (0,0)=if(bU-1).toNat=a then e else h.1.getD a (0,0):=λe=>by simp[al,n'];split<;>simp_all[g.1]
  have j:∀e,(h.2.set (bU-1).toNat e).getD a 0=if(bU-1).toNat=a then e else h.2.getD a 0:=λe=>by simp[al,n'];split<;>simp_all[g.2.1]
  rw[dL,j];split
  .exact⟨i.1,i.2⟩
  exact⟨r,q⟩
 exact⟨r,q⟩
def ya{b}{ak}(p:fQ j b.1)(r:fD (h,b)=l):fD (h,(cd h b ak).1)=l:=by
 obtain⟨a,g⟩:=t1.1 r;refine t1.2 ?_;unfold cd;split
 .split
  .rename_i i;have k:=g.look (b:=b.1.1) (d:=b.2.1) i.1;unfold k2;split
   .split
    .rename_i e;obtain⟨q,m,o⟩:=zt p.bj.dL e;rw[o];exact⟨q.cM m,k.look i.1⟩
    exact⟨a,k⟩
   exact⟨a,k⟩
  exact⟨a,g⟩
 split
 .split
  .rename_i i;exact⟨a,g.look i⟩
  exact⟨a,g⟩
 split
 .exact⟨a,g⟩
 split
 .split
  .refine⟨?_,g⟩;unfold jP;rw[bl (sa.2 a.toiN)];exact Th a.toiN
  exact⟨a,g⟩
 split
 .exact⟨a.step,g⟩
 exact⟨a,g⟩
def K7{d:Int×Int}{b:m (Int×Int)}(a:(e6 d b).2=0):e6 d b=(((c b:Int),e9 b),0):=by
 unfold e6 at *;split at a
 .rename_i e;rw[bl e];split at a
  .rename_i i;rw[bl i]
  simp at a
 simp at a
def K6{d a7:m (Int×Int)}(a:gH (d++a7)=l):e6 ((c d:Int),e9 d) (d++a7)=(((c (d++a7):Int),e9 (d++a7)),0):=by unfold e6;rw[bl ⟨a,by simp;omega,by simp⟩,bl D]
def KZ{i:Int}{b:cc}{d:dq}{bk:m (Int×Int)×m Int}(e:bk.2.getD (i-1).toNat 0=0)(a:d.1=0):eH i b d bk=(bk.1.set (i-1).toNat (e6 (bk.1.getD (i-1).toNat (0,0)) b.2.2).1,bk.2.set (i-1).toNat (e6 (bk.1.getD (i-1).toNat (0,0)) b.2.2).2):=by unfold eH;rw[bl e];simp[g_,a]
def vr{a:m α}{b d:α}(g:e<c a):(a.set e b).getD e d=b:=by simp[al,g]
section
variable {q:af S}
abbrev IU(a:d_):m M:=[.int .i64 a.1,.int .i64 a.2.1,.B v 2 (c a.2.2.1) (bu.fn a.2.2.1),.int .i64 a.2.2.2.1.1,.int .i64 a.2.2.2.1.2.1,.int .i64 a.2.2.2.1.2.2.1,.S a.2.2.2.1.2.2.2,.B v 1 (c a.2.2.2.2) (az.fn a.2.2.2.2)]
abbrev IP(a:m M):d_:=(nE a 0,nE a 1,bu.ad (oN a 2).1 (oN a 2).2,(nE a 3,nE a 4,nE a 5,tR a 6),az.ad (oN a 7).1 (oN a 7).2)
def T3(a:d_):IP (IU a)=a:=by show(a.1,a.2.1,bu.ad (c a.2.2.1) (bu.fn a.2.2.1),a.2.2.2.1,az.ad (c a.2.2.2.2) (az.fn a.2.2.2.2))=a;rw[bu.l,az.l]
def gS:c6 d_:={bm:=8,a8:=IU,b_:=IP,E:=(0,0,[],er,[]),inv:=T3,len:=λ_=>rfl}
abbrev cD(a:Int):eE:=(a,hr,er,yM,yp)
def e8(d:Int)(a:eR)(e:m d_):eR:=e.foldl (λa b=>(cd d a b).1) a
def ab0(a:Int)(e:eR)(d:m d_)(b:d_):e8 a e (d++[b])=(cd a (e8 a e d) b).1:=by simp[e8]
def r7{h:Int}:∀(a:m d_){b:Nat}{e:eR},eJ b e->eJ (b+c a) (e8 h e a)
 |[],_,_,d=>d
 |ak::a,b,e,d=>by have:=r7 (h:=h) a (d.do (h:=h) (ak:=ak));simp only[fs];rw[show b+(c a+1)=b+1+c a by omega];exact this
def tI{h:Int}:∀(d:m d_){g:Nat}{a:eR},eJ g a->fD (h,a)=l->fD (h,e8 h a d)=l
 |[],_,_,_,b=>b
 |i::d,g,a,e,b=>tI d e.do (ya e.a b)
def Es{b:eR}{d:m d_}(t:e<c d):e8 h b (d.take (e+1))=(cd h (e8 h b (d.take e)) (d.getD e gS.E)).1:=Sc
def yf(e d:an×X){a:eR}(b:d_)(i:eJ j a)(g:fD (h,a)=l)(k:j<=1000):Y (af.ay S) 10 [fb (h,a),ns b] (gy e d) (m1 ((h,(cd h a b).1),(cd h a b).2)) (gy e d):=by
 have m:=Y1 e d (h,a) b j i.a k
 rwa [show Cv (h,a) b=((h,(cd h a b).1),(cd h a b).2)from bl g]at m
def z0(d:ce h=l):fD (cD h)=l:=by
 refine t1.2 ⟨?_,a,a,λe b=>?_⟩
 .exact⟨⟨by simp[hr],by simp[hr],by simp[hr,ck],by simp[hr],by simp[hr],d,a,by simp[hr]⟩,by simp[hr],by simp[hr],by simp[hr]⟩
 .match e,b with
  |0,_=>exact⟨rfl,by decide,by decide⟩
  |1,_=>exact⟨rfl,by decide,by decide⟩
def qK(a:Int):eE×Bool:=if ce a=l then(cD a,l)else(j6,v)
def qP(a:Int)(b:m d_):eE×Bool:=if ce a=l/\c b<=30 then((a,e8 a (cD a).2 b),l)else(j6,v)
def Y3(b:Int)(bY:ce b=v):Y q 21 [R b] [] (m1 (j6,v)) []:=by refine Y.bh bb func21 rfl rfl rfl λe=>?_;have d:a' q [(48,rD)]:=.cons tU .nil;refine a_ d [7] a k3 ?_;refine g.cc () [] ?_ eN;simp
abbrev Ol:Q:=.c (.B v 2 2 λ_=>[.int .i64 0,.int .i64 0])
abbrev Oj:Q:=.c (.B v 1 2 λ_=>[.int .i64 0])
abbrev Ls(a:Int):m Q:=.c (.int .i64 a)::((lC++tl er)++[Ol,Oj])
abbrev Lt(b:Int)(a _b:Bool):m ar:=match a with
 |false=>[fN]
 |true=>[.cells 38 (Ls b)]
abbrev ae1(a:Int)(b:Nat):y:=[R a,.n (.R Ol),.n (.R Oj),.n (.agg (Ls a)),.any,bg l].getD b .any
def JU(b:Int):Y q 24 [R b] [] (m1 (qK b)) []:=by
 refine Y.bh bb func24 rfl rfl rfl λm=>?_;have d:a' q [(56,dc c7 (λb=>bg (ce b)) λ_=>[])]:=.cons t56 .nil;unfold qK;cases bY:ce b with
 |false=>
  exact a_ d [6] a k3 FU
 |true=>
 refine a_ d [-6] a k3 ?_;refine g.b9 b6 (ae1 b) (mC (Lt b) 4 5) a a a a
  ⟨.ba,bV.fc a a (λx i=>by cases x<;>cases i<;>exact aT.ev (ι:=Unit) a (ei.ho (j:=2) (a5:=yJ) bb a a a a a a (by show 2*16<=_;decide) b')),
   bV.fc a a (λx i=>by cases x<;>cases i<;>exact aT.ev (ι:=Unit) a (ei.ho (j:=2) (a5:=dZ) bb a a a a a a (by show 2*8<=_;decide) b')),.ba,
   bV.eM a a (dT (bf:=[]) bb d (aq:=f _) a B),bV.eN a a (aT.w),B⟩ ?_
 intro y h;show g q _ _ _ _ _ (Lt b (y 4) (y 5));rw[h 4 b',h 5 b'];refine b9 d a B (g.cc () [] ?_ eN);simp only[U.Y,U,dx,ba,a9];and_intros<;>first|rfl|(intro k e;match k,e with|0,_=>rfl|1,_=>rfl)
abbrev pM(b:Int)(a:eR):ar:=.cells 38 (g1 b a.1 a.2.1 1)
abbrev L3(b:Int)(a d:eR)(e g h:Bool):m ar:=
 match e,g,h with
 |false,v,_=>[fN]++hN a++[pM b a]
 |false,l,v=>[fN]++hN a++[pM b a,fN]
 |false,l,l=>[fN]++hN a++[pM b a,pM b d]
 |true,v,_=>[fN]++hN d++[pM b a]
 |true,l,v=>[fN]++hN d++[pM b a,fN]
 |true,l,l=>[fN]++hN d++[pM b a,pM b d]
abbrev IO(b:Int)(a:eR):y:=.n (.agg (g1 b a.1 a.2.1 1))
abbrev ae2(d:Int)(g:m d_)(e:Nat)(i a:eR)(b:Bool)(h:Nat):y:=
 [IO d i,gS.B g,R e,ax (.Q (gS.fn g e)),ns (g.getD e gS.E),.T [.agg (g1 d a.1 a.2.1 1),.R (.c (.bool b))],.T [.agg (g1 d a.1 a.2.1 1),.R (.c (.bool b))],IO d a,bg b,aI 4 0,.any,bg b].getD h .any
def JE(h:Int)(b:m d_)(J:c b<=4000000):Y q 6 [R h,gS.B b] [] (m1 (qP h b)) []:=by
 refine Y.bh bb func6 rfl rfl rfl λI=>?_;unfold qP;by_cases bY:ce h=l
 rotate_left
 .rw[bj λt=>bY t.1];exact Qw
 refine aR a B (g.aB (JV (q:=q) h bY) [] a ?_);by_cases u:c b<=30
 rotate_left
 .rw[bj λt=>u t.2];exact Qq
 rw[bl ⟨bY,u⟩];refine a4 [-18,-22] a bK (g.aH 4 (λd=>d<=c b) (λd:Nat=>[(1,gS.B b),(4,aI 0 0),(6,aI 3 0),(8,R d)]) (λd=>[fN]++hN (e8 h (cD h).2 (b.take d))++[pM h (e8 h (cD h).2 (b.take d))]) (λd=>c b-d) 0 a D a ?_ a w ?_)
 .have j:e8 h (cD h).2 (b.take 0)=(cD h).2:=rfl;rw[j];simp
 intro d z;have p:=r7 (h:=h) (b.take d) eJ.zero;by_cases t:d<c b
 .have o:e8 h (cD h).2 (b.take (d+1))=(cd h (e8 h (cD h).2 (b.take d)) (b.getD d gS.E)).1:=Sc;have F:=Vr (q:=q) h (e8 h (cD h).2 (b.take d)) (b.getD d gS.E) _ p bK;refine a4 [27,907] a bK ?_;generalize e8 h (cD h).2 (b.take d)=i at *;generalize cd h i (b.getD d gS.E)=e at *;have k:a' q [(22,la [Cu h i,ns (b.getD d gS.E)] (hN i) (E5 h e.1 e.2) (hN e.1))]:=.cons (mb F) .nil;refine g.b9 b6 (ae2 h b d i e.1 e.2) (kS (L3 h i e.1) 5 9 10) a a a a
   ⟨.cK bb k (cx:=by trivial),.aC,.aC,.cK bb k (cx:=by simp;omega),.cK bb k (cx:=by trivial),
   bV.dQ a a a a (λs O=>by cases s<;>cases O<;>exact dT (bf:=[]) bb k (aq:=f _) a ⟨rfl,rfl⟩),
   .aC,.aC,.aC,
   bV.dR a a a a a (λx=>by cases x<;>exact dT (bf:=[]) bb k (aq:=f _) a B),
   bV.dS a a a a a (λx=>by cases x<;>exact dT (bf:=[]) bb k (aq:=f _) a B),.aC,B⟩ ?_
  intro y r;show g q _ _ _ _ _ (L3 h i e.1 (y 5) (y 9) (y 10));rw[r 5 b',r 9 b',r 10 b'];refine aR a j7 (g.az (d+1) a D ?_ ?_ ?_)
  .rw[o];simp
  .omega
  omega
 obtain rfl:d=c b:=w;rw[c8]at *;refine a4 [-27] a D (g.aA ?_);have C:(e8 h (cD h).2 b).2.2.1.length=2:=p.bm;have E:(e8 h (cD h).2 b).2.2.2.length=2:=p.b3;have A:=Vb (q:=q) (h,e8 h (cD h).2 b) (p.j5 w) (show(e8 h (cD h).2 b).2.2.1.length<=4000000 by omega) (show(e8 h (cD h).2 b).2.2.2.length<=4000000 by omega);generalize e8 h (cD h).2 b=i at *;refine gv [] 0 a B (g.bL 1 a a a D D (g.bL 2 a a a D D (aR a B (g.bV A.tocI [] a a a a ?_ a a a bn a bn a ?_))))
 .simp only[U.Y,U,ba,a9];and_intros<;>first|exact bs.same|rfl|exact C.symm|exact E.symm
 rintro -;exact aR a B FU
end
abbrev hF(b:cc)(a:dq)(d:m (Int×Int)×m Int):m (Int×Int)×m Int:=eH 2 b a (eH 1 b a d)
def E9{d:m α}(e:c d=2):∃a b,d=[a,b]:=by
 match d,e with
 |[a,b],_=>exact⟨a,b,rfl⟩
def yQ{b:cc}{d:dq}(a:m (Int×Int)×m Int)(s:c a.1=2)(r:c a.2=2)(o:e<2):
  (a.2.getD e 0=0->(hF b d a).1.getD e (0,0)=(e6 (a.1.getD e (0,0)) (g_ b d).2.2).1/\(hF b d a).2.getD e 0=(e6 (a.1.getD e (0,0)) (g_ b d).2.2).2) /\
  (a.2.getD e 0≠0->(hF b d a).2.getD e 0=a.2.getD e 0):=by
 obtain⟨x,t⟩:=a;obtain⟨u,w,rfl⟩:=E9 s;obtain⟨j,k,rfl⟩:=E9 r
 match e,o with
 |0,_=>
  constructor<;>intro g
  .have g:j=0:=g;subst g;by_cases i:k=0
   .subst i;simp[hF,eH]
   simp[hF,eH,i]
  have p:j≠0:=g;by_cases i:k=0
  .subst i;simp[hF,eH,p]
  simp[hF,eH,i,p]
 |1,_=>
  constructor<;>intro g
  .have g:k=0:=g;subst g;by_cases h:j=0
   .subst h;simp[hF,eH]
   simp[hF,eH,h]
  have q:k≠0:=g;by_cases h:j=0
  .subst h;simp[hF,eH,q]
  simp[hF,eH,h,q]
def DI{b:cc}{d:dq}(a:m (Int×Int)×m Int)(e:c a.1=2)(g:c a.2=2):(hF b d a).1.length=2/\(hF b d a).2.length=2:=
 ps (ps e g).1 (ps e g).2
def aam{b:cc}(g:m (Int×Int)×m Int)(o:c g.1=2)(k:c g.2=2){i:Nat}(y:i<c b.2.2)(h:e<2):
  ((hF b er g).2.getD e 0=0->(hF b (2,(i:Int),0,[]) (hF b er g)).2.getD e 0=1) /\
  ((hF b er g).2.getD e 0≠0->(hF b (2,(i:Int),0,[]) (hF b er g)).2.getD e 0=(hF b er g).2.getD e 0):=by
 obtain⟨r,q⟩:=DI (b:=b) (d:=er) g o k;refine⟨λj=>?_,(yQ _ r q h).2⟩;rw[((yQ _ r q h).1 j).2];have t:g.2.getD e 0=0:=by
  by_cases s:g.2.getD e 0=0
  .exact s
  rw[(yQ g o k h).2 s]at j;exact j
 obtain⟨w,u⟩:=(yQ (b:=b) (d:=er) g o k h).1 t;rw[u]at j;rw[w,K7 j];have p:(g_ b er).2.2=b.2.2:=by simp[g_,er]
 have x:(g_ b (2,(i:Int),0,[])).2.2=b.2.2.take i:=by unfold g_;rw[bj D,bl a,bj bK];simp
 rw[p,x];unfold e6;rw[bj bK]
def pU(a:eR):Prop:=a.1.1.2.2=[]->a.1.1.1=[]
def pU.do{b:eR}{ak:d_}(a:pU b)(k:eJ j b)(g:fD (h,b)=l):pU (cd h b ak).1:=by
 have o:=(t1.1 g).1;unfold cd;split
 .split
  .unfold k2;split
   .split
    .rename_i p;obtain⟨r,q,i⟩:=zt k.a.bj.dL p;rw[i];intro d;have d:(b.1.1.2.2++[(ak.2.1,cR b.1.1)]:m (Int×Int))=[]:=d;simp at d
    exact a
   exact a
  exact a
 split
 .split
  .exact a
  exact a
 split
 .exact a
 split
 .split
  .unfold jP;rw[bl (sa.2 o.toiN)];exact a
  exact a
 split
 .intro d;have:(h7 b.1).1.2.2=b.1.1.2.2:=by unfold h7;split<;>rfl
  have e:=a (this▸d);show(h7 b.1).1.1=[];unfold h7;split
  .exact e
  show fo _ _ b.1.1.1=[];rw[e];rfl
 exact a
def pU.zero:pU MK:=λ_=>rfl
def MD{h:Int}:∀(g:m d_){i:Nat}{b:eR},eJ i b->fD (h,b)=l->pU b->pU (e8 h b g)
 |[],_,_,_,_,e=>e
 |j::g,i,b,d,a,e=>MD g d.do (ya d.a a) (e.do d a)
def JC(p o:an×X)(h:Int)(d:m d_)(z:c d<=4000000):Y (af.ay S) 7 [R h,gS.B d] (gy p o) (m1 (qP h d)) (gy p o):=by
 refine Y.bh bb func7 rfl rfl rfl λy=>?_;have j:a' (af.ay S) [(24,dS [R h] (m1 (qK h)))]:=.cons (d9 (JU h)) .nil;unfold qP;by_cases i:ce h=l
 rotate_left
 .rw[bj λk=>i k.1];rw[show qK h=(j6,v)from bj i]at j;exact a_ j [17,21] a D kE
 rw[show qK h=(cD h,l)from bl i]at j;by_cases q:c d<=30
 rotate_left
 .rw[bj λk=>q k.2];exact a_ j [-17,21] a bK kE
 rw[bl ⟨i,q⟩];refine a_ j [-17,-21] a bK (g.aH 5 (λe=>e<=c d) (λe:Nat=>[(23,gS.B d),(24,R (c d)),(4,aI 3 0),(6,aI 4 0),(25,R e)]) (λe=>gy p o++[fN,.cells 38 (fx (h,e8 h (cD h).2 (d.take e)))]) (λe=>c d-e) 0 a D a ?_ a w ?_)
 .have u:e8 h (cD h).2 (d.take 0)=(cD h).2:=rfl;rw[u];simp
 intro e t;have s:=r7 (h:=h) (d.take e) eJ.zero;have r:=tI (d.take e) eJ.zero (z0 i);by_cases k:e<c d
 .have A:=Es (h:=h) (b:=(cD h).2) k;have x:=yf p o (d.getD e gS.E) s r bK;refine a4 [26] a bK ?_;generalize e8 h (cD h).2 (d.take e)=b at *;generalize cd h b (d.getD e gS.E)=C at *;refine g.aB x [0,1,2] a (aR a j7 (g.az (e+1) a D ?_ ?_ ?_))
  .rw[A];simp
  .omega
  omega
 obtain rfl:e=c d:=w;rw[c8]at *;refine a4 [-26] a D (g.aA ?_);exact aR a B kE
section
variable {q:af S}[q.bZ]
omit [q.bZ]in
def Jh(d:Nat)(b:Nat->Int)(j:Bytes b)(h:Nat)(r:h<=500000)(k:d<=1048576):
  bm (ι:={e:Int×Nat // h<=e.2/\e.2<=h+3}) q 20 [aI 0 0] [e7 d b h] (λe=>R e.1.1) (λe=>[e7 d b e.1.2]):=by
 refine bm.cf func20 rfl rfl rfl λz=>?_;refine aR a B (g.a2 (gF d b j h 60 w k w) [0] a bn ?_);rintro⟨t,u,x⟩;by_cases o:t=0
 .refine a4 [5] a (by simp[o]) (g.a2 (gF d b j (h+1) 2 w k w) [0] a bn ?_);rintro⟨i,s,p⟩;have m:i=0∨i=1:=w;rcases m with rfl|rfl
  .exact aR a D (g.bu ⟨(0,h+2),by simp⟩ (g.aJ [0] a D kR))
  exact aR a D (g.bu ⟨(100,h+2),by simp⟩ (g.aJ [0] a D kR))
 refine a4 [-5] a (by simp[o]) (g.a2 (gF d b j (h+1) 99 w k w) [0] a bn ?_);rintro⟨y,cD,w1⟩;refine aR a j7 (g.a2 (gF d b j (h+2) 3 w k w) [0] a bn ?_);rintro⟨i,s,p⟩;have m:i=0∨i=1∨i=2:=w;rcases m with rfl|rfl|rfl
 .exact QX
 .exact QX
 exact aR a D (g.bu ⟨(1+y,h+3),by simp⟩ (g.aJ [0] a D kR))
def Uv:m d_ ⊕ (Nat×(Nat->m M))->M
 |.inl a=>.B v 8 (c a) (gS.fn a)
 |.inr b=>.B v 8 b.1 b.2
abbrev Sw:={d:Int×(m d_ ⊕ (Nat×(Nat->m M))) // match d.2 with|.inl b=>c b<=30|.inr a=>31<=a.1/\a.1<=40}
abbrev aeE(a:m d_):ar:=.x 45 8 (c a) (gS.fn a)
abbrev ae_:m M:=[.int .i64 5,.int .i64 0,Ff,.int .i64 0,.int .i64 0,.int .i64 0,.S [],Ff]
def Je(o:Nat)(e:Nat->Int)(j:Bytes e)(A:o<=1048576):
  bm (ι:=Sw) q 5 [ax (.B v 1 o (nl e))] [] (λb=>.T [.R (.c (.int .i64 b.1.1)),.R (.c (Uv b.1.2))]) (λ_=>[]):=by
 refine bm.cf func5 rfl rfl rfl λaa=>?_;refine aR a B (g.a2 (Xy o e A) [] a bn ?_);rintro⟨i,W⟩;refine a4 [903] a B (g.bG 5 45 8 a a ?_);refine aR a B (g.a2 (gF i e j 0 12 w w w) [0] a bn ?_);rintro⟨F,I,J⟩;refine aR a B ?_;refine g.aH 2 (λb:Nat×m d_×Nat=>b.1+c b.2.1<=11/\b.2.2<=1+500*c b.2.1) (λb=>[(4,aI 0 0),(5,.n (.R (.x 1 8 (c b.2.1) (gS.fn b.2.1)))),(6,R b.1)])
  (λb=>[e7 i e b.2.2,aeE b.2.1]) (λb=>b.1) (F.toNat,[],1) a ?_ a ?_ a ⟨by grind,by grind⟩ ?_
 .simp;omega
 .simp
 rintro⟨t,d,k1⟩ ⟨G,x⟩;simp only at G x;by_cases Y:0<t
 .refine a4 [13] a OQ (g.a2 (Vy i e j k1 w w) [0] a bn ?_);rintro⟨⟨u,y⟩,Q⟩;have bT:=gS.aW d u;have K:=Q.jv;have S:=Q.ja;simp only at K S;refine aR a ?_ (g.az (t-1,d++[u],y) a ?_ ?_ ⟨by grind,by grind⟩ N)
  .simp only[U,a8,ba,a9];exact⟨by omega,show(c d+1)*104<=140737488355328 by omega⟩
  .exact Rv
  exact Rv
 refine a4 [-13] a OP (g.aA ?_);refine aR a B (g.a2 (gF i e j k1 40 w w w) [0] a bn ?_);rintro⟨E,Z,X⟩;by_cases O:E=0
 .refine a4 [23] a pS (g.aH 2 (λb:Nat×(Nat->m M)=>b.1<=31) (λb=>[(4,aI 0 0),(5,.n (.R (.x 1 8 b.1 b.2)))]) (λb=>[e7 i e (k1+1:Nat),.x 45 8 b.1 b.2]) (λb=>40-b.1) (c d,gS.fn d) a D a D a Fs ?_);rintro⟨T,V⟩ z;simp only at z;by_cases H:T<=30
  .refine a4 [26] a ?_ (g.az (T+1,cj T V λC=>([ae_]:m (m M)).getD C []) a ?_ ?_ Fs Fs)
   .simp only[U,bw,ba,a9];exact⟨show(T+1)*104<=140737488355328 by omega,by omega⟩
   .simp
   simp
  refine a4 [-26] a bK (g.aA ?_);refine aR a B (g.a2 (Jh i e j (k1+1) w w) [0] a bn ?_);rintro⟨⟨k,s⟩,p⟩;simp only at p;refine aR a B (g.a2 (gF i e j s 5 w w w) [0] a bn ?_);rintro⟨h,cD,w1⟩;have r:h=0∨h=1∨h=2∨h=3∨h=4:=w;rcases r with rfl|rfl|rfl|rfl|rfl
  .exact z5
  .exact z5
  .exact z5
  .exact z5
  exact aR a D (g.bu ⟨(k,.inr (T,V)),by simp only;omega⟩ (g.aJ [] a D eN))
 refine a4 [-23] a pS (g.a2 (Jh i e j (k1+1) w w) [0] a bn ?_);rintro⟨⟨k,s⟩,p⟩;simp only at p;refine aR a B (g.a2 (gF i e j s 5 w w w) [0] a bn ?_);rintro⟨h,cD,w1⟩;have r:h=0∨h=1∨h=2∨h=3∨h=4:=w;rcases r with rfl|rfl|rfl|rfl|rfl
 .exact z4
 .exact z4
 .exact z4
 .exact z4
 exact aR a D (g.bu ⟨(k,.inl d),by simp only;omega⟩ (g.aJ [] a D eN))
end
def JF{q:af S}(h:Int)(d:Nat)(b:Nat->m M)(i:31<=d/\d<=40):Y q 6 [R h,ax (.B v 8 d b)] [] (m1 (j6,v)) []:=by
 refine Y.bh bb func6 rfl rfl rfl λe=>?_;by_cases bY:ce h=l
 .exact aR a B (g.aB (JV (q:=q) h bY) [] a Qq)
 exact Qw
def JD(k j:an×X)(b:Int)(i:Nat)(h:Nat->m M)(p:31<=i/\i<=40):Y (af.ay S) 7 [R b,ax (.B v 8 i h)] (gy k j) (m1 (j6,v)) (gy k j):=by
 refine Y.bh bb func7 rfl rfl rfl λo=>?_;have e:a' (af.ay S) [(24,dS [R b] (m1 (qK b)))]:=.cons (d9 (JU b)) .nil;by_cases d:ce b=l
 .rw[show qK b=(cD b,l)from bl d]at e;exact a_ e [-17,21] a bK kE
 rw[show qK b=(j6,v)from bj d]at e;exact a_ e [17,21] a D kE
def Jl{a:af S}:Y a 8 [fb j6,fb j6] [] (bg l) []:=Jk j6 ⟨by simp,by simp,by simp,by simp[kz],by simp⟩ D
def eJ.gm{q:af S}{a:eR}(b:eJ j a):Y q 8 [fb (h,a),fb (h,a)] [] (bg l) []:=Jk (h,a) b.a.bj.du (by have:=b.bm;show c a.2.2.1<=4000000;omega)
abbrev Co(e d:an×X)(a:Int)(b g j:eR)(h i:Bool):m ar:=
 match h,i with
 |false,_=>gy e d++[.cells 38 (fx (a,b)),.cells 38 (fx (a,b)),.cells 38 (fx (a,g))]
 |true,v=>gy e d++[.cells 38 (fx (a,b)),.cells 38 (fx (a,b)),.cells 38 (fx (a,g)),fN]
 |true,l=>gy e d++[.cells 38 (fx (a,b)),.cells 38 (fx (a,b)),.cells 38 (fx (a,g)),.cells 38 (fx (a,j))]
end R1
end Go.AM
