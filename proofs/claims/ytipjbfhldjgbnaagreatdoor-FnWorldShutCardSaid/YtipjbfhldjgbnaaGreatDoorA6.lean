/- Part 6. No condition. -/
import Derived.Test.YtipjbfhldjgbnaaGreatDoorA5
set_option linter.all false
set_option maxHeartbeats 8000000
open Go.Proofs
open Go.Proofs.Tryz
open List renaming length → c, range → aB, getD_eq_getElem?_getD → al
open Go renaming Value → Z, TypeId → aq, World → au, Frame → aL, Operand → aA, Program → aI, Goroutine → ak, Oper → ap
open Option renaming some → f, none → p
open Bool renaming true → m, false → v
open Nat renaming ble → ay
open Go.Proofs.Tryz renaming prog → T
namespace Go.AM
variable {j z:Nat}{h:Int}{d i e u:Nat}{W:aq}{H:Z->(Nat->Option Obj)->Prop}{L:Array Bool}{bD:Mem}{D:Nat}{P:aI}{bq:ak->a5->Prop}{r:Code}{B:ak}{s:ap}{b:a5}{o:aq}{aa:Z}{k X:aA}{α:Type}{η:aA->y}{ι:Type}{l:n an}{F:bI}{all:n ap}{dn:Array aq}{cap:n O}{cR:n y}{lc:Nat->Option Obj}{ai:n aL}{bg:n (Nat×Bool)}{V:Nat->n O}{cP:aA}{gs:Array ak}{aS:n Nat}{cg:n Prop}{off:Nat}{op:BinOp}{aH:Array ap}{ab:n Prop}{bs:n ap}{az:a5}{ty:aq}{val:Nat->Nat->Z}{A:n Z}{bj:au}{ah:Array aA}{ao de:n an}{res:ι->y}{aO:ι->n an}
variable {CT:n (Nat×bK)}{av:n ik}{be:fv}{ad:n (Nat×bv)}{a4:bv}
namespace R1
section
variable {q:ag T}
def IQ(d)(h:c d<=4000000):Y q 57 [aC.C d] [] (cz 0 (.C (c d) 1 0 (c d))) [jJ (c d) d]:=by
 refine Y.K func57 rfl λi=>?_;refine aZ a C (g.ez ba a a a a a a λb e=>?_);cases b with
 |true=>
  obtain rfl:=jF (e rfl);refine aZ a C (g.fa 2 3 1 (aC.fn []) a ?_);exact FF
 |false=>
  refine gu [] 7 a C (g.dJ 5 3 1 (aC.fn []) a ?_);refine aZ a ⟨a,a,show(0+c d)*8<=_ by omega⟩ (g.bf [jJ (c d) d] a ?_ ?_)
  .simp[bt,cf]
  exact FM
abbrev HW(a:dW)(b:Bool):n Q:=[.S 2 (.C (c a.1.1) 2 0 (c a.1.1)),.S 3 (.C (c a.1.2.1) 2 0 (c a.1.2.1)),cJ a1 a.1.2.2,cJ aC (aC.af (c a.2.1) (aC.fn a.2.1)),.S 4 (.C (c a.2.2) 1 0 (c a.2.2))]
abbrev HV(a:dW)(b d e g:Bool):n an:=
 match b,d,e,g with
 |false,_,_,_=>[gh a,.cells 30 me]
 |true,_,v,_=>[gh a,.cells 30 me,.q 105 2 (c a.1.1) (a2.fn a.1.1),.q 129 2 (c a.1.2.1) (bi.fn a.1.2.1)]
 |true,_,m,v=>[gh a,.cells 30 me,.q 105 2 (c a.1.1) (a2.fn a.1.1),.q 129 2 (c a.1.2.1) (bi.fn a.1.2.1),jJ (c a.2.2) a.2.2]
 |true,_,m,m=>[gh a,.cells 30 (HW a m),.q 105 2 (c a.1.1) (a2.fn a.1.1),.q 129 2 (c a.1.2.1) (bi.fn a.1.2.1),jJ (c a.2.2) a.2.2]
abbrev afk(a:dW)(b:Nat):y:=
 [aD 0 0,bV a.1,.p (.agg [.S 2 (.C (c a.1.1) 2 0 (c a.1.1)),.S 3 (.C (c a.1.2.1) 2 0 (c a.1.2.1)),cJ a1 a.1.2.2]),aD 0 3,aC.C a.2.1,aC.C (aC.af (c a.2.1) (aC.fn a.2.1)),aD 0 4,aC.C a.2.2,cz 4 (.C (c a.2.2) 1 0 (c a.2.2)),
  .p (.agg (HW a m)),.any].getD b .any
def X3(b)(i:dL b.1)(e:c b.2.1<=4000000)(k:c b.2.2<=4000000):Y q 55 [gn b] [] (.p (.agg [.S 0 (.C (c b.1.1) 2 0 (c b.1.1)),cJ bi b.1.2.1,cJ a1 b.1.2.2,cJ aC b.2.1,.S 1 (.C (c b.2.2) 1 0 (c b.2.2))])) [.q 105 2 (c b.1.1) (a2.fn b.1.1),jJ (c b.2.2) b.2.2]:=by
 refine Y.bm ba func55 rfl rfl rfl λn=>?_
 have w:a9 q [(66,la [bV b.1] [] (.p (.agg [.S 0 (.C (c b.1.1) 2 0 (c b.1.1)),.S 1 (.C (c b.1.2.1) 2 0 (c b.1.2.1)),.c (.C v 2 (c b.1.2.2) (a1.fn b.1.2.2))])) [.q 105 2 (c b.1.1) (a2.fn b.1.1),.q 129 2 (c b.1.2.1) (bi.fn b.1.2.1)]),
   (57,da (e2 aC) (λd=>aC.C d) λd=>[c d<=4000000])]:=.cons (ma (pq b.1 i.a2 i.bu i.a7 i.bx i.aP)) (.cons (.bd λd j=>Cw d j) .nil)
 have hK:a9 q [(57,la [aC.C b.2.2] [] (cz 0 (.C (c b.2.2) 1 0 (c b.2.2))) [jJ (c b.2.2) b.2.2])]:=.cons (ma (IQ b.2.2 k)) .nil;refine bf w [901] a C ?_;refine g.cj b5 (afk b) (mE (HV b) 2 5 8 10) a a a a
  ⟨.aZ,.aZ,b4.ay a a a a a a (dS (bg:=[]) ba w (ao:=f _) a E),.aZ,.aZ,b4.eU a a a a a a (aJ.eval (bg:=[]) ba w a (by exact⟨aC.U _,by rw[aC.m];exact e⟩)),.aZ,.aZ,b4.eW a a a a a a (dS (bg:=[]) ba hK (ao:=f _) a bJ),.aZ,
   b4.eX a a a a a a (dS (bg:=[]) ba w (ao:=f _) a C),C⟩ ?_
 intro y I;show g q _ _ _ _ _ (HV b (y 2) (y 5) (y 8) (y 10));rw[I 2 b9,I 5 b9,I 8 b9,I 10 b9];refine qV w [] 1 a C (g.bC 3 a a a E E (g.bf [gh b,.cells 30 [.S 2 (.C (c b.1.1) 2 0 (c b.1.1)),cJ bi b.1.2.1,cJ a1 b.1.2.2,cJ aC b.2.1,.S 4 (.C (c b.2.2) 1 0 (c b.2.2))],.q 105 2 (c b.1.1) (a2.fn b.1.1),.M,jJ (c b.2.2) b.2.2] a ?_ ?_))
 .simp[aC.m,hA]
 refine g.bh () [2,4] ?_ (λl h=>absurd h E);simp
abbrev t_:an:=.cells 30 me
abbrev wi(h g:Nat)(d:n eh)(e:n (Int×Int))(b a:n Int):an:=.cells 30 [.S 2 (.C h 2 0 g),cJ bi d,cJ a1 e,cJ aC b,.S 3 (.C (c a) 1 0 (c a))]
abbrev afu(d:n cb)(g b:Nat)(a:n Int)(e:Nat):y:=
 [aD 4 0,aD 4 0,aD 4 0,aD 4 0,cz 2 (.C (c d) 2 0 g),R b,cz 2 (.bz (c d) 2 (0+(b:Int).toNat) 0),fD (lU d b),
  aD 4 0,aD 4 0,aD 4 3,aC.C a,fD (hD (lU d b) a),aD 6 0,.any].getD e .any
abbrev LL(i:dW)(d:n cb)(h l:Nat)(e:n eh)(g:n (Int×Int))(b a:n Int)(j k:Bool):n an:=
 match j,k with
 |false,_=>[gh i,t_,qj d,jJ (c a) a,wi (c d) h e g b a,.M]
 |true,v=>[gh i,t_,qj d,jJ (c a) a,wi (c d) h e g b a,.M,.cells 105 [.c (.int .i64 0),cD]]
 |true,m=>[gh i,t_,qj d,jJ (c a) a,wi (c d) h e g b a,.M,LM d l b]
set_option maxRecDepth 20000 in
def Xj(r)(bS)(d)(z e)(dz)(k)(ct b)(t:z<=c d)(u:c d<=4000000)(s:e<z)(E:gH (λj:cb=>j.1==bS) (d.take z)=e)(B:∀j∈d,c j.2<=4000000):
  bk (ι:={h:Nat->n O // bt (c d) h (a2.fn (kt ct d z e).1)}) q 102 [aD 4 0,R bS] [gh r,t_,qj d,jJ (c b) b,wi (c d) z dz k ct b] (λ_=>.ae []) (λh=>[gh r,t_,.q 105 2 (c d) h.1,jJ (c b) b,wi (c d) (kt ct d z e).2 dz k ct b,.M,LM d e ct]):=by
 refine bk.bR func102 rfl rfl rfl (g.aT ?_);refine bN [901] a C (g.freeze 3 5 a a a ?_);refine cr a C (g.aC (Vv d z t u 153 [.int .i64 bS] (λj=>j.1==bS) λj _=>VP j bS) [2] a ?_);rw[E];have l:lU d e=d.getD e (0,[]):=nX;have i:lU d e∈d:=by rw[l];grind
 have w:a9 q [(154,d8 [fD (lU d e),aC.C ct] (fD (hD (lU d e) ct)))]:=.cons (eg (V' (lU d e) ct (B _ i))) .nil;have ck:0<=(e:Int)/\(e:Int)<((z:Nat):Int):=x;have D:c d=c d/\0+(e:Int).toNat<c d:=⟨rfl,by omega⟩
 refine bN [902] a C ?_;refine g.cj b5 (afu d z e ct) (ns (LL r d z e dz k ct b) 13 14) a a a a
  ⟨.a',.a',.a',.a',.a',.a',.cD ba w (ck:=by exact ck),.cD ba w (ck:=by exact D),.a',.a',.a',.a',.cD ba w (ck:=by exact a),
   b4.fg a a (dS (bg:=[]) ba w (ao:=f _) a C),b4.fh a a (dS (bg:=[]) ba w (ao:=f _) a C),C⟩ ?_
 intro y A;show g q _ _ _ _ _ (LL r d z e dz k ct b (y 13) (y 14));rw[A 13 b9,A 14 b9];unfold kt;by_cases o:(hD (lU d e) ct).2.length=0
 .rw[br (by rw[<-l];exact o)];refine bN [29] a ?_ ?_
  .simp only[U,a7,o];exact bw
  exact g.aC (UO d z e t s u) [2] a (cr a C ⟨⟨_,bt.same⟩,.inr a,a,a,_,_,_,a,a,a,C⟩)
 rw[bl (by rw[<-l];exact o)];refine bN [-29] a ?_ ?_
 .simp only[U];exact⟨C,by omega,by omega,by omega,by simpa using o⟩
 refine⟨⟨lx (0+(e:Int).toNat) [.int .i64 (lU d e).1,lw (hD (lU d e) ct)] (a2.fn d),?_⟩,.inr a,a,a,_,_,_,a,a,a,C⟩;have:=a2.cS d e (hD (lU d e) ct) (c d) (bE _);rw[l]at *;rw[show 0+(e:Int).toNat=e by omega];exact this
def UP(d)(b)(z:c b<=4000000):
  Y q 103 [cz 0 (.C (c (d::b)) 1 0 (c (d::b))),R 0,R 1] [jJ (c (d::b)) (d::b)] (cz 0 (.C (c (d::b)) 1 0 (c b))) [jJ (c (d::b)) (b++[0])]:=by
 refine Y.K func103 rfl λy=>?_;refine bN [-16,906] a Fe ?_;have j:bU (c (d::b)) (f 0)-bU 0 p+(bU (c (d::b)) p-bU 0 (f 1))=c b:=wQ;rw[j];refine g.region ?_;refine gu [] 4 a C ?_;refine g.aN (a0.hZ ba a a a a a a a a a x bJ (by simp<;>omega)) a a ?_;refine g.aN (a0.eY ba a a a a a a ?_) a a ?_
 .simp
 refine bN [907] a C (g.gO 0 (aC.fn (b++[0])) a (λ_ _=>rfl) (λu idx e w l s=>?_) ?_)
 .refine⟨l,?_,λ_ i=>i⟩;rw[<-s];congr 1;unfold nS qP;simp[fp]at e;have n:bU (c b+1) (f 0)-bU 0 p=0:=rfl;have k:bU 0 (f 1)=1:=rfl;have o:bU (c b+1) p=c b+1:=rfl;simp only[fp,c5,n,k,o];have r:aC.fn (b++[0]) idx=aC.a9 ((b++[0]).getD idx 0):=rfl;rw[r];by_cases i:idx<c b
  .have h:(b++[0]).getD idx 0=b.getD idx 0:=ds;have t:aC.fn (d::b) (0+1+(idx-0))=aC.a9 (b.getD idx 0):=by rw[show 0+1+(idx-0)=idx+1 by omega];rfl
   rw[bl x,br x,h,<-t]
  obtain rfl:idx=c b:=x;have h:(b++[0]).getD (c b) 0=0:=E;rw[br x,h];rfl
 exact P6
end
def zw(b:Int)(a:dW):dW×Bool:=if hd b a=m then(jx a,qC a)else(k0,v)
def X8(h)(j)(n:n7 j)(o:dL j.1):Y (ag.aJ T) 54 [R h,gn j] [] (j1 (zw h j).1 (zw h j).2) []:=by
 refine Y.bm ba func54 rfl rfl rfl λS=>?_;have t:a9 (ag.aJ T) [(49,xO)]:=.cons EU .nil;have D:=o.a2;have B:=n.fN;unfold zw;cases k:hd h j with
 |false=>
  refine bf t [10] a ?_ ?_
  .simp only[U,a2.m,a2.U,bi.m,bi.U,a1.m,a1.U,aC.m,aC.U,k,n,a',a_,hH]
  exact O9
 |true=>
 rw[br a];have J:=wj.1 k;refine bf t [-10] a ?_ ?_
 .simp only[U,a2.m,a2.U,bi.m,bi.U,a1.m,a1.U,aC.m,aC.U,k,n,a',a_,fq]
 refine g.aC (X3 j o n.fP n.fN) [] a ?_;obtain⟨b,d,K⟩:=j;cases K with
 |nil=>
  have z:(jx (b,d,[]),qC (b,d,[]))=((b,d,[]),v):=rfl;rw[z];refine bN [17] a E (g.bC 2 a a a E E (g.bC 3 a a a E E (g.cv () [] ?_ ft)));simp[hA]
 |cons e i=>
  have F:wW (b,d,e::i) (c b.1) 0 b.1 (c b.1):=⟨g0 _,rfl,bE _,by simp[ky],o.bu⟩
  obtain⟨l,s,M,r⟩:=F.next J E;have w:c i<=4000000:=by have:c i+1<=4000000:=B;omega
  refine bN [-17] a ?_ ?_
  .simp<;>omega
  refine g.cU (Xj (b,d,e::i) e b.1 (c b.1) l b.2.1 b.2.2 d (e::i) (bE _) D s M o.bu) a a a a E a ?_;rintro⟨A,y⟩;refine cr a C (g.aC (UP e i w) [3] a (cr a C ?_));have O:(kt d b.1 (c b.1) l).1.length=c b.1:=r.len;have Q:(kt d b.1 (c b.1) l).2<=c b.1:=r.gp;have I:(jx (b,d,e::i)).1.1=(kt d b.1 (c b.1) l).1.take (kt d b.1 (c b.1) l).2:=r.c1.symm;refine g.bC 2 a a a bw bw (g.bC 3 a a a E E (g.cv () [] ?_ ft));generalize kt d b.1 (c b.1) l=N at *;simp only[U.Y,U,I,a',a_];and_intros<;>first|exact bt.same|rfl|(simp;omega)|skip
  .intro u q;have:=y u x;simp[hA,this,c0.fn,gv,al,iq,q,dH]
  intro u q;show aC.a9 ((i++[0]).getD u 0)=aC.a9 (i.getD u 0);simp[List.getElem?_append,q]
def A1{j}{d}{b}(g:∀h,h<b->d.getD h 0<j)(e:b<c d->j<=d.getD b 0):∀a,a<=c d->(fx j d a).2=decide (b<a)
 |0,_=>by simp[fx]
 |a+1,o=>by
  have l:=A1 g e a x;rw[xj x];generalize fx j d a=k at *;unfold gg;by_cases n:b<a
  .grind
  by_cases i:b=a
  .subst i;have:=e x;grind
  have:=g a x;grind
def Sk{j}{d}{a}(g:∀i,i<a->d.getD i 0<j)(b:a<c d->j<=d.getD a 0)(h:e<c d):
  (fx j d (e+1)).1=(fx j d e).1++(if e=a then[j]else[])++(if d.getD e 0≠j then[d.getD e 0]else[]):=by
 have n:=A1 g b e x;rw[xj h];generalize fx j d e=l at *;unfold gg;by_cases o:a<e
 .grind
 by_cases k:a=e
 .subst k;have:=b h;grind
 have:=g e x;grind
def aaI{j}{d}{a}(e:∀b,b<a->d.getD b 0<j)(g:a<c d->j<=d.getD a 0)(i:a<=c d):e8 d j=(fx j d (c d)).1++(if a=c d then[j]else[]):=by
 have:=A1 e g (c d) (bE _);have h:fx j d (c d)=d.foldl (gg j) ([],v):=by unfold fx;rw[c_]
 unfold e8;rw[<-h];grind
section
variable {q:ag T}
def Vp(d)(i)(ai)(h:Int->Bool)(u:∀j,j∈d->Y q i [R j,aw (.Q ai)] [] (bh (h j)) []):
  Y q 139 [aC.C d,aw (.fn (.func i) [] [.Q ai])] [] (R (gH h d)) []:=by
 refine Y.K func139 rfl λt=>?_;have y:=t.C 0 a;refine aZ a C (g.aE 0 (λb=>b<=c d/\∀e,e<b->h (d.getD e 0)=v) (λb:Nat=>[(0,aC.C d),(1,aw (.fn (.func i) [] [.Q ai])),(7,R (c d)),(8,R b)]) (λ_=>[]) (λb=>c d-b) 0 a E a C a ⟨by omega,by omega⟩ ?_);rintro b ⟨r,k⟩;by_cases n:b<c d
 .have s:d.getD b 0∈d:=N;have l:d.getD (b:Int).toNat aC.I=d.getD b 0:=N;refine a6 [9] a pY ?_;rw[l];refine g.aC (u _ s) [] a ?_;cases w:h (d.getD b 0)with
  |true=>
   refine a6 [16] a E (g.aX (bX.zero a ?_));simp[tf n w k]
  |false=>
   refine a6 [-16] a nU (g.ax (b+1) a E C ?_ x);grind
 refine a6 [-9] a bW (g.aB ?_);refine aZ a C (g.ar a ?_);simp[tg (o:=d) (I:=0) (λe z=>k e x)]
def WA(z j):Y q 149 [R z,aw (.Q [.int .i64 j])] [] (bh (decide (j<=z))) []:=by refine Y.K func149 rfl λb=>?_;exact aZ a C (g.ar a)
abbrev Yw(a:n Int)(b:Int)(d:Nat):bI:=[(0,aC.C a),(3,aw (.Q [.int .i64 b])),(5,R d)]
def WB(d)(j)(F:c d<=100000000):Y q 97 [aC.C d,R j] [] (aC.C (e8 d j)) []:=by
 refine Y.K func97 rfl λD=>?_;refine a6 [901] a C (g.freeze 3 0 a a a ?_);refine aZ a C (g.aC (Vp d 149 [.int .i64 j] (λl=>decide (j<=l)) λl _=>WA l j) [] a ?_);obtain⟨b,z,w,u,I⟩:∃b:Nat,b<=c d/\(∀o,o<b->d.getD o 0<j)/\(b<c d->j<=d.getD b 0)/\gH (λl=>decide (j<=l)) d=if b<c d then(b:Int)else -1:=by
  rcases yF (λl=>decide (j<=l)) d with⟨r,h⟩|⟨e,k,r,h,aa⟩
  .refine⟨c d,bE _,λo A=>?_,λh=>absurd h (xd _),by rw[r,bl (xd _)]⟩;have:=h (d.getD o 0) N;simp at this;grind
  refine⟨e,by omega,λo A=>?_,λ_=>?_,by rw[r,br k]⟩
  .have:=h (d.getD o 0) (by grind[List.mem_take_iff_getElem]);simp at this;grind
  grind
 rw[I];apply g.cn (Yw d j b) [.M]
 .intro dw;by_cases t:b<c d
  .rw[br t];exact a6 [-13,904] a E kD
  rw[bl t];obtain rfl:b=c d:=x;exact a6 [13,904] a E kD
 refine a6 [905] a C (g.bM 6 3 1 a a ?_);refine aZ a C ?_;refine g.aE 2 (λe=>e<=c d) (λe:Nat=>[(0,aC.C d),(3,aw (.Q [.int .i64 j])),(5,R b),(6,.p (.R (.w 1 1 (fx j d e).1.length (aC.fn (fx j d e).1)))),(16,aC.C d),(17,R (c d)),(18,R e)])
  (λe=>[.M,.w 3 1 (fx j d e).1.length (aC.fn (fx j d e).1)]) (λe=>c d-e) 0 a ?_ a ?_ a x ?_
 .simp[fx]
 .simp[fx]
 intro e k;have B:=xi j d e k;by_cases h:e<c d
 .have i:=Sk w u h;have ae:d.getD (e:Int).toNat aC.I=d.getD e 0:=rfl;generalize fx j d e=n at *;have J:c n.1<=e+1:=x;generalize d.getD e 0=s at *;by_cases g2:e=b<;>by_cases iK:s=j
  .rw[br g2,bl Ai,h2]at i;have I:=aC.a0 n.1 j;refine bN [19,25,-32] a z5 (g.ax (e+1) a ?_ ?_ h x)
   .rw[i];simp;exact I
   rw[i];simp;exact I
  .rw[br g2,br Ai]at i;have I:=aC.e1 n.1 j s;refine bN [19,25,32] a z5 (g.ax (e+1) a zY ?_ h x);exact zY
  .rw[bl g2,bl Ai,h2,h2]at i;refine bN [19,-25,-32] a z5 (g.ax (e+1) a ?_ ?_ h x)
   .rw[i];simp
   rw[i];simp
  rw[bl g2,br Ai,h2]at i;have I:=aC.a0 n.1 s;refine bN [19,-25,32] a z5 (g.ax (e+1) a zY ?_ h x);exact zY
 obtain rfl:e=c d:=x;have y:=aaI w u z;rw[y];generalize fx j d (c d)=n at *;refine bN [-19] a E (g.aB ?_);by_cases g2:b=c d
 .rw[br g2];have I:=aC.a0 n.1 j;refine bN [41] a QQ (g.ar a ?_);simp;exact I
 rw[bl g2,h2];refine bN [-41] a QQ (g.ar a ?_);simp
end
def K0{h}{d}:∀(a b:n bB),b.Nodup->(a.foldl (fh h d) b).Nodup
 |[],b,e=>e
 |g::a,b,e=>by rw[kb];refine K0 a _ ?_;unfold fh;grind
def adb(h)(o)(d):(gw h o d).Nodup:=K0 _ _ List.nodup_nil
theorem LU{d}{k X}:X∈fF d k↔X=k∨X∈d:=by
 induction d with
 |nil=>simp[fF]
 |cons b e a=>simp[fF];split<;>simp[a,or_left_comm,or_assoc]
def ab'{d}{k}(g:d.Pairwise λa b=>a.1<b.1)(e:∀h∈d,h.1≠k.1):(fF d k).Pairwise λa b=>a.1<b.1:=by
 induction d with
 |nil=>simp[fF]
 |cons a o i=>
  obtain⟨n,l⟩:=iG.1 g;have j:=e a jf;simp[fF];grind[List.pairwise_cons,LU]
def KO:∀(d e:n cW),e.Pairwise (λa b=>a.1<b.1)->d.Pairwise (λa b=>a.1≠b.1)->(∀a∈d,∀b∈e,b.1≠a.1)->(d.foldl fF e).Pairwise λa b=>a.1<b.1
 |[],_,g,_,_=>g
 |a::d,e,g,h,i=>by obtain⟨d1,d2⟩:=iG.1 h;refine KO d _ (ab' g (i a jf)) d2 λl k b j=>?_;grind[LU]
theorem KP(h)(dr):kr h dr=(dr.map (gT h)).foldl fF []:=by unfold kr;rw[List.foldl_map];rfl
theorem KQ{a:n bB}(b:cB h=m)(d:∀l∈a,cE l=m)(g:a.Nodup):(a.map (gT h)).Pairwise λo q=>o.1≠q.1:=by rw[xb];refine List.Pairwise.imp_of_mem (λ{w i} j k r e=>r ?_) g;exact abj b (d w j) (d i k) e
theorem Lh{bS}{dr}(a:cB h=m)(i:∀b∈dr,cE b=m)(w:dr.Nodup)(r:c dr<=4):tz bS h dr=kV bS h dr:=by
 show(bS,l' (dr.map (gT h)))=(bS,kr h dr)
 grind[ab_,KQ,KP]
theorem Li{bS}{dr}(b:cB h=m)(i:∀k∈dr,cE k=m)(e:dr.Nodup)(o:1<=c dr)(n:c dr<=4):h' h (kV bS h dr)=decide (1<=bS/\bS<=99):=by
 have r:c (kr h dr)=c dr:=DJ h dr;rw[pb,DY,bA];constructor
 .exact λd=>d.df
 intro d;refine⟨d,b,by show 1<=c (kr h dr)/\_;rw[show(kV bS h dr).2=kr h dr from a];omega,λl g=>?_,?_⟩
 .obtain⟨j,w,rfl⟩:=abc (show l∈kr h dr from g);have:=abP (i j w);simp[right,this]
 show (kr h dr).Pairwise _;rw[KP];exact KO _ _ List.Pairwise.nil (KQ b i e) E
def D0(h):∀e a(b:n bB),c b<=e->iA h e a b=(aB ((c b+3) / 4)).map λd:Nat=>kV (a+d) h (gF b d)
 |0,a,b,j=>by have:c b=0:=x;exact bJ
 |e+1,a,b,j=>by
  simp[iA];by_cases g:0<c b
  .rw[br g,D0 h e (a+1) (b.drop 4) N];have i:(c b+3) / 4=(c (b.drop 4)+3) / 4+1:=N;rw[i,w_,mr,List.map_map];congr 1
   .simp[gF]
   refine w7 λd _=>?_;show kV (a+1+(d:Nat)) h (((b.drop 4).drop (4*d)).take 4)=kV (a+((d+1:Nat):Int)) h ((b.drop (4*(d+1))).take 4);grind[List.drop_drop]
  grind
def HU{d}(e:∀a∈d,cE a=m)(b:d.Nodup)(h:u<(c d+3) / 4):(∀a∈gF d u,cE a=m)/\(gF d u).Nodup/\1<=c (gF d u)/\c (gF d u)<=4:=
 ⟨λa g=>e a (sz (hh g)),(b.sublist (List.drop_sublist _ _)).sublist (List.take_sublist _ _),by simp[gF];omega,by simp[gF];omega⟩
def J0{b}{d}(n:cB h=m)(e:∀o∈d,cE o=m)(a:d.Nodup)(g:u<(c d+3) / 4):nx h b d u=(decide (1<=dB b+(u:Int)/\dB b+(u:Int)<=99)&&!(c b.1+u==20)):=by obtain⟨i,j,k,l⟩:=HU e a g;unfold nx l8;grind[Lh,Li]
def aa8{b}{a:n bB}(d:cB h=m)(q:∀u∈a,cE u=m)(o:a.Nodup)(t:∀e,e<(c a+3) / 4->nx h b a e=m):js h b a ((c a+3) / 4)=iA h (c a) (dB b) a:=by
 rw[D0 h _ _ _ (bE _)];refine w7 λe g=>?_;have g:=sD.1 g;obtain⟨i,j,l,k⟩:=HU q o g;have s:=t e g;have r:h' h (kV (dB b+(e:Int)) h (gF a e))=m:=by rw[Li d i j l k];rw[J0 d q o g]at s;grind
 unfold l8;rw[Lh d i j k,br r]
def mq.jG{h}{b}(d:mq h b):1<=dB b/\dB b<=100:=by
 unfold R1.dB;split
 .omega
 rename_i a;have:=(d.c7 _ (C' a (0,[]))).df;omega
def aaF(h)(b)(a)(o):qH h b a o=Ey h b a o:=by
 unfold qH Ey;by_cases i:hX h b=m/\(a=1∨a=2)/\dX o=m
 .rw[br i,br ⟨i.1,by omega,i.2.2⟩];have g:=wb.1 i.1;have y:=g.jG;have K:c b.2.2<=9:=by have:=g.eF;simp[g9,cC,bA]at this;omega
  have I:=g.len;have z:=(wa (h:=h) (d:=e7 b.1) (sd i.2.2)).1;have s:=adb h o (e7 b.1);have r:c (pB h b o)=(c (gw h o (e7 b.1))+3) / 4:=by unfold pB;rw[D0 _ _ _ _ (bE _)];simp
  have B:pB h b o=iA h (c (gw h o (e7 b.1))) (dB b) (gw h o (e7 b.1)):=rfl;unfold pL;simp only;generalize gw h o (e7 b.1)=d at *;obtain⟨O,E,Q,D⟩:=EE (nx h b d) ((c d+3) / 4) 0;generalize mY (nx h b d) ((c d+3) / 4) 0=l at *;have C:∀e,e<(c d+3) / 4->nx h b d e=(decide (1<=dB b+(e:Int)/\dB b+(e:Int)<=99)&&!(c b.1+e==20)):=λe k=>J0 g.key z s k;by_cases n:l<(c d+3) / 4
  .rw[br n];have u:=D x;rw[C l n]at u;have j:fO h b o=m:=by simp[fO,jG,bA,r];simp[AK,dv,AN,gZ]at u;omega
   grind
  rw[bl n];obtain rfl:l=(c d+3) / 4:=x;have q:∀e,e<(c d+3) / 4->1<=dB b+(e:Int)/\dB b+(e:Int)<=99/\c b.1+e≠20:=λe k=>by grind
  have J:c b.1+(c d+3) / 4<=20:=by refine Nat.le_of_not_lt λF=>?_;exact(q (20-c b.1) x).2.2 x
  have M:dB b+(((c d+3) / 4:Nat):Int)-1<=99:=by
   rcases ob ((c d+3) / 4)with A|A
   .grind
   have:=(q ((c d+3) / 4-1) x).2.1;omega
  by_cases w:20<dI b
  .rw[br w];have j:fO h b o=m:=NY;grind
  rw[bl w];by_cases t:c b.2.2=9
  .rw[br t];have j:fO h b o=m:=NY;grind
  rw[bl t];have j:fO h b o=v:=by simp[fO,Bool.or_eq_false_iff,dv,r];omega
  rw[j];simp only[hV,B,aa8 g.key z s λe k=>Q e (g0 _) k,hH];rfl
 grind
theorem LW{d}{k X}(a:X∈eB d k):X=k∨X∈d:=by
 induction d with
 |nil=>simpa[eB]using a
 |cons b g e=>
  simp only[eB]at a;grind
def acd{d}{k}(h:d.Pairwise λa b=>a.1<b.1):(eB d k).Pairwise λa b=>a.1<b.1:=by
 induction d with
 |nil=>simp[eB]
 |cons a l e=>
  obtain⟨j,g⟩:=iG.1 h;simp only[eB];split
  .rename_i r;refine iG.2 ⟨λn i=>?_,e g⟩;grind[LW]
  grind[List.pairwise_cons]
def JN:∀(d a:n fw),(∀b∈d,gx b=m)->(∀b∈a,gx b=m)->a.Pairwise (λa e=>a.1<e.1)->(∀b∈d.foldl eB a,gx b=m)/\(d.foldl eB a).Pairwise λa e=>a.1<e.1
 |[],a,_,h,g=>⟨h,g⟩
 |b::d,a,k,h,g=>JN d (eB a b) (λj i=>k j (nf _ i)) (λj i=>by grind[LW]) (acd g)
theorem abu{d}(g:∀j∈d,gx j=m)(k:d.Pairwise λb e=>b.1<e.1):kT d (c d)=m:=by
 refine f'.2 λi h=>?_;rw[cC];refine⟨g _ N,?_⟩;rcases ob i with a|a
 .simp[a]
 rw[jG];exact FI
def aaH(a:n cb):kT (e7 a) (c (e7 a))=m:=by
 unfold e7;split
 .rename_i b;obtain⟨d,e⟩:=JN (dT a) [] (List.all_eq_true.1 b) E List.Pairwise.nil;grind[abu]
 rfl
def adn{d}(a:∀j∈d,c j.2<=4):c (dT d)<=4*c d:=by
 induction d with
 |nil=>simp[dT]
 |cons h l e=>
  have b:=e λi g=>a i (nf _ g);have k:=a h jf;simp only[dT,sC,dm,k8,fp]at b⊢;omega
def mq.j4{h}{b}(e:mq h b)(a:n5 b):1<=dI b:=by have d:=tc b.2.2 a.aP;unfold R1.dI;split<;>omega
def mq.dh{b}(a:mq h b)(d:n5 b):Gh h b:=by refine⟨a.key,?_,aaH _,a.eF,a.j4 d⟩;have:=adn λg e=>(a.c7 g e).len.2;have:=a.len;omega
def adj{b}{a}{o}(d:hX h b=m)(e:1<=a/\a<=2)(g:dX o=m):Ey h b a o=(if fO h b o=m then b else hV h b a o,!fO h b o):=br ⟨d,e,g⟩
section
variable {q:ag T}[q.b8]
abbrev pU(a:jc):an:=.cells 35 (gM 7 a.1 a.2.1 2)
abbrev Ct(a:Nat):={b:fK×Nat // Au a b}
def NG(e:Nat)(d:Nat->Int)(h)(a:jc)(i:Option (Ct h))(d3 iM g:Bool):n an:=
 match i with
 |none=>match iM with
  |false=>[ej e d h,fI]++g8 a++[pU a]
  |true=>[ej e d h,fI]++g8 a++[pU a,fI]
 |some b=>match d3,iM,g with
  |false,v,_=>[ej e d b.1.2,fI]++g8 a++[pU a]
  |false,m,_=>[ej e d b.1.2,fI]++g8 a++[pU a,fI]
  |true,v,_=>[ej e d b.1.2,fI]++g8 (cw 7 a b.1.1).1++[pU a]
  |true,m,v=>[ej e d b.1.2,fI]++g8 (cw 7 a b.1.1).1++[pU a,fI]
  |true,m,m=>[ej e d b.1.2,fI]++g8 (cw 7 a b.1.1).1++[pU a,pU (cw 7 a b.1.1).1]
abbrev Cl(a:jc):y:=.p (.agg (gM 7 a.1 a.2.1 2))
def afi(h)(a:jc)(e:Option (Ct h))(d:Nat):y:=
 match e with
 |none=>[Cl a,aD 0 0,.any,.any,.any,.any,.any,aD 5 0,.any,.any].getD d .any
 |some b=>[Cl a,aD 0 0,lS b.1.1,.ae [.agg (gM 7 (cw 7 a b.1.1).1.1 (cw 7 a b.1.1).1.2.1 2),.R (.c (.bool (cw 7 a b.1.1).2))],.ae [.agg (gM 7 (cw 7 a b.1.1).1.1 (cw 7 a b.1.1).1.2.1 2),.R (.c (.bool (cw 7 a b.1.1).2))],
   Cl (cw 7 a b.1.1).1,bh (cw 7 a b.1.1).2,aD 5 0,.any,bh (cw 7 a b.1.1).2].getD d .any
abbrev Ek:jc:=(k0,md,Ds,CX)
def fS.zero:fS 0 Ek:=⟨fo.nil,rfl,rfl⟩
def YI:∀a,a<1->([0,5,6,7]:n Nat)[a]?=f a:=λa b=>by grind
def fV(a:n fK):jc:=a.foldl (λd b=>(cw 7 d b).1) Ek
def LF(V)(a):fV (V++[a])=(cw 7 (fV V) a).1:=by unfold fV;grind
def LD:∀b a,fS (c a) (fV a)->fS (c (a++b)) (fV (a++b))
 |[],a,e=>by grind
 |d::b,a,e=>by
  have g:fS (c (a++[d])) (fV (a++[d])):=by rw[LF,dm];exact e.do
  have:=LD b (a++[d]) g;grind
def vX(V):fS (c V) (fV V):=LD V [] fS.zero
def kZ(b:Int)(a:jc):dG:=
 if b=0 then(7,a.1,a.2.1,a.2.2.1,[0])else if b=1 then(7,a.1,a.2.1,a.2.2.1.set 0 (10,(a.2.2.1.getD 0 (0,0)).2),a.2.2.2)else(7,a.1,a.2.1,a.2.2.1,a.2.2.2)
structure n0(h:Nat) where
 dQ:n fK
 v:Int
 k1:Nat
 gq:c dQ<=8
 hn:h<=k1
 gn:k1<=h+4002
abbrev n0.a{h}(a:n0 h):dG:=kZ a.v (fV a.dQ)
def adm{aa}{V}(g:c V<=8):p9 (kZ aa (fV V)).2.1/\(kZ aa (fV V)).2.2.2.1.length<=2/\(kZ aa (fV V)).2.2.2.2.length<=2:=by have a:=vX V;have e:=a.a.ca x;have b:=a.bl;have d:=a.b9;unfold kZ;grind
set_option maxRecDepth 20000 in
def Yo(z)(i:Nat->Int)(G:Bytes i)(h)(ah:h<=30000)(A:z<=1048576):
  bk (ι:=n0 h) q 15 [aD 0 0] [ej z i h] (λbc=>.p (.agg (zQ bc.a 1 2))) (λbc=>[ej z i bc.k1,hR bc.a.2.1]++Cj bc.a.2.2.2.1 bc.a.2.2.2.2):=by
 refine bk.bB ba func15 rfl rfl rfl λau=>?_;refine aZ a C (g.aC (Ys 7 b9) [] a (aZ a C (g.a8 (hM z i G h 9 x A x) [0] a bm ?_)));rintro⟨ai,aq,ar⟩;refine aZ a C ?_;refine g.aE 5 (λbc:Nat×n fK×Nat=>bc.1+c bc.2.1<=8/\h<=bc.2.2/\bc.2.2<=h+1+500*c bc.2.1) (λbc=>[(0,aD 0 0),(2,aD 1 0),(3,aD 4 0),(5,R bc.1)])
  (λbc=>[ej z i bc.2.2,fI]++g8 (fV bc.2.1)++[pU (fV bc.2.1)]) (λbc=>bc.1) (ai.toNat,[],h+1) a ?_ a ?_ a ⟨by grind,by grind,by grind⟩ ?_
 .exact z'
 .have l:fV []=Ek:=rfl;simp[l]
 rintro⟨V,b,k1⟩ ⟨aP,P,ae⟩;simp only at aP P ae;have K:=vX b;have F:=LF b;have J:∀j,p9 (kZ j (fV b)).2.1/\(kZ j (fV b)).2.2.2.1.length<=2/\(kZ j (fV b)).2.2.2.2.length<=2:=λj=>adm x;have B:∀j k1,h<=k1->k1<=h+4002->∃bc:n0 h,bc.a=kZ j (fV b)/\bc.k1=k1:=λj k1 w i=>⟨⟨b,j,k1,by omega,w,i⟩,rfl,rfl⟩
 by_cases aw:0<V
 .refine a6 [15,905] a Oe ?_;generalize av:fV b=k at *;refine g.g' b5 (afi k1 k) (mo (NG z i k1 k) 3 7 8) (mi (Ct k1) 2) p a a a a a
   ⟨.fS,
   .fS,
   eD.iP a a a a a (λu bc=>by
    match bc with
    |0=>exact .inr (.inr rfl)
    |1=>exact .inr (.inr rfl)
    |2=>grind
    |3=>exact .inr (.inl rfl)
    |4=>exact .inr (.inl rfl)
    |5=>exact .inr (.inl rfl)
    |6=>exact .inr (.inl rfl)
    |7=>exact .inr (.inr rfl)
    |8=>exact .inr (.inr rfl)
    |9=>exact .inr (.inl rfl)
    |bc+10=>exact .inr (.inr rfl)) (λw=>by cases w<;>exact dx.dp (I2 z i G k1 x A) [0] rfl rfl rfl rfl rfl rfl rfl bm rfl bm),
   eD.g1 a a a a a (λu w=>by
    have ab:a9 q [(17,la [Cm 7 k,lS u.1.1] (g8 k) (EW 7 (cw 7 k u.1.1).1 (cw 7 k u.1.1).2) (g8 (cw 7 k u.1.1).1))]:=.cons (ma (I0 7 k u.1.1 (c b) K x)) .nil
    cases w<;>exact dS (bg:=[]) ba ab (ao:=f _) rfl ⟨rfl,rfl⟩),
   .dX,
   .dX,
   .dX,
   eD.g2 rfl rfl rfl rfl (λs w=>by rcases s with _|bc<;>cases w<;>exact dS (bg:=[]) ba a9.nil (ao:=f _) rfl C),
   eD.g3 a a a a a a (λu=>dS (bg:=[]) ba a9.nil (ao:=f _) a C),
   .dX,C⟩ ?_
  intro s y ad t;have W:s.isSome=m:=(show s.isSome=y 2 from ad).trans (t 2 b9);cases s with
  |none=>cases W
  |some bc=>
  obtain⟨⟨l,T⟩,O⟩:=bc;have aa:=O.hn;have Z:=O.gn;simp only at aa Z;show g q _ _ _ _ _ (NG z i k1 k (f ⟨(l,T),O⟩) (y 3) (y 7) (y 8));rw[t 3 b9,t 7 b9,t 8 b9];have F:=F l;refine aZ a uf (g.ax (V-1,b++[l],T) a z' ?_ ⟨by grind,by grind,by grind⟩ N);simp only[F];simp
 refine a6 [-15] a Od (g.aB ?_);refine aZ a C (g.a8 (hM z i G k1 40 x A x) [0] a bm ?_);rintro⟨j,aj,ak⟩;have r:(fV b).2.2.1.length=2:=K.bl;have I:(fV b).2.2.2.length=2:=K.b9;by_cases L:j=0
 .obtain⟨bc,d,X⟩:=B 0 (k1+1) x x;obtain⟨Q,M,S⟩:=J 0;have o:=vd (q:=q) _ Q x x;refine a6 [29,912] a (by simp[L]) (g.bC 2 a a a E E (aZ a C (g.b0 o.tocF [] a a a a ?_ a a a bm a bm a ?_)))
  .simp only[kZ,br,U.Y,U,a',a_];exact Ro
  exact FJ
 by_cases D:j=1
 .obtain⟨bc,d,X⟩:=B 1 (k1+1) x x;obtain⟨Q,M,S⟩:=J 1;have o:=vd (q:=q) _ Q x x;obtain⟨ag,an,Y⟩:∃w i,(fV b).2.2.1=[w,i]:=by
   match O:(fV b).2.2.1,r with
   |[w,i],_=>grind
  have H:bt 2 (hA 0 (lx 0 [.int .i64 10,.int .i64 ((fV b).2.2.1.getD 0 (0,0)).2] (a1.fn (fV b).2.2.1))) (a1.fn ((fV b).2.2.1.set 0 (10,((fV b).2.2.1.getD 0 (0,0)).2))):=by
   rw[Y];intro e bp
   match e,bp with
   |0,_=>rfl
   |1,_=>rfl
  refine a6 [-29,33,912] a (by simp[D]) (g.bC 2 a a a E E (g.bC 3 a a a E E (aZ a C (g.b0 o.tocF [] a a a a ?_ a a a bm a bm a ?_))))
  .simp only[kZ,bl (show¬(1:Int)=0 by decide),br,U.Y,U,a',a_];and_intros<;>first|exact bt.same|exact H|rfl|omega|exact r|exact I|exact r.symm|exact I.symm|grind|(simp only[rq];omega)
  exact FJ
 obtain⟨bc,d,X⟩:=B j (k1+1) x x;obtain⟨Q,M,S⟩:=J j;have o:=vd (q:=q) _ Q x x;refine a6 [-29,-33,912] a (by simp[L,D]) (g.bC 2 a a a E E (g.bC 3 a a a E E (aZ a C (g.b0 o.tocF [] a a a a ?_ a a a bm a bm a ?_))))
 .simp only[kZ,bl L,bl D,U.Y,U,a',a_];exact Ro
 exact FJ
end
section
section
variable {q:ag T}[q.b8]
structure ur where
 cC:n0 0
 ea:Bool
def ur.a(a:ur):dG:=if a.ea=m then(a.cC.a.1,(a.cC.a.2.1.1,a.cC.a.2.1.2.1,a.cC.a.2.1.2.2++[9]),a.cC.a.2.2)else a.cC.a
end
def mq.dG{e:cj}(a:mq h e):o5 e:=by have d:=a.gG;have b:=m9.of a.eF;exact⟨d.dZ,a.dM,d.fc.bc,λi g=>(b.aP i g).1⟩
def NJ{a:dG}(b:fa a=m):n8 a.1 a.2.1:=by simp only[fa,cC]at b;exact wj.1 b.2
def kw(a:dG):cj:=if fa a=m then l5 a.2.1.1 a.2.2.1 else([],[],[])
variable {q:ag T}
def Jo(b:dG)(h:n7 b.2.1):Y (ag.aJ T) 11 [ep b] [] (bV (kw b)) []:=by
 refine Y.bm ba func11 rfl rfl rfl λk=>?_;have d:=CN b h;have j:a9 (ag.aJ T) [(19,d8 [ep b] (bh (fa b)))]:=.cons (eg d) .nil;unfold kw;cases bT:fa b with
 |false=>
  exact a8 j [5] a kE zZ
 |true=>
  have e:=(SP (q:=ag.aJ T) (NJ bT).dG b.2.2.1).cF;have hK:a9 (ag.aJ T) [(19,d8 [ep b] (bh (fa b))),(35,d8 [bV b.2.1.1,eo b.2.2.1] (bV (l5 b.2.1.1 b.2.2.1)))]:=.cons (eg d) (.cons (eg e) .nil);rw[br a];refine a8 hK [-5] a (by simp only[U,bT,fq,a',a_];and_intros<;>rfl) ?_;exact zZ
def Mx{J:dG}:dL (kw J):=by
 unfold kw;split
 .rename_i a;exact(r7 (q:=ag.aJ T) (NJ a).dG J.2.2.1).ea
 exact⟨by simp,by simp,by simp,by simp[kx],by simp⟩
end
def EB(aa)(b):(kZ aa b).2.1=b.1/\(kZ aa b).2.2.1=b.2.1:=by unfold kZ;grind
def fo.dN{b}(a:fo j b)(d:j<=1000000):n7 b:=⟨a.bc.toj8.fW,by have:=a.b';omega,by have:=a.cL;omega⟩
def n0.dN{h}(a:n0 h):n7 a.a.2.1:=by have b:=a.gq;rw[(EB a.v (fV a.dQ)).1];exact(vX a.dQ).a.dN x
def ur.dN(a:ur):n7 a.a.2.1:=by
 have b:=a.cC.dN;unfold ur.a;split
 .refine⟨b.ton6,b.fP,?_⟩;have d:=a.cC.gq;have g:=(vX a.cC.dQ).a.cL;have e:=(EB a.cC.v (fV a.cC.dQ)).1;grind
 exact b
end R1
section
namespace R1
variable {q:ag T}[q.b8]
abbrev aaR(b:cj)(a:Nat):Nat:=bU (c b.1) (f (a:Int))-bU 0 p
abbrev aaS(b:cj)(a:Nat):Nat:=bU (c b.1) p-bU 0 (f ((a:Int)+1))
abbrev lV(a:cj):Nat->n O:=fA (bU 0 p) (a2.fn a.1)
abbrev kP(b:cj)(a:Nat):Nat->n O:=fA (bU 0 (f ((a:Int)+1))) (a2.fn b.1)
end R1
end
namespace R1
section
variable {q:ag T}
def V7(b)(d:dL b.1):Y q 26 [gn b,gn b] [] (bh m) []:=by refine Y.K func26 rfl λh=>?_;have e:a9 q [(58,d8 [bV b.1,bV b.1] (bh m)),(27,xJ)]:=.cons (eg (V6 b.1 d)) (.cons EQ .nil);refine bf e [10,17] a ?_ (g.ar a);exact bJ
end
def Gu{d}(n:d.Pairwise (·<=·)):∀a,a<=c d->(fy d a).Pairwise (· < ·)/\∀g∈fy d a,0<a/\g<=d.getD (a-1) 0
 |0,_=>by simp[fy]
 |a+1,q=>by
  obtain⟨k,cd⟩:=Gu n a x;have j:∀h,h<a->d.getD h 0<=d.getD a 0:=λh o=>by have:=pd.1 n h a x x o;grind
  rw[fy];split
  .rename_i e;refine⟨k,λg b=>⟨by omega,?_⟩⟩;have:=cd g b;have:=j (a-1) x;simp only[qa];omega
  rename_i e;have i:∀g∈fy d a,g<d.getD a 0:=λg b=>by have s:=cd g b;have r:=j (a-1) x;omega
  refine⟨pe.2 ⟨k,by simp,λg b t l=>?_⟩,λg b=>⟨by omega,?_⟩⟩
  .rw[gY]at l;subst l;exact i g b
  simp only[qa];rcases gl.1 b with b|b
  .have:=i g b;omega
  rw[gY]at b;omega
def adc(k):fZ k=gI k.2:=by
 refine Bb ?_ (C8 List.Pairwise.nil) λa=>by rw[yQ,KN]
 unfold fZ hL;exact(Gu (ME _) _ (bE _)).1
abbrev ado(g e:aq×Z)(d:dW)(b:cj)(a:n Int):n an:=i' g e++[gh d,.cells 30 me,.M,gh (b,a,d.2.2),jZ b]
def acN{b}{a}{o}(d:hd h b=m)(e:1<=a/\a<=2)(g:dX o=m):fY h b a o=if fO h b.1 o=m then(b,v)else(r5 h b a o,m):=by unfold fY rX;simp_all
def X6(j z)(h)(b)(cv)(o)(i:n7 b)(u:dL b.1)(J:n5 b.1)(H:a7 .i64 cv):
  Y (ag.aJ T) 52 [R h,gn b,R cv,bC.C o] (i' j z) (j1 (fY h b cv o).1 (fY h b cv o).2) (i' j z):=by
 refine Y.bm ba func52 rfl rfl rfl λP=>?_;have l:a9 (ag.aJ T) [(49,xO),(50,rD)]:=.cons EU (.cons wl .nil);have w:(b.1,b.2.1,b.2.2)=b:=rfl;have ao:=u.a2;cases r:hd h b with
 |false=>
  have s:fY h b cv o=(k0,v):=by unfold fY rX;simp[r]
  rw[s];refine bf l [19,27,31] a ?_ ?_
  .simp only[U,a2.m,a2.U,bi.m,bi.U,a1.m,a1.U,aC.m,aC.U,w,r,i,hH,a',a_]
  exact nV
 |true=>
 by_cases F:1<=cv/\cv<=2
 rotate_left
 .have s:fY h b cv o=(k0,v):=by unfold fY rX;simp[F]
  rw[s];exact bf l [-19,22,27,31] a bJ nV
 have S:cv=1∨cv=2:=x;cases I:dX o with
 |false=>
  have s:fY h b cv o=(k0,v):=by unfold fY rX;simp[I]
  rw[s];rcases S with rfl|rfl
  .exact bf l [-19,-22,-27,31] a z_ nV
  exact bf l [-19,22,-27,31] a z_ nV
 |true=>
 rw[acN r F I];have A:=wj.1 r;have ah:=wb.2 A.tomq;have aV:=A.tomq.gG;have y:=XY j z h b.1 cv o u i.ton6 J H λt=>(wb.1 t).dh J;rw[aaF,adj ah F I]at y;apply g.cn [(0,R h),(2,R cv),(3,bC.C o),(5,aD 3 0),(8,aD 4 0)] (i' j z++[gh b,.cells 30 me])
 .intro dw;rcases S with rfl|rfl
  .exact bf l [-19,-22,-27,-31,903] a z_ kD
  exact bf l [-19,22,-27,-31,903] a z_ kD
 refine cr a C (g.aC (Jt b u i.fP i.fN) [] a (bN [904] a C (g.bC 5 a a a E E (cr a C (g.aC y [0,1,2] a ?_)))));cases X:fO h b.1 o with
 |true=>
  exact bN [45] a E PR
 |false=>
 have an:=u.bx;have K:=aV.dh (h:=h) (o:=o) (cv:=cv) (by have:=xq 1 A.dv λn Z=>(A.a7 n Z).1;omega) I X;have ai:(hV h b.1 cv o).2.1.length=c b.1.2.1+1:=by simp[hV]
 have aa:(hV h b.1 cv o).2.1.getD ((hV h b.1 cv o).2.1.length-1) (0,[])=gU (dI b.1) h o:=by rw[ai];simp[hV,al]
 have V:=K.c6 (gU (dI b.1) h o) N;have L:=wo V.2;have ak:=tv (gU (dI b.1) h o).2;have aj:=K.eB;have G:=i.fP;have M:=CG (q:=ag.aJ T) (gU (dI b.1) h o) x x;rw[adc]at M;unfold r5;simp only[bl (show¬(v=m) by simp)];generalize hV h b.1 cv o=k at *;generalize gU (dI b.1) h o=n at *;have ad:((c k.2.1:Int)-1).toNat=c k.2.1-1:=x;have W:k.2.1.getD ((c k.2.1:Int)-1).toNat bi.I=n:=by rw[ad];exact aa
 have B:a9 (ag.aJ T) [(86,d8 [iO n] (aC.C (gI n.2)))]:=.cons (eg M) .nil;refine bf B [-45] a ?_ ?_
 .simp only[U,W,a7];and_intros<;>first|rfl|exact True.intro|omega
 generalize gI n.2=d at *;refine g.aE 8 (λe=>e<=c d) (λe:Nat=>[(8,aD 4 0),(10,aD 6 0),(57,aC.C d),(58,R (c d)),(59,R e)])
  (λe=>ado j z b k ((d.take e).foldl e8 b.2.1)) (λe=>c d-e) 0 a ?_ a ?_ a x ?_
 .simp
 .simp
 intro e ab;by_cases t:e<c d
 .have ae:d.getD (e:Int).toNat aC.I=d.getD e 0:=rfl;have O:=yr e8 b.2.1 t;have Q:=qy b.2.1 (d.take e);rw[List.length_take]at Q;generalize(d.take e).foldl e8 b.2.1=jd at *;have D:a9 (ag.aJ T) [(97,d8 [aC.C jd,R (d.getD e 0)] (aC.C (e8 jd (d.getD e 0))))]:=.cons (eg (WB jd (d.getD e 0) x)) .nil;refine bf D [60] a ?_ (g.ax (e+1) a E ?_ t x)
  .simp only[U,ae,a7,bA];exact q_
  rw[O];simp
 obtain rfl:e=c d:=x;rw[c_];refine bN [-60] a E (g.aB ?_);exact cr a C nV
abbrev xz(g e:aq×Z)(d:dG)(h:fK)(i:Int)(b:jc)(a:Nat->n O):n an:=pG g e d h++[.q 46 2 2 (a1.fn b.2.2.1),.q 3 1 2 a,pV i b.1 b.2.1]
abbrev qm(e d:aq×Z)(b:dG)(g:fK)(h:Int)(i:jc)(a:Nat->n O):n an:=xz e d b g h i a++[.M,.M,.M,.M]
abbrev ml(j:Nat)(h g:aq×Z)(d:dG)(i:fK)(a:Int)(b:jc)(e:fK):Prop:=
 bk (ι:=qv (cw a b e).1.2.2.2) (ag.aJ T) j [aD 8 0,lS e] (xz h g d i a b (aC.fn b.2.2.2)) (λ_=>bh (cw a b e).2) (λk=>qm h g d i a (cw a b e).1 k.1)
def Yk(k r)(e)(i)(h)(b)(d)(l:d.1=3):ml 22 k r e i h b d:=by
 have j:cw h b d=((b.1,d.2.2.2.1,b.2.2),m):=by unfold cw;simp[l]
 unfold ml;rw[j];refine bk.bR func22 rfl rfl rfl (g.aT ?_);exact cr a C wL
def Yl(e B)(l)(q)(h)(b)(d)(o:fS j b)(r:d.1=2):ml 21 e B l q h b d:=by
 unfold ml;have n:a9 (ag.aJ T) [(36,uZ)]:=.cons zz .nil;by_cases k:1<=d.2.1/\d.2.1<=2
 rotate_left
 .have i:cw h b d=(b,v):=by unfold cw;simp[r,k]
  rw[i];refine bk.bR func21 rfl rfl rfl (g.aT ?_);exact bf n [8] a (by simp[og,k]) wL
 have i:cw h b d=((b.1,b.2.1,g_ d.2.1 b.1.1 b.2.1 b.2.2),m):=by unfold cw;simp[r,k]
 rw[i];refine bk.bR func21 rfl rfl rfl (g.aT ?_);refine bf n [-8] a (by simp[og,k]) (g.cU (IT e B l q d h b.1 b.2.1 d.2.1 b.2.2.1 b.2.2.2 o.a.bc.dG k o.bl o.b9) a a a a E a λs=>?_);refine cK n a C (g.eP 2 ?_);refine g.cW 9 a bm ?_;refine g.ret ?_;exact⟨s,.inl a,a,a,_,_,_,a,a,a,a⟩
abbrev tw(a:n an)(e:dW)(_ b d:Bool):n an:=
 match b,d with
 |false,_=>a
 |true,v=>a++[t_]
 |true,m=>a++[gh e]
def adx{J}(a:qC J=v):jx J=J:=by
 obtain⟨e,d,b⟩:=J;cases b with
 |nil=>rfl
 |cons g h=>cases a
abbrev afA(e:Int)(g b:dW)(a:Bool)(d:Nat):y:=
 [aD 8 0,aD 8 0,aD 8 0,R e,aD 8 0,aD 8 0,aD 8 1,gn g,j1 b a,j1 b a,gn b,bh a,aD 10 0,.any,bh a].getD d .any
set_option maxRecDepth 20000 in
def Yn(z d)(k)(e)(h)(b)(l)(A:fS j b)(K:j<=1000)(D:hd h b.1=m)(F:l.1=5):ml 24 z d k e h b l:=by
 unfold ml;have q:cw h b l=((jx b.1,b.2),qC b.1):=by unfold cw;simp[F]
 have B:=X8 h b.1 (A.a.dN x) A.a.bc.dZ;have s:zw h b.1=(jx b.1,qC b.1):=br D;rw[s]at B;have t:=adx (J:=b.1);rw[q];generalize jx b.1=n at *;generalize qC b.1=o at *;have i:a9 (ag.aJ T) [(54,d8 [R h,gn b.1] (j1 n o))]:=.cons (eg B) .nil;refine bk.bR func24 rfl rfl rfl (g.aT ?_);refine bf i [901] a C ?_;refine g.cj b5 (afA h b.1 n o) (lm (tw (xz z d k e h b (aC.fn b.2.2.2)++[po l]) n) 14 12 13) a a a a
  ⟨.aD,.aD,.aD,.aD,.aD,.aD,.aD,.aD,.du ba i (ck:=by exact a),.aD,.aD,.aD,
  b4.eg a a a a a (λw=>by cases w<;>exact dS (bg:=[]) ba i (ao:=f _) a C),
  b4.eh a a a a a (λw=>by cases w<;>exact dS (bg:=[]) ba i (ao:=f _) a C),
  b4.ef a a a a (λr I=>by cases r<;>cases I<;>exact aJ.x),C⟩ ?_
 intro y u;show g (ag.aJ T) _ _ _ _ _ (tw _ n (y 14) (y 12) (y 13));rw[u 14 b9,u 12 b9,u 13 b9];cases o with
 |true=>
  exact bf i [19] a E Fx
 |false=>
  obtain rfl:=t rfl;exact bf i [-19] a E Fx
abbrev afz(e:Int)(g b:dW)(cX:n Int)(a:Bool)(d:Nat):y:=
 [aD 8 0,aD 8 0,aD 8 0,R e,aD 8 0,aD 8 0,aD 8 1,aD 8 1,bV g.1,aD 9 7,aC.C cX,j1 b a,j1 b a,gn b,bh a,aD 10 0,.any,bh a].getD d .any
set_option maxRecDepth 20000 in
def Yj(z d)(l)(B)(h)(b)(e)(s:fS j b)(A:hd h b.1=m)(x:e.1=4):ml 23 z d l B h b e:=by
 unfold ml;by_cases t:c b.1.2.2=0
 rotate_left
 .have i:cw h b e=(b,v):=by unfold cw;simp[x,t]
  rw[i];refine bk.bR func23 rfl rfl rfl (g.aT ?_);exact bN [13] a Oe wL
 have i:cw h b e=(((kL h b.1.1 e.2.2.2.2).1,b.2),m):=by unfold cw;simp[x,t]
 have u:=Ub h b.1.1 e.2.2.2.2 s.a.bc.dZ s.a.bc.toj8.fW;have o:(kL h b.1.1 e.2.2.2.2).2=m:=by unfold kL;rw[br (wb.2 (wj.1 A).tomq)]
 rw[o]at u;rw[i];generalize(kL h b.1.1 e.2.2.2.2).1=n at *;have k:a9 (ag.aJ T) [(53,d8 [R h,bV b.1.1,aC.C e.2.2.2.2] (j1 n m))]:=.cons (eg u) .nil;refine bk.bR func23 rfl rfl rfl (g.aT ?_);refine bf k [-13,903] a Od ?_;refine g.cj b5 (afz h b.1 n e.2.2.2.2 m) (lm (tw (xz z d l B h b (aC.fn b.2.2.2)++[po e]) n) 17 15 16) a a a a
  ⟨.aD,.aD,.aD,.aD,.aD,.aD,.aD,.aD,.aD,.aD,.aD,.du ba k (ck:=by exact a),.aD,.aD,.aD,
  b4.eg a a a a a (λw=>by cases w<;>exact dS (bg:=[]) ba k (ao:=f _) a C),
  b4.eh a a a a a (λw=>by cases w<;>exact dS (bg:=[]) ba k (ao:=f _) a C),
  b4.ef a a a a (λr I=>by cases r<;>cases I<;>exact aJ.x),C⟩ ?_
 intro y q;show g (ag.aJ T) _ _ _ _ _ (tw _ n (y 17) (y 15) (y 16));rw[q 17 b9,q 15 b9,q 16 b9];exact bf k [29] a E Fx
abbrev afB(g:Int)(i d:dW)(a:Int)(h:n cZ)(b:Bool)(e:Nat):y:=
 [aD 8 0,aD 8 0,aD 8 0,R g,aD 8 0,aD 8 0,aD 8 1,gn i,aD 9 1,R a,aD 9 2,bC.C h,j1 d b,j1 d b,gn d,bh b,aD 11 0,.any,bh b].getD e .any
set_option maxRecDepth 20000 in
def Ym(s z)(B)(J)(h)(b)(i)(l:fS j b)(Y:j<=1000)(M:i.1=1):ml 20 s z B J h b i:=by
 unfold ml;have F:a9 (ag.aJ T) [(36,uZ),(50,rD)]:=.cons zz (.cons wl .nil);by_cases e:1<=i.2.1/\i.2.1<=2
 rotate_left
 .have A:cw h b i=(b,v):=by unfold cw;simp[M,e]
  rw[A];refine bk.bR func20 rfl rfl rfl (g.aT ?_);exact bf F [11,16] a (by simp[og,e]) wL
 cases aa:dX i.2.2.1 with
 |false=>
  have A:cw h b i=(b,v):=by unfold cw;simp[M,aa]
  rw[A];refine bk.bR func20 rfl rfl rfl (g.aT ?_);exact bf F [-11,16] a RL wL
 |true=>
 have A:cw h b i=nL h b i.2.1 i.2.2.1:=by unfold cw;simp[M,e,aa]
 rw[A];have R:=tq (cv:=i.2.1) (b:=b.1.1) (d:=b.2.1) (bc:=b.2.2) l.bl l.b9;have O:=IT (q:=ag.aJ T) s z B J i h b.1 b.2.1 i.2.1 b.2.2.1 b.2.2.2 l.a.bc.dG e l.bl l.b9;have Q:=X6 s z h b.1 i.2.1 i.2.2.1 (l.a.dN x) l.a.bc.dZ l.a.bc.fc m3;have X:=Em (h:=h) (cv:=i.2.1) (o:=i.2.2.1) l.a;unfold nL;rw[show((b.2.2.1,b.2.2.2):n (Int×Int)×n Int)=b.2.2 from a]at O;generalize g_ i.2.1 b.1.1 b.2.1 b.2.2=k at *;have K:k.2.getD (0+(i.2.1-1).toNat) aC.I=k.2.getD (i.2.1-1).toNat 0:=rb;refine bk.bR func20 rfl rfl rfl (g.aT ?_);refine bf F [-11,-16] a RL (g.cU O a a a a E a λu=>?_);refine bN [904] a C (g.bf (oe s z B J h b.1 b.2.1 k.1 (aC.fn k.2) i++[.M]) a ud ?_);by_cases t:k.2.getD (i.2.1-1).toNat 0=0
 rotate_left
 .rw[bl (λl=>t l.1)];refine bN [31,38] a ?_ ?_
  .simp only[U,K,a7,iI,d',a',a_];and_intros<;>first|exact t|omega
  exact PW
 by_cases D:b.2.1.1=0
 rotate_left
 .rw[bl (λl=>D l.2)];refine bN [-31,38] a ?_ ?_
  .simp only[U,K,t,a7,iI,ip,d',a',a_];and_intros<;>first|exact D|omega
  exact PW
 rw[br ⟨t,D⟩];refine bN [-31,-38,906] a ?_ ?_
 .simp only[U,K,t,D,a7,ip,a',a_];omega
 refine g.cj b5 (afB h b.1 (fY h b.1 i.2.1 i.2.2.1).1 i.2.1 i.2.2.1 (fY h b.1 i.2.1 i.2.2.1).2) (lm (tw (oe s z B J h b.1 b.2.1 k.1 (aC.fn k.2) i++[.M]) (fY h b.1 i.2.1 i.2.2.1).1) 18 16 17) a a a a
  ⟨.aD,.aD,.aD,.aD,.aD,.aD,.aD,.aD,.aD,.aD,.aD,.aD,
  b4.bN a a a (λw r I=>aJ.dK (by cases r<;>cases I<;>exact dx.dp Q.tocF [0,1,2] a a a a a a a bm a bm)),
  .aD,.aD,.aD,
  b4.eg a a a a a (λw=>by cases w<;>exact dS (bg:=[]) ba F (ao:=f _) a C),
  b4.eh a a a a a (λw=>by cases w<;>exact dS (bg:=[]) ba F (ao:=f _) a C),
  b4.ef a a a a (λr I=>by cases r<;>cases I<;>exact aJ.x),C⟩ ?_
 intro y N;show g (ag.aJ T) _ _ _ _ _ (tw _ (fY h b.1 i.2.1 i.2.2.1).1 (y 18) (y 16) (y 17));rw[N 18 b9,N 16 b9,N 17 b9];cases jL:(fY h b.1 i.2.1 i.2.2.1).2 with
 |false=>
  rw[bl E];refine bN [56] a uk (g.eP 1 ?_);refine g.cW 9 a bm ?_;refine g.cW 11 a bm ?_;refine g.ret ?_;exact⟨⟨_,bt.same⟩,.inl a,a,a,_,_,_,a,a,a,a⟩
 |true=>
  rw[br a];have V:=(X jL).1;generalize(fY h b.1 i.2.1 i.2.2.1).1=w2 at *;have S:=Uu (q:=ag.aJ T) s z B J i w2 h w2 b.2.1 i.2.1 k.1 k.2 V.bc.dG e R.1 R.2;rw[show((k.1,k.2):n (Int×Int)×n Int)=k from a]at S;refine bN [-56] a uk (g.cU S a a a a E a λW=>?_);refine cr a C (g.cW 9 a bm ?_);refine g.cW 11 a bm ?_;refine g.ret ?_;exact⟨W,.inl a,a,a,_,_,_,a,a,a,a⟩
section
variable {q:ag T}
def Up(d)(h:c d<=4000000):Y q 56 [a1.C d] [] (cz 0 (.C (c d) 2 0 (c d))) [.q 46 2 (c d) (a1.fn d)]:=by
 refine Y.K func56 rfl λi=>?_;refine aZ a C (g.ez ba a a a a a a λb e=>?_);cases b with
 |true=>
  obtain rfl:=jF (e rfl);refine aZ a C (g.fa 2 46 2 (a1.fn []) a ?_);exact FF
 |false=>
  refine gu [] 7 a C (g.dJ 5 46 2 (a1.fn []) a ?_);refine aZ a ⟨a,a,show(0+c d)*16<=_ by omega⟩ (g.bf [.q 46 2 (c d) (a1.fn d)] a ?_ ?_)
  .simp[bt,cf]
  exact FM
abbrev uR(a:dW):an:=.q 105 2 (c a.1.1) (a2.fn a.1.1)
abbrev xt(cX:n (Int×Int)):an:=.q 46 2 (c cX) (a1.fn cX)
abbrev NH(a:dG):n Q:=.c (.int .i64 a.1)::([.S 2 (.C (c a.2.1.1.1) 2 0 (c a.2.1.1.1)),cJ bi a.2.1.1.2.1,cJ a1 a.2.1.1.2.2,cJ aC a.2.1.2.1,cJ aC a.2.1.2.2]++vA a.2.2.1++[.S 3 (.C (c a.2.2.2.1) 2 0 (c a.2.2.2.1)),.S 4 (.C (c a.2.2.2.2) 1 0 (c a.2.2.2.2))])
def Ip(a:dG)(b d e g:Bool):n an:=
 match b,d,e,g with
 |true,m,m,m=>[m2 a,.cells 35 (NH a),uR a.2.1,xt a.2.2.2.1,jJ (c a.2.2.2.2) a.2.2.2.2]
 |true,m,m,v=>[m2 a,fI,uR a.2.1,xt a.2.2.2.1,jJ (c a.2.2.2.2) a.2.2.2.2]
 |true,m,v,_=>[m2 a,fI,uR a.2.1,xt a.2.2.2.1]
 |true,v,_,_=>[m2 a,fI,uR a.2.1]
 |false,_,_,_=>[m2 a,fI]
abbrev afn(a:dG)(b:Nat):y:=
 [aD 0 0,R a.1,aD 0 1,gn a.2.1,.p (.agg [.S 2 (.C (c a.2.1.1.1) 2 0 (c a.2.1.1.1)),cJ bi a.2.1.1.2.1,cJ a1 a.2.1.1.2.2,cJ aC a.2.1.2.1,cJ aC a.2.1.2.2]),aD 0 6,eo a.2.2.1,aD 0 10,a1.C a.2.2.2.1,cz 3 (.C (c a.2.2.2.1) 2 0 (c a.2.2.2.1)),
  aD 0 11,aC.C a.2.2.2.2,cz 4 (.C (c a.2.2.2.2) 1 0 (c a.2.2.2.2)),.p (.agg (NH a)),.any].getD b .any
set_option maxRecDepth 20000 in
def Yi(b)(j:dL b.2.1.1)(I:c b.2.1.2.1<=4000000)(h:c b.2.1.2.2<=4000000)(d:c b.2.2.2.1=2)(r:c b.2.2.2.2=2):
  Y q 25 [ep b] [] (.p (.agg (gM b.1 b.2.1 b.2.2.1 0))) (lq b.2.2.2.1 b.2.2.2.2):=by
 refine Y.bm ba func25 rfl rfl rfl λk=>?_
 have w:a9 q [(55,la [gn b.2.1] [] (.p (.agg [.S 0 (.C (c b.2.1.1.1) 2 0 (c b.2.1.1.1)),cJ bi b.2.1.1.2.1,cJ a1 b.2.1.1.2.2,cJ aC b.2.1.2.1,cJ aC b.2.1.2.2])) [uR b.2.1]),
   (56,la [a1.C b.2.2.2.1] [] (cz 0 (.C (c b.2.2.2.1) 2 0 (c b.2.2.2.1))) [xt b.2.2.2.1]),
   (57,la [aC.C b.2.2.2.2] [] (cz 0 (.C (c b.2.2.2.2) 1 0 (c b.2.2.2.2))) [jJ (c b.2.2.2.2) b.2.2.2.2])]:=
  .cons (ma (Jt b.2.1 j I h)) (.cons (ma (Up b.2.2.2.1 x)) (.cons (ma (IQ b.2.2.2.2 x)) .nil))
 refine bf w [901] a C ?_;refine g.cj b5 (afn b) (mE (Ip b) 4 9 12 14) a a a a
  ⟨.aZ,.aZ,.aZ,.aZ,
  b4.ay a a a a a a (dS (bg:=[]) ba w (ao:=f _) a ⟨rfl,rfl⟩),
  .aZ,.aZ,.aZ,.aZ,
  b4.eU a a a a a a (dS (bg:=[]) ba w (ao:=f _) a ⟨rfl,rfl⟩),
  .aZ,.aZ,
  b4.eW a a a a a a (dS (bg:=[]) ba w (ao:=f _) a ⟨rfl,rfl⟩),
  .aZ,
  b4.eX a a a a a a (dS (bg:=[]) ba w (ao:=f _) a C),C⟩ ?_
 intro y i;show g q _ _ _ _ _ (Ip b (y 4) (y 9) (y 12) (y 14));rw[i 4 b9,i 9 b9,i 12 b9,i 14 b9];refine qV w [] 1 a C (g.bC 2 a a a E E (g.bf [m2 b,.cells 35 (gM b.1 b.2.1 b.2.2.1 3),.M,.q 46 2 2 (a1.fn b.2.2.2.1),.q 3 1 2 (aC.fn b.2.2.2.2)] a ?_ ?_))
 .simp[hA,d,r]
 refine g.bh () [3,4] ?_ (λl e=>absurd e E);simp
end
abbrev NQ:dG:=(0,k0,md,[],[])
def iw(a:dG)(b:fK):dG×Bool:=if fa a=m then((a.1,(cw a.1 a.2 b).1),(cw a.1 a.2 b).2)else(NQ,v)
abbrev tV(a:dG×Bool):y:=.ae [.agg (hY a.1),.R (.c (.bool a.2))]
def t0{a}(b:fa a=m):c a.2.2.2.1=2/\c a.2.2.2.2=2/\hd a.1 a.2.1=m:=by simp only[fa,cC,bA]at b;exact⟨b.1.1.1,b.1.1.2,b.2⟩
abbrev vi(a:Nat):n O:=[.fn (.func a) [] []]
abbrev EX:n (n O):=[vi 20,vi 21,vi 22,vi 23,vi 24]
abbrev YA(a:Nat):Nat:=[20,21,22,23,24].getD (a-1) 0
abbrev wz(a:Int)(e:fK)(d:Bool)(b:Nat):y:=
 [aw (.C m 1 5 λb=>EX.getD b []),aD 4 0,R a,R (a-1),aw (.Q (EX.getD (a-1).toNat [])),aw ((EX.getD (a-1).toNat []).getD 0 (.bool v)),lS e,bh d,bh d].getD b .any
set_option maxRecDepth 20000 in
def Yp(l i)(b)(h)(j)(t:fo (6000+240*j) b.2.1)(I:j<=1000):
  Y (ag.aJ T) 7 [ep b,lS h] (i' l i) (tV (iw b h)) (i' l i):=by
 refine Y.bm ba func7 rfl rfl rfl λy=>?_;have w:a9 (ag.aJ T) [(19,d8 [ep b] (bh (fa b)))]:=.cons (eg (CN b (t.dN x))) .nil;unfold iw;cases bT:fa b with
 |false=>
  exact bf w [11] a kE nV
 |true=>
 obtain⟨A,D,F⟩:=t0 bT;have s:fS j b.2:=⟨t,A,D⟩;have O:=t.ca x
 rw[br a];refine bf w [-11] a kE (g.aC (Yi b O.bc (by have:=t.b';omega) (by have:=t.cL;omega) A D) [] a ?_);by_cases M:1<=h.1/\h.1<=5
 rotate_left
 .have Q:cw b.1 b.2 h=(b.2,v):=by unfold cw;grind
  rw[Q];apply g.cn [(2,aD 3 0),(3,aD 4 0),(4,aD 5 0),(7,aD 8 0)] (pG l i b h++lq b.2.2.2.1 b.2.2.2.2++[pV b.1 b.2.1 b.2.2.1])
  .intro dw;by_cases J:h.1<1
   .exact bf w [19,23,906] a (by simp[J]) kD
   exact bf w [-19,23,906] a bW kD
  refine g.bC 6 a a a E E (g.bC 7 a a a E E (cK w a C (g.cv () [0,1,2] ?_ oy)));simp[hA,A,D]
 have bz:ml (YA h.1.toNat) l i b h b.1 b.2 h:=by
  have z:h.1=1∨h.1=2∨h.1=3∨h.1=4∨h.1=5:=x;rcases z with r|r|r|r|r<;>rw[r]
  .exact Ym l i b h b.1 b.2 h s I r
  .exact Yl l i b h b.1 b.2 h s r
  .exact Yk l i b h b.1 b.2 h r
  .exact Yj l i b h b.1 b.2 h s F r
  exact Yn l i b h b.1 b.2 h s I F r
 unfold ml at bz;have B:(cw b.1 b.2 h).1.2.2.1.length=2/\(cw b.1 b.2 h).1.2.2.2.length=2:=⟨(s.do).bl,(s.do).b9⟩;refine bf w [-19,-23,907] a bW ?_
 generalize K:cw b.1 b.2 h=e at *;have z:h.1=1∨h.1=2∨h.1=3∨h.1=4∨h.1=5:=x;obtain⟨r,d,q,k,o⟩:=h;simp only at z bz;rcases z with rfl|rfl|rfl|rfl|rfl
 .refine g.dg b5 7 (λn=>ay n 6) (wz 1 (1,d,q,k,o) e.2) (λ(_:qv e.1.2.2.2) n=>[bh e.2,bh e.2].getD (n-7) .any) (λu=>qm l i b (1,d,q,k,o) b.1 e.1 u.1) a a a a a a wG wE wH ?_;intro u;refine g.bf (pG l i b (1,d,q,k,o)++lq e.1.2.2.1 e.1.2.2.2++[pV b.1 e.1.1 e.1.2.1,.M,.M,.M,.M]) a ud ?_;exact wD
 .refine g.dg b5 7 (λn=>ay n 6) (wz 2 (2,d,q,k,o) e.2) (λ(_:qv e.1.2.2.2) n=>[bh e.2,bh e.2].getD (n-7) .any) (λu=>qm l i b (2,d,q,k,o) b.1 e.1 u.1) a a a a a a wG wE wH ?_;intro u;refine g.bf (pG l i b (2,d,q,k,o)++lq e.1.2.2.1 e.1.2.2.2++[pV b.1 e.1.1 e.1.2.1,.M,.M,.M,.M]) a ud ?_;exact wD
 .refine g.dg b5 7 (λn=>ay n 6) (wz 3 (3,d,q,k,o) e.2) (λ(_:qv e.1.2.2.2) n=>[bh e.2,bh e.2].getD (n-7) .any) (λu=>qm l i b (3,d,q,k,o) b.1 e.1 u.1) a a a a a a wG wE wH ?_;intro u;refine g.bf (pG l i b (3,d,q,k,o)++lq e.1.2.2.1 e.1.2.2.2++[pV b.1 e.1.1 e.1.2.1,.M,.M,.M,.M]) a ud ?_;exact wD
 .refine g.dg b5 7 (λn=>ay n 6) (wz 4 (4,d,q,k,o) e.2) (λ(_:qv e.1.2.2.2) n=>[bh e.2,bh e.2].getD (n-7) .any) (λu=>qm l i b (4,d,q,k,o) b.1 e.1 u.1) a a a a a a wG wE wH ?_;intro u;refine g.bf (pG l i b (4,d,q,k,o)++lq e.1.2.2.1 e.1.2.2.2++[pV b.1 e.1.1 e.1.2.1,.M,.M,.M,.M]) a ud ?_;exact wD
 refine g.dg b5 7 (λn=>ay n 6) (wz 5 (5,d,q,k,o) e.2) (λ(_:qv e.1.2.2.2) n=>[bh e.2,bh e.2].getD (n-7) .any) (λu=>qm l i b (5,d,q,k,o) b.1 e.1 u.1) a a a a a a wG wE wH ?_;intro u;refine g.bf (pG l i b (5,d,q,k,o)++lq e.1.2.2.1 e.1.2.2.2++[pV b.1 e.1.1 e.1.2.1,.M,.M,.M,.M]) a ud ?_;exact wD
section
variable {q:ag T}
abbrev E7(a:dG)(d b:Nat):n Q:=.c (.int .i64 a.1)::([cJ a2 a.2.1.1.1,cJ bi a.2.1.1.2.1,cJ a1 a.2.1.1.2.2,cJ aC a.2.1.2.1,.w d 1 (c a.2.1.2.2) (aC.fn a.2.1.2.2)]++vA a.2.2.1++[.S b (.C 2 2 0 2),.S (b+1) (.C 2 1 0 2)])
def UD(a)(e:p9 a.2.1)(b:c a.2.2.2.1=2)(d:c a.2.2.2.2=2):Y q 18 [ep a] [] (.p (.agg (E7 a 0 1))) ([hR a.2.1]++g8 a.2):=by have:=vd (q:=q) a e x x;simp only[zQ,Cj,b,d]at this;exact this
abbrev m1(b:dG)(a:fK):n an:=[.cells 35 (hY b),po a,fI]
abbrev yV:an:=.J λ_ _=>False
def abo(t:bd (l++[yV]) b):False:=by have a:c l<c b.t:=Fh;obtain⟨_,d,_⟩:=t.box (c l) yV _ w8 (bG a);exact d.elim
def El(a:dG)(b:fK)(h:Option Bool)(g d e:Bool):n an:=
 match h with
 |none=>match d with
  |false=>m1 a b
  |true=>m1 a b++[fI]
 |some m=>match g,d,e with
  |false,v,_=>m1 a b++[fI,hR a.2.1]++g8 a.2++[yV]
  |true,v,_=>m1 a b++[fI,hR a.2.1]++g8 (cw a.1 a.2 b).1++[yV]
  |false,m,_=>m1 a b++[fI,hR a.2.1]++g8 a.2
  |true,m,v=>m1 a b++[fI,hR a.2.1]++g8 (cw a.1 a.2 b).1
  |true,m,m=>m1 a b++[.cells 35 (gM a.1 (cw a.1 a.2 b).1.1 (cw a.1 a.2 b).1.2.1 5),hR a.2.1]++g8 (cw a.1 a.2 b).1
 |some v=>match g,d,e with
  |false,v,_=>m1 a b++[hR a.2.1]++g8 a.2
  |false,m,_=>m1 a b++[hR a.2.1]++g8 a.2++[fI]
  |true,v,_=>m1 a b++[hR a.2.1]++g8 (cw a.1 a.2 b).1
  |true,m,v=>m1 a b++[hR a.2.1]++g8 (cw a.1 a.2 b).1++[fI]
  |true,m,m=>m1 a b++[hR a.2.1]++g8 (cw a.1 a.2 b).1++[.cells 35 (gM a.1 (cw a.1 a.2 b).1.1 (cw a.1 a.2 b).1.2.1 4)]
def q6(a:dG)(b:fK)(e:Option Bool)(d:Nat):y:=
 match e with
 |none=>[ep a,.any,lS b,.any,.any,.any,.any,aD 3 0,.any,.any].getD d .any
 |some m=>[ep a,.p (.agg (E7 a 4 5)),lS b,.ae [.agg (gM a.1 (cw a.1 a.2 b).1.1 (cw a.1 a.2 b).1.2.1 5),.R (.c (.bool (cw a.1 a.2 b).2))],.ae [.agg (gM a.1 (cw a.1 a.2 b).1.1 (cw a.1 a.2 b).1.2.1 5),.R (.c (.bool (cw a.1 a.2 b).2))],.p (.agg (gM a.1 (cw a.1 a.2 b).1.1 (cw a.1 a.2 b).1.2.1 5)),bh (cw a.1 a.2 b).2,aD 3 0,.any,bh (cw a.1 a.2 b).2].getD d .any
 |some v=>[ep a,.p (.agg (E7 a 3 4)),lS b,.ae [.agg (gM a.1 (cw a.1 a.2 b).1.1 (cw a.1 a.2 b).1.2.1 4),.R (.c (.bool (cw a.1 a.2 b).2))],.ae [.agg (gM a.1 (cw a.1 a.2 b).1.1 (cw a.1 a.2 b).1.2.1 4),.R (.c (.bool (cw a.1 a.2 b).2))],.p (.agg (gM a.1 (cw a.1 a.2 b).1.1 (cw a.1 a.2 b).1.2.1 4)),bh (cw a.1 a.2 b).2,aD 6 0,.any,bh (cw a.1 a.2 b).2].getD d .any
def NK{S:Prop}(t:S:=by intro I w i r;rcases I with _|u<;>(try cases u)<;>cases w<;>cases i<;>cases r<;>rfl):S:=t
def zS{S:Prop}(t:S:=by intro u w i r;cases u<;>cases w<;>cases i<;>cases r<;>rfl):S:=t
def fS.j_{b}(a:fS j b)(d:j<=1001):p9 b.1:=a.a.ca x
set_option maxRecDepth 20000 in
theorem Yq(b)(h)(j)(N:fo (6000+240*j) b.2.1)(G:j<=1000):
  Y q 6 [ep b,lS h] [] (tV (iw b h)) []:=by
 refine Y.bm ba func6 rfl rfl rfl λH=>?_;have r:a9 q [(9,d8 [ep b] (bh (fa b)))]:=.cons (eg (Jy b (N.ca x).b')) .nil;unfold iw;cases bT:fa b with
 |false=>
  exact bf r [10] a kE O9
 |true=>
 obtain⟨S,O,ah⟩:=t0 bT;have ab:fS j b.2:=⟨N,S,O⟩;have ad:=N.ca x
 rw[br a];have Q:=UD (q:=q) b ad S O;have k:=I0 (q:=q) b.1 b.2 h j ab G;have I:fS (j+1) (cw b.1 b.2 h).1:=ab.do;refine bf r [-10,903] a kE ?_;refine g.g' b5 (q6 b h) (mo (El b h) 3 7 8) (mi Bool 1) p a a a a a
   ⟨.fS ba r NK,
   eD.iR a a a a a (λi u=>u=i) (λi u K J=>by
    subst K
    match J with
    |0=>exact .inr (.inr (.inr zU))
    |1=>exact .inl rfl
    |2=>exact .inr (.inr (.inr zU))
    |3=>exact .inr (.inl rfl)
    |4=>exact .inr (.inl rfl)
    |5=>exact .inr (.inl rfl)
    |6=>exact .inr (.inl rfl)
    |7=>cases u with
     |false=>exact .inr (.inr (.inl ⟨rfl,rfl⟩))
     |true=>exact .inr (.inr (.inr rfl))
    |8=>exact .inr (.inr (.inr zU))
    |9=>exact .inr (.inl rfl)
    |J+10=>exact .inr (.inr (.inr zU))) (λi=>by
     intro aa w V M dp X z T W e K D A;cases i
     .exact dx.dp Q.tocF [] a a a a a a a bm a bm aa w V M dp X z T W e K D λ_ R t l n o=>A ⟨v,a⟩ R t l n o
     .exact dx.dp Q.tocF [] a a a a a a a bm a bm aa w V M dp X z T W e K D λ_ R t l n o=>A ⟨m,a⟩ R t l n o),
   .fS ba r NK,
   eD.g1 a a a a a (λu w=>aJ.dK (by
    cases u
    .cases w
     .exact P2
     exact P2
    .cases w
     .exact dx.b0 k.tocF [5,6] a a a a E a a a bm a bm
     .exact dx.b0 k.tocF [5,6] a a a a E a a a bm a bm)),
   .dX ba r zS,
   .dX ba r zS,
   .dX ba r zS,
   eD.g2 rfl rfl rfl rfl (λF w=>by rcases F with _|J<;>(try cases J)<;>cases w<;>first|exact dS (bg:=[]) ba r (ao:=f _) rfl C|exactλ_ _ _ M=>(abo M).elim),
   eD.g3 a a a a a a (λu=>by cases u<;>exact dS (bg:=[]) ba r (ao:=f _) a C),
   .dX ba r zS,C⟩ ?_
 intro F y ae B;have ag:F.isSome=m:=(show F.isSome=y 1 from ae).trans (B 1 b9);have d:=I.bl;have s:=I.b9;have Z:=UC (q:=q) (b.1,(cw b.1 b.2 h).1) (I.j_ x) (by simp only;omega) (by simp only;omega);cases F with
 |none=>cases ag
 |some u=>
 show g q _ _ _ _ _ (El b h (f u) (y 3) (y 7) (y 8));rw[B 3 b9,B 7 b9,B 8 b9];cases u with
 |false=>
  refine qV r [] 1 a C (g.bC 4 a a a E E (g.bC 5 a a a E E (cK r a C (g.b0 Z.tocF [] a a a a PA a a a bm a bm a ?_))));exact Rp
 |true=>
  refine qV r [] 1 a C (g.bC 5 a a a E E (g.bC 6 a a a E E (cK r a C (g.b0 Z.tocF [] a a a a PA a a a bm a bm a ?_))));exact Rp
end
section
variable {q:ag T}
def CA(b)(e:dL b.2.1.1)(i:c b.2.2.2.1<=4000000):Y q 8 [ep b,ep b] [] (bh m) []:=by
 refine Y.K func8 rfl λj=>?_;have w:a9 q [(26,d8 [gn b.2.1,gn b.2.1] (bh m)),(27,xJ)]:=.cons (eg (V7 b.2.1 e)) (.cons EQ .nil);refine bf w [-11,-19,-26,-35,-42] a (by simp[aC.U,aC.m]) (g.aE 2 (λd=>d<=c b.2.2.2.1) (λd:Nat=>[(2,aD 0 0),(3,aD 1 0),(5,R d)]) (λ_=>[.cells 35 (hY b),.cells 35 (hY b)]) (λd=>c b.2.2.2.1-d) 0 a E a E a x ?_);intro d h;by_cases k:d<c b.2.2.2.1
 .refine bf w [47,-60] a ?_ (g.ax (d+1) a ?_ ?_ ?_ ?_)
  .simp only[U,a7,fT,fq,ip,bA,a',a_];and_intros<;>first|omega|rfl|simp
  .simp
  .simp
  .grind
  omega
 refine bf w [-47] a bW (g.aB ?_);exact wI
end
structure rj where
 cC:n0 0
 p:{S:fK×Nat // Au cC.k1 S}
abbrev rj.a(a:rj):dG:=a.cC.a
abbrev rj.fD(a:rj):fK:=a.p.1.1
section
variable {q:ag T}[q.b8]
set_option maxRecDepth 20000 in
def I1(z)(d:Nat->Int)(k:Bytes d)(l:z<=1048576):
  bk (ι:=rj) q 5 [aw (.C v 1 z (ni d))] [] (λj=>.ae [.agg (hY j.a),.agg (Cs j.fD)]) (λ_=>[]):=by
 refine bk.hh func5 rfl rfl (fe rfl) (g.aT ?_);refine aZ a C (g.a8 (WY z d l) [] a bm ?_);rintro⟨h,b⟩;refine aZ a C (g.a8 (Yo h d k 0 x b) [2] a bm ?_);intro e;have o:=e.gn;refine aZ a C (g.a8 (I2 h d k e.k1 x b) [2] a bm ?_);intro i;refine aZ a C (g.bC 4 a a a E E (g.bC 5 a a a E E (g.bf [.cells 35 (hY e.a),po i.1.1,ej h d i.1.2,hR e.a.2.1,.M,.M] a ?_ ?_)))
 .simp[hA]
 refine g.freeze 2 0 a a a ?_;refine g.freeze 3 1 a a a ?_;refine g.bU (λ_ _ _ n=>⟨⟨e,i⟩,n⟩) ?_;exact QG
end
def n0.eM(a:n0 0):fo (6000+240*8) a.a.2.1:=by rw[(EB a.v (fV a.dQ)).1];exact(vX a.dQ).a.mono (by have:=a.gq;omega)
structure F'(J:dG)(aj:fK):Prop where
 bc:∀{q:ag T},Y q 6 [ep J,lS aj] [] (tV (iw J aj)) []
 a_:∀IF IG,Y (ag.aJ T) 7 [ep J,lS aj] (i' IF IG) (tV (iw J aj)) (i' IF IG)
 hj:∀{q:ag T},Y q 8 [ep (iw J aj).1,ep (iw J aj).1] [] (bh m) []
 ok:∀{q:ag T},Y q 9 [ep J] [] (bh (fa J)) []
 jk:∀{q:ag T},fa J=m->Y q 8 [ep J,ep J] [] (bh m) []
 kp:fa J=m->fS 1001 (cw J.1 J.2 aj).1
 eM:fo (6000+240*8) J.2.1
def Cn{J}{aj}(b:fo (6000+240*8) J.2.1):F' J aj:=by
 have e:fa J=m->fS 8 J.2:=λa=>⟨b,(t0 a).1,(t0 a).2.1⟩
 have d:fa J=m->fS 9 (cw J.1 J.2 aj).1:=λa=>(e a).do;refine⟨Yq J aj 8 b x,λh g=>Yp h g J aj 8 b x,?_,Jy J (b.ca x).b',λa=>?_,λa=>(d a).mono x,b⟩
 .unfold iw;cases a:fa J with
  |false=>exact CA NQ ⟨by simp,by simp,by simp,by simp[kx],by simp⟩ E
  |true=>exact CA (J.1,(cw J.1 J.2 aj).1) (d a).a.bc.dZ (by have:=(d a).bl;simp only;omega)
 .exact CA J b.bc.dZ (by have:=(e a).bl;omega)
def rj.do(a:rj):F' a.a a.fD:=Cn a.cC.eM
end R1
end Go.AM
