/- Part 6. No condition. -/
import Derived.Test.YtonljemllpgcbaaGreatDoorA5
set_option linter.all false
set_option maxHeartbeats 8000000
open Go.Proofs
open Go.Proofs.Tryz
open List renaming length → c, range → az, getD_eq_getElem?_getD → aj, all_eq_true → aX
open Go renaming Value → X, TypeId → al, World → ar, Frame → aG, Operand → ae, Program → aE, Goroutine → ai, Oper → ao
open Option renaming some → f, none → n
open Bool renaming true → l, false → v
open Nat renaming ble → ay
open Go.Proofs.Tryz renaming prog → V
namespace Go.AM
variable {j z:Nat}{h:Int}{d i e t:Nat}{W:al}{H:X->(Nat->Option Obj)->Prop}{L:Array Bool}{bz:Mem}{E:Nat}{P:aE}{br:ai->a6->Prop}{r:Code}{B:ai}{q:ao}{b:a6}{o:al}{aa:X}{α:Type}{η:ae->x}{ι:Type}{k:m ap}{F:bJ}{all:m ao}{ds:Array al}{cap:m K}{cQ:m x}{k5:Nat->Option Obj}{ag:m aG}{bf:m (Nat×Bool)}{U:Nat->m K}{cP:ae}{gs:Array ai}{aU:m Nat}{cl:m Prop}{off:Nat}{op:BinOp}{aM:Array ao}{Y:m Prop}{bq:m ao}{aB:a6}{ty:al}{val:Nat->Nat->X}{y:m X}{bg:ar}{af:Array ae}{an dh:m ap}{res:ι->x}{aQ:ι->m ap}
variable {CT:m (Nat×bK)}{av:m im}{bd:fw}{ac:m (Nat×cm)}{a4:cm}
namespace R1
def AI{j}{d}{b}(g:∀h,h<b->d.getD h 0<j)(e:b<c d->j<=d.getD b 0):∀a,a<=c d->(fz j d a).2=decide (b<a)
 |0,_=>by simp[fz]
 |a+1,p=>by
  have m:=AI g e a u;rw[w0 u];generalize fz j d a=k at *;unfold gp;by_cases o:b<a
  .grind
  by_cases i:b=a
  .subst i;have:=e u;grind
  have:=g a u;grind
def R2{j}{d}{a}(g:∀i,i<a->d.getD i 0<j)(b:a<c d->j<=d.getD a 0)(h:e<c d):
  (fz j d (e+1)).1=(fz j d e).1++(if e=a then[j]else[])++(if d.getD e 0≠j then[d.getD e 0]else[]):=by
 have o:=AI g b e u;rw[w0 h];generalize fz j d e=m at *;unfold gp;by_cases p:a<e
 .grind
 by_cases k:a=e
 .subst k;have:=b h;grind
 have:=g e u;grind
def Y5{j}{d}{a}(e:∀b,b<a->d.getD b 0<j)(g:a<c d->j<=d.getD a 0)(i:a<=c d):e4 d j=(fz j d (c d)).1++(if a=c d then[j]else[]):=by
 have:=AI e g (c d) (bA _);have h:fz j d (c d)=d.foldl (gp j) ([],v):=by unfold fz;rw[cY]
 unfold e4;rw[<-h];grind
section
variable {p:ah V}
def U9(d)(i)(ag)(h:Int->Bool)(w:∀j,j∈d->Z p i [R j,ax (.O ag)] [] (bh (h j)) []):
  Z p 108 [aA.A d,ax (.fn (.func i) [] [.O ag])] [] (R (gR h d)) []:=by
 refine Z.I func108 rfl λt=>?_;have y:=t.A 0 a;refine aO a A (g.aC 0 (λb=>b<=c d/\∀e,e<b->h (d.getD e 0)=v) (λb:Nat=>[(0,aA.A d),(1,ax (.fn (.func i) [] [.O ag])),(7,R (c d)),(8,R b)]) (λ_=>[]) (λb=>c d-b) 0 a C a A a ⟨by omega,by omega⟩ ?_);rintro b ⟨s,k⟩;by_cases r:b<c d
 .have q:d.getD b 0∈d:=M;have m:d.getD (b:Int).toNat aA.D=d.getD b 0:=M;refine a5 [9] a pG ?_;rw[m];refine g.aA (w _ q) [] a ?_;cases x:h (d.getD b 0)with
  |true=>
   refine a5 [16] a C (g.aT (bY.zero a ?_));simp[s4 r x k]
  |false=>
   exact a5 [-16] a kT (g.aw (b+1) a C A M u)
 refine a5 [-9] a bQ (g.az ?_);refine aO a A (g.aq a ?_);simp[s5 (o:=d) (N:=0) (λe z=>k e u)]
def Wf(z j):Z p 120 [R z,ax (.O [.int .i64 j])] [] (bh (decide (j<=z))) []:=by refine Z.I func120 rfl λb=>?_;exact aO a A (g.aq a)
abbrev X9(a:m Int)(b:Int)(d:Nat):bJ:=[(0,aA.A a),(3,ax (.O [.int .i64 b])),(5,R d)]
def Wg(d)(j)(F:c d<=100000000):Z p 83 [aA.A d,R j] [] (aA.A (e4 d j)) []:=by
 refine Z.I func83 rfl λE=>?_;refine a5 [901] a A (g.freeze 3 0 a a a ?_);refine aO a A (g.aA (U9 d 120 [.int .i64 j] (λm=>decide (j<=m)) λm _=>Wf m j) [] a ?_);obtain⟨b,z,x,w,N⟩:∃b:Nat,b<=c d/\(∀q,q<b->d.getD q 0<j)/\(b<c d->j<=d.getD b 0)/\gR (λm=>decide (j<=m)) d=if b<c d then(b:Int)else -1:=by
  rcases yq (λm=>decide (j<=m)) d with⟨r,h⟩|⟨e,k,r,h,aa⟩
  .refine⟨c d,bA _,λq B=>?_,λh=>absurd h (wV _),by rw[r,bm (wV _)]⟩;have:=h (d.getD q 0) M;simp at this;grind
  refine⟨e,by omega,λq B=>?_,λ_=>?_,by rw[r,bo k]⟩
  .have:=h (d.getD q 0) (by grind[List.mem_take_iff_getElem]);simp at this;grind
  grind
 rw[N];apply g.cf (X9 d j b) [.M]
 .intro dw;by_cases t:b<c d
  .rw[bo t];exact a5 [-13,904] a C ky
  rw[bm t];obtain rfl:b=c d:=u;exact a5 [13,904] a C ky
 refine a5 [905] a A (g.bB 6 3 1 a a ?_);refine aO a A ?_;refine g.aC 2 (λe=>e<=c d) (λe:Nat=>[(0,aA.A d),(3,ax (.O [.int .i64 j])),(5,R b),(6,.n (.R (.w 1 1 (fz j d e).1.length (aA.fn (fz j d e).1)))),(16,aA.A d),(17,R (c d)),(18,R e)])
  (λe=>[.M,.w 3 1 (fz j d e).1.length (aA.fn (fz j d e).1)]) (λe=>c d-e) 0 a ?_ a ?_ a u ?_
 .simp[fz]
 .simp[fz]
 intro e k;have D:=wZ j d e k;by_cases h:e<c d
 .have i:=R2 x w h;have ak:d.getD (e:Int).toNat aA.D=d.getD e 0:=rfl;generalize fz j d e=o at *;have I:c o.1<=e+1:=u;generalize d.getD e 0=s at *;by_cases g9:e=b<;>by_cases iN:s=j
  .rw[bo g9,bm z1,hp]at i;have N:=aA.aW o.1 j;refine bR [19,25,-32] a zP (g.aw (e+1) a ?_ ?_ h u)
   .rw[i];simp;exact N
   rw[i];simp;exact N
  .rw[bo g9,bo z1]at i;have N:=aA.eZ o.1 j s;refine bR [19,25,32] a zP (g.aw (e+1) a zH ?_ h u);exact zH
  .rw[bm g9,bm z1,hp,hp]at i;refine bR [19,-25,-32] a zP (g.aw (e+1) a ?_ ?_ h u)
   .rw[i];simp
   rw[i];simp
  rw[bm g9,bo z1,hp]at i;have N:=aA.aW o.1 s;refine bR [19,-25,32] a zP (g.aw (e+1) a zH ?_ h u);exact zH
 obtain rfl:e=c d:=u;have y:=Y5 x w z;rw[y];generalize fz j d (c d)=o at *;refine bR [-19] a C (g.az ?_);by_cases g9:b=c d
 .rw[bo g9];have N:=aA.aW o.1 j;refine bR [41] a Ob (g.aq a ?_);simp;exact N
 rw[bm g9,hp];refine bR [-41] a Ob (g.aq a ?_);simp
end
def KA{h}{d}:∀(a b:m bC),b.Nodup->(a.foldl (e6 h d) b).Nodup
 |[],b,e=>e
 |g::a,b,e=>by rw[iL];refine KA a _ ?_;unfold e6;grind
def D8(h)(o)(d):(fV h o d).Nodup:=KA _ _ List.nodup_nil
theorem DI{d}{b a}:a∈fB d b↔a=b∨a∈d:=by
 induction d with
 |nil=>simp[fB]
 |cons g h e=>simp[fB];split<;>simp[e,or_left_comm,or_assoc]
def aaz{d}{e}(h:d.Pairwise λa b=>a.1<b.1)(g:∀i∈d,i.1≠e.1):(fB d e).Pairwise λa b=>a.1<b.1:=by
 induction d with
 |nil=>simp[fB]
 |cons a p j=>
  obtain⟨o,m⟩:=iH.1 h;have k:=g a ir;simp[fB];grind[List.pairwise_cons,DI]
def Dg:∀(d e:m cX),e.Pairwise (λa b=>a.1<b.1)->d.Pairwise (λa b=>a.1≠b.1)->(∀a∈d,∀b∈e,b.1≠a.1)->(d.foldl fB e).Pairwise λa b=>a.1<b.1
 |[],_,g,_,_=>g
 |a::d,e,g,h,i=>by obtain⟨d1,d2⟩:=iH.1 h;refine Dg d _ (aaz g (i a ir)) d2 λo k b j=>?_;grind[DI]
theorem yC(h)(cR):h9 h cR=(cR.map (gD h)).foldl fB []:=by unfold h9;rw[List.foldl_map];rfl
theorem Dj{a:m bC}(b:cj h=l)(d:∀q∈a,cC q=l)(k:a.Nodup):(a.map (gD h)).Pairwise λr s=>r.1≠s.1:=by rw[rb];refine List.Pairwise.imp_of_mem (λ{e g} o p i j=>i ?_) k;exact yE b (d e o) (d g p) j
theorem KX{bN}{cR}(a:cj h=l)(e:∀b∈cR,cC b=l)(d:cR.Nodup)(g:c cR<=4):tk bN h cR=jP bN h cR:=by
 show(bN,l4 (cR.map (gD h)))=(bN,h9 h cR)
 grind[aay,Dj,yC]
theorem Dy{bN}{cR}(b:cj h=l)(e:∀m∈cR,cC m=l)(i:cR.Nodup)(r:1<=c cR)(q:c cR<=4):ia h (jP bN h cR)=decide (1<=bN/\bN<=99):=by
 have p:c (h9 h cR)=c cR:=Dh h cR;rw[oV,yP,bw];constructor
 .exact λd=>d.c0
 intro d;refine⟨d,b,by show 1<=c (h9 h cR)/\_;rw[show(jP bN h cR).2=h9 h cR from a];omega,λo j=>?_,?_⟩
 .obtain⟨k,g,rfl⟩:=ZD (show o∈h9 h cR from j);have:=aab (e k g);simp[right,this]
 show (h9 h cR).Pairwise _;rw[yC];exact Dg _ _ List.Pairwise.nil (Dj b e i) C
def yQ(h):∀e a(b:m bC),c b<=e->ga h e a b=(az ((c b+3) / 4)).map λd:Nat=>jP (a+d) h (gO b d)
 |0,a,b,j=>by have:c b=0:=u;exact bG
 |e+1,a,b,j=>by
  simp[ga];by_cases g:0<c b
  .rw[bo g,yQ h e (a+1) (b.drop 4) M];have i:(c b+3) / 4=(c (b.drop 4)+3) / 4+1:=M;rw[i,wO,me,ux];congr 1
   .simp[gO]
   refine p0 λd _=>?_;show jP (a+1+(d:Nat)) h (((b.drop 4).drop (4*d)).take 4)=jP (a+((d+1:Nat):Int)) h ((b.drop (4*(d+1))).take 4);grind[List.drop_drop]
  grind
def BE{d}(e:∀a∈d,cC a=l)(b:d.Nodup)(h:t<(c d+3) / 4):(∀a∈gO d t,cC a=l)/\(gO d t).Nodup/\1<=c (gO d t)/\c (gO d t)<=4:=
 ⟨λa g=>e a (p3 (gY g)),(b.sublist (List.drop_sublist _ _)).sublist (List.take_sublist _ _),by simp[gO];omega,by simp[gO];omega⟩
def JG{b}{d}(o:cj h=l)(e:∀p∈d,cC p=l)(a:d.Nodup)(g:t<(c d+3) / 4):nl h b d t=(decide (1<=di b+(t:Int)/\di b+(t:Int)<=99)&&!(c b.1+t==20)):=by obtain⟨i,j,k,m⟩:=BE e a g;unfold nl l0;grind[KX,Dy]
def Zu{b}{a:m bC}(d:cj h=l)(q:∀u∈a,cC u=l)(p:a.Nodup)(t:∀e,e<(c a+3) / 4->nl h b a e=l):jr h b a ((c a+3) / 4)=ga h (c a) (di b) a:=by
 rw[yQ h _ _ _ (bA _)];refine p0 λe g=>?_;have g:=re.1 g;obtain⟨i,j,o,k⟩:=BE q p g;have s:=t e g;have r:ia h (jP (di b+(e:Int)) h (gO a e))=l:=by rw[Dy d i j o k];rw[JG d q p g]at s;grind
 unfold l0;rw[KX d i j k,bo r]
def jz.hK{h}{b}(d:jz h b):1<=di b/\di b<=100:=by
 unfold R1.di;split
 .omega
 rename_i a;have:=(d.cq _ (CJ a (0,[]))).c0;omega
def Y2(h)(b)(a)(o):qr h b a o=D' h b a o:=by
 unfold qr D';by_cases i:hY h b=l/\(a=1∨a=2)/\dN o=l
 .rw[bo i,bo ⟨i.1,by omega,i.2.2⟩];have g:=rZ.1 i.1;have x:=g.hK;have M:c b.2.2<=9:=by have:=g.dn;simp[f',cn,bw]at this;omega
  have I:=g.len;have z:=(qJ (h:=h) (d:=eB b.1) (oE i.2.2)).1;have s:=D8 h o (eB b.1);have r:c (kp h b o)=(c (fV h o (eB b.1))+3) / 4:=by unfold kp;rw[yQ _ _ _ _ (bA _)];simp
  have B:kp h b o=ga h (c (fV h o (eB b.1))) (di b) (fV h o (eB b.1)):=rfl;unfold ps;simp only;generalize fV h o (eB b.1)=d at *;obtain⟨K,E,O,D⟩:=Ef (nl h b d) ((c d+3) / 4) 0;generalize mQ (nl h b d) ((c d+3) / 4) 0=m at *;have C:∀e,e<(c d+3) / 4->nl h b d e=(decide (1<=di b+(e:Int)/\di b+(e:Int)<=99)&&!(c b.1+e==20)):=λe k=>JG g.key z s k;by_cases p:m<(c d+3) / 4
  .rw[bo p];have w:=D u;rw[C m p]at w;have j:fr h b o=l:=by simp[fr,jC,bw,r];simp[Ao,dp,Ap,gL]at w;omega
   grind
  rw[bm p];obtain rfl:m=(c d+3) / 4:=u;have q:∀e,e<(c d+3) / 4->1<=di b+(e:Int)/\di b+(e:Int)<=99/\c b.1+e≠20:=λe k=>by grind
  have J:c b.1+(c d+3) / 4<=20:=by refine Nat.le_of_not_lt λF=>?_;exact(q (20-c b.1) u).2.2 u
  have N:di b+(((c d+3) / 4:Nat):Int)-1<=99:=by
   rcases nZ ((c d+3) / 4)with A|A
   .grind
   have:=(q ((c d+3) / 4-1) u).2.1;omega
  by_cases y:20<dr b
  .rw[bo y];have j:fr h b o=l:=NH;grind
  rw[bm y];by_cases t:c b.2.2=9
  .rw[bo t];have j:fr h b o=l:=NH;grind
  rw[bm t];have j:fr h b o=v:=by simp[fr,wQ,dp,r];omega
  rw[j];simp only[ft,B,Zu g.key z s λe k=>O e (gZ _) k,is];rfl
 grind
theorem Ly{d}{e a}(b:a∈ea d e):a=e∨a∈d:=by
 induction d with
 |nil=>simpa[ea]using b
 |cons g i h=>
  simp only[ea]at b;grind
def aaD{d}{i}(h:d.Pairwise λa b=>a.1<b.1):(ea d i).Pairwise λa b=>a.1<b.1:=by
 induction d with
 |nil=>simp[ea]
 |cons a m e=>
  obtain⟨k,g⟩:=iH.1 h;simp only[ea];split
  .rename_i r;refine iH.2 ⟨λo j=>?_,e g⟩;grind[Ly]
  grind[List.pairwise_cons]
def CI:∀(d a:m fg),(∀b∈d,fX b=l)->(∀b∈a,fX b=l)->a.Pairwise (λa e=>a.1<e.1)->(∀b∈d.foldl ea a,fX b=l)/\(d.foldl ea a).Pairwise λa e=>a.1<e.1
 |[],a,_,h,g=>⟨h,g⟩
 |b::d,a,k,h,g=>CI d (ea a b) (λj i=>k j (mg _ i)) (λj i=>by grind[Ly]) (aaD g)
theorem ZS{d}(g:∀j∈d,fX j=l)(k:d.Pairwise λb e=>b.1<e.1):kP d (c d)=l:=by
 refine fZ.2 λi h=>?_;rw[cn];refine⟨g _ M,?_⟩;rcases nZ i with a|a
 .simp[a]
 rw[jC];exact Fh
def Y4(a:m b'):kP (eB a) (c (eB a))=l:=by
 unfold eB;split
 .rename_i b;obtain⟨d,e⟩:=CI (dE a) [] (aX.1 b) C List.Pairwise.nil;grind[ZS]
 rfl
def abO{d}(a:∀j∈d,c j.2<=4):c (dE d)<=4*c d:=by
 induction d with
 |nil=>simp[dE]
 |cons h m e=>
  have b:=e λi g=>a i (mg _ g);have k:=a h ir;simp only[dE,sq,df,kE,fh]at b⊢;omega
def jz.h0{h}{b}(e:jz h b)(a:mb b):1<=dr b:=by have d:=s0 b.2.2 a.aL;unfold R1.dr;split<;>omega
def jz.cM{b}(a:jz h b)(d:mb b):FU h b:=by refine⟨a.key,?_,Y4 _,a.dn,a.h0 d⟩;have:=abO λg e=>(a.cq g e).len.2;have:=a.len;omega
def abL{b}{a}{o}(d:hY h b=l)(e:1<=a/\a<=2)(g:dN o=l):D' h b a o=(if fr h b o=l then b else ft h b a o,!fr h b o):=bo ⟨d,e,g⟩
def Kz{h}{d}:∀(b e:m bC)a,a∈b.foldl (e6 h d) e↔a∈e∨(a∈b/\iW d (dY h a)=0)
 |[],e,a=>by simp
 |o::b,e,a=>by
  rw[iL,Kz b];unfold e6;split
  .rename_i i;simp[cn,gL]at i;grind
  rename_i i;simp only[cn,gL,je]at i;by_cases k:a=o
  .subst k;by_cases g:iW d (dY h a)=0
   .have:e.contains a=l:=by
     cases j:e.contains a with
     |true=>rfl
     |false=>exact absurd ⟨g,j⟩ i
    have:a∈e:=by simpa using this
    grind
   grind
  grind
def zf{o}{b:m fg}{a}:a∈fV h o b↔(∃d∈o,a∈ck d.2)/\iW b (dY h a)=0:=by unfold fV;rw[Kz];simp
def aaE{d}{e}{j}:(∃b∈ea d e,b.1=j)↔j=e.1∨∃b∈d,b.1=j:=by
 induction d with
 |nil=>simp[ea,eq_comm]
 |cons k m h=>
  simp only[ea];split
  .simp only[e8,exists_eq_or_imp,h];grind
  constructor
  .rintro⟨b,i,rfl⟩;rcases e8.1 i with rfl|i
   .omega
   exact .inr ⟨b,(iK.1 i).1,a⟩
  rintro(rfl|⟨b,i,rfl⟩)
  .exact⟨e,ir,a⟩
  by_cases g:b.1=e.1
  .exact⟨e,ir,g.symm⟩
  exact⟨b,mg _ (iK.2 ⟨i,by simpa using g⟩),a⟩
def Ju:∀(e d:m fg) a,(∃b∈e.foldl ea d,b.1=a)↔(∃b∈e,b.1=a)∨∃b∈d,b.1=a
 |[],d,a=>by simp
 |g::e,d,a=>by rw[iL,Ju e,aaE];grind
def aaZ{e}(b:right h e=l):∃d,cC d=l/\e.1=dY h d:=by
 unfold right at b;split at b
 .rename_i d a;unfold hJ at a;split at a
  .rename_i i;cases a;simp[cn]at i;exact⟨_,i.1,(by simpa using b:dY h _=e.1).symm⟩
  cases a
 cases b
def abP{Y}(e:∀a∈Y,nV h a):(dE Y).all fX=l:=by refine aX.2 λp b=>?_;obtain⟨a,d,b⟩:=rf.1 b;obtain⟨j,g,rfl⟩:=hq.1 b;obtain⟨o,m,i⟩:=aaZ ((e a d).gE j g);have k:=(e a d).c0;simp[fX,cn,bw,i,dY];omega
def J0{e:m b'}(w:∀k∈e,nV h k)(g:Int):iW (eB e) g=0↔g∉cr e:=by
 have t:=abP w;unfold eB;rw[bo t];have j:=Ju (dE e) [] g;have s:(∃r∈dE e,r.1=g)↔g∈cr e:=by
  simp only[dE,cr,rf,hq];constructor
  .rintro⟨_,⟨k,o,q,p,rfl⟩,rfl⟩;exact⟨k,o,q,p,a⟩
  rintro⟨k,o,q,p,rfl⟩;exact⟨_,⟨k,o,q,p,a⟩,a⟩
 have x:=(CI (dE e) [] (aX.1 t) C List.Pairwise.nil).1;generalize(dE e).foldl ea []=d at *;unfold iW;split
 .rename_i b i;have z:=x b (wN i);have A:b.1=g:=NT;have:g∈cr e:=by rw[<-s];have:=j.1 ⟨b,wN i,A⟩;simpa using this
  simp[fX,cn,bw]at z;grind
 rename_i i;have B:=List.find?_eq_none.1 i;refine⟨λ_ u=>?_,λ_=>rfl⟩;obtain⟨r,y,au⟩:=j.2 (.inl (s.2 u));exact B r y aec
def Di{cR}{b}:b∈h9 h cR↔∃g∈cR,b=gD h g:=by
 rw[yC];have:∀(a d:m cX),b∈a.foldl fB d↔b∈a∨b∈d:=by
  intro a;induction a with
  |nil=>simp
  |cons i a e=>intro d;rw[iL,e,DI];grind
 rw[this];grind
def yR{h}{j}:∀g d(b:m bC),c b<=g->(j∈cr (ga h g d b)↔∃e∈b,dY h e=j)
 |0,d,b,p=>by have:b=[]:=List.length_eq_zero_iff.1 u;subst this;simp[ga,cr]
 |g+1,d,b,p=>by
  simp[ga];split
  .have i:=yR (h:=h) (j:=j) g (d+1) (b.drop 4) bQ;have o:cr (jP d h (b.take 4)::ga h g (d+1) (b.drop 4))=(h9 h (b.take 4)).map (·.1)++cr (ga h g (d+1) (b.drop 4)):=bG;rw[o,fy,i];have:(j∈(h9 h (b.take 4)).map (·.1))↔∃e∈b.take 4,dY h e=j:=by
    rw[hq];constructor
    .rintro⟨q,r,rfl⟩;obtain⟨e,k,rfl⟩:=Di.1 r;exact⟨e,k,a⟩
    rintro⟨e,k,rfl⟩;exact⟨gD h e,Di.2 ⟨e,k,a⟩,a⟩
   rw[this];conv=>rhs;rw[<-uy 4 b]
   grind
  have:b=[]:=List.length_eq_zero_iff.1 u;subst this;simp[cr]
def K2{h}(j:cj h=l):∀i b(d:m bC),c d<=i->(∀e∈d,cC e=l)->d.Nodup->(cr (ga h i b d)).Nodup
 |0,b,d,r,_,_=>by simp[ga,cr]
 |i+1,b,d,r,p,o=>by
  simp[ga];split
  .have g:cr (jP b h (d.take 4)::ga h i (b+1) (d.drop 4))=(h9 h (d.take 4)).map (·.1)++cr (ga h i (b+1) (d.drop 4)):=bG;have t:(h9 h (d.take 4)).Pairwise λs z=>s.1<z.1:=by rw[yC];exact Dg _ _ List.Pairwise.nil (Dj j (λe k=>p e (gY k)) (o.sublist (List.take_sublist _ _))) C
   rw[g,List.nodup_append];refine⟨rb.2 (t.imp λr=>by omega),K2 j i _ _ bQ (λe k=>p e (p3 k)) (o.sublist (List.drop_sublist _ _)),λA w B u g=>?_⟩;subst g;obtain⟨s,x,rfl⟩:=hq.1 w;obtain⟨y,q,rfl⟩:=Di.1 x;obtain⟨e,k,g⟩:=(yR i _ _ bQ).1 u;have g:=yE j (p e (p3 k)) (p y (gY q)) g;subst g;rw[<-uy 4 d,List.nodup_append]at o;exact o.2.2 e q e k a
  exact bG
def aaj(o):(ck o).flatten=o:=by
 have:∀b a,a<=c o->c o-a<=b->(iB o b a).flatten=o.drop a:=by
  intro b;induction b with
  |zero=>intro a g e;simp[iB,F2 (show c o<=a by omega)]
  |succ b d=>
   intro a g e;simp[iB];split
   .rename_i i;obtain⟨j,h,_⟩:=rz o a i;rw[List.flatten_cons,d _ h u];conv=>rhs;rw[<-uy (en o a-a) (o.drop a),List.drop_drop,show a+(en o a-a)=en o a by omega]
   exact bu
 exact(this (c o) 0 (gZ _) u).trans C
def abG{bN}{Y}{o}(g:cj h=l)(j:dN o=l)(q:∀a∈o,∀d∈ck a.2,dg h Y (dY h d)=f d):ev h (fW bN h o) Y=f o:=by
 have e:=(zw.1 j).1;have m:∀a∈o,fI h Y (kN h a)=f a:=λa b=>by
  have p:=q a b;have x:g4 h Y (kN h a).2=f (ck a.2):=by
   unfold g4 kN;rw[bo]
   .congr 1;rw[ux];conv=>rhs;rw[<-List.map_id (ck a.2)]
    exact p0 λd i=>by simp[p d i]
   refine aX.2 λw t=>?_;obtain⟨d,i,rfl⟩:=hq.1 t;exact bG
  have u:iQ (ck a.2)=f a.2:=by unfold iQ;rw[aaj,(e a b).2];simp
  unfold fI;exact bG
 have s:fj h Y (o.map (kN h))=o:=by
  unfold fj;rw[ux];conv=>rhs;rw[<-List.map_id o]
  exact p0 λa b=>by simp[m a b]
 have r:((o.map (kN h)).all λk=>(fI h Y k).isSome)=l:=aX.2 λk e=>by obtain⟨a,b,rfl⟩:=hq.1 e;exact bG
 unfold ev fW;simp[s,r,g,j,Bool.and_self,dA]
structure j3(h:Int)(b:cz)(bV:Int)(o:m c7):Prop where
 a5:jz h b
 jC:mb b
 iA:1<=bV/\bV<=2
 fX:dN o=l
 gX:fr h b o=v
section
variable {b:cz}{bV:Int}{o:m c7}
def j3.jI(k:j3 h b bV o){e}(j:e∈o){g}(i:g∈ck e.2):cC g=l:=by have:=(qJ (h:=h) (d:=[]) (oE k.fX)).1 g;exact this (zf.2 ⟨⟨e,j,i⟩,a⟩)
def j3.hA(q:j3 h b bV o)(m:Int):m∈cr (ft h b bV o).1↔m∈cr b.1∨∃g∈o,∃d∈ck g.2,dY h d=m:=by
 have p:cr (ft h b bV o).1=cr b.1++cr (kp h b o):=by simp[ft,cr]
 rw[p,fy];unfold kp;rw[yR _ _ _ (bA _)];constructor
 .rintro(i|⟨d,e,rfl⟩)
  .exact .inl i
  obtain⟨⟨g,j,e⟩,_⟩:=zf.1 e;exact .inr ⟨g,j,d,e,a⟩
 rintro(i|⟨g,j,d,e,rfl⟩)
 .simp_all
 by_cases k:dY h d∈cr b.1
 .simp_all
 exact .inr ⟨d,zf.2 ⟨⟨g,j,e⟩,(J0 q.a5.cq _).2 k⟩,a⟩
def j3.new(g:j3 h b bV o):(∀e∈kp h b o,nV h e)/\(kp h b o).Pairwise (λe x=>e.1<x.1)/\∀e∈kp h b o,di b<=e.1:=by
 have u:=qJ (h:=h) (d:=eB b.1) (oE g.fX);have w:=D8 h o (eB b.1);have q:=g.gX;have z:=g.a5.hK;unfold fr at q;unfold kp at *;generalize fV h o (eB b.1)=d at *;rw[yQ h _ _ _ (bA _)]at *;simp[wQ,dp,kE,List.length_range]at q;refine⟨λe p=>?_,?_,λe p=>?_⟩
 .obtain⟨t,a,rfl⟩:=hq.1 p;have a:=re.1 a;obtain⟨i,j,k,m⟩:=BE u.1 w a;rw[<-yP,Dy g.a5.key i j k m,bw];omega
 .rw[rb];refine List.pairwise_lt_range.imp λ{r s} y=>?_;show di b+(r:Int)<di b+(s:Int);omega
 obtain⟨t,a,rfl⟩:=hq.1 p;show di b<=di b+(t:Int);omega
def jz.jG(i:jz h b):∀e∈b.1,e.1<R1.di b:=by
 intro e g;obtain⟨d,a,rfl⟩:=hn g;unfold R1.di;rw[bm u,sY u];by_cases j:d=c b.1-1
 .exact bG
 have:=m3.1 i.c6 d (c b.1-1) a u u;omega
def jz.j2(i:jz h b):∀e∈b.2.1,e.1<R1.dr b:=by
 intro e g;obtain⟨d,a,rfl⟩:=hn g;unfold R1.dr;rw[bm u,sY u];by_cases j:d=c b.2.1-1
 .exact bG
 have:=m3.1 i.cG d (c b.2.1-1) a u u;omega
def j3.eA(e:j3 h b bV o):∀d∈(ft h b bV o).1,nV h d:=λd a=>by
 rcases fy.1 a with a|a
 .exact e.a5.cq d a
 exact e.new.1 d a
def j3.j9(a:j3 h b bV o){bN}:ev h (fW bN h o) (ft h b bV o).1=f o:=by refine abG a.a5.key a.fX λk e m d=>?_;obtain⟨p,g⟩:=Jl a.a5.key a.eA ((a.hA _).2 (.inr ⟨k,e,m,d,rfl⟩));obtain⟨i,j,_⟩:=Cu g;rw[g,yE a.a5.key i (a.jI e d) j]
def j3.old(a:j3 h b bV o){i}{g}(j:ev h i b.1=f g):ev h i (ft h b bV o).1=f g:=
 abH (λe k=>Yi a.a5.key a.eA (λe d=>(a.hA e).2 (.inl d))) j
def j3.ok(a:j3 h b bV o):jz h (ft h b bV o):=by
 have y:=a.gX;simp[fr,wQ,dp]at y;have m:=a.new;have x:=a.a5.j2;have w:=a.a5.h0 a.jC;refine⟨a.eA,?_,?_,λB g=>?_,?_,a.a5.key,?_,by simp[ft,df];omega⟩
 .refine m5.2 ⟨a.a5.c6,m.2.1,λp j q e=>?_⟩;have:=a.a5.jG p j;have:=m.2.2 q e;omega
 .have i:cr (ft h b bV o).1=cr b.1++cr (kp h b o):=by simp[ft,cr]
  have t:=qJ (h:=h) (d:=eB b.1) (oE a.fX);rw[i,List.nodup_append];refine⟨a.a5.ax,K2 a.a5.key _ _ _ (bA _) t.1 (D8 _ _ _),λp j q e i=>?_⟩;subst i;obtain⟨C,z,rfl⟩:=(yR _ _ _ (bA _)).1 e;exact(J0 a.a5.cq _).1 (zf.1 z).2 j
 .rcases fy.1 g with g|g
  .obtain⟨c5,dt⟩:=a.a5.aZ B g;obtain⟨D,A⟩:=An.1 dt;exact⟨c5,by rw[a.old A];rfl⟩
  rw[gJ]at g;subst g;exact⟨⟨w,by show dr b<=20;omega⟩,by rw[a.j9];rfl⟩
 .refine m5.2 ⟨a.a5.cG,by simp,λp j q e=>?_⟩;rw[gJ]at e;subst e;exact x p j
 have k:=a.a5.dn;have e:=a.iA;simp only[f',cn,bw,fZ]at k⊢;refine⟨λs r=>?_,by simp only[ft,df,gh];omega⟩;simp only[ft,df,gh]at r⊢;by_cases i:s<c b.2.2
 .have:=k.1 s i
  rwa [aj,j6 i,<-aj]
 obtain rfl:s=c b.2.2:=u;rw[aj,ho (bA _),sw];simp only[mf,h3,hx,cn,bw];omega
end
section
variable {p:ah V}[p.bZ]
abbrev DY:fO:=(hk,lv,ys,x7)
def eA.zero:eA 0 DY:=⟨fN.nil,rfl,rfl⟩
def pm(a:m ej):fO:=a.foldl (λd b=>(cI 7 d b).1) DY
def aal(U)(a):pm (U++[a])=(cI 7 (pm U) a).1:=by unfold pm;grind
def Lj:∀b a,eA (c a) (pm a)->eA (c (a++b)) (pm (a++b))
 |[],a,e=>by grind
 |d::b,a,e=>by
  have g:eA (c (a++[d])) (pm (a++[d])):=by rw[aal,df];exact e.do
  have:=Lj b (a++[d]) g;grind
def Li(U):eA (c U) (pm U):=Lj U [] eA.zero
def Ec(b:Int)(a:fO):fx:=
 if b=0 then(7,a.1,a.2.1,a.2.2.1,[0])else if b=1 then(7,a.1,a.2.1,a.2.2.1.set 0 (10,(a.2.2.1.getD 0 (0,0)).2),a.2.2.2)else(7,a.1,a.2.1,a.2.2.1,a.2.2.2)
end
section
section
variable {p:ah V}[p.bZ]
end
variable {p:ah V}
end
def Mk(aa)(b):(Ec aa b).2.1=b.1/\(Ec aa b).2.2.1=b.2.1:=by unfold Ec;grind
def fN.ew{b}(a:fN j b)(d:j<=1000000):pQ b:=⟨a.bn.toj4.fV,by have:=a.cp;omega,by have:=a.cY;omega⟩
end R1
section
namespace R1
variable {p:ah V}[p.bZ]
abbrev Zc(b:cz)(a:Nat):Nat:=bU (c b.1) (f (a:Int))-bU 0 n
abbrev Zd(b:cz)(a:Nat):Nat:=bU (c b.1) n-bU 0 (f ((a:Int)+1))
abbrev lN(a:cz):Nat->m K:=fs (bU 0 n) (a2.fn a.1)
abbrev kJ(b:cz)(a:Nat):Nat->m K:=fs (bU 0 (f ((a:Int)+1))) (a2.fn b.1)
end R1
end
namespace R1
section
variable {p:ah V}
def VO(b)(d:dO b.1):Z p 19 [gy b,gy b] [] (bh l) []:=by refine Z.I func19 rfl λh=>?_;have e:ba p [(39,e9 [b9 b.1,b9 b.1] (bh l)),(10,uP)]:=.cons (fu (VN b.1 d)) (.cons zn .nil);refine be e [10,17] a ?_ (g.aq a);exact bG
end
def Sr{b}{g:m Int}(a:jz h b):kC h ((b.1,b.2.1.filter λd=>g.contains d.1,b.2.2),hU (b.2.1.filter λd=>g.contains d.1),b.1.map (·.1)):=by refine⟨⟨a.cq,a.c6,a.ax,λd e=>a.aZ d (iK.1 e).1,a.cG.filter _,a.key,a.dn,a.len⟩,λd e j i=>tf.2 ⟨d,e,i⟩,λj i=>?_,rb.2 a.c6⟩;simp_all
def F7{d}(o:d.Pairwise (·<=·)):∀a,a<=c d->(fA d a).Pairwise (· < ·)/\∀e∈fA d a,0<a/\e<=d.getD (a-1) 0
 |0,_=>by simp[fA]
 |a+1,q=>by
  obtain⟨j,m⟩:=F7 o a u;have i:∀g,g<a->d.getD g 0<=d.getD a 0:=λg p=>by have:=m3.1 o g a u u p;grind
  rw[fA];split
  .rename_i z;refine⟨j,λe b=>⟨by omega,?_⟩⟩;have:=m e b;have:=i (a-1) u;simp only[pS];omega
  rename_i z;have h:∀e∈fA d a,e<d.getD a 0:=λe b=>by have s:=m e b;have r:=i (a-1) u;omega
  refine⟨m5.2 ⟨j,by simp,λe b t k=>?_⟩,λe b=>⟨by omega,?_⟩⟩
  .rw[gJ]at k;subst k;exact h e b
  simp only[pS];rcases fy.1 b with b|b
  .have:=h e b;omega
  rw[gJ]at b;omega
def abD(a):gf a=gE a.2:=by
 refine AV ?_ (CF List.Pairwise.nil) λb=>by rw[yA,Df]
 unfold gf hP;exact(F7 (Mi _) _ (bA _)).1
abbrev abQ(g e:al×X)(d:dM)(b:cz)(a:m Int):m ap:=hy g e++[gq d,.cells 33 lw,.M,gq (b,a,d.2.2),jS b]
def abd{b}{a}{o}(d:hi h b=l)(e:1<=a/\a<=2)(g:dN o=l):fC h b a o=if fr h b.1 o=l then(b,v)else(oz h b a o,l):=by unfold fC qx;simp_all
def XK(j z)(h)(b)(bV)(o)(i:pQ b)(y:dO b.1)(I:mb b.1)(H:a8 .i64 bV):
  Z (ah.aF V) 44 [R h,gy b,R bV,bB.A o] (hy j z) (jV (fC h b bV o).1 (fC h b bV o).2) (hy j z):=by
 refine Z.bb bc func44 rfl rfl rfl λP=>?_;have m:ba (ah.aF V) [(40,xw),(42,ro)]:=.cons Eu (.cons v3 .nil);have w:(b.1,b.2.1,b.2.2)=b:=rfl;have ao:=y.aY;cases r:hi h b with
 |false=>
  have s:fC h b bV o=(hk,v):=by unfold fC qx;simp[r]
  rw[s];refine be m [19,27,31] a ?_ ?_
  .simp only[T,a2.l,a2.T,bj.l,bj.T,a3.l,a3.T,aA.l,aA.T,w,r,i,is,a',a7]
  exact kz
 |true=>
 by_cases F:1<=bV/\bV<=2
 rotate_left
 .have s:fC h b bV o=(hk,v):=by unfold fC qx;simp[F]
  rw[s];exact be m [-19,22,27,31] a bG kz
 have S:bV=1∨bV=2:=u;cases N:dN o with
 |false=>
  have s:fC h b bV o=(hk,v):=by unfold fC qx;simp[N]
  rw[s];rcases S with rfl|rfl
  .exact be m [-19,-22,-27,31] a zT kz
  exact be m [-19,22,-27,31] a zT kz
 |true=>
 rw[abd r F N];have B:=tI.1 r;have ag:=rZ.2 B.tojz;have aY:=B.tojz.h5;have x:=XC j z h b.1 bV o y i.tonW I H λt=>(rZ.1 t).cM I;rw[Y2,abL ag F N]at x;apply g.cf [(0,R h),(2,R bV),(3,bB.A o),(5,aI 3 0),(8,aI 4 0)] (hy j z++[gq b,.cells 33 lw])
 .intro dw;rcases S with rfl|rfl
  .exact be m [-19,-22,-27,-31,903] a zT ky
  exact be m [-19,22,-27,-31,903] a zT ky
 refine cy a A (g.aA (I_ b y i.fO i.fL) [] a (bR [904] a A (g.bN 5 a a a C C (cy a A (g.aA x [0,1,2] a ?_)))));cases X:fr h b.1 o with
 |true=>
  exact bR [45] a C PD
 |false=>
 have an:=y.bx;have J:=aY.cM (h:=h) (o:=o) (bV:=bV) (by have:=w' 1 B.cG λq Y=>(B.aZ q Y).1;omega) N X;have ai:(ft h b.1 bV o).2.1.length=c b.1.2.1+1:=by simp[ft]
 have aa:(ft h b.1 bV o).2.1.getD ((ft h b.1 bV o).2.1.length-1) (0,[])=fW (dr b.1) h o:=by rw[ai];simp[ft,aj]
 have U:=J.c9 (fW (dr b.1) h o) M;have L:=v6 U.2;have al:=th (fW (dr b.1) h o).2;have ak:=J.ey;have G:=i.fO;have Q:=Cg (p:=ah.aF V) (fW (dr b.1) h o) u u;rw[abD]at Q;unfold oz;simp only[bm (show¬(v=l) by simp)];generalize ft h b.1 bV o=k at *;generalize fW (dr b.1) h o=q at *;have ae:((c k.2.1:Int)-1).toNat=c k.2.1-1:=u;have W:k.2.1.getD ((c k.2.1:Int)-1).toNat bj.D=q:=by rw[ae];exact aa
 have D:ba (ah.aF V) [(71,e9 [iT q] (aA.A (gE q.2)))]:=.cons (fu Q) .nil;refine be D [-45] a ?_ ?_
 .simp only[T,W,a8];and_intros<;>first|rfl|exact True.intro|omega
 generalize gE q.2=d at *;refine g.aC 8 (λe=>e<=c d) (λe:Nat=>[(8,aI 4 0),(10,aI 6 0),(57,aA.A d),(58,R (c d)),(59,R e)])
  (λe=>abQ j z b k ((d.take e).foldl e4 b.2.1)) (λe=>c d-e) 0 a ?_ a ?_ a u ?_
 .simp
 .simp
 intro e ab;by_cases t:e<c d
 .have af:d.getD (e:Int).toNat aA.D=d.getD e 0:=rfl;have K:=yc e4 b.2.1 t;have O:=qk b.2.1 (d.take e);rw[List.length_take]at O;generalize(d.take e).foldl e4 b.2.1=j5 at *;have E:ba (ah.aF V) [(83,e9 [aA.A j5,R (d.getD e 0)] (aA.A (e4 j5 (d.getD e 0))))]:=.cons (fu (Wg j5 (d.getD e 0) u)) .nil;refine be E [60] a ?_ (g.aw (e+1) a C ?_ t u)
  .simp only[T,af,a8,bw];exact qS
  rw[K];simp
 obtain rfl:e=c d:=u;rw[cY];refine bR [-60] a C (g.az ?_);exact cy a A kz
abbrev xh(e d:al×X)(cb:fx)(g:ej)(h:Int)(b:fO)(a:Nat->m K):m ap:=pn e d cb g++[.p 58 2 2 (a3.fn b.2.2.1),.p 3 1 2 a,pD h b.1 b.2.1]
abbrev p8(d b:al×X)(cb:fx)(e:ej)(g:Int)(h:fO)(a:Nat->m K):m ap:=xh d b cb e g h a++[.M,.M,.M,.M]
abbrev ma(i:Nat)(g e:al×X)(cb:fx)(h:ej)(a:Int)(b:fO)(d:ej):Prop:=
 bl (ι:=qh (cI a b d).1.2.2.2) (ah.aF V) i [aI 8 0,nb d] (xh g e cb h a b (aA.fn b.2.2.2)) (λ_=>bh (cI a b d).2) (λj=>p8 g e cb h a (cI a b d).1 j.1)
def X0(j r)(cb)(e)(h)(b)(d)(k:d.1=3):ma 23 j r cb e h b d:=by
 have i:cI h b d=((b.1,d.2.2.2.1,b.2.2),l):=by unfold cI;simp[k]
 unfold ma;rw[i];refine bl.bP func23 rfl rfl rfl (g.aR ?_);exact cy a A wu
def X1(e B)(cb)(p)(h)(b)(d)(o:eA j b)(q:d.1=2):ma 22 e B cb p h b d:=by
 unfold ma;have m:ba (ah.aF V) [(41,Bo)]:=.cons ME .nil;by_cases k:1<=d.2.1/\d.2.1<=2
 rotate_left
 .have i:cI h b d=(b,v):=by unfold cI;simp[q,k]
  rw[i];refine bl.bP func22 rfl rfl rfl (g.aR ?_);exact be m [8] a (by simp[rn,k]) wu
 have i:cI h b d=((b.1,b.2.1,gB d.2.1 b.1.1 b.2.1 b.2.2),l):=by unfold cI;simp[q,k]
 rw[i];refine bl.bP func22 rfl rfl rfl (g.aR ?_);refine be m [-8] a (by simp[rn,k]) (g.cI (Iv e B cb p d h b.1 b.2.1 d.2.1 b.2.2.1 b.2.2.2 o.a.bn.eC k o.bj o.cc) a a a a C a λr=>?_);refine cU m a A (g.eK 2 ?_);refine g.cL 9 a bk ?_;refine g.ret ?_;exact⟨r,.inl a,a,a,_,_,_,a,a,a,a⟩
abbrev ti(a:m ap)(e:dM)(_ b d:Bool):m ap:=
 match b,d with
 |false,_=>a
 |true,v=>a++[tR]
 |true,l=>a++[gq e]
def abZ{Q}(a:qo Q=v):ig Q=Q:=by
 obtain⟨e,d,b⟩:=Q;cases b with
 |nil=>rfl
 |cons g h=>cases a
abbrev ad4(e:Int)(g b:dM)(a:Bool)(d:Nat):x:=
 [aI 8 0,aI 8 0,aI 8 0,R e,aI 8 0,aI 8 0,aI 8 1,gy g,jV b a,jV b a,gy b,bh a,aI 10 0,.any,bh a].getD d .any
set_option maxRecDepth 20000 in
def X3(z d)(cb)(e)(h)(b)(k)(y:eA j b)(F:j<=1000)(D:hi h b.1=l)(E:k.1=5):ma 25 z d cb e h b k:=by
 unfold ma;have p:cI h b k=((ig b.1,b.2),qo b.1):=by unfold cI;simp[E]
 have B:=XM h b.1 (y.a.ew u) y.a.bn.eN;have q:zl h b.1=(ig b.1,qo b.1):=bo D;rw[q]at B;have s:=abZ (Q:=b.1);rw[p];generalize ig b.1=m at *;generalize qo b.1=o at *;have i:ba (ah.aF V) [(46,e9 [R h,gy b.1] (jV m o))]:=.cons (fu B) .nil;refine bl.bP func25 rfl rfl rfl (g.aR ?_);refine be i [901] a A ?_;refine g.b_ b5 (ad4 h b.1 m o) (lc (ti (xh z d cb e h b (aA.fn b.2.2.2)++[sR k]) m) 14 12 13) a a a a
  ⟨.ay,.ay,.ay,.ay,.ay,.ay,.ay,.ay,.cK bc i (cv:=by exact a),.ay,.ay,.ay,
  cd.d_ a a a a a (λw=>by cases w<;>exact ef (bf:=[]) bc i (an:=f _) a A),
  cd.d' a a a a a (λw=>by cases w<;>exact ef (bf:=[]) bc i (an:=f _) a A),
  cd.dZ a a a a (λr N=>by cases r<;>cases N<;>exact aZ.u),A⟩ ?_
 intro x t;show g (ah.aF V) _ _ _ _ _ (ti _ m (x 14) (x 12) (x 13));rw[t 14 ca,t 12 ca,t 13 ca];cases o with
 |true=>
  exact be i [19] a C E2
 |false=>
  obtain rfl:=s rfl;exact be i [-19] a C E2
abbrev ad3(e:Int)(g b:dM)(da:m Int)(a:Bool)(d:Nat):x:=
 [aI 8 0,aI 8 0,aI 8 0,R e,aI 8 0,aI 8 0,aI 8 1,aI 8 1,b9 g.1,aI 9 7,aA.A da,jV b a,jV b a,gy b,bh a,aI 10 0,.any,bh a].getD d .any
set_option maxRecDepth 20000 in
def XZ(z d)(cb)(B)(h)(b)(e)(q:eA j b)(y:hi h b.1=l)(u:e.1=4):ma 24 z d cb B h b e:=by
 unfold ma;by_cases s:c b.1.2.2=0
 rotate_left
 .have i:cI h b e=(b,v):=by unfold cI;simp[u,s]
  rw[i];refine bl.bP func24 rfl rfl rfl (g.aR ?_);exact bR [13] a N1 wu
 have i:cI h b e=(((iM h b.1.1 e.2.2.2.2).1,b.2),l):=by unfold cI;simp[u,s]
 have t:=TU h b.1.1 e.2.2.2.2 q.a.bn.eN q.a.bn.toj4.fV;have o:(iM h b.1.1 e.2.2.2.2).2=l:=by unfold iM;rw[bo (rZ.2 (tI.1 y).tojz)]
 rw[o]at t;rw[i];generalize(iM h b.1.1 e.2.2.2.2).1=m at *;have k:ba (ah.aF V) [(45,e9 [R h,b9 b.1.1,aA.A e.2.2.2.2] (jV m l))]:=.cons (fu t) .nil;refine bl.bP func24 rfl rfl rfl (g.aR ?_);refine be k [-13,903] a NZ ?_;refine g.b_ b5 (ad3 h b.1 m e.2.2.2.2 l) (lc (ti (xh z d cb B h b (aA.fn b.2.2.2)++[sR e]) m) 17 15 16) a a a a
  ⟨.ay,.ay,.ay,.ay,.ay,.ay,.ay,.ay,.ay,.ay,.ay,.cK bc k (cv:=by exact a),.ay,.ay,.ay,
  cd.d_ a a a a a (λw=>by cases w<;>exact ef (bf:=[]) bc k (an:=f _) a A),
  cd.d' a a a a a (λw=>by cases w<;>exact ef (bf:=[]) bc k (an:=f _) a A),
  cd.dZ a a a a (λr N=>by cases r<;>cases N<;>exact aZ.u),A⟩ ?_
 intro x p;show g (ah.aF V) _ _ _ _ _ (ti _ m (x 17) (x 15) (x 16));rw[p 17 ca,p 15 ca,p 16 ca];exact be k [29] a C E2
abbrev ad5(g:Int)(i d:dM)(a:Int)(h:m c7)(b:Bool)(e:Nat):x:=
 [aI 8 0,aI 8 0,aI 8 0,R g,aI 8 0,aI 8 0,aI 8 1,gy i,aI 9 1,R a,aI 9 2,bB.A h,jV d b,jV d b,gy d,bh b,aI 11 0,.any,bh b].getD e .any
set_option maxRecDepth 20000 in
def X2(q z)(cb)(F)(h)(b)(i)(s:eA j b)(X:j<=1000)(J:i.1=1):ma 21 q z cb F h b i:=by
 unfold ma;have E:ba (ah.aF V) [(41,Bo),(42,ro)]:=.cons ME (.cons v3 .nil);by_cases e:1<=i.2.1/\i.2.1<=2
 rotate_left
 .have B:cI h b i=(b,v):=by unfold cI;simp[J,e]
  rw[B];refine bl.bP func21 rfl rfl rfl (g.aR ?_);exact be E [11,16] a (by simp[rn,e]) wu
 cases aa:dN i.2.2.1 with
 |false=>
  have B:cI h b i=(b,v):=by unfold cI;simp[J,aa]
  rw[B];refine bl.bP func21 rfl rfl rfl (g.aR ?_);exact be E [-11,16] a Rt wu
 |true=>
 have B:cI h b i=nE h b i.2.1 i.2.2.1:=by unfold cI;simp[J,e,aa]
 rw[B];have Q:=tc (bV:=i.2.1) (b:=b.1.1) (d:=b.2.1) (bi:=b.2.2) s.bj s.cc;have K:=Iv (p:=ah.aF V) q z cb F i h b.1 b.2.1 i.2.1 b.2.2.1 b.2.2.2 s.a.bn.eC e s.bj s.cc;have O:=XK q z h b.1 i.2.1 i.2.2.1 (s.a.ew u) s.a.bn.eN s.a.bn.eG nM;have W:=DZ (h:=h) (bV:=i.2.1) (o:=i.2.2.1) s.a;unfold nE;rw[show((b.2.2.1,b.2.2.2):m (Int×Int)×m Int)=b.2.2 from a]at K;generalize gB i.2.1 b.1.1 b.2.1 b.2.2=k at *;have I:k.2.getD (0+(i.2.1-1).toNat) aA.D=k.2.getD (i.2.1-1).toNat 0:=qW;refine bl.bP func21 rfl rfl rfl (g.aR ?_);refine be E [-11,-16] a Rt (g.cI K a a a a C a λt=>?_);refine bR [904] a A (g.a_ (n1 q z cb F h b.1 b.2.1 k.1 (aA.fn k.2) i++[.M]) a tV ?_);by_cases y:k.2.getD (i.2.1-1).toNat 0=0
 rotate_left
 .rw[bm (λs=>y s.1)];refine bR [31,38] a ?_ ?_
  .simp only[T,I,a8,j',d6,a',a7];and_intros<;>first|exact y|omega
  exact PH
 by_cases D:b.2.1.1=0
 rotate_left
 .rw[bm (λs=>D s.2)];refine bR [-31,38] a ?_ ?_
  .simp only[T,I,y,a8,j',iI,d6,a',a7];and_intros<;>first|exact D|omega
  exact PH
 rw[bo ⟨y,D⟩];refine bR [-31,-38,906] a ?_ ?_
 .simp only[T,I,y,D,a8,iI,a',a7];omega
 refine g.b_ b5 (ad5 h b.1 (fC h b.1 i.2.1 i.2.2.1).1 i.2.1 i.2.2.1 (fC h b.1 i.2.1 i.2.2.1).2) (lc (ti (n1 q z cb F h b.1 b.2.1 k.1 (aA.fn k.2) i++[.M]) (fC h b.1 i.2.1 i.2.2.1).1) 18 16 17) a a a a
  ⟨.ay,.ay,.ay,.ay,.ay,.ay,.ay,.ay,.ay,.ay,.ay,.ay,
  cd.eL a a a (λw r N=>aZ.dQ (by cases r<;>cases N<;>exact dV.dX O.tocH [0,1,2] a a a a a a a bk a bk)),
  .ay,.ay,.ay,
  cd.d_ a a a a a (λw=>by cases w<;>exact ef (bf:=[]) bc E (an:=f _) a A),
  cd.d' a a a a a (λw=>by cases w<;>exact ef (bf:=[]) bc E (an:=f _) a A),
  cd.dZ a a a a (λr N=>by cases r<;>cases N<;>exact aZ.u),A⟩ ?_
 intro x M;show g (ah.aF V) _ _ _ _ _ (ti _ (fC h b.1 i.2.1 i.2.2.1).1 (x 18) (x 16) (x 17));rw[M 18 ca,M 16 ca,M 17 ca];cases jH:(fC h b.1 i.2.1 i.2.2.1).2 with
 |false=>
  rw[bm C];refine bR [56] a t1 (g.eK 1 ?_);refine g.cL 9 a bk ?_;refine g.cL 11 a bk ?_;refine g.ret ?_;exact⟨⟨_,bs.same⟩,.inl a,a,a,_,_,_,a,a,a,a⟩
 |true=>
  rw[bo a];have S:=(W jH).1;generalize(fC h b.1 i.2.1 i.2.2.1).1=w2 at *;have R:=Ub (p:=ah.aF V) q z cb F i w2 h w2 b.2.1 i.2.1 k.1 k.2 S.bn.eC e Q.1 Q.2;rw[show((k.1,k.2):m (Int×Int)×m Int)=k from a]at R;refine bR [-56] a t1 (g.cI R a a a a C a λU=>?_);refine cy a A (g.cL 9 a bk ?_);refine g.cL 11 a bk ?_;refine g.ret ?_;exact⟨U,.inl a,a,a,_,_,_,a,a,a,a⟩
section
variable {p:ah V}
def T8(d)(h:c d<=4000000):Z p 48 [a3.A d] [] (cD 0 (.A (c d) 2 0 (c d))) [.p 58 2 (c d) (a3.fn d)]:=by
 refine Z.I func48 rfl λi=>?_;refine aO a A (g.en bc a a a a a a λb e=>?_);cases b with
 |true=>
  obtain rfl:=jB (e rfl);refine aO a A (g.e_ 2 58 2 (a3.fn []) a ?_);exact Fb
 |false=>
  refine gF [] 7 a A (g.dI 5 58 2 (a3.fn []) a ?_);refine aO a ⟨a,a,show(0+c d)*16<=_ by omega⟩ (g.a_ [.p 58 2 (c d) (a3.fn d)] a ?_ ?_)
  .simp[bs,cf]
  exact Fm
abbrev uG(a:dM):ap:=.p 107 2 (c a.1.1) (a2.fn a.1.1)
abbrev xb(da:m (Int×Int)):ap:=.p 58 2 (c da) (a3.fn da)
abbrev Nm(a:fx):m O:=.c (.int .i64 a.1)::([.N 2 (.A (c a.2.1.1.1) 2 0 (c a.2.1.1.1)),cL bj a.2.1.1.2.1,cL a3 a.2.1.1.2.2,cL aA a.2.1.2.1,cL aA a.2.1.2.2]++ta a.2.2.1++[.N 3 (.A (c a.2.2.2.1) 2 0 (c a.2.2.2.1)),.N 4 (.A (c a.2.2.2.2) 1 0 (c a.2.2.2.2))])
def H3(a:fx)(b d e g:Bool):m ap:=
 match b,d,e,g with
 |true,l,l,l=>[mT a,.cells 38 (Nm a),uG a.2.1,xb a.2.2.2.1,jF (c a.2.2.2.2) a.2.2.2.2]
 |true,l,l,v=>[mT a,fL,uG a.2.1,xb a.2.2.2.1,jF (c a.2.2.2.2) a.2.2.2.2]
 |true,l,v,_=>[mT a,fL,uG a.2.1,xb a.2.2.2.1]
 |true,v,_,_=>[mT a,fL,uG a.2.1]
 |false,_,_,_=>[mT a,fL]
abbrev adR(a:fx)(b:Nat):x:=
 [aI 0 0,R a.1,aI 0 1,gy a.2.1,.n (.agg [.N 2 (.A (c a.2.1.1.1) 2 0 (c a.2.1.1.1)),cL bj a.2.1.1.2.1,cL a3 a.2.1.1.2.2,cL aA a.2.1.2.1,cL aA a.2.1.2.2]),aI 0 6,eG a.2.2.1,aI 0 10,a3.A a.2.2.2.1,cD 3 (.A (c a.2.2.2.1) 2 0 (c a.2.2.2.1)),
  aI 0 11,aA.A a.2.2.2.2,cD 4 (.A (c a.2.2.2.2) 1 0 (c a.2.2.2.2)),.n (.agg (Nm a)),.any].getD b .any
set_option maxRecDepth 20000 in
def XY(b)(j:dO b.2.1.1)(N:c b.2.1.2.1<=4000000)(h:c b.2.1.2.2<=4000000)(d:c b.2.2.2.1=2)(r:c b.2.2.2.2=2):
  Z p 26 [g2 b] [] (.n (.agg (gV b.1 b.2.1 b.2.2.1 0))) (lh b.2.2.2.1 b.2.2.2.2):=by
 refine Z.bb bc func26 rfl rfl rfl λk=>?_
 have w:ba p [(47,k3 [gy b.2.1] [] (.n (.agg [.N 0 (.A (c b.2.1.1.1) 2 0 (c b.2.1.1.1)),cL bj b.2.1.1.2.1,cL a3 b.2.1.1.2.2,cL aA b.2.1.2.1,cL aA b.2.1.2.2])) [uG b.2.1]),
   (48,k3 [a3.A b.2.2.2.1] [] (cD 0 (.A (c b.2.2.2.1) 2 0 (c b.2.2.2.1))) [xb b.2.2.2.1]),
   (49,k3 [aA.A b.2.2.2.2] [] (cD 0 (.A (c b.2.2.2.2) 1 0 (c b.2.2.2.2))) [jF (c b.2.2.2.2) b.2.2.2.2])]:=
  .cons (l5 (I_ b.2.1 j N h)) (.cons (l5 (T8 b.2.2.2.1 u)) (.cons (l5 (Is b.2.2.2.2 u)) .nil))
 refine be w [901] a A ?_;refine g.b_ b5 (adR b) (mv (H3 b) 4 9 12 14) a a a a
  ⟨.aN,.aN,.aN,.aN,
  cd.dW a a a a a a (ef (bf:=[]) bc w (an:=f _) a ⟨rfl,rfl⟩),
  .aN,.aN,.aN,.aN,
  cd.eT a a a a a a (ef (bf:=[]) bc w (an:=f _) a ⟨rfl,rfl⟩),
  .aN,.aN,
  cd.eU a a a a a a (ef (bf:=[]) bc w (an:=f _) a ⟨rfl,rfl⟩),
  .aN,
  cd.eV a a a a a a (ef (bf:=[]) bc w (an:=f _) a A),A⟩ ?_
 intro x i;show g p _ _ _ _ _ (H3 b (x 4) (x 9) (x 12) (x 14));rw[i 4 ca,i 9 ca,i 12 ca,i 14 ca];refine tv w [] 1 a A (g.bN 2 a a a C C (g.a_ [mT b,.cells 38 (gV b.1 b.2.1 b.2.2.1 3),.M,.p 58 2 2 (a3.fn b.2.2.2.1),.p 3 1 2 (aA.fn b.2.2.2.2)] a ?_ ?_))
 .simp[h',d,r]
 refine g.bc () [3,4] ?_ (λm e=>absurd e C);simp
end
abbrev jY:fx:=(0,hk,lv,[],[])
def xS(a:fx)(b:ej):fx×Bool:=if jX a=l then((a.1,(cI a.1 a.2 b).1),(cI a.1 a.2 b).2)else(jY,v)
abbrev nH(a:fx×Bool):x:=.Q [.agg (ii a.1),.R (.c (.bool a.2))]
def adL{a}(b:jX a=l):c a.2.2.2.1=2/\c a.2.2.2.2=2/\hi a.1 a.2.1=l:=by simp only[jX,cn,bw]at b;exact⟨b.1.1.1,b.1.1.2,b.2⟩
abbrev u6(a:Nat):m K:=[.fn (.func a) [] []]
abbrev Ex:m (m K):=[u6 21,u6 22,u6 23,u6 24,u6 25]
abbrev Yb(a:Nat):Nat:=[21,22,23,24,25].getD (a-1) 0
abbrev wc(a:Int)(e:ej)(d:Bool)(b:Nat):x:=
 [ax (.A l 1 5 λb=>Ex.getD b []),aI 4 0,R a,R (a-1),ax (.O (Ex.getD (a-1).toNat [])),ax ((Ex.getD (a-1).toNat []).getD 0 (.bool v)),nb e,bh d,bh d].getD b .any
set_option maxRecDepth 20000 in
def Jd(m i)(b)(h)(j)(y:fN (6000+240*j) b.2.1)(I:j<=1000):
  Z (ah.aF V) 9 [g2 b,nb h] (hy m i) (nH (xS b h)) (hy m i):=by
 refine Z.bb bc func9 rfl rfl rfl λx=>?_;have w:ba (ah.aF V) [(20,e9 [g2 b] (bh (jX b)))]:=.cons (fu (X5 b (y.ew u))) .nil;unfold xS;cases b2:jX b with
 |false=>
  exact be w [11] a l8 kz
 |true=>
 obtain⟨D,E,F⟩:=adL b2;have s:eA j b.2:=⟨y,D,E⟩;have K:=y.cB u
 rw[bo a];refine be w [-11] a l8 (g.aA (XY b K.bn (by have:=y.cp;omega) (by have:=y.cY;omega) D E) [] a ?_);by_cases N:1<=h.1/\h.1<=5
 rotate_left
 .have O:cI b.1 b.2 h=(b.2,v):=by unfold cI;grind
  rw[O];apply g.cf [(2,aI 3 0),(3,aI 4 0),(4,aI 5 0),(7,aI 8 0)] (pn m i b h++lh b.2.2.2.1 b.2.2.2.2++[pD b.1 b.2.1 b.2.2.1])
  .intro dw;by_cases J:h.1<1
   .exact be w [19,23,906] a (by simp[J]) ky
   exact be w [-19,23,906] a bQ ky
  refine g.bN 6 a a a C C (g.bN 7 a a a C C (cU w a A (g.b9 () [0,1,2] ?_ ng)));simp[h',D,E]
 have bx:ma (Yb h.1.toNat) m i b h b.1 b.2 h:=by
  have z:h.1=1∨h.1=2∨h.1=3∨h.1=4∨h.1=5:=u;rcases z with r|r|r|r|r<;>rw[r]
  .exact X2 m i b h b.1 b.2 h s I r
  .exact X1 m i b h b.1 b.2 h s r
  .exact X0 m i b h b.1 b.2 h r
  .exact XZ m i b h b.1 b.2 h s F r
  exact X3 m i b h b.1 b.2 h s I F r
 unfold ma at bx;have B:(cI b.1 b.2 h).1.2.2.1.length=2/\(cI b.1 b.2 h).1.2.2.2.length=2:=⟨(s.do).bj,(s.do).cc⟩;refine be w [-19,-23,907] a bQ ?_
 generalize M:cI b.1 b.2 h=e at *;have z:h.1=1∨h.1=2∨h.1=3∨h.1=4∨h.1=5:=u;obtain⟨r,d,q,k,p⟩:=h;simp only at z bx;rcases z with rfl|rfl|rfl|rfl|rfl
 .refine g.dc b5 7 (λo=>ay o 6) (wc 1 (1,d,q,k,p) e.2) (λ(_:qh e.1.2.2.2) o=>[bh e.2,bh e.2].getD (o-7) .any) (λt=>p8 m i b (1,d,q,k,p) b.1 e.1 t.1) a a a a a a wn wl wq ?_;intro t;refine g.a_ (pn m i b (1,d,q,k,p)++lh e.1.2.2.1 e.1.2.2.2++[pD b.1 e.1.1 e.1.2.1,.M,.M,.M,.M]) a tV ?_;exact wj
 .refine g.dc b5 7 (λo=>ay o 6) (wc 2 (2,d,q,k,p) e.2) (λ(_:qh e.1.2.2.2) o=>[bh e.2,bh e.2].getD (o-7) .any) (λt=>p8 m i b (2,d,q,k,p) b.1 e.1 t.1) a a a a a a wn wl wq ?_;intro t;refine g.a_ (pn m i b (2,d,q,k,p)++lh e.1.2.2.1 e.1.2.2.2++[pD b.1 e.1.1 e.1.2.1,.M,.M,.M,.M]) a tV ?_;exact wj
 .refine g.dc b5 7 (λo=>ay o 6) (wc 3 (3,d,q,k,p) e.2) (λ(_:qh e.1.2.2.2) o=>[bh e.2,bh e.2].getD (o-7) .any) (λt=>p8 m i b (3,d,q,k,p) b.1 e.1 t.1) a a a a a a wn wl wq ?_;intro t;refine g.a_ (pn m i b (3,d,q,k,p)++lh e.1.2.2.1 e.1.2.2.2++[pD b.1 e.1.1 e.1.2.1,.M,.M,.M,.M]) a tV ?_;exact wj
 .refine g.dc b5 7 (λo=>ay o 6) (wc 4 (4,d,q,k,p) e.2) (λ(_:qh e.1.2.2.2) o=>[bh e.2,bh e.2].getD (o-7) .any) (λt=>p8 m i b (4,d,q,k,p) b.1 e.1 t.1) a a a a a a wn wl wq ?_;intro t;refine g.a_ (pn m i b (4,d,q,k,p)++lh e.1.2.2.1 e.1.2.2.2++[pD b.1 e.1.1 e.1.2.1,.M,.M,.M,.M]) a tV ?_;exact wj
 refine g.dc b5 7 (λo=>ay o 6) (wc 5 (5,d,q,k,p) e.2) (λ(_:qh e.1.2.2.2) o=>[bh e.2,bh e.2].getD (o-7) .any) (λt=>p8 m i b (5,d,q,k,p) b.1 e.1 t.1) a a a a a a wn wl wq ?_;intro t;refine g.a_ (pn m i b (5,d,q,k,p)++lh e.1.2.2.1 e.1.2.2.2++[pD b.1 e.1.1 e.1.2.1,.M,.M,.M,.M]) a tV ?_;exact wj
section
variable {Q:dM}{bV:Int}{o:m c7}
def LZ(i:mb Q.1)(d:(fC h Q bV o).2=l):kC h Q/\j3 h Q.1 bV o/\fC h Q bV o=(oz h Q bV o,l):=by
 unfold fC at *;split at d
 .rename_i b;rw[bo b];split at d
  .cases d
  rename_i g;rw[bm g];simp only[qx,cn,bw]at b;have e:=tI.1 b.1.1;exact⟨e,⟨e.tojz,i,b.1.2,b.2,by simp_all⟩,a⟩
 cases d
def kC.cM(e:kC h Q)(i:j3 h Q.1 bV o):kC h (oz h Q bV o):=by
 refine⟨i.ok,λg b d a=>?_,λd a=>?_,e.hi⟩
 .show d∈(gE (fW (dr Q.1) h o).2).foldl e4 Q.2.1;rw[yz,Df];have b:g∈Q.1.2.1++[fW (dr Q.1) h o]:=b;rcases fy.1 b with b|b
  .exact .inl (e.gw g b d a)
  simp_all
 obtain⟨m,j,k⟩:=e.gr d a;exact⟨m,AA _ j,k⟩
end
section
variable {p:ah V}
abbrev Nq(a:fx)(d b:Nat):m O:=.c (.int .i64 a.1)::([cL a2 a.2.1.1.1,cL bj a.2.1.1.2.1,cL a3 a.2.1.1.2.2,cL aA a.2.1.2.1,.w d 1 (c a.2.1.2.2) (aA.fn a.2.1.2.2)]++ta a.2.2.1++[.N b (.A 2 2 0 2),.N (b+1) (.A 2 1 0 2)])
abbrev mS(b:fx)(a:ej):m ap:=[.cells 38 (ii b),sR a,fL]
abbrev KG:ap:=.J λ_ _=>False
def abb(a:fx)(b:ej)(h:Option Bool)(g d e:Bool):m ap:=
 match h with
 |none=>match d with
  |false=>mS a b
  |true=>mS a b++[fL]
 |some l=>match g,d,e with
  |false,v,_=>mS a b++[fL,i1 a.2.1]++hH a.2++[KG]
  |true,v,_=>mS a b++[fL,i1 a.2.1]++hH (cI a.1 a.2 b).1++[KG]
  |false,l,_=>mS a b++[fL,i1 a.2.1]++hH a.2
  |true,l,v=>mS a b++[fL,i1 a.2.1]++hH (cI a.1 a.2 b).1
  |true,l,l=>mS a b++[.cells 38 (gV a.1 (cI a.1 a.2 b).1.1 (cI a.1 a.2 b).1.2.1 5),i1 a.2.1]++hH (cI a.1 a.2 b).1
 |some v=>match g,d,e with
  |false,v,_=>mS a b++[i1 a.2.1]++hH a.2
  |false,l,_=>mS a b++[i1 a.2.1]++hH a.2++[fL]
  |true,v,_=>mS a b++[i1 a.2.1]++hH (cI a.1 a.2 b).1
  |true,l,v=>mS a b++[i1 a.2.1]++hH (cI a.1 a.2 b).1++[fL]
  |true,l,l=>mS a b++[i1 a.2.1]++hH (cI a.1 a.2 b).1++[.cells 38 (gV a.1 (cI a.1 a.2 b).1.1 (cI a.1 a.2 b).1.2.1 4)]
def r9(a:fx)(b:ej)(e:Option Bool)(d:Nat):x:=
 match e with
 |none=>[g2 a,.any,nb b,.any,.any,.any,.any,aI 3 0,.any,.any].getD d .any
 |some l=>[g2 a,.n (.agg (Nq a 4 5)),nb b,.Q [.agg (gV a.1 (cI a.1 a.2 b).1.1 (cI a.1 a.2 b).1.2.1 5),.R (.c (.bool (cI a.1 a.2 b).2))],.Q [.agg (gV a.1 (cI a.1 a.2 b).1.1 (cI a.1 a.2 b).1.2.1 5),.R (.c (.bool (cI a.1 a.2 b).2))],.n (.agg (gV a.1 (cI a.1 a.2 b).1.1 (cI a.1 a.2 b).1.2.1 5)),bh (cI a.1 a.2 b).2,aI 3 0,.any,bh (cI a.1 a.2 b).2].getD d .any
 |some v=>[g2 a,.n (.agg (Nq a 3 4)),nb b,.Q [.agg (gV a.1 (cI a.1 a.2 b).1.1 (cI a.1 a.2 b).1.2.1 4),.R (.c (.bool (cI a.1 a.2 b).2))],.Q [.agg (gV a.1 (cI a.1 a.2 b).1.1 (cI a.1 a.2 b).1.2.1 4),.R (.c (.bool (cI a.1 a.2 b).2))],.n (.agg (gV a.1 (cI a.1 a.2 b).1.1 (cI a.1 a.2 b).1.2.1 4)),bh (cI a.1 a.2 b).2,aI 6 0,.any,bh (cI a.1 a.2 b).2].getD d .any
def eA.j6{b}(a:eA j b)(d:j<=1001):um b.1:=a.a.cB u
end
section
variable {p:ah V}
def IG(b)(e:dO b.2.1.1)(i:c b.2.2.2.1<=4000000):Z p 8 [g2 b,g2 b] [] (bh l) []:=by
 refine Z.I func8 rfl λj=>?_;have w:ba p [(19,e9 [gy b.2.1,gy b.2.1] (bh l)),(10,uP)]:=.cons (fu (VO b.2.1 e)) (.cons zn .nil);refine be w [-11,-19,-26,-35,-42] a (by simp[aA.T,aA.l]) (g.aC 2 (λd=>d<=c b.2.2.2.1) (λd:Nat=>[(2,aI 0 0),(3,aI 1 0),(5,R d)]) (λ_=>[.cells 38 (ii b),.cells 38 (ii b)]) (λd=>c b.2.2.2.1-d) 0 a C a C a u ?_);intro d h;by_cases k:d<c b.2.2.2.1
 .refine be w [47,-60] a ?_ (g.aw (d+1) a ?_ ?_ ?_ ?_)
  .simp only[T,a8,gi,gw,iI,bw,a',a7];and_intros<;>first|omega|rfl|simp
  .simp
  .simp
  .grind
  omega
 refine be w [-47] a bQ (g.az ?_);exact zQ
end
section
variable {p:ah V}[p.bZ]
end
def ul(a:m (Int×Int)×m Int):Prop:=c a.1=2/\c a.2=2/\∀b,b<2->vt (a.1.getD b (0,0))=l/\0<=a.2.getD b 0/\a.2.getD b 0<=2
def zC{b}:jX (h,b)=l↔kC h b.1/\ul b.2.2:=by
 unfold jX ul;simp[cn,bw,fZ,tI,v_];constructor
 .rintro⟨⟨⟨a,i⟩,d⟩,r⟩;exact⟨r,a,i,d⟩
 rintro⟨r,a,i,d⟩;exact⟨⟨⟨a,i⟩,d⟩,r⟩
def ZA{z}{d}(b:vt z=l):vt (gC z d).1=l/\0<=(gC z d).2/\(gC z d).2<=2:=by
 unfold gC;split
 .rename_i r;split
  .obtain⟨i,e⟩:=C' r.1;have a:=(vW i e (c d)).1;rw[cY]at a;refine⟨?_,by simp,by simp⟩;simp only[vt,cn,bw];exact⟨⟨by omega,by omega⟩,a⟩
  exact⟨b,by simp,by simp⟩
 exact⟨b,by simp,by simp⟩
def ul.look{bV}{b}{d}{h}(g:ul h)(s:1<=bV/\bV<=2):ul (gB bV b d h):=by
 obtain⟨k,m⟩:=tc (bV:=bV) (b:=b) (d:=d) g.1 g.2.1;refine⟨k,m,λa o=>?_⟩;have p:(bV-1).toNat<2:=u;obtain⟨r,q⟩:=g.2.2 a o;have i:=ZA (d:=(ny b d).2.2) (g.2.2 _ p).1;unfold gB;split
 .have dJ:∀e,(h.1.set (bV-1).toNat e).getD a (0,0)=if(bV-1).toNat=a then e else h.1.getD a (0,0):=λe=>by simp[aj,oR];split<;>simp_all[g.1]
  have j:∀e,(h.2.set (bV-1).toNat e).getD a 0=if(bV-1).toNat=a then e else h.2.getD a 0:=λe=>by simp[aj,oR];split<;>simp_all[g.2.1]
  rw[dJ,j];split
  .exact⟨i.1,i.2⟩
  exact⟨r,q⟩
 exact⟨r,q⟩
def Ic{b}{p}(q:fN j b.1)(s:jX (h,b)=l):jX (h,(cI h b p).1)=l:=by
 obtain⟨a,g⟩:=zC.1 s;refine zC.2 ?_;unfold cI;split
 .split
  .rename_i i;have k:=g.look (b:=b.1.1) (d:=b.2.1) i.1;unfold nE;split
   .split
    .rename_i e;obtain⟨r,m,o⟩:=LZ q.bn.eG e;rw[o];exact⟨r.cM m,k.look i.1⟩
    exact⟨a,k⟩
   exact⟨a,k⟩
  exact⟨a,g⟩
 split
 .split
  .rename_i i;exact⟨a,g.look i⟩
  exact⟨a,g⟩
 split
 .exact⟨a,g⟩
 split
 .split
  .refine⟨?_,g⟩;unfold iM;rw[bo (rZ.2 a.tojz)];exact Sr a.tojz
  exact⟨a,g⟩
 split
 .exact⟨a.step,g⟩
 exact⟨a,g⟩
section
variable {p:ah V}
abbrev Ih(a:ej):m K:=[.int .i64 a.1,.int .i64 a.2.1,.A v 2 (c a.2.2.1) (bB.fn a.2.2.1),.int .i64 a.2.2.2.1.1,.int .i64 a.2.2.2.1.2.1,.int .i64 a.2.2.2.1.2.2.1,.V a.2.2.2.1.2.2.2,.A v 1 (c a.2.2.2.2) (aA.fn a.2.2.2.2)]
abbrev Ib(a:m K):ej:=(ns a 0,ns a 1,bB.ad (oB a 2).1 (oB a 2).2,(ns a 3,ns a 4,ns a 5,tG a 6),aA.ad (oB a 7).1 (oB a 7).2)
def Tc(a:ej):Ib (Ih a)=a:=by show(a.1,a.2.1,bB.ad (c a.2.2.1) (bB.fn a.2.2.1),a.2.2.2.1,aA.ad (c a.2.2.2.2) (aA.fn a.2.2.2.2))=a;rw[bB.l,aA.l]
def dL:c1 ej:={bj:=8,a2:=Ih,b7:=Ib,D:=(0,0,[],lv,[]),inv:=Tc,len:=λ_=>rfl}
abbrev cb(a:Int):fx:=(a,hk,lv,ys,x7)
def eb(d:Int)(a:fO)(e:m ej):fO:=e.foldl (λa b=>(cI d a b).1) a
def aa2(a:Int)(e:fO)(d:m ej)(b:ej):eb a e (d++[b])=(cI a (eb a e d) b).1:=by simp[eb]
def tw{h:Int}:∀(a:m ej){b:Nat}{e:fO},eA b e->eA (b+c a) (eb h e a)
 |[],_,_,d=>d
 |au::a,b,e,d=>by have:=tw (h:=h) a (d.do (h:=h) (au:=au));simp only[fh];rw[show b+(c a+1)=b+1+c a by omega];exact this
def DV{d:Int}:∀(e:m ej){h:Nat}{a:fO},eA h a->jX (d,a)=l->jX (d,eb d a e)=l
 |[],_,_,_,b=>b
 |i::e,h,a,g,b=>DV e g.do (Ic g.a b)
def EF(d:cj h=l):jX (cb h)=l:=by
 refine zC.2 ⟨?_,a,a,λe b=>?_⟩
 .exact⟨⟨by simp[hk],by simp[hk],by simp[hk,cr],by simp[hk],by simp[hk],d,a,by simp[hk]⟩,by simp[hk],by simp[hk],by simp[hk]⟩
 .match e,b with
  |0,_=>exact⟨rfl,by decide,by decide⟩
  |1,_=>exact⟨rfl,by decide,by decide⟩
def qB(a:Int):fx×Bool:=if cj a=l then(cb a,l)else(jY,v)
def ov(a:Int)(b:m ej):fx×Bool:=if cj a=l/\c b<=30 then((a,eb a (cb a).2 b),l)else(jY,v)
def X4(b:Int)(b2:cj b=v):Z p 15 [R b] [] (nH (jY,v)) []:=by refine Z.bb bc func15 rfl rfl rfl λe=>?_;have d:ba p [(30,rq)]:=.cons tK .nil;refine a_ d [7] a l8 ?_;refine g.b9 () [] ?_ eW;simp
abbrev Nw:O:=.c (.A v 2 2 λ_=>[.int .i64 0,.int .i64 0])
abbrev Nv:O:=.c (.A v 1 2 λ_=>[.int .i64 0])
abbrev KI(a:Int):m O:=.c (.int .i64 a)::((lw++ta lv)++[Nw,Nv])
abbrev KJ(b:Int)(a _b:Bool):m ap:=match a with
 |false=>[fL]
 |true=>[.cells 38 (KI b)]
abbrev adX(a:Int)(b:Nat):x:=[R a,.n (.R Nw),.n (.R Nv),.n (.agg (KI a)),.any,bh l].getD b .any
def Je(b:Int):Z p 18 [R b] [] (nH (qB b)) []:=by
 refine Z.bb bc func18 rfl rfl rfl λm=>?_;have d:ba p [(38,dk c8 (λb=>bh (cj b)) λ_=>[])]:=.cons t38 .nil;unfold qB;cases b2:cj b with
 |false=>
  exact a_ d [6] a l8 E3
 |true=>
 refine a_ d [-6] a l8 ?_;refine g.b_ b5 (adX b) (nh (KJ b) 4 5) a a a a
  ⟨.bk,cd.fR a a (λw i=>by cases w<;>cases i<;>exact aZ.er (ι:=Unit) a (eg.ht (j:=2) (a4:=yp) bc a a a a a a (by show 2*16<=_;decide) ca)),
   cd.fR a a (λw i=>by cases w<;>cases i<;>exact aZ.er (ι:=Unit) a (eg.ht (j:=2) (a4:=d9) bc a a a a a a (by show 2*8<=_;decide) ca)),.bk,
   cd.fb a a (ef (bf:=[]) bc d (an:=f _) a A),cd.fc a a (aZ.u),A⟩ ?_
 intro x h;show g p _ _ _ _ _ (KJ b (x 4) (x 5));rw[h 4 ca,h 5 ca];refine b_ d a A (g.b9 () [] ?_ eW);simp only[T.Z,T,dA,a',a7];and_intros<;>first|rfl|(intro k e;match k,e with|0,_=>rfl|1,_=>rfl)
abbrev pC(b:Int)(a:fO):ap:=.cells 38 (gV b a.1 a.2.1 1)
abbrev Lf(b:Int)(a d:fO)(e g h:Bool):m ap:=
 match e,g,h with
 |false,v,_=>[fL]++hH a++[pC b a]
 |false,l,v=>[fL]++hH a++[pC b a,fL]
 |false,l,l=>[fL]++hH a++[pC b a,pC b d]
 |true,v,_=>[fL]++hH d++[pC b a]
 |true,l,v=>[fL]++hH d++[pC b a,fL]
 |true,l,l=>[fL]++hH d++[pC b a,pC b d]
abbrev Ia(b:Int)(a:fO):x:=.n (.agg (gV b a.1 a.2.1 1))
abbrev adY(d:Int)(g:m ej)(e:Nat)(i a:fO)(b:Bool)(h:Nat):x:=
 [Ia d i,dL.A g,R e,ax (.O (dL.fn g e)),nb (g.getD e dL.D),.Q [.agg (gV d a.1 a.2.1 1),.R (.c (.bool b))],.Q [.agg (gV d a.1 a.2.1 1),.R (.c (.bool b))],Ia d a,bh b,aI 4 0,.any,bh b].getD h .any
def IY(h:Int)(b:m ej)(J:c b<=4000000):Z p 6 [R h,dL.A b] [] (nH (ov h b)) []:=by
 refine Z.bb bc func6 rfl rfl rfl λI=>?_;unfold ov;by_cases b2:cj h=l
 rotate_left
 .rw[bm λs=>b2 s.1];exact PN
 refine aO a A (g.aA (Jf (p:=p) h b2) [] a ?_);by_cases y:c b<=30
 rotate_left
 .rw[bm λs=>y s.2];exact QR
 rw[bo ⟨b2,y⟩];refine a5 [-18,-22] a bQ (g.aC 4 (λd=>d<=c b) (λd:Nat=>[(1,dL.A b),(4,aI 0 0),(6,aI 3 0),(8,R d)]) (λd=>[fL]++hH (eb h (cb h).2 (b.take d))++[pC h (eb h (cb h).2 (b.take d))]) (λd=>c b-d) 0 a C a ?_ a u ?_)
 .have j:eb h (cb h).2 (b.take 0)=(cb h).2:=rfl;rw[j];simp
 intro d z;have q:=tw (h:=h) (b.take d) eA.zero;by_cases s:d<c b
 .have o:eb h (cb h).2 (b.take (d+1))=(cI h (eb h (cb h).2 (b.take d)) (b.getD d dL.D)).1:=Ft;have F:=Uy (p:=p) h (eb h (cb h).2 (b.take d)) (b.getD d dL.D) _ q bQ;refine a5 [27,907] a bQ ?_;generalize eb h (cb h).2 (b.take d)=i at *;generalize cI h i (b.getD d dL.D)=e at *;have k:ba p [(16,k3 [B2 h i,nb (b.getD d dL.D)] (hH i) (Ew h e.1 e.2) (hH e.1))]:=.cons (l5 F) .nil;refine g.b_ b5 (adY h b d i e.1 e.2) (lc (Lf h i e.1) 5 9 10) a a a a
   ⟨.cK bc k (cv:=by trivial),.ay,.ay,.cK bc k (cv:=by simp;omega),.cK bc k (cv:=by trivial),
   cd.dZ a a a a (λr N=>by cases r<;>cases N<;>exact ef (bf:=[]) bc k (an:=f _) a ⟨rfl,rfl⟩),
   .ay,.ay,.ay,
   cd.d_ a a a a a (λw=>by cases w<;>exact ef (bf:=[]) bc k (an:=f _) a A),
   cd.d' a a a a a (λw=>by cases w<;>exact ef (bf:=[]) bc k (an:=f _) a A),.ay,A⟩ ?_
  intro x t;show g p _ _ _ _ _ (Lf h i e.1 (x 5) (x 9) (x 10));rw[t 5 ca,t 9 ca,t 10 ca];refine aO a kT (g.aw (d+1) a C ?_ ?_ ?_)
  .rw[o];simp
  .omega
  omega
 obtain rfl:d=c b:=u;rw[cY]at *;refine a5 [-27] a C (g.az ?_);have D:(eb h (cb h).2 b).2.2.1.length=2:=q.bj;have E:(eb h (cb h).2 b).2.2.2.length=2:=q.cc;have B:=Uj (p:=p) (h,eb h (cb h).2 b) (q.j6 u) (show(eb h (cb h).2 b).2.2.1.length<=4000000 by omega) (show(eb h (cb h).2 b).2.2.2.length<=4000000 by omega);generalize eb h (cb h).2 b=i at *;refine gF [] 0 a A (g.bN 1 a a a C C (g.bN 2 a a a C C (aO a A (g.bH B.tocH [] a a a a ?_ a a a bk a bk a ?_))))
 .simp only[T.Z,T,a',a7];and_intros<;>first|exact bs.same|rfl|exact D.symm|exact E.symm
 rintro -;exact aO a A E3
end
def x1(o k:al×X)(h:Int)(b:m ej)(B:c b<=4000000):Z (ah.aF V) 7 [R h,dL.A b] (hy o k) (nH (ov h b)) (hy o k):=by
 refine Z.bb bc func7 rfl rfl rfl λy=>?_;have i:ba (ah.aF V) [(18,e9 [R h] (nH (qB h)))]:=.cons (fu (Je h)) .nil;unfold ov;by_cases e:cj h=l
 rotate_left
 .rw[bm λs=>e s.1];rw[show qB h=(jY,v)from bm e]at i;exact a_ i [17,21] a C kz
 rw[show qB h=(cb h,l)from bo e]at i;by_cases p:c b<=30
 rotate_left
 .rw[bm λs=>p s.2];exact a_ i [-17,21] a bQ kz
 rw[bo ⟨e,p⟩];refine a_ i [-17,-21] a bQ (g.aC 5 (λd=>d<=c b) (λd:Nat=>[(23,dL.A b),(24,R (c b)),(4,aI 3 0),(6,aI 4 0),(25,R d)]) (λd=>hy o k++[fL,.cells 38 (ii (h,eb h (cb h).2 (b.take d)))]) (λd=>c b-d) 0 a C a ?_ a u ?_)
 .have z:eb h (cb h).2 (b.take 0)=(cb h).2:=rfl;rw[z];simp
 intro d w;have t:=tw (h:=h) (b.take d) eA.zero;have r:=DV (b.take d) eA.zero (EF e);by_cases s:d<c b
 .have j:eb h (cb h).2 (b.take (d+1))=(cI h (eb h (cb h).2 (b.take d)) (b.getD d dL.D)).1:=Ft;have q:=Jd o k (h,eb h (cb h).2 (b.take d)) (b.getD d dL.D) (c (b.take d)) (by simpa using t.a) bQ;rw[show xS (h,eb h (cb h).2 (b.take d)) (b.getD d dL.D)=((h,(cI h (eb h (cb h).2 (b.take d)) (b.getD d dL.D)).1),(cI h (eb h (cb h).2 (b.take d)) (b.getD d dL.D)).2)from bo r]at q;refine a5 [26] a bQ ?_;generalize eb h (cb h).2 (b.take d)=x at *;generalize cI h x (b.getD d dL.D)=D at *;refine g.aA q [0,1,2] a (aO a kT (g.aw (d+1) a C ?_ ?_ ?_))
  .rw[j];simp
  .omega
  omega
 obtain rfl:d=c b:=u;rw[cY]at *;refine a5 [-26] a C (g.az ?_);exact aO a A kz
section
variable {p:ah V}[p.bZ]
omit [p.bZ]in
def IF(d:Nat)(b:Nat->Int)(j:Bytes b)(h:Nat)(r:h<=500000)(k:d<=1048576):
  bl (ι:={e:Int×Nat // h<=e.2/\e.2<=h+3}) p 14 [aI 0 0] [eY d b h] (λe=>R e.1.1) (λe=>[eY d b e.1.2]):=by
 refine bl.ca func14 rfl rfl rfl λz=>?_;refine aO a A (g.aX (gz d b j h 60 u k u) [0] a bk ?_);rintro⟨t,w,x⟩;by_cases o:t=0
 .refine a5 [5] a (by simp[o]) (g.aX (gz d b j (h+1) 2 u k u) [0] a bk ?_);rintro⟨i,s,q⟩;have m:i=0∨i=1:=u;rcases m with rfl|rfl
  .exact aO a C (g.bu ⟨(0,h+2),by simp⟩ (g.aJ [0] a C kK))
  exact aO a C (g.bu ⟨(100,h+2),by simp⟩ (g.aJ [0] a C kK))
 refine a5 [-5] a (by simp[o]) (g.aX (gz d b j (h+1) 99 u k u) [0] a bk ?_);rintro⟨y,cb,w1⟩;refine aO a kT (g.aX (gz d b j (h+2) 3 u k u) [0] a bk ?_);rintro⟨i,s,q⟩;have m:i=0∨i=1∨i=2:=u;rcases m with rfl|rfl|rfl
 .exact Qk
 .exact Qk
 exact aO a C (g.bu ⟨(1+y,h+3),by simp⟩ (g.aJ [0] a C kK))
def TD:m ej ⊕ (Nat×(Nat->m K))->K
 |.inl a=>.A v 8 (c a) (dL.fn a)
 |.inr b=>.A v 8 b.1 b.2
abbrev RH:={d:Int×(m ej ⊕ (Nat×(Nat->m K))) // match d.2 with|.inl b=>c b<=30|.inr a=>31<=a.1/\a.1<=40}
abbrev Ng(a:m ej):ap:=.w 45 8 (c a) (dL.fn a)
abbrev ad6:m K:=[.int .i64 5,.int .i64 0,EG,.int .i64 0,.int .i64 0,.int .i64 0,.V [],EG]
def IC(o:Nat)(e:Nat->Int)(j:Bytes e)(B:o<=1048576):
  bl (ι:=RH) p 5 [ax (.A v 1 o (p9 e))] [] (λb=>.Q [.R (.c (.int .i64 b.1.1)),.R (.c (TD b.1.2))]) (λ_=>[]):=by
 refine bl.ca func5 rfl rfl rfl λaa=>?_;refine aO a A (g.aX (WB o e B) [] a bk ?_);rintro⟨i,W⟩;refine a5 [903] a A (g.bB 5 45 8 a a ?_);refine aO a A (g.aX (gz i e j 0 12 u u u) [0] a bk ?_);rintro⟨F,I,J⟩;refine aO a A ?_;refine g.aC 2 (λb:Nat×m ej×Nat=>b.1+c b.2.1<=11/\b.2.2<=1+500*c b.2.1) (λb=>[(4,aI 0 0),(5,.n (.R (.w 1 8 (c b.2.1) (dL.fn b.2.1)))),(6,R b.1)])
  (λb=>[eY i e b.2.2,Ng b.2.1]) (λb=>b.1) (F.toNat,[],1) a ?_ a ?_ a ⟨by grind,by grind⟩ ?_
 .simp;omega
 .simp
 rintro⟨t,d,k1⟩ ⟨G,y⟩;simp only at G y;by_cases Y:0<t
 .refine a5 [13] a N1 (g.aX (UF i e j k1 u u) [0] a bk ?_);rintro⟨⟨w,x⟩,O⟩;have bT:=dL.aW d w;have Q:=O.hn;have V:=O.g3;simp only at Q V;refine aO a ?_ (g.aw (t-1,d++[w],x) a ?_ ?_ ⟨by grind,by grind⟩ M)
  .simp only[T,a8,a',a7];exact⟨by omega,show(c d+1)*104<=140737488355328 by omega⟩
  .exact Qz
  exact Qz
 refine a5 [-13] a NZ (g.az ?_);refine aO a A (g.aX (gz i e j k1 40 u u u) [0] a bk ?_);rintro⟨E,Z,X⟩;by_cases N:E=0
 .refine a5 [23] a pI (g.aC 2 (λb:Nat×(Nat->m K)=>b.1<=31) (λb=>[(4,aI 0 0),(5,.n (.R (.w 1 8 b.1 b.2)))]) (λb=>[eY i e (k1+1:Nat),.w 45 8 b.1 b.2]) (λb=>40-b.1) (c d,dL.fn d) a C a C a EQ ?_);rintro⟨S,U⟩ z;simp only at z;by_cases H:S<=30
  .refine a5 [26] a ?_ (g.aw (S+1,cf S U λD=>([ad6]:m (m K)).getD D []) a ?_ ?_ EQ EQ)
   .simp only[T,bw,a',a7];exact⟨show(S+1)*104<=140737488355328 by omega,by omega⟩
   .simp
   simp
  refine a5 [-26] a bQ (g.az ?_);refine aO a A (g.aX (IF i e j (k1+1) u u) [0] a bk ?_);rintro⟨⟨k,s⟩,q⟩;simp only at q;refine aO a A (g.aX (gz i e j s 5 u u u) [0] a bk ?_);rintro⟨h,cb,w1⟩;have r:h=0∨h=1∨h=2∨h=3∨h=4:=u;rcases r with rfl|rfl|rfl|rfl|rfl
  .exact zF
  .exact zF
  .exact zF
  .exact zF
  exact aO a C (g.bu ⟨(k,.inr (S,U)),by simp only;omega⟩ (g.aJ [] a C eW))
 refine a5 [-23] a pI (g.aX (IF i e j (k1+1) u u) [0] a bk ?_);rintro⟨⟨k,s⟩,q⟩;simp only at q;refine aO a A (g.aX (gz i e j s 5 u u u) [0] a bk ?_);rintro⟨h,cb,w1⟩;have r:h=0∨h=1∨h=2∨h=3∨h=4:=u;rcases r with rfl|rfl|rfl|rfl|rfl
 .exact zD
 .exact zD
 .exact zD
 .exact zD
 exact aO a C (g.bu ⟨(k,.inl d),by simp only;omega⟩ (g.aJ [] a C eW))
end
def IZ{p:ah V}(h:Int)(d:Nat)(b:Nat->m K)(i:31<=d/\d<=40):Z p 6 [R h,ax (.A v 8 d b)] [] (nH (jY,v)) []:=by
 refine Z.bb bc func6 rfl rfl rfl λe=>?_;by_cases b2:cj h=l
 .exact aO a A (g.aA (Jf (p:=p) h b2) [] a QR)
 exact PN
def IX(k j:al×X)(b:Int)(i:Nat)(h:Nat->m K)(p:31<=i/\i<=40):Z (ah.aF V) 7 [R b,ax (.A v 8 i h)] (hy k j) (nH (jY,v)) (hy k j):=by
 refine Z.bb bc func7 rfl rfl rfl λo=>?_;have e:ba (ah.aF V) [(18,e9 [R b] (nH (qB b)))]:=.cons (fu (Je b)) .nil;by_cases d:cj b=l
 .rw[show qB b=(cb b,l)from bo d]at e;exact a_ e [-17,21] a bQ kz
 rw[show qB b=(jY,v)from bm d]at e;exact a_ e [17,21] a C kz
def IH{a:ah V}:Z a 8 [g2 jY,g2 jY] [] (bh l) []:=IG jY ⟨by simp,by simp,by simp,by simp[ln],by simp⟩ C
def eA.hj{p:ah V}{a:fO}(b:eA j a):Z p 8 [g2 (h,a),g2 (h,a)] [] (bh l) []:=IG (h,a) b.a.bn.eN (by have:=b.bj;show c a.2.2.1<=4000000;omega)
end R1
end Go.AM
