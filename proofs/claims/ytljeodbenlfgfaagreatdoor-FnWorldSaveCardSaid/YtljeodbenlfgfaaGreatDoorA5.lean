/- Part 5. No condition. -/
import Derived.Test.YtljeodbenlfgfaaGreatDoorA4
set_option linter.all false
set_option maxHeartbeats 8000000
open Go.Proofs
open Go.Proofs.Tryz
open List renaming length → c, range → aA, getD_eq_getElem?_getD → ak, all_eq_true → aY
open Go renaming Value → Y, TypeId → ao, World → au, Frame → aJ, execOp → ab, Operand → ae, Program → aE, Goroutine → ai, Oper → ap
open Option renaming some → f, none → n
open Bool renaming true → l, false → u
open Nat renaming beq → ad, ble → ay
open Go.Op renaming bytesLess → aU
open Go.Region renaming ready → aQ
open Go.Proofs.Tryz renaming prog → V
namespace Go.AM
variable {j z:Nat}{h:Int}{d i e t:Nat}{W:ao}{H:Y->(Nat->Option Obj)->Prop}{L:Array Bool}{bA:Mem}{D:Nat}{P:aE}{bq:ai->a5->Prop}{q:Code}{B:ai}{r:ap}{b:a5}{o:ao}{aa:Y}{α:Type}{η:ae->y}{ι:Type}{k:m an}{F:bH}{all:m ap}{dt:Array ao}{cap:m O}{cR:m y}{k7:Nat->Option Obj}{ah:m aJ}{bg:m (Nat×Bool)}{U:Nat->m O}{cP:ae}{gs:Array ai}{aT:m Nat}{cj:m Prop}{off:Nat}{op:BinOp}{aF:Array ap}{Z:m Prop}{br:m ap}{az:a5}{ty:ao}{val:Nat->Nat->Y}{A:m Y}{bj:au}{ag:Array ae}{aq dh:m an}{res:ι->y}{aP:ι->m an}
variable {CT:m (Nat×bJ)}{av:m il}{be:fB}{ac:m (Nat×cq)}{a4:cq}
namespace R1
section
variable {p:af V}
def nu(a:m cb)(b:Nat)(e:Y)(d:Nat):O:=if d=b then .val e else .R u 2 (a.getD d (0,[])).2.length (bG.fn (a.getD d (0,[])).2)
def gp(a:m cb)(b:Nat)(e:Y)(d:Nat):m O:=[.int .i64 (a.getD d (0,[])).1,nu a b e d]
def Lv{Z}{i0}{bz}(s:e≠i0):bs (e+1) (cg e (gp Z i0 bz) (λb=>[a3.a3 (Z.getD e (0,[]))].getD b [])) (gp Z i0 bz):=λa d=>by
 unfold cg;split
 .rfl
 have:a=e:=x;subst this;rw[sx];exact Fc
def Lw{Z}{i0}{bz EY}:bs (i0+1) (cg i0 (gp Z i0 EY) (λb=>[[.int .i64 (Z.getD i0 (0,[])).1,.val bz]].getD b [])) (gp Z i0 bz):=λa d=>by
 unfold cg;split
 .simp only[gp,nu,bl (show a≠i0 by omega)]
 have:a=i0:=x;subst this;rw[sx];simp only[gp,nu,bo];rfl
abbrev S3:Type:=Nat×fu×Nat×m Y
def I3(b:m cb)(a:Nat)(d:S3):Prop:=d.1<=c b/\((d.1<=a/\d.2.2.1=0)∨(a<d.1/\d.2.2.1=(b.getD a (0,[])).2.length/\ej 2 (b.getD a (0,[])).2.length (bG.fn (b.getD a (0,[])).2) d.2.2.2))
abbrev aam(a:S3):an:=.E (cp 139 2 a.2.1 a.2.2.1 a.2.2.2)
abbrev nI(a:S3):Y:=c0 a.2.1 a.2.2.1
def XL(b)(i0)(V:i0<c b.1)(K:0<(b.1.getD i0 (0,[])).2.length)(y:c b.1<=4000000)(A:∀e∈b.1,c e.2<=4000000)(X:c b.2.1<=4000000)(J:kr b)(S:c b.2.2<=4000000):
  bk (ι:=pX (b.1.getD i0 (0,[])).2) p 87 [bY b] [] (λ_=>.n (.agg [.K 0 (.R (c b.1) 2 0 (c b.1)),.K 1 (.R (c b.2.1) 2 0 (c b.2.1)),.c (.R u 2 (c b.2.2) (a1.fn b.2.2))]))
   (λj=>[.p 99 2 (c b.1) (gp b.1 i0 (c0 j.1.1 (b.1.getD i0 (0,[])).2.length)),.p 114 2 (c b.2.1) (bh.fn b.2.1),tk (b.1.getD i0 (0,[])).2 j]):=by
 refine bk.bx bb func87 rfl rfl rfl λW=>?_;have k:a9 p [(131,xG),(132,xH)]:=.cons EP (.cons EQ .nil);refine a7 k [902] a v (g.ep 2 0 99 2 (a3.fn []) a a ?_);refine g.ep 2 1 114 2 (bh.fn []) a a ?_;refine g.fo 139 2 ?_;refine b9 k a v ?_;refine g.aL 6 (I3 b.1 i0) (λo:S3=>[(1,aH 0 0),(2,aH 1 0),(3,aH 2 0),(9,a3.R b.1),(10,R (c b.1)),(11,R o.1)])
  (λo=>[.cells 27 [.c (.R u 2 (c b.1) (a3.fn b.1)),.c (.R u 2 (c b.2.1) (bh.fn b.2.1)),.c (.R u 2 (c b.2.2) (a1.fn b.2.2))],.cells 27 [cF,cF,cF],.cells 27 [.K 3 (.R o.1 2 0 o.1),.K 4 (.R 0 2 0 0),cF],.p 99 2 o.1 (gp b.1 i0 (nI o)),.p 114 2 0 (bh.fn []),aam o]) (λo=>c b.1-o.1) (0,.nil n,0,[]) a ?_ a ?_ a ⟨by omega,.inl ⟨by omega,rfl⟩⟩ ?_
 .simp
 .simp
 rintro⟨d,h,q,m⟩ ⟨t,z⟩;simp only at t z;by_cases s:d<c b.1
 .have w:b.1.getD d (0,[])∈b.1:=N;have i:b.1.getD (d:Int).toNat a3.C=b.1.getD d (0,[]):=N;by_cases C:d=i0
  .subst C;have D:q=0:=by rcases z with⟨_,Q⟩|⟨O,_⟩<;>omega
   have M:=A _ w;refine a7 k [12,905] a bu ?_;rw[i];generalize F:b.1.getD d (0,[])=e at *;refine g.eI (ι:=pX e.2) b6 3 5 4 (λr=>ay r 2) (λr=>[aH 2 0,cD 3 (.R d 2 0 d),fL e].getD r .any) (λj r=>[.any,.any,.any,.n (.agg [.c (.int .i64 e.1),.c (rW e.2 j)]),ax (.R l 2 1 (λB=>[[.int .i64 e.1,rW e.2 j]].getD B []))].getD r .any)
    (λj=>[.cells 27 [.c (.R u 2 (c b.1) (a3.fn b.1)),.c (.R u 2 (c b.2.1) (bh.fn b.2.1)),.c (.R u 2 (c b.2.2) (a1.fn b.2.2))],.cells 27 [cF,cF,cF],.cells 27 [.K 3 (.R d 2 0 d),.K 4 (.R 0 2 0 0),cF],.p 99 2 d (gp b.1 d (c0 h q)),.p 114 2 0 (bh.fn []),.E (cp 139 2 h q m),.cells 99 [.c (.int .i64 e.1),.c (.R u 2 (c e.2) (bG.fn e.2))],tk e.2 j])
    rfl rfl rfl rfl rfl rfl rfl (λr s=>by have:=fl s;omega) rfl
    ⟨aK.x,aK.x,aK.x,v,v,v,v,v,v⟩
    (λj=>⟨aK.x,aK.x,aK.x,v,aK.x,v⟩)
    (dA.di (WQ e K M) [] a a a a a a a bn a bn) λj=>?_
   refine a7 k [906] a PP (g.swap 5 7 ca a a (λ_ _ s=>s.1) (λ_ _ s=>s.1) ?_);refine b9 k a bD (g.aA (d+1,j.1.1,c e.2,j.1.2) a E ?_ ?_ ?_)
   .have aj:=Lw (Z:=b.1) (i0:=d) (bz:=c0 j.1.1 (c e.2)) (EY:=c0 h q);rw[F]at aj;simp only[T.X,T,a_,a'];exact⟨⟨bs.same,bs.same,bs.same⟩,⟨bs.same,bs.same,bs.same⟩,⟨a,bs.same⟩,aj,bs.same⟩
   .refine⟨by grind,.inr ⟨by grind,?_⟩⟩;grind
   grind
  refine a7 k [12] a ?_ (g.aA (d+1,h,q,m) a ?_ ?_ ?_ ?_)
  .have j:=A _ w;simp only[T,i,bG.l,a8];exact⟨by omega,v,v,show(d+1)*32<=_ by omega,bG.T _,j,by omega,by omega,fo x⟩
  .simp
  .have aj:=Lv (Z:=b.1) (bz:=c0 h q) C;simp only[T.X,T,i,bG.l,a_,a'];exact⟨⟨bs.same,bs.same,bs.same⟩,⟨bs.same,bs.same,bs.same⟩,⟨a,bs.same⟩,aj,bs.same⟩
  .refine⟨by grind,?_⟩;grind
  grind
 obtain rfl:d=c b.1:=x;obtain⟨_,D,I⟩:i0<c b.1/\q=(b.1.getD i0 (0,[])).2.length/\ej 2 (b.1.getD i0 (0,[])).2.length (bG.fn (b.1.getD i0 (0,[])).2) m:=N;subst D;clear z;generalize b.1.getD i0 (0,[])=e at *;refine a7 k [-12] a E (g.aB ?_);refine b9 k a v ?_;refine g.aL 6 (λd=>d<=c b.2.1) (λd:Nat=>[(1,aH 0 0),(2,aH 1 0),(3,aH 2 0),(24,bh.R b.2.1),(25,R (c b.2.1)),(26,R d)])
  (λd=>[.cells 27 [.c (.R u 2 (c b.1) (a3.fn b.1)),.c (.R u 2 (c b.2.1) (bh.fn b.2.1)),.c (.R u 2 (c b.2.2) (a1.fn b.2.2))],.cells 27 [cF,cF,cF],.cells 27 [.K 3 (.R (c b.1) 2 0 (c b.1)),.K 4 (.R d 2 0 d),cF],.p 99 2 (c b.1) (gp b.1 i0 (c0 h (c e.2))),.p 114 2 d (bh.fn (b.2.1.take d)),.E (cp 139 2 h (c e.2) m)]) (λd=>c b.2.1-d) 0 a ?_ a ?_ a x ?_
 .simp
 .simp
 intro d t;by_cases s:d<c b.2.1
 .have w:b.2.1.getD d (0,[])∈b.2.1:=N;have i:b.2.1.getD (d:Int).toNat bh.C=b.2.1.getD d (0,[]):=N;refine a7 k [27] a ?_ (g.aA (d+1) a ?_ ?_ ?_ ?_)
  .have j:=J _ w;simp only[T,i,cu.l,a8];exact⟨by omega,v,v,show(d+1)*32<=_ by omega,cu.T _,j.1,j.2,by omega,by omega,fo x⟩
  .simp
  .exact FL
  .grind
  omega
 obtain rfl:d=c b.2.1:=x;rw[c9];refine a7 k [-27] a E (g.aB ?_);refine b9 k a v (g.aC (IT b.2.2 S) [] a (b9 k a v (g.bh ⟨(h,m),I⟩ [3,4,5] ?_ (λB U=>absurd U E))));simp
end
abbrev AE(d:m cY):Prop:=d.Pairwise λa b=>aU a.1 b.1=l
def adT{o}(g:dP o=l):AE o:=by simp only[dP,cl]at g;have i:=fS.1 g.1;rw[AE,m7];intro e k b d a;rw[pc b,pc d];refine L5 (o:=o) (e:=k) (λm j h=>?_) e a;have:=i m x;simp[iZ,cl,jE,gM]at this;grind
def zI{o}:dP o=l↔(∀d∈o,fU d.1=l/\fO d.2=l)/\AE o/\o.Pairwise (λj k=>k8 j.1 k.1=u)/\c o<=6:=by
 constructor
 .intro b;have t:=adT b;simp only[dP,cl,bw]at b;have h:=fS.1 b.1;refine⟨λd p=>?_,t,?_,b.2⟩
  .obtain⟨e,a,rfl⟩:=g6 p;have:=h e a;exact OB
  rw[m7];intro e r a g i;have:=h r g;exact OB
 rintro⟨s,v,w,q⟩;simp only[dP,cl,bw];refine⟨fS.2 λe a=>?_,q⟩;have m:=s _ (w7 a);rw[pc a]at m;simp only[iZ,cl,jE,gM];grind[List.pairwise_iff_getElem,pc]
end R1
def bk.le{s:af P}{t}{args}{oF:ι->y}(v:bk s t args k res aP){e:ι->m Prop}(x:∀a,kk (res a) (oF a)=f (e a))(z:∀a,T (e a)):bk s t args k oF aP:=
 ⟨v.1,λB A p j w g i=>v.2 B A p j w g λa h C q o b d r=>i a h C q o (pq (x a) (z a) b) d r⟩
def bk.ar{p:af P}{q}{args}{res}{aP}(r:bk (ι:=ι) p q args k (λ_=>res) (λ_=>aP)):X p q args k res aP:=
 ⟨r.1,λt A j h s d g=>r.2 t A j h s d λ_ e v m i a b o=>g e v m i a b o⟩
namespace R1
variable {p:af V}
abbrev ui(e:c1 α)(d:m α):Type:={a:Nat->m O // ∀b,b<c d->a b=e.fn d b}
structure dK(b:ce):Prop where
 aM:c b.1<=4000000
 bl:∀aM∈b.1,c aM.2<=4000000
 a0:c b.2.1<=4000000
 bn:kr b
 aI:c b.2.2<=4000000
def V9(b)(d)(h:dK b)(o:d.1=1):
  bk (ι:={e:Nat->m O // ∀j,j<c (b.1.filter λi=>!(i.1==d.2.1))->e j=a3.fn (b.1.filter λi=>!(i.1==d.2.1)) j}) p 58 [bY b,ep d] []
   (λ_=>.n (.agg [dD 0 (c b.1) (c (b.1.filter λi=>!(i.1==d.2.1))),dD 1 (c b.2.1) (c b.2.1),.c (hZ b.2.2)])) (λe=>[.p 99 2 (c b.1) e.1,.p 114 2 (c b.2.1) (bh.fn b.2.1)]):=by refine bk.bx bb func58 rfl rfl rfl λq=>?_;refine aZ a v (g.aC (pb b h.aM h.bl h.a0 h.bn h.aI) [] a (aZ a v (g.aC (UB d o) [] a (aZ a v (g.cK (UI b d h.aM) a a a a E a ?_)))));rintro⟨e,k⟩;refine aZ a v (g.bh ⟨e,k⟩ [3,4] ?_ fy);simp
def V8(b)(d)(k:dK b)(o:d.1=1):X p 58 [bY b,ep d] [] (bY (b.1.filter λa=>!(a.1==d.2.1),b.2.1,b.2.2)) []:=by
 have m:c (b.1.filter λa=>!(a.1==d.2.1))<=c b.1:=kA _ _;have e:=V9 (p:=p) b d k o;have g:=bk.bL (aP:=λU:ui a3 (b.1.filter λa=>!(a.1==d.2.1))=>[.p 99 2 (c b.1) U.1]) (W:=114) (h:=2) (j:=λ_=>c b.2.1) (U:=λ_=>bh.fn b.2.1) e bn (λ_=>?_) bn (λ_=>g1 _);have i:=bk.bL (aP:=λ_=>[]) (W:=99) (h:=2) (j:=λ_=>c b.1) (U:=λU:ui a3 (b.1.filter λa=>!(a.1==d.2.1))=>U.1) g bn (λ_=>?_) bn (λ_=>bB _);refine(i.le (oF:=λ_=>bY (b.1.filter λa=>!(a.1==d.2.1),b.2.1,b.2.2)) bn (λU=>?_)).ar
 .simp only[T.X,T,a_,a'];exact⟨U.2,bs.same,bs.same⟩
 .simpa using m
 simp
def Wh(b)(d)(e:dK b)(j:d.1≠1)(h:d.1≠2)(k:d.1≠3)(i:d.1≠4):
  bk (ι:=Unit) p 58 [bY b,ep d] [] (λ_=>.n (.agg [dD 0 (c b.1) (c b.1),dD 1 (c b.2.1) (c b.2.1),.c (hZ b.2.2)])) (λ_=>[.p 99 2 (c b.1) (a3.fn b.1),.p 114 2 (c b.2.1) (bh.fn b.2.1)]):=by refine bk.bx bb func58 rfl rfl rfl λm=>?_;refine aZ a v (g.aC (pb b e.aM e.bl e.a0 e.bn e.aI) [] a (aZ a v (g.aC (UD d j h k i) [] a (aZ a v (g.cK (WK (mO b d) a (.ptr 5 0)).tocH a a a a E a ?_)))));intro _;refine aZ a v (g.bh () [3,4] ?_ fy);simp
def Wa(b)(d:dO)(e:dK b)(h:d.1=2)(i:d.2.1<0∨d.2.1>c b.2.2):
  bk (ι:=Unit) p 58 [bY b,ep d] [] (λ_=>.n (.agg [dD 0 (c b.1) (c b.1),dD 1 (c b.2.1) (c b.2.1),.c (hZ b.2.2)])) (λ_=>[.p 99 2 (c b.1) (a3.fn b.1),.p 114 2 (c b.2.1) (bh.fn b.2.1)]):=by refine bk.bx bb func58 rfl rfl rfl λj=>?_;refine aZ a v (g.aC (pb b e.aM e.bl e.a0 e.bn e.aI) [] a (aZ a v (g.aC (IZ d h) [] a (aZ a v (g.cK (T0 b d i).tocH a a a a E a ?_)))));intro _;refine aZ a v (g.bh () [3,4] ?_ fy);simp
def CF{b}{d}(a:bk (ι:=Unit) p 58 [bY b,ep d] [] (λ_=>.n (.agg [dD 0 (c b.1) (c b.1),dD 1 (c b.2.1) (c b.2.1),.c (hZ b.2.2)])) (λ_=>[.p 99 2 (c b.1) (a3.fn b.1),.p 114 2 (c b.2.1) (bh.fn b.2.1)])):X p 58 [bY b,ep d] [] (bY b) []:=by
 have e:=bk.bL (aP:=λ_:Unit=>[.p 99 2 (c b.1) (a3.fn b.1)]) (W:=114) (h:=2) (j:=λ_=>c b.2.1) (U:=λ_=>bh.fn b.2.1) a bn (λ_=>?_) bn (λ_=>g1 _);have g:=bk.bL (aP:=λ_:Unit=>[]) (W:=99) (h:=2) (j:=λ_=>c b.1) (U:=λ_=>a3.fn b.1) e bn (λ_=>?_) bn (λ_=>bB _);refine(g.le (oF:=λ_=>bY b) bn (λU=>?_)).ar
 .simp only[T.X,T,a_,a'];exact⟨bs.same,bs.same,bs.same⟩
 .simp
 simp
def V'(b)(h:dO)(d:dK b)(m:h.1=2)(i:Nat)(o:h.2.1=i)(q:i<=c b.2.2):
  bk (ι:=ui bh (b.2.1.filter λj=>!jr i b.2.2 j)) p 58 [bY b,ep h] []
   (λ_=>.n (.agg [dD 0 (c b.1) (c b.1),dD 1 (c b.2.1) (c (b.2.1.filter λj=>!jr i b.2.2 j)),.c (.R u 2 h.2.1.toNat (a1.fn b.2.2))])) (λe=>[.p 99 2 (c b.1) (a3.fn b.1),.p 114 2 (c b.2.1) e.1]):=by refine bk.bx bb func58 rfl rfl rfl λr=>?_;refine aZ a v (g.aC (pb b d.aM d.bl d.a0 d.bn d.aI) [] a (aZ a v (g.aC (IZ h m) [] a (aZ a v (g.cK (T1 b h i o q d.a0 d.aI) a a a a E a ?_)))));rintro⟨e,k⟩;refine aZ a v (g.bh ⟨e,k⟩ [3,4] ?_ fy);simp
def V_(b)(d:dO)(v:dK b)(q:d.1=2)(j:Nat)(w:d.2.1=j)(r:j<=c b.2.2):X p 58 [bY b,ep d] [] (bY (b.1,b.2.1.filter λa=>!jr j b.2.2 a,b.2.2.take j)) []:=by
 have m:c (b.2.1.filter λa=>!jr j b.2.2 a)<=c b.2.1:=kA _ _;have e:=V' (p:=p) b d v q j w r;have g:=bk.bL (aP:=λ_:ui bh (b.2.1.filter λa=>!jr j b.2.2 a)=>[.p 99 2 (c b.1) (a3.fn b.1)]) (W:=114) (h:=2) (j:=λ_=>c b.2.1) (U:=λU=>U.1) e bn (λ_=>?_) bn (λ_=>g1 _);have i:=bk.bL (aP:=λ_:ui bh (b.2.1.filter λa=>!jr j b.2.2 a)=>[]) (W:=99) (h:=2) (j:=λ_=>c b.1) (U:=λ_=>a3.fn b.1) g bn (λ_=>?_) bn (λ_=>bB _);refine(i.le (oF:=λ_=>bY (b.1,b.2.1.filter λa=>!jr j b.2.2 a,b.2.2.take j)) bn (λU=>?_)).ar
 .have o:d.2.1.toNat=c (b.2.2.take j):=N;simp only[T.X,T,a_,a'];refine⟨bs.same,U.2,o,λt s=>?_⟩;have k:t<j:=N;simp[c1.fn,gG,ak,iq,k]
 .simp
 simpa using m
end R1
def dI.b':dI->Nat
 |.nil=>0
 |.ak a _ _ b=>a.b'+b.b'+1
namespace R1
variable {p:af V}
def UQ(o)(j):X p 212 [ax (eN o),R j] [] (R (o.find j)) []:=by
 refine X.I func212 rfl λs=>?_;refine aZ a v (g.loop (λd:dI=>d.find j=o.find j) (λd=>[(0,ax (eN d)),(1,R j)]) (λ_=>[]) (λd=>d.b') o a (.cons a (eJ a E)) a ?_);intro d b;cases d with
 |nil=>
  refine aZ a v (g.aN (rS a underlying267 a a a) a a ?_);refine a6 [-7,-15] a E (g.bs a a ?_);refine aZ a v (g.aN (rS a underlying267 a a a) a a ?_);refine aZ a v (g.aw a ?_);exact bD
 |ak h e k i=>
  have r:(dI.ak h e k i).find j=if j=e then k else if j<e then h.find j else i.find j:=rfl;rw[r]at b;refine aZ a v (g.aN (tv a underlying267 a a a) a a ?_);by_cases q:j=e
  .subst q;rw[bo a]at b;refine a6 [7,-15] a E (g.bs a a ?_);refine aZ a v (g.aN (tv a underlying267 a a a) a a ?_);refine aZ a v (g.aw a ?_);exact bu
  rw[bl q]at b;by_cases m:j<e
  .rw[bo m]at b;cases h<;>exact a6 [7,15,22] rfl bu ⟨_,b,by simp only[dI.b'];omega,.cons rfl (eJ rfl E),rfl⟩
  rw[bl m]at b;cases i<;>exact a6 [7,15,-22] rfl bu ⟨_,b,by simp only[dI.b'];omega,.cons rfl (eJ rfl E),rfl⟩
end R1
namespace R1
section
variable {p:af V}
def I8(b)(d)(e:dK b)(j:d.1=4)(h:Nat->m O)(i:X p 156 [aH 6 0,iO (lW d)] (oI b d (a1.fn b.2.2)) (.Q []) (oI b d h)):
  bk (ι:=Unit) p 58 [bY b,ep d] [] (λ_=>.n (.agg [dD 0 (c b.1) (c b.1),dD 1 (c b.2.1) (c b.2.1),dD 2 (c b.2.2) (c b.2.2)])) (λ_=>[.p 99 2 (c b.1) (a3.fn b.1),.p 114 2 (c b.2.1) (bh.fn b.2.1),.p 48 2 (c b.2.2) h]):=by refine bk.bx bb func58 rfl rfl rfl λk=>?_;refine aZ a v (g.aC (Js b e.aM e.bl e.a0 e.bn e.aI) [] a (aZ a v (g.aC (UC d j) [] a (aZ a v (g.cK i.tocH a a a a E a ?_)))));intro _;refine aZ a v (g.bh () [3,4,5] ?_ fy);simp
def I9(b)(d)(U:Nat->m O)(e)(g:c e=c b.2.2)(q:bs (c b.2.2) U (a1.fn e))(i:bk (ι:=Unit) p 58 [bY b,ep d] [] (λ_=>.n (.agg [dD 0 (c b.1) (c b.1),dD 1 (c b.2.1) (c b.2.1),dD 2 (c b.2.2) (c b.2.2)])) (λ_=>[.p 99 2 (c b.1) (a3.fn b.1),.p 114 2 (c b.2.1) (bh.fn b.2.1),.p 48 2 (c b.2.2) U])):
  X p 58 [bY b,ep d] [] (bY (b.1,b.2.1,e)) []:=by
 have r:=bk.bL (aP:=λ_:Unit=>[.p 99 2 (c b.1) (a3.fn b.1),.p 114 2 (c b.2.1) (bh.fn b.2.1)]) (W:=48) (h:=2) (j:=λ_=>c b.2.2) (U:=λ_=>U) i bn (λ_=>?_) bn (λ_=>g1 _);have k:=bk.bL (aP:=λ_:Unit=>[.p 99 2 (c b.1) (a3.fn b.1)]) (W:=114) (h:=2) (j:=λ_=>c b.2.1) (U:=λ_=>bh.fn b.2.1) r bn (λ_=>?_) bn (λ_=>g1 _);have o:=bk.bL (aP:=λ_:Unit=>[]) (W:=99) (h:=2) (j:=λ_=>c b.1) (U:=λ_=>a3.fn b.1) k bn (λ_=>?_) bn (λ_=>bB _);refine(o.le (oF:=λ_=>bY (b.1,b.2.1,e)) bn (λ_=>?_)).ar
 .simp only[T.X,T,a_,a'];refine⟨bs.same,bs.same,g.symm,?_⟩;intro s a;exact q s (by first|exact a|(rw[<-g];exact a))
 .simp
 .simp
 simp
def Wg(b)(a:dO)(d:dK b)(i:a.1=4)(e:0<=a.2.1)(g:a.2.1<c b.2.2)(h:a8 .i64 (3-lq b a)):
  X p 58 [bY b,ep a] [] (bY (b.1,b.2.1,b.2.2.set (0+a.2.1.toNat) (3-lq b a,(b.2.2.getD (0+a.2.1.toNat) a1.C).2))) []:=
 I9 b a _ _ E (a1.cU b.2.2 (0+a.2.1.toNat) (3-lq b a,(b.2.2.getD (0+a.2.1.toNat) a1.C).2) (c b.2.2) (bB _)) (I8 b a d i _ (UT b a e g h))
def Wf(b)(d:dO)(e:dK b)(h:d.1=4)(g:¬(0<=d.2.1/\d.2.1<c b.2.2)):X p 58 [bY b,ep d] [] (bY b) []:=
 I9 b d _ b.2.2 a bs.same (I8 b d e h _ (US b d g))
abbrev Em(a:ce)(i:dO)(e:Nat)(g b d:Nat)(h:m Y):m an:=tA a i [.p 99 2 (c a.1) (gp a.1 e (.slice (f ⟨g,0,n⟩) d b)),.p 114 2 (c a.2.1) (bh.fn a.2.1),.E (cp 139 2 (.row g b) d h)] (dD 3 (c a.1) (c a.1)) (dD 4 (c a.2.1) (c a.2.1)) (.c (hZ a.2.2))
def gU(a:m cZ)(b:Nat)(d:bC):m cZ:=a.set b ((a.getD b (0,[])).1,d)
def JN{ag}{o}{d}(k:ej 2 (c ag) (bG.fn ag) d)(e:z<c ag)(j:m6 A [.c (.V o)]):ej 2 (c ag) (bG.fn (gU ag z o)) (d.take (z*2+1)++A++d.drop (z*2+1+c A)):=by
 refine ej.ff k z 1 e j E (λq p h=>?_) a λg m b=>?_
 .simp[c1.fn,gG,gU,ak,o2,p_ h]
 have i:bG.fn (gU ag z o) z=[.int .i64 (ag.getD z (0,[])).1,.V o]:=by simp[c1.fn,gG,gU,ak,o2,e];rfl
 rw[i]at b;rcases g with _|_|g
 .simp at b;subst b;exact .inr ⟨by omega,a⟩
 .grind
 simp at b
def T5(b)(i:dO)(V:c b.1<=4000000)(d r e q:Nat)(ag)(Q:(b.1.getD d (0,[])).2=ag)(U:d<c b.1)(K:(b.1.getD d (0,[])).1=i.2.1)(M:∀y,y<c b.1->y≠d->(b.1.getD y (0,[])).1≠i.2.1)(O:i.2.2.1=q)(S:q<c ag)(W:c ag<=4000000)(B)(J:ej 2 (c ag) (bG.fn ag) B):
  bk (ι:={z:m Y // ej 2 (c ag) (bG.fn (gU ag q i.2.2.2)) z}) p 155 [aH 6 0,iO (lW i)] (Em b i d r e (c ag) B) (λ_=>.Q []) (λz=>Em b i d r e (c ag) z.1):=by
 refine bk.bO func155 rfl rfl rfl (g.aU ?_);refine aZ a v (g.aL 7 (λj:Nat×m Y=>j.1<=c b.1/\(j.1<=d->j.2=B)/\(d<j.1->ej 2 (c ag) (bG.fn (gU ag q i.2.2.2)) j.2)) (λj=>[(0,aH 6 0),(1,iO (lW i)),(8,.n (.ar (dD 3 (c b.1) (c b.1)))),(9,R (c b.1)),(10,R j.1)]) (λj=>Em b i d r e (c ag) j.2) (λj=>c b.1-j.1) (0,B) a E a E a ⟨by omega,λ_=>rfl,λF=>by omega⟩ ?_);rintro⟨h,k⟩ ⟨t,D,C⟩;simp only at t D C;have I:0+(h:Int).toNat=h:=x;by_cases F:h<c b.1
 .by_cases o:h=d
  .subst o;obtain rfl:=D (bB _);refine gV [11] 12 a QA (g.aN (a0.e8 bb (aj:=.agg [.c (.int .i64 i.2.1),.c (.val (.slice (f ⟨r,0,n⟩) (c ag) e))]) a a a a a ?_ ?_) a a ?_)
   .show f (E1.agg [.c (.int .i64 (b.1.getD (0+(h:Int).toNat) (0,[])).1),.c (nu b.1 h (.slice (f ⟨r,0,n⟩) (c ag) e) (0+(h:Int).toNat))])=_;rw[I,K,nu,bo a]
   .show 0+(h:Int).toNat<_;omega
   refine a6 [19,24,31] a ?_ ?_
   .simp only[T,a8,bw,f',a',a_];exact fA
   have Z:=J.len;have w:0+i.2.2.1.toNat*2+1=q*2+1:=x;refine g.eR bb 5 a a a a a a a ?_ a a λA s=>?_
   .show 0+i.2.2.1.toNat*2+1+1<=c k;omega
   have X:=JN J S s;refine aZ a F0 (g.aA (h+1,k.take (q*2+1)++A++k.drop (q*2+1+c A)) a E ?_ ?_ ?_)
   .simp only[T.X,T,bs.same,a_,a'];show cp 139 2 _ _ (List.take (0+i.2.2.1.toNat*2+1) k++A++List.drop (0+i.2.2.1.toNat*2+1+c A) k)=_;rw[w]
   .grind
   grind
  have N:=M h F o;refine gV [11] 12 a QA (g.aN (a0.e8 bb (aj:=.agg [.c (.int .i64 (b.1.getD h (0,[])).1),.c (.R u 2 (b.1.getD h (0,[])).2.length (bG.fn (b.1.getD h (0,[])).2))]) a a a a a ?_ ?_) a a ?_)
  .show f (E1.agg [.c (.int .i64 (b.1.getD (0+(h:Int).toNat) (0,[])).1),.c (nu b.1 d (.slice (f ⟨r,0,n⟩) (c ag) e) (0+(h:Int).toNat))])=_;rw[I,nu,bl o]
  .show 0+(h:Int).toNat<_;omega
  refine a6 [-19,-24,-31] a ?_ (g.aA (h+1,k) a ?_ ?_ ?_ ?_)
  .simp only[T,a8,eY,a',a_];exact⟨by omega,N⟩
  .simp
  .simp
  .grind
  grind
 obtain rfl:h=c b.1:=x;refine a6 [-11] a E (g.aB ?_);exact aZ a v ⟨⟨k,C U⟩,.inr a,a,a,_,_,_,a,a,a,v⟩
structure se(b:ce)(d:dO)(i0 z:Nat):Prop where
 a8:i0<c b.1
 c1:(b.1.getD i0 (0,[])).1=d.2.1
 b1:∀t,t<c b.1->t≠i0->(b.1.getD t (0,[])).1≠d.2.1
 bS:d.2.2.1=z
 gw:z<(b.1.getD i0 (0,[])).2.length
def LO(ag)(z)(o):c (gU ag z o)=c ag:=by simp[gU]
def vd{a:ce}{i0}(b:i0<c a.1):a.1.getD i0 (0,[])∈a.1:=N
set_option maxRecDepth 20000 in
def Wc(b)(d)(i:dK b)(s:d.1=3)(i0 z)(h:se b d i0 z):
  bk (ι:={j:fu×m Y // ej 2 (b.1.getD i0 (0,[])).2.length (bG.fn (gU (b.1.getD i0 (0,[])).2 z d.2.2.2)) j.2}) p 58 [bY b,ep d] []
   (λ_=>.n (.agg [dD 0 (c b.1) (c b.1),dD 1 (c b.2.1) (c b.2.1),.c (hZ b.2.2)]))
   (λj=>[.p 99 2 (c b.1) (gp b.1 i0 (c0 j.1.1 (b.1.getD i0 (0,[])).2.length)),.p 114 2 (c b.2.1) (bh.fn b.2.1),.E (cp 139 2 j.1.1 (b.1.getD i0 (0,[])).2.length j.1.2)]):=by have t:=h.gw;have r:=i.bl _ (vd h.a8);refine bk.bx bb func58 rfl rfl rfl λC=>?_;refine aZ a v (g.a6 (XL b i0 h.a8 x i.aM i.bl i.a0 i.bn i.aI) [] a bn ?_);rintro⟨⟨o,y⟩,B⟩;refine g.fA (cp.len (d:=5) a) λq=>?_;obtain⟨k,e,rfl⟩:=q.2.2.1 x;refine aZ a v (g.aC (I0 d s) [] a (aZ a v (g.cK (T5 b d i.aM i0 k e z _ a h.a8 h.c1 h.b1 h.bS t r y B) a a a a E a ?_)));rintro⟨A,w⟩;refine aZ a v (g.bh ⟨(.row k e,A),w⟩ [3,4,5] ?_ fy);simp
abbrev g8(b:ce)(d:dO)(a e:Nat):ce:=(b.1.set a ((b.1.getD a (0,[])).1,gU (b.1.getD a (0,[])).2 e d.2.2.2),b.2.1,b.2.2)
def Um{q}{args}(b)(d)(i0 z)(x:i0<c b.1)(t:bk (ι:={g:fu×m Y // ej 2 (b.1.getD i0 (0,[])).2.length (bG.fn (gU (b.1.getD i0 (0,[])).2 z d.2.2.2)) g.2}) p q args []
   (λ_=>.n (.agg [dD 0 (c b.1) (c b.1),dD 1 (c b.2.1) (c b.2.1),.c (hZ b.2.2)]))
   (λg=>[.p 99 2 (c b.1) (gp b.1 i0 (c0 g.1.1 (b.1.getD i0 (0,[])).2.length)),.p 114 2 (c b.2.1) (bh.fn b.2.1),.E (cp 139 2 g.1.1 (b.1.getD i0 (0,[])).2.length g.1.2)])):
  X p q args [] (bY (g8 b d i0 z)) []:=by
 generalize e:b.1.getD i0 (0,[])=i at *;have A:∀k,k≠i0->a3.fn (g8 b d i0 z).1 k=a3.fn b.1 k:=λk o=>by simp[c1.fn,gG,ak,o2,p_ o]
 have C:a3.fn (g8 b d i0 z).1 i0=[.int .i64 i.1,.R u 2 (c i.2) (bG.fn (gU i.2 z d.2.2.2))]:=by have:(g8 b d i0 z).1.getD i0 a3.C=(i.1,gU i.2 z d.2.2.2):=N;show a3.a3 ((g8 b d i0 z).1.getD i0 a3.C)=_;rw[this];show[O.int .i64 i.1,O.R u 2 (c (gU i.2 z d.2.2.2)) (bG.fn (gU i.2 z d.2.2.2))]=_;rw[LO]
 have y:=bk.fy (aP:=λg:{g:fu×m Y // ej 2 (c i.2) (bG.fn (gU i.2 z d.2.2.2)) g.2}=>[.p 99 2 (c b.1) (gp b.1 i0 (c0 g.1.1 (c i.2))),.p 114 2 (c b.2.1) (bh.fn b.2.1)]) (fh:=λ_=>[.p 99 2 (c b.1) (a3.fn (g8 b d i0 z).1),.p 114 2 (c b.2.1) (bh.fn b.2.1)]) (W:=139) (h:=2) (j:=c i.2) (bN:=λg=>g.1.1) (ag:=λg=>g.1.2) t (λg=>g.2) 0 bn bn bn bn (λ_=>g1 _)
  (λg k o=>by exact bD)
  (λg k o r B K=>by
   by_cases s:k=i0
   .subst s;rw[C]at K;have:gp b.1 k (c0 g.1.1 (c i.2)) k=[.int .i64 i.1,.val (c0 g.1.1 (c i.2))]:=N7;rw[this];rcases r with _|_|r
    .simp at K;subst K;exact⟨_,a,.inl a⟩
    .exact Rk
    exact bD
   .rw[A k s]at K;have:gp b.1 i0 (c0 g.1.1 (c i.2)) k=a3.fn b.1 k:=Fc
    rw[this];exact⟨B,K,.inl a⟩)
 have v:=bk.bL (aP:=λ_=>[.p 99 2 (c b.1) (a3.fn (g8 b d i0 z).1)]) (W:=114) (h:=2) (j:=λ_=>c b.2.1) (U:=λ_=>bh.fn b.2.1) y bn (λ_=>?_) bn (λ_=>g1 _);have w:=bk.bL (aP:=λ_=>[]) (W:=99) (h:=2) (j:=λ_=>c b.1) (U:=λ_=>a3.fn (g8 b d i0 z).1) v bn (λ_=>?_) bn (λ_=>bB _);refine(w.le (oF:=λ_=>bY (g8 b d i0 z)) bn (λ_=>?_)).ar
 .exact Pv
 .simp
 simp
set_option maxRecDepth 20000 in
def Wb(b)(d)(e:dK b)(g:d.1=3)(i0 z)(a:se b d i0 z):X p 58 [bY b,ep d] [] (bY (g8 b d i0 z)) []:=
 Um b d i0 z a.a8 (Wc b d e g i0 z a)
def pV(d:ce)(b:dO):Prop:=∀a,a<c d.1->¬((d.1.getD a (0,[])).1=b.2.1/\0<=b.2.2.1/\b.2.2.1<(d.1.getD a (0,[])).2.length)
def T6(b)(d)(j:dK b)(s:pV b d):X p 155 [aH 5 0,iO (lW d)] (mO b d) (.Q []) (mO b d):=by
 have z:=j.aM;refine bk.toX (bk.bO (ι:=Unit) (res:=λ_=>.Q []) (aq:=λ_=>mO b d) func155 rfl rfl rfl (g.aU ?_));refine aZ a v (g.aL 6 (λe=>e<=c b.1) (λe:Nat=>[(0,aH 5 0),(1,iO (lW d)),(8,.n (.ar (dD 3 (c b.1) (c b.1)))),(9,R (c b.1)),(10,R e)]) (λ_=>mO b d) (λe=>c b.1-e) 0 a E a E a x ?_);intro e o;by_cases k:e<c b.1
 .have q:=s e k;have y:=j.bl _ (vd k);have r:0+(e:Int).toNat=e:=x;have i:b.1.getD (0+(e:Int).toNat) a3.C=b.1.getD e (0,[]):=by rw[r];rfl
  generalize b.1.getD e (0,[])=m at *;by_cases w:m.1=d.2.1
  .by_cases t:0<=d.2.2.1
   .have h:¬d.2.2.1<c m.2:=λh=>q ⟨w,t,h⟩;refine a6 [11,19,24,-31] a Pk (g.aA (e+1) a E E q0 ?_);omega
   refine a6 [11,19,-24,-31] a Pk (g.aA (e+1) a E E q0 ?_);omega
  refine a6 [11,-19,-24,-31] a ?_ (g.aA (e+1) a ?_ ?_ ?_ ?_)
  .simp only[T,a8,i,eY,bw,dp,a',a_];and_intros<;>first|exact w|omega
  .simp
  .simp
  .exact q0
  omega
 obtain rfl:e=c b.1:=x;refine a6 [-11] a E (g.aB ?_);exact Re
def We(b)(d)(e:dK b)(i:d.1=3)(h:pV b d):
  bk (ι:=Unit) p 58 [bY b,ep d] [] (λ_=>.n (.agg [dD 0 (c b.1) (c b.1),dD 1 (c b.2.1) (c b.2.1),.c (hZ b.2.2)])) (λ_=>[.p 99 2 (c b.1) (a3.fn b.1),.p 114 2 (c b.2.1) (bh.fn b.2.1)]):=by refine bk.bx bb func58 rfl rfl rfl λj=>?_;refine aZ a v (g.aC (pb b e.aM e.bl e.a0 e.bn e.aI) [] a (aZ a v (g.aC (I0 d i) [] a (aZ a v (g.cK (T6 b d e h).tocH a a a a E a ?_)))));intro _;refine aZ a v (g.bh () [3,4] ?_ fy);simp
def Wd(b)(d)(a:dK b)(g:d.1=3)(e:pV b d):X p 58 [bY b,ep d] [] (bY b) []:=CF (We b d a g e)
end
section
open Go.Sort (pdq bitsLen ltInt Below)
variable {p:af V}
def jW(a:m Int):m Int:=a.mergeSort λb d=>decide (b<=d)
def qQ(d):c (jW d)=c d:=List.length_mergeSort _
def ab4(d):pdq ltInt d.toArray 0 (c d) (bitsLen (c d)) l l=(jW d).toArray:=by have a:=Go.Sort.sortInt d;unfold Go.Sort.sort at a;rw[List.size_toArray]at a;exact Array.ext' bD
theorem Tw(d):sR d.toArray=aC.fn d:=by funext t;simp only[sR,c1.fn,gG,aC,ak];simp
abbrev jf(b:Nat)(a:m Int):an:=.p 3 1 b (aC.fn a)
def CG(d)(b:c d<=4000000):X p 165 [dL (c d)] [jf (c d) d] (.Q []) [jf (c d) (jW d)]:=by
 refine X.I func165 rfl λe=>?_;refine cy a bD (g.aC (I7 (c d) b) [] a (cy a v ?_));have i:=sF (C:=c d) (h:=22) N;have key:X p 205 [dL (c d),R 0,R (c d),R (bitsLen (c d))] [jf (c d) d] (.Q []) [jf (c d) (jW d)]:=by have:=W6 (p:=p) (c d) b (c d) d.toArray 0 (c d) (bitsLen (c d)) x E x (bB _) x (.inl a) (C:=0) a a a (ab4 d).symm;grind[Tw]
 exact g.aC key [0] a (cy a v r')
def fE(b:m Int):Nat->m Int
 |0=>[]
 |a+1=>if a≠0/\b.getD a 0=b.getD (a-1) 0 then fE b a else fE b a++[b.getD a 0]
def hP(a:m Int):m Int:=fE a (c a)
def xf(d):∀a,c (fE d a)<=a
 |0=>bB _
 |a+1=>by have:=xf d a;simp[fE];grind
def uE{d}:∀{b:Nat},b<=c d->(∀a,1<=a->a<b->d.getD a 0≠d.getD (a-1) 0)->fE d b=d.take b
 |0,_,_=>by simp[fE]
 |b+1,h,g=>by rw[fE,bl,uE x λa e i=>g a e x,ih x 0];grind
structure RN(d:m Int)(s':Nat)(rO:Nat)(nK:m Int):Prop where
 jl:1<=rO
 fD:s'+rO<=c d
 len:c nK=c d
 lt:c (fE d (s'+rO))<s'+rO
 done:nK.take (c (fE d (s'+rO)))=fE d (s'+rO)
 hN:∀e,s'+rO<=e+1->nK.getD e 0=d.getD e 0
abbrev Ay(d:m Int):Type:={a:Nat->m O // ∀b,b<c d->a b=aC.fn d b}
def IU(d)(Z:c d<=4000000):bk (ι:=Ay (hP d)) p 166 [dL (c d)] [jf (c d) d] (λ_=>cD 0 (.R (c d) 1 0 (c (hP d)))) (λA=>[.p 3 1 (c d) A.1]):=by
 refine bk.cv func166 rfl rfl rfl λY=>?_;by_cases Q:c d<2
 .have s:hP d=d:=by unfold hP;rw[uE (bB _) λb _ _=>by omega,c9]
  refine bP [8] a bu (g.bG ⟨aC.fn d,λb _=>by rw[s]⟩ (g.aQ [0] a ?_ ha));simp[s]
 refine bP [-8] a bu (g.cg (S2:=Unit) 0 a a (λ_=>hP d=d) (λ_=>[(0,dL (c d))]) (λ_=>[jf (c d) d]) 1 (λh:Nat=>1<=h/\h<=c d/\∀b,1<=b->b<h->d.getD b 0≠d.getD (b-1) 0) (λh=>[(0,dL (c d)),(3,R h)]) (λ_=>[jf (c d) d]) (λh=>c d-h) 1 a E a E a ⟨bB _,by omega,λb G Q=>by omega⟩ ?_ ?_)
 .rintro dx h ⟨V,bW,D⟩;by_cases ab:h<c d
  .have aa:((h:Int)-1).toNat=h-1:=x;have F:∀t,d.getD t aC.C=d.getD t 0:=λ_=>rfl;by_cases o:d.getD h 0=d.getD (h-1) 0
   .refine bP [13,25] a ?_ ?_
    .simp only[T,cW,c5,aa,F,o,a8,bw,f',a',a_];exact fA
    have aV:=uE (d:=d) x D;have H:fE d (h+1)=d.take h:=by rw[fE,bo ⟨by omega,o⟩,aV]
    refine g.cg (S2:=m Int) 2 a a (λq=>c q=c d/\q.take (c (hP d))=hP d) (λ_=>[(0,dL (c d)),(3,R (c (hP d)))]) (λq=>[jf (c d) q]) 1 (λe:Nat×m Int=>RN d h e.1 e.2) (λe=>[(0,dL (c d)),(3,R (c (fE d (h+e.1)))),(4,cD 0 (.R (c d) 1 h (c d-h))),(5,R e.1)]) (λe=>[jf (c d) e.2]) (λe=>c d-e.1) (1,d) a bD a E a ?_ ?_ ?_
    .exact⟨bB _,by omega,a,by grind,by grind,λ_ _=>rfl⟩
    .rintro U ⟨i,q⟩ ⟨g9,iJ,jJ,uQ,j,r⟩;simp only at g9 iJ jJ uQ j r;by_cases ae:h+i<c d
     .have J:((i:Int)-1).toNat=i-1:=x;have C:∀t,q.getD t aC.C=q.getD t 0:=λ_=>rfl;have B:q.getD (h+i) 0=d.getD (h+i) 0:=r _ x;have M:q.getD (h+(i-1)) 0=d.getD (h+(i-1)) 0:=r _ x;by_cases w:d.getD (h+i) 0=d.getD (h+(i-1)) 0
      .have K:fE d (h+(i+1))=fE d (h+i):=by rw[show h+(i+1)=h+i+1 by omega,fE,bo ⟨by omega,by rw[w,show h+i-1=h+(i-1) by omega]⟩]
       refine bP [32,-44] a ?_ (g.aA (i+1,q) a ?_ ?_ ?_ ?_)
       .simp only[T,cW,c5,J,C,B,M,w,a8,bw,h4,fm,f',a',a_];and_intros<;>first|trivial|omega
       .exact bD
       .simp
       .exact⟨by grind,by grind,jJ,by grind,by grind,λb k=>r b N⟩
       omega
      have K:fE d (h+(i+1))=fE d (h+i)++[d.getD (h+i) 0]:=by rw[show h+(i+1)=h+i+1 by omega,fE,bl];rintro⟨_,o⟩;exact w (by rw[o,show h+i-1=h+(i-1) by omega])
      refine bP [32,44] a ?_ (g.aA (i+1,q.set (c (fE d (h+i))) (d.getD (h+i) 0)) a ?_ ?_ ?_ ?_)
      .simp only[T,cW,c5,J,C,B,M,a8,bw,jc,eY,je,d6,a',a_];and_intros<;>first|exact w|omega
      .exact bD
      .have z:=aC.cU q (c (fE d (h+i))) (d.getD (h+i) 0) (c d) x;simp only[T.X,T,cW,c5,C,B,a_,a'];exact z
      .refine⟨by grind,by grind,by grind,by grind,?_,λb k=>?_⟩
       .simp only;rw[K,dk,show ∀S:Int,[S].length=1 fromλ_=>rfl,w',AW,Gt N,j,ip x];rfl
       simp only at k⊢;rw[ak,kB x,<-ak];grind
      omega
     have X:h+i=c d:=x;have I:fE d (h+i)=hP d:=bD;refine bP [-32] a bu (g.aB ?_);rw[I]at j;exact U q ⟨jJ,j⟩ a (by simp[I]) a E
    rintro q ⟨O,y⟩;have W:c (hP d)<=c d:=xf d _;refine cy a bu (g.aN (a0.eZ bb a a a a a a wF) a a ?_);refine aZ a bu (g.aW ⟨⟨nM (0+bV 0 (f (c (hP d):Int))) (0+bV 0 (f (c (hP d):Int))+(bV (c d) n-bV 0 (f (c (hP d):Int)))) ee.zero (aC.fn q),λb k=>?_⟩,bX.mk [0] a ?_ a a a ha⟩)
    .have z:q[b]?=(hP d)[b]?:=N;refine(NL wF).trans ?_;simp[c1.fn,gG,ak,z]
    exact bD
   refine bP [13,-25] a ?_ (g.aA (h+1) a ?_ ?_ ?_ ?_)
   .simp only[T,cW,c5,aa,F,a8,bw,eY,d6,a',a_];and_intros<;>first|exact o|omega
   .simp
   .simp
   .grind
   omega
  obtain rfl:h=c d:=x;refine bP [-13] a E (g.aB ?_);exact dx () (by unfold hP;rw[uE (bB _) D,c9]) a E a E
 rintro⟨⟩ s;refine cy a v (g.bG ⟨aC.fn d,λb _=>by rw[s]⟩ (g.aQ [0] a ?_ ha));simp[s]
end
section
variable {p:af V}
def d9(a:m m1):m Int:=a.flatMap (·.2)
def gh(a:ef):m Int:=hP (jW (d9 a.2))
def KR{d}(a:e<c d):d9 (d.take (e+1))=d9 (d.take e)++(d.getD e ([],[])).2:=by rw[ih a ([],[])];simp[d9]
def _root_.Go.AM.c1.hd(b:c1 α)(a i)(j)(e:j=c (a++i)):bs j (cg (c a) (b.fn a) (b.fn i)) (b.fn (a++i)):=by intro g d;simp only[cg,c1.fn,gG,ak];grind
def Xy(b)(A:c b.2<=4000000)(j:c (d9 b.2)<=4000000)(t:∀d,d<=c b.2->c (d9 (b.2.take d))<=4000000):
  bk (ι:=Ay (gh b)) p 121 [iQ b] [] (λ_=>cD 0 (.R (c (d9 b.2)) 1 0 (c (gh b)))) (λe=>[.p 3 1 (c (d9 b.2)) e.1]):=by
 refine bk.cv func121 rfl rfl rfl λz=>?_;refine bP [902] a v (g.e9 3 3 1 (aC.fn []) a ?_);refine cy a v ?_;refine g.aL 2 (λd=>d<=c b.2) (λd:Nat=>[(3,cD 1 (.R (c (d9 (b.2.take d))) 1 0 (c (d9 (b.2.take d))))),(7,cu.R b.2),(8,R (c b.2)),(9,R d)])
  (λd=>[.cells 114 [.c (.int .i64 b.1),.c (.R u 2 (c b.2) (cu.fn b.2))],jf (c (d9 (b.2.take d))) (d9 (b.2.take d))]) (λd=>c b.2-d) 0 a ?_ a ?_ a x ?_
 .simp[d9]
 .simp[bs,d9]
 intro d r;by_cases k:d<c b.2
 .have i:b.2.getD (d:Int).toNat cu.C=b.2.getD d ([],[]):=du;have h:=KR k;have q:=t (d+1) k;rw[h,dk]at q;refine bP [10] a ?_ (g.aA (d+1) a ?_ ?_ ?_ ?_)
  .simp only[T,i,a8,show ee.bytes=8 from a,bw,a',a_];exact fA
  .simp only[T.X,T,i,h,dk,a_,a'];and_intros<;>first|exact bs.same|rfl|omega
  .have w:=aC.hd (d9 (b.2.take d)) (b.2.getD d ([],[])).2 _ a;simp_all
  .omega
  omega
 obtain rfl:d=c b.2:=x;rw[c9];refine bP [-10] a E (g.aB ?_);refine cy a v (g.aC (CG (d9 b.2) j) [1] a (cy a v ?_));have m:=IU (p:=p) (jW (d9 b.2)) (by rw[qQ];exact j);rw[qQ]at m;refine g.a6 m [1] a bn ?_;rintro⟨e,o⟩;refine cy a v (g.bG ⟨e,o⟩ (g.aQ [1] a ?_ (λy s=>absurd s E)));simp[gh]
def KS(d)(e):c (d9 (d.take e))<=c (d9 d):=by
 have a:d9 d=d9 (d.take e)++d9 (d.drop e):=by unfold d9;grind[List.take_append_drop]
 grind
def H'(d):c (hP d)<=c d:=xf d _
def Xx(C)(e:c C.2<=4000000)(a:c (d9 C.2)<=4000000):X p 121 [iQ C] [] (aC.R (gh C)) []:=by
 have b:=Xy (p:=p) C e a λg _=>fR (KS _ _) a;have d:=bk.bL (aP:=λ_:Ay (gh C)=>[]) (W:=3) (h:=1) (j:=λ_=>c (d9 C.2)) (U:=λU=>U.1) b bn (λ_=>?_) bn (λ_=>bB _);refine(d.le (oF:=λ_=>aC.R (gh C)) bn (λU=>?_)).ar
 .simp only[T.X,T,a_,a'];exact U.2
 have:c (gh C)<=c (d9 C.2):=Rt;exact bu
def X9(b)(e)(d:dX b=l)(r:3<=e)(h:e<=c b)(m:c b<=4000000):X p 309 [b3 b,R e] [] (bi (pL b e)) []:=by
 refine X.I func309 rfl λj=>?_;have k:=tb d (e-1) x;have o:=tb d (e-2) x;have s:=tb d (e-3) x;have i:((kF b ((e:Int)-1)).toNat:Int)=dq b (e-1):=tZ;have K:((kF b ((e:Int)-2)).toNat:Int)=dq b (e-2):=tZ;have q:((kF b ((e:Int)-3)).toNat:Int)=dq b (e-3):=tZ;refine aZ a ?_ (g.aw a ?_)
 .simp only[T,a8,i,K,q];omega
 exact On
abbrev HS:bJ:=ev eI c6 (λa b=>bi (pL a b.toNat)) λa b=>[dX a=l,3<=b,b<=c a,c a<=4000000]
def adG:bK p 309 HS:=.bk λh b g=>by
 obtain⟨d,i,j,e⟩:=g;obtain⟨a,rfl⟩:∃a:Nat,b=a:=⟨b.toNat,by omega⟩
 exact X9 h a d x x e
def TW(o)(d)(e:dX o=l)(t:d<=c o)(z:c o<=4000000):X p 293 [b3 o,R d] [] (R (eo o d)) []:=by
 refine X.I func293 rfl λw=>?_;have j:a9 p [(309,HS)]:=.cons adG .nil;refine b9 j a v (g.b7 (λb=>b<=5/\lJ o d (5-b)=eo o d) (λb:Nat=>[(0,b3 o),(1,R d),(5,R (3+b))]) (λ_=>[]) (λb=>5-b) 0 a E a v ⟨by omega,a⟩ ?_);rintro b ⟨y,i⟩;by_cases s:b<5
 .obtain⟨h,bW⟩:∃h,5-b=h+1:=⟨4-b,by omega⟩
  have m:d+(7-h)=d+3+b:=x;rw[bW]at i;simp[lJ,m]at i;by_cases k:c o<=d+3+b
  .rw[bo k]at i;refine a7 j [7,15] a RE (g.bP (bX.zero a ?_));exact bu
  rw[bl k]at i;have aj:((d:Int)+(3+(b:Int))).toNat=d+3+b:=x;cases q:pL o (d+3+b)with
  |true=>
   rw[q,bo a]at i;refine a7 j [7,-15,22] a Qz (g.bP (bX.zero a ?_));exact bu
  |false=>
   rw[q,bl E]at i;refine a7 j [7,-15,-22] a Qz (g.b3 (b+1) a ?_ a v ⟨by omega,by grind⟩ x);exact bu
 have aj:eo o d=min (d+8) (c o):=by rw[<-i,show 5-b=0 by omega];rfl
 have r:a8 .i64 ((min (d+8) (c o):Nat):Int):=bD;refine a7 j [-7] a bu (g.bs a a ?_);refine b9 j a bD (g.aN (yK ((min (d+8) (c o):Nat):Int) a a a x r) a a ?_);refine b9 j a v (g.aw a ?_);simp[aj]
abbrev He:bJ:=ev eI c6 (λa b=>R (eo a b.toNat)) λa b=>[dX a=l,0<=b,b<=c a,c a<=4000000]
def acS:bK p 293 He:=.bk λh b g=>by
 obtain⟨d,i,j,e⟩:=g;obtain⟨a,rfl⟩:∃a:Nat,b=a:=⟨b.toNat,by omega⟩
 exact TW h a d x e
abbrev mt(b:bC):m Int:=(Tb b).map λa:Nat=>(a:Int)
def UJ(o)(z:dX o=l)(D:c o<=4000000):X p 252 [b3 o] [] (aC.R (mt o)) []:=by
 refine X.I func252 rfl λC=>?_;have i:a9 p [(293,He)]:=.cons acS .nil;refine a7 i [903] a v (g.bK 3 3 1 a a ?_);refine b9 i a v (g.aL 1 (λd:Nat×m Int=>d.1<=c o/\c d.2<=d.1/\∃e,c o<=d.1+e/\mt o=d.2++(la o e d.1).map λA:Nat=>(A:Int)) (λd=>[(0,b3 o),(3,.n (.ar (.w 0 1 (c d.2) (aC.fn d.2)))),(4,R d.1)]) (λd=>[.w 3 1 (c d.2) (aC.fn d.2)]) (λd=>c o-d.1) (0,[]) a E a E a ⟨by simp,by simp,c o,by simp,by exact bD⟩ ?_);rintro⟨h,b⟩ ⟨x,w,e,k,s⟩;simp only at x w k s;by_cases j:h<c o
 .obtain⟨e,rfl⟩:∃q,e=q+1:=⟨e-1,by omega⟩
  have y:=rA o h j;have t:=aC.aX b (eo o h:Int);have r:c b+1=c (b++[(eo o h:Int)]):=E;refine a7 i [9] a ?_ (g.aA (eo o h,b++[(eo o h:Int)]) a ?_ ?_ ?_ ?_)
  .simp only[T,z,show ee.bytes=8 from a,bw,a',a_];exact fA
  .exact T.X.2 ⟨a,T.X.2 ⟨⟨r,t⟩,T.X.2 ⟨a,v⟩⟩⟩
  .exact T.X.2 ⟨⟨r,t⟩,v⟩
  .refine⟨y.2.1,by grind,e,by grind,?_⟩;rw[s];simp only[la,bo j];simp
  grind
 have B:mt o=b:=by
  have:la o e h=[]:=by cases e<;>simp[la,j]
  grind
 refine a7 i [-9] a bu (g.aB ?_);refine b9 i a v (g.aw a ?_);simp_all
abbrev Hl:bJ:=df eI (λa=>aC.R (mt a)) λa=>[dX a=l,c a<=4000000]
def ac1:bK p 252 Hl:=.a9 λb a=>UJ b a.1 a.2
def Tt{d a}{b:α}(h:d.drop e=b::a)(g:α):e<c d/\d.getD e g=b/\d.drop (e+1)=a:=by grind[List.drop_eq_nil_of_le,List.drop_eq_getElem_cons]
def IJ(o):∀a b,c (la o a b)<=a
 |0,_=>bB _
 |a+1,b=>by
  simp[la];split
  .have:=IJ o a (eo o b);grind
  simp
def TQ(o)(S:dX o=l)(Q:c o<=4000000):X p 196 [b3 o] [] (bQ.R (cm o)) []:=by
 refine X.I func196 rfl λW=>?_;have j:a9 p [(252,Hl)]:=.cons ac1 .nil;have V:c (mt o)<=c o:=by simp[mt,kC];exact IJ o _ _
 refine a7 j [902] a v (g.bK 3 9 1 a a ?_);refine b9 j a du (g.aL 1 (λd:Nat×Nat×m bC=>d.1<=c (mt o)/\d.2.1<=c o/\c d.2.2<=d.1/\∃h,c o<=d.2.1+h/\(mt o).drop d.1=((la o h d.2.1).map λJ:Nat=>(J:Int))/\cm o=d.2.2++iy o h d.2.1) (λd=>[(0,b3 o),(3,.n (.ar (.w 0 1 (c d.2.2) (bQ.fn d.2.2)))),(4,R d.2.1),(5,aC.R (mt o)),(6,R d.1)]) (λd=>[.w 9 1 (c d.2.2) (bQ.fn d.2.2)]) (λd=>c (mt o)-d.1) (0,0,[]) a E a E a ⟨by simp,by simp,by simp,c o,by simp,by exact bD,by simp[cm]⟩ ?_);rintro⟨s,b,e⟩ ⟨q,I,F,h,r,y,x⟩;simp only at q I F r y x;by_cases k:s<c (mt o)
 .have B:la o h b≠[]:=by grind[List.length_drop]
  obtain⟨h,rfl⟩:∃w,h=w+1:=by
   cases h with
   |zero=>exact bD
   |succ h=>grind
  have i:b<c o:=by
   rcases dW b (c o) with k|k
   .exact k
   exact absurd (by simp[la,bl (show¬b<c o by omega)]) B
  simp[la,bo i,me]at y;obtain⟨_,Y,M⟩:=Tt y 0;have K:=rA o b i;have t:(mt o).getD (s:Int).toNat aC.C=(eo o b:Int):=N;have z:mo o (f (b:Int)) (f (eo o b:Int))=(o.drop b).take (eo o b-b):=Oe;have D:=bQ.aX e ((o.drop b).take (eo o b-b));have C:c e+1=c (e++[(o.drop b).take (eo o b-b)]):=E;refine a7 j [13] a ?_ (g.aA (s+1,eo o b,e++[(o.drop b).take (eo o b-b)]) a ?_ ?_ ?_ ?_)
  .simp only[T,t,a8,jh,show s4.bytes=16 from a,bw,a',a_];exact fA
  .simp only[T.X,T,t,z,a',a_];and_intros<;>first|exact C|exact D|simp|omega
  .simp only[T.X,T,t,z,a',a_];and_intros<;>first|exact C|exact D
  .refine⟨by grind,K.2.1,by grind,h,by grind,M,?_⟩;rw[x];simp only[iy,bo i];simp
  grind
 have U:cm o=e:=by
  have A:la o h b=[]:=by grind[List.map_eq_nil_iff]
  have i:¬b<c o:=by
   intro O;cases h with
   |zero=>omega
   |succ h=>simp only[la,bo O]at A;cases A
  rw[x];cases h<;>simp[iy,i]
 refine a7 j [-13] a du (g.aB ?_);refine b9 j a v (g.aw a ?_);simp_all
abbrev xz:bJ:=df eI (λa=>bQ.R (cm a)) λa=>[dX a=l,c a<=4000000]
def EK:bK p 196 xz:=.a9 λb a=>TQ b a.1 a.2
def _root_.Go.AM.c1.e2(e:c1 α)(d)(b h):bs (c d+1+1) (cg (c d+1) (cg (c d) (e.fn d) λa=>[e.a3 b].getD a []) λa=>[e.a3 h].getD a []) (e.fn (d++[b,h])):=by
 have j:=e.aX d b;have g:=e.aX (d++[b]) h;rw[show(d++[b]).length=c d+1 by simp,show d++[b]++[h]=d++[b,h] by simp]at g;intro a k;rw[<-g a k];simp[cg];by_cases i:a<c d+1
 .rw[bo i,bo i];exact j a i
 grind
abbrev Tg(a:cZ):y:=.n (.agg [.c (.int .i64 a.1),.c (.V a.2)])
def jv(d:cZ)(a:m cZ×Bool)(b:cZ):m cZ×Bool:=if a.2=l then(a.1++[b],l)else if d.1<b.1 then(a.1++[d,b],l)else(a.1++[b],u)
def MF(b):∀d(a:m cZ),(d.foldl (jv b) (a,l))=(a++d,l)
 |[],a=>by simp
 |e::g,a=>by rw[iH,show jv b (a,l) e=(a++[e],l)from rfl,MF b g];simp
def MG(b):∀g(a:m cZ),(if(g.foldl (jv b) (a,u)).2=l then(g.foldl (jv b) (a,u)).1 else(g.foldl (jv b) (a,u)).1++[b])=a++fG g b
 |[],a=>by simp[fG]
 |d::h,a=>by
  rw[iH];by_cases e:b.1<d.1
  .rw[show jv b (a,u) d=(a++[b,d],l) by simp[jv,e],MF];simp[fG,e]
  rw[show jv b (a,u) d=(a++[d],u) by simp[jv,e],MG b h];simp[fG,e]
theorem MH(b):∀d(a:m cZ×Bool),(d.foldl (jv b) a).1.length<=c a.1+c d+1-(if a.2=l then 1 else 0)
 |[],a=>by grind
 |g::e,a=>by rw[iH];have:=MH b e (jv b a g);unfold jv at this⊢;grind
abbrev mi(d:cZ)(b:m cZ)(a:Nat):m cZ×Bool:=(b.take a).foldl (jv d) ([],u)
def R'{C}{d}(a:e<c d):mi C d (e+1)=jv C (mi C d e) (d.getD e (0,[])):=ii
def Gw(a)(d)(e):(mi a d e).1.length<=c d+1:=by grind[MH]
abbrev aao(d:m cZ)(e:cZ)(b:Nat)(a:m cZ×Bool):bH:=[(0,bG.R d),(3,aH 0 0),(5,.n (.ar (.w 1 2 (c a.1) (bG.fn a.1)))),(6,bi a.2),(7,R b)]
abbrev aan(b:cZ)(a:m cZ):m an:=[.cells 139 [.c (.int .i64 b.1),.c (.V b.2)],.w 139 2 (c a) (bG.fn a)]
def Xa(d)(C)(z:c d<=4000000):X p 201 [bG.R d,Tg C] [] (bG.R (fG d C)) []:=by
 refine X.I func201 rfl λy=>?_;refine bP [902] a v (g.bK 5 139 2 a a ?_);refine cy a v (g.aL 2 (λb=>b<=c d) (λb:Nat=>aao d C b (mi C d b)) (λb=>aan C (mi C d b).1) (λb=>c d-b) 0 a ?_ a ?_ a x ?_)
 .simp[mi]
 .simp[mi]
 intro b s;by_cases r:b<c d
 .have j:=R' (C:=C) r;have i:=Gw C d b;have al:d.getD (b:Int).toNat bG.C=d.getD b (0,[]):=N;generalize mi C d b=e at j i;obtain⟨e,m⟩:=e;simp only at i;have h:=bG.aX e (d.getD b (0,[]));have o:=bG.e2 e C (d.getD b (0,[]));cases m with
  |true=>
   have q:mi C d (b+1)=(e++[d.getD b (0,[])],l):=j;have t:c e+1=c (e++[d.getD b (0,[])]):=E;refine bP [12] a ?_ (g.aA (b+1) a ?_ ?_ ?_ ?_)
   .simp only[T,al,a8,show mz.bytes=24 from a,bw,a',a_];exact fA
   .exact OD
   .exact OV
   .grind
   omega
  |false=>
   by_cases k:C.1<(d.getD b (0,[])).1
   .have q:mi C d (b+1)=(e++[C,d.getD b (0,[])],l):=by rw[j];simp only[jv,bo k];rfl
    have t:c e+1+1=c (e++[C,d.getD b (0,[])]):=E;refine bP [12,25] a ?_ (g.aA (b+1) a ?_ ?_ ?_ ?_)
    .simp only[T,al,a8,show mz.bytes=24 from a,k,lB,bw,a',a_];exact fA
    .rw[q];simp[T.X,T,al,a',a_];and_intros<;>first|exact t|exact o|simp|rfl|omega
    .rw[q];simp[T.X,T,al,a',a_];and_intros<;>first|exact t|exact o|exactλ_ _=>rfl|rfl|omega
    .grind
    omega
   have q:mi C d (b+1)=(e++[d.getD b (0,[])],u):=by rw[j];simp only[jv,bl k];rfl
   have t:c e+1=c (e++[d.getD b (0,[])]):=E;refine bP [12,-25] a ?_ (g.aA (b+1) a ?_ ?_ ?_ ?_)
   .simp only[T,al,a8,show mz.bytes=24 from a,bw,k,n1,qb,dp,a',a_];exact fA
   .exact OD
   .exact OV
   .grind
   omega
 obtain rfl:b=c d:=x;have K:=MG C d [];have i:=Gw C d (c d);refine bP [-12] a E (g.aB ?_);have w:mi C d (c d)=d.foldl (jv C) ([],u):=N;rw[w]at i⊢;generalize d.foldl (jv C) ([],u)=e at *;obtain⟨e,m⟩:=e;simp only[p9]at K i;cases m with
 |true=>
  exact PX
 |false=>
  simp only[j7,dm]at K;have h:=bG.aX e C;refine cy a ?_ (g.aw a ?_)
  .simp only[T,show mz.bytes=24 from a,a',a_];grind
  rw[<-K];simp only[T.X,T,a',a_];and_intros<;>first|exact h|simp
abbrev HJ:bJ:=ev (e' bG) si (λa b=>bG.R (fG a b)) λa _=>[c a<=4000000]
def adw:bK p 201 HJ:=.bk λb d a=>Xa b d a
abbrev Tj(a:fk):y:=.n (.agg [.c (.int .i64 a.1),.c (.int .i64 a.2)])
def fs(d:fk)(a:m fk×Bool)(b:fk):m fk×Bool:=
 if a.2=l then(if b.1=d.1 then a else(a.1++[b],l))else if d.1<=b.1 then(if b.1=d.1 then(a.1++[d],l)else(a.1++[d,b],l))else(a.1++[b],u)
def zu(b):∀(g:m fk)a,(g.foldl (fs b) (a,l))=(a++g.filter λi=>!(i.1==b.1),l)
 |[],a=>by simp
 |e::h,a=>by
  rw[iH];by_cases d:e.1=b.1
  .rw[show fs b (a,l) e=(a,l) by simp[fs,d],zu b h];simp[d]
  rw[show fs b (a,l) e=(a++[e],l) by simp[fs,d],zu b h];simp[d]
def MJ(a):∀g(b:m fk),(if(g.foldl (fs a) (b,u)).2=l then(g.foldl (fs a) (b,u)).1 else(g.foldl (fs a) (b,u)).1++[a])=b++d' g a
 |[],b=>by simp[d']
 |d::i,b=>by
  rw[iH];by_cases h:a.1<=d.1
  .have q:¬d.1<a.1:=x;by_cases e:d.1=a.1
   .rw[show fs a (b,u) d=(b++[a],l) by simp[fs,e],zu];simp[d',e]
   rw[show fs a (b,u) d=(b++[a,d],l) by simp[fs,h,e],zu];simp[d',q,e]
  have q:d.1<a.1:=x;rw[show fs a (b,u) d=(b++[d],u) by simp[fs,h],MJ a i];simp[d',q]
theorem MK(b):∀i(a:m fk×Bool),(i.foldl (fs b) a).1.length<=c a.1+c i+1-(if a.2=l then 1 else 0)
 |[],a=>by grind
 |d::k,a=>by
  rw[iH];have g:=MK b k (fs b a d);obtain⟨a,j⟩:=a;simp[fw];cases j with
  |true=>
   by_cases e:d.1=b.1
   .rw[show fs b (a,l) d=(a,l) by simp[fs,e]]at g⊢;grind
   rw[show fs b (a,l) d=(a++[d],l) by simp[fs,e]]at g⊢;grind
  |false=>
   by_cases h:b.1<=d.1
   .by_cases e:d.1=b.1
    .rw[show fs b (a,u) d=(a++[b],l) by simp[fs,e]]at g⊢;grind
    rw[show fs b (a,u) d=(a++[b,d],l) by simp[fs,h,e]]at g⊢;grind
   rw[show fs b (a,u) d=(a++[d],u) by simp[fs,h]]at g⊢;grind
abbrev k4(d:fk)(b:m fk)(a:Nat):m fk×Bool:=(b.take a).foldl (fs d) ([],u)
def Sa{C}{d}(a:e<c d):k4 C d (e+1)=fs C (k4 C d e) (d.getD e (0,0)):=ii
def Gx(a)(d)(e):(k4 a d e).1.length<=c d+1:=by grind[MK]
abbrev aaq(d:m fk)(e:fk)(b:Nat)(a:m fk×Bool):bH:=[(0,fb.R d),(3,aH 0 0),(5,.n (.ar (.w 1 2 (c a.1) (fb.fn a.1)))),(6,bi a.2),(7,R b)]
abbrev aap(b:fk)(a:m fk):m an:=[.cells 253 [.c (.int .i64 b.1),.c (.int .i64 b.2)],.w 253 2 (c a) (fb.fn a)]
def Xb(d)(C:fk)(y:c d<=4000000):X p 200 [fb.R d,Tj C] [] (fb.R (d' d C)) []:=by
 refine X.I func200 rfl λw=>?_;refine bP [902] a v (g.bK 5 253 2 a a ?_);refine cy a v (g.aL 2 (λb=>b<=c d) (λb:Nat=>aaq d C b (k4 C d b)) (λb=>aap C (k4 C d b).1) (λb=>c d-b) 0 a ?_ a ?_ a x ?_)
 .simp[k4]
 .simp[k4]
 intro b r;by_cases o:b<c d
 .have h:=Sa (C:=C) o;have i:=Gx C d b;have al:d.getD (b:Int).toNat fb.C=d.getD b (0,0):=N;generalize k4 C d b=e at h i;obtain⟨e,j⟩:=e;simp only at i;have t:=fb.aX e (d.getD b (0,0));have k:=fb.aX e C;have m:=fb.e2 e C (d.getD b (0,0));cases j with
  |true=>
   by_cases heq:(d.getD b (0,0)).1=C.1
   .have q:k4 C d (b+1)=(e,l):=by rw[h];simp only[fs,dH,bo heq]
    refine bP [12,-38] a PY (g.aA (b+1) a F8 F8 N ?_);omega
   have q:k4 C d (b+1)=(e++[d.getD b (0,0)],l):=by rw[h];simp only[fs,dH,bl heq]
   refine bP [12,38] a PY (g.aA (b+1) a OT PK N ?_);omega
  |false=>
   by_cases aj:C.1<=(d.getD b (0,0)).1
   .by_cases heq:(d.getD b (0,0)).1=C.1
    .have q:k4 C d (b+1)=(e++[C],l):=by rw[h];simp only[fs,bo aj,bo heq];rfl
     refine bP [12,25,-38] a Fs (g.aA (b+1) a ?_ ?_ ?_ ?_)
     .rw[q];simp only[T.X,T,al,a',a_];and_intros<;>first|exact t|exact k|simp|simp|rfl|omega|simp
     .rw[q];exact bD
     .grind
     omega
    have q:k4 C d (b+1)=(e++[C,d.getD b (0,0)],l):=by rw[h];simp only[fs,bo aj,bl heq];rfl
    refine bP [12,25,38] a Fs (g.aA (b+1) a ?_ ?_ ?_ ?_)
    .rw[q];simp only[T.X,T,al,a',a_];and_intros<;>first|exact t|exact k|exact m|simp|rfl|omega|simp
    .rw[q];simp only[T.X,T,al,a',a_];and_intros<;>first|exact t|exact k|exact m|grind|rfl|omega|simp
    .grind
    omega
   have heq:¬(d.getD b (0,0)).1=C.1:=x;have q:k4 C d (b+1)=(e++[d.getD b (0,0)],u):=by rw[h];simp only[fs,bl aj];rfl
   refine bP [12,-25,38] a Fs (g.aA (b+1) a OT PK N ?_);omega
 obtain rfl:b=c d:=x;have K:=MJ C d [];have i:=Gx C d (c d);refine bP [-12] a E (g.aB ?_);have s:k4 C d (c d)=d.foldl (fs C) ([],u):=N;rw[s]at i⊢;generalize d.foldl (fs C) ([],u)=e at *;obtain⟨e,j⟩:=e;simp only[p9]at K i;cases j with
 |true=>
  exact PX
 |false=>
  simp only[j7,dm]at K;have t:=fb.aX e C;refine cy a ?_ (g.aw a ?_)
  .simp only[T,show pm.bytes=16 from a,a',a_];grind
  rw[<-K];simp only[T.X,T,a',a_];and_intros<;>first|exact t|simp
abbrev HK:bJ:=ev (e' fb) p3 (λa b=>fb.R (d' a b)) λa _=>[c a<=4000000]
def adx:bK p 200 HK:=.bk λb d a=>Xb b d a
abbrev EA(a:cb):m fk:=a.2.map λb=>(b.1,a.1)
def hi(b:m cb)(a d:Nat):m fk:=dF (b.take a)++(EA (b.getD a (0,[]))).take d
def EB{d}(a:e<c d):dF (d.take (e+1))=dF (d.take e)++EA (d.getD e (0,[])):=by rw[ih a (0,[])];simp[dF]
theorem MA(d)(e):c (dF (d.take e))<=c (dF d):=by have a:dF d=dF (d.take e)++dF (d.drop e):=RI;grind
def zs{d}(b:e<c d):∃g,dF d=hi d e t++g:=by have a:dF d=dF (d.take (e+1))++dF (d.drop (e+1)):=RI;refine⟨(EA (d.getD e (0,[]))).drop t++dF (d.drop (e+1)),?_⟩;rw[a,EB b,hi,mh,mh];grind[List.take_append_drop]
theorem aa1(d)(a):c (d' d a)<=c d+1:=by
 induction d with
 |nil=>simp[d']
 |cons g e b=>
  simp only[d'];grind
theorem C6(d):∀a:m fk,c (d.foldl d' a)<=c a+c d:=by
 induction d with
 |nil=>grind
 |cons g e b=>grind[aa1]
def Vw(d)(J:c d<=4000000)(I:c (dF d)<=100000):X p 160 [a3.R d] [] (fb.R (eD d)) []:=by
 refine X.I func160 rfl λK=>?_;have e:a9 p [(199,HQ),(200,HK)]:=.cons adE (.cons adx .nil);refine cM e a v (g.aL 0 (λb=>b<=c d/\(dF (d.take b)).all fX=l) (λb:Nat=>[(0,a3.R d),(3,fb.R ((dF (d.take b)).foldl d' [])),(4,R b)]) (λ_=>[]) (λb=>c d-b) 0 a ?_ a ?_ a ⟨by omega,a⟩ ?_)
 .simp[dF]
 .simp
 rintro b ⟨r,j⟩;by_cases k:b<c d
 .have h:d.getD (b:Int).toNat a3.C=d.getD b (0,[]):=N;have q:=EB k;refine bf e [11] a bu (g.aL 0 (λt=>t<=(d.getD b (0,[])).2.length/\(hi d b t).all fX=l) (λt:Nat=>[(0,a3.R d),(3,fb.R ((hi d b t).foldl d' [])),(4,R b),(5,R t)]) (λ_=>[]) (λt=>(d.getD b (0,[])).2.length-t) 0 a ?_ a ?_ a ⟨by omega,by simpa[hi]using j⟩ ?_)
  .simp[hi]
  .simp
  rintro t ⟨O,C⟩;obtain⟨z,y⟩:=zs (d:=d) (t:=t) k;have B:c (hi d b t)<=100000:=N;have w:=C6 (hi d b t) [];simp only[gL]at w;have D:(d.getD b (0,[])).2.length<=100000:=by grind[MA]
  by_cases M:t<(d.getD b (0,[])).2.length
  .have i:(d.getD b (0,[])).2.getD (t:Int).toNat bG.C=(d.getD b (0,[])).2.getD t (0,[]):=N;have s:hi d b (t+1)=hi d b t++[(((d.getD b (0,[])).2.getD t (0,[])).1,(d.getD b (0,[])).1)]:=Rq;cases m:fX (((d.getD b (0,[])).2.getD t (0,[])).1,(d.getD b (0,[])).1)with
   |false=>
    have A:eD d=[]:=by obtain⟨z,y⟩:=zs (d:=d) (t:=t+1) k;unfold eD;rw[bl];grind
    refine bf e [21,-40] a ?_ (g.aW (bX.zero a ?_))
    .simp only[T,h,i,m,bw,a',a_];exact fA
    rw[A];simp
   |true=>
    refine bf e [21,40] a ?_ (g.aA (t+1) a ?_ ?_ ?_ ?_)
    .simp only[T,h,i,m,a8,fb.l,bw,a',a_];and_intros<;>first|exact fb.T _|omega
    .rw[s];simp only[ux,iH,List.foldl_nil,T.X,T,h,i,fb.l,a',a_];and_intros<;>first|simp|rfl|omega
    .simp
    .grind
    omega
  have F:t=(d.getD b (0,[])).2.length:=x;have o:hi d b t=dF (d.take (b+1)):=by rw[q,hi];grind[List.length_map]
  refine bf e [-21] a ?_ (g.aB ?_)
  .simp only[T,h,dp];exact fA
  refine cM e a bD (g.aA (b+1) a ?_ ?_ ?_ ?_)
  .rw[o];simp
  .simp
  .grind
  omega
 obtain rfl:b=c d:=x;rw[c9]at j⊢;refine bf e [-11] a E (g.aB ?_);refine cM e a v (g.aw a ?_);simp[eD,j]
abbrev Hp:bJ:=df (e' a3) (λa=>fb.R (eD a)) λa=>[c a<=4000000,c (dF a)<=100000]
def ac9:bK p 160 Hp:=.a9 λb a=>Vw b a.1 a.2
abbrev xF:bJ:=ev c6 eI (λa b=>R (dY a b)) λa b=>[cA a=l,cC b=l]
abbrev BM:bJ:=df eI (λa=>b3 (fN a)) λa=>[cC a=l]
def M1:bK p 202 BM:=.a9 λb a=>W1 b a
theorem aaV(d)(b):c (fG d b)=c d+1:=by
 induction d with
 |nil=>simp[fG]
 |cons g e a=>simp only[fG];split<;>simp[a]
def h'(d:Int)(a:m bC):m cZ:=a.foldl (λe b=>fG e (dY d b,fN b)) []
def DE(h)(Z):c (h' h Z)=c Z:=by
 have d:∀Z b,c (Z.foldl (λe a=>fG e (dY h a,fN a)) b)=c b+c Z:=by
  intro Z;induction Z with
  |nil=>grind
  |cons a i g=>grind[aaV]
 have:=d Z [];rw[gL,cW]at this;exact this
def Z2{Z}(a:e<c Z):h' h (Z.take (e+1))=fG (h' h (Z.take e)) (dY h (Z.getD e []),fN (Z.getD e [])):=by unfold h';grind[ih]
abbrev aaG(a:Int)(b:m cZ):an:=.cells 99 [.c (.int .i64 a),.c (.R u 2 (c b) (bG.fn b))]
def Wp(bL h)(Z)(e:cA h=l)(m:∀t∈Z,cC t=l)(z:c Z<=4000000):X p 161 [R bL,R h,bQ.R Z] [] (fL (jS bL h Z)) []:=by
 refine X.bc bb func161 rfl rfl rfl λy=>?_;have d:a9 p [(183,xF),(202,BM),(201,HJ)]:=.cons zz (.cons M1 (.cons adw .nil));refine cM d a v (g.aL 2 (λb=>b<=c Z) (λb:Nat=>[(1,R h),(2,bQ.R Z),(6,aH 0 0),(7,aH 1 0),(8,R b)]) (λb=>[.cells 99 [.c (.int .i64 0),.c (.R l 0 0 λ_=>[])],aaG bL (h' h (Z.take b))]) (λb=>c Z-b) 0 a E a ?_ a x ?_)
 .simp[h']
 intro b q;by_cases o:b<c Z
 .have i:Z.getD (b:Int).toNat bQ.C=Z.getD b []:=N;have j:cC (Z.getD b [])=l:=m _ N;have r:=Z2 (h:=h) o;have k:=DE h (Z.take b);rw[List.length_take]at k;refine bf d [15] a ?_ (g.aA (b+1) a ?_ ?_ ?_ ?_)
  .simp only[T,i,e,j,a8,bG.l,bw,a',a_];and_intros<;>first|exact bG.T _|omega
  .simp
  .rw[r];simp only[T.X,T,i,bG.l,a',a_];and_intros<;>first|simp|rfl|omega
  .grind
  omega
 obtain rfl:b=c Z:=x;rw[c9];refine bf d [-15] a E (g.aB ?_);refine cM d a v (g.bh () [] ?_ (λw s=>absurd s E));simp[jS,h']
def W9(b):X p 281 [b3 b] [] (bi (cC b)) []:=by
 refine X.I func281 rfl λh=>?_;have e:a9 p [(26,jK),(113,xw)]:=.cons ku (.cons t113 .nil);by_cases d:1<=c b/\c b<=8
 .refine a7 e [6] a bT (g.aw a ?_);simp[cC,d.1,d.2]
 refine a7 e [-6] a bT (g.aw a ?_);have:cC b=u:=by simp[cC,<-Bool.decide_and,k2 d,sw]
 simp[this]
abbrev HG:bJ:=df eI (λa=>bi (cC a)) λ_=>[]
def adr:bK p 281 HG:=.a9 λa _=>W9 a
def W0(a):X p 225 [b3 a] [] (b3 (fN a)) []:=by
 refine X.I func225 rfl λd=>?_;have b:a9 p [(281,HG),(202,BM)]:=.cons adr (.cons M1 .nil);cases s:cC a with
 |true=>exact a7 b [-5] rfl gY (g.aw rfl)
 |false=>exact a7 b [5] rfl gY (g.aw rfl (by simp[fN,s]))
abbrev HE:bJ:=df eI (λa=>b3 (fN a)) λ_=>[]
def adp:bK p 225 HE:=.a9 λa _=>W0 a
def aay(b):c (fN b)<=8:=by
 unfold fN;split
 .rename_i a;simp[cC,cl,bw]at a;grind[H1]
 simp
def WY(i):X p 182 [b3 i] [] (iP (hG i)) []:=by
 refine X.I func182 rfl λA=>?_;have C:=A.V 0 a;have r:a9 p [(225,HE)]:=.cons adp .nil;refine aZ a v ?_;have fin:∀j,j<=c i->ft (i.take j)=ft i->(j=0∨ft (i.take j)=i.take j)->i.take j=ft i:=λj d w o=>by
  rcases o with rfl|o
  .exact bD
  grind
 have e:∀j,j<=c i->i.take j=ft i->hG i=if c i<=8/\fN (ft i)=i/\j≠0 then f (i.take j)else n:=λj d w=>by
  have D:=aay (ft i);have s:j=0↔ft i=[]:=by grind[List.take_eq_nil_iff]
  unfold hG;rw[w];by_cases K:fN (ft i)=i
  .by_cases h:cC (ft i)=l
   .have:j≠0:=λy=>by rw[s.1 y]at h;cases h
    grind
   have y:j=0:=s.2 (by rw[fN,bl h]at K;grind);grind
  grind
 refine g.cg (S2:=Nat) 0 a a (λj=>j<=c i/\i.take j=ft i) (λj=>[(0,b3 i),(4,R j)]) (λ_=>[]) 0 (λj=>j<=c i/\ft (i.take j)=ft i) (λj:Nat=>[(0,b3 i),(4,R j)]) (λ_=>[]) (λj=>j) (c i) a E a v a ⟨by omega,by simp⟩ ?_ ?_
 .rintro dx j ⟨d,q⟩;rcases j with _|j
  .refine a6 [-9,-15] a E (g.aB ?_);exact dx 0 ⟨d,fin 0 d q (.inl a)⟩ a E a v
  have s:=MM (b:=i) (j:=j) x;have al:((j:Int)+1-1).toNat=j:=x;by_cases o:i.getD j 0=46
  .refine a6 [9,15] a ?_ (g.aA j a ?_ v ⟨by omega,?_⟩ x)
   .have K:dq i j=46:=by unfold dq;exact bD
    exact Pn
   .simp
   grind
  refine a6 [9,-15] a ?_ (g.aB ?_)
  .have K:dq i j≠46:=by unfold dq;intro B;exact o (ut.1 N)
   exact Pn
  exact dx (j+1) ⟨d,fin _ d q (.inr N)⟩ a E a v
 rintro j ⟨d,z⟩;have F:=e j d z;have t:mo i n (f (j:Int))=ft i:=z▸rfl;have m:((c i:Int)<=8)↔c i<=8:=x;by_cases k:c i<=8
 .by_cases iJ:fN (ft i)=i
  .by_cases jJ:j=0
   .refine a7 r [-21,-29,32] a ?_ (g.aw a ?_)
    .subst jJ;simp[T,t,iJ];grind
    exact bD
   refine a7 r [-21,-29,-32] a ?_ (g.aw a ?_)
   .simp[t,m,k,iJ,jJ,d]
   exact bD
  refine a7 r [-21,29,32] a ?_ (g.aw a ?_)
  .simp[t,m,k,iJ,d]
  exact bD
 refine a7 r [21,29,32] a bT (g.aw a ?_);exact bD
abbrev BL:bJ:=df eI (λa=>iP (hG a)) λ_=>[]
def M0:bK p 182 BL:=.a9 λa _=>WY a
def Xg(h)(b)(a:cA h=l):X p 140 [R h,Cf b] [] (bi (right h b)) []:=by
 refine X.I func140 rfl λe=>?_;have d:a9 p [(182,BL),(183,xF)]:=.cons M0 (.cons zz .nil);cases w:hG b.2 with
 |none=>exact a7 d [-14] rfl oT (g.aw rfl (by simp[right,w]))
 |some i=>exact a7 d [14] rfl (by simp[w,a,Lk w]) (g.aw rfl (by simp[right,w]))
abbrev BN:bJ:=ev c6 si (λa b=>bi (right a b)) λa _=>[cA a=l]
def M2:bK p 140 BN:=.bk λb d a=>Xg b d a
def VM(h):X p 59 [R h] [] (bi (cA h)) []:=by refine X.I func59 rfl λd=>?_;have b:a9 p [(26,jK)]:=.cons ku .nil;exact b9 b a v (g.aw a (by simp[cA]))
abbrev sK:bJ:=df c6 (λa=>bi (cA a)) λ_=>[]
def wb:bK p 59 sK:=.a9 λa _=>VM a
abbrev xC(a:cb):an:=.cells 99 [.c (.int .i64 a.1),.c (lm a)]
def WS(h)(b)(j):X p 227 [R h,fL b,R j] [] (iP (fT h b j)) []:=by
 refine X.I func227 rfl λw=>?_;have i:a9 p [(59,sK),(140,BN),(182,BL)]:=.cons wb (.cons M2 (.cons M0 .nil));cases bW:cA h with
 |false=>
  refine a7 i [11] a kT (g.aw a ?_);have:fT h b j=n:=by unfold fT iK;grind
  simp[this]
 |true=>
 have y:=w.fY 1 a 1 a;refine a7 i [-11] a kT (g.aL 1 (λd=>d<=c b.2/\b.2.find? (λC=>C.1==j)=(b.2.drop d).find? (λC=>C.1==j)) (λd:Nat=>[(0,R h),(4,aH 0 0),(2,R j),(8,R d)]) (λ_=>[xC b]) (λd=>c b.2-d) 0 a E a E a ⟨by omega,a⟩ ?_);rintro d ⟨t,e⟩;by_cases q:d<c b.2
 .have z:b.2.getD d bG.C=d8 b d:=rfl;have r:b.2.drop d=d8 b d::b.2.drop (d+1):=FZ;rw[r,List.find?_cons]at e;by_cases m:(d8 b d).1=j
  .rw[show((d8 b d).1==j)=l by grind]at e;cases k:right h (d8 b d)with
   |false=>
    have s:right h (j,(d8 b d).2)=u:=m▸k;refine a7 i [16,26,34] a du (g.aW (bX.zero a ?_));have o:fT h b j=n:=by have:=BZ (h:=h) (C:=d8 b d) bW;rw[k]at this;simp[fT,e];simp_all
    simp[o]
   |true=>
    have s:right h (j,(d8 b d).2)=l:=m▸k;refine a7 i [16,26,-34] a du (g.aW (bX.zero a ?_));have o:fT h b j=hG (d8 b d).2:=by simp[fT,e,iK];unfold right at k;grind
    simp_all
  rw[show((d8 b d).1==j)=u by grind]at e;refine a7 i [16,-26] a ?_ (g.aA (d+1) a E E ⟨q,e⟩ x);simp[-ak,z,m,a8,q];omega
 obtain rfl:d=c b.2:=x;refine a7 i [-16] a E (g.aB ?_);refine b9 i a v (g.aw a ?_);simp[fT,e]
abbrev HH:bJ:=kb c6 (jC bG) c6 (λa d b=>iP (fT a d b)) λ_ _ _=>[]
def adu:bK p 227 HH:=.c5 λa d b _=>WS a d b
theorem DW(b:Int)(a:cb):ib b a=(decide (1<=a.1/\a.1<=99)&&cA b&&decide (1<=c a.2/\c a.2<=4)&&(aA (c a.2)).all (ig b a)):=by grind[DV]
def acf{S:cb}(a:e≠0):ig h S e=(right h (d8 S e)&&decide ((d8 S (e-1)).1<(d8 S e).1)):=by unfold ig;grind
def WV(h:Int)(S:cb):X p 99 [R h,fL S] [] (bi (ib h S)) []:=by
 refine X.I func99 rfl λw=>?_;have d:a9 p [(26,jK),(59,sK),(140,BN)]:=.cons ku (.cons wb (.cons M2 .nil));have z:=w.fY 1 a 1 a;rw[DW];by_cases j:1<=S.1/\S.1<=99
 rotate_left
 .exact a7 d [10,14,21] a bT (g.aw a bD)
 cases e:cA h
 .exact a7 d [-10,14,21] a du (g.aw a)
 by_cases k:1<=c S.2/\c S.2<=4
 rotate_left
 .exact a7 d [-10,-14,21] a bD (g.aw a bu)
 refine a7 d [-10,-14,-21] a lF ?_;rw[fo j,fo k,fx,fx,fx];refine g.aL 1 (λb=>b<=c S.2/\∀r,r<b->ig h S r=l) (λb:Nat=>[(0,R h),(3,aH 0 0),(5,R b)]) (λ_=>[xC S]) (λb=>c S.2-b) 0 a E a E a ⟨by omega,by omega⟩ ?_;rintro b ⟨t,m⟩;by_cases s:b<c S.2
 .have B:S.2.getD b bG.C=d8 S b:=rfl;cases i:right h (d8 S b)with
  |false=>
   refine a7 d [26,37,56] a du (g.aW (bX.zero a ?_));rw[kD s (by simp only[ig,i,sw])];simp
  |true=>
   by_cases q:b=0
   .subst q;refine a7 d [26,-37,-40,-56] a ?_ (g.aA 1 a E E ⟨s,iI m (by simp only[ig,i,fx];rfl)⟩ x);exact lF
   have o:S.2.getD (b-1) bG.C=d8 S (b-1):=rfl;have A:=acf (h:=h) (S:=S) q;by_cases y:(d8 S (b-1)).1<(d8 S b).1
   .refine a7 d [26,-37,40,-54,-56] a ?_ (g.aA (b+1) a E E ⟨s,iI m N⟩ x);simp[-ak,B,o,i,e,s,y,a8];omega
   refine a7 d [26,-37,40,54,56] a ?_ (g.aW (bX.zero a ?_))
   .simp[-ak,B,o,i,e,s,a8];omega
   exact jZ
 obtain rfl:b=c S.2:=x;refine a7 d [-26] a E (g.aB ?_);exact b9 d a v (g.aw a bu)
abbrev HD:bJ:=ev c6 (jC bG) (λa b=>bi (ib a b)) λ_ _=>[]
def adm:bK p 99 HD:=.bk λa b _=>WV a b
def oj{a:m α}{K:α}(b:e<c a):a.getD e K∈a:=N
def YU{a:m Int}{b:Int}:a.contains b=!(aA (c a)).all λd=>!(a.getD d 0==b):=by rw[o4,jc,<-p8,fS,AP];grind[List.mem_iff_getElem]
def U2(d:m Int)(e:Int):X p 53 [aC.R d,R e] [] (bi (d.contains e)) []:=by
 refine X.I func53 rfl λk=>?_;have r:=k.R 0 a;refine aZ a v ?_;rw[YU];refine g.b7 (λb=>b<=c d/\∀i,i<b->(!(d.getD i 0==e))=l) (λb:Nat=>[(0,aC.R d),(1,R e),(5,R b)]) (λ_=>[]) (λb=>c d-b) 0 a E a v ⟨by omega,by omega⟩ ?_;rintro b ⟨o,j⟩;by_cases s:b<c d
 .have q:d.getD b aC.C=d.getD b 0:=rfl;by_cases h:d.getD b 0=e
  .refine a6 [9,17] a ?_ (g.bP (bX.zero a ?_))
   .simp[-ak,q,h,s]
   exact jZ
  refine a6 [9,-17] a ?_ (g.b3 (b+1) a E a v ⟨s,iI j N⟩ x);simp[-ak,q,h,s,a8];omega
 obtain rfl:b=c d:=x;refine a6 [-9] a E (g.bs a a ?_);exact aZ a v (g.aw a du)
abbrev uS:bJ:=ev (e' aC) c6 (λa b=>bi (a.contains b)) λ_ _=>[]
def zx:bK p 53 uS:=.bk λa b _=>U2 a b
def W7(e:Int)(b:m cb)(h:Int):X p 184 [R e,a3.R b,R h] [] (iP (dg e b h)) []:=by
 refine X.I func184 rfl λs=>?_;have w:=s.R 1 a;have k:a9 p [(227,HH)]:=.cons adu .nil;refine b9 k a v (g.b7 (λd=>d<=c b/\dg e b h=dg e (b.drop d) h) (λd:Nat=>[(0,R e),(1,a3.R b),(2,R h),(8,R d)]) (λ_=>[]) (λd=>c b-d) 0 a E a v ⟨by omega,a⟩ ?_);rintro d ⟨t,i⟩;by_cases o:d<c b
 .have q:b.drop d=b.getD d (0,[])::b.drop (d+1):=FZ;have r:((b.getD d a3.C).1,bG.ad (b.getD d a3.C).2.length (bG.fn (b.getD d a3.C).2))=b.getD d (0,[]):=bD;rw[q,show dg e (b.getD d (0,[])::b.drop (d+1)) h=_ from List.findSome?_cons]at i;cases j:fT e (b.getD d (0,[])) h with
  |some y=>
   rw[j]at i;refine a7 k [14,27] a ?_ (g.bP (bX.zero a ?_))
   .simp[-ak,r,j,o,bG.T]
   simp_all
  |none=>
   rw[j]at i;refine a7 k [14,-27] a ?_ (g.b3 (d+1) a E a v ⟨o,i⟩ x);simp[-ak,r,j,o,a8,bG.T];omega
 obtain rfl:d=c b:=x;refine a6 [-14] a E (g.bs a a ?_);exact aZ a v (g.aw a (by rw[i,su];simp[dg]))
abbrev HF:bJ:=kb c6 (e' a3) c6 (λb a d=>iP (dg b a d)) λ_ _ _=>[]
def adq:bK p 184 HF:=.c5 λb a d _=>W7 b a d
def Xh(w i):X p 228 [bQ.R w,bQ.R i] [] (bi (w==i)) []:=by
 refine X.I func228 rfl λk=>?_;have t:=k.R 0 a;by_cases r:c w=c i
 rotate_left
 .have:(w==i)=u:=eY.2 N;exact a6 [10] a bT (g.aw a (by simp[this]))
 refine a6 [-10] a bT (g.b7 (λb=>b<=c w/\∀d,d<b->w.getD d []=i.getD d []) (λb:Nat=>[(0,bQ.R w),(1,bQ.R i),(5,R b)]) (λ_=>[]) (λb=>c w-b) 0 a E a v ⟨by omega,by omega⟩ ?_);rintro b ⟨q,s⟩;by_cases o:b<c w
 .have h:∀j:m bC,j.getD b bQ.C=j.getD b []:=λ_=>rfl;by_cases e:w.getD b []=i.getD b []
  .refine a6 [14,-25] a ?_ (g.b3 (b+1) a E a v ⟨o,λd y=>?_⟩ x)
   .simp[-ak,h,e,a8];omega
   grind
  refine a6 [14,25] a ?_ (g.bP (bX.zero a ?_))
  .simp[-ak,h,e];omega
  exact Ft
 obtain rfl:b=c w:=x;have:w=i:=rl r λd e z=>by grind
 refine a6 [-14] a E (g.bs a a ?_);exact aZ a v (g.aw a (by simp[this]))
def adA:bK p 228 xB:=.bk λa b _=>Xh a b
def Ls(o):∀d e b,b∈iy o d e->c b<=8
 |0,_,b,a=>by exact bD
 |d+1,e,b,a=>by
  simp only[iy]at a;split at a
  .rename_i g;rcases fa.1 a with rfl|a
   .grind [rA]
   exact Ls o d _ b a
  grind
def Td{d}{a}(e:a∈d)(g:8<c a):iM d=n:=by unfold iM;rw[bl];intro b;simp[cl,gM]at b;have:=Ls d.flatten (c d.flatten) 0 a (by rw[show iy d.flatten (c d.flatten) 0=d from b.2];exact e);omega
def YF(a:m bC)(e):(a.take e).flatten.length<=c a.flatten:=F3
def Tc{d:m bC}(b:40<(d.take e).flatten.length):iM d=n:=by have:=YF d e;unfold iM;rw[bl];intro a;simp only[cl,fO,bw]at a;omega
def VK(d):X p 185 [bQ.R d] [] (iP (iM d)) []:=by
 refine X.I func185 rfl λr=>?_;have s:=r.R 0 a;have b:a9 p [(65,xx),(196,xz),(228,xB)]:=.cons MS (.cons EK (.cons adA .nil));refine b9 b a v (g.b7 (λe=>e<=c d/\(d.take e).flatten.length<=48) (λe:Nat=>[(0,bQ.R d),(4,b3 (d.take e).flatten),(5,R e)]) (λ_=>[]) (λe=>c d-e) 0 a E a v ⟨by omega,by simp⟩ ?_);rintro e ⟨o,k⟩;by_cases j:e<c d
 .have i:d.getD e bQ.C=d.getD e []:=rfl;have w:(d.take (e+1)).flatten=(d.take e).flatten++d.getD e []:=ii;by_cases h:c (d.getD e [])<=8
  .by_cases q:(d.take e).flatten.length<=40
   .refine a7 b [9,-18,-22] a ?_ (g.b3 (e+1) a ?_ a v ⟨j,by grind⟩ x)
    .simp[-ak,-List.length_flatten,i,a8];omega
    simp_all
   refine a7 b [9,-18,22] a ?_ (g.bP (bX.zero a ?_))
   .simp[-ak,-List.length_flatten,i];omega
   simp[Tc (d:=d) (e:=e) x]
  refine a7 b [9,18,22] a ?_ (g.bP (bX.zero a ?_))
  .simp[-ak,i];omega
  simp[T,T.X,Td (oj (K:=[]) j) x]
 obtain rfl:e=c d:=x;rw[c9]at k⊢;refine a7 b [-9] a E (g.bs a a ?_);have m:=bQ.l d;cases h:fO d.flatten with
 |false=>exact a7 b [32,38] rfl (by simp[h]) (g.aw rfl (by simp[iM,h]))
 |true=>
  have t:dX d.flatten=l:=by simp[fO,cl]at h;exact h.2
  cases q:(cm d.flatten==d)with
  |false=>
   refine a7 b [-32,38] a ?_ (g.aw a (by simp[iM,q]));exact bD
  |true=>
   refine a7 b [-32,-38] a ?_ (g.aw a (by simp[iM,h,q]));exact bD
abbrev Hs:bJ:=df (e' bQ) (λa=>iP (iM a)) λ_=>[]
def adb:bK p 185 Hs:=.a9 λa _=>VK a
abbrev zp(a:ef):an:=.cells 114 [.c (.int .i64 a.1),.c (.R u 2 (c a.2) (cu.fn a.2))]
abbrev np(d:Int)(b:m cb)(a:m Int):m bC:=a.map λe=>(dg d b e).getD []
def YT{Z}{a}(b:t<c a):np h Z (a.take (t+1))=np h Z (a.take t)++[(dg h Z (a.getD t 0)).getD []]:=ii
def Yu{Z}{a}(d:t<c a)(b:dg h Z (a.getD t 0)=n):g4 h Z a=n:=NY
def Yv{Z}{a}(d:∀b,b<c a->(dg h Z (a.getD b 0)).isSome=l):g4 h Z a=f (np h Z a):=by unfold g4;rw[bo];grind[List.mem_iff_getElem]
def XD(h)(b)(Z)(ab:c b.2<=4000000)(U:∀e∈b.2,c e.2<=4000000):
  X p 141 [R h,iQ b,a3.R Z] [] (nH ((ei h b Z).getD []) (ei h b Z).isSome) []:=by
 refine X.I func141 rfl λH=>?_;have o:a9 p [(59,sK),(184,HF),(185,Hs),(36,sI)]:=.cons wb (.cons adq (.cons adb (.cons t36 .nil)));cases bW:cA h with
 |false=>
  refine a7 o [19] a kT (g.aw a ?_);simp[ei,bW]
 |true=>
 refine a7 o [-19,904] a kT (g.bK 8 73 2 a a ?_);refine b9 o a v (g.aL 2 (λm=>m<=c b.2/\∀k,k<m->(fM h Z (b.2.getD k ([],[]))).isSome=l) (λm:Nat=>[(0,R h),(2,a3.R Z),(4,aH 0 0),(8,.n (.ar (.w 1 2 (c (fq h Z (b.2.take m))) (bx.fn (fq h Z (b.2.take m)))))),(9,R m)]) (λm=>[zp b,.w 73 2 (c (fq h Z (b.2.take m))) (bx.fn (fq h Z (b.2.take m)))]) (λm=>c b.2-m) 0 a Ah a Ah a ⟨by omega,by omega⟩ ?_);rintro m ⟨V,O⟩;by_cases w:m<c b.2
 .have F:=U _ (oj (K:=([],[])) w);have al:=CV (h:=h) (Z:=Z) w;have Y:c (fq h Z (b.2.take m))=m:=by simp[fq];omega
  have i:b.2.getD (m:Int).toNat cu.C=b.2.getD m ([],[]):=N;have C:=Eu (h:=h) (Z:=Z) w;generalize y:b.2.getD m ([],[])=e at F al i C;generalize fq h Z (b.2.take m)=s at *;refine a7 o [25,908] a bT (g.bK 10 9 1 a a ?_);refine b9 o a v (g.aL 3 (λk=>k<=c e.2/\∀A,A<k->(dg h Z (e.2.getD A 0)).isSome=l) (λk:Nat=>[(0,R h),(2,a3.R Z),(4,aH 0 0),(8,.n (.ar (.w 1 2 (c s) (bx.fn s)))),(9,R m),(10,.n (.ar (.w 2 1 (c (np h Z (e.2.take k))) (bQ.fn (np h Z (e.2.take k)))))),(11,R k)]) (λk=>[zp b,.w 73 2 (c s) (bx.fn s),.w 9 1 (c (np h Z (e.2.take k))) (bQ.fn (np h Z (e.2.take k)))]) (λk=>c e.2-k) 0 a E a E a ⟨by omega,by omega⟩ ?_);rintro k ⟨ae,aa⟩;by_cases D:k<c e.2
  .have q:e.2.getD (k:Int).toNat aC.C=e.2.getD k 0:=N;cases z:dg h Z (e.2.getD k 0)with
   |none=>
    have t:fM h Z e=n:=by simp[fM,Yu D z]
    refine a7 o [37,56] a ?_ (g.aW (g.dL (bX.zero a ?_)))
    .simp only[T,i,q,z,a3.l,a3.T];grind
    rw[C t];simp
   |some A=>
    have d:=YT (h:=h) (Z:=Z) D;rw[z]at d;have M:c (np h Z (e.2.take k))=k:=N;have r:=bQ.aX (np h Z (e.2.take k)) A;refine a7 o [37,-56] a ?_ (g.aA (k+1) a ?_ ?_ ⟨D,λW S=>?_⟩ x)
    .simp only[T,i,q,z,a3.l,a3.T,M,a8,show s4.bytes=16 from a];grind
    .exact QT
    .exact QT
    grind
  obtain rfl:k=c e.2:=x;have I:=Yv aa;rw[c9];have M:c (np h Z e.2)=c e.2:=E;refine a7 o [-37] a (by simp only[T,i];simp[w]) (g.aB ?_);cases j:iM (np h Z e.2)with
  |none=>
   have t:fM h Z e=n:=by simp[fM,I,j]
   refine a7 o [68] a ?_ (g.aW (bX.zero a ?_))
   .simp only[T,bQ.l,bQ.T,j];simp
   rw[C t];simp
  |some J=>
   have t:fM h Z e=f (e.1,J):=by simp[fM,I,j]
   rw[t]at al;have Q:=bx.aX s (e.1,J);refine a7 o [-68] a ?_ (g.aA (m+1) a ?_ ?_ ⟨w,λW S=>?_⟩ x)
   .simp only[T,i,bQ.l,bQ.T,j,Y,a8,show rK.bytes=32 from a];grind
   .exact QU
   .exact QU
   grind
 obtain rfl:m=c b.2:=x;rw[c9];have G:b.2.all (λe=>(fM h Z e).isSome)=l:=aY.2 λe F=>by grind[List.mem_iff_getElem]
 refine a7 o [-25] a E (g.aB ?_);cases B:dP (fq h Z b.2)with
 |false=>
  refine a7 o [83] a ?_ (g.aw a ?_)
  .simp[bx.l,bx.T,B]
  simp[ei,B]
 |true=>
  refine a7 o [-83] a ?_ (g.aw a ?_)
  .simp[bx.l,bx.T,B]
  simp[ei,B,bW,G]
abbrev HP:bJ:=kb c6 (jC cu) (e' a3) (λd b a=>nH ((ei d b a).getD []) (ei d b a).isSome) λ_ b _=>[c b.2<=4000000,∀e∈b.2,c e.2<=4000000]
def adD:bK p 141 HP:=.c5 λd e a b=>XD d e a b.1 b.2
abbrev Ax:=Int×Int
def hs(a:Ax):Bool:=decide (1<=a.1/\a.1<=2)&&decide (1<=a.2/\a.2<=20)
def gC(a:m Ax):Bool:=(aA (c a)).all (λb=>hs (a.getD b (0,0)))&&decide (c a<=9)
abbrev Ce(a:Ax):y:=.n (.agg [.c (.int .i64 a.1),.c (.int .i64 a.2)])
def U_(b):X p 142 [Ce b] [] (bi (hs b)) []:=by
 refine X.I func142 rfl λh=>?_;have e:a9 p [(26,jK)]:=.cons ku .nil;by_cases d:1<=b.1/\b.1<=2
 .exact a7 e [6] a (by simp[d]) (g.aw a (by simp[hs,d]))
 exact a7 e [-6] a bT (g.aw a (by simp only[T,hs,k2 d];simp))
def Wm(d):X p 101 [a1.R d] [] (bi (gC d)) []:=by
 refine X.I func101 rfl λm=>?_;have r:=m.R 0 a;have h:a9 p [(142,df p3 (λe=>bi (hs e)) λ_=>[])]:=.cons (.a9 λe _=>U_ e) .nil;refine b9 h a v ?_;unfold gC;refine g.b7 (λb=>b<=c d/\∀k,k<b->hs (d.getD k (0,0))=l) (λb:Nat=>[(0,a1.R d),(3,R b)]) (λ_=>[]) (λb=>c d-b) 0 a E a v ⟨by omega,by omega⟩ ?_;rintro b ⟨q,j⟩;by_cases e:b<c d
 .have o:d.getD b a1.C=d.getD b (0,0):=rfl;cases i:hs (d.getD b (0,0))with
  |false=>
   refine a7 h [7,15] a du (g.bP (bX.zero a ?_));rw[kD e i];simp
  |true=>
   refine a7 h [7,-15] a ?_ (g.b3 (b+1) a E a v ⟨e,iI j i⟩ x);simp[-ak,o,i,e,a8];omega
 obtain rfl:b=c d:=x;refine a7 h [-7] a E (g.bs a a ?_);exact b9 h a v (g.aw a (by rw[fS.2 j];simp;omega))
abbrev n8:bJ:=df (e' a1) (λa=>bi (gC a)) λ_=>[]
def MW:bK p 101 n8:=.a9 λa _=>Wm a
def cv(a:m cb):m Int:=a.flatMap λb=>b.2.map (·.1)
def j9(d:α->Int)(b:α)(e:m α)(a:Nat):Bool:=a==0||decide (d (e.getD (a-1) b)<d (e.getD a b))
def nG(d:Int)(a:m cb)(b:Nat):Bool:=ib d (a.getD b (0,[]))&&j9 (·.1) (0,[]) a b
def lo(d:Int)(a:ce)(b:Nat):Bool:=decide (1<=(a.2.1.getD b (0,[])).1/\(a.2.1.getD b (0,[])).1<=20)&&j9 (·.1) (0,[]) a.2.1 b&&(ei d (a.2.1.getD b (0,[])) a.1).isSome
def h0(b:Int)(a:ce):Bool:=(aA (c a.1)).all (nG b a.1)&&decide (cv a.1).Nodup&&(aA (c a.2.1)).all (lo b a)&&cA b&&gC a.2.2&&decide (c a.1<=20)
def KU{Z}(a:e<c Z):cv (Z.take (e+1))=cv (Z.take e)++(Z.getD e (0,[])).2.map (·.1):=by rw[ih a (0,[])];simp[cv]
def Z5{Z}(a:¬(cv (Z.take e)).Nodup):¬(cv Z).Nodup:=λb=>a (by
 have:cv Z=cv (Z.take e)++cv (Z.drop e):=RG
 grind)
abbrev oL(a:ce):an:=.cells 27 [.c (.R u 2 (c a.1) (a3.fn a.1)),.c (.R u 2 (c a.2.1) (bh.fn a.2.1)),.c (.R u 2 (c a.2.2) (a1.fn a.2.2))]
def U1(h)(b)(d)(j:c d.2<=4000000)(m:∀i∈d.2,c i.2<=4000000):X p 100 [R h,bY b,iQ d] [] (bi (ei h d b.1).isSome) []:=by
 refine X.I func100 rfl λk=>?_;have e:a9 p [(141,HP)]:=.cons adD .nil;have o:(d.1,cu.ad (c d.2) (cu.fn d.2))=d:=by rw[cu.l]
 refine b9 e a bD (g.aw a ?_);simp[cu.l,a3.l]
abbrev Hn:bJ:=kb c6 o6 (jC cu) (λb d a=>bi (ei b a d.1).isSome) λ_ _ a=>[c a.2<=4000000,∀e∈a.2,c e.2<=4000000]
def ac6:bK p 100 Hn:=.c5 λb d e a=>U1 b d e a.1 a.2
def qc{al:α->Int}{K}{d}(a:e≠0):j9 al K d e=decide (al (d.getD (e-1) K)<al (d.getD e K)):=by unfold j9;grind
def XO(h)(b)(L:kr b)(P:c b.1<=4000000)(ae:c b.2.1<=4000000):X p 54 [R h,bY b] [] (bi (h0 h b)) []:=by
 refine X.I func54 rfl λaM=>?_;have q:a9 p [(99,HD),(53,uS),(26,jK),(100,Hn),(59,sK),(101,n8)]:=.cons adm (.cons zx (.cons ku (.cons ac6 (.cons wb (.cons MW .nil)))));refine a7 q [902] a v (g.bK 5 3 1 a a ?_);refine b9 q a v ?_;unfold h0;refine g.aL 2 (λe=>e<=c b.1/\(∀k,k<e->nG h b.1 k=l)/\(cv (b.1.take e)).Nodup/\c (cv (b.1.take e))<=4*e) (λe:Nat=>[(0,R h),(3,aH 0 0),(5,.n (.ar (.w 1 1 (c (cv (b.1.take e))) (aC.fn (cv (b.1.take e)))))),(6,R e)]) (λe=>[oL b,.w 3 1 (c (cv (b.1.take e))) (aC.fn (cv (b.1.take e)))]) (λe=>c b.1-e) 0 a Fj a Fj a ⟨by omega,by omega,by simp[cv],by simp[cv]⟩ ?_;rintro e ⟨J,B,U,ab⟩;by_cases s:e<c b.1
 .have S:=KU s;have O:=Z5 (Z:=b.1) (e:=e+1);have z:b.1.getD e a3.C=b.1.getD e (0,[]):=rfl;have j:b.1.getD (e-1) a3.C=b.1.getD (e-1) (0,[]):=rfl;have t:nG h b.1 e=(ib h (b.1.getD e (0,[]))&&j9 (·.1) (0,[]) b.1 e):=rfl;have W:=qc (al:=λi:cb=>i.1) (K:=(0,[])) (d:=b.1) (e:=e);generalize y:b.1.getD e (0,[])=i at *;generalize b.1.getD (e-1) (0,[])=w at *;cases o:ib h i with
  |false=>
   rw[o,sw]at t;refine a7 q [14,25,44] a Qh (g.aW (bX.zero a ?_));rw[kD s t];simp
  |true=>
   have af:c i.2<=4:=by grind[DW]
   rw[o,fx]at t;cases C:j9 (·.1) (0,[]) b.1 e with
   |false=>
    have A:e≠0:=by rintro rfl;cases C
    have I:¬w.1<i.1:=N;refine a7 q [14,-25,28,42,44] a QO (g.aW (bX.zero a ?_));rw[kD s (t.trans C)];simp
   |true=>
   rw[C]at t;apply g.cd [(0,R h),(3,aH 0 0),(5,.n (.ar (.w 1 1 (c (cv (b.1.take e))) (aC.fn (cv (b.1.take e)))))),(6,R e),(7,R 0)] [oL b,.w 3 1 (c (cv (b.1.take e))) (aC.fn (cv (b.1.take e)))]
   .intro aa;by_cases A:e=0
    .subst A;refine a7 q [14,-25,-28,-44] a Qh (aa _ _ a ?_);simp
    have I:w.1<i.1:=N;refine a7 q [14,-25,28,-42,-44] a QO (aa _ _ a ?_);simp
   generalize cv (b.1.take e)=m at *;refine g.aL 2 (λk=>k<=c i.2/\(m++(i.2.take k).map (·.1)).Nodup) (λk:Nat=>[(0,R h),(3,aH 0 0),(5,.n (.ar (.w 1 1 (c (m++(i.2.take k).map (·.1))) (aC.fn (m++(i.2.take k).map (·.1)))))),(6,R e),(7,R k)]) (λk=>[oL b,.w 3 1 (c (m++(i.2.take k).map (·.1))) (aC.fn (m++(i.2.take k).map (·.1)))]) (λk=>c i.2-k) 0 a E a E a ⟨by omega,by grind⟩ ?_;rintro k ⟨ag,G⟩;by_cases r:k<c i.2
   .have Q:i.2.getD k bG.C=d8 i k:=rfl;have eK:m++(i.2.take (k+1)).map (·.1)=(m++(i.2.take k).map (·.1))++[(d8 i k).1]:=ii;have V:c (m++(i.2.take k).map (·.1))=c m+k:=N;generalize m++(i.2.take k).map (·.1)=D at *;cases M:D.contains (d8 i k).1 with
    |true=>
     refine a7 q [53,67] a ?_ (g.aW (g.dL (bX.zero a ?_)))
     .simp[-ak,-List.contains_eq_mem,z,Q,s,r,M,aC.l,aC.T]
     .have bA:¬(cv b.1).Nodup:=O (by
       have ah:m++i.2.map (·.1)=(m++(i.2.take (k+1)).map (·.1))++(i.2.drop (k+1)).map (·.1):=E
       grind)
      simp[bA]
    |false=>
     have H:=aC.aX D (d8 i k).1;have Y:aC.ad (c m+k) (aC.fn D)=D:=by rw[<-V];exact aC.l D
     refine a7 q [53,-67] a ?_ (g.aA (k+1) a ?_ ?_ ⟨r,?_⟩ x)
     .simp[-ak,-List.contains_eq_mem,z,Q,s,r,M,aC.l,aC.T,V,Y,a8,show ee.bytes=8 from a];omega
     .exact OY
     .exact OY
     grind
   obtain rfl:k=c i.2:=x;rw[c9]at G⊢;refine a7 q [-53] a ?_ (g.aB ?_)
   .simp[-ak,z,s]
   refine b9 q a bD (g.aA (e+1) a ?_ ?_ ⟨s,iI B t,by grind,by grind⟩ x)
   .rw[S];simp
   rw[S];simp
 obtain rfl:e=c b.1:=x;rw[c9]at U⊢;refine a7 q [-14] a E (g.aB ?_);refine b9 q a v ?_;rw[fS.2 B,fo U,fx,fx];generalize cv b.1=m;refine g.aL 2 (λe=>e<=c b.2.1/\(∀k,k<e->lo h b k=l)) (λe:Nat=>[(0,R h),(3,aH 0 0),(8,R e)]) (λ_=>[oL b,.w 3 1 (c m) (aC.fn m)]) (λe=>c b.2.1-e) 0 a E a E a ⟨by omega,by omega⟩ ?_;rintro e ⟨J,B⟩;by_cases s:e<c b.2.1
 .have z:b.2.1.getD e bh.C=b.2.1.getD e (0,[]):=rfl;have j:b.2.1.getD (e-1) bh.C=b.2.1.getD (e-1) (0,[]):=rfl;have bd:=L _ (oj (K:=(0,[])) s);have t:lo h b e=(decide (1<=(b.2.1.getD e (0,[])).1/\(b.2.1.getD e (0,[])).1<=20)&&j9 (·.1) (0,[]) b.2.1 e&&(ei h (b.2.1.getD e (0,[])) b.1).isSome):=rfl;have W:=qc (al:=λi:ef=>i.1) (K:=(0,[])) (d:=b.2.1) (e:=e);generalize y:b.2.1.getD e (0,[])=i at *;generalize b.2.1.getD (e-1) (0,[])=w at *;by_cases g9:1<=i.1/\i.1<=20
  rotate_left
  .refine a7 q [85,96,116,126] a ?_ (g.aW (bX.zero a ?_))
   .simp[-ak,z,s];omega
   exact jZ
  cases C:j9 (·.1) (0,[]) b.2.1 e with
  |false=>
   have A:e≠0:=by rintro rfl;cases C
   have I:¬w.1<i.1:=N;refine a7 q [85,-96,99,113,116,126] a ?_ (g.aW (bX.zero a ?_))
   .simp[-ak,z,j,s,g9,a8];omega
   exact jZ
  |true=>
   rw[fo g9,C,fx,fx]at t;cases r:(ei h i b.1).isSome with
   |false=>
    by_cases A:e=0
    .subst A;refine a7 q [85,-96,-99,-116,126] a ?_ (g.aW (bX.zero a ?_))
     .simp[-ak,z,s,g9,cu.l,cu.T,a3.l,a3.T,bh.T,a1.T,r,bd.1];grind
     rw[kD s (t.trans r)];simp
    have I:w.1<i.1:=N;refine a7 q [85,-96,99,-113,-116,126] a Rh (g.aW (bX.zero a ?_));rw[kD s (t.trans r)];simp
   |true=>
    rw[r]at t;by_cases A:e=0
    .subst A;refine a7 q [85,-96,-99,-116,-126] a ?_ (g.aA 1 a E E ⟨s,iI B t⟩ x);simp[-ak,z,s,g9,a8,cu.l,cu.T,a3.l,a3.T,bh.T,a1.T,r,bd.1];grind
    have I:w.1<i.1:=N;refine a7 q [85,-96,99,-113,-116,-126] a ?_ (g.aA (e+1) a E E ⟨s,iI B t⟩ x);exact Rh
 obtain rfl:e=c b.2.1:=x;refine a7 q [-85] a E (g.aB ?_);rw[fS.2 B,fx];cases bW:cA h
 .exact a7 q [-129,-134] a kT (g.aw a)
 cases F:gC b.2.2
 .exact a7 q [129,-134] a N1 (g.aw a)
 exact a7 q [129,134] a N1 (g.aw a bT)
abbrev BQ:bJ:=ev c6 o6 (λb a=>bi (h0 b a)) λ_ a=>[kr a,c a.1<=4000000,c a.2.1<=4000000]
def M6:bK p 54 BQ:=.bk λb d a=>XO b d a.1 a.2.1 a.2.2
def gr(d:Int)(a:m Int×Bool)(b:Int):m Int×Bool:=
 if a.2=l then(if b=d then a else(a.1++[b],l))else if d<=b then(if b=d then(a.1++[d],l)else(a.1++[d,b],l))else(a.1++[b],u)
abbrev fD(d:Int)(b:m Int)(a:Nat):m Int×Bool:=(b.take a).foldl (gr d) ([],u)
def e6(b:m Int)(a:Int):m Int:=if(b.foldl (gr a) ([],u)).2=l then(b.foldl (gr a) ([],u)).1 else(b.foldl (gr a) ([],u)).1++[a]
def xe{j}{d}(a:e<c d):fD j d (e+1)=gr j (fD j d e) (d.getD e 0):=ii
def xd(j)(d):∀a,a<=c d->(fD j d a).1.length+(if(fD j d a).2=l then 0 else 1)<=a+1
 |0,_=>by simp[fD]
 |a+1,g=>by have:=xd j d a x;rw[xe x];generalize fD j d a=b at *;obtain⟨b,e⟩:=b;unfold gr;grind
theorem Zp(d)(j):c (e6 d j)<=c d+1:=by
 have:=xd j d (c d) (bB _);simp[fD,c9]at this;unfold e6;split at this<;>rename_i a
 .grind
 grind
def aeA{h:Type}(a:c1 h)(d)(e g):bs (c d+1+1) (cg (c d+1) (cg (c d) (a.fn d) λb=>[a.a3 e].getD b []) λb=>[a.a3 g].getD b []) (a.fn (d++[e,g])):=a.e2 d e g
def TP(d)(j)(B:c d<=100000000):X p 98 [aC.R d,R j] [] (aC.R (e6 d j)) []:=by
 refine X.I func98 rfl λA=>?_;refine a6 [902] a v (g.bK 5 3 1 a a ?_);refine aZ a v (g.aL 1 (λb=>b<=c d) (λb:Nat=>[(0,aC.R d),(1,R j),(5,.n (.ar (.w 0 1 (fD j d b).1.length (aC.fn (fD j d b).1)))),(6,bi (fD j d b).2),(7,R b)]) (λb=>[.w 3 1 (fD j d b).1.length (aC.fn (fD j d b).1)]) (λb=>c d-b) 0 a N2 a N2 a x ?_);intro b s;have w:=xd j d b s;by_cases i:b<c d
 .have q:=xe (j:=j) i;have K:d.getD (b:Int).toNat aC.C=d.getD b 0:=du;generalize d.getD b 0=bI at *;generalize fD j d b=e at *;obtain⟨e,m⟩:=e;have al:=λbI=>aC.aX e bI;have r:=λy bI=>aC.e2 e y bI;have z:(c e+1+1)*8<=140737488355328:=N;have fin:∀o,fD j d (b+1)=o->True:=λ_ _=>trivial;have k:c d-(b+1)<c d-b:=x;by_cases h:bI=j
  .cases m with
   |true=>
    rw[show gr j (e,l) bI=(e,l) by simp[gr,h]]at q;refine a6 [12,-34] a ?_ (g.aA (b+1) a ?_ ?_ i k)
    .simp only[T,K,h,a8];simp;omega
    .rw[q];simp
    rw[q];simp
   |false=>
    rw[show gr j (e,u) bI=(e++[j],l) by simp[gr,h]]at q;refine a6 [12,24,-34] a ?_ (g.aA (b+1) a ?_ ?_ i k)
    .simp only[T,K,h,a8,show ee.bytes=8 from a];simp;omega
    .exact P_
    exact P_
  cases m with
  |true=>
   rw[show gr j (e,l) bI=(e++[bI],l) by simp[gr,h]]at q;refine a6 [12,34] a O1 (g.aA (b+1) a z0 ?_ i k);exact z0
  |false=>
   by_cases t:j<=bI
   .rw[show gr j (e,u) bI=(e++[j,bI],l) by simp[gr,h,t]]at q;refine a6 [12,24,34] a ?_ (g.aA (b+1) a ?_ ?_ i k)
    .simp only[T,K,a8,show ee.bytes=8 from a];simp[h,t];omega
    .exact Pf
    exact Pf
   rw[show gr j (e,u) bI=(e++[bI],u) by simp[gr,t]]at q;refine a6 [12,-24,34] a O1 (g.aA (b+1) a z0 ?_ i k);exact z0
 obtain rfl:b=c d:=x;unfold e6;simp[fD,c9]at w⊢;generalize d.foldl (gr j) ([],u)=e at *;obtain⟨e,m⟩:=e;have al:=aC.aX e j;refine a6 [-12] a E (g.aB ?_);cases m with
 |true=>exact aZ rfl E (g.aw rfl)
 |false=>
  refine aZ a ?_ (g.aw a ?_)
  .simp only[T,show ee.bytes=8 from a];simp at w⊢;omega
  simp[T,j7,dm,dk,gJ];and_intros<;>first|exact al|trivial
abbrev xy:bJ:=ev (e' aC) c6 (λa b=>aC.R (e6 a b)) λa _=>[c a<=100000000]
def EJ:bK p 98 xy:=.bk λb d a=>TP b d a
theorem qs(b):∀a:m Int,c (a.foldl e6 b)<=c b+c a
 |[]=>by simp
 |d::a=>by have:=qs (e6 b d) a;grind[Zp]
def yn{a:Type}(b:a->Int->a)(e:a){d}(g:t<c d):(d.take (t+1)).foldl b e=b ((d.take t).foldl b e) (d.getD t 0):=ii
def gF(a:m m1):m Int:=(d9 a).foldl e6 []
theorem ti(d):c (gF d)<=c (d9 d):=by
 have:=qs [] (d9 d)
 rwa [gL,cW]at this
def Xz(b)(I:c b.2<=4000000)(F:c (d9 b.2)<=4000000):X p 97 [iQ b] [] (aC.R (gF b.2)) []:=by
 refine X.I func97 rfl λB=>?_;have i:a9 p [(98,xy)]:=.cons EJ .nil;refine b9 i a v (g.aL 1 (λe=>e<=c b.2) (λe:Nat=>[(1,aH 0 0),(3,aC.R (gF (b.2.take e))),(4,R e)]) (λ_=>[zp b]) (λe=>c b.2-e) 0 a (by simp[gF,d9]) a E a x ?_);intro e y;by_cases s:e<c b.2
 .have d:b.2.getD e cu.C=b.2.getD e ([],[]):=rfl;have o:=KR s;have z:=KS b.2 (e+1);have D:=ti (b.2.take e);have A:gF (b.2.take (e+1))=(b.2.getD e ([],[])).2.foldl e6 (gF (b.2.take e)):=by simp[gF,o,ux]
  rw[o,dk]at z;generalize b.2.getD e ([],[])=j at *;generalize gF (b.2.take e)=k at *;refine a7 i [11] a gY (g.aL 1 (λh=>h<=c j.2) (λh:Nat=>[(1,aH 0 0),(3,aC.R ((j.2.take h).foldl e6 k)),(4,R e),(5,R h)]) (λ_=>[zp b]) (λh=>c j.2-h) 0 a E a E a x ?_);intro h C;by_cases m:h<c j.2
  .have q:j.2.getD h aC.C=j.2.getD h 0:=rfl;have t:=yn e6 k m;have w:=qs k (j.2.take h);rw[List.length_take]at w;generalize(j.2.take h).foldl e6 k=j4 at *;have r:=aC.l j4;refine a7 i [22] a ?_ (g.aA (h+1) a ?_ ?_ m x)
   .simp[-ak,d,q,s,m,r,aC.T,a8];omega
   .rw[t];simp[-ak,d,q,r]
   simp
  obtain rfl:h=c j.2:=x;rw[c9,<-A];refine a7 i [-22] a du (g.aB ?_);exact Qr
 obtain rfl:e=c b.2:=x;rw[c9];refine a7 i [-11] a E (g.aB ?_);exact b9 i a v (g.aw a)
abbrev BJ:bJ:=df (jC cu) (λa=>aC.R (gF a.2)) λa=>[c a.2<=4000000,c (d9 a.2)<=4000000]
def MY:bK p 97 BJ:=.a9 λb a=>Xz b a.1 a.2
def hp(a:m ef):m Int:=a.flatMap λb=>d9 b.2
def hX(b:m ef):m Int:=b.foldl (λa d=>(gF d.2).foldl e6 a) []
theorem A0{d}(a:e<c d):hp (d.take (e+1))=hp (d.take e)++d9 (d.getD e (0,[])).2:=by rw[ih a (0,[])];simp[hp]
def GD(d)(e):c (hp (d.take e))<=c (hp d):=by
 have a:hp d=hp (d.take e)++hp (d.drop e):=by unfold hp;grind[List.take_append_drop]
 grind
theorem KH{d}(a:e<c d):hX (d.take (e+1))=(gF (d.getD e (0,[])).2).foldl e6 (hX (d.take e)):=by unfold hX;grind[ih]
def yG(d):∀a,a<=c d->c (hX (d.take a))<=c (hp (d.take a))
 |0,_=>by simp[hX]
 |a+1,e=>by have b:=yG d a x;grind[qs,ti,KH,A0]
def Ws(b)(t:kr b)(N:c b.2.1<=4000000)(O:c (hp b.2.1)<=4000000):X p 52 [bY b] [] (aC.R (hX b.2.1)) []:=by
 refine X.I func52 rfl λI=>?_;have i:a9 p [(98,xy),(97,BJ)]:=.cons EJ (.cons MY .nil);refine b9 i a v (g.aL 1 (λe=>e<=c b.2.1) (λe:Nat=>[(1,aH 0 0),(3,aC.R (hX (b.2.1.take e))),(4,R e)]) (λ_=>[oL b]) (λe=>c b.2.1-e) 0 a (by simp[hX]) a E a x ?_);intro e m;by_cases s:e<c b.2.1
 .have r:b.2.1.getD e bh.C=b.2.1.getD e (0,[]):=rfl;have D:=t _ (oj (K:=(0,[])) s);have y:=A0 s;have C:=GD b.2.1 (e+1);have M:=yG b.2.1 e m;have t:=KH s;rw[y,dk]at C;generalize b.2.1.getD e (0,[])=j at *;have F:=ti j.2;generalize hX (b.2.1.take e)=k at *;refine a7 i [12] a ?_ ?_
  .simp[-ak,s,r,cu.l,cu.T];omega
  have z:b.2.1.getD (e:Int).toNat bh.C=j:=by rw[c5];exact r
  rw[z,cu.l];refine g.aL 1 (λd=>d<=c (gF j.2)) (λd:Nat=>[(1,aH 0 0),(3,aC.R (((gF j.2).take d).foldl e6 k)),(4,R e),(5,aC.R (gF j.2)),(6,R d)]) (λ_=>[oL b]) (λd=>c (gF j.2)-d) 0 a E a E a x ?_;intro d J;generalize gF j.2=h at *;by_cases o:d<c h
  .have q:h.getD d aC.C=h.getD d 0:=rfl;have A:=yn e6 k o;have B:=qs k (h.take d);rw[List.length_take]at B;generalize(h.take d).foldl e6 k=j4 at *;have w:=aC.l j4;refine a7 i [24] a ?_ (g.aA (d+1) a ?_ ?_ o x)
   .simp[-ak,q,o,w,aC.T,a8];omega
   .rw[A];simp[-ak,q,w]
   simp
  obtain rfl:d=c h:=x;rw[c9,<-t];refine a7 i [-24] a E (g.aB ?_);exact Qr
 obtain rfl:e=c b.2.1:=x;rw[c9];refine a7 i [-12] a E (g.aB ?_);exact b9 i a v (g.aw a)
abbrev BI:bJ:=df o6 (λa=>aC.R (hX a.2.1)) λa=>[kr a,c a.2.1<=4000000,c (hp a.2.1)<=4000000]
def MX:bK p 52 BI:=.a9 λb a=>Ws b a.1 a.2.1 a.2.2
abbrev dQ:=ce×m Int×m Int
abbrev ek:=Int×dQ×(Int×Int×Int×bC)×m (Int×Int)×m Int
abbrev Yq:ra ce:=yf (u_ a3) (yf (u_ bh) (u_ a1))
abbrev CP:ra dQ:=yf Yq (yf (u_ aC) (u_ aC))
abbrev cK(a:c1 α)(b:m α):Q:=.c (.R u a.bb (c b) (a.fn b))
abbrev v_(a:dQ):m Q:=[cK a3 a.1.1,cK bh a.1.2.1,cK a1 a.1.2.2,cK aC a.2.1,cK aC a.2.2]
abbrev gz(a:dQ):y:=.n (.agg (v_ a))
abbrev lu(a:ek):m Q:=.c (.int .i64 a.1)::(v_ a.2.1++[.c (.int .i64 a.2.2.1.1),.c (.int .i64 a.2.2.1.2.1),.c (.int .i64 a.2.2.1.2.2.1),.c (.V a.2.2.1.2.2.2),cK a1 a.2.2.2.1,cK aC a.2.2.2.2])
abbrev eZ(a:ek):y:=.n (.agg (lu a))
structure pZ(b:ce):Prop where
 fM:c b.1<=4000000
 dW:kr b
 fc:c b.2.1<=4000000
 eC:c (hp b.2.1)<=4000000
def nx(a:m cb)(d:m Int)(b:Nat):Bool:=(a.any λe=>e.1==d.getD b 0)&&j9 (λg=>g) 0 d b
def hj(b:Int)(a:dQ):Bool:=(hX a.1.2.1).all (λd=>a.2.1.contains d)&&(aA (c a.2.2)).all (nx a.1.1 a.2.2)&&h0 b a.1
def Sg{d}{a:Int->Bool}:d.all a=(aA (c d)).all λb=>a (d.getD b 0):=by rw[o4,fS,aY];grind[List.mem_iff_getElem]
def Sl{d}{S:cb->Bool}(a:t<c d):(d.take (t+1)).any S=((d.take t).any S||S (d.getD t (0,[]))):=ii
abbrev gu(a:dQ):an:=.cells 30 (v_ a)
def XW(h)(b)(o:pZ b.1):X p 27 [R h,gz b] [] (bi (hj h b)) []:=by
 refine X.I func27 rfl λI=>?_;have m:a9 p [(52,BI),(53,uS),(54,BQ)]:=.cons MX (.cons zx (.cons M6 .nil));have O:=I.fY 1 a 4 a;have J:=yG b.1.2.1 _ (bB _);rw[c9]at J;have Y:=o.eC;refine b9 m a ?_ ?_
 .simp[a3.l,a3.T,bh.l,bh.T,a1.l,a1.T,o.dW,o.fc,o.eC]
 rw[bh.l];unfold hj;rw[Sg];generalize hX b.1.2.1=k at *;refine g.aL 1 (λe=>e<=c k/\∀j,j<e->b.2.1.contains (k.getD j 0)=l) (λe:Nat=>[(0,R h),(3,aH 0 0),(5,aC.R k),(6,R e)]) (λ_=>[gu b]) (λe=>c k-e) 0 a E a E a ⟨by omega,by omega⟩ ?_;rintro e ⟨A,q⟩;by_cases s:e<c k
 .have r:k.getD e aC.C=k.getD e 0:=rfl;cases z:b.2.1.contains (k.getD e 0)with
  |false=>
   refine a7 m [16,26] a ?_ (g.aW (bX.zero a ?_))
   .simp[-ak,-List.contains_eq_mem,r,s,z,aC.l,aC.T]
   rw[kD s z];simp
  |true=>
   refine a7 m [16,-26] a ?_ (g.aA (e+1) a E E ⟨s,iI q z⟩ x);simp[-ak,-List.contains_eq_mem,r,s,z,aC.l,aC.T,a8];omega
 obtain rfl:e=c k:=x;rw[fS.2 q,fx];refine a7 m [-16] a E (g.aB ?_);refine b9 m a v (g.aL 1 (λe=>e<=c b.2.2/\∀j,j<e->nx b.1.1 b.2.2 j=l) (λe:Nat=>[(0,R h),(3,aH 0 0),(7,R e)]) (λ_=>[gu b]) (λe=>c b.2.2-e) 0 a E a E a ⟨by omega,by omega⟩ ?_);rintro e ⟨A,q⟩;by_cases s:e<c b.2.2
 .have r:b.2.2.getD e aC.C=b.2.2.getD e 0:=rfl;have bd:b.2.2.getD (e-1) aC.C=b.2.2.getD (e-1) 0:=rfl;have B:nx b.1.1 b.2.2 e=((b.1.1.any λS=>S.1==b.2.2.getD e 0)&&j9 (λD=>D) 0 b.2.2 e):=rfl;have Q:=qc (al:=λD:Int=>D) (K:=0) (d:=b.2.2) (e:=e);generalize b.2.2.getD e 0=t at *;generalize b.2.2.getD (e-1) 0=C at *;refine a7 m [31] a gY (g.aL 1 (λj=>j<=c b.1.1) (λj:Nat=>[(0,R h),(3,aH 0 0),(7,R e),(8,bi ((b.1.1.take j).any λS=>S.1==t)),(9,R j)]) (λ_=>[gu b]) (λj=>c b.1.1-j) 0 a E a E a x ?_);intro j G;by_cases w:j<c b.1.1
  .have V:=o.fM;have y:b.1.1.getD j a3.C=b.1.1.getD j (0,[]):=rfl;have W:=Sl (S:=λS=>S.1==t) w;generalize b.1.1.getD j (0,[])=S at *;generalize(b.1.1.take j).any (λS=>S.1==t)=i at *;cases i with
   |true=>
    refine a7 m [39] a ?_ (g.aA (j+1) a ?_ ?_ w x)
    .simp[w,a8];omega
    .exact bD
    simp
   |false=>
    refine a7 m [39] a ?_ (g.aA (j+1) a ?_ ?_ w x)
    .simp[-ak,s,w,a8];omega
    .exact bD
    simp
  obtain rfl:j=c b.1.1:=x;rw[c9];refine a7 m [-39] a E (g.aB ?_);cases F:b.1.1.any (λS=>S.1==t)with
  |false=>
   rw[F,sw]at B;refine a7 m [77] a E (g.aW (bX.zero a ?_));rw[kD s B];simp
  |true=>
   rw[F,fx]at B;by_cases M:e=0
   .subst M;refine a7 m [-63,-77] a ?_ (g.aA 1 a E E ⟨s,iI q bD⟩ x);simp[a8]
   by_cases U:C<t
   .refine a7 m [63,-75,-77] a ?_ (g.aA (e+1) a E E ⟨s,iI q N⟩ x);exact PN
   refine a7 m [63,75,77] a PN (g.aW (bX.zero a ?_));exact jZ
 obtain rfl:e=c b.2.2:=x;rw[fS.2 q,fx];refine a7 m [-31] a E (g.aB ?_);refine b9 m a ?_ (g.aw a ?_)
 .simp[a3.l,a3.T,bh.l,bh.T,a1.l,a1.T,o.dW,o.fc,o.fM]
 simp[a3.l,bh.l,a1.l]
abbrev BR:bJ:=ev c6 (AF CP) (λb a=>bi (hj b a)) λ_ a=>[pZ a.1]
def M8:bK p 27 BR:=.bk λb d a=>XW b d a
theorem ZD{b a}(e:dX b=l)(g:∀d∈a,d∈b):dX a=l:=by unfold dX at e⊢;grind
def Lu{o}(g:dX o=l):∀e a,∀d∈iy o e a,cC d=l
 |0,_,d,b=>by exact bD
 |e+1,a,d,b=>by
  simp only[iy]at b;split at b
  .rename_i h;have i:=rA o a h;rcases fa.1 b with rfl|b
   .have q:c ((o.drop a).take (eo o a-a))=eo o a-a:=N;simp[cC,cl,bw];grind[ZD]
   exact Lu g e _ d b
  grind
def vN{o}(a:dX o=l):∀b∈cm o,cC b=l:=Lu a _ _
def Lt(o):∀a b,c (iy o a b)<=a
 |0,_=>bB _
 |a+1,b=>by
  simp[iy];split
  .have:=Lt o a (eo o b);grind
  simp
theorem vM(o):c (cm o)<=c o:=Lt o _ _
def eR(b:m cY):m bC:=b.flatMap λa=>cm a.2
def GH{o}(a:e<c o):eR (o.take (e+1))=eR (o.take e)++cm (o.getD e ([],[])).2:=by rw[ih a ([],[])];simp[eR]
def GG(o)(e):c (eR (o.take e))<=c (eR o):=by
 have a:eR o=eR (o.take e)++eR (o.drop e):=by unfold eR;grind[List.take_append_drop]
 grind
def C5(h)(d)(Z):∀a:m bC,c (Z.foldl (e8 h d) a)<=c a+c Z:=by
 induction Z with
 |nil=>grind
 |cons b j e=>
  intro a;have g:=e (e8 h d a b);have i:c (e8 h d a b)<=c a+1:=by unfold e8;split<;>simp
  grind
abbrev Hm:bJ:=ev (e' fb) c6 (λa b=>R (iS a b)) λa _=>[c a<=4000000]
def ac4:bK p 197 Hm:=.bk λb d a=>UR b d a
abbrev Hq:bJ:=ev (e' bQ) eI (λa b=>bi (a.contains b)) λa _=>[c a<=4000000]
def ac_:bK p 198 Hq:=.bk λb d a=>Vr b d a
abbrev IB(a:m bC):y:=.n (.ar (.w 0 1 (c a) (bQ.fn a)))
structure rb(o:m cY):Prop where
 len:c o<=4000000
 fl:∀al∈o,dX al.2=l/\c al.2<=4000000
 all:c (eR o)<=100000
def WF(h)(o)(d)(q:cA h=l)(t:rb o)(U:c d<=4000000):X p 159 [R h,bx.R o,fb.R d] [] (bQ.R (fW h o d)) []:=by
 refine X.I func159 rfl λQ=>?_;have k:a9 p [(196,xz),(183,xF),(197,Hm),(198,Hq)]:=.cons EK (.cons zz (.cons ac4 (.cons ac_ .nil)));refine bf k [902] a v (g.bK 7 9 1 a a ?_);refine cM k a v (g.aL 1 (λb=>b<=c o) (λb:Nat=>[(0,R h),(1,bx.R o),(2,fb.R d),(7,IB ((eR (o.take b)).foldl (e8 h d) [])),(8,R b)]) (λb=>[.w 9 1 (c ((eR (o.take b)).foldl (e8 h d) [])) (bQ.fn ((eR (o.take b)).foldl (e8 h d) []))]) (λb=>c o-b) 0 a ?_ a ?_ a x ?_)
 .simp[eR]
 .simp[eR]
 intro b C;by_cases B:b<c o
 .have M:o.getD (b:Int).toNat bx.C=o.getD b ([],[]):=N;have A:o.getD b ([],[])∈o:=N;obtain⟨S,J⟩:=t.fl _ A;have D:=GH B;have K:=GG o (b+1);have V:=t.all;have W:=t.len;have I:=vN S;generalize o.getD b ([],[])=j at *;rw[D,dk]at K;refine bf k [15] a du ?_;rw[M];refine g.aL 1 (λe=>e<=c (cm j.2)) (λe:Nat=>[(0,R h),(1,bx.R o),(2,fb.R d),(7,IB ((eR (o.take b)++(cm j.2).take e).foldl (e8 h d) [])),(8,R b),(9,bQ.R (cm j.2)),(10,R e)]) (λe=>[.w 9 1 (c ((eR (o.take b)++(cm j.2).take e).foldl (e8 h d) [])) (bQ.fn ((eR (o.take b)++(cm j.2).take e).foldl (e8 h d) []))]) (λe=>c (cm j.2)-e) 0 a E a E a x ?_;intro e y;have F:=C5 h d (eR (o.take b)++(cm j.2).take e) [];simp only[gL,dk,List.length_take]at F;by_cases O:e<c (cm j.2)
  .have i:(cm j.2).getD (e:Int).toNat bQ.C=(cm j.2).getD e []:=N;have r:cC ((cm j.2).getD e [])=l:=I _ N;have m:(eR (o.take b)++(cm j.2).take (e+1)).foldl (e8 h d) []=e8 h d ((eR (o.take b)++(cm j.2).take e).foldl (e8 h d) []) ((cm j.2).getD e []):=ii;generalize(eR (o.take b)++(cm j.2).take e).foldl (e8 h d) []=dx at *;generalize(cm j.2).getD e []=w at *;have z:=bQ.aX dx w;by_cases s:iS d (dY h w)=0
   .cases aa:dx.contains w with
    |true=>
     rw[e8,bl N]at m;refine bf k [27,38,45] a ?_ (g.aA (e+1) a ?_ ?_ ?_ ?_)
     .simp only[T,i,q,r,s,aa,a8,bQ.l,fb.l,f',bw,a',a_];exact QS
     .rw[m];simp
     .rw[m];simp
     .grind
     omega
    |false=>
     rw[e8,bo N]at m;refine bf k [27,38,-45] a ?_ (g.aA (e+1) a ?_ ?_ ?_ ?_)
     .simp only[T,i,q,r,s,aa,a8,show s4.bytes=16 from a,bQ.l,fb.l,f',bw,a',a_];exact QS
     .rw[m];simp only[T.X,T,i,dk,fw,gL,a',a_];and_intros<;>first|exactλ_ _=>rfl|exact z|rfl|omega
     .rw[m];simp only[T.X,T,i,dk,fw,gL,a',a_];and_intros<;>first|exact z|rfl|omega
     .grind
     omega
   rw[e8,bl N]at m;refine bf k [27,-38] a ?_ (g.aA (e+1) a ?_ ?_ ?_ ?_)
   .simp only[T,i,q,r,a8,fb.l,eY,d6,s,qb,bw,a',a_];and_intros<;>first|exact fb.T _|omega
   .rw[m];simp
   .rw[m];simp
   .grind
   omega
  have Y:e=c (cm j.2):=x;refine bf k [-27] a bu (g.aB ?_);exact cM k a bD (g.aA (b+1) a du du N x)
 obtain rfl:b=c o:=x;rw[c9];refine bf k [-15] a E (g.aB ?_);refine cM k a v (g.aw a ?_);simp[fW,eR]
abbrev kn(b:Int)(a:m bC):m Int:=a.map (dY b)
abbrev ow(a:Int)(b:m cY):m m1:=b.map (kK a)
abbrev K5(b:Int)(a:m m1):m an:=[.cells 114 [.c (.int .i64 0),.c (.R l 0 0 λ_=>[])],.cells 114 [.c (.int .i64 b),.w 2 2 (c a) (cu.fn a)],.w 155 2 (c a) (cu.fn a)]
def WM(bL h)(o)(m:cA h=l)(t:rb o):X p 162 [R bL,R h,bx.R o] [] (iQ (fI bL h o)) []:=by
 refine X.bc bb func162 rfl rfl rfl λU=>?_;have j:a9 p [(196,xz),(183,xF)]:=.cons EK (.cons zz .nil);refine bf j [902] a v (g.ck 1 1 155 2 (cu.fn []) a a ?_);refine cM j a v (g.aL 3 (λe=>e<=c o) (λe:Nat=>[(1,R h),(2,bx.R o),(6,aH 0 0),(7,aH 1 0),(8,R e)]) (λe=>K5 bL (ow h (o.take e))) (λe=>c o-e) 0 a E a E a x ?_);intro e A;by_cases K:e<c o
 .have r:o.getD (e:Int).toNat bx.C=o.getD e ([],[]):=N;have z:o.getD e ([],[])∈o:=N;obtain⟨I,F⟩:=t.fl _ z;have S:=t.len;have C:=vN I;have Q:=vM (o.getD e ([],[])).2;have s:ow h (o.take (e+1))=ow h (o.take e)++[kK h (o.getD e ([],[]))]:=ii;have M:c (ow h (o.take e))=e:=N;generalize o.getD e ([],[])=b at *;generalize ow h (o.take e)=k at *;refine bf j [18,907] a du ?_;rw[r];refine g.bK 10 3 1 a a ?_;refine cM j a v (g.aL 4 (λd=>d<=c (cm b.2)) (λd:Nat=>[(1,R h),(2,bx.R o),(6,aH 0 0),(7,aH 1 0),(8,R e),(9,bQ.R (cm b.2)),(10,.n (.ar (.w 3 1 d (aC.fn (kn h ((cm b.2).take d)))))),(11,R d)]) (λd=>K5 bL k++[.w 3 1 d (aC.fn (kn h ((cm b.2).take d)))]) (λd=>c (cm b.2)-d) 0 a E a E a x ?_);intro d y;by_cases V:d<c (cm b.2)
  .have i:(cm b.2).getD (d:Int).toNat bQ.C=(cm b.2).getD d []:=N;have B:cC ((cm b.2).getD d [])=l:=C _ N;have q:=aC.aX (kn h ((cm b.2).take d)) (dY h ((cm b.2).getD d []));rw[show(kn h ((cm b.2).take d)).length=d by grind,show kn h ((cm b.2).take d)++[dY h ((cm b.2).getD d [])]=kn h ((cm b.2).take (d+1)) by grind[ih]]at q;refine bf j [31] a ?_ (g.aA (d+1) a ?_ ?_ ?_ ?_)
   .simp only[T,i,m,B,a8,show ee.bytes=8 from a,bw,a',a_];exact fA
   .exact PT
   .exact PT
   .grind
   omega
  have D:d=c (cm b.2):=x;rw[D,c9];have q:=cu.aX k (kK h b);have w:c k+1=c (k++[kK h b]):=E;have J:cu.a3 (kK h b)=[O.V b.1,O.R u 1 (c (cm b.2)) (aC.fn (kn h (cm b.2)))]:=by show[O.V b.1,O.R u 1 (c (kn h (cm b.2))) (aC.fn (kn h (cm b.2)))]=_;grind
  rw[J,<-s]at q;rw[<-s]at w;refine bf j [-31] a E (g.aB ?_);refine cM j a Po (g.aA (e+1) a E ?_ ?_ ?_)
  .simp only[T.X,T,r,a',a_];and_intros<;>first|exact bs.same|exact q|exact w|rfl
  .grind
  omega
 obtain rfl:e=c o:=x;rw[c9];refine bf j [-18] a E (g.aB ?_);refine cM j a v (g.bh () [] ?_ (λd y=>absurd y E));simp[fI]
def o7(b a:Nat->m O):cg 0 b a=a:=by funext e;simp[cg]
abbrev jV(a:ce):an:=.cells 27 [.c (.R u 2 (c a.1) (a3.fn a.1)),.c (.R u 2 (c a.2.1) (bh.fn a.2.1)),.c (.R u 2 (c a.2.2) (a1.fn a.2.2))]
abbrev Ca(a:ce)(b:Nat)(e:m cb)(d:Nat)(g:m ef):m an:=[jV a,.cells 27 [cF,cF,cF],.p 99 2 b (a3.fn e),.p 114 2 d (bh.fn g),.p 48 2 (c a.2.2) (a1.fn a.2.2),.cells 27 [.K 2 (.R b 2 0 b),.K 3 (.R d 2 0 d),.K 4 (.R (c a.2.2) 2 0 (c a.2.2))]]
def Uo(b)(A:c b.1<=4000000)(s:∀y∈b.1,c y.2<=4000000)(F:c b.2.1<=4000000)(r:kr b)(D:c b.2.2<=4000000):
  X p 70 [bY b] [] (.n (.agg [.K 0 (.R (c b.1) 2 0 (c b.1)),.K 1 (.R (c b.2.1) 2 0 (c b.2.1)),.K 2 (.R (c b.2.2) 2 0 (c b.2.2))])) [.p 99 2 (c b.1) (a3.fn b.1),.p 114 2 (c b.2.1) (bh.fn b.2.1),.p 48 2 (c b.2.2) (a1.fn b.2.2)]:=by
 refine X.bc bb func70 rfl rfl rfl λB=>?_;refine bP [901] a v (g.region ?_);refine gV [] 5 a v (g.dI 9 99 2 (a3.fn []) a ?_);refine g.dI 10 114 2 (bh.fn []) a ?_;refine g.dI 11 48 2 (a1.fn []) a ?_;refine cy a O_ (g.aL 6 (λd=>d<=c b.1) (λd:Nat=>[(1,aH 0 0),(2,aH 1 0),(3,aH 5 0),(4,R d)]) (λd=>Ca b d (b.1.take d) 0 []) (λd=>c b.1-d) 0 a E a ?_ a x ?_)
 .simp[bs,o7];rfl
 intro d m;by_cases k:d<c b.1
 .have j:b.1.getD d (0,[])∈b.1:=N;have w:b.1.getD (d:Int).toNat a3.C=b.1.getD d (0,[]):=N;have q:=s _ j;refine bP [20,2000038] a FF (g.aA (d+1) a E ?_ ?_ ?_)
  .have aj:=a3.cV b.1 k (0,[]);exact Of
  .grind
  omega
 obtain rfl:d=c b.1:=x;rw[c9];refine bP [-20] a E (g.aB ?_);refine cy a v (g.aL 6 (λd=>d<=c b.2.1) (λd:Nat=>[(1,aH 0 0),(2,aH 1 0),(3,aH 5 0),(5,R d)]) (λd=>Ca b (c b.1) b.1 d (b.2.1.take d)) (λd=>c b.2.1-d) 0 a E a E a x ?_);intro d m;by_cases k:d<c b.2.1
 .have j:b.2.1.getD d (0,[])∈b.2.1:=N;have w:b.2.1.getD (d:Int).toNat bh.C=b.2.1.getD d (0,[]):=N;have q:=r _ j;have aj:=bh.cV b.2.1 k (0,[]);generalize b.2.1.getD d (0,[])=h at *;refine bP [47,910] a bu ?_;rw[w];refine g.ck 6 1 155 2 (cu.fn []) a a ?_;refine cy a v (g.aL 8 (λe=>e<=c h.2) (λe:Nat=>[(1,aH 0 0),(2,aH 1 0),(3,aH 5 0),(5,R d),(6,aH 6 0),(7,R e)]) (λe=>Ca b (c b.1) b.1 d (b.2.1.take d)++[.cells 114 [.c (.int .i64 h.1),.w 7 2 e (cu.fn (h.2.take e))],.w 155 2 e (cu.fn (h.2.take e))]) (λe=>c h.2-e) 0 a E a E a x ?_);intro e o;by_cases t:e<c h.2
  .have i:h.2.getD (e:Int).toNat cu.C=h.2.getD e ([],[]):=N;have C:=q.2 (h.2.getD e ([],[])) N;have z:=cu.cV h.2 t ([],[]);refine bP [66,2000085] a Rf (g.aA (e+1) a E Qm N ?_);omega
  obtain rfl:e=c h.2:=x;rw[c9];refine bP [-66] a FH (g.aB ?_);refine cy a Fu (g.aA (d+1) a E FO N ?_);omega
 obtain rfl:d=c b.2.1:=x;rw[c9];refine bP [-47] a E (g.aB ?_);refine cy a v (g.bh () [2,3,4] ?_ (λe o=>absurd o E));simp
def yH{g h:ae}{e i}(z)(o:r.op=.call {callee:=.builtin .max,args:=#[g,h],argTypes:=dt})(v:η g=R e)(s:η h=R i)(y:max e i=z)(t:a8 .i64 z):a0 V r η k (R z) k:=by refine .aY λB d A j=>?_;have b:=j g;have a:=j h;rw[v]at b;rw[s]at a;replace b:=b8 b;replace a:=b8 a;generalize m:d g=w at b;generalize p:d h=x at a;cases b;cases a;have q:(if e<i then i else e)=z:=N;exact⟨.int .i64 z,by simp[ab,o,resolve,invoke,builtin,m,p,Builtin.max_,Builtin.max2,q],.int t,by simp[ab,o,resolve,invoke,builtin,m,p,Builtin.max_,Builtin.max2]⟩
def di(a:ce):Int:=if c a.1=0 then 1 else(a.1.getD (c a.1-1) (0,[])).1+1
def lQ(b:m (Int×Int)):Int:=b.foldl (λd a=>max d (a.2+1)) 1
def cX(a:ce):Int:=if c a.2.1=0 then lQ a.2.2 else max (lQ a.2.2) ((a.2.1.getD (c a.2.1-1) (0,[])).1+1)
structure ma(b_:ce):Prop where
 aM:∀C∈b_.1,-4000000<=C.1/\C.1<=4000000
 ba:∀C∈b_.2.1,-4000000<=C.1/\C.1<=4000000
 aI:∀C∈b_.2.2,-4000000<=C.2/\C.2<=4000000
def s3(d)(e:∀b∈d,-4000000<=b.2/\b.2<=4000000):1<=lQ d/\lQ d<=4000001:=by
 have:∀(d:m (Int×Int)) a,(∀b∈d,-4000000<=b.2/\b.2<=4000000)->1<=a->a<=4000001->1<=d.foldl (λa e=>max a (e.2+1)) a/\d.foldl (λa e=>max a (e.2+1)) a<=4000001:=by
  intro d;induction d with
  |nil=>grind
  |cons b h g=>
   grind
 exact this d 1 e x x
def YY{d}(a:e<c d):lQ (d.take (e+1))=max (lQ (d.take e)) ((d.getD e (0,0)).2+1):=by unfold lQ;grind[ih]
def mw{d:m α}(b:e<c d)(a:α):d.getD e a∈d:=N
def WH(b:ce)(i:dK b)(h:ma b):X p 158 [bY b] [] (.Q [.ar (.c (.int .i64 (di b))),.ar (.c (.int .i64 (cX b)))]) []:=by
 refine X.I func158 rfl λz=>?_;have t:=i.aM;have y:=i.a0;have s:=i.aI;apply g.cd [(1,aH 0 0),(4,R (di b)),(5,R 1)] [jV b]
 .intro dx;by_cases e:c b.1=0
  .exact bP [-10,905] a du (dx _ _ a (by simp[di,e]))
  have j:=h.aM _ (mw (show c b.1-1<c b.1 by omega) (0,[]));have w:b.1.getD ((c b.1:Int)-1).toNat a3.C=b.1.getD (c b.1-1) (0,[]):=by rw[show((c b.1:Int)-1).toNat=c b.1-1 by omega];rfl
  exact bP [10,905] a ww (dx _ _ a (by simp only[T.X,T,di,bl e,w,a',a_]))
 refine cy a v (g.aL 1 (λd=>d<=c b.2.2) (λd:Nat=>[(1,aH 0 0),(4,R (di b)),(5,R (lQ (b.2.2.take d))),(6,R d)]) (λd=>[jV b]) (λd=>c b.2.2-d) 0 a ?_ a ?_ a x ?_)
 .simp[lQ]
 .simp
 intro d k;by_cases e:d<c b.2.2
 .have j:=h.aI _ (mw e (0,0));have o:=s3 (b.2.2.take d) λr q=>h.aI r (g0 q);have w:b.2.2.getD (d:Int).toNat a1.C=b.2.2.getD d (0,0):=N;have m:=YY e;refine bP [25] a ww ?_;rw[w];refine g.aN (yH (lQ (b.2.2.take (d+1))) a a a m.symm mW) a a ?_;exact cy a bD (g.aA (d+1) a E E N x)
 obtain rfl:d=c b.2.2:=x;rw[c9];refine bP [-25] a E (g.aB ?_);have o:=s3 b.2.2 h.aI;by_cases e:c b.2.1=0
 .refine bP [-40] a du (g.aw a ?_);simp[cX,e]
 have j:=h.ba _ (mw (show c b.2.1-1<c b.2.1 by omega) (0,[]));have w:b.2.1.getD ((c b.2.1:Int)-1).toNat bh.C=b.2.1.getD (c b.2.1-1) (0,[]):=Rv;refine bP [40] a ww ?_;rw[w];refine g.aN (yH (cX b) a a a (by rw[cX,bl e]) (by rw[cX,bl e];simp only[a8];omega)) a a ?_;exact cy a v (g.aw a)
abbrev Cb(a:ce)(b:Nat)(e:m cb)(d:Nat)(g:m ef):m an:=[jV a,.cells 27 [cF,cF,cF],.w 48 2 (c a.2.2) (a1.fn a.2.2),.cells 27 [.w 4 2 b (a3.fn e),.w 5 2 d (bh.fn g),.w 2 2 (c a.2.2) (a1.fn a.2.2)],.w 99 2 b (a3.fn e),.w 114 2 d (bh.fn g)]
def qo(b)(A:c b.1<=4000000)(s:∀y∈b.1,c y.2<=4000000)(F:c b.2.1<=4000000)(r:kr b)(D:c b.2.2<=4000000):
  X p 70 [bY b] [] (.n (.agg [.w 0 2 (c b.1) (a3.fn b.1),.w 1 2 (c b.2.1) (bh.fn b.2.1),.w 2 2 (c b.2.2) (a1.fn b.2.2)])) [.w 99 2 (c b.1) (a3.fn b.1),.w 114 2 (c b.2.1) (bh.fn b.2.1),.w 48 2 (c b.2.2) (a1.fn b.2.2)]:=by
 refine X.bc bb func70 rfl rfl rfl λB=>?_;refine bP [902] a ?_ ?_
 .simp only[T,show vk.bytes=16 from a,a',a_,lA];grind
 refine g.ck 3 0 99 2 (a3.fn []) a a ?_;refine g.ck 3 1 114 2 (bh.fn []) a a ?_;refine cy a v (g.aL 6 (λd=>d<=c b.1) (λd:Nat=>[(1,aH 0 0),(2,aH 1 0),(3,aH 3 0),(4,R d)]) (λd=>Cb b d (b.1.take d) 0 []) (λd=>c b.1-d) 0 a E a ?_ a x ?_)
 .simp[bs,o7]
 intro d m;by_cases k:d<c b.1
 .have j:b.1.getD d (0,[])∈b.1:=N;have w:b.1.getD (d:Int).toNat a3.C=b.1.getD d (0,[]):=N;have q:=s _ j;refine bP [20,2000038] a FF (g.aA (d+1) a E ?_ ?_ ?_)
  .have aj:=a3.cV b.1 k (0,[]);simp only[T.X,T,w,o7,cW,a_,a'];exact QY
  .grind
  omega
 obtain rfl:d=c b.1:=x;rw[c9];refine bP [-20] a E (g.aB ?_);refine cy a v (g.aL 6 (λd=>d<=c b.2.1) (λd:Nat=>[(1,aH 0 0),(2,aH 1 0),(3,aH 3 0),(5,R d)]) (λd=>Cb b (c b.1) b.1 d (b.2.1.take d)) (λd=>c b.2.1-d) 0 a E a E a x ?_);intro d m;by_cases k:d<c b.2.1
 .have j:b.2.1.getD d (0,[])∈b.2.1:=N;have w:b.2.1.getD (d:Int).toNat bh.C=b.2.1.getD d (0,[]):=N;have q:=r _ j;have aj:=bh.cV b.2.1 k (0,[]);generalize b.2.1.getD d (0,[])=h at *;refine bP [47,910] a bu ?_;rw[w];refine g.ck 6 1 155 2 (cu.fn []) a a ?_;refine cy a v (g.aL 8 (λe=>e<=c h.2) (λe:Nat=>[(1,aH 0 0),(2,aH 1 0),(3,aH 3 0),(5,R d),(6,aH 6 0),(7,R e)]) (λe=>Cb b (c b.1) b.1 d (b.2.1.take d)++[.cells 114 [.c (.int .i64 h.1),.w 7 2 e (cu.fn (h.2.take e))],.w 155 2 e (cu.fn (h.2.take e))]) (λe=>c h.2-e) 0 a E a E a x ?_);intro e o;by_cases t:e<c h.2
  .have i:h.2.getD (e:Int).toNat cu.C=h.2.getD e ([],[]):=N;have C:=q.2 (h.2.getD e ([],[])) N;have z:=cu.cV h.2 t ([],[]);refine bP [66,2000085] a Rf (g.aA (e+1) a E Qm N ?_);omega
  obtain rfl:e=c h.2:=x;rw[c9];refine bP [-66] a FH (g.aB ?_);refine cy a Fu (g.aA (d+1) a E ?_ ?_ ?_)
  .simp only[T.X,T,a_,a'];exact QY
  .grind
  omega
 obtain rfl:d=c b.2.1:=x;rw[c9];refine bP [-47] a E (g.aB ?_);refine cy a v (g.bh () [4,5,2] ?_ (λe o=>absurd o E));simp
def _root_.Go.AM.c1.hs(a:c1 α)(d)(g:bs j U (a.fn d))(k:j<=c d):a.ad j U=d.take j:=by
 apply rl
 .simp[c1.ad];omega
 intro e h i;have b:e<j:=N;simp[c1.ad,g e b,c1.fn,gG,ak,bF (show e<c d by omega),a.inv]
def _root_.Go.AM.c1.hc(a:c1 α)(d)(g:bs j U (a.fn d)):a.bQ j U:=λe b=>by rw[g e b];exact a.T d e (Nat.lt_succ_self e)
def Z0(a b:Nat):min (a:Int) (b:Int)=((min a b:Nat):Int):=N
def gb(d:Int):Nat->Int->m bC->m cb
 |0,_,_=>[]
 |e+1,b,a=>if 0<c a then jS b d (a.take 4)::gb d e (b+1) (a.drop 4)else[]
def km(a:Int)(b:ce)(d:m cY):m cb:=gb a (c (fW a d (eD b.1))) (di b) (fW a d (eD b.1))
def fz(b:Int)(a:ce)(d:m cY):Bool:=decide (20<c a.1+c (km b a d))||(decide (99<di a+c (km b a d)-1)||(decide (20<cX a)||decide (9<=c a.2.2)))
def eE(d:Int)(a:ce)(b:Int)(e:m cY):ce:=(a.1++km d a e,a.2.1++[fI (cX a) d e],a.2.2++[(b,cX a)])
theorem Lh(h):∀d a b,c (gb h d a b)<=d
 |0,_,_=>bB _
 |d+1,a,b=>by
  simp[gb];split
  .have:=Lh h d (a+1) (b.drop 4);grind
  simp
abbrev Hz:bJ:=kb c6 c6 (e' bQ) (λd b a=>fL (jS d b a)) λ_ b a=>[cA b=l,∀e∈a,cC e=l,c a<=4000000]
def adi:bK p 161 Hz:=.c5 λb e d a=>Wp b e d a.1 a.2.1 a.2.2
abbrev HC:bJ:=kb c6 c6 (e' bx) (λb a d=>iQ (fI b a d)) λ_ a d=>[cA a=l,rb d]
def adl:bK p 162 HC:=.c5 λa d e b=>WM a d e b.1 b.2
abbrev HB:bJ:=kb c6 (e' bx) (e' fb) (λa d b=>bQ.R (fW a d b)) λa d b=>[cA a=l,rb d,c b<=4000000]
def adk:bK p 159 HB:=.c5 λb e d a=>WF b e d a.1 a.2.1 a.2.2
def qP{o}{d}(i:rb o):(∀a∈fW h o d,cC a=l)/\c (fW h o d)<=100000:=by
 constructor
 .have:∀(b g:m bC),(∀a∈b,cC a=l)->(∀a∈g,cC a=l)->∀a∈b.foldl (e8 h d) g,cC a=l:=by
   intro b;induction b with
   |nil=>grind
   |cons s t k=>
    intro g r q;refine k _ (λa e=>r a (mg _ e)) λa e=>?_;unfold e8 at e;grind
  refine this _ [] (λa e=>?_) E;obtain⟨p,j,e⟩:=rk.1 e;exact vN (i.fl p j).1 a e
 have:=C5 h d (eR o) [];have q:=i.all;unfold fW;simp[gL]at this;exact fR this x
theorem Kj{d}(a:c (dF d)<=100000):c (eD d)<=100000:=by unfold eD;grind[C6]
abbrev abv(e b d:Int)(g:ce)(h:m cY)(a:m bC):bH:=[(0,R e),(2,R b),(3,bx.R h),(5,aH 0 0),(8,aH 1 0),(10,aH 5 0),(11,R d),(12,R (cX g)),(13,bQ.R a)]
abbrev Me(b:ce)(a:m cb):m an:=[jV b,.cells 27 [cF,cF,cF],.w 99 2 (c a) (a3.fn a),.w 114 2 (c b.2.1) (bh.fn b.2.1),.w 48 2 (c b.2.2) (a1.fn b.2.2),.cells 27 [.w 2 2 (c a) (a3.fn a),.w 3 2 (c b.2.1) (bh.fn b.2.1),.w 4 2 (c b.2.2) (a1.fn b.2.2)]]
abbrev M5(a:ce)(b:Bool):y:=.Q [.agg [.c (.R u 2 (c a.1) (a3.fn a.1)),.c (.R u 2 (c a.2.1) (bh.fn a.2.1)),.c (.R u 2 (c a.2.2) (a1.fn a.2.2))],.ar (.c (.bool b))]
def Xi(h)(b)(j)(o)(B:cA h=l)(w:dK b)(K:ma b)(J:rb o)(al:c (dF b.1)<=100000):
  X p 114 [R h,bY b,R j,bx.R o] [] (M5 (if fz h b o=l then b else eE h b j o) (!fz h b o)) []:=by
 refine X.bx func114 rfl rfl rfl λau=>?_;have q:a9 p [(160,Hp),(159,HB),(161,Hz),(162,HC)]:=.cons ac9 (.cons adk (.cons adi (.cons adl .nil)));have aM:=w.aM;have P:=w.a0;have av:=w.aI;have ax:=Kj al;refine cM q a v (g.aC (qo b w.aM w.bl w.a0 w.bn w.aI) [] a (cM q a v (g.aC (WH b w K) [] a (cM q a bD ?_))));simp[a3.l,fb.l,bx.l];obtain⟨an,az⟩:=qP (h:=h) (d:=eD b.1) J;have aw:km h b o=gb h (c (fW h o (eD b.1))) (di b) (fW h o (eD b.1)):=rfl;generalize fW h o (eD b.1)=C at *;generalize U:km h b o=e at *;have L:-4000000<=di b/\di b<=4000001:=by
  unfold di;split
  .omega
  rename_i s;exact Q'
 have H:c e<=100000:=by grind[Lh]
 refine g.cg (S2:=Unit) 0 a a (λ_=>True) (λ_=>[(0,R h),(2,R j),(3,bx.R o),(5,aH 0 0),(8,aH 1 0),(10,aH 5 0),(11,R (di b+c e)),(12,R (cX b))]) (λ_=>Me b (b.1++e)) 6
  (λk:m bC×m cb=>(∀S∈k.1,cC S=l)/\c k.2+c k.1<=5000000/\c b.1<=c k.2/\∃r,c k.1<=r/\b.1++e=k.2++gb h r (di b+(c k.2-c b.1:Nat)) k.1) (λk=>abv h j (di b+(c k.2-c b.1:Nat)) b o k.1) (λk=>Me b k.2) (λk=>c k.1) (C,b.1) a ?_ a ?_ a ⟨an,by grind,bB _,c C,bB _,by grind⟩ ?_ ?_
 .simp
 .simp
 .rintro dx ⟨br,Z⟩ ⟨t,Q,af,r,G,z⟩;simp only at t Q af G z;by_cases s:0<c br
  .obtain⟨r,rfl⟩:∃aa,r=aa+1:=⟨r-1,by omega⟩
   simp[gb,bo s]at z;have ae:a8 .i64 ((min (c br) 4:Nat):Int):=mW;refine bf q [30] a bu (g.aN (yK ((min (c br) 4:Nat):Int) a a a (Z0 (c br) 4) ae) a a ?_);have M:bQ.ad (bV (c br) (f ((min (c br) 4:Nat):Int))-bV 0 n) (fF (bV 0 n) (bQ.fn br))=br.take 4:=by have E:bV (c br) (f ((min (c br) 4:Nat):Int))-bV 0 n=min (c br) 4:=wJ;rw[E,bQ.hs br (λI A=>by simp[fF,bV]) x];grind
   have Y:bQ.bQ (bV (c br) (f ((min (c br) 4:Nat):Int))-bV 0 n) (fF (bV 0 n) (bQ.fn br)):=bQ.hc br (λI A=>by simp[fF,bV]);have ao:bs (c br-min (c br) 4) (fF (min (c br) 4) (bQ.fn br)) (bQ.fn (br.drop 4)):=by intro I A;have V:min (c br) 4=4:=x;rw[V];simp[fF,c1.fn,gG,ak,p6]
   have aq:∀S∈br.take 4,cC S=l:=λS D=>t S (g0 D);have ab:=a3.aX Z (jS (di b+(c Z-c b.1:Nat)) h (br.take 4));refine cM q a ?_ (g.aA (br.drop 4,Z++[jS (di b+(c Z-c b.1:Nat)) h (br.take 4)]) a ?_ ?_ ?_ ?_)
   .simp only[T,a8,M,B,Y,List.length_take,show nt.bytes=32 from a,a',a_];and_intros<;>first|omega|omega
   .simp only[T.X,T,dk,fw,gL,sm,bV,c5,a',a_];and_intros<;>first|rfl|omega|simp|exact ao
   .simp only[T.X,T,M,dk,fw,gL,a',a_];and_intros<;>first|rfl|exactλ_ _=>rfl|exact ab|omega
   .refine⟨λS D=>t S (p4 D),by grind,by grind,r,by grind,?_⟩;grind
   grind
  have F:Z=b.1++e:=by rw[z];cases r<;>simp[gb,s]
  refine bf q [-30] a bD (g.aB ?_);refine dx () v a ?_ a ?_
  .simp only[T.X,T,F,dk,a',a_];and_intros<;>first|rfl|omega|simp
  simp[F]
 rintro⟨⟩ -;have y:fz h b o=(decide (20<c b.1+c e)||(decide (99<di b+c e-1)||(decide (20<cX b)||decide (9<=c b.2.2)))):=by unfold fz;rw[U]
 have O:-4000000<=cX b/\cX b<=4000001:=by
  have:=s3 b.2.2 K.aI;unfold cX;split
  .omega
  rename_i s;exact OM
 have ar:c (b.1++e)=c b.1+c e:=dk;by_cases ag:20<c b.1+c e
 .have i:fz h b o=l:=N;rw[i];exact bf q [53] a bu z5
 by_cases ah:99<di b+c e-1
 .have i:fz h b o=l:=N;rw[i];exact bf q [-53,57] a FR z5
 by_cases ai:20<cX b
 .have i:fz h b o=l:=N;rw[i];exact bf q [-53,-57,61] a FR z5
 by_cases aj:9<=c b.2.2
 .have i:fz h b o=l:=N;rw[i];exact bf q [-53,-57,-61,67] a FR z5
 have i:fz h b o=u:=N;rw[i];have E:=bh.aX b.2.1 (fI (cX b) h o);have W:=a1.aX b.2.2 (j,cX b);refine bf q [-53,-57,-61,-67] a ?_ ?_
 .simp only[T,B,bx.l,dk,a8,show rI.bytes=32 from a,show vk.bytes=16 from a,bw,dp,a',a_];and_intros<;>first|exact J|exact bx.T _|rfl|omega
 refine g.freeze 8 1 a a a ?_;refine g.b9 bb [] a ?_ a a a fy;simp[T.X,T,bx.l,eE,U,dk,fw,gL,a',a_];and_intros<;>first|rfl|exactλ_ _=>rfl|exact E|exact W|simp
def oB(a:Int×Int):Bool:=decide (0<=a.1/\a.1<=9)&&decide (0<=a.2)
abbrev ou(b:ek)(a:Nat):Int×Int:=b.2.2.2.1.getD a (0,0)
abbrev oh(b:ek)(a:Nat):Int:=b.2.2.2.2.getD a 0
def pM(b:ek)(a:Nat):Bool:=oB (ou b a)&&decide (0<=oh b a/\oh b a<=2)
def e2(a:ek):Bool:=decide (c a.2.2.2.1=2)&&decide (c a.2.2.2.2=2)&&(aA 2).all (pM a)&&hj a.1 a.2.1
def Wu(z):X p 25 [p3.a3 z] [] (bi (oB z)) []:=by
 refine X.I func25 rfl λe=>?_;have d:a9 p [(26,jK)]:=.cons ku .nil;by_cases b:0<=z.1/\z.1<=9
 .exact a7 d [6] a (by simp[b]) (g.aw a (by simp[oB,b]))
 exact a7 d [-6] a bT (g.aw a (by simp only[T,oB,k2 b];simp))
def Jz(d)(w:pZ d.2.1.1):X p 8 [eZ d] [] (bi (e2 d)) []:=by
 refine X.I func8 rfl λy=>?_;have e:a9 p [(25,df p3 (λk=>bi (oB k)) λ_=>[]),(26,jK),(27,BR)]:=.cons (.a9 λk _=>Wu k) (.cons ku (.cons M8 .nil));unfold e2;by_cases t:c d.2.2.2.1=2
 rotate_left
 .exact a7 e [8,13] a bT (g.aw a (by simp[k2 t]))
 by_cases q:c d.2.2.2.2=2
 rotate_left
 .exact a7 e [-8,13] a bT (g.aw a (by simp[k2 q]))
 refine a7 e [-8,-13] a bT ?_;rw[fo t,fo q,fx,fx];refine g.aL 1 (λb=>b<=2/\∀r,r<b->pM d r=l) (λb:Nat=>[(1,aH 0 0),(3,R b)]) (λ_=>[.cells 35 (lu d)]) (λb=>2-b) 0 a E a E a ⟨by omega,by omega⟩ ?_;rintro b ⟨v,m⟩;by_cases j:b<2
 .have i:d.2.2.2.1.getD b a1.C=ou d b:=rfl;have o:d.2.2.2.2.getD b aC.C=oh d b:=rfl;cases h:oB (ou d b)with
  |false=>
   refine a7 e [15,25,33] a ?_ (g.aW (bX.zero a ?_))
   .simp[-ak,i,h];omega
   rw[kD j (by rw[pM,h];rfl)];simp
  |true=>
   by_cases s:0<=oh d b/\oh d b<=2
   .refine a7 e [15,-25,-33] a ?_ (g.aA (b+1) a E E ⟨j,iI m (by rw[pM,h,fo s];rfl)⟩ x);simp[-ak,i,o,h,a8];omega
   refine a7 e [15,-25,33] a ?_ (g.aW (bX.zero a ?_))
   .simp[-ak,i,o,h];omega
   rw[kD j (by rw[pM,k2 s,Bool.and_false])];simp
 obtain rfl:b=2:=x;rw[fS.2 m,fx];refine a7 e [-15] a E (g.aB ?_);refine b9 e a ?_ (g.aw a ?_)
 .simp[a3.l,a3.T,bh.l,bh.T,a1.l,a1.T,aC.l,aC.T,w]
 exact z_
abbrev xQ(a:ce)(e:Nat)(d:Nat->m O)(g:Nat)(j:m ef)(b:fu)(i:Nat)(h:m Y):m an:=[jV a,.cells 27 [cF,cF,cF],.p 99 2 e d,.p 114 2 g (bh.fn j),.p 48 2 (c a.2.2) (a1.fn a.2.2),.cells 27 [.K 2 (.R e 2 0 e),.K 3 (.R g 2 0 g),.K 4 (.R (c a.2.2) 2 0 (c a.2.2))],.E (cp 139 2 b i h)]
def Uq(b)(i0)(V:i0<c b.1)(A:0<(b.1.getD i0 (0,[])).2.length)(y:c b.1<=4000000)(K:∀z∈b.1,c z.2<=4000000)(H:c b.2.1<=4000000)(S:kr b)(G:c b.2.2<=4000000):
  bk (ι:=pX (b.1.getD i0 (0,[])).2) p 70 [bY b] [] (λ_=>.n (.agg [.K 0 (.R (c b.1) 2 0 (c b.1)),.K 1 (.R (c b.2.1) 2 0 (c b.2.1)),.K 2 (.R (c b.2.2) 2 0 (c b.2.2))]))
   (λj=>[.p 99 2 (c b.1) (gp b.1 i0 (c0 j.1.1 (b.1.getD i0 (0,[])).2.length)),.p 114 2 (c b.2.1) (bh.fn b.2.1),.p 48 2 (c b.2.2) (a1.fn b.2.2),tk (b.1.getD i0 (0,[])).2 j]):=by
 refine bk.bx bb func70 rfl rfl rfl λW=>?_;refine bP [901] a v (g.region ?_);refine gV [] 5 a v (g.dI 9 99 2 (a3.fn []) a ?_);refine g.dI 10 114 2 (bh.fn []) a ?_;refine g.dI 11 48 2 (a1.fn []) a ?_;refine bP [902] a O_ (g.fo 139 2 ?_);refine cy a v (g.aL 7 (I3 b.1 i0) (λi:S3=>[(1,aH 0 0),(2,aH 1 0),(3,aH 5 0),(4,R i.1)]) (λi=>xQ b i.1 (gp b.1 i0 (nI i)) 0 [] i.2.1 i.2.2.1 i.2.2.2) (λi=>c b.1-i.1) (0,.nil n,0,[]) a E a ?_ a ⟨by omega,.inl ⟨by omega,a⟩⟩ ?_)
 .simp[bs,o7];rfl
 rintro⟨d,h,q,k⟩ ⟨s,B⟩;simp only at s B;by_cases o:d<c b.1
 .have aa:b.1.getD d (0,[])∈b.1:=N;have w:b.1.getD (d:Int).toNat a3.C=b.1.getD d (0,[]):=N;have j:=K _ aa;by_cases t:d=i0
  .subst t;have F:q=0:=by rcases B with⟨_,Q⟩|⟨O,_⟩<;>omega
   rw[<-w]at A j;refine a6 [20,905] a bu ?_;refine g.eI (ι:=pX (b.1.getD (d:Int).toNat a3.C).2) b6 15 18 8 (λr=>ay r 14)
    (λr=>[aH 5 0,cD 2 (.R d 2 0 d),aH 0 0,a3.R b.1,R d,iO [.int .i64 (b.1.getD (d:Int).toNat a3.C).1,lm (b.1.getD (d:Int).toNat a3.C)],iO [.int .i64 (b.1.getD (d:Int).toNat a3.C).1,lm (b.1.getD (d:Int).toNat a3.C)],R (b.1.getD (d:Int).toNat a3.C).1,
     ax (.R l 2 0 (λe=>[].getD e [])),aH 0 0,a3.R b.1,R d,iO [.int .i64 (b.1.getD (d:Int).toNat a3.C).1,lm (b.1.getD (d:Int).toNat a3.C)],iO [lm (b.1.getD (d:Int).toNat a3.C)],ax (lm (b.1.getD (d:Int).toNat a3.C))].getD r .any)
    (λj r=>[ax (rW _ j),.n (.agg [.c (.int .i64 (b.1.getD (d:Int).toNat a3.C).1),.c (rW _ j)]),ax (.R l 2 1 (λe=>[[.int .i64 (b.1.getD (d:Int).toNat a3.C).1,rW _ j]].getD e []))].getD (r-15) .any)
    (λj=>xQ b d (gp b.1 d (c0 h q)) 0 [] h q k++[tk _ j])
    rfl rfl rfl rfl rfl rfl rfl (λr o=>by have:=fl o;omega) rfl
    ⟨aK.x,aK.x,aK.x,aK.x,aK.x,aK.eval (bg:=[]) bb a9.nil a ?_,aK.x,aK.x,aK.x,aK.x,aK.x,aK.x,aK.eval (bg:=[]) bb a9.nil a ?_,aK.x,aK.x,v,v,v,v,v,v,v⟩
    (λj=>⟨aK.x,aK.x,aK.x,aK.x,aK.x,aK.eval (bg:=[]) bb a9.nil a ?_,aK.x,aK.x,aK.x,aK.x,aK.x,aK.x,aK.eval (bg:=[]) bb a9.nil a ?_,aK.x,aK.x,v,aK.x,aK.x,v⟩)
    (dA.fa a (eF.fC (GL a) a a a A Ac (Hr _ _))) ?_
   .exact bu
   .exact bu
   .exact bu
   .exact bu
   rw[w];rw[w]at A j;generalize J:b.1.getD d (0,[])=z at *;intro C;refine a6 [904] a PP (g.swap 6 7 ca a a (λ_ _ o=>o.1) (λ_ _ o=>o.1) ?_);refine aZ a bD (g.aA (d+1,C.1.1,c z.2,C.1.2) a E ?_ ?_ ?_)
   .have aj:=Lw (Z:=b.1) (i0:=d) (bz:=c0 C.1.1 (c z.2)) (EY:=c0 h q);rw[J]at aj;exact FO
   .refine⟨by grind,.inr ⟨by grind,?_⟩⟩;grind
   grind
  refine bP [20,2000038] a FF (g.aA (d+1,h,q,k) a E ?_ ?_ ?_)
  .have aj:=Lv (Z:=b.1) (bz:=c0 h q) t;exact Of
  .refine⟨by grind,?_⟩;grind
  grind
 obtain rfl:d=c b.1:=x;obtain⟨_,F,M⟩:i0<c b.1/\q=(b.1.getD i0 (0,[])).2.length/\ej 2 (b.1.getD i0 (0,[])).2.length (bG.fn (b.1.getD i0 (0,[])).2) k:=N;subst F;clear B;generalize b.1.getD i0 (0,[])=m at *;refine bP [-20] a E (g.aB ?_);refine cy a v (g.aL 7 (λd=>d<=c b.2.1) (λd:Nat=>[(1,aH 0 0),(2,aH 1 0),(3,aH 5 0),(5,R d)]) (λd=>xQ b (c b.1) (gp b.1 i0 (c0 h (c m.2))) d (b.2.1.take d) h (c m.2) k) (λd=>c b.2.1-d) 0 a E a E a x ?_);intro d s;by_cases o:d<c b.2.1
 .have aa:b.2.1.getD d (0,[])∈b.2.1:=N;have w:b.2.1.getD (d:Int).toNat bh.C=b.2.1.getD d (0,[]):=N;have j:=S _ aa;have aj:=bh.cV b.2.1 o (0,[]);generalize b.2.1.getD d (0,[])=i at *;refine bP [47,910] a bu ?_;rw[w];refine g.ck 7 1 155 2 (cu.fn []) a a ?_;refine cy a v (g.aL 9 (λe=>e<=c i.2) (λe:Nat=>[(1,aH 0 0),(2,aH 1 0),(3,aH 5 0),(5,R d),(6,aH 7 0),(7,R e)]) (λe=>xQ b (c b.1) (gp b.1 i0 (c0 h (c m.2))) d (b.2.1.take d) h (c m.2) k++[.cells 114 [.c (.int .i64 i.1),.w 8 2 e (cu.fn (i.2.take e))],.w 155 2 e (cu.fn (i.2.take e))]) (λe=>c i.2-e) 0 a E a E a x ?_);intro e I;by_cases t:e<c i.2
  .have D:i.2.getD (e:Int).toNat cu.C=i.2.getD e ([],[]):=N;have X:=j.2 (i.2.getD e ([],[])) N;have U:=cu.cV i.2 t ([],[]);refine bP [66,2000085] a ?_ (g.aA (e+1) a ?_ ?_ ?_ ?_)
   .simp only[T,w,D,a8,show yy.bytes=40 from a,show ee.bytes=8 from a,bw,lA,a',a_];exact fA
   .simp
   .simp only[T.X,T,w,D,o7,cW,a_,a'];and_intros<;>first|exactλ_ _=>rfl|exact U|rfl
   .grind
   omega
  obtain rfl:e=c i.2:=x;rw[c9];refine bP [-66] a FH (g.aB ?_);refine cy a Fu (g.aA (d+1) a E FO N ?_);omega
 obtain rfl:d=c b.2.1:=x;rw[c9];refine bP [-47] a E (g.aB ?_);refine cy a v (g.bh ⟨(h,k),M⟩ [2,3,4,6] ?_ (λe I=>absurd I E));simp
def TY(b:ce)(d:Int)(j:c b.2.2<=4000000)(k:d<0∨d>c b.2.2):X p 116 [bY b,R d] [] (bY b) []:=by refine X.bc bb func116 rfl rfl rfl λi=>?_;have h:a9 p [(26,jK)]:=.cons ku .nil;refine bf h [15] a bT ?_;refine g.bh () [] ?_ (λm e=>absurd e E);simp
abbrev mB(a:Nat)(d:ce)(b:m ef):m ef:=b.filter λe=>!jr a d.2.2 e
abbrev s0(d:Nat)(e:ce)(b:Nat)(g:ef):Bool:=((e.2.2.drop d).take b).any λa=>a.2==g.1
abbrev G1(b:ce)(d:Nat)(a:m ef):m an:=[.cells 27 [.c (tx b.1),.c (tz b.2.1),.c (hZ (b.2.2.take d))],.cells 27 [cF,cF,cF],.w 114 2 (c a) (bh.fn a)]
def JI(a:α->Bool){d}(g:e<c d)(b):(d.take (e+1)).filter a=(d.take e).filter a++(if a (d.getD e b)then[d.getD e b]else[]):=ii
def Sk(a:α->Bool){d}(g:e<c d)(b):(d.take (e+1)).any a=((d.take e).any a||a (d.getD e b)):=ii
def TZ(b)(j)(S:j<=c b.2.2)(Q:c b.2.1<=4000000)(C:∀m∈b.2.1,-4000000<=m.1/\m.1<=4000000)(O:c b.2.2<=4000000):X p 116 [bY b,R j] [] (bY (b.1,mB j b b.2.1,b.2.2.take j)) []:=by
 refine X.bc bb func116 rfl rfl rfl λM=>?_;have o:a9 p [(26,jK)]:=.cons ku .nil;refine a7 o [-15,906] a ?_ ?_
 .simp[jh];omega
 refine g.bK 6 114 2 a a ?_;refine b9 o a v (g.aL 3 (λe=>e<=c b.2.1) (λe:Nat=>[(2,aH 0 0),(4,aH 1 0),(5,a1.R (b.2.2.drop j)),(6,.n (.ar (.w 2 2 (c (mB j b (b.2.1.take e))) (bh.fn (mB j b (b.2.1.take e)))))),(7,R e)]) (λe=>G1 b j (mB j b (b.2.1.take e))) (λe=>c b.2.1-e) 0 a ?_ a ?_ a x ?_)
 .have y:=a1.hg b.2.2 j (c b.2.2-j);simp[bV];exact y
 .simp[bV];exact⟨by omega,λe t=>by have B:e<j:=t;simp[fF,bV,c1.fn,gG,ak,iq,B]⟩
 intro e t;by_cases w:e<c b.2.1
 .have F:b.2.1.getD e (0,[])∈b.2.1:=N;have q:b.2.1.getD (e:Int).toNat bh.C=b.2.1.getD e (0,[]):=N;have J:=C _ F;have y:=bh.cV b.2.1 w (0,[]);have z:mB j b (b.2.1.take (e+1))=mB j b (b.2.1.take e)++(if !jr j b.2.2 (b.2.1.getD e (0,[]))then[b.2.1.getD e (0,[])]else[]):=JI (λm=>!jr j b.2.2 m) w (0,[]);have K:c (mB j b (b.2.1.take e))<=e:=fR (kA _ _) N;generalize mB j b (b.2.1.take e)=k at *;generalize b.2.1.getD e (0,[])=m at *;refine bf o [31] a ?_ ?_
  .simp only[T,q,bw,lA,a',a_];grind
  refine g.aL 3 (λh=>h<=c (b.2.2.drop j)) (λh:Nat=>[(2,aH 0 0),(4,aH 1 0),(5,a1.R (b.2.2.drop j)),(6,.n (.ar (.w 2 2 (c k) (bh.fn k)))),(7,R e),(8,bi (s0 j b h m)),(9,R h)]) (λh=>G1 b j k) (λh=>c (b.2.2.drop j)-h) 0 a E a E a x ?_;intro h A;have I:=sm (i:=j) (l:=b.2.2);by_cases D:h<c (b.2.2.drop j)
  .have i:(b.2.2.drop j).getD (h:Int).toNat a1.C=(b.2.2.drop j).getD h (0,0):=N;have r:s0 j b (h+1) m=(s0 j b h m||((b.2.2.drop j).getD h (0,0)).2==m.1):=Sk (λw:Int×Int=>w.2==m.1) D (0,0);cases s:s0 j b h m with
   |true=>
    refine bf o [37] a PR (g.aA (h+1) a ?_ ?_ ?_ ?_)
    .rw[s]at r;simp[r]
    .simp
    .grind
    omega
   |false=>
    refine bf o [37] a PR (g.aA (h+1) a ?_ ?_ ?_ ?_)
    .rw[s]at r;simp only[T.X,T,bs.same,r,q,i,a',a_,Bool.false_or];rfl
    .simp
    .grind
    omega
  obtain rfl:h=c (b.2.2.drop j):=x;have r:s0 j b (c (b.2.2.drop j)) m=jr j b.2.2 m:=by unfold s0 jr;grind
  rw[r];cases s:jr j b.2.2 m with
  |true=>
   rw[s]at z;refine bf o [-37] a E (g.aB ?_);refine cM o a tT (g.aA (e+1) a ?_ ?_ ?_ ?_)
   .have:mB j b (b.2.1.take (e+1))=k:=N;rw[this];exact P9
   .rw[show mB j b (b.2.1.take (e+1))=k by grind];simp
   .grind
   omega
  |false=>
   rw[s]at z;refine bf o [-37] a E (g.aB ?_);refine cM o a ?_ (g.aA (e+1) a ?_ ?_ ?_ ?_)
   .simp only[T,a8,show rI.bytes=32 from a,a',a_];exact fA
   .rw[show mB j b (b.2.1.take (e+1))=k++[m] by grind];simp only[T.X,T,q,bs.same,a',a_,dk,gJ];exact⟨bh.aX k m,a⟩
   .rw[show mB j b (b.2.1.take (e+1))=k++[m] by grind];simp only[T.X,T,q,bs.same,a',a_,dk,gJ];exact bh.aX k m
   .grind
   omega
 obtain rfl:e=c b.2.1:=x;rw[c9];refine bf o [-31] a E (g.aB ?_);refine cM o a v (g.bh () [] ?_ (λh A=>absurd A E));simp
def Xs(b)(d)(e:dK b)(k:d.1≠1)(h:d.1≠2)(m:d.1≠3)(j:d.1≠4):X p 69 [bY b,ep d] [] (bY b) []:=by
 refine X.bc bb func69 rfl rfl rfl λo=>?_;refine aZ a v (g.aC (qo b e.aM e.bl e.a0 e.bn e.aI) [] a (a6 [-13,-42,-48,-91] a ?_ ?_))
 .simp[k,h,m,j]
 exact zW
def Jp(b)(d)(az)(e:dK b)(h:d.1=2)(j:X p 116 [bY b,R d.2.1] [] (bY az) []):X p 69 [bY b,ep d] [] (bY az) []:=by
 refine X.bc bb func69 rfl rfl rfl λk=>?_;refine aZ a v (g.aC (qo b e.aM e.bl e.a0 e.bn e.aI) [] a (a6 [-13,42] a ?_ ?_))
 .simp[h]
 refine g.b6 j.tocH [] a a a a E a a a bn a bn a ?_;rintro -;exact aZ a v zW
abbrev nv(a:Int)(b:m cb):m cb:=b.filter λd=>!(d.1==a)
abbrev abL(a:ce)(d:dO)(b:m cb):m an:=[jV a,.cells 32 (vu d),.cells 27 [cF,cF,cF],.w 99 2 (c a.1) (a3.fn a.1),.w 114 2 (c a.2.1) (bh.fn a.2.1),.w 48 2 (c a.2.2) (a1.fn a.2.2),
 .cells 27 [.w 3 2 (c a.1) (a3.fn a.1),.w 4 2 (c a.2.1) (bh.fn a.2.1),.w 5 2 (c a.2.2) (a1.fn a.2.2)],.w 99 2 (c b) (a3.fn b)]
def Xm(b)(d)(k:dK b)(t:d.1=1):X p 69 [bY b,ep d] [] (bY (b.1.filter λi=>!(i.1==d.2.1),b.2.1,b.2.2)) []:=by
 refine X.bc bb func69 rfl rfl rfl λA=>?_;refine aZ a v (g.aC (qo b k.aM k.bl k.a0 k.bn k.aI) [] a (a6 [13,905] a ?_ ?_))
 .simp[t]
 refine g.bK 6 99 2 a a ?_;refine aZ a v ?_;have w:=k.aM;refine g.aL 8 (λe=>e<=c b.1) (λe:Nat=>[(3,aH 1 0),(4,aH 2 0),(5,aH 6 0),(6,.n (.ar (.w 7 2 (c (nv d.2.1 (b.1.take e))) (a3.fn (nv d.2.1 (b.1.take e)))))),(7,R e)]) (λe=>abL b d (nv d.2.1 (b.1.take e))) (λe=>c b.1-e) 0 a E a E a x ?_;intro e s;by_cases r:e<c b.1
 .have q:b.1.getD (e:Int).toNat a3.C=b.1.getD e (0,[]):=by rw[c5];rfl
  have j:nv d.2.1 (b.1.take (e+1))=nv d.2.1 (b.1.take e)++(if !((b.1.getD e (0,[])).1==d.2.1)then[b.1.getD e (0,[])]else[]):=JI (λi:cb=>!(i.1==d.2.1)) r (0,[]);have z:c (nv d.2.1 (b.1.take e))<=e:=fR (kA _ _) bT;generalize nv d.2.1 (b.1.take e)=h at *;generalize b.1.getD e (0,[])=i at *;cases m:i.1==d.2.1 with
  |true=>
   rw[m]at j;refine bP [20,-31] a ?_ (g.aA (e+1) a ?_ ?_ ?_ ?_)
   .simp only[T,q,a8,bw,dp,lA,a',a_];and_intros<;>first|omega|simp[bne,m]
   .rw[show nv d.2.1 (b.1.take (e+1))=h by simpa using j];exact P9
   .rw[show nv d.2.1 (b.1.take (e+1))=h by simpa using j];simp
   .exact q0
   omega
  |false=>
   rw[m]at j;refine bP [20,31] a ?_ (g.aA (e+1) a ?_ ?_ ?_ ?_)
   .simp only[T,q,a8,show nt.bytes=32 from a,bw,dp,lA,a',a_];and_intros<;>first|omega|simp[bne,m]
   .rw[show nv d.2.1 (b.1.take (e+1))=h++[i] by simpa using j];simp only[T.X,T,q,bs.same,a',a_,dk,gJ];exact⟨a3.aX h i,a⟩
   .rw[show nv d.2.1 (b.1.take (e+1))=h++[i] by simpa using j];simp only[T.X,T,q,bs.same,a',a_,dk,gJ];exact a3.aX h i
   .exact q0
   omega
 obtain rfl:e=c b.1:=x;rw[c9];refine bP [-20] a E (g.aB ?_);refine cy a v (g.bh () [] ?_ (λy o=>absurd o E));simp
def Ul{b}{args}(Z)(dz)(j)(U:Nat->m O)(a)(k:c a=j)(i:bs j U (a1.fn a))(d:bk (ι:=Unit) p b args [] (λ_=>.n (.agg [dD 0 (c Z) (c Z),dD 1 (c dz) (c dz),dD 2 j j])) (λ_=>[.p 99 2 (c Z) (a3.fn Z),.p 114 2 (c dz) (bh.fn dz),.p 48 2 j U])):
  X p b args [] (bY (Z,dz,a)) []:=by
 have o:=bk.bL (aP:=λ_:Unit=>[.p 99 2 (c Z) (a3.fn Z),.p 114 2 (c dz) (bh.fn dz)]) (W:=48) (h:=2) (j:=λ_=>j) (U:=λ_=>U) d bn (λ_=>?_) bn (λ_=>g1 _);have e:=bk.bL (aP:=λ_:Unit=>[.p 99 2 (c Z) (a3.fn Z)]) (W:=114) (h:=2) (j:=λ_=>c dz) (U:=λ_=>bh.fn dz) o bn (λ_=>?_) bn (λ_=>g1 _);have g:=bk.bL (aP:=λ_:Unit=>[]) (W:=99) (h:=2) (j:=λ_=>c Z) (U:=λ_=>a3.fn Z) e bn (λ_=>?_) bn (λ_=>bB _);refine(g.le (oF:=λ_=>bY (Z,dz,a)) bn (λ_=>?_)).ar
 .simp only[T.X,T,a_,a'];exact⟨bs.same,bs.same,k.symm,i⟩
 .simp
 .simp
 simp
def Xr(b)(d:dO)(e:dK b)(j:d.1=4)(q:0<=d.2.1)(o:d.2.1<c b.2.2)(h:a8 .i64 (3-lq b d)):
  bk (ι:=Unit) p 69 [bY b,ep d] [] (λ_=>.n (.agg [dD 0 (c b.1) (c b.1),dD 1 (c b.2.1) (c b.2.1),dD 2 (c b.2.2) (c b.2.2)])) (λ_=>[.p 99 2 (c b.1) (a3.fn b.1),.p 114 2 (c b.2.1) (bh.fn b.2.1),.p 48 2 (c b.2.2) (ym b d)]):=by
 refine bk.bx bb func69 rfl rfl rfl λk=>?_;have i:a9 p [(26,jK)]:=.cons ku .nil;have m:=e.aI;refine b9 i a v (g.aC (Uo b e.aM e.bl e.a0 e.bn e.aI) [] a (a7 i [-13,-42,-48,91,99] a ?_ ?_))
 .have h:a8 .i64 (3-(b.2.2.getD (0+d.2.1.toNat) a1.C).1):=h;simp only[T,a8,j,bw,a',a_]at h⊢;exact FS
 refine g.bh () [3,4,5] ?_ fy;simp
def Xp(b)(a:dO)(d:dK b)(i:a.1=4)(e:0<=a.2.1)(g:a.2.1<c b.2.2)(h:a8 .i64 (3-lq b a)):
  X p 69 [bY b,ep a] [] (bY (b.1,b.2.1,b.2.2.set (0+a.2.1.toNat) (3-lq b a,(b.2.2.getD (0+a.2.1.toNat) a1.C).2))) []:=
 Ul b.1 b.2.1 _ _ _ E (a1.cU b.2.2 (0+a.2.1.toNat) (3-lq b a,(b.2.2.getD (0+a.2.1.toNat) a1.C).2) (c b.2.2) (bB _)) (Xr b a d i e g h)
def Xq(b)(e:dO)(d:dK b)(j:e.1=4)(o:¬(0<=e.2.1/\e.2.1<c b.2.2)):X p 69 [bY b,ep e] [] (bY b) []:=by
 refine X.bc bb func69 rfl rfl rfl λk=>?_;have h:a9 p [(26,jK)]:=.cons ku .nil;have m:=d.aI;refine b9 h a v (g.aC (qo b d.aM d.bl d.a0 d.bn d.aI) [] a (a7 h [-13,-42,-48,91,-99] a ?_ ?_))
 .simp only[T,a8,j,dp,a',a_];exact FS
 refine g.bh () [] ?_ (λq i=>absurd i E);simp
abbrev Er(a:ce)(i:dO)(e g b d:Nat)(h:m Y):m an:=[jV a,.cells 32 (vu i),.cells 27 [cF,cF,cF],.p 99 2 (c a.1) (gp a.1 e (.slice (f ⟨g,0,n⟩) d b)),.p 114 2 (c a.2.1) (bh.fn a.2.1),.p 48 2 (c a.2.2) (a1.fn a.2.2),.E (cp 139 2 (.row g b) d h),.cells 27 [dD 3 (c a.1) (c a.1),dD 4 (c a.2.1) (c a.2.1),dD 5 (c a.2.2) (c a.2.2)]]
def Xo(b)(d)(B:dK b)(s:d.1=3)(i0 z)(w:se b d i0 z):
  bk (ι:={D:fu×m Y // ej 2 (b.1.getD i0 (0,[])).2.length (bG.fn (gU (b.1.getD i0 (0,[])).2 z d.2.2.2)) D.2}) p 69 [bY b,ep d] []
   (λ_=>.n (.agg [dD 0 (c b.1) (c b.1),dD 1 (c b.2.1) (c b.2.1),dD 2 (c b.2.2) (c b.2.2)]))
   (λD=>[.p 99 2 (c b.1) (gp b.1 i0 (c0 D.1.1 (b.1.getD i0 (0,[])).2.length)),.p 114 2 (c b.2.1) (bh.fn b.2.1),.p 48 2 (c b.2.2) (a1.fn b.2.2),.E (cp 139 2 D.1.1 (b.1.getD i0 (0,[])).2.length D.1.2)]):=by
 have W:=w.gw;have Z:=B.bl _ (vd w.a8);have G:=B.aM;refine bk.bx bb func69 rfl rfl rfl λH=>?_;have h:a9 p [(26,jK)]:=.cons ku .nil;refine b9 h a v (g.a6 (Uq b i0 w.a8 x B.aM B.bl B.a0 B.bn B.aI) [] a bn ?_);rintro⟨⟨U,M⟩,N⟩;refine g.fA (cp.len (d:=6) a) λV=>?_;obtain⟨i,cap,rfl⟩:=V.2.2.1 x;refine a7 h [-13,-42,48] a gY (g.aL 8 (λo:Nat×m Y=>o.1<=c b.1/\(o.1<=i0->o.2=M)/\(i0<o.1->ej 2 (b.1.getD i0 (0,[])).2.length (bG.fn (gU (b.1.getD i0 (0,[])).2 z d.2.2.2)) o.2)) (λo=>[(3,aH 1 0),(4,aH 2 0),(5,aH 7 0),(8,R o.1)]) (λo=>Er b d i0 i cap (b.1.getD i0 (0,[])).2.length o.2) (λo=>c b.1-o.1) (0,M) a E a ?_ a ⟨by omega,λ_=>rfl,λs=>by omega⟩ ?_)
 .simp only[T.X,T,bs.same,a_,a'];and_intros<;>first|exactλ_ _=>rfl|rfl
 rintro⟨e,r⟩ ⟨F,K,J⟩;simp only at F K J;have j:0+(e:Int).toNat=e:=x;by_cases s:e<c b.1
 .by_cases S:e=i0
  .subst S;obtain rfl:=K (bB _);have t:=w.c1;have y:=w.bS;generalize aa:(b.1.getD e (0,[])).2=ag at *;refine a7 h [54,917] a ?_ ?_
   .simp only[T,bw,a',a_];omega
   refine g.eI (ι:=Unit) b6 17 20 20 (λk=>ay k 16) (λk=>[aH 7 0,.n (.ar (dD 3 (c b.1) (c b.1))),R e,cD 3 (.bp (c b.1) 2 (0+(e:Int).toNat) 0),cD 3 (.bp (c b.1) 2 (0+(e:Int).toNat) 0),R (b.1.getD (0+(e:Int).toNat) (0,[])).1,aH 1 1,R d.2.1,bi ((b.1.getD (0+(e:Int).toNat) (0,[])).1==d.2.1),bi l,aH 1 2,R d.2.2.1,aH 7 0,.n (.ar (dD 3 (c b.1) (c b.1))),R e,cD 3 (.bp (c b.1) 2 (0+(e:Int).toNat) 0),cD 3 (.bp (c b.1) 2 (0+(e:Int).toNat) 1)].getD k .any)
    (λ_ k=>[ax (.val (.slice (f ⟨i,0,n⟩) (c ag) cap)),R (c ag),R (c ag-1)].getD (k-17) .any)
    (λ_=>Er b d e i cap (c ag) r) a a a a a a a (λk s=>by have:=fl s;omega) a
    ⟨aK.x,aK.x,aK.x,aK.eval (bg:=[]) bb h a q2,aK.x,aK.eval (bg:=[]) bb h a NX,aK.x,aK.x,aK.x,aK.eval (bg:=[66]) bb h a RK,aK.x,aK.x,aK.x,aK.x,aK.x,aK.eval (bg:=[]) bb h a q2,aK.x,v,v,v,v,v,v⟩
    (λ_=>⟨aK.x,aK.x,aK.x,aK.eval (bg:=[]) bb h a q2,aK.x,aK.eval (bg:=[]) bb h a NX,aK.x,aK.x,aK.x,aK.eval (bg:=[66]) bb h a RK,aK.x,aK.x,aK.x,aK.x,aK.x,aK.eval (bg:=[]) bb h a q2,aK.x,v,aK.eval (bg:=[]) bb h a q2,aK.eval (bg:=[]) bb h a F0,v⟩)
    (dA.dg (aK.aZ (jY a) (a0.e8 bb (aj:=.ar (.c (.val (.slice (f ⟨i,0,n⟩) (c ag) cap)))) a a a a a ?_ ?_))) λ_=>?_
   .exact OW
   .grind
   refine a7 h [78,918] a ?_ ?_
   .simp only[T,bw,a_];omega
   refine g.eI (ι:=Unit) b6 5 10 8 (λk=>ay k 4||(ay 6 k&&ay k 9)) (λk=>[aH 7 0,.n (.ar (dD 3 (c b.1) (c b.1))),R e,cD 3 (.bp (c b.1) 2 (0+(e:Int).toNat) 0),cD 3 (.bp (c b.1) 2 (0+(e:Int).toNat) 1),.any,aH 1 2,R d.2.2.1,aH 1 3,ax (.V d.2.2.2)].getD k .any)
    (λ_ k=>[ax (.val (.slice (f ⟨i,0,n⟩) (c ag) cap))].getD (k-5) .any)
    (λ_=>Er b d e i cap (c ag) r) a a a a a a a (λk s=>by simp at s;omega) a
    ⟨aK.x,aK.x,aK.x,aK.eval (bg:=[]) bb h a q2,aK.x,v,aK.x,aK.x,aK.x,aK.x,v,v,v,v⟩
    (λ_=>⟨aK.x,aK.x,aK.x,aK.eval (bg:=[]) bb h a q2,aK.x,v,aK.x,aK.x,aK.x,aK.x,v⟩)
    (dA.dg (aK.aZ (jY a) (a0.e8 bb (aj:=.ar (.c (.val (.slice (f ⟨i,0,n⟩) (c ag) cap)))) a a a a a ?_ ?_))) λ_=>?_
   .exact OW
   .grind
   refine b9 h a q2 ?_;have O:c r=c ag*2:=N.len;have I:0+d.2.2.1.toNat*2+1=z*2+1:=x;refine g.eR bb 6 a a a a a a a ?_ a a λA C=>?_
   .show 0+d.2.2.1.toNat*2+1+1<=c r;omega
   have ab:=JN N W C;refine b9 h a F0 (g.aA (e+1,r.take (z*2+1)++A++r.drop (z*2+1+c A)) a E ?_ ?_ ?_)
   .simp only[T.X,T,bs.same,a_,a'];show cp 139 2 _ _ (List.take (0+d.2.2.1.toNat*2+1) r++A++List.drop (0+d.2.2.1.toNat*2+1+c A) r)=_;rw[I]
   .grind
   grind
  have X:=w.b1 e s S;refine a7 h [54,-66,-78] a ?_ (g.aA (e+1,r) a ?_ ?_ ?_ ?_)
  .simp only[T,a8,j,eY,bw,a',a_];and_intros<;>first|exact X|omega
  .simp
  .simp
  .grind
  grind
 obtain rfl:e=c b.1:=x;refine a7 h [-54] a E (g.aB ?_);refine b9 h a v (g.bh ⟨(.row i cap,r),J w.a8⟩ [3,4,5,6] ?_ fy);simp
def Un{q}{args}(b)(d)(i0 z)(x:i0<c b.1)(t:bk (ι:={g:fu×m Y // ej 2 (b.1.getD i0 (0,[])).2.length (bG.fn (gU (b.1.getD i0 (0,[])).2 z d.2.2.2)) g.2}) p q args []
   (λ_=>.n (.agg [dD 0 (c b.1) (c b.1),dD 1 (c b.2.1) (c b.2.1),dD 2 (c b.2.2) (c b.2.2)]))
   (λg=>[.p 99 2 (c b.1) (gp b.1 i0 (c0 g.1.1 (b.1.getD i0 (0,[])).2.length)),.p 114 2 (c b.2.1) (bh.fn b.2.1),.p 48 2 (c b.2.2) (a1.fn b.2.2),.E (cp 139 2 g.1.1 (b.1.getD i0 (0,[])).2.length g.1.2)])):
  X p q args [] (bY (g8 b d i0 z)) []:=by
 generalize e:b.1.getD i0 (0,[])=i at *;have A:∀k,k≠i0->a3.fn (g8 b d i0 z).1 k=a3.fn b.1 k:=λk o=>by simp[c1.fn,gG,ak,o2,p_ o]
 have D:a3.fn (g8 b d i0 z).1 i0=[.int .i64 i.1,.R u 2 (c i.2) (bG.fn (gU i.2 z d.2.2.2))]:=by have:(g8 b d i0 z).1.getD i0 a3.C=(i.1,gU i.2 z d.2.2.2):=N;show a3.a3 ((g8 b d i0 z).1.getD i0 a3.C)=_;rw[this];show[O.int .i64 i.1,O.R u 2 (c (gU i.2 z d.2.2.2)) (bG.fn (gU i.2 z d.2.2.2))]=_;rw[LO]
 have y:=bk.fy (aP:=λg:{g:fu×m Y // ej 2 (c i.2) (bG.fn (gU i.2 z d.2.2.2)) g.2}=>[.p 99 2 (c b.1) (gp b.1 i0 (c0 g.1.1 (c i.2))),.p 114 2 (c b.2.1) (bh.fn b.2.1),.p 48 2 (c b.2.2) (a1.fn b.2.2)]) (fh:=λ_=>[.p 99 2 (c b.1) (a3.fn (g8 b d i0 z).1),.p 114 2 (c b.2.1) (bh.fn b.2.1),.p 48 2 (c b.2.2) (a1.fn b.2.2)]) (W:=139) (h:=2) (j:=c i.2) (bN:=λg=>g.1.1) (ag:=λg=>g.1.2) t (λg=>g.2) 0 bn bn bn bn (λ_=>g1 _)
  (λg k o=>by exact bD)
  (λg k o r C K=>by
   by_cases s:k=i0
   .subst s;rw[D]at K;have:gp b.1 k (c0 g.1.1 (c i.2)) k=[.int .i64 i.1,.val (c0 g.1.1 (c i.2))]:=N7;rw[this];rcases r with _|_|r
    .simp at K;subst K;exact⟨_,a,.inl a⟩
    .exact Rk
    grind
   .rw[A k s]at K;have:gp b.1 i0 (c0 g.1.1 (c i.2)) k=a3.fn b.1 k:=Fc
    rw[this];exact⟨C,K,.inl a⟩)
 have B:=bk.bL (aP:=λ_=>[.p 99 2 (c b.1) (a3.fn (g8 b d i0 z).1),.p 114 2 (c b.2.1) (bh.fn b.2.1)]) (W:=48) (h:=2) (j:=λ_=>c b.2.2) (U:=λ_=>a1.fn b.2.2) y bn (λ_=>?_) bn (λ_=>g1 _);have v:=bk.bL (aP:=λ_=>[.p 99 2 (c b.1) (a3.fn (g8 b d i0 z).1)]) (W:=114) (h:=2) (j:=λ_=>c b.2.1) (U:=λ_=>bh.fn b.2.1) B bn (λ_=>?_) bn (λ_=>g1 _);have w:=bk.bL (aP:=λ_=>[]) (W:=99) (h:=2) (j:=λ_=>c b.1) (U:=λ_=>a3.fn (g8 b d i0 z).1) v bn (λ_=>?_) bn (λ_=>bB _);refine(w.le (oF:=λ_=>bY (g8 b d i0 z)) bn (λ_=>?_)).ar
 .exact Pv
 .simp
 .simp
 simp
def Xn(b)(d)(e:dK b)(g:d.1=3)(i0 z)(a:se b d i0 z):X p 69 [bY b,ep d] [] (bY (g8 b d i0 z)) []:=
 Un b d i0 z a.a8 (Xo b d e g i0 z a)
abbrev abO(a:ce)(b:dO):m an:=[jV a,.cells 32 (vu b),.cells 27 [cF,cF,cF],.w 99 2 (c a.1) (a3.fn a.1),.w 114 2 (c a.2.1) (bh.fn a.2.1),.w 48 2 (c a.2.2) (a1.fn a.2.2),
 .cells 27 [.w 3 2 (c a.1) (a3.fn a.1),.w 4 2 (c a.2.1) (bh.fn a.2.1),.w 5 2 (c a.2.2) (a1.fn a.2.2)]]
def Xt(b)(d)(h:dK b)(s:d.1=3)(q:pV b d):X p 69 [bY b,ep d] [] (bY b) []:=by
 refine X.bc bb func69 rfl rfl rfl λA=>?_;have i:a9 p [(26,jK)]:=.cons ku .nil;have z:=h.aM;refine b9 i a v (g.aC (qo b h.aM h.bl h.a0 h.bn h.aI) [] a (a7 i [-13,-42,48] a gY (g.aL 7 (λe=>e<=c b.1) (λe:Nat=>[(3,aH 1 0),(4,aH 2 0),(5,aH 6 0),(8,R e)]) (λ_=>abO b d) (λe=>c b.1-e) 0 a E a E a x ?_)));intro e m;by_cases s:e<c b.1
 .have t:=q e s;have w:=h.bl _ (vd s);have j:b.1.getD (e:Int).toNat a3.C=b.1.getD e (0,[]):=by rw[c5];rfl
  generalize b.1.getD e (0,[])=r at *;by_cases k:r.1=d.2.1
  .refine a7 i [54,66,-78] a ?_ (g.aA (e+1) a ?_ ?_ ?_ ?_)
   .simp only[T,a8,j,k,f',bw,dp,a',a_];exact fA
   .simp
   .simp
   .exact q0
   omega
  refine a7 i [54,-66,-78] a ?_ (g.aA (e+1) a ?_ ?_ ?_ ?_)
  .simp only[T,a8,j,eY,bw,dp,a',a_];and_intros<;>first|exact k|omega
  .simp
  .simp
  .exact q0
  omega
 obtain rfl:e=c b.1:=x;refine a7 i [-54] a E (g.aB ?_);refine b9 i a v (g.bh () [] ?_ (λy o=>absurd o E));simp
def Wz(j):X p 275 [R j] [] (bi (decide (0<=j)&&decide (j<999999999989))) []:=by
 refine X.I func275 rfl λb=>?_;by_cases s:0<=j
 .exact a6 [5] a gY (g.aw a gY)
 exact a6 [-5] a gY (g.aw a gY)
def XG(b i):X p 215 [o' b i] [] (bi (fX (b,i))) []:=by
 refine X.I func215 rfl λh=>?_;have e:a9 p [(275,df c6 (λd=>bi (decide (0<=d)&&decide (d<999999999989))) λ_=>[])]:=.cons (.a9 λd _=>Wz d) .nil;unfold fX;cases s:(decide (0<=b)&&decide (b<999999999989))with
 |false=>exact a7 e [-6,-11] rfl gY (g.aw rfl)
 |true=>
  by_cases K:1<=i
  .exact a7 e [6,11] a du (g.aw a sc)
  exact a7 e [6,-11] a du (g.aw a sc)
abbrev BP:bJ:=df p3 (λa=>bi (fX a)) λ_=>[]
def M4:bK p 215 BP:=.a9 λa _=>XG a.1 a.2
def Nh(d:m (Int×Int)):∀a:dI,dI.fp a->(d.foldl (λa b=>a.put b.1 b.2) a).ad=d.foldl d' a.ad/\dI.fp (d.foldl (λa b=>a.put b.1 b.2) a):=by
 induction d with
 |nil=>grind
 |cons b g e=>
  grind[D5,aa2]
def Vx(d:m cb)(U:c d<=4000000)(Q:c (dF d)<=100000):X p 171 [a3.R d] [] (a1.R (eD d)) []:=by
 refine X.I func171 rfl λO=>?_;have e:a9 p [(215,BP)]:=.cons M4 .nil;refine cM e a v (g.bK 3 253 2 a a ?_);refine g.aL 1 (λb=>b<=c d/\(dF (d.take b)).all fX=l) (λb:Nat=>[(3,.n (.ar (.w 0 2 (c (dF (d.take b))) (a1.fn (dF (d.take b)))))),(9,a3.R d),(10,R (c d)),(11,R b)]) (λb=>[ju (dF (d.take b))]) (λb=>c d-b) 0 a ?_ a ?_ a ⟨by omega,a⟩ ?_
 .simp[dF]
 .simp[dF]
 rintro b ⟨C,j⟩;by_cases k:b<c d
 .have o:d.getD (b:Int).toNat a3.C=d.getD b (0,[]):=N;have F:=EB k;refine bf e [12] a bu (g.aL 2 (λt=>t<=(d.getD b (0,[])).2.length/\(hi d b t).all fX=l) (λt:Nat=>[(3,.n (.ar (.w 0 2 (c (hi d b t)) (a1.fn (hi d b t))))),(5,aH 1 0),(9,a3.R d),(10,R (c d)),(11,R b),(16,bG.R (d.getD b (0,[])).2),(17,R (d.getD b (0,[])).2.length),(18,R t)]) (λt=>[ju (hi d b t),.cells 99 [.c (.int .i64 (d.getD b (0,[])).1),.c (.R u 2 (d.getD b (0,[])).2.length (bG.fn (d.getD b (0,[])).2))]]) (λt=>(d.getD b (0,[])).2.length-t) 0 a P3 a P3 a ⟨by omega,by simpa[hi]using j⟩ ?_);rintro t ⟨V,B⟩;obtain⟨J,M⟩:=zs (d:=d) (t:=t) k;have Y:c (hi d b t)<=100000:=N;have Z:(d.getD b (0,[])).2.length<=100000:=by grind[MA]
  by_cases y:t<(d.getD b (0,[])).2.length
  .have w:(d.getD b (0,[])).2.getD (t:Int).toNat bG.C=(d.getD b (0,[])).2.getD t (0,[]):=N;have h:hi d b (t+1)=hi d b t++[(((d.getD b (0,[])).2.getD t (0,[])).1,(d.getD b (0,[])).1)]:=Rq;have z:=a1.aX (hi d b t) (((d.getD b (0,[])).2.getD t (0,[])).1,(d.getD b (0,[])).1);cases A:fX (((d.getD b (0,[])).2.getD t (0,[])).1,(d.getD b (0,[])).1)with
   |false=>
    have W:eD d=[]:=by obtain⟨J,M⟩:=zs (d:=d) (t:=t+1) k;unfold eD;rw[bl];grind
    refine bf e [19,29] a ?_ (g.aW (bX.zero a ?_))
    .simp only[T,w,A,bw,a',a_];exact qZ
    exact bu
   |true=>
    refine bf e [19,-29] a ?_ (g.aA (t+1) a ?_ ?_ ?_ ?_)
    .simp only[T,w,A,a8,show pm.bytes=16 from a,bw,a',a_];exact qZ
    .exact Qn
    .exact Qn
    .grind
    omega
  have aa:t=(d.getD b (0,[])).2.length:=x;have s:hi d b t=dF (d.take (b+1)):=by rw[F,hi];grind[List.length_map]
  refine bf e [-19] a bD (g.aB ?_);rw[s];refine cM e a bD (g.aA (b+1) a E ?_ ⟨k,s▸B⟩ x);simp
 .obtain rfl:b=c d:=x;rw[c9]at j⊢;refine bf e [-12] a E (g.aB ?_);refine g.fV (dG:=[(3,a1.R (dF d))]) (aq:=[ju (dF d)]) ?_ a E a E;have I:∀q∈dF d,a8 .i64 q.1/\a8 .i64 q.2:=λq S=>by have:=aY.1 j q S;simp only[fX,cl,bw]at this;simp only[a8];omega
  have i:a9 p [(211,ed [qD (dF d)] (ax (eN (i2 (dF d)))))]:=.cons (eu (Jw (dF d) x I)) .nil;have aV:(i2 (dF d)).ad=eD d:=by unfold eD;rw[bo j];exact(Nh (dF d) .nil bD).1
  have D:c (eD d)<=100000:=by have:=C6 (dF d) [];unfold eD;grind
  rw[<-aV]at D⊢;clear aV;generalize i2 (dF d)=r at *;have K:=I' (p:=p) r x
  cases r<;>(
   refine cM i a a (g.b6 K.tocH [] a a a a (by simp[eN]) a a a bn a bn a λ_=>?_)
   exact cM i a v (g.aw a))
def qy(b:m bC)(d:bC):Int:=match b.findIdx? (λe=>e==d)with
 |some a=>a
 |none=>-1
def Zc{d}{aa}(a:e<c d)(j:∀b,b<e->d.getD b []≠aa)(h:d.getD e []=aa):qy d aa=e:=by
 have:d.findIdx? (λg=>g==aa)=f e:=by rw[uB];refine⟨a,by grind,λb i=>?_⟩;grind
 simp[qy,this]
def Ze{d}{aa}(e:∀a,a<c d->d.getD a []≠aa):qy d aa=-1:=by have:d.findIdx? (λb=>b==aa)=n:=wG;simp[qy,this]
def Zd(d)(aa):decide (0<=qy d aa)=d.contains aa:=by unfold qy;grind
def Vp(d)(aa):X p 274 [bQ.R d,b3 aa] [] (R (qy d aa)) []:=by
 refine X.I func274 rfl λm=>?_;have r:=m.R 0 a;refine aZ a v (g.aL 0 (λb=>b<=c d/\∀e,e<b->d.getD e []≠aa) (λb:Nat=>[(0,bQ.R d),(1,b3 aa),(7,R (c d)),(8,R b)]) (λ_=>[]) (λb=>c d-b) 0 a E a v a ⟨by omega,by omega⟩ ?_);rintro b ⟨q,h⟩;by_cases k:b<c d
 .have i:d.getD (b:Int).toNat bQ.C=d.getD b []:=rfl;by_cases j:d.getD b []=aa
  .rw[Zc k h j];refine a6 [9,16] a ?_ (g.aW (bX.zero a));simp[T,i,bw,gM,a',a_];and_intros<;>first|exact j.symm|omega
  refine a6 [9,-16] a ?_ (g.aA (b+1) a ?_ v ⟨k,λe o=>?_⟩ x)
  .simp only[T,i,a8,bw,eY,a',a_];and_intros<;>first|grind|omega
  .simp
  grind
 rw[Ze λe o=>h e x];exact QR
abbrev SO:bJ:=ev (e' bQ) eI (λa b=>R (qy a b)) λ_ _=>[]
def U9(d)(aa):X p 214 [bQ.R d,b3 aa] [] (bi (d.contains aa)) []:=by refine X.I func214 rfl λe=>?_;have b:a9 p [(274,SO)]:=.cons (.bk λd aa _=>Vp d aa) .nil;refine b9 b a (by simp[T];exact bQ.T _) (g.aw a ?_);simp only[T,bQ.l,a_];exact Zd d aa
abbrev Ho:bJ:=ev (e' bQ) eI (λa b=>bi (a.contains b)) λ_ _=>[]
def ac7:bK p 214 Ho:=.bk λa b _=>U9 a b
def kM(b:m fk)(d:Nat):Bool:=(aA d).all λa=>fX (b.getD a (0,0))&&(a==0||decide ((b.getD (a-1) (0,0)).1<(b.getD a (0,0)).1))
theorem K8{d}:kM d (e+1)=(kM d e&&(fX (d.getD e (0,0))&&(e==0||decide ((d.getD (e-1) (0,0)).1<(d.getD e (0,0)).1)))):=by unfold kM;rw[List.range_succ,List.all_append];simp
def K6{d}(h:kM d e=u):∀a,e<=a->kM d a=u:=by
 intro a g;obtain⟨b,rfl⟩:=Nat.exists_eq_add_of_le g;induction b with
 |zero=>exact h
 |succ b i=>grind[K8]
def Vy(d):X p 210 [a1.R d] [] (bi (kM d (c d))) []:=by
 refine X.I func210 rfl λq=>?_;have t:=q.R 0 a;have b:a9 p [(215,BP)]:=.cons M4 .nil;refine b9 b a v (g.aL 0 (λe=>e<=c d/\kM d e=l) (λe:Nat=>[(0,a1.R d),(5,a1.R d),(6,R (c d)),(7,R e)]) (λ_=>[]) (λe=>c d-e) 0 a E a v a ⟨by omega,a⟩ ?_);rintro e ⟨r,k⟩;by_cases o:e<c d
 .have j:=K8 (d:=d) (e:=e);rw[k,fx]at j;have i:d.getD (e:Int).toNat a1.C=d.getD e (0,0):=rfl;cases h:fX (d.getD e (0,0))with
  |false=>
   rw[K6 (e:=e+1) N (c d) x];refine a7 b [8,14,29] a ?_ (g.aW (bX.zero a));simp_all
  |true=>
  rw[h,fx]at j;by_cases s:e=0
  .subst s;refine a7 b [8,-14,-17,-29] a ?_ (g.aA 1 a E v ⟨o,j⟩ x);simp only[T,i,h,a8,bw,dp,a',a_];exact qZ
  have m:d.getD ((e:Int)-1).toNat a1.C=d.getD (e-1) (0,0):=by rw[show((e:Int)-1).toNat=e-1 by omega];rfl
  by_cases w:(d.getD (e-1) (0,0)).1<(d.getD e (0,0)).1
  .refine a7 b [8,-14,17,-29] a ?_ (g.aA (e+1) a E v ⟨o,by grind⟩ x);simp only[T,i,m,h,a8,bw,dp,a',a_];exact qZ
  rw[K6 (e:=e+1) N (c d) x];refine a7 b [8,-14,17,29] a ?_ (g.aW (bX.zero a));simp only[T,i,m,h,a8,bw,a',a_];exact qZ
 obtain rfl:e=c d:=x;rw[k];refine a7 b [-8] a E (g.aB ?_);exact b9 b a v (g.aw a)
def VS(d):X p 24 [aC.R d,aC.R d] [] (bi l) []:=by
 refine X.I func24 rfl λb=>?_;have i:=b.R 0 a;refine a6 [-10] a E (g.aL 0 (λe=>e<=c d) (λe:Nat=>[(0,aC.R d),(1,aC.R d),(5,R e)]) (λ_=>[]) (λe=>c d-e) 0 a E a E a x ?_);intro e h;by_cases j:e<c d
 .exact O4
 exact FB
abbrev xE:bJ:=ev (e' aC) (e' aC) (λ_ _=>bi l) λa b=>[b=a]
def EO:bK p 24 xE:=.bk λa b d=>by have:b=a:=d;subst this;exact VS _
def VT(d):X p 94 [a1.R d,a1.R d] [] (bi l) []:=by
 refine X.I func94 rfl λb=>?_;have i:=b.R 0 a;refine a6 [-10] a E (g.aL 0 (λe=>e<=c d) (λe:Nat=>[(0,a1.R d),(1,a1.R d),(5,R e)]) (λ_=>[]) (λe=>c d-e) 0 a E a E a x ?_);intro e h;by_cases j:e<c d
 .exact O4
 exact FB
abbrev Hu:bJ:=ev (e' a1) (e' a1) (λ_ _=>bi l) λa b=>[b=a]
def ade:bK p 94 Hu:=.bk λa b d=>by have:b=a:=d;subst this;exact VT _
abbrev Lb(a:cb):an:=.cells 99 [.c (.int .i64 a.1),.c (.R u 2 (c a.2) (bG.fn a.2))]
def VU(b):X p 95 [fL b,fL b] [] (bi l) []:=by
 refine X.I func95 rfl λr=>?_;by_cases D:c b.2<=9223372036854775807
 .refine a6 [-10,-18] a E (g.aL 2 (λd=>d<=c b.2) (λd:Nat=>[(2,aH 0 0),(3,aH 1 0),(5,R d)]) (λ_=>[Lb b,Lb b]) (λd=>c b.2-d) 0 a E a E a x ?_);intro d q;by_cases o:d<c b.2
  .refine bP [24,-37] a ?_ (g.aA (d+1) a ?_ ?_ ?_ ?_)
   .simp[a8,o];omega
   .simp
   .simp
   .grind
   omega
  refine bP [-24] a bT (g.aB ?_);exact cy a v (g.aw a)
 exfalso;obtain⟨k,A,h,_⟩:=r;obtain⟨C,t⟩:∃w,bv [] k w (fL b):=by
  match A,h with
  |[i,_],h=>exact⟨i,h.1⟩
 obtain⟨s,_,e⟩:=t
 match s,e with
 |[i,m],e=>
  have:=e.2.1;cases(show Rd k.u m (.R u 2 (c b.2) (bG.fn b.2))from this)with
  |R y j z B F=>omega
abbrev Hv:bJ:=ev (jC bG) (jC bG) (λ_ _=>bi l) λa b=>[b=a]
def adf:bK p 95 Hv:=.bk λa b d=>by have:b=a:=d;subst this;exact VU _
abbrev jU(a:ef):an:=.cells 114 [.c (.int .i64 a.1),.c (.R u 2 (c a.2) (cu.fn a.2))]
def VV(d)(h:c d.2<=4000000):X p 96 [iQ d,iQ d] [] (bi l) []:=by
 refine X.I func96 rfl λi=>?_;have w:a9 p [(24,xE)]:=.cons EO .nil;refine a7 w [-10,-18] a E (g.aL 2 (λb=>b<=c d.2) (λb:Nat=>[(2,aH 0 0),(3,aH 1 0),(5,R b)]) (λ_=>[jU d,jU d]) (λb=>c d.2-b) 0 a E a E a x ?_);intro b e;by_cases j:b<c d.2
 .refine bf w [24,-39,53] a ?_ (g.aA (b+1) a ?_ ?_ ?_ ?_)
  .simp only[T,a8,f',fm,h4,bw,a',a_];and_intros<;>first|exact aC.T _|omega
  .simp
  .simp
  .grind
  omega
 refine bf w [-24] a bT (g.aB ?_);exact wB
abbrev Hw:bJ:=ev (jC cu) (jC cu) (λ_ _=>bi l) λb a=>[a=b,c a.2<=4000000]
def adg:bK p 96 Hw:=.bk λa b e=>by obtain⟨rfl,d⟩:b=a/\_:=e;exact VV _ d
abbrev zt(a:ce):an:=.cells 27 [.c (.R u 2 (c a.1) (a3.fn a.1)),.c (.R u 2 (c a.2.1) (bh.fn a.2.1)),.c (.R u 2 (c a.2.2) (a1.fn a.2.2))]
def VW(b)(e:dK b):X p 51 [bY b,bY b] [] (bi l) []:=by
 refine X.I func51 rfl λk=>?_;have w:a9 p [(94,Hu),(95,Hv),(96,Hw)]:=.cons ade (.cons adf (.cons adg .nil));have o:=e.aM;have m:=e.a0;refine bf w [-13,-21,28] a ?_ ?_
 .simp only[T,a8,f',fm,h4,bw,a',a_];and_intros<;>first|exact a1.T _|omega
 refine g.aL 2 (λd=>d<=c b.1) (λd:Nat=>[(2,aH 0 0),(3,aH 1 0),(5,R d)]) (λ_=>[zt b,zt b]) (λd=>c b.1-d) 0 a E a E a x ?_;intro d h;by_cases i:d<c b.1
 .refine bf w [35,48] a ?_ (g.aA (d+1) a ?_ ?_ ?_ ?_)
  .simp only[T,a8,bw,a',a_];and_intros<;>first|exact bG.T _|omega
  .simp
  .simp
  .grind
  omega
 refine bf w [-35] a bT (g.aB ?_);refine cM w a v (g.aL 2 (λd=>d<=c b.2.1) (λd:Nat=>[(2,aH 0 0),(3,aH 1 0),(6,R d)]) (λ_=>[zt b,zt b]) (λd=>c b.2.1-d) 0 a E a E a x ?_);intro d h;by_cases i:d<c b.2.1
 .have t:=(e.bn _ (mw i (0,[]))).1;have j:b.2.1.getD (d:Int).toNat bh.C=b.2.1.getD d (0,[]):=N;refine bf w [54,67] a ?_ (g.aA (d+1) a ?_ ?_ ?_ ?_)
  .simp only[T,a8,j,cu.l,bw,a',a_];and_intros<;>first|exact cu.T _|omega
  .simp
  .simp
  .grind
  omega
 refine bf w [-54] a bT (g.aB ?_);exact wB
def VY(b:m cY):X p 10 [bx.R b,bx.R b] [] (bi l) []:=by
 refine X.I func10 rfl λd=>?_;have j:=d.R 0 a;refine a6 [-10] a E (g.aL 0 (λe=>e<=c b) (λe:Nat=>[(0,bx.R b),(1,bx.R b),(5,R e)]) (λ_=>[]) (λe=>c b-e) 0 a E a E a x ?_);intro e i;by_cases h:e<c b
 .refine bP [14,-25] a ?_ (g.aA (e+1) a ?_ ?_ ?_ ?_)
  .simp[a8,h];omega
  .simp
  .simp
  .exact q0
  omega
 exact FB
end
def GA{d}:∀{h:Nat},c (fE d h)=h->∀a,1<=a->a<h->d.getD a 0≠d.getD (a-1) 0
 |0,_,a,_,b=>by omega
 |h+1,b,a,e,i=>by
  have g:=xf d h;rw[fE]at b;split at b
  .omega
  rename_i j;simp only[dk,gJ]at b;by_cases k:a=h
  .grind
  exact GA (h:=h) x a e x
def My(d):(jW d).Pairwise λa b=>a<=b:=by have:=List.pairwise_mergeSort (le:=λa b:Int=>decide (a<=b)) (λe g h i j=>by grind) (λe g=>by grind) d;exact this.imp λk=>by grind
def zr(d):(jW d).Perm d:=List.mergeSort_perm _ _
def S9(d):c (hP (jW d))=c d↔d.Nodup:=by
 rw[<-qQ d,<-(zr d).nodup_iff];have r:=My d;generalize jW d=i at *;have k:∀{b:Nat} (e:b<c i),i.getD b 0=i[b]:=λ{b} e=>by grind
 constructor
 .intro e;have o:=GA e;refine List.Pairwise.imp (R:=λs t=>s<t) (λe q=>by omega) (m7.2 λb g h a m=>?_);have j:=m7.1 r;have p:=o g x a;rw[k a,k x]at p;have v:=j (g-1) g x a x;by_cases q:b=g-1
  .grind
  have:=j b (g-1) h x x;omega
 intro e;unfold hP;rw[uE (bB _),c9];exact FI
def MC(j z):∀(g:m Int)d(e:Bool),(e=l->j∈d) ->
  ((z∈(g.foldl (gr j) (d,e)).1∨(z=j/\(g.foldl (gr j) (d,e)).2=u))↔((z∈d∨(z=j/\e=u))∨z∈g))
 |[],d,e,_=>by simp
 |i::g,d,e,r=>by
  rw[iH];have h:∀a b,gr j (d,e) i=(a,b)->(b=l->j∈a)/\((z∈a∨(z=j/\b=u))↔((z∈d∨(z=j/\e=u))∨z=i)):=λa b p=>by unfold gr at p;grind
  cases k:gr j (d,e) i with
  |mk a b=>
   obtain⟨q,o⟩:=h a b k;rw[MC j z g a b q,o,fa,or_assoc]
def ZW{d}{b a:Int}:a∈e6 d b↔a∈d∨a=b:=by have:=MC b a d [] u E;unfold e6;grind
def yI{z}:∀{b a:m Int},z∈b.foldl e6 a↔z∈a∨z∈b
 |[],a=>by simp
 |d::b,a=>by rw[iH,yI,ZW,fa,or_assoc]
def DC{d}{z}:z∈gF d↔z∈d9 d:=by unfold gF;rw[yI];simp
def KM{z}:∀{e:m ef}{b:m Int},z∈e.foldl (λa d=>(gF d.2).foldl e6 a) b↔z∈b∨∃d∈e,z∈d9 d.2
 |[],b=>by simp
 |d::e,b=>by rw[iH,KM,yI,DC,or_assoc];simp
def tg{d}{z}:z∈hX d↔∃a∈d,z∈d9 a.2:=by unfold hX;rw[KM];simp
def KL{d}{z}:∀{t:Nat},t<=c d->(z∈fE d t↔z∈d.take t)
 |0,_=>by simp[fE]
 |t+1,e=>by
  have b:=KL (d:=d) (z:=z) (t:=t) x;rw[fE,ih x 0];split
  .rename_i q;rw[b,fC];constructor
   .exact .inl
   rintro(a|a)
   .exact a
   simp only[gK]at a;subst a;rw[q.2,ak,bF x];exact AX.2 ⟨t-1,by simp;omega,by simp⟩
  grind
def yJ{a}{z}:z∈gh a↔z∈d9 a.2:=by unfold gh hP;rw[KL (bB _),c9];exact(zr _).mem_iff
def ZQ{d}{j:Int->Bool}:(hX d).all j=(aA (c d)).all λe=>!(gh (d.getD e (0,[]))).any λb=>!j b:=by
 rw[o4,aY,fS];constructor
 .intro h e a;rw[jc,List.any_eq_false];intro b g;have:=h b (tg.2 ⟨_,oj a,yJ.1 g⟩);simp[this]
 intro h b g;obtain⟨o,m,k⟩:=tg.1 g;obtain⟨e,a,rfl⟩:=AX.1 m;have i:=h e a;rw[ak,bF a,h5,jc,List.any_eq_false]at i;simpa using i b (yJ.2 k)
def sZ{a:m α}(d:e<c a)(b:α):a.getD e b=a[e]:=N
def xk{al:α->Int}{K}{d}:(∀a,a<c d->j9 al K d a=l)↔d.Pairwise λo p=>al o<al p:=by
 constructor
 .intro j;have key:∀g a e (b:a<c d) (h:e<c d),e=a+g->0<g->al d[a]<al d[e]:=by
   intro g;induction g with
   |zero=>grind
   |succ g q=>
    intro a e b h k _;have m:=j e h;rw[qc x,decide_eq_true_iff,sZ x,sZ h]at m;by_cases i:g=0
    .subst i;grind
    grind
  exact m7.2 λa e b h k=>key (e-a) a e b h x x
 intro j a b;by_cases i:a=0
 .exact bD
 rw[qc i,decide_eq_true_iff,sZ x,sZ b];exact(m7.1 j) (a-1) a x b x
def sB{d}{S:α->Bool}{K}:(∀a,a<c d->S (d.getD a K)=l)↔∀b∈d,S b=l:=by grind[List.mem_iff_getElem]
structure nW(h:Int)(S:cb):Prop where
 c1:1<=S.1/\S.1<=99
 key:cA h=l
 len:1<=c S.2/\c S.2<=4
 gD:∀C∈S.2,right h C=l
 iq:S.2.Pairwise λC bI=>C.1<bI.1
def y0{d}:ib h d=l↔nW h d:=by
 rw[DW];simp[cl,bw,fS];have k:(∀b,b<c d.2->ig h d b=l)↔(∀g∈d.2,right h g=l)/\d.2.Pairwise λg m=>g.1<m.1:=by
  rw[<-sB (K:=(0,[])),<-xk (al:=λg:cZ=>g.1) (K:=(0,[]))];constructor
  .intro e;exact⟨λb a=>by have:=e b a;simp[ig,cl]at this;exact this.1,λb a=>by have:=e b a;simp only[ig,cl]at this;exact this.2⟩
  intro e b a;simp only[ig,cl];exact⟨e.1 b a,e.2 b a⟩
 rw[k];constructor
 .rintro⟨⟨⟨q,j⟩,t⟩,i,B⟩;exact⟨q,j,t,i,B⟩
 rintro⟨q,j,t,i,B⟩;grind
structure iB(h:Int)(b:ce):Prop where
 cn:∀S∈b.1,nW h S
 cG:b.1.Pairwise λS bd=>S.1<bd.1
 ak:(cv b.1).Nodup
 a0:∀C∈b.2.1,(1<=C.1/\C.1<=20)/\(ei h C b.1).isSome=l
 cI:b.2.1.Pairwise λC bI=>C.1<bI.1
 key:cA h=l
 dd:gC b.2.2=l
 len:c b.1<=20
def tG{b}:h0 h b=l↔iB h b:=by
 unfold h0;simp[cl,bw,fS];have r:(∀e,e<c b.1->nG h b.1 e=l)↔(∀g∈b.1,nW h g)/\b.1.Pairwise λg s=>g.1<s.1:=by
  rw[<-xk (al:=λg:cb=>g.1) (K:=(0,[]))];have:(∀g∈b.1,nW h g)↔∀g∈b.1,ib h g=l:=⟨λk g o=>y0.2 (k g o),λk g o=>y0.1 (k g o)⟩
  rw[this,<-sB (K:=(0,[]))];constructor
  .intro k;exact⟨λe a=>by have:=k e a;simp[nG,cl]at this;exact this.1,λe a=>by have:=k e a;simp[nG,cl]at this;exact this.2⟩
  intro k e a;simp[nG,cl];grind
 have v:(∀e,e<c b.2.1->lo h b e=l)↔(∀i∈b.2.1,(1<=i.1/\i.1<=20)/\(ei h i b.1).isSome=l)/\b.2.1.Pairwise λi w=>i.1<w.1:=by
  rw[<-xk (al:=λg:ef=>g.1) (K:=(0,[]))];have:(∀i∈b.2.1,(1<=i.1/\i.1<=20)/\(ei h i b.1).isSome=l)↔∀i∈b.2.1,(decide (1<=i.1/\i.1<=20)&&(ei h i b.1).isSome)=l:=N;rw[this,<-sB (K:=(0,[]))];constructor
  .intro k;exact⟨λe a=>by have:=k e a;simp[lo,cl]at this⊢;grind,λe a=>by have:=k e a;simp[lo,cl]at this;exact this.1.2⟩
  intro k e a;have m:=k.1 e a;simp[lo,cl]at m⊢;grind
 rw[r,v];constructor
 .rintro⟨⟨⟨⟨⟨⟨m,B⟩,j⟩,t,z⟩,q⟩,d⟩,p⟩;exact⟨m,B,j,t,z,q,d,p⟩
 rintro⟨m,B,j,t,z,q,d,p⟩;grind
structure j2(h:Int)(M:dQ):Prop extends iB h M.1 where
 gv:∀C∈M.1.2.1,∀j∈d9 C.2,j∈M.2.1
 gq:∀j∈M.2.2,∃S∈M.1.1,S.1=j
 hq:M.2.2.Pairwise λC bI=>C<bI
def r3{a}:hj h a=l↔j2 h a:=by
 unfold hj;simp only[cl,tG,fS];have p:(hX a.1.2.1).all (λb=>a.2.1.contains b)=l↔∀j∈a.1.2.1,∀b∈d9 j.2,b∈a.2.1:=by
  rw[aY];constructor
  .intro g j t b m;simpa using g b (tg.2 ⟨j,t,m⟩)
  intro g b m;obtain⟨j,t,m⟩:=tg.1 m;grind
 have r:(∀e,e<c a.2.2->nx a.1.1 a.2.2 e=l)↔(∀b∈a.2.2,∃k∈a.1.1,k.1=b)/\a.2.2.Pairwise λj s=>j<s:=by
  rw[<-xk (al:=λb:Int=>b) (K:=0)];have:(∀b∈a.2.2,∃k∈a.1.1,k.1=b)↔∀b∈a.2.2,(a.1.1.any λk=>k.1==b)=l:=E;rw[this,<-sB (K:=0)];constructor
  .intro g;exact⟨λe d=>by have:=g e d;simp only[nx,cl]at this;exact this.1,λe d=>by have:=g e d;simp[nx,cl]at this;exact this.2⟩
  intro g e d;simp[nx,cl];grind
 rw[p,r];constructor
 .rintro⟨⟨o,i,B⟩,q⟩;exact⟨q,o,i,B⟩
 rintro⟨q,o,i,B⟩;grind
def iX(b:Int)(a:m Int)(d:cb):cb:=if d.1=b then hF d a else d
def fr(b:Int)(a:m Int)(d:m cb):m cb:=(d.map (iX b a)).filter λe=>!e.2.isEmpty
def jw(a:dQ):dQ:=match a.2.2 with
 |[]=>a
 |b::d=>((fr b a.2.1 a.1.1,a.1.2),a.2.1,d)
def YA{d:m cZ}{a:m Int}{j}(e:j∈a):(d.filter λb=>a.contains b.1).find? (λb=>b.1==j)=d.find? (λb=>b.1==j):=N
def aau{bL:Int}{a:m Int}{S}{j}(b:j∈a):fT h (iX bL a S) j=fT h S j:=by
 unfold iX;split
 .simp only[fT,hF,YA b]
 simp
def JG{h bL}{cw}{j}(b:j∈cw):∀a:m cb,dg h (fr bL cw a) j=dg h a j
 |[]=>rfl
 |S::a=>by
  have g:=JG (h:=h) (bL:=bL) b a;have e:=aau (h:=h) (bL:=bL) (S:=S) b;unfold fr dg at *;rw[me,ss];split
  .grind
  rename_i d;have d:(iX bL cw S).2=[]:=N;have:fT h S j=n:=by rw[<-e];unfold fT;grind
  grind
def Ys{Z cS}{a}(d:∀b∈a,dg h Z b=dg h cS b):g4 h Z a=g4 h cS a:=by unfold g4;grind[List.map_congr_left]
def abY{Z cS}{b}(e:∀a∈d9 b.2,dg h Z a=dg h cS a):ei h b Z=ei h b cS:=by
 have q:∀d∈b.2,fM h Z d=fM h cS d:=λd i=>by unfold fM;rw[Ys λa w=>e a (rk.2 ⟨d,i,w⟩)]
 unfold ei fq;grind[List.map_congr_left]
theorem yC{bL}{cw}{a}:(iX bL cw a).1=a.1:=by unfold iX hF;split<;>rfl
theorem Dr{bL}{cw}{S}:List.Sublist (iX bL cw S).2 S.2:=by unfold iX hF;split<;>simp
def MI{bL}{cw}{Z}{a}(b:a∈fr bL cw Z):∃d∈Z,a=iX bL cw d/\a.2≠[]:=by unfold fr at b;grind
def KT{bL}{cw}:∀a:m cb,List.Sublist (cv (fr bL cw a)) (cv a)
 |[]=>.refl _
 |d::a=>by
  have b:=KT (bL:=bL) (cw:=cw) a;unfold fr cv at *;rw[me,ss,so];split
  .rw[so];exact(Dr.map _).append b
  grind
def j2.step{b}(d:j2 h b):j2 h (jw b):=by
 unfold jw;split
 .exact d
 rename_i bL y o;have s:=d.gq;have r:=d.hq;rw[o]at s r;have w:∀e∈b.1.2.1,ei h e (fr bL b.2.1 b.1.1)=ei h e b.1.1:=λe j=>abY λp g=>JG (d.gv e j p g) _;refine⟨⟨λx t=>?_,?_,d.ak.sublist (KT _),λe j=>?_,d.cI,d.key,d.dd,?_⟩,d.gv,λp g=>?_,(iF.1 r).2⟩
 .obtain⟨S,k,rfl,q⟩:=MI t;have i:=d.cn S k;have m:=Dr (bL:=bL) (cw:=b.2.1) (S:=S);refine⟨by rw[yC];exact i.c1,i.key,⟨AV.2 q,fR m.length_le i.len.2⟩,λe j=>i.gD e (m.subset j),i.iq.sublist m⟩
 .show (fr bL b.2.1 b.1.1).Pairwise _;unfold fr;refine List.Pairwise.filter _ (ri.2 (d.cG.imp λv=>?_));grind[yC]
 .have:=d.a0 e j;grind
 .show (c (fr bL b.2.1 b.1.1))<=20;have:c (fr bL b.2.1 b.1.1)<=c b.1.1:=by unfold fr;grind
  exact fR this d.len
 obtain⟨S,k,rfl⟩:=s p (mg _ g);have q:S.1≠bL:=by grind[List.pairwise_cons]
 refine⟨S,?_,a⟩;show S∈fr bL b.2.1 b.1.1;unfold fr;refine jd.2 ⟨ho.2 ⟨S,k,by unfold iX;grind⟩,?_⟩;have:=(d.cn S k).len.1;grind
def oN{o}(i:dP o=l):rb o:=by
 obtain⟨k,_,_,t⟩:=zI.1 i;have q:∀a∈o,dX a.2=l/\c a.2<=40:=λa d=>by have:=(k a d).2;simp[fO,cl,bw]at this;grind
 refine⟨by omega,λa d=>⟨(q a d).1,by grind⟩,?_⟩;have:∀b:m cY,(∀a∈b,c a.2<=40)->c (eR b)<=40*c b:=by
  intro b;induction b with
  |nil=>exact bD
  |cons a v j=>
   intro e;have g:=j λh p=>e h (mg _ p);have r:=e a ir;have s:=vM a.2;simp[eR,so,dk,fw]at g⊢;omega
 grind
theorem Z1(bL h)(Z):(jS bL h Z).2.length=c Z:=DE h Z
def xl{d:m ef}:∀a,d.Pairwise (λa g=>a.1<g.1)->(∀b∈d,a<=b.1/\b.1<=20)->(c d:Int)<=max 0 (21-a):=by
 induction d with
 |nil=>grind
 |cons b r h=>
  intro a k e;obtain⟨p,i⟩:=iF.1 k;have q:=e b ir;have:=h (b.1+1) i λo j=>⟨by grind,(e o (mg _ j)).2⟩
  grind
def Lj(h):∀g a(b:m bC),(∀e∈b,cC e=l)->∀j∈gb h g a b,∃w d,a<=w/\w<a+c (gb h g a b)/\0<c d/\c d<=4/\(∀e∈d,cC e=l)/\j=jS w h d
 |0,_,_,_,j,i=>by exact bD
 |g+1,a,b,q,j,i=>by
  simp only[gb]at i⊢;split at i
  .rename_i o;rw[bo o];rcases fa.1 i with rfl|i
   .grind
   obtain⟨w,d,r,p,s⟩:=Lj h g (a+1) (b.drop 4) (λe k=>q e (p4 k)) j i;grind
  grind
def C8{a:m α}(d:c a≠0)(b:α):a.getD (c a-1) b∈a:=mw x b
def DX(h):∀g a(b:m bC),∀e∈gb h g a b,a<=e.1
 |0,_,_,e,d=>by exact bD
 |g+1,a,b,e,d=>by
  simp only[gb]at d;split at d
  .rcases fa.1 d with rfl|d
   .exact Int.le_refl _
   have:=DX h g (a+1) (b.drop 4) e d;omega
  grind
def Lg(h):∀(d:Nat) (a:Int)(b:m bC),(gb h d a b).Pairwise λe g=>e.1<g.1
 |0,_,_=>by simp[gb]
 |d+1,a,b=>by
  simp[gb];split
  .refine iF.2 ⟨λj i=>?_,Lg h d (a+1) (b.drop 4)⟩;have:=DX h d (a+1) (b.drop 4) j i;exact bD
  simp
theorem ZY{d}{e a}(b:a∈fG d e):a=e∨a∈d:=by
 induction d with
 |nil=>simp[fG]at b;grind
 |cons i h g=>
  simp only[fG]at b;grind
def ZX{Z}{d}(e:d∈h' h Z):∃a∈Z,d=(dY h a,fN a):=by
 have key:∀(Z:m bC) b,d∈Z.foldl (λg a=>fG g (dY h a,fN a)) b->d∈b∨∃a∈Z,d=(dY h a,fN a):=by
  intro Z;induction Z with
  |nil=>grind
  |cons a j i=>
   grind[ZY]
 rcases key Z [] e with e|e
 .cases e
 grind
def CS{Z}{j}{b}(d:dg h Z j=f b):cC b=l/\dY h b=j/\j∈cv Z:=by
 unfold dg at d;obtain⟨nC,k,a⟩:=List.exists_of_findSome?_eq_some d;unfold fT at a;split at a
 .rename_i e i;have m:e.1=j:=N5;have g:=wW i;unfold iK hG at a;refine⟨by grind,by grind,rk.2 ⟨nC,k,ho.2 ⟨e,g,m⟩⟩⟩
 cases a
def JF{Z}{j}(p:cA h=l)(i:∀b∈Z,nW h b)(o:j∈cv Z):∃b,dg h Z j=f b:=by
 obtain⟨nC,e,m⟩:=rk.1 o;obtain⟨s,r,t⟩:=ho.1 m;cases k:dg h Z j with
 |some b=>simp
 |none=>
  have d:fT h nC j=n:=List.findSome?_eq_none_iff.1 k nC e;unfold fT at d;split at d
  .rename_i g a;have v:g.1=j:=by simpa using List.find?_some a
   have q:=(i nC e).gD g (wW a);unfold right at q;unfold iK at d;grind
  rename_i a;have:=uv.1 a s r;grind
def Yy{Z cS}(a:cA h=l)(i:∀b∈Z,nW h b)(o:∀j∈cv cS,j∈cv Z){j}{b}(m:dg h cS j=f b):dg h Z j=f b:=by obtain⟨d,e,k⟩:=CS m;obtain⟨p,w⟩:=JF a i (o j k);obtain⟨q,g,_⟩:=CS w;rw[w,yO a d q (e.trans g.symm)]
def Yz{Z cS}(o:∀a(e:bC),dg h cS a=f e->dg h Z a=f e){b}{g}(j:fM h cS b=f g):fM h Z b=f g:=by
 have key:∀d,g4 h cS b.2=f d->g4 h Z b.2=f d:=by
  intro d w;unfold g4 at *;split at w
  .rename_i i;cases w;have m:∀a∈b.2,dg h Z a=dg h cS a:=λa q=>by have:=aY.1 i a q;obtain⟨e,k⟩:=AG.1 this;simp_all
   simp_all
  cases w
 unfold fM at *;split at j
 .cases j
 simp_all
def ab1{Z cS}(j:∀e(g:bC),dg h cS e=f g->dg h Z e=f g){a}{o}(d:ei h a cS=f o):ei h a Z=f o:=by
 unfold ei at *;split at d
 .rename_i q;cases d;simp only[cl]at q;have k:∀b∈a.2,fM h Z b=fM h cS b:=λb i=>by obtain⟨m,w⟩:=AG.1 (aY.1 q.1.2 b i);rw[w,Yz j w]
  have p:fq h Z a.2=fq h cS a.2:=qa λb i=>by simp_all
  simp_all
 cases d
section
variable {p:af V}
structure oV(b:ce):Prop where
 size:dK b
 hM:b.1.Pairwise λw i=>w.1<i.1
 num:∀C∈b.2.1,-4000000<=C.1/\C.1<=4000000
 aI:∀C∈b.2.2,1<=C.1/\C.1<=2
def J_{b}(i:oV b)(d):(∃a r,se b d a r)∨pV b d:=by
 by_cases h:pV b d
 .exact .inr h
 refine .inl ?_;simp only[pV,Classical.not_forall,Classical.not_not]at h;obtain⟨a,e,k,v,w⟩:=h;refine⟨a,d.2.2.1.toNat,e,k,λg j t o=>?_,by omega,by omega⟩;have q:b.1.getD a (0,[])=b.1[a]:=N;have p:b.1.getD g (0,[])=b.1[g]:=N;rw[q]at k;rw[p]at o;rcases dW g a with m|s
 .have:=m7.1 i.hM g a j e m;omega
 have:=m7.1 i.hM a g e j x;omega
structure RM(p:af V)(b:ce)(d:dO)(az:ce):Prop where
 d_:dK az
 cC:X p 58 [bY b,ep d] [] (bY az) []
 cD:X p 69 [bY b,ep d] [] (bY az) []
theorem K7{d}(g:kM d (c d)=l):(∀b∈d,fX b=l)/\d.Pairwise λb h=>b.1<h.1:=by
 have i:=fS.1 g;have j:∀a,a<c d->∀e,e<a->(d.getD e (0,0)).1<(d.getD a (0,0)).1:=by
  intro a;induction a with
  |zero=>grind
  |succ a k=>
   grind
 grind[List.getElem_of_mem,List.pairwise_iff_getElem]
def YG(d):∀a:m fk,(a++d).Pairwise (λb e=>b.1<e.1)->d.foldl d' a=a++d:=by
 induction d with
 |nil=>grind
 |cons b h g=>
  grind[aaX]
def adR{d}(g:kM d (c d)=l)(j):(i2 d).find j=iS d j:=by obtain⟨a,b⟩:=Nh d .nil bD;have e:=YG d [] (by grind[K7]);rw[i2,CY b,a];exact eC (iS · j) e
def Nj{o}(d:dP o=l):∀a∈o,fO a.2=l:=λa b=>((zI.1 d).1 a b).2
abbrev IC(a:m bC):y:=.n (.ar (.w 2 1 (c a) (bQ.fn a)))
def XA(z B)(h)(o)(d)(k:cA h=l)(C:dP o=l)(O:kM d (c d)=l)(ae:c d<=4000000):
  X p 170 [R h,bx.R o,a1.R d] (ik z B) (bQ.R (fW h o d)) (ik z B):=by
 refine X.I func170 rfl λaM=>?_;have P:a9 p [(55,df c6 (λh=>bi (cA h)) λ_=>[]),(43,rq),(210,df (e' a1) (λd=>bi (kM d (c d))) λ_=>[])]:=.cons pJ (.cons wa (.cons (.a9 λd _=>Vy d) .nil));refine bf P [-15,-20,-25] a ?_ ?_
 .simp only[T,k,bx.l,a1.l,r5,C,O];exact⟨a,a1.T _,a,bx.T _,a⟩
 have G:=K7 O;have M:∀r∈d,a8 .i64 r.1/\a8 .i64 r.2:=λr ba=>by have:=G.1 r ba;simp only[fX,cl,bw]at this;simp only[a8];omega
 have aV:=adR O;have af:=Jw (p:=p) d ae M;have V:∀m,X p 212 [ax (eN (i2 d)),R m] [] (R (iS d m)) []:=λm=>aV m▸UQ (i2 d) m
 clear aV;generalize i2 d=F at *;have s:a9 p [(211,ed [qD d] (ax (eN F)))]:=.cons (eu af) .nil;cases F<;>(
  refine cM s a a (g.bK 8 9 1 a a ?_);refine g.dF 3 [0,7,29,30] (λb=>b<=c o) (λb:Nat=>[(8,IC ((eR (o.take b)).foldl (e8 h d) [])),(31,R b)]) (λb=>ik z B++[.w 9 1 (c ((eR (o.take b)).foldl (e8 h d) [])) (bQ.fn ((eR (o.take b)).foldl (e8 h d) []))]) (λb=>c o-b) 0 a ?_ a ?_ a x ?_
  .simp[eR]
  .simp[eR]
  intro b Z;by_cases Y:b<c o
  .have L:o.getD (b:Int).toNat bx.C=o.getD b ([],[]):=N;have I:o.getD b ([],[])∈o:=N;have ai:=Nj C _ I;have A:=GH Y;have H:=GG o (b+1);have D:=oN C;have W:=(D.fl _ I).1;have ag:=D.all;have ah:=D.len;have S:=vN W;generalize o.getD b ([],[])=i at *;rw[A,dk]at H;have U:k9 i.2=cm i.2:=by unfold k9;grind
   have t:a9 p [(195,df eI (λaa=>bQ.R (k9 aa)) λ_=>[])]:=.cons EM .nil;refine bf t [32] a bu ?_;rw[L,U];refine g.dF 4 [0,7,29,30,31,37,38] (λe=>e<=c (cm i.2)) (λe:Nat=>[(8,IC ((eR (o.take b)++(cm i.2).take e).foldl (e8 h d) [])),(39,R e)]) (λe=>ik z B++[.w 9 1 (c ((eR (o.take b)++(cm i.2).take e).foldl (e8 h d) [])) (bQ.fn ((eR (o.take b)++(cm i.2).take e).foldl (e8 h d) [])),.cells 73 [.c (.V i.1),.c (.V i.2)]]) (λe=>c (cm i.2)-e) 0 a E a E a x ?_;intro e al;have y:=C5 h d (eR (o.take b)++(cm i.2).take e) [];simp only[gL,dk,List.length_take]at y;by_cases aj:e<c (cm i.2)
   .have ab:(cm i.2).getD (e:Int).toNat bQ.C=(cm i.2).getD e []:=N;have Q:cC ((cm i.2).getD e [])=l:=S _ N;have w:(eR (o.take b)++(cm i.2).take (e+1)).foldl (e8 h d) []=e8 h d ((eR (o.take b)++(cm i.2).take e).foldl (e8 h d) []) ((cm i.2).getD e []):=ii;generalize(eR (o.take b)++(cm i.2).take e).foldl (e8 h d) []=dx at *;generalize(cm i.2).getD e []=q at *;have ba:=bQ.aX dx q;refine bP [40] a bu ?_;rw[ab];refine g.aC (CB z B h q k Q) [0,1] a (g.aC (V _) [] a ?_);have j:a9 p [(214,Ho)]:=.cons ac7 .nil;by_cases K:iS d (dY h q)=0
    .cases av:dx.contains q with
     |true=>
      rw[e8,bl N]at w;refine bf j [49,-54] a ?_ (g.aA (e+1) a ?_ ?_ ?_ ?_)
      .simp only[T,K,av,a8,bQ.l,f',bw,a',a_];exact Qc
      .rw[w];simp
      .rw[w];simp
      .grind
      omega
     |false=>
      rw[e8,bo N]at w;refine bf j [49,54] a ?_ (g.aA (e+1) a ?_ ?_ ?_ ?_)
      .simp only[T,K,av,a8,show s4.bytes=16 from a,bQ.l,f',bw,a',a_];exact Qc
      .exact QM
      .exact QM
      .grind
      omega
    rw[e8,bl N]at w;refine bf j [-49] a bD (g.aA (e+1) a ?_ ?_ ?_ ?_)
    .rw[w];simp
    .rw[w];simp
    .grind
    omega
   have J:e=c (cm i.2):=x;refine bP [-40] a bu (g.aB ?_);refine cy a bD (g.aA (b+1) a ?_ ?_ ?_ ?_)
   .rw[A,J,c9];simp
   .rw[A,J,c9];simp
   .grind
   omega
  .obtain rfl:b=c o:=x;rw[c9];refine bP [-32] a E (g.aB ?_)
   refine cy a v (g.aQ [0,1] a ?_ qr);simp[fW,eR])
abbrev ads(a:cb×Bool):y:=.Q [.agg [.c (.int .i64 a.1.1),.c (.R u 2 (c a.1.2) (bG.fn a.1.2))],.ar (.c (.bool a.2))]
def gE(b:Int)(a:bC):cZ:=(dY b a,fN a)
def tl(a d:Int)(b:m bC):cb:=(a,l2 (b.map (gE d)))
def lZ(a d:Int)(b:m bC):cb×Bool:=if ib d (tl a d b)=l then(tl a d b,l)else((0,[]),u)
theorem y9:∀b a,c (b.foldl hH a)=c a+c b
 |[],a=>by simp
 |d::b,a=>by rw[iH,y9 b,LL,fw];omega
def Nq:∀d{b:m cZ}{e:Nat},gv b->e<c b->gv (i4 d b e)
 |0,_,_,a,_=>a
 |d+1,b,e,a,g=>by
  rw[i4];split
  .exact a
  split
  .exact Nq d (tI a x g) pR
  grind
theorem aaQ{d}{a}(e:gv d)(i:a8 .i64 a.1/\c a.2<=9223372036854775807):gv (hH d a):=by
 refine Nq _ (λh g=>?_) E;rcases fC.1 g with b|b
 .exact e h b
 grind
def aaH{d}(a:gv d)(b:0<c d):gv (hg d):=
 Ck _ _ (tI a b x) pR pR
theorem KN{a}(b:cC a=l):a8 .i64 (gE h a).1/\(gE h a).2.length<=9223372036854775807:=by
 have d:=b;simp only[cC,cl,bw]at d;have e:=sv (gk a*(2*h+1)+h*7919) (show(999999999989:Int)≠0 by decide);have g:=sn (gk a*(2*h+1)+h*7919) (show(0:Int)<999999999989 by decide);refine⟨?_,?_⟩
 .show a8 .i64 (dY h a);simp only[a8,dY];omega
 show c (fN a)<=_;unfold fN fe;grind
def Kn(h)(a:m bC)(g:∀d∈a,cC d=l):gv ((a.map (gE h)).foldl hH []):=by
 have:∀(b:m bC) e,(∀d∈b,cC d=l)->gv e->gv ((b.map (gE h)).foldl hH e):=by
  intro b;induction b with
  |nil=>grind
  |cons d j i=>grind[aaQ,KN]
 exact this a [] g (by simp[gv])
abbrev LB(e d:ao×Y)(g:Nat)(a:fu)(b:m cZ):m an:=ik e d++[.cells 99 [.c (.int .i64 0),.c (.R l 0 0 λ_=>[])],is g a (c b),aI a (c b) b]
abbrev DZ(b:Int)(a:m cZ):m an:=[.cells 99 [.c (.int .i64 b),.w 6 2 (c a) (bG.fn a)],.w 139 2 (c a) (bG.fn a)]
def Jg(s r:ao×Y)(bL h)(Z)(H:a8 .i64 bL)(bW:cA h=l)(K:∀t∈Z,cC t=l)(aw:c Z<=4):
  X p 172 [R bL,R h,bQ.R Z] (ik s r) (ads (lZ bL h Z)) (ik s r):=by
 refine X.bc bb func172 rfl rfl rfl λav=>?_;refine bP [902] a v (g.jO 8 3 139 2 a a λq al=>?_);refine cy a v (g.dF 5 [0,1,6,8,14,15] (λi:Nat×fu=>i.1<=c Z) (λi=>[(16,R i.1)]) (λi=>LB s r q i.2 (((Z.take i.1).map (gE h)).foldl hH [])) (λi=>c Z-i.1) (0,.nil al) a E a ?_ a x ?_)
 .simp[gB]
 rintro⟨e,bN⟩ J;simp only at J;by_cases o:e<c Z
 .have G:Z.getD (e:Int).toNat bQ.C=Z.getD e []:=N;have ab:cC (Z.getD e [])=l:=K _ N;have L:((Z.take (e+1)).map (gE h)).foldl hH []=hH (((Z.take e).map (gE h)).foldl hH []) (gE h (Z.getD e [])):=ii;have an:c (((Z.take e).map (gE h)).foldl hH [])=e:=by grind[y9]
  have I:=Kn h (Z.take e) λt S=>K t (g0 S);generalize Z.getD e []=t at *;generalize((Z.take e).map (gE h)).foldl hH []=d at *;refine bf (.cons zA .nil:a9 p [(218,lE)]) [17] a bu ?_;rw[G];refine g.aC (CB s r h t bW ab) [0,1] a (cM (.cons zA .nil:a9 p [(218,lE)]) a v (g.a6 (Vb q bN I x (C:=gE h t) (KN ab)) [3,4] a bn λQ=>?_));have aa:=LL d (gE h t);refine cy a bD (g.aA (e+1,Q) a E du N ?_);grind
 obtain rfl:e=c Z:=x;rw[c9];refine bP [-17] a E (g.aB ?_);have au:c ((Z.map (gE h)).foldl hH [])<=4:=by grind[y9]
 have I:=Kn h Z K;have af:l2 (Z.map (gE h))=[]++kP (c ((Z.map (gE h)).foldl hH [])) ((Z.map (gE h)).foldl hH []):=by rw[l2,y9,p9,gL,cW]
 refine cy a v (g.ck 5 1 139 2 (bG.fn []) a a ?_);refine g.dF 7 [1,6,8,11] (λi:m cZ×fu×m cZ=>gv i.1/\c i.1+c i.2.2<=4/\l2 (Z.map (gE h))=i.2.2++kP (c i.1) i.1) (λi=>[]) (λi=>LB s r q i.2.1 i.1++DZ bL i.2.2) (λi=>c i.1) ((Z.map (gE h)).foldl hH [],bN,[]) a E a E a ⟨I,by grind,af⟩ ?_;rintro⟨o,bN,b⟩ ⟨M,ag,B⟩;simp only at M ag B;refine cy a v (g.aN (a0.dS a a) a a ?_);refine g.ar (aK.eE bb 3 a a a a a (tE bN _) a) a ?_;refine g.aC (Ct bN (c o) o) [4] a ?_;by_cases aj:c o=0
 .rw[aj,kP,hL]at B;subst B;refine bP [-37] a du (g.aB ?_);have U:a9 p [(163,BK)]:=.cons MZ .nil;have ar:c (l2 (Z.map (gE h)))<=4:=x;cases ae:ib h (tl bL h Z)with
  |false=>
   have w:ib h (bL,l2 (Z.map (gE h)))=u:=ae;have F:lZ bL h Z=((0,[]),u):=by unfold lZ;grind
   rw[F];refine bf U [50] a Ra (g.cr () [0,1] ?_ qr);simp
  |true=>
   have w:ib h (bL,l2 (Z.map (gE h)))=l:=ae;have F:lZ bL h Z=(tl bL h Z,l):=by unfold lZ;grind
   rw[F];refine bf U [-50] a Ra (g.cr () [0,1] ?_ qr);simp[tl]
 obtain⟨j,A⟩:∃j,c o=j+1:=⟨c o-1,by omega⟩
 refine bP [37,909] a bu (g.iY (J4 (e:=4) (j:=c o) (bN:=bN) (d:=o) a x) λP=>?_);obtain⟨z,k,rfl,V⟩:=P;rw[A]at V;have S:=Va (p:=p) q z k M A x V;have ai:=aaH M x;have aa:c ((hg o).take j)=j:=by grind[LC]
 have aM:l2 (Z.map (gE h))=(b++[(hg o).getD j (0,[])])++kP j ((hg o).take j):=by rw[B,A,kP,bl x,A];simp
 have aq:gv ((hg o).take j):=λC D=>ai C (g0 D);show g p _ _ _ _ _ (ik s r++[.cells 99 [.c (.int .i64 0),.c (.R l 0 0 λ_=>[])],is q (.row z k) (c o),aI (.row z k) (c o) o]++DZ bL b);rw[A];generalize(hg o).getD j (0,[])=C at *;generalize(hg o).take j=W at *;refine g.eI (ι:=Unit) b6 4 7 10 (λh=>ay h 3) (λh=>([aH 5 1,.n (.ar (.w 6 2 (c b) (bG.fn b))),g_ (.pointer (f ⟨q,0,n⟩)),sO q]:m y).getD h .any) (λ_ h=>([.any,.any,.any,.any,sN C,xY C,ax (.R l 2 1 λe=>([[.int .i64 C.1,.V C.2]]:m (m O)).getD e [])]:m y).getD h .any)
  (λ_=>ik s r++[.cells 99 [.c (.int .i64 0),.c (.R l 0 0 λ_=>[])],is q (.row z k) j,aI (.row z k) j W]++DZ bL b)
  rfl rfl rfl rfl rfl rfl rfl (λh o=>by have:=fl o;omega) rfl
  ⟨aK.x,aK.x,aK.x,aK.x,v,v,v,v,v,v,v⟩
  (λ_=>⟨aK.x,aK.x,aK.x,aK.x,v,aK.aZ (jY a) (a0.f_ (ah:=[.int .i64 C.1,.V C.2]) bb a a a a),aK.x,v⟩)
  (dA.di S.tocH [3,4] a a a a a a a bn a bn) λ_=>?_
 have D:=bG.aX b C;refine cy a ?_ (g.aA (W,.row z k,b++[C]) a ?_ ?_ ?_ ?_)
 .simp only[T,show mz.bytes=24 from a,a'];omega
 .simp
 .simp only[aa,T.X,T,dk,fw,gL,a',a_];and_intros<;>first|exact bs.same|exact D|rfl
 .grind
 grind
abbrev adC(a:ef):y:=.Q [.agg [.c (.int .i64 a.1),.c (.R u 2 (c a.2) (cu.fn a.2))],.ar (.c (.bool l))]
abbrev Mx(e d:ao×Y)(b:Int)(a:m m1):m an:=ik e d++[.cells 114 [.c (.int .i64 0),.c (.R l 0 0 λ_=>[])],.cells 114 [.c (.int .i64 b),.w 4 2 (c a) (cu.fn a)],.w 155 2 (c a) (cu.fn a)]
abbrev ab2(b:cY)(a:m Int):m an:=[.cells 73 [.c (.V b.1),.c (.V b.2)],.cells 155 [.c (.V b.1),.w 7 1 (c a) (aC.fn a)],.w 3 1 (c a) (aC.fn a)]
def XB(B q)(bL h)(o)(ah:1<=bL/\bL<=99)(r:cA h=l)(z:dP o=l):
  X p 173 [R bL,R h,bx.R o] (ik B q) (adC (fI bL h o)) (ik B q):=by
 refine X.bc bb func173 rfl rfl rfl λae=>?_;have G:a9 p [(55,df c6 (λh=>bi (cA h)) λ_=>[]),(43,rq)]:=.cons pJ (.cons wa .nil);refine bf G [-15,-19,-24,-29] a ?_ ?_
 .simp only[T,r,bx.l,r5,z,dp];and_intros<;>first|exact bx.T _|rfl|omega
 refine g.ck 3 1 155 2 (cu.fn []) a a ?_;refine g.dF 5 [1,6,8,33,34] (λb=>b<=c o) (λb:Nat=>[(35,R b)]) (λb=>Mx B q bL (ow h (o.take b))) (λb=>c o-b) 0 a E a E a x ?_;intro b K;by_cases ag:b<c o
 .have Z:o.getD (b:Int).toNat bx.C=o.getD b ([],[]):=N;have A:o.getD b ([],[])∈o:=N;have D:=oN z;have I:=D.fl _ A;have ab:=Nj z _ A;have y:=D.len;have U:=vN I.1;have aa:=vM (o.getD b ([],[])).2;have C:ow h (o.take (b+1))=ow h (o.take b)++[kK h (o.getD b ([],[]))]:=ii;have Q:c (ow h (o.take b))=b:=N;generalize o.getD b ([],[])=d at *;generalize ow h (o.take b)=i at *;have Y:k9 d.2=cm d.2:=by unfold k9;grind
  have w:a9 p [(195,df eI (λV=>bQ.R (k9 V)) λ_=>[])]:=.cons EM .nil;refine bf w [36] a bu ?_;rw[Z,Y];refine g.ck 6 1 3 1 (aC.fn []) a a ?_;refine g.dF 8 [1,6,8,10,11,33,34,35,44,45] (λe=>e<=c (cm d.2)) (λe:Nat=>[(46,R e)]) (λe=>Mx B q bL i++ab2 d (kn h ((cm d.2).take e))) (λe=>c (cm d.2)-e) 0 a E a E a x ?_;intro e L;by_cases af:e<c (cm d.2)
  .have j:(cm d.2).getD (e:Int).toNat bQ.C=(cm d.2).getD e []:=N;have S:cC ((cm d.2).getD e [])=l:=U _ N;have M:kn h ((cm d.2).take (e+1))=kn h ((cm d.2).take e)++[dY h ((cm d.2).getD e [])]:=ii;have H:c (kn h ((cm d.2).take e))=e:=N;generalize(cm d.2).getD e []=s at *;generalize kn h ((cm d.2).take e)=k at *;have t:=aC.aX k (dY h s);refine bP [47,911] a bu ?_
   rw[j];refine g.gg b6 [aH 6 1,.n (.ar (.w 7 1 (c k) (aC.fn k))),R h,b3 s,R (dY h s),ax (.R l 1 1 λb=>([[.int .i64 (dY h s)]]:m (m O)).getD b [])] 6 a a a a a ⟨aK.x,aK.x,aK.x,aK.x,
    aK.dV (dA.di (CB B q h s r S).tocH [0,1] a a a a a a a bn a bn),aK.x,v⟩ ?_
   refine cy a ?_ (g.aA (e+1) a ?_ ?_ ?_ ?_)
   .simp only[T,a8,show ee.bytes=8 from a,a',a_];exact fA
   .simp
   .simp only[M,T.X,T,dk,fw,gL,a',a_];and_intros<;>first|exact bs.same|exactλ_ _=>rfl|exact t|rfl|omega
   .grind
   omega
  have W:e=c (cm d.2):=x;rw[W,c9];have t:=cu.aX i (kK h d);have F:c i+1=c (i++[kK h d]):=E;have J:cu.a3 (kK h d)=[O.V d.1,O.R u 1 (c (kn h (cm d.2))) (aC.fn (kn h (cm d.2)))]:=rfl;rw[J,<-C]at t;rw[<-C]at F;refine bP [-47] a E (g.aB ?_);refine cy a Po (g.aA (b+1) a E ?_ ?_ ?_)
  .simp only[T.X,T,a',a_];and_intros<;>first|exact bs.same|exact t|exact F|rfl
  .grind
  omega
 obtain rfl:b=c o:=x;rw[c9];refine bP [-36] a E (g.aB ?_);refine cy a v (g.cr () [0,1] ?_ qr);simp[fI]
end
section
variable {p:af V}[p.b2]
abbrev Gd(b:Nat):={a:m cY×Nat // dP a.1=l/\b<=a.2/\a.2<=b+400}
end
section
variable {p:af V}
set_option maxRecDepth 20000 in
def WN(z)(b:Nat->Int)(j:Bytes b)(e:Nat)(h:e<=4000000)(i:z<=1048576)(d)(o:1<=c d/\c d<=1000):
  X p 63 [aH 0 0,bQ.R d] [eh z b e] (b3 (d.getD (qL z b e (c d)).toNat [])) [eh z b (e+1)]:=by refine X.I func63 rfl λk=>?_;refine aZ a v (g.aC (Jj z b j e (c d) h i x) [0] a ?_);have m:=Lr z b e (c d) x;exact aZ a bT (g.aQ [0] a oS ni)
end
end R1
def bk.die{E:af P}{I}{args}{W h}{F:Nat->m O}{k}{q:ι->Nat->m O}{S:ι->Nat}(J:bk E I args [.p W h j F] (λ_=>cD 0 k) (λB=>[.p W h (S B) (q B)])):X E I args [.p W h j F] (cD 0 k) [.J]:=
 ⟨J.1,λT A z x Q p w=>J.2 T A z x Q p λB r K i y d g b=>w r K i y (by
  obtain⟨D,e,_,_⟩:cB _ _ _ (.K 0 k):=d;exact(⟨D,e,by simp,λ_ _ _ _ R=>by grind⟩:cB [.J] i K (.K 0 k))) g.d'
  ⟨b.size,b.aV,b.mem,b.bz,b.bN,λC M L aI t=>by
   obtain⟨N,o,e,s,U⟩:=b.box C M L aI t;cases C with
   |zero=>simp at aI;subst aI;exact⟨.J,o,a,s,v⟩
   |succ C=>grind,b.os,b.tape,b.output,b.own⟩⟩
namespace R1
variable {p:af V}
def I5(b):X p 145 [Ce b] [] (bi (hs b)) []:=by
 refine X.I func145 rfl λi=>?_;have d:a9 p []:=.nil;unfold hs;by_cases e:b.1=1
 .by_cases jJ:1<=b.2
  .exact a7 d [6,11,16] a bu (g.aw a du)
  exact a7 d [6,11,-16] a bu (g.aw a t')
 by_cases h:b.1=2
 .by_cases jJ:1<=b.2
  .exact a7 d [-6,11,16] a bu (g.aw a du)
  exact a7 d [-6,11,-16] a bu (g.aw a t')
 exact a7 d [-6,-11,-16] a bu (g.aw a bu)
def Wk(b):X p 144 [Ce b] [] (bi (!hs b)) []:=by refine X.I func144 rfl λe=>?_;have d:a9 p [(145,df p3 (λb=>bi (hs b)) λ_=>[])]:=.cons (.a9 λb _=>I5 b) .nil;exact b9 d a v (g.aw a)
def ZH(d):gC d=(decide (c d<=9)&&!d.any λa=>!hs a):=by
 have:(aA (c d)).all (λb=>hs (d.getD b (0,0)))=!d.any λa=>!hs a:=by rw[o4,fS,jc,List.any_eq_false];grind[List.mem_iff_getElem]
 rw[gC,this,Bool.and_comm]
def Wl(d):X p 102 [a1.R d] [] (bi (gC d)) []:=by
 refine X.I func102 rfl λi=>?_;have e:=U3 (p:=p) d 144 (λs=>!hs s) λh _=>Wk h;have b:a9 p [(143,ed [a1.R d,ax (.fn (.func 144) [] [])] (bi (d.any λs=>!hs s)))]:=.cons (eu e) .nil;rw[ZH];by_cases s:c d<=9
 .exact a7 b [6] a ⟨a,fo x⟩ (g.aw a gY)
 exact a7 b [-6] a bT (g.aw a bu)
def tJ:bK p 102 n8:=.a9 λa _=>Wl a
def WT(d)(k:c d.2<=4000000):X p 204 [fL d] [] (aC.R (d.2.map (·.1))) []:=by
 refine X.I func204 rfl λm=>?_;refine a6 [902] a v (g.bK 3 3 1 a a ?_);refine aZ a v (g.aL 2 (λb=>b<=c d.2) (λb:Nat=>[(1,aH 0 0),(3,.n (.ar (.w 1 1 b (aC.fn ((d.2.take b).map (·.1)))))),(7,bG.R d.2),(8,R (c d.2)),(9,R b)]) (λb=>[xC d,.w 3 1 b (aC.fn ((d.2.take b).map (·.1)))]) (λb=>c d.2-b) 0 a E a E a x ?_);intro b j;by_cases h:b<c d.2
 .have i:d.2.getD (b:Int).toNat bG.C=d8 d b:=N;have w:(d.2.take (b+1)).map (·.1)=(d.2.take b).map (·.1)++[(d8 d b).1]:=ii;have e:c ((d.2.take b).map (·.1))=b:=N;have aj:=aC.aX ((d.2.take b).map (·.1)) (d8 d b).1;rw[e]at aj;refine a6 [10] a ?_ (g.aA (b+1) a ?_ ?_ h x)
  .simp only[T,a8,show ee.bytes=8 from a];grind
  .exact Pj
  exact Pj
 obtain rfl:b=c d.2:=x;rw[c9];refine a6 [-10] a E (g.aB ?_);exact wD
abbrev HI:bJ:=df (jC bG) (λa=>aC.R (a.2.map (·.1))) λa=>[c a.2<=4000000]
def adv:bK p 204 HI:=.a9 λb a=>WT b a
def Z4(Z)(e):c (cv (Z.take e))<=c (cv Z):=by have:cv Z=cv (Z.take e)++cv (Z.drop e):=RG;grind
abbrev abk(a:m Int):y:=cD 0 (.R (c a) 1 0 (c a))
def Jf(Z)(q:∀i∈Z,c i.2<=4000000)(z:c (cv Z)<=4000000):X p 164 [a3.R Z] [] (abk (cv Z)) [jf (c (cv Z)) (cv Z)]:=by
 refine X.I func164 rfl λr=>?_;have w:=r.R 0 a;have d:a9 p [(204,HI)]:=.cons adv .nil;refine a7 d [902] a v (g.e9 3 3 1 (aC.fn []) a ?_);refine b9 d a v (g.aL 1 (λb=>b<=c Z) (λb:Nat=>[(3,cD 0 (.R (c (cv (Z.take b))) 1 0 (c (cv (Z.take b))))),(6,a3.R Z),(7,R (c Z)),(8,R b)]) (λb=>[jf (c (cv (Z.take b))) (cv (Z.take b))]) (λb=>c Z-b) 0 a Fj a (by simp[bs,cv]) a x ?_);intro b o;by_cases h:b<c Z
 .have B:Z.getD (b:Int).toNat a3.C=Z.getD b (0,[]):=N;have e:=KU h;have j:=Z4 Z (b+1);have y:=q _ (oj (K:=(0,[])) h);generalize Z.getD b (0,[])=i at *;rw[e]at j;generalize cv (Z.take b)=k at *;have m:=aC.hd k (i.2.map (·.1)) _ a;simp only[dk,kC]at j m;refine a7 d [9] a ?_ (g.aA (b+1) a ?_ ?_ h x)
  .simp only[T,B,a8,bG.l,bG.T,kC,show ee.bytes=8 from a];grind
  .rw[e];simp only[T.X,T,B,bG.l,dk,kC,a',a_];and_intros<;>first|exact bs.same|rfl|omega
  rw[e];simp only[T.X,T,B,bG.l,dk,kC,a',a_];grind
 obtain rfl:b=c Z:=x;rw[c9];refine a7 d [-9] a E (g.aB ?_);refine b9 d a v (g.aQ [0] a ?_ (λt s=>absurd s E));simp
def WE(Z)(b:∀e∈Z,c e.2<=4000000)(d:c (cv Z)<=4000000):X p 164 [a3.R Z] [] (aC.R (cv Z)) []:=
 X.bL (aP:=[]) (W:=3) (h:=1) (j:=c (cv Z)) (U:=aC.fn (cv Z)) (Jf Z b d) a E a (bB _)
end R1
namespace R1
section
variable {p:af V}
def Jo(b):X p 117 [bY b] [] (bY b) []:=by refine X.bx func117 rfl rfl rfl λe=>?_;refine aZ a E ?_;refine g.freeze 2 1 a a a ?_;exact g.b9 bb [] a E a a a (λh d=>absurd d E)
abbrev HO:bJ:=df o6 (λa=>bY a) λ_=>[]
def adB:bK p 117 HO:=.a9 λa _=>Jo a
abbrev zn(a:ce):an:=.cells 158 [.c (.R u 2 (c a.1) (a3.fn a.1)),.c (.R u 2 (c a.2.1) (bh.fn a.2.1)),.c (.R u 2 (c a.2.2) (a1.fn a.2.2))]
structure nX(b:ce):Prop extends pZ b where
 cn:∀S∈b.1,c S.2<=4000000
 e':c (cv b.1)<=4000000
def tm(b:Int)(a:ce):Bool:=(aA (c a.1)).all (nG b a.1)&&decide (c a.1<=20)&&decide (cv a.1).Nodup
def WW(h)(b)(bW:cA h=l)(m:nX b):X p 118 [bY b,R h] [] (bi (tm h b)) []:=by
 refine X.I func118 rfl λY=>?_;have y:=m.fM;have S:=m.cn;have U:=WE (p:=p) b.1 m.cn m.e';have q:a9 p [(163,BK)]:=.cons MZ .nil;refine b9 q a v ?_;unfold tm;refine g.aL 1 (λe=>e<=c b.1/\∀C,C<e->nG h b.1 C=l) (λe:Nat=>[(1,R h),(2,aH 0 0),(9,a3.R b.1),(10,R (c b.1)),(11,R e)]) (λ_=>[zn b]) (λe=>c b.1-e) 0 a E a E a ⟨by omega,by omega⟩ ?_;rintro e ⟨M,w⟩;by_cases s:e<c b.1
 .have bz:b.1.getD e a3.C=b.1.getD e (0,[]):=rfl;have o:b.1.getD (e-1) a3.C=b.1.getD (e-1) (0,[]):=rfl;have z:nG h b.1 e=(ib h (b.1.getD e (0,[]))&&j9 (·.1) (0,[]) b.1 e):=rfl;have I:=qc (al:=λt:cb=>t.1) (K:=(0,[])) (d:=b.1) (e:=e);have i:=S _ (oj (K:=(0,[])) s);generalize b.1.getD e (0,[])=t at *;generalize b.1.getD (e-1) (0,[])=A at *;cases r:ib h t with
  |false=>
   rw[r,sw]at z;refine a7 q [12,20,35] a ?_ (g.aW (bX.zero a ?_))
   .simp[-ak,bz,bW,i,r,bG.l,bG.T];omega
   rw[kD s z];simp
  |true=>
   rw[r,fx]at z;by_cases J:e=0
   .subst J;refine a7 q [12,-20,-23,-35] a ?_ (g.aA 1 a E E ⟨s,iI w bD⟩ x);simp[-ak,bz,bW,i,r,bG.l,bG.T,a8];omega
   have I:=I J;by_cases O:A.1<t.1
   .refine a7 q [12,-20,23,-33,-35] a ?_ (g.aA (e+1) a E E ⟨s,iI w N⟩ x);exact Qp
   refine a7 q [12,-20,23,33,35] a Qp (g.aW (bX.zero a ?_));exact jZ
 obtain rfl:e=c b.1:=x;rw[fS.2 w,fx];refine a7 q [-12] a E (g.aB ?_);refine b9 q a v (g.aC (Jf b.1 m.cn m.e') [] a (b9 q a v (g.aC (CG (cv b.1) m.e') [1] a ?_)));have W:=S9 (cv b.1);have F:=(IU (p:=p) (jW (cv b.1)) (by rw[qQ];exact m.e')).die;rw[qQ]at F;have V:=H' (jW (cv b.1));rw[qQ]at V;have Q:=m.e';generalize hP (jW (cv b.1))=j at *;generalize jW (cv b.1)=B at *;have hO:a9 p [(166,k5 [dL (c (cv b.1))] [jf (c (cv b.1)) B] (cD 0 (.R (c (cv b.1)) 1 0 (c j))) [.J]),(164,ed [a3.R b.1] (aC.R (cv b.1)))]:=.cons (l3 F) (.cons (eu U) .nil);refine a7 hO [909] a v ?_;by_cases aa:c b.1<=20
 rotate_left
 .refine a7 hO [-46] a bT (g.aw a ?_);exact bu
 have D:(c b.1:Int)<=20:=x;generalize Z:cv b.1=k at *;refine g.df (ι:=Unit) b6 6 (λe=>match ay e 5 with|true=>l|false=>match ad e 8 with|true=>l|false=>ad e 9) (λe=>[aH 0 0,a3.R b.1,R (c b.1),bi (decide ((c b.1:Int)<=20)),bi l,cD 1 (.R (c k) 1 0 (c k)),.any,.any,aH 0 0,a3.R b.1].getD e .any)
  (λ_ e=>[.any,.any,.any,.any,.any,.any,cD 1 (.R (c k) 1 0 (c j)),R (c j),.any,.any,aC.R k,R (c k),bi ((c j:Int)==c k),bi ((c j:Int)==c k),bi ((c j:Int)==c k)].getD e .any) (λ_=>[zn b,.J]) a a a a a a ?_ ?_ ?_ ?_
 .exact⟨.x,.x,.x,.x,.eval bb hO (bg:=[46]) a (fo D),.x,v,v,.x,.x,v,v,v,v,v,v⟩
 .intro _;exact⟨.x,.x,.x,.x,.eval bb hO (bg:=[46]) a (fo D),.x,v,.x,.x,.x,.eval bb hO (bg:=[]) a a,.x,.x,.x,.x,v⟩
 .exact .dg (d_ bb hO (bg:=[]) (aq:=f [zn b,.J]) a ⟨a,a⟩)
 intro _;refine b9 hO a v (g.aw a ?_);have:((c j:Int)==c k)=decide k.Nodup:=N;exact bD
def ix:m (Int×Int)->O
 |[]=>.bo
 |a::b=>.M [.int .i64 a.1,.int .i64 a.2,ix b]
abbrev v5(a:m (Int×Int)):O:=.R u 2 (c a) (a1.fn a)
def TX(b:m (Int×Int)):X p 146 [a1.R b] [] (ax (.fn (.func 187) [] [.M [v5 b]])) []:=by refine X.I func146 rfl λd=>?_;refine gV [] 5 a v ?_;refine g.freeze 1 0 a a a ?_;refine aZ a v (g.aw a ?_);rfl
def T2(j:m (Int×Int))(y:c j<=4000000){d:Nat}{b:bH}{o:Loop}{r:an}(k:Nat->an)(s:r=k (c j))(aI:∀w,k w≠.bd)(e:∀h,h<c j->iD (ι:=Unit) p 1 [R h,.n (.agg [.c (.int .i64 (j.getD h (0,0)).1),.c (.int .i64 (j.getD h (0,0)).2)])] [k (h+1),.loop d b o] l (λ_=>[k h,.loop d b o])):
  bk (ι:=Unit) p 187 [.n (.ar (.aK 1)),ax (.M [v5 j])] [r,.loop d b o] (λ_=>.Q []) (λ_=>[k 0,.loop d b o]):=by
 subst s;refine bk.bO func187 rfl rfl rfl (g.aU ?_);refine aZ a tT ?_;show b2 p _ (.loop _) _ _ _;refine b2.loop (bq:=Nat) (λi=>i<=c j) (λi=>[(0,.n (.ar (.aK 1))),(1,ax (.M [v5 j])),(3,R ((i:Int)-1))]) (λi=>[k i,.loop d b o]) (λi=>i) (c j) (bB _) (eJ a E) a ?_;intro i q;rcases i with _|h
 .refine g.aU ?_;refine a6 [-8] a E (g.fF a a ?_);exact⟨(),.inr a,a,qI (aI 0) (qI E a),[],.Q [],[],a,a,a,v⟩
 have t:(((h+1:Nat):Int)-1)=(h:Int):=x;rw[t];refine g.aU ?_;refine a6 [8] a ?_ ?_
 .simp only[T,bw,a',a_];omega
 refine g.yield (e h q) a a a a a a λ_=>?_;exact a6 [-18] a RB ⟨h,by omega,by omega,eJ a E,a⟩
def IF{a:m (Int×Int)}(b:e<c a):a.drop e=a.getD e (0,0)::a.drop (e+1):=FZ
def I_(b:m (Int×Int))(i:c b<=4000000):X p 103 [a1.R b] [] (ax (ix b)) []:=by
 refine(bk.e5 (ι:=Unit) (aq:=λ_=>[]) (res:=λ_=>ax (ix b)) func103 rfl rfl rfl λo=>?_).toX;have e:a9 p [(146,ed [a1.R b] (ax (.fn (.func 187) [] [.M [v5 b]])))]:=.cons (eu (TX b)) .nil;refine dd.seq (b2.bw (g.aU ?_));refine b9 e a v (dd.seq (b2.bw (g.aU ?_)));refine b9 e a v (dd.seq (dd.seq (b2.bw (g.aU ?_))));refine b9 e a a (dd.block ?_);have h:ix (b.drop (c b))=.bo:=by rw[su];rfl
 refine dd.rangeFunc (o8:=fc [.M [v5 b]]) (bZ.callee a) (T2 b i (λd=>.cells 142 [.c (ix (b.drop d))]) (by rw[h];rfl) E ?_) (λd=>⟨a,by simp⟩) λd=>⟨.normal,a,?_⟩
 .intro d bp;refine iD.cJ (br:=λ_=>[.cells 48 [.c (.int .i64 (b.getD d (0,0)).1),.c (.int .i64 (b.getD d (0,0)).2)],.J]) ?_ bn (λ_ t k aI=>?_)
  .rw[IF bp];generalize b.drop (d+1)=j;cases j<;>(
    refine iD.intro (t:=n) a a a a (g.aU ?_);refine aZ a v ?_;refine⟨a,a,g.aU ?_⟩;refine gV [] 1 a v ?_;refine g.region ?_;refine gV [] 4 a v ?_;refine g.e4 13 3 a a a ?_;refine aZ a v ?_;refine⟨a,a,(),jP a ?_⟩;simp[ix])
  .match t,aI with
   |0,aI=>cases aI;exact .inl ⟨_,_,a,a⟩
   |1,aI=>exact .inr (.inl aI)
   |t+2,aI=>simp at aI
 .show dd p _ _ _ _ _;refine b2.bw (g.aU ?_);rw[List.drop_zero];cases b<;>(
   refine aZ a v ?_;refine g.ret ⟨(),bX.zero a ?_⟩;simp[ix])
abbrev ac5(a:m (Int×Int))(b:Bool):y:=.Q [.ar (.c (.R u 2 (c a) (a1.fn a))),.ar (.c (.bool b))]
def Wj(d)(b)(i:gC d=l)(j:hs b=l)(o:c d<=9):X p 174 [a1.R d,o' b.1 b.2] [] (ac5 (if c d=9 then d else d++[b]) (decide (c d≠9))) []:=by
 refine X.I func174 rfl λm=>?_;have e:a9 p [(102,n8),(145,df p3 (λh=>bi (hs h)) λ_=>[])]:=.cons tJ (.cons (.a9 λh _=>I5 h) .nil);refine a7 e [-9,-14] a ?_ ?_
 .simp only[T,a1.l,i,j,fm,a',a_];first|exact a1.T _|(and_intros<;>first|rfl|exact a1.T _)
 refine g.aC (IR d x) [] a ?_;by_cases w:c d=9
 .exact a7 e [19] a oT OQ
 refine a7 e [-19] a ?_ ?_
 .simp only[T,show vk.bytes=16 from a,eY,a',a_];exact qZ
 have k:=a1.aX d b;refine g.fV (dG:=[(4,cD 1 (.R (c d+1) 2 0 (c d+1))),(5,bi l)]) (aq:=[.cells 48 [.c (.int .i64 b.1),.c (.int .i64 b.2)],.p 48 2 (c d+1) (a1.fn (d++[b]))]) ?_ a nO a bD;exact OQ
def VQ(d)(e:c d<=4000000):X p 208 [a3.R d] [] (R (if c d=0 then 0 else(d.getD (c d-1) (0,[])).1)) []:=by
 refine X.I func208 rfl λh=>?_;by_cases s:c d=0
 .rw[bo s];exact a6 [5] a gY (g.aw a)
 have b:d.getD ((c d:Int)-1).toNat a3.C=d.getD (c d-1) (0,[]):=by rw[show((c d:Int)-1).toNat=c d-1 by omega];rfl
 rw[bl s];refine a6 [-5] a ?_ (g.aw a du);simp only[T,b,a8,eY,a',a_];exact fA
def kI(a:Int)(d:m (Int×Int)):Int:=d.foldl (λa b=>max a (b.2+1)) a
def J6(d):∀a b:Int,kI (max a b) d=max a (kI b d):=by
 induction d with
 |nil=>intro a b;rfl
 |cons g e h=>
  intro a b;show kI (max (max a b) (g.2+1)) e=max a (kI (max b (g.2+1)) e);grind
def YW{z}{d}(a:e<c d):kI z (d.take (e+1))=max (kI z (d.take e)) ((d.getD e (0,0)).2+1):=by unfold kI;grind[ih]
def kt(a:ce):Int:=if c a.2.1=0 then 1 else max 1 ((a.2.1.getD (c a.2.1-1) (0,[])).1+1)
def acc(b):kI (kt b) b.2.2=cX b:=by
 unfold kt cX;have a:kI 1 b.2.2=lQ b.2.2:=rfl;split
 .exact a
 rw[show max 1 ((b.2.1.getD (c b.2.1-1) (0,[])).1+1)=max ((b.2.1.getD (c b.2.1-1) (0,[])).1+1) 1 by omega,J6,a];omega
def WI(b)(h:dK b)(K:ma b):X p 168 [bY b] [] (.Q [.ar (.c (.int .i64 (di b))),.ar (.c (.int .i64 (cX b)))]) []:=by
 refine X.I func168 rfl λF=>?_;have s:=h.aM;have I:=h.a0;have Q:=h.aI;have J:1<=kt b/\kt b<=4000001:=by
  unfold kt;split
  .omega
  exact OM
 apply g.cd [(1,aH 0 0),(4,R (kt b))] [jV b]
 .intro dx;by_cases e:c b.2.1=0
  .exact bP [-12,905] a du (dx _ _ a (by simp[kt,e]))
  have D:=K.ba _ (mw (show c b.2.1-1<c b.2.1 by omega) (0,[]));have w:b.2.1.getD ((c b.2.1:Int)-1).toNat bh.C=b.2.1.getD (c b.2.1-1) (0,[]):=Rv;refine bP [12] a ww ?_;rw[w];refine g.aN (yH (kt b) a a a (by unfold kt;grind) bD) a a ?_;exact bP [905] a v kw
 refine cy a v (g.aL 1 (λd=>d<=c b.2.2) (λd:Nat=>[(1,aH 0 0),(4,R (kI (kt b) (b.2.2.take d))),(24,a1.R b.2.2),(25,R (c b.2.2)),(26,R d)]) (λd=>[jV b]) (λd=>c b.2.2-d) 0 a ?_ a ?_ a x ?_)
 .simp[kI]
 .simp
 intro d o;have j:∀d,1<=kI (kt b) (b.2.2.take d)/\kI (kt b) (b.2.2.take d)<=4000001:=λd=>by have k:=s3 (b.2.2.take d) λB C=>K.aI B (g0 C);have y:kI 1 (b.2.2.take d)=lQ (b.2.2.take d):=rfl;rw[show kt b=max (kt b) 1 by omega,J6,y];omega
 have k:=j d;have M:=j (d+1);by_cases e:d<c b.2.2
 .have D:=K.aI _ (mw e (0,0));have w:b.2.2.getD (d:Int).toNat a1.C=b.2.2.getD d (0,0):=N;have t:=YW (z:=kt b) e;refine bP [27] a ww ?_;rw[w];refine g.aN (yH (kI (kt b) (b.2.2.take (d+1))) a a a t.symm mW) a a ?_;refine cy a bD (g.aA (d+1) a E ?_ e x);simp
 obtain rfl:d=c b.2.2:=x;rw[c9,acc]at k⊢;have i:di b=(if c b.1=0 then 0 else(b.1.getD (c b.1-1) (0,[])).1)+1:=by unfold di;split<;>rfl
 have m:-4000000<=di b-1/\di b-1<=4000000:=by
  rw[i];split
  .omega
  exact Q'
 have q:=VQ (p:=p) b.1 s;have r:=Jo (p:=p) b;rw[i]at m⊢;generalize(if c b.1=0 then 0 else(b.1.getD (c b.1-1) (0,[])).1)=S at *;have A:a9 p [(117,ed [bY b] (bY b)),(208,ed [a3.R b.1] (R S))]:=.cons (eu r) (.cons (eu q) .nil);refine bP [-27] a E (g.aB ?_);refine cM A a ?_ (g.aw a);exact bD
abbrev qO(a:m bC):O:=.R u 1 (c a) (bQ.fn a)
def Ub(d):X p 169 [bQ.R d,R 4] [] (ax (.fn (.func 209) [] [.M [qO d],.M [.int .i64 4]])) []:=by refine X.I func169 rfl λb=>?_;refine gV [] 6 a v ?_;refine g.freeze 2 0 a a a ?_;refine g.freeze 3 1 a a a ?_;exact a6 [-6] a E (g.aw a nO)
def gQ(b:m bC)(a:Nat):m bC:=(b.drop (4*a)).take 4
def Ua(d)(W:c d<=4000000){i}{N0}{im}{w yF}(z)(V:z<=(c d+3) / 4)(e:Nat->m an)(t)(Y:∀b,c (e b)=i)(Q:∀b,jQ (e b++[.loop N0 im w])=l)(M:jQ (t++[.loop N0 im yF])=l)(h:∀b,b<z->4*b<c d->iD (ι:=Unit) p i [bQ.R (gQ d b)] (e b++[.loop N0 im w]) l (λ_=>e (b+1)++[.loop N0 im w]))(k:4*z<c d->iD (ι:=Unit) p i [bQ.R (gQ d z)] (e z++[.loop N0 im w]) u (λ_=>t++[.loop N0 im yF])):
  bk (ι:=Unit) p 209 [.n (.ar (.aK i)),ax (.M [qO d]),ax (.M [.int .i64 4])] (e 0++[.loop N0 im w]) (λ_=>.Q []) (λ_=>if 4*z<c d then t++[.loop N0 im yF]else e z++[.loop N0 im w]):=by
 refine bk.bO func209 rfl rfl rfl (g.aU ?_);refine aZ a v ?_;show b2 p _ (.loop _) _ _ _;refine b2.loop (bq:=Nat) (λb=>b<=z) (λb=>[(0,.n (.ar (.aK i))),(1,ax (.M [qO d])),(2,ax (.M [.int .i64 4])),(4,R (4*b:Nat))]) (λb=>e b++[.loop N0 im w]) (λb=>z-b) 0 (g1 _) ?_ a ?_
 .exact .cons a (eJ a E)
 intro b F;refine g.aU ?_;by_cases o:4*b<c d
 .have B:T (jh (c d) (f ((4*b:Nat):Int)) n):=by simp only[jh,T];omega
  have J:bV (c d) n-bV 0 (f ((4*b:Nat):Int))=c d-4*b:=bD;refine a6 [9,903] a bu ?_;let A:Nat->y:=λr=>([R 4,bQ.R d,R (4*b:Nat),ax (.R u 1 (bV (c d) n-bV 0 (f ((4*b:Nat):Int))) (fF (bV 0 (f ((4*b:Nat):Int))) (bQ.fn d))),R (bV (c d) n-bV 0 (f ((4*b:Nat):Int)):Nat),R (min 4 (c d-4*b):Nat),R (min 4 (c d-4*b):Nat)]:m y).getD r .any;refine g.cm b6 A (lf (λ_ _ _=>e b++[.loop N0 im w]) 100 101 102) oS oS oS oS ?_ ?_
  .exact⟨.ax,
   .ax,
   .ax,
   b7.bF a a a (λ_ _ _=>aK.eval (bg:=[]) bb a9.nil a B),
   .ax,
   b7.bF a a a (λ_ _ _=>aK.aZ (λ_ _ _ _=>i5 a) (yK _ a a a N mW)),
   .ax,v⟩
  intro y X;show g p _ _ _ _ _ (e b++[.loop N0 im w]);have S:(((4*b:Nat):Int)+((min 4 (c d-4*b):Nat):Int))=((4*b+min 4 (c d-4*b):Nat):Int):=x;refine aZ a tT (g.aN (a0.j_ bb a a a a (j:=c d) (U:=bQ.fn d) (eO:=u) (λ_ _ ba=>b8 ba) a a a x x x x) a a ?_);have O:c (gQ d b)=min 4 (c d-4*b):=by simp[gQ]
  refine fi.le (dG:=[(0,.n (.ar (.aK i))),(19,.n (.ar (.aK i))),(1,ax (.M [qO d])),(2,ax (.M [.int .i64 4])),(4,R (4*b:Nat)),(28,bQ.R (gQ d b))]) ?_ (.cons a (.cons a (eJ a ?_)))
  .have K:(e b++[an.loop N0 im w])[i]?=f (.loop N0 im w):=N;rcases dW b z with C|C
   .refine g.yield (h b C o) a a a (N0:=N0) (im:=im) (ba:=w) K a a λ_=>?_;exact a6 [-30] a RB ⟨b+1,by omega,by omega,.cons a (eJ a bu),a⟩
   obtain rfl:b=z:=x;refine g.yield (k o) a a a (N0:=N0) (im:=im) (ba:=w) K a a λ_=>?_;exact a6 [30] a E (g.ret ⟨(),.inl a,(bo o).symm,by grind,[],.Q [],[],a,a,a,v⟩)
  simp only[T.X,T,a',a_];have I:((4*b:Nat):Int).toNat=4*b:=x;have D:(((4*b:Nat):Int)+((min 4 (c d-4*b):Nat):Int)).toNat-((4*b:Nat):Int).toNat=c (gQ d b):=N;refine⟨D,λr s=>?_⟩;rw[D]at s;rw[I];show bQ.a3 (d.getD (4*b+r) bQ.C)=bQ.a3 ((gQ d b).getD r bQ.C);congr 1;simp only[gQ,ak];grind
 obtain rfl:b=z:=x;refine a6 [-9] a bu (g.fF a a ?_);exact⟨(),.inr a,(bl o).symm,by grind,[],.Q [],[],a,a,a,v⟩
def nn(d:Int)(b:ce)(e:m bC)(a:Nat):Bool:=(lZ (di b+a) d (gQ e a)).2&&!(c b.1+a==20)
def mR(b:Nat->Bool):Nat->Nat->Nat
 |0,a=>a
 |d+1,a=>if b a=l then mR b d (a+1)else a
def EC(d:Nat->Bool):∀b a,a<=mR d b a/\mR d b a<=a+b/\(∀e,a<=e->e<mR d b a->d e=l)/\(mR d b a<a+b->d (mR d b a)=u)
 |0,a=>⟨bB _,bB _,λe g h=>absurd g (by simp[mR]at h;omega),λi=>absurd i (by simp[mR])⟩
 |b+1,a=>by obtain⟨g,h,k,j⟩:=EC d b (a+1);rw[mR];grind
def js(b:Int)(g:ce)(d:m bC)(e:Nat):m cb:=(aA e).map λa:Nat=>(lZ (di g+a) b (gQ d a)).1
theorem Dy(h)(b)(d)(j):c (js h b d j)=j:=by simp[js]
def ZO(h)(b)(d)(j):js h b d (j+1)=js h b d j++[(lZ (di b+(j:Nat)) h (gQ d j)).1]:=by simp[js,List.range_succ]
def Le{b}(a:ma b):-4000000<=di b/\di b<=4000001:=by
 unfold di;split
 .omega
 rename_i d;have:=a.aM _ (C8 d (0,[]));omega
def pC(d:Int)(a:ce)(b:Int)(h:m cY):ce×Option bC:=
 let e:=fW d h (eD a.1);let g:=mR (nn d a e) ((c e+3) / 4) 0
 if g<(c e+3) / 4 then(([],[],[]),f [112,97,99,107,115])
 else if 20<cX a then(([],[],[]),f [115,110,97,112,115,104,111,116,115])
 else if c a.2.2=9 then(([],[],[]),f [104,101,97,100,115])
 else((a.1++js d a e g,a.2.1++[fI (cX a) d h],a.2.2++[(b,cX a)]),n)
def TJ:Option bC->E1
 |none=>.ar (.c .bC)
 |some a=>.ar (.c (.b_ 169 (.M [.V a])))
def M7(a:ce×Option bC):y:=.Q [.agg [.c (tx a.1.1),.c (tz a.1.2.1),.c (hZ a.1.2.2)],TJ a.2]
abbrev acs(d:ce)(a:Int)(e:m cY)(b:m bC):bH:=[(2,R a),(3,bx.R e),(4,aH 2 0),(5,aH 3 0),(8,aH 4 0),(9,aH 5 0),(10,aH 9 0),(11,aH 10 0),(12,R (cX d)),(33,ax (.fn (.func 209) [] [.M [qO b],.M [.int .i64 4]]))]
abbrev v9(g e:ao×Y)(i:Int)(b:ce)(h:O)(a:m cb)(d:Int):m an:=ik g e++[.cells 27 [.c (tx b.1),.c (tz b.2.1),.c (hZ b.2.2)],.cells 3 [.c (.int .i64 i)],.cells 27 [cF,cF,cF],.cells 166 [.c h],
 .p 99 2 (c a) (a3.fn a),.p 114 2 (c b.2.1) (bh.fn b.2.1),.J,.cells 27 [.K 6 (.R (c a) 2 0 (c a)),.K 7 (.R (c b.2.1) 2 0 (c b.2.1)),.c (hZ b.2.2)],.cells 3 [.c (.int .i64 d)]]
def MO{q i}{b}{m k}{Z d}{bL a}{o g}(e)(j)(aI:(v9 q i h b m Z bL++[.loop D F o])[e]?=f j):Aq 12 (v9 q i h b k d a++[.loop D F g]) e j:=by
 rcases e with _|_|_|_|_|_|_|_|_|_|_|_|e<;>first
  |(cases aI;exact .inl ⟨_,_,rfl,rfl⟩)
  |(cases aI;exact .inr (.inr (.inl ⟨_,_,_,_,rfl,rfl⟩)))
  |(cases aI;exact .inr (.inr (.inr ⟨by grind,by grind⟩)))
  |simp_all
def Xk(s i)(h)(b)(e)(o)(bW:cA h=l)(z:dK b)(eb:ma b)(C:dP o=l)(P:c (dF b.1)<=100000)(G:kM (eD b.1) (c (eD b.1))=l)(Z:gC b.2.2=l)(aL:e=1∨e=2)(ah:1<=cX b):
  X p 128 [bY b,R h,R e,bx.R o] (ik s i) (M7 (pC h b e o)) (ik s i):=by
 obtain⟨M,q⟩:∃M,M=pC h b e o:=⟨_,rfl⟩;rw[<-q];unfold pC at q;simp only at q;refine(bk.ju (ι:=Unit) (aq:=λ_=>ik s i) (res:=λ_=>M7 M) func128 rfl rfl rfl ?_).toX
 refine dd.seq (b2.bw (g.aU ?_));refine aZ a v (dd.seq (b2.bw (g.aU ?_)));refine aZ a v (g.aC (Js b z.aM z.bl z.a0 z.bn z.aI) [] a (aZ a v (dd.seq (b2.bw (g.aU ?_)))));refine g.bu 8 a a a E (by simp;exact⟨v,v⟩) (aZ a v (g.aC (WI b z eb) [] a (aZ a v (dd.seq (dd.seq (b2.bw (g.aU ?_)))))));generalize al:eD b.1=d at *;have ab:a9 p [(171,ed [a3.R b.1] (a1.R d)),(169,ed [bQ.R (fW h o d),R 4] (ax (.fn (.func 209) [] [.M [qO (fW h o d)],.M [.int .i64 4]])))]:=.cons (eu (al▸Vx b.1 z.aM P)) (.cons (eu (Ub _)) .nil);have aF:c d<=4000000:=by grind[Kj]
 refine g.gg b6 [R h,bx.R o,aH 2 0,a3.R b.1,a1.R d,bQ.R (fW h o d),ax (.fn (.func 209) [] [.M [qO (fW h o d)],.M [.int .i64 4]])] 12 rfl rfl rfl rfl rfl ⟨aK.x,aK.x,aK.x,aK.x,
  aK.eval (bg:=[]) bb ab a a,aK.dV (dA.di (XA s i h o d bW C G aF).tocH [0,1] a a a a a a a bn a bn),aK.eval (bg:=[]) bb ab a a,v⟩ ?_
 refine aZ a v (dd.block ?_);refine dd.bf (acs b e o (fW h o d)) (v9 s i h b .bC (b.1++js h b (fW h o d) 0) (di b+(0:Nat))) a E a ?_ ?_
 .simp[js];exact⟨a,λaB _=>rfl⟩
 have ae:∀B∈fW h o d,cC B=l:=(qP (oN C)).1;have ag:c (fW h o d)<=4000000:=fR (qP (oN C)).2 ca;generalize fW h o d=j at *;obtain⟨au,av,I,ar⟩:=EC (nn h b j) ((c j+3) / 4) 0;have aJ:=z.aM;generalize V:mR (nn h b j) ((c j+3) / 4) 0=k at *;refine dd.jX (o8:=fc [.M [qO j],.M [.int .i64 4]]) (bZ.callee a)
  (Ua (yF:=?aeL) j ag k x (λt=>v9 s i h b .bC (b.1++js h b j t) (di b+(t:Nat))) (v9 s i h b (.b_ 169 (.M [.V [112,97,99,107,115]])) (b.1++js h b j k) (di b+(k:Nat))) (λt=>rfl) (λt=>rfl) a (λt J L=>?Y2) λaI=>?Y3) λaB=>?bW
 case Y3=>
  have Q:=ar x;have S:=Jg (p:=p) s i (di b+(k:Nat)) h (gQ j k) NQ bW (λB F=>ae B (p4 (g0 F))) (by simp[gQ];omega);have af:=Dy h b j k;generalize an:lZ (di b+(k:Nat)) h (gQ j k)=r at *;refine iD.cJ (br:=λ_=>[.cells 99 [.c (.int .i64 r.1.1),.c (.R u 2 (c r.1.2) (bG.fn r.1.2))],.J]) (iD.intro (t:=f .ret) a a a a (g.aU ?_)) ?_ ?_
  .refine aZ a v ⟨a,a,g.aU ?_⟩;refine aZ a v (g.aC S [0,1] a ?_);have aa:c (b.1++js h b j k)=c b.1+k:=N;have D:r.2=l->c b.1+k=20:=λaw=>by simpa[nn,an,aw]using Q
   cases y:r.2 with
   |false=>
    refine a6 [44,49,907] a (by simp[y]) (g.region ?_);refine gV [] 3 a v (g.e4 52 13 a a a ?_);refine aZ a v (g.ret ?_);refine⟨a,a,(),jP a ?_⟩;simp[T.X,T,a',a_];and_intros<;>first|exact bs.same|exact bs.nil|rfl
   |true=>
    have:=D y;refine a6 [-44,49,907] a bD (g.region ?_);refine gV [] 3 a v (g.e4 52 13 a a a ?_);refine aZ a v (g.ret ?_);refine⟨a,a,(),jP a ?_⟩;simp
  .exact λ_=>rfl
  exactλ_=>MO
 case Y2=>
  have aE:=I t (g1 _) J;have S:=Jg (p:=p) s i (di b+(t:Nat)) h (gQ j t) NQ bW (λB F=>ae B (p4 (g0 F))) (by simp[gQ];omega);have af:=Dy h b j t;have W:=ZO h b j t;obtain⟨ao,aD⟩:(lZ (di b+(t:Nat)) h (gQ j t)).2=l/\¬(c b.1)+t=20:=by simpa[nn]using aE
  generalize lZ (di b+(t:Nat)) h (gQ j t)=r at *;have aa:c (b.1++js h b j t)=c b.1+t:=N;have ai:b.1++js h b j (t+1)=(b.1++js h b j t)++[r.1]:=N;generalize b.1++js h b j t=m at *;refine iD.cJ (br:=λ_=>[.cells 99 [.c (.int .i64 r.1.1),.c (.R u 2 (c r.1.2) (bG.fn r.1.2))]]) (iD.intro (t:=n) a a a a (g.aU ?_)) ?_ ?_
  .refine aZ a v ⟨a,a,g.aU ?_⟩;refine aZ a v (g.aC S [0,1] a ?_);have mb:=a3.aX m r.1;have az:=Le eb;refine a6 [-44,-49] a ?_ ?_
   .simp only[T,a8,ao,show nt.bytes=32 from a,aa,eY,d6,fm,a',a_];omega
   refine⟨a,a,(),jP a ?_⟩;have aM:c (m++[r.1])=c m+1:=E;have H:di b+(t:Int)+1=di b+((t+1:Nat):Int):=x;rw[ai,aM,<-H];simp only[T.X,T,a',a_];exact Qt
  .exact λ_=>rfl
  exactλ_=>MO
 case bW=>
  by_cases L:4*k<c j
  .rw[bo L];refine⟨_,a,by simp,.ret,a,?_⟩;rw[bo (show k<(c j+3) / 4 by omega)]at q;subst q;simp only[uM,wc];refine .freeze 8 4 a a a (.freeze 9 5 a a a (.of ⟨(),k0.cells bb [0,1] a ?_ a a a qr⟩));simp
  rw[bl L];refine⟨_,a,by simp,.normal,a,?_⟩;rw[bl (show¬k<(c j+3) / 4 by omega)]at q;show dd p _ _ _ _ _;refine b2.bw (g.aU ?_);by_cases D:20<cX b
  .rw[bo D]at q;subst q;refine a6 [63,911] a bu (g.region ?_);refine gV [] 3 a v (g.e4 66 13 a a a ?_);exact Pu
  rw[bl D]at q;have aj:c b.2.2<=9:=by simp only[gC,cl,bw]at Z;omega
  refine a6 [-63] a bu (g.aC (XB s i (cX b) h o ⟨ah,by omega⟩ bW C) [0,1] a ?_);have mb:=bh.aX b.2.1 (fI (cX b) h o);have aG:=z.a0;refine a6 [914] a ?_ ?_
  .simp only[T,show rI.bytes=32 from a,a',a_];omega
  refine g.region ?_;refine aZ a v (g.aC (Wj b.2.2 (e,cX b) Z (by simp only[hs,cl,bw];omega) aj) [] a ?_);by_cases A:c b.2.2=9
  .rw[bo A]at q;subst q;refine a6 [91,916] a (by simp[A]) (g.region ?_);refine gV [] 3 a v (g.e4 94 14 a a a ?_);exact Pu
  rw[bl A]at q;subst q;simp only[bl A];refine a6 [-91,918] a (by simp[A]) ?_;have af:c (b.1++js h b j k)=c b.1+k:=by grind[Dy]
  generalize b.1++js h b j k=m at *;generalize Y:b.2.1++[fI (cX b) h o]=w at *;have O:c w=c b.2.1+1:=N;generalize U:b.2.2++[(e,cX b)]=K at *;refine g.fV (dG:=[(8,aH 4 0),(9,aH 5 0),(10,aH 9 0)]) (aq:=ik s i++[.cells 27 [.c (tx b.1),.c (tz b.2.1),.c (hZ b.2.2)],.cells 3 [.c (.int .i64 h)],.cells 27 [cF,cF,cF],.cells 166 [.c .bC],.p 99 2 (c m) (a3.fn m),.p 114 2 (c w) (bh.fn w),.J,.cells 27 [.K 6 (.R (c m) 2 0 (c m)),.K 7 (.R (c w) 2 0 (c w)),.c (hZ K)],.cells 3 [.c (.int .i64 (di b+(k:Nat)))],.J,.bd,.cells 114 [.c (.int .i64 (fI (cX b) h o).1),.c (.R u 2 (fI (cX b) h o).2.length (cu.fn (fI (cX b) h o).2))]]) ?_ a ?_ a ?_
  .refine g.bu 6 a a a E E (g.bu 7 a a a E E (aZ a v (g.ret (.freeze 8 4 a a a (.freeze 9 5 a a a (.of ⟨(),k0.cells bb [0,1] a ?_ a a a qr⟩))))));simp[hD]
  .simp
  simp only[T.X,T,O,a',a_];exact Qt
end
structure j3(b:ce):Prop where
 eK:c b.1<=20
 dM:∀S∈b.1,(1<=S.1/\S.1<=99)/\c S.2<=4
 eB:c b.2.1<=21
 c7:∀C∈b.2.1,(1<=C.1/\C.1<=20)/\c C.2<=6/\∀bI∈C.2,c bI.2<=40
 fX:c b.2.2<=9
 fh:∀s∈b.2.2,1<=s.2/\s.2<=20
def sY{a g:Type}{al:a->m g}{j}:∀{d:m a},(∀b∈d,c (al b)<=j)->c (d.flatMap al)<=j*c d
 |[],_=>by simp
 |b::d,e=>by have k:=e b ir;have o:=sY (d:=d) λi h=>e i (mg _ h);grind[Nat.mul_succ]
def wd{a:ef}(d:c a.2<=6/\∀b∈a.2,c b.2<=40):c (d9 a.2)<=240:=by have:=sY (al:=λb:m1=>b.2) (j:=40) d.2;unfold d9;omega
def j3.fR{b:ce}(a:j3 b):nX b:=by
 have i:=a.eK;have k:=a.eB;have j:c (cv b.1)<=4*c b.1:=sY λg d=>by rw[kC];exact(a.dM g d).2
 have m:c (hp b.2.1)<=240*c b.2.1:=sY λh e=>wd (a.c7 h e).2;refine⟨⟨by omega,λh e=>?_,by omega,by omega⟩,λg d=>?_,by omega⟩
 .have:=(a.c7 h e).2;grind
 have:=(a.dM g d).2;omega
def j3.dJ{b}(d:j3 b):dK b:=by have a:=d.fR;have e:=d.fX;exact⟨a.fM,a.cn,a.fc,a.dW,by omega⟩
def j3.ev{b}(e:j3 b):ma b:=
 ⟨λd a=>by have:=(e.dM d a).1;omega,λd a=>by have:=(e.c7 d a).1;omega,λd a=>by have:=e.fh d a;omega⟩
def j3.kk{b}(a:j3 b):c (dF b.1)<=100000:=by
 have e:=a.eK;have:c (R1.dF b.1)<=4*c b.1:=sY λg d=>by rw[kC];exact(a.dM g d).2
 omega
def abZ{e}{Z}(j:(ei h e Z).isSome=l):c e.2<=6/\∀b∈e.2,c b.2<=40:=by
 unfold ei at j;split at j
 .rename_i i;simp only[cl]at i;obtain⟨⟨_,o⟩,k⟩:=i;refine⟨?_,λb m=>?_⟩
  .simp only[dP,cl,bw,fq,kC]at k;omega
  have a:=aY.1 o b m;unfold fM at a;split at a
  .cases a
  rename_i p d;split at a
  .cases a
  rename_i r g;have q:c p=c b.2:=by unfold g4 at d;split at d<;>cases d;simp
  unfold iM at g;split at g
  .rename_i i;simp[cl,gM,fO,bw]at i;grind[vM]
  grind
 grind
def iB.gK{b}(a:iB h b):j3 b:=by
 have k:c b.2.1<=20:=by have:=xl 1 a.cI λe d=>(a.a0 e d).1;omega
 have g:=a.dd;simp[gC,cl,bw,fS]at g;refine⟨a.len,λS i=>⟨(a.cn S i).c1,(a.cn S i).len.2⟩,by omega,λe d=>⟨(a.a0 e d).1,abZ (a.a0 e d).2⟩,g.2,λm j=>?_⟩;have:=(sB (S:=hs) (K:=(0,0))).1 g.1 m j;simp[hs,cl,bw]at this;omega
def YX{d}(b:∀a∈d,-4000000<=a.2/\a.2<=4000000):1<=lQ d:=(s3 d b).1
def abW{b}(a:j3 b):1<=cX b:=by have:=YX a.ev.aI;unfold cX;split<;>omega
def aav{b}(d:j3 b):1<=di b:=by
 unfold di;split
 .omega
 rename_i a;have:=(d.dM _ (C8 a (0,[]))).1;omega
def j3.cN{b}{o}{bR}(g:j3 b)(D:c b.2.1<=20)(m:dP o=l)(q:fz h b o=u):j3 (eE h b bR o):=by
 simp[fz,w5,dp]at q;obtain⟨x,y,f3,f4⟩:=q;have t:=abW g;have E:=aav g;have z:=zI.1 m;unfold eE;refine⟨by grind,λa w=>?_,by grind,λa w=>?_,by grind,λa w=>?_⟩
 .rcases fC.1 w with w|w
  .exact g.dM a w
  obtain⟨i,C,p,e,r,s,v,rfl⟩:=Lj h _ _ _ (qP (h:=h) (d:=eD b.1) (oN m)).1 a w;have e:i<di b+c (km h b o):=e;exact⟨⟨by show 1<=i;omega,by show i<=99;omega⟩,by grind[Z1]⟩
 .rcases fC.1 w with w|w
  .exact g.c7 a w
  rw[gK]at w;subst w;refine⟨⟨t,by show cX b<=20;omega⟩,by show(o.map _).length<=6;grind,λF B=>?_⟩;obtain⟨j,q,rfl⟩:=ho.1 B;have k:=(z.1 j q).2;simp[fO,cl,bw]at k;have A:=vM j.2;show((cm j.2).map _).length<=40;grind
 rcases fC.1 w with w|w
 .exact g.fh a w
 grind
structure ja(b:ce):Prop extends j3 b where
 cG:b.1.Pairwise λS bd=>S.1<bd.1
 cI:b.2.1.Pairwise λC bI=>C.1<bI.1
 fj:∀s∈b.2.2,1<=s.1/\s.1<=2
def ja.nil:ja ([],[],[]):=⟨⟨by simp,by simp,by simp,by simp,by simp,by simp⟩,by simp,by simp,by simp⟩
def ja.dD{b}(a:ja b):oV b:=⟨a.dJ,a.cG,a.ev.ba,a.fj⟩
def ja.j8{b}(a:ja b):c b.2.1<=20:=by have:=xl 1 a.cI λe d=>(a.c7 e d).1;omega
def GR{al:α->Int}{d}(i:d.Pairwise λa b=>al a<al b)(h:c d≠0)(e):∀g∈d,al g<=al (d.getD (c d-1) e):=by grind[List.getElem_of_mem,List.pairwise_iff_getElem]
def ja.cN{h}{b}{o}{bR}(d:ja b)(p:dP o=l)(r:1<=bR/\bR<=2)(m:fz h b o=u):ja (eE h b bR o):=by
 refine⟨d.toj3.cN d.j8 p m,?_,?_,λe a=>?_⟩
 .refine m9.2 ⟨d.cG,Lg h _ _ _,λe a k g=>?_⟩;have q:e.1<di b:=by
   unfold di;split
   .grind
   rename_i i;have:=GR (al:=λj:cb=>j.1) d.cG i (0,[]) e a;omega
  have:=DX h _ _ _ k g;omega
 .refine m9.2 ⟨d.cI,by simp,λe a k g=>?_⟩;rw[gK]at g;subst g;show e.1<cX b;unfold cX;split
  .grind
  rename_i i;have:=GR (al:=λj:ef=>j.1) d.cI i (0,[]) e a;omega
 rcases fC.1 a with a|a
 .exact d.fj e a
 grind
def ja.j'{b}(a:ja b)(e:ef->Bool):ja (b.1,b.2.1.filter e,b.2.2):=
 ⟨⟨a.eK,a.dM,fR (kA _ _) a.eB,λg d=>a.c7 g (jd.1 d).1,a.fX,a.fh⟩,a.cG,a.cI.filter _,a.fj⟩
def ja.step{b}(a:ja b)(bL)(cw):ja (fr bL cw b.1,b.2):=by
 refine⟨⟨?_,λh d=>?_,a.eB,a.c7,a.fX,a.fh⟩,?_,a.cI,a.fj⟩
 .have:c (fr bL cw b.1)<=c b.1:=by unfold fr;grind
  exact fR this a.eK
 .obtain⟨e,q,rfl,_⟩:=MI d;have:=a.dM e q;grind[Dr,yC]
 show (fr bL cw b.1).Pairwise _;unfold fr;refine List.Pairwise.filter _ (ri.2 (a.cG.imp λg=>?_));grind[yC]
structure e_(j:Nat)(M:dQ):Prop where
 ba:ja M.1
 b5:c M.2.1<=j
 cW:c M.2.2<=20
def e_.mono{d}(a:e_ j d)(b:j<=z):e_ z d:=⟨a.ba,fR a.b5 b,a.cW⟩
abbrev kS:dQ:=(([],[],[]),[],[])
def e_.nil{j}:e_ j kS:=⟨ja.nil,by simp,by simp⟩
def j_(e:Int)(a:ce)(d:m Int):dQ×Bool:=
 if h0 e a=l then(((a.1,a.2.1.filter λb=>d.contains b.1,a.2.2),hX (a.2.1.filter λb=>d.contains b.1),a.1.map (·.1)),l)else(kS,u)
def adN{b}(a:j3 b):c (hp b.2.1)<=240*21:=by have g:=a.eB;have h:c (hp b.2.1)<=240*c b.2.1:=sY λe d=>wd (a.c7 e d).2;omega
def e_.iE{b}{Dl}(e:ja b):e_ 6000 (j_ h b Dl).1:=by
 unfold j_;split
 .have d:=e.j' λa=>Dl.contains a.1;refine⟨d,?_,by simp only[kC];exact e.eK⟩;have g:=yG (b.2.1.filter λa=>Dl.contains a.1) _ (bB _);have i:=adN d.toj3;grind
 exact e_.nil
def e_.step{j}{b}(a:e_ j b):e_ j (jw b):=by
 unfold jw;split
 .exact a
 rename_i e g d;refine⟨a.ba.step _ _,a.b5,?_⟩;have:=a.cW;grind
def mM(d:Int)(b:dQ)(a:Int)(e:m cY):dQ:=(eE d b.1 a e,(gF (fI (cX b.1) d e).2).foldl e6 b.2.1,b.2.2)
def qE(b:Int)(e:dQ)(a:Int)(d:m cY):Bool:=hj b e&&decide (1<=a/\a<=2)&&dP d
def e_.cN{h}{j}{a}{o}{bR}(b:e_ j a)(i:dP o=l)(d:1<=bR/\bR<=2)(g:fz h a.1 o=u):e_ (j+240) (mM h a bR o):=by have e:=b.ba.cN i d g;refine⟨e,?_,b.cW⟩;have k:=qs a.2.1 (gF (fI (cX a.1) h o).2);have m:=ti (fI (cX a.1) h o).2;have q:=wd (e.c7 (fI (cX a.1) h o) (by simp[eE])).2;have p:=b.b5;show((gF _).foldl e6 a.2.1).length<=_;omega
def e_.j6{a}(b:e_ j a):pZ a.1:=b.ba.fR.topZ
def e1(b:m (Int×Int)):Int:=b.foldl (λd a=>64*d+21*a.1+a.2) 0
def gm(a:Int×Int)(b:m (Int×Int)):(Int×Int)×Int:=
 if gC b=l/\a.1<=c b/\0<=a.1 then
  if e1 (b.take a.1.toNat)=a.2 then(((c b:Int),e1 b),0)else(a,2)
 else(a,1)
def EF{b:m (Int×Int)}(e:∀d∈b,(1<=d.1/\d.1<=2)/\1<=d.2/\d.2<=20):∀a,0<=e1 (b.take a)/\e1 (b.take a)<((64 ^ a:Nat):Int)
 |0=>by simp[e1]
 |a+1=>by
  have h:=EF e a;by_cases g:a<c b
  .have i:e1 (b.take (a+1))=64*e1 (b.take a)+21*(b.getD a (0,0)).1+(b.getD a (0,0)).2:=by unfold e1;grind[ih]
   grind
  grind[List.take_of_length_le]
def Dw{d}(b:gC d=l):(∀a∈d,(1<=a.1/\a.1<=2)/\1<=a.2/\a.2<=20)/\c d<=9:=by simp only[gC,cl,bw,fS]at b;refine⟨λa e=>?_,b.2⟩;have:=(sB (S:=hs) (K:=(0,0))).1 b.1 a e;simpa only[hs,cl,bw]using this
def v8{d}(g:∀a∈d,(1<=a.1/\a.1<=2)/\1<=a.2/\a.2<=20)(h:c d<=9)(e):0<=e1 (d.take e)/\e1 (d.take e)<18014398509481984:=by
 rcases Nat.le_total e 9 with b|b
 .have i:=EF g e;have:64 ^ e<=64 ^ 9:=AR x b;grind
 rw[Gr x];have i:=EF g (c d);rw[c9]at i;have:64 ^ c d<=64 ^ 9:=AR x h;grind
abbrev SV:m (Nat×bJ):=[(108,BO)]
def XE(h)(b)(A:nX b):X (af.aD V) 119 [bY b,R h] [] (bi ((aA (c b.2.1)).all (lo h b))) []:=by
 refine X.I func119 rfl λM=>?_;have J:=A.fc;have F:=A.dW;have i:a9 (af.aD V) SV:=.cons M3 .nil;refine b9 i a v (g.aL 1 (λe=>e<=c b.2.1/\∀w,w<e->lo h b w=l) (λe:Nat=>[(1,R h),(2,aH 0 0),(10,bh.R b.2.1),(11,R (c b.2.1)),(12,R e)]) (λ_=>[zn b]) (λe=>c b.2.1-e) 0 a E a E a ⟨by omega,by omega⟩ ?_);rintro e ⟨C,o⟩;by_cases s:e<c b.2.1
 .have j:b.2.1.getD e bh.C=b.2.1.getD e (0,[]):=rfl;have r:b.2.1.getD (e-1) bh.C=b.2.1.getD (e-1) (0,[]):=rfl;have k:lo h b e=(decide (1<=(b.2.1.getD e (0,[])).1/\(b.2.1.getD e (0,[])).1<=20)&&j9 (·.1) (0,[]) b.2.1 e&&(ei h (b.2.1.getD e (0,[])) b.1).isSome):=rfl;have D:=qc (al:=λm:ef=>m.1) (K:=(0,[])) (d:=b.2.1) (e:=e);have B:=F _ (oj (K:=(0,[])) s);generalize b.2.1.getD e (0,[])=m at *;generalize b.2.1.getD (e-1) (0,[])=t at *;by_cases p:1<=m.1
  rotate_left
  .refine a7 i [13,20,25,40] a ?_ (g.aW (bX.zero a ?_))
   .simp[-ak,j];omega
   exact jZ
  by_cases q:m.1<=20
  rotate_left
  .refine a7 i [13,-20,25,40] a ?_ (g.aW (bX.zero a ?_))
   .simp[-ak,j];omega
   exact jZ
  rw[fo ⟨p,q⟩,fx]at k;by_cases y:e=0
  .subst y;rw[show j9 (·.1) (0,[]) b.2.1 0=l from a,fx]at k;cases z:(ei h m b.1).isSome with
   |false=>
    refine a7 i [13,-20,-25,-27,-40,50] a OA (g.aW (bX.zero a ?_));rw[kD s (k.trans z)];simp
   |true=>
    refine a7 i [13,-20,-25,-27,-40,-50] a ?_ (g.aA 1 a E E ⟨s,iI o (k.trans z)⟩ x);exact OA
  rw[D y]at k;by_cases I:t.1<m.1
  rotate_left
  .refine a7 i [13,-20,-25,28,38,40] a ?_ (g.aW (bX.zero a ?_))
   .simp[-ak,j,r,a8];omega
   exact jZ
  rw[fo I,fx]at k;cases z:(ei h m b.1).isSome with
  |false=>
   refine a7 i [13,-20,-25,28,-38,-40,50] a QZ (g.aW (bX.zero a ?_));rw[kD s (k.trans z)];simp
  |true=>
   refine a7 i [13,-20,-25,28,-38,-40,-50] a ?_ (g.aA (e+1) a E E ⟨s,iI o (k.trans z)⟩ x);exact QZ
 obtain rfl:e=c b.2.1:=x;rw[fS.2 o];refine a7 i [-13] a E (g.aB ?_);exact b9 i a v (g.aw a)
def acn(h)(b):h0 h b=(cA h&&tm h b&&(aA (c b.2.1)).all (lo h b)&&gC b.2.2):=by unfold h0 tm;cases(aA (c b.1)).all (nG h b.1)<;>cases decide (cv b.1).Nodup<;>cases(aA (c b.2.1)).all (lo h b)<;>cases cA h<;>cases gC b.2.2<;>cases decide (c b.1<=20)<;>rfl
abbrev SP:bJ:=ev o6 c6 (λb a=>bi (tm a b)) λb a=>[cA a=l,nX b]
abbrev ST:bJ:=ev o6 c6 (λa b=>bi ((aA (c a.2.1)).all (lo b a))) λa _=>[nX a]
def XN(h)(b)(al:nX b):X (af.aD V) 72 [R h,bY b] [] (bi (h0 h b)) []:=by
 refine X.I func72 rfl λj=>?_;have d:a9 (af.aD V) [(117,HO),(55,df c6 (λh=>bi (cA h)) λ_=>[]),(118,SP),(119,ST),(102,n8)]:=.cons adB (.cons pJ (.cons (.bk λb h e=>WW h b e.1 e.2) (.cons (.bk λb h e=>XE h b e) (.cons tJ .nil))));have i:=a3.l b.1;have q:=bh.l b.2.1;have w:=a1.l b.2.2;rw[acn];cases bW:cA h
 .exact a7 d [-10,-15,-20] a (by simp[bW,i,q,w,a3.T,bh.T,a1.T]) (g.aw a)
 cases aj:tm h b
 .exact a7 d [10,-15,-20] a (by simp[bW,i,q,w,a3.T,bh.T,a1.T,al,aj]) (g.aw a)
 cases B:(aA (c b.2.1)).all (lo h b)
 .exact a7 d [10,15,-20] a Ql (g.aw a)
 exact a7 d [10,15,20] a Ql (g.aw a oT)
abbrev xI:bJ:=ev c6 o6 (λb a=>bi (h0 b a)) λ_ a=>[nX a]
def ER:bK (af.aD V) 72 xI:=.bk λb d a=>XN b d a
abbrev kX(b a:ao×Y):m an:=ik b a++[Au]
def qz(d:Int)(b:ce)(a:Int)(e:m cY):ce×Bool:=
 if h0 d b=l/\(a=1∨a=2)/\dP e=l then(match(pC d b a e).2 with|none=>((pC d b a e).1,l)|some _=>(b,u))else(([],[],[]),u)
structure Gk(h:Int)(b:ce):Prop where
 kv:cA h=l
 sp:c (dF b.1)<=100000
 ky:kM (eD b.1) (c (eD b.1))=l
 dd:gC b.2.2=l
 a0:1<=cX b
def pd:∀a,a<3->([0,1,2]:m Nat)[a]?=f a:=ca
def TV{b:af V}(aa):X b 129 [ax .bC,ob aa] [] (bi u) []:=by refine X.I func129 rfl λd=>?_;refine aZ a v ?_;refine g.aN (DJ a underlying166 a a a) a a ?_;exact a6 [9] a E (g.aw a)
def XP(w t)(h)(b)(i)(o)(q:dK b)(ba:nX b)(F:ma b)(G:a8 .i64 i)(M:h0 h b=l->Gk h b):
  X (af.aD V) 85 [R h,bY b,R i,bx.R o] (kX w t) (M5 (qz h b i o).1 (qz h b i o).2) (kX w t):=by
 refine X.bc bb func85 rfl rfl rfl λH=>?_;have k:a9 (af.aD V) [(72,xI),(43,rq)]:=.cons ER (.cons wa .nil);by_cases e:h0 h b=l
 .by_cases d:i=1∨i=2
  .by_cases j:dP o=l
   .have m:qz h b i o=(match(pC h b i o).2 with|none=>((pC h b i o).1,l)|some _=>(b,u)):=bo ⟨e,d,j⟩;rw[m];obtain⟨O,C,y,D,Q⟩:=M e;have B:=Xk (p:=af.aD V) w t h b i o O q F j C y D d Q;apply g.cd [(0,R h),(2,R i),(3,bx.R o),(5,aH 3 0),(8,aH 4 0)] (kX w t++[.cells 27 [.c (tx b.1),.c (tz b.2.1),.c (hZ b.2.2)],.cells 27 [cF,cF,cF]])
    .intro dx;rcases d with rfl|rfl
     .refine bf k [-17,-20,-25,-29,903] a Pw (dx _ _ a ?_);simp
     refine bf k [-17,20,-25,-29,903] a Pw (dx _ _ a ?_);simp
    have K:∀z:Y,X (af.aD V) 129 [ax .bC,ob z] [] (bi u) []:=λz=>TV z;generalize pC h b i o=J at *;obtain⟨W,S⟩:=J;cases S with
    |none=>
     have x:=B;refine cM k a v (g.aC x [0,1] a (bf k [905] a v (g.hQ 12 6 a a λA=>?_)));refine cM k a v (g.g8 40 a ?_);exact g.aC (K _) [] a (bf k [-41] a E nN)
    |some U=>
     have x:=B;refine cM k a v (g.aC x [0,1] a (bf k [905] a v (g.hQ 12 6 a a λA=>?_)));refine g.iX 11 a λI=>?_;refine cM k a v (g.g8 40 a ?_);refine g.aC (TT I A) [2,6] a (bf k [41] a E (g.aC (pb b q.aM q.bl q.a0 q.bn q.aI) [] a (pB k [] 2 a v (g.hT ?_))));exact g.bu 7 a a a E E (g.bu 8 a a a E E PL)
   have m:qz h b i o=(([],[],[]),u):=bl λs=>j s.2.2;rw[m];have r:dP o=u:=N;rcases d with rfl|rfl
   .exact bf k [-17,-20,-25,29] a QV nN
   exact bf k [-17,20,-25,29] a QV nN
  have m:qz h b i o=(([],[],[]),u):=bl λs=>d s.2.1;rw[m];exact bf k [-17,20,25,29] a bD nN
 have m:qz h b i o=(([],[],[]),u):=bl λs=>e s.1;rw[m];refine bf k [17,25,29] a ?_ ?_
 .simp only[T,a3.l,bh.l,a1.l];and_intros<;>first|rfl|exact True.intro|exact a3.T _|exact bh.T _|exact a1.T _|exact ba|grind
 exact nN
section
variable {p:af V}
def Up(b)(d:dK b):X p 70 [bY b] [] (bY b) []:=by refine(qo b d.aM d.bl d.a0 d.bn d.aI).bZ a ?_ a;simp
abbrev BG:bJ:=df o6 (λa=>bY a) λa=>[dK a]
def MU:bK p 70 BG:=.a9 λb a=>Up b a
def IW(b)(e:dK b.1)(i:c b.2.1<=4000000)(k:c b.2.2<=4000000):X p 41 [gz b] [] (.n (.agg [cK a3 b.1.1,cK bh b.1.2.1,cK a1 b.1.2.2,cK aC b.2.1,.w 0 1 (c b.2.2) (aC.fn b.2.2)])) [.w 3 1 (c b.2.2) (aC.fn b.2.2)]:=by
 refine X.bc bb func41 rfl rfl rfl λj=>?_;have h:a9 p [(70,BG)]:=.cons MU .nil;refine bf h [2000009] a ?_ ?_
 .simp only[T,a3.l,a3.T,bh.l,bh.T,a1.l,a1.T,e,a',a_,show ee.bytes=8 from a,lA];exact fA
 refine g.bf [gu b,.cells 30 [cK a3 b.1.1,cK bh b.1.2.1,cK a1 b.1.2.2,cK aC b.2.1,.w 2 1 (c b.2.2) (aC.fn b.2.2)],.w 3 1 (c b.2.2) (aC.fn b.2.2)] a ?_ ?_
 .simp[a3.l,bh.l,a1.l,o7]
 refine g.bh () [2] ?_ (λm d=>absurd d E);simp
def Ur(b)(d:dK b.1)(e:c b.2.1<=4000000)(g:c b.2.2<=4000000):X p 41 [gz b] [] (gz b) []:=
 (IW b d e g).bZ a E a
abbrev xA:bJ:=df (AF CP) (λa=>gz a) λa=>[dK a.1,c a.2.1<=4000000,c a.2.2<=4000000]
def EL:bK p 41 xA:=.a9 λb a=>Ur b a.1 a.2.1 a.2.2
abbrev Kx(b:cb)(a:m cZ):m an:=[xC b,.cells 99 [.c (.int .i64 0),cF],.cells 99 [.c (.int .i64 b.1),.w 3 2 (c a) (bG.fn a)],.w 139 2 (c a) (bG.fn a)]
def CX{d}{a:α->Bool}(g:e<c d)(b):(d.take (e+1)).filter a=if a (d.getD e b)=l then(d.take e).filter a++[d.getD e b]else(d.take e).filter a:=by rw[ih g b,List.filter_append,ss];split<;>simp
def CW(d)(a:α->Bool)(b:e<=c d):c ((d.take e).filter a)<=e:=fR (kA _ _) bT
def V2(S)(b)(B:c S.2<=4000000):X p 71 [fL S,aC.R b] [] (fL (hF S b)) []:=by
 refine X.bc bb func71 rfl rfl rfl λo=>?_;have i:a9 p [(53,uS)]:=.cons zx .nil;refine bf i [902] a v (g.ck 2 1 139 2 (bG.fn []) a a ?_);refine b9 i a v ?_;refine g.aL 4 (λe=>e<=c S.2) (λe:Nat=>[(1,aC.R b),(2,aH 0 0),(4,aH 1 0),(5,aH 2 0),(6,R e)])
  (λe=>Kx S ((S.2.take e).filter λd=>b.contains d.1)) (λe=>c S.2-e) 0 a E a E a x ?_
 intro e j;have m:=CW S.2 (λd=>b.contains d.1) j;by_cases s:e<c S.2
 .have K:S.2.getD e bG.C=d8 S e:=rfl;have q:(S.2.take (e+1)).filter (λd=>b.contains d.1)=if b.contains (d8 S e).1=l then(S.2.take e).filter (λd=>b.contains d.1)++[d8 S e]else(S.2.take e).filter (λd=>b.contains d.1):=CX s (0,[]);generalize(S.2.take e).filter (λd=>b.contains d.1)=k at *;generalize d8 S e=d at *;cases al:b.contains d.1 with
  |true=>
   rw[bo al]at q;have B:=bG.aX k d;refine bf i [15,25] a PF (g.aA (e+1) a E ?_ s x);exact PD
  |false=>
   rw[bl du]at q;refine bf i [15,-25] a P5 (g.aA (e+1) a E ?_ s x);simp_all
 exact PG
abbrev Hx:bJ:=ev (jC bG) (e' aC) (λb a=>fL (hF b a)) λb _=>[c b.2<=4000000]
def adh:bK p 71 Hx:=.bk λd a b=>V2 d a b
abbrev jX(b:dQ)(a:Bool):y:=.Q [.agg (v_ b),.ar (.c (.bool a))]
abbrev l5:m Q:=[cF,cF,cF,cF,cF]
def stepT(b:Int)(a:m Int)(d:m cb)(e:Nat):m cb:=fr b a (d.take e)
def ack{bL}{cw}{Z}(a:e<c Z):stepT bL cw Z (e+1)=if(iX bL cw (Z.getD e (0,[]))).2.length=0 then stepT bL cw Z e else stepT bL cw Z e++[iX bL cw (Z.getD e (0,[]))]:=by unfold stepT fr;rw[ih a (0,[]),List.map_append,List.filter_append,List.map_singleton];grind
def acj(bL)(cw)(Z)(a:e<=c Z):c (stepT bL cw Z e)<=e:=by unfold stepT fr;grind
def XJ(b)(j:dK b.1)(e:c b.2.1<=4000000)(i:b.2.2=[]):X p 40 [gz b] [] (jX b u) []:=by refine X.bx func40 rfl rfl rfl λh=>?_;have d:a9 p [(41,xA)]:=.cons EL .nil;refine bf d [13] a bD ?_;refine g.freeze 2 1 a a a ?_;refine g.b9 bb [] a ?_ a a a fy;simp[a3.l,bh.l,a1.l,aC.l]
abbrev aco(b:ce)(a:m Int)(e:m Int)(d:m cb):m an:=[gu (b,a,e),.cells 30 l5,gu (b,a,e),.w 99 2 (c d) (a3.fn d)]
def _root_.Go.AM.c1.jf(a:c1 α)(g)(d)(h:j=c d):bs j (fF 1 (a.fn (g::d))) (a.fn d):=by intro e b;simp only[fF,c1.fn,gG,ak,Nat.add_comm 1 e,n3]
def XK(b)(cw k)(bL)(w)(F:k=bL::w)(y:dK b)(J:c cw<=4000000)(I:c k<=4000000):X p 40 [gz (b,cw,k)] [] (jX ((fr bL cw b.1,b.2),cw,w) l) []:=by
 refine X.bx func40 rfl rfl rfl λQ=>?_;have m:a9 p [(41,xA),(71,Hx)]:=.cons EL (.cons adh .nil);have M:0<c k:=du;refine bf m [-13,905] a ?_ ?_
 .simp only[T,a3.l,a3.T,bh.l,bh.T,a1.l,a1.T,aC.l,aC.T,y,J,I,a',a_,eY,d6];omega
 refine g.bK 5 99 2 a a ?_;refine cM m a v ?_;have N:=y.aM;refine g.aL 4 (λe=>e<=c b.1) (λe:Nat=>[(1,aH 0 0),(2,aH 1 0),(4,aH 2 0),(5,.n (.ar (.w 3 2 (c (stepT bL cw b.1 e)) (a3.fn (stepT bL cw b.1 e))))),(6,R e)])
  (λe=>aco b cw k (stepT bL cw b.1 e)) (λe=>c b.1-e) 0 a ?_ a ?_ a x ?_
 .simp[stepT,fr]
 .simp[stepT,fr,a3.l,bh.l,a1.l,aC.l]
 intro e t;by_cases o:e<c b.1
 .have K:b.1.getD e a3.C=b.1.getD e (0,[]):=rfl;have A:=y.bl _ (mw o (0,[]));have i:=ack (bL:=bL) (cw:=cw) o;have O:=acj bL cw b.1 t;have s:k.getD (Int.toNat 0) aC.C=bL:=bD;generalize stepT bL cw b.1 e=z at *;generalize b.1.getD e (0,[])=h at *;by_cases j:h.1=bL
  .have B:iX bL cw h=hF h cw:=by unfold iX;exact bu
   rw[B]at i;have d:=a3.aX z (hF h cw);have S:(hF h cw).2.length<=c h.2:=kA _ _;have q:(h.1,h.2)=h:=rfl;by_cases r:(hF h cw).2.length=0
   .rw[bo r]at i;refine bf m [21,36,-44] a ?_ (g.aA (e+1) a ?_ ?_ o x)
    .simp only[T,c5,K,s,q,A,bG.l,bG.T,aC.l,aC.T,a8,bw,dp,gM,a',a_];exact zX
    .rw[i];simp
    rw[i];simp
   rw[bl r]at i;refine bf m [21,36,44] a ?_ (g.aA (e+1) a ?_ ?_ o x)
   .simp only[T,c5,K,s,q,A,bG.l,bG.T,aC.l,aC.T,a8,show nt.bytes=32 from a,bw,dp,gM,a',a_];exact zX
   .exact P1
   exact P1
  have B:iX bL cw h=h:=by unfold iX;exact bu
  rw[B]at i;have d:=a3.aX z h;by_cases r:c h.2=0
  .rw[bo r]at i;refine bf m [21,-36,-44] a ?_ (g.aA (e+1) a ?_ ?_ o x)
   .simp only[T,c5,K,s,a8,bw,dp,eY,d6,a',a_];exact zX
   .rw[i];simp
   rw[i];simp
  rw[bl r]at i;refine bf m [21,-36,44] a ?_ (g.aA (e+1) a ?_ ?_ o x)
  .simp only[T,c5,K,s,a8,show nt.bytes=32 from a,bw,dp,eY,d6,a',a_];exact zX
  .exact PJ
  exact PJ
 obtain rfl:e=c b.1:=x;have D:stepT bL cw b.1 (c b.1)=fr bL cw b.1:=by unfold stepT;simp
 rw[D];refine bf m [-21] a E (g.aB ?_);refine cM m a bu (g.freeze 2 1 a a a ?_);refine g.b9 bb [] a ?_ a a a fy;have C:=aC.jf bL w a;rw[<-F]at C;simp only[T.X,T,bV,a',a_];and_intros<;>first|exact bs.same|exact C|simp_all|grind|rfl
def qw(a:dQ):Bool:=!a.2.2.isEmpty
def XI(a)(g:dK a.1)(h:c a.2.1<=4000000)(k:c a.2.2<=4000000):X p 40 [gz a] [] (jX (jw a) (qw a)) []:=by
 obtain⟨e,b,j⟩:=a;cases j with
 |nil=>exact XJ (e,b,[]) g h rfl
 |cons d i=>exact XK e b (d::i) d i rfl g h k
abbrev GV(d:ce)(a:m ef)(b:m Int):m an:=[jV d,.cells 30 l5,.cells 30 [cK a3 d.1,.w 4 2 (c a) (bh.fn a),cK a1 d.2.2,cF,.w 5 1 (c b) (aC.fn b)],jV d,.w 114 2 (c a) (bh.fn a),.w 3 1 (c b) (aC.fn b)]
def map_take{b:Type}{d}{al:α->b}(g:e<c d)(a):(d.take (e+1)).map al=(d.take e).map al++[al (d.getD e a)]:=by rw[ih g a,List.map_append];rfl
def GC(d)(a:ef->Bool):c (hp (d.filter a))<=c (hp d):=by
 induction d with
 |nil=>simp
 |cons e d b=>
  unfold hp at *;grind
def T4(h)(b)(i)(o:dK b)(z:pZ b):X p 39 [R h,bY b,aC.R i] [] (jX (j_ h b i).1 (j_ h b i).2) []:=by
 refine X.bx func39 rfl rfl rfl λN=>?_;have k:a9 p [(54,BQ),(70,BG),(53,uS),(52,BI)]:=.cons M6 (.cons MU (.cons zx (.cons MX .nil)));have M:=o.aM;have F:=o.a0;unfold j_;cases s:h0 h b with
 |false=>
  refine bf k [15] a ?_ ?_
  .simp only[T,a3.l,a3.T,bh.l,bh.T,a1.l,a1.T,s,o.aM,o.a0,a',a_,hK];exact z.dW
  refine g.freeze 6 1 a a a ?_;exact QI
 |true=>
 rw[bo a];refine bf k [-15,906] a ?_ ?_
 .simp only[T,a3.l,a3.T,bh.l,bh.T,a1.l,a1.T,s,o.aM,o.a0,o,a',a_,fm];exact z.dW
 refine g.ck 2 1 114 2 (bh.fn []) a a ?_;refine g.ck 2 4 3 1 (aC.fn []) a a ?_;refine cM k a v ?_;refine g.aL 6 (λe=>e<=c b.2.1) (λe:Nat=>[(2,aC.R i),(4,aH 0 0),(6,aH 1 0),(8,aH 2 0),(9,aH 3 0),(10,R e)])
  (λe=>GV b ((b.2.1.take e).filter λj=>i.contains j.1) []) (λe=>c b.2.1-e) 0 a ?_ a ?_ a x ?_
 .simp
 .simp[a3.l,bh.l,a1.l]
 intro e r;have C:=CW b.2.1 (λj=>i.contains j.1) r;by_cases m:e<c b.2.1
 .have t:b.2.1.getD e bh.C=b.2.1.getD e (0,[]):=rfl;have q:(b.2.1.take (e+1)).filter (λj=>i.contains j.1)=if i.contains (b.2.1.getD e (0,[])).1=l then(b.2.1.take e).filter (λj=>i.contains j.1)++[b.2.1.getD e (0,[])]else(b.2.1.take e).filter (λj=>i.contains j.1):=CX m (0,[]);generalize(b.2.1.take e).filter (λj=>i.contains j.1)=y at *;generalize b.2.1.getD e (0,[])=j at *;cases A:i.contains j.1 with
  |true=>
   rw[bo A]at q;have d:=bh.aX y j;refine bf k [30,40] a ?_ (g.aA (e+1) a E ?_ m x)
   .simp[-ak,-List.contains_eq_mem,t,m,A,aC.l,aC.T,a8,show rI.bytes=32 from a];omega
   exact QW
  |false=>
   rw[bl du]at q;refine bf k [30,-40] a ?_ (g.aA (e+1) a E ?_ m x)
   .simp[-ak,-List.contains_eq_mem,t,m,A,aC.l,aC.T,a8];omega
   simp_all
 obtain rfl:e=c b.2.1:=x;rw[c9]at C⊢;have D:=GC b.2.1 λj=>i.contains j.1;have I:kr (b.1,b.2.1.filter (λj=>i.contains j.1),b.2.2):=λj d=>o.bn j (jd.1 d).1;have J:=z.eC;generalize b.2.1.filter (λj=>i.contains j.1)=B at *;refine bf k [-30] a E (g.aB ?_);refine cM k a v ?_;refine g.aL 6 (λe=>e<=c b.1) (λe:Nat=>[(2,aC.R i),(4,aH 0 0),(6,aH 1 0),(8,aH 2 0),(11,R e)])
  (λe=>GV b B ((b.1.take e).map (·.1))) (λe=>c b.1-e) 0 a E a E a x ?_
 intro e r;have K:c ((b.1.take e).map (·.1))=e:=bT;by_cases m:e<c b.1
 .have t:b.1.getD e a3.C=b.1.getD e (0,[]):=rfl;have q:=map_take (al:=λw:cb=>w.1) m (0,[]);generalize(b.1.take e).map (λw:cb=>w.1)=y at *;generalize b.1.getD e (0,[])=w at *;have d:=aC.aX y w.1;refine bf k [57] a ?_ (g.aA (e+1) a E ?_ m x)
  .simp[-ak,t,m,a8,show ee.bytes=8 from a];omega
  exact QW
 obtain rfl:e=c b.1:=x;rw[c9];refine bf k [-57] a E (g.aB ?_);refine cM k a bD (g.freeze 8 2 a a a ?_);refine g.freeze 6 1 a a a ?_;refine g.b9 bb [] a ?_ a a a fy;simp[bh.l]
abbrev Hf:bJ:=kb c6 o6 (e' aC) (λd a b=>jX (j_ d a b).1 (j_ d a b).2) λ_ a _=>[dK a,pZ a]
def acT:bK p 39 Hf:=.c5 λd e b a=>T4 d e b a.1 a.2
def rH(a:dO)(b:cb):cb:=if b.1=a.2.1/\0<=a.2.2.1/\a.2.2.1<c b.2 then(b.1,gU b.2 a.2.2.1.toNat a.2.2.2)else b
def kl(a:ce)(b:dO):ce:=
 if b.1=1 then(a.1.filter λd=>!(d.1==b.2.1),a.2.1,a.2.2)
 else if b.1=2 then(if b.2.1<0∨b.2.1>c a.2.2 then a else(a.1,a.2.1.filter λd=>!jr b.2.1.toNat a.2.2 d,a.2.2.take b.2.1.toNat))
 else if b.1=3 then(a.1.map (rH b),a.2)
 else if b.1=4 then(if 0<=b.2.1/\b.2.1<c a.2.2 then(a.1,a.2.1,a.2.2.set b.2.1.toNat (3-(a.2.2.getD b.2.1.toNat (0,0)).1,(a.2.2.getD b.2.1.toNat (0,0)).2))else a)
 else a
def J9{b}{d}(e:pV b d):b.1.map (rH d)=b.1:=by apply rl E;intro g h a;rw[List.getElem_map];have:=e g a;rw[ak,bF a,h5]at this;exact bl this
def J8{b}{d}{i0}(a:se b d i0 z):b.1.map (rH d)=(g8 b d i0 z).1:=by
 have m:=a.a8;apply p';intro e;have j:(g8 b d i0 z).1=b.1.set i0 ((b.1.getD i0 (0,[])).1,gU (b.1.getD i0 (0,[])).2 z d.2.2.2):=rfl;rw[j,m_];by_cases h:e<c b.1
 .have q:b.1[e]?=f (b.1.getD e (0,[])):=N;by_cases g:e=i0
  .subst g;rw[ip h,q];have o:=a.gw;have i:=a.bS;simp only[lC,rH];rw[bo ⟨a.c1,by omega,by omega⟩,i,c5]
  rw[kB (λa=>g a.symm),q];simp only[lC,rH];rw[bl (λk=>a.b1 e h g k.1)]
 grind
structure R3(p:af V)(b:ce)(d:dO)(az:ce):Prop where
 d_:dK az
 cD:X p 69 [bY b,ep d] [] (bY az) []
def rZ{b}(k:oV b)(d):R3 p b d (kl b d):=by
 have a:=k.size;have C:=a.aI;unfold kl;by_cases m:d.1=1
 .rw[bo m];exact⟨⟨fR (kA _ _) a.aM,λs g=>a.bl s (jd.1 g).1,a.a0,a.bn,a.aI⟩,Xm b d a m⟩
 rw[bl m];by_cases h:d.1=2
 .rw[bo h];by_cases e:d.2.1<0∨d.2.1>c b.2.2
  .rw[bo e];exact⟨a,Jp b d b a h (TY b d.2.1 a.aI e)⟩
  rw[bl e];have o:d.2.1=(d.2.1.toNat:Nat):=x;have t:=TZ (p:=p) b d.2.1.toNat x a.a0 k.num a.aI;rw[<-o]at t;refine⟨⟨a.aM,a.bl,fR (kA _ _) a.a0,λB A=>a.bn B (jd.1 A).1,?_⟩,Jp b d _ a h t⟩;simp;omega
 rw[bl h];by_cases e:d.1=3
 .rw[bo e];rcases J_ k d with⟨i0,z,q⟩|o
  .have r:(b.1.map (rH d),b.2)=g8 b d i0 z:=by rw[J8 q]
   rw[r];refine⟨⟨by simpa using a.aM,λs g=>?_,a.a0,a.bn,a.aI⟩,Xn b d a e i0 z q⟩;rcases AK g with g|rfl
   .exact a.bl s g
   simpa[gU]using a.bl _ (vd q.a8)
  rw[J9 o];exact⟨a,Xt b d a e o⟩
 rw[bl e];by_cases i:d.1=4
 .rw[bo i];by_cases j:0<=d.2.1/\d.2.1<c b.2.2
  .rw[bo j];have w:(b.2.2.getD (0+d.2.1.toNat) a1.C)∈b.2.2:=N;have t:=k.aI _ w;have y:a8 .i64 (3-lq b d):=Rr;have v:=Xp (p:=p) b d a i j.1 j.2 y;have r:b.2.2.set (0+d.2.1.toNat) (3-lq b d,(b.2.2.getD (0+d.2.1.toNat) a1.C).2)=b.2.2.set d.2.1.toNat (3-(b.2.2.getD d.2.1.toNat (0,0)).1,(b.2.2.getD d.2.1.toNat (0,0)).2):=N;rw[r]at v;exact⟨⟨a.aM,a.bl,a.a0,a.bn,by simpa using a.aI⟩,v⟩
  rw[bl j];exact⟨a,Xq b d a i j⟩
 rw[bl i];exact⟨a,Xs b d a m h e i⟩
def Dj{b}(m:oV b)(d):X p 58 [bY b,ep d] [] (bY (kl b d)) []:=by
 have e:=m.size;have v:=e.aI;unfold kl;by_cases j:d.1=1
 .rw[bo j];exact V8 b d e j
 rw[bl j];by_cases g:d.1=2
 .rw[bo g];by_cases a:d.2.1<0∨d.2.1>c b.2.2
  .rw[bo a];exact CF (Wa b d e g a)
  rw[bl a];have k:d.2.1=(d.2.1.toNat:Nat):=x;exact V_ b d e g d.2.1.toNat k x
 rw[bl g];by_cases a:d.1=3
 .rw[bo a];rcases J_ m d with⟨i0,z,o⟩|k
  .have q:(b.1.map (rH d),b.2)=g8 b d i0 z:=by rw[J8 o]
   rw[q];exact Wb b d e a i0 z o
  rw[J9 k];exact Wd b d e a k
 rw[bl a];by_cases h:d.1=4
 .rw[bo h];by_cases i:0<=d.2.1/\d.2.1<c b.2.2
  .rw[bo i];have r:(b.2.2.getD (0+d.2.1.toNat) a1.C)∈b.2.2:=N;have w:=m.aI _ r;have s:a8 .i64 (3-lq b d):=Rr;have t:=Wg (p:=p) b d e h i.1 i.2 s;grind
  rw[bl i];exact Wf b d e h i
 rw[bl h];exact CF (Wh b d e j g a h)
def SE{d:ce}(b:oV d)(a:dO):RM p d a (kl d a):=⟨(rZ (p:=p) b a).d_,Dj b a,(rZ b a).cD⟩
structure m2(d:m (Int×Int)):Prop where
 aI:∀C∈d,(1<=C.1/\C.1<=2)/\1<=C.2/\C.2<=20
 cy:c d<=9
theorem m2.of{d}(a:gC d=l):m2 d:=⟨(Dw a).1,(Dw a).2⟩
def m2.take{d}(a:m2 d)(e):m2 (d.take e):=⟨λg b=>a.aI g (g0 b),by have:=a.cy;rw[List.length_take];omega⟩
def MN{d}(a:e<c d):e1 (d.take (e+1))=64*e1 (d.take e)+21*(d.getD e (0,0)).1+(d.getD e (0,0)).2:=by unfold e1;rw[ih a (0,0),ux];rfl
def XT(d)(e:m2 d):X p 115 [a1.R d] [] (R (e1 d)) []:=by
 refine X.I func115 rfl λm=>?_;have s:=e.cy;refine aZ a v (g.aL 0 (λb=>b<=c d) (λb:Nat=>[(0,a1.R d),(3,R (e1 (d.take b))),(4,R b)]) (λ_=>[]) (λb=>c d-b) 0 a (by simp[e1]) a v a x ?_);intro b j;by_cases h:b<c d
 .have i:d.getD b a1.C=d.getD b (0,0):=rfl;have q:=MN h;have o:=v8 e.aI e.cy b;have k:=v8 e.aI e.cy (b+1);have r:=e.aI _ (mw h (0,0));refine a6 [8] a ?_ (g.aA (b+1) a ?_ v h x)
  .simp only[T,c5,i,a8,bw,a',a_];exact fA
  simp only[T.X,T,c5,i,a',a_];and_intros<;>first|exact bs.same|omega
 obtain rfl:b=c d:=x;rw[c9];exact P0
abbrev HR:bJ:=df (e' a1) (λa=>R (e1 a)) λa=>[m2 a]
def adF:bK p 115 HR:=.a9 λb a=>XT b a
abbrev lL(a:Int×Int):y:=.n (.agg [.c (.int .i64 a.1),.c (.int .i64 a.2)])
abbrev oM(a:(Int×Int)×Int):y:=.Q [.agg [.c (.int .i64 a.1.1),.c (.int .i64 a.1.2)],.ar (.c (.int .i64 a.2))]
def Xl(z)(d)(s:c d<=4000000):X p 68 [lL z,a1.R d] [] (oM (gm z d)) []:=by
 refine X.bx func68 rfl rfl rfl λr=>?_;have b:a9 p [(101,n8),(115,HR)]:=.cons MW (.cons adF .nil);unfold gm;cases bW:gC d with
 |false=>
  rw[bl E];exact bf b [8,15,20] a F2 r_
 |true=>
 have h:=m2.of bW;by_cases al:z.1<=c d
 rotate_left
 .rw[bl zS];exact bf b [-8,15,20] a O9 r_
 by_cases K:0<=z.1
 rotate_left
 .rw[bl sc];exact bf b [-8,-15,20] a Qb r_
 rw[bo ⟨rfl,al,K⟩];have q:(z.1.toNat:Int)=z.1:=rh K;have k:a1.ad (bV (c d) (f z.1)-bV 0 n) (fF (bV 0 n) (a1.fn d))=d.take z.1.toNat:=by have m:bV (c d) (f z.1)-bV 0 n=z.1.toNat:=wJ;rw[m,a1.hs d (λo i=>by simp[fF,bV]) x]
 have j:a1.bQ (bV (c d) (f z.1)-bV 0 n) (fF (bV 0 n) (a1.fn d)):=a1.hc d (λo i=>by simp[fF,bV]);by_cases e:e1 (d.take z.1.toNat)=z.2
 .rw[bo e];refine bf b [-8,-15,-20,-29] a ?_ ?_
  .simp only[T,jh,k,j,bW,h,h.take,e,a1.l,a1.T,fm,bw,dp,h4,a',a_];omega
  refine g.freeze 4 1 a a a ?_;exact g.b9 bb [] a (by simp[a1.l]) a a a fy
 rw[bl e];refine bf b [-8,-15,-20,29] a ?_ ?_
 .simp only[T,jh,k,j,bW,h,h.take,a1.l,a1.T,fm,bw,dp,je,a',a_];and_intros<;>first|exact e|omega
 exact r_
def fH(d:Int)(b:dQ)(a:Int)(e:m cY):dQ×Bool:=
 if qE d b a e=l then(if fz d b.1 e=l then(b,u)else(mM d b a e,l))else(kS,u)
structure p0(M:dQ):Prop where
 ba:dK M.1
 b5:pZ M.1
 cy:c M.2.1<=4000000
 cW:c M.2.2<=4000000
def e_.b'{b}(a:e_ j b)(d:j<=1000000):p0 b:=⟨a.ba.toj3.dJ,a.j6,by have:=a.b5;omega,by have:=a.cW;omega⟩
def XY(h)(b)(bR)(o)(k:p0 b):X p 67 [R h,gz b,R bR,bx.R o] [] (jX (fH h b bR o).1 (fH h b bR o).2) []:=by
 refine X.bx func67 rfl rfl rfl λL=>?_;have j:a9 p [(27,BR),(26,jK),(36,sI),(41,xA),(97,BJ),(98,xy)]:=.cons M8 (.cons ku (.cons t36 (.cons EL (.cons MY (.cons EJ .nil)))));have aa:=k.b5;have w:(b.1,b.2.1,b.2.2)=b:=rfl;have V:fH h b bR o=if hj h b=l then(if 1<=bR/\bR<=2 then(if dP o=l then(if fz h b.1 o=l then(b,u)else(mM h b bR o,l))else(kS,u))else(kS,u))else(kS,u):=by unfold fH qE;by_cases al:hj h b=l<;>by_cases B:1<=bR/\bR<=2<;>by_cases r:dP o=l<;>simp[al,B,r]
 rw[V];cases al:hj h b with
 |false=>
  rw[bl E];refine bf j [18,23,28] a ?_ ?_
  .simp only[T,a3.l,a3.T,bh.l,bh.T,a1.l,a1.T,aC.l,aC.T,w,al,aa,hK,a',a_]
  exact zZ
 |true=>
 rw[bo a];by_cases B:1<=bR/\bR<=2
 rotate_left
 .rw[bl B];refine bf j [-18,23,28] a ?_ ?_
  .simp only[T,a3.l,a3.T,bh.l,bh.T,a1.l,a1.T,aC.l,aC.T,w,al,aa,fm,a',a_];grind
  exact zZ
 rw[bo B];cases r:dP o with
 |false=>
  rw[bl E];exact bf j [-18,-23,28] a FC zZ
 |true=>
 rw[bo a];have s:=r3.1 al;have aV:=s.toiB.gK;have K:=aV.ev;have m:=Xi (p:=p) h b.1 bR o s.key k.ba K (oN r) aV.kk;cases z:fz h b.1 o with
 |true=>
  rw[z,bo a]at m;rw[bo a];refine bf j [-18,-23,-28] a FC (g.aC m [] a (bf j [42] a ?_ ?_))
  .simp only[T,a3.l,a3.T,bh.l,bh.T,a1.l,a1.T,aC.l,aC.T,w,k.ba,k.cy,k.cW,fm,hK,a',a_]
  refine g.freeze 8 1 a a a ?_;exact g.b9 bb [] a z_ a a a fy
 |false=>
 rw[z,bl E]at m;rw[bl E];refine bf j [-18,-23,-28] a FC (g.aC m [] a ?_);have F:=aV.cN (h:=h) (o:=o) (bR:=bR) (by have:=xl 1 s.cI λq J=>(s.a0 q J).1;omega) r z;have Q:(eE h b.1 bR o).2.1.length=c b.1.2.1+1:=by simp[eE]
 have S:(eE h b.1 bR o).2.1.getD ((eE h b.1 bR o).2.1.length-1) (0,[])=fI (cX b.1) h o:=by rw[Q];simp[eE,ak]
 have O:=F.c7 (fI (cX b.1) h o) N;have Y:=wd O.2;have H:=ti (fI (cX b.1) h o).2;have G:=F.eB;have W:=k.cy;unfold mM;generalize eE h b.1 bR o=i at *;generalize fI (cX b.1) h o=q at *;have U:((c i.2.1:Int)-1).toNat=c i.2.1-1:=x;have A:i.2.1.getD ((c i.2.1:Int)-1).toNat bh.C=q:=by rw[U];exact S
 refine bf j [-42] a ?_ ?_
 .simp only[T,A,a3.l,a3.T,bh.l,bh.T,a1.l,a1.T,aC.l,aC.T,cu.l,cu.T,w,k.ba,k.cy,k.cW,a8,fm,hK,a',a_];omega
 rw[A];simp only[cu.l];generalize gF q.2=d at *;refine g.aL 4 (λe=>e<=c d) (λe:Nat=>[(5,aH 0 0),(8,aH 1 0),(10,aH 2 0),(12,aH 3 0),(13,aC.R d),(14,R e)])
  (λe=>[gu b,.cells 30 l5,jV i,gu (i,(d.take e).foldl e6 b.2.1,b.2.2)]) (λe=>c d-e) 0 a ?_ a ?_ a x ?_
 .simp
 .exact z_
 intro e M;by_cases t:e<c d
 .have D:d.getD e aC.C=d.getD e 0:=rfl;have y:=yn e6 b.2.1 t;have I:=qs b.2.1 (d.take e);rw[List.length_take]at I;generalize(d.take e).foldl e6 b.2.1=j4 at *;have C:=aC.l j4;refine bf j [58] a ?_ (g.aA (e+1) a ?_ ?_ t x)
  .simp[-ak,D,t,C,aC.T,a8];omega
  .simp
  rw[y];simp[-ak,D,C]
 obtain rfl:e=c d:=x;rw[c9];refine bf j [-58] a E (g.aB ?_);exact cM j a v zZ
def Jt(d)(b:m2 d)(z)(r:z<=c d):X p 104 [ax (ix d),R z] [] (R (e1 (d.take z))) []:=by
 refine X.I func104 rfl λs=>?_;have y:=b.cy;refine aZ a v (g.loop (λe=>e<=z) (λe:Nat=>[(0,ax (ix (d.drop e))),(1,R ((z:Int)-e)),(5,R (e1 (d.take e)))]) (λ_=>[]) (λe=>z-e) 0 x (.cons a (eJ a (by simp[e1]))) a ?_);intro e m;by_cases k:e<z
 .have h:=MN (d:=d) (e:=e) x;have t:=v8 b.aI b.cy e;have q:=v8 b.aI b.cy (e+1);have w:=b.aI _ (mw (e:=e) (d:=d) x (0,0));rw[IF (e:=e) x]
  generalize d.getD e (0,0)=o at *;generalize j:d.drop (e+1)=i;cases i<;>(
   refine aZ a v (g.aN (tv a underlying142 a a a) a a ?_);refine a6 [8,11] a ?_ ⟨e+1,k,by omega,.cons (by rw[j];rfl) (eJ a ?_),a⟩
   .simp only[T,a8,bw,a',a_];exact FS
   .simp only[T.X,T,a',a_];and_intros<;>omega)
 obtain rfl:e=z:=x;generalize d.drop e=i;cases i with
 |nil=>
  refine aZ a v (g.aN (rS a underlying142 a a a) a a ?_);refine a6 [-8,-11] a E (g.bs a a ?_);exact wD
 |cons o i=>
  refine aZ a v (g.aN (tv a underlying142 a a a) a a ?_);refine a6 [8,-11] a E (g.bs a a ?_);exact wD
def Wn(d)(i:c d<=4000000):X p 105 [a1.R d] [] (R (if gC d=l then e1 d else -1)) []:=by
 refine X.I func105 rfl λj=>?_;have h:=I_ (p:=p) d i;cases bW:gC d with
 |false=>
  have b:a9 p [(102,n8)]:=.cons tJ .nil;refine bf b [5] a F2 (g.aw a)
 |true=>
  have e:=Jt (p:=p) d (.of bW) (c d) (bB _);rw[c9]at e;have b:a9 p [(102,n8),(103,ed [a1.R d] (ax (ix d))),(104,ed [ax (ix d),R (c d)] (R (e1 d)))]:=.cons tJ (.cons (eu h) (.cons (eu e) .nil));generalize e1 d=k at *;cases d<;>(
   refine bf b [-5] a ?_ (g.aw a);simp only[T,bW,a1.l,a1.T,fm,a',a_]
   and_intros<;>rfl)
def Jl(z)(d)(i:c d<=4000000):X p 56 [lL z,a1.R d] [] (oM (gm z d)) []:=by
 refine X.bx func56 rfl rfl rfl λt=>?_;have m:=I_ (p:=p) d i;have h:=Wn (p:=p) d i;have e:a9 p [(102,n8)]:=.cons tJ .nil;unfold gm;cases bW:gC d with
 |false=>
  rw[bl E];exact bf e [9,16,21] a F2 r_
 |true=>
 have r:=m2.of bW;by_cases j:z.1<=c d
 rotate_left
 .rw[bl (by simp[j])];exact bf e [-9,16,21] a O9 r_
 by_cases K:0<=z.1
 rotate_left
 .rw[bl sc];exact bf e [-9,-16,21] a Qb r_
 rw[bo ⟨rfl,j,K⟩];have q:(z.1.toNat:Int)=z.1:=rh K;have k:=Jt (p:=p) d r z.1.toNat x;rw[bo bW]at h;rw[q]at k;have hO:a9 p [(102,n8),(103,ed [a1.R d] (ax (ix d))),(104,ed [ax (ix d),R z.1] (R (e1 (d.take z.1.toNat)))),(105,ed [a1.R d] (R (e1 d)))]:=.cons tJ (.cons (eu m) (.cons (eu k) (.cons (eu h) .nil)));generalize e1 d=s at *;generalize e1 (d.take z.1.toNat)=o at *;by_cases b:o=z.2
 .rw[bo b];cases d<;>(
   refine bf hO [-9,-16,-21,-23] a ?_ ?_
   .simp only[T,bW,b,a1.l,a1.T,fm,bw,dp,h4,a',a_];exact qZ
   refine g.freeze 4 1 a a a ?_;exact g.b9 bb [] a E a a a fy)
 .rw[bl b];cases d<;>(
   refine bf hO [-9,-16,-21,23] a ?_ ?_
   .simp only[T,bW,a1.l,a1.T,fm,bw,dp,je,a',a_];and_intros<;>first|exact b|rfl|omega
   refine g.freeze 4 1 a a a ?_;exact g.b9 bb [] a E a a a fy)
def n7(a:Int):Bool:=decide (1<=a/\a<=2)
def T9(j):X p 28 [R j] [] (bi (n7 j)) []:=by
 refine X.I func28 rfl λb=>?_;unfold n7;by_cases s:j=1
 .refine a6 [5] a gY (g.aw a ?_);simp[s]
 refine a6 [-5] a gY (g.aw a ?_);simp only[T,a_];rw[o4];simp only[gM,bw];omega
abbrev uR:bJ:=df c6 (λa=>bi (n7 a)) λ_=>[]
def zw:bK p 28 uR:=.a9 λa _=>T9 a
def Kb:cq:=⟨1,8,u,TypeDesc.map 3 4,[.val (.map n)],[]⟩
def YQ:eM V 117 Kb:=⟨underlying117,rfl,⟨Tryz.t117,_,lU type117,rfl,rfl,rfl,rfl,⟨#[],rfl⟩,rfl⟩,λb=>absurd a b⟩
def dc:b0 V ((117,Kb)::eO):=b0.cons YQ bb
abbrev sP(a:Y):y:=cL a
abbrev jg(a:Y)(b:m Int):an:=.E (i_ a b)
def IO(q)(e d):X p 73 [sP q,aC.R d] [jg q e] (.Q []) [jg q (e++d)]:=by
 refine X.I func73 rfl λh=>?_;have m:=h.R 1 a;refine g.aR b6 dc a9.nil [] 100 a v (g.aL 1 (λb=>b<=c d) (λb:Nat=>[(0,sP q),(6,aC.R d),(7,R (c d)),(8,R b)]) (λb=>[jg q (e++d.take b)]) (λb=>c d-b) 0 a E a E a x ?_);intro b k;by_cases j:b<c d
 .have o:d.getD (b:Int).toNat aC.C=d.getD b 0:=du;refine g.aR b6 dc a9.nil [9] 100 a bT (g.aN (a0.j2 a underlying117 underlying3 (i:=0) a a a a) a a ?_);refine g.aR b6 dc a9.nil [] 100 a bD (g.aA (b+1) a E ?_ j x);simp_all
 obtain rfl:b=c d:=x;rw[c9];refine g.aR b6 dc a9.nil [-9] 100 a E (g.aB ?_);exact bX.dk [0] a E a a a h9
def WL(b)(d)(j):X p 76 [R j,ax (.M [.val b])] [jg b d] (bi (!d.contains j)) [jg b d]:=by refine X.I func76 rfl λh=>?_;refine g.aR b6 dc a9.nil [] 100 a v ?_;refine g.aN (a0.jZ a underlying117 underlying3 (λe=>Tryz.zeroValue4 e) (i:=0) a a a) a a ?_;exact g.aR b6 dc a9.nil [] 100 a v (g.aQ [0] a E h9)
def VF(b)(j):X p 78 [fL b,ax (.M [.int .i64 j])] [] (bi (b.1==j)) []:=by refine X.I func78 rfl λd=>?_;exact aZ a v (g.aw a)
def CC(b)(d:c b.2<=4000000)(e:c (d9 b.2)<=4000000):X p 75 [iQ b] [] (aC.R (gh b)) []:=by refine X.I func75 rfl λh=>?_;refine aZ a v ?_;refine g.aC (Xx b d e) [] a ?_;exact aZ a v (g.aw a)
def oX(g:Y)(h:Nat)(b:Array MapEntry)(e:Nat):Y->(Nat->Option Obj)->Prop:=λi a=>i=g/\∀d,a d=if d=h then f (.map b e)else n
def iV(a:MapEntry):Int:=match a.key with|.int _ b=>b|_=>0
structure oY(K:Y)(d:m Int)(ba:Nat)(U:Array MapEntry)(q:Nat):Prop where
 b5:K=.map (f ba)
 a2:MapKept.Stamped U q
 cw:∀aj∈U.toList,aj.key=.int .i64 (iV aj)/\a8 .i64 (iV aj)/\aj.val=.bool l
 mem:∀j,j∈d↔j∈U.toList.map iV
def i_.kn{K}{d}(s:i_ K d aa k7):∃b:{b:Nat×Array MapEntry×Nat // oY K d b.1 b.2.1 b.2.2},oX K b.1.1 b.1.2.1 b.1.2.2 aa k7:=by
 obtain⟨j,x,g,p,k,w,t,v,o⟩:=s;have i:∀a∈g.toList,a.key=.int .i64 (iV a)/\a8 .i64 (iV a)/\a.val=.bool l:=λa e=>by
  obtain⟨m,k1,q,r⟩:=v a e;have:iV a=m:=by simp[iV,k1]
  rw[this];exact⟨k1,r,q⟩
 refine⟨⟨(x,g,p),k,t,i,λm=>?_⟩,j,w⟩;rw[o,ho];constructor
 .rintro⟨a,e,h⟩;exact⟨a,e,by simp[iV,h]⟩
 rintro⟨a,e,rfl⟩;exact⟨a,e,(i a e).1⟩
def oY.cO{K}{d}{ba}{U}{q}(e:oY K d ba U q)(g:oX K ba U q aa k7):i_ K d aa k7:=by
 refine⟨g.1,ba,U,q,e.b5,g.2,e.a2,λb a=>⟨_,(e.cw b a).1,(e.cw b a).2.2,(e.cw b a).2.1⟩,λi=>?_⟩;rw[e.mem,ho];constructor
 .rintro⟨b,a,rfl⟩;exact⟨b,a,(e.cw b a).1⟩
 rintro⟨b,a,h⟩;exact⟨b,a,by simp[iV,h]⟩
def uk(a:Array MapEntry)(pre:m Int)(b:Array Nat):Prop:=pre.Nodup/\(∀e∈pre,e∈a.toList.map iV)/\∀d∈a.toList,d.born∈b↔iV d∈pre
section
variable {K:Y}{d:m Int}{ba q:Nat}{U:Array MapEntry}(bd:oY K d ba U q)
include bd
def oY.ak:(U.toList.map iV).Nodup:=by
 have b:U.toList.map (·.key)=(U.toList.map iV).map (Value.int .i64):=by rw[uz];exact qa λa d=>(bd.cw a d).1
 have:=bd.a2.2.2;rw[b]at this;rw[List.Nodup,ri]at this;exact this.imp λb a=>b (eC (Value.int .i64) a)
def oY.step{pre}{dz}(i:uk U pre dz){b}(g:b∈U.toList)(j:b.born∉dz):uk U (pre++[iV b]) (dz.push b.born)/\iV b∉pre:=by
 have k:iV b∉pre:=λm=>j ((i.2.2 b g).2 m);refine⟨⟨by grind[uk],λo e=>?_,λh a=>?_⟩,k⟩
 .rcases fC.1 e with e|e
  .exact i.2.1 o e
  rw[gK.1 e];exact List.mem_map_of_mem g
 simp only[Array.mem_push,fC,gK,i.2.2 h a];refine or_congr_right ⟨λd=>?_,λd=>?_⟩
 .rw[DK bd.a2.2.1 a g d]
 rw[DK bd.ak a g d]
def oY.over{pre}{dz}(g:uk U pre dz)(i:∀e∈U.toList,e.born∈dz):pre.Nodup/\∀b,b∈pre↔b∈d:=by refine⟨g.1,λb=>⟨λa=>(bd.mem b).2 (g.2.1 b a),λa=>?_⟩⟩;obtain⟨e,h,rfl⟩:=ho.1 ((bd.mem b).1 a);exact(g.2.2 e h).1 (i e h)
end
def yj{b}:∀a,a<1->(0::b)[a]?=f a:=λa d=>by simp_all
abbrev xD(a:Y):O:=.fn (.func 181) [] [.M [.val a]]
def VO(K):X p 136 [sP K] [] (ax (xD K)) []:=by refine X.I func136 rfl λb=>?_;refine g.aR b6 dc a9.nil [901] 100 a v ?_;refine g.freeze 1 0 a a a ?_;exact g.aR b6 dc a9.nil [] 100 a v (g.aw a)
set_option maxRecDepth 20000 in
def VP{ac:Type}{K}{d}{ba}{U}{q}(k:oY K d ba U q){h}{e}{t}(w x:ac->an)(z:m Int->ac->Prop)(o:ac)(S:z [] o)(aI:∀j,w j≠.bd/\x j≠.bd)(i:∀pre b j M,b∉pre->pre.Nodup->(∀bI∈pre++[b],bI∈d)->z pre j->iD (ι:={r:ac // z (pre++[b]) r}) p 3 [R b] [.E (oX K ba U q),w j,x j,.loop h e t,.E M] l (λr=>[.E (oX K ba U q),w r.1,x r.1,.loop h e t,.E M])):
  bk (ι:={C:ac×m Int×Array Nat // (C.2.1.Nodup/\∀J,J∈C.2.1↔J∈d)/\z C.2.1 C.1}) p 181 [.n (.ar (.aK 3)),ax (.M [.val K])] [.E (oX K ba U q),w o,x o,.loop h e t] (λ_=>.Q []) (λA=>[.E (oX K ba U q),w A.1.1,x A.1.1,.loop h e t,.E (kY ba q A.1.2.2)]):=by
 obtain rfl:=k.b5;have F:uh (oX (.map (f ba)) ba U q) ba U q:=λY V W=>by rw[W.2];simp
 refine bk.bO func181 rfl rfl rfl (g.aU ?_);refine g.aR b6 dc a9.nil [] 100 a v (g.range (qF:=0) (ba:=ba) a a a a underlying117 (bZ.kp a) a F ?_);refine g.aR b6 dc a9.nil [] 100 a v ?_;show b2 p _ (.loop _) _ _ _;refine b2.loop (bq:=ac×m Int×Array Nat) (λb=>uk U b.2.1 b.2.2/\z b.2.1 b.1) (λ_=>[(0,.n (.ar (.aK 3))),(5,.n (.ar (.aK 4)))]) (λb=>[.E (oX (.map (f ba)) ba U q),w b.1,x b.1,.loop h e t,.E (kY ba q b.2.2)]) (λb=>c U.toList-c b.2.1) (o,[],#[]) ⟨⟨List.nodup_nil,by simp,by simp⟩,S⟩ (eJ a E) a ?_;rintro⟨j,pre,dz⟩ ⟨I,N⟩;refine g.aU ?_;refine g.aR b6 dc a9.nil [] 100 a v (g.next (qF:=0) (kh:=4) (ba:=ba) (q:=q) (dz:=dz) (U:=U) a a a a a a a a F k.a2 (λaj s=>⟨by rw[(k.cw aj s).1];rfl,by rw[(k.cw aj s).2.2];rfl⟩) λA=>?_);cases A with
 |over D=>
  refine g.aR b6 dc a9.nil [-7] 100 a E (g.fF a a ?_);exact⟨⟨(j,pre,dz),k.over I D,N⟩,.inr a,a,qI (bS:=.E _) E (qI (aI j).1 (qI (aI j).2 a)),[],.Q [],[],a,a,a,v⟩
 |ar aj s G=>
  refine g.aR b6 dc a9.nil [7] 100 a E ?_;obtain⟨k1,Q,O⟩:=k.cw aj s;obtain⟨B,T⟩:=k.step I s G;refine g.entry (qF:=0) (kh:=4) (ba:=ba) (q:=q) (dz:=dz) (U:=U) (aj:=aj) (bI:=.Q [.ar (.c (.int .i64 (iV aj))),.ar .any]) a a a a a a a F k.a2 s (λX=>⟨[aj.key,aj.val],a,?_,by rw[O];rfl,v⟩) ?_
  .rw[k1];exact Rd.int Q
  refine g.aR b6 dc a9.nil [] 100 a v (g.yield (i pre (iV aj) j _ T I.1 (λbI y=>(k.mem bI).2 (B.2.1 bI y)) N) a a a a a a λr=>?_);refine g.aR b6 dc a9.nil [-13] 100 a E ⟨(r.1,pre++[iV aj],dz.push aj.born),⟨B,r.2⟩,?_,eJ a E,a⟩;have:=yP _ _ B.1 B.2.1;simp at this⊢;omega
abbrev AD(d:m Int):Type:={b:m Int // b.Nodup/\∀a,a∈b↔a∈d}
set_option maxRecDepth 20000 in
def TS(K)(d)(J:c d<=4000000):
  bk (ι:=AD d) p 224 [ax (.R l 0 0 λ_=>[]),ax (xD K)] [jg K d] (λb=>cD 1 (.R (c b.1) 1 0 (c b.1))) (λb=>[jg K d,jf (c b.1) b.1]):=by
 refine bk.e5 func224 rfl rfl rfl λI=>?_;refine dd.seq (b2.bw (g.aU ?_));refine aZ a v (dd.seq (dd.seq (b2.bw (g.aU ?_))));refine g.gB 0 (λb:{b:Nat×Array MapEntry×Nat // oY K d b.1 b.2.1 b.2.2}=>oX K b.1.1 b.1.2.1 b.1.2.2) a (λB e h=>i_.kn h) ?_;rintro⟨⟨M,x,E⟩,b⟩;refine g.ep 1 0 3 1 (aC.fn []) a a ?_;refine aZ a v (dd.block ?_);refine dd.rangeFunc (o8:=fc [.M [.val K]]) (bZ.callee a) (VP (ac:=m Int) b (λo=>.cells 28 [.K 2 (.R (c o) 1 0 (c o))]) (λo=>jf (c o) o) (λpre o=>o=pre) [] a (λo=>⟨by simp,by simp⟩) ?_) (λq=>⟨a,by simp⟩) λq=>⟨.normal,a,?_⟩
 .rintro pre i o r j z s rfl;have F:c o+1<=4000000:=by have:=yP (o++[i]) d N s;simp at this;omega
  refine iD.intro (t:=n) a a a a (g.aU ?_);refine aZ a v ⟨a,a,g.aU ?_⟩;refine aZ a (by simp[a8,show ee.bytes=8 from a];omega) ?_;have k:=aC.aX o i;refine⟨a,a,⟨o++[i],a⟩,jP a ?_⟩;simp only[T.X,T,dk,gJ,a',a_];and_intros<;>first|exact k|rfl|exact bs.same
 show dd p _ _ _ _ _;obtain⟨⟨o,pre,A⟩,w,y⟩:=q;obtain rfl:o=pre:=y;refine b2.bw (g.aU ?_);refine g.gB (ι:=Unit) 0 (λ_=>i_ K d) a (λB e h=>⟨(),b.cO h⟩) λ_=>?_;refine aZ a v (g.bT (λk C D b=>⟨⟨o,w⟩,b⟩) (g.aQ [0,2] a ?_ yj));simp
def Uj(K)(d)(e:c d<=4000000):
  bk (ι:=AD d) p 180 [ax (xD K)] [jg K d] (λb=>cD 1 (.R (c b.1) 1 0 (c b.1))) (λb=>[jg K d,jf (c b.1) b.1]):=by refine bk.cv func180 rfl rfl rfl λh=>?_;refine aZ a v (g.b6 (TS K d e) [0] a a a a E a a a bn a bn a λb=>?_);refine aZ a v (g.bG b (g.aQ [0,1] a ?_ yj));simp
def abz{d aM}(j:aM.Pairwise (· < ·))(m:∀g,g∈aM↔g∈d)(a:AD d):jW a.1=aM:=by
 have h:(jW a.1).Pairwise λb e=>b<=e:=(List.pairwise_mergeSort (λb e o h i=>by grind) (λb e=>by grind) a.1).imp λk=>by grind
 have i:(jW a.1).Nodup:=(zr _).nodup_iff.2 a.2.1;refine A_ ?_ j λg=>by rw[(zr _).mem_iff,a.2.2,m]
 exact(h.and i).imp λk=>by omega
def XF(K)(b aM:m Int)(o:c b<=4000000)(q:aM.Pairwise (· < ·))(k:∀e,e∈aM↔e∈b):
  X p 135 [ax (xD K)] [jg K b] (cD 1 (.R (c aM) 1 0 (c aM))) [jg K b,jf (c aM) aM]:=by
 refine X.I func135 rfl λs=>?_;refine aZ a v (g.a6 (Uj K b o) [0] a bn λd=>?_);have j:=abz q k d;have t:=yP d.1 b d.2.1 λe r=>(d.2.2 e).1 r;have i:=CG (p:=p) d.1 x;have h:c d.1=c aM:=by rw[<-j,qQ]
 rw[j,h]at i;rw[h];refine aZ a v (g.aC i [1] a (aZ a v (g.aQ [0,1] a ?_ yj)));simp
def Wi(K)(d aM)(h:c d<=4000000)(e:aM.Pairwise (· < ·))(i:∀b,b∈aM↔b∈d):
  X p 91 [sP K] [jg K d] (aC.R aM) [jg K d]:=by
 have j:X p 91 [sP K] [jg K d] (cD 1 (.R (c aM) 1 0 (c aM))) ([jg K d]++[jf (c aM) aM]):=by refine X.I func91 rfl λk=>?_;refine g.aR b6 dc a9.nil [] 100 a v (g.aC (VO K) [] a (g.aR b6 dc a9.nil [] 100 a v (g.aC (XF K d aM h e i) [0] a (g.aR b6 dc a9.nil [] 100 a v (g.aQ [0,1] a ?_ yj)))));simp
 exact X.bL j a E a (bB _)
abbrev jH(b:Nat)(a:m Int):an:=.p 3 1 b (aC.fn a)
end
section
variable {p:af V}
abbrev RV:={a:m Int // c a<=5}
def VL(z)(e:Nat->Int)(w:Bytes e)(h:Nat)(r:h<=500000)(j:z<=1048576):
  bk (ι:=RV) p 35 [aH 0 0] [eh z e h] (λy=>aC.R y.1) (λ_=>[eh z e (h+5:Nat)]):=by
 refine bk.cv func35 rfl rfl rfl λF=>?_;refine a6 [902] a v (g.bK 3 3 1 a a ?_);refine aZ a v (g.aL 2 (λb:Nat×m Int=>1<=b.1/\b.1<=6/\c b.2+1<=b.1) (λb=>[(0,aH 0 0),(3,.n (.ar (.w 1 1 (c b.2) (aC.fn b.2)))),(4,R b.1)]) (λb=>[eh z e (h+(b.1-1):Nat),.w 3 1 (c b.2) (aC.fn b.2)]) (λb=>6-b.1) (1,[]) a E a E a ⟨by decide,by decide,by decide⟩ ?_);rintro⟨d,i⟩ ⟨s,o,t⟩;simp only at s o t;by_cases D:d<=5
 .refine a6 [7] a bu (g.a6 (hQ z e w (h+(d-1)) 2 x j x) [0] a bn ?_);rintro⟨A,B,C⟩;by_cases k:A=0
  .have q:=aC.aX i (d:Int);refine a6 [12] a ?_ (g.aA (d+1,i++[(d:Int)]) a ?_ ?_ ⟨by omega,by omega,by grind⟩ x)
   .simp only[T,k,a8,show ee.bytes=8 from a,f',a',a_];exact fA
   .exact Q2
   exact Q2
  refine a6 [-12] a bD (g.aA (d+1,i) a E ?_ ⟨by omega,by omega,by exact bu⟩ x);exact bu
 obtain rfl:d=6:=x;refine a6 [-7] a E (g.aB ?_);refine aZ a v (g.bG ⟨i,by omega⟩ (g.aQ [0] a ?_ ni));simp
def zP:m bC:=[[122,122],[98,46],[104,101,108,108,111,46,46,46]]
def ad4:bs 3 (λa=>([[.V [122,122]],[.V [98,46]],[.V [104,101,108,108,111,46,46,46]]]:m (m O)).getD a []) (bQ.fn zP):=by intro a b;have:a=0∨a=1∨a=2:=x;rcases this with rfl|rfl|rfl<;>rfl
set_option maxRecDepth 20000 in
def V6(z)(b:Nat->Int)(h:Bytes b)(d:Nat)(m:d<=500000)(e:z<=1048576):
  bk (ι:=dO) p 34 [aH 0 0] [eh z b d] (λo=>ep o) (λ_=>[eh z b (d+4:Nat)]):=by
 refine bk.bx bb func34 rfl rfl rfl λr=>?_;refine aZ a v (g.a6 (hQ z b h d 5 x e x) [0] a bn ?_);rintro⟨i,_⟩;refine aZ a v (g.a6 (hQ z b h (d+1) 5 x e x) [0] a bn ?_);rintro⟨k,_⟩;refine aZ a v (g.a6 (hQ z b h (d+1+1) 3 x e x) [0] a bn ?_);rintro⟨j,_⟩;refine aZ a v (g.b6 (WN z b h (d+1+1+1) x e zP ca).tocH [0] a a a a ?_ a a a bn a bn a ?_)
 .simp only[T.X,T,a',a_];exact⟨a,ad4⟩
 rintro -;generalize zP.getD (qL z b (d+1+1+1) (c zP)).toNat []=q;refine aZ a v (g.bh (i,k,j,q) [0] ?_ ha);simp
end
structure nY(M:dQ):Prop extends nX M.1 where
 fK:c M.2.1<=4000000
 fI:c M.2.2<=4000000
def GF{d}(a:e<c d):c (d9 (d.getD e (0,[])).2)<=c (hp d):=by have:=GD d (e+1);grind[A0]
def acu(h)(a):hj h a=(h0 h a.1&&(aA (c a.1.2.1)).all (λb=>!(gh (a.1.2.1.getD b (0,[]))).any λd=>!a.2.1.contains d)&&(aA (c a.2.2)).all (nx a.1.1 a.2.2)):=by rw[hj,ZQ];cases h0 h a.1<;>simp
def XV(h)(i)(t:nY i):X (af.aD V) 42 [R h,gz i] [] (bi (hj h i)) []:=by
 refine X.I func42 rfl λU=>?_;have k:a9 (af.aD V) [(72,xI)]:=.cons ER .nil;have bI:=a3.l i.1.1;have aa:=bh.l i.1.2.1;have eK:=a1.l i.1.2.2;have ba:=t.tonX;rw[acu];cases bW:h0 h i.1
 .exact g.aR b6 dc k [14] 100 a Rw (g.aw a)
 refine g.aR b6 dc k [-14] 100 a Rw ?_;rw[fx];refine g.h5 a a a λp=>?_;refine g.aR b6 dc k [] 100 a v (g.aC (IO p [] i.2.1) [1] a ?_);rw[p9];refine g.aR b6 dc k [905] 100 a v (g.freeze 5 2 a a a ?_);refine g.aR b6 dc k [] 100 a v (g.aL 3 (λe=>e<=c i.1.2.1/\∀m,m<e->(!(gh (i.1.2.1.getD m (0,[]))).any λj=>!i.2.1.contains j)=l) (λe:Nat=>[(0,R h),(3,aH 0 0),(5,ax (.M [.val p])),(22,bh.R i.1.2.1),(23,R (c i.1.2.1)),(24,R e)]) (λ_=>[gu i,jg p i.2.1,.J]) (λe=>c i.1.2.1-e) 0 a E a E a ⟨by omega,by omega⟩ ?_);have H:=t.fc;rintro e ⟨w,q⟩;by_cases s:e<c i.1.2.1
 .have b:i.1.2.1.getD (e:Int).toNat bh.C=i.1.2.1.getD e (0,[]):=N;have C:=t.dW _ (oj (K:=(0,[])) s);have Q:=GF s;have I:=t.eC;have L:=kD (S:=λm=>!(gh (i.1.2.1.getD m (0,[]))).any λj=>!i.2.1.contains j) s;have A:=iI (S:=λm=>!(gh (i.1.2.1.getD m (0,[]))).any λj=>!i.2.1.contains j) (e:=e);generalize i.1.2.1.getD e (0,[])=o at *;refine g.aR b6 dc k [25] 100 a bT ?_;rw[b];refine g.aC (CC o C.1 x) [] a (g.aR b6 dc k [] 100 a v (g.aC (U4 (gh o) 76 [.val p] (i_ p i.2.1) (λj=>!i.2.1.contains j) λj _=>WL p i.2.1 j) [1] a ?_));cases G:(gh o).any λj=>!i.2.1.contains j with
  |true=>
   refine g.aR b6 dc k [] 100 a v (g.aW (bX.zero a ?_));exact bD
  |false=>
   refine g.aR b6 dc k [] 100 a ?_ (g.aA (e+1) a E E ⟨s,A q N⟩ x);exact bD
 obtain rfl:e=c i.1.2.1:=x;rw[fS.2 q,fx];refine g.aR b6 dc k [-25] 100 a E (g.aB ?_);refine g.aR b6 dc k [] 100 a v ?_;have D:=t.fI;refine g.aL 3 (λe=>e<=c i.2.2/\∀m,m<e->nx i.1.1 i.2.2 m=l) (λe:Nat=>[(0,R h),(3,aH 0 0),(34,aC.R i.2.2),(35,R (c i.2.2)),(36,R e)]) (λ_=>[gu i,jg p i.2.1,.J]) (λe=>c i.2.2-e) 0 a E a E a ⟨by omega,by omega⟩ ?_;rintro e ⟨w,q⟩;by_cases s:e<c i.2.2
 .have b:i.2.2.getD (e:Int).toNat aC.C=i.2.2.getD e 0:=N;have B:i.2.2.getD (e-1) aC.C=i.2.2.getD (e-1) 0:=rfl;have y:nx i.1.1 i.2.2 e=((i.1.1.any λS=>S.1==i.2.2.getD e 0)&&j9 (λo=>o) 0 i.2.2 e):=rfl;have F:=qc (al:=λo:Int=>o) (K:=0) (d:=i.2.2) (e:=e);generalize i.2.2.getD e 0=j at *;generalize i.2.2.getD (e-1) 0=z at *;have hO:a9 (af.aD V) [(77,ed [a3.R i.1.1,ax (.fn (.func 78) [] [.M [.int .i64 j]])] (bi (i.1.1.any λS=>S.1==j)))]:=.cons (eu (U5 i.1.1 78 [.int .i64 j] (λS=>S.1==j) λS _=>VF S j)) .nil;refine g.aR b6 dc k [37,914] 100 a bT ?_;rw[b];refine g.freeze 9 3 a a a ?_;have fin:i.1.1.any (λS=>S.1==j)=l->j9 (λo=>o) 0 i.2.2 e=l->nx i.1.1 i.2.2 e=l:=λG J=>by grind
  by_cases O:e=0
  .subst O;cases r:i.1.1.any (λS=>S.1==j)with
   |true=>
    refine g.aR b6 dc hO [-43,-60] 100 a ?_ (g.aA 1 a E E ⟨s,iI q (fin r a)⟩ x);simp[a8,r,c1.R]
   |false=>
    refine g.aR b6 dc hO [-43,60] 100 a bD (g.aW (bX.zero a ?_));exact jZ
  by_cases M:z<j
  rotate_left
  .refine g.aR b6 dc hO [43,51,60] 100 a ?_ (g.aW (bX.zero a ?_))
   .simp[-ak,B,a8];omega
   exact jZ
  cases r:i.1.1.any (λS=>S.1==j)with
  |true=>
   refine g.aR b6 dc hO [43,-51,-60] 100 a ?_ (g.aA (e+1) a E E ⟨s,iI q (fin r N)⟩ x);exact OF
  |false=>
   refine g.aR b6 dc hO [43,-51,60] 100 a OF (g.aW (bX.zero a ?_));exact jZ
 obtain rfl:e=c i.2.2:=x;rw[fS.2 q];refine g.aR b6 dc k [-37] 100 a E (g.aB ?_);exact g.aR b6 dc k [] 100 a v (g.aw a)
abbrev xJ:bJ:=ev c6 (AF CP) (λb a=>bi (hj b a)) λ_ a=>[nY a]
def ES:bK (af.aD V) 42 xJ:=.bk λb d a=>XV b d a
section
variable {p:af V}
inductive RU (ι:Type)
 |cy
 |iD (bd:ι)
 |jj (bd:ι)
 |done (bd:ι) (aa:Y)
abbrev Ea{k1}(b:Nat)(a:Nat->Int)(e:Int)(g:Bool):RU (Gd k1)->an
 |.cy=>match g with
  |false=>eh b a e
  |true=>eh b a (e+1)
 |.iD d|.jj d|.done d _=>eh b a d.1.2
section
variable {i:Nat->Int}{bz:Int}{k1:Nat}{M:dQ}{S:Gd k1->Bool}
end
end
abbrev ad2(a:ek):an:=.cells 35 (lu a)
def ad8(a):e2 a=(hj a.1 a.2.1&&decide (c a.2.2.2.1=2)&&decide (c a.2.2.2.2=2)&&(aA 2).all (pM a)):=by unfold e2;cases hj a.1 a.2.1<;>cases decide (c a.2.2.2.1=2)<;>cases decide (c a.2.2.2.2=2)<;>simp
def CI(b)(z:nY b.2.1):X (af.aD V) 16 [eZ b] [] (bi (e2 b)) []:=by
 refine X.I func16 rfl λD=>?_;have i:a9 (af.aD V) [(42,xJ)]:=.cons ES .nil;have B:=a3.l b.2.1.1.1;have j:=bh.l b.2.1.1.2.1;have h:=a1.l b.2.1.1.2.2;have d:=aC.l b.2.1.2.1;have al:=aC.l b.2.1.2.2;rw[ad8];cases bW:hj b.1 b.2.1
 .exact g.aR b6 dc i [11,17,22] 100 a (by simp[bW,B,j,h,d,al,a3.T,bh.T,a1.T,aC.T,z]) (g.aw a)
 by_cases p:c b.2.2.2.1=2
 rotate_left
 .exact g.aR b6 dc i [-11,17,22] 100 a Fx (g.aw a (by simp[k2 p]))
 by_cases o:c b.2.2.2.2=2
 rotate_left
 .exact g.aR b6 dc i [-11,-17,22] 100 a Fx (g.aw a (by simp[k2 o]))
 refine g.aR b6 dc i [-11,-17,-22] 100 a Fx ?_;rw[fo p,fo o,fx,fx,fx];refine g.aL 1 (λe=>e<=2/\∀m,m<e->pM b m=l) (λe:Nat=>[(1,aH 0 0),(24,a1.R b.2.2.2.1),(25,R (c b.2.2.2.1)),(26,R e)]) (λ_=>[ad2 b]) (λe=>2-e) 0 a E a E a ⟨by omega,by omega⟩ ?_;rintro e ⟨A,k⟩;by_cases s:e<2
 .have K:b.2.2.2.1.getD e a1.C=ou b e:=rfl;have q:b.2.2.2.2.getD e aC.C=oh b e:=rfl;have C:pM b e=(decide (0<=(ou b e).1/\(ou b e).1<=9)&&decide (0<=(ou b e).2)&&decide (0<=oh b e/\oh b e<=2)):=rfl;by_cases r:0<=(ou b e).1
  rotate_left
  .refine g.aR b6 dc i [27,34,39,44,52,59] 100 a FQ (g.aW (bX.zero a ?_));exact jZ
  by_cases t:(ou b e).1<=9
  rotate_left
  .refine g.aR b6 dc i [27,-34,39,44,52,59] 100 a FQ (g.aW (bX.zero a ?_));exact jZ
  by_cases w:0<=(ou b e).2
  rotate_left
  .refine g.aR b6 dc i [27,-34,-39,44,52,59] 100 a FQ (g.aW (bX.zero a ?_));exact jZ
  by_cases y:0<=oh b e
  rotate_left
  .refine g.aR b6 dc i [27,-34,-39,-44,52,59] 100 a Rg (g.aW (bX.zero a ?_));exact jZ
  by_cases F:oh b e<=2
  rotate_left
  .refine g.aR b6 dc i [27,-34,-39,-44,-52,59] 100 a Rg (g.aW (bX.zero a ?_));exact jZ
  refine g.aR b6 dc i [27,-34,-39,-44,-52,-59] 100 a ?_ (g.aA (e+1) a E E ⟨s,iI k N⟩ x);simp[-ak,K,q,a8];omega
 obtain rfl:e=2:=x;rw[fS.2 k];refine g.aR b6 dc i [-27] 100 a bT (g.aB ?_);exact g.aR b6 dc i [] 100 a v (g.aw a)
section
variable {p:af V}[p.b2]
abbrev gj:=Int×Int×m cY×dO×m Int
abbrev Co(a:gj):m Q:=[.c (.int .i64 a.1),.c (.int .i64 a.2.1),cK bx a.2.2.1,.c (.int .i64 a.2.2.2.1.1),.c (.int .i64 a.2.2.2.1.2.1),.c (.int .i64 a.2.2.2.1.2.2.1),.c (.V a.2.2.2.1.2.2.2),cK aC a.2.2.2.2]
abbrev lK(a:gj):y:=.n (.agg (Co a))
abbrev aep:m Q:=[.c (.int .i64 0),.c (.int .i64 0),cF,.c (.int .i64 0),.c (.int .i64 0),.c (.int .i64 0),.c (.V []),cF]
abbrev aeq:an:=.cells 38 aep
abbrev nL:dO:=(0,0,0,[])
structure Ar(h:Nat)(bd:gj×Nat):Prop where
 dZ:c bd.1.2.2.1<=7
 hn:c bd.1.2.2.2.2<=5
 ht:h<=bd.2
 gk:bd.2<=h+500
set_option maxRecDepth 20000 in
def I4(z)(b:Nat->Int)(i:Bytes b)(h)(w:h<=40000)(e:z<=1048576):
  bk (ι:={k:gj×Nat // Ar h k}) p 13 [aH 0 0] [eh z b h] (λk=>lK k.1.1) (λk=>[eh z b k.1.2]):=by
 refine bk.bx bb func13 rfl rfl rfl λS=>?_;refine aZ a v (g.a6 (hQ z b i h 9 x e x) [0] a bn ?_);rintro⟨d,D,F⟩;by_cases U:d<=3
 .apply g.cd [(0,aH 0 0),(2,aH 1 0)] [eh z b (h+1:Nat),aeq]
  .intro dx;have:d=0∨d=1∨d=2∨d=3:=x;rcases this with rfl|rfl|rfl|rfl
   .exact a6 [6,906] a E kw
   .exact a6 [-6,7,906] a E kw
   .exact a6 [-6,-7,8,906] a E kw
   exact a6 [-6,-7,-8,9,906] a E kw
  refine aZ a v (g.a6 (hQ z b i (h+1) 2 x e x) [0] a bn ?_);rintro⟨j,m,o⟩;refine aZ a tY (g.a6 (X3 z b i (h+1+1) x e) [0] a bn ?_);rintro⟨C,s,K,k1,t,J,y,R⟩;simp only;refine aZ a v (g.bh ⟨((1,1+j,C,nL,[]),k1),J,by simp,by grind,by grind⟩ [0] ?_ ha);simp
 by_cases M:d=4
 .subst M;refine a6 [-6,-7,-8,-9,17] a E (g.a6 (hQ z b i (h+1) 4 x e x) [0] a bn ?_);rintro⟨j,m,o⟩;refine aZ a v (g.bh ⟨((2,j,[],nL,[]),h+1+1),by simp,by simp,by grind,by grind⟩ [0] ?_ ha);simp
 by_cases N:d=5
 .subst N;refine a6 [-6,-7,-8,-9,-17,22] a E (g.a6 (hQ z b i (h+1) 2 x e x) [0] a bn ?_);rintro⟨j,m,o⟩;by_cases r:j=0
  .refine a6 [25] a (by simp[r]) (g.bh ⟨((3,0,[],nL,[]),h+1+1),by simp,by simp,by grind,by grind⟩ [0] ?_ ha);simp
  refine a6 [-25] a (by simp[r]) (g.a6 (V6 z b i (h+1+1) x e) [0] a bn ?_);intro A;refine aZ a v (g.bh ⟨((3,0,[],A,[]),h+1+1+4),by simp,by simp,by grind,by grind⟩ [0] ?_ ha);simp
 by_cases I:d=6
 .subst I;refine a6 [-6,-7,-8,-9,-17,-22,31] a E (g.a6 (VL z b i (h+1) x e) [0] a bn ?_);rintro⟨da,B⟩;refine aZ a v (g.bh ⟨((4,0,[],nL,da),h+1+5),by simp,B,by grind,by grind⟩ [0] ?_ ha);simp
 by_cases Q:d=7
 .subst Q;refine a6 [-6,-7,-8,-9,-17,-22,-31,36] a E (g.bh ⟨((5,0,[],nL,[]),h+1),by simp,by simp,by grind,by grind⟩ [0] ?_ ha);simp
 obtain rfl:d=8:=x;refine a6 [-6,-7,-8,-9,-17,-22,-31,-36] a E (g.a6 (hQ z b i (h+1) 8 x e x) [0] a bn ?_);rintro⟨j,m,o⟩;refine aZ a v (g.a6 (hQ z b i (h+1+1) 4 x e x) [0] a bn ?_);rintro⟨q,O,nI⟩;refine aZ a v (g.bh ⟨((j,q,[],nL,[]),h+1+1+1),by simp,by simp,by grind,by grind⟩ [0] ?_ ha);simp
abbrev gX(d:Int)(e:dQ)(a:dO)(b:Nat):m Q:=.c (.int .i64 d)::(v_ e++[.c (.int .i64 a.1),.c (.int .i64 a.2.1),.c (.int .i64 a.2.2.1),.c (.V a.2.2.2),.K b (.R 2 2 0 2),.K (b+1) (.R 2 1 0 2)])
abbrev lj(da:m (Int×Int))(a:m Int):m an:=[.p 51 2 2 (a1.fn da),.p 3 1 2 (aC.fn a)]
abbrev Dm:m (Int×Int):=[(0,0),(0,0)]
abbrev CR:m Int:=[0,0]
omit [p.b2]in
def Yj(h)(bW:cA h=l):X p 31 [R h] [] (.Q [.agg (gX h kS nL 0),.ar (.c (.bool l))]) (lj Dm CR):=by
 refine X.bc bb func31 rfl rfl rfl λj=>?_;have b:a9 p [(59,sK)]:=.cons wb .nil;refine a7 b [-7,903] a kT (g.region ?_);refine pB b [] 3 a v (g.gV bb a a a a a a ?_);refine g.gV bb a a a a a a ?_;refine b9 b a v (g.bf [.cells 35 (gX h kS nL 1),.p 51 2 2 (a1.fn Dm),.p 3 1 2 (aC.fn CR),.cells 35 (gX h kS nL 1)] a ?_ ?_)
 .simp only[T.X,T,a',a_];and_intros<;>first|rfl|exact bs.nil|(intro i d;match i,d with|0,_=>rfl|1,_=>rfl)
 refine g.cr () [1,2] ?_ (λk e=>absurd e E);simp
def Ew(d:Int)(b:ce)(a:Int)(e:m cY):ce×Bool:=
 if h0 d b=l/\(1<=a/\a<=2)/\dP e=l then(if fz d b e=l then b else eE d b a e,!fz d b e)else(([],[],[]),u)
end
section
variable {p:af V}
def yi:∀a,a<2->([0,1]:m Nat)[a]?=f a:=λa b=>by
 match a,b with
 |0,_=>rfl
 |1,_=>rfl
def gD(a:Int)(e:ce)(d:dO)(b:m (Int×Int)×m Int):m (Int×Int)×m Int:=
 if b.2.getD (a-1).toNat 0=0 then(b.1.set (a-1).toNat (gm (b.1.getD (a-1).toNat (0,0)) (kl e d).2.2).1,b.2.set (a-1).toNat (gm (b.1.getD (a-1).toNat (0,0)) (kl e d).2.2).2)else b
def td{bR}{b}{d}{bd}(a:c bd.1=2)(e:c bd.2=2):(gD bR b d bd).1.length=2/\(gD bR b d bd).2.length=2:=by unfold gD;split<;>simp[a,e]
abbrev E6:an:=.cells 51 [.c (.int .i64 0),.c (.int .i64 0)]
abbrev yN(a:Int×Int):an:=.cells 51 [.c (.int .i64 a.1),.c (.int .i64 a.2)]
abbrev aes:m Q:=[.c (.int .i64 0),cF,cF,cF,cF,cF,.c (.int .i64 0),.c (.int .i64 0),.c (.int .i64 0),.c (.V []),cF,cF]
abbrev fZ:an:=.cells 35 aes
def Ix(b:Int)(e:dQ)(d:dO)(da:m (Int×Int))(a:m Int)(g:Int×Int)(_ h i:Bool):m an:=
 match h,i with
 |false,_=>lj da a++[.cells 35 (gX b e d 0),fZ]
 |true,u=>lj da a++[.cells 35 (gX b e d 0),fZ,E6]
 |true,l=>lj da a++[.cells 35 (gX b e d 0),fZ,yN g]
abbrev aeh(i:dQ)(g:dO)(a:Int)(h:Int×Int)(d:ce)(b:(Int×Int)×Int)(e:Nat):y:=
 [aH 2 10,cD 0 (.R 2 2 0 2),R a,R (a-1),cD 0 (.bp 2 2 (0+(a-1).toNat) 0),lL h,aH 2 1,aH 2 1,bY i.1,aH 2 6,ep g,bY d,a1.R d.2.2,oM b,oM b,lL b.1,R b.2,aH 4 0,.any,R b.2].getD e .any
set_option maxRecDepth 20000 in
def Cz(h)(e)(d)(b)(da)(B)(z:oV e.1)(O:1<=b/\b<=2)(N:c da=2)(J:c B=2):
  X p 38 [.n (.agg (gX h e d 0)),R b] (lj da B) (.n (.agg (gX h e d 0))) (lj (gD b e.1 d (da,B)).1 (gD b e.1 d (da,B)).2):=by
 refine X.bc bb func38 rfl rfl rfl λI=>?_;have Q:=(rZ (p:=p) z d).d_.aI;have aI:=(rZ (p:=p) z d).cD;unfold gD;generalize kl e.1 d=i at *;have M:(b-1).toNat<2:=x;have C:(0:Nat)+(b-1).toNat<2:=x;have E:da.getD (b-1).toNat (0,0)=da.getD (0+(b-1).toNat) a1.C:=q4;have S:(da.getD (0+(b-1).toNat) a1.C)=(da.getD (0+(b-1).toNat) a1.C):=rfl;rw[E];have F:=Xl (p:=p) (da.getD (0+(b-1).toNat) a1.C) i.2.2 Q;generalize gm (da.getD (0+(b-1).toNat) a1.C) i.2.2=k at *;have j:a9 p [(69,ed [bY e.1,ep d] (bY i)),(68,ed [lL (da.getD (0+(b-1).toNat) a1.C),a1.R i.2.2] (oM k))]:=.cons (eu aI) (.cons (eu F) .nil);have A:a8 .i64 (b-1):=mW;have cz:0<=b-1/\b-1<((2:Nat):Int):=x;have D:2=2/\0+(b-1).toNat<2:=⟨rfl,C⟩;refine bf j [901] a v ?_;refine g.cm b6 (aeh e d b (da.getD (0+(b-1).toNat) a1.C) i k) (lf (Ix h e d da B k.1) 19 17 18) a a a a
  ⟨.ax,
  .ax,
  .ax,
  .dv bb j (cz:=by exact A),
  .dv bb j (cz:=by exact cz),
  .dv bb j (cz:=by exact D),
  .ax,
  .ax,
  .ax,
  .ax,
  .ax,
  .dv bb j (cz:=by exact a),
  .ax,
  .dv bb j (cz:=by exact a),
  .ax,
  .ax,
  .ax,
  b7.ef a a a a a (λw=>by cases w<;>exact d_ (bg:=[]) bb j (aq:=f _) a v),
  b7.eg a a a a a (λw=>by cases w<;>exact d_ (bg:=[]) bb j (aq:=f _) a v),
  b7.ee a a a a (λq K=>by cases q<;>cases K<;>exact aK.x),v⟩ ?_
 intro y s;show g p _ _ _ _ _ (Ix h e d da B k.1 (y 19) (y 17) (y 18));rw[s 19 ca,s 17 ca,s 18 ca];have t:B.getD (0+(b-1).toNat) aC.C=B.getD (b-1).toNat 0:=q4;by_cases r:B.getD (b-1).toNat 0=0
 .rw[bo r];refine bf j [30] a ?_ ?_
  .simp only[T,t,r,a8,f',a',a_];omega
  have m:=a1.cU da (0+(b-1).toNat) k.1 2 x;have o:=aC.cU B (0+(b-1).toNat) k.2 2 x;rw[cW]at m o;refine g.bf [.p 51 2 2 (a1.fn (da.set (b-1).toNat k.1)),.p 3 1 2 (aC.fn (B.set (b-1).toNat k.2)),.cells 35 (gX h e d 0),.cells 35 (gX h e d 0),yN k.1] a ?_ ?_
  .simp only[T.X,T,cW,a',a_];and_intros<;>first|exact bs.same|exact m|exact o|rfl
  exact PU
 rw[bl r];refine bf j [-30] a ?_ ?_
 .simp only[T,t,a8,eY,d6,a',a_];and_intros<;>first|exact r|omega
 exact PU
abbrev iC:=dQ×dO×m (Int×Int)×m Int
def nE(d:Int)(b:iC)(a:Int)(e:m cY):iC×Bool:=
 if(gD a b.1.1 b.2.1 b.2.2).2.getD (a-1).toNat 0=0/\b.2.1.1=0 then
  (if(fH d b.1 a e).2=l then(((fH d b.1 a e).1,b.2.1,gD a (fH d b.1 a e).1.1 b.2.1 (gD a b.1.1 b.2.1 b.2.2)),l)else((b.1,b.2.1,gD a b.1.1 b.2.1 b.2.2),u))
 else((b.1,b.2.1,gD a b.1.1 b.2.1 b.2.2),u)
def ck(d:Int)(a:iC)(b:gj):iC×Bool:=
 if b.1=1 then(if(1<=b.2.1/\b.2.1<=2)/\dP b.2.2.1=l then nE d a b.2.1 b.2.2.1 else(a,u))
 else if b.1=2 then(if 1<=b.2.1/\b.2.1<=2 then((a.1,a.2.1,gD b.2.1 a.1.1 a.2.1 a.2.2),l)else(a,u))
 else if b.1=3 then((a.1,b.2.2.2.1,a.2.2),l)
 else if b.1=4 then(if c a.1.2.2=0 then(((j_ d a.1.1 b.2.2.2.2).1,a.2),l)else(a,u))
 else if b.1=5 then((jw a.1,a.2),qw a.1)
 else(a,u)
structure f_(j:Nat)(b:iC):Prop where
 a:e_ (6000+240*j) b.1
 bb:c b.2.2.1=2
 b0:c b.2.2.2=2
def Ej{b}{bR}{o}(g:e_ j b)(e:(fH h b bR o).2=l):e_ (j+240) (fH h b bR o).1/\(fH h b bR o).1=mM h b bR o/\hj h b=l/\(1<=bR/\bR<=2)/\dP o=l/\fz h b.1 o=u:=by
 unfold fH at e⊢;split at e
 .rename_i d;rw[bo d];simp only[qE,cl,bw]at d;split at e
  .cases e
  rename_i q;have q:fz h b.1 o=u:=Fi;rw[bl F8];exact⟨g.cN d.2 d.1.2 q,a,d.1.1,d.1.2,d.2,q⟩
 cases e
def f_.cN{b}{bR}{o}(s:f_ j b):f_ (j+1) (nE h b bR o).1:=by
 have bW:=td (bR:=bR) (b:=b.1.1) (d:=b.2.1) (bd:=b.2.2) s.bb s.b0;unfold nE;split
 .split
  .rename_i i;have a:=td (bR:=bR) (b:=(fH h b.1 bR o).1.1) (d:=b.2.1) (bd:=gD bR b.1.1 b.2.1 b.2.2) bW.1 bW.2;exact⟨(Ej s.a i).1.mono x,a.1,a.2⟩
  exact FK
 exact FK
def f_.mono{j z}{b}(a:f_ j b)(d:j<=z):f_ z b:=⟨a.a.mono x,a.bb,a.b0⟩
def f_.do{b}{a}(s:f_ j b):f_ (j+1) (ck h b a).1:=by
 unfold ck;split
 .split
  .exact s.cN
  exact s.mono x
 split
 .split
  .have bW:=td (bR:=a.2.1) (b:=b.1.1) (d:=b.2.1) (bd:=b.2.2) s.bb s.b0;exact FK
  exact s.mono x
 split
 .exact⟨s.a.mono x,s.bb,s.b0⟩
 split
 .split
  .exact⟨(e_.iE s.a.ba).mono x,s.bb,s.b0⟩
  exact s.mono x
 split
 .exact⟨(e_.step s.a).mono x,s.bb,s.b0⟩
 exact s.mono x
abbrev Cj(b:Int)(a:iC):y:=.n (.agg (gX b a.1 a.2.1 0))
abbrev EU(d:Int)(a:iC)(b:Bool):y:=.Q [.agg (gX d a.1 a.2.1 0),.ar (.c (.bool b))]
abbrev hf(a:iC):m an:=lj a.2.2.1 a.2.2.2
def Xj(h)(b)(bR)(o)(j)(k:f_ j b)(D:j<=1000)(w:1<=bR/\bR<=2):
  X p 37 [Cj h b,R bR,bx.R o] (hf b) (EU h (nE h b bR o).1 (nE h b bR o).2) (hf (nE h b bR o).1):=by
 refine X.bc bb func37 rfl rfl rfl λC=>?_;have y:=Cz (p:=p) h b.1 b.2.1 bR b.2.2.1 b.2.2.2 k.a.ba.dD w k.bb k.b0;have A:=XY (p:=p) h b.1 bR o (k.a.b' x);have s:=td (bR:=bR) (b:=b.1.1) (d:=b.2.1) (bd:=b.2.2) k.bb k.b0;have z:=Ej (h:=h) (bR:=bR) (o:=o) k.a;unfold nE;rw[show((b.2.2.1,b.2.2.2):m (Int×Int)×m Int)=b.2.2 from a]at y;generalize gD bR b.1.1 b.2.1 b.2.2=e at *;have r:e.2.getD (0+(bR-1).toNat) aC.C=e.2.getD (bR-1).toNat 0:=q4;refine cy a v (g.aC y [0,1] a ?_);by_cases i:e.2.getD (bR-1).toNat 0=0
 rotate_left
 .rw[bl (λk=>i k.1)];refine bP [19,25] a ?_ ?_
  .simp only[T,r,a8,je,d6,a',a_];and_intros<;>first|exact i|omega
  exact oR
 by_cases q:b.2.1.1=0
 rotate_left
 .rw[bl (λk=>q k.2)];refine bP [-19,25] a ?_ ?_
  .simp only[T,r,i,a8,je,h4,d6,a',a_];and_intros<;>first|exact q|omega
  exact oR
 rw[bo ⟨i,q⟩];refine bP [-19,-25] a ?_ ?_
 .simp only[T,r,i,q,a8,h4,a',a_];omega
 refine g.aC A [] a ?_;cases jJ:(fH h b.1 bR o).2 with
 |false=>
  rw[bl E];exact bP [38] a t' oR
 |true=>
  rw[bo a];have B:=(z jJ).1;generalize(fH h b.1 bR o).1=w2 at *;have t:=Cz (p:=p) h w2 b.2.1 bR e.1 e.2 B.ba.dD w s.1 s.2;rw[show((e.1,e.2):m (Int×Int)×m Int)=e from a]at t;exact bP [-38] a t' (g.aC t [0,1] a (cy a v oR))
def tF(j):∀(e b:m Int)i,(b++e).Pairwise (· < ·)->(if i=l then True else ∀d∈b,d<j)->(i=l->∀d∈e,j<=d/\(j∈b)) ->
  (if(e.foldl (gr j) (b,i)).2=l then(e.foldl (gr j) (b,i)).1 else(e.foldl (gr j) (b,i)).1++[j]).Pairwise (· < ·)
 |[],b,i,s,r,_=>by
  simp[hL]at s;cases i<;>simp at r⊢
  .exact m9.2 ⟨s,by simp,by exact bu⟩
  omega
 |h::e,b,i,s,r,y=>by
  rw[iH];obtain⟨x,p,t⟩:=m9.1 s;obtain⟨w,A⟩:=iF.1 p;have B:∀d∈b,d<h:=λd g=>t d g h ir;have o:((b++[h])++e).Pairwise (· < ·):=wI;have v:(b++e).Pairwise (· < ·):=m9.2 ⟨x,A,λd g q k=>t d g q (mg _ k)⟩;unfold gr;cases i with
  |true=>
   simp[dH];split
   .exact tF j e b l v E λ_ d g=>⟨by grind,(y a h ir).2⟩
   exact tF j e (b++[h]) l o E λ_ d g=>⟨by grind,AS _ (y a h ir).2⟩
  |false=>
   simp[j7,dm]at r⊢;split
   .split
    .rename_i z;subst z;exact tF h e (b++[h]) l o E λ_ d g=>⟨by grind,by simp⟩
    refine tF j e (b++[j,h]) l ?_ E λ_ d g=>⟨by grind,by simp⟩
    rw[mh];refine m9.2 ⟨x,iF.2 ⟨λq k=>?_,p⟩,λd g q k=>?_⟩
    .rcases fa.1 k with rfl|k
     .omega
     have:=w q k;omega
    rcases fa.1 k with rfl|k
    .exact r d g
    exact t d g q k
   exact tF j e (b++[h]) u o (by simp;grind) E
def Zo{d}{j}(s:d.Pairwise (· < ·)):(e6 d j).Pairwise (· < ·):=tF j d [] u wI E E
def C4:∀{d a:m Int},a.Pairwise (· < ·)->(d.foldl e6 a).Pairwise (· < ·)
 |[],a,b=>b
 |e::d,a,b=>C4 (d:=d) (Zo b)
def ZR(d):(hX d).Pairwise (· < ·):=by
 unfold hX;have:∀(d:m ef) b,b.Pairwise (· < ·)->(d.foldl (λa e=>(gF e.2).foldl e6 a) b).Pairwise (· < ·):=λd=>by
  induction d with
  |nil=>simp
  |cons e d g=>exactλb h=>g _ (C4 h)
 simp_all
def YD(d):c (d.flatMap gh)<=c (hp d):=by
 induction d with
 |nil=>simp
 |cons C d a=>
  have:c (gh C)<=c (d9 C.2):=Rt;simp[hp,so,dk]at a⊢;omega
def rL(b:m Int)(d:Int):Int:=match b.findIdx? (λe=>e==d)with
 |some a=>a
 |none=>-1
def Vh(d)(aa):X p 134 [aC.R d,R aa] [] (R (rL d aa)) []:=by
 refine X.I func134 rfl λk=>?_;have s:=k.R 0 a;refine aZ a v (g.aL 0 (λb=>b<=c d/\∀e,e<b->d.getD e 0≠aa) (λb:Nat=>[(0,aC.R d),(1,R aa),(7,R (c d)),(8,R b)]) (λ_=>[]) (λb=>c d-b) 0 a E a v a ⟨by omega,by omega⟩ ?_);rintro b ⟨o,q⟩;by_cases j:b<c d
 .have i:d.getD (b:Int).toNat aC.C=d.getD b 0:=rfl;by_cases r:d.getD b 0=aa
  .have:rL d aa=b:=by
    have:d.findIdx? (λh=>h==aa)=f b:=by rw[uB];exact⟨j,by grind,λe m=>by grind⟩
    simp[rL,this]
   rw[this];refine a6 [9,16] a ?_ (g.aW (bX.zero a));simp only[T,i,bw,gM,a',a_];and_intros<;>first|omega|omega
  refine a6 [9,-16] a ?_ (g.aA (b+1) a ?_ v ⟨j,λe m=>?_⟩ x)
  .simp only[T,i,a8,bw,eY,a',a_];and_intros<;>first|grind|omega
  .simp
  grind
 have:rL d aa=-1:=by have:d.findIdx? (λh=>h==aa)=n:=wG;simp[rL,this]
 rw[this];exact QR
abbrev BH:bJ:=ev (e' aC) c6 (λa b=>bi (a.contains b)) λ_ _=>[]
def MV:bK p 90 BH:=.bk λb d _=>by refine X.I func90 rfl λh=>?_;have e:a9 p [(134,ev (e' aC) c6 (λb d=>R (rL b d)) λ_ _=>[])]:=.cons (.bk λb d _=>Vh b d) .nil;refine b9 e a NV (g.aw a ?_);simp[T,aC.l,a_];unfold rL;grind
def UV(d)(b):X p 89 [iQ d,ax (.M [.R u 1 (c b) (aC.fn b)])] [] (bi (!b.contains d.1)) []:=by refine X.I func89 rfl λh=>?_;have e:a9 p [(90,BH)]:=.cons MV .nil;refine b9 e a NV (g.aw a ?_);simp only[aC.l];simp
abbrev GU(e:ce)(b:m ef)(d:Q)(a:m Int)(h:Y)(g:m Int):m an:=[jV e,.J,.cells 30 l5,.J,.J,.cells 30 [cK a3 e.1,cK bh b,cK a1 e.2.2,d,.w 6 1 (c a) (aC.fn a)],.w 3 1 (c a) (aC.fn a),jg h g]
def T3(h)(b)(i)(m:dK b)(s:nX b):X (af.aD V) 46 [R h,bY b,aC.R i] [] (jX (j_ h b i).1 (j_ h b i).2) []:=by
 refine X.bx func46 rfl rfl rfl λy=>?_;have k:a9 (af.aD V) [(72,xI)]:=.cons ER .nil;have O:=m.aM;have U:=m.a0;unfold j_;cases q:h0 h b with
 |false=>
  refine g.aR b6 dc k [17] 200 a ?_ ?_
  .simp only[T,a3.l,a3.T,bh.l,bh.T,a1.l,a1.T,q,s,a',a_,hK]
  refine g.freeze 6 2 a a a ?_;refine g.b9 dc [] a ?_ a a a fy;simp
 |true=>
 rw[bo a];refine g.aR b6 dc k [-17] 200 a ?_ ?_
 .simp only[T,a3.l,a3.T,bh.l,bh.T,a1.l,a1.T,q,s,a',a_,fm]
 refine g.aC (pb b m.aM m.bl m.a0 m.bn m.aI) [] a (g.aR b6 dc k [904] 200 a v (g.freeze 5 1 a a a ?_));refine g.aR b6 dc k [] 200 a v (g.a6 (I1 b.2.1 m.a0 89 [.R u 1 (c i) (aC.fn i)] (λj=>!i.contains j.1) λj _=>UV j i) [4] a bn ?_);rintro⟨F,C⟩;simp only[Bool.not_not]at C⊢;have B:c (b.2.1.filter λj=>i.contains j.1)<=c b.2.1:=kA _ _;have I:∀j∈b.2.1.filter (λj=>i.contains j.1),j∈b.2.1:=λj r=>(jd.1 r).1;have M:c (hp (b.2.1.filter λj=>i.contains j.1))<=c (hp b.2.1):=GC b.2.1 λj=>i.contains j.1;generalize b.2.1.filter (λj=>i.contains j.1)=d at *;refine g.aR b6 dc k [905] 200 a v (g.bu 4 a a a (by simp;exact B) (by simp;exact⟨v,B⟩) (g.bu 3 a a a E (by simp;exact v) (g.ck 5 4 3 1 (aC.fn []) a a ?_)));refine g.bf [jV b,.J,.cells 30 l5,.J,.J,.cells 30 [cK a3 b.1,cK bh d,cK a1 b.2.2,cF,.w 6 1 0 (aC.fn [])],.w 3 1 0 (aC.fn [])] a ?_ ?_
 .simp only[T.X,T,a',a_];and_intros<;>first|exact bs.same|exactλe p=>C e p|rfl|simp
 refine g.aR b6 dc k [] 200 a v (g.h5 a a a λw=>?_);refine g.aR b6 dc k [] 200 a v ?_;refine g.aL 8 (λe=>e<=c d) (λe:Nat=>[(4,aH 0 0),(6,aH 2 0),(8,aH 5 0),(9,sP w),(32,bh.R d),(33,R (c d)),(34,R e)])
  (λe=>GU b d cF [] w ((d.take e).flatMap gh)) (λe=>c d-e) 0 a E a E a x ?_
 intro e p;by_cases o:e<c d
 .have z:d.getD e bh.C=d.getD e (0,[]):=rfl;have r:=s.dW _ (I _ (oj (K:=(0,[])) o));have S:=GF o;have J:=s.eC;have A:(d.take (e+1)).flatMap gh=(d.take e).flatMap gh++gh (d.getD e (0,[])):=by rw[ih o (0,[])];simp
  generalize d.getD e (0,[])=j at *;refine g.aR b6 dc k [35] 200 a bT ?_;simp only[c5,z];refine g.aC (CC j r.1 x) [] a (g.aR b6 dc k [] 200 a v (g.aC (IO w ((d.take e).flatMap gh) (gh j)) [7] a ?_));rw[<-A];refine g.aR b6 dc k [] 200 a ?_ (g.aA (e+1) a E E o x);exact oQ
 obtain rfl:e=c d:=x;rw[c9];have W:=YD d;have J:=s.eC;refine g.aR b6 dc k [-35] 200 a E (g.aB ?_);refine g.aR b6 dc k [] 200 a v (g.aC (Wi w (d.flatMap gh) (hX d) x (ZR d) λN=>by rw[tg];simp[yJ]) [7] a (g.aR b6 dc k [] 200 a v ?_));refine g.aL 8 (λe=>e<=c b.1) (λe:Nat=>[(4,aH 0 0),(6,aH 2 0),(8,aH 5 0),(47,a3.R b.1),(48,R (c b.1)),(49,R e)])
  (λe=>GU b d (cK aC (hX d)) ((b.1.take e).map (·.1)) w (d.flatMap gh)) (λe=>c b.1-e) 0 a E a E a x ?_
 intro e p;have Q:c ((b.1.take e).map (·.1))=e:=bT;by_cases o:e<c b.1
 .have z:b.1.getD e a3.C=b.1.getD e (0,[]):=rfl;have A:=map_take (al:=λt:cb=>t.1) o (0,[]);generalize(b.1.take e).map (λt:cb=>t.1)=D at *;generalize b.1.getD e (0,[])=t at *;have r:=aC.aX D t.1;refine g.aR b6 dc k [50] 200 a ?_ (g.aA (e+1) a E ?_ o x)
  .simp[-ak,z,o,a8,show ee.bytes=8 from a];omega
  rw[A];simp only[T.X,T,c5,z,dk,gJ,a',a_];and_intros<;>first|exact bs.same|exact r|rfl|omega
 obtain rfl:e=c b.1:=x;rw[c9];refine g.aR b6 dc k [-50] 200 a E (g.aB ?_);refine g.aR b6 dc k [] 200 a v (g.freeze 8 5 a a a ?_);refine g.freeze 6 2 a a a ?_;refine g.b9 dc [] a ?_ a a a fy;simp[bh.l]
def I2(h)(b)(d)(j)(e:f_ j b)(y:j<=1000):
  X p 14 [Cj h b,lK d] (hf b) (EU h (ck h b d).1 (ck h b d).2) (hf (ck h b d).1):=by
 refine X.bc bb func14 rfl rfl rfl λz=>?_;have m:=e.a.b' x;have w:a9 p [(26,jK),(36,sI),(39,Hf)]:=.cons ku (.cons t36 (.cons acT .nil));unfold ck;by_cases B:d.1=1
 .rw[bo B];by_cases q:1<=d.2.1/\d.2.1<=2
  rotate_left
  .rw[bl (λe=>q e.1)];refine bf w [13,-16,-21] a ?_ ?_
   .simp only[T,B,f',a',a_];grind
   exact oR
  cases i:dP d.2.2.1 with
  |false=>
   rw[bl E];exact bf w [13,16,-21] a P6 oR
  |true=>
   rw[bo ⟨q,rfl⟩];have r:=Xj (p:=p) h b d.2.1 d.2.2.1 j e y q;exact bf w [13,16,21] a P6 (g.aC r [0,1] a FG)
 rw[bl B];by_cases q:d.1=2
 .rw[bo q];by_cases i:1<=d.2.1/\d.2.1<=2
  rotate_left
  .rw[bl i];refine bf w [-13,31,-34] a ?_ ?_
   .simp only[T,q,f',a',a_];grind
   exact oR
  rw[bo i];have t:=Cz (p:=p) h b.1 b.2.1 d.2.1 b.2.2.1 b.2.2.2 e.a.ba.dD i e.bb e.b0;refine bf w [-13,31,34] a ?_ ?_
  .simp only[T,q,i,lB,and_self,f',a',a_];decide
  exact g.aC t [0,1] a FG
 rw[bl q];by_cases i:d.1=3
 .rw[bo i];refine bf w [-13,-31,40] a ?_ ?_
  .simp only[T,i,f',a',a_];decide
  exact oR
 rw[bl i];by_cases o:d.1=4
 .rw[bo o];by_cases k:c b.1.2.2=0
  .rw[bo k];have s:(c b.1.2.2:Int)=0:=x;refine bf w [-13,-31,-40,46,51] a ?_ ?_
   .simp only[T,o,s,m.ba,m.b5,a3.l,a3.T,bh.l,bh.T,a1.l,a1.T,aC.l,aC.T,f',a',a_];decide
   refine g.cr () [0,1] ?_ yi;exact z_
  rw[bl k];refine bf w [-13,-31,-40,46,-51] a ?_ ?_
  .simp only[T,o,f',eY,d6,a',a_];and_intros<;>first|decide|omega
  exact oR
 rw[bl o];by_cases k:d.1=5
 .rw[bo k];have r:=XI (p:=p) b.1 m.ba m.cy m.cW;refine bf w [-13,-31,-40,-46,67] a ?_ ?_
  .simp only[T,k,f',a',a_];decide
  exact g.aC r [] a FG
 rw[bl k];refine bf w [-13,-31,-40,-46,-67] a ?_ ?_
 .simp only[T,eY,d6,a',a_];grind
 exact oR
abbrev vv(a:dO):m Q:=[.c (.int .i64 a.1),.c (.int .i64 a.2.1),.c (.int .i64 a.2.2.1),.c (.V a.2.2.2)]
abbrev Cg(da:m (Int×Int))(a:m Int):m an:=[.p 51 2 (c da) (a1.fn da),.p 3 1 (c a) (aC.fn a)]
abbrev zO(a:ek)(d b:Nat):m Q:=.c (.int .i64 a.1)::([cK a3 a.2.1.1.1,cK bh a.2.1.1.2.1,cK a1 a.2.1.1.2.2,cK aC a.2.1.2.1,.w d 1 (c a.2.1.2.2) (aC.fn a.2.1.2.2)]++vv a.2.2.1++[.K b (.R (c a.2.2.2.1) 2 0 (c a.2.2.2.1)),.K (b+1) (.R (c a.2.2.2.2) 1 0 (c a.2.2.2.2))])
abbrev mV(a:ek):an:=.cells 35 (lu a)
abbrev hV(a:dQ):an:=.w 3 1 (c a.2.2) (aC.fn a.2.2)
def Ir(a:ek)(d e g h:Bool):m an:=
 match d,e,g,h with
 |true,l,l,l=>[mV a,.cells 35 (.c (.int .i64 a.1)::([cK a3 a.2.1.1.1,cK bh a.2.1.1.2.1,cK a1 a.2.1.1.2.2,cK aC a.2.1.2.1,.w 2 1 (c a.2.1.2.2) (aC.fn a.2.1.2.2)]++vv a.2.2.1++[.K 3 (.R (0+c a.2.2.2.1) 2 0 (0+c a.2.2.2.1)),.K 4 (.R (0+c a.2.2.2.2) 1 0 (0+c a.2.2.2.2))])),hV a.2.1,
   .p 51 2 (0+c a.2.2.2.1) (cg 0 (λb=>([]:m (m O)).getD b []) (a1.fn a.2.2.2.1)),.p 3 1 (0+c a.2.2.2.2) (cg 0 (λb=>([]:m (m O)).getD b []) (aC.fn a.2.2.2.2))]
 |true,l,l,u=>[mV a,fZ,hV a.2.1,.p 51 2 (0+c a.2.2.2.1) (cg 0 (λb=>([]:m (m O)).getD b []) (a1.fn a.2.2.2.1)),.p 3 1 (0+c a.2.2.2.2) (cg 0 (λb=>([]:m (m O)).getD b []) (aC.fn a.2.2.2.2))]
 |true,l,u,_=>[mV a,fZ,hV a.2.1,.p 51 2 (0+c a.2.2.2.1) (cg 0 (λb=>([]:m (m O)).getD b []) (a1.fn a.2.2.2.1))]
 |true,u,_,_=>[mV a,fZ,hV a.2.1]
 |false,_,_,_=>[mV a,fZ]
abbrev K0(b:Nat):y:=ax (.R l b 0 λa=>([]:m (m O)).getD a [])
abbrev EG(a:dQ)(b:Nat):m Q:=[cK a3 a.1.1,cK bh a.1.2.1,cK a1 a.1.2.2,cK aC a.2.1,.w b 1 (c a.2.2) (aC.fn a.2.2)]
abbrev aeb(a:ek)(b:Nat):y:=
 [aH 0 0,R a.1,aH 0 1,gz a.2.1,.n (.agg (EG a.2.1 2)),aH 0 6,ep a.2.2.1,K0 2,aH 0 10,a1.R a.2.2.2.1,cD 3 (.R (0+c a.2.2.2.1) 2 0 (0+c a.2.2.2.1)),K0 1,aH 0 11,aC.R a.2.2.2.2,cD 4 (.R (0+c a.2.2.2.2) 1 0 (0+c a.2.2.2.2)),
  .n (.agg (.c (.int .i64 a.1)::(EG a.2.1 2++vv a.2.2.1++[.K 3 (.R (0+c a.2.2.2.1) 2 0 (0+c a.2.2.2.1)),.K 4 (.R (0+c a.2.2.2.2) 1 0 (0+c a.2.2.2.2))]))),.any].getD b .any
set_option maxRecDepth 20000 in
def u6(b)(q:p0 b.2.1)(j:c b.2.2.2.1<=4000000)(K:c b.2.2.2.2<=4000000):X p 15 [eZ b] [] (.n (.agg (zO b 0 1))) ([hV b.2.1]++Cg b.2.2.2.1 b.2.2.2.2):=by
 refine X.bc bb func15 rfl rfl rfl λk=>?_;have w:a9 p [(41,k5 [gz b.2.1] [] (.n (.agg (EG b.2.1 0))) [hV b.2.1])]:=.cons (l3 (IW b.2.1 q.ba q.cy q.cW)) .nil;have h:(0+c b.2.2.2.1)*Df.bytes<=140737488355328:=by rw[show Df.bytes=16 from a];omega
 have e:(0+c b.2.2.2.2)*ee.bytes<=140737488355328:=by rw[show ee.bytes=8 from a];omega
 refine bf w [901] a v ?_;refine g.cm b6 (aeb b) (mv (Ir b) 4 10 14 16) a a a a
  ⟨.aO,
  .aO,
  .aO,
  .aO,
  b7.ec a a a a a a (d_ (bg:=[]) bb w (aq:=f _) a ⟨rfl,rfl⟩),
  .aO,
  .aO,
  .aO,
  .aO,
  .aO,
  b7.eS a a a a a a (d_ (bg:=[3000013]) bb w (aq:=f _) a h),
  .aO,
  .aO,
  .aO,
  b7.eT a a a a a a (d_ (bg:=[3000017]) bb w (aq:=f _) a e),
  .aO,
  b7.eW a a a a a a (d_ (bg:=[]) bb w (aq:=f _) a v),v⟩ ?_
 intro y i;show g p _ _ _ _ _ (Ir b (y 4) (y 10) (y 14) (y 16));rw[i 4 ca,i 10 ca,i 14 ca,i 16 ca];refine pB w [] 1 a v (g.bf [mV b,.cells 35 (zO b 2 3),hV b.2.1,.p 51 2 (c b.2.2.2.1) (a1.fn b.2.2.2.1),.p 3 1 (c b.2.2.2.2) (aC.fn b.2.2.2.2)] a ?_ ?_)
 .simp[o7]
 refine g.bh () [2,3,4] ?_ (λm d=>absurd d E);simp
def Us(b)(i:p0 b.2.1)(d:c b.2.2.2.1<=4000000)(h:c b.2.2.2.2<=4000000):X p 15 [eZ b] [] (eZ b) []:=by have e:=X.bL (aP:=[hV b.2.1,.p 51 2 (c b.2.2.2.1) (a1.fn b.2.2.2.1)]) (u6 (p:=p) b i d h) a E a E;have g:=X.bL (aP:=[hV b.2.1]) e a E a E;refine g.bZ a ?_ a;simp[hD]
end
section
variable {p:af V}
def Jm(z)(d)(e:c d<=4000000):X p 84 [lL z,a1.R d] [] (oM (gm z d)) []:=by refine X.bc bb func84 rfl rfl rfl λi=>?_;have h:a9 p [(56,ed [lL z,a1.R d] (oM (gm z d)))]:=.cons (eu (Jl z d e)) .nil;refine b9 h a (by simp[a1.l];rfl) ?_;refine g.cr () [] ?_ (λj b=>absurd b E);simp
abbrev rD(a:gj):an:=.cells 38 (Co a)
abbrev pO(a:Int)(d:dQ)(b:dO):an:=.cells 35 (gX a d b 6)
abbrev aby(a:Int×Int):y:=ax (.val (.func (.func 84) #[.agg [.int .i64 a.1,.int .i64 a.2].toArray] #[]))
abbrev pw(d b:ao×Y)(a:ek)(e:gj):m an:=kX d b++[.cells 35 (lu a),rD e,fZ]
abbrev NG(h:Nat)(i:dQ)(e:dO)(g:Int×Int)(b:ce)(a:(Int×Int)×Int)(d:Nat):y:=
 [aby g,aH 8 0,aH 8 0,aH 8 1,aH 8 1,bY i.1,aH 8 0,aH 8 0,aH 8 6,ep e,bY b,a1.R b.2.2,oM a,oM a,lL a.1,R a.2,aH h 0,.any,R a.2].getD d .any
def xV(a:m an)(b:Int×Int)(_ d e:Bool):m an:=
 match d,e with
 |false,_=>a
 |true,u=>a++[E6]
 |true,l=>a++[yN b]
abbrev qp(b:m Int):={a:Nat->m O // bs 2 a (aC.fn b)}
abbrev n6(e d:ao×Y)(b:ek)(g:gj)(i:Int)(k:dQ)(j:dO)(da:m (Int×Int))(a:Nat->m O)(h:gj):m an:=pw e d b g++[.p 51 2 2 (a1.fn da),.p 3 1 2 a,pO i k j]++[rD h]
set_option maxRecDepth 20000 in
def IV(r j)(o)(e)(z)(h)(m)(d)(b)(da)(k)(D:oV m.1)(M:1<=b/\b<=2)(S:c da=2)(Q:c k=2):
  bk (ι:=qp (gD b m.1 d (da,k)).2) p 44 [aH 8 0,R b] (n6 r j o e h m d da (aC.fn k) z) (λ_=>.Q []) (λF=>n6 r j o e h m d (gD b m.1 d (da,k)).1 F.1 z++[.J]):=by
 refine bk.bO func44 rfl rfl rfl (g.aU ?_);have I:=(rZ (p:=p) D d).d_.aI;have aI:=Dj (p:=p) D d;unfold gD;generalize kl m.1 d=s at *;have N:(b-1).toNat<2:=x;have U:(0:Nat)+(b-1).toNat<2:=x;have J:da.getD (b-1).toNat (0,0)=da.getD (0+(b-1).toNat) a1.C:=q4;rw[J];have E:=Jm (p:=p) (da.getD (0+(b-1).toNat) a1.C) s.2.2 I;generalize gm (da.getD (0+(b-1).toNat) a1.C) s.2.2=t at *;have i:a9 p [(58,ed [bY m.1,ep d] (bY s))]:=.cons (eu aI) .nil;have C:k.getD (0+(b-1).toNat) aC.C=k.getD (b-1).toNat 0:=q4;by_cases A:k.getD (b-1).toNat 0=0
 rotate_left
 .rw[bl A];refine g.fo 0 1 ?_;refine g.cM 10 a bn ?_;refine bf i [15] a ?_ ?_
  .simp only[T,C,a8,je,d6,a',a_];and_intros<;>first|exact A|omega
  exact O2
 rw[bo A];refine bf i [-15] a ?_ ?_
 .simp only[T,C,A,a8,h4,a',a_];omega
 refine g.cE _ _ a a (eF.hA a a a) λO=>?_;refine bf i [902] a v ?_;refine g.cm b6 (NG 10 m d (da.getD (0+(b-1).toNat) a1.C) s t) (lf (xV (n6 r j o e h m d da (aC.fn k) z) t.1) 18 16 17) a a a a
  ⟨.ax,
  .ax,
  .ax,
  .ax,
  .ax,
  .ax,
  .ax,
  .ax,
  .ax,
  .ax,
  .dv bb i (cz:=by exact a),
  .ax,
  b7.bF a a a (λw q K=>aK.gZ (λ_ _ _ _=>i5 a) a a O.2 a E a a a),
  .ax,
  .ax,
  .ax,
  b7.ef a a a a a (λw=>by cases w<;>exact d_ (bg:=[]) bb i (aq:=f _) a v),
  b7.eg a a a a a (λw=>by cases w<;>exact d_ (bg:=[]) bb i (aq:=f _) a v),
  b7.ee a a a a (λq K=>by cases q<;>cases K<;>exact aK.x),v⟩ ?_
 intro y B;show g p _ _ _ _ _ (xV (n6 r j o e h m d da (aC.fn k) z) t.1 (y 18) (y 16) (y 17));rw[B 18 ca,B 16 ca,B 17 ca];refine bf i [904] a tT (g.cM 10 a bn ?_);have dM:=a1.cU da (0+(b-1).toNat) t.1 2 x;have eT:=aC.cU k (0+(b-1).toNat) t.2 2 x;rw[cW]at dM eT;refine g.bf (n6 r j o e h m d (da.set (b-1).toNat t.1) (aC.fn k) z++[.J]) a PH ?_;exact Ph
abbrev uO(h g:ao×Y)(b:ek)(d:gj)(j:Int)(o:dQ)(k:dO)(da:m (Int×Int))(a:Nat->m O)(i:gj)(e:dQ):m an:=pw h g b d++[.p 51 2 2 (a1.fn da),.p 3 1 2 a,pO j o k]++[rD i,.J,gu e]
set_option maxRecDepth 20000 in
def Uk(r j)(o)(e)(z)(A)(h)(m)(d)(b)(da)(k)(E:oV m.1)(N:1<=b/\b<=2)(U:c da=2)(M:c k=2):
  bk (ι:=qp (gD b m.1 d (da,k)).2) p 44 [aH 8 0,R b] (uO r j o e h m d da (aC.fn k) z A) (λ_=>.Q []) (λI=>uO r j o e h m d (gD b m.1 d (da,k)).1 I.1 z A++[.J]):=by
 refine bk.bO func44 rfl rfl rfl (g.aU ?_);have J:=(rZ (p:=p) E d).d_.aI;have aI:=Dj (p:=p) E d;unfold gD;generalize kl m.1 d=s at *;have S:(b-1).toNat<2:=x;have V:(0:Nat)+(b-1).toNat<2:=x;have Q:da.getD (b-1).toNat (0,0)=da.getD (0+(b-1).toNat) a1.C:=q4;rw[Q];have O:=Jm (p:=p) (da.getD (0+(b-1).toNat) a1.C) s.2.2 J;generalize gm (da.getD (0+(b-1).toNat) a1.C) s.2.2=t at *;have i:a9 p [(58,ed [bY m.1,ep d] (bY s))]:=.cons (eu aI) .nil;have D:k.getD (0+(b-1).toNat) aC.C=k.getD (b-1).toNat 0:=q4;by_cases B:k.getD (b-1).toNat 0=0
 rotate_left
 .rw[bl B];refine g.fo 0 1 ?_;refine g.cM 12 a bn ?_;refine bf i [15] a ?_ ?_
  .simp only[T,D,a8,je,d6,a',a_];and_intros<;>first|exact B|omega
  exact O2
 rw[bo B];refine bf i [-15] a ?_ ?_
 .simp only[T,D,B,a8,h4,a',a_];omega
 refine g.cE _ _ a a (eF.hA a a a) λF=>?_;refine bf i [902] a v ?_;refine g.cm b6 (NG 12 m d (da.getD (0+(b-1).toNat) a1.C) s t) (lf (xV (uO r j o e h m d da (aC.fn k) z A) t.1) 18 16 17) a a a a
  ⟨.ax,
  .ax,
  .ax,
  .ax,
  .ax,
  .ax,
  .ax,
  .ax,
  .ax,
  .ax,
  .dv bb i (cz:=by exact a),
  .ax,
  b7.bF a a a (λw q K=>aK.gZ (λ_ _ _ _=>i5 a) a a F.2 a O a a a),
  .ax,
  .ax,
  .ax,
  b7.ef a a a a a (λw=>by cases w<;>exact d_ (bg:=[]) bb i (aq:=f _) a v),
  b7.eg a a a a a (λw=>by cases w<;>exact d_ (bg:=[]) bb i (aq:=f _) a v),
  b7.ee a a a a (λq K=>by cases q<;>cases K<;>exact aK.x),v⟩ ?_
 intro y C;show g p _ _ _ _ _ (xV (uO r j o e h m d da (aC.fn k) z A) t.1 (y 18) (y 16) (y 17));rw[C 18 ca,C 16 ca,C 17 ca];refine bf i [904] a tT (g.cM 12 a bn ?_);have dM:=a1.cU da (0+(b-1).toNat) t.1 2 x;have eT:=aC.cU k (0+(b-1).toNat) t.2 2 x;rw[cW]at dM eT;refine g.bf (uO r j o e h m d (da.set (b-1).toNat t.1) (aC.fn k) z A++[.J]) a PH ?_;exact Ph
end
end R1
end Go.AM
