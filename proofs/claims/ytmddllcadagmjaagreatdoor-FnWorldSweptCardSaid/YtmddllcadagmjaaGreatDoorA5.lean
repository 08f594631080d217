/- Part 5. No condition. -/
import Derived.Test.YtmddllcadagmjaaGreatDoorA4
import Derived.Conc.CrowdComm
import Derived.Conc.SmallLaws
import Derived.Conc.EventLaws
set_option linter.all false
set_option maxHeartbeats 8000000
open Go.Proofs
open Go.Proofs.Tryz
open List renaming length → c, range → aA, getD_eq_getElem?_getD → aj, all_eq_true → aW
open Go renaming Value → X, TypeId → ak, World → au, Frame → aG, execOp → ab, Operand → ae, Program → aD, Goroutine → ai, Oper → an
open Option renaming some → h, none → n
open Bool renaming true → l, false → v
open Nat renaming beq → ad, ble → ax
open Go.Proofs.Tryz renaming prog → T
namespace Go.AM
variable {j A:Nat}{f:Int}{d i e u:Nat}{W:ak}{H:X->(Nat->Option Obj)->Prop}{L:Array Bool}{bB:Mem}{F:Nat}{P:aD}{br:ai->a6->Prop}{t:Code}{C:ai}{r:an}{b:a6}{o:ak}{aa:X}{p:au}{α:Type}{η:ae->y}{ι:Type}{k:m aq}{I:bL}{all:m an}{dt:Array ak}{cap:m M}{cS:m y}{ld:Nat->Option Obj}{ah:m aG}{bh:m (Nat×Bool)}{V:Nat->m M}{cQ:ae}{gs:Array ai}{aX:m Nat}{cq:m Prop}{off:Nat}{op:BinOp}{aR:Array an}{Z:m Prop}{bq:m an}{aE:a6}{ty:ak}{val:Nat->Nat->X}{z:m X}{bi:au}{ag:Array ae}{ar dj:m aq}{res:ι->y}{aU:ι->m aq}
variable {CT:m (Nat×bH)}{av:m iu}{be:fD}{ac:m (Nat×cr)}{a5:cr}
namespace R1
section
variable {q:af T}
abbrev AE:=Int×Int
def hD(a:AE):Bool:=decide (1<=a.1/\a.1<=2)&&decide (1<=a.2/\a.2<=20)
def g_(a:m AE):Bool:=(aA (c a)).all (λb=>hD (a.getD b (0,0)))&&decide (c a<=9)
abbrev Co(a:AE):y:=.n (.agg [.c (.int .i64 a.1),.c (.int .i64 a.2)])
def VM(b):Y q 194 [Co b] [] (bg (hD b)) []:=by
 refine Y.ab func194 rfl λf=>?_;have e:a_ q [(44,kN)]:=.cons lA .nil;by_cases d:1<=b.1/\b.1<=2
 .exact a8 e [6] a (by simp[d]) (g.ao a (by simp[hD,d]))
 exact a8 e [-6] a bM (g.ao a (by simp only[U,hD,n4 d];simp))
def W1(d):Y q 126 [a4.B d] [] (bg (g_ d)) []:=by
 refine Y.ab func126 rfl λm=>?_;have r:=m.B 0 a;have f:a_ q [(194,di sx (λe=>bg (hD e)) λ_=>[])]:=.cons (.a9 λe _=>VM e) .nil;refine b9 f a B ?_;unfold g_;refine g.b7 (λb=>b<=c d/\∀k,k<b->hD (d.getD k (0,0))=l) (λb:Nat=>[(0,a4.B d),(3,Q b)]) (λ_=>[]) (λb=>c d-b) 0 a D a B ⟨by omega,by omega⟩ ?_;rintro b ⟨p,j⟩;by_cases e:b<c d
 .have o:d.getD b a4.E=d.getD b (0,0):=rfl;cases i:hD (d.getD b (0,0))with
  |false=>
   refine a8 f [7,15] a ds (g.bR (bW.zero a ?_));rw[lM e i];simp
  |true=>
   refine a8 f [7,-15] a ?_ (g.b4 (b+1) a D a B ⟨e,jn j i⟩ w);simp[-aj,o,i,e,a7];omega
 obtain rfl:b=c d:=w;refine a8 f [-7] a D (g.bs a a ?_);exact b9 f a B (g.ao a (by rw[gd.2 j];simp;omega))
abbrev n':bH:=di (eS a4) (λa=>bg (g_ a)) λ_=>[]
def Ng:bK q 126 n':=.a9 λa _=>W1 a
def cc(a:m b4):m Int:=a.flatMap λb=>b.2.map (·.1)
def kl(d:α->Int)(b:α)(e:m α)(a:Nat):Bool:=a==0||decide (d (e.getD (a-1) b)<d (e.getD a b))
def nN(d:Int)(a:m b4)(b:Nat):Bool:=ij d (a.getD b (0,[]))&&kl (·.1) (0,[]) a b
def lz(d:Int)(a:cb)(b:Nat):Bool:=decide (1<=(a.2.1.getD b (0,[])).1/\(a.2.1.getD b (0,[])).1<=20)&&kl (·.1) (0,[]) a.2.1 b&&(dU d (a.2.1.getD b (0,[])) a.1).isSome
def h3(b:Int)(a:cb):Bool:=(aA (c a.1)).all (nN b a.1)&&decide (cc a.1).Nodup&&(aA (c a.2.1)).all (lz b a)&&cm b&&g_ a.2.2&&decide (c a.1<=20)
def K9{Z}(a:e<c Z):cc (Z.take (e+1))=cc (Z.take e)++(Z.getD e (0,[])).2.map (·.1):=by rw[h4 a (0,[])];simp[cc]
def aaA{Z}(a:¬(cc (Z.take e)).Nodup):¬(cc Z).Nodup:=λb=>a (by
 have:cc Z=cc (Z.take e)++cc (Z.drop e):=Se
 grind)
abbrev oN(a:cb):aq:=.cells 30 [.c (.B v 2 (c a.1) (a1.fn a.1)),.c (.B v 2 (c a.2.1) (bd.fn a.2.1)),.c (.B v 2 (c a.2.2) (a4.fn a.2.2))]
def VD(f)(b)(d)(j:c d.2<=4000000)(m:∀i∈d.2,c i.2<=4000000):Y q 130 [Q f,b0 b,i2 d] [] (bg (dU f d b.1).isSome) []:=by
 refine Y.ab func130 rfl λk=>?_;have e:a_ q [(196,HQ)]:=.cons ad' .nil;have o:(d.1,cx.ad (c d.2) (cx.fn d.2))=d:=by rw[cx.l]
 refine b9 e a bE (g.ao a ?_);simp[cx.l,a1.l]
abbrev Hl:bH:=jS c7 mn (jI cx) (λb d a=>bg (dU b a d.1).isSome) λ_ _ a=>[c a.2<=4000000,∀e∈a.2,c e.2<=4000000]
def adA:bK q 130 Hl:=.cM λb d e a=>VD b d e a.1 a.2
def qc{al:α->Int}{O}{d}(a:e≠0):kl al O d e=decide (al (d.getD (e-1) O)<al (d.getD e O)):=by unfold kl;grind
def Yn(f)(b)(L:iL b)(P:c b.1<=4000000)(ae:c b.2.1<=4000000):Y q 77 [Q f,b0 b] [] (bg (h3 f b)) []:=by
 refine Y.ab func77 rfl λaM=>?_;have t:a_ q [(129,HF),(79,u5),(44,kN),(130,Hl),(43,rD),(126,n')]:=.cons adV (.cons zL (.cons lA (.cons adA (.cons tX (.cons Ng .nil)))));refine a8 t [902] a B (g.bE 5 3 1 a a ?_);refine b9 t a B ?_;unfold h3;refine g.aB 2 (λe=>e<=c b.1/\(∀k,k<e->nN f b.1 k=l)/\(cc (b.1.take e)).Nodup/\c (cc (b.1.take e))<=4*e) (λe:Nat=>[(0,Q f),(3,aH 0 0),(5,.n (.Q (.x 1 1 (c (cc (b.1.take e))) (az.fn (cc (b.1.take e)))))),(6,Q e)]) (λe=>[oN b,.x 3 1 (c (cc (b.1.take e))) (az.fn (cc (b.1.take e)))]) (λe=>c b.1-e) 0 a Fm a Fm a ⟨by omega,by omega,by simp[cc],by simp[cc]⟩ ?_;rintro e ⟨K,C,T,ab⟩;by_cases s:e<c b.1
 .have p:=K9 s;have M:=aaA (Z:=b.1) (e:=e+1);have A:b.1.getD e a1.E=b.1.getD e (0,[]):=rfl;have j:b.1.getD (e-1) a1.E=b.1.getD (e-1) (0,[]):=rfl;have u:nN f b.1 e=(ij f (b.1.getD e (0,[]))&&kl (·.1) (0,[]) b.1 e):=rfl;have W:=qc (al:=λi:b4=>i.1) (O:=(0,[])) (d:=b.1) (e:=e);generalize y:b.1.getD e (0,[])=i at *;generalize b.1.getD (e-1) (0,[])=x at *;cases o:ij f i with
  |false=>
   rw[o,sH]at u;refine a8 t [14,25,44] a QJ (g.aS (bW.zero a ?_));rw[lM s u];simp
  |true=>
   have af:c i.2<=4:=by grind[D3]
   rw[o,fV]at u;cases E:kl (·.1) (0,[]) b.1 e with
   |false=>
    have z:e≠0:=by rintro rfl;cases E
    have J:¬x.1<i.1:=N;refine a8 t [14,-25,28,42,44] a Rh (g.aS (bW.zero a ?_));rw[lM s (u.trans E)];simp
   |true=>
   rw[E]at u;apply g.cj [(0,Q f),(3,aH 0 0),(5,.n (.Q (.x 1 1 (c (cc (b.1.take e))) (az.fn (cc (b.1.take e)))))),(6,Q e),(7,Q 0)] [oN b,.x 3 1 (c (cc (b.1.take e))) (az.fn (cc (b.1.take e)))]
   .intro aa;by_cases z:e=0
    .subst z;refine a8 t [14,-25,-28,-44] a QJ (aa _ _ a ?_);simp
    have J:x.1<i.1:=N;refine a8 t [14,-25,28,-42,-44] a Rh (aa _ _ a ?_);simp
   generalize cc (b.1.take e)=m at *;refine g.aB 2 (λk=>k<=c i.2/\(m++(i.2.take k).map (·.1)).Nodup) (λk:Nat=>[(0,Q f),(3,aH 0 0),(5,.n (.Q (.x 1 1 (c (m++(i.2.take k).map (·.1))) (az.fn (m++(i.2.take k).map (·.1)))))),(6,Q e),(7,Q k)]) (λk=>[oN b,.x 3 1 (c (m++(i.2.take k).map (·.1))) (az.fn (m++(i.2.take k).map (·.1)))]) (λk=>c i.2-k) 0 a D a D a ⟨by omega,by grind⟩ ?_;rintro k ⟨ag,G⟩;by_cases r:k<c i.2
   .have R:i.2.getD k bI.E=eb i k:=rfl;have eJ:m++(i.2.take (k+1)).map (·.1)=(m++(i.2.take k).map (·.1))++[(eb i k).1]:=iq;have V:c (m++(i.2.take k).map (·.1))=c m+k:=N;generalize m++(i.2.take k).map (·.1)=F at *;cases S:F.contains (eb i k).1 with
    |true=>
     refine a8 t [53,67] a ?_ (g.aS (g.dJ (bW.zero a ?_)))
     .simp[-aj,-List.contains_eq_mem,A,R,s,r,S,az.l,az.J]
     .have bB:¬(cc b.1).Nodup:=M (by
       have ah:m++i.2.map (·.1)=(m++(i.2.take (k+1)).map (·.1))++(i.2.drop (k+1)).map (·.1):=D
       grind)
      simp[bB]
    |false=>
     have H:=az.a0 F (eb i k).1;have X:az.ad (c m+k) (az.fn F)=F:=by rw[<-V];exact az.l F
     refine a8 t [53,-67] a ?_ (g.aw (k+1) a ?_ ?_ ⟨r,?_⟩ w)
     .simp[-aj,-List.contains_eq_mem,A,R,s,r,S,az.l,az.J,V,X,a7,show dZ.bytes=8 from a];omega
     .exact Qu
     .exact Qu
     grind
   obtain rfl:k=c i.2:=w;rw[c0]at G⊢;refine a8 t [-53] a ?_ (g.az ?_)
   .simp[-aj,A,s]
   refine b9 t a bE (g.aw (e+1) a ?_ ?_ ⟨s,jn C u,by grind,by grind⟩ w)
   .rw[p];simp
   rw[p];simp
 obtain rfl:e=c b.1:=w;rw[c0]at T⊢;refine a8 t [-14] a D (g.az ?_);refine b9 t a B ?_;rw[gd.2 C,fA T,fV,fV];generalize cc b.1=m;refine g.aB 2 (λe=>e<=c b.2.1/\(∀k,k<e->lz f b k=l)) (λe:Nat=>[(0,Q f),(3,aH 0 0),(8,Q e)]) (λ_=>[oN b,.x 3 1 (c m) (az.fn m)]) (λe=>c b.2.1-e) 0 a D a D a ⟨by omega,by omega⟩ ?_;rintro e ⟨K,C⟩;by_cases s:e<c b.2.1
 .have A:b.2.1.getD e bd.E=b.2.1.getD e (0,[]):=rfl;have j:b.2.1.getD (e-1) bd.E=b.2.1.getD (e-1) (0,[]):=rfl;have bm:=L _ (oo (O:=(0,[])) s);have u:lz f b e=(decide (1<=(b.2.1.getD e (0,[])).1/\(b.2.1.getD e (0,[])).1<=20)&&kl (·.1) (0,[]) b.2.1 e&&(dU f (b.2.1.getD e (0,[])) b.1).isSome):=rfl;have W:=qc (al:=λi:dF=>i.1) (O:=(0,[])) (d:=b.2.1) (e:=e);generalize y:b.2.1.getD e (0,[])=i at *;generalize b.2.1.getD (e-1) (0,[])=x at *;by_cases hi:1<=i.1/\i.1<=20
  rotate_left
  .refine a8 t [85,96,116,126] a ?_ (g.aS (bW.zero a ?_))
   .simp[-aj,A,s];omega
   exact j9
  cases E:kl (·.1) (0,[]) b.2.1 e with
  |false=>
   have z:e≠0:=by rintro rfl;cases E
   have J:¬x.1<i.1:=N;refine a8 t [85,-96,99,113,116,126] a ?_ (g.aS (bW.zero a ?_))
   .simp[-aj,A,j,s,hi,a7];omega
   exact j9
  |true=>
   rw[fA hi,E,fV,fV]at u;cases r:(dU f i b.1).isSome with
   |false=>
    by_cases z:e=0
    .subst z;refine a8 t [85,-96,-99,-116,126] a ?_ (g.aS (bW.zero a ?_))
     .simp[-aj,A,s,hi,cx.l,cx.J,a1.l,a1.J,bd.J,a4.J,r,bm.1];grind
     rw[lM s (u.trans r)];simp
    have J:x.1<i.1:=N;refine a8 t [85,-96,99,-113,-116,126] a RN (g.aS (bW.zero a ?_));rw[lM s (u.trans r)];simp
   |true=>
    rw[r]at u;by_cases z:e=0
    .subst z;refine a8 t [85,-96,-99,-116,-126] a ?_ (g.aw 1 a D D ⟨s,jn C u⟩ w);simp[-aj,A,s,hi,a7,cx.l,cx.J,a1.l,a1.J,bd.J,a4.J,r,bm.1];grind
    have J:x.1<i.1:=N;refine a8 t [85,-96,99,-113,-116,-126] a ?_ (g.aw (e+1) a D D ⟨s,jn C u⟩ w);exact RN
 obtain rfl:e=c b.2.1:=w;refine a8 t [-85] a D (g.az ?_);rw[gd.2 C,fV];cases b3:cm f
 .exact a8 t [-129,-134] a mc (g.ao a)
 cases I:g_ b.2.2
 .exact a8 t [129,-134] a Oq (g.ao a)
 exact a8 t [129,134] a Oq (g.ao a bM)
abbrev B0:bH:=ej c7 mn (λb a=>bg (h3 b a)) λ_ a=>[iL a,c a.1<=4000000,c a.2.1<=4000000]
def Nr:bK q 77 B0:=.bk λb d a=>Yn b d a.1 a.2.1 a.2.2
def gu(d:Int)(a:m Int×Bool)(b:Int):m Int×Bool:=
 if a.2=l then(if b=d then a else(a.1++[b],l))else if d<=b then(if b=d then(a.1++[d],l)else(a.1++[d,b],l))else(a.1++[b],v)
abbrev fE(d:Int)(b:m Int)(a:Nat):m Int×Bool:=(b.take a).foldl (gu d) ([],v)
def fa(b:m Int)(a:Int):m Int:=if(b.foldl (gu a) ([],v)).2=l then(b.foldl (gu a) ([],v)).1 else(b.foldl (gu a) ([],v)).1++[a]
def xn{j}{d}(a:e<c d):fE j d (e+1)=gu j (fE j d e) (d.getD e 0):=iq
def xm(j)(d):∀a,a<=c d->(fE j d a).1.length+(if(fE j d a).2=l then 0 else 1)<=a+1
 |0,_=>by simp[fE]
 |a+1,f=>by have:=xm j d a w;rw[xn w];generalize fE j d a=b at *;obtain⟨b,e⟩:=b;unfold gu;grind
theorem ZW(d)(j):c (fa d j)<=c d+1:=by
 have:=xm j d (c d) (bC _);simp[fE,c0]at this;unfold fa;split at this<;>rename_i a
 .grind
 grind
def afb{g:Type}(a:c5 g)(d)(e f):bs (c d+1+1) (ck (c d+1) (ck (c d) (a.fn d) λb=>[a.a8 e].getD b []) λb=>[a.a8 f].getD b []) (a.fn (d++[e,f])):=a.e2 d e f
def Up(d)(j)(A:c d<=100000000):Y q 125 [az.B d,Q j] [] (az.B (fa d j)) []:=by
 refine Y.ab func125 rfl λz=>?_;refine a3 [902] a B (g.bE 5 3 1 a a ?_);refine aQ a B (g.aB 1 (λb=>b<=c d) (λb:Nat=>[(0,az.B d),(1,Q j),(5,.n (.Q (.x 0 1 (fE j d b).1.length (az.fn (fE j d b).1)))),(6,bg (fE j d b).2),(7,Q b)]) (λb=>[.x 3 1 (fE j d b).1.length (az.fn (fE j d b).1)]) (λb=>c d-b) 0 a Ot a Ot a w ?_);intro b p;have u:=xm j d b p;by_cases i:b<c d
 .have t:=xn (j:=j) i;have O:d.getD (b:Int).toNat az.E=d.getD b 0:=ds;generalize d.getD b 0=bv at *;generalize fE j d b=e at *;obtain⟨e,m⟩:=e;have al:=λbv=>az.a0 e bv;have r:=λx bv=>az.e2 e x bv;have y:(c e+1+1)*8<=140737488355328:=N;have fin:∀o,fE j d (b+1)=o->True:=λ_ _=>trivial;have k:c d-(b+1)<c d-b:=w;by_cases f:bv=j
  .cases m with
   |true=>
    rw[show gu j (e,l) bv=(e,l) by simp[gu,f]]at t;refine a3 [12,-34] a ?_ (g.aw (b+1) a ?_ ?_ i k)
    .simp only[U,O,f,a7];simp;omega
    .rw[t];simp
    rw[t];simp
   |false=>
    rw[show gu j (e,v) bv=(e++[j],l) by simp[gu,f]]at t;refine a3 [12,24,-34] a ?_ (g.aw (b+1) a ?_ ?_ i k)
    .simp only[U,O,f,a7,show dZ.bytes=8 from a];simp;omega
    .exact PP
    exact PP
  cases m with
  |true=>
   rw[show gu j (e,l) bv=(e++[bv],l) by simp[gu,f]]at t;refine a3 [12,34] a Ps (g.aw (b+1) a Af ?_ i k);exact Af
  |false=>
   by_cases s:j<=bv
   .rw[show gu j (e,v) bv=(e++[j,bv],l) by simp[gu,f,s]]at t;refine a3 [12,24,34] a ?_ (g.aw (b+1) a ?_ ?_ i k)
    .simp only[U,O,a7,show dZ.bytes=8 from a];simp[f,s];omega
    .exact P3
    exact P3
   rw[show gu j (e,v) bv=(e++[bv],v) by simp[gu,s]]at t;refine a3 [12,-24,34] a Ps (g.aw (b+1) a Af ?_ i k);exact Af
 obtain rfl:b=c d:=w;unfold fa;simp[fE,c0]at u⊢;generalize d.foldl (gu j) ([],v)=e at *;obtain⟨e,m⟩:=e;have al:=az.a0 e j;refine a3 [-12] a D (g.az ?_);cases m with
 |true=>exact aQ rfl D (g.ao rfl)
 |false=>
  refine aQ a ?_ (g.ao a ?_)
  .simp only[U,show dZ.bytes=8 from a];simp at u⊢;omega
  simp[U,kh,dn,c9,fT];and_intros<;>first|exact al|trivial
abbrev xH:bH:=ej (eS az) c7 (λa b=>az.B (fa a b)) λa _=>[c a<=100000000]
def EP:bK q 125 xH:=.bk λb d a=>Up b d a
theorem qu(b):∀a:m Int,c (a.foldl fa b)<=c b+c a
 |[]=>by simp
 |d::a=>by have:=qu (fa b d) a;grind[ZW]
def yB{a:Type}(b:a->Int->a)(e:a){d}(f:u<c d):(d.take (u+1)).foldl b e=b ((d.take u).foldl b e) (d.getD u 0):=iq
def gG(a:m m7):m Int:=(d9 a).foldl fa []
theorem tv(d):c (gG d)<=c (d9 d):=by
 have:=qu [] (d9 d)
 rwa [gO,cZ]at this
def X'(b)(I:c b.2<=4000000)(F:c (d9 b.2)<=4000000):Y q 124 [i2 b] [] (az.B (gG b.2)) []:=by
 refine Y.ab func124 rfl λA=>?_;have i:a_ q [(125,xH)]:=.cons EP .nil;refine b9 i a B (g.aB 1 (λe=>e<=c b.2) (λe:Nat=>[(1,aH 0 0),(3,az.B (gG (b.2.take e))),(4,Q e)]) (λ_=>[zD b]) (λe=>c b.2-e) 0 a (by simp[gG,d9]) a D a w ?_);intro e x;by_cases s:e<c b.2
 .have d:b.2.getD e cx.E=b.2.getD e ([],[]):=rfl;have o:=K6 s;have y:=K7 b.2 (e+1);have E:=tv (b.2.take e);have z:gG (b.2.take (e+1))=(b.2.getD e ([],[])).2.foldl fa (gG (b.2.take e)):=by simp[gG,o,uK]
  rw[o,c9]at y;generalize b.2.getD e ([],[])=j at *;generalize gG (b.2.take e)=k at *;refine a8 i [11] a ha (g.aB 1 (λf=>f<=c j.2) (λf:Nat=>[(1,aH 0 0),(3,az.B ((j.2.take f).foldl fa k)),(4,Q e),(5,Q f)]) (λ_=>[zD b]) (λf=>c j.2-f) 0 a D a D a w ?_);intro f C;by_cases m:f<c j.2
  .have t:j.2.getD f az.E=j.2.getD f 0:=rfl;have r:=yB fa k m;have u:=qu k (j.2.take f);rw[List.length_take]at u;generalize(j.2.take f).foldl fa k=kf at *;have p:=az.l kf;refine a8 i [22] a ?_ (g.aw (f+1) a ?_ ?_ m w)
   .simp[-aj,d,t,s,m,p,az.J,a7];omega
   .rw[r];simp[-aj,d,t,p]
   simp
  obtain rfl:f=c j.2:=w;rw[c0,<-z];refine a8 i [-22] a ds (g.az ?_);exact QV
 obtain rfl:e=c b.2:=w;rw[c0];refine a8 i [-11] a D (g.az ?_);exact b9 i a B (g.ao a)
abbrev BS:bH:=di (jI cx) (λa=>az.B (gG a.2)) λa=>[c a.2<=4000000,c (d9 a.2)<=4000000]
def Ni:bK q 124 BS:=.a9 λb a=>X' b a.1 a.2
def g7(a:m dF):m Int:=a.flatMap λb=>d9 b.2
def fr(b:m dF):m Int:=b.foldl (λa d=>(gG d.2).foldl fa a) []
theorem A9{d}(a:e<c d):g7 (d.take (e+1))=g7 (d.take e)++d9 (d.getD e (0,[])).2:=by rw[h4 a (0,[])];simp[g7]
def GA(d)(e):c (g7 (d.take e))<=c (g7 d):=by
 have a:g7 d=g7 (d.take e)++g7 (d.drop e):=by unfold g7;grind[List.take_append_drop]
 grind
theorem KY{d}(a:e<c d):fr (d.take (e+1))=(gG (d.getD e (0,[])).2).foldl fa (fr (d.take e)):=by unfold fr;grind[h4]
def yW(d):∀a,a<=c d->c (fr (d.take a))<=c (g7 (d.take a))
 |0,_=>by simp[fr]
 |a+1,e=>by have b:=yW d a w;grind[qu,tv,KY,A9]
def W8(b)(p:iL b)(M:c b.2.1<=4000000)(N:c (g7 b.2.1)<=4000000):Y q 80 [b0 b] [] (az.B (fr b.2.1)) []:=by
 refine Y.ab func80 rfl λI=>?_;have i:a_ q [(125,xH),(124,BS)]:=.cons EP (.cons Ni .nil);refine b9 i a B (g.aB 1 (λe=>e<=c b.2.1) (λe:Nat=>[(1,aH 0 0),(3,az.B (fr (b.2.1.take e))),(4,Q e)]) (λ_=>[oN b]) (λe=>c b.2.1-e) 0 a (by simp[fr]) a D a w ?_);intro e m;by_cases s:e<c b.2.1
 .have r:b.2.1.getD e bd.E=b.2.1.getD e (0,[]):=rfl;have E:=p _ (oo (O:=(0,[])) s);have x:=A9 s;have C:=GA b.2.1 (e+1);have K:=yW b.2.1 e m;have p:=KY s;rw[x,c9]at C;generalize b.2.1.getD e (0,[])=j at *;have F:=tv j.2;generalize fr (b.2.1.take e)=k at *;refine a8 i [12] a ?_ ?_
  .simp[-aj,s,r,cx.l,cx.J];omega
  have y:b.2.1.getD (e:Int).toNat bd.E=j:=by rw[cR];exact r
  rw[y,cx.l];refine g.aB 1 (λd=>d<=c (gG j.2)) (λd:Nat=>[(1,aH 0 0),(3,az.B (((gG j.2).take d).foldl fa k)),(4,Q e),(5,az.B (gG j.2)),(6,Q d)]) (λ_=>[oN b]) (λd=>c (gG j.2)-d) 0 a D a D a w ?_;intro d J;generalize gG j.2=f at *;by_cases o:d<c f
  .have t:f.getD d az.E=f.getD d 0:=rfl;have z:=yB fa k o;have A:=qu k (f.take d);rw[List.length_take]at A;generalize(f.take d).foldl fa k=kf at *;have u:=az.l kf;refine a8 i [24] a ?_ (g.aw (d+1) a ?_ ?_ o w)
   .simp[-aj,t,o,u,az.J,a7];omega
   .rw[z];simp[-aj,t,u]
   simp
  obtain rfl:d=c f:=w;rw[c0,<-p];refine a8 i [-24] a D (g.az ?_);exact QV
 obtain rfl:e=c b.2.1:=w;rw[c0];refine a8 i [-12] a D (g.az ?_);exact b9 i a B (g.ao a)
abbrev BR:bH:=di mn (λa=>az.B (fr a.2.1)) λa=>[iL a,c a.2.1<=4000000,c (g7 a.2.1)<=4000000]
def Nh:bK q 80 BR:=.a9 λb a=>W8 b a.1 a.2.1 a.2.2
abbrev dI:=cb×m Int×m Int
abbrev fR:=Int×dI×(Int×Int×Int×bD)×m (Int×Int)×m Int
abbrev YZ:re cb:=yr (vm a1) (yr (vm bd) (vm a4))
abbrev CW:re dI:=yr YZ (yr (vm az) (vm az))
abbrev cM(a:c5 α)(b:m α):R:=.c (.B v a.bj (c b) (a.fn b))
abbrev wo(a:dI):m R:=[cM a1 a.1.1,cM bd a.1.2.1,cM a4 a.1.2.2,cM az a.2.1,cM az a.2.2]
abbrev gB(a:dI):y:=.n (.agg (wo a))
abbrev h5(a:fR):m R:=.c (.int .i64 a.1)::(wo a.2.1++[.c (.int .i64 a.2.2.1.1),.c (.int .i64 a.2.2.1.2.1),.c (.int .i64 a.2.2.1.2.2.1),.c (.T a.2.2.1.2.2.2),cM a4 a.2.2.2.1,cM az a.2.2.2.2])
abbrev gT(a:fR):y:=.n (.agg (h5 a))
structure rh(b:cb):Prop where
 fc:c b.1<=4000000
 ds:iL b
 eJ:c b.2.1<=4000000
 dv:c (g7 b.2.1)<=4000000
def nF(a:m b4)(d:m Int)(b:Nat):Bool:=(a.any λe=>e.1==d.getD b 0)&&kl (λf=>f) 0 d b
def hs(b:Int)(a:dI):Bool:=(fr a.1.2.1).all (λd=>a.2.1.contains d)&&(aA (c a.2.2)).all (nF a.1.1 a.2.2)&&h3 b a.1
def SO{d}{a:Int->Bool}:d.all a=(aA (c d)).all λb=>a (d.getD b 0):=by rw[o4,gd,aW];grind[List.mem_iff_getElem]
def ST{d}{S:b4->Bool}(a:u<c d):(d.take (u+1)).any S=((d.take u).any S||S (d.getD u (0,[]))):=iq
abbrev gv(a:dI):aq:=.cells 33 (wo a)
def Yv(f)(p)(m:rh p.1):Y q 122 [Q f,gB p] [] (bg (hs f p)) []:=by
 refine Y.ab func122 rfl λI=>?_;have k:a_ q [(80,BR),(79,u5),(77,B0)]:=.cons Nh (.cons zL (.cons Nr .nil));have M:=I.fY 1 a 4 a;have J:=yW p.1.2.1 _ (bC _);rw[c0]at J;have X:=m.dv;refine b9 k a ?_ ?_
 .simp[a1.l,a1.J,bd.l,bd.J,a4.l,a4.J,m.ds,m.eJ,m.dv]
 rw[bd.l];unfold hs;rw[SO];generalize fr p.1.2.1=j at *;refine g.aB 1 (λe=>e<=c j/\∀b,b<e->p.2.1.contains (j.getD b 0)=l) (λe:Nat=>[(0,Q f),(3,aH 0 0),(5,az.B j),(6,Q e)]) (λ_=>[gv p]) (λe=>c j-e) 0 a D a D a ⟨by omega,by omega⟩ ?_;rintro e ⟨z,o⟩;by_cases s:e<c j
 .have r:j.getD e az.E=j.getD e 0:=rfl;cases x:p.2.1.contains (j.getD e 0)with
  |false=>
   refine a8 k [16,26] a ?_ (g.aS (bW.zero a ?_))
   .simp[-aj,-List.contains_eq_mem,r,s,x,az.l,az.J]
   rw[lM s x];simp
  |true=>
   refine a8 k [16,-26] a ?_ (g.aw (e+1) a D D ⟨s,jn o x⟩ w);simp[-aj,-List.contains_eq_mem,r,s,x,az.l,az.J,a7];omega
 obtain rfl:e=c j:=w;rw[gd.2 o,fV];refine a8 k [-16] a D (g.az ?_);refine b9 k a B (g.aB 1 (λe=>e<=c p.2.2/\∀b,b<e->nF p.1.1 p.2.2 b=l) (λe:Nat=>[(0,Q f),(3,aH 0 0),(7,Q e)]) (λ_=>[gv p]) (λe=>c p.2.2-e) 0 a D a D a ⟨by omega,by omega⟩ ?_);rintro e ⟨z,o⟩;by_cases s:e<c p.2.2
 .have r:p.2.2.getD e az.E=p.2.2.getD e 0:=rfl;have bm:p.2.2.getD (e-1) az.E=p.2.2.getD (e-1) 0:=rfl;have A:nF p.1.1 p.2.2 e=((p.1.1.any λS=>S.1==p.2.2.getD e 0)&&kl (λE=>E) 0 p.2.2 e):=rfl;have R:=qc (al:=λE:Int=>E) (O:=0) (d:=p.2.2) (e:=e);generalize p.2.2.getD e 0=t at *;generalize p.2.2.getD (e-1) 0=C at *;refine a8 k [31] a ha (g.aB 1 (λb=>b<=c p.1.1) (λb:Nat=>[(0,Q f),(3,aH 0 0),(7,Q e),(8,bg ((p.1.1.take b).any λS=>S.1==t)),(9,Q b)]) (λ_=>[gv p]) (λb=>c p.1.1-b) 0 a D a D a w ?_);intro b G;by_cases u:b<c p.1.1
  .have V:=m.fc;have y:p.1.1.getD b a1.E=p.1.1.getD b (0,[]):=rfl;have W:=ST (S:=λS=>S.1==t) u;generalize p.1.1.getD b (0,[])=S at *;generalize(p.1.1.take b).any (λS=>S.1==t)=i at *;cases i with
   |true=>
    refine a8 k [39] a ?_ (g.aw (b+1) a ?_ ?_ u w)
    .simp[u,a7];omega
    .exact bE
    simp
   |false=>
    refine a8 k [39] a ?_ (g.aw (b+1) a ?_ ?_ u w)
    .simp[-aj,s,u,a7];omega
    .exact bE
    simp
  obtain rfl:b=c p.1.1:=w;rw[c0];refine a8 k [-39] a D (g.az ?_);cases F:p.1.1.any (λS=>S.1==t)with
  |false=>
   rw[F,sH]at A;refine a8 k [77] a D (g.aS (bW.zero a ?_));rw[lM s A];simp
  |true=>
   rw[F,fV]at A;by_cases K:e=0
   .subst K;refine a8 k [-63,-77] a ?_ (g.aw 1 a D D ⟨s,jn o bE⟩ w);simp[a7]
   by_cases T:C<t
   .refine a8 k [63,-75,-77] a ?_ (g.aw (e+1) a D D ⟨s,jn o N⟩ w);exact Qg
   refine a8 k [63,75,77] a Qg (g.aS (bW.zero a ?_));exact j9
 obtain rfl:e=c p.2.2:=w;rw[gd.2 o,fV];refine a8 k [-31] a D (g.az ?_);refine b9 k a ?_ (g.ao a ?_)
 .simp[a1.l,a1.J,bd.l,bd.J,a4.l,a4.J,m.ds,m.eJ,m.fc]
 simp[a1.l,bd.l,a4.l]
abbrev HU:bH:=ej c7 (AL CW) (λb a=>bg (hs b a)) λ_ a=>[rh a.1]
def aed:bK q 122 HU:=.bk λb d a=>Yv b d a
theorem Z'{b a}(e:d6 b=l)(f:∀d∈a,d∈b):d6 a=l:=by unfold d6 at e⊢;grind
def LO{o}(f:d6 o=l):∀e a,∀d∈iK o e a,cD d=l
 |0,_,d,b=>by exact bE
 |e+1,a,d,b=>by
  simp only[iK]at b;split at b
  .rename_i g;have i:=rJ o a g;rcases eT.1 b with rfl|b
   .have t:c ((o.drop a).take (ep o a-a))=ep o a-a:=N;simp[cD,cp,bz];grind[Z']
   exact LO f e _ d b
  grind
def v5{o}(a:d6 o=l):∀b∈cn o,cD b=l:=LO a _ _
def LN(o):∀a b,c (iK o a b)<=a
 |0,_=>bC _
 |a+1,b=>by
  simp[iK];split
  .have:=LN o a (ep o b);grind
  simp
theorem v3(o):c (cn o)<=c o:=LN o _ _
def eU(b:m cJ):m bD:=b.flatMap λa=>cn a.2
def GC{o}(a:e<c o):eU (o.take (e+1))=eU (o.take e)++cn (o.getD e ([],[])).2:=by rw[h4 a ([],[])];simp[eU]
def GB(o)(e):c (eU (o.take e))<=c (eU o):=by
 have a:eU o=eU (o.take e)++eU (o.drop e):=by unfold eU;grind[List.take_append_drop]
 grind
def C9(f)(d)(Z):∀a:m bD,c (Z.foldl (fc f d) a)<=c a+c Z:=by
 induction Z with
 |nil=>grind
 |cons b j e=>
  intro a;have g:=e (fc f d a b);have i:c (fc f d a b)<=c a+1:=by unfold fc;split<;>simp
  grind
abbrev Hk:bH:=ej (eS ff) c7 (λa b=>Q (i6 a b)) λa _=>[c a<=4000000]
def ady:bK q 247 Hk:=.bk λb d a=>Vt b d a
abbrev Ho:bH:=ej (eS bS) eG (λa b=>bg (a.contains b)) λa _=>[c a<=4000000]
def adE:bK q 249 Ho:=.bk λb d a=>V4 b d a
abbrev ID(a:m bD):y:=.n (.Q (.x 0 1 (c a) (bS.fn a)))
structure rf(o:m cJ):Prop where
 len:c o<=4000000
 fp:∀al∈o,d6 al.2=l/\c al.2<=4000000
 all:c (eU o)<=100000
def Xg(f)(o)(d)(r:cm f=l)(u:rf o)(T:c d<=4000000):Y q 190 [Q f,bu.B o,ff.B d] [] (bS.B (f_ f o d)) []:=by
 refine Y.ab func190 rfl λR=>?_;have k:a_ q [(246,xI),(248,xO),(247,Hk),(249,Ho)]:=.cons EQ (.cons zM (.cons ady (.cons adE .nil)));refine bf k [902] a B (g.bE 7 9 1 a a ?_);refine cU k a B (g.aB 1 (λb=>b<=c o) (λb:Nat=>[(0,Q f),(1,bu.B o),(2,ff.B d),(7,ID ((eU (o.take b)).foldl (fc f d) [])),(8,Q b)]) (λb=>[.x 9 1 (c ((eU (o.take b)).foldl (fc f d) [])) (bS.fn ((eU (o.take b)).foldl (fc f d) []))]) (λb=>c o-b) 0 a ?_ a ?_ a w ?_)
 .simp[eU]
 .simp[eU]
 intro b E;by_cases C:b<c o
 .have p:o.getD (b:Int).toNat bu.E=o.getD b ([],[]):=N;have A:o.getD b ([],[])∈o:=N;obtain⟨S,K⟩:=u.fp _ A;have F:=GC C;have O:=GB o (b+1);have V:=u.all;have W:=u.len;have J:=v5 S;generalize o.getD b ([],[])=j at *;rw[F,c9]at O;refine bf k [15] a ds ?_;rw[p];refine g.aB 1 (λe=>e<=c (cn j.2)) (λe:Nat=>[(0,Q f),(1,bu.B o),(2,ff.B d),(7,ID ((eU (o.take b)++(cn j.2).take e).foldl (fc f d) [])),(8,Q b),(9,bS.B (cn j.2)),(10,Q e)]) (λe=>[.x 9 1 (c ((eU (o.take b)++(cn j.2).take e).foldl (fc f d) [])) (bS.fn ((eU (o.take b)++(cn j.2).take e).foldl (fc f d) []))]) (λe=>c (cn j.2)-e) 0 a D a D a w ?_;intro e y;have I:=C9 f d (eU (o.take b)++(cn j.2).take e) [];simp only[gO,c9,List.length_take]at I;by_cases M:e<c (cn j.2)
  .have i:(cn j.2).getD (e:Int).toNat bS.E=(cn j.2).getD e []:=N;have s:cD ((cn j.2).getD e [])=l:=J _ N;have m:(eU (o.take b)++(cn j.2).take (e+1)).foldl (fc f d) []=fc f d ((eU (o.take b)++(cn j.2).take e).foldl (fc f d) []) ((cn j.2).getD e []):=iq;generalize(eU (o.take b)++(cn j.2).take e).foldl (fc f d) []=dx at *;generalize(cn j.2).getD e []=x at *;have z:=bS.a0 dx x;by_cases t:i6 d (d8 f x)=0
   .cases aa:dx.contains x with
    |true=>
     rw[fc,bj N]at m;refine bf k [27,38,45] a ?_ (g.aw (e+1) a ?_ ?_ ?_ ?_)
     .simp only[U,i,r,s,t,aa,a7,bS.l,ff.l,gk,bz,a',a9];exact Rj
     .rw[m];simp
     .rw[m];simp
     .grind
     omega
    |false=>
     rw[fc,bo N]at m;refine bf k [27,38,-45] a ?_ (g.aw (e+1) a ?_ ?_ ?_ ?_)
     .simp only[U,i,r,s,t,aa,a7,show tf.bytes=16 from a,bS.l,ff.l,gk,bz,a',a9];exact Rj
     .rw[m];simp only[U.Y,U,i,c9,fe,gO,a',a9];and_intros<;>first|exactλ_ _=>rfl|exact z|rfl|omega
     .rw[m];simp only[U.Y,U,i,c9,fe,gO,a',a9];and_intros<;>first|exact z|rfl|omega
     .grind
     omega
   rw[fc,bj N]at m;refine bf k [27,-38] a ?_ (g.aw (e+1) a ?_ ?_ ?_ ?_)
   .simp only[U,i,r,s,a7,ff.l,eN,d',t,qb,bz,a',a9];and_intros<;>first|exact ff.J _|omega
   .rw[m];simp
   .rw[m];simp
   .grind
   omega
  have X:e=c (cn j.2):=w;refine bf k [-27] a bw (g.az ?_);exact cU k a bE (g.aw (b+1) a ds ds N w)
 obtain rfl:b=c o:=w;rw[c0];refine bf k [-15] a D (g.az ?_);refine cU k a B (g.ao a ?_);simp[f_,eU]
abbrev ky(b:Int)(a:m bD):m Int:=a.map (d8 b)
abbrev oz(a:Int)(b:m cJ):m m7:=b.map (kT a)
abbrev Lm(b:Int)(a:m m7):m aq:=[.cells 50 [.c (.int .i64 0),.c (.B l 0 0 λ_=>[])],.cells 50 [.c (.int .i64 b),.x 2 2 (c a) (cx.fn a)],.x 111 2 (c a) (cx.fn a)]
def Xn(bO f)(o)(m:cm f=l)(s:rf o):Y q 193 [Q bO,Q f,bu.B o] [] (i2 (fs bO f o)) []:=by
 refine Y.bg bc func193 rfl rfl rfl λT=>?_;have j:a_ q [(246,xI),(248,xO)]:=.cons EQ (.cons zM .nil);refine bf j [902] a B (g.cm 1 1 111 2 (cx.fn []) a a ?_);refine cU j a B (g.aB 3 (λe=>e<=c o) (λe:Nat=>[(1,Q f),(2,bu.B o),(6,aH 0 0),(7,aH 1 0),(8,Q e)]) (λe=>Lm bO (oz f (o.take e))) (λe=>c o-e) 0 a D a D a w ?_);intro e z;by_cases K:e<c o
 .have r:o.getD (e:Int).toNat bu.E=o.getD e ([],[]):=N;have y:o.getD e ([],[])∈o:=N;obtain⟨I,F⟩:=s.fp _ y;have S:=s.len;have C:=v5 I;have R:=v3 (o.getD e ([],[])).2;have p:oz f (o.take (e+1))=oz f (o.take e)++[kT f (o.getD e ([],[]))]:=iq;have O:c (oz f (o.take e))=e:=N;generalize o.getD e ([],[])=b at *;generalize oz f (o.take e)=k at *;refine bf j [18,907] a ds ?_;rw[r];refine g.bE 10 3 1 a a ?_;refine cU j a B (g.aB 4 (λd=>d<=c (cn b.2)) (λd:Nat=>[(1,Q f),(2,bu.B o),(6,aH 0 0),(7,aH 1 0),(8,Q e),(9,bS.B (cn b.2)),(10,.n (.Q (.x 3 1 d (az.fn (ky f ((cn b.2).take d)))))),(11,Q d)]) (λd=>Lm bO k++[.x 3 1 d (az.fn (ky f ((cn b.2).take d)))]) (λd=>c (cn b.2)-d) 0 a D a D a w ?_);intro d x;by_cases V:d<c (cn b.2)
  .have i:(cn b.2).getD (d:Int).toNat bS.E=(cn b.2).getD d []:=N;have A:cD ((cn b.2).getD d [])=l:=C _ N;have t:=az.a0 (ky f ((cn b.2).take d)) (d8 f ((cn b.2).getD d []));rw[show(ky f ((cn b.2).take d)).length=d by grind,show ky f ((cn b.2).take d)++[d8 f ((cn b.2).getD d [])]=ky f ((cn b.2).take (d+1)) by grind[h4]]at t;refine bf j [31] a ?_ (g.aw (d+1) a ?_ ?_ ?_ ?_)
   .simp only[U,i,m,A,a7,show dZ.bytes=8 from a,bz,a',a9];exact fC
   .exact Qj
   .exact Qj
   .grind
   omega
  have E:d=c (cn b.2):=w;rw[E,c0];have t:=cx.a0 k (kT f b);have u:c k+1=c (k++[kT f b]):=D;have J:cx.a8 (kT f b)=[M.T b.1,M.B v 1 (c (cn b.2)) (az.fn (ky f (cn b.2)))]:=by show[M.T b.1,M.B v 1 (c (ky f (cn b.2))) (az.fn (ky f (cn b.2)))]=_;grind
  rw[J,<-p]at t;rw[<-p]at u;refine bf j [-31] a D (g.az ?_);refine cU j a P5 (g.aw (e+1) a D ?_ ?_ ?_)
  .simp only[U.Y,U,r,a',a9];and_intros<;>first|exact bs.same|exact t|exact u|rfl
  .grind
  omega
 obtain rfl:e=c o:=w;rw[c0];refine bf j [-18] a D (g.az ?_);refine cU j a B (g.bf () [] ?_ (λd x=>absurd x D));simp[fs]
def o7(b a:Nat->m M):ck 0 b a=a:=by funext e;simp[ck]
abbrev im(a:cb):aq:=.cells 30 [.c (.B v 2 (c a.1) (a1.fn a.1)),.c (.B v 2 (c a.2.1) (bd.fn a.2.1)),.c (.B v 2 (c a.2.2) (a4.fn a.2.2))]
abbrev Ck(a:cb)(b:Nat)(e:m b4)(d:Nat)(f:m dF):m aq:=[im a,.cells 30 [cH,cH,cH],.q 119 2 b (a1.fn e),.q 50 2 d (bd.fn f),.q 54 2 (c a.2.2) (a4.fn a.2.2),.cells 30 [.O 2 (.B b 2 0 b),.O 3 (.B d 2 0 d),.O 4 (.B (c a.2.2) 2 0 (c a.2.2))]]
def U0(b)(y:c b.1<=4000000)(s:∀u∈b.1,c u.2<=4000000)(F:c b.2.1<=4000000)(r:iL b)(E:c b.2.2<=4000000):
  Y q 78 [b0 b] [] (.n (.agg [.O 0 (.B (c b.1) 2 0 (c b.1)),.O 1 (.B (c b.2.1) 2 0 (c b.2.1)),.O 2 (.B (c b.2.2) 2 0 (c b.2.2))])) [.q 119 2 (c b.1) (a1.fn b.1),.q 50 2 (c b.2.1) (bd.fn b.2.1),.q 54 2 (c b.2.2) (a4.fn b.2.2)]:=by
 refine Y.bg bc func78 rfl rfl rfl λz=>?_;refine bR [901] a B (g.region ?_);refine gH [] 5 a B (g.dH 9 119 2 (a1.fn []) a ?_);refine g.dH 10 50 2 (bd.fn []) a ?_;refine g.dH 11 54 2 (a4.fn []) a ?_;refine cB a Rg (g.aB 6 (λd=>d<=c b.1) (λd:Nat=>[(1,aH 0 0),(2,aH 1 0),(3,aH 5 0),(4,Q d)]) (λd=>Ck b d (b.1.take d) 0 []) (λd=>c b.1-d) 0 a D a ?_ a w ?_)
 .simp[bs,o7];rfl
 intro d m;by_cases k:d<c b.1
 .have j:b.1.getD d (0,[])∈b.1:=N;have x:b.1.getD (d:Int).toNat a1.E=b.1.getD d (0,[]):=N;have p:=s _ j;refine bR [20,2000038] a FL (g.aw (d+1) a D ?_ ?_ ?_)
  .have ap:=a1.cW b.1 k (0,[]);exact OJ
  .grind
  omega
 obtain rfl:d=c b.1:=w;rw[c0];refine bR [-20] a D (g.az ?_);refine cB a B (g.aB 6 (λd=>d<=c b.2.1) (λd:Nat=>[(1,aH 0 0),(2,aH 1 0),(3,aH 5 0),(5,Q d)]) (λd=>Ck b (c b.1) b.1 d (b.2.1.take d)) (λd=>c b.2.1-d) 0 a D a D a w ?_);intro d m;by_cases k:d<c b.2.1
 .have j:b.2.1.getD d (0,[])∈b.2.1:=N;have x:b.2.1.getD (d:Int).toNat bd.E=b.2.1.getD d (0,[]):=N;have p:=r _ j;have ap:=bd.cW b.2.1 k (0,[]);generalize b.2.1.getD d (0,[])=f at *;refine bR [47,910] a bw ?_;rw[x];refine g.cm 6 1 111 2 (cx.fn []) a a ?_;refine cB a B (g.aB 8 (λe=>e<=c f.2) (λe:Nat=>[(1,aH 0 0),(2,aH 1 0),(3,aH 5 0),(5,Q d),(6,aH 6 0),(7,Q e)]) (λe=>Ck b (c b.1) b.1 d (b.2.1.take d)++[.cells 50 [.c (.int .i64 f.1),.x 7 2 e (cx.fn (f.2.take e))],.x 111 2 e (cx.fn (f.2.take e))]) (λe=>c f.2-e) 0 a D a D a w ?_);intro e o;by_cases t:e<c f.2
  .have i:f.2.getD (e:Int).toNat cx.E=f.2.getD e ([],[]):=N;have C:=p.2 (f.2.getD e ([],[])) N;have A:=cx.cW f.2 t ([],[]);refine bR [66,2000085] a P9 (g.aw (e+1) a D QP N ?_);omega
  obtain rfl:e=c f.2:=w;rw[c0];refine bR [-66] a FH (g.az ?_);refine cB a FW (g.aw (d+1) a D FR N ?_);omega
 obtain rfl:d=c b.2.1:=w;rw[c0];refine bR [-47] a D (g.az ?_);refine cB a B (g.bf () [2,3,4] ?_ (λe o=>absurd o D));simp
def yX{f g:ae}{e i}(A)(o:r.op=.call {callee:=.builtin .max,args:=#[f,g],argTypes:=dt})(u:η f=Q e)(s:η g=Q i)(y:max e i=A)(t:a7 .i64 A):a2 T r η k (Q A) k:=by refine .aQ λB d z j=>?_;have b:=j f;have a:=j g;rw[u]at b;rw[s]at a;replace b:=b8 b;replace a:=b8 a;generalize m:d f=w at b;generalize p:d g=x at a;cases b;cases a;have q:(if e<i then i else e)=A:=N;exact⟨.int .i64 A,by simp[ab,o,resolve,invoke,builtin,m,p,Builtin.max_,Builtin.max2,q],.int t,by simp[ab,o,resolve,invoke,builtin,m,p,Builtin.max_,Builtin.max2]⟩
def dk(a:cb):Int:=if c a.1=0 then 1 else(a.1.getD (c a.1-1) (0,[])).1+1
def lp(b:m (Int×Int)):Int:=b.foldl (λd a=>max d (a.2+1)) 1
def c1(a:cb):Int:=if c a.2.1=0 then lp a.2.2 else max (lp a.2.2) ((a.2.1.getD (c a.2.1-1) (0,[])).1+1)
structure mi(b_:cb):Prop where
 aZ:∀E∈b_.1,-4000000<=E.1/\E.1<=4000000
 ba:∀E∈b_.2.1,-4000000<=E.1/\E.1<=4000000
 aM:∀E∈b_.2.2,-4000000<=E.2/\E.2<=4000000
def te(d)(e:∀b∈d,-4000000<=b.2/\b.2<=4000000):1<=lp d/\lp d<=4000001:=by
 have:∀(d:m (Int×Int)) a,(∀b∈d,-4000000<=b.2/\b.2<=4000000)->1<=a->a<=4000001->1<=d.foldl (λa e=>max a (e.2+1)) a/\d.foldl (λa e=>max a (e.2+1)) a<=4000001:=by
  intro d;induction d with
  |nil=>grind
  |cons b g f=>
   grind
 exact this d 1 e w w
def Zu{d}(a:e<c d):lp (d.take (e+1))=max (lp (d.take e)) ((d.getD e (0,0)).2+1):=by unfold lp;grind[h4]
def kr{d:m α}(b:e<c d)(a:α):d.getD e a∈d:=N
def Xi(b:cb)(i:dH b)(f:mi b):Y q 189 [b0 b] [] (.S [.Q (.c (.int .i64 (dk b))),.Q (.c (.int .i64 (c1 b)))]) []:=by
 refine Y.ab func189 rfl λy=>?_;have t:=i.aZ;have u:=i.aW;have s:=i.aM;apply g.cj [(1,aH 0 0),(4,Q (dk b)),(5,Q 1)] [im b]
 .intro dx;by_cases e:c b.1=0
  .exact bR [-10,905] a ds (dx _ _ a (by simp[dk,e]))
  have j:=f.aZ _ (kr (show c b.1-1<c b.1 by omega) (0,[]));have x:b.1.getD ((c b.1:Int)-1).toNat a1.E=b.1.getD (c b.1-1) (0,[]):=by rw[show((c b.1:Int)-1).toNat=c b.1-1 by omega];rfl
  exact bR [10,905] a wG (dx _ _ a (by simp only[U.Y,U,dk,bj e,x,a',a9]))
 refine cB a B (g.aB 1 (λd=>d<=c b.2.2) (λd:Nat=>[(1,aH 0 0),(4,Q (dk b)),(5,Q (lp (b.2.2.take d))),(6,Q d)]) (λd=>[im b]) (λd=>c b.2.2-d) 0 a ?_ a ?_ a w ?_)
 .simp[lp]
 .simp
 intro d k;by_cases e:d<c b.2.2
 .have j:=f.aM _ (kr e (0,0));have o:=te (b.2.2.take d) λr p=>f.aM r (gN p);have x:b.2.2.getD (d:Int).toNat a4.E=b.2.2.getD d (0,0):=N;have m:=Zu e;refine bR [25] a wG ?_;rw[x];refine g.aK (yX (lp (b.2.2.take (d+1))) a a a m.symm nS) a a ?_;exact cB a bE (g.aw (d+1) a D D N w)
 obtain rfl:d=c b.2.2:=w;rw[c0];refine bR [-25] a D (g.az ?_);have o:=te b.2.2 f.aM;by_cases e:c b.2.1=0
 .refine bR [-40] a ds (g.ao a ?_);simp[c1,e]
 have j:=f.ba _ (kr (show c b.2.1-1<c b.2.1 by omega) (0,[]));have x:b.2.1.getD ((c b.2.1:Int)-1).toNat bd.E=b.2.1.getD (c b.2.1-1) (0,[]):=R3;refine bR [40] a wG ?_;rw[x];refine g.aK (yX (c1 b) a a a (by rw[c1,bj e]) (by rw[c1,bj e];simp only[a7];omega)) a a ?_;exact cB a B (g.ao a)
abbrev Cl(a:cb)(b:Nat)(e:m b4)(d:Nat)(f:m dF):m aq:=[im a,.cells 30 [cH,cH,cH],.x 54 2 (c a.2.2) (a4.fn a.2.2),.cells 30 [.x 4 2 b (a1.fn e),.x 5 2 d (bd.fn f),.x 2 2 (c a.2.2) (a4.fn a.2.2)],.x 119 2 b (a1.fn e),.x 50 2 d (bd.fn f)]
def qq(b)(y:c b.1<=4000000)(s:∀u∈b.1,c u.2<=4000000)(F:c b.2.1<=4000000)(r:iL b)(E:c b.2.2<=4000000):
  Y q 78 [b0 b] [] (.n (.agg [.x 0 2 (c b.1) (a1.fn b.1),.x 1 2 (c b.2.1) (bd.fn b.2.1),.x 2 2 (c b.2.2) (a4.fn b.2.2)])) [.x 119 2 (c b.1) (a1.fn b.1),.x 50 2 (c b.2.1) (bd.fn b.2.1),.x 54 2 (c b.2.2) (a4.fn b.2.2)]:=by
 refine Y.bg bc func78 rfl rfl rfl λz=>?_;refine bR [902] a ?_ ?_
 .simp only[U,show vx.bytes=16 from a,a',a9,k9];grind
 refine g.cm 3 0 119 2 (a1.fn []) a a ?_;refine g.cm 3 1 50 2 (bd.fn []) a a ?_;refine cB a B (g.aB 6 (λd=>d<=c b.1) (λd:Nat=>[(1,aH 0 0),(2,aH 1 0),(3,aH 3 0),(4,Q d)]) (λd=>Cl b d (b.1.take d) 0 []) (λd=>c b.1-d) 0 a D a ?_ a w ?_)
 .simp[bs,o7]
 intro d m;by_cases k:d<c b.1
 .have j:b.1.getD d (0,[])∈b.1:=N;have x:b.1.getD (d:Int).toNat a1.E=b.1.getD d (0,[]):=N;have p:=s _ j;refine bR [20,2000038] a FL (g.aw (d+1) a D ?_ ?_ ?_)
  .have ap:=a1.cW b.1 k (0,[]);simp only[U.Y,U,x,o7,cZ,a9,a'];exact Rp
  .grind
  omega
 obtain rfl:d=c b.1:=w;rw[c0];refine bR [-20] a D (g.az ?_);refine cB a B (g.aB 6 (λd=>d<=c b.2.1) (λd:Nat=>[(1,aH 0 0),(2,aH 1 0),(3,aH 3 0),(5,Q d)]) (λd=>Cl b (c b.1) b.1 d (b.2.1.take d)) (λd=>c b.2.1-d) 0 a D a D a w ?_);intro d m;by_cases k:d<c b.2.1
 .have j:b.2.1.getD d (0,[])∈b.2.1:=N;have x:b.2.1.getD (d:Int).toNat bd.E=b.2.1.getD d (0,[]):=N;have p:=r _ j;have ap:=bd.cW b.2.1 k (0,[]);generalize b.2.1.getD d (0,[])=f at *;refine bR [47,910] a bw ?_;rw[x];refine g.cm 6 1 111 2 (cx.fn []) a a ?_;refine cB a B (g.aB 8 (λe=>e<=c f.2) (λe:Nat=>[(1,aH 0 0),(2,aH 1 0),(3,aH 3 0),(5,Q d),(6,aH 6 0),(7,Q e)]) (λe=>Cl b (c b.1) b.1 d (b.2.1.take d)++[.cells 50 [.c (.int .i64 f.1),.x 7 2 e (cx.fn (f.2.take e))],.x 111 2 e (cx.fn (f.2.take e))]) (λe=>c f.2-e) 0 a D a D a w ?_);intro e o;by_cases t:e<c f.2
  .have i:f.2.getD (e:Int).toNat cx.E=f.2.getD e ([],[]):=N;have C:=p.2 (f.2.getD e ([],[])) N;have A:=cx.cW f.2 t ([],[]);refine bR [66,2000085] a P9 (g.aw (e+1) a D QP N ?_);omega
  obtain rfl:e=c f.2:=w;rw[c0];refine bR [-66] a FH (g.az ?_);refine cB a FW (g.aw (d+1) a D ?_ ?_ ?_)
  .simp only[U.Y,U,a9,a'];exact Rp
  .grind
  omega
 obtain rfl:d=c b.2.1:=w;rw[c0];refine bR [-47] a D (g.az ?_);refine cB a B (g.bf () [4,5,2] ?_ (λe o=>absurd o D));simp
def _root_.Go.AM.c5.hf(a:c5 α)(d)(f:bs j V (a.fn d))(k:j<=c d):a.ad j V=d.take j:=by
 apply ru
 .simp[c5.ad];omega
 intro e g i;have b:e<j:=N;simp[c5.ad,f e b,c5.fn,gI,aj,bJ (show e<c d by omega),a.inv]
def _root_.Go.AM.c5.g4(a:c5 α)(d)(f:bs j V (a.fn d)):a.bN j V:=λe b=>by rw[f e b];exact a.J d e (Nat.lt_succ_self e)
def aav(a b:Nat):min (a:Int) (b:Int)=((min a b:Nat):Int):=N
def gg(d:Int):Nat->Int->m bD->m b4
 |0,_,_=>[]
 |e+1,b,a=>if 0<c a then j0 b d (a.take 4)::gg d e (b+1) (a.drop 4)else[]
def kx(a:Int)(b:cb)(d:m cJ):m b4:=gg a (c (f_ a d (eD b.1))) (dk b) (f_ a d (eD b.1))
def fB(b:Int)(a:cb)(d:m cJ):Bool:=decide (20<c a.1+c (kx b a d))||(decide (99<dk a+c (kx b a d)-1)||(decide (20<c1 a)||decide (9<=c a.2.2)))
def ey(d:Int)(a:cb)(b:Int)(e:m cJ):cb:=(a.1++kx d a e,a.2.1++[fs (c1 a) d e],a.2.2++[(b,c1 a)])
theorem LA(f):∀d a b,c (gg f d a b)<=d
 |0,_,_=>bC _
 |d+1,a,b=>by
  simp[gg];split
  .have:=LA f d (a+1) (b.drop 4);grind
  simp
abbrev Hz:bH:=jS c7 c7 (eS bS) (λd b a=>fM (j0 d b a)) λ_ b a=>[cm b=l,∀e∈a,cD e=l,c a<=4000000]
def adP:bK q 192 Hz:=.cM λb e d a=>W4 b e d a.1 a.2.1 a.2.2
abbrev HE:bH:=jS c7 c7 (eS bu) (λb a d=>i2 (fs b a d)) λ_ a d=>[cm a=l,rf d]
def adU:bK q 193 HE:=.cM λa d e b=>Xn a d e b.1 b.2
abbrev HD:bH:=jS c7 (eS bu) (eS ff) (λa d b=>bS.B (f_ a d b)) λa d b=>[cm a=l,rf d,c b<=4000000]
def adT:bK q 190 HD:=.cM λb e d a=>Xg b e d a.1 a.2.1 a.2.2
def qS{o}{d}(i:rf o):(∀a∈f_ f o d,cD a=l)/\c (f_ f o d)<=100000:=by
 constructor
 .have:∀(b g:m bD),(∀a∈b,cD a=l)->(∀a∈g,cD a=l)->∀a∈b.foldl (fc f d) g,cD a=l:=by
   intro b;induction b with
   |nil=>grind
   |cons s t k=>
    intro g r q;refine k _ (λa e=>r a (mm _ e)) λa e=>?_;unfold fc at e;grind
  refine this _ [] (λa e=>?_) D;obtain⟨p,j,e⟩:=p8.1 e;exact v5 (i.fp p j).1 a e
 have:=C9 f d (eU o) [];have q:=i.all;unfold f_;simp[gO]at this;exact e3 this w
theorem Ky{d}(a:c (dD d)<=100000):c (eD d)<=100000:=by unfold eD;grind[C_]
abbrev ab3(e b d:Int)(f:cb)(g:m cJ)(a:m bD):bL:=[(0,Q e),(2,Q b),(3,bu.B g),(5,aH 0 0),(8,aH 1 0),(10,aH 5 0),(11,Q d),(12,Q (c1 f)),(13,bS.B a)]
abbrev My(b:cb)(a:m b4):m aq:=[im b,.cells 30 [cH,cH,cH],.x 119 2 (c a) (a1.fn a),.x 50 2 (c b.2.1) (bd.fn b.2.1),.x 54 2 (c b.2.2) (a4.fn b.2.2),.cells 30 [.x 2 2 (c a) (a1.fn a),.x 3 2 (c b.2.1) (bd.fn b.2.1),.x 4 2 (c b.2.2) (a4.fn b.2.2)]]
abbrev Nq(a:cb)(b:Bool):y:=.S [.agg [.c (.B v 2 (c a.1) (a1.fn a.1)),.c (.B v 2 (c a.2.1) (bd.fn a.2.1)),.c (.B v 2 (c a.2.2) (a4.fn a.2.2))],.Q (.c (.bool b))]
def XV(f)(b)(j)(o)(z:cm f=l)(x:dH b)(O:mi b)(J:rf o)(al:c (dD b.1)<=100000):
  Y q 123 [Q f,b0 b,Q j,bu.B o] [] (Nq (if fB f b o=l then b else ey f b j o) (!fB f b o)) []:=by
 refine Y.bG func123 rfl rfl rfl λau=>?_;have t:a_ q [(191,Hn),(190,HD),(192,Hz),(193,HE)]:=.cons adD (.cons adT (.cons adP (.cons adU .nil)));have aM:=x.aZ;have P:=x.aW;have av:=x.aM;have ay:=Ky al;refine cU t a B (g.aA (qq b x.aZ x.bl x.aW x.bm x.aM) [] a (cU t a B (g.aA (Xi b x O) [] a (cU t a bE ?_))));simp[a1.l,ff.l,bu.l];obtain⟨an,aB⟩:=qS (f:=f) (d:=eD b.1) J;have aw:kx f b o=gg f (c (f_ f o (eD b.1))) (dk b) (f_ f o (eD b.1)):=rfl;generalize f_ f o (eD b.1)=C at *;generalize T:kx f b o=e at *;have L:-4000000<=dk b/\dk b<=4000001:=by
  unfold dk;split
  .omega
  rename_i s;exact RE
 have H:c e<=100000:=by grind[LA]
 refine g.ck (S2:=Unit) 0 a a (λ_=>True) (λ_=>[(0,Q f),(2,Q j),(3,bu.B o),(5,aH 0 0),(8,aH 1 0),(10,aH 5 0),(11,Q (dk b+c e)),(12,Q (c1 b))]) (λ_=>My b (b.1++e)) 6
  (λk:m bD×m b4=>(∀S∈k.1,cD S=l)/\c k.2+c k.1<=5000000/\c b.1<=c k.2/\∃p,c k.1<=p/\b.1++e=k.2++gg f p (dk b+(c k.2-c b.1:Nat)) k.1) (λk=>ab3 f j (dk b+(c k.2-c b.1:Nat)) b o k.1) (λk=>My b k.2) (λk=>c k.1) (C,b.1) a ?_ a ?_ a ⟨an,by grind,bC _,c C,bC _,by grind⟩ ?_ ?_
 .simp
 .simp
 .rintro dx ⟨bq,Z⟩ ⟨u,R,af,p,G,A⟩;simp only at u R af G A;by_cases s:0<c bq
  .obtain⟨p,rfl⟩:∃aa,p=aa+1:=⟨p-1,by omega⟩
   simp[gg,bo s]at A;have ae:a7 .i64 ((min (c bq) 4:Nat):Int):=nS;refine bf t [30] a bw (g.aK (yZ ((min (c bq) 4:Nat):Int) a a a (aav (c bq) 4) ae) a a ?_);have K:bS.ad (bV (c bq) (h ((min (c bq) 4:Nat):Int))-bV 0 n) (fH (bV 0 n) (bS.fn bq))=bq.take 4:=by have E:bV (c bq) (h ((min (c bq) 4:Nat):Int))-bV 0 n=min (c bq) 4:=wS;rw[E,bS.hf bq (λI r=>by simp[fH,bV]) w];grind
   have X:bS.bN (bV (c bq) (h ((min (c bq) 4:Nat):Int))-bV 0 n) (fH (bV 0 n) (bS.fn bq)):=bS.g4 bq (λI r=>by simp[fH,bV]);have ao:bs (c bq-min (c bq) 4) (fH (min (c bq) 4) (bS.fn bq)) (bS.fn (bq.drop 4)):=by intro I r;have V:min (c bq) 4=4:=w;rw[V];simp[fH,c5.fn,gI,aj,p6]
   have aq:∀S∈bq.take 4,cD S=l:=λS D=>u S (gN D);have ab:=a1.a0 Z (j0 (dk b+(c Z-c b.1:Nat)) f (bq.take 4));refine cU t a ?_ (g.aw (bq.drop 4,Z++[j0 (dk b+(c Z-c b.1:Nat)) f (bq.take 4)]) a ?_ ?_ ?_ ?_)
   .simp only[U,a7,K,z,X,List.length_take,show nA.bytes=32 from a,a',a9];and_intros<;>first|omega|omega
   .simp only[U.Y,U,c9,fe,gO,sA,bV,cR,a',a9];and_intros<;>first|rfl|omega|simp|exact ao
   .simp only[U.Y,U,K,c9,fe,gO,a',a9];and_intros<;>first|rfl|exactλ_ _=>rfl|exact ab|omega
   .refine⟨λS D=>u S (p4 D),by grind,by grind,p,by grind,?_⟩;grind
   grind
  have F:Z=b.1++e:=by rw[A];cases p<;>simp[gg,s]
  refine bf t [-30] a bE (g.az ?_);refine dx () B a ?_ a ?_
  .simp only[U.Y,U,F,c9,a',a9];and_intros<;>first|rfl|omega|simp
  simp[F]
 rintro⟨⟩ -;have y:fB f b o=(decide (20<c b.1+c e)||(decide (99<dk b+c e-1)||(decide (20<c1 b)||decide (9<=c b.2.2)))):=by unfold fB;rw[T]
 have M:-4000000<=c1 b/\c1 b<=4000001:=by
  have:=te b.2.2 O.aM;unfold c1;split
  .omega
  rename_i s;exact Pe
 have ar:c (b.1++e)=c b.1+c e:=c9;by_cases ag:20<c b.1+c e
 .have i:fB f b o=l:=N;rw[i];exact bf t [53] a bw Ae
 by_cases ah:99<dk b+c e-1
 .have i:fB f b o=l:=N;rw[i];exact bf t [-53,57] a FO Ae
 by_cases ai:20<c1 b
 .have i:fB f b o=l:=N;rw[i];exact bf t [-53,-57,61] a FO Ae
 by_cases ak:9<=c b.2.2
 .have i:fB f b o=l:=N;rw[i];exact bf t [-53,-57,-61,67] a FO Ae
 have i:fB f b o=v:=N;rw[i];have E:=bd.a0 b.2.1 (fs (c1 b) f o);have W:=a4.a0 b.2.2 (j,c1 b);refine bf t [-53,-57,-61,-67] a ?_ ?_
 .simp only[U,z,bu.l,c9,a7,show rR.bytes=32 from a,show vx.bytes=16 from a,bz,dq,a',a9];and_intros<;>first|exact J|exact bu.J _|rfl|omega
 refine g.freeze 8 1 a a a ?_;refine g.cv bc [] a ?_ a a a e4;simp[U.Y,U,bu.l,ey,T,c9,fe,gO,a',a9];and_intros<;>first|rfl|exactλ_ _=>rfl|exact E|exact W|simp
def vM(a:Int×Int):Bool:=decide (0<=a.1/\a.1<=9)&&decide (0<=a.2)
abbrev qC(b:fR)(a:Nat):Int×Int:=b.2.2.2.1.getD a (0,0)
abbrev rM(b:fR)(a:Nat):Int:=b.2.2.2.2.getD a 0
def wy(b:fR)(a:Nat):Bool:=vM (qC b a)&&decide (0<=rM b a/\rM b a<=2)
def jg(a:fR):Bool:=decide (c a.2.2.2.1=2)&&decide (c a.2.2.2.2=2)&&(aA 2).all (wy a)&&hs a.1 a.2.1
abbrev xZ(a:cb)(e:Nat)(d:Nat->m M)(f:Nat)(j:m dF)(b:fv)(i:Nat)(g:m X):m aq:=[im a,.cells 30 [cH,cH,cH],.q 119 2 e d,.q 50 2 f (bd.fn j),.q 54 2 (c a.2.2) (a4.fn a.2.2),.cells 30 [.O 2 (.B e 2 0 e),.O 3 (.B f 2 0 f),.O 4 (.B (c a.2.2) 2 0 (c a.2.2))],.K (cu 170 2 b i g)]
def U2(b)(i0)(V:i0<c b.1)(z:0<(b.1.getD i0 (0,[])).2.length)(y:c b.1<=4000000)(K:∀u∈b.1,c u.2<=4000000)(H:c b.2.1<=4000000)(S:iL b)(G:c b.2.2<=4000000):
  bl (ι:=p0 (b.1.getD i0 (0,[])).2) q 78 [b0 b] [] (λ_=>.n (.agg [.O 0 (.B (c b.1) 2 0 (c b.1)),.O 1 (.B (c b.2.1) 2 0 (c b.2.1)),.O 2 (.B (c b.2.2) 2 0 (c b.2.2))]))
   (λj=>[.q 119 2 (c b.1) (gq b.1 i0 (c6 j.1.1 (b.1.getD i0 (0,[])).2.length)),.q 50 2 (c b.2.1) (bd.fn b.2.1),.q 54 2 (c b.2.2) (a4.fn b.2.2),tx (b.1.getD i0 (0,[])).2 j]):=by
 refine bl.bG bc func78 rfl rfl rfl λW=>?_;refine bR [901] a B (g.region ?_);refine gH [] 5 a B (g.dH 9 119 2 (a1.fn []) a ?_);refine g.dH 10 50 2 (bd.fn []) a ?_;refine g.dH 11 54 2 (a4.fn []) a ?_;refine bR [902] a Rg (g.fh 170 2 ?_);refine cB a B (g.aB 7 (I3 b.1 i0) (λi:S3=>[(1,aH 0 0),(2,aH 1 0),(3,aH 5 0),(4,Q i.1)]) (λi=>xZ b i.1 (gq b.1 i0 (nO i)) 0 [] i.2.1 i.2.2.1 i.2.2.2) (λi=>c b.1-i.1) (0,.nil n,0,[]) a D a ?_ a ⟨by omega,.inl ⟨by omega,a⟩⟩ ?_)
 .simp[bs,o7];rfl
 rintro⟨d,f,p,k⟩ ⟨s,A⟩;simp only at s A;by_cases o:d<c b.1
 .have aa:b.1.getD d (0,[])∈b.1:=N;have x:b.1.getD (d:Int).toNat a1.E=b.1.getD d (0,[]):=N;have j:=K _ aa;by_cases t:d=i0
  .subst t;have F:p=0:=by rcases A with⟨_,R⟩|⟨M,_⟩<;>omega
   rw[<-x]at z j;refine a3 [20,905] a bw ?_;refine g.eI (ι:=p0 (b.1.getD (d:Int).toNat a1.E).2) b7 15 18 8 (λr=>ax r 14)
    (λr=>[aH 5 0,cF 2 (.B d 2 0 d),aH 0 0,a1.B b.1,Q d,iZ [.int .i64 (b.1.getD (d:Int).toNat a1.E).1,ly (b.1.getD (d:Int).toNat a1.E)],iZ [.int .i64 (b.1.getD (d:Int).toNat a1.E).1,ly (b.1.getD (d:Int).toNat a1.E)],Q (b.1.getD (d:Int).toNat a1.E).1,
     ay (.B l 2 0 (λe=>[].getD e [])),aH 0 0,a1.B b.1,Q d,iZ [.int .i64 (b.1.getD (d:Int).toNat a1.E).1,ly (b.1.getD (d:Int).toNat a1.E)],iZ [ly (b.1.getD (d:Int).toNat a1.E)],ay (ly (b.1.getD (d:Int).toNat a1.E))].getD r .any)
    (λj r=>[ay (r5 _ j),.n (.agg [.c (.int .i64 (b.1.getD (d:Int).toNat a1.E).1),.c (r5 _ j)]),ay (.B l 2 1 (λe=>[[.int .i64 (b.1.getD (d:Int).toNat a1.E).1,r5 _ j]].getD e []))].getD (r-15) .any)
    (λj=>xZ b d (gq b.1 d (c6 f p)) 0 [] f p k++[tx _ j])
    rfl rfl rfl rfl rfl rfl rfl (λr o=>by have:=fz o;omega) rfl
    ⟨aY.w,aY.w,aY.w,aY.w,aY.w,aY.eval (bh:=[]) bc a_.nil a ?_,aY.w,aY.w,aY.w,aY.w,aY.w,aY.w,aY.eval (bh:=[]) bc a_.nil a ?_,aY.w,aY.w,B,B,B,B,B,B,B⟩
    (λj=>⟨aY.w,aY.w,aY.w,aY.w,aY.w,aY.eval (bh:=[]) bc a_.nil a ?_,aY.w,aY.w,aY.w,aY.w,aY.w,aY.w,aY.eval (bh:=[]) bc a_.nil a ?_,aY.w,aY.w,B,aY.w,aY.w,B⟩)
    (dX.eo a (ei.fE (GH a) a a a z Al (Hp _ _))) ?_
   .exact bw
   .exact bw
   .exact bw
   .exact bw
   rw[x];rw[x]at z j;generalize J:b.1.getD d (0,[])=u at *;intro C;refine a3 [904] a Qo (g.swap 6 7 ca a a (λ_ _ o=>o.1) (λ_ _ o=>o.1) ?_);refine aQ a bE (g.aw (d+1,C.1.1,c u.2,C.1.2) a D ?_ ?_ ?_)
   .have ap:=LQ (Z:=b.1) (i0:=d) (bA:=c6 C.1.1 (c u.2)) (E5:=c6 f p);rw[J]at ap;exact FR
   .refine⟨by grind,.inr ⟨by grind,?_⟩⟩;grind
   grind
  refine bR [20,2000038] a FL (g.aw (d+1,f,p,k) a D ?_ ?_ ?_)
  .have ap:=LP (Z:=b.1) (bA:=c6 f p) t;exact OJ
  .refine⟨by grind,?_⟩;grind
  grind
 obtain rfl:d=c b.1:=w;obtain⟨_,F,O⟩:i0<c b.1/\p=(b.1.getD i0 (0,[])).2.length/\eo 2 (b.1.getD i0 (0,[])).2.length (bI.fn (b.1.getD i0 (0,[])).2) k:=N;subst F;clear A;generalize b.1.getD i0 (0,[])=m at *;refine bR [-20] a D (g.az ?_);refine cB a B (g.aB 7 (λd=>d<=c b.2.1) (λd:Nat=>[(1,aH 0 0),(2,aH 1 0),(3,aH 5 0),(5,Q d)]) (λd=>xZ b (c b.1) (gq b.1 i0 (c6 f (c m.2))) d (b.2.1.take d) f (c m.2) k) (λd=>c b.2.1-d) 0 a D a D a w ?_);intro d s;by_cases o:d<c b.2.1
 .have aa:b.2.1.getD d (0,[])∈b.2.1:=N;have x:b.2.1.getD (d:Int).toNat bd.E=b.2.1.getD d (0,[]):=N;have j:=S _ aa;have ap:=bd.cW b.2.1 o (0,[]);generalize b.2.1.getD d (0,[])=i at *;refine bR [47,910] a bw ?_;rw[x];refine g.cm 7 1 111 2 (cx.fn []) a a ?_;refine cB a B (g.aB 9 (λe=>e<=c i.2) (λe:Nat=>[(1,aH 0 0),(2,aH 1 0),(3,aH 5 0),(5,Q d),(6,aH 7 0),(7,Q e)]) (λe=>xZ b (c b.1) (gq b.1 i0 (c6 f (c m.2))) d (b.2.1.take d) f (c m.2) k++[.cells 50 [.c (.int .i64 i.1),.x 8 2 e (cx.fn (i.2.take e))],.x 111 2 e (cx.fn (i.2.take e))]) (λe=>c i.2-e) 0 a D a D a w ?_);intro e I;by_cases t:e<c i.2
  .have E:i.2.getD (e:Int).toNat cx.E=i.2.getD e ([],[]):=N;have X:=j.2 (i.2.getD e ([],[])) N;have T:=cx.cW i.2 t ([],[]);refine bR [66,2000085] a ?_ (g.aw (e+1) a ?_ ?_ ?_ ?_)
   .simp only[U,x,E,a7,show yM.bytes=40 from a,show dZ.bytes=8 from a,bz,k9,a',a9];exact fC
   .simp
   .simp only[U.Y,U,x,E,o7,cZ,a9,a'];and_intros<;>first|exactλ_ _=>rfl|exact T|rfl
   .grind
   omega
  obtain rfl:e=c i.2:=w;rw[c0];refine bR [-66] a FH (g.az ?_);refine cB a FW (g.aw (d+1) a D FR N ?_);omega
 obtain rfl:d=c b.2.1:=w;rw[c0];refine bR [-47] a D (g.az ?_);refine cB a B (g.bf ⟨(f,k),O⟩ [2,3,4,6] ?_ (λe I=>absurd I D));simp
def Uy(b:cb)(d:Int)(j:c b.2.2<=4000000)(k:d<0∨d>c b.2.2):Y q 128 [b0 b,Q d] [] (b0 b) []:=by refine Y.bg bc func128 rfl rfl rfl λi=>?_;have f:a_ q [(44,kN)]:=.cons lA .nil;refine bf f [15] a bM ?_;refine g.bf () [] ?_ (λm e=>absurd e D);simp
abbrev mH(a:Nat)(d:cb)(b:m dF):m dF:=b.filter λe=>!jy a d.2.2 e
abbrev td(d:Nat)(e:cb)(b:Nat)(f:dF):Bool:=((e.2.2.drop d).take b).any λa=>a.2==f.1
abbrev GZ(b:cb)(d:Nat)(a:m dF):m aq:=[.cells 30 [.c (tM b.1),.c (tN b.2.1),.c (h2 (b.2.2.take d))],.cells 30 [cH,cH,cH],.x 50 2 (c a) (bd.fn a)]
def JX(a:α->Bool){d}(f:e<c d)(b):(d.take (e+1)).filter a=(d.take e).filter a++(if a (d.getD e b)then[d.getD e b]else[]):=iq
def SS(a:α->Bool){d}(f:e<c d)(b):(d.take (e+1)).any a=((d.take e).any a||a (d.getD e b)):=iq
def Uz(b)(j)(S:j<=c b.2.2)(R:c b.2.1<=4000000)(C:∀m∈b.2.1,-4000000<=m.1/\m.1<=4000000)(O:c b.2.2<=4000000):Y q 128 [b0 b,Q j] [] (b0 (b.1,mH j b b.2.1,b.2.2.take j)) []:=by
 refine Y.bg bc func128 rfl rfl rfl λM=>?_;have o:a_ q [(44,kN)]:=.cons lA .nil;refine a8 o [-15,906] a ?_ ?_
 .simp[jq];omega
 refine g.bE 6 50 2 a a ?_;refine b9 o a B (g.aB 3 (λe=>e<=c b.2.1) (λe:Nat=>[(2,aH 0 0),(4,aH 1 0),(5,a4.B (b.2.2.drop j)),(6,.n (.Q (.x 2 2 (c (mH j b (b.2.1.take e))) (bd.fn (mH j b (b.2.1.take e)))))),(7,Q e)]) (λe=>GZ b j (mH j b (b.2.1.take e))) (λe=>c b.2.1-e) 0 a ?_ a ?_ a w ?_)
 .have x:=a4.g6 b.2.2 j (c b.2.2-j);simp[bV];exact x
 .simp[bV];exact⟨by omega,λe s=>by have A:e<j:=s;simp[fH,bV,c5.fn,gI,aj,iA,A]⟩
 intro e s;by_cases u:e<c b.2.1
 .have F:b.2.1.getD e (0,[])∈b.2.1:=N;have t:b.2.1.getD (e:Int).toNat bd.E=b.2.1.getD e (0,[]):=N;have J:=C _ F;have x:=bd.cW b.2.1 u (0,[]);have y:mH j b (b.2.1.take (e+1))=mH j b (b.2.1.take e)++(if !jy j b.2.2 (b.2.1.getD e (0,[]))then[b.2.1.getD e (0,[])]else[]):=JX (λm=>!jy j b.2.2 m) u (0,[]);have K:c (mH j b (b.2.1.take e))<=e:=e3 (iz _ _) N;generalize mH j b (b.2.1.take e)=k at *;generalize b.2.1.getD e (0,[])=m at *;refine bf o [31] a ?_ ?_
  .simp only[U,t,bz,k9,a',a9];grind
  refine g.aB 3 (λf=>f<=c (b.2.2.drop j)) (λf:Nat=>[(2,aH 0 0),(4,aH 1 0),(5,a4.B (b.2.2.drop j)),(6,.n (.Q (.x 2 2 (c k) (bd.fn k)))),(7,Q e),(8,bg (td j b f m)),(9,Q f)]) (λf=>GZ b j k) (λf=>c (b.2.2.drop j)-f) 0 a D a D a w ?_;intro f z;have I:=sA (i:=j) (l:=b.2.2);by_cases E:f<c (b.2.2.drop j)
  .have i:(b.2.2.drop j).getD (f:Int).toNat a4.E=(b.2.2.drop j).getD f (0,0):=N;have p:td j b (f+1) m=(td j b f m||((b.2.2.drop j).getD f (0,0)).2==m.1):=SS (λu:Int×Int=>u.2==m.1) E (0,0);cases r:td j b f m with
   |true=>
    refine bf o [37] a Qk (g.aw (f+1) a ?_ ?_ ?_ ?_)
    .rw[r]at p;simp[p]
    .simp
    .grind
    omega
   |false=>
    refine bf o [37] a Qk (g.aw (f+1) a ?_ ?_ ?_ ?_)
    .rw[r]at p;simp only[U.Y,U,bs.same,p,t,i,a',a9,Bool.false_or];rfl
    .simp
    .grind
    omega
  obtain rfl:f=c (b.2.2.drop j):=w;have p:td j b (c (b.2.2.drop j)) m=jy j b.2.2 m:=by unfold td jy;grind
  rw[p];cases r:jy j b.2.2 m with
  |true=>
   rw[r]at y;refine bf o [-37] a D (g.az ?_);refine cU o a ud (g.aw (e+1) a ?_ ?_ ?_ ?_)
   .have:mH j b (b.2.1.take (e+1))=k:=N;rw[this];exact Qx
   .rw[show mH j b (b.2.1.take (e+1))=k by grind];simp
   .grind
   omega
  |false=>
   rw[r]at y;refine bf o [-37] a D (g.az ?_);refine cU o a ?_ (g.aw (e+1) a ?_ ?_ ?_ ?_)
   .simp only[U,a7,show rR.bytes=32 from a,a',a9];exact fC
   .rw[show mH j b (b.2.1.take (e+1))=k++[m] by grind];simp only[U.Y,U,t,bs.same,a',a9,c9,fT];exact⟨bd.a0 k m,a⟩
   .rw[show mH j b (b.2.1.take (e+1))=k++[m] by grind];simp only[U.Y,U,t,bs.same,a',a9,c9,fT];exact bd.a0 k m
   .grind
   omega
 obtain rfl:e=c b.2.1:=w;rw[c0];refine bf o [-31] a D (g.az ?_);refine cU o a B (g.bf () [] ?_ (λf z=>absurd z D));simp
def X6(b)(d)(e:dH b)(k:d.1≠1)(f:d.1≠2)(m:d.1≠3)(j:d.1≠4):Y q 76 [b0 b,eI d] [] (b0 b) []:=by
 refine Y.bg bc func76 rfl rfl rfl λo=>?_;refine aQ a B (g.aA (qq b e.aZ e.bl e.aW e.bm e.aM) [] a (a3 [-13,-42,-48,-91] a ?_ ?_))
 .simp[k,f,m,j]
 exact Pf
def JD(b)(d)(aE)(e:dH b)(f:d.1=2)(j:Y q 128 [b0 b,Q d.2.1] [] (b0 aE) []):Y q 76 [b0 b,eI d] [] (b0 aE) []:=by
 refine Y.bg bc func76 rfl rfl rfl λk=>?_;refine aQ a B (g.aA (qq b e.aZ e.bl e.aW e.bm e.aM) [] a (a3 [-13,42] a ?_ ?_))
 .simp[f]
 refine g.bI j.tocE [] a a a a D a a a bk a bk a ?_;rintro -;exact aQ a B Pf
abbrev nD(a:Int)(b:m b4):m b4:=b.filter λd=>!(d.1==a)
abbrev ach(a:cb)(d:dS)(b:m b4):m aq:=[im a,.cells 35 (vI d),.cells 30 [cH,cH,cH],.x 119 2 (c a.1) (a1.fn a.1),.x 50 2 (c a.2.1) (bd.fn a.2.1),.x 54 2 (c a.2.2) (a4.fn a.2.2),
 .cells 30 [.x 3 2 (c a.1) (a1.fn a.1),.x 4 2 (c a.2.1) (bd.fn a.2.1),.x 5 2 (c a.2.2) (a4.fn a.2.2)],.x 119 2 (c b) (a1.fn b)]
def X0(b)(d)(k:dH b)(s:d.1=1):Y q 76 [b0 b,eI d] [] (b0 (b.1.filter λi=>!(i.1==d.2.1),b.2.1,b.2.2)) []:=by
 refine Y.bg bc func76 rfl rfl rfl λz=>?_;refine aQ a B (g.aA (qq b k.aZ k.bl k.aW k.bm k.aM) [] a (a3 [13,905] a ?_ ?_))
 .simp[s]
 refine g.bE 6 119 2 a a ?_;refine aQ a B ?_;have u:=k.aZ;refine g.aB 8 (λe=>e<=c b.1) (λe:Nat=>[(3,aH 1 0),(4,aH 2 0),(5,aH 6 0),(6,.n (.Q (.x 7 2 (c (nD d.2.1 (b.1.take e))) (a1.fn (nD d.2.1 (b.1.take e)))))),(7,Q e)]) (λe=>ach b d (nD d.2.1 (b.1.take e))) (λe=>c b.1-e) 0 a D a D a w ?_;intro e r;by_cases p:e<c b.1
 .have t:b.1.getD (e:Int).toNat a1.E=b.1.getD e (0,[]):=by rw[cR];rfl
  have j:nD d.2.1 (b.1.take (e+1))=nD d.2.1 (b.1.take e)++(if !((b.1.getD e (0,[])).1==d.2.1)then[b.1.getD e (0,[])]else[]):=JX (λi:b4=>!(i.1==d.2.1)) p (0,[]);have y:c (nD d.2.1 (b.1.take e))<=e:=e3 (iz _ _) bM;generalize nD d.2.1 (b.1.take e)=f at *;generalize b.1.getD e (0,[])=i at *;cases m:i.1==d.2.1 with
  |true=>
   rw[m]at j;refine bR [20,-31] a ?_ (g.aw (e+1) a ?_ ?_ ?_ ?_)
   .simp only[U,t,a7,bz,dq,k9,a',a9];and_intros<;>first|omega|simp[bne,m]
   .rw[show nD d.2.1 (b.1.take (e+1))=f by simpa using j];exact Qx
   .rw[show nD d.2.1 (b.1.take (e+1))=f by simpa using j];simp
   .exact q3
   omega
  |false=>
   rw[m]at j;refine bR [20,31] a ?_ (g.aw (e+1) a ?_ ?_ ?_ ?_)
   .simp only[U,t,a7,show nA.bytes=32 from a,bz,dq,k9,a',a9];and_intros<;>first|omega|simp[bne,m]
   .rw[show nD d.2.1 (b.1.take (e+1))=f++[i] by simpa using j];simp only[U.Y,U,t,bs.same,a',a9,c9,fT];exact⟨a1.a0 f i,a⟩
   .rw[show nD d.2.1 (b.1.take (e+1))=f++[i] by simpa using j];simp only[U.Y,U,t,bs.same,a',a9,c9,fT];exact a1.a0 f i
   .exact q3
   omega
 obtain rfl:e=c b.1:=w;rw[c0];refine bR [-20] a D (g.az ?_);refine cB a B (g.bf () [] ?_ (λx o=>absurd o D));simp
def UX{b}{args}(Z)(dz)(j)(V:Nat->m M)(a)(k:c a=j)(i:bs j V (a4.fn a))(d:bl (ι:=Unit) q b args [] (λ_=>.n (.agg [dB 0 (c Z) (c Z),dB 1 (c dz) (c dz),dB 2 j j])) (λ_=>[.q 119 2 (c Z) (a1.fn Z),.q 50 2 (c dz) (bd.fn dz),.q 54 2 j V])):
  Y q b args [] (b0 (Z,dz,a)) []:=by
 have o:=bl.bK (aU:=λ_:Unit=>[.q 119 2 (c Z) (a1.fn Z),.q 50 2 (c dz) (bd.fn dz)]) (W:=54) (f:=2) (j:=λ_=>j) (V:=λ_=>V) d bk (λ_=>?_) bk (λ_=>g5 _);have e:=bl.bK (aU:=λ_:Unit=>[.q 119 2 (c Z) (a1.fn Z)]) (W:=50) (f:=2) (j:=λ_=>c dz) (V:=λ_=>bd.fn dz) o bk (λ_=>?_) bk (λ_=>g5 _);have g:=bl.bK (aU:=λ_:Unit=>[]) (W:=119) (f:=2) (j:=λ_=>c Z) (V:=λ_=>a1.fn Z) e bk (λ_=>?_) bk (λ_=>bC _);refine(g.le (oH:=λ_=>b0 (Z,dz,a)) bk (λ_=>?_)).Q
 .simp only[U.Y,U,a9,a'];exact⟨bs.same,bs.same,k.symm,i⟩
 .simp
 .simp
 simp
def X5(b)(d:dS)(e:dH b)(j:d.1=4)(p:0<=d.2.1)(o:d.2.1<c b.2.2)(f:a7 .i64 (3-lC b d)):
  bl (ι:=Unit) q 76 [b0 b,eI d] [] (λ_=>.n (.agg [dB 0 (c b.1) (c b.1),dB 1 (c b.2.1) (c b.2.1),dB 2 (c b.2.2) (c b.2.2)])) (λ_=>[.q 119 2 (c b.1) (a1.fn b.1),.q 50 2 (c b.2.1) (bd.fn b.2.1),.q 54 2 (c b.2.2) (yA b d)]):=by
 refine bl.bG bc func76 rfl rfl rfl λk=>?_;have i:a_ q [(44,kN)]:=.cons lA .nil;have m:=e.aM;refine b9 i a B (g.aA (U0 b e.aZ e.bl e.aW e.bm e.aM) [] a (a8 i [-13,-42,-48,91,99] a ?_ ?_))
 .have f:a7 .i64 (3-(b.2.2.getD (0+d.2.1.toNat) a4.E).1):=f;simp only[U,a7,j,bz,a',a9]at f⊢;exact FV
 refine g.bf () [3,4,5] ?_ e4;simp
def X3(b)(a:dS)(d:dH b)(i:a.1=4)(e:0<=a.2.1)(f:a.2.1<c b.2.2)(g:a7 .i64 (3-lC b a)):
  Y q 76 [b0 b,eI a] [] (b0 (b.1,b.2.1,b.2.2.set (0+a.2.1.toNat) (3-lC b a,(b.2.2.getD (0+a.2.1.toNat) a4.E).2))) []:=
 UX b.1 b.2.1 _ _ _ D (a4.cV b.2.2 (0+a.2.1.toNat) (3-lC b a,(b.2.2.getD (0+a.2.1.toNat) a4.E).2) (c b.2.2) (bC _)) (X5 b a d i e f g)
def X4(b)(e:dS)(d:dH b)(j:e.1=4)(o:¬(0<=e.2.1/\e.2.1<c b.2.2)):Y q 76 [b0 b,eI e] [] (b0 b) []:=by
 refine Y.bg bc func76 rfl rfl rfl λk=>?_;have f:a_ q [(44,kN)]:=.cons lA .nil;have m:=d.aM;refine b9 f a B (g.aA (qq b d.aZ d.bl d.aW d.bm d.aM) [] a (a8 f [-13,-42,-48,91,-99] a ?_ ?_))
 .simp only[U,a7,j,dq,a',a9];exact FV
 refine g.bf () [] ?_ (λp i=>absurd i D);simp
abbrev Ew(a:cb)(i:dS)(e f b d:Nat)(g:m X):m aq:=[im a,.cells 35 (vI i),.cells 30 [cH,cH,cH],.q 119 2 (c a.1) (gq a.1 e (.slice (h ⟨f,0,n⟩) d b)),.q 50 2 (c a.2.1) (bd.fn a.2.1),.q 54 2 (c a.2.2) (a4.fn a.2.2),.K (cu 170 2 (.row f b) d g),.cells 30 [dB 3 (c a.1) (c a.1),dB 4 (c a.2.1) (c a.2.1),dB 5 (c a.2.2) (c a.2.2)]]
def X2(b)(d)(x:dH b)(s:d.1=3)(i0 A)(r:sq b d i0 A):
  bl (ι:={E:fv×m X // eo 2 (b.1.getD i0 (0,[])).2.length (bI.fn (gY (b.1.getD i0 (0,[])).2 A d.2.2.2)) E.2}) q 76 [b0 b,eI d] []
   (λ_=>.n (.agg [dB 0 (c b.1) (c b.1),dB 1 (c b.2.1) (c b.2.1),dB 2 (c b.2.2) (c b.2.2)]))
   (λE=>[.q 119 2 (c b.1) (gq b.1 i0 (c6 E.1.1 (b.1.getD i0 (0,[])).2.length)),.q 50 2 (c b.2.1) (bd.fn b.2.1),.q 54 2 (c b.2.2) (a4.fn b.2.2),.K (cu 170 2 E.1.1 (b.1.getD i0 (0,[])).2.length E.1.2)]):=by
 have W:=r.gn;have Z:=x.bl _ (vr r.a');have G:=x.aZ;refine bl.bG bc func76 rfl rfl rfl λH=>?_;have f:a_ q [(44,kN)]:=.cons lA .nil;refine b9 f a B (g.a1 (U2 b i0 r.a' w x.aZ x.bl x.aW x.bm x.aM) [] a bk ?_);rintro⟨⟨T,N⟩,O⟩;refine g.fC (cu.len (d:=6) a) λV=>?_;obtain⟨i,cap,rfl⟩:=V.2.2.1 w;refine a8 f [-13,-42,48] a ha (g.aB 8 (λo:Nat×m X=>o.1<=c b.1/\(o.1<=i0->o.2=N)/\(i0<o.1->eo 2 (b.1.getD i0 (0,[])).2.length (bI.fn (gY (b.1.getD i0 (0,[])).2 A d.2.2.2)) o.2)) (λo=>[(3,aH 1 0),(4,aH 2 0),(5,aH 7 0),(8,Q o.1)]) (λo=>Ew b d i0 i cap (b.1.getD i0 (0,[])).2.length o.2) (λo=>c b.1-o.1) (0,N) a D a ?_ a ⟨by omega,λ_=>rfl,λs=>by omega⟩ ?_)
 .simp only[U.Y,U,bs.same,a9,a'];and_intros<;>first|exactλ_ _=>rfl|rfl
 rintro⟨e,p⟩ ⟨F,K,J⟩;simp only at F K J;have j:0+(e:Int).toNat=e:=w;by_cases s:e<c b.1
 .by_cases S:e=i0
  .subst S;obtain rfl:=K (bC _);have u:=r.c0;have y:=r.bU;generalize aa:(b.1.getD e (0,[])).2=ag at *;refine a8 f [54,917] a ?_ ?_
   .simp only[U,bz,a',a9];omega
   refine g.eI (ι:=Unit) b7 17 20 20 (λk=>ax k 16) (λk=>[aH 7 0,.n (.Q (dB 3 (c b.1) (c b.1))),Q e,cF 3 (.bx (c b.1) 2 (0+(e:Int).toNat) 0),cF 3 (.bx (c b.1) 2 (0+(e:Int).toNat) 0),Q (b.1.getD (0+(e:Int).toNat) (0,[])).1,aH 1 1,Q d.2.1,bg ((b.1.getD (0+(e:Int).toNat) (0,[])).1==d.2.1),bg l,aH 1 2,Q d.2.2.1,aH 7 0,.n (.Q (dB 3 (c b.1) (c b.1))),Q e,cF 3 (.bx (c b.1) 2 (0+(e:Int).toNat) 0),cF 3 (.bx (c b.1) 2 (0+(e:Int).toNat) 1)].getD k .any)
    (λ_ k=>[ay (.val (.slice (h ⟨i,0,n⟩) (c ag) cap)),Q (c ag),Q (c ag-1)].getD (k-17) .any)
    (λ_=>Ew b d e i cap (c ag) p) a a a a a a a (λk s=>by have:=fz s;omega) a
    ⟨aY.w,aY.w,aY.w,aY.eval (bh:=[]) bc f a q5,aY.w,aY.eval (bh:=[]) bc f a Om,aY.w,aY.w,aY.w,aY.eval (bh:=[66]) bc f a Oa,aY.w,aY.w,aY.w,aY.w,aY.w,aY.eval (bh:=[]) bc f a q5,aY.w,B,B,B,B,B,B⟩
    (λ_=>⟨aY.w,aY.w,aY.w,aY.eval (bh:=[]) bc f a q5,aY.w,aY.eval (bh:=[]) bc f a Om,aY.w,aY.w,aY.w,aY.eval (bh:=[66]) bc f a Oa,aY.w,aY.w,aY.w,aY.w,aY.w,aY.eval (bh:=[]) bc f a q5,aY.w,B,aY.eval (bh:=[]) bc f a q5,aY.eval (bh:=[]) bc f a F3,B⟩)
    (dX.dc (aY.a3 (j5 a) (a2.e' bc (ap:=.Q (.c (.val (.slice (h ⟨i,0,n⟩) (c ag) cap)))) a a a a a ?_ ?_))) λ_=>?_
   .exact QT
   .grind
   refine a8 f [78,918] a ?_ ?_
   .simp only[U,bz,a9];omega
   refine g.eI (ι:=Unit) b7 5 10 8 (λk=>ax k 4||(ax 6 k&&ax k 9)) (λk=>[aH 7 0,.n (.Q (dB 3 (c b.1) (c b.1))),Q e,cF 3 (.bx (c b.1) 2 (0+(e:Int).toNat) 0),cF 3 (.bx (c b.1) 2 (0+(e:Int).toNat) 1),.any,aH 1 2,Q d.2.2.1,aH 1 3,ay (.T d.2.2.2)].getD k .any)
    (λ_ k=>[ay (.val (.slice (h ⟨i,0,n⟩) (c ag) cap))].getD (k-5) .any)
    (λ_=>Ew b d e i cap (c ag) p) a a a a a a a (λk s=>by simp at s;omega) a
    ⟨aY.w,aY.w,aY.w,aY.eval (bh:=[]) bc f a q5,aY.w,B,aY.w,aY.w,aY.w,aY.w,B,B,B,B⟩
    (λ_=>⟨aY.w,aY.w,aY.w,aY.eval (bh:=[]) bc f a q5,aY.w,B,aY.w,aY.w,aY.w,aY.w,B⟩)
    (dX.dc (aY.a3 (j5 a) (a2.e' bc (ap:=.Q (.c (.val (.slice (h ⟨i,0,n⟩) (c ag) cap)))) a a a a a ?_ ?_))) λ_=>?_
   .exact QT
   .grind
   refine b9 f a q5 ?_;have M:c p=c ag*2:=O.len;have I:0+d.2.2.1.toNat*2+1=A*2+1:=w;refine g.eS bc 6 a a a a a a a ?_ a a λz C=>?_
   .show 0+d.2.2.1.toNat*2+1+1<=c p;omega
   have ab:=J3 O W C;refine b9 f a F3 (g.aw (e+1,p.take (A*2+1)++z++p.drop (A*2+1+c z)) a D ?_ ?_ ?_)
   .simp only[U.Y,U,bs.same,a9,a'];show cu 170 2 _ _ (List.take (0+d.2.2.1.toNat*2+1) p++z++List.drop (0+d.2.2.1.toNat*2+1+c z) p)=_;rw[I]
   .grind
   grind
  have Y:=r.bZ e s S;refine a8 f [54,-66,-78] a ?_ (g.aw (e+1,p) a ?_ ?_ ?_ ?_)
  .simp only[U,a7,j,eN,bz,a',a9];and_intros<;>first|exact Y|omega
  .simp
  .simp
  .grind
  grind
 obtain rfl:e=c b.1:=w;refine a8 f [-54] a D (g.az ?_);refine b9 f a B (g.bf ⟨(.row i cap,p),J r.a'⟩ [3,4,5,6] ?_ e4);simp
def UZ{p}{args}(b)(d)(i0 A)(x:i0<c b.1)(t:bl (ι:={g:fv×m X // eo 2 (b.1.getD i0 (0,[])).2.length (bI.fn (gY (b.1.getD i0 (0,[])).2 A d.2.2.2)) g.2}) q p args []
   (λ_=>.n (.agg [dB 0 (c b.1) (c b.1),dB 1 (c b.2.1) (c b.2.1),dB 2 (c b.2.2) (c b.2.2)]))
   (λg=>[.q 119 2 (c b.1) (gq b.1 i0 (c6 g.1.1 (b.1.getD i0 (0,[])).2.length)),.q 50 2 (c b.2.1) (bd.fn b.2.1),.q 54 2 (c b.2.2) (a4.fn b.2.2),.K (cu 170 2 g.1.1 (b.1.getD i0 (0,[])).2.length g.1.2)])):
  Y q p args [] (b0 (hh b d i0 A)) []:=by
 generalize e:b.1.getD i0 (0,[])=i at *;have z:∀k,k≠i0->a1.fn (hh b d i0 A).1 k=a1.fn b.1 k:=λk o=>by simp[c5.fn,gI,aj,o1,p' o]
 have D:a1.fn (hh b d i0 A).1 i0=[.int .i64 i.1,.B v 2 (c i.2) (bI.fn (gY i.2 A d.2.2.2))]:=by have:(hh b d i0 A).1.getD i0 a1.E=(i.1,gY i.2 A d.2.2.2):=N;show a1.a8 ((hh b d i0 A).1.getD i0 a1.E)=_;rw[this];show[M.int .i64 i.1,M.B v 2 (c (gY i.2 A d.2.2.2)) (bI.fn (gY i.2 A d.2.2.2))]=_;rw[L9]
 have y:=bl.fA (aU:=λg:{g:fv×m X // eo 2 (c i.2) (bI.fn (gY i.2 A d.2.2.2)) g.2}=>[.q 119 2 (c b.1) (gq b.1 i0 (c6 g.1.1 (c i.2))),.q 50 2 (c b.2.1) (bd.fn b.2.1),.q 54 2 (c b.2.2) (a4.fn b.2.2)]) (fl:=λ_=>[.q 119 2 (c b.1) (a1.fn (hh b d i0 A).1),.q 50 2 (c b.2.1) (bd.fn b.2.1),.q 54 2 (c b.2.2) (a4.fn b.2.2)]) (W:=170) (f:=2) (j:=c i.2) (bP:=λg=>g.1.1) (ag:=λg=>g.1.2) t (λg=>g.2) 0 bk bk bk bk (λ_=>g5 _)
  (λg k o=>by exact bE)
  (λg k o r C O=>by
   by_cases s:k=i0
   .subst s;rw[D]at O;have:gq b.1 k (c6 g.1.1 (c i.2)) k=[.int .i64 i.1,.val (c6 g.1.1 (c i.2))]:=Oz;rw[this];rcases r with _|_|r
    .simp at O;subst O;exact⟨_,a,.inl a⟩
    .exact RQ
    grind
   .rw[z k s]at O;have:gq b.1 i0 (c6 g.1.1 (c i.2)) k=a1.fn b.1 k:=Fj
    rw[this];exact⟨C,O,.inl a⟩)
 have B:=bl.bK (aU:=λ_=>[.q 119 2 (c b.1) (a1.fn (hh b d i0 A).1),.q 50 2 (c b.2.1) (bd.fn b.2.1)]) (W:=54) (f:=2) (j:=λ_=>c b.2.2) (V:=λ_=>a4.fn b.2.2) y bk (λ_=>?_) bk (λ_=>g5 _);have u:=bl.bK (aU:=λ_=>[.q 119 2 (c b.1) (a1.fn (hh b d i0 A).1)]) (W:=50) (f:=2) (j:=λ_=>c b.2.1) (V:=λ_=>bd.fn b.2.1) B bk (λ_=>?_) bk (λ_=>g5 _);have w:=bl.bK (aU:=λ_=>[]) (W:=119) (f:=2) (j:=λ_=>c b.1) (V:=λ_=>a1.fn (hh b d i0 A).1) u bk (λ_=>?_) bk (λ_=>bC _);refine(w.le (oH:=λ_=>b0 (hh b d i0 A)) bk (λ_=>?_)).Q
 .exact QE
 .simp
 .simp
 simp
def X1(b)(d)(e:dH b)(f:d.1=3)(i0 A)(a:sq b d i0 A):Y q 76 [b0 b,eI d] [] (b0 (hh b d i0 A)) []:=
 UZ b d i0 A a.a' (X2 b d e f i0 A a)
abbrev ack(a:cb)(b:dS):m aq:=[im a,.cells 35 (vI b),.cells 30 [cH,cH,cH],.x 119 2 (c a.1) (a1.fn a.1),.x 50 2 (c a.2.1) (bd.fn a.2.1),.x 54 2 (c a.2.2) (a4.fn a.2.2),
 .cells 30 [.x 3 2 (c a.1) (a1.fn a.1),.x 4 2 (c a.2.1) (bd.fn a.2.1),.x 5 2 (c a.2.2) (a4.fn a.2.2)]]
def X7(b)(d)(f:dH b)(s:d.1=3)(p:pY b d):Y q 76 [b0 b,eI d] [] (b0 b) []:=by
 refine Y.bg bc func76 rfl rfl rfl λz=>?_;have i:a_ q [(44,kN)]:=.cons lA .nil;have y:=f.aZ;refine b9 i a B (g.aA (qq b f.aZ f.bl f.aW f.bm f.aM) [] a (a8 i [-13,-42,48] a ha (g.aB 7 (λe=>e<=c b.1) (λe:Nat=>[(3,aH 1 0),(4,aH 2 0),(5,aH 6 0),(8,Q e)]) (λ_=>ack b d) (λe=>c b.1-e) 0 a D a D a w ?_)));intro e m;by_cases s:e<c b.1
 .have t:=p e s;have u:=f.bl _ (vr s);have j:b.1.getD (e:Int).toNat a1.E=b.1.getD e (0,[]):=by rw[cR];rfl
  generalize b.1.getD e (0,[])=r at *;by_cases k:r.1=d.2.1
  .refine a8 i [54,66,-78] a ?_ (g.aw (e+1) a ?_ ?_ ?_ ?_)
   .simp only[U,a7,j,k,gk,bz,dq,a',a9];exact fC
   .simp
   .simp
   .exact q3
   omega
  refine a8 i [54,-66,-78] a ?_ (g.aw (e+1) a ?_ ?_ ?_ ?_)
  .simp only[U,a7,j,eN,bz,dq,a',a9];and_intros<;>first|exact k|omega
  .simp
  .simp
  .exact q3
  omega
 obtain rfl:e=c b.1:=w;refine a8 i [-54] a D (g.az ?_);refine b9 i a B (g.bf () [] ?_ (λx o=>absurd o D));simp
def Xc(j):Y q 298 [Q j] [] (bg (decide (0<=j)&&decide (j<999999999989))) []:=by
 refine Y.ab func298 rfl λb=>?_;by_cases s:0<=j
 .exact a3 [5] a ha (g.ao a ha)
 exact a3 [-5] a ha (g.ao a ha)
def Yg(b i):Y q 267 [pa b i] [] (bg (f' (b,i))) []:=by
 refine Y.ab func267 rfl λf=>?_;have e:a_ q [(298,di c7 (λd=>bg (decide (0<=d)&&decide (d<999999999989))) λ_=>[])]:=.cons (.a9 λd _=>Xc d) .nil;unfold f';cases s:(decide (0<=b)&&decide (b<999999999989))with
 |false=>exact a8 e [-6,-11] rfl ha (g.ao rfl)
 |true=>
  by_cases O:1<=i
  .exact a8 e [6,11] a ds (g.ao a pU)
  exact a8 e [6,-11] a ds (g.ao a pU)
abbrev BZ:bH:=di sx (λa=>bg (f' a)) λ_=>[]
def Np:bK q 267 BZ:=.a9 λa _=>Yg a.1 a.2
def ND(d:m (Int×Int)):∀a:dJ,dJ.fq a->(d.foldl (λa b=>a.put b.1 b.2) a).ad=d.foldl ec a.ad/\dJ.fq (d.foldl (λa b=>a.put b.1 b.2) a):=by
 induction d with
 |nil=>grind
 |cons b f e=>
  grind[Ea,abw]
def V_(d:m b4)(T:c d<=4000000)(R:c (dD d)<=100000):Y q 217 [a1.B d] [] (a4.B (eD d)) []:=by
 refine Y.ab func217 rfl λM=>?_;have e:a_ q [(267,BZ)]:=.cons Np .nil;refine cU e a B (g.bE 3 300 2 a a ?_);refine g.aB 1 (λb=>b<=c d/\(dD (d.take b)).all f'=l) (λb:Nat=>[(3,.n (.Q (.x 0 2 (c (dD (d.take b))) (a4.fn (dD (d.take b)))))),(9,a1.B d),(10,Q (c d)),(11,Q b)]) (λb=>[jB (dD (d.take b))]) (λb=>c d-b) 0 a ?_ a ?_ a ⟨by omega,a⟩ ?_
 .simp[dD]
 .simp[dD]
 rintro b ⟨C,j⟩;by_cases k:b<c d
 .have o:d.getD (b:Int).toNat a1.E=d.getD b (0,[]):=N;have F:=EG k;refine bf e [12] a bw (g.aB 2 (λu=>u<=(d.getD b (0,[])).2.length/\(hr d b u).all f'=l) (λu:Nat=>[(3,.n (.Q (.x 0 2 (c (hr d b u)) (a4.fn (hr d b u))))),(5,aH 1 0),(9,a1.B d),(10,Q (c d)),(11,Q b),(16,bI.B (d.getD b (0,[])).2),(17,Q (d.getD b (0,[])).2.length),(18,Q u)]) (λu=>[jB (hr d b u),.cells 119 [.c (.int .i64 (d.getD b (0,[])).1),.c (.B v 2 (d.getD b (0,[])).2.length (bI.fn (d.getD b (0,[])).2))]]) (λu=>(d.getD b (0,[])).2.length-u) 0 a Qe a Qe a ⟨by omega,by simpa[hr]using j⟩ ?_);rintro u ⟨V,z⟩;obtain⟨J,O⟩:=zG (d:=d) (u:=u) k;have X:c (hr d b u)<=100000:=N;have Z:(d.getD b (0,[])).2.length<=100000:=by grind[MU]
  by_cases y:u<(d.getD b (0,[])).2.length
  .have x:(d.getD b (0,[])).2.getD (u:Int).toNat bI.E=(d.getD b (0,[])).2.getD u (0,[]):=N;have f:hr d b (u+1)=hr d b u++[(((d.getD b (0,[])).2.getD u (0,[])).1,(d.getD b (0,[])).1)]:=RX;have A:=a4.a0 (hr d b u) (((d.getD b (0,[])).2.getD u (0,[])).1,(d.getD b (0,[])).1);cases t:f' (((d.getD b (0,[])).2.getD u (0,[])).1,(d.getD b (0,[])).1)with
   |false=>
    have W:eD d=[]:=by obtain⟨J,O⟩:=zG (d:=d) (u:=u+1) k;unfold eD;rw[bj];grind
    refine bf e [19,29] a ?_ (g.aS (bW.zero a ?_))
    .simp only[U,x,t,bz,a',a9];exact q2
    exact bw
   |true=>
    refine bf e [19,-29] a ?_ (g.aw (u+1) a ?_ ?_ ?_ ?_)
    .simp only[U,x,t,a7,show pk.bytes=16 from a,bz,a',a9];exact q2
    .exact P2
    .exact P2
    .grind
    omega
  have aa:u=(d.getD b (0,[])).2.length:=w;have s:hr d b u=dD (d.take (b+1)):=by rw[F,hr];grind[List.length_map]
  refine bf e [-19] a bE (g.az ?_);rw[s];refine cU e a bE (g.aw (b+1) a D ?_ ⟨k,s▸z⟩ w);simp
 .obtain rfl:b=c d:=w;rw[c0]at j⊢;refine bf e [-12] a D (g.az ?_);refine g.fU (dE:=[(3,a4.B (dD d))]) (ar:=[jB (dD d)]) ?_ a D a D;have I:∀p∈dD d,a7 .i64 p.1/\a7 .i64 p.2:=λp S=>by have:=aW.1 j p S;simp only[f',cp,bz]at this;simp only[a7];omega
  have i:a_ q [(263,eO [qF (dD d)] (ay (eP (jd (dD d)))))]:=.cons (e8 (JM (dD d) w I)) .nil;have aZ:(jd (dD d)).ad=eD d:=by unfold eD;rw[bo j];exact(ND (dD d) .nil bE).1
  have E:c (eD d)<=100000:=by have:=C_ (dD d) [];unfold eD;grind
  rw[<-aZ]at E⊢;clear aZ;generalize jd (dD d)=r at *;have K:=Jj (q:=q) r w
  cases r<;>(
   refine cU i a a (g.bI K.tocE [] a a a a (by simp[eP]) a a a bk a bk a λ_=>?_)
   exact cU i a B (g.ao a))
def qz(b:m bD)(d:bD):Int:=match b.findIdx? (λe=>e==d)with
 |some a=>a
 |none=>-1
def ZJ{d}{aa}(a:e<c d)(j:∀b,b<e->d.getD b []≠aa)(g:d.getD e []=aa):qz d aa=e:=by
 have:d.findIdx? (λf=>f==aa)=h e:=by rw[uO];refine⟨a,by grind,λb i=>?_⟩;grind
 simp[qz,this]
def ZL{d}{aa}(e:∀a,a<c d->d.getD a []≠aa):qz d aa=-1:=by have:d.findIdx? (λb=>b==aa)=n:=ug;simp[qz,this]
def ZK(d)(aa):decide (0<=qz d aa)=d.contains aa:=by unfold qz;grind
def V2(d)(aa):Y q 297 [bS.B d,b2 aa] [] (Q (qz d aa)) []:=by
 refine Y.ab func297 rfl λm=>?_;have r:=m.B 0 a;refine aQ a B (g.aB 0 (λb=>b<=c d/\∀e,e<b->d.getD e []≠aa) (λb:Nat=>[(0,bS.B d),(1,b2 aa),(7,Q (c d)),(8,Q b)]) (λ_=>[]) (λb=>c d-b) 0 a D a B a ⟨by omega,by omega⟩ ?_);rintro b ⟨p,f⟩;by_cases k:b<c d
 .have i:d.getD (b:Int).toNat bS.E=d.getD b []:=rfl;by_cases j:d.getD b []=aa
  .rw[ZJ k f j];refine a3 [9,16] a ?_ (g.aS (bW.zero a));simp[U,i,bz,gl,a',a9];and_intros<;>first|exact j.symm|omega
  refine a3 [9,-16] a Pw (g.aw (b+1) a D B ⟨k,λe o=>?_⟩ w);grind
 rw[ZL λe o=>f e w];refine a3 [-9] a bw (g.az ?_);exact aQ a B (g.ao a)
abbrev Tm:bH:=ej (eS bS) eG (λa b=>Q (qz a b)) λ_ _=>[]
def VL(d)(aa):Y q 266 [bS.B d,b2 aa] [] (bg (d.contains aa)) []:=by refine Y.ab func266 rfl λe=>?_;have b:a_ q [(297,Tm)]:=.cons (.bk λd aa _=>V2 d aa) .nil;refine b9 b a (by simp[U];exact bS.J _) (g.ao a ?_);simp only[U,bS.l,a9];exact ZK d aa
abbrev Hm:bH:=ej (eS bS) eG (λa b=>bg (a.contains b)) λ_ _=>[]
def adB:bK q 266 Hm:=.bk λa b _=>VL a b
def kW(b:m fo)(d:Nat):Bool:=(aA d).all λa=>f' (b.getD a (0,0))&&(a==0||decide ((b.getD (a-1) (0,0)).1<(b.getD a (0,0)).1))
theorem Lp{d}:kW d (e+1)=(kW d e&&(f' (d.getD e (0,0))&&(e==0||decide ((d.getD (e-1) (0,0)).1<(d.getD e (0,0)).1)))):=by unfold kW;rw[List.range_succ,List.all_append];simp
def Ln{d}(g:kW d e=v):∀a,e<=a->kW d a=v:=by
 intro a f;obtain⟨b,rfl⟩:=Nat.exists_eq_add_of_le f;induction b with
 |zero=>exact g
 |succ b i=>grind[Lp]
def V'(d):Y q 262 [a4.B d] [] (bg (kW d (c d))) []:=by
 refine Y.ab func262 rfl λp=>?_;have t:=p.B 0 a;have b:a_ q [(267,BZ)]:=.cons Np .nil;refine b9 b a B (g.aB 0 (λe=>e<=c d/\kW d e=l) (λe:Nat=>[(0,a4.B d),(5,a4.B d),(6,Q (c d)),(7,Q e)]) (λ_=>[]) (λe=>c d-e) 0 a D a B a ⟨by omega,a⟩ ?_);rintro e ⟨r,k⟩;by_cases o:e<c d
 .have j:=Lp (d:=d) (e:=e);rw[k,fV]at j;have i:d.getD (e:Int).toNat a4.E=d.getD e (0,0):=rfl;cases f:f' (d.getD e (0,0))with
  |false=>
   rw[Ln (e:=e+1) N (c d) w];refine a8 b [8,14,29] a ?_ (g.aS (bW.zero a));simp_all
  |true=>
  rw[f,fV]at j;by_cases s:e=0
  .subst s;refine a8 b [8,-14,-17,-29] a ?_ (g.aw 1 a D B ⟨o,j⟩ w);simp only[U,i,f,a7,bz,dq,a',a9];exact q2
  have m:d.getD ((e:Int)-1).toNat a4.E=d.getD (e-1) (0,0):=by rw[show((e:Int)-1).toNat=e-1 by omega];rfl
  by_cases u:(d.getD (e-1) (0,0)).1<(d.getD e (0,0)).1
  .refine a8 b [8,-14,17,-29] a ?_ (g.aw (e+1) a D B ⟨o,by grind⟩ w);simp only[U,i,m,f,a7,bz,dq,a',a9];exact q2
  rw[Ln (e:=e+1) N (c d) w];refine a8 b [8,-14,17,29] a ?_ (g.aS (bW.zero a));simp only[U,i,m,f,a7,bz,a',a9];exact q2
 obtain rfl:e=c d:=w;rw[k];refine a8 b [-8] a D (g.az ?_);exact b9 b a B (g.ao a)
def Wv(d):Y q 24 [az.B d,az.B d] [] (bg l) []:=by
 refine Y.ab func24 rfl λb=>?_;have i:=b.B 0 a;refine a3 [-10] a D (g.aB 0 (λe=>e<=c d) (λe:Nat=>[(0,az.B d),(1,az.B d),(5,Q e)]) (λ_=>[]) (λe=>c d-e) 0 a D a D a w ?_);intro e f;by_cases j:e<c d
 .exact Py
 exact FU
abbrev xN:bH:=ej (eS az) (eS az) (λ_ _=>bg l) λa b=>[b=a]
def EU:bK q 24 xN:=.bk λa b d=>by have:b=a:=d;subst this;exact Wv _
def Ww(d):Y q 82 [a4.B d,a4.B d] [] (bg l) []:=by
 refine Y.ab func82 rfl λb=>?_;have i:=b.B 0 a;refine a3 [-10] a D (g.aB 0 (λe=>e<=c d) (λe:Nat=>[(0,a4.B d),(1,a4.B d),(5,Q e)]) (λ_=>[]) (λe=>c d-e) 0 a D a D a w ?_);intro e f;by_cases j:e<c d
 .exact Py
 exact FU
abbrev Ht:bH:=ej (eS a4) (eS a4) (λ_ _=>bg l) λa b=>[b=a]
def adK:bK q 82 Ht:=.bk λa b d=>by have:b=a:=d;subst this;exact Ww _
abbrev Lu(a:b4):aq:=.cells 119 [.c (.int .i64 a.1),.c (.B v 2 (c a.2) (bI.fn a.2))]
def Wy(b):Y q 83 [fM b,fM b] [] (bg l) []:=by
 refine Y.ab func83 rfl λr=>?_;by_cases E:c b.2<=9223372036854775807
 .refine a3 [-10,-18] a D (g.aB 2 (λd=>d<=c b.2) (λd:Nat=>[(2,aH 0 0),(3,aH 1 0),(5,Q d)]) (λ_=>[Lu b,Lu b]) (λd=>c b.2-d) 0 a D a D a w ?_);intro d p;by_cases o:d<c b.2
  .refine bR [24,-37] a ?_ (g.aw (d+1) a ?_ ?_ ?_ ?_)
   .simp[a7,o];omega
   .simp
   .simp
   .grind
   omega
  refine bR [-24] a bM (g.az ?_);exact cB a B (g.ao a)
 exfalso;obtain⟨k,z,f,_⟩:=r;obtain⟨C,t⟩:∃u,bx [] k u (fM b):=by
  match z,f with
  |[i,_],f=>exact⟨i,f.1⟩
 obtain⟨s,_,e⟩:=t
 match s,e with
 |[i,m],e=>
  have:=e.2.1;cases(show Rd k.D m (.B v 2 (c b.2) (bI.fn b.2))from this)with
  |B x j y A F=>omega
abbrev Hu:bH:=ej (jI bI) (jI bI) (λ_ _=>bg l) λa b=>[b=a]
def adL:bK q 83 Hu:=.bk λa b d=>by have:b=a:=d;subst this;exact Wy _
abbrev j2(a:dF):aq:=.cells 50 [.c (.int .i64 a.1),.c (.B v 2 (c a.2) (cx.fn a.2))]
def Wz(d)(f:c d.2<=4000000):Y q 84 [i2 d,i2 d] [] (bg l) []:=by
 refine Y.ab func84 rfl λi=>?_;have x:a_ q [(24,xN)]:=.cons EU .nil;refine a8 x [-10,-18] a D (g.aB 2 (λb=>b<=c d.2) (λb:Nat=>[(2,aH 0 0),(3,aH 1 0),(5,Q b)]) (λ_=>[j2 d,j2 d]) (λb=>c d.2-b) 0 a D a D a w ?_);intro b e;by_cases j:b<c d.2
 .refine bf x [24,-39,53] a ?_ (g.aw (b+1) a ?_ ?_ ?_ ?_)
  .simp only[U,a7,gk,gz,iS,bz,a',a9];and_intros<;>first|exact az.J _|omega
  .simp
  .simp
  .grind
  omega
 refine bf x [-24] a bM (g.az ?_);exact Ad
abbrev Hv:bH:=ej (jI cx) (jI cx) (λ_ _=>bg l) λb a=>[a=b,c a.2<=4000000]
def adM:bK q 84 Hv:=.bk λa b e=>by obtain⟨rfl,d⟩:b=a/\_:=e;exact Wz _ d
abbrev zI(a:cb):aq:=.cells 30 [.c (.B v 2 (c a.1) (a1.fn a.1)),.c (.B v 2 (c a.2.1) (bd.fn a.2.1)),.c (.B v 2 (c a.2.2) (a4.fn a.2.2))]
def WA(b)(e:dH b):Y q 51 [b0 b,b0 b] [] (bg l) []:=by
 refine Y.ab func51 rfl λk=>?_;have x:a_ q [(82,Ht),(83,Hu),(84,Hv)]:=.cons adK (.cons adL (.cons adM .nil));have o:=e.aZ;have m:=e.aW;refine bf x [-13,-21,28] a ?_ ?_
 .simp only[U,a7,gk,gz,iS,bz,a',a9];and_intros<;>first|exact a4.J _|omega
 refine g.aB 2 (λd=>d<=c b.1) (λd:Nat=>[(2,aH 0 0),(3,aH 1 0),(5,Q d)]) (λ_=>[zI b,zI b]) (λd=>c b.1-d) 0 a D a D a w ?_;intro d f;by_cases i:d<c b.1
 .refine bf x [35,48] a ?_ (g.aw (d+1) a ?_ ?_ ?_ ?_)
  .simp only[U,a7,bz,a',a9];and_intros<;>first|exact bI.J _|omega
  .simp
  .simp
  .grind
  omega
 refine bf x [-35] a bM (g.az ?_);refine cU x a B (g.aB 2 (λd=>d<=c b.2.1) (λd:Nat=>[(2,aH 0 0),(3,aH 1 0),(6,Q d)]) (λ_=>[zI b,zI b]) (λd=>c b.2.1-d) 0 a D a D a w ?_);intro d f;by_cases i:d<c b.2.1
 .have u:=(e.bm _ (kr i (0,[]))).1;have j:b.2.1.getD (d:Int).toNat bd.E=b.2.1.getD d (0,[]):=N;refine bf x [54,67] a ?_ (g.aw (d+1) a ?_ ?_ ?_ ?_)
  .simp only[U,a7,j,cx.l,bz,a',a9];and_intros<;>first|exact cx.J _|omega
  .simp
  .simp
  .grind
  omega
 refine bf x [-54] a bM (g.az ?_);exact Ad
def Jc(b:m cJ):Y q 12 [bu.B b,bu.B b] [] (bg l) []:=by
 refine Y.ab func12 rfl λd=>?_;have j:=d.B 0 a;refine a3 [-10] a D (g.aB 0 (λe=>e<=c b) (λe:Nat=>[(0,bu.B b),(1,bu.B b),(5,Q e)]) (λ_=>[]) (λe=>c b-e) 0 a D a D a w ?_);intro e i;by_cases f:e<c b
 .refine bR [14,-25] a ?_ (g.aw (e+1) a ?_ ?_ ?_ ?_)
  .simp[a7,f];omega
  .simp
  .simp
  .exact q3
  omega
 exact FU
end
def Gz{d}:∀{f:Nat},c (fF d f)=f->∀a,1<=a->a<f->d.getD a 0≠d.getD (a-1) 0
 |0,_,a,_,b=>by omega
 |f+1,b,a,e,i=>by
  have g:=xo d f;rw[fF]at b;split at b
  .omega
  rename_i j;simp only[c9,fT]at b;by_cases k:a=f
  .grind
  exact Gz (f:=f) w a e w
def MS(d):(j3 d).Pairwise λa b=>a<=b:=by have:=List.pairwise_mergeSort (le:=λa b:Int=>decide (a<=b)) (λe f g i j=>by grind) (λe f=>by grind) d;exact this.imp λk=>by grind
def zF(d):(j3 d).Perm d:=List.mergeSort_perm _ _
def TE(d):c (hV (j3 d))=c d↔d.Nodup:=by
 rw[<-qT d,<-(zF d).nodup_iff];have r:=MS d;generalize j3 d=i at *;have k:∀{b:Nat} (e:b<c i),i.getD b 0=i[b]:=λ{b} e=>by grind
 constructor
 .intro e;have o:=Gz e;refine List.Pairwise.imp (R:=λs t=>s<t) (λe q=>by omega) (na.2 λb f g a m=>?_);have j:=na.1 r;have p:=o f w a;rw[k a,k w]at p;have u:=j (f-1) f w a w;by_cases q:b=f-1
  .grind
  have:=j b (f-1) g w w;omega
 intro e;unfold hV;rw[uS (bC _),c0];exact FI
def MV(j A):∀(f:m Int)d(e:Bool),(e=l->j∈d) ->
  ((A∈(f.foldl (gu j) (d,e)).1∨(A=j/\(f.foldl (gu j) (d,e)).2=v))↔((A∈d∨(A=j/\e=v))∨A∈f))
 |[],d,e,_=>by simp
 |i::f,d,e,r=>by
  rw[hS];have g:∀a b,gu j (d,e) i=(a,b)->(b=l->j∈a)/\((A∈a∨(A=j/\b=v))↔((A∈d∨(A=j/\e=v))∨A=i)):=λa b p=>by unfold gu at p;grind
  cases k:gu j (d,e) i with
  |mk a b=>
   obtain⟨q,o⟩:=g a b k;rw[MV j A f a b q,o,eT,or_assoc]
def aar{d}{b a:Int}:a∈fa d b↔a∈d∨a=b:=by have:=MV b a d [] v D;unfold fa;grind
def yY{A}:∀{b a:m Int},A∈b.foldl fa a↔A∈a∨A∈b
 |[],a=>by simp
 |d::b,a=>by rw[hS,yY,aar,eT,or_assoc]
def DH{d}{A}:A∈gG d↔A∈d9 d:=by unfold gG;rw[yY];simp
def K1{A}:∀{e:m dF}{b:m Int},A∈e.foldl (λa d=>(gG d.2).foldl fa a) b↔A∈b∨∃d∈e,A∈d9 d.2
 |[],b=>by simp
 |d::e,b=>by rw[hS,K1,yY,DH,or_assoc];simp
def pr{d}{A}:A∈fr d↔∃a∈d,A∈d9 a.2:=by unfold fr;rw[K1];simp
def K0{d}{A}:∀{u:Nat},u<=c d->(A∈fF d u↔A∈d.take u)
 |0,_=>by simp[fF]
 |u+1,e=>by
  have b:=K0 (d:=d) (A:=A) (u:=u) w;rw[fF,h4 w 0];split
  .rename_i t;rw[b,e2];constructor
   .exact .inl
   rintro(a|a)
   .exact a
   simp only[fU]at a;subst a;rw[t.2,aj,bJ w];exact A4.2 ⟨u-1,by simp;omega,by simp⟩
  grind
def vO{a}{A}:A∈ez a↔A∈d9 a.2:=by unfold ez hV;rw[K0 (bC _),c0];exact(zF _).mem_iff
def aan{d}{j:Int->Bool}:(fr d).all j=(aA (c d)).all λe=>!(ez (d.getD e (0,[]))).any λb=>!j b:=by
 rw[o4,aW,gd];constructor
 .intro g e a;rw[iT,List.any_eq_false];intro b f;have:=g b (pr.2 ⟨_,oo a,vO.1 f⟩);simp[this]
 intro g b f;obtain⟨o,m,k⟩:=pr.1 f;obtain⟨e,a,rfl⟩:=A4.1 m;have i:=g e a;rw[aj,bJ a,h9,iT,List.any_eq_false]at i;simpa using i b (vO.2 k)
def tc{a:m α}(d:e<c a)(b:α):a.getD e b=a[e]:=N
def xu{al:α->Int}{O}{d}:(∀a,a<c d->kl al O d a=l)↔d.Pairwise λo p=>al o<al p:=by
 constructor
 .intro j;have key:∀f a e (b:a<c d) (g:e<c d),e=a+f->0<f->al d[a]<al d[e]:=by
   intro f;induction f with
   |zero=>grind
   |succ f q=>
    intro a e b g k _;have m:=j e g;rw[qc w,decide_eq_true_iff,tc w,tc g]at m;by_cases i:f=0
    .subst i;grind
    grind
  exact na.2 λa e b g k=>key (e-a) a e b g w w
 intro j a b;by_cases i:a=0
 .exact bE
 rw[qc i,decide_eq_true_iff,tc w,tc b];exact(na.1 j) (a-1) a w b w
def sO{d}{S:α->Bool}{O}:(∀a,a<c d->S (d.getD a O)=l)↔∀b∈d,S b=l:=by grind[List.mem_iff_getElem]
structure n2(f:Int)(S:b4):Prop where
 c0:1<=S.1/\S.1<=99
 key:cm f=l
 len:1<=c S.2/\c S.2<=4
 gz:∀E∈S.2,right f E=l
 h7:S.2.Pairwise λE bv=>E.1<bv.1
def za{d}:ij f d=l↔n2 f d:=by
 rw[D3];simp[cp,bz,gd];have k:(∀b,b<c d.2->io f d b=l)↔(∀g∈d.2,right f g=l)/\d.2.Pairwise λg m=>g.1<m.1:=by
  rw[<-sO (O:=(0,[])),<-xu (al:=λg:cY=>g.1) (O:=(0,[]))];constructor
  .intro e;exact⟨λb a=>by have:=e b a;simp[io,cp]at this;exact this.1,λb a=>by have:=e b a;simp only[io,cp]at this;exact this.2⟩
  intro e b a;simp only[io,cp];exact⟨e.1 b a,e.2 b a⟩
 rw[k];constructor
 .rintro⟨⟨⟨t,j⟩,u⟩,i,C⟩;exact⟨t,j,u,i,C⟩
 rintro⟨t,j,u,i,C⟩;grind
structure iP(f:Int)(b:cb):Prop where
 cd:∀S∈b.1,n2 f S
 c5:b.1.Pairwise λS bm=>S.1<bm.1
 ax:(cc b.1).Nodup
 aW:∀E∈b.2.1,(1<=E.1/\E.1<=20)/\(dU f E b.1).isSome=l
 b_:b.2.1.Pairwise λE bv=>E.1<bv.1
 key:cm f=l
 ed:g_ b.2.2=l
 len:c b.1<=20
def r_{b}:h3 f b=l↔iP f b:=by
 unfold h3;simp[cp,bz,gd];have q:(∀e,e<c b.1->nN f b.1 e=l)↔(∀g∈b.1,n2 f g)/\b.1.Pairwise λg r=>g.1<r.1:=by
  rw[<-xu (al:=λg:b4=>g.1) (O:=(0,[]))];have:(∀g∈b.1,n2 f g)↔∀g∈b.1,ij f g=l:=⟨λk g o=>za.2 (k g o),λk g o=>za.1 (k g o)⟩
  rw[this,<-sO (O:=(0,[]))];constructor
  .intro k;exact⟨λe a=>by have:=k e a;simp[nN,cp]at this;exact this.1,λe a=>by have:=k e a;simp[nN,cp]at this;exact this.2⟩
  intro k e a;simp[nN,cp];grind
 have s:(∀e,e<c b.2.1->lz f b e=l)↔(∀i∈b.2.1,(1<=i.1/\i.1<=20)/\(dU f i b.1).isSome=l)/\b.2.1.Pairwise λi w=>i.1<w.1:=by
  rw[<-xu (al:=λg:dF=>g.1) (O:=(0,[]))];have:(∀i∈b.2.1,(1<=i.1/\i.1<=20)/\(dU f i b.1).isSome=l)↔∀i∈b.2.1,(decide (1<=i.1/\i.1<=20)&&(dU f i b.1).isSome)=l:=N;rw[this,<-sO (O:=(0,[]))];constructor
  .intro k;exact⟨λe a=>by have:=k e a;simp[lz,cp]at this⊢;grind,λe a=>by have:=k e a;simp[lz,cp]at this;exact this.1.2⟩
  intro k e a;have m:=k.1 e a;simp[lz,cp]at m⊢;grind
 rw[q,s];constructor
 .rintro⟨⟨⟨⟨⟨⟨m,C⟩,j⟩,u,A⟩,t⟩,d⟩,p⟩;exact⟨m,C,j,u,A,t,d,p⟩
 rintro⟨m,C,j,u,A,t,d,p⟩;grind
structure ka(f:Int)(p:dI):Prop extends iP f p.1 where
 fM:∀E∈p.1.2.1,∀j∈d9 E.2,j∈p.2.1
 gm:∀j∈p.2.2,∃S∈p.1.1,S.1=j
 g9:p.2.2.Pairwise λE bv=>E<bv
def tV{p}:hs f p=l↔ka f p:=by
 unfold hs;simp only[cp,r_,gd];have o:(fr p.1.2.1).all (λa=>p.2.1.contains a)=l↔∀g∈p.1.2.1,∀a∈d9 g.2,a∈p.2.1:=by
  rw[aW];constructor
  .intro e g u a k;simpa using e a (pr.2 ⟨g,u,k⟩)
  intro e a k;obtain⟨g,u,k⟩:=pr.1 k;grind
 have q:(∀d,d<c p.2.2->nF p.1.1 p.2.2 d=l)↔(∀a∈p.2.2,∃j∈p.1.1,j.1=a)/\p.2.2.Pairwise λg r=>g<r:=by
  rw[<-xu (al:=λa:Int=>a) (O:=0)];have:(∀a∈p.2.2,∃j∈p.1.1,j.1=a)↔∀a∈p.2.2,(p.1.1.any λj=>j.1==a)=l:=D;rw[this,<-sO (O:=0)];constructor
  .intro e;exact⟨λd b=>by have:=e d b;simp only[nF,cp]at this;exact this.1,λd b=>by have:=e d b;simp[nF,cp]at this;exact this.2⟩
  intro e d b;simp[nF,cp];grind
 rw[o,q];constructor
 .rintro⟨⟨m,i,C⟩,t⟩;exact⟨t,m,i,C⟩
 rintro⟨t,m,i,C⟩;grind
def ic(b:Int)(a:m Int)(d:b4):b4:=if d.1=b then fj d a else d
def e7(b:Int)(a:m Int)(d:m b4):m b4:=(d.map (ic b a)).filter λe=>!e.2.isEmpty
def hO(a:dI):dI:=match a.2.2 with
 |[]=>a
 |b::d=>((e7 b a.2.1 a.1.1,a.1.2),a.2.1,d)
def Y9{d:m cY}{a:m Int}{j}(e:j∈a):(d.filter λb=>a.contains b.1).find? (λb=>b.1==j)=d.find? (λb=>b.1==j):=N
def aa0{bO:Int}{a:m Int}{S}{j}(b:j∈a):fX f (ic bO a S) j=fX f S j:=by
 unfold ic;split
 .simp only[fX,fj,Y9 b]
 simp
def yu{f bO}{cz}{j}(b:j∈cz):∀a:m b4,dd f (e7 bO cz a) j=dd f a j
 |[]=>rfl
 |S::a=>by
  have g:=yu (f:=f) (bO:=bO) b a;have e:=aa0 (f:=f) (bO:=bO) (S:=S) b;unfold e7 dd at *;rw[kj,n6];split
  .grind
  rename_i d;have d:(ic bO cz S).2=[]:=N;have:fX f S j=n:=by rw[<-e];unfold fX;grind
  grind
def Y1{Z cT}{a}(d:∀b∈a,dd f Z b=dd f cT b):gD f Z a=gD f cT a:=by unfold gD;grind[List.map_congr_left]
def Ez{Z cT}{b}(i:∀a∈d9 b.2,dd f Z a=dd f cT a):dU f b Z=dU f b cT:=by
 have j:∀d∈b.2,fG f Z d=fG f cT d:=λd g=>by unfold fG;rw[Y1 λa e=>i a (p8.2 ⟨d,g,e⟩)]
 unfold dU fq;grind[List.map_congr_left]
theorem yS{bO}{cz}{a}:(ic bO cz a).1=a.1:=by unfold ic fj;split<;>rfl
theorem Dw{bO}{cz}{S}:List.Sublist (ic bO cz S).2 S.2:=by unfold ic fj;split<;>simp
def EH{bO}{cz}{Z}{a}(b:a∈e7 bO cz Z):∃d∈Z,a=ic bO cz d/\a.2≠[]:=by unfold e7 at b;grind
def K8{bO}{cz}:∀a:m b4,List.Sublist (cc (e7 bO cz a)) (cc a)
 |[]=>.refl _
 |d::a=>by
  have b:=K8 (bO:=bO) (cz:=cz) a;unfold e7 cc at *;rw[kj,n6,rp];split
  .rw[rp];exact(Dw.map _).append b
  grind
def ka.step{p}(b:ka f p):ka f (hO p):=by
 unfold hO;split
 .exact b
 rename_i bO y m;have s:=b.gm;have r:=b.g9;rw[m]at s r;have w:∀d∈p.1.2.1,dU f d (e7 bO p.2.1 p.1.1)=dU f d p.1.1:=λd i=>Ez λo e=>yu (b.fM d i o e) _;refine⟨⟨λx t=>?_,?_,b.ax.sublist (K8 _),λd i=>?_,b.b_,b.key,b.ed,?_⟩,b.fM,λo e=>?_,(iy.1 r).2⟩
 .obtain⟨S,j,rfl,q⟩:=EH t;have g:=b.cd S j;have k:=Dw (bO:=bO) (cz:=p.2.1) (S:=S);refine⟨by rw[yS];exact g.c0,g.key,⟨xd.2 q,e3 k.length_le g.len.2⟩,λd i=>g.gz d (k.subset i),g.h7.sublist k⟩
 .show (e7 bO p.2.1 p.1.1).Pairwise _;unfold e7;refine List.Pairwise.filter _ (ro.2 (b.c5.imp λu=>?_));grind[yS]
 .have:=b.aW d i;grind
 .show (c (e7 bO p.2.1 p.1.1))<=20;have:c (e7 bO p.2.1 p.1.1)<=c p.1.1:=by unfold e7;grind
  exact e3 this b.len
 obtain⟨S,j,rfl⟩:=s o (mm _ e);have q:S.1≠bO:=by grind[List.pairwise_cons]
 refine⟨S,?_,a⟩;show S∈e7 bO p.2.1 p.1.1;unfold e7;refine hg.2 ⟨g4.2 ⟨S,j,by unfold ic;grind⟩,?_⟩;have:=(b.cd S j).len.1;grind
def oP{o}(i:dO o=l):rf o:=by
 obtain⟨k,_,_,t⟩:=zU.1 i;have q:∀a∈o,d6 a.2=l/\c a.2<=40:=λa d=>by have:=(k a d).2;simp[fO,cp,bz]at this;grind
 refine⟨by omega,λa d=>⟨(q a d).1,by grind⟩,?_⟩;have:∀b:m cJ,(∀a∈b,c a.2<=40)->c (eU b)<=40*c b:=by
  intro b;induction b with
  |nil=>exact bE
  |cons a u j=>
   intro e;have f:=j λg p=>e g (mm _ p);have r:=e a iB;have s:=v3 a.2;simp[eU,rp,c9,fe]at f⊢;omega
 grind
theorem aaw(bO f)(Z):(j0 bO f Z).2.length=c Z:=DJ f Z
def xv{d:m dF}:∀a,d.Pairwise (λa f=>a.1<f.1)->(∀b∈d,a<=b.1/\b.1<=20)->(c d:Int)<=max 0 (21-a):=by
 induction d with
 |nil=>grind
 |cons b r g=>
  intro a k e;obtain⟨p,i⟩:=iy.1 k;have q:=e b iB;have:=g (b.1+1) i λo j=>⟨by grind,(e o (mm _ j)).2⟩
  grind
def LC(f):∀j a(b:m bD),(∀g∈b,cD g=l)->∀k∈gg f j a b,∃i d,a<=i/\i<a+c (gg f j a b)/\0<c d/\c d<=4/\(∀g∈d,cD g=l)/\k=j0 i f d
 |0,_,_,_,k,e=>by exact bE
 |j+1,a,b,o,k,e=>by
  simp only[gg]at e⊢;split at e
  .rename_i q;rw[bo q];rcases eT.1 e with rfl|e
   .grind
   obtain⟨i,d,s,r,t⟩:=LC f j (a+1) (b.drop 4) (λg p=>o g (p4 p)) k e;grind
  grind
def Da{a:m α}(d:c a≠0)(b:α):a.getD (c a-1) b∈a:=kr w b
def D4(f):∀g a(b:m bD),∀e∈gg f g a b,a<=e.1
 |0,_,_,e,d=>by exact bE
 |g+1,a,b,e,d=>by
  simp only[gg]at d;split at d
  .rcases eT.1 d with rfl|d
   .exact uN _
   have:=D4 f g (a+1) (b.drop 4) e d;omega
  grind
def Lz(f):∀(d:Nat) (a:Int)(b:m bD),(gg f d a b).Pairwise λe g=>e.1<g.1
 |0,_,_=>by simp[gg]
 |d+1,a,b=>by
  simp[gg];split
  .refine iy.2 ⟨λj i=>?_,Lz f d (a+1) (b.drop 4)⟩;have:=D4 f d (a+1) (b.drop 4) j i;exact bE
  simp
theorem aat{d}{e a}(b:a∈fI d e):a=e∨a∈d:=by
 induction d with
 |nil=>simp[fI]at b;grind
 |cons i g f=>
  simp only[fI]at b;grind
def aas{Z}{d}(e:d∈ig f Z):∃a∈Z,d=(d8 f a,fN a):=by
 have key:∀(Z:m bD) b,d∈Z.foldl (λg a=>fI g (d8 f a,fN a)) b->d∈b∨∃a∈Z,d=(d8 f a,fN a):=by
  intro Z;induction Z with
  |nil=>grind
  |cons a j i=>
   grind[aat]
 rcases key Z [] e with e|e
 .cases e
 grind
def yt{Z}{j}{b}(d:dd f Z j=h b):cD b=l/\d8 f b=j/\j∈cc Z:=by
 unfold dd at d;obtain⟨nK,k,a⟩:=List.exists_of_findSome?_eq_some d;unfold fX at a;split at a
 .rename_i e i;have m:e.1=j:=Ox;have g:=uF i;unfold iW hM at a;refine⟨by grind,by grind,p8.2 ⟨nK,k,g4.2 ⟨e,g,m⟩⟩⟩
 cases a
def JV{Z}{j}(p:cm f=l)(i:∀b∈Z,n2 f b)(o:j∈cc Z):∃b,dd f Z j=h b:=by
 obtain⟨nK,e,m⟩:=p8.1 o;obtain⟨s,r,t⟩:=g4.1 m;cases k:dd f Z j with
 |some b=>simp
 |none=>
  have d:fX f nK j=n:=List.findSome?_eq_none_iff.1 k nK e;unfold fX at d;split at d
  .rename_i g a;have u:g.1=j:=by simpa using List.find?_some a
   have q:=(i nK e).gz g (uF a);unfold right at q;unfold iW at d;grind
  rename_i a;have:=sB.1 a s r;grind
def Y7{Z cT}(a:cm f=l)(e:∀b∈Z,n2 f b)(q:∀j∈cc cT,j∈cc Z){j}{b}(p:dd f cT j=h b):dd f Z j=h b:=by obtain⟨i,k,o⟩:=yt p;obtain⟨r,d⟩:=JV a e (q j o);obtain⟨g,m,_⟩:=yt d;rw[d,y2 a i g (k.trans m.symm)]
def Y8{Z cT}(q:∀a(g:bD),dd f cT a=h g->dd f Z a=h g){b}{j}(k:fG f cT b=h j):fG f Z b=h j:=by
 have key:∀e,gD f cT b.2=h e->gD f Z b.2=h e:=by
  intro e d;unfold gD at *;split at d
  .rename_i i;cases d;have p:∀a∈b.2,dd f Z a=dd f cT a:=λa m=>by have:=aW.1 i a m;obtain⟨g,o⟩:=uP.1 this;simp_all
   simp_all
  cases d
 unfold fG at *;split at k
 .cases k
 simp_all
def acx{Z cT}(k:∀i(j:bD),dd f cT i=h j->dd f Z i=h j){a}{o}(d:dU f a cT=h o):dU f a Z=h o:=by
 unfold dU at *;split at d
 .rename_i t;cases d;simp only[cp]at t;have m:∀b∈a.2,fG f Z b=fG f cT b:=λb g=>by obtain⟨p,e⟩:=uP.1 (aW.1 t.1.2 b g);rw[e,Y8 k e]
  have q:fq f Z a.2=fq f cT a.2:=o6 λb g=>by simp_all
  simp_all
 cases d
section
variable {q:af T}
structure rg(b:cb):Prop where
 size:dH b
 hB:b.1.Pairwise λx i=>x.1<i.1
 num:∀E∈b.2.1,-4000000<=E.1/\E.1<=4000000
 aM:∀E∈b.2.2,1<=E.1/\E.1<=2
def Kp{b}(i:rg b)(d):(∃a r,sq b d a r)∨pY b d:=by
 by_cases g:pY b d
 .exact .inr g
 refine .inl ?_;simp only[pY,Classical.not_forall,Classical.not_not]at g;obtain⟨a,e,k,u,x⟩:=g;refine⟨a,d.2.2.1.toNat,e,k,λf j t o=>?_,by omega,by omega⟩;have q:b.1.getD a (0,[])=b.1[a]:=N;have p:b.1.getD f (0,[])=b.1[f]:=N;rw[q]at k;rw[p]at o;rcases dY f a with m|s
 .have:=na.1 i.hB f a j e m;omega
 have:=na.1 i.hB a f e j w;omega
theorem Lo{d}(f:kW d (c d)=l):(∀b∈d,f' b=l)/\d.Pairwise λb g=>b.1<g.1:=by
 have i:=gd.1 f;have j:∀a,a<c d->∀e,e<a->(d.getD e (0,0)).1<(d.getD a (0,0)).1:=by
  intro a;induction a with
  |zero=>grind
  |succ a k=>
   grind
 grind[List.getElem_of_mem,List.pairwise_iff_getElem]
def Zb(d):∀a:m fo,(a++d).Pairwise (λb e=>b.1<e.1)->d.foldl ec a=a++d:=by
 induction d with
 |nil=>grind
 |cons b g f=>
  grind[abr]
def aeo{d}(f:kW d (c d)=l)(j):(jd d).find j=i6 d j:=by obtain⟨a,b⟩:=ND d .nil bE;have e:=Zb d [] (by grind[Lo]);rw[jd,C2 b,a];exact eF (i6 · j) e
def NF{o}(d:dO o=l):∀a∈o,fO a.2=l:=λa b=>((zU.1 d).1 a b).2
abbrev IE(a:m bD):y:=.n (.Q (.x 2 1 (c a) (bS.fn a)))
def Ya(A C)(f)(o)(d)(k:cm f=l)(z:dO o=l)(M:kW d (c d)=l)(ae:c d<=4000000):
  Y q 216 [Q f,bu.B o,a4.B d] (is A C) (bS.B (f_ f o d)) (is A C):=by
 refine Y.ab func216 rfl λaM=>?_;have P:a_ q [(25,di c7 (λf=>bg (cm f)) λ_=>[]),(54,rB),(262,di (eS a4) (λd=>bg (kW d (c d))) λ_=>[])]:=.cons qU (.cons t54 (.cons (.a9 λd _=>V' d) .nil));refine bf P [-15,-20,-25] a ?_ ?_
 .simp only[U,k,bu.l,a4.l,sc,z,M];exact⟨a,a4.J _,a,bu.J _,a⟩
 have G:=Lo M;have O:∀r∈d,a7 .i64 r.1/\a7 .i64 r.2:=λr ba=>by have:=G.1 r ba;simp only[f',cp,bz]at this;simp only[a7];omega
 have aZ:=aeo M;have af:=JM (q:=q) d ae O;have V:∀m,Y q 264 [ay (eP (jd d)),Q m] [] (Q (i6 d m)) []:=λm=>aZ m▸Vs (jd d) m
 clear aZ;generalize jd d=F at *;have s:a_ q [(263,eO [qF d] (ay (eP F)))]:=.cons (e8 af) .nil;cases F<;>(
  refine cU s a a (g.bE 8 9 1 a a ?_);refine g.dF 3 [0,7,29,30] (λb=>b<=c o) (λb:Nat=>[(8,IE ((eU (o.take b)).foldl (fc f d) [])),(31,Q b)]) (λb=>is A C++[.x 9 1 (c ((eU (o.take b)).foldl (fc f d) [])) (bS.fn ((eU (o.take b)).foldl (fc f d) []))]) (λb=>c o-b) 0 a ?_ a ?_ a w ?_
  .simp[eU]
  .simp[eU]
  intro b Z;by_cases X:b<c o
  .have L:o.getD (b:Int).toNat bu.E=o.getD b ([],[]):=N;have I:o.getD b ([],[])∈o:=N;have ai:=NF z _ I;have u:=GC X;have H:=GB o (b+1);have E:=oP z;have W:=(E.fp _ I).1;have ag:=E.all;have ah:=E.len;have S:=v5 W;generalize o.getD b ([],[])=i at *;rw[u,c9]at H;have T:lg i.2=cn i.2:=by unfold lg;grind
   have t:a_ q [(115,di eG (λaa=>bS.B (lg aa)) λ_=>[])]:=.cons ES .nil;refine bf t [32] a bw ?_;rw[L,T];refine g.dF 4 [0,7,29,30,31,37,38] (λe=>e<=c (cn i.2)) (λe:Nat=>[(8,IE ((eU (o.take b)++(cn i.2).take e).foldl (fc f d) [])),(39,Q e)]) (λe=>is A C++[.x 9 1 (c ((eU (o.take b)++(cn i.2).take e).foldl (fc f d) [])) (bS.fn ((eU (o.take b)++(cn i.2).take e).foldl (fc f d) [])),.cells 81 [.c (.T i.1),.c (.T i.2)]]) (λe=>c (cn i.2)-e) 0 a D a D a w ?_;intro e al;have y:=C9 f d (eU (o.take b)++(cn i.2).take e) [];simp only[gO,c9,List.length_take]at y;by_cases ak:e<c (cn i.2)
   .have ab:(cn i.2).getD (e:Int).toNat bS.E=(cn i.2).getD e []:=N;have R:cD ((cn i.2).getD e [])=l:=S _ N;have x:(eU (o.take b)++(cn i.2).take (e+1)).foldl (fc f d) []=fc f d ((eU (o.take b)++(cn i.2).take e).foldl (fc f d) []) ((cn i.2).getD e []):=iq;generalize(eU (o.take b)++(cn i.2).take e).foldl (fc f d) []=dx at *;generalize(cn i.2).getD e []=p at *;have ba:=bS.a0 dx p;refine bR [40] a bw ?_;rw[ab];refine g.aA (CH A C f p k R) [0,1] a (g.aA (V _) [] a ?_);have j:a_ q [(266,Hm)]:=.cons adB .nil;by_cases K:i6 d (d8 f p)=0
    .cases av:dx.contains p with
     |true=>
      rw[fc,bj N]at x;refine bf j [49,-54] a ?_ (g.aw (e+1) a ?_ ?_ ?_ ?_)
      .simp only[U,K,av,a7,bS.l,gk,bz,a',a9];exact QF
      .rw[x];simp
      .rw[x];simp
      .grind
      omega
     |false=>
      rw[fc,bo N]at x;refine bf j [49,54] a ?_ (g.aw (e+1) a ?_ ?_ ?_ ?_)
      .simp only[U,K,av,a7,show tf.bytes=16 from a,bS.l,gk,bz,a',a9];exact QF
      .exact PE
      .exact PE
      .grind
      omega
    rw[fc,bj N]at x;refine bf j [-49] a bE (g.aw (e+1) a ?_ ?_ ?_ ?_)
    .rw[x];simp
    .rw[x];simp
    .grind
    omega
   have J:e=c (cn i.2):=w;refine bR [-40] a bw (g.az ?_);refine cB a bE (g.aw (b+1) a ?_ ?_ ?_ ?_)
   .rw[u,J,c0];simp
   .rw[u,J,c0];simp
   .grind
   omega
  .obtain rfl:b=c o:=w;rw[c0];refine bR [-32] a D (g.az ?_)
   refine cB a B (g.aI [0,1] a ?_ qt);simp[f_,eU])
abbrev ad1(a:b4×Bool):y:=.S [.agg [.c (.int .i64 a.1.1),.c (.B v 2 (c a.1.2) (bI.fn a.1.2))],.Q (.c (.bool a.2))]
def gF(b:Int)(a:bD):cY:=(d8 b a,fN a)
def tz(a d:Int)(b:m bD):b4:=(a,l_ (b.map (gF d)))
def l6(a d:Int)(b:m bD):b4×Bool:=if ij d (tz a d b)=l then(tz a d b,l)else((0,[]),v)
theorem zj:∀b a,c (b.foldl hN a)=c a+c b
 |[],a=>by simp
 |d::b,a=>by rw[hS,zj b,L5,fe];omega
def NM:∀d{b:m cY}{e:Nat},gw b->e<c b->gw (je d b e)
 |0,_,_,a,_=>a
 |d+1,b,e,a,f=>by
  rw[je];split
  .exact a
  split
  .exact NM d (tW a w f) pT
  grind
theorem abk{d}{a}(e:gw d)(i:a7 .i64 a.1/\c a.2<=9223372036854775807):gw (hN d a):=by
 refine NM _ (λg f=>?_) D;rcases e2.1 f with b|b
 .exact e g b
 grind
def abb{d}(a:gw d)(b:0<c d):gw (hp d):=
 Ct _ _ (tW a b w) pT pT
theorem K2{a}(b:cD a=l):a7 .i64 (gF f a).1/\(gF f a).2.length<=9223372036854775807:=by
 have d:=b;simp only[cD,cp,bz]at d;have e:=sG (gm a*(2*f+1)+f*7919) (show(999999999989:Int)≠0 by decide);have g:=sC (gm a*(2*f+1)+f*7919) (show(0:Int)<999999999989 by decide);refine⟨?_,?_⟩
 .show a7 .i64 (d8 f a);simp only[a7,d8];omega
 show c (fN a)<=_;unfold fN fh;grind
def KC(f)(a:m bD)(g:∀d∈a,cD d=l):gw ((a.map (gF f)).foldl hN []):=by
 have:∀(b:m bD) e,(∀d∈b,cD d=l)->gw e->gw ((b.map (gF f)).foldl hN e):=by
  intro b;induction b with
  |nil=>grind
  |cons d j i=>grind[abk,K2]
 exact this a [] g (by simp[gw])
abbrev LV(e d:ak×X)(f:Nat)(a:fv)(b:m cY):m aq:=is e d++[.cells 119 [.c (.int .i64 0),.c (.B l 0 0 λ_=>[])],iD f a (c b),aJ a (c b) b]
abbrev D6(b:Int)(a:m cY):m aq:=[.cells 119 [.c (.int .i64 b),.x 6 2 (c a) (bI.fn a)],.x 170 2 (c a) (bI.fn a)]
def Jr(s r:ak×X)(bO f)(Z)(H:a7 .i64 bO)(b3:cm f=l)(K:∀t∈Z,cD t=l)(aw:c Z<=4):
  Y q 218 [Q bO,Q f,bS.B Z] (is s r) (ad1 (l6 bO f Z)) (is s r):=by
 refine Y.bg bc func218 rfl rfl rfl λav=>?_;refine bR [902] a B (g.jC 8 3 170 2 a a λp an=>?_);refine cB a B (g.dF 5 [0,1,6,8,14,15] (λi:Nat×fv=>i.1<=c Z) (λi=>[(16,Q i.1)]) (λi=>LV s r p i.2 (((Z.take i.1).map (gF f)).foldl hN [])) (λi=>c Z-i.1) (0,.nil an) a D a ?_ a w ?_)
 .simp[gE]
 rintro⟨e,bP⟩ J;simp only at J;by_cases o:e<c Z
 .have G:Z.getD (e:Int).toNat bS.E=Z.getD e []:=N;have ab:cD (Z.getD e [])=l:=K _ N;have L:((Z.take (e+1)).map (gF f)).foldl hN []=hN (((Z.take e).map (gF f)).foldl hN []) (gF f (Z.getD e [])):=iq;have ao:c (((Z.take e).map (gF f)).foldl hN [])=e:=by grind[zj]
  have I:=KC f (Z.take e) λt S=>K t (gN S);generalize Z.getD e []=t at *;generalize((Z.take e).map (gF f)).foldl hN []=d at *;refine bf (.cons zN .nil:a_ q [(270,lN)]) [17] a bw ?_;rw[G];refine g.aA (CH s r f t b3 ab) [0,1] a (cU (.cons zN .nil:a_ q [(270,lN)]) a B (g.a1 (VP p bP I w (E:=gF f t) (K2 ab)) [3,4] a bk λR=>?_));have aa:=L5 d (gF f t);refine cB a bE (g.aw (e+1,R) a D ds N ?_);grind
 obtain rfl:e=c Z:=w;rw[c0];refine bR [-17] a D (g.az ?_);have au:c ((Z.map (gF f)).foldl hN [])<=4:=by grind[zj]
 have I:=KC f Z K;have af:l_ (Z.map (gF f))=[]++kY (c ((Z.map (gF f)).foldl hN [])) ((Z.map (gF f)).foldl hN []):=by rw[l_,zj,n7,gO,cZ]
 refine cB a B (g.cm 5 1 170 2 (bI.fn []) a a ?_);refine g.dF 7 [1,6,8,11] (λi:m cY×fv×m cY=>gw i.1/\c i.1+c i.2.2<=4/\l_ (Z.map (gF f))=i.2.2++kY (c i.1) i.1) (λi=>[]) (λi=>LV s r p i.2.1 i.1++D6 bO i.2.2) (λi=>c i.1) ((Z.map (gF f)).foldl hN [],bP,[]) a D a D a ⟨I,by grind,af⟩ ?_;rintro⟨o,bP,b⟩ ⟨O,ag,A⟩;simp only at O ag A;refine cB a B (g.aK (a2.dP a a) a a ?_);refine g.Q (aY.eE bc 3 a a a a a (tR bP _) a) a ?_;refine g.aA (CA bP (c o) o) [4] a ?_;by_cases al:c o=0
 .rw[al,kY,g3]at A;subst A;refine bR [-37] a ds (g.az ?_);have T:a_ q [(197,BT)]:=.cons Nj .nil;have ar:c (l_ (Z.map (gF f)))<=4:=w;cases ae:ij f (tz bO f Z)with
  |false=>
   have x:ij f (bO,l_ (Z.map (gF f)))=v:=ae;have F:l6 bO f Z=((0,[]),v):=by unfold l6;grind
   rw[F];refine bf T [50] a RF (g.b9 () [0,1] ?_ qt);simp
  |true=>
   have x:ij f (bO,l_ (Z.map (gF f)))=l:=ae;have F:l6 bO f Z=(tz bO f Z,l):=by unfold l6;grind
   rw[F];refine bf T [-50] a RF (g.b9 () [0,1] ?_ qt);simp[tz]
 obtain⟨j,z⟩:∃j,c o=j+1:=⟨c o-1,by omega⟩
 refine bR [37,909] a bw (g.iL (Kj (e:=4) (j:=c o) (bP:=bP) (d:=o) a w) λP=>?_);obtain⟨u,k,rfl,V⟩:=P;rw[z]at V;have S:=VO (q:=q) p u k O z w V;have ai:=abb O w;have aa:c ((hp o).take j)=j:=by grind[LW]
 have aM:l_ (Z.map (gF f))=(b++[(hp o).getD j (0,[])])++kY j ((hp o).take j):=by rw[A,z,kY,bj w,z];simp
 have aq:gw ((hp o).take j):=λE C=>ai E (gN C);show g q _ _ _ _ _ (is s r++[.cells 119 [.c (.int .i64 0),.c (.B l 0 0 λ_=>[])],iD p (.row u k) (c o),aJ (.row u k) (c o) o]++D6 bO b);rw[z];generalize(hp o).getD j (0,[])=E at *;generalize(hp o).take j=W at *;refine g.eI (ι:=Unit) b7 4 7 10 (λf=>ax f 3) (λf=>([aH 5 1,.n (.Q (.x 6 2 (c b) (bI.fn b))),hj (.pointer (h ⟨p,0,n⟩)),sZ p]:m y).getD f .any) (λ_ f=>([.any,.any,.any,.any,sY E,x7 E,ay (.B l 2 1 λe=>([[.int .i64 E.1,.T E.2]]:m (m M)).getD e [])]:m y).getD f .any)
  (λ_=>is s r++[.cells 119 [.c (.int .i64 0),.c (.B l 0 0 λ_=>[])],iD p (.row u k) j,aJ (.row u k) j W]++D6 bO b)
  rfl rfl rfl rfl rfl rfl rfl (λf o=>by have:=fz o;omega) rfl
  ⟨aY.w,aY.w,aY.w,aY.w,B,B,B,B,B,B,B⟩
  (λ_=>⟨aY.w,aY.w,aY.w,aY.w,B,aY.a3 (j5 a) (a2.f_ (ah:=[.int .i64 E.1,.T E.2]) bc a a a a),aY.w,B⟩)
  (dX.dY S.tocE [3,4] a a a a a a a bk a bk) λ_=>?_
 have C:=bI.a0 b E;refine cB a ?_ (g.aw (W,.row u k,b++[E]) a ?_ ?_ ?_ ?_)
 .simp only[U,show mF.bytes=24 from a,a'];omega
 .simp
 .simp only[aa,U.Y,U,c9,fe,gO,a',a9];and_intros<;>first|exact bs.same|exact C|rfl
 .grind
 grind
abbrev ad_(a:dF):y:=.S [.agg [.c (.int .i64 a.1),.c (.B v 2 (c a.2) (cx.fn a.2))],.Q (.c (.bool l))]
abbrev MR(e d:ak×X)(b:Int)(a:m m7):m aq:=is e d++[.cells 50 [.c (.int .i64 0),.c (.B l 0 0 λ_=>[])],.cells 50 [.c (.int .i64 b),.x 4 2 (c a) (cx.fn a)],.x 111 2 (c a) (cx.fn a)]
abbrev acy(b:cJ)(a:m Int):m aq:=[.cells 81 [.c (.T b.1),.c (.T b.2)],.cells 111 [.c (.T b.1),.x 7 1 (c a) (az.fn a)],.x 3 1 (c a) (az.fn a)]
def Yb(C p)(bO f)(o)(ah:1<=bO/\bO<=99)(r:cm f=l)(x:dO o=l):
  Y q 219 [Q bO,Q f,bu.B o] (is C p) (ad_ (fs bO f o)) (is C p):=by
 refine Y.bg bc func219 rfl rfl rfl λae=>?_;have G:a_ q [(25,di c7 (λf=>bg (cm f)) λ_=>[]),(54,rB)]:=.cons qU (.cons t54 .nil);refine bf G [-15,-19,-24,-29] a ?_ ?_
 .simp only[U,r,bu.l,sc,x,dq];and_intros<;>first|exact bu.J _|rfl|omega
 refine g.cm 3 1 111 2 (cx.fn []) a a ?_;refine g.dF 5 [1,6,8,33,34] (λb=>b<=c o) (λb:Nat=>[(35,Q b)]) (λb=>MR C p bO (oz f (o.take b))) (λb=>c o-b) 0 a D a D a w ?_;intro b K;by_cases ag:b<c o
 .have Z:o.getD (b:Int).toNat bu.E=o.getD b ([],[]):=N;have z:o.getD b ([],[])∈o:=N;have E:=oP x;have I:=E.fp _ z;have ab:=NF x _ z;have y:=E.len;have T:=v5 I.1;have aa:=v3 (o.getD b ([],[])).2;have A:oz f (o.take (b+1))=oz f (o.take b)++[kT f (o.getD b ([],[]))]:=iq;have R:c (oz f (o.take b))=b:=N;generalize o.getD b ([],[])=d at *;generalize oz f (o.take b)=i at *;have X:lg d.2=cn d.2:=by unfold lg;grind
  have u:a_ q [(115,di eG (λV=>bS.B (lg V)) λ_=>[])]:=.cons ES .nil;refine bf u [36] a bw ?_;rw[Z,X];refine g.cm 6 1 3 1 (az.fn []) a a ?_;refine g.dF 8 [1,6,8,10,11,33,34,35,44,45] (λe=>e<=c (cn d.2)) (λe:Nat=>[(46,Q e)]) (λe=>MR C p bO i++acy d (ky f ((cn d.2).take e))) (λe=>c (cn d.2)-e) 0 a D a D a w ?_;intro e L;by_cases af:e<c (cn d.2)
  .have j:(cn d.2).getD (e:Int).toNat bS.E=(cn d.2).getD e []:=N;have S:cD ((cn d.2).getD e [])=l:=T _ N;have O:ky f ((cn d.2).take (e+1))=ky f ((cn d.2).take e)++[d8 f ((cn d.2).getD e [])]:=iq;have H:c (ky f ((cn d.2).take e))=e:=N;generalize(cn d.2).getD e []=s at *;generalize ky f ((cn d.2).take e)=k at *;have t:=az.a0 k (d8 f s);refine bR [47,911] a bw ?_
   rw[j];refine g.gf b7 [aH 6 1,.n (.Q (.x 7 1 (c k) (az.fn k))),Q f,b2 s,Q (d8 f s),ay (.B l 1 1 λb=>([[.int .i64 (d8 f s)]]:m (m M)).getD b [])] 6 a a a a a ⟨aY.w,aY.w,aY.w,aY.w,
    aY.dS (dX.dY (CH C p f s r S).tocE [0,1] a a a a a a a bk a bk),aY.w,B⟩ ?_
   refine cB a ?_ (g.aw (e+1) a ?_ ?_ ?_ ?_)
   .simp only[U,a7,show dZ.bytes=8 from a,a',a9];exact fC
   .simp
   .simp only[O,U.Y,U,c9,fe,gO,a',a9];and_intros<;>first|exact bs.same|exactλ_ _=>rfl|exact t|rfl|omega
   .grind
   omega
  have W:e=c (cn d.2):=w;rw[W,c0];have t:=cx.a0 i (kT f d);have F:c i+1=c (i++[kT f d]):=D;have J:cx.a8 (kT f d)=[M.T d.1,M.B v 1 (c (ky f (cn d.2))) (az.fn (ky f (cn d.2)))]:=rfl;rw[J,<-A]at t;rw[<-A]at F;refine bR [-47] a D (g.az ?_);refine cB a P5 (g.aw (b+1) a D ?_ ?_ ?_)
  .simp only[U.Y,U,a',a9];and_intros<;>first|exact bs.same|exact t|exact F|rfl
  .grind
  omega
 obtain rfl:b=c o:=w;rw[c0];refine bR [-36] a D (g.az ?_);refine cB a B (g.b9 () [0,1] ?_ qt);simp[fs]
end
section
variable {q:af T}[q.b1]
abbrev Ge(b:Nat):={a:m cJ×Nat // dO a.1=l/\b<=a.2/\a.2<=b+400}
end
section
variable {q:af T}
set_option maxRecDepth 20000 in
def Xo(A)(b:Nat->Int)(j:Bytes b)(e:Nat)(f:e<=4000000)(i:A<=1048576)(d)(o:1<=c d/\c d<=1000):
  Y q 70 [aH 0 0,bS.B d] [e6 A b e] (b2 (d.getD (qN A b e (c d)).toNat [])) [e6 A b (e+1)]:=by refine Y.ab func70 rfl λk=>?_;refine aQ a B (g.aA (Ju A b j e (c d) f i w) [0] a ?_);have m:=LL A b e (c d) w;exact aQ a bM (g.aI [0] a oT kQ)
end
end R1
def bl.die{E:af P}{I}{args}{W f}{F:Nat->m M}{p}{q:ι->Nat->m M}{S:ι->Nat}(J:bl E I args [.q W f j F] (λ_=>cF 0 p) (λA=>[.q W f (S A) (q A)])):Y E I args [.q W f j F] (cF 0 p) [.N]:=
 ⟨J.1,λT z y w Q o u=>J.2 T z y w Q o λA r K i x d g b=>u r K i x (by
  obtain⟨D,e,_,_⟩:cC _ _ _ (.O 0 p):=d;exact(⟨D,e,by simp,λ_ _ _ _ R=>by grind⟩:cC [.N] i K (.O 0 p))) g.dV
  ⟨b.size,b.a7,b.mem,b.bA,b.bS,λC N L aJ t=>by
   obtain⟨O,k,e,s,U⟩:=b.box C N L aJ t;cases C with
   |zero=>simp at aJ;subst aJ;exact⟨.N,k,a,s,B⟩
   |succ C=>grind,b.os,b.tape,b.output,b.own⟩⟩
namespace R1
variable {q:af T}
def I_(b):Y q 200 [Co b] [] (bg (hD b)) []:=by
 refine Y.ab func200 rfl λi=>?_;have d:a_ q []:=.nil;unfold hD;by_cases e:b.1=1
 .by_cases jR:1<=b.2
  .exact a8 d [6,11,16] a bw (g.ao a ds)
  exact a8 d [6,11,-16] a bw (g.ao a un)
 by_cases f:b.1=2
 .by_cases jR:1<=b.2
  .exact a8 d [-6,11,16] a bw (g.ao a ds)
  exact a8 d [-6,11,-16] a bw (g.ao a un)
 exact a8 d [-6,-11,-16] a bw (g.ao a bw)
def WZ(b):Y q 199 [Co b] [] (bg (!hD b)) []:=by refine Y.ab func199 rfl λe=>?_;have d:a_ q [(200,di sx (λb=>bg (hD b)) λ_=>[])]:=.cons (.a9 λb _=>I_ b) .nil;exact b9 d a B (g.ao a)
def aad(d):g_ d=(decide (c d<=9)&&!d.any λa=>!hD a):=by
 have:(aA (c d)).all (λb=>hD (d.getD b (0,0)))=!d.any λa=>!hD a:=by rw[o4,gd,iT,List.any_eq_false];grind[List.mem_iff_getElem]
 rw[g_,this,Bool.and_comm]
def W0(d):Y q 133 [a4.B d] [] (bg (g_ d)) []:=by
 refine Y.ab func133 rfl λi=>?_;have e:=VF (q:=q) d 199 (λs=>!hD s) λf _=>WZ f;have b:a_ q [(198,eO [a4.B d,ay (.fn (.func 199) [] [])] (bg (d.any λs=>!hD s)))]:=.cons (e8 e) .nil;rw[aad];by_cases s:c d<=9
 .exact a8 b [6] a ⟨a,fA w⟩ (g.ao a ha)
 exact a8 b [-6] a bM (g.ao a bw)
def tY:bK q 133 n':=.a9 λa _=>W0 a
def Xu(d)(k:c d.2<=4000000):Y q 64 [fM d] [] (az.B (d.2.map (·.1))) []:=by
 refine Y.ab func64 rfl λm=>?_;refine a3 [902] a B (g.bE 3 3 1 a a ?_);refine aQ a B (g.aB 2 (λb=>b<=c d.2) (λb:Nat=>[(1,aH 0 0),(3,.n (.Q (.x 1 1 b (az.fn ((d.2.take b).map (·.1)))))),(7,bI.B d.2),(8,Q (c d.2)),(9,Q b)]) (λb=>[xL d,.x 3 1 b (az.fn ((d.2.take b).map (·.1)))]) (λb=>c d.2-b) 0 a D a D a w ?_);intro b j;by_cases f:b<c d.2
 .have i:d.2.getD (b:Int).toNat bI.E=eb d b:=N;have x:(d.2.take (b+1)).map (·.1)=(d.2.take b).map (·.1)++[(eb d b).1]:=iq;have e:c ((d.2.take b).map (·.1))=b:=N;have ap:=az.a0 ((d.2.take b).map (·.1)) (eb d b).1;rw[e]at ap;refine a3 [10] a ?_ (g.aw (b+1) a ?_ ?_ f w)
  .simp only[U,a7,show dZ.bytes=8 from a];grind
  .exact PS
  exact PS
 obtain rfl:b=c d.2:=w;rw[c0];refine a3 [-10] a D (g.az ?_);exact sl
abbrev HK:bH:=di (jI bI) (λa=>az.B (a.2.map (·.1))) λa=>[c a.2<=4000000]
def ad4:bK q 64 HK:=.a9 λb a=>Xu b a
def aaz(Z)(e):c (cc (Z.take e))<=c (cc Z):=by have:cc Z=cc (Z.take e)++cc (Z.drop e):=Se;grind
abbrev abQ(a:m Int):y:=cF 0 (.B (c a) 1 0 (c a))
def Jp(Z)(p:∀i∈Z,c i.2<=4000000)(y:c (cc Z)<=4000000):Y q 37 [a1.B Z] [] (abQ (cc Z)) [jo (c (cc Z)) (cc Z)]:=by
 refine Y.ab func37 rfl λr=>?_;have u:=r.B 0 a;have d:a_ q [(64,HK)]:=.cons ad4 .nil;refine a8 d [902] a B (g.e_ 3 3 1 (az.fn []) a ?_);refine b9 d a B (g.aB 1 (λb=>b<=c Z) (λb:Nat=>[(3,cF 0 (.B (c (cc (Z.take b))) 1 0 (c (cc (Z.take b))))),(6,a1.B Z),(7,Q (c Z)),(8,Q b)]) (λb=>[jo (c (cc (Z.take b))) (cc (Z.take b))]) (λb=>c Z-b) 0 a Fm a (by simp[bs,cc]) a w ?_);intro b o;by_cases f:b<c Z
 .have C:Z.getD (b:Int).toNat a1.E=Z.getD b (0,[]):=N;have e:=K9 f;have j:=aaz Z (b+1);have x:=p _ (oo (O:=(0,[])) f);generalize Z.getD b (0,[])=i at *;rw[e]at j;generalize cc (Z.take b)=k at *;have m:=az.g5 k (i.2.map (·.1)) _ a;simp only[c9,kK]at j m;refine a8 d [9] a ?_ (g.aw (b+1) a ?_ ?_ f w)
  .simp only[U,C,a7,bI.l,bI.J,kK,show dZ.bytes=8 from a];grind
  .rw[e];simp only[U.Y,U,C,bI.l,c9,kK,a',a9];and_intros<;>first|exact bs.same|rfl|omega
  rw[e];simp only[U.Y,U,C,bI.l,c9,kK,a',a9];grind
 obtain rfl:b=c Z:=w;rw[c0];refine a8 d [-9] a D (g.az ?_);refine b9 d a B (g.aI [0] a ?_ (λt s=>absurd s D));simp
def Jq(Z)(b:∀e∈Z,c e.2<=4000000)(d:c (cc Z)<=4000000):Y q 37 [a1.B Z] [] (az.B (cc Z)) []:=
 Y.bK (aU:=[]) (W:=3) (f:=1) (j:=c (cc Z)) (V:=az.fn (cc Z)) (Jp Z b d) a D a (bC _)
end R1
namespace R1
section
variable {q:af T}
def JC(b):Y q 36 [b0 b] [] (b0 b) []:=by refine Y.bG func36 rfl rfl rfl λe=>?_;refine aQ a D ?_;refine g.freeze 2 1 a a a ?_;exact g.cv bc [] a D a a a (λf d=>absurd d D)
abbrev BX:bH:=di mn (λa=>b0 a) λ_=>[]
def Nn:bK q 36 BX:=.a9 λa _=>JC a
abbrev zB(a:cb):aq:=.cells 84 [.c (.B v 2 (c a.1) (a1.fn a.1)),.c (.B v 2 (c a.2.1) (bd.fn a.2.1)),.c (.B v 2 (c a.2.2) (a4.fn a.2.2))]
structure k8(b:cb):Prop extends rh b where
 cd:∀S∈b.1,c S.2<=4000000
 dQ:c (cc b.1)<=4000000
def tA(b:Int)(a:cb):Bool:=(aA (c a.1)).all (nN b a.1)&&decide (c a.1<=20)&&decide (cc a.1).Nodup
def Xx(f)(b)(b3:cm f=l)(m:k8 b):Y q 131 [b0 b,Q f] [] (bg (tA f b)) []:=by
 refine Y.ab func131 rfl λX=>?_;have y:=m.fc;have S:=m.cd;have T:=Jq (q:=q) b.1 m.cd m.dQ;have p:a_ q [(197,BT)]:=.cons Nj .nil;refine b9 p a B ?_;unfold tA;refine g.aB 1 (λe=>e<=c b.1/\∀C,C<e->nN f b.1 C=l) (λe:Nat=>[(1,Q f),(2,aH 0 0),(9,a1.B b.1),(10,Q (c b.1)),(11,Q e)]) (λ_=>[zB b]) (λe=>c b.1-e) 0 a D a D a ⟨by omega,by omega⟩ ?_;rintro e ⟨K,u⟩;by_cases s:e<c b.1
 .have bA:b.1.getD e a1.E=b.1.getD e (0,[]):=rfl;have o:b.1.getD (e-1) a1.E=b.1.getD (e-1) (0,[]):=rfl;have x:nN f b.1 e=(ij f (b.1.getD e (0,[]))&&kl (·.1) (0,[]) b.1 e):=rfl;have I:=qc (al:=λt:b4=>t.1) (O:=(0,[])) (d:=b.1) (e:=e);have i:=S _ (oo (O:=(0,[])) s);generalize b.1.getD e (0,[])=t at *;generalize b.1.getD (e-1) (0,[])=z at *;cases r:ij f t with
  |false=>
   rw[r,sH]at x;refine a8 p [12,20,35] a ?_ (g.aS (bW.zero a ?_))
   .simp[-aj,bA,b3,i,r,bI.l,bI.J];omega
   rw[lM s x];simp
  |true=>
   rw[r,fV]at x;by_cases J:e=0
   .subst J;refine a8 p [12,-20,-23,-35] a ?_ (g.aw 1 a D D ⟨s,jn u bE⟩ w);simp[-aj,bA,b3,i,r,bI.l,bI.J,a7];omega
   have I:=I J;by_cases M:z.1<t.1
   .refine a8 p [12,-20,23,-33,-35] a ?_ (g.aw (e+1) a D D ⟨s,jn u N⟩ w);exact QR
   refine a8 p [12,-20,23,33,35] a QR (g.aS (bW.zero a ?_));exact j9
 obtain rfl:e=c b.1:=w;rw[gd.2 u,fV];refine a8 p [-12] a D (g.az ?_);refine b9 p a B (g.aA (Jp b.1 m.cd m.dQ) [] a (b9 p a B (g.aA (CM (cc b.1) m.dQ) [1] a ?_)));have W:=TE (cc b.1);have F:=(I0 (q:=q) (j3 (cc b.1)) (by rw[qT];exact m.dQ)).die;rw[qT]at F;have V:=Ic (j3 (cc b.1));rw[qT]at V;have R:=m.dQ;generalize hV (j3 (cc b.1))=j at *;generalize j3 (cc b.1)=A at *;have iF:a_ q [(66,lb [dL (c (cc b.1))] [jo (c (cc b.1)) A] (cF 0 (.B (c (cc b.1)) 1 0 (c j))) [.N]),(37,eO [a1.B b.1] (az.B (cc b.1)))]:=.cons (l' F) (.cons (e8 T) .nil);refine a8 iF [909] a B ?_;by_cases aa:c b.1<=20
 rotate_left
 .refine a8 iF [-46] a bM (g.ao a ?_);exact bw
 have E:(c b.1:Int)<=20:=w;generalize Z:cc b.1=k at *;refine g.dd (ι:=Unit) b7 6 (λe=>match ax e 5 with|true=>l|false=>match ad e 8 with|true=>l|false=>ad e 9) (λe=>[aH 0 0,a1.B b.1,Q (c b.1),bg (decide ((c b.1:Int)<=20)),bg l,cF 1 (.B (c k) 1 0 (c k)),.any,.any,aH 0 0,a1.B b.1].getD e .any)
  (λ_ e=>[.any,.any,.any,.any,.any,.any,cF 1 (.B (c k) 1 0 (c j)),Q (c j),.any,.any,az.B k,Q (c k),bg ((c j:Int)==c k),bg ((c j:Int)==c k),bg ((c j:Int)==c k)].getD e .any) (λ_=>[zB b,.N]) a a a a a a ?_ ?_ ?_ ?_
 .exact⟨.w,.w,.w,.w,.eval bc iF (bh:=[46]) a (fA E),.w,B,B,.w,.w,B,B,B,B,B,B⟩
 .intro _;exact⟨.w,.w,.w,.w,.eval bc iF (bh:=[46]) a (fA E),.w,B,.w,.w,.w,.eval bc iF (bh:=[]) a a,.w,.w,.w,.w,B⟩
 .exact .dc (eh bc iF (bh:=[]) (ar:=h [zB b,.N]) a ⟨a,a⟩)
 intro _;refine b9 iF a B (g.ao a ?_);have:((c j:Int)==c k)=decide k.Nodup:=N;exact bE
def iI:m (Int×Int)->M
 |[]=>.bp
 |a::b=>.R [.int .i64 a.1,.int .i64 a.2,iI b]
abbrev wi(a:m (Int×Int)):M:=.B v 2 (c a) (a4.fn a)
def Ux(b:m (Int×Int)):Y q 259 [a4.B b] [] (ay (.fn (.func 293) [] [.R [wi b]])) []:=by refine Y.ab func259 rfl λd=>?_;refine gH [] 5 a B ?_;refine g.freeze 1 0 a a a ?_;refine aQ a B (g.ao a ?_);rfl
def UC(j:m (Int×Int))(x:c j<=4000000){d:Nat}{b:bL}{o:Loop}{r:aq}(k:Nat->aq)(s:r=k (c j))(aJ:∀u,k u≠.bn)(e:∀f,f<c j->iQ (ι:=Unit) q 1 [Q f,.n (.agg [.c (.int .i64 (j.getD f (0,0)).1),.c (.int .i64 (j.getD f (0,0)).2)])] [k (f+1),.loop d b o] l (λ_=>[k f,.loop d b o])):
  bl (ι:=Unit) q 293 [.n (.Q (.aY 1)),ay (.R [wi j])] [r,.loop d b o] (λ_=>.S []) (λ_=>[k 0,.loop d b o]):=by
 subst s;refine bl.bO func293 rfl rfl rfl (g.aO ?_);refine aQ a ud ?_;show b1 q _ (.loop _) _ _ _;refine b1.loop (br:=Nat) (λi=>i<=c j) (λi=>[(0,.n (.Q (.aY 1))),(1,ay (.R [wi j])),(3,Q ((i:Int)-1))]) (λi=>[k i,.loop d b o]) (λi=>i) (c j) (bC _) (eu a D) a ?_;intro i p;rcases i with _|f
 .refine g.aO ?_;refine a3 [-8] a D (g.fH a a ?_);exact⟨(),.inr a,a,qK (aJ 0) (qK D a),[],.S [],[],a,a,a,B⟩
 have t:(((f+1:Nat):Int)-1)=(f:Int):=w;rw[t];refine g.aO ?_;refine a3 [8] a ?_ ?_
 .simp only[U,bz,a',a9];omega
 refine g.yield (e f p) a a a a a a λ_=>?_;exact a3 [-18] a R' ⟨f,by omega,by omega,eu a D,a⟩
def IJ{a:m (Int×Int)}(b:e<c a):a.drop e=a.getD e (0,0)::a.drop (e+1):=F2
def Ji(b:m (Int×Int))(i:c b<=4000000):Y q 202 [a4.B b] [] (ay (iI b)) []:=by
 refine(bl.e7 (ι:=Unit) (ar:=λ_=>[]) (res:=λ_=>ay (iI b)) func202 rfl rfl rfl λo=>?_).toY;have e:a_ q [(259,eO [a4.B b] (ay (.fn (.func 293) [] [.R [wi b]])))]:=.cons (e8 (Ux b)) .nil;refine dg.seq (b1.bw (g.aO ?_));refine b9 e a B (dg.seq (b1.bw (g.aO ?_)));refine b9 e a B (dg.seq (dg.seq (b1.bw (g.aO ?_))));refine b9 e a a (dg.block ?_);have f:iI (b.drop (c b))=.bp:=by rw[uL];rfl
 refine dg.rangeFunc (o9:=fg [.R [wi b]]) (bY.callee a) (UC b i (λd=>.cells 254 [.c (iI (b.drop d))]) (by rw[f];rfl) D ?_) (λd=>⟨a,by simp⟩) λd=>⟨.normal,a,?_⟩
 .intro d bp;refine iQ.cG (bq:=λ_=>[.cells 54 [.c (.int .i64 (b.getD d (0,0)).1),.c (.int .i64 (b.getD d (0,0)).2)],.N]) ?_ bk (λ_ u k aJ=>?_)
  .rw[IJ bp];generalize b.drop (d+1)=j;cases j<;>(
    refine iQ.intro (u:=n) a a a a (g.aO ?_);refine aQ a B ?_;refine⟨a,a,g.aO ?_⟩;refine gH [] 1 a B ?_;refine g.region ?_;refine gH [] 4 a B ?_;refine g.e5 13 3 a a a ?_;refine aQ a B ?_;refine⟨a,a,(),jX a ?_⟩;simp[iI])
  .match u,aJ with
   |0,aJ=>cases aJ;exact .inl ⟨_,_,a,a⟩
   |1,aJ=>exact .inr (.inl aJ)
   |u+2,aJ=>simp at aJ
 .show dg q _ _ _ _ _;refine b1.bw (g.aO ?_);rw[List.drop_zero];cases b<;>(
   refine aQ a B ?_;refine g.ret ⟨(),bW.zero a ?_⟩;simp[iI])
abbrev adz(a:m (Int×Int))(b:Bool):y:=.S [.Q (.c (.B v 2 (c a) (a4.fn a))),.Q (.c (.bool b))]
def WY(d)(b)(i:g_ d=l)(j:hD b=l)(o:c d<=9):Y q 220 [a4.B d,pa b.1 b.2] [] (adz (if c d=9 then d else d++[b]) (decide (c d≠9))) []:=by
 refine Y.ab func220 rfl λm=>?_;have e:a_ q [(133,n'),(200,di sx (λf=>bg (hD f)) λ_=>[])]:=.cons tY (.cons (.a9 λf _=>I_ f) .nil);refine a8 e [-9,-14] a ?_ ?_
 .simp only[U,a4.l,i,j,gz,a',a9];first|exact a4.J _|(and_intros<;>first|rfl|exact a4.J _)
 refine g.aA (IX d w) [] a ?_;by_cases x:c d=9
 .exact a8 e [19] a nU Pj
 refine a8 e [-19] a ?_ ?_
 .simp only[U,show vx.bytes=16 from a,eN,a',a9];exact q2
 have k:=a4.a0 d b;refine g.fU (dE:=[(4,cF 1 (.B (c d+1) 2 0 (c d+1))),(5,bg l)]) (ar:=[.cells 54 [.c (.int .i64 b.1),.c (.int .i64 b.2)],.q 54 2 (c d+1) (a4.fn (d++[b]))]) ?_ a nT a bE;exact Pj
def Wr(d)(e:c d<=4000000):Y q 260 [a1.B d] [] (Q (if c d=0 then 0 else(d.getD (c d-1) (0,[])).1)) []:=by
 refine Y.ab func260 rfl λf=>?_;by_cases s:c d=0
 .rw[bo s];exact a3 [5] a ha (g.ao a)
 have b:d.getD ((c d:Int)-1).toNat a1.E=d.getD (c d-1) (0,[]):=by rw[show((c d:Int)-1).toNat=c d-1 by omega];rfl
 rw[bj s];refine a3 [-5] a ?_ (g.ao a ds);simp only[U,b,a7,eN,a',a9];exact fC
def kR(a:Int)(d:m (Int×Int)):Int:=d.foldl (λa b=>max a (b.2+1)) a
def Kl(d):∀a b:Int,kR (max a b) d=max a (kR b d):=by
 induction d with
 |nil=>intro a b;rfl
 |cons f e g=>
  intro a b;show kR (max (max a b) (f.2+1)) e=max a (kR (max b (f.2+1)) e);grind
def Zr{A}{d}(a:e<c d):kR A (d.take (e+1))=max (kR A (d.take e)) ((d.getD e (0,0)).2+1):=by unfold kR;grind[h4]
def kC(a:cb):Int:=if c a.2.1=0 then 1 else max 1 ((a.2.1.getD (c a.2.1-1) (0,[])).1+1)
def acJ(b):kR (kC b) b.2.2=c1 b:=by
 unfold kC c1;have a:kR 1 b.2.2=lp b.2.2:=rfl;split
 .exact a
 rw[show max 1 ((b.2.1.getD (c b.2.1-1) (0,[])).1+1)=max ((b.2.1.getD (c b.2.1-1) (0,[])).1+1) 1 by omega,Kl,a];omega
def Xj(b)(f:dH b)(O:mi b):Y q 214 [b0 b] [] (.S [.Q (.c (.int .i64 (dk b))),.Q (.c (.int .i64 (c1 b)))]) []:=by
 refine Y.ab func214 rfl λF=>?_;have s:=f.aZ;have I:=f.aW;have R:=f.aM;have J:1<=kC b/\kC b<=4000001:=by
  unfold kC;split
  .omega
  exact Pe
 apply g.cj [(1,aH 0 0),(4,Q (kC b))] [im b]
 .intro dx;by_cases e:c b.2.1=0
  .exact bR [-12,905] a ds (dx _ _ a (by simp[kC,e]))
  have E:=O.ba _ (kr (show c b.2.1-1<c b.2.1 by omega) (0,[]));have x:b.2.1.getD ((c b.2.1:Int)-1).toNat bd.E=b.2.1.getD (c b.2.1-1) (0,[]):=R3;refine bR [12] a wG ?_;rw[x];refine g.aK (yX (kC b) a a a (by unfold kC;grind) bE) a a ?_;exact bR [905] a B kE
 refine cB a B (g.aB 1 (λd=>d<=c b.2.2) (λd:Nat=>[(1,aH 0 0),(4,Q (kR (kC b) (b.2.2.take d))),(24,a4.B b.2.2),(25,Q (c b.2.2)),(26,Q d)]) (λd=>[im b]) (λd=>c b.2.2-d) 0 a ?_ a ?_ a w ?_)
 .simp[kR]
 .simp
 intro d o;have j:∀d,1<=kR (kC b) (b.2.2.take d)/\kR (kC b) (b.2.2.take d)<=4000001:=λd=>by have k:=te (b.2.2.take d) λz C=>O.aM z (gN C);have u:kR 1 (b.2.2.take d)=lp (b.2.2.take d):=rfl;rw[show kC b=max (kC b) 1 by omega,Kl,u];omega
 have k:=j d;have K:=j (d+1);by_cases e:d<c b.2.2
 .have E:=O.aM _ (kr e (0,0));have x:b.2.2.getD (d:Int).toNat a4.E=b.2.2.getD d (0,0):=N;have t:=Zr (A:=kC b) e;refine bR [27] a wG ?_;rw[x];refine g.aK (yX (kR (kC b) (b.2.2.take (d+1))) a a a t.symm nS) a a ?_;refine cB a bE (g.aw (d+1) a D ?_ e w);simp
 obtain rfl:d=c b.2.2:=w;rw[c0,acJ]at k⊢;have i:dk b=(if c b.1=0 then 0 else(b.1.getD (c b.1-1) (0,[])).1)+1:=by unfold dk;split<;>rfl
 have m:-4000000<=dk b-1/\dk b-1<=4000000:=by
  rw[i];split
  .omega
  exact RE
 have p:=Wr (q:=q) b.1 s;have r:=JC (q:=q) b;rw[i]at m⊢;generalize(if c b.1=0 then 0 else(b.1.getD (c b.1-1) (0,[])).1)=S at *;have y:a_ q [(36,eO [b0 b] (b0 b)),(260,eO [a1.B b.1] (Q S))]:=.cons (e8 r) (.cons (e8 p) .nil);refine bR [-27] a D (g.az ?_);refine cU y a ?_ (g.ao a);exact bE
abbrev qR(a:m bD):M:=.B v 1 (c a) (bS.fn a)
def UN(d):Y q 215 [bS.B d,Q 4] [] (ay (.fn (.func 261) [] [.R [qR d],.R [.int .i64 4]])) []:=by refine Y.ab func215 rfl λb=>?_;refine gH [] 6 a B ?_;refine g.freeze 2 0 a a a ?_;refine g.freeze 3 1 a a a ?_;exact a3 [-6] a D (g.ao a nT)
def gS(b:m bD)(a:Nat):m bD:=(b.drop (4*a)).take 4
def UM(d)(W:c d<=4000000){i}{N0}{iv}{x yV}(A)(T:A<=(c d+3) / 4)(e:Nat->m aq)(u)(Y:∀b,c (e b)=i)(R:∀b,jY (e b++[.loop N0 iv x])=l)(K:jY (u++[.loop N0 iv yV])=l)(f:∀b,b<A->4*b<c d->iQ (ι:=Unit) q i [bS.B (gS d b)] (e b++[.loop N0 iv x]) l (λ_=>e (b+1)++[.loop N0 iv x]))(k:4*A<c d->iQ (ι:=Unit) q i [bS.B (gS d A)] (e A++[.loop N0 iv x]) v (λ_=>u++[.loop N0 iv yV])):
  bl (ι:=Unit) q 261 [.n (.Q (.aY i)),ay (.R [qR d]),ay (.R [.int .i64 4])] (e 0++[.loop N0 iv x]) (λ_=>.S []) (λ_=>if 4*A<c d then u++[.loop N0 iv yV]else e A++[.loop N0 iv x]):=by
 refine bl.bO func261 rfl rfl rfl (g.aO ?_);refine aQ a B ?_;show b1 q _ (.loop _) _ _ _;refine b1.loop (br:=Nat) (λb=>b<=A) (λb=>[(0,.n (.Q (.aY i))),(1,ay (.R [qR d])),(2,ay (.R [.int .i64 4])),(4,Q (4*b:Nat))]) (λb=>e b++[.loop N0 iv x]) (λb=>A-b) 0 (g5 _) ?_ a ?_
 .exact .cons a (eu a D)
 intro b F;refine g.aO ?_;by_cases o:4*b<c d
 .have C:U (jq (c d) (h ((4*b:Nat):Int)) n):=by simp only[jq,U];omega
  have J:bV (c d) n-bV 0 (h ((4*b:Nat):Int))=c d-4*b:=bE;refine a3 [9,903] a bw ?_;let s:Nat->y:=λp=>([Q 4,bS.B d,Q (4*b:Nat),ay (.B v 1 (bV (c d) n-bV 0 (h ((4*b:Nat):Int))) (fH (bV 0 (h ((4*b:Nat):Int))) (bS.fn d))),Q (bV (c d) n-bV 0 (h ((4*b:Nat):Int)):Nat),Q (min 4 (c d-4*b):Nat),Q (min 4 (c d-4*b):Nat)]:m y).getD p .any;refine g.ca b7 s (ln (λ_ _ _=>e b++[.loop N0 iv x]) 100 101 102) oT oT oT oT ?_ ?_
  .exact⟨.ay,
   .ay,
   .ay,
   cg.eM a a a (λ_ _ _=>aY.eval (bh:=[]) bc a_.nil a C),
   .ay,
   cg.eM a a a (λ_ _ _=>aY.a3 (λ_ _ _ _=>jf a) (yZ _ a a a N nS)),
   .ay,B⟩
  intro y X;show g q _ _ _ _ _ (e b++[.loop N0 iv x]);have S:(((4*b:Nat):Int)+((min 4 (c d-4*b):Nat):Int))=((4*b+min 4 (c d-4*b):Nat):Int):=w;refine aQ a ud (g.aK (a2.jR bc a a a a (j:=c d) (V:=bS.fn d) (eQ:=v) (λ_ _ ba=>b8 ba) a a a w w w w) a a ?_);have M:c (gS d b)=min 4 (c d-4*b):=by simp[gS]
  refine fm.le (dE:=[(0,.n (.Q (.aY i))),(19,.n (.Q (.aY i))),(1,ay (.R [qR d])),(2,ay (.R [.int .i64 4])),(4,Q (4*b:Nat)),(28,bS.B (gS d b))]) ?_ (.cons a (.cons a (eu a ?_)))
  .have O:(e b++[aq.loop N0 iv x])[i]?=h (.loop N0 iv x):=N;rcases dY b A with z|z
   .refine g.yield (f b z o) a a a (N0:=N0) (iv:=iv) (ba:=x) O a a λ_=>?_;exact a3 [-30] a R' ⟨b+1,by omega,by omega,.cons a (eu a bw),a⟩
   obtain rfl:b=A:=w;refine g.yield (k o) a a a (N0:=N0) (iv:=iv) (ba:=x) O a a λ_=>?_;exact a3 [30] a D (g.ret ⟨(),.inl a,(bo o).symm,by grind,[],.S [],[],a,a,a,B⟩)
  simp only[U.Y,U,a',a9];have I:((4*b:Nat):Int).toNat=4*b:=w;have E:(((4*b:Nat):Int)+((min 4 (c d-4*b):Nat):Int)).toNat-((4*b:Nat):Int).toNat=c (gS d b):=N;refine⟨E,λp r=>?_⟩;rw[E]at r;rw[I];show bS.a8 (d.getD (4*b+p) bS.E)=bS.a8 ((gS d b).getD p bS.E);congr 1;simp only[gS,aj];grind
 obtain rfl:b=A:=w;refine a3 [-9] a bw (g.fH a a ?_);exact⟨(),.inr a,(bj o).symm,by grind,[],.S [],[],a,a,a,B⟩
def nw(d:Int)(b:cb)(e:m bD)(a:Nat):Bool:=(l6 (dk b+a) d (gS e a)).2&&!(c b.1+a==20)
def mY(b:Nat->Bool):Nat->Nat->Nat
 |0,a=>a
 |d+1,a=>if b a=l then mY b d (a+1)else a
def EI(d:Nat->Bool):∀b a,a<=mY d b a/\mY d b a<=a+b/\(∀e,a<=e->e<mY d b a->d e=l)/\(mY d b a<a+b->d (mY d b a)=v)
 |0,a=>⟨bC _,bC _,λe f g=>absurd f (by simp[mY]at g;omega),λi=>absurd i (by simp[mY])⟩
 |b+1,a=>by obtain⟨f,g,k,j⟩:=EI d b (a+1);rw[mY];grind
def jz(b:Int)(f:cb)(d:m bD)(e:Nat):m b4:=(aA e).map λa:Nat=>(l6 (dk f+a) b (gS d a)).1
theorem DC(f)(b)(d)(j):c (jz f b d j)=j:=by simp[jz]
def aal(f)(b)(d)(j):jz f b d (j+1)=jz f b d j++[(l6 (dk b+(j:Nat)) f (gS d j)).1]:=by simp[jz,List.range_succ]
def Lx{b}(a:mi b):-4000000<=dk b/\dk b<=4000001:=by
 unfold dk;split
 .omega
 rename_i d;have:=a.aZ _ (Da d (0,[]));omega
def pE(d:Int)(a:cb)(b:Int)(g:m cJ):cb×Option bD:=
 let e:=f_ d g (eD a.1);let f:=mY (nw d a e) ((c e+3) / 4) 0
 if f<(c e+3) / 4 then(([],[],[]),h [112,97,99,107,115])
 else if 20<c1 a then(([],[],[]),h [115,110,97,112,115,104,111,116,115])
 else if c a.2.2=9 then(([],[],[]),h [104,101,97,100,115])
 else((a.1++jz d a e f,a.2.1++[fs (c1 a) d g],a.2.2++[(b,c1 a)]),n)
def Ui:Option bD->E1
 |none=>.Q (.c .bD)
 |some a=>.Q (.c (.cg 194 (.R [.T a])))
def Ns(a:cb×Option bD):y:=.S [.agg [.c (tM a.1.1),.c (tN a.1.2.1),.c (h2 a.1.2.2)],Ui a.2]
abbrev acY(d:cb)(a:Int)(e:m cJ)(b:m bD):bL:=[(2,Q a),(3,bu.B e),(4,aH 2 0),(5,aH 3 0),(8,aH 4 0),(9,aH 5 0),(10,aH 9 0),(11,aH 10 0),(12,Q (c1 d)),(33,ay (.fn (.func 261) [] [.R [qR b],.R [.int .i64 4]]))]
abbrev wn(f e:ak×X)(i:Int)(b:cb)(g:M)(a:m b4)(d:Int):m aq:=is f e++[.cells 30 [.c (tM b.1),.c (tN b.2.1),.c (h2 b.2.2)],.cells 3 [.c (.int .i64 i)],.cells 30 [cH,cH,cH],.cells 191 [.c g],
 .q 119 2 (c a) (a1.fn a),.q 50 2 (c b.2.1) (bd.fn b.2.1),.N,.cells 30 [.O 6 (.B (c a) 2 0 (c a)),.O 7 (.B (c b.2.1) 2 0 (c b.2.1)),.c (h2 b.2.2)],.cells 3 [.c (.int .i64 d)]]
def M7{t i}{b}{m k}{Z d}{bO a}{o g}(e)(j)(aJ:(wn t i f b m Z bO++[.loop F I o])[e]?=h j):Ay 12 (wn t i f b k d a++[.loop F I g]) e j:=by
 rcases e with _|_|_|_|_|_|_|_|_|_|_|_|e<;>first
  |(cases aJ;exact .inl ⟨_,_,rfl,rfl⟩)
  |(cases aJ;exact .inr (.inr (.inl ⟨_,_,_,_,rfl,rfl⟩)))
  |(cases aJ;exact .inr (.inr (.inr ⟨by grind,by grind⟩)))
  |simp_all
def XX(s i)(f)(b)(e)(o)(b3:cm f=l)(x:dH b)(ee:mi b)(C:dO o=l)(P:c (dD b.1)<=100000)(G:kW (eD b.1) (c (eD b.1))=l)(Z:g_ b.2.2=l)(aK:e=1∨e=2)(ah:1<=c1 b):
  Y q 143 [b0 b,Q f,Q e,bu.B o] (is s i) (Ns (pE f b e o)) (is s i):=by
 obtain⟨O,p⟩:∃O,O=pE f b e o:=⟨_,rfl⟩;rw[<-p];unfold pE at p;simp only at p;refine(bl.jd (ι:=Unit) (ar:=λ_=>is s i) (res:=λ_=>Ns O) func143 rfl rfl rfl ?_).toY
 refine dg.seq (b1.bw (g.aO ?_));refine aQ a B (dg.seq (b1.bw (g.aO ?_)));refine aQ a B (g.aA (JH b x.aZ x.bl x.aW x.bm x.aM) [] a (aQ a B (dg.seq (b1.bw (g.aO ?_)))));refine g.bM 8 a a a D (by simp;exact⟨B,B⟩) (aQ a B (g.aA (Xj b x ee) [] a (aQ a B (dg.seq (dg.seq (b1.bw (g.aO ?_)))))));generalize al:eD b.1=d at *;have ab:a_ q [(217,eO [a1.B b.1] (a4.B d)),(215,eO [bS.B (f_ f o d),Q 4] (ay (.fn (.func 261) [] [.R [qR (f_ f o d)],.R [.int .i64 4]])))]:=.cons (e8 (al▸V_ b.1 x.aZ P)) (.cons (e8 (UN _)) .nil);have aF:c d<=4000000:=by grind[Ky]
 refine g.gf b7 [Q f,bu.B o,aH 2 0,a1.B b.1,a4.B d,bS.B (f_ f o d),ay (.fn (.func 261) [] [.R [qR (f_ f o d)],.R [.int .i64 4]])] 12 rfl rfl rfl rfl rfl ⟨aY.w,aY.w,aY.w,aY.w,
  aY.eval (bh:=[]) bc ab a a,aY.dS (dX.dY (Ya s i f o d b3 C G aF).tocE [0,1] a a a a a a a bk a bk),aY.eval (bh:=[]) bc ab a a,B⟩ ?_
 refine aQ a B (dg.block ?_);refine dg.bc (acY b e o (f_ f o d)) (wn s i f b .bD (b.1++jz f b (f_ f o d) 0) (dk b+(0:Nat))) a D a ?_ ?_
 .simp[jz];exact⟨a,λaC _=>rfl⟩
 have ae:∀A∈f_ f o d,cD A=l:=(qS (oP C)).1;have ag:c (f_ f o d)<=4000000:=e3 (qS (oP C)).2 ca;generalize f_ f o d=j at *;obtain⟨au,av,I,aq⟩:=EI (nw f b j) ((c j+3) / 4) 0;have aJ:=x.aZ;generalize V:mY (nw f b j) ((c j+3) / 4) 0=k at *;refine dg.jI (o9:=fg [.R [qR j],.R [.int .i64 4]]) (bY.callee a)
  (UM (yV:=?afm) j ag k w (λu=>wn s i f b .bD (b.1++jz f b j u) (dk b+(u:Nat))) (wn s i f b (.cg 194 (.R [.T [112,97,99,107,115]])) (b.1++jz f b j k) (dk b+(k:Nat))) (λu=>rfl) (λu=>rfl) a (λu J L=>?Zx) λaI=>?Zy) λaC=>?b3
 case Zy=>
  have R:=aq w;have S:=Jr (q:=q) s i (dk b+(k:Nat)) f (gS j k) Oe b3 (λA F=>ae A (p4 (gN F))) (by simp[gS];omega);have af:=DC f b j k;generalize an:l6 (dk b+(k:Nat)) f (gS j k)=r at *;refine iQ.cG (bq:=λ_=>[.cells 119 [.c (.int .i64 r.1.1),.c (.B v 2 (c r.1.2) (bI.fn r.1.2))],.N]) (iQ.intro (u:=h .ret) a a a a (g.aO ?_)) ?_ ?_
  .refine aQ a B ⟨a,a,g.aO ?_⟩;refine aQ a B (g.aA S [0,1] a ?_);have aa:c (b.1++jz f b j k)=c b.1+k:=N;have E:r.2=l->c b.1+k=20:=λaw=>by simpa[nw,an,aw]using R
   cases y:r.2 with
   |false=>
    refine a3 [44,49,907] a (by simp[y]) (g.region ?_);refine gH [] 3 a B (g.e5 52 13 a a a ?_);refine aQ a B (g.ret ?_);refine⟨a,a,(),jX a ?_⟩;simp[U.Y,U,a',a9];and_intros<;>first|exact bs.same|exact bs.nil|rfl
   |true=>
    have:=E y;refine a3 [-44,49,907] a bE (g.region ?_);refine gH [] 3 a B (g.e5 52 13 a a a ?_);refine aQ a B (g.ret ?_);refine⟨a,a,(),jX a ?_⟩;simp
  .exact λ_=>rfl
  exactλ_=>M7
 case Zx=>
  have aE:=I u (g5 _) J;have S:=Jr (q:=q) s i (dk b+(u:Nat)) f (gS j u) Oe b3 (λA F=>ae A (p4 (gN F))) (by simp[gS];omega);have af:=DC f b j u;have W:=aal f b j u;obtain⟨ao,aD⟩:(l6 (dk b+(u:Nat)) f (gS j u)).2=l/\¬(c b.1)+u=20:=by simpa[nw]using aE
  generalize l6 (dk b+(u:Nat)) f (gS j u)=r at *;have aa:c (b.1++jz f b j u)=c b.1+u:=N;have ai:b.1++jz f b j (u+1)=(b.1++jz f b j u)++[r.1]:=N;generalize b.1++jz f b j u=m at *;refine iQ.cG (bq:=λ_=>[.cells 119 [.c (.int .i64 r.1.1),.c (.B v 2 (c r.1.2) (bI.fn r.1.2))]]) (iQ.intro (u:=n) a a a a (g.aO ?_)) ?_ ?_
  .refine aQ a B ⟨a,a,g.aO ?_⟩;refine aQ a B (g.aA S [0,1] a ?_);have k6:=a1.a0 m r.1;have aB:=Lx ee;refine a3 [-44,-49] a ?_ ?_
   .simp only[U,a7,ao,show nA.bytes=32 from a,aa,eN,d',gz,a',a9];omega
   refine⟨a,a,(),jX a ?_⟩;have aM:c (m++[r.1])=c m+1:=D;have H:dk b+(u:Int)+1=dk b+((u+1:Nat):Int):=w;rw[ai,aM,<-H];simp only[U.Y,U,a',a9];exact Q0
  .exact λ_=>rfl
  exactλ_=>M7
 case b3=>
  by_cases L:4*k<c j
  .rw[bo L];refine⟨_,a,by simp,.ret,a,?_⟩;rw[bo (show k<(c j+3) / 4 by omega)]at p;subst p;simp only[u0,wt];refine .freeze 8 4 a a a (.freeze 9 5 a a a (.of ⟨(),k7.cells bc [0,1] a ?_ a a a qt⟩));simp
  rw[bj L];refine⟨_,a,by simp,.normal,a,?_⟩;rw[bj (show¬k<(c j+3) / 4 by omega)]at p;show dg q _ _ _ _ _;refine b1.bw (g.aO ?_);by_cases E:20<c1 b
  .rw[bo E]at p;subst p;refine a3 [63,911] a bw (g.region ?_);refine gH [] 3 a B (g.e5 66 13 a a a ?_);exact P1
  rw[bj E]at p;have ak:c b.2.2<=9:=by simp only[g_,cp,bz]at Z;omega
  refine a3 [-63] a bw (g.aA (Yb s i (c1 b) f o ⟨ah,by omega⟩ b3 C) [0,1] a ?_);have k6:=bd.a0 b.2.1 (fs (c1 b) f o);have aG:=x.aW;refine a3 [914] a ?_ ?_
  .simp only[U,show rR.bytes=32 from a,a',a9];omega
  refine g.region ?_;refine aQ a B (g.aA (WY b.2.2 (e,c1 b) Z (by simp only[hD,cp,bz];omega) ak) [] a ?_);by_cases z:c b.2.2=9
  .rw[bo z]at p;subst p;refine a3 [91,916] a (by simp[z]) (g.region ?_);refine gH [] 3 a B (g.e5 94 14 a a a ?_);exact P1
  rw[bj z]at p;subst p;simp only[bj z];refine a3 [-91,918] a (by simp[z]) ?_;have af:c (b.1++jz f b j k)=c b.1+k:=by grind[DC]
  generalize b.1++jz f b j k=m at *;generalize X:b.2.1++[fs (c1 b) f o]=t at *;have M:c t=c b.2.1+1:=N;generalize T:b.2.2++[(e,c1 b)]=K at *;refine g.fU (dE:=[(8,aH 4 0),(9,aH 5 0),(10,aH 9 0)]) (ar:=is s i++[.cells 30 [.c (tM b.1),.c (tN b.2.1),.c (h2 b.2.2)],.cells 3 [.c (.int .i64 f)],.cells 30 [cH,cH,cH],.cells 191 [.c .bD],.q 119 2 (c m) (a1.fn m),.q 50 2 (c t) (bd.fn t),.N,.cells 30 [.O 6 (.B (c m) 2 0 (c m)),.O 7 (.B (c t) 2 0 (c t)),.c (h2 K)],.cells 3 [.c (.int .i64 (dk b+(k:Nat)))],.N,.bn,.cells 50 [.c (.int .i64 (fs (c1 b) f o).1),.c (.B v 2 (fs (c1 b) f o).2.length (cx.fn (fs (c1 b) f o).2))]]) ?_ a ?_ a ?_
  .refine g.bM 6 a a a D D (g.bM 7 a a a D D (aQ a B (g.ret (.freeze 8 4 a a a (.freeze 9 5 a a a (.of ⟨(),k7.cells bc [0,1] a ?_ a a a qt⟩))))));simp[ii]
  .simp
  simp only[U.Y,U,M,a',a9];exact Q0
end
structure kb(b:cb):Prop where
 eQ:c b.1<=20
 dK:∀S∈b.1,(1<=S.1/\S.1<=99)/\c S.2<=4
 eA:c b.2.1<=21
 c8:∀E∈b.2.1,(1<=E.1/\E.1<=20)/\c E.2<=6/\∀bv∈E.2,c bv.2<=40
 fX:c b.2.2<=9
 fl:∀s∈b.2.2,1<=s.2/\s.2<=20
def tb{a f:Type}{al:a->m f}{j}:∀{d:m a},(∀b∈d,c (al b)<=j)->c (d.flatMap al)<=j*c d
 |[],_=>by simp
 |b::d,e=>by have k:=e b iB;have o:=tb (d:=d) λi g=>e i (mm _ g);grind[Nat.mul_succ]
def wu{a:dF}(d:c a.2<=6/\∀b∈a.2,c b.2<=40):c (d9 a.2)<=240:=by have:=tb (al:=λb:m7=>b.2) (j:=40) d.2;unfold d9;omega
def kb.eP{b:cb}(a:kb b):k8 b:=by
 have i:=a.eQ;have k:=a.eA;have j:c (cc b.1)<=4*c b.1:=tb λf d=>by rw[kK];exact(a.dK f d).2
 have m:c (g7 b.2.1)<=240*c b.2.1:=tb λg e=>wu (a.c8 g e).2;refine⟨⟨by omega,λg e=>?_,by omega,by omega⟩,λf d=>?_,by omega⟩
 .have:=(a.c8 g e).2;grind
 have:=(a.dK f d).2;omega
def kb.df{b}(d:kb b):dH b:=by have a:=d.eP;have e:=d.fX;exact⟨a.fc,a.cd,a.eJ,a.ds,by omega⟩
def kb.eH{b}(e:kb b):mi b:=
 ⟨λd a=>by have:=(e.dK d a).1;omega,λd a=>by have:=(e.c8 d a).1;omega,λd a=>by have:=e.fl d a;omega⟩
def kb.j0{b}(a:kb b):c (dD b.1)<=100000:=by
 have e:=a.eQ;have:c (R1.dD b.1)<=4*c b.1:=tb λf d=>by rw[kK];exact(a.dK f d).2
 omega
def acv{e}{Z}(j:(dU f e Z).isSome=l):c e.2<=6/\∀b∈e.2,c b.2<=40:=by
 unfold dU at j;split at j
 .rename_i i;simp only[cp]at i;obtain⟨⟨_,o⟩,k⟩:=i;refine⟨?_,λb m=>?_⟩
  .simp only[dO,cp,bz,fq,kK]at k;omega
  have a:=aW.1 o b m;unfold fG at a;split at a
  .cases a
  rename_i p d;split at a
  .cases a
  rename_i r g;have q:c p=c b.2:=by unfold gD at d;split at d<;>cases d;simp
  unfold iY at g;split at g
  .rename_i i;simp[cp,gl,fO,bz]at i;grind[v3]
  grind
 grind
def iP.hX{b}(a:iP f b):kb b:=by
 have k:c b.2.1<=20:=by have:=xv 1 a.b_ λe d=>(a.aW e d).1;omega
 have g:=a.ed;simp[g_,cp,bz,gd]at g;refine⟨a.len,λS i=>⟨(a.cd S i).c0,(a.cd S i).len.2⟩,by omega,λe d=>⟨(a.aW e d).1,acv (a.aW e d).2⟩,g.2,λm j=>?_⟩;have:=(sO (S:=hD) (O:=(0,0))).1 g.1 m j;simp[hD,cp,bz]at this;omega
def Zs{d}(b:∀a∈d,-4000000<=a.2/\a.2<=4000000):1<=lp d:=(te d b).1
def acs{b}(a:kb b):1<=c1 b:=by have:=Zs a.eH.aM;unfold c1;split<;>omega
def aa1{b}(d:kb b):1<=dk b:=by
 unfold dk;split
 .omega
 rename_i a;have:=(d.dK _ (Da a (0,[]))).1;omega
def kb.cB{b}{o}{bT}(i:kb b)(D:c b.2.1<=20)(q:dO o=l)(j:fB f b o=v):kb (ey f b bT o):=by
 simp[fB,xa,dq]at j;obtain⟨w,x,f3,f4⟩:=j;have B:=acs i;have E:=aa1 i;have y:=zU.1 q;unfold ey;refine⟨by grind,λe a=>?_,by grind,λe a=>?_,by grind,λe a=>?_⟩
 .rcases e2.1 a with a|a
  .exact i.dK e a
  obtain⟨k,C,r,g,s,t,u,rfl⟩:=LC f _ _ _ (qS (f:=f) (d:=eD b.1) (oP q)).1 e a;have g:k<dk b+c (kx f b o):=g;exact⟨⟨by show 1<=k;omega,by show k<=99;omega⟩,by grind[aaw]⟩
 .rcases e2.1 a with a|a
  .exact i.c8 e a
  rw[fU]at a;subst a;refine⟨⟨B,by show c1 b<=20;omega⟩,by show(o.map _).length<=6;grind,λF A=>?_⟩;obtain⟨m,j,rfl⟩:=g4.1 A;have p:=(y.1 m j).2;simp[fO,cp,bz]at p;have z:=v3 m.2;show((cn m.2).map _).length<=40;grind
 rcases e2.1 a with a|a
 .exact i.fl e a
 grind
structure jk(b:cb):Prop extends kb b where
 c5:b.1.Pairwise λS bm=>S.1<bm.1
 b_:b.2.1.Pairwise λE bv=>E.1<bv.1
 fz:∀s∈b.2.2,1<=s.1/\s.1<=2
def jk.nil:jk ([],[],[]):=⟨⟨by simp,by simp,by simp,by simp,by simp,by simp⟩,by simp,by simp,by simp⟩
def jk.eD{b}(a:jk b):rg b:=⟨a.df,a.c5,a.eH.ba,a.fz⟩
def jk.jX{b}(a:jk b):c b.2.1<=20:=by have:=xv 1 a.b_ λe d=>(a.c8 e d).1;omega
def GN{al:α->Int}{d}(i:d.Pairwise λa b=>al a<al b)(g:c d≠0)(e):∀f∈d,al f<=al (d.getD (c d-1) e):=by grind[List.getElem_of_mem,List.pairwise_iff_getElem]
def jk.cB{f}{b}{o}{bT}(d:jk b)(p:dO o=l)(r:1<=bT/\bT<=2)(m:fB f b o=v):jk (ey f b bT o):=by
 refine⟨d.tokb.cB d.jX p m,?_,?_,λe a=>?_⟩
 .refine nc.2 ⟨d.c5,Lz f _ _ _,λe a k g=>?_⟩;have q:e.1<dk b:=by
   unfold dk;split
   .grind
   rename_i i;have:=GN (al:=λj:b4=>j.1) d.c5 i (0,[]) e a;omega
  have:=D4 f _ _ _ k g;omega
 .refine nc.2 ⟨d.b_,by simp,λe a k g=>?_⟩;rw[fU]at g;subst g;show e.1<c1 b;unfold c1;split
  .grind
  rename_i i;have:=GN (al:=λj:dF=>j.1) d.b_ i (0,[]) e a;omega
 rcases e2.1 a with a|a
 .exact d.fz e a
 grind
def jk.jY{b}(a:jk b)(e:dF->Bool):jk (b.1,b.2.1.filter e,b.2.2):=
 ⟨⟨a.eQ,a.dK,e3 (iz _ _) a.eA,λf d=>a.c8 f (hg.1 d).1,a.fX,a.fl⟩,a.c5,a.b_.filter _,a.fz⟩
def jk.step{b}(a:jk b)(bO)(cz):jk (e7 bO cz b.1,b.2):=by
 refine⟨⟨?_,λg d=>?_,a.eA,a.c8,a.fX,a.fl⟩,?_,a.b_,a.fz⟩
 .have:c (e7 bO cz b.1)<=c b.1:=by unfold e7;grind
  exact e3 this a.eQ
 .obtain⟨e,t,rfl,_⟩:=EH d;have:=a.dK e t;grind[Dw,yS]
 show (e7 bO cz b.1).Pairwise _;unfold e7;refine List.Pairwise.filter _ (ro.2 (a.c5.imp λf=>?_));grind[yS]
structure fx(j:Nat)(p:dI):Prop where
 ba:jk p.1
 cn:c p.2.1<=j
 c_:c p.2.2<=20
def fx.mono{p}(a:fx j p)(b:j<=A):fx A p:=⟨a.ba,e3 a.cn b,a.c_⟩
abbrev hu:dI:=(([],[],[]),[],[])
def fx.nil{j}:fx j hu:=⟨jk.nil,by simp,by simp⟩
def jP(e:Int)(b:cb)(a:m Int):dI×Bool:=
 if h3 e b=l then(((b.1,b.2.1.filter λd=>a.contains d.1,b.2.2),fr (b.2.1.filter λd=>a.contains d.1),b.1.map (·.1)),l)else(hu,v)
def aek{b}(a:kb b):c (g7 b.2.1)<=240*21:=by have f:=a.eA;have g:c (g7 b.2.1)<=240*c b.2.1:=tb λe d=>wu (a.c8 e d).2;omega
def fx.h'{b}{eg}(e:jk b):fx 6000 (jP f b eg).1:=by
 unfold jP;split
 .have d:=e.jY λa=>eg.contains a.1;refine⟨d,?_,by simp only[kK];exact e.eQ⟩;have g:=yW (b.2.1.filter λa=>eg.contains a.1) _ (bC _);have i:=aek d.tokb;grind
 exact fx.nil
def fx.step{j}{p}(a:fx j p):fx j (hO p):=by
 unfold hO;split
 .exact a
 rename_i d e b;refine⟨a.ba.step _ _,a.cn,?_⟩;have:=a.c_;grind
def oK(d:Int)(b:dI)(a:Int)(e:m cJ):dI:=(ey d b.1 a e,(gG (fs (c1 b.1) d e).2).foldl fa b.2.1,b.2.2)
def qG(b:Int)(e:dI)(a:Int)(d:m cJ):Bool:=hs b e&&decide (1<=a/\a<=2)&&dO d
def fx.cB{f}{j}{p}{o}{bT}(a:fx j p)(g:dO o=l)(b:1<=bT/\bT<=2)(e:fB f p.1 o=v):fx (j+240) (oK f p bT o):=by have d:=a.ba.cB g b e;refine⟨d,?_,a.c_⟩;have i:=qu p.2.1 (gG (fs (c1 p.1) f o).2);have k:=tv (fs (c1 p.1) f o).2;have q:=wu (d.c8 (fs (c1 p.1) f o) (by simp[ey])).2;have m:=a.cn;show((gG _).foldl fa p.2.1).length<=_;omega
def fx.jV{p}(a:fx j p):rh p.1:=a.ba.eP.torh
def gK(b:m (Int×Int)):Int:=b.foldl (λd a=>64*d+21*a.1+a.2) 0
def kU(a:Int×Int)(b:m (Int×Int)):(Int×Int)×Int:=
 if g_ b=l/\a.1<=c b/\0<=a.1 then
  if gK (b.take a.1.toNat)=a.2 then(((c b:Int),gK b),0)else(a,2)
 else(a,1)
def EL{b:m (Int×Int)}(e:∀d∈b,(1<=d.1/\d.1<=2)/\1<=d.2/\d.2<=20):∀a,0<=gK (b.take a)/\gK (b.take a)<((64 ^ a:Nat):Int)
 |0=>by simp[gK]
 |a+1=>by
  have g:=EL e a;by_cases f:a<c b
  .have i:gK (b.take (a+1))=64*gK (b.take a)+21*(b.getD a (0,0)).1+(b.getD a (0,0)).2:=by unfold gK;grind[h4]
   grind
  grind[List.take_of_length_le]
def DA{d}(b:g_ d=l):(∀a∈d,(1<=a.1/\a.1<=2)/\1<=a.2/\a.2<=20)/\c d<=9:=by simp only[g_,cp,bz,gd]at b;refine⟨λa e=>?_,b.2⟩;have:=(sO (S:=hD) (O:=(0,0))).1 b.1 a e;simpa only[hD,cp,bz]using this
def wm{d}(f:∀a∈d,(1<=a.1/\a.1<=2)/\1<=a.2/\a.2<=20)(g:c d<=9)(e):0<=gK (d.take e)/\gK (d.take e)<18014398509481984:=by
 rcases Nat.le_total e 9 with b|b
 .have i:=EL f e;have:64 ^ e<=64 ^ 9:=AZ w b;grind
 rw[AO w];have i:=EL f (c d);rw[c0]at i;have:64 ^ c d<=64 ^ 9:=AZ w g;grind
abbrev Tt:m (Nat×bH):=[(35,BY)]
def Ye(f)(b)(y:k8 b):Y (af.aC T) 132 [b0 b,Q f] [] (bg ((aA (c b.2.1)).all (lz f b))) []:=by
 refine Y.ab func132 rfl λK=>?_;have J:=y.eJ;have F:=y.ds;have i:a_ (af.aC T) Tt:=.cons No .nil;refine b9 i a B (g.aB 1 (λe=>e<=c b.2.1/\∀u,u<e->lz f b u=l) (λe:Nat=>[(1,Q f),(2,aH 0 0),(10,bd.B b.2.1),(11,Q (c b.2.1)),(12,Q e)]) (λ_=>[zB b]) (λe=>c b.2.1-e) 0 a D a D a ⟨by omega,by omega⟩ ?_);rintro e ⟨z,o⟩;by_cases s:e<c b.2.1
 .have j:b.2.1.getD e bd.E=b.2.1.getD e (0,[]):=rfl;have r:b.2.1.getD (e-1) bd.E=b.2.1.getD (e-1) (0,[]):=rfl;have k:lz f b e=(decide (1<=(b.2.1.getD e (0,[])).1/\(b.2.1.getD e (0,[])).1<=20)&&kl (·.1) (0,[]) b.2.1 e&&(dU f (b.2.1.getD e (0,[])) b.1).isSome):=rfl;have E:=qc (al:=λm:dF=>m.1) (O:=(0,[])) (d:=b.2.1) (e:=e);have C:=F _ (oo (O:=(0,[])) s);generalize b.2.1.getD e (0,[])=m at *;generalize b.2.1.getD (e-1) (0,[])=t at *;by_cases p:1<=m.1
  rotate_left
  .refine a8 i [13,20,25,40] a ?_ (g.aS (bW.zero a ?_))
   .simp[-aj,j];omega
   exact j9
  by_cases q:m.1<=20
  rotate_left
  .refine a8 i [13,-20,25,40] a ?_ (g.aS (bW.zero a ?_))
   .simp[-aj,j];omega
   exact j9
  rw[fA ⟨p,q⟩,fV]at k;by_cases x:e=0
  .subst x;rw[show kl (·.1) (0,[]) b.2.1 0=l from a,fV]at k;cases A:(dU f m b.1).isSome with
   |false=>
    refine a8 i [13,-20,-25,-27,-40,50] a O3 (g.aS (bW.zero a ?_));rw[lM s (k.trans A)];simp
   |true=>
    refine a8 i [13,-20,-25,-27,-40,-50] a ?_ (g.aw 1 a D D ⟨s,jn o (k.trans A)⟩ w);exact O3
  rw[E x]at k;by_cases I:t.1<m.1
  rotate_left
  .refine a8 i [13,-20,-25,28,38,40] a ?_ (g.aS (bW.zero a ?_))
   .simp[-aj,j,r,a7];omega
   exact j9
  rw[fA I,fV]at k;cases A:(dU f m b.1).isSome with
  |false=>
   refine a8 i [13,-20,-25,28,-38,-40,50] a Rr (g.aS (bW.zero a ?_));rw[lM s (k.trans A)];simp
  |true=>
   refine a8 i [13,-20,-25,28,-38,-40,-50] a ?_ (g.aw (e+1) a D D ⟨s,jn o (k.trans A)⟩ w);exact Rr
 obtain rfl:e=c b.2.1:=w;rw[gd.2 o];refine a8 i [-13] a D (g.az ?_);exact b9 i a B (g.ao a)
def acU(f)(b):h3 f b=(cm f&&tA f b&&(aA (c b.2.1)).all (lz f b)&&g_ b.2.2):=by unfold h3 tA;cases(aA (c b.1)).all (nN f b.1)<;>cases decide (cc b.1).Nodup<;>cases(aA (c b.2.1)).all (lz f b)<;>cases cm f<;>cases g_ b.2.2<;>cases decide (c b.1<=20)<;>rfl
abbrev Tn:bH:=ej mn c7 (λb a=>bg (tA a b)) λb a=>[cm a=l,k8 b]
abbrev Tr:bH:=ej mn c7 (λa b=>bg ((aA (c a.2.1)).all (lz b a))) λa _=>[k8 a]
def Ym(f)(b)(al:k8 b):Y (af.aC T) 85 [Q f,b0 b] [] (bg (h3 f b)) []:=by
 refine Y.ab func85 rfl λj=>?_;have d:a_ (af.aC T) [(36,BX),(25,di c7 (λf=>bg (cm f)) λ_=>[]),(131,Tn),(132,Tr),(133,n')]:=.cons Nn (.cons qU (.cons (.bk λb f e=>Xx f b e.1 e.2) (.cons (.bk λb f e=>Ye f b e) (.cons tY .nil))));have i:=a1.l b.1;have t:=bd.l b.2.1;have x:=a4.l b.2.2;rw[acU];cases b3:cm f
 .exact a8 d [-10,-15,-20] a (by simp[b3,i,t,x,a1.J,bd.J,a4.J]) (g.ao a)
 cases ap:tA f b
 .exact a8 d [10,-15,-20] a (by simp[b3,i,t,x,a1.J,bd.J,a4.J,al,ap]) (g.ao a)
 cases C:(aA (c b.2.1)).all (lz f b)
 .exact a8 d [10,15,-20] a QL (g.ao a)
 exact a8 d [10,15,20] a QL (g.ao a nU)
abbrev xR:bH:=ej c7 mn (λb a=>bg (h3 b a)) λ_ a=>[k8 a]
def EX:bK (af.aC T) 85 xR:=.bk λb d a=>Ym b d a
abbrev hc(b a:ak×X):m aq:=is b a++[AA]
def qA(d:Int)(b:cb)(a:Int)(e:m cJ):cb×Bool:=
 if h3 d b=l/\(a=1∨a=2)/\dO e=l then(match(pE d b a e).2 with|none=>((pE d b a e).1,l)|some _=>(b,v))else(([],[],[]),v)
structure Gl(f:Int)(b:cb):Prop where
 j':cm f=l
 sp:c (dD b.1)<=100000
 kh:kW (eD b.1) (c (eD b.1))=l
 ed:g_ b.2.2=l
 aW:1<=c1 b
def mB:∀a,a<3->([0,1,2]:m Nat)[a]?=h a:=ca
def Uv{b:af T}(aa):Y b 144 [ay .bD,oe aa] [] (bg v) []:=by refine Y.ab func144 rfl λd=>?_;refine aQ a B ?_;refine g.aK (DQ a underlying191 a a a) a a ?_;exact a3 [9] a D (g.ao a)
def Yo(u t)(f)(b)(i)(o)(p:dH b)(ba:k8 b)(F:mi b)(G:a7 .i64 i)(O:h3 f b=l->Gl f b):
  Y (af.aC T) 99 [Q f,b0 b,Q i,bu.B o] (hc u t) (Nq (qA f b i o).1 (qA f b i o).2) (hc u t):=by
 refine Y.bg bc func99 rfl rfl rfl λH=>?_;have k:a_ (af.aC T) [(85,xR),(54,rB)]:=.cons EX (.cons t54 .nil);by_cases e:h3 f b=l
 .by_cases d:i=1∨i=2
  .by_cases j:dO o=l
   .have m:qA f b i o=(match(pE f b i o).2 with|none=>((pE f b i o).1,l)|some _=>(b,v)):=bo ⟨e,d,j⟩;rw[m];obtain⟨M,C,y,E,R⟩:=O e;have A:=XX (q:=af.aC T) u t f b i o M p F j C y E d R;apply g.cj [(0,Q f),(2,Q i),(3,bu.B o),(5,aH 3 0),(8,aH 4 0)] (hc u t++[.cells 30 [.c (tM b.1),.c (tN b.2.1),.c (h2 b.2.2)],.cells 30 [cH,cH,cH]])
    .intro dx;rcases d with rfl|rfl
     .refine bf k [-17,-20,-25,-29,903] a P4 (dx _ _ a ?_);simp
     refine bf k [-17,20,-25,-29,903] a P4 (dx _ _ a ?_);simp
    have K:∀x:X,Y (af.aC T) 144 [ay .bD,oe x] [] (bg v) []:=λx=>Uv x;generalize pE f b i o=J at *;obtain⟨W,S⟩:=J;cases S with
    |none=>
     have w:=A;refine cU k a B (g.aA w [0,1] a (bf k [905] a B (g.hA 12 6 a a λz=>?_)));refine cU k a B (g.gY 40 a ?_);exact g.aA (K _) [] a (bf k [-41] a D kF)
    |some V=>
     have w:=A;refine cU k a B (g.aA w [0,1] a (bf k [905] a B (g.hA 12 6 a a λz=>?_)));refine g.iJ 11 a λI=>?_;refine cU k a B (g.gY 40 a ?_);refine g.aA (Ut I z) [2,6] a (bf k [41] a D (g.aA (pd b p.aZ p.bl p.aW p.bm p.aM) [] a (tJ k [] 2 a B (g.hD ?_))));exact g.bM 7 a a a D D (g.bM 8 a a a D D Qf)
   have m:qA f b i o=(([],[],[]),v):=bj λs=>j s.2.2;rw[m];have r:dO o=v:=N;rcases d with rfl|rfl
   .exact bf k [-17,-20,-25,29] a Rl kF
   exact bf k [-17,20,-25,29] a Rl kF
  have m:qA f b i o=(([],[],[]),v):=bj λs=>d s.2.1;rw[m];exact bf k [-17,20,25,29] a bE kF
 have m:qA f b i o=(([],[],[]),v):=bj λs=>e s.1;rw[m];refine bf k [17,25,29] a ?_ ?_
 .simp only[U,a1.l,bd.l,a4.l];and_intros<;>first|rfl|exact True.intro|exact a1.J _|exact bd.J _|exact a4.J _|exact ba|grind
 exact kF
section
variable {q:af T}
end
def Jb(e:Int)(b j:cb)(m:iL b)(o:iL j)(u:c b.2.1<=4000000)(r:∀f∈b.2.1,gJ e j f.1=gJ e b f.1):Y (af.aC T) 13 [Q e,b0 b,b0 j] [] (bg l) []:=by
 refine Y.ab func13 rfl λt=>?_;refine aQ a B (g.loop (λd=>d<=c b.2.1) (λd:Nat=>[(0,Q e),(4,aH 0 0),(5,aH 1 0),(7,Q d)]) (λ_=>[im b,im j]) (λd=>c b.2.1-d) 0 w (eu a D) a ?_);intro d s;by_cases k:d<c b.2.1
 .have i:b.2.1.getD (d:Int).toNat bd.E=b.2.1.getD d (0,[]):=rfl;have p:=r _ (kr k (0,[]));generalize b.2.1.getD d (0,[])=f at *;have q:a_ (af.aC T) [(11,HS),(12,eO [bu.B ((gJ e b f.1).getD []),bu.B ((gJ e b f.1).getD [])] (bg l))]:=.cons aeb (.cons (e8 (Jc _)) .nil);refine bf q [16,-46,-51] a ?_ ⟨d+1,k,by omega,eu a D,a⟩;simp only[U,i,a1.l,bd.l,a4.l,p,a7];and_intros<;>first|rfl|exact a1.J _|exact bd.J _|exact a4.J _|exact m|exact o|omega|simp;omega|simp
 obtain rfl:d=c b.2.1:=w;refine a3 [-16] a D (g.bs a a ?_);exact sl
def W5{d:af T}(b:cb)(e:∀j∈b.1,c j.2<=4000000)(f:c (cc b.1)<=4000000):Y d 14 [b0 b] [] (Q (c (cc b.1))) []:=by
 refine Y.ab func14 rfl λk=>?_;have i:a_ d [(36,BX)]:=.cons Nn .nil;refine cU i a ?_ ?_
 .simp[a1.J,bd.J,a4.J]
 simp only[a1.l,bd.l,a4.l];exact g.aA (Jq b.1 e f) [] a sl
abbrev HA:bH:=di mn (λa=>Q (c (cc a.1))) λa=>[∀b∈a.1,c b.2<=4000000,c (cc a.1)<=4000000]
def adQ{b:af T}:bK b 14 HA:=.a9 λd a=>W5 d a.1 a.2
section
variable {q:af T}
def U1(b)(d:dH b):Y q 78 [b0 b] [] (b0 b) []:=by refine(qq b d.aZ d.bl d.aW d.bm d.aM).b2 a ?_ a;simp
abbrev BP:bH:=di mn (λa=>b0 a) λa=>[dH a]
def Nd:bK q 78 BP:=.a9 λb a=>U1 b a
def I2(p)(d:dH p.1)(f:c p.2.1<=4000000)(j:c p.2.2<=4000000):Y q 50 [gB p] [] (.n (.agg [cM a1 p.1.1,cM bd p.1.2.1,cM a4 p.1.2.2,cM az p.2.1,.x 0 1 (c p.2.2) (az.fn p.2.2)])) [.x 3 1 (c p.2.2) (az.fn p.2.2)]:=by
 refine Y.bg bc func50 rfl rfl rfl λi=>?_;have e:a_ q [(78,BP)]:=.cons Nd .nil;refine bf e [2000009] a ?_ ?_
 .simp only[U,a1.l,a1.J,bd.l,bd.J,a4.l,a4.J,d,a',a9,show dZ.bytes=8 from a,k9];exact fC
 refine g.bc [gv p,.cells 33 [cM a1 p.1.1,cM bd p.1.2.1,cM a4 p.1.2.2,cM az p.2.1,.x 2 1 (c p.2.2) (az.fn p.2.2)],.x 3 1 (c p.2.2) (az.fn p.2.2)] a ?_ ?_
 .simp[a1.l,bd.l,a4.l,o7]
 refine g.bf () [2] ?_ (λk b=>absurd b D);simp
def U3(p)(b:dH p.1)(d:c p.2.1<=4000000)(e:c p.2.2<=4000000):Y q 50 [gB p] [] (gB p) []:=
 (I2 p b d e).b2 a D a
abbrev xJ:bH:=di (AL CW) (λa=>gB a) λa=>[dH a.1,c a.2.1<=4000000,c a.2.2<=4000000]
def ER:bK q 50 xJ:=.a9 λb a=>U3 b a.1 a.2.1 a.2.2
abbrev KP(b:b4)(a:m cY):m aq:=[xL b,.cells 119 [.c (.int .i64 0),cH],.cells 119 [.c (.int .i64 b.1),.x 3 2 (c a) (bI.fn a)],.x 170 2 (c a) (bI.fn a)]
def C1{d}{a:α->Bool}(f:e<c d)(b):(d.take (e+1)).filter a=if a (d.getD e b)=l then(d.take e).filter a++[d.getD e b]else(d.take e).filter a:=by rw[h4 f b,List.filter_append,n6];split<;>simp
def C0(d)(a:α->Bool)(b:e<=c d):c ((d.take e).filter a)<=e:=e3 (iz _ _) bM
def WG(S)(b)(C:c S.2<=4000000):Y q 81 [fM S,az.B b] [] (fM (fj S b)) []:=by
 refine Y.bg bc func81 rfl rfl rfl λo=>?_;have i:a_ q [(79,u5)]:=.cons zL .nil;refine bf i [902] a B (g.cm 2 1 170 2 (bI.fn []) a a ?_);refine b9 i a B ?_;refine g.aB 4 (λe=>e<=c S.2) (λe:Nat=>[(1,az.B b),(2,aH 0 0),(4,aH 1 0),(5,aH 2 0),(6,Q e)])
  (λe=>KP S ((S.2.take e).filter λd=>b.contains d.1)) (λe=>c S.2-e) 0 a D a D a w ?_
 intro e j;have m:=C0 S.2 (λd=>b.contains d.1) j;by_cases s:e<c S.2
 .have O:S.2.getD e bI.E=eb S e:=rfl;have t:(S.2.take (e+1)).filter (λd=>b.contains d.1)=if b.contains (eb S e).1=l then(S.2.take e).filter (λd=>b.contains d.1)++[eb S e]else(S.2.take e).filter (λd=>b.contains d.1):=C1 s (0,[]);generalize(S.2.take e).filter (λd=>b.contains d.1)=k at *;generalize eb S e=d at *;cases al:b.contains d.1 with
  |true=>
   rw[bo al]at t;have C:=bI.a0 k d;refine bf i [15,25] a RL (g.aw (e+1) a D ?_ s w);exact RM
  |false=>
   rw[bj ds]at t;refine bf i [15,-25] a Qt (g.aw (e+1) a D ?_ s w);simp_all
 exact Qa
abbrev Hx:bH:=ej (jI bI) (eS az) (λb a=>fM (fj b a)) λb _=>[c b.2<=4000000]
def adO:bK q 81 Hx:=.bk λd a b=>WG d a b
abbrev j4(b:dI)(a:Bool):y:=.S [.agg (wo b),.Q (.c (.bool a))]
abbrev lE:m R:=[cH,cH,cH,cH,cH]
def stepT(b:Int)(a:m Int)(d:m b4)(e:Nat):m b4:=e7 b a (d.take e)
def acR{bO}{cz}{Z}(a:e<c Z):stepT bO cz Z (e+1)=if(ic bO cz (Z.getD e (0,[]))).2.length=0 then stepT bO cz Z e else stepT bO cz Z e++[ic bO cz (Z.getD e (0,[]))]:=by unfold stepT e7;rw[h4 a (0,[]),List.map_append,List.filter_append,List.map_singleton];grind
def acQ(bO)(cz)(Z)(a:e<=c Z):c (stepT bO cz Z e)<=e:=by unfold stepT e7;grind
def Yj(p)(i:dH p.1)(d:c p.2.1<=4000000)(f:p.2.2=[]):Y q 49 [gB p] [] (j4 p v) []:=by refine Y.bG func49 rfl rfl rfl λe=>?_;have b:a_ q [(50,xJ)]:=.cons ER .nil;refine bf b [13] a bE ?_;refine g.freeze 2 1 a a a ?_;refine g.cv bc [] a ?_ a a a e4;simp[a1.l,bd.l,a4.l,az.l]
abbrev acV(b:cb)(a:m Int)(e:m Int)(d:m b4):m aq:=[gv (b,a,e),.cells 33 lE,gv (b,a,e),.x 119 2 (c d) (a1.fn d)]
def _root_.Go.AM.c5.iR(a:c5 α)(f)(d)(g:j=c d):bs j (fH 1 (a.fn (f::d))) (a.fn d):=by intro e b;simp only[fH,c5.fn,gI,aj,Nat.add_comm 1 e,n8]
def Yk(b)(cz k)(bO)(u)(F:k=bO::u)(x:dH b)(J:c cz<=4000000)(I:c k<=4000000):Y q 49 [gB (b,cz,k)] [] (j4 ((e7 bO cz b.1,b.2),cz,u) l) []:=by
 refine Y.bG func49 rfl rfl rfl λR=>?_;have m:a_ q [(50,xJ),(81,Hx)]:=.cons ER (.cons adO .nil);have K:0<c k:=ds;refine bf m [-13,905] a ?_ ?_
 .simp only[U,a1.l,a1.J,bd.l,bd.J,a4.l,a4.J,az.l,az.J,x,J,I,a',a9,eN,d'];omega
 refine g.bE 5 119 2 a a ?_;refine cU m a B ?_;have M:=x.aZ;refine g.aB 4 (λe=>e<=c b.1) (λe:Nat=>[(1,aH 0 0),(2,aH 1 0),(4,aH 2 0),(5,.n (.Q (.x 3 2 (c (stepT bO cz b.1 e)) (a1.fn (stepT bO cz b.1 e))))),(6,Q e)])
  (λe=>acV b cz k (stepT bO cz b.1 e)) (λe=>c b.1-e) 0 a ?_ a ?_ a w ?_
 .simp[stepT,e7]
 .simp[stepT,e7,a1.l,bd.l,a4.l,az.l]
 intro e s;by_cases o:e<c b.1
 .have O:b.1.getD e a1.E=b.1.getD e (0,[]):=rfl;have z:=x.bl _ (kr o (0,[]));have i:=acR (bO:=bO) (cz:=cz) o;have N:=acQ bO cz b.1 s;have r:k.getD (Int.toNat 0) az.E=bO:=bE;generalize stepT bO cz b.1 e=y at *;generalize b.1.getD e (0,[])=f at *;by_cases j:f.1=bO
  .have C:ic bO cz f=fj f cz:=by unfold ic;exact bw
   rw[C]at i;have d:=a1.a0 y (fj f cz);have S:(fj f cz).2.length<=c f.2:=iz _ _;have t:(f.1,f.2)=f:=rfl;by_cases p:(fj f cz).2.length=0
   .rw[bo p]at i;refine bf m [21,36,-44] a ?_ (g.aw (e+1) a ?_ ?_ o w)
    .simp only[U,cR,O,r,t,z,bI.l,bI.J,az.l,az.J,a7,bz,dq,gl,a',a9];exact z6
    .rw[i];simp
    rw[i];simp
   rw[bj p]at i;refine bf m [21,36,44] a ?_ (g.aw (e+1) a ?_ ?_ o w)
   .simp only[U,cR,O,r,t,z,bI.l,bI.J,az.l,az.J,a7,show nA.bytes=32 from a,bz,dq,gl,a',a9];exact z6
   .exact Qv
   exact Qv
  have C:ic bO cz f=f:=by unfold ic;exact bw
  rw[C]at i;have d:=a1.a0 y f;by_cases p:c f.2=0
  .rw[bo p]at i;refine bf m [21,-36,-44] a ?_ (g.aw (e+1) a ?_ ?_ o w)
   .simp only[U,cR,O,r,a7,bz,dq,eN,d',a',a9];exact z6
   .rw[i];simp
   rw[i];simp
  rw[bj p]at i;refine bf m [21,-36,44] a ?_ (g.aw (e+1) a ?_ ?_ o w)
  .simp only[U,cR,O,r,a7,show nA.bytes=32 from a,bz,dq,eN,d',a',a9];exact z6
  .exact QX
  exact QX
 obtain rfl:e=c b.1:=w;have E:stepT bO cz b.1 (c b.1)=e7 bO cz b.1:=by unfold stepT;simp
 rw[E];refine bf m [-21] a D (g.az ?_);refine cU m a bw (g.freeze 2 1 a a a ?_);refine g.cv bc [] a ?_ a a a e4;have A:=az.iR bO u a;rw[<-F]at A;simp only[U.Y,U,bV,a',a9];and_intros<;>first|exact bs.same|exact A|simp_all|grind|rfl
def oq(a:dI):Bool:=!a.2.2.isEmpty
def Yi(p)(e:dH p.1)(f:c p.2.1<=4000000)(j:c p.2.2<=4000000):Y q 49 [gB p] [] (j4 (hO p) (oq p)) []:=by
 obtain⟨d,a,i⟩:=p;cases i with
 |nil=>exact Yj (d,a,[]) e f rfl
 |cons b g=>exact Yk d a (b::g) b g rfl e f j
abbrev GR(d:cb)(a:m dF)(b:m Int):m aq:=[im d,.cells 33 lE,.cells 33 [cM a1 d.1,.x 4 2 (c a) (bd.fn a),cM a4 d.2.2,cH,.x 5 1 (c b) (az.fn b)],im d,.x 50 2 (c a) (bd.fn a),.x 3 1 (c b) (az.fn b)]
def map_take{b:Type}{d}{al:α->b}(f:e<c d)(a):(d.take (e+1)).map al=(d.take e).map al++[al (d.getD e a)]:=by rw[h4 f a,List.map_append];rfl
def A7(d)(a:dF->Bool):c (g7 (d.filter a))<=c (g7 d):=by
 induction d with
 |nil=>simp
 |cons e d b=>
  unfold g7 at *;grind
def UE(f)(b)(d:m Int)(p:dH b)(y:rh b):Y q 48 [Q f,b0 b,az.B d] [] (j4 (jP f b d).1 (jP f b d).2) []:=by
 refine Y.bG func48 rfl rfl rfl λO=>?_;have k:a_ q [(77,B0),(78,BP),(79,u5),(80,BR)]:=.cons Nr (.cons Nd (.cons zL (.cons Nh .nil)));have N:=p.aZ;have I:=p.aW;unfold jP;cases s:h3 f b with
 |false=>
  refine bf k [15] a ?_ ?_
  .simp only[U,a1.l,a1.J,bd.l,bd.J,a4.l,a4.J,s,p.aZ,p.aW,a',a9,iC];exact y.ds
  refine g.freeze 6 1 a a a ?_;refine g.cv bc [] a ?_ a a a e4;simp
 |true=>
 rw[bo a];refine bf k [-15,906] a ?_ ?_
 .simp only[U,a1.l,a1.J,bd.l,bd.J,a4.l,a4.J,s,p.aZ,p.aW,p,a',a9,gz];exact y.ds
 refine g.cm 2 1 50 2 (bd.fn []) a a ?_;refine g.cm 2 4 3 1 (az.fn []) a a ?_;refine cU k a B ?_;refine g.aB 6 (λe=>e<=c b.2.1) (λe:Nat=>[(2,az.B d),(4,aH 0 0),(6,aH 1 0),(8,aH 2 0),(9,aH 3 0),(10,Q e)])
  (λe=>GR b ((b.2.1.take e).filter λj=>d.contains j.1) []) (λe=>c b.2.1-e) 0 a ?_ a ?_ a w ?_
 .simp
 .simp[a1.l,bd.l,a4.l]
 intro e r;have E:=C0 b.2.1 (λj=>d.contains j.1) r;by_cases o:e<c b.2.1
 .have C:b.2.1.getD e bd.E=b.2.1.getD e (0,[]):=rfl;have i:(b.2.1.take (e+1)).filter (λj=>d.contains j.1)=if d.contains (b.2.1.getD e (0,[])).1=l then(b.2.1.take e).filter (λj=>d.contains j.1)++[b.2.1.getD e (0,[])]else(b.2.1.take e).filter (λj=>d.contains j.1):=C1 o (0,[]);generalize(b.2.1.take e).filter (λj=>d.contains j.1)=x at *;generalize b.2.1.getD e (0,[])=j at *;cases z:d.contains j.1 with
  |true=>
   rw[bo z]at i;have u:=bd.a0 x j;refine bf k [30,40] a ?_ (g.aw (e+1) a D ?_ o w)
   .simp[-aj,-List.contains_eq_mem,C,o,z,az.l,az.J,a7,show rR.bytes=32 from a];omega
   exact QO
  |false=>
   rw[bj ds]at i;refine bf k [30,-40] a ?_ (g.aw (e+1) a D ?_ o w)
   .simp[-aj,-List.contains_eq_mem,C,o,z,az.l,az.J,a7];omega
   simp_all
 obtain rfl:e=c b.2.1:=w;rw[c0]at E⊢;have F:=A7 b.2.1 λj=>d.contains j.1;have J:iL (b.1,b.2.1.filter (λj=>d.contains j.1),b.2.2):=λj u=>p.bm j (hg.1 u).1;have K:=y.dv;generalize b.2.1.filter (λj=>d.contains j.1)=A at *;refine bf k [-30] a D (g.az ?_);refine cU k a B ?_;refine g.aB 6 (λe=>e<=c b.1) (λe:Nat=>[(2,az.B d),(4,aH 0 0),(6,aH 1 0),(8,aH 2 0),(11,Q e)])
  (λe=>GR b A ((b.1.take e).map (·.1))) (λe=>c b.1-e) 0 a D a D a w ?_
 intro e r;have M:c ((b.1.take e).map (·.1))=e:=bM;by_cases o:e<c b.1
 .have C:b.1.getD e a1.E=b.1.getD e (0,[]):=rfl;have i:=map_take (al:=λt:b4=>t.1) o (0,[]);generalize(b.1.take e).map (λt:b4=>t.1)=x at *;generalize b.1.getD e (0,[])=t at *;have u:=az.a0 x t.1;refine bf k [57] a ?_ (g.aw (e+1) a D ?_ o w)
  .simp[-aj,C,o,a7,show dZ.bytes=8 from a];omega
  exact QO
 obtain rfl:e=c b.1:=w;rw[c0];refine bf k [-57] a D (g.az ?_);refine cU k a bE (g.freeze 8 2 a a a ?_);refine g.freeze 6 1 a a a ?_;refine g.cv bc [] a ?_ a a a e4;simp[bd.l]
abbrev Hd:bH:=jS c7 mn (eS az) (λd b a=>j4 (jP d b a).1 (jP d b a).2) λ_ b _=>[dH b,rh b]
def adn:bK q 48 Hd:=.cM λd e a b=>UE d e a b.1 b.2
def rP(a:dS)(b:b4):b4:=if b.1=a.2.1/\0<=a.2.2.1/\a.2.2.1<c b.2 then(b.1,gY b.2 a.2.2.1.toNat a.2.2.2)else b
def oy(a:cb)(b:dS):cb:=
 if b.1=1 then(a.1.filter λd=>!(d.1==b.2.1),a.2.1,a.2.2)
 else if b.1=2 then(if b.2.1<0∨b.2.1>c a.2.2 then a else(a.1,a.2.1.filter λd=>!jy b.2.1.toNat a.2.2 d,a.2.2.take b.2.1.toNat))
 else if b.1=3 then(a.1.map (rP b),a.2)
 else if b.1=4 then(if 0<=b.2.1/\b.2.1<c a.2.2 then(a.1,a.2.1,a.2.2.set b.2.1.toNat (3-(a.2.2.getD b.2.1.toNat (0,0)).1,(a.2.2.getD b.2.1.toNat (0,0)).2))else a)
 else a
def Ko{b}{d}(e:pY b d):b.1.map (rP d)=b.1:=by apply ru D;intro f g a;rw[List.getElem_map];have:=e f a;rw[aj,bJ a,h9]at this;exact bj this
def Kn{b}{d}{i0}(a:sq b d i0 A):b.1.map (rP d)=(hh b d i0 A).1:=by
 have m:=a.a';apply qa;intro e;have j:(hh b d i0 A).1=b.1.set i0 ((b.1.getD i0 (0,[])).1,gY (b.1.getD i0 (0,[])).2 A d.2.2.2):=rfl;rw[j,nd];by_cases g:e<c b.1
 .have t:b.1[e]?=h (b.1.getD e (0,[])):=N;by_cases f:e=i0
  .subst f;rw[ix g,t];have o:=a.gn;have i:=a.bU;simp only[lK,rP];rw[bo ⟨a.c0,by omega,by omega⟩,i,cR]
  rw[kJ (λa=>f a.symm),t];simp only[lK,rP];rw[bj (λk=>a.bZ e g f k.1)]
 grind
structure Sx(q:af T)(b:cb)(d:dS)(aE:cb):Prop where
 gG:dH aE
 dw:Y q 76 [b0 b,eI d] [] (b0 aE) []
def zH{b}(k:rg b)(d):Sx q b d (oy b d):=by
 have a:=k.size;have C:=a.aM;unfold oy;by_cases m:d.1=1
 .rw[bo m];exact⟨⟨e3 (iz _ _) a.aZ,λs f=>a.bl s (hg.1 f).1,a.aW,a.bm,a.aM⟩,X0 b d a m⟩
 rw[bj m];by_cases g:d.1=2
 .rw[bo g];by_cases e:d.2.1<0∨d.2.1>c b.2.2
  .rw[bo e];exact⟨a,JD b d b a g (Uy b d.2.1 a.aM e)⟩
  rw[bj e];have o:d.2.1=(d.2.1.toNat:Nat):=w;have t:=Uz (q:=q) b d.2.1.toNat w a.aW k.num a.aM;rw[<-o]at t;refine⟨⟨a.aZ,a.bl,e3 (iz _ _) a.aW,λB z=>a.bm B (hg.1 z).1,?_⟩,JD b d _ a g t⟩;simp;omega
 rw[bj g];by_cases e:d.1=3
 .rw[bo e];rcases Kp k d with⟨i0,A,p⟩|o
  .have r:(b.1.map (rP d),b.2)=hh b d i0 A:=by rw[Kn p]
   rw[r];refine⟨⟨by simpa using a.aZ,λs f=>?_,a.aW,a.bm,a.aM⟩,X1 b d a e i0 A p⟩;rcases AS f with f|rfl
   .exact a.bl s f
   simpa[gY]using a.bl _ (vr p.a')
  rw[Ko o];exact⟨a,X7 b d a e o⟩
 rw[bj e];by_cases i:d.1=4
 .rw[bo i];by_cases j:0<=d.2.1/\d.2.1<c b.2.2
  .rw[bo j];have x:(b.2.2.getD (0+d.2.1.toNat) a4.E)∈b.2.2:=N;have t:=k.aM _ x;have y:a7 .i64 (3-lC b d):=RY;have u:=X3 (q:=q) b d a i j.1 j.2 y;have r:b.2.2.set (0+d.2.1.toNat) (3-lC b d,(b.2.2.getD (0+d.2.1.toNat) a4.E).2)=b.2.2.set d.2.1.toNat (3-(b.2.2.getD d.2.1.toNat (0,0)).1,(b.2.2.getD d.2.1.toNat (0,0)).2):=N;rw[r]at u;exact⟨⟨a.aZ,a.bl,a.aW,a.bm,by simpa using a.aM⟩,u⟩
  rw[bj j];exact⟨a,X4 b d a i j⟩
 rw[bj i];exact⟨a,X6 b d a m g e i⟩
def Kw{b}(m:rg b)(d):Y q 98 [b0 b,eI d] [] (b0 (oy b d)) []:=by
 have e:=m.size;have u:=e.aM;unfold oy;by_cases j:d.1=1
 .rw[bo j];exact WL b d e j
 rw[bj j];by_cases f:d.1=2
 .rw[bo f];by_cases a:d.2.1<0∨d.2.1>c b.2.2
  .rw[bo a];exact CL (WP b d e f a)
  rw[bj a];have k:d.2.1=(d.2.1.toNat:Nat):=w;exact WN b d e f d.2.1.toNat k w
 rw[bj f];by_cases a:d.1=3
 .rw[bo a];rcases Kp m d with⟨i0,A,o⟩|k
  .have p:(b.1.map (rP d),b.2)=hh b d i0 A:=by rw[Kn o]
   rw[p];exact WQ b d e a i0 A o
  rw[Ko k];exact WS b d e a k
 rw[bj a];by_cases g:d.1=4
 .rw[bo g];by_cases i:0<=d.2.1/\d.2.1<c b.2.2
  .rw[bo i];have r:(b.2.2.getD (0+d.2.1.toNat) a4.E)∈b.2.2:=N;have x:=m.aM _ r;have s:a7 .i64 (3-lC b d):=RY;have t:=WV (q:=q) b d e g i.1 i.2 s;grind
  rw[bj i];exact WU b d e g i
 rw[bj g];exact CL (WW b d e j f a g)
structure n0(d:m (Int×Int)):Prop where
 aM:∀E∈d,(1<=E.1/\E.1<=2)/\1<=E.2/\E.2<=20
 cy:c d<=9
def n0.of{d}(a:g_ d=l):n0 d:=⟨(DA a).1,(DA a).2⟩
def n0.take{d}(a:n0 d)(e):n0 (d.take e):=⟨λf b=>a.aM f (gN b),by have:=a.cy;rw[List.length_take];omega⟩
def M6{d}(a:e<c d):gK (d.take (e+1))=64*gK (d.take e)+21*(d.getD e (0,0)).1+(d.getD e (0,0)).2:=by unfold gK;rw[h4 a (0,0),uK];rfl
def Ys(d)(e:n0 d):Y q 127 [a4.B d] [] (Q (gK d)) []:=by
 refine Y.ab func127 rfl λm=>?_;have s:=e.cy;refine aQ a B (g.aB 0 (λb=>b<=c d) (λb:Nat=>[(0,a4.B d),(3,Q (gK (d.take b))),(4,Q b)]) (λ_=>[]) (λb=>c d-b) 0 a (by simp[gK]) a B a w ?_);intro b j;by_cases f:b<c d
 .have i:d.getD b a4.E=d.getD b (0,0):=rfl;have p:=M6 f;have o:=wm e.aM e.cy b;have k:=wm e.aM e.cy (b+1);have r:=e.aM _ (kr f (0,0));refine a3 [8] a ?_ (g.aw (b+1) a ?_ B f w)
  .simp only[U,cR,i,a7,bz,a',a9];exact fC
  simp only[U.Y,U,cR,i,a',a9];and_intros<;>first|exact bs.same|omega
 obtain rfl:b=c d:=w;rw[c0];exact Qp
abbrev HT:bH:=di (eS a4) (λa=>Q (gK a)) λa=>[n0 a]
def aec:bK q 127 HT:=.a9 λb a=>Ys b a
abbrev qm(a:Int×Int):y:=.n (.agg [.c (.int .i64 a.1),.c (.int .i64 a.2)])
abbrev pK(a:(Int×Int)×Int):y:=.S [.agg [.c (.int .i64 a.1.1),.c (.int .i64 a.1.2)],.Q (.c (.int .i64 a.2))]
def XZ(A)(d)(t:c d<=4000000):Y q 75 [qm A,a4.B d] [] (pK (kU A d)) []:=by
 refine Y.bG func75 rfl rfl rfl λs=>?_;have b:a_ q [(126,n'),(127,HT)]:=.cons Ng (.cons aec .nil);unfold kU;cases b3:g_ d with
 |false=>
  rw[bj D];exact bf b [8,15,20] a F5 sj
 |true=>
 have f:=n0.of b3;by_cases k:A.1<=c d
 rotate_left
 .rw[bj (by simp[k])];exact bf b [-8,15,20] a Pu sj
 by_cases O:0<=A.1
 rotate_left
 .rw[bj pU];exact bf b [-8,-15,20] a OL sj
 rw[bo ⟨rfl,k,O⟩];have r:(A.1.toNat:Int)=A.1:=rm O;have m:a4.ad (bV (c d) (h A.1)-bV 0 n) (fH (bV 0 n) (a4.fn d))=d.take A.1.toNat:=by have o:bV (c d) (h A.1)-bV 0 n=A.1.toNat:=wS;rw[o,a4.hf d (λp i=>by simp[fH,bV]) w]
 have j:a4.bN (bV (c d) (h A.1)-bV 0 n) (fH (bV 0 n) (a4.fn d)):=a4.g4 d (λp i=>by simp[fH,bV]);by_cases e:gK (d.take A.1.toNat)=A.2
 .rw[bo e];refine bf b [-8,-15,-20,-29] a ?_ ?_
  .simp only[U,jq,m,j,b3,f,f.take,e,a4.l,a4.J,gz,bz,dq,iS,a',a9];omega
  refine g.freeze 4 1 a a a ?_;exact g.cv bc [] a (by simp[a4.l]) a a a e4
 rw[bj e];refine bf b [-8,-15,-20,29] a ?_ ?_
 .simp only[U,jq,m,j,b3,f,f.take,a4.l,a4.J,gz,bz,dq,ki,a',a9];and_intros<;>first|exact e|omega
 exact sj
def fJ(d:Int)(b:dI)(a:Int)(e:m cJ):dI×Bool:=
 if qG d b a e=l then(if fB d b.1 e=l then(b,v)else(oK d b a e,l))else(hu,v)
structure uC(p:dI):Prop where
 ba:dH p.1
 cn:rh p.1
 cy:c p.2.1<=4000000
 c_:c p.2.2<=4000000
def fx.cC{p}(a:fx j p)(b:j<=1000000):uC p:=⟨a.ba.tokb.df,a.jV,by have:=a.cn;omega,by have:=a.c_;omega⟩
def Yx(f)(p)(bT)(o)(j:uC p):Y q 74 [Q f,gB p,Q bT,bu.B o] [] (j4 (fJ f p bT o).1 (fJ f p bT o).2) []:=by
 refine Y.bG func74 rfl rfl rfl λL=>?_;have i:a_ q [(122,HU),(44,kN),(45,sU),(50,xJ),(124,BS),(125,xH)]:=.cons aed (.cons lA (.cons t45 (.cons ER (.cons Ni (.cons EP .nil)))));have aa:=j.cn;have x:(p.1,p.2.1,p.2.2)=p:=rfl;have V:fJ f p bT o=if hs f p=l then(if 1<=bT/\bT<=2 then(if dO o=l then(if fB f p.1 o=l then(p,v)else(oK f p bT o,l))else(hu,v))else(hu,v))else(hu,v):=by unfold fJ qG;by_cases al:hs f p=l<;>by_cases C:1<=bT/\bT<=2<;>by_cases r:dO o=l<;>simp[al,C,r]
 rw[V];cases al:hs f p with
 |false=>
  rw[bj D];refine bf i [18,23,28] a ?_ ?_
  .simp only[U,a1.l,a1.J,bd.l,bd.J,a4.l,a4.J,az.l,az.J,x,al,aa,iC,a',a9]
  exact z9
 |true=>
 rw[bo a];by_cases C:1<=bT/\bT<=2
 rotate_left
 .rw[bj C];refine bf i [-18,23,28] a ?_ ?_
  .simp only[U,a1.l,a1.J,bd.l,bd.J,a4.l,a4.J,az.l,az.J,x,al,aa,gz,a',a9];grind
  exact z9
 rw[bo C];cases r:dO o with
 |false=>
  rw[bj D];exact bf i [-18,-23,28] a Fp z9
 |true=>
 rw[bo a];have s:=tV.1 al;have aZ:=s.toiP.hX;have K:=aZ.eH;have k:=XV (q:=q) f p.1 bT o s.key j.ba K (oP r) aZ.j0;cases u:fB f p.1 o with
 |true=>
  rw[u,bo a]at k;rw[bo a];refine bf i [-18,-23,-28] a Fp (g.aA k [] a (bf i [42] a ?_ ?_))
  .simp only[U,a1.l,a1.J,bd.l,bd.J,a4.l,a4.J,az.l,az.J,x,j.ba,j.cy,j.c_,gz,iC,a',a9]
  refine g.freeze 8 1 a a a ?_;exact g.cv bc [] a F9 a a a e4
 |false=>
 rw[u,bj D]at k;rw[bj D];refine bf i [-18,-23,-28] a Fp (g.aA k [] a ?_);have F:=aZ.cB (f:=f) (o:=o) (bT:=bT) (by have:=xv 1 s.b_ λm J=>(s.aW m J).1;omega) r u;have R:(ey f p.1 bT o).2.1.length=c p.1.2.1+1:=by simp[ey]
 have S:(ey f p.1 bT o).2.1.getD ((ey f p.1 bT o).2.1.length-1) (0,[])=fs (c1 p.1) f o:=by rw[R];simp[ey,aj]
 have M:=F.c8 (fs (c1 p.1) f o) N;have X:=wu M.2;have H:=tv (fs (c1 p.1) f o).2;have G:=F.eA;have W:=j.cy;unfold oK;generalize ey f p.1 bT o=e at *;generalize fs (c1 p.1) f o=m at *;have T:((c e.2.1:Int)-1).toNat=c e.2.1-1:=w;have z:e.2.1.getD ((c e.2.1:Int)-1).toNat bd.E=m:=by rw[T];exact S
 refine bf i [-42] a ?_ ?_
 .simp only[U,z,a1.l,a1.J,bd.l,bd.J,a4.l,a4.J,az.l,az.J,cx.l,cx.J,x,j.ba,j.cy,j.c_,a7,gz,iC,a',a9];omega
 rw[z];simp only[cx.l];generalize gG m.2=b at *;refine g.aB 4 (λd=>d<=c b) (λd:Nat=>[(5,aH 0 0),(8,aH 1 0),(10,aH 2 0),(12,aH 3 0),(13,az.B b),(14,Q d)])
  (λd=>[gv p,.cells 33 lE,im e,gv (e,(b.take d).foldl fa p.2.1,p.2.2)]) (λd=>c b-d) 0 a ?_ a ?_ a w ?_
 .simp
 .exact F9
 intro d O;by_cases t:d<c b
 .have E:b.getD d az.E=b.getD d 0:=rfl;have y:=yB fa p.2.1 t;have I:=qu p.2.1 (b.take d);rw[List.length_take]at I;generalize(b.take d).foldl fa p.2.1=kf at *;have A:=az.l kf;refine bf i [58] a ?_ (g.aw (d+1) a ?_ ?_ t w)
  .simp[-aj,E,t,A,az.J,a7];omega
  .simp
  rw[y];simp[-aj,E,A]
 obtain rfl:d=c b:=w;rw[c0];refine bf i [-58] a D (g.az ?_);exact cU i a B z9
def JJ(d)(b:n0 d)(A)(r:A<=c d):Y q 203 [ay (iI d),Q A] [] (Q (gK (d.take A))) []:=by
 refine Y.ab func203 rfl λs=>?_;have x:=b.cy;refine aQ a B (g.loop (λe=>e<=A) (λe:Nat=>[(0,ay (iI (d.drop e))),(1,Q ((A:Int)-e)),(5,Q (gK (d.take e)))]) (λ_=>[]) (λe=>A-e) 0 w (.cons a (eu a (by simp[gK]))) a ?_);intro e m;by_cases k:e<A
 .have f:=M6 (d:=d) (e:=e) w;have t:=wm b.aM b.cy e;have p:=wm b.aM b.cy (e+1);have u:=b.aM _ (kr (e:=e) (d:=d) w (0,0));rw[IJ (e:=e) w]
  generalize d.getD e (0,0)=o at *;generalize j:d.drop (e+1)=i;cases i<;>(
   refine aQ a B (g.aK (tI a underlying254 a a a) a a ?_);refine a3 [8,11] a ?_ ⟨e+1,k,by omega,.cons (by rw[j];rfl) (eu a ?_),a⟩
   .simp only[U,a7,bz,a',a9];exact FV
   .simp only[U.Y,U,a',a9];and_intros<;>omega)
 obtain rfl:e=A:=w;generalize d.drop e=i;cases i with
 |nil=>
  refine aQ a B (g.aK (r1 a underlying254 a a a) a a ?_);refine a3 [-8,-11] a D (g.bs a a ?_);exact sl
 |cons o i=>
  refine aQ a B (g.aK (tI a underlying254 a a a) a a ?_);refine a3 [8,-11] a D (g.bs a a ?_);exact sl
def W2(d)(i:c d<=4000000):Y q 204 [a4.B d] [] (Q (if g_ d=l then gK d else -1)) []:=by
 refine Y.ab func204 rfl λj=>?_;have f:=Ji (q:=q) d i;cases b3:g_ d with
 |false=>
  have b:a_ q [(133,n')]:=.cons tY .nil;refine bf b [5] a F5 (g.ao a)
 |true=>
  have e:=JJ (q:=q) d (.of b3) (c d) (bC _);rw[c0]at e;have b:a_ q [(133,n'),(202,eO [a4.B d] (ay (iI d))),(203,eO [ay (iI d),Q (c d)] (Q (gK d)))]:=.cons tY (.cons (e8 f) (.cons (e8 e) .nil));generalize gK d=k at *;cases d<;>(
   refine bf b [-5] a ?_ (g.ao a);simp only[U,b3,a4.l,a4.J,gz,a',a9]
   and_intros<;>rfl)
def XY(A)(d)(i:c d<=4000000):Y q 141 [qm A,a4.B d] [] (pK (kU A d)) []:=by
 refine Y.bG func141 rfl rfl rfl λt=>?_;have m:=Ji (q:=q) d i;have f:=W2 (q:=q) d i;have e:a_ q [(133,n')]:=.cons tY .nil;unfold kU;cases b3:g_ d with
 |false=>
  rw[bj D];exact bf e [9,16,21] a F5 sj
 |true=>
 have r:=n0.of b3;by_cases j:A.1<=c d
 rotate_left
 .rw[bj (by simp[j])];exact bf e [-9,16,21] a Pu sj
 by_cases O:0<=A.1
 rotate_left
 .rw[bj pU];exact bf e [-9,-16,21] a OL sj
 rw[bo ⟨rfl,j,O⟩];have p:(A.1.toNat:Int)=A.1:=rm O;have k:=JJ (q:=q) d r A.1.toNat w;rw[bo b3]at f;rw[p]at k;have iF:a_ q [(133,n'),(202,eO [a4.B d] (ay (iI d))),(203,eO [ay (iI d),Q A.1] (Q (gK (d.take A.1.toNat)))),(204,eO [a4.B d] (Q (gK d)))]:=.cons tY (.cons (e8 m) (.cons (e8 k) (.cons (e8 f) .nil)));generalize gK d=s at *;generalize gK (d.take A.1.toNat)=o at *;by_cases b:o=A.2
 .rw[bo b];cases d<;>(
   refine bf iF [-9,-16,-21,-23] a ?_ ?_
   .simp only[U,b3,b,a4.l,a4.J,gz,bz,dq,iS,a',a9];exact q2
   refine g.freeze 4 1 a a a ?_;exact g.cv bc [] a D a a a e4)
 .rw[bj b];cases d<;>(
   refine bf iF [-9,-16,-21,23] a ?_ ?_
   .simp only[U,b3,a4.l,a4.J,gz,bz,dq,ki,a',a9];and_intros<;>first|exact b|rfl|omega
   refine g.freeze 4 1 a a a ?_;exact g.cv bc [] a D a a a e4)
def rA(a:Int):Bool:=decide (1<=a/\a<=2)
def UJ(j):Y q 53 [Q j] [] (bg (rA j)) []:=by
 refine Y.ab func53 rfl λb=>?_;unfold rA;by_cases s:j=1
 .refine a3 [5] a ha (g.ao a ?_);simp[s]
 refine a3 [-5] a ha (g.ao a ?_);simp only[U,a9];rw[o4];simp only[gl,bz];omega
abbrev BO:bH:=di c7 (λa=>bg (rA a)) λ_=>[]
def Nb:bK q 53 BO:=.a9 λa _=>UJ a
def Ks:cr:=⟨1,8,v,TypeDesc.map 3 4,[.val (.map n)],[]⟩
def Zl:eL T 138 Ks:=⟨underlying138,rfl,⟨Tryz.t138,_,l1 type138,rfl,rfl,rfl,rfl,⟨#[],rfl⟩,rfl⟩,λb=>absurd a b⟩
def df:bZ T ((138,Ks)::eQ):=bZ.cons Zl bc
abbrev s0(a:X):y:=cN a
abbrev jp(a:X)(b:m Int):aq:=.K (jj a b)
def IU(t)(e d):Y q 86 [s0 t,az.B d] [jp t e] (.S []) [jp t (e++d)]:=by
 refine Y.ab func86 rfl λf=>?_;have m:=f.B 1 a;refine g.aN b7 df a_.nil [] 100 a B (g.aB 1 (λb=>b<=c d) (λb:Nat=>[(0,s0 t),(6,az.B d),(7,Q (c d)),(8,Q b)]) (λb=>[jp t (e++d.take b)]) (λb=>c d-b) 0 a D a D a w ?_);intro b k;by_cases j:b<c d
 .have o:d.getD (b:Int).toNat az.E=d.getD b 0:=ds;refine g.aN b7 df a_.nil [9] 100 a bM (g.aK (a2.jN a underlying138 underlying3 (i:=0) a a a a) a a ?_);refine g.aN b7 df a_.nil [] 100 a bE (g.aw (b+1) a D ?_ j w);simp_all
 obtain rfl:b=c d:=w;rw[c0];refine g.aN b7 df a_.nil [-9] 100 a D (g.az ?_);exact bW.dh [0] a D a a a ib
def Xm(b)(d)(j):Y q 89 [Q j,ay (.R [.val b])] [jp b d] (bg (!d.contains j)) [jp b d]:=by refine Y.ab func89 rfl λf=>?_;refine g.aN b7 df a_.nil [] 100 a B ?_;refine g.aK (a2.jM a underlying138 underlying3 (λe=>Tryz.zeroValue4 e) (i:=0) a a a) a a ?_;exact g.aN b7 df a_.nil [] 100 a B (g.aI [0] a D ib)
def Wg(b)(j):Y q 91 [fM b,ay (.R [.int .i64 j])] [] (bg (b.1==j)) []:=by refine Y.ab func91 rfl λd=>?_;exact aQ a B (g.ao a)
def CI(b)(d:c b.2<=4000000)(e:c (d9 b.2)<=4000000):Y q 88 [i2 b] [] (az.B (ez b)) []:=by refine Y.ab func88 rfl λf=>?_;refine aQ a B ?_;refine g.aA (JF b d e) [] a ?_;exact aQ a B (g.ao a)
def oW(f:X)(g:Nat)(b:Array MapEntry)(e:Nat):X->(Nat->Option Obj)->Prop:=λi a=>i=f/\∀d,a d=if d=g then h (.map b e)else n
def i_(a:MapEntry):Int:=match a.key with|.int _ b=>b|_=>0
structure oX(O:X)(d:m Int)(ba:Nat)(V:Array MapEntry)(t:Nat):Prop where
 cn:O=.map (h ba)
 a2:MapKept.Stamped V t
 cw:∀ap∈V.toList,ap.key=.int .i64 (i_ ap)/\a7 .i64 (i_ ap)/\ap.val=.bool l
 mem:∀j,j∈d↔j∈V.toList.map i_
def jj.j3{O}{d}(s:jj O d aa ld):∃b:{b:Nat×Array MapEntry×Nat // oX O d b.1 b.2.1 b.2.2},oW O b.1.1 b.1.2.1 b.1.2.2 aa ld:=by
 obtain⟨j,x,g,p,k,w,t,u,o⟩:=s;have i:∀a∈g.toList,a.key=.int .i64 (i_ a)/\a7 .i64 (i_ a)/\a.val=.bool l:=λa e=>by
  obtain⟨m,k1,q,r⟩:=u a e;have:i_ a=m:=by simp[i_,k1]
  rw[this];exact⟨k1,r,q⟩
 refine⟨⟨(x,g,p),k,t,i,λm=>?_⟩,j,w⟩;rw[o,g4];constructor
 .rintro⟨a,e,f⟩;exact⟨a,e,by simp[i_,f]⟩
 rintro⟨a,e,rfl⟩;exact⟨a,e,(i a e).1⟩
def oX.cT{O}{d}{ba}{V}{t}(e:oX O d ba V t)(f:oW O ba V t aa ld):jj O d aa ld:=by
 refine⟨f.1,ba,V,t,e.cn,f.2,e.a2,λb a=>⟨_,(e.cw b a).1,(e.cw b a).2.2,(e.cw b a).2.1⟩,λi=>?_⟩;rw[e.mem,g4];constructor
 .rintro⟨b,a,rfl⟩;exact⟨b,a,(e.cw b a).1⟩
 rintro⟨b,a,g⟩;exact⟨b,a,by simp[i_,g]⟩
def ux(a:Array MapEntry)(pre:m Int)(b:Array Nat):Prop:=pre.Nodup/\(∀e∈pre,e∈a.toList.map i_)/\∀d∈a.toList,d.born∈b↔i_ d∈pre
section
variable {O:X}{d:m Int}{ba t:Nat}{V:Array MapEntry}(bm:oX O d ba V t)
include bm
def oX.ax:(V.toList.map i_).Nodup:=by
 have b:V.toList.map (·.key)=(V.toList.map i_).map (Value.int .i64):=by rw[uM];exact o6 λa d=>(bm.cw a d).1
 have:=bm.a2.2.2;rw[b]at this;rw[List.Nodup,ro]at this;exact this.imp λb a=>b (eF (Value.int .i64) a)
def oX.step{pre}{dz}(i:ux V pre dz){b}(f:b∈V.toList)(j:b.born∉dz):ux V (pre++[i_ b]) (dz.push b.born)/\i_ b∉pre:=by
 have k:i_ b∉pre:=λm=>j ((i.2.2 b f).2 m);refine⟨⟨by grind[ux],λo e=>?_,λg a=>?_⟩,k⟩
 .rcases e2.1 e with e|e
  .exact i.2.1 o e
  rw[fU.1 e];exact List.mem_map_of_mem f
 simp only[Array.mem_push,e2,fU,i.2.2 g a];refine or_congr_right ⟨λd=>?_,λd=>?_⟩
 .rw[DR bm.a2.2.1 a f d]
 rw[DR bm.ax a f d]
def oX.over{pre}{dz}(f:ux V pre dz)(i:∀e∈V.toList,e.born∈dz):pre.Nodup/\∀b,b∈pre↔b∈d:=by refine⟨f.1,λb=>⟨λa=>(bm.mem b).2 (f.2.1 b a),λa=>?_⟩⟩;obtain⟨e,g,rfl⟩:=g4.1 ((bm.mem b).1 a);exact(f.2.2 e g).1 (i e g)
end
def yx{b}:∀a,a<1->(0::b)[a]?=h a:=λa d=>by simp_all
abbrev xM(a:X):M:=.fn (.func 227) [] [.R [.val a]]
def Wp(O):Y q 151 [s0 O] [] (ay (xM O)) []:=by refine Y.ab func151 rfl λb=>?_;refine g.aN b7 df a_.nil [901] 100 a B ?_;refine g.freeze 1 0 a a a ?_;exact g.aN b7 df a_.nil [] 100 a B (g.ao a)
set_option maxRecDepth 20000 in
def Wq{ac:Type}{O}{d}{ba}{V}{t}(k:oX O d ba V t){f}{e}{u}(s w:ac->aq)(x:m Int->ac->Prop)(o:ac)(S:x [] o)(aJ:∀j,s j≠.bn/\w j≠.bn)(i:∀pre b j K,b∉pre->pre.Nodup->(∀bv∈pre++[b],bv∈d)->x pre j->iQ (ι:={p:ac // x (pre++[b]) p}) q 3 [Q b] [.K (oW O ba V t),s j,w j,.loop f e u,.K K] l (λp=>[.K (oW O ba V t),s p.1,w p.1,.loop f e u,.K K])):
  bl (ι:={C:ac×m Int×Array Nat // (C.2.1.Nodup/\∀J,J∈C.2.1↔J∈d)/\x C.2.1 C.1}) q 227 [.n (.Q (.aY 3)),ay (.R [.val O])] [.K (oW O ba V t),s o,w o,.loop f e u] (λ_=>.S []) (λz=>[.K (oW O ba V t),s z.1.1,w z.1.1,.loop f e u,.K (k4 ba t z.1.2.2)]):=by
 obtain rfl:=k.cn;have F:uu (oW (.map (h ba)) ba V t) ba V t:=λY U W=>by rw[W.2];simp
 refine bl.bO func227 rfl rfl rfl (g.aO ?_);refine g.aN b7 df a_.nil [] 100 a B (g.range (qH:=0) (ba:=ba) a a a a underlying138 (bY.j5 a) a F ?_);refine g.aN b7 df a_.nil [] 100 a B ?_;show b1 q _ (.loop _) _ _ _;refine b1.loop (br:=ac×m Int×Array Nat) (λb=>ux V b.2.1 b.2.2/\x b.2.1 b.1) (λ_=>[(0,.n (.Q (.aY 3))),(5,.n (.Q (.aY 4)))]) (λb=>[.K (oW (.map (h ba)) ba V t),s b.1,w b.1,.loop f e u,.K (k4 ba t b.2.2)]) (λb=>c V.toList-c b.2.1) (o,[],#[]) ⟨⟨List.nodup_nil,by simp,by simp⟩,S⟩ (eu a D) a ?_;rintro⟨j,pre,dz⟩ ⟨I,N⟩;refine g.aO ?_;refine g.aN b7 df a_.nil [] 100 a B (g.next (qH:=0) (ks:=4) (ba:=ba) (t:=t) (dz:=dz) (V:=V) a a a a a a a a F k.a2 (λap r=>⟨by rw[(k.cw ap r).1];rfl,by rw[(k.cw ap r).2.2];rfl⟩) λz=>?_);cases z with
 |over E=>
  refine g.aN b7 df a_.nil [-7] 100 a D (g.fH a a ?_);exact⟨⟨(j,pre,dz),k.over I E,N⟩,.inr a,a,qK (bU:=.K _) D (qK (aJ j).1 (qK (aJ j).2 a)),[],.S [],[],a,a,a,B⟩
 |Q ap r G=>
  refine g.aN b7 df a_.nil [7] 100 a D ?_;obtain⟨k1,R,M⟩:=k.cw ap r;obtain⟨A,T⟩:=k.step I r G;refine g.entry (qH:=0) (ks:=4) (ba:=ba) (t:=t) (dz:=dz) (V:=V) (ap:=ap) (bv:=.S [.Q (.c (.int .i64 (i_ ap))),.Q .any]) a a a a a a a F k.a2 r (λX=>⟨[ap.key,ap.val],a,?_,by rw[M];rfl,B⟩) ?_
  .rw[k1];exact Rd.int R
  refine g.aN b7 df a_.nil [] 100 a B (g.yield (i pre (i_ ap) j _ T I.1 (λbv y=>(k.mem bv).2 (A.2.1 bv y)) N) a a a a a a λp=>?_);refine g.aN b7 df a_.nil [-13] 100 a D ⟨(p.1,pre++[i_ ap],dz.push ap.born),⟨A,p.2⟩,?_,eu a D,a⟩;have:=pt _ _ A.1 A.2.1;simp at this⊢;omega
abbrev AJ(d:m Int):Type:={b:m Int // b.Nodup/\∀a,a∈b↔a∈d}
set_option maxRecDepth 20000 in
def Us(O)(d)(J:c d<=4000000):
  bl (ι:=AJ d) q 276 [ay (.B l 0 0 λ_=>[]),ay (xM O)] [jp O d] (λb=>cF 1 (.B (c b.1) 1 0 (c b.1))) (λb=>[jp O d,jo (c b.1) b.1]):=by
 refine bl.e7 func276 rfl rfl rfl λI=>?_;refine dg.seq (b1.bw (g.aO ?_));refine aQ a B (dg.seq (dg.seq (b1.bw (g.aO ?_))));refine g.gx 0 (λb:{b:Nat×Array MapEntry×Nat // oX O d b.1 b.2.1 b.2.2}=>oW O b.1.1 b.1.2.1 b.1.2.2) a (λz e f=>jj.j3 f) ?_;rintro⟨⟨K,w,E⟩,b⟩;refine g.ep 1 0 3 1 (az.fn []) a a ?_;refine aQ a B (dg.block ?_);refine dg.rangeFunc (o9:=fg [.R [.val O]]) (bY.callee a) (Wq (ac:=m Int) b (λo=>.cells 31 [.O 2 (.B (c o) 1 0 (c o))]) (λo=>jo (c o) o) (λpre o=>o=pre) [] a (λo=>⟨by simp,by simp⟩) ?_) (λp=>⟨a,by simp⟩) λp=>⟨.normal,a,?_⟩
 .rintro pre i o r j A s rfl;have F:c o+1<=4000000:=by have:=pt (o++[i]) d N s;simp at this;omega
  refine iQ.intro (u:=n) a a a a (g.aO ?_);refine aQ a B ⟨a,a,g.aO ?_⟩;refine aQ a (by simp[a7,show dZ.bytes=8 from a];omega) ?_;have k:=az.a0 o i;refine⟨a,a,⟨o++[i],a⟩,jX a ?_⟩;simp only[U.Y,U,c9,fT,a',a9];and_intros<;>first|exact k|rfl|exact bs.same
 show dg q _ _ _ _ _;obtain⟨⟨o,pre,y⟩,t,x⟩:=p;obtain rfl:o=pre:=x;refine b1.bw (g.aO ?_);refine g.gx (ι:=Unit) 0 (λ_=>jj O d) a (λz e f=>⟨(),b.cT f⟩) λ_=>?_;refine aQ a B (g.bV (λk C D b=>⟨⟨o,t⟩,b⟩) (g.aI [0,2] a ?_ yx));simp
def UV(O)(d)(e:c d<=4000000):
  bl (ι:=AJ d) q 226 [ay (xM O)] [jp O d] (λb=>cF 1 (.B (c b.1) 1 0 (c b.1))) (λb=>[jp O d,jo (c b.1) b.1]):=by refine bl.cb func226 rfl rfl rfl λf=>?_;refine aQ a B (g.bI (Us O d e) [0] a a a a D a a a bk a bk a λb=>?_);refine aQ a B (g.bu b (g.aI [0,1] a ?_ yx));simp
def ab7{d aM}(j:aM.Pairwise (· < ·))(m:∀f,f∈aM↔f∈d)(a:AJ d):j3 a.1=aM:=by
 have g:(j3 a.1).Pairwise λb e=>b<=e:=(List.pairwise_mergeSort (λb e o g i=>by grind) (λb e=>by grind) a.1).imp λk=>by grind
 have i:(j3 a.1).Nodup:=(zF _).nodup_iff.2 a.2.1;refine Bh ?_ j λf=>by rw[(zF _).mem_iff,a.2.2,m]
 exact(g.and i).imp λk=>by omega
def Yf(O)(b aM:m Int)(o:c b<=4000000)(p:aM.Pairwise (· < ·))(k:∀e,e∈aM↔e∈b):
  Y q 150 [ay (xM O)] [jp O b] (cF 1 (.B (c aM) 1 0 (c aM))) [jp O b,jo (c aM) aM]:=by
 refine Y.ab func150 rfl λs=>?_;refine aQ a B (g.a1 (UV O b o) [0] a bk λd=>?_);have j:=ab7 p k d;have t:=pt d.1 b d.2.1 λe r=>(d.2.2 e).1 r;have i:=CM (q:=q) d.1 w;have f:c d.1=c aM:=by rw[<-j,qT]
 rw[j,f]at i;rw[f];refine aQ a B (g.aA i [1] a (aQ a B (g.aI [0,1] a ?_ yx)));simp
def WX(O)(d aM)(f:c d<=4000000)(e:aM.Pairwise (· < ·))(i:∀b,b∈aM↔b∈d):
  Y q 105 [s0 O] [jp O d] (az.B aM) [jp O d]:=by
 have j:Y q 105 [s0 O] [jp O d] (cF 1 (.B (c aM) 1 0 (c aM))) ([jp O d]++[jo (c aM) aM]):=by refine Y.ab func105 rfl λk=>?_;refine g.aN b7 df a_.nil [] 100 a B (g.aA (Wp O) [] a (g.aN b7 df a_.nil [] 100 a B (g.aA (Yf O d aM f e i) [0] a (g.aN b7 df a_.nil [] 100 a B (g.aI [0,1] a ?_ yx)))));simp
 exact Y.bK j a D a (bC _)
abbrev jN(b:Nat)(a:m Int):aq:=.q 3 1 b (az.fn a)
end
section
variable {q:af T}
abbrev Ss:={a:m Int // c a<=5}
def Wm(A)(e:Nat->Int)(u:Bytes e)(f:Nat)(p:f<=500000)(j:A<=1048576):
  bl (ι:=Ss) q 42 [aH 0 0] [e6 A e f] (λx=>az.B x.1) (λ_=>[e6 A e (f+5:Nat)]):=by
 refine bl.cb func42 rfl rfl rfl λF=>?_;refine a3 [902] a B (g.bE 3 3 1 a a ?_);refine aQ a B (g.aB 2 (λb:Nat×m Int=>1<=b.1/\b.1<=6/\c b.2+1<=b.1) (λb=>[(0,aH 0 0),(3,.n (.Q (.x 1 1 (c b.2) (az.fn b.2)))),(4,Q b.1)]) (λb=>[e6 A e (f+(b.1-1):Nat),.x 3 1 (c b.2) (az.fn b.2)]) (λb=>6-b.1) (1,[]) a D a D a ⟨by decide,by decide,by decide⟩ ?_);rintro⟨d,i⟩ ⟨r,o,s⟩;simp only at r o s;by_cases E:d<=5
 .refine a3 [7] a bw (g.a1 (gC A e u (f+(d-1)) 2 w j w) [0] a bk ?_);rintro⟨y,z,C⟩;by_cases k:y=0
  .have t:=az.a0 i (d:Int);refine a3 [12] a ?_ (g.aw (d+1,i++[(d:Int)]) a ?_ ?_ ⟨by omega,by omega,by grind⟩ w)
   .simp only[U,k,a7,show dZ.bytes=8 from a,gk,a',a9];exact fC
   .exact PK
   exact PK
  refine a3 [-12] a bE (g.aw (d+1,i) a D ?_ ⟨by omega,by omega,by exact bw⟩ w);exact bw
 obtain rfl:d=6:=w;refine a3 [-7] a D (g.az ?_);refine aQ a B (g.bu ⟨i,by omega⟩ (g.aI [0] a ?_ kQ));simp
def z0:m bD:=[[122,122],[98,46],[104,101,108,108,111,46,46,46]]
def aeD:bs 3 (λa=>([[.T [122,122]],[.T [98,46]],[.T [104,101,108,108,111,46,46,46]]]:m (m M)).getD a []) (bS.fn z0):=by intro a b;have:a=0∨a=1∨a=2:=w;rcases this with rfl|rfl|rfl<;>rfl
set_option maxRecDepth 20000 in
def WK(A)(b:Nat->Int)(f:Bytes b)(d:Nat)(m:d<=500000)(e:A<=1048576):
  bl (ι:=dS) q 41 [aH 0 0] [e6 A b d] (λo=>eI o) (λ_=>[e6 A b (d+4:Nat)]):=by
 refine bl.bG bc func41 rfl rfl rfl λr=>?_;refine aQ a B (g.a1 (gC A b f d 5 w e w) [0] a bk ?_);rintro⟨i,_⟩;refine aQ a B (g.a1 (gC A b f (d+1) 5 w e w) [0] a bk ?_);rintro⟨k,_⟩;refine aQ a B (g.a1 (gC A b f (d+1+1) 3 w e w) [0] a bk ?_);rintro⟨j,_⟩;refine aQ a B (g.bI (Xo A b f (d+1+1+1) w e z0 ca).tocE [0] a a a a ?_ a a a bk a bk a ?_)
 .simp only[U.Y,U,a',a9];exact⟨a,aeD⟩
 rintro -;generalize z0.getD (qN A b (d+1+1+1) (c z0)).toNat []=p;refine aQ a B (g.bf (i,k,j,p) [0] ?_ hl);simp
end
structure sw(p:dI):Prop extends k8 p.1 where
 gp:c p.2.1<=4000000
 fK:c p.2.2<=4000000
def A8{d}(a:e<c d):c (d9 (d.getD e (0,[])).2)<=c (g7 d):=by have:=GA d (e+1);grind[A9]
def acZ(f)(p):hs f p=(h3 f p.1&&(aA (c p.1.2.1)).all (λa=>!(ez (p.1.2.1.getD a (0,[]))).any λb=>!p.2.1.contains b)&&(aA (c p.2.2)).all (nF p.1.1 p.2.2)):=by rw[hs,aan];cases h3 f p.1<;>simp
def Yu(f)(p)(t:sw p):Y (af.aC T) 52 [Q f,gB p] [] (bg (hs f p)) []:=by
 refine Y.ab func52 rfl λV=>?_;have j:a_ (af.aC T) [(85,xR)]:=.cons EX .nil;have bv:=a1.l p.1.1;have aa:=bd.l p.1.2.1;have eJ:=a4.l p.1.2.2;have ba:=t.tok8;rw[acZ];cases b3:h3 f p.1
 .exact g.aN b7 df j [14] 100 a R6 (g.ao a)
 refine g.aN b7 df j [-14] 100 a R6 ?_;rw[fV];refine g.hN a a a λo=>?_;refine g.aN b7 df j [] 100 a B (g.aA (IU o [] p.2.1) [1] a ?_);rw[n7];refine g.aN b7 df j [905] 100 a B (g.freeze 5 2 a a a ?_);refine g.aN b7 df j [] 100 a B (g.aB 3 (λe=>e<=c p.1.2.1/\∀k,k<e->(!(ez (p.1.2.1.getD k (0,[]))).any λi=>!p.2.1.contains i)=l) (λe:Nat=>[(0,Q f),(3,aH 0 0),(5,ay (.R [.val o])),(22,bd.B p.1.2.1),(23,Q (c p.1.2.1)),(24,Q e)]) (λ_=>[gv p,jp o p.2.1,.N]) (λe=>c p.1.2.1-e) 0 a D a D a ⟨by omega,by omega⟩ ?_);have H:=t.eJ;rintro e ⟨u,q⟩;by_cases s:e<c p.1.2.1
 .have b:p.1.2.1.getD (e:Int).toNat bd.E=p.1.2.1.getD e (0,[]):=N;have A:=t.ds _ (oo (O:=(0,[])) s);have R:=A8 s;have I:=t.dv;have L:=lM (S:=λk=>!(ez (p.1.2.1.getD k (0,[]))).any λi=>!p.2.1.contains i) s;have z:=jn (S:=λk=>!(ez (p.1.2.1.getD k (0,[]))).any λi=>!p.2.1.contains i) (e:=e);generalize p.1.2.1.getD e (0,[])=m at *;refine g.aN b7 df j [25] 100 a bM ?_;rw[b];refine g.aA (CI m A.1 w) [] a (g.aN b7 df j [] 100 a B (g.aA (VG (ez m) 89 [.val o] (jj o p.2.1) (λi=>!p.2.1.contains i) λi _=>Xm o p.2.1 i) [1] a ?_));cases G:(ez m).any λi=>!p.2.1.contains i with
  |true=>
   refine g.aN b7 df j [] 100 a B (g.aS (bW.zero a ?_));exact bE
  |false=>
   refine g.aN b7 df j [] 100 a ?_ (g.aw (e+1) a D D ⟨s,z q N⟩ w);exact bE
 obtain rfl:e=c p.1.2.1:=w;rw[gd.2 q,fV];refine g.aN b7 df j [-25] 100 a D (g.az ?_);refine g.aN b7 df j [] 100 a B ?_;have E:=t.fK;refine g.aB 3 (λe=>e<=c p.2.2/\∀k,k<e->nF p.1.1 p.2.2 k=l) (λe:Nat=>[(0,Q f),(3,aH 0 0),(34,az.B p.2.2),(35,Q (c p.2.2)),(36,Q e)]) (λ_=>[gv p,jp o p.2.1,.N]) (λe=>c p.2.2-e) 0 a D a D a ⟨by omega,by omega⟩ ?_;rintro e ⟨u,q⟩;by_cases s:e<c p.2.2
 .have b:p.2.2.getD (e:Int).toNat az.E=p.2.2.getD e 0:=N;have C:p.2.2.getD (e-1) az.E=p.2.2.getD (e-1) 0:=rfl;have y:nF p.1.1 p.2.2 e=((p.1.1.any λS=>S.1==p.2.2.getD e 0)&&kl (λm=>m) 0 p.2.2 e):=rfl;have F:=qc (al:=λm:Int=>m) (O:=0) (d:=p.2.2) (e:=e);generalize p.2.2.getD e 0=i at *;generalize p.2.2.getD (e-1) 0=x at *;have iF:a_ (af.aC T) [(90,eO [a1.B p.1.1,ay (.fn (.func 91) [] [.R [.int .i64 i]])] (bg (p.1.1.any λS=>S.1==i)))]:=.cons (e8 (VH p.1.1 91 [.int .i64 i] (λS=>S.1==i) λS _=>Wg S i)) .nil;refine g.aN b7 df j [37,914] 100 a bM ?_;rw[b];refine g.freeze 9 3 a a a ?_;have fin:p.1.1.any (λS=>S.1==i)=l->kl (λm=>m) 0 p.2.2 e=l->nF p.1.1 p.2.2 e=l:=λG J=>by grind
  by_cases M:e=0
  .subst M;cases r:p.1.1.any (λS=>S.1==i)with
   |true=>
    refine g.aN b7 df iF [-43,-60] 100 a ?_ (g.aw 1 a D D ⟨s,jn q (fin r a)⟩ w);simp[a7,r,c5.B]
   |false=>
    refine g.aN b7 df iF [-43,60] 100 a bE (g.aS (bW.zero a ?_));exact j9
  by_cases K:x<i
  rotate_left
  .refine g.aN b7 df iF [43,51,60] 100 a ?_ (g.aS (bW.zero a ?_))
   .simp[-aj,C,a7];omega
   exact j9
  cases r:p.1.1.any (λS=>S.1==i)with
  |true=>
   refine g.aN b7 df iF [43,-51,-60] 100 a ?_ (g.aw (e+1) a D D ⟨s,jn q (fin r N)⟩ w);exact O9
  |false=>
   refine g.aN b7 df iF [43,-51,60] 100 a O9 (g.aS (bW.zero a ?_));exact j9
 obtain rfl:e=c p.2.2:=w;rw[gd.2 q];refine g.aN b7 df j [-37] 100 a D (g.az ?_);exact g.aN b7 df j [] 100 a B (g.ao a)
abbrev xS:bH:=ej c7 (AL CW) (λb a=>bg (hs b a)) λ_ a=>[sw a]
def EY:bK (af.aC T) 52 xS:=.bk λb d a=>Yu b d a
section
variable {q:af T}
inductive Sr (ι:Type)
 |cy
 |h1 (bm:ι)
 |iV (bm:ι)
 |done (bm:ι) (aa:X)
abbrev Eh{k1}(b:Nat)(a:Nat->Int)(e:Int)(f:Bool):Sr (Ge k1)->aq
 |.cy=>match f with
  |false=>e6 b a e
  |true=>e6 b a (e+1)
 |.h1 d|.iV d|.done d _=>e6 b a d.1.2
section
variable {i:Nat->Int}{bA:Int}{k1:Nat}{p:dI}{S:Ge k1->Bool}
end
end
abbrev aeB(a:fR):aq:=.cells 38 (h5 a)
def aeG(p):jg p=(hs p.1 p.2.1&&decide (c p.2.2.2.1=2)&&decide (c p.2.2.2.2=2)&&(aA 2).all (wy p)):=by unfold jg;cases hs p.1 p.2.1<;>cases decide (c p.2.2.2.1=2)<;>cases decide (c p.2.2.2.2=2)<;>simp
def YS(p)(A:sw p.2.1):Y (af.aC T) 26 [gT p] [] (bg (jg p)) []:=by
 refine Y.ab func26 rfl λE=>?_;have e:a_ (af.aC T) [(52,xS)]:=.cons EY .nil;have C:=a1.l p.2.1.1.1;have j:=bd.l p.2.1.1.2.1;have f:=a4.l p.2.1.1.2.2;have d:=az.l p.2.1.2.1;have al:=az.l p.2.1.2.2;rw[aeG];cases b3:hs p.1 p.2.1
 .exact g.aN b7 df e [11,17,22] 100 a (by simp[b3,C,j,f,d,al,a1.J,bd.J,a4.J,az.J,A]) (g.ao a)
 by_cases o:c p.2.2.2.1=2
 rotate_left
 .exact g.aN b7 df e [-11,17,22] 100 a FJ (g.ao a (by simp[n4 o]))
 by_cases m:c p.2.2.2.2=2
 rotate_left
 .exact g.aN b7 df e [-11,-17,22] 100 a FJ (g.ao a (by simp[n4 m]))
 refine g.aN b7 df e [-11,-17,-22] 100 a FJ ?_;rw[fA o,fA m,fV,fV,fV];refine g.aB 1 (λb=>b<=2/\∀k,k<b->wy p k=l) (λb:Nat=>[(1,aH 0 0),(24,a4.B p.2.2.2.1),(25,Q (c p.2.2.2.1)),(26,Q b)]) (λ_=>[aeB p]) (λb=>2-b) 0 a D a D a ⟨by omega,by omega⟩ ?_;rintro b ⟨y,i⟩;by_cases s:b<2
 .have O:p.2.2.2.1.getD b a4.E=qC p b:=rfl;have t:p.2.2.2.2.getD b az.E=rM p b:=rfl;have z:wy p b=(decide (0<=(qC p b).1/\(qC p b).1<=9)&&decide (0<=(qC p b).2)&&decide (0<=rM p b/\rM p b<=2)):=rfl;by_cases q:0<=(qC p b).1
  rotate_left
  .refine g.aN b7 df e [27,34,39,44,52,59] 100 a FT (g.aS (bW.zero a ?_));exact j9
  by_cases r:(qC p b).1<=9
  rotate_left
  .refine g.aN b7 df e [27,-34,39,44,52,59] 100 a FT (g.aS (bW.zero a ?_));exact j9
  by_cases u:0<=(qC p b).2
  rotate_left
  .refine g.aN b7 df e [27,-34,-39,44,52,59] 100 a FT (g.aS (bW.zero a ?_));exact j9
  by_cases x:0<=rM p b
  rotate_left
  .refine g.aN b7 df e [27,-34,-39,-44,52,59] 100 a RK (g.aS (bW.zero a ?_));exact j9
  by_cases F:rM p b<=2
  rotate_left
  .refine g.aN b7 df e [27,-34,-39,-44,-52,59] 100 a RK (g.aS (bW.zero a ?_));exact j9
  refine g.aN b7 df e [27,-34,-39,-44,-52,-59] 100 a ?_ (g.aw (b+1) a D D ⟨s,jn i N⟩ w);simp[-aj,O,t,a7];omega
 obtain rfl:b=2:=w;rw[gd.2 i];refine g.aN b7 df e [-27] 100 a bM (g.az ?_);exact g.aN b7 df e [] 100 a B (g.ao a)
section
variable {q:af T}[q.b1]
abbrev dR:=Int×Int×m cJ×dS×m Int
abbrev IR(a:dR):m R:=[.c (.int .i64 a.1),.c (.int .i64 a.2.1),cM bu a.2.2.1,.c (.int .i64 a.2.2.2.1.1),.c (.int .i64 a.2.2.2.1.2.1),.c (.int .i64 a.2.2.2.1.2.2.1),.c (.T a.2.2.2.1.2.2.2),cM az a.2.2.2.2]
abbrev mx(a:dR):y:=.n (.agg (IR a))
abbrev ae3:m R:=[.c (.int .i64 0),.c (.int .i64 0),cH,.c (.int .i64 0),.c (.int .i64 0),.c (.int .i64 0),.c (.T []),cH]
abbrev ae4:aq:=.cells 47 ae3
abbrev j6:dS:=(0,0,0,[])
structure Sm(f:Nat)(bm:dR×Nat):Prop where
 dU:c bm.1.2.2.1<=7
 ki:c bm.1.2.2.2.2<=5
 jq:f<=bm.2
 i_:bm.2<=f+500
set_option maxRecDepth 20000 in
def Vp(A)(b:Nat->Int)(i:Bytes b)(f)(u:f<=40000)(e:A<=1048576):
  bl (ι:={k:dR×Nat // Sm f k}) q 18 [aH 0 0] [e6 A b f] (λk=>mx k.1.1) (λk=>[e6 A b k.1.2]):=by
 refine bl.bG bc func18 rfl rfl rfl λS=>?_;refine aQ a B (g.a1 (gC A b i f 9 w e w) [0] a bk ?_);rintro⟨d,E,F⟩;by_cases T:d<=3
 .apply g.cj [(0,aH 0 0),(2,aH 1 0)] [e6 A b (f+1:Nat),ae4]
  .intro dx;have:d=0∨d=1∨d=2∨d=3:=w;rcases this with rfl|rfl|rfl|rfl
   .exact a3 [6,906] a D kE
   .exact a3 [-6,7,906] a D kE
   .exact a3 [-6,-7,8,906] a D kE
   exact a3 [-6,-7,-8,9,906] a D kE
  refine aQ a B (g.a1 (gC A b i (f+1) 2 w e w) [0] a bk ?_);rintro⟨j,m,o⟩;refine aQ a wP (g.a1 (YC A b i (f+1+1) w e) [0] a bk ?_);rintro⟨C,s,K,k1,t,J,y,Q⟩;simp only;refine aQ a B (g.bf ⟨((1,1+j,C,j6,[]),k1),J,by simp,by grind,by grind⟩ [0] ?_ hl);simp
 by_cases N:d=4
 .subst N;refine a3 [-6,-7,-8,-9,17] a D (g.a1 (gC A b i (f+1) 4 w e w) [0] a bk ?_);rintro⟨j,m,o⟩;refine aQ a B (g.bf ⟨((2,j,[],j6,[]),f+1+1),by simp,by simp,by grind,by grind⟩ [0] ?_ hl);simp
 by_cases O:d=5
 .subst O;refine a3 [-6,-7,-8,-9,-17,22] a D (g.a1 (gC A b i (f+1) 2 w e w) [0] a bk ?_);rintro⟨j,m,o⟩;by_cases r:j=0
  .refine a3 [25] a (by simp[r]) (g.bf ⟨((3,0,[],j6,[]),f+1+1),by simp,by simp,by grind,by grind⟩ [0] ?_ hl);simp
  refine a3 [-25] a (by simp[r]) (g.a1 (WK A b i (f+1+1) w e) [0] a bk ?_);intro x;refine aQ a B (g.bf ⟨((3,0,[],x,[]),f+1+1+4),by simp,by simp,by grind,by grind⟩ [0] ?_ hl);simp
 by_cases I:d=6
 .subst I;refine a3 [-6,-7,-8,-9,-17,-22,31] a D (g.a1 (Wm A b i (f+1) w e) [0] a bk ?_);rintro⟨dc,z⟩;refine aQ a B (g.bf ⟨((4,0,[],j6,dc),f+1+5),by simp,z,by grind,by grind⟩ [0] ?_ hl);simp
 by_cases R:d=7
 .subst R;refine a3 [-6,-7,-8,-9,-17,-22,-31,36] a D (g.bf ⟨((5,0,[],j6,[]),f+1),by simp,by simp,by grind,by grind⟩ [0] ?_ hl);simp
 obtain rfl:d=8:=w;refine a3 [-6,-7,-8,-9,-17,-22,-31,-36] a D (g.a1 (gC A b i (f+1) 8 w e w) [0] a bk ?_);rintro⟨j,m,o⟩;refine aQ a B (g.a1 (gC A b i (f+1+1) 4 w e w) [0] a bk ?_);rintro⟨p,M,nO⟩;refine aQ a B (g.bf ⟨((j,p,[],j6,[]),f+1+1+1),by simp,by simp,by grind,by grind⟩ [0] ?_ hl);simp
abbrev g0(d:Int)(e:dI)(a:dS)(b:Nat):m R:=.c (.int .i64 d)::(wo e++[.c (.int .i64 a.1),.c (.int .i64 a.2.1),.c (.int .i64 a.2.2.1),.c (.T a.2.2.2),.O b (.B 2 2 0 2),.O (b+1) (.B 2 1 0 2)])
abbrev lu(dc:m (Int×Int))(a:m Int):m aq:=[.q 69 2 2 (a4.fn dc),.q 3 1 2 (az.fn a)]
abbrev yR:m (Int×Int):=[(0,0),(0,0)]
abbrev ys:m Int:=[0,0]
omit [q.b1]in
def JP(f)(b3:cm f=l):Y q 20 [Q f] [] (.S [.agg (g0 f hu j6 0),.Q (.c (.bool l))]) (lu yR ys):=by
 refine Y.bg bc func20 rfl rfl rfl λj=>?_;have b:a_ q [(43,rD)]:=.cons tX .nil;refine a8 b [-7,903] a mc (g.region ?_);refine tJ b [] 3 a B (g.gM bc a a a a a a ?_);refine g.gM bc a a a a a a ?_;refine b9 b a B (g.bc [.cells 38 (g0 f hu j6 1),.q 69 2 2 (a4.fn yR),.q 3 1 2 (az.fn ys),.cells 38 (g0 f hu j6 1)] a ?_ ?_)
 .simp only[U.Y,U,a',a9];and_intros<;>first|rfl|exact bs.nil|(intro i d;match i,d with|0,_=>rfl|1,_=>rfl)
 refine g.b9 () [1,2] ?_ (λk e=>absurd e D);simp
def EC(d:Int)(b:cb)(a:Int)(e:m cJ):cb×Bool:=
 if h3 d b=l/\(1<=a/\a<=2)/\dO e=l then(if fB d b e=l then b else ey d b a e,!fB d b e)else(([],[],[]),v)
end
section
variable {q:af T}
def yw:∀a,a<2->([0,1]:m Nat)[a]?=h a:=λa b=>by
 match a,b with
 |0,_=>rfl
 |1,_=>rfl
def gW(a:Int)(e:cb)(d:dS)(b:m (Int×Int)×m Int):m (Int×Int)×m Int:=
 if b.2.getD (a-1).toNat 0=0 then(b.1.set (a-1).toNat (kU (b.1.getD (a-1).toNat (0,0)) (oy e d).2.2).1,b.2.set (a-1).toNat (kU (b.1.getD (a-1).toNat (0,0)) (oy e d).2.2).2)else b
def tr{bT}{b}{d}{bm}(a:c bm.1=2)(e:c bm.2=2):(gW bT b d bm).1.length=2/\(gW bT b d bm).2.length=2:=by unfold gW;split<;>simp[a,e]
abbrev N8:aq:=.cells 69 [.c (.int .i64 0),.c (.int .i64 0)]
abbrev DM(a:Int×Int):aq:=.cells 69 [.c (.int .i64 a.1),.c (.int .i64 a.2)]
abbrev ae5:m R:=[.c (.int .i64 0),cH,cH,cH,cH,cH,.c (.int .i64 0),.c (.int .i64 0),.c (.int .i64 0),.c (.T []),cH,cH]
abbrev fP:aq:=.cells 38 ae5
def Iz(b:Int)(e:dI)(d:dS)(dc:m (Int×Int))(a:m Int)(f:Int×Int)(_ g i:Bool):m aq:=
 match g,i with
 |false,_=>lu dc a++[.cells 38 (g0 b e d 0),fP]
 |true,v=>lu dc a++[.cells 38 (g0 b e d 0),fP,N8]
 |true,l=>lu dc a++[.cells 38 (g0 b e d 0),fP,DM f]
abbrev aeS(i:dI)(f:dS)(a:Int)(g:Int×Int)(d:cb)(b:(Int×Int)×Int)(e:Nat):y:=
 [aH 2 10,cF 0 (.B 2 2 0 2),Q a,Q (a-1),cF 0 (.bx 2 2 (0+(a-1).toNat) 0),qm g,aH 2 1,aH 2 1,b0 i.1,aH 2 6,eI f,b0 d,a4.B d.2.2,pK b,pK b,qm b.1,Q b.2,aH 4 0,.any,Q b.2].getD e .any
set_option maxRecDepth 20000 in
def CF(f)(p)(d)(b)(dc)(C)(u:rg p.1)(M:1<=b/\b<=2)(N:c dc=2)(J:c C=2):
  Y q 47 [.n (.agg (g0 f p d 0)),Q b] (lu dc C) (.n (.agg (g0 f p d 0))) (lu (gW b p.1 d (dc,C)).1 (gW b p.1 d (dc,C)).2):=by
 refine Y.bg bc func47 rfl rfl rfl λI=>?_;have R:=(zH (q:=q) u d).gG.aM;have aJ:=(zH (q:=q) u d).dw;unfold gW;generalize oy p.1 d=e at *;have K:(b-1).toNat<2:=w;have A:(0:Nat)+(b-1).toNat<2:=w;have E:dc.getD (b-1).toNat (0,0)=dc.getD (0+(b-1).toNat) a4.E:=q7;have S:(dc.getD (0+(b-1).toNat) a4.E)=(dc.getD (0+(b-1).toNat) a4.E):=rfl;rw[E];have F:=XZ (q:=q) (dc.getD (0+(b-1).toNat) a4.E) e.2.2 R;generalize kU (dc.getD (0+(b-1).toNat) a4.E) e.2.2=j at *;have i:a_ q [(76,eO [b0 p.1,eI d] (b0 e)),(75,eO [qm (dc.getD (0+(b-1).toNat) a4.E),a4.B e.2.2] (pK j))]:=.cons (e8 aJ) (.cons (e8 F) .nil);have z:a7 .i64 (b-1):=nS;have cy:0<=b-1/\b-1<((2:Nat):Int):=w;have D:2=2/\0+(b-1).toNat<2:=⟨rfl,A⟩;refine bf i [901] a B ?_;refine g.ca b7 (aeS p d b (dc.getD (0+(b-1).toNat) a4.E) e j) (ln (Iz f p d dc C j.1) 19 17 18) a a a a
  ⟨.ay,
  .ay,
  .ay,
  .cN bc i (cy:=by exact z),
  .cN bc i (cy:=by exact cy),
  .cN bc i (cy:=by exact D),
  .ay,
  .ay,
  .ay,
  .ay,
  .ay,
  .cN bc i (cy:=by exact a),
  .ay,
  .cN bc i (cy:=by exact a),
  .ay,
  .ay,
  .ay,
  cg.d' a a a a a (λx=>by cases x<;>exact eh (bh:=[]) bc i (ar:=h _) a B),
  cg.ea a a a a a (λx=>by cases x<;>exact eh (bh:=[]) bc i (ar:=h _) a B),
  cg.d_ a a a a (λt O=>by cases t<;>cases O<;>exact aY.w),B⟩ ?_
 intro y r;show g q _ _ _ _ _ (Iz f p d dc C j.1 (y 19) (y 17) (y 18));rw[r 19 ca,r 17 ca,r 18 ca];have s:C.getD (0+(b-1).toNat) az.E=C.getD (b-1).toNat 0:=q7;by_cases o:C.getD (b-1).toNat 0=0
 .rw[bo o];refine bf i [30] a ?_ ?_
  .simp only[U,s,o,a7,gk,a',a9];omega
  have k:=a4.cV dc (0+(b-1).toNat) j.1 2 w;have m:=az.cV C (0+(b-1).toNat) j.2 2 w;rw[cZ]at k m;refine g.bc [.q 69 2 2 (a4.fn (dc.set (b-1).toNat j.1)),.q 3 1 2 (az.fn (C.set (b-1).toNat j.2)),.cells 38 (g0 f p d 0),.cells 38 (g0 f p d 0),DM j.1] a ?_ ?_
  .simp only[U.Y,U,cZ,a',a9];and_intros<;>first|exact bs.same|exact k|exact m|rfl
  exact Qi
 rw[bj o];refine bf i [-30] a ?_ ?_
 .simp only[U,s,a7,eN,d',a',a9];and_intros<;>first|exact o|omega
 exact Qi
abbrev fy:=dI×dS×m (Int×Int)×m Int
def mS(d:Int)(b:fy)(a:Int)(e:m cJ):fy×Bool:=
 if(gW a b.1.1 b.2.1 b.2.2).2.getD (a-1).toNat 0=0/\b.2.1.1=0 then
  (if(fJ d b.1 a e).2=l then(((fJ d b.1 a e).1,b.2.1,gW a (fJ d b.1 a e).1.1 b.2.1 (gW a b.1.1 b.2.1 b.2.2)),l)else((b.1,b.2.1,gW a b.1.1 b.2.1 b.2.2),v))
 else((b.1,b.2.1,gW a b.1.1 b.2.1 b.2.2),v)
def cf(d:Int)(a:fy)(b:dR):fy×Bool:=
 if b.1=1 then(if(1<=b.2.1/\b.2.1<=2)/\dO b.2.2.1=l then mS d a b.2.1 b.2.2.1 else(a,v))
 else if b.1=2 then(if 1<=b.2.1/\b.2.1<=2 then((a.1,a.2.1,gW b.2.1 a.1.1 a.2.1 a.2.2),l)else(a,v))
 else if b.1=3 then((a.1,b.2.2.2.1,a.2.2),l)
 else if b.1=4 then(if c a.1.2.2=0 then(((jP d a.1.1 b.2.2.2.2).1,a.2),l)else(a,v))
 else if b.1=5 then((hO a.1,a.2),oq a.1)
 else(a,v)
structure eM(j:Nat)(b:fy):Prop where
 a:fx (6000+240*j) b.1
 bj:c b.2.2.1=2
 b':c b.2.2.2=2
def Eo{p}{bT}{o}(e:fx j p)(d:(fJ f p bT o).2=l):fx (j+240) (fJ f p bT o).1/\(fJ f p bT o).1=oK f p bT o/\hs f p=l/\(1<=bT/\bT<=2)/\dO o=l/\fB f p.1 o=v:=by
 unfold fJ at d⊢;split at d
 .rename_i b;rw[bo b];simp only[qG,cp,bz]at b;split at d
  .cases d
  rename_i t;have t:fB f p.1 o=v:=by simpa using t
  rw[bj Ga];exact⟨e.cB b.2 b.1.2 t,a,b.1.1,b.1.2,b.2,t⟩
 cases d
def eM.cB{b}{bT}{o}(s:eM j b):eM (j+1) (mS f b bT o).1:=by
 have b3:=tr (bT:=bT) (b:=b.1.1) (d:=b.2.1) (bm:=b.2.2) s.bj s.b';unfold mS;split
 .split
  .rename_i i;have a:=tr (bT:=bT) (b:=(fJ f b.1 bT o).1.1) (d:=b.2.1) (bm:=gW bT b.1.1 b.2.1 b.2.2) b3.1 b3.2;exact⟨(Eo s.a i).1.mono w,a.1,a.2⟩
  exact FK
 exact FK
def eM.mono{j A}{b}(a:eM j b)(d:j<=A):eM A b:=⟨a.a.mono w,a.bj,a.b'⟩
def eM.do{b}{ap}(s:eM j b):eM (j+1) (cf f b ap).1:=by
 unfold cf;split
 .split
  .exact s.cB
  exact s.mono w
 split
 .split
  .have b3:=tr (bT:=ap.2.1) (b:=b.1.1) (d:=b.2.1) (bm:=b.2.2) s.bj s.b';exact FK
  exact s.mono w
 split
 .exact⟨s.a.mono w,s.bj,s.b'⟩
 split
 .split
  .exact⟨(fx.h' s.a.ba).mono w,s.bj,s.b'⟩
  exact s.mono w
 split
 .exact⟨(fx.step s.a).mono w,s.bj,s.b'⟩
 exact s.mono w
abbrev Cr(b:Int)(a:fy):y:=.n (.agg (g0 b a.1 a.2.1 0))
abbrev E0(d:Int)(a:fy)(b:Bool):y:=.S [.agg (g0 d a.1 a.2.1 0),.Q (.c (.bool b))]
abbrev hL(a:fy):m aq:=lu a.2.2.1 a.2.2.2
def XW(f)(b)(bT)(o)(j)(k:eM j b)(E:j<=1000)(u:1<=bT/\bT<=2):
  Y q 46 [Cr f b,Q bT,bu.B o] (hL b) (E0 f (mS f b bT o).1 (mS f b bT o).2) (hL (mS f b bT o).1):=by
 refine Y.bg bc func46 rfl rfl rfl λC=>?_;have x:=CF (q:=q) f b.1 b.2.1 bT b.2.2.1 b.2.2.2 k.a.ba.eD u k.bj k.b';have z:=Yx (q:=q) f b.1 bT o (k.a.cC w);have s:=tr (bT:=bT) (b:=b.1.1) (d:=b.2.1) (bm:=b.2.2) k.bj k.b';have y:=Eo (f:=f) (bT:=bT) (o:=o) k.a;unfold mS;rw[show((b.2.2.1,b.2.2.2):m (Int×Int)×m Int)=b.2.2 from a]at x;generalize gW bT b.1.1 b.2.1 b.2.2=e at *;have r:e.2.getD (0+(bT-1).toNat) az.E=e.2.getD (bT-1).toNat 0:=q7;refine cB a B (g.aA x [0,1] a ?_);by_cases i:e.2.getD (bT-1).toNat 0=0
 rotate_left
 .rw[bj (λk=>i k.1)];refine bR [19,25] a ?_ ?_
  .simp only[U,r,a7,ki,d',a',a9];and_intros<;>first|exact i|omega
  exact oS
 by_cases p:b.2.1.1=0
 rotate_left
 .rw[bj (λk=>p k.2)];refine bR [-19,25] a ?_ ?_
  .simp only[U,r,i,a7,ki,iS,d',a',a9];and_intros<;>first|exact p|omega
  exact oS
 rw[bo ⟨i,p⟩];refine bR [-19,-25] a ?_ ?_
 .simp only[U,r,i,p,a7,iS,a',a9];omega
 refine g.aA z [] a ?_;cases jR:(fJ f b.1 bT o).2 with
 |false=>
  rw[bj D];exact bR [38] a un oS
 |true=>
  rw[bo a];have A:=(y jR).1;generalize(fJ f b.1 bT o).1=w2 at *;have t:=CF (q:=q) f w2 b.2.1 bT e.1 e.2 A.ba.eD u s.1 s.2;rw[show((e.1,e.2):m (Int×Int)×m Int)=e from a]at t;exact bR [-38] a un (g.aA t [0,1] a (cB a B oS))
def tS(j):∀(e b:m Int)i,(b++e).Pairwise (· < ·)->(if i=l then True else ∀d∈b,d<j)->(i=l->∀d∈e,j<=d/\(j∈b)) ->
  (if(e.foldl (gu j) (b,i)).2=l then(e.foldl (gu j) (b,i)).1 else(e.foldl (gu j) (b,i)).1++[j]).Pairwise (· < ·)
 |[],b,i,s,r,_=>by
  simp[g3]at s;cases i<;>simp at r⊢
  .exact nc.2 ⟨s,by simp,by exact bw⟩
  omega
 |g::e,b,i,s,r,y=>by
  rw[hS];obtain⟨x,p,t⟩:=nc.1 s;obtain⟨w,A⟩:=iy.1 p;have B:∀d∈b,d<g:=λd f=>t d f g iB;have o:((b++[g])++e).Pairwise (· < ·):=wR;have u:(b++e).Pairwise (· < ·):=nc.2 ⟨x,A,λd f q k=>t d f q (mm _ k)⟩;unfold gu;cases i with
  |true=>
   simp[dw];split
   .exact tS j e b l u D λ_ d f=>⟨by grind,(y a g iB).2⟩
   exact tS j e (b++[g]) l o D λ_ d f=>⟨by grind,A0 _ (y a g iB).2⟩
  |false=>
   simp[kh,dn]at r⊢;split
   .split
    .rename_i z;subst z;exact tS g e (b++[g]) l o D λ_ d f=>⟨by grind,by simp⟩
    refine tS j e (b++[j,g]) l ?_ D λ_ d f=>⟨by grind,by simp⟩
    rw[k_];refine nc.2 ⟨x,iy.2 ⟨λq k=>?_,p⟩,λd f q k=>?_⟩
    .rcases eT.1 k with rfl|k
     .omega
     have:=w q k;omega
    rcases eT.1 k with rfl|k
    .exact r d f
    exact t d f q k
   exact tS j e (b++[g]) v o (by simp;grind) D
def ZV{d}{j}(s:d.Pairwise (· < ·)):(fa d j).Pairwise (· < ·):=tS j d [] v wR D D
def C8:∀{d a:m Int},a.Pairwise (· < ·)->(d.foldl fa a).Pairwise (· < ·)
 |[],a,b=>b
 |e::d,a,b=>C8 (d:=d) (ZV b)
def DE(d):(fr d).Pairwise (· < ·):=by
 unfold fr;have:∀(d:m dF) b,b.Pairwise (· < ·)->(d.foldl (λa e=>(gG e.2).foldl fa a) b).Pairwise (· < ·):=λd=>by
  induction d with
  |nil=>simp
  |cons e d f=>exactλb g=>f _ (C8 g)
 simp_all
def J1(d):c (d.flatMap ez)<=c (g7 d):=by
 induction d with
 |nil=>simp
 |cons E d a=>
  have:c (ez E)<=c (d9 E.2):=R0;simp[g7,rp,c9]at a⊢;omega
def rT(b:m Int)(d:Int):Int:=match b.findIdx? (λe=>e==d)with
 |some a=>a
 |none=>-1
def VU(d)(aa):Y q 149 [az.B d,Q aa] [] (Q (rT d aa)) []:=by
 refine Y.ab func149 rfl λk=>?_;have s:=k.B 0 a;refine aQ a B (g.aB 0 (λb=>b<=c d/\∀e,e<b->d.getD e 0≠aa) (λb:Nat=>[(0,az.B d),(1,Q aa),(7,Q (c d)),(8,Q b)]) (λ_=>[]) (λb=>c d-b) 0 a D a B a ⟨by omega,by omega⟩ ?_);rintro b ⟨o,p⟩;by_cases j:b<c d
 .have i:d.getD (b:Int).toNat az.E=d.getD b 0:=rfl;by_cases r:d.getD b 0=aa
  .have:rT d aa=b:=by
    have:d.findIdx? (λf=>f==aa)=h b:=by rw[uO];exact⟨j,by grind,λe m=>by grind⟩
    simp[rT,this]
   rw[this];refine a3 [9,16] a ?_ (g.aS (bW.zero a));simp only[U,i,bz,gl,a',a9];and_intros<;>first|omega|omega
  refine a3 [9,-16] a ?_ (g.aw (b+1) a ?_ B ⟨j,λe m=>?_⟩ w)
  .simp only[U,i,a7,bz,eN,a',a9];and_intros<;>first|grind|omega
  .simp
  grind
 have:rT d aa=-1:=by have:d.findIdx? (λf=>f==aa)=n:=ug;simp[rT,this]
 exact PO
abbrev BQ:bH:=ej (eS az) c7 (λa b=>bg (a.contains b)) λ_ _=>[]
def Nf:bK q 104 BQ:=.bk λb d _=>by refine Y.ab func104 rfl λf=>?_;have e:a_ q [(149,ej (eS az) c7 (λb d=>Q (rT b d)) λ_ _=>[])]:=.cons (.bk λb d _=>VU b d) .nil;refine b9 e a Oj (g.ao a ?_);simp[U,az.l,a9];unfold rT;grind
def Vx(d)(b:m Int):Y q 103 [i2 d,ay (.R [.B v 1 (c b) (az.fn b)])] [] (bg (!b.contains d.1)) []:=by refine Y.ab func103 rfl λf=>?_;have e:a_ q [(104,BQ)]:=.cons Nf .nil;refine b9 e a Oj (g.ao a ?_);simp only[az.l];simp
abbrev GQ(e:cb)(b:m dF)(d:R)(a:m Int)(g:X)(f:m Int):m aq:=[im e,.N,.cells 33 lE,.N,.N,.cells 33 [cM a1 e.1,cM bd b,cM a4 e.2.2,d,.x 6 1 (c a) (az.fn a)],.x 3 1 (c a) (az.fn a),jp g f]
def UD(f)(b)(d:m Int)(p:dH b)(t:k8 b):Y (af.aC T) 57 [Q f,b0 b,az.B d] [] (j4 (jP f b d).1 (jP f b d).2) []:=by
 refine Y.bG func57 rfl rfl rfl λM=>?_;have k:a_ (af.aC T) [(85,xR)]:=.cons EX .nil;have K:=p.aZ;have X:=p.aW;unfold jP;cases r:h3 f b with
 |false=>
  refine g.aN b7 df k [17] 200 a ?_ ?_
  .simp only[U,a1.l,a1.J,bd.l,bd.J,a4.l,a4.J,r,t,a',a9,iC]
  refine g.freeze 6 2 a a a ?_;refine g.cv df [] a ?_ a a a e4;simp
 |true=>
 rw[bo a];refine g.aN b7 df k [-17] 200 a ?_ ?_
 .simp only[U,a1.l,a1.J,bd.l,bd.J,a4.l,a4.J,r,t,a',a9,gz]
 refine g.aA (pd b p.aZ p.bl p.aW p.bm p.aM) [] a (g.aN b7 df k [904] 200 a B (g.freeze 5 1 a a a ?_));refine g.aN b7 df k [] 200 a B (g.a1 (I8 b.2.1 p.aW 103 [.B v 1 (c d) (az.fn d)] (λj=>!d.contains j.1) λj _=>Vx j d) [4] a bk ?_);rintro⟨F,A⟩;simp only[Bool.not_not]at A⊢;have C:c (b.2.1.filter λj=>d.contains j.1)<=c b.2.1:=iz _ _;have I:∀j∈b.2.1.filter (λj=>d.contains j.1),j∈b.2.1:=λj y=>(hg.1 y).1;have W:c (g7 (b.2.1.filter λj=>d.contains j.1))<=c (g7 b.2.1):=A7 b.2.1 λj=>d.contains j.1;generalize b.2.1.filter (λj=>d.contains j.1)=e at *;refine g.aN b7 df k [905] 200 a B (g.bM 4 a a a (by simp;exact C) (by simp;exact⟨B,C⟩) (g.bM 3 a a a D (by simp;exact B) (g.cm 5 4 3 1 (az.fn []) a a ?_)));refine g.bc [im b,.N,.cells 33 lE,.N,.N,.cells 33 [cM a1 b.1,cM bd e,cM a4 b.2.2,cH,.x 6 1 0 (az.fn [])],.x 3 1 0 (az.fn [])] a ?_ ?_
 .simp only[U.Y,U,a',a9];and_intros<;>first|exact bs.same|exactλi q=>A i q|rfl|simp
 refine g.aN b7 df k [] 200 a B (g.hN a a a λu=>?_);refine g.aN b7 df k [] 200 a B ?_;refine g.aB 8 (λi=>i<=c e) (λi:Nat=>[(4,aH 0 0),(6,aH 2 0),(8,aH 5 0),(9,s0 u),(32,bd.B e),(33,Q (c e)),(34,Q i)])
  (λi=>GQ b e cH [] u ((e.take i).flatMap ez)) (λi=>c e-i) 0 a D a D a w ?_
 intro i q;by_cases s:i<c e
 .have o:e.getD i bd.E=e.getD i (0,[]):=rfl;have y:=t.ds _ (I _ (oo (O:=(0,[])) s));have S:=A8 s;have J:=t.dv;have z:(e.take (i+1)).flatMap ez=(e.take i).flatMap ez++ez (e.getD i (0,[])):=Ou;generalize e.getD i (0,[])=j at *;refine g.aN b7 df k [35] 200 a bM ?_;simp only[cR,o];refine g.aA (CI j y.1 w) [] a (g.aN b7 df k [] 200 a B (g.aA (IU u ((e.take i).flatMap ez) (ez j)) [7] a ?_));rw[<-z];refine g.aN b7 df k [] 200 a ?_ (g.aw (i+1) a D D s w);exact j8
 obtain rfl:i=c e:=w;rw[c0];have V:=J1 e;have J:=t.dv;refine g.aN b7 df k [-35] 200 a D (g.az ?_);refine g.aN b7 df k [] 200 a B (g.aA (WX u (e.flatMap ez) (fr e) w (DE e) λN=>by rw[pr];simp[vO]) [7] a (g.aN b7 df k [] 200 a B ?_));refine g.aB 8 (λi=>i<=c b.1) (λi:Nat=>[(4,aH 0 0),(6,aH 2 0),(8,aH 5 0),(47,a1.B b.1),(48,Q (c b.1)),(49,Q i)])
  (λi=>GQ b e (cM az (fr e)) ((b.1.take i).map (·.1)) u (e.flatMap ez)) (λi=>c b.1-i) 0 a D a D a w ?_
 intro i q;have R:c ((b.1.take i).map (·.1))=i:=bM;by_cases s:i<c b.1
 .have o:b.1.getD i a1.E=b.1.getD i (0,[]):=rfl;have z:=map_take (al:=λx:b4=>x.1) s (0,[]);generalize(b.1.take i).map (λx:b4=>x.1)=E at *;generalize b.1.getD i (0,[])=x at *;have y:=az.a0 E x.1;refine g.aN b7 df k [50] 200 a ?_ (g.aw (i+1) a D ?_ s w)
  .simp[-aj,o,s,a7,show dZ.bytes=8 from a];omega
  rw[z];simp only[U.Y,U,cR,o,c9,fT,a',a9];and_intros<;>first|exact bs.same|exact y|rfl|omega
 obtain rfl:i=c b.1:=w;rw[c0];refine g.aN b7 df k [-50] 200 a D (g.az ?_);refine g.aN b7 df k [] 200 a B (g.freeze 8 5 a a a ?_);refine g.freeze 6 2 a a a ?_;refine g.cv df [] a ?_ a a a e4;simp[bd.l]
def Vi(f)(b)(d)(j)(e:eM j b)(u:j<=1000):
  Y q 21 [Cr f b,mx d] (hL b) (E0 f (cf f b d).1 (cf f b d).2) (hL (cf f b d).1):=by
 refine Y.bg bc func21 rfl rfl rfl λy=>?_;have m:=e.a.cC w;have x:a_ q [(44,kN),(45,sU),(48,Hd)]:=.cons lA (.cons t45 (.cons adn .nil));unfold cf;by_cases C:d.1=1
 .rw[bo C];by_cases t:1<=d.2.1/\d.2.1<=2
  rotate_left
  .rw[bj (λe=>t e.1)];refine bf x [13,-16,-21] a ?_ ?_
   .simp only[U,C,gk,a',a9];grind
   exact oS
  cases i:dO d.2.2.1 with
  |false=>
   rw[bj D];exact bf x [13,16,-21] a Rv oS
  |true=>
   rw[bo ⟨t,rfl⟩];have p:=XW (q:=q) f b d.2.1 d.2.2.1 j e u t;exact bf x [13,16,21] a Rv (g.aA p [0,1] a FF)
 rw[bj C];by_cases t:d.1=2
 .rw[bo t];by_cases i:1<=d.2.1/\d.2.1<=2
  rotate_left
  .rw[bj i];refine bf x [-13,31,-34] a ?_ ?_
   .simp only[U,t,gk,a',a9];grind
   exact oS
  rw[bo i];have s:=CF (q:=q) f b.1 b.2.1 d.2.1 b.2.2.1 b.2.2.2 e.a.ba.eD i e.bj e.b';refine bf x [-13,31,34] a ?_ ?_
  .simp only[U,t,i,nf,and_self,gk,a',a9];decide
  exact g.aA s [0,1] a FF
 rw[bj t];by_cases i:d.1=3
 .rw[bo i];refine bf x [-13,-31,40] a ?_ ?_
  .simp only[U,i,gk,a',a9];decide
  exact oS
 rw[bj i];by_cases o:d.1=4
 .rw[bo o];by_cases k:c b.1.2.2=0
  .rw[bo k];have r:(c b.1.2.2:Int)=0:=w;refine bf x [-13,-31,-40,46,51] a ?_ ?_
   .simp only[U,o,r,m.ba,m.cn,a1.l,a1.J,bd.l,bd.J,a4.l,a4.J,az.l,az.J,gk,a',a9];decide
   refine g.b9 () [0,1] ?_ yw;exact F9
  rw[bj k];refine bf x [-13,-31,-40,46,-51] a ?_ ?_
  .simp only[U,o,gk,eN,d',a',a9];and_intros<;>first|decide|omega
  exact oS
 rw[bj o];by_cases k:d.1=5
 .rw[bo k];have p:=Yi (q:=q) b.1 m.ba m.cy m.c_;refine bf x [-13,-31,-40,-46,67] a ?_ ?_
  .simp only[U,k,gk,a',a9];decide
  exact g.aA p [] a FF
 rw[bj k];refine bf x [-13,-31,-40,-46,-67] a ?_ ?_
 .simp only[U,eN,d',a',a9];grind
 exact oS
abbrev tp(a:dS):m R:=[.c (.int .i64 a.1),.c (.int .i64 a.2.1),.c (.int .i64 a.2.2.1),.c (.T a.2.2.2)]
abbrev TO(dc:m (Int×Int))(a:m Int):m aq:=[.q 69 2 (c dc) (a4.fn dc),.q 3 1 (c a) (az.fn a)]
abbrev NX(a:fR)(d b:Nat):m R:=.c (.int .i64 a.1)::([cM a1 a.2.1.1.1,cM bd a.2.1.1.2.1,cM a4 a.2.1.1.2.2,cM az a.2.1.2.1,.x d 1 (c a.2.1.2.2) (az.fn a.2.1.2.2)]++tp a.2.2.1++[.O b (.B (c a.2.2.2.1) 2 0 (c a.2.2.2.1)),.O (b+1) (.B (c a.2.2.2.2) 1 0 (c a.2.2.2.2))])
abbrev m2(a:fR):aq:=.cells 38 (h5 a)
abbrev ja(a:dI):aq:=.x 3 1 (c a.2.2) (az.fn a.2.2)
def Iu(a:fR)(d e f g:Bool):m aq:=
 match d,e,f,g with
 |true,l,l,l=>[m2 a,.cells 38 (.c (.int .i64 a.1)::([cM a1 a.2.1.1.1,cM bd a.2.1.1.2.1,cM a4 a.2.1.1.2.2,cM az a.2.1.2.1,.x 2 1 (c a.2.1.2.2) (az.fn a.2.1.2.2)]++tp a.2.2.1++[.O 3 (.B (0+c a.2.2.2.1) 2 0 (0+c a.2.2.2.1)),.O 4 (.B (0+c a.2.2.2.2) 1 0 (0+c a.2.2.2.2))])),ja a.2.1,
   .q 69 2 (0+c a.2.2.2.1) (ck 0 (λb=>([]:m (m M)).getD b []) (a4.fn a.2.2.2.1)),.q 3 1 (0+c a.2.2.2.2) (ck 0 (λb=>([]:m (m M)).getD b []) (az.fn a.2.2.2.2))]
 |true,l,l,v=>[m2 a,fP,ja a.2.1,.q 69 2 (0+c a.2.2.2.1) (ck 0 (λb=>([]:m (m M)).getD b []) (a4.fn a.2.2.2.1)),.q 3 1 (0+c a.2.2.2.2) (ck 0 (λb=>([]:m (m M)).getD b []) (az.fn a.2.2.2.2))]
 |true,l,v,_=>[m2 a,fP,ja a.2.1,.q 69 2 (0+c a.2.2.2.1) (ck 0 (λb=>([]:m (m M)).getD b []) (a4.fn a.2.2.2.1))]
 |true,v,_,_=>[m2 a,fP,ja a.2.1]
 |false,_,_,_=>[m2 a,fP]
abbrev Le(b:Nat):y:=ay (.B l b 0 λa=>([]:m (m M)).getD a [])
abbrev EN(a:dI)(b:Nat):m R:=[cM a1 a.1.1,cM bd a.1.2.1,cM a4 a.1.2.2,cM az a.2.1,.x b 1 (c a.2.2) (az.fn a.2.2)]
abbrev aeL(a:fR)(b:Nat):y:=
 [aH 0 0,Q a.1,aH 0 1,gB a.2.1,.n (.agg (EN a.2.1 2)),aH 0 6,eI a.2.2.1,Le 2,aH 0 10,a4.B a.2.2.2.1,cF 3 (.B (0+c a.2.2.2.1) 2 0 (0+c a.2.2.2.1)),Le 1,aH 0 11,az.B a.2.2.2.2,cF 4 (.B (0+c a.2.2.2.2) 1 0 (0+c a.2.2.2.2)),
  .n (.agg (.c (.int .i64 a.1)::(EN a.2.1 2++tp a.2.2.1++[.O 3 (.B (0+c a.2.2.2.1) 2 0 (0+c a.2.2.2.1)),.O 4 (.B (0+c a.2.2.2.2) 1 0 (0+c a.2.2.2.2))]))),.any].getD b .any
set_option maxRecDepth 20000 in
def U5(p)(t:uC p.2.1)(f:c p.2.2.2.1<=4000000)(O:c p.2.2.2.2<=4000000):Y q 22 [gT p] [] (.n (.agg (NX p 0 1))) ([ja p.2.1]++TO p.2.2.2.1 p.2.2.2.2):=by
 refine Y.bg bc func22 rfl rfl rfl λj=>?_;have x:a_ q [(50,lb [gB p.2.1] [] (.n (.agg (EN p.2.1 0))) [ja p.2.1])]:=.cons (l' (I2 p.2.1 t.ba t.cy t.c_)) .nil;have e:(0+c p.2.2.2.1)*yO.bytes<=140737488355328:=by rw[show yO.bytes=16 from a];omega
 have d:(0+c p.2.2.2.2)*dZ.bytes<=140737488355328:=by rw[show dZ.bytes=8 from a];omega
 refine bf x [901] a B ?_;refine g.ca b7 (aeL p) (mC (Iu p) 4 10 14 16) a a a a
  ⟨.aV,
  .aV,
  .aV,
  .aV,
  cg.dX a a a a a a (eh (bh:=[]) bc x (ar:=h _) a ⟨rfl,rfl⟩),
  .aV,
  .aV,
  .aV,
  .aV,
  .aV,
  cg.eU a a a a a a (eh (bh:=[3000013]) bc x (ar:=h _) a e),
  .aV,
  .aV,
  .aV,
  cg.eV a a a a a a (eh (bh:=[3000017]) bc x (ar:=h _) a d),
  .aV,
  cg.eW a a a a a a (eh (bh:=[]) bc x (ar:=h _) a B),B⟩ ?_
 intro y i;show g q _ _ _ _ _ (Iu p (y 4) (y 10) (y 14) (y 16));rw[i 4 ca,i 10 ca,i 14 ca,i 16 ca];refine tJ x [] 1 a B (g.bc [m2 p,.cells 38 (NX p 2 3),ja p.2.1,.q 69 2 (c p.2.2.2.1) (a4.fn p.2.2.2.1),.q 3 1 (c p.2.2.2.2) (az.fn p.2.2.2.2)] a ?_ ?_)
 .simp[o7]
 refine g.bf () [2,3,4] ?_ (λk b=>absurd b D);simp
def U4(p)(g:uC p.2.1)(b:c p.2.2.2.1<=4000000)(f:c p.2.2.2.2<=4000000):Y q 22 [gT p] [] (gT p) []:=by have d:=Y.bK (aU:=[ja p.2.1,.q 69 2 (c p.2.2.2.1) (a4.fn p.2.2.2.1)]) (U5 (q:=q) p g b f) a D a D;have e:=Y.bK (aU:=[ja p.2.1]) d a D a D;refine e.b2 a ?_ a;simp[ii]
end
section
variable {q:af T}
def JA(A)(d)(e:c d<=4000000):Y q 97 [qm A,a4.B d] [] (pK (kU A d)) []:=by refine Y.bg bc func97 rfl rfl rfl λi=>?_;have f:a_ q [(141,eO [qm A,a4.B d] (pK (kU A d)))]:=.cons (e8 (XY A d e)) .nil;refine b9 f a (by simp[a4.l];rfl) ?_;refine g.b9 () [] ?_ (λj b=>absurd b D);simp
abbrev s6(a:dR):aq:=.cells 47 (IR a)
abbrev pP(a:Int)(d:dI)(b:dS):aq:=.cells 38 (g0 a d b 6)
abbrev ab6(a:Int×Int):y:=ay (.val (.func (.func 97) #[.agg [.int .i64 a.1,.int .i64 a.2].toArray] #[]))
abbrev pz(b a:ak×X)(ce:fR)(d:dR):m aq:=hc b a++[.cells 38 (h5 ce),s6 d,fP]
abbrev N2(g:Nat)(i:dI)(e:dS)(f:Int×Int)(b:cb)(a:(Int×Int)×Int)(d:Nat):y:=
 [ab6 f,aH 8 0,aH 8 0,aH 8 1,aH 8 1,b0 i.1,aH 8 0,aH 8 0,aH 8 6,eI e,b0 b,a4.B b.2.2,pK a,pK a,qm a.1,Q a.2,aH g 0,.any,Q a.2].getD d .any
def x4(a:m aq)(b:Int×Int)(_ d e:Bool):m aq:=
 match d,e with
 |false,_=>a
 |true,v=>a++[N8]
 |true,l=>a++[DM b]
abbrev qr(b:m Int):={a:Nat->m M // bs 2 a (az.fn b)}
abbrev n_(d b:ak×X)(ce:fR)(e:dR)(g:Int)(j:dI)(i:dS)(dc:m (Int×Int))(a:Nat->m M)(f:dR):m aq:=pz d b ce e++[.q 69 2 2 (a4.fn dc),.q 3 1 2 a,pP g j i]++[s6 f]
set_option maxRecDepth 20000 in
def I1(r j)(ce)(e)(A)(f)(p)(d)(b)(dc)(k)(C:rg p.1)(J:1<=b/\b<=2)(N:c dc=2)(R:c k=2):
  bl (ι:=qr (gW b p.1 d (dc,k)).2) q 55 [aH 8 0,Q b] (n_ r j ce e f p d dc (az.fn k) A) (λ_=>.S []) (λE=>n_ r j ce e f p d (gW b p.1 d (dc,k)).1 E.1 A++[.N]):=by
 refine bl.bO func55 rfl rfl rfl (g.aO ?_);have F:=(zH (q:=q) C d).gG.aM;have aJ:=Kw (q:=q) C d;unfold gW;generalize oy p.1 d=m at *;have K:(b-1).toNat<2:=w;have S:(0:Nat)+(b-1).toNat<2:=w;have I:dc.getD (b-1).toNat (0,0)=dc.getD (0+(b-1).toNat) a4.E:=q7;rw[I];have D:=JA (q:=q) (dc.getD (0+(b-1).toNat) a4.E) m.2.2 F;generalize kU (dc.getD (0+(b-1).toNat) a4.E) m.2.2=o at *;have i:a_ q [(98,eO [b0 p.1,eI d] (b0 m))]:=.cons (e8 aJ) .nil;have z:k.getD (0+(b-1).toNat) az.E=k.getD (b-1).toNat 0:=q7;by_cases s:k.getD (b-1).toNat 0=0
 rotate_left
 .rw[bj s];refine g.fh 0 1 ?_;refine g.cJ 10 a bk ?_;refine bf i [15] a ?_ ?_
  .simp only[U,z,a7,ki,d',a',a9];and_intros<;>first|exact s|omega
  exact Pv
 rw[bo s];refine bf i [-15] a ?_ ?_
 .simp only[U,z,s,a7,iS,a',a9];omega
 refine g.cD _ _ a a (ei.hk a a a) λM=>?_;refine bf i [902] a B ?_;refine g.ca b7 (N2 10 p d (dc.getD (0+(b-1).toNat) a4.E) m o) (ln (x4 (n_ r j ce e f p d dc (az.fn k) A) o.1) 18 16 17) a a a a
  ⟨.ay,
  .ay,
  .ay,
  .ay,
  .ay,
  .ay,
  .ay,
  .ay,
  .ay,
  .ay,
  .cN bc i (cy:=by exact a),
  .ay,
  cg.eM a a a (λx t O=>aY.gR (λ_ _ _ _=>jf a) a a M.2 a D a a a),
  .ay,
  .ay,
  .ay,
  cg.d' a a a a a (λx=>by cases x<;>exact eh (bh:=[]) bc i (ar:=h _) a B),
  cg.ea a a a a a (λx=>by cases x<;>exact eh (bh:=[]) bc i (ar:=h _) a B),
  cg.d_ a a a a (λt O=>by cases t<;>cases O<;>exact aY.w),B⟩ ?_
 intro y u;show g q _ _ _ _ _ (x4 (n_ r j ce e f p d dc (az.fn k) A) o.1 (y 18) (y 16) (y 17));rw[u 18 ca,u 16 ca,u 17 ca];refine bf i [904] a ud (g.cJ 10 a bk ?_);have dM:=a4.cV dc (0+(b-1).toNat) o.1 2 w;have e':=az.cV k (0+(b-1).toNat) o.2 2 w;rw[cZ]at dM e';refine g.bc (n_ r j ce e f p d (dc.set (b-1).toNat o.1) (az.fn k) A++[.N]) a Qb ?_;exact Q5
abbrev u2(f e:ak×X)(ce:fR)(b:dR)(i:Int)(k:dI)(j:dS)(dc:m (Int×Int))(a:Nat->m M)(g:dR)(d:dI):m aq:=pz f e ce b++[.q 69 2 2 (a4.fn dc),.q 3 1 2 a,pP i k j]++[s6 g,.N,gv d]
set_option maxRecDepth 20000 in
def UW(r j)(ce)(e)(A)(s)(f)(p)(d)(b)(dc)(k)(D:rg p.1)(K:1<=b/\b<=2)(S:c dc=2)(J:c k=2):
  bl (ι:=qr (gW b p.1 d (dc,k)).2) q 55 [aH 8 0,Q b] (u2 r j ce e f p d dc (az.fn k) A s) (λ_=>.S []) (λF=>u2 r j ce e f p d (gW b p.1 d (dc,k)).1 F.1 A s++[.N]):=by
 refine bl.bO func55 rfl rfl rfl (g.aO ?_);have I:=(zH (q:=q) D d).gG.aM;have aJ:=Kw (q:=q) D d;unfold gW;generalize oy p.1 d=m at *;have N:(b-1).toNat<2:=w;have T:(0:Nat)+(b-1).toNat<2:=w;have R:dc.getD (b-1).toNat (0,0)=dc.getD (0+(b-1).toNat) a4.E:=q7;rw[R];have M:=JA (q:=q) (dc.getD (0+(b-1).toNat) a4.E) m.2.2 I;generalize kU (dc.getD (0+(b-1).toNat) a4.E) m.2.2=o at *;have i:a_ q [(98,eO [b0 p.1,eI d] (b0 m))]:=.cons (e8 aJ) .nil;have C:k.getD (0+(b-1).toNat) az.E=k.getD (b-1).toNat 0:=q7;by_cases u:k.getD (b-1).toNat 0=0
 rotate_left
 .rw[bj u];refine g.fh 0 1 ?_;refine g.cJ 12 a bk ?_;refine bf i [15] a ?_ ?_
  .simp only[U,C,a7,ki,d',a',a9];and_intros<;>first|exact u|omega
  exact Pv
 rw[bo u];refine bf i [-15] a ?_ ?_
 .simp only[U,C,u,a7,iS,a',a9];omega
 refine g.cD _ _ a a (ei.hk a a a) λE=>?_;refine bf i [902] a B ?_;refine g.ca b7 (N2 12 p d (dc.getD (0+(b-1).toNat) a4.E) m o) (ln (x4 (u2 r j ce e f p d dc (az.fn k) A s) o.1) 18 16 17) a a a a
  ⟨.ay,
  .ay,
  .ay,
  .ay,
  .ay,
  .ay,
  .ay,
  .ay,
  .ay,
  .ay,
  .cN bc i (cy:=by exact a),
  .ay,
  cg.eM a a a (λx t O=>aY.gR (λ_ _ _ _=>jf a) a a E.2 a M a a a),
  .ay,
  .ay,
  .ay,
  cg.d' a a a a a (λx=>by cases x<;>exact eh (bh:=[]) bc i (ar:=h _) a B),
  cg.ea a a a a a (λx=>by cases x<;>exact eh (bh:=[]) bc i (ar:=h _) a B),
  cg.d_ a a a a (λt O=>by cases t<;>cases O<;>exact aY.w),B⟩ ?_
 intro y z;show g q _ _ _ _ _ (x4 (u2 r j ce e f p d dc (az.fn k) A s) o.1 (y 18) (y 16) (y 17));rw[z 18 ca,z 16 ca,z 17 ca];refine bf i [904] a ud (g.cJ 12 a bk ?_);have dM:=a4.cV dc (0+(b-1).toNat) o.1 2 w;have e':=az.cV k (0+(b-1).toNat) o.2 2 w;rw[cZ]at dM e';refine g.bc (u2 r j ce e f p d (dc.set (b-1).toNat o.1) (az.fn k) A s++[.N]) a Qb ?_;exact Q5
end
section
variable {q:af T}
def WF(S)(b)(C:c S.2<=4000000):Y q 153 [fM S,az.B b] [] (fM (fj S b)) []:=by
 refine Y.bg bc func153 rfl rfl rfl λo=>?_;have i:a_ q [(104,BQ)]:=.cons Nf .nil;refine bf i [902] a B (g.cm 2 1 170 2 (bI.fn []) a a ?_);refine b9 i a B ?_;refine g.aB 4 (λe=>e<=c S.2) (λe:Nat=>[(1,az.B b),(4,aH 1 0),(5,aH 2 0),(12,bI.B S.2),(13,Q (c S.2)),(14,Q e)])
  (λe=>KP S ((S.2.take e).filter λd=>b.contains d.1)) (λe=>c S.2-e) 0 a D a D a w ?_
 intro e j;have m:=C0 S.2 (λd=>b.contains d.1) j;by_cases s:e<c S.2
 .have O:S.2.getD e bI.E=eb S e:=rfl;have t:(S.2.take (e+1)).filter (λd=>b.contains d.1)=if b.contains (eb S e).1=l then(S.2.take e).filter (λd=>b.contains d.1)++[eb S e]else(S.2.take e).filter (λd=>b.contains d.1):=C1 s (0,[]);generalize(S.2.take e).filter (λd=>b.contains d.1)=k at *;generalize eb S e=d at *;cases al:b.contains d.1 with
  |true=>
   rw[bo al]at t;have C:=bI.a0 k d;refine bf i [15,21] a RL (g.aw (e+1) a D ?_ s w);exact RM
  |false=>
   rw[bj ds]at t;refine bf i [15,-21] a Qt (g.aw (e+1) a D ?_ s w);simp_all
 exact Qa
abbrev H3(a:dI)(b d:Bool):m aq:=
 match b,d with
 |false,_=>[gv a,.cells 33 lE]
 |true,v=>[gv a,.cells 33 lE,.q 119 2 (c a.1.1) (a1.fn a.1.1),.q 50 2 (c a.1.2.1) (bd.fn a.1.2.1)]
 |true,l=>[gv a,.cells 33 [.O 2 (.B (c a.1.1) 2 0 (c a.1.1)),.O 3 (.B (c a.1.2.1) 2 0 (c a.1.2.1)),cM a4 a.1.2.2,cM az (az.ad (c a.2.1) (az.fn a.2.1)),cM az (az.ad (c a.2.2) (az.fn a.2.2))],.q 119 2 (c a.1.1) (a1.fn a.1.1),.q 50 2 (c a.1.2.1) (bd.fn a.1.2.1)]
abbrev aeK(a:dI)(b:Nat):y:=
 [aH 0 0,b0 a.1,.n (.agg [.O 2 (.B (c a.1.1) 2 0 (c a.1.1)),.O 3 (.B (c a.1.2.1) 2 0 (c a.1.2.1)),cM a4 a.1.2.2]),aH 0 3,az.B a.2.1,az.B (az.ad (c a.2.1) (az.fn a.2.1)),aH 0 4,az.B a.2.2,az.B (az.ad (c a.2.2) (az.fn a.2.2)),
  .n (.agg [.O 2 (.B (c a.1.1) 2 0 (c a.1.1)),.O 3 (.B (c a.1.2.1) 2 0 (c a.1.2.1)),cM a4 a.1.2.2,cM az (az.ad (c a.2.1) (az.fn a.2.1)),cM az (az.ad (c a.2.2) (az.fn a.2.2))]),.any].getD b .any
def JK(p)(i:dH p.1)(e:c p.2.1<=4000000)(k:c p.2.2<=4000000):Y q 59 [gB p] [] (.n (.agg [.O 0 (.B (c p.1.1) 2 0 (c p.1.1)),cM bd p.1.2.1,cM a4 p.1.2.2,cM az p.2.1,cM az p.2.2])) [.q 119 2 (c p.1.1) (a1.fn p.1.1)]:=by
 refine Y.bg bc func59 rfl rfl rfl λo=>?_
 have x:a_ q [(101,lb [b0 p.1] [] (.n (.agg [.O 0 (.B (c p.1.1) 2 0 (c p.1.1)),.O 1 (.B (c p.1.2.1) 2 0 (c p.1.2.1)),.c (.B v 2 (c p.1.2.2) (a4.fn p.1.2.2))])) [.q 119 2 (c p.1.1) (a1.fn p.1.1),.q 50 2 (c p.1.2.1) (bd.fn p.1.2.1)]),
   (61,di (eS az) (λb=>az.B b) λb=>[c b<=4000000])]:=.cons (l' (pd p.1 i.aZ i.bl i.aW i.bm i.aM)) (.cons (.a9 λb j=>Cz b j) .nil)
 refine bf x [901] a B ?_;refine g.ca b7 (aeK p) (ns (H3 p) 2 10) a a a a
  ⟨.bo,.bo,cg.fe a a (eh (bh:=[]) bc x (ar:=h _) a D),.bo,.bo,.de bc x (cy:=by exact⟨az.J _,by rw[az.l];exact e⟩),.bo,.bo,.de bc x (cy:=by exact⟨az.J _,by rw[az.l];exact k⟩),.bo,
   cg.ff a a (eh (bh:=[]) bc x (ar:=h _) a B),B⟩ ?_
 intro y d;show g q _ _ _ _ _ (H3 p (y 2) (y 10));rw[d 2 ca,d 10 ca];refine tJ x [] 1 a B (g.bM 3 a a a D D (g.bc [gv p,.cells 33 [.O 2 (.B (c p.1.1) 2 0 (c p.1.1)),cM bd p.1.2.1,cM a4 p.1.2.2,cM az p.2.1,cM az p.2.2],.q 119 2 (c p.1.1) (a1.fn p.1.1),.N] a ?_ ?_))
 .simp[az.l,ii]
 refine g.bf () [2] ?_ (λm f=>absurd f D);simp
abbrev qd(a:m b4):aq:=.q 119 2 (c a) (a1.fn a)
abbrev x2(b a:Nat):y:=cF 0 (.B b 2 0 a)
def VZ(d)(A)(E:A<=c d)(I:c d<=4000000)(m)(ah)(i:b4->Bool)(y:∀r,r∈d.take A->Y q m [fM r,ay (.R ah)] [] (bg (i r)) []):
  Y q 135 [x2 (c d) A,ay (.fn (.func m) [] [.R ah])] [qd d] (Q (gV i (d.take A))) [qd d]:=by
 refine Y.ab func135 rfl λF=>?_;refine aQ a B ?_;have C:c (d.take A)=A:=bM;have k:∀e,e<A->(d.take A).getD e (0,[])=d.getD e (0,[]):=λe p=>by simp[iA,p]
 refine g.aB 1 (λb=>b<=A/\∀e,e<b->i ((d.take A).getD e (0,[]))=v) (λb:Nat=>[(0,x2 (c d) A),(1,ay (.fn (.func m) [] [.R ah])),(7,Q A),(8,Q b)]) (λ_=>[qd d]) (λb=>A-b) 0 a D a D a ⟨by omega,by omega⟩ ?_;rintro b ⟨u,j⟩;by_cases f:b<A
 .have z:d.getD b (0,[])∈d.take A:=by rw[<-k b f];grind
  have x:d.getD ((0+(b:Int).toNat:Nat)) a1.E=d.getD b (0,[]):=nT;refine a3 [9] a bw ?_;rw[x];refine g.aA (y _ z) [] a ?_;cases s:i (d.getD b (0,[]))with
  |true=>
   refine a3 [16] a D (g.aS (bW.mk [0] a ?_ a a a ib));simp[tg (o:=d.take A) (O:=(0,[])) w (by rw[k b f];exact s) j]
  |false=>
   refine a3 [-16] a bE (g.aw (b+1) a D D ⟨f,λe p=>?_⟩ w);by_cases t:e=b
   .rw[t,k b f];exact s
   exact j e w
 refine a3 [-9] a bM (g.az ?_);refine aQ a B (g.aI [0] a ?_ ib);simp[th (o:=d.take A) (O:=(0,[])) (λe p=>j e w)]
def og(a:m b4)(b d:Nat):m b4:=(a.take b).eraseIdx d++(0,[])::a.drop b
def TU{d}(b:A<=c d)(a:e<A):c (og d A e)=c d:=by unfold og;rw[c9,Gr bM];simp;omega
def Vf(d)(A e)(O:A<=c d)(x:e<A)(R:c d<=4000000):
  Y q 154 [x2 (c d) A,Q e,Q ((e:Int)+1)] [qd d] (x2 (c d) (A-1)) [.q 119 2 (c d) (a1.fn (og d A e))]:=by
 refine Y.ab func154 rfl λS=>?_;refine bR [-16,906] a Fi ?_;have z:bV A (h (e:Int))-bV 0 n+(bV A n-bV 0 (h ((e:Int)+1)))=A-1:=Fi;rw[z];refine g.region ?_;refine gH [] 4 a B (g.aK (a2.hO bc a a a a a a a a a w w w) a a ?_);refine g.aK (a2.e1 bc a a a a a a w) a a ?_;refine bR [907] a B (g.gL 0 (a1.fn (og d A e)) a (λ_ _=>rfl) (λN idx o s r M=>?_) ?_)
 .have J:bV A (h (e:Int))-bV 0 n=e:=wS;have I:bV 0 (h ((e:Int)+1))=e+1:=bE;have C:bV A n=A:=rfl;simp only[cR];rw[J,I,C];have y:(og d A e).getD idx (0,[])=if idx<e then d.getD idx (0,[])else if idx<A-1 then d.getD (idx+1) (0,[])else if idx<A then(0,[])else d.getD idx (0,[]):=by
   unfold og;have u:c ((d.take A).eraseIdx e)=A-1:=Od;simp only[aj];by_cases m:idx<A-1
   .rw[jm w,List.getElem?_eraseIdx];by_cases f:idx<e
    .rw[bo f,bo f,iA,bo w]
    rw[bj f,bj f,bo m,iA,bo w]
   rw[hx w,u];by_cases F:idx=A-1
   .subst F;rw[bj w,bj w,bo w];simp
   obtain⟨j,rfl⟩:∃j,idx=A+j:=⟨idx-A,by omega⟩
   rw[bj w,bj w,bj w,show A+j-(A-1)=j+1 by omega];simp
  have b:(a1.a8 ((og d A e).getD idx (0,[])))[s]?=h r:=M;rw[y]at b;by_cases m:idx=A-1
  .subst m;rw[bj w,bj w,bo w]at b;have D:nQ (0+(A-1)) (0+(A-1)+(A-(A-1))) nA.zero (qJ e (0+(e+1)) (A-(e+1)) (a1.fn d)) (A-1)=nA.zero:=bo w;rw[D]
   match s,b with
   |0,b=>exact⟨_,rfl,λK i=>by cases b;exact i⟩
   |1,b=>exact⟨_,rfl,λK i=>by cases b;exact KM (E:=.B l 0 0 λ_=>[]) rfl ⟨rfl,rfl⟩ i⟩
  refine⟨r,?_,λ_ i=>i⟩;rw[<-b];congr 1;unfold nQ qJ;rw[bj w];have k:∀t,a1.fn d t=a1.a8 (d.getD t (0,[])):=λ_=>rfl;by_cases f:idx<e
  .rw[bj w,bo f,k]
  rw[bj f];by_cases p:idx<A-1
  .rw[bo w,bo p,k,show 0+(e+1)+(idx-e)=idx+1 by omega]
  rw[bj w,bj p,bj w,k]
 exact Qs
end
def ga(a:dI):Nat->dI
 |0=>a
 |b+1=>hO (ga a b)
def wj{p}:∀{u:Nat},u<=c p.2.2->(ga p u).1.2=p.1.2/\(ga p u).2.1=p.2.1/\(ga p u).2.2=p.2.2.drop u/\(ga p u).1.1=(p.2.2.take u).foldl (λd b=>e7 b p.2.1 d) p.1.1
 |0,_=>⟨rfl,rfl,rfl,rfl⟩
 |u+1,m=>by
  obtain⟨j,i,k,e⟩:=wj (p:=p) (u:=u) w;have g:p.2.2.drop u=p.2.2.getD u 0::p.2.2.drop (u+1):=by rw[SC w];simp[bJ (show u<c p.2.2 by omega)]
  have f:ga p (u+1)=((e7 (p.2.2.getD u 0) p.2.1 (ga p u).1.1,(ga p u).1.2),(ga p u).2.1,p.2.2.drop (u+1)):=by rw[show ga p (u+1)=hO (ga p u)from a];unfold hO;simp_all
  rw[f,h4 w 0,uK,<-e];simp_all
def ka.eN{f}{p}(b:ka f p):∀a,ka f (ga p a)
 |0=>b
 |a+1=>(ka.eN b a).step
def pq(a:m Int)(d:m b4):m b4:=(d.map λb=>fj b a).filter λb=>!b.2.isEmpty
def Z9{b:b4}{a:m Int}:fj (fj b a) a=fj b a:=by simp[fj,List.filter_filter]
def J5{d:m Int}:∀(L:m Int)(b:m b4),(∀a∈b,a.2≠[])->L.foldl (λb e=>e7 e d b) b=(b.map λa=>if a.1∈L then fj a d else a).filter λa=>!a.2.isEmpty
 |[],b,i=>by simp only[List.foldl_nil,rq,dn,List.map_id'];rw[rl.2 λa x=>by simpa using i a x]
 |e::L,b,i=>by
  rw[hS,J5 L _ λa x=>by obtain⟨_,_,_,o⟩:=EH x;exact o];clear i;induction b with
  |nil=>rfl
  |cons a b f=>
   unfold e7 at f⊢;simp only[kj,n6]at f⊢;by_cases x:a.1=e
   .have g:ic e d a=fj a d:=bo x;have q:(fj a d).1=a.1:=rfl;rw[g];split
    .simp only[kj,n6,q,Z9,f,x,eT,k9,dw];split<;>simp_all
    simp_all
   have g:ic e d a=a:=bj x;rw[g];have j:(a.1∈e::L)↔a.1∈L:=nU;split
   .simp only[kj,n6,f,j]
   simp only[f,j];have k:a.2=[]:=ds;have:(fj a d).2=[]:=by simp[fj,k]
   by_cases p:a.1∈L<;>simp[p,this,k]
def IM{b:cb}(o:iP f b)(d:m dF)(e:m Int):(ga ((b.1,d,b.2.2),e,b.1.map (·.1)) (c b.1)).1=(pq e b.1,d,b.2.2):=by obtain⟨j,_,_,k⟩:=wj (p:=((b.1,d,b.2.2),e,b.1.map (·.1))) (u:=c b.1) D;refine Prod.ext ?_ j;rw[k];simp only;rw[AO D,J5 _ _ λi g=>by have:=(o.cd i g).len.1;grind];unfold pq;congr 1;refine o6 λi g=>bo (g4.2 ⟨i,g,a⟩)
def DO(a:m Int):∀b:m b4,cc (pq a b)=(cc b).filter λd=>a.contains d
 |[]=>rfl
 |e::b=>by
  have f:=DO a b;unfold cc pq at *;rw[kj,n6,rp,List.filter_append,<-f];have g:(e.2.map (·.1)).filter (λd=>a.contains d)=(fj e a).2.map (·.1):=by simp[fj,List.filter_map];rfl
  rw[g];split
  .simp
  simp_all
def L3{cz}{bO}:∀{Z:m b4}{e:Nat},(Z.Pairwise λa b=>a.1<b.1)->(∀a∈Z,a.2≠[])->e<c Z->(Z.getD e (0,[])).1=bO ->
  gV (λa:b4=>a.1==bO) Z=e/\e7 bO cz Z=if(fj (Z.getD e (0,[])) cz).2.length=0 then Z.eraseIdx e else Z.set e (fj (Z.getD e (0,[])) cz)
 |a::Z,0,i,g,_,d=>by
  obtain⟨k,q⟩:=iy.1 i;simp only[List.getD_cons_zero]at d⊢;have j:Z.map (ic bO cz)=Z:=by rw[o6 (g:=id) λb f=>by have:=k b f;exact bj w,List.map_id]
  refine⟨by simp[gV,List.findIdx?_cons,d],?_⟩;unfold e7;rw[kj,j,show ic bO cz a=fj a cz from bo d,n6,rl.2 λb f=>by simpa using g b (mm _ f)];split<;>split<;>simp_all
 |a::Z,e+1,i,g,o,d=>by
  obtain⟨k,q⟩:=iy.1 i;simp only[List.getD_cons_succ,fe]at d o⊢;obtain⟨k1,t⟩:=L3 (cz:=cz) (e:=e) q (λb f=>g b (mm _ f)) w d;have s:Z.getD e (0,[])∈Z:=N;have r:a.1≠bO:=by have:=k _ s;omega
  have x:=g a iB;refine⟨?_,?_⟩
  .unfold gV at k1⊢;rw[List.findIdx?_cons];have:(a.1==bO)=v:=bw;rw[this];cases p:Z.findIdx? λa=>a.1==bO with
   |none=>rw[p]at k1;exact bE
   |some u=>rw[p]at k1;exact bw
  have j:e7 bO cz (a::Z)=a::e7 bO cz Z:=by unfold e7;rw[kj,show ic bO cz a=a from bj r,n6,bo bw]
  rw[j,t];split<;>simp
def kz(a:m Int)(d:m b4)(e b:Nat):m b4×Nat:=
 if(fj (d.getD b (0,[])) a).2.length=0 then(og d e b,e-1)else(d.set b (fj (d.getD b (0,[])) a),e)
def abg{cz}{bO}{d}(j:A<=c d)(a:e<A)(i:(d.take A).Pairwise λb p=>b.1<p.1)(m:∀b∈d.take A,b.2≠[])(o:(d.getD e (0,[])).1=bO):
  gV (λb:b4=>b.1==bO) (d.take A)=e/\(kz cz d A e).1.length=c d/\(kz cz d A e).2<=A/\(kz cz d A e).1.take (kz cz d A e).2=e7 bO cz (d.take A):=by
 have g:(d.take A).getD e (0,[])=d.getD e (0,[]):=by simp[iA,a]
 obtain⟨k1,f⟩:=L3 (cz:=cz) (bO:=bO) (Z:=d.take A) (e:=e) i m ds (g▸o);rw[g]at f;rw[f];unfold kz;split
 .refine⟨k1,TU j a,by omega,?_⟩;unfold og;have k:c ((d.take A).eraseIdx e)=A-1:=Od;simp only;exact List.take_left' k
 exact⟨k1,by simp,bC _,by rw[A3]⟩
section
variable {q:af T}
def Wh(b)(j):Y q 152 [fM b,ay (.R [.int .i64 j])] [] (bg (b.1==j)) []:=by refine Y.ab func152 rfl λd=>?_;exact aQ a B (g.ao a)
abbrev lT(b:m b4)(a:Nat):b4:=b.getD (0+(a:Int).toNat) a1.E
abbrev L2(d:m b4)(b:Nat)(a:m Int):aq:=.cells 119 [.c (.int .i64 (lT d b).1),.c (ly (fj (lT d b) a))]
end
structure wY(p:dI)(K5 u:Nat)(d:m b4)(A:Nat):Prop where
 fG:u<=c p.2.2
 len:c d=K5
 gi:A<=K5
 c1:d.take A=(ga p u).1.1
 cC:∀S∈d,c S.2<=4000000
def wY.next{p}{x}{d}(E:ka f p)(e:wY p x u d A)(y:u<c p.2.2):
  ∃g,g<A/\gV (λi:b4=>i.1==p.2.2.getD u 0) (d.take A)=g/\wY p x (u+1) (kz p.2.1 d A g).1 (kz p.2.1 d A g).2:=by
 have j:=E.eN u;obtain⟨C,k,s,J⟩:=wj (p:=p) (u:=u) e.fG;have r:p.2.2.drop u=p.2.2.getD u 0::p.2.2.drop (u+1):=ds;obtain⟨i,b,t⟩:=j.gm (p.2.2.getD u 0) (by rw[s,r];simp);rw[<-e.c1]at b;obtain⟨g,m,B⟩:=hd b;rw[List.length_take]at m;have q:g<A:=w;have F:(d.getD g (0,[])).1=p.2.2.getD u 0:=by rw[<-t,<-B];simp[bJ (show g<c d by omega)]
 have z:∀i∈d.take A,i.2≠[]:=λi b=>by rw[e.c1]at b;have:=(j.cd i b).len.1;grind
 obtain⟨k1,ba,D,I⟩:=abg (cz:=p.2.1) (by rw[e.len];exact e.gi) q (by rw[e.c1];exact j.c5) z F;refine⟨g,q,k1,y,by rw[ba,e.len],e3 D e.gi,?_,λi b=>?_⟩
 .rw[I,e.c1];rw[show ga p (u+1)=hO (ga p u)from a];unfold hO;rw[s,r,k]
 unfold kz at b;split at b
 .unfold og at b;simp only[e2,eT]at b;rcases b with b|b|b
  .exact e.cC i (gN (List.mem_of_mem_eraseIdx b))
  .exact bE
  exact e.cC i (p4 b)
 rcases AS b with b|b
 .exact e.cC i b
 rw[b];have o:d.getD g (0,[])∈d:=N;exact e3 (iz _ _) (e.cC _ o)
section
variable {q:af T}
def IY(d)(f:c d<=4000000):Y q 61 [az.B d] [] (cF 0 (.B (c d) 1 0 (c d))) [jN (c d) d]:=by
 refine Y.ab func61 rfl λi=>?_;refine aQ a B (g.ey bc a a a a a a λb e=>?_);cases b with
 |true=>
  obtain rfl:=jJ (e rfl);refine aQ a B (g.e_ 2 3 1 (az.fn []) a ?_);exact FE
 |false=>
  refine gH [] 7 a B (g.dH 5 3 1 (az.fn []) a ?_);refine aQ a ⟨a,a,show(0+c d)*8<=_ by omega⟩ (g.bc [jN (c d) d] a ?_ ?_)
  .simp[bs,ck]
  exact FQ
abbrev H2(a:dI)(b:Bool):m R:=[.O 2 (.B (c a.1.1) 2 0 (c a.1.1)),.O 3 (.B (c a.1.2.1) 2 0 (c a.1.2.1)),cM a4 a.1.2.2,cM az (az.ad (c a.2.1) (az.fn a.2.1)),.O 4 (.B (c a.2.2) 1 0 (c a.2.2))]
abbrev H1(a:dI)(b d e f:Bool):m aq:=
 match b,d,e,f with
 |false,_,_,_=>[gv a,.cells 33 lE]
 |true,_,v,_=>[gv a,.cells 33 lE,.q 119 2 (c a.1.1) (a1.fn a.1.1),.q 50 2 (c a.1.2.1) (bd.fn a.1.2.1)]
 |true,_,l,v=>[gv a,.cells 33 lE,.q 119 2 (c a.1.1) (a1.fn a.1.1),.q 50 2 (c a.1.2.1) (bd.fn a.1.2.1),jN (c a.2.2) a.2.2]
 |true,_,l,l=>[gv a,.cells 33 (H2 a l),.q 119 2 (c a.1.1) (a1.fn a.1.1),.q 50 2 (c a.1.2.1) (bd.fn a.1.2.1),jN (c a.2.2) a.2.2]
abbrev aeJ(a:dI)(b:Nat):y:=
 [aH 0 0,b0 a.1,.n (.agg [.O 2 (.B (c a.1.1) 2 0 (c a.1.1)),.O 3 (.B (c a.1.2.1) 2 0 (c a.1.2.1)),cM a4 a.1.2.2]),aH 0 3,az.B a.2.1,az.B (az.ad (c a.2.1) (az.fn a.2.1)),aH 0 4,az.B a.2.2,cF 4 (.B (c a.2.2) 1 0 (c a.2.2)),
  .n (.agg (H2 a l)),.any].getD b .any
def Yt(p)(i:dH p.1)(d:c p.2.1<=4000000)(j:c p.2.2<=4000000):Y q 59 [gB p] [] (.n (.agg [.O 0 (.B (c p.1.1) 2 0 (c p.1.1)),cM bd p.1.2.1,cM a4 p.1.2.2,cM az p.2.1,.O 1 (.B (c p.2.2) 1 0 (c p.2.2))])) [.q 119 2 (c p.1.1) (a1.fn p.1.1),jN (c p.2.2) p.2.2]:=by
 refine Y.bg bc func59 rfl rfl rfl λm=>?_
 have x:a_ q [(101,lb [b0 p.1] [] (.n (.agg [.O 0 (.B (c p.1.1) 2 0 (c p.1.1)),.O 1 (.B (c p.1.2.1) 2 0 (c p.1.2.1)),.c (.B v 2 (c p.1.2.2) (a4.fn p.1.2.2))])) [.q 119 2 (c p.1.1) (a1.fn p.1.1),.q 50 2 (c p.1.2.1) (bd.fn p.1.2.1)]),
   (61,di (eS az) (λb=>az.B b) λb=>[c b<=4000000])]:=.cons (l' (pd p.1 i.aZ i.bl i.aW i.bm i.aM)) (.cons (.a9 λb f=>Cz b f) .nil)
 have iF:a_ q [(61,lb [az.B p.2.2] [] (cF 0 (.B (c p.2.2) 1 0 (c p.2.2))) [jN (c p.2.2) p.2.2])]:=.cons (l' (IY p.2.2 j)) .nil;refine bf x [901] a B ?_;refine g.ca b7 (aeJ p) (mC (H1 p) 2 5 8 10) a a a a
  ⟨.aV,.aV,cg.dX a a a a a a (eh (bh:=[]) bc x (ar:=h _) a D),.aV,.aV,cg.eU a a a a a a (aY.eval (bh:=[]) bc x a (by exact⟨az.J _,by rw[az.l];exact d⟩)),.aV,.aV,cg.eV a a a a a a (eh (bh:=[]) bc iF (ar:=h _) a bE),.aV,
   cg.eW a a a a a a (eh (bh:=[]) bc x (ar:=h _) a B),B⟩ ?_
 intro y O;show g q _ _ _ _ _ (H1 p (y 2) (y 5) (y 8) (y 10));rw[O 2 ca,O 5 ca,O 8 ca,O 10 ca];refine tJ x [] 1 a B (g.bM 3 a a a D D (g.bc [gv p,.cells 33 [.O 2 (.B (c p.1.1) 2 0 (c p.1.1)),cM bd p.1.2.1,cM a4 p.1.2.2,cM az p.2.1,.O 4 (.B (c p.2.2) 1 0 (c p.2.2))],.q 119 2 (c p.1.1) (a1.fn p.1.1),.N,jN (c p.2.2) p.2.2] a ?_ ?_))
 .simp[az.l,ii]
 refine g.bf () [2,4] ?_ (λk e=>absurd e D);simp
abbrev ub:aq:=.cells 33 lE
abbrev wq(g f:Nat)(d:m dF)(e:m (Int×Int))(b a:m Int):aq:=.cells 33 [.O 2 (.B g 2 0 f),cM bd d,cM a4 e,cM az b,.O 3 (.B (c a) 1 0 (c a))]
abbrev aeV(d:m b4)(f b:Nat)(a:m Int)(e:Nat):y:=
 [aH 4 0,aH 4 0,aH 4 0,aH 4 0,cF 2 (.B (c d) 2 0 f),Q b,cF 2 (.bx (c d) 2 (0+(b:Int).toNat) 0),fM (lT d b),
  aH 4 0,aH 4 0,aH 4 3,az.B a,fM (fj (lT d b) a),aH 6 0,.any].getD e .any
abbrev L0(i:dI)(d:m b4)(g o:Nat)(e:m dF)(f:m (Int×Int))(b a:m Int)(j k:Bool):m aq:=
 match j,k with
 |false,_=>[gv i,ub,qd d,jN (c a) a,wq (c d) g e f b a,.N]
 |true,v=>[gv i,ub,qd d,jN (c a) a,wq (c d) g e f b a,.N,.cells 119 [.c (.int .i64 0),cH]]
 |true,l=>[gv i,ub,qd d,jN (c a) a,wq (c d) g e f b a,.N,L2 d o b]
set_option maxRecDepth 20000 in
def XM(p)(bO)(d)(A e)(dz)(k)(cz b)(t:A<=c d)(u:c d<=4000000)(s:e<A)(E:gV (λj:b4=>j.1==bO) (d.take A)=e)(C:∀j∈d,c j.2<=4000000):
  bl (ι:={f:Nat->m M // bs (c d) f (a1.fn (kz cz d A e).1)}) q 106 [aH 4 0,Q bO] [gv p,ub,qd d,jN (c b) b,wq (c d) A dz k cz b] (λ_=>.S []) (λf=>[gv p,ub,.q 119 2 (c d) f.1,jN (c b) b,wq (c d) (kz cz d A e).2 dz k cz b,.N,L2 d e cz]):=by
 refine bl.bO func106 rfl rfl rfl (g.aO ?_);refine bR [901] a B (g.freeze 3 5 a a a ?_);refine cB a B (g.aA (VZ d A t u 152 [.int .i64 bO] (λj=>j.1==bO) λj _=>Wh j bO) [2] a ?_);rw[E];have o:lT d e=d.getD e (0,[]):=nT;have i:lT d e∈d:=by rw[o];grind
 have x:a_ q [(153,eO [fM (lT d e),az.B cz] (fM (fj (lT d e) cz)))]:=.cons (e8 (WF (lT d e) cz (C _ i))) .nil;have cy:0<=(e:Int)/\(e:Int)<((A:Nat):Int):=w;have D:c d=c d/\0+(e:Int).toNat<c d:=⟨rfl,by omega⟩
 refine bR [902] a B ?_;refine g.ca b7 (aeV d A e cz) (ns (L0 p d A e dz k cz b) 13 14) a a a a
  ⟨.bo,.bo,.bo,.bo,.bo,.bo,.de bc x (cy:=by exact cy),.de bc x (cy:=by exact D),.bo,.bo,.bo,.bo,.de bc x (cy:=by exact a),
   cg.fe a a (eh (bh:=[]) bc x (ar:=h _) a B),cg.ff a a (eh (bh:=[]) bc x (ar:=h _) a B),B⟩ ?_
 intro y z;show g q _ _ _ _ _ (L0 p d A e dz k cz b (y 13) (y 14));rw[z 13 ca,z 14 ca];unfold kz;by_cases r:(fj (lT d e) cz).2.length=0
 .rw[bo (by rw[<-o];exact r)];refine bR [29] a ?_ ?_
  .simp only[U,a7,r];exact bw
  exact g.aA (Vf d A e t s u) [2] a (cB a B ⟨⟨_,bs.same⟩,.inr a,a,a,_,_,_,a,a,a,B⟩)
 rw[bj (by rw[<-o];exact r)];refine bR [-29] a ?_ ?_
 .simp only[U];exact⟨B,by omega,by omega,by omega,by simpa using r⟩
 refine⟨⟨l9 (0+(e:Int).toNat) [.int .i64 (lT d e).1,ly (fj (lT d e) cz)] (a1.fn d),?_⟩,.inr a,a,a,_,_,_,a,a,a,B⟩;have:=a1.cV d e (fj (lT d e) cz) (c d) (bC _);rw[o]at *;rw[show 0+(e:Int).toNat=e by omega];exact this
def Vg(d)(b)(z:c b<=4000000):
  Y q 107 [cF 0 (.B (c (d::b)) 1 0 (c (d::b))),Q 0,Q 1] [jN (c (d::b)) (d::b)] (cF 0 (.B (c (d::b)) 1 0 (c b))) [jN (c (d::b)) (b++[0])]:=by
 refine Y.ab func107 rfl λy=>?_;refine bR [-16,906] a Fi ?_;have j:bV (c (d::b)) (h 0)-bV 0 n+(bV (c (d::b)) n-bV 0 (h 1))=c b:=wS;rw[j];refine g.region ?_;refine gH [] 4 a B ?_;refine g.aK (a2.hO bc a a a a a a a a a w bE (by simp<;>omega)) a a ?_;refine g.aK (a2.e1 bc a a a a a a ?_) a a ?_
 .simp
 refine bR [907] a B (g.gL 0 (az.fn (b++[0])) a (λ_ _=>rfl) (λu idx e x m s=>?_) ?_)
 .refine⟨m,?_,λ_ i=>i⟩;rw[<-s];congr 1;unfold nQ qJ;simp[fe]at e;have o:bV (c b+1) (h 0)-bV 0 n=0:=rfl;have k:bV 0 (h 1)=1:=rfl;have p:bV (c b+1) n=c b+1:=rfl;simp only[fe,cR,o,k,p];have r:az.fn (b++[0]) idx=az.a8 ((b++[0]).getD idx 0):=rfl;rw[r];by_cases i:idx<c b
  .have f:(b++[0]).getD idx 0=b.getD idx 0:=ds;have t:az.fn (d::b) (0+1+(idx-0))=az.a8 (b.getD idx 0):=by rw[show 0+1+(idx-0)=idx+1 by omega];rfl
   rw[bj w,bo w,f,<-t]
  obtain rfl:idx=c b:=w;have f:(b++[0]).getD (c b) 0=0:=D;rw[bo w,f];rfl
 exact Qs
end
def zK(b:Int)(a:dI):dI×Bool:=if hs b a=l then(hO a,oq a)else(hu,v)
def Yy(f)(p)(m:sw p)(o:dH p.1):Y (af.aC T) 58 [Q f,gB p] [] (j4 (zK f p).1 (zK f p).2) []:=by
 refine Y.bg bc func58 rfl rfl rfl λS=>?_;have t:a_ (af.aC T) [(52,xS)]:=.cons EY .nil;have E:=o.aZ;have C:=m.fK;unfold zK;cases j:hs f p with
 |false=>
  refine bf t [10] a ?_ ?_
  .simp only[U,a1.l,a1.J,bd.l,bd.J,a4.l,a4.J,az.l,az.J,j,m,a',a9,iC]
  exact Fz
 |true=>
 rw[bo a];have J:=tV.1 j;refine bf t [-10] a ?_ ?_
 .simp only[U,a1.l,a1.J,bd.l,bd.J,a4.l,a4.J,az.l,az.J,j,m,a',a9,gz]
 refine g.aA (Yt p o m.gp m.fK) [] a ?_;obtain⟨b,d,K⟩:=p;cases K with
 |nil=>
  have z:(hO (b,d,[]),oq (b,d,[]))=((b,d,[]),v):=rfl;rw[z];refine bR [17] a D (g.bM 2 a a a D D (g.bM 3 a a a D D (g.b9 () [] ?_ e4)));simp[ii]
 |cons e i=>
  have F:wY (b,d,e::i) (c b.1) 0 b.1 (c b.1):=⟨g5 _,rfl,bC _,by simp[ga],o.bl⟩
  obtain⟨k,s,M,r⟩:=F.next J D;have x:c i<=4000000:=by have:c i+1<=4000000:=C;omega
  refine bR [-17] a ?_ ?_
  .simp<;>omega
  refine g.cH (XM (b,d,e::i) e b.1 (c b.1) k b.2.1 b.2.2 d (e::i) (bC _) E s M o.bl) a a a a D a ?_;rintro⟨A,y⟩;refine cB a B (g.aA (Vg e i x) [3] a (cB a B ?_));have O:(kz d b.1 (c b.1) k).1.length=c b.1:=r.len;have R:(kz d b.1 (c b.1) k).2<=c b.1:=r.gi;have I:(hO (b,d,e::i)).1.1=(kz d b.1 (c b.1) k).1.take (kz d b.1 (c b.1) k).2:=r.c1.symm;refine g.bM 2 a a a bw bw (g.bM 3 a a a D D (g.b9 () [] ?_ e4));generalize kz d b.1 (c b.1) k=N at *;simp only[U.Y,U,I,a',a9];and_intros<;>first|exact bs.same|rfl|(simp;omega)|skip
  .intro u q;have:=y u w;simp[ii,this,c5.fn,gI,aj,iA,q,dw]
  intro u q;show az.a8 ((i++[0]).getD u 0)=az.a8 (i.getD u 0);simp[List.getElem?_append,q]
def A5{j}{d}{b}(f:∀g,g<b->d.getD g 0<j)(e:b<c d->j<=d.getD b 0):∀a,a<=c d->(fE j d a).2=decide (b<a)
 |0,_=>by simp[fE]
 |a+1,p=>by
  have m:=A5 f e a w;rw[xn w];generalize fE j d a=k at *;unfold gu;by_cases o:b<a
  .grind
  by_cases i:b=a
  .subst i;have:=e w;grind
  have:=f a w;grind
def SF{j}{d}{a}(f:∀i,i<a->d.getD i 0<j)(b:a<c d->j<=d.getD a 0)(g:e<c d):
  (fE j d (e+1)).1=(fE j d e).1++(if e=a then[j]else[])++(if d.getD e 0≠j then[d.getD e 0]else[]):=by
 have o:=A5 f b e w;rw[xn g];generalize fE j d e=m at *;unfold gu;by_cases p:a<e
 .grind
 by_cases k:a=e
 .subst k;have:=b g;grind
 have:=f e w;grind
def ZU{j}{d}{a}(e:∀b,b<a->d.getD b 0<j)(f:a<c d->j<=d.getD a 0)(i:a<=c d):fa d j=(fE j d (c d)).1++(if a=c d then[j]else[]):=by
 have:=A5 e f (c d) (bC _);have g:fE j d (c d)=d.foldl (gu j) ([],v):=by unfold fE;rw[c0]
 unfold fa;rw[<-g];grind
section
variable {q:af T}
def VT(d)(i)(ah)(f:Int->Bool)(u:∀j,j∈d->Y q i [Q j,ay (.R ah)] [] (bg (f j)) []):
  Y q 134 [az.B d,ay (.fn (.func i) [] [.R ah])] [] (Q (gV f d)) []:=by
 refine Y.ab func134 rfl λt=>?_;have y:=t.B 0 a;refine aQ a B (g.aB 0 (λb=>b<=c d/\∀e,e<b->f (d.getD e 0)=v) (λb:Nat=>[(0,az.B d),(1,ay (.fn (.func i) [] [.R ah])),(7,Q (c d)),(8,Q b)]) (λ_=>[]) (λb=>c d-b) 0 a D a B a ⟨by omega,by omega⟩ ?_);rintro b ⟨s,k⟩;by_cases p:b<c d
 .have r:d.getD b 0∈d:=N;have m:d.getD (b:Int).toNat az.E=d.getD b 0:=N;refine a3 [9] a pS ?_;rw[m];refine g.aA (u _ r) [] a ?_;cases x:f (d.getD b 0)with
  |true=>
   refine a3 [16] a D (g.aS (bW.zero a ?_));simp[tg p x k]
  |false=>
   exact a3 [-16] a j8 (g.aw (b+1) a D B N w)
 refine a3 [-9] a bM (g.az ?_);refine aQ a B (g.ao a ?_);simp[th (o:=d) (O:=0) (λe z=>k e w)]
def W6(A j):Y q 145 [Q A,ay (.R [.int .i64 j])] [] (bg (decide (j<=A))) []:=by refine Y.ab func145 rfl λb=>?_;exact aQ a B (g.ao a)
abbrev YW(a:m Int)(b:Int)(d:Nat):bL:=[(0,az.B a),(3,ay (.R [.int .i64 b])),(5,Q d)]
def W7(d)(j)(F:c d<=100000000):Y q 100 [az.B d,Q j] [] (az.B (fa d j)) []:=by
 refine Y.ab func100 rfl λE=>?_;refine a3 [901] a B (g.freeze 3 0 a a a ?_);refine aQ a B (g.aA (VT d 145 [.int .i64 j] (λm=>decide (j<=m)) λm _=>W6 m j) [] a ?_);obtain⟨b,z,x,u,O⟩:∃b:Nat,b<=c d/\(∀p,p<b->d.getD p 0<j)/\(b<c d->j<=d.getD b 0)/\gV (λm=>decide (j<=m)) d=if b<c d then(b:Int)else -1:=by
  rcases yP (λm=>decide (j<=m)) d with⟨r,f⟩|⟨e,k,r,f,aa⟩
  .refine⟨c d,bC _,λp A=>?_,λf=>absurd f (xi _),by rw[r,bj (xi _)]⟩;have:=f (d.getD p 0) N;simp at this;grind
  refine⟨e,by omega,λp A=>?_,λ_=>?_,by rw[r,bo k]⟩
  .have:=f (d.getD p 0) (by grind[List.mem_take_iff_getElem]);simp at this;grind
  grind
 rw[O];apply g.cj (YW d j b) [.N]
 .intro dx;by_cases t:b<c d
  .rw[bo t];exact a3 [-13,904] a D kE
  rw[bj t];obtain rfl:b=c d:=w;exact a3 [13,904] a D kE
 refine a3 [905] a B (g.bE 6 3 1 a a ?_);refine aQ a B ?_;refine g.aB 2 (λe=>e<=c d) (λe:Nat=>[(0,az.B d),(3,ay (.R [.int .i64 j])),(5,Q b),(6,.n (.Q (.x 1 1 (fE j d e).1.length (az.fn (fE j d e).1)))),(16,az.B d),(17,Q (c d)),(18,Q e)])
  (λe=>[.N,.x 3 1 (fE j d e).1.length (az.fn (fE j d e).1)]) (λe=>c d-e) 0 a ?_ a ?_ a w ?_
 .simp[fE]
 .simp[fE]
 intro e k;have C:=xm j d e k;by_cases f:e<c d
 .have i:=SF x u f;have al:d.getD (e:Int).toNat az.E=d.getD e 0:=rfl;generalize fE j d e=o at *;have I:c o.1<=e+1:=w;generalize d.getD e 0=s at *;by_cases hi:e=b<;>by_cases iV:s=j
  .rw[bo hi,bj Ao,g3]at i;have O:=az.a0 o.1 j;refine bR [19,25,-32] a z7 (g.aw (e+1) a ?_ ?_ f w)
   .rw[i];simp;exact O
   rw[i];simp;exact O
  .rw[bo hi,bo Ao]at i;have O:=az.e2 o.1 j s;refine bR [19,25,32] a z7 (g.aw (e+1) a z5 ?_ f w);exact z5
  .rw[bj hi,bj Ao,g3,g3]at i;refine bR [19,-25,-32] a z7 (g.aw (e+1) a ?_ ?_ f w)
   .rw[i];simp
   rw[i];simp
  rw[bj hi,bo Ao,g3]at i;have O:=az.a0 o.1 s;refine bR [19,-25,32] a z7 (g.aw (e+1) a z5 ?_ f w);exact z5
 obtain rfl:e=c d:=w;have y:=ZU x u z;rw[y];generalize fE j d (c d)=o at *;refine bR [-19] a D (g.az ?_);by_cases hi:b=c d
 .rw[bo hi];have O:=az.a0 o.1 j;refine bR [41] a O8 (g.ao a ?_);simp;exact O
 rw[bj hi,g3];refine bR [-41] a O8 (g.ao a ?_);simp
end
def La{f}{d}:∀(a b:m bD),b.Nodup->(a.foldl (fc f d) b).Nodup
 |[],b,e=>e
 |g::a,b,e=>by rw[hS];refine La a _ ?_;unfold fc;grind
def Ey(f)(o)(d):(f_ f o d).Nodup:=La _ _ List.nodup_nil
theorem D'{d}{b a}:a∈fI d b↔a=b∨a∈d:=by
 induction d with
 |nil=>simp[fI]
 |cons f g e=>simp[fI];split<;>simp[e,or_left_comm,or_assoc]
def abo{d}{e}(g:d.Pairwise λa b=>a.1<b.1)(f:∀i∈d,i.1≠e.1):(fI d e).Pairwise λa b=>a.1<b.1:=by
 induction d with
 |nil=>simp[fI]
 |cons a p j=>
  obtain⟨o,m⟩:=iy.1 g;have k:=f a iB;simp[fI];grind[List.pairwise_cons,D']
def DI:∀(d e:m cY),e.Pairwise (λa b=>a.1<b.1)->d.Pairwise (λa b=>a.1≠b.1)->(∀a∈d,∀b∈e,b.1≠a.1)->(d.foldl fI e).Pairwise λa b=>a.1<b.1
 |[],_,f,_,_=>f
 |a::d,e,f,g,i=>by obtain⟨d1,d2⟩:=iy.1 g;refine DI d _ (abo f (i a iB)) d2 λo k b j=>?_;grind[D']
theorem y0(f)(cT):ig f cT=(cT.map (gF f)).foldl fI []:=by unfold ig;rw[List.foldl_map];rfl
theorem DL{a:m bD}(b:cm f=l)(d:∀q∈a,cD q=l)(k:a.Nodup):(a.map (gF f)).Pairwise λr s=>r.1≠s.1:=by rw[ro];refine List.Pairwise.imp_of_mem (λ{e g} o p i j=>i ?_) k;exact y2 b (d e o) (d g p) j
theorem Lw{bO}{cT}(a:cm f=l)(e:∀b∈cT,cD b=l)(d:cT.Nodup)(g:c cT<=4):tz bO f cT=j0 bO f cT:=by
 show(bO,l_ (cT.map (gF f)))=(bO,ig f cT)
 grind[abn,DL,y0]
theorem D1{bO}{cT}(b:cm f=l)(e:∀m∈cT,cD m=l)(i:cT.Nodup)(r:1<=c cT)(q:c cT<=4):ij f (j0 bO f cT)=decide (1<=bO/\bO<=99):=by
 have p:c (ig f cT)=c cT:=DJ f cT;rw[o4,za,bz];constructor
 .exact λd=>d.c0
 intro d;refine⟨d,b,by show 1<=c (ig f cT)/\_;rw[show(j0 bO f cT).2=ig f cT from a];omega,λo j=>?_,?_⟩
 .obtain⟨k,g,rfl⟩:=aas (show o∈ig f cT from j);have:=aa3 (e k g);simp[right,this]
 show (ig f cT).Pairwise _;rw[y0];exact DI _ _ List.Pairwise.nil (DL b e i) D
def zb(f):∀e a(b:m bD),c b<=e->gg f e a b=(aA ((c b+3) / 4)).map λd:Nat=>j0 (a+d) f (gS b d)
 |0,a,b,j=>by have:c b=0:=w;exact bE
 |e+1,a,b,j=>by
  simp[gg];by_cases g:0<c b
  .rw[bo g,zb f e (a+1) (b.drop 4) N];have i:(c b+3) / 4=(c (b.drop 4)+3) / 4+1:=N;rw[i,w_,kj,uM];congr 1
   .simp[gS]
   refine o6 λd _=>?_;show j0 (a+1+(d:Nat)) f (((b.drop 4).drop (4*d)).take 4)=j0 (a+((d+1:Nat):Int)) f ((b.drop (4*(d+1))).take 4);grind[List.drop_drop]
  grind
def B6{d}(e:∀a∈d,cD a=l)(b:d.Nodup)(g:u<(c d+3) / 4):(∀a∈gS d u,cD a=l)/\(gS d u).Nodup/\1<=c (gS d u)/\c (gS d u)<=4:=
 ⟨λa f=>e a (p4 (gN f)),(b.sublist (List.drop_sublist _ _)).sublist (List.take_sublist _ _),by simp[gS];omega,by simp[gS];omega⟩
def Kf{b}{d}(o:cm f=l)(e:∀p∈d,cD p=l)(a:d.Nodup)(g:u<(c d+3) / 4):nw f b d u=(decide (1<=dk b+(u:Int)/\dk b+(u:Int)<=99)&&!(c b.1+u==20)):=by obtain⟨i,j,k,m⟩:=B6 e a g;unfold nw l6;grind[Lw,D1]
def aam{b}{a:m bD}(d:cm f=l)(q:∀u∈a,cD u=l)(p:a.Nodup)(t:∀e,e<(c a+3) / 4->nw f b a e=l):jz f b a ((c a+3) / 4)=gg f (c a) (dk b) a:=by
 rw[zb f _ _ _ (bC _)];refine o6 λe g=>?_;have g:=rr.1 g;obtain⟨i,j,o,k⟩:=B6 q p g;have s:=t e g;have r:ij f (j0 (dk b+(e:Int)) f (gS a e))=l:=by rw[D1 d i j o k];rw[Kf d q p g]at s;grind
 unfold l6;rw[Lw d i j k,bo r]
def iP.hE{f}{b}(d:iP f b):1<=dk b/\dk b<=100:=by
 unfold R1.dk;split
 .omega
 rename_i a;have:=(d.cd _ (Da a (0,[]))).c0;omega
def ZR(f)(b)(a)(o):qA f b a o=EC f b a o:=by
 unfold qA EC;by_cases i:h3 f b=l/\(a=1∨a=2)/\dO o=l
 .rw[bo i,bo ⟨i.1,by omega,i.2.2⟩];have g:=r_.1 i.1;have y:=g.hE;have K:c b.2.2<=9:=by have:=g.ed;simp[g_,cp,bz]at this;omega
  have I:=g.len;have z:=(qS (f:=f) (d:=eD b.1) (oP i.2.2)).1;have s:=Ey f o (eD b.1);have r:c (kx f b o)=(c (f_ f o (eD b.1))+3) / 4:=by unfold kx;rw[zb _ _ _ _ (bC _)];simp
  have B:kx f b o=gg f (c (f_ f o (eD b.1))) (dk b) (f_ f o (eD b.1)):=rfl;unfold pE;simp only;generalize f_ f o (eD b.1)=d at *;obtain⟨M,E,R,D⟩:=EI (nw f b d) ((c d+3) / 4) 0;generalize mY (nw f b d) ((c d+3) / 4) 0=m at *;have C:∀e,e<(c d+3) / 4->nw f b d e=(decide (1<=dk b+(e:Int)/\dk b+(e:Int)<=99)&&!(c b.1+e==20)):=λe k=>Kf g.key z s k;by_cases p:m<(c d+3) / 4
  .rw[bo p];have u:=D w;rw[C m p]at u;have j:fB f b o=l:=by simp[fB,jK,bz,r];simp[AN,dq,AP,gl]at u;omega
   grind
  rw[bj p];obtain rfl:m=(c d+3) / 4:=w;have q:∀e,e<(c d+3) / 4->1<=dk b+(e:Int)/\dk b+(e:Int)<=99/\c b.1+e≠20:=λe k=>by grind
  have J:c b.1+(c d+3) / 4<=20:=by refine Nat.le_of_not_lt λF=>?_;exact(q (20-c b.1) w).2.2 w
  have N:dk b+(((c d+3) / 4:Nat):Int)-1<=99:=by
   rcases n9 ((c d+3) / 4)with A|A
   .grind
   have:=(q ((c d+3) / 4-1) w).2.1;omega
  by_cases x:20<c1 b
  .rw[bo x];have j:fB f b o=l:=Og;grind
  rw[bj x];by_cases t:c b.2.2=9
  .rw[bo t];have j:fB f b o=l:=Og;grind
  rw[bj t];have j:fB f b o=v:=by simp[fB,xa,dq,r];omega
  rw[j];simp only[ey,B,aam g.key z s λe k=>R e (g5 _) k,iC];rfl
 grind
theorem L'{d}{e a}(b:a∈ec d e):a=e∨a∈d:=by
 induction d with
 |nil=>simpa[ec]using b
 |cons f i g=>
  simp only[ec]at b;grind
def abs{d}{i}(g:d.Pairwise λa b=>a.1<b.1):(ec d i).Pairwise λa b=>a.1<b.1:=by
 induction d with
 |nil=>simp[ec]
 |cons a m e=>
  obtain⟨k,f⟩:=iy.1 g;simp only[ec];split
  .rename_i t;refine iy.2 ⟨λo j=>?_,e f⟩;grind[L']
  grind[List.pairwise_cons]
def C':∀(d a:m fo),(∀b∈d,f' b=l)->(∀b∈a,f' b=l)->a.Pairwise (λa e=>a.1<e.1)->(∀b∈d.foldl ec a,f' b=l)/\(d.foldl ec a).Pairwise λa e=>a.1<e.1
 |[],a,_,g,f=>⟨g,f⟩
 |b::d,a,k,g,f=>C' d (ec a b) (λj i=>k j (mm _ i)) (λj i=>by grind[L']) (abs f)
theorem aaI{d}(f:∀j∈d,f' j=l)(k:d.Pairwise λb e=>b.1<e.1):kW d (c d)=l:=by
 refine gd.2 λi g=>?_;rw[cp];refine⟨f _ N,?_⟩;rcases n9 i with a|a
 .simp[a]
 rw[jK];exact FI
def ZT(a:m b4):kW (eD a) (c (eD a))=l:=by
 unfold eD;split
 .rename_i b;obtain⟨d,e⟩:=C' (dD a) [] (aW.1 b) D List.Pairwise.nil;grind[aaI]
 rfl
def acE{d}(a:∀j∈d,c j.2<=4):c (dD d)<=4*c d:=by
 induction d with
 |nil=>simp[dD]
 |cons g m e=>
  have b:=e λi f=>a i (mm _ f);have k:=a g iB;simp only[dD,rp,c9,kK,fe]at b⊢;omega
def iP.hP{f}{b}(e:iP f b)(a:mi b):1<=c1 b:=by have d:=te b.2.2 a.aM;unfold R1.c1;split<;>omega
def iP.cB{b}(a:iP f b)(d:mi b):Gl f b:=by refine⟨a.key,?_,ZT _,a.ed,a.hP d⟩;have:=acE λg e=>(a.cd g e).len.2;have:=a.len;omega
def acB{b}{a}{o}(d:h3 f b=l)(e:1<=a/\a<=2)(g:dO o=l):EC f b a o=(if fB f b o=l then b else ey f b a o,!fB f b o):=bo ⟨d,e,g⟩
def K'{f}{d}:∀(b e:m bD)a,a∈b.foldl (fc f d) e↔a∈e∨(a∈b/\i6 d (d8 f a)=0)
 |[],e,a=>by simp
 |o::b,e,a=>by
  rw[hS,K' b];unfold fc;split
  .rename_i i;simp[cp,gl]at i;grind
  rename_i i;simp only[cp,gl,iT]at i;by_cases k:a=o
  .subst k;by_cases g:i6 d (d8 f a)=0
   .have:e.contains a=l:=by
     cases j:e.contains a with
     |true=>rfl
     |false=>exact absurd ⟨g,j⟩ i
    have:a∈e:=by simpa using this
    grind
   grind
  grind
def zE{o}{b:m fo}{a}:a∈f_ f o b↔(∃d∈o,a∈cn d.2)/\i6 b (d8 f a)=0:=by unfold f_;rw[K'];simp
def abt{d}{e}{j}:(∃b∈ec d e,b.1=j)↔j=e.1∨∃b∈d,b.1=j:=by
 induction d with
 |nil=>simp[ec,eq_comm]
 |cons k m g=>
  simp only[ec];split
  .simp only[eT,exists_eq_or_imp,g];grind
  constructor
  .rintro⟨b,i,rfl⟩;rcases eT.1 i with rfl|i
   .omega
   exact .inr ⟨b,(hg.1 i).1,a⟩
  rintro(rfl|⟨b,i,rfl⟩)
  .exact⟨e,iB,a⟩
  by_cases f:b.1=e.1
  .exact⟨e,iB,f.symm⟩
  exact⟨b,mm _ (hg.2 ⟨i,by simpa using f⟩),a⟩
def J4:∀(e d:m fo) a,(∃b∈e.foldl ec d,b.1=a)↔(∃b∈e,b.1=a)∨∃b∈d,b.1=a
 |[],d,a=>by simp
 |f::e,d,a=>by rw[hS,J4 e,abt];grind
def abO{e}(b:right f e=l):∃d,cD d=l/\e.1=d8 f d:=by
 unfold right at b;split at b
 .rename_i d a;unfold hM at a;split at a
  .rename_i i;cases a;simp[cp]at i;exact⟨_,i.1,(by simpa using b:d8 f _=e.1).symm⟩
  cases a
 cases b
def acF{Z}(e:∀a∈Z,n2 f a):(dD Z).all f'=l:=by refine aW.2 λp b=>?_;obtain⟨a,d,b⟩:=p8.1 b;obtain⟨j,g,rfl⟩:=g4.1 b;obtain⟨o,m,i⟩:=abO ((e a d).gz j g);have k:=(e a d).c0;simp[f',cp,bz,i,d8];omega
def Kz{e:m b4}(w:∀k∈e,n2 f k)(g:Int):i6 (eD e) g=0↔g∉cc e:=by
 have t:=acF w;unfold eD;rw[bo t];have j:=J4 (dD e) [] g;have s:(∃r∈dD e,r.1=g)↔g∈cc e:=by
  simp only[dD,cc,p8,g4];constructor
  .rintro⟨_,⟨k,o,q,p,rfl⟩,rfl⟩;exact⟨k,o,q,p,a⟩
  rintro⟨k,o,q,p,rfl⟩;exact⟨_,⟨k,o,q,p,a⟩,a⟩
 have x:=(C' (dD e) [] (aW.1 t) D List.Pairwise.nil).1;generalize(dD e).foldl ec []=d at *;unfold i6;split
 .rename_i b i;have z:=x b (uF i);have A:b.1=g:=Ox;have:g∈cc e:=by rw[<-s];have:=j.1 ⟨b,uF i,A⟩;simpa using this
  simp[f',cp,bz]at z;grind
 rename_i i;have B:=sB.1 i;refine⟨λ_ u=>?_,λ_=>rfl⟩;obtain⟨r,y,ap⟩:=j.2 (.inl (s.2 u));exact B r y ae_
def DK{cT}{b}:b∈ig f cT↔∃g∈cT,b=gF f g:=by
 rw[y0];have:∀(a d:m cY),b∈a.foldl fI d↔b∈a∨b∈d:=by
  intro a;induction a with
  |nil=>simp
  |cons i a e=>intro d;rw[hS,e,D'];grind
 rw[this];grind
def zc{f}{j}:∀g d(b:m bD),c b<=g->(j∈cc (gg f g d b)↔∃e∈b,d8 f e=j)
 |0,d,b,p=>by have:b=[]:=AV.1 w;subst this;simp[gg,cc]
 |g+1,d,b,p=>by
  simp[gg];split
  .have i:=zc (f:=f) (j:=j) g (d+1) (b.drop 4) bM;have o:cc (j0 d f (b.take 4)::gg f g (d+1) (b.drop 4))=(ig f (b.take 4)).map (·.1)++cc (gg f g (d+1) (b.drop 4)):=bE;rw[o,e2,i];have:(j∈(ig f (b.take 4)).map (·.1))↔∃e∈b.take 4,d8 f e=j:=by
    rw[g4];constructor
    .rintro⟨q,t,rfl⟩;obtain⟨e,k,rfl⟩:=DK.1 t;exact⟨e,k,a⟩
    rintro⟨e,k,rfl⟩;exact⟨gF f e,DK.2 ⟨e,k,a⟩,a⟩
   rw[this];conv=>rhs;rw[<-sK 4 b]
   grind
  have:b=[]:=AV.1 w;subst this;simp[cc]
def LB{f}(j:cm f=l):∀i b(d:m bD),c d<=i->(∀e∈d,cD e=l)->d.Nodup->(cc (gg f i b d)).Nodup
 |0,b,d,r,_,_=>by simp[gg,cc]
 |i+1,b,d,r,p,o=>by
  simp[gg];split
  .have g:cc (j0 b f (d.take 4)::gg f i (b+1) (d.drop 4))=(ig f (d.take 4)).map (·.1)++cc (gg f i (b+1) (d.drop 4)):=bE;have t:(ig f (d.take 4)).Pairwise λs z=>s.1<z.1:=by rw[y0];exact DI _ _ List.Pairwise.nil (DL j (λe k=>p e (gN k)) (o.sublist (List.take_sublist _ _))) D
   rw[g,xe];refine⟨ro.2 (t.imp λr=>by omega),LB j i _ _ bM (λe k=>p e (p4 k)) (o.sublist (List.drop_sublist _ _)),λA w B u g=>?_⟩;subst g;obtain⟨s,x,rfl⟩:=g4.1 w;obtain⟨y,q,rfl⟩:=DK.1 x;obtain⟨e,k,g⟩:=(zc i _ _ bM).1 u;have g:=y2 j (p e (p4 k)) (p y (gN q)) g;subst g;rw[<-sK 4 d,xe]at o;exact o.2.2 e q e k a
  exact bE
def aa'(o):(cn o).flatten=o:=by
 have:∀b a,a<=c o->c o-a<=b->(iK o b a).flatten=o.drop a:=by
  intro b;induction b with
  |zero=>intro a f e;simp[iK,Gt (show c o<=a by omega)]
  |succ b d=>
   intro a f e;simp[iK];split
   .rename_i i;obtain⟨j,g,_⟩:=rJ o a i;rw[List.flatten_cons,d _ g w];conv=>rhs;rw[<-sK (ep o a-a) (o.drop a),List.drop_drop,show a+(ep o a-a)=ep o a by omega]
   exact bw
 exact(this (c o) 0 (g5 _) w).trans D
def acw{bO}{Z}{o}(g:cm f=l)(j:dO o=l)(q:∀a∈o,∀d∈cn a.2,dd f Z (d8 f d)=h d):dU f (fs bO f o) Z=h o:=by
 have e:=(zU.1 j).1;have m:∀a∈o,fG f Z (kT f a)=h a:=λa b=>by
  have p:=q a b;have x:gD f Z (kT f a).2=h (cn a.2):=by
   unfold gD kT;rw[bo]
   .congr 1;rw[uM];conv=>rhs;rw[<-List.map_id (cn a.2)]
    exact o6 λd i=>by simp[p d i]
   refine aW.2 λw t=>?_;obtain⟨d,i,rfl⟩:=g4.1 t;exact bE
  have u:iY (cn a.2)=h a.2:=by unfold iY;rw[aa',(e a b).2];simp
  unfold fG;exact bE
 have s:fq f Z (o.map (kT f))=o:=by
  unfold fq;rw[uM];conv=>rhs;rw[<-List.map_id o]
  exact o6 λa b=>by simp[m a b]
 have r:((o.map (kT f)).all λk=>(fG f Z k).isSome)=l:=aW.2 λk e=>by obtain⟨a,b,rfl⟩:=g4.1 e;exact bE
 unfold dU fs;simp[s,r,g,j,Bool.and_self,dw]
structure hQ(f:Int)(b:cb)(bT:Int)(o:m cJ):Prop where
 a2:iP f b
 jz:mi b
 ih:1<=bT/\bT<=2
 fV:dO o=l
 g2:fB f b o=v
section
variable {b:cb}{bT:Int}{o:m cJ}
def hQ.jF(k:hQ f b bT o){e}(j:e∈o){g}(i:g∈cn e.2):cD g=l:=by have:=(qS (f:=f) (d:=[]) (oP k.fV)).1 g;exact this (zE.2 ⟨⟨e,j,i⟩,a⟩)
def hQ.hq(q:hQ f b bT o)(m:Int):m∈cc (ey f b bT o).1↔m∈cc b.1∨∃g∈o,∃d∈cn g.2,d8 f d=m:=by
 have p:cc (ey f b bT o).1=cc b.1++cc (kx f b o):=by simp[ey,cc]
 rw[p,e2];unfold kx;rw[zc _ _ _ (bC _)];constructor
 .rintro(i|⟨d,e,rfl⟩)
  .exact .inl i
  obtain⟨⟨g,j,e⟩,_⟩:=zE.1 e;exact .inr ⟨g,j,d,e,a⟩
 rintro(i|⟨g,j,d,e,rfl⟩)
 .simp_all
 by_cases k:d8 f d∈cc b.1
 .simp_all
 exact .inr ⟨d,zE.2 ⟨⟨g,j,e⟩,(Kz q.a2.cd _).2 k⟩,a⟩
def hQ.new(g:hQ f b bT o):(∀e∈kx f b o,n2 f e)/\(kx f b o).Pairwise (λe x=>e.1<x.1)/\∀e∈kx f b o,dk b<=e.1:=by
 have t:=qS (f:=f) (d:=eD b.1) (oP g.fV);have w:=Ey f o (eD b.1);have q:=g.g2;have z:=g.a2.hE;unfold fB at q;unfold kx at *;generalize f_ f o (eD b.1)=d at *;rw[zb f _ _ _ (bC _)]at *;simp[xa,dq,kK,List.length_range]at q;refine⟨λe p=>?_,?_,λe p=>?_⟩
 .obtain⟨u,a,rfl⟩:=g4.1 p;have a:=rr.1 a;obtain⟨i,j,k,m⟩:=B6 t.1 w a;rw[<-za,D1 g.a2.key i j k m,bz];omega
 .rw[ro];refine List.pairwise_lt_range.imp λ{r s} y=>?_;show dk b+(r:Int)<dk b+(s:Int);omega
 obtain⟨u,a,rfl⟩:=g4.1 p;show dk b<=dk b+(u:Int);omega
def iP.jD(i:iP f b):∀e∈b.1,e.1<R1.dk b:=by
 intro e g;obtain⟨d,a,rfl⟩:=hd g;unfold R1.dk;rw[bj w,tc w];by_cases j:d=c b.1-1
 .exact bE
 have:=na.1 i.c5 d (c b.1-1) a w w;omega
def iP.hQ(i:iP f b):∀e∈b.2.1,e.1<R1.c1 b:=by
 intro e g;obtain⟨d,a,rfl⟩:=hd g;unfold R1.c1;rw[bj w,tc w];by_cases j:d=c b.2.1-1
 .exact bE
 have:=na.1 i.b_ d (c b.2.1-1) a w w;omega
def hQ.eB(e:hQ f b bT o):∀d∈(ey f b bT o).1,n2 f d:=λd a=>by
 rcases e2.1 a with a|a
 .exact e.a2.cd d a
 exact e.new.1 d a
def hQ.hZ(a:hQ f b bT o){bO}:dU f (fs bO f o) (ey f b bT o).1=h o:=by refine acw a.a2.key a.fV λk e m d=>?_;obtain⟨p,g⟩:=JV a.a2.key a.eB ((a.hq _).2 (.inr ⟨k,e,m,d,rfl⟩));obtain⟨i,j,_⟩:=yt g;rw[g,y2 a.a2.key i (a.jF e d) j]
def hQ.old(a:hQ f b bT o){i}{g}(j:dU f i b.1=h g):dU f i (ey f b bT o).1=h g:=
 acx (λe k=>Y7 a.a2.key a.eB (λe d=>(a.hq e).2 (.inl d))) j
def hQ.ok(a:hQ f b bT o):iP f (ey f b bT o):=by
 have y:=a.g2;simp[fB,xa,dq]at y;have m:=a.new;have x:=a.a2.hQ;have u:=a.a2.hP a.jz;refine⟨a.eB,?_,?_,λB g=>?_,?_,a.a2.key,?_,by simp[ey,c9];omega⟩
 .refine nc.2 ⟨a.a2.c5,m.2.1,λp j q e=>?_⟩;have:=a.a2.jD p j;have:=m.2.2 q e;omega
 .have i:cc (ey f b bT o).1=cc b.1++cc (kx f b o):=by simp[ey,cc]
  have t:=qS (f:=f) (d:=eD b.1) (oP a.fV);rw[i,xe];refine⟨a.a2.ax,LB a.a2.key _ _ _ (bC _) t.1 (Ey _ _ _),λp j q e i=>?_⟩;subst i;obtain⟨C,z,rfl⟩:=(zc _ _ _ (bC _)).1 e;exact(Kz a.a2.cd _).1 (zE.1 z).2 j
 .rcases e2.1 g with g|g
  .obtain⟨c8,dG⟩:=a.a2.aW B g;obtain⟨D,A⟩:=uP.1 dG;exact⟨c8,by rw[a.old A];rfl⟩
  rw[fU]at g;subst g;exact⟨⟨u,by show c1 b<=20;omega⟩,by rw[a.hZ];rfl⟩
 .refine nc.2 ⟨a.a2.b_,by simp,λp j q e=>?_⟩;rw[fU]at e;subst e;exact x p j
 have k:=a.a2.ed;have e:=a.ih;simp only[g_,cp,bz,gd]at k⊢;refine⟨λs r=>?_,by simp only[ey,c9,fT];omega⟩;simp only[ey,c9,fT]at r⊢;by_cases i:s<c b.2.2
 .have:=k.1 s i
  rwa [aj,jm i,<-aj]
 obtain rfl:s=c b.2.2:=w;rw[aj,hx (bC _),sI];simp only[ml,h9,hD,cp,bz];omega
def hQ.load(d:hQ f b bT o):gJ f (ey f b bT o) (c1 b)=h o:=by
 unfold gJ;have g:(ey f b bT o).2.1.find? (λa=>a.1==c1 b)=h (fs (c1 b) f o):=by
  simp only[ey,List.find?_append];have:b.2.1.find? (λa=>a.1==c1 b)=n:=sB.2 λa e=>by have:=d.a2.hQ a e;simp;omega
  rw[this];simp[fs]
 rw[g];exact d.hZ
def hQ.jr(i:hQ f b bT o){d:dF}(j:d∈b.2.1):gJ f (ey f b bT o) d.1=gJ f b d.1:=by
 unfold gJ;have k:(ey f b bT o).2.1.find? (λa=>a.1==d.1)=b.2.1.find? (λa=>a.1==d.1):=by
  simp only[ey,List.find?_append];cases e:b.2.1.find? (λa=>a.1==d.1)with
  |some a=>rfl
  |none=>exact absurd (sB.1 e d j) D
 rw[k];cases e:b.2.1.find? (λa=>a.1==d.1)with
 |none=>rfl
 |some a=>
  obtain⟨m,g⟩:=uP.1 (i.a2.aW a (uF e)).2;show dU f a _=dU f a _;rw[g,i.old g]
end
section
variable {q:af T}[q.b1]
abbrev zt:fy:=(hu,j6,yR,ys)
def eM.zero:eM 0 zt:=⟨fx.nil,rfl,rfl⟩
end
def fx.gB{p}(a:fx j p)(b:j<=1000000):sw p:=⟨a.ba.tokb.eP,by have:=a.cn;omega,by have:=a.c_;omega⟩
end R1
section
namespace R1
variable {q:af T}[q.b1]
abbrev Z3(b:cb)(a:Nat):Nat:=bV (c b.1) (h (a:Int))-bV 0 n
abbrev Z4(b:cb)(a:Nat):Nat:=bV (c b.1) n-bV 0 (h ((a:Int)+1))
abbrev lU(a:cb):Nat->m M:=fH (bV 0 n) (a1.fn a.1)
abbrev kP(b:cb)(a:Nat):Nat->m M:=fH (bV 0 (h ((a:Int)+1))) (a1.fn b.1)
end R1
end
namespace R1
section
variable {q:af T}
def Wu(d:m Int)(e:Int):Y q 39 [az.B d,Q e] [] (bg (d.contains e)) []:=by
 refine Y.ab func39 rfl λj=>?_;have s:=j.B 0 a;refine aQ a B (g.aB 0 (λb=>b<=c d/\∀f,f<b->d.getD f 0≠e) (λb:Nat=>[(0,az.B d),(1,Q e),(5,Q b)]) (λ_=>[]) (λb=>c d-b) 0 a D a B a ⟨by omega,by omega⟩ ?_);rintro b ⟨o,p⟩;by_cases k:b<c d
 .have i:d.getD (b:Int).toNat az.E=d.getD b 0:=rfl;by_cases r:d.getD b 0=e
  .have:d.contains e=l:=N;rw[this];refine a3 [9,17] a ?_ (g.aS (bW.zero a));exact bE
  refine a3 [9,-17] a Pw (g.aw (b+1) a D B ⟨k,λf t=>?_⟩ w);grind
 have:d.contains e=v:=ug;exact PO
abbrev Hs:bH:=ej (eS az) c7 (λa b=>bg (a.contains b)) λ_ _=>[]
def adJ:bK q 39 Hs:=.bk λa b _=>Wu a b
def WB(p)(b:dH p.1):Y q 23 [gB p,gB p] [] (bg l) []:=by refine Y.ab func23 rfl λe=>?_;have d:a_ q [(51,eO [b0 p.1,b0 p.1] (bg l)),(24,xN)]:=.cons (e8 (WA p.1 b)) (.cons EU .nil);refine bf d [10,17] a ?_ (g.ao a);exact bE
structure ss(d:m dF)(bt:m Int)(e:Nat)(all:m Int):Prop where
 ax:all.Nodup
 mem:∀j,j∈all↔j∈d.flatMap ez∨j∈bt.take e
def ss.len{d:m dF}{a:m Int}(f:ss d [] 0 a):c a=c (fr d):=by
 have g:=DE d;have i:∀e,e∈a↔e∈fr d:=λe=>by rw[f.mem,pr];simp[vO]
 exact xh (pt _ _ f.ax λe b=>(i e).1 b) (pt _ _ (g.imp λf=>by omega) λe b=>(i e).2 b)
def ss.le{g:m dF}{b:m Int}{a:m Int}(d:ss g b e a):c a<=c (g.flatMap ez)+c b:=by
 have:=pt a (g.flatMap ez++b) d.ax λi f=>by
  rcases(d.mem i).1 f with d|d
  .simp_all
  exact List.mem_append_right _ (gN d)
 simp_all
def Wx(d:cb)(M:iL d)(H:c d.2.1<=4000000)(I:c (g7 d.2.1)<=4000000):Y q 15 [b0 d] [] (Q (c (fr d.2.1))) []:=by
 refine Y.ab func15 rfl λG=>?_;have j:a_ q [(39,Hs)]:=.cons adJ .nil;have T:=J1 d.2.1;refine a8 j [902] a B (g.bE 3 3 1 a a ?_);refine b9 j a B (g.aB 2 (λe:Nat×m Int=>e.1<=c d.2.1/\ss (d.2.1.take e.1) [] 0 e.2) (λe=>[(1,aH 0 0),(3,.n (.Q (.x 1 1 (c e.2) (az.fn e.2)))),(4,Q e.1)]) (λe=>[im d,.x 3 1 (c e.2) (az.fn e.2)]) (λe=>c d.2.1-e.1) (0,[]) a D a D a ⟨by simp,⟨by simp,by simp⟩⟩ ?_);rintro⟨f,t⟩ ⟨z,x⟩;simp only at z x;by_cases s:f<c d.2.1
 .have p:d.2.1.getD f bd.E=d.2.1.getD f (0,[]):=rfl;have y:=M _ (kr s (0,[]));have aa:=A8 s;have E:(d.2.1.take (f+1)).flatMap ez=(d.2.1.take f).flatMap ez++ez (d.2.1.getD f (0,[])):=Ou;have V:c ((d.2.1.take f).flatMap ez)+c (ez (d.2.1.getD f (0,[])))<=c (d.2.1.flatMap ez):=by
   have R:d.2.1.flatMap ez=(d.2.1.take (f+1)).flatMap ez++(d.2.1.drop (f+1)).flatMap ez:=by rw[<-List.flatMap_append,sK]
   rw[<-c9,<-E,R,c9];omega
  generalize d.2.1.getD f (0,[])=J at *;refine a8 j [12] a bM ?_;simp only[cR,p];refine g.aA (JF J y.1 w) [] a (b9 j a B ?_);generalize ez J=b at *;refine g.aB 2 (λe:Nat×m Int=>e.1<=c b/\ss (d.2.1.take f) b e.1 e.2) (λe=>[(1,aH 0 0),(3,.n (.Q (.x 1 1 (c e.2) (az.fn e.2)))),(4,Q f),(5,az.B b),(6,Q e.1)]) (λe=>[im d,.x 3 1 (c e.2) (az.fn e.2)]) (λe=>c b-e.1) (0,t) a D a D a ⟨by simp,⟨x.ax,by simpa using x.mem⟩⟩ ?_;rintro⟨i,o⟩ ⟨K,k⟩;simp only at K k;have Z:=k.le;by_cases u:i<c b
  .have O:b.getD (i:Int).toNat az.E=b.getD i 0:=rfl;have A:=h4 u 0;have ap:=az.a0 o (b.getD i 0);by_cases r:o.contains (b.getD i 0)=l
   .refine a8 j [24,-33] a ?_ (g.aw (i+1,o) a D D ⟨u,⟨k.ax,λC=>?_⟩⟩ uj)
    .simp[-aj,-List.contains_eq_mem,O,show az.E=0 from a,u,r,az.l,az.J,a7];omega
    rw[A,k.mem,e2,fU];have:=(k.mem (b.getD i 0)).1 (by simpa using r);grind
   have S:b.getD i 0∉o:=by simpa[-aj]using r
   have r:o.contains (b.getD i 0)=v:=by simpa using r
   have N:(o++[b.getD i 0]).Nodup:=xe.2 ⟨k.ax,by simp,λW I X F ap=>S (by rw[fU]at F;rw[<-F,<-ap];exact I)⟩;refine a8 j [24,33] a ?_ (g.aw (i+1,o++[b.getD i 0]) a ?_ ?_ ⟨u,⟨N,λC=>?_⟩⟩ uj)
   .simp[-aj,-List.contains_eq_mem,O,show az.E=0 from a,u,r,az.l,az.J,a7,show dZ.bytes=8 from a];omega
   .exact PF
   .exact PF
   rw[A,e2,e2,fU,k.mem];grind
  obtain rfl:i=c b:=w;refine a8 j [-24] a D (g.az ?_);refine b9 j a j8 (g.aw (f+1,o) a D D ⟨s,⟨k.ax,λC=>?_⟩⟩ uj);rw[E,k.mem,c0,e2];simp
 obtain rfl:f=c d.2.1:=w;rw[c0]at x;refine a8 j [-12] a D (g.az ?_);refine b9 j a B (g.ao a ?_);simp[x.len]
abbrev HC:bH:=di mn (λa=>Q (c (fr a.2.1))) λa=>[iL a,c a.2.1<=4000000,c (g7 a.2.1)<=4000000]
def adS:bK q 15 HC:=.a9 λb a=>Wx b a.1 a.2.1 a.2.2
end
def S8{b}{a:m Int}(d:iP f b):ka f ((b.1,b.2.1.filter λe=>a.contains e.1,b.2.2),fr (b.2.1.filter λe=>a.contains e.1),b.1.map (·.1)):=by refine⟨⟨d.cd,d.c5,d.ax,λe g=>d.aW e (hg.1 g).1,d.b_.filter _,d.key,d.ed,d.len⟩,λe g j i=>pr.2 ⟨e,g,i⟩,λj i=>?_,ro.2 d.c5⟩;simp_all
def s_:∀{d:m dF}{a:dF},(d.Pairwise λf g=>f.1<g.1)->a∈d->d.find? (λe=>e.1==a.1)=h a
 |e::d,a,k,b=>by
  obtain⟨i,j⟩:=iy.1 k;rw[List.find?_cons];rcases eT.1 b with rfl|b
  .simp
  have:=i a b;rw[show(e.1==a.1)=v by simp;omega];exact s_ j b
def aaB{i:dF}{a:m b4}{g:Int}(e:(dU f i a).isSome=l)(d:g∈d9 i.2):g∈cc a:=by
 obtain⟨j,p,d⟩:=p8.1 d;unfold dU at e;split at e
 .rename_i t;simp only[cp,aW]at t;have q:=t.1.2 j p;unfold fG at q;cases b:gD f a j.2 with
  |none=>simp_all
  |some r=>
   unfold gD at b;split at b
   .rename_i o;have:=aW.1 o g d;obtain⟨s,k⟩:=uP.1 this;exact(yt k).2.2
   cases b
 cases e
abbrev kv(b:cb)(a:m Int):m dF:=b.2.1.filter λd=>a.contains d.1
abbrev nl(b:cb)(a:m Int):cb:=(pq (fr (kv b a)) b.1,kv b a,b.2.2)
abbrev jO(b:cb)(a:m Int):dI:=((b.1,kv b a,b.2.2),fr (kv b a),b.1.map (·.1))
section
variable {b:cb}{eg:m Int}(s:iP f b)
include s
def GS:jP f b eg=(jO b eg,l):=bo (r_.2 s)
def aao{d:Int}(a:d∈fr (kv b eg)):d∈cc b.1:=by obtain⟨f,e,a⟩:=pr.1 a;exact aaB (s.aW f (hg.1 e).1).2 a
def Ud:c (cc (nl b eg).1)=c (fr (kv b eg)):=by
 rw[DO];have g:=(DE (kv b eg)).imp (S:=λe f=>e≠f) λd=>by omega
 refine xh (pt _ _ (s.ax.filter _) λi a=>by simp_all) (pt _ _ g λi a=>hg.2 ⟨aao s a,by exact bw⟩)
def Uc{bv:dF}(e:bv∈kv b eg):gJ f b bv.1=gJ f (nl b eg) bv.1:=by
 have q:b.2.1.find? (λi=>i.1==bv.1)=h bv:=s_ s.b_ (hg.1 e).1;have o:(nl b eg).2.1.find? (λi=>i.1==bv.1)=h bv:=s_ (s.b_.filter _) e;simp only[gJ,q,o];refine Ez λg r=>?_;have j:g∈fr (kv b eg):=pr.2 ⟨bv,e,r⟩;have:∀(L:m Int) (a:m b4),dd f (L.foldl (λa d=>e7 d (fr (kv b eg)) a) a) g=dd f a g:=λL=>by
  induction L with
  |nil=>simp
  |cons d L k=>exactλa=>(k _).trans (yu j a)
 have t:=IM s (kv b eg) (fr (kv b eg));obtain⟨_,_,_,w⟩:=wj (p:=jO b eg) (u:=c b.1) D;simp_all
end
def Z8{b:m Int}{d:m b4}{g:b4}(f:g∈pq b d):∃e∈d,g=fj e b:=by unfold pq at f;obtain⟨e,i,rfl⟩:=g4.1 (hg.1 f).1;exact⟨e,i,a⟩
def Z7(b:m Int)(a:m b4):c (pq b a)<=c a:=by unfold pq;exact e3 (iz _ _) D
def IN{d:cb}(b:dH d)(a:m Int):dH (nl d a):=by refine⟨e3 (Z7 _ _) b.aZ,λk g=>?_,e3 (iz _ _) b.aW,λj f=>b.bm j (hg.1 f).1,b.aM⟩;obtain⟨i,e,rfl⟩:=Z8 g;exact e3 (iz _ _) (b.bl i e)
def S9{d:cb}(b:k8 d)(g:dH d)(a:m Int):k8 (jO d a).1:=
 ⟨⟨b.fc,λf e=>b.ds f (hg.1 e).1,e3 (iz _ _) b.eJ,e3 (A7 _ _) b.dv⟩,b.cd,b.dQ⟩
def Ue{d:cb}(f:k8 d)(e:dH d)(a:m Int):k8 (nl d a):=by have b:=IN e a;refine⟨⟨b.aZ,b.bm,b.aW,(S9 f e a).dv⟩,b.bl,?_⟩;rw[DO];exact e3 (iz _ _) f.dQ
def Gy{d}(o:d.Pairwise (·<=·)):∀a,a<=c d->(fF d a).Pairwise (· < ·)/\∀e∈fF d a,0<a/\e<=d.getD (a-1) 0
 |0,_=>by simp[fF]
 |a+1,q=>by
  obtain⟨j,m⟩:=Gy o a w;have i:∀f,f<a->d.getD f 0<=d.getD a 0:=λf p=>by have:=na.1 o f a w w p;grind
  rw[fF];split
  .rename_i A;refine⟨j,λe b=>⟨by omega,?_⟩⟩;have:=m e b;have:=i (a-1) w;simp only[p5];omega
  rename_i A;have g:∀e∈fF d a,e<d.getD a 0:=λe b=>by have s:=m e b;have r:=i (a-1) w;omega
  refine⟨nc.2 ⟨j,by simp,λe b t k=>?_⟩,λe b=>⟨by omega,?_⟩⟩
  .rw[fU]at k;subst k;exact g e b
  simp only[p5];rcases e2.1 b with b|b
  .have:=g e b;omega
  rw[fU]at b;omega
def acu(a):ez a=gG a.2:=by
 refine Bh ?_ (C8 List.Pairwise.nil) λb=>by rw[vO,DH]
 unfold ez hV;exact(Gy (MS _) _ (bC _)).1
abbrev acG(f e:ak×X)(d:dI)(b:cb)(a:m Int):m aq:=hc f e++[gv d,.cells 33 lE,.N,gv (b,a,d.2.2),im b]
def ab4{p}{a}{o}(b:hs f p=l)(d:1<=a/\a<=2)(e:dO o=l):fJ f p a o=if fB f p.1 o=l then(p,v)else(oK f p a o,l):=by unfold fJ qG;simp_all
def Yw(j A)(f)(p)(bT)(o)(i:sw p)(u:dH p.1)(I:mi p.1)(H:a7 .i64 bT):
  Y (af.aC T) 56 [Q f,gB p,Q bT,bu.B o] (hc j A) (j4 (fJ f p bT o).1 (fJ f p bT o).2) (hc j A):=by
 refine Y.bg bc func56 rfl rfl rfl λP=>?_;have k:a_ (af.aC T) [(52,xS),(54,rB)]:=.cons EY (.cons t54 .nil);have x:(p.1,p.2.1,p.2.2)=p:=rfl;have ao:=u.aZ;cases t:hs f p with
 |false=>
  have r:fJ f p bT o=(hu,v):=by unfold fJ qG;simp[t]
  rw[r];refine bf k [19,27,31] a ?_ ?_
  .simp only[U,a1.l,a1.J,bd.l,bd.J,a4.l,a4.J,az.l,az.J,x,t,i,iC,a',a9]
  exact kF
 |true=>
 by_cases F:1<=bT/\bT<=2
 rotate_left
 .have r:fJ f p bT o=(hu,v):=by unfold fJ qG;simp[F]
  rw[r];exact bf k [-19,22,27,31] a bE kF
 have S:bT=1∨bT=2:=w;cases O:dO o with
 |false=>
  have r:fJ f p bT o=(hu,v):=by unfold fJ qG;simp[O]
  rw[r];rcases S with rfl|rfl
  .exact bf k [-19,-22,-27,31] a Ac kF
  exact bf k [-19,22,-27,31] a Ac kF
 |true=>
 rw[ab4 t F O];have z:=tV.1 t;have ah:=r_.2 z.toiP;have aZ:=z.toiP.hX;have y:=Yo j A f p.1 bT o u i.tok8 I H λs=>(r_.1 s).cB I;rw[ZR,acB ah F O]at y;apply g.cj [(0,Q f),(2,Q bT),(3,bu.B o),(5,aH 3 0),(8,aH 4 0)] (hc j A++[gv p,.cells 33 lE])
 .intro dx;rcases S with rfl|rfl
  .exact bf k [-19,-22,-27,-31,903] a Ac kE
  exact bf k [-19,22,-27,-31,903] a Ac kE
 refine cB a B (g.aA (JK p u i.gp i.fK) [] a (bR [904] a B (g.bM 5 a a a D D (cB a B (g.aA y [0,1,2] a ?_)))));cases X:fB f p.1 o with
 |true=>
  exact bR [45] a D Qf
 |false=>
 have an:=u.bm;have J:=aZ.cB (f:=f) (o:=o) (bT:=bT) (by have:=xv 1 z.b_ λm Z=>(z.aW m Z).1;omega) O X;have ai:(ey f p.1 bT o).2.1.length=c p.1.2.1+1:=by simp[ey]
 have aa:(ey f p.1 bT o).2.1.getD ((ey f p.1 bT o).2.1.length-1) (0,[])=fs (c1 p.1) f o:=by rw[ai];simp[ey,aj]
 have V:=J.c8 (fs (c1 p.1) f o) N;have L:=wu V.2;have al:=tv (fs (c1 p.1) f o).2;have ak:=J.eA;have G:=i.gp;have K:=CI (q:=af.aC T) (fs (c1 p.1) f o) w w;rw[acu]at K;unfold oK;simp only[bj (show¬(v=l) by simp)];generalize ey f p.1 bT o=e at *;generalize fs (c1 p.1) f o=m at *;have ae:((c e.2.1:Int)-1).toNat=c e.2.1-1:=w;have W:e.2.1.getD ((c e.2.1:Int)-1).toNat bd.E=m:=by rw[ae];exact aa
 have C:a_ (af.aC T) [(88,eO [i2 m] (az.B (gG m.2)))]:=.cons (e8 K) .nil;refine bf C [-45] a ?_ ?_
 .simp only[U,W,a7];and_intros<;>first|rfl|exact True.intro|omega
 generalize gG m.2=b at *;refine g.aB 8 (λd=>d<=c b) (λd:Nat=>[(8,aH 4 0),(10,aH 6 0),(57,az.B b),(58,Q (c b)),(59,Q d)])
  (λd=>acG j A p e ((b.take d).foldl fa p.2.1)) (λd=>c b-d) 0 a ?_ a ?_ a w ?_
 .simp
 .simp
 intro d ab;by_cases s:d<c b
 .have ag:b.getD (d:Int).toNat az.E=b.getD d 0:=rfl;have M:=yB fa p.2.1 s;have R:=qu p.2.1 (b.take d);rw[List.length_take]at R;generalize(b.take d).foldl fa p.2.1=kf at *;have E:a_ (af.aC T) [(100,eO [az.B kf,Q (b.getD d 0)] (az.B (fa kf (b.getD d 0))))]:=.cons (e8 (W7 kf (b.getD d 0) w)) .nil;refine bf E [60] a ?_ (g.aw (d+1) a D ?_ s w)
  .simp only[U,ag,a7,bz];exact q2
  rw[M];simp
 obtain rfl:d=c b:=w;rw[c0];refine bR [-60] a D (g.az ?_);exact cB a B kF
abbrev xD(e d:ak×X)(ce:fR)(f:dR)(g:Int)(b:fy)(a:Nat->m M):m aq:=pz e d ce f++[.q 69 2 2 (a4.fn b.2.2.1),.q 3 1 2 a,pP g b.1 b.2.1]
abbrev qg(d b:ak×X)(ce:fR)(e:dR)(f:Int)(g:fy)(a:Nat->m M):m aq:=xD d b ce e f g a++[.N,.N,.N,.N]
abbrev mh(i:Nat)(f e:ak×X)(ce:fR)(g:dR)(a:Int)(b:fy)(d:dR):Prop:=
 bl (ι:=qr (cf a b d).1.2.2.2) (af.aC T) i [aH 8 0,mx d] (xD f e ce g a b (az.fn b.2.2.2)) (λ_=>bg (cf a b d).2) (λj=>qg f e ce g a (cf a b d).1 j.1)
def YM(j t)(ce)(e)(f)(b)(d)(k:d.1=3):mh 29 j t ce e f b d:=by
 have i:cf f b d=((b.1,d.2.2.2.1,b.2.2),l):=by unfold cf;simp[k]
 unfold mh;rw[i];refine bl.bO func29 rfl rfl rfl (g.aO ?_);exact cB a B wN
def YN(e C)(ce)(p)(f)(b)(d)(o:eM j b)(q:d.1=2):mh 28 e C ce p f b d:=by
 unfold mh;have m:a_ (af.aC T) [(53,BO)]:=.cons Nb .nil;by_cases k:1<=d.2.1/\d.2.1<=2
 rotate_left
 .have i:cf f b d=(b,v):=by unfold cf;simp[q,k]
  rw[i];refine bl.bO func28 rfl rfl rfl (g.aO ?_);exact bf m [8] a (by simp[rA,k]) wN
 have i:cf f b d=((b.1,b.2.1,gW d.2.1 b.1.1 b.2.1 b.2.2),l):=by unfold cf;simp[q,k]
 rw[i];refine bl.bO func28 rfl rfl rfl (g.aO ?_);refine bf m [-8] a (by simp[rA,k]) (g.cH (I1 e C ce p d f b.1 b.2.1 d.2.1 b.2.2.1 b.2.2.2 o.a.ba.eD k o.bj o.b') a a a a D a λr=>?_);refine cU m a B (g.eL 2 ?_);refine g.cJ 9 a bk ?_;refine g.ret ?_;exact⟨r,.inl a,a,a,_,_,_,a,a,a,a⟩
abbrev tw(a:m aq)(e:dI)(_ b d:Bool):m aq:=
 match b,d with
 |false,_=>a
 |true,v=>a++[ub]
 |true,l=>a++[gv e]
def acP{p}(a:oq p=v):hO p=p:=by
 obtain⟨e,d,b⟩:=p;cases b with
 |nil=>rfl
 |cons f g=>cases a
abbrev ae0(e:Int)(f b:dI)(a:Bool)(d:Nat):y:=
 [aH 8 0,aH 8 0,aH 8 0,Q e,aH 8 0,aH 8 0,aH 8 1,gB f,j4 b a,j4 b a,gB b,bg a,aH 10 0,.any,bg a].getD d .any
set_option maxRecDepth 20000 in
def YP(A d)(ce)(e)(f)(b)(k)(z:eM j b)(I:j<=1000)(E:hs f b.1=l)(F:k.1=5):mh 31 A d ce e f b k:=by
 unfold mh;have q:cf f b k=((hO b.1,b.2),oq b.1):=by unfold cf;simp[F]
 have C:=Yy f b.1 (z.a.gB w) z.a.ba.df;have r:zK f b.1=(hO b.1,oq b.1):=bo E;rw[r]at C;have s:=acP (p:=b.1);rw[q];generalize hO b.1=m at *;generalize oq b.1=o at *;have i:a_ (af.aC T) [(58,eO [Q f,gB b.1] (j4 m o))]:=.cons (e8 C) .nil;refine bl.bO func31 rfl rfl rfl (g.aO ?_);refine bf i [901] a B ?_;refine g.ca b7 (ae0 f b.1 m o) (ln (tw (xD A d ce e f b (az.fn b.2.2.2)++[s6 k]) m) 14 12 13) a a a a
  ⟨.ay,.ay,.ay,.ay,.ay,.ay,.ay,.ay,.cN bc i (cy:=by exact a),.ay,.ay,.ay,
  cg.d' a a a a a (λx=>by cases x<;>exact eh (bh:=[]) bc i (ar:=h _) a B),
  cg.ea a a a a a (λx=>by cases x<;>exact eh (bh:=[]) bc i (ar:=h _) a B),
  cg.d_ a a a a (λt O=>by cases t<;>cases O<;>exact aY.w),B⟩ ?_
 intro y u;show g (af.aC T) _ _ _ _ _ (tw _ m (y 14) (y 12) (y 13));rw[u 14 ca,u 12 ca,u 13 ca];cases o with
 |true=>
  exact bf i [19] a D Fx
 |false=>
  obtain rfl:=s rfl;exact bf i [-19] a D Fx
abbrev aeZ(e:Int)(f b:dI)(dc:m Int)(a:Bool)(d:Nat):y:=
 [aH 8 0,aH 8 0,aH 8 0,Q e,aH 8 0,aH 8 0,aH 8 1,aH 8 1,b0 f.1,aH 9 7,az.B dc,j4 b a,j4 b a,gB b,bg a,aH 10 0,.any,bg a].getD d .any
set_option maxRecDepth 20000 in
def YL(A d)(ce)(C)(f)(b)(e)(q:eM j b)(w:hs f b.1=l)(u:e.1=4):mh 30 A d ce C f b e:=by
 unfold mh;by_cases r:c b.1.2.2=0
 rotate_left
 .have i:cf f b e=(b,v):=by unfold cf;simp[u,r]
  rw[i];refine bl.bO func30 rfl rfl rfl (g.aO ?_);exact bR [13] a OD wN
 have i:cf f b e=(((jP f b.1.1 e.2.2.2.2).1,b.2),l):=by unfold cf;simp[u,r]
 have s:=UD f b.1.1 e.2.2.2.2 q.a.ba.df q.a.ba.tokb.eP;have o:(jP f b.1.1 e.2.2.2.2).2=l:=by unfold jP;rw[bo (r_.2 (tV.1 w).toiP)]
 rw[o]at s;rw[i];generalize(jP f b.1.1 e.2.2.2.2).1=m at *;have k:a_ (af.aC T) [(57,eO [Q f,b0 b.1.1,az.B e.2.2.2.2] (j4 m l))]:=.cons (e8 s) .nil;refine bl.bO func30 rfl rfl rfl (g.aO ?_);refine bf k [-13,903] a OC ?_;refine g.ca b7 (aeZ f b.1 m e.2.2.2.2 l) (ln (tw (xD A d ce C f b (az.fn b.2.2.2)++[s6 e]) m) 17 15 16) a a a a
  ⟨.ay,.ay,.ay,.ay,.ay,.ay,.ay,.ay,.ay,.ay,.ay,.cN bc k (cy:=by exact a),.ay,.ay,.ay,
  cg.d' a a a a a (λx=>by cases x<;>exact eh (bh:=[]) bc k (ar:=h _) a B),
  cg.ea a a a a a (λx=>by cases x<;>exact eh (bh:=[]) bc k (ar:=h _) a B),
  cg.d_ a a a a (λt O=>by cases t<;>cases O<;>exact aY.w),B⟩ ?_
 intro y p;show g (af.aC T) _ _ _ _ _ (tw _ m (y 17) (y 15) (y 16));rw[p 17 ca,p 15 ca,p 16 ca];exact bf k [29] a D Fx
abbrev ae1(f:Int)(i d:dI)(a:Int)(g:m cJ)(b:Bool)(e:Nat):y:=
 [aH 8 0,aH 8 0,aH 8 0,Q f,aH 8 0,aH 8 0,aH 8 1,gB i,aH 9 1,Q a,aH 9 2,bu.B g,j4 d b,j4 d b,gB d,bg b,aH 11 0,.any,bg b].getD e .any
set_option maxRecDepth 20000 in
def YO(r A)(ce)(F)(f)(b)(i)(p:eM j b)(X:j<=1000)(J:i.1=1):mh 27 r A ce F f b i:=by
 unfold mh;have E:a_ (af.aC T) [(53,BO),(54,rB)]:=.cons Nb (.cons t54 .nil);by_cases e:1<=i.2.1/\i.2.1<=2
 rotate_left
 .have z:cf f b i=(b,v):=by unfold cf;simp[J,e]
  rw[z];refine bl.bO func27 rfl rfl rfl (g.aO ?_);exact bf E [11,16] a (by simp[rA,e]) wN
 cases aa:dO i.2.2.1 with
 |false=>
  have z:cf f b i=(b,v):=by unfold cf;simp[J,aa]
  rw[z];refine bl.bO func27 rfl rfl rfl (g.aO ?_);exact bf E [-11,16] a R9 wN
 |true=>
 have z:cf f b i=mS f b i.2.1 i.2.2.1:=by unfold cf;simp[J,e,aa]
 rw[z];have N:=tr (bT:=i.2.1) (b:=b.1.1) (d:=b.2.1) (bm:=b.2.2) p.bj p.b';have M:=I1 (q:=af.aC T) r A ce F i f b.1 b.2.1 i.2.1 b.2.2.1 b.2.2.2 p.a.ba.eD e p.bj p.b';have R:=Yw r A f b.1 i.2.1 i.2.2.1 (p.a.gB w) p.a.ba.df p.a.ba.eH nS;have W:=Eo (f:=f) (bT:=i.2.1) (o:=i.2.2.1) p.a;unfold mS;rw[show((b.2.2.1,b.2.2.2):m (Int×Int)×m Int)=b.2.2 from a]at M;generalize gW i.2.1 b.1.1 b.2.1 b.2.2=k at *;have I:k.2.getD (0+(i.2.1-1).toNat) az.E=k.2.getD (i.2.1-1).toNat 0:=q7;refine bl.bO func27 rfl rfl rfl (g.aO ?_);refine bf E [-11,-16] a R9 (g.cH M a a a a D a λu=>?_);refine bR [904] a B (g.bc (n_ r A ce F f b.1 b.2.1 k.1 (az.fn k.2) i++[.N]) a uf ?_);by_cases s:k.2.getD (i.2.1-1).toNat 0=0
 rotate_left
 .rw[bj (λp=>s p.1)];refine bR [31,38] a ?_ ?_
  .simp only[U,I,a7,ki,d',a',a9];and_intros<;>first|exact s|omega
  exact Ql
 by_cases C:b.2.1.1=0
 rotate_left
 .rw[bj (λp=>C p.2)];refine bR [-31,38] a ?_ ?_
  .simp only[U,I,s,a7,ki,iS,d',a',a9];and_intros<;>first|exact C|omega
  exact Ql
 rw[bo ⟨s,C⟩];refine bR [-31,-38,906] a ?_ ?_
 .simp only[U,I,s,C,a7,iS,a',a9];omega
 refine g.ca b7 (ae1 f b.1 (fJ f b.1 i.2.1 i.2.2.1).1 i.2.1 i.2.2.1 (fJ f b.1 i.2.1 i.2.2.1).2) (ln (tw (n_ r A ce F f b.1 b.2.1 k.1 (az.fn k.2) i++[.N]) (fJ f b.1 i.2.1 i.2.2.1).1) 18 16 17) a a a a
  ⟨.ay,.ay,.ay,.ay,.ay,.ay,.ay,.ay,.ay,.ay,.ay,.ay,
  cg.eM a a a (λx t O=>aY.dS (by cases t<;>cases O<;>exact dX.dY R.tocE [0,1,2] a a a a a a a bk a bk)),
  .ay,.ay,.ay,
  cg.d' a a a a a (λx=>by cases x<;>exact eh (bh:=[]) bc E (ar:=h _) a B),
  cg.ea a a a a a (λx=>by cases x<;>exact eh (bh:=[]) bc E (ar:=h _) a B),
  cg.d_ a a a a (λt O=>by cases t<;>cases O<;>exact aY.w),B⟩ ?_
 intro y K;show g (af.aC T) _ _ _ _ _ (tw _ (fJ f b.1 i.2.1 i.2.2.1).1 (y 18) (y 16) (y 17));rw[K 18 ca,K 16 ca,K 17 ca];cases jR:(fJ f b.1 i.2.1 i.2.2.1).2 with
 |false=>
  rw[bj D];refine bR [56] a un (g.eL 1 ?_);refine g.cJ 9 a bk ?_;refine g.cJ 11 a bk ?_;refine g.ret ?_;exact⟨⟨_,bs.same⟩,.inl a,a,a,_,_,_,a,a,a,a⟩
 |true=>
  rw[bo a];have S:=(W jR).1;generalize(fJ f b.1 i.2.1 i.2.2.1).1=w2 at *;have Q:=UW (q:=af.aC T) r A ce F i w2 f w2 b.2.1 i.2.1 k.1 k.2 S.ba.eD e N.1 N.2;rw[show((k.1,k.2):m (Int×Int)×m Int)=k from a]at Q;refine bR [-56] a un (g.cH Q a a a a D a λV=>?_);refine cB a B (g.cJ 9 a bk ?_);refine g.cJ 11 a bk ?_;refine g.ret ?_;exact⟨V,.inl a,a,a,_,_,_,a,a,a,a⟩
section
variable {q:af T}
def UR(d)(f:c d<=4000000):Y q 60 [a4.B d] [] (cF 0 (.B (c d) 2 0 (c d))) [.q 69 2 (c d) (a4.fn d)]:=by
 refine Y.ab func60 rfl λi=>?_;refine aQ a B (g.ey bc a a a a a a λb e=>?_);cases b with
 |true=>
  obtain rfl:=jJ (e rfl);refine aQ a B (g.e_ 2 69 2 (a4.fn []) a ?_);exact FE
 |false=>
  refine gH [] 7 a B (g.dH 5 69 2 (a4.fn []) a ?_);refine aQ a ⟨a,a,show(0+c d)*16<=_ by omega⟩ (g.bc [.q 69 2 (c d) (a4.fn d)] a ?_ ?_)
  .simp[bs,ck]
  exact FQ
abbrev uX(a:dI):aq:=.q 119 2 (c a.1.1) (a1.fn a.1.1)
abbrev xx(dc:m (Int×Int)):aq:=.q 69 2 (c dc) (a4.fn dc)
abbrev NW(a:fR):m R:=.c (.int .i64 a.1)::([.O 2 (.B (c a.2.1.1.1) 2 0 (c a.2.1.1.1)),cM bd a.2.1.1.2.1,cM a4 a.2.1.1.2.2,cM az a.2.1.2.1,cM az a.2.1.2.2]++tp a.2.2.1++[.O 3 (.B (c a.2.2.2.1) 2 0 (c a.2.2.2.1)),.O 4 (.B (c a.2.2.2.2) 1 0 (c a.2.2.2.2))])
def Iv(a:fR)(b d e f:Bool):m aq:=
 match b,d,e,f with
 |true,l,l,l=>[m2 a,.cells 38 (NW a),uX a.2.1,xx a.2.2.2.1,jN (c a.2.2.2.2) a.2.2.2.2]
 |true,l,l,v=>[m2 a,fP,uX a.2.1,xx a.2.2.2.1,jN (c a.2.2.2.2) a.2.2.2.2]
 |true,l,v,_=>[m2 a,fP,uX a.2.1,xx a.2.2.2.1]
 |true,v,_,_=>[m2 a,fP,uX a.2.1]
 |false,_,_,_=>[m2 a,fP]
abbrev aeM(a:fR)(b:Nat):y:=
 [aH 0 0,Q a.1,aH 0 1,gB a.2.1,.n (.agg [.O 2 (.B (c a.2.1.1.1) 2 0 (c a.2.1.1.1)),cM bd a.2.1.1.2.1,cM a4 a.2.1.1.2.2,cM az a.2.1.2.1,cM az a.2.1.2.2]),aH 0 6,eI a.2.2.1,aH 0 10,a4.B a.2.2.2.1,cF 3 (.B (c a.2.2.2.1) 2 0 (c a.2.2.2.1)),
  aH 0 11,az.B a.2.2.2.2,cF 4 (.B (c a.2.2.2.2) 1 0 (c a.2.2.2.2)),.n (.agg (NW a)),.any].getD b .any
set_option maxRecDepth 20000 in
def YK(p)(f:dH p.2.1.1)(O:c p.2.1.2.1<=4000000)(e:c p.2.1.2.2<=4000000)(b:c p.2.2.2.1=2)(t:c p.2.2.2.2=2):
  Y q 32 [gT p] [] (.n (.agg (g0 p.1 p.2.1 p.2.2.1 0))) (lu p.2.2.2.1 p.2.2.2.2):=by
 refine Y.bg bc func32 rfl rfl rfl λj=>?_
 have x:a_ q [(59,lb [gB p.2.1] [] (.n (.agg [.O 0 (.B (c p.2.1.1.1) 2 0 (c p.2.1.1.1)),cM bd p.2.1.1.2.1,cM a4 p.2.1.1.2.2,cM az p.2.1.2.1,cM az p.2.1.2.2])) [uX p.2.1]),
   (60,lb [a4.B p.2.2.2.1] [] (cF 0 (.B (c p.2.2.2.1) 2 0 (c p.2.2.2.1))) [xx p.2.2.2.1]),
   (61,lb [az.B p.2.2.2.2] [] (cF 0 (.B (c p.2.2.2.2) 1 0 (c p.2.2.2.2))) [jN (c p.2.2.2.2) p.2.2.2.2])]:=
  .cons (l' (JK p.2.1 f O e)) (.cons (l' (UR p.2.2.2.1 w)) (.cons (l' (IY p.2.2.2.2 w)) .nil))
 refine bf x [901] a B ?_;refine g.ca b7 (aeM p) (mC (Iv p) 4 9 12 14) a a a a
  ⟨.aV,.aV,.aV,.aV,
  cg.dX a a a a a a (eh (bh:=[]) bc x (ar:=h _) a ⟨rfl,rfl⟩),
  .aV,.aV,.aV,.aV,
  cg.eU a a a a a a (eh (bh:=[]) bc x (ar:=h _) a ⟨rfl,rfl⟩),
  .aV,.aV,
  cg.eV a a a a a a (eh (bh:=[]) bc x (ar:=h _) a ⟨rfl,rfl⟩),
  .aV,
  cg.eW a a a a a a (eh (bh:=[]) bc x (ar:=h _) a B),B⟩ ?_
 intro y i;show g q _ _ _ _ _ (Iv p (y 4) (y 9) (y 12) (y 14));rw[i 4 ca,i 9 ca,i 12 ca,i 14 ca];refine tJ x [] 1 a B (g.bM 2 a a a D D (g.bc [m2 p,.cells 38 (g0 p.1 p.2.1 p.2.2.1 3),.N,.q 69 2 2 (a4.fn p.2.2.2.1),.q 3 1 2 (az.fn p.2.2.2.2)] a ?_ ?_))
 .simp[ii,b,t]
 refine g.bf () [3,4] ?_ (λk d=>absurd d D);simp
end
abbrev j7:fR:=(0,hu,j6,[],[])
def Cs(a:fR)(b:dR):fR×Bool:=if jg a=l then((a.1,(cf a.1 a.2 b).1),(cf a.1 a.2 b).2)else(j7,v)
abbrev mZ(a:fR×Bool):y:=.S [.agg (h5 a.1),.Q (.c (.bool a.2))]
def aeH{p}(a:jg p=l):c p.2.2.2.1=2/\c p.2.2.2.2=2/\hs p.1 p.2.1=l:=by simp only[jg,cp,bz]at a;exact⟨a.1.1.1,a.1.1.2,a.2⟩
abbrev vn(a:Nat):m M:=[.fn (.func a) [] []]
abbrev E2:m (m M):=[vn 27,vn 28,vn 29,vn 30,vn 31]
abbrev Y0(a:Nat):Nat:=[27,28,29,30,31].getD (a-1) 0
abbrev wC(a:Int)(e:dR)(d:Bool)(b:Nat):y:=
 [ay (.B l 1 5 λb=>E2.getD b []),aH 4 0,Q a,Q (a-1),ay (.R (E2.getD (a-1).toNat [])),ay ((E2.getD (a-1).toNat []).getD 0 (.bool v)),mx e,bg d,bg d].getD b .any
set_option maxRecDepth 20000 in
def YQ(k i)(p)(e)(j)(t:fx (6000+240*j) p.2.1)(I:j<=1000):
  Y (af.aC T) 10 [gT p,mx e] (hc k i) (mZ (Cs p e)) (hc k i):=by
 refine Y.bg bc func10 rfl rfl rfl λy=>?_;have x:a_ (af.aC T) [(26,eO [gT p] (bg (jg p)))]:=.cons (e8 (YS p (t.gB w))) .nil;unfold Cs;cases b3:jg p with
 |false=>
  exact bf x [11] a mc kF
 |true=>
 obtain⟨A,E,F⟩:=aeH b3;have s:eM j p.2:=⟨t,A,E⟩;have M:=t.cC w
 rw[bo a];refine bf x [-11] a mc (g.aA (YK p M.ba (by have:=t.cn;omega) (by have:=t.c_;omega) A E) [] a ?_);by_cases N:1<=e.1/\e.1<=5
 rotate_left
 .have R:cf p.1 p.2 e=(p.2,v):=by unfold cf;grind
  rw[R];apply g.cj [(2,aH 3 0),(3,aH 4 0),(4,aH 5 0),(7,aH 8 0)] (pz k i p e++lu p.2.2.2.1 p.2.2.2.2++[pP p.1 p.2.1 p.2.2.1])
  .intro dx;by_cases J:e.1<1
   .exact bf x [19,23,906] a (by simp[J]) kE
   exact bf x [-19,23,906] a bM kE
  refine g.bM 6 a a a D D (g.bM 7 a a a D D (cU x a B (g.b9 () [0,1,2] ?_ mB)));simp[ii,A,E]
 have bA:mh (Y0 e.1.toNat) k i p e p.1 p.2 e:=by
  have z:e.1=1∨e.1=2∨e.1=3∨e.1=4∨e.1=5:=w;rcases z with r|r|r|r|r<;>rw[r]
  .exact YO k i p e p.1 p.2 e s I r
  .exact YN k i p e p.1 p.2 e s r
  .exact YM k i p e p.1 p.2 e r
  .exact YL k i p e p.1 p.2 e s F r
  exact YP k i p e p.1 p.2 e s I F r
 unfold mh at bA;have C:(cf p.1 p.2 e).1.2.2.1.length=2/\(cf p.1 p.2 e).1.2.2.2.length=2:=⟨(s.do).bj,(s.do).b'⟩;refine bf x [-19,-23,907] a bM ?_
 generalize K:cf p.1 p.2 e=d at *;have z:e.1=1∨e.1=2∨e.1=3∨e.1=4∨e.1=5:=w;obtain⟨r,b,q,f,o⟩:=e;simp only at z bA;rcases z with rfl|rfl|rfl|rfl|rfl
 .refine g.dd b7 7 (λm=>ax m 6) (wC 1 (1,b,q,f,o) d.2) (λ(_:qr d.1.2.2.2) m=>[bg d.2,bg d.2].getD (m-7) .any) (λu=>qg k i p (1,b,q,f,o) p.1 d.1 u.1) a a a a a a wJ wI wK ?_;intro u;refine g.bc (pz k i p (1,b,q,f,o)++lu d.1.2.2.1 d.1.2.2.2++[pP p.1 d.1.1 d.1.2.1,.N,.N,.N,.N]) a uf ?_;exact wH
 .refine g.dd b7 7 (λm=>ax m 6) (wC 2 (2,b,q,f,o) d.2) (λ(_:qr d.1.2.2.2) m=>[bg d.2,bg d.2].getD (m-7) .any) (λu=>qg k i p (2,b,q,f,o) p.1 d.1 u.1) a a a a a a wJ wI wK ?_;intro u;refine g.bc (pz k i p (2,b,q,f,o)++lu d.1.2.2.1 d.1.2.2.2++[pP p.1 d.1.1 d.1.2.1,.N,.N,.N,.N]) a uf ?_;exact wH
 .refine g.dd b7 7 (λm=>ax m 6) (wC 3 (3,b,q,f,o) d.2) (λ(_:qr d.1.2.2.2) m=>[bg d.2,bg d.2].getD (m-7) .any) (λu=>qg k i p (3,b,q,f,o) p.1 d.1 u.1) a a a a a a wJ wI wK ?_;intro u;refine g.bc (pz k i p (3,b,q,f,o)++lu d.1.2.2.1 d.1.2.2.2++[pP p.1 d.1.1 d.1.2.1,.N,.N,.N,.N]) a uf ?_;exact wH
 .refine g.dd b7 7 (λm=>ax m 6) (wC 4 (4,b,q,f,o) d.2) (λ(_:qr d.1.2.2.2) m=>[bg d.2,bg d.2].getD (m-7) .any) (λu=>qg k i p (4,b,q,f,o) p.1 d.1 u.1) a a a a a a wJ wI wK ?_;intro u;refine g.bc (pz k i p (4,b,q,f,o)++lu d.1.2.2.1 d.1.2.2.2++[pP p.1 d.1.1 d.1.2.1,.N,.N,.N,.N]) a uf ?_;exact wH
 refine g.dd b7 7 (λm=>ax m 6) (wC 5 (5,b,q,f,o) d.2) (λ(_:qr d.1.2.2.2) m=>[bg d.2,bg d.2].getD (m-7) .any) (λu=>qg k i p (5,b,q,f,o) p.1 d.1 u.1) a a a a a a wJ wI wK ?_;intro u;refine g.bc (pz k i p (5,b,q,f,o)++lu d.1.2.2.1 d.1.2.2.2++[pP p.1 d.1.1 d.1.2.1,.N,.N,.N,.N]) a uf ?_;exact wH
section
variable {q:af T}
end
def M3{b:dI}(e:ka f b){a:dF}(d:a∈b.1.2.1):gJ f (hO b).1 a.1=gJ f b.1 a.1:=by
 unfold hO;split
 .rfl
 rename_i k p o;have g:b.1.2.1.find? (λm=>m.1==a.1)=h a:=s_ e.b_ d;simp only[gJ,g];exact Ez λj i=>yu (e.fM a d j i) _
section
variable {p:dI}{bT:Int}{o:m cJ}
def Mz(i:mi p.1)(d:(fJ f p bT o).2=l):ka f p/\hQ f p.1 bT o/\fJ f p bT o=(oK f p bT o,l):=by
 unfold fJ at *;split at d
 .rename_i b;rw[bo b];split at d
  .cases d
  rename_i g;rw[bj g];simp only[qG,cp,bz]at b;have e:=tV.1 b.1.1;exact⟨e,⟨e.toiP,i,b.1.2,b.2,by simp_all⟩,a⟩
 cases d
def ka.cB(e:ka f p)(i:hQ f p.1 bT o):ka f (oK f p bT o):=by
 refine⟨i.ok,λg b d a=>?_,λd a=>?_,e.g9⟩
 .show d∈(gG (fs (c1 p.1) f o).2).foldl fa p.2.1;rw[yY,DH];have b:g∈p.1.2.1++[fs (c1 p.1) f o]:=b;rcases e2.1 b with b|b
  .exact .inl (e.fM g b d a)
  simp_all
 obtain⟨m,j,k⟩:=e.gm d a;exact⟨m,A0 _ j,k⟩
end
section
variable {q:af T}
abbrev N1(a:fR)(d b:Nat):m R:=.c (.int .i64 a.1)::([cM a1 a.2.1.1.1,cM bd a.2.1.1.2.1,cM a4 a.2.1.1.2.2,cM az a.2.1.2.1,.x d 1 (c a.2.1.2.2) (az.fn a.2.1.2.2)]++tp a.2.2.1++[.O b (.B 2 2 0 2),.O (b+1) (.B 2 1 0 2)])
abbrev m1(b:fR)(a:dR):m aq:=[.cells 38 (h5 b),s6 a,fP]
abbrev Lg:aq:=.K λ_ _=>False
def ab2(a:fR)(b:dR)(g:Option Bool)(f d e:Bool):m aq:=
 match g with
 |none=>match d with
  |false=>m1 a b
  |true=>m1 a b++[fP]
 |some l=>match f,d,e with
  |false,v,_=>m1 a b++[fP,ja a.2.1]++hL a.2++[Lg]
  |true,v,_=>m1 a b++[fP,ja a.2.1]++hL (cf a.1 a.2 b).1++[Lg]
  |false,l,_=>m1 a b++[fP,ja a.2.1]++hL a.2
  |true,l,v=>m1 a b++[fP,ja a.2.1]++hL (cf a.1 a.2 b).1
  |true,l,l=>m1 a b++[.cells 38 (g0 a.1 (cf a.1 a.2 b).1.1 (cf a.1 a.2 b).1.2.1 5),ja a.2.1]++hL (cf a.1 a.2 b).1
 |some v=>match f,d,e with
  |false,v,_=>m1 a b++[ja a.2.1]++hL a.2
  |false,l,_=>m1 a b++[ja a.2.1]++hL a.2++[fP]
  |true,v,_=>m1 a b++[ja a.2.1]++hL (cf a.1 a.2 b).1
  |true,l,v=>m1 a b++[ja a.2.1]++hL (cf a.1 a.2 b).1++[fP]
  |true,l,l=>m1 a b++[ja a.2.1]++hL (cf a.1 a.2 b).1++[.cells 38 (g0 a.1 (cf a.1 a.2 b).1.1 (cf a.1 a.2 b).1.2.1 4)]
def sg(a:fR)(b:dR)(e:Option Bool)(d:Nat):y:=
 match e with
 |none=>[gT a,.any,mx b,.any,.any,.any,.any,aH 3 0,.any,.any].getD d .any
 |some l=>[gT a,.n (.agg (N1 a 4 5)),mx b,.S [.agg (g0 a.1 (cf a.1 a.2 b).1.1 (cf a.1 a.2 b).1.2.1 5),.Q (.c (.bool (cf a.1 a.2 b).2))],.S [.agg (g0 a.1 (cf a.1 a.2 b).1.1 (cf a.1 a.2 b).1.2.1 5),.Q (.c (.bool (cf a.1 a.2 b).2))],.n (.agg (g0 a.1 (cf a.1 a.2 b).1.1 (cf a.1 a.2 b).1.2.1 5)),bg (cf a.1 a.2 b).2,aH 3 0,.any,bg (cf a.1 a.2 b).2].getD d .any
 |some v=>[gT a,.n (.agg (N1 a 3 4)),mx b,.S [.agg (g0 a.1 (cf a.1 a.2 b).1.1 (cf a.1 a.2 b).1.2.1 4),.Q (.c (.bool (cf a.1 a.2 b).2))],.S [.agg (g0 a.1 (cf a.1 a.2 b).1.1 (cf a.1 a.2 b).1.2.1 4),.Q (.c (.bool (cf a.1 a.2 b).2))],.n (.agg (g0 a.1 (cf a.1 a.2 b).1.1 (cf a.1 a.2 b).1.2.1 4)),bg (cf a.1 a.2 b).2,aH 6 0,.any,bg (cf a.1 a.2 b).2].getD d .any
def eM.j2{b}(a:eM j b)(d:j<=1001):uC b.1:=a.a.cC w
end
section
variable {q:af T}
def Jd(p)(d:dH p.2.1.1)(f:c p.2.2.2.1<=4000000):Y q 8 [gT p,gT p] [] (bg l) []:=by
 refine Y.ab func8 rfl λi=>?_;have x:a_ q [(23,eO [gB p.2.1,gB p.2.1] (bg l)),(24,xN)]:=.cons (e8 (WB p.2.1 d)) (.cons EU .nil);refine bf x [-11,-19,-26,-35,-42] a (by simp[az.J,az.l]) (g.aB 2 (λb=>b<=c p.2.2.2.1) (λb:Nat=>[(2,aH 0 0),(3,aH 1 0),(5,Q b)]) (λ_=>[.cells 38 (h5 p),.cells 38 (h5 p)]) (λb=>c p.2.2.2.1-b) 0 a D a D a w ?_);intro b e;by_cases j:b<c p.2.2.2.1
 .refine bf x [47,-60] a ?_ (g.aw (b+1) a ?_ ?_ ?_ ?_)
  .simp only[U,a7,gk,gz,iS,bz,a',a9];and_intros<;>first|omega|rfl|simp
  .simp
  .simp
  .grind
  omega
 refine bf x [-47] a bM (g.az ?_);exact Ad
end
section
variable {q:af T}[q.b1]
end
def uB(a:m (Int×Int)×m Int):Prop:=c a.1=2/\c a.2=2/\∀b,b<2->vM (a.1.getD b (0,0))=l/\0<=a.2.getD b 0/\a.2.getD b 0<=2
def t'{b}:jg (f,b)=l↔ka f b.1/\uB b.2.2:=by
 unfold jg uB;simp[cp,bz,gd,tV,wy];constructor
 .rintro⟨⟨⟨a,i⟩,d⟩,t⟩;exact⟨t,a,i,d⟩
 rintro⟨t,a,i,d⟩;exact⟨⟨⟨a,i⟩,d⟩,t⟩
def aaq{A}{d}(b:vM A=l):vM (kU A d).1=l/\0<=(kU A d).2/\(kU A d).2<=2:=by
 unfold kU;split
 .rename_i t;split
  .obtain⟨i,e⟩:=DA t.1;have a:=(wm i e (c d)).1;rw[c0]at a;refine⟨?_,by simp,by simp⟩;simp only[vM,cp,bz];exact⟨⟨by omega,by omega⟩,a⟩
  exact⟨b,by simp,by simp⟩
 exact⟨b,by simp,by simp⟩
def uB.look{bT}{b}{d}{g}(f:uB g)(s:1<=bT/\bT<=2):uB (gW bT b d g):=by
 obtain⟨k,m⟩:=tr (bT:=bT) (b:=b) (d:=d) f.1 f.2.1;refine⟨k,m,λa o=>?_⟩;have p:(bT-1).toNat<2:=w;obtain⟨r,q⟩:=f.2.2 a o;have i:=aaq (d:=(oy b d).2.2) (f.2.2 _ p).1;unfold gW;split
 .have dM:∀e,(g.1.set (bT-1).toNat e).getD a (0,0)=if(bT-1).toNat=a then e else g.1.getD a (0,0):=λe=>by simp[aj,o1];split<;>simp_all[f.1]
  have j:∀e,(g.2.set (bT-1).toNat e).getD a 0=if(bT-1).toNat=a then e else g.2.getD a 0:=λe=>by simp[aj,o1];split<;>simp_all[f.2.1]
  rw[dM,j];split
  .exact⟨i.1,i.2⟩
  exact⟨r,q⟩
 exact⟨r,q⟩
def yc{b}{ap}(p:fx j b.1)(r:jg (f,b)=l):jg (f,(cf f b ap).1)=l:=by
 obtain⟨a,g⟩:=t'.1 r;refine t'.2 ?_;unfold cf;split
 .split
  .rename_i i;have k:=g.look (b:=b.1.1) (d:=b.2.1) i.1;unfold mS;split
   .split
    .rename_i e;obtain⟨q,m,o⟩:=Mz p.ba.eH e;rw[o];exact⟨q.cB m,k.look i.1⟩
    exact⟨a,k⟩
   exact⟨a,k⟩
  exact⟨a,g⟩
 split
 .split
  .rename_i i;exact⟨a,g.look i⟩
  exact⟨a,g⟩
 split
 .exact⟨a,g⟩
 split
 .split
  .refine⟨?_,g⟩;unfold jP;rw[bo (r_.2 a.toiP)];exact S8 a.toiP
  exact⟨a,g⟩
 split
 .exact⟨a.step,g⟩
 exact⟨a,g⟩
section
variable {q:af T}
abbrev IL(a:dR):m M:=[.int .i64 a.1,.int .i64 a.2.1,.B v 2 (c a.2.2.1) (bu.fn a.2.2.1),.int .i64 a.2.2.2.1.1,.int .i64 a.2.2.2.1.2.1,.int .i64 a.2.2.2.1.2.2.1,.T a.2.2.2.1.2.2.2,.B v 1 (c a.2.2.2.2) (az.fn a.2.2.2.2)]
abbrev IG(a:m M):dR:=(nB a 0,nB a 1,bu.ad (mV a 2).1 (mV a 2).2,(nB a 3,nB a 4,nB a 5,tT a 6),az.ad (mV a 7).1 (mV a 7).2)
def TS(a:dR):IG (IL a)=a:=by show(a.1,a.2.1,bu.ad (c a.2.2.1) (bu.fn a.2.2.1),a.2.2.2.1,az.ad (c a.2.2.2.2) (az.fn a.2.2.2.2))=a;rw[bu.l,az.l]
def fW:c5 dR:={bj:=8,a8:=IL,b6:=IG,E:=(0,0,[],j6,[]),inv:=TS,len:=λ_=>rfl}
abbrev ce(a:Int):fR:=(a,hu,j6,yR,ys)
def fd(d:Int)(a:fy)(e:m dR):fy:=e.foldl (λa b=>(cf d a b).1) a
def abR(a:Int)(e:fy)(d:m dR)(b:dR):fd a e (d++[b])=(cf a (fd a e d) b).1:=by simp[fd]
def tK{f:Int}:∀(a:m dR){b:Nat}{e:fy},eM b e->eM (b+c a) (fd f e a)
 |[],_,_,d=>d
 |ap::a,b,e,d=>by have:=tK (f:=f) a (d.do (f:=f) (ap:=ap));simp only[fe];rw[show b+(c a+1)=b+1+c a by omega];exact this
def zp{f:Int}:∀(d:m dR){g:Nat}{a:fy},eM g a->jg (f,a)=l->jg (f,fd f a d)=l
 |[],_,_,_,b=>b
 |i::d,g,a,e,b=>zp d e.do (yc e.a b)
def Mr{b:fy}{a:m dR}(s:e<c a):fd f b (a.take (e+1))=(cf f (fd f b (a.take e)) (a.getD e fW.E)).1:=R4
def yi(e d:ak×X){b:fy}(a:dR)(i:eM j b)(g:jg (f,b)=l)(k:j<=1000):Y (af.aC T) 10 [gT (f,b),mx a] (hc e d) (mZ ((f,(cf f b a).1),(cf f b a).2)) (hc e d):=by
 have m:=YQ e d (f,b) a j i.a k
 rwa [show Cs (f,b) a=((f,(cf f b a).1),(cf f b a).2)from bo g]at m
def zZ(d:cm f=l):jg (ce f)=l:=by
 refine t'.2 ⟨?_,a,a,λe b=>?_⟩
 .exact⟨⟨by simp[hu],by simp[hu],by simp[hu,cc],by simp[hu],by simp[hu],d,a,by simp[hu]⟩,by simp[hu],by simp[hu],by simp[hu]⟩
 .match e,b with
  |0,_=>exact⟨rfl,by decide,by decide⟩
  |1,_=>exact⟨rfl,by decide,by decide⟩
def pu(a:Int):fR×Bool:=if cm a=l then(ce a,l)else(j7,v)
def qO(a:Int)(b:m dR):fR×Bool:=if cm a=l/\c b<=30 then((a,fd a (ce a).2 b),l)else(j7,v)
def YR(b:Int)(b3:cm b=v):Y q 20 [Q b] [] (mZ (j7,v)) []:=by refine Y.bg bc func20 rfl rfl rfl λe=>?_;have d:a_ q [(43,rD)]:=.cons tX .nil;refine a8 d [7] a mc ?_;refine g.b9 () [] ?_ e4;simp
abbrev N7:R:=.c (.B v 2 2 λ_=>[.int .i64 0,.int .i64 0])
abbrev N6:R:=.c (.B v 1 2 λ_=>[.int .i64 0])
abbrev Li(a:Int):m R:=.c (.int .i64 a)::((lE++tp j6)++[N7,N6])
abbrev Lj(b:Int)(a _b:Bool):m aq:=match a with
 |false=>[fP]
 |true=>[.cells 38 (Li b)]
abbrev aeT(a:Int)(b:Nat):y:=[Q a,.n (.Q N7),.n (.Q N6),.n (.agg (Li a)),.any,bg l].getD b .any
def CO(b:Int):Y q 9 [Q b] [] (mZ (pu b)) []:=by
 refine Y.bg bc func9 rfl rfl rfl λm=>?_;have d:a_ q [(25,di c7 (λb=>bg (cm b)) λ_=>[])]:=.cons qU .nil;unfold pu;cases b3:cm b with
 |false=>
  exact a8 d [6] a mc Fz
 |true=>
 refine a8 d [-6] a mc ?_;refine g.ca b7 (aeT b) (ns (Lj b) 4 5) a a a a
  ⟨.bo,cg.fO a a (λx i=>by cases x<;>cases i<;>exact aY.eo (ι:=Unit) a (ei.hl (j:=2) (a5:=yO) bc a a a a a a (by show 2*16<=_;decide) ca)),
   cg.fO a a (λx i=>by cases x<;>cases i<;>exact aY.eo (ι:=Unit) a (ei.hl (j:=2) (a5:=dZ) bc a a a a a a (by show 2*8<=_;decide) ca)),.bo,
   cg.fe a a (eh (bh:=[]) bc d (ar:=h _) a B),cg.ff a a (aY.w),B⟩ ?_
 intro y f;show g q _ _ _ _ _ (Lj b (y 4) (y 5));rw[f 4 ca,f 5 ca];refine b9 d a B (g.b9 () [] ?_ e4);simp only[U.Y,U,dw,a',a9];and_intros<;>first|rfl|(intro k e;match k,e with|0,_=>rfl|1,_=>rfl)
abbrev pO(b:Int)(a:fy):aq:=.cells 38 (g0 b a.1 a.2.1 1)
abbrev LR(b:Int)(a d:fy)(e f g:Bool):m aq:=
 match e,f,g with
 |false,v,_=>[fP]++hL a++[pO b a]
 |false,l,v=>[fP]++hL a++[pO b a,fP]
 |false,l,l=>[fP]++hL a++[pO b a,pO b d]
 |true,v,_=>[fP]++hL d++[pO b a]
 |true,l,v=>[fP]++hL d++[pO b a,fP]
 |true,l,l=>[fP]++hL d++[pO b a,pO b d]
abbrev IF(b:Int)(a:fy):y:=.n (.agg (g0 b a.1 a.2.1 1))
abbrev aeU(d:Int)(f:m dR)(e:Nat)(i a:fy)(b:Bool)(g:Nat):y:=
 [IF d i,fW.B f,Q e,ay (.R (fW.fn f e)),mx (f.getD e fW.E),.S [.agg (g0 d a.1 a.2.1 1),.Q (.c (.bool b))],.S [.agg (g0 d a.1 a.2.1 1),.Q (.c (.bool b))],IF d a,bg b,aH 4 0,.any,bg b].getD g .any
def Jx(f:Int)(b:m dR)(J:c b<=4000000):Y q 6 [Q f,fW.B b] [] (mZ (qO f b)) []:=by
 refine Y.bg bc func6 rfl rfl rfl λI=>?_;unfold qO;by_cases b3:cm f=l
 rotate_left
 .rw[bj λs=>b3 s.1];exact Qr
 refine aQ a B (g.aA (JP (q:=q) f b3) [] a ?_);by_cases u:c b<=30
 rotate_left
 .rw[bj λs=>u s.2];exact Rw
 rw[bo ⟨b3,u⟩];refine a3 [-18,-22] a bM (g.aB 4 (λd=>d<=c b) (λd:Nat=>[(1,fW.B b),(4,aH 0 0),(6,aH 3 0),(8,Q d)]) (λd=>[fP]++hL (fd f (ce f).2 (b.take d))++[pO f (fd f (ce f).2 (b.take d))]) (λd=>c b-d) 0 a D a ?_ a w ?_)
 .have j:fd f (ce f).2 (b.take 0)=(ce f).2:=rfl;rw[j];simp
 intro d z;have p:=tK (f:=f) (b.take d) eM.zero;by_cases s:d<c b
 .have o:fd f (ce f).2 (b.take (d+1))=(cf f (fd f (ce f).2 (b.take d)) (b.getD d fW.E)).1:=R4;have F:=Vi (q:=q) f (fd f (ce f).2 (b.take d)) (b.getD d fW.E) _ p bM;refine a3 [27,907] a bM ?_;generalize fd f (ce f).2 (b.take d)=i at *;generalize cf f i (b.getD d fW.E)=e at *;have k:a_ q [(21,lb [Cr f i,mx (b.getD d fW.E)] (hL i) (E0 f e.1 e.2) (hL e.1))]:=.cons (l' F) .nil;refine g.ca b7 (aeU f b d i e.1 e.2) (ln (LR f i e.1) 5 9 10) a a a a
   ⟨.cN bc k (cy:=by trivial),.ay,.ay,.cN bc k (cy:=by simp;omega),.cN bc k (cy:=by trivial),
   cg.d_ a a a a (λt O=>by cases t<;>cases O<;>exact eh (bh:=[]) bc k (ar:=h _) a ⟨rfl,rfl⟩),
   .ay,.ay,.ay,
   cg.d' a a a a a (λx=>by cases x<;>exact eh (bh:=[]) bc k (ar:=h _) a B),
   cg.ea a a a a a (λx=>by cases x<;>exact eh (bh:=[]) bc k (ar:=h _) a B),.ay,B⟩ ?_
  intro y r;show g q _ _ _ _ _ (LR f i e.1 (y 5) (y 9) (y 10));rw[r 5 ca,r 9 ca,r 10 ca];refine aQ a j8 (g.aw (d+1) a D ?_ ?_ ?_)
  .rw[o];simp
  .omega
  omega
 obtain rfl:d=c b:=w;rw[c0]at *;refine a3 [-27] a D (g.az ?_);have C:(fd f (ce f).2 b).2.2.1.length=2:=p.bj;have E:(fd f (ce f).2 b).2.2.2.length=2:=p.b';have A:=U4 (q:=q) (f,fd f (ce f).2 b) (p.j2 w) (show(fd f (ce f).2 b).2.2.1.length<=4000000 by omega) (show(fd f (ce f).2 b).2.2.2.length<=4000000 by omega);generalize fd f (ce f).2 b=i at *;refine gH [] 0 a B (g.bM 1 a a a D D (g.bM 2 a a a D D (aQ a B (g.bI A.tocE [] a a a a ?_ a a a bk a bk a ?_))))
 .simp only[U.Y,U,a',a9];and_intros<;>first|exact bs.same|rfl|exact C.symm|exact E.symm
 rintro -;exact aQ a B Fz
end
def Jv(p o:ak×X)(f:Int)(d:m dR)(z:c d<=4000000):Y (af.aC T) 7 [Q f,fW.B d] (hc p o) (mZ (qO f d)) (hc p o):=by
 refine Y.bg bc func7 rfl rfl rfl λy=>?_;have j:a_ (af.aC T) [(9,eO [Q f] (mZ (pu f)))]:=.cons (e8 (CO f)) .nil;unfold qO;by_cases i:cm f=l
 rotate_left
 .rw[bj λk=>i k.1];rw[show pu f=(j7,v)from bj i]at j;exact a8 j [17,21] a D kF
 rw[show pu f=(ce f,l)from bo i]at j;by_cases q:c d<=30
 rotate_left
 .rw[bj λk=>q k.2];exact a8 j [-17,21] a bM kF
 rw[bo ⟨i,q⟩];refine a8 j [-17,-21] a bM (g.aB 5 (λe=>e<=c d) (λe:Nat=>[(23,fW.B d),(24,Q (c d)),(4,aH 3 0),(6,aH 4 0),(25,Q e)]) (λe=>hc p o++[fP,.cells 38 (h5 (f,fd f (ce f).2 (d.take e)))]) (λe=>c d-e) 0 a D a ?_ a w ?_)
 .have u:fd f (ce f).2 (d.take 0)=(ce f).2:=rfl;rw[u];simp
 intro e t;have s:=tK (f:=f) (d.take e) eM.zero;have r:=zp (d.take e) eM.zero (zZ i);by_cases k:e<c d
 .have A:=Mr (f:=f) (b:=(ce f).2) k;have x:=yi p o (d.getD e fW.E) s r bM;refine a3 [26] a bM ?_;generalize fd f (ce f).2 (d.take e)=b at *;generalize cf f b (d.getD e fW.E)=C at *;refine g.aA x [0,1,2] a (aQ a j8 (g.aw (e+1) a D ?_ ?_ ?_))
  .rw[A];simp
  .omega
  omega
 obtain rfl:e=c d:=w;rw[c0]at *;refine a3 [-26] a D (g.az ?_);exact aQ a B kF
section
variable {q:af T}[q.b1]
omit [q.b1]in
def Ja(d:Nat)(b:Nat->Int)(j:Bytes b)(f:Nat)(r:f<=500000)(k:d<=1048576):
  bl (ι:={e:Int×Nat // f<=e.2/\e.2<=f+3}) q 19 [aH 0 0] [e6 d b f] (λe=>Q e.1.1) (λe=>[e6 d b e.1.2]):=by
 refine bl.cb func19 rfl rfl rfl λz=>?_;refine aQ a B (g.a1 (gC d b j f 60 w k w) [0] a bk ?_);rintro⟨t,u,x⟩;by_cases o:t=0
 .refine a3 [5] a (by simp[o]) (g.a1 (gC d b j (f+1) 2 w k w) [0] a bk ?_);rintro⟨i,s,p⟩;have m:i=0∨i=1:=w;rcases m with rfl|rfl
  .exact aQ a D (g.bu ⟨(0,f+2),by simp⟩ (g.aI [0] a D kQ))
  exact aQ a D (g.bu ⟨(100,f+2),by simp⟩ (g.aI [0] a D kQ))
 refine a3 [-5] a (by simp[o]) (g.a1 (gC d b j (f+1) 99 w k w) [0] a bk ?_);rintro⟨y,ce,w1⟩;refine aQ a j8 (g.a1 (gC d b j (f+2) 3 w k w) [0] a bk ?_);rintro⟨i,s,p⟩;have m:i=0∨i=1∨i=2:=w;rcases m with rfl|rfl|rfl
 .exact QY
 .exact QY
 exact aQ a D (g.bu ⟨(1+y,f+3),by simp⟩ (g.aI [0] a D kQ))
def Um:m dR ⊕ (Nat×(Nat->m M))->M
 |.inl a=>.B v 8 (c a) (fW.fn a)
 |.inr b=>.B v 8 b.1 b.2
abbrev Sl:={d:Int×(m dR ⊕ (Nat×(Nat->m M))) // match d.2 with|.inl b=>c b<=30|.inr a=>31<=a.1/\a.1<=40}
abbrev aev(a:m dR):aq:=.x 47 8 (c a) (fW.fn a)
abbrev ae2:m M:=[.int .i64 5,.int .i64 0,E',.int .i64 0,.int .i64 0,.int .i64 0,.T [],E']
def I9(o:Nat)(e:Nat->Int)(j:Bytes e)(A:o<=1048576):
  bl (ι:=Sl) q 5 [ay (.B v 1 o (qh e))] [] (λb=>.S [.Q (.c (.int .i64 b.1.1)),.Q (.c (Um b.1.2))]) (λ_=>[]):=by
 refine bl.cb func5 rfl rfl rfl λaa=>?_;refine aQ a B (g.a1 (Xp o e A) [] a bk ?_);rintro⟨i,W⟩;refine a3 [903] a B (g.bE 5 47 8 a a ?_);refine aQ a B (g.a1 (gC i e j 0 12 w w w) [0] a bk ?_);rintro⟨F,I,J⟩;refine aQ a B ?_;refine g.aB 2 (λb:Nat×m dR×Nat=>b.1+c b.2.1<=11/\b.2.2<=1+500*c b.2.1) (λb=>[(4,aH 0 0),(5,.n (.Q (.x 1 8 (c b.2.1) (fW.fn b.2.1)))),(6,Q b.1)])
  (λb=>[e6 i e b.2.2,aev b.2.1]) (λb=>b.1) (F.toNat,[],1) a ?_ a ?_ a ⟨by grind,by grind⟩ ?_
 .simp;omega
 .simp
 rintro⟨t,d,k1⟩ ⟨G,x⟩;simp only at G x;by_cases Y:0<t
 .refine a3 [13] a OD (g.a1 (Vp i e j k1 w w) [0] a bk ?_);rintro⟨⟨u,y⟩,R⟩;have bU:=fW.a0 d u;have K:=R.jq;have T:=R.i_;simp only at K T;refine aQ a ?_ (g.aw (t-1,d++[u],y) a ?_ ?_ ⟨by grind,by grind⟩ N)
  .simp only[U,a7,a',a9];exact⟨by omega,show(c d+1)*104<=140737488355328 by omega⟩
  .exact QA
  exact QA
 refine a3 [-13] a OC (g.az ?_);refine aQ a B (g.a1 (gC i e j k1 40 w w w) [0] a bk ?_);rintro⟨E,Z,X⟩;by_cases O:E=0
 .refine a3 [23] a pU (g.aB 2 (λb:Nat×(Nat->m M)=>b.1<=31) (λb=>[(4,aH 0 0),(5,.n (.Q (.x 1 8 b.1 b.2)))]) (λb=>[e6 i e (k1+1:Nat),.x 47 8 b.1 b.2]) (λb=>40-b.1) (c d,fW.fn d) a D a D a uj ?_);rintro⟨S,V⟩ z;simp only at z;by_cases H:S<=30
  .refine a3 [26] a ?_ (g.aw (S+1,ck S V λC=>([ae2]:m (m M)).getD C []) a ?_ ?_ uj uj)
   .simp only[U,bz,a',a9];exact⟨show(S+1)*104<=140737488355328 by omega,by omega⟩
   .simp
   simp
  refine a3 [-26] a bM (g.az ?_);refine aQ a B (g.a1 (Ja i e j (k1+1) w w) [0] a bk ?_);rintro⟨⟨k,s⟩,p⟩;simp only at p;refine aQ a B (g.a1 (gC i e j s 5 w w w) [0] a bk ?_);rintro⟨f,ce,w1⟩;have r:f=0∨f=1∨f=2∨f=3∨f=4:=w;rcases r with rfl|rfl|rfl|rfl|rfl
  .exact z3
  .exact z3
  .exact z3
  .exact z3
  exact aQ a D (g.bu ⟨(k,.inr (S,V)),by simp only;omega⟩ (g.aI [] a D e4))
 refine a3 [-23] a pU (g.a1 (Ja i e j (k1+1) w w) [0] a bk ?_);rintro⟨⟨k,s⟩,p⟩;simp only at p;refine aQ a B (g.a1 (gC i e j s 5 w w w) [0] a bk ?_);rintro⟨f,ce,w1⟩;have r:f=0∨f=1∨f=2∨f=3∨f=4:=w;rcases r with rfl|rfl|rfl|rfl|rfl
 .exact z2
 .exact z2
 .exact z2
 .exact z2
 exact aQ a D (g.bu ⟨(k,.inl d),by simp only;omega⟩ (g.aI [] a D e4))
end
def Jy{q:af T}(f:Int)(d:Nat)(b:Nat->m M)(i:31<=d/\d<=40):Y q 6 [Q f,ay (.B v 8 d b)] [] (mZ (j7,v)) []:=by
 refine Y.bg bc func6 rfl rfl rfl λe=>?_;by_cases b3:cm f=l
 .exact aQ a B (g.aA (JP (q:=q) f b3) [] a Rw)
 exact Qr
def Jw(k j:ak×X)(b:Int)(i:Nat)(f:Nat->m M)(p:31<=i/\i<=40):Y (af.aC T) 7 [Q b,ay (.B v 8 i f)] (hc k j) (mZ (j7,v)) (hc k j):=by
 refine Y.bg bc func7 rfl rfl rfl λo=>?_;have e:a_ (af.aC T) [(9,eO [Q b] (mZ (pu b)))]:=.cons (e8 (CO b)) .nil;by_cases d:cm b=l
 .rw[show pu b=(ce b,l)from bo d]at e;exact a8 e [-17,21] a bM kF
 rw[show pu b=(j7,v)from bj d]at e;exact a8 e [17,21] a D kF
def Je{a:af T}:Y a 8 [gT j7,gT j7] [] (bg l) []:=Jd j7 ⟨by simp,by simp,by simp,by simp[iL],by simp⟩ D
def eM.ef{q:af T}{a:fy}(b:eM j a):Y q 8 [gT (f,a),gT (f,a)] [] (bg l) []:=Jd (f,a) b.a.ba.df (by have:=b.bj;show c a.2.2.1<=4000000;omega)
def fx.eN{d:Nat}{e:dI}(b:fx d e):∀a,fx d (ga e a)
 |0=>b
 |a+1=>(b.eN a).step
abbrev vh(a b:Int):dR:=(4,0,[],j6,[a,b])
abbrev yf:dR:=(5,0,[],j6,[])
abbrev ac0(e d:ak×X)(b:Int)(a:fy)(f:dI):m aq:=hc e d++[.cells 38 (h5 (b,a)),.cells 38 (h5 (b,a)),.cells 38 (h5 (b,f,a.2))]
def Wt(M r:ak×X)(I G:Nat)(V P:Nat->Int)(aM:Bytes V)(_:Bytes P)(_:I<=9223372036854775807)(_:G<=9223372036854775807):Y (af.aC T) 4 [ay (.B v 1 I (qh V)),ay (.B v 1 G (qh P))] (hc M r) (bg l) (hc M r):=by
 refine Y.ab func4 rfl λaw=>?_;by_cases aB:1048576<I
 .refine a3 [19,23] a bM (g.aI [0,1,2] a ?_ mB);simp
 by_cases aD:1048576<G
 .refine a3 [-19,23] a bM (g.aI [0,1,2] a ?_ mB);simp
 refine a3 [-19,-23] a bM (g.a1 (I9 I V aM w) [] a bk ?_);rintro⟨⟨f,i|⟨j,C⟩⟩,x⟩
 rotate_left
 .have x:31<=j/\j<=40:=x;refine aQ a B (g.bI (Jy (q:=af.aC T) f j C x).tocE [] a a a a D a a a bk a bk a ?_);rintro -;refine aQ a B (g.bI (Jw M r f j C x).tocE [0,1,2] a a a a D a a a bk a bk a ?_);rintro -;exact Q1
 have x:c i<=30:=x;refine aQ a B (g.bI (Jx (q:=af.aC T) f i w).tocE [] a a a a D a a a bk a bk a ?_);rintro -;refine aQ a B (g.bI (Jv M r f i w).tocE [0,1,2] a a a a D a a a bk a bk a ?_);rintro -;by_cases t:cm f=l
 rotate_left
 .have S:qO f i=(j7,v):=bj λZ=>t Z.1;rw[S];exact Q1
 have S:qO f i=((f,fd f (ce f).2 i),l):=bo ⟨t,x⟩;rw[S];have k:eM (0+c i) (fd f (ce f).2 i):=tK (f:=f) i eM.zero;have y:=k.ef (q:=af.aC T) (f:=f);have aa:=zp (f:=f) i eM.zero (zZ t);generalize fd f (ce f).2 i=d at *;have cE:a_ (af.aC T) [(8,eO [gT (f,d),gT (f,d)] (bg l))]:=.cons (e8 y) .nil;refine bf cE [-44,-50,-53] a j8 ?_;have F:=(t'.1 aa).1.toiP;generalize 1+(G:Int) % 4=z;generalize 2+(G:Int) % 3=A;have m:=yi M r (vh z A) k aa w;have J:=k.do (f:=f) (ap:=vh z A);have N:=yc (ap:=vh z A) k.a aa;have an:cf f d (vh z A)=if c d.1.2.2=0 then((jO d.1.1 [z,A],d.2),l)else(d,v):=by simp only[cf,vh,GS F];rfl
 rw[an]at m J N;by_cases H:c d.1.2.2=0
 rotate_left
 .rw[bj H]at m;refine g.bI m.tocE [0,1,2] a a a a Qz a a a bk a bk a ?_;rintro -;refine a3 [79] a D (g.aI [0,1,2] a ?_ mB);simp;omega
 rw[bo H]at m J N;refine g.bI m.tocE [0,1,2] a a a a Qz a a a bk a bk a ?_;rintro -;generalize[z,A]=eg at *;have R:=k.a.ba.df;have ah:=k.a.ba.eP;refine a3 [-79] a D (g.aB 6 (λe=>e<=c d.1.1.1/\jg (f,ga (jO d.1.1 eg) e,d.2)=l) (λe:Nat=>[(5,Q f),(9,aH 4 0),(12,aH 5 0)]) (λe=>ac0 M r f d (ga (jO d.1.1 eg) e)) (λe=>c d.1.1.1-e) 0 a D a (by simp[ga]) a ⟨by omega,N⟩ ?_);rintro e ⟨bp,O⟩;have K:=J.a.eN e;have L:=(t'.1 O).1;have ar:=(wj (p:=jO d.1.1 eg) (u:=e) (by simpa using bp)).2.2.1;have ae:(ga (jO d.1.1 eg) e).2.2.length=c d.1.1.1-e:=by rw[ar];simp
 by_cases Z:e<c d.1.1.1
 .have bB:=J.a.eN (e+1);have ao:=Jb f (ga (jO d.1.1 eg) e).1 (ga (jO d.1.1 eg) (e+1)).1 K.ba.df.bm bB.ba.df.bm K.ba.df.aW λbv o=>M3 L o;have W:cf f (ga (jO d.1.1 eg) e,d.2) yf=((ga (jO d.1.1 eg) (e+1),d.2),l):=by
   have al:oq (ga (jO d.1.1 eg) e)=l:=by unfold oq;rw[iT,List.isEmpty_eq_false_iff,<-xd];omega
   simp only[cf,yf,al];rfl
  have ag:=yc (ap:=yf) K O;have m:=yi M r yf (b:=(ga (jO d.1.1 eg) e,d.2)) (j:=0+c i+1) ⟨K,k.bj,k.b'⟩ O w;rw[W]at ag m;refine a3 [89] a bM (g.bI m.tocE [0,1,2] a a a a ?_ a a a bk a bk a ?_)
  .simp only[U.Y,U,a',a9];and_intros<;>first|exact bs.same|rfl|(intro e bp;exact absurd bp D)
  rintro -;generalize o:ga (jO d.1.1 eg) (e+1)=bv at *;generalize ga (jO d.1.1 eg) e=b at *;have s:a_ (af.aC T) [(13,eO [Q f,b0 b.1,b0 bv.1] (bg l))]:=.cons (e8 ao) .nil;refine bf s [-98,-108] a (by simp;exact⟨a,a,a⟩) (g.aw (e+1) a D ?_ ⟨Z,by rw[o];exact ag⟩ w);rw[o];simp
 obtain rfl:e=c d.1.1.1:=w;have av:=IM F (kv d.1.1 eg) (fr (kv d.1.1 eg));have ai:c (cc (nl d.1.1 eg).1)=c (fr (nl d.1.1 eg).2.1):=Ud (eg:=eg) F;have y:=λbv o=>Uc (eg:=eg) F (bv:=bv) o;have E:=IN R eg;have ab:=Ue ah R eg;have aq:=Jb f (nl d.1.1 eg) d.1.1 E.bm R.bm E.aW λbv o=>y bv o;refine a3 [-89] a (by simp;exact AV.1 w) (g.az ?_);generalize ga (jO d.1.1 eg) (c d.1.1.1)=b at *;obtain⟨au,aC⟩:=b;obtain rfl:au=nl d.1.1 eg:=av;have s:a_ (af.aC T) [(14,HA),(15,HC),(13,eO [Q f,b0 (nl d.1.1 eg),b0 d.1.1] (bg l))]:=.cons adQ (.cons adS (.cons (e8 aq) .nil));generalize nl d.1.1 eg=ap at *;refine bf s [119] a ?_ (g.aI [0,1,2] a ?_ mB)
 .simp only[U,a1.l,bd.l,a4.l,az.l,a7];and_intros<;>first|rfl|exact True.intro|exact a1.J _|exact bd.J _|exact a4.J _|exact az.J _|exact E.bm|exact E.aW|exact E.bl|exact ab.dQ|exact ab.dv|exact ab|(simp[ai];done)|omega|skip
 simp
end R1
end Go.AM
