/- Part 5. No condition. -/
import Derived.Test.YtkpmoikakakhkaaGreatDoorA4
import Derived.Conc.CrowdComm
import Derived.Conc.SmallLaws
import Derived.Conc.EventLaws
set_option linter.all false
set_option maxHeartbeats 8000000
open Go.Proofs
open Go.Proofs.Tryz
open List renaming length → c, range → aB, getD_eq_getElem?_getD → ak, all_eq_true → aX
open Go renaming Value → Y, TypeId → al, World → ar, Frame → aG, execOp → ab, Operand → ae, Program → aE, Goroutine → ai, Oper → an
open Option renaming some → f, none → n
open Bool renaming true → l, false → v
open Nat renaming beq → ad, ble → ay
open Go.Proofs.Tryz renaming prog → T
namespace Go.AM
variable {j A:Nat}{h:Int}{d i e u:Nat}{W:al}{H:Y->(Nat->Option Obj)->Prop}{L:Array Bool}{bB:Mem}{E:Nat}{P:aE}{br:ai->a6->Prop}{s:Code}{C:ai}{r:an}{b:a6}{o:al}{aa:Y}{p:ar}{α:Type}{η:ae->y}{ι:Type}{k:m aq}{I:bJ}{all:m an}{dr:Array al}{cap:m N}{cQ:m y}{k6:Nat->Option Obj}{ah:m aG}{bh:m (Nat×Bool)}{V:Nat->m N}{cP:ae}{gs:Array ai}{aV:m Nat}{cn:m Prop}{off:Nat}{op:BinOp}{aQ:Array an}{Z:m Prop}{bq:m an}{aA:a6}{ty:al}{val:Nat->Nat->Y}{z:m Y}{bi:ar}{ag:Array ae}{ap dh:m aq}{res:ι->y}{aS:ι->m aq}
variable {CT:m (Nat×bI)}{au:m ik}{bd:fw}{ac:m (Nat×cp)}{a4:cp}
namespace R1
section
variable {q:af T}
abbrev Ao:=Int×Int
def hs(a:Ao):Bool:=decide (1<=a.1/\a.1<=2)&&decide (1<=a.2/\a.2<=20)
def gC(a:m Ao):Bool:=(aB (c a)).all (λb=>hs (a.getD b (0,0)))&&decide (c a<=9)
abbrev B8(a:Ao):y:=.n (.agg [.c (.int .i64 a.1),.c (.int .i64 a.2)])
def Vf(b):X q 163 [B8 b] [] (bf (hs b)) []:=by
 refine X.J func163 rfl λh=>?_;have e:a_ q [(45,kE)]:=.cons lo .nil;by_cases d:1<=b.1/\b.1<=2
 .exact a8 e [6] a (by simp[d]) (g.ao a (by simp[hs,d]))
 exact a8 e [-6] a bQ (g.ao a (by simp only[U,hs,na d];simp))
def Wt(d):X q 119 [a3.B d] [] (bf (gC d)) []:=by
 refine X.J func119 rfl λm=>?_;have r:=m.B 0 a;have h:a_ q [(163,dc sf (λe=>bf (hs e)) λ_=>[])]:=.cons (.a9 λe _=>Vf e) .nil;refine b8 h a B ?_;unfold gC;refine g.b6 (λb=>b<=c d/\∀k,k<b->hs (d.getD k (0,0))=l) (λb:Nat=>[(0,a3.B d),(3,Q b)]) (λ_=>[]) (λb=>c d-b) 0 a D a B ⟨by omega,by omega⟩ ?_;rintro b ⟨p,j⟩;by_cases e:b<c d
 .have o:d.getD b a3.F=d.getD b (0,0):=rfl;cases i:hs (d.getD b (0,0))with
  |false=>
   refine a8 h [7,15] a ds (g.bQ (bY.zero a ?_));rw[lG e i];simp
  |true=>
   refine a8 h [7,-15] a ?_ (g.b1 (b+1) a D a B ⟨e,je j i⟩ w);simp[-ak,o,i,e,a7];omega
 obtain rfl:b=c d:=w;refine a8 h [-7] a D (g.bs a a ?_);exact b8 h a B (g.ao a (by rw[fZ.2 j];simp;omega))
abbrev n4:bI:=dc (eK a3) (λa=>bf (gC a)) λ_=>[]
def MS:bK q 119 n4:=.a9 λa _=>Wt a
def ct(a:m b'):m Int:=a.flatMap λb=>b.2.map (·.1)
def j7(d:α->Int)(b:α)(e:m α)(a:Nat):Bool:=a==0||decide (d (e.getD (a-1) b)<d (e.getD a b))
def nJ(d:Int)(a:m b')(b:Nat):Bool:=h' d (a.getD b (0,[]))&&j7 (·.1) (0,[]) a b
def ln(d:Int)(a:cd)(b:Nat):Bool:=decide (1<=(a.2.1.getD b (0,[])).1/\(a.2.1.getD b (0,[])).1<=20)&&j7 (·.1) (0,[]) a.2.1 b&&(en d (a.2.1.getD b (0,[])) a.1).isSome
def hV(b:Int)(a:cd):Bool:=(aB (c a.1)).all (nJ b a.1)&&decide (ct a.1).Nodup&&(aB (c a.2.1)).all (ln b a)&&ce b&&gC a.2.2&&decide (c a.1<=20)
def KP{Z}(a:e<c Z):ct (Z.take (e+1))=ct (Z.take e)++(Z.getD e (0,[])).2.map (·.1):=by rw[ie a (0,[])];simp[ct]
def aac{Z}(a:¬(ct (Z.take e)).Nodup):¬(ct Z).Nodup:=λb=>a (by
 have:ct Z=ct (Z.take e)++ct (Z.drop e):=RG
 grind)
abbrev oF(a:cd):aq:=.cells 30 [.c (.B v 2 (c a.1) (a2.fn a.1)),.c (.B v 2 (c a.2.1) (bg.fn a.2.1)),.c (.B v 2 (c a.2.2) (a3.fn a.2.2))]
def U7(h)(b)(d)(j:c d.2<=4000000)(m:∀i∈d.2,c i.2<=4000000):X q 123 [Q h,bW b,iR d] [] (bf (en h d b.1).isSome) []:=by
 refine X.J func123 rfl λk=>?_;have e:a_ q [(165,HC)]:=.cons adM .nil;have o:(d.1,cw.ad (c d.2) (cw.fn d.2))=d:=by rw[cw.l]
 refine b8 e a bE (g.ao a ?_);simp[cw.l,a2.l]
abbrev G_:bI:=j' c1 o0 (jB cw) (λb d a=>bf (en b a d.1).isSome) λ_ _ a=>[c a.2<=4000000,∀e∈a.2,c e.2<=4000000]
def adb:bK q 123 G_:=.c5 λb d e a=>U7 b d e a.1 a.2
def p7{aj:α->Int}{O}{d}(a:e≠0):j7 aj O d e=decide (aj (d.getD (e-1) O)<aj (d.getD e O)):=by unfold j7;grind
def XY(h)(b)(L:kq b)(P:c b.1<=4000000)(ae:c b.2.1<=4000000):X q 78 [Q h,bW b] [] (bf (hV h b)) []:=by
 refine X.J func78 rfl λaM=>?_;have s:a_ q [(122,Hq),(80,uR),(45,kE),(123,G_),(44,ro),(119,n4)]:=.cons adv (.cons zu (.cons lo (.cons adb (.cons tF (.cons MS .nil)))));refine a8 s [902] a B (g.bG 5 3 1 a a ?_);refine b8 s a B ?_;unfold hV;refine g.aC 2 (λe=>e<=c b.1/\(∀k,k<e->nJ h b.1 k=l)/\(ct (b.1.take e)).Nodup/\c (ct (b.1.take e))<=4*e) (λe:Nat=>[(0,Q h),(3,aI 0 0),(5,.n (.Q (.x 1 1 (c (ct (b.1.take e))) (az.fn (ct (b.1.take e)))))),(6,Q e)]) (λe=>[oF b,.x 3 1 (c (ct (b.1.take e))) (az.fn (ct (b.1.take e)))]) (λe=>c b.1-e) 0 a E7 a E7 a ⟨by omega,by omega,by simp[ct],by simp[ct]⟩ ?_;rintro e ⟨K,C,T,ab⟩;by_cases t:e<c b.1
 .have p:=KP t;have N:=aac (Z:=b.1) (e:=e+1);have A:b.1.getD e a2.F=b.1.getD e (0,[]):=rfl;have j:b.1.getD (e-1) a2.F=b.1.getD (e-1) (0,[]):=rfl;have u:nJ h b.1 e=(h' h (b.1.getD e (0,[]))&&j7 (·.1) (0,[]) b.1 e):=rfl;have W:=p7 (aj:=λi:b'=>i.1) (O:=(0,[])) (d:=b.1) (e:=e);generalize y:b.1.getD e (0,[])=i at *;generalize b.1.getD (e-1) (0,[])=x at *;cases o:h' h i with
  |false=>
   rw[o,sr]at u;refine a8 s [14,25,44] a P_ (g.aT (bY.zero a ?_));rw[lG t u];simp
  |true=>
   have af:c i.2<=4:=by grind[DK]
   rw[o,fP]at u;cases E:j7 (·.1) (0,[]) b.1 e with
   |false=>
    have z:e≠0:=by rintro rfl;cases E
    have J:¬x.1<i.1:=M;refine a8 s [14,-25,28,42,44] a QH (g.aT (bY.zero a ?_));rw[lG t (u.trans E)];simp
   |true=>
   rw[E]at u;apply g.cg [(0,Q h),(3,aI 0 0),(5,.n (.Q (.x 1 1 (c (ct (b.1.take e))) (az.fn (ct (b.1.take e)))))),(6,Q e),(7,Q 0)] [oF b,.x 3 1 (c (ct (b.1.take e))) (az.fn (ct (b.1.take e)))]
   .intro aa;by_cases z:e=0
    .subst z;refine a8 s [14,-25,-28,-44] a P_ (aa _ _ a ?_);simp
    have J:x.1<i.1:=M;refine a8 s [14,-25,28,-42,-44] a QH (aa _ _ a ?_);simp
   generalize ct (b.1.take e)=m at *;refine g.aC 2 (λk=>k<=c i.2/\(m++(i.2.take k).map (·.1)).Nodup) (λk:Nat=>[(0,Q h),(3,aI 0 0),(5,.n (.Q (.x 1 1 (c (m++(i.2.take k).map (·.1))) (az.fn (m++(i.2.take k).map (·.1)))))),(6,Q e),(7,Q k)]) (λk=>[oF b,.x 3 1 (c (m++(i.2.take k).map (·.1))) (az.fn (m++(i.2.take k).map (·.1)))]) (λk=>c i.2-k) 0 a D a D a ⟨by omega,by grind⟩ ?_;rintro k ⟨ag,G⟩;by_cases r:k<c i.2
   .have R:i.2.getD k bG.F=d9 i k:=rfl;have ea:m++(i.2.take (k+1)).map (·.1)=(m++(i.2.take k).map (·.1))++[(d9 i k).1]:=ig;have V:c (m++(i.2.take k).map (·.1))=c m+k:=M;generalize m++(i.2.take k).map (·.1)=F at *;cases S:F.contains (d9 i k).1 with
    |true=>
     refine a8 s [53,67] a ?_ (g.aT (g.dK (bY.zero a ?_)))
     .simp[-ak,-List.contains_eq_mem,A,R,t,r,S,az.l,az.U]
     .have bB:¬(ct b.1).Nodup:=N (by
       have ah:m++i.2.map (·.1)=(m++(i.2.take (k+1)).map (·.1))++(i.2.drop (k+1)).map (·.1):=D
       grind)
      simp[bB]
    |false=>
     have H:=az.aX F (d9 i k).1;have Y:az.ad (c m+k) (az.fn F)=F:=by rw[<-V];exact az.l F
     refine a8 s [53,-67] a ?_ (g.av (k+1) a ?_ ?_ ⟨r,?_⟩ w)
     .simp[-ak,-List.contains_eq_mem,A,R,t,r,S,az.l,az.U,V,Y,a7,show d8.bytes=8 from a];omega
     .exact O2
     .exact O2
     grind
   obtain rfl:k=c i.2:=w;rw[c6]at G⊢;refine a8 s [-53] a ?_ (g.az ?_)
   .simp[-ak,A,t]
   refine b8 s a bE (g.av (e+1) a ?_ ?_ ⟨t,je C u,by grind,by grind⟩ w)
   .rw[p];simp
   rw[p];simp
 obtain rfl:e=c b.1:=w;rw[c6]at T⊢;refine a8 s [-14] a D (g.az ?_);refine b8 s a B ?_;rw[fZ.2 C,fi T,fP,fP];generalize ct b.1=m;refine g.aC 2 (λe=>e<=c b.2.1/\(∀k,k<e->ln h b k=l)) (λe:Nat=>[(0,Q h),(3,aI 0 0),(8,Q e)]) (λ_=>[oF b,.x 3 1 (c m) (az.fn m)]) (λe=>c b.2.1-e) 0 a D a D a ⟨by omega,by omega⟩ ?_;rintro e ⟨K,C⟩;by_cases t:e<c b.2.1
 .have A:b.2.1.getD e bg.F=b.2.1.getD e (0,[]):=rfl;have j:b.2.1.getD (e-1) bg.F=b.2.1.getD (e-1) (0,[]):=rfl;have bl:=L _ (oe (O:=(0,[])) t);have u:ln h b e=(decide (1<=(b.2.1.getD e (0,[])).1/\(b.2.1.getD e (0,[])).1<=20)&&j7 (·.1) (0,[]) b.2.1 e&&(en h (b.2.1.getD e (0,[])) b.1).isSome):=rfl;have W:=p7 (aj:=λi:eh=>i.1) (O:=(0,[])) (d:=b.2.1) (e:=e);generalize y:b.2.1.getD e (0,[])=i at *;generalize b.2.1.getD (e-1) (0,[])=x at *;by_cases g7:1<=i.1/\i.1<=20
  rotate_left
  .refine a8 s [85,96,116,126] a ?_ (g.aT (bY.zero a ?_))
   .simp[-ak,A,t];omega
   exact jX
  cases E:j7 (·.1) (0,[]) b.2.1 e with
  |false=>
   have z:e≠0:=by rintro rfl;cases E
   have J:¬x.1<i.1:=M;refine a8 s [85,-96,99,113,116,126] a ?_ (g.aT (bY.zero a ?_))
   .simp[-ak,A,j,t,g7,a7];omega
   exact jX
  |true=>
   rw[fi g7,E,fP,fP]at u;cases r:(en h i b.1).isSome with
   |false=>
    by_cases z:e=0
    .subst z;refine a8 s [85,-96,-99,-116,126] a ?_ (g.aT (bY.zero a ?_))
     .simp[-ak,A,t,g7,cw.l,cw.U,a2.l,a2.U,bg.U,a3.U,r,bl.1];grind
     rw[lG t (u.trans r)];simp
    have J:x.1<i.1:=M;refine a8 s [85,-96,99,-113,-116,126] a Rg (g.aT (bY.zero a ?_));rw[lG t (u.trans r)];simp
   |true=>
    rw[r]at u;by_cases z:e=0
    .subst z;refine a8 s [85,-96,-99,-116,-126] a ?_ (g.av 1 a D D ⟨t,je C u⟩ w);simp[-ak,A,t,g7,a7,cw.l,cw.U,a2.l,a2.U,bg.U,a3.U,r,bl.1];grind
    have J:x.1<i.1:=M;refine a8 s [85,-96,99,-113,-116,-126] a ?_ (g.av (e+1) a D D ⟨t,je C u⟩ w);exact Rg
 obtain rfl:e=c b.2.1:=w;refine a8 s [-85] a D (g.az ?_);rw[fZ.2 C,fP];cases bX:ce h
 .exact a8 s [-129,-134] a kU (g.ao a)
 cases I:gC b.2.2
 .exact a8 s [129,-134] a NZ (g.ao a)
 exact a8 s [129,134] a NZ (g.ao a bQ)
abbrev BJ:bI:=ei c1 o0 (λb a=>bf (hV b a)) λ_ a=>[kq a,c a.1<=4000000,c a.2.1<=4000000]
def M2:bK q 78 BJ:=.bk λb d a=>XY b d a.1 a.2.1 a.2.2
def gq(d:Int)(a:m Int×Bool)(b:Int):m Int×Bool:=
 if a.2=l then(if b=d then a else(a.1++[b],l))else if d<=b then(if b=d then(a.1++[d],l)else(a.1++[d,b],l))else(a.1++[b],v)
abbrev fy(d:Int)(b:m Int)(a:Nat):m Int×Bool:=(b.take a).foldl (gq d) ([],v)
def e5(b:m Int)(a:Int):m Int:=if(b.foldl (gq a) ([],v)).2=l then(b.foldl (gq a) ([],v)).1 else(b.foldl (gq a) ([],v)).1++[a]
def w_{j}{d}(a:e<c d):fy j d (e+1)=gq j (fy j d e) (d.getD e 0):=ig
def w9(j)(d):∀a,a<=c d->(fy j d a).1.length+(if(fy j d a).2=l then 0 else 1)<=a+1
 |0,_=>by simp[fy]
 |a+1,g=>by have:=w9 j d a w;rw[w_ w];generalize fy j d a=b at *;obtain⟨b,e⟩:=b;unfold gq;grind
theorem Zw(d)(j):c (e5 d j)<=c d+1:=by
 have:=w9 j d (c d) (bC _);simp[fy,c6]at this;unfold e5;split at this<;>rename_i a
 .grind
 grind
def aeR{h:Type}(a:c0 h)(d)(e g):bs (c d+1+1) (cg (c d+1) (cg (c d) (a.fn d) λb=>[a.a7 e].getD b []) λb=>[a.a7 g].getD b []) (a.fn (d++[e,g])):=a.e1 d e g
def TT(d)(j)(A:c d<=100000000):X q 118 [az.B d,Q j] [] (az.B (e5 d j)) []:=by
 refine X.J func118 rfl λz=>?_;refine a5 [902] a B (g.bG 5 3 1 a a ?_);refine aW a B (g.aC 1 (λb=>b<=c d) (λb:Nat=>[(0,az.B d),(1,Q j),(5,.n (.Q (.x 0 1 (fy j d b).1.length (az.fn (fy j d b).1)))),(6,bf (fy j d b).2),(7,Q b)]) (λb=>[.x 3 1 (fy j d b).1.length (az.fn (fy j d b).1)]) (λb=>c d-b) 0 a N1 a N1 a w ?_);intro b p;have u:=w9 j d b p;by_cases i:b<c d
 .have s:=w_ (j:=j) i;have O:d.getD (b:Int).toNat az.F=d.getD b 0:=ds;generalize d.getD b 0=bF at *;generalize fy j d b=e at *;obtain⟨e,m⟩:=e;have aj:=λbF=>az.aX e bF;have r:=λx bF=>az.e1 e x bF;have y:(c e+1+1)*8<=140737488355328:=M;have fin:∀o,fy j d (b+1)=o->True:=λ_ _=>trivial;have k:c d-(b+1)<c d-b:=w;by_cases h:bF=j
  .cases m with
   |true=>
    rw[show gq j (e,l) bF=(e,l) by simp[gq,h]]at s;refine a5 [12,-34] a ?_ (g.av (b+1) a ?_ ?_ i k)
    .simp only[U,O,h,a7];simp;omega
    .rw[s];simp
    rw[s];simp
   |false=>
    rw[show gq j (e,v) bF=(e++[j],l) by simp[gq,h]]at s;refine a5 [12,24,-34] a ?_ (g.av (b+1) a ?_ ?_ i k)
    .simp only[U,O,h,a7,show d8.bytes=8 from a];simp;omega
    .exact P2
    exact P2
  cases m with
  |true=>
   rw[show gq j (e,l) bF=(e++[bF],l) by simp[gq,h]]at s;refine a5 [12,34] a O4 (g.av (b+1) a zV ?_ i k);exact zV
  |false=>
   by_cases t:j<=bF
   .rw[show gq j (e,v) bF=(e++[j,bF],l) by simp[gq,h,t]]at s;refine a5 [12,24,34] a ?_ (g.av (b+1) a ?_ ?_ i k)
    .simp only[U,O,a7,show d8.bytes=8 from a];simp[h,t];omega
    .exact Pj
    exact Pj
   rw[show gq j (e,v) bF=(e++[bF],v) by simp[gq,t]]at s;refine a5 [12,-24,34] a O4 (g.av (b+1) a zV ?_ i k);exact zV
 obtain rfl:b=c d:=w;unfold e5;simp[fy,c6]at u⊢;generalize d.foldl (gq j) ([],v)=e at *;obtain⟨e,m⟩:=e;have aj:=az.aX e j;refine a5 [-12] a D (g.az ?_);cases m with
 |true=>exact aW rfl D (g.ao rfl)
 |false=>
  refine aW a ?_ (g.ao a ?_)
  .simp only[U,show d8.bytes=8 from a];simp at u⊢;omega
  simp[U,j5,dm,dk,gx];and_intros<;>first|exact aj|trivial
abbrev xr:bI:=ei (eK az) c1 (λa b=>az.B (e5 a b)) λa _=>[c a<=100000000]
def Eu:bK q 118 xr:=.bk λb d a=>TT b d a
theorem qm(b):∀a:m Int,c (a.foldl e5 b)<=c b+c a
 |[]=>by simp
 |d::a=>by have:=qm (e5 b d) a;grind[Zw]
def yh{a:Type}(b:a->Int->a)(e:a){d}(g:u<c d):(d.take (u+1)).foldl b e=b ((d.take u).foldl b e) (d.getD u 0):=ig
def gE(a:m m2):m Int:=(d_ a).foldl e5 []
theorem tc(d):c (gE d)<=c (d_ d):=by
 have:=qm [] (d_ d)
 rwa [gK,cX]at this
def XJ(b)(I:c b.2<=4000000)(F:c (d_ b.2)<=4000000):X q 117 [iR b] [] (az.B (gE b.2)) []:=by
 refine X.J func117 rfl λA=>?_;have i:a_ q [(118,xr)]:=.cons Eu .nil;refine b8 i a B (g.aC 1 (λe=>e<=c b.2) (λe:Nat=>[(1,aI 0 0),(3,az.B (gE (b.2.take e))),(4,Q e)]) (λ_=>[zm b]) (λe=>c b.2-e) 0 a (by simp[gE,d_]) a D a w ?_);intro e x;by_cases t:e<c b.2
 .have d:b.2.getD e cw.F=b.2.getD e ([],[]):=rfl;have o:=KM t;have y:=KN b.2 (e+1);have E:=tc (b.2.take e);have z:gE (b.2.take (e+1))=(b.2.getD e ([],[])).2.foldl e5 (gE (b.2.take e)):=by simp[gE,o,uu]
  rw[o,dk]at y;generalize b.2.getD e ([],[])=j at *;generalize gE (b.2.take e)=k at *;refine a8 i [11] a gH (g.aC 1 (λh=>h<=c j.2) (λh:Nat=>[(1,aI 0 0),(3,az.B ((j.2.take h).foldl e5 k)),(4,Q e),(5,Q h)]) (λ_=>[zm b]) (λh=>c j.2-h) 0 a D a D a w ?_);intro h C;by_cases m:h<c j.2
  .have s:j.2.getD h az.F=j.2.getD h 0:=rfl;have r:=yh e5 k m;have u:=qm k (j.2.take h);rw[List.length_take]at u;generalize(j.2.take h).foldl e5 k=j2 at *;have p:=az.l j2;refine a8 i [22] a ?_ (g.av (h+1) a ?_ ?_ m w)
   .simp[-ak,d,s,t,m,p,az.U,a7];omega
   .rw[r];simp[-ak,d,s,p]
   simp
  obtain rfl:h=c j.2:=w;rw[c6,<-z];refine a8 i [-22] a ds (g.az ?_);exact Qh
 obtain rfl:e=c b.2:=w;rw[c6];refine a8 i [-11] a D (g.az ?_);exact b8 i a B (g.ao a)
abbrev BC:bI:=dc (jB cw) (λa=>az.B (gE a.2)) λa=>[c a.2<=4000000,c (d_ a.2)<=4000000]
def MU:bK q 117 BC:=.a9 λb a=>XJ b a.1 a.2
def ho(a:m eh):m Int:=a.flatMap λb=>d_ b.2
def hS(b:m eh):m Int:=b.foldl (λa d=>(gE d.2).foldl e5 a) []
theorem AU{d}(a:e<c d):ho (d.take (e+1))=ho (d.take e)++d_ (d.getD e (0,[])).2:=by rw[ie a (0,[])];simp[ho]
def Gm(d)(e):c (ho (d.take e))<=c (ho d):=by
 have a:ho d=ho (d.take e)++ho (d.drop e):=by unfold ho;grind[List.take_append_drop]
 grind
theorem KD{d}(a:e<c d):hS (d.take (e+1))=(gE (d.getD e (0,[])).2).foldl e5 (hS (d.take e)):=by unfold hS;grind[ie]
def yD(d):∀a,a<=c d->c (hS (d.take a))<=c (ho (d.take a))
 |0,_=>by simp[hS]
 |a+1,e=>by have b:=yD d a w;grind[qm,tc,KD,AU]
def Wz(b)(p:kq b)(M:c b.2.1<=4000000)(N:c (ho b.2.1)<=4000000):X q 81 [bW b] [] (az.B (hS b.2.1)) []:=by
 refine X.J func81 rfl λI=>?_;have i:a_ q [(118,xr),(117,BC)]:=.cons Eu (.cons MU .nil);refine b8 i a B (g.aC 1 (λe=>e<=c b.2.1) (λe:Nat=>[(1,aI 0 0),(3,az.B (hS (b.2.1.take e))),(4,Q e)]) (λ_=>[oF b]) (λe=>c b.2.1-e) 0 a (by simp[hS]) a D a w ?_);intro e m;by_cases t:e<c b.2.1
 .have r:b.2.1.getD e bg.F=b.2.1.getD e (0,[]):=rfl;have E:=p _ (oe (O:=(0,[])) t);have x:=AU t;have C:=Gm b.2.1 (e+1);have K:=yD b.2.1 e m;have p:=KD t;rw[x,dk]at C;generalize b.2.1.getD e (0,[])=j at *;have F:=tc j.2;generalize hS (b.2.1.take e)=k at *;refine a8 i [12] a ?_ ?_
  .simp[-ak,t,r,cw.l,cw.U];omega
  have y:b.2.1.getD (e:Int).toNat bg.F=j:=by rw[cY];exact r
  rw[y,cw.l];refine g.aC 1 (λd=>d<=c (gE j.2)) (λd:Nat=>[(1,aI 0 0),(3,az.B (((gE j.2).take d).foldl e5 k)),(4,Q e),(5,az.B (gE j.2)),(6,Q d)]) (λ_=>[oF b]) (λd=>c (gE j.2)-d) 0 a D a D a w ?_;intro d J;generalize gE j.2=h at *;by_cases o:d<c h
  .have s:h.getD d az.F=h.getD d 0:=rfl;have z:=yh e5 k o;have A:=qm k (h.take d);rw[List.length_take]at A;generalize(h.take d).foldl e5 k=j2 at *;have u:=az.l j2;refine a8 i [24] a ?_ (g.av (d+1) a ?_ ?_ o w)
   .simp[-ak,s,o,u,az.U,a7];omega
   .rw[z];simp[-ak,s,u]
   simp
  obtain rfl:d=c h:=w;rw[c6,<-p];refine a8 i [-24] a D (g.az ?_);exact Qh
 obtain rfl:e=c b.2.1:=w;rw[c6];refine a8 i [-12] a D (g.az ?_);exact b8 i a B (g.ao a)
abbrev BB:bI:=dc o0 (λa=>az.B (hS a.2.1)) λa=>[kq a,c a.2.1<=4000000,c (ho a.2.1)<=4000000]
def MT:bK q 81 BB:=.a9 λb a=>Wz b a.1 a.2.1 a.2.2
abbrev dN:=cd×m Int×m Int
abbrev eQ:=Int×dN×(Int×Int×Int×bA)×m (Int×Int)×m Int
abbrev Yy:q8 cd:=x' (u9 a2) (x' (u9 bg) (u9 a3))
abbrev CE:q8 dN:=x' Yy (x' (u9 az) (u9 az))
abbrev cK(a:c0 α)(b:m α):R:=.c (.B v a.bj (c b) (a.fn b))
abbrev v6(a:dN):m R:=[cK a2 a.1.1,cK bg a.1.2.1,cK a3 a.1.2.2,cK az a.2.1,cK az a.2.2]
abbrev gz(a:dN):y:=.n (.agg (v6 a))
abbrev lu(a:eQ):m R:=.c (.int .i64 a.1)::(v6 a.2.1++[.c (.int .i64 a.2.2.1.1),.c (.int .i64 a.2.2.1.2.1),.c (.int .i64 a.2.2.1.2.2.1),.c (.T a.2.2.1.2.2.2),cK a3 a.2.2.2.1,cK az a.2.2.2.2])
abbrev fR(a:eQ):y:=.n (.agg (lu a))
structure q_(b:cd):Prop where
 fJ:c b.1<=4000000
 dW:kq b
 fa:c b.2.1<=4000000
 eB:c (ho b.2.1)<=4000000
def nA(a:m b')(d:m Int)(b:Nat):Bool:=(a.any λe=>e.1==d.getD b 0)&&j7 (λg=>g) 0 d b
def hg(b:Int)(a:dN):Bool:=(hS a.1.2.1).all (λd=>a.2.1.contains d)&&(aB (c a.2.2)).all (nA a.1.1 a.2.2)&&hV b a.1
def Si{d}{a:Int->Bool}:d.all a=(aB (c d)).all λb=>a (d.getD b 0):=by rw[oX,fZ,aX];grind[List.mem_iff_getElem]
def Sn{d}{S:b'->Bool}(a:u<c d):(d.take (u+1)).any S=((d.take u).any S||S (d.getD u (0,[]))):=ig
abbrev gr(a:dN):aq:=.cells 33 (v6 a)
def X6(h)(p)(m:q_ p.1):X q 115 [Q h,gz p] [] (bf (hg h p)) []:=by
 refine X.J func115 rfl λI=>?_;have k:a_ q [(81,BB),(80,uR),(78,BJ)]:=.cons MT (.cons zu (.cons M2 .nil));have N:=I.fX 1 a 4 a;have J:=yD p.1.2.1 _ (bC _);rw[c6]at J;have Y:=m.eB;refine b8 k a ?_ ?_
 .simp[a2.l,a2.U,bg.l,bg.U,a3.l,a3.U,m.dW,m.fa,m.eB]
 rw[bg.l];unfold hg;rw[Si];generalize hS p.1.2.1=j at *;refine g.aC 1 (λe=>e<=c j/\∀b,b<e->p.2.1.contains (j.getD b 0)=l) (λe:Nat=>[(0,Q h),(3,aI 0 0),(5,az.B j),(6,Q e)]) (λ_=>[gr p]) (λe=>c j-e) 0 a D a D a ⟨by omega,by omega⟩ ?_;rintro e ⟨z,o⟩;by_cases t:e<c j
 .have r:j.getD e az.F=j.getD e 0:=rfl;cases x:p.2.1.contains (j.getD e 0)with
  |false=>
   refine a8 k [16,26] a ?_ (g.aT (bY.zero a ?_))
   .simp[-ak,-List.contains_eq_mem,r,t,x,az.l,az.U]
   rw[lG t x];simp
  |true=>
   refine a8 k [16,-26] a ?_ (g.av (e+1) a D D ⟨t,je o x⟩ w);simp[-ak,-List.contains_eq_mem,r,t,x,az.l,az.U,a7];omega
 obtain rfl:e=c j:=w;rw[fZ.2 o,fP];refine a8 k [-16] a D (g.az ?_);refine b8 k a B (g.aC 1 (λe=>e<=c p.2.2/\∀b,b<e->nA p.1.1 p.2.2 b=l) (λe:Nat=>[(0,Q h),(3,aI 0 0),(7,Q e)]) (λ_=>[gr p]) (λe=>c p.2.2-e) 0 a D a D a ⟨by omega,by omega⟩ ?_);rintro e ⟨z,o⟩;by_cases t:e<c p.2.2
 .have r:p.2.2.getD e az.F=p.2.2.getD e 0:=rfl;have bl:p.2.2.getD (e-1) az.F=p.2.2.getD (e-1) 0:=rfl;have A:nA p.1.1 p.2.2 e=((p.1.1.any λS=>S.1==p.2.2.getD e 0)&&j7 (λE=>E) 0 p.2.2 e):=rfl;have R:=p7 (aj:=λE:Int=>E) (O:=0) (d:=p.2.2) (e:=e);generalize p.2.2.getD e 0=s at *;generalize p.2.2.getD (e-1) 0=C at *;refine a8 k [31] a gH (g.aC 1 (λb=>b<=c p.1.1) (λb:Nat=>[(0,Q h),(3,aI 0 0),(7,Q e),(8,bf ((p.1.1.take b).any λS=>S.1==s)),(9,Q b)]) (λ_=>[gr p]) (λb=>c p.1.1-b) 0 a D a D a w ?_);intro b G;by_cases u:b<c p.1.1
  .have V:=m.fJ;have y:p.1.1.getD b a2.F=p.1.1.getD b (0,[]):=rfl;have W:=Sn (S:=λS=>S.1==s) u;generalize p.1.1.getD b (0,[])=S at *;generalize(p.1.1.take b).any (λS=>S.1==s)=i at *;cases i with
   |true=>
    refine a8 k [39] a ?_ (g.av (b+1) a ?_ ?_ u w)
    .simp[u,a7];omega
    .exact bE
    simp
   |false=>
    refine a8 k [39] a ?_ (g.av (b+1) a ?_ ?_ u w)
    .simp[-ak,t,u,a7];omega
    .exact bE
    simp
  obtain rfl:b=c p.1.1:=w;rw[c6];refine a8 k [-39] a D (g.az ?_);cases F:p.1.1.any (λS=>S.1==s)with
  |false=>
   rw[F,sr]at A;refine a8 k [77] a D (g.aT (bY.zero a ?_));rw[lG t A];simp
  |true=>
   rw[F,fP]at A;by_cases K:e=0
   .subst K;refine a8 k [-63,-77] a ?_ (g.av 1 a D D ⟨t,je o bE⟩ w);simp[a7]
   by_cases T:C<s
   .refine a8 k [63,-75,-77] a ?_ (g.av (e+1) a D D ⟨t,je o M⟩ w);exact PK
   refine a8 k [63,75,77] a PK (g.aT (bY.zero a ?_));exact jX
 obtain rfl:e=c p.2.2:=w;rw[fZ.2 o,fP];refine a8 k [-31] a D (g.az ?_);refine b8 k a ?_ (g.ao a ?_)
 .simp[a2.l,a2.U,bg.l,bg.U,a3.l,a3.U,m.dW,m.fa,m.fJ]
 simp[a2.l,bg.l,a3.l]
abbrev HF:bI:=ei c1 (Aw CE) (λb a=>bf (hg b a)) λ_ a=>[q_ a.1]
def adP:bK q 115 HF:=.bk λb d a=>X6 b d a
theorem ZK{b a}(e:dV b=l)(g:∀d∈a,d∈b):dV a=l:=by unfold dV at e⊢;grind
def Ls{o}(g:dV o=l):∀e a,∀d∈iz o e a,cB d=l
 |0,_,d,b=>by exact bE
 |e+1,a,d,b=>by
  simp only[iz]at b;split at b
  .rename_i h;have i:=rx o a h;rcases e9.1 b with rfl|b
   .have s:c ((o.drop a).take (ep o a-a))=ep o a-a:=M;simp[cB,ck,bw];grind[ZK]
   exact Ls g e _ d b
  grind
def vL{o}(a:dV o=l):∀b∈cm o,cB b=l:=Ls a _ _
def Lr(o):∀a b,c (iz o a b)<=a
 |0,_=>bC _
 |a+1,b=>by
  simp[iz];split
  .have:=Lr o a (ep o b);grind
  simp
theorem vK(o):c (cm o)<=c o:=Lr o _ _
def eR(b:m cM):m bA:=b.flatMap λa=>cm a.2
def Gq{o}(a:e<c o):eR (o.take (e+1))=eR (o.take e)++cm (o.getD e ([],[])).2:=by rw[ie a ([],[])];simp[eR]
def Gp(o)(e):c (eR (o.take e))<=c (eR o):=by
 have a:eR o=eR (o.take e)++eR (o.drop e):=by unfold eR;grind[List.take_append_drop]
 grind
def CU(h)(d)(Z):∀a:m bA,c (Z.foldl (e8 h d) a)<=c a+c Z:=by
 induction Z with
 |nil=>grind
 |cons b j e=>
  intro a;have g:=e (e8 h d a b);have i:c (e8 h d a b)<=c a+1:=by unfold e8;split<;>simp
  grind
abbrev G9:bI:=ei (eK e_) c1 (λa b=>Q (iU a b)) λa _=>[c a<=4000000]
def ac':bK q 194 G9:=.bk λb d a=>UX b d a
abbrev Hb:bI:=ei (eK bR) eE (λa b=>bf (a.contains b)) λa _=>[c a<=4000000]
def adg:bK q 196 Hb:=.bk λb d a=>Vx b d a
abbrev Iq(a:m bA):y:=.n (.Q (.x 0 1 (c a) (bR.fn a)))
structure q9(o:m cM):Prop where
 len:c o<=4000000
 fi:∀aj∈o,dV aj.2=l/\c aj.2<=4000000
 all:c (eR o)<=100000
def WL(h)(o)(d)(r:ce h=l)(u:q9 o)(T:c d<=4000000):X q 159 [Q h,bu.B o,e_.B d] [] (bR.B (fV h o d)) []:=by
 refine X.J func159 rfl λR=>?_;have k:a_ q [(193,xt),(195,xz),(194,G9),(196,Hb)]:=.cons Ev (.cons zw (.cons ac' (.cons adg .nil)));refine be k [902] a B (g.bG 7 9 1 a a ?_);refine cU k a B (g.aC 1 (λb=>b<=c o) (λb:Nat=>[(0,Q h),(1,bu.B o),(2,e_.B d),(7,Iq ((eR (o.take b)).foldl (e8 h d) [])),(8,Q b)]) (λb=>[.x 9 1 (c ((eR (o.take b)).foldl (e8 h d) [])) (bR.fn ((eR (o.take b)).foldl (e8 h d) []))]) (λb=>c o-b) 0 a ?_ a ?_ a w ?_)
 .simp[eR]
 .simp[eR]
 intro b E;by_cases C:b<c o
 .have p:o.getD (b:Int).toNat bu.F=o.getD b ([],[]):=M;have A:o.getD b ([],[])∈o:=M;obtain⟨S,K⟩:=u.fi _ A;have F:=Gq C;have O:=Gp o (b+1);have V:=u.all;have W:=u.len;have J:=vL S;generalize o.getD b ([],[])=j at *;rw[F,dk]at O;refine be k [15] a ds ?_;rw[p];refine g.aC 1 (λe=>e<=c (cm j.2)) (λe:Nat=>[(0,Q h),(1,bu.B o),(2,e_.B d),(7,Iq ((eR (o.take b)++(cm j.2).take e).foldl (e8 h d) [])),(8,Q b),(9,bR.B (cm j.2)),(10,Q e)]) (λe=>[.x 9 1 (c ((eR (o.take b)++(cm j.2).take e).foldl (e8 h d) [])) (bR.fn ((eR (o.take b)++(cm j.2).take e).foldl (e8 h d) []))]) (λe=>c (cm j.2)-e) 0 a D a D a w ?_;intro e y;have I:=CU h d (eR (o.take b)++(cm j.2).take e) [];simp only[gK,dk,List.length_take]at I;by_cases N:e<c (cm j.2)
  .have i:(cm j.2).getD (e:Int).toNat bR.F=(cm j.2).getD e []:=M;have s:cB ((cm j.2).getD e [])=l:=J _ M;have m:(eR (o.take b)++(cm j.2).take (e+1)).foldl (e8 h d) []=e8 h d ((eR (o.take b)++(cm j.2).take e).foldl (e8 h d) []) ((cm j.2).getD e []):=ig;generalize(eR (o.take b)++(cm j.2).take e).foldl (e8 h d) []=dw at *;generalize(cm j.2).getD e []=x at *;have z:=bR.aX dw x;by_cases t:iU d (dW h x)=0
   .cases aa:dw.contains x with
    |true=>
     rw[e8,bj M]at m;refine be k [27,38,45] a ?_ (g.av (e+1) a ?_ ?_ ?_ ?_)
     .simp only[U,i,r,s,t,aa,a7,bR.l,e_.l,gi,bw,ba,a9];exact QL
     .rw[m];simp
     .rw[m];simp
     .grind
     omega
    |false=>
     rw[e8,bo M]at m;refine be k [27,38,-45] a ?_ (g.av (e+1) a ?_ ?_ ?_ ?_)
     .simp only[U,i,r,s,t,aa,a7,show sW.bytes=16 from a,bR.l,e_.l,gi,bw,ba,a9];exact QL
     .rw[m];simp only[U.X,U,i,dk,fh,gK,ba,a9];and_intros<;>first|exactλ_ _=>rfl|exact z|rfl|omega
     .rw[m];simp only[U.X,U,i,dk,fh,gK,ba,a9];and_intros<;>first|exact z|rfl|omega
     .grind
     omega
   rw[e8,bj M]at m;refine be k [27,-38] a ?_ (g.av (e+1) a ?_ ?_ ?_ ?_)
   .simp only[U,i,r,s,a7,e_.l,eZ,dZ,t,p6,bw,ba,a9];and_intros<;>first|exact e_.U _|omega
   .rw[m];simp
   .rw[m];simp
   .grind
   omega
  have Y:e=c (cm j.2):=w;refine be k [-27] a bv (g.az ?_);exact cU k a bE (g.av (b+1) a ds ds M w)
 obtain rfl:b=c o:=w;rw[c6];refine be k [-15] a D (g.az ?_);refine cU k a B (g.ao a ?_);simp[fV,eR]
abbrev km(b:Int)(a:m bA):m Int:=a.map (dW b)
abbrev om(a:Int)(b:m cM):m m2:=b.map (kM a)
abbrev K3(b:Int)(a:m m2):m aq:=[.cells 84 [.c (.int .i64 0),.c (.B l 0 0 λ_=>[])],.cells 84 [.c (.int .i64 b),.x 2 2 (c a) (cw.fn a)],.x 116 2 (c a) (cw.fn a)]
def WS(bN h)(o)(m:ce h=l)(t:q9 o):X q 162 [Q bN,Q h,bu.B o] [] (iR (fD bN h o)) []:=by
 refine X.bg bb func162 rfl rfl rfl λT=>?_;have j:a_ q [(193,xt),(195,xz)]:=.cons Ev (.cons zw .nil);refine be j [902] a B (g.cq 1 1 116 2 (cw.fn []) a a ?_);refine cU j a B (g.aC 3 (λe=>e<=c o) (λe:Nat=>[(1,Q h),(2,bu.B o),(6,aI 0 0),(7,aI 1 0),(8,Q e)]) (λe=>K3 bN (om h (o.take e))) (λe=>c o-e) 0 a D a D a w ?_);intro e z;by_cases K:e<c o
 .have r:o.getD (e:Int).toNat bu.F=o.getD e ([],[]):=M;have y:o.getD e ([],[])∈o:=M;obtain⟨I,F⟩:=t.fi _ y;have S:=t.len;have C:=vL I;have R:=vK (o.getD e ([],[])).2;have p:om h (o.take (e+1))=om h (o.take e)++[kM h (o.getD e ([],[]))]:=ig;have O:c (om h (o.take e))=e:=M;generalize o.getD e ([],[])=b at *;generalize om h (o.take e)=k at *;refine be j [18,907] a ds ?_;rw[r];refine g.bG 10 3 1 a a ?_;refine cU j a B (g.aC 4 (λd=>d<=c (cm b.2)) (λd:Nat=>[(1,Q h),(2,bu.B o),(6,aI 0 0),(7,aI 1 0),(8,Q e),(9,bR.B (cm b.2)),(10,.n (.Q (.x 3 1 d (az.fn (km h ((cm b.2).take d)))))),(11,Q d)]) (λd=>K3 bN k++[.x 3 1 d (az.fn (km h ((cm b.2).take d)))]) (λd=>c (cm b.2)-d) 0 a D a D a w ?_);intro d x;by_cases V:d<c (cm b.2)
  .have i:(cm b.2).getD (d:Int).toNat bR.F=(cm b.2).getD d []:=M;have A:cB ((cm b.2).getD d [])=l:=C _ M;have s:=az.aX (km h ((cm b.2).take d)) (dW h ((cm b.2).getD d []));rw[show(km h ((cm b.2).take d)).length=d by grind,show km h ((cm b.2).take d)++[dW h ((cm b.2).getD d [])]=km h ((cm b.2).take (d+1)) by grind[ie]]at s;refine be j [31] a ?_ (g.av (d+1) a ?_ ?_ ?_ ?_)
   .simp only[U,i,m,A,a7,show d8.bytes=8 from a,bw,ba,a9];exact fv
   .exact PN
   .exact PN
   .grind
   omega
  have E:d=c (cm b.2):=w;rw[E,c6];have s:=cw.aX k (kM h b);have u:c k+1=c (k++[kM h b]):=D;have J:cw.a7 (kM h b)=[N.T b.1,N.B v 1 (c (cm b.2)) (az.fn (km h (cm b.2)))]:=by show[N.T b.1,N.B v 1 (c (km h (cm b.2))) (az.fn (km h (cm b.2)))]=_;grind
  rw[J,<-p]at s;rw[<-p]at u;refine be j [-31] a D (g.az ?_);refine cU j a Rb (g.av (e+1) a D ?_ ?_ ?_)
  .simp only[U.X,U,r,ba,a9];and_intros<;>first|exact bs.same|exact s|exact u|rfl
  .grind
  omega
 obtain rfl:e=c o:=w;rw[c6];refine be j [-18] a D (g.az ?_);refine cU j a B (g.bf () [] ?_ (λd x=>absurd x D));simp[fD]
def o1(b a:Nat->m N):cg 0 b a=a:=by funext e;simp[cg]
abbrev jT(a:cd):aq:=.cells 30 [.c (.B v 2 (c a.1) (a2.fn a.1)),.c (.B v 2 (c a.2.1) (bg.fn a.2.1)),.c (.B v 2 (c a.2.2) (a3.fn a.2.2))]
abbrev B4(a:cd)(b:Nat)(e:m b')(d:Nat)(g:m eh):m aq:=[jT a,.cells 30 [cF,cF,cF],.q 80 2 b (a2.fn e),.q 84 2 d (bg.fn g),.q 54 2 (c a.2.2) (a3.fn a.2.2),.cells 30 [.O 2 (.B b 2 0 b),.O 3 (.B d 2 0 d),.O 4 (.B (c a.2.2) 2 0 (c a.2.2))]]
def Us(b)(y:c b.1<=4000000)(s:∀u∈b.1,c u.2<=4000000)(F:c b.2.1<=4000000)(r:kq b)(E:c b.2.2<=4000000):
  X q 79 [bW b] [] (.n (.agg [.O 0 (.B (c b.1) 2 0 (c b.1)),.O 1 (.B (c b.2.1) 2 0 (c b.2.1)),.O 2 (.B (c b.2.2) 2 0 (c b.2.2))])) [.q 80 2 (c b.1) (a2.fn b.1),.q 84 2 (c b.2.1) (bg.fn b.2.1),.q 54 2 (c b.2.2) (a3.fn b.2.2)]:=by
 refine X.bg bb func79 rfl rfl rfl λz=>?_;refine bL [901] a B (g.region ?_);refine gp [] 5 a B (g.dH 9 80 2 (a2.fn []) a ?_);refine g.dH 10 84 2 (bg.fn []) a ?_;refine g.dH 11 54 2 (a3.fn []) a ?_;refine cz a QG (g.aC 6 (λd=>d<=c b.1) (λd:Nat=>[(1,aI 0 0),(2,aI 1 0),(3,aI 5 0),(4,Q d)]) (λd=>B4 b d (b.1.take d) 0 []) (λd=>c b.1-d) 0 a D a ?_ a w ?_)
 .simp[bs,o1];rfl
 intro d m;by_cases k:d<c b.1
 .have j:b.1.getD d (0,[])∈b.1:=M;have x:b.1.getD (d:Int).toNat a2.F=b.1.getD d (0,[]):=M;have p:=s _ j;refine bL [20,2000038] a Fu (g.av (d+1) a D ?_ ?_ ?_)
  .have aw:=a2.cV b.1 k (0,[]);exact Of
  .grind
  omega
 obtain rfl:d=c b.1:=w;rw[c6];refine bL [-20] a D (g.az ?_);refine cz a B (g.aC 6 (λd=>d<=c b.2.1) (λd:Nat=>[(1,aI 0 0),(2,aI 1 0),(3,aI 5 0),(5,Q d)]) (λd=>B4 b (c b.1) b.1 d (b.2.1.take d)) (λd=>c b.2.1-d) 0 a D a D a w ?_);intro d m;by_cases k:d<c b.2.1
 .have j:b.2.1.getD d (0,[])∈b.2.1:=M;have x:b.2.1.getD (d:Int).toNat bg.F=b.2.1.getD d (0,[]):=M;have p:=r _ j;have aw:=bg.cV b.2.1 k (0,[]);generalize b.2.1.getD d (0,[])=h at *;refine bL [47,910] a bv ?_;rw[x];refine g.cq 6 1 116 2 (cw.fn []) a a ?_;refine cz a B (g.aC 8 (λe=>e<=c h.2) (λe:Nat=>[(1,aI 0 0),(2,aI 1 0),(3,aI 5 0),(5,Q d),(6,aI 6 0),(7,Q e)]) (λe=>B4 b (c b.1) b.1 d (b.2.1.take d)++[.cells 84 [.c (.int .i64 h.1),.x 7 2 e (cw.fn (h.2.take e))],.x 116 2 e (cw.fn (h.2.take e))]) (λe=>c h.2-e) 0 a D a D a w ?_);intro e o;by_cases t:e<c h.2
  .have i:h.2.getD (e:Int).toNat cw.F=h.2.getD e ([],[]):=M;have C:=p.2 (h.2.getD e ([],[])) M;have A:=cw.cV h.2 t ([],[]);refine bL [66,2000085] a Oy (g.av (e+1) a D Qd M ?_);omega
  obtain rfl:e=c h.2:=w;rw[c6];refine bL [-66] a Fo (g.az ?_);refine cz a Fv (g.av (d+1) a D FB M ?_);omega
 obtain rfl:d=c b.2.1:=w;rw[c6];refine bL [-47] a D (g.az ?_);refine cz a B (g.bf () [2,3,4] ?_ (λe o=>absurd o D));simp
def yE{g h:ae}{e i}(A)(o:r.op=.call {callee:=.builtin .max,args:=#[g,h],argTypes:=dr})(u:η g=Q e)(s:η h=Q i)(y:max e i=A)(t:a7 .i64 A):a1 T r η k (Q A) k:=by refine .aR λB d z j=>?_;have b:=j g;have a:=j h;rw[u]at b;rw[s]at a;replace b:=b7 b;replace a:=b7 a;generalize m:d g=w at b;generalize p:d h=x at a;cases b;cases a;have q:(if e<i then i else e)=A:=M;exact⟨.int .i64 A,by simp[ab,o,resolve,invoke,builtin,m,p,Builtin.max_,Builtin.max2,q],.int t,by simp[ab,o,resolve,invoke,builtin,m,p,Builtin.max_,Builtin.max2]⟩
def di(a:cd):Int:=if c a.1=0 then 1 else(a.1.getD (c a.1-1) (0,[])).1+1
def lS(b:m (Int×Int)):Int:=b.foldl (λd a=>max d (a.2+1)) 1
def db(a:cd):Int:=if c a.2.1=0 then lS a.2.2 else max (lS a.2.2) ((a.2.1.getD (c a.2.1-1) (0,[])).1+1)
structure mc(b9:cd):Prop where
 aY:∀F∈b9.1,-4000000<=F.1/\F.1<=4000000
 a':∀F∈b9.2.1,-4000000<=F.1/\F.1<=4000000
 aJ:∀F∈b9.2.2,-4000000<=F.2/\F.2<=4000000
def sV(d)(e:∀b∈d,-4000000<=b.2/\b.2<=4000000):1<=lS d/\lS d<=4000001:=by
 have:∀(d:m (Int×Int)) a,(∀b∈d,-4000000<=b.2/\b.2<=4000000)->1<=a->a<=4000001->1<=d.foldl (λa e=>max a (e.2+1)) a/\d.foldl (λa e=>max a (e.2+1)) a<=4000001:=by
  intro d;induction d with
  |nil=>grind
  |cons b h g=>
   grind
 exact this d 1 e w w
def Y5{d}(a:e<c d):lS (d.take (e+1))=max (lS (d.take e)) ((d.getD e (0,0)).2+1):=by unfold lS;grind[ie]
def mx{d:m α}(b:e<c d)(a:α):d.getD e a∈d:=M
def WN(b:cd)(i:dI b)(h:mc b):X q 158 [bW b] [] (.S [.Q (.c (.int .i64 (di b))),.Q (.c (.int .i64 (db b)))]) []:=by
 refine X.J func158 rfl λy=>?_;have t:=i.aY;have u:=i.aZ;have s:=i.aJ;apply g.cg [(1,aI 0 0),(4,Q (di b)),(5,Q 1)] [jT b]
 .intro dw;by_cases e:c b.1=0
  .exact bL [-10,905] a ds (dw _ _ a (by simp[di,e]))
  have j:=h.aY _ (mx (show c b.1-1<c b.1 by omega) (0,[]));have x:b.1.getD ((c b.1:Int)-1).toNat a2.F=b.1.getD (c b.1-1) (0,[]):=by rw[show((c b.1:Int)-1).toNat=c b.1-1 by omega];rfl
  exact bL [10,905] a wl (dw _ _ a (by simp only[U.X,U,di,bj e,x,ba,a9]))
 refine cz a B (g.aC 1 (λd=>d<=c b.2.2) (λd:Nat=>[(1,aI 0 0),(4,Q (di b)),(5,Q (lS (b.2.2.take d))),(6,Q d)]) (λd=>[jT b]) (λd=>c b.2.2-d) 0 a ?_ a ?_ a w ?_)
 .simp[lS]
 .simp
 intro d k;by_cases e:d<c b.2.2
 .have j:=h.aJ _ (mx e (0,0));have o:=sV (b.2.2.take d) λr p=>h.aJ r (gY p);have x:b.2.2.getD (d:Int).toNat a3.F=b.2.2.getD d (0,0):=M;have m:=Y5 e;refine bL [25] a wl ?_;rw[x];refine g.aK (yE (lS (b.2.2.take (d+1))) a a a m.symm mX) a a ?_;exact cz a bE (g.av (d+1) a D D M w)
 obtain rfl:d=c b.2.2:=w;rw[c6];refine bL [-25] a D (g.az ?_);have o:=sV b.2.2 h.aJ;by_cases e:c b.2.1=0
 .refine bL [-40] a ds (g.ao a ?_);simp[db,e]
 have j:=h.a' _ (mx (show c b.2.1-1<c b.2.1 by omega) (0,[]));have x:b.2.1.getD ((c b.2.1:Int)-1).toNat bg.F=b.2.1.getD (c b.2.1-1) (0,[]):=Ru;refine bL [40] a wl ?_;rw[x];refine g.aK (yE (db b) a a a (by rw[db,bj e]) (by rw[db,bj e];simp only[a7];omega)) a a ?_;exact cz a B (g.ao a)
abbrev B5(a:cd)(b:Nat)(e:m b')(d:Nat)(g:m eh):m aq:=[jT a,.cells 30 [cF,cF,cF],.x 54 2 (c a.2.2) (a3.fn a.2.2),.cells 30 [.x 4 2 b (a2.fn e),.x 5 2 d (bg.fn g),.x 2 2 (c a.2.2) (a3.fn a.2.2)],.x 80 2 b (a2.fn e),.x 84 2 d (bg.fn g)]
def qi(b)(y:c b.1<=4000000)(s:∀u∈b.1,c u.2<=4000000)(F:c b.2.1<=4000000)(r:kq b)(E:c b.2.2<=4000000):
  X q 79 [bW b] [] (.n (.agg [.x 0 2 (c b.1) (a2.fn b.1),.x 1 2 (c b.2.1) (bg.fn b.2.1),.x 2 2 (c b.2.2) (a3.fn b.2.2)])) [.x 80 2 (c b.1) (a2.fn b.1),.x 84 2 (c b.2.1) (bg.fn b.2.1),.x 54 2 (c b.2.2) (a3.fn b.2.2)]:=by
 refine X.bg bb func79 rfl rfl rfl λz=>?_;refine bL [902] a ?_ ?_
 .simp only[U,show vi.bytes=16 from a,ba,a9,lC];grind
 refine g.cq 3 0 80 2 (a2.fn []) a a ?_;refine g.cq 3 1 84 2 (bg.fn []) a a ?_;refine cz a B (g.aC 6 (λd=>d<=c b.1) (λd:Nat=>[(1,aI 0 0),(2,aI 1 0),(3,aI 3 0),(4,Q d)]) (λd=>B5 b d (b.1.take d) 0 []) (λd=>c b.1-d) 0 a D a ?_ a w ?_)
 .simp[bs,o1]
 intro d m;by_cases k:d<c b.1
 .have j:b.1.getD d (0,[])∈b.1:=M;have x:b.1.getD (d:Int).toNat a2.F=b.1.getD d (0,[]):=M;have p:=s _ j;refine bL [20,2000038] a Fu (g.av (d+1) a D ?_ ?_ ?_)
  .have aw:=a2.cV b.1 k (0,[]);simp only[U.X,U,x,o1,cX,a9,ba];exact QU
  .grind
  omega
 obtain rfl:d=c b.1:=w;rw[c6];refine bL [-20] a D (g.az ?_);refine cz a B (g.aC 6 (λd=>d<=c b.2.1) (λd:Nat=>[(1,aI 0 0),(2,aI 1 0),(3,aI 3 0),(5,Q d)]) (λd=>B5 b (c b.1) b.1 d (b.2.1.take d)) (λd=>c b.2.1-d) 0 a D a D a w ?_);intro d m;by_cases k:d<c b.2.1
 .have j:b.2.1.getD d (0,[])∈b.2.1:=M;have x:b.2.1.getD (d:Int).toNat bg.F=b.2.1.getD d (0,[]):=M;have p:=r _ j;have aw:=bg.cV b.2.1 k (0,[]);generalize b.2.1.getD d (0,[])=h at *;refine bL [47,910] a bv ?_;rw[x];refine g.cq 6 1 116 2 (cw.fn []) a a ?_;refine cz a B (g.aC 8 (λe=>e<=c h.2) (λe:Nat=>[(1,aI 0 0),(2,aI 1 0),(3,aI 3 0),(5,Q d),(6,aI 6 0),(7,Q e)]) (λe=>B5 b (c b.1) b.1 d (b.2.1.take d)++[.cells 84 [.c (.int .i64 h.1),.x 7 2 e (cw.fn (h.2.take e))],.x 116 2 e (cw.fn (h.2.take e))]) (λe=>c h.2-e) 0 a D a D a w ?_);intro e o;by_cases t:e<c h.2
  .have i:h.2.getD (e:Int).toNat cw.F=h.2.getD e ([],[]):=M;have C:=p.2 (h.2.getD e ([],[])) M;have A:=cw.cV h.2 t ([],[]);refine bL [66,2000085] a Oy (g.av (e+1) a D Qd M ?_);omega
  obtain rfl:e=c h.2:=w;rw[c6];refine bL [-66] a Fo (g.az ?_);refine cz a Fv (g.av (d+1) a D ?_ ?_ ?_)
  .simp only[U.X,U,a9,ba];exact QU
  .grind
  omega
 obtain rfl:d=c b.2.1:=w;rw[c6];refine bL [-47] a D (g.az ?_);refine cz a B (g.bf () [4,5,2] ?_ (λe o=>absurd o D));simp
def _root_.Go.AM.c0.hg(a:c0 α)(d)(g:bs j V (a.fn d))(k:j<=c d):a.ad j V=d.take j:=by
 apply pZ
 .simp[c0.ad];omega
 intro e h i;have b:e<j:=M;simp[c0.ad,g e b,c0.fn,gF,ak,bH (show e<c d by omega),a.inv]
def _root_.Go.AM.c0.g5(a:c0 α)(d)(g:bs j V (a.fn d)):a.bK j V:=λe b=>by rw[g e b];exact a.U d e (Nat.lt_succ_self e)
def Z9(a b:Nat):min (a:Int) (b:Int)=((min a b:Nat):Int):=M
def f'(d:Int):Nat->Int->m bA->m b'
 |0,_,_=>[]
 |e+1,b,a=>if 0<c a then jQ b d (a.take 4)::f' d e (b+1) (a.drop 4)else[]
def kl(a:Int)(b:cd)(d:m cM):m b':=f' a (c (fV a d (eB b.1))) (di b) (fV a d (eB b.1))
def fu(b:Int)(a:cd)(d:m cM):Bool:=decide (20<c a.1+c (kl b a d))||(decide (99<di a+c (kl b a d)-1)||(decide (20<db a)||decide (9<=c a.2.2)))
def eM(d:Int)(a:cd)(b:Int)(e:m cM):cd:=(a.1++kl d a e,a.2.1++[fD (db a) d e],a.2.2++[(b,db a)])
theorem Lf(h):∀d a b,c (f' h d a b)<=d
 |0,_,_=>bC _
 |d+1,a,b=>by
  simp[f'];split
  .have:=Lf h d (a+1) (b.drop 4);grind
  simp
abbrev Hm:bI:=j' c1 c1 (eK bR) (λd b a=>fH (jQ d b a)) λ_ b a=>[ce b=l,∀e∈a,cB e=l,c a<=4000000]
def adr:bK q 161 Hm:=.c5 λb e d a=>Ww b e d a.1 a.2.1 a.2.2
abbrev Hp:bI:=j' c1 c1 (eK bu) (λb a d=>iR (fD b a d)) λ_ a d=>[ce a=l,q9 d]
def adu:bK q 162 Hp:=.c5 λa d e b=>WS a d e b.1 b.2
abbrev Ho:bI:=j' c1 (eK bu) (eK e_) (λa d b=>bR.B (fV a d b)) λa d b=>[ce a=l,q9 d,c b<=4000000]
def adt:bK q 159 Ho:=.c5 λb e d a=>WL b e d a.1 a.2.1 a.2.2
def qL{o}{d}(i:q9 o):(∀a∈fV h o d,cB a=l)/\c (fV h o d)<=100000:=by
 constructor
 .have:∀(b g:m bA),(∀a∈b,cB a=l)->(∀a∈g,cB a=l)->∀a∈b.foldl (e8 h d) g,cB a=l:=by
   intro b;induction b with
   |nil=>grind
   |cons s t k=>
    intro g r q;refine k _ (λa e=>r a (mh _ e)) λa e=>?_;unfold e8 at e;grind
  refine this _ [] (λa e=>?_) D;obtain⟨p,j,e⟩:=rh.1 e;exact vL (i.fi p j).1 a e
 have:=CU h d (eR o) [];have q:=i.all;unfold fV;simp[gK]at this;exact fQ this w
theorem Ke{d}(a:c (dC d)<=100000):c (eB d)<=100000:=by unfold eB;grind[CV]
abbrev abF(e b d:Int)(g:cd)(h:m cM)(a:m bA):bJ:=[(0,Q e),(2,Q b),(3,bu.B h),(5,aI 0 0),(8,aI 1 0),(10,aI 5 0),(11,Q d),(12,Q (db g)),(13,bR.B a)]
abbrev Mb(b:cd)(a:m b'):m aq:=[jT b,.cells 30 [cF,cF,cF],.x 80 2 (c a) (a2.fn a),.x 84 2 (c b.2.1) (bg.fn b.2.1),.x 54 2 (c b.2.2) (a3.fn b.2.2),.cells 30 [.x 2 2 (c a) (a2.fn a),.x 3 2 (c b.2.1) (bg.fn b.2.1),.x 4 2 (c b.2.2) (a3.fn b.2.2)]]
abbrev M1(a:cd)(b:Bool):y:=.S [.agg [.c (.B v 2 (c a.1) (a2.fn a.1)),.c (.B v 2 (c a.2.1) (bg.fn a.2.1)),.c (.B v 2 (c a.2.2) (a3.fn a.2.2))],.Q (.c (.bool b))]
def Xs(h)(b)(j)(o)(z:ce h=l)(x:dI b)(O:mc b)(J:q9 o)(al:c (dC b.1)<=100000):
  X q 116 [Q h,bW b,Q j,bu.B o] [] (M1 (if fu h b o=l then b else eM h b j o) (!fu h b o)) []:=by
 refine X.bA func116 rfl rfl rfl λau=>?_;have s:a_ q [(160,Ha),(159,Ho),(161,Hm),(162,Hp)]:=.cons adf (.cons adt (.cons adr (.cons adu .nil)));have aM:=x.aY;have P:=x.aZ;have av:=x.aJ;have ax:=Ke al;refine cU s a B (g.aB (qi b x.aY x.bm x.aZ x.bp x.aJ) [] a (cU s a B (g.aB (WN b x O) [] a (cU s a bE ?_))));simp[a2.l,e_.l,bu.l];obtain⟨an,aA⟩:=qL (h:=h) (d:=eB b.1) J;have aw:kl h b o=f' h (c (fV h o (eB b.1))) (di b) (fV h o (eB b.1)):=rfl;generalize fV h o (eB b.1)=C at *;generalize T:kl h b o=e at *;have L:-4000000<=di b/\di b<=4000001:=by
  unfold di;split
  .omega
  rename_i t;exact Q8
 have H:c e<=100000:=by grind[Lf]
 refine g.cm (S2:=Unit) 0 a a (λ_=>True) (λ_=>[(0,Q h),(2,Q j),(3,bu.B o),(5,aI 0 0),(8,aI 1 0),(10,aI 5 0),(11,Q (di b+c e)),(12,Q (db b))]) (λ_=>Mb b (b.1++e)) 6
  (λk:m bA×m b'=>(∀S∈k.1,cB S=l)/\c k.2+c k.1<=5000000/\c b.1<=c k.2/\∃p,c k.1<=p/\b.1++e=k.2++f' h p (di b+(c k.2-c b.1:Nat)) k.1) (λk=>abF h j (di b+(c k.2-c b.1:Nat)) b o k.1) (λk=>Mb b k.2) (λk=>c k.1) (C,b.1) a ?_ a ?_ a ⟨an,by grind,bC _,c C,bC _,by grind⟩ ?_ ?_
 .simp
 .simp
 .rintro dw ⟨bq,Z⟩ ⟨u,R,af,p,G,A⟩;simp only at u R af G A;by_cases t:0<c bq
  .obtain⟨p,rfl⟩:∃aa,p=aa+1:=⟨p-1,by omega⟩
   simp[f',bo t]at A;have ae:a7 .i64 ((min (c bq) 4:Nat):Int):=mX;refine be s [30] a bv (g.aK (yH ((min (c bq) 4:Nat):Int) a a a (Z9 (c bq) 4) ae) a a ?_);have K:bR.ad (bV (c bq) (f ((min (c bq) 4:Nat):Int))-bV 0 n) (fA (bV 0 n) (bR.fn bq))=bq.take 4:=by have E:bV (c bq) (f ((min (c bq) 4:Nat):Int))-bV 0 n=min (c bq) 4:=wD;rw[E,bR.hg bq (λI r=>by simp[fA,bV]) w];grind
   have Y:bR.bK (bV (c bq) (f ((min (c bq) 4:Nat):Int))-bV 0 n) (fA (bV 0 n) (bR.fn bq)):=bR.g5 bq (λI r=>by simp[fA,bV]);have ao:bs (c bq-min (c bq) 4) (fA (min (c bq) 4) (bR.fn bq)) (bR.fn (bq.drop 4)):=by intro I r;have V:min (c bq) 4=4:=w;rw[V];simp[fA,c0.fn,gF,ak,pX]
   have aq:∀S∈bq.take 4,cB S=l:=λS D=>u S (gY D);have ab:=a2.aX Z (jQ (di b+(c Z-c b.1:Nat)) h (bq.take 4));refine cU s a ?_ (g.av (bq.drop 4,Z++[jQ (di b+(c Z-c b.1:Nat)) h (bq.take 4)]) a ?_ ?_ ?_ ?_)
   .simp only[U,a7,K,z,Y,List.length_take,show nv.bytes=32 from a,ba,a9];and_intros<;>first|omega|omega
   .simp only[U.X,U,dk,fh,gK,sj,bV,cY,ba,a9];and_intros<;>first|rfl|omega|simp|exact ao
   .simp only[U.X,U,K,dk,fh,gK,ba,a9];and_intros<;>first|rfl|exactλ_ _=>rfl|exact ab|omega
   .refine⟨λS D=>u S (pV D),by grind,by grind,p,by grind,?_⟩;grind
   grind
  have F:Z=b.1++e:=by rw[A];cases p<;>simp[f',t]
  refine be s [-30] a bE (g.az ?_);refine dw () B a ?_ a ?_
  .simp only[U.X,U,F,dk,ba,a9];and_intros<;>first|rfl|omega|simp
  simp[F]
 rintro⟨⟩ -;have y:fu h b o=(decide (20<c b.1+c e)||(decide (99<di b+c e-1)||(decide (20<db b)||decide (9<=c b.2.2)))):=by unfold fu;rw[T]
 have N:-4000000<=db b/\db b<=4000001:=by
  have:=sV b.2.2 O.aJ;unfold db;split
  .omega
  rename_i t;exact ON
 have ar:c (b.1++e)=c b.1+c e:=dk;by_cases ag:20<c b.1+c e
 .have i:fu h b o=l:=M;rw[i];exact be s [53] a bv z0
 by_cases ah:99<di b+c e-1
 .have i:fu h b o=l:=M;rw[i];exact be s [-53,57] a FE z0
 by_cases ai:20<db b
 .have i:fu h b o=l:=M;rw[i];exact be s [-53,-57,61] a FE z0
 by_cases aj:9<=c b.2.2
 .have i:fu h b o=l:=M;rw[i];exact be s [-53,-57,-61,67] a FE z0
 have i:fu h b o=v:=M;rw[i];have E:=bg.aX b.2.1 (fD (db b) h o);have W:=a3.aX b.2.2 (j,db b);refine be s [-53,-57,-61,-67] a ?_ ?_
 .simp only[U,z,bu.l,dk,a7,show rH.bytes=32 from a,show vi.bytes=16 from a,bw,dp,ba,a9];and_intros<;>first|exact J|exact bu.U _|rfl|omega
 refine g.freeze 8 1 a a a ?_;refine g.b8 bb [] a ?_ a a a eG;simp[U.X,U,bu.l,eM,T,dk,fh,gK,ba,a9];and_intros<;>first|rfl|exactλ_ _=>rfl|exact E|exact W|simp
def vx(a:Int×Int):Bool:=decide (0<=a.1/\a.1<=9)&&decide (0<=a.2)
abbrev qv(b:eQ)(a:Nat):Int×Int:=b.2.2.2.1.getD a (0,0)
abbrev rA(b:eQ)(a:Nat):Int:=b.2.2.2.2.getD a 0
def wb(b:eQ)(a:Nat):Bool:=vx (qv b a)&&decide (0<=rA b a/\rA b a<=2)
def gg(a:eQ):Bool:=decide (c a.2.2.2.1=2)&&decide (c a.2.2.2.2=2)&&(aB 2).all (wb a)&&hg a.1 a.2.1
abbrev xK(a:cd)(e:Nat)(d:Nat->m N)(g:Nat)(j:m eh)(b:fp)(i:Nat)(h:m Y):m aq:=[jT a,.cells 30 [cF,cF,cF],.q 80 2 e d,.q 84 2 g (bg.fn j),.q 54 2 (c a.2.2) (a3.fn a.2.2),.cells 30 [.O 2 (.B e 2 0 e),.O 3 (.B g 2 0 g),.O 4 (.B (c a.2.2) 2 0 (c a.2.2))],.K (cr 114 2 b i h)]
def Uu(b)(i0)(V:i0<c b.1)(z:0<(b.1.getD i0 (0,[])).2.length)(y:c b.1<=4000000)(K:∀u∈b.1,c u.2<=4000000)(H:c b.2.1<=4000000)(S:kq b)(G:c b.2.2<=4000000):
  bk (ι:=pR (b.1.getD i0 (0,[])).2) q 79 [bW b] [] (λ_=>.n (.agg [.O 0 (.B (c b.1) 2 0 (c b.1)),.O 1 (.B (c b.2.1) 2 0 (c b.2.1)),.O 2 (.B (c b.2.2) 2 0 (c b.2.2))]))
   (λj=>[.q 80 2 (c b.1) (gm b.1 i0 (cZ j.1.1 (b.1.getD i0 (0,[])).2.length)),.q 84 2 (c b.2.1) (bg.fn b.2.1),.q 54 2 (c b.2.2) (a3.fn b.2.2),te (b.1.getD i0 (0,[])).2 j]):=by
 refine bk.bA bb func79 rfl rfl rfl λW=>?_;refine bL [901] a B (g.region ?_);refine gp [] 5 a B (g.dH 9 80 2 (a2.fn []) a ?_);refine g.dH 10 84 2 (bg.fn []) a ?_;refine g.dH 11 54 2 (a3.fn []) a ?_;refine bL [902] a QG (g.fg 114 2 ?_);refine cz a B (g.aC 7 (I3 b.1 i0) (λi:S3=>[(1,aI 0 0),(2,aI 1 0),(3,aI 5 0),(4,Q i.1)]) (λi=>xK b i.1 (gm b.1 i0 (nK i)) 0 [] i.2.1 i.2.2.1 i.2.2.2) (λi=>c b.1-i.1) (0,.nil n,0,[]) a D a ?_ a ⟨by omega,.inl ⟨by omega,a⟩⟩ ?_)
 .simp[bs,o1];rfl
 rintro⟨d,h,p,k⟩ ⟨s,A⟩;simp only at s A;by_cases o:d<c b.1
 .have aa:b.1.getD d (0,[])∈b.1:=M;have x:b.1.getD (d:Int).toNat a2.F=b.1.getD d (0,[]):=M;have j:=K _ aa;by_cases t:d=i0
  .subst t;have F:p=0:=by rcases A with⟨_,R⟩|⟨N,_⟩<;>omega
   rw[<-x]at z j;refine a5 [20,905] a bv ?_;refine g.eI (ι:=pR (b.1.getD (d:Int).toNat a2.F).2) b6 15 18 8 (λr=>ay r 14)
    (λr=>[aI 5 0,cC 2 (.B d 2 0 d),aI 0 0,a2.B b.1,Q d,iP [.int .i64 (b.1.getD (d:Int).toNat a2.F).1,lm (b.1.getD (d:Int).toNat a2.F)],iP [.int .i64 (b.1.getD (d:Int).toNat a2.F).1,lm (b.1.getD (d:Int).toNat a2.F)],Q (b.1.getD (d:Int).toNat a2.F).1,
     ax (.B l 2 0 (λe=>[].getD e [])),aI 0 0,a2.B b.1,Q d,iP [.int .i64 (b.1.getD (d:Int).toNat a2.F).1,lm (b.1.getD (d:Int).toNat a2.F)],iP [lm (b.1.getD (d:Int).toNat a2.F)],ax (lm (b.1.getD (d:Int).toNat a2.F))].getD r .any)
    (λj r=>[ax (rT _ j),.n (.agg [.c (.int .i64 (b.1.getD (d:Int).toNat a2.F).1),.c (rT _ j)]),ax (.B l 2 1 (λe=>[[.int .i64 (b.1.getD (d:Int).toNat a2.F).1,rT _ j]].getD e []))].getD (r-15) .any)
    (λj=>xK b d (gm b.1 d (cZ h p)) 0 [] h p k++[te _ j])
    rfl rfl rfl rfl rfl rfl rfl (λr o=>by have:=fs o;omega) rfl
    ⟨aZ.w,aZ.w,aZ.w,aZ.w,aZ.w,aZ.eval (bh:=[]) bb a_.nil a ?_,aZ.w,aZ.w,aZ.w,aZ.w,aZ.w,aZ.w,aZ.eval (bh:=[]) bb a_.nil a ?_,aZ.w,aZ.w,B,B,B,B,B,B,B⟩
    (λj=>⟨aZ.w,aZ.w,aZ.w,aZ.w,aZ.w,aZ.eval (bh:=[]) bb a_.nil a ?_,aZ.w,aZ.w,aZ.w,aZ.w,aZ.w,aZ.w,aZ.eval (bh:=[]) bb a_.nil a ?_,aZ.w,aZ.w,B,aZ.w,aZ.w,B⟩)
    (dX.ev a (eg.fz (Gu a) a a a z z8 (Hc _ _))) ?_
   .exact bv
   .exact bv
   .exact bv
   .exact bv
   rw[x];rw[x]at z j;generalize J:b.1.getD d (0,[])=u at *;intro C;refine a5 [904] a OX (g.swap 6 7 ca a a (λ_ _ o=>o.1) (λ_ _ o=>o.1) ?_);refine aW a bE (g.av (d+1,C.1.1,c u.2,C.1.2) a D ?_ ?_ ?_)
   .have aw:=Lu (Z:=b.1) (i0:=d) (bz:=cZ C.1.1 (c u.2)) (EJ:=cZ h p);rw[J]at aw;exact FB
   .refine⟨by grind,.inr ⟨by grind,?_⟩⟩;grind
   grind
  refine bL [20,2000038] a Fu (g.av (d+1,h,p,k) a D ?_ ?_ ?_)
  .have aw:=Lt (Z:=b.1) (bz:=cZ h p) t;exact Of
  .refine⟨by grind,?_⟩;grind
  grind
 obtain rfl:d=c b.1:=w;obtain⟨_,F,O⟩:i0<c b.1/\p=(b.1.getD i0 (0,[])).2.length/\eo 2 (b.1.getD i0 (0,[])).2.length (bG.fn (b.1.getD i0 (0,[])).2) k:=M;subst F;clear A;generalize b.1.getD i0 (0,[])=m at *;refine bL [-20] a D (g.az ?_);refine cz a B (g.aC 7 (λd=>d<=c b.2.1) (λd:Nat=>[(1,aI 0 0),(2,aI 1 0),(3,aI 5 0),(5,Q d)]) (λd=>xK b (c b.1) (gm b.1 i0 (cZ h (c m.2))) d (b.2.1.take d) h (c m.2) k) (λd=>c b.2.1-d) 0 a D a D a w ?_);intro d s;by_cases o:d<c b.2.1
 .have aa:b.2.1.getD d (0,[])∈b.2.1:=M;have x:b.2.1.getD (d:Int).toNat bg.F=b.2.1.getD d (0,[]):=M;have j:=S _ aa;have aw:=bg.cV b.2.1 o (0,[]);generalize b.2.1.getD d (0,[])=i at *;refine bL [47,910] a bv ?_;rw[x];refine g.cq 7 1 116 2 (cw.fn []) a a ?_;refine cz a B (g.aC 9 (λe=>e<=c i.2) (λe:Nat=>[(1,aI 0 0),(2,aI 1 0),(3,aI 5 0),(5,Q d),(6,aI 7 0),(7,Q e)]) (λe=>xK b (c b.1) (gm b.1 i0 (cZ h (c m.2))) d (b.2.1.take d) h (c m.2) k++[.cells 84 [.c (.int .i64 i.1),.x 8 2 e (cw.fn (i.2.take e))],.x 116 2 e (cw.fn (i.2.take e))]) (λe=>c i.2-e) 0 a D a D a w ?_);intro e I;by_cases t:e<c i.2
  .have E:i.2.getD (e:Int).toNat cw.F=i.2.getD e ([],[]):=M;have X:=j.2 (i.2.getD e ([],[])) M;have T:=cw.cV i.2 t ([],[]);refine bL [66,2000085] a ?_ (g.av (e+1) a ?_ ?_ ?_ ?_)
   .simp only[U,x,E,a7,show yt.bytes=40 from a,show d8.bytes=8 from a,bw,lC,ba,a9];exact fv
   .simp
   .simp only[U.X,U,x,E,o1,cX,a9,ba];and_intros<;>first|exactλ_ _=>rfl|exact T|rfl
   .grind
   omega
  obtain rfl:e=c i.2:=w;rw[c6];refine bL [-66] a Fo (g.az ?_);refine cz a Fv (g.av (d+1) a D FB M ?_);omega
 obtain rfl:d=c b.2.1:=w;rw[c6];refine bL [-47] a D (g.az ?_);refine cz a B (g.bf ⟨(h,k),O⟩ [2,3,4,6] ?_ (λe I=>absurd I D));simp
def T2(b:cd)(d:Int)(j:c b.2.2<=4000000)(k:d<0∨d>c b.2.2):X q 121 [bW b,Q d] [] (bW b) []:=by refine X.bg bb func121 rfl rfl rfl λi=>?_;have h:a_ q [(45,kE)]:=.cons lo .nil;refine be h [15] a bQ ?_;refine g.bf () [] ?_ (λm e=>absurd e D);simp
abbrev mC(a:Nat)(d:cd)(b:m eh):m eh:=b.filter λe=>!jq a d.2.2 e
abbrev sU(d:Nat)(e:cd)(b:Nat)(g:eh):Bool:=((e.2.2.drop d).take b).any λa=>a.2==g.1
abbrev GL(b:cd)(d:Nat)(a:m eh):m aq:=[.cells 30 [.c (tt b.1),.c (tu b.2.1),.c (hU (b.2.2.take d))],.cells 30 [cF,cF,cF],.x 84 2 (c a) (bg.fn a)]
def JD(a:α->Bool){d}(g:e<c d)(b):(d.take (e+1)).filter a=(d.take e).filter a++(if a (d.getD e b)then[d.getD e b]else[]):=ig
def Sm(a:α->Bool){d}(g:e<c d)(b):(d.take (e+1)).any a=((d.take e).any a||a (d.getD e b)):=ig
def T3(b)(j)(S:j<=c b.2.2)(R:c b.2.1<=4000000)(C:∀m∈b.2.1,-4000000<=m.1/\m.1<=4000000)(O:c b.2.2<=4000000):X q 121 [bW b,Q j] [] (bW (b.1,mC j b b.2.1,b.2.2.take j)) []:=by
 refine X.bg bb func121 rfl rfl rfl λN=>?_;have o:a_ q [(45,kE)]:=.cons lo .nil;refine a8 o [-15,906] a ?_ ?_
 .simp[jh];omega
 refine g.bG 6 84 2 a a ?_;refine b8 o a B (g.aC 3 (λe=>e<=c b.2.1) (λe:Nat=>[(2,aI 0 0),(4,aI 1 0),(5,a3.B (b.2.2.drop j)),(6,.n (.Q (.x 2 2 (c (mC j b (b.2.1.take e))) (bg.fn (mC j b (b.2.1.take e)))))),(7,Q e)]) (λe=>GL b j (mC j b (b.2.1.take e))) (λe=>c b.2.1-e) 0 a ?_ a ?_ a w ?_)
 .have x:=a3.g7 b.2.2 j (c b.2.2-j);simp[bV];exact x
 .simp[bV];exact⟨by omega,λe t=>by have A:e<j:=t;simp[fA,bV,c0.fn,gF,ak,iq,A]⟩
 intro e t;by_cases u:e<c b.2.1
 .have F:b.2.1.getD e (0,[])∈b.2.1:=M;have s:b.2.1.getD (e:Int).toNat bg.F=b.2.1.getD e (0,[]):=M;have J:=C _ F;have x:=bg.cV b.2.1 u (0,[]);have y:mC j b (b.2.1.take (e+1))=mC j b (b.2.1.take e)++(if !jq j b.2.2 (b.2.1.getD e (0,[]))then[b.2.1.getD e (0,[])]else[]):=JD (λm=>!jq j b.2.2 m) u (0,[]);have K:c (mC j b (b.2.1.take e))<=e:=fQ (kz _ _) M;generalize mC j b (b.2.1.take e)=k at *;generalize b.2.1.getD e (0,[])=m at *;refine be o [31] a ?_ ?_
  .simp only[U,s,bw,lC,ba,a9];grind
  refine g.aC 3 (λh=>h<=c (b.2.2.drop j)) (λh:Nat=>[(2,aI 0 0),(4,aI 1 0),(5,a3.B (b.2.2.drop j)),(6,.n (.Q (.x 2 2 (c k) (bg.fn k)))),(7,Q e),(8,bf (sU j b h m)),(9,Q h)]) (λh=>GL b j k) (λh=>c (b.2.2.drop j)-h) 0 a D a D a w ?_;intro h z;have I:=sj (i:=j) (l:=b.2.2);by_cases E:h<c (b.2.2.drop j)
  .have i:(b.2.2.drop j).getD (h:Int).toNat a3.F=(b.2.2.drop j).getD h (0,0):=M;have p:sU j b (h+1) m=(sU j b h m||((b.2.2.drop j).getD h (0,0)).2==m.1):=Sm (λu:Int×Int=>u.2==m.1) E (0,0);cases r:sU j b h m with
   |true=>
    refine be o [37] a PL (g.av (h+1) a ?_ ?_ ?_ ?_)
    .rw[r]at p;simp[p]
    .simp
    .grind
    omega
   |false=>
    refine be o [37] a PL (g.av (h+1) a ?_ ?_ ?_ ?_)
    .rw[r]at p;simp only[U.X,U,bs.same,p,s,i,ba,a9,Bool.false_or];rfl
    .simp
    .grind
    omega
  obtain rfl:h=c (b.2.2.drop j):=w;have p:sU j b (c (b.2.2.drop j)) m=jq j b.2.2 m:=by unfold sU jq;grind
  rw[p];cases r:jq j b.2.2 m with
  |true=>
   rw[r]at y;refine be o [-37] a D (g.az ?_);refine cU o a tS (g.av (e+1) a ?_ ?_ ?_ ?_)
   .have:mC j b (b.2.1.take (e+1))=k:=M;rw[this];exact P1
   .rw[show mC j b (b.2.1.take (e+1))=k by grind];simp
   .grind
   omega
  |false=>
   rw[r]at y;refine be o [-37] a D (g.az ?_);refine cU o a ?_ (g.av (e+1) a ?_ ?_ ?_ ?_)
   .simp only[U,a7,show rH.bytes=32 from a,ba,a9];exact fv
   .rw[show mC j b (b.2.1.take (e+1))=k++[m] by grind];simp only[U.X,U,s,bs.same,ba,a9,dk,gx];exact⟨bg.aX k m,a⟩
   .rw[show mC j b (b.2.1.take (e+1))=k++[m] by grind];simp only[U.X,U,s,bs.same,ba,a9,dk,gx];exact bg.aX k m
   .grind
   omega
 obtain rfl:e=c b.2.1:=w;rw[c6];refine be o [-31] a D (g.az ?_);refine cU o a B (g.bf () [] ?_ (λh z=>absurd z D));simp
def XC(b)(d)(e:dI b)(k:d.1≠1)(h:d.1≠2)(m:d.1≠3)(j:d.1≠4):X q 77 [bW b,er d] [] (bW b) []:=by
 refine X.bg bb func77 rfl rfl rfl λo=>?_;refine aW a B (g.aB (qi b e.aY e.bm e.aZ e.bp e.aJ) [] a (a5 [-13,-42,-48,-91] a ?_ ?_))
 .simp[k,h,m,j]
 exact zR
def Jj(b)(d)(aA)(e:dI b)(h:d.1=2)(j:X q 121 [bW b,Q d.2.1] [] (bW aA) []):X q 77 [bW b,er d] [] (bW aA) []:=by
 refine X.bg bb func77 rfl rfl rfl λk=>?_;refine aW a B (g.aB (qi b e.aY e.bm e.aZ e.bp e.aJ) [] a (a5 [-13,42] a ?_ ?_))
 .simp[h]
 refine g.cb j.tocH [] a a a a D a a a bn a bn a ?_;rintro -;exact aW a B zR
abbrev ny(a:Int)(b:m b'):m b':=b.filter λd=>!(d.1==a)
abbrev abV(a:cd)(d:dH)(b:m b'):m aq:=[jT a,.cells 35 (vs d),.cells 30 [cF,cF,cF],.x 80 2 (c a.1) (a2.fn a.1),.x 84 2 (c a.2.1) (bg.fn a.2.1),.x 54 2 (c a.2.2) (a3.fn a.2.2),
 .cells 30 [.x 3 2 (c a.1) (a2.fn a.1),.x 4 2 (c a.2.1) (bg.fn a.2.1),.x 5 2 (c a.2.2) (a3.fn a.2.2)],.x 80 2 (c b) (a2.fn b)]
def Xw(b)(d)(k:dI b)(t:d.1=1):X q 77 [bW b,er d] [] (bW (b.1.filter λi=>!(i.1==d.2.1),b.2.1,b.2.2)) []:=by
 refine X.bg bb func77 rfl rfl rfl λz=>?_;refine aW a B (g.aB (qi b k.aY k.bm k.aZ k.bp k.aJ) [] a (a5 [13,905] a ?_ ?_))
 .simp[t]
 refine g.bG 6 80 2 a a ?_;refine aW a B ?_;have u:=k.aY;refine g.aC 8 (λe=>e<=c b.1) (λe:Nat=>[(3,aI 1 0),(4,aI 2 0),(5,aI 6 0),(6,.n (.Q (.x 7 2 (c (ny d.2.1 (b.1.take e))) (a2.fn (ny d.2.1 (b.1.take e)))))),(7,Q e)]) (λe=>abV b d (ny d.2.1 (b.1.take e))) (λe=>c b.1-e) 0 a D a D a w ?_;intro e r;by_cases p:e<c b.1
 .have s:b.1.getD (e:Int).toNat a2.F=b.1.getD e (0,[]):=by rw[cY];rfl
  have j:ny d.2.1 (b.1.take (e+1))=ny d.2.1 (b.1.take e)++(if !((b.1.getD e (0,[])).1==d.2.1)then[b.1.getD e (0,[])]else[]):=JD (λi:b'=>!(i.1==d.2.1)) p (0,[]);have y:c (ny d.2.1 (b.1.take e))<=e:=fQ (kz _ _) bQ;generalize ny d.2.1 (b.1.take e)=h at *;generalize b.1.getD e (0,[])=i at *;cases m:i.1==d.2.1 with
  |true=>
   rw[m]at j;refine bL [20,-31] a ?_ (g.av (e+1) a ?_ ?_ ?_ ?_)
   .simp only[U,s,a7,bw,dp,lC,ba,a9];and_intros<;>first|omega|simp[bne,m]
   .rw[show ny d.2.1 (b.1.take (e+1))=h by simpa using j];exact P1
   .rw[show ny d.2.1 (b.1.take (e+1))=h by simpa using j];simp
   .exact qX
   omega
  |false=>
   rw[m]at j;refine bL [20,31] a ?_ (g.av (e+1) a ?_ ?_ ?_ ?_)
   .simp only[U,s,a7,show nv.bytes=32 from a,bw,dp,lC,ba,a9];and_intros<;>first|omega|simp[bne,m]
   .rw[show ny d.2.1 (b.1.take (e+1))=h++[i] by simpa using j];simp only[U.X,U,s,bs.same,ba,a9,dk,gx];exact⟨a2.aX h i,a⟩
   .rw[show ny d.2.1 (b.1.take (e+1))=h++[i] by simpa using j];simp only[U.X,U,s,bs.same,ba,a9,dk,gx];exact a2.aX h i
   .exact qX
   omega
 obtain rfl:e=c b.1:=w;rw[c6];refine bL [-20] a D (g.az ?_);refine cz a B (g.bf () [] ?_ (λx o=>absurd o D));simp
def Up{b}{args}(Z)(dy)(j)(V:Nat->m N)(a)(k:c a=j)(i:bs j V (a3.fn a))(d:bk (ι:=Unit) q b args [] (λ_=>.n (.agg [dA 0 (c Z) (c Z),dA 1 (c dy) (c dy),dA 2 j j])) (λ_=>[.q 80 2 (c Z) (a2.fn Z),.q 84 2 (c dy) (bg.fn dy),.q 54 2 j V])):
  X q b args [] (bW (Z,dy,a)) []:=by
 have o:=bk.bL (aS:=λ_:Unit=>[.q 80 2 (c Z) (a2.fn Z),.q 84 2 (c dy) (bg.fn dy)]) (W:=54) (h:=2) (j:=λ_=>j) (V:=λ_=>V) d bn (λ_=>?_) bn (λ_=>gZ _);have e:=bk.bL (aS:=λ_:Unit=>[.q 80 2 (c Z) (a2.fn Z)]) (W:=84) (h:=2) (j:=λ_=>c dy) (V:=λ_=>bg.fn dy) o bn (λ_=>?_) bn (λ_=>gZ _);have g:=bk.bL (aS:=λ_:Unit=>[]) (W:=80) (h:=2) (j:=λ_=>c Z) (V:=λ_=>a2.fn Z) e bn (λ_=>?_) bn (λ_=>bC _);refine(g.le (oy:=λ_=>bW (Z,dy,a)) bn (λ_=>?_)).Q
 .simp only[U.X,U,a9,ba];exact⟨bs.same,bs.same,k.symm,i⟩
 .simp
 .simp
 simp
def XB(b)(d:dH)(e:dI b)(j:d.1=4)(p:0<=d.2.1)(o:d.2.1<c b.2.2)(h:a7 .i64 (3-lq b d)):
  bk (ι:=Unit) q 77 [bW b,er d] [] (λ_=>.n (.agg [dA 0 (c b.1) (c b.1),dA 1 (c b.2.1) (c b.2.1),dA 2 (c b.2.2) (c b.2.2)])) (λ_=>[.q 80 2 (c b.1) (a2.fn b.1),.q 84 2 (c b.2.1) (bg.fn b.2.1),.q 54 2 (c b.2.2) (yg b d)]):=by
 refine bk.bA bb func77 rfl rfl rfl λk=>?_;have i:a_ q [(45,kE)]:=.cons lo .nil;have m:=e.aJ;refine b8 i a B (g.aB (Us b e.aY e.bm e.aZ e.bp e.aJ) [] a (a8 i [-13,-42,-48,91,99] a ?_ ?_))
 .have h:a7 .i64 (3-(b.2.2.getD (0+d.2.1.toNat) a3.F).1):=h;simp only[U,a7,j,bw,ba,a9]at h⊢;exact FF
 refine g.bf () [3,4,5] ?_ eG;simp
def Xz(b)(a:dH)(d:dI b)(i:a.1=4)(e:0<=a.2.1)(g:a.2.1<c b.2.2)(h:a7 .i64 (3-lq b a)):
  X q 77 [bW b,er a] [] (bW (b.1,b.2.1,b.2.2.set (0+a.2.1.toNat) (3-lq b a,(b.2.2.getD (0+a.2.1.toNat) a3.F).2))) []:=
 Up b.1 b.2.1 _ _ _ D (a3.cT b.2.2 (0+a.2.1.toNat) (3-lq b a,(b.2.2.getD (0+a.2.1.toNat) a3.F).2) (c b.2.2) (bC _)) (XB b a d i e g h)
def XA(b)(e:dH)(d:dI b)(j:e.1=4)(o:¬(0<=e.2.1/\e.2.1<c b.2.2)):X q 77 [bW b,er e] [] (bW b) []:=by
 refine X.bg bb func77 rfl rfl rfl λk=>?_;have h:a_ q [(45,kE)]:=.cons lo .nil;have m:=d.aJ;refine b8 h a B (g.aB (qi b d.aY d.bm d.aZ d.bp d.aJ) [] a (a8 h [-13,-42,-48,91,-99] a ?_ ?_))
 .simp only[U,a7,j,dp,ba,a9];exact FF
 refine g.bf () [] ?_ (λp i=>absurd i D);simp
abbrev Ed(a:cd)(i:dH)(e g b d:Nat)(h:m Y):m aq:=[jT a,.cells 35 (vs i),.cells 30 [cF,cF,cF],.q 80 2 (c a.1) (gm a.1 e (.slice (f ⟨g,0,n⟩) d b)),.q 84 2 (c a.2.1) (bg.fn a.2.1),.q 54 2 (c a.2.2) (a3.fn a.2.2),.K (cr 114 2 (.row g b) d h),.cells 30 [dA 3 (c a.1) (c a.1),dA 4 (c a.2.1) (c a.2.1),dA 5 (c a.2.2) (c a.2.2)]]
def Xy(b)(d)(x:dI b)(t:d.1=3)(i0 A)(r:sb b d i0 A):
  bk (ι:={E:fp×m Y // eo 2 (b.1.getD i0 (0,[])).2.length (bG.fn (gT (b.1.getD i0 (0,[])).2 A d.2.2.2)) E.2}) q 77 [bW b,er d] []
   (λ_=>.n (.agg [dA 0 (c b.1) (c b.1),dA 1 (c b.2.1) (c b.2.1),dA 2 (c b.2.2) (c b.2.2)]))
   (λE=>[.q 80 2 (c b.1) (gm b.1 i0 (cZ E.1.1 (b.1.getD i0 (0,[])).2.length)),.q 84 2 (c b.2.1) (bg.fn b.2.1),.q 54 2 (c b.2.2) (a3.fn b.2.2),.K (cr 114 2 E.1.1 (b.1.getD i0 (0,[])).2.length E.1.2)]):=by
 have W:=r.gp;have Z:=x.bm _ (vc r.a_);have G:=x.aY;refine bk.bA bb func77 rfl rfl rfl λH=>?_;have h:a_ q [(45,kE)]:=.cons lo .nil;refine b8 h a B (g.a2 (Uu b i0 r.a_ w x.aY x.bm x.aZ x.bp x.aJ) [] a bn ?_);rintro⟨⟨T,M⟩,O⟩;refine g.fy (cr.len (d:=6) a) λV=>?_;obtain⟨i,cap,rfl⟩:=V.2.2.1 w;refine a8 h [-13,-42,48] a gH (g.aC 8 (λo:Nat×m Y=>o.1<=c b.1/\(o.1<=i0->o.2=M)/\(i0<o.1->eo 2 (b.1.getD i0 (0,[])).2.length (bG.fn (gT (b.1.getD i0 (0,[])).2 A d.2.2.2)) o.2)) (λo=>[(3,aI 1 0),(4,aI 2 0),(5,aI 7 0),(8,Q o.1)]) (λo=>Ed b d i0 i cap (b.1.getD i0 (0,[])).2.length o.2) (λo=>c b.1-o.1) (0,M) a D a ?_ a ⟨by omega,λ_=>rfl,λt=>by omega⟩ ?_)
 .simp only[U.X,U,bs.same,a9,ba];and_intros<;>first|exactλ_ _=>rfl|rfl
 rintro⟨e,p⟩ ⟨F,K,J⟩;simp only at F K J;have j:0+(e:Int).toNat=e:=w;by_cases t:e<c b.1
 .by_cases S:e=i0
  .subst S;obtain rfl:=K (bC _);have u:=r.cZ;have y:=r.b2;generalize aa:(b.1.getD e (0,[])).2=ag at *;refine a8 h [54,917] a ?_ ?_
   .simp only[U,bw,ba,a9];omega
   refine g.eI (ι:=Unit) b6 17 20 20 (λk=>ay k 16) (λk=>[aI 7 0,.n (.Q (dA 3 (c b.1) (c b.1))),Q e,cC 3 (.bt (c b.1) 2 (0+(e:Int).toNat) 0),cC 3 (.bt (c b.1) 2 (0+(e:Int).toNat) 0),Q (b.1.getD (0+(e:Int).toNat) (0,[])).1,aI 1 1,Q d.2.1,bf ((b.1.getD (0+(e:Int).toNat) (0,[])).1==d.2.1),bf l,aI 1 2,Q d.2.2.1,aI 7 0,.n (.Q (dA 3 (c b.1) (c b.1))),Q e,cC 3 (.bt (c b.1) 2 (0+(e:Int).toNat) 0),cC 3 (.bt (c b.1) 2 (0+(e:Int).toNat) 1)].getD k .any)
    (λ_ k=>[ax (.val (.slice (f ⟨i,0,n⟩) (c ag) cap)),Q (c ag),Q (c ag-1)].getD (k-17) .any)
    (λ_=>Ed b d e i cap (c ag) p) a a a a a a a (λk t=>by have:=fs t;omega) a
    ⟨aZ.w,aZ.w,aZ.w,aZ.eval (bh:=[]) bb h a qZ,aZ.w,aZ.eval (bh:=[]) bb h a NW,aZ.w,aZ.w,aZ.w,aZ.eval (bh:=[66]) bb h a RK,aZ.w,aZ.w,aZ.w,aZ.w,aZ.w,aZ.eval (bh:=[]) bb h a qZ,aZ.w,B,B,B,B,B,B⟩
    (λ_=>⟨aZ.w,aZ.w,aZ.w,aZ.eval (bh:=[]) bb h a qZ,aZ.w,aZ.eval (bh:=[]) bb h a NW,aZ.w,aZ.w,aZ.w,aZ.eval (bh:=[66]) bb h a RK,aZ.w,aZ.w,aZ.w,aZ.w,aZ.w,aZ.eval (bh:=[]) bb h a qZ,aZ.w,B,aZ.eval (bh:=[]) bb h a qZ,aZ.eval (bh:=[]) bb h a FN,B⟩)
    (dX.de (aZ.a0 (jW a) (a1.e7 bb (aw:=.Q (.c (.val (.slice (f ⟨i,0,n⟩) (c ag) cap)))) a a a a a ?_ ?_))) λ_=>?_
   .exact O0
   .grind
   refine a8 h [78,918] a ?_ ?_
   .simp only[U,bw,a9];omega
   refine g.eI (ι:=Unit) b6 5 10 8 (λk=>ay k 4||(ay 6 k&&ay k 9)) (λk=>[aI 7 0,.n (.Q (dA 3 (c b.1) (c b.1))),Q e,cC 3 (.bt (c b.1) 2 (0+(e:Int).toNat) 0),cC 3 (.bt (c b.1) 2 (0+(e:Int).toNat) 1),.any,aI 1 2,Q d.2.2.1,aI 1 3,ax (.T d.2.2.2)].getD k .any)
    (λ_ k=>[ax (.val (.slice (f ⟨i,0,n⟩) (c ag) cap))].getD (k-5) .any)
    (λ_=>Ed b d e i cap (c ag) p) a a a a a a a (λk t=>by simp at t;omega) a
    ⟨aZ.w,aZ.w,aZ.w,aZ.eval (bh:=[]) bb h a qZ,aZ.w,B,aZ.w,aZ.w,aZ.w,aZ.w,B,B,B,B⟩
    (λ_=>⟨aZ.w,aZ.w,aZ.w,aZ.eval (bh:=[]) bb h a qZ,aZ.w,B,aZ.w,aZ.w,aZ.w,aZ.w,B⟩)
    (dX.de (aZ.a0 (jW a) (a1.e7 bb (aw:=.Q (.c (.val (.slice (f ⟨i,0,n⟩) (c ag) cap)))) a a a a a ?_ ?_))) λ_=>?_
   .exact O0
   .grind
   refine b8 h a qZ ?_;have N:c p=c ag*2:=O.len;have I:0+d.2.2.1.toNat*2+1=A*2+1:=w;refine g.eM bb 6 a a a a a a a ?_ a a λz C=>?_
   .show 0+d.2.2.1.toNat*2+1+1<=c p;omega
   have ab:=JI O W C;refine b8 h a FN (g.av (e+1,p.take (A*2+1)++z++p.drop (A*2+1+c z)) a D ?_ ?_ ?_)
   .simp only[U.X,U,bs.same,a9,ba];show cr 114 2 _ _ (List.take (0+d.2.2.1.toNat*2+1) p++z++List.drop (0+d.2.2.1.toNat*2+1+c z) p)=_;rw[I]
   .grind
   grind
  have X:=r.bT e t S;refine a8 h [54,-66,-78] a ?_ (g.av (e+1,p) a ?_ ?_ ?_ ?_)
  .simp only[U,a7,j,eZ,bw,ba,a9];and_intros<;>first|exact X|omega
  .simp
  .simp
  .grind
  grind
 obtain rfl:e=c b.1:=w;refine a8 h [-54] a D (g.az ?_);refine b8 h a B (g.bf ⟨(.row i cap,p),J r.a_⟩ [3,4,5,6] ?_ eG);simp
def Ur{p}{args}(b)(d)(i0 A)(x:i0<c b.1)(s:bk (ι:={g:fp×m Y // eo 2 (b.1.getD i0 (0,[])).2.length (bG.fn (gT (b.1.getD i0 (0,[])).2 A d.2.2.2)) g.2}) q p args []
   (λ_=>.n (.agg [dA 0 (c b.1) (c b.1),dA 1 (c b.2.1) (c b.2.1),dA 2 (c b.2.2) (c b.2.2)]))
   (λg=>[.q 80 2 (c b.1) (gm b.1 i0 (cZ g.1.1 (b.1.getD i0 (0,[])).2.length)),.q 84 2 (c b.2.1) (bg.fn b.2.1),.q 54 2 (c b.2.2) (a3.fn b.2.2),.K (cr 114 2 g.1.1 (b.1.getD i0 (0,[])).2.length g.1.2)])):
  X q p args [] (bW (g6 b d i0 A)) []:=by
 generalize e:b.1.getD i0 (0,[])=i at *;have z:∀k,k≠i0->a2.fn (g6 b d i0 A).1 k=a2.fn b.1 k:=λk o=>by simp[c0.fn,gF,ak,n1,oZ o]
 have D:a2.fn (g6 b d i0 A).1 i0=[.int .i64 i.1,.B v 2 (c i.2) (bG.fn (gT i.2 A d.2.2.2))]:=by have:(g6 b d i0 A).1.getD i0 a2.F=(i.1,gT i.2 A d.2.2.2):=M;show a2.a7 ((g6 b d i0 A).1.getD i0 a2.F)=_;rw[this];show[N.int .i64 i.1,N.B v 2 (c (gT i.2 A d.2.2.2)) (bG.fn (gT i.2 A d.2.2.2))]=_;rw[LL]
 have y:=bk.ft (aS:=λg:{g:fp×m Y // eo 2 (c i.2) (bG.fn (gT i.2 A d.2.2.2)) g.2}=>[.q 80 2 (c b.1) (gm b.1 i0 (cZ g.1.1 (c i.2))),.q 84 2 (c b.2.1) (bg.fn b.2.1),.q 54 2 (c b.2.2) (a3.fn b.2.2)]) (fe:=λ_=>[.q 80 2 (c b.1) (a2.fn (g6 b d i0 A).1),.q 84 2 (c b.2.1) (bg.fn b.2.1),.q 54 2 (c b.2.2) (a3.fn b.2.2)]) (W:=114) (h:=2) (j:=c i.2) (bO:=λg=>g.1.1) (ag:=λg=>g.1.2) s (λg=>g.2) 0 bn bn bn bn (λ_=>gZ _)
  (λg k o=>by exact bE)
  (λg k o r C O=>by
   by_cases t:k=i0
   .subst t;rw[D]at O;have:gm b.1 k (cZ g.1.1 (c i.2)) k=[.int .i64 i.1,.val (cZ g.1.1 (c i.2))]:=N6;rw[this];rcases r with _|_|r
    .simp at O;subst O;exact⟨_,a,.inl a⟩
    .exact Rk
    grind
   .rw[z k t]at O;have:gm b.1 i0 (cZ g.1.1 (c i.2)) k=a2.fn b.1 k:=E0
    rw[this];exact⟨C,O,.inl a⟩)
 have B:=bk.bL (aS:=λ_=>[.q 80 2 (c b.1) (a2.fn (g6 b d i0 A).1),.q 84 2 (c b.2.1) (bg.fn b.2.1)]) (W:=54) (h:=2) (j:=λ_=>c b.2.2) (V:=λ_=>a3.fn b.2.2) y bn (λ_=>?_) bn (λ_=>gZ _);have u:=bk.bL (aS:=λ_=>[.q 80 2 (c b.1) (a2.fn (g6 b d i0 A).1)]) (W:=84) (h:=2) (j:=λ_=>c b.2.1) (V:=λ_=>bg.fn b.2.1) B bn (λ_=>?_) bn (λ_=>gZ _);have w:=bk.bL (aS:=λ_=>[]) (W:=80) (h:=2) (j:=λ_=>c b.1) (V:=λ_=>a2.fn (g6 b d i0 A).1) u bn (λ_=>?_) bn (λ_=>bC _);refine(w.le (oy:=λ_=>bW (g6 b d i0 A)) bn (λ_=>?_)).Q
 .exact P5
 .simp
 .simp
 simp
def Xx(b)(d)(e:dI b)(g:d.1=3)(i0 A)(a:sb b d i0 A):X q 77 [bW b,er d] [] (bW (g6 b d i0 A)) []:=
 Ur b d i0 A a.a_ (Xy b d e g i0 A a)
abbrev abY(a:cd)(b:dH):m aq:=[jT a,.cells 35 (vs b),.cells 30 [cF,cF,cF],.x 80 2 (c a.1) (a2.fn a.1),.x 84 2 (c a.2.1) (bg.fn a.2.1),.x 54 2 (c a.2.2) (a3.fn a.2.2),
 .cells 30 [.x 3 2 (c a.1) (a2.fn a.1),.x 4 2 (c a.2.1) (bg.fn a.2.1),.x 5 2 (c a.2.2) (a3.fn a.2.2)]]
def XD(b)(d)(h:dI b)(t:d.1=3)(p:pP b d):X q 77 [bW b,er d] [] (bW b) []:=by
 refine X.bg bb func77 rfl rfl rfl λz=>?_;have i:a_ q [(45,kE)]:=.cons lo .nil;have y:=h.aY;refine b8 i a B (g.aB (qi b h.aY h.bm h.aZ h.bp h.aJ) [] a (a8 i [-13,-42,48] a gH (g.aC 7 (λe=>e<=c b.1) (λe:Nat=>[(3,aI 1 0),(4,aI 2 0),(5,aI 6 0),(8,Q e)]) (λ_=>abY b d) (λe=>c b.1-e) 0 a D a D a w ?_)));intro e m;by_cases t:e<c b.1
 .have s:=p e t;have u:=h.bm _ (vc t);have j:b.1.getD (e:Int).toNat a2.F=b.1.getD e (0,[]):=by rw[cY];rfl
  generalize b.1.getD e (0,[])=r at *;by_cases k:r.1=d.2.1
  .refine a8 i [54,66,-78] a ?_ (g.av (e+1) a ?_ ?_ ?_ ?_)
   .simp only[U,a7,j,k,gi,bw,dp,ba,a9];exact fv
   .simp
   .simp
   .exact qX
   omega
  refine a8 i [54,-66,-78] a ?_ (g.av (e+1) a ?_ ?_ ?_ ?_)
  .simp only[U,a7,j,eZ,bw,dp,ba,a9];and_intros<;>first|exact k|omega
  .simp
  .simp
  .exact qX
  omega
 obtain rfl:e=c b.1:=w;refine a8 i [-54] a D (g.az ?_);refine b8 i a B (g.bf () [] ?_ (λx o=>absurd o D));simp
def WG(j):X q 276 [Q j] [] (bf (decide (0<=j)&&decide (j<999999999989))) []:=by
 refine X.J func276 rfl λb=>?_;by_cases t:0<=j
 .exact a5 [5] a gH (g.ao a gH)
 exact a5 [-5] a gH (g.ao a gH)
def XQ(b i):X q 216 [o6 b i] [] (bf (fW (b,i))) []:=by
 refine X.J func216 rfl λh=>?_;have e:a_ q [(276,dc c1 (λd=>bf (decide (0<=d)&&decide (d<999999999989))) λ_=>[])]:=.cons (.a9 λd _=>WG d) .nil;unfold fW;cases t:(decide (0<=b)&&decide (b<999999999989))with
 |false=>exact a8 e [-6,-11] rfl gH (g.ao rfl)
 |true=>
  by_cases O:1<=i
  .exact a8 e [6,11] a ds (g.ao a pL)
  exact a8 e [6,-11] a ds (g.ao a pL)
abbrev BI:bI:=dc sf (λa=>bf (fW a)) λ_=>[]
def M0:bK q 216 BI:=.a9 λa _=>XQ a.1 a.2
def Nb(d:m (Int×Int)):∀a:dF,dF.fj a->(d.foldl (λa b=>a.put b.1 b.2) a).ad=d.foldl d' a.ad/\dF.fj (d.foldl (λa b=>a.put b.1 b.2) a):=by
 induction d with
 |nil=>grind
 |cons b g e=>
  grind[DT,aa9]
def VD(d:m b')(T:c d<=4000000)(R:c (dC d)<=100000):X q 174 [a2.B d] [] (a3.B (eB d)) []:=by
 refine X.J func174 rfl λN=>?_;have e:a_ q [(216,BI)]:=.cons M0 .nil;refine cU e a B (g.bG 3 253 2 a a ?_);refine g.aC 1 (λb=>b<=c d/\(dC (d.take b)).all fW=l) (λb:Nat=>[(3,.n (.Q (.x 0 2 (c (dC (d.take b))) (a3.fn (dC (d.take b)))))),(9,a2.B d),(10,Q (c d)),(11,Q b)]) (λb=>[jt (dC (d.take b))]) (λb=>c d-b) 0 a ?_ a ?_ a ⟨by omega,a⟩ ?_
 .simp[dC]
 .simp[dC]
 rintro b ⟨C,j⟩;by_cases k:b<c d
 .have o:d.getD (b:Int).toNat a2.F=d.getD b (0,[]):=M;have F:=Em k;refine be e [12] a bv (g.aC 2 (λu=>u<=(d.getD b (0,[])).2.length/\(hf d b u).all fW=l) (λu:Nat=>[(3,.n (.Q (.x 0 2 (c (hf d b u)) (a3.fn (hf d b u))))),(5,aI 1 0),(9,a2.B d),(10,Q (c d)),(11,Q b),(16,bG.B (d.getD b (0,[])).2),(17,Q (d.getD b (0,[])).2.length),(18,Q u)]) (λu=>[jt (hf d b u),.cells 80 [.c (.int .i64 (d.getD b (0,[])).1),.c (.B v 2 (d.getD b (0,[])).2.length (bG.fn (d.getD b (0,[])).2))]]) (λu=>(d.getD b (0,[])).2.length-u) 0 a Qn a Qn a ⟨by omega,by simpa[hf]using j⟩ ?_);rintro u ⟨V,z⟩;obtain⟨J,O⟩:=zp (d:=d) (u:=u) k;have Y:c (hf d b u)<=100000:=M;have Z:(d.getD b (0,[])).2.length<=100000:=by grind[Mx]
  by_cases y:u<(d.getD b (0,[])).2.length
  .have x:(d.getD b (0,[])).2.getD (u:Int).toNat bG.F=(d.getD b (0,[])).2.getD u (0,[]):=M;have h:hf d b (u+1)=hf d b u++[(((d.getD b (0,[])).2.getD u (0,[])).1,(d.getD b (0,[])).1)]:=Rp;have A:=a3.aX (hf d b u) (((d.getD b (0,[])).2.getD u (0,[])).1,(d.getD b (0,[])).1);cases t:fW (((d.getD b (0,[])).2.getD u (0,[])).1,(d.getD b (0,[])).1)with
   |false=>
    have W:eB d=[]:=by obtain⟨J,O⟩:=zp (d:=d) (u:=u+1) k;unfold eB;rw[bj];grind
    refine be e [19,29] a ?_ (g.aT (bY.zero a ?_))
    .simp only[U,x,t,bw,ba,a9];exact qW
    exact bv
   |true=>
    refine be e [19,-29] a ?_ (g.av (u+1) a ?_ ?_ ?_ ?_)
    .simp only[U,x,t,a7,show pc.bytes=16 from a,bw,ba,a9];exact qW
    .exact Qe
    .exact Qe
    .grind
    omega
  have aa:u=(d.getD b (0,[])).2.length:=w;have s:hf d b u=dC (d.take (b+1)):=by rw[F,hf];grind[List.length_map]
  refine be e [-19] a bE (g.az ?_);rw[s];refine cU e a bE (g.av (b+1) a D ?_ ⟨k,s▸z⟩ w);simp
 .obtain rfl:b=c d:=w;rw[c6]at j⊢;refine be e [-12] a D (g.az ?_);refine g.fU (dD:=[(3,a3.B (dC d))]) (ap:=[jt (dC d)]) ?_ a D a D;have I:∀p∈dC d,a7 .i64 p.1/\a7 .i64 p.2:=λp S=>by have:=aX.1 j p S;simp only[fW,ck,bw]at this;simp only[a7];omega
  have i:a_ q [(212,dU [qy (dC d)] (ax (eN (i4 (dC d)))))]:=.cons (ef (Jq (dC d) w I)) .nil;have aY:(i4 (dC d)).ad=eB d:=by unfold eB;rw[bo j];exact(Nb (dC d) .nil bE).1
  have E:c (eB d)<=100000:=by have:=CV (dC d) [];unfold eB;grind
  rw[<-aY]at E⊢;clear aY;generalize i4 (dC d)=r at *;have K:=I6 (q:=q) r w
  cases r<;>(
   refine cU i a a (g.cb K.tocH [] a a a a (by simp[eN]) a a a bn a bn a λ_=>?_)
   exact cU i a B (g.ao a))
def qs(b:m bA)(d:bA):Int:=match b.findIdx? (λe=>e==d)with
 |some a=>a
 |none=>-1
def Zj{d}{aa}(a:e<c d)(j:∀b,b<e->d.getD b []≠aa)(h:d.getD e []=aa):qs d aa=e:=by
 have:d.findIdx? (λg=>g==aa)=f e:=by rw[uz];refine⟨a,by grind,λb i=>?_⟩;grind
 simp[qs,this]
def Zl{d}{aa}(e:∀a,a<c d->d.getD a []≠aa):qs d aa=-1:=by have:d.findIdx? (λb=>b==aa)=n:=wz;simp[qs,this]
def Zk(d)(aa):decide (0<=qs d aa)=d.contains aa:=by unfold qs;grind
def Vv(d)(aa):X q 275 [bR.B d,b1 aa] [] (Q (qs d aa)) []:=by
 refine X.J func275 rfl λm=>?_;have r:=m.B 0 a;refine aW a B (g.aC 0 (λb=>b<=c d/\∀e,e<b->d.getD e []≠aa) (λb:Nat=>[(0,bR.B d),(1,b1 aa),(7,Q (c d)),(8,Q b)]) (λ_=>[]) (λb=>c d-b) 0 a D a B a ⟨by omega,by omega⟩ ?_);rintro b ⟨p,h⟩;by_cases k:b<c d
 .have i:d.getD (b:Int).toNat bR.F=d.getD b []:=rfl;by_cases j:d.getD b []=aa
  .rw[Zj k h j];refine a5 [9,16] a ?_ (g.aT (bY.zero a));simp[U,i,bw,gL,ba,a9];and_intros<;>first|exact j.symm|omega
  refine a5 [9,-16] a ?_ (g.av (b+1) a ?_ B ⟨k,λe o=>?_⟩ w)
  .simp only[U,i,a7,bw,eZ,ba,a9];and_intros<;>first|grind|omega
  .simp
  grind
 rw[Zl λe o=>h e w];exact QK
abbrev SQ:bI:=ei (eK bR) eE (λa b=>Q (qs a b)) λ_ _=>[]
def Ve(d)(aa):X q 215 [bR.B d,b1 aa] [] (bf (d.contains aa)) []:=by refine X.J func215 rfl λe=>?_;have b:a_ q [(275,SQ)]:=.cons (.bk λd aa _=>Vv d aa) .nil;refine b8 b a (by simp[U];exact bR.U _) (g.ao a ?_);simp only[U,bR.l,a9];exact Zk d aa
abbrev G':bI:=ei (eK bR) eE (λa b=>bf (a.contains b)) λ_ _=>[]
def adc:bK q 215 G':=.bk λa b _=>Ve a b
def kO(b:m fg)(d:Nat):Bool:=(aB d).all λa=>fW (b.getD a (0,0))&&(a==0||decide ((b.getD (a-1) (0,0)).1<(b.getD a (0,0)).1))
theorem K6{d}:kO d (e+1)=(kO d e&&(fW (d.getD e (0,0))&&(e==0||decide ((d.getD (e-1) (0,0)).1<(d.getD e (0,0)).1)))):=by unfold kO;rw[List.range_succ,List.all_append];simp
def K4{d}(h:kO d e=v):∀a,e<=a->kO d a=v:=by
 intro a g;obtain⟨b,rfl⟩:=Nat.exists_eq_add_of_le g;induction b with
 |zero=>exact h
 |succ b i=>grind[K6]
def VE(d):X q 211 [a3.B d] [] (bf (kO d (c d))) []:=by
 refine X.J func211 rfl λp=>?_;have t:=p.B 0 a;have b:a_ q [(216,BI)]:=.cons M0 .nil;refine b8 b a B (g.aC 0 (λe=>e<=c d/\kO d e=l) (λe:Nat=>[(0,a3.B d),(5,a3.B d),(6,Q (c d)),(7,Q e)]) (λ_=>[]) (λe=>c d-e) 0 a D a B a ⟨by omega,a⟩ ?_);rintro e ⟨r,k⟩;by_cases o:e<c d
 .have j:=K6 (d:=d) (e:=e);rw[k,fP]at j;have i:d.getD (e:Int).toNat a3.F=d.getD e (0,0):=rfl;cases h:fW (d.getD e (0,0))with
  |false=>
   rw[K4 (e:=e+1) M (c d) w];refine a8 b [8,14,29] a ?_ (g.aT (bY.zero a));simp_all
  |true=>
  rw[h,fP]at j;by_cases s:e=0
  .subst s;refine a8 b [8,-14,-17,-29] a ?_ (g.av 1 a D B ⟨o,j⟩ w);simp only[U,i,h,a7,bw,dp,ba,a9];exact qW
  have m:d.getD ((e:Int)-1).toNat a3.F=d.getD (e-1) (0,0):=by rw[show((e:Int)-1).toNat=e-1 by omega];rfl
  by_cases u:(d.getD (e-1) (0,0)).1<(d.getD e (0,0)).1
  .refine a8 b [8,-14,17,-29] a ?_ (g.av (e+1) a D B ⟨o,by grind⟩ w);simp only[U,i,m,h,a7,bw,dp,ba,a9];exact qW
  rw[K4 (e:=e+1) M (c d) w];refine a8 b [8,-14,17,29] a ?_ (g.aT (bY.zero a));simp only[U,i,m,h,a7,bw,ba,a9];exact qW
 obtain rfl:e=c d:=w;rw[k];refine a8 b [-8] a D (g.az ?_);exact b8 b a B (g.ao a)
def IY(d):X q 8 [az.B d,az.B d] [] (bf l) []:=by
 refine X.J func8 rfl λb=>?_;have i:=b.B 0 a;refine a5 [-10] a D (g.aC 0 (λe=>e<=c d) (λe:Nat=>[(0,az.B d),(1,az.B d),(5,Q e)]) (λ_=>[]) (λe=>c d-e) 0 a D a D a w ?_);intro e h;by_cases j:e<c d
 .exact O8
 exact Fj
abbrev xy:bI:=ei (eK az) (eK az) (λ_ _=>bf l) λa b=>[b=a]
def Ez:bK q 8 xy:=.bk λa b d=>by have:b=a:=d;subst this;exact IY _
def VZ(d):X q 31 [a3.B d,a3.B d] [] (bf l) []:=by
 refine X.J func31 rfl λb=>?_;have i:=b.B 0 a;refine a5 [-10] a D (g.aC 0 (λe=>e<=c d) (λe:Nat=>[(0,a3.B d),(1,a3.B d),(5,Q e)]) (λ_=>[]) (λe=>c d-e) 0 a D a D a w ?_);intro e h;by_cases j:e<c d
 .exact O8
 exact Fj
abbrev Hg:bI:=ei (eK a3) (eK a3) (λ_ _=>bf l) λa b=>[b=a]
def adm:bK q 31 Hg:=.bk λa b d=>by have:b=a:=d;subst this;exact VZ _
abbrev K'(a:b'):aq:=.cells 80 [.c (.int .i64 a.1),.c (.B v 2 (c a.2) (bG.fn a.2))]
def V0(b):X q 32 [fH b,fH b] [] (bf l) []:=by
 refine X.J func32 rfl λr=>?_;by_cases E:c b.2<=9223372036854775807
 .refine a5 [-10,-18] a D (g.aC 2 (λd=>d<=c b.2) (λd:Nat=>[(2,aI 0 0),(3,aI 1 0),(5,Q d)]) (λ_=>[K' b,K' b]) (λd=>c b.2-d) 0 a D a D a w ?_);intro d p;by_cases o:d<c b.2
  .refine bL [24,-37] a ?_ (g.av (d+1) a ?_ ?_ ?_ ?_)
   .simp[a7,o];omega
   .simp
   .simp
   .grind
   omega
  refine bL [-24] a bQ (g.az ?_);exact cz a B (g.ao a)
 exfalso;obtain⟨k,z,h,_⟩:=r;obtain⟨C,t⟩:∃u,bx [] k u (fH b):=by
  match z,h with
  |[i,_],h=>exact⟨i,h.1⟩
 obtain⟨s,_,e⟩:=t
 match s,e with
 |[i,m],e=>
  have:=e.2.1;cases(show Rd k.D m (.B v 2 (c b.2) (bG.fn b.2))from this)with
  |B x j y A F=>omega
abbrev Hh:bI:=ei (jB bG) (jB bG) (λ_ _=>bf l) λa b=>[b=a]
def adn:bK q 32 Hh:=.bk λa b d=>by have:b=a:=d;subst this;exact V0 _
abbrev jS(a:eh):aq:=.cells 84 [.c (.int .i64 a.1),.c (.B v 2 (c a.2) (cw.fn a.2))]
def V1(d)(h:c d.2<=4000000):X q 33 [iR d,iR d] [] (bf l) []:=by
 refine X.J func33 rfl λi=>?_;have x:a_ q [(8,xy)]:=.cons Ez .nil;refine a8 x [-10,-18] a D (g.aC 2 (λb=>b<=c d.2) (λb:Nat=>[(2,aI 0 0),(3,aI 1 0),(5,Q b)]) (λ_=>[jS d,jS d]) (λb=>c d.2-b) 0 a D a D a w ?_);intro b e;by_cases j:b<c d.2
 .refine be x [24,-39,53] a ?_ (g.av (b+1) a ?_ ?_ ?_ ?_)
  .simp only[U,a7,gi,ft,ip,bw,ba,a9];and_intros<;>first|exact az.U _|omega
  .simp
  .simp
  .grind
  omega
 refine be x [-24] a bQ (g.az ?_);exact wv
abbrev Hi:bI:=ei (jB cw) (jB cw) (λ_ _=>bf l) λb a=>[a=b,c a.2<=4000000]
def ado:bK q 33 Hi:=.bk λa b e=>by obtain⟨rfl,d⟩:b=a/\_:=e;exact V1 _ d
abbrev zq(a:cd):aq:=.cells 30 [.c (.B v 2 (c a.1) (a2.fn a.1)),.c (.B v 2 (c a.2.1) (bg.fn a.2.1)),.c (.B v 2 (c a.2.2) (a3.fn a.2.2))]
def IZ(b)(e:dI b):X q 11 [bW b,bW b] [] (bf l) []:=by
 refine X.J func11 rfl λk=>?_;have x:a_ q [(31,Hg),(32,Hh),(33,Hi)]:=.cons adm (.cons adn (.cons ado .nil));have o:=e.aY;have m:=e.aZ;refine be x [-13,-21,28] a ?_ ?_
 .simp only[U,a7,gi,ft,ip,bw,ba,a9];and_intros<;>first|exact a3.U _|omega
 refine g.aC 2 (λd=>d<=c b.1) (λd:Nat=>[(2,aI 0 0),(3,aI 1 0),(5,Q d)]) (λ_=>[zq b,zq b]) (λd=>c b.1-d) 0 a D a D a w ?_;intro d h;by_cases i:d<c b.1
 .refine be x [35,48] a ?_ (g.av (d+1) a ?_ ?_ ?_ ?_)
  .simp only[U,a7,bw,ba,a9];and_intros<;>first|exact bG.U _|omega
  .simp
  .simp
  .grind
  omega
 refine be x [-35] a bQ (g.az ?_);refine cU x a B (g.aC 2 (λd=>d<=c b.2.1) (λd:Nat=>[(2,aI 0 0),(3,aI 1 0),(6,Q d)]) (λ_=>[zq b,zq b]) (λd=>c b.2.1-d) 0 a D a D a w ?_);intro d h;by_cases i:d<c b.2.1
 .have u:=(e.bp _ (mx i (0,[]))).1;have j:b.2.1.getD (d:Int).toNat bg.F=b.2.1.getD d (0,[]):=M;refine be x [54,67] a ?_ (g.av (d+1) a ?_ ?_ ?_ ?_)
  .simp only[U,a7,j,cw.l,bw,ba,a9];and_intros<;>first|exact cw.U _|omega
  .simp
  .simp
  .grind
  omega
 refine be x [-54] a bQ (g.az ?_);exact wv
def V3(b:m cM):X q 14 [bu.B b,bu.B b] [] (bf l) []:=by
 refine X.J func14 rfl λd=>?_;have j:=d.B 0 a;refine a5 [-10] a D (g.aC 0 (λe=>e<=c b) (λe:Nat=>[(0,bu.B b),(1,bu.B b),(5,Q e)]) (λ_=>[]) (λe=>c b-e) 0 a D a D a w ?_);intro e i;by_cases h:e<c b
 .refine bL [14,-25] a ?_ (g.av (e+1) a ?_ ?_ ?_ ?_)
  .simp[a7,h];omega
  .simp
  .simp
  .exact qX
  omega
 exact Fj
def VY(d h:m Int)(x:d≠h):X q 8 [az.B d,az.B h] [] (bf v) []:=by
 refine X.J func8 rfl λk=>?_;have y:=k.B 0 a;have A:=k.B 1 a;by_cases p:c d=c h
 rotate_left
 .refine a5 [10] a bQ (g.ao a D)
 refine a5 [-10] a bQ (g.aC 0 (λb=>b<=c d/\∀e,e<b->d.getD e 0=h.getD e 0) (λb:Nat=>[(0,az.B d),(1,az.B h),(5,Q b)]) (λ_=>[]) (λb=>c d-b) 0 a D a D a ⟨by omega,by omega⟩ ?_);rintro b ⟨s,j⟩;by_cases r:b<c d
 .by_cases i:d.getD b 0=h.getD b 0
  .refine bL [14,-25] a ?_ (g.av (b+1) a ?_ ?_ ⟨r,?_⟩ w)
   .simp only[U,a7,cY,bw];and_intros<;>first|omega|exact Az.2 i
   .simp
   .simp
   intro e z;by_cases o:e=b
   .subst o;exact i
   exact j e w
  refine bL [14,25] a ?_ (g.aT (bY.zero a D));simp only[U,a7,cY,bw];and_intros<;>first|omega|exact iJ.2 i
 refine absurd (pZ p λe u t=>?_) x;have:=j e w;simpa[u,t]using this
abbrev Hf:bI:=ei (eK az) (eK az) (λa b=>bf (decide (a=b))) λ_ _=>[]
def adl:bK q 8 Hf:=.bk λb d _=>by
 show X q _ [az.B b,az.B d] [] (bf (decide (b=d))) [];by_cases e:b=d
 .subst e;rw[fi a];exact IY b
 rw[na e];exact VY b d e
end
def Gk{d}:∀{h:Nat},c (fz d h)=h->∀a,1<=a->a<h->d.getD a 0≠d.getD (a-1) 0
 |0,_,a,_,b=>by omega
 |h+1,b,a,e,i=>by
  have g:=w' d h;rw[fz]at b;split at b
  .omega
  rename_i j;simp only[dk,gx]at b;by_cases k:a=h
  .grind
  exact Gk (h:=h) w a e w
def Mv(d):(jU d).Pairwise λa b=>a<=b:=by have:=List.pairwise_mergeSort (le:=λa b:Int=>decide (a<=b)) (λe g h i j=>by grind) (λe g=>by grind) d;exact this.imp λk=>by grind
def zo(d):(jU d).Perm d:=List.mergeSort_perm _ _
def S'(d):c (hN (jU d))=c d↔d.Nodup:=by
 rw[<-qM d,<-(zo d).nodup_iff];have r:=Mv d;generalize jU d=i at *;have k:∀{b:Nat} (e:b<c i),i.getD b 0=i[b]:=λ{b} e=>by grind
 constructor
 .intro e;have o:=Gk e;refine List.Pairwise.imp (R:=λs t=>s<t) (λe q=>by omega) (m8.2 λb g h a m=>?_);have j:=m8.1 r;have p:=o g w a;rw[k a,k w]at p;have u:=j (g-1) g w a w;by_cases q:b=g-1
  .grind
  have:=j b (g-1) h w w;omega
 intro e;unfold hN;rw[uD (bC _),c6];exact Fq
def Mz(j A):∀(g:m Int)d(e:Bool),(e=l->j∈d) ->
  ((A∈(g.foldl (gq j) (d,e)).1∨(A=j/\(g.foldl (gq j) (d,e)).2=v))↔((A∈d∨(A=j/\e=v))∨A∈g))
 |[],d,e,_=>by simp
 |i::g,d,e,r=>by
  rw[iI];have h:∀a b,gq j (d,e) i=(a,b)->(b=l->j∈a)/\((A∈a∨(A=j/\b=v))↔((A∈d∨(A=j/\e=v))∨A=i)):=λa b p=>by unfold gq at p;grind
  cases k:gq j (d,e) i with
  |mk a b=>
   obtain⟨q,o⟩:=h a b k;rw[Mz j A g a b q,o,e9,or_assoc]
def Z5{d}{b a:Int}:a∈e5 d b↔a∈d∨a=b:=by have:=Mz b a d [] v D;unfold e5;grind
def yF{A}:∀{b a:m Int},A∈b.foldl e5 a↔A∈a∨A∈b
 |[],a=>by simp
 |d::b,a=>by rw[iI,yF,Z5,e9,or_assoc]
def Dq{d}{A}:A∈gE d↔A∈d_ d:=by unfold gE;rw[yF];simp
def KG{A}:∀{e:m eh}{b:m Int},A∈e.foldl (λa d=>(gE d.2).foldl e5 a) b↔A∈b∨∃d∈e,A∈d_ d.2
 |[],b=>by simp
 |d::e,b=>by rw[iI,KG,yF,Dq,or_assoc];simp
def ta{d}{A}:A∈hS d↔∃a∈d,A∈d_ a.2:=by unfold hS;rw[KG];simp
def KF{d}{A}:∀{u:Nat},u<=c d->(A∈fz d u↔A∈d.take u)
 |0,_=>by simp[fz]
 |u+1,e=>by
  have b:=KF (d:=d) (A:=A) (u:=u) w;rw[fz,ie w 0];split
  .rename_i s;rw[b,fx];constructor
   .exact .inl
   rintro(a|a)
   .exact a
   simp only[gJ]at a;subst a;rw[s.2,ak,bH w];exact AR.2 ⟨u-1,by simp;omega,by simp⟩
  grind
def yG{a}{A}:A∈gd a↔A∈d_ a.2:=by unfold gd hN;rw[KF (bC _),c6];exact(zo _).mem_iff
def ZY{d}{j:Int->Bool}:(hS d).all j=(aB (c d)).all λe=>!(gd (d.getD e (0,[]))).any λb=>!j b:=by
 rw[oX,aX,fZ];constructor
 .intro h e a;rw[jc,List.any_eq_false];intro b g;have:=h b (ta.2 ⟨_,oe a,yG.1 g⟩);simp[this]
 intro h b g;obtain⟨o,m,k⟩:=ta.1 g;obtain⟨e,a,rfl⟩:=AR.1 m;have i:=h e a;rw[ak,bH a,h0,jc,List.any_eq_false]at i;simpa using i b (yG.2 k)
def sT{a:m α}(d:e<c a)(b:α):a.getD e b=a[e]:=M
def xe{aj:α->Int}{O}{d}:(∀a,a<c d->j7 aj O d a=l)↔d.Pairwise λo p=>aj o<aj p:=by
 constructor
 .intro j;have key:∀g a e (b:a<c d) (h:e<c d),e=a+g->0<g->aj d[a]<aj d[e]:=by
   intro g;induction g with
   |zero=>grind
   |succ g q=>
    intro a e b h k _;have m:=j e h;rw[p7 w,decide_eq_true_iff,sT w,sT h]at m;by_cases i:g=0
    .subst i;grind
    grind
  exact m8.2 λa e b h k=>key (e-a) a e b h w w
 intro j a b;by_cases i:a=0
 .exact bE
 rw[p7 i,decide_eq_true_iff,sT w,sT b];exact(m8.1 j) (a-1) a w b w
def sx{d}{S:α->Bool}{O}:(∀a,a<c d->S (d.getD a O)=l)↔∀b∈d,S b=l:=by grind[List.mem_iff_getElem]
structure nU(h:Int)(S:b'):Prop where
 cZ:1<=S.1/\S.1<=99
 key:ce h=l
 len:1<=c S.2/\c S.2<=4
 gA:∀F∈S.2,right h F=l
 h9:S.2.Pairwise λF bF=>F.1<bF.1
def yW{d}:h' h d=l↔nU h d:=by
 rw[DK];simp[ck,bw,fZ];have k:(∀b,b<c d.2->ic h d b=l)↔(∀g∈d.2,right h g=l)/\d.2.Pairwise λg m=>g.1<m.1:=by
  rw[<-sx (O:=(0,[])),<-xe (aj:=λg:cW=>g.1) (O:=(0,[]))];constructor
  .intro e;exact⟨λb a=>by have:=e b a;simp[ic,ck]at this;exact this.1,λb a=>by have:=e b a;simp only[ic,ck]at this;exact this.2⟩
  intro e b a;simp only[ic,ck];exact⟨e.1 b a,e.2 b a⟩
 rw[k];constructor
 .rintro⟨⟨⟨s,j⟩,u⟩,i,C⟩;exact⟨s,j,u,i,C⟩
 rintro⟨s,j,u,i,C⟩;grind
structure iC(h:Int)(b:cd):Prop where
 cr:∀S∈b.1,nU h S
 cG:b.1.Pairwise λS bl=>S.1<bl.1
 ay:(ct b.1).Nodup
 aZ:∀F∈b.2.1,(1<=F.1/\F.1<=20)/\(en h F b.1).isSome=l
 cI:b.2.1.Pairwise λF bF=>F.1<bF.1
 key:ce h=l
 dB:gC b.2.2=l
 len:c b.1<=20
def tB{b}:hV h b=l↔iC h b:=by
 unfold hV;simp[ck,bw,fZ];have q:(∀e,e<c b.1->nJ h b.1 e=l)↔(∀g∈b.1,nU h g)/\b.1.Pairwise λg r=>g.1<r.1:=by
  rw[<-xe (aj:=λg:b'=>g.1) (O:=(0,[]))];have:(∀g∈b.1,nU h g)↔∀g∈b.1,h' h g=l:=⟨λk g o=>yW.2 (k g o),λk g o=>yW.1 (k g o)⟩
  rw[this,<-sx (O:=(0,[]))];constructor
  .intro k;exact⟨λe a=>by have:=k e a;simp[nJ,ck]at this;exact this.1,λe a=>by have:=k e a;simp[nJ,ck]at this;exact this.2⟩
  intro k e a;simp[nJ,ck];grind
 have t:(∀e,e<c b.2.1->ln h b e=l)↔(∀i∈b.2.1,(1<=i.1/\i.1<=20)/\(en h i b.1).isSome=l)/\b.2.1.Pairwise λi w=>i.1<w.1:=by
  rw[<-xe (aj:=λg:eh=>g.1) (O:=(0,[]))];have:(∀i∈b.2.1,(1<=i.1/\i.1<=20)/\(en h i b.1).isSome=l)↔∀i∈b.2.1,(decide (1<=i.1/\i.1<=20)&&(en h i b.1).isSome)=l:=M;rw[this,<-sx (O:=(0,[]))];constructor
  .intro k;exact⟨λe a=>by have:=k e a;simp[ln,ck]at this⊢;grind,λe a=>by have:=k e a;simp[ln,ck]at this;exact this.1.2⟩
  intro k e a;have m:=k.1 e a;simp[ln,ck]at m⊢;grind
 rw[q,t];constructor
 .rintro⟨⟨⟨⟨⟨⟨m,C⟩,j⟩,u,A⟩,s⟩,d⟩,p⟩;exact⟨m,C,j,u,A,s,d,p⟩
 rintro⟨m,C,j,u,A,s,d,p⟩;grind
structure j0(h:Int)(p:dN):Prop extends iC h p.1 where
 gn:∀F∈p.1.2.1,∀j∈d_ F.2,j∈p.2.1
 gl:∀j∈p.2.2,∃S∈p.1.1,S.1=j
 ha:p.2.2.Pairwise λF bF=>F<bF
def rZ{p}:hg h p=l↔j0 h p:=by
 unfold hg;simp only[ck,tB,fZ];have o:(hS p.1.2.1).all (λa=>p.2.1.contains a)=l↔∀g∈p.1.2.1,∀a∈d_ g.2,a∈p.2.1:=by
  rw[aX];constructor
  .intro e g u a k;simpa using e a (ta.2 ⟨g,u,k⟩)
  intro e a k;obtain⟨g,u,k⟩:=ta.1 k;grind
 have q:(∀d,d<c p.2.2->nA p.1.1 p.2.2 d=l)↔(∀a∈p.2.2,∃j∈p.1.1,j.1=a)/\p.2.2.Pairwise λg r=>g<r:=by
  rw[<-xe (aj:=λa:Int=>a) (O:=0)];have:(∀a∈p.2.2,∃j∈p.1.1,j.1=a)↔∀a∈p.2.2,(p.1.1.any λj=>j.1==a)=l:=D;rw[this,<-sx (O:=0)];constructor
  .intro e;exact⟨λd b=>by have:=e d b;simp only[nA,ck]at this;exact this.1,λd b=>by have:=e d b;simp[nA,ck]at this;exact this.2⟩
  intro e d b;simp[nA,ck];grind
 rw[o,q];constructor
 .rintro⟨⟨m,i,C⟩,s⟩;exact⟨s,m,i,C⟩
 rintro⟨s,m,i,C⟩;grind
def iY(b:Int)(a:m Int)(d:b'):b':=if d.1=b then hD d a else d
def fl(b:Int)(a:m Int)(d:m b'):m b':=(d.map (iY b a)).filter λe=>!e.2.isEmpty
def jv(a:dN):dN:=match a.2.2 with
 |[]=>a
 |b::d=>((fl b a.2.1 a.1.1,a.1.2),a.2.1,d)
def YI{d:m cW}{a:m Int}{j}(e:j∈a):(d.filter λb=>a.contains b.1).find? (λb=>b.1==j)=d.find? (λb=>b.1==j):=M
def aaB{bN:Int}{a:m Int}{S}{j}(b:j∈a):fS h (iY bN a S) j=fS h S j:=by
 unfold iY;split
 .simp only[fS,hD,YI b]
 simp
def JB{h bN}{cx}{j}(b:j∈cx):∀a:m b',dg h (fl bN cx a) j=dg h a j
 |[]=>rfl
 |S::a=>by
  have g:=JB (h:=h) (bN:=bN) b a;have e:=aaB (h:=h) (bN:=bN) (S:=S) b;unfold fl dg at *;rw[mf,so];split
  .grind
  rename_i d;have d:(iY bN cx S).2=[]:=M;have:fS h S j=n:=by rw[<-e];unfold fS;grind
  grind
def YA{Z cR}{a}(d:∀b∈a,dg h Z b=dg h cR b):g2 h Z a=g2 h cR a:=by unfold g2;grind[List.map_congr_left]
def ab8{Z cR}{b}(i:∀a∈d_ b.2,dg h Z a=dg h cR a):en h b Z=en h b cR:=by
 have j:∀d∈b.2,fI h Z d=fI h cR d:=λd g=>by unfold fI;rw[YA λa e=>i a (rh.2 ⟨d,g,e⟩)]
 unfold en fk;grind[List.map_congr_left]
theorem yz{bN}{cx}{a}:(iY bN cx a).1=a.1:=by unfold iY hD;split<;>rfl
theorem Df{bN}{cx}{S}:List.Sublist (iY bN cx S).2 S.2:=by unfold iY hD;split<;>simp
def MF{bN}{cx}{Z}{a}(b:a∈fl bN cx Z):∃d∈Z,a=iY bN cx d/\a.2≠[]:=by unfold fl at b;grind
def KO{bN}{cx}:∀a:m b',List.Sublist (ct (fl bN cx a)) (ct a)
 |[]=>.refl _
 |d::a=>by
  have b:=KO (bN:=bN) (cx:=cx) a;unfold fl ct at *;rw[mf,so,sl];split
  .rw[sl];exact(Df.map _).append b
  grind
def j0.step{p}(b:j0 h p):j0 h (jv p):=by
 unfold jv;split
 .exact b
 rename_i bN y m;have s:=b.gl;have r:=b.ha;rw[m]at s r;have w:∀d∈p.1.2.1,en h d (fl bN p.2.1 p.1.1)=en h d p.1.1:=λd i=>ab8 λo e=>JB (b.gn d i o e) _;refine⟨⟨λx t=>?_,?_,b.ay.sublist (KO _),λd i=>?_,b.cI,b.key,b.dB,?_⟩,b.gn,λo e=>?_,(iG.1 r).2⟩
 .obtain⟨S,j,rfl,q⟩:=MF t;have g:=b.cr S j;have k:=Df (bN:=bN) (cx:=p.2.1) (S:=S);refine⟨by rw[yz];exact g.cZ,g.key,⟨AP.2 q,fQ k.length_le g.len.2⟩,λd i=>g.gA d (k.subset i),g.h9.sublist k⟩
 .show (fl bN p.2.1 p.1.1).Pairwise _;unfold fl;refine List.Pairwise.filter _ (rf.2 (b.cG.imp λu=>?_));grind[yz]
 .have:=b.aZ d i;grind
 .show (c (fl bN p.2.1 p.1.1))<=20;have:c (fl bN p.2.1 p.1.1)<=c p.1.1:=by unfold fl;grind
  exact fQ this b.len
 obtain⟨S,j,rfl⟩:=s o (mh _ e);have q:S.1≠bN:=by grind[List.pairwise_cons]
 refine⟨S,?_,a⟩;show S∈fl bN p.2.1 p.1.1;unfold fl;refine jd.2 ⟨hn.2 ⟨S,j,by unfold iY;grind⟩,?_⟩;have:=(b.cr S j).len.1;grind
def oI{o}(i:dM o=l):q9 o:=by
 obtain⟨k,_,_,t⟩:=zE.1 i;have q:∀a∈o,dV a.2=l/\c a.2<=40:=λa d=>by have:=(k a d).2;simp[fL,ck,bw]at this;grind
 refine⟨by omega,λa d=>⟨(q a d).1,by grind⟩,?_⟩;have:∀b:m cM,(∀a∈b,c a.2<=40)->c (eR b)<=40*c b:=by
  intro b;induction b with
  |nil=>exact bE
  |cons a u j=>
   intro e;have g:=j λh p=>e h (mh _ p);have r:=e a ir;have s:=vK a.2;simp[eR,sl,dk,fh]at g⊢;omega
 grind
theorem Z_(bN h)(Z):(jQ bN h Z).2.length=c Z:=Ds h Z
def xf{d:m eh}:∀a,d.Pairwise (λa g=>a.1<g.1)->(∀b∈d,a<=b.1/\b.1<=20)->(c d:Int)<=max 0 (21-a):=by
 induction d with
 |nil=>grind
 |cons b r h=>
  intro a k e;obtain⟨p,i⟩:=iG.1 k;have q:=e b ir;have:=h (b.1+1) i λo j=>⟨by grind,(e o (mh _ j)).2⟩
  grind
def Lh(h):∀j a(b:m bA),(∀g∈b,cB g=l)->∀k∈f' h j a b,∃i d,a<=i/\i<a+c (f' h j a b)/\0<c d/\c d<=4/\(∀g∈d,cB g=l)/\k=jQ i h d
 |0,_,_,_,k,e=>by exact bE
 |j+1,a,b,o,k,e=>by
  simp only[f']at e⊢;split at e
  .rename_i q;rw[bo q];rcases e9.1 e with rfl|e
   .grind
   obtain⟨i,d,s,r,t⟩:=Lh h j (a+1) (b.drop 4) (λg p=>o g (pV p)) k e;grind
  grind
def CX{a:m α}(d:c a≠0)(b:α):a.getD (c a-1) b∈a:=mx w b
def DL(h):∀g a(b:m bA),∀e∈f' h g a b,a<=e.1
 |0,_,_,e,d=>by exact bE
 |g+1,a,b,e,d=>by
  simp only[f']at d;split at d
  .rcases e9.1 d with rfl|d
   .exact Int.le_refl _
   have:=DL h g (a+1) (b.drop 4) e d;omega
  grind
def Le(h):∀(d:Nat) (a:Int)(b:m bA),(f' h d a b).Pairwise λe g=>e.1<g.1
 |0,_,_=>by simp[f']
 |d+1,a,b=>by
  simp[f'];split
  .refine iG.2 ⟨λj i=>?_,Le h d (a+1) (b.drop 4)⟩;have:=DL h d (a+1) (b.drop 4) j i;exact bE
  simp
theorem Z7{d}{e a}(b:a∈fB d e):a=e∨a∈d:=by
 induction d with
 |nil=>simp[fB]at b;grind
 |cons i h g=>
  simp only[fB]at b;grind
def Z6{Z}{d}(e:d∈h8 h Z):∃a∈Z,d=(dW h a,fK a):=by
 have key:∀(Z:m bA) b,d∈Z.foldl (λg a=>fB g (dW h a,fK a)) b->d∈b∨∃a∈Z,d=(dW h a,fK a):=by
  intro Z;induction Z with
  |nil=>grind
  |cons a j i=>
   grind[Z7]
 rcases key Z [] e with e|e
 .cases e
 grind
def CH{Z}{j}{b}(d:dg h Z j=f b):cB b=l/\dW h b=j/\j∈ct Z:=by
 unfold dg at d;obtain⟨nF,k,a⟩:=List.exists_of_findSome?_eq_some d;unfold fS at a;split at a
 .rename_i e i;have m:e.1=j:=N4;have g:=wQ i;unfold iM hE at a;refine⟨by grind,by grind,rh.2 ⟨nF,k,hn.2 ⟨e,g,m⟩⟩⟩
 cases a
def JA{Z}{j}(p:ce h=l)(i:∀b∈Z,nU h b)(o:j∈ct Z):∃b,dg h Z j=f b:=by
 obtain⟨nF,e,m⟩:=rh.1 o;obtain⟨s,r,t⟩:=hn.1 m;cases k:dg h Z j with
 |some b=>simp
 |none=>
  have d:fS h nF j=n:=List.findSome?_eq_none_iff.1 k nF e;unfold fS at d;split at d
  .rename_i g a;have u:g.1=j:=by simpa using List.find?_some a
   have q:=(i nF e).gA g (wQ a);unfold right at q;unfold iM at d;grind
  rename_i a;have:=us.1 a s r;grind
def YG{Z cR}(a:ce h=l)(e:∀b∈Z,nU h b)(q:∀j∈ct cR,j∈ct Z){j}{b}(p:dg h cR j=f b):dg h Z j=f b:=by obtain⟨i,k,o⟩:=CH p;obtain⟨r,d⟩:=JA a e (q j o);obtain⟨g,m,_⟩:=CH d;rw[d,yL a i g (k.trans m.symm)]
def YH{Z cR}(q:∀a(g:bA),dg h cR a=f g->dg h Z a=f g){b}{j}(k:fI h cR b=f j):fI h Z b=f j:=by
 have key:∀e,g2 h cR b.2=f e->g2 h Z b.2=f e:=by
  intro e d;unfold g2 at *;split at d
  .rename_i i;cases d;have p:∀a∈b.2,dg h Z a=dg h cR a:=λa m=>by have:=aX.1 i a m;obtain⟨g,o⟩:=Ax.1 this;simp_all
   simp_all
  cases d
 unfold fI at *;split at k
 .cases k
 simp_all
def ab'{Z cR}(k:∀i(j:bA),dg h cR i=f j->dg h Z i=f j){a}{o}(d:en h a cR=f o):en h a Z=f o:=by
 unfold en at *;split at d
 .rename_i s;cases d;simp only[ck]at s;have m:∀b∈a.2,fI h Z b=fI h cR b:=λb g=>by obtain⟨p,e⟩:=Ax.1 (aX.1 s.1.2 b g);rw[e,YH k e]
  have q:fk h Z a.2=fk h cR a.2:=p5 λb g=>by simp_all
  simp_all
 cases d
section
variable {q:af T}
structure oP(b:cd):Prop where
 size:dI b
 hB:b.1.Pairwise λx i=>x.1<i.1
 num:∀F∈b.2.1,-4000000<=F.1/\F.1<=4000000
 aJ:∀F∈b.2.2,1<=F.1/\F.1<=2
def J5{b}(i:oP b)(d):(∃a r,sb b d a r)∨pP b d:=by
 by_cases h:pP b d
 .exact .inr h
 refine .inl ?_;simp only[pP,Classical.not_forall,Classical.not_not]at h;obtain⟨a,e,k,u,x⟩:=h;refine⟨a,d.2.2.1.toNat,e,k,λg j t o=>?_,by omega,by omega⟩;have q:b.1.getD a (0,[])=b.1[a]:=M;have p:b.1.getD g (0,[])=b.1[g]:=M;rw[q]at k;rw[p]at o;rcases dT g a with m|s
 .have:=m8.1 i.hB g a j e m;omega
 have:=m8.1 i.hB a g e j w;omega
structure RM(q:af T)(b:cd)(d:dH)(aA:cd):Prop where
 eN:dI aA
 cC:X q 63 [bW b,er d] [] (bW aA) []
 c_:X q 77 [bW b,er d] [] (bW aA) []
theorem K5{d}(g:kO d (c d)=l):(∀b∈d,fW b=l)/\d.Pairwise λb h=>b.1<h.1:=by
 have i:=fZ.1 g;have j:∀a,a<c d->∀e,e<a->(d.getD e (0,0)).1<(d.getD a (0,0)).1:=by
  intro a;induction a with
  |zero=>grind
  |succ a k=>
   grind
 grind[List.getElem_of_mem,List.pairwise_iff_getElem]
def YN(d):∀a:m fg,(a++d).Pairwise (λb e=>b.1<e.1)->d.foldl d' a=a++d:=by
 induction d with
 |nil=>grind
 |cons b h g=>
  grind[aa4]
def ad2{d}(g:kO d (c d)=l)(j):(i4 d).find j=iU d j:=by obtain⟨a,b⟩:=Nb d .nil bE;have e:=YN d [] (by grind[K5]);rw[i4,CM b,a];exact eD (iU · j) e
def Nd{o}(d:dM o=l):∀a∈o,fL a.2=l:=λa b=>((zE.1 d).1 a b).2
abbrev Ir(a:m bA):y:=.n (.Q (.x 2 1 (c a) (bR.fn a)))
def XK(A C)(h)(o)(d)(k:ce h=l)(z:dM o=l)(N:kO d (c d)=l)(ae:c d<=4000000):
  X q 173 [Q h,bu.B o,a3.B d] (ii A C) (bR.B (fV h o d)) (ii A C):=by
 refine X.J func173 rfl λaM=>?_;have P:a_ q [(52,dc c1 (λh=>bf (ce h)) λ_=>[]),(54,rm),(211,dc (eK a3) (λd=>bf (kO d (c d))) λ_=>[])]:=.cons oG (.cons t54 (.cons (.a9 λd _=>VE d) .nil));refine be P [-15,-20,-25] a ?_ ?_
 .simp only[U,k,bu.l,a3.l,r2,z,N];exact⟨a,a3.U _,a,bu.U _,a⟩
 have G:=K5 N;have O:∀r∈d,a7 .i64 r.1/\a7 .i64 r.2:=λr a'=>by have:=G.1 r a';simp only[fW,ck,bw]at this;simp only[a7];omega
 have aY:=ad2 N;have af:=Jq (q:=q) d ae O;have V:∀m,X q 213 [ax (eN (i4 d)),Q m] [] (Q (iU d m)) []:=λm=>aY m▸UW (i4 d) m
 clear aY;generalize i4 d=F at *;have s:a_ q [(212,dU [qy d] (ax (eN F)))]:=.cons (ef af) .nil;cases F<;>(
  refine cU s a a (g.bG 8 9 1 a a ?_);refine g.dF 3 [0,7,29,30] (λb=>b<=c o) (λb:Nat=>[(8,Ir ((eR (o.take b)).foldl (e8 h d) [])),(31,Q b)]) (λb=>ii A C++[.x 9 1 (c ((eR (o.take b)).foldl (e8 h d) [])) (bR.fn ((eR (o.take b)).foldl (e8 h d) []))]) (λb=>c o-b) 0 a ?_ a ?_ a w ?_
  .simp[eR]
  .simp[eR]
  intro b Z;by_cases Y:b<c o
  .have L:o.getD (b:Int).toNat bu.F=o.getD b ([],[]):=M;have I:o.getD b ([],[])∈o:=M;have ai:=Nd z _ I;have u:=Gq Y;have H:=Gp o (b+1);have E:=oI z;have W:=(E.fi _ I).1;have ag:=E.all;have ah:=E.len;have S:=vL W;generalize o.getD b ([],[])=i at *;rw[u,dk]at H;have T:k8 i.2=cm i.2:=by unfold k8;grind
   have t:a_ q [(192,dc eE (λaa=>bR.B (k8 aa)) λ_=>[])]:=.cons Ex .nil;refine be t [32] a bv ?_;rw[L,T];refine g.dF 4 [0,7,29,30,31,37,38] (λe=>e<=c (cm i.2)) (λe:Nat=>[(8,Ir ((eR (o.take b)++(cm i.2).take e).foldl (e8 h d) [])),(39,Q e)]) (λe=>ii A C++[.x 9 1 (c ((eR (o.take b)++(cm i.2).take e).foldl (e8 h d) [])) (bR.fn ((eR (o.take b)++(cm i.2).take e).foldl (e8 h d) [])),.cells 45 [.c (.T i.1),.c (.T i.2)]]) (λe=>c (cm i.2)-e) 0 a D a D a w ?_;intro e al;have y:=CU h d (eR (o.take b)++(cm i.2).take e) [];simp only[gK,dk,List.length_take]at y;by_cases aj:e<c (cm i.2)
   .have ab:(cm i.2).getD (e:Int).toNat bR.F=(cm i.2).getD e []:=M;have R:cB ((cm i.2).getD e [])=l:=S _ M;have x:(eR (o.take b)++(cm i.2).take (e+1)).foldl (e8 h d) []=e8 h d ((eR (o.take b)++(cm i.2).take e).foldl (e8 h d) []) ((cm i.2).getD e []):=ig;generalize(eR (o.take b)++(cm i.2).take e).foldl (e8 h d) []=dw at *;generalize(cm i.2).getD e []=p at *;have a':=bR.aX dw p;refine bL [40] a bv ?_;rw[ab];refine g.aB (Cp A C h p k R) [0,1] a (g.aB (V _) [] a ?_);have j:a_ q [(215,G')]:=.cons adc .nil;by_cases K:iU d (dW h p)=0
    .cases au:dw.contains p with
     |true=>
      rw[e8,bj M]at x;refine be j [49,-54] a ?_ (g.av (e+1) a ?_ ?_ ?_ ?_)
      .simp only[U,K,au,a7,bR.l,gi,bw,ba,a9];exact P6
      .rw[x];simp
      .rw[x];simp
      .grind
      omega
     |false=>
      rw[e8,bo M]at x;refine be j [49,54] a ?_ (g.av (e+1) a ?_ ?_ ?_ ?_)
      .simp only[U,K,au,a7,show sW.bytes=16 from a,bR.l,gi,bw,ba,a9];exact P6
      .exact QF
      .exact QF
      .grind
      omega
    rw[e8,bj M]at x;refine be j [-49] a bE (g.av (e+1) a ?_ ?_ ?_ ?_)
    .rw[x];simp
    .rw[x];simp
    .grind
    omega
   have J:e=c (cm i.2):=w;refine bL [-40] a bv (g.az ?_);refine cz a bE (g.av (b+1) a ?_ ?_ ?_ ?_)
   .rw[u,J,c6];simp
   .rw[u,J,c6];simp
   .grind
   omega
  .obtain rfl:b=c o:=w;rw[c6];refine bL [-32] a D (g.az ?_)
   refine cz a B (g.aH [0,1] a ?_ ql);simp[fV,eR])
abbrev adB(a:b'×Bool):y:=.S [.agg [.c (.int .i64 a.1.1),.c (.B v 2 (c a.1.2) (bG.fn a.1.2))],.Q (.c (.bool a.2))]
def gD(b:Int)(a:bA):cW:=(dW b a,fK a)
def tf(a d:Int)(b:m bA):b':=(a,l6 (b.map (gD d)))
def l2(a d:Int)(b:m bA):b'×Bool:=if h' d (tf a d b)=l then(tf a d b,l)else((0,[]),v)
theorem y5:∀b a,c (b.foldl hF a)=c a+c b
 |[],a=>by simp
 |d::b,a=>by rw[iI,y5 b,LI,fh];omega
def Nm:∀d{b:m cW}{e:Nat},gu b->e<c b->gu (i5 d b e)
 |0,_,_,a,_=>a
 |d+1,b,e,a,g=>by
  rw[i5];split
  .exact a
  split
  .exact Nm d (tE a w g) pK
  grind
theorem aaX{d}{a}(e:gu d)(i:a7 .i64 a.1/\c a.2<=9223372036854775807):gu (hF d a):=by
 refine Nm _ (λh g=>?_) D;rcases fx.1 g with b|b
 .exact e h b
 grind
def aaO{d}(a:gu d)(b:0<c d):gu (hc d):=
 Cb _ _ (tE a b w) pK pK
theorem KH{a}(b:cB a=l):a7 .i64 (gD h a).1/\(gD h a).2.length<=9223372036854775807:=by
 have d:=b;simp only[cB,ck,bw]at d;have e:=sq (gj a*(2*h+1)+h*7919) (show(999999999989:Int)≠0 by decide);have g:=sk (gj a*(2*h+1)+h*7919) (show(0:Int)<999999999989 by decide);refine⟨?_,?_⟩
 .show a7 .i64 (dW h a);simp only[a7,dW];omega
 show c (fK a)<=_;unfold fK fa;grind
def Ki(h)(a:m bA)(g:∀d∈a,cB d=l):gu ((a.map (gD h)).foldl hF []):=by
 have:∀(b:m bA) e,(∀d∈b,cB d=l)->gu e->gu ((b.map (gD h)).foldl hF e):=by
  intro b;induction b with
  |nil=>grind
  |cons d j i=>grind[aaX,KH]
 exact this a [] g (by simp[gu])
abbrev Ly(e d:al×Y)(g:Nat)(a:fp)(b:m cW):m aq:=ii e d++[.cells 80 [.c (.int .i64 0),.c (.B l 0 0 λ_=>[])],is g a (c b),aJ a (c b) b]
abbrev DN(b:Int)(a:m cW):m aq:=[.cells 80 [.c (.int .i64 b),.x 6 2 (c a) (bG.fn a)],.x 114 2 (c a) (bG.fn a)]
def Jb(s r:al×Y)(bN h)(Z)(H:a7 .i64 bN)(bX:ce h=l)(K:∀t∈Z,cB t=l)(aw:c Z<=4):
  X q 175 [Q bN,Q h,bR.B Z] (ii s r) (adB (l2 bN h Z)) (ii s r):=by
 refine X.bg bb func175 rfl rfl rfl λav=>?_;refine bL [902] a B (g.jF 8 3 114 2 a a λp an=>?_);refine cz a B (g.dF 5 [0,1,6,8,14,15] (λi:Nat×fp=>i.1<=c Z) (λi=>[(16,Q i.1)]) (λi=>Ly s r p i.2 (((Z.take i.1).map (gD h)).foldl hF [])) (λi=>c Z-i.1) (0,.nil an) a D a ?_ a w ?_)
 .simp[gB]
 rintro⟨e,bO⟩ J;simp only at J;by_cases o:e<c Z
 .have G:Z.getD (e:Int).toNat bR.F=Z.getD e []:=M;have ab:cB (Z.getD e [])=l:=K _ M;have L:((Z.take (e+1)).map (gD h)).foldl hF []=hF (((Z.take e).map (gD h)).foldl hF []) (gD h (Z.getD e [])):=ig;have ao:c (((Z.take e).map (gD h)).foldl hF [])=e:=by grind[y5]
  have I:=Ki h (Z.take e) λt S=>K t (gY S);generalize Z.getD e []=t at *;generalize((Z.take e).map (gD h)).foldl hF []=d at *;refine be (.cons zx .nil:a_ q [(219,lH)]) [17] a bv ?_;rw[G];refine g.aB (Cp s r h t bX ab) [0,1] a (cU (.cons zx .nil:a_ q [(219,lH)]) a B (g.a2 (Vi p bO I w (F:=gD h t) (KH ab)) [3,4] a bn λR=>?_));have aa:=LI d (gD h t);refine cz a bE (g.av (e+1,R) a D ds M ?_);grind
 obtain rfl:e=c Z:=w;rw[c6];refine bL [-17] a D (g.az ?_);have au:c ((Z.map (gD h)).foldl hF [])<=4:=by grind[y5]
 have I:=Ki h Z K;have af:l6 (Z.map (gD h))=[]++kQ (c ((Z.map (gD h)).foldl hF [])) ((Z.map (gD h)).foldl hF []):=by rw[l6,y5,p1,gK,cX]
 refine cz a B (g.cq 5 1 114 2 (bG.fn []) a a ?_);refine g.dF 7 [1,6,8,11] (λi:m cW×fp×m cW=>gu i.1/\c i.1+c i.2.2<=4/\l6 (Z.map (gD h))=i.2.2++kQ (c i.1) i.1) (λi=>[]) (λi=>Ly s r p i.2.1 i.1++DN bN i.2.2) (λi=>c i.1) ((Z.map (gD h)).foldl hF [],bO,[]) a D a D a ⟨I,by grind,af⟩ ?_;rintro⟨o,bO,b⟩ ⟨O,ag,A⟩;simp only at O ag A;refine cz a B (g.aK (a1.dT a a) a a ?_);refine g.Q (aZ.eE bb 3 a a a a a (tz bO _) a) a ?_;refine g.aB (Ci bO (c o) o) [4] a ?_;by_cases aj:c o=0
 .rw[aj,kQ,h1]at A;subst A;refine bL [-37] a ds (g.az ?_);have T:a_ q [(166,BD)]:=.cons MV .nil;have ar:c (l6 (Z.map (gD h)))<=4:=w;cases ae:h' h (tf bN h Z)with
  |false=>
   have x:h' h (bN,l6 (Z.map (gD h)))=v:=ae;have E:l2 bN h Z=((0,[]),v):=by unfold l2;grind
   rw[E];refine be T [50] a Q_ (g.b' () [0,1] ?_ ql);simp
  |true=>
   have x:h' h (bN,l6 (Z.map (gD h)))=l:=ae;have E:l2 bN h Z=(tf bN h Z,l):=by unfold l2;grind
   rw[E];refine be T [-50] a Q_ (g.b' () [0,1] ?_ ql);simp[tf]
 obtain⟨j,z⟩:∃j,c o=j+1:=⟨c o-1,by omega⟩
 refine bL [37,909] a bv (g.iM (JZ (e:=4) (j:=c o) (bO:=bO) (d:=o) a w) λP=>?_);obtain⟨u,k,rfl,V⟩:=P;rw[z]at V;have S:=Vh (q:=q) p u k O z w V;have ai:=aaO O w;have aa:c ((hc o).take j)=j:=by grind[Lz]
 have aM:l6 (Z.map (gD h))=(b++[(hc o).getD j (0,[])])++kQ j ((hc o).take j):=by rw[A,z,kQ,bj w,z];simp
 have aq:gu ((hc o).take j):=λF C=>ai F (gY C);show g q _ _ _ _ _ (ii s r++[.cells 80 [.c (.int .i64 0),.c (.B l 0 0 λ_=>[])],is p (.row u k) (c o),aJ (.row u k) (c o) o]++DN bN b);rw[z];generalize(hc o).getD j (0,[])=F at *;generalize(hc o).take j=W at *;refine g.eI (ι:=Unit) b6 4 7 10 (λh=>ay h 3) (λh=>([aI 5 1,.n (.Q (.x 6 2 (c b) (bG.fn b))),g8 (.pointer (f ⟨p,0,n⟩)),sI p]:m y).getD h .any) (λ_ h=>([.any,.any,.any,.any,sH F,xS F,ax (.B l 2 1 λe=>([[.int .i64 F.1,.T F.2]]:m (m N)).getD e [])]:m y).getD h .any)
  (λ_=>ii s r++[.cells 80 [.c (.int .i64 0),.c (.B l 0 0 λ_=>[])],is p (.row u k) j,aJ (.row u k) j W]++DN bN b)
  rfl rfl rfl rfl rfl rfl rfl (λh o=>by have:=fs o;omega) rfl
  ⟨aZ.w,aZ.w,aZ.w,aZ.w,B,B,B,B,B,B,B⟩
  (λ_=>⟨aZ.w,aZ.w,aZ.w,aZ.w,B,aZ.a0 (jW a) (a1.f' (ah:=[.int .i64 F.1,.T F.2]) bb a a a a),aZ.w,B⟩)
  (dX.d' S.tocH [3,4] a a a a a a a bn a bn) λ_=>?_
 have C:=bG.aX b F;refine cz a ?_ (g.av (W,.row u k,b++[F]) a ?_ ?_ ?_ ?_)
 .simp only[U,show mA.bytes=24 from a,ba];omega
 .simp
 .simp only[aa,U.X,U,dk,fh,gK,ba,a9];and_intros<;>first|exact bs.same|exact C|rfl
 .grind
 grind
abbrev adL(a:eh):y:=.S [.agg [.c (.int .i64 a.1),.c (.B v 2 (c a.2) (cw.fn a.2))],.Q (.c (.bool l))]
abbrev Mu(e d:al×Y)(b:Int)(a:m m2):m aq:=ii e d++[.cells 84 [.c (.int .i64 0),.c (.B l 0 0 λ_=>[])],.cells 84 [.c (.int .i64 b),.x 4 2 (c a) (cw.fn a)],.x 116 2 (c a) (cw.fn a)]
abbrev aca(b:cM)(a:m Int):m aq:=[.cells 45 [.c (.T b.1),.c (.T b.2)],.cells 116 [.c (.T b.1),.x 7 1 (c a) (az.fn a)],.x 3 1 (c a) (az.fn a)]
def XL(C p)(bN h)(o)(ah:1<=bN/\bN<=99)(r:ce h=l)(x:dM o=l):
  X q 176 [Q bN,Q h,bu.B o] (ii C p) (adL (fD bN h o)) (ii C p):=by
 refine X.bg bb func176 rfl rfl rfl λae=>?_;have G:a_ q [(52,dc c1 (λh=>bf (ce h)) λ_=>[]),(54,rm)]:=.cons oG (.cons t54 .nil);refine be G [-15,-19,-24,-29] a ?_ ?_
 .simp only[U,r,bu.l,r2,x,dp];and_intros<;>first|exact bu.U _|rfl|omega
 refine g.cq 3 1 116 2 (cw.fn []) a a ?_;refine g.dF 5 [1,6,8,33,34] (λb=>b<=c o) (λb:Nat=>[(35,Q b)]) (λb=>Mu C p bN (om h (o.take b))) (λb=>c o-b) 0 a D a D a w ?_;intro b K;by_cases ag:b<c o
 .have Z:o.getD (b:Int).toNat bu.F=o.getD b ([],[]):=M;have z:o.getD b ([],[])∈o:=M;have E:=oI x;have I:=E.fi _ z;have ab:=Nd x _ z;have y:=E.len;have T:=vL I.1;have aa:=vK (o.getD b ([],[])).2;have A:om h (o.take (b+1))=om h (o.take b)++[kM h (o.getD b ([],[]))]:=ig;have R:c (om h (o.take b))=b:=M;generalize o.getD b ([],[])=d at *;generalize om h (o.take b)=i at *;have Y:k8 d.2=cm d.2:=by unfold k8;grind
  have u:a_ q [(192,dc eE (λV=>bR.B (k8 V)) λ_=>[])]:=.cons Ex .nil;refine be u [36] a bv ?_;rw[Z,Y];refine g.cq 6 1 3 1 (az.fn []) a a ?_;refine g.dF 8 [1,6,8,10,11,33,34,35,44,45] (λe=>e<=c (cm d.2)) (λe:Nat=>[(46,Q e)]) (λe=>Mu C p bN i++aca d (km h ((cm d.2).take e))) (λe=>c (cm d.2)-e) 0 a D a D a w ?_;intro e L;by_cases af:e<c (cm d.2)
  .have j:(cm d.2).getD (e:Int).toNat bR.F=(cm d.2).getD e []:=M;have S:cB ((cm d.2).getD e [])=l:=T _ M;have O:km h ((cm d.2).take (e+1))=km h ((cm d.2).take e)++[dW h ((cm d.2).getD e [])]:=ig;have H:c (km h ((cm d.2).take e))=e:=M;generalize(cm d.2).getD e []=s at *;generalize km h ((cm d.2).take e)=k at *;have t:=az.aX k (dW h s);refine bL [47,911] a bv ?_
   rw[j];refine g.gd b6 [aI 6 1,.n (.Q (.x 7 1 (c k) (az.fn k))),Q h,b1 s,Q (dW h s),ax (.B l 1 1 λb=>([[.int .i64 (dW h s)]]:m (m N)).getD b [])] 6 a a a a a ⟨aZ.w,aZ.w,aZ.w,aZ.w,
    aZ.ey (dX.d' (Cp C p h s r S).tocH [0,1] a a a a a a a bn a bn),aZ.w,B⟩ ?_
   refine cz a ?_ (g.av (e+1) a ?_ ?_ ?_ ?_)
   .simp only[U,a7,show d8.bytes=8 from a,ba,a9];exact fv
   .simp
   .simp only[O,U.X,U,dk,fh,gK,ba,a9];and_intros<;>first|exact bs.same|exactλ_ _=>rfl|exact t|rfl|omega
   .grind
   omega
  have W:e=c (cm d.2):=w;rw[W,c6];have t:=cw.aX i (kM h d);have F:c i+1=c (i++[kM h d]):=D;have J:cw.a7 (kM h d)=[N.T d.1,N.B v 1 (c (km h (cm d.2))) (az.fn (km h (cm d.2)))]:=rfl;rw[J,<-A]at t;rw[<-A]at F;refine bL [-47] a D (g.az ?_);refine cz a Rb (g.av (b+1) a D ?_ ?_ ?_)
  .simp only[U.X,U,ba,a9];and_intros<;>first|exact bs.same|exact t|exact F|rfl
  .grind
  omega
 obtain rfl:b=c o:=w;rw[c6];refine bL [-36] a D (g.az ?_);refine cz a B (g.b' () [0,1] ?_ ql);simp[fD]
end
section
variable {q:af T}[q.bX]
abbrev F1(b:Nat):={a:m cM×Nat // dM a.1=l/\b<=a.2/\a.2<=b+400}
end
section
variable {q:af T}
set_option maxRecDepth 20000 in
def WT(A)(b:Nat->Int)(j:Bytes b)(e:Nat)(h:e<=4000000)(i:A<=1048576)(d)(o:1<=c d/\c d<=1000):
  X q 71 [aI 0 0,bR.B d] [e1 A b e] (b1 (d.getD (qH A b e (c d)).toNat [])) [e1 A b (e+1)]:=by refine X.J func71 rfl λk=>?_;refine aW a B (g.aB (Je A b j e (c d) h i w) [0] a ?_);have m:=Lp A b e (c d) w;exact aW a bQ (g.aH [0] a oM kI)
end
end R1
def bk.die{E:af P}{I}{args}{W h}{F:Nat->m N}{p}{q:ι->Nat->m N}{S:ι->Nat}(J:bk E I args [.q W h j F] (λ_=>cC 0 p) (λA=>[.q W h (S A) (q A)])):X E I args [.q W h j F] (cC 0 p) [.M]:=
 ⟨J.1,λT z y w Q o u=>J.2 T z y w Q o λA r K i x d g b=>u r K i x (by
  obtain⟨D,e,_,_⟩:cA _ _ _ (.O 0 p):=d;exact(⟨D,e,by simp,λ_ _ _ _ R=>by grind⟩:cA [.M] i K (.O 0 p))) g.dY
  ⟨b.size,b.a3,b.mem,b.bz,b.bR,λC M L aJ t=>by
   obtain⟨O,k,e,s,U⟩:=b.box C M L aJ t;cases C with
   |zero=>simp at aJ;subst aJ;exact⟨.M,k,a,s,B⟩
   |succ C=>grind,b.os,b.tape,b.output,b.own⟩⟩
namespace R1
variable {q:af T}
def IV(b):X q 66 [B8 b] [] (bf (hs b)) []:=by
 refine X.J func66 rfl λi=>?_;have d:a_ q []:=.nil;unfold hs;by_cases e:b.1=1
 .by_cases jI:1<=b.2
  .exact a8 d [6,11,16] a bv (g.ao a ds)
  exact a8 d [6,11,-16] a bv (g.ao a t0)
 by_cases h:b.1=2
 .by_cases jI:1<=b.2
  .exact a8 d [-6,11,16] a bv (g.ao a ds)
  exact a8 d [-6,11,-16] a bv (g.ao a t0)
 exact a8 d [-6,-11,-16] a bv (g.ao a bv)
def Wr(b):X q 65 [B8 b] [] (bf (!hs b)) []:=by refine X.J func65 rfl λe=>?_;have d:a_ q [(66,dc sf (λb=>bf (hs b)) λ_=>[])]:=.cons (.a9 λb _=>IV b) .nil;exact b8 d a B (g.ao a)
def ZO(d):gC d=(decide (c d<=9)&&!d.any λa=>!hs a):=by
 have:(aB (c d)).all (λb=>hs (d.getD b (0,0)))=!d.any λa=>!hs a:=by rw[oX,fZ,jc,List.any_eq_false];grind[List.mem_iff_getElem]
 rw[gC,this,Bool.and_comm]
def Ws(d):X q 37 [a3.B d] [] (bf (gC d)) []:=by
 refine X.J func37 rfl λi=>?_;have e:=U9 (q:=q) d 65 (λt=>!hs t) λh _=>Wr h;have b:a_ q [(64,dU [a3.B d,ax (.fn (.func 65) [] [])] (bf (d.any λt=>!hs t)))]:=.cons (ef e) .nil;rw[ZO];by_cases t:c d<=9
 .exact a8 b [6] a ⟨a,fi w⟩ (g.ao a gH)
 exact a8 b [-6] a bQ (g.ao a bv)
def tG:bK q 37 n4:=.a9 λa _=>Ws a
def WZ(d)(k:c d.2<=4000000):X q 205 [fH d] [] (az.B (d.2.map (·.1))) []:=by
 refine X.J func205 rfl λm=>?_;refine a5 [902] a B (g.bG 3 3 1 a a ?_);refine aW a B (g.aC 2 (λb=>b<=c d.2) (λb:Nat=>[(1,aI 0 0),(3,.n (.Q (.x 1 1 b (az.fn ((d.2.take b).map (·.1)))))),(7,bG.B d.2),(8,Q (c d.2)),(9,Q b)]) (λb=>[xw d,.x 3 1 b (az.fn ((d.2.take b).map (·.1)))]) (λb=>c d.2-b) 0 a D a D a w ?_);intro b j;by_cases h:b<c d.2
 .have i:d.2.getD (b:Int).toNat bG.F=d9 d b:=M;have x:(d.2.take (b+1)).map (·.1)=(d.2.take b).map (·.1)++[(d9 d b).1]:=ig;have e:c ((d.2.take b).map (·.1))=b:=M;have aw:=az.aX ((d.2.take b).map (·.1)) (d9 d b).1;rw[e]at aw;refine a5 [10] a ?_ (g.av (b+1) a ?_ ?_ h w)
  .simp only[U,a7,show d8.bytes=8 from a];grind
  .exact Pm
  exact Pm
 obtain rfl:b=c d.2:=w;rw[c6];refine a5 [-10] a D (g.az ?_);exact ww
abbrev Hv:bI:=dc (jB bG) (λa=>az.B (a.2.map (·.1))) λa=>[c a.2<=4000000]
def adE:bK q 205 Hv:=.a9 λb a=>WZ b a
def aab(Z)(e):c (ct (Z.take e))<=c (ct Z):=by have:ct Z=ct (Z.take e)++ct (Z.drop e):=RG;grind
abbrev abr(a:m Int):y:=cC 0 (.B (c a) 1 0 (c a))
def Ja(Z)(p:∀i∈Z,c i.2<=4000000)(y:c (ct Z)<=4000000):X q 167 [a2.B Z] [] (abr (ct Z)) [jf (c (ct Z)) (ct Z)]:=by
 refine X.J func167 rfl λr=>?_;have u:=r.B 0 a;have d:a_ q [(205,Hv)]:=.cons adE .nil;refine a8 d [902] a B (g.e9 3 3 1 (az.fn []) a ?_);refine b8 d a B (g.aC 1 (λb=>b<=c Z) (λb:Nat=>[(3,cC 0 (.B (c (ct (Z.take b))) 1 0 (c (ct (Z.take b))))),(6,a2.B Z),(7,Q (c Z)),(8,Q b)]) (λb=>[jf (c (ct (Z.take b))) (ct (Z.take b))]) (λb=>c Z-b) 0 a E7 a (by simp[bs,ct]) a w ?_);intro b o;by_cases h:b<c Z
 .have C:Z.getD (b:Int).toNat a2.F=Z.getD b (0,[]):=M;have e:=KP h;have j:=aab Z (b+1);have x:=p _ (oe (O:=(0,[])) h);generalize Z.getD b (0,[])=i at *;rw[e]at j;generalize ct (Z.take b)=k at *;have m:=az.g6 k (i.2.map (·.1)) _ a;simp only[dk,kB]at j m;refine a8 d [9] a ?_ (g.av (b+1) a ?_ ?_ h w)
  .simp only[U,C,a7,bG.l,bG.U,kB,show d8.bytes=8 from a];grind
  .rw[e];simp only[U.X,U,C,bG.l,dk,kB,ba,a9];and_intros<;>first|exact bs.same|rfl|omega
  rw[e];simp only[U.X,U,C,bG.l,dk,kB,ba,a9];grind
 obtain rfl:b=c Z:=w;rw[c6];refine a8 d [-9] a D (g.az ?_);refine b8 d a B (g.aH [0] a ?_ (λt s=>absurd s D));simp
def WK(Z)(b:∀e∈Z,c e.2<=4000000)(d:c (ct Z)<=4000000):X q 167 [a2.B Z] [] (az.B (ct Z)) []:=
 X.bL (aS:=[]) (W:=3) (h:=1) (j:=c (ct Z)) (V:=az.fn (ct Z)) (Ja Z b d) a D a (bC _)
end R1
namespace R1
section
variable {q:af T}
def Ji(b):X q 124 [bW b] [] (bW b) []:=by refine X.bA func124 rfl rfl rfl λe=>?_;refine aW a D ?_;refine g.freeze 2 1 a a a ?_;exact g.b8 bb [] a D a a a (λh d=>absurd d D)
abbrev HB:bI:=dc o0 (λa=>bW a) λ_=>[]
def adK:bK q 124 HB:=.a9 λa _=>Ji a
abbrev zk(a:cd):aq:=.cells 169 [.c (.B v 2 (c a.1) (a2.fn a.1)),.c (.B v 2 (c a.2.1) (bg.fn a.2.1)),.c (.B v 2 (c a.2.2) (a3.fn a.2.2))]
structure nV(b:cd):Prop extends q_ b where
 cr:∀S∈b.1,c S.2<=4000000
 e_:c (ct b.1)<=4000000
def tg(b:Int)(a:cd):Bool:=(aB (c a.1)).all (nJ b a.1)&&decide (c a.1<=20)&&decide (ct a.1).Nodup
def W2(h)(b)(bX:ce h=l)(m:nV b):X q 125 [bW b,Q h] [] (bf (tg h b)) []:=by
 refine X.J func125 rfl λY=>?_;have y:=m.fJ;have S:=m.cr;have T:=WK (q:=q) b.1 m.cr m.e_;have p:a_ q [(166,BD)]:=.cons MV .nil;refine b8 p a B ?_;unfold tg;refine g.aC 1 (λe=>e<=c b.1/\∀C,C<e->nJ h b.1 C=l) (λe:Nat=>[(1,Q h),(2,aI 0 0),(9,a2.B b.1),(10,Q (c b.1)),(11,Q e)]) (λ_=>[zk b]) (λe=>c b.1-e) 0 a D a D a ⟨by omega,by omega⟩ ?_;rintro e ⟨K,u⟩;by_cases t:e<c b.1
 .have bz:b.1.getD e a2.F=b.1.getD e (0,[]):=rfl;have o:b.1.getD (e-1) a2.F=b.1.getD (e-1) (0,[]):=rfl;have x:nJ h b.1 e=(h' h (b.1.getD e (0,[]))&&j7 (·.1) (0,[]) b.1 e):=rfl;have I:=p7 (aj:=λs:b'=>s.1) (O:=(0,[])) (d:=b.1) (e:=e);have i:=S _ (oe (O:=(0,[])) t);generalize b.1.getD e (0,[])=s at *;generalize b.1.getD (e-1) (0,[])=z at *;cases r:h' h s with
  |false=>
   rw[r,sr]at x;refine a8 p [12,20,35] a ?_ (g.aT (bY.zero a ?_))
   .simp[-ak,bz,bX,i,r,bG.l,bG.U];omega
   rw[lG t x];simp
  |true=>
   rw[r,fP]at x;by_cases J:e=0
   .subst J;refine a8 p [12,-20,-23,-35] a ?_ (g.av 1 a D D ⟨t,je u bE⟩ w);simp[-ak,bz,bX,i,r,bG.l,bG.U,a7];omega
   have I:=I J;by_cases N:z.1<s.1
   .refine a8 p [12,-20,23,-33,-35] a ?_ (g.av (e+1) a D D ⟨t,je u M⟩ w);exact Qf
   refine a8 p [12,-20,23,33,35] a Qf (g.aT (bY.zero a ?_));exact jX
 obtain rfl:e=c b.1:=w;rw[fZ.2 u,fP];refine a8 p [-12] a D (g.az ?_);refine b8 p a B (g.aB (Ja b.1 m.cr m.e_) [] a (b8 p a B (g.aB (Cv (ct b.1) m.e_) [1] a ?_)));have W:=S' (ct b.1);have F:=(IM (q:=q) (jU (ct b.1)) (by rw[qM];exact m.e_)).die;rw[qM]at F;have V:=H0 (jU (ct b.1));rw[qM]at V;have R:=m.e_;generalize hN (jU (ct b.1))=j at *;generalize jU (ct b.1)=A at *;have hM:a_ q [(169,k4 [dJ (c (ct b.1))] [jf (c (ct b.1)) A] (cC 0 (.B (c (ct b.1)) 1 0 (c j))) [.M]),(167,dU [a2.B b.1] (az.B (ct b.1)))]:=.cons (l7 F) (.cons (ef T) .nil);refine a8 hM [909] a B ?_;by_cases aa:c b.1<=20
 rotate_left
 .refine a8 hM [-46] a bQ (g.ao a ?_);exact bv
 have E:(c b.1:Int)<=20:=w;generalize Z:ct b.1=k at *;refine g.dd (ι:=Unit) b6 6 (λe=>match ay e 5 with|true=>l|false=>match ad e 8 with|true=>l|false=>ad e 9) (λe=>[aI 0 0,a2.B b.1,Q (c b.1),bf (decide ((c b.1:Int)<=20)),bf l,cC 1 (.B (c k) 1 0 (c k)),.any,.any,aI 0 0,a2.B b.1].getD e .any)
  (λ_ e=>[.any,.any,.any,.any,.any,.any,cC 1 (.B (c k) 1 0 (c j)),Q (c j),.any,.any,az.B k,Q (c k),bf ((c j:Int)==c k),bf ((c j:Int)==c k),bf ((c j:Int)==c k)].getD e .any) (λ_=>[zk b,.M]) a a a a a a ?_ ?_ ?_ ?_
 .exact⟨.w,.w,.w,.w,.eval bb hM (bh:=[46]) a (fi E),.w,B,B,.w,.w,B,B,B,B,B,B⟩
 .intro _;exact⟨.w,.w,.w,.w,.eval bb hM (bh:=[46]) a (fi E),.w,B,.w,.w,.w,.eval bb hM (bh:=[]) a a,.w,.w,.w,.w,B⟩
 .exact .de (ee bb hM (bh:=[]) (ap:=f [zk b,.M]) a ⟨a,a⟩)
 intro _;refine b8 hM a B (g.ao a ?_);have:((c j:Int)==c k)=decide k.Nodup:=M;exact bE
def ix:m (Int×Int)->N
 |[]=>.bo
 |a::b=>.R [.int .i64 a.1,.int .i64 a.2,ix b]
abbrev vY(a:m (Int×Int)):N:=.B v 2 (c a) (a3.fn a)
def T1(b:m (Int×Int)):X q 67 [a3.B b] [] (ax (.fn (.func 110) [] [.R [vY b]])) []:=by refine X.J func67 rfl λd=>?_;refine gp [] 5 a B ?_;refine g.freeze 1 0 a a a ?_;refine aW a B (g.ao a ?_);rfl
def T6(j:m (Int×Int))(x:c j<=4000000){d:Nat}{b:bJ}{o:Loop}{r:aq}(k:Nat->aq)(s:r=k (c j))(aJ:∀u,k u≠.bl)(e:∀h,h<c j->iE (ι:=Unit) q 1 [Q h,.n (.agg [.c (.int .i64 (j.getD h (0,0)).1),.c (.int .i64 (j.getD h (0,0)).2)])] [k (h+1),.loop d b o] l (λ_=>[k h,.loop d b o])):
  bk (ι:=Unit) q 110 [.n (.Q (.aM 1)),ax (.R [vY j])] [r,.loop d b o] (λ_=>.S []) (λ_=>[k 0,.loop d b o]):=by
 subst s;refine bk.bP func110 rfl rfl rfl (g.aO ?_);refine aW a tS ?_;show b3 q _ (.loop _) _ _ _;refine b3.loop (br:=Nat) (λi=>i<=c j) (λi=>[(0,.n (.Q (.aM 1))),(1,ax (.R [vY j])),(3,Q ((i:Int)-1))]) (λi=>[k i,.loop d b o]) (λi=>i) (c j) (bC _) (eH a D) a ?_;intro i p;rcases i with _|h
 .refine g.aO ?_;refine a5 [-8] a D (g.fD a a ?_);exact⟨(),.inr a,a,qE (aJ 0) (qE D a),[],.S [],[],a,a,a,B⟩
 have t:(((h+1:Nat):Int)-1)=(h:Int):=w;rw[t];refine g.aO ?_;refine a5 [8] a ?_ ?_
 .simp only[U,bw,ba,a9];omega
 refine g.yield (e h p) a a a a a a λ_=>?_;exact a5 [-18] a RB ⟨h,by omega,by omega,eH a D,a⟩
def Ix{a:m (Int×Int)}(b:e<c a):a.drop e=a.getD e (0,0)::a.drop (e+1):=FM
def I5(b:m (Int×Int))(i:c b<=4000000):X q 38 [a3.B b] [] (ax (ix b)) []:=by
 refine(bk.e4 (ι:=Unit) (ap:=λ_=>[]) (res:=λ_=>ax (ix b)) func38 rfl rfl rfl λo=>?_).toX;have e:a_ q [(67,dU [a3.B b] (ax (.fn (.func 110) [] [.R [vY b]])))]:=.cons (ef (T1 b)) .nil;refine de.seq (b3.bw (g.aO ?_));refine b8 e a B (de.seq (b3.bw (g.aO ?_)));refine b8 e a B (de.seq (de.seq (b3.bw (g.aO ?_))));refine b8 e a a (de.block ?_);have h:ix (b.drop (c b))=.bo:=by rw[uv];rfl
 refine de.rangeFunc (o3:=e' [.R [vY b]]) (b0.callee a) (T6 b i (λd=>.cells 90 [.c (ix (b.drop d))]) (by rw[h];rfl) D ?_) (λd=>⟨a,by simp⟩) λd=>⟨.normal,a,?_⟩
 .intro d bp;refine iE.cH (bq:=λ_=>[.cells 54 [.c (.int .i64 (b.getD d (0,0)).1),.c (.int .i64 (b.getD d (0,0)).2)],.M]) ?_ bn (λ_ u k aJ=>?_)
  .rw[Ix bp];generalize b.drop (d+1)=j;cases j<;>(
    refine iE.intro (u:=n) a a a a (g.aO ?_);refine aW a B ?_;refine⟨a,a,g.aO ?_⟩;refine gp [] 1 a B ?_;refine g.region ?_;refine gp [] 4 a B ?_;refine g.e3 13 3 a a a ?_;refine aW a B ?_;refine⟨a,a,(),jN a ?_⟩;simp[ix])
  .match u,aJ with
   |0,aJ=>cases aJ;exact .inl ⟨_,_,a,a⟩
   |1,aJ=>exact .inr (.inl aJ)
   |u+2,aJ=>simp at aJ
 .show de q _ _ _ _ _;refine b3.bw (g.aO ?_);rw[List.drop_zero];cases b<;>(
   refine aW a B ?_;refine g.ret ⟨(),bY.zero a ?_⟩;simp[ix])
abbrev ada(a:m (Int×Int))(b:Bool):y:=.S [.Q (.c (.B v 2 (c a) (a3.fn a))),.Q (.c (.bool b))]
def Wq(d)(b)(i:gC d=l)(j:hs b=l)(o:c d<=9):X q 177 [a3.B d,o6 b.1 b.2] [] (ada (if c d=9 then d else d++[b]) (decide (c d≠9))) []:=by
 refine X.J func177 rfl λm=>?_;have e:a_ q [(37,n4),(66,dc sf (λh=>bf (hs h)) λ_=>[])]:=.cons tG (.cons (.a9 λh _=>IV h) .nil);refine a8 e [-9,-14] a ?_ ?_
 .simp only[U,a3.l,i,j,ft,ba,a9];first|exact a3.U _|(and_intros<;>first|rfl|exact a3.U _)
 refine g.aB (IJ d w) [] a ?_;by_cases x:c d=9
 .exact a8 e [19] a oN OS
 refine a8 e [-19] a ?_ ?_
 .simp only[U,show vi.bytes=16 from a,eZ,ba,a9];exact qW
 have k:=a3.aX d b;refine g.fU (dD:=[(4,cC 1 (.B (c d+1) 2 0 (c d+1))),(5,bf l)]) (ap:=[.cells 54 [.c (.int .i64 b.1),.c (.int .i64 b.2)],.q 54 2 (c d+1) (a3.fn (d++[b]))]) ?_ a nN a bE;exact OS
def VW(d)(e:c d<=4000000):X q 209 [a2.B d] [] (Q (if c d=0 then 0 else(d.getD (c d-1) (0,[])).1)) []:=by
 refine X.J func209 rfl λh=>?_;by_cases t:c d=0
 .rw[bo t];exact a5 [5] a gH (g.ao a)
 have b:d.getD ((c d:Int)-1).toNat a2.F=d.getD (c d-1) (0,[]):=by rw[show((c d:Int)-1).toNat=c d-1 by omega];rfl
 rw[bj t];refine a5 [-5] a ?_ (g.ao a ds);simp only[U,b,a7,eZ,ba,a9];exact fv
def kK(a:Int)(d:m (Int×Int)):Int:=d.foldl (λa b=>max a (b.2+1)) a
def J1(d):∀a b:Int,kK (max a b) d=max a (kK b d):=by
 induction d with
 |nil=>intro a b;rfl
 |cons g e h=>
  intro a b;show kK (max (max a b) (g.2+1)) e=max a (kK (max b (g.2+1)) e);grind
def Y3{A}{d}(a:e<c d):kK A (d.take (e+1))=max (kK A (d.take e)) ((d.getD e (0,0)).2+1):=by unfold kK;grind[ie]
def ks(a:cd):Int:=if c a.2.1=0 then 1 else max 1 ((a.2.1.getD (c a.2.1-1) (0,[])).1+1)
def acl(b):kK (ks b) b.2.2=db b:=by
 unfold ks db;have a:kK 1 b.2.2=lS b.2.2:=rfl;split
 .exact a
 rw[show max 1 ((b.2.1.getD (c b.2.1-1) (0,[])).1+1)=max ((b.2.1.getD (c b.2.1-1) (0,[])).1+1) 1 by omega,J1,a];omega
def WO(b)(h:dI b)(O:mc b):X q 171 [bW b] [] (.S [.Q (.c (.int .i64 (di b))),.Q (.c (.int .i64 (db b)))]) []:=by
 refine X.J func171 rfl λF=>?_;have s:=h.aY;have I:=h.aZ;have R:=h.aJ;have J:1<=ks b/\ks b<=4000001:=by
  unfold ks;split
  .omega
  exact ON
 apply g.cg [(1,aI 0 0),(4,Q (ks b))] [jT b]
 .intro dw;by_cases e:c b.2.1=0
  .exact bL [-12,905] a ds (dw _ _ a (by simp[ks,e]))
  have E:=O.a' _ (mx (show c b.2.1-1<c b.2.1 by omega) (0,[]));have x:b.2.1.getD ((c b.2.1:Int)-1).toNat bg.F=b.2.1.getD (c b.2.1-1) (0,[]):=Ru;refine bL [12] a wl ?_;rw[x];refine g.aK (yE (ks b) a a a (by unfold ks;grind) bE) a a ?_;exact bL [905] a B ku
 refine cz a B (g.aC 1 (λd=>d<=c b.2.2) (λd:Nat=>[(1,aI 0 0),(4,Q (kK (ks b) (b.2.2.take d))),(24,a3.B b.2.2),(25,Q (c b.2.2)),(26,Q d)]) (λd=>[jT b]) (λd=>c b.2.2-d) 0 a ?_ a ?_ a w ?_)
 .simp[kK]
 .simp
 intro d o;have j:∀d,1<=kK (ks b) (b.2.2.take d)/\kK (ks b) (b.2.2.take d)<=4000001:=λd=>by have k:=sV (b.2.2.take d) λz C=>O.aJ z (gY C);have u:kK 1 (b.2.2.take d)=lS (b.2.2.take d):=rfl;rw[show ks b=max (ks b) 1 by omega,J1,u];omega
 have k:=j d;have K:=j (d+1);by_cases e:d<c b.2.2
 .have E:=O.aJ _ (mx e (0,0));have x:b.2.2.getD (d:Int).toNat a3.F=b.2.2.getD d (0,0):=M;have t:=Y3 (A:=ks b) e;refine bL [27] a wl ?_;rw[x];refine g.aK (yE (kK (ks b) (b.2.2.take (d+1))) a a a t.symm mX) a a ?_;refine cz a bE (g.av (d+1) a D ?_ e w);simp
 obtain rfl:d=c b.2.2:=w;rw[c6,acl]at k⊢;have i:di b=(if c b.1=0 then 0 else(b.1.getD (c b.1-1) (0,[])).1)+1:=by unfold di;split<;>rfl
 have m:-4000000<=di b-1/\di b-1<=4000000:=by
  rw[i];split
  .omega
  exact Q8
 have p:=VW (q:=q) b.1 s;have r:=Ji (q:=q) b;rw[i]at m⊢;generalize(if c b.1=0 then 0 else(b.1.getD (c b.1-1) (0,[])).1)=S at *;have y:a_ q [(124,dU [bW b] (bW b)),(209,dU [a2.B b.1] (Q S))]:=.cons (ef r) (.cons (ef p) .nil);refine bL [-27] a D (g.az ?_);refine cU y a ?_ (g.ao a);exact bE
abbrev qK(a:m bA):N:=.B v 1 (c a) (bR.fn a)
def Uf(d):X q 172 [bR.B d,Q 4] [] (ax (.fn (.func 210) [] [.R [qK d],.R [.int .i64 4]])) []:=by refine X.J func172 rfl λb=>?_;refine gp [] 6 a B ?_;refine g.freeze 2 0 a a a ?_;refine g.freeze 3 1 a a a ?_;exact a5 [-6] a D (g.ao a nN)
def gO(b:m bA)(a:Nat):m bA:=(b.drop (4*a)).take 4
def Ue(d)(W:c d<=4000000){i}{N0}{il}{x yC}(A)(T:A<=(c d+3) / 4)(e:Nat->m aq)(u)(Y:∀b,c (e b)=i)(R:∀b,jO (e b++[.loop N0 il x])=l)(K:jO (u++[.loop N0 il yC])=l)(h:∀b,b<A->4*b<c d->iE (ι:=Unit) q i [bR.B (gO d b)] (e b++[.loop N0 il x]) l (λ_=>e (b+1)++[.loop N0 il x]))(k:4*A<c d->iE (ι:=Unit) q i [bR.B (gO d A)] (e A++[.loop N0 il x]) v (λ_=>u++[.loop N0 il yC])):
  bk (ι:=Unit) q 210 [.n (.Q (.aM i)),ax (.R [qK d]),ax (.R [.int .i64 4])] (e 0++[.loop N0 il x]) (λ_=>.S []) (λ_=>if 4*A<c d then u++[.loop N0 il yC]else e A++[.loop N0 il x]):=by
 refine bk.bP func210 rfl rfl rfl (g.aO ?_);refine aW a B ?_;show b3 q _ (.loop _) _ _ _;refine b3.loop (br:=Nat) (λb=>b<=A) (λb=>[(0,.n (.Q (.aM i))),(1,ax (.R [qK d])),(2,ax (.R [.int .i64 4])),(4,Q (4*b:Nat))]) (λb=>e b++[.loop N0 il x]) (λb=>A-b) 0 (gZ _) ?_ a ?_
 .exact .cons a (eH a D)
 intro b F;refine g.aO ?_;by_cases o:4*b<c d
 .have C:U (jh (c d) (f ((4*b:Nat):Int)) n):=by simp only[jh,U];omega
  have J:bV (c d) n-bV 0 (f ((4*b:Nat):Int))=c d-4*b:=bE;refine a5 [9,903] a bv ?_;let t:Nat->y:=λp=>([Q 4,bR.B d,Q (4*b:Nat),ax (.B v 1 (bV (c d) n-bV 0 (f ((4*b:Nat):Int))) (fA (bV 0 (f ((4*b:Nat):Int))) (bR.fn d))),Q (bV (c d) n-bV 0 (f ((4*b:Nat):Int)):Nat),Q (min 4 (c d-4*b):Nat),Q (min 4 (c d-4*b):Nat)]:m y).getD p .any;refine g.cc b6 t (kJ (λ_ _ _=>e b++[.loop N0 il x]) 100 101 102) oM oM oM oM ?_ ?_
  .exact⟨.ax,
   .ax,
   .ax,
   cc.eK a a a (λ_ _ _=>aZ.eval (bh:=[]) bb a_.nil a C),
   .ax,
   cc.eK a a a (λ_ _ _=>aZ.a0 (λ_ _ _ _=>i6 a) (yH _ a a a M mX)),
   .ax,B⟩
  intro y X;show g q _ _ _ _ _ (e b++[.loop N0 il x]);have S:(((4*b:Nat):Int)+((min 4 (c d-4*b):Nat):Int))=((4*b+min 4 (c d-4*b):Nat):Int):=w;refine aW a tS (g.aK (a1.jS bb a a a a (j:=c d) (V:=bR.fn d) (eO:=v) (λ_ _ a'=>b7 a') a a a w w w w) a a ?_);have N:c (gO d b)=min 4 (c d-4*b):=by simp[gO]
  refine ff.le (dD:=[(0,.n (.Q (.aM i))),(19,.n (.Q (.aM i))),(1,ax (.R [qK d])),(2,ax (.R [.int .i64 4])),(4,Q (4*b:Nat)),(28,bR.B (gO d b))]) ?_ (.cons a (.cons a (eH a ?_)))
  .have O:(e b++[aq.loop N0 il x])[i]?=f (.loop N0 il x):=M;rcases dT b A with z|z
   .refine g.yield (h b z o) a a a (N0:=N0) (il:=il) (a':=x) O a a λ_=>?_;exact a5 [-30] a RB ⟨b+1,by omega,by omega,.cons a (eH a bv),a⟩
   obtain rfl:b=A:=w;refine g.yield (k o) a a a (N0:=N0) (il:=il) (a':=x) O a a λ_=>?_;exact a5 [30] a D (g.ret ⟨(),.inl a,(bo o).symm,by grind,[],.S [],[],a,a,a,B⟩)
  simp only[U.X,U,ba,a9];have I:((4*b:Nat):Int).toNat=4*b:=w;have E:(((4*b:Nat):Int)+((min 4 (c d-4*b):Nat):Int)).toNat-((4*b:Nat):Int).toNat=c (gO d b):=M;refine⟨E,λp r=>?_⟩;rw[E]at r;rw[I];show bR.a7 (d.getD (4*b+p) bR.F)=bR.a7 ((gO d b).getD p bR.F);congr 1;simp only[gO,ak];grind
 obtain rfl:b=A:=w;refine a5 [-9] a bv (g.fD a a ?_);exact⟨(),.inr a,(bj o).symm,by grind,[],.S [],[],a,a,a,B⟩
def nq(d:Int)(b:cd)(e:m bA)(a:Nat):Bool:=(l2 (di b+a) d (gO e a)).2&&!(c b.1+a==20)
def mS(b:Nat->Bool):Nat->Nat->Nat
 |0,a=>a
 |d+1,a=>if b a=l then mS b d (a+1)else a
def En(d:Nat->Bool):∀b a,a<=mS d b a/\mS d b a<=a+b/\(∀e,a<=e->e<mS d b a->d e=l)/\(mS d b a<a+b->d (mS d b a)=v)
 |0,a=>⟨bC _,bC _,λe g h=>absurd g (by simp[mS]at h;omega),λi=>absurd i (by simp[mS])⟩
 |b+1,a=>by obtain⟨g,h,k,j⟩:=En d b (a+1);rw[mS];grind
def jr(b:Int)(g:cd)(d:m bA)(e:Nat):m b':=(aB e).map λa:Nat=>(l2 (di g+a) b (gO d a)).1
theorem Dm(h)(b)(d)(j):c (jr h b d j)=j:=by simp[jr]
def ZW(h)(b)(d)(j):jr h b d (j+1)=jr h b d j++[(l2 (di b+(j:Nat)) h (gO d j)).1]:=by simp[jr,List.range_succ]
def Lc{b}(a:mc b):-4000000<=di b/\di b<=4000001:=by
 unfold di;split
 .omega
 rename_i d;have:=a.aY _ (CX d (0,[]));omega
def pw(d:Int)(a:cd)(b:Int)(h:m cM):cd×Option bA:=
 let e:=fV d h (eB a.1);let g:=mS (nq d a e) ((c e+3) / 4) 0
 if g<(c e+3) / 4 then(([],[],[]),f [112,97,99,107,115])
 else if 20<db a then(([],[],[]),f [115,110,97,112,115,104,111,116,115])
 else if c a.2.2=9 then(([],[],[]),f [104,101,97,100,115])
 else((a.1++jr d a e g,a.2.1++[fD (db a) d h],a.2.2++[(b,db a)]),n)
def TM:Option bA->E1
 |none=>.Q (.c .bD)
 |some a=>.Q (.c (.cf 180 (.R [.T a])))
def M3(a:cd×Option bA):y:=.S [.agg [.c (tt a.1.1),.c (tu a.1.2.1),.c (hU a.1.2.2)],TM a.2]
abbrev acC(d:cd)(a:Int)(e:m cM)(b:m bA):bJ:=[(2,Q a),(3,bu.B e),(4,aI 2 0),(5,aI 3 0),(8,aI 4 0),(9,aI 5 0),(10,aI 9 0),(11,aI 10 0),(12,Q (db d)),(33,ax (.fn (.func 210) [] [.R [qK b],.R [.int .i64 4]]))]
abbrev v5(g e:al×Y)(i:Int)(b:cd)(h:N)(a:m b')(d:Int):m aq:=ii g e++[.cells 30 [.c (tt b.1),.c (tu b.2.1),.c (hU b.2.2)],.cells 3 [.c (.int .i64 i)],.cells 30 [cF,cF,cF],.cells 177 [.c h],
 .q 80 2 (c a) (a2.fn a),.q 84 2 (c b.2.1) (bg.fn b.2.1),.M,.cells 30 [.O 6 (.B (c a) 2 0 (c a)),.O 7 (.B (c b.2.1) 2 0 (c b.2.1)),.c (hU b.2.2)],.cells 3 [.c (.int .i64 d)]]
def ML{s i}{b}{m k}{Z d}{bN a}{o g}(e)(j)(aJ:(v5 s i h b m Z bN++[.loop E I o])[e]?=f j):Aj 12 (v5 s i h b k d a++[.loop E I g]) e j:=by
 rcases e with _|_|_|_|_|_|_|_|_|_|_|_|e<;>first
  |(cases aJ;exact .inl ⟨_,_,rfl,rfl⟩)
  |(cases aJ;exact .inr (.inr (.inl ⟨_,_,_,_,rfl,rfl⟩)))
  |(cases aJ;exact .inr (.inr (.inr ⟨by grind,by grind⟩)))
  |simp_all
def Xu(s i)(h)(b)(e)(o)(bX:ce h=l)(x:dI b)(ec:mc b)(C:dM o=l)(P:c (dC b.1)<=100000)(G:kO (eB b.1) (c (eB b.1))=l)(Z:gC b.2.2=l)(aJ:e=1∨e=2)(ah:1<=db b):
  X q 135 [bW b,Q h,Q e,bu.B o] (ii s i) (M3 (pw h b e o)) (ii s i):=by
 obtain⟨O,p⟩:∃O,O=pw h b e o:=⟨_,rfl⟩;rw[<-p];unfold pw at p;simp only at p;refine(bk.jc (ι:=Unit) (ap:=λ_=>ii s i) (res:=λ_=>M3 O) func135 rfl rfl rfl ?_).toX
 refine de.seq (b3.bw (g.aO ?_));refine aW a B (de.seq (b3.bw (g.aO ?_)));refine aW a B (g.aB (Jm b x.aY x.bm x.aZ x.bp x.aJ) [] a (aW a B (de.seq (b3.bw (g.aO ?_)))));refine g.bN 8 a a a D (by simp;exact⟨B,B⟩) (aW a B (g.aB (WO b x ec) [] a (aW a B (de.seq (de.seq (b3.bw (g.aO ?_)))))));generalize al:eB b.1=d at *;have ab:a_ q [(174,dU [a2.B b.1] (a3.B d)),(172,dU [bR.B (fV h o d),Q 4] (ax (.fn (.func 210) [] [.R [qK (fV h o d)],.R [.int .i64 4]])))]:=.cons (ef (al▸VD b.1 x.aY P)) (.cons (ef (Uf _)) .nil);have aE:c d<=4000000:=by grind[Ke]
 refine g.gd b6 [Q h,bu.B o,aI 2 0,a2.B b.1,a3.B d,bR.B (fV h o d),ax (.fn (.func 210) [] [.R [qK (fV h o d)],.R [.int .i64 4]])] 12 rfl rfl rfl rfl rfl ⟨aZ.w,aZ.w,aZ.w,aZ.w,
  aZ.eval (bh:=[]) bb ab a a,aZ.ey (dX.d' (XK s i h o d bX C G aE).tocH [0,1] a a a a a a a bn a bn),aZ.eval (bh:=[]) bb ab a a,B⟩ ?_
 refine aW a B (de.block ?_);refine de.bb (acC b e o (fV h o d)) (v5 s i h b .bD (b.1++jr h b (fV h o d) 0) (di b+(0:Nat))) a D a ?_ ?_
 .simp[jr];exact⟨a,λaA _=>rfl⟩
 have ae:∀A∈fV h o d,cB A=l:=(qL (oI C)).1;have ag:c (fV h o d)<=4000000:=fQ (qL (oI C)).2 ca;generalize fV h o d=j at *;obtain⟨ar,au,I,aq⟩:=En (nq h b j) ((c j+3) / 4) 0;have aH:=x.aY;generalize V:mS (nq h b j) ((c j+3) / 4) 0=k at *;refine de.jK (o3:=e' [.R [qK j],.R [.int .i64 4]]) (b0.callee a)
  (Ue (yC:=?ae2) j ag k w (λu=>v5 s i h b .bD (b.1++jr h b j u) (di b+(u:Nat))) (v5 s i h b (.cf 180 (.R [.T [112,97,99,107,115]])) (b.1++jr h b j k) (di b+(k:Nat))) (λu=>rfl) (λu=>rfl) a (λu J L=>?Y9) λaG=>?Y_) λaA=>?bX
 case Y_=>
  have R:=aq w;have S:=Jb (q:=q) s i (di b+(k:Nat)) h (gO j k) NP bX (λA F=>ae A (pV (gY F))) (by simp[gO];omega);have af:=Dm h b j k;generalize an:l2 (di b+(k:Nat)) h (gO j k)=r at *;refine iE.cH (bq:=λ_=>[.cells 80 [.c (.int .i64 r.1.1),.c (.B v 2 (c r.1.2) (bG.fn r.1.2))],.M]) (iE.intro (u:=f .ret) a a a a (g.aO ?_)) ?_ ?_
  .refine aW a B ⟨a,a,g.aO ?_⟩;refine aW a B (g.aB S [0,1] a ?_);have aa:c (b.1++jr h b j k)=c b.1+k:=M;have E:r.2=l->c b.1+k=20:=λav=>by simpa[nq,an,av]using R
   cases y:r.2 with
   |false=>
    refine a5 [44,49,907] a (by simp[y]) (g.region ?_);refine gp [] 3 a B (g.e3 52 13 a a a ?_);refine aW a B (g.ret ?_);refine⟨a,a,(),jN a ?_⟩;simp[U.X,U,ba,a9];and_intros<;>first|exact bs.same|exact bs.nil|rfl
   |true=>
    have:=E y;refine a5 [-44,49,907] a bE (g.region ?_);refine gp [] 3 a B (g.e3 52 13 a a a ?_);refine aW a B (g.ret ?_);refine⟨a,a,(),jN a ?_⟩;simp
  .exact λ_=>rfl
  exactλ_=>ML
 case Y9=>
  have aD:=I u (gZ _) J;have S:=Jb (q:=q) s i (di b+(u:Nat)) h (gO j u) NP bX (λA F=>ae A (pV (gY F))) (by simp[gO];omega);have af:=Dm h b j u;have W:=ZW h b j u;obtain⟨ao,aC⟩:(l2 (di b+(u:Nat)) h (gO j u)).2=l/\¬(c b.1)+u=20:=by simpa[nq]using aD
  generalize l2 (di b+(u:Nat)) h (gO j u)=r at *;have aa:c (b.1++jr h b j u)=c b.1+u:=M;have ai:b.1++jr h b j (u+1)=(b.1++jr h b j u)++[r.1]:=M;generalize b.1++jr h b j u=m at *;refine iE.cH (bq:=λ_=>[.cells 80 [.c (.int .i64 r.1.1),.c (.B v 2 (c r.1.2) (bG.fn r.1.2))]]) (iE.intro (u:=n) a a a a (g.aO ?_)) ?_ ?_
  .refine aW a B ⟨a,a,g.aO ?_⟩;refine aW a B (g.aB S [0,1] a ?_);have md:=a2.aX m r.1;have aw:=Lc ec;refine a5 [-44,-49] a ?_ ?_
   .simp only[U,a7,ao,show nv.bytes=32 from a,aa,eZ,dZ,ft,ba,a9];omega
   refine⟨a,a,(),jN a ?_⟩;have aM:c (m++[r.1])=c m+1:=D;have H:di b+(u:Int)+1=di b+((u+1:Nat):Int):=w;rw[ai,aM,<-H];simp only[U.X,U,ba,a9];exact Ql
  .exact λ_=>rfl
  exactλ_=>ML
 case bX=>
  by_cases L:4*k<c j
  .rw[bo L];refine⟨_,a,by simp,.ret,a,?_⟩;rw[bo (show k<(c j+3) / 4 by omega)]at p;subst p;simp only[uL,v8];refine .freeze 8 4 a a a (.freeze 9 5 a a a (.of ⟨(),k0.cells bb [0,1] a ?_ a a a ql⟩));simp
  rw[bj L];refine⟨_,a,by simp,.normal,a,?_⟩;rw[bj (show¬k<(c j+3) / 4 by omega)]at p;show de q _ _ _ _ _;refine b3.bw (g.aO ?_);by_cases E:20<db b
  .rw[bo E]at p;subst p;refine a5 [63,911] a bv (g.region ?_);refine gp [] 3 a B (g.e3 66 13 a a a ?_);exact Pu
  rw[bj E]at p;have aj:c b.2.2<=9:=by simp only[gC,ck,bw]at Z;omega
  refine a5 [-63] a bv (g.aB (XL s i (db b) h o ⟨ah,by omega⟩ bX C) [0,1] a ?_);have md:=bg.aX b.2.1 (fD (db b) h o);have aF:=x.aZ;refine a5 [914] a ?_ ?_
  .simp only[U,show rH.bytes=32 from a,ba,a9];omega
  refine g.region ?_;refine aW a B (g.aB (Wq b.2.2 (e,db b) Z (by simp only[hs,ck,bw];omega) aj) [] a ?_);by_cases z:c b.2.2=9
  .rw[bo z]at p;subst p;refine a5 [91,916] a (by simp[z]) (g.region ?_);refine gp [] 3 a B (g.e3 94 14 a a a ?_);exact Pu
  rw[bj z]at p;subst p;simp only[bj z];refine a5 [-91,918] a (by simp[z]) ?_;have af:c (b.1++jr h b j k)=c b.1+k:=by grind[Dm]
  generalize b.1++jr h b j k=m at *;generalize Y:b.2.1++[fD (db b) h o]=t at *;have N:c t=c b.2.1+1:=M;generalize T:b.2.2++[(e,db b)]=K at *;refine g.fU (dD:=[(8,aI 4 0),(9,aI 5 0),(10,aI 9 0)]) (ap:=ii s i++[.cells 30 [.c (tt b.1),.c (tu b.2.1),.c (hU b.2.2)],.cells 3 [.c (.int .i64 h)],.cells 30 [cF,cF,cF],.cells 177 [.c .bD],.q 80 2 (c m) (a2.fn m),.q 84 2 (c t) (bg.fn t),.M,.cells 30 [.O 6 (.B (c m) 2 0 (c m)),.O 7 (.B (c t) 2 0 (c t)),.c (hU K)],.cells 3 [.c (.int .i64 (di b+(k:Nat)))],.M,.bl,.cells 84 [.c (.int .i64 (fD (db b) h o).1),.c (.B v 2 (fD (db b) h o).2.length (cw.fn (fD (db b) h o).2))]]) ?_ a ?_ a ?_
  .refine g.bN 6 a a a D D (g.bN 7 a a a D D (aW a B (g.ret (.freeze 8 4 a a a (.freeze 9 5 a a a (.of ⟨(),k0.cells bb [0,1] a ?_ a a a ql⟩))))));simp[h_]
  .simp
  simp only[U.X,U,N,ba,a9];exact Ql
end
structure j1(b:cd):Prop where
 eO:c b.1<=20
 dL:∀S∈b.1,(1<=S.1/\S.1<=99)/\c S.2<=4
 eu:c b.2.1<=21
 c7:∀F∈b.2.1,(1<=F.1/\F.1<=20)/\c F.2<=6/\∀bF∈F.2,c bF.2<=40
 fW:c b.2.2<=9
 fe:∀t∈b.2.2,1<=t.2/\t.2<=20
def sS{a g:Type}{aj:a->m g}{j}:∀{d:m a},(∀b∈d,c (aj b)<=j)->c (d.flatMap aj)<=j*c d
 |[],_=>by simp
 |b::d,e=>by have k:=e b ir;have o:=sS (d:=d) λi h=>e i (mh _ h);grind[Nat.mul_succ]
def v9{a:eh}(d:c a.2<=6/\∀b∈a.2,c b.2<=40):c (d_ a.2)<=240:=by have:=sS (aj:=λb:m2=>b.2) (j:=40) d.2;unfold d_;omega
def j1.fP{b:cd}(a:j1 b):nV b:=by
 have i:=a.eO;have k:=a.eu;have j:c (ct b.1)<=4*c b.1:=sS λg d=>by rw[kB];exact(a.dL g d).2
 have m:c (ho b.2.1)<=240*c b.2.1:=sS λh e=>v9 (a.c7 h e).2;refine⟨⟨by omega,λh e=>?_,by omega,by omega⟩,λg d=>?_,by omega⟩
 .have:=(a.c7 h e).2;grind
 have:=(a.dL g d).2;omega
def j1.du{b}(d:j1 b):dI b:=by have a:=d.fP;have e:=d.fW;exact⟨a.fJ,a.cr,a.fa,a.dW,by omega⟩
def j1.eo{b}(e:j1 b):mc b:=
 ⟨λd a=>by have:=(e.dL d a).1;omega,λd a=>by have:=(e.c7 d a).1;omega,λd a=>by have:=e.fe d a;omega⟩
def j1.j3{b}(a:j1 b):c (dC b.1)<=100000:=by
 have e:=a.eO;have:c (R1.dC b.1)<=4*c b.1:=sS λg d=>by rw[kB];exact(a.dL g d).2
 omega
def ab9{e}{Z}(j:(en h e Z).isSome=l):c e.2<=6/\∀b∈e.2,c b.2<=40:=by
 unfold en at j;split at j
 .rename_i i;simp only[ck]at i;obtain⟨⟨_,o⟩,k⟩:=i;refine⟨?_,λb m=>?_⟩
  .simp only[dM,ck,bw,fk,kB]at k;omega
  have a:=aX.1 o b m;unfold fI at a;split at a
  .cases a
  rename_i p d;split at a
  .cases a
  rename_i r g;have q:c p=c b.2:=by unfold g2 at d;split at d<;>cases d;simp
  unfold iO at g;split at g
  .rename_i i;simp[ck,gL,fL,bw]at i;grind[vK]
  grind
 grind
def iC.gE{b}(a:iC h b):j1 b:=by
 have k:c b.2.1<=20:=by have:=xf 1 a.cI λe d=>(a.aZ e d).1;omega
 have g:=a.dB;simp[gC,ck,bw,fZ]at g;refine⟨a.len,λS i=>⟨(a.cr S i).cZ,(a.cr S i).len.2⟩,by omega,λe d=>⟨(a.aZ e d).1,ab9 (a.aZ e d).2⟩,g.2,λm j=>?_⟩;have:=(sx (S:=hs) (O:=(0,0))).1 g.1 m j;simp[hs,ck,bw]at this;omega
def Y4{d}(b:∀a∈d,-4000000<=a.2/\a.2<=4000000):1<=lS d:=(sV d b).1
def ab6{b}(a:j1 b):1<=db b:=by have:=Y4 a.eo.aJ;unfold db;split<;>omega
def aaC{b}(d:j1 b):1<=di b:=by
 unfold di;split
 .omega
 rename_i a;have:=(d.dL _ (CX a (0,[]))).1;omega
def j1.cL{b}{o}{bT}(i:j1 b)(D:c b.2.1<=20)(q:dM o=l)(j:fu h b o=v):j1 (eM h b bT o):=by
 simp[fu,wV,dp]at j;obtain⟨w,x,f3,f4⟩:=j;have B:=ab6 i;have E:=aaC i;have y:=zE.1 q;unfold eM;refine⟨by grind,λe a=>?_,by grind,λe a=>?_,by grind,λe a=>?_⟩
 .rcases fx.1 a with a|a
  .exact i.dL e a
  obtain⟨k,C,r,g,s,t,u,rfl⟩:=Lh h _ _ _ (qL (h:=h) (d:=eB b.1) (oI q)).1 e a;have g:k<di b+c (kl h b o):=g;exact⟨⟨by show 1<=k;omega,by show k<=99;omega⟩,by grind[Z_]⟩
 .rcases fx.1 a with a|a
  .exact i.c7 e a
  rw[gJ]at a;subst a;refine⟨⟨B,by show db b<=20;omega⟩,by show(o.map _).length<=6;grind,λF A=>?_⟩;obtain⟨m,j,rfl⟩:=hn.1 A;have p:=(y.1 m j).2;simp[fL,ck,bw]at p;have z:=vK m.2;show((cm m.2).map _).length<=40;grind
 rcases fx.1 a with a|a
 .exact i.fe e a
 grind
structure ja(b:cd):Prop extends j1 b where
 cG:b.1.Pairwise λS bl=>S.1<bl.1
 cI:b.2.1.Pairwise λF bF=>F.1<bF.1
 fA:∀t∈b.2.2,1<=t.1/\t.1<=2
def ja.nil:ja ([],[],[]):=⟨⟨by simp,by simp,by simp,by simp,by simp,by simp⟩,by simp,by simp,by simp⟩
def ja.dE{b}(a:ja b):oP b:=⟨a.du,a.cG,a.eo.a',a.fA⟩
def ja.j0{b}(a:ja b):c b.2.1<=20:=by have:=xf 1 a.cI λe d=>(a.c7 e d).1;omega
def GA{aj:α->Int}{d}(i:d.Pairwise λa b=>aj a<aj b)(h:c d≠0)(e):∀g∈d,aj g<=aj (d.getD (c d-1) e):=by grind[List.getElem_of_mem,List.pairwise_iff_getElem]
def ja.cL{h}{b}{o}{bT}(d:ja b)(p:dM o=l)(r:1<=bT/\bT<=2)(m:fu h b o=v):ja (eM h b bT o):=by
 refine⟨d.toj1.cL d.j0 p m,?_,?_,λe a=>?_⟩
 .refine m_.2 ⟨d.cG,Le h _ _ _,λe a k g=>?_⟩;have q:e.1<di b:=by
   unfold di;split
   .grind
   rename_i i;have:=GA (aj:=λj:b'=>j.1) d.cG i (0,[]) e a;omega
  have:=DL h _ _ _ k g;omega
 .refine m_.2 ⟨d.cI,by simp,λe a k g=>?_⟩;rw[gJ]at g;subst g;show e.1<db b;unfold db;split
  .grind
  rename_i i;have:=GA (aj:=λj:eh=>j.1) d.cI i (0,[]) e a;omega
 rcases fx.1 a with a|a
 .exact d.fA e a
 grind
def ja.j2{b}(a:ja b)(e:eh->Bool):ja (b.1,b.2.1.filter e,b.2.2):=
 ⟨⟨a.eO,a.dL,fQ (kz _ _) a.eu,λg d=>a.c7 g (jd.1 d).1,a.fW,a.fe⟩,a.cG,a.cI.filter _,a.fA⟩
def ja.step{b}(a:ja b)(bN)(cx):ja (fl bN cx b.1,b.2):=by
 refine⟨⟨?_,λh d=>?_,a.eu,a.c7,a.fW,a.fe⟩,?_,a.cI,a.fA⟩
 .have:c (fl bN cx b.1)<=c b.1:=by unfold fl;grind
  exact fQ this a.eO
 .obtain⟨e,s,rfl,_⟩:=MF d;have:=a.dL e s;grind[Df,yz]
 show (fl bN cx b.1).Pairwise _;unfold fl;refine List.Pairwise.filter _ (rf.2 (a.cG.imp λg=>?_));grind[yz]
structure fN(j:Nat)(p:dN):Prop where
 a':ja p.1
 cl:c p.2.1<=j
 dc:c p.2.2<=20
def fN.mono{p}(a:fN j p)(b:j<=A):fN A p:=⟨a.a',fQ a.cl b,a.dc⟩
abbrev hj:dN:=(([],[],[]),[],[])
def fN.nil{j}:fN j hj:=⟨ja.nil,by simp,by simp⟩
def j8(e:Int)(a:cd)(d:m Int):dN×Bool:=
 if hV e a=l then(((a.1,a.2.1.filter λb=>d.contains b.1,a.2.2),hS (a.2.1.filter λb=>d.contains b.1),a.1.map (·.1)),l)else(hj,v)
def adY{b}(a:j1 b):c (ho b.2.1)<=240*21:=by have g:=a.eu;have h:c (ho b.2.1)<=240*c b.2.1:=sS λe d=>v9 (a.c7 e d).2;omega
def fN.iq{b}{Da}(e:ja b):fN 6000 (j8 h b Da).1:=by
 unfold j8;split
 .have d:=e.j2 λa=>Da.contains a.1;refine⟨d,?_,by simp only[kB];exact e.eO⟩;have g:=yD (b.2.1.filter λa=>Da.contains a.1) _ (bC _);have i:=adY d.toj1;grind
 exact fN.nil
def fN.step{j}{p}(a:fN j p):fN j (jv p):=by
 unfold jv;split
 .exact a
 rename_i d e b;refine⟨a.a'.step _ _,a.cl,?_⟩;have:=a.dc;grind
def nH(d:Int)(b:dN)(a:Int)(e:m cM):dN:=(eM d b.1 a e,(gE (fD (db b.1) d e).2).foldl e5 b.2.1,b.2.2)
def qz(b:Int)(e:dN)(a:Int)(d:m cM):Bool:=hg b e&&decide (1<=a/\a<=2)&&dM d
def fN.cL{h}{j}{p}{o}{bT}(a:fN j p)(g:dM o=l)(b:1<=bT/\bT<=2)(e:fu h p.1 o=v):fN (j+240) (nH h p bT o):=by have d:=a.a'.cL g b e;refine⟨d,?_,a.dc⟩;have i:=qm p.2.1 (gE (fD (db p.1) h o).2);have k:=tc (fD (db p.1) h o).2;have q:=v9 (d.c7 (fD (db p.1) h o) (by simp[eM])).2;have m:=a.cl;show((gE _).foldl e5 p.2.1).length<=_;omega
def fN.jX{p}(a:fN j p):q_ p.1:=a.a'.fP.toq_
def fX(b:m (Int×Int)):Int:=b.foldl (λd a=>64*d+21*a.1+a.2) 0
def fJ(a:Int×Int)(b:m (Int×Int)):(Int×Int)×Int:=
 if gC b=l/\a.1<=c b/\0<=a.1 then
  if fX (b.take a.1.toNat)=a.2 then(((c b:Int),fX b),0)else(a,2)
 else(a,1)
def Er{b:m (Int×Int)}(e:∀d∈b,(1<=d.1/\d.1<=2)/\1<=d.2/\d.2<=20):∀a,0<=fX (b.take a)/\fX (b.take a)<((64 ^ a:Nat):Int)
 |0=>by simp[fX]
 |a+1=>by
  have h:=Er e a;by_cases g:a<c b
  .have i:fX (b.take (a+1))=64*fX (b.take a)+21*(b.getD a (0,0)).1+(b.getD a (0,0)).2:=by unfold fX;grind[ie]
   grind
  grind[List.take_of_length_le]
def Dk{d}(b:gC d=l):(∀a∈d,(1<=a.1/\a.1<=2)/\1<=a.2/\a.2<=20)/\c d<=9:=by simp only[gC,ck,bw,fZ]at b;refine⟨λa e=>?_,b.2⟩;have:=(sx (S:=hs) (O:=(0,0))).1 b.1 a e;simpa only[hs,ck,bw]using this
def v3{d}(g:∀a∈d,(1<=a.1/\a.1<=2)/\1<=a.2/\a.2<=20)(h:c d<=9)(e):0<=fX (d.take e)/\fX (d.take e)<18014398509481984:=by
 rcases Nat.le_total e 9 with b|b
 .have i:=Er g e;have:64 ^ e<=64 ^ 9:=AK w b;grind
 rw[Gb w];have i:=Er g (c d);rw[c6]at i;have:64 ^ c d<=64 ^ 9:=AK w h;grind
abbrev SX:m (Nat×bI):=[(107,BH)]
def XO(h)(b)(y:nV b):X (af.aD T) 126 [bW b,Q h] [] (bf ((aB (c b.2.1)).all (ln h b))) []:=by
 refine X.J func126 rfl λK=>?_;have J:=y.fa;have F:=y.dW;have i:a_ (af.aD T) SX:=.cons MZ .nil;refine b8 i a B (g.aC 1 (λe=>e<=c b.2.1/\∀u,u<e->ln h b u=l) (λe:Nat=>[(1,Q h),(2,aI 0 0),(10,bg.B b.2.1),(11,Q (c b.2.1)),(12,Q e)]) (λ_=>[zk b]) (λe=>c b.2.1-e) 0 a D a D a ⟨by omega,by omega⟩ ?_);rintro e ⟨z,o⟩;by_cases t:e<c b.2.1
 .have j:b.2.1.getD e bg.F=b.2.1.getD e (0,[]):=rfl;have r:b.2.1.getD (e-1) bg.F=b.2.1.getD (e-1) (0,[]):=rfl;have k:ln h b e=(decide (1<=(b.2.1.getD e (0,[])).1/\(b.2.1.getD e (0,[])).1<=20)&&j7 (·.1) (0,[]) b.2.1 e&&(en h (b.2.1.getD e (0,[])) b.1).isSome):=rfl;have E:=p7 (aj:=λm:eh=>m.1) (O:=(0,[])) (d:=b.2.1) (e:=e);have C:=F _ (oe (O:=(0,[])) t);generalize b.2.1.getD e (0,[])=m at *;generalize b.2.1.getD (e-1) (0,[])=s at *;by_cases p:1<=m.1
  rotate_left
  .refine a8 i [13,20,25,40] a ?_ (g.aT (bY.zero a ?_))
   .simp[-ak,j];omega
   exact jX
  by_cases q:m.1<=20
  rotate_left
  .refine a8 i [13,-20,25,40] a ?_ (g.aT (bY.zero a ?_))
   .simp[-ak,j];omega
   exact jX
  rw[fi ⟨p,q⟩,fP]at k;by_cases x:e=0
  .subst x;rw[show j7 (·.1) (0,[]) b.2.1 0=l from a,fP]at k;cases A:(en h m b.1).isSome with
   |false=>
    refine a8 i [13,-20,-25,-27,-40,50] a OC (g.aT (bY.zero a ?_));rw[lG t (k.trans A)];simp
   |true=>
    refine a8 i [13,-20,-25,-27,-40,-50] a ?_ (g.av 1 a D D ⟨t,je o (k.trans A)⟩ w);exact OC
  rw[E x]at k;by_cases I:s.1<m.1
  rotate_left
  .refine a8 i [13,-20,-25,28,38,40] a ?_ (g.aT (bY.zero a ?_))
   .simp[-ak,j,r,a7];omega
   exact jX
  rw[fi I,fP]at k;cases A:(en h m b.1).isSome with
  |false=>
   refine a8 i [13,-20,-25,28,-38,-40,50] a QT (g.aT (bY.zero a ?_));rw[lG t (k.trans A)];simp
  |true=>
   refine a8 i [13,-20,-25,28,-38,-40,-50] a ?_ (g.av (e+1) a D D ⟨t,je o (k.trans A)⟩ w);exact QT
 obtain rfl:e=c b.2.1:=w;rw[fZ.2 o];refine a8 i [-13] a D (g.az ?_);exact b8 i a B (g.ao a)
def acy(h)(b):hV h b=(ce h&&tg h b&&(aB (c b.2.1)).all (ln h b)&&gC b.2.2):=by unfold hV tg;cases(aB (c b.1)).all (nJ h b.1)<;>cases decide (ct b.1).Nodup<;>cases(aB (c b.2.1)).all (ln h b)<;>cases ce h<;>cases gC b.2.2<;>cases decide (c b.1<=20)<;>rfl
abbrev SR:bI:=ei o0 c1 (λb a=>bf (tg a b)) λb a=>[ce a=l,nV b]
abbrev SV:bI:=ei o0 c1 (λa b=>bf ((aB (c a.2.1)).all (ln b a))) λa _=>[nV a]
def XX(h)(b)(aj:nV b):X (af.aD T) 83 [Q h,bW b] [] (bf (hV h b)) []:=by
 refine X.J func83 rfl λj=>?_;have d:a_ (af.aD T) [(124,HB),(52,dc c1 (λh=>bf (ce h)) λ_=>[]),(125,SR),(126,SV),(37,n4)]:=.cons adK (.cons oG (.cons (.bk λb h e=>W2 h b e.1 e.2) (.cons (.bk λb h e=>XO h b e) (.cons tG .nil))));have i:=a2.l b.1;have s:=bg.l b.2.1;have x:=a3.l b.2.2;rw[acy];cases bX:ce h
 .exact a8 d [-10,-15,-20] a (by simp[bX,i,s,x,a2.U,bg.U,a3.U]) (g.ao a)
 cases aw:tg h b
 .exact a8 d [10,-15,-20] a (by simp[bX,i,s,x,a2.U,bg.U,a3.U,aj,aw]) (g.ao a)
 cases C:(aB (c b.2.1)).all (ln h b)
 .exact a8 d [10,15,-20] a P' (g.ao a)
 exact a8 d [10,15,20] a P' (g.ao a oN)
abbrev xC:bI:=ei c1 o0 (λb a=>bf (hV b a)) λ_ a=>[nV a]
def EC:bK (af.aD T) 83 xC:=.bk λb d a=>XX b d a
abbrev ij(b a:al×Y):m aq:=ii b a++[Al]
def qt(d:Int)(b:cd)(a:Int)(e:m cM):cd×Bool:=
 if hV d b=l/\(a=1∨a=2)/\dM e=l then(match(pw d b a e).2 with|none=>((pw d b a e).1,l)|some _=>(b,v))else(([],[],[]),v)
structure F8(h:Int)(b:cd):Prop where
 kh:ce h=l
 sp:c (dC b.1)<=100000
 kj:kO (eB b.1) (c (eB b.1))=l
 dB:gC b.2.2=l
 aZ:1<=db b
def nl:∀a,a<3->([0,1,2]:m Nat)[a]?=f a:=ca
def TZ{b:af T}(aa):X b 136 [ax .bD,n9 aa] [] (bf v) []:=by refine X.J func136 rfl λd=>?_;refine aW a B ?_;refine g.aK (Dx a underlying177 a a a) a a ?_;exact a5 [9] a D (g.ao a)
def XZ(u t)(h)(b)(i)(o)(p:dI b)(a':nV b)(F:mc b)(G:a7 .i64 i)(O:hV h b=l->F8 h b):
  X (af.aD T) 96 [Q h,bW b,Q i,bu.B o] (ij u t) (M1 (qt h b i o).1 (qt h b i o).2) (ij u t):=by
 refine X.bg bb func96 rfl rfl rfl λH=>?_;have k:a_ (af.aD T) [(83,xC),(54,rm)]:=.cons EC (.cons t54 .nil);by_cases e:hV h b=l
 .by_cases d:i=1∨i=2
  .by_cases j:dM o=l
   .have m:qt h b i o=(match(pw h b i o).2 with|none=>((pw h b i o).1,l)|some _=>(b,v)):=bo ⟨e,d,j⟩;rw[m];obtain⟨N,C,y,E,R⟩:=O e;have A:=Xu (q:=af.aD T) u t h b i o N p F j C y E d R;apply g.cg [(0,Q h),(2,Q i),(3,bu.B o),(5,aI 3 0),(8,aI 4 0)] (ij u t++[.cells 30 [.c (tt b.1),.c (tu b.2.1),.c (hU b.2.2)],.cells 30 [cF,cF,cF]])
    .intro dw;rcases d with rfl|rfl
     .refine be k [-17,-20,-25,-29,903] a Pw (dw _ _ a ?_);simp
     refine be k [-17,20,-25,-29,903] a Pw (dw _ _ a ?_);simp
    have K:∀x:Y,X (af.aD T) 136 [ax .bD,n9 x] [] (bf v) []:=λx=>TZ x;generalize pw h b i o=J at *;obtain⟨W,S⟩:=J;cases S with
    |none=>
     have w:=A;refine cU k a B (g.aB w [0,1] a (be k [905] a B (g.hD 12 6 a a λz=>?_)));refine cU k a B (g.gZ 40 a ?_);exact g.aB (K _) [] a (be k [-41] a D kv)
    |some V=>
     have w:=A;refine cU k a B (g.aB w [0,1] a (be k [905] a B (g.hD 12 6 a a λz=>?_)));refine g.iL 11 a λI=>?_;refine cU k a B (g.gZ 40 a ?_);refine g.aB (TX I z) [2,6] a (be k [41] a D (g.aB (o9 b p.aY p.bm p.aZ p.bp p.aJ) [] a (tr k [] 2 a B (g.hE ?_))));exact g.bN 7 a a a D D (g.bN 8 a a a D D PI)
   have m:qt h b i o=(([],[],[]),v):=bj λs=>j s.2.2;rw[m];have r:dM o=v:=M;rcases d with rfl|rfl
   .exact be k [-17,-20,-25,29] a QO kv
   exact be k [-17,20,-25,29] a QO kv
  have m:qt h b i o=(([],[],[]),v):=bj λs=>d s.2.1;rw[m];exact be k [-17,20,25,29] a bE kv
 have m:qt h b i o=(([],[],[]),v):=bj λs=>e s.1;rw[m];refine be k [17,25,29] a ?_ ?_
 .simp only[U,a2.l,bg.l,a3.l];and_intros<;>first|rfl|exact True.intro|exact a2.U _|exact bg.U _|exact a3.U _|exact a'|grind
 exact kv
section
variable {q:af T}
def Ut(b)(d:dI b):X q 79 [bW b] [] (bW b) []:=by refine(qi b d.aY d.bm d.aZ d.bp d.aJ).b0 a ?_ a;simp
abbrev Bz:bI:=dc o0 (λa=>bW a) λa=>[dI a]
def MQ:bK q 79 Bz:=.a9 λb a=>Ut b a
def IO(p)(d:dI p.1)(h:c p.2.1<=4000000)(j:c p.2.2<=4000000):X q 51 [gz p] [] (.n (.agg [cK a2 p.1.1,cK bg p.1.2.1,cK a3 p.1.2.2,cK az p.2.1,.x 0 1 (c p.2.2) (az.fn p.2.2)])) [.x 3 1 (c p.2.2) (az.fn p.2.2)]:=by
 refine X.bg bb func51 rfl rfl rfl λi=>?_;have e:a_ q [(79,Bz)]:=.cons MQ .nil;refine be e [2000009] a ?_ ?_
 .simp only[U,a2.l,a2.U,bg.l,bg.U,a3.l,a3.U,d,ba,a9,show d8.bytes=8 from a,lC];exact fv
 refine g.bb [gr p,.cells 33 [cK a2 p.1.1,cK bg p.1.2.1,cK a3 p.1.2.2,cK az p.2.1,.x 2 1 (c p.2.2) (az.fn p.2.2)],.x 3 1 (c p.2.2) (az.fn p.2.2)] a ?_ ?_
 .simp[a2.l,bg.l,a3.l,o1]
 refine g.bf () [2] ?_ (λk b=>absurd b D);simp
def Uv(p)(b:dI p.1)(d:c p.2.1<=4000000)(e:c p.2.2<=4000000):X q 51 [gz p] [] (gz p) []:=
 (IO p b d e).b0 a D a
abbrev xu:bI:=dc (Aw CE) (λa=>gz a) λa=>[dI a.1,c a.2.1<=4000000,c a.2.2<=4000000]
def Ew:bK q 51 xu:=.a9 λb a=>Uv b a.1 a.2.1 a.2.2
abbrev Ks(b:b')(a:m cW):m aq:=[xw b,.cells 80 [.c (.int .i64 0),cF],.cells 80 [.c (.int .i64 b.1),.x 3 2 (c a) (bG.fn a)],.x 114 2 (c a) (bG.fn a)]
def CL{d}{a:α->Bool}(g:e<c d)(b):(d.take (e+1)).filter a=if a (d.getD e b)=l then(d.take e).filter a++[d.getD e b]else(d.take e).filter a:=by rw[ie g b,List.filter_append,so];split<;>simp
def CK(d)(a:α->Bool)(b:e<=c d):c ((d.take e).filter a)<=e:=fQ (kz _ _) bQ
def V9(S)(b)(C:c S.2<=4000000):X q 82 [fH S,az.B b] [] (fH (hD S b)) []:=by
 refine X.bg bb func82 rfl rfl rfl λo=>?_;have i:a_ q [(80,uR)]:=.cons zu .nil;refine be i [902] a B (g.cq 2 1 114 2 (bG.fn []) a a ?_);refine b8 i a B ?_;refine g.aC 4 (λe=>e<=c S.2) (λe:Nat=>[(1,az.B b),(2,aI 0 0),(4,aI 1 0),(5,aI 2 0),(6,Q e)])
  (λe=>Ks S ((S.2.take e).filter λd=>b.contains d.1)) (λe=>c S.2-e) 0 a D a D a w ?_
 intro e j;have m:=CK S.2 (λd=>b.contains d.1) j;by_cases t:e<c S.2
 .have O:S.2.getD e bG.F=d9 S e:=rfl;have s:(S.2.take (e+1)).filter (λd=>b.contains d.1)=if b.contains (d9 S e).1=l then(S.2.take e).filter (λd=>b.contains d.1)++[d9 S e]else(S.2.take e).filter (λd=>b.contains d.1):=CL t (0,[]);generalize(S.2.take e).filter (λd=>b.contains d.1)=k at *;generalize d9 S e=d at *;cases aj:b.contains d.1 with
  |true=>
   rw[bo aj]at s;have C:=bG.aX k d;refine be i [15,25] a QM (g.av (e+1) a D ?_ t w);exact PA
  |false=>
   rw[bj ds]at s;refine be i [15,-25] a PW (g.av (e+1) a D ?_ t w);simp_all
 exact PD
abbrev Hk:bI:=ei (jB bG) (eK az) (λb a=>fH (hD b a)) λb _=>[c b.2<=4000000]
def adq:bK q 82 Hk:=.bk λd a b=>V9 d a b
abbrev jV(b:dN)(a:Bool):y:=.S [.agg (v6 b),.Q (.c (.bool a))]
abbrev lv:m R:=[cF,cF,cF,cF,cF]
def stepT(b:Int)(a:m Int)(d:m b')(e:Nat):m b':=fl b a (d.take e)
def acv{bN}{cx}{Z}(a:e<c Z):stepT bN cx Z (e+1)=if(iY bN cx (Z.getD e (0,[]))).2.length=0 then stepT bN cx Z e else stepT bN cx Z e++[iY bN cx (Z.getD e (0,[]))]:=by unfold stepT fl;rw[ie a (0,[]),List.map_append,List.filter_append,List.map_singleton];grind
def acu(bN)(cx)(Z)(a:e<=c Z):c (stepT bN cx Z e)<=e:=by unfold stepT fl;grind
def XT(p)(i:dI p.1)(d:c p.2.1<=4000000)(h:p.2.2=[]):X q 50 [gz p] [] (jV p v) []:=by refine X.bA func50 rfl rfl rfl λe=>?_;have b:a_ q [(51,xu)]:=.cons Ew .nil;refine be b [13] a bE ?_;refine g.freeze 2 1 a a a ?_;refine g.b8 bb [] a ?_ a a a eG;simp[a2.l,bg.l,a3.l,az.l]
abbrev acz(b:cd)(a:m Int)(e:m Int)(d:m b'):m aq:=[gr (b,a,e),.cells 33 lv,gr (b,a,e),.x 80 2 (c d) (a2.fn d)]
def _root_.Go.AM.c0.iT(a:c0 α)(g)(d)(h:j=c d):bs j (fA 1 (a.fn (g::d))) (a.fn d):=by intro e b;simp only[fA,c0.fn,gF,ak,Nat.add_comm 1 e,nZ]
def XU(b)(cx k)(bN)(u)(F:k=bN::u)(x:dI b)(J:c cx<=4000000)(I:c k<=4000000):X q 50 [gz (b,cx,k)] [] (jV ((fl bN cx b.1,b.2),cx,u) l) []:=by
 refine X.bA func50 rfl rfl rfl λR=>?_;have m:a_ q [(51,xu),(82,Hk)]:=.cons Ew (.cons adq .nil);have K:0<c k:=ds;refine be m [-13,905] a ?_ ?_
 .simp only[U,a2.l,a2.U,bg.l,bg.U,a3.l,a3.U,az.l,az.U,x,J,I,ba,a9,eZ,dZ];omega
 refine g.bG 5 80 2 a a ?_;refine cU m a B ?_;have M:=x.aY;refine g.aC 4 (λe=>e<=c b.1) (λe:Nat=>[(1,aI 0 0),(2,aI 1 0),(4,aI 2 0),(5,.n (.Q (.x 3 2 (c (stepT bN cx b.1 e)) (a2.fn (stepT bN cx b.1 e))))),(6,Q e)])
  (λe=>acz b cx k (stepT bN cx b.1 e)) (λe=>c b.1-e) 0 a ?_ a ?_ a w ?_
 .simp[stepT,fl]
 .simp[stepT,fl,a2.l,bg.l,a3.l,az.l]
 intro e t;by_cases o:e<c b.1
 .have O:b.1.getD e a2.F=b.1.getD e (0,[]):=rfl;have z:=x.bm _ (mx o (0,[]));have i:=acv (bN:=bN) (cx:=cx) o;have N:=acu bN cx b.1 t;have r:k.getD (Int.toNat 0) az.F=bN:=bE;generalize stepT bN cx b.1 e=y at *;generalize b.1.getD e (0,[])=h at *;by_cases j:h.1=bN
  .have C:iY bN cx h=hD h cx:=by unfold iY;exact bv
   rw[C]at i;have d:=a2.aX y (hD h cx);have S:(hD h cx).2.length<=c h.2:=kz _ _;have s:(h.1,h.2)=h:=rfl;by_cases p:(hD h cx).2.length=0
   .rw[bo p]at i;refine be m [21,36,-44] a ?_ (g.av (e+1) a ?_ ?_ o w)
    .simp only[U,cY,O,r,s,z,bG.l,bG.U,az.l,az.U,a7,bw,dp,gL,ba,a9];exact zS
    .rw[i];simp
    rw[i];simp
   rw[bj p]at i;refine be m [21,36,44] a ?_ (g.av (e+1) a ?_ ?_ o w)
   .simp only[U,cY,O,r,s,z,bG.l,bG.U,az.l,az.U,a7,show nv.bytes=32 from a,bw,dp,gL,ba,a9];exact zS
   .exact PS
   exact PS
  have C:iY bN cx h=h:=by unfold iY;exact bv
  rw[C]at i;have d:=a2.aX y h;by_cases p:c h.2=0
  .rw[bo p]at i;refine be m [21,-36,-44] a ?_ (g.av (e+1) a ?_ ?_ o w)
   .simp only[U,cY,O,r,a7,bw,dp,eZ,dZ,ba,a9];exact zS
   .rw[i];simp
   rw[i];simp
  rw[bj p]at i;refine be m [21,-36,44] a ?_ (g.av (e+1) a ?_ ?_ o w)
  .simp only[U,cY,O,r,a7,show nv.bytes=32 from a,bw,dp,eZ,dZ,ba,a9];exact zS
  .exact PG
  exact PG
 obtain rfl:e=c b.1:=w;have E:stepT bN cx b.1 (c b.1)=fl bN cx b.1:=by unfold stepT;simp
 rw[E];refine be m [-21] a D (g.az ?_);refine cU m a bv (g.freeze 2 1 a a a ?_);refine g.b8 bb [] a ?_ a a a eG;have A:=az.iT bN u a;rw[<-F]at A;simp only[U.X,U,bV,ba,a9];and_intros<;>first|exact bs.same|exact A|simp_all|grind|rfl
def qq(a:dN):Bool:=!a.2.2.isEmpty
def XS(p)(e:dI p.1)(g:c p.2.1<=4000000)(j:c p.2.2<=4000000):X q 50 [gz p] [] (jV (jv p) (qq p)) []:=by
 obtain⟨d,a,i⟩:=p;cases i with
 |nil=>exact XT (d,a,[]) e g rfl
 |cons b h=>exact XU d a (b::h) b h rfl e g j
abbrev GF(d:cd)(a:m eh)(b:m Int):m aq:=[jT d,.cells 33 lv,.cells 33 [cK a2 d.1,.x 4 2 (c a) (bg.fn a),cK a3 d.2.2,cF,.x 5 1 (c b) (az.fn b)],jT d,.x 84 2 (c a) (bg.fn a),.x 3 1 (c b) (az.fn b)]
def map_take{b:Type}{d}{aj:α->b}(g:e<c d)(a):(d.take (e+1)).map aj=(d.take e).map aj++[aj (d.getD e a)]:=by rw[ie g a,List.map_append];rfl
def Gl(d)(a:eh->Bool):c (ho (d.filter a))<=c (ho d):=by
 induction d with
 |nil=>simp
 |cons e d b=>
  unfold ho at *;grind
def T8(h)(b)(i)(o:dI b)(y:q_ b):X q 49 [Q h,bW b,az.B i] [] (jV (j8 h b i).1 (j8 h b i).2) []:=by
 refine X.bA func49 rfl rfl rfl λN=>?_;have k:a_ q [(78,BJ),(79,Bz),(80,uR),(81,BB)]:=.cons M2 (.cons MQ (.cons zu (.cons MT .nil)));have M:=o.aY;have F:=o.aZ;unfold j8;cases r:hV h b with
 |false=>
  refine be k [15] a ?_ ?_
  .simp only[U,a2.l,a2.U,bg.l,bg.U,a3.l,a3.U,r,o.aY,o.aZ,ba,a9,hJ];exact y.dW
  refine g.freeze 6 1 a a a ?_;refine g.b8 bb [] a ?_ a a a eG;simp
 |true=>
 rw[bo a];refine be k [-15,906] a ?_ ?_
 .simp only[U,a2.l,a2.U,bg.l,bg.U,a3.l,a3.U,r,o.aY,o.aZ,o,ba,a9,ft];exact y.dW
 refine g.cq 2 1 84 2 (bg.fn []) a a ?_;refine g.cq 2 4 3 1 (az.fn []) a a ?_;refine cU k a B ?_;refine g.aC 6 (λe=>e<=c b.2.1) (λe:Nat=>[(2,az.B i),(4,aI 0 0),(6,aI 1 0),(8,aI 2 0),(9,aI 3 0),(10,Q e)])
  (λe=>GF b ((b.2.1.take e).filter λj=>i.contains j.1) []) (λe=>c b.2.1-e) 0 a ?_ a ?_ a w ?_
 .simp
 .simp[a2.l,bg.l,a3.l]
 intro e p;have C:=CK b.2.1 (λj=>i.contains j.1) p;by_cases m:e<c b.2.1
 .have u:b.2.1.getD e bg.F=b.2.1.getD e (0,[]):=rfl;have s:(b.2.1.take (e+1)).filter (λj=>i.contains j.1)=if i.contains (b.2.1.getD e (0,[])).1=l then(b.2.1.take e).filter (λj=>i.contains j.1)++[b.2.1.getD e (0,[])]else(b.2.1.take e).filter (λj=>i.contains j.1):=CL m (0,[]);generalize(b.2.1.take e).filter (λj=>i.contains j.1)=x at *;generalize b.2.1.getD e (0,[])=j at *;cases z:i.contains j.1 with
  |true=>
   rw[bo z]at s;have d:=bg.aX x j;refine be k [30,40] a ?_ (g.av (e+1) a D ?_ m w)
   .simp[-ak,-List.contains_eq_mem,u,m,z,az.l,az.U,a7,show rH.bytes=32 from a];omega
   exact QQ
  |false=>
   rw[bj ds]at s;refine be k [30,-40] a ?_ (g.av (e+1) a D ?_ m w)
   .simp[-ak,-List.contains_eq_mem,u,m,z,az.l,az.U,a7];omega
   simp_all
 obtain rfl:e=c b.2.1:=w;rw[c6]at C⊢;have E:=Gl b.2.1 λj=>i.contains j.1;have I:kq (b.1,b.2.1.filter (λj=>i.contains j.1),b.2.2):=λj d=>o.bp j (jd.1 d).1;have J:=y.eB;generalize b.2.1.filter (λj=>i.contains j.1)=A at *;refine be k [-30] a D (g.az ?_);refine cU k a B ?_;refine g.aC 6 (λe=>e<=c b.1) (λe:Nat=>[(2,az.B i),(4,aI 0 0),(6,aI 1 0),(8,aI 2 0),(11,Q e)])
  (λe=>GF b A ((b.1.take e).map (·.1))) (λe=>c b.1-e) 0 a D a D a w ?_
 intro e p;have K:c ((b.1.take e).map (·.1))=e:=bQ;by_cases m:e<c b.1
 .have u:b.1.getD e a2.F=b.1.getD e (0,[]):=rfl;have s:=map_take (aj:=λt:b'=>t.1) m (0,[]);generalize(b.1.take e).map (λt:b'=>t.1)=x at *;generalize b.1.getD e (0,[])=t at *;have d:=az.aX x t.1;refine be k [57] a ?_ (g.av (e+1) a D ?_ m w)
  .simp[-ak,u,m,a7,show d8.bytes=8 from a];omega
  exact QQ
 obtain rfl:e=c b.1:=w;rw[c6];refine be k [-57] a D (g.az ?_);refine cU k a bE (g.freeze 8 2 a a a ?_);refine g.freeze 6 1 a a a ?_;refine g.b8 bb [] a ?_ a a a eG;simp[bg.l]
abbrev G2:bI:=j' c1 o0 (eK az) (λd a b=>jV (j8 d a b).1 (j8 d a b).2) λ_ a _=>[dI a,q_ a]
def ac0:bK q 49 G2:=.c5 λd e b a=>T8 d e b a.1 a.2
def rE(a:dH)(b:b'):b':=if b.1=a.2.1/\0<=a.2.2.1/\a.2.2.1<c b.2 then(b.1,gT b.2 a.2.2.1.toNat a.2.2.2)else b
def kk(a:cd)(b:dH):cd:=
 if b.1=1 then(a.1.filter λd=>!(d.1==b.2.1),a.2.1,a.2.2)
 else if b.1=2 then(if b.2.1<0∨b.2.1>c a.2.2 then a else(a.1,a.2.1.filter λd=>!jq b.2.1.toNat a.2.2 d,a.2.2.take b.2.1.toNat))
 else if b.1=3 then(a.1.map (rE b),a.2)
 else if b.1=4 then(if 0<=b.2.1/\b.2.1<c a.2.2 then(a.1,a.2.1,a.2.2.set b.2.1.toNat (3-(a.2.2.getD b.2.1.toNat (0,0)).1,(a.2.2.getD b.2.1.toNat (0,0)).2))else a)
 else a
def J4{b}{d}(e:pP b d):b.1.map (rE d)=b.1:=by apply pZ D;intro g h a;rw[List.getElem_map];have:=e g a;rw[ak,bH a,h0]at this;exact bj this
def J3{b}{d}{i0}(a:sb b d i0 A):b.1.map (rE d)=(g6 b d i0 A).1:=by
 have m:=a.a_;apply p4;intro e;have j:(g6 b d i0 A).1=b.1.set i0 ((b.1.getD i0 (0,[])).1,gT (b.1.getD i0 (0,[])).2 A d.2.2.2):=rfl;rw[j,m'];by_cases h:e<c b.1
 .have s:b.1[e]?=f (b.1.getD e (0,[])):=M;by_cases g:e=i0
  .subst g;rw[io h,s];have o:=a.gp;have i:=a.b2;simp only[lE,rE];rw[bo ⟨a.cZ,by omega,by omega⟩,i,cY]
  rw[kA (λa=>g a.symm),s];simp only[lE,rE];rw[bj (λk=>a.bT e h g k.1)]
 grind
structure R4(q:af T)(b:cd)(d:dH)(aA:cd):Prop where
 eN:dI aA
 c_:X q 77 [bW b,er d] [] (bW aA) []
def rW{b}(k:oP b)(d):R4 q b d (kk b d):=by
 have a:=k.size;have C:=a.aJ;unfold kk;by_cases m:d.1=1
 .rw[bo m];exact⟨⟨fQ (kz _ _) a.aY,λs g=>a.bm s (jd.1 g).1,a.aZ,a.bp,a.aJ⟩,Xw b d a m⟩
 rw[bj m];by_cases h:d.1=2
 .rw[bo h];by_cases e:d.2.1<0∨d.2.1>c b.2.2
  .rw[bo e];exact⟨a,Jj b d b a h (T2 b d.2.1 a.aJ e)⟩
  rw[bj e];have o:d.2.1=(d.2.1.toNat:Nat):=w;have t:=T3 (q:=q) b d.2.1.toNat w a.aZ k.num a.aJ;rw[<-o]at t;refine⟨⟨a.aY,a.bm,fQ (kz _ _) a.aZ,λB z=>a.bp B (jd.1 z).1,?_⟩,Jj b d _ a h t⟩;simp;omega
 rw[bj h];by_cases e:d.1=3
 .rw[bo e];rcases J5 k d with⟨i0,A,p⟩|o
  .have r:(b.1.map (rE d),b.2)=g6 b d i0 A:=by rw[J3 p]
   rw[r];refine⟨⟨by simpa using a.aY,λs g=>?_,a.aZ,a.bp,a.aJ⟩,Xx b d a e i0 A p⟩;rcases AE g with g|rfl
   .exact a.bm s g
   simpa[gT]using a.bm _ (vc p.a_)
  rw[J4 o];exact⟨a,XD b d a e o⟩
 rw[bj e];by_cases i:d.1=4
 .rw[bo i];by_cases j:0<=d.2.1/\d.2.1<c b.2.2
  .rw[bo j];have x:(b.2.2.getD (0+d.2.1.toNat) a3.F)∈b.2.2:=M;have t:=k.aJ _ x;have y:a7 .i64 (3-lq b d):=Rq;have u:=Xz (q:=q) b d a i j.1 j.2 y;have r:b.2.2.set (0+d.2.1.toNat) (3-lq b d,(b.2.2.getD (0+d.2.1.toNat) a3.F).2)=b.2.2.set d.2.1.toNat (3-(b.2.2.getD d.2.1.toNat (0,0)).1,(b.2.2.getD d.2.1.toNat (0,0)).2):=M;rw[r]at u;exact⟨⟨a.aY,a.bm,a.aZ,a.bp,by simpa using a.aJ⟩,u⟩
  rw[bj j];exact⟨a,XA b d a i j⟩
 rw[bj i];exact⟨a,XC b d a m h e i⟩
def C_{b}(m:oP b)(d):X q 63 [bW b,er d] [] (bW (kk b d)) []:=by
 have e:=m.size;have u:=e.aJ;unfold kk;by_cases j:d.1=1
 .rw[bo j];exact Wd b d e j
 rw[bj j];by_cases g:d.1=2
 .rw[bo g];by_cases a:d.2.1<0∨d.2.1>c b.2.2
  .rw[bo a];exact Ct (Wh b d e g a)
  rw[bj a];have k:d.2.1=(d.2.1.toNat:Nat):=w;exact Wf b d e g d.2.1.toNat k w
 rw[bj g];by_cases a:d.1=3
 .rw[bo a];rcases J5 m d with⟨i0,A,o⟩|k
  .have p:(b.1.map (rE d),b.2)=g6 b d i0 A:=by rw[J3 o]
   rw[p];exact Wi b d e a i0 A o
  rw[J4 k];exact Wk b d e a k
 rw[bj a];by_cases h:d.1=4
 .rw[bo h];by_cases i:0<=d.2.1/\d.2.1<c b.2.2
  .rw[bo i];have r:(b.2.2.getD (0+d.2.1.toNat) a3.F)∈b.2.2:=M;have x:=m.aJ _ r;have s:a7 .i64 (3-lq b d):=Rq;have t:=Wn (q:=q) b d e h i.1 i.2 s;grind
  rw[bj i];exact Wm b d e h i
 rw[bj h];exact Ct (Wo b d e j g a h)
def SG{d:cd}(b:oP d)(a:dH):RM q d a (kk d a):=⟨(rW (q:=q) b a).eN,C_ b a,(rW b a).c_⟩
structure m3(d:m (Int×Int)):Prop where
 aJ:∀F∈d,(1<=F.1/\F.1<=2)/\1<=F.2/\F.2<=20
 cy:c d<=9
def m3.of{d}(a:gC d=l):m3 d:=⟨(Dk a).1,(Dk a).2⟩
def m3.take{d}(a:m3 d)(e):m3 (d.take e):=⟨λg b=>a.aJ g (gY b),by have:=a.cy;rw[List.length_take];omega⟩
def MK{d}(a:e<c d):fX (d.take (e+1))=64*fX (d.take e)+21*(d.getD e (0,0)).1+(d.getD e (0,0)).2:=by unfold fX;rw[ie a (0,0),uu];rfl
def X3(d)(e:m3 d):X q 120 [a3.B d] [] (Q (fX d)) []:=by
 refine X.J func120 rfl λm=>?_;have s:=e.cy;refine aW a B (g.aC 0 (λb=>b<=c d) (λb:Nat=>[(0,a3.B d),(3,Q (fX (d.take b))),(4,Q b)]) (λ_=>[]) (λb=>c d-b) 0 a (by simp[fX]) a B a w ?_);intro b j;by_cases h:b<c d
 .have i:d.getD b a3.F=d.getD b (0,0):=rfl;have p:=MK h;have o:=v3 e.aJ e.cy b;have k:=v3 e.aJ e.cy (b+1);have r:=e.aJ _ (mx h (0,0));refine a5 [8] a ?_ (g.av (b+1) a ?_ B h w)
  .simp only[U,cY,i,a7,bw,ba,a9];exact fv
  simp only[U.X,U,cY,i,ba,a9];and_intros<;>first|exact bs.same|omega
 obtain rfl:b=c d:=w;rw[c6];exact PR
abbrev HE:bI:=dc (eK a3) (λa=>Q (fX a)) λa=>[m3 a]
def adO:bK q 120 HE:=.a9 λb a=>X3 b a
abbrev kF(a:Int×Int):y:=.n (.agg [.c (.int .i64 a.1),.c (.int .i64 a.2)])
abbrev mU(a:(Int×Int)×Int):y:=.S [.agg [.c (.int .i64 a.1.1),.c (.int .i64 a.1.2)],.Q (.c (.int .i64 a.2))]
def Xv(A)(d)(s:c d<=4000000):X q 76 [kF A,a3.B d] [] (mU (fJ A d)) []:=by
 refine X.bA func76 rfl rfl rfl λr=>?_;have b:a_ q [(119,n4),(120,HE)]:=.cons MS (.cons adO .nil);unfold fJ;cases bX:gC d with
 |false=>
  rw[bj D];exact be b [8,15,20] a FP r8
 |true=>
 have h:=m3.of bX;by_cases aj:A.1<=c d
 rotate_left
 .rw[bj zM];exact be b [-8,15,20] a Oz r8
 by_cases O:0<=A.1
 rotate_left
 .rw[bj pL];exact be b [-8,-15,20] a Oe r8
 rw[bo ⟨rfl,aj,O⟩];have p:(A.1.toNat:Int)=A.1:=re O;have k:a3.ad (bV (c d) (f A.1)-bV 0 n) (fA (bV 0 n) (a3.fn d))=d.take A.1.toNat:=by have m:bV (c d) (f A.1)-bV 0 n=A.1.toNat:=wD;rw[m,a3.hg d (λo i=>by simp[fA,bV]) w]
 have j:a3.bK (bV (c d) (f A.1)-bV 0 n) (fA (bV 0 n) (a3.fn d)):=a3.g5 d (λo i=>by simp[fA,bV]);by_cases e:fX (d.take A.1.toNat)=A.2
 .rw[bo e];refine be b [-8,-15,-20,-29] a ?_ ?_
  .simp only[U,jh,k,j,bX,h,h.take,e,a3.l,a3.U,ft,bw,dp,ip,ba,a9];omega
  refine g.freeze 4 1 a a a ?_;exact g.b8 bb [] a (by simp[a3.l]) a a a eG
 rw[bj e];refine be b [-8,-15,-20,29] a ?_ ?_
 .simp only[U,jh,k,j,bX,h,h.take,a3.l,a3.U,ft,bw,dp,iJ,ba,a9];and_intros<;>first|exact e|omega
 exact r8
def fC(d:Int)(b:dN)(a:Int)(e:m cM):dN×Bool:=
 if qz d b a e=l then(if fu d b.1 e=l then(b,v)else(nH d b a e,l))else(hj,v)
structure uk(p:dN):Prop where
 a':dI p.1
 cl:q_ p.1
 cy:c p.2.1<=4000000
 dc:c p.2.2<=4000000
def fN.cB{p}(a:fN j p)(b:j<=1000000):uk p:=⟨a.a'.toj1.du,a.jX,by have:=a.cl;omega,by have:=a.dc;omega⟩
def X8(h)(p)(bT)(o)(j:uk p):X q 75 [Q h,gz p,Q bT,bu.B o] [] (jV (fC h p bT o).1 (fC h p bT o).2) []:=by
 refine X.bA func75 rfl rfl rfl λL=>?_;have i:a_ q [(115,HF),(45,kE),(46,sD),(51,xu),(117,BC),(118,xr)]:=.cons adP (.cons lo (.cons t46 (.cons Ew (.cons MU (.cons Eu .nil)))));have aa:=j.cl;have x:(p.1,p.2.1,p.2.2)=p:=rfl;have V:fC h p bT o=if hg h p=l then(if 1<=bT/\bT<=2 then(if dM o=l then(if fu h p.1 o=l then(p,v)else(nH h p bT o,l))else(hj,v))else(hj,v))else(hj,v):=by unfold fC qz;by_cases aj:hg h p=l<;>by_cases C:1<=bT/\bT<=2<;>by_cases r:dM o=l<;>simp[aj,C,r]
 rw[V];cases aj:hg h p with
 |false=>
  rw[bj D];refine be i [18,23,28] a ?_ ?_
  .simp only[U,a2.l,a2.U,bg.l,bg.U,a3.l,a3.U,az.l,az.U,x,aj,aa,hJ,ba,a9]
  exact zU
 |true=>
 rw[bo a];by_cases C:1<=bT/\bT<=2
 rotate_left
 .rw[bj C];refine be i [-18,23,28] a ?_ ?_
  .simp only[U,a2.l,a2.U,bg.l,bg.U,a3.l,a3.U,az.l,az.U,x,aj,aa,ft,ba,a9];grind
  exact zU
 rw[bo C];cases r:dM o with
 |false=>
  rw[bj D];exact be i [-18,-23,28] a FG zU
 |true=>
 rw[bo a];have s:=rZ.1 aj;have aY:=s.toiC.gE;have K:=aY.eo;have k:=Xs (q:=q) h p.1 bT o s.key j.a' K (oI r) aY.j3;cases u:fu h p.1 o with
 |true=>
  rw[u,bo a]at k;rw[bo a];refine be i [-18,-23,-28] a FG (g.aB k [] a (be i [42] a ?_ ?_))
  .simp only[U,a2.l,a2.U,bg.l,bg.U,a3.l,a3.U,az.l,az.U,x,j.a',j.cy,j.dc,ft,hJ,ba,a9]
  refine g.freeze 8 1 a a a ?_;exact g.b8 bb [] a FT a a a eG
 |false=>
 rw[u,bj D]at k;rw[bj D];refine be i [-18,-23,-28] a FG (g.aB k [] a ?_);have F:=aY.cL (h:=h) (o:=o) (bT:=bT) (by have:=xf 1 s.cI λm J=>(s.aZ m J).1;omega) r u;have R:(eM h p.1 bT o).2.1.length=c p.1.2.1+1:=by simp[eM]
 have S:(eM h p.1 bT o).2.1.getD ((eM h p.1 bT o).2.1.length-1) (0,[])=fD (db p.1) h o:=by rw[R];simp[eM,ak]
 have N:=F.c7 (fD (db p.1) h o) M;have Y:=v9 N.2;have H:=tc (fD (db p.1) h o).2;have G:=F.eu;have W:=j.cy;unfold nH;generalize eM h p.1 bT o=e at *;generalize fD (db p.1) h o=m at *;have T:((c e.2.1:Int)-1).toNat=c e.2.1-1:=w;have z:e.2.1.getD ((c e.2.1:Int)-1).toNat bg.F=m:=by rw[T];exact S
 refine be i [-42] a ?_ ?_
 .simp only[U,z,a2.l,a2.U,bg.l,bg.U,a3.l,a3.U,az.l,az.U,cw.l,cw.U,x,j.a',j.cy,j.dc,a7,ft,hJ,ba,a9];omega
 rw[z];simp only[cw.l];generalize gE m.2=b at *;refine g.aC 4 (λd=>d<=c b) (λd:Nat=>[(5,aI 0 0),(8,aI 1 0),(10,aI 2 0),(12,aI 3 0),(13,az.B b),(14,Q d)])
  (λd=>[gr p,.cells 33 lv,jT e,gr (e,(b.take d).foldl e5 p.2.1,p.2.2)]) (λd=>c b-d) 0 a ?_ a ?_ a w ?_
 .simp
 .exact FT
 intro d O;by_cases t:d<c b
 .have E:b.getD d az.F=b.getD d 0:=rfl;have y:=yh e5 p.2.1 t;have I:=qm p.2.1 (b.take d);rw[List.length_take]at I;generalize(b.take d).foldl e5 p.2.1=j2 at *;have A:=az.l j2;refine be i [58] a ?_ (g.av (d+1) a ?_ ?_ t w)
  .simp[-ak,E,t,A,az.U,a7];omega
  .simp
  rw[y];simp[-ak,E,A]
 obtain rfl:d=c b:=w;rw[c6];refine be i [-58] a D (g.az ?_);exact cU i a B zU
def Jn(d)(b:m3 d)(A)(r:A<=c d):X q 39 [ax (ix d),Q A] [] (Q (fX (d.take A))) []:=by
 refine X.J func39 rfl λs=>?_;have x:=b.cy;refine aW a B (g.loop (λe=>e<=A) (λe:Nat=>[(0,ax (ix (d.drop e))),(1,Q ((A:Int)-e)),(5,Q (fX (d.take e)))]) (λ_=>[]) (λe=>A-e) 0 w (.cons a (eH a (by simp[fX]))) a ?_);intro e m;by_cases k:e<A
 .have h:=MK (d:=d) (e:=e) w;have t:=v3 b.aJ b.cy e;have p:=v3 b.aJ b.cy (e+1);have u:=b.aJ _ (mx (e:=e) (d:=d) w (0,0));rw[Ix (e:=e) w]
  generalize d.getD e (0,0)=o at *;generalize j:d.drop (e+1)=i;cases i<;>(
   refine aW a B (g.aK (tq a underlying90 a a a) a a ?_);refine a5 [8,11] a ?_ ⟨e+1,k,by omega,.cons (by rw[j];rfl) (eH a ?_),a⟩
   .simp only[U,a7,bw,ba,a9];exact FF
   .simp only[U.X,U,ba,a9];and_intros<;>omega)
 obtain rfl:e=A:=w;generalize d.drop e=i;cases i with
 |nil=>
  refine aW a B (g.aK (rP a underlying90 a a a) a a ?_);refine a5 [-8,-11] a D (g.bs a a ?_);exact ww
 |cons o i=>
  refine aW a B (g.aK (tq a underlying90 a a a) a a ?_);refine a5 [8,-11] a D (g.bs a a ?_);exact ww
def Wu(d)(i:c d<=4000000):X q 40 [a3.B d] [] (Q (if gC d=l then fX d else -1)) []:=by
 refine X.J func40 rfl λj=>?_;have h:=I5 (q:=q) d i;cases bX:gC d with
 |false=>
  have b:a_ q [(37,n4)]:=.cons tG .nil;refine be b [5] a FP (g.ao a)
 |true=>
  have e:=Jn (q:=q) d (.of bX) (c d) (bC _);rw[c6]at e;have b:a_ q [(37,n4),(38,dU [a3.B d] (ax (ix d))),(39,dU [ax (ix d),Q (c d)] (Q (fX d)))]:=.cons tG (.cons (ef h) (.cons (ef e) .nil));generalize fX d=k at *;cases d<;>(
   refine be b [-5] a ?_ (g.ao a);simp only[U,bX,a3.l,a3.U,ft,ba,a9]
   and_intros<;>rfl)
def Cu(A)(d)(i:c d<=4000000):X q 13 [kF A,a3.B d] [] (mU (fJ A d)) []:=by
 refine X.bA func13 rfl rfl rfl λt=>?_;have m:=I5 (q:=q) d i;have h:=Wu (q:=q) d i;have e:a_ q [(37,n4)]:=.cons tG .nil;unfold fJ;cases bX:gC d with
 |false=>
  rw[bj D];exact be e [9,16,21] a FP r8
 |true=>
 have r:=m3.of bX;by_cases j:A.1<=c d
 rotate_left
 .rw[bj (by simp[j])];exact be e [-9,16,21] a Oz r8
 by_cases O:0<=A.1
 rotate_left
 .rw[bj pL];exact be e [-9,-16,21] a Oe r8
 rw[bo ⟨rfl,j,O⟩];have p:(A.1.toNat:Int)=A.1:=re O;have k:=Jn (q:=q) d r A.1.toNat w;rw[bo bX]at h;rw[p]at k;have hM:a_ q [(37,n4),(38,dU [a3.B d] (ax (ix d))),(39,dU [ax (ix d),Q A.1] (Q (fX (d.take A.1.toNat)))),(40,dU [a3.B d] (Q (fX d)))]:=.cons tG (.cons (ef m) (.cons (ef k) (.cons (ef h) .nil)));generalize fX d=s at *;generalize fX (d.take A.1.toNat)=o at *;by_cases b:o=A.2
 .rw[bo b];cases d<;>(
   refine be hM [-9,-16,-21,-23] a ?_ ?_
   .simp only[U,bX,b,a3.l,a3.U,ft,bw,dp,ip,ba,a9];exact qW
   refine g.freeze 4 1 a a a ?_;exact g.b8 bb [] a D a a a eG)
 .rw[bj b];cases d<;>(
   refine be hM [-9,-16,-21,23] a ?_ ?_
   .simp only[U,bX,a3.l,a3.U,ft,bw,dp,iJ,ba,a9];and_intros<;>first|exact b|rfl|omega
   refine g.freeze 4 1 a a a ?_;exact g.b8 bb [] a D a a a eG)
def n3(a:Int):Bool:=decide (1<=a/\a<=2)
def Ub(j):X q 34 [Q j] [] (bf (n3 j)) []:=by
 refine X.J func34 rfl λb=>?_;unfold n3;by_cases t:j=1
 .refine a5 [5] a gH (g.ao a ?_);simp[t]
 refine a5 [-5] a gH (g.ao a ?_);simp only[U,a9];rw[oX];simp only[gL,bw];omega
abbrev uQ:bI:=dc c1 (λa=>bf (n3 a)) λ_=>[]
def zt:bK q 34 uQ:=.a9 λa _=>Ub a
def J8:cp:=⟨1,8,v,TypeDesc.map 3 4,[.val (.map n)],[]⟩
def YX:eJ T 137 J8:=⟨underlying137,rfl,⟨Tryz.t137,_,lW type137,rfl,rfl,rfl,rfl,⟨#[],rfl⟩,rfl⟩,λb=>absurd a b⟩
def dd:b2 T ((137,J8)::eO):=b2.cons YX bb
abbrev sJ(a:Y):y:=cL a
abbrev jg(a:Y)(b:m Int):aq:=.K (i' a b)
def IG(s)(e d):X q 84 [sJ s,az.B d] [jg s e] (.S []) [jg s (e++d)]:=by
 refine X.J func84 rfl λh=>?_;have m:=h.B 1 a;refine g.aN b6 dd a_.nil [] 100 a B (g.aC 1 (λb=>b<=c d) (λb:Nat=>[(0,sJ s),(6,az.B d),(7,Q (c d)),(8,Q b)]) (λb=>[jg s (e++d.take b)]) (λb=>c d-b) 0 a D a D a w ?_);intro b k;by_cases j:b<c d
 .have o:d.getD (b:Int).toNat az.F=d.getD b 0:=ds;refine g.aN b6 dd a_.nil [9] 100 a bQ (g.aK (a1.jO a underlying137 underlying3 (i:=0) a a a a) a a ?_);refine g.aN b6 dd a_.nil [] 100 a bE (g.av (b+1) a D ?_ j w);simp_all
 obtain rfl:b=c d:=w;rw[c6];refine g.aN b6 dd a_.nil [-9] 100 a D (g.az ?_);exact bY.di [0] a D a a a h6
def WR(b)(d)(j):X q 87 [Q j,ax (.R [.val b])] [jg b d] (bf (!d.contains j)) [jg b d]:=by refine X.J func87 rfl λh=>?_;refine g.aN b6 dd a_.nil [] 100 a B ?_;refine g.aK (a1.jM a underlying137 underlying3 (λe=>Tryz.zeroValue4 e) (i:=0) a a a) a a ?_;exact g.aN b6 dd a_.nil [] 100 a B (g.aH [0] a D h6)
def VL(b)(j):X q 89 [fH b,ax (.R [.int .i64 j])] [] (bf (b.1==j)) []:=by refine X.J func89 rfl λd=>?_;exact aW a B (g.ao a)
def Cq(b)(d:c b.2<=4000000)(e:c (d_ b.2)<=4000000):X q 86 [iR b] [] (az.B (gd b)) []:=by refine X.J func86 rfl λh=>?_;refine aW a B ?_;refine g.aB (XH b d e) [] a ?_;exact aW a B (g.ao a)
def oR(g:Y)(h:Nat)(b:Array MapEntry)(e:Nat):Y->(Nat->Option Obj)->Prop:=λi a=>i=g/\∀d,a d=if d=h then f (.map b e)else n
def iW(a:MapEntry):Int:=match a.key with|.int _ b=>b|_=>0
structure oS(O:Y)(d:m Int)(a':Nat)(V:Array MapEntry)(s:Nat):Prop where
 cl:O=.map (f a')
 a5:MapKept.Stamped V s
 cw:∀aw∈V.toList,aw.key=.int .i64 (iW aw)/\a7 .i64 (iW aw)/\aw.val=.bool l
 mem:∀j,j∈d↔j∈V.toList.map iW
def i'.j5{O}{d}(s:i' O d aa k6):∃b:{b:Nat×Array MapEntry×Nat // oS O d b.1 b.2.1 b.2.2},oR O b.1.1 b.1.2.1 b.1.2.2 aa k6:=by
 obtain⟨j,x,g,p,k,w,t,u,o⟩:=s;have i:∀a∈g.toList,a.key=.int .i64 (iW a)/\a7 .i64 (iW a)/\a.val=.bool l:=λa e=>by
  obtain⟨m,k1,q,r⟩:=u a e;have:iW a=m:=by simp[iW,k1]
  rw[this];exact⟨k1,r,q⟩
 refine⟨⟨(x,g,p),k,t,i,λm=>?_⟩,j,w⟩;rw[o,hn];constructor
 .rintro⟨a,e,h⟩;exact⟨a,e,by simp[iW,h]⟩
 rintro⟨a,e,rfl⟩;exact⟨a,e,(i a e).1⟩
def oS.cO{O}{d}{a'}{V}{s}(e:oS O d a' V s)(g:oR O a' V s aa k6):i' O d aa k6:=by
 refine⟨g.1,a',V,s,e.cl,g.2,e.a5,λb a=>⟨_,(e.cw b a).1,(e.cw b a).2.2,(e.cw b a).2.1⟩,λi=>?_⟩;rw[e.mem,hn];constructor
 .rintro⟨b,a,rfl⟩;exact⟨b,a,(e.cw b a).1⟩
 rintro⟨b,a,h⟩;exact⟨b,a,by simp[iW,h]⟩
def uf(a:Array MapEntry)(pre:m Int)(b:Array Nat):Prop:=pre.Nodup/\(∀e∈pre,e∈a.toList.map iW)/\∀d∈a.toList,d.born∈b↔iW d∈pre
section
variable {O:Y}{d:m Int}{a' s:Nat}{V:Array MapEntry}(bl:oS O d a' V s)
include bl
def oS.ay:(V.toList.map iW).Nodup:=by
 have b:V.toList.map (·.key)=(V.toList.map iW).map (Value.int .i64):=by rw[ux];exact p5 λa d=>(bl.cw a d).1
 have:=bl.a5.2.2;rw[b]at this;rw[List.Nodup,rf]at this;exact this.imp λb a=>b (eD (Value.int .i64) a)
def oS.step{pre}{dy}(i:uf V pre dy){b}(g:b∈V.toList)(j:b.born∉dy):uf V (pre++[iW b]) (dy.push b.born)/\iW b∉pre:=by
 have k:iW b∉pre:=λm=>j ((i.2.2 b g).2 m);refine⟨⟨by grind[uf],λo e=>?_,λh a=>?_⟩,k⟩
 .rcases fx.1 e with e|e
  .exact i.2.1 o e
  rw[gJ.1 e];exact List.mem_map_of_mem g
 simp only[Array.mem_push,fx,gJ,i.2.2 h a];refine or_congr_right ⟨λd=>?_,λd=>?_⟩
 .rw[Dy bl.a5.2.1 a g d]
 rw[Dy bl.ay a g d]
def oS.over{pre}{dy}(g:uf V pre dy)(i:∀e∈V.toList,e.born∈dy):pre.Nodup/\∀b,b∈pre↔b∈d:=by refine⟨g.1,λb=>⟨λa=>(bl.mem b).2 (g.2.1 b a),λa=>?_⟩⟩;obtain⟨e,h,rfl⟩:=hn.1 ((bl.mem b).1 a);exact(g.2.2 e h).1 (i e h)
end
def yd{b}:∀a,a<1->(0::b)[a]?=f a:=λa d=>by simp_all
abbrev xx(a:Y):N:=.fn (.func 184) [] [.R [.val a]]
def VU(O):X q 143 [sJ O] [] (ax (xx O)) []:=by refine X.J func143 rfl λb=>?_;refine g.aN b6 dd a_.nil [901] 100 a B ?_;refine g.freeze 1 0 a a a ?_;exact g.aN b6 dd a_.nil [] 100 a B (g.ao a)
set_option maxRecDepth 20000 in
def VV{ac:Type}{O}{d}{a'}{V}{s}(k:oS O d a' V s){h}{e}{u}(t w:ac->aq)(x:m Int->ac->Prop)(o:ac)(S:x [] o)(aJ:∀j,t j≠.bl/\w j≠.bl)(i:∀pre b j K,b∉pre->pre.Nodup->(∀bF∈pre++[b],bF∈d)->x pre j->iE (ι:={p:ac // x (pre++[b]) p}) q 3 [Q b] [.K (oR O a' V s),t j,w j,.loop h e u,.K K] l (λp=>[.K (oR O a' V s),t p.1,w p.1,.loop h e u,.K K])):
  bk (ι:={C:ac×m Int×Array Nat // (C.2.1.Nodup/\∀J,J∈C.2.1↔J∈d)/\x C.2.1 C.1}) q 184 [.n (.Q (.aM 3)),ax (.R [.val O])] [.K (oR O a' V s),t o,w o,.loop h e u] (λ_=>.S []) (λz=>[.K (oR O a' V s),t z.1.1,w z.1.1,.loop h e u,.K (kY a' s z.1.2.2)]):=by
 obtain rfl:=k.cl;have F:uc (oR (.map (f a')) a' V s) a' V s:=λY U W=>by rw[W.2];simp
 refine bk.bP func184 rfl rfl rfl (g.aO ?_);refine g.aN b6 dd a_.nil [] 100 a B (g.range (qA:=0) (a':=a') a a a a underlying137 (b0.j8 a) a F ?_);refine g.aN b6 dd a_.nil [] 100 a B ?_;show b3 q _ (.loop _) _ _ _;refine b3.loop (br:=ac×m Int×Array Nat) (λb=>uf V b.2.1 b.2.2/\x b.2.1 b.1) (λ_=>[(0,.n (.Q (.aM 3))),(5,.n (.Q (.aM 4)))]) (λb=>[.K (oR (.map (f a')) a' V s),t b.1,w b.1,.loop h e u,.K (kY a' s b.2.2)]) (λb=>c V.toList-c b.2.1) (o,[],#[]) ⟨⟨List.nodup_nil,by simp,by simp⟩,S⟩ (eH a D) a ?_;rintro⟨j,pre,dy⟩ ⟨I,M⟩;refine g.aO ?_;refine g.aN b6 dd a_.nil [] 100 a B (g.next (qA:=0) (kg:=4) (a':=a') (s:=s) (dy:=dy) (V:=V) a a a a a a a a F k.a5 (λaw r=>⟨by rw[(k.cw aw r).1];rfl,by rw[(k.cw aw r).2.2];rfl⟩) λz=>?_);cases z with
 |over E=>
  refine g.aN b6 dd a_.nil [-7] 100 a D (g.fD a a ?_);exact⟨⟨(j,pre,dy),k.over I E,M⟩,.inr a,a,qE (bS:=.K _) D (qE (aJ j).1 (qE (aJ j).2 a)),[],.S [],[],a,a,a,B⟩
 |Q aw r G=>
  refine g.aN b6 dd a_.nil [7] 100 a D ?_;obtain⟨k1,R,N⟩:=k.cw aw r;obtain⟨A,T⟩:=k.step I r G;refine g.entry (qA:=0) (kg:=4) (a':=a') (s:=s) (dy:=dy) (V:=V) (aw:=aw) (bF:=.S [.Q (.c (.int .i64 (iW aw))),.Q .any]) a a a a a a a F k.a5 r (λX=>⟨[aw.key,aw.val],a,?_,by rw[N];rfl,B⟩) ?_
  .rw[k1];exact Rd.int R
  refine g.aN b6 dd a_.nil [] 100 a B (g.yield (i pre (iW aw) j _ T I.1 (λbF y=>(k.mem bF).2 (A.2.1 bF y)) M) a a a a a a λp=>?_);refine g.aN b6 dd a_.nil [-13] 100 a D ⟨(p.1,pre++[iW aw],dy.push aw.born),⟨A,p.2⟩,?_,eH a D,a⟩;have:=yM _ _ A.1 A.2.1;simp at this⊢;omega
abbrev Au(d:m Int):Type:={b:m Int // b.Nodup/\∀a,a∈b↔a∈d}
set_option maxRecDepth 20000 in
def TW(O)(d)(J:c d<=4000000):
  bk (ι:=Au d) q 225 [ax (.B l 0 0 λ_=>[]),ax (xx O)] [jg O d] (λb=>cC 1 (.B (c b.1) 1 0 (c b.1))) (λb=>[jg O d,jf (c b.1) b.1]):=by
 refine bk.e4 func225 rfl rfl rfl λI=>?_;refine de.seq (b3.bw (g.aO ?_));refine aW a B (de.seq (de.seq (b3.bw (g.aO ?_))));refine g.gy 0 (λb:{b:Nat×Array MapEntry×Nat // oS O d b.1 b.2.1 b.2.2}=>oR O b.1.1 b.1.2.1 b.1.2.2) a (λz e h=>i'.j5 h) ?_;rintro⟨⟨K,w,E⟩,b⟩;refine g.en 1 0 3 1 (az.fn []) a a ?_;refine aW a B (de.block ?_);refine de.rangeFunc (o3:=e' [.R [.val O]]) (b0.callee a) (VV (ac:=m Int) b (λo=>.cells 31 [.O 2 (.B (c o) 1 0 (c o))]) (λo=>jf (c o) o) (λpre o=>o=pre) [] a (λo=>⟨by simp,by simp⟩) ?_) (λp=>⟨a,by simp⟩) λp=>⟨.normal,a,?_⟩
 .rintro pre i o r j A s rfl;have F:c o+1<=4000000:=by have:=yM (o++[i]) d M s;simp at this;omega
  refine iE.intro (u:=n) a a a a (g.aO ?_);refine aW a B ⟨a,a,g.aO ?_⟩;refine aW a (by simp[a7,show d8.bytes=8 from a];omega) ?_;have k:=az.aX o i;refine⟨a,a,⟨o++[i],a⟩,jN a ?_⟩;simp only[U.X,U,dk,gx,ba,a9];and_intros<;>first|exact k|rfl|exact bs.same
 show de q _ _ _ _ _;obtain⟨⟨o,pre,y⟩,t,x⟩:=p;obtain rfl:o=pre:=x;refine b3.bw (g.aO ?_);refine g.gy (ι:=Unit) 0 (λ_=>i' O d) a (λz e h=>⟨(),b.cO h⟩) λ_=>?_;refine aW a B (g.bU (λk C D b=>⟨⟨o,t⟩,b⟩) (g.aH [0,2] a ?_ yd));simp
def Un(O)(d)(e:c d<=4000000):
  bk (ι:=Au d) q 183 [ax (xx O)] [jg O d] (λb=>cC 1 (.B (c b.1) 1 0 (c b.1))) (λb=>[jg O d,jf (c b.1) b.1]):=by refine bk.cd func183 rfl rfl rfl λh=>?_;refine aW a B (g.cb (TW O d e) [0] a a a a D a a a bn a bn a λb=>?_);refine aW a B (g.bu b (g.aH [0,1] a ?_ yd));simp
def abJ{d aM}(j:aM.Pairwise (· < ·))(m:∀g,g∈aM↔g∈d)(a:Au d):jU a.1=aM:=by
 have h:(jU a.1).Pairwise λb e=>b<=e:=(List.pairwise_mergeSort (λb e o h i=>by grind) (λb e=>by grind) a.1).imp λk=>by grind
 have i:(jU a.1).Nodup:=(zo _).nodup_iff.2 a.2.1;refine A4 ?_ j λg=>by rw[(zo _).mem_iff,a.2.2,m]
 exact(h.and i).imp λk=>by omega
def XP(O)(b aM:m Int)(o:c b<=4000000)(p:aM.Pairwise (· < ·))(k:∀e,e∈aM↔e∈b):
  X q 142 [ax (xx O)] [jg O b] (cC 1 (.B (c aM) 1 0 (c aM))) [jg O b,jf (c aM) aM]:=by
 refine X.J func142 rfl λs=>?_;refine aW a B (g.a2 (Un O b o) [0] a bn λd=>?_);have j:=abJ p k d;have t:=yM d.1 b d.2.1 λe r=>(d.2.2 e).1 r;have i:=Cv (q:=q) d.1 w;have h:c d.1=c aM:=by rw[<-j,qM]
 rw[j,h]at i;rw[h];refine aW a B (g.aB i [1] a (aW a B (g.aH [0,1] a ?_ yd)));simp
def Wp(O)(d aM)(h:c d<=4000000)(e:aM.Pairwise (· < ·))(i:∀b,b∈aM↔b∈d):
  X q 102 [sJ O] [jg O d] (az.B aM) [jg O d]:=by
 have j:X q 102 [sJ O] [jg O d] (cC 1 (.B (c aM) 1 0 (c aM))) ([jg O d]++[jf (c aM) aM]):=by refine X.J func102 rfl λk=>?_;refine g.aN b6 dd a_.nil [] 100 a B (g.aB (VU O) [] a (g.aN b6 dd a_.nil [] 100 a B (g.aB (XP O d aM h e i) [0] a (g.aN b6 dd a_.nil [] 100 a B (g.aH [0,1] a ?_ yd)))));simp
 exact X.bL j a D a (bC _)
abbrev jG(b:Nat)(a:m Int):aq:=.q 3 1 b (az.fn a)
end
section
variable {q:af T}
abbrev RY:={a:m Int // c a<=5}
def VR(A)(e:Nat->Int)(u:Bytes e)(h:Nat)(p:h<=500000)(j:A<=1048576):
  bk (ι:=RY) q 43 [aI 0 0] [e1 A e h] (λx=>az.B x.1) (λ_=>[e1 A e (h+5:Nat)]):=by
 refine bk.cd func43 rfl rfl rfl λF=>?_;refine a5 [902] a B (g.bG 3 3 1 a a ?_);refine aW a B (g.aC 2 (λb:Nat×m Int=>1<=b.1/\b.1<=6/\c b.2+1<=b.1) (λb=>[(0,aI 0 0),(3,.n (.Q (.x 1 1 (c b.2) (az.fn b.2)))),(4,Q b.1)]) (λb=>[e1 A e (h+(b.1-1):Nat),.x 3 1 (c b.2) (az.fn b.2)]) (λb=>6-b.1) (1,[]) a D a D a ⟨by decide,by decide,by decide⟩ ?_);rintro⟨d,i⟩ ⟨r,o,t⟩;simp only at r o t;by_cases E:d<=5
 .refine a5 [7] a bv (g.a2 (gA A e u (h+(d-1)) 2 w j w) [0] a bn ?_);rintro⟨y,z,C⟩;by_cases k:y=0
  .have s:=az.aX i (d:Int);refine a5 [12] a ?_ (g.av (d+1,i++[(d:Int)]) a ?_ ?_ ⟨by omega,by omega,by grind⟩ w)
   .simp only[U,k,a7,show d8.bytes=8 from a,gi,ba,a9];exact fv
   .exact QW
   exact QW
  refine a5 [-12] a bE (g.av (d+1,i) a D ?_ ⟨by omega,by omega,by exact bv⟩ w);exact bv
 obtain rfl:d=6:=w;refine a5 [-7] a D (g.az ?_);refine aW a B (g.bu ⟨i,by omega⟩ (g.aH [0] a ?_ kI));simp
def zJ:m bA:=[[122,122],[98,46],[104,101,108,108,111,46,46,46]]
def aei:bs 3 (λa=>([[.T [122,122]],[.T [98,46]],[.T [104,101,108,108,111,46,46,46]]]:m (m N)).getD a []) (bR.fn zJ):=by intro a b;have:a=0∨a=1∨a=2:=w;rcases this with rfl|rfl|rfl<;>rfl
set_option maxRecDepth 20000 in
def Wb(A)(b:Nat->Int)(h:Bytes b)(d:Nat)(m:d<=500000)(e:A<=1048576):
  bk (ι:=dH) q 42 [aI 0 0] [e1 A b d] (λo=>er o) (λ_=>[e1 A b (d+4:Nat)]):=by
 refine bk.bA bb func42 rfl rfl rfl λr=>?_;refine aW a B (g.a2 (gA A b h d 5 w e w) [0] a bn ?_);rintro⟨i,_⟩;refine aW a B (g.a2 (gA A b h (d+1) 5 w e w) [0] a bn ?_);rintro⟨k,_⟩;refine aW a B (g.a2 (gA A b h (d+1+1) 3 w e w) [0] a bn ?_);rintro⟨j,_⟩;refine aW a B (g.cb (WT A b h (d+1+1+1) w e zJ ca).tocH [0] a a a a ?_ a a a bn a bn a ?_)
 .simp only[U.X,U,ba,a9];exact⟨a,aei⟩
 rintro -;generalize zJ.getD (qH A b (d+1+1+1) (c zJ)).toNat []=p;refine aW a B (g.bf (i,k,j,p) [0] ?_ g_);simp
end
structure pT(p:dN):Prop extends nV p.1 where
 gq:c p.2.1<=4000000
 fG:c p.2.2<=4000000
def Gn{d}(a:e<c d):c (d_ (d.getD e (0,[])).2)<=c (ho d):=by have:=Gm d (e+1);grind[AU]
def acD(h)(p):hg h p=(hV h p.1&&(aB (c p.1.2.1)).all (λa=>!(gd (p.1.2.1.getD a (0,[]))).any λb=>!p.2.1.contains b)&&(aB (c p.2.2)).all (nA p.1.1 p.2.2)):=by rw[hg,ZY];cases hV h p.1<;>simp
def X5(h)(p)(s:pT p):X (af.aD T) 53 [Q h,gz p] [] (bf (hg h p)) []:=by
 refine X.J func53 rfl λV=>?_;have j:a_ (af.aD T) [(83,xC)]:=.cons EC .nil;have bF:=a2.l p.1.1;have aa:=bg.l p.1.2.1;have ea:=a3.l p.1.2.2;have a':=s.tonV;rw[acD];cases bX:hV h p.1
 .exact g.aN b6 dd j [14] 100 a Rw (g.ao a)
 refine g.aN b6 dd j [-14] 100 a Rw ?_;rw[fP];refine g.hS a a a λo=>?_;refine g.aN b6 dd j [] 100 a B (g.aB (IG o [] p.2.1) [1] a ?_);rw[p1];refine g.aN b6 dd j [905] 100 a B (g.freeze 5 2 a a a ?_);refine g.aN b6 dd j [] 100 a B (g.aC 3 (λe=>e<=c p.1.2.1/\∀k,k<e->(!(gd (p.1.2.1.getD k (0,[]))).any λi=>!p.2.1.contains i)=l) (λe:Nat=>[(0,Q h),(3,aI 0 0),(5,ax (.R [.val o])),(22,bg.B p.1.2.1),(23,Q (c p.1.2.1)),(24,Q e)]) (λ_=>[gr p,jg o p.2.1,.M]) (λe=>c p.1.2.1-e) 0 a D a D a ⟨by omega,by omega⟩ ?_);have H:=s.fa;rintro e ⟨u,q⟩;by_cases t:e<c p.1.2.1
 .have b:p.1.2.1.getD (e:Int).toNat bg.F=p.1.2.1.getD e (0,[]):=M;have A:=s.dW _ (oe (O:=(0,[])) t);have R:=Gn t;have I:=s.eB;have L:=lG (S:=λk=>!(gd (p.1.2.1.getD k (0,[]))).any λi=>!p.2.1.contains i) t;have z:=je (S:=λk=>!(gd (p.1.2.1.getD k (0,[]))).any λi=>!p.2.1.contains i) (e:=e);generalize p.1.2.1.getD e (0,[])=m at *;refine g.aN b6 dd j [25] 100 a bQ ?_;rw[b];refine g.aB (Cq m A.1 w) [] a (g.aN b6 dd j [] 100 a B (g.aB (U_ (gd m) 87 [.val o] (i' o p.2.1) (λi=>!p.2.1.contains i) λi _=>WR o p.2.1 i) [1] a ?_));cases G:(gd m).any λi=>!p.2.1.contains i with
  |true=>
   refine g.aN b6 dd j [] 100 a B (g.aT (bY.zero a ?_));exact bE
  |false=>
   refine g.aN b6 dd j [] 100 a ?_ (g.av (e+1) a D D ⟨t,z q M⟩ w);exact bE
 obtain rfl:e=c p.1.2.1:=w;rw[fZ.2 q,fP];refine g.aN b6 dd j [-25] 100 a D (g.az ?_);refine g.aN b6 dd j [] 100 a B ?_;have E:=s.fG;refine g.aC 3 (λe=>e<=c p.2.2/\∀k,k<e->nA p.1.1 p.2.2 k=l) (λe:Nat=>[(0,Q h),(3,aI 0 0),(34,az.B p.2.2),(35,Q (c p.2.2)),(36,Q e)]) (λ_=>[gr p,jg o p.2.1,.M]) (λe=>c p.2.2-e) 0 a D a D a ⟨by omega,by omega⟩ ?_;rintro e ⟨u,q⟩;by_cases t:e<c p.2.2
 .have b:p.2.2.getD (e:Int).toNat az.F=p.2.2.getD e 0:=M;have C:p.2.2.getD (e-1) az.F=p.2.2.getD (e-1) 0:=rfl;have y:nA p.1.1 p.2.2 e=((p.1.1.any λS=>S.1==p.2.2.getD e 0)&&j7 (λm=>m) 0 p.2.2 e):=rfl;have F:=p7 (aj:=λm:Int=>m) (O:=0) (d:=p.2.2) (e:=e);generalize p.2.2.getD e 0=i at *;generalize p.2.2.getD (e-1) 0=x at *;have hM:a_ (af.aD T) [(88,dU [a2.B p.1.1,ax (.fn (.func 89) [] [.R [.int .i64 i]])] (bf (p.1.1.any λS=>S.1==i)))]:=.cons (ef (U' p.1.1 89 [.int .i64 i] (λS=>S.1==i) λS _=>VL S i)) .nil;refine g.aN b6 dd j [37,914] 100 a bQ ?_;rw[b];refine g.freeze 9 3 a a a ?_;have fin:p.1.1.any (λS=>S.1==i)=l->j7 (λm=>m) 0 p.2.2 e=l->nA p.1.1 p.2.2 e=l:=λG J=>by grind
  by_cases N:e=0
  .subst N;cases r:p.1.1.any (λS=>S.1==i)with
   |true=>
    refine g.aN b6 dd hM [-43,-60] 100 a ?_ (g.av 1 a D D ⟨t,je q (fin r a)⟩ w);simp[a7,r,c0.B]
   |false=>
    refine g.aN b6 dd hM [-43,60] 100 a bE (g.aT (bY.zero a ?_));exact jX
  by_cases K:x<i
  rotate_left
  .refine g.aN b6 dd hM [43,51,60] 100 a ?_ (g.aT (bY.zero a ?_))
   .simp[-ak,C,a7];omega
   exact jX
  cases r:p.1.1.any (λS=>S.1==i)with
  |true=>
   refine g.aN b6 dd hM [43,-51,-60] 100 a ?_ (g.av (e+1) a D D ⟨t,je q (fin r M)⟩ w);exact OG
  |false=>
   refine g.aN b6 dd hM [43,-51,60] 100 a OG (g.aT (bY.zero a ?_));exact jX
 obtain rfl:e=c p.2.2:=w;rw[fZ.2 q];refine g.aN b6 dd j [-37] 100 a D (g.az ?_);exact g.aN b6 dd j [] 100 a B (g.ao a)
abbrev xD:bI:=ei c1 (Aw CE) (λb a=>bf (hg b a)) λ_ a=>[pT a]
def ED:bK (af.aD T) 53 xD:=.bk λb d a=>X5 b d a
section
variable {q:af T}
inductive RX (ι:Type)
 |cy
 |im (bl:ι)
 |iX (bl:ι)
 |done (bl:ι) (aa:Y)
abbrev D0{k1}(b:Nat)(a:Nat->Int)(e:Int)(g:Bool):RX (F1 k1)->aq
 |.cy=>match g with
  |false=>e1 b a e
  |true=>e1 b a (e+1)
 |.im d|.iX d|.done d _=>e1 b a d.1.2
section
variable {i:Nat->Int}{bz:Int}{k1:Nat}{p:dN}{S:F1 k1->Bool}
end
end
abbrev aeg(a:eQ):aq:=.cells 38 (lu a)
def aem(p):gg p=(hg p.1 p.2.1&&decide (c p.2.2.2.1=2)&&decide (c p.2.2.2.2=2)&&(aB 2).all (wb p)):=by unfold gg;cases hg p.1 p.2.1<;>cases decide (c p.2.2.2.1=2)<;>cases decide (c p.2.2.2.2=2)<;>simp
def Cx(p)(A:pT p.2.1):X (af.aD T) 24 [fR p] [] (bf (gg p)) []:=by
 refine X.J func24 rfl λE=>?_;have e:a_ (af.aD T) [(53,xD)]:=.cons ED .nil;have C:=a2.l p.2.1.1.1;have j:=bg.l p.2.1.1.2.1;have h:=a3.l p.2.1.1.2.2;have d:=az.l p.2.1.2.1;have aj:=az.l p.2.1.2.2;rw[aem];cases bX:hg p.1 p.2.1
 .exact g.aN b6 dd e [11,17,22] 100 a (by simp[bX,C,j,h,d,aj,a2.U,bg.U,a3.U,az.U,A]) (g.ao a)
 by_cases o:c p.2.2.2.1=2
 rotate_left
 .exact g.aN b6 dd e [-11,17,22] 100 a Ft (g.ao a (by simp[na o]))
 by_cases m:c p.2.2.2.2=2
 rotate_left
 .exact g.aN b6 dd e [-11,-17,22] 100 a Ft (g.ao a (by simp[na m]))
 refine g.aN b6 dd e [-11,-17,-22] 100 a Ft ?_;rw[fi o,fi m,fP,fP,fP];refine g.aC 1 (λb=>b<=2/\∀k,k<b->wb p k=l) (λb:Nat=>[(1,aI 0 0),(24,a3.B p.2.2.2.1),(25,Q (c p.2.2.2.1)),(26,Q b)]) (λ_=>[aeg p]) (λb=>2-b) 0 a D a D a ⟨by omega,by omega⟩ ?_;rintro b ⟨y,i⟩;by_cases t:b<2
 .have O:p.2.2.2.1.getD b a3.F=qv p b:=rfl;have s:p.2.2.2.2.getD b az.F=rA p b:=rfl;have z:wb p b=(decide (0<=(qv p b).1/\(qv p b).1<=9)&&decide (0<=(qv p b).2)&&decide (0<=rA p b/\rA p b<=2)):=rfl;by_cases q:0<=(qv p b).1
  rotate_left
  .refine g.aN b6 dd e [27,34,39,44,52,59] 100 a FD (g.aT (bY.zero a ?_));exact jX
  by_cases r:(qv p b).1<=9
  rotate_left
  .refine g.aN b6 dd e [27,-34,39,44,52,59] 100 a FD (g.aT (bY.zero a ?_));exact jX
  by_cases u:0<=(qv p b).2
  rotate_left
  .refine g.aN b6 dd e [27,-34,-39,44,52,59] 100 a FD (g.aT (bY.zero a ?_));exact jX
  by_cases x:0<=rA p b
  rotate_left
  .refine g.aN b6 dd e [27,-34,-39,-44,52,59] 100 a Rf (g.aT (bY.zero a ?_));exact jX
  by_cases F:rA p b<=2
  rotate_left
  .refine g.aN b6 dd e [27,-34,-39,-44,-52,59] 100 a Rf (g.aT (bY.zero a ?_));exact jX
  refine g.aN b6 dd e [27,-34,-39,-44,-52,-59] 100 a ?_ (g.av (b+1) a D D ⟨t,je i M⟩ w);simp[-ak,O,s,a7];omega
 obtain rfl:b=2:=w;rw[fZ.2 i];refine g.aN b6 dd e [-27] 100 a bQ (g.az ?_);exact g.aN b6 dd e [] 100 a B (g.ao a)
section
variable {q:af T}[q.bX]
abbrev eW:=Int×Int×m cM×dH×m Int
abbrev ID(a:eW):m R:=[.c (.int .i64 a.1),.c (.int .i64 a.2.1),cK bu a.2.2.1,.c (.int .i64 a.2.2.2.1.1),.c (.int .i64 a.2.2.2.1.2.1),.c (.int .i64 a.2.2.2.1.2.2.1),.c (.T a.2.2.2.1.2.2.2),cK az a.2.2.2.2]
abbrev nh(a:eW):y:=.n (.agg (ID a))
abbrev aeI:m R:=[.c (.int .i64 0),.c (.int .i64 0),cF,.c (.int .i64 0),.c (.int .i64 0),.c (.int .i64 0),.c (.T []),cF]
abbrev aeJ:aq:=.cells 49 aeI
abbrev kS:dH:=(0,0,0,[])
structure RR(h:Nat)(bl:eW×Nat):Prop where
 dX:c bl.1.2.2.1<=7
 kk:c bl.1.2.2.2.2<=5
 jl:h<=bl.2
 ja:bl.2<=h+500
set_option maxRecDepth 20000 in
def UT(A)(b:Nat->Int)(i:Bytes b)(h)(u:h<=40000)(e:A<=1048576):
  bk (ι:={k:eW×Nat // RR h k}) q 17 [aI 0 0] [e1 A b h] (λk=>nh k.1.1) (λk=>[e1 A b k.1.2]):=by
 refine bk.bA bb func17 rfl rfl rfl λS=>?_;refine aW a B (g.a2 (gA A b i h 9 w e w) [0] a bn ?_);rintro⟨d,E,F⟩;by_cases T:d<=3
 .apply g.cg [(0,aI 0 0),(2,aI 1 0)] [e1 A b (h+1:Nat),aeJ]
  .intro dw;have:d=0∨d=1∨d=2∨d=3:=w;rcases this with rfl|rfl|rfl|rfl
   .exact a5 [6,906] a D ku
   .exact a5 [-6,7,906] a D ku
   .exact a5 [-6,-7,8,906] a D ku
   exact a5 [-6,-7,-8,9,906] a D ku
  refine aW a B (g.a2 (gA A b i (h+1) 2 w e w) [0] a bn ?_);rintro⟨j,m,o⟩;refine aW a wA (g.a2 (Yb A b i (h+1+1) w e) [0] a bn ?_);rintro⟨C,s,K,k1,t,J,y,Q⟩;simp only;refine aW a B (g.bf ⟨((1,1+j,C,kS,[]),k1),J,by simp,by grind,by grind⟩ [0] ?_ g_);simp
 by_cases M:d=4
 .subst M;refine a5 [-6,-7,-8,-9,17] a D (g.a2 (gA A b i (h+1) 4 w e w) [0] a bn ?_);rintro⟨j,m,o⟩;refine aW a B (g.bf ⟨((2,j,[],kS,[]),h+1+1),by simp,by simp,by grind,by grind⟩ [0] ?_ g_);simp
 by_cases O:d=5
 .subst O;refine a5 [-6,-7,-8,-9,-17,22] a D (g.a2 (gA A b i (h+1) 2 w e w) [0] a bn ?_);rintro⟨j,m,o⟩;by_cases r:j=0
  .refine a5 [25] a (by simp[r]) (g.bf ⟨((3,0,[],kS,[]),h+1+1),by simp,by simp,by grind,by grind⟩ [0] ?_ g_);simp
  refine a5 [-25] a (by simp[r]) (g.a2 (Wb A b i (h+1+1) w e) [0] a bn ?_);intro x;refine aW a B (g.bf ⟨((3,0,[],x,[]),h+1+1+4),by simp,by simp,by grind,by grind⟩ [0] ?_ g_);simp
 by_cases I:d=6
 .subst I;refine a5 [-6,-7,-8,-9,-17,-22,31] a D (g.a2 (VR A b i (h+1) w e) [0] a bn ?_);rintro⟨c',z⟩;refine aW a B (g.bf ⟨((4,0,[],kS,c'),h+1+5),by simp,z,by grind,by grind⟩ [0] ?_ g_);simp
 by_cases R:d=7
 .subst R;refine a5 [-6,-7,-8,-9,-17,-22,-31,36] a D (g.bf ⟨((5,0,[],kS,[]),h+1),by simp,by simp,by grind,by grind⟩ [0] ?_ g_);simp
 obtain rfl:d=8:=w;refine a5 [-6,-7,-8,-9,-17,-22,-31,-36] a D (g.a2 (gA A b i (h+1) 8 w e w) [0] a bn ?_);rintro⟨j,m,o⟩;refine aW a B (g.a2 (gA A b i (h+1+1) 4 w e w) [0] a bn ?_);rintro⟨p,N,nK⟩;refine aW a B (g.bf ⟨((j,p,[],kS,[]),h+1+1+1),by simp,by simp,by grind,by grind⟩ [0] ?_ g_);simp
abbrev hi(d:Int)(e:dN)(a:dH)(b:Nat):m R:=.c (.int .i64 d)::(v6 e++[.c (.int .i64 a.1),.c (.int .i64 a.2.1),.c (.int .i64 a.2.2.1),.c (.T a.2.2.2),.O b (.B 2 2 0 2),.O (b+1) (.B 2 1 0 2)])
abbrev lh(c':m (Int×Int))(a:m Int):m aq:=[.q 56 2 2 (a3.fn c'),.q 3 1 2 (az.fn a)]
abbrev yy:m (Int×Int):=[(0,0),(0,0)]
abbrev ya:m Int:=[0,0]
omit [q.bX]in
def Ju(h)(bX:ce h=l):X q 19 [Q h] [] (.S [.agg (hi h hj kS 0),.Q (.c (.bool l))]) (lh yy ya):=by
 refine X.bg bb func19 rfl rfl rfl λj=>?_;have b:a_ q [(44,ro)]:=.cons tF .nil;refine a8 b [-7,903] a kU (g.region ?_);refine tr b [] 3 a B (g.gR bb a a a a a a ?_);refine g.gR bb a a a a a a ?_;refine b8 b a B (g.bb [.cells 38 (hi h hj kS 1),.q 56 2 2 (a3.fn yy),.q 3 1 2 (az.fn ya),.cells 38 (hi h hj kS 1)] a ?_ ?_)
 .simp only[U.X,U,ba,a9];and_intros<;>first|rfl|exact bs.nil|(intro i d;match i,d with|0,_=>rfl|1,_=>rfl)
 refine g.b' () [1,2] ?_ (λk e=>absurd e D);simp
def Ei(d:Int)(b:cd)(a:Int)(e:m cM):cd×Bool:=
 if hV d b=l/\(1<=a/\a<=2)/\dM e=l then(if fu d b e=l then b else eM d b a e,!fu d b e)else(([],[],[]),v)
end
section
variable {q:af T}
def yc:∀a,a<2->([0,1]:m Nat)[a]?=f a:=λa b=>by
 match a,b with
 |0,_=>rfl
 |1,_=>rfl
def e7(a:Int)(e:cd)(d:dH)(b:m (Int×Int)×m Int):m (Int×Int)×m Int:=
 if b.2.getD (a-1).toNat 0=0 then(b.1.set (a-1).toNat (fJ (b.1.getD (a-1).toNat (0,0)) (kk e d).2.2).1,b.2.set (a-1).toNat (fJ (b.1.getD (a-1).toNat (0,0)) (kk e d).2.2).2)else b
def s9{bT}{b}{d}{bl}(a:c bl.1=2)(e:c bl.2=2):(e7 bT b d bl).1.length=2/\(e7 bT b d bl).2.length=2:=by unfold e7;split<;>simp[a,e]
abbrev EQ:aq:=.cells 56 [.c (.int .i64 0),.c (.int .i64 0)]
abbrev yK(a:Int×Int):aq:=.cells 56 [.c (.int .i64 a.1),.c (.int .i64 a.2)]
abbrev aeK:m R:=[.c (.int .i64 0),cF,cF,cF,cF,cF,.c (.int .i64 0),.c (.int .i64 0),.c (.int .i64 0),.c (.T []),cF,cF]
abbrev hG:aq:=.cells 38 aeK
def Im(b:Int)(e:dN)(d:dH)(c':m (Int×Int))(a:m Int)(g:Int×Int)(_ h i:Bool):m aq:=
 match h,i with
 |false,_=>lh c' a++[.cells 38 (hi b e d 0),hG]
 |true,v=>lh c' a++[.cells 38 (hi b e d 0),hG,EQ]
 |true,l=>lh c' a++[.cells 38 (hi b e d 0),hG,yK g]
abbrev aex(i:dN)(g:dH)(a:Int)(h:Int×Int)(d:cd)(b:(Int×Int)×Int)(e:Nat):y:=
 [aI 2 10,cC 0 (.B 2 2 0 2),Q a,Q (a-1),cC 0 (.bt 2 2 (0+(a-1).toNat) 0),kF h,aI 2 1,aI 2 1,bW i.1,aI 2 6,er g,bW d,a3.B d.2.2,mU b,mU b,kF b.1,Q b.2,aI 4 0,.any,Q b.2].getD e .any
set_option maxRecDepth 20000 in
def Cn(h)(p)(d)(b)(c')(C)(u:oP p.1)(N:1<=b/\b<=2)(M:c c'=2)(J:c C=2):
  X q 48 [.n (.agg (hi h p d 0)),Q b] (lh c' C) (.n (.agg (hi h p d 0))) (lh (e7 b p.1 d (c',C)).1 (e7 b p.1 d (c',C)).2):=by
 refine X.bg bb func48 rfl rfl rfl λI=>?_;have R:=(rW (q:=q) u d).eN.aJ;have aJ:=(rW (q:=q) u d).c_;unfold e7;generalize kk p.1 d=e at *;have K:(b-1).toNat<2:=w;have A:(0:Nat)+(b-1).toNat<2:=w;have E:c'.getD (b-1).toNat (0,0)=c'.getD (0+(b-1).toNat) a3.F:=q1;have S:(c'.getD (0+(b-1).toNat) a3.F)=(c'.getD (0+(b-1).toNat) a3.F):=rfl;rw[E];have F:=Xv (q:=q) (c'.getD (0+(b-1).toNat) a3.F) e.2.2 R;generalize fJ (c'.getD (0+(b-1).toNat) a3.F) e.2.2=j at *;have i:a_ q [(77,dU [bW p.1,er d] (bW e)),(76,dU [kF (c'.getD (0+(b-1).toNat) a3.F),a3.B e.2.2] (mU j))]:=.cons (ef aJ) (.cons (ef F) .nil);have z:a7 .i64 (b-1):=mX;have cl:0<=b-1/\b-1<((2:Nat):Int):=w;have D:2=2/\0+(b-1).toNat<2:=⟨rfl,A⟩;refine be i [901] a B ?_;refine g.cc b6 (aex p d b (c'.getD (0+(b-1).toNat) a3.F) e j) (kJ (Im h p d c' C j.1) 19 17 18) a a a a
  ⟨.ax,
  .ax,
  .ax,
  .ck bb i (cl:=by exact z),
  .ck bb i (cl:=by exact cl),
  .ck bb i (cl:=by exact D),
  .ax,
  .ax,
  .ax,
  .ax,
  .ax,
  .ck bb i (cl:=by exact a),
  .ax,
  .ck bb i (cl:=by exact a),
  .ax,
  .ax,
  .ax,
  cc.dN a a a a a (λx=>by cases x<;>exact ee (bh:=[]) bb i (ap:=f _) a B),
  cc.dO a a a a a (λx=>by cases x<;>exact ee (bh:=[]) bb i (ap:=f _) a B),
  cc.dM a a a a (λs O=>by cases s<;>cases O<;>exact aZ.w),B⟩ ?_
 intro y r;show g q _ _ _ _ _ (Im h p d c' C j.1 (y 19) (y 17) (y 18));rw[r 19 ca,r 17 ca,r 18 ca];have t:C.getD (0+(b-1).toNat) az.F=C.getD (b-1).toNat 0:=q1;by_cases o:C.getD (b-1).toNat 0=0
 .rw[bo o];refine be i [30] a ?_ ?_
  .simp only[U,t,o,a7,gi,ba,a9];omega
  have k:=a3.cT c' (0+(b-1).toNat) j.1 2 w;have m:=az.cT C (0+(b-1).toNat) j.2 2 w;rw[cX]at k m;refine g.bb [.q 56 2 2 (a3.fn (c'.set (b-1).toNat j.1)),.q 3 1 2 (az.fn (C.set (b-1).toNat j.2)),.cells 38 (hi h p d 0),.cells 38 (hi h p d 0),yK j.1] a ?_ ?_
  .simp only[U.X,U,cX,ba,a9];and_intros<;>first|exact bs.same|exact k|exact m|rfl
  exact PM
 rw[bj o];refine be i [-30] a ?_ ?_
 .simp only[U,t,a7,eZ,dZ,ba,a9];and_intros<;>first|exact o|omega
 exact PM
abbrev fG:=dN×dH×m (Int×Int)×m Int
def mN(d:Int)(b:fG)(a:Int)(e:m cM):fG×Bool:=
 if(e7 a b.1.1 b.2.1 b.2.2).2.getD (a-1).toNat 0=0/\b.2.1.1=0 then
  (if(fC d b.1 a e).2=l then(((fC d b.1 a e).1,b.2.1,e7 a (fC d b.1 a e).1.1 b.2.1 (e7 a b.1.1 b.2.1 b.2.2)),l)else((b.1,b.2.1,e7 a b.1.1 b.2.1 b.2.2),v))
 else((b.1,b.2.1,e7 a b.1.1 b.2.1 b.2.2),v)
def cE(d:Int)(a:fG)(b:eW):fG×Bool:=
 if b.1=1 then(if(1<=b.2.1/\b.2.1<=2)/\dM b.2.2.1=l then mN d a b.2.1 b.2.2.1 else(a,v))
 else if b.1=2 then(if 1<=b.2.1/\b.2.1<=2 then((a.1,a.2.1,e7 b.2.1 a.1.1 a.2.1 a.2.2),l)else(a,v))
 else if b.1=3 then((a.1,b.2.2.2.1,a.2.2),l)
 else if b.1=4 then(if c a.1.2.2=0 then(((j8 d a.1.1 b.2.2.2.2).1,a.2),l)else(a,v))
 else if b.1=5 then((jv a.1,a.2),qq a.1)
 else(a,v)
structure fr(j:Nat)(b:fG):Prop where
 a:fN (6000+240*j) b.1
 bj:c b.2.2.1=2
 b3:c b.2.2.2=2
def D8{p}{bT}{o}(e:fN j p)(d:(fC h p bT o).2=l):fN (j+240) (fC h p bT o).1/\(fC h p bT o).1=nH h p bT o/\hg h p=l/\(1<=bT/\bT<=2)/\dM o=l/\fu h p.1 o=v:=by
 unfold fC at d⊢;split at d
 .rename_i b;rw[bo b];simp only[qz,ck,bw]at b;split at d
  .cases d
  rename_i s;have s:fu h p.1 o=v:=by simpa using s
  rw[bj FW];exact⟨e.cL b.2 b.1.2 s,a,b.1.1,b.1.2,b.2,s⟩
 cases d
def fr.cL{b}{bT}{o}(t:fr j b):fr (j+1) (mN h b bT o).1:=by
 have bX:=s9 (bT:=bT) (b:=b.1.1) (d:=b.2.1) (bl:=b.2.2) t.bj t.b3;unfold mN;split
 .split
  .rename_i i;have a:=s9 (bT:=bT) (b:=(fC h b.1 bT o).1.1) (d:=b.2.1) (bl:=e7 bT b.1.1 b.2.1 b.2.2) bX.1 bX.2;exact⟨(D8 t.a i).1.mono w,a.1,a.2⟩
  exact Fs
 exact Fs
def fr.mono{j A}{b}(a:fr j b)(d:j<=A):fr A b:=⟨a.a.mono w,a.bj,a.b3⟩
def fr.do{b}{aw}(t:fr j b):fr (j+1) (cE h b aw).1:=by
 unfold cE;split
 .split
  .exact t.cL
  exact t.mono w
 split
 .split
  .have bX:=s9 (bT:=aw.2.1) (b:=b.1.1) (d:=b.2.1) (bl:=b.2.2) t.bj t.b3;exact Fs
  exact t.mono w
 split
 .exact⟨t.a.mono w,t.bj,t.b3⟩
 split
 .split
  .exact⟨(fN.iq t.a.a').mono w,t.bj,t.b3⟩
  exact t.mono w
 split
 .exact⟨(fN.step t.a).mono w,t.bj,t.b3⟩
 exact t.mono w
abbrev B'(b:Int)(a:fG):y:=.n (.agg (hi b a.1 a.2.1 0))
abbrev EF(d:Int)(a:fG)(b:Bool):y:=.S [.agg (hi d a.1 a.2.1 0),.Q (.c (.bool b))]
abbrev lX(a:fG):m aq:=lh a.2.2.1 a.2.2.2
def Xt(h)(b)(bT)(o)(j)(k:fr j b)(E:j<=1000)(u:1<=bT/\bT<=2):
  X q 47 [B' h b,Q bT,bu.B o] (lX b) (EF h (mN h b bT o).1 (mN h b bT o).2) (lX (mN h b bT o).1):=by
 refine X.bg bb func47 rfl rfl rfl λC=>?_;have x:=Cn (q:=q) h b.1 b.2.1 bT b.2.2.1 b.2.2.2 k.a.a'.dE u k.bj k.b3;have z:=X8 (q:=q) h b.1 bT o (k.a.cB w);have s:=s9 (bT:=bT) (b:=b.1.1) (d:=b.2.1) (bl:=b.2.2) k.bj k.b3;have y:=D8 (h:=h) (bT:=bT) (o:=o) k.a;unfold mN;rw[show((b.2.2.1,b.2.2.2):m (Int×Int)×m Int)=b.2.2 from a]at x;generalize e7 bT b.1.1 b.2.1 b.2.2=e at *;have r:e.2.getD (0+(bT-1).toNat) az.F=e.2.getD (bT-1).toNat 0:=q1;refine cz a B (g.aB x [0,1] a ?_);by_cases i:e.2.getD (bT-1).toNat 0=0
 rotate_left
 .rw[bj (λk=>i k.1)];refine bL [19,25] a ?_ ?_
  .simp only[U,r,a7,iJ,dZ,ba,a9];and_intros<;>first|exact i|omega
  exact oL
 by_cases p:b.2.1.1=0
 rotate_left
 .rw[bj (λk=>p k.2)];refine bL [-19,25] a ?_ ?_
  .simp only[U,r,i,a7,iJ,ip,dZ,ba,a9];and_intros<;>first|exact p|omega
  exact oL
 rw[bo ⟨i,p⟩];refine bL [-19,-25] a ?_ ?_
 .simp only[U,r,i,p,a7,ip,ba,a9];omega
 refine g.aB z [] a ?_;cases jI:(fC h b.1 bT o).2 with
 |false=>
  rw[bj D];exact bL [38] a t0 oL
 |true=>
  rw[bo a];have A:=(y jI).1;generalize(fC h b.1 bT o).1=w2 at *;have t:=Cn (q:=q) h w2 b.2.1 bT e.1 e.2 A.a'.dE u s.1 s.2;rw[show((e.1,e.2):m (Int×Int)×m Int)=e from a]at t;exact bL [-38] a t0 (g.aB t [0,1] a (cz a B oL))
def tA(j):∀(e b:m Int)i,(b++e).Pairwise (· < ·)->(if i=l then True else ∀d∈b,d<j)->(i=l->∀d∈e,j<=d/\(j∈b)) ->
  (if(e.foldl (gq j) (b,i)).2=l then(e.foldl (gq j) (b,i)).1 else(e.foldl (gq j) (b,i)).1++[j]).Pairwise (· < ·)
 |[],b,i,t,r,_=>by
  simp[h1]at t;cases i<;>simp at r⊢
  .exact m_.2 ⟨t,by simp,by exact bv⟩
  omega
 |h::e,b,i,t,r,y=>by
  rw[iI];obtain⟨x,p,s⟩:=m_.1 t;obtain⟨w,A⟩:=iG.1 p;have B:∀d∈b,d<h:=λd g=>s d g h ir;have o:((b++[h])++e).Pairwise (· < ·):=wC;have u:(b++e).Pairwise (· < ·):=m_.2 ⟨x,A,λd g q k=>s d g q (mh _ k)⟩;unfold gq;cases i with
  |true=>
   simp[dv];split
   .exact tA j e b l u D λ_ d g=>⟨by grind,(y a h ir).2⟩
   exact tA j e (b++[h]) l o D λ_ d g=>⟨by grind,AL _ (y a h ir).2⟩
  |false=>
   simp[j5,dm]at r⊢;split
   .split
    .rename_i z;subst z;exact tA h e (b++[h]) l o D λ_ d g=>⟨by grind,by simp⟩
    refine tA j e (b++[j,h]) l ?_ D λ_ d g=>⟨by grind,by simp⟩
    rw[mi];refine m_.2 ⟨x,iG.2 ⟨λq k=>?_,p⟩,λd g q k=>?_⟩
    .rcases e9.1 k with rfl|k
     .omega
     have:=w q k;omega
    rcases e9.1 k with rfl|k
    .exact r d g
    exact s d g q k
   exact tA j e (b++[h]) v o (by simp;grind) D
def Zv{d}{j}(t:d.Pairwise (· < ·)):(e5 d j).Pairwise (· < ·):=tA j d [] v wC D D
def CS:∀{d a:m Int},a.Pairwise (· < ·)->(d.foldl e5 a).Pairwise (· < ·)
 |[],a,b=>b
 |e::d,a,b=>CS (d:=d) (Zv b)
def ZZ(d):(hS d).Pairwise (· < ·):=by
 unfold hS;have:∀(d:m eh) b,b.Pairwise (· < ·)->(d.foldl (λa e=>(gE e.2).foldl e5 a) b).Pairwise (· < ·):=λd=>by
  induction d with
  |nil=>simp
  |cons e d g=>exactλb h=>g _ (CS h)
 simp_all
def YK(d):c (d.flatMap gd)<=c (ho d):=by
 induction d with
 |nil=>simp
 |cons F d a=>
  have:c (gd F)<=c (d_ F.2):=Rs;simp[ho,sl,dk]at a⊢;omega
def rI(b:m Int)(d:Int):Int:=match b.findIdx? (λe=>e==d)with
 |some a=>a
 |none=>-1
def Vn(d)(aa):X q 141 [az.B d,Q aa] [] (Q (rI d aa)) []:=by
 refine X.J func141 rfl λk=>?_;have s:=k.B 0 a;refine aW a B (g.aC 0 (λb=>b<=c d/\∀e,e<b->d.getD e 0≠aa) (λb:Nat=>[(0,az.B d),(1,Q aa),(7,Q (c d)),(8,Q b)]) (λ_=>[]) (λb=>c d-b) 0 a D a B a ⟨by omega,by omega⟩ ?_);rintro b ⟨o,p⟩;by_cases j:b<c d
 .have i:d.getD (b:Int).toNat az.F=d.getD b 0:=rfl;by_cases r:d.getD b 0=aa
  .have:rI d aa=b:=by
    have:d.findIdx? (λh=>h==aa)=f b:=by rw[uz];exact⟨j,by grind,λe m=>by grind⟩
    simp[rI,this]
   rw[this];refine a5 [9,16] a ?_ (g.aT (bY.zero a));simp only[U,i,bw,gL,ba,a9];and_intros<;>first|omega|omega
  refine a5 [9,-16] a ?_ (g.av (b+1) a ?_ B ⟨j,λe m=>?_⟩ w)
  .simp only[U,i,a7,bw,eZ,ba,a9];and_intros<;>first|grind|omega
  .simp
  grind
 have:rI d aa=-1:=by have:d.findIdx? (λh=>h==aa)=n:=wz;simp[rI,this]
 rw[this];exact QK
abbrev BA:bI:=ei (eK az) c1 (λa b=>bf (a.contains b)) λ_ _=>[]
def MR:bK q 101 BA:=.bk λb d _=>by refine X.J func101 rfl λh=>?_;have e:a_ q [(141,ei (eK az) c1 (λb d=>Q (rI b d)) λ_ _=>[])]:=.cons (.bk λb d _=>Vn b d) .nil;refine b8 e a NU (g.ao a ?_);simp[U,az.l,a9];unfold rI;grind
def U1(d)(b):X q 100 [iR d,ax (.R [.B v 1 (c b) (az.fn b)])] [] (bf (!b.contains d.1)) []:=by refine X.J func100 rfl λh=>?_;have e:a_ q [(101,BA)]:=.cons MR .nil;refine b8 e a NU (g.ao a ?_);simp only[az.l];simp
abbrev GD(e:cd)(b:m eh)(d:R)(a:m Int)(h:Y)(g:m Int):m aq:=[jT e,.M,.cells 33 lv,.M,.M,.cells 33 [cK a2 e.1,cK bg b,cK a3 e.2.2,d,.x 6 1 (c a) (az.fn a)],.x 3 1 (c a) (az.fn a),jg h g]
def T7(h)(b)(i)(m:dI b)(s:nV b):X (af.aD T) 57 [Q h,bW b,az.B i] [] (jV (j8 h b i).1 (j8 h b i).2) []:=by
 refine X.bA func57 rfl rfl rfl λy=>?_;have k:a_ (af.aD T) [(83,xC)]:=.cons EC .nil;have N:=m.aY;have V:=m.aZ;unfold j8;cases q:hV h b with
 |false=>
  refine g.aN b6 dd k [17] 200 a ?_ ?_
  .simp only[U,a2.l,a2.U,bg.l,bg.U,a3.l,a3.U,q,s,ba,a9,hJ]
  refine g.freeze 6 2 a a a ?_;refine g.b8 dd [] a ?_ a a a eG;simp
 |true=>
 rw[bo a];refine g.aN b6 dd k [-17] 200 a ?_ ?_
 .simp only[U,a2.l,a2.U,bg.l,bg.U,a3.l,a3.U,q,s,ba,a9,ft]
 refine g.aB (o9 b m.aY m.bm m.aZ m.bp m.aJ) [] a (g.aN b6 dd k [904] 200 a B (g.freeze 5 1 a a a ?_));refine g.aN b6 dd k [] 200 a B (g.a2 (IT b.2.1 m.aZ 100 [.B v 1 (c i) (az.fn i)] (λj=>!i.contains j.1) λj _=>U1 j i) [4] a bn ?_);rintro⟨F,C⟩;simp only[Bool.not_not]at C⊢;have A:c (b.2.1.filter λj=>i.contains j.1)<=c b.2.1:=kz _ _;have I:∀j∈b.2.1.filter (λj=>i.contains j.1),j∈b.2.1:=λj r=>(jd.1 r).1;have K:c (ho (b.2.1.filter λj=>i.contains j.1))<=c (ho b.2.1):=Gl b.2.1 λj=>i.contains j.1;generalize b.2.1.filter (λj=>i.contains j.1)=d at *;refine g.aN b6 dd k [905] 200 a B (g.bN 4 a a a (by simp;exact A) (by simp;exact⟨B,A⟩) (g.bN 3 a a a D (by simp;exact B) (g.cq 5 4 3 1 (az.fn []) a a ?_)));refine g.bb [jT b,.M,.cells 33 lv,.M,.M,.cells 33 [cK a2 b.1,cK bg d,cK a3 b.2.2,cF,.x 6 1 0 (az.fn [])],.x 3 1 0 (az.fn [])] a ?_ ?_
 .simp only[U.X,U,ba,a9];and_intros<;>first|exact bs.same|exactλe p=>C e p|rfl|simp
 refine g.aN b6 dd k [] 200 a B (g.hS a a a λu=>?_);refine g.aN b6 dd k [] 200 a B ?_;refine g.aC 8 (λe=>e<=c d) (λe:Nat=>[(4,aI 0 0),(6,aI 2 0),(8,aI 5 0),(9,sJ u),(32,bg.B d),(33,Q (c d)),(34,Q e)])
  (λe=>GD b d cF [] u ((d.take e).flatMap gd)) (λe=>c d-e) 0 a D a D a w ?_
 intro e p;by_cases o:e<c d
 .have x:d.getD e bg.F=d.getD e (0,[]):=rfl;have r:=s.dW _ (I _ (oe (O:=(0,[])) o));have S:=Gn o;have J:=s.eB;have z:(d.take (e+1)).flatMap gd=(d.take e).flatMap gd++gd (d.getD e (0,[])):=by rw[ie o (0,[])];simp
  generalize d.getD e (0,[])=j at *;refine g.aN b6 dd k [35] 200 a bQ ?_;simp only[cY,x];refine g.aB (Cq j r.1 w) [] a (g.aN b6 dd k [] 200 a B (g.aB (IG u ((d.take e).flatMap gd) (gd j)) [7] a ?_));rw[<-z];refine g.aN b6 dd k [] 200 a ?_ (g.av (e+1) a D D o w);exact kT
 obtain rfl:e=c d:=w;rw[c6];have W:=YK d;have J:=s.eB;refine g.aN b6 dd k [-35] 200 a D (g.az ?_);refine g.aN b6 dd k [] 200 a B (g.aB (Wp u (d.flatMap gd) (hS d) w (ZZ d) λM=>by rw[ta];simp[yG]) [7] a (g.aN b6 dd k [] 200 a B ?_));refine g.aC 8 (λe=>e<=c b.1) (λe:Nat=>[(4,aI 0 0),(6,aI 2 0),(8,aI 5 0),(47,a2.B b.1),(48,Q (c b.1)),(49,Q e)])
  (λe=>GD b d (cK az (hS d)) ((b.1.take e).map (·.1)) u (d.flatMap gd)) (λe=>c b.1-e) 0 a D a D a w ?_
 intro e p;have R:c ((b.1.take e).map (·.1))=e:=bQ;by_cases o:e<c b.1
 .have x:b.1.getD e a2.F=b.1.getD e (0,[]):=rfl;have z:=map_take (aj:=λt:b'=>t.1) o (0,[]);generalize(b.1.take e).map (λt:b'=>t.1)=E at *;generalize b.1.getD e (0,[])=t at *;have r:=az.aX E t.1;refine g.aN b6 dd k [50] 200 a ?_ (g.av (e+1) a D ?_ o w)
  .simp[-ak,x,o,a7,show d8.bytes=8 from a];omega
  rw[z];simp only[U.X,U,cY,x,dk,gx,ba,a9];and_intros<;>first|exact bs.same|exact r|rfl|omega
 obtain rfl:e=c b.1:=w;rw[c6];refine g.aN b6 dd k [-50] 200 a D (g.az ?_);refine g.aN b6 dd k [] 200 a B (g.freeze 8 5 a a a ?_);refine g.freeze 6 2 a a a ?_;refine g.b8 dd [] a ?_ a a a eG;simp[bg.l]
def UL(h)(b)(d)(j)(e:fr j b)(u:j<=1000):
  X q 20 [B' h b,nh d] (lX b) (EF h (cE h b d).1 (cE h b d).2) (lX (cE h b d).1):=by
 refine X.bg bb func20 rfl rfl rfl λy=>?_;have m:=e.a.cB w;have x:a_ q [(45,kE),(46,sD),(49,G2)]:=.cons lo (.cons t46 (.cons ac0 .nil));unfold cE;by_cases C:d.1=1
 .rw[bo C];by_cases s:1<=d.2.1/\d.2.1<=2
  rotate_left
  .rw[bj (λe=>s e.1)];refine be x [13,-16,-21] a ?_ ?_
   .simp only[U,C,gi,ba,a9];grind
   exact oL
  cases i:dM d.2.2.1 with
  |false=>
   rw[bj D];exact be x [13,16,-21] a Qr oL
  |true=>
   rw[bo ⟨s,rfl⟩];have p:=Xt (q:=q) h b d.2.1 d.2.2.1 j e u s;exact be x [13,16,21] a Qr (g.aB p [0,1] a Fm)
 rw[bj C];by_cases s:d.1=2
 .rw[bo s];by_cases i:1<=d.2.1/\d.2.1<=2
  rotate_left
  .rw[bj i];refine be x [-13,31,-34] a ?_ ?_
   .simp only[U,s,gi,ba,a9];grind
   exact oL
  rw[bo i];have t:=Cn (q:=q) h b.1 b.2.1 d.2.1 b.2.2.1 b.2.2.2 e.a.a'.dE i e.bj e.b3;refine be x [-13,31,34] a ?_ ?_
  .simp only[U,s,i,lD,and_self,gi,ba,a9];decide
  exact g.aB t [0,1] a Fm
 rw[bj s];by_cases i:d.1=3
 .rw[bo i];refine be x [-13,-31,40] a ?_ ?_
  .simp only[U,i,gi,ba,a9];decide
  exact oL
 rw[bj i];by_cases o:d.1=4
 .rw[bo o];by_cases k:c b.1.2.2=0
  .rw[bo k];have r:(c b.1.2.2:Int)=0:=w;refine be x [-13,-31,-40,46,51] a ?_ ?_
   .simp only[U,o,r,m.a',m.cl,a2.l,a2.U,bg.l,bg.U,a3.l,a3.U,az.l,az.U,gi,ba,a9];decide
   refine g.b' () [0,1] ?_ yc;exact FT
  rw[bj k];refine be x [-13,-31,-40,46,-51] a ?_ ?_
  .simp only[U,o,gi,eZ,dZ,ba,a9];and_intros<;>first|decide|omega
  exact oL
 rw[bj o];by_cases k:d.1=5
 .rw[bo k];have p:=XS (q:=q) b.1 m.a' m.cy m.dc;refine be x [-13,-31,-40,-46,67] a ?_ ?_
  .simp only[U,k,gi,ba,a9];decide
  exact g.aB p [] a Fm
 rw[bj k];refine be x [-13,-31,-40,-46,-67] a ?_ ?_
 .simp only[U,eZ,dZ,ba,a9];grind
 exact oL
abbrev s7(a:dH):m R:=[.c (.int .i64 a.1),.c (.int .i64 a.2.1),.c (.int .i64 a.2.2.1),.c (.T a.2.2.2)]
abbrev Tj(c':m (Int×Int))(a:m Int):m aq:=[.q 56 2 (c c') (a3.fn c'),.q 3 1 (c a) (az.fn a)]
abbrev Ny(a:eQ)(d b:Nat):m R:=.c (.int .i64 a.1)::([cK a2 a.2.1.1.1,cK bg a.2.1.1.2.1,cK a3 a.2.1.1.2.2,cK az a.2.1.2.1,.x d 1 (c a.2.1.2.2) (az.fn a.2.1.2.2)]++s7 a.2.2.1++[.O b (.B (c a.2.2.2.1) 2 0 (c a.2.2.2.1)),.O (b+1) (.B (c a.2.2.2.2) 1 0 (c a.2.2.2.2))])
abbrev mW(a:eQ):aq:=.cells 38 (lu a)
abbrev pk(a:dN):aq:=.x 3 1 (c a.2.2) (az.fn a.2.2)
def Ig(a:eQ)(d e g h:Bool):m aq:=
 match d,e,g,h with
 |true,l,l,l=>[mW a,.cells 38 (.c (.int .i64 a.1)::([cK a2 a.2.1.1.1,cK bg a.2.1.1.2.1,cK a3 a.2.1.1.2.2,cK az a.2.1.2.1,.x 2 1 (c a.2.1.2.2) (az.fn a.2.1.2.2)]++s7 a.2.2.1++[.O 3 (.B (0+c a.2.2.2.1) 2 0 (0+c a.2.2.2.1)),.O 4 (.B (0+c a.2.2.2.2) 1 0 (0+c a.2.2.2.2))])),pk a.2.1,
   .q 56 2 (0+c a.2.2.2.1) (cg 0 (λb=>([]:m (m N)).getD b []) (a3.fn a.2.2.2.1)),.q 3 1 (0+c a.2.2.2.2) (cg 0 (λb=>([]:m (m N)).getD b []) (az.fn a.2.2.2.2))]
 |true,l,l,v=>[mW a,hG,pk a.2.1,.q 56 2 (0+c a.2.2.2.1) (cg 0 (λb=>([]:m (m N)).getD b []) (a3.fn a.2.2.2.1)),.q 3 1 (0+c a.2.2.2.2) (cg 0 (λb=>([]:m (m N)).getD b []) (az.fn a.2.2.2.2))]
 |true,l,v,_=>[mW a,hG,pk a.2.1,.q 56 2 (0+c a.2.2.2.1) (cg 0 (λb=>([]:m (m N)).getD b []) (a3.fn a.2.2.2.1))]
 |true,v,_,_=>[mW a,hG,pk a.2.1]
 |false,_,_,_=>[mW a,hG]
abbrev KW(b:Nat):y:=ax (.B l b 0 λa=>([]:m (m N)).getD a [])
abbrev Es(a:dN)(b:Nat):m R:=[cK a2 a.1.1,cK bg a.1.2.1,cK a3 a.1.2.2,cK az a.2.1,.x b 1 (c a.2.2) (az.fn a.2.2)]
abbrev aer(a:eQ)(b:Nat):y:=
 [aI 0 0,Q a.1,aI 0 1,gz a.2.1,.n (.agg (Es a.2.1 2)),aI 0 6,er a.2.2.1,KW 2,aI 0 10,a3.B a.2.2.2.1,cC 3 (.B (0+c a.2.2.2.1) 2 0 (0+c a.2.2.2.1)),KW 1,aI 0 11,az.B a.2.2.2.2,cC 4 (.B (0+c a.2.2.2.2) 1 0 (0+c a.2.2.2.2)),
  .n (.agg (.c (.int .i64 a.1)::(Es a.2.1 2++s7 a.2.2.1++[.O 3 (.B (0+c a.2.2.2.1) 2 0 (0+c a.2.2.2.1)),.O 4 (.B (0+c a.2.2.2.2) 1 0 (0+c a.2.2.2.2))]))),.any].getD b .any
set_option maxRecDepth 20000 in
def Ux(p)(s:uk p.2.1)(h:c p.2.2.2.1<=4000000)(O:c p.2.2.2.2<=4000000):X q 21 [fR p] [] (.n (.agg (Ny p 0 1))) ([pk p.2.1]++Tj p.2.2.2.1 p.2.2.2.2):=by
 refine X.bg bb func21 rfl rfl rfl λj=>?_;have x:a_ q [(51,k4 [gz p.2.1] [] (.n (.agg (Es p.2.1 0))) [pk p.2.1])]:=.cons (l7 (IO p.2.1 s.a' s.cy s.dc)) .nil;have e:(0+c p.2.2.2.1)*yv.bytes<=140737488355328:=by rw[show yv.bytes=16 from a];omega
 have d:(0+c p.2.2.2.2)*d8.bytes<=140737488355328:=by rw[show d8.bytes=8 from a];omega
 refine be x [901] a B ?_;refine g.cc b6 (aer p) (mw (Ig p) 4 10 14 16) a a a a
  ⟨.aW,
  .aW,
  .aW,
  .aW,
  cc.d_ a a a a a a (ee (bh:=[]) bb x (ap:=f _) a ⟨rfl,rfl⟩),
  .aW,
  .aW,
  .aW,
  .aW,
  .aW,
  cc.eR a a a a a a (ee (bh:=[3000013]) bb x (ap:=f _) a e),
  .aW,
  .aW,
  .aW,
  cc.eS a a a a a a (ee (bh:=[3000017]) bb x (ap:=f _) a d),
  .aW,
  cc.eV a a a a a a (ee (bh:=[]) bb x (ap:=f _) a B),B⟩ ?_
 intro y i;show g q _ _ _ _ _ (Ig p (y 4) (y 10) (y 14) (y 16));rw[i 4 ca,i 10 ca,i 14 ca,i 16 ca];refine tr x [] 1 a B (g.bb [mW p,.cells 38 (Ny p 2 3),pk p.2.1,.q 56 2 (c p.2.2.2.1) (a3.fn p.2.2.2.1),.q 3 1 (c p.2.2.2.2) (az.fn p.2.2.2.2)] a ?_ ?_)
 .simp[o1]
 refine g.bf () [2,3,4] ?_ (λk b=>absurd b D);simp
def Uw(p)(h:uk p.2.1)(b:c p.2.2.2.1<=4000000)(g:c p.2.2.2.2<=4000000):X q 21 [fR p] [] (fR p) []:=by have d:=X.bL (aS:=[pk p.2.1,.q 56 2 (c p.2.2.2.1) (a3.fn p.2.2.2.1)]) (Ux (q:=q) p h b g) a D a D;have e:=X.bL (aS:=[pk p.2.1]) d a D a D;refine e.b0 a ?_ a;simp[h_]
end
section
variable {q:af T}
def Jg(A)(d)(e:c d<=4000000):X q 95 [kF A,a3.B d] [] (mU (fJ A d)) []:=by refine X.bg bb func95 rfl rfl rfl λi=>?_;have h:a_ q [(13,dU [kF A,a3.B d] (mU (fJ A d)))]:=.cons (ef (Cu A d e)) .nil;refine b8 h a (by simp[a3.l];rfl) ?_;refine g.b' () [] ?_ (λj b=>absurd b D);simp
abbrev u3(a:eW):aq:=.cells 49 (ID a)
abbrev pH(a:Int)(d:dN)(b:dH):aq:=.cells 38 (hi a d b 6)
abbrev abI(a:Int×Int):y:=ax (.val (.func (.func 95) #[.agg [.int .i64 a.1,.int .i64 a.2].toArray] #[]))
abbrev pr(d b:al×Y)(a:eQ)(e:eW):m aq:=ij d b++[.cells 38 (lu a),u3 e,hG]
abbrev ND(h:Nat)(i:dN)(e:dH)(g:Int×Int)(b:cd)(a:(Int×Int)×Int)(d:Nat):y:=
 [abI g,aI 8 0,aI 8 0,aI 8 1,aI 8 1,bW i.1,aI 8 0,aI 8 0,aI 8 6,er e,bW b,a3.B b.2.2,mU a,mU a,kF a.1,Q a.2,aI h 0,.any,Q a.2].getD d .any
def xP(a:m aq)(b:Int×Int)(_ d e:Bool):m aq:=
 match d,e with
 |false,_=>a
 |true,v=>a++[EQ]
 |true,l=>a++[yK b]
abbrev qj(b:m Int):={a:Nat->m N // bs 2 a (az.fn b)}
abbrev n2(e d:al×Y)(b:eQ)(g:eW)(i:Int)(k:dN)(j:dH)(c':m (Int×Int))(a:Nat->m N)(h:eW):m aq:=pr e d b g++[.q 56 2 2 (a3.fn c'),.q 3 1 2 a,pH i k j]++[u3 h]
set_option maxRecDepth 20000 in
def IN(r j)(m)(e)(A)(h)(p)(d)(b)(c')(k)(D:oP p.1)(K:1<=b/\b<=2)(S:c c'=2)(R:c k=2):
  bk (ι:=qj (e7 b p.1 d (c',k)).2) q 55 [aI 8 0,Q b] (n2 r j m e h p d c' (az.fn k) A) (λ_=>.S []) (λF=>n2 r j m e h p d (e7 b p.1 d (c',k)).1 F.1 A++[.M]):=by
 refine bk.bP func55 rfl rfl rfl (g.aO ?_);have I:=(rW (q:=q) D d).eN.aJ;have aJ:=C_ (q:=q) D d;unfold e7;generalize kk p.1 d=o at *;have M:(b-1).toNat<2:=w;have T:(0:Nat)+(b-1).toNat<2:=w;have J:c'.getD (b-1).toNat (0,0)=c'.getD (0+(b-1).toNat) a3.F:=q1;rw[J];have E:=Jg (q:=q) (c'.getD (0+(b-1).toNat) a3.F) o.2.2 I;generalize fJ (c'.getD (0+(b-1).toNat) a3.F) o.2.2=t at *;have i:a_ q [(63,dU [bW p.1,er d] (bW o))]:=.cons (ef aJ) .nil;have C:k.getD (0+(b-1).toNat) az.F=k.getD (b-1).toNat 0:=q1;by_cases u:k.getD (b-1).toNat 0=0
 rotate_left
 .rw[bj u];refine g.fg 0 1 ?_;refine g.cM 10 a bn ?_;refine be i [15] a ?_ ?_
  .simp only[U,C,a7,iJ,dZ,ba,a9];and_intros<;>first|exact u|omega
  exact O6
 rw[bo u];refine be i [-15] a ?_ ?_
 .simp only[U,C,u,a7,ip,ba,a9];omega
 refine g.cD _ _ a a (eg.hl a a a) λN=>?_;refine be i [902] a B ?_;refine g.cc b6 (ND 10 p d (c'.getD (0+(b-1).toNat) a3.F) o t) (kJ (xP (n2 r j m e h p d c' (az.fn k) A) t.1) 18 16 17) a a a a
  ⟨.ax,
  .ax,
  .ax,
  .ax,
  .ax,
  .ax,
  .ax,
  .ax,
  .ax,
  .ax,
  .ck bb i (cl:=by exact a),
  .ax,
  cc.eK a a a (λx s O=>aZ.gQ (λ_ _ _ _=>i6 a) a a N.2 a E a a a),
  .ax,
  .ax,
  .ax,
  cc.dN a a a a a (λx=>by cases x<;>exact ee (bh:=[]) bb i (ap:=f _) a B),
  cc.dO a a a a a (λx=>by cases x<;>exact ee (bh:=[]) bb i (ap:=f _) a B),
  cc.dM a a a a (λs O=>by cases s<;>cases O<;>exact aZ.w),B⟩ ?_
 intro y z;show g q _ _ _ _ _ (xP (n2 r j m e h p d c' (az.fn k) A) t.1 (y 18) (y 16) (y 17));rw[z 18 ca,z 16 ca,z 17 ca];refine be i [904] a tS (g.cM 10 a bn ?_);have dK:=a3.cT c' (0+(b-1).toNat) t.1 2 w;have e4:=az.cT k (0+(b-1).toNat) t.2 2 w;rw[cX]at dK e4;refine g.bb (n2 r j m e h p d (c'.set (b-1).toNat t.1) (az.fn k) A++[.M]) a PE ?_;exact Pl
abbrev uN(h g:al×Y)(b:eQ)(d:eW)(j:Int)(o:dN)(k:dH)(c':m (Int×Int))(a:Nat->m N)(i:eW)(e:dN):m aq:=pr h g b d++[.q 56 2 2 (a3.fn c'),.q 3 1 2 a,pH j o k]++[u3 i,.M,gr e]
set_option maxRecDepth 20000 in
def Uo(r j)(m)(e)(A)(u)(h)(p)(d)(b)(c')(k)(E:oP p.1)(M:1<=b/\b<=2)(T:c c'=2)(K:c k=2):
  bk (ι:=qj (e7 b p.1 d (c',k)).2) q 55 [aI 8 0,Q b] (uN r j m e h p d c' (az.fn k) A u) (λ_=>.S []) (λI=>uN r j m e h p d (e7 b p.1 d (c',k)).1 I.1 A u++[.M]):=by
 refine bk.bP func55 rfl rfl rfl (g.aO ?_);have J:=(rW (q:=q) E d).eN.aJ;have aJ:=C_ (q:=q) E d;unfold e7;generalize kk p.1 d=o at *;have S:(b-1).toNat<2:=w;have V:(0:Nat)+(b-1).toNat<2:=w;have R:c'.getD (b-1).toNat (0,0)=c'.getD (0+(b-1).toNat) a3.F:=q1;rw[R];have N:=Jg (q:=q) (c'.getD (0+(b-1).toNat) a3.F) o.2.2 J;generalize fJ (c'.getD (0+(b-1).toNat) a3.F) o.2.2=t at *;have i:a_ q [(63,dU [bW p.1,er d] (bW o))]:=.cons (ef aJ) .nil;have D:k.getD (0+(b-1).toNat) az.F=k.getD (b-1).toNat 0:=q1;by_cases z:k.getD (b-1).toNat 0=0
 rotate_left
 .rw[bj z];refine g.fg 0 1 ?_;refine g.cM 12 a bn ?_;refine be i [15] a ?_ ?_
  .simp only[U,D,a7,iJ,dZ,ba,a9];and_intros<;>first|exact z|omega
  exact O6
 rw[bo z];refine be i [-15] a ?_ ?_
 .simp only[U,D,z,a7,ip,ba,a9];omega
 refine g.cD _ _ a a (eg.hl a a a) λF=>?_;refine be i [902] a B ?_;refine g.cc b6 (ND 12 p d (c'.getD (0+(b-1).toNat) a3.F) o t) (kJ (xP (uN r j m e h p d c' (az.fn k) A u) t.1) 18 16 17) a a a a
  ⟨.ax,
  .ax,
  .ax,
  .ax,
  .ax,
  .ax,
  .ax,
  .ax,
  .ax,
  .ax,
  .ck bb i (cl:=by exact a),
  .ax,
  cc.eK a a a (λx s O=>aZ.gQ (λ_ _ _ _=>i6 a) a a F.2 a N a a a),
  .ax,
  .ax,
  .ax,
  cc.dN a a a a a (λx=>by cases x<;>exact ee (bh:=[]) bb i (ap:=f _) a B),
  cc.dO a a a a a (λx=>by cases x<;>exact ee (bh:=[]) bb i (ap:=f _) a B),
  cc.dM a a a a (λs O=>by cases s<;>cases O<;>exact aZ.w),B⟩ ?_
 intro y C;show g q _ _ _ _ _ (xP (uN r j m e h p d c' (az.fn k) A u) t.1 (y 18) (y 16) (y 17));rw[C 18 ca,C 16 ca,C 17 ca];refine be i [904] a tS (g.cM 12 a bn ?_);have dK:=a3.cT c' (0+(b-1).toNat) t.1 2 w;have e4:=az.cT k (0+(b-1).toNat) t.2 2 w;rw[cX]at dK e4;refine g.bb (uN r j m e h p d (c'.set (b-1).toNat t.1) (az.fn k) A u++[.M]) a PE ?_;exact Pl
end
section
variable {q:af T}
def V8(S)(b)(C:c S.2<=4000000):X q 145 [fH S,az.B b] [] (fH (hD S b)) []:=by
 refine X.bg bb func145 rfl rfl rfl λo=>?_;have i:a_ q [(101,BA)]:=.cons MR .nil;refine be i [902] a B (g.cq 2 1 114 2 (bG.fn []) a a ?_);refine b8 i a B ?_;refine g.aC 4 (λe=>e<=c S.2) (λe:Nat=>[(1,az.B b),(4,aI 1 0),(5,aI 2 0),(12,bG.B S.2),(13,Q (c S.2)),(14,Q e)])
  (λe=>Ks S ((S.2.take e).filter λd=>b.contains d.1)) (λe=>c S.2-e) 0 a D a D a w ?_
 intro e j;have m:=CK S.2 (λd=>b.contains d.1) j;by_cases t:e<c S.2
 .have O:S.2.getD e bG.F=d9 S e:=rfl;have s:(S.2.take (e+1)).filter (λd=>b.contains d.1)=if b.contains (d9 S e).1=l then(S.2.take e).filter (λd=>b.contains d.1)++[d9 S e]else(S.2.take e).filter (λd=>b.contains d.1):=CL t (0,[]);generalize(S.2.take e).filter (λd=>b.contains d.1)=k at *;generalize d9 S e=d at *;cases aj:b.contains d.1 with
  |true=>
   rw[bo aj]at s;have C:=bG.aX k d;refine be i [15,21] a QM (g.av (e+1) a D ?_ t w);exact PA
  |false=>
   rw[bj ds]at s;refine be i [15,-21] a PW (g.av (e+1) a D ?_ t w);simp_all
 exact PD
abbrev HP(a:dN)(b d:Bool):m aq:=
 match b,d with
 |false,_=>[gr a,.cells 33 lv]
 |true,v=>[gr a,.cells 33 lv,.q 80 2 (c a.1.1) (a2.fn a.1.1),.q 84 2 (c a.1.2.1) (bg.fn a.1.2.1)]
 |true,l=>[gr a,.cells 33 [.O 2 (.B (c a.1.1) 2 0 (c a.1.1)),.O 3 (.B (c a.1.2.1) 2 0 (c a.1.2.1)),cK a3 a.1.2.2,cK az (az.ad (c a.2.1) (az.fn a.2.1)),cK az (az.ad (c a.2.2) (az.fn a.2.2))],.q 80 2 (c a.1.1) (a2.fn a.1.1),.q 84 2 (c a.1.2.1) (bg.fn a.1.2.1)]
abbrev aeq(a:dN)(b:Nat):y:=
 [aI 0 0,bW a.1,.n (.agg [.O 2 (.B (c a.1.1) 2 0 (c a.1.1)),.O 3 (.B (c a.1.2.1) 2 0 (c a.1.2.1)),cK a3 a.1.2.2]),aI 0 3,az.B a.2.1,az.B (az.ad (c a.2.1) (az.fn a.2.1)),aI 0 4,az.B a.2.2,az.B (az.ad (c a.2.2) (az.fn a.2.2)),
  .n (.agg [.O 2 (.B (c a.1.1) 2 0 (c a.1.1)),.O 3 (.B (c a.1.2.1) 2 0 (c a.1.2.1)),cK a3 a.1.2.2,cK az (az.ad (c a.2.1) (az.fn a.2.1)),cK az (az.ad (c a.2.2) (az.fn a.2.2))]),.any].getD b .any
def Jo(p)(i:dI p.1)(e:c p.2.1<=4000000)(k:c p.2.2<=4000000):X q 59 [gz p] [] (.n (.agg [.O 0 (.B (c p.1.1) 2 0 (c p.1.1)),cK bg p.1.2.1,cK a3 p.1.2.2,cK az p.2.1,cK az p.2.2])) [.q 80 2 (c p.1.1) (a2.fn p.1.1)]:=by
 refine X.bg bb func59 rfl rfl rfl λo=>?_
 have x:a_ q [(98,k4 [bW p.1] [] (.n (.agg [.O 0 (.B (c p.1.1) 2 0 (c p.1.1)),.O 1 (.B (c p.1.2.1) 2 0 (c p.1.2.1)),.c (.B v 2 (c p.1.2.2) (a3.fn p.1.2.2))])) [.q 80 2 (c p.1.1) (a2.fn p.1.1),.q 84 2 (c p.1.2.1) (bg.fn p.1.2.1)]),
   (61,dc (eK az) (λb=>az.B b) λb=>[c b<=4000000])]:=.cons (l7 (o9 p.1 i.aY i.bm i.aZ i.bp i.aJ)) (.cons (.a9 λb j=>Ch b j) .nil)
 refine be x [901] a B ?_;refine g.cc b6 (aeq p) (ob (HP p) 2 10) a a a a
  ⟨.bE,.bE,cc.fK a a (ee (bh:=[]) bb x (ap:=f _) a D),.bE,.bE,.ds bb x (cl:=by exact⟨az.U _,by rw[az.l];exact e⟩),.bE,.bE,.ds bb x (cl:=by exact⟨az.U _,by rw[az.l];exact k⟩),.bE,
   cc.fL a a (ee (bh:=[]) bb x (ap:=f _) a B),B⟩ ?_
 intro y d;show g q _ _ _ _ _ (HP p (y 2) (y 10));rw[d 2 ca,d 10 ca];refine tr x [] 1 a B (g.bN 3 a a a D D (g.bb [gr p,.cells 33 [.O 2 (.B (c p.1.1) 2 0 (c p.1.1)),cK bg p.1.2.1,cK a3 p.1.2.2,cK az p.2.1,cK az p.2.2],.q 80 2 (c p.1.1) (a2.fn p.1.1),.M] a ?_ ?_))
 .simp[az.l,h_]
 refine g.bf () [2] ?_ (λm h=>absurd h D);simp
abbrev p8(a:m b'):aq:=.q 80 2 (c a) (a2.fn a)
abbrev xN(b a:Nat):y:=cC 0 (.B b 2 0 a)
def Vs(d)(A)(E:A<=c d)(I:c d<=4000000)(m)(ah)(i:b'->Bool)(y:∀r,r∈d.take A->X q m [fH r,ax (.R ah)] [] (bf (i r)) []):
  X q 129 [xN (c d) A,ax (.fn (.func m) [] [.R ah])] [p8 d] (Q (gR i (d.take A))) [p8 d]:=by
 refine X.J func129 rfl λF=>?_;refine aW a B ?_;have C:c (d.take A)=A:=bQ;have k:∀e,e<A->(d.take A).getD e (0,[])=d.getD e (0,[]):=λe p=>by simp[iq,p]
 refine g.aC 1 (λb=>b<=A/\∀e,e<b->i ((d.take A).getD e (0,[]))=v) (λb:Nat=>[(0,xN (c d) A),(1,ax (.fn (.func m) [] [.R ah])),(7,Q A),(8,Q b)]) (λ_=>[p8 d]) (λb=>A-b) 0 a D a D a ⟨by omega,by omega⟩ ?_;rintro b ⟨u,j⟩;by_cases h:b<A
 .have z:d.getD b (0,[])∈d.take A:=by rw[<-k b h];grind
  have x:d.getD ((0+(b:Int).toNat:Nat)) a2.F=d.getD b (0,[]):=nN;refine a5 [9] a bv ?_;rw[x];refine g.aB (y _ z) [] a ?_;cases s:i (d.getD b (0,[]))with
  |true=>
   refine a5 [16] a D (g.aT (bY.mk [0] a ?_ a a a h6));simp[sX (o:=d.take A) (O:=(0,[])) w (by rw[k b h];exact s) j]
  |false=>
   refine a5 [-16] a bE (g.av (b+1) a D D ⟨h,λe p=>?_⟩ w);by_cases t:e=b
   .rw[t,k b h];exact s
   exact j e w
 refine a5 [-9] a bQ (g.az ?_);refine aW a B (g.aH [0] a ?_ h6);simp[sY (o:=d.take A) (O:=(0,[])) (λe p=>j e w)]
def n_(a:m b')(b d:Nat):m b':=(a.take b).eraseIdx d++(0,[])::a.drop b
def Tp{d}(b:A<=c d)(a:e<A):c (n_ d A e)=c d:=by unfold n_;rw[dk,Gc bQ];simp;omega
def UI(d)(A e)(O:A<=c d)(x:e<A)(R:c d<=4000000):
  X q 146 [xN (c d) A,Q e,Q ((e:Int)+1)] [p8 d] (xN (c d) (A-1)) [.q 80 2 (c d) (a2.fn (n_ d A e))]:=by
 refine X.J func146 rfl λS=>?_;refine bL [-16,906] a EZ ?_;have z:bV A (f (e:Int))-bV 0 n+(bV A n-bV 0 (f ((e:Int)+1)))=A-1:=EZ;rw[z];refine g.region ?_;refine gp [] 4 a B (g.aK (a1.hO bb a a a a a a a a a w w w) a a ?_);refine g.aK (a1.eY bb a a a a a a w) a a ?_;refine bL [907] a B (g.gO 0 (a2.fn (n_ d A e)) a (λ_ _=>rfl) (λN idx o s r M=>?_) ?_)
 .have J:bV A (f (e:Int))-bV 0 n=e:=wD;have I:bV 0 (f ((e:Int)+1))=e+1:=bE;have C:bV A n=A:=rfl;simp only[cY];rw[J,I,C];have y:(n_ d A e).getD idx (0,[])=if idx<e then d.getD idx (0,[])else if idx<A-1 then d.getD (idx+1) (0,[])else if idx<A then(0,[])else d.getD idx (0,[]):=by
   unfold n_;have u:c ((d.take A).eraseIdx e)=A-1:=NO;simp only[ak];by_cases m:idx<A-1
   .rw[j3 w,List.getElem?_eraseIdx];by_cases h:idx<e
    .rw[bo h,bo h,iq,bo w]
    rw[bj h,bj h,bo m,iq,bo w]
   rw[hl w,u];by_cases E:idx=A-1
   .subst E;rw[bj w,bj w,bo w];simp
   obtain⟨j,rfl⟩:∃j,idx=A+j:=⟨idx-A,by omega⟩
   rw[bj w,bj w,bj w,show A+j-(A-1)=j+1 by omega];simp
  have b:(a2.a7 ((n_ d A e).getD idx (0,[])))[s]?=f r:=M;rw[y]at b;by_cases m:idx=A-1
  .subst m;rw[bj w,bj w,bo w]at b;have D:nM (0+(A-1)) (0+(A-1)+(A-(A-1))) nv.zero (qC e (0+(e+1)) (A-(e+1)) (a2.fn d)) (A-1)=nv.zero:=bo w;rw[D]
   match s,b with
   |0,b=>exact⟨_,rfl,λK i=>by cases b;exact i⟩
   |1,b=>exact⟨_,rfl,λK i=>by cases b;exact Kp (F:=.B l 0 0 λ_=>[]) rfl ⟨rfl,rfl⟩ i⟩
  refine⟨r,?_,λ_ i=>i⟩;rw[<-b];congr 1;unfold nM qC;rw[bj w];have k:∀t,a2.fn d t=a2.a7 (d.getD t (0,[])):=λ_=>rfl;by_cases h:idx<e
  .rw[bj w,bo h,k]
  rw[bj h];by_cases p:idx<A-1
  .rw[bo w,bo p,k,show 0+(e+1)+(idx-e)=idx+1 by omega]
  rw[bj w,bj p,bj w,k]
 exact PU
end
def kr(a:dN):Nat->dN
 |0=>a
 |b+1=>jv (kr a b)
def My{p}:∀{u:Nat},u<=c p.2.2->(kr p u).1.2=p.1.2/\(kr p u).2.1=p.2.1/\(kr p u).2.2=p.2.2.drop u/\(kr p u).1.1=(p.2.2.take u).foldl (λd b=>fl b p.2.1 d) p.1.1
 |0,_=>⟨rfl,rfl,rfl,rfl⟩
 |u+1,m=>by
  obtain⟨j,i,k,e⟩:=My (p:=p) (u:=u) w;have h:p.2.2.drop u=p.2.2.getD u 0::p.2.2.drop (u+1):=by rw[R9 w];simp[bH (show u<c p.2.2 by omega)]
  have g:kr p (u+1)=((fl (p.2.2.getD u 0) p.2.1 (kr p u).1.1,(kr p u).1.2),(kr p u).2.1,p.2.2.drop (u+1)):=by rw[show kr p (u+1)=jv (kr p u)from a];unfold jv;simp_all
  rw[g,ie w 0,uu,<-e];simp_all
def j0.hX{h}{p}(b:j0 h p):∀a,j0 h (kr p a)
 |0=>b
 |a+1=>(j0.hX b a).step
def LG{cx}{bN}:∀{Z:m b'}{e:Nat},(Z.Pairwise λa b=>a.1<b.1)->(∀a∈Z,a.2≠[])->e<c Z->(Z.getD e (0,[])).1=bN ->
  gR (λa:b'=>a.1==bN) Z=e/\fl bN cx Z=if(hD (Z.getD e (0,[])) cx).2.length=0 then Z.eraseIdx e else Z.set e (hD (Z.getD e (0,[])) cx)
 |a::Z,0,i,h,_,d=>by
  obtain⟨k,q⟩:=iG.1 i;simp only[List.getD_cons_zero]at d⊢;have j:Z.map (iY bN cx)=Z:=by rw[p5 (g:=id) λb g=>by have:=k b g;exact bj w,List.map_id]
  refine⟨by simp[gR,List.findIdx?_cons,d],?_⟩;unfold fl;rw[mf,j,show iY bN cx a=hD a cx from bo d,so,sh.2 λb g=>by simpa using h b (mh _ g)];split<;>split<;>simp_all
 |a::Z,e+1,i,h,o,d=>by
  obtain⟨k,q⟩:=iG.1 i;simp only[List.getD_cons_succ,fh]at d o⊢;obtain⟨k1,t⟩:=LG (cx:=cx) (e:=e) q (λb g=>h b (mh _ g)) w d;have s:Z.getD e (0,[])∈Z:=M;have r:a.1≠bN:=by have:=k _ s;omega
  have x:=h a ir;refine⟨?_,?_⟩
  .unfold gR at k1⊢;rw[List.findIdx?_cons];have:(a.1==bN)=v:=bv;rw[this];cases p:Z.findIdx? λa=>a.1==bN with
   |none=>rw[p]at k1;exact bE
   |some u=>rw[p]at k1;exact bv
  have j:fl bN cx (a::Z)=a::fl bN cx Z:=by unfold fl;rw[mf,show iY bN cx a=a from bj r,so,bo bv]
  rw[j,t];split<;>simp
def kn(a:m Int)(d:m b')(e b:Nat):m b'×Nat:=
 if(hD (d.getD b (0,[])) a).2.length=0 then(n_ d e b,e-1)else(d.set b (hD (d.getD b (0,[])) a),e)
def aaT{cx}{bN}{d}(j:A<=c d)(a:e<A)(i:(d.take A).Pairwise λb p=>b.1<p.1)(m:∀b∈d.take A,b.2≠[])(o:(d.getD e (0,[])).1=bN):
  gR (λb:b'=>b.1==bN) (d.take A)=e/\(kn cx d A e).1.length=c d/\(kn cx d A e).2<=A/\(kn cx d A e).1.take (kn cx d A e).2=fl bN cx (d.take A):=by
 have h:(d.take A).getD e (0,[])=d.getD e (0,[]):=by simp[iq,a]
 obtain⟨k1,g⟩:=LG (cx:=cx) (bN:=bN) (Z:=d.take A) (e:=e) i m ds (h▸o);rw[h]at g;rw[g];unfold kn;split
 .refine⟨k1,Tp j a,by omega,?_⟩;unfold n_;have k:c ((d.take A).eraseIdx e)=A-1:=NO;simp only;exact List.take_left' k
 exact⟨k1,by simp,bC _,by rw[AQ]⟩
section
variable {q:af T}
def VM(b)(j):X q 144 [fH b,ax (.R [.int .i64 j])] [] (bf (b.1==j)) []:=by refine X.J func144 rfl λd=>?_;exact aW a B (g.ao a)
abbrev lN(b:m b')(a:Nat):b':=b.getD (0+(a:Int).toNat) a2.F
abbrev LF(d:m b')(b:Nat)(a:m Int):aq:=.cells 80 [.c (.int .i64 (lN d b).1),.c (lm (hD (lN d b) a))]
end
structure wJ(p:dN)(KL u:Nat)(d:m b')(A:Nat):Prop where
 fB:u<=c p.2.2
 len:c d=KL
 gj:A<=KL
 c1:d.take A=(kr p u).1.1
 cB:∀S∈d,c S.2<=4000000
def wJ.next{p}{y}{d}(o:j0 h p)(e:wJ p y u d A)(z:u<c p.2.2):
  ∃g,g<A/\gR (λj:b'=>j.1==p.2.2.getD u 0) (d.take A)=g/\wJ p y (u+1) (kn p.2.1 d A g).1 (kn p.2.1 d A g).2:=by
 have k:=o.hX u;obtain⟨D,m,x,J⟩:=My (p:=p) (u:=u) e.fB;have t:p.2.2.drop u=p.2.2.getD u 0::p.2.2.drop (u+1):=ds;obtain⟨j,b,s⟩:=k.gl (p.2.2.getD u 0) (by rw[x,t];simp);rw[<-e.c1]at b;obtain⟨g,q,C⟩:=g4 b;rw[List.length_take]at q;have i:g<A:=w;have F:(d.getD g (0,[])).1=p.2.2.getD u 0:=by rw[<-s,<-C];simp[bH (show g<c d by omega)]
 have B:∀j∈d.take A,j.2≠[]:=λj b=>by rw[e.c1]at b;have:=(k.cr j b).len.1;grind
 obtain⟨k1,a',E,I⟩:=aaT (cx:=p.2.1) (by rw[e.len];exact e.gj) i (by rw[e.c1];exact k.cG) B F;refine⟨g,i,k1,z,by rw[a',e.len],fQ E e.gj,?_,λj b=>?_⟩
 .rw[I,e.c1];rw[show kr p (u+1)=jv (kr p u)from a];unfold jv;rw[x,t,m]
 unfold kn at b;split at b
 .unfold n_ at b;simp only[fx,e9]at b;rcases b with b|b|b
  .exact e.cB j (gY (List.mem_of_mem_eraseIdx b))
  .exact bE
  exact e.cB j (pV b)
 rcases AE b with b|b
 .exact e.cB j b
 rw[b];have r:d.getD g (0,[])∈d:=M;exact fQ (kz _ _) (e.cB _ r)
section
variable {q:af T}
def IK(d)(h:c d<=4000000):X q 61 [az.B d] [] (cC 0 (.B (c d) 1 0 (c d))) [jG (c d) d]:=by
 refine X.J func61 rfl λi=>?_;refine aW a B (g.ep bb a a a a a a λb e=>?_);cases b with
 |true=>
  obtain rfl:=jC (e rfl);refine aW a B (g.e9 2 3 1 (az.fn []) a ?_);exact Fl
 |false=>
  refine gp [] 7 a B (g.dH 5 3 1 (az.fn []) a ?_);refine aW a ⟨a,a,show(0+c d)*8<=_ by omega⟩ (g.bb [jG (c d) d] a ?_ ?_)
  .simp[bs,cg]
  exact FA
abbrev HO(a:dN)(b:Bool):m R:=[.O 2 (.B (c a.1.1) 2 0 (c a.1.1)),.O 3 (.B (c a.1.2.1) 2 0 (c a.1.2.1)),cK a3 a.1.2.2,cK az (az.ad (c a.2.1) (az.fn a.2.1)),.O 4 (.B (c a.2.2) 1 0 (c a.2.2))]
abbrev HN(a:dN)(b d e g:Bool):m aq:=
 match b,d,e,g with
 |false,_,_,_=>[gr a,.cells 33 lv]
 |true,_,v,_=>[gr a,.cells 33 lv,.q 80 2 (c a.1.1) (a2.fn a.1.1),.q 84 2 (c a.1.2.1) (bg.fn a.1.2.1)]
 |true,_,l,v=>[gr a,.cells 33 lv,.q 80 2 (c a.1.1) (a2.fn a.1.1),.q 84 2 (c a.1.2.1) (bg.fn a.1.2.1),jG (c a.2.2) a.2.2]
 |true,_,l,l=>[gr a,.cells 33 (HO a l),.q 80 2 (c a.1.1) (a2.fn a.1.1),.q 84 2 (c a.1.2.1) (bg.fn a.1.2.1),jG (c a.2.2) a.2.2]
abbrev aep(a:dN)(b:Nat):y:=
 [aI 0 0,bW a.1,.n (.agg [.O 2 (.B (c a.1.1) 2 0 (c a.1.1)),.O 3 (.B (c a.1.2.1) 2 0 (c a.1.2.1)),cK a3 a.1.2.2]),aI 0 3,az.B a.2.1,az.B (az.ad (c a.2.1) (az.fn a.2.1)),aI 0 4,az.B a.2.2,cC 4 (.B (c a.2.2) 1 0 (c a.2.2)),
  .n (.agg (HO a l)),.any].getD b .any
def X4(p)(i:dI p.1)(d:c p.2.1<=4000000)(j:c p.2.2<=4000000):X q 59 [gz p] [] (.n (.agg [.O 0 (.B (c p.1.1) 2 0 (c p.1.1)),cK bg p.1.2.1,cK a3 p.1.2.2,cK az p.2.1,.O 1 (.B (c p.2.2) 1 0 (c p.2.2))])) [.q 80 2 (c p.1.1) (a2.fn p.1.1),jG (c p.2.2) p.2.2]:=by
 refine X.bg bb func59 rfl rfl rfl λm=>?_
 have x:a_ q [(98,k4 [bW p.1] [] (.n (.agg [.O 0 (.B (c p.1.1) 2 0 (c p.1.1)),.O 1 (.B (c p.1.2.1) 2 0 (c p.1.2.1)),.c (.B v 2 (c p.1.2.2) (a3.fn p.1.2.2))])) [.q 80 2 (c p.1.1) (a2.fn p.1.1),.q 84 2 (c p.1.2.1) (bg.fn p.1.2.1)]),
   (61,dc (eK az) (λb=>az.B b) λb=>[c b<=4000000])]:=.cons (l7 (o9 p.1 i.aY i.bm i.aZ i.bp i.aJ)) (.cons (.a9 λb h=>Ch b h) .nil)
 have hM:a_ q [(61,k4 [az.B p.2.2] [] (cC 0 (.B (c p.2.2) 1 0 (c p.2.2))) [jG (c p.2.2) p.2.2])]:=.cons (l7 (IK p.2.2 j)) .nil;refine be x [901] a B ?_;refine g.cc b6 (aep p) (mw (HN p) 2 5 8 10) a a a a
  ⟨.aW,.aW,cc.d_ a a a a a a (ee (bh:=[]) bb x (ap:=f _) a D),.aW,.aW,cc.eR a a a a a a (aZ.eval (bh:=[]) bb x a (by exact⟨az.U _,by rw[az.l];exact d⟩)),.aW,.aW,cc.eS a a a a a a (ee (bh:=[]) bb hM (ap:=f _) a bE),.aW,
   cc.eV a a a a a a (ee (bh:=[]) bb x (ap:=f _) a B),B⟩ ?_
 intro y O;show g q _ _ _ _ _ (HN p (y 2) (y 5) (y 8) (y 10));rw[O 2 ca,O 5 ca,O 8 ca,O 10 ca];refine tr x [] 1 a B (g.bN 3 a a a D D (g.bb [gr p,.cells 33 [.O 2 (.B (c p.1.1) 2 0 (c p.1.1)),cK bg p.1.2.1,cK a3 p.1.2.2,cK az p.2.1,.O 4 (.B (c p.2.2) 1 0 (c p.2.2))],.q 80 2 (c p.1.1) (a2.fn p.1.1),.M,jG (c p.2.2) p.2.2] a ?_ ?_))
 .simp[az.l,h_]
 refine g.bf () [2,4] ?_ (λk e=>absurd e D);simp
abbrev tQ:aq:=.cells 33 lv
abbrev v7(h g:Nat)(d:m eh)(e:m (Int×Int))(b a:m Int):aq:=.cells 33 [.O 2 (.B h 2 0 g),cK bg d,cK a3 e,cK az b,.O 3 (.B (c a) 1 0 (c a))]
abbrev aeA(d:m b')(g b:Nat)(a:m Int)(e:Nat):y:=
 [aI 4 0,aI 4 0,aI 4 0,aI 4 0,cC 2 (.B (c d) 2 0 g),Q b,cC 2 (.bt (c d) 2 (0+(b:Int).toNat) 0),fH (lN d b),
  aI 4 0,aI 4 0,aI 4 3,az.B a,fH (hD (lN d b) a),aI 6 0,.any].getD e .any
abbrev LD(i:dN)(d:m b')(h o:Nat)(e:m eh)(g:m (Int×Int))(b a:m Int)(j k:Bool):m aq:=
 match j,k with
 |false,_=>[gr i,tQ,p8 d,jG (c a) a,v7 (c d) h e g b a,.M]
 |true,v=>[gr i,tQ,p8 d,jG (c a) a,v7 (c d) h e g b a,.M,.cells 80 [.c (.int .i64 0),cF]]
 |true,l=>[gr i,tQ,p8 d,jG (c a) a,v7 (c d) h e g b a,.M,LF d o b]
set_option maxRecDepth 20000 in
def Xj(p)(bN)(d)(A e)(dy)(k)(cx b)(t:A<=c d)(u:c d<=4000000)(s:e<A)(E:gR (λj:b'=>j.1==bN) (d.take A)=e)(C:∀j∈d,c j.2<=4000000):
  bk (ι:={h:Nat->m N // bs (c d) h (a2.fn (kn cx d A e).1)}) q 103 [aI 4 0,Q bN] [gr p,tQ,p8 d,jG (c b) b,v7 (c d) A dy k cx b] (λ_=>.S []) (λh=>[gr p,tQ,.q 80 2 (c d) h.1,jG (c b) b,v7 (c d) (kn cx d A e).2 dy k cx b,.M,LF d e cx]):=by
 refine bk.bP func103 rfl rfl rfl (g.aO ?_);refine bL [901] a B (g.freeze 3 5 a a a ?_);refine cz a B (g.aB (Vs d A t u 144 [.int .i64 bN] (λj=>j.1==bN) λj _=>VM j bN) [2] a ?_);rw[E];have o:lN d e=d.getD e (0,[]):=nN;have i:lN d e∈d:=by rw[o];grind
 have x:a_ q [(145,dU [fH (lN d e),az.B cx] (fH (hD (lN d e) cx)))]:=.cons (ef (V8 (lN d e) cx (C _ i))) .nil;have cl:0<=(e:Int)/\(e:Int)<((A:Nat):Int):=w;have D:c d=c d/\0+(e:Int).toNat<c d:=⟨rfl,by omega⟩
 refine bL [902] a B ?_;refine g.cc b6 (aeA d A e cx) (ob (LD p d A e dy k cx b) 13 14) a a a a
  ⟨.bE,.bE,.bE,.bE,.bE,.bE,.ds bb x (cl:=by exact cl),.ds bb x (cl:=by exact D),.bE,.bE,.bE,.bE,.ds bb x (cl:=by exact a),
   cc.fK a a (ee (bh:=[]) bb x (ap:=f _) a B),cc.fL a a (ee (bh:=[]) bb x (ap:=f _) a B),B⟩ ?_
 intro y z;show g q _ _ _ _ _ (LD p d A e dy k cx b (y 13) (y 14));rw[z 13 ca,z 14 ca];unfold kn;by_cases r:(hD (lN d e) cx).2.length=0
 .rw[bo (by rw[<-o];exact r)];refine bL [29] a ?_ ?_
  .simp only[U,a7,r];exact bv
  exact g.aB (UI d A e t s u) [2] a (cz a B ⟨⟨_,bs.same⟩,.inr a,a,a,_,_,_,a,a,a,B⟩)
 rw[bj (by rw[<-o];exact r)];refine bL [-29] a ?_ ?_
 .simp only[U];exact⟨B,by omega,by omega,by omega,by simpa using r⟩
 refine⟨⟨l5 (0+(e:Int).toNat) [.int .i64 (lN d e).1,lm (hD (lN d e) cx)] (a2.fn d),?_⟩,.inr a,a,a,_,_,_,a,a,a,B⟩;have:=a2.cT d e (hD (lN d e) cx) (c d) (bC _);rw[o]at *;rw[show 0+(e:Int).toNat=e by omega];exact this
def UJ(d)(b)(z:c b<=4000000):
  X q 104 [cC 0 (.B (c (d::b)) 1 0 (c (d::b))),Q 0,Q 1] [jG (c (d::b)) (d::b)] (cC 0 (.B (c (d::b)) 1 0 (c b))) [jG (c (d::b)) (b++[0])]:=by
 refine X.J func104 rfl λy=>?_;refine bL [-16,906] a EZ ?_;have j:bV (c (d::b)) (f 0)-bV 0 n+(bV (c (d::b)) n-bV 0 (f 1))=c b:=wD;rw[j];refine g.region ?_;refine gp [] 4 a B ?_;refine g.aK (a1.hO bb a a a a a a a a a w bE (by simp<;>omega)) a a ?_;refine g.aK (a1.eY bb a a a a a a ?_) a a ?_
 .simp
 refine bL [907] a B (g.gO 0 (az.fn (b++[0])) a (λ_ _=>rfl) (λu idx e x m s=>?_) ?_)
 .refine⟨m,?_,λ_ i=>i⟩;rw[<-s];congr 1;unfold nM qC;simp[fh]at e;have o:bV (c b+1) (f 0)-bV 0 n=0:=rfl;have k:bV 0 (f 1)=1:=rfl;have p:bV (c b+1) n=c b+1:=rfl;simp only[fh,cY,o,k,p];have r:az.fn (b++[0]) idx=az.a7 ((b++[0]).getD idx 0):=rfl;rw[r];by_cases i:idx<c b
  .have h:(b++[0]).getD idx 0=b.getD idx 0:=ds;have t:az.fn (d::b) (0+1+(idx-0))=az.a7 (b.getD idx 0):=by rw[show 0+1+(idx-0)=idx+1 by omega];rfl
   rw[bj w,bo w,h,<-t]
  obtain rfl:idx=c b:=w;have h:(b++[0]).getD (c b) 0=0:=D;rw[bo w,h];rfl
 exact PU
end
def zs(b:Int)(a:dN):dN×Bool:=if hg b a=l then(jv a,qq a)else(hj,v)
def X9(h)(p)(m:pT p)(o:dI p.1):X (af.aD T) 58 [Q h,gz p] [] (jV (zs h p).1 (zs h p).2) []:=by
 refine X.bg bb func58 rfl rfl rfl λS=>?_;have t:a_ (af.aD T) [(53,xD)]:=.cons ED .nil;have E:=o.aY;have C:=m.fG;unfold zs;cases j:hg h p with
 |false=>
  refine be t [10] a ?_ ?_
  .simp only[U,a2.l,a2.U,bg.l,bg.U,a3.l,a3.U,az.l,az.U,j,m,ba,a9,hJ]
  exact Ff
 |true=>
 rw[bo a];have J:=rZ.1 j;refine be t [-10] a ?_ ?_
 .simp only[U,a2.l,a2.U,bg.l,bg.U,a3.l,a3.U,az.l,az.U,j,m,ba,a9,ft]
 refine g.aB (X4 p o m.gq m.fG) [] a ?_;obtain⟨b,d,K⟩:=p;cases K with
 |nil=>
  have z:(jv (b,d,[]),qq (b,d,[]))=((b,d,[]),v):=rfl;rw[z];refine bL [17] a D (g.bN 2 a a a D D (g.bN 3 a a a D D (g.b' () [] ?_ eG)));simp[h_]
 |cons e i=>
  have F:wJ (b,d,e::i) (c b.1) 0 b.1 (c b.1):=⟨gZ _,rfl,bC _,by simp[kr],o.bm⟩
  obtain⟨k,s,M,r⟩:=F.next J D;have x:c i<=4000000:=by have:c i+1<=4000000:=C;omega
  refine bL [-17] a ?_ ?_
  .simp<;>omega
  refine g.cK (Xj (b,d,e::i) e b.1 (c b.1) k b.2.1 b.2.2 d (e::i) (bC _) E s M o.bm) a a a a D a ?_;rintro⟨A,y⟩;refine cz a B (g.aB (UJ e i x) [3] a (cz a B ?_));have O:(kn d b.1 (c b.1) k).1.length=c b.1:=r.len;have R:(kn d b.1 (c b.1) k).2<=c b.1:=r.gj;have I:(jv (b,d,e::i)).1.1=(kn d b.1 (c b.1) k).1.take (kn d b.1 (c b.1) k).2:=r.c1.symm;refine g.bN 2 a a a bv bv (g.bN 3 a a a D D (g.b' () [] ?_ eG));generalize kn d b.1 (c b.1) k=N at *;simp only[U.X,U,I,ba,a9];and_intros<;>first|exact bs.same|rfl|(simp;omega)|skip
  .intro u q;have:=y u w;simp[h_,this,c0.fn,gF,ak,iq,q,dv]
  intro u q;show az.a7 ((i++[0]).getD u 0)=az.a7 (i.getD u 0);simp[List.getElem?_append,q]
def AS{j}{d}{b}(g:∀h,h<b->d.getD h 0<j)(e:b<c d->j<=d.getD b 0):∀a,a<=c d->(fy j d a).2=decide (b<a)
 |0,_=>by simp[fy]
 |a+1,p=>by
  have m:=AS g e a w;rw[w_ w];generalize fy j d a=k at *;unfold gq;by_cases o:b<a
  .grind
  by_cases i:b=a
  .subst i;have:=e w;grind
  have:=g a w;grind
def R'{j}{d}{a}(g:∀i,i<a->d.getD i 0<j)(b:a<c d->j<=d.getD a 0)(h:e<c d):
  (fy j d (e+1)).1=(fy j d e).1++(if e=a then[j]else[])++(if d.getD e 0≠j then[d.getD e 0]else[]):=by
 have o:=AS g b e w;rw[w_ h];generalize fy j d e=m at *;unfold gq;by_cases p:a<e
 .grind
 by_cases k:a=e
 .subst k;have:=b h;grind
 have:=g e w;grind
def Zu{j}{d}{a}(e:∀b,b<a->d.getD b 0<j)(g:a<c d->j<=d.getD a 0)(i:a<=c d):e5 d j=(fy j d (c d)).1++(if a=c d then[j]else[]):=by
 have:=AS e g (c d) (bC _);have h:fy j d (c d)=d.foldl (gq j) ([],v):=by unfold fy;rw[c6]
 unfold e5;rw[<-h];grind
section
variable {q:af T}
def Vm(d)(i)(ah)(h:Int->Bool)(u:∀j,j∈d->X q i [Q j,ax (.R ah)] [] (bf (h j)) []):
  X q 127 [az.B d,ax (.fn (.func i) [] [.R ah])] [] (Q (gR h d)) []:=by
 refine X.J func127 rfl λt=>?_;have y:=t.B 0 a;refine aW a B (g.aC 0 (λb=>b<=c d/\∀e,e<b->h (d.getD e 0)=v) (λb:Nat=>[(0,az.B d),(1,ax (.fn (.func i) [] [.R ah])),(7,Q (c d)),(8,Q b)]) (λ_=>[]) (λb=>c d-b) 0 a D a B a ⟨by omega,by omega⟩ ?_);rintro b ⟨s,k⟩;by_cases p:b<c d
 .have r:d.getD b 0∈d:=M;have m:d.getD (b:Int).toNat az.F=d.getD b 0:=M;refine a5 [9] a pJ ?_;rw[m];refine g.aB (u _ r) [] a ?_;cases x:h (d.getD b 0)with
  |true=>
   refine a5 [16] a D (g.aT (bY.zero a ?_));simp[sX p x k]
  |false=>
   exact a5 [-16] a kT (g.av (b+1) a D B M w)
 refine a5 [-9] a bQ (g.az ?_);refine aW a B (g.ao a ?_);simp[sY (o:=d) (O:=0) (λe z=>k e w)]
def Wx(A j):X q 137 [Q A,ax (.R [.int .i64 j])] [] (bf (decide (j<=A))) []:=by refine X.J func137 rfl λb=>?_;exact aW a B (g.ao a)
abbrev Yv(a:m Int)(b:Int)(d:Nat):bJ:=[(0,az.B a),(3,ax (.R [.int .i64 b])),(5,Q d)]
def Wy(d)(j)(F:c d<=100000000):X q 97 [az.B d,Q j] [] (az.B (e5 d j)) []:=by
 refine X.J func97 rfl λE=>?_;refine a5 [901] a B (g.freeze 3 0 a a a ?_);refine aW a B (g.aB (Vm d 137 [.int .i64 j] (λm=>decide (j<=m)) λm _=>Wx m j) [] a ?_);obtain⟨b,z,x,u,O⟩:∃b:Nat,b<=c d/\(∀p,p<b->d.getD p 0<j)/\(b<c d->j<=d.getD b 0)/\gR (λm=>decide (j<=m)) d=if b<c d then(b:Int)else -1:=by
  rcases yw (λm=>decide (j<=m)) d with⟨r,h⟩|⟨e,k,r,h,aa⟩
  .refine⟨c d,bC _,λp A=>?_,λh=>absurd h (w5 _),by rw[r,bj (w5 _)]⟩;have:=h (d.getD p 0) M;simp at this;grind
  refine⟨e,by omega,λp A=>?_,λ_=>?_,by rw[r,bo k]⟩
  .have:=h (d.getD p 0) (by grind[List.mem_take_iff_getElem]);simp at this;grind
  grind
 rw[O];apply g.cg (Yv d j b) [.M]
 .intro dw;by_cases t:b<c d
  .rw[bo t];exact a5 [-13,904] a D ku
  rw[bj t];obtain rfl:b=c d:=w;exact a5 [13,904] a D ku
 refine a5 [905] a B (g.bG 6 3 1 a a ?_);refine aW a B ?_;refine g.aC 2 (λe=>e<=c d) (λe:Nat=>[(0,az.B d),(3,ax (.R [.int .i64 j])),(5,Q b),(6,.n (.Q (.x 1 1 (fy j d e).1.length (az.fn (fy j d e).1)))),(16,az.B d),(17,Q (c d)),(18,Q e)])
  (λe=>[.M,.x 3 1 (fy j d e).1.length (az.fn (fy j d e).1)]) (λe=>c d-e) 0 a ?_ a ?_ a w ?_
 .simp[fy]
 .simp[fy]
 intro e k;have C:=w9 j d e k;by_cases h:e<c d
 .have i:=R' x u h;have aj:d.getD (e:Int).toNat az.F=d.getD e 0:=rfl;generalize fy j d e=o at *;have I:c o.1<=e+1:=w;generalize d.getD e 0=s at *;by_cases g7:e=b<;>by_cases iK:s=j
  .rw[bo g7,bj z',h1]at i;have O:=az.aX o.1 j;refine bL [19,25,-32] a z2 (g.av (e+1) a ?_ ?_ h w)
   .rw[i];simp;exact O
   rw[i];simp;exact O
  .rw[bo g7,bo z']at i;have O:=az.e1 o.1 j s;refine bL [19,25,32] a z2 (g.av (e+1) a zQ ?_ h w);exact zQ
  .rw[bj g7,bj z',h1,h1]at i;refine bL [19,-25,-32] a z2 (g.av (e+1) a ?_ ?_ h w)
   .rw[i];simp
   rw[i];simp
  rw[bj g7,bo z',h1]at i;have O:=az.aX o.1 s;refine bL [19,-25,32] a z2 (g.av (e+1) a zQ ?_ h w);exact zQ
 obtain rfl:e=c d:=w;have y:=Zu x u z;rw[y];generalize fy j d (c d)=o at *;refine bL [-19] a D (g.az ?_);by_cases g7:b=c d
 .rw[bo g7];have O:=az.aX o.1 j;refine bL [41] a PX (g.ao a ?_);simp;exact O
 rw[bj g7,h1];refine bL [-41] a PX (g.ao a ?_);simp
end
def KS{h}{d}:∀(a b:m bA),b.Nodup->(a.foldl (e8 h d) b).Nodup
 |[],b,e=>e
 |g::a,b,e=>by rw[iI];refine KS a _ ?_;unfold e8;grind
def Ef(h)(o)(d):(fV h o d).Nodup:=KS _ _ List.nodup_nil
theorem DS{d}{b a}:a∈fB d b↔a=b∨a∈d:=by
 induction d with
 |nil=>simp[fB]
 |cons g h e=>simp[fB];split<;>simp[e,or_left_comm,or_assoc]
def aa1{d}{e}(h:d.Pairwise λa b=>a.1<b.1)(g:∀i∈d,i.1≠e.1):(fB d e).Pairwise λa b=>a.1<b.1:=by
 induction d with
 |nil=>simp[fB]
 |cons a p j=>
  obtain⟨o,m⟩:=iG.1 h;have k:=g a ir;simp[fB];grind[List.pairwise_cons,DS]
def Dr:∀(d e:m cW),e.Pairwise (λa b=>a.1<b.1)->d.Pairwise (λa b=>a.1≠b.1)->(∀a∈d,∀b∈e,b.1≠a.1)->(d.foldl fB e).Pairwise λa b=>a.1<b.1
 |[],_,g,_,_=>g
 |a::d,e,g,h,i=>by obtain⟨d1,d2⟩:=iG.1 h;refine Dr d _ (aa1 g (i a ir)) d2 λo k b j=>?_;grind[DS]
theorem yI(h)(cR):h8 h cR=(cR.map (gD h)).foldl fB []:=by unfold h8;rw[List.foldl_map];rfl
theorem Du{a:m bA}(b:ce h=l)(d:∀q∈a,cB q=l)(k:a.Nodup):(a.map (gD h)).Pairwise λr s=>r.1≠s.1:=by rw[rf];refine List.Pairwise.imp_of_mem (λ{e g} o p i j=>i ?_) k;exact yL b (d e o) (d g p) j
theorem Lb{bN}{cR}(a:ce h=l)(e:∀b∈cR,cB b=l)(d:cR.Nodup)(g:c cR<=4):tf bN h cR=jQ bN h cR:=by
 show(bN,l6 (cR.map (gD h)))=(bN,h8 h cR)
 grind[aa0,Du,yI]
theorem DI{bN}{cR}(b:ce h=l)(e:∀m∈cR,cB m=l)(i:cR.Nodup)(r:1<=c cR)(q:c cR<=4):h' h (jQ bN h cR)=decide (1<=bN/\bN<=99):=by
 have p:c (h8 h cR)=c cR:=Ds h cR;rw[oX,yW,bw];constructor
 .exact λd=>d.cZ
 intro d;refine⟨d,b,by show 1<=c (h8 h cR)/\_;rw[show(jQ bN h cR).2=h8 h cR from a];omega,λo j=>?_,?_⟩
 .obtain⟨k,g,rfl⟩:=Z6 (show o∈h8 h cR from j);have:=aaE (e k g);simp[right,this]
 show (h8 h cR).Pairwise _;rw[yI];exact Dr _ _ List.Pairwise.nil (Du b e i) D
def yX(h):∀e a(b:m bA),c b<=e->f' h e a b=(aB ((c b+3) / 4)).map λd:Nat=>jQ (a+d) h (gO b d)
 |0,a,b,j=>by have:c b=0:=w;exact bE
 |e+1,a,b,j=>by
  simp[f'];by_cases g:0<c b
  .rw[bo g,yX h e (a+1) (b.drop 4) M];have i:(c b+3) / 4=(c (b.drop 4)+3) / 4+1:=M;rw[i,wS,mf,ux];congr 1
   .simp[gO]
   refine p5 λd _=>?_;show jQ (a+1+(d:Nat)) h (((b.drop 4).drop (4*d)).take 4)=jQ (a+((d+1:Nat):Int)) h ((b.drop (4*(d+1))).take 4);grind[List.drop_drop]
  grind
def BP{d}(e:∀a∈d,cB a=l)(b:d.Nodup)(h:u<(c d+3) / 4):(∀a∈gO d u,cB a=l)/\(gO d u).Nodup/\1<=c (gO d u)/\c (gO d u)<=4:=
 ⟨λa g=>e a (pV (gY g)),(b.sublist (List.drop_sublist _ _)).sublist (List.take_sublist _ _),by simp[gO];omega,by simp[gO];omega⟩
def JV{b}{d}(o:ce h=l)(e:∀p∈d,cB p=l)(a:d.Nodup)(g:u<(c d+3) / 4):nq h b d u=(decide (1<=di b+(u:Int)/\di b+(u:Int)<=99)&&!(c b.1+u==20)):=by obtain⟨i,j,k,m⟩:=BP e a g;unfold nq l2;grind[Lb,DI]
def ZX{b}{a:m bA}(d:ce h=l)(q:∀u∈a,cB u=l)(p:a.Nodup)(t:∀e,e<(c a+3) / 4->nq h b a e=l):jr h b a ((c a+3) / 4)=f' h (c a) (di b) a:=by
 rw[yX h _ _ _ (bC _)];refine p5 λe g=>?_;have g:=rg.1 g;obtain⟨i,j,o,k⟩:=BP q p g;have s:=t e g;have r:h' h (jQ (di b+(e:Int)) h (gO a e))=l:=by rw[DI d i j o k];rw[JV d q p g]at s;grind
 unfold l2;rw[Lb d i j k,bo r]
def iC.hF{h}{b}(d:iC h b):1<=di b/\di b<=100:=by
 unfold R1.di;split
 .omega
 rename_i a;have:=(d.cr _ (CX a (0,[]))).cZ;omega
def Zr(h)(b)(a)(o):qt h b a o=Ei h b a o:=by
 unfold qt Ei;by_cases i:hV h b=l/\(a=1∨a=2)/\dM o=l
 .rw[bo i,bo ⟨i.1,by omega,i.2.2⟩];have g:=tB.1 i.1;have y:=g.hF;have K:c b.2.2<=9:=by have:=g.dB;simp[gC,ck,bw]at this;omega
  have I:=g.len;have z:=(qL (h:=h) (d:=eB b.1) (oI i.2.2)).1;have s:=Ef h o (eB b.1);have r:c (kl h b o)=(c (fV h o (eB b.1))+3) / 4:=by unfold kl;rw[yX _ _ _ _ (bC _)];simp
  have B:kl h b o=f' h (c (fV h o (eB b.1))) (di b) (fV h o (eB b.1)):=rfl;unfold pw;simp only;generalize fV h o (eB b.1)=d at *;obtain⟨N,E,R,D⟩:=En (nq h b d) ((c d+3) / 4) 0;generalize mS (nq h b d) ((c d+3) / 4) 0=m at *;have C:∀e,e<(c d+3) / 4->nq h b d e=(decide (1<=di b+(e:Int)/\di b+(e:Int)<=99)&&!(c b.1+e==20)):=λe k=>JV g.key z s k;by_cases p:m<(c d+3) / 4
  .rw[bo p];have u:=D w;rw[C m p]at u;have j:fu h b o=l:=by simp[fu,jD,bw,r];simp[Ay,dp,AA,gL]at u;omega
   grind
  rw[bj p];obtain rfl:m=(c d+3) / 4:=w;have q:∀e,e<(c d+3) / 4->1<=di b+(e:Int)/\di b+(e:Int)<=99/\c b.1+e≠20:=λe k=>by grind
  have J:c b.1+(c d+3) / 4<=20:=by refine Nat.le_of_not_lt λF=>?_;exact(q (20-c b.1) w).2.2 w
  have M:di b+(((c d+3) / 4:Nat):Int)-1<=99:=by
   rcases n0 ((c d+3) / 4)with A|A
   .grind
   have:=(q ((c d+3) / 4-1) w).2.1;omega
  by_cases x:20<db b
  .rw[bo x];have j:fu h b o=l:=NR;grind
  rw[bj x];by_cases t:c b.2.2=9
  .rw[bo t];have j:fu h b o=l:=NR;grind
  rw[bj t];have j:fu h b o=v:=by simp[fu,wV,dp,r];omega
  rw[j];simp only[eM,B,ZX g.key z s λe k=>R e (gZ _) k,hJ];rfl
 grind
theorem LN{d}{e a}(b:a∈d' d e):a=e∨a∈d:=by
 induction d with
 |nil=>simpa[d']using b
 |cons g i h=>
  simp only[d']at b;grind
def aa5{d}{i}(h:d.Pairwise λa b=>a.1<b.1):(d' d i).Pairwise λa b=>a.1<b.1:=by
 induction d with
 |nil=>simp[d']
 |cons a m e=>
  obtain⟨k,g⟩:=iG.1 h;simp only[d'];split
  .rename_i s;refine iG.2 ⟨λo j=>?_,e g⟩;grind[LN]
  grind[List.pairwise_cons]
def CW:∀(d a:m fg),(∀b∈d,fW b=l)->(∀b∈a,fW b=l)->a.Pairwise (λa e=>a.1<e.1)->(∀b∈d.foldl d' a,fW b=l)/\(d.foldl d' a).Pairwise λa e=>a.1<e.1
 |[],a,_,h,g=>⟨h,g⟩
 |b::d,a,k,h,g=>CW d (d' a b) (λj i=>k j (mh _ i)) (λj i=>by grind[LN]) (aa5 g)
theorem aaj{d}(g:∀j∈d,fW j=l)(k:d.Pairwise λb e=>b.1<e.1):kO d (c d)=l:=by
 refine fZ.2 λi h=>?_;rw[ck];refine⟨g _ M,?_⟩;rcases n0 i with a|a
 .simp[a]
 rw[jD];exact Fq
def Zt(a:m b'):kO (eB a) (c (eB a))=l:=by
 unfold eB;split
 .rename_i b;obtain⟨d,e⟩:=CW (dC a) [] (aX.1 b) D List.Pairwise.nil;grind[aaj]
 rfl
def acg{d}(a:∀j∈d,c j.2<=4):c (dC d)<=4*c d:=by
 induction d with
 |nil=>simp[dC]
 |cons h m e=>
  have b:=e λi g=>a i (mh _ g);have k:=a h ir;simp only[dC,sl,dk,kB,fh]at b⊢;omega
def iC.hU{h}{b}(e:iC h b)(a:mc b):1<=db b:=by have d:=sV b.2.2 a.aJ;unfold R1.db;split<;>omega
def iC.cL{b}(a:iC h b)(d:mc b):F8 h b:=by refine⟨a.key,?_,Zt _,a.dB,a.hU d⟩;have:=acg λg e=>(a.cr g e).len.2;have:=a.len;omega
def acd{b}{a}{o}(d:hV h b=l)(e:1<=a/\a<=2)(g:dM o=l):Ei h b a o=(if fu h b o=l then b else eM h b a o,!fu h b o):=bo ⟨d,e,g⟩
def KR{h}{d}:∀(b e:m bA)a,a∈b.foldl (e8 h d) e↔a∈e∨(a∈b/\iU d (dW h a)=0)
 |[],e,a=>by simp
 |o::b,e,a=>by
  rw[iI,KR b];unfold e8;split
  .rename_i i;simp[ck,gL]at i;grind
  rename_i i;simp only[ck,gL,jc]at i;by_cases k:a=o
  .subst k;by_cases g:iU d (dW h a)=0
   .have:e.contains a=l:=by
     cases j:e.contains a with
     |true=>rfl
     |false=>exact absurd ⟨g,j⟩ i
    have:a∈e:=by simpa using this
    grind
   grind
  grind
def zn{o}{b:m fg}{a}:a∈fV h o b↔(∃d∈o,a∈cm d.2)/\iU b (dW h a)=0:=by unfold fV;rw[KR];simp
def aa6{d}{e}{j}:(∃b∈d' d e,b.1=j)↔j=e.1∨∃b∈d,b.1=j:=by
 induction d with
 |nil=>simp[d',eq_comm]
 |cons k m h=>
  simp only[d'];split
  .simp only[e9,exists_eq_or_imp,h];grind
  constructor
  .rintro⟨b,i,rfl⟩;rcases e9.1 i with rfl|i
   .omega
   exact .inr ⟨b,(jd.1 i).1,a⟩
  rintro(rfl|⟨b,i,rfl⟩)
  .exact⟨e,ir,a⟩
  by_cases g:b.1=e.1
  .exact⟨e,ir,g.symm⟩
  exact⟨b,mh _ (jd.2 ⟨i,by simpa using g⟩),a⟩
def JJ:∀(e d:m fg) a,(∃b∈e.foldl d' d,b.1=a)↔(∃b∈e,b.1=a)∨∃b∈d,b.1=a
 |[],d,a=>by simp
 |g::e,d,a=>by rw[iI,JJ e,aa6];grind
def abp{e}(b:right h e=l):∃d,cB d=l/\e.1=dW h d:=by
 unfold right at b;split at b
 .rename_i d a;unfold hE at a;split at a
  .rename_i i;cases a;simp[ck]at i;exact⟨_,i.1,(by simpa using b:dW h _=e.1).symm⟩
  cases a
 cases b
def ach{Z}(e:∀a∈Z,nU h a):(dC Z).all fW=l:=by refine aX.2 λp b=>?_;obtain⟨a,d,b⟩:=rh.1 b;obtain⟨j,g,rfl⟩:=hn.1 b;obtain⟨o,m,i⟩:=abp ((e a d).gA j g);have k:=(e a d).cZ;simp[fW,ck,bw,i,dW];omega
def Kf{e:m b'}(w:∀k∈e,nU h k)(g:Int):iU (eB e) g=0↔g∉ct e:=by
 have t:=ach w;unfold eB;rw[bo t];have j:=JJ (dC e) [] g;have s:(∃r∈dC e,r.1=g)↔g∈ct e:=by
  simp only[dC,ct,rh,hn];constructor
  .rintro⟨_,⟨k,o,q,p,rfl⟩,rfl⟩;exact⟨k,o,q,p,a⟩
  rintro⟨k,o,q,p,rfl⟩;exact⟨_,⟨k,o,q,p,a⟩,a⟩
 have x:=(CW (dC e) [] (aX.1 t) D List.Pairwise.nil).1;generalize(dC e).foldl d' []=d at *;unfold iU;split
 .rename_i b i;have z:=x b (wQ i);have A:b.1=g:=N4;have:g∈ct e:=by rw[<-s];have:=j.1 ⟨b,wQ i,A⟩;simpa using this
  simp[fW,ck,bw]at z;grind
 rename_i i;have B:=us.1 i;refine⟨λ_ u=>?_,λ_=>rfl⟩;obtain⟨r,y,aw⟩:=j.2 (.inl (s.2 u));exact B r y aeP
def Dt{cR}{b}:b∈h8 h cR↔∃g∈cR,b=gD h g:=by
 rw[yI];have:∀(a d:m cW),b∈a.foldl fB d↔b∈a∨b∈d:=by
  intro a;induction a with
  |nil=>simp
  |cons i a e=>intro d;rw[iI,e,DS];grind
 rw[this];grind
def yY{h}{j}:∀g d(b:m bA),c b<=g->(j∈ct (f' h g d b)↔∃e∈b,dW h e=j)
 |0,d,b,p=>by have:b=[]:=List.length_eq_zero_iff.1 w;subst this;simp[f',ct]
 |g+1,d,b,p=>by
  simp[f'];split
  .have i:=yY (h:=h) (j:=j) g (d+1) (b.drop 4) bQ;have o:ct (jQ d h (b.take 4)::f' h g (d+1) (b.drop 4))=(h8 h (b.take 4)).map (·.1)++ct (f' h g (d+1) (b.drop 4)):=bE;rw[o,fx,i];have:(j∈(h8 h (b.take 4)).map (·.1))↔∃e∈b.take 4,dW h e=j:=by
    rw[hn];constructor
    .rintro⟨q,s,rfl⟩;obtain⟨e,k,rfl⟩:=Dt.1 s;exact⟨e,k,a⟩
    rintro⟨e,k,rfl⟩;exact⟨gD h e,Dt.2 ⟨e,k,a⟩,a⟩
   rw[this];conv=>rhs;rw[<-uy 4 b]
   grind
  have:b=[]:=List.length_eq_zero_iff.1 w;subst this;simp[ct]
def Lg{h}(j:ce h=l):∀i b(d:m bA),c d<=i->(∀e∈d,cB e=l)->d.Nodup->(ct (f' h i b d)).Nodup
 |0,b,d,r,_,_=>by simp[f',ct]
 |i+1,b,d,r,p,o=>by
  simp[f'];split
  .have g:ct (jQ b h (d.take 4)::f' h i (b+1) (d.drop 4))=(h8 h (d.take 4)).map (·.1)++ct (f' h i (b+1) (d.drop 4)):=bE;have t:(h8 h (d.take 4)).Pairwise λs z=>s.1<z.1:=by rw[yI];exact Dr _ _ List.Pairwise.nil (Du j (λe k=>p e (gY k)) (o.sublist (List.take_sublist _ _))) D
   rw[g,List.nodup_append];refine⟨rf.2 (t.imp λr=>by omega),Lg j i _ _ bQ (λe k=>p e (pV k)) (o.sublist (List.drop_sublist _ _)),λA w B u g=>?_⟩;subst g;obtain⟨s,x,rfl⟩:=hn.1 w;obtain⟨y,q,rfl⟩:=Dt.1 x;obtain⟨e,k,g⟩:=(yY i _ _ bQ).1 u;have g:=yL j (p e (pV k)) (p y (gY q)) g;subst g;rw[<-uy 4 d,List.nodup_append]at o;exact o.2.2 e q e k a
  exact bE
def aaM(o):(cm o).flatten=o:=by
 have:∀b a,a<=c o->c o-a<=b->(iz o b a).flatten=o.drop a:=by
  intro b;induction b with
  |zero=>intro a g e;simp[iz,Ge (show c o<=a by omega)]
  |succ b d=>
   intro a g e;simp[iz];split
   .rename_i i;obtain⟨j,h,_⟩:=rx o a i;rw[List.flatten_cons,d _ h w];conv=>rhs;rw[<-uy (ep o a-a) (o.drop a),List.drop_drop,show a+(ep o a-a)=ep o a by omega]
   exact bv
 exact(this (c o) 0 (gZ _) w).trans D
def ab_{bN}{Z}{o}(g:ce h=l)(j:dM o=l)(q:∀a∈o,∀d∈cm a.2,dg h Z (dW h d)=f d):en h (fD bN h o) Z=f o:=by
 have e:=(zE.1 j).1;have m:∀a∈o,fI h Z (kM h a)=f a:=λa b=>by
  have p:=q a b;have x:g2 h Z (kM h a).2=f (cm a.2):=by
   unfold g2 kM;rw[bo]
   .congr 1;rw[ux];conv=>rhs;rw[<-List.map_id (cm a.2)]
    exact p5 λd i=>by simp[p d i]
   refine aX.2 λw t=>?_;obtain⟨d,i,rfl⟩:=hn.1 t;exact bE
  have u:iO (cm a.2)=f a.2:=by unfold iO;rw[aaM,(e a b).2];simp
  unfold fI;exact bE
 have s:fk h Z (o.map (kM h))=o:=by
  unfold fk;rw[ux];conv=>rhs;rw[<-List.map_id o]
  exact p5 λa b=>by simp[m a b]
 have r:((o.map (kM h)).all λk=>(fI h Z k).isSome)=l:=aX.2 λk e=>by obtain⟨a,b,rfl⟩:=hn.1 e;exact bE
 unfold en fD;simp[s,r,g,j,Bool.and_self,dv]
structure iD(h:Int)(b:cd)(bT:Int)(o:m cM):Prop where
 a5:iC h b
 jB:mc b
 iv:1<=bT/\bT<=2
 fS:dM o=l
 gX:fu h b o=v
section
variable {b:cd}{bT:Int}{o:m cM}
def iD.jD(k:iD h b bT o){e}(j:e∈o){g}(i:g∈cm e.2):cB g=l:=by have:=(qL (h:=h) (d:=[]) (oI k.fS)).1 g;exact this (zn.2 ⟨⟨e,j,i⟩,a⟩)
def iD.hr(q:iD h b bT o)(m:Int):m∈ct (eM h b bT o).1↔m∈ct b.1∨∃g∈o,∃d∈cm g.2,dW h d=m:=by
 have p:ct (eM h b bT o).1=ct b.1++ct (kl h b o):=by simp[eM,ct]
 rw[p,fx];unfold kl;rw[yY _ _ _ (bC _)];constructor
 .rintro(i|⟨d,e,rfl⟩)
  .exact .inl i
  obtain⟨⟨g,j,e⟩,_⟩:=zn.1 e;exact .inr ⟨g,j,d,e,a⟩
 rintro(i|⟨g,j,d,e,rfl⟩)
 .simp_all
 by_cases k:dW h d∈ct b.1
 .simp_all
 exact .inr ⟨d,zn.2 ⟨⟨g,j,e⟩,(Kf q.a5.cr _).2 k⟩,a⟩
def iD.new(g:iD h b bT o):(∀e∈kl h b o,nU h e)/\(kl h b o).Pairwise (λe x=>e.1<x.1)/\∀e∈kl h b o,di b<=e.1:=by
 have t:=qL (h:=h) (d:=eB b.1) (oI g.fS);have w:=Ef h o (eB b.1);have q:=g.gX;have z:=g.a5.hF;unfold fu at q;unfold kl at *;generalize fV h o (eB b.1)=d at *;rw[yX h _ _ _ (bC _)]at *;simp[wV,dp,kB,List.length_range]at q;refine⟨λe p=>?_,?_,λe p=>?_⟩
 .obtain⟨u,a,rfl⟩:=hn.1 p;have a:=rg.1 a;obtain⟨i,j,k,m⟩:=BP t.1 w a;rw[<-yW,DI g.a5.key i j k m,bw];omega
 .rw[rf];refine List.pairwise_lt_range.imp λ{r s} y=>?_;show di b+(r:Int)<di b+(s:Int);omega
 obtain⟨u,a,rfl⟩:=hn.1 p;show di b<=di b+(u:Int);omega
def iC.jG(i:iC h b):∀e∈b.1,e.1<R1.di b:=by
 intro e g;obtain⟨d,a,rfl⟩:=g4 g;unfold R1.di;rw[bj w,sT w];by_cases j:d=c b.1-1
 .exact bE
 have:=m8.1 i.cG d (c b.1-1) a w w;omega
def iC.hV(i:iC h b):∀e∈b.2.1,e.1<R1.db b:=by
 intro e g;obtain⟨d,a,rfl⟩:=g4 g;unfold R1.db;rw[bj w,sT w];by_cases j:d=c b.2.1-1
 .exact bE
 have:=m8.1 i.cI d (c b.2.1-1) a w w;omega
def iD.eC(e:iD h b bT o):∀d∈(eM h b bT o).1,nU h d:=λd a=>by
 rcases fx.1 a with a|a
 .exact e.a5.cr d a
 exact e.new.1 d a
def iD.h1(a:iD h b bT o){bN}:en h (fD bN h o) (eM h b bT o).1=f o:=by refine ab_ a.a5.key a.fS λk e m d=>?_;obtain⟨p,g⟩:=JA a.a5.key a.eC ((a.hr _).2 (.inr ⟨k,e,m,d,rfl⟩));obtain⟨i,j,_⟩:=CH g;rw[g,yL a.a5.key i (a.jD e d) j]
def iD.old(a:iD h b bT o){i}{g}(j:en h i b.1=f g):en h i (eM h b bT o).1=f g:=
 ab' (λe k=>YG a.a5.key a.eC (λe d=>(a.hr e).2 (.inl d))) j
def iD.ok(a:iD h b bT o):iC h (eM h b bT o):=by
 have y:=a.gX;simp[fu,wV,dp]at y;have m:=a.new;have x:=a.a5.hV;have u:=a.a5.hU a.jB;refine⟨a.eC,?_,?_,λB g=>?_,?_,a.a5.key,?_,by simp[eM,dk];omega⟩
 .refine m_.2 ⟨a.a5.cG,m.2.1,λp j q e=>?_⟩;have:=a.a5.jG p j;have:=m.2.2 q e;omega
 .have i:ct (eM h b bT o).1=ct b.1++ct (kl h b o):=by simp[eM,ct]
  have t:=qL (h:=h) (d:=eB b.1) (oI a.fS);rw[i,List.nodup_append];refine⟨a.a5.ay,Lg a.a5.key _ _ _ (bC _) t.1 (Ef _ _ _),λp j q e i=>?_⟩;subst i;obtain⟨C,z,rfl⟩:=(yY _ _ _ (bC _)).1 e;exact(Kf a.a5.cr _).1 (zn.1 z).2 j
 .rcases fx.1 g with g|g
  .obtain⟨c5,dE⟩:=a.a5.aZ B g;obtain⟨D,A⟩:=Ax.1 dE;exact⟨c5,by rw[a.old A];rfl⟩
  rw[gJ]at g;subst g;exact⟨⟨u,by show db b<=20;omega⟩,by rw[a.h1];rfl⟩
 .refine m_.2 ⟨a.a5.cI,by simp,λp j q e=>?_⟩;rw[gJ]at e;subst e;exact x p j
 have k:=a.a5.dB;have e:=a.iv;simp only[gC,ck,bw,fZ]at k⊢;refine⟨λs r=>?_,by simp only[eM,dk,gx];omega⟩;simp only[eM,dk,gx]at r⊢;by_cases i:s<c b.2.2
 .have:=k.1 s i
  rwa [ak,j3 i,<-ak]
 obtain rfl:s=c b.2.2:=w;rw[ak,hl (bC _),ss];simp only[mg,h0,hs,ck,bw];omega
def iD.load(d:iD h b bT o):pA h (eM h b bT o) (db b)=f o:=by
 unfold pA;have g:(eM h b bT o).2.1.find? (λa=>a.1==db b)=f (fD (db b) h o):=by
  simp only[eM,List.find?_append];have:b.2.1.find? (λa=>a.1==db b)=n:=us.2 λa e=>by have:=d.a5.hV a e;simp;omega
  rw[this];simp[fD]
 rw[g];exact d.h1
end
section
variable {q:af T}[q.bX]
abbrev abE:fG:=(hj,kS,yy,ya)
def fr.zero:fr 0 abE:=⟨fN.nil,rfl,rfl⟩
end
section
section
variable {q:af T}[q.bX]
end
def iC.dE{e:cd}(a:iC h e):oP e:=by have d:=a.gE;have b:=m3.of a.dB;exact⟨d.du,a.cG,d.eo.a',λi g=>(b.aJ i g).1⟩
def NA{a:eQ}(b:gg a=l):j0 a.1 a.2.1:=by simp only[gg,ck]at b;exact rZ.1 b.2
def oC(a:eQ):cd:=if gg a=l then kk a.2.1.1 a.2.2.1 else([],[],[])
variable {q:af T}
def XE(b:eQ)(h:pT b.2.1):X (af.aD T) 36 [fR b] [] (bW (oC b)) []:=by
 refine X.bg bb func36 rfl rfl rfl λk=>?_;have d:=Cx b h;have j:a_ (af.aD T) [(24,dU [fR b] (bf (gg b)))]:=.cons (ef d) .nil;unfold oC;cases bX:gg b with
 |false=>
  exact a8 j [5] a kU zR
 |true=>
  have e:=(SG (q:=af.aD T) (NA bX).dE b.2.2.1).cC;have hM:a_ (af.aD T) [(24,dU [fR b] (bf (gg b))),(63,dU [bW b.2.1.1,er b.2.2.1] (bW (kk b.2.1.1 b.2.2.1)))]:=.cons (ef d) (.cons (ef e) .nil);rw[bo a];refine a8 hM [-5] a (by simp only[U,bX,ft,ba,a9];and_intros<;>rfl) ?_;exact zR
def ab0{p:eQ}:dI (oC p):=by
 unfold oC;split
 .rename_i a;exact(rW (q:=af.aD T) (NA a).dE p.2.2.1).eN
 exact⟨by simp,by simp,by simp,by simp[kq],by simp⟩
end
def fN.fR{p}(a:fN j p)(b:j<=1000000):pT p:=⟨a.a'.toj1.fP,by have:=a.cl;omega,by have:=a.dc;omega⟩
section
variable {q:af T}
def vu(b:Int)(e:Int×Int)(d:cd)(a:Int):Option (m cM):=if ce b=l/\(fJ e d.2.2).2=0 then pA b d a else n
def Di(b:Int)(a:Int×Int)(d:cd):(Int×Int)×Int:=if ce b=l then fJ a d.2.2 else(a,1)
abbrev zv(a:(Int×Int)×Int)(b:Option (m cM)):y:=.S [.Q (.c (.B v 2 (c (b.getD [])) (bu.fn (b.getD [])))),.Q (.c (.int .i64 a.2)),.agg [.c (.int .i64 a.1.1),.c (.int .i64 a.1.2)],.Q (.c (.bool b.isSome))]
def Z2{A:Int×Int}{d:m (Int×Int)}(a:¬(fJ A d).2=0):(fJ A d).1=A:=by unfold fJ at *;grind
def Wc(b:Int)(A:Int×Int)(h:cd)(e:Int)(j:dI h):X (af.aD T) 35 [Q b,kF A,bW h,Q e] [] (zv (Di b A h) (vu b A h e)) []:=by
 refine X.bA func35 rfl rfl rfl λs=>?_;have r:=XW b h e j.bp;have p:=Cu (q:=af.aD T) A h.2.2 j.aJ;have o:=Z2 (A:=A) (d:=h.2.2);unfold vu Di;cases bX:ce b with
 |false=>
  have i:a_ (af.aD T) [(52,dc c1 (λb=>bf (ce b)) λ_=>[])]:=.cons oG .nil;refine a8 i [18] a kU (g.freeze 10 2 a a a ?_);exact g.b8 bb [] a D a a a eG
 |true=>
 generalize fJ A h.2.2=m at *;generalize pA b h e=k at *;have i:a_ (af.aD T) [(52,dc c1 (λb=>bf (ce b)) λ_=>[]),(13,dU [kF A,a3.B h.2.2] (mU m)),(62,dU [Q b,bW h,Q e] (mT (k.getD []) k.isSome))]:=.cons oG (.cons (ef p) (.cons (ef r) .nil));by_cases t:m.2=0
 .refine a8 i [-18,-28] a ?_ ?_
  .simp only[U,bX,t,ft,ip,ba,a9];and_intros<;>rfl
  refine g.freeze 10 2 a a a ?_;exact g.b8 bb [] a gH a a a eG
 refine a8 i [-18,28] a ?_ ?_
 .simp only[U,bX,ft,iJ,ba,a9];and_intros<;>first|rfl|exact t
 refine g.freeze 10 2 a a a ?_;exact g.b8 bb [] a (by simp[t,o t]) a a a eG
abbrev CG(b:eQ)(a:Int):Int:=b.2.2.2.2.getD (a-1).toNat 0
abbrev pg(b:eQ)(a:Int):Int×Int:=b.2.2.2.1.getD (a-1).toNat (0,0)
def tO(a:eQ)(b d:Int):Option (m cM):=if gg a=l/\(1<=b/\b<=2)/\CG a b=0 then vu a.1 (pg a b) (oC a) d else n
def ael{a:eQ}(b:gg a=l):c a.2.2.2.1=2/\c a.2.2.2.2=2:=by simp only[gg,ck,bw]at b;exact b.1.1
def Il(a:eQ)(e:Int×Int)(_ b d:Bool):m aq:=match b,d with
 |false,_=>[.cells 38 (lu a)]
 |true,v=>[.cells 38 (lu a),EQ]
 |true,l=>[.cells 38 (lu a),yK e]
def Yq(p:eQ)(b d:Int)(r:pT p.2.1)(J:1<=b/\b<=3):X (af.aD T) 12 [fR p,Q b,Q d] [] (mT ((tO p b d).getD []) (tO p b d).isSome) []:=by
 refine X.J func12 rfl λE=>?_;have q:=Cx p r;have x:a_ (af.aD T) [(24,dU [fR p] (bf (gg p))),(34,uQ)]:=.cons (ef q) (.cons zt .nil);unfold tO;cases e:gg p with
 |false=>
  refine a8 x [14,19,28] a ?_ (g.ao a);simp only[U,e,hJ,ba,a9];and_intros<;>rfl
 |true=>
 obtain⟨F,I⟩:=ael e;by_cases aj:1<=b/\b<=2
 rotate_left
 .rw[bj zM];refine a8 x [-14,19,28] a ?_ (g.ao a);simp only[U,e,n3,aj,nY,ft,hJ,ba,a9];and_intros<;>rfl
 by_cases j:CG p b=0
 rotate_left
 .rw[bj λt=>j t.2.2];refine a8 x [-14,-19,28] a ?_ (g.ao a);simp only[U,e,n3,aj,a7,lD,ft,iJ,ba,a9];and_intros<;>first|rfl|omega|exact j
 rw[bo ⟨rfl,aj,j⟩];have z:=XE p r;have D:=ab0 (p:=p);have C:=Wc p.1 (pg p b) (oC p) d D;generalize Di p.1 (pg p b) (oC p)=i at *;generalize vu p.1 (pg p b) (oC p) d=h at *;generalize oC p=o at *;have x:a_ (af.aD T) [(24,dU [fR p] (bf (gg p))),(34,uQ),(36,dU [fR p] (bW o)),(35,dU [Q p.1,kF (pg p b),bW o,Q d] (zv i h))]:=.cons (ef q) (.cons zt (.cons (ef z) (.cons (ef C) .nil)));have A:a7 .i64 (b-1):=mX;have cl:0<=b-1/\b-1<(c p.2.2.2.1:Int):=w;refine be x [-14,-19,-28,903] a ?_ ?_
 .simp only[U,e,n3,aj,a7,lD,ft,Az,ba,a9];and_intros<;>first|rfl|omega|exact j
 refine g.cc b6 (λu=>([aI 0 0,Q p.1,aI 0 10,a3.B p.2.2.2.1,Q b,Q (b-1),ax (.R [.int .i64 (pg p b).1,.int .i64 (pg p b).2]),kF (pg p b),fR p,bW o,Q d,zv i h,zv i h,ax (.B v 2 (c (h.getD [])) (bu.fn (h.getD []))),Q i.2,kF i.1,bf h.isSome,aI 1 0,ax (.B v 2 (c (h.getD [])) (bu.fn (h.getD []))),Q i.2,.any,bf h.isSome]:m y).getD u .any) (kJ (Il p i.1) 21 17 20) a a a a
  ⟨.ax,
  .ax,
  .ax,
  .ax,
  .ax,
  .ck bb x (cl:=by exact A),
  .ck bb x (cl:=by exact cl),
  .ax,
  .ax,
  .ck bb x (cl:=by exact a),
  .ax,
  .ck bb x (cl:=by exact a),
  .ax,
  .ax,
  .ax,
  .ax,
  .ax,
  cc.dN a a a a a (λ_=>ee (bh:=[]) bb x (ap:=f _) a B),
  .ax,
  .ax,
  cc.dO a a a a a (λ_=>ee (bh:=[]) bb x (ap:=f _) a B),
  cc.dM a a a a (λs O=>by cases s<;>cases O<;>exact aZ.w),B⟩ ?_
 intro y k;show g (af.aD T) _ _ _ _ _ (Il p i.1 (y 21) (y 17) (y 20));rw[k 21 ca,k 17 ca,k 20 ca];exact wv
section
variable [q.bX]
end
end
end R1
section
namespace R1
variable {q:af T}[q.bX]
abbrev ZF(b:cd)(a:Nat):Nat:=bV (c b.1) (f (a:Int))-bV 0 n
abbrev ZG(b:cd)(a:Nat):Nat:=bV (c b.1) n-bV 0 (f ((a:Int)+1))
abbrev lO(a:cd):Nat->m N:=fA (bV 0 n) (a2.fn a.1)
abbrev kH(b:cd)(a:Nat):Nat->m N:=fA (bV 0 (f ((a:Int)+1))) (a2.fn b.1)
end R1
end
namespace R1
section
variable {q:af T}
def V2(p)(b:dI p.1):X q 23 [gz p,gz p] [] (bf l) []:=by refine X.J func23 rfl λe=>?_;have d:a_ q [(11,dU [bW p.1,bW p.1] (bf l)),(8,xy)]:=.cons (ef (IZ p.1 b)) (.cons Ez .nil);refine be d [10,17] a ?_ (g.ao a);exact bE
end
def SA{b}{g:m Int}(a:iC h b):j0 h ((b.1,b.2.1.filter λd=>g.contains d.1,b.2.2),hS (b.2.1.filter λd=>g.contains d.1),b.1.map (·.1)):=by refine⟨⟨a.cr,a.cG,a.ay,λd e=>a.aZ d (jd.1 e).1,a.cI.filter _,a.key,a.dB,a.len⟩,λd e j i=>ta.2 ⟨d,e,i⟩,λj i=>?_,rf.2 a.cG⟩;simp_all
def Gj{d}(o:d.Pairwise (·<=·)):∀a,a<=c d->(fz d a).Pairwise (· < ·)/\∀e∈fz d a,0<a/\e<=d.getD (a-1) 0
 |0,_=>by simp[fz]
 |a+1,q=>by
  obtain⟨j,m⟩:=Gj o a w;have i:∀g,g<a->d.getD g 0<=d.getD a 0:=λg p=>by have:=m8.1 o g a w w p;grind
  rw[fz];split
  .rename_i A;refine⟨j,λe b=>⟨by omega,?_⟩⟩;have:=m e b;have:=i (a-1) w;simp only[pW];omega
  rename_i A;have h:∀e∈fz d a,e<d.getD a 0:=λe b=>by have s:=m e b;have r:=i (a-1) w;omega
  refine⟨m_.2 ⟨j,by simp,λe b t k=>?_⟩,λe b=>⟨by omega,?_⟩⟩
  .rw[gJ]at k;subst k;exact h e b
  simp only[pW];rcases fx.1 b with b|b
  .have:=h e b;omega
  rw[gJ]at b;omega
def ab7(a):gd a=gE a.2:=by
 refine A4 ?_ (CS List.Pairwise.nil) λb=>by rw[yG,Dq]
 unfold gd hN;exact(Gj (Mv _) _ (bC _)).1
abbrev aci(g e:al×Y)(d:dN)(b:cd)(a:m Int):m aq:=ij g e++[gr d,.cells 33 lv,.M,gr (b,a,d.2.2),jT b]
def abG{p}{a}{o}(b:hg h p=l)(d:1<=a/\a<=2)(e:dM o=l):fC h p a o=if fu h p.1 o=l then(p,v)else(nH h p a o,l):=by unfold fC qz;simp_all
def X7(j A)(h)(p)(bT)(o)(i:pT p)(u:dI p.1)(I:mc p.1)(H:a7 .i64 bT):
  X (af.aD T) 56 [Q h,gz p,Q bT,bu.B o] (ij j A) (jV (fC h p bT o).1 (fC h p bT o).2) (ij j A):=by
 refine X.bg bb func56 rfl rfl rfl λP=>?_;have k:a_ (af.aD T) [(53,xD),(54,rm)]:=.cons ED (.cons t54 .nil);have x:(p.1,p.2.1,p.2.2)=p:=rfl;have ao:=u.aY;cases s:hg h p with
 |false=>
  have r:fC h p bT o=(hj,v):=by unfold fC qz;simp[s]
  rw[r];refine be k [19,27,31] a ?_ ?_
  .simp only[U,a2.l,a2.U,bg.l,bg.U,a3.l,a3.U,az.l,az.U,x,s,i,hJ,ba,a9]
  exact kv
 |true=>
 by_cases F:1<=bT/\bT<=2
 rotate_left
 .have r:fC h p bT o=(hj,v):=by unfold fC qz;simp[F]
  rw[r];exact be k [-19,22,27,31] a bE kv
 have S:bT=1∨bT=2:=w;cases O:dM o with
 |false=>
  have r:fC h p bT o=(hj,v):=by unfold fC qz;simp[O]
  rw[r];rcases S with rfl|rfl
  .exact be k [-19,-22,-27,31] a z1 kv
  exact be k [-19,22,-27,31] a z1 kv
 |true=>
 rw[abG s F O];have z:=rZ.1 s;have ah:=tB.2 z.toiC;have aY:=z.toiC.gE;have y:=XZ j A h p.1 bT o u i.tonV I H λt=>(tB.1 t).cL I;rw[Zr,acd ah F O]at y;apply g.cg [(0,Q h),(2,Q bT),(3,bu.B o),(5,aI 3 0),(8,aI 4 0)] (ij j A++[gr p,.cells 33 lv])
 .intro dw;rcases S with rfl|rfl
  .exact be k [-19,-22,-27,-31,903] a z1 ku
  exact be k [-19,22,-27,-31,903] a z1 ku
 refine cz a B (g.aB (Jo p u i.gq i.fG) [] a (bL [904] a B (g.bN 5 a a a D D (cz a B (g.aB y [0,1,2] a ?_)))));cases Y:fu h p.1 o with
 |true=>
  exact bL [45] a D PI
 |false=>
 have an:=u.bp;have J:=aY.cL (h:=h) (o:=o) (bT:=bT) (by have:=xf 1 z.cI λm Z=>(z.aZ m Z).1;omega) O Y;have ai:(eM h p.1 bT o).2.1.length=c p.1.2.1+1:=by simp[eM]
 have aa:(eM h p.1 bT o).2.1.getD ((eM h p.1 bT o).2.1.length-1) (0,[])=fD (db p.1) h o:=by rw[ai];simp[eM,ak]
 have V:=J.c7 (fD (db p.1) h o) M;have L:=v9 V.2;have al:=tc (fD (db p.1) h o).2;have aj:=J.eu;have G:=i.gq;have K:=Cq (q:=af.aD T) (fD (db p.1) h o) w w;rw[ab7]at K;unfold nH;simp only[bj (show¬(v=l) by simp)];generalize eM h p.1 bT o=e at *;generalize fD (db p.1) h o=m at *;have ae:((c e.2.1:Int)-1).toNat=c e.2.1-1:=w;have W:e.2.1.getD ((c e.2.1:Int)-1).toNat bg.F=m:=by rw[ae];exact aa
 have C:a_ (af.aD T) [(86,dU [iR m] (az.B (gE m.2)))]:=.cons (ef K) .nil;refine be C [-45] a ?_ ?_
 .simp only[U,W,a7];and_intros<;>first|rfl|exact True.intro|omega
 generalize gE m.2=b at *;refine g.aC 8 (λd=>d<=c b) (λd:Nat=>[(8,aI 4 0),(10,aI 6 0),(57,az.B b),(58,Q (c b)),(59,Q d)])
  (λd=>aci j A p e ((b.take d).foldl e5 p.2.1)) (λd=>c b-d) 0 a ?_ a ?_ a w ?_
 .simp
 .simp
 intro d ab;by_cases t:d<c b
 .have ag:b.getD (d:Int).toNat az.F=b.getD d 0:=rfl;have N:=yh e5 p.2.1 t;have R:=qm p.2.1 (b.take d);rw[List.length_take]at R;generalize(b.take d).foldl e5 p.2.1=j2 at *;have E:a_ (af.aD T) [(97,dU [az.B j2,Q (b.getD d 0)] (az.B (e5 j2 (b.getD d 0))))]:=.cons (ef (Wy j2 (b.getD d 0) w)) .nil;refine be E [60] a ?_ (g.av (d+1) a D ?_ t w)
  .simp only[U,ag,a7,bw];exact qW
  rw[N];simp
 obtain rfl:d=c b:=w;rw[c6];refine bL [-60] a D (g.az ?_);exact cz a B kv
abbrev xn(g e:al×Y)(d:eQ)(h:eW)(i:Int)(b:fG)(a:Nat->m N):m aq:=pr g e d h++[.q 56 2 2 (a3.fn b.2.2.1),.q 3 1 2 a,pH i b.1 b.2.1]
abbrev p'(e d:al×Y)(b:eQ)(g:eW)(h:Int)(i:fG)(a:Nat->m N):m aq:=xn e d b g h i a++[.M,.M,.M,.M]
abbrev mb(j:Nat)(h g:al×Y)(d:eQ)(i:eW)(a:Int)(b:fG)(e:eW):Prop:=
 bk (ι:=qj (cE a b e).1.2.2.2) (af.aD T) j [aI 8 0,nh e] (xn h g d i a b (az.fn b.2.2.2)) (λ_=>bf (cE a b e).2) (λk=>p' h g d i a (cE a b e).1 k.1)
def Yl(k s)(e)(i)(h)(b)(d)(m:d.1=3):mb 27 k s e i h b d:=by
 have j:cE h b d=((b.1,d.2.2.2.1,b.2.2),l):=by unfold cE;simp[m]
 unfold mb;rw[j];refine bk.bP func27 rfl rfl rfl (g.aO ?_);exact cz a B wx
def Ym(e C)(m)(q)(h)(b)(d)(p:fr j b)(r:d.1=2):mb 26 e C m q h b d:=by
 unfold mb;have o:a_ (af.aD T) [(34,uQ)]:=.cons zt .nil;by_cases k:1<=d.2.1/\d.2.1<=2
 rotate_left
 .have i:cE h b d=(b,v):=by unfold cE;simp[r,k]
  rw[i];refine bk.bP func26 rfl rfl rfl (g.aO ?_);exact be o [8] a (by simp[n3,k]) wx
 have i:cE h b d=((b.1,b.2.1,e7 d.2.1 b.1.1 b.2.1 b.2.2),l):=by unfold cE;simp[r,k]
 rw[i];refine bk.bP func26 rfl rfl rfl (g.aO ?_);refine be o [-8] a (by simp[n3,k]) (g.cK (IN e C m q d h b.1 b.2.1 d.2.1 b.2.2.1 b.2.2.2 p.a.a'.dE k p.bj p.b3) a a a a D a λs=>?_);refine cU o a B (g.eJ 2 ?_);refine g.cM 9 a bn ?_;refine g.ret ?_;exact⟨s,.inl a,a,a,_,_,_,a,a,a,a⟩
abbrev td(a:m aq)(e:dN)(_ b d:Bool):m aq:=
 match b,d with
 |false,_=>a
 |true,v=>a++[tQ]
 |true,l=>a++[gr e]
def acs{p}(a:qq p=v):jv p=p:=by
 obtain⟨e,d,b⟩:=p;cases b with
 |nil=>rfl
 |cons g h=>cases a
abbrev aeF(e:Int)(g b:dN)(a:Bool)(d:Nat):y:=
 [aI 8 0,aI 8 0,aI 8 0,Q e,aI 8 0,aI 8 0,aI 8 1,gz g,jV b a,jV b a,gz b,bf a,aI 10 0,.any,bf a].getD d .any
set_option maxRecDepth 20000 in
def Yo(A d)(k)(e)(h)(b)(m)(C:fr j b)(J:j<=1000)(F:hg h b.1=l)(I:m.1=5):mb 29 A d k e h b m:=by
 unfold mb;have r:cE h b m=((jv b.1,b.2),qq b.1):=by unfold cE;simp[I]
 have E:=X9 h b.1 (C.a.fR w) C.a.a'.du;have t:zs h b.1=(jv b.1,qq b.1):=bo F;rw[t]at E;have u:=acs (p:=b.1);rw[r];generalize jv b.1=o at *;generalize qq b.1=q at *;have i:a_ (af.aD T) [(58,dU [Q h,gz b.1] (jV o q))]:=.cons (ef E) .nil;refine bk.bP func29 rfl rfl rfl (g.aO ?_);refine be i [901] a B ?_;refine g.cc b6 (aeF h b.1 o q) (kJ (td (xn A d k e h b (az.fn b.2.2.2)++[u3 m]) o) 14 12 13) a a a a
  ⟨.ax,.ax,.ax,.ax,.ax,.ax,.ax,.ax,.ck bb i (cl:=by exact a),.ax,.ax,.ax,
  cc.dN a a a a a (λx=>by cases x<;>exact ee (bh:=[]) bb i (ap:=f _) a B),
  cc.dO a a a a a (λx=>by cases x<;>exact ee (bh:=[]) bb i (ap:=f _) a B),
  cc.dM a a a a (λs O=>by cases s<;>cases O<;>exact aZ.w),B⟩ ?_
 intro y z;show g (af.aD T) _ _ _ _ _ (td _ o (y 14) (y 12) (y 13));rw[z 14 ca,z 12 ca,z 13 ca];cases q with
 |true=>
  exact be i [19] a D Fe
 |false=>
  obtain rfl:=u rfl;exact be i [-19] a D Fe
abbrev aeE(e:Int)(g b:dN)(c':m Int)(a:Bool)(d:Nat):y:=
 [aI 8 0,aI 8 0,aI 8 0,Q e,aI 8 0,aI 8 0,aI 8 1,aI 8 1,bW g.1,aI 9 7,az.B c',jV b a,jV b a,gz b,bf a,aI 10 0,.any,bf a].getD d .any
set_option maxRecDepth 20000 in
def Yk(A d)(m)(C)(h)(b)(e)(r:fr j b)(z:hg h b.1=l)(w:e.1=4):mb 28 A d m C h b e:=by
 unfold mb;by_cases t:c b.1.2.2=0
 rotate_left
 .have i:cE h b e=(b,v):=by unfold cE;simp[w,t]
  rw[i];refine bk.bP func28 rfl rfl rfl (g.aO ?_);exact bL [13] a N_ wx
 have i:cE h b e=(((j8 h b.1.1 e.2.2.2.2).1,b.2),l):=by unfold cE;simp[w,t]
 have u:=T7 h b.1.1 e.2.2.2.2 r.a.a'.du r.a.a'.toj1.fP;have p:(j8 h b.1.1 e.2.2.2.2).2=l:=by unfold j8;rw[bo (tB.2 (rZ.1 z).toiC)]
 rw[p]at u;rw[i];generalize(j8 h b.1.1 e.2.2.2.2).1=o at *;have k:a_ (af.aD T) [(57,dU [Q h,bW b.1.1,az.B e.2.2.2.2] (jV o l))]:=.cons (ef u) .nil;refine bk.bP func28 rfl rfl rfl (g.aO ?_);refine be k [-13,903] a N9 ?_;refine g.cc b6 (aeE h b.1 o e.2.2.2.2 l) (kJ (td (xn A d m C h b (az.fn b.2.2.2)++[u3 e]) o) 17 15 16) a a a a
  ⟨.ax,.ax,.ax,.ax,.ax,.ax,.ax,.ax,.ax,.ax,.ax,.ck bb k (cl:=by exact a),.ax,.ax,.ax,
  cc.dN a a a a a (λx=>by cases x<;>exact ee (bh:=[]) bb k (ap:=f _) a B),
  cc.dO a a a a a (λx=>by cases x<;>exact ee (bh:=[]) bb k (ap:=f _) a B),
  cc.dM a a a a (λs O=>by cases s<;>cases O<;>exact aZ.w),B⟩ ?_
 intro y q;show g (af.aD T) _ _ _ _ _ (td _ o (y 17) (y 15) (y 16));rw[q 17 ca,q 15 ca,q 16 ca];exact be k [29] a D Fe
abbrev aeG(g:Int)(i d:dN)(a:Int)(h:m cM)(b:Bool)(e:Nat):y:=
 [aI 8 0,aI 8 0,aI 8 0,Q g,aI 8 0,aI 8 0,aI 8 1,gz i,aI 9 1,Q a,aI 9 2,bu.B h,jV d b,jV d b,gz d,bf b,aI 11 0,.any,bf b].getD e .any
set_option maxRecDepth 20000 in
def Yn(r A)(C)(I)(h)(b)(i)(p:fr j b)(Y:j<=1000)(K:i.1=1):mb 25 r A C I h b i:=by
 unfold mb;have F:a_ (af.aD T) [(34,uQ),(54,rm)]:=.cons zt (.cons t54 .nil);by_cases e:1<=i.2.1/\i.2.1<=2
 rotate_left
 .have z:cE h b i=(b,v):=by unfold cE;simp[K,e]
  rw[z];refine bk.bP func25 rfl rfl rfl (g.aO ?_);exact be F [11,16] a (by simp[n3,e]) wx
 cases aa:dM i.2.2.1 with
 |false=>
  have z:cE h b i=(b,v):=by unfold cE;simp[K,aa]
  rw[z];refine bk.bP func25 rfl rfl rfl (g.aO ?_);exact be F [-11,16] a Rz wx
 |true=>
 have z:cE h b i=mN h b i.2.1 i.2.2.1:=by unfold cE;simp[K,e,aa]
 rw[z];have Q:=s9 (bT:=i.2.1) (b:=b.1.1) (d:=b.2.1) (bl:=b.2.2) p.bj p.b3;have N:=IN (q:=af.aD T) r A C I i h b.1 b.2.1 i.2.1 b.2.2.1 b.2.2.2 p.a.a'.dE e p.bj p.b3;have R:=X7 r A h b.1 i.2.1 i.2.2.1 (p.a.fR w) p.a.a'.du p.a.a'.eo mX;have X:=D8 (h:=h) (bT:=i.2.1) (o:=i.2.2.1) p.a;unfold mN;rw[show((b.2.2.1,b.2.2.2):m (Int×Int)×m Int)=b.2.2 from a]at N;generalize e7 i.2.1 b.1.1 b.2.1 b.2.2=k at *;have J:k.2.getD (0+(i.2.1-1).toNat) az.F=k.2.getD (i.2.1-1).toNat 0:=q1;refine bk.bP func25 rfl rfl rfl (g.aO ?_);refine be F [-11,-16] a Rz (g.cK N a a a a D a λu=>?_);refine bL [904] a B (g.bb (n2 r A C I h b.1 b.2.1 k.1 (az.fn k.2) i++[.M]) a tU ?_);by_cases t:k.2.getD (i.2.1-1).toNat 0=0
 rotate_left
 .rw[bj (λp=>t p.1)];refine bL [31,38] a ?_ ?_
  .simp only[U,J,a7,iJ,dZ,ba,a9];and_intros<;>first|exact t|omega
  exact PO
 by_cases E:b.2.1.1=0
 rotate_left
 .rw[bj (λp=>E p.2)];refine bL [-31,38] a ?_ ?_
  .simp only[U,J,t,a7,iJ,ip,dZ,ba,a9];and_intros<;>first|exact E|omega
  exact PO
 rw[bo ⟨t,E⟩];refine bL [-31,-38,906] a ?_ ?_
 .simp only[U,J,t,E,a7,ip,ba,a9];omega
 refine g.cc b6 (aeG h b.1 (fC h b.1 i.2.1 i.2.2.1).1 i.2.1 i.2.2.1 (fC h b.1 i.2.1 i.2.2.1).2) (kJ (td (n2 r A C I h b.1 b.2.1 k.1 (az.fn k.2) i++[.M]) (fC h b.1 i.2.1 i.2.2.1).1) 18 16 17) a a a a
  ⟨.ax,.ax,.ax,.ax,.ax,.ax,.ax,.ax,.ax,.ax,.ax,.ax,
  cc.eK a a a (λx s O=>aZ.ey (by cases s<;>cases O<;>exact dX.d' R.tocH [0,1,2] a a a a a a a bn a bn)),
  .ax,.ax,.ax,
  cc.dN a a a a a (λx=>by cases x<;>exact ee (bh:=[]) bb F (ap:=f _) a B),
  cc.dO a a a a a (λx=>by cases x<;>exact ee (bh:=[]) bb F (ap:=f _) a B),
  cc.dM a a a a (λs O=>by cases s<;>cases O<;>exact aZ.w),B⟩ ?_
 intro y M;show g (af.aD T) _ _ _ _ _ (td _ (fC h b.1 i.2.1 i.2.2.1).1 (y 18) (y 16) (y 17));rw[M 18 ca,M 16 ca,M 17 ca];cases jI:(fC h b.1 i.2.1 i.2.2.1).2 with
 |false=>
  rw[bj D];refine bL [56] a t0 (g.eJ 1 ?_);refine g.cM 9 a bn ?_;refine g.cM 11 a bn ?_;refine g.ret ?_;exact⟨⟨_,bs.same⟩,.inl a,a,a,_,_,_,a,a,a,a⟩
 |true=>
  rw[bo a];have V:=(X jI).1;generalize(fC h b.1 i.2.1 i.2.2.1).1=w2 at *;have S:=Uo (q:=af.aD T) r A C I i w2 h w2 b.2.1 i.2.1 k.1 k.2 V.a'.dE e Q.1 Q.2;rw[show((k.1,k.2):m (Int×Int)×m Int)=k from a]at S;refine bL [-56] a t0 (g.cK S a a a a D a λW=>?_);refine cz a B (g.cM 9 a bn ?_);refine g.cM 11 a bn ?_;refine g.ret ?_;exact⟨W,.inl a,a,a,_,_,_,a,a,a,a⟩
section
variable {q:af T}
def Uj(d)(h:c d<=4000000):X q 60 [a3.B d] [] (cC 0 (.B (c d) 2 0 (c d))) [.q 56 2 (c d) (a3.fn d)]:=by
 refine X.J func60 rfl λi=>?_;refine aW a B (g.ep bb a a a a a a λb e=>?_);cases b with
 |true=>
  obtain rfl:=jC (e rfl);refine aW a B (g.e9 2 56 2 (a3.fn []) a ?_);exact Fl
 |false=>
  refine gp [] 7 a B (g.dH 5 56 2 (a3.fn []) a ?_);refine aW a ⟨a,a,show(0+c d)*16<=_ by omega⟩ (g.bb [.q 56 2 (c d) (a3.fn d)] a ?_ ?_)
  .simp[bs,cg]
  exact FA
abbrev uI(a:dN):aq:=.q 80 2 (c a.1.1) (a2.fn a.1.1)
abbrev xh(c':m (Int×Int)):aq:=.q 56 2 (c c') (a3.fn c')
abbrev Nx(a:eQ):m R:=.c (.int .i64 a.1)::([.O 2 (.B (c a.2.1.1.1) 2 0 (c a.2.1.1.1)),cK bg a.2.1.1.2.1,cK a3 a.2.1.1.2.2,cK az a.2.1.2.1,cK az a.2.1.2.2]++s7 a.2.2.1++[.O 3 (.B (c a.2.2.2.1) 2 0 (c a.2.2.2.1)),.O 4 (.B (c a.2.2.2.2) 1 0 (c a.2.2.2.2))])
def Ih(a:eQ)(b d e g:Bool):m aq:=
 match b,d,e,g with
 |true,l,l,l=>[mW a,.cells 38 (Nx a),uI a.2.1,xh a.2.2.2.1,jG (c a.2.2.2.2) a.2.2.2.2]
 |true,l,l,v=>[mW a,hG,uI a.2.1,xh a.2.2.2.1,jG (c a.2.2.2.2) a.2.2.2.2]
 |true,l,v,_=>[mW a,hG,uI a.2.1,xh a.2.2.2.1]
 |true,v,_,_=>[mW a,hG,uI a.2.1]
 |false,_,_,_=>[mW a,hG]
abbrev aes(a:eQ)(b:Nat):y:=
 [aI 0 0,Q a.1,aI 0 1,gz a.2.1,.n (.agg [.O 2 (.B (c a.2.1.1.1) 2 0 (c a.2.1.1.1)),cK bg a.2.1.1.2.1,cK a3 a.2.1.1.2.2,cK az a.2.1.2.1,cK az a.2.1.2.2]),aI 0 6,er a.2.2.1,aI 0 10,a3.B a.2.2.2.1,cC 3 (.B (c a.2.2.2.1) 2 0 (c a.2.2.2.1)),
  aI 0 11,az.B a.2.2.2.2,cC 4 (.B (c a.2.2.2.2) 1 0 (c a.2.2.2.2)),.n (.agg (Nx a)),.any].getD b .any
set_option maxRecDepth 20000 in
def Yj(p)(h:dI p.2.1.1)(O:c p.2.1.2.1<=4000000)(e:c p.2.1.2.2<=4000000)(b:c p.2.2.2.1=2)(s:c p.2.2.2.2=2):
  X q 30 [fR p] [] (.n (.agg (hi p.1 p.2.1 p.2.2.1 0))) (lh p.2.2.2.1 p.2.2.2.2):=by
 refine X.bg bb func30 rfl rfl rfl λj=>?_
 have x:a_ q [(59,k4 [gz p.2.1] [] (.n (.agg [.O 0 (.B (c p.2.1.1.1) 2 0 (c p.2.1.1.1)),cK bg p.2.1.1.2.1,cK a3 p.2.1.1.2.2,cK az p.2.1.2.1,cK az p.2.1.2.2])) [uI p.2.1]),
   (60,k4 [a3.B p.2.2.2.1] [] (cC 0 (.B (c p.2.2.2.1) 2 0 (c p.2.2.2.1))) [xh p.2.2.2.1]),
   (61,k4 [az.B p.2.2.2.2] [] (cC 0 (.B (c p.2.2.2.2) 1 0 (c p.2.2.2.2))) [jG (c p.2.2.2.2) p.2.2.2.2])]:=
  .cons (l7 (Jo p.2.1 h O e)) (.cons (l7 (Uj p.2.2.2.1 w)) (.cons (l7 (IK p.2.2.2.2 w)) .nil))
 refine be x [901] a B ?_;refine g.cc b6 (aes p) (mw (Ih p) 4 9 12 14) a a a a
  ⟨.aW,.aW,.aW,.aW,
  cc.d_ a a a a a a (ee (bh:=[]) bb x (ap:=f _) a ⟨rfl,rfl⟩),
  .aW,.aW,.aW,.aW,
  cc.eR a a a a a a (ee (bh:=[]) bb x (ap:=f _) a ⟨rfl,rfl⟩),
  .aW,.aW,
  cc.eS a a a a a a (ee (bh:=[]) bb x (ap:=f _) a ⟨rfl,rfl⟩),
  .aW,
  cc.eV a a a a a a (ee (bh:=[]) bb x (ap:=f _) a B),B⟩ ?_
 intro y i;show g q _ _ _ _ _ (Ih p (y 4) (y 9) (y 12) (y 14));rw[i 4 ca,i 9 ca,i 12 ca,i 14 ca];refine tr x [] 1 a B (g.bN 2 a a a D D (g.bb [mW p,.cells 38 (hi p.1 p.2.1 p.2.2.1 3),.M,.q 56 2 2 (a3.fn p.2.2.2.1),.q 3 1 2 (az.fn p.2.2.2.2)] a ?_ ?_))
 .simp[h_,b,s]
 refine g.bf () [3,4] ?_ (λk d=>absurd d D);simp
end
abbrev lw:eQ:=(0,hj,kS,[],[])
def Ca(a:eQ)(b:eW):eQ×Bool:=if gg a=l then((a.1,(cE a.1 a.2 b).1),(cE a.1 a.2 b).2)else(lw,v)
abbrev oH(a:eQ×Bool):y:=.S [.agg (lu a.1),.Q (.c (.bool a.2))]
def aen{p}(a:gg p=l):c p.2.2.2.1=2/\c p.2.2.2.2=2/\hg p.1 p.2.1=l:=by simp only[gg,ck,bw]at a;exact⟨a.1.1.1,a.1.1.2,a.2⟩
abbrev u_(a:Nat):m N:=[.fn (.func a) [] []]
abbrev EG:m (m N):=[u_ 25,u_ 26,u_ 27,u_ 28,u_ 29]
abbrev Yz(a:Nat):Nat:=[25,26,27,28,29].getD (a-1) 0
abbrev we(a:Int)(e:eW)(d:Bool)(b:Nat):y:=
 [ax (.B l 1 5 λb=>EG.getD b []),aI 4 0,Q a,Q (a-1),ax (.R (EG.getD (a-1).toNat [])),ax ((EG.getD (a-1).toNat []).getD 0 (.bool v)),nh e,bf d,bf d].getD b .any
set_option maxRecDepth 20000 in
def Yp(k i)(p)(e)(j)(t:fN (6000+240*j) p.2.1)(I:j<=1000):
  X (af.aD T) 10 [fR p,nh e] (ij k i) (oH (Ca p e)) (ij k i):=by
 refine X.bg bb func10 rfl rfl rfl λy=>?_;have x:a_ (af.aD T) [(24,dU [fR p] (bf (gg p)))]:=.cons (ef (Cx p (t.fR w))) .nil;unfold Ca;cases bX:gg p with
 |false=>
  exact be x [11] a kU kv
 |true=>
 obtain⟨A,E,F⟩:=aen bX;have s:fr j p.2:=⟨t,A,E⟩;have N:=t.cB w
 rw[bo a];refine be x [-11] a kU (g.aB (Yj p N.a' (by have:=t.cl;omega) (by have:=t.dc;omega) A E) [] a ?_);by_cases M:1<=e.1/\e.1<=5
 rotate_left
 .have R:cE p.1 p.2 e=(p.2,v):=by unfold cE;grind
  rw[R];apply g.cg [(2,aI 3 0),(3,aI 4 0),(4,aI 5 0),(7,aI 8 0)] (pr k i p e++lh p.2.2.2.1 p.2.2.2.2++[pH p.1 p.2.1 p.2.2.1])
  .intro dw;by_cases J:e.1<1
   .exact be x [19,23,906] a (by simp[J]) ku
   exact be x [-19,23,906] a bQ ku
  refine g.bN 6 a a a D D (g.bN 7 a a a D D (cU x a B (g.b' () [0,1,2] ?_ nl)));simp[h_,A,E]
 have bz:mb (Yz e.1.toNat) k i p e p.1 p.2 e:=by
  have z:e.1=1∨e.1=2∨e.1=3∨e.1=4∨e.1=5:=w;rcases z with r|r|r|r|r<;>rw[r]
  .exact Yn k i p e p.1 p.2 e s I r
  .exact Ym k i p e p.1 p.2 e s r
  .exact Yl k i p e p.1 p.2 e r
  .exact Yk k i p e p.1 p.2 e s F r
  exact Yo k i p e p.1 p.2 e s I F r
 unfold mb at bz;have C:(cE p.1 p.2 e).1.2.2.1.length=2/\(cE p.1 p.2 e).1.2.2.2.length=2:=⟨(s.do).bj,(s.do).b3⟩;refine be x [-19,-23,907] a bQ ?_
 generalize K:cE p.1 p.2 e=d at *;have z:e.1=1∨e.1=2∨e.1=3∨e.1=4∨e.1=5:=w;obtain⟨r,b,q,h,o⟩:=e;simp only at z bz;rcases z with rfl|rfl|rfl|rfl|rfl
 .refine g.dd b6 7 (λm=>ay m 6) (we 1 (1,b,q,h,o) d.2) (λ(_:qj d.1.2.2.2) m=>[bf d.2,bf d.2].getD (m-7) .any) (λu=>p' k i p (1,b,q,h,o) p.1 d.1 u.1) a a a a a a wq wo wu ?_;intro u;refine g.bb (pr k i p (1,b,q,h,o)++lh d.1.2.2.1 d.1.2.2.2++[pH p.1 d.1.1 d.1.2.1,.M,.M,.M,.M]) a tU ?_;exact wn
 .refine g.dd b6 7 (λm=>ay m 6) (we 2 (2,b,q,h,o) d.2) (λ(_:qj d.1.2.2.2) m=>[bf d.2,bf d.2].getD (m-7) .any) (λu=>p' k i p (2,b,q,h,o) p.1 d.1 u.1) a a a a a a wq wo wu ?_;intro u;refine g.bb (pr k i p (2,b,q,h,o)++lh d.1.2.2.1 d.1.2.2.2++[pH p.1 d.1.1 d.1.2.1,.M,.M,.M,.M]) a tU ?_;exact wn
 .refine g.dd b6 7 (λm=>ay m 6) (we 3 (3,b,q,h,o) d.2) (λ(_:qj d.1.2.2.2) m=>[bf d.2,bf d.2].getD (m-7) .any) (λu=>p' k i p (3,b,q,h,o) p.1 d.1 u.1) a a a a a a wq wo wu ?_;intro u;refine g.bb (pr k i p (3,b,q,h,o)++lh d.1.2.2.1 d.1.2.2.2++[pH p.1 d.1.1 d.1.2.1,.M,.M,.M,.M]) a tU ?_;exact wn
 .refine g.dd b6 7 (λm=>ay m 6) (we 4 (4,b,q,h,o) d.2) (λ(_:qj d.1.2.2.2) m=>[bf d.2,bf d.2].getD (m-7) .any) (λu=>p' k i p (4,b,q,h,o) p.1 d.1 u.1) a a a a a a wq wo wu ?_;intro u;refine g.bb (pr k i p (4,b,q,h,o)++lh d.1.2.2.1 d.1.2.2.2++[pH p.1 d.1.1 d.1.2.1,.M,.M,.M,.M]) a tU ?_;exact wn
 refine g.dd b6 7 (λm=>ay m 6) (we 5 (5,b,q,h,o) d.2) (λ(_:qj d.1.2.2.2) m=>[bf d.2,bf d.2].getD (m-7) .any) (λu=>p' k i p (5,b,q,h,o) p.1 d.1 u.1) a a a a a a wq wo wu ?_;intro u;refine g.bb (pr k i p (5,b,q,h,o)++lh d.1.2.2.1 d.1.2.2.2++[pH p.1 d.1.1 d.1.2.1,.M,.M,.M,.M]) a tU ?_;exact wn
section
variable {p:dN}{bT:Int}{o:m cM}
def Mc(i:mc p.1)(d:(fC h p bT o).2=l):j0 h p/\iD h p.1 bT o/\fC h p bT o=(nH h p bT o,l):=by
 unfold fC at *;split at d
 .rename_i b;rw[bo b];split at d
  .cases d
  rename_i g;rw[bj g];simp only[qz,ck,bw]at b;have e:=rZ.1 b.1.1;exact⟨e,⟨e.toiC,i,b.1.2,b.2,by simp_all⟩,a⟩
 cases d
def j0.cL(e:j0 h p)(i:iD h p.1 bT o):j0 h (nH h p bT o):=by
 refine⟨i.ok,λg b d a=>?_,λd a=>?_,e.ha⟩
 .show d∈(gE (fD (db p.1) h o).2).foldl e5 p.2.1;rw[yF,Dq];have b:g∈p.1.2.1++[fD (db p.1) h o]:=b;rcases fx.1 b with b|b
  .exact .inl (e.gn g b d a)
  simp_all
 obtain⟨m,j,k⟩:=e.gl d a;exact⟨m,AL _ j,k⟩
end
def Nf:m bA:=[[],[97],[104,101,108,108,111],[97,98,99,97,98,99,97,98,99,97,98,99],[107,101,101,112,116,104,105,115,111,110,101],[122,122,122,122,122,122,122,122,122,122,122,122,122,122,122,122],[116,104,101,113,117,105,99,107,98,114,111,119,110,102,111,120]]
def tK(a:Int):bA:=Nf.getD (a % 7).toNat []
def V4{e:af T}(b:Int)(t:0<=b)(h:b<=4000000):X e 9 [Q b] [] (b1 (tK b)) []:=by
 refine X.J func9 rfl λi=>?_;refine a5 [901] a B (g.region ?_);refine gp [] 3 a gH ?_;have d:b % 7=0∨b % 7=1∨b % 7=2∨b % 7=3∨b % 7=4∨b % 7=5∨b % 7=6:=w;rcases d with d|d|d|d|d|d|d
 all_goals (unfold tK;rw[d];exact aW rfl D (g.ao rfl (by simp[Nf])))
abbrev HH:bI:=dc c1 (λa=>b1 (tK a)) λa=>[0<=a,a<=4000000]
def adR{b:af T}:bK b 9 HH:=.a9 λd a=>V4 d a.1 a.2
abbrev Hj:bI:=ei (eK bu) (eK bu) (λ_ _=>bf l) λa b=>[b=a]
def adp{a:af T}:bK a 14 Hj:=.bk λb e d=>by cases d;exact V3 b
section
variable {q:af T}
abbrev NC(a:eQ)(d b:Nat):m R:=.c (.int .i64 a.1)::([cK a2 a.2.1.1.1,cK bg a.2.1.1.2.1,cK a3 a.2.1.1.2.2,cK az a.2.1.2.1,.x d 1 (c a.2.1.2.2) (az.fn a.2.1.2.2)]++s7 a.2.2.1++[.O b (.B 2 2 0 2),.O (b+1) (.B 2 1 0 2)])
def r6(a:eQ)(b:eW)(e:Option Bool)(d:Nat):y:=
 match e with
 |none=>[fR a,.any,nh b,.any,.any,.any,.any,aI 3 0,.any,.any].getD d .any
 |some l=>[fR a,.n (.agg (NC a 4 5)),nh b,.S [.agg (hi a.1 (cE a.1 a.2 b).1.1 (cE a.1 a.2 b).1.2.1 5),.Q (.c (.bool (cE a.1 a.2 b).2))],.S [.agg (hi a.1 (cE a.1 a.2 b).1.1 (cE a.1 a.2 b).1.2.1 5),.Q (.c (.bool (cE a.1 a.2 b).2))],.n (.agg (hi a.1 (cE a.1 a.2 b).1.1 (cE a.1 a.2 b).1.2.1 5)),bf (cE a.1 a.2 b).2,aI 3 0,.any,bf (cE a.1 a.2 b).2].getD d .any
 |some v=>[fR a,.n (.agg (NC a 3 4)),nh b,.S [.agg (hi a.1 (cE a.1 a.2 b).1.1 (cE a.1 a.2 b).1.2.1 4),.Q (.c (.bool (cE a.1 a.2 b).2))],.S [.agg (hi a.1 (cE a.1 a.2 b).1.1 (cE a.1 a.2 b).1.2.1 4),.Q (.c (.bool (cE a.1 a.2 b).2))],.n (.agg (hi a.1 (cE a.1 a.2 b).1.1 (cE a.1 a.2 b).1.2.1 4)),bf (cE a.1 a.2 b).2,aI 6 0,.any,bf (cE a.1 a.2 b).2].getD d .any
def fr.j4{b}(a:fr j b)(d:j<=1001):uk b.1:=a.a.cB w
end
section
variable {q:af T}
def I0(p)(d:dI p.2.1.1)(h:c p.2.2.2.1<=4000000):X q 7 [fR p,fR p] [] (bf l) []:=by
 refine X.J func7 rfl λi=>?_;have x:a_ q [(23,dU [gz p.2.1,gz p.2.1] (bf l)),(8,xy)]:=.cons (ef (V2 p.2.1 d)) (.cons Ez .nil);refine be x [-11,-19,-26,-35,-42] a (by simp[az.U,az.l]) (g.aC 2 (λb=>b<=c p.2.2.2.1) (λb:Nat=>[(2,aI 0 0),(3,aI 1 0),(5,Q b)]) (λ_=>[.cells 38 (lu p),.cells 38 (lu p)]) (λb=>c p.2.2.2.1-b) 0 a D a D a w ?_);intro b e;by_cases j:b<c p.2.2.2.1
 .refine be x [47,-60] a ?_ (g.av (b+1) a ?_ ?_ ?_ ?_)
  .simp only[U,a7,gi,ft,ip,bw,ba,a9];and_intros<;>first|omega|rfl|simp
  .simp
  .simp
  .grind
  omega
 refine be x [-47] a bQ (g.az ?_);exact wv
end
section
variable {q:af T}[q.bX]
end
def uj(a:m (Int×Int)×m Int):Prop:=c a.1=2/\c a.2=2/\∀b,b<2->vx (a.1.getD b (0,0))=l/\0<=a.2.getD b 0/\a.2.getD b 0<=2
def zK{b}:gg (h,b)=l↔j0 h b.1/\uj b.2.2:=by
 unfold gg uj;simp[ck,bw,fZ,rZ,wb];constructor
 .rintro⟨⟨⟨a,i⟩,d⟩,s⟩;exact⟨s,a,i,d⟩
 rintro⟨s,a,i,d⟩;exact⟨⟨⟨a,i⟩,d⟩,s⟩
def Z3{A}{d}(b:vx A=l):vx (fJ A d).1=l/\0<=(fJ A d).2/\(fJ A d).2<=2:=by
 unfold fJ;split
 .rename_i s;split
  .obtain⟨i,e⟩:=Dk s.1;have a:=(v3 i e (c d)).1;rw[c6]at a;refine⟨?_,by simp,by simp⟩;simp only[vx,ck,bw];exact⟨⟨by omega,by omega⟩,a⟩
  exact⟨b,by simp,by simp⟩
 exact⟨b,by simp,by simp⟩
def uj.look{bT}{b}{d}{h}(g:uj h)(s:1<=bT/\bT<=2):uj (e7 bT b d h):=by
 obtain⟨k,m⟩:=s9 (bT:=bT) (b:=b) (d:=d) g.1 g.2.1;refine⟨k,m,λa o=>?_⟩;have p:(bT-1).toNat<2:=w;obtain⟨r,q⟩:=g.2.2 a o;have i:=Z3 (d:=(kk b d).2.2) (g.2.2 _ p).1;unfold e7;split
 .have dK:∀e,(h.1.set (bT-1).toNat e).getD a (0,0)=if(bT-1).toNat=a then e else h.1.getD a (0,0):=λe=>by simp[ak,n1];split<;>simp_all[g.1]
  have j:∀e,(h.2.set (bT-1).toNat e).getD a 0=if(bT-1).toNat=a then e else h.2.getD a 0:=λe=>by simp[ak,n1];split<;>simp_all[g.2.1]
  rw[dK,j];split
  .exact⟨i.1,i.2⟩
  exact⟨r,q⟩
 exact⟨r,q⟩
def Iu{b}{p}(q:fN j b.1)(s:gg (h,b)=l):gg (h,(cE h b p).1)=l:=by
 obtain⟨a,g⟩:=zK.1 s;refine zK.2 ?_;unfold cE;split
 .split
  .rename_i i;have k:=g.look (b:=b.1.1) (d:=b.2.1) i.1;unfold mN;split
   .split
    .rename_i e;obtain⟨r,m,o⟩:=Mc q.a'.eo e;rw[o];exact⟨r.cL m,k.look i.1⟩
    exact⟨a,k⟩
   exact⟨a,k⟩
  exact⟨a,g⟩
 split
 .split
  .rename_i i;exact⟨a,g.look i⟩
  exact⟨a,g⟩
 split
 .exact⟨a,g⟩
 split
 .split
  .refine⟨?_,g⟩;unfold j8;rw[bo (tB.2 a.toiC)];exact SA a.toiC
  exact⟨a,g⟩
 split
 .exact⟨a.step,g⟩
 exact⟨a,g⟩
def Z4{d:Int×Int}{b:m (Int×Int)}(a:(fJ d b).2=0):fJ d b=(((c b:Int),fX b),0):=by
 unfold fJ at *;split at a
 .rename_i e;rw[bo e];split at a
  .rename_i i;rw[bo i]
  simp at a
 simp at a
def Z1{a b:m (Int×Int)}(d:gC (a++b)=l):fJ ((c a:Int),fX a) (a++b)=(((c (a++b):Int),fX (a++b)),0):=by unfold fJ;rw[bo ⟨d,by simp;omega,by simp⟩,bo D]
def Kx{a:Int}{b:cd}{e:dH}{d:m (Int×Int)×m Int}(h:d.2.getD (a-1).toNat 0=0)(g:e.1=0):e7 a b e d=(d.1.set (a-1).toNat (fJ (d.1.getD (a-1).toNat (0,0)) b.2.2).1,d.2.set (a-1).toNat (fJ (d.1.getD (a-1).toNat (0,0)) b.2.2).2):=by unfold e7;rw[bo h];simp[kk,g]
def yn{a:m α}{b d:α}(g:e<c a):(a.set e b).getD e d=b:=by simp[ak,g]
section
variable {q:af T}
abbrev Iz(a:eW):m N:=[.int .i64 a.1,.int .i64 a.2.1,.B v 2 (c a.2.2.1) (bu.fn a.2.2.1),.int .i64 a.2.2.2.1.1,.int .i64 a.2.2.2.1.2.1,.int .i64 a.2.2.2.1.2.2.1,.T a.2.2.2.1.2.2.2,.B v 1 (c a.2.2.2.2) (az.fn a.2.2.2.2)]
abbrev It(a:m N):eW:=(nw a 0,nw a 1,bu.ad (oD a 2).1 (oD a 2).2,(nw a 3,nw a 4,nw a 5,tC a 6),az.ad (oD a 7).1 (oD a 7).2)
def Tn(a:eW):It (Iz a)=a:=by show(a.1,a.2.1,bu.ad (c a.2.2.1) (bu.fn a.2.2.1),a.2.2.2.1,az.ad (c a.2.2.2.2) (az.fn a.2.2.2.2))=a;rw[bu.l,az.l]
def iL:c0 eW:={bj:=8,a7:=Iz,b9:=It,F:=(0,0,[],kS,[]),inv:=Tn,len:=λ_=>rfl}
abbrev gh(a:Int):eQ:=(a,hj,kS,yy,ya)
def gU(d:Int)(a:fG)(e:m eW):fG:=e.foldl (λa b=>(cE d a b).1) a
def abs(a:Int)(e:fG)(d:m eW)(b:eW):gU a e (d++[b])=(cE a (gU a e d) b).1:=by simp[gU]
def y'{h:Int}:∀(a:m eW){b:Nat}{e:fG},fr b e->fr (b+c a) (gU h e a)
 |[],_,_,d=>d
 |aw::a,b,e,d=>by have:=y' (h:=h) a (d.do (h:=h) (aw:=aw));simp only[fh];rw[show b+(c a+1)=b+1+c a by omega];exact this
def D5{h:Int}:∀(d:m eW){g:Nat}{a:fG},fr g a->gg (h,a)=l->gg (h,gU h a d)=l
 |[],_,_,_,b=>b
 |i::d,g,a,e,b=>D5 d e.do (Iu e.a b)
def abt{b:fG}{a:m eW}(t:e<c a):gU h b (a.take (e+1))=(cE h (gU h b (a.take e)) (a.getD e iL.F)).1:=Rv
def IU(e d:al×Y){a:fG}(b:eW)(i:fr j a)(g:gg (h,a)=l)(k:j<=1000):X (af.aD T) 10 [fR (h,a),nh b] (ij e d) (oH ((h,(cE h a b).1),(cE h a b).2)) (ij e d):=by
 have m:=Yp e d (h,a) b j i.a k
 rwa [show Ca (h,a) b=((h,(cE h a b).1),(cE h a b).2)from bo g]at m
def Nw(d:ce h=l):gg (gh h)=l:=by
 refine zK.2 ⟨?_,a,a,λe b=>?_⟩
 .exact⟨⟨by simp[hj],by simp[hj],by simp[hj,ct],by simp[hj],by simp[hj],d,a,by simp[hj]⟩,by simp[hj],by simp[hj],by simp[hj]⟩
 .match e,b with
  |0,_=>exact⟨rfl,by decide,by decide⟩
  |1,_=>exact⟨rfl,by decide,by decide⟩
def qD(a:Int):eQ×Bool:=if ce a=l then(gh a,l)else(lw,v)
def ti(a:Int)(b:m eW):eQ×Bool:=if ce a=l/\c b<=30 then((a,gU a (gh a).2 b),l)else(lw,v)
def Yr(b:Int)(bX:ce b=v):X q 19 [Q b] [] (oH (lw,v)) []:=by refine X.bg bb func19 rfl rfl rfl λe=>?_;have d:a_ q [(44,ro)]:=.cons tF .nil;refine a8 d [7] a kU ?_;refine g.b' () [] ?_ eG;simp
abbrev NI:R:=.c (.B v 2 2 λ_=>[.int .i64 0,.int .i64 0])
abbrev NH:R:=.c (.B v 1 2 λ_=>[.int .i64 0])
abbrev KZ(a:Int):m R:=.c (.int .i64 a)::((lv++s7 kS)++[NI,NH])
abbrev K0(b:Int)(a _b:Bool):m aq:=match a with
 |false=>[hG]
 |true=>[.cells 38 (KZ b)]
abbrev aey(a:Int)(b:Nat):y:=[Q a,.n (.Q NI),.n (.Q NH),.n (.agg (KZ a)),.any,bf l].getD b .any
def Jt(b:Int):X q 22 [Q b] [] (oH (qD b)) []:=by
 refine X.bg bb func22 rfl rfl rfl λm=>?_;have d:a_ q [(52,dc c1 (λb=>bf (ce b)) λ_=>[])]:=.cons oG .nil;unfold qD;cases bX:ce b with
 |false=>
  exact a8 d [6] a kU Ff
 |true=>
 refine a8 d [-6] a kU ?_;refine g.cc b6 (aey b) (ob (K0 b) 4 5) a a a a
  ⟨.bE,cc.gz a a (λx i=>by cases x<;>cases i<;>exact aZ.ev (ι:=Unit) a (eg.hn (j:=2) (a4:=yv) bb a a a a a a (by show 2*16<=_;decide) ca)),
   cc.gz a a (λx i=>by cases x<;>cases i<;>exact aZ.ev (ι:=Unit) a (eg.hn (j:=2) (a4:=d8) bb a a a a a a (by show 2*8<=_;decide) ca)),.bE,
   cc.fK a a (ee (bh:=[]) bb d (ap:=f _) a B),cc.fL a a (aZ.w),B⟩ ?_
 intro y h;show g q _ _ _ _ _ (K0 b (y 4) (y 5));rw[h 4 ca,h 5 ca];refine b8 d a B (g.b' () [] ?_ eG);simp only[U.X,U,dv,ba,a9];and_intros<;>first|rfl|(intro k e;match k,e with|0,_=>rfl|1,_=>rfl)
abbrev pG(b:Int)(a:fG):aq:=.cells 38 (hi b a.1 a.2.1 1)
abbrev Lv(b:Int)(a d:fG)(e g h:Bool):m aq:=
 match e,g,h with
 |false,v,_=>[hG]++lX a++[pG b a]
 |false,l,v=>[hG]++lX a++[pG b a,hG]
 |false,l,l=>[hG]++lX a++[pG b a,pG b d]
 |true,v,_=>[hG]++lX d++[pG b a]
 |true,l,v=>[hG]++lX d++[pG b a,hG]
 |true,l,l=>[hG]++lX d++[pG b a,pG b d]
abbrev Is(b:Int)(a:fG):y:=.n (.agg (hi b a.1 a.2.1 1))
abbrev aez(d:Int)(g:m eW)(e:Nat)(i a:fG)(b:Bool)(h:Nat):y:=
 [Is d i,iL.B g,Q e,ax (.R (iL.fn g e)),nh (g.getD e iL.F),.S [.agg (hi d a.1 a.2.1 1),.Q (.c (.bool b))],.S [.agg (hi d a.1 a.2.1 1),.Q (.c (.bool b))],Is d a,bf b,aI 4 0,.any,bf b].getD h .any
def Xg(h:Int)(b:m eW)(J:c b<=4000000):X q 5 [Q h,iL.B b] [] (oH (ti h b)) []:=by
 refine X.bg bb func5 rfl rfl rfl λI=>?_;unfold ti;by_cases bX:ce h=l
 rotate_left
 .rw[bj λt=>bX t.1];exact PT
 refine aW a B (g.aB (Ju (q:=q) h bX) [] a ?_);by_cases u:c b<=30
 rotate_left
 .rw[bj λt=>u t.2];exact PP
 rw[bo ⟨bX,u⟩];refine a5 [-18,-22] a bQ (g.aC 4 (λd=>d<=c b) (λd:Nat=>[(1,iL.B b),(4,aI 0 0),(6,aI 3 0),(8,Q d)]) (λd=>[hG]++lX (gU h (gh h).2 (b.take d))++[pG h (gU h (gh h).2 (b.take d))]) (λd=>c b-d) 0 a D a ?_ a w ?_)
 .have j:gU h (gh h).2 (b.take 0)=(gh h).2:=rfl;rw[j];simp
 intro d z;have p:=y' (h:=h) (b.take d) fr.zero;by_cases t:d<c b
 .have o:gU h (gh h).2 (b.take (d+1))=(cE h (gU h (gh h).2 (b.take d)) (b.getD d iL.F)).1:=Rv;have F:=UL (q:=q) h (gU h (gh h).2 (b.take d)) (b.getD d iL.F) _ p bQ;refine a5 [27,907] a bQ ?_;generalize gU h (gh h).2 (b.take d)=i at *;generalize cE h i (b.getD d iL.F)=e at *;have k:a_ q [(20,k4 [B' h i,nh (b.getD d iL.F)] (lX i) (EF h e.1 e.2) (lX e.1))]:=.cons (l7 F) .nil;refine g.cc b6 (aez h b d i e.1 e.2) (kJ (Lv h i e.1) 5 9 10) a a a a
   ⟨.ck bb k (cl:=by trivial),.ax,.ax,.ck bb k (cl:=by simp;omega),.ck bb k (cl:=by trivial),
   cc.dM a a a a (λs O=>by cases s<;>cases O<;>exact ee (bh:=[]) bb k (ap:=f _) a ⟨rfl,rfl⟩),
   .ax,.ax,.ax,
   cc.dN a a a a a (λx=>by cases x<;>exact ee (bh:=[]) bb k (ap:=f _) a B),
   cc.dO a a a a a (λx=>by cases x<;>exact ee (bh:=[]) bb k (ap:=f _) a B),.ax,B⟩ ?_
  intro y r;show g q _ _ _ _ _ (Lv h i e.1 (y 5) (y 9) (y 10));rw[r 5 ca,r 9 ca,r 10 ca];refine aW a kT (g.av (d+1) a D ?_ ?_ ?_)
  .rw[o];simp
  .omega
  omega
 obtain rfl:d=c b:=w;rw[c6]at *;refine a5 [-27] a D (g.az ?_);have C:(gU h (gh h).2 b).2.2.1.length=2:=p.bj;have E:(gU h (gh h).2 b).2.2.2.length=2:=p.b3;have A:=Uw (q:=q) (h,gU h (gh h).2 b) (p.j4 w) (show(gU h (gh h).2 b).2.2.1.length<=4000000 by omega) (show(gU h (gh h).2 b).2.2.2.length<=4000000 by omega);generalize gU h (gh h).2 b=i at *;refine gp [] 0 a B (g.bN 1 a a a D D (g.bN 2 a a a D D (aW a B (g.cb A.tocH [] a a a a ?_ a a a bn a bn a ?_))))
 .simp only[U.X,U,ba,a9];and_intros<;>first|exact bs.same|rfl|exact C.symm|exact E.symm
 rintro -;exact aW a B Ff
end
abbrev h5(a:Int)(b:m cM):eW:=(1,a,b,kS,[])
def Tr{b:fG}{i:Int}{o:m cM}(a:(cE h b (h5 i o)).2=v):(cE h b (h5 i o)).1.1.1=b.1.1:=by
 unfold cE mN at *;simp only[h5,dv]at *
 repeat' split
 all_goals simp_all
def Tq{b:fG}{d:Int}{e:m cM}(r:fr j b)(g:(cE h b (h5 d e)).2=l):(cE h b (h5 d e)).1.1=nH h b.1 d e/\(cE h b (h5 d e)).1.2.1=b.2.1/\(cE h b (h5 d e)).1.2.2=e7 d (eM h b.1.1 d e) b.2.1 (e7 d b.1.1 b.2.1 b.2.2)/\(e7 d b.1.1 b.2.1 b.2.2).2.getD (d-1).toNat 0=0/\iD h b.1.1 d e:=by
 unfold cE mN at *;simp only[h5,dv]at *;split at g
 rotate_left
 .cases g
 rename_i o;rw[bo o];split at g
 rotate_left
 .cases g
 rename_i i;rw[bo i];split at g
 rotate_left
 .cases g
 rename_i k;obtain⟨_,p,q⟩:=Mc r.a.a'.eo k;rw[bo k,q];exact⟨a,a,a,i.1,p⟩
def ad7{d:m α}(e:c d=2):∃a b,d=[a,b]:=by
 match d,e with
 |[a,b],_=>exact⟨a,b,rfl⟩
def Kw{a:Int}{g:cd}{e:dH}{b:m (Int×Int)×m Int}(d:u≠(a-1).toNat):(e7 a g e b).2.getD u 0=b.2.getD u 0:=by
 unfold e7;split
 .simp only[ak,n1,bj (oZ d)]
 rfl
def ZP{a:Int}{b aA:cd}{g:dH}{d:m (Int×Int)×m Int}{a':m (Int×Int)}(k:g.1=0)(p:(a-1).toNat<c d.1)(O:(a-1).toNat<c d.2)(e:(e7 a b g d).2.getD (a-1).toNat 0=0)(o:aA.2.2=b.2.2++a')(j:gC (b.2.2++a')=l):(e7 a aA g (e7 a b g d)).2.getD (a-1).toNat 0=0:=by
 have i:d.2.getD (a-1).toNat 0=0:=by unfold e7 at e;split at e<;>assumption
 have h:=Kx (b:=b) i k;rw[h,yn O]at e;rw[Z4 e]at h;rw[h,Kx (by exact yn O) k,yn E6,yn p,o,Z1 j]
structure um(h:Int)(j s:Nat)(b:fG):Prop where
 dg:fr j b
 ok:gg (h,b)=l
 hd:b.2.1.1=0
 iN:b.2.2.2=[0,0]
 len:c b.1.1.2.2=s
def um.next{s:Nat}{b:fG}(e:um h j s b){i:Int}{o:m cM}(C:1<=i/\i<=2)(I:(cE h b (h5 i o)).2=l):um h (j+1) (s+1) (cE h b (h5 i o)).1/\∃g,(cE h b (h5 i o)).1.1.1.2.2=b.1.1.2.2++[(i,g)]/\tO (h,(cE h b (h5 i o)).1) (3-i) g=if(fJ ((cE h b (h5 i o)).1.2.2.1.getD (2-i).toNat (0,0)) (cE h b (h5 i o)).1.1.1.2.2).2=0 then f o else n:=by
 obtain⟨d1,d2,d3,d4,eL⟩:=Tq e.dg I;have q:gg (h,(cE h b (h5 i o)).1)=l:=Iu e.dg.a e.ok;have x:=e.dg.do (h:=h) (aw:=h5 i o);have K:=e.dg.bj;have M:=e.dg.b3;have p:=ZP (aA:=eM h b.1.1 i o) (a':=[(i,db b.1.1)]) e.hd w w d4 a eL.ok.dB;have d:(e7 i (eM h b.1.1 i o) b.2.1 (e7 i b.1.1 b.2.1 b.2.2)).2.getD (2-i).toNat 0=0:=by rw[Kw w,Kw w,e.iN];rcases(show i=1∨i=2 by omega)with rfl|rfl<;>rfl
 rw[<-d3]at p d;have D:=x.b3;generalize cE h b (h5 i o)=a' at *;have z:a'.1.1.1.2.2=b.1.1.2.2++[(i,db b.1.1)]:=by rw[d1];rfl
 have F:a'.1.2.2.2=[0,0]:=by
  obtain⟨A,k,u⟩:=ad7 D;rw[u]at d p⊢;rcases(show i=1∨i=2 by omega)with rfl|rfl
  .rw[show A=0 from p,show k=0 from d]
  rw[show A=0 from d,show k=0 from p]
 have y:a'.1.2.1.1=0:=by rw[d2];exact e.hd
 refine⟨⟨x,q,y,F,by rw[z];simp[e.len]⟩,db b.1.1,z,?_⟩;have t:ce h=l:=(zK.1 q).1.toiC.key;have r:3-i-1=2-i:=w;have J:kk a'.1.1.1 a'.1.2.1=a'.1.1.1:=by simp[kk,y]
 have E:=eL.load;simp only[tO,CG,pg,vu,oC,q,dv,r,d,J,t];rw[bo ⟨B,by omega,B⟩,d1];simp[nH,E]
def Xe(p o:al×Y)(h:Int)(d:m eW)(z:c d<=4000000):X (af.aD T) 6 [Q h,iL.B d] (ij p o) (oH (ti h d)) (ij p o):=by
 refine X.bg bb func6 rfl rfl rfl λy=>?_;have j:a_ (af.aD T) [(22,dU [Q h] (oH (qD h)))]:=.cons (ef (Jt h)) .nil;unfold ti;by_cases i:ce h=l
 rotate_left
 .rw[bj λk=>i k.1];rw[show qD h=(lw,v)from bj i]at j;exact a8 j [17,21] a D kv
 rw[show qD h=(gh h,l)from bo i]at j;by_cases q:c d<=30
 rotate_left
 .rw[bj λk=>q k.2];exact a8 j [-17,21] a bQ kv
 rw[bo ⟨i,q⟩];refine a8 j [-17,-21] a bQ (g.aC 5 (λe=>e<=c d) (λe:Nat=>[(23,iL.B d),(24,Q (c d)),(4,aI 3 0),(6,aI 4 0),(25,Q e)]) (λe=>ij p o++[hG,.cells 38 (lu (h,gU h (gh h).2 (d.take e)))]) (λe=>c d-e) 0 a D a ?_ a w ?_)
 .have u:gU h (gh h).2 (d.take 0)=(gh h).2:=rfl;rw[u];simp
 intro e t;have s:=y' (h:=h) (d.take e) fr.zero;have r:=D5 (d.take e) fr.zero (Nw i);by_cases k:e<c d
 .have A:=abt (h:=h) (b:=(gh h).2) k;have x:=IU p o (d.getD e iL.F) s r bQ;refine a5 [26] a bQ ?_;generalize gU h (gh h).2 (d.take e)=b at *;generalize cE h b (d.getD e iL.F)=C at *;refine g.aB x [0,1,2] a (aW a kT (g.av (e+1) a D ?_ ?_ ?_))
  .rw[A];simp
  .omega
  omega
 obtain rfl:e=c d:=w;rw[c6]at *;refine a5 [-26] a D (g.az ?_);exact aW a B kv
section
variable {q:af T}[q.bX]
omit [q.bX]in
def IX(d:Nat)(b:Nat->Int)(j:Bytes b)(h:Nat)(r:h<=500000)(k:d<=1048576):
  bk (ι:={e:Int×Nat // h<=e.2/\e.2<=h+3}) q 18 [aI 0 0] [e1 d b h] (λe=>Q e.1.1) (λe=>[e1 d b e.1.2]):=by
 refine bk.cd func18 rfl rfl rfl λz=>?_;refine aW a B (g.a2 (gA d b j h 60 w k w) [0] a bn ?_);rintro⟨t,u,x⟩;by_cases o:t=0
 .refine a5 [5] a (by simp[o]) (g.a2 (gA d b j (h+1) 2 w k w) [0] a bn ?_);rintro⟨i,s,p⟩;have m:i=0∨i=1:=w;rcases m with rfl|rfl
  .exact aW a D (g.bu ⟨(0,h+2),by simp⟩ (g.aH [0] a D kI))
  exact aW a D (g.bu ⟨(100,h+2),by simp⟩ (g.aH [0] a D kI))
 refine a5 [-5] a (by simp[o]) (g.a2 (gA d b j (h+1) 99 w k w) [0] a bn ?_);rintro⟨y,gh,w1⟩;refine aW a kT (g.a2 (gA d b j (h+2) 3 w k w) [0] a bn ?_);rintro⟨i,s,p⟩;have m:i=0∨i=1∨i=2:=w;rcases m with rfl|rfl|rfl
 .exact Qj
 .exact Qj
 exact aW a D (g.bu ⟨(1+y,h+3),by simp⟩ (g.aH [0] a D kI))
def TQ:m eW ⊕ (Nat×(Nat->m N))->N
 |.inl a=>.B v 8 (c a) (iL.fn a)
 |.inr b=>.B v 8 b.1 b.2
abbrev RQ:={d:Int×(m eW ⊕ (Nat×(Nat->m N))) // match d.2 with|.inl b=>c b<=30|.inr a=>31<=a.1/\a.1<=40}
abbrev aea(a:m eW):aq:=.x 49 8 (c a) (iL.fn a)
abbrev aeH:m N:=[.int .i64 5,.int .i64 0,ER,.int .i64 0,.int .i64 0,.int .i64 0,.T [],ER]
def UM(o:Nat)(e:Nat->Int)(j:Bytes e)(A:o<=1048576):
  bk (ι:=RQ) q 4 [ax (.B v 1 o (qa e))] [] (λb=>.S [.Q (.c (.int .i64 b.1.1)),.Q (.c (TQ b.1.2))]) (λ_=>[]):=by
 refine bk.cd func4 rfl rfl rfl λaa=>?_;refine aW a B (g.a2 (WU o e A) [] a bn ?_);rintro⟨i,W⟩;refine a5 [903] a B (g.bG 5 49 8 a a ?_);refine aW a B (g.a2 (gA i e j 0 12 w w w) [0] a bn ?_);rintro⟨F,I,J⟩;refine aW a B ?_;refine g.aC 2 (λb:Nat×m eW×Nat=>b.1+c b.2.1<=11/\b.2.2<=1+500*c b.2.1) (λb=>[(4,aI 0 0),(5,.n (.Q (.x 1 8 (c b.2.1) (iL.fn b.2.1)))),(6,Q b.1)])
  (λb=>[e1 i e b.2.2,aea b.2.1]) (λb=>b.1) (F.toNat,[],1) a ?_ a ?_ a ⟨by grind,by grind⟩ ?_
 .simp;omega
 .simp
 rintro⟨t,d,k1⟩ ⟨G,x⟩;simp only at G x;by_cases Y:0<t
 .refine a5 [13] a N_ (g.a2 (UT i e j k1 w w) [0] a bn ?_);rintro⟨⟨u,y⟩,R⟩;have bS:=iL.aX d u;have K:=R.jl;have T:=R.ja;simp only at K T;refine aW a ?_ (g.av (t-1,d++[u],y) a ?_ ?_ ⟨by grind,by grind⟩ M)
  .simp only[U,a7,ba,a9];exact⟨by omega,show(c d+1)*104<=140737488355328 by omega⟩
  .exact QS
  exact QS
 refine a5 [-13] a N9 (g.az ?_);refine aW a B (g.a2 (gA i e j k1 40 w w w) [0] a bn ?_);rintro⟨E,Z,X⟩;by_cases O:E=0
 .refine a5 [23] a pL (g.aC 2 (λb:Nat×(Nat->m N)=>b.1<=31) (λb=>[(4,aI 0 0),(5,.n (.Q (.x 1 8 b.1 b.2)))]) (λb=>[e1 i e (k1+1:Nat),.x 49 8 b.1 b.2]) (λb=>40-b.1) (c d,iL.fn d) a D a D a E2 ?_);rintro⟨S,V⟩ z;simp only at z;by_cases H:S<=30
  .refine a5 [26] a ?_ (g.av (S+1,cg S V λC=>([aeH]:m (m N)).getD C []) a ?_ ?_ E2 E2)
   .simp only[U,bw,ba,a9];exact⟨show(S+1)*104<=140737488355328 by omega,by omega⟩
   .simp
   simp
  refine a5 [-26] a bQ (g.az ?_);refine aW a B (g.a2 (IX i e j (k1+1) w w) [0] a bn ?_);rintro⟨⟨k,s⟩,p⟩;simp only at p;refine aW a B (g.a2 (gA i e j s 5 w w w) [0] a bn ?_);rintro⟨h,gh,w1⟩;have r:h=0∨h=1∨h=2∨h=3∨h=4:=w;rcases r with rfl|rfl|rfl|rfl|rfl
  .exact zO
  .exact zO
  .exact zO
  .exact zO
  exact aW a D (g.bu ⟨(k,.inr (S,V)),by simp only;omega⟩ (g.aH [] a D eG))
 refine a5 [-23] a pL (g.a2 (IX i e j (k1+1) w w) [0] a bn ?_);rintro⟨⟨k,s⟩,p⟩;simp only at p;refine aW a B (g.a2 (gA i e j s 5 w w w) [0] a bn ?_);rintro⟨h,gh,w1⟩;have r:h=0∨h=1∨h=2∨h=3∨h=4:=w;rcases r with rfl|rfl|rfl|rfl|rfl
 .exact zN
 .exact zN
 .exact zN
 .exact zN
 exact aW a D (g.bu ⟨(k,.inl d),by simp only;omega⟩ (g.aH [] a D eG))
end
def Xh{q:af T}(h:Int)(d:Nat)(b:Nat->m N)(i:31<=d/\d<=40):X q 5 [Q h,ax (.B v 8 d b)] [] (oH (lw,v)) []:=by
 refine X.bg bb func5 rfl rfl rfl λe=>?_;by_cases bX:ce h=l
 .exact aW a B (g.aB (Ju (q:=q) h bX) [] a PP)
 exact PT
def Xf(k j:al×Y)(b:Int)(i:Nat)(h:Nat->m N)(p:31<=i/\i<=40):X (af.aD T) 6 [Q b,ax (.B v 8 i h)] (ij k j) (oH (lw,v)) (ij k j):=by
 refine X.bg bb func6 rfl rfl rfl λo=>?_;have e:a_ (af.aD T) [(22,dU [Q b] (oH (qD b)))]:=.cons (ef (Jt b)) .nil;by_cases d:ce b=l
 .rw[show qD b=(gh b,l)from bo d]at e;exact a8 e [-17,21] a bQ kv
 rw[show qD b=(lw,v)from bj d]at e;exact a8 e [17,21] a D kv
def V5{a:af T}:X a 7 [fR lw,fR lw] [] (bf l) []:=I0 lw ⟨by simp,by simp,by simp,by simp[kq],by simp⟩ D
def fr.jh{q:af T}{a:fG}(b:fr j a):X q 7 [fR (h,a),fR (h,a)] [] (bf l) []:=I0 (h,a) b.a.a'.du (by have:=b.bj;show c a.2.2.1<=4000000;omega)
abbrev qR(a:Int):m cM:=[([101],tK a)]
def qQ(d:Int)(e:Nat)(a:fG):Nat->fG
 |0=>a
 |1=>a
 |b+2=>(cE d (qQ d e a (b+1)) (h5 ((b+1:Nat):Int) (qR ((e:Int)+((b+1:Nat):Int))))).1
def ad6{aj:fG}(a:1<=e):qQ h A aj (e+1)=(cE h (qQ h A aj e) (h5 (e:Int) (qR ((A:Int)+(e:Int))))).1:=by
 match e,a with
 |e+1,_=>rfl
abbrev ad5(e d:al×Y)(a:Int)(b g:fG):m aq:=ij e d++[.cells 38 (lu (a,b)),.cells 38 (lu (a,b)),.cells 38 (lu (a,g))]
def VX(y u:al×Y)(A j:Nat)(i O:Nat->Int)(aq:Bytes i)(_:Bytes O)(_:A<=9223372036854775807)(_:j<=9223372036854775807):X (af.aD T) 3 [ax (.B v 1 A (qa i)),ax (.B v 1 j (qa O))] (ij y u) (bf l) (ij y u):=by
 refine X.J func3 rfl λaC=>?_;by_cases R:1048576<A
 .refine a5 [24,28] a bQ (g.aH [0,1,2] a ?_ nl);simp
 by_cases aK:1048576<j
 .refine a5 [-24,28] a bQ (g.aH [0,1,2] a ?_ nl);simp
 refine a5 [-24,-28] a bQ (g.a2 (UM A i aq w) [] a bn ?_);rintro⟨⟨h,k|⟨M,C⟩⟩,t⟩
 rotate_left
 .have t:31<=M/\M<=40:=t;refine aW a B (g.cb (Xh (q:=af.aD T) h M C t).tocH [] a a a a D a a a bn a bn a ?_);rintro -;refine aW a B (g.cb (Xf y u h M C t).tocH [0,1,2] a a a a D a a a bn a bn a ?_);rintro -;exact Qk
 have t:c k<=30:=t;refine aW a B (g.cb (Xg (q:=af.aD T) h k w).tocH [] a a a a D a a a bn a bn a ?_);rintro -;refine aW a B (g.cb (Xe y u h k w).tocH [0,1,2] a a a a D a a a bn a bn a ?_);rintro -;by_cases s:ce h=l
 rotate_left
 .have P:ti h k=(lw,v):=bj λK=>s K.1;rw[P];exact Qk
 have P:ti h k=((h,gU h (gh h).2 k),l):=bo ⟨s,t⟩;rw[P];have ag:fr (0+c k) (gU h (gh h).2 k):=y' (h:=h) k fr.zero;have ao:=ag.jh (q:=af.aD T) (h:=h);have ah:=D5 (h:=h) k fr.zero (Nw s);generalize gU h (gh h).2 k=aj at *;have G:az.ad 2 (λe=>[[N.int .i64 0],[N.int .i64 0]].getD e [])=[0,0]:=rfl;have H:az.bK 2 (λe=>[[N.int .i64 0],[N.int .i64 0]].getD e []):=by
  intro e r;obtain rfl|rfl:e=0∨e=1:=w
  .rfl
  rfl
 have ea:a_ (af.aD T) [(7,dU [fR (h,aj),fR (h,aj)] (bf l)),(8,Hf)]:=.cons (ef ao) (.cons adl .nil);by_cases S:aj.2.1.1=0
 rotate_left
 .refine be ea [-49,-55,-58,71,77] a (by simp[S]) (g.aH [0,1,2] a ?_ nl);simp
 by_cases aa:aj.2.2.2=[0,0]
 rotate_left
 .refine be ea [-49,-55,-58,-71,77] a Q2 (g.aH [0,1,2] a ?_ nl);simp
 refine be ea [-49,-55,-58,-71,-77] a Q2 ?_;have aY:um h (c k) (c aj.1.1.2.2) aj:=⟨by simpa using ag,ah,S,aa,rfl⟩
 refine g.aC 6 (λe=>(1<=e/\e<=3)/\um h (c k+(e-1)) (c aj.1.1.2.2+(e-1)) (qQ h j aj e)) (λe:Nat=>[(1,ax (.B v 1 j (qa O))),(9,aI 4 0),(11,aI 5 0),(12,Q e)]) (λe=>ad5 y u h aj (qQ h j aj e)) (λe=>3-e) 1 a D a (by simp[qQ]) a ⟨by omega,aY⟩ ?_;rintro e ⟨r,x⟩;by_cases K:e<=2
 rotate_left
 .obtain rfl:e=3:=w;refine a5 [-80] a D (g.az ?_);have aA:=x.len;have ab:(qQ h j aj 3).1.1.2.2.length<=4000000:=x.dg.a.a'.du.aJ;exact aW a kT (g.aH [0,1,2] a bQ nl)
 have I:=ad6 (h:=h) (A:=j) (aj:=aj) (e:=e) r.1;generalize qQ h j aj e=b at *;have V:a_ (af.aD T) [(9,HH)]:=.cons adR .nil;refine a8 V [80] a kT ?_;have au:=IU y u (h5 (e:Int) (qR ((j:Int)+(e:Int)))) x.dg x.ok w;have L:=Tr (h:=h) (b:=b) (i:=e) (o:=qR ((j:Int)+(e:Int)));have W:=λK=>x.next (i:=e) (o:=qR ((j:Int)+(e:Int))) w K;generalize cE h b (h5 (e:Int) (qR ((j:Int)+(e:Int))))=aE at *;refine g.cb au.tocH [0,1,2] a a a a ?_ a a a bn a bn a ?_
 .simp only[U.X,U,ba,a9];and_intros<;>first|exact bs.same|rfl|(intro e r;match e,r with|0,_=>rfl)
 rintro -;obtain⟨d,ok⟩:=aE;cases ok with
 |false=>
  have L:d.1.1=b.1.1:=L a;obtain⟨⟨ar,aF⟩,aG⟩:=d;obtain rfl:ar=b.1.1:=L;have p:a_ (af.aD T) [(11,dU [bW b.1.1,bW b.1.1] (bf l))]:=.cons (ef (IZ b.1.1 x.dg.a.a'.du)) .nil;refine a8 p [99] a ?_ (g.aT (bY.mk [0,1,2] a ?_ a a a nl))
  .simp;exact⟨a,a,a⟩
  simp
 |true=>
  obtain⟨E,m,J,av⟩:=W rfl;have J:d.1.1.2.2=b.1.1.2.2++[((e:Int),m)]:=J;have aH:c d.1.1.2.2=c b.1.1.2.2+1:=by rw[J];simp
  have ae:d.1.1.2.2.getD ((c d.1.1.2.2:Int)-1).toNat a3.F=((e:Int),m):=by rw[J];simp[ak]
  have ab:c d.1.1.2.2<=4000000:=E.dg.a.a'.du.aJ;have aJ:c d.2.2.1=2:=E.dg.bj;have z:=Yq (h,d) (3-e) m (E.dg.a.fR w) w;rw[show tO (h,d) (3-e) m=_ from av]at z;have aM:=Cu (q:=af.aD T) (d.2.2.1.getD (2-(e:Int)).toNat (0,0)) d.1.1.2.2 ab;by_cases R:(fJ (d.2.2.1.getD (2-(e:Int)).toNat (0,0)) d.1.1.2.2).2=0
  .rw[bo R]at z;generalize fJ (d.2.2.1.getD (2-(e:Int)).toNat (0,0)) d.1.1.2.2=Z at *;have ai:bu.ad 1 (λF=>[[N.T [101],N.T (tK ((j:Int)+(e:Int)))]].getD F [])=qR ((j:Int)+(e:Int)):=rfl;have an:bu.bK 1 (λF=>[[N.T [101],N.T (tK ((j:Int)+(e:Int)))]].getD F []):=by intro F aD;obtain rfl:F=0:=w;rfl
   have p:a_ (af.aD T) [(12,dU [fR (h,d),Q (3-e),Q m] (mT (qR ((j:Int)+(e:Int))) l)),(13,dU [kF (d.2.2.1.getD (2-(e:Int)).toNat (0,0)),a3.B d.1.1.2.2] (mU Z)),(14,Hj)]:=.cons (ef z) (.cons (ef aM) (.cons adp .nil));refine be p [-99,-140,142,-148] a ?_ (g.av (e+1) a ?_ ?_ ⟨by omega,?_⟩ w)
   .simp only[U,a7,ae,R,bu.l];and_intros<;>first|omega|exact bu.U _|exact an|exact ai|rfl|trivial|exact fi w|(simp;done)|(simpa using R)|skip
   .simp
   .rw[I];simp
   rw[I,show e+1-1=e-1+1 by omega];exact E
  rw[bj R]at z;generalize fJ (d.2.2.1.getD (2-(e:Int)).toNat (0,0)) d.1.1.2.2=Z at *;have p:a_ (af.aD T) [(12,dU [fR (h,d),Q (3-e),Q m] (mT [] v)),(13,dU [kF (d.2.2.1.getD (2-(e:Int)).toNat (0,0)),a3.B d.1.1.2.2] (mU Z))]:=.cons (ef z) (.cons (ef aM) .nil);refine be p [-99,-140,-142,-148] a ?_ (g.av (e+1) a ?_ ?_ ⟨by omega,?_⟩ w)
  .simp only[U,a7,ae,R];and_intros<;>first|omega|rfl|trivial|exact fi w|(simp;done)|(simpa using R)|skip
  .simp
  .rw[I];simp
  rw[I,show e+1-1=e-1+1 by omega];exact E
end R1
end Go.AM
