/- Part 7. No condition. -/
import Derived.Test.YtiiglbogpodloaaGreatDoorA6
set_option linter.all false
set_option maxHeartbeats 8000000
open Go.Proofs
open Go.Proofs.Tryz
open List renaming length → c, getD_eq_getElem?_getD → al
open Go renaming Value → X, TypeId → an, World → au, Frame → aG, Operand → ae, Program → aD, Goroutine → ag, Oper → ao
open Option renaming some → f
open Bool renaming true → l, false → v
open Go.Proofs.Tryz renaming prog → S
namespace Go.AM
variable {j A:Nat}{h:Int}{d i e u:Nat}{W:an}{H:X->(Nat->Option Obj)->Prop}{L:Array Bool}{bB:Mem}{F:Nat}{P:aD}{br:ag->a6->Prop}{s:Code}{C:ag}{r:ao}{b:a6}{o:an}{aa:X}{p:au}{α:Type}{η:ae->y}{ι:Type}{k:m ar}{J:bM}{all:m ao}{dt:Array an}{cap:m M}{cS:m y}{lc:Nat->Option Obj}{ai:m aG}{bf:m (Nat×Bool)}{V:Nat->m M}{cQ:ae}{gs:Array ag}{aY:m Nat}{cp:m Prop}{off:Nat}{op:BinOp}{aV:Array ao}{Z:m Prop}{bq:m ao}{aF:a6}{ty:an}{val:Nat->Nat->X}{z:m X}{bi:au}{ah:Array ae}{aq di:m ar}{res:ι->y}{aX:ι->m ar}
variable {CT:m (Nat×bI)}{av:m iv}{be:fF}{ac:m (Nat×cq)}{a5:cq}
namespace R1
abbrev hA(a:dq):m d_:=[(3,0,[],a,[]),(2,1,[],er,[]),(2,2,[],er,[])]
abbrev Ln:M:=.B l 0 0 λ_=>[]
abbrev Mz(a:d_):m M:=[.int .i64 a.1,.int .i64 a.2.1,Ln,.int .i64 a.2.2.2.1.1,.int .i64 a.2.2.2.1.2.1,.int .i64 a.2.2.2.1.2.2.1,.S a.2.2.2.1.2.2.2,Ln]
abbrev Ml(b:dq):Nat->m M:=λa=>Mz ((hA b).getD a gS.E)
abbrev abJ(a:d_):y:=.n (.agg ((Mz a).map .c))
abbrev Ct(a:dq):y:=ax (.B v 8 3 (Ml a))
abbrev Og(i:Nat)(b:Int)(e:dq)(d:Nat)(j g:eR)(a:Bool)(h:Nat):y:=
 [fb (b,j),Ct e,R d,ax (.Q (Ml e d)),abJ ((hA e).getD d gS.E),m1 ((b,g),a),m1 ((b,g),a),fb (b,g),bg a,aI i 0,.any,bg a].getD h .any
abbrev zj(e d:an×X)(a:Int)(b g k:eR)(h:m Int)(i j:Bool):m ar:=
 match i,j with
 |false,_=>gy e d++[.cells 38 (fx (a,b)),.cells 38 (fx (a,b)),.cells 38 (fx (a,g)),.x 3 1 2 (az.fn h)]
 |true,v=>gy e d++[.cells 38 (fx (a,b)),.cells 38 (fx (a,b)),.cells 38 (fx (a,g)),.x 3 1 2 (az.fn h),fN]
 |true,l=>gy e d++[.cells 38 (fx (a,b)),.cells 38 (fx (a,b)),.cells 38 (fx (a,g)),.x 3 1 2 (az.fn h),.cells 38 (fx (a,k))]
def JX(a:dq)(b:e<3):((hA a).getD e gS.E).2.2.1=[]/\((hA a).getD e gS.E).2.2.2.2=[]:=by
 match e,b with
 |0,_=>exact⟨rfl,rfl⟩
 |1,_=>exact⟨rfl,rfl⟩
 |2,_=>exact⟨rfl,rfl⟩
def MB(d:Int)(a:eR)(b:dq):e8 d a (hA b)=(a.1,b,hF a.1.1 b a.2.2):=by simp[hA,e8,cd,hF]
def WB(r p:an×X)(K C:Nat)(i Z:Nat->Int)(aE:Bytes i)(_:Bytes Z)(_:K<=9223372036854775807)(_:C<=9223372036854775807):Y (af.ay S) 3 [ax (.B v 1 K (nl i)),ax (.B v 1 C (nl Z))] (gy r p) (bg l) (gy r p):=by
 refine Y.I func3 rfl λaF=>?_;by_cases aG:1048576<K
 .refine a4 [25,29] a bK (g.aJ [0,1,2] a ?_ kp);simp
 by_cases ar:1048576<C
 .refine a4 [-25,29] a bK (g.aJ [0,1,2] a ?_ kp);simp
 refine a4 [-25,-29] a bK (g.a2 (Je K i aE w) [] a bn ?_);rintro⟨⟨h,d|⟨N,E⟩⟩,Q⟩
 rotate_left
 .have Q:31<=N/\N<=40:=Q;refine aR a B (g.bV (JF (q:=af.ay S) h N E Q).tocI [] a a a a D a a a bn a bn a ?_);rintro -;refine aR a B (g.bV (JD r p h N E Q).tocI [0,1,2] a a a a D a a a bn a bn a ?_);rintro -;exact P'
 have Q:c d<=30:=Q;refine aR a B (g.bV (JE (q:=af.ay S) h d w).tocI [] a a a a D a a a bn a bn a ?_);rintro -;refine aR a B (g.bV (JC r p h d w).tocI [0,1,2] a a a a D a a a bn a bn a ?_);rintro -;by_cases t:ce h=l
 rotate_left
 .have ag:qP h d=(j6,v):=bj λs=>t s.1;rw[ag];exact P'
 have ag:qP h d=((h,e8 h (cD h).2 d),l):=bl ⟨t,Q⟩;rw[ag];have aP:=r7 (h:=h) d eJ.zero;have A:eJ (0+c d) (e8 h (cD h).2 d):=aP;have aC:=A.gm (q:=af.ay S) (h:=h);have aw:=MD (h:=h) d eJ.zero (z0 t) pU.zero;have M:=tI (h:=h) d eJ.zero (z0 t);generalize e8 h (cD h).2 d=j at *;have O:a' (af.ay S) [(8,dS [fb (h,j),fb (h,j)] (bg l)),(9,HJ)]:=.cons (d9 aC) (.cons adY .nil);by_cases ab:c j.1.1.2.2=0
 .have z:=aw (AY.1 ab);refine bd O [-50,-56,-59,74] a ?_ (g.aJ [0,1,2] a ?_ kp)
  .simp only[U,U.Y,a2.l,bh.l,a3.l,z];simp[ab,z,ck,a2.U,bh.U,a3.U]
  simp only[U,U.Y,a2.l,bh.l,a3.l,z];simp[ck]
 refine bd O [-50,-56,-59,-74] a (by simpa usingλs=>ab (by rw[s];rfl)) (g.aH 6 (λe=>e<=3) (λe:Nat=>[(1,ax (.B v 1 C (nl Z))),(11,R (c j.1.1.2.2)),(12,Ct er),(13,aI 5 0),(14,R e)]) (λe=>Co r p h j (e8 h j ((hA er).take e)) j v v) (λe=>3-e) 0 a ?_ a (by simp[e8]) a w ?_)
 .simp only[U,U.Y,ba,a9];and_intros<;>first|exact bs.same|rfl|skip
  intro e m
  match e,m with
  |0,_=>rfl
  |1,_=>rfl
  |2,_=>rfl
 intro e m;have J:=r7 (h:=h) ((hA er).take e) A;have T:=tI (h:=h) ((hA er).take e) A M;by_cases s:e<3
 .have aa:=Es (h:=h) (b:=j) (d:=hA er) s;have av:=yf r p ((hA er).getD e gS.E) J T bK;have bT:=JX er s;refine a4 [88,916] a bK ?_;generalize e8 h j ((hA er).take e)=b at *;generalize cd h b ((hA er).getD e gS.E)=u at *;refine g.b9 b6 (Og 6 h er e b u.1 u.2) (mC (Co r p h j b u.1) 9 10) a a a a
   ⟨.ba,.ba,.ba,.c8 bb O (cx:=by simp;omega),.ba,
   bV.fc a a (λx i=>aT.dO OW),
   .ba,.ba,.ba,
   bV.eM a a (dT (bf:=[]) bb O (aq:=f _) a B),bV.eN a a (dT (bf:=[]) bb O (aq:=f _) a B),.ba,B⟩ ?_
  intro y F;show g _ _ _ _ _ _ (Co r p h j b u.1 (y 9) (y 10));rw[F 9 b',F 10 b'];refine aR a j7 (g.az (e+1) a D ?_ ?_ ?_)
  .rw[aa];simp
  .omega
  omega
 obtain rfl:e=3:=w;rw[show(hA er).take 3=hA er from a,MB]at *;refine a4 [-88] a D (g.aA ?_);have V:=DI (b:=j.1.1) (d:=er) j.2.2 A.bm A.b3;have H:=λk (ah:k<c j.1.1.2.2)e (m:e<2)=>aam j.2.2 A.bm A.b3 ah m;have ak:c j.1.1.2.2<=9:=(yP (t1.1 M).1.df).2;generalize hF j.1.1 er j.2.2=o at *;have au:0<=(C:Int) % (c j.1.1.2.2:Int):=rv _ w;have ao:(C:Int) % (c j.1.1.2.2:Int)<c j.1.1.2.2:=ro _ w;refine aR a ?_ ?_
 .have:dZ.bytes=8:=rfl;simp[a8,this];omega
 generalize(C:Int) % (c j.1.1.2.2:Int)=aH at *;obtain⟨k,rfl⟩:=Int.eq_ofNat_of_zero_le au;have aB:=H k w;clear H;have G:eJ (c d+3) (j.1,er,o):=by simpa using J
 have L:fD (h,(j.1,er,o))=l:=T;refine g.aH 7 (λe=>e<=3) (λe:Nat=>[(12,Ct (2,(k:Int),0,[])),(13,aI 5 0),(17,.n (.R (.x 6 1 2 (az.fn o.2)))),(18,R e)]) (λe=>zj r p h j (e8 h (j.1,er,o) ((hA (2,(k:Int),0,[])).take e)) j o.2 v v) (λe=>3-e) 0 a ?_ a ?_ a w ?_
 .simp only[U,U.Y,ba,a9];and_intros<;>first|exact bs.same|rfl|skip
  .intro e m
   match e,m with
   |0,_=>rfl
   |1,_=>rfl
   |2,_=>rfl
  exact(cV _).trans V.2
 .simp only[U,U.Y,ba,a9];and_intros<;>first|exact bs.same|rfl|skip
  all_goals exact(cV _).trans V.2
 intro e m;have J:=r7 (h:=h) ((hA (2,(k:Int),0,[])).take e) G;have T:=tI (h:=h) ((hA (2,(k:Int),0,[])).take e) G L;by_cases s:e<3
 .have aa:=Es (h:=h) (b:=(j.1,er,o)) (d:=hA (2,(k:Int),0,[])) s;have av:=yf r p ((hA (2,(k:Int),0,[])).getD e gS.E) J T bK;have bT:=JX (2,(k:Int),0,[]) s;refine a4 [117,923] a bK ?_;generalize e8 h (j.1,er,o) ((hA (2,(k:Int),0,[])).take e)=b at *;generalize cd h b ((hA (2,(k:Int),0,[])).getD e gS.E)=u at *;refine g.b9 b6 (Og 7 h (2,(k:Int),0,[]) e b u.1 u.2) (mC (zj r p h j b u.1 o.2) 9 10) a a a a
   ⟨.ba,.ba,.ba,.c8 bb O (cx:=by simp;omega),.ba,
   bV.fc a a (λx i=>aT.dO OW),
   .ba,.ba,.ba,
   bV.eM a a (dT (bf:=[]) bb O (aq:=f _) a B),bV.eN a a (dT (bf:=[]) bb O (aq:=f _) a B),.ba,B⟩ ?_
  intro y F;show g _ _ _ _ _ _ (zj r p h j b u.1 o.2 (y 9) (y 10));rw[F 9 b',F 10 b'];refine aR a j7 (g.az (e+1) a D ?_ ?_ ?_)
  .rw[aa];simp
  .omega
  omega
 obtain rfl:e=3:=w;rw[show(hA (2,(k:Int),0,[])).take 3=hA (2,(k:Int),0,[])from a,MB]at *;refine a4 [-117] a D (g.aA ?_);refine aR a B ?_;have aj:=(DI (b:=j.1.1) (d:=(2,(k:Int),0,[])) o V.1 V.2);generalize hF j.1.1 (2,(k:Int),0,[]) o=ai at *;refine g.aH 7 (λe=>e<=2) (λe:Nat=>[(13,aI 5 0),(17,.n (.R (.x 6 1 2 (az.fn o.2)))),(21,R e)]) (λ_=>zj r p h j (j.1,(2,(k:Int),0,[]),ai) j o.2 v v) (λe=>2-e) 0 a D a D a w ?_
 intro e m;by_cases s:e<2
 .obtain⟨cY,aD⟩:=aB e s;by_cases z:o.2.getD e 0=0
  .have P:=cY z;refine a4 [131,139,-147,-153,-165] a ?_ (g.az (e+1) a ?_ ?_ ?_ ?_)
   .have I:o.2.getD e az.E=0:=z;have W:ai.2.getD e az.E=1:=P;have ae:=aj.2;simp only[U,a8,cW,I,W,ae];and_intros<;>first|rfl|omega|trivial|exact fa w
   .simp
   .simp
   .omega
   omega
  have P:=aD z;refine a4 [131,-139,-147,153,-165] a ?_ (g.az (e+1) a ?_ ?_ ?_ ?_)
  .have I:o.2.getD e az.E≠0:=z;have W:ai.2.getD e az.E=o.2.getD e az.E:=P;have ae:=aj.2;simp only[U,a8,cW,W,ae];and_intros<;>first|omega|trivial|exact iC.2 I|exact eW.2 I|exact fa w|rfl|simp
  .simp
  .simp
  .omega
  omega
 refine a4 [-131] a bK (g.aA ?_);refine aR a B (g.aJ [0,1,2] a ?_ kp);simp
end R1
end Go.AM
