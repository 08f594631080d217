/- Part 7. No condition. -/
import Derived.Test.YtipjbfhldjgbnaaGreatDoorA6
set_option linter.all false
set_option maxHeartbeats 8000000
open Go.Proofs
open Go.Proofs.Tryz
open List renaming length → c
open Go renaming Value → Z, TypeId → aq, World → au, Frame → aL, Operand → aA, Program → aI, Goroutine → ak, Oper → ap
open Option renaming some → f, none → p
open Bool renaming true → m, false → v
open Go.Proofs.Tryz renaming prog → T
namespace Go.AM
variable {j z:Nat}{h:Int}{d i e u:Nat}{W:aq}{H:Z->(Nat->Option Obj)->Prop}{L:Array Bool}{bD:Mem}{D:Nat}{P:aI}{bq:ak->a5->Prop}{r:Code}{B:ak}{s:ap}{b:a5}{o:aq}{aa:Z}{k X:aA}{α:Type}{η:aA->y}{ι:Type}{l:n an}{F:bI}{all:n ap}{dn:Array aq}{cap:n O}{cR:n y}{lc:Nat->Option Obj}{ai:n aL}{bg:n (Nat×Bool)}{V:Nat->n O}{cP:aA}{gs:Array ak}{aS:n Nat}{cg:n Prop}{off:Nat}{op:BinOp}{aH:Array ap}{ab:n Prop}{bs:n ap}{az:a5}{ty:aq}{val:Nat->Nat->Z}{A:n Z}{bj:au}{ah:Array aA}{ao de:n an}{res:ι->y}{aO:ι->n an}
variable {CT:n (Nat×bK)}{av:n ik}{be:fv}{ad:n (Nat×bv)}{a4:bv}
namespace R1
def Nq:n bB:=[[],[97],[104,101,108,108,111],[97,98,99,97,98,99,97,98,99,97,98,99],[107,101,101,112,116,104,105,115,111,110,101],[122,122,122,122,122,122,122,122,122,122,122,122,122,122,122,122],[116,104,101,113,117,105,99,107,98,114,111,119,110,102,111,120]]
def q3(a:Int):bB:=Nq.getD (a % 7).toNat []
def V8{e:ag T}(b:Int)(t:0<=b)(h:b<=4000000):Y e 12 [R b] [] (b0 (q3 b)) []:=by
 refine Y.K func12 rfl λi=>?_;refine a6 [901] a C (g.region ?_);refine gu [] 3 a gA ?_;have d:b % 7=0∨b % 7=1∨b % 7=2∨b % 7=3∨b % 7=4∨b % 7=5∨b % 7=6:=x;rcases d with d|d|d|d|d|d|d
 all_goals (unfold q3;rw[d];exact aZ rfl E (g.ar rfl (by simp[Nq])))
abbrev HO:bK:=da c1 (λa=>b0 (q3 a)) λa=>[0<=a,a<=4000000]
def aeR{b:ag T}:bM b 12 HO:=.bd λd a=>V8 d a.1 a.2
section
variable {q:ag T}
def yK(b:Int)(e:Int×Int)(d:cj)(a:Int):Option (n cZ):=if cB b=m/\(jt e d.2.2).2=0 then r_ b d a else p
def DB(b:Int)(a:Int×Int)(d:cj):(Int×Int)×Int:=if cB b=m then jt a d.2.2 else(a,1)
abbrev zB(a:(Int×Int)×Int)(b:Option (n cZ)):y:=.ae [.R (.c (.C v 2 (c (b.getD [])) (bC.fn (b.getD [])))),.R (.c (.int .i64 a.2)),.agg [.c (.int .i64 a.1.1),.c (.int .i64 a.1.2)],.R (.c (.bool b.isSome))]
def aba{z:Int×Int}{d:n (Int×Int)}(a:¬(jt z d).2=0):(jt z d).1=z:=by unfold jt at *;grind
def Wf(b:Int)(z:Int×Int)(h:cj)(e:Int)(j:dL h):Y (ag.aJ T) 37 [R b,kl z,bV h,R e] [] (zB (DB b z h) (yK b z h e)) []:=by
 refine Y.bB func37 rfl rfl rfl λs=>?_;have r:=XV b h e j.bx;have o:=CK (q:=ag.aJ T) z h.2.2 j.aP;have n:=aba (z:=z) (d:=h.2.2);unfold yK DB;cases bT:cB b with
 |false=>
  have i:a9 (ag.aJ T) [(68,da c1 (λb=>bh (cB b)) λ_=>[])]:=.cons pR .nil;refine a8 i [18] a kE (g.freeze 10 2 a a a ?_);exact g.cb ba [] a E a a a ft
 |true=>
 generalize jt z h.2.2=l at *;generalize r_ b h e=k at *;have i:a9 (ag.aJ T) [(68,da c1 (λb=>bh (cB b)) λ_=>[]),(10,d8 [kl z,a1.C h.2.2] (mb l)),(69,d8 [R b,bV h,R e] (nO (k.getD []) k.isSome))]:=.cons pR (.cons (eg o) (.cons (eg r) .nil));by_cases t:l.2=0
 .refine a8 i [-18,-28] a ?_ ?_
  .simp only[U,bT,t,fq,ip,a',a_];and_intros<;>rfl
  refine g.freeze 10 2 a a a ?_;exact g.cb ba [] a gA a a a ft
 refine a8 i [-18,28] a ?_ ?_
 .simp only[U,bT,fq,iI,a',a_];and_intros<;>first|rfl|exact t
 refine g.freeze 10 2 a a a ?_;exact g.cb ba [] a (by simp[t,n t]) a a a ft
abbrev vh(b:dG)(a:Int):Int:=b.2.2.2.2.getD (a-1).toNat 0
abbrev qJ(b:dG)(a:Int):Int×Int:=b.2.2.2.1.getD (a-1).toNat (0,0)
def zP(a:dG)(b d:Int):Option (n cZ):=if fa a=m/\(1<=b/\b<=2)/\vh a b=0 then yK a.1 (qJ a b) (kw a) d else p
def afg{a:dG}(b:fa a=m):c a.2.2.2.1=2/\c a.2.2.2.2=2:=by simp only[fa,cC,bA]at b;exact b.1.1
def Iu(a:dG)(e:Int×Int)(_ b d:Bool):n an:=match b,d with
 |false,_=>[.cells 35 (hY a)]
 |true,v=>[.cells 35 (hY a),zT]
 |true,m=>[.cells 35 (hY a),yT e]
def Yr(J:dG)(e h:Int)(t:n7 J.2.1)(M:1<=e/\e<=3):Y (ag.aJ T) 13 [ep J,R e,R h] [] (nO ((zP J e h).getD []) (zP J e h).isSome) []:=by
 refine Y.K func13 rfl λF=>?_;have s:=CN J t;have w:a9 (ag.aJ T) [(19,d8 [ep J] (bh (fa J))),(36,uZ)]:=.cons (eg s) (.cons zz .nil);unfold zP;cases i:fa J with
 |false=>
  refine a8 w [14,19,28] a ?_ (g.ar a);simp only[U,i,hH,a',a_];and_intros<;>rfl
 |true=>
 obtain⟨I,K⟩:=afg i;by_cases ae:1<=e/\e<=2
 rotate_left
 .rw[bl zV];refine a8 w [-14,19,28] a ?_ (g.ar a);simp only[U,i,og,ae,n_,fq,hH,a',a_];and_intros<;>rfl
 by_cases l:vh J e=0
 rotate_left
 .rw[bl λu=>l u.2.2];refine a8 w [-14,-19,28] a ?_ (g.ar a);simp only[U,i,og,ae,a7,lI,fq,iI,a',a_];and_intros<;>first|rfl|omega|exact l
 rw[br ⟨rfl,ae,l⟩];have A:=Jo J t;have E:=Mx (J:=J);have D:=Wf J.1 (qJ J e) (kw J) h E;generalize DB J.1 (qJ J e) (kw J)=k at *;generalize yK J.1 (qJ J e) (kw J) h=j at *;generalize kw J=r at *;have w:a9 (ag.aJ T) [(19,d8 [ep J] (bh (fa J))),(36,uZ),(11,d8 [ep J] (bV r)),(37,d8 [R J.1,kl (qJ J e),bV r,R h] (zB k j))]:=.cons (eg s) (.cons zz (.cons (eg A) (.cons (eg D) .nil)));have B:a7 .i64 (e-1):=m3;have o:0<=e-1/\e-1<(c J.2.2.2.1:Int):=x;refine bf w [-14,-19,-28,903] a ?_ ?_
 .simp only[U,i,og,ae,a7,lI,fq,AL,a',a_];and_intros<;>first|rfl|omega|exact l
 refine g.cj b5 (λz=>([aD 0 0,R J.1,aD 0 10,a1.C J.2.2.2.1,R e,R (e-1),aw (.Q [.int .i64 (qJ J e).1,.int .i64 (qJ J e).2]),kl (qJ J e),ep J,bV r,R h,zB k j,zB k j,aw (.C v 2 (c (j.getD [])) (bC.fn (j.getD []))),R k.2,kl k.1,bh j.isSome,aD 1 0,aw (.C v 2 (c (j.getD [])) (bC.fn (j.getD []))),R k.2,.any,bh j.isSome]:n y).getD z .any) (lm (Iu J k.1) 21 17 20) a a a a
  ⟨b4.bN a a a (λ_ b d=>by cases b<;>cases d<;>exact aJ.x),
  b4.bN a a a (λ_ b d=>by cases b<;>cases d<;>exact aJ.x),
  b4.bN a a a (λ_ b d=>by cases b<;>cases d<;>exact aJ.x),
  b4.bN a a a (λ_ b d=>by cases b<;>cases d<;>exact aJ.x),
  b4.bN a a a (λ_ b d=>by cases b<;>cases d<;>exact aJ.x),
  b4.bN a a a (λ_ b d=>by cases b<;>cases d<;>exact aJ.eval (bg:=[]) ba w a B),
  b4.bN a a a (λ_ b d=>by cases b<;>cases d<;>exact aJ.eval (bg:=[]) ba w a o),
  b4.bN a a a (λ_ b d=>by cases b<;>cases d<;>exact aJ.x),
  b4.bN a a a (λ_ b d=>by cases b<;>cases d<;>exact aJ.x),
  b4.bN a a a (λ_ b d=>by cases b<;>cases d<;>exact aJ.eval (bg:=[]) ba w a a),
  b4.bN a a a (λ_ b d=>by cases b<;>cases d<;>exact aJ.x),
  b4.bN a a a (λ_ b d=>by cases b<;>cases d<;>exact aJ.eval (bg:=[]) ba w a a),
  b4.bN a a a (λ_ b d=>by cases b<;>cases d<;>exact aJ.x),
  b4.bN a a a (λ_ b d=>by cases b<;>cases d<;>exact aJ.x),
  b4.bN a a a (λ_ b d=>by cases b<;>cases d<;>exact aJ.x),
  b4.bN a a a (λ_ b d=>by cases b<;>cases d<;>exact aJ.x),
  b4.bN a a a (λ_ b d=>by cases b<;>cases d<;>exact aJ.x),
  b4.eg a a a a a (λ_=>dS (bg:=[]) ba w (ao:=f _) a C),
  b4.bN a a a (λ_ b d=>by cases b<;>cases d<;>exact aJ.x),
  b4.bN a a a (λ_ b d=>by cases b<;>cases d<;>exact aJ.x),
  b4.eh a a a a a (λ_=>dS (bg:=[]) ba w (ao:=f _) a C),
  b4.ef a a a a (λb d=>by cases b<;>cases d<;>exact aJ.x),C⟩ ?_
 intro y q;show g (ag.aJ T) _ _ _ _ _ (Iu J k.1 (y 21) (y 17) (y 20));rw[q 21 b9,q 17 b9,q 20 b9];exact wI
section
variable [q.b8]
end
end
def Tx{a:dG}(d:fa a=m){b:Int}{g:n cZ}{k:dO}{cX:n Int}(e:¬vh a b=0):iw a (1,b,g,k,cX)=(a,v):=by
 have j:g_ b a.2.1.1 a.2.2.1 a.2.2.2=a.2.2.2:=bl e;have i:nL a.1 a.2 b g=(a.2,v):=by unfold nL;rw[j,bl λh=>e h.1]
 unfold iw;rw[br d];simp only[cw,dH,i,ite_self]
def ae9{d:dG}{b a:Int}(g:¬vh d b=0):zP d b a=p:=bl λe=>g e.2.2
abbrev TW(a:Int)(b:bB):fK:=(1,a,[([97],b)],md,[])
abbrev zp(d b:aq×Z)(g:dG)(e:fK)(a:dG):n an:=i' d b++[.cells 35 (hY g),po e,.cells 35 (hY a),.cells 35 (hY a)]
abbrev My(d b:aq×Z)(a:dG)(e:fK)(g:dG)(h i:Bool):n an:=
 match h,i with
 |false,_=>zp d b a e g
 |true,v=>zp d b a e g++[fI]
 |true,m=>zp d b a e g++[.cells 35 (hY a)]
abbrev Iq(b:bB):O:=.C m 2 1 λa=>([[.T [97],.T b]]:n (n O)).getD a []
abbrev afw(d:dG)(b:Nat)(e:Nat->Int)(a:Int)(g:Nat):y:=
 [ep d,R a,aw (.C v 1 b (ni e)),R b,b0 (q3 b),.p (.agg [.c (.T [97]),.c (.T (q3 b))]),aw (Iq (q3 b)),.p (.agg [.c (.int .i64 1),.c (.int .i64 a),.c (Iq (q3 b)),.c (.int .i64 0),.c (.int .i64 0),.c (.int .i64 0),.c (.T []),.c gN]),tV (d,v),tV (d,v),ep d,bh v,aD 7 0,.any,bh v].getD g .any
def V1(h e:aq×Z)(o k:Nat)(i n:Nat->Int)(F:Bytes i)(_:Bytes n)(_:o<=9223372036854775807)(_:k<=9223372036854775807):Y (ag.aJ T) 4 [aw (.C v 1 o (ni i)),aw (.C v 1 k (ni n))] (i' h e) (bh m) (i' h e):=by
 refine Y.K func4 rfl λQ=>?_;by_cases N:1048576<o
 .exact Pm
 by_cases M:1048576<k
 .exact Rq
 refine a6 [-19,-23] a bW (g.a8 (I1 o i F x) [] a bm ?_);intro t;have j:=t.do;generalize t.a=J at *;generalize t.fD=aj at *;refine aZ a C (g.aC j.bc [] a (aZ a C (g.aC (j.a_ h e) [0,1,2] a ?_)));have D:=j.hj (q:=ag.aJ T);have bz:a9 (ag.aJ T) [(8,d8 [ep (iw J aj).1,ep (iw J aj).1] (bh m)),(9,d8 [ep J] (bh (fa J)))]:=.cons (eg D) (.cons (eg j.ok) .nil);cases bT:fa J with
 |false=>
  exact Q2
 |true=>
 generalize iw J aj=bc at *;obtain⟨I,A,_⟩:=t0 bT;refine bf bz [-44,-50,-54] a kE (g.aE 7 (λb=>1<=b/\b<=3) (λb:Nat=>[(1,aw (.C v 1 k (ni n))),(5,aD 3 0),(11,R b)]) (λ_=>zp h e J aj bc.1) (λb=>3-b) 1 a E a E a x ?_);intro b l;by_cases K:b<=2
 rotate_left
 .refine bN [-64] a bW (g.aB ?_);refine cr a C (g.aM [0,1,2] a ?_ oy);simp
 by_cases r:vh J b=0
 .refine bN [64,73] a ?_ (g.ax (b+1) a ?_ ?_ ?_ ?_)
  .simp only[U,a7,A,bA];and_intros<;>first|omega|exact gZ.2 r
  .simp
  .simp
  .omega
  omega
 have B:=(Cn (J:=J) (aj:=TW b (q3 k)) j.eM).a_ h e;rw[Tx bT r]at B;have z:=Yr J b 1 (j.eM.dN x) x;rw[ae9 r]at z;refine bN [64,-73] a ?_ ?_
 .simp only[U,a7,A,bA,a_];and_intros<;>first|omega|exact eM.2 r
 have d:a9 (ag.aJ T) [(12,HO)]:=.cons aeR .nil;refine g.cj b5 (afw J k n b) (ns (My h e J aj bc.1) 12 13) a a a a
  ⟨.a',.a',.a',.a',.cD ba d (ck:=by simp;omega),.a',.a',.a',
   b4.hR rfl rfl (λw i=>aJ.dK (by cases w<;>cases i<;>exact dx.b0 B.tocF [0,1,2] rfl rfl rfl rfl (by simp only[U.Y,U,a',a_];and_intros<;>first|exact bt.same|rfl|(intro b l;match b,l with|0,_=>rfl)) rfl rfl rfl bm rfl bm)),.a',.a',.a',
   b4.fg a a (dS (bg:=[]) ba d (ao:=f _) a C),b4.fh a a (dS (bg:=[]) ba d (ao:=f _) a C),.a',C⟩ ?_
 intro y u;show g _ _ _ _ _ _ (My h e J aj bc.1 (y 12) (y 13));rw[u 12 b9,u 13 b9];have s:a9 (ag.aJ T) [(13,d8 [ep J,R b,R 1] (nO [] v)),(8,d8 [ep J,ep J] (bh m))]:=.cons (eg z) (.cons (eg (j.jk bT)) .nil);refine bf s [-93,-99,-102,-106] a nU (g.ax (b+1) a E E x ?_);omega
end R1
end Go.AM
