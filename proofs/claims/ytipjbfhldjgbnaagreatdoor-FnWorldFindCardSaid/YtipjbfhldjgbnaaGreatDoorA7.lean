/- Part 7. No condition. -/
import Derived.Test.YtipjbfhldjgbnaaGreatDoorA6
set_option linter.all false
set_option maxHeartbeats 8000000
open Go.Proofs
open Go.Proofs.Tryz
open List renaming length → c, getD_eq_getElem?_getD → al
open Go renaming Value → Z, TypeId → aq, World → au, Frame → aL, Operand → aA, Program → aI, Goroutine → ak, Oper → ap
open Option renaming some → f
open Bool renaming true → m, false → v
open Go.Proofs.Tryz renaming prog → T
namespace Go.AM
variable {j z:Nat}{h:Int}{d i e u:Nat}{W:aq}{H:Z->(Nat->Option Obj)->Prop}{L:Array Bool}{bD:Mem}{D:Nat}{P:aI}{bq:ak->a5->Prop}{r:Code}{B:ak}{s:ap}{b:a5}{o:aq}{aa:Z}{k X:aA}{α:Type}{η:aA->y}{ι:Type}{l:n an}{F:bI}{all:n ap}{dn:Array aq}{cap:n O}{cR:n y}{lc:Nat->Option Obj}{ai:n aL}{bg:n (Nat×Bool)}{V:Nat->n O}{cP:aA}{gs:Array ak}{aS:n Nat}{cg:n Prop}{off:Nat}{op:BinOp}{aH:Array ap}{ab:n Prop}{bs:n ap}{az:a5}{ty:aq}{val:Nat->Nat->Z}{A:n Z}{bj:au}{ah:Array aA}{ao de:n an}{res:ι->y}{aO:ι->n an}
variable {CT:n (Nat×bK)}{av:n ik}{be:fv}{ad:n (Nat×bv)}{a4:bv}
namespace R1
def Tw{a:dG}(d:fa a=m){b:Int}(e:1<=b/\b<=2){h:n cZ}{g:dO}{cX:n Int}:iw a (2,b,h,g,cX)=((a.1,a.2.1,a.2.2.1,g_ b a.2.1.1 a.2.2.1 a.2.2.2),m):=by unfold iw;rw[br d];simp[cw,e]
def JV{a:n α}{b d:α}(g:e<c a):(a.set e b).getD e d=b:=by simp[al,g]
abbrev Dt(b:dG)(a:Int):Int×Int:=b.2.2.2.1.getD (a-1).toNat (0,0)
abbrev JM(j h:aq×Z)(k:dG)(i:fK)(b:dG)(l:dG)(d:Int×Int)(e g:Bool):n an:=
 let a:=i' j h++[.cells 35 (hY k),po i,.cells 35 (hY b),.cells 35 (hY b),.cells 35 (hY l)]
 match e,g with
 |false,_=>a
 |true,v=>a++[zT]
 |true,m=>a++[.cells 46 [.c (.int .i64 d.1),.c (.int .i64 d.2)]]
abbrev afq(a:dG)(b:Int)(d:(Int×Int)×Int)(e:Nat):y:=
 [aD 3 10,a1.C a.2.2.2.1,R b,R (b-1),iv [.int .i64 (Dt a b).1,.int .i64 (Dt a b).2],kl (Dt a b),ep a,bV (kw a),a1.C (kw a).2.2,mb d,mb d,kl d.1,R d.2,aD 8 0,.any,R d.2].getD e .any
def V0(l h:aq×Z)(o w:Nat)(i A:Nat->Int)(M:Bytes i)(_:Bytes A)(_:o<=9223372036854775807)(_:w<=9223372036854775807):Y (ag.aJ T) 3 [aw (.C v 1 o (ni i)),aw (.C v 1 w (ni A))] (i' l h) (bh m) (i' l h):=by
 refine Y.K func3 rfl λR=>?_;by_cases S:1048576<o
 .exact Pm
 by_cases N:1048576<w
 .exact Rq
 refine a6 [-19,-23] a bW (g.a8 (I1 o i M x) [] a bm ?_);intro r;have k:=r.do;generalize r.a=J at *;generalize r.fD=aj at *;refine aZ a C (g.aC k.bc [] a (aZ a C (g.aC (k.a_ l h) [0,1,2] a ?_)));have K:=k.hj (q:=ag.aJ T);have bz:a9 (ag.aJ T) [(8,d8 [ep (iw J aj).1,ep (iw J aj).1] (bh m)),(9,d8 [ep J] (bh (fa J)))]:=.cons (eg K) (.cons (eg k.ok) .nil);cases bT:fa J with
 |false=>
  exact Q2
 |true=>
 generalize iw J aj=bc at *;obtain⟨B,u,_⟩:=t0 bT;have aG:1<=1+(w:Int) % 2/\1+(w:Int) % 2<=2:=x;have t:=(Cn (aj:=(2,1+(w:Int) % 2,[],md,[])) k.eM).a_ l h;rw[Tw bT aG]at t;have Q:=Jo J (k.eM.dN x);have D:=CK (q:=ag.aJ T) (J.2.2.2.1.getD (1+(w:Int) % 2-1).toNat (0,0)) (kw J).2.2 (Mx (J:=J)).aP;have I:kw J=l5 J.2.1.1 J.2.2.1:=br bT;generalize s:g_ (1+(w:Int) % 2) J.2.1.1 J.2.2.1 J.2.2.2=d at t;generalize F:jt (J.2.2.2.1.getD (1+(w:Int) % 2-1).toNat (0,0)) (kw J).2.2=e at D;refine bf bz [-44,-50,-54] a (by simp[bT,a7];omega) (g.b0 t.tocF [0,1,2] a a a a E a a a bm a bm a ?_);rintro -;generalize O:1+(w:Int) % 2=dp at *;have b:a9 (ag.aJ T) [(11,d8 [ep J] (bV (kw J))),(10,d8 [kl (J.2.2.2.1.getD (dp-1).toNat (0,0)),a1.C (kw J).2.2] (mb e))]:=.cons (eg Q) (.cons (eg D) .nil);refine cK b a C ?_;refine g.cj b5 (afq J dp e) (ns (JM l h J aj bc.1 (J.1,J.2.1,J.2.2.1,d) e.1) 13 14) a a a a
  ⟨.a',.a',.a',.cD ba b (ck:=by simp[a7];omega),.cD ba b (ck:=by simp;omega),.a',.a',.cD ba b (ck:=by simp),.a',.cD ba b (ck:=by simp;rfl),.a',.a',.a',
   b4.fg a a (dS (bg:=[]) ba b (ao:=f _) a C),b4.fh a a (dS (bg:=[]) ba b (ao:=f _) a C),.a',C⟩ ?_
 intro y z;show g _ _ _ _ _ _ (JM l h J aj bc.1 (J.1,J.2.1,J.2.2.1,d) e.1 (y 13) (y 14));rw[z 13 b9,z 14 b9];have L:c d.1=2/\c d.2=2:=by rw[<-s];exact tq B u
 by_cases n:J.2.2.2.2.getD (dp-1).toNat 0=0
 rotate_left
 .have j:d=J.2.2.2:=by rw[<-s];exact bl n
  subst j;refine bf b [93,95] a ?_ (g.aM [0,1,2] a ?_ oy)
  .simp only[U,a7,u,a'];and_intros<;>first|omega|exact iI.2 n
  simp
 have j:d=(J.2.2.2.1.set (dp-1).toNat e.1,J.2.2.2.2.set (dp-1).toNat e.2):=by rw[<-s,<-F,I];exact br n
 subst j;refine bf b [-93,111,121,131] a ?_ (g.aM [0,1,2] a ?_ oy)
 .have av:(dp-1).toNat<2:=x;have G:(J.2.2.2.1.set (dp-1).toNat e.1).getD (dp-1).toNat a1.I=e.1:=JV x;have H:(J.2.2.2.2.set (dp-1).toNat e.2).getD (dp-1).toNat aC.I=e.2:=JV x;simp only[U,a7,B,u,G,H,fT,Bool.and_self,rq,a',a_];and_intros<;>first|omega|exact AL.2 n|rfl
 simp;rw[j_ x]
end R1
end Go.AM
