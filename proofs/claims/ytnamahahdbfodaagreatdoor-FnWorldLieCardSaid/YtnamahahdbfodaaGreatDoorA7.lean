/- Part 7. No condition. -/
import Derived.Test.YtnamahahdbfodaaGreatDoorA6
set_option linter.all false
set_option maxHeartbeats 8000000
open Go.Proofs
open Go.Proofs.Tryz
open Go renaming Value → Z, TypeId → av, World → au, Frame → aK, Operand → aB, Program → aI, Goroutine → ak, Oper → ap
open Bool renaming true → f, false → l
open Go.Proofs.Tryz renaming prog → V
namespace Go.AM
variable {k A:Nat}{i:Int}{d j e w:Nat}{W:av}{H:Z->(Nat->Option Obj)->Prop}{L:Array Bool}{bB:Mem}{D:Nat}{P:aI}{bq:ak->a5->Prop}{s:Code}{C:ak}{t:ap}{b:a5}{q:av}{aa:Z}{o X:aB}{α:Type}{η:aB->z}{ι:Type}{p:m an}{F:bH}{all:m ap}{dp:Array av}{cap:m N}{cR:m z}{k8:Nat->Option Obj}{ah:m aK}{bg:m (Nat×Bool)}{T:Nat->m N}{cP:aB}{gs:Array ak}{aP:m Nat}{cf:m Prop}{off:Nat}{op:BinOp}{aD:Array ap}{ab:m Prop}{bs:m ap}{az:a5}{ty:av}{val:Nat->Nat->Z}{B:m Z}{bi:au}{ag:Array aB}{ao dd:m an}{res:ι->z}{aM:ι->m an}
variable {CT:m (Nat×bL)}{ar:m ij}{be:fs}{ad:m (Nat×bv)}{a4:bv}
namespace R1
def S0{a:eT}(b:fY a=f){j:Int}{q:m c'}{d:dL}{cY:m Int}:iN a (3,j,q,d,cY)=((a.1,a.2.1,d,a.2.2.2),f):=by unfold iN;rw[br b];simp[cl]
def Vr(k i:av×Z)(m e:Nat)(j w:Nat->Int)(C:Bytes j)(_:Bytes w)(_:m<=9223372036854775807)(_:e<=9223372036854775807):Y (aj.aJ V) 4 [ax (.S l 1 m (qg j)),ax (.S l 1 e (qg w))] (iB k i) (bh f) (iB k i):=by
 refine Y.K func4 rfl λK=>?_;by_cases J:1048576<m
 .refine a6 [(19,f),(23,f)] a bV (g.aS [0,1,2] a ?_ nk);simp
 by_cases I:1048576<e
 .refine a6 [(19,l),(23,f)] a bV (g.aS [0,1,2] a ?_ nk);simp
 refine a6 [(19,l),(23,l)] a bV (g.a_ (Iz m j C y) [] a bl ?_);intro p;have d:=p.do;generalize p.a=b at *;generalize p.fA=ai at *;refine aZ a v (g.aF d.bc [] a (aZ a v (g.aF (d.a9 k i) [0,1,2] a ?_)));have A:=d.hi (r:=aj.aJ V);have s:a8 (aj.aJ V) [(8,ev [fq (iN b ai).1,fq (iN b ai).1] (bh f)),(9,ev [fq b] (bh (fY b)))]:=.cons (eI A) (.cons (eI d.ok) .nil);have z:=λD=>(B3 (ai:=D) d.d_).a9 k i;cases bU:fY b with
 |false=>
  generalize iN b ai=B at *;refine bf s [(44,l),(50,l),(54,f),(58,f)] a j3 (g.aS [0,1,2] a ?_ nk);simp
 |true=>
 generalize iN b ai=B at *;refine bf s [(44,l),(50,l),(54,l)] a j3 ?_;have u:∀(b:eT) (t:dL),fY b=f->fb (6000+240*8) b.2.1->Y (aj.aJ V) 7 [fq b,k' (3,0,[],t,[])] (iB k i) (v_ ((b.1,b.2.1,t,b.2.2.2),f)) (iB k i):=λb t bU d=>by rw[<-S0 bU (j:=0) (q:=[]) (cY:=[])];exact(B3 d).a9 k i
 refine g.bV (u b ((e:Int) % 5,(e:Int) % 4,(e:Int) % 3,[122,122]) bU d.d_).tocD [0,1,2] a a a a E a a a bl a bl a ?_;rintro -;refine cJ s a v (g.bV (u (b.1,b.2.1,((e:Int) % 5,(e:Int) % 4,(e:Int) % 3,[122,122]),b.2.2.2) kU bU d.d_).tocD [0,1,2] a a a a E a a a bl a bl a ?_);rintro -;have x:=W3 (b.1,b.2.1,kU,b.2.2.2) (d.d_.dY y);have F:D7 (b.1,b.2.1,kU,b.2.2.2)=b.2.1.1:=br bU;rw[F]at x;have o:a8 (aj.aJ V) [(10,ev [fQ b.2.1,fQ b.2.1] (bh f)),(11,ev [aA.S b.2.2.2.2,aA.S b.2.2.2.2] (bh f)),(12,ev [b1 b.2.1.1,b1 b.2.1.1] (bh f)),(13,ev [fq (b.1,b.2.1,kU,b.2.2.2)] (b1 b.2.1.1))]:=.cons (eI (IF b.2.1 d.d_.bc.dv)) (.cons (eI (ID _)) (.cons (eI (IE _ d.d_.bc.dv)) (.cons (eI x) .nil)));refine bf o [(87,f),(90,f),(97,f),(103,f),(110,f)] a (by simp;exact⟨⟨a,a,a⟩,a⟩) (g.aS [0,1,2] a ?_ nk);simp
end R1
end Go.AM
