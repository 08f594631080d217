/- Part 7. No condition. -/
import Derived.Test.YtpddeenenibhjaaGreatDoorA6
set_option linter.all false
set_option maxHeartbeats 8000000
open Go.Proofs
open Go renaming Value → aj, TypeId → aw, Frame → aV, Operand → aC, World → aA, Program → aO, Oper → aB, Goroutine → aq
open Bool renaming true → ab, false → ae
open Go.Proofs.Tryz renaming prog → ag
namespace Go.AM
variable {n k l b i j:Nat}{E:aw}{H:aj->(Nat->Option Obj)->Prop}{L:Array Bool}{M:Mem}{N:Nat}{P:aO}{S:aq->St->Prop}{c:Code}{g:aq}{o:aB}{s:St}{t:aw}{v:aj}{w:aA}{x y:aC}{α:Type}{η:aC->D}{ι:Type}{σ:List bm}{φ:Fr}{all:List aB}{jP:Array aw}{cap:List C}{cu:List D}{cs:List aV}{ds:List (Nat×Bool)}{es:Nat->List C}{fo:aC}{gs:Array aq}{obs:List Prop}{off:Nat}{op:BinOp}{ops:Array aB}{ps:List Prop}{rest:List aB}{s':St}{ty:aw}{val:Nat->Nat->aj}{vs:List aj}{w':aA}{xs:Array aC}{σ' σs:List bm}{res:ι->D}{σ1:ι->List bm}
variable {CT:List (Nat×dz)}{K:List It}{Qf:Post}{T:List (Nat×TI)}{ie:TI}
namespace R1
def xg(m:Nat)(b:Nat->Int)(v:Bytes b)(_:m<=9223372036854775807):Ev (Cx.beside ag) 7 [.e (.one (.c (.sl ae 1 m (yY b))))] [] (dB ab) []:=by
 refine Ev.bQ Tryz.func7 rfl λz=>?_;by_cases A:1048576<m
 .refine aX [(14,ab)] rfl (by simp;omega) (AK.bn rfl ?_);simp
 refine aX [(14,ae)] rfl (by simp;omega) ?_;refine AK.cP (ou m b v (by omega)) [] rfl (λ_=>rfl) ?_;rintro⟨⟨s,keep⟩,p,o⟩;simp only at p o;have f:=p.sz;have d:=p.sm;have k:=tN (X:=Cx.beside ag) 7 s keep f d.toZk;have j:=nB 7 s keep f d;refine bw rfl ar ?_;cases u:fp 7 s with
 |false =>
  have e:yj 7 s keep=(Ib,ae):=a9 (by rw[u];simp);rw[e]at k j;refine AK.cQ k [] rfl ?_;refine bw rfl ar ?_;refine AK.cQ j [] rfl ?_;have c1:bG (Cx.beside ag) [(11,pt [CZ Ib,CZ Ib] (dB ab))]:=.cons (rh (j7 Ib ⟨by simp,by simp,by simp,λx h=>absurd h (by simp),by simp⟩)) .nil;refine bt c1 [(38,ae),(44,ae),(47,ab),(51,ab)] rfl (by simp) (AK.bn rfl ?_);simp
 |true =>
  have i:=jl.1 u;rw[nC i]at k j;refine AK.cQ k [] rfl ?_;refine bw rfl ar ?_;refine AK.cQ j [] rfl ?_;have t:=ln 7 (mS s keep) (vl d f keep) (lW f keep);rw[sM i]at t;have q:=Mt (keep:=keep) i;have l:=jl.2 (Fg (keep:=keep) i);have n:=λy r=>Mv (keep:=keep) i (y:=y) r;have a:=pK f keep;have g:=Ff d f keep;have w:=Fa 7 (l5 s keep) s a.s2 f.s2 a.sn λy r=>n y r;have c1:bG (Cx.beside ag) [(11,pt [CZ (mS s keep),CZ (mS s keep)] (dB ab))]:=.cons (rh (j7 _ (lW f keep))) .nil;refine bt c1 [(38,ae),(44,ae),(47,ae)] rfl (by simp) ?_;refine AK.cQ t [] rfl ?_;have c2:bG (Cx.beside ag) [(19,GB),(15,GF),(14,pt [dI 7,nc (l5 s keep),nc s] (dB ab)),(20,qx)]:=.cons Mc (.cons Mj (.cons (rh w) (.cons tF .nil)));refine bt c2 [(63,ab),(70,ab),(76,ab),(86,ab)] rfl ?_ (AK.bn rfl ?_)
  .simp only[au,cP.list_fn,ee.list_fn,cH.list_fn,cI.list_fn,bx];and_intros<;>first|rfl|exact True.intro|exact cP.aJ _|exact ee.aJ _|exact cH.aJ _|exact cI.aJ _|exact a.s2|exact a.sn|exact a.p2|exact g.nm|exact g.aN|exact g|(simp[q];done)|omega
  .simp only[au,cP.list_fn,ee.list_fn,cH.list_fn];exact l
end R1
end Go.AM
