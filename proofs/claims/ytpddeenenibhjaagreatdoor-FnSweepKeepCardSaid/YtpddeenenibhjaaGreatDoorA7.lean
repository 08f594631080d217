/- Part 7. No condition. -/
import Derived.Test.YtpddeenenibhjaaGreatDoorA6
set_option linter.all false
set_option maxHeartbeats 8000000
open Go.Proofs
open Go renaming Value → aj, TypeId → aw, Frame → aV, Operand → aC, World → aA, Program → aO, Oper → aB, Goroutine → aq
open Bool renaming true → ab, false → ae
open Go.Proofs.Tryz renaming prog → ag
namespace Go.AM
variable {n k l b i j:Nat}{E:aw}{H:aj->(Nat->Option Obj)->Prop}{L:Array Bool}{M:Mem}{N:Nat}{P:aO}{S:aq->St->Prop}{c:Code}{g:aq}{o:aB}{s:St}{t:aw}{v:aj}{w:aA}{x y:aC}{α:Type}{η:aC->D}{ι:Type}{σ:List bm}{φ:Fr}{all:List aB}{jP:Array aw}{cap:List C}{cu:List D}{cs:List aV}{ds:List (Nat×Bool)}{es:Nat->List C}{fo:aC}{gs:Array aq}{obs:List Prop}{off:Nat}{op:BinOp}{ops:Array aB}{ps:List Prop}{rest:List aB}{s':St}{ty:aw}{val:Nat->Nat->aj}{vs:List aj}{w':aA}{xs:Array aC}{σ' σs:List bm}{res:ι->D}{σ1:ι->List bm}
variable {CT:List (Nat×dz)}{K:List It}{Qf:Post}{T:List (Nat×TI)}{ie:TI}
namespace R1
def uI(m:Nat)(b:Nat->Int)(u:Bytes b)(_:m<=9223372036854775807):Ev (Cx.beside ag) 4 [.e (.one (.c (.sl ae 1 m (yY b))))] [] (dB ab) []:=by
 refine Ev.bQ Tryz.func4 rfl λv=>?_;by_cases w:1048576<m
 .refine aX [(18,ab)] rfl (by simp;omega) (AK.bn rfl ?_);simp
 refine aX [(18,ae)] rfl (by simp;omega) ?_;refine AK.cP (ou m b u (by omega)) [] rfl (λ_=>rfl) ?_;rintro⟨⟨s,keep⟩,q,p⟩;simp only at q p;have f:=q.sz;have d:=q.sm;have l:=tN (X:=Cx.beside ag) 7 s keep f d.toZk;have n:=nB 7 s keep f d;refine bw rfl ar ?_;cases t:fp 7 s with
 |false =>
  have e:yj 7 s keep=(Ib,ae):=a9 (by rw[t];simp);rw[e]at l n;refine AK.cQ l [] rfl ?_;refine bw rfl ar ?_;refine AK.cQ n [] rfl ?_;have c1:bG (Cx.beside ag) [(11,pt [CZ Ib,CZ Ib] (dB ab))]:=.cons (rh (j7 Ib ⟨by simp,by simp,by simp,λx h=>absurd h (by simp),by simp⟩)) .nil;refine bt c1 [(42,ae),(48,ae),(51,ab),(55,ab)] rfl (by simp) (AK.bn rfl ?_);simp
 |true =>
  have o:=jl.1 t;rw[nC o]at l n;refine AK.cQ l [] rfl ?_;refine bw rfl ar ?_;refine AK.cQ n [] rfl ?_;have a:=pK f keep;have g:=Ff d f keep;have c1:bG (Cx.beside ag) [(11,pt [CZ (mS s keep),CZ (mS s keep)] (dB ab))]:=.cons (rh (j7 _ (lW f keep))) .nil;refine bt c1 [(42,ae),(48,ae),(51,ae)] rfl (by simp) ?_;have r:=ln 7 (mS s keep) (vl d f keep) (lW f keep);rw[sM o]at r;have k:=Fg (keep:=keep) o;have i:=nB 7 (l5 s keep) keep a g;rw[nC k]at i;have j:=ln 7 (mS (l5 s keep) keep) (vl g a keep) (lW a keep);rw[sM k,Ie o]at j;refine AK.cQ r [] rfl ?_;refine bw rfl ar ?_;refine AK.cQ i [] rfl ?_;refine bw rfl ar ?_;refine AK.cQ j [] rfl ?_;have c2:bG (Cx.beside ag) [(18,pt [nc (l5 s keep),nc (l5 s keep)] (dB ab))]:=.cons (rh (rl _ a)) .nil;refine bt c2 [(80,ab),(83,ab),(86,ab)] rfl (by simp) (AK.bn rfl ?_);simp
end R1
end Go.AM
