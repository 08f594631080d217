/-
  For every input the law FnWorldTwo returns true, and the input reads as it did: the tied card FnWorldTwoCardSaid. No condition.
-/
import Derived.Test.YtkpmoikakakhkaaGreatDoorA5
import Derived.Test.YtkpmoikakakhkaaGreatDoorTie
import Derived.Test.YtkpmoikakakhkaaGreatDoorCards
set_option linter.all false
set_option maxHeartbeats 8000000
open Go renaming Value → Y, TypeId → al
open Option renaming some → f, none → n
open Bool renaming true → l, false → v
open Go.Proofs.Tryz renaming prog → T, checked → NL, f3 → zL
open Go.Proofs.YtkpmoikakakhkaaGreatDoor.Rows renaming fnWorldTwoRow → wh, fnWorldTwoSpec → ET
namespace Go.Proofs.YtkpmoikakakhkaaGreatDoor
open Go.ChangeAt Go.RowKit
set_option maxRecDepth 100000
set_option maxHeartbeats 8000000
noncomputable def EP(os:Os){H:Type}(jl:al×Y->H):=
 ChangeSpec.witness_shaped (C:=NL) (os:=os) (enc:=jl) (f:=3) (fn:=zL) (s:=ET) (conds:=wh.domain) (apart:=v) (X:=λp _=>laidMetH T wh.laid p) v (Go.AM.ZA T wh.laid 0 277 177 os) #[.slice n 0 0,.slice n 0 0] 8 (World.laidAll_os _ _ _) (World.shaped_of_ZipB bU bU) bU bU bU (laidMetH_of_parts (laidMet_of_run' 8 bU bU) bU)
noncomputable def lifted(os:Os)(x:os.Started)(H:Type)(jl:al×Y->H):=
 Go.AM.ZC (N:=NL) (j:=2) (pb:=2) (gP:=3) (hB:=0) (i2:=177) (tI:=224) (tH:=277) (λaw i d t h=>match d,t with|[F,bF],_=>Go.AM.R1.VX aw i F.1 bF.1 F.2 bF.2 (h F D).1 (h bF D).1 (h F D).2 (h bF D).2) (s:=wh) (b:=ET) (jl:=jl) x Tryz.func3 rfl rfl bU bU bU (ut bU) Tryz.underlying22 Tryz.underlying5 bU Tryz.underlying4 bU bU ⟨_,_,rfl⟩ (λO C aj t=>match O,t with|[F,bF],_=>rfl)
  (EP os jl)
  (J_:=2) (J':=1) (J9:=0) a a a bU bU Tryz.underlying177 bU a a bU bU ca
theorem S5:joinedFacts T 3 zL ET wh=l:=by simp only[joinedFacts,ck];and_intros<;>decide +kernel
theorem over:Rows.FnWorldTwoSaid:=
 OpenClaim.holds_of_wide_leaving 3 zL a a a a a a a ⟨rfl,rfl,rfl,rfl,rfl⟩ a a a a a bU Tryz.func3 S5
  (ut bU) (by unfold Func.isWrapper;first|(rw[bo E5];kernel_rfl)|(rw[bj E5];exact⟨rfl,rfl⟩))
  λos started H jl _=>lifted os started H jl
theorem fnWorldTwo_proved:Rows.FnWorldTwoCardSaid:=
 Go.AM.adX .later [] [.data,.handle,.sentinel,.sentinel,.pinned] l (l,"a53ffae4b3b58333210fd28aeb6908d0b5748b8ca557b55047314aa2c5c85687") l over (λ_ t=>by cases t) bU (λ_ t=>by cases t) fnWorldTwo_row_tie rfl ⟨rfl,rfl⟩ bU rfl
  (λaj fn rD Y6=>by
   obtain rfl:aj=3:=w0 ((show T.funcNamed "loop.example/depositary/laws.FnWorldTwo"=f 3 by kernel_rfl).symm.trans rD) |>.symm
   obtain rfl:fn=zL:=(w0 (Tryz.func3.symm.trans Y6)).symm;exact⟨by kernel_rfl,λu o x=>by
    have t:([22].all λbz=>!T.wantsStandIn bz)=l:=bU
    have:=wU x;simp[Tryz.params3]at this t;exact this▸t⟩)
  bU
#print axioms fnWorldTwo_proved
end Go.Proofs.YtkpmoikakakhkaaGreatDoor

