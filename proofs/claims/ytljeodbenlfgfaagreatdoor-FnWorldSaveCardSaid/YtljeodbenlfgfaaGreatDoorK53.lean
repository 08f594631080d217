/-
  For every input the law FnWorldSave returns true, and the input reads as it did: the tied card FnWorldSaveCardSaid. No condition.
-/
import Derived.Test.YtljeodbenlfgfaaGreatDoorA6
import Derived.Test.YtljeodbenlfgfaaGreatDoorTie
import Derived.Test.YtljeodbenlfgfaaGreatDoorCards
set_option linter.all false
set_option maxHeartbeats 8000000
open Go renaming Value → Y, TypeId → ao
open Option renaming some → f, none → n
open Bool renaming true → l, false → u
open Go.Proofs.Tryz renaming prog → V, checked → NM, f3 → zR
open Go.Proofs.YtljeodbenlfgfaaGreatDoor.Rows renaming fnWorldSaveRow → wt, fnWorldSaveSpec → E8
namespace Go.Proofs.YtljeodbenlfgfaaGreatDoor
open Go.ChangeAt Go.RowKit
set_option maxRecDepth 100000
set_option maxHeartbeats 8000000
noncomputable def E4(os:Os){H:Type}(jl:ao×Y->H):=
 ChangeSpec.witness_shaped (C:=NM) (os:=os) (enc:=jl) (f:=3) (fn:=zR) (s:=E8) (conds:=wt.domain) (apart:=u) (X:=λM _=>laidMetH V wt.laid M) u (Go.AM.Zt V wt.laid 0 275 166 os) #[.slice n 0 0] 8 (World.laidAll_os _ _ _) (World.shaped_of_ZipB bU bU) bU bU bU (laidMetH_of_parts (laidMet_of_run' 8 bU bU) bU)
noncomputable def lifted(os:Os)(w:os.Started)(H:Type)(jl:ao×Y->H):=
 Go.AM.Zv (O:=NM) (j:=1) (pj:=2) (gP:=3) (hB:=0) (i1:=166) (tL:=220) (tK:=275) (λaj i d s h=>match d,s with|[C],_=>Go.AM.R1.VR aj i C.1 C.2 (h C E).1 (h C E).2) (q:=wt) (b:=E8) (jl:=jl) w Tryz.func3 rfl rfl bU bU bU (uw bU) Tryz.underlying22 Tryz.underlying5 bU Tryz.underlying4 bU bU ⟨_,_,rfl⟩ (λK B al s=>match K,s with|[C],_=>rfl)
  (E4 os jl)
  (Kd:=2) (Ke:=1) (Kc:=0) a a a bU bU Tryz.underlying166 bU a a bU bU ca
theorem S1:joinedFacts V 3 zR E8 wt=l:=by simp only[joinedFacts,cl];and_intros<;>decide +kernel
theorem over:Rows.FnWorldSaveSaid:=
 OpenClaim.holds_of_wide_leaving 3 zR a a a a a a a ⟨rfl,rfl,rfl,rfl,rfl⟩ a a a a a bU Tryz.func3 S1
  (uw bU) (by unfold Func.isWrapper;first|(rw[bo Fh];kernel_rfl)|(rw[bl Fh];exact⟨rfl,rfl⟩))
  λos started H jl _=>lifted os started H jl
theorem fnWorldSave_proved:Rows.FnWorldSaveCardSaid:=
 Go.AM.adM .later [] [.data,.handle,.sentinel,.sentinel,.pinned] l (l,"383bcaf4cc2b6e2bca79db1fb06d721e2d55bbf602117e7645e23e3418ed9af6") l over (λ_ s=>by cases s) bU (λ_ s=>by cases s) fnWorldSave_row_tie rfl ⟨rfl,rfl⟩ bU rfl
  (λal fn rG YZ=>by
   obtain rfl:al=3:=w8 ((show V.funcNamed "loop.example/depositary/laws.FnWorldSave"=f 3 by kernel_rfl).symm.trans rG) |>.symm
   obtain rfl:fn=zR:=(w8 (Tryz.func3.symm.trans YZ)).symm;exact⟨by kernel_rfl,λt o w=>by
    have s:([22].all λbz=>!V.wantsStandIn bz)=l:=bU
    have:=w0 w;simp[Tryz.params3]at this s;exact this▸s⟩)
  bU
#print axioms fnWorldSave_proved
end Go.Proofs.YtljeodbenlfgfaaGreatDoor

