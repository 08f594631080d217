/-
  For every input the law FnWorldIdle returns true, and the input reads as it did: the tied card FnWorldIdleCardSaid. No condition.
-/
import Derived.Test.YtnaddfhedinfmaaGreatDoorA6
import Derived.Test.YtnaddfhedinfmaaGreatDoorTie
import Derived.Test.YtnaddfhedinfmaaGreatDoorCards
set_option linter.all false
set_option maxHeartbeats 8000000
open Go renaming Value → Z, TypeId → av
open Option renaming some → h, none → q
open Bool renaming true → f, false → m
open Go.Proofs.Tryz renaming prog → V, checked → Nf, f3 → zz
open Go.Proofs.YtnaddfhedinfmaaGreatDoor.Rows renaming fnWorldIdleRow → wc, fnWorldIdleSpec → EB
namespace Go.Proofs.YtnaddfhedinfmaaGreatDoor
open Go.ChangeAt Go.RowKit
set_option maxRecDepth 100000
set_option maxHeartbeats 8000000
noncomputable def Ey(os:Os){H:Type}(jg:av×Z->H):=
 ChangeSpec.witness_shaped (C:=Nf) (os:=os) (enc:=jg) (f:=3) (fn:=zz) (s:=EB) (conds:=wc.domain) (apart:=m) (X:=λQ _=>laidMetH V wc.laid Q) m (Go.AM.Z5 V wc.laid 0 252 156 os) #[.slice q 0 0] 8 (World.laidAll_os _ _ _) (World.shaped_of_ZipB b0 b0) b0 b0 b0 (laidMetH_of_parts (laidMet_of_run' 8 b0 b0) b0)
noncomputable def lifted(os:Os)(x:os.Started)(H:Type)(jg:av×Z->H):=
 Go.AM.Z7 (N:=Nf) (k:=1) (pb:=2) (gP:=3) (hs:=0) (iS:=156) (tI:=205) (tH:=252) (λaj j d u i=>match d,u with|[l],_=>Go.AM.R1.Vg aj j l.1 l.2 (i l E).1 (i l E).2) (s:=wc) (b:=EB) (jg:=jg) x Tryz.func3 rfl rfl b0 b0 b0 (uq b0) Tryz.underlying22 Tryz.underlying5 b0 Tryz.underlying4 b0 b0 ⟨_,_,rfl⟩ (λI C ae u=>match I,u with|[l],_=>rfl)
  (Ey os jg)
  (JG:=2) (JH:=1) (JF:=0) a a a b0 b0 Tryz.underlying156 b0 a a b0 b0 b'
theorem Su:joinedFacts V 3 zz EB wc=f:=by simp only[joinedFacts,cF];and_intros<;>decide +kernel
theorem over:Rows.FnWorldIdleSaid:=
 OpenClaim.holds_of_wide_leaving 3 zz a a a a a a a ⟨rfl,rfl,rfl,rfl,rfl⟩ a a a a a b0 Tryz.func3 Su
  (uq b0) (by unfold Func.isWrapper;first|(rw[bs l9];kernel_rfl)|(rw[bm l9];exact⟨rfl,rfl⟩))
  λos started H jg _=>lifted os started H jg
theorem fnWorldIdle_proved:Rows.FnWorldIdleCardSaid:=
 Go.AM.aef .later [] [.data,.handle,.sentinel,.sentinel,.pinned] f (f,"6492a872746763c5919dda0eb6b9c0f07f1070bf98ca95e69210166d53adcef2") f over (λ_ u=>by cases u) b0 (λ_ u=>by cases u) fnWorldIdle_row_tie rfl ⟨rfl,rfl⟩ b0 rfl
  (λae fn rB Ys=>by
   obtain rfl:ae=3:=ut ((show V.funcNamed "loop.example/depositary/laws.FnWorldIdle"=h 3 by kernel_rfl).symm.trans rB) |>.symm
   obtain rfl:fn=zz:=(ut (Tryz.func3.symm.trans Ys)).symm;exact⟨by kernel_rfl,λw o x=>by
    have u:([22].all λbz=>!V.wantsStandIn bz)=f:=b0
    have:=wO x;simp[Tryz.params3]at this u;exact this▸u⟩)
  b0
#print axioms fnWorldIdle_proved
end Go.Proofs.YtnaddfhedinfmaaGreatDoor

