/-
  For every input the law FnSaveSmall returns true, and the input reads as it did: the tied card FnSaveSmallCardSaid. No condition.
-/
import Derived.Test.YtbdgiagmgelcbaaGreatDoorA5
import Derived.Test.YtbdgiagmgelcbaaGreatDoorTie
import Derived.Test.YtbdgiagmgelcbaaGreatDoorCards
set_option linter.all false
set_option maxHeartbeats 8000000
open Go renaming Value → I, TypeId → ab
open Option renaming some → b, none → k
open Bool renaming true → i, false → m
open Go.Proofs.Tryz renaming prog → R, checked → I1, f3 → xz
open Go.Proofs.YtbdgiagmgelcbaaGreatDoor.Rows renaming fnSaveSmallRow → uy, fnSaveSmallSpec → BX
namespace Go.Proofs.YtbdgiagmgelcbaaGreatDoor
open Go.ChangeAt Go.RowKit
set_option maxRecDepth 100000
set_option maxHeartbeats 8000000
noncomputable def BU(os:Os){H:Type}(ik:ab×I->H):=
 ChangeSpec.witness_shaped (C:=I1) (os:=os) (enc:=ik) (f:=3) (fn:=xz) (s:=BX) (conds:=uy.domain) (apart:=m) (X:=λK _=>laidMetH R uy.laid K) m (Go.AM.Si R uy.laid 0 182 50 os) #[.slice k 0 0,.slice k 0 0] 8 (World.laidAll_os _ _ _) (World.shaped_of_ZipB bO bO) bO bO bO (laidMetH_of_parts (laidMet_of_run' 8 bO bO) bO)
noncomputable def lifted(os:Os)(t:os.Started)(H:Type)(ik:ab×I->H):=
 Go.AM.Sk (D:=I1) (p:=2) (nQ:=1) (gP:=2) (gQ:=0) (h6:=50) (r7:=124) (r6:=182) (λak j l n o=>match l,n with|[A,cd],_=>Go.AM.R1.PE ak j A.1 cd.1 A.2 cd.2 (o A Q).1 (o cd Q).1 (o A Q).2 (o cd Q).2) (u:=uy) (d:=BX) (ik:=ik) t Tryz.func3 rfl rfl bO bO bO (sN bO) Tryz.underlying22 Tryz.underlying5 bO Tryz.underlying4 bO bO ⟨_,_,rfl⟩ (λN X ac n=>match N,n with|[A,cd],_=>rfl)
  (BU os ik)
  (FY:=2) (F0:=1) (FW:=0) a a a bO bO Tryz.underlying50 bO a a bO bO cz
theorem Nk:joinedFacts R 3 xz BX uy=i:=by simp only[joinedFacts,ct];and_intros<;>decide +kernel
theorem over:Rows.FnSaveSmallSaid:=
 OpenClaim.holds_of_wide_leaving 3 xz a a a a a a a ⟨rfl,rfl,rfl,rfl,rfl⟩ a a a a a bO Tryz.func3 Nk
  (sN bO) (by unfold Func.isWrapper;first|(rw[bF xR];kernel_rfl)|(rw[bp xR];exact⟨rfl,rfl⟩))
  λos started H ik _=>lifted os started H ik
theorem fnSaveSmall_proved:Rows.FnSaveSmallCardSaid:=
 Go.AM.Wm .later [] [.data,.handle,.sentinel,.sentinel,.pinned] i (i,"045cb3a92088db3d1df3329da3d853ff2302490c3faf2bb6b6d99df740e29f59") i over (λ_ n=>by cases n) bO (λ_ n=>by cases n) fnSaveSmall_row_tie rfl ⟨rfl,rfl⟩ bO rfl
  (λac fn FR RO=>by
   obtain rfl:ac=3:=u7 ((show R.funcNamed "loop.example/depositary/laws.FnSaveSmall"=b 3 by kernel_rfl).symm.trans FR) |>.symm
   obtain rfl:fn=xz:=(u7 (Tryz.func3.symm.trans RO)).symm;exact⟨by kernel_rfl,λy w t=>by
    have n:([22].all λbk=>!R.wantsStandIn bk)=i:=bO
    have:=pK t;simp[Tryz.params3]at this n;exact this▸n⟩)
  bO
#print axioms fnSaveSmall_proved
end Go.Proofs.YtbdgiagmgelcbaaGreatDoor

