/-
  For every input the law FnWorldDo returns true, and the input reads as it did: the tied card FnWorldDoCardSaid. No condition.
-/
import Derived.Test.YtmhapedlihpjoaaGreatDoorA6
import Derived.Test.YtmhapedlihpjoaaGreatDoorTie
import Derived.Test.YtmhapedlihpjoaaGreatDoorCards
set_option linter.all false
set_option maxHeartbeats 8000000
open Go renaming Value → aa, TypeId → av
open Option renaming some → h, none → q
open Bool renaming true → f, false → m
open Go.Proofs.Tryz renaming prog → V, checked → Nv, f3 → zK
open Go.Proofs.YtmhapedlihpjoaaGreatDoor.Rows renaming fnWorldDoRow → wo, fnWorldDoSpec → EV
namespace Go.Proofs.YtmhapedlihpjoaaGreatDoor
open Go.ChangeAt Go.RowKit
set_option maxRecDepth 100000
set_option maxHeartbeats 8000000
noncomputable def ES(os:Os){H:Type}(jp:av×aa->H):=
 ChangeSpec.witness_shaped (C:=Nv) (os:=os) (enc:=jp) (f:=3) (fn:=zK) (s:=EV) (conds:=wo.domain) (apart:=m) (X:=λQ _=>laidMetH V wo.laid Q) m (Go.AM.aaj V wo.laid 0 252 156 os) #[.slice q 0 0] 8 (World.laidAll_os _ _ _) (World.shaped_of_ZipB b3 b3) b3 b3 b3 (laidMetH_of_parts (laidMet_of_run' 8 b3 b3) b3)
noncomputable def lifted(os:Os)(x:os.Started)(H:Type)(jp:av×aa->H):=
 Go.AM.aal (N:=Nv) (k:=1) (pp:=2) (gP:=3) (hD:=0) (i7:=156) (tU:=205) (tT:=252) (λai j d u i=>match d,u with|[l],_=>Go.AM.R1.VA ai j l.1 l.2 (i l E).1 (i l E).2) (s:=wo) (b:=EV) (jp:=jp) x Tryz.func3 rfl rfl b3 b3 b3 (uD b3) Tryz.underlying22 Tryz.underlying5 b3 Tryz.underlying4 b3 b3 ⟨_,_,rfl⟩ (λI C ae u=>match I,u with|[l],_=>rfl)
  (ES os jp)
  (J0:=2) (J1:=1) (JZ:=0) a a a b3 b3 Tryz.underlying156 b3 a a b3 b3 cc
theorem SM:joinedFacts V 3 zK EV wo=f:=by simp only[joinedFacts,cp];and_intros<;>decide +kernel
theorem over:Rows.FnWorldDoSaid:=
 OpenClaim.holds_of_wide_leaving 3 zK a a a a a a a ⟨rfl,rfl,rfl,rfl,rfl⟩ a a a a a b3 Tryz.func3 SM
  (uD b3) (by unfold Func.isWrapper;first|(rw[bs md];kernel_rfl)|(rw[bm md];exact⟨rfl,rfl⟩))
  λos started H jp _=>lifted os started H jp
theorem fnWorldDo_proved:Rows.FnWorldDoCardSaid:=
 Go.AM.aez .later [] [.data,.handle,.sentinel,.sentinel,.pinned] f (f,"206e346ab689e85010a4da1202623fa04022cce7c172e23507117f06b466d8dd") f over (λ_ u=>by cases u) b3 (λ_ u=>by cases u) fnWorldDo_row_tie rfl ⟨rfl,rfl⟩ b3 rfl
  (λae fn rP YN=>by
   obtain rfl:ae=3:=uG ((show V.funcNamed "loop.example/depositary/laws.FnWorldDo"=h 3 by kernel_rfl).symm.trans rP) |>.symm
   obtain rfl:fn=zK:=(uG (Tryz.func3.symm.trans YN)).symm;exact⟨by kernel_rfl,λw o x=>by
    have u:([22].all λbC=>!V.wantsStandIn bC)=f:=b3
    have:=wW x;simp[Tryz.params3]at this u;exact this▸u⟩)
  b3
#print axioms fnWorldDo_proved
end Go.Proofs.YtmhapedlihpjoaaGreatDoor

