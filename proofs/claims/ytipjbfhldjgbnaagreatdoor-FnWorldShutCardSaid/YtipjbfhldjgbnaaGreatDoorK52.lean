import Derived.Test.YtipjbfhldjgbnaaGreatDoorA7
import Derived.Test.YtipjbfhldjgbnaaGreatDoorTie
import Derived.Test.YtipjbfhldjgbnaaGreatDoorCards
set_option linter.all false
set_option maxHeartbeats 8000000
open Go renaming Value → Z, TypeId → aq
open Option renaming some → f, none → p
open Bool renaming true → m, false → v
open Go.Proofs.Tryz renaming prog → T, checked → wA, f4 → pX
open Go.Proofs.YtipjbfhldjgbnaaGreatDoor.Rows renaming fnWorldShutRow → nT, fnWorldShutSpec → si
namespace Go.Proofs.YtipjbfhldjgbnaaGreatDoor
open Go.ChangeAt Go.RowKit
set_option maxRecDepth 100000
set_option maxHeartbeats 8000000
noncomputable def wx(os:Os){H:Type}(gS:aq×Z->H):=
 ChangeSpec.witness_shaped (C:=wA) (os:=os) (enc:=gS) (f:=4) (fn:=pX) (s:=si) (conds:=nT.domain) (apart:=v) (X:=λJ _=>laidMetH T nT.laid J) v (Go.AM.Kq T nT.laid 0 275 179 os) #[.slice p 0 0,.slice p 0 0] 8 (World.laidAll_os _ _ _) (World.shaped_of_ZipB bL bL) bL bL bL (laidMetH_of_parts (laidMet_of_run' 8 bL bL) bL)
noncomputable def lifted(os:Os)(w:os.Started)(H:Type)(gS:aq×Z->H):=
 Go.AM.Ks (O:=wA) (j:=2) (oB:=2) (gP:=3) (hn:=0) (iB:=179) (sb:=223) (sa:=275) (λaj i d t h=>match d,t with|[k,X],_=>Go.AM.R1.V1 aj i k.1 X.1 k.2 X.2 (h k E).1 (h X E).1 (h k E).2 (h X E).2) (r:=nT) (b:=si) (gS:=gS) w Tryz.func4 rfl rfl bL bL bL (ru bL) Tryz.underlying22 Tryz.underlying5 bL Tryz.underlying4 bL bL ⟨_,_,rfl⟩ (λI B ae t=>match I,t with|[k,X],_=>rfl)
  (wx os gS)
  (Dl:=2) (Dm:=1) (Dk:=0) a a a bL bL Tryz.underlying179 bL a a bL bL b9
theorem B5:joinedFacts T 4 pX si nT=m:=RG
theorem over:Rows.FnWorldShutSaid:=
 OpenClaim.holds_of_wide_leaving 4 pX a a a a a a a ⟨rfl,rfl,rfl,rfl,rfl⟩ a a a a a bL Tryz.func4 B5
  (ru bL) OR
  λos started H gS _=>lifted os started H gS
theorem fnWorldShut_proved:Rows.FnWorldShutCardSaid:=
 Go.AM.Nj .later [] [.data,.handle,.sentinel,.sentinel,.pinned] m (m,"fab6195a18551b071a0f38a2e8b85d32cb316badbeb87103fe2704d9d9441134") m over (λ_ t=>by cases t) bL (λ_ t=>by cases t) fnWorldShut_row_tie rfl ⟨rfl,rfl⟩ bL rfl
  (λae fn pu Dd=>by
   obtain rfl:ae=4:=ry ((show T.funcNamed "loop.example/depositary/laws.FnWorldShut"=f 4 by kernel_rfl).symm.trans pu) |>.symm
   obtain rfl:fn=pX:=(ry (Tryz.func4.symm.trans Dd)).symm;exact⟨by kernel_rfl,λu o w=>by
    have t:([22].all λbz=>!T.wantsStandIn bz)=m:=bL
    have:=uE w;simp[Tryz.params4]at this t;exact this▸t⟩)
  bL
#print axioms fnWorldShut_proved
end Go.Proofs.YtipjbfhldjgbnaaGreatDoor

