import Derived.Test.YtmddllcadagmjaaGreatDoorA5
import Derived.Test.YtmddllcadagmjaaGreatDoorTie
import Derived.Test.YtmddllcadagmjaaGreatDoorCards
set_option linter.all false
set_option maxHeartbeats 8000000
open Go renaming Value → X, TypeId → ak
open Option renaming some → h, none → n
open Bool renaming true → l, false → v
open Go.Proofs.Tryz renaming prog → T, checked → wD, f4 → pR
open Go.Proofs.YtmddllcadagmjaaGreatDoor.Rows renaming fnWorldSweptRow → nR, fnWorldSweptSpec → si
namespace Go.Proofs.YtmddllcadagmjaaGreatDoor
open Go.ChangeAt Go.RowKit
set_option maxRecDepth 100000
set_option maxHeartbeats 8000000
noncomputable def wA(os:Os){H:Type}(g9:ak×X->H):=
 ChangeSpec.witness_shaped (C:=wD) (os:=os) (enc:=g9) (f:=4) (fn:=pR) (s:=si) (conds:=nR.domain) (apart:=v) (X:=λp _=>laidMetH T nR.laid p) v (Go.AM.KG T nR.laid 0 325 191 os) #[.slice n 0 0,.slice n 0 0] 8 (World.laidAll_os _ _ _) (World.shaped_of_ZipB bG bG) bG bG bG (laidMetH_of_parts (laidMet_of_run' 8 bG bG) bG)
noncomputable def lifted(os:Os)(x:os.Started)(H:Type)(g9:ak×X->H):=
 Go.AM.KI (M:=wD) (j:=2) (om:=2) (gP:=3) (hB:=0) (iM:=191) (sb:=273) (sa:=325) (λap i d s f=>match d,s with|[E,bv],_=>Go.AM.R1.Wt ap i E.1 bv.1 E.2 bv.2 (f E D).1 (f bv D).1 (f E D).2 (f bv D).2) (t:=nR) (b:=si) (g9:=g9) x Tryz.func4 rfl rfl bG bG bG (rn bG) Tryz.underlying22 Tryz.underlying5 bG Tryz.underlying4 bG bG ⟨_,_,rfl⟩ (λO C al s=>match O,s with|[E,bv],_=>rfl)
  (wA os g9)
  (Dn:=2) (Do:=1) (Dm:=0) a a a bG bG Tryz.underlying191 bG a a bG bG ca
theorem Ca:joinedFacts T 4 pR si nR=l:=R5
theorem over:Rows.FnWorldSweptSaid:=
 OpenClaim.holds_of_wide_leaving 4 pR a a a a a a a ⟨rfl,rfl,rfl,rfl,rfl⟩ a a a a a bG Tryz.func4 Ca
  (rn bG) O_
  λos started H g9 _=>lifted os started H g9
theorem fnWorldSwept_proved:Rows.FnWorldSweptCardSaid:=
 Go.AM.Nz .later [] [.data,.handle,.sentinel,.sentinel,.pinned] l (l,"ae4994c340a997818b973334035c299329d4fa43e828f9dd2e53dc77b57ddf6b") l over (λ_ s=>by cases s) bG (λ_ s=>by cases s) fnWorldSwept_row_tie rfl ⟨rfl,rfl⟩ bG rfl
  (λal fn pj De=>by
   obtain rfl:al=4:=sF ((show T.funcNamed "loop.example/depositary/laws.FnWorldSwept"=h 4 by kernel_rfl).symm.trans pj) |>.symm
   obtain rfl:fn=pR:=(sF (Tryz.func4.symm.trans De)).symm;exact⟨by kernel_rfl,λu o x=>by
    have s:([22].all λbA=>!T.wantsStandIn bA)=l:=bG
    have:=uI x;simp[Tryz.params4]at this s;exact this▸s⟩)
  bG
#print axioms fnWorldSwept_proved
end Go.Proofs.YtmddllcadagmjaaGreatDoor

