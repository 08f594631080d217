import Derived.Test.YtonljemllpgcbaaGreatDoorA7
import Derived.Test.YtonljemllpgcbaaGreatDoorTie
import Derived.Test.YtonljemllpgcbaaGreatDoorCards
set_option linter.all false
set_option maxHeartbeats 8000000
open Go renaming Value → X, TypeId → al
open Option renaming some → f, none → n
open Bool renaming true → l, false → v
open Go.Proofs.Tryz renaming prog → V, checked → wd, f4 → pF
open Go.Proofs.YtonljemllpgcbaaGreatDoor.Rows renaming fnWorldHonestRow → nL, fnWorldHonestSpec → r'
namespace Go.Proofs.YtonljemllpgcbaaGreatDoor
open Go.ChangeAt Go.RowKit
set_option maxRecDepth 100000
set_option maxHeartbeats 8000000
noncomputable def wa(os:Os){H:Type}(g3:al×X->H):=
 ChangeSpec.witness_shaped (C:=wd) (os:=os) (enc:=g3) (f:=4) (fn:=pF) (s:=r') (conds:=nL.domain) (apart:=v) (X:=λQ _=>laidMetH V nL.laid Q) v (Go.AM.J7 V nL.laid 0 254 158 os) #[.slice n 0 0] 8 (World.laidAll_os _ _ _) (World.shaped_of_ZipB bF bF) bF bF bF (laidMetH_of_parts (laidMet_of_run' 8 bF bF) bF)
noncomputable def lifted(os:Os)(w:os.Started)(H:Type)(g3:al×X->H):=
 Go.AM.J9 (K:=wd) (j:=1) (ob:=2) (gP:=3) (hv:=0) (iC:=158) (r4:=207) (r3:=254) (λau i d s h=>match d,s with|[D],_=>Go.AM.R1.VI au i D.1 D.2 (h D C).1 (h D C).2) (r:=nL) (b:=r') (g3:=g3) w Tryz.func4 rfl rfl bF bF bF (ra bF) Tryz.underlying22 Tryz.underlying5 bF Tryz.underlying4 bF bF ⟨_,_,rfl⟩ (λN B ak s=>match N,s with|[D],_=>rfl)
  (wa os g3)
  (CX:=2) (CY:=1) (CW:=0) a a a bF bF Tryz.underlying158 bF a a bF bF ca
theorem BK:joinedFacts V 4 pF r' nL=l:=Rp
theorem over:Rows.FnWorldHonestSaid:=
 OpenClaim.holds_of_wide_leaving 4 pF a a a a a a a ⟨rfl,rfl,rfl,rfl,rfl⟩ a a a a a bF Tryz.func4 BK
  (ra bF) Oo
  λos started H g3 _=>lifted os started H g3
theorem fnWorldHonest_proved:Rows.FnWorldHonestCardSaid:=
 Go.AM.MZ .later [] [.data,.handle,.sentinel,.sentinel,.pinned] l (l,"01a6d9c994e820199acc37456f68606aad65eee887a2ef03481ef2bea7591ea4") l over (λ_ s=>by cases s) bF (λ_ s=>by cases s) fnWorldHonest_row_tie rfl ⟨rfl,rfl⟩ bF rfl
  (λak fn o_ CN=>by
   obtain rfl:ak=4:=su ((show V.funcNamed "loop.example/depositary/laws.FnWorldHonest"=f 4 by kernel_rfl).symm.trans o_) |>.symm
   obtain rfl:fn=pF:=(su (Tryz.func4.symm.trans CN)).symm;exact⟨by kernel_rfl,λt o w=>by
    have s:([22].all λbx=>!V.wantsStandIn bx)=l:=bF
    have:=us w;simp[Tryz.params4]at this s;exact this▸s⟩)
  bF
#print axioms fnWorldHonest_proved
end Go.Proofs.YtonljemllpgcbaaGreatDoor

