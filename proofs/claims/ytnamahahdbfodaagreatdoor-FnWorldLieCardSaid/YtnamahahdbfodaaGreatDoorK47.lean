import Derived.Test.YtnamahahdbfodaaGreatDoorA7
import Derived.Test.YtnamahahdbfodaaGreatDoorTie
import Derived.Test.YtnamahahdbfodaaGreatDoorCards
set_option linter.all false
set_option maxHeartbeats 8000000
open Go renaming Value → Z, TypeId → av
open Option renaming some → h, none → n
open Bool renaming true → f, false → l
open Go.Proofs.Tryz renaming prog → V, checked → wn, f4 → pP
open Go.Proofs.YtnamahahdbfodaaGreatDoor.Rows renaming fnWorldLieRow → nL, fnWorldLieSpec → sb
namespace Go.Proofs.YtnamahahdbfodaaGreatDoor
open Go.ChangeAt Go.RowKit
set_option maxRecDepth 100000
set_option maxHeartbeats 8000000
noncomputable def wi(os:Os){H:Type}(gQ:av×Z->H):=
 ChangeSpec.witness_shaped (C:=wn) (os:=os) (enc:=gQ) (f:=4) (fn:=pP) (s:=sb) (conds:=nL.domain) (apart:=l) (X:=λQ _=>laidMetH V nL.laid Q) l (Go.AM.J1 V nL.laid 0 254 164 os) #[.slice n 0 0,.slice n 0 0] 8 (World.laidAll_os _ _ _) (World.shaped_of_ZipB bJ bJ) bJ bJ bJ (laidMetH_of_parts (laidMet_of_run' 8 bJ bJ) bJ)
noncomputable def lifted(os:Os)(x:os.Started)(H:Type)(gQ:av×Z->H):=
 Go.AM.J3 (N:=wn) (k:=2) (ol:=2) (gP:=3) (hl:=0) (iy:=164) (r6:=209) (r5:=254) (λai j d u i=>match d,u with|[o,X],_=>Go.AM.R1.Vr ai j o.1 X.1 o.2 X.2 (i o E).1 (i X E).1 (i o E).2 (i X E).2) (s:=nL) (b:=sb) (gQ:=gQ) x Tryz.func4 rfl rfl bJ bJ bJ (rl bJ) Tryz.underlying22 Tryz.underlying5 bJ Tryz.underlying4 bJ bJ ⟨_,_,rfl⟩ (λI C ae u=>match I,u with|[o,X],_=>rfl)
  (wi os gQ)
  (CZ:=2) (C0:=1) (CY:=0) a a a bJ bJ Tryz.underlying164 bJ a a bJ bJ ca
theorem BJ:joinedFacts V 4 pP sb nL=f:=Q'
theorem over:Rows.FnWorldLieSaid:=
 OpenClaim.holds_of_wide_leaving 4 pP a a a a a a a ⟨rfl,rfl,rfl,rfl,rfl⟩ a a a a a bJ Tryz.func4 BJ
  (rl bJ) Om
  λos started H gQ _=>lifted os started H gQ
theorem fnWorldLie_proved:Rows.FnWorldLieCardSaid:=
 Go.AM.MS .later [] [.data,.handle,.sentinel,.sentinel,.pinned] f (f,"cd40245afb584ac164b8384dfc68a2aba45ab23c129359342418e0917e64af82") f over (λ_ u=>by cases u) bJ (λ_ u=>by cases u) fnWorldLie_row_tie rfl ⟨rfl,rfl⟩ bJ rfl
  (λae fn pm CQ=>by
   obtain rfl:ae=4:=rn ((show V.funcNamed "loop.example/depositary/laws.FnWorldLie"=h 4 by kernel_rfl).symm.trans pm) |>.symm
   obtain rfl:fn=pP:=(rn (Tryz.func4.symm.trans CQ)).symm;exact⟨by kernel_rfl,λw q x=>by
    have u:([22].all λbz=>!V.wantsStandIn bz)=f:=bJ
    have:=uw x;simp[Tryz.params4]at this u;exact this▸u⟩)
  bJ
#print axioms fnWorldLie_proved
end Go.Proofs.YtnamahahdbfodaaGreatDoor

