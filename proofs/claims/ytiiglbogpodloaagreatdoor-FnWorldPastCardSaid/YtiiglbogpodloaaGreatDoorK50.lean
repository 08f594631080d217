import Derived.Test.YtiiglbogpodloaaGreatDoorA7
import Derived.Test.YtiiglbogpodloaaGreatDoorTie
import Derived.Test.YtiiglbogpodloaaGreatDoorCards
set_option linter.all false
set_option maxHeartbeats 8000000
open Go renaming Value → X, TypeId → an
open Option renaming some → f, none → n
open Bool renaming true → l, false → v
open Go.Proofs.Tryz renaming prog → S, checked → wB, f3 → pP
open Go.Proofs.YtiiglbogpodloaaGreatDoor.Rows renaming fnWorldPastRow → nW, fnWorldPastSpec → sl
namespace Go.Proofs.YtiiglbogpodloaaGreatDoor
open Go.ChangeAt Go.RowKit
set_option maxRecDepth 100000
set_option maxHeartbeats 8000000
noncomputable def wy(os:Os){H:Type}(g8:an×X->H):=
 ChangeSpec.witness_shaped (C:=wB) (os:=os) (enc:=g8) (f:=3) (fn:=pP) (s:=sl) (conds:=nW.domain) (apart:=v) (X:=λp _=>laidMetH S nW.laid p) v (Go.AM.KM S nW.laid 0 278 179 os) #[.slice n 0 0,.slice n 0 0] 8 (World.laidAll_os _ _ _) (World.shaped_of_ZipB bG bG) bG bG bG (laidMetH_of_parts (laidMet_of_run' 8 bG bG) bG)
noncomputable def lifted(os:Os)(x:os.Started)(H:Type)(g8:an×X->H):=
 Go.AM.KO (M:=wB) (j:=2) (ou:=2) (gP:=3) (hD:=0) (iK:=179) (se:=226) (sd:=278) (λak i d t h=>match d,t with|[E,bD],_=>Go.AM.R1.WB ak i E.1 bD.1 E.2 bD.2 (h E D).1 (h bD D).1 (h E D).2 (h bD D).2) (s:=nW) (b:=sl) (g8:=g8) x Tryz.func3 rfl rfl bG bG bG (rp bG) Tryz.underlying22 Tryz.underlying5 bG Tryz.underlying4 bG bG ⟨_,_,rfl⟩ (λO C aj t=>match O,t with|[E,bD],_=>rfl)
  (wy os g8)
  (Ds:=2) (Dt:=1) (Dr:=0) a a a bG bG Tryz.underlying179 bG a a bG bG b'
theorem Cb:joinedFacts S 3 pP sl nW=l:=Sd
theorem over:Rows.FnWorldPastSaid:=
 OpenClaim.holds_of_wide_leaving 3 pP a a a a a a a ⟨rfl,rfl,rfl,rfl,rfl⟩ a a a a a bG Tryz.func3 Cb
  (rp bG) Pt
  λos started H g8 _=>lifted os started H g8
theorem fnWorldPast_proved:Rows.FnWorldPastCardSaid:=
 Go.AM.NK .later [] [.data,.handle,.sentinel,.sentinel,.pinned] l (l,"df742f707da32d16b7be0f971f221435bf17019baaa08ea631de70813d5c6c0a") l over (λ_ t=>by cases t) bG (λ_ t=>by cases t) fnWorldPast_row_tie rfl ⟨rfl,rfl⟩ bG rfl
  (λaj fn pm Dj=>by
   obtain rfl:aj=3:=sG ((show S.funcNamed "loop.example/depositary/laws.FnWorldPast"=f 3 by kernel_rfl).symm.trans pm) |>.symm
   obtain rfl:fn=pP:=(sG (Tryz.func3.symm.trans Dj)).symm;exact⟨by kernel_rfl,λu o x=>by
    have t:([22].all λbz=>!S.wantsStandIn bz)=l:=bG
    have:=uF x;simp[Tryz.params3]at this t;exact this▸t⟩)
  bG
#print axioms fnWorldPast_proved
end Go.Proofs.YtiiglbogpodloaaGreatDoor

