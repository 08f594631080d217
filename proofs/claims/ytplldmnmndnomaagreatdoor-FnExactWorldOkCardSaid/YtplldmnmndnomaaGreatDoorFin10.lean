/-
  For every input the law FnExactWorldOk returns true, and the input reads as it did: the tied card FnExactWorldOkCardSaid. No condition.
-/
import Derived.Test.YtplldmnmndnomaaGreatDoorA7
import Derived.Test.YtplldmnmndnomaaGreatDoorTie
import Derived.Test.YtplldmnmndnomaaGreatDoorCards
set_option linter.unusedVariables false
set_option linter.unusedSimpArgs false
set_option linter.defProp false
set_option linter.deprecated false
namespace Go.Proofs.YtplldmnmndnomaaGreatDoor
open Go.ChangeShapes Go.WideShapes Go.ChangeAt Go.RowKit
open Go.AM (cd Rd St.top)
theorem own:ownKnob Tryz.prog.godebug=none:=by kernel_rfl
theorem laidOut:laidOutB Tryz.prog=true:=by kernel_rfl
set_option maxRecDepth 100000 in
theorem lifted(os:Os)(a:os.Started)(H:Type)(enc:TypeId×Value->H) :
  ReturnsInLeavingWide {} Tryz.checked os 3 .any (λw args=>(Rows.fnExactWorldOkSpec.pre enc Tryz.prog Tryz.f3 Rows.fnExactWorldOkRow.domain false w args/\laidMetH Tryz.prog Rows.fnExactWorldOkRow.laid w)/\sizedMet enc Tryz.prog Tryz.f3 (OpenSpec.ofChange Rows.fnExactWorldOkSpec) false w args)
   (Rows.fnExactWorldOkSpec.post enc Tryz.prog Tryz.f3 false true false false):=by
 refine Go.AM.we (C:=Tryz.checked) (X:=λw _=>laidMetH Tryz.prog Rows.fnExactWorldOkRow.laid w) (λ_ _ _ K h=>h.of_heap K) own a Tryz.func3
  (ChangeSpec.witness_shaped (enc:=enc) (C:=Tryz.checked) (os:=os) (X:=λw _=>laidMetH Tryz.prog Rows.fnExactWorldOkRow.laid w) false (World.laidAll Tryz.prog os Rows.fnExactWorldOkRow.laid) #[.agg #[.int .i64 0,.slice none 0 0,.slice none 0 0,.slice none 0 0,.slice none 0 0,.slice none 0 0,.int .i64 0,.int .i64 0,.int .i64 0,.string .empty,.slice none 0 0,.slice none 0 0]] 8 (World.laidAll_os _ _ _)
   (World.shaped_of_ZipB (by kernel_rfl) (by kernel_rfl)) (by kernel_rfl) (by kernel_rfl) (by kernel_rfl)
   (by rw[MakeChecks.laidMetH_plain _ _ _ (by kernel_rfl)];exact laidMet_laidAll _ (by kernel_rfl) (by kernel_rfl))) ?_
 intro W base args ds gs before Iq hW;have c:∀ (j:Nat) t v,Tryz.f3.params[j]?=some t->args[j]?=some v->Value.okWide Tryz.prog W .any base t v:=Iq;have n:=hW;obtain⟨p,q,g,B,rfl,_,_⟩:=hW;have z:DataW.TrodAll enc Tryz.prog W 0 (λ_=>true) true Tryz.f3.params.toList args.toList ds p:=g
 rw[Tryz.params3] at z c;obtain⟨v0,I,L,E,F,N,u,rfl,rfl,A,r0⟩:=trodAll_cons z;obtain⟨rfl,rfl,rfl⟩:=trodAll_nil r0;obtain rfl:args=#[v0]:=by cases args;simp_all
 obtain⟨vs,rfl⟩:=Go.AM.yt Tryz.underlying34 (c 0 34 v0 rfl rfl);have D:=A;have y:∀ x∈F,x.block<W.heap.size:=by obtain⟨m,G⟩:=D;exact DataW.trod_lt m _ _ _ G
 clear g Iq;obtain⟨w,J⟩:=Go.AM.R1.JV.agg A;refine Go.AM.fK.O4 (vs:=[.agg vs.toArray]) (Go.AM.R1.pc w).Lc (by kernel_rfl) ⟨J,ab⟩ λ_ v s' hv _ k d=>?_
 have o:Rd s'.M v (.bool true):=hv;cases o;have e:Below W.heap.size W (s'.w.at d):=⟨k.os,k.tape,k.output,k.size,k.block⟩;obtain⟨l,i,rfl⟩:∃ l i,gs=[l,i]:=by
  have f:=B;rcases gs with _|⟨l,_|⟨i,_|⟨g3,r⟩⟩⟩
  ·exact f.elim
  ·obtain⟨_,_,_,_,_,_,_,_,_,_,h,_⟩:=f;exact h.elim
  ·exact⟨l,i,rfl⟩
  ·obtain⟨_,_,_,_,_,_,_,_,_,_,h,_⟩:=f;obtain⟨_,_,_,_,_,_,_,_,_,_,h,_⟩:=h;exact h.elim
 have s:DataW.TrodVars enc Tryz.prog (s'.w.at d) (λb=>decide (b<W.heap.size)) Rows.fnExactWorldOkSpec.vars [l,i] q:=Below.trodVars laidOut e (by kernel_rfl) B
 exact⟨_,_,_,[],_,_,n,trodAll_mk1 (shut_bool Tryz.underlying4 _),(trodAll_cons_mk (Below.trod laidOut (by kernel_rfl) (ki (by kernel_rfl)) D e y) trodAll_mk0),s,e.frame _,λh=>by cases h⟩
theorem over:Rows.FnExactWorldOkSaid :=
 OpenClaim.holds_of_wide_leaving 3 Tryz.f3 rfl rfl rfl rfl rfl rfl rfl ⟨rfl,rfl,rfl,rfl,rfl⟩ rfl rfl rfl rfl rfl (by kernel_rfl) Tryz.func3 (by kernel_rfl)
  (ki (by kernel_rfl)) (by unfold Func.isWrapper;first|(rw[ar (by decide +kernel)];kernel_rfl)|(rw[an (by decide +kernel)];exact⟨rfl,rfl⟩))
  (λos started H enc _=>lifted os started H enc)
theorem fnExactWorldOk_proved:Rows.FnExactWorldOkCardSaid :=
 Go.AM.Bg .later [] [.data,.sentinel,.sentinel,.pinned] true (true,"95accdc6bf664d8a123c9da541f668c7a0d8c89e0f8397b9bc59f7484d8c981c") false over (λ_ h=>by cases h) (by kernel_rfl) (λ_ h=>by cases h) fnExactWorldOk_row_tie rfl ⟨rfl,rfl⟩ (by kernel_rfl) rfl
  (λf fn hf OP=>by
   obtain rfl:f=3:=lb ((show Tryz.prog.funcNamed "loop.example/depositary/laws.FnExactWorldOk"=some 3 by kernel_rfl).symm.trans hf) |>.symm
   obtain rfl:fn=Tryz.f3:=(lb (Tryz.func3.symm.trans OP)).symm;exact⟨by kernel_rfl,λj t b=>by
    rw[Tryz.params3] at b;have c:t∈[34]:=by
     have:=nQ b;simp at this ⊢;exact this
    have a:([34].all λu=>!Tryz.prog.wantsStandIn u)=true:=by kernel_rfl
    exact(show Tryz.prog.wantsStandIn t=false by simpa using List.all_eq_true.1 a t c)⟩)
  (by kernel_rfl)
#print axioms fnExactWorldOk_proved
end Go.Proofs.YtplldmnmndnomaaGreatDoor

