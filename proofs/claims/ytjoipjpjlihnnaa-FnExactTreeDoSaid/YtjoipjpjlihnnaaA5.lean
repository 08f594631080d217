/-
  Part 5 of a machine of values without memory, proved sound over the model, and of contracts of the functions that the laws reach. Nothing is taken for granted: no condition.
-/
import Derived.Test.YtjoipjpjlihnnaaA4
import Derived.ChangeArms
import Derived.DataReads
import Derived.Deep.Slices
set_option linter.unusedVariables false
/- The laws over drawn trees. -/
namespace Go.AM.R1
open Go.Proofs
variable {X : Cx Try.prog}

theorem t14 (hs : SortOK X) : EvT X 14 c21 := by
  intro args σ res σ' obs h ho
  unfold c21 at h
  split at h
  · split at h
    · cases h
    rename_i na ea ha
    split at h
    · cases h
    rename_i nb eb hb
    cases h
    exact (ev_treeDoI hs _ _).args (fun _ vs => RdDs.imp (fun _ => cF.arg_ok ha ho.1) (RdDs.imp (fun _ => cC.arg_ok hb ho.2) (fun _ r => r)) vs)
  · cases h
theorem t16 : EvT X 16 c18 := by
  intro args σ res σ' obs h ho
  unfold c18 at h
  split at h
  · split at h
    · cases h
    rename_i na ea ha
    split at h
    · cases h
    rename_i nb eb hb
    cases h
    exact (ev_treeDiffI _ _).args (fun _ vs => RdDs.imp (fun _ => cF.arg_ok ha ho.1) (RdDs.imp (fun _ => cF.arg_ok hb ho.2) (fun _ r => r)) vs)
  · cases h
theorem t11 : EvT X 11 c10 := by
  intro args σ res σ' obs h ho
  unfold c10 at h
  split at h
  · split at h
    · cases h
    rename_i na ea ha
    cases h
    exact (ev_treeGetI _ _).args (fun _ vs => RdDs.imp (fun _ => cF.arg_ok ha ho) (RdDs.imp (fun _ r => r) (fun _ r => r)) vs)
  · cases h
def ctL : List (Nat × CtF) := (14, c21) :: (16, c18) :: (11, c10) :: ct20
theorem cokL (hs : SortOK X) : COK X ctL := COK.cons (t14 hs) (COK.cons t16 (COK.cons t11 cok20))

/-- Changes make the one tree of the other. -/
def DiffDo : Prop := ∀ a b : List FileT, treeOk a = true → treeOk b = true → treeDo a (treeDiff a b) = some b

theorem ev_diffDo (hs : SortOK X) (law : DiffDo) (m : Nat) (b : Nat → Int) (hb : Bytes b) : Ev X 5 [.e (.one (.c (.sl false 1 m (bys b))))] [] (dB true) [] := by
  refine Ev.body Try.func5 rfl rfl rfl fun hf0 => ?_
  by_cases hm : 1048576 < m
  · refine AK.run2 foll tok COK.nil [(10, true)] 100 rfl ?_ (AK.ret0 rfl ?_)
    · simp [AllP]; omega
    · simp [AllP]
  refine AK.run2 foll tok COK.nil [(10, false)] 100 rfl ?_ ?_
  · simp [AllP]; omega
  refine AK.callEvI (ev_drawTreeDiff m b hb (by omega)) [] rfl rfl rfl rfl rfl rfl rfl (fun _ => rfl) rfl (fun _ => rfl) rfl ?_
  rintro ⟨⟨t, u⟩, hl1, hl2⟩
  simp only at hl1 hl2
  cases h1 : treeOk t with
  | false =>
    refine AK.run2 foll tok (cokL hs) [(23, true), (27, false)] 200 rfl ?_ (AK.ret0 rfl ?_)
    · simp [AllP, cF.list_fn, cF.fits_fn, cC.list_fn, cC.fits_fn, h1]
    · simp [AllP, cF.list_fn, cC.list_fn]
  | true =>
    cases h2 : treeOk u with
    | false =>
      refine AK.run2 foll tok (cokL hs) [(23, true), (27, true), (32, false)] 200 rfl ?_ (AK.ret0 rfl ?_)
      · simp [AllP, cF.list_fn, cF.fits_fn, cC.list_fn, cC.fits_fn, h1, h2]
      · simp [AllP, cF.list_fn, cC.list_fn]
    | true =>
      have hlaw := law t u h1 h2
      refine AK.run2 foll tok (cokL hs) [(23, true), (27, true), (32, true), (47, true)] 200 rfl ?_ (AK.ret0 rfl ?_)
      · simp [AllP, cF.list_fn, cF.fits_fn, cC.list_fn, cC.fits_fn, h1, h2, hlaw]
      · simp [AllP, cF.list_fn, cC.list_fn, hlaw]

/-- .. and back, with as many changes. -/
def DiffLen : Prop := ∀ a b : List FileT, treeOk a = true → treeOk b = true → (treeDiff b a).length = (treeDiff a b).length

theorem ev_diffBack (hs : SortOK X) (law : DiffDo) (law2 : DiffLen) (m : Nat) (b : Nat → Int) (hb : Bytes b) : Ev X 4 [.e (.one (.c (.sl false 1 m (bys b))))] [] (dB true) [] := by
  refine Ev.body Try.func4 rfl rfl rfl fun hf0 => ?_
  by_cases hm : 1048576 < m
  · refine AK.run2 foll tok COK.nil [(11, true)] 100 rfl ?_ (AK.ret0 rfl ?_)
    · simp [AllP]; omega
    · simp [AllP]
  refine AK.run2 foll tok COK.nil [(11, false)] 100 rfl ?_ ?_
  · simp [AllP]; omega
  refine AK.callEvI (ev_drawTreeDiff m b hb (by omega)) [] rfl rfl rfl rfl rfl rfl rfl (fun _ => rfl) rfl (fun _ => rfl) rfl ?_
  rintro ⟨⟨t, u⟩, hl1, hl2⟩
  simp only at hl1 hl2
  cases h1 : treeOk t with
  | false =>
    refine AK.run2 foll tok (cokL hs) [(24, true), (28, false)] 200 rfl ?_ (AK.ret0 rfl ?_)
    · simp [AllP, cF.list_fn, cF.fits_fn, cC.list_fn, cC.fits_fn, h1]
    · simp [AllP, cF.list_fn, cC.list_fn]
  | true =>
    cases h2 : treeOk u with
    | false =>
      refine AK.run2 foll tok (cokL hs) [(24, true), (28, true), (33, false)] 200 rfl ?_ (AK.ret0 rfl ?_)
      · simp [AllP, cF.list_fn, cF.fits_fn, cC.list_fn, cC.fits_fn, h1, h2]
      · simp [AllP, cF.list_fn, cC.list_fn]
    | true =>
      have hlaw := law u t h2 h1
      have hlen := law2 t u h1 h2
      refine AK.run2 foll tok (cokL hs) [(24, true), (28, true), (33, true), (51, true), (56, true)] 200 rfl ?_ (AK.ret0 rfl ?_)
      · simp [AllP, cF.list_fn, cF.fits_fn, cC.list_fn, cC.fits_fn, h1, h2, hlaw]
      · simp [AllP, cF.list_fn, hlen]

theorem ev_diffThree (hs : SortOK X) (law : DiffDo) (m : Nat) (b : Nat → Int) (hb : Bytes b) (m2 : Nat) (b2 : Nat → Int) (hb2 : Bytes b2) : Ev X 7 [.e (.one (.c (.sl false 1 m (bys b)))), .e (.one (.c (.sl false 1 m2 (bys b2))))] [] (dB true) [] := by
  refine Ev.body Try.func7 rfl rfl rfl fun hf0 => ?_
  by_cases hm : 1048576 < m
  · refine AK.run2 foll tok COK.nil [(15, true)] 100 rfl ?_ (AK.ret0 rfl ?_)
    · simp [AllP]; omega
    · simp [AllP]
  by_cases hm2 : 1048576 < m2
  · refine AK.run2 foll tok COK.nil [(15, false), (19, true)] 100 rfl ?_ (AK.ret0 rfl ?_)
    · simp [AllP]; omega
    · simp [AllP]
  refine AK.run2 foll tok COK.nil [(15, false), (19, false)] 100 rfl ?_ ?_
  · simp [AllP]; omega
  refine AK.callEvI (ev_drawTreeDiff m b hb (by omega)) [] rfl rfl rfl rfl rfl rfl rfl (fun _ => rfl) rfl (fun _ => rfl) rfl ?_
  rintro ⟨⟨t, u⟩, hl1, hl2⟩
  simp only at hl1 hl2
  cases h1 : treeOk t with
  | false =>
    refine AK.run2 foll tok (cokL hs) [(33, true), (37, false)] 200 rfl ?_ (AK.ret0 rfl ?_)
    · simp [AllP, cF.list_fn, cF.fits_fn, cC.list_fn, cC.fits_fn, h1]
    · simp [AllP, cF.list_fn, cC.list_fn]
  | true =>
    cases h2 : treeOk u with
    | false =>
      refine AK.run2 foll tok (cokL hs) [(33, true), (37, true), (42, false)] 200 rfl ?_ (AK.ret0 rfl ?_)
      · simp [AllP, cF.list_fn, cF.fits_fn, cC.list_fn, cC.fits_fn, h1, h2]
      · simp [AllP, cF.list_fn, cC.list_fn]
    | true =>
      refine AK.run2 foll tok (cokL hs) [(33, true), (37, true), (42, true)] 200 rfl ?_ ?_
      · simp [AllP, cF.list_fn, cF.fits_fn, cC.list_fn, cC.fits_fn, h1, h2]
      refine AK.callEvI (ev_drawTreeOk m2 b2 hb2 (by omega)) [] rfl rfl rfl rfl rfl rfl rfl (fun _ => rfl) rfl (fun _ => rfl) rfl ?_
      rintro ⟨c, hlc⟩
      cases h3 : treeOk c with
      | false =>
        refine AK.run2 foll tok (cokL hs) [(53, false)] 200 rfl ?_ (AK.ret0 rfl ?_)
        · simp [AllP, cF.list_fn, cF.fits_fn, treeOk_eq, h3]
        · simp [AllP]
      | true =>
        have hlaw := law t c h1 h3
        have hlaw2 := law c u h3 h2
        refine AK.run2 foll tok (cokL hs) [(53, true), (75, true), (80, true), (83, true)] 200 rfl ?_ (AK.ret0 rfl ?_)
        · simp [AllP, cF.list_fn, cF.fits_fn, cC.list_fn, cC.fits_fn, treeOk_eq, h3, hlaw, hlaw2]
        · simp [AllP, cF.list_fn, cC.list_fn, hlaw, hlaw2]
end Go.AM.R1

/- The laws over drawn trees. -/
namespace Go.AM.R1
open Go.Proofs
variable {X : Cx Try.prog}


theorem cC_take {l : List ChangeT} {k : Nat} (h : k ≤ l.length) : cC.list k (cC.fn l) = l.take k := by
  apply List.ext_getElem
  · simp [Cod.list_length]; omega
  · intro i h1 h2
    have h3 : i < l.length := by simp at h2; omega
    simp [Cod.list, Cod.fn, slF, List.getD_eq_getElem?_getD, List.getElem?_eq_getElem h3, cC.inv]

theorem cC_drop {l : List ChangeT} {k : Nat} : cC.list (l.length - k) (offF k (cC.fn l)) = l.drop k := by
  apply List.ext_getElem
  · simp [Cod.list_length]
  · intro i h1 h2
    have h3 : k + i < l.length := by simp at h2; omega
    simp [Cod.list, Cod.fn, slF, offF, List.getD_eq_getElem?_getD, List.getElem?_eq_getElem h3, cC.inv]

theorem cC_fits_off {l : List ChangeT} {k n : Nat} : cC.fits n (offF k (cC.fn l)) := fun i _ => by simp [Cod.fn, slF, offF, cC.inv]

theorem offF_zero (f : Nat → List C) : offF 0 f = f := by funext i; simp [offF]
theorem one102 (p x : Bs) (k : Int) : (cC.list 1 fun i => [[C.str p, C.int IntKind.i64 k, C.str x]].getD i []) = [(p, k, x)] := rfl
theorem fit102 (p x : Bs) (k : Int) : cC.fits 1 fun i => [[C.str p, C.int IntKind.i64 k, C.str x]].getD i [] := fun i hi => by
  obtain rfl : i = 0 := by omega
  rfl

/-- Done in two parts; and what is none cannot be. -/
def DoParts : Prop := ∀ (t : List FileT) (l : List ChangeT) (x : List FileT) (k : Nat), treeDo t l = some x → ∃ y, treeDo t (l.take k) = some y ∧ treeDo y (l.drop k) = some x ∧ treeOk x = true ∧ treeDo x [([102], 1, [])] = none

set_option maxRecDepth 20000 in
theorem ev_treeDoL (hs : SortOK X) (law : DoParts) (m : Nat) (b : Nat → Int) (hb : Bytes b) (m2 : Nat) (b2 : Nat → Int) (hb2 : Bytes b2) : Ev X 6 [.e (.one (.c (.sl false 1 m (bys b)))), .e (.one (.c (.sl false 1 m2 (bys b2))))] [] (dB true) [] := by
  refine Ev.body Try.func6 rfl rfl rfl fun hf0 => ?_
  by_cases hm : 1048576 < m
  · refine AK.run2 foll tok COK.nil [(20, true)] 100 rfl ?_ (AK.ret0 rfl ?_)
    · simp [AllP]; omega
    · simp [AllP]
  by_cases hm2 : 1048576 < m2
  · refine AK.run2 foll tok COK.nil [(20, false), (24, true)] 100 rfl ?_ (AK.ret0 rfl ?_)
    · simp [AllP]; omega
    · simp [AllP]
  refine AK.run2 foll tok COK.nil [(20, false), (24, false)] 100 rfl ?_ ?_
  · simp [AllP]; omega
  refine AK.callEvI (ev_drawTreeDo m b hb (by omega)) [] rfl rfl rfl rfl rfl rfl rfl (fun _ => rfl) rfl (fun _ => rfl) rfl ?_
  rintro ⟨⟨t, l⟩, hl1, hl2⟩
  simp only at hl1 hl2
  cases h : treeDo t l with
  | none =>
    refine AK.run2 foll tok (cokL hs) [(45, false), (49, true), (53, false), (58, true)] 200 rfl ?_ (AK.ret0 rfl ?_)
    · simp [AllP, cF.list_fn, cF.fits_fn, cC.list_fn, cC.fits_fn, h]
    · simp [AllP, cF.list_fn, cC.list_fn, h]
  | some x =>
    obtain ⟨y, hy1, hy2, hy3, hy4⟩ := law t l x (m2 % (l.length + 1)) h
    have hk : m2 % (l.length + 1) ≤ l.length := by have := Nat.mod_lt m2 (by omega : 0 < l.length + 1); omega
    have e1 : ((m2 : Int) % ((l.length : Int) + 1)) = ((m2 % (l.length + 1) : Nat) : Int) := by push_cast; rfl
    generalize m2 % (l.length + 1) = k at *
    refine AK.run2 foll tok (cokL hs) [(45, false), (49, true), (53, true), (94, true), (97, true), (102, true), (106, true)] 300 rfl ?_ (AK.ret0 rfl ?_)
    · simp [-List.getD_eq_getElem?_getD, AllP, cF.list_fn, cF.fits_fn, cC.list_fn, cC.fits_fn, h, e1, bndN, offF_zero, cC_take hk, cC_drop, cC_fits_off, hy1, hy2, hy4, one102, fit102, inR]
      omega
    · simp [-List.getD_eq_getElem?_getD, AllP, cF.list_fn, cC.list_fn, h, hy3, treeOk_eq]

set_option maxRecDepth 20000 in
theorem ev_changeNot (hs : SortOK X) (m : Nat) (b : Nat → Int) (hb : Bytes b) : Ev X 3 [.e (.one (.c (.sl false 1 m (bys b))))] [] (dB true) [] := by
  refine Ev.body Try.func3 rfl rfl rfl fun hf0 => ?_
  by_cases hm : 1048576 < m
  · refine AK.run2 foll tok COK.nil [(17, true)] 100 rfl ?_ (AK.ret0 rfl ?_)
    · simp [AllP]; omega
    · simp [AllP]
  refine AK.run2 foll tok COK.nil [(17, false)] 100 rfl ?_ ?_
  · simp [AllP]; omega
  refine AK.callEvI (ev_drawTreeGet m b hb (by omega)) [] rfl rfl rfl rfl rfl rfl rfl (fun _ => rfl) rfl (fun _ => rfl) rfl ?_
  rintro ⟨⟨t, p⟩, hl⟩
  simp only at hl
  cases h1 : treeOk t with
  | false =>
    refine AK.run2 foll tok (cokL hs) [(37, false), (41, false), (45, false), (55, true)] 200 rfl ?_ (AK.ret0 rfl ?_)
    · simp [AllP, cF.list_fn, cF.fits_fn, h1]
    · simp [AllP, cF.list_fn]
  | true =>
    cases h2 : pathOk p with
    | false =>
      refine AK.run2 foll tok (cokL hs) [(37, false), (41, false), (45, true), (50, false), (55, true)] 200 rfl ?_ (AK.ret0 rfl ?_)
      · simp [AllP, cF.list_fn, cF.fits_fn, h1, h2]
      · simp [AllP, cF.list_fn]
    | true =>
      have e0 : treeGet t p = getF t p := by simp [treeGet, h1]
      have n2 : treeDo t [(p, 2, (getF t p).getD [])] = none := by
        cases hg : getF t p <;> simp [treeDo, h1, doGo, doStep, canC, hg]
      have n3 : (treeDo t [(p, 3, [])]).isSome = (getF t p).isSome := by
        cases hg : getF t p <;> simp [treeDo, h1, doGo, doStep, canC, hg]
      cases hg : getF t p with
      | none =>
        rw [hg] at e0 n2 n3
        refine AK.run2 foll tok (cokL hs) [(37, false), (41, false), (45, true), (50, true), (87, false), (95, true)] 300 rfl ?_ (AK.ret0 rfl ?_)
        · simp [-List.getD_eq_getElem?_getD, AllP, cF.list_fn, cF.fits_fn, h1, h2, e0, one102, fit102]
          exact n2
        · simp [-List.getD_eq_getElem?_getD, AllP, cF.list_fn, e0, n3, one102]
      | some x =>
        have n1 : treeDo t [(p, 1, [113])] = none := by simp [treeDo, h1, doGo, doStep, canC, hg]
        rw [hg] at e0 n2 n3
        refine AK.run2 foll tok (cokL hs) [(37, false), (41, false), (45, true), (50, true), (87, true), (91, true), (95, true)] 300 rfl ?_ (AK.ret0 rfl ?_)
        · simp [-List.getD_eq_getElem?_getD, AllP, cF.list_fn, cF.fits_fn, h1, h2, e0, n1, one102, fit102]
          exact n2
        · simp [-List.getD_eq_getElem?_getD, AllP, cF.list_fn, e0, n3, one102]
end Go.AM.R1

/- Plain laws of changes: they make the one tree of the other; as many lead back; they are done in parts. -/
namespace Go.AM.R1

theorem getF_iff : ∀ {l : List FileT}, Sorted l → ∀ p x, getF l p = some x ↔ (p, x) ∈ l
  | [], _, p, x => by simp [getF]
  | f :: r, hs, p, x => by
    have hs' := List.pairwise_cons.1 hs
    simp only [getF]
    by_cases h : f.1 = p
    · simp only [h, beq_self_eq_true, if_true, Option.some.injEq, List.mem_cons]
      constructor
      · intro e; left; rw [← e, ← h]
      · rintro (e | e)
        · rw [← e]
        · have := hs'.1 _ e
          rw [h] at this
          exact absurd rfl (bl_ne this)
    · have hb : (f.1 == p) = false := by simpa using h
      rw [hb, if_neg (by simp), getF_iff hs'.2, List.mem_cons]
      constructor
      · exact .inr
      · rintro (e | e)
        · rw [← e] at h; exact absurd rfl h
        · exact e

theorem getF_ext {a b : List FileT} (ha : Sorted a) (hb : Sorted b) (h : ∀ p, getF a p = getF b p) : a = b := by
  refine List.Perm.eq_of_pairwise (le := fun x y : FileT => Op.bytesLess x.1 y.1 = true) (fun x y _ _ h1 h2 => ?_) ha hb ?_
  · rw [bl_asymm h1] at h2; cases h2
  · have nd : ∀ {l : List FileT}, Sorted l → l.Nodup := fun hl => hl.imp fun h e => by rw [e, bl_irrefl] at h; cases h
    refine (List.perm_ext_iff_of_nodup (nd ha) (nd hb)).2 fun x => ?_
    rw [← getF_iff ha x.1 x.2, ← getF_iff hb x.1 x.2, h]

theorem getF_drop {t : List FileT} (ht : Sorted t) (p q : Bs) : getF (dropF t p) q = if q = p then none else getF t q := by
  have hs : Sorted (dropF t p) := ht.filter _
  apply Option.ext
  intro x
  rw [getF_iff hs]
  simp only [dropF, List.mem_filter, Bool.not_eq_true', beq_eq_false_iff_ne, ne_eq]
  by_cases h : q = p
  · simp [h]
  · simp [h, getF_iff ht]

theorem getF_ins {t : List FileT} (ht : Sorted t) (f : FileT) (q : Bs) : getF (insF t f) q = if q = f.1 then some f.2 else getF t q := by
  apply Option.ext
  intro x
  rw [getF_iff (insF_sorted ht), insF_mem ht]
  by_cases h : q = f.1
  · simp [h, eq_comm]
  · simp [h, getF_iff ht]

theorem clash_comm (a b : Bs) : clash a b = clash b a := by
  unfold clash
  rw [Bool.eq_iff_iff]
  simp only [Bool.and_eq_true, bne_iff_ne, beq_iff_eq, ne_eq]
  constructor <;> rintro ⟨h1, h2⟩ <;> exact ⟨fun e => h1 e.symm, h2.symm⟩

theorem no_clash {c : List FileT} (h : treeOk c = true) {f g : FileT} (hf : f ∈ c) (hg : g ∈ c) : clash f.1 g.1 = false := by
  obtain ⟨_, _, h3, _⟩ := treeOk_iff.1 h
  obtain ⟨i, hi, rfl⟩ := List.getElem_of_mem hf
  obtain ⟨j, hj, rfl⟩ := List.getElem_of_mem hg
  rw [List.pairwise_iff_getElem] at h3
  rcases Nat.lt_trichotomy i j with h | h | h
  · exact h3 i j hi hj h
  · subst h; simp [clash]
  · rw [clash_comm]; exact h3 j i hj hi h

/-- Whose paths are those of a tree is a tree. -/
theorem sub_ok {T c : List FileT} (hc : treeOk c = true) (hs : Sorted T) (h : ∀ p x, getF T p = some x → textOk x = true ∧ (getF c p).isSome = true) : treeOk T = true := by
  have hsc := treeOk_sorted hc
  obtain ⟨c1, c2, c3, c4⟩ := treeOk_iff.1 hc
  have hin : ∀ f ∈ T, textOk f.2 = true ∧ ∃ y, (f.1, y) ∈ c := fun f hf => by
    obtain ⟨h1, h2⟩ := h f.1 f.2 ((getF_iff hs _ _).2 hf)
    obtain ⟨y, hy⟩ := Option.isSome_iff_exists.1 h2
    exact ⟨h1, y, (getF_iff hsc _ _).1 hy⟩
  refine treeOk_iff.2 ⟨fun f hf => ?_, hs, ?_, ?_⟩
  · obtain ⟨h1, y, hy⟩ := hin f hf
    exact ⟨(c1 _ hy).1, h1⟩
  · refine List.Pairwise.imp_of_mem (R := fun _ _ => True) (fun hf hg _ => ?_) (List.pairwise_of_forall (fun _ _ => trivial))
    obtain ⟨_, y, hy⟩ := hin _ hf
    obtain ⟨_, z, hz⟩ := hin _ hg
    exact no_clash (f := (_, y)) (g := (_, z)) hc hy hz
  · have nd : (T.map (·.1)).Nodup := by
      rw [List.Nodup, List.pairwise_map]
      exact hs.imp fun h => bl_ne h
    have := len_sub (l := c.map (·.1)) nd fun p hp => by
      obtain ⟨f, hf, rfl⟩ := List.mem_map.1 hp
      obtain ⟨_, y, hy⟩ := hin f hf
      exact List.mem_map.2 ⟨_, hy, rfl⟩
    simp at this; omega

theorem dels_go (b : List FileT) : ∀ (l T : List FileT), treeOk T = true → (∀ f ∈ l, (getF T f.1).isSome = true) → l.Pairwise (fun f g => f.1 ≠ g.1) →
    ∃ X, doGo T (dels l b) = some X ∧ treeOk X = true ∧ ∀ p, getF X p = if getF b p = none ∧ (∃ f ∈ l, f.1 = p) then none else getF T p
  | [], T, hT, _, _ => ⟨T, rfl, hT, fun p => by simp⟩
  | f :: r, T, hT, hin, hd => by
    have hd' := List.pairwise_cons.1 hd
    have hsT := treeOk_sorted hT
    have e : dels (f :: r) b = del1 b f ++ dels r b := rfl
    rw [e, doGo_append]
    cases hb : getF b f.1 with
    | some y =>
      have e1 : del1 b f = [] := by simp [del1, hb]
      rw [e1]
      obtain ⟨X, h1, h2, h3⟩ := dels_go b r T hT (fun g hg => hin g (by simp [hg])) hd'.2
      refine ⟨X, h1, h2, fun p => ?_⟩
      rw [h3 p]
      by_cases hp : f.1 = p
      · subst hp; simp [hb]
      · have : (∃ g ∈ f :: r, g.1 = p) ↔ ∃ g ∈ r, g.1 = p := by simp [hp]
        simp only [this]
    | none =>
      have e1 : del1 b f = [(f.1, 3, [])] := by simp [del1, hb]
      have hf := hin f (by simp)
      have e2 : doStep T (f.1, 3, []) = some (dropF T f.1) := by simp [doStep, canC, hf]
      have hT2 : treeOk (dropF T f.1) = true := treeOk_filter _ hT
      rw [e1]
      simp only [doGo, e2, Option.bind_some]
      obtain ⟨X, h1, h2, h3⟩ := dels_go b r (dropF T f.1) hT2 (fun g hg => by
        rw [getF_drop hsT, if_neg (Ne.symm (hd'.1 g hg))]; exact hin g (by simp [hg])) hd'.2
      refine ⟨X, h1, h2, fun p => ?_⟩
      rw [h3 p, getF_drop hsT]
      by_cases hp : p = f.1
      · subst hp; simp [hb]
      · have : (∃ g ∈ f :: r, g.1 = p) ↔ ∃ g ∈ r, g.1 = p := by simp [Ne.symm hp]
        simp only [this, hp, if_false]

theorem put_ok {b T : List FileT} (hb : treeOk b = true) (hT : treeOk T = true) (hk : ∀ p, (getF T p).isSome = true → (getF b p).isSome = true) {f : FileT} (hf : f ∈ b) : treePut T f.1 f.2 = (insF T f, true) ∧ treeOk (insF T f) = true := by
  obtain ⟨b1, _⟩ := treeOk_iff.1 hb
  have hsT := treeOk_sorted hT
  have hsb := treeOk_sorted hb
  obtain ⟨T1, _⟩ := treeOk_iff.1 hT
  have hok : treeOk (insF T f) = true := by
    refine sub_ok hb (insF_sorted hsT) fun p x hx => ?_
    rw [getF_ins hsT] at hx
    split at hx
    · rename_i e
      cases hx
      exact ⟨(b1 f hf).2, by rw [e, (getF_iff hsb f.1 f.2).2 hf]; rfl⟩
    · exact ⟨(T1 _ ((getF_iff hsT _ _).1 hx)).2, hk p (by rw [hx]; rfl)⟩
  refine ⟨?_, hok⟩
  unfold treePut
  rw [if_pos ⟨hT, (b1 f hf).1, (b1 f hf).2⟩, putF_insF f hsT, if_pos hok]

theorem news_go (a b : List FileT) (hb : treeOk b = true) : ∀ (l T : List FileT), treeOk T = true → (∀ p, (getF T p).isSome = true → (getF b p).isSome = true) → (∀ f ∈ l, f ∈ b) → (∀ f ∈ l, getF T f.1 = getF a f.1) → l.Pairwise (fun f g => f.1 ≠ g.1) →
    ∃ X, doGo T (news a l) = some X ∧ treeOk X = true ∧ ∀ p, getF X p = if (∃ f ∈ l, f.1 = p) then getF b p else getF T p
  | [], T, hT, _, _, _, _ => ⟨T, rfl, hT, fun p => by simp⟩
  | f :: r, T, hT, hk, hin, hag, hd => by
    have hd' := List.pairwise_cons.1 hd
    have hsT := treeOk_sorted hT
    have hsb := treeOk_sorted hb
    have e : news a (f :: r) = new1 a f ++ news a r := rfl
    have hfb := hin f (by simp)
    have hgb : getF b f.1 = some f.2 := (getF_iff hsb f.1 f.2).2 hfb
    have haf := hag f (by simp)
    rw [e, doGo_append]
    obtain ⟨p1, p2⟩ := put_ok hb hT hk hfb
    -- what the first change makes
    have step : ∃ T', doGo T (new1 a f) = some T' ∧ treeOk T' = true ∧ ∀ p, getF T' p = if p = f.1 then some f.2 else getF T p := by
      cases ha : getF a f.1 with
      | none =>
        rw [ha] at haf
        refine ⟨insF T f, ?_, p2, getF_ins hsT f⟩
        simp [new1, ha, doGo, doStep, canC, haf, p1]
      | some y =>
        rw [ha] at haf
        by_cases hy : y = f.2
        · subst hy
          refine ⟨T, by simp [new1, ha, doGo], hT, fun p => ?_⟩
          split
          · rename_i e; rw [e, haf]
          · rfl
        · refine ⟨insF T f, ?_, p2, getF_ins hsT f⟩
          simp [new1, ha, hy, doGo, doStep, canC, haf, p1]
    obtain ⟨T', t1, t2, t3⟩ := step
    rw [t1]
    simp only [Option.bind_some]
    obtain ⟨X, h1, h2, h3⟩ := news_go a b hb r T' t2 (fun p hp => by
      rw [t3] at hp
      split at hp
      · rename_i e; rw [e, hgb]; rfl
      · exact hk p hp) (fun g hg => hin g (by simp [hg])) (fun g hg => by
      rw [t3, if_neg (Ne.symm (hd'.1 g hg))]; exact hag g (by simp [hg])) hd'.2
    refine ⟨X, h1, h2, fun p => ?_⟩
    rw [h3 p, t3]
    by_cases hp : p = f.1
    · subst hp
      have hex : ∃ g ∈ f :: r, g.1 = f.1 := ⟨f, by simp, rfl⟩
      rw [if_pos hex, hgb]
      split <;> simp
    · have : (∃ g ∈ f :: r, g.1 = p) ↔ ∃ g ∈ r, g.1 = p := by simp [Ne.symm hp]
      simp only [this, hp, if_false]

theorem paths_ne {t : List FileT} (h : Sorted t) : t.Pairwise (fun f g => f.1 ≠ g.1) := h.imp fun h => bl_ne h

theorem diffDo : DiffDo := by
  intro a b ha hb
  have hsa := treeOk_sorted ha
  have hsb := treeOk_sorted hb
  obtain ⟨X, x1, x2, x3⟩ := dels_go b a a ha (fun f hf => by rw [(getF_iff hsa f.1 f.2).2 hf]; rfl) (paths_ne hsa)
  have hX : ∀ p, getF X p = if getF b p = none then none else getF a p := fun p => by
    rw [x3 p]
    by_cases h1 : getF b p = none
    · by_cases h2 : ∃ f ∈ a, f.1 = p
      · rw [if_pos ⟨h1, h2⟩, if_pos h1]
      · rw [if_neg (fun h => h2 h.2), if_pos h1]
        cases hg : getF a p with
        | none => rfl
        | some x => exact absurd ⟨(p, x), (getF_iff hsa p x).1 hg, rfl⟩ h2
    · rw [if_neg (fun h => h1 h.1), if_neg h1]
  obtain ⟨Y, y1, y2, y3⟩ := news_go a b hb b X x2 (fun p hp => by
    rw [hX] at hp
    split at hp
    · cases hp
    · rename_i h; exact Option.isSome_iff_ne_none.2 h) (fun f hf => hf) (fun f hf => by
    rw [hX, if_neg (by rw [(getF_iff hsb f.1 f.2).2 hf]; simp)]) (paths_ne hsb)
  have hY : Y = b := getF_ext (treeOk_sorted y2) hsb fun p => by
    rw [y3 p]
    split
    · rfl
    · rename_i h
      have : getF b p = none := by
        cases hg : getF b p with
        | none => rfl
        | some x => exact absurd ⟨(p, x), (getF_iff hsb p x).1 hg, rfl⟩ h
      rw [hX, if_pos this, this]
  rw [treeDo, if_pos ha, treeDiff, if_pos ⟨ha, hb⟩, doGo_append, x1]
  simp only [Option.bind_some, y1, hY]

/-! ### as many changes back -/

theorem len_split (b : List FileT) : ∀ a : List FileT, (dels a b).length = (a.filter fun f => (getF b f.1).isNone).length
  | [] => rfl
  | f :: r => by
    have e : dels (f :: r) b = del1 b f ++ dels r b := rfl
    rw [e, List.length_append, len_split b r, List.filter_cons]
    cases hb : getF b f.1 <;> simp [del1, hb]; omega

theorem len_news (a : List FileT) : ∀ b : List FileT, (news a b).length = (b.filter fun f => (getF a f.1).isNone).length + (b.filter fun f => (getF a f.1).isSome && !(getF a f.1 == some f.2)).length
  | [] => rfl
  | f :: r => by
    have e : news a (f :: r) = new1 a f ++ news a r := rfl
    rw [e, List.length_append, len_news a r, List.filter_cons, List.filter_cons]
    cases ha : getF a f.1 with
    | none => simp [new1, ha]; omega
    | some y =>
      by_cases hy : y = f.2
      · simp [new1, ha, hy]
      · simp [new1, ha, hy]; omega

/-- Which paths are in both, with other texts. -/
def diffP (a b : List FileT) : List Bs := (b.filter fun f => (getF a f.1).isSome && !(getF a f.1 == some f.2)).map (·.1)

theorem diffP_mem {a b : List FileT} (hb : Sorted b) (p : Bs) : p ∈ diffP a b ↔ (getF a p).isSome = true ∧ (getF b p).isSome = true ∧ getF a p ≠ getF b p := by
  simp only [diffP, List.mem_map, List.mem_filter, Bool.and_eq_true, Bool.not_eq_true', beq_eq_false_iff_ne, ne_eq]
  constructor
  · rintro ⟨f, ⟨hf, h1, h2⟩, rfl⟩
    have := (getF_iff hb f.1 f.2).2 hf
    exact ⟨h1, by rw [this]; rfl, by rw [this]; exact h2⟩
  · rintro ⟨h1, h2, h3⟩
    obtain ⟨x, hx⟩ := Option.isSome_iff_exists.1 h2
    exact ⟨(p, x), ⟨(getF_iff hb p x).1 hx, h1, by rw [← hx]; exact h3⟩, rfl⟩

theorem diffP_nodup {a b : List FileT} (hb : Sorted b) : (diffP a b).Nodup := by
  rw [diffP, List.Nodup, List.pairwise_map]
  exact (hb.filter _).imp fun h => bl_ne h

theorem diffLen : DiffLen := by
  intro a b ha hb
  have hsa := treeOk_sorted ha
  have hsb := treeOk_sorted hb
  rw [treeDiff, if_pos ⟨hb, ha⟩, treeDiff, if_pos ⟨ha, hb⟩, List.length_append, List.length_append, len_split, len_split, len_news, len_news]
  have hp : (diffP a b).Perm (diffP b a) := by
    refine (List.perm_ext_iff_of_nodup (diffP_nodup hsb) (diffP_nodup hsa)).2 fun p => ?_
    rw [diffP_mem hsb, diffP_mem hsa]
    constructor <;> rintro ⟨h1, h2, h3⟩ <;> exact ⟨h2, h1, fun e => h3 e.symm⟩
  have := hp.length_eq
  simp only [diffP, List.length_map] at this
  omega

/-! ### done in parts -/

theorem doStep_ok {t x : List FileT} {c : ChangeT} (ht : treeOk t = true) (h : doStep t c = some x) : treeOk x = true := by
  rw [doStep_eq ht] at h
  split at h
  · rename_i h1
    cases h
    simp only [Bool.and_eq_true] at h1
    exact h1.2
  · cases h

theorem doGo_ok : ∀ {l : List ChangeT} {t x : List FileT}, treeOk t = true → doGo t l = some x → treeOk x = true
  | [], t, x, ht, h => by cases h; exact ht
  | c :: l, t, x, ht, h => by
    simp only [doGo] at h
    split at h
    · rename_i y hy
      exact doGo_ok (doStep_ok ht hy) h
    · cases h

theorem doParts : DoParts := by
  intro t l x k h
  unfold treeDo at h
  split at h
  · rename_i ht
    have hx := doGo_ok ht h
    rw [← List.take_append_drop k l, doGo_append] at h
    cases hy : doGo t (l.take k) with
    | none => rw [hy] at h; cases h
    | some y =>
      rw [hy] at h
      have hyo := doGo_ok ht hy
      refine ⟨y, by rw [treeDo, if_pos ht, hy], by rw [treeDo, if_pos hyo]; exact h, hx, ?_⟩
      have hp : pathOk [102] = false := by decide
      have : (treePut x [102] []).2 = false := by
        unfold treePut
        rw [if_neg (by simp [hp])]
      rw [treeDo, if_pos hx]
      simp only [doGo]
      have : doStep x ([102], 1, []) = none := by
        unfold doStep
        simp [this]
      rw [this]
  · cases h
end Go.AM.R1

/- The law FnExactTreeDo. -/
namespace Go.AM.R1
open Go.Proofs
variable {X : Cx Try.prog}

theorem cC_gnd (t : List ChangeT) : ∀ i, i < t.length → (cC.fn t i).length = 3 ∧ ∀ c ∈ cC.fn t i, gndC c = true := by
  intro i _
  refine ⟨rfl, fun c hc => ?_⟩
  simp only [Cod.fn, slF, cC, List.mem_cons, List.not_mem_nil, or_false] at hc
  rcases hc with rfl | rfl | rfl <;> rfl

theorem ev_treeDoK (hs : SortOK X) (t : List FileT) (l : List ChangeT) : EvI (ι := { q : Buf × List Value // FlF ((treeDo t l).getD []) q.2 }) X 14 [cF.sl t, cC.sl l] [] (fun q => tKB q.1.1 ((treeDo t l).getD []).length (treeDo t l).isSome) (fun q => [bK q.1.1 ((treeDo t l).getD []).length q.1.2]) :=
  (ev_treeDoIB hs t l).thaw Try.func14 rfl (by simp [okThawD, okThawEs, okThawE, okThawA, gndA, gndC]) (cF_gnd _)

theorem treeDo_len {t : List FileT} {l : List ChangeT} : ((treeDo t l).getD []).length ≤ 6 := by
  cases h : treeDo t l with
  | none => simp
  | some x =>
    obtain ⟨y, _, _, hx, _⟩ := doParts t l x 0 h
    exact treeOk_len hx

set_option maxRecDepth 20000 in
set_option maxHeartbeats 2000000 in
theorem ev_exactTreeDo (hs : SortOK X) (a : List FileT) (l : List ChangeT) : Ev X 8 [cF.sl a, cC.sl l] [] (dB true) [] := by
  refine Ev.body Try.func8 rfl rfl rfl fun hf0 => ?_
  refine AK.run2 foll tok COK.nil [] 100 rfl trivial ?_
  refine AK.callEvI (ev_szFileS a 1048576 (by decide)) [] rfl rfl rfl rfl rfl rfl rfl (fun _ => rfl) rfl (fun _ => rfl) rfl ?_
  rintro ⟨r, r1, r2, r3⟩
  by_cases c1 : r < 0
  · refine AK.run2 foll tok COK.nil [(21, true)] 100 rfl ?_ (AK.ret0 rfl ?_)
    · simp [AllP, c1]
    · simp [AllP]
  have hn := r3 (by omega)
  refine AK.run2 foll tok COK.nil [(21, false)] 100 rfl ?_ ?_
  · simp [AllP, c1]
  refine AK.callEvI (ev_szChangeS l r (by omega)) [] rfl rfl rfl rfl rfl rfl rfl (fun _ => rfl) rfl (fun _ => rfl) rfl ?_
  rintro ⟨q, q1, q2, q3⟩
  by_cases c2 : q < 0
  · refine AK.run2 foll tok COK.nil [(26, true)] 100 rfl ?_ (AK.ret0 rfl ?_)
    · simp [AllP, c2]
    · simp [AllP]
  have hm := q3 (by omega)
  refine AK.run2 foll tok COK.nil [(26, false)] 100 rfl ?_ ?_
  · simp [AllP, c2]
  refine AK.callEv (ev_toFileSC a hn) [] rfl rfl rfl rfl rfl rfl rfl rfl rfl rfl rfl ?_
  refine AK.run2 foll tok COK.nil [] 100 rfl trivial ?_
  refine AK.callEv (ev_toChangeSC l hm) [] rfl rfl rfl rfl rfl rfl rfl rfl rfl rfl rfl ?_
  refine AK.callEv (ev_treeDo a l) [] rfl rfl rfl rfl rfl rfl rfl rfl rfl rfl rfl ?_
  have hgl := treeDo_len (t := a) (l := l)
  refine AK.run2 foll tok COK.nil [] 100 rfl trivial ?_
  refine AK.callEvI (ev_toFileS a hn) [] rfl rfl rfl rfl rfl rfl rfl (fun _ => rfl) rfl (fun _ => rfl) rfl ?_
  rintro ⟨⟨bf0, xs0⟩, fl0⟩
  refine AK.run2 foll tok COK.nil [] 100 rfl trivial ?_
  refine AK.callEvI (ev_toChangeS l hm) [] rfl rfl rfl rfl rfl rfl rfl (fun _ => rfl) rfl (fun _ => rfl) rfl ?_
  rintro ⟨⟨bf1, xs1⟩, fl1⟩
  refine AK.run2 foll tok COK.nil [] 100 rfl trivial ?_
  refine AK.callLendG (ev_treeDoK hs a l) rfl rfl rfl (((LendsAt.refl _ _).step 0 0 rfl (SBk.lends rfl (cF.fn a) fl0.rd)).step 1 1 rfl (SBk.lends rfl (cC.fn l) fl1.rd)) rfl ?_ rfl (fun _ => rfl) (fun _ => rfl) rfl ?_
  · simp [AllP, AllP.cat, EqF.same]
  rintro ⟨⟨bf2, xs2⟩, fl2⟩
  simp only at fl2 ⊢
  generalize hg : (treeDo a l).getD [] = g at hgl fl2 ⊢
  refine AK.run2 foll tok COK.nil [] 100 rfl trivial ?_
  refine AK.callLend (ev_eqFileS g g).toI 2 0 rfl rfl rfl rfl (SBk.lends rfl (cF.fn g) fl2.rd) rfl ?_ rfl (fun _ => rfl) (fun _ => rfl) rfl fun _ => ?_
  · simp [AllP, AllP.cat, EqF.same]
  refine AK.run2 foll tok COK.nil [(49, false), (52, false)] 100 rfl ?_ ?_
  · simp [AllP]
  refine AK.callEv (ev_toFileSC a hn) [] rfl rfl rfl rfl rfl rfl rfl rfl rfl rfl rfl ?_
  refine AK.callLend (ev_eqFileS a a).toI 0 0 rfl rfl rfl rfl (SBk.lends rfl (cF.fn a) fl0.rd) rfl ?_ rfl (fun _ => rfl) (fun _ => rfl) rfl fun _ => ?_
  · simp [AllP, AllP.cat, EqF.same]
  refine AK.run2 foll tok COK.nil [(58, false)] 100 rfl ?_ ?_
  · simp [AllP]
  refine AK.callEv (ev_toChangeSC l hm) [] rfl rfl rfl rfl rfl rfl rfl rfl rfl rfl rfl ?_
  refine AK.callLend (ev_eqChangeS l l).toI 1 0 rfl rfl rfl rfl (SBk.lends rfl (cC.fn l) fl1.rd) rfl ?_ rfl (fun _ => rfl) (fun _ => rfl) rfl fun _ => ?_
  · simp [AllP, AllP.cat, EqF.same]
  refine AK.run2 foll tok COK.nil [(63, false)] 100 rfl ?_ ?_
  · simp [AllP]
  refine AK.callEvI (ev_markFileS a 1 (by decide) hn bf0 xs0 fl0) [0] rfl rfl rfl rfl rfl rfl rfl (fun _ => rfl) rfl (fun _ => rfl) rfl ?_
  rintro ⟨ys0, _⟩
  refine AK.run2 foll tok COK.nil [] 100 rfl trivial ?_
  refine AK.callEvI (ev_markChangeS l.length (1 + 2 * a.length) (by omega) hm bf1 xs1) [1] rfl rfl rfl rfl rfl rfl rfl (fun _ => rfl) rfl (fun _ => rfl) rfl ?_
  intro ys1
  refine AK.run2 foll tok COK.nil [(71, false)] 100 rfl ?_ ?_
  · simp [AllP]; omega
  refine AK.callLend (ev_eqFileS g g).toI 2 0 rfl rfl rfl rfl (SBk.lends rfl (cF.fn g) fl2.rd) rfl ?_ rfl (fun _ => rfl) (fun _ => rfl) rfl fun _ => ?_
  · simp [AllP, AllP.cat, EqF.same]
  refine AK.run2 foll tok COK.nil [(78, false), (81, false)] 100 rfl ?_ ?_
  · simp [AllP]
  refine AK.callEvI (ev_markFileS g 1 (by decide) (by omega) bf2 xs2 fl2) [2] rfl rfl rfl rfl rfl rfl rfl (fun _ => rfl) rfl (fun _ => rfl) rfl ?_
  rintro ⟨ys2, fm⟩
  have fm' : FlatV 2 g.length (cF.fn (markF g 1)) ys2 := by have := fm; unfold FlF at this; rwa [markF_len] at this
  refine AK.run2 foll tok COK.nil [] 100 rfl trivial ?_
  have held := ev_heldFileS (X := X) g 1 (by decide) (by omega)
  refine AK.callLend held.toI 2 0 rfl rfl rfl rfl (SBk.lends rfl (cF.fn (markF g 1)) fm'.rd) rfl ?_ rfl (fun _ => rfl) (fun _ => rfl) rfl fun _ => ?_
  · simp [AllP, AllP.cat, EqF.same, markF_len]
  refine AK.run2 foll tok COK.nil [(90, false), (93, false)] 100 rfl ?_ ?_
  · simp [AllP]; omega
  refine AK.callEv (ev_toFileSC a hn) [] rfl rfl rfl rfl rfl rfl rfl rfl rfl rfl rfl ?_
  refine AK.run2 foll tok COK.nil [] 100 rfl trivial ?_
  refine AK.callEv (ev_toChangeSC l hm) [] rfl rfl rfl rfl rfl rfl rfl rfl rfl rfl rfl ?_
  refine AK.callEv (ev_treeDoI hs a l) [] rfl rfl rfl rfl rfl rfl rfl rfl rfl rfl rfl ?_
  rw [hg]
  refine AK.run2 foll tok COK.nil [] 100 rfl trivial ?_
  refine AK.callEv (ev_eqFileS g g) [] rfl rfl rfl rfl rfl rfl rfl rfl rfl rfl rfl ?_
  refine AK.run2 foll tok COK.nil [(106, false), (109, false)] 100 rfl ?_ ?_
  · simp [AllP]
  refine AK.callLend held.toI 2 0 rfl rfl rfl rfl (SBk.lends rfl (cF.fn (markF g 1)) fm'.rd) rfl ?_ rfl (fun _ => rfl) (fun _ => rfl) rfl fun _ => ?_
  · simp [AllP, AllP.cat, EqF.same, markF_len]
  refine AK.run2 foll tok COK.nil [(115, false), (118, false)] 100 rfl ?_ (AK.retB [] rfl ?_ rfl rfl rfl fix00)
  · simp [AllP]; omega
  · simp [AllP]
end Go.AM.R1

/- Bytes that came in; from the laws' contracts to the machine's calls. -/
namespace Go.AM.R1
open Go.Proofs

/-- How bytes lie that came in. -/
abbrev RowB (w : World) (a : Option Addr) (len cap : Nat) (zs : List Int) : Prop := (a = none ∧ len = 0 ∧ cap = 0 ∧ zs = []) ∨ ∃ x, a = some x ∧ len ≤ cap ∧ cap ≤ maxLen ∧ zs.length = cap ∧ (∀ i, i < zs.length → w.cell? (x.add i) = some (.int .u8 (zs.getD i 0))) ∧ ∀ n ∈ zs, (Lit.int .u8 n).wf = true

theorem codeD {w : World} {a : Option Addr} {len cap : Nat} {zs : List Int} (h : (a = none ∧ len = 0 ∧ cap = 0 ∧ zs = []) ∨ ∃ x, a = some x ∧ len ≤ cap ∧ cap ≤ maxLen ∧ zs.length = cap ∧ (∀ i, i < zs.length → w.cell? (x.add i) = some (.int .u8 (zs.getD i 0))) ∧ ∀ n ∈ zs, (Lit.int .u8 n).wf = true) :
    RdD [] (St.all w) (.slice a len cap) (.e (.one (.c (.sl false 1 len (bys fun i => zs.getD i 0))))) ∧ Bytes (fun i => zs.getD i 0) := by
  rcases h with ⟨rfl, rfl, rfl, rfl⟩ | ⟨x, rfl, hl, hm, hz, hc, hw⟩
  · exact ⟨Rd.nilSlice, fun i => by simp⟩
  · have hb : Bytes (fun i => zs.getD i 0) := fun i => by
      by_cases hi : i < zs.length
      · have := hw _ (List.getElem_mem hi)
        simp only [Lit.wf, Bool.and_eq_true, decide_eq_true_eq] at this
        simp only [List.getD_eq_getElem?_getD, List.getElem?_eq_getElem hi, Option.getD_some]
        have e1 : IntKind.u8.min = 0 := rfl
        have e2 : IntKind.u8.max = 255 := rfl
        omega
      · have : zs[i]? = none := List.getElem?_eq_none (by omega)
        simp [List.getD_eq_getElem?_getD, this]
    refine ⟨?_, hb⟩
    have hm' : cap ≤ 9223372036854775807 := hm
    show Rd _ _ _
    refine Rd.sl x.block x.off (fun i _ => .int .u8 (zs.getD i 0)) hl hm' (by simp) (fun i _ => rfl) (fun hn => ?_) (fun i hi j c hj => ?_) (fun i hi j c hj => ?_)
    · have h0 := hc 0 (by omega)
      obtain ⟨xb, xo, xs⟩ := x
      cases xs with
      | none => rfl
      | some q =>
        simp only [Addr.add, if_true, World.cell?] at h0
        split at h0
        · simp at h0
        · cases h0
    · have hi' : i < zs.length := by omega
      have h1 := hc i hi'
      cases j with
      | zero =>
        simp only [Nat.mul_one, Nat.add_zero, St.all]
        rw [← h1]
        by_cases e : i = 0
        · subst e
          simp only [Addr.add, if_true, World.cell?] at h1 ⊢
          split
          · rename_i c1 _ _ he
            rw [he] at h1
            simp only at h1 ⊢
            split at h1
            · cases h1
            · rename_i hsp; simp [hsp]
          · rfl
        · simp only [Addr.add, if_neg e]
      | succ j => simp [bys] at hj
    · cases j with
      | zero =>
        simp [bys] at hj
        subst hj
        exact .int (by have := hb i; simpa [inR] using this)
      | succ j => simp [bys] at hj

theorem callsOf1 {f : FuncId} (h : ∀ m b, Bytes b → Ev (Cx.lone Try.prog) f [.e (.one (.c (.sl false 1 m (bys b))))] [] (dB true) []) {w : World} {a : Option Addr} {len cap : Nat} {zs : List Int} (hr : (a = none ∧ len = 0 ∧ cap = 0 ∧ zs = []) ∨ ∃ x, a = some x ∧ len ≤ cap ∧ cap ≤ maxLen ∧ zs.length = cap ∧ (∀ i, i < zs.length → w.cell? (x.add i) = some (.int .u8 (zs.getD i 0))) ∧ ∀ n ∈ zs, (Lit.int .u8 n).wf = true) :
    Calls Try.prog f #[.slice a len cap] w fun e w' => e = .returned (.bool true) ∧ Go.RowKit.Below w.heap.size w w' := by
  obtain ⟨h1, h2⟩ := codeD hr
  refine EvI.calls (vs := [.slice a len cap]) (h len _ h2).toI ⟨h1, trivial⟩ fun _ v s' hv _ hb => ⟨?_, hb⟩
  have hv' : Rd s'.M v (.bool true) := hv
  cases hv'; rfl

theorem callsOf2 {f : FuncId} (h : ∀ m b, Bytes b → ∀ m2 b2, Bytes b2 → Ev (Cx.lone Try.prog) f [.e (.one (.c (.sl false 1 m (bys b)))), .e (.one (.c (.sl false 1 m2 (bys b2))))] [] (dB true) []) {w : World} {a : Option Addr} {len cap : Nat} {zs : List Int} (hr : (a = none ∧ len = 0 ∧ cap = 0 ∧ zs = []) ∨ ∃ x, a = some x ∧ len ≤ cap ∧ cap ≤ maxLen ∧ zs.length = cap ∧ (∀ i, i < zs.length → w.cell? (x.add i) = some (.int .u8 (zs.getD i 0))) ∧ ∀ n ∈ zs, (Lit.int .u8 n).wf = true)
    {a2 : Option Addr} {len2 cap2 : Nat} {zs2 : List Int} (hr2 : (a2 = none ∧ len2 = 0 ∧ cap2 = 0 ∧ zs2 = []) ∨ ∃ x, a2 = some x ∧ len2 ≤ cap2 ∧ cap2 ≤ maxLen ∧ zs2.length = cap2 ∧ (∀ i, i < zs2.length → w.cell? (x.add i) = some (.int .u8 (zs2.getD i 0))) ∧ ∀ n ∈ zs2, (Lit.int .u8 n).wf = true) :
    Calls Try.prog f #[.slice a len cap, .slice a2 len2 cap2] w fun e w' => e = .returned (.bool true) ∧ Go.RowKit.Below w.heap.size w w' := by
  obtain ⟨h1, h2⟩ := codeD hr
  obtain ⟨h3, h4⟩ := codeD hr2
  refine EvI.calls (vs := [.slice a len cap, .slice a2 len2 cap2]) (h len _ h2 len2 _ h4).toI ⟨h1, h3, trivial⟩ fun _ v s' hv _ hb => ⟨?_, hb⟩
  have hv' : Rd s'.M v (.bool true) := hv
  cases hv'; rfl

theorem diffDo_calls (a0 : Option Addr) (len0 cap0 : Nat) (z0 : List Int) (w : World) (h0 : RowB w a0 len0 cap0 z0) :
    Calls Try.prog 5 #[.slice a0 len0 cap0] w fun e w' => e = .returned (.bool true) ∧ Go.RowKit.Below w.heap.size w w' :=
  callsOf1 (fun m b hb => ev_diffDo sortOK diffDo m b hb) h0

theorem diffBack_calls (a0 : Option Addr) (len0 cap0 : Nat) (z0 : List Int) (w : World) (h0 : RowB w a0 len0 cap0 z0) :
    Calls Try.prog 4 #[.slice a0 len0 cap0] w fun e w' => e = .returned (.bool true) ∧ Go.RowKit.Below w.heap.size w w' :=
  callsOf1 (fun m b hb => ev_diffBack sortOK diffDo diffLen m b hb) h0

theorem changeNot_calls (a0 : Option Addr) (len0 cap0 : Nat) (z0 : List Int) (w : World) (h0 : RowB w a0 len0 cap0 z0) :
    Calls Try.prog 3 #[.slice a0 len0 cap0] w fun e w' => e = .returned (.bool true) ∧ Go.RowKit.Below w.heap.size w w' :=
  callsOf1 (fun m b hb => ev_changeNot sortOK m b hb) h0

theorem diffThree_calls (a0 : Option Addr) (len0 cap0 : Nat) (z0 : List Int) (a1 : Option Addr) (len1 cap1 : Nat) (z1 : List Int) (w : World) (h0 : RowB w a0 len0 cap0 z0) (h1 : RowB w a1 len1 cap1 z1) :
    Calls Try.prog 7 #[.slice a0 len0 cap0, .slice a1 len1 cap1] w fun e w' => e = .returned (.bool true) ∧ Go.RowKit.Below w.heap.size w w' :=
  callsOf2 (fun m b hb m2 b2 hb2 => ev_diffThree sortOK diffDo m b hb m2 b2 hb2) h0 h1

theorem treeDo_calls (a0 : Option Addr) (len0 cap0 : Nat) (z0 : List Int) (a1 : Option Addr) (len1 cap1 : Nat) (z1 : List Int) (w : World) (h0 : RowB w a0 len0 cap0 z0) (h1 : RowB w a1 len1 cap1 z1) :
    Calls Try.prog 6 #[.slice a0 len0 cap0, .slice a1 len1 cap1] w fun e w' => e = .returned (.bool true) ∧ Go.RowKit.Below w.heap.size w w' :=
  callsOf2 (fun m b hb m2 b2 hb2 => ev_treeDoL sortOK doParts m b hb m2 b2 hb2) h0 h1

end Go.AM.R1

/- Slices of structs that came in. -/
namespace Go.AM.R1
open Go.Proofs
variable {H : Type} {enc : TypeId × Value → H} {W : World}

theorem noSpot {w : World} {a : Addr} {v : Value} (h : w.cell? (a.add 0) = some v) : a = ⟨a.block, a.off, none⟩ := by
  obtain ⟨b, o, s⟩ := a
  cases s with
  | none => rfl
  | some q =>
    simp only [Addr.add, if_true, World.cell?] at h
    split at h
    · simp at h
    · cases h

theorem cellAdd {w : World} {a : Addr} {n : Nat} {v : Value} (h : w.cell? (a.add n) = some v) : w.cell? ⟨a.block, a.off + n, none⟩ = some v := by
  by_cases e : n = 0
  · subst e
    have hs := noSpot h
    obtain ⟨b, o, s⟩ := a
    simp only [Addr.mk.injEq, true_and] at hs
    subst hs
    exact h
  · simpa only [Addr.add, if_neg e] using h

theorem two_of {α : Type} : ∀ {l : List α}, l.length = 2 → ∃ a b, l = [a, b]
  | [a, b], _ => ⟨a, b, rfl⟩
theorem three_of {α : Type} : ∀ {l : List α}, l.length = 3 → ∃ a b c, l = [a, b, c]
  | [a, b, c], _ => ⟨a, b, c, rfl⟩

set_option maxRecDepth 100000 in
theorem readFiles {a : Option Addr} {len cap : Nat} {d : DataW H} {p : List MemPlace} (h : DataW.Trod enc Try.prog W 0 (fun _ => true) true 45 (.slice a len cap) d p) : ∃ l : List FileT, RdD [] (St.all W) (.slice a len cap) (cF.sl l) := by
  obtain ⟨fuel, hf⟩ := h
  rcases DataW.trod_slice Try.underlying45 hf with ⟨hcs, _⟩ | ⟨x, n, c, elems, rest, m, _, hcs, _, _, hnc, hcm, hel, hget, _⟩
  · simp [Value.cells] at hcs
    obtain ⟨rfl, rfl, rfl⟩ := hcs
    exact ⟨[], Rd.nilSlice⟩
  · simp [Value.cells] at hcs
    obtain ⟨rfl, rfl, rfl⟩ := hcs
    have hC : Try.prog.cellsOf 82 = 2 := by kernel_rfl
    have hC9 : Try.prog.cellsOf 9 = 1 := by kernel_rfl
    have each : ∀ i, i < len → ∃ f : FileT, f.1.length ≤ 9223372036854775807 ∧ f.2.length ≤ 9223372036854775807 ∧ W.cell? (x.add (i * 2)) = some (bsV f.1) ∧ W.cell? (x.add (i * 2 + 1)) = some (bsV f.2) := by
      intro i hi
      have h1 := hget i hi
      rw [hC, List.getElem?_eq_getElem (by omega : i < elems.length)] at h1
      cases hc : W.cells? 0 (x.add (i * 2)) 2 with
      | none => rw [hc] at h1; cases h1
      | some cs =>
        rw [hc] at h1
        obtain ⟨_, hl, hat⟩ := World.cells?_some hc
        obtain ⟨ys, k, _, _, _, hys, hfl⟩ := DataW.trod_struct Try.underlying82 h1
        have f0 : DataW.trod enc Try.prog W 0 (fun _ => true) true k 9 ((cs.drop 0).take (Try.prog.cellsOf 9)) = ys[0]? := hfl 0 _ rfl
        have f1 : DataW.trod enc Try.prog W 0 (fun _ => true) true k 9 ((cs.drop 1).take (Try.prog.cellsOf 9)) = ys[1]? := hfl 1 _ rfl
        rw [hC9] at f0 f1
        obtain ⟨c0, c1, rfl⟩ := two_of hl
        obtain ⟨y0, y1, rfl⟩ := two_of hys
        simp only [List.drop_zero, List.take_succ_cons, List.take_zero, List.drop_succ_cons, List.getElem?_cons_zero, List.getElem?_cons_succ] at f0 f1
        obtain ⟨s0, q0, _, m0⟩ := DataW.trod_string Try.underlying9 f0
        obtain ⟨s1, q1, _, m1⟩ := DataW.trod_string Try.underlying9 f1
        have g0 := hat 0 (by omega)
        have g1 := hat 1 (by omega)
        rw [Go.Deep.add_add] at g0 g1
        simp only [List.cons.injEq, and_true] at q0 q1
        subst q0 q1
        refine ⟨(s0.data.toList, s1.data.toList), ?_, ?_, ?_, ?_⟩
        · simpa [maxLen] using m0
        · simpa [maxLen] using m1
        · simpa [bsV] using g0
        · simpa [bsV] using g1
    have hch : ∃ g : Nat → FileT, ∀ i, i < len → (g i).1.length ≤ 9223372036854775807 ∧ (g i).2.length ≤ 9223372036854775807 ∧ W.cell? (x.add (i * 2)) = some (bsV (g i).1) ∧ W.cell? (x.add (i * 2 + 1)) = some (bsV (g i).2) := by
      classical
      exact ⟨fun i => if hi : i < len then Classical.choose (each i hi) else ([], []), fun i hi => by simp only [dif_pos hi]; exact Classical.choose_spec (each i hi)⟩
    obtain ⟨g, hg⟩ := hch
    have hn : ∀ i, i < len → cF.fn ((List.range len).map g) i = [.str (g i).1, .str (g i).2] := fun i hi => by
      simp [Cod.fn, slF, cF, List.getD_eq_getElem?_getD, hi]
    refine ⟨(List.range len).map g, ?_⟩
    show Rd _ _ (.sl false 2 ((List.range len).map g).length _)
    rw [List.length_map, List.length_range]
    refine Rd.sl x.block x.off (fun i j => if j = 0 then bsV (g i).1 else bsV (g i).2) hnc hcm (by simp) (fun i hi => by rw [hn i hi]; rfl) (fun h0 => ?_) (fun i hi j c hj => ?_) (fun i hi j c hj => ?_)
    · have := (hg 0 h0).2.2.1
      rw [Nat.zero_mul] at this
      exact congrArg some (noSpot this)
    · rw [hn i hi] at hj
      obtain ⟨_, _, g1, g2⟩ := hg i hi
      rcases j with _ | _ | j
      · have := cellAdd g1
        simpa [St.all, Nat.add_assoc] using this
      · have := cellAdd g2
        simpa [St.all, Nat.add_assoc] using this
      · simp at hj
    · rw [hn i hi] at hj
      obtain ⟨g3, g4, _, _⟩ := hg i hi
      rcases j with _ | _ | j
      · simp at hj; subst hj; exact rd_bsV g3
      · simp at hj; subst hj; exact rd_bsV g4
      · simp at hj

set_option maxRecDepth 100000 in
theorem readChanges {a : Option Addr} {len cap : Nat} {d : DataW H} {p : List MemPlace} (h : DataW.Trod enc Try.prog W 0 (fun _ => true) true 46 (.slice a len cap) d p) : ∃ l : List ChangeT, RdD [] (St.all W) (.slice a len cap) (cC.sl l) := by
  obtain ⟨fuel, hf⟩ := h
  rcases DataW.trod_slice Try.underlying46 hf with ⟨hcs, _⟩ | ⟨x, n, c, elems, rest, m, _, hcs, _, _, hnc, hcm, hel, hget, _⟩
  · simp [Value.cells] at hcs
    obtain ⟨rfl, rfl, rfl⟩ := hcs
    exact ⟨[], Rd.nilSlice⟩
  · simp [Value.cells] at hcs
    obtain ⟨rfl, rfl, rfl⟩ := hcs
    have hC : Try.prog.cellsOf 84 = 3 := by kernel_rfl
    have hC3 : Try.prog.cellsOf 3 = 1 := by kernel_rfl
    have hC9 : Try.prog.cellsOf 9 = 1 := by kernel_rfl
    have each : ∀ i, i < len → ∃ f : ChangeT, f.1.length ≤ 9223372036854775807 ∧ f.2.2.length ≤ 9223372036854775807 ∧ inR .i64 f.2.1 ∧ W.cell? (x.add (i * 3)) = some (bsV f.1) ∧ W.cell? (x.add (i * 3 + 1)) = some (.int .i64 f.2.1) ∧ W.cell? (x.add (i * 3 + 2)) = some (bsV f.2.2) := by
      intro i hi
      have h1 := hget i hi
      rw [hC, List.getElem?_eq_getElem (by omega : i < elems.length)] at h1
      cases hc : W.cells? 0 (x.add (i * 3)) 3 with
      | none => rw [hc] at h1; cases h1
      | some cs =>
        rw [hc] at h1
        obtain ⟨_, hl, hat⟩ := World.cells?_some hc
        obtain ⟨ys, k, _, _, _, hys, hfl⟩ := DataW.trod_struct Try.underlying84 h1
        have f0 : DataW.trod enc Try.prog W 0 (fun _ => true) true k 9 ((cs.drop 0).take (Try.prog.cellsOf 9)) = ys[0]? := hfl 0 _ rfl
        have f1 : DataW.trod enc Try.prog W 0 (fun _ => true) true k 3 ((cs.drop 1).take (Try.prog.cellsOf 3)) = ys[1]? := hfl 1 _ rfl
        have f2 : DataW.trod enc Try.prog W 0 (fun _ => true) true k 9 ((cs.drop 2).take (Try.prog.cellsOf 9)) = ys[2]? := hfl 2 _ rfl
        rw [hC9] at f0 f2
        rw [hC3] at f1
        obtain ⟨c0, c1, c2, rfl⟩ := three_of hl
        obtain ⟨y0, y1, y2, rfl⟩ := three_of hys
        simp only [List.drop_zero, List.take_succ_cons, List.take_zero, List.drop_succ_cons, List.getElem?_cons_zero, List.getElem?_cons_succ] at f0 f1 f2
        obtain ⟨s0, q0, _, m0⟩ := DataW.trod_string Try.underlying9 f0
        obtain ⟨n1, q1, _, m1⟩ := DataW.trod_int Try.underlying3 f1
        obtain ⟨s2, q2, _, m2⟩ := DataW.trod_string Try.underlying9 f2
        have g0 := hat 0 (by omega)
        have g1 := hat 1 (by omega)
        have g2 := hat 2 (by omega)
        rw [Go.Deep.add_add] at g0 g1 g2
        simp only [List.cons.injEq, and_true] at q0 q1 q2
        subst q0 q1 q2
        refine ⟨(s0.data.toList, n1, s2.data.toList), ?_, ?_, ?_, ?_, ?_, ?_⟩
        · simpa [maxLen] using m0
        · simpa [maxLen] using m2
        · simp only [Lit.wf, Bool.and_eq_true, decide_eq_true_eq] at m1
          exact m1
        · simpa [bsV] using g0
        · simpa [bsV] using g1
        · simpa [bsV] using g2
    have hch : ∃ g : Nat → ChangeT, ∀ i, i < len → (g i).1.length ≤ 9223372036854775807 ∧ (g i).2.2.length ≤ 9223372036854775807 ∧ inR .i64 (g i).2.1 ∧ W.cell? (x.add (i * 3)) = some (bsV (g i).1) ∧ W.cell? (x.add (i * 3 + 1)) = some (.int .i64 (g i).2.1) ∧ W.cell? (x.add (i * 3 + 2)) = some (bsV (g i).2.2) := by
      classical
      exact ⟨fun i => if hi : i < len then Classical.choose (each i hi) else ([], 0, []), fun i hi => by simp only [dif_pos hi]; exact Classical.choose_spec (each i hi)⟩
    obtain ⟨g, hg⟩ := hch
    have hn : ∀ i, i < len → cC.fn ((List.range len).map g) i = [.str (g i).1, .int .i64 (g i).2.1, .str (g i).2.2] := fun i hi => by
      simp [Cod.fn, slF, cC, List.getD_eq_getElem?_getD, hi]
    refine ⟨(List.range len).map g, ?_⟩
    show Rd _ _ (.sl false 3 ((List.range len).map g).length _)
    rw [List.length_map, List.length_range]
    refine Rd.sl x.block x.off (fun i j => if j = 0 then bsV (g i).1 else if j = 1 then .int .i64 (g i).2.1 else bsV (g i).2.2) hnc hcm (by simp) (fun i hi => by rw [hn i hi]; rfl) (fun h0 => ?_) (fun i hi j c hj => ?_) (fun i hi j c hj => ?_)
    · have := (hg 0 h0).2.2.2.1
      rw [Nat.zero_mul] at this
      exact congrArg some (noSpot this)
    · rw [hn i hi] at hj
      obtain ⟨_, _, _, g1, g2, g3⟩ := hg i hi
      rcases j with _ | _ | _ | j
      · have := cellAdd g1
        simpa [St.all, Nat.add_assoc] using this
      · have := cellAdd g2
        simpa [St.all, Nat.add_assoc] using this
      · have := cellAdd g3
        simpa [St.all, Nat.add_assoc] using this
      · simp at hj
    · rw [hn i hi] at hj
      obtain ⟨g3, g4, g5, _, _⟩ := hg i hi
      rcases j with _ | _ | _ | j
      · simp at hj; subst hj; exact rd_bsV g3
      · simp at hj; subst hj; exact Rd.int g5
      · simp at hj; subst hj; exact rd_bsV g4
      · simp at hj
end Go.AM.R1
