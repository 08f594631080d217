/-
  Part 3 of a machine of values without memory, proved sound over the model, and of contracts of the functions that the laws reach. Nothing is taken for granted: no condition.
-/
import Derived.Test.YtjoipjpjlihnnaaA2
import Derived.MapKept
import Derived.Lib.Bytealg
import Derived.Maps.RangeRun
set_option linter.unusedVariables false
namespace Go.AM

theorem RdDs.imp {σ : List Box} {s : St} {d d' : D} {ds ds' : List D} (h : ∀ v, RdD σ s v d → RdD σ s v d') (k : ∀ vs, RdDs σ s vs ds → RdDs σ s vs ds') : ∀ vs, RdDs σ s vs (d :: ds) → RdDs σ s vs (d' :: ds')
  | [], r => r.elim
  | v :: vs, r => ⟨h v r.1, k vs r.2⟩

abbrev dP (f : FileT) : D := .e (.agg [.c (.str f.1), .c (.str f.2)])
abbrev ChangeT := Bs × Int × Bs
abbrev dC (f : ChangeT) : D := .e (.agg [.c (.str f.1), .c (.int .i64 f.2.1), .c (.str f.2.2)])
def cC : Cod ChangeT := { k := 3, enc := fun f => [.str f.1, .int .i64 f.2.1, .str f.2.2], dec := fun cs => (strAt cs 0, intAt cs 1, strAt cs 2), dflt := ([], 0, []), inv := fun _ => rfl, len := fun _ => rfl }
abbrev tSB (a : Bs) (b : Bool) : D := .tup [.one (.c (.str a)), .one (.c (.bool b))]
abbrev tFB (a : List FileT) (b : Bool) : D := .tup [.one (.c (.sl false 2 a.length (cF.fn a))), .one (.c (.bool b))]

namespace R1
open Go.Proofs
variable {X : Cx Try.prog}
def c12 : CtF := fun args σ => match args, σ with
  | [da], [] => match slArg 2 da with
    | none => none
    | some (na, ea) => some (dB (treeOk (cF.list na ea)), [], [cF.fits na ea])
  | _, _ => none
theorem t12 : EvT X 12 c12 := by
  intro args σ res σ' obs h ho
  unfold c12 at h
  split at h
  · split at h
    · cases h
    rename_i na ea ha
    cases h
    exact (ev_treeOk _ ).args (fun _ vs => RdDs.imp (fun _ => cF.arg_ok ha ho) (fun _ r => r) vs)
  · cases h

def getF : List FileT → Bs → Option Bs
  | [], _ => none
  | f :: r, p => if f.1 == p then some f.2 else getF r p

theorem getF_at {t : List FileT} {p : Bs} : ∀ {i : Nat}, i < t.length → (∀ j, j < i → pth t j ≠ p) → pth t i = p → getF t p = some (txt t i) := by
  induction t with
  | nil => intro i h; simp at h
  | cons f r ih =>
    intro i h hn he
    cases i with
    | zero => simp [pth] at he; simp [getF, he, txt]
    | succ i =>
      have h0 : f.1 ≠ p := by have := hn 0 (by omega); simpa [pth] using this
      simp only [getF, beq_iff_eq, h0, if_false]
      exact ih (i := i) (by simpa using h) (fun j hj => by have := hn (j + 1) (by omega); simpa [pth] using this) (by simpa [pth] using he)

theorem getF_none {t : List FileT} {p : Bs} (h : ∀ j, j < t.length → pth t j ≠ p) : getF t p = none := by
  induction t with
  | nil => rfl
  | cons f r ih =>
    have h0 : f.1 ≠ p := by have := h 0 (by simp); simpa [pth] using this
    simp only [getF, beq_iff_eq, h0, if_false]
    exact ih (fun j hj => by have := h (j + 1) (by simpa using hj); simpa [pth] using this)

theorem ev_get (t : List FileT) (p : Bs) : Ev X 34 [cF.sl t, dS p] [] (tSB ((getF t p).getD []) (getF t p).isSome) [] := by
  refine Ev.body Try.func34 rfl rfl rfl fun hf => ?_
  have hlen := hf.sl 0 rfl
  refine AK.run2 foll tok COK.nil [] 100 rfl trivial ?_
  refine AK.loopE (fun i => i ≤ t.length ∧ ∀ j, j < i → pth t j ≠ p) (fun i : Nat => [(0, cF.sl t), (1, dS p), (6, dI i)]) (fun _ => []) (fun i => t.length - i) 0 rfl (by simp [AllP.cat, AllP, EqF]) ⟨by omega, by omega⟩ rfl ?_
  rintro i ⟨hi, hall⟩
  by_cases h : i < t.length
  · by_cases h1 : pth t i = p
    · refine AK.run2 foll tok COK.nil [(10, true), (19, true)] 100 rfl ?_ (AK.retIn (RetQ.zero rfl ?_))
      · simp [-List.getD_eq_getElem?_getD, AllP, h, pth_eq, h1]
      · have := getF_at h hall h1
        simp [-List.getD_eq_getElem?_getD, AllP.cat, AllP, this, txt_eq]
    · refine AK.run2 foll tok COK.nil [(10, true), (19, false)] 100 rfl ?_ (AK.again (i + 1) rfl ?_ ?_ ?_ rfl)
      · simp [-List.getD_eq_getElem?_getD, AllP, h, pth_eq, h1, inR]; omega
      · simp [AllP.cat, AllP, EqF]
      · refine ⟨by omega, fun j hj => ?_⟩
        rcases Nat.lt_succ_iff_lt_or_eq.1 hj with hj | rfl
        · exact hall j hj
        · exact h1
      · omega
  · refine AK.run2 foll tok COK.nil [(10, false)] 100 rfl (by simp [AllP]; omega) (AK.leave rfl rfl ?_)
    refine AK.run2 foll tok COK.nil [] 100 rfl trivial (AK.ret0 rfl ?_)
    have := getF_none (t := t) (p := p) (fun j hj => hall j (by omega))
    simp [AllP.cat, AllP, this]
def c34 : CtF := fun args σ => match args, σ with
  | [da, .e (.one (.c (.str b)))], [] => match slArg 2 da with
    | none => none
    | some (na, ea) => some (tSB ((getF (cF.list na ea) b).getD []) (getF (cF.list na ea) b).isSome, [], [cF.fits na ea])
  | _, _ => none
theorem t34 : EvT X 34 c34 := by
  intro args σ res σ' obs h ho
  unfold c34 at h
  split at h
  · split at h
    · cases h
    rename_i na ea ha
    cases h
    exact (ev_get _ _ ).args (fun _ vs => RdDs.imp (fun _ => cF.arg_ok ha ho) (RdDs.imp (fun _ r => r) (fun _ r => r)) vs)
  · cases h
def ct3 : List (Nat × CtF) := (12, c12) :: (34, c34) :: ct2
theorem cok3 : COK X ct3 := COK.cons t12 (COK.cons t34 (cok2))

def treeGet (t : List FileT) (p : Bs) : Option Bs := if treeOk t then getF t p else none

theorem ev_treeGet (t : List FileT) (p : Bs) : Ev X 10 [cF.sl t, dS p] [] (tSB ((treeGet t p).getD []) (treeGet t p).isSome) [] := by
  refine Ev.body Try.func10 rfl rfl rfl fun hf => ?_
  cases h : treeOk t with
  | true =>
    refine AK.run2 foll tok cok3 [(7, true)] 100 rfl ?_ (AK.ret0 rfl ?_)
    · simp [AllP, cF.list_fn, cF.fits_fn, h]
    · simp [AllP.cat, AllP, treeGet, h, cF.list_fn]
  | false =>
    refine AK.run2 foll tok cok3 [(7, false)] 100 rfl ?_ (AK.ret0 rfl ?_)
    · simp [AllP, cF.list_fn, cF.fits_fn, h]
    · simp [AllP.cat, AllP, treeGet, h]
def c10 : CtF := fun args σ => match args, σ with
  | [da, .e (.one (.c (.str b)))], [] => match slArg 2 da with
    | none => none
    | some (na, ea) => some (tSB ((treeGet (cF.list na ea) b).getD []) (treeGet (cF.list na ea) b).isSome, [], [cF.fits na ea])
  | _, _ => none
theorem t10 : EvT X 10 c10 := by
  intro args σ res σ' obs h ho
  unfold c10 at h
  split at h
  · split at h
    · cases h
    rename_i na ea ha
    cases h
    exact (ev_treeGet _ _ ).args (fun _ vs => RdDs.imp (fun _ => cF.arg_ok ha ho) (RdDs.imp (fun _ r => r) (fun _ r => r)) vs)
  · cases h
def ct4 : List (Nat × CtF) := (10, c10) :: ct3
theorem cok4 : COK X ct4 := COK.cons t10 (cok3)
end R1
end Go.AM

namespace Go.AM

theorem Cod.fn_push {α : Type} (c : Cod α) (l : List α) (x : α) : EqF (l.length + 1) (appF l.length (c.fn l) (fun i => [c.enc x].getD i [])) (c.fn (l ++ [x])) := by
  intro i hi
  unfold appF Cod.fn slF
  by_cases h : i < l.length
  · simp [h, List.getD_eq_getElem?_getD, List.getElem?_append_left h]
  · have e : i = l.length := by omega
    subst e
    simp [List.getD_eq_getElem?_getD]

theorem EqF.same {n : Nat} {f : Nat → List C} : EqF n f f := fun _ _ => rfl
theorem EqF.nil {f g : Nat → List C} : EqF 0 f g := fun i h => by omega

namespace R1
open Go.Proofs
variable {X : Cx Try.prog}

def canC (t : List FileT) (c : ChangeT) : Bool :=
  if c.2.1 = 1 then !(getF t c.1).isSome else if c.2.1 = 2 then (getF t c.1).isSome && !((getF t c.1).getD [] == c.2.2) else if c.2.1 = 3 then (getF t c.1).isSome && (c.2.2 == []) else false

theorem ev_can (t : List FileT) (c : ChangeT) : Ev X 48 [cF.sl t, dC c] [] (dB (canC t c)) [] := by
  refine Ev.body Try.func48 rfl rfl rfl fun hf => ?_
  by_cases h1 : c.2.1 = 1
  · refine AK.run2 foll tok cok3 [(17, true)] 100 rfl ?_ (AK.ret0 rfl ?_)
    · simp [AllP, cF.fits_fn, h1]
    · simp [AllP, canC, h1, cF.list_fn]
  · by_cases h2 : c.2.1 = 2
    · cases h4 : (getF t c.1).isSome with
      | true =>
        refine AK.run2 foll tok cok3 [(17, false), (21, true), (22, true)] 100 rfl ?_ (AK.ret0 rfl ?_)
        · simp [AllP, cF.fits_fn, h2, cF.list_fn, h4]
        · simp [AllP, canC, h2, cF.list_fn, h4]
      | false =>
        refine AK.run2 foll tok cok3 [(17, false), (21, true), (22, false)] 100 rfl ?_ (AK.ret0 rfl ?_)
        · simp [AllP, cF.fits_fn, h2, cF.list_fn, h4]
        · simp [AllP, canC, h2, h4]
    · by_cases h3 : c.2.1 = 3
      · cases h4 : (getF t c.1).isSome with
        | true =>
          refine AK.run2 foll tok cok3 [(17, false), (21, false), (30, true), (31, true)] 100 rfl ?_ (AK.ret0 rfl ?_)
          · simp [AllP, cF.fits_fn, h3, cF.list_fn, h4]
          · simp [AllP, canC, h3, h4]
        | false =>
          refine AK.run2 foll tok cok3 [(17, false), (21, false), (30, true), (31, false)] 100 rfl ?_ (AK.ret0 rfl ?_)
          · simp [AllP, cF.fits_fn, h3, cF.list_fn, h4]
          · simp [AllP, canC, h3, h4]
      · refine AK.run2 foll tok cok3 [(17, false), (21, false), (30, false)] 100 rfl ?_ (AK.ret0 rfl ?_)
        · simp [AllP, cF.fits_fn, h1, h2, h3]
        · simp [AllP, canC, h1, h2, h3]
def c48 : CtF := fun args σ => match args, σ with
  | [da, .e (.agg [.c (.str b0), .c (.int .i64 b1), .c (.str b2)])], [] => match slArg 2 da with
    | none => none
    | some (na, ea) => some (dB (canC (cF.list na ea) (b0, b1, b2)), [], [cF.fits na ea])
  | _, _ => none
theorem t48 : EvT X 48 c48 := by
  intro args σ res σ' obs h ho
  unfold c48 at h
  split at h
  · split at h
    · cases h
    rename_i na ea ha
    cases h
    exact (ev_can _ _ ).args (fun _ vs => RdDs.imp (fun _ => cF.arg_ok ha ho) (RdDs.imp (fun _ r => r) (fun _ r => r)) vs)
  · cases h

def dropF (t : List FileT) (p : Bs) : List FileT := t.filter fun f => !(f.1 == p)

theorem dropF_take {t : List FileT} {p : Bs} {i : Nat} (h : i < t.length) : dropF (t.take (i + 1)) p = dropF (t.take i) p ++ (if pth t i = p then [] else [(pth t i, txt t i)]) := by
  have e : t.getD i ([], []) = t[i] := by simp [List.getD_eq_getElem?_getD, List.getElem?_eq_getElem h]
  have e2 : (pth t i, txt t i) = t[i] := by simp only [pth, txt, e]
  rw [List.take_add_one, List.getElem?_eq_getElem h, e2]
  simp only [dropF, List.filter_append, Option.toList_some]
  congr 1
  have e3 : pth t i = t[i].1 := by simp only [pth, e]
  rw [e3]
  by_cases hp : t[i].1 = p <;> simp [hp]

theorem dropF_len (t : List FileT) (p : Bs) : (dropF t p).length ≤ t.length := List.length_filter_le _ _

theorem ev_drop (t : List FileT) (p : Bs) (hb : t.length ≤ 1000000) : Ev X 49 [cF.sl t, dS p] [] (cF.sl (dropF t p)) [] := by
  refine Ev.body Try.func49 rfl rfl rfl fun hf => ?_
  refine AK.run2 foll tok COK.nil [] 100 rfl trivial ?_
  refine AK.adopt 5 59 2 rfl rfl ?_
  refine AK.loopB (fun i => i ≤ t.length) (fun i : Nat => [(0, cF.sl t), (1, dS p), (6, dI i), (5, .e (.one (.vec 0 2 (dropF (t.take i) p).length (cF.fn (dropF (t.take i) p)))))]) (fun i => [.vec 59 2 (dropF (t.take i) p).length (cF.fn (dropF (t.take i) p))]) (fun i => t.length - i) 0 rfl ?_ rfl ?_ (by omega) ?_
  · simp [AllP.cat, AllP, EqF, dropF]
  · simp [AllP.cat, AllP, EqF, dropF]
  intro i hi
  by_cases h : i < t.length
  · have hd := dropF_take (p := p) h
    have hl : (dropF (t.take i) p).length ≤ 1000000 := by
      have := dropF_len (t.take i) p
      simp at this; omega
    by_cases h1 : pth t i = p
    · rw [if_pos h1, List.append_nil] at hd
      refine AK.run2 foll tok COK.nil [(11, true), (20, false)] 100 rfl ?_ (AK.againB (i + 1) rfl ?_ rfl ?_ ?_ ?_)
      · simp [-List.getD_eq_getElem?_getD, AllP, h, pth_eq, h1, inR]; omega
      · rw [hd]; simp [AllP.cat, AllP, EqF]
      · rw [hd]; simp [AllP.cat, AllP, EqF]
      · omega
      · omega
    · rw [if_neg h1] at hd
      refine AK.run2 foll tok COK.nil [(11, true), (20, true)] 100 rfl ?_ (AK.againB (i + 1) rfl ?_ rfl ?_ ?_ ?_)
      · simp [-List.getD_eq_getElem?_getD, AllP, h, pth_eq, h1, inR, i59]; omega
      · rw [hd]; simp [-List.getD_eq_getElem?_getD, AllP.cat, AllP, EqF.same]
        exact cF.fn_push _ (pth t i, txt t i)
      · rw [hd]; simp [-List.getD_eq_getElem?_getD, AllP.cat, AllP]
        exact cF.fn_push _ (pth t i, txt t i)
      · omega
      · omega
  · have : i = t.length := by omega
    subst this
    refine AK.run2 foll tok COK.nil [(11, false)] 100 rfl (by simp [AllP]) (AK.leave rfl rfl ?_)
    refine AK.run2 foll tok COK.nil [] 100 rfl trivial (AK.ret0 rfl ?_)
    simp [AllP, EqF]
def c49 : CtF := fun args σ => match args, σ with
  | [da, .e (.one (.c (.str b)))], [] => match slArg 2 da with
    | none => none
    | some (na, ea) => some (cF.sl (dropF (cF.list na ea) b), [], [cF.fits na ea, ((cF.list na ea)).length ≤ 1000000])
  | _, _ => none
theorem t49 : EvT X 49 c49 := by
  intro args σ res σ' obs h ho
  unfold c49 at h
  split at h
  · split at h
    · cases h
    rename_i na ea ha
    cases h
    exact (ev_drop _ _ (ho.2)).args (fun _ vs => RdDs.imp (fun _ => cF.arg_ok ha ho.1) (RdDs.imp (fun _ r => r) (fun _ r => r)) vs)
  · cases h
def ct5 : List (Nat × CtF) := (48, c48) :: (49, c49) :: ct4
theorem cok5 : COK X ct5 := COK.cons t48 (COK.cons t49 (cok4))
end R1
end Go.AM

namespace Go.AM.R1
open Go.Proofs
variable {X : Cx Try.prog}

def put1 (f : FileT) (acc : List FileT × Bool) (g : Bs) : List FileT × Bool := if acc.2 = true then acc else if Op.bytesLess g f.1 = true then acc else (acc.1 ++ [f], true)
def put2 (f : FileT) (a : List FileT × Bool) (g : FileT) : List FileT × Bool := if g.1 = f.1 then a else (a.1 ++ [g], a.2)
def putStep (f : FileT) (acc : List FileT × Bool) (g : FileT) : List FileT × Bool := put2 f (put1 f acc g.1) g
def putAcc (f : FileT) (t : List FileT) : List FileT × Bool := t.foldl (putStep f) ([], false)
def putF (t : List FileT) (f : FileT) : List FileT := if (putAcc f t).2 = true then (putAcc f t).1 else (putAcc f t).1 ++ [f]

theorem fileAt {t : List FileT} {i : Nat} (h : i < t.length) : t[i] = (pth t i, txt t i) := by
  have e : t.getD i ([], []) = t[i] := by simp [List.getD_eq_getElem?_getD, List.getElem?_eq_getElem h]
  simp only [pth, txt, e]

theorem putAcc_take {f : FileT} {t : List FileT} {i : Nat} (h : i < t.length) : putAcc f (t.take (i + 1)) = putStep f (putAcc f (t.take i)) (pth t i, txt t i) := by
  rw [List.take_add_one, List.getElem?_eq_getElem h, fileAt h]
  simp [putAcc]

theorem put1_len (f : FileT) (acc : List FileT × Bool) (g : Bs) : (put1 f acc g).1.length ≤ acc.1.length + 1 := by
  unfold put1
  split
  · omega
  · split
    · omega
    · simp

theorem put2_len (f : FileT) (acc : List FileT × Bool) (g : FileT) : (put2 f acc g).1.length ≤ acc.1.length + 1 := by
  unfold put2
  split
  · omega
  · simp

theorem putAcc_len (f : FileT) : ∀ (t : List FileT) (acc : List FileT × Bool), (t.foldl (putStep f) acc).1.length ≤ acc.1.length + 2 * t.length
  | [], acc => by simp
  | g :: r, acc => by
    have h1 := putAcc_len f r (putStep f acc g)
    have h2 := put1_len f acc g.1
    have h3 := put2_len f (put1 f acc g.1) g
    simp only [List.foldl_cons, List.length_cons]
    have : (putStep f acc g).1.length ≤ acc.1.length + 2 := by unfold putStep; omega
    omega

abbrev dV (l : Nat) (t : List FileT) : D := .e (.one (.vec l 2 t.length (cF.fn t)))
abbrev bV (t : List FileT) : Box := .vec 59 2 t.length (cF.fn t)

theorem ev_putB (t : List FileT) (f : FileT) (hb : t.length ≤ 1000000) : Ev X 73 [cF.sl t, dP f] [] (dV 0 (putF t f)) [bV (putF t f)] := by
  refine Ev.body Try.func73 rfl rfl rfl fun hf => ?_
  refine AK.run2 foll tok COK.nil [] 100 rfl trivial ?_
  refine AK.adopt 5 59 2 rfl rfl ?_
  let A : Nat → List FileT × Bool := fun i => putAcc f (t.take i)
  have hlenA : ∀ i, i ≤ t.length → (A i).1.length ≤ 2000000 := by
    intro i hi
    have := putAcc_len f (t.take i) ([], false)
    simp at this
    show (putAcc f (t.take i)).1.length ≤ _
    unfold putAcc
    omega
  refine AK.loopB (fun i => i ≤ t.length) (fun i : Nat => [(0, cF.sl t), (3, .e (.one (.ptr 0 0))), (7, dI i), (5, dV 1 (A i).1), (6, dB (A i).2)]) (fun i => [.cells 59 [.c (.str f.1), .c (.str f.2)], bV (A i).1]) (fun i => t.length - i) 0 rfl ?_ rfl ?_ (by omega) ?_
  · simp [AllP.cat, AllP, EqF, A, putAcc]
  · simp [AllP.cat, AllP, EqF, A, putAcc]
  intro i hi
  by_cases h : i < t.length
  · have hA : A (i + 1) = putStep f (A i) (pth t i, txt t i) := putAcc_take h
    have hl := hlenA i hi
    generalize A i = acc at *
    have hl1 := put1_len f acc (pth t i)
    apply AK.join [(0, cF.sl t), (3, .e (.one (.ptr 0 0))), (7, dI i), (5, dV 1 (put1 f acc (pth t i)).1), (6, dB (put1 f acc (pth t i)).2)] [.cells 59 [.c (.str f.1), .c (.str f.2)], bV (put1 f acc (pth t i)).1]
    · intro hk
      cases hb2 : acc.2 with
      | true =>
        have e1 : put1 f acc (pth t i) = acc := by unfold put1; rw [if_pos hb2]
        rw [e1] at hk
        refine AK.run2 foll tok COK.nil [(12, true), (15, true), (1000009, true)] 200 rfl ?_ (hk _ _ rfl ?_)
        · simp [AllP, h]
        · simp [AllP, AllP.cat, EqF.same, hb2]
      | false =>
        cases hb3 : Op.bytesLess (pth t i) f.1 with
        | true =>
          have e1 : put1 f acc (pth t i) = acc := by unfold put1; rw [hb2, hb3]; rfl
          rw [e1] at hk
          refine AK.run2 foll tok COK.nil [(12, true), (15, false), (25, false), (1000009, true)] 200 rfl ?_ (hk _ _ rfl ?_)
          · simp [-List.getD_eq_getElem?_getD, AllP, h, pth_eq, hb3]
          · simp [AllP, AllP.cat, EqF.same, hb2]
        | false =>
          have e1 : put1 f acc (pth t i) = (acc.1 ++ [f], true) := by unfold put1; rw [hb2, hb3]; rfl
          rw [e1] at hk
          refine AK.run2 foll tok COK.nil [(12, true), (15, false), (25, true), (1000009, true)] 200 rfl ?_ (AK.norm _ rfl ?_ (hk _ _ rfl ?_))
          · simp [-List.getD_eq_getElem?_getD, AllP, h, pth_eq, hb3, i59]; omega
          · simp [-List.getD_eq_getElem?_getD, AllP.cat, AllP]
            exact cF.fn_push _ f
          · simp [-List.getD_eq_getElem?_getD, AllP.cat, AllP, EqF.same]
            exact cF.fn_push _ f
    · have hA' : A (i + 1) = put2 f (put1 f acc (pth t i)) (pth t i, txt t i) := hA
      generalize put1 f acc (pth t i) = a1 at *
      by_cases he : pth t i = f.1
      · have hA2 : A (i + 1) = a1 := by rw [hA']; exact if_pos he
        refine AK.run2 foll tok COK.nil [(38, false)] 200 rfl ?_ (AK.againB (i + 1) rfl ?_ rfl ?_ ?_ ?_)
        · simp [-List.getD_eq_getElem?_getD, AllP, h, pth_eq, he, inR]; omega
        · rw [hA2]; simp [AllP, AllP.cat, EqF.same]
        · rw [hA2]; simp [AllP, AllP.cat, EqF.same]
        · omega
        · omega
      · have hA2 : A (i + 1) = (a1.1 ++ [(pth t i, txt t i)], a1.2) := by rw [hA']; exact if_neg he
        refine AK.run2 foll tok COK.nil [(38, true)] 200 rfl ?_ (AK.againB (i + 1) rfl ?_ rfl ?_ ?_ ?_)
        · simp [-List.getD_eq_getElem?_getD, AllP, h, pth_eq, he, inR, i59]; omega
        · rw [hA2]; simp [-List.getD_eq_getElem?_getD, AllP.cat, AllP, EqF.same]
          exact cF.fn_push _ (pth t i, txt t i)
        · rw [hA2]; simp [-List.getD_eq_getElem?_getD, AllP.cat, AllP]
          exact cF.fn_push _ (pth t i, txt t i)
        · omega
        · omega
  · have : i = t.length := by omega
    subst this
    have hAe : A t.length = putAcc f t := by show putAcc f (t.take t.length) = _; rw [List.take_length]
    have hl := hlenA t.length (Nat.le_refl _)
    refine AK.run2 foll tok COK.nil [(12, false)] 100 rfl (by simp [AllP]) (AK.leave rfl rfl ?_)
    have hp : putF t f = if (A t.length).2 = true then (A t.length).1 else (A t.length).1 ++ [f] := by rw [hAe]; rfl
    cases hb2 : (A t.length).2 with
    | true =>
      rw [hb2, if_pos rfl] at hp
      refine AK.run2 foll tok COK.nil [(46, true)] 100 rfl ?_ (AK.norm [.cells 59 [.c (.str f.1), .c (.str f.2)], bV (putF t f)] rfl ?_ (AK.retB [1] rfl ?_ rfl rfl rfl ?_))
      · simp [AllP]
      · rw [hp]; simp [AllP, AllP.cat, EqF.same]
      · rw [hp]; simp [AllP, EqF.same]
      · intro j hj; simp at hj
    | false =>
      rw [hb2, if_neg (by simp)] at hp
      refine AK.run2 foll tok COK.nil [(46, false)] 100 rfl ?_ (AK.norm [.cells 59 [.c (.str f.1), .c (.str f.2)], bV (putF t f)] rfl ?_ (AK.retB [1] rfl ?_ rfl rfl rfl ?_))
      · simp [AllP, i59]; omega
      · rw [hp]; simp [-List.getD_eq_getElem?_getD, AllP, AllP.cat]
        exact cF.fn_push _ f
      · rw [hp]; simp [-List.getD_eq_getElem?_getD, AllP]
        exact cF.fn_push _ f
      · intro j hj; simp at hj
end Go.AM.R1

namespace Go.AM
theorem EqF.app0 {n : Nat} {f g : Nat → List C} : EqF n (appF 0 f g) g := fun i _ => by simp [appF]
namespace R1
open Go.Proofs
variable {X : Cx Try.prog}
def c73 : CtF := fun args σ => match args, σ with
  | [da, .e (.agg [.c (.str b0), .c (.str b1)])], [] => match slArg 2 da with
    | none => none
    | some (na, ea) => some (dV 0 (putF (cF.list na ea) (b0, b1)) , [ bV (putF (cF.list na ea) (b0, b1))], [cF.fits na ea, ((cF.list na ea)).length ≤ 1000000])
  | _, _ => none
theorem t73 : EvT X 73 c73 := by
  intro args σ res σ' obs h ho
  unfold c73 at h
  split at h
  · split at h
    · cases h
    rename_i na ea ha
    cases h
    exact (ev_putB _ _ (ho.2)).args (fun _ vs => RdDs.imp (fun _ => cF.arg_ok ha ho.1) (RdDs.imp (fun _ r => r) (fun _ r => r)) vs)
  · cases h
def ct6 : List (Nat × CtF) := (73, c73) :: ct5
theorem cok6 : COK X ct6 := COK.cons t73 (cok5)

def treePut (t : List FileT) (p x : Bs) : List FileT × Bool :=
  if treeOk t = true ∧ pathOk p = true ∧ textOk x = true then (if treeOk (putF t (p, x)) = true then (putF t (p, x), true) else (t, false)) else ([], false)

abbrev tVB (l : Nat) (t : List FileT) (b : Bool) : D := .tup [.one (.vec l 2 t.length (cF.fn t)), .one (.c (.bool b))]

theorem treeOk_len {t : List FileT} (h : treeOk t = true) : t.length ≤ 6 := by
  simp only [treeOk, Bool.and_eq_true, decide_eq_true_eq] at h; exact h.2

theorem putF_len (t : List FileT) (f : FileT) : (putF t f).length ≤ 2 * t.length + 1 := by
  have := putAcc_len f t ([], false)
  unfold putF
  show (if (List.foldl (putStep f) ([], false) t).2 = true then _ else _ : List FileT).length ≤ _
  split
  · simp at this; show (List.foldl (putStep f) ([], false) t).1.length ≤ _; omega
  · simp at this; simp; show (List.foldl (putStep f) ([], false) t).1.length ≤ _; omega

theorem ev_treePutB (t : List FileT) (p x : Bs) : Ev X 50 [cF.sl t, dS p, dS x] [] (tVB 0 (treePut t p x).1 (treePut t p x).2) [bV (treePut t p x).1] := by
  refine Ev.body Try.func50 rfl rfl rfl fun hf => ?_
  have bad : ¬ (treeOk t = true ∧ pathOk p = true ∧ textOk x = true) → treePut t p x = ([], false) := fun h => if_neg h
  cases h1 : treeOk t with
  | false =>
    rw [bad (by simp [h1])]
    refine AK.run2 foll tok cok6 [(10, false)] 100 rfl ?_ ?_
    · simp [AllP, cF.list_fn, cF.fits_fn, h1]
    · refine AK.adopt 6 59 2 rfl rfl (AK.norm [bV []] rfl ?_ (AK.retB [0] rfl ?_ rfl rfl rfl ?_))
      · simp [AllP, AllP.cat, EqF]
      · simp [AllP, AllP.cat, EqF]
      · intro j hj; simp at hj
  | true =>
    have hl := treeOk_len h1
    cases h2 : pathOk p with
    | false =>
      rw [bad (by simp [h2])]
      refine AK.run2 foll tok cok6 [(10, true), (14, false)] 100 rfl ?_ ?_
      · simp [AllP, cF.list_fn, cF.fits_fn, h1, h2]
      · refine AK.adopt 6 59 2 rfl rfl (AK.norm [bV []] rfl ?_ (AK.retB [0] rfl ?_ rfl rfl rfl ?_))
        · simp [AllP, AllP.cat, EqF]
        · simp [AllP, AllP.cat, EqF]
        · intro j hj; simp at hj
    | true =>
      cases h3 : textOk x with
      | false =>
        rw [bad (by simp [h3])]
        refine AK.run2 foll tok cok6 [(10, true), (14, true), (19, false)] 100 rfl ?_ ?_
        · simp [AllP, cF.list_fn, cF.fits_fn, h1, h2, h3]
        · refine AK.adopt 6 59 2 rfl rfl (AK.norm [bV []] rfl ?_ (AK.retB [0] rfl ?_ rfl rfl rfl ?_))
          · simp [AllP, AllP.cat, EqF]
          · simp [AllP, AllP.cat, EqF]
          · intro j hj; simp at hj
      | true =>
        have e1 : treePut t p x = if treeOk (putF t (p, x)) = true then (putF t (p, x), true) else (t, false) := if_pos ⟨h1, h2, h3⟩
        cases h4 : treeOk (putF t (p, x)) with
        | true =>
          rw [h4, if_pos rfl] at e1
          rw [e1]
          refine AK.run2 foll tok cok6 [(10, true), (14, true), (19, true), (29, true)] 100 rfl ?_ (AK.norm [bV (putF t (p, x))] rfl ?_ (AK.retB [0] rfl ?_ rfl rfl rfl ?_))
          · simp [AllP, cF.list_fn, cF.fits_fn, h1, h2, h3, h4]; omega
          · simp [AllP, AllP.cat, cF.list_fn, EqF.same]
          · simp [AllP, AllP.cat, cF.list_fn, EqF.same]
          · intro j hj; simp at hj
        | false =>
          rw [h4, if_neg (by simp)] at e1
          rw [e1]
          refine AK.run2 foll tok cok6 [(10, true), (14, true), (19, true), (29, false)] 100 rfl ?_ (AK.norm [bV (putF t (p, x)), bV t] rfl ?_ (AK.retB [1] rfl ?_ rfl rfl rfl ?_))
          · simp [AllP, cF.list_fn, cF.fits_fn, h1, h2, h3, h4, i59]; omega
          · simp [AllP, AllP.cat, cF.list_fn, EqF.same, EqF.app0]
          · simp [AllP, AllP.cat, EqF.app0]
          · intro j hj; simp at hj

theorem ev_treePut (t : List FileT) (p x : Bs) : Ev X 50 [cF.sl t, dS p, dS x] [] (tFB (treePut t p x).1 (treePut t p x).2) [] :=
  (ev_treePutB t p x).forget rfl (by simp [AllP, AllP.cat, EqF.same]) rfl
def c50 : CtF := fun args σ => match args, σ with
  | [da, .e (.one (.c (.str b))), .e (.one (.c (.str c)))], [] => match slArg 2 da with
    | none => none
    | some (na, ea) => some (tFB (treePut (cF.list na ea) b c).1 (treePut (cF.list na ea) b c).2, [], [cF.fits na ea])
  | _, _ => none
theorem t50 : EvT X 50 c50 := by
  intro args σ res σ' obs h ho
  unfold c50 at h
  split at h
  · split at h
    · cases h
    rename_i na ea ha
    cases h
    exact (ev_treePut _ _ _ ).args (fun _ vs => RdDs.imp (fun _ => cF.arg_ok ha ho) (RdDs.imp (fun _ r => r) (RdDs.imp (fun _ r => r) (fun _ r => r))) vs)
  · cases h

def treeDrop (t : List FileT) (p : Bs) : List FileT × Bool := if treeOk t = true then (dropF t p, decide ((dropF t p).length < t.length)) else ([], false)

theorem ev_treeDrop (t : List FileT) (p : Bs) : Ev X 72 [cF.sl t, dS p] [] (tFB (treeDrop t p).1 (treeDrop t p).2) [] := by
  refine Ev.body Try.func72 rfl rfl rfl fun hf => ?_
  cases h1 : treeOk t with
  | false =>
    refine AK.run2 foll tok cok6 [(8, false)] 100 rfl ?_ (AK.ret0 rfl ?_)
    · simp [AllP, cF.list_fn, cF.fits_fn, h1]
    · simp [AllP, AllP.cat, treeDrop, h1, EqF]
  | true =>
    have hl := treeOk_len h1
    refine AK.run2 foll tok cok6 [(8, true)] 100 rfl ?_ (AK.ret0 rfl ?_)
    · simp [AllP, cF.list_fn, cF.fits_fn, h1]; omega
    · simp [AllP, AllP.cat, treeDrop, h1, cF.list_fn, EqF.same]
def c72 : CtF := fun args σ => match args, σ with
  | [da, .e (.one (.c (.str b)))], [] => match slArg 2 da with
    | none => none
    | some (na, ea) => some (tFB (treeDrop (cF.list na ea) b).1 (treeDrop (cF.list na ea) b).2, [], [cF.fits na ea])
  | _, _ => none
theorem t72 : EvT X 72 c72 := by
  intro args σ res σ' obs h ho
  unfold c72 at h
  split at h
  · split at h
    · cases h
    rename_i na ea ha
    cases h
    exact (ev_treeDrop _ _ ).args (fun _ vs => RdDs.imp (fun _ => cF.arg_ok ha ho) (RdDs.imp (fun _ r => r) (fun _ r => r)) vs)
  · cases h
def ct7 : List (Nat × CtF) := (50, c50) :: (72, c72) :: ct6
theorem cok7 : COK X ct7 := COK.cons t50 (COK.cons t72 (cok6))
end R1
end Go.AM

namespace Go.AM.R1
open Go.Proofs
variable {X : Cx Try.prog}

def doStep (t : List FileT) (c : ChangeT) : Option (List FileT) :=
  if canC t c = true then (if c.2.1 = 3 then some (dropF t c.1) else if (treePut t c.1 c.2.2).2 = true then some (treePut t c.1 c.2.2).1 else none) else none
def doGo : List FileT → List ChangeT → Option (List FileT)
  | t, [] => some t
  | t, c :: r => match doStep t c with
    | some x => doGo x r
    | none => none
def treeDo (t : List FileT) (l : List ChangeT) : Option (List FileT) := if treeOk t = true then doGo t l else none

theorem doGo_append : ∀ (t : List FileT) (l r : List ChangeT), doGo t (l ++ r) = (doGo t l).bind fun x => doGo x r
  | t, [], r => rfl
  | t, c :: l, r => by
    simp only [List.cons_append, doGo]
    cases doStep t c with
    | none => rfl
    | some x => exact doGo_append x l r

def pthC (l : List ChangeT) (i : Nat) : Bs := (l.getD i ([], 0, [])).1
def kndC (l : List ChangeT) (i : Nat) : Int := (l.getD i ([], 0, [])).2.1
def txtC (l : List ChangeT) (i : Nat) : Bs := (l.getD i ([], 0, [])).2.2
theorem pthC_eq (t : List ChangeT) (i : Nat) : (t.getD i cC.dflt).1 = pthC t i := rfl
theorem kndC_eq (t : List ChangeT) (i : Nat) : (t.getD i cC.dflt).2.1 = kndC t i := rfl
theorem txtC_eq (t : List ChangeT) (i : Nat) : (t.getD i cC.dflt).2.2 = txtC t i := rfl
theorem changeAt {t : List ChangeT} {i : Nat} (h : i < t.length) : t[i] = (pthC t i, kndC t i, txtC t i) := by
  have e : t.getD i ([], 0, []) = t[i] := by simp [List.getD_eq_getElem?_getD, List.getElem?_eq_getElem h]
  simp only [pthC, kndC, txtC, e]

theorem treePut_len {t : List FileT} {p x : Bs} (h : (treePut t p x).2 = true) : (treePut t p x).1.length ≤ 6 := by
  unfold treePut at h ⊢
  split
  · rename_i h1
    rw [if_pos h1] at h
    split
    · rename_i h2; exact treeOk_len h2
    · rename_i h2; rw [if_neg h2] at h; cases h
  · simp

theorem ev_treeDo (t : List FileT) (l : List ChangeT) : Ev X 21 [cF.sl t, cC.sl l] [] (tFB ((treeDo t l).getD []) (treeDo t l).isSome) [] := by
  refine Ev.body Try.func21 rfl rfl rfl fun hf => ?_
  have hlen := hf.sl 1 rfl
  cases h1 : treeOk t with
  | false =>
    refine AK.run2 foll tok cok7 [(11, false)] 100 rfl ?_ (AK.ret0 rfl ?_)
    · simp [AllP, cF.list_fn, cF.fits_fn, h1]
    · simp [AllP, AllP.cat, treeDo, h1, EqF]
  | true =>
    have hl := treeOk_len h1
    refine AK.run2 foll tok cok7 [(11, true)] 100 rfl ?_ ?_
    · simp [AllP, cF.list_fn, cF.fits_fn, h1, i59]; omega
    refine AK.loopB (fun s : Nat × List FileT => s.1 ≤ l.length ∧ doGo t (l.take s.1) = some s.2 ∧ s.2.length ≤ 6) (fun s => [(0, cF.sl t), (1, cC.sl l), (7, dI s.1), (6, cF.sl s.2)]) (fun _ => [bV t]) (fun s => l.length - s.1) (0, t) rfl ?_ rfl ?_ ⟨by omega, rfl, hl⟩ ?_
    · simp [AllP, AllP.cat, EqF.same, EqF.app0]
    · simp [AllP, AllP.cat, EqF.app0]
    rintro ⟨i, cur⟩ ⟨hi, hgo, hcl⟩
    simp only at hi hgo hcl
    by_cases h : i < l.length
    · have hgo2 : doGo t (l.take (i + 1)) = doStep cur (pthC l i, kndC l i, txtC l i) := by
        rw [List.take_add_one, List.getElem?_eq_getElem h, changeAt h, doGo_append, hgo]
        simp only [Option.bind_some, Option.toList_some, doGo]
        cases doStep cur _ <;> rfl
      have hbadl : doStep cur (pthC l i, kndC l i, txtC l i) = none → treeDo t l = none := by
        intro hn
        rw [treeDo, h1, if_pos rfl, ← List.take_append_drop (i + 1) l, doGo_append, hgo2, hn]; rfl
      cases h2 : canC cur (pthC l i, kndC l i, txtC l i) with
      | false =>
        have hn : doStep cur (pthC l i, kndC l i, txtC l i) = none := by rw [doStep, h2]; rfl
        refine AK.run2 foll tok cok7 [(20, true), (28, false)] 200 rfl ?_ (AK.retIn (RetQ.zero rfl ?_))
        · simp [-List.getD_eq_getElem?_getD, AllP, h, cF.list_fn, cF.fits_fn, pthC_eq, kndC_eq, txtC_eq, h2]
        · simp [AllP, AllP.cat, hbadl hn, EqF]
      | true =>
        by_cases h3 : kndC l i = 3
        · have hn : doStep cur (pthC l i, kndC l i, txtC l i) = some (dropF cur (pthC l i)) := by rw [doStep, h2, if_pos rfl]; exact if_pos h3
          refine AK.run2 foll tok cok7 [(20, true), (28, true), (36, true)] 200 rfl ?_ (AK.againB (i + 1, dropF cur (pthC l i)) rfl ?_ rfl ?_ ?_ ?_)
          · have h23 : canC cur (pthC l i, 3, txtC l i) = true := by rw [← h3]; exact h2
            simp [-List.getD_eq_getElem?_getD, AllP, h, cF.list_fn, cF.fits_fn, pthC_eq, kndC_eq, txtC_eq, h23, h3, inR]; omega
          · simp [-List.getD_eq_getElem?_getD, AllP, AllP.cat, cF.list_fn, pthC_eq, EqF.same]
          · simp [AllP, AllP.cat, EqF.same]
          · refine ⟨by simp only; omega, by rw [hgo2, hn], ?_⟩
            have := dropF_len cur (pthC l i)
            simp only; omega
          · simp only; omega
        · cases h4 : (treePut cur (pthC l i) (txtC l i)).2 with
          | false =>
            have hn : doStep cur (pthC l i, kndC l i, txtC l i) = none := by rw [doStep, h2, if_pos rfl, if_neg h3, if_neg (by simp [h4])]
            refine AK.run2 foll tok cok7 [(20, true), (28, true), (36, false), (59, false)] 200 rfl ?_ (AK.retIn (RetQ.zero rfl ?_))
            · simp [-List.getD_eq_getElem?_getD, AllP, h, cF.list_fn, cF.fits_fn, pthC_eq, kndC_eq, txtC_eq, h2, h3, h4]
            · simp [AllP, AllP.cat, hbadl hn, EqF]
          | true =>
            have hn : doStep cur (pthC l i, kndC l i, txtC l i) = some (treePut cur (pthC l i) (txtC l i)).1 := by rw [doStep, h2, if_pos rfl, if_neg h3, if_pos h4]
            refine AK.run2 foll tok cok7 [(20, true), (28, true), (36, false), (59, true)] 200 rfl ?_ (AK.againB (i + 1, (treePut cur (pthC l i) (txtC l i)).1) rfl ?_ rfl ?_ ?_ ?_)
            · simp [-List.getD_eq_getElem?_getD, AllP, h, cF.list_fn, cF.fits_fn, pthC_eq, kndC_eq, txtC_eq, h2, h3, h4, inR]; omega
            · simp [-List.getD_eq_getElem?_getD, AllP, AllP.cat, cF.list_fn, pthC_eq, txtC_eq, EqF.same]
            · simp [AllP, AllP.cat, EqF.same]
            · exact ⟨by simp only; omega, by rw [hgo2, hn], treePut_len h4⟩
            · simp only; omega
    · have : i = l.length := by omega
      subst this
      rw [List.take_length] at hgo
      refine AK.run2 foll tok cok7 [(20, false)] 100 rfl (by simp [AllP]) (AK.leave rfl rfl ?_)
      refine AK.run2 foll tok cok7 [] 100 rfl trivial (AK.ret0 rfl ?_)
      simp [AllP, AllP.cat, treeDo, h1, hgo, EqF.same]
def c21 : CtF := fun args σ => match args, σ with
  | [da, db], [] => match slArg 2 da with
    | none => none
    | some (na, ea) => match slArg 3 db with
    | none => none
    | some (nb, eb) => some (tFB ((treeDo (cF.list na ea) (cC.list nb eb)).getD []) (treeDo (cF.list na ea) (cC.list nb eb)).isSome, [], [cF.fits na ea, cC.fits nb eb])
  | _, _ => none
theorem t21 : EvT X 21 c21 := by
  intro args σ res σ' obs h ho
  unfold c21 at h
  split at h
  · split at h
    · cases h
    rename_i na ea ha
    split at h
    · cases h
    rename_i nb eb hb
    cases h
    exact (ev_treeDo _ _ ).args (fun _ vs => RdDs.imp (fun _ => cF.arg_ok ha ho.1) (RdDs.imp (fun _ => cC.arg_ok hb ho.2) (fun _ r => r)) vs)
  · cases h
def ct8 : List (Nat × CtF) := (21, c21) :: ct7
theorem cok8 : COK X ct8 := COK.cons t21 (cok7)
end Go.AM.R1

namespace Go.AM.R1
open Go.Proofs
variable {X : Cx Try.prog}

def del1 (b : List FileT) (f : FileT) : List ChangeT := if (getF b f.1).isSome = true then [] else [(f.1, 3, [])]
def new1 (a : List FileT) (f : FileT) : List ChangeT := if (getF a f.1).isSome = true then (if (getF a f.1).getD [] = f.2 then [] else [(f.1, 2, f.2)]) else [(f.1, 1, f.2)]
def dels (a b : List FileT) : List ChangeT := a.flatMap (del1 b)
def news (a b : List FileT) : List ChangeT := b.flatMap (new1 a)
def treeDiff (a b : List FileT) : List ChangeT := if treeOk a = true ∧ treeOk b = true then dels a b ++ news a b else []

theorem dels_take {a b : List FileT} {i : Nat} (h : i < a.length) : dels (a.take (i + 1)) b = dels (a.take i) b ++ del1 b (pth a i, txt a i) := by
  rw [List.take_add_one, List.getElem?_eq_getElem h, fileAt h]
  simp [dels]
theorem news_take {a b : List FileT} {i : Nat} (h : i < b.length) : news a (b.take (i + 1)) = news a (b.take i) ++ new1 a (pth b i, txt b i) := by
  rw [List.take_add_one, List.getElem?_eq_getElem h, fileAt h]
  simp [news]
theorem dels_len (a b : List FileT) : (dels a b).length ≤ a.length := by
  induction a with
  | nil => simp [dels]
  | cons f r ih =>
    simp only [dels, List.flatMap_cons, List.length_append, List.length_cons] at ih ⊢
    have : (del1 b f).length ≤ 1 := by unfold del1; split <;> simp
    omega
theorem news_len (a b : List FileT) : (news a b).length ≤ b.length := by
  induction b with
  | nil => simp [news]
  | cons f r ih =>
    simp only [news, List.flatMap_cons, List.length_append, List.length_cons] at ih ⊢
    have : (new1 a f).length ≤ 1 := by
      unfold new1
      split
      · split <;> simp
      · simp
    omega

abbrev dW (l : Nat) (t : List ChangeT) : D := .e (.one (.vec l 3 t.length (cC.fn t)))
abbrev bW (t : List ChangeT) : Box := .vec 33 3 t.length (cC.fn t)

theorem ev_treeDiffB (a b : List FileT) : Ev X 18 [cF.sl a, cF.sl b] [] (dW 0 (treeDiff a b)) [bW (treeDiff a b)] := by
  refine Ev.body Try.func18 rfl rfl rfl fun hf => ?_
  cases h1 : treeOk a with
  | false =>
    refine AK.run2 foll tok cok7 [(14, false)] 100 rfl ?_ (AK.adopt 4 33 3 rfl rfl (AK.norm [bW (treeDiff a b)] rfl ?_ (AK.retB [0] rfl ?_ rfl rfl rfl (fun j hj => by simp at hj))))
    · simp [AllP, cF.list_fn, cF.fits_fn, h1]
    · simp [AllP, AllP.cat, treeDiff, h1, EqF]
    · simp [AllP, treeDiff, h1, EqF]
  | true =>
    cases h2 : treeOk b with
    | false =>
      refine AK.run2 foll tok cok7 [(14, true), (18, false)] 100 rfl ?_ (AK.adopt 4 33 3 rfl rfl (AK.norm [bW (treeDiff a b)] rfl ?_ (AK.retB [0] rfl ?_ rfl rfl rfl (fun j hj => by simp at hj))))
      · simp [AllP, cF.list_fn, cF.fits_fn, h1, h2]
      · simp [AllP, AllP.cat, treeDiff, h2, EqF]
      · simp [AllP, treeDiff, h2, EqF]
    | true =>
      have hla := treeOk_len h1
      have hlb := treeOk_len h2
      refine AK.run2 foll tok cok7 [(14, true), (18, true)] 100 rfl ?_ ?_
      · simp [AllP, cF.list_fn, cF.fits_fn, h1, h2]
      refine AK.adopt 5 33 3 rfl rfl ?_
      refine AK.loopB (fun i => i ≤ a.length) (fun i : Nat => [(0, cF.sl a), (1, cF.sl b), (6, dI i), (5, dW 0 (dels (a.take i) b))]) (fun i => [bW (dels (a.take i) b)]) (fun i => a.length - i) 0 rfl ?_ rfl ?_ (by omega) ?_
      · simp [AllP, AllP.cat, EqF, dels]
      · simp [AllP, AllP.cat, EqF, dels]
      intro i hi
      by_cases h : i < a.length
      · have hd := dels_take (b := b) h
        have hl : (dels (a.take i) b).length ≤ 6 := by have := dels_len (a.take i) b; simp at this; omega
        cases h3 : (getF b (pth a i)).isSome with
        | true =>
          have hd1 : del1 b (pth a i, txt a i) = [] := if_pos h3
          rw [hd1, List.append_nil] at hd
          refine AK.run2 foll tok cok7 [(25, true), (38, true)] 100 rfl ?_ (AK.againB (i + 1) rfl ?_ rfl ?_ ?_ ?_)
          · simp [-List.getD_eq_getElem?_getD, AllP, h, cF.list_fn, cF.fits_fn, pth_eq, h3, inR]; omega
          · rw [hd]; simp [AllP, AllP.cat, EqF.same]
          · rw [hd]; simp [AllP, AllP.cat, EqF.same]
          · omega
          · omega
        | false =>
          have hd1 : del1 b (pth a i, txt a i) = [(pth a i, 3, [])] := if_neg (by simp [h3])
          rw [hd1] at hd
          refine AK.run2 foll tok cok7 [(25, true), (38, false)] 100 rfl ?_ (AK.againB (i + 1) rfl ?_ rfl ?_ ?_ ?_)
          · simp [-List.getD_eq_getElem?_getD, AllP, h, cF.list_fn, cF.fits_fn, pth_eq, h3, inR, i33]; omega
          · rw [hd]; simp [-List.getD_eq_getElem?_getD, AllP, AllP.cat, EqF.same]
            exact cC.fn_push _ (pth a i, 3, [])
          · rw [hd]; simp [-List.getD_eq_getElem?_getD, AllP, AllP.cat]
            exact cC.fn_push _ (pth a i, 3, [])
          · omega
          · omega
      · have : i = a.length := by omega
        subst this
        rw [List.take_length]
        refine AK.run2 foll tok cok7 [(25, false)] 100 rfl (by simp [AllP]) (AK.leave rfl rfl ?_)
        refine AK.run2 foll tok cok7 [] 100 rfl trivial ?_
        let R : Nat → List ChangeT := fun i => dels a b ++ news a (b.take i)
        refine AK.loopB (fun i => i ≤ b.length) (fun i : Nat => [(0, cF.sl a), (1, cF.sl b), (9, dI i), (5, dW 0 (R i))]) (fun i => [bW (R i)]) (fun i => b.length - i) 0 rfl ?_ rfl ?_ (by omega) ?_
        · simp [AllP, AllP.cat, EqF, R, news]
        · simp [AllP, AllP.cat, EqF, R, news]
        intro i hi
        have hR : ∀ i, i ≤ b.length → (R i).length ≤ 12 := by
          intro i hi
          have := dels_len a b
          have := news_len a (b.take i)
          simp [R] at this ⊢; omega
        by_cases h : i < b.length
        · have hd : R (i + 1) = R i ++ new1 a (pth b i, txt b i) := by simp only [R]; rw [news_take h, List.append_assoc]
          have hl := hR i hi
          cases h3 : (getF a (pth b i)).isSome with
          | false =>
            have hd1 : new1 a (pth b i, txt b i) = [(pth b i, 1, txt b i)] := if_neg (by simp [h3])
            rw [hd1] at hd
            refine AK.run2 foll tok cok7 [(52, true), (65, false)] 100 rfl ?_ (AK.againB (i + 1) rfl ?_ rfl ?_ ?_ ?_)
            · simp [-List.getD_eq_getElem?_getD, AllP, h, cF.list_fn, cF.fits_fn, pth_eq, h3, inR, i33]; omega
            · rw [hd]; simp [-List.getD_eq_getElem?_getD, AllP, AllP.cat, EqF.same]
              exact cC.fn_push _ (pth b i, 1, txt b i)
            · rw [hd]; simp [-List.getD_eq_getElem?_getD, AllP, AllP.cat]
              exact cC.fn_push _ (pth b i, 1, txt b i)
            · omega
            · omega
          | true =>
            by_cases h4 : (getF a (pth b i)).getD [] = txt b i
            · have hd1 : new1 a (pth b i, txt b i) = [] := by unfold new1; rw [if_pos h3, if_pos h4]
              rw [hd1, List.append_nil] at hd
              refine AK.run2 foll tok cok7 [(52, true), (65, true), (87, false)] 100 rfl ?_ (AK.againB (i + 1) rfl ?_ rfl ?_ ?_ ?_)
              · simp [-List.getD_eq_getElem?_getD, AllP, h, cF.list_fn, cF.fits_fn, pth_eq, txt_eq, h3, h4, inR]; omega
              · rw [hd]; simp [AllP, AllP.cat, EqF.same]
              · rw [hd]; simp [AllP, AllP.cat, EqF.same]
              · omega
              · omega
            · have hd1 : new1 a (pth b i, txt b i) = [(pth b i, 2, txt b i)] := by unfold new1; rw [if_pos h3, if_neg h4]
              rw [hd1] at hd
              refine AK.run2 foll tok cok7 [(52, true), (65, true), (87, true)] 100 rfl ?_ (AK.againB (i + 1) rfl ?_ rfl ?_ ?_ ?_)
              · simp [-List.getD_eq_getElem?_getD, AllP, h, cF.list_fn, cF.fits_fn, pth_eq, txt_eq, h3, h4, inR, i33]; omega
              · rw [hd]; simp [-List.getD_eq_getElem?_getD, AllP, AllP.cat, EqF.same]
                exact cC.fn_push _ (pth b i, 2, txt b i)
              · rw [hd]; simp [-List.getD_eq_getElem?_getD, AllP, AllP.cat]
                exact cC.fn_push _ (pth b i, 2, txt b i)
              · omega
              · omega
        · have : i = b.length := by omega
          subst this
          refine AK.run2 foll tok cok7 [(52, false)] 100 rfl (by simp [AllP]) (AK.leave rfl rfl ?_)
          refine AK.run2 foll tok cok7 [] 100 rfl trivial (AK.norm [bW (treeDiff a b)] rfl ?_ (AK.retB [0] rfl ?_ rfl rfl rfl (fun j hj => by simp at hj)))
          · simp [AllP, AllP.cat, treeDiff, h1, h2, R, EqF.same]
          · simp [AllP, treeDiff, h1, h2, R, EqF.same]

theorem ev_treeDiff (a b : List FileT) : Ev X 18 [cF.sl a, cF.sl b] [] (cC.sl (treeDiff a b)) [] :=
  (ev_treeDiffB a b).forget rfl (by simp [AllP, EqF.same]) rfl
def c18 : CtF := fun args σ => match args, σ with
  | [da, db], [] => match slArg 2 da with
    | none => none
    | some (na, ea) => match slArg 2 db with
    | none => none
    | some (nb, eb) => some (cC.sl (treeDiff (cF.list na ea) (cF.list nb eb)), [], [cF.fits na ea, cF.fits nb eb])
  | _, _ => none
theorem t18 : EvT X 18 c18 := by
  intro args σ res σ' obs h ho
  unfold c18 at h
  split at h
  · split at h
    · cases h
    rename_i na ea ha
    split at h
    · cases h
    rename_i nb eb hb
    cases h
    exact (ev_treeDiff _ _ ).args (fun _ vs => RdDs.imp (fun _ => cF.arg_ok ha ho.1) (RdDs.imp (fun _ => cF.arg_ok hb ho.2) (fun _ r => r)) vs)
  · cases h

theorem ev_ldTree (a b : List FileT) : Ev X 19 [cF.sl a, cF.sl b] [] (dB (a == b)) [] := by
  refine Ev.body Try.func19 rfl rfl rfl fun hf => ?_
  have hlen := hf.sl 0 rfl
  by_cases hl : a.length = b.length
  · refine AK.run2 foll tok COK.nil [(10, false)] 100 rfl (by simp [AllP, hl]) ?_
    refine AK.loopB (fun i => i ≤ a.length ∧ ∀ j, j < i → a.getD j ([], []) = b.getD j ([], [])) (fun i : Nat => [(0, cF.sl a), (1, cF.sl b), (5, dI i)]) (fun _ => []) (fun i => a.length - i) 0 rfl ?_ rfl trivial ⟨by omega, by omega⟩ ?_
    · simp [AllP, AllP.cat, EqF.same]
    rintro i ⟨hi, hall⟩
    by_cases h : i < a.length
    · have h' : i < b.length := by omega
      by_cases he : pth a i = pth b i ∧ txt a i = txt b i
      · refine AK.run2 foll tok COK.nil [(14, true), (25, false)] 100 rfl ?_ (AK.againB (i + 1) rfl ?_ rfl trivial ?_ ?_)
        · simp [-List.getD_eq_getElem?_getD, AllP, h, h', pth_eq, txt_eq, he, inR]; omega
        · simp [AllP, AllP.cat, EqF.same]
        · refine ⟨by omega, fun j hj => ?_⟩
          rcases Nat.lt_succ_iff_lt_or_eq.1 hj with hj | rfl
          · exact hall j hj
          · exact Prod.ext he.1 he.2
        · omega
      · refine AK.run2 foll tok COK.nil [(14, true), (25, true)] 100 rfl ?_ (AK.retIn (RetQ.zero rfl ?_))
        · simp [-List.getD_eq_getElem?_getD, AllP, h, h', pth_eq, txt_eq]; exact Classical.not_and_iff_not_or_not.1 he
        · have : (a == b) = false := by
            simp only [beq_eq_false_iff_ne, ne_eq]
            rintro rfl; exact he ⟨rfl, rfl⟩
          simp [AllP, this]
    · refine AK.run2 foll tok COK.nil [(14, false)] 100 rfl (by simp [AllP]; omega) (AK.leave rfl rfl ?_)
      refine AK.run2 foll tok COK.nil [] 100 rfl trivial (AK.ret0 rfl ?_)
      have : a = b := by
        apply List.ext_getElem hl
        intro j h1 h2
        have := hall j (by omega)
        simpa [List.getD_eq_getElem?_getD, List.getElem?_eq_getElem h1, List.getElem?_eq_getElem h2] using this
      simp [AllP, this]
  · refine AK.run2 foll tok COK.nil [(10, true)] 100 rfl ?_ (AK.ret0 rfl ?_)
    · simp [AllP]; omega
    · have : (a == b) = false := by
        simp only [beq_eq_false_iff_ne, ne_eq]
        rintro rfl; exact hl rfl
      simp [AllP, this]
def c19 : CtF := fun args σ => match args, σ with
  | [da, db], [] => match slArg 2 da with
    | none => none
    | some (na, ea) => match slArg 2 db with
    | none => none
    | some (nb, eb) => some (dB ((cF.list na ea) == (cF.list nb eb)), [], [cF.fits na ea, cF.fits nb eb])
  | _, _ => none
theorem t19 : EvT X 19 c19 := by
  intro args σ res σ' obs h ho
  unfold c19 at h
  split at h
  · split at h
    · cases h
    rename_i na ea ha
    split at h
    · cases h
    rename_i nb eb hb
    cases h
    exact (ev_ldTree _ _ ).args (fun _ vs => RdDs.imp (fun _ => cF.arg_ok ha ho.1) (RdDs.imp (fun _ => cF.arg_ok hb ho.2) (fun _ r => r)) vs)
  · cases h

theorem ev_ldChanges (a b : List ChangeT) : Ev X 17 [cC.sl a, cC.sl b] [] (dB (a == b)) [] := by
  refine Ev.body Try.func17 rfl rfl rfl fun hf => ?_
  have hlen := hf.sl 0 rfl
  by_cases hl : a.length = b.length
  · refine AK.run2 foll tok COK.nil [(10, false)] 100 rfl (by simp [AllP, hl]) ?_
    refine AK.loopB (fun i => i ≤ a.length ∧ ∀ j, j < i → a.getD j ([], 0, []) = b.getD j ([], 0, [])) (fun i : Nat => [(0, cC.sl a), (1, cC.sl b), (5, dI i)]) (fun _ => []) (fun i => a.length - i) 0 rfl ?_ rfl trivial ⟨by omega, by omega⟩ ?_
    · simp [AllP, AllP.cat, EqF.same]
    rintro i ⟨hi, hall⟩
    by_cases h : i < a.length
    · have h' : i < b.length := by omega
      by_cases he : pthC a i = pthC b i ∧ kndC a i = kndC b i ∧ txtC a i = txtC b i
      · refine AK.run2 foll tok COK.nil [(14, true), (25, false)] 100 rfl ?_ (AK.againB (i + 1) rfl ?_ rfl trivial ?_ ?_)
        · simp [-List.getD_eq_getElem?_getD, AllP, h, h', pthC_eq, kndC_eq, txtC_eq, he, inR]; omega
        · simp [AllP, AllP.cat, EqF.same]
        · refine ⟨by omega, fun j hj => ?_⟩
          rcases Nat.lt_succ_iff_lt_or_eq.1 hj with hj | rfl
          · exact hall j hj
          · exact Prod.ext he.1 (Prod.ext he.2.1 he.2.2)
        · omega
      · refine AK.run2 foll tok COK.nil [(14, true), (25, true)] 100 rfl ?_ (AK.retIn (RetQ.zero rfl ?_))
        · simp [-List.getD_eq_getElem?_getD, AllP, h, h', pthC_eq, kndC_eq, txtC_eq]; rw [Classical.not_and_iff_not_or_not, Classical.not_and_iff_not_or_not] at he; exact he
        · have : (a == b) = false := by
            simp only [beq_eq_false_iff_ne, ne_eq]
            rintro rfl; exact he ⟨rfl, rfl, rfl⟩
          simp [AllP, this]
    · refine AK.run2 foll tok COK.nil [(14, false)] 100 rfl (by simp [AllP]; omega) (AK.leave rfl rfl ?_)
      refine AK.run2 foll tok COK.nil [] 100 rfl trivial (AK.ret0 rfl ?_)
      have : a = b := by
        apply List.ext_getElem hl
        intro j h1 h2
        have := hall j (by omega)
        simpa [List.getD_eq_getElem?_getD, List.getElem?_eq_getElem h1, List.getElem?_eq_getElem h2] using this
      simp [AllP, this]
  · refine AK.run2 foll tok COK.nil [(10, true)] 100 rfl ?_ (AK.ret0 rfl ?_)
    · simp [AllP]; omega
    · have : (a == b) = false := by
        simp only [beq_eq_false_iff_ne, ne_eq]
        rintro rfl; exact hl rfl
      simp [AllP, this]
def c17 : CtF := fun args σ => match args, σ with
  | [da, db], [] => match slArg 3 da with
    | none => none
    | some (na, ea) => match slArg 3 db with
    | none => none
    | some (nb, eb) => some (dB ((cC.list na ea) == (cC.list nb eb)), [], [cC.fits na ea, cC.fits nb eb])
  | _, _ => none
theorem t17 : EvT X 17 c17 := by
  intro args σ res σ' obs h ho
  unfold c17 at h
  split at h
  · split at h
    · cases h
    rename_i na ea ha
    split at h
    · cases h
    rename_i nb eb hb
    cases h
    exact (ev_ldChanges _ _ ).args (fun _ vs => RdDs.imp (fun _ => cC.arg_ok ha ho.1) (RdDs.imp (fun _ => cC.arg_ok hb ho.2) (fun _ r => r)) vs)
  · cases h
def ct9 : List (Nat × CtF) := (18, c18) :: (19, c19) :: (17, c17) :: ct8
theorem cok9 : COK X ct9 := COK.cons t18 (COK.cons t19 (COK.cons t17 (cok8)))
end Go.AM.R1

/- Rules for use: boxes that a round has made are let go; a box is frozen. -/
namespace Go.AM
open Go.Conc (G)

section drop
variable {σ1 rest : List Box} {s : St}

def St.cut (s : St) (n : Nat) : St := { s with β := s.β.take n }

theorem RdA.drop {v : Value} {a : A} (r : RdA (σ1 ++ rest) s v a) (hin : inA σ1.length a = true) : RdA σ1 (s.cut σ1.length) v a := by
  have lt : ∀ {l : Nat}, Nat.ble (l + 1) σ1.length = true → l < σ1.length := fun h => Nat.le_of_ble_eq_true h
  cases a with
  | c x => exact r
  | any => exact r
  | ptr l o =>
    have hl := lt hin
    obtain ⟨r1, L, b, r2, r3⟩ := r
    refine ⟨fun E k n es he => r1 E k n es (by rw [List.getElem?_append_left hl]; exact he), L, b, ?_, r3⟩
    simp only [St.cut, List.getElem?_take, hl, if_true]
    exact r2
  | ref l =>
    have hl := lt hin
    obtain ⟨r1, L, r2, r3⟩ := r
    refine ⟨fun E k n es he => r1 E k n es (by rw [List.getElem?_append_left hl]; exact he), L, ?_, r3⟩
    simp only [St.cut, List.getElem?_take, hl, if_true]
    exact r2
  | vec l k n es =>
    have hl := lt hin
    obtain ⟨r1, _, r3⟩ := r
    refine ⟨r1, hl, fun E k' n' es' he => ?_⟩
    obtain ⟨h1, h2⟩ := r3 E k' n' es' (by rw [List.getElem?_append_left hl]; exact he)
    refine ⟨h1, fun e => ?_⟩
    obtain ⟨L, h3, h4⟩ := h2 e
    refine ⟨L, ?_, h4⟩
    simp only [St.cut, List.getElem?_take, hl, if_true]
    exact h3

theorem RdL.lose : ∀ {vs : List Value} {cs : List A}, RdL (σ1 ++ rest) s vs cs → inL σ1.length cs = true → RdL σ1 (s.cut σ1.length) vs cs
  | [], [], _, _ => trivial
  | [], _ :: _, r, _ => r.elim
  | _ :: _, [], r, _ => r.elim
  | v :: vs, c :: cs, r, h => by
    simp only [inL] at h
    cases ha : inA σ1.length c with
    | false => simp [ha] at h
    | true => simp only [ha] at h; exact ⟨r.1.drop ha, RdL.lose r.2 h⟩

theorem RdE.lose {v : Value} {e : E1} (r : RdE (σ1 ++ rest) s v e) (h : inE σ1.length e = true) : RdE σ1 (s.cut σ1.length) v e := by
  cases e with
  | one a => exact RdA.drop r h
  | agg cs => obtain ⟨vs, h1, h2⟩ := r; exact ⟨vs, h1, RdL.lose h2 h⟩

theorem RdEs.lose : ∀ {vs : List Value} {cs : List E1}, RdEs (σ1 ++ rest) s vs cs → inEs σ1.length cs = true → RdEs σ1 (s.cut σ1.length) vs cs
  | [], [], _, _ => trivial
  | [], _ :: _, r, _ => r.elim
  | _ :: _, [], r, _ => r.elim
  | v :: vs, c :: cs, r, h => by
    simp only [inEs] at h
    cases ha : inE σ1.length c with
    | false => simp [ha] at h
    | true => simp only [ha] at h; exact ⟨RdE.lose r.1 ha, RdEs.lose r.2 h⟩

theorem RdD.drop {v : Value} {d : D} (r : RdD (σ1 ++ rest) s v d) (h : inD σ1.length d = true) : RdD σ1 (s.cut σ1.length) v d := by
  cases d with
  | e x => exact RdE.lose r h
  | tup xs => obtain ⟨vs, h1, h2⟩ := r; exact ⟨vs, h1, RdEs.lose h2 h⟩
  | any => trivial

theorem HeapOK.drop (h : HeapOK (σ1 ++ rest) s) (hp : plainBs σ1 = true) : HeapOK σ1 (s.cut σ1.length) := by
  have hl : σ1.length ≤ s.β.length := by rw [h.len]; simp
  refine ⟨h.mem, by simp [St.cut, hl], ?_, ?_, ?_, fun b hb => ⟨(h.own b hb).1, fun L hL => (h.own b hb).2 L (List.mem_of_mem_take hL)⟩⟩
  · intro l B L hB hL
    have hlt : l < σ1.length := (List.getElem?_eq_some_iff.1 hB).1
    simp only [St.cut, List.getElem?_take, hlt, if_true] at hL
    exact BoxOK.plain (σ := σ1 ++ rest) (s := s) (s' := s.cut σ1.length) rfl rfl (plainBs_mem hp B (List.mem_of_getElem? hB)) (h.box l B L (by rw [List.getElem?_append_left hlt]; exact hB) hL)
  · intro l l' L L' hL hL' b hb hb'
    simp only [St.cut, List.getElem?_take] at hL hL'
    split at hL <;> split at hL' <;> first | exact h.disj l l' L L' hL hL' b hb hb' | (cases hL; done) | (cases hL'; done)
  · intro L hL b hb
    exact h.lt L (List.mem_of_mem_take hL) b hb

theorem StepW.drop {σ0 : List Box} {s0 : St} (st : StepW σ0 s0 (σ1 ++ rest) s) (hle : σ0.length ≤ σ1.length) : StepW σ0 s0 σ1 (s.cut σ1.length) := by
  refine ⟨st.size, st.keep, st.mem, st.memk, fun L hL b hb => st.bls L (List.mem_of_mem_take hL) b hb, ?_, st.os, st.tape, st.output, st.own⟩
  intro l B L hB hL
  obtain ⟨B', L', h1, h2, h3⟩ := st.box l B L hB hL
  have hl : l < σ1.length := Nat.lt_of_lt_of_le (List.getElem?_eq_some_iff.1 hB).1 hle
  rw [List.getElem?_append_left hl] at h1
  exact ⟨B', L', h1, by simp only [St.cut, List.getElem?_take, hl, if_true]; exact h2, h3⟩

theorem DefL.drop (hnd : noDfr rest = true) : ∀ {ds : List Deferred} {ls : List Nat}, DefL (σ1 ++ rest) s ds ls → DefL σ1 (s.cut σ1.length) ds ls
  | [], [], _ => trivial
  | [], _ :: _, r => r.elim
  | _ :: _, [], r => r.elim
  | d :: ds, l :: ls, ⟨⟨h1, L, r, h2, h3⟩, h5, h6⟩ => by
    have hl : l < σ1.length := by
      rcases Nat.lt_or_ge l σ1.length with h | h
      · exact h
      · rw [List.getElem?_append_right h] at h1
        exact absurd rfl (noDfr_mem hnd _ (List.mem_of_getElem? h1))
    rw [List.getElem?_append_left hl] at h1
    exact ⟨⟨h1, L, r, by simp only [St.cut, List.getElem?_take, hl, if_true]; exact h2, h3⟩, h5, DefL.drop hnd h6⟩

/-- May what stands behind n be let go? -/
def okDrop (n : Nat) (σ : List Box) : Bool := match Nat.ble n σ.length with | true => noDfr (σ.drop n) | false => false

theorem okDrop_ok {n : Nat} {σ : List Box} (h : okDrop n σ = true) : Nat.ble n σ.length = true ∧ noDfr (σ.drop n) = true := by
  unfold okDrop at h
  split at h
  · rename_i h1; exact ⟨h1, h⟩
  · cases h

end drop

def inFr (n : Nat) : Fr → Bool
  | [] => true
  | (_, d) :: r => match inD n d with | true => inFr n r | false => false

theorem inFr_look {n : Nat} : ∀ {φ : Fr} {t : Nat}, inFr n φ = true → inD n (look φ t) = true
  | [], t, _ => rfl
  | (u, d) :: r, t, h => by
    simp only [inFr] at h
    cases hd : inD n d with
    | false => simp [hd] at h
    | true =>
      simp only [hd] at h
      simp only [look]
      cases Nat.beq u t with
      | true => exact hd
      | false => exact inFr_look h

section
variable {P : Program} {X : Cx P} {N : Nat} {Qf : Post} {K : List It} {φ : Fr} {σ : List Box} {c : Code}

/-- What a round must come to. -/
def RoundQ {S : Type} {P : Program} (X : Cx P) (N : Nat) (Qf : Post) (K : List It) (I : S → Prop) (fr : S → Fr) (st : S → List Box) (μ : S → Nat) (n : Nat) (x : S) : Post := fun e φ' σ' => match e with
  | .normal => ∃ y, I y ∧ μ y < μ x ∧ FrLe φ' (fr y) ∧ inFr n (fr y) = true ∧ ∃ σ1 rest, σ' = σ1 ++ rest ∧ σ1.length = n ∧ (plainBs σ1 = true ∧ noDfr rest = true) ∧ BsLe σ1 (st y)
  | e => AK X N Qf K e φ' σ'

/-- A loop whose rounds may make boxes that are let go. n: how many stay. -/
theorem AK.loopD {S : Type} (n : Nat) (I : S → Prop) (fr : S → Fr) (st : S → List Box) (μ : S → Nat) (x : S) {ps qs : List Prop} (hle : leFr φ (fr x) = some ps) (hp : AllP ps) (hbs : leBs σ (st x) = some qs) (hq : AllP qs) (hn : σ.length = n) (h0 : I x)
    (round : ∀ x, I x → AK X N (RoundQ X N Qf K I fr st μ n x) [.code c] .normal (fr x) (st x)) : AK X N Qf (.code (.loop c) :: K) .normal φ σ := by
  intro s a hf hh b kk cs SS hb hQ
  have hb0 := leBs_ok hbs hq
  obtain ⟨hh0, st0, _⟩ := hb0 s hh
  refine arr_loop (fun m a' s' => ∃ y, I y ∧ FrOK N (st y) s' (fr y) a' ∧ HeapOK (st y) s' ∧ StepW σ s (st y) s' ∧ μ y = m) ?_ ?_ ⟨x, h0, (hf.le (leFr_ok hle hp)).bs hb0 hh, hh0, st0.toW hh, rfl⟩
  · rintro n a' s' ⟨y, hI, f', h', stp, e⟩
    exact ⟨st y, h', fun s1 h1 => ⟨y, hI, f'.rely h1 h', h'.rely h1, stp.trans h1.stepW, e⟩⟩
  rintro m a' s' ⟨y, hI, f', h', stp, rfl⟩ ih
  refine round y hI s' a' f' h' b (.inLoop c :: kk) cs SS hb ?_
  intro e φ2 σ2 s2 a2 q f2 h2 st2
  cases e with
  | normal =>
    obtain ⟨z, hz, hlt, hle2, hin, σ1, rest, rfl, hl1, ⟨hpl, hnd⟩, hbz⟩ := q
    have h3 := h2.drop hpl
    obtain ⟨hh4, st4, hr4⟩ := hbz _ h3
    have f3 := f2.le hle2
    have hG : Ghost s2 (s2.cut σ1.length) := ⟨rfl, fun _ _ _ h => h, fun _ _ _ => rfl, h2.mem, fun b hb => hb.imp id fun ⟨L, hL, hb⟩ => ⟨L, List.mem_of_mem_take hL, hb⟩⟩
    refine .ghost hG (ih a2 (s2.cut σ1.length) (μ z) hlt ⟨z, hz, ⟨f3.size, f3.defers.imp fun _ h1 => (h1.drop hnd).mono st4.ext, fun t => hr4 _ _ ((f3.slot t).drop (inFr_look (by rw [hl1]; exact hin)))⟩, hh4, ?_, rfl⟩)
    exact ((stp.trans st2).drop (by omega)).trans (st4.toW h3)
  | _ => exact ends.cons (fun _ _ => rfl) (by simp) (hQ _ _ _ _ _ q f2 h2 (stp.trans st2))

/-- The end of a round. σ1: the boxes that stay. -/
theorem AK.againD {S : Type} {n : Nat} {I : S → Prop} {fr : S → Fr} {st : S → List Box} {μ : S → Nat} {x : S} {K1 : List It} (y : S) {ps qs : List Prop} (hle : leFr φ (fr y) = some ps) (hp : AllP ps) (hin : inFr n (fr y) = true) (hln : okDrop n σ = true) (hbs : leBs (σ.take n) (st y) = some qs) (hq : AllP qs) (hpl : plainBs (σ.take n) = true) (hI : I y) (hμ : μ y < μ x) :
    AK X N (RoundQ X N Qf K1 I fr st μ n x) [] .normal φ σ :=
  ⟨y, hI, hμ, leFr_ok hle hp, hin, σ.take n, σ.drop n, (List.take_append_drop n σ).symm, by simp [Nat.le_of_ble_eq_true (okDrop_ok hln).1], ⟨hpl, (okDrop_ok hln).2⟩, leBs_ok hbs hq⟩

theorem AK.leaveD {S : Type} {n : Nat} {I : S → Prop} {fr : S → Fr} {st : S → List Box} {μ : S → Nat} {x : S} {id : Nat} {K0 K1 K2 : List It} (h1 : exitK id K0 = none) (h2 : exitK id K1 = some K2) (k : AK X N Qf K2 .normal φ σ) :
    AK X N (RoundQ X N Qf K1 I fr st μ n x) (.code (.exit id) :: K0) .normal φ σ :=
  AW.mono (AK.leave (A := fun φ' σ' => RoundQ X N Qf K1 I fr st μ n x .normal φ' σ') h1 h2 k) fun e φ' σ' q => by
    have key : ∀ (K : List It) e, AK X N (fun e φ' σ' => match e with
        | .normal => RoundQ X N Qf K1 I fr st μ n x .normal φ' σ'
        | e => AK X N Qf K1 e φ' σ') K e φ' σ' → AK X N (RoundQ X N Qf K1 I fr st μ n x) K e φ' σ' := by
      have e : (fun e φ' σ' => match e with
        | .normal => RoundQ X N Qf K1 I fr st μ n x .normal φ' σ'
        | e => AK X N Qf K1 e φ' σ') = RoundQ X N Qf K1 I fr st μ n x := by
        funext e φ' σ'; cases e <;> rfl
      intro K e' h
      rw [e] at h
      exact h
    exact key _ _ q

theorem AK.retD {S : Type} {n : Nat} {I : S → Prop} {fr : S → Fr} {st : S → List Box} {μ : S → Nat} {x : S} {K0 K1 : List It} (k : Qf .ret φ σ) : AK X N (RoundQ X N Qf K1 I fr st μ n x) (.code .ret :: K0) .normal φ σ :=
  AK.ret (AK.toRet (Qf := Qf) k)

/-- A box is frozen: from now on it is but read. -/
theorem AK.freeze (t l : Nat) {E : TypeId} {cs : List A} {cc : List C} (ht : look φ t = .e (.one (.ptr l 0))) (hl : getX l σ = some (.cells E cs)) (hc : closeX cs = some cc)
    (kk : AK X N Qf (.code c :: K) .normal ((t, .e (.one (.c (.rp cc)))) :: φ) (putB.setX l .dead σ)) : AK X N Qf (.code c :: K) .normal φ σ := by
  rw [setX_eq] at kk
  refine AK.ghost (fun s a hf hh => ?_) kk
  have hB := getX_eq hl
  have hlt : l < σ.length := (List.getElem?_eq_some_iff.1 hB).1
  have hs := hf.slot t
  rw [ht] at hs
  obtain ⟨_, L, b, hL, hLv, hv⟩ := hs
  obtain ⟨b0, vs, h1, h2, h3, h4⟩ := hh.box l _ L hB hL
  subst h1
  simp at hLv
  subst hLv
  let s' : St := { s with M := fun b' o => if b' = b0 then vs[o]? else s.M b' o }
  have st : Step σ s (σ.set l .dead) s' := by
    refine ⟨Nat.le_refl _, fun _ _ _ => rfl, ?_, ?_, fun L h b hb => .inr ⟨L, h, hb⟩, ?_, rfl, rfl, rfl, rfl⟩
    · intro b o v hm
      have hne : b ≠ b0 := fun e => by subst e; rw [h4] at hm; cases hm
      show (if b = b0 then _ else _) = _
      rw [if_neg hne]; exact hm
    · intro b hb hn o
      have hne : b ≠ b0 := fun e => hn _ (List.mem_of_getElem? hL) (by simp [e])
      show (if b = b0 then _ else _) = _
      rw [if_neg hne]
    · intro l' B L' hB' hL'
      by_cases e : l = l'
      · subst e
        rw [hB] at hB'
        cases hB'
        exact ⟨.dead, L', by rw [List.getElem?_set_self hlt], hL', rfl⟩
      · exact ⟨B, L', by rw [List.getElem?_set_ne e]; exact hB', hL', .refl _ _⟩
  refine ⟨s', rfl, ⟨hf.size, hf.defers.imp fun _ h1 => h1.mono st.ext, fun u => ?_⟩, ⟨?_, by simp [hh.len, s'], ?_, hh.disj, hh.lt, hh.own⟩, st⟩
  · simp only [look]
    cases hb : Nat.beq t u with
    | false => exact (hf.slot u).mono st.ext hh.len
    | true =>
      have e := Nat.eq_of_beq_eq_true hb
      subst e
      rw [hv]
      have hr := closeX_ok hc h3
      refine Rd.rp b0 0 (fun j => (vs[j]?).getD undef) ?_ ?_
      · intro j c hj
        obtain ⟨v, p1, _⟩ := hr.get (j := j) (a := .c c) (by simp [hj])
        show (if b0 = b0 then _ else _) = _
        simp [p1]
      · intro j c hj
        obtain ⟨v, p1, p2⟩ := hr.get (j := j) (a := .c c) (by simp [hj])
        simp only [p1, Option.getD_some]
        exact Rd.mono st.mem p2
  · intro b o v hm
    by_cases e : b = b0
    · subst e
      have hm' : vs[o]? = some v := by simpa [s'] using hm
      show s.w.cell? _ = _
      simp [World.cell?, h2, hm']
    · exact hh.mem b o v (by simpa [s', e] using hm)
  · intro l' B L' hB' hL'
    by_cases e : l = l'
    · subst e
      rw [List.getElem?_set_self hlt] at hB'
      cases hB'
      trivial
    · rw [List.getElem?_set_ne e] at hB'
      refine (hh.box l' B L' hB' hL').carry st.ext hh.len fun b hb => ⟨rfl, fun o => ?_⟩
      have hne : b ≠ b0 := fun hbe => e (hh.disj l l' _ L' hL hL' b (by simp [hbe]) hb)
      show (if b = b0 then _ else _) = _
      rw [if_neg hne]

/-- One operation, by its own law. -/
theorem AK.one {all rest : List Oper} {o : Oper} {x : D} {σ' : List Box} (h : OA X N all o φ σ x σ') (hN : dstOk N o.dst = true) (k : AK X N Qf (.ops all rest :: K) .normal (putD o.dst x φ) σ') : AK X N Qf (.ops all (o :: rest) :: K) .normal φ σ :=
  AOps.ofOA h (dstOk_lt hN) k

end
end Go.AM

/- Maps whose keys are strings or integers. -/
namespace Go.AM

/-- What is found under a key. -/
structure FoundG (d : TypeDesc) (es : Array MapEntry) (k : Value) (a : Option (Nat × Value)) : Prop where
  key : MapKept.IsKey d k
  now : Instr.findNow d k es.toList 0 = some a
  no : a = none → ∀ e ∈ es.toList, e.key ≠ k
  yes : ∀ j v, a = some (j, v) → ∃ e, es[j]? = some e ∧ e.key = k ∧ e.val = v

abbrev Found (es : Array MapEntry) (k : ByteArray) (a : Option (Nat × Value)) : Prop := FoundG .string es (.string k) a

theorem foundG_ex {d : TypeDesc} {es : Array MapEntry} {k : Value} (hk : MapKept.IsKey d k) (h : ∀ e ∈ es.toList, MapKept.IsKey d e.key) : ∃ a, FoundG d es k a := by
  rcases MapKept.findNow_spec hk es.toList 0 h with ⟨h1, h2⟩ | ⟨j, e, h1, h2, h3⟩
  · exact ⟨none, hk, h1, fun _ => h2, by simp⟩
  · refine ⟨_, hk, h1, by simp, fun j' v hjv => ?_⟩
    cases hjv
    exact ⟨e, by simpa using h2, h3, rfl⟩

theorem found_ex {es : Array MapEntry} (k : ByteArray) (h : ∀ e ∈ es.toList, ∃ s, e.key = .string s) : ∃ a, Found es k a :=
  foundG_ex (d := .string) trivial fun e he => by obtain ⟨s, hs⟩ := h e he; rw [hs]; trivial

section
variable {P : Program} {w : World} {t kt et : TypeId} {d : TypeDesc} {r : Nat} {es : Array MapEntry} {clock : Nat} {k : Value} {ok : Bool}

theorem run_und (hk : P.underlying kt = some d) : (underlying kt).run P w = .ok d w := by simp [underlying, hk]

theorem ev_checkKey (hk : P.underlying kt = some d) (hkey : MapKept.IsKey d k) (b : Bool) (evs : Array Event) : (Instr.checkKey b 10000 kt k).events P w evs = evs := by
  show (Instr.checkKey b (9999 + 1) kt k).events P w evs = evs
  unfold Instr.checkKey
  simp only [Sem.events_bind, run_und hk, Result.evThen_ok, events_underlying]
  cases d <;> cases k <;> first | exact hkey.elim | simp

theorem ev_findKey {l : List MapEntry} {a : Option (Nat × Value)} (hk : P.underlying kt = some d) (h : Instr.findNow d k l 0 = some a) (evs : Array Event) : (Instr.findKey kt k l).events P w evs = evs := by
  simp [Instr.findKey, run_und hk, h]

theorem ev_getObj_map (hr : w.heap[r]? = some (.map es clock)) (evs : Array Event) : (getObj r).events P w evs = evs.push ⟨.obj r, false, false⟩ := by
  simp only [getObj, Sem.events, Sem.runT, hr]; rfl
theorem ev_setObj_map (hr : w.heap[r]? = some (.map es clock)) {es' : Array MapEntry} {c' : Nat} (evs : Array Event) : (setObj r (.map es' c')).events P w evs = evs.push ⟨.obj r, true, false⟩ := by
  simp only [setObj, Sem.events, Sem.runT, hr]; rfl

theorem run_checkKeyM (hk : P.underlying kt = some d) (hkey : MapKept.IsKey d k) (b : Bool) : (Instr.checkKey b 10000 kt k).run P w = .ok () w := MapKept.run_checkKey hk hkey b 9999

theorem lookup_mapG (ht : P.underlying t = some (.map kt et)) (hk : P.underlying kt = some d) (hr : w.heap[r]? = some (.map es clock)) {a : Option (Nat × Value)} (hf : FoundG d es k a) {z : Value} (hz : a = none → (zeroValue et).run P w = .ok z w) :
    (Instr.lookup t (.map (some r)) k ok).run P w = .ok (match a with
      | some (_, v) => if ok = true then .tuple #[v, .bool true] else v
      | none => if ok = true then .tuple #[z, .bool false] else z) w ∧ (Instr.lookup t (.map (some r)) k ok).events P w #[] = #[⟨.obj r, false, false⟩] := by
  have hu : (underlying t).run P w = .ok (.map kt et) w := by simp [underlying, ht]
  have hc := run_checkKeyM (w := w) hk hf.key es.isEmpty
  have hfk : (Instr.findKey kt k es.toList).run P w = .ok a w := MapKept.run_findKey hk hf.now
  cases a with
  | some jv =>
    constructor
    · simp only [Instr.lookup, Sem.run_bind, hu, Result.andThen_ok, MapKept.run_getObj_map hr, Sem.run_pure, hc, hfk]
    · simp only [Instr.lookup, Sem.events_bind, hu, Result.evThen_ok, MapKept.run_getObj_map hr, Sem.run_pure, Sem.events_pure, hc, hfk, events_underlying, ev_getObj_map hr, ev_checkKey hk hf.key, ev_findKey hk hf.now]
      rfl
  | none =>
    constructor
    · simp only [Instr.lookup, Sem.run_bind, hu, Result.andThen_ok, MapKept.run_getObj_map hr, Sem.run_pure, hc, hfk, hz rfl]
    · simp only [Instr.lookup, Sem.events_bind, hu, Result.evThen_ok, MapKept.run_getObj_map hr, Sem.run_pure, Sem.events_pure, hc, hfk, events_underlying, ev_getObj_map hr, ev_checkKey hk hf.key, ev_findKey hk hf.now, hz rfl, events_zeroValue]
      rfl

theorem lookup_nilG (ht : P.underlying t = some (.map kt et)) (hk : P.underlying kt = some d) (hkey : MapKept.IsKey d k) {z : Value} (hz : (zeroValue et).run P w = .ok z w) :
    (Instr.lookup t (.map none) k ok).run P w = .ok (if ok = true then .tuple #[z, .bool false] else z) w ∧ (Instr.lookup t (.map none) k ok).events P w #[] = #[] := by
  have hu : (underlying t).run P w = .ok (.map kt et) w := by simp [underlying, ht]
  have hc := run_checkKeyM (w := w) hk hkey (#[] : Array MapEntry).isEmpty
  have hfk : (Instr.findKey kt k (#[] : Array MapEntry).toList).run P w = .ok none w := MapKept.run_findKey hk rfl
  have hfe : ∀ evs, (Instr.findKey kt k (#[] : Array MapEntry).toList).events P w evs = evs := ev_findKey (a := none) hk rfl
  constructor
  · simp only [Instr.lookup, Sem.run_bind, hu, Result.andThen_ok, Sem.run_pure, hc, hfk, hz]
  · simp only [Instr.lookup, Sem.events_bind, hu, Result.evThen_ok, Sem.run_pure, Sem.events_pure, hc, hfk, hfe, events_underlying, ev_checkKey hk hkey, hz, events_zeroValue]

theorem update_mapG (ht : P.underlying t = some (.map kt et)) (hk : P.underlying kt = some d) (hr : w.heap[r]? = some (.map es clock)) {a : Option (Nat × Value)} {x : Value} (hf : FoundG d es k a) :
    (Instr.mapUpdate t (.map (some r)) k x).run P w = .ok () { w with heap := w.heap.setIfInBounds r (match a with
      | some (j, _) => .map (es.modify j fun e => { key := k, val := x, born := e.born }) clock
      | none => .map (es.push { key := k, val := x, born := clock }) (clock + 1)) } ∧
    (Instr.mapUpdate t (.map (some r)) k x).events P w #[] = #[⟨.obj r, false, false⟩, ⟨.obj r, true, false⟩] := by
  have hu : (underlying t).run P w = .ok (.map kt et) w := by simp [underlying, ht]
  have hc := run_checkKeyM (w := w) hk hf.key false
  have hfk : (Instr.findKey kt k es.toList).run P w = .ok a w := MapKept.run_findKey hk hf.now
  cases a with
  | some jv =>
    obtain ⟨j, v⟩ := jv
    obtain ⟨e, he1, he2, _⟩ := hf.yes j v rfl
    have hst : (Instr.keyThatStays k k).run P w = .ok k w := MapKept.run_keyThatStays hf.key
    have hse : ∀ evs, (Instr.keyThatStays k k).events P w evs = evs := fun evs => by simp [Instr.keyThatStays, MapKept.sameBits_self hf.key]
    constructor
    · simp only [Instr.mapUpdate, Sem.run_bind, hu, Result.andThen_ok, MapKept.run_getObj_map hr, hc, hfk, he1, Option.map_some, Option.getD_some, he2, hst, MapKept.run_setObj_map _ hr]
    · simp only [Instr.mapUpdate, Sem.events_bind, hu, Result.evThen_ok, MapKept.run_getObj_map hr, hc, hfk, he1, Option.map_some, Option.getD_some, he2, hst, hse, events_underlying, ev_getObj_map hr, ev_setObj_map hr, ev_checkKey hk hf.key, ev_findKey hk hf.now]
      rfl
  | none =>
    constructor
    · simp only [Instr.mapUpdate, Sem.run_bind, hu, Result.andThen_ok, MapKept.run_getObj_map hr, hc, hfk, MapKept.run_setObj_map _ hr]
    · simp only [Instr.mapUpdate, Sem.events_bind, hu, Result.evThen_ok, MapKept.run_getObj_map hr, hc, hfk, events_underlying, ev_getObj_map hr, ev_setObj_map hr, ev_checkKey hk hf.key, ev_findKey hk hf.now]
      rfl

theorem delete_mapG (ht : P.underlying t = some (.map kt et)) (hk : P.underlying kt = some d) (hr : w.heap[r]? = some (.map es clock)) {a : Option (Nat × Value)} (hf : FoundG d es k a) {kt2 ty : TypeId} :
    (Builtin.delete_ #[t, kt2] ty #[.map (some r), k]).run P w = .ok (.tuple #[]) { w with heap := w.heap.setIfInBounds r (match a with
      | some (j, _) => .map (es.eraseIdxIfInBounds j) clock
      | none => .map es clock) } ∧
    (Builtin.delete_ #[t, kt2] ty #[.map (some r), k]).events P w #[] = #[⟨.obj r, false, false⟩, ⟨.obj r, true, false⟩] := by
  have hu : (underlying t).run P w = .ok (.map kt et) w := by simp [underlying, ht]
  have hc := run_checkKeyM (w := w) hk hf.key es.isEmpty
  have hfk : (Instr.findKey kt k es.toList).run P w = .ok a w := MapKept.run_findKey hk hf.now
  cases a with
  | some jv => constructor <;> simp [Builtin.delete_, Sem.run_bind, hu, Result.andThen_ok, MapKept.run_getObj_map hr, hc, hfk, MapKept.run_setObj_map _ hr, ev_getObj_map hr, ev_setObj_map hr, ev_checkKey hk hf.key, ev_findKey hk hf.now]
  | none => constructor <;> simp [Builtin.delete_, Sem.run_bind, hu, Result.andThen_ok, MapKept.run_getObj_map hr, hc, hfk, MapKept.run_setObj_map _ hr, ev_getObj_map hr, ev_setObj_map hr, ev_checkKey hk hf.key, ev_findKey hk hf.now]

theorem delete_nilG (ht : P.underlying t = some (.map kt et)) (hk : P.underlying kt = some d) (hkey : MapKept.IsKey d k) {kt2 ty : TypeId} :
    (Builtin.delete_ #[t, kt2] ty #[.map none, k]).run P w = .ok (.tuple #[]) w ∧ (Builtin.delete_ #[t, kt2] ty #[.map none, k]).events P w #[] = #[] := by
  have hu : (underlying t).run P w = .ok (.map kt et) w := by simp [underlying, ht]
  have hc := run_checkKeyM (w := w) hk hkey true
  constructor <;> simp [Builtin.delete_, Sem.run_bind, hu, Result.andThen_ok, hc, ev_checkKey hk hkey]

end

end Go.AM

/- A box of the program's own making is turned. -/
namespace Go.AM

theorem HeapOK.turn {σ : List Box} {s : St} (h : HeapOK σ s) {l : Nat} {H H' : Value → (Nat → Option Obj) → Prop} {L L' : Loc} (hB : σ[l]? = some (.opq H)) (hL : s.β[l]? = some L) {w' : World} (hv : L'.v = L.v)
    (hsz : s.w.heap.size ≤ w'.heap.size) (hk : ∀ b, b < s.w.heap.size → b ∉ L.bs → w'.heap[b]? = s.w.heap[b]?) (hbs : ∀ b ∈ L'.bs, b ∈ L.bs ∨ (s.w.heap.size ≤ b ∧ b < w'.heap.size))
    (hb : ∃ ch, H' L'.v ch ∧ (∀ (b : Nat) (o : Obj), ch b = some o → w'.heap[b]? = some o) ∧ (∀ b, b ∈ L'.bs ↔ (ch b).isSome = true)) (ho : w'.os = s.w.os) (ht : w'.tape = s.w.tape) (hp : w'.output = s.w.output) :
    HeapOK (σ.set l (.opq H')) ⟨s.β.set l L', s.M, w', s.own⟩ ∧ Step σ s (σ.set l (.opq H')) ⟨s.β.set l L', s.M, w', s.own⟩ := by
  have hlt : l < σ.length := (List.getElem?_eq_some_iff.1 hB).1
  have hltβ : l < s.β.length := by rw [h.len]; exact hlt
  obtain ⟨ch0, _, _, _, hM0⟩ := h.box l _ L hB hL
  have hMnew : ∀ b ∈ L'.bs, ∀ o, s.M b o = none := by
    intro b hbb o
    rcases hbs b hbb with h1 | ⟨h1, _⟩
    · exact hM0 b h1 o
    · cases hm : s.M b o with
      | none => rfl
      | some v => have := h.block hm; omega
  have st : Step σ s (σ.set l (.opq H')) ⟨s.β.set l L', s.M, w', s.own⟩ := by
    refine ⟨hsz, ?_, fun _ _ _ h => h, fun _ _ _ _ => rfl, ?_, ?_, ho, ht, hp, rfl⟩
    · intro b hb1 hn
      exact hk b hb1 (hn L (List.mem_of_getElem? hL))
    · intro L2 hL2 b hb2
      rcases List.mem_or_eq_of_mem_set hL2 with h1 | h1
      · exact .inr ⟨L2, h1, hb2⟩
      · subst h1
        rcases hbs b hb2 with h2 | h2
        · exact .inr ⟨L, List.mem_of_getElem? hL, h2⟩
        · exact .inl h2.1
    · intro l' B L2 hB2 hL2
      by_cases e : l = l'
      · subst e
        rw [hB] at hB2; cases hB2
        rw [hL] at hL2; cases hL2
        exact ⟨.opq H', L', by rw [List.getElem?_set_self hlt], by show (s.β.set l L')[l]? = _; rw [List.getElem?_set_self hltβ], hv⟩
      · exact ⟨B, L2, by rw [List.getElem?_set_ne e]; exact hB2, by show (s.β.set l L')[l']? = _; rw [List.getElem?_set_ne e]; exact hL2, .refl _ _⟩
  have getL : ∀ (l' : Nat) (L2 : Loc), (s.β.set l L')[l']? = some L2 → (l' = l ∧ L2 = L') ∨ (l ≠ l' ∧ s.β[l']? = some L2) := by
    intro l' L2 h2
    by_cases e : l = l'
    · subst e
      rw [List.getElem?_set_self hltβ] at h2; cases h2
      exact .inl ⟨rfl, rfl⟩
    · rw [List.getElem?_set_ne e] at h2
      exact .inr ⟨e, h2⟩
  refine ⟨⟨?_, by simp [h.len], ?_, ?_, ?_, ?_⟩, st⟩
  · intro b o v hm
    have hbl := h.block hm
    have hnb : b ∉ L.bs := fun hc => by rw [hM0 b hc o] at hm; cases hm
    rw [← h.mem b o v hm]
    simp only [World.cell?]
    rw [hk b hbl hnb]
  · intro l' B L2 hB2 hL2
    rcases getL l' L2 hL2 with ⟨rfl, rfl⟩ | ⟨e, h2⟩
    · rw [List.getElem?_set_self hlt] at hB2; cases hB2
      obtain ⟨ch, k1, k2, k3⟩ := hb
      exact ⟨ch, k1, k2, k3, hMnew⟩
    · rw [List.getElem?_set_ne e] at hB2
      refine (h.box l' B L2 hB2 h2).carry st.ext h.len fun b hbb => ⟨hk b (h.lt L2 (List.mem_of_getElem? h2) b hbb) fun hc => e (h.disj l l' L L2 hL h2 b hc hbb), fun _ => rfl⟩
  · intro l1 l2 L1 L2 h1 h2 b hb1 hb2
    rcases getL l1 L1 h1 with ⟨rfl, rfl⟩ | ⟨e1, h1'⟩ <;> rcases getL l2 L2 h2 with ⟨rfl, rfl⟩ | ⟨e2, h2'⟩
    · rfl
    · rcases hbs b hb1 with hc | hc
      · exact h.disj _ _ L L2 hL h2' b hc hb2
      · have := h.lt L2 (List.mem_of_getElem? h2') b hb2; omega
    · rcases hbs b hb2 with hc | hc
      · exact h.disj _ _ L1 L h1' hL b hb1 hc
      · have := h.lt L1 (List.mem_of_getElem? h1') b hb1; omega
    · exact h.disj _ _ L1 L2 h1' h2' b hb1 hb2
  · intro L2 hL2 b hb2
    rcases List.mem_or_eq_of_mem_set hL2 with h1 | h1
    · exact Nat.lt_of_lt_of_le (h.lt L2 h1 b hb2) hsz
    · subst h1
      rcases hbs b hb2 with h2 | h2
      · exact Nat.lt_of_lt_of_le (h.lt L (List.mem_of_getElem? hL) b h2) hsz
      · exact h2.2
  · intro b hb
    obtain ⟨o1, o2⟩ := h.own b hb
    refine ⟨Nat.lt_of_lt_of_le o1 hsz, fun L2 hL2 hb2 => ?_⟩
    rcases List.mem_or_eq_of_mem_set hL2 with h1 | h1
    · exact o2 L2 h1 hb2
    · subst h1
      rcases hbs b hb2 with h2 | h2
      · exact o2 L (List.mem_of_getElem? hL) h2
      · omega

end Go.AM

/- One box of the program's own making: it is said otherwise. -/
namespace Go.AM

section
variable {H H' : Value → (Nat → Option Obj) → Prop} {s : St}

theorem opq_novec {l : Nat} {E : TypeId} {k n : Nat} {es : Nat → List C} : ([Box.opq H] : List Box)[l]? ≠ some (.vec E k n es) := by
  cases l with
  | zero => simp
  | succ l => simp

theorem RdA.opq {v : Value} {a : A} (r : RdA [.opq H] s v a) : RdA [.opq H'] s v a := by
  cases a with
  | c x => exact r
  | any => exact r
  | ptr l o => exact ⟨fun _ _ _ _ => opq_novec, r.2⟩
  | ref l => exact ⟨fun _ _ _ _ => opq_novec, r.2⟩
  | vec l k n es => exact ⟨r.1, r.2.1, fun _ _ _ _ he => absurd he opq_novec⟩

theorem RdL.opq : ∀ {vs : List Value} {cs : List A}, RdL [.opq H] s vs cs → RdL [.opq H'] s vs cs
  | [], [], _ => trivial
  | [], _ :: _, r => r.elim
  | _ :: _, [], r => r.elim
  | _ :: _, _ :: _, r => ⟨r.1.opq, RdL.opq r.2⟩

theorem RdE.opq {v : Value} {e : E1} (r : RdE [.opq H] s v e) : RdE [.opq H'] s v e := by
  cases e with
  | one a => exact RdA.opq r
  | agg cs => obtain ⟨vs, h1, h2⟩ := r; exact ⟨vs, h1, RdL.opq h2⟩

theorem RdEs.opq : ∀ {vs : List Value} {cs : List E1}, RdEs [.opq H] s vs cs → RdEs [.opq H'] s vs cs
  | [], [], _ => trivial
  | [], _ :: _, r => r.elim
  | _ :: _, [], r => r.elim
  | _ :: _, _ :: _, r => ⟨RdE.opq r.1, RdEs.opq r.2⟩

theorem RdD.opq {v : Value} {d : D} (r : RdD [.opq H] s v d) : RdD [.opq H'] s v d := by
  cases d with
  | e x => exact RdE.opq r
  | tup xs => obtain ⟨vs, h1, h2⟩ := r; exact ⟨vs, h1, RdEs.opq h2⟩
  | any => trivial

theorem DefL.opq {ds : List Deferred} {ls : List Nat} (h : DefL [.opq H] s ds ls) : DefL [.opq H'] s ds ls := by
  cases ls with
  | nil => cases ds with | nil => trivial | cons d ds => exact h.elim
  | cons l ls =>
    have := h.isDfr l (by simp)
    cases l <;> simp at this

theorem FrOK.opq {N : Nat} {φ : Fr} {a : Act} (f : FrOK N [.opq H] s φ a) : FrOK N [.opq H'] s φ a := ⟨f.size, f.defers.imp fun _ h1 => h1.opq, fun t => (f.slot t).opq⟩

/-- The box holds more than was said. -/
theorem HeapOK.opqTo (h : HeapOK [.opq H] s) (hH : ∀ L ch, s.β[0]? = some L → H L.v ch → (∀ (b : Nat) (o : Obj), ch b = some o → s.w.heap[b]? = some o) → H' L.v ch) : HeapOK [.opq H'] s ∧ Step [.opq H] s [.opq H'] s := by
  refine ⟨⟨h.mem, h.len, ?_, h.disj, h.lt, h.own⟩, ⟨Nat.le_refl _, fun _ _ _ => rfl, fun _ _ _ h => h, fun _ _ _ _ => rfl, fun L h b hb => .inr ⟨L, h, hb⟩, ?_, rfl, rfl, rfl, rfl⟩⟩
  · intro l B L hB hL
    cases l with
    | zero =>
      simp at hB; subst hB
      obtain ⟨ch, h1, h2, h3, h4⟩ := h.box 0 _ L rfl hL
      exact ⟨ch, hH L ch hL h1 h2, h2, h3, h4⟩
    | succ l => simp at hB
  · intro l B L hB hL
    cases l with
    | zero => simp at hB; subst hB; exact ⟨_, L, rfl, hL, rfl⟩
    | succ l => simp at hB

end

theorem RetQ.fall {fn : Func} {n0 : Nat} {res : D} {σ' : List Box} {φ : Fr} {σ : List Box} (ks : List Nat) {ps : List Prop} (h : retE fn.results.toList ks φ res = some ps) (hp : AllP ps) (hs : sel ks σ = some σ') (hpl : plainR σ' = true) (hn : nodupX ks = true) (hk : ∀ j, j < n0 → ks[j]? = some j) :
    RetQ fn n0 res σ' .normal φ σ := by
  refine ⟨.inr rfl, ks, ?_⟩
  unfold retE at h
  split at h
  · rename_i ds hds
    split at h
    · rename_i d hd
      split at h
      · rename_i hin
        exact ⟨ds, d, ps, hds, hd, h, hp, hin, hs, hpl, hn, hk⟩
      · cases h
    · cases h
  · cases h

end Go.AM

/- A call whose contract is handed in. -/
namespace Go.AM

theorem AK.callEv {P : Program} {X : Cx P} {N : Nat} {Qf : Post} {K : List It} {φ : Fr} {σ : List Box} {all rest : List Oper} {o : Oper} {fo : Operand} {xs : Array Operand} {ats : Array TypeId} {f : FuncId} {cap : List C} {cargs : List D} {σs σ1 : List Box} {res : D} (hev : Ev X f cargs σs res σ1) (ks : List Nat)
    (hgd : o.guard = none) (ho : o.op = .call { callee := .value fo, args := xs, argTypes := ats }) (hf : calleeE (absO φ fo) = some (f, cap)) (hargs : canDs (xs.toList.map (absO φ) ++ capsD cap) = renDs ks cargs) (hin : inDs ks.length cargs = true)
    (hσ : sel ks σ = some σs) (hp : plainBs σs = true) (hp1 : plainBs σ1 = true) (hn : nodupX ks = true) (hl1 : Nat.ble ks.length σ1.length = true) (hN : dstOk N o.dst = true)
    (k : AK X N Qf (.ops all rest :: K) .normal (putD o.dst (renD (ks ++ upTo σ.length (σ1.length - ks.length)) res) φ) (putB ks σ1 σ)) : AK X N Qf (.ops all (o :: rest) :: K) .normal φ σ :=
  AOps.call (fun _ _ _ _ => wanted_none hgd) ho hf ks hev hargs hin hσ hp hp1 hn (Nat.le_of_ble_eq_true hl1) o.dst rfl (dstOk_lt hN) k

theorem AK.callEvI {P : Program} {ι : Type} {X : Cx P} {N : Nat} {Qf : Post} {K : List It} {φ : Fr} {σ : List Box} {all rest : List Oper} {o : Oper} {fo : Operand} {xs : Array Operand} {ats : Array TypeId} {f : FuncId} {cap : List C} {cargs : List D} {σs : List Box} {σ1 : ι → List Box} {res : ι → D} (hev : EvI X f cargs σs res σ1) (ks : List Nat)
    (hgd : o.guard = none) (ho : o.op = .call { callee := .value fo, args := xs, argTypes := ats }) (hf : calleeE (absO φ fo) = some (f, cap)) (hargs : canDs (xs.toList.map (absO φ) ++ capsD cap) = renDs ks cargs) (hin : inDs ks.length cargs = true)
    (hσ : sel ks σ = some σs) (hp : plainBs σs = true) (hp1 : ∀ j, plainBs (σ1 j) = true) (hn : nodupX ks = true) (hl1 : ∀ j, Nat.ble ks.length (σ1 j).length = true) (hN : dstOk N o.dst = true)
    (k : ∀ j, AK X N Qf (.ops all rest :: K) .normal (putD o.dst (renD (ks ++ upTo σ.length ((σ1 j).length - ks.length)) (res j)) φ) (putB ks (σ1 j) σ)) : AK X N Qf (.ops all (o :: rest) :: K) .normal φ σ :=
  AOps.callI (fun _ _ _ _ => wanted_none hgd) ho hf ks hev hargs hin hσ hp hp1 hn (fun j => Nat.le_of_ble_eq_true (hl1 j)) o.dst rfl (dstOk_lt hN) k

def leDs : List D → List D → Option (List Prop)
  | [], [] => some []
  | a :: al, b :: bs => match leD a b with
    | some p => match leDs al bs with
      | some q => some (catP p q)
      | none => none
    | none => none
  | _, _ => none

theorem leDs_ok {σ : List Box} {s : St} : ∀ {vs : List Value} {xs ys : List D} {ps : List Prop}, leDs xs ys = some ps → AllP ps → RdDs σ s vs xs → RdDs σ s vs ys
  | [], [], [], _, _, _, _ => trivial
  | _ :: _, [], _, _, _, _, h => h.elim
  | [], _ :: _, _, _, _, _, h => h.elim
  | [], [], _ :: _, _, h, _, _ => by simp [leDs] at h
  | _ :: _, _ :: _, [], _, h, _, _ => by simp [leDs] at h
  | v :: vs, a :: al, b :: bs, ps, h, hp, hr => by
    simp only [leDs] at h
    cases h1 : leD a b with
    | none => simp [h1] at h
    | some p =>
      cases h2 : leDs al bs with
      | none => simp [h1, h2] at h
      | some q =>
        simp [h1, h2] at h
        subst h
        rw [AllP.cat] at hp
        exact ⟨leD_ok h1 hp.1 hr.1, leDs_ok h2 hp.2 hr.2⟩

theorem AK.callEvL {P : Program} {ι : Type} {X : Cx P} {N : Nat} {Qf : Post} {K : List It} {φ : Fr} {σ : List Box} {all rest : List Oper} {o : Oper} {fo : Operand} {xs : Array Operand} {ats : Array TypeId} {f : FuncId} {cap : List C} {cargs : List D} {σs : List Box} {σ1 : ι → List Box} {res : ι → D} (hev : EvI X f cargs σs res σ1) (ks : List Nat)
    (hgd : o.guard = none) (ho : o.op = .call { callee := .value fo, args := xs, argTypes := ats }) (hf : calleeE (absO φ fo) = some (f, cap)) {ps : List Prop} (hargs : leDs (xs.toList.map (absO φ) ++ capsD cap) (renDs ks cargs) = some ps) (hps : AllP ps) (hin : inDs ks.length cargs = true)
    (hσ : sel ks σ = some σs) (hp : plainBs σs = true) (hp1 : ∀ j, plainBs (σ1 j) = true) (hn : nodupX ks = true) (hl1 : ∀ j, Nat.ble ks.length (σ1 j).length = true) (hN : dstOk N o.dst = true)
    (k : ∀ j, AK X N Qf (.ops all rest :: K) .normal (putD o.dst (renD (ks ++ upTo σ.length ((σ1 j).length - ks.length)) (res j)) φ) (putB ks (σ1 j) σ)) : AK X N Qf (.ops all (o :: rest) :: K) .normal φ σ :=
  AOps.callR (fun _ _ _ _ => wanted_none hgd) ho hf ks hev (fun s vs h => leDs_ok hargs hps h) hin hσ hp hp1 hn (fun j => Nat.le_of_ble_eq_true (hl1 j)) o.dst rfl (dstOk_lt hN) k

end Go.AM

/- Operations by their own law, given by hand: what is found may be named by an index that is not told ahead. -/
namespace Go.AM
open Go.Conc (G)

theorem put_self {a : Act} {d : Nat} {v : Value} (h : d < a.tmps.size) : (a.put (some d) v).tmps.getD d undef = v := by
  simp [Act.put, Array.getD_eq_getD_getElem?, Array.getElem?_setIfInBounds_self_of_lt h]
theorem put_ne {a : Act} {d t : Nat} {v : Value} (h : d ≠ t) : (a.put (some d) v).tmps.getD t undef = a.tmps.getD t undef := by
  simp [Act.put, Array.getD_eq_getD_getElem?, Array.getElem?_setIfInBounds_ne h]
theorem put_size {a : Act} {d : Nat} {v : Value} : (a.put (some d) v).tmps.size = a.tmps.size := by simp [Act.put]

theorem EvOK.of_eq {s : St} {es es' : Array Event} (h : es = es') (k : EvOK s es') : EvOK s es := by rw [h]; exact k

theorem ev_pureV' {P : Program} {s : St} {m : Sem Value} {n : Sem Next} (h : EvOK s (m.events P s.w #[])) (e : n = (do pure (.value (← m)))) : EvOK s (n.events P s.w #[]) := by
  rw [e]; exact ev_pureV h

theorem ev_callFunc_extern {P : Program} {f : FuncId} {fn : Func} {e : Array Value → Sem Value} (hf : P.funcs[f]? = some fn) (hname : (fn.name == "runtime.NumGoroutine") = false)
    (hb : fn.body.isNone = true) (hn : Extern.findNext fn = none) (he : Extern.find fn = some e) (args : Array Value) (hs : Still P (e args)) (w : World) (es : Array Event) :
    (callFunc f args).events P w es = es.push ⟨.mark (.extern f), false, true⟩ := by
  have h1 : fn.name ≠ "runtime.NumGoroutine" := by simpa using hname
  have h2 : fn.body = none := by simpa using hb
  simp [callFunc, hf, h1, h2, hn, he]
  rw [hs w]

section
variable {P : Program} {X : Cx P} {N : Nat} {Qf : Post} {K : List It} {φ : Fr} {σ : List Box} {all rest : List Oper} {o : Oper}

/-- One operation by hand. -/
theorem AK.hand {ι : Type} (x : ι → D) (σ' : ι → List Box) (hg : o.guard = none) (hN : dstOk N o.dst = true)
    (h : ∀ s a, FrOK N σ s φ a → HeapOK σ s → ∃ i nx s' v, (execOp a.eval o).run P s.w = .ok nx s'.w ∧ (nx = .value v ∨ (nx = .skip ∧ v = undef)) ∧ RdD (σ' i) s' v (x i) ∧ HeapOK (σ' i) s' ∧ Step σ s (σ' i) s' ∧ EvOK s ((execOp a.eval o).events P s.w #[]))
    (k : ∀ i, AK X N Qf (.ops all rest :: K) .normal (putD o.dst (x i) φ) (σ' i)) : AK X N Qf (.ops all (o :: rest) :: K) .normal φ σ := by
  intro s a f hh b kk cs S idx hb hidx hQ
  cases idx with
  | nil => exact hidx.elim
  | cons j idx =>
  refine arr_op hb hidx.1 (wanted_none hg) fun s1 hr1 => ?_
  have hh1 := hh.rely hr1
  have f1 := f.rely hr1 hh
  obtain ⟨i, nx, s', v, h1, h2, h3, h4, h5, h6⟩ := h s1 a f1 hh1
  have hW := h5.toW hh1
  refine ⟨nx, s', v, h1, h2, ⟨⟨σ, σ' i, hh1, h4, h5⟩, h6⟩, ?_⟩
  refine k i s' _ ?_ h4 b kk cs S idx hb hidx.2 fun φ2 σ2 s2 a2 q f2 h2 st => hQ φ2 σ2 s2 a2 q f2 h2 ((hr1.stepW.trans hW).trans st)
  cases hd : o.dst with
  | none => exact f1.mono hW hh1.len
  | some t => exact (f1.mono hW hh1.len).put (dstOk_lt hN t hd) h3

/-- A law of the operation's alone. -/
theorem AK.law {x : D} {σ' : List Box} (h : OpJ P o (absO φ) σ x σ') (hg : o.guard = none) (hN : dstOk N o.dst = true)
    (k : AK X N Qf (.ops all rest :: K) .normal (putD o.dst x φ) σ') : AK X N Qf (.ops all (o :: rest) :: K) .normal φ σ :=
  AK.one (.ofJ (fun _ _ _ _ => wanted_none hg) h) hN k

/-- Fewer things are kept in mind. -/
theorem AK.opsLe {φ' : Fr} {ps : List Prop} (h : leFr φ φ' = some ps) (hp : AllP ps) (k : AK X N Qf (.ops all rest :: K) .normal φ' σ) : AK X N Qf (.ops all rest :: K) .normal φ σ := AOps.le k (leFr_ok h hp)


/-- Is the operation's guard met? -/
def wantE (all : List Oper) (φ : Fr) (o : Oper) : Bool := match o.guard with
  | none => true
  | some (j, b) => match guardE φ all j with
    | some (some true) => b
    | some (some false) => !b
    | _ => false

theorem wantE_ok {all : List Oper} {o : Oper} {φ : Fr} (h : wantE all φ o = true) : ∀ σ s a, FrOK N σ s φ a → Region.wanted o (yielded all.toArray a.tmps) = true := by
  intro σ s a f
  unfold wantE at h
  split at h
  · rename_i hg; exact wanted_none hg
  · rename_i j b hg
    split at h
    · rename_i hgu
      simp only [Region.wanted, hg, guardE_ok hgu f, h]; rfl
    · rename_i hgu
      simp only [Region.wanted, hg, guardE_ok hgu f]
      cases b
      · rfl
      · cases h
    · cases h

/-- A call, perhaps guarded. -/
theorem AK.callEvW {fo : Operand} {xs : Array Operand} {ats : Array TypeId} {f : FuncId} {cap : List C} {cargs : List D} {σs σ1 : List Box} {res : D} (hev : Ev X f cargs σs res σ1) (ks : List Nat)
    (hgd : wantE all φ o = true) (ho : o.op = .call { callee := .value fo, args := xs, argTypes := ats }) (hf : calleeE (absO φ fo) = some (f, cap)) (hargs : canDs (xs.toList.map (absO φ) ++ capsD cap) = renDs ks cargs) (hin : inDs ks.length cargs = true)
    (hσ : sel ks σ = some σs) (hp : plainBs σs = true) (hp1 : plainBs σ1 = true) (hn : nodupX ks = true) (hl1 : Nat.ble ks.length σ1.length = true) (hN : dstOk N o.dst = true)
    (k : AK X N Qf (.ops all rest :: K) .normal (putD o.dst (renD (ks ++ upTo σ.length (σ1.length - ks.length)) res) φ) (putB ks σ1 σ)) : AK X N Qf (.ops all (o :: rest) :: K) .normal φ σ :=
  AOps.call (wantE_ok hgd) ho hf ks hev hargs hin hσ hp hp1 hn (Nat.le_of_ble_eq_true hl1) o.dst rfl (dstOk_lt hN) k

end
end Go.AM

namespace Go.AM.R1
open Go.Proofs
variable {X : Cx Try.prog}

theorem indexByte_lt : ∀ (l : List UInt8) (c : UInt8), Lib.indexByte l c < l.length ∨ Lib.indexByte l c = -1
  | [], c => .inr (by rw [Lib.indexByte.eq_def])
  | b :: l, c => by
    have ih := indexByte_lt l c
    rw [Lib.indexByte.eq_def]
    simp only [List.length_cons]
    split
    · left; omega
    · split
      · right; rfl
      · rename_i h1 h2
        left
        simp at h2
        omega

set_option maxRecDepth 20000 in
theorem ev_indexByte (s : Bs) (c : UInt8) : Ev X 102 [dS s, dU c.toNat] [] (dI (Lib.indexByte s c)) [] := by
  refine Ev.body Try.func102 rfl rfl rfl fun hf => ?_
  have hs := hf.str 0 rfl
  refine AK.run2 foll tok COK.nil [] 100 rfl trivial ?_
  refine AK.one (x := dI (Lib.indexByte s c)) (σ' := []) ?_ rfl ?_
  · refine OA.ofJ (fun _ _ _ _ => wanted_none (by rfl)) ?_
    refine OpJ.quietE fun st ρ hh hr => ?_
    have h1 := rdC (hr (.tmp 5))
    have h2 := rdC (hr (.tmp 6))
    generalize hv1 : ρ (.tmp 5) = v1 at h1
    generalize hv2 : ρ (.tmp 6) = v2 at h2
    cases h1 with
    | str e1 l1 =>
    cases h2 with
    | int l2 =>
    have hfn : ρ (.func 107) = .func (.func 107) #[] #[] := by
      have := rdC (hr (.func 107))
      generalize ρ (.func 107) = v at this
      cases this with
      | fn fs cs a b f1 f2 c1 c2 d1 d2 =>
        have : fs = [] := List.eq_nil_of_length_eq_zero a
        subst this
        have : cs = [] := List.eq_nil_of_length_eq_zero b
        subst this
        rfl
    have hcall : (callFunc 107 #[.string ‹ByteArray›, .int .u8 c.toNat]).run Try.prog st.w = .ok (.value (.int .i64 (Lib.indexByte s c))) st.w := by
      rw [run_callFunc_extern Try.func107 (by kernel_rfl) (by kernel_rfl) (by kernel_rfl) (e := Extern.BytealgIndexByte.indexByte) (by kernel_rfl), Lib.run_indexByteString]
      subst e1
      simp
    have hst : Still Try.prog (Extern.BytealgIndexByte.indexByte #[.string ‹ByteArray›, .int .u8 c.toNat]) := by
      refine Still.bind (m := Extern.Bytes.bytesOf (.string ‹ByteArray›)) (fun _ _ => rfl) fun b => Still.bind (m := Extern.Bytes.asByte (.int .u8 c.toNat)) (fun _ _ => ?_) fun d => ?_
      · simp [Extern.Bytes.asByte]
      · skip
        split <;> exact .pure
    have hevc := ev_callFunc_extern Try.func107 (by kernel_rfl) (by kernel_rfl) (by kernel_rfl) (e := Extern.BytealgIndexByte.indexByte) (by kernel_rfl) _ hst st.w #[]
    refine ⟨.int .i64 (Lib.indexByte s c), ?_, Rd.int ?_, ?_⟩
    rotate_left 2
    · intro ev he
      simp [execOp, resolve, Deferred.ofValue, invoke, hv1, hv2, hfn, hevc] at he
      subst he
      exact .inr ⟨_, rfl⟩
    · simp [execOp, resolve, Deferred.ofValue, invoke, hv1, hv2, hfn, hcall]
    · have h3 := Lib.indexByte_ge s c
      have h4 := indexByte_lt s c
      simp only [inR]; omega
  · refine AK.run2 foll tok COK.nil [] 100 rfl trivial (AK.ret0 rfl ?_)
    simp [AllP]
end Go.AM.R1

namespace Go.AM
abbrev tSSB (a b : Bs) (c : Bool) : D := .tup [.one (.c (.str a)), .one (.c (.str b)), .one (.c (.bool c))]
namespace R1
open Go.Proofs
variable {X : Cx Try.prog}
theorem ev_indexByteI (s : Bs) (c : Int) (h : 0 ≤ c ∧ c ≤ 255) : Ev X 102 [dS s, dU c] [] (dI (Lib.indexByte s (UInt8.ofNat (Int.toNat c)))) [] := by
  have e : c = ((UInt8.ofNat c.toNat).toNat : Int) := by
    rw [UInt8.toNat_ofNat']
    omega
  have := ev_indexByte (X := X) s (UInt8.ofNat c.toNat)
  rw [← e] at this
  exact this
def c102 : CtF := fun args σ => match args, σ with
  | [.e (.one (.c (.str a))), .e (.one (.c (.int .u8 b)))], [] => some (dI (Lib.indexByte a (UInt8.ofNat (Int.toNat b))), [], [0 ≤ b ∧ b ≤ 255])
  | _, _ => none
theorem t102 : EvT X 102 c102 := by
  intro args σ res σ' obs h ho
  unfold c102 at h
  split at h
  · cases h
    exact (ev_indexByteI _ _ (ho)).args (fun _ _ r => r)
  · cases h
def ct10 : List (Nat × CtF) := (102, c102) :: ct9
theorem cok10 : COK X ct10 := COK.cons t102 (cok9)

def slash : Bs := [47]
def idx47 (s : Bs) : Int := Lib.indexByte s 47

theorem ev_index (s : Bs) : Ev X 95 [dS s, dS [47]] [] (dI (idx47 s)) [] := by
  refine Ev.body Try.func95 rfl rfl rfl fun hf => ?_
  by_cases h : s = [47]
  · subst h
    refine AK.run2 foll tok cok10 [(18, false), (22, true)] 100 rfl ?_ (AK.ret0 rfl ?_)
    · simp [AllP]
    · simp [AllP, idx47, Lib.indexByte.eq_def]
  · refine AK.run2 foll tok cok10 [(18, false), (22, false), (26, true)] 100 rfl ?_ (AK.ret0 rfl ?_)
    · simp [AllP, byteAt_eq, byteI]; exact fun e => h e.symm
    · simp [AllP, idx47, byteAt]
def c95 : CtF := fun args σ => match args, σ with
  | [.e (.one (.c (.str a))), .e (.one (.c (.str [47])))], [] => some (dI (idx47 a), [], [])
  | _, _ => none
theorem t95 : EvT X 95 c95 := by
  intro args σ res σ' obs h ho
  unfold c95 at h
  split at h
  · cases h; exact ev_index _
  · cases h
def ct11 : List (Nat × CtF) := (95, c95) :: ct10
theorem cok11 : COK X ct11 := COK.cons t95 (cok10)

def cutS1 (s : Bs) : Bs := if 0 ≤ idx47 s then s.take (idx47 s).toNat else s
def cutS2 (s : Bs) : Bs := if 0 ≤ idx47 s then s.drop ((idx47 s).toNat + 1) else []
def cutS3 (s : Bs) : Bool := decide (0 ≤ idx47 s)

theorem ev_cut83 (s : Bs) : Ev X 83 [dS s, dS [47]] [] (tSSB (cutS1 s) (cutS2 s) (cutS3 s)) [] := by
  refine Ev.body Try.func83 rfl rfl rfl fun hf => ?_
  have hs := hf.str 0 rfl
  have hlt := indexByte_lt s 47
  change idx47 s < s.length ∨ idx47 s = -1 at hlt
  by_cases h : 0 ≤ idx47 s
  · have e1 : (idx47 s + 1).toNat = (idx47 s).toNat + 1 := by omega
    refine AK.run2 foll tok cok11 [(12, true)] 100 rfl ?_ (AK.ret0 rfl ?_)
    · simp [AllP, h, inR]; omega
    · simp [AllP, AllP.cat, cutS1, cutS2, cutS3, h, cutS, e1]
  · refine AK.run2 foll tok cok11 [(12, false)] 100 rfl ?_ (AK.ret0 rfl ?_)
    · simp [AllP]; omega
    · simp [AllP, AllP.cat, cutS1, cutS2, cutS3, h]
def c83 : CtF := fun args σ => match args, σ with
  | [.e (.one (.c (.str a))), .e (.one (.c (.str [47])))], [] => some (tSSB (cutS1 a) (cutS2 a) (cutS3 a), [], [])
  | _, _ => none
theorem t83 : EvT X 83 c83 := by
  intro args σ res σ' obs h ho
  unfold c83 at h
  split at h
  · cases h; exact ev_cut83 _
  · cases h
def ct12 : List (Nat × CtF) := (83, c83) :: ct11
theorem cok12 : COK X ct12 := COK.cons t83 (cok11)

theorem ev_cut (s : Bs) : Ev X 74 [dS s, dS [47]] [] (tSSB (cutS1 s) (cutS2 s) (cutS3 s)) [] := by
  refine Ev.body Try.func74 rfl rfl rfl fun hf => ?_
  refine AK.run2 foll tok cok12 [] 100 rfl trivial (AK.ret0 rfl ?_)
  simp [AllP, AllP.cat]
def c74 : CtF := fun args σ => match args, σ with
  | [.e (.one (.c (.str a))), .e (.one (.c (.str [47])))], [] => some (tSSB (cutS1 a) (cutS2 a) (cutS3 a), [], [])
  | _, _ => none
theorem t74 : EvT X 74 c74 := by
  intro args σ res σ' obs h ho
  unfold c74 at h
  split at h
  · cases h; exact ev_cut _
  · cases h

def folderLetter (s : Bs) : Bool := decide (s.length = 1) && decide (97 ≤ byteI s 0) && decide (byteI s 0 ≤ 101)

theorem ev_folderLetter (s : Bs) : Ev X 75 [dS s] [] (dB (folderLetter s)) [] := by
  refine Ev.body Try.func75 rfl rfl rfl fun hf => ?_
  by_cases h1 : s.length = 1
  · by_cases h2 : 97 ≤ byteI s 0
    · refine AK.run2 foll tok COK.nil [(5, true), (9, true)] 100 rfl ?_ (AK.ret0 rfl ?_)
      · simp only [AllP, decide_eq_true_eq]; simp [h1, byteAt_eq, h2]
      · show decide (byteI s 0 ≤ 101) = folderLetter s
        simp [folderLetter, h1, h2]
    · refine AK.run2 foll tok COK.nil [(5, true), (9, false)] 100 rfl ?_ (AK.ret0 rfl ?_)
      · simp only [AllP, decide_eq_false_iff_not]; simp [h1, byteAt_eq]; omega
      · simp [AllP, folderLetter, h2]
  · refine AK.run2 foll tok COK.nil [(5, false)] 100 rfl ?_ (AK.ret0 rfl ?_)
    · simp [AllP]; omega
    · simp [AllP, folderLetter, h1]
def c75 : CtF := fun args σ => match args, σ with
  | [.e (.one (.c (.str a)))], [] => some (dB (folderLetter a), [], [])
  | _, _ => none
theorem t75 : EvT X 75 c75 := by
  intro args σ res σ' obs h ho
  unfold c75 at h
  split at h
  · cases h
    have _ := ho
    exact (ev_folderLetter _ ).args (fun _ _ r => r)
  · cases h
def ct13 : List (Nat × CtF) := (74, c74) :: (75, c75) :: ct12
theorem cok13 : COK X ct13 := COK.cons t74 (COK.cons t75 (cok12))

def pathOkI (s : Bs) : Bool := folderLetter (cutS1 s) && (!cutS3 s || folderLetter (cutS2 s))

theorem ev_pathOkI (s : Bs) : Ev X 51 [dS s] [] (dB (pathOkI s)) [] := by
  refine Ev.body Try.func51 rfl rfl rfl fun hf => ?_
  cases h1 : folderLetter (cutS1 s) with
  | false =>
    refine AK.run2 foll tok cok13 [(13, false)] 100 rfl ?_ (AK.ret0 rfl ?_)
    · simp [AllP, h1]
    · simp [AllP, pathOkI, h1]
  | true =>
    cases h2 : cutS3 s with
    | false =>
      refine AK.run2 foll tok cok13 [(13, true), (15, false)] 100 rfl ?_ (AK.ret0 rfl ?_)
      · simp [AllP, h1, h2]
      · simp [AllP, pathOkI, h1, h2]
    | true =>
      refine AK.run2 foll tok cok13 [(13, true), (15, true)] 100 rfl ?_ (AK.ret0 rfl ?_)
      · simp [AllP, h1, h2]
      · simp [AllP, pathOkI, h1, h2]
def c51 : CtF := fun args σ => match args, σ with
  | [.e (.one (.c (.str a)))], [] => some (dB (pathOkI a), [], [])
  | _, _ => none
theorem t51 : EvT X 51 c51 := by
  intro args σ res σ' obs h ho
  unfold c51 at h
  split at h
  · cases h
    have _ := ho
    exact (ev_pathOkI _ ).args (fun _ _ r => r)
  · cases h

theorem ev_lettersI (s : Bs) : Ev X 76 [dS s] [] (dB (letters s)) [] := by
  refine Ev.body Try.func76 rfl rfl rfl fun hf => ?_
  have hs := hf.str 0 rfl
  refine AK.run2 foll tok COK.nil [] 100 rfl trivial ?_
  refine AK.loopB (fun i => i ≤ s.length ∧ ∀ j, j < i → letterB (s.getD j 0) = true) (fun i : Nat => [(0, dS s), (5, dI s.length), (6, dI i)]) (fun _ => []) (fun i => s.length - i) 0 rfl ?_ rfl trivial ⟨by omega, by omega⟩ ?_
  · simp [AllP.cat, AllP]
  rintro i ⟨hi, hall⟩
  by_cases h : i < s.length
  · generalize hb : s.getD i 0 = b
    by_cases h1 : b.toNat < 97
    · refine AK.run2 foll tok COK.nil [(7, true), (12, true)] 100 rfl ?_ (AK.retIn (RetQ.zero rfl ?_))
      · simp only [AllP, byteAt_nat, decide_eq_true_eq, hb]; omega
      · rw [AllP, letters_false h (by rw [hb]; simp only [letterB, Bool.and_eq_false_iff, decide_eq_false_iff_not]; omega)]
    · by_cases h2 : b.toNat > 122
      · refine AK.run2 foll tok COK.nil [(7, true), (12, false), (17, true)] 100 rfl ?_ (AK.retIn (RetQ.zero rfl ?_))
        · simp only [AllP, byteAt_nat, decide_eq_true_eq, decide_eq_false_iff_not, hb]; omega
        · rw [AllP, letters_false h (by rw [hb]; simp only [letterB, Bool.and_eq_false_iff, decide_eq_false_iff_not]; omega)]
      · refine AK.run2 foll tok COK.nil [(7, true), (12, false), (17, false)] 100 rfl ?_ (AK.againB (i + 1) rfl ?_ rfl trivial ?_ ?_)
        · simp only [AllP, byteAt_nat, decide_eq_true_eq, decide_eq_false_iff_not, hb, inR]; omega
        · simp [AllP.cat, AllP]
        · refine ⟨by omega, fun j hj => ?_⟩
          rcases Nat.lt_succ_iff_lt_or_eq.1 hj with hj | rfl
          · exact hall j hj
          · rw [hb]; simp only [letterB, Bool.and_eq_true, decide_eq_true_eq]; omega
        · omega
  · refine AK.run2 foll tok COK.nil [(7, false)] 100 rfl (by simp [AllP]; omega) (AK.leave rfl rfl ?_)
    refine AK.run2 foll tok COK.nil [] 100 rfl trivial (AK.ret0 rfl ?_)
    rw [AllP, letters_true (fun j hj => hall j (by omega))]
def c76 : CtF := fun args σ => match args, σ with
  | [.e (.one (.c (.str a)))], [] => some (dB (letters a), [], [])
  | _, _ => none
theorem t76 : EvT X 76 c76 := by
  intro args σ res σ' obs h ho
  unfold c76 at h
  split at h
  · cases h
    have _ := ho
    exact (ev_lettersI _ ).args (fun _ _ r => r)
  · cases h
def ct14 : List (Nat × CtF) := (51, c51) :: (76, c76) :: ct13
theorem cok14 : COK X ct14 := COK.cons t51 (COK.cons t76 (cok13))

theorem ev_textOkI (s : Bs) : Ev X 52 [dS s] [] (dB (textOk s)) [] := by
  refine Ev.body Try.func52 rfl rfl rfl fun hf => ?_
  by_cases h1 : s.length ≤ 40
  · refine AK.run2 foll tok cok14 [(5, true)] 100 rfl ?_ (AK.ret0 rfl ?_)
    · simp [AllP]; omega
    · simp [AllP, textOk, h1]
  · refine AK.run2 foll tok cok14 [(5, false)] 100 rfl ?_ (AK.ret0 rfl ?_)
    · simp [AllP]; omega
    · simp [AllP, textOk, h1]
def c52 : CtF := fun args σ => match args, σ with
  | [.e (.one (.c (.str a)))], [] => some (dB (textOk a), [], [])
  | _, _ => none
theorem t52 : EvT X 52 c52 := by
  intro args σ res σ' obs h ho
  unfold c52 at h
  split at h
  · cases h
    have _ := ho
    exact (ev_textOkI _ ).args (fun _ _ r => r)
  · cases h

def hasPre (s p : Bs) : Bool := decide (p.length ≤ s.length) && (s.take p.length == p)

theorem ev_hasPre78 (s p : Bs) : Ev X 78 [dS s, dS p] [] (dB (hasPre s p)) [] := by
  refine Ev.body Try.func78 rfl rfl rfl fun hf => ?_
  by_cases h1 : p.length ≤ s.length
  · refine AK.run2 foll tok COK.nil [(9, true)] 100 rfl ?_ (AK.ret0 rfl ?_)
    · simp [AllP, h1]
    · simp [AllP, hasPre, h1, cutS]
  · refine AK.run2 foll tok COK.nil [(9, false)] 100 rfl ?_ (AK.ret0 rfl ?_)
    · simp [AllP]; omega
    · simp [AllP, hasPre, h1]
def c78 : CtF := fun args σ => match args, σ with
  | [.e (.one (.c (.str a))), .e (.one (.c (.str b)))], [] => some (dB (hasPre a b), [], [])
  | _, _ => none
theorem t78 : EvT X 78 c78 := by
  intro args σ res σ' obs h ho
  unfold c78 at h
  split at h
  · cases h
    have _ := ho
    exact (ev_hasPre78 _ _ ).args (fun _ _ r => r)
  · cases h
def ct15 : List (Nat × CtF) := (52, c52) :: (78, c78) :: ct14
theorem cok15 : COK X ct15 := COK.cons t52 (COK.cons t78 (cok14))

theorem ev_hasPre (s p : Bs) : Ev X 55 [dS s, dS p] [] (dB (hasPre s p)) [] := by
  refine Ev.body Try.func55 rfl rfl rfl fun hf => ?_
  refine AK.run2 foll tok cok15 [] 100 rfl trivial (AK.ret0 rfl ?_)
  simp [AllP]
def c55 : CtF := fun args σ => match args, σ with
  | [.e (.one (.c (.str a))), .e (.one (.c (.str b)))], [] => some (dB (hasPre a b), [], [])
  | _, _ => none
theorem t55 : EvT X 55 c55 := by
  intro args σ res σ' obs h ho
  unfold c55 at h
  split at h
  · cases h
    have _ := ho
    exact (ev_hasPre _ _ ).args (fun _ _ r => r)
  · cases h

def folderOf (s : Bs) : Bs := if cutS3 s = true then cutS1 s else []

theorem ev_folderOf (s : Bs) : Ev X 65 [dS s] [] (dS (folderOf s)) [] := by
  refine Ev.body Try.func65 rfl rfl rfl fun hf => ?_
  cases h2 : cutS3 s with
  | false =>
    refine AK.run2 foll tok cok13 [(12, false)] 100 rfl ?_ (AK.ret0 rfl ?_)
    · simp [AllP, h2]
    · simp [AllP, folderOf, h2]
  | true =>
    refine AK.run2 foll tok cok13 [(12, true)] 100 rfl ?_ (AK.ret0 rfl ?_)
    · simp [AllP, h2]
    · simp [AllP, folderOf, h2]
def c65 : CtF := fun args σ => match args, σ with
  | [.e (.one (.c (.str a)))], [] => some (dS (folderOf a), [], [])
  | _, _ => none
theorem t65 : EvT X 65 c65 := by
  intro args σ res σ' obs h ho
  unfold c65 at h
  split at h
  · cases h
    have _ := ho
    exact (ev_folderOf _ ).args (fun _ _ r => r)
  · cases h
def ct16 : List (Nat × CtF) := (55, c55) :: (65, c65) :: ct15
theorem cok16 : COK X ct16 := COK.cons t55 (COK.cons t65 (cok15))
end R1
end Go.AM

namespace Go.AM
theorem Cod.list_off {α : Type} (c : Cod α) (l : List α) (k n : Nat) (h : k + n ≤ l.length) : c.list n (offF k (c.fn l)) = (l.drop k).take n := by
  apply List.ext_getElem
  · simp [Cod.list]; omega
  · intro i h1 h2
    have hi : i < n := by simpa [Cod.list] using h1
    simp [Cod.list, offF, Cod.fn, slF, List.getD_eq_getElem?_getD, List.getElem?_eq_getElem (by omega : k + i < l.length), c.inv]
theorem Cod.fits_off {α : Type} (c : Cod α) (l : List α) {k n : Nat} : c.fits n (offF k (c.fn l)) := fun i _ => by simp [offF, Cod.fn, slF, c.inv]
abbrev dR (p x : Bs) : D := .e (.one (.c (.rp [.str p, .str x])))
namespace R1
open Go.Proofs
variable {X : Cx Try.prog}

/-- Does a path lie under another's? -/
def under (p q : Bs) : Bool := hasPre p (q ++ [47])

theorem ev_under (a : FileT) (p x : Bs) (h : a.1.length ≤ 1000000) : Ev X 54 [dP a, dR p x] [] (dB (under p a.1)) [] := by
  refine Ev.body Try.func54 rfl rfl rfl fun hf => ?_
  refine AK.run2 foll tok cok16 [] 100 rfl ?_ (AK.ret0 rfl ?_)
  · simp [AllP]; omega
  · simp [AllP, under]
def c54 : CtF := fun args σ => match args, σ with
  | [.e (.agg [.c (.str a0), .c (.str a1)]), .e (.one (.c (.rp [.str p, .str x])))], [] => some (dB (under p a0), [], [a0.length ≤ 1000000 ∧ a1 = a1 ∧ x = x])
  | _, _ => none
theorem t54 : EvT X 54 c54 := by
  intro args σ res σ' obs h ho
  unfold c54 at h
  split at h
  · rename_i a0 a1 p x
    cases h; exact ev_under (a0, a1) p x ho.1
  · cases h
def ct17 : List (Nat × CtF) := (54, c54) :: ct16
theorem cok17 : COK X ct17 := COK.cons t54 (cok16)

abbrev dFn54 (p x : Bs) : D := .e (.one (.c (.fn (.func 54) [] [.rp [.str p, .str x]])))
def idxU (t : List FileT) (p : Bs) : Int := match t.findIdx? (fun f => under p f.1) with | some i => i | none => -1

theorem idxU_at {t : List FileT} {p : Bs} {i : Nat} (hi : i < t.length) (h : under p (pth t i) = true) (hall : ∀ j, j < i → under p (pth t j) = false) : idxU t p = i := by
  have : t.findIdx? (fun f => under p f.1) = some i := by
    rw [List.findIdx?_eq_some_iff_getElem]
    refine ⟨hi, ?_, fun j hj => ?_⟩
    · rw [fileAt hi]; exact h
    · rw [fileAt (by omega : j < t.length)]; simp [hall j hj]
  rw [idxU, this]

theorem idxU_none {t : List FileT} {p : Bs} (hall : ∀ j, j < t.length → under p (pth t j) = false) : idxU t p = -1 := by
  have : t.findIdx? (fun f => under p f.1) = none := by
    rw [List.findIdx?_eq_none_iff]
    intro f hf
    obtain ⟨j, hj, rfl⟩ := List.getElem_of_mem hf
    rw [fileAt hj]; exact hall j hj
  rw [idxU, this]

theorem ev_idxU (t : List FileT) (p x : Bs) (hb : ∀ j, j < t.length → (pth t j).length ≤ 1000000) : Ev X 77 [cF.sl t, dFn54 p x] [] (dI (idxU t p)) [] := by
  refine Ev.body Try.func77 rfl rfl rfl fun hf => ?_
  have hlen := hf.sl 0 rfl
  refine AK.run2 foll tok cok17 [] 100 rfl trivial ?_
  refine AK.loopB (fun i => i ≤ t.length ∧ ∀ j, j < i → under p (pth t j) = false) (fun i : Nat => [(0, cF.sl t), (1, dFn54 p x), (7, dI t.length), (8, dI i)]) (fun _ => []) (fun i => t.length - i) 0 rfl ?_ rfl trivial ⟨by omega, by omega⟩ ?_
  · simp [AllP.cat, AllP, EqF.same]
  rintro i ⟨hi, hall⟩
  by_cases h : i < t.length
  · have hbi := hb i h
    cases h1 : under p (pth t i) with
    | true =>
      refine AK.run2 foll tok cok17 [(9, true), (16, true)] 100 rfl ?_ (AK.retIn (RetQ.zero rfl ?_))
      · simp [-List.getD_eq_getElem?_getD, AllP, h, pth_eq, h1]; omega
      · simp [AllP, idxU_at h h1 hall]
    | false =>
      refine AK.run2 foll tok cok17 [(9, true), (16, false)] 100 rfl ?_ (AK.againB (i + 1) rfl ?_ rfl trivial ?_ ?_)
      · simp [-List.getD_eq_getElem?_getD, AllP, h, pth_eq, h1, inR]; omega
      · simp [AllP.cat, AllP, EqF.same]
      · refine ⟨by omega, fun j hj => ?_⟩
        rcases Nat.lt_succ_iff_lt_or_eq.1 hj with hj | rfl
        · exact hall j hj
        · exact h1
      · omega
  · refine AK.run2 foll tok cok17 [(9, false)] 100 rfl (by simp [AllP]; omega) (AK.leave rfl rfl ?_)
    refine AK.run2 foll tok cok17 [] 100 rfl trivial (AK.ret0 rfl ?_)
    simp [AllP, idxU_none (fun j hj => hall j (by omega))]
def smallP (t : List FileT) : Prop := ∀ j, j < t.length → (pth t j).length ≤ 1000000
def c77 : CtF := fun args σ => match args, σ with
  | [d, .e (.one (.c (.fn (.func 54) [] [.rp [.str p, .str x]])))], [] => match slArg 2 d with
    | none => none
    | some (n, es) => some (dI (idxU (cF.list n es) p), [], [cF.fits n es, smallP (cF.list n es), x = x])
  | _, _ => none
theorem t77 : EvT X 77 c77 := by
  intro args σ res σ' obs h ho
  unfold c77 at h
  split at h
  · rename_i d p x
    split at h
    · cases h
    rename_i n es hd
    cases h
    exact (ev_idxU _ p x ho.2.1).args (fun _ vs => RdDs.imp (fun _ => cF.arg_ok hd ho.1) (RdDs.imp (fun _ r => r) (fun _ r => r)) vs)
  · cases h
def ct18 : List (Nat × CtF) := (77, c77) :: ct17
theorem cok18 : COK X ct18 := COK.cons t77 (cok17)

theorem ev_anyU (t : List FileT) (p x : Bs) (hb : smallP t) : Ev X 53 [cF.sl t, dFn54 p x] [] (dB (decide (0 ≤ idxU t p))) [] := by
  refine Ev.body Try.func53 rfl rfl rfl fun hf => ?_
  refine AK.run2 foll tok cok18 [] 100 rfl ?_ (AK.ret0 rfl ?_)
  · simp [AllP, cF.fits_fn, cF.list_fn, hb]
  · simp [AllP, cF.list_fn]
def c53 : CtF := fun args σ => match args, σ with
  | [d, .e (.one (.c (.fn (.func 54) [] [.rp [.str p, .str x]])))], [] => match slArg 2 d with
    | none => none
    | some (n, es) => some (dB (decide (0 ≤ idxU (cF.list n es) p)), [], [cF.fits n es, smallP (cF.list n es), x = x])
  | _, _ => none
theorem t53 : EvT X 53 c53 := by
  intro args σ res σ' obs h ho
  unfold c53 at h
  split at h
  · rename_i d p x
    split at h
    · cases h
    rename_i n es hd
    cases h
    exact (ev_anyU _ p x ho.2.1).args (fun _ vs => RdDs.imp (fun _ => cF.arg_ok hd ho.1) (RdDs.imp (fun _ r => r) (fun _ r => r)) vs)
  · cases h
def ct19 : List (Nat × CtF) := (53, c53) :: ct18
theorem cok19 : COK X ct19 := COK.cons t53 (cok18)

def stepOkI (t : List FileT) (i : Nat) : Bool :=
  pathOkI (pth t i) && textOk (txt t i) && (i == 0 || !(Op.bytesLess (pth t i) (pth t (i - 1)) || pth t i == pth t (i - 1))) && (List.range i).all fun j => !under (pth t i) (pth t j)
def treeOkI (t : List FileT) : Bool := (List.range t.length).all (stepOkI t) && decide (t.length ≤ 6)

theorem treeOkI_false {t : List FileT} {i : Nat} (hi : i < t.length) (h : stepOkI t i = false) : treeOkI t = false := by
  cases hb : treeOkI t with
  | false => rfl
  | true =>
    simp only [treeOkI, Bool.and_eq_true] at hb
    rw [all_range.1 hb.1 i hi] at h; cases h

theorem pathOkI_len {s : Bs} (h : pathOkI s = true) : s.length ≤ 3 := by
  simp only [pathOkI, folderLetter, Bool.and_eq_true, Bool.or_eq_true, decide_eq_true_eq, Bool.not_eq_true'] at h
  obtain ⟨⟨⟨h1, _⟩, _⟩, h2⟩ := h
  have hlt := indexByte_lt s 47
  change idx47 s < s.length ∨ idx47 s = -1 at hlt
  by_cases h3 : 0 ≤ idx47 s
  · simp only [cutS1, h3, if_true, List.length_take] at h1
    rcases h2 with h2 | h2
    · simp [cutS3, h3] at h2
    · have := h2.1.1
      simp only [cutS2, h3, if_true, List.length_drop] at this
      omega
  · simp only [cutS1, h3, if_false] at h1
    omega

theorem idxU_range {t : List FileT} {p : Bs} {i : Nat} (hi : i ≤ t.length) : decide (0 ≤ idxU (t.take i) p) = !(List.range i).all fun j => !under p (pth t j) := by
  have e : ∀ j, j < i → pth (t.take i) j = pth t j := by
    intro j hj
    simp [pth, List.getD_eq_getElem?_getD, hj]
  cases hb : (List.range i).all fun j => !under p (pth t j) with
  | true =>
    have := all_range.1 hb
    rw [idxU_none (fun j hj => by
      have hj' : j < i := by simp at hj; omega
      rw [e j hj']; simpa using this j hj')]
    simp
  | false =>
    have hex : ∃ j, j < i ∧ under p (pth t j) = true := by
      cases Classical.em (∃ j, j < i ∧ under p (pth t j) = true) with
      | inl h => exact h
      | inr h =>
        have : (List.range i).all (fun j => !under p (pth t j)) = true := all_range.2 (fun j hj => by
          cases hu : under p (pth t j) with
          | false => rfl
          | true => exact absurd ⟨j, hj, hu⟩ h)
        rw [hb] at this; cases this
    have : ∃ k : Nat, idxU (t.take i) p = k := by
      unfold idxU
      cases hf : (t.take i).findIdx? (fun f => under p f.1) with
      | some k => exact ⟨k, rfl⟩
      | none =>
        obtain ⟨j, hj, hu⟩ := hex
        rw [List.findIdx?_eq_none_iff] at hf
        have hjl : j < (t.take i).length := by simp; omega
        have := hf _ (List.getElem_mem hjl)
        rw [fileAt hjl] at this
        simp only at this
        rw [e j hj, hu] at this; cases this
    obtain ⟨k, hk⟩ := this
    rw [hk]; simp

theorem ev_treeOkI (t : List FileT) : Ev X 22 [cF.sl t] [] (dB (treeOkI t)) [] := by
  refine Ev.body Try.func22 rfl rfl rfl fun hf => ?_
  have hlen := hf.sl 0 rfl
  refine AK.run2 foll tok cok19 [] 100 rfl trivial ?_
  refine AK.loopD 0 (fun i => i ≤ t.length ∧ ∀ j, j < i → stepOkI t j = true) (fun i : Nat => [(0, cF.sl t), (5, cF.sl t), (6, dI t.length), (7, dI i)]) (fun _ => []) (fun i => t.length - i) 0 rfl ?_ rfl trivial rfl ⟨by omega, by omega⟩ ?_
  · simp [AllP.cat, AllP, EqF.same]
  rintro i ⟨hi, hall⟩
  by_cases h : i < t.length
  · cases h1 : pathOkI (pth t i) with
    | false =>
      refine AK.run2 foll tok cok19 [(8, true), (14, false)] 200 rfl ?_ (AK.retD (RetQ.zero rfl ?_))
      · simp [-List.getD_eq_getElem?_getD, AllP, h, pth_eq, h1]
      · simp [AllP, treeOkI_false h (by simp [stepOkI, h1])]
    | true =>
      cases h2 : textOk (txt t i) with
      | false =>
        refine AK.run2 foll tok cok19 [(8, true), (14, true), (19, false)] 200 rfl ?_ (AK.retD (RetQ.zero rfl ?_))
        · simp [-List.getD_eq_getElem?_getD, AllP, h, pth_eq, txt_eq, h1, h2]
        · simp [AllP, treeOkI_false h (by simp [stepOkI, h2])]
      | true =>
        have hsm : smallP (t.take i) := by
          intro j hj
          simp only [List.length_take] at hj
          have e : pth (t.take i) j = pth t j := by simp [pth, List.getD_eq_getElem?_getD, (by omega : j < i)]
          rw [e]
          have := hall j (by omega)
          simp only [stepOkI, Bool.and_eq_true] at this
          have := pathOkI_len this.1.1.1
          omega
        have hl1 : cF.list ((i : Int).toNat - 0) (offF 0 (cF.fn t)) = t.take i := by rw [cF.list_off t 0 _ (by simp; omega)]; simp
        cases h0 : (i == 0 || !(Op.bytesLess (pth t i) (pth t (i - 1)) || pth t i == pth t (i - 1))) with
        | false =>
          have hst : stepOkI t i = false := by simp only [stepOkI, h0]; simp
          have h00 : i ≠ 0 := by rintro rfl; simp at h0
          have h3 : (Op.bytesLess (pth t i) (pth t (i - 1)) || pth t i == pth t (i - 1)) = true := by
            simp only [Bool.or_eq_false_iff, Bool.not_eq_false'] at h0; exact h0.2
          have hin : inR .i64 ((i : Int) - 1) := by simp only [inR]; omega
          have e1 : ((i : Int) - 1).toNat = i - 1 := by omega
          refine AK.run2 foll tok cok19 [(8, true), (14, true), (19, true), (24, true), (34, true)] 200 rfl ?_ (AK.retD (RetQ.zero rfl ?_))
          · simp only [AllP, pth_eq, txt_eq, Int.toNat_natCast, e1, h3, h1, h2, decide_eq_true_eq, hin]; simp; omega
          · simp [AllP, treeOkI_false h hst]
        | true =>
          have hst : stepOkI t i = (List.range i).all fun j => !under (pth t i) (pth t j) := by simp only [stepOkI, h0, h1, h2]; simp
          apply AK.join [(0, cF.sl t), (3, dI i), (5, cF.sl t), (6, dI t.length), (7, dI i), (4, .e (.one (.ptr 0 0)))] [.cells 59 [.c (.str (pth t i)), .c (.str (txt t i))]]
          · intro hk
            by_cases h00 : i = 0
            · refine AK.run2 foll tok cok19 [(8, true), (14, true), (19, true), (24, false), (1000006, true)] 200 rfl ?_ (hk _ _ rfl ?_)
              · simp only [AllP, pth_eq, txt_eq, Int.toNat_natCast, h1, h2, decide_eq_true_eq, decide_eq_false_iff_not]; simp; omega
              · simp [AllP.cat, AllP, EqF.same]
            · have h3 : (Op.bytesLess (pth t i) (pth t (i - 1)) || pth t i == pth t (i - 1)) = false := by
                simp only [Bool.or_eq_true, Bool.not_eq_true', beq_iff_eq] at h0
                exact h0.resolve_left h00
              have hin : inR .i64 ((i : Int) - 1) := by simp only [inR]; omega
              have e1 : ((i : Int) - 1).toNat = i - 1 := by omega
              refine AK.run2 foll tok cok19 [(8, true), (14, true), (19, true), (24, true), (34, false), (1000006, true)] 200 rfl ?_ (hk _ _ rfl ?_)
              · simp only [AllP, pth_eq, txt_eq, Int.toNat_natCast, e1, h3, h1, h2, decide_eq_true_eq, hin]; simp; omega
              · simp [AllP.cat, AllP, EqF.same]
          · refine AK.freeze 4 0 rfl rfl rfl ?_
            have hr := idxU_range (t := t) (p := pth t i) (i := i) hi
            have hfit : cF.fits ((i : Int).toNat - 0) (offF 0 (cF.fn t)) := cF.fits_off t
            cases hu : (List.range i).all fun j => !under (pth t i) (pth t j) with
            | false =>
              rw [hu] at hr hst
              refine AK.run2 foll tok cok19 [(41, true)] 200 rfl ?_ (AK.retD (RetQ.zero rfl ?_))
              · simp only [AllP, bndN]
                have hr2 : decide (0 ≤ idxU (cF.list ((i : Int).toNat - 0) (offF 0 (cF.fn t))) (pth t i)) = true := by rw [hl1]; exact hr
                exact ⟨hfit, by rw [hl1]; exact hsm, trivial, hr2, by omega, by omega⟩
              · simp [AllP, treeOkI_false h hst]
            | true =>
              rw [hu] at hr hst
              refine AK.run2 foll tok cok19 [(41, false)] 200 rfl ?_ (AK.againD (i + 1) rfl ?_ rfl rfl rfl ?_ rfl ?_ ?_)
              · simp only [AllP, bndN]
                have hr2 : decide (0 ≤ idxU (cF.list ((i : Int).toNat - 0) (offF 0 (cF.fn t))) (pth t i)) = false := by rw [hl1]; exact hr
                exact ⟨by simp only [inR]; omega, hfit, by rw [hl1]; exact hsm, trivial, hr2, by omega, by omega⟩
              · simp [AllP.cat, AllP, EqF.same]
              · trivial
              · refine ⟨by omega, fun j hj => ?_⟩
                rcases Nat.lt_succ_iff_lt_or_eq.1 hj with hj | rfl
                · exact hall j hj
                · exact hst
              · omega
  · have : i = t.length := by omega
    subst this
    refine AK.run2 foll tok cok19 [(8, false)] 100 rfl (by simp [AllP]) (AK.leaveD rfl rfl ?_)
    refine AK.run2 foll tok cok19 [] 100 rfl trivial (AK.ret0 rfl ?_)
    simp only [AllP, treeOkI]
    rw [all_range.2 (fun j hj => hall j hj)]
    simp; omega
def c22 : CtF := fun args σ => match args, σ with
  | [da], [] => match slArg 2 da with
    | none => none
    | some (na, ea) => some (dB (treeOkI (cF.list na ea)), [], [cF.fits na ea])
  | _, _ => none
theorem t22 : EvT X 22 c22 := by
  intro args σ res σ' obs h ho
  unfold c22 at h
  split at h
  · split at h
    · cases h
    rename_i na ea ha
    cases h
    exact (ev_treeOkI _ ).args (fun _ vs => RdDs.imp (fun _ => cF.arg_ok ha ho) (fun _ r => r) vs)
  · cases h
def ct20 : List (Nat × CtF) := (22, c22) :: ct19
theorem cok20 : COK X ct20 := COK.cons t22 (cok19)
end R1
end Go.AM

namespace Go.AM

def bsV (p : Bs) : Value := .string ⟨p.toArray⟩
theorem bsV_inj {p q : Bs} (h : bsV p = bsV q) : p = q := by
  simp only [bsV, Value.string.injEq, ByteArray.mk.injEq] at h
  simpa using congrArg Array.toList h
theorem bsV_of {sb : ByteArray} {p : Bs} (h : sb.data.toList = p) : Value.string sb = bsV p := by
  subst h; simp [bsV]

namespace R1
open Go.Proofs
variable {X : Cx Try.prog}

structure FHs (l : List FileT) (v : Value) (ch : Nat → Option Obj) (r0 : Nat) (es0 : Array MapEntry) (c0 : Nat) (inn : Bs → Option (Nat × Array MapEntry × Nat)) : Prop where
  val : v = .map (some r0)
  out : ch r0 = some (.map es0 c0)
  st0 : MapKept.Stamped es0 c0
  key0 : ∀ e ∈ es0.toList, ∃ f r es c, e.key = bsV f ∧ e.val = .map (some r) ∧ inn f = some (r, es, c)
  inn0 : ∀ f r es c, inn f = some (r, es, c) → ∃ e ∈ es0.toList, e.key = bsV f ∧ e.val = .map (some r)
  inn1 : ∀ f r es c, inn f = some (r, es, c) → ch r = some (.map es c) ∧ MapKept.Stamped es c ∧ r ≠ r0
  key1 : ∀ f r es c, inn f = some (r, es, c) → ∀ e ∈ es.toList, ∃ p x, e.key = bsV p ∧ e.val = bsV x ∧ (p, x) ∈ l ∧ folderOf p = f
  inj : ∀ f f' r es c es' c', inn f = some (r, es, c) → inn f' = some (r, es', c') → f = f'
  all : ∀ p x, (p, x) ∈ l → ∃ r es c, inn (folderOf p) = some (r, es, c) ∧ ∃ e ∈ es.toList, e.key = bsV p ∧ e.val = bsV x
  only : ∀ b o, ch b = some o → b = r0 ∨ ∃ f es c, inn f = some (b, es, c)
  sorted : l.Pairwise fun a b => Op.bytesLess a.1 b.1 = true
  len : ∀ p x, (p, x) ∈ l → p.length ≤ 9223372036854775807 ∧ x.length ≤ 9223372036854775807

/-- What the program's map of maps holds. -/
def FH (l : List FileT) : Value → (Nat → Option Obj) → Prop := fun v ch => ∃ r0 es0 c0 inn, FHs l v ch r0 es0 c0 inn

theorem getF_mem : ∀ {l : List FileT} {p x : Bs}, getF l p = some x → (p, x) ∈ l
  | [], p, x, h => by cases h
  | f :: r, p, x, h => by
    simp only [getF] at h
    split at h
    · rename_i hb
      cases h
      have : f.1 = p := by simpa using hb
      rw [← this]; exact List.mem_cons_self
    · exact List.mem_cons_of_mem _ (getF_mem h)

theorem getF_no : ∀ {l : List FileT} {p : Bs}, getF l p = none → ∀ x, (p, x) ∉ l
  | [], p, _, x => by simp
  | f :: r, p, h, x => by
    simp only [getF] at h
    split at h
    · cases h
    · rename_i hb
      intro hm
      rcases List.mem_cons.1 hm with rfl | hm
      · simp at hb
      · exact getF_no h x hm

theorem key_uniq {es : Array MapEntry} {c : Nat} (h : MapKept.Stamped es c) {e e' : MapEntry} (he : e ∈ es.toList) (he' : e' ∈ es.toList) (hk : e.key = e'.key) : e = e' := by
  obtain ⟨i, hi, rfl⟩ := List.getElem_of_mem he
  obtain ⟨j, hj, rfl⟩ := List.getElem_of_mem he'
  have hn := h.2.2
  have hij : i = j := by
    have := List.getElem_inj (h₀ := by simpa using hi) (h₁ := by simpa using hj) hn (i := i) (j := j)
    apply this.1
    simpa using hk
  subst hij; rfl

/-- What the two look-ups find. -/
theorem FHs.find {l : List FileT} {v : Value} {ch : Nat → Option Obj} {r0 : Nat} {es0 : Array MapEntry} {c0 : Nat} {inn : Bs → Option (Nat × Array MapEntry × Nat)} (h : FHs l v ch r0 es0 c0 inn) (p : Bs) :
    (inn (folderOf p) = none ∧ Found es0 ⟨(folderOf p).toArray⟩ none ∧ getF l p = none) ∨
    ∃ r es c j, inn (folderOf p) = some (r, es, c) ∧ Found es0 ⟨(folderOf p).toArray⟩ (some (j, .map (some r))) ∧ ((Found es ⟨p.toArray⟩ none ∧ getF l p = none) ∨ ∃ j' x, Found es ⟨p.toArray⟩ (some (j', bsV x)) ∧ getF l p = some x) := by
  obtain ⟨a, ha⟩ := found_ex (es := es0) ⟨(folderOf p).toArray⟩ (fun e he => by obtain ⟨f, _, _, _, h1, _⟩ := h.key0 e he; exact ⟨_, h1⟩)
  cases hi : inn (folderOf p) with
  | none =>
    refine .inl ⟨rfl, ?_, ?_⟩
    · cases a with
      | none => exact ha
      | some jv =>
        obtain ⟨e, h1, h2, h3⟩ := ha.yes jv.1 jv.2 rfl
        obtain ⟨f, r, es, c, k1, k2, k3⟩ := h.key0 e (by rw [Array.mem_toList_iff]; exact Array.mem_of_getElem? h1)
        have : f = folderOf p := bsV_inj (k1.symm.trans h2)
        rw [this, hi] at k3; cases k3
    · cases hg : getF l p with
      | none => rfl
      | some x =>
        obtain ⟨r, es, c, h1, _⟩ := h.all p x (getF_mem hg)
        rw [hi] at h1; cases h1
  | some rec =>
    obtain ⟨r, es, c⟩ := rec
    obtain ⟨e0, he0, hk0, hv0⟩ := h.inn0 _ _ _ _ hi
    obtain ⟨b, hb⟩ := found_ex (es := es) ⟨p.toArray⟩ (fun e he => by obtain ⟨q, x, h1, _⟩ := h.key1 _ _ _ _ hi e he; exact ⟨_, h1⟩)
    have hst := (h.inn1 _ _ _ _ hi).2.1
    cases a with
    | none => exact absurd hk0 (ha.no rfl e0 he0)
    | some jv =>
      obtain ⟨j, v⟩ := jv
      obtain ⟨e, h1, h2, h3⟩ := ha.yes j v rfl
      have hee : e = e0 := key_uniq h.st0 (by rw [Array.mem_toList_iff]; exact Array.mem_of_getElem? h1) he0 (h2.trans hk0.symm)
      subst hee
      have hv : v = .map (some r) := by rw [← h3, hv0]
      subst hv
      refine .inr ⟨r, es, c, j, rfl, ha, ?_⟩
      cases b with
      | none =>
        refine .inl ⟨hb, ?_⟩
        cases hg : getF l p with
        | none => rfl
        | some x =>
          obtain ⟨r', es', c', k1, e', k2, k3, _⟩ := h.all p x (getF_mem hg)
          rw [hi] at k1; cases k1
          exact absurd k3 (hb.no rfl e' k2)
      | some jv =>
        obtain ⟨j', v'⟩ := jv
        obtain ⟨e', k1, k2, k3⟩ := hb.yes j' v' rfl
        have hm : e' ∈ es.toList := by rw [Array.mem_toList_iff]; exact Array.mem_of_getElem? k1
        obtain ⟨q, x, m1, m2, m3, m4⟩ := h.key1 _ _ _ _ hi e' hm
        have hq : q = p := bsV_inj (m1.symm.trans k2)
        subst hq
        have hvx : v' = bsV x := by rw [← k3, m2]
        subst hvx
        refine .inr ⟨j', x, hb, ?_⟩
        cases hg : getF l q with
        | none => exact absurd m3 (getF_no hg x)
        | some y =>
          obtain ⟨r', es', c', n1, e'', n2, n3, n4⟩ := h.all q y (getF_mem hg)
          rw [hi] at n1; cases n1
          have : e'' = e' := key_uniq hst n2 hm (n3.trans m1.symm)
          subst this
          rw [m2] at n4
          rw [bsV_inj n4]
end R1
end Go.AM

namespace Go.AM.R1
open Go.Proofs
variable {X : Cx Try.prog}

/-- One inner map is turned. -/
theorem FHs.setInner {l l' : List FileT} {v : Value} {ch : Nat → Option Obj} {r0 : Nat} {es0 : Array MapEntry} {c0 : Nat} {inn : Bs → Option (Nat × Array MapEntry × Nat)} (h : FHs l v ch r0 es0 c0 inn) {f : Bs} {r : Nat} {es es' : Array MapEntry} {c c' : Nat} (hi : inn f = some (r, es, c))
    (hst : MapKept.Stamped es' c') (hes : ∀ e ∈ es'.toList, ∃ q y, e.key = bsV q ∧ e.val = bsV y ∧ (q, y) ∈ l' ∧ folderOf q = f) (hin : ∀ q y, (q, y) ∈ l' → folderOf q = f → ∃ e ∈ es'.toList, e.key = bsV q ∧ e.val = bsV y)
    (hout : ∀ q y, folderOf q ≠ f → ((q, y) ∈ l' ↔ (q, y) ∈ l)) (hso : l'.Pairwise fun a b => Op.bytesLess a.1 b.1 = true) (hle : ∀ p x, (p, x) ∈ l' → p.length ≤ 9223372036854775807 ∧ x.length ≤ 9223372036854775807) :
    FHs l' v (fun b => if b = r then some (.map es' c') else ch b) r0 es0 c0 (fun g => if g = f then some (r, es', c') else inn g) := by
  have hr := h.inn1 f r es c hi
  have other : ∀ g, g ≠ f → ∀ r2 es2 c2, inn g = some (r2, es2, c2) → r2 ≠ r := by
    intro g hg r2 es2 c2 h2 e
    subst e
    exact hg (h.inj g f _ _ _ _ _ h2 hi)
  refine ⟨h.val, ?_, h.st0, ?_, ?_, ?_, ?_, ?_, ?_, ?_, hso, hle⟩
  · show (if r0 = r then _ else _) = _
    rw [if_neg (fun e => hr.2.2 e.symm)]; exact h.out
  · intro e he
    obtain ⟨g, r2, es2, c2, h1, h2, h3⟩ := h.key0 e he
    by_cases hg : g = f
    · subst hg
      rw [hi] at h3
      cases h3
      exact ⟨g, r, es', c', h1, h2, if_pos rfl⟩
    · exact ⟨g, r2, es2, c2, h1, h2, by show (if g = f then _ else _) = _; rw [if_neg hg]; exact h3⟩
  · intro g r2 es2 c2 hg
    by_cases hgf : g = f
    · subst hgf
      simp only [if_true] at hg
      cases hg
      exact h.inn0 _ _ _ _ hi
    · simp only [hgf, if_false] at hg
      exact h.inn0 _ _ _ _ hg
  · intro g r2 es2 c2 hg
    by_cases hgf : g = f
    · subst hgf
      simp only [if_true] at hg
      cases hg
      exact ⟨if_pos rfl, hst, hr.2.2⟩
    · simp only [hgf, if_false] at hg
      have h2 := h.inn1 _ _ _ _ hg
      refine ⟨?_, h2.2⟩
      show (if r2 = r then _ else _) = _
      rw [if_neg (other g hgf _ _ _ hg)]; exact h2.1
  · intro g r2 es2 c2 hg e he
    by_cases hgf : g = f
    · subst hgf
      simp only [if_true] at hg
      cases hg
      exact hes e he
    · simp only [hgf, if_false] at hg
      obtain ⟨p, x, k1, k2, k3, k4⟩ := h.key1 _ _ _ _ hg e he
      exact ⟨p, x, k1, k2, (hout p x (by rw [k4]; exact hgf)).2 k3, k4⟩
  · intro g g' r2 es2 c2 es3 c3 hg hg'
    by_cases hgf : g = f
    · subst hgf
      simp only [if_true] at hg
      cases hg
      by_cases hgf' : g' = g
      · exact hgf'.symm
      · simp only [hgf', if_false] at hg'
        exact absurd rfl (other g' hgf' _ _ _ hg')
    · simp only [hgf, if_false] at hg
      by_cases hgf' : g' = f
      · subst hgf'
        simp only [if_true] at hg'
        cases hg'
        exact absurd rfl (other g hgf _ _ _ hg)
      · simp only [hgf', if_false] at hg'
        exact h.inj _ _ _ _ _ _ _ hg hg'
  · intro p x hm
    by_cases hp : folderOf p = f
    · refine ⟨r, es', c', if_pos hp, hin p x hm hp⟩
    · obtain ⟨r2, es2, c2, h1, h2⟩ := h.all p x ((hout p x hp).1 hm)
      exact ⟨r2, es2, c2, by show (if folderOf p = f then _ else _) = _; rw [if_neg hp]; exact h1, h2⟩
  · intro b o hb
    by_cases hbr : b = r
    · subst hbr
      exact .inr ⟨f, es', c', if_pos rfl⟩
    · simp only [hbr, if_false] at hb
      rcases h.only b o hb with h1 | ⟨g, es2, c2, h1⟩
      · exact .inl h1
      · have hgf : g ≠ f := by rintro rfl; rw [hi] at h1; cases h1; exact hbr rfl
        exact .inr ⟨g, es2, c2, by show (if g = f then _ else _) = _; rw [if_neg hgf]; exact h1⟩

/-- A new inner map, empty. -/
theorem FHs.newInner {l : List FileT} {v : Value} {ch : Nat → Option Obj} {r0 : Nat} {es0 : Array MapEntry} {c0 : Nat} {inn : Bs → Option (Nat × Array MapEntry × Nat)} (h : FHs l v ch r0 es0 c0 inn) {f : Bs} {r : Nat} (hi : inn f = none) (hr : ch r = none) (hno : ∀ e ∈ es0.toList, e.key ≠ bsV f) :
    FHs l v (fun b => if b = r0 then some (.map (es0.push ⟨bsV f, .map (some r), c0⟩) (c0 + 1)) else if b = r then some (.map #[] 0) else ch b) r0 (es0.push ⟨bsV f, .map (some r), c0⟩) (c0 + 1) (fun g => if g = f then some (r, #[], 0) else inn g) := by
  have hr0 : r ≠ r0 := by rintro rfl; rw [h.out] at hr; cases hr
  have other : ∀ g r2 es2 c2, inn g = some (r2, es2, c2) → r2 ≠ r := by
    rintro g r2 es2 c2 h2 rfl
    rw [(h.inn1 _ _ _ _ h2).1] at hr; cases hr
  refine ⟨h.val, if_pos rfl, MapKept.stamped_push h.st0 hno, ?_, ?_, ?_, ?_, ?_, ?_, ?_, h.sorted, h.len⟩
  · intro e he
    rw [Array.toList_push, List.mem_append] at he
    rcases he with he | he
    · obtain ⟨g, r2, es2, c2, h1, h2, h3⟩ := h.key0 e he
      have hg : g ≠ f := by rintro rfl; rw [hi] at h3; cases h3
      exact ⟨g, r2, es2, c2, h1, h2, by show (if g = f then _ else _) = _; rw [if_neg hg]; exact h3⟩
    · simp at he
      subst he
      exact ⟨f, r, #[], 0, rfl, rfl, if_pos rfl⟩
  · intro g r2 es2 c2 hg
    by_cases hgf : g = f
    · subst hgf
      simp only [if_true] at hg
      cases hg
      exact ⟨_, by rw [Array.toList_push]; exact List.mem_append_right _ (List.mem_singleton.2 rfl), rfl, rfl⟩
    · simp only [hgf, if_false] at hg
      obtain ⟨e, h1, h2⟩ := h.inn0 _ _ _ _ hg
      exact ⟨e, by rw [Array.toList_push]; exact List.mem_append_left _ h1, h2⟩
  · intro g r2 es2 c2 hg
    by_cases hgf : g = f
    · subst hgf
      simp only [if_true] at hg
      cases hg
      refine ⟨?_, MapKept.stamped_empty _, hr0⟩
      show (if r = r0 then _ else if r = r then _ else _) = _
      rw [if_neg hr0, if_pos rfl]
    · simp only [hgf, if_false] at hg
      have h2 := h.inn1 _ _ _ _ hg
      refine ⟨?_, h2.2⟩
      show (if r2 = r0 then _ else if r2 = r then _ else _) = _
      rw [if_neg h2.2.2, if_neg (other _ _ _ _ hg)]; exact h2.1
  · intro g r2 es2 c2 hg e he
    by_cases hgf : g = f
    · subst hgf
      simp only [if_true] at hg
      cases hg
      simp at he
    · simp only [hgf, if_false] at hg
      exact h.key1 _ _ _ _ hg e he
  · intro g g' r2 es2 c2 es3 c3 hg hg'
    by_cases hgf : g = f
    · subst hgf
      simp only [if_true] at hg
      cases hg
      by_cases hgf' : g' = g
      · exact hgf'.symm
      · simp only [hgf', if_false] at hg'
        exact absurd rfl (other g' _ _ _ hg')
    · simp only [hgf, if_false] at hg
      by_cases hgf' : g' = f
      · subst hgf'
        simp only [if_true] at hg'
        cases hg'
        exact absurd rfl (other g _ _ _ hg)
      · simp only [hgf', if_false] at hg'
        exact h.inj _ _ _ _ _ _ _ hg hg'
  · intro p x hm
    obtain ⟨r2, es2, c2, h1, h2⟩ := h.all p x hm
    have hp : folderOf p ≠ f := by rintro rfl; rw [hi] at h1; cases h1
    exact ⟨r2, es2, c2, by show (if folderOf p = f then _ else _) = _; rw [if_neg hp]; exact h1, h2⟩
  · intro b o hb
    by_cases hb0 : b = r0
    · exact .inl hb0
    · simp only [hb0, if_false] at hb
      by_cases hbr : b = r
      · subst hbr; exact .inr ⟨f, #[], 0, if_pos rfl⟩
      · simp only [hbr, if_false] at hb
        rcases h.only b o hb with h1 | ⟨g, es2, c2, h1⟩
        · exact .inl h1
        · have hgf : g ≠ f := by rintro rfl; rw [hi] at h1; cases h1
          exact .inr ⟨g, es2, c2, by show (if g = f then _ else _) = _; rw [if_neg hgf]; exact h1⟩

/-- Sorted insertion. -/
def insF : List FileT → FileT → List FileT
  | [], f => [f]
  | g :: r, f => if g.1 = f.1 then f :: r else if Op.bytesLess f.1 g.1 = true then f :: g :: r else g :: insF r f

end Go.AM.R1

/- Plain laws: the paths and the trees of both are alike. -/
namespace Go.AM.R1

theorem idx_cons (a : UInt8) (s : Bs) : idx47 (a :: s) = if a = 47 then 0 else if idx47 s = -1 then -1 else idx47 s + 1 := by
  unfold idx47
  rw [Lib.indexByte.eq_def]
  simp

theorem idx_nil : idx47 [] = -1 := by unfold idx47; rw [Lib.indexByte.eq_def]

theorem pathOk_eq (s : Bs) : pathOkI s = pathOk s := by
  by_cases hl : s.length ≤ 3
  · match s, hl with
    | [], _ => simp [pathOkI, pathOk, folderLetter, cutS1, idx_nil]
    | [a], _ =>
      by_cases ha : a = 47
      · subst ha; simp [pathOkI, pathOk, folderLetter, cutS1, cutS2, cutS3, idx_cons, nameB, byteI]
      · simp [pathOkI, pathOk, folderLetter, cutS1, cutS3, idx_cons, idx_nil, ha, nameB, byteI]
    | [a, b], _ =>
      by_cases ha : a = 47
      · subst ha; simp [pathOkI, pathOk, folderLetter, cutS1, cutS2, cutS3, idx_cons]
      · by_cases hb : b = 47
        · subst hb; simp [pathOkI, pathOk, folderLetter, cutS1, cutS2, cutS3, idx_cons, ha]
        · simp [pathOkI, pathOk, folderLetter, cutS1, cutS3, idx_cons, idx_nil, ha, hb]
    | [a, b, c], _ =>
      by_cases ha : a = 47
      · subst ha; simp [pathOkI, pathOk, folderLetter, cutS1, cutS2, cutS3, idx_cons, nameB, byteI]
      · by_cases hb : b = 47
        · subst hb; simp [pathOkI, pathOk, folderLetter, cutS1, cutS2, cutS3, idx_cons, ha, nameB, byteI]
        · have hb' : ¬ (b.toNat : Int) = 47 := by
            intro h; apply hb; apply UInt8.toNat_inj.1; simp; omega
          by_cases hc : c = 47
          · subst hc; simp [pathOkI, pathOk, folderLetter, cutS1, cutS2, cutS3, idx_cons, ha, hb, nameB, byteI]
          · simp [pathOkI, pathOk, folderLetter, cutS1, cutS3, idx_cons, idx_nil, ha, hb, hc, hb', nameB, byteI]
    | _ :: _ :: _ :: _ :: _, h => simp at h
  · have h1 : pathOk s = false := by unfold pathOk; rw [if_neg (by omega), if_neg (by omega)]
    rw [h1]
    cases h2 : pathOkI s with
    | false => rfl
    | true => exact absurd (pathOkI_len h2) hl
end Go.AM.R1

namespace Go.AM
/-! ### The order of strings -/

theorem bl_nil_r (a : Bs) : Op.bytesLess a [] = false := by rw [Op.bytesLess.eq_def]
theorem bl_nil_l (b : UInt8) (l : Bs) : Op.bytesLess [] (b :: l) = true := by rw [Op.bytesLess.eq_def]
theorem bl_cons (a b : UInt8) (x y : Bs) : Op.bytesLess (a :: x) (b :: y) = (decide (a < b) || a == b && Op.bytesLess x y) := by rw [Op.bytesLess.eq_def]

theorem bl_irrefl : ∀ a : Bs, Op.bytesLess a a = false
  | [] => bl_nil_r []
  | a :: l => by rw [bl_cons, bl_irrefl l]; simp

theorem bl_total : ∀ a b : Bs, Op.bytesLess a b = true ∨ a = b ∨ Op.bytesLess b a = true
  | [], [] => .inr (.inl rfl)
  | [], b :: y => .inl (bl_nil_l b y)
  | a :: x, [] => .inr (.inr (bl_nil_l a x))
  | a :: x, b :: y => by
    rw [bl_cons, bl_cons]
    rcases bl_total x y with h | h | h
    · by_cases hab : a = b
      · subst hab; left; simp [h]
      · rcases UInt8.lt_or_lt_of_ne hab with hl | hl
        · left; simp [hl]
        · right; right; simp [hl]
    · subst h
      by_cases hab : a = b
      · subst hab; right; left; rfl
      · rcases UInt8.lt_or_lt_of_ne hab with hl | hl
        · left; simp [hl]
        · right; right; simp [hl]
    · by_cases hab : a = b
      · subst hab; right; right; simp [h]
      · rcases UInt8.lt_or_lt_of_ne hab with hl | hl
        · left; simp [hl]
        · right; right; simp [hl]

theorem bl_trans : ∀ {a b c : Bs}, Op.bytesLess a b = true → Op.bytesLess b c = true → Op.bytesLess a c = true
  | a, b, [], _, h2 => by rw [bl_nil_r] at h2; cases h2
  | a, [], c :: z, h1, _ => by rw [bl_nil_r] at h1; cases h1
  | [], b :: y, c :: z, _, _ => bl_nil_l c z
  | a :: x, b :: y, c :: z, h1, h2 => by
    rw [bl_cons, Bool.or_eq_true, Bool.and_eq_true, decide_eq_true_eq, beq_iff_eq] at h1 h2 ⊢
    rcases h1 with h1 | ⟨rfl, h1⟩
    · rcases h2 with h2 | ⟨rfl, h2⟩
      · exact .inl (UInt8.lt_trans h1 h2)
      · exact .inl h1
    · rcases h2 with h2 | ⟨rfl, h2⟩
      · exact .inl h2
      · exact .inr ⟨rfl, bl_trans h1 h2⟩

theorem bl_asymm {a b : Bs} (h : Op.bytesLess a b = true) : Op.bytesLess b a = false := by
  cases hb : Op.bytesLess b a with
  | false => rfl
  | true => have := bl_trans h hb; rw [bl_irrefl] at this; cases this

theorem bl_not {a b : Bs} : (!(Op.bytesLess b a || b == a)) = Op.bytesLess a b := by
  rcases bl_total a b with h | h | h
  · have h2 : (b == a) = false := by
      simp only [beq_eq_false_iff_ne, ne_eq]
      rintro rfl; rw [bl_irrefl] at h; cases h
    rw [h, bl_asymm h, h2]; rfl
  · subst h; simp [bl_irrefl]
  · rw [h, bl_asymm h]; rfl

namespace R1
/-- The paths rise. -/
theorem rise {t : List FileT} {i : Nat} (h : ∀ k, 0 < k → k ≤ i → Op.bytesLess (pth t (k - 1)) (pth t k) = true) : ∀ j, j < i → Op.bytesLess (pth t j) (pth t i) = true := by
  intro j hj
  induction i with
  | zero => omega
  | succ i ih =>
    have h1 := h (i + 1) (by omega) (Nat.le_refl _)
    simp only [Nat.add_sub_cancel] at h1
    by_cases e : j = i
    · subst e; exact h1
    · exact bl_trans (ih (fun k a b => h k a (by omega)) (by omega)) h1

theorem pathOk_form {s : Bs} (h : pathOk s = true) : (∃ a, s = [a]) ∨ ∃ a b, s = [a, 47, b] := by
  unfold pathOk at h
  split at h
  · rename_i hl
    match s, hl with
    | [a], _ => exact .inl ⟨a, rfl⟩
  · split at h
    · rename_i hl
      match s, hl with
      | [a, b, c], _ =>
        right
        simp [nameB, byteI] at h
        have hb : b = 47 := by apply UInt8.toNat_inj.1; simp; omega
        exact ⟨a, c, by rw [hb]⟩
    · cases h

/-- Two paths that are right, the one ahead of the other: they clash just when the one lies under the other. -/
theorem clash_under {p q : Bs} (hp : pathOk p = true) (hq : pathOk q = true) (hlt : Op.bytesLess p q = true) : clash p q = under q p := by
  rcases pathOk_form hp with ⟨a, rfl⟩ | ⟨a, b, rfl⟩ <;> rcases pathOk_form hq with ⟨c, rfl⟩ | ⟨c, d, rfl⟩
  · simp [clash, under, hasPre]
  · by_cases e : a = c
    · subst e; simp [clash, under, hasPre, byteI]
    · have : ¬ (a.toNat : Int) = c.toNat := fun h => e (UInt8.toNat_inj.1 (by omega))
      have h1 : ((a.toNat : Int) == (c.toNat : Int)) = false := by rw [beq_eq_false_iff_ne]; exact this
      have h2 : (c == a) = false := by rw [beq_eq_false_iff_ne]; exact fun h => e h.symm
      simp [clash, under, hasPre, byteI]
      rw [h1, h2]
  · have : ¬ (a.toNat : Int) = c.toNat := by
      intro h
      have e : a = c := UInt8.toNat_inj.1 (by omega)
      subst e
      rw [bl_cons, bl_nil_r] at hlt
      simp at hlt
    simp [clash, under, hasPre, byteI, this]
  · simp [clash, under, hasPre]

theorem stepOk_eq {t : List FileT} {i : Nat} (hall : ∀ j, j < i → stepOk t j = true) : stepOkI t i = stepOk t i := by
  unfold stepOkI stepOk
  rw [pathOk_eq, bl_not]
  cases h1 : pathOk (pth t i) with
  | false => simp
  | true =>
    cases h2 : textOk (txt t i) with
    | false => simp
    | true =>
      cases h3 : (i == 0 || Op.bytesLess (pth t (i - 1)) (pth t i)) with
      | false => simp
      | true =>
        simp only [Bool.true_and]
        have hr : ∀ j, j < i → Op.bytesLess (pth t j) (pth t i) = true := by
          apply rise
          intro k hk hki
          by_cases e : k = i
          · subst e
            have : (k == 0) = false := by simp; omega
            rw [this, Bool.false_or] at h3
            exact h3
          · have := hall k (by omega)
            simp only [stepOk, Bool.and_eq_true, Bool.or_eq_true, beq_iff_eq] at this
            exact this.1.2.resolve_left (by omega)
        rw [Bool.eq_iff_iff, all_range, all_range]
        have hc : ∀ j, j < i → clash (pth t j) (pth t i) = under (pth t i) (pth t j) := by
          intro j hj
          have hpj : pathOk (pth t j) = true := by
            have := hall j hj
            simp only [stepOk, Bool.and_eq_true] at this
            exact this.1.1.1
          exact clash_under hpj h1 (hr j hj)
        constructor
        · intro h j hj; rw [hc j hj]; exact h j hj
        · intro h j hj; rw [← hc j hj]; exact h j hj

theorem treeOk_eq (t : List FileT) : treeOkI t = treeOk t := by
  unfold treeOkI treeOk
  congr 1
  rw [Bool.eq_iff_iff, all_range, all_range]
  constructor
  · intro h i
    induction i using Nat.strongRecOn with
    | _ i ih => intro hi; rw [← stepOk_eq (fun j hj => ih j hj (by omega))]; exact h i hi
  · intro h i hi
    rw [stepOk_eq (fun j hj => h j (by omega))]
    exact h i hi
end R1
end Go.AM

namespace Go.AM.R1
open Go.Proofs
variable {X : Cx Try.prog}

abbrev Sorted (l : List FileT) : Prop := l.Pairwise fun a b => Op.bytesLess a.1 b.1 = true

theorem bl_ne {a b : Bs} (h : Op.bytesLess a b = true) : a ≠ b := by rintro rfl; rw [bl_irrefl] at h; cases h

theorem insF_mem : ∀ {l : List FileT} {f : FileT}, Sorted l → ∀ q y, (q, y) ∈ insF l f ↔ (q = f.1 ∧ y = f.2) ∨ (q ≠ f.1 ∧ (q, y) ∈ l)
  | [], f, _, q, y => by
    simp only [insF, List.mem_singleton, List.not_mem_nil, and_false, or_false]
    exact ⟨fun h => by rw [← h]; exact ⟨rfl, rfl⟩, fun h => Prod.ext h.1 h.2⟩
  | g :: r, f, hs, q, y => by
    have hs' := List.pairwise_cons.1 hs
    simp only [insF]
    split
    · rename_i he
      rw [List.mem_cons, List.mem_cons]
      constructor
      · rintro (h | h)
        · exact .inl (by rw [← h]; exact ⟨rfl, rfl⟩)
        · have := hs'.1 _ h
          exact .inr ⟨fun e => by rw [he] at this; exact bl_ne this e.symm, .inr h⟩
      · rintro (h | ⟨h1, h2 | h2⟩)
        · exact .inl (Prod.ext h.1 h.2)
        · exact absurd (by rw [← he, ← h2]) h1
        · exact .inr h2
    · rename_i hne
      split
      · rename_i hlt
        rw [List.mem_cons]
        constructor
        · rintro (h | h)
          · exact .inl (by rw [← h]; exact ⟨rfl, rfl⟩)
          · refine .inr ⟨fun e => ?_, h⟩
            rcases List.mem_cons.1 h with h2 | h2
            · apply hne; rw [← h2]; exact e
            · have h3 := bl_trans hlt (hs'.1 _ h2)
              exact bl_ne h3 e.symm
        · rintro (h | ⟨_, h⟩)
          · exact .inl (Prod.ext h.1 h.2)
          · exact .inr h
      · rw [List.mem_cons, List.mem_cons, insF_mem hs'.2]
        constructor
        · rintro (h | h | h)
          · exact .inr ⟨fun e => hne (by rw [← h]; exact e), .inl h⟩
          · exact .inl h
          · exact .inr ⟨h.1, .inr h.2⟩
        · rintro (h | ⟨h1, h2 | h2⟩)
          · exact .inr (.inl h)
          · exact .inl h2
          · exact .inr (.inr ⟨h1, h2⟩)

theorem insF_sorted : ∀ {l : List FileT} {f : FileT}, Sorted l → Sorted (insF l f)
  | [], f, _ => by simp [insF]
  | g :: r, f, hs => by
    have hs' := List.pairwise_cons.1 hs
    simp only [insF]
    split
    · rename_i he
      exact List.pairwise_cons.2 ⟨fun x hx => by rw [← he]; exact hs'.1 x hx, hs'.2⟩
    · rename_i hne
      split
      · rename_i hlt
        refine List.pairwise_cons.2 ⟨fun x hx => ?_, hs⟩
        rcases List.mem_cons.1 hx with rfl | hx
        · exact hlt
        · exact bl_trans hlt (hs'.1 x hx)
      · rename_i hnl
        have hgf : Op.bytesLess g.1 f.1 = true := by
          rcases bl_total g.1 f.1 with h | h | h
          · exact h
          · exact absurd h hne
          · exact absurd h hnl
        refine List.pairwise_cons.2 ⟨fun x hx => ?_, insF_sorted hs'.2⟩
        rcases (insF_mem hs'.2 x.1 x.2).1 hx with h | h
        · rw [h.1]; exact hgf
        · exact hs'.1 x h.2

theorem stamped_set {es : Array MapEntry} {c : Nat} (h : MapKept.Stamped es c) {j : Nat} {e : MapEntry} (he : es[j]? = some e) (x : Value) : MapKept.Stamped (es.modify j fun e' => { key := e.key, val := x, born := e'.born }) c :=
  MapKept.stamped_modify h j _ (fun _ _ => rfl) (fun e' _ h2 => by rw [he] at h2; cases h2; rfl)

theorem mem_modify {es : Array MapEntry} {j : Nat} {f : MapEntry → MapEntry} {e : MapEntry} (he : es[j]? = some e) {e' : MapEntry} (hst : (es.toList.map (fun x => x.key)).Nodup) (hk : (f e).key = e.key) : e' ∈ (es.modify j f).toList ↔ e' = f e ∨ (e' ∈ es.toList ∧ e'.key ≠ e.key) := by
  have hj : j < es.size := (Array.getElem?_eq_some_iff.1 he).1
  have hej : es[j] = e := (Array.getElem?_eq_some_iff.1 he).2
  constructor
  · intro h
    obtain ⟨i, hi, rfl⟩ := List.getElem_of_mem h
    have hi' : i < es.size := by simpa using hi
    simp only [Array.getElem_toList, Array.getElem_modify]
    by_cases e1 : j = i
    · subst e1
      left; simp [hej]
    · right
      rw [if_neg e1]
      refine ⟨by simp, fun hkk => e1 ?_⟩
      have := List.getElem_inj (h₀ := by simpa using hi') (h₁ := by simpa using hj) hst (i := i) (j := j)
      exact (this.1 (by simpa [hej] using hkk)).symm
  · rintro (rfl | ⟨h, hne⟩)
    · rw [Array.mem_toList_iff, Array.mem_iff_getElem]
      exact ⟨j, by simpa using hj, by simp [Array.getElem_modify, hej]⟩
    · obtain ⟨i, hi, rfl⟩ := List.getElem_of_mem h
      have hi' : i < es.size := by simpa using hi
      rw [Array.mem_toList_iff, Array.mem_iff_getElem]
      refine ⟨i, by simpa using hi', ?_⟩
      have hij : j ≠ i := by rintro rfl; apply hne; simp [hej]
      simp [Array.getElem_modify, hij]

/-- The entries of an inner map behind an update. -/
theorem FHs.putInner {l : List FileT} {v : Value} {ch : Nat → Option Obj} {r0 : Nat} {es0 : Array MapEntry} {c0 : Nat} {inn : Bs → Option (Nat × Array MapEntry × Nat)} (h : FHs l v ch r0 es0 c0 inn) {p x : Bs} {r : Nat} {es : Array MapEntry} {c : Nat} (hi : inn (folderOf p) = some (r, es, c)) (hp : p.length ≤ 9223372036854775807) (hx : x.length ≤ 9223372036854775807)
    {es' : Array MapEntry} {c' : Nat} (hst : MapKept.Stamped es' c') (hm : ∀ e, e ∈ es'.toList → (e.key = bsV p ∧ e.val = bsV x) ∨ (e ∈ es.toList ∧ e.key ≠ bsV p)) (hm1 : ∃ e ∈ es'.toList, e.key = bsV p ∧ e.val = bsV x) (hm2 : ∀ e ∈ es.toList, e.key ≠ bsV p → e ∈ es'.toList) :
    FHs (insF l (p, x)) v (fun b => if b = r then some (.map es' c') else ch b) r0 es0 c0 (fun g => if g = folderOf p then some (r, es', c') else inn g) := by
  refine h.setInner hi hst ?_ ?_ ?_ (insF_sorted h.sorted) ?_
  · intro e he
    rcases hm e he with ⟨h1, h2⟩ | ⟨h1, h2⟩
    · exact ⟨p, x, h1, h2, (insF_mem h.sorted p x).2 (.inl ⟨rfl, rfl⟩), rfl⟩
    · obtain ⟨q, y, k1, k2, k3, k4⟩ := h.key1 _ _ _ _ hi e h1
      refine ⟨q, y, k1, k2, (insF_mem h.sorted q y).2 (.inr ⟨fun e => ?_, k3⟩), k4⟩
      apply h2; rw [k1, e]
  · intro q y hq hf
    rcases (insF_mem h.sorted q y).1 hq with ⟨rfl, rfl⟩ | ⟨h1, h2⟩
    · exact hm1
    · obtain ⟨r2, es2, c2, k1, e, k2, k3, k4⟩ := h.all q y h2
      rw [hf, hi] at k1; cases k1
      exact ⟨e, hm2 e k2 (by rw [k3]; exact fun hh => h1 (bsV_inj hh)), k3, k4⟩
  · intro q y hf
    rw [insF_mem h.sorted]
    constructor
    · rintro (⟨rfl, _⟩ | ⟨_, h2⟩)
      · exact absurd rfl hf
      · exact h2
    · intro h2
      exact .inr ⟨by rintro rfl; exact hf rfl, h2⟩
  · intro q y hq
    rcases (insF_mem h.sorted q y).1 hq with ⟨rfl, rfl⟩ | ⟨_, h2⟩
    · exact ⟨hp, hx⟩
    · exact h.len q y h2
end Go.AM.R1

namespace Go.AM.R1
open Go.Proofs
variable {X : Cx Try.prog}

theorem dropF_mem {l : List FileT} {p q y : Bs} : (q, y) ∈ dropF l p ↔ (q, y) ∈ l ∧ q ≠ p := by
  simp only [dropF, List.mem_filter, Bool.not_eq_true', beq_eq_false_iff_ne, ne_eq]

/-- The entries of an inner map behind a removal. -/
theorem FHs.dropInner {l : List FileT} {v : Value} {ch : Nat → Option Obj} {r0 : Nat} {es0 : Array MapEntry} {c0 : Nat} {inn : Bs → Option (Nat × Array MapEntry × Nat)} (h : FHs l v ch r0 es0 c0 inn) {p : Bs} {r : Nat} {es : Array MapEntry} {c : Nat} (hi : inn (folderOf p) = some (r, es, c))
    {es' : Array MapEntry} {c' : Nat} (hst : MapKept.Stamped es' c') (hm : ∀ e, e ∈ es'.toList ↔ (e ∈ es.toList ∧ e.key ≠ bsV p)) :
    FHs (dropF l p) v (fun b => if b = r then some (.map es' c') else ch b) r0 es0 c0 (fun g => if g = folderOf p then some (r, es', c') else inn g) := by
  refine h.setInner hi hst ?_ ?_ ?_ (h.sorted.filter _) ?_
  · intro e he
    obtain ⟨h1, h2⟩ := (hm e).1 he
    obtain ⟨q, y, k1, k2, k3, k4⟩ := h.key1 _ _ _ _ hi e h1
    refine ⟨q, y, k1, k2, dropF_mem.2 ⟨k3, fun e => ?_⟩, k4⟩
    apply h2; rw [k1, e]
  · intro q y hq hf
    obtain ⟨h1, h2⟩ := dropF_mem.1 hq
    obtain ⟨r2, es2, c2, k1, e, k2, k3, k4⟩ := h.all q y h1
    rw [hf, hi] at k1; cases k1
    exact ⟨e, (hm e).2 ⟨k2, by rw [k3]; exact fun hh => h2 (bsV_inj hh)⟩, k3, k4⟩
  · intro q y hf
    rw [dropF_mem]
    exact ⟨fun h => h.1, fun h2 => ⟨h2, by rintro rfl; exact hf rfl⟩⟩
  · intro q y hq
    exact h.len q y (dropF_mem.1 hq).1
end Go.AM.R1

namespace Go.AM.R1
open Go.Proofs
variable {X : Cx Try.prog}

theorem erase_list {es : Array MapEntry} {j : Nat} : (es.eraseIdxIfInBounds j).toList = es.toList.eraseIdx j := by
  unfold Array.eraseIdxIfInBounds
  split
  · simp
  · rename_i h
    rw [List.eraseIdx_of_length_le (by simpa using h)]

theorem stamped_erase {es : Array MapEntry} {c : Nat} (h : MapKept.Stamped es c) (j : Nat) : MapKept.Stamped (es.eraseIdxIfInBounds j) c := by
  have hs : (es.toList.eraseIdx j).Sublist es.toList := List.eraseIdx_sublist _ _
  refine ⟨fun x hx => h.1 x (hs.subset (by rw [erase_list] at hx; exact hx)), ?_, ?_⟩
  · rw [erase_list]; exact h.2.1.sublist (hs.map _)
  · rw [erase_list]; exact h.2.2.sublist (hs.map _)

theorem mem_erase {es : Array MapEntry} {c : Nat} (h : MapKept.Stamped es c) {j : Nat} {e : MapEntry} (he : es[j]? = some e) (e' : MapEntry) : e' ∈ (es.eraseIdxIfInBounds j).toList ↔ (e' ∈ es.toList ∧ e'.key ≠ e.key) := by
  have hj : j < es.toList.length := by simpa using (Array.getElem?_eq_some_iff.1 he).1
  have hej : es.toList[j] = e := by simpa using (Array.getElem?_eq_some_iff.1 he).2
  rw [erase_list, List.mem_eraseIdx_iff_getElem]
  constructor
  · rintro ⟨i, hi, hne, rfl⟩
    refine ⟨List.getElem_mem hi, fun hk => hne ?_⟩
    have := List.getElem_inj (h₀ := by simpa using hi) (h₁ := by simpa using hj) h.2.2 (i := i) (j := j)
    exact this.1 (by simpa [hej] using hk)
  · rintro ⟨hm, hk⟩
    obtain ⟨i, hi, rfl⟩ := List.getElem_of_mem hm
    exact ⟨i, hi, by rintro rfl; exact hk (by rw [hej]), rfl⟩
end Go.AM.R1

/- folders: get, put, drop, foldersOf. -/
namespace Go.AM
namespace R1
open Go.Proofs
variable {X : Cx Try.prog}
theorem opq_open {H : Value → (Nat → Option Obj) → Prop} {s : St} (h : HeapOK [.opq H] s) : ∃ L ch, s.β = [L] ∧ H L.v ch ∧ (∀ (b : Nat) (o : Obj), ch b = some o → s.w.heap[b]? = some o) ∧ (∀ b, b ∈ L.bs ↔ (ch b).isSome = true) ∧ ∀ b ∈ L.bs, b < s.w.heap.size := by
  have hl := h.len
  match hb : s.β, hl with
  | [L], _ =>
    obtain ⟨ch, h1, h2, h3, h4⟩ := h.box 0 _ L rfl (by rw [hb]; rfl)
    exact ⟨L, ch, rfl, h1, h2, h3, fun b hbb => h.lt L (by rw [hb]; simp) b hbb⟩

theorem opq_to {H H' : Value → (Nat → Option Obj) → Prop} {s : St} (h : HeapOK [.opq H] s) {L : Loc} {ch : Nat → Option Obj} (hL : s.β = [L]) (hH : H' L.v ch) (h2 : ∀ (b : Nat) (o : Obj), ch b = some o → s.w.heap[b]? = some o) (h3 : ∀ b, b ∈ L.bs ↔ (ch b).isSome = true) :
    HeapOK [.opq H'] s ∧ Step [.opq H] s [.opq H'] s := by
  refine ⟨⟨h.mem, h.len, ?_, h.disj, h.lt, h.own⟩, ⟨Nat.le_refl _, fun _ _ _ => rfl, fun _ _ _ h => h, fun _ _ _ _ => rfl, fun L h b hb => .inr ⟨L, h, hb⟩, ?_, rfl, rfl, rfl, rfl⟩⟩
  · intro l B L2 hB hL2
    cases l with
    | zero =>
      simp at hB; subst hB
      obtain ⟨_, _, _, _, h4⟩ := h.box 0 _ L2 rfl hL2
      rw [hL] at hL2
      cases hL2
      exact ⟨ch, hH, h2, h3, h4⟩
    | succ l => simp at hB
  · intro l B L hB hL
    cases l with
    | zero => simp at hB; subst hB; exact ⟨_, L, rfl, hL, rfl⟩
    | succ l => simp at hB

theorem slot_ref {N : Nat} {H : Value → (Nat → Option Obj) → Prop} {s : St} {φ : Fr} {a : Act} (f : FrOK N [.opq H] s φ a) {L : Loc} (hL : s.β = [L]) (t : Nat) (hl : look φ t = .e (.one (.ref 0))) : a.tmps.getD t undef = L.v := by
  have := f.slot t
  rw [hl] at this
  obtain ⟨_, L', h1, h2, _⟩ := (show RdA _ s _ (.ref 0) from this)
  rw [hL] at h1
  cases h1
  exact h2

theorem slot_str {N : Nat} {σ : List Box} {s : St} {φ : Fr} {a : Act} (f : FrOK N σ s φ a) (t : Nat) {p : Bs} (hl : look φ t = dS p) : a.tmps.getD t undef = bsV p := by
  have := f.slot t
  rw [hl] at this
  have := rdC this
  generalize a.tmps.getD t undef = v at this
  cases this with
  | str e _ => exact bsV_of e

/-- .. and m is the map of the folder f. -/
def FHm (l : List FileT) (f : Bs) (m : Option Nat) : Value → (Nat → Option Obj) → Prop := fun v ch => ∃ r0 es0 c0 inn, FHs l v ch r0 es0 c0 inn ∧ (inn f).map (·.1) = m

/-- The box behind the update of an inner map. -/
theorem inner_turn {l l' : List FileT} {H : Value → (Nat → Option Obj) → Prop} {s : St} (hh : HeapOK [.opq H] s) {L : Loc} {ch : Nat → Option Obj} (hL : s.β = [L]) (hheap : ∀ (b : Nat) (o : Obj), ch b = some o → s.w.heap[b]? = some o) (hbs : ∀ b, b ∈ L.bs ↔ (ch b).isSome = true) {r : Nat} {o0 o : Obj} (hr : ch r = some o0)
    (hF : FH l' L.v (fun b => if b = r then some o else ch b)) :
    HeapOK [.opq (FH l')] { s with w := { s.w with heap := s.w.heap.setIfInBounds r o } } ∧ Step [.opq H] s [.opq (FH l')] { s with w := { s.w with heap := s.w.heap.setIfInBounds r o } } := by
  have _ := l
  have hrb : r ∈ L.bs := (hbs r).2 (by rw [hr]; rfl)
  have hrl : r < s.w.heap.size := hh.lt L (by rw [hL]; simp) r hrb
  have := hh.turn (l := 0) (H := H) (H' := FH l') (L := L) (L' := L) (w' := { s.w with heap := s.w.heap.setIfInBounds r o }) rfl (by rw [hL]; rfl) rfl (by simp) (fun b _ hb => by
    show (s.w.heap.setIfInBounds r o)[b]? = _
    rw [Array.getElem?_setIfInBounds_ne (by rintro rfl; exact hb hrb)]) (fun b hb => .inl hb)
    ⟨_, hF, fun b ob hb => by
      show (s.w.heap.setIfInBounds r o)[b]? = _
      by_cases e : b = r
      · subst e
        simp only [if_true] at hb
        cases hb
        rw [Array.getElem?_setIfInBounds_self_of_lt hrl]
      · simp only [e, if_false] at hb
        rw [Array.getElem?_setIfInBounds_ne (fun h => e h.symm)]
        exact hheap b ob hb, fun b => by
      by_cases e : b = r
      · subst e; simp [hrb]
      · simp only [e, if_false]; exact hbs b⟩ rfl rfl rfl
  have e1 : s.β.set 0 L = s.β := by rw [hL]; rfl
  rw [e1] at this
  exact this


theorem slot_v {N : Nat} {σ : List Box} {s : St} {φ : Fr} {a : Act} (f : FrOK N σ s φ a) (t : Nat) {x : Value} (hl : look φ t = .e (.one (.v x))) : a.tmps.getD t undef = x := by
  have := f.slot t
  rw [hl] at this
  exact Rd.valEq this

/-- Which map a folder has. -/
theorem look_outer {N : Nat} {Qf : Post} {K : List It} {φ : Fr} {l : List FileT} {p : Bs} {all rest : List Oper} {o : Oper} {x y : Nat} {d : Option Nat} (ho : o.op = .lookup 55 (.tmp x) (.tmp y) false) (hd : o.dst = d) (hg : o.guard = none) (hN : dstOk N o.dst = true)
    (hx : look φ x = .e (.one (.ref 0))) (hy : look φ y = dS (folderOf p)) {H : Value → (Nat → Option Obj) → Prop} (T : Option Nat → Prop) (hH : ∀ v ch, H v ch → ∃ r0 es0 c0 inn, FHs l v ch r0 es0 c0 inn ∧ T ((inn (folderOf p)).map (·.1)))
    (k : ∀ m, T m → AK X N Qf (.ops all rest :: K) .normal (putD d (.e (.one (.v (.map m)))) φ) [.opq (FHm l (folderOf p) m)]) : AK X N Qf (.ops all (o :: rest) :: K) .normal φ [.opq H] := by
  subst hd
  refine AK.hand (ι := { m : Option Nat // T m }) (fun m => .e (.one (.v (.map m.1)))) (fun m => [.opq (FHm l (folderOf p) m.1)]) hg hN ?_ fun m => k m.1 m.2
  intro s a hf hh
  obtain ⟨L, ch, hL, hHv, hheap, hbs, hlt⟩ := opq_open hh
  obtain ⟨r0, es0, c0, inn, hFH, hT⟩ := hH _ _ hHv
  have e9 : a.eval (.tmp x) = .map (some r0) := (slot_ref hf hL x hx).trans hFH.val
  have e10 : a.eval (.tmp y) = bsV (folderOf p) := slot_str hf y hy
  have hr0 := hheap _ _ hFH.out
  have hlook : ∃ m : Option Nat, (inn (folderOf p)).map (·.1) = m ∧ (Instr.lookup 55 (.map (some r0)) (bsV (folderOf p)) false).run Try.prog s.w = .ok (.map m) s.w ∧ (Instr.lookup 55 (.map (some r0)) (bsV (folderOf p)) false).events Try.prog s.w #[] = #[⟨.obj r0, false, false⟩] := by
    rcases hFH.find p with ⟨hi, hf1, _⟩ | ⟨r, es, c, j, hi, hf1, _⟩
    · have := lookup_mapG (ok := false) Try.underlying55 Try.underlying9 hr0 hf1 (fun _ => Try.zeroValue91 s.w)
      exact ⟨none, by rw [hi]; rfl, this⟩
    · have := lookup_mapG (ok := false) (z := undef) Try.underlying55 Try.underlying9 hr0 hf1 (fun h => by cases h)
      exact ⟨some r, by rw [hi]; rfl, this⟩
  obtain ⟨m, hm, h1, h2⟩ := hlook
  obtain ⟨g1, g2⟩ := opq_to hh hL (H' := FHm l (folderOf p) m) ⟨r0, es0, c0, inn, hFH, hm⟩ hheap hbs
  refine ⟨⟨m, by rw [← hm]; exact hT⟩, _, s, .map m, ?_, .inl rfl, Rd.val rfl, g1, g2, ?_⟩
  · simp only [execOp, ho, e9, e10, Sem.run_bind, h1, Result.andThen_ok, Sem.run_pure]
  · simp only [execOp, ho, e9, e10, Sem.events_bind, h1, h2, Result.evThen_ok, Sem.events_pure]
    exact .one (evOK_obj (L := L) (by rw [hL]; simp) ((hbs r0).2 (by rw [hFH.out]; rfl)))

set_option maxRecDepth 20000 in
theorem ev_fget (l : List FileT) (p : Bs) : Ev X 36 [.e (.one (.ref 0)), dS p] [.opq (FH l)] (tSB ((getF l p).getD []) (getF l p).isSome) [.opq (FH l)] := by
  refine Ev.body Try.func36 rfl rfl rfl fun hf0 => ?_
  refine AK.run2 foll tok cok16 [] 100 rfl trivial ?_
  refine look_outer (l := l) (p := p) rfl rfl rfl rfl rfl rfl (fun _ => True) (fun v ch ⟨r0, es0, c0, inn, h⟩ => ⟨r0, es0, c0, inn, h, trivial⟩) fun m _ => ?_
  refine AK.run2 foll tok cok16 [] 1 rfl trivial ?_
  refine AK.hand (ι := Unit) (fun _ => tSB ((getF l p).getD []) (getF l p).isSome) (fun _ => [.opq (FH l)]) rfl rfl ?_ fun _ => ?_
  rotate_left
  · refine AK.run2 foll tok COK.nil [] 100 rfl trivial (AK.retB [0] rfl ?_ rfl rfl rfl ?_)
    · simp [AllP, AllP.cat]
    · intro j hj; have : j = 0 := by simpa using hj
      subst this; rfl
  intro s a hf hh
  obtain ⟨L, ch, hL, ⟨r0, es0, c0, inn, hFH, hm⟩, hheap, hbs, hlt⟩ := opq_open hh
  have e12 : a.eval (.tmp 12) = .map m := slot_v hf 12 rfl
  have e13 : a.eval (.tmp 13) = bsV p := slot_str hf 13 rfl
  obtain ⟨g1, g2⟩ := opq_to hh hL (H' := FH l) ⟨r0, es0, c0, inn, hFH⟩ hheap hbs
  have z9 : (zeroValue 9).run Try.prog s.w = .ok (bsV []) s.w := Try.zeroValue9 s.w
  have two : ∃ x b, (Instr.lookup 91 (.map m) (bsV p) true).run Try.prog s.w = .ok (.tuple #[bsV x, .bool b]) s.w ∧ EvOK s ((Instr.lookup 91 (.map m) (bsV p) true).events Try.prog s.w #[]) ∧ x = (getF l p).getD [] ∧ b = (getF l p).isSome ∧ x.length ≤ 9223372036854775807 := by
    rcases hFH.find p with ⟨hi, hf1, hg⟩ | ⟨r, es, c, j, hi, hf1, hin⟩
    · rw [hi] at hm
      have hm : m = none := hm.symm
      subst hm
      obtain ⟨h1, h2⟩ := lookup_nilG (ok := true) Try.underlying91 Try.underlying9 (d := .string) (k := bsV p) trivial z9
      exact ⟨[], false, h1, EvOK.of_eq h2 .nil, by rw [hg]; rfl, by rw [hg]; rfl, by simp⟩
    · rw [hi] at hm
      have hm : m = some r := hm.symm
      subst hm
      have hchr := (hFH.inn1 _ _ _ _ hi).1
      have hr : s.w.heap[r]? = some (.map es c) := hheap _ _ hchr
      have hev : evOK s ⟨.obj r, false, false⟩ := evOK_obj (L := L) (by rw [hL]; simp) ((hbs r).2 (by rw [hchr]; rfl))
      rcases hin with ⟨hf2, hg⟩ | ⟨j', x, hf2, hg⟩
      · obtain ⟨h1, h2⟩ := lookup_mapG (ok := true) Try.underlying91 Try.underlying9 hr hf2 (fun _ => z9)
        exact ⟨[], false, h1, EvOK.of_eq h2 (.one hev), by rw [hg]; rfl, by rw [hg]; rfl, by simp⟩
      · obtain ⟨h1, h2⟩ := lookup_mapG (ok := true) (z := undef) Try.underlying91 Try.underlying9 hr hf2 (fun h => by cases h)
        refine ⟨x, true, h1, EvOK.of_eq h2 (.one hev), by rw [hg]; rfl, by rw [hg]; rfl, ?_⟩
        have := (hFH.len p x (getF_mem hg)).2
        omega
  obtain ⟨x, b, h1, h2, hx, hb, hxl⟩ := two
  refine ⟨(), _, s, .tuple #[bsV x, .bool b], ?_, .inl rfl, ?_, g1, g2, ?_⟩
  · simp only [execOp, e12, e13, Sem.run_bind, h1, Result.andThen_ok, Sem.run_pure]
  · rw [← hx, ← hb]
    exact ⟨[bsV x, .bool b], rfl, Rd.str rfl hxl, Rd.bool, trivial⟩
  · exact ev_pureV' h2 (by simp only [execOp, e12, e13])

theorem run_map_eqIn {w : World} {m : Option Nat} (d : Nat) : (Op.equalIn (d + 1) 91 (.map m) (.map none)).run Try.prog w = .ok m.isNone w ∧ (Op.equalIn (d + 1) 91 (.map m) (.map none)).events Try.prog w #[] = #[] := by
  have hu : (underlying 91).run Try.prog w = .ok (.map 9 9) w := Try.runUnderlying91 w
  cases m <;> constructor <;> simp [Op.equalIn, hu]

set_option maxRecDepth 20000 in
theorem law_mapEq {Xx : Operand} {m : Option Nat} {o : Oper} {η : Operand → D} {σ : List Box} {ty : TypeId} {y : Operand} (ho : o.op = .binOp .eql 91 Xx y ty) (hx : η Xx = .e (.one (.v (.map m)))) (hy : y = .const (.map none)) (hc : ∀ ρ : Operand → Value, ρ y = .map none → True) :
    ∀ s (ρ : Operand → Value), ρ y = .map none → (∀ z, RdD σ s (ρ z) (η z)) → (execOp ρ o).run Try.prog s.w = .ok (.value (.bool m.isNone)) s.w ∧ (execOp ρ o).events Try.prog s.w #[] = #[] := by
  intro s ρ h0 hr
  have h1 := hr Xx
  rw [hx] at h1
  have h1 : ρ Xx = .map m := Rd.valEq h1
  have hu : (underlying 91).run Try.prog s.w = .ok (.map 9 9) s.w := Try.runUnderlying91 s.w
  have he : (Op.equal 91 (.map m) (.map none)).run Try.prog s.w = .ok m.isNone s.w := by
    exact (run_map_eqIn 9999).1
  have hee : (Op.equal 91 (.map m) (.map none)).events Try.prog s.w #[] = #[] := by
    exact (run_map_eqIn 9999).2
  have hg : (eqGuard .eql 91 Xx y (.map m) (.map none)).events Try.prog s.w #[] = #[] := by cases m <;> rfl
  constructor
  · simp only [execOp, ho, h0, h1, Sem.run_bind, eqGuard_at_map, Sem.run_pure, Result.andThen_ok, Go.binOp, he]
  · simp only [execOp, ho, h0, h1, Sem.run_bind, Sem.events_bind, eqGuard_at_map, Sem.run_pure, Sem.events_pure, Result.andThen_ok, Result.evThen_ok, Go.binOp, he, hee]

set_option maxRecDepth 20000 in
/-- Storing into a map that is there. -/
theorem put_inner {N : Nat} {Qf : Post} {K : List It} {φ : Fr} {l : List FileT} {p x : Bs} (hp : p.length ≤ 9223372036854775807) (hx : x.length ≤ 9223372036854775807) {all rest : List Oper} {o : Oper} {r t1 t2 t3 : Nat} (ho : o.op = .mapUpdate 91 (.tmp t1) (.tmp t2) (.tmp t3)) (hd : o.dst = none) (hg : o.guard = none)
    (h1 : look φ t1 = .e (.one (.v (.map (some r))))) (h2 : look φ t2 = dS p) (h3 : look φ t3 = dS x)
    (k : AK X N Qf (.ops all rest :: K) .normal φ [.opq (FH (insF l (p, x)))]) : AK X N Qf (.ops all (o :: rest) :: K) .normal φ [.opq (FHm l (folderOf p) (some r))] := by
  refine AK.hand (ι := Unit) (fun _ => .any) (fun _ => [.opq (FH (insF l (p, x)))]) hg (by rw [hd]; rfl) ?_ fun _ => by rw [hd]; exact k
  intro s a hf hh
  obtain ⟨L, ch, hL, ⟨r0, es0, c0, inn, hFH, hm⟩, hheap, hbs, hlt⟩ := opq_open hh
  have e1 : a.eval (.tmp t1) = .map (some r) := slot_v hf t1 h1
  have e2 : a.eval (.tmp t2) = bsV p := slot_str hf t2 h2
  have e3 : a.eval (.tmp t3) = bsV x := slot_str hf t3 h3
  rcases hFH.find p with ⟨hi, _⟩ | ⟨r', es, c, j, hi, hf1, hin⟩
  · rw [hi] at hm; cases hm
  rw [hi] at hm
  obtain rfl : r = r' := by simpa using hm.symm
  have hchr := (hFH.inn1 _ _ _ _ hi).1
  have hst := (hFH.inn1 _ _ _ _ hi).2.1
  have hr := hheap _ _ hchr
  have upd : ∃ es' c', (Instr.mapUpdate 91 (.map (some r)) (bsV p) (bsV x)).run Try.prog s.w = .ok () { s.w with heap := s.w.heap.setIfInBounds r (.map es' c') } ∧ (Instr.mapUpdate 91 (.map (some r)) (bsV p) (bsV x)).events Try.prog s.w #[] = #[⟨.obj r, false, false⟩, ⟨.obj r, true, false⟩] ∧ FH (insF l (p, x)) L.v (fun b => if b = r then some (.map es' c') else ch b) := by
    rcases hin with ⟨hf2, hg⟩ | ⟨j', y, hf2, hg⟩
    · obtain ⟨u1, u2⟩ := update_mapG (x := bsV x) Try.underlying91 Try.underlying9 hr hf2
      refine ⟨_, _, u1, u2, r0, es0, c0, _, hFH.putInner hi hp hx (MapKept.stamped_push hst (hf2.no rfl)) ?_ ?_ ?_⟩
      · intro e he
        rw [Array.toList_push, List.mem_append] at he
        rcases he with he | he
        · exact .inr ⟨he, hf2.no rfl e he⟩
        · simp at he; subst he; exact .inl ⟨rfl, rfl⟩
      · exact ⟨_, by rw [Array.toList_push]; exact List.mem_append_right _ (List.mem_singleton.2 rfl), rfl, rfl⟩
      · intro e he _
        rw [Array.toList_push]; exact List.mem_append_left _ he
    · obtain ⟨e0, k1, k2, k3⟩ := hf2.yes j' _ rfl
      have hs2 := stamped_set hst k1 (bsV x)
      rw [k2] at hs2
      have hmm : ∀ e', e' ∈ (es.modify j' fun e => { key := bsV p, val := bsV x, born := e.born }).toList ↔ e' = { key := bsV p, val := bsV x, born := e0.born } ∨ (e' ∈ es.toList ∧ e'.key ≠ bsV p) := by
        intro e'
        have := mem_modify (f := fun e => { key := bsV p, val := bsV x, born := e.born }) k1 (e' := e') hst.2.2 (by rw [k2]; rfl)
        rw [this, k2]; rfl
      obtain ⟨u1, u2⟩ := update_mapG (x := bsV x) Try.underlying91 Try.underlying9 hr hf2
      refine ⟨_, _, u1, u2, r0, es0, c0, _, hFH.putInner hi hp hx hs2 ?_ ?_ ?_⟩
      · intro e he
        rcases (hmm e).1 he with rfl | h
        · exact .inl ⟨rfl, rfl⟩
        · exact .inr h
      · exact ⟨_, (hmm _).2 (.inl rfl), rfl, rfl⟩
      · intro e he hn
        exact (hmm e).2 (.inr ⟨he, hn⟩)
  obtain ⟨es', c', hu, hue, hF⟩ := upd
  obtain ⟨g1, g2⟩ := inner_turn (l := l) hh hL hheap hbs hchr hF
  have hbr : r ∈ L.bs := (hbs r).2 (by rw [hchr]; rfl)
  refine ⟨(), .skip, _, undef, ?_, .inr ⟨rfl, rfl⟩, trivial, g1, g2, ?_⟩
  · simp only [execOp, ho, e1, e2, e3, Sem.run_bind, hu, Result.andThen_ok, Sem.run_pure]
  · simp only [execOp, ho, e1, e2, e3, Sem.events_bind, hu, hue, Result.evThen_ok, Sem.events_pure]
    exact .two (evOK_obj (L := L) (by rw [hL]; simp) hbr) (evOK_obj (L := L) (by rw [hL]; simp) hbr)

/-- .. the folder f has none, but there is a new one. -/
def FHx (l : List FileT) (f : Bs) (r : Nat) : Value → (Nat → Option Obj) → Prop := fun v ch => ∃ r0 es0 c0 inn ch0, FHs l v ch0 r0 es0 c0 inn ∧ inn f = none ∧ ch0 r = none ∧ ch = fun b => if b = r then some (.map #[] 0) else ch0 b

set_option maxRecDepth 20000 in
theorem mk_inner {N : Nat} {Qf : Post} {K : List It} {φ : Fr} {l : List FileT} {f : Bs} {all rest : List Oper} {o : Oper} {d : Option Nat} (ho : o.op = .makeMap 91 none) (hd : o.dst = d) (hg : o.guard = none) (hN : dstOk N o.dst = true)
    (k : ∀ r, AK X N Qf (.ops all rest :: K) .normal (putD d (.e (.one (.v (.map (some r))))) φ) [.opq (FHx l f r)]) : AK X N Qf (.ops all (o :: rest) :: K) .normal φ [.opq (FHm l f none)] := by
  subst hd
  refine AK.hand (ι := Nat) (fun r => .e (.one (.v (.map (some r))))) (fun r => [.opq (FHx l f r)]) hg hN ?_ k
  intro s a hf hh
  obtain ⟨L, ch, hL, ⟨r0, es0, c0, inn, hFH, hm⟩, hheap, hbs, hlt⟩ := opq_open hh
  have hnone : inn f = none := by cases hi : inn f with
    | none => rfl
    | some x => rw [hi] at hm; cases hm
  let w1 : World := { s.w with heap := s.w.heap.push (.map #[] 0) }
  have hchn : ch s.w.heap.size = none := by
    cases hc : ch s.w.heap.size with
    | none => rfl
    | some o => have := hlt _ ((hbs _).2 (by rw [hc]; rfl)); omega
  obtain ⟨t1, t2⟩ := hh.turn (l := 0) (H := FHm l f none) (H' := FHx l f s.w.heap.size) (L := L) (L' := ⟨L.v, s.w.heap.size :: L.bs⟩) (w' := w1) rfl (by rw [hL]; rfl) rfl (by simp [w1])
    (fun b hb hn => by
      show (s.w.heap.push _)[b]? = _
      rw [Array.getElem?_push_lt hb, Array.getElem?_eq_getElem hb])
    (fun b hb => by
      rcases List.mem_cons.1 hb with rfl | hb
      · exact .inr ⟨Nat.le_refl _, by simp [w1]⟩
      · exact .inl hb)
    ⟨_, ⟨r0, es0, c0, inn, ch, hFH, hnone, hchn, rfl⟩, fun b o hb => by
      by_cases e1 : b = s.w.heap.size
      · subst e1
        simp only [if_true] at hb
        cases hb
        show (s.w.heap.push _)[s.w.heap.size]? = _
        simp
      · simp only [e1, if_false] at hb
        have hbl := hlt b ((hbs b).2 (by rw [hb]; rfl))
        show (s.w.heap.push _)[b]? = _
        rw [Array.getElem?_push_lt hbl, ← hheap b o hb, Array.getElem?_eq_getElem hbl], fun b => by
      by_cases e1 : b = s.w.heap.size
      · subst e1; simp
      · simp only [e1, if_false, List.mem_cons, false_or]; exact hbs b⟩ rfl rfl rfl
  refine ⟨s.w.heap.size, .value (.map (some s.w.heap.size)), _, .map (some s.w.heap.size), ?_, .inl rfl, Rd.val rfl, t1, t2, ?_⟩
  · simp [execOp, ho, Instr.makeMap, run_newObj, w1]
  · simp [execOp, ho, Instr.makeMap]; exact .nil

set_option maxRecDepth 20000 in
theorem put_outer {N : Nat} {Qf : Post} {K : List It} {φ : Fr} {l : List FileT} {f : Bs} {all rest : List Oper} {o : Oper} {r t1 t2 t3 : Nat} (ho : o.op = .mapUpdate 55 (.tmp t1) (.tmp t2) (.tmp t3)) (hd : o.dst = none) (hg : o.guard = none)
    (h1 : look φ t1 = .e (.one (.ref 0))) (h2 : look φ t2 = dS f) (h3 : look φ t3 = .e (.one (.v (.map (some r)))))
    (k : AK X N Qf (.ops all rest :: K) .normal φ [.opq (FHm l f (some r))]) : AK X N Qf (.ops all (o :: rest) :: K) .normal φ [.opq (FHx l f r)] := by
  refine AK.hand (ι := Unit) (fun _ => .any) (fun _ => [.opq (FHm l f (some r))]) hg (by rw [hd]; rfl) ?_ fun _ => by rw [hd]; exact k
  intro s a hf hh
  obtain ⟨L, ch, hL, ⟨r0, es0, c0, inn, ch0, hFH, hnone, hchn, hch⟩, hheap, hbs, hlt⟩ := opq_open hh
  have e1 : a.eval (.tmp t1) = .map (some r0) := (slot_ref hf hL t1 h1).trans hFH.val
  have e2 : a.eval (.tmp t2) = bsV f := slot_str hf t2 h2
  have e3 : a.eval (.tmp t3) = .map (some r) := slot_v hf t3 h3
  have hne : r0 ≠ r := by rintro rfl; rw [hFH.out] at hchn; cases hchn
  have hr0c : ch r0 = some (.map es0 c0) := by rw [hch]; simp only [hne, if_false]; exact hFH.out
  have hr0 := hheap _ _ hr0c
  have hr0b : r0 ∈ L.bs := (hbs r0).2 (by rw [hr0c]; rfl)
  have hr0l := hlt r0 hr0b
  obtain ⟨av, hf1⟩ := found_ex (es := es0) ⟨f.toArray⟩ (fun e he => by obtain ⟨f, _, _, _, h1, _⟩ := hFH.key0 e he; exact ⟨_, h1⟩)
  have hav : av = none := by
    cases av with
    | none => rfl
    | some jv =>
      obtain ⟨e, q1, q2, q3⟩ := hf1.yes jv.1 jv.2 rfl
      obtain ⟨g, r2, es2, c2, k1, k2, k3⟩ := hFH.key0 e (by rw [Array.mem_toList_iff]; exact Array.mem_of_getElem? q1)
      have : g = f := bsV_inj (k1.symm.trans q2)
      rw [this, hnone] at k3; cases k3
  subst hav
  obtain ⟨u1, u2⟩ := update_mapG (x := .map (some r)) Try.underlying55 Try.underlying9 hr0 hf1
  have hF := hFH.newInner hnone hchn (hf1.no rfl)
  have hH : FHm l f (some r) L.v (fun b => if b = r0 then some (.map (es0.push ⟨bsV f, .map (some r), c0⟩) (c0 + 1)) else ch b) := by
    have e : (fun b => if b = r0 then some (.map (es0.push ⟨bsV f, .map (some r), c0⟩) (c0 + 1)) else ch b) = (fun b => if b = r0 then some (Obj.map (es0.push { key := bsV f, val := .map (some r), born := c0 }) (c0 + 1)) else if b = r then some (.map #[] 0) else ch0 b) := by
        funext b; rw [hch]
    rw [← e] at hF
    exact ⟨r0, _, _, _, hF, by simp⟩
  obtain ⟨t1', t2'⟩ := hh.turn (l := 0) (H := FHx l f r) (H' := FHm l f (some r)) (L := L) (L' := L) (w' := { s.w with heap := s.w.heap.setIfInBounds r0 (.map (es0.push ⟨bsV f, .map (some r), c0⟩) (c0 + 1)) }) rfl (by rw [hL]; rfl) rfl (by simp)
    (fun b _ hb => by
      show (s.w.heap.setIfInBounds r0 _)[b]? = _
      rw [Array.getElem?_setIfInBounds_ne (by rintro rfl; exact hb hr0b)]) (fun b hb => .inl hb)
    ⟨_, hH, fun b ob hb => by
      show (s.w.heap.setIfInBounds r0 _)[b]? = _
      by_cases e : b = r0
      · subst e
        simp only [if_true] at hb
        cases hb
        rw [Array.getElem?_setIfInBounds_self_of_lt hr0l]
      · simp only [e, if_false] at hb
        rw [Array.getElem?_setIfInBounds_ne (fun h => e h.symm)]
        exact hheap b ob hb, fun b => by
      by_cases e : b = r0
      · subst e; simp [hr0b]
      · simp only [e, if_false]; exact hbs b⟩ rfl rfl rfl
  refine ⟨(), .skip, _, undef, ?_, .inr ⟨rfl, rfl⟩, trivial, t1', t2', ?_⟩
  · simp only [execOp, ho, e1, e2, e3, Sem.run_bind, show bsV f = Value.string ⟨f.toArray⟩ from rfl, u1, Result.andThen_ok, Sem.run_pure]
  · simp only [execOp, ho, e1, e2, e3, Sem.events_bind, show bsV f = Value.string ⟨f.toArray⟩ from rfl, u1, u2, Result.evThen_ok, Sem.events_pure]
    exact .two (evOK_obj (L := L) (by rw [hL]; simp) hr0b) (evOK_obj (L := L) (by rw [hL]; simp) hr0b)

/-- Is it none? -/
theorem eq_none {N : Nat} {Qf : Post} {K : List It} {φ : Fr} {σ : List Box} {all rest : List Oper} {o : Oper} {x : Nat} {m : Option Nat} {ty : TypeId} {d : Option Nat} (ho : o.op = .binOp .eql 91 (.tmp x) (.const (.map none)) ty) (hd : o.dst = d) (hg : o.guard = none) (hN : dstOk N o.dst = true)
    (hx : look φ x = .e (.one (.v (.map m)))) (k : AK X N Qf (.ops all rest :: K) .normal (putD d (dB m.isNone) φ) σ) : AK X N Qf (.ops all (o :: rest) :: K) .normal φ σ := by
  subst hd
  refine AK.hand (ι := Unit) (fun _ => dB m.isNone) (fun _ => σ) hg hN ?_ fun _ => k
  intro s a hf hh
  obtain ⟨h1, h2⟩ := law_mapEq (η := absO φ) (σ := σ) (m := m) ho hx rfl (fun _ _ => trivial) s a.eval rfl (absO_ok hf)
  exact ⟨(), _, s, _, h1, .inl rfl, Rd.bool, hh, .refl _ _, EvOK.of_eq h2 .nil⟩

set_option maxRecDepth 20000 in
theorem ev_fput (l : List FileT) (p x : Bs) (hp : p.length ≤ 9223372036854775807) (hx : x.length ≤ 9223372036854775807) : Ev X 64 [.e (.one (.ref 0)), dS p, dS x] [.opq (FH l)] (.tup []) [.opq (FH (insF l (p, x)))] := by
  refine Ev.body Try.func64 rfl rfl rfl fun hf0 => ?_
  refine AK.run2 foll tok cok16 [] 100 rfl trivial ?_
  refine look_outer (l := l) (p := p) rfl rfl rfl rfl rfl rfl (fun _ => True) (fun v ch ⟨r0, es0, c0, inn, h⟩ => ⟨r0, es0, c0, inn, h, trivial⟩) fun m _ => ?_
  refine eq_none (m := m) rfl rfl rfl rfl rfl ?_
  cases m with
  | some r =>
    refine AK.run2 foll tok cok16 [] 100 rfl trivial ?_
    refine look_outer (l := l) (p := p) rfl rfl rfl rfl rfl rfl (fun m => m = some r) (fun v ch ⟨r0, es0, c0, inn, h, hm⟩ => ⟨r0, es0, c0, inn, h, hm⟩) fun m hm => ?_
    subst hm
    refine AK.run2 foll tok cok16 [] 2 rfl trivial ?_
    refine put_inner hp hx rfl rfl rfl rfl rfl rfl ?_
    refine AK.run2 foll tok cok16 [] 100 rfl trivial ?_
    refine RetQ.fall [0] rfl ?_ rfl rfl rfl ?_
    · simp [AllP]
    · intro j hj
      have : j = 0 := by simpa using hj
      subst this; rfl
  | none =>
    refine AK.run2 foll tok cok16 [] 100 rfl trivial ?_
    refine mk_inner (l := l) (f := folderOf p) rfl rfl rfl rfl fun r => ?_
    refine put_outer (l := l) (f := folderOf p) rfl rfl rfl rfl rfl rfl ?_
    refine AK.run2 foll tok cok16 [] 100 rfl trivial ?_
    refine look_outer (l := l) (p := p) rfl rfl rfl rfl rfl rfl (fun m => m = some r) (fun v ch ⟨r0, es0, c0, inn, h, hm⟩ => ⟨r0, es0, c0, inn, h, hm⟩) fun m hm => ?_
    subst hm
    refine AK.run2 foll tok cok16 [] 2 rfl trivial ?_
    refine put_inner hp hx rfl rfl rfl rfl rfl rfl ?_
    refine AK.run2 foll tok cok16 [] 100 rfl trivial ?_
    refine RetQ.fall [0] rfl ?_ rfl rfl rfl ?_
    · simp [AllP]
    · intro j hj
      have : j = 0 := by simpa using hj
      subst this; rfl

theorem dropF_none {l : List FileT} {p : Bs} (h : getF l p = none) : dropF l p = l := by
  apply List.filter_eq_self.2
  intro f hf
  have := getF_no h f.2
  simp only [Bool.not_eq_true', beq_eq_false_iff_ne, ne_eq]
  rintro rfl
  exact this hf

set_option maxRecDepth 20000 in
theorem ev_fdrop (l : List FileT) (p : Bs) : Ev X 67 [.e (.one (.ref 0)), dS p] [.opq (FH l)] (.tup []) [.opq (FH (dropF l p))] := by
  refine Ev.body Try.func67 rfl rfl rfl fun hf0 => ?_
  refine AK.run2 foll tok cok16 [] 100 rfl trivial ?_
  refine look_outer (l := l) (p := p) rfl rfl rfl rfl rfl rfl (fun _ => True) (fun v ch ⟨r0, es0, c0, inn, h⟩ => ⟨r0, es0, c0, inn, h, trivial⟩) fun m _ => ?_
  refine AK.run2 foll tok cok16 [] 1 rfl trivial ?_
  refine AK.hand (ι := Unit) (fun _ => .any) (fun _ => [.opq (FH (dropF l p))]) rfl rfl ?_ fun _ => ?_
  · intro s a hf hh
    obtain ⟨L, ch, hL, ⟨r0, es0, c0, inn, hFH, hm⟩, hheap, hbs, hlt⟩ := opq_open hh
    have e7 : a.eval (.tmp 7) = .map m := slot_v hf 7 rfl
    have e8 : a.eval (.tmp 8) = bsV p := slot_str hf 8 rfl
    have main : ∃ w', (∀ ty, (Builtin.delete_ #[91, 9] ty #[.map m, bsV p]).run Try.prog s.w = .ok (.tuple #[]) w') ∧ (∀ ty, EvOK s ((Builtin.delete_ #[91, 9] ty #[.map m, bsV p]).events Try.prog s.w #[])) ∧
        HeapOK [.opq (FH (dropF l p))] { s with w := w' } ∧ Step [.opq (FHm l (folderOf p) m)] s [.opq (FH (dropF l p))] { s with w := w' } := by
      rcases hFH.find p with ⟨hi, hf1, hg⟩ | ⟨r, es, c, j, hi, hf1, hin⟩
      · rw [hi] at hm
        have hm : m = none := hm.symm
        subst hm
        refine ⟨s.w, fun ty => (delete_nilG (k := bsV p) Try.underlying91 Try.underlying9 (d := .string) (show MapKept.IsKey .string (.string ⟨p.toArray⟩) from trivial)).1, fun ty => EvOK.of_eq (delete_nilG (k := bsV p) Try.underlying91 Try.underlying9 (d := .string) (show MapKept.IsKey .string (.string ⟨p.toArray⟩) from trivial)).2 .nil, ?_⟩
        rw [dropF_none hg]
        exact opq_to hh hL (H' := FH l) ⟨r0, es0, c0, inn, hFH⟩ hheap hbs
      · rw [hi] at hm
        have hm : m = some r := hm.symm
        subst hm
        have hchr := (hFH.inn1 _ _ _ _ hi).1
        have hst := (hFH.inn1 _ _ _ _ hi).2.1
        have hr := hheap _ _ hchr
        have hbr : r ∈ L.bs := (hbs r).2 (by rw [hchr]; rfl)
        have hev : EvOK s #[⟨.obj r, false, false⟩, ⟨.obj r, true, false⟩] := .two (evOK_obj (L := L) (by rw [hL]; simp) hbr) (evOK_obj (L := L) (by rw [hL]; simp) hbr)
        rcases hin with ⟨hf2, hg⟩ | ⟨j', y, hf2, hg⟩
        · refine ⟨_, fun ty => (delete_mapG Try.underlying91 Try.underlying9 hr hf2).1, fun ty => EvOK.of_eq (delete_mapG Try.underlying91 Try.underlying9 hr hf2).2 hev, ?_⟩
          refine inner_turn (l := l) hh hL hheap hbs hchr ⟨r0, es0, c0, _, hFH.dropInner hi hst fun e => ?_⟩
          exact ⟨fun he => ⟨he, hf2.no rfl e he⟩, fun he => he.1⟩
        · obtain ⟨e0, k1, k2, k3⟩ := hf2.yes j' _ rfl
          refine ⟨_, fun ty => (delete_mapG Try.underlying91 Try.underlying9 hr hf2).1, fun ty => EvOK.of_eq (delete_mapG Try.underlying91 Try.underlying9 hr hf2).2 hev, ?_⟩
          refine inner_turn (l := l) hh hL hheap hbs hchr ⟨r0, es0, c0, _, hFH.dropInner hi (stamped_erase hst j') fun e => ?_⟩
          rw [mem_erase hst k1, k2]; rfl
    obtain ⟨w', hd, hde, t1, t2⟩ := main
    refine ⟨(), .value (.tuple #[]), { s with w := w' }, .tuple #[], ?_, .inl rfl, trivial, t1, t2, ?_⟩
    · simp [execOp, resolve, invoke, builtin, e7, e8, hd]
    · exact ev_pureV' (hde 0) (by simp [execOp, resolve, invoke, builtin, e7, e8])
  · refine AK.run2 foll tok cok16 [] 100 rfl trivial ?_
    refine RetQ.fall [0] rfl ?_ rfl rfl rfl ?_
    · simp [AllP]
    · intro j hj
      have : j = 0 := by simpa using hj
      subst this; rfl

end R1
end Go.AM

namespace Go.AM.R1
open Go.Proofs
variable {X : Cx Try.prog}

theorem FHs.empty (r : Nat) : FHs [] (.map (some r)) (fun b => if b = r then some (.map #[] 0) else none) r #[] 0 (fun _ => none) := by
  refine ⟨rfl, if_pos rfl, MapKept.stamped_empty _, by simp, by simp, by simp, by simp, by simp, by simp, ?_, List.Pairwise.nil, by simp⟩
  intro b o h
  by_cases e : b = r
  · exact .inl e
  · simp [e] at h

/-- A new map of maps. -/
theorem new_folders {s : St} (hh : HeapOK [] s) : HeapOK [.opq (FH [])] ⟨s.β ++ [⟨.map (some s.w.heap.size), [s.w.heap.size]⟩], s.M, { s.w with heap := s.w.heap.push (.map #[] 0) }, s.own⟩ ∧
    Step [] s [.opq (FH [])] ⟨s.β ++ [⟨.map (some s.w.heap.size), [s.w.heap.size]⟩], s.M, { s.w with heap := s.w.heap.push (.map #[] 0) }, s.own⟩ := by
  obtain ⟨g1, g2⟩ := hh.grow (M' := s.M) (w' := { s.w with heap := s.w.heap.push (.map #[] 0) }) (by simp) (fun b hb => by
    show (s.w.heap.push _)[b]? = _
    rw [Array.getElem?_push_lt hb, Array.getElem?_eq_getElem hb]) (fun _ _ _ => rfl) (fun b hb o v hm => by have := hh.block hm; omega) rfl rfl rfl
  have hnew : ({ s.w with heap := s.w.heap.push (.map #[] 0) } : World).heap[s.w.heap.size]? = some (.map #[] 0) := by simp
  exact g1.addBox (B := .opq (FH [])) (L := ⟨.map (some s.w.heap.size), [s.w.heap.size]⟩) g2 rfl hh ⟨fun b => if b = s.w.heap.size then some (.map #[] 0) else none, ⟨_, _, _, _, FHs.empty _⟩, fun b o h => by
    by_cases e : b = s.w.heap.size
    · subst e; simp only [if_true] at h; cases h; exact hnew
    · simp [e] at h, fun b => by
    by_cases e : b = s.w.heap.size <;> simp [e], fun b hb o => by
    simp at hb; subst hb
    cases hm : s.M s.w.heap.size o with
    | none => rfl
    | some v => have := hh.block hm; omega⟩ (fun b hb => by simp at hb; subst hb; simp)
end Go.AM.R1

namespace Go.AM.R1
open Go.Proofs
variable {X : Cx Try.prog}

def accF (t : List FileT) : List FileT := t.foldl insF []
theorem accF_take {t : List FileT} {i : Nat} (h : i < t.length) : accF (t.take (i + 1)) = insF (accF (t.take i)) (pth t i, txt t i) := by
  rw [List.take_add_one, List.getElem?_eq_getElem h, fileAt h]
  simp [accF]

set_option maxRecDepth 20000 in
theorem ev_foldersOf (t : List FileT) (hb : ∀ i, i < t.length → (pth t i).length ≤ 9223372036854775807 ∧ (txt t i).length ≤ 9223372036854775807) : Ev X 35 [cF.sl t] [] (.e (.one (.ref 0))) [.opq (FH (accF t))] := by
  refine Ev.body Try.func35 rfl rfl rfl fun hf0 => ?_
  have hlen := hf0.sl 0 rfl
  refine AK.run2 foll tok cok16 [] 100 rfl trivial ?_
  refine AK.hand (ι := Unit) (fun _ => .e (.one (.ref 0))) (fun _ => [.opq (FH [])]) rfl rfl ?_ fun _ => ?_
  · intro s a hf hh
    obtain ⟨g1, g2⟩ := new_folders hh
    have hs : s.β = [] := List.eq_nil_of_length_eq_zero hh.len
    refine ⟨(), .value (.map (some s.w.heap.size)), _, .map (some s.w.heap.size), ?_, .inl rfl, ?_, g1, g2, ?_⟩
    · simp [execOp, Instr.makeMap, run_newObj]
    · exact ⟨fun _ _ _ _ => opq_novec, ⟨.map (some s.w.heap.size), [s.w.heap.size]⟩, by simp [hs], rfl, rfl⟩
    · simp [execOp, Instr.makeMap]; exact .nil
  · refine AK.run2 foll tok cok16 [] 100 rfl trivial ?_
    refine AK.loopD 1 (fun i => i ≤ t.length) (fun i : Nat => [(7, cF.sl t), (8, dI t.length), (9, dI i), (3, .e (.one (.ref 0)))]) (fun i => [.opq (FH (accF (t.take i)))]) (fun i => t.length - i) 0 rfl ?_ rfl ?_ rfl (by omega) ?_
    · simp [AllP, AllP.cat, EqF.same]
    · simp [AllP, AllP.cat, accF]
    intro i hi
    by_cases h : i < t.length
    · refine AK.run2 foll tok cok16 [(10, true)] 200 rfl ?_ ?_
      · simp [-List.getD_eq_getElem?_getD, AllP, h]
      refine AK.callEv (ev_fput (accF (t.take i)) (pth t i) (txt t i) (hb i h).1 (hb i h).2) [0] rfl rfl rfl rfl rfl rfl rfl rfl rfl rfl rfl ?_
      refine AK.run2 foll tok cok16 [] 200 rfl ?_ (AK.againD (i + 1) rfl ?_ rfl rfl rfl ?_ rfl ?_ ?_)
      · simp [AllP, inR]; omega
      · simp [AllP, AllP.cat, EqF.same]
      · rw [accF_take h]; simp [AllP, AllP.cat]
      · omega
      · omega
    · have : i = t.length := by omega
      subst this
      rw [List.take_length]
      refine AK.run2 foll tok cok16 [(10, false)] 100 rfl (by simp [AllP]) (AK.leaveD rfl rfl ?_)
      refine AK.run2 foll tok cok16 [] 100 rfl trivial (AK.retB [0] rfl ?_ rfl rfl rfl ?_)
      · simp [AllP]
      · intro j hj; simp at hj
end Go.AM.R1

namespace Go.AM.R1

theorem insF_last : ∀ {l : List FileT} {f : FileT}, (∀ g ∈ l, Op.bytesLess g.1 f.1 = true) → insF l f = l ++ [f]
  | [], f, _ => rfl
  | g :: r, f, h => by
    have h1 := h g List.mem_cons_self
    simp only [insF]
    rw [if_neg (bl_ne h1), if_neg (by rw [bl_asymm h1]; simp), insF_last (fun x hx => h x (List.mem_cons_of_mem _ hx))]
    rfl

theorem fold_insF : ∀ (t acc : List FileT), Sorted (acc ++ t) → t.foldl insF acc = acc ++ t
  | [], acc, _ => by simp
  | f :: r, acc, h => by
    have h1 : ∀ g ∈ acc, Op.bytesLess g.1 f.1 = true := fun g hg => (List.pairwise_append.1 h).2.2 g hg f List.mem_cons_self
    rw [List.foldl_cons, insF_last h1, fold_insF r (acc ++ [f]) (by simpa using h)]
    simp

theorem accF_sorted {t : List FileT} (h : Sorted t) : accF t = t := by
  have := fold_insF t [] (by simpa using h)
  simpa [accF] using this

theorem treeOk_sorted {t : List FileT} (h : treeOk t = true) : Sorted t := by
  simp only [treeOk, Bool.and_eq_true] at h
  have hall := all_range.1 h.1
  rw [Sorted, List.pairwise_iff_getElem]
  intro i j hi hj hij
  rw [fileAt hi, fileAt hj]
  refine rise (t := t) (i := j) (fun k hk hkj => ?_) i hij
  have := hall k (by omega)
  simp only [stepOk, Bool.and_eq_true, Bool.or_eq_true, beq_iff_eq] at this
  exact this.1.2.resolve_left (by omega)
end Go.AM.R1

namespace Go.AM.R1
open Go.Proofs
variable {X : Cx Try.prog}

theorem treeOk_small {t : List FileT} (h : treeOk t = true) : ∀ i, i < t.length → (pth t i).length ≤ 9223372036854775807 ∧ (txt t i).length ≤ 9223372036854775807 := by
  intro i hi
  simp only [treeOk, Bool.and_eq_true] at h
  have := all_range.1 h.1 i hi
  simp only [stepOk, Bool.and_eq_true] at this
  have h1 := this.1.1.1
  have h2 := this.1.1.2
  rw [← pathOk_eq] at h1
  have h3 := pathOkI_len h1
  simp only [textOk, Bool.and_eq_true, decide_eq_true_eq] at h2
  omega

set_option maxRecDepth 20000 in
/-- The program's TreeGet is the reference's. -/
theorem ev_treeGetI (t : List FileT) (p : Bs) : Ev X 11 [cF.sl t, dS p] [] (tSB ((treeGet t p).getD []) (treeGet t p).isSome) [] := by
  refine Ev.body Try.func11 rfl rfl rfl fun hf0 => ?_
  cases h : treeOk t with
  | false =>
    refine AK.run2 foll tok cok20 [(7, false)] 100 rfl ?_ (AK.ret0 rfl ?_)
    · simp [AllP, cF.list_fn, cF.fits_fn, treeOk_eq, h]
    · simp [AllP, AllP.cat, treeGet, h]
  | true =>
    refine AK.run2 foll tok cok20 [(7, true)] 100 rfl ?_ ?_
    · simp [AllP, cF.list_fn, cF.fits_fn, treeOk_eq, h]
    refine AK.callEv (ev_foldersOf t (treeOk_small h)) [] rfl rfl rfl rfl rfl rfl rfl rfl rfl rfl rfl ?_
    refine AK.run2 foll tok cok20 [] 100 rfl trivial ?_
    refine AK.callEv (ev_fget (accF t) p) [0] rfl rfl rfl rfl rfl rfl rfl rfl rfl rfl rfl ?_
    refine AK.run2 foll tok cok20 [] 100 rfl trivial (AK.ret0 rfl ?_)
    simp [AllP, AllP.cat, treeGet, h, accF_sorted (treeOk_sorted h)]
end Go.AM.R1

/- A loop over a map that is not written meanwhile. -/
namespace Go.AM
open Go.ChangeMaps (setBlock)

section
variable {P : Program}

theorem ev_next_at (w : World) (ty : TypeId) (r bm since c0 : Nat) (seen : Array Nat) (es : Array MapEntry) (clock : Nat)
    (hr : w.heap[r]? = some (.mapIter (some bm) since seen c0)) (hb : w.heap[bm]? = some (.map es clock)) (hold : ∀ x ∈ es.toList, x.born < since) (hsc : since ≤ c0) :
    ∀ e ∈ (Instr.next (.pointer (some ⟨r, 0, none⟩)) false ty).events P w #[], e.sync = false ∧ (e.loc = .obj r ∨ e.loc = .obj bm) := by
  have h1 : (getObj r).run P w = .ok (.mapIter (some bm) since seen c0) w := by simp only [getObj, Sem.run, hr]
  have h2 : (getObj bm).run P w = .ok (.map es clock) w := by simp only [getObj, Sem.run, hb]
  have h3 : ∀ es, (getObj r).events P w es = es.push ⟨.obj r, false, false⟩ := fun es => by simp only [getObj, Sem.events, Sem.runT, hr]; rfl
  have h4 : ∀ es, (getObj bm).events P w es = es.push ⟨.obj bm, false, false⟩ := fun es => by simp only [getObj, Sem.events, Sem.runT, hb]; rfl
  have h5 : ∀ (w1 : World) (sn : Array Nat) (evs : Array Event), w1.heap[r]? = some (.mapIter (some bm) since seen c0) → (setObj r (.mapIter (some bm) since sn clock)).events P w1 evs = evs.push ⟨.obj r, true, false⟩ := fun w1 sn evs h => by simp only [setObj, Sem.events, Sem.runT, h]; rfl
  have h6 : ∀ (w1 : World) (o : Obj), w1.heap[r]? = some (.mapIter (some bm) since seen c0) → ∃ w2, (setObj r o).run P w1 = .ok () w2 := fun w1 o h => ⟨{ w1 with heap := w1.heap.setIfInBounds r o }, by simp only [setObj, Sem.run, h]⟩
  simp only [Instr.next, Sem.events_bind, h1, h2, h3, h4, Result.evThen_ok, next_test_false seen es since c0 hold hsc, Bool.false_eq_true, if_false]
  generalize hL : ((if (Array.filter (fun x => decide (x.born < since)) (Array.filter (fun e => !seen.contains e.born) es)).isEmpty = true then #[none] else #[]) ++ Array.map some (Array.filter (fun x => decide (x.born < since)) (Array.filter (fun e => !seen.contains e.born) es) ++ Array.filter (fun x => decide (x.born ≥ since)) (Array.filter (fun e => !seen.contains e.born) es))) = L
  have hc : ∃ j w1, (w1 = w ∨ w1 = w.drew) ∧ (choose (Question.mapNext L.size)).run P w = .ok j w1 ∧ ∀ es, (choose (Question.mapNext L.size)).events P w es = es := by
    by_cases hf : L.size ≤ 1
    · exact ⟨0, w, Or.inl rfl, by simp [choose, Sem.run, Question.forced, hf], fun es => by simp [choose, Sem.events, Sem.runT, Question.forced, hf]⟩
    · exact ⟨_, w.drew, Or.inr rfl, by
        simp only [choose, Sem.run, Question.forced, decide_eq_true_eq, hf, if_false, Question.cut]
        rfl, fun es => by
        simp only [choose, Sem.events, Sem.runT, Question.forced, decide_eq_true_eq, hf, if_false, Question.cut]⟩
  obtain ⟨j, w1, hal, hrun, hev⟩ := hc
  have hr1 : w1.heap[r]? = some (.mapIter (some bm) since seen c0) := by rcases hal with rfl | rfl <;> exact hr
  simp only [hrun, hev, Result.evThen_ok]
  intro e he
  have fin : e ∈ (#[⟨.obj r, false, false⟩, ⟨.obj bm, false, false⟩, ⟨.obj r, true, false⟩] : Array Event) := by
    cases hj : L[j]? with
    | none => rw [hj] at he; simp [stuck, Sem.events, Sem.runT] at he; rcases he with h | h <;> simp [h]
    | some o =>
      rw [hj] at he
      cases o with
      | none => simp at he; rcases he with h | h <;> simp [h]
      | some x =>
        obtain ⟨w2, hw2⟩ := h6 w1 (.mapIter (some bm) since (seen.push x.born) clock) hr1
        simp [h5 w1 _ _ hr1] at he; rcases he with h | h | h <;> simp [h]
  simp at fin
  rcases fin with rfl | rfl | rfl <;> simp


theorem ev_entry_at (w : World) (r bm since : Nat) (seen : Array Nat) (es : Array MapEntry) (clock : Nat) (e : MapEntry)
    (hr : w.heap[r]? = some (.mapIter (some bm) since (seen.push e.born) clock)) (hb : w.heap[bm]? = some (.map es clock)) (he : e ∈ es.toList) (hn : (es.toList.map (·.born)).Nodup) :
    (Instr.entry (.pointer (some ⟨r, 0, none⟩))).events P w #[] = #[⟨.obj r, false, false⟩, ⟨.obj bm, false, false⟩] := by
  have hf : es.find? (·.born == e.born) = some e := by rw [← Array.find?_toList]; exact find_born e es.toList hn he
  have h1 : (getObj r).run P w = .ok (.mapIter (some bm) since (seen.push e.born) clock) w := by simp only [getObj, Sem.run, hr]
  have h2 : (getObj bm).run P w = .ok (.map es clock) w := by simp only [getObj, Sem.run, hb]
  have h3 : ∀ es, (getObj r).events P w es = es.push ⟨.obj r, false, false⟩ := fun es => by simp only [getObj, Sem.events, Sem.runT, hr]; rfl
  have h4 : ∀ es, (getObj bm).events P w es = es.push ⟨.obj bm, false, false⟩ := fun es => by simp only [getObj, Sem.events, Sem.runT, hb]; rfl
  simp only [Instr.entry, Sem.events_bind, h1, h2, h3, h4, Result.evThen_ok, Array.back?_push, bne_self_eq_false, Bool.false_eq_true, if_false, hf]
  rfl

/-- An iterator of the map in block r; sn: what it has handed out. -/
def Itr (r c : Nat) (sn : Array Nat) : Value → (Nat → Option Obj) → Prop := fun v ch => ∃ it : Nat, v = .pointer (some ⟨it, 0, none⟩) ∧ ch = fun b => if b = it then some (.mapIter (some r) c sn c) else none

/-- A box that holds that map. -/
def Has (H : Value → (Nat → Option Obj) → Prop) (r : Nat) (es : Array MapEntry) (c : Nat) : Prop := ∀ v ch, H v ch → ch r = some (.map es c)

variable {X : Cx P} {N : Nat} {Qf : Post} {K : List It} {φ : Fr} {σ : List Box} {all rest : List Oper} {o : Oper}

theorem HeapOK.has {s : St} (hh : HeapOK σ s) {l : Nat} {H : Value → (Nat → Option Obj) → Prop} (hB : σ[l]? = some (.opq H)) {r : Nat} {es : Array MapEntry} {c : Nat} (hH : Has H r es c) : s.w.heap[r]? = some (.map es c) ∧ ∃ L ∈ s.β, r ∈ L.bs := by
  have hl : l < s.β.length := by rw [hh.len]; exact (List.getElem?_eq_some_iff.1 hB).1
  obtain ⟨ch, h1, h2, h3, h4⟩ := hh.box l _ s.β[l] hB (List.getElem?_eq_getElem hl)
  have := hH _ _ h1
  exact ⟨h2 r _ this, s.β[l], List.getElem_mem hl, (h3 r).2 (by rw [this]; rfl)⟩

theorem HeapOK.itr {s : St} (hh : HeapOK σ s) {l r c : Nat} {sn : Array Nat} (hB : σ[l]? = some (.opq (Itr r c sn))) : ∃ it : Nat, s.β[l]? = some ⟨.pointer (some ⟨it, 0, none⟩), ((s.β[l]?).map (·.bs)).getD []⟩ ∧ s.w.heap[it]? = some (.mapIter (some r) c sn c) ∧ ∀ L, s.β[l]? = some L → ∀ b, b ∈ L.bs ↔ b = it := by
  have hl : l < s.β.length := by rw [hh.len]; exact (List.getElem?_eq_some_iff.1 hB).1
  have hL := List.getElem?_eq_getElem hl
  obtain ⟨ch, ⟨it, h0, h1⟩, h2, h3, h4⟩ := hh.box l _ s.β[l] hB hL
  refine ⟨it, ?_, h2 it _ (by rw [h1]; simp), fun L hL' b => ?_⟩
  · rw [hL]; simp [← h0]
  · rw [hL] at hL'; cases hL'
    rw [h3 b, h1]
    by_cases e : b = it <;> simp [e]

/-- The loop over a map begins. -/
theorem AK.range {t x d : Nat} {kt et : TypeId} (ho : o.op = .range t (.tmp x)) (hd : o.dst = some d) (hg : o.guard = none) (hN : dstOk N o.dst = true) (ht : P.underlying t = some (.map kt et)) {r : Nat} (hx : ∀ s a, FrOK N σ s φ a → HeapOK σ s → a.eval (.tmp x) = .map (some r))
    {mb : Nat} {H : Value → (Nat → Option Obj) → Prop} {es : Array MapEntry} {c : Nat} (hB : σ[mb]? = some (.opq H)) (hH : Has H r es c)
    (k : AK X N Qf (.ops all rest :: K) .normal ((d, .e (.one (.ref σ.length))) :: φ) (σ ++ [.opq (Itr r c #[])])) : AK X N Qf (.ops all (o :: rest) :: K) .normal φ σ := by
  refine AK.hand (ι := Unit) (fun _ => .e (.one (.ref σ.length))) (fun _ => σ ++ [.opq (Itr r c #[])]) hg hN ?_ fun _ => by rw [hd]; exact k
  intro s a hf hh
  have hv : a.eval (.tmp x) = .map (some r) := hx s a hf hh
  obtain ⟨hr, L, hL, hLr⟩ := hh.has hB hH
  have h1 := run_range_map s.w t kt et r es c ht hr
  have h2 : (Instr.range t (.map (some r))).events P s.w #[] = #[⟨.obj r, false, false⟩] := by
    have h4 : ∀ es, (getObj r).events P s.w es = es.push ⟨.obj r, false, false⟩ := fun es => by simp only [getObj, Sem.events, Sem.runT, hr]; rfl
    have h5 : ∀ (o : Obj) (w : World) es, (newObj o).events P w es = es := fun o w es => by simp only [newObj, Sem.events, Sem.runT]
    simp [Instr.range, run_underlying ht, MapKept.run_getObj_map hr, h4, h5]
  have nM : ∀ b, s.w.heap.size ≤ b → ∀ o, s.M b o = none := fun b hb o => by
    cases hm : s.M b o with
    | none => rfl
    | some v => have := hh.block hm; omega
  let w' : World := s.w.alloc (.mapIter (some r) c #[] c)
  have hsz : w'.heap.size = s.w.heap.size + 1 := by show (s.w.heap.push _).size = _; simp
  have hnew : w'.heap[s.w.heap.size]? = some (.mapIter (some r) c #[] c) := heap_alloc_at _ _
  obtain ⟨g1, g2⟩ := hh.grow (M' := s.M) (w' := w') (by omega) (fun b hb => heap_alloc_lt _ _ hb) (fun _ _ _ => rfl) (fun b hb o v hm => by rw [nM b hb] at hm; cases hm) rfl rfl rfl
  obtain ⟨a1, a2⟩ := g1.addBox (B := .opq (Itr r c #[])) (L := ⟨.pointer (some ⟨s.w.heap.size, 0, none⟩), [s.w.heap.size]⟩) g2 rfl hh
    ⟨fun b => if b = s.w.heap.size then some (.mapIter (some r) c #[] c) else none, ⟨_, rfl, rfl⟩, fun b o hb => by
      by_cases e : b = s.w.heap.size
      · subst e; simp only [if_true] at hb; cases hb; exact hnew
      · simp [e] at hb, fun b => by by_cases e : b = s.w.heap.size <;> simp [e], fun b hb o => by simp at hb; subst hb; exact nM _ (Nat.le_refl _) o⟩
    (fun b hb => by simp at hb; subst hb; exact ⟨Nat.le_refl _, by show _ < w'.heap.size; omega⟩)
  refine ⟨(), .value (.pointer (some ⟨s.w.heap.size, 0, none⟩)), _, .pointer (some ⟨s.w.heap.size, 0, none⟩), ?_, .inl rfl, ⟨fun E k n es he => ?_, ⟨.pointer (some ⟨s.w.heap.size, 0, none⟩), [s.w.heap.size]⟩, ?_, rfl, rfl⟩, a1, a2, ?_⟩
  · simp only [execOp, ho, hv, Sem.run_bind, h1, Result.andThen_ok, Sem.run_pure]; rfl
  · rw [List.getElem?_append_right (Nat.le_refl _)] at he; simp at he
  · show (s.β ++ _)[σ.length]? = _
    rw [← hh.len, List.getElem?_append_right (Nat.le_refl _)]; simp
  · exact ev_pureV' (EvOK.of_eq h2 (.one (evOK_obj hL hLr))) (by simp only [execOp, ho, hv])

theorem FrOK.valAt {x : Nat} {v : Value} (hx : look φ x = .e (.one (.v v))) : ∀ s a, FrOK N σ s φ a → HeapOK σ s → a.eval (.tmp x) = v := fun s a hf _ => by
  have := hf.slot x
  rw [hx] at this
  exact Rd.valEq this

theorem FrOK.refAt {x l : Nat} {v : Value} {H : Value → (Nat → Option Obj) → Prop} (hx : look φ x = .e (.one (.ref l))) (hl : σ[l]? = some (.opq H)) (hH : ∀ u ch, H u ch → u = v) : ∀ s a, FrOK N σ s φ a → HeapOK σ s → a.eval (.tmp x) = v := fun s a hf hh => by
  have h := hf.slot x
  rw [hx] at h
  obtain ⟨_, L, hL, hv, _⟩ := (show RdA _ s _ (.ref l) from h)
  obtain ⟨ch, h1, _⟩ := hh.box l _ L hl hL
  exact hv.trans (hH _ _ h1)

/-- Has everything been handed out, or what comes next? -/
inductive NextI (es : Array MapEntry) (sn : Array Nat)
  | over (h : ∀ e ∈ es.toList, e.born ∈ sn)
  | one (e : MapEntry) (h : e ∈ es.toList) (hn : e.born ∉ sn)

def NextI.d {es : Array MapEntry} {sn : Array Nat} : NextI es sn → D
  | .over _ => .tup [.one (.c (.bool false))]
  | .one e _ _ => .tup [.one (.c (.bool true)), .one (.v e.key), .one (.v e.val)]

def NextI.sn {es : Array MapEntry} {sn : Array Nat} : NextI es sn → Array Nat
  | .over _ => sn
  | .one e _ _ => sn.push e.born

theorem AK.next {x d : Nat} {ty : TypeId} (ho : o.op = .next (.tmp x) false) (hty : o.type = ty) (hd : o.dst = some d) (hg : o.guard = none) (hN : dstOk N o.dst = true) {mb ib : Nat} (hx : look φ x = .e (.one (.ref ib))) {r c : Nat} {sn : Array Nat} (hI : σ[ib]? = some (.opq (Itr r c sn)))
    {H : Value → (Nat → Option Obj) → Prop} {es : Array MapEntry} (hB : σ[mb]? = some (.opq H)) (hH : Has H r es c) (hst : MapKept.Stamped es c) (hkv : ∀ e ∈ es.toList, isCell e.key = true ∧ isCell e.val = true)
    (k : ∀ i : NextI es sn, AK X N Qf (.ops all rest :: K) .normal ((d, i.d) :: φ) (σ.set ib (.opq (Itr r c i.sn)))) : AK X N Qf (.ops all (o :: rest) :: K) .normal φ σ := by
  refine AK.hand (ι := NextI es sn) (fun i => i.d) (fun i => σ.set ib (.opq (Itr r c i.sn))) hg hN ?_ fun i => by rw [hd]; exact k i
  intro s a hf hh
  obtain ⟨it, h1, h2, h3⟩ := hh.itr hI
  have hv : a.eval (.tmp x) = .pointer (some ⟨it, 0, none⟩) := by
    have := hf.slot x
    rw [hx] at this
    obtain ⟨_, L, hL, hv, _⟩ := (show RdA _ s _ (.ref ib) from this)
    rw [h1] at hL; cases hL
    exact hv
  obtain ⟨hr, L, hL, hLr⟩ := hh.has hB hH
  have hLi := List.mem_of_getElem? h1
  have hit := (h3 _ h1 it).2 rfl
  have hev : EvOK s ((Instr.next (.pointer (some ⟨it, 0, none⟩)) false o.type).events P s.w #[]) := by
    intro e he
    obtain ⟨q1, q2 | q2⟩ := ev_next_at s.w o.type it r c c sn es c h2 hr hst.1 (Nat.le_refl _) e he
    · obtain ⟨loc, wr, sy⟩ := e; cases q1; cases q2; exact evOK_obj hLi hit
    · obtain ⟨loc, wr, sy⟩ := e; cases q1; cases q2; exact evOK_obj hL hLr
  have hset : σ.set ib (.opq (Itr r c sn)) = σ := by
    apply List.ext_getElem?
    intro i
    by_cases e : ib = i
    · subst e; rw [List.getElem?_set_self (List.getElem?_eq_some_iff.1 hI).1, hI]
    · rw [List.getElem?_set_ne e]
  rcases run_next_at (P := P) s.w o.type it r c c sn es c h2 hr hst.1 (Nat.le_refl _) with ⟨n1, n2⟩ | ⟨e, he, w1, hal, n2⟩
  · have hall : ∀ e ∈ es.toList, e.born ∈ sn := by
      intro e he
      have := Array.eq_empty_of_size_eq_zero n1
      unfold leftOf at this
      rw [Array.filter_eq_empty_iff] at this
      have := this e (by simpa using he)
      simpa using this
    refine ⟨.over hall, .value (.tuple #[.bool false]), s, _, ?_, .inl rfl, ⟨[.bool false], rfl, Rd.bool, trivial⟩, ?_, ?_, ?_⟩
    · simp only [execOp, ho, hv, Sem.run_bind, n2, Result.andThen_ok, Sem.run_pure]
    · show HeapOK (σ.set ib (.opq (Itr r c sn))) s
      rw [hset]; exact hh
    · show Step σ s (σ.set ib (.opq (Itr r c sn))) s
      rw [hset]; exact .refl _ _
    · exact ev_pureV' hev (by simp only [execOp, ho, hv])
  · have he' : e ∈ es.toList ∧ e.born ∉ sn := by
      simp [leftOf] at he
      exact ⟨by simpa using he.1, he.2⟩
    have hw1 : w1.heap = s.w.heap ∧ w1.os = s.w.os ∧ w1.tape = s.w.tape ∧ w1.output = s.w.output := by rcases hal with rfl | rfl <;> exact ⟨rfl, rfl, rfl, rfl⟩
    have hlt : it < s.w.heap.size := hh.lt _ hLi it hit
    have hlt1 : it < w1.heap.size := by rw [hw1.1]; exact hlt
    obtain ⟨t1, t2⟩ := hh.turn (l := ib) (H' := Itr r c (sn.push e.born)) (L' := ⟨.pointer (some ⟨it, 0, none⟩), ((s.β[ib]?).map (·.bs)).getD []⟩) (w' := setBlock w1 it (.mapIter (some r) c (sn.push e.born) c)) hI h1 rfl
      (by simp [setBlock, hw1.1]) (fun b hb hn => by
        have hne : it ≠ b := by rintro rfl; exact hn hit
        simp only [setBlock]
        rw [Array.getElem?_setIfInBounds_ne hne, hw1.1]) (fun b hb => .inl hb)
      ⟨fun b => if b = it then some (.mapIter (some r) c (sn.push e.born) c) else none, ⟨it, rfl, rfl⟩, fun b o hb => by
        by_cases e1 : b = it
        · subst e1
          simp only [if_true] at hb; cases hb
          simp only [setBlock]
          rw [Array.getElem?_setIfInBounds_self_of_lt hlt1]
        · simp [e1] at hb, fun b => by
        rw [h3 _ h1 b]
        by_cases e1 : b = it <;> simp [e1]⟩ (by simp [setBlock, hw1.2.1]) (by simp [setBlock, hw1.2.2.1]) (by simp [setBlock, hw1.2.2.2])
    obtain ⟨c1, c2⟩ := hkv e he'.1
    refine ⟨.one e he'.1 he'.2, .value (.tuple #[.bool true, e.key, e.val]), _, _, ?_, .inl rfl, ⟨[.bool true, e.key, e.val], rfl, Rd.bool, Rd.val c1, Rd.val c2, trivial⟩, t1, t2, ?_⟩
    · simp only [execOp, ho, hv, Sem.run_bind, n2, Result.andThen_ok, Sem.run_pure]
    · exact ev_pureV' hev (by simp only [execOp, ho, hv])

theorem AK.entry {x d : Nat} (ho : o.op = .entry (.tmp x)) (hd : o.dst = some d) (hg : o.guard = none) (hN : dstOk N o.dst = true) {mb ib : Nat} (hx : look φ x = .e (.one (.ref ib))) {r c : Nat} {sn : Array Nat} {e : MapEntry} (hI : σ[ib]? = some (.opq (Itr r c (sn.push e.born))))
    {H : Value → (Nat → Option Obj) → Prop} {es : Array MapEntry} (hB : σ[mb]? = some (.opq H)) (hH : Has H r es c) (hst : MapKept.Stamped es c) (he : e ∈ es.toList) {y : D} (hy : ∀ s : St, RdD σ s (.tuple #[e.key, e.val]) y)
    (k : AK X N Qf (.ops all rest :: K) .normal ((d, y) :: φ) σ) : AK X N Qf (.ops all (o :: rest) :: K) .normal φ σ := by
  refine AK.hand (ι := Unit) (fun _ => y) (fun _ => σ) hg hN ?_ fun _ => by rw [hd]; exact k
  intro s a hf hh
  obtain ⟨it, h1, h2, h3⟩ := hh.itr hI
  have hv : a.eval (.tmp x) = .pointer (some ⟨it, 0, none⟩) := by
    have := hf.slot x
    rw [hx] at this
    obtain ⟨_, L, hL, hv, _⟩ := (show RdA _ s _ (.ref ib) from this)
    rw [h1] at hL; cases hL
    exact hv
  obtain ⟨hr, L, hL, hLr⟩ := hh.has hB hH
  have n1 := run_entry_at (P := P) s.w it r c sn es c e h2 hr he hst.2.1
  have n2 := ev_entry_at (P := P) s.w it r c sn es c e h2 hr he hst.2.1
  refine ⟨(), .value (.tuple #[e.key, e.val]), s, _, ?_, .inl rfl, hy s, hh, .refl _ _, ?_⟩
  · simp only [execOp, ho, hv, Sem.run_bind, n1, Result.andThen_ok, Sem.run_pure]
  · exact ev_pureV' (EvOK.of_eq n2 (.two (evOK_obj (List.mem_of_getElem? h1) ((h3 _ h1 it).2 rfl)) (evOK_obj hL hLr))) (by simp only [execOp, ho, hv])

end
end Go.AM

/- Loops over functions: a round, the call of yield, the loop itself. -/
namespace Go.AM
open Go.Conc (G)

section
variable {P : Program} {X : Cx P}

/-! ### Rounds -/

/-- What is asked of a call of yield: with these it comes to that. -/
def Yields {ι : Type} (X : Cx P) (lb : Nat) (ds : List D) (σ : List Box) (res : Bool) (σ' : ι → List Box) : Prop :=
  ∀ s (vs : List Value) (l : Nat), RdDs σ s vs ds → HeapOK σ s → (∃ L, s.β[lb]? = some L ∧ L.v = .func (.yield l) #[] #[]) →
    ∃ fn tmps assign body, (Instr.yield l vs.toArray).run P s.w = .ok (.round l fn tmps assign body) s.w ∧ (Instr.yield l vs.toArray).events P s.w #[] = #[⟨.obj l, false, false⟩] ∧
    ∀ (S : Goroutine → St → Prop) (c : Frame) (cs : List Frame), (∀ i s', HeapOK (σ' i) s' → StepW σ s (σ' i) s' → Arr X S (G (c.finish (.bool res)) cs) s') →
      Arr X S (G (Frame.round l fn tmps assign body .normal) (c :: cs)) s

theorem run_getLoop {w : World} {l : Nat} {r : Loop} (h : w.heap[l]? = some (.loop r)) : (Instr.getLoop l).run P w = .ok r w ∧ ∀ es, (Instr.getLoop l).events P w es = es.push ⟨.obj l, false, false⟩ := by
  have h1 : (getObj l).run P w = .ok (.loop r) w := by simp only [getObj, Sem.run, h]
  have h3 : ∀ es, (getObj l).events P w es = es.push ⟨.obj l, false, false⟩ := fun es => by simp only [getObj, Sem.events, Sem.runT, h]; rfl
  constructor
  · simp [Instr.getLoop, h1]
  · intro es; simp [Instr.getLoop, h1, h3]

theorem run_setLoop {w : World} {l : Nat} {r r' : Loop} (h : w.heap[l]? = some (.loop r)) : (setObj l (.loop r')).run P w = .ok () { w with heap := w.heap.setIfInBounds l (.loop r') } ∧ ∀ es, (setObj l (.loop r')).events P w es = es.push ⟨.obj l, true, false⟩ := by
  constructor
  · simp only [setObj, Sem.run, h]
  · intro es; simp only [setObj, Sem.events, Sem.runT, h]; rfl

theorem run_yield {w : World} {l : Nat} {r : Loop} {args : Array Value} (h : w.heap[l]? = some (.loop r)) (hs : args.size = r.params.size) :
    (Instr.yield l args).run P w = .ok (.round l r.fn ((r.params.zip args).foldl (fun tmps (t, a) => tmps.setIfInBounds t a) r.tmps) r.assign r.body) w ∧ (Instr.yield l args).events P w #[] = #[⟨.obj l, false, false⟩] := by
  obtain ⟨h1, h2⟩ := run_getLoop (P := P) h
  constructor
  · simp [Instr.yield, h1, hs]
  · simp [Instr.yield, h1, h2, hs]

theorem run_begin {w : World} {l : Nat} {r : Loop} (h : w.heap[l]? = some (.loop r)) (hr : r.state = .ready) :
    (Instr.beginRound l).run P w = .ok () { w with heap := w.heap.setIfInBounds l (.loop { r with state := .busy }) } ∧ (Instr.beginRound l).events P w #[] = #[⟨.obj l, false, false⟩, ⟨.obj l, true, false⟩] := by
  obtain ⟨h1, h2⟩ := run_getLoop (P := P) h
  obtain ⟨h3, h4⟩ := run_setLoop (P := P) (r' := { r with state := .busy }) h
  constructor
  · simp [Instr.beginRound, h1, h3, hr]
  · simp [Instr.beginRound, h1, h2, h3, h4, hr]

theorem run_endRound {w : World} {l : Nat} {r : Loop} (h : w.heap[l]? = some (.loop r)) (j : Option Code) :
    (Instr.endRound l j).run P w = .ok (.bool j.isNone) { w with heap := w.heap.setIfInBounds l (.loop { r with state := if j.isNone then .ready else .done, pending := j }) } ∧ (Instr.endRound l j).events P w #[] = #[⟨.obj l, false, false⟩, ⟨.obj l, true, false⟩] := by
  obtain ⟨h1, h2⟩ := run_getLoop (P := P) h
  obtain ⟨h3, h4⟩ := run_setLoop (P := P) (r' := { r with state := if j.isNone then .ready else .done, pending := j }) h
  constructor
  · simp only [Instr.endRound, Sem.run_bind, h1, h3, Result.andThen_ok, Sem.run_pure]
  · simp only [Instr.endRound, Sem.events_bind, h1, h2, h3, h4, Result.evThen_ok, Sem.events_pure]; rfl

theorem run_endLoop {w : World} {l : Nat} {r : Loop} (h : w.heap[l]? = some (.loop r)) (hr : r.state ≠ .busy) :
    (Instr.endLoop l).run P w = .ok r.pending { w with heap := w.heap.setIfInBounds l (.loop { r with state := .exhausted }) } ∧ (Instr.endLoop l).events P w #[] = #[⟨.obj l, false, false⟩, ⟨.obj l, true, false⟩] := by
  obtain ⟨h1, h2⟩ := run_getLoop (P := P) h
  obtain ⟨h3, h4⟩ := run_setLoop (P := P) (r' := { r with state := .exhausted }) h
  have hb : (r.state == .busy) = false := by cases hs : r.state <;> simp_all
  constructor
  · simp [Instr.endLoop, h1, h3, hr]
  · simp [Instr.endLoop, h1, h2, h4, hr]


section steps
variable {b : Frame} {a : Act} {k : List Item} {cs : List Frame} {w : World} {main : Bool}

theorem run_yieldOp {o : Oper} {fo : Operand} {xs : Array Operand} {ats : Array TypeId} {l : Nat} (ho : o.op = .call { callee := .value fo, args := xs, argTypes := ats }) (hv : a.eval fo = .func (.yield l) #[] #[]) :
    (execOp a.eval o).run P w = (Instr.yield l (xs.toList.map a.eval).toArray).run P w ∧ (execOp a.eval o).events P w #[] = (Instr.yield l (xs.toList.map a.eval).toArray).events P w #[] := by
  have hx : xs.map a.eval = (xs.toList.map a.eval).toArray := by apply Array.ext'; simp
  constructor
  · simp [execOp, ho, resolve, hv, Deferred.ofValue, invoke, hx]
  · simp [execOp, ho, resolve, hv, Deferred.ofValue, invoke, hx]

theorem sg_round {ops : Array Oper} {i : Nat} {rest : List Nat} {o : Oper} {l : Nat} {fn : FuncId} {tmps : Array Value} {assign body : Code} {w' : World} (ho : ops[i]? = some o) (hw : Region.wanted o (yielded ops a.tmps) = true)
    (hk : b.kind ≠ .early) (hr : (execOp a.eval o).run P w = .ok (.round l fn tmps assign body) w') :
    stepG P main (G (b.aT a (.inRegion ops (i :: rest) :: k)) cs) w = .go (G (Frame.round l fn tmps assign body .normal) (b.aT a (.inRegion ops (i :: rest) :: k) :: cs)) w' (Go.Conc.listed P b.fn a o w) := by
  have hk' : (b.kind == CallKind.early) = false := by simpa using hk
  rw [sg_oper ho hw (fun c hc => by obtain ⟨d, hd⟩ := defer_no hc hr; cases hd)]
  simp [stepG.apply, hr, G, Frame.aT, hk', GStep.after, Go.Conc.listed]

theorem sg_begin {l : Nat} {r : Loop} (hb : b.roundOf = some l) (hk : b.kind ≠ .early) (h : w.heap[l]? = some (.loop r)) (hr : r.state = .ready) :
    stepG P main (G (b.aT a (.beginRound :: k)) cs) w = .go (G (b.aT a k) cs) { w with heap := w.heap.setIfInBounds l (.loop { r with state := .busy }) } (seen P b.fn #[⟨.obj l, false, false⟩, ⟨.obj l, true, false⟩]) := by
  obtain ⟨h1, h2⟩ := run_begin (P := P) h hr
  have hk' : (b.kind == CallKind.early) = false := by simpa using hk
  simp [G, stepG, stepG.exec, stepG.apply, Frame.aT, hb, hk', h1, h2, GStep.after, Frame.finish]

theorem sg_roundEnd {l : Nat} {r : Loop} {j : Option Code} {k0 : List Item} {c : Frame} (hb : b.roundOf = some l) (hk : b.kind = .normal) (h : w.heap[l]? = some (.loop r))
    (hj : (j = none ∧ k0 = []) ∨ (j = some .ret ∧ ∃ k1, k0 = .code .ret :: k1) ∨ (∃ id k1, j = some (.exit id) ∧ k0 = .code (.exit id) :: k1 ∧ exitTo id k1 = none)) :
    stepG P main (G (b.aT a k0) (c :: cs)) w = .go (G (c.finish (.bool j.isNone)) cs) { w with heap := w.heap.setIfInBounds l (.loop { r with state := if j.isNone then .ready else .done, pending := j }) } (seen P b.fn #[⟨.obj l, false, false⟩, ⟨.obj l, true, false⟩]) := by
  obtain ⟨h1, h2⟩ := run_endRound (P := P) h j
  rcases hj with ⟨rfl, rfl⟩ | ⟨rfl, k1, rfl⟩ | ⟨id, k1, rfl, rfl, he⟩
  · simp only [Option.isNone_none, if_true] at h1
    simp [G, stepG, stepG.exec, Frame.aT, hb, h1, h2, GStep.after, doReturn, hk]
  · simp only [Option.isNone_some, if_false, Bool.false_eq_true] at h1
    simp [G, stepG, stepG.exec, Frame.aT, hb, h1, h2, GStep.after, doReturn, hk]
  · simp only [Option.isNone_some, if_false, Bool.false_eq_true] at h1
    simp [G, stepG, stepG.exec, Frame.aT, hb, h1, h2, GStep.after, doReturn, hk, he]

theorem sg_endLoop {l : Nat} {r : Loop} (h : w.heap[l]? = some (.loop r)) (hr : r.state ≠ .busy) :
    stepG P main (G (b.aT a (.endRangeFunc l :: k)) cs) w = .go (G (b.aT a ((r.pending.map Item.code).toList ++ k)) cs) { w with heap := w.heap.setIfInBounds l (.loop { r with state := .exhausted }) } (seen P b.fn #[⟨.obj l, false, false⟩, ⟨.obj l, true, false⟩]) := by
  obtain ⟨h1, h2⟩ := run_endLoop (P := P) h hr
  simp [G, stepG, stepG.exec, Frame.aT, h1, h2, GStep.after]

theorem run_enterLoop {fn : FuncId} {tmps : Array Value} {params : Array Tmp} {assign body : Code} :
    (Instr.enterLoop fn tmps params assign body none).run P w = .ok (w.heap.size + 1, [{ target := .collected w.heap.size, args := #[] }]) { w with heap := (w.heap.push (.deferred (some []))).push (.loop { state := .ready, pending := none, fn, tmps, params, assign, body, defers := w.heap.size }) } ∧
    (Instr.enterLoop fn tmps params assign body none).events P w #[] = #[] := by
  have h1 : ∀ (o : Obj) (w : World), (newObj o).run P w = .ok w.heap.size { w with heap := w.heap.push o } := fun o w => by simp only [newObj, Sem.run]
  have h2 : ∀ (o : Obj) (w : World) es, (newObj o).events P w es = es := fun o w es => by simp only [newObj, Sem.events, Sem.runT]
  constructor
  · simp [Instr.enterLoop, h1]
    rfl
  · simp [Instr.enterLoop, h1, h2]

theorem sg_rangeFunc {f : Operand} {ps : Array Tmp} {assign body : Code} {F : FuncId} {fn : Func} {caps : List Value} (hb : b.roundOf = none) (hk : b.kind ≠ .early) (hfn : P.funcs[F]? = some fn) (hnum : (fn.name == "runtime.NumGoroutine") = false) (hbody : fn.body.isNone = false)
    (hv : a.eval f = .func (.func F) #[] caps.toArray) :
    stepG P main (G (b.aT a (.code (.rangeFunc f ps assign body) :: k)) cs) w =
      .go (G (Frame.enter P F (Value.func (.yield (w.heap.size + 1)) #[] #[] :: caps).toArray .normal) (b.aT { a with defers := { target := .collected w.heap.size, args := #[] } :: a.defers } (.inRangeFunc (w.heap.size + 1) :: k) :: cs))
        { w with heap := (w.heap.push (.deferred (some []))).push (.loop { state := .ready, pending := none, fn := b.fn, tmps := a.tmps, params := ps, assign, body, defers := w.heap.size }) } #[] := by
  obtain ⟨h1, h2⟩ := run_enterLoop (P := P) (w := w) (fn := b.fn) (tmps := a.tmps) (params := ps) (assign := assign) (body := body)
  have hk' : (b.kind == CallKind.early) = false := by simpa using hk
  have hnum' : fn.name ≠ "runtime.NumGoroutine" := by simpa using hnum
  have hbody' : fn.body ≠ none := by intro e; rw [e] at hbody; cases hbody
  have he : ∀ (d : List Deferred) (t : List Item) (m : FrameMode), ({ fn := b.fn, tmps := a.tmps, todo := t, defers := d, mode := m, kind := b.kind, roundOf := b.roundOf } : Frame).eval f = .func (.func F) #[] caps.toArray := by
    intro d t m
    rw [← hv]
    cases f <;> rfl
  simp only [G, stepG, stepG.exec, Frame.aT, hb] at he ⊢
  simp [h1, h2, GStep.after, stepG.apply, resolve, he, Deferred.ofValue, invoke, callFunc, hfn, hnum', hbody', hk', seen]
  rfl

end steps

end
end Go.AM

/- Loops over functions: the rules. -/
namespace Go.AM
open Go.Conc (G)

section
variable {P : Program} {X : Cx P}

theorem HeapOK.loopAt {σ : List Box} {s : St} (hh : HeapOK σ s) {lb N : Nat} {φ0 : Fr} {r : Loop} (hB : σ[lb]? = some (.loop N φ0 r)) {l : Nat} (hl : ∃ L, s.β[lb]? = some L ∧ L.v = .func (.yield l) #[] #[]) :
    ∃ tmps fn df, s.β[lb]? = some ⟨.func (.yield l) #[] #[], [l]⟩ ∧ s.w.heap[l]? = some (.loop { r with tmps := tmps, fn := fn, defers := df }) ∧ tmps.size = N ∧ (∀ t, RdD σ s (tmps.getD t undef) (look φ0 t)) ∧ (∀ o, s.M l o = none) := by
  obtain ⟨L, h1, h2⟩ := hl
  obtain ⟨l', tmps, fn, df, h3, h4, h5, h6, h7⟩ := hh.box lb _ L hB h1
  subst h3
  simp at h2
  subst h2
  exact ⟨tmps, fn, df, h1, h4, h5, h6, h7⟩

/-- The loop's record is turned. -/
theorem HeapOK.setLoop {σ : List Box} {s : St} (hh : HeapOK σ s) {lb N : Nat} {φ0 : Fr} {r r' : Loop} {B' : Box} (hB : σ[lb]? = some (.loop N φ0 r)) {l : Nat} {tmps : Array Value} {fn df : Nat} (hL : s.β[lb]? = some ⟨.func (.yield l) #[] #[], [l]⟩)
    (ho : s.w.heap[l]? = some (.loop { r with tmps := tmps, fn := fn, defers := df })) (hN : tmps.size = N) (hφ : ∀ t, RdD σ s (tmps.getD t undef) (look φ0 t)) (hM : ∀ o, s.M l o = none) (hB' : B' = .dead ∨ B' = .loop N φ0 r') :
    HeapOK (σ.set lb B') { s with w := { s.w with heap := s.w.heap.setIfInBounds l (.loop { r' with tmps := tmps, fn := fn, defers := df }) } } ∧ Step σ s (σ.set lb B') { s with w := { s.w with heap := s.w.heap.setIfInBounds l (.loop { r' with tmps := tmps, fn := fn, defers := df }) } } := by
  have hlt : l < s.w.heap.size := hh.lt _ (List.mem_of_getElem? hL) l (by simp)
  have hk : ∀ b, b ≠ l → (s.w.heap.setIfInBounds l (.loop { r' with tmps := tmps, fn := fn, defers := df }))[b]? = s.w.heap[b]? := fun b hb => by rw [Array.getElem?_setIfInBounds_ne (fun e => hb e.symm)]
  have eβ : s.β.set lb ⟨.func (.yield l) #[] #[], [l]⟩ = s.β := by
    apply List.ext_getElem?
    intro i
    by_cases e : lb = i
    · subst e; rw [List.getElem?_set_self (List.getElem?_eq_some_iff.1 hL).1, hL]
    · rw [List.getElem?_set_ne e]
  have hlσ : lb < σ.length := (List.getElem?_eq_some_iff.1 hB).1
  have hle : BoxLe (.loop N φ0 r) ⟨.func (.yield l) #[] #[], [l]⟩ B' ⟨.func (.yield l) #[] #[], [l]⟩ := by rcases hB' with rfl | rfl <;> rfl
  have ex : Ext σ s (σ.set lb B') { s with w := { s.w with heap := s.w.heap.setIfInBounds l (.loop { r' with tmps := tmps, fn := fn, defers := df }) } } := by
    refine ⟨fun _ _ _ h => h, fun i B L hB1 hL1 => ?_⟩
    by_cases e : lb = i
    · subst e
      rw [hB] at hB1; cases hB1
      rw [hL] at hL1; cases hL1
      exact ⟨B', _, by rw [List.getElem?_set_self hlσ], hL, hle⟩
    · exact ⟨B, L, by rw [List.getElem?_set_ne e]; exact hB1, hL1, .refl _ _⟩
  have := hh.setBox (M' := s.M) (w' := { s.w with heap := s.w.heap.setIfInBounds l (.loop { r' with tmps := tmps, fn := fn, defers := df }) }) (B' := B') (L' := ⟨.func (.yield l) #[] #[], [l]⟩) hB hL hle (by simp) (fun b _ hb => hk b (by simpa using hb)) (fun _ _ _ _ => rfl) (fun _ _ _ h => h)
    (fun b o v hm => by
      have hne : b ≠ l := by rintro rfl; rw [hM] at hm; cases hm
      rw [← hh.mem b o v hm]
      simp only [World.cell?]
      rw [hk b hne]) (fun b hb => by simp at hb; subst hb; exact ⟨.inl (by simp), by simpa using hlt⟩) rfl rfl rfl (by
      rcases hB' with rfl | rfl
      · trivial
      · refine ⟨l, tmps, fn, df, rfl, ?_, hN, fun t => ?_, hM⟩
        · show (s.w.heap.setIfInBounds l _)[l]? = _
          rw [Array.getElem?_setIfInBounds_self_of_lt hlt]
        · have := (hφ t).mono ex hh.len
          rw [eβ]
          exact this)
  rw [eβ] at this
  exact this

/-! ### The call of yield -/

theorem AK.yield {ι : Type} {N : Nat} {Qf : Post} {K : List It} {φ : Fr} {σ : List Box} {σ' : ι → List Box} {all rest : List Oper} {o : Oper} {fo : Operand} {xs : Array Operand} {ats : Array TypeId} {lb : Nat} {ds : List D} {res : Bool} (hy : Yields X lb ds σ res σ')
    (hg : o.guard = none) (hN : dstOk N o.dst = true) (ho : o.op = .call { callee := .value fo, args := xs, argTypes := ats }) {N0 : Nat} {φ0 : Fr} {r : Loop} (hlb : σ[lb]? = some (.loop N0 φ0 r)) (hf : absO φ fo = .e (.one (.ref lb))) (hargs : xs.toList.map (absO φ) = ds)
    (k : ∀ j, AK X N Qf (.ops all rest :: K) .normal (putD o.dst (.e (.one (.c (.bool res)))) φ) (σ' j)) : AK X N Qf (.ops all (o :: rest) :: K) .normal φ σ := by
  intro s a f hh b kk cs S idx hb hidx hQ
  cases idx with
  | nil => exact hidx.elim
  | cons j idx =>
  refine .next rfl fun s1 hr1 => ?_
  have hr := X.relyC hr1
  have hh1 := hh.rely hr
  have f1 := f.rely hr hh
  have hv := absO_ok f1 fo
  rw [hf] at hv
  obtain ⟨_, L, hL, hLv, _⟩ := (show RdA _ s1 _ (.ref lb) from hv)
  obtain ⟨l, tmps, fn, df, h3, h4, h5, h6, h7⟩ := hh1.box lb _ L hlb hL
  subst h3
  have hds : RdDs σ s1 (xs.toList.map a.eval) ds := by rw [← hargs]; exact RdDs_of (absO_ok f1) xs.toList
  obtain ⟨fn2, tmps2, assign, body, y1, y2, y3⟩ := hy s1 (xs.toList.map a.eval) l hds hh1 ⟨_, hL, rfl⟩
  obtain ⟨r1, r2⟩ := run_yieldOp (P := P) (w := s1.w) (a := a) ho hLv
  refine ⟨_, s1, _, sg_round hidx.1 (wanted_none hg) hb (r1.trans y1), ⟨⟨σ, σ, hh1, hh1, .refl _ _⟩, EvOK.seen ?_⟩, y3 S _ _ fun jj s' hh' st => ?_⟩
  · rw [r2, y2]
    exact .one (evOK_obj (L := ⟨.func (.yield l) #[] #[], [l]⟩) (List.mem_of_getElem? hL) (by simp))
  have hfin := finish_aT (b := b) (a := a) (k := kk) all.toArray j idx (.bool res)
  rw [hidx.1] at hfin
  simp only [Option.bind_some] at hfin
  rw [hfin]
  refine k jj s' _ ?_ hh' b kk cs S idx hb hidx.2 fun φ2 σ2 s2 a2 q f2 h2 st2 => hQ φ2 σ2 s2 a2 q f2 h2 ((hr.stepW.trans st).trans st2)
  cases hd : o.dst with
  | none => exact f1.mono st hh1.len
  | some t => exact (f1.mono st hh1.len).put (dstOk_lt hN t hd) (show RdD (σ' jj) s' (.bool res) (.e (.one (.c (.bool res)))) from Rd.bool)

/-! ### A round -/

def bindPs : List Tmp → List D → Fr → Fr
  | t :: ts, d :: ds, φ => bindPs ts ds ((t, d) :: φ)
  | _, _, φ => φ

def psOk (N : Nat) : List Tmp → Bool
  | [] => true
  | t :: ts => match Nat.ble (t + 1) N with | true => psOk N ts | false => false

theorem bind_ok {N : Nat} {σ : List Box} {s : St} : ∀ {ps : List Tmp} {ds : List D} {vs : List Value} {φ : Fr} {a : Act}, FrOK N σ s φ a → RdDs σ s vs ds → psOk N ps = true → FrOK N σ s (bindPs ps ds φ) { a with tmps := (ps.zip vs).foldl (fun tmps (t, v) => tmps.setIfInBounds t v) a.tmps }
  | [], ds, vs, φ, a, h, _, _ => by simpa [bindPs] using h
  | _ :: _, [], [], φ, a, h, _, _ => by simpa [bindPs] using h
  | _ :: _, [], _ :: _, φ, a, h, hr, _ => hr.elim
  | _ :: _, _ :: _, [], φ, a, h, hr, _ => hr.elim
  | t :: ts, d :: ds, v :: vs, φ, a, h, hr, hp => by
    simp only [psOk] at hp
    split at hp
    · rename_i ht
      have := bind_ok (h.put (d := t) (Nat.le_of_ble_eq_true ht) hr.1) hr.2 hp
      simpa [bindPs, Act.put] using this
    · cases hp

/-- How a round is left. -/
def jumpOf : Exit → Option (Option Code)
  | .normal => some none
  | .ret => some (some .ret)
  | .exit id => some (some (.exit id))
  | _ => none

theorem Yields.intro {ι : Type} {lb N : Nat} {φ0 : Fr} {r : Loop} {ds : List D} {σ : List Box} {σ' : ι → List Box} {j : Option Code} (hlb : σ[lb]? = some (.loop N φ0 r)) (hst : r.state = .ready) (hlen : ds.length = r.params.size) (hps : psOk N r.params.toList = true)
    (h : AW X N r.assign (fun e φ1 σ1 => e = .normal ∧ σ1[lb]? = some (.loop N φ0 r) ∧ AW X N r.body (fun e φ2 σ2 => jumpOf e = some j ∧ σ2[lb]? = some (.loop N φ0 { r with state := .busy }) ∧
      ∃ i, BsLe (σ2.set lb (.loop N φ0 { r with state := if j.isNone then .ready else .done, pending := j })) (σ' i)) φ1 (σ1.set lb (.loop N φ0 { r with state := .busy }))) (bindPs r.params.toList ds φ0) σ) : Yields X lb ds σ j.isNone σ' := by
  intro s vs l hvs hh hl
  obtain ⟨tmps, fn, df, h1, h2, h3, h4, h5⟩ := hh.loopAt hlb hl
  have hvl : vs.length = r.params.size := by rw [← hlen]; exact (RdDs.get hvs).1
  obtain ⟨y1, y2⟩ := run_yield (P := P) (args := vs.toArray) h2 (by simpa using hvl)
  refine ⟨_, _, _, _, y1, y2, fun S c cs hS => ?_⟩
  let b : Frame := { fn := fn, tmps := #[], todo := [], defers := [], mode := .run, kind := .normal, roundOf := some l }
  have hb : b.kind ≠ .early := by simp [b]
  have hf : FrOK N σ s (bindPs r.params.toList ds φ0) { tmps := (r.params.zip vs.toArray).foldl (fun tmps (t, a) => tmps.setIfInBounds t a) tmps, defers := [] } := by
    have := bind_ok (a := { tmps := tmps, defers := [] }) (φ := φ0) ⟨h3, ⟨[], trivial⟩, h4⟩ hvs hps
    have e : (r.params.zip vs.toArray).foldl (fun tmps (x : Tmp × Value) => tmps.setIfInBounds x.1 x.2) tmps = (r.params.toList.zip vs).foldl (fun tmps (x : Tmp × Value) => tmps.setIfInBounds x.1 x.2) tmps := by
      rw [← Array.foldl_toList]; simp
    show FrOK N σ s _ { tmps := (r.params.zip vs.toArray).foldl (fun tmps (x : Tmp × Value) => tmps.setIfInBounds x.1 x.2) tmps, defers := [] }
    rw [e]
    exact this
  show Arr X S (G (b.aT { tmps := (r.params.zip vs.toArray).foldl (fun tmps (t, a) => tmps.setIfInBounds t a) tmps, defers := [] } [.code r.assign, .beginRound, .code r.body]) (c :: cs)) s
  refine h s _ hf hh b [.beginRound, .code r.body] (c :: cs) S hb ?_
  rintro e φ1 σ1 s1 a1 ⟨rfl, hl1, q⟩ f1 hh1 st1
  refine .next rfl fun s2 hr2 => ?_
  have hr := X.relyC hr2
  have hh2 := hh1.rely hr
  have f2 := f1.rely hr hh1
  have hlL : ∃ L, s2.β[lb]? = some L ∧ L.v = .func (.yield l) #[] #[] := by
    obtain ⟨B', L', k1, k2, k3⟩ := (st1.trans hr.stepW).box lb _ _ hlb h1
    rw [hl1] at k1; cases k1
    exact ⟨L', k2, k3⟩
  obtain ⟨tmps2, fn2, df2, g1, g2, g3, g4, g5⟩ := hh2.loopAt hl1 hlL
  have g6 := hh2.setLoop (r' := { r with state := .busy }) hl1 g1 g2 g3 g4 g5 (.inr rfl)
  have hev : ∀ {s : St} {σ : List Box} {L : Loc}, s.β[lb]? = some L → L.bs = [l] → EvOK s #[⟨.obj l, false, false⟩, ⟨.obj l, true, false⟩] := fun {s σ L} hL hb =>
    .two (evOK_obj (List.mem_of_getElem? hL) (by simp [hb])) (evOK_obj (List.mem_of_getElem? hL) (by simp [hb]))
  refine ⟨_, _, _, sg_begin (l := l) rfl hb g2 hst, ⟨⟨_, _, hh2, g6.1, g6.2⟩, EvOK.seen (hev (σ := σ1) g1 rfl)⟩, ?_⟩
  have st2 := g6.2.toW hh2
  have hh3 := g6.1
  refine q _ a1 (f2.mono st2 hh2.len) hh3 b [] (c :: cs) S hb ?_
  rintro e φ3 σ3 s3 a3 ⟨hj, hl3, ii, hσ'⟩ f3 hh3' st3
  have stA := ((st1.trans hr.stepW).trans st2).trans st3
  -- the end, whatever way
  have fin : ∀ k0 s4, RelyC s3 s4 → ((j = none ∧ k0 = []) ∨ (j = some .ret ∧ ∃ k1, k0 = .code .ret :: k1) ∨ (∃ id k1, j = some (.exit id) ∧ k0 = .code (.exit id) :: k1 ∧ exitTo id k1 = none)) →
      ∃ g' s' es, stepG P X.main (G (b.aT a3 k0) (c :: cs)) s4.w = .go g' s'.w es ∧ Guar s4 s' es ∧ Arr X S g' s' := by
    intro k0 s4 hr4 hk0
    have hh4 := hh3'.rely hr4
    have hlL4 : ∃ L, s4.β[lb]? = some L ∧ L.v = .func (.yield l) #[] #[] := by
      obtain ⟨B', L', k1, k2, k3⟩ := (stA.trans hr4.stepW).box lb _ _ hlb h1
      rw [hl3] at k1; cases k1
      exact ⟨L', k2, k3⟩
    obtain ⟨tmps5, fn5, df5, p1, p2, p3, p4, p5⟩ := hh4.loopAt hl3 hlL4
    have p6 := hh4.setLoop (r' := { r with state := if j.isNone then .ready else .done, pending := j }) hl3 p1 p2 p3 p4 p5 (.inr rfl)
    obtain ⟨p7, p8, _⟩ := hσ' _ p6.1
    exact ⟨_, _, _, sg_roundEnd (l := l) rfl rfl p2 hk0, ⟨⟨_, _, hh4, p6.1, p6.2⟩, EvOK.seen (hev (σ := σ3) p1 rfl)⟩, hS ii _ p7 (((stA.trans hr4.stepW).trans (p6.2.toW hh4)).trans (p8.toW p6.1))⟩
  cases e with
  | normal =>
    cases hj
    exact .next rfl fun s4 hr4 => fin [] s4 (X.relyC hr4) (.inl ⟨rfl, rfl⟩)
  | ret =>
    cases hj
    intro pre
    exact .next rfl fun s4 hr4 => fin _ s4 (X.relyC hr4) (.inr (.inl ⟨rfl, pre, rfl⟩))
  | exit id =>
    cases hj
    intro pre hp
    refine .next rfl fun s4 hr4 => fin _ s4 (X.relyC hr4) (.inr (.inr ⟨id, _, rfl, rfl, ?_⟩))
    have := hp []
    simpa [exitTo] using this
  | _ => cases hj

end
end Go.AM

/- Loops over functions: the loop itself; functions that have one; iterators. -/
namespace Go.AM
open Go.Conc (G)

/-- As AW, of code that is no round's. -/
def AWt {P : Program} (X : Cx P) (N : Nat) (c : Code) (Q : Post) (φ : Fr) (σ : List Box) : Prop :=
  ∀ s a, FrOK N σ s φ a → HeapOK σ s → ∀ (b : Frame) (k : List Item) (cs : List Frame) (S : Goroutine → St → Prop), b.kind ≠ .early → b.roundOf = none →
    (∀ e φ' σ' s' a', Q e φ' σ' → FrOK N σ' s' φ' a' → HeapOK σ' s' → StepW σ s σ' s' → ends X S b k cs e a' s') → Arr X S (G (b.aT a (.code c :: k)) cs) s

section
variable {P : Program} {X : Cx P} {N : Nat} {Q : Post} {φ : Fr} {σ : List Box}

theorem AW.top {c : Code} (h : AW X N c Q φ σ) : AWt X N c Q φ σ := fun s a f hh b k cs S hb _ hQ => h s a f hh b k cs S hb hQ

theorem AWt.mono {c : Code} {Q' : Post} (h : AWt X N c Q φ σ) (hq : ∀ e φ σ, Q e φ σ → Q' e φ σ) : AWt X N c Q' φ σ :=
  fun s a hf hh b k cs S hb hr hQ => h s a hf hh b k cs S hb hr fun e φ' σ' s' a' q f' h' st => hQ e φ' σ' s' a' (hq _ _ _ q) f' h' st

theorem AWt.seq {x y : Code} (h : AWt X N x (thenQ (AWt X N y Q) Q) φ σ) : AWt X N (.seq x y) Q φ σ := by
  intro s a hf hh b k cs S hb hro hQ
  refine .ctl hh rfl (fun _ => sg_seq) fun s1 h1 => ?_
  refine h s1 a (hf.rely h1 hh) (hh.rely h1) b (.code y :: k) cs S hb hro ?_
  intro e φ' σ' s' a' q f' h' st
  have st' := h1.stepW.trans st
  cases e with
  | normal => exact q s' a' f' h' b k cs S hb hro fun e φ2 σ2 s2 a2 q2 f2 h2 st2 => hQ e φ2 σ2 s2 a2 q2 f2 h2 (st'.trans st2)
  | _ => exact ends.cons (fun _ _ => rfl) (by simp) (hQ _ _ _ _ _ q f' h' st')

theorem AWt.block {id : Nat} {c : Code} (h : AWt X N c (blockQ id Q) φ σ) : AWt X N (.block id c) Q φ σ := by
  intro s a hf hh b k cs S hb hro hQ
  refine .ctl hh rfl (fun _ => sg_block) fun s1 h1 => ?_
  refine h s1 a (hf.rely h1 hh) (hh.rely h1) b (.inBlock id :: k) cs S hb hro ?_
  intro e φ' σ' s' a' q f' h' st
  have st' := h1.stepW.trans st
  cases e with
  | normal =>
    exact .ctl h' rfl (fun _ => sg_inBlock) fun s2 h2 => hQ .normal φ' σ' s2 a' q (f'.rely h2 h') (h'.rely h2) (st'.trans h2.stepW)
  | exit id' =>
    simp only [blockQ] at q
    split at q
    · rename_i e
      subst e
      intro pre hp
      refine .ctl h' rfl (fun _ => sg_exit (k' := k) (by rw [hp]; simp [exitTo])) fun s2 h2 => ?_
      exact hQ .normal φ' σ' s2 a' q (f'.rely h2 h') (h'.rely h2) (st'.trans h2.stepW)
    · rename_i hne
      intro pre hp
      have := hQ (.exit id') φ' σ' s' a' q f' h' st' (pre ++ [.inBlock id]) (fun k' => by
        rw [List.append_assoc, hp]
        have : (id == id') = false := by simp; exact fun h => hne h.symm
        simp [exitTo, this])
      simpa using this
  | ret => exact hQ _ _ _ _ _ q f' h' st'
  | panic ch => exact hQ _ _ _ _ _ q f' h' st'
  | goto l => exact hQ _ _ _ _ _ q f' h' st'
  | outgrown => exact hQ _ _ _ _ _ q f' h' st'

theorem HeapOK.setOwn {s : St} (h : HeapOK σ s) {o : Nat → Prop} (ho : ∀ b, o b → b < s.w.heap.size ∧ ∀ L ∈ s.β, b ∉ L.bs) : HeapOK σ { s with own := o } :=
  ⟨h.mem, h.len, fun l B L hB hL => BoxOK.carry (σ := σ) (s := s) (σ' := σ) (s' := { s with own := o }) ⟨fun _ _ _ h => h, fun _ B L h h' => ⟨B, L, h, h', .refl _ _⟩⟩ h.len (fun _ _ => ⟨rfl, fun _ => rfl⟩) (h.box l B L hB hL), h.disj, h.lt, ho⟩

/-- A block that was kept is a box again. -/
theorem HeapOK.adopt {s : St} (h : HeapOK σ s) {r : Nat} {o : Nat → Prop} (hr : s.own r) (ho : ∀ b, o b → s.own b) (hor : ¬ o r) (hM : ∀ i, s.M r i = none) (hd : s.w.heap[r]? = some (.deferred (some []))) :
    HeapOK (σ ++ [.dfr]) { s with β := s.β ++ [⟨.int .i64 r, [r]⟩], own := o } ∧ Ghost s { s with β := s.β ++ [⟨.int .i64 r, [r]⟩], own := o } := by
  obtain ⟨o1, o2⟩ := h.own r hr
  have ex : Ext σ s (σ ++ [.dfr]) { s with β := s.β ++ [⟨.int .i64 r, [r]⟩], own := o } := by
    refine ⟨fun _ _ _ h => h, fun l B L hB hL => ⟨B, L, ?_, ?_, .refl _ _⟩⟩
    · rw [List.getElem?_append_left (List.getElem?_eq_some_iff.1 hB).1, hB]
    · show (s.β ++ _)[l]? = _
      rw [List.getElem?_append_left (List.getElem?_eq_some_iff.1 hL).1, hL]
  refine ⟨⟨h.mem, by simp [h.len], ?_, ?_, ?_, ?_⟩, ⟨rfl, fun _ _ _ h => h, fun _ _ _ => rfl, h.mem, ?_⟩⟩
  · intro l B L hB hL
    rcases getElem?_snoc hL with hL1 | ⟨hl, rfl⟩
    · have hl : l < σ.length := by rw [← h.len]; exact (List.getElem?_eq_some_iff.1 hL1).1
      rw [List.getElem?_append_left hl] at hB
      exact (h.box l B L hB hL1).carry ex h.len fun _ _ => ⟨rfl, fun _ => rfl⟩
    · rw [hl, h.len, List.getElem?_append_right (Nat.le_refl _)] at hB
      simp at hB
      subst hB
      exact ⟨r, rfl, hd, hM⟩
  · intro l l' L L' hL hL' b hb hb'
    rcases getElem?_snoc hL with k1 | ⟨e1, rfl⟩ <;> rcases getElem?_snoc hL' with k2 | ⟨e2, rfl⟩
    · exact h.disj l l' L L' k1 k2 b hb hb'
    · simp at hb'; subst hb'; exact absurd hb (o2 L (List.mem_of_getElem? k1))
    · simp at hb; subst hb; exact absurd hb' (o2 L' (List.mem_of_getElem? k2))
    · rw [e1, e2]
  · intro L hL b hb
    simp only [List.mem_append, List.mem_singleton] at hL
    rcases hL with hL | rfl
    · exact h.lt L hL b hb
    · simp at hb; subst hb; exact o1
  · intro b hb
    obtain ⟨p1, p2⟩ := h.own b (ho b hb)
    refine ⟨p1, fun L hL => ?_⟩
    simp only [List.mem_append, List.mem_singleton] at hL
    rcases hL with hL | rfl
    · exact p2 L hL
    · simp; rintro rfl; exact hor hb
  · rintro b (hb | ⟨L, hL, hb⟩)
    · exact .inl (ho b hb)
    · simp only [List.mem_append, List.mem_singleton] at hL
      rcases hL with hL | rfl
      · exact .inr ⟨L, hL, hb⟩
      · simp at hb; subst hb; exact .inl hr

/-- How one goes on behind a loop over a function. -/
def pendE : Option Code → Option Exit
  | none => some .normal
  | some .ret => some .ret
  | some (.exit id) => some (.exit id)
  | _ => none

/-- A loop over a function. -/
theorem AWt.rangeFunc {ι : Type} {f : Operand} {ps : Array Tmp} {assign body : Code} {F : FuncId} {capD : List D} {res : ι → D} {σ' : ι → List Box} {r' : ι → Loop}
    (hcl : ∀ s a, FrOK N σ s φ a → HeapOK σ s → ∃ caps : List Value, a.eval f = .func (.func F) #[] caps.toArray ∧ RdDs σ s caps capD)
    (hev : EvI X F (.e (.one (.ref σ.length)) :: capD) (σ ++ [.loop N φ { state := .ready, pending := none, fn := 0, tmps := #[], params := ps, assign := assign, body := body, defers := 0 }]) res σ')
    (hl : ∀ i, (σ' i)[σ.length]? = some (.loop N φ (r' i)) ∧ (r' i).state ≠ .busy)
    (k : ∀ i, ∃ e, pendE (r' i).pending = some e ∧ Q e φ ((σ' i).set σ.length .dead ++ [.dfr])) : AWt X N (.rangeFunc f ps assign body) Q φ σ := by
  intro s a fr hh b kk cs S hb hro hQ
  obtain ⟨⟨fn, hfn, hnum, hbody⟩, hcall⟩ := hev
  refine .next rfl fun s1 hr1 => ?_
  have hr := X.relyC hr1
  have hh1 := hh.rely hr
  have f1 := fr.rely hr hh
  obtain ⟨caps, hv, hcaps⟩ := hcl s1 a f1 hh1
  generalize hrd : s1.w.heap.size = r
  have hstep := fun main => sg_rangeFunc (P := P) (main := main) (k := kk) (cs := cs) (ps := ps) (assign := assign) (body := body) (b := b) (w := s1.w) hro hb hfn hnum hbody hv
  rw [hrd] at hstep
  let w1 : World := { s1.w with heap := s1.w.heap.push (.deferred (some [])) }
  let lo : Loop := { state := .ready, pending := none, fn := b.fn, tmps := a.tmps, params := ps, assign := assign, body := body, defers := r }
  let w2 : World := { s1.w with heap := (s1.w.heap.push (.deferred (some []))).push (.loop lo) }
  have hsz : w2.heap.size = r + 2 := by simp [w2, hrd]
  have hsz1 : w1.heap.size = r + 1 := by simp [w1, hrd]
  have hk1 : ∀ b, b < s1.w.heap.size → w1.heap[b]? = s1.w.heap[b]? := fun b hb => by
    show (s1.w.heap.push _)[b]? = _
    rw [Array.getElem?_push_lt hb, Array.getElem?_eq_getElem hb]
  have hk12 : ∀ b, b < w1.heap.size → w2.heap[b]? = w1.heap[b]? := fun b hb => by
    show (w1.heap.push _)[b]? = _
    rw [Array.getElem?_push_lt hb, Array.getElem?_eq_getElem hb]
  have hk2 : ∀ b, b < s1.w.heap.size → w2.heap[b]? = s1.w.heap[b]? := fun b hb => by rw [hk12 b (by omega), hk1 b hb]
  have hw2r : w2.heap[r]? = some (.deferred (some [])) := by
    rw [hk12 r (by omega)]
    show (s1.w.heap.push _)[r]? = _
    rw [← hrd]; simp
  have hw2l : w2.heap[r + 1]? = some (.loop lo) := by
    show (w1.heap.push _)[r + 1]? = _
    rw [← hsz1]; simp
  have nM : ∀ b, s1.w.heap.size ≤ b → ∀ o, s1.M b o = none := fun b hb o => by
    cases hm : s1.M b o with
    | none => rfl
    | some v => have := hh1.block hm; omega
  let L1 : Loc := ⟨.func (.yield (r + 1)) #[] #[], [r + 1]⟩
  let L2 : Loc := ⟨.int .i64 r, [r]⟩
  let rr : Loop := { state := .ready, pending := none, fn := 0, tmps := #[], params := ps, assign := assign, body := body, defers := 0 }
  -- the state of the callee
  obtain ⟨g1, g2⟩ := hh1.grow (M' := s1.M) (w' := w2) (by omega) hk2 (fun _ _ _ => rfl) (fun b hb o v hm => by rw [nM b hb] at hm; cases hm) rfl rfl rfl
  have exB : Ext σ s1 (σ ++ [.loop N φ rr]) ⟨s1.β ++ [L1], s1.M, w2, s1.own⟩ := by
    refine ⟨fun _ _ _ h => h, fun l B L hB hL => ⟨B, L, ?_, ?_, .refl _ _⟩⟩
    · rw [List.getElem?_append_left (List.getElem?_eq_some_iff.1 hB).1, hB]
    · show (s1.β ++ _)[l]? = _
      rw [List.getElem?_append_left (List.getElem?_eq_some_iff.1 hL).1, hL]
  obtain ⟨a1, a2⟩ := g1.addBox (B := .loop N φ rr) (L := L1) g2 rfl hh1 ⟨r + 1, a.tmps, b.fn, r, rfl, hw2l, f1.size, fun t => (f1.slot t).mono exB hh1.len, fun o => nM _ (by omega) o⟩ (fun b hb => by
    simp [L1] at hb; subst hb; exact ⟨by omega, by show r + 1 < w2.heap.size; omega⟩)
  have hD := a1.setOwn (o := fun b => s1.own b ∨ b = r) (by
    rintro b (hb | rfl)
    · exact a1.own b hb
    · refine ⟨by show b < w2.heap.size; omega, fun L hL => ?_⟩
      simp only [List.mem_append, List.mem_singleton] at hL
      rcases hL with hL | rfl
      · intro hc; have := hh1.lt L hL b hc; omega
      · simp [L1])
  -- the step
  have d1 := hh1.allDead
  obtain ⟨e1, e2⟩ := d1.grow (M' := s1.M) (w' := w1) (by omega) hk1 (fun _ _ _ => rfl) (fun b hb o v hm => by rw [nM b hb] at hm; cases hm) rfl rfl rfl
  obtain ⟨e3, e4⟩ := e1.addBox (B := .dead) (L := L2) e2 rfl d1 trivial (fun b hb => by simp [L2] at hb; subst hb; exact ⟨by omega, by show b < w1.heap.size; omega⟩)
  obtain ⟨e5, e6⟩ := e3.grow (M' := s1.M) (w' := w2) (by show w1.heap.size ≤ _; omega) hk12 (fun _ _ _ => rfl) (fun b hb o v hm => by
    have hb : w1.heap.size ≤ b := hb
    rw [nM b (by omega)] at hm; cases hm) rfl rfl rfl
  obtain ⟨e7, e8⟩ := e5.addBox (B := .dead) (L := L1) e6 rfl e3 trivial (fun b hb => by simp [L1] at hb; subst hb; exact ⟨by show w1.heap.size ≤ _; omega, by show r + 1 < w2.heap.size; omega⟩)
  have hG0 : Ghost ⟨s1.β ++ [L2] ++ [L1], s1.M, w2, s1.own⟩ ⟨s1.β ++ [L1], s1.M, w2, fun b => s1.own b ∨ b = r⟩ := by
    refine ⟨rfl, fun _ _ _ h => h, fun _ _ _ => rfl, a1.mem, ?_⟩
    rintro b ((hb | rfl) | ⟨L, hL, hb⟩)
    · exact .inl hb
    · exact .inr ⟨L2, by simp, by simp [L2]⟩
    · simp only [List.mem_append, List.mem_singleton] at hL
      rcases hL with hL | rfl
      · exact .inr ⟨L, by simp [hL], hb⟩
      · exact .inr ⟨L1, by simp, hb⟩
  refine ⟨_, ⟨s1.β ++ [L2] ++ [L1], s1.M, w2, s1.own⟩, _, hstep X.main, ⟨⟨_, _, d1, e7, e4.trans e8⟩, .nil⟩, .ghost hG0 (hcall _ (Value.func (.yield (r + 1)) #[] #[] :: caps) ?_ hD S _ fun i frl v s4 hleav hres hh4 st4 => ?_)⟩
  · refine ⟨⟨fun E k n es he => ?_, L1, ?_, rfl, rfl⟩, ?_⟩
    · rw [List.getElem?_append_right (Nat.le_refl _)] at he; simp at he
    · show (s1.β ++ [L1])[σ.length]? = _
      rw [← hh1.len, List.getElem?_append_right (Nat.le_refl _)]; simp
    · exact hcaps.mono (σ := σ) (s := s1) (σ' := σ ++ [.loop N φ rr]) (s' := ⟨s1.β ++ [L1], s1.M, w2, fun b => s1.own b ∨ b = r⟩) ⟨exB.mem, exB.box⟩ hh1.len
  have hfin : (b.aT { a with defers := { target := .collected r, args := #[] } :: a.defers } (.inRangeFunc (r + 1) :: kk)).finish v = b.aT { a with defers := { target := .collected r, args := #[] } :: a.defers } (.endRangeFunc (r + 1) :: kk) := by simp [Frame.finish, Frame.aT]
  refine arr_leave (cs := cs) (c := b.aT { a with defers := { target := .collected r, args := #[] } :: a.defers } (.inRangeFunc (r + 1) :: kk)) hh4 hleav fun s5 hr5 => ?_
  rw [hfin]
  refine .next rfl fun s6 hr6' => ?_
  have hr6 := X.relyC hr6'
  have hh6 := (hh4.rely hr5).rely hr6
  have st6 := (st4.trans hr5.stepW).trans hr6.stepW
  obtain ⟨hl1, hl2⟩ := hl i
  have hLl : ∃ L, s6.β[σ.length]? = some L ∧ L.v = .func (.yield (r + 1)) #[] #[] := by
    obtain ⟨B', L', k1, k2, k3⟩ := st6.box σ.length (.loop N φ rr) L1 (show (σ ++ [Box.loop N φ rr])[σ.length]? = _ from List.getElem?_concat_length) (by
      show (s1.β ++ [L1])[σ.length]? = _
      rw [← hh1.len, List.getElem?_append_right (Nat.le_refl _)]; simp)
    rw [hl1] at k1; cases k1
    exact ⟨L', k2, k3⟩
  obtain ⟨tmps6, fn6, df6, p1, p2, p3, p4, p5⟩ := hh6.loopAt hl1 hLl
  obtain ⟨q1, q2⟩ := hh6.setLoop (r' := { r' i with state := .exhausted }) (B' := .dead) hl1 p1 p2 p3 p4 p5 (.inl rfl)
  refine ⟨_, _, _, sg_endLoop p2 hl2, ⟨⟨_, _, hh6, q1, q2⟩, EvOK.seen (.two (evOK_obj (List.mem_of_getElem? p1) (by simp)) (evOK_obj (List.mem_of_getElem? p1) (by simp)))⟩, ?_⟩
  have st7 := st6.trans (q2.toW hh6)
  generalize hs7 : ({ s6 with w := { s6.w with heap := s6.w.heap.setIfInBounds (r + 1) (.loop { { r' i with state := .exhausted } with tmps := tmps6, fn := fn6, defers := df6 }) } } : St) = s7 at q1 q2 st7
  have h7r : s7.own r := by rw [st7.own]; exact .inr rfl
  have h7d : s7.w.heap[r]? = some (.deferred (some [])) := by rw [st7.keep r (.inr rfl)]; exact hw2r
  have h7M : ∀ o, s7.M r o = none := fun o => by
    rw [st7.memk r (by show r < w2.heap.size; omega) (fun L hL => (hD.own r (.inr rfl)).2 L hL)]
    exact nM r (by omega) o
  obtain ⟨t1, t2⟩ := q1.adopt (r := r) (o := s1.own) h7r (fun b hb => by rw [st7.own]; exact .inl hb) (fun hc => by have := (hh1.own r hc).1; omega) h7M h7d
  refine .ghost t2 ?_
  have stF : StepW σ s1 ((σ' i).set σ.length .dead ++ [.dfr]) { s7 with β := s7.β ++ [⟨.int .i64 r, [r]⟩], own := s1.own } := by
    refine ⟨?_, fun b hb => ?_, fun b o v hm => st7.mem b o v hm, fun b hb hn o => ?_, fun L hL b hb => ?_, fun l B L hB hL => ?_, st7.os, st7.tape, st7.output, rfl⟩
    · have : w2.heap.size ≤ s7.w.heap.size := st7.size
      show s1.w.heap.size ≤ s7.w.heap.size; omega
    · show s7.w.heap[b]? = _
      rw [st7.keep b (.inl hb)]
      exact hk2 b (hh1.own b hb).1
    · show s7.M b o = _
      rw [st7.memk b (by show b < w2.heap.size; omega) (fun L hL => ?_)]
      simp only [List.mem_append, List.mem_singleton] at hL
      rcases hL with hL | rfl
      · exact hn L hL
      · simp [L1]; omega
    · simp only [List.mem_append, List.mem_singleton] at hL
      rcases hL with hL | rfl
      · rcases st7.bls L hL b hb with h1 | ⟨L0, h1, h2⟩
        · have h1 : w2.heap.size ≤ b := h1
          exact .inl (by omega)
        · simp only [List.mem_append, List.mem_singleton] at h1
          rcases h1 with h1 | rfl
          · exact .inr ⟨L0, h1, h2⟩
          · simp [L1] at h2; exact .inl (by omega)
      · simp at hb; exact .inl (by omega)
    · have hlσ := (List.getElem?_eq_some_iff.1 hB).1
      have hlβ := (List.getElem?_eq_some_iff.1 hL).1
      obtain ⟨B', L', k1, k2, k3⟩ := st7.box l B L (by rw [List.getElem?_append_left hlσ]; exact hB) (by show (s1.β ++ [L1])[l]? = _; rw [List.getElem?_append_left hlβ]; exact hL)
      refine ⟨B', L', ?_, ?_, k3⟩
      · rw [List.getElem?_append_left (List.getElem?_eq_some_iff.1 k1).1]; exact k1
      · show (s7.β ++ _)[l]? = _
        rw [List.getElem?_append_left (List.getElem?_eq_some_iff.1 k2).1]; exact k2
  have fF : FrOK N ((σ' i).set σ.length .dead ++ [.dfr]) { s7 with β := s7.β ++ [⟨.int .i64 r, [r]⟩], own := s1.own } φ { a with defers := { target := .collected r, args := #[] } :: a.defers } := by
    have hm := f1.mono stF hh1.len
    obtain ⟨ls, hls⟩ := f1.defers
    refine ⟨hm.size, ⟨((σ' i).set σ.length .dead).length :: ls, ⟨⟨?_, ⟨.int .i64 r, [r]⟩, r, ?_, rfl, rfl⟩, fun hc => ?_, hls.mono stF.ext⟩⟩, hm.slot⟩
    · rw [List.getElem?_append_right (Nat.le_refl _)]; simp
    · show (s7.β ++ _)[_]? = _
      rw [← q1.len, List.getElem?_append_right (Nat.le_refl _)]; simp
    · have h1 := hls.isDfr _ hc
      have h2 := (List.getElem?_eq_some_iff.1 h1).1
      have h3 := (List.getElem?_eq_some_iff.1 hl1).1
      simp at h2
      omega
  obtain ⟨e, he, hq⟩ := k i
  have hend := hQ e φ _ _ _ hq fF t1 (hr.stepW.trans stF)
  revert he
  show pendE (r' i).pending = some e → Arr X S (G (b.aT _ (((r' i).pending.map Item.code).toList ++ kk)) cs) _
  intro he
  cases hp : (r' i).pending with
  | none => rw [hp] at he; cases he; exact hend
  | some c =>
    rw [hp] at he
    cases c <;> simp only [pendE, reduceCtorEq, Option.some.injEq] at he
    · subst he; exact hend [] (fun _ => rfl)
    · subst he; exact hend kk


theorem FrOK.callee {t : Nat} {F : FuncId} {cap : List C} (hl : look φ t = .e (.one (.c (.fn (.func F) [] cap)))) : ∀ s a, FrOK N σ s φ a → HeapOK σ s → ∃ caps : List Value, a.eval (.tmp t) = .func (.func F) #[] caps.toArray ∧ RdDs σ s caps (capsD cap) := by
  intro s a hf _
  have h := hf.slot t
  rw [hl] at h
  have h := rdC h
  show ∃ caps : List Value, a.tmps.getD t undef = .func (.func F) #[] caps.toArray ∧ _
  generalize a.tmps.getD t undef = v at h
  cases h with
  | fn fs cs hl hl' f1 f2 h1 h2 r1 r2 =>
    have hfs : fs = [] := List.eq_nil_of_length_eq_zero hl
    subst hfs
    exact ⟨cs, rfl, capsD_ok (fun j c hj => ⟨f2 j, h2 j (by rw [hl']; exact (List.getElem?_eq_some_iff.1 hj).1), r2 j c hj⟩) hl'⟩

/-! ### Functions -/

/-- As EvI.intro, of a function that may have loops over functions. -/
theorem EvI.introT {ι : Type} {f : FuncId} {fn : Func} {c : Code} {args : List D} {σ' : ι → List Box} {res : ι → D} (hf : P.funcs[f]? = some fn) (hnum : (fn.name == "runtime.NumGoroutine") = false) (hb : fn.body = some c) (hlen : Nat.ble args.length fn.ntmps = true)
    (h : Fits args σ → AWt X fn.ntmps c (fun e φ σ1 => ∃ j, RetQ fn σ.length (res j) (σ' j) e φ σ1) (argFr 0 args) σ) : EvI X f args σ res σ' := by
  refine ⟨⟨fn, hf, hnum, by rw [hb]; rfl⟩, fun s0 vs hr hh => ?_⟩
  exact (EvI.ofTop hf hnum hb (Nat.le_of_ble_eq_true hlen) fun s a f hh' b k cs S hk hro hQ => h ⟨s0, vs, hr, hh⟩ s a f hh' b k cs S hk hro hQ).2 s0 vs hr hh

/-- What is asked at the end of a function that hands back all its boxes as they lie. -/
def RetA (fn : Func) (res : D) (σ' : List Box) : Post := fun e φ σ1 =>
  (e = .ret ∨ e = .normal) ∧ σ1 = σ' ∧ noDfr σ' = true ∧ ∃ ds d ps, resD φ fn.results.toList = some ds ∧ joinD ds = some d ∧ leD d res = some ps ∧ AllP ps

theorem EvI.introA {ι : Type} {f : FuncId} {fn : Func} {c : Code} {args : List D} {σ' : ι → List Box} {res : ι → D} (hf : P.funcs[f]? = some fn) (hnum : (fn.name == "runtime.NumGoroutine") = false) (hb : fn.body = some c) (hlen : Nat.ble args.length fn.ntmps = true)
    (h : AW X fn.ntmps c (fun e φ σ1 => ∃ j, RetA fn (res j) (σ' j) e φ σ1) (argFr 0 args) σ) : EvI X f args σ res σ' := by
  refine ⟨⟨fn, hf, hnum, by rw [hb]; rfl⟩, fun s vs hr hh S cs hS => ?_⟩
  obtain ⟨hl, hg⟩ := RdDs.get hr
  let b : Frame := { fn := f, tmps := #[], todo := [], defers := [], mode := .run, kind := .normal, roundOf := none }
  have henter : Frame.enter P f vs.toArray .normal = b.aT { tmps := vs.toArray ++ Array.replicate (fn.ntmps - vs.toArray.size) undef, defers := [] } [.code c] := by
    simp [Frame.enter, Frame.aT, hf, hb, b]
  rw [henter]
  have hlen := Nat.le_of_ble_eq_true hlen
  refine h s { tmps := vs.toArray ++ Array.replicate (fn.ntmps - vs.toArray.size) undef, defers := [] } ⟨by simp; omega, ⟨[], trivial⟩, fun t => ?_⟩ hh b [] cs S (by simp [b]) ?_
  · rw [look_argFr]
    simp only [Nat.zero_le, if_true, Nat.sub_zero]
    have := hg t
    rcases Nat.lt_or_ge t vs.length with hlt | hge
    · have e : (vs.toArray ++ Array.replicate (fn.ntmps - vs.toArray.size) undef).getD t undef = (vs[t]?).getD undef := by
        simp only [Array.getD_eq_getD_getElem?]
        rw [Array.getElem?_append_left (by simpa using hlt)]
        simp
      rw [e]
      exact this
    · rw [List.getElem?_eq_none (by omega)]
      trivial
  · rintro e φ' σ1 s1 a1 ⟨jj, he, rfl, hnd, ds, d, ps, h1, h2, h3, h4⟩ f' h' st
    have fin : ∀ (fr : Frame) s2, RelyC s1 s2 → fr.fn = f → fr.tmps = a1.tmps → fr.defers = a1.defers → fr.mode = .returning → fr.kind = .normal → Arr X S (G fr cs) s2 := by
      intro fr s2 hr2 e1 e2 e3 e4 e5
      have f2 := f'.rely hr2 h'
      obtain ⟨v, r1, r2, r3⟩ := run_results (P := P) f2 h1 h2
      obtain ⟨ls, hls⟩ := f2.defers
      have hd0 : a1.defers = [] := by
        cases ls with
        | nil => cases hd : a1.defers with
          | nil => rfl
          | cons d ds => rw [hd] at hls; exact hls.elim
        | cons l ls => exact absurd rfl (noDfr_mem hnd _ (List.mem_of_getElem? (hls.isDfr l (by simp))))
      refine hS jj fr v _ ⟨e1, e4, by rw [e3]; exact hd0, e5, fn, by rw [e1]; exact hf, fun w _ => ?_⟩ (leD_ok h3 h4 r2) (h'.rely hr2) (st.trans hr2.stepW)
      rw [e2]
      exact ⟨r1 w, fun e he => by rw [r3 w #[]] at he; simp at he⟩
    rcases he with rfl | rfl
    · intro pre
      exact .ctl h' rfl (fun _ => sg_ret rfl) fun s2 hr2 => fin _ s2 hr2 rfl rfl rfl rfl rfl
    · exact .ctl h' rfl (fun _ => sg_end rfl) fun s2 hr2 => fin _ s2 hr2 rfl rfl rfl rfl rfl

end
end Go.AM

/- maps.Keys and its iterator. -/
namespace Go.AM
open Go.Proofs

theorem nodup_inj {α β : Type} {f : α → β} : ∀ {l : List α}, (l.map f).Nodup → ∀ {a b : α}, a ∈ l → b ∈ l → f a = f b → a = b
  | [], _, _, _, h, _, _ => by simp at h
  | x :: r, hn, a, b, ha, hb, e => by
    simp only [List.map_cons, List.nodup_cons] at hn
    rcases List.mem_cons.1 ha with h1 | h1 <;> rcases List.mem_cons.1 hb with h2 | h2
    · rw [h1, h2]
    · exact absurd (by rw [← h1, e]; exact List.mem_map_of_mem h2) hn.1
    · exact absurd (by rw [← h2, ← e]; exact List.mem_map_of_mem h1) hn.1
    · exact nodup_inj hn.2 h1 h2 e

theorem len_sub : ∀ {p l : List Bs}, p.Nodup → (∀ x ∈ p, x ∈ l) → p.length ≤ l.length
  | [], _, _, _ => Nat.zero_le _
  | x :: p, l, hn, hs => by
    rw [List.nodup_cons] at hn
    have hx := hs x List.mem_cons_self
    have := len_sub (l := l.erase x) hn.2 fun y hy => (List.mem_erase_of_ne (by rintro rfl; exact hn.1 hy)).2 (hs y (List.mem_cons_of_mem _ hy))
    rw [List.length_erase_of_mem hx] at this
    have := List.length_pos_of_mem hx
    simp; omega

theorem noDfr_cons {B : Box} {r : List Box} (h : B ≠ .dfr) (k : noDfr r = true) : noDfr (B :: r) = true := by
  cases B <;> first | exact k | exact absurd rfl h

section
variable {P : Program} {X : Cx P} {N : Nat} {Qf : Post} {φ : Fr} {σ : List Box}

theorem AK.monoQ {Q Q' : Post} (h : ∀ e φ σ, Q e φ σ → Q' e φ σ) : ∀ {K : List It} {e : Exit} {φ : Fr} {σ : List Box}, AK X N Q K e φ σ → AK X N Q' K e φ σ
  | [], e, φ, σ, q => h e φ σ q
  | .code c :: K, .normal, φ, σ, q => AW.mono q fun _ _ _ q => AK.monoQ h q
  | .code c :: K, .exit _, φ, σ, q => AK.monoQ (K := K) h q
  | .code c :: K, .ret, φ, σ, q => AK.monoQ (K := K) h q
  | .code c :: K, .panic _, φ, σ, q => AK.monoQ (K := K) h q
  | .code c :: K, .goto _, φ, σ, q => AK.monoQ (K := K) h q
  | .code c :: K, .outgrown, φ, σ, q => AK.monoQ (K := K) h q
  | .blk id :: K, .exit id', φ, σ, q => by
    simp only [AK] at q ⊢
    split
    · rename_i e; rw [if_pos e] at q; exact AK.monoQ (K := K) h q
    · rename_i e; rw [if_neg e] at q; exact AK.monoQ (K := K) h q
  | .blk id :: K, .normal, φ, σ, q => AK.monoQ (K := K) h q
  | .blk id :: K, .ret, φ, σ, q => AK.monoQ (K := K) h q
  | .blk id :: K, .panic _, φ, σ, q => AK.monoQ (K := K) h q
  | .blk id :: K, .goto _, φ, σ, q => AK.monoQ (K := K) h q
  | .blk id :: K, .outgrown, φ, σ, q => AK.monoQ (K := K) h q
  | .ops all rest :: K, .normal, φ, σ, q => AOps.mono q fun _ _ q => AK.monoQ h q
  | .ops all rest :: K, .exit _, φ, σ, q => AK.monoQ (K := K) h q
  | .ops all rest :: K, .ret, φ, σ, q => AK.monoQ (K := K) h q
  | .ops all rest :: K, .panic _, φ, σ, q => AK.monoQ (K := K) h q
  | .ops all rest :: K, .goto _, φ, σ, q => AK.monoQ (K := K) h q
  | .ops all rest :: K, .outgrown, φ, σ, q => AK.monoQ (K := K) h q

theorem AK.leaveT {id : Nat} {A : Fr → List Box → Prop} {K0 K1 K2 : List It} (h1 : exitK id K0 = none) (h2 : exitK id K1 = some K2) (k : AK X N Qf K2 .normal φ σ) :
    AK X N (thenQ A (AK X N Qf K1)) (.code (.exit id) :: K0) .normal φ σ :=
  AK.monoQ (fun e φ' σ' q => by cases e <;> exact q) (AK.leave (X := X) (N := N) (Qr := Qf) (A := A) (φ := φ) (σ := σ) h1 h2 k)
end

namespace R1
variable {X : Cx Try.prog}

def keyName (e : MapEntry) : Bs := match e.key with | .string s => s.data.toList | _ => []
def names (es : Array MapEntry) : List Bs := es.toList.map keyName

/-- The keys are strings. -/
def StrKeys (es : Array MapEntry) : Prop := ∀ e ∈ es.toList, e.key = bsV (keyName e) ∧ isCell e.val = true

theorem names_nodup {es : Array MapEntry} {c : Nat} (hst : MapKept.Stamped es c) (hk : StrKeys es) : (names es).Nodup := by
  have h : (es.toList.map (·.key)) = (names es).map bsV := by
    simp only [names, List.map_map]
    apply List.map_congr_left
    intro e he
    exact (hk e he).1
  have := hst.2.2
  rw [h] at this
  rw [List.Nodup, List.pairwise_map] at this
  exact this.imp fun h e => h (congrArg bsV e)

/-- What has been handed out. -/
def Out (es : Array MapEntry) (pre : List Bs) (sn : Array Nat) : Prop := pre.Nodup ∧ (∀ x ∈ pre, x ∈ names es) ∧ ∀ e ∈ es.toList, e.born ∈ sn ↔ keyName e ∈ pre

theorem Out.start (es : Array MapEntry) : Out es [] #[] := ⟨List.nodup_nil, by simp, by simp⟩

theorem Out.step {es : Array MapEntry} {pre : List Bs} {sn : Array Nat} {c : Nat} (h : Out es pre sn) (hst : MapKept.Stamped es c) (hk : StrKeys es) {e : MapEntry} (he : e ∈ es.toList) (hn : e.born ∉ sn) : Out es (pre ++ [keyName e]) (sn.push e.born) ∧ keyName e ∉ pre := by
  have hnp : keyName e ∉ pre := fun hc => hn ((h.2.2 e he).2 hc)
  refine ⟨⟨?_, ?_, ?_⟩, hnp⟩
  · rw [List.nodup_append]
    refine ⟨h.1, by simp, fun a ha b hb => ?_⟩
    simp at hb; subst hb
    rintro rfl; exact hnp ha
  · intro x hx
    rcases List.mem_append.1 hx with hx | hx
    · exact h.2.1 x hx
    · simp at hx; subst hx; exact List.mem_map_of_mem he
  · intro e2 he2
    simp only [Array.mem_push, List.mem_append, List.mem_singleton, h.2.2 e2 he2]
    constructor
    · rintro (h1 | h1)
      · exact .inl h1
      · right; rw [nodup_inj hst.2.1 he2 he h1]
    · rintro (h1 | h1)
      · exact .inl h1
      · right
        have : e2 = e := nodup_inj (f := keyName) (names_nodup hst hk) he2 he h1
        rw [this]

theorem Out.over {es : Array MapEntry} {pre : List Bs} {sn : Array Nat} {c : Nat} (h : Out es pre sn) (hst : MapKept.Stamped es c) (hk : StrKeys es) (ha : ∀ e ∈ es.toList, e.born ∈ sn) : pre.Perm (names es) := by
  refine (List.perm_ext_iff_of_nodup h.1 (names_nodup hst hk)).2 fun x => ⟨h.2.1 x, fun hx => ?_⟩
  obtain ⟨e, he, rfl⟩ := List.mem_map.1 hx
  exact (h.2.2 e he).1 (ha e he)

/-- maps.Keys at a map. -/
abbrev cKeys (r : Nat) : C := .fn (.func 79) [] [.rp [.val (.map (some r))]]

set_option maxRecDepth 20000 in
theorem ev_keys (r : Nat) : Ev X 69 [.e (.one (.v (.map (some r))))] [] (.e (.one (.c (cKeys r)))) [] := by
  refine Ev.body Try.func69 rfl rfl rfl fun hf0 => ?_
  refine AK.run2 foll tok COK.nil [] 5 rfl trivial ?_
  refine AK.freeze 1 0 rfl rfl rfl ?_
  refine AK.run2 foll tok COK.nil [] 100 rfl trivial (AK.ret0 rfl ?_)
  simp [AllP]


set_option maxRecDepth 20000 in
/-- The iterator of maps.Keys: the loop's rounds take the boxes from those of t to those of a t' that R gives. -/
theorem ev_keysIt {T : Type} {H : Value → (Nat → Option Obj) → Prop} {r : Nat} {es : Array MapEntry} {c : Nat} (hH : Has H r es c) (hst : MapKept.Stamped es c) (hk : StrKeys es) (hkl : ∀ e ∈ es.toList, (keyName e).length ≤ 9223372036854775807) {N0 : Nat} {φ0 : Fr} {lr : Loop} (B0 B2 : T → Box) (R : List Bs → T → Prop) (t0 : T) (h0 : R [] t0) (hB : ∀ t, B0 t ≠ .dfr ∧ B2 t ≠ .dfr)
    (hround : ∀ pre x t HB, x ∈ names es → x ∉ pre → pre.Nodup → (∀ y ∈ pre, y ∈ names es) → R pre t → Yields (ι := { t' : T // R (pre ++ [x]) t' }) X 3 [dS x] [B0 t, .opq H, B2 t, .loop N0 φ0 lr, .opq HB] true (fun t' => [B0 t'.1, .opq H, B2 t'.1, .loop N0 φ0 lr, .opq HB])) :
    EvI (ι := { p : T × List Bs × Array Nat // p.2.1.Perm (names es) ∧ R p.2.1 p.1 }) X 79 [.e (.one (.ref 3)), .e (.one (.c (.rp [.val (.map (some r))])))] [B0 t0, .opq H, B2 t0, .loop N0 φ0 lr] (fun _ => .tup []) (fun i => [B0 i.1.1, .opq H, B2 i.1.1, .loop N0 φ0 lr, .opq (Itr r c i.1.2.2)]) := by
  refine EvI.introA Try.func79 rfl rfl rfl (AK.of_code ?_)
  refine AK.run2 foll tokM COK.nil [] 100 rfl trivial ?_
  refine AK.range (mb := 1) (r := r) rfl rfl rfl rfl Try.underlying91 (FrOK.valAt rfl) rfl hH ?_
  refine AK.run2 foll tokM COK.nil [] 100 rfl trivial ?_
  show AW X _ (.loop _) _ _ _
  refine AW.loop (S := T × List Bs × Array Nat) (fun x => Out es x.2.1 x.2.2 ∧ R x.2.1 x.1) (fun _ => [(0, .e (.one (.ref 3))), (5, .e (.one (.ref 4)))]) (fun x => [B0 x.1, .opq H, B2 x.1, .loop N0 φ0 lr, .opq (Itr r c x.2.2)]) (fun x => (names es).length - x.2.1.length) (t0, [], #[]) ⟨Out.start es, h0⟩ (leFr_ok rfl (by simp [AllP, AllP.cat])) rfl ?_
  rintro ⟨t, pre, sn⟩ ⟨hO, hR⟩
  refine AK.of_code ?_
  refine AK.run2 foll tokM COK.nil [] 100 rfl trivial ?_
  refine AK.next (mb := 1) (ib := 4) (r := r) (c := c) (sn := sn) (es := es) rfl rfl rfl rfl rfl rfl rfl rfl hH hst (fun e he => ⟨by rw [(hk e he).1]; rfl, (hk e he).2⟩) fun i => ?_
  cases i with
  | over ha =>
    refine AK.run2 foll tokM COK.nil [(7, false)] 100 rfl ?_ ?_
    · simp [AllP]
    refine AK.leaveT rfl rfl ?_
    exact ⟨⟨(t, pre, sn), hO.over hst hk ha, hR⟩, .inr rfl, rfl, noDfr_cons (hB t).1 (noDfr_cons (B := .opq H) (by simp) (noDfr_cons (hB t).2 rfl)), [], .tup [], [], rfl, rfl, rfl, trivial⟩
  | one e he hn =>
    refine AK.run2 foll tokM COK.nil [(7, true)] 100 rfl ?_ ?_
    · simp [AllP]
    obtain ⟨k1, k3⟩ := hk e he
    have k2 := hkl e he
    obtain ⟨o1, o2⟩ := hO.step hst hk he hn
    refine AK.entry (mb := 1) (ib := 4) (r := r) (c := c) (sn := sn) (es := es) (e := e) (y := .tup [.one (.c (.str (keyName e))), .one .any]) rfl rfl rfl rfl rfl rfl rfl hH hst he (fun s => ⟨[e.key, e.val], rfl, ?_, k3, trivial⟩) ?_
    · rw [k1]; exact Rd.str rfl k2
    refine AK.run2 foll tokM COK.nil [] 100 rfl trivial ?_
    refine AK.yield (hround pre (keyName e) t _ (List.mem_map_of_mem he) o2 hO.1 hO.2.1 hR) rfl rfl rfl rfl rfl rfl fun t' => ?_
    refine AK.run2 foll tokM COK.nil [(13, false)] 100 rfl ?_ ?_
    · simp [AllP]
    refine ⟨(t'.1, pre ++ [keyName e], sn.push e.born), ⟨o1, t'.2⟩, ?_, leFr_ok rfl (by simp [AllP, AllP.cat]), rfl⟩
    have := len_sub o1.1 o1.2.1
    simp at this ⊢
    omega
end R1
end Go.AM
