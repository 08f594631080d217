/-
  Part 4 of a machine of values without memory, proved sound over the model, and of contracts of the functions that the laws reach. Nothing is taken for granted: no condition.
-/
import Derived.Test.YtjoipjpjlihnnaaA3
import Derived.Laws.MakeOwn
import Derived.Calls
import Derived.Below
import Derived.Shelf.Sort.Plain
import Derived.Shelf.Slices.In.SortNone
import Derived.Test.YtjoipjpjlihnnaaProg
set_option linter.unusedVariables false
/- Slices of one's own that may be written: what they hold is kept in a box; the slice itself is known as a value. -/
namespace Go.AM

/-- Where the elements lie, and for how many there is room. -/
inductive Buf where
  | nil (a : Option Addr)
  | row (b cap : Nat)

def slV (bf : Buf) (n : Nat) : Value := match bf with
  | .nil a => .slice a 0 0
  | .row b cap => .slice (some ⟨b, 0, none⟩) n cap

theorem slV_cell (bf : Buf) (n : Nat) : isCell (slV bf n) = true := by cases bf <;> rfl

/-- A box that holds a slice's elements, each of one cell. -/
def SB (E : TypeId) (bf : Buf) (xs : List Value) : Value → (Nat → Option Obj) → Prop := fun v ch => v = .nilFunc ∧ (∀ x ∈ xs, isCell x = true) ∧ match bf with
  | .nil _ => xs = [] ∧ ch = fun _ => none
  | .row b cap => xs.length ≤ cap ∧ cap ≤ 9223372036854775807 ∧ ∃ zs, (xs ++ zs).length = cap ∧ ch = fun b' => if b' = b then some (.cells (xs ++ zs).toArray E (0, 0)) else none

/-- The elements, read as what they are. -/
def valF (xs : List Value) : Nat → List C := fun i => [.val (xs.getD i undef)]

theorem SB.lookup {E : TypeId} {b cap : Nat} {xs : List Value} {v : Value} {ch : Nat → Option Obj} (h : SB E (.row b cap) xs v ch) : ∃ zs, (xs ++ zs).length = cap ∧ ch b = some (.cells (xs ++ zs).toArray E (0, 0)) ∧ ∀ b', (ch b').isSome = true ↔ b' = b := by
  obtain ⟨_, _, _, _, zs, h1, h2⟩ := h
  refine ⟨zs, h1, by rw [h2]; simp, fun b' => ?_⟩
  rw [h2]
  by_cases e : b' = b <;> simp [e]

section
variable {P : Program} {X : Cx P} {N : Nat} {Qf : Post} {K : List It} {φ : Fr} {σ : List Box} {all rest : List Oper} {o : Oper}

/-- For a moment the elements are taken for committed. -/
theorem HeapOK.commit {s : St} (hh : HeapOK σ s) {b : Nat} {vs : List Value} (hM : ∀ o, s.M b o = none) (hc : ∀ o v, vs[o]? = some v → s.w.cell? ⟨b, o, none⟩ = some v) :
    HeapOK (σ.map fun _ => .dead) { s with M := fun b' o => if b' = b then vs[o]? else s.M b' o } ∧ ∀ b' o v, s.M b' o = some v → (if b' = b then vs[o]? else s.M b' o) = some v := by
  have hd := hh.allDead
  refine ⟨⟨fun b' o v hv => ?_, hd.len, fun l B L hB hL => ?_, hd.disj, hd.lt, hd.own⟩, fun b' o v hv => ?_⟩
  · by_cases e : b' = b
    · subst e; simp only [if_true] at hv; exact hc o v hv
    · simp only [e, if_false] at hv; exact hd.mem b' o v hv
  · have := List.mem_of_getElem? hB
    simp at this
    rw [← this.2]; trivial
  · by_cases e : b' = b
    · subst e; rw [hM] at hv; cases hv
    · simp only [e, if_false]; exact hv

theorem EvOK.uncommit {s : St} {M' : Mem} {b : Nat} {es : Array Event} (h : EvOK { s with M := M' } es) {L : Loc} (hL : L ∈ s.β) (hb : b ∈ L.bs) (hM : ∀ b' o v, s.M b' o = some v → M' b' o = some v) (hM' : ∀ b' o v, M' b' o = some v → b' = b ∨ s.M b' o = some v) : EvOK s es := by
  intro e he
  have h1 := h e he
  unfold evOK at h1 ⊢
  split at h1
  · obtain ⟨a1, a2, a3⟩ := h1
    refine ⟨a1, a2, ?_⟩
    rcases a3 with a3 | ⟨a3, a4⟩ | ⟨a3, v, a4⟩
    · exact .inl a3
    · refine .inr (.inl ⟨a3, fun hw => ?_⟩)
      have := a4 hw
      rename_i a _
      cases hm : s.M a.block a.off with
      | none => rfl
      | some v => have h2 := hM _ _ _ hm; simp only at this; rw [this] at h2; cases h2
    · rcases hM' _ _ _ a4 with h2 | h2
      · exact .inr (.inl ⟨⟨L, hL, by rw [h2]; exact hb⟩, fun hw => by rw [a3] at hw; cases hw⟩)
      · exact .inr (.inr ⟨a3, v, h2⟩)
  all_goals exact h1

theorem Rd.vals {M : Mem} {b cap : Nat} {xs zs : List Value} (hx : ∀ x ∈ xs, isCell x = true) (hl : (xs ++ zs).length = cap) (hc : cap ≤ 9223372036854775807) (hM : ∀ o, M b o = xs[o]?) : Rd M (.slice (some ⟨b, 0, none⟩) xs.length cap) (.sl false 1 xs.length (valF xs)) := by
  refine Rd.ofFlat (M := M) (k := 1) (n := xs.length) (es := valF xs) (vs := xs) (a := some ⟨b, 0, none⟩) (b := b) (off := 0) (cap := cap) (t := false) ⟨by simp, fun i _ => rfl, fun i hi j c hj => ?_⟩ (fun _ => rfl) (by rw [← hl]; simp) hc (by simp) (fun p u hp => by rw [hM, Nat.zero_add]; exact hp)
  cases j with
  | zero =>
    simp [valF] at hj
    subst hj
    refine ⟨xs[i], by simp [hi], ?_⟩
    simp [hi]
    exact .val (hx _ (List.getElem_mem hi))
  | succ j => simp [valF] at hj

/-- What is appended to such a slice. -/
theorem AK.appendBuf {x y : Operand} {E : TypeId} {ie : TI} (h : AppOK P o x y E ie) (hs : ie.size = 1) {d : Nat} (hd : o.dst = some d) (hg : o.guard = none) (hN : dstOk N o.dst = true) {l : Nat} {bf : Buf} {xs : List Value} {n : Nat} (hx : absO φ x = .e (.one (.v (slV bf n)))) (hn : xs.length = n)
    (hl : σ[l]? = some (.opq (SB E bf xs))) {tx : Bool} {es' : Nat → List C} (hy : absO φ y = .e (.one (.c (.sl tx 1 1 es')))) {c : C} {xv : Value} (hc : es' 0 = [c]) (hcx : ∀ M v, Rd M v c → v = xv ∧ isCell v = true) (hb : (n + 1) * ie.bytes ≤ 140737488355328)
    (k : ∀ bf' : Buf, AK X N Qf (.ops all rest :: K) .normal ((d, .e (.one (.v (slV bf' (n + 1))))) :: φ) (σ.set l (.opq (SB E bf' (xs ++ [xv]))))) : AK X N Qf (.ops all (o :: rest) :: K) .normal φ σ := by
  refine AK.hand (ι := Buf) (fun bf' => .e (.one (.v (slV bf' (n + 1))))) (fun bf' => σ.set l (.opq (SB E bf' (xs ++ [xv])))) hg hN ?_ fun bf' => by rw [hd]; exact k bf'
  intro s a hf hh
  subst hn
  obtain ⟨t, t2, i, i2, ho, hi, hdi, hi2, hd2⟩ := h.op
  have hlσ : l < σ.length := (List.getElem?_eq_some_iff.1 hl).1
  have hlβ : l < s.β.length := by rw [hh.len]; exact hlσ
  have hL := List.getElem?_eq_getElem hlβ
  generalize s.β[l] = L at hL
  obtain ⟨ch, hH, hheap, hbs, hM0⟩ := hh.box l _ L hl hL
  have hLm := List.mem_of_getElem? hL
  have hv := absO_ok hf x
  rw [hx] at hv
  have hv := Rd.valEq hv
  have hw := absO_ok hf y
  rw [hy] at hw
  have hw := rdC hw
  have hcell := hH.2.1
  have hF1 : ∀ {M : Mem} {u : Value}, Rd M u c → u = xv := fun r => (hcx _ _ r).1
  have nM : ∀ b, s.w.heap.size ≤ b → ∀ o, s.M b o = none := fun b hb o => by
    cases hm : s.M b o with
    | none => rfl
    | some v => have := hh.block hm; omega
  -- a new row
  have mk : ∀ (M' : Mem) (a0 : Option Addr) (cap : Nat), slV bf xs.length = .slice a0 xs.length cap → cap < xs.length + 1 → HeapOK (σ.map fun _ => .dead) { s with M := M' } → (∀ b' o v, s.M b' o = some v → M' b' o = some v) →
      Rd M' (.slice a0 xs.length cap) (.sl false 1 xs.length (valF xs)) → (∀ {es}, EvOK { s with M := M' } es → EvOK s es) →
      ∃ i nx s' v, (execOp a.eval o).run P s.w = .ok nx s'.w ∧ (nx = .value v ∨ (nx = .skip ∧ v = undef)) ∧ RdD (σ.set l (.opq (SB E i (xs ++ [xv])))) s' v (.e (.one (.v (slV i (xs.length + 1))))) ∧ HeapOK (σ.set l (.opq (SB E i (xs ++ [xv])))) s' ∧ Step σ s (σ.set l (.opq (SB E i (xs ++ [xv])))) s' ∧ EvOK s ((execOp a.eval o).events P s.w #[]) := by
    intro M' a0 cap hsl hcap hh0 hMM hR hE0
    have hw' : Rd ({ s with M := M' } : St).M (a.eval y) (.sl tx ie.size 1 es') := by rw [hs]; exact hw.mono hMM
    have hR' : Rd ({ s with M := M' } : St).M (.slice a0 xs.length cap) (.sl false ie.size xs.length (valF xs)) := by rw [hs]; exact hR
    obtain ⟨vs, zs, ncap, f1, f2, f3, f4, f5⟩ := run_append_new (P := P) (s := { s with M := M' }) (ty := o.type) hi hdi hi2 hd2 h.elem hh0 hR' hw' hcap hb h.bytes
    have f6 := ev_append_new (P := P) (s := { s with M := M' }) (ty := o.type) hi hdi hi2 hd2 h.elem hh0 hR' hw' hcap hb h.bytes
    rw [hs] at f1 f4
    have hvs : vs = xs ++ [xv] := by
      apply List.ext_getElem
      · simp [f1.len]
      · intro q q1 q2
        have hq : q < xs.length + 1 := by simpa using q2
        obtain ⟨u, u1, u2⟩ := f1.rd q hq 0 (if q < xs.length then .val (xs.getD q undef) else c) (by
          by_cases e : q < xs.length
          · simp [appF, e, valF]
          · have : q = xs.length := by omega
            subst this; simp [appF, hc])
        simp at u1
        rw [List.getElem?_eq_getElem q1] at u1
        cases u1
        by_cases e : q < xs.length
        · simp only [e, if_true] at u2
          rw [Rd.valEq u2]
          simp [List.getElem_append_left e, e]
        · have : q = xs.length := by omega
          subst this
          simp only [Nat.lt_irrefl, if_false] at u2
          rw [hF1 u2]; simp
    subst hvs
    have hcx' : isCell xv = true := by
      obtain ⟨u, u1, u2⟩ := f1.rd xs.length (by omega) 0 c (by simp [appF, hc])
      have := hcx _ _ u2
      rw [← this.1]; exact this.2
    let w' : World := s.w.drew.alloc (.cells (xs ++ [xv] ++ zs).toArray E)
    have hnew : w'.heap[s.w.heap.size]? = some (.cells (xs ++ [xv] ++ zs).toArray E (0, 0)) := heap_alloc_at s.w.drew _
    have hsz : w'.heap.size = s.w.heap.size + 1 := by show (s.w.drew.heap.push _).size = _; simp
    obtain ⟨t1, t2'⟩ := hh.turn (l := l) (H' := SB E (.row s.w.heap.size ncap) (xs ++ [xv])) (L' := ⟨L.v, [s.w.heap.size]⟩) (w' := w') hl hL rfl (by omega)
      (fun b hb _ => heap_alloc_lt s.w.drew _ hb) (fun b hb => by simp at hb; subst hb; exact .inr ⟨Nat.le_refl _, by omega⟩)
      ⟨fun b' => if b' = s.w.heap.size then some (.cells (xs ++ [xv] ++ zs).toArray E (0, 0)) else none, ⟨hH.1, fun x hx => by
        rcases List.mem_append.1 hx with hx | hx
        · exact hcell x hx
        · simp at hx; subst hx; exact hcx', by simp; omega, f3, zs, by rw [f4]; simp, rfl⟩, fun b o hb => by
        by_cases e : b = s.w.heap.size
        · subst e; simp only [if_true] at hb; cases hb; exact hnew
        · simp [e] at hb, fun b => by by_cases e : b = s.w.heap.size <;> simp [e]⟩ rfl rfl rfl
    refine ⟨.row s.w.heap.size ncap, .value (.slice (some ⟨s.w.heap.size, 0, none⟩) (xs.length + 1) ncap), _, _, ?_, .inl rfl, Rd.val rfl, t1, t2', ?_⟩
    · rw [execOp_append ho, hv, hsl]
      simp only [Sem.run_bind, Sem.run_pure]
      have f5' : (Builtin.append_ #[t, t2] o.type #[.slice a0 xs.length cap, a.eval y]).run P s.w = _ := f5
      rw [f5']
      rfl
    · rw [execOp_append ho, hv, hsl]
      exact ev_pureV (hE0 f6)
  cases bf with
  | nil a0 =>
    obtain ⟨_, _, rfl, _⟩ := hH
    refine mk s.M a0 0 rfl (by simp) (by have := hh.allDead; exact ⟨this.mem, this.len, this.box, this.disj, this.lt, this.own⟩) (fun _ _ _ h => h) Rd.nilSlice (fun h => h)
  | row b cap =>
    obtain ⟨zs, hzl, hchb, hchs⟩ := hH.lookup
    obtain ⟨hv0, _, hcap, hcb, _⟩ := hH
    have hbL : b ∈ L.bs := (hbs b).2 (by rw [hchb]; rfl)
    have hrow := hheap b _ hchb
    have hMb := hM0 b hbL
    have hblt : b < s.w.heap.size := hh.lt L hLm b hbL
    have hcc : ∀ o v, xs[o]? = some v → s.w.cell? ⟨b, o, none⟩ = some v := by
      intro o v ho
      simp only [World.cell?, hrow]
      have : o < xs.length := (List.getElem?_eq_some_iff.1 ho).1
      simpa [List.getElem?_append_left this] using ho
    obtain ⟨c1, c2⟩ := hh.commit (b := b) (vs := xs) hMb hcc
    have hE0 : ∀ {es : Array Event}, EvOK { s with M := fun b' o => if b' = b then xs[o]? else s.M b' o } es → EvOK s es := fun he =>
      he.uncommit (b := b) hLm hbL c2 fun b' o v hv => by
        by_cases e : b' = b
        · exact .inl e
        · simp only [e, if_false] at hv; exact .inr hv
    have hR := Rd.vals (M := fun b' o => if b' = b then xs[o]? else s.M b' o) (b := b) (cap := cap) (xs := xs) (zs := zs) hcell hzl hcb (fun o => by simp)
    by_cases hfit : xs.length + 1 ≤ cap
    · have hw' : Rd ({ s with M := fun b' o => if b' = b then xs[o]? else s.M b' o } : St).M (a.eval y) (.sl tx ie.size 1 es') := by rw [hs]; exact hw.mono c2
      obtain ⟨news, f1, f2⟩ := run_append_room2 (P := P) (s := { s with M := fun b' o => if b' = b then xs[o]? else s.M b' o }) (ty := o.type) (n := xs.length) (b := b) (cap := cap) hi hdi hi2 hd2 h.elem c1 hrow (by rw [hs, hzl]; simp) hw' hfit
      have f6 := ev_append_room (P := P) (s := s) (ty := o.type) (n := xs.length) (b := b) (cap := cap) hi hdi hi2 hd2 h.elem hh hrow (by rw [hs, hzl]; simp) (x := a.eval y) (tx := tx) (es' := es') (by rw [hs]; exact hw) hfit hLm hbL (fun o _ => hMb o)
      rw [hs] at f1 f2
      have hnews : news = [xv] := by
        have hl1 := f1.len
        simp at hl1
        obtain ⟨u, rfl⟩ := List.length_eq_one_iff.1 hl1
        obtain ⟨u', u1, u2⟩ := f1.rd 0 (by omega) 0 c (by simp [hc])
        simp at u1; subst u1
        rw [hF1 u2]
      subst hnews
      have hcx' : isCell xv = true := by
        obtain ⟨u, u1, u2⟩ := f1.rd 0 (by omega) 0 c (by simp [hc])
        have := hcx _ _ u2
        rw [← this.1]; exact this.2
      have hrow2 : ((xs ++ zs).take (xs.length * 1) ++ [xv] ++ (xs ++ zs).drop (xs.length * 1 + [xv].length)) = xs ++ [xv] ++ zs.drop 1 := by
        simp [List.drop_append]
      rw [hrow2] at f2
      have hset : (s.w.setRow b (xs ++ [xv] ++ zs.drop 1).toArray).heap[b]? = some (.cells (xs ++ [xv] ++ zs.drop 1).toArray E (0, 0)) := setRow_heap s.w b _ _ E _ hrow
      have hoth : ∀ b', b' ≠ b → (s.w.setRow b (xs ++ [xv] ++ zs.drop 1).toArray).heap[b']? = s.w.heap[b']? := fun b' hb' => setRow_other s.w b b' _ hb'
      obtain ⟨t1, t2'⟩ := hh.turn (l := l) (H' := SB E (.row b cap) (xs ++ [xv])) (L' := L) (w' := s.w.setRow b (xs ++ [xv] ++ zs.drop 1).toArray) hl hL rfl (by simp)
        (fun b' hb' hn => hoth b' (by rintro rfl; exact hn hbL)) (fun b' hb' => .inl hb')
        ⟨fun b' => if b' = b then some (.cells (xs ++ [xv] ++ zs.drop 1).toArray E (0, 0)) else none, ⟨hv0, fun x hx => by
          rcases List.mem_append.1 hx with hx | hx
          · exact hcell x hx
          · simp at hx; subst hx; exact hcx', by simpa using hfit, hcb, zs.drop 1, by simp at hzl ⊢; omega, rfl⟩, fun b' o hb' => by
          by_cases e : b' = b
          · subst e; simp only [if_true] at hb'; cases hb'; exact hset
          · simp [e] at hb', fun b' => by
          rw [hbs b', hchs b']
          by_cases e : b' = b <;> simp [e]⟩ rfl rfl rfl
      refine ⟨.row b cap, .value (.slice (some ⟨b, 0, none⟩) (xs.length + 1) cap), _, _, ?_, .inl rfl, Rd.val rfl, t1, t2', ?_⟩
      · rw [execOp_append ho, hv]
        simp only [Sem.run_bind, Sem.run_pure, slV]
        have f2' : (Builtin.append_ #[t, t2] o.type #[.slice (some ⟨b, 0, none⟩) xs.length cap, a.eval y]).run P s.w = _ := f2
        rw [f2']
        rfl
      · rw [execOp_append ho, hv]
        exact ev_pureV f6
    · exact mk _ (some ⟨b, 0, none⟩) cap rfl (by omega) c1 c2 hR hE0


theorem AW.ghostI {ι : Type} {c : Code} {Q : Post} {φ' : ι → Fr} {σ' : ι → List Box} (h : ∀ s a, FrOK N σ s φ a → HeapOK σ s → ∃ (i : ι) (s' : St), s'.w = s.w ∧ FrOK N (σ' i) s' (φ' i) a ∧ HeapOK (σ' i) s' ∧ Step σ s (σ' i) s') (k : ∀ i, AW X N c Q (φ' i) (σ' i)) : AW X N c Q φ σ := by
  intro s a hf hh b kk cs S hb hQ
  obtain ⟨i, s', hw, hf', hh', st⟩ := h s a hf hh
  have stW := st.toW hh
  refine .ghost (.of hh hh' hw stW) ?_
  exact k i s' a hf' hh' b kk cs S hb fun e φ2 σ2 s2 a2 q f2 h2 st2 => hQ e φ2 σ2 s2 a2 q f2 h2 (stW.trans st2)

/-- An empty slice is taken for the function's own, to be filled. -/
theorem AK.newBuf (t : Nat) (E : TypeId) {k : Nat} {es : Nat → List C} {c : Code} (ht : look φ t = .e (.one (.c (.sl true k 0 es))))
    (kk : ∀ bf : Buf, AK X N Qf (.code c :: K) .normal ((t, .e (.one (.v (slV bf 0)))) :: φ) (σ ++ [.opq (SB E bf [])])) : AK X N Qf (.code c :: K) .normal φ σ := by
  refine AW.ghostI (fun s a hf hh => ?_) kk
  have hs := hf.slot t
  rw [ht] at hs
  obtain ⟨a0, cap, vs, hv, _, _, hcap, _, _⟩ := (rdC hs).flat
  have hcap := hcap rfl
  subst hcap
  obtain ⟨g1, g2⟩ := hh.addBox (B := .opq (SB E (.nil a0) [])) (L := ⟨.nilFunc, []⟩) (.refl _ _) rfl hh ⟨fun _ => none, ⟨rfl, by simp, rfl, rfl⟩, by simp, by simp, by simp⟩ (by simp)
  refine ⟨.nil a0, { s with β := s.β ++ [⟨.nilFunc, []⟩] }, rfl, ⟨hf.size, hf.defers.imp fun _ h1 => h1.mono g2.ext, fun u => ?_⟩, g1, g2⟩
  simp only [look]
  cases hb : Nat.beq t u with
  | false => exact (hf.slot u).mono g2.ext hh.len
  | true =>
    have e := Nat.eq_of_beq_eq_true hb
    subst e
    show Rd _ _ _
    rw [hv]
    exact Rd.val rfl

/-- From now on the slice is but read. -/
theorem AK.commitBuf (t l : Nat) {E : TypeId} {bf : Buf} {xs : List Value} {n : Nat} (es : Nat → List C) {c : Code} (ht : look φ t = .e (.one (.v (slV bf n)))) (hl : σ[l]? = some (.opq (SB E bf xs))) (hn : xs.length = n) (hes : ∀ M i x, xs[i]? = some x → ∃ c, es i = [c] ∧ Rd M x c)
    (kk : AK X N Qf (.code c :: K) .normal ((t, .e (.one (.c (.sl false 1 n es)))) :: φ) (σ.set l .dead)) : AK X N Qf (.code c :: K) .normal φ σ := by
  refine AK.ghost (fun s a hf hh => ?_) kk
  subst hn
  have hlσ : l < σ.length := (List.getElem?_eq_some_iff.1 hl).1
  have hlβ : l < s.β.length := by rw [hh.len]; exact hlσ
  have hL := List.getElem?_eq_getElem hlβ
  generalize s.β[l] = L at hL
  obtain ⟨ch, hH, hheap, hbs, hM0⟩ := hh.box l _ L hl hL
  have hs := hf.slot t
  rw [ht] at hs
  have hv := Rd.valEq hs
  -- the block, if there is one
  have main : ∃ M' : Mem, (∀ b o v, s.M b o = some v → M' b o = some v) ∧ (∀ b, b ∉ L.bs → ∀ o, M' b o = s.M b o) ∧ (∀ b o v, M' b o = some v → s.w.cell? ⟨b, o, none⟩ = some v) ∧ Rd M' (slV bf xs.length) (.sl false 1 xs.length es) := by
    cases bf with
    | nil a0 =>
      obtain ⟨_, _, rfl, _⟩ := hH
      exact ⟨s.M, fun _ _ _ h => h, fun _ _ _ => rfl, hh.mem, Rd.nilSlice⟩
    | row b cap =>
      obtain ⟨zs, hzl, hchb, hchs⟩ := hH.lookup
      obtain ⟨hv0, hcell, hcap, hcb, _⟩ := hH
      have hbL : b ∈ L.bs := (hbs b).2 (by rw [hchb]; rfl)
      have hrow := hheap b _ hchb
      obtain ⟨c1, c2⟩ := hh.commit (b := b) (vs := xs) (hM0 b hbL) (fun o v ho => by
        simp only [World.cell?, hrow]
        have : o < xs.length := (List.getElem?_eq_some_iff.1 ho).1
        simpa [List.getElem?_append_left this] using ho)
      refine ⟨fun b' o => if b' = b then xs[o]? else s.M b' o, c2, fun b' hb' o => if_neg (by rintro rfl; exact hb' hbL), c1.mem, ?_⟩
      refine Rd.ofFlat (k := 1) (n := xs.length) (es := es) (vs := xs) (a := some ⟨b, 0, none⟩) (b := b) (off := 0) (cap := cap) (t := false) ⟨by simp, fun i hi => ?_, fun i hi j c hj => ?_⟩ (fun _ => rfl) hcap hcb (by simp) (fun p u hp => by simpa using hp)
      · obtain ⟨c, h1, _⟩ := hes s.M i xs[i] (List.getElem?_eq_getElem hi)
        rw [h1]; rfl
      · obtain ⟨c', h1, h2⟩ := hes (fun b' o => if b' = b then xs[o]? else s.M b' o) i xs[i] (List.getElem?_eq_getElem hi)
        rw [h1] at hj
        cases j with
        | zero => simp at hj; subst hj; exact ⟨xs[i], by simp [hi], h2⟩
        | succ j => simp at hj
  obtain ⟨M', m1, m2, m3, m4⟩ := main
  have ex : Ext σ s (σ.set l .dead) { s with M := M' } := by
    refine ⟨m1, fun l' B L' hB' hL' => ?_⟩
    by_cases e : l = l'
    · subst e
      rw [hl] at hB'; cases hB'
      exact ⟨.dead, L', by rw [List.getElem?_set_self hlσ], hL', rfl⟩
    · exact ⟨B, L', by rw [List.getElem?_set_ne e]; exact hB', hL', .refl _ _⟩
  have st : Step σ s (σ.set l .dead) { s with M := M' } := by
    refine ⟨Nat.le_refl _, fun _ _ _ => rfl, m1, fun b _ hn o => m2 b (hn L (List.mem_of_getElem? hL)) o, fun L h b hb => .inr ⟨L, h, hb⟩, ex.box, rfl, rfl, rfl, rfl⟩
  refine ⟨{ s with M := M' }, rfl, ⟨hf.size, hf.defers.imp fun _ h1 => h1.mono st.ext, fun u => ?_⟩, ⟨m3, by simp [hh.len], ?_, hh.disj, hh.lt, hh.own⟩, st⟩
  · simp only [look]
    cases hb : Nat.beq t u with
    | false => exact (hf.slot u).mono st.ext hh.len
    | true =>
      have e := Nat.eq_of_beq_eq_true hb
      subst e
      show Rd _ _ _
      rw [hv]
      exact m4
  · intro l' B L' hB' hL'
    by_cases e : l = l'
    · subst e
      rw [List.getElem?_set_self hlσ] at hB'; cases hB'; trivial
    · rw [List.getElem?_set_ne e] at hB'
      exact (hh.box l' B L' hB' hL').carry ex hh.len fun b hb => ⟨rfl, m2 b fun hc => e (hh.disj l l' L L' hL hL' b hc hb)⟩

/-- Another word on what a box holds. -/
theorem AK.opqI {ι : Type} (l : Nat) {H : Value → (Nat → Option Obj) → Prop} (H' : ι → Value → (Nat → Option Obj) → Prop) {c : Code} (hl : σ[l]? = some (.opq H)) (h : ∀ v ch, H v ch → ∃ i, H' i v ch)
    (kk : ∀ i, AK X N Qf (.code c :: K) .normal φ (σ.set l (.opq (H' i)))) : AK X N Qf (.code c :: K) .normal φ σ := by
  refine AW.ghostI (φ' := fun _ => φ) (σ' := fun i => σ.set l (.opq (H' i))) (fun s a hf hh => ?_) kk
  have hlσ : l < σ.length := (List.getElem?_eq_some_iff.1 hl).1
  have hlβ : l < s.β.length := by rw [hh.len]; exact hlσ
  have hL := List.getElem?_eq_getElem hlβ
  generalize s.β[l] = L at hL
  obtain ⟨ch, hH, hheap, hbs, hM0⟩ := hh.box l _ L hl hL
  obtain ⟨i, hi⟩ := h _ _ hH
  have ex : Ext σ s (σ.set l (.opq (H' i))) s := by
    refine ⟨fun _ _ _ h => h, fun l' B L' hB' hL' => ?_⟩
    by_cases e : l = l'
    · subst e
      rw [hl] at hB'; cases hB'
      exact ⟨.opq (H' i), L', by rw [List.getElem?_set_self hlσ], hL', rfl⟩
    · exact ⟨B, L', by rw [List.getElem?_set_ne e]; exact hB', hL', .refl _ _⟩
  have st : Step σ s (σ.set l (.opq (H' i))) s :=
    ⟨Nat.le_refl _, fun _ _ _ => rfl, fun _ _ _ h => h, fun _ _ _ _ => rfl, fun L h b hb => .inr ⟨L, h, hb⟩, ex.box, rfl, rfl, rfl, rfl⟩
  refine ⟨i, s, rfl, ⟨hf.size, hf.defers.imp fun _ h1 => h1.mono st.ext, fun u => (hf.slot u).mono st.ext hh.len⟩, ⟨hh.mem, by simp [hh.len], ?_, hh.disj, hh.lt, hh.own⟩, st⟩
  intro l' B L' hB' hL'
  by_cases e : l = l'
  · subst e
    rw [List.getElem?_set_self hlσ] at hB'; cases hB'
    rw [hL] at hL'; cases hL'
    exact ⟨ch, hi, hheap, hbs, hM0⟩
  · rw [List.getElem?_set_ne e] at hB'
    exact (hh.box l' B L' hB' hL').carry ex hh.len fun _ _ => ⟨rfl, fun _ => rfl⟩

end
end Go.AM

/- slices.AppendSeq over maps.Keys. -/
namespace Go.AM.R1
open Go.Proofs
variable {X : Cx Try.prog}

def cS : Cod Bs := { k := 1, enc := fun s => [.str s], dec := fun cs => strAt cs 0, dflt := [], inv := fun _ => rfl, len := fun _ => rfl }

theorem app74 {o : Oper} {x y : Operand} (h : o.op = .call { callee := .builtin .append, args := #[x, y], argTypes := #[74, 74] }) : AppOK Try.prog o x y 9 i9 :=
  ⟨⟨74, 74, i74, i74, h, g74, rfl, g74, rfl⟩, g9, by decide, by decide⟩

theorem str_val {M : Mem} {v : Value} {p : Bs} (h : Rd M v (.str p)) : v = bsV p ∧ isCell v = true := by
  cases h with
  | str e _ => exact ⟨bsV_of e, rfl⟩

theorem snoc_sub {l : List Bs} {pre : List Bs} {x : Bs} (hx : x ∈ l) (hxp : x ∉ pre) (hnd : pre.Nodup) (hsub : ∀ y ∈ pre, y ∈ l) : pre.length + 1 ≤ l.length := by
  have := len_sub (p := pre ++ [x]) (l := l) (by
    rw [List.nodup_append]
    refine ⟨hnd, by simp, fun a ha b hb => ?_⟩
    simp at hb; subst hb; rintro rfl; exact hxp ha) (by
    intro y hy
    rcases List.mem_append.1 hy with hy | hy
    · exact hsub y hy
    · simp at hy; subst hy; exact hx)
  simpa using this

set_option maxRecDepth 20000 in
theorem ev_appendSeq {H : Value → (Nat → Option Obj) → Prop} {r : Nat} {es : Array MapEntry} {c : Nat} (hH : Has H r es c) (hst : MapKept.Stamped es c) (hk : StrKeys es) (hkl : ∀ e ∈ es.toList, (keyName e).length ≤ 9223372036854775807) (bf : Buf) (l : List Bs) (hlen : l.length + (names es).length ≤ 1000000) :
    EvI (ι := { q : Buf × List Bs // q.2.Perm (names es) }) X 68 [.e (.one (.v (slV bf l.length))), .e (.one (.c (cKeys r)))] [.opq (SB 9 bf (l.map bsV)), .opq H]
      (fun q => .e (.one (.v (slV q.1.1 (l ++ q.1.2).length)))) (fun q => [.opq (SB 9 q.1.1 ((l ++ q.1.2).map bsV)), .opq H]) := by
  refine EvI.introT Try.func68 rfl rfl rfl fun hf0 => ?_
  refine AWt.seq (AW.top (AK.of_code ?_))
  refine AK.run2 foll tok COK.nil [] 100 rfl trivial ?_
  refine AWt.seq (AWt.seq (AW.top (AK.of_code ?_)))
  refine AK.run2 foll tok COK.nil [] 100 rfl trivial ?_
  refine AWt.block ?_
  refine AWt.rangeFunc (capD := capsD [.rp [.val (.map (some r))]]) (FrOK.callee rfl) (ev_keysIt (T := Buf × List Bs) hH hst hk hkl (fun t => .opq (SB 9 t.1 (t.2.map bsV))) (fun t => .cells 74 [.v (slV t.1 t.2.length)]) (fun pre t => t.2 = l ++ pre) (bf, l) (by simp) (fun t => ⟨by simp, by simp⟩) ?_) (fun i => ⟨rfl, by simp⟩) fun i => ⟨.normal, rfl, ?_⟩
  · rintro pre x ⟨bf1, acc⟩ HB hx hxp hnd hsub hR
    obtain rfl : acc = l ++ pre := hR
    have hll : (l ++ pre).length + 1 ≤ 1000000 := by
      have := snoc_sub hx hxp hnd hsub
      simp; omega
    refine Yields.intro (j := none) rfl rfl rfl rfl (AK.of_code ?_)
    refine AK.run2 foll tok COK.nil [] 100 rfl trivial ?_
    refine ⟨rfl, rfl, AK.of_code ?_⟩
    refine AK.run2 foll tok COK.nil [] 100 rfl trivial ?_
    refine AK.appendBuf (l := 0) (bf := bf1) (xs := (l ++ pre).map bsV) (n := (l ++ pre).length) (xv := bsV x) (c := .str x) (app74 rfl) rfl rfl rfl rfl rfl (by simp) rfl rfl rfl (fun M v h => str_val h) (by show _ * 16 ≤ _; omega) fun bf' => ?_
    refine AK.run2 foll tok COK.nil [] 100 rfl trivial ?_
    have e : (l ++ pre).map bsV ++ [bsV x] = (l ++ (pre ++ [x])).map bsV := by simp
    have e2 : (l ++ pre).length + 1 = (l ++ (pre ++ [x])).length := by simp; omega
    rw [e, e2]
    exact ⟨rfl, rfl, ⟨(bf', l ++ (pre ++ [x])), rfl⟩, leBs_ok rfl (by simp [AllP, AllP.cat])⟩
  · show AWt X _ _ _ _ _
    obtain ⟨⟨⟨bf1, acc⟩, pre, sn⟩, hp, hR⟩ := i
    obtain rfl : acc = l ++ pre := hR
    refine AW.top (AK.of_code ?_)
    refine AK.run2 foll tok COK.nil [] 100 rfl trivial ?_
    refine AK.monoQ (fun e φ σ q => ⟨⟨(bf1, pre), hp⟩, q⟩) (AK.retB [0, 1] rfl ?_ rfl rfl rfl ?_)
    · simp [AllP]
    · intro j hj
      rcases j with _ | _ | j
      · rfl
      · rfl
      · simp at hj; omega
end Go.AM.R1

/- A slice of one's own is lent for a call: the callee but reads it. -/
namespace Go.AM
open Go.Conc (G)

/-- Closed data that speaks of no memory. -/
def gndC : C → Bool
  | .int _ _ | .bool _ | .str _ | .nilp | .nili | .nilf | .val _ => true
  | _ => false
def gndA : A → Bool
  | .c x => gndC x
  | .any => true
  | _ => false
def gndL : List A → Bool
  | [] => true
  | a :: r => match gndA a with | true => gndL r | false => false
def gndE : E1 → Bool
  | .one a => gndA a
  | .agg cs => gndL cs
def gndEs : List E1 → Bool
  | [] => true
  | a :: r => match gndE a with | true => gndEs r | false => false
def gndD : D → Bool
  | .e x => gndE x
  | .tup xs => gndEs xs
  | .any => true

section
variable {σ σ' : List Box} {s s' : St}

theorem gndC_ok {M M' : Mem} {v : Value} {c : C} (h : gndC c = true) (r : Rd M v c) : Rd M' v c := by
  cases r <;> first | (simp [gndC] at h; done) | skip
  case int h1 => exact .int h1
  case bool => exact .bool
  case str h1 h2 => exact .str h1 h2
  case nilp => exact .nilp
  case nili => exact .nili
  case nilf => exact .nilf
  case val h1 => exact .val h1

theorem gndA_ok {v : Value} {a : A} (h : gndA a = true) (r : RdA σ s v a) : RdA σ' s' v a := by
  cases a with
  | c x => exact gndC_ok h r
  | any => exact r
  | _ => simp [gndA] at h

theorem gndL_ok : ∀ {vs : List Value} {cs : List A}, gndL cs = true → RdL σ s vs cs → RdL σ' s' vs cs
  | [], [], _, _ => trivial
  | [], _ :: _, _, r => r.elim
  | _ :: _, [], _, r => r.elim
  | v :: vs, c :: cs, h, r => by
    simp only [gndL] at h
    cases ha : gndA c with
    | false => simp [ha] at h
    | true => simp only [ha] at h; exact ⟨gndA_ok ha r.1, gndL_ok h r.2⟩

theorem gndE_ok {v : Value} {x : E1} (h : gndE x = true) (r : RdE σ s v x) : RdE σ' s' v x := by
  cases x with
  | one a => exact gndA_ok h r
  | agg cs => obtain ⟨vs, h1, h2⟩ := r; exact ⟨vs, h1, gndL_ok h h2⟩

theorem gndEs_ok : ∀ {vs : List Value} {cs : List E1}, gndEs cs = true → RdEs σ s vs cs → RdEs σ' s' vs cs
  | [], [], _, _ => trivial
  | [], _ :: _, _, r => r.elim
  | _ :: _, [], _, r => r.elim
  | v :: vs, c :: cs, h, r => by
    simp only [gndEs] at h
    cases ha : gndE c with
    | false => simp [ha] at h
    | true => simp only [ha] at h; exact ⟨gndE_ok ha r.1, gndEs_ok h r.2⟩

theorem gndD_ok {v : Value} {d : D} (h : gndD d = true) (r : RdD σ s v d) : RdD σ' s' v d := by
  cases d with
  | e x => exact gndE_ok h r
  | tup xs => obtain ⟨vs, h1, h2⟩ := r; exact ⟨vs, h1, gndEs_ok h h2⟩
  | any => trivial
end

def opqs : List Box → Bool
  | [] => true
  | .opq _ :: r => opqs r
  | .dead :: r => opqs r
  | _ => false

theorem opqs_mem : ∀ {l : List Box}, opqs l = true → ∀ B ∈ l, (∃ H, B = .opq H) ∨ B = .dead
  | [], _, B, hB => by simp at hB
  | b :: r, h, B, hB => by
    have hb : ((∃ H, b = .opq H) ∨ b = .dead) ∧ opqs r = true := by cases b <;> simp_all [opqs]
    rcases List.mem_cons.1 hB with rfl | hB
    · exact hb.1
    · exact opqs_mem hb.2 B hB

/-- What the box lb holds can be read as that, for a while. -/
def Lends (σ : List Box) (lb : Nat) (u : Value) (k n : Nat) (es : Nat → List C) : Prop :=
  ∀ s, HeapOK σ s → ∃ (L : Loc) (M' : Mem), s.β[lb]? = some L ∧ (∀ b o v, s.M b o = some v → M' b o = some v) ∧ (∀ b, b ∉ L.bs → ∀ o, M' b o = s.M b o) ∧ (∀ b o v, M' b o = some v → s.w.cell? ⟨b, o, none⟩ = some v) ∧
    (∀ b ∈ L.bs, ∀ o, s.M b o = none) ∧ Rd M' u (.sl false k n es)

section
variable {P : Program} {X : Cx P} {N : Nat} {Qf : Post} {K : List It} {φ : Fr} {σ : List Box} {all rest : List Oper} {o : Oper}

theorem RdDs.setAt {σ : List Box} {s : St} {d : D} : ∀ {vs : List Value} {ds : List D} {p : Nat} {v : Value}, RdDs σ s vs ds → vs[p]? = some v → RdD σ s v d → RdDs σ s vs (ds.set p d)
  | [], [], _, _, _, h, _ => by simp at h
  | [], _ :: _, _, _, h, _, _ => h.elim
  | _ :: _, [], _, _, h, _, _ => h.elim
  | u :: vs, e :: ds, 0, v, h, hv, hd => by simp at hv; subst hv; exact ⟨hd, h.2⟩
  | u :: vs, e :: ds, p + 1, v, h, hv, hd => ⟨h.1, RdDs.setAt (p := p) h.2 (by simpa using hv) hd⟩

/-- The arguments ds can be read as ds', for a while. -/
def LendsAt (σ : List Box) (ds ds' : List D) : Prop :=
  ∀ s vs, HeapOK σ s → RdDs σ s vs ds → ∃ (B : Nat → Prop) (M' : Mem), (∀ b, B b → ∃ L ∈ s.β, b ∈ L.bs) ∧ (∀ b o v, s.M b o = some v → M' b o = some v) ∧ (∀ b, ¬ B b → ∀ o, M' b o = s.M b o) ∧
    (∀ b o v, M' b o = some v → s.w.cell? ⟨b, o, none⟩ = some v) ∧ (∀ b, B b → ∀ o, s.M b o = none) ∧ RdDs σ { s with M := M' } vs ds'

theorem LendsAt.refl (σ : List Box) (ds : List D) : LendsAt σ ds ds := fun s vs hh hr => ⟨fun _ => False, s.M, fun _ h => h.elim, fun _ _ _ h => h, fun _ _ _ => rfl, hh.mem, fun _ h => h.elim, hr⟩

theorem LendsAt.step {σ : List Box} {ds ds' : List D} (h : LendsAt σ ds ds') (p lb : Nat) {u : Value} {k n : Nat} {es : Nat → List C} (hp : ds'[p]? = some (.e (.one (.v u)))) (hl : Lends σ lb u k n es) : LendsAt σ ds (ds'.set p (.e (.one (.c (.sl false k n es))))) := by
  classical
  intro s vs hh hr
  obtain ⟨B, M1, b1, b2, b3, b4, b5, b6⟩ := h s vs hh hr
  obtain ⟨L, M2, hL, m1, m2, m3, m4, m5⟩ := hl s hh
  have h1 : ∀ b o v, M1 b o = some v → (M1 b o).or (M2 b o) = some v := fun b o v hv => by rw [hv]; rfl
  have h2 : ∀ b o v, M2 b o = some v → (M1 b o).or (M2 b o) = some v := fun b o v hv => by
    cases e : M1 b o with
    | none => rw [hv]; rfl
    | some v' =>
      have q1 := b4 b o v' e
      have q2 := m3 b o v hv
      rw [q1] at q2; cases q2; rfl
  refine ⟨fun b => B b ∨ b ∈ L.bs, fun b o => (M1 b o).or (M2 b o), ?_, fun b o v hv => h1 b o v (b2 b o v hv), ?_, ?_, ?_, ?_⟩
  · rintro b (hb | hb)
    · exact b1 b hb
    · exact ⟨L, List.mem_of_getElem? hL, hb⟩
  · intro b hb o
    have q1 := b3 b (fun h => hb (.inl h)) o
    have q2 := m2 b (fun h => hb (.inr h)) o
    simp only [q1, q2, Option.or_self]
  · intro b o v hv
    cases e : M1 b o with
    | none => simp only [e, Option.none_or] at hv; exact m3 b o v hv
    | some v' => simp only [e, Option.some_or] at hv; cases hv; exact b4 b o v e
  · rintro b (hb | hb) o
    · exact b5 b hb o
    · exact m4 b hb o
  · have e1 : Ext σ { s with M := M1 } σ { s with M := fun b o => (M1 b o).or (M2 b o) } := ⟨h1, fun l B L hB hL => ⟨B, L, hB, hL, .refl _ _⟩⟩
    have r1 := b6.mono e1 hh.len
    obtain ⟨hvl, hvg⟩ := RdDs.get b6
    have hpl : p < vs.length := by rw [hvl]; exact (List.getElem?_eq_some_iff.1 hp).1
    have hvp : vs[p]? = some u := by
      have := hvg p
      rw [hp, List.getElem?_eq_getElem hpl] at this
      have := Rd.valEq (show Rd M1 vs[p] (.val u) from this)
      rw [List.getElem?_eq_getElem hpl, this]
    exact r1.setAt hvp (show RdD σ { s with M := fun b o => (M1 b o).or (M2 b o) } u (.e (.one (.c (.sl false k n es)))) from Rd.mono h2 m5)

set_option maxHeartbeats 1000000 in
theorem AK.callLendG {ι : Type} {fo : Operand} {xs : Array Operand} {ats : Array TypeId} {f : FuncId} {cap : List C} {cargs : List D} {res : ι → D} {σ1 : ι → List Box} (hev : EvI X f cargs [] res σ1) {ds' : List D}
    (hgd : wantE all φ o = true) (ho : o.op = .call { callee := .value fo, args := xs, argTypes := ats }) (hf : calleeE (absO φ fo) = some (f, cap)) (hl : LendsAt σ (xs.toList.map (absO φ) ++ capsD cap) ds')
    {ps : List Prop} (hargs : leDs ds' (renDs [] cargs) = some ps) (hps : AllP ps) (hin : inDs 0 cargs = true) (hfree : ∀ j, gndD (res j) = true) (hop : ∀ j, opqs (σ1 j) = true) (hN : dstOk N o.dst = true)
    (kk : ∀ j, AK X N Qf (.ops all rest :: K) .normal (putD o.dst (res j) φ) (σ ++ σ1 j)) : AK X N Qf (.ops all (o :: rest) :: K) .normal φ σ := by
  intro s a hfr hh b kx cs S idx hb hidx hQ
  cases idx with
  | nil => exact hidx.elim
  | cons i idx =>
  obtain ⟨hi, hidx⟩ := hidx
  have hfo := absO_ok hfr fo
  unfold calleeE at hf
  split at hf
  case h_2 => cases hf
  case h_1 f' cap' he =>
    cases hf
    rw [he] at hfo
    have hfo' := rdC hfo
    generalize hv : a.eval fo = fv at hfo'
    cases hfo' with
    | fn fs cs' hlf hlf' f1 f2 h1 h2 r1 r2 =>
      have hfs : fs = [] := List.eq_nil_of_length_eq_zero hlf
      subst hfs
      have hcaps : RdDs σ s cs' (capsD cap) := capsD_ok (fun j c hj => ⟨f2 j, h2 j (by rw [hlf']; exact (List.getElem?_eq_some_iff.1 hj).1), r2 j c hj⟩) hlf'
      have hall : RdDs σ s (xs.toList.map a.eval ++ cs') (xs.toList.map (absO φ) ++ capsD cap) := (RdDs_of (absO_ok hfr) xs.toList).append hcaps
      generalize hvs : xs.toList.map a.eval ++ cs' = vs at hall
      obtain ⟨⟨fn, hfn, hnum, hbody⟩, hcall⟩ := hev
      have hrun : ∀ w, (execOp a.eval o).run P w = .ok (.enter f vs.toArray) w := fun w => by rw [← hvs]; exact (run_callV ho hfn hnum hbody hv w).1
      have hev0 : ∀ w, (execOp a.eval o).events P w #[] = #[] := fun w => (run_callV ho hfn hnum hbody hv w).2
      refine .next rfl fun s1 hr1 => ?_
      have hr := X.relyC hr1
      have hh1 := hh.rely hr
      have f1' := hfr.rely hr hh
      have hall1 : RdDs σ s1 vs (xs.toList.map (absO φ) ++ capsD cap) := hall.mono hr.stepW.ext hh.len
      obtain ⟨B, M', hBL, m1, m2, m3, m4, m5⟩ := hl s1 vs hh1 hall1
      let sc : St := { s1 with β := [], M := M', own := fun b => s1.own b ∨ ∃ L ∈ s1.β, b ∈ L.bs }
      have hhc : HeapOK [] sc := by
        refine ⟨m3, rfl, by simp, by simp [sc], by simp [sc], fun b hb => ⟨?_, by simp [sc]⟩⟩
        rcases hb with hb | ⟨L', hL', hb⟩
        · exact (hh1.own b hb).1
        · exact hh1.lt L' hL' b hb
      have hg1 : Ghost s1 sc := by
        refine ⟨rfl, m1, fun b hb o => m2 b (fun hB => by obtain ⟨L, hL, hbL⟩ := hBL b hB; exact hb L hL hbL) o, m3, fun b hb => ?_⟩
        rcases hb with hb | ⟨L', hL', _⟩
        · exact hb
        · simp [sc] at hL'
      have hargs1 : RdDs [] sc vs cargs := by
        have a3 := leDs_ok hargs hps m5
        exact (RdDs.sub (ks := []) (σ := σ) (σ' := []) (s := { s1 with M := M' }) (β' := []) rfl rfl a3 hin).mono (σ := []) (s := { s1 with β := [], M := M' }) (σ' := []) (s' := sc) ⟨fun _ _ _ h => h, fun l B L hB hL => by simp at hB⟩ rfl
      refine ⟨_, s1, _, sg_enter hi (wantE_ok hgd _ _ _ f1') hb (hrun s1.w), ⟨⟨σ, σ, hh1, hh1, .refl _ _⟩, EvOK.seen (by rw [hev0]; exact .nil)⟩, .ghost hg1 (hcall sc vs hargs1 hhc S _ fun j fr v s2 hlv hres hh2 st2 => ?_)⟩
      refine arr_leave (cs := cs) (c := b.aT a (.inRegion all.toArray (i :: idx) :: kx)) hh2 hlv fun s3 hr3 => ?_
      have hh3 := hh2.rely hr3
      have st3 := st2.trans hr3.stepW
      have hres3 := hres.mono hr3.stepW.ext hh2.len
      classical
      let M5 : Mem := fun b o => if B b then s1.M b o else s3.M b o
      have h3own : ∀ b, (s1.own b ∨ ∃ L ∈ s1.β, b ∈ L.bs) → s3.own b := fun b hb => by rw [st3.own]; exact hb
      have hFg : Forget s3 { s3 with M := M5 } := by
        refine ⟨rfl, rfl, rfl, fun b o v hv => ?_, fun b o v hv => ?_⟩
        · simp only [M5] at hv
          split at hv
          · rename_i hb'; rw [m4 b hb'] at hv; cases hv
          · exact hv
        · by_cases hb' : B b
          · exact .inr (h3own b (.inr (hBL b hb')))
          · left; simp only [M5, hb', if_false]; exact hv
      refine .forget hFg ?_
      have hM5 : ∀ b o v, M5 b o = some v → s3.M b o = some v := hFg.less
      let s5 : St := { s3 with M := M5, β := s1.β ++ s3.β, own := s1.own }
      have hMm : ∀ b o v, s1.M b o = some v → M5 b o = some v := fun b o v hv => by
        by_cases hb' : B b
        · rw [m4 b hb'] at hv; cases hv
        · simp only [M5, hb', if_false]; exact st3.mem b o v (m1 b o v hv)
      have hMk : ∀ b, b < s1.w.heap.size → ∀ o, M5 b o = s1.M b o := fun b hb o => by
        by_cases hb' : B b
        · simp only [M5, hb', if_true]
        · simp only [M5, hb', if_false]
          rw [st3.memk b hb (by simp [sc]) o]; exact m2 b hb' o
      have hlen3 : s3.β.length = (σ1 j).length := hh3.len
      have ex : Ext σ s1 (σ ++ σ1 j) s5 := by
        refine ⟨hMm, fun l B L hB hL => ⟨B, L, ?_, ?_, .refl _ _⟩⟩
        · rw [List.getElem?_append_left (List.getElem?_eq_some_iff.1 hB).1, hB]
        · show (s1.β ++ s3.β)[l]? = _
          rw [List.getElem?_append_left (List.getElem?_eq_some_iff.1 hL).1, hL]
      have hsz : s1.w.heap.size ≤ s3.w.heap.size := st3.size
      have getL : ∀ (l : Nat) (L' : Loc), (s1.β ++ s3.β)[l]? = some L' → (l < s1.β.length ∧ s1.β[l]? = some L') ∨ (s1.β.length ≤ l ∧ s3.β[l - s1.β.length]? = some L') := fun l L' h => by
        rcases Nat.lt_or_ge l s1.β.length with hlt | hge
        · rw [List.getElem?_append_left hlt] at h; exact .inl ⟨hlt, h⟩
        · rw [List.getElem?_append_right hge] at h; exact .inr ⟨hge, h⟩
      have hh5 : HeapOK (σ ++ σ1 j) s5 := by
        refine ⟨fun b o v hv => hh3.mem b o v (hM5 b o v hv), by simp [s5, hh1.len, hlen3], ?_, ?_, ?_, ?_⟩
        · intro l B L' hB hL'
          rcases getL l L' hL' with ⟨hlt, h1⟩ | ⟨hge, h1⟩
          · rw [List.getElem?_append_left (by rw [← hh1.len]; exact hlt)] at hB
            exact (hh1.box l B L' hB h1).carry ex hh1.len fun b' hb' => ⟨st3.keep b' (.inr ⟨L', List.mem_of_getElem? h1, hb'⟩), hMk b' (hh1.lt L' (List.mem_of_getElem? h1) b' hb')⟩
          · rw [List.getElem?_append_right (by rw [← hh1.len]; exact hge), ← hh1.len] at hB
            have hbx := hh3.box _ B L' hB h1
            rcases opqs_mem (hop j) B (List.mem_of_getElem? hB) with ⟨H, rfl⟩ | rfl
            · obtain ⟨ch, c1, c2, c3, c4⟩ := hbx
              refine ⟨ch, c1, c2, c3, fun b' hb' o => ?_⟩
              cases hm : M5 b' o with
              | none => exact hm
              | some v => have := hM5 _ _ _ hm; rw [c4 b' hb'] at this; cases this
            · trivial
        · intro l l' L1 L2 hL1 hL2 b' hb1 hb2
          rcases getL l L1 hL1 with ⟨hlt, h1⟩ | ⟨hge, h1⟩ <;> rcases getL l' L2 hL2 with ⟨hlt2, h2⟩ | ⟨hge2, h2⟩
          · exact hh1.disj l l' L1 L2 h1 h2 b' hb1 hb2
          · exact absurd hb2 ((hh3.own b' (h3own b' (.inr ⟨L1, List.mem_of_getElem? h1, hb1⟩))).2 L2 (List.mem_of_getElem? h2))
          · exact absurd hb1 ((hh3.own b' (h3own b' (.inr ⟨L2, List.mem_of_getElem? h2, hb2⟩))).2 L1 (List.mem_of_getElem? h1))
          · have := hh3.disj _ _ L1 L2 h1 h2 b' hb1 hb2; omega
        · intro L' hL' b' hb'
          rcases List.mem_append.1 hL' with h | h
          · exact Nat.lt_of_lt_of_le (hh1.lt L' h b' hb') hsz
          · exact hh3.lt L' h b' hb'
        · intro b' hb'
          refine ⟨Nat.lt_of_lt_of_le (hh1.own b' hb').1 hsz, fun L' hL' => ?_⟩
          rcases List.mem_append.1 hL' with h | h
          · exact (hh1.own b' hb').2 L' h
          · exact (hh3.own b' (h3own b' (.inl hb'))).2 L' h
      have hg5 : Ghost { s3 with M := M5 } s5 := by
        refine ⟨rfl, fun _ _ _ h => h, fun _ _ _ => rfl, fun b o v hv => hh3.mem b o v (hM5 b o v hv), fun b' hb' => ?_⟩
        rcases hb' with hb' | ⟨L', hL', hb'⟩
        · exact .inl (h3own b' (.inl hb'))
        · rcases List.mem_append.1 hL' with h | h
          · exact .inl (h3own b' (.inr ⟨L', h, hb'⟩))
          · exact .inr ⟨L', h, hb'⟩
      have st5 : StepW σ s1 (σ ++ σ1 j) s5 := by
        refine ⟨hsz, fun b' hb' => st3.keep b' (.inl hb'), hMm, fun b' hb' _ o => hMk b' hb' o, fun L' hL' b' hb' => ?_, ex.box, st3.os, st3.tape, st3.output, rfl⟩
        rcases List.mem_append.1 hL' with h | h
        · exact .inr ⟨L', h, hb'⟩
        · rcases st3.bls L' h b' hb' with h1 | ⟨L0, h1, _⟩
          · exact .inl h1
          · simp [sc] at h1
      refine .ghost hg5 ?_
      have hfin := finish_aT (b := b) (a := a) (k := kx) all.toArray i idx v
      rw [hi] at hfin
      simp only [Option.bind_some] at hfin
      rw [hfin]
      refine kk j s5 _ ?_ hh5 b kx cs S idx hb hidx fun φ2 σ2 s6 a2 q f2 h2 st => hQ φ2 σ2 s6 a2 q f2 h2 ((hr.stepW.trans st5).trans st)
      cases hd : o.dst with
      | none => exact f1'.mono st5 hh1.len
      | some t => exact (f1'.mono st5 hh1.len).put (dstOk_lt hN t hd) (gndD_ok (hfree j) hres3)


set_option maxHeartbeats 1000000 in
theorem AK.callLend {ι : Type} {fo : Operand} {xs : Array Operand} {ats : Array TypeId} {f : FuncId} {cap : List C} {cargs : List D} {res : ι → D} {σ1 : ι → List Box} (hev : EvI X f cargs [] res σ1) (lb p : Nat) {u : Value} {k n : Nat} {es : Nat → List C}
    (hgd : wantE all φ o = true) (ho : o.op = .call { callee := .value fo, args := xs, argTypes := ats }) (hf : calleeE (absO φ fo) = some (f, cap)) (hp : (xs.toList.map (absO φ) ++ capsD cap)[p]? = some (.e (.one (.v u)))) (hl : Lends σ lb u k n es)
    {ps : List Prop} (hargs : leDs ((xs.toList.map (absO φ) ++ capsD cap).set p (.e (.one (.c (.sl false k n es))))) (renDs [] cargs) = some ps) (hps : AllP ps) (hin : inDs 0 cargs = true) (hfree : ∀ j, gndD (res j) = true) (hop : ∀ j, opqs (σ1 j) = true) (hN : dstOk N o.dst = true)
    (kk : ∀ j, AK X N Qf (.ops all rest :: K) .normal (putD o.dst (res j) φ) (σ ++ σ1 j)) : AK X N Qf (.ops all (o :: rest) :: K) .normal φ σ :=
  AK.callLendG hev hgd ho hf ((LendsAt.refl _ _).step p lb hp hl) hargs hps hin hfree hop hN kk

end
end Go.AM

/- As AmBuf, elements of k cells each. -/
namespace Go.AM

/-- A box that holds a slice's n elements, each of k cells. -/
def SBk (E : TypeId) (k : Nat) (bf : Buf) (n : Nat) (xs : List Value) : Value → (Nat → Option Obj) → Prop := fun v ch => v = .nilFunc ∧ (∀ x ∈ xs, isCell x = true) ∧ xs.length = n * k ∧ match bf with
  | .nil _ => n = 0 ∧ ch = fun _ => none
  | .row b cap => n ≤ cap ∧ cap ≤ 9223372036854775807 ∧ ∃ zs, (xs ++ zs).length = cap * k ∧ ch = fun b' => if b' = b then some (.cells (xs ++ zs).toArray E (0, 0)) else none

/-- The elements, read as what they are. -/
def valK (k : Nat) (xs : List Value) : Nat → List C := fun i => ((xs.drop (i * k)).take k).map .val

theorem valK_len {k n i : Nat} {xs : List Value} (hl : xs.length = n * k) (hi : i < n) : (valK k xs i).length = k := by
  have : i * k + k ≤ n * k := by rw [← Nat.succ_mul]; exact Nat.mul_le_mul_right _ hi
  simp [valK, hl]; omega

theorem valK_get {k i j : Nat} {xs : List Value} {c : C} (h : (valK k xs i)[j]? = some c) : ∃ u, xs[i * k + j]? = some u ∧ c = .val u := by
  simp only [valK, List.getElem?_map, List.getElem?_take, List.getElem?_drop] at h
  split at h
  · cases hx : xs[i * k + j]? with
    | none => rw [hx] at h; cases h
    | some u => rw [hx] at h; cases h; exact ⟨u, rfl, rfl⟩
  · cases h

theorem SBk.lookup {E : TypeId} {k b cap n : Nat} {xs : List Value} {v : Value} {ch : Nat → Option Obj} (h : SBk E k (.row b cap) n xs v ch) : ∃ zs, (xs ++ zs).length = cap * k ∧ ch b = some (.cells (xs ++ zs).toArray E (0, 0)) ∧ ∀ b', (ch b').isSome = true ↔ b' = b := by
  obtain ⟨_, _, _, _, _, zs, h1, h2⟩ := h
  refine ⟨zs, h1, by rw [h2]; simp, fun b' => ?_⟩
  rw [h2]
  by_cases e : b' = b <;> simp [e]

theorem Rd.valsK {M : Mem} {b cap k n : Nat} {xs : List Value} (hx : ∀ x ∈ xs, isCell x = true) (hl : xs.length = n * k) (hn : n ≤ cap) (hc : cap ≤ 9223372036854775807) (hM : ∀ o, M b o = xs[o]?) : Rd M (.slice (some ⟨b, 0, none⟩) n cap) (.sl false k n (valK k xs)) := by
  refine Rd.ofFlat (M := M) (k := k) (n := n) (es := valK k xs) (vs := xs) (a := some ⟨b, 0, none⟩) (b := b) (off := 0) (cap := cap) (t := false) ⟨hl, fun i hi => valK_len hl hi, fun i hi j c hj => ?_⟩ (fun _ => rfl) hn hc (by simp) (fun p u hp => by rw [hM, Nat.zero_add]; exact hp)
  obtain ⟨u, h1, rfl⟩ := valK_get hj
  exact ⟨u, h1, .val (hx u (List.mem_of_getElem? h1))⟩

section
variable {P : Program} {X : Cx P} {N : Nat} {Qf : Post} {K : List It} {φ : Fr} {σ : List Box} {all rest : List Oper} {o : Oper}

/-- What it holds can be lent. -/
theorem SBk.lends {E : TypeId} {k n lb : Nat} {bf : Buf} {xs : List Value} (hl : σ[lb]? = some (.opq (SBk E k bf n xs))) (es : Nat → List C) (hes : ∀ i, i < n → (es i).length = k ∧ ∀ M j c x, (es i)[j]? = some c → xs[i * k + j]? = some x → Rd M x c) : Lends σ lb (slV bf n) k n es := by
  intro s hh
  have hlσ : lb < σ.length := (List.getElem?_eq_some_iff.1 hl).1
  have hlβ : lb < s.β.length := by rw [hh.len]; exact hlσ
  have hL := List.getElem?_eq_getElem hlβ
  generalize s.β[lb] = L at hL
  obtain ⟨ch, hH, hheap, hbs, hM0⟩ := hh.box lb _ L hl hL
  cases bf with
  | nil a0 =>
    obtain ⟨_, _, _, rfl, _⟩ := hH
    exact ⟨L, s.M, hL, fun _ _ _ h => h, fun _ _ _ => rfl, hh.mem, hM0, Rd.nilSlice⟩
  | row b cap =>
    obtain ⟨zs, hzl, hchb, hchs⟩ := hH.lookup
    obtain ⟨hv0, hcell, hxl, hcap, hcb, _⟩ := hH
    have hbL : b ∈ L.bs := (hbs b).2 (by rw [hchb]; rfl)
    have hrow := hheap b _ hchb
    obtain ⟨c1, c2⟩ := hh.commit (b := b) (vs := xs) (hM0 b hbL) (fun o v ho => by
      simp only [World.cell?, hrow]
      have : o < xs.length := (List.getElem?_eq_some_iff.1 ho).1
      simpa [List.getElem?_append_left this] using ho)
    refine ⟨L, fun b' o => if b' = b then xs[o]? else s.M b' o, hL, c2, fun b' hb' o => if_neg (by rintro rfl; exact hb' hbL), c1.mem, hM0, ?_⟩
    refine Rd.ofFlat (k := k) (n := n) (es := es) (vs := xs) (a := some ⟨b, 0, none⟩) (b := b) (off := 0) (cap := cap) (t := false) ⟨hxl, fun i hi => (hes i hi).1, fun i hi j c hj => ?_⟩ (fun _ => rfl) hcap hcb (by simp) (fun p u hp => by simpa using hp)
    have hjk : j < k := by rw [← (hes i hi).1]; exact (List.getElem?_eq_some_iff.1 hj).1
    have hlt : i * k + j < xs.length := by
      rw [hxl]
      have : i * k + k ≤ n * k := by rw [← Nat.succ_mul]; exact Nat.mul_le_mul_right _ hi
      omega
    exact ⟨xs[i * k + j], List.getElem?_eq_getElem hlt, (hes i hi).2 _ j c _ hj (List.getElem?_eq_getElem hlt)⟩

set_option maxHeartbeats 1000000 in
/-- What is appended to such a slice. -/
theorem AK.appendBufK {k : Nat} {x y : Operand} {E : TypeId} {ie : TI} (h : AppOK P o x y E ie) (hs : ie.size = k) {d : Nat} (hd : o.dst = some d) (hg : o.guard = none) (hN : dstOk N o.dst = true) {l : Nat} {bf : Buf} {xs : List Value} {n : Nat} (hx : absO φ x = .e (.one (.v (slV bf n)))) 
    (hl : σ[l]? = some (.opq (SBk E k bf n xs))) {tx : Bool} {es' : Nat → List C} (hy : absO φ y = .e (.one (.c (.sl tx k 1 es')))) {xv : List Value} (hxv : xv.length = k) (hcx : ∀ (M : Mem) (v : Value) (j : Nat) (c : C), (es' 0)[j]? = some c → Rd M v c → xv[j]? = some v ∧ isCell v = true) (hb : (n + 1) * ie.bytes ≤ 140737488355328)
    (kk : ∀ bf' : Buf, AK X N Qf (.ops all rest :: K) .normal ((d, .e (.one (.v (slV bf' (n + 1))))) :: φ) (σ.set l (.opq (SBk E k bf' (n + 1) (xs ++ xv))))) : AK X N Qf (.ops all (o :: rest) :: K) .normal φ σ := by
  refine AK.hand (ι := Buf) (fun bf' => .e (.one (.v (slV bf' (n + 1))))) (fun bf' => σ.set l (.opq (SBk E k bf' (n + 1) (xs ++ xv)))) hg hN ?_ fun bf' => by rw [hd]; exact kk bf'
  intro s a hf hh
  obtain ⟨t, t2, i, i2, ho, hi, hdi, hi2, hd2⟩ := h.op
  have hlσ : l < σ.length := (List.getElem?_eq_some_iff.1 hl).1
  have hlβ : l < s.β.length := by rw [hh.len]; exact hlσ
  have hL := List.getElem?_eq_getElem hlβ
  generalize s.β[l] = L at hL
  obtain ⟨ch, hH, hheap, hbs, hM0⟩ := hh.box l _ L hl hL
  have hLm := List.mem_of_getElem? hL
  have hv := absO_ok hf x
  rw [hx] at hv
  have hv := Rd.valEq hv
  have hw := absO_ok hf y
  rw [hy] at hw
  have hw := rdC hw
  have hcell := hH.2.1
  have hxl := hH.2.2.1
  have nM : ∀ b, s.w.heap.size ≤ b → ∀ o, s.M b o = none := fun b hb o => by
    cases hm : s.M b o with
    | none => rfl
    | some v => have := hh.block hm; omega
  -- a new row
  have mk : ∀ (M' : Mem) (a0 : Option Addr) (cap : Nat), slV bf n = .slice a0 n cap → cap < n + 1 → HeapOK (σ.map fun _ => .dead) { s with M := M' } → (∀ b' o v, s.M b' o = some v → M' b' o = some v) →
      Rd M' (.slice a0 n cap) (.sl false k n (valK k xs)) → (∀ {es}, EvOK { s with M := M' } es → EvOK s es) →
      ∃ i nx s' v, (execOp a.eval o).run P s.w = .ok nx s'.w ∧ (nx = .value v ∨ (nx = .skip ∧ v = undef)) ∧ RdD (σ.set l (.opq (SBk E k i (n + 1) (xs ++ xv)))) s' v (.e (.one (.v (slV i (n + 1))))) ∧ HeapOK (σ.set l (.opq (SBk E k i (n + 1) (xs ++ xv)))) s' ∧ Step σ s (σ.set l (.opq (SBk E k i (n + 1) (xs ++ xv)))) s' ∧ EvOK s ((execOp a.eval o).events P s.w #[]) := by
    intro M' a0 cap hsl hcap hh0 hMM hR hE0
    have hw' : Rd ({ s with M := M' } : St).M (a.eval y) (.sl tx ie.size 1 es') := by rw [hs]; exact hw.mono hMM
    have hR' : Rd ({ s with M := M' } : St).M (.slice a0 n cap) (.sl false ie.size n (valK k xs)) := by rw [hs]; exact hR
    obtain ⟨vs, zs, ncap, f1, f2, f3, f4, f5⟩ := run_append_new (P := P) (s := { s with M := M' }) (ty := o.type) hi hdi hi2 hd2 h.elem hh0 hR' hw' hcap hb h.bytes
    have f6 := ev_append_new (P := P) (s := { s with M := M' }) (ty := o.type) hi hdi hi2 hd2 h.elem hh0 hR' hw' hcap hb h.bytes
    rw [hs] at f1 f4
    have hvl : vs.length = (n + 1) * k := f1.len
    have hcl : xs.length + k = (n + 1) * k := by rw [hxl, Nat.succ_mul]
    have hk0 : 0 < k := by have := h.size; omega
    have hat : ∀ j, j < k → ∃ v, vs[n * k + j]? = some v ∧ xv[j]? = some v ∧ isCell v = true := fun j hj => by
      have hw1 := f1.width n (by omega)
      have hwn : appF n (valK k xs) es' n = es' 0 := by simp [appF]
      rw [hwn] at hw1
      obtain ⟨v, v1, v2⟩ := f1.rd n (by omega) j ((es' 0)[j]'(by omega)) (by rw [hwn]; exact List.getElem?_eq_getElem (by omega))
      have := hcx _ _ j _ (List.getElem?_eq_getElem (by omega)) v2
      exact ⟨v, v1, this.1, this.2⟩
    have hvs : vs = xs ++ xv := by
      apply List.ext_getElem?
      intro q
      by_cases e : q < xs.length
      · have hi : q / k < n := Nat.div_lt_of_lt_mul (by rw [Nat.mul_comm, ← hxl]; exact e)
        have hqk : q / k * k + q % k = q := Nat.div_add_mod' q k
        have hwl := valK_len (k := k) hxl hi
        have hap : appF n (valK k xs) es' (q / k) = valK k xs (q / k) := by simp [appF, hi]
        have hjl : q % k < (valK k xs (q / k)).length := by rw [hwl]; exact Nat.mod_lt _ hk0
        obtain ⟨v, v1, v2⟩ := f1.rd (q / k) (by omega) (q % k) ((valK k xs (q / k))[q % k]) (by rw [hap]; exact List.getElem?_eq_getElem hjl)
        obtain ⟨u, u1, u2⟩ := valK_get (List.getElem?_eq_getElem hjl)
        rw [u2] at v2
        rw [hqk] at v1 u1
        rw [List.getElem?_append_left e, v1, u1, Rd.valEq v2]
      · rw [List.getElem?_append_right (by omega)]
        by_cases e2 : q < xs.length + k
        · obtain ⟨v, v1, v2, _⟩ := hat (q - xs.length) (by omega)
          rw [v2, ← v1]; congr 1; rw [← hxl]; omega
        · rw [List.getElem?_eq_none (by omega), List.getElem?_eq_none (by omega)]
    subst hvs
    have hcx' : ∀ x ∈ xv, isCell x = true := fun x hx => by
      obtain ⟨j, hj, rfl⟩ := List.getElem_of_mem hx
      obtain ⟨v, _, v2, v3⟩ := hat j (by omega)
      rw [List.getElem?_eq_getElem hj] at v2; cases v2; exact v3
    let w' : World := s.w.drew.alloc (.cells (xs ++ xv ++ zs).toArray E)
    have hnew : w'.heap[s.w.heap.size]? = some (.cells (xs ++ xv ++ zs).toArray E (0, 0)) := heap_alloc_at s.w.drew _
    have hsz : w'.heap.size = s.w.heap.size + 1 := by show (s.w.drew.heap.push _).size = _; simp
    obtain ⟨t1, t2'⟩ := hh.turn (l := l) (H' := SBk E k (.row s.w.heap.size ncap) (n + 1) (xs ++ xv)) (L' := ⟨L.v, [s.w.heap.size]⟩) (w' := w') hl hL rfl (by omega)
      (fun b hb _ => heap_alloc_lt s.w.drew _ hb) (fun b hb => by simp at hb; subst hb; exact .inr ⟨Nat.le_refl _, by omega⟩)
      ⟨fun b' => if b' = s.w.heap.size then some (.cells (xs ++ xv ++ zs).toArray E (0, 0)) else none, ⟨hH.1, fun x hx => by
        rcases List.mem_append.1 hx with hx | hx
        · exact hcell x hx
        · exact hcx' x hx, by simp only [List.length_append]; omega, f2, f3, zs, by rw [f4], rfl⟩, fun b o hb => by
        by_cases e : b = s.w.heap.size
        · subst e; simp only [if_true] at hb; cases hb; exact hnew
        · simp [e] at hb, fun b => by by_cases e : b = s.w.heap.size <;> simp [e]⟩ rfl rfl rfl
    refine ⟨.row s.w.heap.size ncap, .value (.slice (some ⟨s.w.heap.size, 0, none⟩) (n + 1) ncap), _, _, ?_, .inl rfl, Rd.val rfl, t1, t2', ?_⟩
    · rw [execOp_append ho, hv, hsl]
      simp only [Sem.run_bind, Sem.run_pure]
      have f5' : (Builtin.append_ #[t, t2] o.type #[.slice a0 n cap, a.eval y]).run P s.w = _ := f5
      rw [f5']
      rfl
    · rw [execOp_append ho, hv, hsl]
      exact ev_pureV (hE0 f6)
  cases bf with
  | nil a0 =>
    obtain ⟨_, _, _, rfl, _⟩ := hH
    refine mk s.M a0 0 rfl (by simp) (by have := hh.allDead; exact ⟨this.mem, this.len, this.box, this.disj, this.lt, this.own⟩) (fun _ _ _ h => h) Rd.nilSlice (fun h => h)
  | row b cap =>
    obtain ⟨zs, hzl, hchb, hchs⟩ := hH.lookup
    obtain ⟨hv0, _, _, hcap, hcb, _⟩ := hH
    have hbL : b ∈ L.bs := (hbs b).2 (by rw [hchb]; rfl)
    have hrow := hheap b _ hchb
    have hMb := hM0 b hbL
    have hblt : b < s.w.heap.size := hh.lt L hLm b hbL
    have hcc : ∀ o v, xs[o]? = some v → s.w.cell? ⟨b, o, none⟩ = some v := by
      intro o v ho
      simp only [World.cell?, hrow]
      have : o < xs.length := (List.getElem?_eq_some_iff.1 ho).1
      simpa [List.getElem?_append_left this] using ho
    obtain ⟨c1, c2⟩ := hh.commit (b := b) (vs := xs) hMb hcc
    have hE0 : ∀ {es : Array Event}, EvOK { s with M := fun b' o => if b' = b then xs[o]? else s.M b' o } es → EvOK s es := fun he =>
      he.uncommit (b := b) hLm hbL c2 fun b' o v hv => by
        by_cases e : b' = b
        · exact .inl e
        · simp only [e, if_false] at hv; exact .inr hv
    have hR := Rd.valsK (M := fun b' o => if b' = b then xs[o]? else s.M b' o) (b := b) (cap := cap) (xs := xs) hcell hxl hcap hcb (fun o => by simp)
    by_cases hfit : n + 1 ≤ cap
    · have hw' : Rd ({ s with M := fun b' o => if b' = b then xs[o]? else s.M b' o } : St).M (a.eval y) (.sl tx ie.size 1 es') := by rw [hs]; exact hw.mono c2
      obtain ⟨news, f1, f2⟩ := run_append_room2 (P := P) (s := { s with M := fun b' o => if b' = b then xs[o]? else s.M b' o }) (ty := o.type) (n := n) (b := b) (cap := cap) hi hdi hi2 hd2 h.elem c1 hrow (by rw [hs, hzl]) hw' hfit
      have f6 := ev_append_room (P := P) (s := s) (ty := o.type) (n := n) (b := b) (cap := cap) hi hdi hi2 hd2 h.elem hh hrow (by rw [hs, hzl]) (x := a.eval y) (tx := tx) (es' := es') (by rw [hs]; exact hw) hfit hLm hbL (fun o _ => hMb o)
      rw [hs] at f1 f2
      have hnl : news.length = k := by have := f1.len; omega
      have hw0 := f1.width 0 (by omega)
      have hat : ∀ j, j < k → ∃ v, news[j]? = some v ∧ xv[j]? = some v ∧ isCell v = true := fun j hj => by
        obtain ⟨v, v1, v2⟩ := f1.rd 0 (by omega) j ((es' 0)[j]'(by omega)) (List.getElem?_eq_getElem (by omega))
        have := hcx _ _ j _ (List.getElem?_eq_getElem (by omega)) v2
        simp only [Nat.zero_mul, Nat.zero_add] at v1
        exact ⟨v, v1, this.1, this.2⟩
      have hnews : news = xv := by
        apply List.ext_getElem?
        intro q
        by_cases e : q < k
        · obtain ⟨v, v1, v2, _⟩ := hat q e; rw [v1, v2]
        · rw [List.getElem?_eq_none (by omega), List.getElem?_eq_none (by omega)]
      subst hnews
      have hcx' : ∀ x ∈ news, isCell x = true := fun x hx => by
        obtain ⟨j, hj, rfl⟩ := List.getElem_of_mem hx
        obtain ⟨v, _, v2, v3⟩ := hat j (by omega)
        rw [List.getElem?_eq_getElem hj] at v2; cases v2; exact v3
      have hfk : n * k + k ≤ cap * k := by rw [← Nat.succ_mul]; exact Nat.mul_le_mul_right _ hfit
      have hzk : k ≤ zs.length := by simp only [List.length_append] at hzl; omega
      have hrow2 : ((xs ++ zs).take (n * k) ++ news ++ (xs ++ zs).drop (n * k + news.length)) = xs ++ news ++ zs.drop k := by
        rw [← hxl, hnl]
        simp [List.drop_append]
      rw [hrow2] at f2
      have hset : (s.w.setRow b (xs ++ news ++ zs.drop k).toArray).heap[b]? = some (.cells (xs ++ news ++ zs.drop k).toArray E (0, 0)) := setRow_heap s.w b _ _ E _ hrow
      have hoth : ∀ b', b' ≠ b → (s.w.setRow b (xs ++ news ++ zs.drop k).toArray).heap[b']? = s.w.heap[b']? := fun b' hb' => setRow_other s.w b b' _ hb'
      obtain ⟨t1, t2'⟩ := hh.turn (l := l) (H' := SBk E k (.row b cap) (n + 1) (xs ++ news)) (L' := L) (w' := s.w.setRow b (xs ++ news ++ zs.drop k).toArray) hl hL rfl (by simp)
        (fun b' hb' hn => hoth b' (by rintro rfl; exact hn hbL)) (fun b' hb' => .inl hb')
        ⟨fun b' => if b' = b then some (.cells (xs ++ news ++ zs.drop k).toArray E (0, 0)) else none, ⟨hv0, fun x hx => by
          rcases List.mem_append.1 hx with hx | hx
          · exact hcell x hx
          · exact hcx' x hx, by simp only [List.length_append]; rw [hxl, hnl, Nat.succ_mul], hfit, hcb, zs.drop k, by simp only [List.length_append, List.length_drop] at hzl ⊢; omega, rfl⟩, fun b' o hb' => by
          by_cases e : b' = b
          · subst e; simp only [if_true] at hb'; cases hb'; exact hset
          · simp [e] at hb', fun b' => by
          rw [hbs b', hchs b']
          by_cases e : b' = b <;> simp [e]⟩ rfl rfl rfl
      refine ⟨.row b cap, .value (.slice (some ⟨b, 0, none⟩) (n + 1) cap), _, _, ?_, .inl rfl, Rd.val rfl, t1, t2', ?_⟩
      · rw [execOp_append ho, hv]
        simp only [Sem.run_bind, Sem.run_pure, slV]
        have f2' : (Builtin.append_ #[t, t2] o.type #[.slice (some ⟨b, 0, none⟩) n cap, a.eval y]).run P s.w = _ := f2
        rw [f2']
        rfl
      · rw [execOp_append ho, hv]
        exact ev_pureV f6
    · exact mk _ (some ⟨b, 0, none⟩) cap rfl (by omega) c1 c2 hR hE0

/-- An empty slice is taken for the function's own, to be filled. -/
theorem AK.newBufK (t : Nat) (E : TypeId) (k : Nat) {k0 : Nat} {es : Nat → List C} {c : Code} (ht : look φ t = .e (.one (.c (.sl true k0 0 es))))
    (kk : ∀ bf : Buf, AK X N Qf (.code c :: K) .normal ((t, .e (.one (.v (slV bf 0)))) :: φ) (σ ++ [.opq (SBk E k bf 0 [])])) : AK X N Qf (.code c :: K) .normal φ σ := by
  refine AW.ghostI (fun s a hf hh => ?_) kk
  have hs := hf.slot t
  rw [ht] at hs
  obtain ⟨a0, cap, vs, hv, _, _, hcap, _, _⟩ := (rdC hs).flat
  have hcap := hcap rfl
  subst hcap
  obtain ⟨g1, g2⟩ := hh.addBox (B := .opq (SBk E k (.nil a0) 0 [])) (L := ⟨.nilFunc, []⟩) (.refl _ _) rfl hh ⟨fun _ => none, ⟨rfl, by simp, by simp, rfl, rfl⟩, by simp, by simp, by simp⟩ (by simp)
  refine ⟨.nil a0, { s with β := s.β ++ [⟨.nilFunc, []⟩] }, rfl, ⟨hf.size, hf.defers.imp fun _ h1 => h1.mono g2.ext, fun u => ?_⟩, g1, g2⟩
  simp only [look]
  cases hb : Nat.beq t u with
  | false => exact (hf.slot u).mono g2.ext hh.len
  | true =>
    have e := Nat.eq_of_beq_eq_true hb
    subst e
    show Rd _ _ _
    rw [hv]
    exact Rd.val rfl

/-- From now on the slice is but read. -/
theorem AK.commitBufK (t l : Nat) {E : TypeId} {k n : Nat} {bf : Buf} {xs : List Value} (es : Nat → List C) {c : Code} (ht : look φ t = .e (.one (.v (slV bf n)))) (hl : σ[l]? = some (.opq (SBk E k bf n xs))) (hes : ∀ i, i < n → (es i).length = k ∧ ∀ M j c x, (es i)[j]? = some c → xs[i * k + j]? = some x → Rd M x c)
    (kk : AK X N Qf (.code c :: K) .normal ((t, .e (.one (.c (.sl false k n es)))) :: φ) (σ.set l .dead)) : AK X N Qf (.code c :: K) .normal φ σ := by
  refine AK.ghost (fun s a hf hh => ?_) kk
  obtain ⟨L, M', hL, m1, m2, m3, m0, m4⟩ := SBk.lends hl es hes s hh
  have hlσ : l < σ.length := (List.getElem?_eq_some_iff.1 hl).1
  have hs := hf.slot t
  rw [ht] at hs
  have hv := Rd.valEq hs
  have ex : Ext σ s (σ.set l .dead) { s with M := M' } := by
    refine ⟨m1, fun l' B L' hB' hL' => ?_⟩
    by_cases e : l = l'
    · subst e
      rw [hl] at hB'; cases hB'
      exact ⟨.dead, L', by rw [List.getElem?_set_self hlσ], hL', rfl⟩
    · exact ⟨B, L', by rw [List.getElem?_set_ne e]; exact hB', hL', .refl _ _⟩
  have st : Step σ s (σ.set l .dead) { s with M := M' } := by
    refine ⟨Nat.le_refl _, fun _ _ _ => rfl, m1, fun b _ hn o => m2 b (hn L (List.mem_of_getElem? hL)) o, fun L h b hb => .inr ⟨L, h, hb⟩, ex.box, rfl, rfl, rfl, rfl⟩
  refine ⟨{ s with M := M' }, rfl, ⟨hf.size, hf.defers.imp fun _ h1 => h1.mono st.ext, fun u => ?_⟩, ⟨m3, by simp [hh.len], ?_, hh.disj, hh.lt, hh.own⟩, st⟩
  · simp only [look]
    cases hb : Nat.beq t u with
    | false => exact (hf.slot u).mono st.ext hh.len
    | true =>
      have e := Nat.eq_of_beq_eq_true hb
      subst e
      show Rd _ _ _
      rw [hv]
      exact m4
  · intro l' B L' hB' hL'
    by_cases e : l = l'
    · subst e
      rw [List.getElem?_set_self hlσ] at hB'; cases hB'; trivial
    · rw [List.getElem?_set_ne e] at hB'
      exact (hh.box l' B L' hB' hL').carry ex hh.len fun b hb => ⟨rfl, m2 b fun hc => e (hh.disj l l' L L' hL hL' b hc hb)⟩

end
end Go.AM

/- What a callee hands back as an append-only slice is the caller's own, to be written. -/
namespace Go.AM
open Go.Conc (G)

/-- The cells xs hold the n elements es of k cells each. -/
structure FlatV (k n : Nat) (es : Nat → List C) (xs : List Value) : Prop where
  len : xs.length = n * k
  wid : ∀ i, i < n → (es i).length = k
  at' : ∀ i, i < n → ∀ j c, (es i)[j]? = some c → ∃ x, xs[i * k + j]? = some x ∧ ∀ M, Rd M x c

theorem FlatV.rd {k n : Nat} {es : Nat → List C} {xs : List Value} (h : FlatV k n es xs) : ∀ i, i < n → (es i).length = k ∧ ∀ M j c x, (es i)[j]? = some c → xs[i * k + j]? = some x → Rd M x c := fun i hi =>
  ⟨h.wid i hi, fun M j c x hj hx => by obtain ⟨y, h1, h2⟩ := h.at' i hi j c hj; rw [hx] at h1; cases h1; exact h2 M⟩

def thawA (v : Value) : A → A
  | .vec 0 _ _ _ => .v v
  | a => a
def thawE (v : Value) : E1 → E1
  | .one a => .one (thawA v a)
  | e => e
def thawEs (v : Value) : List E1 → List E1
  | [] => []
  | a :: r => thawE v a :: thawEs v r
def thawD (v : Value) : D → D
  | .e x => .e (thawE v x)
  | .tup xs => .tup (thawEs v xs)
  | .any => .any

def okThawA (n : Nat) : A → Bool
  | .vec 0 _ n' _ => Nat.beq n' n
  | a => gndA a
def okThawE (n : Nat) : E1 → Bool
  | .one a => okThawA n a
  | e => gndE e
def okThawEs (n : Nat) : List E1 → Bool
  | [] => true
  | a :: r => match okThawE n a with | true => okThawEs n r | false => false
def okThawD (n : Nat) : D → Bool
  | .e x => okThawE n x
  | .tup xs => okThawEs n xs
  | .any => true

section
variable {σ' : List Box} {s s' : St} {E : TypeId} {k n : Nat} {es : Nat → List C} {L : Loc}

theorem thawA_ok (hL : s.β[0]? = some L) {v : Value} {a : A} (h : okThawA n a = true) (r : RdA [Box.vec E k n es] s v a) : RdA σ' s' v (thawA L.v a) := by
  cases a with
  | c x => exact gndC_ok h r
  | any => exact r
  | vec l k' n' es' =>
    cases l with
    | zero =>
      obtain ⟨r1, _, r3⟩ := r
      have r3 := r3 E k n es rfl
      have e := Nat.eq_of_beq_eq_true h
      obtain ⟨L', h1, h2⟩ := r3.2 e.symm
      rw [hL] at h1; cases h1
      show Rd _ _ _
      rw [h2]
      exact .val (h2 ▸ r1.cell)
    | succ l => simp [okThawA, gndA] at h
  | ptr => simp [okThawA, gndA] at h
  | ref => simp [okThawA, gndA] at h

theorem thawE_ok (hL : s.β[0]? = some L) {v : Value} {x : E1} (h : okThawE n x = true) (r : RdE [Box.vec E k n es] s v x) : RdE σ' s' v (thawE L.v x) := by
  cases x with
  | one a => exact thawA_ok hL h r
  | agg cs => exact gndE_ok (x := .agg cs) h r

theorem thawEs_ok (hL : s.β[0]? = some L) : ∀ {vs : List Value} {cs : List E1}, okThawEs n cs = true → RdEs [Box.vec E k n es] s vs cs → RdEs σ' s' vs (thawEs L.v cs)
  | [], [], _, _ => trivial
  | [], _ :: _, _, r => r.elim
  | _ :: _, [], _, r => r.elim
  | v :: vs, c :: cs, h, r => by
    simp only [okThawEs] at h
    cases ha : okThawE n c with
    | false => simp [ha] at h
    | true => simp only [ha] at h; exact ⟨thawE_ok hL ha r.1, thawEs_ok hL h r.2⟩

theorem thawD_ok (hL : s.β[0]? = some L) {v : Value} {d : D} (h : okThawD n d = true) (r : RdD [Box.vec E k n es] s v d) : RdD σ' s' v (thawD L.v d) := by
  cases d with
  | e x => exact thawE_ok hL h r
  | tup xs => obtain ⟨vs, h1, h2⟩ := r; exact ⟨vs, h1, thawEs_ok hL h h2⟩
  | any => trivial
end

theorem List.take_getElem? {α : Type} {l : List α} {n i : Nat} (h : i < n) : (l.take n)[i]? = l[i]? := by simp [h]

/-- Are all results slots? -/
def tmpOnly : List ResultVar → Bool
  | [] => true
  | .tmp _ :: r => tmpOnly r
  | .cell _ _ :: _ => false

theorem tmpOnly_run {P : Program} {a : Act} : ∀ {rs : List ResultVar}, tmpOnly rs = true → ∃ vs, (∀ w, (rs.mapM (resSem a)).run P w = Result.ok vs w) ∧ Still P (rs.mapM (resSem a))
  | [], _ => ⟨[], by simp, by rw [List.mapM_nil]; exact .pure⟩
  | .tmp t :: r, h => by
    obtain ⟨vs, h1, h2⟩ := tmpOnly_run (P := P) (a := a) (rs := r) h
    refine ⟨a.tmps.getD t undef :: vs, fun w => ?_, ?_⟩
    · simp only [List.mapM_cons, Sem.run_bind, resSem, Sem.run_pure, Result.andThen_ok, h1]
    · rw [List.mapM_cons]; exact .bind .pure fun _ => .bind h2 fun _ => .pure

theorem Leav.tmp {P : Program} {f : FuncId} {fn : Func} {fr : Frame} {v : Value} {s s' : St} (h : Leav P f fr v s) (hf : P.funcs[f]? = some fn) (ht : tmpOnly fn.results.toList = true) (hm : ∀ b o u, s.M b o = some u → s.w.cell? ⟨b, o, none⟩ = some u) : Leav P f fr v s' := by
  obtain ⟨h1, h2, h3, h4, fn', h5, h6⟩ := h
  have e : fn' = fn := by rw [h1, hf] at h5; cases h5; rfl
  subst e
  let a : Act := { tmps := fr.tmps, defers := [] }
  obtain ⟨vs, k1, k2⟩ := tmpOnly_run (P := P) (a := a) ht
  have e1 : ∀ w, (fn'.results.mapM (resSem a)).run P w = Result.ok vs.toArray w := fun w => by
    rw [Array.mapM_eq_mapM_toList]
    simp only [Sem.run_map, k1, Result.andThen_ok]
  have e2 : ∀ w, (results fn' fr.tmps).run P w = .ok (if h : vs.toArray.size = 1 then vs.toArray[0] else .tuple vs.toArray) w := fun w => by
    unfold results
    rw [Sem.run_bind]
    refine (congrArg (fun r => Result.andThen r _) (e1 w)).trans ?_
    simp
  have e3 : Still P (results fn' fr.tmps) := by
    unfold results
    have e : Still P (fn'.results.mapM (resSem a)) := by
      rw [Array.mapM_eq_mapM_toList]; exact .map k2
    exact .bind e fun _ => .pure
  have hv := (h6 s.w hm).1
  rw [e2] at hv
  cases hv
  exact ⟨h1, h2, h3, h4, fn', h5, fun w _ => ⟨e2 w, fun e he => by rw [e3 w #[]] at he; simp at he⟩⟩

set_option maxHeartbeats 1000000 in
/-- What is handed back is the caller's own. -/
theorem Ev.thaw {P : Program} {X : Cx P} {f : FuncId} {args : List D} {res : D} {E : TypeId} {k n : Nat} {es : Nat → List C} (h : Ev X f args [] res [.vec E k n es]) {fn : Func} (hf : P.funcs[f]? = some fn) (ht : tmpOnly fn.results.toList = true) (hok : okThawD n res = true)
    (hes : ∀ i, i < n → (es i).length = k ∧ ∀ c ∈ es i, gndC c = true) :
    EvI (ι := { q : Buf × List Value // FlatV k n es q.2 }) X f args [] (fun q => thawD (slV q.1.1 n) res) (fun q => [.opq (SBk E k q.1.1 n q.1.2)]) := by
  refine ⟨h.1, fun s vs hr hh S cs hS => h.2 s vs hr hh S cs fun fr v s' hl hres hh' st => ?_⟩
  have hβ0 : s.β = [] := List.eq_nil_of_length_eq_zero hh.len
  have hlen : s'.β.length = 1 := hh'.len
  obtain ⟨L, hβ⟩ : ∃ L, s'.β = [L] := by
    match hq : s'.β with
    | [L] => exact ⟨L, rfl⟩
    | [] => rw [hq] at hlen; cases hlen
    | _ :: _ :: _ => rw [hq] at hlen; simp at hlen
  have hL : s'.β[0]? = some L := by rw [hβ]; rfl
  obtain ⟨hb1, hb2⟩ := hh'.box 0 _ L rfl hL
  rcases hb2 with ⟨⟨hbs, hn0⟩, htight⟩ | ⟨b, cap, cells, hLe, hheap, hcl, hfree⟩
  · subst hn0
    obtain ⟨a, cap, vs0, hv, hcap, hcb, htc, _⟩ := htight.flat
    have hcap0 : cap = 0 := htc rfl
    subst hcap0
    let s3 : St := { s' with β := [⟨.nilFunc, []⟩] }
    have hg : Ghost s' s3 := ⟨rfl, fun _ _ _ h => h, fun _ _ _ => rfl, hh'.mem, fun b hb => by
      rcases hb with hb | ⟨L', hL', hb⟩
      · exact .inl hb
      · simp [s3] at hL'; subst hL'; simp at hb⟩
    have hfl : FlatV k 0 es [] := ⟨by simp, fun i hi => by omega, fun i hi => by omega⟩
    refine .ghost hg (hS ⟨(.nil a, []), hfl⟩ fr v s3 (hl.tmp hf ht hh'.mem) ?_ ?_ ?_)
    · have := thawD_ok (σ' := [Box.opq (SBk E k (.nil a) 0 [])]) (s' := s3) hL hok hres
      rw [hv] at this
      exact this
    · refine ⟨hh'.mem, rfl, fun l B L' hB hL' => ?_, ?_, by simp [s3], fun b hb => ⟨(hh'.own b hb).1, by simp [s3]⟩⟩
      · cases l with
        | zero => cases hB; cases hL'; exact ⟨fun _ => none, ⟨rfl, by simp, by simp, rfl, rfl⟩, by simp, by simp, by simp⟩
        | succ l => simp at hB
      · intro l l' L1 L2 h1 h2 b hb1 hb2
        cases l with
        | zero => cases h1; simp at hb1
        | succ l => simp [s3] at h1
    · refine ⟨st.size, st.keep, st.mem, st.memk, fun L' hL' b hb => ?_, fun l B L' hB => by simp at hB, st.os, st.tape, st.output, st.own⟩
      simp [s3] at hL'; subst hL'; simp at hb
  · subst hLe
    have hbm : b ∈ (⟨.slice (some ⟨b, 0, none⟩) n cap, [b]⟩ : Loc).bs := by simp
    have hbnew : s.w.heap.size ≤ b := by
      rcases st.bls _ (by rw [hβ]; simp) b hbm with h1 | ⟨L0, h1, _⟩
      · exact h1
      · rw [hβ0] at h1; simp at h1
    have hblt : b < s'.w.heap.size := hh'.lt _ (by rw [hβ]; simp) b hbm
    obtain ⟨a1, cap1, vs1, hv1, hcap1, hcb1, _, hF, hm⟩ := hb1.flat
    cases hv1
    have hvl : vs1.length = n * k := hF.len
    have hvat : ∀ p u, vs1[p]? = some u → cells[p]? = some u := fun p u hp => by
      obtain ⟨b1, off1, e, hm1⟩ := hm p u hp
      cases e
      have := hh'.mem _ _ _ hm1
      simp only [World.cell?, hheap] at this
      simpa using this
    have hnk : n * k ≤ cells.length := by rw [hcl]; exact Nat.mul_le_mul_right _ hcap1
    have htake : cells.take (n * k) = vs1 := by
      apply List.ext_getElem?
      intro p
      by_cases hp : p < n * k
      · rw [List.take_getElem? hp, List.getElem?_eq_getElem (by omega : p < vs1.length), hvat p _ (List.getElem?_eq_getElem (by omega))]
      · rw [List.getElem?_eq_none (by simp; omega), List.getElem?_eq_none (by omega)]
    have hrow : vs1 ++ cells.drop (n * k) = cells := by rw [← htake, List.take_append_drop]
    have hfl : FlatV k n es vs1 := by
      refine ⟨hvl, fun i hi => (hes i hi).1, fun i hi j c hj => ?_⟩
      obtain ⟨u, u1, u2⟩ := hF.rd i hi j c hj
      exact ⟨u, u1, fun M => gndC_ok ((hes i hi).2 c (List.mem_of_getElem? hj)) u2⟩
    have hcell : ∀ x ∈ vs1, isCell x = true := fun x hx => by
      obtain ⟨p, hp, rfl⟩ := List.getElem_of_mem hx
      have hk : 0 < k := by
        rcases Nat.eq_zero_or_pos k with e | e
        · subst e; simp at hvl; rw [hvl] at hp; simp at hp
        · exact e
      have hi : p / k < n := Nat.div_lt_of_lt_mul (by rw [Nat.mul_comm, ← hvl]; exact hp)
      have hqk : p / k * k + p % k = p := Nat.div_add_mod' p k
      have hj : p % k < (es (p / k)).length := by rw [(hes _ hi).1]; exact Nat.mod_lt _ hk
      obtain ⟨u, u1, u2⟩ := hfl.at' _ hi _ _ (List.getElem?_eq_getElem hj)
      rw [hqk, List.getElem?_eq_getElem hp] at u1
      cases u1
      exact (u2 s.M).cell
    have hMnew : ∀ b' o v', s.M b' o = some v' → b' ≠ b := fun b' o v' hm' e => by
      have := hh.block hm'; omega
    let M3 : Mem := fun b' o => if b' = b then none else s'.M b' o
    let s1 : St := { s' with β := [], own := fun x => s'.own x ∨ x = b }
    let s2 : St := { s1 with M := M3 }
    let s3 : St := { s' with β := [⟨.nilFunc, [b]⟩], M := M3 }
    have hM3 : ∀ b' o v', M3 b' o = some v' → s'.M b' o = some v' := fun b' o v' h' => by
      simp only [M3] at h'; split at h'
      · cases h'
      · exact h'
    have hg1 : Ghost s' s1 := ⟨rfl, fun _ _ _ h => h, fun _ _ _ => rfl, hh'.mem, fun b' hb' => by
      rcases hb' with (hb' | hb') | ⟨L', hL', _⟩
      · exact .inl hb'
      · exact .inr ⟨_, by rw [hβ]; simp; rfl, by rw [hb']; simp⟩
      · simp [s1] at hL'⟩
    have hf2 : Forget s1 s2 := ⟨rfl, rfl, rfl, hM3, fun b' o v' h' => by
      by_cases e : b' = b
      · exact .inr (.inr e)
      · left; simp only [s2, M3, e, if_false]; exact h'⟩
    have hg3 : Ghost s2 s3 := ⟨rfl, fun _ _ _ h => h, fun _ _ _ => rfl, fun b' o v' h' => hh'.mem _ _ _ (hM3 _ _ _ h'), fun b' hb' => by
      rcases hb' with hb' | ⟨L', hL', hb'⟩
      · exact .inl (.inl hb')
      · simp [s3] at hL'; subst hL'; simp at hb'; exact .inl (.inr hb')⟩
    refine .ghost hg1 (.forget hf2 (.ghost hg3 (hS ⟨(.row b cap, vs1), hfl⟩ fr v s3 (hl.tmp hf ht hh'.mem) ?_ ?_ ?_)))
    · exact thawD_ok (L := ⟨.slice (some ⟨b, 0, none⟩) n cap, [b]⟩) hL hok hres
    · refine ⟨fun b' o v' h' => hh'.mem _ _ _ (hM3 _ _ _ h'), rfl, fun l B L' hB hL' => ?_, ?_, fun L' hL' b' hb' => ?_, fun b' hb' => ⟨(hh'.own b' hb').1, fun L' hL' => ?_⟩⟩
      · cases l with
        | zero =>
          cases hB; cases hL'
          refine ⟨fun b' => if b' = b then some (.cells (vs1 ++ cells.drop (n * k)).toArray E (0, 0)) else none, ⟨rfl, hcell, hvl, hcap1, hcb1, cells.drop (n * k), ?_, rfl⟩, fun b' o hb' => ?_, fun b' => ?_, fun b' hb' o => ?_⟩
          · exact (congrArg List.length hrow).trans hcl
          · by_cases e : b' = b
            · subst e; simp only [if_true] at hb'; cases hb'
              rw [hrow]; exact hheap
            · simp [e] at hb'
          · by_cases e : b' = b <;> simp [e]
          · simp at hb'; subst hb'; simp [s3, M3]
        | succ l => simp at hB
      · intro l l' L1 L2 h1 h2 b' hb1 hb2
        cases l with
        | zero => cases l' with
          | zero => rfl
          | succ l' => simp [s3] at h2
        | succ l => simp [s3] at h1
      · simp [s3] at hL'; subst hL'; simp at hb'; subst hb'; exact hblt
      · simp [s3] at hL'; subst hL'
        have := (hh'.own b' hb').2 _ (by rw [hβ]; simp; rfl)
        simpa using this
    · refine ⟨st.size, st.keep, fun b' o v' h' => ?_, fun b' hb' hn o => ?_, fun L' hL' b' hb' => ?_, fun l B L' hB => by simp at hB, st.os, st.tape, st.output, st.own⟩
      · simp only [s3, M3, if_neg (hMnew b' o v' h')]; exact st.mem _ _ _ h'
      · have : b' ≠ b := by omega
        simp only [s3, M3, if_neg this]; exact st.memk b' hb' hn o
      · simp [s3] at hL'; subst hL'; simp at hb'; subst hb'; exact .inl hbnew
end Go.AM

/- Buffers are measured, written, made; boxes change places. -/
namespace Go.AM
open Go.Conc (G)

section
variable {P : Program} {X : Cx P} {N : Nat} {Qf : Post} {K : List It} {φ : Fr} {σ : List Box} {all rest : List Oper} {o : Oper}

/-- What follows from how the boxes lie may be taken for known. -/
theorem AK.fact {p : Prop} (h : ∀ s, HeapOK σ s → p) {c : Code} (k : p → AK X N Qf (.code c :: K) .normal φ σ) : AK X N Qf (.code c :: K) .normal φ σ :=
  fun s a hf hh => k (h s hh) s a hf hh
theorem AK.factO {p : Prop} (h : ∀ s, HeapOK σ s → p) (k : p → AK X N Qf (.ops all rest :: K) .normal φ σ) : AK X N Qf (.ops all rest :: K) .normal φ σ :=
  fun s a hf hh => k (h s hh) s a hf hh

theorem SBk.len {E : TypeId} {k n l : Nat} {bf : Buf} {xs : List Value} (hl : σ[l]? = some (.opq (SBk E k bf n xs))) (s : St) (hh : HeapOK σ s) : xs.length = n * k ∧ n ≤ 9223372036854775807 ∧ (0 < n → ∃ b cap, bf = .row b cap) ∧ ∀ a, bf = .nil a → n = 0 := by
  have hlβ : l < s.β.length := by rw [hh.len]; exact (List.getElem?_eq_some_iff.1 hl).1
  obtain ⟨ch, hH, _⟩ := hh.box l _ _ hl (List.getElem?_eq_getElem hlβ)
  cases bf with
  | nil a => obtain ⟨_, _, h3, rfl, _⟩ := hH; exact ⟨h3, by omega, fun h => by omega, fun _ _ => rfl⟩
  | row b cap => obtain ⟨_, _, h3, h4, h5, _⟩ := hH; exact ⟨h3, by omega, fun _ => ⟨b, cap, rfl⟩, fun a e => by cases e⟩

/-- How long a buffer is. -/
theorem AK.lenBufK {T : List (Nat × TI)} (hT : TOK P T) (l : Nat) {x : Operand} {ats : Array TypeId} {t : TypeId} {i : TI} {E0 E : TypeId} {k n : Nat} {bf : Buf} {xs : List Value} (ho : o.op = .call { callee := .builtin .len, args := #[x], argTypes := ats }) (ht : ats[0]? = some t) (hi : lookT T t = some i) (hd : i.desc = .slice E0)
    (hx : absO φ x = .e (.one (.v (slV bf n)))) (hl : σ[l]? = some (.opq (SBk E k bf n xs))) (hg : o.guard = none) (hN : dstOk N o.dst = true)
    (kk : AK X N Qf (.ops all rest :: K) .normal (putD o.dst (.e (.one (.c (.int .i64 n)))) φ) σ) : AK X N Qf (.ops all (o :: rest) :: K) .normal φ σ := by
  refine AK.hand (ι := Unit) (fun _ => .e (.one (.c (.int .i64 n)))) (fun _ => σ) hg hN (fun s a hf hh => ?_) fun _ => kk
  obtain ⟨_, h2, _, h4⟩ := SBk.len hl s hh
  have hv := absO_ok hf x
  rw [hx] at hv
  have hv := Rd.valEq hv
  have hu := (hT t i hi).run_underlying (w := s.w)
  rw [hd] at hu
  have ha0 : ats[0]? = some t := ht
  have hlen : ∃ a0 cap, slV bf n = .slice a0 n cap := by
    cases bf with
    | nil a0 => rw [h4 a0 rfl]; exact ⟨a0, 0, rfl⟩
    | row b cap => exact ⟨_, cap, rfl⟩
  obtain ⟨a0, cap, hsl⟩ := hlen
  rw [hsl] at hv
  refine ⟨(), .value (.int .i64 n), s, .int .i64 n, ?_, .inl rfl, Rd.int (by simp only [inR]; omega), hh, .refl _ _, ?_⟩
  · simp [execOp, ho, resolve, invoke, builtin, Builtin.len_, hv, hu, goInt, ha0]
  · have : (execOp a.eval o).events P s.w #[] = #[] := by
      simp [execOp, ho, resolve, invoke, builtin, Builtin.len_, hv, hu, goInt, ha0]
    rw [this]; exact .nil

/-- Where an element of a buffer lies. -/
theorem AK.elemV {T : List (Nat × TI)} (hT : TOK P T) {t : TypeId} {x y : Operand} {i ie : TI} {E : TypeId} {b n cap m : Nat} {j : Int} {kd : IntKind} (h : o.op = .indexAddr t x y) (hi : lookT T t = some i) (hd : i.desc = .slice E) (hE : lookT T E = some ie)
    (hx : absO φ x = .e (.one (.v (.slice (some ⟨b, 0, none⟩) n cap)))) (hy : absO φ y = .e (.one (.c (.int kd j)))) (hj : j = m) (hml : m < n) (hg : o.guard = none) (hN : dstOk N o.dst = true)
    (kk : AK X N Qf (.ops all rest :: K) .normal (putD o.dst (.e (.one (.v (.pointer (some ⟨b, m * ie.size, none⟩))))) φ) σ) : AK X N Qf (.ops all (o :: rest) :: K) .normal φ σ := by
  refine AK.hand (ι := Unit) (fun _ => .e (.one (.v (.pointer (some ⟨b, m * ie.size, none⟩))))) (fun _ => σ) hg hN (fun s a hf hh => ?_) fun _ => kk
  have hv := absO_ok hf x
  rw [hx] at hv
  have hv := Rd.valEq hv
  have hw := absO_ok hf y
  rw [hy] at hw
  have hw := rdC hw
  generalize hvy : a.eval y = vy at hw
  cases hw
  have hu := (hT t i hi).run_underlying (w := s.w)
  rw [hd] at hu
  subst hj
  refine ⟨(), .value (.pointer (some ⟨b, m * ie.size, none⟩)), s, _, ?_, .inl rfl, Rd.val rfl, hh, .refl _ _, ?_⟩
  · simp [execOp, h, hv, hvy, Instr.indexAt, asIntOf, hu, (hT E ie hE).run_sizeOf, add_addr, hml]
  · have : (execOp a.eval o).events P s.w #[] = #[] := by
      simp [execOp, h, hv, hvy, Instr.indexAt, asIntOf, hu, add_addr, hml]
    rw [this]; exact .nil

/-- A field of an element. -/
theorem AK.fieldV {T : List (Nat × TI)} (hT : TOK P T) {t : TypeId} {x : Operand} {f : Nat} {b off k : Nat} {j : TI} (h : o.op = .fieldAddr t x f) (hf' : fieldE T t f = some (k, j)) (hx : absO φ x = .e (.one (.v (.pointer (some ⟨b, off, none⟩))))) (hg : o.guard = none) (hN : dstOk N o.dst = true)
    (kk : AK X N Qf (.ops all rest :: K) .normal (putD o.dst (.e (.one (.v (.pointer (some ⟨b, off + k, none⟩))))) φ) σ) : AK X N Qf (.ops all (o :: rest) :: K) .normal φ σ := by
  refine AK.hand (ι := Unit) (fun _ => .e (.one (.v (.pointer (some ⟨b, off + k, none⟩))))) (fun _ => σ) hg hN (fun s a hf hh => ?_) fun _ => kk
  have hv := absO_ok hf x
  rw [hx] at hv
  have hv := Rd.valEq hv
  refine ⟨(), .value (.pointer (some ⟨b, off + k, none⟩)), s, _, by simp [execOp, h, hv, run_fieldAt hT hf'], .inl rfl, Rd.val rfl, hh, .refl _ _, ?_⟩
  have : (execOp a.eval o).events P s.w #[] = #[] := by simp [execOp, h, hv, ev_fieldAt hT hf']
  rw [this]; exact .nil

def gndAs : List A → Bool
  | [] => true
  | .c x :: r => match gndC x with | true => gndAs r | false => false
  | _ => false

/-- Values that are these, whatever the memory. -/
def ValsOf (vs : List Value) (cs : List A) : Prop := vs.length = cs.length ∧ ∀ (j : Nat) (c : C), cs[j]? = some (A.c c) → ∃ v, vs[j]? = some v ∧ ∀ M, Rd M v c

theorem ValsOf.of {σ : List Box} {s : St} : ∀ {vs : List Value} {cs : List A}, gndAs cs = true → RdL σ s vs cs → ValsOf vs cs
  | [], [], _, _ => ⟨rfl, fun j c h => by simp at h⟩
  | [], _ :: _, _, r => r.elim
  | _ :: _, [], _, r => r.elim
  | v :: vs, .c x :: cs, h, r => by
    simp only [gndAs] at h
    cases hg : gndC x with
    | false => simp [hg] at h
    | true =>
      simp only [hg] at h
      obtain ⟨h1, h2⟩ := ValsOf.of h r.2
      refine ⟨by simp [h1], fun j c hj => ?_⟩
      cases j with
      | zero => simp at hj; subst hj; exact ⟨v, rfl, fun M => gndC_ok hg r.1⟩
      | succ j => simp at hj; obtain ⟨u, u1, u2⟩ := h2 j c hj; exact ⟨u, by simpa using u1, u2⟩
  | _ :: _, .ptr _ _ :: _, h, _ => by simp [gndAs] at h
  | _ :: _, .vec _ _ _ _ :: _, h, _ => by simp [gndAs] at h
  | _ :: _, .ref _ :: _, h, _ => by simp [gndAs] at h
  | _ :: _, .any :: _, h, _ => by simp [gndAs] at h

theorem RdL.isCell {σ : List Box} {s : St} : ∀ {vs : List Value} {cs : List A}, RdL σ s vs cs → ∀ v ∈ vs, AM.isCell v = true
  | [], [], _, v, h => by simp at h
  | [], _ :: _, r, _, _ => r.elim
  | _ :: _, [], r, _, _ => r.elim
  | u :: vs, c :: cs, r, v, h => by
    rcases List.mem_cons.1 h with rfl | h
    · exact RdA.cell r.1
    · exact RdL.isCell r.2 v h

/-- A store into a buffer. -/
theorem AK.storeV {T : List (Nat × TI)} (hT : TOK P T) (l : Nat) {t : TypeId} {x y : Operand} {E : TypeId} {k n b cap off : Nat} {xs : List Value} {new : List A} {i : TI} (h : o.op = .store t x y) (hi : lookT T t = some i) (hx : absO φ x = .e (.one (.v (.pointer (some ⟨b, off, none⟩))))) (hy : cellsD (absO φ y) = some new) (hnew : new.length = i.size) (hgn : gndAs new = true)
    (hl : σ[l]? = some (.opq (SBk E k (.row b cap) n xs))) (hoff : off + new.length ≤ xs.length) (hg : o.guard = none) (hN : dstOk N o.dst = true)
    (kk : ∀ vs, ValsOf vs new → AK X N Qf (.ops all rest :: K) .normal (putD o.dst .any φ) (σ.set l (.opq (SBk E k (.row b cap) n (xs.take off ++ vs ++ xs.drop (off + vs.length)))))) : AK X N Qf (.ops all (o :: rest) :: K) .normal φ σ := by
  refine AK.hand (ι := { vs : List Value // ValsOf vs new }) (fun _ => .any) (fun vs => σ.set l (.opq (SBk E k (.row b cap) n (xs.take off ++ vs.1 ++ xs.drop (off + vs.1.length))))) hg hN (fun s a hf hh => ?_) fun vs => kk vs.1 vs.2
  have hv := absO_ok hf x
  rw [hx] at hv
  have hv := Rd.valEq hv
  have hy' := cellsD_ok hy (absO_ok hf y)
  have hlσ : l < σ.length := (List.getElem?_eq_some_iff.1 hl).1
  have hlβ : l < s.β.length := by rw [hh.len]; exact hlσ
  have hL := List.getElem?_eq_getElem hlβ
  generalize s.β[l] = L at hL
  obtain ⟨ch, hH, hheap, hbs, hM0⟩ := hh.box l _ L hl hL
  obtain ⟨zs, hzl, hchb, hchs⟩ := SBk.lookup hH
  obtain ⟨hv0, hcell, hxl, hcap, hcb, _⟩ := hH
  have hbL : b ∈ L.bs := (hbs b).2 (by rw [hchb]; rfl)
  have hrow := hheap b _ hchb
  let vs := (a.eval y).cells.toList
  have hvs : ValsOf vs new := ValsOf.of hgn hy'
  have hvl : vs.length = new.length := hvs.1
  have hfit : off + 0 + vs.length ≤ (xs ++ zs).toArray.size := by simp; omega
  have hst := run_storeCells_at P b off E vs 0 (xs ++ zs).toArray s.w hrow hfit hy'.cell
  simp only [Nat.add_zero] at hst
  have hrow2 : (xs ++ zs).take off ++ vs ++ (xs ++ zs).drop (off + vs.length) = (xs.take off ++ vs ++ xs.drop (off + vs.length)) ++ zs := by
    have e1 : off - xs.length = 0 := by omega
    have e2 : off + vs.length - xs.length = 0 := by omega
    simp only [List.take_append, List.drop_append, e1, e2, List.take_zero, List.drop_zero, List.append_nil, List.append_assoc]
  rw [hrow2] at hst
  have hxl2 : (xs.take off ++ vs ++ xs.drop (off + vs.length)).length = xs.length := by
    simp only [List.length_append, List.length_take, List.length_drop]; omega
  have hset := setRow_heap s.w b (xs ++ zs).toArray ((xs.take off ++ vs ++ xs.drop (off + vs.length)) ++ zs).toArray E (0, 0) hrow
  have hoth : ∀ b', b' ≠ b → (s.w.setRow b ((xs.take off ++ vs ++ xs.drop (off + vs.length)) ++ zs).toArray).heap[b']? = s.w.heap[b']? := fun b' hb' => setRow_other s.w b b' _ hb'
  obtain ⟨t1, t2⟩ := hh.turn (l := l) (H' := SBk E k (.row b cap) n (xs.take off ++ vs ++ xs.drop (off + vs.length))) (L' := L) (w' := s.w.setRow b ((xs.take off ++ vs ++ xs.drop (off + vs.length)) ++ zs).toArray) hl hL rfl (by simp)
    (fun b' hb' hn => hoth b' (by rintro rfl; exact hn hbL)) (fun b' hb' => .inl hb')
    ⟨fun b' => if b' = b then some (.cells ((xs.take off ++ vs ++ xs.drop (off + vs.length)) ++ zs).toArray E (0, 0)) else none, ⟨hv0, fun x hx => by
      rcases List.mem_append.1 hx with hx | hx
      · rcases List.mem_append.1 hx with hx | hx
        · exact hcell x (List.mem_of_mem_take hx)
        · exact RdL.isCell hy' x hx
      · exact hcell x (List.mem_of_mem_drop hx), by rw [hxl2]; exact hxl, hcap, hcb, zs, by rw [List.length_append, hxl2, ← List.length_append]; exact hzl, rfl⟩, fun b' o hb' => by
      by_cases e : b' = b
      · subst e; simp only [if_true] at hb'; cases hb'; exact hset
      · simp [e] at hb', fun b' => by
      rw [hbs b', hchs b']
      by_cases e : b' = b <;> simp [e]⟩ rfl rfl rfl
  have hsz : (a.eval y).cells.size = i.size := by rw [← hnew, ← hvl]; exact Array.length_toList.symm
  refine ⟨⟨vs, hvs⟩, .skip, _, undef, ?_, .inr ⟨rfl, rfl⟩, trivial, t1, t2, ?_⟩
  · have hst' : (storeCells ⟨b, off, none⟩ (a.eval y).cells.toList).run P s.w = _ := hst
    simp [execOp, h, hv, Instr.storeAt, Instr.sureAddr, storeVar, (hT t i hi).run_sizeOf, hsz, hst']
  · intro ev hev
    have e : execOp a.eval o = (do storeVar t ⟨b, off, none⟩ (a.eval y); pure .skip) := by simp [execOp, h, hv, Instr.storeAt, Instr.sureAddr]
    rw [e] at hev
    have hev' : ev ∈ (storeCells ⟨b, off, none⟩ (a.eval y).cells.toList).events P s.w #[] := by
      simp only [storeVar, Sem.events_bind, (hT t i hi).run_sizeOf, hsz, Result.evThen_ok, events_sizeOf, ne_eq, not_true_eq_false, if_false, Sem.run_bind, Result.andThen_ok, Sem.events_pure] at hev
      generalize (storeCells ⟨b, off, none⟩ (a.eval y).cells.toList).run P s.w = r at hev
      cases r with
      | ok v w' => simpa using hev
      | halt x w' => simpa using hev
    rcases ev_storeCells (a.eval y).cells.toList 0 (xs ++ zs).toArray s.w #[] hrow hfit hy'.cell ev hev' with hh0 | ⟨j, _, _, rfl⟩
    · simp at hh0
    · exact evOK_wr (List.mem_of_getElem? hL) hbL (hM0 b hbL _)

/-- .. of which but so much is kept in mind. -/
theorem AK.storeP {T : List (Nat × TI)} (hT : TOK P T) (l : Nat) (Z : List Value → Prop) {t : TypeId} {x y : Operand} {E : TypeId} {k n b cap off : Nat} {xs : List Value} {new : List A} {i : TI} (h : o.op = .store t x y) (hi : lookT T t = some i) (hx : absO φ x = .e (.one (.v (.pointer (some ⟨b, off, none⟩))))) (hy : cellsD (absO φ y) = some new) (hnew : new.length = i.size) (hgn : gndAs new = true)
    (hl : σ[l]? = some (.opq (SBk E k (.row b cap) n xs))) (hoff : off + new.length ≤ xs.length) (hg : o.guard = none) (hN : dstOk N o.dst = true) (hZ : ∀ vs, ValsOf vs new → Z (xs.take off ++ vs ++ xs.drop (off + vs.length)))
    (kk : ∀ zs, Z zs → AK X N Qf (.ops all rest :: K) .normal (putD o.dst .any φ) (σ.set l (.opq (SBk E k (.row b cap) n zs)))) : AK X N Qf (.ops all (o :: rest) :: K) .normal φ σ :=
  AK.storeV hT l h hi hx hy hnew hgn hl hoff hg hN fun vs hvs => kk _ (hZ vs hvs)

/-- Two boxes whose values are told alike change places. -/
theorem AK.swap (i j : Nat) {H1 H2 : Value → (Nat → Option Obj) → Prop} {c : Code} (hij : i ≠ j) (hi : σ[i]? = some (.opq H1)) (hj : σ[j]? = some (.opq H2)) (h1 : ∀ v ch, H1 v ch → v = .nilFunc) (h2 : ∀ v ch, H2 v ch → v = .nilFunc)
    (kk : AK X N Qf (.code c :: K) .normal φ ((σ.set i (.opq H2)).set j (.opq H1))) : AK X N Qf (.code c :: K) .normal φ σ := by
  refine AK.ghost (fun s a hf hh => ?_) kk
  have hiσ : i < σ.length := (List.getElem?_eq_some_iff.1 hi).1
  have hjσ : j < σ.length := (List.getElem?_eq_some_iff.1 hj).1
  have hiβ : i < s.β.length := by rw [hh.len]; exact hiσ
  have hjβ : j < s.β.length := by rw [hh.len]; exact hjσ
  obtain ⟨Li, hLi⟩ : ∃ L, s.β[i]? = some L := ⟨_, List.getElem?_eq_getElem hiβ⟩
  obtain ⟨Lj, hLj⟩ : ∃ L, s.β[j]? = some L := ⟨_, List.getElem?_eq_getElem hjβ⟩
  have bi := hh.box i _ Li hi hLi
  have bj := hh.box j _ Lj hj hLj
  have vi : Li.v = .nilFunc := by obtain ⟨ch, hH, _⟩ := bi; exact h1 _ _ hH
  have vj : Lj.v = .nilFunc := by obtain ⟨ch, hH, _⟩ := bj; exact h2 _ _ hH
  let s' : St := { s with β := (s.β.set i Lj).set j Li }
  have gσ : ∀ l, ((σ.set i (.opq H2)).set j (.opq H1))[l]? = if l = j then some (.opq H1) else if l = i then some (.opq H2) else σ[l]? := fun l => by
    by_cases e : j = l
    · subst e; rw [List.getElem?_set_self (by simpa using hjσ), if_pos rfl]
    · rw [List.getElem?_set_ne e, if_neg (Ne.symm e)]
      by_cases e' : i = l
      · subst e'; rw [List.getElem?_set_self hiσ, if_pos rfl]
      · rw [List.getElem?_set_ne e', if_neg (Ne.symm e')]
  have gβ : ∀ l, s'.β[l]? = if l = j then some Li else if l = i then some Lj else s.β[l]? := fun l => by
    show ((s.β.set i Lj).set j Li)[l]? = _
    by_cases e : j = l
    · subst e; rw [List.getElem?_set_self (by simpa using hjβ), if_pos rfl]
    · rw [List.getElem?_set_ne e, if_neg (Ne.symm e)]
      by_cases e' : i = l
      · subst e'; rw [List.getElem?_set_self hiβ, if_pos rfl]
      · rw [List.getElem?_set_ne e', if_neg (Ne.symm e')]
  have gm : ∀ L ∈ s'.β, L ∈ s.β := fun L hL => by
    obtain ⟨l, hl, rfl⟩ := List.getElem_of_mem hL
    have := gβ l
    rw [List.getElem?_eq_getElem hl] at this
    split at this
    · rw [Option.some.inj this]; exact List.mem_of_getElem? hLi
    · split at this
      · rw [Option.some.inj this]; exact List.mem_of_getElem? hLj
      · exact List.mem_of_getElem? this.symm
  have ex : Ext σ s ((σ.set i (.opq H2)).set j (.opq H1)) s' := by
    refine ⟨fun _ _ _ h => h, fun l B L hB hL => ?_⟩
    rw [gσ, gβ]
    by_cases e : l = j
    · subst e
      rw [hj] at hB; cases hB; rw [hLj] at hL; cases hL
      exact ⟨.opq H1, Li, by simp, by simp, by show Li.v = _; rw [vi, vj]⟩
    · by_cases e' : l = i
      · subst e'
        rw [hi] at hB; cases hB; rw [hLi] at hL; cases hL
        exact ⟨.opq H2, Lj, by simp [e], by simp [e], by show Lj.v = _; rw [vi, vj]⟩
      · exact ⟨B, L, by simp [e, e', hB], by simp [e, e', hL], .refl _ _⟩
  have st : Step σ s ((σ.set i (.opq H2)).set j (.opq H1)) s' := by
    exact ⟨Nat.le_refl _, fun _ _ _ => rfl, fun _ _ _ h => h, fun _ _ _ _ => rfl, fun L h b hb => .inr ⟨L, gm L h, hb⟩, ex.box, rfl, rfl, rfl, rfl⟩
  refine ⟨s', rfl, ⟨hf.size, hf.defers.imp fun _ h1 => h1.mono ex, fun u => (hf.slot u).mono ex hh.len⟩, ⟨hh.mem, by simp [s', hh.len], ?_, ?_, fun L hL b hb => hh.lt L (gm L hL) b hb, fun b hb => ⟨(hh.own b hb).1, fun L hL => (hh.own b hb).2 L (gm L hL)⟩⟩, st⟩
  · intro l B L hB hL
    rw [gσ] at hB
    rw [gβ] at hL
    split at hB
    · rename_i e
      rw [if_pos e] at hL
      cases hB; cases hL
      exact bi
    · rename_i e
      rw [if_neg e] at hL
      split at hB
      · rename_i e'
        rw [if_pos e'] at hL
        cases hB; cases hL
        exact bj
      · rename_i e'
        rw [if_neg e'] at hL
        exact (hh.box l B L hB hL).carry ex hh.len fun b hb => ⟨rfl, fun _ => rfl⟩
  · intro l l' L1 L2 q1 q2 b hb hb'
    rw [gβ] at q1 q2
    have key : ∀ l L, (if l = j then some Li else if l = i then some Lj else s.β[l]?) = some L → s.β[if l = j then i else if l = i then j else l]? = some L := fun l L q => by
      split at q
      · cases q; rename_i e; rw [if_pos e]; exact hLi
      · rename_i e
        split at q
        · cases q; rename_i e'; rw [if_neg e, if_pos e']; exact hLj
        · rename_i e'; rw [if_neg e, if_neg e']; exact q
    have := hh.disj _ _ L1 L2 (key l L1 q1) (key l' L2 q2) b hb hb'
    by_cases e1 : l = j <;> by_cases e2 : l' = j <;> by_cases e3 : l = i <;> by_cases e4 : l' = i <;> simp_all

/-- A row is made. -/
theorem AK.makeBufK {T : List (Nat × TI)} (hT : TOK P T) {t : TypeId} {x y : Operand} {i ie : TI} {E : TypeId} {n : Nat} {kx ky : IntKind} (h : o.op = .makeSlice t x y) (hi : lookT T t = some i) (hd : i.desc = .slice E) (hE : lookT T E = some ie)
    (hx : absO φ x = .e (.one (.c (.int kx n)))) (hy : absO φ y = .e (.one (.c (.int ky n)))) (hb : n * ie.bytes ≤ 140737488355328) (hn63 : n ≤ 140737488355328) (hg : o.guard = none) (hN : dstOk N o.dst = true)
    (kk : ∀ b xs, AK X N Qf (.ops all rest :: K) .normal (putD o.dst (.e (.one (.v (slV (.row b n) n)))) φ) (σ ++ [.opq (SBk E ie.size (.row b n) n xs)])) : AK X N Qf (.ops all (o :: rest) :: K) .normal φ σ := by
  refine AK.hand (ι := Nat × List Value) (fun q => .e (.one (.v (slV (.row q.1 n) n)))) (fun q => σ ++ [.opq (SBk E ie.size (.row q.1 n) n q.2)]) hg hN (fun s a hf hh => ?_) fun q => kk q.1 q.2
  have hvx := absO_ok hf x
  rw [hx] at hvx
  have hvx := rdC hvx
  generalize hwx : a.eval x = vx at hvx
  cases hvx
  have hvy := absO_ok hf y
  rw [hy] at hvy
  have hvy := rdC hvy
  generalize hwy : a.eval y = vy at hvy
  cases hvy
  have hund := (hT t i hi).und
  rw [hd] at hund
  obtain ⟨inf, z, z1, z2, z3, z4, z5, z6, z7⟩ := (hT E ie hE).info
  have hb' : (inf.bytes : Int) * (n : Int) ≤ 281474976710656 := by
    have h' : ((inf.bytes * n : Nat) : Int) ≤ 281474976710656 := by rw [z3, Nat.mul_comm]; omega
    rwa [Int.natCast_mul] at h'
  have hrun := run_make (P := P) (w := s.w) t E inf z hund z1 z4 kx ky n n (by omega) (Int.le_refl _) hb' (by omega)
  simp only [Int.toNat_natCast] at hrun
  let xs := (madeCells z.cells (n * inf.size)).toList
  have hxl : xs.length = n * ie.size := by
    simp only [xs, Array.length_toList, size_madeCells, z2]
  have hzc : ∀ v ∈ z.cells.toList, isCell v = true := RdL.isCell (RdL_of_absC (σ := σ) (s := s) z5)
  have hzl : z.cells.toList.length = ie.size := by
    have := congrArg List.length z5
    simp only [List.length_map] at this
    rw [this, z7]
  have hxc : ∀ v ∈ xs, isCell v = true := by
    intro v hv
    simp only [xs, madeCells, Array.toList_map, List.mem_map] at hv
    obtain ⟨q, hq, rfl⟩ := hv
    have hpos : 0 < z.cells.size := by
      rcases Nat.eq_zero_or_pos z.cells.size with e | e
      · have : ie.size = 0 := by rw [← hzl]; simpa using e
        rw [z2, this] at hq; simp at hq
      · exact e
    rw [getElem!_pos z.cells _ (Nat.mod_lt _ hpos)]
    exact hzc _ (by simp)
  have hB : BoxOK (σ ++ [.opq (SBk E ie.size (.row s.w.heap.size n) n xs)]) { s with w := s.w.alloc (.cells xs.toArray E), β := s.β ++ [⟨.nilFunc, [s.w.heap.size]⟩] } (.opq (SBk E ie.size (.row s.w.heap.size n) n xs)) ⟨.nilFunc, [s.w.heap.size]⟩ := by
    refine ⟨fun b' => if b' = s.w.heap.size then some (.cells (xs ++ []).toArray E (0, 0)) else none, ⟨rfl, hxc, hxl, Nat.le_refl _, by omega, [], by simp [hxl], rfl⟩, fun b' o hb' => ?_, fun b' => ?_, fun b' hb' o => ?_⟩
    · by_cases e : b' = s.w.heap.size
      · subst e; simp only [if_true] at hb'; cases hb'; rw [List.append_nil]; exact heap_alloc_at s.w _
      · simp [e] at hb'
    · by_cases e : b' = s.w.heap.size <;> simp [e]
    · simp at hb'; subst hb'
      cases hm : s.M s.w.heap.size o with
      | none => rfl
      | some v => have := hh.block hm; omega
  have hg1 : HeapOK σ { s with w := s.w.alloc (.cells xs.toArray E) } ∧ Step σ s σ { s with w := s.w.alloc (.cells xs.toArray E) } :=
    hh.grow (by simp) (fun b hb => heap_alloc_lt s.w _ hb) (fun b hb o => rfl) (fun b hb o v hm => by
      have := hh.block hm; omega) rfl rfl rfl
  obtain ⟨g1, g2⟩ := hg1.1.addBox hg1.2 rfl hh hB (fun b hb => by
      simp at hb
      subst hb
      exact ⟨Nat.le_refl _, by simp⟩)
  refine ⟨(s.w.heap.size, xs), .value (.slice (some ⟨s.w.heap.size, 0, none⟩) n n), _, _, ?_, .inl rfl, Rd.val rfl, g1, g2, ?_⟩
  · simp [execOp, h, hwx, hwy, hrun, xs]
  · have e : execOp a.eval o = (do pure (.value (← Instr.makeSlice t (.int kx n) (.int ky n)))) := by simp [execOp, h, hwx, hwy]
    rw [e]
    refine ev_pureV ?_
    intro e he
    have hu : ∀ u, (underlying t).run P u = .ok (.slice E) u := fun u => by simp [underlying, hund]
    have hti : ∀ u, (typeInfo E).run P u = .ok inf u := fun u => by simp [typeInfo, z1]
    have hzr : ∀ u, (zeroValue E).run P u = .ok z u := fun u => by simp [zeroValue, typeInfo, z1, z4]
    have hso : ∀ u, (sizeOf E).run P u = .ok inf.size u := fun u => by simp [sizeOf, typeInfo, z1]
    have wl : IntKind.i64.wrap (n : Int) = n := by rw [IntKind.wrap_i64]; omega
    have n1 : ¬ (n : Int) < 0 := by omega
    have n2 : ¬ (281474976710656 < (inf.bytes : Int) * n) := by omega
    simp [Instr.makeSlice, hu, hti, hso, asInt, asIntOf, wl, n1, n2] at he
    rw [hzr] at he
    simp only [Result.evThen_ok, (Still.newRow (P := P)) _ _, ite_self] at he
    unfold askRoom at he
    split at he
    · have : e = ⟨.mark .noRoom, false, true⟩ := by simpa using he
      rw [this]; exact .inl rfl
    · simp at he

end
/-! ### What is handed back is but read from now on -/

def coolA (k n : Nat) (es : Nat → List C) : A → A
  | .vec 0 _ _ _ => .c (.sl false k n es)
  | a => a
def coolE (k n : Nat) (es : Nat → List C) : E1 → E1
  | .one a => .one (coolA k n es a)
  | e => e
def coolEs (k n : Nat) (es : Nat → List C) : List E1 → List E1
  | [] => []
  | a :: r => coolE k n es a :: coolEs k n es r
def coolD (k n : Nat) (es : Nat → List C) : D → D
  | .e x => .e (coolE k n es x)
  | .tup xs => .tup (coolEs k n es xs)
  | .any => .any

section
variable {σ σ' : List Box} {s s' : St} {k n n0 : Nat} {es : Nat → List C} {u : Value}

theorem coolA_ok (hu : Rd s'.M u (.sl false k n es)) {v : Value} {a : A} (h : okThawA n0 a = true) (r : RdA σ s v (thawA u a)) : RdA σ' s' v (coolA k n es a) := by
  cases a with
  | c x => exact gndC_ok h r
  | any => exact r
  | vec l k' n' es' =>
    cases l with
    | zero => have := Rd.valEq r; subst this; exact hu
    | succ l => simp [okThawA, gndA] at h
  | ptr => simp [okThawA, gndA] at h
  | ref => simp [okThawA, gndA] at h
theorem coolE_ok (hu : Rd s'.M u (.sl false k n es)) {v : Value} {x : E1} (h : okThawE n0 x = true) (r : RdE σ s v (thawE u x)) : RdE σ' s' v (coolE k n es x) := by
  cases x with
  | one a => exact coolA_ok (σ := σ) (s := s) hu h r
  | agg cs => exact gndE_ok (x := .agg cs) h r
theorem coolEs_ok (hu : Rd s'.M u (.sl false k n es)) : ∀ {vs : List Value} {cs : List E1}, okThawEs n0 cs = true → RdEs σ s vs (thawEs u cs) → RdEs σ' s' vs (coolEs k n es cs)
  | [], [], _, _ => trivial
  | [], _ :: _, _, r => r.elim
  | _ :: _, [], _, r => r.elim
  | v :: vs, c :: cs, h, r => by
    simp only [okThawEs] at h
    cases ha : okThawE n0 c with
    | false => simp [ha] at h
    | true => simp only [ha] at h; exact ⟨coolE_ok (σ := σ) (s := s) hu ha r.1, coolEs_ok hu h r.2⟩
theorem coolD_ok (hu : Rd s'.M u (.sl false k n es)) {v : Value} {d : D} (h : okThawD n0 d = true) (r : RdD σ s v (thawD u d)) : RdD σ' s' v (coolD k n es d) := by
  cases d with
  | e x => exact coolE_ok (σ := σ) (s := s) hu h r
  | tup xs => obtain ⟨vs, h1, h2⟩ := r; exact ⟨vs, h1, coolEs_ok (σ := σ) (s := s) hu h h2⟩
  | any => trivial
end

theorem EvI.cool {P : Program} {ι : Type} {X : Cx P} {f : FuncId} {args : List D} {tmpl : D} {E : TypeId} {k n : Nat} {es : Nat → List C} {bf : ι → Buf} {xs : ι → List Value} (h : EvI X f args [] (fun i => thawD (slV (bf i) n) tmpl) (fun i => [.opq (SBk E k (bf i) n (xs i))])) (hfl : ∀ i, FlatV k n es (xs i)) (hok : okThawD n tmpl = true) :
    Ev X f args [] (coolD k n es tmpl) [] := by
  refine ⟨h.1, fun s vs hr hh S cs hS => h.2 s vs hr hh S cs fun i fr v s' hl hres hh' st => ?_⟩
  have hβ0 : s.β = [] := List.eq_nil_of_length_eq_zero hh.len
  obtain ⟨L, M', hL, m1, m2, m3, m4, m5⟩ := SBk.lends (σ := [.opq (SBk E k (bf i) n (xs i))]) (lb := 0) rfl es (hfl i).rd s' hh'
  have hlen : s'.β.length = 1 := hh'.len
  have hβ : s'.β = [L] := by
    match hq : s'.β with
    | [L0] => rw [hq] at hL; cases hL; rfl
    | [] => rw [hq] at hlen; cases hlen
    | _ :: _ :: _ => rw [hq] at hlen; simp at hlen
  let s3 : St := { s' with β := [], M := M' }
  have hnew : ∀ b ∈ L.bs, s.w.heap.size ≤ b := fun b hb => by
    rcases st.bls L (by rw [hβ]; simp) b hb with h1 | ⟨L0, h1, _⟩
    · exact h1
    · rw [hβ0] at h1; simp at h1
  have hg : Ghost s' s3 := ⟨rfl, m1, fun b hb o => m2 b (hb L (by rw [hβ]; simp)) o, m3, fun b hb => by
    rcases hb with hb | ⟨L', hL', _⟩
    · exact .inl hb
    · simp [s3] at hL'⟩
  refine .ghost hg (hS fr v s3 (hl.mono m1) (coolD_ok (s' := s3) m5 hok hres) ?_ ?_)
  · exact ⟨m3, rfl, fun l B L' hB => by simp at hB, fun l l' L1 L2 h1 => by simp [s3] at h1, fun L' hL' => by simp [s3] at hL', fun b hb => ⟨(hh'.own b hb).1, fun L' hL' => by simp [s3] at hL'⟩⟩
  · refine ⟨st.size, st.keep, fun b o v hv => m1 _ _ _ (st.mem _ _ _ hv), fun b hb hn o => ?_, fun L' hL' => by simp [s3] at hL', fun l B L' hB => by simp at hB, st.os, st.tape, st.output, st.own⟩
    show M' b o = _
    rw [m2 b (fun hbL => by have := hnew b hbL; omega) o]
    exact st.memk b hb hn o

theorem getElem?_splice {α : Type} {xs vs : List α} {a : Nat} (h : a + vs.length ≤ xs.length) (p : Nat) : (xs.take a ++ vs ++ xs.drop (a + vs.length))[p]? = if a ≤ p ∧ p < a + vs.length then vs[p - a]? else xs[p]? := by
  have ht : (xs.take a).length = a := by simp; omega
  split
  · rename_i hc
    rw [List.append_assoc, List.getElem?_append_right (by omega), ht, List.getElem?_append_left (by omega)]
  · rename_i hc
    rcases Nat.lt_or_ge p a with hp | hp
    · rw [List.append_assoc, List.getElem?_append_left (by omega), List.getElem?_take, if_pos hp]
    · rw [List.append_assoc, List.getElem?_append_right (by omega), ht, List.getElem?_append_right (by omega), List.getElem?_drop]
      congr 1; omega

/-- An element's cells are written. -/
theorem FlatV.splice {k n : Nat} {es es' : Nat → List C} {xs vs : List Value} {new : List A} (h : FlatV k n es xs) (i j : Nat) (hi : i < n) (hv : ValsOf vs new) (hfit : j + new.length ≤ k) (he : ∀ i', i' < n → i' ≠ i → es' i' = es i') (hl : (es' i).length = k)
    (hn : ∀ (q : Nat) (c : C), (es' i)[q]? = some c → (j ≤ q ∧ q < j + new.length ∧ new[q - j]? = some (A.c c)) ∨ (¬ (j ≤ q ∧ q < j + new.length) ∧ (es i)[q]? = some c)) : FlatV k n es' (xs.take (i * k + j) ++ vs ++ xs.drop (i * k + j + vs.length)) := by
  have hik : i * k + k ≤ n * k := by rw [← Nat.succ_mul]; exact Nat.mul_le_mul_right _ hi
  have hvl := hv.1
  have hxl := h.len
  have hfit' : i * k + j + vs.length ≤ xs.length := by omega
  refine ⟨by simp only [List.length_append, List.length_take, List.length_drop]; omega, fun i' hi' => ?_, fun i' hi' q c hq => ?_⟩
  · by_cases e : i' = i
    · subst e; exact hl
    · rw [he i' hi' e]; exact h.wid i' hi'
  · rw [getElem?_splice hfit']
    by_cases e : i' = i
    · subst e
      rcases hn q c hq with ⟨h1, h2, h3⟩ | ⟨h1, h2⟩
      · rw [if_pos (by omega), show i' * k + q - (i' * k + j) = q - j by omega]
        exact hv.2 _ c h3
      · rw [if_neg (by omega)]; exact h.at' i' hi' q c h2
    · have hq' : (es i')[q]? = some c := by rw [← he i' hi' e]; exact hq
      have hqk : q < k := by rw [← h.wid i' hi']; exact (List.getElem?_eq_some_iff.1 hq').1
      rw [if_neg ?_]
      · exact h.at' i' hi' q c hq'
      · rcases Nat.lt_or_gt_of_ne e with hlt | hgt
        · have : i' * k + k ≤ i * k := by rw [← Nat.succ_mul]; exact Nat.mul_le_mul_right _ hlt
          omega
        · have : i * k + k ≤ i' * k := by rw [← Nat.succ_mul]; exact Nat.mul_le_mul_right _ hgt
          omega

/-- One element more. -/
theorem FlatV.snoc {k n : Nat} {es es' : Nat → List C} {xs vs : List Value} (h : FlatV k n es xs) (he : ∀ i, i < n → es' i = es i) (hl : (es' n).length = k) (hvl : vs.length = k) (hv : ∀ (q : Nat) (c : C), (es' n)[q]? = some c → ∃ v, vs[q]? = some v ∧ ∀ M, Rd M v c) : FlatV k (n + 1) es' (xs ++ vs) := by
  have hxl := h.len
  refine ⟨by simp only [List.length_append]; rw [Nat.succ_mul]; omega, fun i hi => ?_, fun i hi q c hq => ?_⟩
  · by_cases e : i = n
    · subst e; exact hl
    · rw [he i (by omega)]; exact h.wid i (by omega)
  · by_cases e : i = n
    · subst e
      rw [List.getElem?_append_right (by omega), show i * k + q - xs.length = q by omega]
      exact hv q c hq
    · have hi' : i < n := by omega
      have hq' : (es i)[q]? = some c := by rw [← he i hi']; exact hq
      have hqk : q < k := by rw [← h.wid i hi']; exact (List.getElem?_eq_some_iff.1 hq').1
      have : i * k + k ≤ n * k := by rw [← Nat.succ_mul]; exact Nat.mul_le_mul_right _ hi'
      rw [List.getElem?_append_left (by omega)]
      exact h.at' i hi' q c hq'

end Go.AM

/- Results that lie in cells; boxes behind are let go. -/
namespace Go.AM
open Go.Conc (G)

/-- The results of a function, cells among them. -/
def resT (T : List (Nat × TI)) (φ : Fr) : List ResultVar → Option (List D)
  | [] => some []
  | .tmp t :: r => match resT T φ r with
    | some q => some (look φ t :: q)
    | none => none
  | .cell ad t :: r => match resT T φ r with
    | some q => match look φ ad with
      | .e (.one (.c (.rp cs))) => match lookT T t with
        | some i => match valE i (cs.map A.c) with
          | some e => some (.e e :: q)
          | none => none
        | none => none
      | _ => none
    | none => none

theorem resT_ok {P : Program} {T : List (Nat × TI)} (hT : TOK P T) {N : Nat} {σ : List Box} {s : St} {φ : Fr} {a : Act} (f : FrOK N σ s φ a) : ∀ {rs : List ResultVar} {ds : List D}, resT T φ rs = some ds →
    ∃ vs, RdDs σ s vs ds ∧ ∀ w, (∀ b o u, s.M b o = some u → w.cell? ⟨b, o, none⟩ = some u) → (rs.mapM (resSem a)).run P w = Result.ok vs w ∧ ∀ es, ∀ e ∈ (rs.mapM (resSem a)).events P w es, e ∈ es ∨ ∃ b o u, e = ⟨.cell ⟨b, o, none⟩, false, false⟩ ∧ s.M b o = some u
  | [], ds, h => by cases h; exact ⟨[], trivial, fun w _ => ⟨by simp, fun es e he => .inl (by simpa using he)⟩⟩
  | .tmp t :: r, ds, h => by
    simp only [resT] at h
    cases hq : resT T φ r with
    | none => simp [hq] at h
    | some q =>
      simp [hq] at h
      subst h
      obtain ⟨vs, h1, h2⟩ := resT_ok hT f hq
      refine ⟨a.tmps.getD t undef :: vs, ⟨f.slot t, h1⟩, fun w hw => ?_⟩
      obtain ⟨k1, k2⟩ := h2 w hw
      refine ⟨by simp only [List.mapM_cons, Sem.run_bind, resSem, Sem.run_pure, Result.andThen_ok, k1], fun es e he => k2 es e ?_⟩
      simpa [List.mapM_cons, resSem, k1] using he
  | .cell ad t :: r, ds, h => by
    simp only [resT] at h
    cases hq : resT T φ r with
    | none => simp [hq] at h
    | some q =>
      simp only [hq] at h
      have hs := f.slot ad
      generalize look φ ad = x at h hs
      split at h
      case h_2 => cases h
      rename_i cs
      cases hi : lookT T t with
      | none => simp [hi] at h
      | some i =>
        simp only [hi] at h
        cases he0 : valE i (cs.map A.c) with
        | none => simp [he0] at h
        | some e0 =>
          simp [he0] at h
          subst h
          obtain ⟨vs, h1, h2⟩ := resT_ok hT f hq
          have h2' := rdC hs
          generalize hvx : a.tmps.getD ad undef = vx at h2'
          cases h2'
          rename_i b off g hm hr'
          let us := (List.range cs.length).map g
          have hrl : RdL σ s us (cs.map A.c) := by
            have key : ∀ (n : Nat) (ds : List C), (∀ j c, ds[j]? = some c → Rd s.M (g (n + j)) c) → RdL σ s ((List.range ds.length).map fun j => g (n + j)) (ds.map A.c) := by
              intro n ds
              induction ds generalizing n with
              | nil => intro _; trivial
              | cons d ds ih =>
                intro hd
                rw [List.length_cons, List.range_succ_eq_map]
                refine ⟨hd 0 d rfl, ?_⟩
                have := ih (n + 1) (fun j c hj => by have := hd (j + 1) c (by simpa using hj); rwa [show n + 1 + j = n + (j + 1) by omega])
                simpa [Function.comp_def, Nat.add_assoc, Nat.add_comm 1] using this
            have := key 0 cs (by simpa using hr')
            simpa using this
          have husM : ∀ (j : Nat) (v : Value), us[j]? = some v → s.M b (off + j) = some v := fun j v hj => by
            simp only [us, List.getElem?_map] at hj
            by_cases hlt : j < cs.length
            · simp [hlt] at hj
              subst hj
              exact hm j cs[j] (List.getElem?_eq_getElem hlt)
            · simp [hlt] at hj
          -- the value is the same in all worlds
          let w0 : World := { s.w with heap := s.w.heap }
          have hval : ∃ v, RdE σ s v e0 ∧ ∀ w, (∀ b o u, s.M b o = some u → w.cell? ⟨b, o, none⟩ = some u) → (loadVar t ⟨b, off, none⟩).run P w = .ok v w := by
            have hg := hT t i hi
            cases ha : i.agg <;> simp only [valE, ha] at he0
            · cases hx : getX 0 (cs.map A.c) with
              | none => simp [hx] at he0
              | some a0 =>
                simp [hx] at he0
                subst he0
                obtain ⟨v, hv, hra⟩ := hrl.get (getX_eq hx)
                refine ⟨v, hra, fun w hw => ?_⟩
                have := hw _ _ _ (husM 0 v hv)
                simp only [loadVar, Sem.run_bind, hg.run_isAgg, Result.andThen_ok, ha]
                simp at this
                simp [run_load, this]
            · cases hx : takeX i.size (cs.map A.c) with
              | none => simp [hx] at he0
              | some r0 =>
                simp [hx] at he0
                subst he0
                obtain ⟨q1, q2⟩ := takeX_eq hx
                have hr2 := hrl.take i.size
                rw [← q1] at hr2
                have hl : (us.take i.size).length = i.size := by rw [hr2.length, q2]
                refine ⟨.agg (us.take i.size).toArray, ⟨us.take i.size, rfl, hr2⟩, fun w hw => ?_⟩
                have hld := run_loadCells_list (P := P) w ⟨b, off, none⟩ (us.take i.size) (fun j v hj => by
                  rw [add_addr]
                  refine hw _ _ _ (husM j v ?_)
                  rw [List.getElem?_take] at hj
                  split at hj
                  · exact hj
                  · cases hj)
                rw [hl] at hld
                simp only [loadVar, Sem.run_bind, hg.run_isAgg, Result.andThen_ok, ha]
                simp [hg.run_sizeOf, hld]
          obtain ⟨v, hv1, hv2⟩ := hval
          refine ⟨v :: vs, ⟨hv1, h1⟩, fun w hw => ?_⟩
          obtain ⟨k1, k2⟩ := h2 w hw
          have hsem : (resSem a (.cell ad t)) = loadVar t ⟨b, off, none⟩ := by
            simp [resSem, hvx, asAddr]
          refine ⟨by simp only [List.mapM_cons, Sem.run_bind, hsem, hv2 w hw, Sem.run_pure, Result.andThen_ok, k1], fun es e he => ?_⟩
          rw [List.mapM_cons, hsem] at he
          simp only [Sem.events_bind, hv2 w hw, Result.evThen_ok, k1, Sem.events_pure] at he
          rcases k2 _ e he with he | he
          · rcases mem_ev he with he | he
            · exact .inl he
            · obtain ⟨j, hj, rfl⟩ := ev_loadVar (hT t i hi) (w := w) (n := cs.length) (fun j hj => ⟨g j, hw _ _ _ (hm j cs[j] (List.getElem?_eq_getElem hj))⟩) (by have := valE_len he0; simpa using this) e he
              exact .inr ⟨b, off + j, g j, rfl, hm j cs[j] (List.getElem?_eq_getElem hj)⟩
          · exact .inr he

theorem ResJ.ofT {P : Program} {T : List (Nat × TI)} (hT : TOK P T) {fn : Func} {φ : Fr} {ds : List D} {d : D} (h : resT T φ fn.results.toList = some ds) (hj : joinD ds = some d) : ResJ P fn φ d := by
  intro N σ s a f
  obtain ⟨vs, h1, h2⟩ := resT_ok hT f h
  refine ⟨_, joinD_ok hj h1, fun w hw => ?_⟩
  obtain ⟨k1, k2⟩ := h2 w hw
  have e1 : (fn.results.mapM (resSem a)).run P w = Result.ok vs.toArray w := by
    rw [Array.mapM_eq_mapM_toList]
    simp only [Sem.run_map, k1, Result.andThen_ok]
  have e2 : ∀ es, ∀ e ∈ (fn.results.mapM (resSem a)).events P w es, e ∈ es ∨ ∃ b o u, e = ⟨.cell ⟨b, o, none⟩, false, false⟩ ∧ s.M b o = some u := by
    rw [Array.mapM_eq_mapM_toList]
    intro es e he
    exact k2 es e (by simpa using he)
  constructor
  · unfold results
    rw [Sem.run_bind]
    refine (congrArg (fun r => Result.andThen r _) (Eq.trans ?_ e1)).trans ?_
    · congr 2
    · simp
  · intro e he
    have he' : e ∈ (fn.results.mapM (resSem a)).events P w #[] := by
      unfold results at he
      rw [Sem.events_bind] at he
      change e ∈ ((fn.results.mapM (resSem a)).run P w).evThen ((fn.results.mapM (resSem a)).events P w #[]) _ at he
      rw [e1] at he
      simpa using he
    rcases e2 #[] e he' with h | h
    · simp at h
    · exact h

section
variable {P : Program} {X : Cx P} {N : Nat} {K : List It} {φ : Fr} {σ : List Box}

def retT (T : List (Nat × TI)) (rs : List ResultVar) (ks : List Nat) (φ : Fr) (res : D) : Option (List Prop) :=
  match resT T φ rs with
  | some ds => match joinD ds with
    | some d => match inD ks.length res with
      | true => leD d (renD ks res)
      | false => none
    | none => none
  | none => none

theorem AK.retC {T : List (Nat × TI)} (hT : TOK P T) {fn : Func} {n0 : Nat} {res : D} {σ' : List Box} (ks : List Nat) {ps : List Prop} (h : retT T fn.results.toList ks φ res = some ps) (hp : AllP ps) (hs : sel ks σ = some σ') (hpl : plainR σ' = true) (hn : nodupX ks = true) (hk : ∀ j, j < n0 → ks[j]? = some j) :
    AK X N (RetJ P fn n0 res σ') (.code .ret :: K) .normal φ σ := by
  refine AK.ret ⟨.inl rfl, ks, ?_⟩
  unfold retT at h
  split at h
  · rename_i ds hds
    split at h
    · rename_i d hd
      split at h
      · rename_i hin
        exact ⟨d, ps, ResJ.ofT hT hds hd, h, hp, hin, hs, hpl, hn, hk⟩
      · cases h
    · cases h
  · cases h

/-- A function by its body, results in cells among them. -/
theorem Ev.bodyC {f : FuncId} {fn : Func} {c : Code} {args : List D} {σ σ' : List Box} {res : D} (hf : P.funcs[f]? = some fn) (hnum : (fn.name == "runtime.NumGoroutine") = false) (hb : fn.body = some c) (hlen : Nat.ble args.length fn.ntmps = true)
    (h : Fits args σ → AK X fn.ntmps (RetJ P fn σ.length res σ') [.code c] .normal (argFr 0 args) σ) : Ev X f args σ res σ' := by
  refine ⟨⟨fn, hf, hnum, by rw [hb]; rfl⟩, fun s vs hr hh => ?_⟩
  have := EvI.introJ (X := X) (ι := Unit) (σ' := fun _ => σ') (res := fun _ => res) hf hnum hb (Nat.le_of_ble_eq_true hlen) (AW.mono (AK.of_code (h ⟨s, vs, hr, hh⟩)) fun _ _ _ q => ⟨(), q⟩)
  exact this.toEv.2 s vs hr hh

/-- Boxes behind are let go. -/
theorem Ev.dropTo {f : FuncId} {args : List D} {res res' : D} {σ1 rest : List Box} (h : Ev X f args σ res (σ1 ++ rest)) {ps : List Prop} (hle : leD res res' = some ps) (hp : AllP ps) (hin : inD σ1.length res' = true) (hpl : plainBs σ1 = true) (hlen : Nat.ble σ.length σ1.length = true) : Ev X f args σ res' σ1 := by
  refine ⟨h.1, fun s vs hr hh S cs hS => h.2 s vs hr hh S cs fun fr v s' hl hv hh' st => ?_⟩
  have h2 := leD_ok hle hp hv
  have hd := hh'.drop hpl
  have hG : Ghost s' (s'.cut σ1.length) := ⟨rfl, fun _ _ _ h => h, fun _ _ _ => rfl, hh'.mem, fun b hb => hb.imp id fun ⟨L, hL, hb⟩ => ⟨L, List.mem_of_mem_take hL, hb⟩⟩
  exact .ghost hG (hS fr v _ (hl.mono fun _ _ _ h => h) (h2.drop hin) hd (st.drop (Nat.le_of_ble_eq_true hlen)))

/-- An empty slice is taken for the function's own; its elements may be called anything. -/
theorem AK.adopt0 {Qf : Post} {c : Code} (t : Nat) (E : TypeId) (k : Nat) (es' : Nat → List C) {k' : Nat} {es : Nat → List C} (ht : look φ t = .e (.one (.c (.sl true k' 0 es))))
    (kk : AK X N Qf (.code c :: K) .normal ((t, .e (.one (.vec σ.length k 0 es'))) :: φ) (σ ++ [.vec E k 0 es'])) : AK X N Qf (.code c :: K) .normal φ σ := by
  refine AK.ghost (fun s a hf hh => ?_) kk
  have hs := hf.slot t
  rw [ht] at hs
  have h1 := Rd.tightTo (k := k') (k' := k) (.inr rfl) (rdC hs)
  have h1 : Rd s.M (a.tmps.getD t undef) (.sl true k 0 es') := h1.reF fun i hi => by omega
  have hB : BoxOK (σ ++ [.vec E k 0 es']) { s with β := s.β ++ [⟨a.tmps.getD t undef, []⟩] } (.vec E k 0 es') ⟨a.tmps.getD t undef, []⟩ := ⟨h1.loose, .inl ⟨⟨rfl, rfl⟩, h1⟩⟩
  obtain ⟨g1, g2⟩ := hh.addBox (.refl _ _) rfl hh hB (by simp)
  refine ⟨{ s with β := s.β ++ [⟨a.tmps.getD t undef, []⟩] }, rfl, ⟨hf.size, hf.defers.imp fun _ h1 => h1.mono g2.ext, fun u => ?_⟩, g1, g2⟩
  simp only [look]
  cases hb : Nat.beq t u with
  | false => exact (hf.slot u).mono g2.ext hh.len
  | true =>
    have e := Nat.eq_of_beq_eq_true hb
    subst e
    exact rdA_vec (L := ⟨a.tmps.getD t undef, []⟩) (by simp) (by simp [← hh.len]) hB

/-- A return, boxes and all. -/
theorem RetQ.mk {fn : Func} {n0 : Nat} {res : D} {σ' : List Box} (ks : List Nat) {ps : List Prop} (h : retE fn.results.toList ks φ res = some ps) (hp : AllP ps) (hs : sel ks σ = some σ') (hpl : plainR σ' = true) (hn : nodupX ks = true) (hk : ∀ j, j < n0 → ks[j]? = some j) : RetQ fn n0 res σ' .ret φ σ := by
  refine ⟨.inl rfl, ks, ?_⟩
  unfold retE at h
  split at h
  · rename_i ds hds
    split at h
    · rename_i d hd
      split at h
      · rename_i hin
        exact ⟨ds, d, ps, hds, hd, h, hp, hin, hs, hpl, hn, hk⟩
      · cases h
    · cases h
  · cases h
end
end Go.AM

/- folders.files: the tree that the maps hold. -/
namespace Go.AM.R1
open Go.Proofs
variable {X : Cx Try.prog}

/-- The exact maps. -/
structure FHx0 where
  r0 : Nat
  es0 : Array MapEntry
  c0 : Nat
  inn : Bs → Option (Nat × Array MapEntry × Nat)

abbrev FHe (l : List FileT) (f : FHx0) : Value → (Nat → Option Obj) → Prop := fun v ch => FHs l v ch f.r0 f.es0 f.c0 f.inn

/-- slices.Sort at strings. -/
def SortOK (X : Cx Try.prog) : Prop := ∀ (bf : Buf) (l : List Bs), l.length ≤ 1000000 → (∀ x ∈ l, x.length ≤ 9223372036854775807) → ∃ l' : List Bs, l'.Perm l ∧ l'.Pairwise (fun a b => Op.bytesLess b a = false) ∧
  Ev X 70 [.e (.one (.v (slV bf l.length)))] [.opq (SB 9 bf (l.map bsV))] (.tup []) [.opq (SB 9 bf (l'.map bsV))]

/-- The paths of a folder. -/
def FHx0.paths (f : FHx0) (g : Bs) : List Bs := match f.inn g with
  | some (_, es, _) => names es
  | none => []

theorem bsV_name {e : MapEntry} {p : Bs} (h : e.key = bsV p) : keyName e = p := by simp [keyName, h, bsV]

section facts
variable {l : List FileT} {v : Value} {ch : Nat → Option Obj} {f : FHx0} (h : FHe l f v ch)
include h

theorem FHe.keys0 : StrKeys f.es0 := by
  intro e he
  obtain ⟨g, r, es, c, h1, h2, h3⟩ := h.key0 e he
  rw [bsV_name h1]
  exact ⟨h1, by rw [h2]; rfl⟩

theorem FHe.keys1 {g : Bs} {r : Nat} {es : Array MapEntry} {c : Nat} (hi : f.inn g = some (r, es, c)) : StrKeys es := by
  intro e he
  obtain ⟨p, x, h1, h2, h3, h4⟩ := h.key1 _ _ _ _ hi e he
  rw [bsV_name h1]
  exact ⟨h1, by rw [h2]; rfl⟩

theorem FHe.len1 {g : Bs} {r : Nat} {es : Array MapEntry} {c : Nat} (hi : f.inn g = some (r, es, c)) : ∀ e ∈ es.toList, (keyName e).length ≤ 9223372036854775807 := by
  intro e he
  obtain ⟨p, x, h1, h2, h3, h4⟩ := h.key1 _ _ _ _ hi e he
  rw [bsV_name h1]
  exact (h.len p x h3).1

theorem FHe.mem_paths {g p : Bs} : p ∈ f.paths g ↔ folderOf p = g ∧ p ∈ l.map (·.1) := by
  unfold FHx0.paths
  constructor
  · intro hp
    split at hp
    · rename_i r es c hi
      obtain ⟨e, he, rfl⟩ := List.mem_map.1 hp
      obtain ⟨q, x, h1, h2, h3, h4⟩ := h.key1 _ _ _ _ hi e he
      rw [bsV_name h1]
      exact ⟨h4, List.mem_map.2 ⟨(q, x), h3, rfl⟩⟩
    · simp at hp
  · rintro ⟨rfl, hp⟩
    obtain ⟨⟨q, x⟩, hq, rfl⟩ := List.mem_map.1 hp
    obtain ⟨r, es, c, hi, e, he, h1, h2⟩ := h.all q x hq
    simp only [hi]
    exact List.mem_map.2 ⟨e, he, bsV_name h1⟩

theorem FHe.paths_nodup (g : Bs) : (f.paths g).Nodup := by
  unfold FHx0.paths
  split
  · rename_i r es c hi
    exact names_nodup (h.inn1 _ _ _ _ hi).2.1 (FHe.keys1 h hi)
  · exact List.nodup_nil

theorem FHe.flat_nodup {pre : List Bs} (hn : pre.Nodup) : (pre.flatMap f.paths).Nodup := by
  induction pre with
  | nil => simp
  | cons g r ih =>
    rw [List.nodup_cons] at hn
    rw [List.flatMap_cons, List.nodup_append]
    refine ⟨FHe.paths_nodup h g, ih hn.2, fun a ha b hb => ?_⟩
    rintro rfl
    obtain ⟨g', hg', hb⟩ := List.mem_flatMap.1 hb
    have h1 := ((FHe.mem_paths h).1 ha).1
    have h2 := ((FHe.mem_paths h).1 hb).1
    rw [← h1, h2] at hn
    exact hn.1 hg'

theorem FHe.flat_len {pre : List Bs} (hn : pre.Nodup) : (pre.flatMap f.paths).length ≤ l.length := by
  have := len_sub (l := l.map (·.1)) (FHe.flat_nodup h hn) fun x hx => by
    obtain ⟨g, _, hx⟩ := List.mem_flatMap.1 hx
    exact ((FHe.mem_paths h).1 hx).2
  simpa using this

theorem FHe.flat_all {pre : List Bs} (hp : pre.Perm (names f.es0)) : (pre.flatMap f.paths).Perm (l.map (·.1)) := by
  have hn : pre.Nodup := hp.nodup_iff.2 (names_nodup h.st0 (FHe.keys0 h))
  have hso : (l.map (·.1)).Nodup := by
    rw [List.Nodup, List.pairwise_map]
    exact h.sorted.imp fun hb => bl_ne hb
  refine (List.perm_ext_iff_of_nodup (FHe.flat_nodup h hn) hso).2 fun x => ?_
  rw [List.mem_flatMap]
  constructor
  · rintro ⟨g, _, hx⟩; exact ((FHe.mem_paths h).1 hx).2
  · intro hx
    refine ⟨folderOf x, ?_, (FHe.mem_paths h).2 ⟨rfl, hx⟩⟩
    obtain ⟨⟨q, y⟩, hq, rfl⟩ := List.mem_map.1 hx
    obtain ⟨r, es, c, hi, _⟩ := h.all q y hq
    obtain ⟨e, he, h1, _⟩ := h.inn0 _ _ _ _ hi
    rw [hp.mem_iff]
    exact List.mem_map.2 ⟨e, he, bsV_name h1⟩

end facts

set_option maxRecDepth 20000 in
/-- .. and the slice is the caller's own. -/
theorem ev_filesB (hs : SortOK X) (l : List FileT) (hl : l.length ≤ 1000000) : Ev X 42 [.e (.one (.ref 0))] [.opq (FH l)] (.e (.one (.vec 1 2 l.length (cF.fn l)))) [.opq (FH l), .vec 59 2 l.length (cF.fn l)] := by
  refine Ev.body Try.func42 rfl rfl rfl fun hf0 => ?_
  refine AK.run2 foll tokM COK.nil [] 8 rfl trivial ?_
  refine AK.opqI (ι := { f : FHx0 // ∃ v ch, FHe l f v ch }) 0 (fun f => FHe l f.1) rfl (fun v ch ⟨r0, es0, c0, inn, h⟩ => ⟨⟨⟨r0, es0, c0, inn⟩, v, ch, h⟩, h⟩) ?_
  rintro ⟨f, v0, ch0, hF⟩
  refine AK.newBuf 3 9 rfl fun bf0 => ?_
  refine AK.run2 foll tokM COK.nil [] 100 rfl trivial ?_
  refine AK.range (mb := 0) (r := f.r0) (es := f.es0) (c := f.c0) rfl rfl rfl rfl Try.underlying55 (FrOK.refAt rfl rfl fun u ch h => h.val) rfl (fun v ch h => h.out) ?_
  refine AK.run2 foll tokM COK.nil [] 100 rfl trivial ?_
  show AW X _ (.loop _) _ _ _
  refine AW.loop (S := Buf × List Bs × List Bs × Array Nat) (fun x => Out f.es0 x.2.2.1 x.2.2.2 ∧ x.2.1.Perm (x.2.2.1.flatMap f.paths)) (fun x => [(0, .e (.one (.ref 0))), (2, .e (.one (.c (.sl true 0 0 fun _ => [])))), (12, .e (.one (.ref 2))), (3, .e (.one (.v (slV x.1 x.2.1.length))))]) (fun x => [.opq (FHe l f), .opq (SB 9 x.1 (x.2.1.map bsV)), .opq (Itr f.r0 f.c0 x.2.2.2)]) (fun x => (names f.es0).length - x.2.2.1.length) (bf0, [], [], #[]) ⟨Out.start _, by simp⟩ (leFr_ok rfl (by simp [AllP, AllP.cat, EqF])) rfl ?_
  rintro ⟨bf, acc, pre, sn⟩ ⟨hO, hP⟩
  refine AK.of_code ?_
  refine AK.run2 foll tokM COK.nil [] 100 rfl trivial ?_
  refine AK.next (mb := 0) (ib := 2) (r := f.r0) (c := f.c0) (sn := sn) (es := f.es0) rfl rfl rfl rfl rfl rfl rfl rfl (fun v ch h => h.out) hF.st0 (fun e he => ⟨by rw [(FHe.keys0 hF e he).1]; rfl, (FHe.keys0 hF e he).2⟩) fun i => ?_
  cases i with
  | over ha =>
    refine AK.run2 foll tokM COK.nil [(14, false)] 100 rfl ?_ ?_
    · simp [AllP]
    refine AK.leaveT rfl rfl ?_
    have hP2 := hO.over hF.st0 (FHe.keys0 hF) ha
    have hperm : acc.Perm (l.map (·.1)) := hP.trans (FHe.flat_all hF hP2)
    have hlen : acc.length = l.length := by rw [hperm.length_eq]; simp
    obtain ⟨l', q1, q2, hsrt⟩ := hs bf acc (by omega) (fun x hx => by
      obtain ⟨⟨p, y⟩, hm, rfl⟩ := List.mem_map.1 (hperm.mem_iff.1 hx)
      exact (hF.len p y hm).1)
    have hl' : l' = l.map (·.1) := by
      refine List.Perm.eq_of_pairwise (le := fun a b => Op.bytesLess b a = false) (fun a b _ _ h1 h2 => ?_) q2 ?_ (q1.trans hperm)
      · rcases bl_total a b with h | h | h
        · rw [h] at h2; cases h2
        · exact h
        · rw [h] at h1; cases h1
      · rw [List.pairwise_map]
        exact hF.sorted.imp fun h => bl_asymm h
    subst hl'
    refine AK.run2 foll tokM COK.nil [] 100 rfl trivial ?_
    refine AK.callEv hsrt [1] rfl rfl rfl rfl rfl rfl rfl rfl rfl rfl rfl ?_
    refine AK.run2 foll tokM COK.nil [] 2 rfl trivial ?_
    refine AK.commitBuf 3 1 (xs := (l.map (·.1)).map bsV) (n := acc.length) (cS.fn (l.map (·.1))) rfl rfl (by simp [hlen]) (fun M i x hx => ?_) ?_
    · simp only [List.getElem?_map] at hx
      cases hi : l[i]? with
      | none => rw [hi] at hx; cases hx
      | some y =>
        rw [hi] at hx
        simp at hx; subst hx
        refine ⟨.str y.1, by simp [Cod.fn, slF, cS, hi], Rd.str rfl ?_⟩
        obtain ⟨p, z⟩ := y
        have := (hF.len p z (List.mem_of_getElem? hi)).1
        simp; omega
    refine AK.opqI (ι := Unit) 0 (fun _ => FH l) rfl (fun v ch h => ⟨(), f.r0, f.es0, f.c0, f.inn, h⟩) fun _ => ?_
    refine AK.run2 foll tokM COK.nil [] 3 rfl trivial ?_
    refine AK.adopt 6 59 2 rfl rfl ?_
    refine AK.run2 foll tokM COK.nil [] 100 rfl trivial ?_
    refine AK.loopB (fun i => i ≤ l.length) (fun i : Nat => [(0, .e (.one (.ref 0))), (23, cS.sl (l.map (·.1))), (24, dI l.length), (25, dI i), (6, .e (.one (.vec 3 2 (l.take i).length (cF.fn (l.take i)))))]) (fun i => [.opq (FH l), .dead, .opq (Itr f.r0 f.c0 (NextI.over ha).sn), .vec 59 2 (l.take i).length (cF.fn (l.take i))]) (fun i => l.length - i) 0 rfl ?_ rfl ?_ (by omega) ?_
    · simp [AllP.cat, AllP, EqF, hlen]
    · simp [AllP.cat, AllP, EqF]
    intro i hi
    by_cases h : i < l.length
    · have hget : getF l (pth l i) = some (txt l i) := getF_at h (fun j hj => by
        have := List.pairwise_iff_getElem.1 hF.sorted j i (by omega) h hj
        rw [fileAt (by omega), fileAt h] at this
        exact bl_ne this) rfl
      have hpi : (l.map (·.1)).getD i cS.dflt = pth l i := by
        simp [pth, List.getD_eq_getElem?_getD, h]
      have htk : l.take (i + 1) = l.take i ++ [(pth l i, txt l i)] := by
        rw [List.take_add_one, List.getElem?_eq_getElem h, fileAt h]; rfl
      refine AK.run2 foll tokM COK.nil [(26, true)] 100 rfl ?_ ?_
      · simp [-List.getD_eq_getElem?_getD, AllP, h]
      refine AK.callEv (ev_fget l ((l.map (·.1)).getD i cS.dflt)) [0] rfl rfl rfl rfl rfl rfl rfl rfl rfl rfl rfl ?_
      rw [hpi, hget]
      refine AK.run2 foll tokM COK.nil [] 100 rfl ?_ (AK.againB (i + 1) rfl ?_ rfl ?_ ?_ ?_)
      · simp [AllP, inR, i59]; omega
      · rw [htk]; simp [-List.getD_eq_getElem?_getD, AllP.cat, AllP, EqF.same, hpi]
        have hp := cF.fn_push (l.take i) (pth l i, txt l i)
        simp only [List.length_take] at hp
        exact hp
      · rw [htk]; simp [-List.getD_eq_getElem?_getD, AllP.cat, AllP, hpi]
        have hp := cF.fn_push (l.take i) (pth l i, txt l i)
        simp only [List.length_take] at hp
        exact hp
      · omega
      · omega
    · have : i = l.length := by omega
      subst this
      refine AK.run2 foll tokM COK.nil [(26, false)] 100 rfl (by simp [AllP]) (AK.leave rfl rfl ?_)
      refine AK.run2 foll tokM COK.nil [] 100 rfl trivial ?_
      simp only [List.take_length]
      refine AK.retB [0, 3] rfl ?_ rfl rfl rfl ?_
      · simp [AllP, EqF.same]
      · intro j hj
        have : j = 0 := by simpa using hj
        subst this; rfl
  | one e he hn =>
    refine AK.run2 foll tokM COK.nil [(14, true)] 100 rfl ?_ ?_
    · simp [AllP]
    obtain ⟨k1, k3⟩ := (FHe.keys0 hF) e he
    obtain ⟨o1, o2⟩ := hO.step hF.st0 (FHe.keys0 hF) he hn
    obtain ⟨g, r, es, c, g1, g2, g3⟩ := hF.key0 e he
    refine AK.entry (mb := 0) (ib := 2) (r := f.r0) (c := f.c0) (sn := sn) (es := f.es0) (e := e) (y := .tup [.one .any, .one (.v (.map (some r)))]) rfl rfl rfl rfl rfl rfl rfl (fun v ch h => h.out) hF.st0 he (fun s => ⟨[e.key, e.val], rfl, by rw [k1]; rfl, by rw [g2]; exact Rd.val rfl, trivial⟩) ?_
    refine AK.run2 foll tokM COK.nil [] 100 rfl trivial ?_
    refine AK.callEv (ev_keys r) [] rfl rfl rfl rfl rfl rfl rfl rfl rfl rfl rfl ?_
    have hname : keyName e = g := bsV_name g1
    have hpg : f.paths g = names es := by simp [FHx0.paths, g3]
    have hl1 : acc.length + (names es).length ≤ 1000000 := by
      have h1 := FHe.flat_len hF o1.1
      have h2 := hP.length_eq
      simp only [List.flatMap_append, List.length_append, hname, List.flatMap_cons, List.flatMap_nil, List.append_nil, hpg] at h1 h2
      omega
    refine AK.callEvL (ev_appendSeq (H := FHe l f) (r := r) (es := es) (c := c) (fun v ch h => (h.inn1 _ _ _ _ g3).1) (hF.inn1 _ _ _ _ g3).2.1 (FHe.keys1 hF g3) (fun e he => by have := FHe.len1 hF g3 e he; omega) bf acc hl1) [1, 0] rfl rfl rfl rfl ?_ rfl rfl rfl (fun _ => rfl) rfl (fun _ => rfl) rfl fun q => ?_
    · simp [AllP, AllP.cat]
    refine AK.run2 foll tokM COK.nil [] 100 rfl trivial ?_
    refine ⟨(q.1.1, acc ++ q.1.2, pre ++ [keyName e], sn.push e.born), ⟨o1, ?_⟩, ?_, leFr_ok rfl ?_, rfl⟩
    · simp only [List.flatMap_append, hname, List.flatMap_cons, List.flatMap_nil, List.append_nil, hpg]
      exact hP.append q.2
    · have := len_sub o1.1 o1.2.1
      simp at this ⊢
      omega
    · simp [AllP, AllP.cat, EqF]

theorem ev_files (hs : SortOK X) (l : List FileT) (hl : l.length ≤ 1000000) : Ev X 42 [.e (.one (.ref 0))] [.opq (FH l)] (cF.sl l) [.opq (FH l)] :=
  (ev_filesB hs l hl).dropTo (σ1 := [.opq (FH l)]) (rest := [.vec 59 2 l.length (cF.fn l)]) rfl (by simp [AllP, EqF.same]) rfl rfl rfl
end Go.AM.R1

/- editOf, do. -/
namespace Go.AM.R1
open Go.Proofs
variable {X : Cx Try.prog}

/-- What a change is made into. -/
def editC (c : ChangeT) : C := if c.2.1 = 1 then .ifa 94 [.str c.1, .str c.2.2] else if c.2.1 = 2 then .ifa 95 [.str c.1, .str c.2.2] else if c.2.1 = 3 ∧ c.2.2 = [] then .ifa 97 [.str c.1] else .nili
def editOk (c : ChangeT) : Bool := decide (c.2.1 = 1 ∨ c.2.1 = 2 ∨ (c.2.1 = 3 ∧ c.2.2 = []))

set_option maxRecDepth 20000 in
theorem ev_editOf (c : ChangeT) : Ev X 40 [.e (.agg [.c (.str c.1), .c (.int .i64 c.2.1), .c (.str c.2.2)])] [] (.tup [.one (.c (editC c)), .one (.c (.bool (editOk c)))]) [] := by
  refine Ev.body Try.func40 rfl rfl rfl fun hf0 => ?_
  obtain ⟨p, k, t⟩ := c
  by_cases h1 : k = 1
  · rw [show editC (p, k, t) = .ifa 94 [.str p, .str t] by simp [editC, h1], show editOk (p, k, t) = true by simp [editOk, h1]]
    refine AK.run2 foll tokM COK.nil [(10, true)] 100 rfl ?_ (AK.ret0 rfl ?_)
    · simp [AllP, h1]
    · simp [AllP, AllP.cat]
  by_cases h2 : k = 2
  · rw [show editC (p, k, t) = .ifa 95 [.str p, .str t] by simp [editC, h2], show editOk (p, k, t) = true by simp [editOk, h2]]
    refine AK.run2 foll tokM COK.nil [(10, false), (17, true)] 100 rfl ?_ (AK.ret0 rfl ?_)
    · simp [AllP, h2]
    · simp [AllP, AllP.cat]
  by_cases h3 : k = 3 ∧ t = []
  · rw [show editC (p, k, t) = .ifa 97 [.str p] by simp [editC, h3.1, h3.2], show editOk (p, k, t) = true by simp [editOk, h3.1, h3.2]]
    refine AK.run2 foll tokM COK.nil [(10, false), (17, false), (27, true), (24, true)] 100 rfl ?_ (AK.ret0 rfl ?_)
    · simp [AllP, h3.1, h3.2]
    · simp [AllP, AllP.cat]
  · rw [show editC (p, k, t) = .nili by simp [editC, h1, h2, h3], show editOk (p, k, t) = false by simp [editOk, h1, h2, h3]]
    by_cases h4 : k = 3
    · have ht : t ≠ [] := fun e => h3 ⟨h4, e⟩
      refine AK.run2 foll tokM COK.nil [(10, false), (17, false), (27, true), (24, false)] 100 rfl ?_ (AK.ret0 rfl ?_)
      · simp [AllP, h4, ht]
      · simp [AllP, AllP.cat]
    · refine AK.run2 foll tokM COK.nil [(10, false), (17, false), (27, false), (24, false)] 100 rfl ?_ (AK.ret0 rfl ?_)
      · simp [AllP, h1, h2, h4]
      · simp [AllP, AllP.cat]
end Go.AM.R1

/- Methods by an interface; folders.do. -/
namespace Go.AM
open Go.Conc (G)

section
variable {P : Program} {X : Cx P} {N : Nat} {Qf : Post} {K : List It} {φ : Fr} {σ : List Box} {all rest : List Oper} {o : Oper}

theorem RdL.absAgg {s : St} {vs : List Value} {cs : List C} (hl : vs.length = cs.length) (f : Nat → Value) (hf : ∀ j, j < vs.length → vs[j]? = some (f j)) (hr : ∀ (j : Nat) (c : C), cs[j]? = some c → Rd s.M (f j) c) : RdL σ s vs (cs.map A.c) := by
  induction vs generalizing cs f with
  | nil => cases cs <;> simp_all [RdL]
  | cons v vs ih =>
    cases cs with
    | nil => simp at hl
    | cons c cs =>
      refine ⟨?_, ih (by simpa using hl) (fun j => f (j + 1)) (fun j hj => by simpa using hf (j + 1) (by simpa using hj)) (fun j c' hj => hr (j + 1) c' (by simpa using hj))⟩
      have h0 := hf 0 (by simp)
      simp at h0
      rw [h0]
      exact hr 0 c rfl

/-- A method that a value behind an interface has. -/
structure Meth (P : Program) (T : TypeId) (name : String) (f : FuncId) : Prop where
  run : ∀ n v w, (Go.method (n + 1) T v name).run P w = .ok (f, v) w
  ev : ∀ n v w, (Go.method (n + 1) T v name).events P w #[] = #[]

theorem Meth.of {P : Program} {T : TypeId} {name : String} {f : FuncId} {i : TypeInfo} {m : Go.Method} {d : TypeDesc} (hi : P.info? T = some i) (hm : i.methods.find? (·.name == name) = some m) (hp : m.path = #[]) (hf : m.func = some (f, false)) (hu : P.underlying T = some d) (hd : ∀ e, d ≠ .pointer e) : Meth P T name f := by
  have h1 : ∀ w, (typeInfo T).run P w = .ok i w := fun w => by simp [typeInfo, hi]
  have h2 : ∀ w, (underlying T).run P w = .ok d w := fun w => by simp [underlying, hu]
  constructor <;> intro n v w
  · unfold Go.method
    simp only [Sem.run_bind, h1, hm, hp, hf, Result.andThen_ok, follow, Sem.run_pure, receiverAt, h2]
    cases d <;> first | rfl | exact absurd rfl (hd _)
  · unfold Go.method
    simp only [Sem.events_bind, Sem.run_bind, h1, hm, hp, hf, Result.andThen_ok, Result.evThen_ok, follow, Sem.run_pure, Sem.events_pure, receiverAt, h2, events_typeInfo, events_underlying]
    cases d <;> first | rfl | exact absurd rfl (hd _)

theorem AK.invokeEv {T : TypeId} {name : String} {cs : List C} {f : FuncId} {res : D} (hev : Ev X f [.e (.agg (cs.map A.c))] [] res []) (hg : o.guard = none) {x : Nat} {ats : Array TypeId} (ho : o.op = .call { callee := .invoke (.tmp x) name, args := #[], argTypes := ats })
    (hx : look φ x = .e (.one (.c (.ifa T cs)))) (hm : Meth P T name f) (hN : dstOk N o.dst = true) (hpl : inD 0 res = true)
    (k : AK X N Qf (.ops all rest :: K) .normal (putD o.dst res φ) σ) : AK X N Qf (.ops all (o :: rest) :: K) .normal φ σ := by
  intro s a hf hh b kk css S idx hb hidx hQ
  cases idx with
  | nil => exact hidx.elim
  | cons i idx =>
  have h0 := hf.slot x
  rw [hx] at h0
  have h0 := rdC h0
  generalize hv : a.tmps.getD x undef = v at h0
  cases h0 with
  | @ifa _ vs _ hl fv hfv hr =>
    obtain ⟨fn, hfn, hnum, hbody⟩ := hev.1
    have hnum' : fn.name ≠ "runtime.NumGoroutine" := by simpa using hnum
    have hbody' : fn.body ≠ none := by intro e; rw [e] at hbody; cases hbody
    have hdep : ∃ n, P.types.size + Made.depth = n + 1 := ⟨P.types.size + Made.depth - 1, by unfold Made.depth; omega⟩
    obtain ⟨n, hn⟩ := hdep
    have hv' : a.eval (.tmp x) = .iface T (.agg vs.toArray) := hv
    have hp1 : ∀ w, (program : Sem Program).run P w = .ok P w := fun w => by simp [program, Sem.run]
    have hp2 : ∀ w es, (program : Sem Program).events P w es = es := fun w es => by simp [program, Sem.events, Sem.runT]
    have hrun : ∀ w, (execOp a.eval o).run P w = .ok (.enter f [Value.agg vs.toArray].toArray) w := fun w => by
      simp [execOp, ho, resolve, invoke, hv', callMethod, hp1, hn, hm.run, callFunc, hfn, hnum', hbody']
    have hevs : ∀ w, (execOp a.eval o).events P w #[] = #[] := fun w => by
      simp [execOp, ho, resolve, invoke, hv', callMethod, hp1, hp2, hn, hm.run, hm.ev, callFunc, hfn, hnum', hbody']
    have hren : ∀ cs : List C, renL [] (cs.map A.c) = cs.map A.c := fun cs => by
      induction cs with
      | nil => rfl
      | cons c r ih => simp [renL, renA, ih]
    have hinl : ∀ cs : List C, inL 0 (cs.map A.c) = true := fun cs => by
      induction cs with
      | nil => rfl
      | cons c r ih => simp [inL, inA, ih]
    have hargs : RdDs σ s [Value.agg vs.toArray] (renDs [] [.e (.agg (cs.map A.c))]) := by
      refine ⟨⟨vs, rfl, ?_⟩, trivial⟩
      rw [hren]
      exact RdL.absAgg hl fv hfv hr
    refine arr_call (ks := []) hb hidx.1 (wanted_none hg) hh hrun hevs hev hargs (by simp [inDs, inD, inE, hinl]) rfl rfl rfl rfl (Nat.zero_le _) fun v s' hres hh' st => ?_
    have e1 : putB [] [] σ = σ := List.append_nil σ
    have e2 : renD (([] : List Nat) ++ upTo σ.length (([] : List Box).length - ([] : List Nat).length)) res = res := renD_nil hpl
    rw [e1] at hh' st hres
    rw [e2] at hres
    refine k s' _ ?_ hh' b kk css S idx hb hidx.2 fun φ2 σ2 s2 a2 q f2 h2 st2 => hQ φ2 σ2 s2 a2 q f2 h2 (st.trans st2)
    cases hd : o.dst with
    | none => exact hf.mono st hh.len
    | some t => exact (hf.mono st hh.len).put (dstOk_lt hN t hd) hres

end
end Go.AM

namespace Go.AM.R1
open Go.Proofs
variable {X : Cx Try.prog}

abbrev pathName : String := "loop.example/depositary/impl.path"

theorem meth94 : Meth Try.prog 94 pathName 124 := .of (info_of Try.type94) (m := { name := pathName, sig := 98, path := #[], func := some (124, false) }) (by simp [Try.t94]) rfl rfl Try.underlying94 (by simp)
theorem meth95 : Meth Try.prog 95 pathName 125 := .of (info_of Try.type95) (m := { name := pathName, sig := 98, path := #[], func := some (125, false) }) (by simp [Try.t95]) rfl rfl Try.underlying95 (by simp)
theorem meth97 : Meth Try.prog 97 pathName 126 := .of (info_of Try.type97) (m := { name := pathName, sig := 98, path := #[], func := some (126, false) }) (by simp [Try.t97]) rfl rfl Try.underlying97 (by simp)

theorem ev_path124 (p t : Bs) : Ev X 124 [.e (.agg [.c (.str p), .c (.str t)])] [] (dS p) [] := by
  refine Ev.body Try.func124 rfl rfl rfl fun hf0 => ?_
  refine AK.run2 foll tokM COK.nil [] 100 rfl trivial (AK.ret0 rfl ?_)
  simp [AllP]
theorem ev_path125 (p t : Bs) : Ev X 125 [.e (.agg [.c (.str p), .c (.str t)])] [] (dS p) [] := by
  refine Ev.body Try.func125 rfl rfl rfl fun hf0 => ?_
  refine AK.run2 foll tokM COK.nil [] 100 rfl trivial (AK.ret0 rfl ?_)
  simp [AllP]
theorem ev_path126 (p : Bs) : Ev X 126 [.e (.agg [.c (.str p)])] [] (dS p) [] := by
  refine Ev.body Try.func126 rfl rfl rfl fun hf0 => ?_
  refine AK.run2 foll tokM COK.nil [] 100 rfl trivial (AK.ret0 rfl ?_)
  simp [AllP]
end Go.AM.R1

/- folders.do. -/
namespace Go.AM.R1
open Go.Proofs
variable {X : Cx Try.prog}

/-- A string of a program's is no longer than this. -/
theorem Fits.strLen {args : List D} {σ : List Box} (h : Fits args σ) (i : Nat) {p : Bs} (hi : args[i]? = some (dS p)) : p.length ≤ 9223372036854775807 := by
  obtain ⟨s, vs, hr, _⟩ := h
  have := (RdDs.get hr).2 i
  rw [hi] at this
  have := rdC (show RdD σ s ((vs[i]?).getD undef) (dS p) from this)
  generalize (vs[i]?).getD undef = v at this
  cases this with
  | str e hl => exact hl

set_option maxRecDepth 20000 in
theorem ev_do1 (l : List FileT) (p t : Bs) (hp : p.length ≤ 9223372036854775807) (ht : t.length ≤ 9223372036854775807) : Ev X 41 [.e (.one (.ref 0)), .e (.one (.c (.ifa 94 [.str p, .str t])))] [.opq (FH l)] (dB (!(getF l p).isSome)) [.opq (FH (if (getF l p).isSome then l else insF l (p, t)))] := by
  refine Ev.body Try.func41 rfl rfl rfl fun hf0 => ?_
  refine AK.run2 foll tokM COK.nil [] 100 rfl trivial ?_
  refine AK.invokeEv (ev_path124 p t) rfl rfl rfl meth94 rfl rfl ?_
  refine AK.run2 foll tokM COK.nil [] 100 rfl trivial ?_
  refine AK.callEv (ev_fget l p) [0] rfl rfl rfl rfl rfl rfl rfl rfl rfl rfl rfl ?_
  cases h : (getF l p).isSome with
  | true =>
    refine AK.run2 foll tokM COK.nil [(21, true)] 100 rfl ?_ (AK.retB [0] rfl ?_ rfl rfl rfl ?_)
    · simp [AllP]
    · simp [AllP]
    · intro j hj
      have : j = 0 := by simpa using hj
      subst this; rfl
  | false =>
    refine AK.run2 foll tokM COK.nil [(21, false)] 100 rfl ?_ ?_
    · simp [AllP]
    refine AK.callEv (ev_fput l p t hp ht) [0] rfl rfl rfl rfl rfl rfl rfl rfl rfl rfl rfl ?_
    refine AK.run2 foll tokM COK.nil [] 100 rfl trivial (AK.retB [0] rfl ?_ rfl rfl rfl ?_)
    · simp [AllP]
    · intro j hj
      have : j = 0 := by simpa using hj
      subst this; rfl

set_option maxRecDepth 20000 in
theorem ev_do2 (l : List FileT) (p t : Bs) (hp : p.length ≤ 9223372036854775807) (ht : t.length ≤ 9223372036854775807) : Ev X 41 [.e (.one (.ref 0)), .e (.one (.c (.ifa 95 [.str p, .str t])))] [.opq (FH l)] (dB ((getF l p).isSome && !((getF l p).getD [] == t))) [.opq (FH (if ((getF l p).isSome && !((getF l p).getD [] == t)) then insF l (p, t) else l))] := by
  refine Ev.body Try.func41 rfl rfl rfl fun hf0 => ?_
  refine AK.run2 foll tokM COK.nil [] 100 rfl trivial ?_
  refine AK.invokeEv (ev_path125 p t) rfl rfl rfl meth95 rfl rfl ?_
  refine AK.run2 foll tokM COK.nil [] 100 rfl trivial ?_
  refine AK.callEv (ev_fget l p) [0] rfl rfl rfl rfl rfl rfl rfl rfl rfl rfl rfl ?_
  cases h : (getF l p).isSome with
  | false =>
    refine AK.run2 foll tokM COK.nil [(34, true), (35, true), (41, true)] 100 rfl ?_ (AK.retB [0] rfl ?_ rfl rfl rfl ?_)
    · simp [AllP]
    · simp [AllP]
    · intro j hj
      have : j = 0 := by simpa using hj
      subst this; rfl
  | true =>
    by_cases he : (getF l p).getD [] = t
    · rw [show (true && !((getF l p).getD [] == t)) = false by simp [he]]
      refine AK.run2 foll tokM COK.nil [(35, false), (41, true)] 100 rfl ?_ (AK.retB [0] rfl ?_ rfl rfl rfl ?_)
      · simp [AllP, he]
      · simp [AllP]
      · intro j hj
        have : j = 0 := by simpa using hj
        subst this; rfl
    · rw [show (true && !((getF l p).getD [] == t)) = true by simp [he]]
      refine AK.run2 foll tokM COK.nil [(35, false), (41, false)] 100 rfl ?_ ?_
      · simp [AllP, he]
      refine AK.callEv (ev_fput l p t hp ht) [0] rfl rfl rfl rfl rfl rfl rfl rfl rfl rfl rfl ?_
      refine AK.run2 foll tokM COK.nil [] 100 rfl trivial (AK.retB [0] rfl ?_ rfl rfl rfl ?_)
      · simp [AllP]
      · intro j hj
        have : j = 0 := by simpa using hj
        subst this; rfl

set_option maxRecDepth 20000 in
theorem ev_do3 (l : List FileT) (p : Bs) : Ev X 41 [.e (.one (.ref 0)), .e (.one (.c (.ifa 97 [.str p])))] [.opq (FH l)] (dB (getF l p).isSome) [.opq (FH (dropF l p))] := by
  refine Ev.body Try.func41 rfl rfl rfl fun hf0 => ?_
  refine AK.run2 foll tokM COK.nil [] 100 rfl trivial ?_
  refine AK.invokeEv (ev_path126 p) rfl rfl rfl meth97 rfl rfl ?_
  refine AK.run2 foll tokM COK.nil [] 100 rfl trivial ?_
  refine AK.callEv (ev_fget l p) [0] rfl rfl rfl rfl rfl rfl rfl rfl rfl rfl rfl ?_
  cases h : (getF l p).isSome with
  | false =>
    have hn : getF l p = none := by cases hg : getF l p with | none => rfl | some x => rw [hg] at h; cases h
    rw [dropF_none hn]
    refine AK.run2 foll tokM COK.nil [(54, true)] 100 rfl ?_ (AK.retB [0] rfl ?_ rfl rfl rfl ?_)
    · simp [AllP]
    · simp [AllP]
    · intro j hj
      have : j = 0 := by simpa using hj
      subst this; rfl
  | true =>
    refine AK.run2 foll tokM COK.nil [(54, false)] 100 rfl ?_ ?_
    · simp [AllP]
    refine AK.callEv (ev_fdrop l p) [0] rfl rfl rfl rfl rfl rfl rfl rfl rfl rfl rfl ?_
    refine AK.run2 foll tokM COK.nil [] 100 rfl trivial (AK.retB [0] rfl ?_ rfl rfl rfl ?_)
    · simp [AllP]
    · intro j hj
      have : j = 0 := by simpa using hj
      subst this; rfl
end Go.AM.R1

/- Plain laws: the program's way to do a change is the reference's. -/
namespace Go.AM.R1

theorem treeOk_iff {t : List FileT} : treeOk t = true ↔ (∀ f ∈ t, pathOk f.1 = true ∧ textOk f.2 = true) ∧ Sorted t ∧ t.Pairwise (fun a b => clash a.1 b.1 = false) ∧ t.length ≤ 6 := by
  constructor
  · intro h
    have hs := treeOk_sorted h
    simp only [treeOk, Bool.and_eq_true, decide_eq_true_eq] at h
    have hall := all_range.1 h.1
    refine ⟨fun f hf => ?_, hs, ?_, h.2⟩
    · obtain ⟨i, hi, rfl⟩ := List.getElem_of_mem hf
      have := hall i hi
      simp only [stepOk, Bool.and_eq_true] at this
      rw [fileAt hi]
      exact ⟨this.1.1.1, this.1.1.2⟩
    · rw [List.pairwise_iff_getElem]
      intro i j hi hj hij
      have := hall j hj
      simp only [stepOk, Bool.and_eq_true] at this
      have := all_range.1 this.2 i hij
      rw [fileAt hi, fileAt hj]
      simpa using this
  · rintro ⟨h1, h2, h3, h4⟩
    simp only [treeOk, Bool.and_eq_true, decide_eq_true_eq]
    refine ⟨all_range.2 fun i hi => ?_, h4⟩
    have hm := h1 _ (List.getElem_mem hi)
    rw [fileAt hi] at hm
    simp only [stepOk, Bool.and_eq_true, Bool.or_eq_true, beq_iff_eq]
    refine ⟨⟨hm, ?_⟩, all_range.2 fun j hj => ?_⟩
    · by_cases e : i = 0
      · exact .inl e
      · right
        have := List.pairwise_iff_getElem.1 h2 (i - 1) i (by omega) hi (by omega)
        rw [fileAt (by omega), fileAt hi] at this
        exact this
    · have := List.pairwise_iff_getElem.1 h3 j i (by omega) hi hj
      rw [fileAt (by omega), fileAt hi] at this
      simp [this]

theorem treeOk_filter {t : List FileT} (q : FileT → Bool) (h : treeOk t = true) : treeOk (t.filter q) = true := by
  obtain ⟨h1, h2, h3, h4⟩ := treeOk_iff.1 h
  exact treeOk_iff.2 ⟨fun f hf => h1 f (List.mem_filter.1 hf).1, h2.filter _, h3.filter _, Nat.le_trans (List.length_filter_le _ _) h4⟩

theorem put_true (f : FileT) : ∀ (t : List FileT) (xs : List FileT), t.foldl (putStep f) (xs, true) = (xs ++ t.filter (fun g => !(g.1 == f.1)), true)
  | [], xs => by simp
  | g :: r, xs => by
    have e : putStep f (xs, true) g = (xs ++ (if g.1 = f.1 then [] else [g]), true) := by
      unfold putStep put1 put2
      by_cases h : g.1 = f.1 <;> simp [h]
    rw [List.foldl_cons, e, put_true f r]
    by_cases h : g.1 = f.1 <;> simp [h]

theorem put_false (f : FileT) : ∀ (t : List FileT) (xs : List FileT), Sorted t → (if (t.foldl (putStep f) (xs, false)).2 = true then (t.foldl (putStep f) (xs, false)).1 else (t.foldl (putStep f) (xs, false)).1 ++ [f]) = xs ++ insF t f
  | [], xs, _ => by simp [insF]
  | g :: r, xs, hs => by
    have hs' := List.pairwise_cons.1 hs
    cases hb : Op.bytesLess g.1 f.1 with
    | true =>
      have hne := bl_ne hb
      have e : putStep f (xs, false) g = (xs ++ [g], false) := by
        unfold putStep put1 put2
        simp [hb, hne]
      rw [List.foldl_cons, e, put_false f r (xs ++ [g]) hs'.2]
      simp [insF, hne, bl_asymm hb]
    | false =>
      have hr : r.filter (fun x => !(x.1 == f.1)) = r := by
        apply List.filter_eq_self.2
        intro x hx
        have h1 := hs'.1 x hx
        simp only [Bool.not_eq_true', beq_eq_false_iff_ne, ne_eq]
        intro e
        rcases bl_total g.1 f.1 with h | h | h
        · rw [h] at hb; cases hb
        · rw [h, e, bl_irrefl] at h1; cases h1
        · rw [e] at h1; rw [bl_asymm h1] at h; cases h
      by_cases hg : g.1 = f.1
      · have e : putStep f (xs, false) g = (xs ++ [f], true) := by
          unfold putStep put1 put2
          simp [hg, bl_irrefl]
        rw [List.foldl_cons, e, put_true, hr]
        simp [insF, hg]
      · have e : putStep f (xs, false) g = (xs ++ [f] ++ [g], true) := by
          unfold putStep put1 put2
          simp [hb, hg]
        have hfg : Op.bytesLess f.1 g.1 = true := by
          rcases bl_total g.1 f.1 with h | h | h
          · rw [h] at hb; cases hb
          · exact absurd h hg
          · exact h
        rw [List.foldl_cons, e, put_true, hr]
        simp [insF, hg, hfg]

theorem putF_insF {t : List FileT} (f : FileT) (h : Sorted t) : putF t f = insF t f := by
  have := put_false f t [] h
  rw [List.nil_append] at this
  exact this

/-- What x.do does. -/
def doE (t : List FileT) (c : ChangeT) : Bool × List FileT :=
  if c.2.1 = 1 then (!(getF t c.1).isSome, if (getF t c.1).isSome then t else insF t (c.1, c.2.2))
  else if c.2.1 = 2 then ((getF t c.1).isSome && !((getF t c.1).getD [] == c.2.2), if ((getF t c.1).isSome && !((getF t c.1).getD [] == c.2.2)) then insF t (c.1, c.2.2) else t)
  else ((getF t c.1).isSome, dropF t c.1)

theorem canC_doE (t : List FileT) (c : ChangeT) : canC t c = (editOk c && (doE t c).1) := by
  unfold canC editOk doE
  by_cases h1 : c.2.1 = 1
  · simp [h1]
  by_cases h2 : c.2.1 = 2
  · simp [h2]
  by_cases h3 : c.2.1 = 3
  · simp [h3, Bool.and_comm]
    cases c.2.2 <;> simp
  · simp [h1, h2, h3]

theorem doStep_eq {t : List FileT} (ht : treeOk t = true) (c : ChangeT) : doStep t c = if (editOk c && (doE t c).1 && treeOk (doE t c).2) = true then some (doE t c).2 else none := by
  have hs := treeOk_sorted ht
  unfold doStep
  rw [← canC_doE]
  cases hc : canC t c with
  | false => simp
  | true =>
    simp only [if_true, Bool.true_and]
    by_cases h3 : c.2.1 = 3
    · have e : (doE t c).2 = dropF t c.1 := by simp [doE, h3]
      have e3 : treeOk (dropF t c.1) = true := treeOk_filter _ ht
      rw [if_pos h3, e, e3]; rfl
    · rw [if_neg h3]
      have e : (doE t c).2 = putF t (c.1, c.2.2) := by
        rw [putF_insF _ hs]
        unfold canC at hc
        unfold doE
        by_cases h1 : c.2.1 = 1
        · simp [h1] at hc ⊢
          simp [hc]
        by_cases h2 : c.2.1 = 2
        · simp [h2] at hc ⊢
          intro h4
          simp [hc.1] at h4
          exact absurd h4 hc.2
        · simp [h1, h2, h3] at hc
      rw [e]
      unfold treePut
      cases hp : treeOk (putF t (c.1, c.2.2)) with
      | false => split <;> simp
      | true =>
        have hm : (c.1, c.2.2) ∈ putF t (c.1, c.2.2) := by
          rw [putF_insF _ hs]
          exact (insF_mem hs _ _).2 (.inl ⟨rfl, rfl⟩)
        obtain ⟨h5, h6⟩ := (treeOk_iff.1 hp).1 _ hm
        have hc3 : treeOk t = true ∧ pathOk c.1 = true ∧ textOk c.2.2 = true := ⟨ht, h5, h6⟩
        simp only [hc3, and_self, if_true]
end Go.AM.R1

/- The program's TreeDo is the reference's. -/
namespace Go.AM.R1
open Go.Proofs
variable {X : Cx Try.prog}

theorem insF_len : ∀ (t : List FileT) (f : FileT), (insF t f).length ≤ t.length + 1
  | [], f => by simp [insF]
  | g :: r, f => by
    have := insF_len r f
    simp only [insF]
    split
    · simp
    · split
      · simp
      · simp; exact this

theorem doE_len (t : List FileT) (c : ChangeT) : (doE t c).2.length ≤ t.length + 1 := by
  have h1 := insF_len t (c.1, c.2.2)
  have h2 := dropF_len t c.1
  unfold doE
  split
  · simp only; split <;> omega
  · split
    · simp only; split <;> omega
    · simp only; omega

/-- do, of whatever a change is made into. -/
theorem ev_doI (l : List FileT) (c : ChangeT) (hp : c.1.length ≤ 9223372036854775807) (ht : c.2.2.length ≤ 9223372036854775807) (hok : editOk c = true) :
    (editC c = .ifa 94 [.str c.1, .str c.2.2] ∧ Ev X 41 [.e (.one (.ref 0)), .e (.one (.c (.ifa 94 [.str c.1, .str c.2.2])))] [.opq (FH l)] (dB (doE l c).1) [.opq (FH (doE l c).2)]) ∨
    (editC c = .ifa 95 [.str c.1, .str c.2.2] ∧ Ev X 41 [.e (.one (.ref 0)), .e (.one (.c (.ifa 95 [.str c.1, .str c.2.2])))] [.opq (FH l)] (dB (doE l c).1) [.opq (FH (doE l c).2)]) ∨
    (editC c = .ifa 97 [.str c.1] ∧ Ev X 41 [.e (.one (.ref 0)), .e (.one (.c (.ifa 97 [.str c.1])))] [.opq (FH l)] (dB (doE l c).1) [.opq (FH (doE l c).2)]) := by
  obtain ⟨p, k, t⟩ := c
  by_cases h1 : k = 1
  · refine .inl ⟨by simp [editC, h1], ?_⟩
    have := ev_do1 (X := X) l p t hp ht
    simpa [doE, h1] using this
  by_cases h2 : k = 2
  · refine .inr (.inl ⟨by simp [editC, h2], ?_⟩)
    have := ev_do2 (X := X) l p t hp ht
    simpa [doE, h2] using this
  by_cases h3 : k = 3 ∧ t = []
  · refine .inr (.inr ⟨by simp [editC, h3.1, h3.2], ?_⟩)
    have := ev_do3 (X := X) l p
    simpa [doE, h3.1, h3.2] using this
  · exfalso; simp [editOk, h1, h2, h3] at hok

theorem editC_no {c : ChangeT} (h : editOk c = false) : editC c = .nili := by
  simp [editOk] at h
  unfold editC
  rw [if_neg h.1, if_neg h.2.1, if_neg (fun e => h.2.2 e.1 e.2)]

theorem Fits.cell {args : List D} {σ : List Box} (h : Fits args σ) (k : Nat) {t : Bool} {kk n : Nat} {es : Nat → List C} (hk : args[k]? = some (.e (.one (.c (.sl t kk n es))))) {i j : Nat} {p : Bs} (hi : i < n) (hj : (es i)[j]? = some (.str p)) : p.length ≤ 9223372036854775807 := by
  obtain ⟨s, vs, hr, _⟩ := h
  have := (RdDs.get hr).2 k
  rw [hk] at this
  have := rdC (show RdD σ s ((vs[k]?).getD undef) (.e (.one (.c (.sl t kk n es)))) from this)
  generalize (vs[k]?).getD undef = v at this
  cases this with
  | sl b off f h1 h2 h3 h4 h5 h6 h7 =>
    have := h7 i hi j _ hj
    generalize f i j = u at this
    cases this with
    | str e hl => exact hl

set_option maxRecDepth 20000 in
theorem ev_treeDoIB (hs : SortOK X) (t : List FileT) (l : List ChangeT) : Ev X 14 [cF.sl t, cC.sl l] [] (tVB 0 ((treeDo t l).getD []) (treeDo t l).isSome) [bV ((treeDo t l).getD [])] := by
  refine Ev.body Try.func14 rfl rfl rfl fun hf0 => ?_
  have hlen := hf0.sl 1 rfl
  cases h1 : treeOk t with
  | false =>
    have hnone : treeDo t l = none := by simp [treeDo, h1]
    refine AK.run2 foll tokM cok20 [(13, true)] 100 rfl ?_ (AK.adopt0 4 59 2 (cF.fn []) rfl (AK.retB [0] rfl ?_ (by rw [hnone]; rfl) rfl rfl (fun j hj => by simp at hj)))
    · simp [AllP, cF.list_fn, cF.fits_fn, treeOk_eq, h1]
    · simp [AllP, AllP.cat, hnone, EqF.same]
  | true =>
    have hl := treeOk_len h1
    refine AK.run2 foll tokM cok20 [(13, false)] 100 rfl ?_ ?_
    · simp [AllP, cF.list_fn, cF.fits_fn, treeOk_eq, h1]
    refine AK.callEv (ev_foldersOf t (treeOk_small h1)) [] rfl rfl rfl rfl rfl rfl rfl rfl rfl rfl rfl ?_
    rw [accF_sorted (treeOk_sorted h1)]
    refine AK.run2 foll tokM cok20 [] 100 rfl trivial ?_
    refine AK.loopD 1 (fun s : Nat × List FileT => s.1 ≤ l.length ∧ doGo t (l.take s.1) = some s.2 ∧ treeOk s.2 = true) (fun s => [(6, .e (.one (.ref 0))), (16, cC.sl l), (17, dI l.length), (18, dI s.1)]) (fun s => [.opq (FH s.2)]) (fun s => l.length - s.1) (0, t) rfl ?_ rfl ?_ rfl ⟨by omega, rfl, h1⟩ ?_
    · simp [AllP, AllP.cat, EqF.same]
    · simp [AllP, AllP.cat]
    rintro ⟨i, cur⟩ ⟨hi, hgo, hcur⟩
    simp only at hi hgo hcur
    have hcl := treeOk_len hcur
    by_cases h : i < l.length
    · have hgo2 : doGo t (l.take (i + 1)) = doStep cur (pthC l i, kndC l i, txtC l i) := by
        rw [List.take_add_one, List.getElem?_eq_getElem h, changeAt h, doGo_append, hgo]
        simp only [Option.bind_some, Option.toList_some, doGo]
        cases doStep cur _ <;> rfl
      have hbadl : doStep cur (pthC l i, kndC l i, txtC l i) = none → treeDo t l = none := by
        intro hn
        rw [treeDo, h1, if_pos rfl, ← List.take_append_drop (i + 1) l, doGo_append, hgo2, hn]; rfl
      rw [doStep_eq hcur] at hgo2 hbadl
      have hcp : (l.getD i cC.dflt).1.length ≤ 9223372036854775807 := Fits.cell hf0 1 (j := 0) rfl h rfl
      have hct : (l.getD i cC.dflt).2.2.length ≤ 9223372036854775807 := Fits.cell hf0 1 (j := 2) rfl h rfl
      have ec : (pthC l i, kndC l i, txtC l i) = l.getD i cC.dflt := rfl
      rw [ec] at hgo2 hbadl
      refine AK.run2 foll tokM cok20 [(19, true)] 200 rfl ?_ ?_
      · simp [-List.getD_eq_getElem?_getD, AllP, h]
      refine AK.callEv (ev_editOf (l.getD i cC.dflt)) [] rfl rfl rfl rfl rfl rfl rfl rfl rfl rfl rfl ?_
      generalize l.getD i cC.dflt = c at hcp hct hgo2 hbadl ⊢
      cases hok : editOk c with
      | false =>
        rw [editC_no hok]
        refine AK.run2 foll tokM cok20 [(29, true), (35, true), (40, true)] 60 rfl ?_ (AK.adopt0 4 59 2 (cF.fn []) rfl (AK.retD (RetQ.mk [2] rfl ?_ (by rw [hbadl (by simp [hok])]; rfl) rfl rfl (fun j hj => by simp at hj))))
        · simp [AllP]
        · simp [AllP, AllP.cat, hbadl (by simp [hok]), EqF.same]
      | true =>
        rcases ev_doI (X := X) cur c hcp hct hok with ⟨hE, hdo⟩ | ⟨hE, hdo⟩ | ⟨hE, hdo⟩
        all_goals rw [hE]
        all_goals
          refine AK.run2 foll tokM cok20 [(29, false)] 60 rfl ?_ ?_
          · simp [AllP]
          refine AK.callEvW hdo [0] rfl rfl rfl rfl rfl rfl rfl rfl rfl rfl rfl ?_
          cases hd : (doE cur c).1 with
          | false =>
            refine AK.run2 foll tokM cok20 [(35, true), (40, true)] 60 rfl ?_ (AK.adopt0 4 59 2 (cF.fn []) rfl (AK.retD (RetQ.mk [2] rfl ?_ (by rw [hbadl (by simp [hd])]; rfl) rfl rfl (fun j hj => by simp at hj))))
            · simp [AllP]
            · simp [AllP, AllP.cat, hbadl (by simp [hd]), EqF.same]
          | true =>
            have hle := doE_len cur c
            refine AK.run2 foll tokM cok20 [(35, false)] 60 rfl ?_ ?_
            · simp [AllP]
            refine AK.callEvW (ev_files hs (doE cur c).2 (by omega)) [0] rfl rfl rfl rfl rfl rfl rfl rfl rfl rfl rfl ?_
            cases hto : treeOk (doE cur c).2 with
            | false =>
              refine AK.run2 foll tokM cok20 [(40, true)] 60 rfl ?_ (AK.adopt0 4 59 2 (cF.fn []) rfl (AK.retD (RetQ.mk [2] rfl ?_ (by rw [hbadl (by simp [hto])]; rfl) rfl rfl (fun j hj => by simp at hj))))
              · simp [AllP, cF.list_fn, cF.fits_fn, treeOk_eq, hto]
              · simp [AllP, AllP.cat, hbadl (by simp [hto]), EqF.same]
            | true =>
              refine AK.run2 foll tokM cok20 [(40, false)] 60 rfl ?_ (AK.againD (i + 1, (doE cur c).2) rfl ?_ rfl rfl rfl ?_ rfl ?_ ?_)
              · simp [AllP, cF.list_fn, cF.fits_fn, treeOk_eq, hto, inR]; omega
              · simp [AllP, AllP.cat, EqF.same]
              · simp [AllP, AllP.cat]
              · exact ⟨by simp only; omega, by simp only; rw [hgo2]; simp [hok, hd, hto], hto⟩
              · simp only; omega
    · have : i = l.length := by omega
      subst this
      rw [List.take_length] at hgo
      refine AK.run2 foll tokM cok20 [(19, false)] 100 rfl (by simp [AllP]) (AK.leaveD rfl rfl ?_)
      refine AK.run2 foll tokM cok20 [] 100 rfl trivial ?_
      have hsome : treeDo t l = some cur := by simp [treeDo, h1, hgo]
      refine AK.callEv (ev_filesB hs cur (by omega)) [0] rfl rfl rfl rfl rfl rfl rfl rfl rfl rfl rfl ?_
      refine AK.run2 foll tokM cok20 [] 100 rfl trivial (AK.retB [1] rfl ?_ (by rw [hsome]; rfl) rfl rfl (fun j hj => by simp at hj))
      simp [AllP, AllP.cat, hsome, EqF.same]

theorem ev_treeDoI (hs : SortOK X) (t : List FileT) (l : List ChangeT) : Ev X 14 [cF.sl t, cC.sl l] [] (tFB ((treeDo t l).getD []) (treeDo t l).isSome) [] :=
  (ev_treeDoIB hs t l).forget rfl (by simp [AllP, AllP.cat, EqF.same]) rfl
end Go.AM.R1

/- The program's TreeDiff is the reference's. -/
namespace Go.AM.R1
open Go.Proofs
variable {X : Cx Try.prog}

set_option maxRecDepth 20000 in
theorem ev_treeDiffI (a b : List FileT) : Ev X 16 [cF.sl a, cF.sl b] [] (cC.sl (treeDiff a b)) [] := by
  refine Ev.body Try.func16 rfl rfl rfl fun hf => ?_
  cases h1 : treeOk a with
  | false =>
    refine AK.run2 foll tokM cok20 [(19, true), (23, true)] 100 rfl ?_ (AK.ret0 rfl ?_)
    · simp [AllP, cF.list_fn, cF.fits_fn, treeOk_eq, h1]
    · simp [AllP, treeDiff, h1]
  | true =>
    cases h2 : treeOk b with
    | false =>
      refine AK.run2 foll tokM cok20 [(19, false), (23, true)] 100 rfl ?_ (AK.ret0 rfl ?_)
      · simp [AllP, cF.list_fn, cF.fits_fn, treeOk_eq, h1, h2]
      · simp [AllP, treeDiff, h2]
    | true =>
      have hla := treeOk_len h1
      have hlb := treeOk_len h2
      refine AK.run2 foll tokM cok20 [(19, false), (23, false)] 100 rfl ?_ ?_
      · simp [AllP, cF.list_fn, cF.fits_fn, treeOk_eq, h1, h2]
      refine AK.callEv (ev_foldersOf a (treeOk_small h1)) [] rfl rfl rfl rfl rfl rfl rfl rfl rfl rfl rfl ?_
      rw [accF_sorted (treeOk_sorted h1)]
      refine AK.run2 foll tokM cok20 [] 100 rfl trivial ?_
      refine AK.callEv (ev_foldersOf b (treeOk_small h2)) [] rfl rfl rfl rfl rfl rfl rfl rfl rfl rfl rfl ?_
      rw [accF_sorted (treeOk_sorted h2)]
      refine AK.run2 foll tokM cok20 [] 7 rfl trivial ?_
      refine AK.adopt 7 33 3 rfl rfl ?_
      refine AK.run2 foll tokM cok20 [] 100 rfl trivial ?_
      refine AK.loopD 3 (fun i => i ≤ a.length) (fun i : Nat => [(1, cF.sl b), (5, .e (.one (.ref 0))), (6, .e (.one (.ref 1))), (28, cF.sl a), (29, dI a.length), (30, dI i), (7, dW 2 (dels (a.take i) b))]) (fun i => [.opq (FH a), .opq (FH b), bW (dels (a.take i) b)]) (fun i => a.length - i) 0 rfl ?_ rfl ?_ rfl (by omega) ?_
      · simp [AllP, AllP.cat, EqF, dels]
      · simp [AllP, AllP.cat, EqF, dels]
      intro i hi
      by_cases h : i < a.length
      · have hd := dels_take (b := b) h
        have hl : (dels (a.take i) b).length ≤ 6 := by have := dels_len (a.take i) b; simp at this; omega
        refine AK.run2 foll tokM cok20 [(31, true)] 100 rfl ?_ ?_
        · simp [-List.getD_eq_getElem?_getD, AllP, h]
        refine AK.callEv (ev_fget b (pth a i)) [1] rfl rfl rfl rfl rfl rfl rfl rfl rfl rfl rfl ?_
        cases h3 : (getF b (pth a i)).isSome with
        | true =>
          have hd1 : del1 b (pth a i, txt a i) = [] := if_pos h3
          rw [hd1, List.append_nil] at hd
          refine AK.run2 foll tokM cok20 [(42, false)] 100 rfl ?_ (AK.againD (i + 1) rfl ?_ rfl rfl rfl ?_ rfl ?_ ?_)
          · simp [AllP, inR]; omega
          · rw [hd]; simp [AllP, AllP.cat, EqF.same]
          · rw [hd]; simp [AllP, AllP.cat, EqF.same]
          · omega
          · omega
        | false =>
          have hd1 : del1 b (pth a i, txt a i) = [(pth a i, 3, [])] := if_neg (by simp [h3])
          rw [hd1] at hd
          refine AK.run2 foll tokM cok20 [(42, true)] 100 rfl ?_ (AK.againD (i + 1) rfl ?_ rfl rfl rfl ?_ rfl ?_ ?_)
          · simp [AllP, inR, i33]; omega
          · rw [hd]; simp [-List.getD_eq_getElem?_getD, AllP, AllP.cat, EqF.same]
            exact cC.fn_push _ (pth a i, 3, [])
          · rw [hd]; simp [-List.getD_eq_getElem?_getD, AllP, AllP.cat]
            exact cC.fn_push _ (pth a i, 3, [])
          · omega
          · omega
      · have : i = a.length := by omega
        subst this
        rw [List.take_length]
        refine AK.run2 foll tokM cok20 [(31, false)] 100 rfl (by simp [AllP]) (AK.leaveD rfl rfl ?_)
        refine AK.run2 foll tokM cok20 [] 100 rfl trivial ?_
        let R : Nat → List ChangeT := fun i => dels a b ++ news a (b.take i)
        refine AK.loopD 3 (fun i => i ≤ b.length) (fun i : Nat => [(5, .e (.one (.ref 0))), (50, cF.sl b), (51, dI b.length), (52, dI i), (7, dW 2 (R i))]) (fun i => [.opq (FH a), .opq (FH b), bW (R i)]) (fun i => b.length - i) 0 rfl ?_ rfl ?_ rfl (by omega) ?_
        · simp [AllP, AllP.cat, EqF, R, news]
        · simp [AllP, AllP.cat, EqF, R, news]
        intro i hi
        have hR : ∀ i, i ≤ b.length → (R i).length ≤ 12 := by
          intro i hi
          have := dels_len a b
          have := news_len a (b.take i)
          simp [R] at this ⊢; omega
        by_cases h : i < b.length
        · have hd : R (i + 1) = R i ++ new1 a (pth b i, txt b i) := by simp only [R]; rw [news_take h, List.append_assoc]
          have hl := hR i hi
          refine AK.run2 foll tokM cok20 [(53, true)] 100 rfl ?_ ?_
          · simp [-List.getD_eq_getElem?_getD, AllP, h]
          refine AK.callEv (ev_fget a (pth b i)) [0] rfl rfl rfl rfl rfl rfl rfl rfl rfl rfl rfl ?_
          cases h3 : (getF a (pth b i)).isSome with
          | false =>
            have hd1 : new1 a (pth b i, txt b i) = [(pth b i, 1, txt b i)] := if_neg (by simp [h3])
            rw [hd1] at hd
            refine AK.run2 foll tokM cok20 [(63, true)] 100 rfl ?_ (AK.againD (i + 1) rfl ?_ rfl rfl rfl ?_ rfl ?_ ?_)
            · simp [AllP, inR, i33]; omega
            · rw [hd]; simp [-List.getD_eq_getElem?_getD, AllP, AllP.cat, EqF.same]
              exact cC.fn_push _ (pth b i, 1, txt b i)
            · rw [hd]; simp [-List.getD_eq_getElem?_getD, AllP, AllP.cat]
              exact cC.fn_push _ (pth b i, 1, txt b i)
            · omega
            · omega
          | true =>
            by_cases h4 : (getF a (pth b i)).getD [] = txt b i
            · have hd1 : new1 a (pth b i, txt b i) = [] := by unfold new1; rw [if_pos h3, if_pos h4]
              rw [hd1, List.append_nil] at hd
              refine AK.run2 foll tokM cok20 [(63, false), (74, false)] 100 rfl ?_ (AK.againD (i + 1) rfl ?_ rfl rfl rfl ?_ rfl ?_ ?_)
              · simp [-List.getD_eq_getElem?_getD, AllP, txt_eq, h4, inR]; omega
              · rw [hd]; simp [AllP, AllP.cat, EqF.same]
              · rw [hd]; simp [AllP, AllP.cat, EqF.same]
              · omega
              · omega
            · have hd1 : new1 a (pth b i, txt b i) = [(pth b i, 2, txt b i)] := by unfold new1; rw [if_pos h3, if_neg h4]
              rw [hd1] at hd
              refine AK.run2 foll tokM cok20 [(63, false), (74, true)] 100 rfl ?_ (AK.againD (i + 1) rfl ?_ rfl rfl rfl ?_ rfl ?_ ?_)
              · simp [-List.getD_eq_getElem?_getD, AllP, txt_eq, h4, inR, i33]; omega
              · rw [hd]; simp [-List.getD_eq_getElem?_getD, AllP, AllP.cat, EqF.same]
                exact cC.fn_push _ (pth b i, 2, txt b i)
              · rw [hd]; simp [-List.getD_eq_getElem?_getD, AllP, AllP.cat]
                exact cC.fn_push _ (pth b i, 2, txt b i)
              · omega
              · omega
        · have : i = b.length := by omega
          subst this
          refine AK.run2 foll tokM cok20 [(53, false)] 100 rfl (by simp [AllP]) (AK.leaveD rfl rfl ?_)
          refine AK.run2 foll tokM cok20 [] 100 rfl trivial (AK.ret0 rfl ?_)
          simp [AllP, treeDiff, h1, h2, R, EqF.same]
end Go.AM.R1

/- The drawing helpers: what they come to is told no nearer than is needed. -/
namespace Go.AM.R1
open Go.Proofs
variable {X : Cx Try.prog}

/-- Bytes, as a program has them. -/
def bys (b : Nat → Int) : Nat → List C := fun i => [.int .u8 (b i)]
def Bytes (b : Nat → Int) : Prop := ∀ i, 0 ≤ b i ∧ b i ≤ 255

abbrev rdB (m : Nat) (b : Nat → Int) (k : Int) : Box := .cells 107 [.c (.sl false 1 m (bys b)), .c (.int .i64 k)]

theorem EvI.bodyI {ι : Type} {f : FuncId} {fn : Func} {c : Code} {args : List D} {σ : List Box} {σ' : ι → List Box} {res : ι → D} (hf : Try.prog.funcs[f]? = some fn) (hnum : (fn.name == "runtime.NumGoroutine") = false) (hb : fn.body = some c) (hlen : Nat.ble args.length fn.ntmps = true)
    (h : Fits args σ → AK X fn.ntmps (fun e φ σ1 => ∃ j, RetQ fn σ.length (res j) (σ' j) e φ σ1) [.code c] .normal (argFr 0 args) σ) : EvI X f args σ res σ' :=
  EvI.introT hf hnum hb hlen fun hF => AW.top (AK.of_code (h hF))

theorem AK.retI {ι : Type} {fn : Func} {n0 : Nat} {res : ι → D} {σ' : ι → List Box} {N : Nat} {φ : Fr} {σ : List Box} {K : List It} (i : ι) (k : AK X N (RetQ fn n0 (res i) (σ' i)) K .normal φ σ) : AK X N (fun e φ σ1 => ∃ j, RetQ fn n0 (res j) (σ' j) e φ σ1) K .normal φ σ :=
  AK.monoQ (fun _ _ _ q => ⟨i, q⟩) k

theorem AK.retPick {fn : Func} {n0 : Nat} {n : Int} {σ' : List Box} {N : Nat} {φ : Fr} {σ : List Box} {K : List It} (ks : List Nat) {e : Int} (hr : resD φ fn.results.toList = some [dI e]) (h0 : 0 ≤ e) (h1 : e < n) (hs : sel ks σ = some σ') (hpl : plainR σ' = true) (hn : nodupX ks = true) (hk : ∀ j, j < n0 → ks[j]? = some j) :
    AK X N (fun ex φ σ1 => ∃ j : { v : Int // 0 ≤ v ∧ v < n }, RetQ fn n0 (dI j.1) σ' ex φ σ1) (.code .ret :: K) .normal φ σ := by
  refine AK.retI (ι := { v : Int // 0 ≤ v ∧ v < n }) (res := fun j => dI j.1) (σ' := fun _ => σ') ⟨e, h0, h1⟩ (AK.retB (ps := [e = e]) ks ?_ (by simp [AllP]) hs hpl hn hk)
  unfold retE
  rw [hr]
  rfl

/-- What the reader picks. -/
def pickV (m : Nat) (b : Nat → Int) (k : Nat) (n : Int) : Int :=
  if m = 0 then 0 else if k < m then b k % n else
    ((b ((k : Int) % m).toNat * 131 + b (((k : Int) * 7 + 3) % m).toNat * 1117 + k * 29 + (k : Int) / m * 53).toNat ^^^ ((b ((k : Int) % m).toNat * 131 + b (((k : Int) * 7 + 3) % m).toNat * 1117 + k * 29 + (k : Int) / m * 53) / 64).toNat : Nat) % n
set_option maxRecDepth 20000 in
theorem ev_pickV (m : Nat) (b : Nat → Int) (hb : Bytes b) (k : Nat) (n : Int) (hk : k ≤ 1000000) (hm : m ≤ 1048576) (hn : 1 ≤ n ∧ n ≤ 1000000) :
    Ev X 45 [.e (.one (.ptr 0 0)), dI n] [rdB m b k] (dI (pickV m b k n)) [rdB m b (k + 1)] := by
  refine Ev.body Try.func45 rfl rfl rfl fun hf0 => ?_
  have fx : ∀ j, j < ([rdB m b k] : List Box).length → ([0] : List Nat)[j]? = some j := fun j hj => by
    have : j = 0 := by simpa using hj
    subst this; rfl
  by_cases h0 : m = 0
  · subst h0
    refine AK.run2 foll tok COK.nil [(17, false), (24, true)] 100 rfl ?_ (AK.retB [0] rfl ?_ rfl rfl rfl fx)
    · simp [AllP, inR]; omega
    · simp [AllP, pickV]
  have ek : ((k : Int) + 1 - 1) = k := by omega
  have ek2 : ((k : Int) + 1 - 1).toNat = k := by omega
  have hbk := hb k
  by_cases h1 : (k : Int) < m
  · refine AK.run2 foll tok COK.nil [(17, false), (24, false), (36, true)] 100 rfl ?_ (AK.retB [0] rfl ?_ rfl rfl rfl fx)
    · simp only [AllP, ek, Int.toNat_natCast, decide_eq_true_eq, decide_eq_false_iff_not, beq_eq_false_iff_ne, inR]
      omega
    · have : k < m := by omega
      simp [AllP, pickV, h0, this]
  · refine AK.run2 foll tok COK.nil [(17, false), (24, false), (36, false)] 200 rfl ?_ (AK.retB [0] rfl ?_ rfl rfl rfl fx)
    · simp only [AllP, ek, decide_eq_false_iff_not, beq_eq_false_iff_ne, inR]
      have hm0 : (0 : Int) < m := by omega
      have u1 := Int.emod_nonneg (k : Int) (by omega : (m : Int) ≠ 0)
      have u2 := Int.emod_lt_of_pos (k : Int) hm0
      have v1 := Int.emod_nonneg ((k : Int) * 7 + 3) (by omega : (m : Int) ≠ 0)
      have v2 := Int.emod_lt_of_pos ((k : Int) * 7 + 3) hm0
      have w1 : 0 ≤ (k : Int) / m := Int.ediv_nonneg (by omega) (by omega)
      have w2 : (k : Int) / m ≤ k := Int.ediv_le_self _ (by omega)
      generalize (k : Int) % m = u at *
      generalize ((k : Int) * 7 + 3) % m = v at *
      generalize (k : Int) / m = w at *
      have x1 := hb u.toNat
      have y1 := hb v.toNat
      generalize b u.toNat = x at *
      generalize b v.toNat = y at *
      omega
    · have : ¬ k < m := by omega
      simp [AllP, pickV, h0, this, ek]
theorem pickV_range (m : Nat) (b : Nat → Int) (k : Nat) (n : Int) (hn : 1 ≤ n) : 0 ≤ pickV m b k n ∧ pickV m b k n < n := by
  unfold pickV
  split
  · omega
  · split
    · exact ⟨Int.emod_nonneg _ (by omega), Int.emod_lt_of_pos _ (by omega)⟩
    · exact ⟨Int.emod_nonneg _ (by omega), Int.emod_lt_of_pos _ (by omega)⟩


theorem ev_pick (m : Nat) (b : Nat → Int) (hb : Bytes b) (k : Nat) (n : Int) (hk : k ≤ 1000000) (hm : m ≤ 1048576) (hn : 1 ≤ n ∧ n ≤ 1000000) :
    EvI (ι := { v : Int // 0 ≤ v ∧ v < n }) X 45 [.e (.one (.ptr 0 0)), dI n] [rdB m b k] (fun v => dI v.1) (fun _ => [rdB m b (k + 1)]) := by
  have h := ev_pickV (X := X) m b hb k n hk hm hn
  exact ⟨h.1, fun s vs hr hh S cs hS => h.2 s vs hr hh S cs (hS ⟨_, pickV_range m b k n hn.1⟩)⟩

/-- The bytes that are there. -/
def bOf (es : Nat → List C) : Nat → Int := fun i => intAt (es i) 0

def c45 : CtF := fun args σ => match args, σ with
  | [.e (.one (.ptr 0 0)), .e (.one (.c (.int .i64 n)))], [.cells 107 [.c (.sl false 1 m es), .c (.int .i64 k)]] =>
    some (dI (pickV m (bOf es) k.toNat n), [rdB m (bOf es) (k + 1)], [k = k.toNat, es = bys (bOf es), Bytes (bOf es), k ≤ 1000000, m ≤ 1048576, 1 ≤ n, n ≤ 1000000])
  | _, _ => none

theorem t45 : EvT X 45 c45 := by
  intro args σ res σ' obs h ho
  unfold c45 at h
  split at h
  · rename_i n m es k
    cases h
    obtain ⟨h1, h2, h3, h4, h5, h6, h7⟩ := ho
    have := ev_pickV (X := X) m (bOf es) h3 k.toNat n (by omega) h5 ⟨h6, h7⟩
    rw [← h1] at this
    have e : Box.cells 107 [A.c (C.sl false 1 m es), A.c (C.int IntKind.i64 k)] = rdB m (bOf es) k := by
      show _ = Box.cells 107 [A.c (C.sl false 1 m (bys (bOf es))), A.c (C.int IntKind.i64 k)]
      rw [← h2]
    rw [e]
    exact this
  · cases h
end Go.AM.R1

/- The drawing helpers: of, l91Path. -/
namespace Go.AM.R1
open Go.Proofs
variable {X : Cx Try.prog}

theorem fix0 : ∀ j, j < 1 → ([0] : List Nat)[j]? = some j := fun j hj => by
  have : j = 0 := by omega
  subst this; rfl

set_option maxRecDepth 20000 in
theorem ev_of (m : Nat) (b : Nat → Int) (hb : Bytes b) (k : Nat) (hk : k ≤ 1000000) (hm : m ≤ 1048576) (l : List Bs) (hl : 1 ≤ l.length ∧ l.length ≤ 1000) :
    EvI (ι := { p : Bs // p ∈ l }) X 47 [.e (.one (.ptr 0 0)), cS.sl l] [rdB m b k] (fun p => dS p.1) (fun _ => [rdB m b (k + 1)]) := by
  refine EvI.bodyI Try.func47 rfl rfl rfl fun hf0 => ?_
  refine AK.run2 foll tok COK.nil [] 100 rfl trivial ?_
  refine AK.callEvI (ev_pick m b hb k l.length hk hm (by omega)) [0] rfl rfl rfl rfl rfl rfl rfl (fun _ => rfl) rfl (fun _ => rfl) rfl ?_
  rintro ⟨v, v0, v1⟩
  refine AK.run2 foll tok COK.nil [] 100 rfl ?_ ?_
  · simp [AllP]; omega
  have hmem : l.getD v.toNat cS.dflt ∈ l := by
    have hlt : v.toNat < l.length := by omega
    rw [List.getD_eq_getElem?_getD, List.getElem?_eq_getElem hlt]
    exact List.getElem_mem hlt
  refine AK.retI ⟨l.getD v.toNat cS.dflt, hmem⟩ (AK.retB [0] rfl ?_ rfl rfl rfl fix0)
  simp [AllP]

def paths1 : List Bs := [[], [102], [97, 47], [97, 98], [97, 47, 98, 47, 99], [47, 97]]
def paths2 : List Bs := [[97], [98], [99, 47, 97], [99, 47, 98], [100, 47, 97], [101], [97, 47, 98], [100]]

set_option maxRecDepth 20000 in
theorem ev_path (m : Nat) (b : Nat → Int) (hb : Bytes b) (k : Nat) (hk : k ≤ 100000) (hm : m ≤ 1048576) :
    EvI (ι := { p : Bs // p.length ≤ 8 }) X 46 [.e (.one (.ptr 0 0))] [rdB m b k] (fun p => dS p.1) (fun _ => [rdB m b (k + 1 + 1)]) := by
  refine EvI.bodyI Try.func46 rfl rfl rfl fun hf0 => ?_
  refine AK.run2 foll tok COK.nil [] 100 rfl trivial ?_
  refine AK.callEvI (ev_pick m b hb k 40 (by omega) hm (by omega)) [0] rfl rfl rfl rfl rfl rfl rfl (fun _ => rfl) rfl (fun _ => rfl) rfl ?_
  rintro ⟨v, v0, v1⟩
  by_cases h : v = 0
  · refine AK.run2 foll tok COK.nil [(5, true)] 100 rfl ?_ ?_
    · simp [AllP, h]
    have := ev_of (X := X) m b hb (k + 1) (by omega) hm paths1 (by decide)
    refine AK.callEvL this [0] rfl rfl rfl rfl ?_ rfl rfl rfl (fun _ => rfl) rfl (fun _ => rfl) rfl ?_
    · refine ⟨rfl, fun i hi => ?_⟩
      rcases i with _ | _ | _ | _ | _ | _ | i <;> first | rfl | omega
    rintro ⟨p, hp⟩
    refine AK.run2 foll tok COK.nil [] 100 rfl trivial (AK.retI ⟨p, (by decide : ∀ p ∈ paths1, p.length ≤ 8) p hp⟩ (AK.retB [0] rfl ?_ rfl rfl rfl fix0))
    simp [AllP]
  · refine AK.run2 foll tok COK.nil [(5, false)] 100 rfl ?_ ?_
    · simp [AllP, h]
    have := ev_of (X := X) m b hb (k + 1) (by omega) hm paths2 (by decide)
    refine AK.callEvL this [0] rfl rfl rfl rfl ?_ rfl rfl rfl (fun _ => rfl) rfl (fun _ => rfl) rfl ?_
    · refine ⟨rfl, fun i hi => ?_⟩
      rcases i with _ | _ | _ | _ | _ | _ | _ | _ | i <;> first | rfl | omega
    rintro ⟨p, hp⟩
    refine AK.run2 foll tok COK.nil [] 100 rfl trivial (AK.retI ⟨p, (by decide : ∀ p ∈ paths2, p.length ≤ 8) p hp⟩ (AK.retB [0] rfl ?_ rfl rfl rfl fix0))
    simp [AllP]
end Go.AM.R1

/- The drawing helpers: l91Text. -/
namespace Go.AM.R1
open Go.Proofs
variable {X : Cx Try.prog}

def words : List Bs := [[97, 98, 99], [104, 101, 108, 108, 111], [119, 111, 114, 108, 100], [97, 97, 97, 97], [107, 101, 101, 112], [122, 122], [98, 97, 99, 107, 117, 112], [113]]

/-- A short string, and how far the reader has come. -/
abbrev TextI (k : Nat) := { q : Bs × Nat // q.1.length ≤ 100000 ∧ k ≤ q.2 ∧ q.2 ≤ k + 60 }

/-- Some string, not too long. -/
theorem ev_many (s : Bs) (n : Int) (hs : s.length ≤ 10) (hn : 0 ≤ n ∧ n ≤ 100) : EvI (ι := { p : Bs // p.length ≤ 100000 }) X 82 [dS s, dI n] [] (fun p => dS p.1) (fun _ => []) := by
  refine EvI.bodyI Try.func82 rfl rfl rfl fun hf0 => ?_
  refine AK.run2 foll tok COK.nil [] 100 rfl trivial ?_
  refine AK.loopB (fun x : Nat × Bs × Bs => x.1 ≤ 100 ∧ x.2.2.length + x.2.1.length * x.1 ≤ 1010) (fun x => [(0, dS x.2.1), (1, dI x.1), (5, dS x.2.2)]) (fun _ => []) (fun x => x.1) (n.toNat, s, []) rfl ?_ rfl trivial ⟨by simp only; omega, ?_⟩ ?_
  · simp [AllP, AllP.cat]; omega
  · have : s.length * n.toNat ≤ 10 * 100 := Nat.mul_le_mul hs (by omega)
    simp only [List.length_nil]; omega
  rintro ⟨k, t, out⟩ ⟨h1, h3⟩
  simp only at h1 h3
  by_cases hk : 0 < k
  · have ht : t.length ≤ t.length * k := Nat.le_mul_of_pos_right _ hk
    have e1 : ((k : Int) / 2) = ((k / 2 : Nat) : Int) := by omega
    by_cases h2 : k % 2 = 1
    · have hm : (t ++ t).length * (k / 2) + t.length = t.length * k := by
        have e : k = 2 * (k / 2) + 1 := by omega
        generalize k / 2 = q at *
        subst e
        simp only [List.length_append, Nat.mul_add, Nat.add_mul]
        rw [← Nat.mul_assoc, Nat.mul_comm t.length 2, Nat.mul_assoc]; omega
      refine AK.run2 foll tok COK.nil [(7, true), (10, true)] 100 rfl ?_ (AK.againB (k / 2, t ++ t, out ++ t) rfl ?_ rfl trivial ?_ ?_)
      · simp [AllP, hk]; omega
      · simp [AllP, AllP.cat]
      · refine ⟨by simp only; omega, ?_⟩
        simp only [List.length_append] at hm ⊢; omega
      · simp only; omega
    · have hm : (t ++ t).length * (k / 2) = t.length * k := by
        have e : k = 2 * (k / 2) := by omega
        generalize k / 2 = q at *
        subst e
        simp only [List.length_append, Nat.add_mul]
        rw [← Nat.mul_assoc, Nat.mul_comm t.length 2, Nat.mul_assoc]; omega
      refine AK.run2 foll tok COK.nil [(7, true), (10, false)] 100 rfl ?_ (AK.againB (k / 2, t ++ t, out) rfl ?_ rfl trivial ?_ ?_)
      · simp [AllP, hk]; omega
      · simp [AllP, AllP.cat]
      · refine ⟨by simp only; omega, ?_⟩
        simp only at hm ⊢; omega
      · simp only; omega
  · obtain rfl : k = 0 := by omega
    refine AK.run2 foll tok COK.nil [(7, false)] 100 rfl (by simp [AllP]) (AK.leave rfl rfl ?_)
    refine AK.run2 foll tok COK.nil [] 100 rfl trivial (AK.retI ⟨out, by omega⟩ (AK.ret0 rfl ?_))
    simp [AllP]

set_option maxRecDepth 20000 in
theorem ev_text (m : Nat) (b : Nat → Int) (hb : Bytes b) (k : Nat) (hk : k ≤ 100000) (hm : m ≤ 1048576) :
    EvI (ι := TextI k) X 71 [.e (.one (.ptr 0 0))] [rdB m b k] (fun q => dS q.1.1) (fun q => [rdB m b q.1.2]) := by
  refine EvI.bodyI Try.func71 rfl rfl rfl fun hf0 => ?_
  refine AK.run2 foll tok COK.nil [] 100 rfl trivial ?_
  refine AK.callEvI (ev_pick m b hb k 5 (by omega) hm (by omega)) [0] rfl rfl rfl rfl rfl rfl rfl (fun _ => rfl) rfl (fun _ => rfl) rfl ?_
  rintro ⟨v, v0, v1⟩
  refine AK.run2 foll tok COK.nil [] 100 rfl trivial ?_
  refine AK.loopD 1 (fun s : Nat × Bs × Nat => s.1 ≤ 4 ∧ s.2.1.length + 6 * s.1 ≤ 24 ∧ k ≤ s.2.2 ∧ s.2.2 + s.1 ≤ k + 5) (fun s => [(0, .e (.one (.ptr 0 0))), (4, dI s.1), (3, dS s.2.1)]) (fun s => [rdB m b s.2.2]) (fun s => s.1) (v.toNat, [], k + 1) rfl ?_ rfl ?_ rfl ⟨by omega, by simp; omega, by simp, by simp; omega⟩ ?_
  · simp [AllP, AllP.cat]; omega
  · simp [AllP, AllP.cat, EqF.same]
  rintro ⟨n, s, k1⟩ ⟨h1, h2, h3, h4⟩
  simp only at h1 h2 h3 h4
  by_cases hn : 0 < n
  · refine AK.run2 foll tok COK.nil [(9, true)] 100 rfl ?_ ?_
    · simp [AllP, hn]
    have := ev_of (X := X) m b hb k1 (by omega) hm words (by decide)
    refine AK.callEvL this [0] rfl rfl rfl rfl ?_ rfl rfl rfl (fun _ => rfl) rfl (fun _ => rfl) rfl ?_
    · refine ⟨rfl, fun i hi => ?_⟩
      rcases i with _ | _ | _ | _ | _ | _ | _ | _ | i <;> first | rfl | omega
    rintro ⟨p, hp⟩
    have hp6 : p.length ≤ 6 := (by decide : ∀ p ∈ words, p.length ≤ 6) p hp
    refine AK.run2 foll tok COK.nil [] 100 rfl ?_ (AK.againD (n - 1, s ++ p, k1 + 1) rfl ?_ rfl rfl rfl ?_ rfl ?_ ?_)
    · simp [AllP, inR]; omega
    · simp [AllP, AllP.cat]; omega
    · simp [AllP, AllP.cat, EqF.same]
    · simp; omega
    · simp; omega
  · obtain rfl : n = 0 := by omega
    refine AK.run2 foll tok COK.nil [(9, false)] 100 rfl (by simp [AllP]) (AK.leaveD rfl rfl ?_)
    refine AK.run2 foll tok COK.nil [] 100 rfl trivial ?_
    refine AK.callEvI (ev_pick m b hb k1 4 (by omega) hm (by omega)) [0] rfl rfl rfl rfl rfl rfl rfl (fun _ => rfl) rfl (fun _ => rfl) rfl ?_
    rintro ⟨u, u0, u1⟩
    by_cases hu : u = 0
    · refine AK.run2 foll tok COK.nil [(19, true)] 100 rfl (by simp [AllP, hu]) ?_
      refine AK.callEvI (ev_pick m b hb (k1 + 1) 12 (by omega) hm (by omega)) [0] rfl rfl rfl rfl rfl rfl rfl (fun _ => rfl) rfl (fun _ => rfl) rfl ?_
      rintro ⟨w, w0, w1⟩
      refine AK.run2 foll tok COK.nil [] 100 rfl trivial ?_
      refine AK.loopD 1 (fun s : Nat × Bs × Nat => s.1 ≤ 11 ∧ s.2.1.length + s.1 ≤ 36 ∧ k ≤ s.2.2 ∧ s.2.2 + s.1 ≤ k + 20) (fun s => [(0, .e (.one (.ptr 0 0))), (5, dI s.1), (3, dS s.2.1)]) (fun s => [rdB m b s.2.2]) (fun s => s.1) (w.toNat, s, k1 + 2) rfl ?_ rfl ?_ rfl ⟨by omega, by simp only; omega, by simp only; omega, by simp only; omega⟩ ?_
      · simp [AllP, AllP.cat]; omega
      · simp [AllP, AllP.cat, EqF.same]; omega
      rintro ⟨n, s2, k2⟩ ⟨g1, g2, g3, g4⟩
      simp only at g1 g2 g3 g4
      by_cases hn : 0 < n
      · refine AK.run2 foll tok COK.nil [(23, true)] 100 rfl ?_ ?_
        · simp [AllP, hn]
        refine AK.callEvI (ev_pick m b hb k2 26 (by omega) hm (by omega)) [0] rfl rfl rfl rfl rfl rfl rfl (fun _ => rfl) rfl (fun _ => rfl) rfl ?_
        rintro ⟨x, x0, x1⟩
        refine AK.run2 foll tok COK.nil [] 100 rfl ?_ (AK.againD (n - 1, s2 ++ [UInt8.ofNat (97 + x).toNat], k2 + 1) rfl ?_ rfl rfl rfl ?_ rfl ?_ ?_)
        · simp [AllP, inR]; omega
        · simp [AllP, AllP.cat]; omega
        · simp [AllP, AllP.cat, EqF.same]
        · simp; omega
        · simp; omega
      · obtain rfl : n = 0 := by omega
        refine AK.run2 foll tok COK.nil [(23, false)] 100 rfl (by simp [AllP]) (AK.leaveD rfl rfl ?_)
        refine AK.run2 foll tok COK.nil [(36, false)] 100 rfl ?_ ?_
        · simp [AllP]; omega
        refine AK.callEvI (ev_pick m b hb k2 60 (by omega) hm (by omega)) [0] rfl rfl rfl rfl rfl rfl rfl (fun _ => rfl) rfl (fun _ => rfl) rfl ?_
        rintro ⟨y, y0, y1⟩
        by_cases hy : y = 0
        · refine AK.run2 foll tok COK.nil [(41, true)] 100 rfl ?_ (AK.retI ⟨(s2 ++ [65], k2 + 1), by simp; omega, by simp only; omega, by simp only; omega⟩ (AK.retB [0] rfl ?_ rfl rfl rfl fix0))
          · simp [AllP, hy]; omega
          · simp [AllP]
        by_cases hy1 : y = 1
        · refine AK.run2 foll tok COK.nil [(41, false), (45, true)] 100 rfl ?_ ?_
          · simp [AllP, hy1]
          refine AK.callEvI (ev_many [97, 98, 99, 100, 101] 9 (by decide) (by decide)) [] rfl rfl rfl rfl rfl rfl rfl (fun _ => rfl) rfl (fun _ => rfl) rfl ?_
          rintro ⟨p, hp⟩
          refine AK.run2 foll tok COK.nil [] 100 rfl trivial (AK.retI ⟨(p, k2 + 1), hp, by simp only; omega, by simp only; omega⟩ (AK.retB [0] rfl ?_ rfl rfl rfl fix0))
          simp [AllP]
        · refine AK.run2 foll tok COK.nil [(41, false), (45, false)] 100 rfl ?_ (AK.retI ⟨(s2, k2 + 1), by simp only; omega, by simp only; omega, by simp only; omega⟩ (AK.retB [0] rfl ?_ rfl rfl rfl fix0))
          · simp [AllP, hy, hy1]
          · simp [AllP]
    · refine AK.run2 foll tok COK.nil [(19, false)] 2 rfl (by simp [AllP, hu]) ?_
      refine AK.run2 foll tok COK.nil [(36, false)] 100 rfl ?_ ?_
      · simp [AllP]; omega
      refine AK.callEvI (ev_pick m b hb (k1 + 1) 60 (by omega) hm (by omega)) [0] rfl rfl rfl rfl rfl rfl rfl (fun _ => rfl) rfl (fun _ => rfl) rfl ?_
      rintro ⟨y, y0, y1⟩
      by_cases hy : y = 0
      · refine AK.run2 foll tok COK.nil [(41, true)] 100 rfl ?_ (AK.retI ⟨(s ++ [65], (k1 + 1) + 1), by simp; omega, by simp only; omega, by simp only; omega⟩ (AK.retB [0] rfl ?_ rfl rfl rfl fix0))
        · simp [AllP, hy]; omega
        · simp [AllP]
      by_cases hy1 : y = 1
      · refine AK.run2 foll tok COK.nil [(41, false), (45, true)] 100 rfl ?_ ?_
        · simp [AllP, hy1]
        refine AK.callEvI (ev_many [97, 98, 99, 100, 101] 9 (by decide) (by decide)) [] rfl rfl rfl rfl rfl rfl rfl (fun _ => rfl) rfl (fun _ => rfl) rfl ?_
        rintro ⟨p, hp⟩
        refine AK.run2 foll tok COK.nil [] 100 rfl trivial (AK.retI ⟨(p, (k1 + 1) + 1), hp, by simp only; omega, by simp only; omega⟩ (AK.retB [0] rfl ?_ rfl rfl rfl fix0))
        simp [AllP]
      · refine AK.run2 foll tok COK.nil [(41, false), (45, false)] 100 rfl ?_ (AK.retI ⟨(s, (k1 + 1) + 1), by simp only; omega, by simp only; omega, by simp only; omega⟩ (AK.retB [0] rfl ?_ rfl rfl rfl fix0))
        · simp [AllP, hy, hy1]
        · simp [AllP]
end Go.AM.R1

/- The drawing helpers: l6Open. -/
namespace Go.AM.R1
open Go.Proofs
variable {X : Cx Try.prog}

theorem ev_open (m : Nat) (b : Nat → Int) (hm : m ≤ 1048576) : EvI (ι := { n : Nat // n ≤ 1048576 }) X 44 [.e (.one (.c (.sl false 1 m (bys b))))] [] (fun _ => .e (.one (.ptr 0 0))) (fun n => [rdB n.1 b 0]) := by
  refine EvI.bodyI Try.func44 rfl rfl rfl fun hf0 => ?_
  by_cases h : 2000 < m
  · refine AK.run2 foll tok COK.nil [(5, true)] 100 rfl ?_ (AK.norm [rdB 2000 b 0] rfl ?_ (AK.retI ⟨2000, by decide⟩ (AK.retB [0] rfl ?_ rfl rfl rfl (fun j hj => by simp at hj))))
    · simp [AllP]; omega
    · simp [AllP, AllP.cat, EqF, offF, bndN]
    · simp [AllP]
  · refine AK.run2 foll tok COK.nil [(5, false)] 100 rfl ?_ (AK.retI ⟨m, hm⟩ (AK.retB [0] rfl ?_ rfl rfl rfl (fun j hj => by simp at hj)))
    · simp [AllP]; omega
    · simp [AllP]
end Go.AM.R1

/- The drawing helpers: l91Tree. -/
namespace Go.AM.R1
open Go.Proofs
variable {X : Cx Try.prog}

theorem cF_gnd (t : List FileT) : ∀ i, i < t.length → (cF.fn t i).length = 2 ∧ ∀ c ∈ cF.fn t i, gndC c = true := by
  intro i _
  refine ⟨rfl, fun c hc => ?_⟩
  simp only [Cod.fn, slF, cF, List.mem_cons, List.not_mem_nil, or_false] at hc
  rcases hc with rfl | rfl <;> rfl

abbrev FlF (t : List FileT) (xs : List Value) : Prop := FlatV 2 t.length (cF.fn t) xs
abbrev bK (bf : Buf) (n : Nat) (xs : List Value) : Box := .opq (SBk 59 2 bf n xs)
abbrev tKB (bf : Buf) (n : Nat) (b : Bool) : D := .tup [.one (.v (slV bf n)), .one (.c (.bool b))]

theorem ev_treePutK (t : List FileT) (p x : Bs) : EvI (ι := { q : Buf × List Value // FlF (treePut t p x).1 q.2 }) X 50 [cF.sl t, dS p, dS x] [] (fun q => tKB q.1.1 (treePut t p x).1.length (treePut t p x).2) (fun q => [bK q.1.1 (treePut t p x).1.length q.1.2]) :=
  (ev_treePutB t p x).thaw Try.func50 rfl (by simp [okThawD, okThawEs, okThawE, okThawA, gndA, gndC]) (cF_gnd _)

theorem FlatV.nil {k : Nat} {es : Nat → List C} : FlatV k 0 es [] := ⟨by simp, fun i hi => by omega, fun i hi => by omega⟩

theorem putOk_len {t : List FileT} {p x : Bs} (h : (treePut t p x).2 = true) : (treePut t p x).1.length ≤ 6 := by
  unfold treePut at h ⊢
  split at h
  · rename_i h1
    rw [if_pos h1]
    split at h
    · rename_i h2; rw [if_pos h2]; exact treeOk_len h2
    · cases h
  · cases h

theorem app23 {o : Oper} {x y : Operand} (h : o.op = .call { callee := .builtin .append, args := #[x, y], argTypes := #[23, 23] }) : AppOK Try.prog o x y 59 i59 :=
  ⟨⟨23, 23, i23, i23, h, g23, rfl, g23, rfl⟩, g59, by decide, by decide⟩

theorem rd_bsV {M : Mem} {p : Bs} (h : p.length ≤ 9223372036854775807) : Rd M (bsV p) (.str p) := Rd.str rfl h

theorem FlF.snoc {t : List FileT} {xs : List Value} (h : FlF t xs) (p x : Bs) (hp : p.length ≤ 9223372036854775807) (hx : x.length ≤ 9223372036854775807) : FlF (t ++ [(p, x)]) (xs ++ [bsV p, bsV x]) := by
  unfold FlF
  rw [List.length_append]
  refine FlatV.snoc h (fun i hi => ?_) rfl rfl fun q c hq => ?_
  · simp [Cod.fn, slF, List.getD_eq_getElem?_getD, List.getElem?_append_left hi]
  · have e : cF.fn (t ++ [(p, x)]) t.length = [.str p, .str x] := by
      simp [Cod.fn, slF, cF]
    rw [e] at hq
    rcases q with _ | _ | q
    · simp at hq; subst hq; exact ⟨bsV p, rfl, fun M => rd_bsV hp⟩
    · simp at hq; subst hq; exact ⟨bsV x, rfl, fun M => rd_bsV hx⟩
    · simp at hq

theorem FlF.setText {t : List FileT} {xs vs : List Value} (h : FlF t xs) (i : Nat) (hi : i < t.length) (x : Bs) (hv : ValsOf vs [.c (.str x)]) : FlF (t.set i ((t.getD i cF.dflt).1, x)) (xs.take (i * 2 + 1) ++ vs ++ xs.drop (i * 2 + 1 + vs.length)) := by
  unfold FlF
  rw [List.length_set]
  refine FlatV.splice h i 1 hi hv (Nat.le_refl _) (fun i' hi' hne => ?_) rfl fun q c hq => ?_
  · simp [Cod.fn, slF, List.getD_eq_getElem?_getD, Ne.symm hne]
  · have e : cF.fn (t.set i ((t.getD i cF.dflt).1, x)) i = [.str (t.getD i cF.dflt).1, .str x] := by
      simp [Cod.fn, slF, cF, List.getD_eq_getElem?_getD, hi]
    rw [e] at hq
    rcases q with _ | _ | q
    · right; simp at hq; subst hq; exact ⟨by omega, rfl⟩
    · left; simp at hq; subst hq; exact ⟨by omega, by simp, rfl⟩
    · simp at hq

theorem fix1 : ∀ j, j < 1 → ([0, 1] : List Nat)[j]? = some j := fun j hj => by
  have : j = 0 := by omega
  subst this; rfl

/-- Some tree, not too long, and how far the reader has come. -/
structure TreeI (k c : Nat) where
  t : List FileT
  bf : Buf
  xs : List Value
  k1 : Nat
  fl : FlF t xs
  hl : t.length ≤ 7
  h1 : k ≤ k1
  h2 : k1 ≤ k + c

set_option maxRecDepth 20000 in
theorem ev_tree (m : Nat) (b : Nat → Int) (hb : Bytes b) (k : Nat) (hk : k ≤ 50000) (hm : m ≤ 1048576) :
    EvI (ι := TreeI k 400) X 56 [.e (.one (.ptr 0 0))] [rdB m b k] (fun q => .e (.one (.v (slV q.bf q.t.length)))) (fun q => [rdB m b q.k1, bK q.bf q.t.length q.xs]) := by
  refine EvI.bodyI Try.func56 rfl rfl rfl fun hf0 => ?_
  refine AK.run2 foll tok COK.nil [] 9 rfl trivial ?_
  refine AK.newBufK 3 59 2 rfl fun bf0 => ?_
  refine AK.run2 foll tok COK.nil [] 100 rfl trivial ?_
  refine AK.callEvI (ev_pick m b hb k 6 (by omega) hm (by omega)) [0] rfl rfl rfl rfl rfl rfl rfl (fun _ => rfl) rfl (fun _ => rfl) rfl ?_
  rintro ⟨v, v0, v1⟩
  refine AK.run2 foll tok COK.nil [] 100 rfl trivial ?_
  refine AK.loopD 2 (fun s : Nat × List FileT × Buf × List Value × Nat => s.1 ≤ 5 ∧ FlF s.2.1 s.2.2.2.1 ∧ s.2.1.length ≤ 6 ∧ k ≤ s.2.2.2.2 ∧ s.2.2.2.2 + 70 * s.1 ≤ k + 351) (fun s => [(0, .e (.one (.ptr 0 0))), (4, dI s.1), (3, .e (.one (.v (slV s.2.2.1 s.2.1.length))))]) (fun s => [rdB m b s.2.2.2.2, bK s.2.2.1 s.2.1.length s.2.2.2.1]) (fun s => s.1) (v.toNat, [], bf0, [], k + 1) rfl ?_ rfl ?_ rfl ⟨by omega, FlatV.nil, by simp, by simp, by simp; omega⟩ ?_
  · simp [AllP, AllP.cat]; omega
  · simp [AllP, AllP.cat, EqF.same]
  rintro ⟨n, t, bf, xs, k1⟩ ⟨h1, h2, h3, h4, h5⟩
  simp only at h1 h2 h3 h4 h5
  by_cases hn : 0 < n
  · refine AK.run2 foll tok COK.nil [(11, true)] 100 rfl (by simp [AllP, hn]) ?_
    refine AK.callEvI (ev_path m b hb k1 (by omega) hm) [0] rfl rfl rfl rfl rfl rfl rfl (fun _ => rfl) rfl (fun _ => rfl) rfl ?_
    rintro ⟨p, hp⟩
    refine AK.run2 foll tok COK.nil [] 100 rfl trivial ?_
    refine AK.callEvI (ev_text m b hb (k1 + 1 + 1) (by omega) hm) [0] rfl rfl rfl rfl rfl rfl rfl (fun _ => rfl) rfl (fun _ => rfl) rfl ?_
    rintro ⟨⟨x, k2⟩, hx, hk2, hk2'⟩
    simp only at hx hk2 hk2'
    refine AK.run2 foll tok COK.nil [] 100 rfl trivial ?_
    refine AK.callLend (ev_treePutK t p x) 1 0 rfl rfl rfl rfl (SBk.lends rfl (cF.fn t) h2.rd) rfl ?_ rfl (fun _ => rfl) (fun _ => rfl) rfl ?_
    · simp [AllP, AllP.cat, EqF.same]
    rintro ⟨⟨bf', xs'⟩, hfl⟩
    simp only at hfl ⊢
    cases hok : (treePut t p x).2 with
    | true =>
      have hl6 := putOk_len hok
      generalize (treePut t p x).1 = t' at hfl hl6 ⊢
      refine AK.run2 foll tok COK.nil [] 6 rfl trivial ?_
      refine AK.swap 1 2 (by decide) rfl rfl (fun v ch h => h.1) (fun v ch h => h.1) ?_
      refine AK.run2 foll tok COK.nil [(23, true)] 100 rfl ?_ (AK.againD (n - 1, t', bf', xs', k2) rfl ?_ rfl rfl rfl ?_ rfl ?_ ?_)
      · simp [AllP, inR]; omega
      · simp [AllP, AllP.cat]; omega
      · simp [AllP, AllP.cat, EqF.same]
      · exact ⟨by simp only; omega, hfl, hl6, by simp only; omega, by simp only; omega⟩
      · simp only; omega
    | false =>
      refine AK.run2 foll tok COK.nil [(23, false)] 100 rfl ?_ (AK.againD (n - 1, t, bf, xs, k2) rfl ?_ rfl rfl rfl ?_ rfl ?_ ?_)
      · simp [AllP, inR]; omega
      · simp [AllP, AllP.cat]; omega
      · simp [AllP, AllP.cat, EqF.same]
      · exact ⟨by simp only; omega, h2, h3, by simp only; omega, by simp only; omega⟩
      · simp only; omega
  · obtain rfl : n = 0 := by omega
    refine AK.run2 foll tok COK.nil [(11, false)] 100 rfl (by simp [AllP]) (AK.leaveD rfl rfl ?_)
    refine AK.run2 foll tok COK.nil [] 100 rfl trivial ?_
    refine AK.callEvI (ev_pick m b hb k1 40 (by omega) hm (by omega)) [0] rfl rfl rfl rfl rfl rfl rfl (fun _ => rfl) rfl (fun _ => rfl) rfl ?_
    rintro ⟨u, u0, u1⟩
    by_cases hu : u = 0
    · refine AK.run2 foll tok COK.nil [(27, true)] 100 rfl (by simp [AllP, hu]) ?_
      refine AK.callEvI (ev_path m b hb (k1 + 1) (by omega) hm) [0] rfl rfl rfl rfl rfl rfl rfl (fun _ => rfl) rfl (fun _ => rfl) rfl ?_
      rintro ⟨p, hp⟩
      refine AK.run2 foll tok COK.nil [] 100 rfl trivial ?_
      refine AK.appendBufK (l := 1) (bf := bf) (xs := xs) (n := t.length) (xv := [bsV p, bsV [97]]) (app23 rfl) rfl rfl rfl rfl rfl rfl rfl rfl (fun M v j c hj hv => ?_) (by show _ * 32 ≤ _; omega) fun bf' => ?_
      · rcases j with _ | _ | j
        · cases hj; have := str_val hv; exact ⟨congrArg some this.1.symm, this.2⟩
        · cases hj; have := str_val hv; exact ⟨congrArg some this.1.symm, this.2⟩
        · cases hj
      refine AK.run2 foll tok COK.nil [] 100 rfl trivial (AK.retI ⟨t ++ [(p, [97])], bf', xs ++ [bsV p, bsV [97]], k1 + 1 + 1 + 1, h2.snoc p [97] (by omega) (by decide), by simp; omega, by omega, by omega⟩ (AK.retB [0, 1] rfl ?_ ?_ rfl rfl ?_))
      · simp [AllP]
      · simp; rfl
      · exact fix1
    by_cases hu1 : u = 1
    · refine AK.run2 foll tok COK.nil [(27, false), (35, true)] 100 rfl (by simp [AllP, hu1]) ?_
      refine AK.lenBufK tok 1 rfl rfl rfl rfl rfl rfl rfl rfl ?_
      by_cases ht : 0 < t.length
      · refine AK.run2 foll tok COK.nil [(39, true)] 100 rfl ?_ ?_
        · simp [AllP, ht]
        refine AK.factO (SBk.len (l := 1) rfl) fun hfa => ?_
        obtain ⟨b0, cap, rfl⟩ := hfa.2.2.1 ht
        refine AK.elemV tok (m := 0) rfl rfl rfl rfl rfl rfl rfl ht rfl rfl ?_
        refine AK.fieldV tok rfl rfl rfl rfl rfl ?_
        refine AK.storeV tok 1 rfl rfl rfl rfl rfl rfl rfl ?_ rfl rfl fun vs hvs => ?_
        · have := h2.len; simp; omega
        have hfl2 := h2.setText 0 ht [65] hvs
        refine AK.run2 foll tok COK.nil [] 100 rfl trivial (AK.retI ⟨t.set 0 ((t.getD 0 cF.dflt).1, [65]), .row b0 cap, _, k1 + 1, hfl2, by simp; omega, by omega, by omega⟩ (AK.retB [0, 1] rfl ?_ ?_ rfl rfl ?_))
        · simp [AllP]
        · simp; rfl
        · exact fix1
      · refine AK.run2 foll tok COK.nil [(39, false)] 100 rfl ?_ (AK.retI ⟨t, bf, xs, k1 + 1, h2, by omega, by omega, by omega⟩ (AK.retB [0, 1] rfl ?_ rfl rfl rfl ?_))
        · simp [AllP, ht]
        · simp [AllP]
        · exact fix1
    · refine AK.run2 foll tok COK.nil [(27, false), (35, false)] 100 rfl (by simp [AllP, hu, hu1]) (AK.retI ⟨t, bf, xs, k1 + 1, h2, by omega, by omega, by omega⟩ (AK.retB [0, 1] rfl ?_ rfl rfl rfl ?_))
      · simp [AllP]
      · exact fix1
end Go.AM.R1

/- Helpers of the exact laws: sizes, copies, comparisons, marks. -/
namespace Go.AM.R1
open Go.Proofs
variable {X : Cx Try.prog}

theorem fix00 {ks : List Nat} : ∀ j, j < ([] : List Box).length → ks[j]? = some j := fun j hj => by simp at hj

theorem Fits.aggStr {args : List D} {σ : List Box} (h : Fits args σ) (k : Nat) {cs : List A} (hk : args[k]? = some (.e (.agg cs))) (j : Nat) {p : Bs} (hj : cs[j]? = some (A.c (.str p))) : p.length ≤ 9223372036854775807 := by
  obtain ⟨s, v, hr⟩ := h.at hk
  obtain ⟨vs, _, h2⟩ := hr
  obtain ⟨u, _, h3⟩ := RdL.get h2 hj
  cases h3 with
  | str _ hl => exact hl

/-- A number, not greater. -/
abbrev Left (l : Int) := { r : Int // -1 ≤ r ∧ r ≤ l }

theorem ev_szFile (p x : Bs) (l : Int) (hl : 0 ≤ l ∧ l ≤ 1048576) : EvI (ι := Left l) X 57 [dP (p, x), dI l] [] (fun r => dI r.1) (fun _ => []) := by
  refine EvI.bodyI Try.func57 rfl rfl rfl fun hf0 => ?_
  have h1 := Fits.aggStr hf0 0 rfl 0 rfl
  have h2 := Fits.aggStr hf0 0 rfl 1 rfl
  simp only at h1 h2
  by_cases c1 : l - p.length < 0
  · refine AK.run2 foll tok COK.nil [(11, true)] 100 rfl ?_ (AK.retI ⟨-1, by omega, by omega⟩ (AK.retB [] rfl ?_ rfl rfl rfl fix00))
    · simp [AllP, inR, c1]; omega
    · simp [AllP]
  by_cases c2 : l - p.length - x.length < 0
  · refine AK.run2 foll tok COK.nil [(11, false), (18, true)] 100 rfl ?_ (AK.retI ⟨-1, by omega, by omega⟩ (AK.retB [] rfl ?_ rfl rfl rfl fix00))
    · simp [AllP, inR, c1, c2]; omega
    · simp [AllP]
  · refine AK.run2 foll tok COK.nil [(11, false), (18, false)] 100 rfl ?_ (AK.retI ⟨l - p.length - x.length, by omega, by omega⟩ (AK.retB [] rfl ?_ rfl rfl rfl fix00))
    · simp [AllP, inR, c1, c2]; omega
    · simp [AllP]

theorem ev_szFileS (a : List FileT) (l : Int) (hl : 0 ≤ l ∧ l ≤ 1048576) : EvI (ι := { r : Int // -1 ≤ r ∧ r ≤ l ∧ (0 ≤ r → a.length ≤ 1048576) }) X 24 [cF.sl a, dI l] [] (fun r => dI r.1) (fun _ => []) := by
  refine EvI.bodyI Try.func24 rfl rfl rfl fun hf0 => ?_
  have hn := hf0.sl 0 rfl
  by_cases c1 : l - a.length < 0
  · refine AK.run2 foll tok COK.nil [(11, true)] 100 rfl ?_ (AK.retI ⟨-1, by omega, by omega, by omega⟩ (AK.retB [] rfl ?_ rfl rfl rfl fix00))
    · simp [AllP, inR, c1]; omega
    · simp [AllP]
  refine AK.run2 foll tok COK.nil [(11, false)] 100 rfl ?_ ?_
  · simp [AllP, inR, c1]; omega
  refine AK.loopB (fun s : Nat × Int => s.1 ≤ a.length ∧ 0 ≤ s.2 ∧ s.2 ≤ l) (fun s => [(0, cF.sl a), (5, dI s.1), (1, dI s.2)]) (fun _ => []) (fun s => a.length - s.1) (0, l - a.length) rfl ?_ rfl trivial ⟨by simp, by simp only; omega, by simp only; omega⟩ ?_
  · simp [AllP, AllP.cat, EqF.same]
  rintro ⟨i, r⟩ ⟨h1, h2, h3⟩
  simp only at h1 h2 h3
  by_cases h : i < a.length
  · refine AK.run2 foll tok COK.nil [(15, true)] 100 rfl ?_ ?_
    · simp [-List.getD_eq_getElem?_getD, AllP, h]
    refine AK.callEvI (ev_szFile (pth a i) (txt a i) r (by omega)) [] rfl rfl rfl rfl rfl rfl rfl (fun _ => rfl) rfl (fun _ => rfl) rfl ?_
    rintro ⟨q, q1, q2⟩
    by_cases c2 : q < 0
    · refine AK.run2 foll tok COK.nil [(25, true)] 100 rfl ?_ (AK.retIn ⟨⟨-1, by omega, by omega, by omega⟩, RetQ.zero rfl ?_⟩)
      · simp [AllP, c2]
      · simp [AllP]
    · refine AK.run2 foll tok COK.nil [(25, false)] 100 rfl ?_ (AK.againB (i + 1, q) rfl ?_ rfl trivial ?_ ?_)
      · simp [AllP, c2, inR]; omega
      · simp [AllP, AllP.cat, EqF.same]
      · simp only; omega
      · simp only; omega
  · obtain rfl : i = a.length := by omega
    refine AK.run2 foll tok COK.nil [(15, false)] 100 rfl (by simp [AllP]) (AK.leave rfl rfl ?_)
    refine AK.run2 foll tok COK.nil [] 100 rfl trivial (AK.retI ⟨r, by omega, by omega, by omega⟩ (AK.retB [] rfl ?_ rfl rfl rfl fix00))
    simp [AllP]

theorem ev_szChange (p : Bs) (k : Int) (x : Bs) (l : Int) (hl : 0 ≤ l ∧ l ≤ 1048576) : EvI (ι := Left l) X 58 [dC (p, k, x), dI l] [] (fun r => dI r.1) (fun _ => []) := by
  refine EvI.bodyI Try.func58 rfl rfl rfl fun hf0 => ?_
  have h1 := Fits.aggStr hf0 0 rfl 0 rfl
  have h2 := Fits.aggStr hf0 0 rfl 2 rfl
  simp only at h1 h2
  by_cases c1 : l - p.length < 0
  · refine AK.run2 foll tok COK.nil [(11, true)] 100 rfl ?_ (AK.retI ⟨-1, by omega, by omega⟩ (AK.retB [] rfl ?_ rfl rfl rfl fix00))
    · simp [AllP, inR, c1]; omega
    · simp [AllP]
  by_cases c2 : l - p.length - x.length < 0
  · refine AK.run2 foll tok COK.nil [(11, false), (18, true)] 100 rfl ?_ (AK.retI ⟨-1, by omega, by omega⟩ (AK.retB [] rfl ?_ rfl rfl rfl fix00))
    · simp [AllP, inR, c1, c2]; omega
    · simp [AllP]
  · refine AK.run2 foll tok COK.nil [(11, false), (18, false)] 100 rfl ?_ (AK.retI ⟨l - p.length - x.length, by omega, by omega⟩ (AK.retB [] rfl ?_ rfl rfl rfl fix00))
    · simp [AllP, inR, c1, c2]; omega
    · simp [AllP]

theorem ev_szChangeS (a : List ChangeT) (l : Int) (hl : 0 ≤ l ∧ l ≤ 1048576) : EvI (ι := { r : Int // -1 ≤ r ∧ r ≤ l ∧ (0 ≤ r → a.length ≤ 1048576) }) X 25 [cC.sl a, dI l] [] (fun r => dI r.1) (fun _ => []) := by
  refine EvI.bodyI Try.func25 rfl rfl rfl fun hf0 => ?_
  have hn := hf0.sl 0 rfl
  by_cases c1 : l - a.length < 0
  · refine AK.run2 foll tok COK.nil [(11, true)] 100 rfl ?_ (AK.retI ⟨-1, by omega, by omega, by omega⟩ (AK.retB [] rfl ?_ rfl rfl rfl fix00))
    · simp [AllP, inR, c1]; omega
    · simp [AllP]
  refine AK.run2 foll tok COK.nil [(11, false)] 100 rfl ?_ ?_
  · simp [AllP, inR, c1]; omega
  refine AK.loopB (fun s : Nat × Int => s.1 ≤ a.length ∧ 0 ≤ s.2 ∧ s.2 ≤ l) (fun s => [(0, cC.sl a), (5, dI s.1), (1, dI s.2)]) (fun _ => []) (fun s => a.length - s.1) (0, l - a.length) rfl ?_ rfl trivial ⟨by simp, by simp only; omega, by simp only; omega⟩ ?_
  · simp [AllP, AllP.cat, EqF.same]
  rintro ⟨i, r⟩ ⟨h1, h2, h3⟩
  simp only at h1 h2 h3
  by_cases h : i < a.length
  · refine AK.run2 foll tok COK.nil [(15, true)] 100 rfl ?_ ?_
    · simp [-List.getD_eq_getElem?_getD, AllP, h]
    refine AK.callEvI (ev_szChange (pthC a i) (kndC a i) (txtC a i) r (by omega)) [] rfl rfl rfl rfl rfl rfl rfl (fun _ => rfl) rfl (fun _ => rfl) rfl ?_
    rintro ⟨q, q1, q2⟩
    by_cases c2 : q < 0
    · refine AK.run2 foll tok COK.nil [(25, true)] 100 rfl ?_ (AK.retIn ⟨⟨-1, by omega, by omega, by omega⟩, RetQ.zero rfl ?_⟩)
      · simp [AllP, c2]
      · simp [AllP]
    · refine AK.run2 foll tok COK.nil [(25, false)] 100 rfl ?_ (AK.againB (i + 1, q) rfl ?_ rfl trivial ?_ ?_)
      · simp [AllP, c2, inR]; omega
      · simp [AllP, AllP.cat, EqF.same]
      · simp only; omega
      · simp only; omega
  · obtain rfl : i = a.length := by omega
    refine AK.run2 foll tok COK.nil [(15, false)] 100 rfl (by simp [AllP]) (AK.leave rfl rfl ?_)
    refine AK.run2 foll tok COK.nil [] 100 rfl trivial (AK.retI ⟨r, by omega, by omega, by omega⟩ (AK.retB [] rfl ?_ rfl rfl rfl fix00))
    simp [AllP]
end Go.AM.R1

/- Helpers of the exact laws: copies, comparisons. -/
namespace Go.AM.R1
open Go.Proofs
variable {X : Cx Try.prog}

theorem ev_toFile (p x : Bs) : Ev X 59 [dP (p, x)] [] (dP (p, x)) [] := by
  refine Ev.bodyC Try.func59 rfl rfl rfl fun hf0 => ?_
  refine AK.run2 foll tok COK.nil [] 100 rfl ?_ ?_
  · simp [AllP]
  refine AK.freeze 2 1 rfl rfl rfl ?_
  refine AK.retC tok [] rfl ?_ rfl rfl rfl fix00
  simp [AllP, AllP.cat]

theorem ev_toChange (p : Bs) (k : Int) (x : Bs) : Ev X 60 [dC (p, k, x)] [] (dC (p, k, x)) [] := by
  refine Ev.bodyC Try.func60 rfl rfl rfl fun hf0 => ?_
  refine AK.run2 foll tok COK.nil [] 100 rfl ?_ ?_
  · simp [AllP]
  refine AK.freeze 2 1 rfl rfl rfl ?_
  refine AK.retC tok [] rfl ?_ rfl rfl rfl fix00
  simp [AllP, AllP.cat]

def c59 : CtF := fun args σ => match args, σ with
  | [.e (.agg [.c (.str p), .c (.str x)])], [] => some (dP (p, x), [], [])
  | _, _ => none
theorem t59 : EvT X 59 c59 := by
  intro args σ res σ' obs h ho
  unfold c59 at h
  split at h
  · cases h; exact ev_toFile _ _
  · cases h
def c60 : CtF := fun args σ => match args, σ with
  | [.e (.agg [.c (.str p), .c (.int .i64 k), .c (.str x)])], [] => some (dC (p, k, x), [], [])
  | _, _ => none
theorem t60 : EvT X 60 c60 := by
  intro args σ res σ' obs h ho
  unfold c60 at h
  split at h
  · cases h; exact ev_toChange _ _ _
  · cases h
def ctX : List (Nat × CtF) := (59, c59) :: (60, c60) :: ct20
theorem cokX : COK X ctX := COK.cons t59 (COK.cons t60 cok20)

theorem take_splice {xs vs : List Value} {a : Nat} (h : a ≤ xs.length) : (xs.take a ++ vs ++ xs.drop (a + vs.length)).take (a + vs.length) = xs.take a ++ vs := by
  have : (xs.take a ++ vs).length = a + vs.length := by simp; omega
  rw [← this, List.take_left']
  rfl

theorem FlatV.congr {k n : Nat} {es es' : Nat → List C} {xs : List Value} (h : FlatV k n es xs) (he : ∀ i, i < n → es' i = es i) : FlatV k n es' xs :=
  ⟨h.len, fun i hi => by rw [he i hi]; exact h.wid i hi, fun i hi j c hj => h.at' i hi j c (by rw [← he i hi]; exact hj)⟩

theorem ev_toFileS (a : List FileT) (hn : a.length ≤ 1048576) : EvI (ι := { q : Buf × List Value // FlF a q.2 }) X 26 [cF.sl a] [] (fun q => thawD (slV q.1.1 a.length) (.e (.one (.vec 0 2 a.length (cF.fn a))))) (fun q => [bK q.1.1 a.length q.1.2]) := by
  refine EvI.bodyI Try.func26 rfl rfl rfl fun hf0 => ?_
  refine AK.run2 foll tok COK.nil [] 100 rfl trivial ?_
  refine AK.makeBufK tok (n := a.length) rfl rfl rfl rfl rfl rfl (by show _ * 32 ≤ _; omega) (by omega) rfl rfl fun b xs0 => ?_
  refine AK.factO (SBk.len (l := 0) rfl) fun hfa => ?_
  have hx0 : xs0.length = a.length * 2 := hfa.1
  refine AK.run2 foll tok COK.nil [] 100 rfl trivial ?_
  refine AK.loopB (fun s : Nat × List Value => s.1 ≤ a.length ∧ s.2.length = a.length * 2 ∧ FlatV 2 s.1 (cF.fn a) (s.2.take (s.1 * 2))) (fun s => [(0, cF.sl a), (4, dI s.1), (3, .e (.one (.v (.slice (some ⟨b, 0, none⟩) a.length a.length))))]) (fun s => [bK (.row b a.length) a.length s.2]) (fun s => a.length - s.1) (0, xs0) rfl ?_ rfl ?_ ⟨by simp, hx0, by simpa using FlatV.nil⟩ ?_
  · simp [AllP, AllP.cat, EqF.same, slV]
  · simp [AllP, AllP.cat]; rfl
  rintro ⟨i, xs⟩ ⟨h1, h2, h3⟩
  simp only at h1 h2 h3
  by_cases h : i < a.length
  · refine AK.run2 foll tok cokX [(11, true)] 100 rfl ?_ ?_
    · simp [-List.getD_eq_getElem?_getD, AllP, h]
    refine AK.elemV tok (m := i) rfl rfl rfl rfl rfl rfl rfl h rfl rfl ?_
    refine AK.storeV tok 0 rfl rfl rfl rfl rfl rfl rfl ?_ rfl rfl fun vs hvs => ?_
    · show i * 2 + 2 ≤ xs.length; omega
    have hvl : vs.length = 2 := hvs.1
    refine AK.run2 foll tok COK.nil [] 100 rfl ?_ (AK.againB (i + 1, xs.take (i * 2) ++ vs ++ xs.drop (i * 2 + vs.length)) rfl ?_ rfl rfl ⟨by simp only; omega, ?_, ?_⟩ ?_)
    · simp [AllP, inR]; omega
    · simp [AllP, AllP.cat, EqF.same]
    · show (xs.take (i * 2) ++ vs ++ xs.drop (i * 2 + vs.length)).length = _
      simp only [List.length_append, List.length_take, List.length_drop]; omega
    · show FlatV 2 (i + 1) (cF.fn a) ((xs.take (i * 2) ++ vs ++ xs.drop (i * 2 + vs.length)).take ((i + 1) * 2))
      have e : (i + 1) * 2 = i * 2 + vs.length := by omega
      rw [e, take_splice (by omega)]
      refine FlatV.snoc h3 (fun _ _ => rfl) rfl hvl fun q c hq => hvs.2 q c ?_
      rcases q with _ | _ | q
      · simp [Cod.fn, slF, cF] at hq ⊢; rw [← hq]
      · simp [Cod.fn, slF, cF] at hq ⊢; rw [← hq]
      · simp [Cod.fn, slF, cF] at hq
    · simp only; omega
  · obtain rfl : i = a.length := by omega
    refine AK.run2 foll tok COK.nil [(11, false)] 100 rfl (by simp [AllP]) (AK.leave rfl rfl ?_)
    have hfl : FlF a xs := by rw [← h2, List.take_length] at h3; exact h3
    refine AK.run2 foll tok COK.nil [] 100 rfl trivial (AK.retI ⟨(.row b a.length, xs), hfl⟩ (AK.retB [0] rfl ?_ rfl rfl rfl (fun j hj => by simp at hj)))
    simp [AllP, slV]

abbrev FlC (t : List ChangeT) (xs : List Value) : Prop := FlatV 3 t.length (cC.fn t) xs
abbrev bC (bf : Buf) (n : Nat) (xs : List Value) : Box := .opq (SBk 33 3 bf n xs)

theorem ev_toChangeS (a : List ChangeT) (hn : a.length ≤ 1048576) : EvI (ι := { q : Buf × List Value // FlC a q.2 }) X 27 [cC.sl a] [] (fun q => thawD (slV q.1.1 a.length) (.e (.one (.vec 0 3 a.length (cC.fn a))))) (fun q => [bC q.1.1 a.length q.1.2]) := by
  refine EvI.bodyI Try.func27 rfl rfl rfl fun hf0 => ?_
  refine AK.run2 foll tok COK.nil [] 100 rfl trivial ?_
  refine AK.makeBufK tok (n := a.length) rfl rfl rfl rfl rfl rfl (by show _ * 40 ≤ _; omega) (by omega) rfl rfl fun b xs0 => ?_
  refine AK.factO (SBk.len (l := 0) rfl) fun hfa => ?_
  have hx0 : xs0.length = a.length * 3 := hfa.1
  refine AK.run2 foll tok COK.nil [] 100 rfl trivial ?_
  refine AK.loopB (fun s : Nat × List Value => s.1 ≤ a.length ∧ s.2.length = a.length * 3 ∧ FlatV 3 s.1 (cC.fn a) (s.2.take (s.1 * 3))) (fun s => [(0, cC.sl a), (4, dI s.1), (3, .e (.one (.v (.slice (some ⟨b, 0, none⟩) a.length a.length))))]) (fun s => [bC (.row b a.length) a.length s.2]) (fun s => a.length - s.1) (0, xs0) rfl ?_ rfl ?_ ⟨by simp, hx0, by simpa using FlatV.nil⟩ ?_
  · simp [AllP, AllP.cat, EqF.same, slV]
  · simp [AllP, AllP.cat]; rfl
  rintro ⟨i, xs⟩ ⟨h1, h2, h3⟩
  simp only at h1 h2 h3
  by_cases h : i < a.length
  · refine AK.run2 foll tok cokX [(11, true)] 100 rfl ?_ ?_
    · simp [-List.getD_eq_getElem?_getD, AllP, h]
    refine AK.elemV tok (m := i) rfl rfl rfl rfl rfl rfl rfl h rfl rfl ?_
    refine AK.storeV tok 0 rfl rfl rfl rfl rfl rfl rfl ?_ rfl rfl fun vs hvs => ?_
    · show i * 3 + 3 ≤ xs.length; omega
    have hvl : vs.length = 3 := hvs.1
    refine AK.run2 foll tok COK.nil [] 100 rfl ?_ (AK.againB (i + 1, xs.take (i * 3) ++ vs ++ xs.drop (i * 3 + vs.length)) rfl ?_ rfl rfl ⟨by simp only; omega, ?_, ?_⟩ ?_)
    · simp [AllP, inR]; omega
    · simp [AllP, AllP.cat, EqF.same]
    · show (xs.take (i * 3) ++ vs ++ xs.drop (i * 3 + vs.length)).length = _
      simp only [List.length_append, List.length_take, List.length_drop]; omega
    · show FlatV 3 (i + 1) (cC.fn a) ((xs.take (i * 3) ++ vs ++ xs.drop (i * 3 + vs.length)).take ((i + 1) * 3))
      have e : (i + 1) * 3 = i * 3 + vs.length := by omega
      rw [e, take_splice (by omega)]
      refine FlatV.snoc h3 (fun _ _ => rfl) rfl hvl fun q c hq => hvs.2 q c ?_
      rcases q with _ | _ | _ | q
      · simp [Cod.fn, slF, cC] at hq ⊢; rw [← hq]
      · simp [Cod.fn, slF, cC] at hq ⊢; rw [← hq]
      · simp [Cod.fn, slF, cC] at hq ⊢; rw [← hq]
      · simp [Cod.fn, slF, cC] at hq
    · simp only; omega
  · obtain rfl : i = a.length := by omega
    refine AK.run2 foll tok COK.nil [(11, false)] 100 rfl (by simp [AllP]) (AK.leave rfl rfl ?_)
    have hfl : FlC a xs := by rw [← h2, List.take_length] at h3; exact h3
    refine AK.run2 foll tok COK.nil [] 100 rfl trivial (AK.retI ⟨(.row b a.length, xs), hfl⟩ (AK.retB [0] rfl ?_ rfl rfl rfl (fun j hj => by simp at hj)))
    simp [AllP, slV]

/-- The copies, to be read. -/
theorem ev_toFileSC (a : List FileT) (hn : a.length ≤ 1048576) : Ev X 26 [cF.sl a] [] (cF.sl a) [] :=
  (ev_toFileS a hn).cool (E := 59) (fun q => q.2) (by simp [okThawD, okThawE, okThawA])
theorem ev_toChangeSC (a : List ChangeT) (hn : a.length ≤ 1048576) : Ev X 27 [cC.sl a] [] (cC.sl a) [] :=
  (ev_toChangeS a hn).cool (E := 33) (fun q => q.2) (by simp [okThawD, okThawE, okThawA])

theorem ev_eqFile (p x q y : Bs) : Ev X 61 [dP (p, x), dP (q, y)] [] (dB (p == q && x == y)) [] := by
  refine Ev.body Try.func61 rfl rfl rfl fun hf0 => ?_
  by_cases h1 : p = q
  · by_cases h2 : x = y
    · refine AK.run2 foll tok COK.nil [(9, false), (14, false)] 100 rfl ?_ (AK.ret0 rfl ?_)
      · simp [AllP, h1, h2]
      · simp [AllP, h1, h2]
    · refine AK.run2 foll tok COK.nil [(9, false), (14, true)] 100 rfl ?_ (AK.ret0 rfl ?_)
      · simp [AllP, h1, h2]
      · simp [AllP, h1, h2]
  · refine AK.run2 foll tok COK.nil [(9, true)] 100 rfl ?_ (AK.ret0 rfl ?_)
    · simp [AllP, h1]
    · simp [AllP, h1]

theorem ev_eqChange (p : Bs) (k : Int) (x q : Bs) (l : Int) (y : Bs) : Ev X 62 [dC (p, k, x), dC (q, l, y)] [] (dB (p == q && k == l && x == y)) [] := by
  refine Ev.body Try.func62 rfl rfl rfl fun hf0 => ?_
  by_cases h1 : p = q
  · by_cases h3 : k = l
    · by_cases h2 : x = y
      · refine AK.run2 foll tok COK.nil [(9, false), (14, false), (19, false)] 100 rfl ?_ (AK.ret0 rfl ?_)
        · simp [AllP, h1, h2, h3]
        · simp [AllP, h1, h2, h3]
      · refine AK.run2 foll tok COK.nil [(9, false), (14, false), (19, true)] 100 rfl ?_ (AK.ret0 rfl ?_)
        · simp [AllP, h1, h2, h3]
        · simp [AllP, h1, h2, h3]
    · refine AK.run2 foll tok COK.nil [(9, false), (14, true)] 100 rfl ?_ (AK.ret0 rfl ?_)
      · simp [AllP, h1, h3]
      · simp [AllP, h1, h3]
  · refine AK.run2 foll tok COK.nil [(9, true)] 100 rfl ?_ (AK.ret0 rfl ?_)
    · simp [AllP, h1]
    · simp [AllP, h1]
end Go.AM.R1

/- Helpers of the exact laws: comparisons of slices, marks. -/
namespace Go.AM.R1
open Go.Proofs
variable {X : Cx Try.prog}

def c61 : CtF := fun args σ => match args, σ with
  | [.e (.agg [.c (.str p), .c (.str x)]), .e (.agg [.c (.str q), .c (.str y)])], [] => some (dB (p == q && x == y), [], [])
  | _, _ => none
theorem t61 : EvT X 61 c61 := by
  intro args σ res σ' obs h ho
  unfold c61 at h
  split at h
  · cases h; exact ev_eqFile _ _ _ _
  · cases h
def c62 : CtF := fun args σ => match args, σ with
  | [.e (.agg [.c (.str p), .c (.int .i64 k), .c (.str x)]), .e (.agg [.c (.str q), .c (.int .i64 l), .c (.str y)])], [] => some (dB (p == q && k == l && x == y), [], [])
  | _, _ => none
theorem t62 : EvT X 62 c62 := by
  intro args σ res σ' obs h ho
  unfold c62 at h
  split at h
  · cases h; exact ev_eqChange _ _ _ _ _ _
  · cases h
def ctE : List (Nat × CtF) := [(61, c61), (62, c62)]
theorem cokE : COK X ctE := COK.cons t61 (COK.cons t62 COK.nil)

theorem ev_eqFileS (a b : List FileT) : Ev X 28 [cF.sl a, cF.sl b] [] (dB (a == b)) [] := by
  refine Ev.body Try.func28 rfl rfl rfl fun hf => ?_
  have hlen := hf.sl 0 rfl
  by_cases hl : a.length = b.length
  · refine AK.run2 foll tok cokE [(10, false)] 100 rfl (by simp [AllP, hl]) ?_
    refine AK.loopB (fun i => i ≤ a.length ∧ ∀ j, j < i → a.getD j ([], []) = b.getD j ([], [])) (fun i : Nat => [(0, cF.sl a), (1, cF.sl b), (5, dI i)]) (fun _ => []) (fun i => a.length - i) 0 rfl ?_ rfl trivial ⟨by omega, by omega⟩ ?_
    · simp [AllP, AllP.cat, EqF.same]
    rintro i ⟨hi, hall⟩
    by_cases h : i < a.length
    · have h' : i < b.length := by omega
      by_cases he : pth a i = pth b i ∧ txt a i = txt b i
      · refine AK.run2 foll tok cokE [(14, true), (25, true)] 100 rfl ?_ (AK.againB (i + 1) rfl ?_ rfl trivial ?_ ?_)
        · simp [-List.getD_eq_getElem?_getD, AllP, h, h', pth_eq, txt_eq, he, inR]; omega
        · simp [AllP, AllP.cat, EqF.same]
        · refine ⟨by omega, fun j hj => ?_⟩
          rcases Nat.lt_succ_iff_lt_or_eq.1 hj with hj | rfl
          · exact hall j hj
          · exact Prod.ext he.1 he.2
        · omega
      · refine AK.run2 foll tok cokE [(14, true), (25, false)] 100 rfl ?_ (AK.retIn (RetQ.zero rfl ?_))
        · simp [-List.getD_eq_getElem?_getD, AllP, h, h', pth_eq, txt_eq]; exact fun h1 h2 => he ⟨h1, h2⟩
        · have : (a == b) = false := by
            simp only [beq_eq_false_iff_ne, ne_eq]
            rintro rfl; exact he ⟨rfl, rfl⟩
          simp [AllP, this]
    · refine AK.run2 foll tok cokE [(14, false)] 100 rfl (by simp [AllP]; omega) (AK.leave rfl rfl ?_)
      refine AK.run2 foll tok cokE [] 100 rfl trivial (AK.ret0 rfl ?_)
      have : a = b := by
        apply List.ext_getElem hl
        intro j h1 h2
        have := hall j (by omega)
        simpa [List.getD_eq_getElem?_getD, List.getElem?_eq_getElem h1, List.getElem?_eq_getElem h2] using this
      simp [AllP, this]
  · refine AK.run2 foll tok cokE [(10, true)] 100 rfl ?_ (AK.ret0 rfl ?_)
    · simp [AllP]; omega
    · have : (a == b) = false := by
        simp only [beq_eq_false_iff_ne, ne_eq]
        rintro rfl; exact hl rfl
      simp [AllP, this]
theorem ev_eqChangeS (a b : List ChangeT) : Ev X 29 [cC.sl a, cC.sl b] [] (dB (a == b)) [] := by
  refine Ev.body Try.func29 rfl rfl rfl fun hf => ?_
  have hlen := hf.sl 0 rfl
  by_cases hl : a.length = b.length
  · refine AK.run2 foll tok cokE [(10, false)] 100 rfl (by simp [AllP, hl]) ?_
    refine AK.loopB (fun i => i ≤ a.length ∧ ∀ j, j < i → a.getD j ([], 0, []) = b.getD j ([], 0, [])) (fun i : Nat => [(0, cC.sl a), (1, cC.sl b), (5, dI i)]) (fun _ => []) (fun i => a.length - i) 0 rfl ?_ rfl trivial ⟨by omega, by omega⟩ ?_
    · simp [AllP, AllP.cat, EqF.same]
    rintro i ⟨hi, hall⟩
    by_cases h : i < a.length
    · have h' : i < b.length := by omega
      by_cases he : pthC a i = pthC b i ∧ kndC a i = kndC b i ∧ txtC a i = txtC b i
      · refine AK.run2 foll tok cokE [(14, true), (25, true)] 100 rfl ?_ (AK.againB (i + 1) rfl ?_ rfl trivial ?_ ?_)
        · simp [-List.getD_eq_getElem?_getD, AllP, h, h', pthC_eq, kndC_eq, txtC_eq, he, inR]; omega
        · simp [AllP, AllP.cat, EqF.same]
        · refine ⟨by omega, fun j hj => ?_⟩
          rcases Nat.lt_succ_iff_lt_or_eq.1 hj with hj | rfl
          · exact hall j hj
          · exact Prod.ext he.1 (Prod.ext he.2.1 he.2.2)
        · omega
      · refine AK.run2 foll tok cokE [(14, true), (25, false)] 100 rfl ?_ (AK.retIn (RetQ.zero rfl ?_))
        · simp [-List.getD_eq_getElem?_getD, AllP, h, h', pthC_eq, kndC_eq, txtC_eq]; exact fun a1 a2 a3 => he ⟨a1, a2, a3⟩
        · have : (a == b) = false := by
            simp only [beq_eq_false_iff_ne, ne_eq]
            rintro rfl; exact he ⟨rfl, rfl, rfl⟩
          simp [AllP, this]
    · refine AK.run2 foll tok cokE [(14, false)] 100 rfl (by simp [AllP]; omega) (AK.leave rfl rfl ?_)
      refine AK.run2 foll tok cokE [] 100 rfl trivial (AK.ret0 rfl ?_)
      have : a = b := by
        apply List.ext_getElem hl
        intro j h1 h2
        have := hall j (by omega)
        simpa [List.getD_eq_getElem?_getD, List.getElem?_eq_getElem h1, List.getElem?_eq_getElem h2] using this
      simp [AllP, this]
  · refine AK.run2 foll tok cokE [(10, true)] 100 rfl ?_ (AK.ret0 rfl ?_)
    · simp [AllP]; omega
    · have : (a == b) = false := by
        simp only [beq_eq_false_iff_ne, ne_eq]
        rintro rfl; exact hl rfl
      simp [AllP, this]

/-- The digits of a number; none of 0. -/
def digs : Nat → Nat → Bs
  | 0, _ => []
  | f + 1, k => if k = 0 then [] else digs f (k / 10) ++ [UInt8.ofNat (48 + k % 10)]
def markT (k : Nat) : Bs := 109 :: digs k k

theorem digs_more : ∀ (f g k : Nat), k ≤ f → k ≤ g → digs f k = digs g k
  | 0, g, k, h, _ => by
    obtain rfl : k = 0 := by omega
    cases g <;> simp [digs]
  | f + 1, 0, k, _, h => by
    obtain rfl : k = 0 := by omega
    simp [digs]
  | f + 1, g + 1, k, h1, h2 => by
    simp only [digs]
    by_cases hk : k = 0
    · simp [hk]
    · rw [if_neg hk, if_neg hk, digs_more f g (k / 10) (by omega) (by omega)]

theorem digs_step {k : Nat} (h : 0 < k) : digs k k = digs (k / 10) (k / 10) ++ [UInt8.ofNat (48 + k % 10)] := by
  cases k with
  | zero => omega
  | succ k =>
    rw [digs, if_neg (by omega), digs_more k ((k + 1) / 10) ((k + 1) / 10) (by omega) (by omega)]

theorem digs_len : ∀ (f k : Nat), (digs f k).length ≤ f
  | 0, k => by simp [digs]
  | f + 1, k => by
    simp only [digs]
    split
    · simp
    · have := digs_len f (k / 10); simp; omega

theorem ev_markText (k : Nat) (hk : 1 ≤ k ∧ k ≤ 100000000) : Ev X 63 [dI k] [] (dS (markT k)) [] := by
  refine Ev.body Try.func63 rfl rfl rfl fun hf0 => ?_
  refine AK.run2 foll tok COK.nil [(5, false)] 100 rfl ?_ ?_
  · simp [AllP]; omega
  refine AK.loopB (fun s : Nat × Bs => s.1 ≤ k ∧ digs s.1 s.1 ++ s.2 = digs k k) (fun s => [(0, dI s.1), (3, dS s.2)]) (fun _ => []) (fun s => s.1) (k, []) rfl ?_ rfl trivial ⟨by simp, by simp⟩ ?_
  · simp [AllP, AllP.cat]
  rintro ⟨n, out⟩ ⟨h1, h2⟩
  simp only at h1 h2
  have hol : out.length ≤ k := by
    have e1 := congrArg List.length h2
    have e2 := digs_len k k
    simp only [List.length_append] at e1; omega
  by_cases hn : 0 < n
  · have hd := digs_step hn
    refine AK.run2 foll tok COK.nil [(7, true)] 100 rfl ?_ (AK.againB (n / 10, [UInt8.ofNat (48 + n % 10)] ++ out) rfl ?_ rfl trivial ⟨by simp only; omega, ?_⟩ ?_)
    · simp [AllP, hn, inR]; omega
    · simp [AllP, AllP.cat]
      have e : (48 + (n : Int) % 10).toNat = 48 + n % 10 := by omega
      rw [e, UInt8.ofNat_add]; rfl
    · rw [← h2, hd]; simp
    · simp only; omega
  · obtain rfl : n = 0 := by omega
    refine AK.run2 foll tok COK.nil [(7, false)] 100 rfl (by simp [AllP]) (AK.leave rfl rfl ?_)
    refine AK.run2 foll tok COK.nil [] 100 rfl ?_ (AK.ret0 rfl ?_)
    · simp [AllP]; omega
    simp [AllP, markT, ← h2]
    simp [digs]

/-! ### marks -/

def markF (t : List FileT) (k : Nat) : List FileT := (List.range t.length).map fun i => (markT (k + 2 * i), markT (k + 2 * i + 1))

theorem markF_len (t : List FileT) (k : Nat) : (markF t k).length = t.length := by simp [markF]

/-- The first i are marked. -/
def mixF (t : List FileT) (k i : Nat) : List FileT := (markF t k).take i ++ t.drop i

theorem mixF_len {t : List FileT} {k i : Nat} (h : i ≤ t.length) : (mixF t k i).length = t.length := by
  simp [mixF, markF_len]; omega

theorem FlF.setPath {t : List FileT} {xs vs : List Value} (h : FlF t xs) (i : Nat) (hi : i < t.length) (x : Bs) (hv : ValsOf vs [.c (.str x)]) : FlF (t.set i (x, (t.getD i cF.dflt).2)) (xs.take (i * 2) ++ vs ++ xs.drop (i * 2 + vs.length)) := by
  unfold FlF
  rw [List.length_set]
  refine FlatV.splice h i 0 hi hv (by simp) (fun i' hi' hne => ?_) rfl fun q c hq => ?_
  · simp [Cod.fn, slF, List.getD_eq_getElem?_getD, Ne.symm hne]
  · have e : cF.fn (t.set i (x, (t.getD i cF.dflt).2)) i = [.str x, .str (t.getD i cF.dflt).2] := by
      simp [Cod.fn, slF, cF, List.getD_eq_getElem?_getD, hi]
    rw [e] at hq
    rcases q with _ | _ | q
    · left; simp at hq; subst hq; exact ⟨by omega, by simp, rfl⟩
    · right; simp at hq; subst hq; exact ⟨by simp, rfl⟩
    · simp at hq

theorem mixF_step {t : List FileT} {k i : Nat} (h : i < t.length) : ((mixF t k i).set i (markT (k + 2 * i), ((mixF t k i).getD i cF.dflt).2)).set i (markT (k + 2 * i), markT (k + 2 * i + 1)) = mixF t k (i + 1) := by
  rw [List.set_set]
  apply List.ext_getElem
  · rw [List.length_set, mixF_len (by omega), mixF_len (by omega)]
  · intro j h1 h2
    have hj : j < t.length := by rw [mixF_len (by omega)] at h2; exact h2
    simp only [List.getElem_set, mixF, List.getElem_append, List.length_take, markF_len, List.getElem_take, List.getElem_drop]
    by_cases e : i = j
    · subst e
      rw [if_pos rfl, dif_pos (by omega)]
      simp [markF]
    · rw [if_neg e]
      by_cases e2 : j < i
      · rw [dif_pos (by omega), dif_pos (by omega)]
      · rw [dif_neg (by omega), dif_neg (by omega)]
        congr 1; omega

theorem ev_markFileS (t : List FileT) (k : Nat) (hk : 1 ≤ k ∧ k ≤ 10000000) (hn : t.length ≤ 1048576) (bf : Buf) (xs : List Value) (hfl : FlF t xs) :
    EvI (ι := { ys : List Value // FlF (markF t k) ys }) X 30 [.e (.one (.v (slV bf t.length))), dI k] [bK bf t.length xs] (fun _ => dI ((k + 2 * t.length : Nat) : Int)) (fun ys => [bK bf t.length ys.1]) := by
  refine EvI.bodyI Try.func30 rfl rfl rfl fun hf0 => ?_
  refine AK.run2 foll tok COK.nil [] 100 rfl trivial ?_
  refine AK.loopB (fun s : Nat × List Value => s.1 ≤ t.length ∧ FlF (mixF t k s.1) s.2) (fun s => [(0, .e (.one (.v (slV bf t.length)))), (5, dI s.1), (1, dI ((k + 2 * s.1 : Nat) : Int))]) (fun s => [bK bf t.length s.2]) (fun s => t.length - s.1) (0, xs) rfl ?_ rfl rfl ⟨by simp, by simpa [mixF] using hfl⟩ ?_
  · simp [AllP, AllP.cat]
  rintro ⟨i, ys⟩ ⟨h1, h2⟩
  simp only at h1 h2
  have hml := mixF_len (k := k) h1
  by_cases h : i < t.length
  · refine AK.run2 foll tok COK.nil [] 100 rfl trivial ?_
    refine AK.lenBufK tok 0 rfl rfl rfl rfl rfl rfl rfl rfl ?_
    refine AK.run2 foll tok COK.nil [(9, true)] 100 rfl ?_ ?_
    · simp [AllP, h]
    refine AK.callEv (ev_markText (k + 2 * i) (by omega)) [] rfl rfl rfl rfl rfl rfl rfl rfl rfl rfl rfl ?_
    refine AK.factO (SBk.len (l := 0) rfl) fun hfa => ?_
    obtain ⟨b0, cap, rfl⟩ := hfa.2.2.1 (by omega)
    refine AK.elemV tok (m := i) rfl rfl rfl rfl rfl rfl rfl h rfl rfl ?_
    refine AK.fieldV tok rfl rfl rfl rfl rfl ?_
    have hyl := h2.len
    refine AK.storeP tok 0 (FlF ((mixF t k i).set i (markT (k + 2 * i), ((mixF t k i).getD i cF.dflt).2))) rfl rfl rfl rfl rfl rfl rfl (by show i * 2 + 0 + 1 ≤ ys.length; omega) rfl rfl (fun vs hvs => h2.setPath i (by omega) _ hvs) fun zs hf1 => ?_
    refine AK.run2 foll tok COK.nil [] 100 rfl ?_ ?_
    · simp [AllP, inR]; omega
    refine AK.callEv (ev_markText (k + 2 * i + 1) (by omega)) [] rfl rfl rfl rfl rfl rfl rfl rfl rfl rfl rfl ?_
    have hzl := hf1.len
    rw [List.length_set] at hzl
    refine AK.elemV tok (m := i) rfl rfl rfl rfl rfl rfl rfl h rfl rfl ?_
    refine AK.fieldV tok rfl rfl rfl rfl rfl ?_
    refine AK.storeP tok 0 (FlF (mixF t k (i + 1))) rfl rfl rfl rfl rfl rfl rfl (by show i * 2 + 1 + 1 ≤ zs.length; omega) rfl rfl (fun vs hvs => by
      have := hf1.setText i (by rw [List.length_set]; omega) _ hvs
      have e : (((mixF t k i).set i (markT (k + 2 * i), ((mixF t k i).getD i cF.dflt).2)).getD i cF.dflt).1 = markT (k + 2 * i) := by
        simp [List.getD_eq_getElem?_getD, hml, h]
      rw [e, mixF_step h] at this
      exact this) fun us hf2 => ?_
    refine AK.run2 foll tok COK.nil [] 100 rfl ?_ (AK.againB (i + 1, us) rfl ?_ rfl rfl ⟨by simp only; omega, hf2⟩ ?_)
    · simp [AllP, inR]; omega
    · simp [AllP, AllP.cat]; omega
    · simp only; omega
  · obtain rfl : i = t.length := by omega
    refine AK.run2 foll tok COK.nil [] 100 rfl trivial ?_
    refine AK.lenBufK tok 0 rfl rfl rfl rfl rfl rfl rfl rfl ?_
    refine AK.run2 foll tok COK.nil [(9, false)] 100 rfl (by simp [AllP]) (AK.leave rfl rfl ?_)
    have e : mixF t k t.length = markF t k := by simp [mixF, List.take_of_length_le (Nat.le_of_eq (markF_len t k))]
    rw [e] at h2
    refine AK.run2 foll tok COK.nil [] 100 rfl trivial (AK.retI ⟨ys, h2⟩ (AK.retB [0] rfl ?_ rfl rfl rfl fix0))
    simp [AllP]

theorem ev_markChangeS (n : Nat) (k : Nat) (hk : 1 ≤ k ∧ k ≤ 10000000) (hn : n ≤ 1048576) (bf : Buf) (xs : List Value) :
    EvI (ι := List Value) X 31 [.e (.one (.v (slV bf n))), dI k] [bC bf n xs] (fun _ => dI ((k + 3 * n : Nat) : Int)) (fun ys => [bC bf n ys]) := by
  refine EvI.bodyI Try.func31 rfl rfl rfl fun hf0 => ?_
  refine AK.fact (SBk.len (l := 0) rfl) fun hfa => ?_
  have hx0 : xs.length = n * 3 := hfa.1
  refine AK.run2 foll tok COK.nil [] 100 rfl trivial ?_
  refine AK.loopB (fun s : Nat × List Value => s.1 ≤ n ∧ s.2.length = n * 3) (fun s => [(0, .e (.one (.v (slV bf n)))), (5, dI s.1), (1, dI ((k + 3 * s.1 : Nat) : Int))]) (fun s => [bC bf n s.2]) (fun s => n - s.1) (0, xs) rfl ?_ rfl rfl ⟨by simp, hx0⟩ ?_
  · simp [AllP, AllP.cat]
  rintro ⟨i, ys⟩ ⟨h1, h2⟩
  simp only at h1 h2
  by_cases h : i < n
  · obtain ⟨b0, cap, rfl⟩ := hfa.2.2.1 (by omega)
    refine AK.run2 foll tok COK.nil [] 100 rfl trivial ?_
    refine AK.lenBufK tok 0 rfl rfl rfl rfl rfl rfl rfl rfl ?_
    refine AK.run2 foll tok COK.nil [(9, true)] 100 rfl ?_ ?_
    · simp [AllP, h]
    refine AK.callEv (ev_markText (k + 3 * i) (by omega)) [] rfl rfl rfl rfl rfl rfl rfl rfl rfl rfl rfl ?_
    refine AK.elemV tok (m := i) rfl rfl rfl rfl rfl rfl rfl h rfl rfl ?_
    refine AK.fieldV tok rfl rfl rfl rfl rfl ?_
    refine AK.storeP tok 0 (fun zs => zs.length = n * 3) rfl rfl rfl rfl rfl rfl rfl (by show i * 3 + 0 + 1 ≤ ys.length; omega) rfl rfl (fun vs hvs => by
      have := hvs.1
      simp only [List.length_append, List.length_take, List.length_drop]
      simp only [List.length_cons, List.length_nil] at this
      show min (i * 3 + 0) ys.length + vs.length + (ys.length - (i * 3 + 0 + vs.length)) = _
      omega) fun z0 hz0 => ?_
    refine AK.run2 foll tok COK.nil [] 100 rfl ?_ ?_
    · simp [AllP, inR]; omega
    refine AK.elemV tok (m := i) rfl rfl rfl rfl rfl rfl rfl h rfl rfl ?_
    refine AK.fieldV tok rfl rfl rfl rfl rfl ?_
    refine AK.storeP tok 0 (fun zs => zs.length = n * 3) rfl rfl rfl rfl rfl rfl rfl (by show i * 3 + 1 + 1 ≤ z0.length; omega) rfl rfl (fun vs hvs => by
      have := hvs.1
      simp only [List.length_append, List.length_take, List.length_drop]
      simp only [List.length_cons, List.length_nil] at this
      show min (i * 3 + 1) z0.length + vs.length + (z0.length - (i * 3 + 1 + vs.length)) = _
      omega) fun z1 hz1 => ?_
    refine AK.run2 foll tok COK.nil [] 100 rfl ?_ ?_
    · simp [AllP, inR]; omega
    refine AK.callEv (ev_markText (k + 3 * i + 1 + 1) (by omega)) [] rfl rfl rfl rfl rfl rfl rfl rfl rfl rfl rfl ?_
    refine AK.elemV tok (m := i) rfl rfl rfl rfl rfl rfl rfl h rfl rfl ?_
    refine AK.fieldV tok rfl rfl rfl rfl rfl ?_
    refine AK.storeP tok 0 (fun zs => zs.length = n * 3) rfl rfl rfl rfl rfl rfl rfl (by show i * 3 + 2 + 1 ≤ z1.length; omega) rfl rfl (fun vs hvs => by
      have := hvs.1
      simp only [List.length_append, List.length_take, List.length_drop]
      simp only [List.length_cons, List.length_nil] at this
      show min (i * 3 + 2) z1.length + vs.length + (z1.length - (i * 3 + 2 + vs.length)) = _
      omega) fun z2 hz2 => ?_
    refine AK.run2 foll tok COK.nil [] 100 rfl ?_ (AK.againB (i + 1, z2) rfl ?_ rfl rfl ⟨by simp only; omega, hz2⟩ ?_)
    · simp [AllP, inR]; omega
    · simp [AllP, AllP.cat]; omega
    · simp only; omega
  · obtain rfl : i = n := by omega
    refine AK.run2 foll tok COK.nil [] 100 rfl trivial ?_
    refine AK.lenBufK tok 0 rfl rfl rfl rfl rfl rfl rfl rfl ?_
    refine AK.run2 foll tok COK.nil [(9, false)] 100 rfl (by simp [AllP]) (AK.leave rfl rfl ?_)
    refine AK.run2 foll tok COK.nil [] 100 rfl trivial (AK.retI ys (AK.retB [0] rfl ?_ rfl rfl rfl fix0))
    simp [AllP]

/-! ### marks that still stand -/

def c63 : CtF := fun args σ => match args, σ with
  | [.e (.one (.c (.int .i64 k)))], [] => some (dS (markT k.toNat), [], [k = k.toNat, 1 ≤ k, k ≤ 100000000])
  | _, _ => none
theorem t63 : EvT X 63 c63 := by
  intro args σ res σ' obs h ho
  unfold c63 at h
  split at h
  · rename_i k
    cases h
    obtain ⟨h1, h2, h3⟩ := ho
    have h3 : k ≤ 100000000 := h3
    have := ev_markText (X := X) k.toNat ⟨by omega, by omega⟩
    rw [← h1] at this
    exact this
  · cases h
def ctM : List (Nat × CtF) := [(63, c63)]
theorem cokM : COK X ctM := COK.cons t63 COK.nil

theorem markF_at {t : List FileT} {k i : Nat} (h : i < t.length) : pth (markF t k) i = markT (k + 2 * i) ∧ txt (markF t k) i = markT (k + 2 * i + 1) := by
  simp [pth, txt, markF, List.getD_eq_getElem?_getD, h]

theorem ev_heldFileS (t : List FileT) (k : Nat) (hk : 1 ≤ k ∧ k ≤ 10000000) (hn : t.length ≤ 1048576) : Ev X 32 [cF.sl (markF t k), dI k] [] (dI ((k + 2 * t.length : Nat) : Int)) [] := by
  refine Ev.body Try.func32 rfl rfl rfl fun hf0 => ?_
  refine AK.run2 foll tok COK.nil [] 100 rfl trivial ?_
  refine AK.loopB (fun i => i ≤ t.length) (fun i : Nat => [(0, cF.sl (markF t k)), (5, dI i), (1, dI ((k + 2 * i : Nat) : Int))]) (fun _ => []) (fun i => t.length - i) 0 rfl ?_ rfl trivial (by omega) ?_
  · simp [AllP, AllP.cat, EqF.same]
  intro i hi
  have hml := markF_len t k
  by_cases h : i < t.length
  · obtain ⟨m1, m2⟩ := markF_at (k := k) h
    have e1 : ((k : Int) + 2 * i + 1).toNat = k + 2 * i + 1 := by omega
    have e2 : ((k : Int) + 2 * i).toNat = k + 2 * i := by omega
    refine AK.run2 foll tok cokM [(9, true), (19, false), (29, false)] 200 rfl ?_ (AK.againB (i + 1) rfl ?_ rfl trivial ?_ ?_)
    · simp [-List.getD_eq_getElem?_getD, AllP, h, hml, pth_eq, txt_eq, m1, m2, inR, e1, e2]
      omega
    · simp [AllP, AllP.cat, EqF.same]; omega
    · omega
    · omega
  · obtain rfl : i = t.length := by omega
    refine AK.run2 foll tok COK.nil [(9, false)] 100 rfl (by simp [AllP, hml]) (AK.leave rfl rfl ?_)
    refine AK.run2 foll tok COK.nil [] 100 rfl trivial (AK.ret0 rfl ?_)
    simp [AllP]
end Go.AM.R1

/- The drawings of the laws: some trees, changes, paths. -/
namespace Go.AM.R1
open Go.Proofs
variable {X : Cx Try.prog}

theorem fixNil {ks : List Nat} : ∀ j, j < 0 → ks[j]? = some j := fun j hj => by omega

/-- Some tree. -/
theorem ev_drawTreeOk (m : Nat) (b : Nat → Int) (hb : Bytes b) (hm : m ≤ 1048576) :
    EvI (ι := { t : List FileT // t.length ≤ 8 }) X 23 [.e (.one (.c (.sl false 1 m (bys b))))] [] (fun t => cF.sl t.1) (fun _ => []) := by
  refine EvI.bodyI Try.func23 rfl rfl rfl fun hf0 => ?_
  refine AK.run2 foll tok COK.nil [] 100 rfl trivial ?_
  refine AK.callEvI (ev_open m b hm) [] rfl rfl rfl rfl rfl rfl rfl (fun _ => rfl) rfl (fun _ => rfl) rfl ?_
  rintro ⟨m', hm'⟩
  refine AK.run2 foll tok COK.nil [] 100 rfl trivial ?_
  refine AK.callEvI (ev_tree m' b hb 0 (by omega) hm') [0] rfl rfl rfl rfl rfl rfl rfl (fun _ => rfl) rfl (fun _ => rfl) rfl ?_
  rintro ⟨t, bf, xs, k1, fl, hl, h1, h2⟩
  refine AK.run2 foll tok COK.nil [] 100 rfl trivial ?_
  refine AK.callEvI (ev_pick m' b hb k1 4 (by omega) hm' (by omega)) [0] rfl rfl rfl rfl rfl rfl rfl (fun _ => rfl) rfl (fun _ => rfl) rfl ?_
  rintro ⟨v, v0, v1⟩
  by_cases hv : v = 0
  · refine AK.run2 foll tok COK.nil [(11, true)] 100 rfl (by simp [AllP, hv]) ?_
    refine AK.callEvI (ev_path m' b hb (k1 + 1) (by omega) hm') [0] rfl rfl rfl rfl rfl rfl rfl (fun _ => rfl) rfl (fun _ => rfl) rfl ?_
    rintro ⟨p, hp⟩
    refine AK.run2 foll tok COK.nil [] 100 rfl trivial ?_
    refine AK.appendBufK (l := 1) (bf := bf) (xs := xs) (n := t.length) (xv := [bsV p, bsV [97, 98, 99]]) (app23 rfl) rfl rfl rfl rfl rfl rfl rfl rfl (fun M v j c hj hv => ?_) (by show _ * 32 ≤ _; omega) fun bf' => ?_
    · rcases j with _ | _ | j
      · cases hj; have := str_val hv; exact ⟨congrArg some this.1.symm, this.2⟩
      · cases hj; have := str_val hv; exact ⟨congrArg some this.1.symm, this.2⟩
      · cases hj
    refine AK.run2 foll tok COK.nil [] 2 rfl trivial ?_
    refine AK.commitBufK 2 1 (cF.fn (t ++ [(p, [97, 98, 99])])) rfl rfl ?_ (AK.retI ⟨t ++ [(p, [97, 98, 99])], by simp; omega⟩ (AK.retB [] rfl ?_ rfl rfl rfl fixNil))
    · have := fl.snoc p [97, 98, 99] (by omega) (by decide)
      have h3 := this.rd
      simp only [List.length_append, List.length_singleton] at h3
      exact h3
    · simp [AllP, EqF.same]
  · refine AK.run2 foll tok COK.nil [(11, false)] 100 rfl (by simp [AllP, hv]) ?_
    refine AK.commitBufK 2 1 (cF.fn t) rfl rfl fl.rd (AK.retI ⟨t, by omega⟩ (AK.retB [] rfl ?_ rfl rfl rfl fixNil))
    simp [AllP, EqF.same]

def ct45 : List (Nat × CtF) := [(45, c45)]
theorem cok45 : COK X ct45 := COK.cons t45 COK.nil

theorem bOf_bys (b : Nat → Int) : bOf (bys b) = b := rfl

set_option maxRecDepth 20000 in
/-- Some tree and some path. -/
theorem ev_drawTreeDrop (m : Nat) (b : Nat → Int) (hb : Bytes b) (hm : m ≤ 1048576) :
    EvI (ι := { q : List FileT × Bs // q.1.length ≤ 8 }) X 33 [.e (.one (.c (.sl false 1 m (bys b))))] [] (fun q => .tup [.one (.c (.sl false 2 q.1.1.length (cF.fn q.1.1))), .one (.c (.str q.1.2))]) (fun _ => []) := by
  refine EvI.bodyI Try.func33 rfl rfl rfl fun hf0 => ?_
  refine AK.run2 foll tok COK.nil [] 100 rfl trivial ?_
  refine AK.callEvI (ev_open m b hm) [] rfl rfl rfl rfl rfl rfl rfl (fun _ => rfl) rfl (fun _ => rfl) rfl ?_
  rintro ⟨m', hm'⟩
  refine AK.run2 foll tok COK.nil [] 100 rfl trivial ?_
  refine AK.callEvI (ev_tree m' b hb 0 (by omega) hm') [0] rfl rfl rfl rfl rfl rfl rfl (fun _ => rfl) rfl (fun _ => rfl) rfl ?_
  rintro ⟨t, bf, xs, k1, fl, hl, h1, h2⟩
  refine AK.run2 foll tok COK.nil [] 2 rfl trivial ?_
  refine AK.commitBufK 5 1 (cF.fn t) rfl rfl fl.rd ?_
  have hr := pickV_range m' b k1 4 (by decide)
  have path : ∀ {N : Nat}, True := fun {_} => trivial
  have tail : ∀ (k2 : Nat), k2 ≤ 100000 → EvI (ι := { p : Bs // p.length ≤ 8 }) X 46 [.e (.one (.ptr 0 0))] [rdB m' b k2] (fun p => dS p.1) (fun _ => [rdB m' b (k2 + 1 + 1)]) := fun k2 h => ev_path m' b hb k2 h hm'
  by_cases ht : 0 < t.length
  · have hr2 := pickV_range m' b (k1 + 1) t.length (by omega)
    by_cases hv : 0 < pickV m' b k1 4
    · refine AK.run2 foll tok cok45 [(13, true), (17, true)] 200 rfl ?_ (AK.retI ⟨(t, (t.getD (pickV m' b (k1 + 1) t.length).toNat cF.dflt).1), by simp only; omega⟩ (AK.retB [] rfl ?_ rfl rfl rfl fixNil))
      · simp [AllP, ht, bOf_bys, hv, hb]
        omega
      · simp [AllP, AllP.cat, EqF.same, bOf_bys]
    · refine AK.run2 foll tok cok45 [(13, true), (17, false)] 200 rfl ?_ ?_
      · simp [AllP, ht, bOf_bys, hv, hb]
        omega
      have h3 := tail (k1 + 1) (by omega)
      refine AK.callEvI h3 [0] rfl rfl rfl rfl rfl rfl rfl (fun _ => rfl) rfl (fun _ => rfl) rfl ?_
      rintro ⟨p, hp⟩
      refine AK.run2 foll tok COK.nil [] 100 rfl trivial (AK.retI ⟨(t, p), by simp only; omega⟩ (AK.retB [] rfl ?_ rfl rfl rfl fixNil))
      simp [AllP, AllP.cat, EqF.same]
  · refine AK.run2 foll tok cok45 [(13, false), (17, false)] 200 rfl ?_ ?_
    · simp [AllP, ht]
    have h3 := tail k1 (by omega)
    refine AK.callEvI h3 [0] rfl rfl rfl rfl rfl rfl rfl (fun _ => rfl) rfl (fun _ => rfl) rfl ?_
    rintro ⟨p, hp⟩
    refine AK.run2 foll tok COK.nil [] 100 rfl trivial (AK.retI ⟨(t, p), by simp only; omega⟩ (AK.retB [] rfl ?_ rfl rfl rfl fixNil))
    simp [AllP, AllP.cat, EqF.same]

theorem ev_drawTreeGet (m : Nat) (b : Nat → Int) (hb : Bytes b) (hm : m ≤ 1048576) :
    EvI (ι := { q : List FileT × Bs // q.1.length ≤ 8 }) X 9 [.e (.one (.c (.sl false 1 m (bys b))))] [] (fun q => .tup [.one (.c (.sl false 2 q.1.1.length (cF.fn q.1.1))), .one (.c (.str q.1.2))]) (fun _ => []) := by
  refine EvI.bodyI Try.func9 rfl rfl rfl fun hf0 => ?_
  refine AK.run2 foll tok COK.nil [] 100 rfl trivial ?_
  refine AK.callEvI (ev_drawTreeDrop m b hb hm) [] rfl rfl rfl rfl rfl rfl rfl (fun _ => rfl) rfl (fun _ => rfl) rfl ?_
  rintro ⟨⟨t, p⟩, h⟩
  refine AK.run2 foll tok COK.nil [] 100 rfl trivial (AK.retI ⟨(t, p), h⟩ (AK.retB [] rfl ?_ rfl rfl rfl fixNil))
  simp [AllP, AllP.cat, EqF.same]

def ctD : List (Nat × CtF) := (45, c45) :: ct7
theorem cokD : COK X ctD := COK.cons t45 cok7

/-- Two trees, and how far the reader has come. -/
structure TwoI (k : Nat) where
  a : List FileT
  b : List FileT
  k1 : Nat
  hla : a.length ≤ 8
  hlb : b.length ≤ 8
  h1 : k ≤ k1
  h2 : k1 ≤ k + 1000

theorem dropOk_len {t : List FileT} {p : Bs} (h : (treeDrop t p).2 = true) : (treeDrop t p).1.length ≤ t.length := by
  unfold treeDrop at h ⊢
  split at h
  · rename_i h1; rw [if_pos h1]; exact dropF_len t p
  · cases h

set_option maxRecDepth 20000 in
theorem ev_two (m : Nat) (b : Nat → Int) (hb : Bytes b) (k : Nat) (hk : k ≤ 20000) (hm : m ≤ 1048576) :
    EvI (ι := TwoI k) X 43 [.e (.one (.ptr 0 0))] [rdB m b k] (fun q => .tup [.one (.c (.sl false 2 q.a.length (cF.fn q.a))), .one (.c (.sl false 2 q.b.length (cF.fn q.b)))]) (fun q => [rdB m b q.k1]) := by
  refine EvI.bodyI Try.func43 rfl rfl rfl fun hf0 => ?_
  refine AK.run2 foll tok COK.nil [] 100 rfl trivial ?_
  refine AK.callEvI (ev_tree m b hb k (by omega) hm) [0] rfl rfl rfl rfl rfl rfl rfl (fun _ => rfl) rfl (fun _ => rfl) rfl ?_
  rintro ⟨a, bf, xs, k1, fl, hl, h1, h2⟩
  refine AK.run2 foll tok COK.nil [] 2 rfl trivial ?_
  refine AK.commitBufK 4 1 (cF.fn a) rfl rfl fl.rd ?_
  refine AK.run2 foll tok cokD [] 100 rfl ?_ ?_
  · simp [AllP, bOf_bys, hb, i59]; omega
  have hr := pickV_range m b k1 4 (by decide)
  refine AK.loopD 3 (fun s : Nat × List FileT × Nat => s.1 ≤ 3 ∧ s.2.1.length ≤ 8 ∧ k ≤ s.2.2 ∧ s.2.2 + 100 * s.1 ≤ k + 800) (fun s => [(0, .e (.one (.ptr 0 0))), (6, dI s.1), (4, cF.sl a), (5, cF.sl s.2.1)]) (fun s => [rdB m b s.2.2, .dead, .vec 59 2 a.length (cF.fn a)]) (fun s => s.1) ((pickV m b k1 4).toNat, a, k1 + 1) rfl ?_ rfl ?_ rfl ⟨by simp only; omega, by simp only; omega, by simp only; omega, by simp only; omega⟩ ?_
  · simp [AllP, AllP.cat, EqF.same, EqF.app0, bOf_bys]; omega
  · simp [AllP, AllP.cat, EqF.same, EqF.app0, bOf_bys]
  rintro ⟨n, t, k2⟩ ⟨g1, g2, g3, g4⟩
  simp only at g1 g2 g3 g4
  by_cases hn : 0 < n
  · refine AK.run2 foll tok COK.nil [(19, true)] 100 rfl (by simp [AllP, hn]) ?_
    refine AK.callEvI (ev_path m b hb k2 (by omega) hm) [0] rfl rfl rfl rfl rfl rfl rfl (fun _ => rfl) rfl (fun _ => rfl) rfl ?_
    rintro ⟨p, hp⟩
    refine AK.run2 foll tok COK.nil [] 100 rfl trivial ?_
    refine AK.callEvI (ev_text m b hb (k2 + 1 + 1) (by omega) hm) [0] rfl rfl rfl rfl rfl rfl rfl (fun _ => rfl) rfl (fun _ => rfl) rfl ?_
    rintro ⟨⟨x, k3⟩, hx, hk3, hk3'⟩
    simp only at hx hk3 hk3'
    cases hok : (treePut t p x).2 with
    | true =>
      have hl1 := putOk_len hok
      refine AK.run2 foll tok cokD [(31, true)] 100 rfl ?_ ?_
      · simp [AllP, cF.list_fn, cF.fits_fn, hok]
      refine AK.callEvI (ev_path m b hb k3 (by omega) hm) [0] rfl rfl rfl rfl rfl rfl rfl (fun _ => rfl) rfl (fun _ => rfl) rfl ?_
      rintro ⟨p2, hp2⟩
      cases hgone : (treeDrop (treePut t p x).1 p2).2 with
      | true =>
        have hl2 := dropOk_len hgone
        refine AK.run2 foll tok cokD [(40, true)] 100 rfl ?_ (AK.againD (n - 1, (treeDrop (treePut t p x).1 p2).1, k3 + 1 + 1) rfl ?_ rfl rfl rfl ?_ rfl ?_ ?_)
        · simp [AllP, cF.list_fn, cF.fits_fn, hgone, inR]; omega
        · simp [AllP, AllP.cat, EqF.same, cF.list_fn]; omega
        · simp [AllP, AllP.cat, EqF.same]
        · exact ⟨by simp only; omega, by simp only; omega, by simp only; omega, by simp only; omega⟩
        · simp only; omega
      | false =>
        refine AK.run2 foll tok cokD [(40, false)] 100 rfl ?_ (AK.againD (n - 1, (treePut t p x).1, k3 + 1 + 1) rfl ?_ rfl rfl rfl ?_ rfl ?_ ?_)
        · simp [AllP, cF.list_fn, cF.fits_fn, hgone, inR]; omega
        · simp [AllP, AllP.cat, EqF.same, cF.list_fn]; omega
        · simp [AllP, AllP.cat, EqF.same]
        · exact ⟨by simp only; omega, by simp only; omega, by simp only; omega, by simp only; omega⟩
        · simp only; omega
    | false =>
      refine AK.run2 foll tok cokD [(31, false)] 100 rfl ?_ ?_
      · simp [AllP, cF.list_fn, cF.fits_fn, hok]
      refine AK.callEvI (ev_path m b hb k3 (by omega) hm) [0] rfl rfl rfl rfl rfl rfl rfl (fun _ => rfl) rfl (fun _ => rfl) rfl ?_
      rintro ⟨p2, hp2⟩
      cases hgone : (treeDrop t p2).2 with
      | true =>
        have hl2 := dropOk_len hgone
        refine AK.run2 foll tok cokD [(40, true)] 100 rfl ?_ (AK.againD (n - 1, (treeDrop t p2).1, k3 + 1 + 1) rfl ?_ rfl rfl rfl ?_ rfl ?_ ?_)
        · simp [AllP, cF.list_fn, cF.fits_fn, hgone, inR]; omega
        · simp [AllP, AllP.cat, EqF.same, cF.list_fn]; omega
        · simp [AllP, AllP.cat, EqF.same]
        · exact ⟨by simp only; omega, by simp only; omega, by simp only; omega, by simp only; omega⟩
        · simp only; omega
      | false =>
        refine AK.run2 foll tok cokD [(40, false)] 100 rfl ?_ (AK.againD (n - 1, t, k3 + 1 + 1) rfl ?_ rfl rfl rfl ?_ rfl ?_ ?_)
        · simp [AllP, cF.list_fn, cF.fits_fn, hgone, inR]; omega
        · simp [AllP, AllP.cat, EqF.same]; omega
        · simp [AllP, AllP.cat, EqF.same]
        · exact ⟨by simp only; omega, by simp only; omega, by simp only; omega, by simp only; omega⟩
        · simp only; omega
  · obtain rfl : n = 0 := by omega
    refine AK.run2 foll tok COK.nil [(19, false)] 100 rfl (by simp [AllP]) (AK.leaveD rfl rfl ?_)
    refine AK.run2 foll tok COK.nil [] 100 rfl trivial (AK.retI ⟨a, t, k2, by omega, by omega, by omega, by omega⟩ (AK.retB [0] rfl ?_ rfl rfl rfl ?_))
    · simp [AllP, AllP.cat, EqF.same]
    · intro j hj
      have : j = 0 := by simpa using hj
      subst this; rfl

theorem ev_drawTreeDiff (m : Nat) (b : Nat → Int) (hb : Bytes b) (hm : m ≤ 1048576) :
    EvI (ι := { q : List FileT × List FileT // q.1.length ≤ 8 ∧ q.2.length ≤ 8 }) X 15 [.e (.one (.c (.sl false 1 m (bys b))))] [] (fun q => .tup [.one (.c (.sl false 2 q.1.1.length (cF.fn q.1.1))), .one (.c (.sl false 2 q.1.2.length (cF.fn q.1.2)))]) (fun _ => []) := by
  refine EvI.bodyI Try.func15 rfl rfl rfl fun hf0 => ?_
  refine AK.run2 foll tok COK.nil [] 100 rfl trivial ?_
  refine AK.callEvI (ev_open m b hm) [] rfl rfl rfl rfl rfl rfl rfl (fun _ => rfl) rfl (fun _ => rfl) rfl ?_
  rintro ⟨m', hm'⟩
  refine AK.run2 foll tok COK.nil [] 100 rfl trivial ?_
  refine AK.callEvI (ev_two m' b hb 0 (by omega) hm') [0] rfl rfl rfl rfl rfl rfl rfl (fun _ => rfl) rfl (fun _ => rfl) rfl ?_
  rintro ⟨t1, t2, k1, hl1, hl2, h1, h2⟩
  refine AK.run2 foll tok COK.nil [] 100 rfl trivial (AK.retI ⟨(t1, t2), hl1, hl2⟩ (AK.retB [] rfl ?_ rfl rfl rfl fixNil))
  simp [AllP, AllP.cat, EqF.same]

theorem treeDiff_len (a b : List FileT) : (treeDiff a b).length ≤ a.length + b.length := by
  unfold treeDiff
  split
  · have := dels_len a b
    have := news_len a b
    simp only [List.length_append]; omega
  · simp

def news2 : List Bs := [[], [110, 101, 119]]

set_option maxRecDepth 20000 in
theorem ev_drawTreeDo (m : Nat) (b : Nat → Int) (hb : Bytes b) (hm : m ≤ 1048576) :
    EvI (ι := { q : List FileT × List ChangeT // q.1.length ≤ 8 ∧ q.2.length ≤ 17 }) X 20 [.e (.one (.c (.sl false 1 m (bys b))))] [] (fun q => .tup [.one (.c (.sl false 2 q.1.1.length (cF.fn q.1.1))), .one (.c (.sl false 3 q.1.2.length (cC.fn q.1.2)))]) (fun _ => []) := by
  refine EvI.bodyI Try.func20 rfl rfl rfl fun hf0 => ?_
  refine AK.run2 foll tok COK.nil [] 100 rfl trivial ?_
  refine AK.callEvI (ev_open m b hm) [] rfl rfl rfl rfl rfl rfl rfl (fun _ => rfl) rfl (fun _ => rfl) rfl ?_
  rintro ⟨m', hm'⟩
  refine AK.run2 foll tok COK.nil [] 100 rfl trivial ?_
  refine AK.callEvI (ev_two m' b hb 0 (by omega) hm') [0] rfl rfl rfl rfl rfl rfl rfl (fun _ => rfl) rfl (fun _ => rfl) rfl ?_
  rintro ⟨t1, t2, k1, hl1, hl2, h1, h2⟩
  refine AK.run2 foll tok COK.nil [] 100 rfl trivial ?_
  have hdl := treeDiff_len t1 t2
  refine AK.callEv (ev_treeDiffB t1 t2) [] rfl rfl rfl rfl rfl rfl rfl rfl rfl rfl rfl ?_
  generalize treeDiff t1 t2 = l at hdl ⊢
  refine AK.run2 foll tok COK.nil [] 100 rfl trivial ?_
  refine AK.callEvI (ev_pick m' b hb k1 6 (by omega) hm' (by omega)) [0] rfl rfl rfl rfl rfl rfl rfl (fun _ => rfl) rfl (fun _ => rfl) rfl ?_
  rintro ⟨v, v0, v1⟩
  by_cases hv : v = 0
  · refine AK.run2 foll tok COK.nil [(20, true)] 100 rfl (by simp [AllP, hv]) ?_
    refine AK.callEvI (ev_path m' b hb (k1 + 1) (by omega) hm') [0] rfl rfl rfl rfl rfl rfl rfl (fun _ => rfl) rfl (fun _ => rfl) rfl ?_
    rintro ⟨p, hp⟩
    refine AK.run2 foll tok COK.nil [] 100 rfl trivial ?_
    refine AK.callEvI (ev_pick m' b hb (k1 + 1 + 1 + 1) 4 (by omega) hm' (by omega)) [0] rfl rfl rfl rfl rfl rfl rfl (fun _ => rfl) rfl (fun _ => rfl) rfl ?_
    rintro ⟨u, u0, u1⟩
    refine AK.run2 foll tok COK.nil [] 100 rfl ?_ ?_
    · simp [AllP, inR]; omega
    have := ev_of (X := X) m' b hb (k1 + 1 + 1 + 1 + 1) (by omega) hm' news2 (by decide)
    refine AK.callEvL this [0] rfl rfl rfl rfl ?_ rfl rfl rfl (fun _ => rfl) rfl (fun _ => rfl) rfl ?_
    · refine ⟨rfl, fun i hi => ?_⟩
      rcases i with _ | _ | i <;> first | rfl | omega
    rintro ⟨x, hx⟩
    refine AK.run2 foll tok COK.nil [] 100 rfl ?_ (AK.retI ⟨(t1, l ++ [(p, 1 + u, x)]), hl1, by simp; omega⟩ (AK.retB [] rfl ?_ rfl rfl rfl fixNil))
    · simp [AllP, i33]; omega
    · simp [-List.getD_eq_getElem?_getD, AllP, AllP.cat, EqF.same]
      exact cC.fn_push _ (p, 1 + u, x)
  · refine AK.run2 foll tok COK.nil [(20, false)] 100 rfl (by simp [AllP, hv]) (AK.retI ⟨(t1, l), hl1, by simp only; omega⟩ (AK.retB [] rfl ?_ rfl rfl rfl fixNil))
    simp [AllP, AllP.cat, EqF.same]
end Go.AM.R1

/- A goroutine alone: from a contract in every company to the machine's own runs. -/
namespace Go.AM
open Go.Conc (G)
open Go.RowKit (Below)

def loneG (g : Goroutine) (w : World) : Machine := { world := w, gs := #[g], rest := { timers := #[], alone := none, slice := none } }

theorem move_loneG {P : Program} {g : Goroutine} {w : World} (hr : g.status = .running) : move P (loneG g w) = .goroutine (loneG g w) 0 := by
  obtain ⟨fr, cs, st, dy⟩ := g
  subst hr
  simp [move, ask, askOn, loneG, runnable_eq, due, ahead, Goroutine.canRun, List.range_succ, choose, pure, Sem.run, Question.forced]

theorem step_loneG {P : Program} {g g' : Goroutine} {w w' : World} {es : Array Event} (hr : g.status = .running) (h : stepG P true g w = .go g' w' es) : step P (loneG g w) = .next (loneG g' w') := by
  rw [step, stepT, move_loneG hr]
  simp [runT, loneG, Array.swapAt!, h]

/-- What is committed stands there. -/
def MemOK (s : St) : Prop := ∀ b o v, s.M b o = some v → s.w.cell? ⟨b, o, none⟩ = some v

/-- No others; at one stroke: whatever the machine alone comes to. -/
def Cx.lone (P : Program) : Cx P := { main := true, rely := fun s s' => RelyC s s' ∧ s' = s, jump := fun g s T => MemOK s → ∃ g' s', MemOK s' ∧ T g' s' ∧ Steps P (loneG g s.w) (loneG g' s'.w), relyC := fun h => h.1 }

theorem Arr.run {P : Program} {S : Goroutine → St → Prop} {g : Goroutine} {s : St} (h : Arr (Cx.lone P) S g s) (hm : MemOK s) : ∃ g' s', S g' s' ∧ Steps P (loneG g s.w) (loneG g' s'.w) := by
  induction h with
  | stop h => exact ⟨_, _, h, .refl _ _⟩
  | @step g s ng ns ne hr h1 h2 _ ih =>
    have hrel : (Cx.lone P).rely s s := ⟨⟨rfl, rfl, rfl, Nat.le_refl _, fun _ _ => rfl, hm, rfl, rfl, rfl⟩, rfl⟩
    obtain ⟨⟨σ, σ', hh, hh', _⟩, _⟩ := h2 s hrel
    obtain ⟨g', s', k1, k2⟩ := ih s hrel hh'.mem
    exact ⟨g', s', k1, .head (step_loneG hr (h1 s hrel)) k2⟩
  | ghost hg _ ih =>
    obtain ⟨g', s', k1, k2⟩ := ih fun b o v hv => by rw [hg.w]; exact hg.cell b o v hv
    rw [hg.w] at k2
    exact ⟨g', s', k1, k2⟩
  | forget hg _ ih =>
    obtain ⟨g', s', k1, k2⟩ := ih fun b o v hv => by rw [hg.w]; exact hm b o v (hg.less b o v hv)
    rw [hg.w] at k2
    exact ⟨g', s', k1, k2⟩
  | jump hj _ ih =>
    obtain ⟨g1, s1, h1, h2, h3⟩ := hj hm
    obtain ⟨g', s', k1, k2⟩ := ih g1 s1 h2 h1
    exact ⟨g', s', k1, h3.trans k2⟩

/-- The state in which all that is there is committed. -/
def St.all (w : World) : St := { β := [], M := fun b o => w.cell? ⟨b, o, none⟩, w := w, own := fun b => b < w.heap.size }

theorem HeapOK.all (w : World) : HeapOK [] (St.all w) := ⟨fun _ _ _ h => h, rfl, by simp, by simp [St.all], by simp [St.all], fun b hb => ⟨hb, by simp [St.all]⟩⟩

/-- From a contract to a call of the machine's. -/
theorem EvI.calls {P : Program} {ι : Type} {f : FuncId} {args : List D} {res : ι → D} {σ' : ι → List Box} (h : EvI (Cx.lone P) f args [] res σ') {w : World} {vs : List Value} (hv : RdDs [] (St.all w) vs args) {R : Ending → World → Prop}
    (hR : ∀ i v s', RdD (σ' i) s' v (res i) → HeapOK (σ' i) s' → Below w.heap.size w s'.w → R (.returned v) s'.w) : Calls P f vs.toArray w R := by
  intro cs
  have key := h.2 (St.all w) vs hv (HeapOK.all w) (fun g s' => ∃ i v fr, g = G fr cs ∧ Leav P f fr v s' ∧ RdD (σ' i) s' v (res i) ∧ HeapOK (σ' i) s' ∧ Below w.heap.size w s'.w) cs
    (fun i fr v s' h1 h2 h3 h4 => .stop ⟨i, v, fr, rfl, h1, h2, h3, ⟨h4.os, h4.tape, h4.output, h4.size, fun k hk => h4.keep k hk⟩⟩)
  obtain ⟨g', s', ⟨i, v, fr, rfl, h1, h2, h3, h4⟩, k⟩ := key.run (HeapOK.all w).mem
  obtain ⟨fn, hf, hres⟩ := h1.fn
  exact ⟨.returned v, s'.w, fr, hR i v s' h2 h3 h4, k, h1.isF, h1.mode, h1.defers, h1.kind, fn, hf, (hres s'.w h3.mem).1⟩
end Go.AM

/- slices.Sort at strings, for the lone goroutine: the shelf contract, laid over this program. -/
namespace Go.Proofs
open Go.Shelf
def Try.lays190_ren : Go.Shelf.Ren := ⟨fun | 190 => 70 | 125 => 81 | 258 => 80 | 128 => 93 | 129 => 94 | 302 => 84 | 303 => 85 | 304 => 86 | 305 => 87 | 306 => 88 | 307 => 89 | 308 => 90 | 309 => 91 | 310 => 92 | 333 => 96 | 329 => 97 | 330 => 98 | 334 => 99 | 335 => 100 | 336 => 101 | 344 => 106 | n => n, fun | 31 => 74 | 9 => 9 | 3 => 3 | 46 => 114 | 0 => 0 | 51 => 125 | 53 => 127 | 4 => 4 | 183 => 118 | 182 => 117 | 131 => 122 | 5 => 5 | 218 => 129 | 222 => 133 | 228 => 136 | 229 => 137 | n => n, fun | n => n⟩
theorem Try.lays190 : Go.Proofs.Lays.n190 Try.prog Try.lays190_ren := {
  mixed := by kernel_rfl
  f125 := Try.func81.trans (congrArg some (by kernel_rfl))
  f128 := Try.func93.trans (congrArg some (by kernel_rfl))
  f129 := Try.func94.trans (congrArg some (by kernel_rfl))
  f190 := Try.func70.trans (congrArg some (by kernel_rfl))
  f258 := Try.func80.trans (congrArg some (by kernel_rfl))
  f302 := Try.func84.trans (congrArg some (by kernel_rfl))
  f303 := Try.func85.trans (congrArg some (by kernel_rfl))
  f304 := Try.func86.trans (congrArg some (by kernel_rfl))
  f305 := Try.func87.trans (congrArg some (by kernel_rfl))
  f306 := Try.func88.trans (congrArg some (by kernel_rfl))
  f307 := Try.func89.trans (congrArg some (by kernel_rfl))
  f308 := Try.func90.trans (congrArg some (by kernel_rfl))
  f309 := Try.func91.trans (congrArg some (by kernel_rfl))
  f310 := Try.func92.trans (congrArg some (by kernel_rfl))
  f329 := Try.func97.trans (congrArg some (by kernel_rfl))
  f330 := Try.func98.trans (congrArg some (by kernel_rfl))
  f333 := Try.func96.trans (congrArg some (by kernel_rfl))
  f334 := Try.func99.trans (congrArg some (by kernel_rfl))
  f335 := Try.func100.trans (congrArg some (by kernel_rfl))
  f336 := Try.func101.trans (congrArg some (by kernel_rfl))
  f344 := Try.func106.trans (congrArg some (by kernel_rfl))
  t0 := Try.underlying0
  a0 := Try.isAgg0
  z0 := Try.sizeOf0
  v0 := Try.zeroValue0
  t3 := Try.underlying3
  a3 := Try.isAgg3
  z3 := Try.sizeOf3
  v3 := Try.zeroValue3
  t4 := Try.underlying4
  a4 := Try.isAgg4
  z4 := Try.sizeOf4
  v4 := Try.zeroValue4
  t5 := Try.underlying5
  a5 := Try.isAgg5
  z5 := Try.sizeOf5
  v5 := Try.zeroValue5
  t9 := Try.underlying9
  a9 := Try.isAgg9
  z9 := Try.sizeOf9
  v9 := Try.zeroValue9
  t31 := Try.underlying74
  a31 := Try.isAgg74
  z31 := Try.sizeOf74
  v31 := Try.zeroValue74
  t46 := Try.underlying114
  a46 := Try.isAgg114
  z46 := Try.sizeOf114
  v46 := Try.zeroValue114
  t51 := Try.underlying125
  a51 := Try.isAgg125
  z51 := Try.sizeOf125
  v51 := Try.zeroValue125
  t53 := Try.underlying127
  a53 := Try.isAgg127
  z53 := Try.sizeOf127
  v53 := Try.zeroValue127
  t131 := Try.underlying122
  a131 := Try.isAgg122
  z131 := Try.sizeOf122
  v131 := Try.zeroValue122
  t182 := Try.underlying117
  a182 := Try.isAgg117
  z182 := Try.sizeOf117
  v182 := Try.zeroValue117
  t183 := Try.underlying118
  a183 := Try.isAgg118
  z183 := Try.sizeOf118
  v183 := Try.zeroValue118
  t218 := Try.underlying129
  a218 := Try.isAgg129
  z218 := Try.sizeOf129
  v218 := Try.zeroValue129
  t222 := Try.underlying133
  a222 := Try.isAgg133
  z222 := Try.sizeOf133
  v222 := Try.zeroValue133
  t228 := Try.underlying136
  a228 := Try.isAgg136
  z228 := Try.sizeOf136
  v228 := Try.zeroValue136
  t229 := Try.underlying137
  a229 := Try.isAgg137
  z229 := Try.sizeOf137
  v229 := Try.zeroValue137 }
open Go.Sort Go.RowKit in
theorem Try.slices_Sort_string (blk off cap : Nat) (ss : List (List UInt8)) (w : World) (hH : Holds encStr w blk off ss.toArray) (hblk : blk < w.heap.size) (hsz : ss.length < 4611686018427387904) :
    Calls Try.prog 70 #[.slice (some ⟨blk, off, none⟩) ss.length cap] w fun e w' =>
      e = .returned (.tuple #[]) ∧ ∃ n os, w' = grow (putRow encStr (Sort.ahead w n) blk off (ss.mergeSort fun x y => decide (x ≤ y)).toArray) os := Any.slices_Sort_string Try.lays190 blk off cap ss w hH hblk hsz
open Go.RowKit Go.Sort in
/-- .. and plain. (LAID: no walk: one application.) -/
theorem Try.slices_Sort_string_none (p : Option Addr) (cap : Nat) (w : World) :
    Calls Try.prog 70 #[.slice p 0 cap] w fun e w' => e = .returned (.tuple #[]) ∧ w' = w := Any.slices_Sort_string_none Try.lays190 p cap w
end Go.Proofs

namespace Go.AM
open Go.Conc (G)
open Go.Proofs Go.Sort Go.RowKit

/-- A call of a function without results, done at one stroke. -/
theorem Arr.ofCalls {P : Program} {f : FuncId} {fn : Func} {vs : List Value} {s : St} {R : Ending → World → Prop} {S : Goroutine → St → Prop} {cs : List Frame} (hf : P.funcs[f]? = some fn) (hr : fn.results = #[]) (hc : Calls P f vs.toArray s.w R)
    (hR : ∀ e w', R e w' → ∃ v, e = .returned v) (k : ∀ fr w', R (.returned (.tuple #[])) w' → (∀ s', Leav P f fr (.tuple #[]) s') → ∃ s', s'.w = w' ∧ MemOK s' ∧ Arr (Cx.lone P) S (G fr cs) s') : Arr (Cx.lone P) S (G (Frame.enter P f vs.toArray .normal) cs) s := by
  refine .jump (T := fun g' s' => Arr (Cx.lone P) S g' s') (fun _ => ?_) (fun _ _ h => h)
  obtain ⟨e, w', fr, h1, h2, h3, h4⟩ := hc cs
  obtain ⟨v, rfl⟩ := hR e w' h1
  obtain ⟨hm, hd, hk, fn', hf', hres⟩ := h4
  have hst : Still P (results fn fr.tmps) := by
    unfold results
    rw [hr]
    refine .bind ?_ fun _ => .pure
    rw [Array.mapM_eq_mapM_toList]
    refine .map ?_
    rw [List.mapM_nil]; exact .pure
  have hrun : ∀ w, (results fn fr.tmps).run P w = .ok (.tuple #[]) w ∧ (results fn fr.tmps).events P w #[] = #[] := by
    intro w
    refine ⟨?_, hst w #[]⟩
    unfold results
    rw [hr]
    simp [Array.mapM_eq_mapM_toList]
  have e : fn' = fn := by
    rw [h3, hf] at hf'; cases hf'; rfl
  subst e
  have hv : v = .tuple #[] := by
    rw [(hrun w').1] at hres; cases hres; rfl
  subst hv
  obtain ⟨s', rfl, k2, k3⟩ := k fr w' h1 fun _ => ⟨h3, hm, hd, hk, fn', by rw [h3]; exact hf, fun w _ => ⟨(hrun w).1, fun e he => by rw [(hrun w).2] at he; simp at he⟩⟩
  exact ⟨G fr cs, s', k2, k3, h2⟩

namespace R1

theorem putRow_block (w : World) (b : Nat) (E : TypeId) (xs : List (List UInt8)) (zs : List Value) (ys : List (List UInt8)) (hl : ys.length = xs.length) (hw : w.heap[b]? = some (.cells (xs.map bsV ++ zs).toArray E (0, 0))) :
    (putRow encStr w b 0 ys.toArray).heap[b]? = some (.cells (ys.map bsV ++ zs).toArray E (0, 0)) := by
  have he : ∀ l : List UInt8, encStr l = bsV l := fun l => rfl
  unfold putRow mapBlock
  simp only [Array.getElem?_modify, if_true, hw, Option.map_some, onCells]
  congr 2
  apply Array.ext_getElem?
  intro i
  simp only [putCells, Array.getElem?_mapIdx]
  simp only [List.getElem?_toArray]
  by_cases h : i < ys.length
  · rw [List.getElem?_append_left (by simpa using (hl ▸ h)), List.getElem?_append_left (by simpa using h)]
    simp only [List.getElem?_map]
    have hx : i < xs.length := hl ▸ h
    rw [List.getElem?_eq_getElem hx, List.getElem?_eq_getElem h]
    simp only [Option.map_some, Nat.zero_le, true_and, Nat.zero_add, List.size_toArray, h, if_true, Nat.sub_zero]
    rw [getElem!_pos ys.toArray i (by simpa using h)]
    simp [he]
  · rw [List.getElem?_append_right (by simp; omega), List.getElem?_append_right (by simp; omega)]
    simp only [List.length_map, hl]
    cases hz : zs[i - xs.length]? with
    | none => rfl
    | some z =>
      simp only [Option.map_some, Nat.zero_le, true_and, Nat.zero_add, List.size_toArray, h, if_false]

theorem putRow_other (w : World) (b b' : Nat) (ys : Array (List UInt8)) (h : b' ≠ b) : (putRow encStr w b 0 ys).heap[b']? = w.heap[b']? := by
  unfold putRow mapBlock
  simp only [Array.getElem?_modify, if_neg (Ne.symm h)]

theorem putRow_size (w : World) (b : Nat) (ys : Array (List UInt8)) : (putRow encStr w b 0 ys).heap.size = w.heap.size := by
  unfold putRow mapBlock; simp

theorem bl_lt : ∀ a b : List UInt8, Op.bytesLess a b = decide (a < b)
  | a, [] => by rw [bl_nil_r]; simp
  | [], b :: y => by rw [bl_nil_l]; simp
  | a :: x, b :: y => by
    rw [bl_cons, bl_lt x y, Bool.eq_iff_iff]
    simp [List.cons_lt_cons_iff]

theorem le_bl (a b : List UInt8) : decide (a ≤ b) = !(Op.bytesLess b a) := by
  rw [bl_lt, Bool.eq_iff_iff]
  simp [List.not_lt]

theorem sorted_ms (l : List (List UInt8)) : (l.mergeSort fun x y => decide (x ≤ y)).Pairwise fun a b => Op.bytesLess b a = false := by
  have := List.pairwise_mergeSort (le := fun x y : List UInt8 => decide (x ≤ y)) (fun a b c h1 h2 => ?_) (fun a b => ?_) l
  · refine this.imp fun {a b} h => ?_
    rw [le_bl] at h; simpa using h
  · simp only [le_bl, Bool.not_eq_true'] at h1 h2 ⊢
    cases h3 : Op.bytesLess c a with
    | false => rfl
    | true =>
      rcases bl_total a b with h | h | h
      · have := bl_trans h3 h; rw [this] at h2; cases h2
      · subst h; rw [h3] at h2; cases h2
      · rw [h] at h1; cases h1
  · simp only [le_bl]
    cases h3 : Op.bytesLess b a with
    | false => rfl
    | true => simp [bl_asymm h3]

theorem sortOK : SortOK (Cx.lone Try.prog) := by
  intro bf l hl hx
  refine ⟨l.mergeSort fun x y => decide (x ≤ y), List.mergeSort_perm _ _, ?_, ?_⟩
  · exact sorted_ms l
  refine ⟨⟨Try.f70, Try.func70, rfl, rfl⟩, fun s vs hr hh S cs hS => ?_⟩
  obtain ⟨v, rfl, hv⟩ : ∃ v, vs = [v] ∧ v = slV bf l.length := by
    match vs, hr with
    | [v], hr => exact ⟨v, rfl, Rd.valEq hr.1⟩
  subst hv
  have hlen := hh.len
  have hL := List.getElem?_eq_getElem (by rw [hlen]; simp : 0 < s.β.length)
  generalize s.β[0]'(by rw [hlen]; simp) = L at hL
  obtain ⟨ch, hH, hheap, hbs, hM0⟩ := hh.box 0 _ L rfl hL
  cases bf with
  | nil a0 =>
    obtain ⟨h1, h2, h3, h4⟩ := hH
    have : l = [] := by simpa using h3
    subst this
    refine Arr.ofCalls (vs := [.slice a0 0 0]) Try.func70 rfl (Try.slices_Sort_string_none a0 0 s.w) (fun e w' h => ⟨_, h.1⟩) fun fr w' hR hlv => ?_
    obtain ⟨_, rfl⟩ := hR
    refine ⟨s, rfl, hh.mem, hS fr _ s (hlv s) ⟨[], rfl, trivial⟩ ?_ ?_⟩
    · simpa using hh
    · simpa using StepW.refl _ s
  | row b cap =>
    obtain ⟨zs, hzl, hchb, hchs⟩ := SB.lookup hH
    obtain ⟨hv0, hcell, hcap, hcb, _⟩ := hH
    have hbL : b ∈ L.bs := (hbs b).2 (by rw [hchb]; rfl)
    have hrow := hheap b _ hchb
    have hblt : b < s.w.heap.size := hh.lt L (List.mem_of_getElem? hL) b hbL
    have hHo : Holds encStr s.w b 0 l.toArray := by
      intro j hj
      have hj' : j < l.length := by simpa using hj
      refine ⟨?_, ?_⟩
      · simp only [World.cell?, hrow, Nat.zero_add]
        rw [getElem!_pos l.toArray j hj]
        simp [List.getElem?_append_left, hj', encStr, bsV]
      · simp [World.frozen?, hrow]
    let ys := l.mergeSort fun x y => decide (x ≤ y)
    have hyl : ys.length = l.length := List.length_mergeSort _
    refine Arr.ofCalls (vs := [.slice (some ⟨b, 0, none⟩) l.length cap]) Try.func70 rfl (Try.slices_Sort_string b 0 cap l s.w hHo hblt (by omega)) (fun e w' h => ⟨_, h.1⟩) fun fr w' hR hlv => ?_
    obtain ⟨_, n, os, rfl⟩ := hR
    have hsz : (putRow encStr (Sort.ahead s.w n) b 0 ys.toArray).heap.size = s.w.heap.size := putRow_size _ _ _
    have hg : ∀ b', b' < s.w.heap.size → (grow (putRow encStr (Sort.ahead s.w n) b 0 ys.toArray) os).heap[b']? = (putRow encStr (Sort.ahead s.w n) b 0 ys.toArray).heap[b']? := fun b' hb' => by
      simp only [grow]
      rw [Array.getElem?_append_left (by rw [hsz]; exact hb')]
    have hnew : (grow (putRow encStr (Sort.ahead s.w n) b 0 ys.toArray) os).heap[b]? = some (.cells (ys.map bsV ++ zs).toArray 9 (0, 0)) := by
      rw [hg b hblt]; exact putRow_block (Sort.ahead s.w n) b 9 l zs ys hyl hrow
    obtain ⟨t1, t2⟩ := hh.turn (l := 0) (H' := SB 9 (.row b cap) (ys.map bsV)) (L' := L) (w' := grow (putRow encStr (Sort.ahead s.w n) b 0 ys.toArray) os) rfl hL rfl (by simp only [grow, Array.size_append, hsz]; omega)
      (fun b' hb' hn => by rw [hg b' hb', putRow_other _ _ _ _ (by rintro rfl; exact hn hbL)]; rfl) (fun b' hb' => .inl hb')
      ⟨fun b' => if b' = b then some (.cells (ys.map bsV ++ zs).toArray 9 (0, 0)) else none, ⟨hv0, fun x hx => by
        obtain ⟨y, _, rfl⟩ := List.mem_map.1 hx; rfl, by simp only [List.length_map] at hcap ⊢; omega, hcb, zs, by simp only [List.length_append, List.length_map] at hzl ⊢; omega, rfl⟩, fun b' o hb' => by
        by_cases e : b' = b
        · subst e; simp only [if_true] at hb'; cases hb'; exact hnew
        · simp [e] at hb', fun b' => by
        rw [hbs b', hchs b']
        by_cases e : b' = b <;> simp [e]⟩ rfl rfl rfl
    exact ⟨_, rfl, t1.mem, hS fr _ _ (hlv _) ⟨[], rfl, trivial⟩ t1 (t2.toW hh)⟩
end R1
end Go.AM
