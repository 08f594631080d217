/-
  Part 1 of a machine of values without memory, proved sound over the model, and of contracts of the functions that the laws reach. Nothing is taken for granted: no condition.
-/
import Derived.Tactics2
import Derived.Conc.Own
import Derived.Conc.Events
import Derived.Conc.Listed
import Derived.Laws.CopyRow
import Derived.Laws.AppendOwn
import Derived.Laws.Rows
import Derived.Laws.Strings
import Derived.Laws.Cells
set_option linter.unusedVariables false
/- The abstract machine: values without memory. Closed data (C), cells (A), slots (D), boxes; what they say of a world; how a step may turn it. -/
namespace Go.AM

inductive C where
  | int (k : IntKind) (n : Int)
  | bool (b : Bool)
  | str (s : List UInt8)
  | sl (tight : Bool) (k n : Nat) (es : Nat → List C)
  | rp (cs : List C)
  | nilp
  | ifs (t : TypeId) (c : C)
  | ifa (t : TypeId) (cs : List C)
  | nili
  | fn (f : Fn) (first cap : List C)
  | nilf
  | val (x : Value)

inductive A where
  | c (x : C)
  | ptr (l off : Nat)
  | vec (l k n : Nat) (es : Nat → List C)
  | ref (l : Nat)
  | any

/-- The value is just this. -/
abbrev A.v (x : Value) : A := .c (.val x)

inductive E1 where
  | one (a : A)
  | agg (cs : List A)

inductive D where
  | e (x : E1)
  | tup (xs : List E1)
  | any

abbrev Fr := List (Nat × D)

def look : Fr → Nat → D
  | [], _ => .any
  | (i, d) :: r, t => cond (Nat.beq i t) d (look r t)

inductive Box where
  | cells (E : TypeId) (cs : List A)
  | vec (E : TypeId) (k n : Nat) (es : Nat → List C)
  | opq (H : Value → (Nat → Option Obj) → Prop)
  | dead
  | loop (N : Nat) (φ : Fr) (r : Loop)
  | dfr

structure Loc where
  v : Value
  bs : List Nat

abbrev Mem := Nat → Nat → Option Value
structure St where
  β : List Loc
  M : Mem
  w : World
  own : Nat → Prop

/-- The numbers that a kind holds. -/
def inR : IntKind → Int → Prop
  | .i8, n => -128 ≤ n ∧ n ≤ 127
  | .i16, n => -32768 ≤ n ∧ n ≤ 32767
  | .i32, n => -2147483648 ≤ n ∧ n ≤ 2147483647
  | .i64, n => -9223372036854775808 ≤ n ∧ n ≤ 9223372036854775807
  | .u8, n => 0 ≤ n ∧ n ≤ 255
  | .u16, n => 0 ≤ n ∧ n ≤ 65535
  | .u32, n => 0 ≤ n ∧ n ≤ 4294967295
  | .u64, n => 0 ≤ n ∧ n ≤ 18446744073709551615

def isCell : Value → Bool
  | .agg _ | .tuple _ => false
  | _ => true

inductive Rd (M : Mem) : Value → C → Prop
  | int {k : IntKind} {n : Int} (h : inR k n) : Rd M (.int k n) (.int k n)
  | bool {b : Bool} : Rd M (.bool b) (.bool b)
  | str {s : ByteArray} {l : List UInt8} (h : s.data.toList = l) (hl : l.length ≤ 9223372036854775807) : Rd M (.string s) (.str l)
  | sl {a : Option Addr} {n cap : Nat} {tight : Bool} {k : Nat} {es : Nat → List C} (b off : Nat) (f : Nat → Nat → Value)
      (hcap : n ≤ cap) (hb : cap ≤ 9223372036854775807) (ht : tight = true → cap = n) (hk : ∀ i, i < n → (es i).length = k)
      (ha : 0 < n → a = some ⟨b, off, none⟩)
      (hm : ∀ i, i < n → ∀ j c, (es i)[j]? = some c → M b (off + i * k + j) = some (f i j))
      (hr : ∀ i, i < n → ∀ j c, (es i)[j]? = some c → Rd M (f i j) c) : Rd M (.slice a n cap) (.sl tight k n es)
  | rp {cs : List C} (b off : Nat) (f : Nat → Value)
      (hm : ∀ j c, cs[j]? = some c → M b (off + j) = some (f j))
      (hr : ∀ j c, cs[j]? = some c → Rd M (f j) c) : Rd M (.pointer (some ⟨b, off, none⟩)) (.rp cs)
  | nilp : Rd M (.pointer none) .nilp
  | ifs {t : TypeId} {v : Value} {c : C} (h : Rd M v c) (hc : isCell v = true) : Rd M (.iface t v) (.ifs t c)
  | ifa {t : TypeId} {vs : List Value} {cs : List C} (hl : vs.length = cs.length)
      (f : Nat → Value) (hf : ∀ j, j < vs.length → vs[j]? = some (f j)) (hr : ∀ j c, cs[j]? = some c → Rd M (f j) c) : Rd M (.iface t (.agg vs.toArray)) (.ifa t cs)
  | nili : Rd M .nilIface .nili
  | fn {g : Fn} {first cap : List C} (fs cs : List Value) (hl : fs.length = first.length) (hl' : cs.length = cap.length) (f1 f2 : Nat → Value)
      (h1 : ∀ j, j < fs.length → fs[j]? = some (f1 j)) (h2 : ∀ j, j < cs.length → cs[j]? = some (f2 j))
      (r1 : ∀ j c, first[j]? = some c → Rd M (f1 j) c) (r2 : ∀ j c, cap[j]? = some c → Rd M (f2 j) c) : Rd M (.func g fs.toArray cs.toArray) (.fn g first cap)
  | nilf : Rd M .nilFunc .nilf
  | val {x : Value} (h : isCell x = true) : Rd M x (.val x)

theorem Rd.valEq {M : Mem} {v x : Value} (h : Rd M v (.val x)) : v = x := by cases h; rfl

theorem Rd.cell {M : Mem} {v : Value} {c : C} (h : Rd M v c) : isCell v = true := by cases h <;> first | rfl | assumption

theorem Rd.mono {M M' : Mem} (hM : ∀ b o v, M b o = some v → M' b o = some v) {v : Value} {c : C} (h : Rd M v c) : Rd M' v c := by
  induction h with
  | int h => exact .int h
  | bool => exact .bool
  | str h hl => exact .str h hl
  | sl b off f hcap hb ht hk ha hm hr ih =>
    exact .sl b off f hcap hb ht hk ha (fun i hi j c hj => hM _ _ _ (hm i hi j c hj)) (fun i hi j c hj => ih i hi j c hj)
  | rp b off f hm hr ih => exact .rp b off f (fun j c hj => hM _ _ _ (hm j c hj)) (fun j c hj => ih j c hj)
  | nilp => exact .nilp
  | ifs h hc ih => exact .ifs ih hc
  | ifa hl f hf hr ih => exact .ifa hl f hf (fun j c hj => ih j c hj)
  | nili => exact .nili
  | fn fs cs hl hl' f1 f2 h1 h2 r1 r2 ih1 ih2 => exact .fn fs cs hl hl' f1 f2 h1 h2 (fun j c hj => ih1 j c hj) (fun j c hj => ih2 j c hj)
  | nilf => exact .nilf
  | val h => exact .val h

def RdA (σ : List Box) (s : St) (v : Value) : A → Prop
  | .c x => Rd s.M v x
  | .ptr l off => (∀ E k n es, σ[l]? ≠ some (Box.vec E k n es)) ∧ ∃ L b, s.β[l]? = some L ∧ L.v = .pointer (some ⟨b, 0, none⟩) ∧ v = .pointer (some ⟨b, off, none⟩)
  | .vec l k n es => Rd s.M v (.sl false k n es) ∧ l < σ.length ∧ ∀ E k' n' es', σ[l]? = some (Box.vec E k' n' es') → n ≤ n' ∧ (n' = n → ∃ L, s.β[l]? = some L ∧ v = L.v)
  | .ref l => (∀ E k n es, σ[l]? ≠ some (Box.vec E k n es)) ∧ ∃ L, s.β[l]? = some L ∧ v = L.v ∧ isCell v = true
  | .any => isCell v = true

def RdL (σ : List Box) (s : St) : List Value → List A → Prop
  | [], [] => True
  | v :: vs, a :: al => RdA σ s v a ∧ RdL σ s vs al
  | _, _ => False

def RdE (σ : List Box) (s : St) (v : Value) : E1 → Prop
  | .one a => RdA σ s v a
  | .agg cs => ∃ vs : List Value, v = .agg vs.toArray ∧ RdL σ s vs cs

def RdEs (σ : List Box) (s : St) : List Value → List E1 → Prop
  | [], [] => True
  | v :: vs, a :: al => RdE σ s v a ∧ RdEs σ s vs al
  | _, _ => False

def RdD (σ : List Box) (s : St) (v : Value) : D → Prop
  | .e x => RdE σ s v x
  | .tup xs => ∃ vs : List Value, v = .tuple vs.toArray ∧ RdEs σ s vs xs
  | .any => True

def RdDs (σ : List Box) (s : St) : List Value → List D → Prop
  | [], [] => True
  | v :: vs, a :: al => RdD σ s v a ∧ RdDs σ s vs al
  | _, _ => False

/-- What a box says of the world. -/
def BoxOK (σ : List Box) (s : St) : Box → Loc → Prop
  | .cells E cs, L => ∃ b vs, L = ⟨.pointer (some ⟨b, 0, none⟩), [b]⟩ ∧ s.w.heap[b]? = some (.cells (List.toArray vs) E (0, 0)) ∧ RdL σ s vs cs ∧ ∀ o, s.M b o = none
  | .vec E k n es, L => Rd s.M L.v (.sl false k n es) ∧
      (((L.bs = [] ∧ n = 0) ∧ Rd s.M L.v (.sl true k n es)) ∨
       ∃ b cap vs, L = ⟨.slice (some ⟨b, 0, none⟩) n cap, [b]⟩ ∧ s.w.heap[b]? = some (.cells (List.toArray vs) E (0, 0)) ∧ vs.length = cap * k ∧ ∀ o, n * k ≤ o → s.M b o = none)
  | .opq H, L => ∃ ch, H L.v ch ∧ (∀ (b : Nat) (o : Obj), ch b = some o → s.w.heap[b]? = some o) ∧ (∀ b, b ∈ L.bs ↔ (ch b).isSome = true) ∧ ∀ b ∈ L.bs, ∀ o, s.M b o = none
  | .dead, _ => True
  | .loop N φ r, L => ∃ l tmps fn df, L = ⟨.func (.yield l) #[] #[], [l]⟩ ∧ s.w.heap[l]? = some (.loop { r with tmps := tmps, fn := fn, defers := df }) ∧ tmps.size = N ∧ (∀ t, RdD σ s (tmps.getD t undef) (look φ t)) ∧ ∀ o, s.M l o = none
  | .dfr, L => ∃ r : Nat, L = ⟨.int .i64 r, [r]⟩ ∧ s.w.heap[r]? = some (.deferred (some [])) ∧ ∀ o, s.M r o = none

structure HeapOK (σ : List Box) (s : St) : Prop where
  mem : ∀ b o v, s.M b o = some v → s.w.cell? ⟨b, o, none⟩ = some v
  len : s.β.length = σ.length
  box : ∀ (l : Nat) (B : Box) (L : Loc), σ[l]? = some B → s.β[l]? = some L → BoxOK σ s B L
  disj : ∀ (l l' : Nat) (L L' : Loc), s.β[l]? = some L → s.β[l']? = some L' → ∀ b ∈ L.bs, b ∈ L'.bs → l = l'
  lt : ∀ L ∈ s.β, ∀ b ∈ L.bs, b < s.w.heap.size
  own : ∀ b, s.own b → b < s.w.heap.size ∧ ∀ L ∈ s.β, b ∉ L.bs

def BoxLe : Box → Loc → Box → Loc → Prop
  | .vec _ _ n _, L, .vec _ _ n' _, L' => (n' = n → L'.v = L.v) ∧ n ≤ n'
  | .vec _ _ _ _, _, .dead, _ => True
  | .vec _ _ _ _, _, _, _ => False
  | _, _, .vec _ _ _ _, _ => False
  | .dead, L, .dead, L' => L'.v = L.v
  | .dead, _, _, _ => False
  | .dfr, L, .dfr, L' => L'.v = L.v
  | .dfr, _, _, _ => False
  | _, _, .dfr, _ => False
  | _, L, _, L' => L'.v = L.v

/-- What is committed stays committed, and the boxes are still those. -/
structure Ext (σ : List Box) (s : St) (σ' : List Box) (s' : St) : Prop where
  mem : ∀ b o v, s.M b o = some v → s'.M b o = some v
  box : ∀ (l : Nat) (B : Box) (L : Loc), σ[l]? = some B → s.β[l]? = some L → ∃ B' L', σ'[l]? = some B' ∧ s'.β[l]? = some L' ∧ BoxLe B L B' L'

structure Step (σ : List Box) (s : St) (σ' : List Box) (s' : St) : Prop where
  size : s.w.heap.size ≤ s'.w.heap.size
  keep : ∀ b, b < s.w.heap.size → (∀ L ∈ s.β, b ∉ L.bs) → s'.w.heap[b]? = s.w.heap[b]?
  mem : ∀ b o v, s.M b o = some v → s'.M b o = some v
  memk : ∀ b, b < s.w.heap.size → (∀ L ∈ s.β, b ∉ L.bs) → ∀ o, s'.M b o = s.M b o
  bls : ∀ L' ∈ s'.β, ∀ b ∈ L'.bs, s.w.heap.size ≤ b ∨ ∃ L ∈ s.β, b ∈ L.bs
  box : ∀ (l : Nat) (B : Box) (L : Loc), σ[l]? = some B → s.β[l]? = some L → ∃ B' L', σ'[l]? = some B' ∧ s'.β[l]? = some L' ∧ BoxLe B L B' L'
  os : s'.w.os = s.w.os
  tape : s'.w.tape = s.w.tape
  output : s'.w.output = s.w.output
  own : s'.own = s.own

/-- .. in company: what others own besides may turn. -/
structure StepW (σ : List Box) (s : St) (σ' : List Box) (s' : St) : Prop where
  size : s.w.heap.size ≤ s'.w.heap.size
  keep : ∀ b, s.own b → s'.w.heap[b]? = s.w.heap[b]?
  mem : ∀ b o v, s.M b o = some v → s'.M b o = some v
  memk : ∀ b, b < s.w.heap.size → (∀ L ∈ s.β, b ∉ L.bs) → ∀ o, s'.M b o = s.M b o
  bls : ∀ L' ∈ s'.β, ∀ b ∈ L'.bs, s.w.heap.size ≤ b ∨ ∃ L ∈ s.β, b ∈ L.bs
  box : ∀ (l : Nat) (B : Box) (L : Loc), σ[l]? = some B → s.β[l]? = some L → ∃ B' L', σ'[l]? = some B' ∧ s'.β[l]? = some L' ∧ BoxLe B L B' L'
  os : s'.w.os = s.w.os
  tape : s'.w.tape = s.w.tape
  output : s'.w.output = s.w.output
  own : s'.own = s.own

/-- What others may do meanwhile. -/
structure RelyC (s s' : St) : Prop where
  β : s'.β = s.β
  M : s'.M = s.M
  own : s'.own = s.own
  size : s.w.heap.size ≤ s'.w.heap.size
  keep : ∀ b, (s.own b ∨ ∃ L ∈ s.β, b ∈ L.bs) → s'.w.heap[b]? = s.w.heap[b]?
  mem : ∀ b o v, s.M b o = some v → s'.w.cell? ⟨b, o, none⟩ = some v
  os : s'.w.os = s.w.os
  tape : s'.w.tape = s.w.tape
  output : s'.w.output = s.w.output

/-- An access that is allowed. -/
def evOK (s : St) (e : Event) : Prop :=
  match e.loc with
  | .cell a => e.sync = false ∧ a.spot = none ∧ (s.w.heap.size ≤ a.block ∨ ((∃ L ∈ s.β, a.block ∈ L.bs) ∧ (e.write = true → s.M a.block a.off = none)) ∨ (e.write = false ∧ ∃ v, s.M a.block a.off = some v))
  | .obj r => e.sync = false ∧ (s.w.heap.size ≤ r ∨ ∃ L ∈ s.β, r ∈ L.bs)
  | .mark m => m = .noRoom ∨ ∃ f, m = .extern f
  | _ => False

def EvOK (s : St) (es : Array Event) : Prop := ∀ e ∈ es, evOK s e

theorem EvOK.nil {s : St} : EvOK s #[] := by intro e h; simp at h

theorem BoxLe.refl (B : Box) (L : Loc) : BoxLe B L B L := by cases B <;> simp [BoxLe]

theorem BoxLe.trans {B B' B'' : Box} {L L' L'' : Loc} (h : BoxLe B L B' L') (h' : BoxLe B' L' B'' L'') : BoxLe B L B'' L'' := by
  cases B <;> cases B' <;> cases B'' <;> simp_all [BoxLe]
  obtain ⟨h1, h2⟩ := h
  obtain ⟨h3, h4⟩ := h'
  refine ⟨fun e => ?_, by omega⟩
  rw [h3 (by omega), h1 (by omega)]

theorem Step.refl (σ : List Box) (s : St) : Step σ s σ s :=
  ⟨Nat.le_refl _, fun _ _ _ => rfl, fun _ _ _ h => h, fun _ _ _ _ => rfl, fun L h b hb => .inr ⟨L, h, hb⟩, fun _ B L h h' => ⟨B, L, h, h', .refl _ _⟩, rfl, rfl, rfl, rfl⟩

theorem Step.trans {σ σ1 σ2 : List Box} {s s1 s2 : St} (h : Step σ s σ1 s1) (k : Step σ1 s1 σ2 s2) : Step σ s σ2 s2 := by
  have out : ∀ b, b < s.w.heap.size → (∀ L ∈ s.β, b ∉ L.bs) → ∀ L ∈ s1.β, b ∉ L.bs := by
    intro b hb hn L hL hbL
    rcases h.bls L hL b hbL with h1 | ⟨L0, hL0, hb0⟩
    · omega
    · exact hn L0 hL0 hb0
  refine ⟨Nat.le_trans h.size k.size, ?_, fun b o v hv => k.mem _ _ _ (h.mem _ _ _ hv), ?_, ?_, ?_, k.os.trans h.os, k.tape.trans h.tape, k.output.trans h.output, k.own.trans h.own⟩
  · intro b hb hn
    rw [k.keep b (Nat.lt_of_lt_of_le hb h.size) (out b hb hn), h.keep b hb hn]
  · intro b hb hn o
    rw [k.memk b (Nat.lt_of_lt_of_le hb h.size) (out b hb hn), h.memk b hb hn]
  · intro L hL b hb
    rcases k.bls L hL b hb with h1 | ⟨L1, hL1, hb1⟩
    · exact .inl (Nat.le_trans h.size h1)
    · exact h.bls L1 hL1 b hb1
  · intro l B L hB hL
    obtain ⟨B1, L1, h1, h2, h3⟩ := h.box l B L hB hL
    obtain ⟨B2, L2, k1, k2, k3⟩ := k.box l B1 L1 h1 h2
    exact ⟨B2, L2, k1, k2, h3.trans k3⟩

theorem StepW.refl (σ : List Box) (s : St) : StepW σ s σ s :=
  ⟨Nat.le_refl _, fun _ _ => rfl, fun _ _ _ h => h, fun _ _ _ _ => rfl, fun L h b hb => .inr ⟨L, h, hb⟩, fun _ B L h h' => ⟨B, L, h, h', .refl _ _⟩, rfl, rfl, rfl, rfl⟩

theorem StepW.trans {σ σ1 σ2 : List Box} {s s1 s2 : St} (h : StepW σ s σ1 s1) (k : StepW σ1 s1 σ2 s2) : StepW σ s σ2 s2 := by
  have out : ∀ b, b < s.w.heap.size → (∀ L ∈ s.β, b ∉ L.bs) → ∀ L ∈ s1.β, b ∉ L.bs := by
    intro b hb hn L hL hbL
    rcases h.bls L hL b hbL with h1 | ⟨L0, hL0, hb0⟩
    · omega
    · exact hn L0 hL0 hb0
  refine ⟨Nat.le_trans h.size k.size, ?_, fun b o v hv => k.mem _ _ _ (h.mem _ _ _ hv), ?_, ?_, ?_, k.os.trans h.os, k.tape.trans h.tape, k.output.trans h.output, k.own.trans h.own⟩
  · intro b hb
    rw [k.keep b (by rw [h.own]; exact hb), h.keep b hb]
  · intro b hb hn o
    rw [k.memk b (Nat.lt_of_lt_of_le hb h.size) (out b hb hn), h.memk b hb hn]
  · intro L hL b hb
    rcases k.bls L hL b hb with h1 | ⟨L1, hL1, hb1⟩
    · exact .inl (Nat.le_trans h.size h1)
    · exact h.bls L1 hL1 b hb1
  · intro l B L hB hL
    obtain ⟨B1, L1, h1, h2, h3⟩ := h.box l B L hB hL
    obtain ⟨B2, L2, k1, k2, k3⟩ := k.box l B1 L1 h1 h2
    exact ⟨B2, L2, k1, k2, h3.trans k3⟩

theorem Step.toW {σ σ' : List Box} {s s' : St} (hh : HeapOK σ s) (h : Step σ s σ' s') : StepW σ s σ' s' :=
  ⟨h.size, fun b hb => h.keep b (hh.own b hb).1 (hh.own b hb).2, h.mem, h.memk, h.bls, h.box, h.os, h.tape, h.output, h.own⟩

theorem StepW.ext {σ σ' : List Box} {s s' : St} (h : StepW σ s σ' s') : Ext σ s σ' s' := ⟨h.mem, h.box⟩

theorem RelyC.refl {σ : List Box} {s : St} (hh : HeapOK σ s) : RelyC s s := ⟨rfl, rfl, rfl, Nat.le_refl _, fun _ _ => rfl, hh.mem, rfl, rfl, rfl⟩

theorem RelyC.stepW {σ : List Box} {s s' : St} (h : RelyC s s') : StepW σ s σ s' :=
  ⟨h.size, fun b hb => h.keep b (.inl hb), fun b o v hv => by rw [h.M]; exact hv, fun _ _ _ _ => by rw [h.M], fun L hL b hb => .inr ⟨L, by rw [← h.β]; exact hL, hb⟩,
    fun l B L hB hL => ⟨B, L, hB, by rw [h.β]; exact hL, .refl _ _⟩, h.os, h.tape, h.output, h.own⟩

theorem Step.ext {σ σ' : List Box} {s s' : St} (h : Step σ s σ' s') : Ext σ s σ' s' := ⟨h.mem, h.box⟩

section mono
variable {σ σ' : List Box} {s s' : St}

theorem Ext.nvec (h : Ext σ s σ' s') {l : Nat} {L : Loc} (hL : s.β[l]? = some L) (hl : s.β.length = σ.length) (hn : ∀ E k n es, σ[l]? ≠ some (Box.vec E k n es)) :
    (∀ E k n es, σ'[l]? ≠ some (Box.vec E k n es)) ∧ ∃ L', s'.β[l]? = some L' ∧ L'.v = L.v := by
  have hlt : l < σ.length := by rw [← hl]; exact (List.getElem?_eq_some_iff.1 hL).1
  obtain ⟨B', L', k1, k2, k3⟩ := h.box l (σ[l]) L (List.getElem?_eq_getElem hlt) hL
  have hnv := hn
  rw [List.getElem?_eq_getElem hlt] at hnv
  generalize σ[l] = B at *
  rw [k1]
  cases B with
  | vec E k n es => exact absurd rfl (hnv E k n es)
  | cells E cs => cases B' <;> simp_all [BoxLe]
  | opq H => cases B' <;> simp_all [BoxLe]
  | dead => cases B' <;> simp_all [BoxLe]
  | loop N φ r => cases B' <;> simp_all [BoxLe]
  | dfr => cases B' <;> simp_all [BoxLe]

/-- What is known of a value stays known. (The boxes named must be there: 'len'.) -/
theorem RdA.mono (h : Ext σ s σ' s') (hl : s.β.length = σ.length) {v : Value} {a : A} (r : RdA σ s v a) : RdA σ' s' v a := by
  cases a with
  | c x => exact Rd.mono h.mem r
  | any => exact r
  | ptr l off =>
    obtain ⟨hn, L, b, h1, h2, h3⟩ := r
    obtain ⟨n', L', k1, k2⟩ := h.nvec h1 hl hn
    exact ⟨n', L', b, k1, by rw [k2, h2], h3⟩
  | vec l k n es =>
    obtain ⟨r1, hlt, r2⟩ := r
    obtain ⟨B', L', k1, k2, k3⟩ := h.box l (σ[l]) (s.β[l]'(by omega)) (List.getElem?_eq_getElem hlt) (List.getElem?_eq_getElem (by omega))
    have hlt' : l < σ'.length := (List.getElem?_eq_some_iff.1 k1).1
    refine ⟨Rd.mono h.mem r1, hlt', fun E k' n' es' he => ?_⟩
    rw [he] at k1
    cases k1
    have hB := List.getElem?_eq_getElem hlt
    generalize σ[l] = B at *
    cases B with
    | vec E0 k0 n0 es0 =>
      obtain ⟨q1, q2⟩ := k3
      obtain ⟨p1, p2⟩ := r2 _ _ _ _ hB
      refine ⟨by omega, fun e => ?_⟩
      obtain ⟨L, hL, hv⟩ := p2 (by omega)
      rw [List.getElem?_eq_getElem (by omega)] at hL
      cases hL
      exact ⟨L', k2, by rw [q1 (by omega), hv]⟩
    | _ => simp [BoxLe] at k3
  | ref l =>
    obtain ⟨hn, L, h1, h2, h3⟩ := r
    obtain ⟨n', L', k1, k2⟩ := h.nvec h1 hl hn
    exact ⟨n', L', k1, by rw [k2, h2], h3⟩
theorem RdL.mono (h : Ext σ s σ' s') (hl : s.β.length = σ.length) {vs : List Value} {cs : List A} (r : RdL σ s vs cs) : RdL σ' s' vs cs := by
  induction vs generalizing cs with
  | nil => cases cs <;> simp_all [RdL]
  | cons v vs ih =>
    cases cs with
    | nil => simp [RdL] at r
    | cons a cs => exact ⟨r.1.mono h hl, ih r.2⟩

theorem RdE.mono (h : Ext σ s σ' s') (hl : s.β.length = σ.length) {v : Value} {x : E1} (r : RdE σ s v x) : RdE σ' s' v x := by
  cases x with
  | one a => exact RdA.mono h hl r
  | agg cs => obtain ⟨vs, h1, h2⟩ := r; exact ⟨vs, h1, h2.mono h hl⟩

theorem RdEs.mono (h : Ext σ s σ' s') (hl : s.β.length = σ.length) {vs : List Value} {xs : List E1} (r : RdEs σ s vs xs) : RdEs σ' s' vs xs := by
  induction vs generalizing xs with
  | nil => cases xs <;> simp_all [RdEs]
  | cons v vs ih =>
    cases xs with
    | nil => simp [RdEs] at r
    | cons a cs => exact ⟨r.1.mono h hl, ih r.2⟩

theorem RdD.mono (h : Ext σ s σ' s') (hl : s.β.length = σ.length) {v : Value} {d : D} (r : RdD σ s v d) : RdD σ' s' v d := by
  cases d with
  | e x => exact RdE.mono h hl r
  | tup xs => obtain ⟨vs, h1, h2⟩ := r; exact ⟨vs, h1, h2.mono h hl⟩
  | any => trivial

theorem RdDs.mono (h : Ext σ s σ' s') (hl : s.β.length = σ.length) {vs : List Value} {xs : List D} (r : RdDs σ s vs xs) : RdDs σ' s' vs xs := by
  induction vs generalizing xs with
  | nil => cases xs <;> simp_all [RdDs]
  | cons v vs ih =>
    cases xs with
    | nil => simp [RdDs] at r
    | cons a cs => exact ⟨r.1.mono h hl, ih r.2⟩
end mono

/-- What is to be done at the function's end: the blocks of the loops over functions, all empty. -/
def DefL (σ : List Box) (s : St) : List Deferred → List Nat → Prop
  | [], [] => True
  | d :: ds, l :: ls => (σ[l]? = some .dfr ∧ ∃ (L : Loc) (r : Nat), s.β[l]? = some L ∧ L.v = .int .i64 r ∧ d = { target := .collected r, args := #[] }) ∧ l ∉ ls ∧ DefL σ s ds ls
  | _, _ => False

theorem DefL.mono {σ σ' : List Box} {s s' : St} (h : Ext σ s σ' s') : ∀ {ds : List Deferred} {ls : List Nat}, DefL σ s ds ls → DefL σ' s' ds ls
  | [], [], _ => trivial
  | [], _ :: _, r => r.elim
  | _ :: _, [], r => r.elim
  | d :: ds, l :: ls, ⟨⟨h1, L, r, h2, h3, h4⟩, h5, h6⟩ => by
    obtain ⟨B', L', k1, k2, k3⟩ := h.box l _ L h1 h2
    cases B' <;> simp [BoxLe] at k3
    exact ⟨⟨k1, L', r, k2, by rw [k3, h3], h4⟩, h5, DefL.mono h h6⟩

/-- Is a function's end to be waited for? -/
def noDfr : List Box → Bool
  | [] => true
  | .dfr :: _ => false
  | _ :: r => noDfr r

theorem noDfr_mem : ∀ {l : List Box}, noDfr l = true → ∀ B ∈ l, B ≠ .dfr
  | [], _, B, hB => by simp at hB
  | b :: r, h, B, hB => by
    have hb : b ≠ .dfr ∧ noDfr r = true := by cases b <;> simp_all [noDfr]
    rcases List.mem_cons.1 hB with rfl | hB
    · exact hb.1
    · exact noDfr_mem hb.2 B hB
theorem evOK_obj {s : St} {r : Nat} {wr : Bool} {L : Loc} (hL : L ∈ s.β) (hb : r ∈ L.bs) : evOK s ⟨.obj r, wr, false⟩ := ⟨rfl, .inr ⟨L, hL, hb⟩⟩
theorem EvOK.one {s : St} {e : Event} (h : evOK s e) : EvOK s #[e] := by intro x hx; simp at hx; subst hx; exact h
theorem EvOK.two {s : St} {e e' : Event} (h : evOK s e) (h' : evOK s e') : EvOK s #[e, e'] := by
  intro x hx; simp at hx; rcases hx with rfl | rfl <;> assumption

end Go.AM

/- How a goroutine goes on, in whatever company: from a record and a state it comes to S. Ahead of each of its steps the others may have turned the world. -/
namespace Go.AM
open Go.Conc (G listed)

/-- What a step of one's own does to the world, and what it lists. -/
def Guar (s s' : St) (es : Array Event) : Prop := (∃ σ σ', HeapOK σ s ∧ HeapOK σ' s' ∧ Step σ s σ' s') ∧ EvOK s es

/-- The company that a goroutine is in: what the others may do; what is done at one stroke. -/
structure Cx (P : Program) where
  main : Bool
  rely : St → St → Prop
  jump : Goroutine → St → (Goroutine → St → Prop) → Prop
  relyC : ∀ {s s'}, rely s s' → RelyC s s'

/-- What is known is told otherwise; no step is taken. -/
structure Ghost (s s' : St) : Prop where
  w : s'.w = s.w
  mem : ∀ b o v, s.M b o = some v → s'.M b o = some v
  memk : ∀ b, (∀ L ∈ s.β, b ∉ L.bs) → ∀ o, s'.M b o = s.M b o
  cell : ∀ b o v, s'.M b o = some v → s.w.cell? ⟨b, o, none⟩ = some v
  blk : ∀ b, (s'.own b ∨ ∃ L ∈ s'.β, b ∈ L.bs) → s.own b ∨ ∃ L ∈ s.β, b ∈ L.bs

/-- What is committed in blocks that are kept for callers is forgotten. -/
structure Forget (s s' : St) : Prop where
  w : s'.w = s.w
  β : s'.β = s.β
  own : s'.own = s.own
  less : ∀ b o v, s'.M b o = some v → s.M b o = some v
  mem : ∀ b o v, s.M b o = some v → s'.M b o = some v ∨ s.own b

inductive Arr {P : Program} (X : Cx P) (S : Goroutine → St → Prop) : Goroutine → St → Prop
  | stop {g : Goroutine} {s : St} : S g s → Arr X S g s
  | step {g : Goroutine} {s : St} (ng : St → Goroutine) (ns : St → St) (ne : St → Array Event) : g.status = .running →
      (∀ s1, X.rely s s1 → stepG P X.main g s1.w = .go (ng s1) (ns s1).w (ne s1)) → (∀ s1, X.rely s s1 → Guar s1 (ns s1) (ne s1)) → (∀ s1, X.rely s s1 → Arr X S (ng s1) (ns s1)) → Arr X S g s
  | ghost {g : Goroutine} {s s' : St} : Ghost s s' → Arr X S g s' → Arr X S g s
  | forget {g : Goroutine} {s s' : St} : Forget s s' → Arr X S g s' → Arr X S g s
  | jump {g : Goroutine} {s : St} {T : Goroutine → St → Prop} : X.jump g s T → (∀ g' s', T g' s' → Arr X S g' s') → Arr X S g s

section
variable {P : Program} {X : Cx P} {S : Goroutine → St → Prop}

theorem Arr.next {g : Goroutine} {s : St} (hr : g.status = .running) (h : ∀ s1, X.rely s s1 → ∃ g' s' es, stepG P X.main g s1.w = .go g' s'.w es ∧ Guar s1 s' es ∧ Arr X S g' s') : Arr X S g s := by
  classical
  have hh : ∀ s1, ∃ r : Goroutine × St × Array Event, X.rely s s1 → stepG P X.main g s1.w = .go r.1 r.2.1.w r.2.2 ∧ Guar s1 r.2.1 r.2.2 ∧ Arr X S r.1 r.2.1 := by
    intro s1
    by_cases hc : X.rely s s1
    · obtain ⟨g', s', es, h1⟩ := h s1 hc
      exact ⟨(g', s', es), fun _ => h1⟩
    · exact ⟨(g, s1, #[]), fun hc' => absurd hc' hc⟩
  refine .step (fun s1 => (Classical.choose (hh s1)).1) (fun s1 => (Classical.choose (hh s1)).2.1) (fun s1 => (Classical.choose (hh s1)).2.2) hr ?_ ?_ ?_
  · exact fun s1 hc => (Classical.choose_spec (hh s1) hc).1
  · exact fun s1 hc => (Classical.choose_spec (hh s1) hc).2.1
  · exact fun s1 hc => (Classical.choose_spec (hh s1) hc).2.2

theorem Arr.bind {T : Goroutine → St → Prop} {g : Goroutine} {s : St} (h : Arr X T g s) (k : ∀ g' s', T g' s' → Arr X S g' s') : Arr X S g s := by
  induction h with
  | stop h => exact k _ _ h
  | step ng ns ne hr h1 h2 _ ih => exact .step ng ns ne hr h1 h2 ih
  | ghost hg _ ih => exact .ghost hg ih
  | forget hg _ ih => exact .forget hg ih
  | jump hj _ ih => exact .jump hj ih

theorem Ghost.of {σ σ' : List Box} {s s' : St} (hh : HeapOK σ s) (hh' : HeapOK σ' s') (hw : s'.w = s.w) (st : StepW σ s σ' s') : Ghost s s' := by
  have hc : ∀ b o v, s'.M b o = some v → s.w.cell? ⟨b, o, none⟩ = some v := fun b o v h => by rw [← hw]; exact hh'.mem b o v h
  have hlt : ∀ b o v, s.w.cell? ⟨b, o, none⟩ = some v → b < s.w.heap.size := by
    intro b o v h
    rcases Nat.lt_or_ge b s.w.heap.size with h1 | h1
    · exact h1
    · simp [World.cell?, Array.getElem?_eq_none h1] at h
  refine ⟨hw, st.mem, fun b hb o => ?_, hc, fun b hb => ?_⟩
  · rcases Nat.lt_or_ge b s.w.heap.size with h1 | h1
    · exact st.memk b h1 hb o
    · cases h2 : s'.M b o with
      | some v => have := hlt _ _ _ (hc _ _ _ h2); omega
      | none => cases h3 : s.M b o with
        | none => rfl
        | some v => have := hlt _ _ _ (hh.mem _ _ _ h3); omega
  · rcases hb with hb | ⟨L, hL, hb⟩
    · exact .inl (by rw [← st.own]; exact hb)
    · rcases st.bls L hL b hb with h1 | h1
      · have := hh'.lt L hL b hb; rw [hw] at this; omega
      · exact .inr h1

/-- What others do leaves what is known as it is. -/
theorem HeapOK.rely {σ : List Box} {s s' : St} (hh : HeapOK σ s) (h : RelyC s s') : HeapOK σ s' := by
  have ex : Ext σ s σ s' := h.stepW.ext
  have hA : ∀ v a, RdA σ s v a → RdA σ s' v a := fun v a r => r.mono ex hh.len
  refine ⟨fun b o v hm => h.mem b o v (by rw [← h.M]; exact hm), by rw [h.β]; exact hh.len, ?_, by rw [h.β]; exact hh.disj, ?_, ?_⟩
  · intro l B L hB hL
    rw [h.β] at hL
    have hb := hh.box l B L hB hL
    have hk : ∀ b ∈ L.bs, s'.w.heap[b]? = s.w.heap[b]? := fun b hb => h.keep b (.inr ⟨L, List.mem_of_getElem? hL, hb⟩)
    cases B with
    | cells E cs =>
      obtain ⟨b, vs, h1, h2, h3, h4⟩ := hb
      subst h1
      exact ⟨b, vs, rfl, by rw [hk b (by simp), h2], h3.mono ex hh.len, fun o => by rw [h.M, h4]⟩
    | vec E k n es =>
      obtain ⟨h1, h2⟩ := hb
      refine ⟨by rw [h.M]; exact h1, ?_⟩
      rcases h2 with ⟨h2, h3⟩ | ⟨b, cap, vs, h2, h3, h4, h5⟩
      · exact .inl ⟨h2, by rw [h.M]; exact h3⟩
      · subst h2
        exact .inr ⟨b, cap, vs, rfl, by rw [hk b (by simp), h3], h4, fun o ho => by rw [h.M, h5 o ho]⟩
    | opq H =>
      obtain ⟨ch, h1, h2, h3, h4⟩ := hb
      refine ⟨ch, h1, fun b o hbo => ?_, h3, fun b hbL o => by rw [h.M, h4 b hbL]⟩
      rw [hk b ((h3 b).2 (by simp [hbo])), h2 b o hbo]
    | dead => trivial
    | loop N φ r =>
      obtain ⟨l, tmps, fn, df, h1, h2, h3, h4, h5⟩ := hb
      subst h1
      exact ⟨l, tmps, fn, df, rfl, by rw [hk l (by simp), h2], h3, fun t => (h4 t).mono ex hh.len, fun o => by rw [h.M, h5]⟩
    | dfr =>
      obtain ⟨r, h1, h2, h3⟩ := hb
      subst h1
      exact ⟨r, rfl, by rw [hk r (by simp), h2], fun o => by rw [h.M, h3]⟩
  · intro L hL b hb
    rw [h.β] at hL
    exact Nat.lt_of_lt_of_le (hh.lt L hL b hb) h.size
  · intro b hb
    rw [h.own] at hb
    rw [h.β]
    exact ⟨Nat.lt_of_lt_of_le (hh.own b hb).1 h.size, (hh.own b hb).2⟩

theorem Guar.quiet {σ : List Box} {s : St} (hh : HeapOK σ s) : Guar s s #[] := ⟨⟨σ, σ, hh, hh, .refl _ _⟩, .nil⟩

/-! ### Frames, whatever they are rounds of -/

def _root_.Go.Frame.aT (b : Frame) (a : Act) (todo : List Item) : Frame := { b with tmps := a.tmps, todo := todo, defers := a.defers, mode := .run }

variable {b : Frame} {a : Act} {k : List Item} {cs : List Frame} {w : World} {main : Bool}

theorem eval_aT (b : Frame) (a : Act) (todo : List Item) : (b.aT a todo).eval = a.eval := by funext x; cases x <;> rfl

theorem sg_skip : stepG P main (G (b.aT a (.code .skip :: k)) cs) w = .go (G (b.aT a k) cs) w := by simp [G, stepG, stepG.exec, Frame.aT]
theorem sg_inBlock {id : Nat} : stepG P main (G (b.aT a (.inBlock id :: k)) cs) w = .go (G (b.aT a k) cs) w := by simp [G, stepG, stepG.exec, Frame.aT]
theorem sg_seq {x y : Code} : stepG P main (G (b.aT a (.code (.seq x y) :: k)) cs) w = .go (G (b.aT a (.code x :: .code y :: k)) cs) w := by simp [G, stepG, stepG.exec, Frame.aT]
theorem sg_cond {c : Operand} {x y : Code} {t : Bool} (h : a.eval c = .bool t) :
    stepG P main (G (b.aT a (.code (.cond c x y) :: k)) cs) w = .go (G (b.aT a (.code (if t then x else y) :: k)) cs) w := by
  have h' : (b.aT a (.code (.cond c x y) :: k)).eval c = .bool t := by rw [eval_aT]; exact h
  simp only [Frame.aT] at h'
  simp [G, stepG, stepG.exec, Frame.aT, h']
theorem sg_block {id : Nat} {c : Code} : stepG P main (G (b.aT a (.code (.block id c) :: k)) cs) w = .go (G (b.aT a (.code c :: .inBlock id :: k)) cs) w := by simp [G, stepG, stepG.exec, Frame.aT]
theorem sg_loop {c : Code} : stepG P main (G (b.aT a (.code (.loop c) :: k)) cs) w = .go (G (b.aT a (.code c :: .inLoop c :: k)) cs) w := by simp [G, stepG, stepG.exec, Frame.aT]
theorem sg_inLoop {c : Code} : stepG P main (G (b.aT a (.inLoop c :: k)) cs) w = .go (G (b.aT a (.code c :: .inLoop c :: k)) cs) w := by simp [G, stepG, stepG.exec, Frame.aT]
theorem sg_exit {id : Nat} {k' : List Item} (h : exitTo id k = some k') : stepG P main (G (b.aT a (.code (.exit id) :: k)) cs) w = .go (G (b.aT a k') cs) w := by simp [G, stepG, stepG.exec, Frame.aT, h]
theorem sg_region {id : Nat} {ops : Array Oper} : stepG P main (G (b.aT a (.code (.region id ops false) :: k)) cs) w = .go (G (b.aT a (.inRegion ops (List.range ops.size) :: k)) cs) w := by simp [G, stepG, stepG.exec, Frame.aT]
theorem sg_region_draw {id : Nat} {ops : Array Oper} : stepG P main (G (b.aT a (.code (.region id ops true) :: k)) cs) w =
    .go (G (b.aT a (.inRegion ops (Region.schedule (P.follows .mixedOrders) ops (w.tape w.drawn (.order b.fn id))) :: k)) cs) { w with drawn := w.drawn + 1 } := by
  simp [G, stepG, stepG.exec, Frame.aT, choose, Sem.run, Question.forced, Question.cut]
theorem sg_region_end {ops : Array Oper} : stepG P main (G (b.aT a (.inRegion ops [] :: k)) cs) w = .go (G (b.aT a k) cs) w := by simp [G, stepG, stepG.exec, Frame.aT]
theorem sg_ret (h : b.roundOf = none) : stepG P main (G (b.aT a (.code .ret :: k)) cs) w = .go (G { b.aT a (.code .ret :: k) with mode := .returning } cs) w := by simp [G, stepG, stepG.exec, Frame.aT, h]
theorem sg_end (h : b.roundOf = none) : stepG P main (G (b.aT a []) cs) w = .go (G { b.aT a [] with mode := .returning } cs) w := by simp [G, stepG, stepG.exec, Frame.aT, h]

theorem finish_aT (ops : Array Oper) (i : Nat) (rest : List Nat) (v : Value) :
    (b.aT a (.inRegion ops (i :: rest) :: k)).finish v = b.aT (a.put ((ops[i]?).bind (·.dst)) v) (.inRegion ops rest :: k) := by
  cases h : (ops[i]?).bind (·.dst) <;> simp [Frame.finish, Frame.aT, Act.put, h]

theorem sg_pass {ops : Array Oper} {i : Nat} {rest : List Nat} {o : Oper} (ho : ops[i]? = some o) (hw : Region.wanted o (yielded ops a.tmps) = false) :
    stepG P main (G (b.aT a (.inRegion ops (i :: rest) :: k)) cs) w = .go (G (b.aT (a.put o.dst undef) (.inRegion ops rest :: k)) cs) w := by
  have hf := finish_aT (b := b) (a := a) (k := k) ops i rest undef
  rw [ho] at hf
  simp only [Option.bind_some] at hf
  rw [← hf]
  simp [G, stepG, stepG.exec, Frame.aT, ho, hw]

theorem defer_no {ρ : Operand → Value} {o : Oper} {c : Call} (h : o.op = .defer c) {nx : Next} {w' : World} (hr : (execOp ρ o).run P w = .ok nx w') : ∃ d, nx = .defer d := by
  simp only [execOp, h, Sem.run_bind] at hr
  cases hx : (resolve ρ c o.type).run P w with
  | ok d w2 => rw [hx] at hr; simp at hr; exact ⟨_, hr.1.symm⟩
  | halt x w2 => rw [hx] at hr; simp at hr

theorem sg_oper {ops : Array Oper} {i : Nat} {rest : List Nat} {o : Oper} (ho : ops[i]? = some o) (hw : Region.wanted o (yielded ops a.tmps) = true) (hd : ∀ c, o.op ≠ .defer c) :
    stepG P main (G (b.aT a (.inRegion ops (i :: rest) :: k)) cs) w = stepG.apply P true (b.aT a (.inRegion ops (i :: rest) :: k)) cs none (execOp a.eval o) w := by
  have he := eval_aT b a (.inRegion ops (i :: rest) :: k)
  simp only [Frame.aT] at he
  simp [G, stepG, stepG.exec, stepG.oper, Frame.oper?, Frame.aT, ho, hw, he]
  cases hr : b.roundOf with
  | none => rfl
  | some l => cases hop : o.op <;> first | rfl | exact absurd hop (hd _)

theorem sg_value {ops : Array Oper} {i : Nat} {rest : List Nat} {o : Oper} {v : Value} {w' : World} (ho : ops[i]? = some o) (hw : Region.wanted o (yielded ops a.tmps) = true)
    (hk : b.kind ≠ .early) (hr : (execOp a.eval o).run P w = .ok (.value v) w') :
    stepG P main (G (b.aT a (.inRegion ops (i :: rest) :: k)) cs) w = .go (G (b.aT (a.put o.dst v) (.inRegion ops rest :: k)) cs) w' (listed P b.fn a o w) := by
  have hfin := finish_aT (b := b) (a := a) (k := k) ops i rest v
  rw [ho] at hfin
  simp only [Option.bind_some] at hfin
  have hk' : (b.kind == CallKind.early) = false := by simpa using hk
  rw [sg_oper ho hw (fun c hc => by obtain ⟨d, hd⟩ := defer_no hc hr; cases hd), ← hfin]
  simp [stepG.apply, hr, G, Frame.aT, hk', GStep.after, listed]

theorem sg_none {ops : Array Oper} {i : Nat} {rest : List Nat} {o : Oper} {w' : World} (ho : ops[i]? = some o) (hw : Region.wanted o (yielded ops a.tmps) = true)
    (hk : b.kind ≠ .early) (hr : (execOp a.eval o).run P w = .ok .skip w') :
    stepG P main (G (b.aT a (.inRegion ops (i :: rest) :: k)) cs) w = .go (G (b.aT (a.put o.dst undef) (.inRegion ops rest :: k)) cs) w' (listed P b.fn a o w) := by
  have hfin := finish_aT (b := b) (a := a) (k := k) ops i rest undef
  rw [ho] at hfin
  simp only [Option.bind_some] at hfin
  have hk' : (b.kind == CallKind.early) = false := by simpa using hk
  rw [sg_oper ho hw (fun c hc => by obtain ⟨d, hd⟩ := defer_no hc hr; cases hd), ← hfin]
  simp [stepG.apply, hr, G, Frame.aT, hk', GStep.after, listed]

theorem sg_enter {ops : Array Oper} {i : Nat} {rest : List Nat} {o : Oper} {f : FuncId} {args : Array Value} {w' : World} (ho : ops[i]? = some o) (hw : Region.wanted o (yielded ops a.tmps) = true)
    (hk : b.kind ≠ .early) (hr : (execOp a.eval o).run P w = .ok (.enter f args) w') :
    stepG P main (G (b.aT a (.inRegion ops (i :: rest) :: k)) cs) w = .go (G (Frame.enter P f args .normal) (b.aT a (.inRegion ops (i :: rest) :: k) :: cs)) w' (listed P b.fn a o w) := by
  have hk' : (b.kind == CallKind.early) = false := by simpa using hk
  rw [sg_oper ho hw (fun c hc => by obtain ⟨d, hd⟩ := defer_no hc hr; cases hd)]
  simp [stepG.apply, hr, G, Frame.aT, hk', GStep.after, listed]

/-- A frame that is left with a result; what is read for it is committed. -/
structure Leav (P : Program) (f : FuncId) (fr : Frame) (v : Value) (s : St) : Prop where
  isF : fr.fn = f
  mode : fr.mode = .returning
  defers : fr.defers = []
  kind : fr.kind = .normal
  fn : ∃ fn, P.funcs[fr.fn]? = some fn ∧ ∀ w, (∀ b o u, s.M b o = some u → w.cell? ⟨b, o, none⟩ = some u) → (results fn fr.tmps).run P w = .ok v w ∧ ∀ e ∈ (results fn fr.tmps).events P w #[], ∃ b o u, e = ⟨.cell ⟨b, o, none⟩, false, false⟩ ∧ s.M b o = some u

theorem Leav.mono {f : FuncId} {fr : Frame} {v : Value} {s s' : St} (h : Leav P f fr v s) (hM : ∀ b o u, s.M b o = some u → s'.M b o = some u) : Leav P f fr v s' := by
  obtain ⟨h1, h2, h3, h4, fn, h5, h6⟩ := h
  refine ⟨h1, h2, h3, h4, fn, h5, fun w hw => ?_⟩
  obtain ⟨k1, k2⟩ := h6 w fun b o u hu => hw b o u (hM b o u hu)
  refine ⟨k1, fun e he => ?_⟩
  obtain ⟨b, o, u, q1, q2⟩ := k2 e he
  exact ⟨b, o, u, q1, hM b o u q2⟩

theorem EvOK.seen {s : St} {es : Array Event} {fn : FuncId} (h : EvOK s es) : EvOK s (seen P fn es) := fun e he => h e (Go.Conc.mem_seen he)

theorem sg_leave {f : FuncId} {fr c : Frame} {v : Value} {s : St} (h : Leav P f fr v s) (w : World) (hw : ∀ b o u, s.M b o = some u → w.cell? ⟨b, o, none⟩ = some u) : ∃ es, stepG P main (G fr (c :: cs)) w = .go (G (c.finish v) cs) w es ∧ ∀ e ∈ es, ∃ b o u, e = ⟨.cell ⟨b, o, none⟩, false, false⟩ ∧ s.M b o = some u := by
  obtain ⟨fn, hf, hres⟩ := h.fn
  obtain ⟨h1, h2⟩ := hres w hw
  refine ⟨seen P fr.fn ((results fn fr.tmps).events P w #[]), ?_, fun e he => h2 e (Go.Conc.mem_seen he)⟩
  simp [G, stepG, unwind, doReturn, h.mode, h.defers, h.kind, hf, h1, GStep.after]

end
end Go.AM

/- The judgement: a piece of code, from what is known of the slots and the boxes, comes to an end of which Q holds. -/
namespace Go.AM
open Go.Conc (G)

structure FrOK (N : Nat) (σ : List Box) (s : St) (φ : Fr) (a : Act) : Prop where
  size : a.tmps.size = N
  defers : ∃ ls, DefL σ s a.defers ls
  slot : ∀ t, RdD σ s (a.tmps.getD t undef) (look φ t)

theorem FrOK.mono {N : Nat} {σ σ' : List Box} {s s' : St} {φ : Fr} {a : Act} (h : StepW σ s σ' s') (hl : s.β.length = σ.length) (f : FrOK N σ s φ a) : FrOK N σ' s' φ a :=
  ⟨f.size, f.defers.imp fun _ h1 => h1.mono h.ext, fun t => (f.slot t).mono h.ext hl⟩

theorem FrOK.rely {N : Nat} {σ : List Box} {s s' : St} {φ : Fr} {a : Act} (h : RelyC s s') (hh : HeapOK σ s) (f : FrOK N σ s φ a) : FrOK N σ s' φ a := f.mono h.stepW hh.len

theorem FrOK.put {N : Nat} {σ : List Box} {s : St} {φ : Fr} {a : Act} (f : FrOK N σ s φ a) {d : Nat} (hd : d < N) {v : Value} {x : D} (r : RdD σ s v x) : FrOK N σ s ((d, x) :: φ) (a.put (some d) v) := by
  refine ⟨by simp [Act.put, f.size], f.defers, fun t => ?_⟩
  simp only [Act.put, look]
  by_cases e : d = t
  · subst e
    rw [show Nat.beq d d = true from Nat.beq_refl d]
    have hs : d < a.tmps.size := by rw [f.size]; exact hd
    simp only [Array.getD_eq_getD_getElem?, Array.getElem?_setIfInBounds_self_of_lt hs, Option.getD_some, cond]
    exact r
  · have : Nat.beq d t = false := by
      cases h : Nat.beq d t
      · rfl
      · exact absurd (Nat.eq_of_beq_eq_true h) e
    rw [this]
    have h := f.slot t
    simp only [Array.getD_eq_getD_getElem?] at h ⊢
    rw [Array.getElem?_setIfInBounds_ne e]
    exact h

/-- Fewer things known. -/
def FrLe (φ φ' : Fr) : Prop := ∀ σ s v t, RdD σ s v (look φ t) → RdD σ s v (look φ' t)

theorem FrOK.le {N : Nat} {σ : List Box} {s : St} {φ φ' : Fr} {a : Act} (h : FrLe φ φ') (f : FrOK N σ s φ a) : FrOK N σ s φ' a :=
  ⟨f.size, f.defers, fun t => h _ _ _ _ (f.slot t)⟩

abbrev Post := Exit → Fr → List Box → Prop

/-- How code is left. -/
def ends {P : Program} (X : Cx P) (S : Goroutine → St → Prop) (b : Frame) (k : List Item) (cs : List Frame) : Exit → Act → St → Prop
  | .normal, a, s => Arr X S (G (b.aT a k) cs) s
  | .exit id, a, s => ∀ pre, (∀ k', exitTo id (pre ++ k') = exitTo id k') → Arr X S (G (b.aT a (.code (.exit id) :: (pre ++ k))) cs) s
  | .ret, a, s => ∀ pre, Arr X S (G (b.aT a (.code .ret :: pre)) cs) s
  | .panic ch, a, s => ∀ todo, Arr X S (G { b.aT a todo with mode := .panicking ch } cs) s
  | _, _, _ => False

section
variable {P : Program} {X : Cx P} {S : Goroutine → St → Prop} {b : Frame} {k : List Item} {cs : List Frame} {a : Act} {s : St}

theorem ends.cons {x : Item} (hx : ∀ id k', exitTo id (x :: k') = exitTo id k') {e : Exit} (he : e ≠ .normal) (h : ends X S b k cs e a s) : ends X S b (x :: k) cs e a s := by
  cases e with
  | normal => exact absurd rfl he
  | exit id =>
    intro pre hp
    have := h (pre ++ [x]) (fun k' => by rw [List.append_assoc, hp]; exact hx id k')
    simpa using this
  | ret => exact h
  | panic ch => exact h
  | goto l => exact h
  | outgrown => exact h

/-- A move of control. -/
theorem Arr.ctl {σ : List Box} {g g' : Goroutine} (hh : HeapOK σ s) (hr : g.status = .running) (hg : ∀ w, stepG P X.main g w = .go g' w #[]) (h : ∀ s1, RelyC s s1 → Arr X S g' s1) : Arr X S g s :=
  .next hr fun s1 h1 => ⟨g', s1, #[], hg s1.w, .quiet (hh.rely (X.relyC h1)), h s1 (X.relyC h1)⟩

/-- A function is left. -/
theorem arr_leave {σ : List Box} {f : FuncId} {fr c : Frame} {cs : List Frame} {v : Value} {s : St} (hh : HeapOK σ s) (h : Leav P f fr v s) (k : ∀ s1, RelyC s s1 → Arr X S (G (c.finish v) cs) s1) : Arr X S (G fr (c :: cs)) s := by
  refine .next rfl fun s1 h1 => ?_
  have hr := X.relyC h1
  have hh1 := hh.rely hr
  obtain ⟨es, e1, e2⟩ := sg_leave (main := X.main) (c := c) (cs := cs) h s1.w hr.mem
  refine ⟨_, s1, es, e1, ⟨⟨σ, σ, hh1, hh1, .refl _ _⟩, fun e he => ?_⟩, k s1 hr⟩
  obtain ⟨b, o, u, rfl, hu⟩ := e2 e he
  exact ⟨rfl, rfl, .inr (.inr ⟨rfl, u, by rw [hr.M]; exact hu⟩)⟩

/-- A loop by a relation and a measure that it bears. -/
theorem arr_loop {c : Code} (I : Nat → Act → St → Prop) (hI : ∀ n a s, I n a s → ∃ σ, HeapOK σ s ∧ ∀ s1, RelyC s s1 → I n a s1)
    (round : ∀ n a s, I n a s → (∀ a' s' m, m < n → I m a' s' → Arr X S (G (b.aT a' (.inLoop c :: k)) cs) s') → Arr X S (G (b.aT a (.code c :: .inLoop c :: k)) cs) s) {n : Nat} (h0 : I n a s) :
    Arr X S (G (b.aT a (.code (.loop c) :: k)) cs) s := by
  have key : ∀ n a s, I n a s → Arr X S (G (b.aT a (.inLoop c :: k)) cs) s := by
    intro n
    induction n using Nat.strongRecOn with
    | _ n ih =>
      intro a s hi
      obtain ⟨σ, hh, hr⟩ := hI n a s hi
      exact .ctl hh rfl (fun w => sg_inLoop) fun s1 h1 => round n a s1 (hr s1 h1) fun a' s' m hm hi' => ih m hm a' s' hi'
  obtain ⟨σ, hh, hr⟩ := hI n a s h0
  exact .ctl hh rfl (fun w => sg_loop) fun s1 h1 => round n a s1 (hr s1 h1) fun a' s' m _ hi' => key m a' s' hi'

end

/-- The judgement on code. -/
def AW {P : Program} (X : Cx P) (N : Nat) (c : Code) (Q : Post) (φ : Fr) (σ : List Box) : Prop :=
  ∀ s a, FrOK N σ s φ a → HeapOK σ s → ∀ (b : Frame) (k : List Item) (cs : List Frame) (S : Goroutine → St → Prop), b.kind ≠ .early →
    (∀ e φ' σ' s' a', Q e φ' σ' → FrOK N σ' s' φ' a' → HeapOK σ' s' → StepW σ s σ' s' → ends X S b k cs e a' s') → Arr X S (G (b.aT a (.code c :: k)) cs) s

/-- Which operations are still to be done: idx names those of rest. -/
def Names (all : List Oper) : List Nat → List Oper → Prop
  | [], [] => True
  | i :: idx, o :: rest => all.toArray[i]? = some o ∧ Names all idx rest
  | _, _ => False

/-- The judgement on what is left of a region. -/
def AOps {P : Program} (X : Cx P) (N : Nat) (all rest : List Oper) (Q : Fr → List Box → Prop) (φ : Fr) (σ : List Box) : Prop :=
  ∀ s a, FrOK N σ s φ a → HeapOK σ s → ∀ (b : Frame) (k : List Item) (cs : List Frame) (S : Goroutine → St → Prop) (idx : List Nat), b.kind ≠ .early → Names all idx rest →
    (∀ φ' σ' s' a', Q φ' σ' → FrOK N σ' s' φ' a' → HeapOK σ' s' → StepW σ s σ' s' → Arr X S (G (b.aT a' k) cs) s') → Arr X S (G (b.aT a (.inRegion all.toArray idx :: k)) cs) s

section rules
variable {P : Program} {X : Cx P} {N : Nat} {Q : Post} {φ : Fr} {σ : List Box}

theorem AW.mono {c : Code} {Q' : Post} (h : AW X N c Q φ σ) (hq : ∀ e φ σ, Q e φ σ → Q' e φ σ) : AW X N c Q' φ σ :=
  fun s a hf hh b k cs S hb hQ => h s a hf hh b k cs S hb fun e φ' σ' s' a' q f' h' st => hQ e φ' σ' s' a' (hq _ _ _ q) f' h' st

theorem AW.le {c : Code} {φ' : Fr} (h : AW X N c Q φ' σ) (hl : FrLe φ φ') : AW X N c Q φ σ :=
  fun s a hf hh b k cs S hb hQ => h s a (hf.le hl) hh b k cs S hb hQ

theorem AW.skip (h : Q .normal φ σ) : AW X N .skip Q φ σ := fun s a hf hh b k cs S _ hQ =>
  .ctl hh rfl (fun _ => sg_skip) fun s1 h1 => hQ .normal φ σ s1 a h (hf.rely h1 hh) (hh.rely h1) h1.stepW
theorem AW.ret (h : Q .ret φ σ) : AW X N .ret Q φ σ := fun s a hf hh b k cs S _ hQ => hQ .ret φ σ s a h hf hh (.refl _ _) k
theorem AW.exit {id : Nat} (h : Q (.exit id) φ σ) : AW X N (.exit id) Q φ σ := fun s a hf hh b k cs S _ hQ => by
  have := hQ (.exit id) φ σ s a h hf hh (.refl _ _) [] (fun _ => rfl)
  simpa using this

/-- What is asked behind the first of two pieces. -/
def thenQ (next : Fr → List Box → Prop) (Q : Post) : Post
  | .normal, φ, σ => next φ σ
  | e, φ, σ => Q e φ σ

theorem AW.seq {x y : Code} (h : AW X N x (thenQ (AW X N y Q) Q) φ σ) : AW X N (.seq x y) Q φ σ := by
  intro s a hf hh b k cs S hb hQ
  refine .ctl hh rfl (fun _ => sg_seq) fun s1 h1 => ?_
  refine h s1 a (hf.rely h1 hh) (hh.rely h1) b (.code y :: k) cs S hb ?_
  intro e φ' σ' s' a' q f' h' st
  have st' := h1.stepW.trans st
  cases e with
  | normal => exact q s' a' f' h' b k cs S hb fun e φ2 σ2 s2 a2 q2 f2 h2 st2 => hQ e φ2 σ2 s2 a2 q2 f2 h2 (st'.trans st2)
  | _ => exact ends.cons (fun _ _ => rfl) (by simp) (hQ _ _ _ _ _ q f' h' st')

theorem AW.cond {c : Operand} {x y : Code} {t : Bool} {u : Nat} (hc : c = .tmp u) (hl : look φ u = .e (.one (.c (.bool t))))
    (ht : t = true → AW X N x Q φ σ) (hf : t = false → AW X N y Q φ σ) : AW X N (.cond c x y) Q φ σ := by
  intro s a f hh b k cs S hb hQ
  have hs := f.slot u
  rw [hl] at hs
  have hv : a.eval c = .bool t := by
    subst hc
    generalize hv : a.tmps.getD u undef = v at hs
    simp only [RdD, RdE, RdA] at hs
    cases hs
    exact hv
  refine .ctl hh rfl (fun _ => sg_cond hv) fun s1 h1 => ?_
  have hQ' : ∀ e φ' σ' s' a', Q e φ' σ' → FrOK N σ' s' φ' a' → HeapOK σ' s' → StepW σ s1 σ' s' → ends X S b k cs e a' s' := fun e φ' σ' s' a' q f' h' st => hQ e φ' σ' s' a' q f' h' (h1.stepW.trans st)
  cases t
  · exact hf rfl s1 a (f.rely h1 hh) (hh.rely h1) b k cs S hb hQ'
  · exact ht rfl s1 a (f.rely h1 hh) (hh.rely h1) b k cs S hb hQ'

def blockQ (id : Nat) (Q : Post) : Post
  | .exit id', φ, σ => if id' = id then Q .normal φ σ else Q (.exit id') φ σ
  | e, φ, σ => Q e φ σ

theorem AW.block {id : Nat} {c : Code} (h : AW X N c (blockQ id Q) φ σ) : AW X N (.block id c) Q φ σ := by
  intro s a hf hh b k cs S hb hQ
  refine .ctl hh rfl (fun _ => sg_block) fun s1 h1 => ?_
  refine h s1 a (hf.rely h1 hh) (hh.rely h1) b (.inBlock id :: k) cs S hb ?_
  intro e φ' σ' s' a' q f' h' st
  have st' := h1.stepW.trans st
  cases e with
  | normal =>
    exact .ctl h' rfl (fun _ => sg_inBlock) fun s2 h2 => hQ .normal φ' σ' s2 a' q (f'.rely h2 h') (h'.rely h2) (st'.trans h2.stepW)
  | exit id' =>
    simp only [blockQ] at q
    split at q
    · rename_i e
      subst e
      intro pre hp
      refine .ctl h' rfl (fun _ => sg_exit (k' := k) (by rw [hp]; simp [exitTo])) fun s2 h2 => ?_
      exact hQ .normal φ' σ' s2 a' q (f'.rely h2 h') (h'.rely h2) (st'.trans h2.stepW)
    · rename_i hne
      intro pre hp
      have := hQ (.exit id') φ' σ' s' a' q f' h' st' (pre ++ [.inBlock id]) (fun k' => by
        rw [List.append_assoc, hp]
        have : (id == id') = false := by simp; exact fun h => hne h.symm
        simp [exitTo, this])
      simpa using this
  | ret => exact hQ _ _ _ _ _ q f' h' st'
  | panic ch => exact hQ _ _ _ _ _ q f' h' st'
  | goto l => exact hQ _ _ _ _ _ q f' h' st'
  | outgrown => exact hQ _ _ _ _ _ q f' h' st'

/-- A loop: states S; what is known at the head of a round, in state x; a measure. -/
theorem AW.loop {S : Type} {c : Code} (I : S → Prop) (fr : S → Fr) (st : S → List Box) (μ : S → Nat) (x : S) (h0 : I x) (hle : FrLe φ (fr x)) (hst : st x = σ)
    (round : ∀ x, I x → AW X N c (thenQ (fun φ' σ' => ∃ y, I y ∧ μ y < μ x ∧ FrLe φ' (fr y) ∧ σ' = st y) Q) (fr x) (st x)) : AW X N (.loop c) Q φ σ := by
  intro s a hf hh b k cs S hb hQ
  subst hst
  refine arr_loop (fun n a' s' => ∃ y, I y ∧ FrOK N (st y) s' (fr y) a' ∧ HeapOK (st y) s' ∧ StepW (st x) s (st y) s' ∧ μ y = n) ?_ ?_ ⟨x, h0, hf.le hle, hh, .refl _ _, rfl⟩
  · rintro n a' s' ⟨y, hI, f', h', stp, e⟩
    exact ⟨st y, h', fun s1 h1 => ⟨y, hI, f'.rely h1 h', h'.rely h1, stp.trans h1.stepW, e⟩⟩
  rintro n a' s' ⟨y, hI, f', h', stp, rfl⟩ ih
  refine round y hI s' a' f' h' b (.inLoop c :: k) cs S hb ?_
  intro e φ2 σ2 s2 a2 q f2 h2 st2
  cases e with
  | normal =>
    obtain ⟨z, hz, hlt, hle2, rfl⟩ := q
    exact ih a2 s2 (μ z) hlt ⟨z, hz, f2.le hle2, h2, stp.trans st2, rfl⟩
  | _ => exact ends.cons (fun _ _ => rfl) (by simp) (hQ _ _ _ _ _ q f2 h2 (stp.trans st2))

end rules
end Go.AM

/- How the state turns: a new block, a write to a box, a row that is handed over to what is read for ever. -/
namespace Go.AM

theorem RdL.length {σ : List Box} {s : St} {vs : List Value} {cs : List A} (r : RdL σ s vs cs) : vs.length = cs.length := by
  induction vs generalizing cs with
  | nil => cases cs <;> simp_all [RdL]
  | cons v vs ih =>
    cases cs with
    | nil => simp [RdL] at r
    | cons a cs => simp [ih r.2]

theorem RdA.cell {σ : List Box} {s : St} {v : Value} {a : A} (r : RdA σ s v a) : isCell v = true := by
  cases a with
  | c x => exact Rd.cell r
  | ptr l off => obtain ⟨_, _, _, _, _, rfl⟩ := r; rfl
  | vec l k n es => exact Rd.cell r.1
  | ref l => obtain ⟨_, _, _, _, h⟩ := r; exact h
  | any => exact r

theorem RdL.get {σ : List Box} {s : St} {vs : List Value} {cs : List A} (r : RdL σ s vs cs) {j : Nat} {a : A} (h : cs[j]? = some a) : ∃ v, vs[j]? = some v ∧ RdA σ s v a := by
  induction vs generalizing cs j with
  | nil => cases cs <;> simp_all [RdL]
  | cons v vs ih =>
    cases cs with
    | nil => simp [RdL] at r
    | cons b cs =>
      cases j with
      | zero => simp at h; subst h; exact ⟨v, rfl, r.1⟩
      | succ j => simp at h; obtain ⟨u, hu, hr⟩ := ih r.2 h; exact ⟨u, by simpa using hu, hr⟩

theorem RdL.cell {σ : List Box} {s : St} {vs : List Value} {cs : List A} (r : RdL σ s vs cs) : ∀ v ∈ vs, v.oneCell' = true := by
  induction vs generalizing cs with
  | nil => simp
  | cons v vs ih =>
    cases cs with
    | nil => simp [RdL] at r
    | cons a cs =>
      intro u hu
      rcases List.mem_cons.1 hu with rfl | hu
      · have := RdA.cell r.1; cases u <;> simp_all [isCell, Value.oneCell']
      · exact ih r.2 u hu

theorem RdL.append {σ : List Box} {s : St} {vs vs' : List Value} {cs cs' : List A} (r : RdL σ s vs cs) (r' : RdL σ s vs' cs') : RdL σ s (vs ++ vs') (cs ++ cs') := by
  induction vs generalizing cs with
  | nil => cases cs <;> simp_all [RdL]
  | cons v vs ih =>
    cases cs with
    | nil => simp [RdL] at r
    | cons a cs => exact ⟨r.1, ih r.2⟩

theorem RdL.take {σ : List Box} {s : St} {vs : List Value} {cs : List A} (r : RdL σ s vs cs) (k : Nat) : RdL σ s (vs.take k) (cs.take k) := by
  induction vs generalizing cs k with
  | nil => cases cs <;> simp_all [RdL]
  | cons v vs ih =>
    cases cs with
    | nil => simp [RdL] at r
    | cons a cs => cases k with
      | zero => simp [RdL]
      | succ k => exact ⟨r.1, ih r.2 k⟩

theorem RdL.drop {σ : List Box} {s : St} {vs : List Value} {cs : List A} (r : RdL σ s vs cs) (k : Nat) : RdL σ s (vs.drop k) (cs.drop k) := by
  induction vs generalizing cs k with
  | nil => cases cs <;> simp_all [RdL]
  | cons v vs ih =>
    cases cs with
    | nil => simp [RdL] at r
    | cons a cs => cases k with
      | zero => exact r
      | succ k => simpa using ih r.2 k

theorem HeapOK.block {σ : List Box} {s : St} (h : HeapOK σ s) {b o : Nat} {v : Value} (hm : s.M b o = some v) : b < s.w.heap.size := by
  have := h.mem b o v hm
  rcases Nat.lt_or_ge b s.w.heap.size with h | h
  · exact h
  · simp [World.cell?, Array.getElem?_eq_none h] at this

/-- The same memory, another world with the same heap (a draw). -/
theorem HeapOK.same {σ : List Box} {s : St} (h : HeapOK σ s) {w' : World} (hw : w'.heap = s.w.heap) : HeapOK σ { s with w := w' } := by
  have hc : ∀ a, w'.cell? a = s.w.cell? a := fun a => by simp [World.cell?, hw]
  have hA : ∀ v a, RdA σ s v a → RdA σ { s with w := w' } v a := fun v a r => by cases a <;> exact r
  have hL : ∀ vs al, RdL σ s vs al → RdL σ { s with w := w' } vs al := by
    intro vs
    induction vs with
    | nil => intro al r; cases al <;> simp_all [RdL]
    | cons v vs ih => intro al r; cases al with
      | nil => simp [RdL] at r
      | cons a al => exact ⟨hA _ _ r.1, ih _ r.2⟩
  refine ⟨fun b o v hm => by rw [hc]; exact h.mem b o v hm, h.len, ?_, h.disj, fun L hL b hb => by show b < w'.heap.size; rw [hw]; exact h.lt L hL b hb, fun b hb => ⟨by show b < w'.heap.size; rw [hw]; exact (h.own b hb).1, (h.own b hb).2⟩⟩
  intro l B L hB hL'
  have := h.box l B L hB hL'
  cases B with
  | cells E cs =>
    obtain ⟨b, vs, h1, h2, h3, h4⟩ := this
    exact ⟨b, vs, h1, by show w'.heap[b]? = _; rw [hw]; exact h2, hL _ _ h3, h4⟩
  | vec E k n es =>
    obtain ⟨h1, h2⟩ := this
    refine ⟨h1, ?_⟩
    rcases h2 with h2 | ⟨b, cap, vs, h2, h3, h4, h5⟩
    · exact .inl h2
    · exact .inr ⟨b, cap, vs, h2, by show w'.heap[b]? = _; rw [hw]; exact h3, h4, h5⟩
  | opq H =>
    obtain ⟨ch, h1, h2, h3, h4⟩ := this
    exact ⟨ch, h1, fun b o hb => by show w'.heap[b]? = _; rw [hw]; exact h2 b o hb, h3, h4⟩
  | dead => trivial
  | loop N φ r =>
    obtain ⟨l, tmps, fn, df, h1, h2, h3, h4, h5⟩ := this
    exact ⟨l, tmps, fn, df, h1, by show w'.heap[l]? = _; rw [hw]; exact h2, h3, fun t => RdD.mono (s := s) (σ' := σ) (s' := { s with w := w' }) ⟨fun _ _ _ h => h, fun _ B L h h' => ⟨B, L, h, h', .refl _ _⟩⟩ h.len (h4 t), h5⟩
  | dfr =>
    obtain ⟨r, h1, h2, h3⟩ := this
    exact ⟨r, h1, by show w'.heap[r]? = _; rw [hw]; exact h2, h3⟩

theorem Step.same {σ : List Box} {s : St} {w' : World} (hw : w'.heap = s.w.heap) (ho : w'.os = s.w.os) (ht : w'.tape = s.w.tape) (hp : w'.output = s.w.output) : Step σ s σ { s with w := w' } :=
  ⟨by show s.w.heap.size ≤ w'.heap.size; rw [hw]; exact Nat.le_refl _, fun b _ _ => by show w'.heap[b]? = _; rw [hw], fun _ _ _ h => h, fun _ _ _ _ => rfl, fun L h b hb => .inr ⟨L, h, hb⟩, fun _ B L h h' => ⟨B, L, h, h', .refl _ _⟩, ho, ht, hp, rfl⟩

/-- How boxes stand over a change of memory outside them. -/
theorem BoxOK.carry {σ σ' : List Box} {s s' : St} {B : Box} {L : Loc} (hs : Ext σ s σ' s') (hl : s.β.length = σ.length) (hb : ∀ b ∈ L.bs, s'.w.heap[b]? = s.w.heap[b]? ∧ ∀ o, s'.M b o = s.M b o) (h : BoxOK σ s B L) : BoxOK σ' s' B L := by
  cases B with
  | cells E cs =>
    obtain ⟨b, vs, h1, h2, h3, h4⟩ := h
    subst h1
    obtain ⟨k1, k2⟩ := hb b (by simp)
    exact ⟨b, vs, rfl, by rw [k1, h2], h3.mono hs hl, fun o => by rw [k2, h4]⟩
  | vec E k n es =>
    obtain ⟨h1, h2⟩ := h
    refine ⟨h1.mono hs.mem, ?_⟩
    rcases h2 with ⟨h2, h3⟩ | ⟨b, cap, vs, h2, h3, h4, h5⟩
    · exact .inl ⟨h2, h3.mono hs.mem⟩
    · subst h2
      obtain ⟨k1, k2⟩ := hb b (by simp)
      exact .inr ⟨b, cap, vs, rfl, by rw [k1, h3], h4, fun o ho => by rw [k2, h5 o ho]⟩
  | opq H =>
    obtain ⟨ch, h1, h2, h3, h4⟩ := h
    refine ⟨ch, h1, fun b o hbo => ?_, h3, fun b hbL o => by rw [(hb b hbL).2, h4 b hbL]⟩
    have hbL : b ∈ L.bs := (h3 b).2 (by simp [hbo])
    rw [(hb b hbL).1, h2 b o hbo]
  | dead => trivial
  | loop N φ r =>
    obtain ⟨l, tmps, fn, df, h1, h2, h3, h4, h5⟩ := h
    subst h1
    obtain ⟨k1, k2⟩ := hb l (by simp)
    exact ⟨l, tmps, fn, df, rfl, by rw [k1, h2], h3, fun t => (h4 t).mono hs hl, fun o => by rw [k2, h5]⟩
  | dfr =>
    obtain ⟨r, h1, h2, h3⟩ := h
    subst h1
    obtain ⟨k1, k2⟩ := hb r (by simp)
    exact ⟨r, rfl, by rw [k1, h2], fun o => by rw [k2, h3]⟩

/-- A new block that is a box. -/
def St.newBox (s : St) (E : TypeId) (vs : List Value) : St :=
  { β := s.β ++ [⟨.pointer (some ⟨s.w.heap.size, 0, none⟩), [s.w.heap.size]⟩], M := s.M, w := s.w.alloc (.cells vs.toArray E), own := s.own }

theorem heap_alloc_lt (w : World) (o : Obj) {b : Nat} (h : b < w.heap.size) : (w.alloc o).heap[b]? = w.heap[b]? := by
  show (w.heap.push o)[b]? = w.heap[b]?
  rw [Array.getElem?_push, if_neg (by omega)]

theorem heap_alloc_at (w : World) (o : Obj) : (w.alloc o).heap[w.heap.size]? = some o := by
  show (w.heap.push o)[w.heap.size]? = some o
  simp

theorem Step.newBox {σ : List Box} (s : St) (E : TypeId) (vs : List Value) (B : Box) : Step σ s (σ ++ [B]) (s.newBox E vs) := by
  refine ⟨by simp [St.newBox], ?_, fun _ _ _ h => h, fun _ _ _ _ => rfl, ?_, ?_, rfl, rfl, rfl, rfl⟩
  · intro b hb _
    exact heap_alloc_lt _ _ hb
  · intro L hL b hb
    simp only [St.newBox, List.mem_append, List.mem_singleton] at hL
    rcases hL with hL | rfl
    · exact .inr ⟨L, hL, hb⟩
    · simp at hb; omega
  · intro l B' L hB' hL
    have hl : l < s.β.length := (List.getElem?_eq_some_iff.1 hL).1
    have hl' : l < σ.length := (List.getElem?_eq_some_iff.1 hB').1
    exact ⟨B', L, by rw [List.getElem?_append_left hl', hB'], by simp only [St.newBox]; rw [List.getElem?_append_left hl, hL], .refl _ _⟩

theorem HeapOK.newBox {σ : List Box} {s : St} (h : HeapOK σ s) {E : TypeId} {vs : List Value} {cs : List A} (r : RdL σ s vs cs) : HeapOK (σ ++ [.cells E cs]) (s.newBox E vs) := by
  have st := Step.newBox (σ := σ) s E vs (.cells E cs)
  have hsz : (s.newBox E vs).w.heap.size = s.w.heap.size + 1 := by simp [St.newBox]
  refine ⟨?_, by simp [St.newBox, h.len], ?_, ?_, ?_, ?_⟩
  · intro b o v hm
    have hb := h.block hm
    have := h.mem b o v hm
    rw [← this]
    simp only [World.cell?, St.newBox]
    rw [heap_alloc_lt _ _ hb]
  · intro l B L hB hL
    rcases Nat.lt_trichotomy l σ.length with hlt | rfl | hgt
    · rw [List.getElem?_append_left hlt] at hB
      simp only [St.newBox] at hL
      rw [List.getElem?_append_left (by rw [h.len]; exact hlt)] at hL
      refine (h.box l B L hB hL).carry st.ext h.len fun b hb => ⟨?_, fun _ => rfl⟩
      have := h.lt L (List.mem_of_getElem? hL) b hb
      exact heap_alloc_lt _ _ this
    · simp at hB
      subst hB
      simp only [St.newBox] at hL
      rw [List.getElem?_append_right (by rw [h.len]; exact Nat.le_refl _)] at hL
      simp [h.len] at hL
      subst hL
      refine ⟨s.w.heap.size, vs, rfl, heap_alloc_at _ _, r.mono st.ext h.len, fun o => ?_⟩
      cases hm : s.M s.w.heap.size o with
      | none => exact hm
      | some v => have := h.block hm; omega
    · rw [List.getElem?_append_right (by omega)] at hB
      have : l - σ.length ≠ 0 := by omega
      cases hx : l - σ.length with
      | zero => omega
      | succ n => simp [hx] at hB
  · intro l l' L L' hL hL' b hb hb'
    simp only [St.newBox] at hL hL'
    have aux : ∀ l L, (s.β ++ [⟨.pointer (some ⟨s.w.heap.size, 0, none⟩), [s.w.heap.size]⟩])[l]? = some L → (s.β[l]? = some L) ∨ (l = s.β.length ∧ L.bs = [s.w.heap.size]) := by
      intro l L hL
      rcases Nat.lt_trichotomy l s.β.length with hlt | rfl | hgt
      · rw [List.getElem?_append_left hlt] at hL; exact .inl hL
      · simp at hL; subst hL; exact .inr ⟨rfl, rfl⟩
      · rw [List.getElem?_append_right (by omega)] at hL
        cases hx : l - s.β.length with
        | zero => omega
        | succ n => simp [hx] at hL
    rcases aux l L hL with h1 | ⟨rfl, h1⟩ <;> rcases aux l' L' hL' with h2 | ⟨rfl, h2⟩
    · exact h.disj l l' L L' h1 h2 b hb hb'
    · have := h.lt L (List.mem_of_getElem? h1) b hb; rw [h2] at hb'; simp at hb'; omega
    · have := h.lt L' (List.mem_of_getElem? h2) b hb'; rw [h1] at hb; simp at hb; omega
    · rfl
  · intro L hL b hb
    rw [hsz]
    simp only [St.newBox, List.mem_append, List.mem_singleton] at hL
    rcases hL with hL | rfl
    · have := h.lt L hL b hb; omega
    · simp at hb; omega
  · intro b hb
    obtain ⟨o1, o2⟩ := h.own b hb
    refine ⟨by rw [hsz]; omega, fun L hL => ?_⟩
    simp only [St.newBox, List.mem_append, List.mem_singleton] at hL
    rcases hL with hL | rfl
    · exact o2 L hL
    · simp; omega

/-- Memory grows: what was there stands; what is committed besides lies in new blocks. -/
theorem HeapOK.grow {σ : List Box} {s : St} (h : HeapOK σ s) {M' : Mem} {w' : World} (hsz : s.w.heap.size ≤ w'.heap.size) (hk : ∀ b, b < s.w.heap.size → w'.heap[b]? = s.w.heap[b]?)
    (hM : ∀ b, b < s.w.heap.size → ∀ o, M' b o = s.M b o) (hN : ∀ b, s.w.heap.size ≤ b → ∀ o v, M' b o = some v → w'.cell? ⟨b, o, none⟩ = some v)
    (ho : w'.os = s.w.os) (ht : w'.tape = s.w.tape) (hp : w'.output = s.w.output) : HeapOK σ ⟨s.β, M', w', s.own⟩ ∧ Step σ s σ ⟨s.β, M', w', s.own⟩ := by
  have st : Step σ s σ ⟨s.β, M', w', s.own⟩ :=
    ⟨hsz, fun b hb _ => hk b hb, fun b o v hm => by rw [← hm]; exact hM b (h.block hm) o, fun b hb _ o => hM b hb o, fun L h b hb => .inr ⟨L, h, hb⟩, fun _ B L h h' => ⟨B, L, h, h', .refl _ _⟩, ho, ht, hp, rfl⟩
  refine ⟨⟨?_, h.len, ?_, h.disj, fun L hL b hb => Nat.lt_of_lt_of_le (h.lt L hL b hb) hsz, fun b hb => ⟨Nat.lt_of_lt_of_le (h.own b hb).1 hsz, (h.own b hb).2⟩⟩, st⟩
  · intro b o v hm
    rcases Nat.lt_or_ge b s.w.heap.size with hb | hb
    · have hm' : s.M b o = some v := by rw [← hM b hb o]; exact hm
      rw [← h.mem b o v hm']
      simp only [World.cell?]
      rw [hk b hb]
    · exact hN b hb o v hm
  · intro l B L hB hL
    exact (h.box l B L hB hL).carry st.ext h.len fun b hb => ⟨hk b (h.lt L (List.mem_of_getElem? hL) b hb), fun o => hM b (h.lt L (List.mem_of_getElem? hL) b hb) o⟩

/-- A box's row is written anew. -/
theorem HeapOK.write {σ : List Box} {s : St} (h : HeapOK σ s) {l b : Nat} {L : Loc} {E : TypeId} {cs cs' : List A} {vs' : List Value} (hB : σ[l]? = some (.cells E cs)) (hL : s.β[l]? = some L) (hLb : L.bs = [b])
    (r : RdL σ s vs' cs') : HeapOK (σ.set l (.cells E cs')) { s with w := s.w.setRow b vs'.toArray } ∧ Step σ s (σ.set l (.cells E cs')) { s with w := s.w.setRow b vs'.toArray } := by
  have hlt : l < σ.length := (List.getElem?_eq_some_iff.1 hB).1
  obtain ⟨b0, vs, h1, h2, h3, h4⟩ := h.box l _ L hB hL
  subst h1
  simp at hLb
  subst hLb
  have st : Step σ s (σ.set l (.cells E cs')) { s with w := s.w.setRow b0 vs'.toArray } := by
    refine ⟨by simp, ?_, fun _ _ _ h => h, fun _ _ _ _ => rfl, fun L h b hb => .inr ⟨L, h, hb⟩, ?_, rfl, rfl, rfl, rfl⟩
    · intro b hb hn
      exact setRow_other _ _ _ _ (fun e => hn _ (List.mem_of_getElem? hL) (by simp [e]))
    · intro l' B L' hB' hL'
      by_cases e : l = l'
      · subst e
        rw [hB] at hB'
        cases hB'
        exact ⟨_, L', by rw [List.getElem?_set_self hlt], hL', by simp [BoxLe]⟩
      · exact ⟨B, L', by rw [List.getElem?_set_ne e]; exact hB', hL', .refl _ _⟩
  refine ⟨⟨?_, by simp [h.len], ?_, h.disj, fun L hL b hb => by simpa using h.lt L hL b hb, fun b hb => by simpa using h.own b hb⟩, st⟩
  · intro b o v hm
    have hne : b ≠ b0 := fun e => by subst e; rw [h4] at hm; cases hm
    rw [← h.mem b o v hm]
    simp only [World.cell?]
    rw [setRow_other _ _ _ _ hne]
  · intro l' B L' hB' hL'
    by_cases e : l = l'
    · subst e
      rw [List.getElem?_set_self hlt] at hB'
      cases hB'
      rw [hL] at hL'
      cases hL'
      exact ⟨b0, vs', rfl, setRow_heap _ _ _ _ _ _ h2, r.mono st.ext h.len, h4⟩
    · rw [List.getElem?_set_ne e] at hB'
      refine (h.box l' B L' hB' hL').carry st.ext h.len fun b hb => ⟨setRow_other _ _ _ _ fun hbe => ?_, fun _ => rfl⟩
      subst hbe
      exact e (h.disj l l' _ L' hL hL' b (by simp) hb)

end Go.AM

/- The operations, one by one. -/
namespace Go.AM
open Go.Conc (G)

def NxOK (σ : List Box) (s : St) : Next → D → Prop
  | .value v, x => RdD σ s v x
  | .skip, x => x = .any
  | _, _ => False

/-- One operation: from the operands and the boxes it comes to x and to the boxes σ'. -/
def OpJ (P : Program) (o : Oper) (η : Operand → D) (σ : List Box) (x : D) (σ' : List Box) : Prop :=
  ∀ s ρ, HeapOK σ s → (∀ y, RdD σ s (ρ y) (η y)) → ∃ nx s', (execOp ρ o).run P s.w = .ok nx s'.w ∧ NxOK σ' s' nx x ∧ HeapOK σ' s' ∧ Step σ s σ' s' ∧ EvOK s ((execOp ρ o).events P s.w #[])

theorem OpJ.quietE {P : Program} {o : Oper} {η : Operand → D} {σ : List Box} {x : D}
    (h : ∀ s ρ, HeapOK σ s → (∀ y, RdD σ s (ρ y) (η y)) → ∃ v, (execOp ρ o).run P s.w = .ok (.value v) s.w ∧ RdD σ s v x ∧ EvOK s ((execOp ρ o).events P s.w #[])) : OpJ P o η σ x σ :=
  fun s ρ hh hr => let ⟨v, h1, h2, h3⟩ := h s ρ hh hr; ⟨.value v, s, h1, h2, hh, .refl _ _, h3⟩

theorem OpJ.quiet {P : Program} {o : Oper} {η : Operand → D} {σ : List Box} {x : D}
    (h : ∀ s ρ, HeapOK σ s → (∀ y, RdD σ s (ρ y) (η y)) → ∃ v, (execOp ρ o).run P s.w = .ok (.value v) s.w ∧ RdD σ s v x ∧ (execOp ρ o).events P s.w #[] = #[]) : OpJ P o η σ x σ :=
  fun s ρ hh hr => let ⟨v, h1, h2, h3⟩ := h s ρ hh hr; ⟨.value v, s, h1, h2, hh, .refl _ _, by rw [h3]; exact .nil⟩

/-! ### Constants and operands -/

def inRb : IntKind → Int → Bool
  | .i64, .ofNat m => Nat.ble m 9223372036854775807
  | .i64, .negSucc m => Nat.ble m 9223372036854775807
  | .u8, .ofNat m => Nat.ble m 255
  | .i32, .ofNat m => Nat.ble m 2147483647
  | .i32, .negSucc m => Nat.ble m 2147483647
  | .u64, .ofNat m => Nat.ble m 18446744073709551615
  | .u32, .ofNat m => Nat.ble m 4294967295
  | _, _ => false

theorem inR_of {k : IntKind} {n : Int} (h : inRb k n = true) : inR k n := by
  cases k <;> cases n <;> simp only [inRb, inR] at h ⊢ <;> first | (cases h; done) | (have := Nat.le_of_ble_eq_true h; simp only [Int.ofNat_eq_natCast, Int.negSucc_eq]; omega)

/-- A constant as closed data. -/
def absC : Value → Option C
  | .int k n => cond (inRb k n) (some (.int k n)) none
  | .bool b => some (.bool b)
  | .string s => cond (Nat.ble s.size 9223372036854775807) (some (.str s.data.toList)) none
  | .slice none 0 0 => some (.sl true 0 0 (fun _ => []))
  | .pointer none => some .nilp
  | .nilIface => some .nili
  | .nilFunc => some .nilf
  | .map m => some (.val (.map m))
  | _ => none

theorem Rd.nilSlice {M : Mem} {t : Bool} {k : Nat} {a : Option Addr} {es : Nat → List C} : Rd M (.slice a 0 0) (.sl t k 0 es) :=
  Rd.sl 0 0 (fun _ _ => undef) (Nat.le_refl _) (by omega) (fun _ => rfl) (by omega) (by omega) (by omega) (by omega)

theorem Rd.absC {M : Mem} {v : Value} {c : C} (h : absC v = some c) : Rd M v c := by
  unfold AM.absC at h
  split at h <;> first
    | (rename_i k n; cases hb : inRb k n <;> rw [hb] at h <;> cases h; exact .int (inR_of hb))
    | (rename_i s; cases hb : Nat.ble s.size 9223372036854775807 <;> rw [hb] at h <;> cases h; exact .str rfl (by rw [Array.length_toList]; exact Nat.le_of_ble_eq_true hb))
    | (cases h; done)
    | (cases h; exact .bool)
    | (cases h; exact Rd.nilSlice)
    | (cases h; exact .nilp)
    | (cases h; exact .nili)
    | (cases h; exact .nilf)
    | (cases h; exact .val rfl)

def dOf : Option C → D
  | some c => .e (.one (.c c))
  | none => .any

def absO (φ : Fr) : Operand → D
  | .tmp t => look φ t
  | .const v => dOf (absC v)
  | .func f => .e (.one (.c (.fn (.func f) [] [])))
  | .global _ => .any

theorem absO_ok {N : Nat} {σ : List Box} {s : St} {φ : Fr} {a : Act} (f : FrOK N σ s φ a) (y : Operand) : RdD σ s (a.eval y) (absO φ y) := by
  cases y with
  | tmp t => exact f.slot t
  | const v =>
    simp only [absO, Act.eval]
    cases h : absC v with
    | none => trivial
    | some c => exact Rd.absC h
  | func g =>
    exact Rd.fn [] [] rfl rfl (fun _ => undef) (fun _ => undef) (by simp) (by simp) (by simp) (by simp)
  | global g => trivial

def putD : Option Nat → D → Fr → Fr
  | some t, x, φ => (t, x) :: φ
  | none, _, φ => φ

/-- A step by an operation. -/
theorem arr_op {P : Program} {X : Cx P} {S : Goroutine → St → Prop} {b : Frame} {k : List Item} {cs : List Frame} {a : Act} {s : St} {ops : Array Oper} {i : Nat} {rest : List Nat} {o : Oper} (hb : b.kind ≠ .early) (ho : ops[i]? = some o) (hw : Region.wanted o (yielded ops a.tmps) = true)
    (h : ∀ s1, RelyC s s1 → ∃ nx s' v, (execOp a.eval o).run P s1.w = .ok nx s'.w ∧ (nx = .value v ∨ (nx = .skip ∧ v = undef)) ∧ Guar s1 s' ((execOp a.eval o).events P s1.w #[]) ∧ Arr X S (G (b.aT (a.put o.dst v) (.inRegion ops rest :: k)) cs) s') :
    Arr X S (G (b.aT a (.inRegion ops (i :: rest) :: k)) cs) s := by
  refine .next rfl fun s1 h1 => ?_
  obtain ⟨nx, s', v, hr, hnx, hg, ha⟩ := h s1 (X.relyC h1)
  refine ⟨_, s', Go.Conc.listed P b.fn a o s1.w, ?_, ⟨hg.1, hg.2.seen⟩, ha⟩
  rcases hnx with rfl | ⟨rfl, rfl⟩
  · exact sg_value ho hw hb hr
  · exact sg_none ho hw hb hr

/-- An operation without a guard, or whose guard is met. -/
theorem AOps.op {P : Program} {X : Cx P} {N : Nat} {all rest : List Oper} {Q : Fr → List Box → Prop} {φ : Fr} {σ : List Box} {o : Oper} {x : D} {σ' : List Box}
    (hg : ∀ σ s a, FrOK N σ s φ a → Region.wanted o (yielded all.toArray a.tmps) = true) (h : OpJ P o (absO φ) σ x σ') (d : Option Nat) (hd : o.dst = d) (hN : ∀ t, d = some t → t < N)
    (k : AOps X N all rest Q (putD d x φ) σ') : AOps X N all (o :: rest) Q φ σ := by
  subst hd
  intro s a f hh b kk cs S idx hb hidx hQ
  cases idx with
  | nil => exact hidx.elim
  | cons i idx =>
  obtain ⟨hi, hidx⟩ := hidx
  refine arr_op hb hi (hg _ _ _ f) fun s1 hr1 => ?_
  have hh1 := hh.rely hr1
  have f1 := f.rely hr1 hh
  obtain ⟨nx, s', h1, h2, h3, h4, h5⟩ := h s1 a.eval hh1 (absO_ok f1)
  have hW := h4.toW hh1
  have fin : ∀ v, RdD σ' s' v x → Arr X S (G (b.aT (a.put o.dst v) (.inRegion all.toArray idx :: kk)) cs) s' := by
    intro v hv
    refine k s' _ ?_ h3 b kk cs S idx hb hidx fun φ2 σ2 s2 a2 q f2 h2 st => hQ φ2 σ2 s2 a2 q f2 h2 ((hr1.stepW.trans hW).trans st)
    cases hd : o.dst with
    | none => exact f1.mono hW hh1.len
    | some t => exact (f1.mono hW hh1.len).put (hN t hd) hv
  have hG : Guar s1 s' ((execOp a.eval o).events P s1.w #[]) := ⟨⟨σ, σ', hh1, h3, h4⟩, h5⟩
  cases nx with
  | value v => exact ⟨_, s', v, h1, .inl rfl, hG, fin v h2⟩
  | skip => simp only [NxOK] at h2; subst h2; exact ⟨_, s', undef, h1, .inr ⟨rfl, rfl⟩, hG, fin undef trivial⟩
  | _ => exact h2.elim

/-- An operation whose guard is not met is passed over. -/
theorem AOps.passD {P : Program} {X : Cx P} {N : Nat} {all rest : List Oper} {Q : Fr → List Box → Prop} {φ : Fr} {σ : List Box} {o : Oper} {x : D} (hx : ∀ σ s, RdD σ s undef x)
    (hg : ∀ σ s a, FrOK N σ s φ a → Region.wanted o (yielded all.toArray a.tmps) = false) (d : Option Nat) (hd : o.dst = d) (hN : ∀ t, d = some t → t < N)
    (k : AOps X N all rest Q (putD d x φ) σ) : AOps X N all (o :: rest) Q φ σ := by
  subst hd
  intro s a f hh b kk cs S idx hb hidx hQ
  cases idx with
  | nil => exact hidx.elim
  | cons i idx =>
  obtain ⟨hi, hidx⟩ := hidx
  refine .ctl hh rfl (fun _ => sg_pass hi (hg _ _ _ f)) fun s1 hr1 => ?_
  have hh1 := hh.rely hr1
  have f1 := f.rely hr1 hh
  refine k s1 _ ?_ hh1 b kk cs S idx hb hidx fun φ2 σ2 s2 a2 q f2 h2 st => hQ φ2 σ2 s2 a2 q f2 h2 (hr1.stepW.trans st)
  cases hd : o.dst with
  | none => exact f1
  | some t => exact f1.put (hN t hd) (hx _ _)

theorem AOps.pass {P : Program} {X : Cx P} {N : Nat} {all rest : List Oper} {Q : Fr → List Box → Prop} {φ : Fr} {σ : List Box} {o : Oper}
    (hg : ∀ σ s a, FrOK N σ s φ a → Region.wanted o (yielded all.toArray a.tmps) = false) (d : Option Nat) (hd : o.dst = d) (hN : ∀ t, d = some t → t < N)
    (k : AOps X N all rest Q (putD d .any φ) σ) : AOps X N all (o :: rest) Q φ σ := .passD (x := .any) (fun _ _ => trivial) hg d hd hN k

/-! ### Moves -/

theorem OpJ.move {P : Program} {o : Oper} {η : Operand → D} {σ : List Box} {x : Operand} (h : o.op = .move x) : OpJ P o η σ (η x) σ :=
  .quiet fun s ρ _ hr => ⟨ρ x, by simp [execOp, h, pure], hr x, by simp [execOp, h]⟩

theorem OpJ.assign {P : Program} {o : Oper} {η : Operand → D} {σ : List Box} {x : Operand} (h : o.op = .assign x) : OpJ P o η σ (η x) σ :=
  .quiet fun s ρ _ hr => ⟨ρ x, by simp [execOp, h, pure], hr x, by simp [execOp, h]⟩

theorem rdC {σ : List Box} {s : St} {v : Value} {c : C} (h : RdD σ s v (.e (.one (.c c)))) : Rd s.M v c := h

theorem OpJ.pick {P : Program} {o : Oper} {η : Operand → D} {σ : List Box} {c a b : Operand} (h : o.op = .pick c a b) {t : Bool} (hc : η c = .e (.one (.c (.bool t)))) :
    OpJ P o η σ (match t with | true => η a | false => η b) σ := by
  refine .quiet fun s ρ _ hr => ?_
  have h1 := hr c
  rw [hc] at h1
  have h2 := rdC h1
  generalize hv : ρ c = v at h2
  cases h2
  cases t
  · exact ⟨ρ b, by simp [execOp, h, hv, asBool], hr b, by simp [execOp, h, hv, asBool]⟩
  · exact ⟨ρ a, by simp [execOp, h, hv, asBool], hr a, by simp [execOp, h, hv, asBool]⟩

/-! ### Arithmetic -/

/-- Two numbers: what comes out, and what must hold. -/
def intE (op : BinOp) (k : IntKind) (x y : Int) : Option (C × List Prop) :=
  match op with
  | .add => some (.int k (x + y), [inR k (x + y)])
  | .sub => some (.int k (x - y), [inR k (x - y)])
  | .mul => some (.int k (x * y), [inR k (x * y)])
  | .quo => some (.int k (x / y), [0 ≤ x, 0 < y])
  | .rem => some (.int k (x % y), [0 ≤ x, 0 < y])
  | .eql => some (.bool (x == y), [])
  | .neq => some (.bool (x != y), [])
  | .lss => some (.bool (decide (x < y)), [])
  | .leq => some (.bool (decide (x ≤ y)), [])
  | .gtr => some (.bool (decide (y < x)), [])
  | .geq => some (.bool (decide (y ≤ x)), [])
  | _ => none

def strE (op : BinOp) (x y : List UInt8) : Option (C × List Prop) :=
  match op with
  | .add => some (.str (x ++ y), [x.length + y.length ≤ 9223372036854775807])
  | .eql => some (.bool (x == y), [])
  | .neq => some (.bool (!(x == y)), [])
  | .lss => some (.bool (Op.bytesLess x y), [])
  | .leq => some (.bool (Op.bytesLess x y || x == y), [])
  | .gtr => some (.bool (!(Op.bytesLess x y || x == y)), [])
  | .geq => some (.bool (!(Op.bytesLess x y)), [])
  | _ => none

def AllP : List Prop → Prop
  | [] => True
  | [p] => p
  | p :: q :: r => p ∧ AllP (q :: r)

theorem AllP.cons {p : Prop} {r : List Prop} : AllP (p :: r) ↔ p ∧ AllP r := by cases r <;> simp [AllP]

theorem wrap_in {k : IntKind} {n : Int} (h : inR k n) : k.wrap n = n := by
  cases k <;> simp only [inR, IntKind.wrap, IntKind.bits, IntKind.signed] at h ⊢ <;> simp <;> (try split) <;> omega

theorem run_intE {P : Program} {w : World} {op : BinOp} {k : IntKind} {x y : Int} {c : C} {obs : List Prop} (h : intE op k x y = some (c, obs)) (ho : AllP obs) (hx : inR k x) (hy : inR k y) (t : TypeId) (M : Mem) :
    ∃ v, (binOp op t (.int k x) (.int k y)).run P w = .ok v w ∧ Rd M v c := by
  cases op <;> simp only [intE, Option.some.injEq, Prod.mk.injEq, reduceCtorEq] at h
  case add => obtain ⟨rfl, rfl⟩ := h; exact ⟨_, by simp only [binOp, ne_eq, not_true_eq_false, if_false, Op.intArith, wrap_in ho]; rfl, .int ho⟩
  case sub => obtain ⟨rfl, rfl⟩ := h; exact ⟨_, by simp only [binOp, ne_eq, not_true_eq_false, if_false, Op.intArith, wrap_in ho]; rfl, .int ho⟩
  case mul => obtain ⟨rfl, rfl⟩ := h; exact ⟨_, by simp only [binOp, ne_eq, not_true_eq_false, if_false, Op.intArith, wrap_in ho]; rfl, .int ho⟩
  case quo =>
    obtain ⟨rfl, rfl⟩ := h
    obtain ⟨h1, h2⟩ := ho
    replace h2 : 0 < y := h2
    have e : x.tdiv y = x / y := Int.tdiv_eq_ediv_of_nonneg h1
    have hr : inR k (x / y) := by
      have a1 : 0 ≤ x / y := Int.ediv_nonneg h1 (by omega)
      have a2 : x / y ≤ x := Int.ediv_le_self _ h1
      cases k <;> simp only [inR] at hx ⊢ <;> omega
    exact ⟨_, by simp only [binOp, ne_eq, not_true_eq_false, if_false, Op.intDiv, show y ≠ 0 by omega, e, wrap_in hr]; rfl, .int hr⟩
  case rem =>
    obtain ⟨rfl, rfl⟩ := h
    obtain ⟨h1, h2⟩ := ho
    replace h2 : 0 < y := h2
    have e : x.tmod y = x % y := Int.tmod_eq_emod_of_nonneg h1
    have hr : inR k (x % y) := by
      have a1 : 0 ≤ x % y := Int.emod_nonneg _ (by omega)
      have a2 : x % y < y := Int.emod_lt_of_pos _ h2
      cases k <;> simp only [inR] at hy ⊢ <;> omega
    exact ⟨_, by simp only [binOp, ne_eq, not_true_eq_false, if_false, Op.intDiv, show y ≠ 0 by omega, e]; rfl, .int hr⟩
  all_goals (obtain ⟨rfl, rfl⟩ := h; exact ⟨_, by simp only [binOp, ne_eq, not_true_eq_false, if_false, Op.intCmp, gt_iff_lt, ge_iff_le]; rfl, .bool⟩)

theorem run_strE {P : Program} {w : World} {op : BinOp} {x y : ByteArray} {a b : List UInt8} {c : C} {obs : List Prop} (h : strE op a b = some (c, obs)) (ho : AllP obs) (hx : x.data.toList = a) (hy : y.data.toList = b) (t : TypeId) (M : Mem) :
    ∃ v, (binOp op t (.string x) (.string y)).run P w = .ok v w ∧ Rd M v c := by
  subst hx hy
  cases op <;> simp only [strE, Option.some.injEq, Prod.mk.injEq, reduceCtorEq] at h
  case add =>
    obtain ⟨rfl, rfl⟩ := h
    have hl : ¬ ((x.size + y.size : Nat) : Int) > IntKind.i64.max := by
      have h1 : x.data.toList.length = x.size := Array.length_toList
      have h2 : y.data.toList.length = y.size := Array.length_toList
      have e : IntKind.i64.max = 9223372036854775807 := rfl
      have ho' : x.data.toList.length + y.data.toList.length ≤ 9223372036854775807 := ho
      rw [e]
      omega
    refine ⟨_, by simp only [binOp, Op.stringOp, hl, if_false]; rfl, .str (by simp) (by simpa [AllP] using ho)⟩
  all_goals (obtain ⟨rfl, rfl⟩ := h; exact ⟨_, by simp only [binOp, Op.stringOp, ByteArray.toList_eq]; rfl, .bool⟩)

theorem ev_intE {P : Program} {w : World} {op : BinOp} {k : IntKind} {x y : Int} {c : C} {obs : List Prop} (h : intE op k x y = some (c, obs)) (ho : AllP obs) (t : TypeId) :
    (binOp op t (.int k x) (.int k y)).events P w #[] = #[] := by
  cases op <;> simp only [intE, Option.some.injEq, Prod.mk.injEq, reduceCtorEq] at h
  case quo =>
    obtain ⟨rfl, rfl⟩ := h
    obtain ⟨h1, h2⟩ := ho
    replace h2 : 0 < y := h2
    simp only [binOp, ne_eq, not_true_eq_false, if_false, Op.intDiv, show y ≠ 0 by omega]; rfl
  case rem =>
    obtain ⟨rfl, rfl⟩ := h
    obtain ⟨h1, h2⟩ := ho
    replace h2 : 0 < y := h2
    simp only [binOp, ne_eq, not_true_eq_false, if_false, Op.intDiv, show y ≠ 0 by omega]; rfl
  all_goals (simp only [binOp, ne_eq, not_true_eq_false, if_false, Op.intCmp, Op.intArith]; rfl)

theorem ev_strE {P : Program} {w : World} {op : BinOp} {x y : ByteArray} {a b : List UInt8} {c : C} {obs : List Prop} (h : strE op a b = some (c, obs)) (ho : AllP obs) (hx : x.data.toList = a) (hy : y.data.toList = b) (t : TypeId) :
    (binOp op t (.string x) (.string y)).events P w #[] = #[] := by
  subst hx hy
  cases op <;> simp only [strE, Option.some.injEq, Prod.mk.injEq, reduceCtorEq] at h
  case add =>
    obtain ⟨rfl, rfl⟩ := h
    have hl : ¬ ((x.size + y.size : Nat) : Int) > IntKind.i64.max := by
      have h1 : x.data.toList.length = x.size := Array.length_toList
      have h2 : y.data.toList.length = y.size := Array.length_toList
      have e : IntKind.i64.max = 9223372036854775807 := rfl
      have ho' : x.data.toList.length + y.data.toList.length ≤ 9223372036854775807 := ho
      rw [e]
      omega
    simp only [binOp, Op.stringOp, hl, if_false]; rfl
  all_goals (simp only [binOp, Op.stringOp]; rfl)

def ikEq : IntKind → IntKind → Bool
  | .i8, .i8 | .i16, .i16 | .i32, .i32 | .i64, .i64 | .u8, .u8 | .u16, .u16 | .u32, .u32 | .u64, .u64 => true
  | _, _ => false

theorem ikEq_eq {k k' : IntKind} (h : ikEq k k' = true) : k = k' := by cases k <;> cases k' <;> first | rfl | (cases h; done)

def binE (op : BinOp) : C → C → Option (C × List Prop)
  | .int k x, .int k' y => cond (ikEq k k') (intE op k x y) none
  | .str a, .str b => strE op a b
  | _, _ => none

theorem eqGuard_int {P : Program} (op : BinOp) (t : TypeId) (x y : Operand) (k k' : IntKind) (n n' : Int) (u : World) : (eqGuard op t x y (.int k n) (.int k' n')).run P u = .ok () u := by cases op <;> rfl
theorem eqGuard_str {P : Program} (op : BinOp) (t : TypeId) (x y : Operand) (a b : ByteArray) (u : World) : (eqGuard op t x y (.string a) (.string b)).run P u = .ok () u := by cases op <;> rfl

theorem ev_eqGuard_int {P : Program} (op : BinOp) (t : TypeId) (x y : Operand) (k k' : IntKind) (n n' : Int) (u : World) (es : Array Event) : (eqGuard op t x y (.int k n) (.int k' n')).events P u es = es := by cases op <;> rfl
theorem ev_eqGuard_str {P : Program} (op : BinOp) (t : TypeId) (x y : Operand) (a b : ByteArray) (u : World) (es : Array Event) : (eqGuard op t x y (.string a) (.string b)).events P u es = es := by cases op <;> rfl

theorem OpJ.binOp {P : Program} {o : Oper} {η : Operand → D} {σ : List Box} {op : BinOp} {t ty : TypeId} {x y : Operand} (h : o.op = .binOp op t x y ty) {a b c : C} {obs : List Prop}
    (ha : η x = .e (.one (.c a))) (hb : η y = .e (.one (.c b))) (he : binE op a b = some (c, obs)) (ho : AllP obs) : OpJ P o η σ (.e (.one (.c c))) σ := by
  refine .quiet fun s ρ _ hr => ?_
  have h1 := hr x
  have h2 := hr y
  rw [ha] at h1
  rw [hb] at h2
  replace h1 := rdC h1
  replace h2 := rdC h2
  generalize hvx : ρ x = vx at h1
  generalize hvy : ρ y = vy at h2
  cases h1 <;> cases h2 <;> simp only [binE, reduceCtorEq] at he
  case int.int k n hn k' n' hn' =>
    cases hk : ikEq k k' <;> simp only [hk, cond, reduceCtorEq] at he
    cases ikEq_eq hk
    obtain ⟨v, hv, hM⟩ := run_intE (P := P) (w := s.w) he ho hn hn' t s.M
    exact ⟨v, by simp only [execOp, h, Sem.run_bind, hvx, hvy, eqGuard_int, Result.andThen_ok, hv, Sem.run_pure], hM, by simp [execOp, h, hvx, hvy, eqGuard_int, ev_eqGuard_int, ev_intE he ho]⟩
  case str.str =>
    rename_i x' l hx hl y' l' hy hl'
    obtain ⟨v, hv, hM⟩ := run_strE (P := P) (w := s.w) he ho hx hy t s.M
    exact ⟨v, by simp only [execOp, h, Sem.run_bind, hvx, hvy, eqGuard_str, Result.andThen_ok, hv, Sem.run_pure], hM, by simp [execOp, h, hvx, hvy, eqGuard_str, ev_eqGuard_str, ev_strE he ho hx hy]⟩

def unE (op : UnOp) : C → Option C
  | .bool b => match op with | .not => some (.bool (!b)) | _ => none
  | _ => none

theorem OpJ.unOp {P : Program} {o : Oper} {η : Operand → D} {σ : List Box} {op : UnOp} {t : TypeId} {x : Operand} (h : o.op = .unOp op t x) {a c : C}
    (ha : η x = .e (.one (.c a))) (he : unE op a = some c) : OpJ P o η σ (.e (.one (.c c))) σ := by
  refine .quiet fun s ρ _ hr => ?_
  have h1 := hr x
  rw [ha] at h1
  replace h1 := rdC h1
  generalize hvx : ρ x = vx at h1
  cases h1 <;> simp only [unE, reduceCtorEq] at he
  cases op <;> simp only [reduceCtorEq, Option.some.injEq] at he
  subst he
  exact ⟨_, by simp only [execOp, h, hvx, Op.unary, Sem.run_bind, Sem.run_pure, Result.andThen_ok], Rd.bool, by simp [execOp, h, hvx, Op.unary]⟩

/-! ### Tuples -/

theorem RdEs.get {σ : List Box} {s : St} {vs : List Value} {xs : List E1} (r : RdEs σ s vs xs) {j : Nat} {x : E1} (h : xs[j]? = some x) : ∃ v, vs[j]? = some v ∧ RdE σ s v x := by
  induction vs generalizing xs j with
  | nil => cases xs <;> simp_all [RdEs]
  | cons v vs ih =>
    cases xs with
    | nil => simp [RdEs] at r
    | cons b cs =>
      cases j with
      | zero => simp at h; subst h; exact ⟨v, rfl, r.1⟩
      | succ j => simp at h; obtain ⟨u, hu, hr⟩ := ih r.2 h; exact ⟨u, by simpa using hu, hr⟩

theorem OpJ.extract {P : Program} {o : Oper} {η : Operand → D} {σ : List Box} {x : Operand} {j : Nat} (h : o.op = .extract x j) {xs : List E1} {e : E1}
    (ha : η x = .tup xs) (he : xs[j]? = some e) : OpJ P o η σ (.e e) σ := by
  refine .quiet fun s ρ _ hr => ?_
  have h1 := hr x
  rw [ha] at h1
  obtain ⟨vs, hv, hs⟩ := h1
  obtain ⟨v, hvj, hre⟩ := hs.get he
  refine ⟨v, ?_, hre, ?_⟩ <;> simp [execOp, h, hv, Instr.extract, hvj]

end Go.AM

/- What loads and stores list. -/
namespace Go.AM

def rdEv (b o : Nat) : Event := ⟨.cell ⟨b, o, none⟩, false, false⟩
def wrEv (b o : Nat) : Event := ⟨.cell ⟨b, o, none⟩, true, false⟩

theorem add_addr (b o n : Nat) : (⟨b, o, none⟩ : Addr).add n = ⟨b, o + n, none⟩ := by
  unfold Addr.add; split <;> simp_all

section
variable {P : Program}

theorem ev_load {w : World} {b o : Nat} {v : Value} (h : w.cell? ⟨b, o, none⟩ = some v) (es : Array Event) : (load ⟨b, o, none⟩).events P w es = es.push (rdEv b o) := by
  rw [events_load, h]; rfl

theorem ev_loadCellsFrom {w : World} {b o : Nat} : ∀ (n i : Nat) (acc : Array Value) (es : Array Event), (∀ j, j < n → ∃ v, w.cell? ⟨b, o + (i + j), none⟩ = some v) →
    ∀ e ∈ (loadCellsFrom ⟨b, o, none⟩ i n acc).events P w es, e ∈ es ∨ ∃ j, j < i + n ∧ e = rdEv b (o + j)
  | 0, i, acc, es, _ => fun e h => .inl (by simpa [loadCellsFrom] using h)
  | n + 1, i, acc, es, hc => fun e h => by
    obtain ⟨v, hv⟩ := hc 0 (by omega)
    simp only [Nat.add_zero] at hv
    simp only [loadCellsFrom, Sem.events_bind, add_addr, run_load, hv, Result.evThen_ok, ev_load hv] at h
    rcases ev_loadCellsFrom n (i + 1) (acc.push v) _ (fun j hj => by have := hc (j + 1) (by omega); rwa [show i + 1 + j = i + (j + 1) by omega]) e h with h1 | ⟨j, hj, rfl⟩
    · rcases Array.mem_push.1 h1 with h1 | rfl
      · exact .inl h1
      · exact .inr ⟨i, by omega, rfl⟩
    · exact .inr ⟨j, by omega, rfl⟩

theorem ev_loadCells {w : World} {b o n : Nat} {es : Array Event} (h : ∀ j, j < n → ∃ v, w.cell? ⟨b, o + j, none⟩ = some v) : ∀ e ∈ (loadCells ⟨b, o, none⟩ n).events P w es, e ∈ es ∨ ∃ j, j < n ∧ e = rdEv b (o + j) := by
  intro e he
  have := ev_loadCellsFrom (P := P) n 0 #[] es (by simpa using h) e he
  simpa using this

theorem ev_storeCells {b o : Nat} {t : TypeId} : ∀ (vs : List Value) (i : Nat) (cur : Array Value) (w : World) (es : Array Event), w.heap[b]? = some (.cells cur t (0, 0)) → o + i + vs.length ≤ cur.size → (∀ v ∈ vs, v.oneCell' = true) →
    ∀ e ∈ (storeCells ⟨b, o, none⟩ vs i).events P w es, e ∈ es ∨ ∃ j, i ≤ j ∧ j < i + vs.length ∧ e = wrEv b (o + j)
  | [], _, _, _, _, _, _, _ => fun e h => .inl (by simpa [storeCells] using h)
  | v :: rest, i, cur, w, es, hg, hl, h1 => fun e h => by
    have hi : o + i < cur.size := by simp at hl; omega
    have hcell : w.cell? ⟨b, o + i, none⟩ = some cur[o + i] := by simp [World.cell?, hg, hi]
    have hfro : w.frozen? ⟨b, o + i, none⟩ = false := by simp [World.frozen?, hg]
    have hst : (store (⟨b, o + i, none⟩ : Addr) v).run P w = .ok () (w.setRow b (cur.setIfInBounds (o + i) v)) := by
      rw [run_store P w _ v _ (h1 v (by simp)), hcell]
      simp [hfro, setCell_eq_setRow w b (o + i) cur t (0, 0) v hg]
    have hev : (store (⟨b, o + i, none⟩ : Addr) v).events P w es = es.push (wrEv b (o + i)) := by
      rw [events_store P w es _ v _ (h1 v (by simp)), hcell]
      simp only [hfro, Bool.false_eq_true, if_false]
      rfl
    simp only [storeCells, Sem.events_bind, add_addr, hst, hev, Result.evThen_ok] at h
    rcases ev_storeCells rest (i + 1) (cur.setIfInBounds (o + i) v) _ _ (setRow_heap _ _ _ _ _ _ hg) (by simp at hl ⊢; omega) (fun u hu => h1 u (by simp [hu])) e h with h2 | ⟨j, h3, h4, rfl⟩
    · rcases Array.mem_push.1 h2 with h2 | rfl
      · exact .inl h2
      · exact .inr ⟨i, Nat.le_refl _, by simp, rfl⟩
    · exact .inr ⟨j, by omega, by simp at h4 ⊢; omega, rfl⟩

/-- What lists nothing. -/
def Still {α : Type} (P : Program) (m : Sem α) : Prop := ∀ w es, m.events P w es = es

theorem Still.bind {α β : Type} {m : Sem α} {f : α → Sem β} (h : Still P m) (k : ∀ a, Still P (f a)) : Still P (m >>= f) := by
  intro w es
  rw [Sem.events_bind, h w es]
  cases m.run P w with
  | ok a w' => exact k a w' es
  | halt x w' => rfl
theorem Still.pure {α : Type} {a : α} : Still P (Pure.pure a : Sem α) := fun _ _ => rfl
theorem Still.stuck {α : Type} {why : String} : Still P (Go.stuck why : Sem α) := fun _ _ => rfl
theorem Still.unsupported {α : Type} {u : Unsupported} : Still P (Go.unsupported u : Sem α) := fun _ _ => rfl
theorem Still.sizeOf {t : TypeId} : Still P (sizeOf t) := fun _ _ => events_sizeOf ..
theorem Still.underlying {t : TypeId} : Still P (underlying t) := fun _ _ => events_underlying ..
theorem Still.zeroValue {t : TypeId} : Still P (zeroValue t) := fun _ _ => events_zeroValue ..
theorem Still.typeInfo {t : TypeId} : Still P (typeInfo t) := fun _ _ => events_typeInfo ..
theorem Still.isAgg {t : TypeId} : Still P (isAgg t) := fun _ _ => events_isAgg ..
theorem Still.newObj {o : Obj} : Still P (newObj o) := fun _ _ => rfl
theorem Still.choose {q : Question} : Still P (choose q) := fun _ _ => events_choose ..
theorem Still.shape {r : Nat} : Still P (shape r) := fun _ _ => rfl
theorem Still.newRow {t : TypeId} {c : Array Value} : Still P (newRow t c) := .bind .newObj fun _ => .pure
theorem Still.mapML {α β : Type} {f : α → Sem β} (h : ∀ a, Still P (f a)) : ∀ l : List α, Still P (l.mapM f)
  | [] => by rw [List.mapM_nil]; exact .pure
  | a :: l => by rw [List.mapM_cons]; exact .bind (h a) fun _ => .bind (Still.mapML h l) fun _ => .pure
theorem Still.map {α β : Type} {f : α → β} {m : Sem α} (h : Still P m) : Still P (Functor.map f m) := fun w es => by rw [Sem.events_map]; exact h w es
theorem Still.mapMA {α β : Type} {f : α → Sem β} (h : ∀ a, Still P (f a)) (l : Array α) : Still P (l.mapM f) := by
  rw [Array.mapM_eq_mapM_toList]; exact .map (.mapML h _)

theorem Still.forInL {α β : Type} {F : α → β → Sem (ForInStep β)} (h : ∀ a b, Still P (F a b)) : ∀ (l : List α) (b : β), Still P (forIn l b F)
  | [], b => by rw [List.forIn_nil]; exact .pure
  | a :: l, b => by
    rw [List.forIn_cons]
    refine .bind (h a b) fun r => ?_
    cases r with
    | done b => exact .pure
    | yield b => exact Still.forInL h l b

theorem Still.build {t : TypeId} {parts : Array (Nat × Value)} : Still P (Instr.build t parts) := by
  unfold Instr.build
  refine .bind .zeroValue fun z => .bind .underlying fun d => ?_
  cases d <;> first
    | exact .stuck
    | (refine .bind (.mapMA (fun _ => .bind .sizeOf fun _ => .pure) _) fun pl => ?_
       split
       · exact .pure
       · exact .stuck)
    | (refine .bind .sizeOf fun n => ?_
       split
       · exact .pure
       · exact .stuck)

theorem Still.buildSlice {t : TypeId} {n : Nat} {parts : Array (Nat × Value)} : Still P (Instr.buildSlice t n parts) := by
  unfold Instr.buildSlice
  refine .bind .underlying fun d => ?_
  cases d <;> first
    | exact .stuck
    | (refine .bind .sizeOf fun m => ?_
       dsimp only
       have hj : ∀ (elem : TypeId) (zero : Array Value), Still P (match Instr.fill (fun i => some (i * m, m)) (Array.map (fun x => zero[x % zero.size]!) (Array.range (n * m))) parts.toList with
          | some cells => do
            let a ← Go.newRow elem cells
            Pure.pure (Value.slice (some a) n n)
          | _ => Go.stuck "buildSlice: a part of the wrong size") := by
         intro elem zero
         split
         · exact .bind .newRow fun _ => .pure
         · exact .stuck
       by_cases h0 : n * m = 0
       · simp only [h0, if_true]
         rw [h0] at hj
         split
         · exact .bind .unsupported fun _ => .bind .pure fun z => hj _ z
         · exact .bind .pure fun z => hj _ z
       · simp only [h0, if_false]
         split
         · exact .bind .unsupported fun _ => .bind .zeroValue fun z => .bind .pure fun z => hj _ z
         · exact .bind .zeroValue fun z => .bind .pure fun z => hj _ z)

theorem evOK_own {s : St} {b o : Nat} {L : Loc} (hL : L ∈ s.β) (hb : b ∈ L.bs) : evOK s (rdEv b o) := ⟨rfl, rfl, .inr (.inl ⟨⟨L, hL, hb⟩, fun h => by cases h⟩)⟩
theorem evOK_mem {s : St} {b o : Nat} {v : Value} (h : s.M b o = some v) : evOK s (rdEv b o) := ⟨rfl, rfl, .inr (.inr ⟨rfl, v, h⟩)⟩
theorem evOK_wr {s : St} {b o : Nat} {L : Loc} (hL : L ∈ s.β) (hb : b ∈ L.bs) (hM : s.M b o = none) : evOK s (wrEv b o) := ⟨rfl, rfl, .inr (.inl ⟨⟨L, hL, hb⟩, fun _ => hM⟩)⟩
theorem evOK_new {s : St} {b o : Nat} (h : s.w.heap.size ≤ b) : evOK s (wrEv b o) := ⟨rfl, rfl, .inl h⟩

end
end Go.AM

/- Types; boxes: a new one, reading, writing; fields. -/
namespace Go.AM

structure TI where
  size : Nat
  bytes : Nat
  agg : Bool
  desc : TypeDesc
  zero : List C
  eq : List TypeDesc := []

/-- Are two cells alike? -/
def eqCell : TypeDesc → Value → Value → Option Bool
  | .int _, .int k a, .int k' b => if k = k' then some (a == b) else none
  | .string, .string a, .string b => some (a.toList == b.toList)
  | .bool, .bool a, .bool b => some (a == b)
  | _, _, _ => none

def eqCells : List TypeDesc → List Value → List Value → Option Bool
  | [], [], [] => some true
  | d :: ds, v :: vs, w :: ws => match eqCell d v w with
    | some a => match eqCells ds vs ws with
      | some b => some (a && b)
      | none => none
    | none => none
  | _, _, _ => none

def isAggD : TypeDesc → Bool
  | .struct _ | .array _ _ => true
  | _ => false

structure TGood (P : Program) (t : TypeId) (i : TI) : Prop where
  und : P.underlying t = some i.desc
  agg : isAggD i.desc = i.agg
  info : ∃ inf z, P.info? t = some inf ∧ inf.size = i.size ∧ inf.bytes = i.bytes ∧ inf.zero = some z ∧ z.cells.toList.map absC = i.zero.map some ∧ (∃ cs, z = if i.agg then .agg cs else z) ∧ i.zero.length = i.size
  eqs : i.eq ≠ [] → P.eqGuardType P.depth t = false ∧ ∀ (w : World) (vs ws : List Value) (b : Bool), eqCells i.eq vs ws = some b → (Op.equal t (.agg vs.toArray) (.agg ws.toArray)).run P w = .ok b w ∧ ∀ es, (Op.equal t (.agg vs.toArray) (.agg ws.toArray)).events P w es = es

def lookT : List (Nat × TI) → Nat → Option TI
  | [], _ => none
  | (i, d) :: r, t => cond (Nat.beq i t) (some d) (lookT r t)

def TOK (P : Program) (T : List (Nat × TI)) : Prop := ∀ t i, lookT T t = some i → TGood P t i

section
variable {P : Program} {w : World} {t : TypeId} {i : TI}

theorem TGood.run_underlying (h : TGood P t i) : (underlying t).run P w = .ok i.desc w := by
  simp [underlying, h.und]

theorem TGood.run_isAgg (h : TGood P t i) : (isAgg t).run P w = .ok i.agg w := by
  have := h.agg
  unfold Go.isAgg
  rw [Sem.run_bind, h.run_underlying]
  cases hd : i.desc <;> rw [hd] at this <;> simp [isAggD] at this <;> simp [this]

theorem TGood.run_sizeOf (h : TGood P t i) : (sizeOf t).run P w = .ok i.size w := by
  obtain ⟨inf, z, h1, h2, _⟩ := h.info
  simp [sizeOf, typeInfo, h1, h2]

theorem RdL_of_absC {σ : List Box} {s : St} : ∀ {vs : List Value} {cs : List C}, vs.map absC = cs.map some → RdL σ s vs (cs.map A.c)
  | [], [], _ => trivial
  | [], _ :: _, h => by simp at h
  | _ :: _, [], h => by simp at h
  | v :: vs, c :: cs, h => by
    simp only [List.map_cons, List.cons.injEq] at h
    exact ⟨Rd.absC h.1, RdL_of_absC h.2⟩

theorem TGood.run_zero (h : TGood P t i) (σ : List Box) (s : St) : ∃ z, (zeroValue t).run P w = .ok z w ∧ RdL σ s z.cells.toList (i.zero.map A.c) := by
  obtain ⟨inf, z, h1, h2, h3, h4, h5, _⟩ := h.info
  exact ⟨z, by simp [zeroValue, typeInfo, h1, h4], RdL_of_absC h5⟩

end

/-- The cells of what a slot holds. -/
def cellsD : D → Option (List A)
  | .e (.one a) => some [a]
  | .e (.agg cs) => some cs
  | _ => none

theorem cellsD_ok {σ : List Box} {s : St} {v : Value} {d : D} {cs : List A} (h : cellsD d = some cs) (r : RdD σ s v d) : RdL σ s v.cells.toList cs := by
  cases d with
  | e x =>
    cases x with
    | one a =>
      cases h
      have := RdA.cell r
      cases v <;> first | exact ⟨r, trivial⟩ | cases this
    | agg c =>
      cases h
      obtain ⟨vs, rfl, hr⟩ := r
      simpa [Value.cells] using hr
  | tup xs => cases h
  | any => cases h

theorem OpJ.newVar {P : Program} {o : Oper} {η : Operand → D} {σ : List Box} {E : TypeId} {cs : List A}
    (h : ∀ s ρ, HeapOK σ s → (∀ y, RdD σ s (ρ y) (η y)) → ∃ v : Value, (execOp ρ o).run P s.w = ((do pure (.value (.pointer (some (← newVar E v))))) : Sem Next).run P s.w ∧ RdL σ s v.cells.toList cs ∧ (execOp ρ o).events P s.w #[] = #[]) :
    OpJ P o η σ (.e (.one (.ptr σ.length 0))) (σ ++ [.cells E cs]) := by
  intro s ρ hh hr
  obtain ⟨v, h1, h2, h3⟩ := h s ρ hh hr
  refine ⟨.value (.pointer (some ⟨s.w.heap.size, 0, none⟩)), s.newBox E v.cells.toList, ?_, ?_, hh.newBox h2, .newBox s E _ _, by rw [h3]; exact .nil⟩
  · rw [h1]
    simp [Go.newVar, newRow, St.newBox]
  · refine ⟨by simp, ⟨.pointer (some ⟨s.w.heap.size, 0, none⟩), [s.w.heap.size]⟩, s.w.heap.size, ?_, rfl, rfl⟩
    simp [St.newBox, ← hh.len]

theorem OpJ.alloc {P : Program} {T : List (Nat × TI)} (hT : TOK P T) {o : Oper} {η : Operand → D} {σ : List Box} {E : TypeId} (h : o.op = .alloc E) {i : TI} (hi : lookT T E = some i) :
    OpJ P o η σ (.e (.one (.ptr σ.length 0))) (σ ++ [.cells E (i.zero.map A.c)]) := by
  refine .newVar fun s ρ _ _ => ?_
  obtain ⟨z, hz, hr⟩ := (hT E i hi).run_zero (w := s.w) σ s
  exact ⟨z, by simp [execOp, h, Instr.alloc, hz], hr, by simp [execOp, h, Instr.alloc, hz, Go.newVar, newRow]⟩

theorem OpJ.box {P : Program} {o : Oper} {η : Operand → D} {σ : List Box} {E : TypeId} {x : Operand} (h : o.op = .box E x) {cs : List A} (hc : cellsD (η x) = some cs) :
    OpJ P o η σ (.e (.one (.ptr σ.length 0))) (σ ++ [.cells E cs]) :=
  .newVar fun s ρ _ hr => ⟨ρ x, by simp [execOp, h, Instr.box], cellsD_ok hc (hr x), by simp [execOp, h, Instr.box, Go.newVar, newRow]⟩

/-- The first n of a list. -/
def takeX {α : Type} : Nat → List α → Option (List α)
  | 0, _ => some []
  | n + 1, x :: xs => match takeX n xs with | some r => some (x :: r) | none => none
  | _ + 1, [] => none

theorem takeX_eq {α : Type} : ∀ {n : Nat} {l r : List α}, takeX n l = some r → r = l.take n ∧ r.length = n
  | 0, l, r, h => by cases h; simp
  | n + 1, [], r, h => by simp [takeX] at h
  | n + 1, x :: xs, r, h => by
    simp only [takeX] at h
    cases hq : takeX n xs with
    | none => simp [hq] at h
    | some q =>
      simp [hq] at h
      subst h
      obtain ⟨h1, h2⟩ := takeX_eq hq
      simp [← h1, h2]

def getX {α : Type} : Nat → List α → Option α
  | _, [] => none
  | 0, x :: _ => some x
  | n + 1, _ :: xs => getX n xs

theorem getX_eq {α : Type} : ∀ {n : Nat} {l : List α} {x : α}, getX n l = some x → l[n]? = some x
  | _, [], _, h => by simp [getX] at h
  | 0, x :: _, _, h => by simpa [getX] using h
  | n + 1, _ :: xs, _, h => by simpa using getX_eq (n := n) (l := xs) h

def dropX {α : Type} : Nat → List α → List α
  | 0, l => l
  | _ + 1, [] => []
  | n + 1, _ :: xs => dropX n xs

theorem dropX_eq {α : Type} : ∀ (n : Nat) (l : List α), dropX n l = l.drop n
  | 0, _ => by simp [dropX]
  | _ + 1, [] => by simp [dropX]
  | n + 1, _ :: xs => by simp [dropX, dropX_eq n xs]

/-- The value of a variable of a type out of its cells. -/
def valE (i : TI) (cs : List A) : Option E1 :=
  match i.agg with
  | true => match takeX i.size cs with | some r => some (.agg r) | none => none
  | false => match getX 0 cs with | some a => some (.one a) | none => none

theorem run_loadVar {P : Program} {σ : List Box} {s : St} {t : TypeId} {i : TI} (hg : TGood P t i) {b off : Nat} {vs : List Value} {cs : List A} {e : E1}
    (hc : ∀ (j : Nat) (v : Value), vs[j]? = some v → s.w.cell? ⟨b, off + j, none⟩ = some v) (hr : RdL σ s vs cs) (he : valE i cs = some e) :
    ∃ v, (loadVar t ⟨b, off, none⟩).run P s.w = .ok v s.w ∧ RdE σ s v e := by
  simp only [loadVar, Sem.run_bind, hg.run_isAgg, Result.andThen_ok]
  cases ha : i.agg <;> simp only [valE, ha] at he
  · cases hq : getX 0 cs with
    | none => simp [hq] at he
    | some a =>
      simp [hq] at he
      subst he
      obtain ⟨v, hv, hra⟩ := hr.get (getX_eq hq)
      refine ⟨v, ?_, hra⟩
      have := hc 0 v hv
      simp at this
      simp [run_load, this]
  · cases hq : takeX i.size cs with
    | none => simp [hq] at he
    | some r =>
      simp [hq] at he
      subst he
      obtain ⟨h1, h2⟩ := takeX_eq hq
      have hr' := hr.take i.size
      rw [← h1] at hr'
      have hl : (vs.take i.size).length = i.size := by rw [hr'.length, h2]
      have hld := run_loadCells_list (P := P) s.w ⟨b, off, none⟩ (vs.take i.size) (fun j v hj => by
        rw [add_addr]
        refine hc j v ?_
        rw [List.getElem?_take] at hj
        split at hj
        · exact hj
        · cases hj)
      rw [hl] at hld
      refine ⟨.agg (vs.take i.size).toArray, ?_, vs.take i.size, rfl, hr'⟩
      simp [hg.run_sizeOf, hld]

theorem ev_loadVar {P : Program} {w : World} {t : TypeId} {i : TI} (hg : TGood P t i) {b off n : Nat} (hc : ∀ j, j < n → ∃ v, w.cell? ⟨b, off + j, none⟩ = some v) (hn : (if i.agg then i.size else 1) ≤ n) :
    ∀ e ∈ (loadVar t ⟨b, off, none⟩).events P w #[], ∃ j, j < n ∧ e = rdEv b (off + j) := by
  intro e he
  simp only [loadVar, Sem.events_bind, hg.run_isAgg, Result.evThen_ok, events_isAgg] at he
  cases ha : i.agg
  · rw [ha] at hn he
    obtain ⟨v, hv⟩ := hc 0 (by simp at hn; omega)
    simp only [Nat.add_zero] at hv
    simp only [Bool.false_eq_true, if_false, ev_load hv] at he
    rcases Array.mem_push.1 he with h | rfl
    · simp at h
    · exact ⟨0, by simp at hn; omega, rfl⟩
  · rw [ha] at hn he
    simp only [if_true] at hn
    simp only [if_true, Sem.events_bind, hg.run_sizeOf, Result.evThen_ok, events_sizeOf] at he
    have key : ∀ e ∈ (loadCells ⟨b, off, none⟩ i.size).events P w #[], ∃ j, j < n ∧ e = rdEv b (off + j) := by
      intro e he
      rcases ev_loadCells (P := P) (fun j hj => hc j (by omega)) e he with h | ⟨j, hj, rfl⟩
      · simp at h
      · exact ⟨j, by omega, rfl⟩
    apply key
    generalize (loadCells ⟨b, off, none⟩ i.size).run P w = r at he
    cases r with
    | ok v w' => simpa using he
    | halt x w' => simpa using he

theorem valE_len {i : TI} {cs : List A} {e : E1} (h : valE i cs = some e) : (if i.agg then i.size else 1) ≤ cs.length := by
  unfold valE at h
  cases ha : i.agg <;> rw [ha] at h
  · cases cs with
    | nil => simp [getX] at h
    | cons c cs => simp
  · simp only at h
    cases hq : takeX i.size cs with
    | none => simp [hq] at h
    | some r =>
      obtain ⟨h1, h2⟩ := takeX_eq hq
      rw [h1, List.length_take] at h2
      simp only [if_true]; omega

/-- A box is read. -/
theorem OpJ.loadBox {P : Program} {T : List (Nat × TI)} (hT : TOK P T) {o : Oper} {η : Operand → D} {σ : List Box} {t : TypeId} {x : Operand} (h : o.op = .load t x) {l off : Nat} {E : TypeId} {cs : List A} {i : TI} {e : E1}
    (hx : η x = .e (.one (.ptr l off))) (hB : σ[l]? = some (.cells E cs)) (hi : lookT T t = some i) (he : valE i (dropX off cs) = some e) : OpJ P o η σ (.e e) σ := by
  refine .quietE fun s ρ hh hr => ?_
  have h1 := hr x
  rw [hx] at h1
  obtain ⟨_, L, b, hL, hLv, hv⟩ := h1
  obtain ⟨b', vs, rfl, hw, hvs, _⟩ := hh.box l _ L hB hL
  simp at hLv
  subst hLv
  rw [dropX_eq] at he
  obtain ⟨v, hv1, hv2⟩ := run_loadVar (s := s) (σ := σ) (P := P) (hT t i hi) (b := b') (off := off) (vs := vs.drop off) (cs := cs.drop off) (e := e) (fun j v hj => by
    simp only [World.cell?, hw]
    simpa using hj) (hvs.drop off) he
  refine ⟨v, by simp [execOp, h, hv, Instr.loadAt, Instr.sureAddr, hv1], hv2, fun ev hev => ?_⟩
  have hev' : ev ∈ (loadVar t ⟨b', off, none⟩).events P s.w #[] := by
    have e : execOp ρ o = (do pure (.value (← loadVar t ⟨b', off, none⟩))) := by simp [execOp, h, hv, Instr.loadAt, Instr.sureAddr]
    rw [e] at hev
    simpa [hv1] using hev
  have hlen : (vs.drop off).length = (cs.drop off).length := (hvs.drop off).length
  obtain ⟨j, hj, rfl⟩ := ev_loadVar (hT t i hi) (n := (vs.drop off).length) (fun j hj => by
    refine ⟨(vs.drop off)[j], ?_⟩
    simp only [World.cell?, hw]
    simp at hj ⊢ <;> omega) (by rw [hlen]; exact valE_len he) ev hev'
  exact evOK_own (List.mem_of_getElem? hL) (by simp)

/-- What is committed is read. -/
theorem OpJ.loadRp {P : Program} {T : List (Nat × TI)} (hT : TOK P T) {o : Oper} {η : Operand → D} {σ : List Box} {t : TypeId} {x : Operand} (h : o.op = .load t x) {cs : List C} {i : TI} {e : E1}
    (hx : η x = .e (.one (.c (.rp cs)))) (hi : lookT T t = some i) (he : valE i (cs.map A.c) = some e) : OpJ P o η σ (.e e) σ := by
  refine .quietE fun s ρ hh hr => ?_
  have h1 := hr x
  rw [hx] at h1
  have h2 := rdC h1
  generalize hvx : ρ x = vx at h2
  cases h2
  rename_i b off f hm hr'
  have hrl : ∀ (n : Nat) (ds : List C), (∀ j c, ds[j]? = some c → Rd s.M (f (n + j)) c) → RdL σ s ((List.range ds.length).map fun j => f (n + j)) (ds.map A.c) := by
    intro n ds
    induction ds generalizing n with
    | nil => intro _; trivial
    | cons d ds ih =>
      intro hd
      rw [List.length_cons, List.range_succ_eq_map]
      refine ⟨hd 0 d rfl, ?_⟩
      have := ih (n + 1) (fun j c hj => by have := hd (j + 1) c (by simpa using hj); rwa [show n + 1 + j = n + (j + 1) by omega])
      simpa [Function.comp_def, Nat.add_assoc, Nat.add_comm 1] using this
  obtain ⟨v, hv1, hv2⟩ := run_loadVar (s := s) (σ := σ) (P := P) (hT t i hi) (b := b) (off := off) (vs := (List.range cs.length).map fun j => f (0 + j)) (cs := cs.map A.c) (e := e) (fun j v hj => by
    simp only [List.getElem?_map, Nat.zero_add] at hj
    by_cases hlt : j < cs.length
    · simp [hlt] at hj
      subst hj
      exact hh.mem _ _ _ (hm j cs[j] (List.getElem?_eq_getElem hlt))
    · simp [hlt] at hj) (hrl 0 cs (by simpa using hr')) he
  refine ⟨v, by simp [execOp, h, hvx, Instr.loadAt, Instr.sureAddr, hv1], hv2, fun ev hev => ?_⟩
  have hev' : ev ∈ (loadVar t ⟨b, off, none⟩).events P s.w #[] := by
    have e : execOp ρ o = (do pure (.value (← loadVar t ⟨b, off, none⟩))) := by simp [execOp, h, hvx, Instr.loadAt, Instr.sureAddr]
    rw [e] at hev
    simpa [hv1] using hev
  obtain ⟨j, hj, rfl⟩ := ev_loadVar (hT t i hi) (n := cs.length) (fun j hj => ⟨f j, hh.mem _ _ _ (hm j cs[j] (List.getElem?_eq_getElem hj))⟩) (by have := valE_len he; simpa using this) ev hev'
  exact evOK_mem (hm j cs[j] (List.getElem?_eq_getElem hj))

end Go.AM

/- A box is written; fields; structs are built; strings are indexed. -/
namespace Go.AM

/-- 'new' laid over 'l' from place off on; none: it does not fit. -/
def splice {α : Type} : Nat → List α → List α → Option (List α)
  | 0, [], l => some l
  | 0, n :: ns, _ :: cs => match splice 0 ns cs with | some r => some (n :: r) | none => none
  | k + 1, ns, c :: cs => match splice k ns cs with | some r => some (c :: r) | none => none
  | _, _, [] => none

theorem splice_eq {α : Type} : ∀ {off : Nat} {new l r : List α}, splice off new l = some r → off + new.length ≤ l.length ∧ r = l.take off ++ new ++ l.drop (off + new.length)
  | 0, [], l, r, h => by cases l <;> cases h <;> simp
  | 0, n :: ns, c :: cs, r, h => by
    simp only [splice] at h
    cases hq : splice 0 ns cs with
    | none => simp [hq] at h
    | some q =>
      simp [hq] at h
      subst h
      obtain ⟨h1, h2⟩ := splice_eq hq
      refine ⟨by simp at h1 ⊢; omega, ?_⟩
      simp at h2
      simp [h2]
  | 0, n :: ns, [], r, h => by simp [splice] at h
  | k + 1, ns, c :: cs, r, h => by
    simp only [splice] at h
    cases hq : splice k ns cs with
    | none => simp [hq] at h
    | some q =>
      simp [hq] at h
      subst h
      obtain ⟨h1, h2⟩ := splice_eq hq
      refine ⟨by simp; omega, ?_⟩
      rw [show k + 1 + ns.length = (k + ns.length) + 1 by omega]
      simp [h2]
  | k + 1, ns, [], r, h => by simp [splice] at h

theorem RdL.splice {σ : List Box} {s : St} {off : Nat} {vs new : List Value} {cs cnew r : List A} (h : AM.splice off cnew cs = some r) (h1 : RdL σ s vs cs) (h2 : RdL σ s new cnew) :
    off + new.length ≤ vs.length ∧ RdL σ s (vs.take off ++ new ++ vs.drop (off + new.length)) r := by
  obtain ⟨k1, rfl⟩ := splice_eq h
  rw [h2.length, h1.length]
  refine ⟨k1, ((h1.take off).append h2).append (by have := h1.drop (off + cnew.length); exact this)⟩

theorem OpJ.store {P : Program} {T : List (Nat × TI)} (hT : TOK P T) {o : Oper} {η : Operand → D} {σ : List Box} {t : TypeId} {x y : Operand} (h : o.op = .store t x y) {l off : Nat} {E : TypeId} {cs new cs' : List A} {i : TI}
    (hx : η x = .e (.one (.ptr l off))) (hB : σ[l]? = some (.cells E cs)) (hi : lookT T t = some i) (hy : cellsD (η y) = some new) (hn : new.length = i.size) (he : splice off new cs = some cs') :
    OpJ P o η σ .any (σ.set l (.cells E cs')) := by
  intro s ρ hh hr
  have h1 := hr x
  rw [hx] at h1
  obtain ⟨_, L, b, hL, hLv, hv⟩ := h1
  obtain ⟨b', vs, rfl, hw, hvs, hMno⟩ := hh.box l _ L hB hL
  simp at hLv
  subst hLv
  have hy' := cellsD_ok hy (hr y)
  obtain ⟨k1, k2⟩ := RdL.splice he hvs hy'
  obtain ⟨w1, w2⟩ := hh.write hB hL rfl k2
  refine ⟨.skip, _, ?_, rfl, w1, w2, ?_⟩
  rotate_left
  · intro ev hev
    have hsz : (ρ y).cells.size = i.size := by rw [← hn, ← hy'.length, Array.length_toList]
    have e : execOp ρ o = (do storeVar t ⟨b', off, none⟩ (ρ y); pure .skip) := by simp [execOp, h, hv, Instr.storeAt, Instr.sureAddr]
    rw [e] at hev
    have hev' : ev ∈ (storeCells ⟨b', off, none⟩ (ρ y).cells.toList).events P s.w #[] := by
      simp only [storeVar, Sem.events_bind, (hT t i hi).run_sizeOf, hsz, Result.evThen_ok, events_sizeOf, ne_eq, not_true_eq_false, if_false, Sem.run_bind, Result.andThen_ok, Sem.events_pure] at hev
      generalize (storeCells ⟨b', off, none⟩ (ρ y).cells.toList).run P s.w = r at hev
      cases r with
      | ok v w' => simpa using hev
      | halt x w' => simpa using hev
    rcases ev_storeCells (ρ y).cells.toList 0 vs.toArray s.w #[] hw (by simpa using k1) hy'.cell ev hev' with hh0 | ⟨j, _, _, rfl⟩
    · simp at hh0
    · exact evOK_wr (List.mem_of_getElem? hL) (by simp) (hMno _)
  have hst := run_storeCells_at P b' off E (ρ y).cells.toList 0 vs.toArray s.w hw (by simpa using k1) (hy'.cell)
  have hsz : (ρ y).cells.size = i.size := by rw [← hn, ← hy'.length, Array.length_toList]
  simp only [Nat.add_zero] at hst
  simp [execOp, h, hv, Instr.storeAt, Instr.sureAddr, storeVar, (hT t i hi).run_sizeOf, hsz, hst]

/-- Where a field lies. -/
def fieldE (T : List (Nat × TI)) (t : TypeId) (f : Nat) : Option (Nat × TI) :=
  match lookT T t with
  | some i => match i.desc with
    | .struct fs => match getX f fs.toList with
      | some fl => match lookT T fl.type with
        | some j => cond (Nat.beq j.size 0) none (some (fl.offset, j))
        | none => none
      | none => none
    | _ => none
  | none => none

theorem fieldE_ok {P : Program} {T : List (Nat × TI)} (hT : TOK P T) {t : TypeId} {f off : Nat} {j : TI} (h : fieldE T t f = some (off, j)) :
    ∃ i fs fl, lookT T t = some i ∧ i.desc = .struct fs ∧ fs[f]? = some fl ∧ fl.offset = off ∧ lookT T fl.type = some j ∧ j.size ≠ 0 ∧ TGood P t i ∧ TGood P fl.type j := by
  unfold fieldE at h
  split at h
  · rename_i i hi
    split at h
    · rename_i fs hfs
      split at h
      · rename_i fl hfl
        split at h
        · rename_i j' hj
          cases hb : Nat.beq j'.size 0 <;> simp [hb] at h
          obtain ⟨rfl, rfl⟩ := h
          refine ⟨i, fs, fl, hi, hfs, by simpa using getX_eq hfl, rfl, hj, ?_, hT _ _ hi, hT _ _ hj⟩
          intro e
          rw [e] at hb
          cases hb
        · cases h
      · cases h
    · cases h
  · cases h

theorem run_fieldAt {P : Program} {T : List (Nat × TI)} (hT : TOK P T) {t : TypeId} {f off : Nat} {j : TI} (h : fieldE T t f = some (off, j)) (b o : Nat) (w : World) :
    (Instr.fieldAt t (.pointer (some ⟨b, o, none⟩)) f).run P w = .ok (.pointer (some ⟨b, o + off, none⟩)) w := by
  obtain ⟨i, fs, fl, h1, h2, h3, h4, h5, h6, g1, g2⟩ := fieldE_ok hT h
  simp [Instr.fieldAt, g1.run_underlying, h2, h3, Instr.sureAddr, fieldPlace, g2.run_sizeOf, h6, add_addr, h4]

theorem ev_fieldAt {P : Program} {T : List (Nat × TI)} (hT : TOK P T) {t : TypeId} {f off : Nat} {j : TI} (h : fieldE T t f = some (off, j)) (b o : Nat) (w : World) (es : Array Event) :
    (Instr.fieldAt t (.pointer (some ⟨b, o, none⟩)) f).events P w es = es := by
  obtain ⟨i, fs, fl, h1, h2, h3, h4, h5, h6, g1, g2⟩ := fieldE_ok hT h
  simp [Instr.fieldAt, g1.run_underlying, h2, h3, Instr.sureAddr, fieldPlace, g2.run_sizeOf, h6]

theorem OpJ.fieldAddrBox {P : Program} {T : List (Nat × TI)} (hT : TOK P T) {o : Oper} {η : Operand → D} {σ : List Box} {t : TypeId} {x : Operand} {f : Nat} (h : o.op = .fieldAddr t x f) {l off k : Nat} {j : TI}
    (hx : η x = .e (.one (.ptr l off))) (hf : fieldE T t f = some (k, j)) : OpJ P o η σ (.e (.one (.ptr l (off + k)))) σ := by
  refine .quiet fun s ρ hh hr => ?_
  have h1 := hr x
  rw [hx] at h1
  obtain ⟨hn, L, b, hL, hLv, hv⟩ := h1
  exact ⟨.pointer (some ⟨b, off + k, none⟩), by simp [execOp, h, hv, run_fieldAt hT hf], ⟨hn, L, b, hL, hLv, rfl⟩, by simp [execOp, h, hv, ev_fieldAt hT hf]⟩

theorem OpJ.fieldAddrRp {P : Program} {T : List (Nat × TI)} (hT : TOK P T) {o : Oper} {η : Operand → D} {σ : List Box} {t : TypeId} {x : Operand} {f : Nat} (h : o.op = .fieldAddr t x f) {cs : List C} {k : Nat} {j : TI}
    (hx : η x = .e (.one (.c (.rp cs)))) (hf : fieldE T t f = some (k, j)) : OpJ P o η σ (.e (.one (.c (.rp (dropX k cs))))) σ := by
  refine .quiet fun s ρ hh hr => ?_
  have h1 := hr x
  rw [hx] at h1
  have h2 := rdC h1
  generalize hvx : ρ x = vx at h2
  cases h2
  rename_i b o f' hm hr'
  refine ⟨.pointer (some ⟨b, o + k, none⟩), by simp [execOp, h, hvx, run_fieldAt hT hf], ?_, by simp [execOp, h, hvx, ev_fieldAt hT hf]⟩
  rw [dropX_eq]
  refine Rd.rp b (o + k) (fun j => f' (k + j)) (fun j c hj => ?_) (fun j c hj => ?_)
  · rw [show o + k + j = o + (k + j) by omega]; exact hm (k + j) c (by simpa using hj)
  · exact hr' (k + j) c (by simpa using hj)

theorem RdL_toE1 {σ : List Box} {s : St} {P : Program} {t : TypeId} {i : TI} (g : TGood P t i) {vs : List Value} {cs : List A} (r : RdL σ s vs cs) {off : Nat} {e : E1} (he : valE i (dropX off cs) = some e) (w : World) :
    ∃ v, (part t vs.toArray off).run P w = .ok v w ∧ RdE σ s v e ∧ ∀ es, (part t vs.toArray off).events P w es = es := by
  simp only [part, Sem.run_bind, g.run_isAgg, Result.andThen_ok, Sem.events_bind, Result.evThen_ok, events_isAgg]
  rw [dropX_eq] at he
  cases ha : i.agg <;> simp only [valE, ha] at he
  · cases hq : getX 0 (cs.drop off) with
    | none => simp [hq] at he
    | some a =>
      simp [hq] at he
      subst he
      obtain ⟨v, hv, hra⟩ := (r.drop off).get (getX_eq hq)
      simp at hv
      refine ⟨v, ?_, hra, fun es => ?_⟩ <;> simp [hv]
  · cases hq : takeX i.size (cs.drop off) with
    | none => simp [hq] at he
    | some q =>
      simp [hq] at he
      subst he
      obtain ⟨h1, h2⟩ := takeX_eq hq
      have hr' := (r.drop off).take i.size
      rw [← h1] at hr'
      refine ⟨.agg (vs.toArray.extract off (off + i.size)), by simp [g.run_sizeOf], ⟨(vs.drop off).take i.size, ?_, hr'⟩, fun es => by simp⟩
      simp

theorem OpJ.field {P : Program} {T : List (Nat × TI)} (hT : TOK P T) {o : Oper} {η : Operand → D} {σ : List Box} {t : TypeId} {x : Operand} {f : Nat} (h : o.op = .field t x f) {cs : List A} {k : Nat} {j : TI} {e : E1}
    (hx : η x = .e (.agg cs)) (hf : fieldE T t f = some (k, j)) (he : valE j (dropX k cs) = some e) : OpJ P o η σ (.e e) σ := by
  refine .quiet fun s ρ hh hr => ?_
  have h1 := hr x
  rw [hx] at h1
  obtain ⟨vs, hv, hr'⟩ := h1
  obtain ⟨i, fs, fl, h1, h2, h3, h4, h5, h6, g1, g2⟩ := fieldE_ok hT hf
  obtain ⟨v, hv1, hv2, hv3⟩ := RdL_toE1 g2 hr' he s.w
  exact ⟨v, by simp [execOp, h, hv, Instr.field, g1.run_underlying, h2, h3, asAgg, h4, hv1], hv2, by simp [execOp, h, hv, Instr.field, g1.run_underlying, h2, h3, asAgg, h4, hv3]⟩

theorem OpJ.nilCheckBox {P : Program} {o : Oper} {η : Operand → D} {σ : List Box} {x : Operand} (h : o.op = .nilCheck x) {l off : Nat} (hx : η x = .e (.one (.ptr l off))) : OpJ P o η σ (.e (.one (.ptr l off))) σ := by
  refine .quiet fun s ρ hh hr => ?_
  have h1 := hr x
  rw [hx] at h1
  have h1' := h1
  obtain ⟨hn, L, b, hL, hLv, hv⟩ := h1
  exact ⟨ρ x, by simp [execOp, h, hv], h1', by simp [execOp, h, hv]⟩

theorem OpJ.nilCheckRp {P : Program} {o : Oper} {η : Operand → D} {σ : List Box} {x : Operand} (h : o.op = .nilCheck x) {cs : List C} (hx : η x = .e (.one (.c (.rp cs)))) : OpJ P o η σ (.e (.one (.c (.rp cs)))) σ := by
  refine .quiet fun s ρ hh hr => ?_
  have h1 := hr x
  rw [hx] at h1
  have h2 := rdC h1
  generalize hvx : ρ x = vx at h2
  cases h2
  exact ⟨_, by simp [execOp, h, hvx]; rfl, by rw [← hvx]; exact h1, by simp [execOp, h, hvx]⟩

/-! ### Structs are built -/

theorem foldl_set (new : List Value) : ∀ (j off : Nat) (cs : Array Value), off + j + new.length ≤ cs.size →
    ((new.zipIdx j).foldl (fun cs (x : Value × Nat) => cs.setIfInBounds (off + x.2) x.1) cs).toList = cs.toList.take (off + j) ++ new ++ cs.toList.drop (off + j + new.length) := by
  induction new with
  | nil => intro j off cs _; simp
  | cons v vs ih =>
    intro j off cs h
    simp only [List.zipIdx_cons, List.foldl_cons]
    rw [ih (j + 1) off _ (by simp at h ⊢; omega)]
    have := list_seg_step cs.toList (off + j) v vs (by simp at h ⊢; omega)
    simpa [Array.toList_setIfInBounds, Nat.add_assoc] using this

def fillE (place : Nat → Option (Nat × Nat)) : List (Nat × List A) → List A → Option (List A)
  | [], cs => some cs
  | (i, new) :: rest, cs => match place i with
    | some (off, size) => match Nat.beq new.length size with
      | true => match splice off new cs with
        | some r => fillE place rest r
        | none => none
      | false => none
    | none => none

theorem fillE_ok {σ : List Box} {s : St} {place place' : Nat → Option (Nat × Nat)} (hp : ∀ i p, place i = some p → place' i = some p) : ∀ {parts : List (Nat × List A)} {vparts : List (Nat × Value)} {cs r : List A} {vs : Array Value},
    fillE place parts cs = some r → vparts.map (·.1) = parts.map (·.1) → (∀ (k : Nat) (p : Nat × List A) (q : Nat × Value), parts[k]? = some p → vparts[k]? = some q → RdL σ s q.2.cells.toList p.2) → RdL σ s vs.toList cs →
    ∃ us, Instr.fill place' vs vparts = some us ∧ RdL σ s us.toList r
  | [], [], cs, r, vs, h, _, _, hr => by cases h; exact ⟨vs, rfl, hr⟩
  | [], _ :: _, cs, r, vs, h, hm, _, hr => by simp at hm
  | _ :: _, [], cs, r, vs, h, hm, _, hr => by simp at hm
  | (i, new) :: rest, (i', v) :: vrest, cs, r, vs, h, hm, hk, hr => by
    simp only [List.map_cons, List.cons.injEq] at hm
    obtain ⟨rfl, hm⟩ := hm
    simp only [fillE] at h
    cases hpl : place i' with
    | none => simp [hpl] at h
    | some p =>
      obtain ⟨off, size⟩ := p
      simp only [hpl] at h
      cases hb : Nat.beq new.length size with
      | false => simp [hb] at h
      | true =>
        simp only [hb] at h
        cases hs : splice off new cs with
        | none => simp [hs] at h
        | some q =>
          simp only [hs] at h
          have hv := hk 0 (i', new) (i', v) rfl rfl
          simp only at hv
          have hl := hv.length
          have hlen : new.length = size := Nat.eq_of_beq_eq_true hb
          obtain ⟨k1, k2⟩ := RdL.splice hs hr hv
          have hf := foldl_set v.cells.toList 0 off vs (by simpa using k1)
          have hsz : v.cells.size = size := by rw [← hlen, ← hl, Array.length_toList]
          have hk1 : off + size ≤ vs.size := by simpa [hsz] using k1
          obtain ⟨us, h1, h2⟩ := fillE_ok (σ := σ) (s := s) hp (parts := rest) (vparts := vrest) (cs := q) (r := r)
            (vs := v.cells.zipIdx.foldl (fun cs (x : Value × Nat) => cs.setIfInBounds (off + x.2) x.1) vs) h hm (fun k p q h1 h2 => hk (k + 1) p q (by simpa using h1) (by simpa using h2)) (by
              have e : (v.cells.zipIdx.foldl (fun cs (x : Value × Nat) => cs.setIfInBounds (off + x.2) x.1) vs).toList = ((v.cells.toList.zipIdx 0).foldl (fun cs (x : Value × Nat) => cs.setIfInBounds (off + x.2) x.1) vs).toList := by
                rw [← Array.foldl_toList, Array.toList_zipIdx]
              rw [e, hf]
              simpa using k2)
          refine ⟨us, ?_, h2⟩
          simp only [Instr.fill, hp _ _ hpl, hsz, ne_eq, not_true_eq_false, decide_false, Bool.false_or, decide_eq_true_eq]
          rw [if_neg (by simp; omega)]
          exact h1

/-- The places of a struct's fields. -/
def placesE (T : List (Nat × TI)) : List Field → Option (List (Nat × Nat))
  | [] => some []
  | f :: fs => match lookT T f.type with
    | some j => match placesE T fs with
      | some r => some ((f.offset, j.size) :: r)
      | none => none
    | none => none

theorem placesE_ok {P : Program} {T : List (Nat × TI)} (hT : TOK P T) : ∀ {fs : List Field} {r : List (Nat × Nat)}, placesE T fs = some r → fs.mapM (fun f => (P.info? f.type).map fun i => (f.offset, i.size)) = some r
  | [], r, h => by cases h; simp
  | f :: fs, r, h => by
    simp only [placesE] at h
    cases hj : lookT T f.type with
    | none => simp [hj] at h
    | some j =>
      cases hq : placesE T fs with
      | none => simp [hj, hq] at h
      | some q =>
        simp [hj, hq] at h
        subst h
        obtain ⟨inf, z, h1, h2, _⟩ := (hT _ _ hj).info
        simp [List.mapM_cons, h1, h2, placesE_ok hT hq]

def partsE (η : Operand → D) : List (Nat × Operand) → Option (List (Nat × List A))
  | [] => some []
  | (i, x) :: r => match cellsD (η x) with
    | some cs => match partsE η r with
      | some q => some ((i, cs) :: q)
      | none => none
    | none => none

theorem partsE_ok {σ : List Box} {s : St} {ρ : Operand → Value} {η : Operand → D} (hr : ∀ y, RdD σ s (ρ y) (η y)) : ∀ {l : List (Nat × Operand)} {q : List (Nat × List A)}, partsE η l = some q →
    (l.map fun (i, x) => (i, ρ x)).map (·.1) = q.map (·.1) ∧ ∀ (k : Nat) (p : Nat × List A) (u : Nat × Value), q[k]? = some p → (l.map fun (i, x) => (i, ρ x))[k]? = some u → RdL σ s u.2.cells.toList p.2
  | [], q, h => by cases h; simp
  | (i, x) :: r, q, h => by
    simp only [partsE] at h
    cases hc : cellsD (η x) with
    | none => simp [hc] at h
    | some cs =>
      cases hq : partsE η r with
      | none => simp [hc, hq] at h
      | some q' =>
        simp [hc, hq] at h
        subst h
        obtain ⟨h1, h2⟩ := partsE_ok hr hq
        refine ⟨by simpa using h1, fun k p u hp hu => ?_⟩
        cases k with
        | zero => simp at hp hu; subst hp hu; exact cellsD_ok hc (hr x)
        | succ k => exact h2 k p u (by simpa using hp) (by simpa using hu)

def buildE (T : List (Nat × TI)) (η : Operand → D) (t : TypeId) (parts : List (Nat × Operand)) : Option (List A) :=
  match lookT T t with
  | some i => match i.desc with
    | .struct fs => match placesE T fs.toList with
      | some pl => match partsE η parts with
        | some ps => fillE (fun k => getX k pl) ps (i.zero.map A.c)
        | none => none
      | none => none
    | _ => none
  | none => none

theorem OpJ.build {P : Program} {T : List (Nat × TI)} (hT : TOK P T) {o : Oper} {η : Operand → D} {σ : List Box} {t : TypeId} {parts : Array (Nat × Operand)} (h : o.op = .build t parts) {cs : List A}
    (he : buildE T η t parts.toList = some cs) : OpJ P o η σ (.e (.agg cs)) σ := by
  refine .quiet fun s ρ hh hr => ?_
  unfold buildE at he
  cases hi : lookT T t with
  | none => simp [hi] at he
  | some i =>
    simp only [hi] at he
    cases hd : i.desc with
    | struct fs =>
      simp only [hd] at he
      cases hpl : placesE T fs.toList with
      | none => simp [hpl] at he
      | some pl =>
        simp only [hpl] at he
        cases hps : partsE η parts.toList with
        | none => simp [hps] at he
        | some ps =>
          simp only [hps] at he
          obtain ⟨inf, z, z1, z2, z3, z4, z5, z6, z7⟩ := (hT t i hi).info
          obtain ⟨p1, p2⟩ := partsE_ok (σ := σ) (s := s) hr hps
          obtain ⟨us, u1, u2⟩ := fillE_ok (σ := σ) (s := s) (place' := fun k => pl.toArray[k]?) (fun k p hk => by simpa using getX_eq hk) he p1 p2 (RdL_of_absC z5)
          have hb : P.built t (parts.map fun (i, x) => (i, ρ x)).toList = some us := by
            unfold Program.built
            have hund := (hT t i hi).und
            rw [hd] at hund
            simp only [z1, hund, z4, placesE_ok hT hpl]
            simpa using u1
          refine ⟨.agg us, ?_, ⟨us.toList, by simp, u2⟩, ?_⟩
          · simp only [execOp, h, Sem.run_bind, run_build s.w t _ us hb, Result.andThen_ok, Sem.run_pure]
          · simp only [execOp, h, Sem.events_bind, run_build s.w t _ us hb, Result.evThen_ok, Sem.events_pure]
            exact Still.build s.w #[]
    | _ => simp [hd] at he

end Go.AM

/- Slices: the cells under one, and a slice out of cells. -/
namespace Go.AM

theorem idx_lt {k n i j : Nat} (hi : i < n) (hj : j < k) : i * k + j < n * k := by
  have h1 : (i + 1) * k ≤ n * k := Nat.mul_le_mul_right k (by omega)
  rw [Nat.add_mul] at h1
  omega

theorem idx_div {k i j : Nat} (hj : j < k) : (i * k + j) / k = i := by
  rw [Nat.mul_comm, Nat.mul_add_div (by omega), Nat.div_eq_of_lt hj]; omega

theorem idx_mod {k i j : Nat} (hj : j < k) : (i * k + j) % k = j := by
  rw [Nat.mul_comm, Nat.mul_add_mod, Nat.mod_eq_of_lt hj]

/-- The cells vs are those of n elements, k cells each. -/
structure Flat (M : Mem) (k n : Nat) (es : Nat → List C) (vs : List Value) : Prop where
  len : vs.length = n * k
  width : ∀ i, i < n → (es i).length = k
  rd : ∀ i, i < n → ∀ (j : Nat) (c : C), (es i)[j]? = some c → ∃ v, vs[i * k + j]? = some v ∧ Rd M v c

theorem Flat.mono {M M' : Mem} (hM : ∀ b o v, M b o = some v → M' b o = some v) {k n : Nat} {es : Nat → List C} {vs : List Value} (h : Flat M k n es vs) : Flat M' k n es vs :=
  ⟨h.len, h.width, fun i hi j c hj => let ⟨v, h1, h2⟩ := h.rd i hi j c hj; ⟨v, h1, h2.mono hM⟩⟩

theorem Flat.nil {M : Mem} {k : Nat} {es : Nat → List C} : Flat M k 0 es [] := ⟨by simp, by omega, by omega⟩

/-- The elements of one behind those of another. -/
def appF (n : Nat) (f g : Nat → List C) : Nat → List C := fun i => if i < n then f i else g (i - n)

theorem Flat.append {M : Mem} {k n m : Nat} {es es' : Nat → List C} {vs vs' : List Value} (h : Flat M k n es vs) (h' : Flat M k m es' vs') : Flat M k (n + m) (appF n es es') (vs ++ vs') := by
  refine ⟨by simp [h.len, h'.len, Nat.add_mul], fun i hi => ?_, fun i hi j c hj => ?_⟩
  · simp only [appF]
    split
    · rename_i hlt; exact h.width i hlt
    · exact h'.width _ (by omega)
  · simp only [appF] at hj
    split at hj
    · rename_i hlt
      obtain ⟨v, h1, h2⟩ := h.rd i hlt j c hj
      refine ⟨v, ?_, h2⟩
      rw [List.getElem?_append_left]
      · exact h1
      · exact (List.getElem?_eq_some_iff.1 h1).1
    · rename_i hge
      obtain ⟨v, h1, h2⟩ := h'.rd _ (by omega) j c hj
      refine ⟨v, ?_, h2⟩
      have e1 : i * k + j = vs.length + ((i - n) * k + j) := by
        rw [h.len, ← Nat.add_assoc, ← Nat.add_mul, Nat.add_sub_cancel' (by omega)]
      rw [e1, List.getElem?_append_right (by omega)]
      rw [show vs.length + ((i - n) * k + j) - vs.length = (i - n) * k + j by omega]
      exact h1

theorem Flat.cell {M : Mem} {k n : Nat} {es : Nat → List C} {vs : List Value} (h : Flat M k n es vs) : ∀ v ∈ vs, v.oneCell' = true := by
  intro v hv
  obtain ⟨p, hp, rfl⟩ := List.getElem_of_mem hv
  rw [h.len] at hp
  have hk : 0 < k := by
    rcases Nat.eq_zero_or_pos k with rfl | hk
    · simp at hp
    · exact hk
  have hi : p / k < n := Nat.div_lt_of_lt_mul (by rw [Nat.mul_comm]; exact hp)
  have hj : p % k < k := Nat.mod_lt _ hk
  have hw := h.width _ hi
  obtain ⟨v, h1, h2⟩ := h.rd (p / k) hi (p % k) ((es (p / k))[p % k]'(by omega)) (List.getElem?_eq_getElem (by omega))
  have e : p / k * k + p % k = p := Nat.div_add_mod' p k
  rw [e] at h1
  rw [List.getElem?_eq_getElem (by rw [h.len]; exact hp)] at h1
  simp at h1
  rw [h1]
  have := Rd.cell h2
  cases v <;> simp_all [isCell, Value.oneCell']

/-- What a slice that is read as such a list says. -/
theorem Rd.flat {M : Mem} {v : Value} {t : Bool} {k n : Nat} {es : Nat → List C} (h : Rd M v (.sl t k n es)) :
    ∃ a cap vs, v = .slice a n cap ∧ n ≤ cap ∧ cap ≤ 9223372036854775807 ∧ (t = true → cap = n) ∧ Flat M k n es vs ∧ ∀ p u, vs[p]? = some u → ∃ b off, a = some ⟨b, off, none⟩ ∧ M b (off + p) = some u := by
  cases h with
  | @sl a _ cap _ _ _ b off f hcap hb ht hk ha hm hr =>
    refine ⟨a, cap, (List.range (n * k)).map fun p => f (p / k) (p % k), rfl, hcap, hb, ht, ⟨by simp, hk, ?_⟩, ?_⟩
    · intro i hi j c hj
      have hjl : j < k := by
        rw [← hk i hi]; exact (List.getElem?_eq_some_iff.1 hj).1
      refine ⟨f i j, ?_, hr i hi j c hj⟩
      simp [idx_lt hi hjl, idx_div hjl, idx_mod hjl]
    · intro p u hp
      simp only [List.getElem?_map] at hp
      by_cases hlt : p < n * k
      · simp [hlt] at hp
        subst hp
        have hk0 : 0 < k := by
          rcases Nat.eq_zero_or_pos k with rfl | hk
          · simp at hlt
          · exact hk
        have hi : p / k < n := Nat.div_lt_of_lt_mul (by rw [Nat.mul_comm]; exact hlt)
        have hj : p % k < k := Nat.mod_lt _ hk0
        have hw := hk _ hi
        have := hm (p / k) hi (p % k) ((es (p / k))[p % k]'(by omega)) (List.getElem?_eq_getElem (by omega))
        refine ⟨b, off, ha (Nat.lt_of_le_of_lt (Nat.zero_le _) hi), ?_⟩
        rw [show off + p = off + p / k * k + p % k by rw [Nat.add_assoc, Nat.div_add_mod' p k]]
        exact this
      · simp [hlt] at hp

/-- A slice over cells that are committed. -/
theorem Rd.ofFlat {M : Mem} {k n : Nat} {es : Nat → List C} {vs : List Value} (h : Flat M k n es vs) {a : Option Addr} {b off cap : Nat} {t : Bool} (ha : 0 < n → a = some ⟨b, off, none⟩) (hcap : n ≤ cap) (hb : cap ≤ 9223372036854775807) (ht : t = true → cap = n)
    (hm : ∀ p u, vs[p]? = some u → M b (off + p) = some u) : Rd M (.slice a n cap) (.sl t k n es) := by
  refine .sl b off (fun i j => (vs[i * k + j]?).getD undef) hcap hb ht h.width ha (fun i hi j c hj => ?_) (fun i hi j c hj => ?_)
  · obtain ⟨v, h1, h2⟩ := h.rd i hi j c hj
    rw [h1, show off + i * k + j = off + (i * k + j) by omega]
    exact hm _ _ h1
  · obtain ⟨v, h1, h2⟩ := h.rd i hi j c hj
    rw [h1]
    exact h2

/-- The cells that a slice's first elements are loaded from. -/
theorem run_firstCells {P : Program} {σ : List Box} {s : St} (hh : HeapOK σ s) {v : Value} {t : Bool} {k n : Nat} {es : Nat → List C} (h : Rd s.M v (.sl t k n es)) :
    ∃ vs, Flat s.M k n es vs ∧ (Builtin.firstCells k n v).run P s.w = .ok vs.toArray s.w ∧ Builtin.lenOf v = pure n := by
  obtain ⟨a, cap, vs, rfl, hcap, hb, ht, hF, hm⟩ := h.flat
  refine ⟨vs, hF, ?_, rfl⟩
  have hl : vs.length = n * k := hF.len
  cases a with
  | none =>
    have : vs = [] := by
      cases vs with
      | nil => rfl
      | cons u us => obtain ⟨b, off, h1, _⟩ := hm 0 u rfl; cases h1
    subst this
    rfl
  | some ad =>
    simp only [Builtin.firstCells]
    rw [← hl]
    refine run_loadCells_list s.w ad vs fun j u hj => ?_
    obtain ⟨b, off, h1, h2⟩ := hm j u hj
    cases h1
    rw [add_addr]
    exact hh.mem _ _ _ h2

end Go.AM

/- Strings and slices: index, length, cutting, a literal, append. -/
namespace Go.AM

theorem OpJ.indexStr {P : Program} {T : List (Nat × TI)} (hT : TOK P T) {o : Oper} {η : Operand → D} {σ : List Box} {t : TypeId} {x y : Operand} (h : o.op = .index t x y) {l : List UInt8} {j : Int} {k : IntKind} {i : TI} {m : Nat} (hi : lookT T t = some i) (hd : i.desc = .string)
    (hx : η x = .e (.one (.c (.str l)))) (hy : η y = .e (.one (.c (.int k j)))) (hj : j = m) (hm : m < l.length) : OpJ P o η σ (.e (.one (.c (.int .u8 (l[m]).toNat)))) σ := by
  refine .quiet fun s ρ hh hr => ?_
  have h1 := hr x
  have h2 := hr y
  rw [hx] at h1
  rw [hy] at h2
  replace h1 := rdC h1
  replace h2 := rdC h2
  generalize hvx : ρ x = vx at h1
  generalize hvy : ρ y = vy at h2
  cases h1 with
  | @str sb _ he hl =>
  cases h2
  subst he
  have hs : sb[m]? = some (sb.data.toList[m]) := by
    have hm' : m < sb.size := by have e : sb.data.toList.length = sb.size := Array.length_toList; omega
    rw [getElem?_pos sb m hm']
    congr 1
  refine ⟨.int .u8 (sb.data.toList[m]).toNat, ?_, Rd.int ?_, ?_⟩
  rotate_left 2
  · have hu := (hT t i hi).run_underlying (w := s.w)
    rw [hd] at hu
    simp [execOp, h, hvx, hvy, Instr.index, asIntOf, hu, hj, hs]
  · have hu := (hT t i hi).run_underlying (w := s.w)
    rw [hd] at hu
    simp [execOp, h, hvx, hvy, Instr.index, asIntOf, hu, hj, hs]
  · have := (sb.data.toList[m]).toNat_lt
    simp only [inR]
    omega

/-- The element that an index names, in memory that is read. -/
theorem OpJ.indexAddr {P : Program} {T : List (Nat × TI)} (hT : TOK P T) {o : Oper} {η : Operand → D} {σ : List Box} {t : TypeId} {x y : Operand} (h : o.op = .indexAddr t x y) {i ie : TI} {E : TypeId} (hi : lookT T t = some i) (hd : i.desc = .slice E) (hE : lookT T E = some ie)
    {tt : Bool} {n : Nat} {es : Nat → List C} {j : Int} {k : IntKind} {m : Nat} (hx : ∀ s v, RdD σ s v (η x) → Rd s.M v (.sl tt ie.size n es)) (hy : η y = .e (.one (.c (.int k j)))) (hj : j = m) (hml : m < n) :
    OpJ P o η σ (.e (.one (.c (.rp (es m))))) σ := by
  refine .quiet fun s ρ hh hr => ?_
  have h1 := hx s _ (hr x)
  have h2 := hr y
  rw [hy] at h2
  replace h2 := rdC h2
  generalize hvx : ρ x = vx at h1
  generalize hvy : ρ y = vy at h2
  cases h2
  cases h1 with
  | @sl a _ cap _ _ _ b off f hcap hb ht hk ha hm' hr' =>
  have hne : 0 < n := by omega
  have hu := (hT t i hi).run_underlying (w := s.w)
  rw [hd] at hu
  refine ⟨.pointer (some ⟨b, off + m * ie.size, none⟩), ?_, Rd.rp b (off + m * ie.size) (f m) (fun q c hq => hm' m hml q c hq) (fun q c hq => hr' m hml q c hq), ?_⟩ <;>
  simp [execOp, h, hvx, hvy, Instr.indexAt, asIntOf, hu, hj, ha hne, (hT E ie hE).run_sizeOf, add_addr, hml]

theorem OpJ.lenSl {P : Program} {T : List (Nat × TI)} (hT : TOK P T) {o : Oper} {η : Operand → D} {σ : List Box} {x : Operand} {ats : Array TypeId} {t : TypeId} (h : o.op = .call { callee := .builtin .len, args := #[x], argTypes := ats }) (ht : ats[0]? = some t) {i : TI} {E : TypeId} (hi : lookT T t = some i) (hd : i.desc = .slice E)
    {tt : Bool} {k n : Nat} {es : Nat → List C} (hx : ∀ s v, RdD σ s v (η x) → Rd s.M v (.sl tt k n es)) : OpJ P o η σ (.e (.one (.c (.int .i64 n)))) σ := by
  refine .quiet fun s ρ hh hr => ?_
  obtain ⟨a, cap, vs, hv, hcap, hb, _⟩ := (hx s _ (hr x)).flat
  have hu := (hT t i hi).run_underlying (w := s.w)
  rw [hd] at hu
  have ha0 : ats[0]? = some t := ht
  refine ⟨.int .i64 n, ?_, Rd.int (by simp only [inR]; omega), ?_⟩ <;>
  simp [execOp, h, resolve, invoke, builtin, Builtin.len_, hv, hu, goInt, ha0]

theorem OpJ.lenStr {P : Program} {T : List (Nat × TI)} (hT : TOK P T) {o : Oper} {η : Operand → D} {σ : List Box} {x : Operand} {ats : Array TypeId} {t : TypeId} (h : o.op = .call { callee := .builtin .len, args := #[x], argTypes := ats }) (ht : ats[0]? = some t) {i : TI} (hi : lookT T t = some i) (hd : i.desc = .string)
    {l : List UInt8} (hx : η x = .e (.one (.c (.str l)))) : OpJ P o η σ (.e (.one (.c (.int .i64 l.length)))) σ := by
  refine .quiet fun s ρ hh hr => ?_
  have h1 := hr x
  rw [hx] at h1
  replace h1 := rdC h1
  generalize hvx : ρ x = vx at h1
  cases h1 with
  | @str sb _ he hl =>
  have hu := (hT t i hi).run_underlying (w := s.w)
  rw [hd] at hu
  have ha0 : ats[0]? = some t := ht
  have hsz : sb.size = l.length := by rw [← he]; exact Array.length_toList.symm
  refine ⟨.int .i64 l.length, ?_, Rd.int (by simp only [inR]; omega), ?_⟩ <;>
  simp [execOp, h, resolve, invoke, builtin, Builtin.len_, hvx, hu, goInt, ha0, hsz]

/-! ### Rows that are committed -/

/-- A new block whose cells are handed over to what is read for ever. -/
def St.newRow (s : St) (E : TypeId) (vs : List Value) : St :=
  { β := s.β, M := fun b o => if b = s.w.heap.size then vs[o]? else s.M b o, w := s.w.alloc (.cells vs.toArray E), own := s.own }

theorem HeapOK.newRow {σ : List Box} {s : St} (h : HeapOK σ s) (E : TypeId) (vs : List Value) : HeapOK σ (s.newRow E vs) ∧ Step σ s σ (s.newRow E vs) := by
  refine h.grow (by simp) (fun b hb => heap_alloc_lt _ _ hb) (fun b hb o => by simp [show b ≠ s.w.heap.size by omega]) (fun b hb o v hm => ?_) rfl rfl rfl
  by_cases e : b = s.w.heap.size
  · subst e
    simp at hm
    show World.cell? (s.w.alloc (.cells vs.toArray E)) ⟨s.w.heap.size, o, none⟩ = some v
    unfold World.cell?
    simp only [heap_alloc_at]
    simpa using hm
  · simp only [e, if_false] at hm
    have := h.block hm
    omega

theorem newRow_at (s : St) (E : TypeId) (vs : List Value) : ∀ p u, vs[p]? = some u → (s.newRow E vs).M s.w.heap.size (0 + p) = some u := by
  intro p u h
  simpa [St.newRow] using h

/-! ### A literal slice -/

def closeX : List A → Option (List C)
  | [] => some []
  | .c c :: r => match closeX r with | some q => some (c :: q) | none => none
  | .vec _ k n es :: r => match closeX r with | some q => some (.sl false k n es :: q) | none => none
  | _ :: _ => none

theorem closeX_ok {σ : List Box} {s : St} : ∀ {cs : List A} {r : List C} {vs : List Value}, closeX cs = some r → RdL σ s vs cs → RdL σ s vs (r.map A.c)
  | [], r, vs, h, hr => by cases h; exact hr
  | _ :: _, _, [], _, hr => hr.elim
  | .c c :: al, r, v :: vs, h, hr => by
    simp only [closeX] at h
    cases hq : closeX al with
    | none => simp [hq] at h
    | some q => simp [hq] at h; subst h; exact ⟨hr.1, closeX_ok hq hr.2⟩
  | .vec l k n es :: al, r, v :: vs, h, hr => by
    simp only [closeX] at h
    cases hq : closeX al with
    | none => simp [hq] at h
    | some q => simp [hq] at h; subst h; exact ⟨hr.1.1, closeX_ok hq hr.2⟩
  | .ptr l o :: al, r, v :: vs, h, hr => by simp [closeX] at h
  | .ref l :: al, r, v :: vs, h, hr => by simp [closeX] at h
  | .any :: al, r, v :: vs, h, hr => by simp [closeX] at h

/-- n pieces of k. -/
def chunkX {α : Type} (k : Nat) : Nat → List α → Option (List (List α))
  | 0, [] => some []
  | 0, _ :: _ => none
  | n + 1, l => match takeX k l with
    | some c => match chunkX k n (dropX k l) with
      | some r => some (c :: r)
      | none => none
    | none => none

theorem RdL.closed {σ : List Box} {s : St} : ∀ {vs : List Value} {cs : List C}, RdL σ s vs (cs.map A.c) → ∀ (j : Nat) (c : C), cs[j]? = some c → ∃ v, vs[j]? = some v ∧ Rd s.M v c := by
  intro vs cs h j c hj
  obtain ⟨v, h1, h2⟩ := h.get (j := j) (a := .c c) (by simp [hj])
  exact ⟨v, h1, h2⟩

theorem chunkX_ok {M : Mem} {k : Nat} : ∀ {n : Nat} {cs : List C} {es : List (List C)} {vs : List Value}, chunkX k n cs = some es → vs.length = cs.length → (∀ (j : Nat) (c : C), cs[j]? = some c → ∃ v, vs[j]? = some v ∧ Rd M v c) → es.length = n ∧ Flat M k n (fun i => es.getD i []) vs
  | 0, [], es, vs, h, hl, hr => by cases h; simp at hl; subst hl; exact ⟨rfl, .nil⟩
  | 0, _ :: _, es, vs, h, hl, hr => by cases h
  | n + 1, cs, es, vs, h, hl, hr => by
    simp only [chunkX] at h
    cases hc : takeX k cs with
    | none => simp [hc] at h
    | some c =>
      simp only [hc] at h
      cases hq : chunkX k n (dropX k cs) with
      | none => simp [hq] at h
      | some q =>
        simp [hq] at h
        subst h
        obtain ⟨h1, h2⟩ := takeX_eq hc
        rw [dropX_eq] at hq
        obtain ⟨r1, r2⟩ := chunkX_ok (vs := vs.drop k) hq (by simp [hl]) (fun j c hj => by
          obtain ⟨v, h1, h2⟩ := hr (k + j) c (by simpa using hj)
          exact ⟨v, by simpa using h1, h2⟩)
        refine ⟨by simp [r1], ?_⟩
        have hk : k ≤ cs.length := by rw [h1, List.length_take] at h2; omega
        have f1 : Flat M k 1 (fun _ => c) (vs.take k) := by
          refine ⟨by simp [hl]; omega, by simp [h2], fun i hi j x hj => ?_⟩
          cases i with
          | zero =>
            have hjk : j < k := by rw [← h2]; exact (List.getElem?_eq_some_iff.1 hj).1
            obtain ⟨v, p1, p2⟩ := hr j x (by rw [h1, List.getElem?_take] at hj; simpa [hjk] using hj)
            exact ⟨v, by rw [List.getElem?_take]; simpa [hjk] using p1, p2⟩
          | succ i => omega
        have := f1.append r2
        rw [Nat.add_comm 1 n] at this
        have e : appF 1 (fun _ => c) (fun i => q.getD i []) = fun i => (c :: q).getD i [] := by
          funext i
          cases i <;> simp [appF]
        rw [e] at this
        simpa using this

def litE (T : List (Nat × TI)) (η : Operand → D) (t : TypeId) (n : Nat) (parts : List (Nat × Operand)) : Option (Nat × List (List C)) :=
  match lookT T t with
  | some i => match i.desc with
    | .slice E => match lookT T E with
      | some ie => match Nat.beq ie.size 0 with
        | true => none
        | false => match Nat.ble (n * ie.size) 16777216 with
          | true => match partsE η parts with
            | some ps => match fillE (fun k => some (k * ie.size, ie.size)) ps (List.replicate (n * ie.size) A.any) with
              | some cs => match closeX cs with
                | some r => match chunkX ie.size n r with
                  | some es => some (ie.size, es)
                  | none => none
                | none => none
              | none => none
            | none => none
          | false => none
      | none => none
    | _ => none
  | none => none

theorem OpJ.buildSlice {P : Program} {T : List (Nat × TI)} (hT : TOK P T) {o : Oper} {η : Operand → D} {σ : List Box} {t : TypeId} {n : Nat} {parts : Array (Nat × Operand)} (h : o.op = .buildSlice t n parts) {k : Nat} {es : List (List C)}
    (he : litE T η t n parts.toList = some (k, es)) : OpJ P o η σ (.e (.one (.c (.sl true k n fun i => es.getD i [])))) σ := by
  intro s ρ hh hr
  unfold litE at he
  cases hi : lookT T t with
  | none => simp [hi] at he
  | some i =>
    simp only [hi] at he
    cases hd : i.desc with
    | slice E =>
      simp only [hd] at he
      cases hE : lookT T E with
      | none => simp [hE] at he
      | some ie =>
        simp only [hE] at he
        cases hz : Nat.beq ie.size 0 with
        | true => simp [hz] at he
        | false =>
          simp only [hz] at he
          cases hle : Nat.ble (n * ie.size) 16777216 with
          | false => simp [hle] at he
          | true =>
            simp only [hle] at he
            cases hps : partsE η parts.toList with
            | none => simp [hps] at he
            | some ps =>
              simp only [hps] at he
              cases hfl : fillE (fun k => some (k * ie.size, ie.size)) ps (List.replicate (n * ie.size) A.any) with
              | none => simp [hfl] at he
              | some cs =>
                simp only [hfl] at he
                cases hcl : closeX cs with
                | none => simp [hcl] at he
                | some r =>
                  simp only [hcl] at he
                  cases hch : chunkX ie.size n r with
                  | none => simp [hch] at he
                  | some es' =>
                    simp only [hch, Option.some.injEq, Prod.mk.injEq] at he
                    obtain ⟨rfl, rfl⟩ := he
                    have hz0 : ie.size ≠ 0 := fun e => by rw [e] at hz; cases hz
                    have hle' := Nat.le_of_ble_eq_true hle
                    obtain ⟨inf, z, z1, z2, z3, z4, z5, z6, z7⟩ := (hT E ie hE).info
                    have hzs : z.cells.size = ie.size := by
                      have := congrArg List.length z5
                      simp at this
                      omega
                    have hzc : ∀ v ∈ z.cells.toList, isCell v = true := by
                      intro v hv
                      have hmem : absC v ∈ z.cells.toList.map absC := List.mem_map.2 ⟨v, hv, rfl⟩
                      rw [z5] at hmem
                      obtain ⟨c, _, hc⟩ := List.mem_map.1 hmem
                      exact (Rd.absC (M := s.M) hc.symm).cell
                    have hany : ∀ m, (∀ v ∈ (List.range m).map (fun q => z.cells[q % z.cells.size]!), isCell v = true) := by
                      intro m v hv
                      obtain ⟨q, _, rfl⟩ := List.mem_map.1 hv
                      have hlt : q % z.cells.size < z.cells.size := Nat.mod_lt _ (by omega)
                      apply hzc
                      rw [getElem!_pos z.cells _ hlt]
                      exact Array.getElem_mem_toList hlt
                    have hrep : ∀ vs : List Value, (∀ v ∈ vs, isCell v = true) → RdL σ s vs (List.replicate vs.length A.any) := by
                      intro vs
                      induction vs with
                      | nil => intro _; trivial
                      | cons v vs ih => intro hv; exact ⟨hv v (by simp), ih fun u hu => hv u (by simp [hu])⟩
                    obtain ⟨p1, p2⟩ := partsE_ok (σ := σ) (s := s) hr hps
                    have hr0 : RdL σ s ((Array.range (n * ie.size)).map (fun q => z.cells[q % z.cells.size]!)).toList (List.replicate (n * ie.size) A.any) := by
                      have := hrep _ (hany (n * ie.size))
                      simpa using this
                    obtain ⟨us, u1, u2⟩ := fillE_ok (σ := σ) (s := s) (place' := fun k => some (k * ie.size, ie.size)) (fun k p hk => hk) hfl p1 p2 hr0
                    have u3 := closeX_ok hcl u2
                    obtain ⟨c1, c2⟩ := chunkX_ok (M := s.M) (vs := us.toList) hch (by simpa using u3.length) u3.closed
                    obtain ⟨g1, g2⟩ := hh.newRow E us.toList
                    refine ⟨.value (.slice (some ⟨s.w.heap.size, 0, none⟩) n n), s.newRow E us.toList, ?_, ?_, g1, g2, ?_⟩
                    rotate_left 2
                    · have e : (execOp ρ o).events P s.w #[] = #[] := by
                        simp only [execOp, h]
                        exact Still.bind Still.buildSlice (fun _ => Still.pure) _ _
                      rw [e]; exact .nil
                    · have hu := (hT t i hi).run_underlying (w := s.w)
                      rw [hd] at hu
                      have hzv : (zeroValue E).run P s.w = .ok z s.w := by simp [zeroValue, typeInfo, z1, z4]
                      have u1' : Instr.fill (fun k => some (k * ie.size, ie.size)) ((Array.range (n * ie.size)).map (fun q => z.cells[q % z.cells.size]!)) (parts.map fun (i, x) => (i, ρ x)).toList = some us := by simpa using u1
                      by_cases h0 : n * ie.size = 0
                      · have hn0 : n = 0 := by rcases Nat.mul_eq_zero.1 h0 with h | h; exact h; exact absurd h hz0
                        subst hn0
                        have hra : Array.range 0 = #[] := rfl
                        simp [hra] at u1'
                        simp [execOp, h, Instr.buildSlice, hu, (hT E ie hE).run_sizeOf, hra, u1', Go.newRow, St.newRow]
                      · rw [show execOp ρ o = (do pure (.value (← Instr.buildSlice t n (parts.map fun (i, x) => (i, ρ x))))) by simp [execOp, h]]
                        simp only [Instr.buildSlice, Sem.run_bind, hu, Result.andThen_ok, (hT E ie hE).run_sizeOf, h0, if_false, hzv, show ¬ n * ie.size > 2 ^ 24 by omega, Sem.run_ite, u1', Sem.run_pure]
                        simp [Go.newRow, St.newRow]
                    · refine Rd.ofFlat (c2.mono g2.mem) (b := s.w.heap.size) (off := 0) (fun _ => rfl) (Nat.le_refl _) ?_ (fun _ => rfl) (newRow_at s E us.toList)
                      have : n ≤ n * ie.size := Nat.le_mul_of_pos_right n (by omega)
                      omega
    | _ => simp [hd] at he

end Go.AM

/- append: to a slice without spare cells, and to one that the call itself makes grow. -/
namespace Go.AM

theorem Ext.trans {σ σ1 σ2 : List Box} {s s1 s2 : St} (h : Ext σ s σ1 s1) (k : Ext σ1 s1 σ2 s2) : Ext σ s σ2 s2 := by
  refine ⟨fun b o v hv => k.mem _ _ _ (h.mem _ _ _ hv), fun l B L hB hL => ?_⟩
  obtain ⟨B1, L1, h1, h2, h3⟩ := h.box l B L hB hL
  obtain ⟨B2, L2, k1, k2, k3⟩ := k.box l B1 L1 h1 h2
  exact ⟨B2, L2, k1, k2, h3.trans k3⟩

theorem getElem?_snoc {α : Type} {l : List α} {x y : α} {i : Nat} (h : (l ++ [x])[i]? = some y) : l[i]? = some y ∨ (i = l.length ∧ y = x) := by
  rcases Nat.lt_trichotomy i l.length with hlt | rfl | hgt
  · rw [List.getElem?_append_left hlt] at h; exact .inl h
  · simp at h; exact .inr ⟨rfl, h.symm⟩
  · rw [List.getElem?_append_right (by omega)] at h
    cases hx : i - l.length with
    | zero => omega
    | succ n => simp [hx] at h

/-- One box more. -/
theorem HeapOK.addBox {σ : List Box} {s s1 : St} (h1 : HeapOK σ s1) (st : Step σ s σ s1) (hβ : s1.β = s.β) (hh : HeapOK σ s) {B : Box} {L : Loc} (hB : BoxOK (σ ++ [B]) { s1 with β := s1.β ++ [L] } B L)
    (hge : ∀ b ∈ L.bs, s.w.heap.size ≤ b ∧ b < s1.w.heap.size) : HeapOK (σ ++ [B]) { s1 with β := s1.β ++ [L] } ∧ Step σ s (σ ++ [B]) { s1 with β := s1.β ++ [L] } := by
  have ex : Ext σ s1 (σ ++ [B]) { s1 with β := s1.β ++ [L] } := by
    refine ⟨fun _ _ _ h => h, fun l B' L' hB' hL' => ?_⟩
    have hl : l < s1.β.length := (List.getElem?_eq_some_iff.1 hL').1
    have hl' : l < σ.length := (List.getElem?_eq_some_iff.1 hB').1
    exact ⟨B', L', by rw [List.getElem?_append_left hl', hB'], by rw [List.getElem?_append_left hl, hL'], .refl _ _⟩
  have e2 := st.ext.trans ex
  refine ⟨⟨h1.mem, by simp [h1.len], ?_, ?_, ?_, ?_⟩, ⟨st.size, st.keep, st.mem, st.memk, ?_, e2.box, st.os, st.tape, st.output, st.own⟩⟩
  · intro l B' L' hB' hL'
    rcases getElem?_snoc hB' with hB1 | ⟨rfl, rfl⟩
    · have hl : l < s1.β.length := by rw [h1.len]; exact (List.getElem?_eq_some_iff.1 hB1).1
      rw [List.getElem?_append_left hl] at hL'
      exact (h1.box l B' L' hB1 hL').carry ex h1.len fun _ _ => ⟨rfl, fun _ => rfl⟩
    · rcases getElem?_snoc hL' with hL1 | ⟨_, rfl⟩
      · have := (List.getElem?_eq_some_iff.1 hL1).1; rw [h1.len] at this; omega
      · exact hB
  · intro l l' L1 L2 hL1 hL2 b hb hb'
    rcases getElem?_snoc hL1 with k1 | ⟨rfl, rfl⟩ <;> rcases getElem?_snoc hL2 with k2 | ⟨rfl, rfl⟩
    · exact h1.disj l l' L1 L2 k1 k2 b hb hb'
    · have a1 := hge b hb'
      have a2 := hh.lt L1 (by rw [← hβ]; exact List.mem_of_getElem? k1) b hb
      omega
    · have a1 := hge b hb
      have a2 := hh.lt L2 (by rw [← hβ]; exact List.mem_of_getElem? k2) b hb'
      omega
    · rfl
  · intro L' hL' b hb
    simp only [List.mem_append, List.mem_singleton] at hL'
    rcases hL' with hL' | rfl
    · exact h1.lt L' hL' b hb
    · exact (hge b hb).2
  · intro b hb
    refine ⟨(h1.own b hb).1, fun L' hL' hbL => ?_⟩
    simp only [List.mem_append, List.mem_singleton] at hL'
    rcases hL' with hL' | rfl
    · exact (h1.own b hb).2 L' hL' hbL
    · have e := st.own
      simp only at hb
      rw [e] at hb
      have := (hh.own b hb).1
      have := (hge b hbL).1
      omega
  · intro L' hL' b hb
    simp only [List.mem_append, List.mem_singleton] at hL'
    rcases hL' with hL' | rfl
    · exact st.bls L' hL' b hb
    · exact .inl (hge b hb).1

/-- A box gives way to another one (a slice that has grown). -/
theorem HeapOK.setBox {σ : List Box} {s : St} {M' : Mem} {w' : World} (hh : HeapOK σ s) {l : Nat} {B B' : Box} {L L' : Loc} (hB0 : σ[l]? = some B) (hL0 : s.β[l]? = some L) (hle : BoxLe B L B' L')
    (hsz : s.w.heap.size ≤ w'.heap.size) (hk : ∀ b, b < s.w.heap.size → b ∉ L.bs → w'.heap[b]? = s.w.heap[b]?) (hM : ∀ b, b < s.w.heap.size → b ∉ L.bs → ∀ o, M' b o = s.M b o)
    (hmm : ∀ b o v, s.M b o = some v → M' b o = some v) (hN : ∀ b o v, M' b o = some v → w'.cell? ⟨b, o, none⟩ = some v)
    (hbs : ∀ b ∈ L'.bs, (b ∈ L.bs ∨ s.w.heap.size ≤ b) ∧ b < w'.heap.size)
    (ho : w'.os = s.w.os) (ht : w'.tape = s.w.tape) (hp : w'.output = s.w.output)
    (hB : BoxOK (σ.set l B') ⟨s.β.set l L', M', w', s.own⟩ B' L') : HeapOK (σ.set l B') ⟨s.β.set l L', M', w', s.own⟩ ∧ Step σ s (σ.set l B') ⟨s.β.set l L', M', w', s.own⟩ := by
  have hlσ : l < σ.length := (List.getElem?_eq_some_iff.1 hB0).1
  have hlβ : l < s.β.length := (List.getElem?_eq_some_iff.1 hL0).1
  have getβ : ∀ i X, (s.β.set l L')[i]? = some X → (i = l ∧ X = L') ∨ (i ≠ l ∧ s.β[i]? = some X) := by
    intro i X hX
    by_cases e : l = i
    · subst e; rw [List.getElem?_set_self hlβ] at hX; cases hX; exact .inl ⟨rfl, rfl⟩
    · rw [List.getElem?_set_ne e] at hX; exact .inr ⟨fun h => e h.symm, hX⟩
  have ex : Ext σ s (σ.set l B') ⟨s.β.set l L', M', w', s.own⟩ := by
    refine ⟨hmm, fun i X Y hX hY => ?_⟩
    by_cases e : l = i
    · subst e
      rw [hB0] at hX; cases hX
      rw [hL0] at hY; cases hY
      exact ⟨B', L', List.getElem?_set_self hlσ, List.getElem?_set_self hlβ, hle⟩
    · exact ⟨X, Y, by rw [List.getElem?_set_ne e]; exact hX, by rw [List.getElem?_set_ne e]; exact hY, .refl _ _⟩
  have out : ∀ i X, i ≠ l → s.β[i]? = some X → ∀ b ∈ X.bs, b < s.w.heap.size ∧ b ∉ L.bs := by
    intro i X hi hX b hb
    exact ⟨hh.lt X (List.mem_of_getElem? hX) b hb, fun hbL => hi (hh.disj i l X L hX hL0 b hb hbL)⟩
  refine ⟨⟨hN, by simp [hh.len], ?_, ?_, ?_, ?_⟩, ⟨hsz, ?_, hmm, ?_, ?_, ex.box, ho, ht, hp, rfl⟩⟩
  · intro i X Y hX hY
    rcases getβ i Y hY with ⟨rfl, rfl⟩ | ⟨hi, hY⟩
    · rw [List.getElem?_set_self hlσ] at hX; cases hX; exact hB
    · rw [List.getElem?_set_ne (fun e => hi e.symm)] at hX
      refine (hh.box i X Y hX hY).carry ex hh.len fun b hb => ?_
      obtain ⟨b1, b2⟩ := out i Y hi hY b hb
      exact ⟨hk b b1 b2, hM b b1 b2⟩
  · intro i i' X X' hX hX' b hb hb'
    rcases getβ i X hX with ⟨rfl, rfl⟩ | ⟨hi, hX1⟩ <;> rcases getβ i' X' hX' with ⟨rfl, rfl⟩ | ⟨hi', hX1'⟩
    · rfl
    · obtain ⟨b1, b2⟩ := out i' X' hi' hX1' b hb'
      rcases (hbs b hb).1 with h | h
      · exact absurd h b2
      · omega
    · obtain ⟨b1, b2⟩ := out i X hi hX1 b hb
      rcases (hbs b hb').1 with h | h
      · exact absurd h b2
      · omega
    · exact hh.disj i i' X X' hX1 hX1' b hb hb'
  · intro X hX b hb
    obtain ⟨i, hi, rfl⟩ := List.getElem_of_mem hX
    rcases getβ i _ (List.getElem?_eq_getElem hi) with ⟨rfl, e⟩ | ⟨hi', hX'⟩
    · rw [e] at hb; exact (hbs b hb).2
    · have := (out i _ hi' hX' b hb).1
      show b < w'.heap.size
      omega
  · intro b hb
    obtain ⟨o1, o2⟩ := hh.own b hb
    refine ⟨by show b < w'.heap.size; omega, fun X hX hbX => ?_⟩
    obtain ⟨i, hi, rfl⟩ := List.getElem_of_mem hX
    rcases getβ i _ (List.getElem?_eq_getElem hi) with ⟨rfl, e⟩ | ⟨hi', hX'⟩
    · rw [e] at hbX
      rcases (hbs b hbX).1 with h | h
      · exact o2 L (List.mem_of_getElem? hL0) h
      · omega
    · exact o2 _ (List.mem_of_getElem? hX') hbX
  · intro b hb hn
    exact hk b hb (hn L (List.mem_of_getElem? hL0))
  · intro b hb hn o
    exact hM b hb (hn L (List.mem_of_getElem? hL0)) o
  · intro X hX b hb
    obtain ⟨i, hi, rfl⟩ := List.getElem_of_mem hX
    rcases getβ i _ (List.getElem?_eq_getElem hi) with ⟨rfl, e⟩ | ⟨hi', hX'⟩
    · rw [e] at hb
      rcases (hbs b hb).1 with h | h
      · exact .inr ⟨L, List.mem_of_getElem? hL0, h⟩
      · exact .inl h
    · exact .inr ⟨_, List.mem_of_getElem? hX', hb⟩

/-! ### What append does -/

theorem nextcap_fits {need old bytes : Nat} (h : old < need) (hb : need * bytes ≤ 140737488355328) : ¬ Builtin.nextslicecap need old * bytes > 2 ^ 48 := by
  have := growslice_fits h hb
  omega

section
variable {P : Program} {T : List (Nat × TI)} (hT : TOK P T) {σ : List Box} {s : St} {t t2 ty E : TypeId} {i i2 ie : TI}

/-- The slice is as long as it was: nothing is appended. -/
theorem run_append_zero (hi : TGood P t i) (hd : i.desc = .slice E) (hi2 : TGood P t2 i2) (hd2 : i2.desc = .slice E) (hE : TGood P E ie) (hh : HeapOK σ s)
    {a : Option Addr} {n cap : Nat} (hcap : n ≤ cap) {x : Value} {tx : Bool} {es' : Nat → List C} (hx : Rd s.M x (.sl tx ie.size 0 es')) :
    (Builtin.append_ #[t, t2] ty #[.slice a n cap, x]).run P s.w = .ok (.slice a n cap) s.w := by
  obtain ⟨news, hF, hf, hlen⟩ := run_firstCells (P := P) hh hx
  have hu := hi.run_underlying (w := s.w)
  have hu2 := hi2.run_underlying (w := s.w)
  rw [hd] at hu
  rw [hd2] at hu2
  obtain ⟨a', cap', vs, rfl, _⟩ := hx.flat
  have hn0 : news = [] := List.eq_nil_of_length_eq_zero (by simpa using hF.len)
  subst hn0
  cases a <;> simp [Builtin.append_, hu, hu2, hE.run_sizeOf, Builtin.lenOf, hcap, hf, storeCells]

/-- A new row is made. -/
theorem run_append_new (hi : TGood P t i) (hd : i.desc = .slice E) (hi2 : TGood P t2 i2) (hd2 : i2.desc = .slice E) (hE : TGood P E ie) (hh : HeapOK σ s)
    {a : Option Addr} {n cap m : Nat} {td tx : Bool} {es es' : Nat → List C} {x : Value} (hv : Rd s.M (.slice a n cap) (.sl td ie.size n es)) (hx : Rd s.M x (.sl tx ie.size m es')) (hg : cap < n + m) (hb : (n + m) * ie.bytes ≤ 140737488355328) (hb0 : ie.bytes ≠ 0) :
    ∃ vs zs ncap, Flat s.M ie.size (n + m) (appF n es es') vs ∧ n + m ≤ ncap ∧ ncap ≤ 9223372036854775807 ∧ (vs ++ zs).length = ncap * ie.size ∧
      (Builtin.append_ #[t, t2] ty #[.slice a n cap, x]).run P s.w = .ok (.slice (some ⟨s.w.heap.size, 0, none⟩) (n + m) ncap) (s.w.drew.alloc (.cells (vs ++ zs).toArray E)) := by
  have hh' : HeapOK σ { s with w := s.w.drew } := hh.same rfl
  obtain ⟨news, hF, hf, hlen⟩ := run_firstCells (P := P) hh' (v := x) hx
  obtain ⟨olds, hFo, hfo, hlo⟩ := run_firstCells (P := P) hh' (v := .slice a n cap) hv
  have hu := hi.run_underlying (w := s.w)
  have hu2 := hi2.run_underlying (w := s.w)
  rw [hd] at hu
  rw [hd2] at hu2
  obtain ⟨inf, z, z1, z2, z3, z4, z5, z6, z7⟩ := hE.info
  have hle : n + m ≤ 140737488355328 := Nat.le_trans (Nat.le_mul_of_pos_right _ (Nat.pos_of_ne_zero hb0)) hb
  have hzs : z.cells.size = ie.size := by
    have := congrArg List.length z5
    simp at this
    omega
  refine ⟨olds ++ news, (Builtin.zeroCells z.cells (grownCap s.w (n + m) cap E - (n + m))).toList, grownCap s.w (n + m) cap E, hFo.append hF, grownCap_ge _ _ _ _, ?_, ?_, ?_⟩
  · have := grownCap_le_maxLen s.w (n + m) cap E (by unfold maxLen; omega)
    unfold maxLen at this
    omega
  · have hge := grownCap_ge s.w (n + m) cap E
    simp only [List.length_append, hFo.len, hF.len, Array.length_toList, size_zeroCells, hzs, ← Nat.add_mul]
    congr 1
    omega
  · have hnx := nextcap_fits hg hb
    have hnx' : ¬ Builtin.nextslicecap (n + m) cap * inf.bytes > 2 ^ 48 := by rw [z3]; exact hnx
    have hnle : ¬ n + m ≤ cap := by omega
    have h63 : ¬ ((n + m : Nat) : Int) > IntKind.i64.max := by
      have e : IntKind.i64.max = 9223372036854775807 := rfl
      rw [e]; omega
    have hti : ∀ u, (typeInfo E).run P u = .ok inf u := fun u => by simp [typeInfo, z1]
    have hzr : ∀ u, (zeroValue E).run P u = .ok z u := fun u => by simp [zeroValue, typeInfo, z1, z4]
    have hlen' : (Builtin.lenOf x).run P s.w = .ok m s.w := by rw [hlen]; rfl
    replace hf : (Builtin.firstCells ie.size m x).run P s.w.drew = .ok news.toArray s.w.drew := hf
    replace hfo : (Builtin.firstCells ie.size n (.slice a n cap)).run P s.w.drew = .ok olds.toArray s.w.drew := hfo
    unfold Builtin.append_
    simp only [List.getElem?_toArray, List.getElem?_cons_zero, List.getElem?_cons_succ, Sem.run_bind, hu, hu2, Result.andThen_ok, hE.run_sizeOf, Sem.run_pure, Bool.false_eq_true, if_false, hlen', hnle,
      h63, false_and, hti, hnx', run_choose, Question.forced, run_askRoom, Sem.run_ite, World.drew_eq, hfo, hf, Bool.not_false, if_true, hzr]
    simp [Go.newRow, grownCap]
    have e : ∀ Z : Array Value, (olds ++ news).toArray ++ Z = (olds ++ (news ++ Z.toList)).toArray := fun Z => by apply Array.ext'; simp
    rw [e]
    rfl

/-- The row has room. -/
theorem run_append_room2 (hi : TGood P t i) (hd : i.desc = .slice E) (hi2 : TGood P t2 i2) (hd2 : i2.desc = .slice E) (hE : TGood P E ie) (hh : HeapOK σ s)
    {b n cap m : Nat} {E' : TypeId} {cur : List Value} (hw : s.w.heap[b]? = some (.cells cur.toArray E' (0, 0))) (hcur : cur.length = cap * ie.size) {tx : Bool} {es' : Nat → List C} {x : Value} (hx : Rd s.M x (.sl tx ie.size m es')) (hg : n + m ≤ cap) :
    ∃ news, Flat s.M ie.size m es' news ∧ (Builtin.append_ #[t, t2] ty #[.slice (some ⟨b, 0, none⟩) n cap, x]).run P s.w = .ok (.slice (some ⟨b, 0, none⟩) (n + m) cap) (s.w.setRow b (cur.take (n * ie.size) ++ news ++ cur.drop (n * ie.size + news.length)).toArray) := by
  obtain ⟨news, hF, hf, hlen⟩ := run_firstCells (P := P) hh hx
  have hu := hi.run_underlying (w := s.w)
  have hu2 := hi2.run_underlying (w := s.w)
  rw [hd] at hu
  rw [hd2] at hu2
  have hfit : n * ie.size + news.length ≤ cur.length := by
    rw [hF.len, hcur, ← Nat.add_mul]; exact Nat.mul_le_mul_right _ hg
  have hst := run_storeCells_at P b (n * ie.size) E' news 0 cur.toArray s.w hw (by simpa using hfit) hF.cell
  simp only [Nat.add_zero] at hst
  have hlen' : (Builtin.lenOf x).run P s.w = .ok m s.w := by rw [hlen]; rfl
  refine ⟨news, hF, ?_⟩
  unfold Builtin.append_
  simp only [List.getElem?_toArray, List.getElem?_cons_zero, List.getElem?_cons_succ, Sem.run_bind, hu, hu2, Result.andThen_ok, hE.run_sizeOf, Sem.run_pure, Bool.false_eq_true, if_false, hlen', hg, if_true, Bool.not_false, hf, add_addr, Nat.zero_add, hst]

end

theorem mem_ev {α : Type} {P : Program} {x : Sem α} {w : World} {es : Array Event} {e : Event} (h : e ∈ x.events P w es) : e ∈ es ∨ e ∈ x.events P w #[] := by
  rw [Sem.events_acc] at h
  exact Array.mem_append.1 h

/-- Reading what is committed. -/
def rdM (s : St) (e : Event) : Prop := ∃ b o u, e = rdEv b o ∧ s.M b o = some u

theorem ev_firstCells {P : Program} {σ : List Box} {s : St} (hh : HeapOK σ s) {v : Value} {t : Bool} {k n : Nat} {es : Nat → List C} (h : Rd s.M v (.sl t k n es)) {w : World} (hw : w.heap = s.w.heap) :
    ∀ e ∈ (Builtin.firstCells k n v).events P w #[], rdM s e := by
  obtain ⟨a, cap, vs, rfl, hcap, hb, ht, hF, hm⟩ := h.flat
  have hl : vs.length = n * k := hF.len
  intro e he
  cases a with
  | none => simp [Builtin.firstCells] at he
  | some ad =>
    simp only [Builtin.firstCells] at he
    have hall : ∀ j, j < n * k → ∃ b off u, ad = ⟨b, off, none⟩ ∧ s.M b (off + j) = some u := by
      intro j hj
      obtain ⟨b, off, h1, h2⟩ := hm j (vs[j]'(by omega)) (List.getElem?_eq_getElem (by omega))
      cases h1
      exact ⟨b, off, _, rfl, h2⟩
    by_cases h0 : n * k = 0
    · rw [h0] at he; simp [loadCells, loadCellsFrom] at he
    · obtain ⟨b, off, _, rfl, _⟩ := hall 0 (by omega)
      have hc : ∀ j, j < n * k → ∃ v, w.cell? ⟨b, off + j, none⟩ = some v := by
        intro j hj
        obtain ⟨b', off', u, e1, h2⟩ := hall j hj
        cases e1
        have := hh.mem _ _ _ h2
        exact ⟨u, by simp only [World.cell?, hw] at this ⊢; exact this⟩
      rcases ev_loadCells (P := P) hc e he with h | ⟨j, hj, rfl⟩
      · simp at h
      · obtain ⟨b', off', u, e1, h2⟩ := hall j hj
        cases e1
        exact ⟨_, _, u, rfl, h2⟩

theorem rdM_ok {s : St} {e : Event} (h : rdM s e) : evOK s e := by
  obtain ⟨b, o, u, rfl, hm⟩ := h
  exact evOK_mem hm

section
variable {P : Program} {σ : List Box} {s : St} {t t2 ty E : TypeId} {i i2 ie : TI}

theorem ev_append_zero (hi : TGood P t i) (hd : i.desc = .slice E) (hi2 : TGood P t2 i2) (hd2 : i2.desc = .slice E) (hE : TGood P E ie) (hh : HeapOK σ s)
    {a : Option Addr} {n cap : Nat} (hcap : n ≤ cap) {x : Value} {tx : Bool} {es' : Nat → List C} (hx : Rd s.M x (.sl tx ie.size 0 es')) :
    EvOK s ((Builtin.append_ #[t, t2] ty #[.slice a n cap, x]).events P s.w #[]) := by
  obtain ⟨news, hF, hf, hlen⟩ := run_firstCells (P := P) hh hx
  have hev := ev_firstCells (P := P) hh hx (w := s.w) rfl
  have hu := hi.run_underlying (w := s.w)
  have hu2 := hi2.run_underlying (w := s.w)
  rw [hd] at hu
  rw [hd2] at hu2
  obtain ⟨a', cap', vs, rfl, _⟩ := hx.flat
  have hn0 : news = [] := List.eq_nil_of_length_eq_zero (by simpa using hF.len)
  subst hn0
  intro e he
  refine rdM_ok (hev e ?_)
  cases a <;> simpa [Builtin.append_, hu, hu2, hE.run_sizeOf, Builtin.lenOf, hcap, hf, storeCells] using he

theorem ev_append_new (hi : TGood P t i) (hd : i.desc = .slice E) (hi2 : TGood P t2 i2) (hd2 : i2.desc = .slice E) (hE : TGood P E ie) (hh : HeapOK σ s)
    {a : Option Addr} {n cap m : Nat} {td tx : Bool} {es es' : Nat → List C} {x : Value} (hv : Rd s.M (.slice a n cap) (.sl td ie.size n es)) (hx : Rd s.M x (.sl tx ie.size m es')) (hg : cap < n + m) (hb : (n + m) * ie.bytes ≤ 140737488355328) (hb0 : ie.bytes ≠ 0) :
    EvOK s ((Builtin.append_ #[t, t2] ty #[.slice a n cap, x]).events P s.w #[]) := by
  have hh' : HeapOK σ { s with w := s.w.drew } := hh.same rfl
  obtain ⟨news, hF, hf, hlen⟩ := run_firstCells (P := P) hh' (v := x) hx
  obtain ⟨olds, hFo, hfo, hlo⟩ := run_firstCells (P := P) hh' (v := .slice a n cap) hv
  have hev := ev_firstCells (P := P) hh hx (w := s.w.drew) rfl
  have hevo := ev_firstCells (P := P) hh hv (w := s.w.drew) rfl
  have hu := hi.run_underlying (w := s.w)
  have hu2 := hi2.run_underlying (w := s.w)
  rw [hd] at hu
  rw [hd2] at hu2
  obtain ⟨inf, z, z1, z2, z3, z4, z5, z6, z7⟩ := hE.info
  have hle : n + m ≤ 140737488355328 := Nat.le_trans (Nat.le_mul_of_pos_right _ (Nat.pos_of_ne_zero hb0)) hb
  have hnx := nextcap_fits hg hb
  have hnx' : ¬ Builtin.nextslicecap (n + m) cap * inf.bytes > 2 ^ 48 := by rw [z3]; exact hnx
  have hnle : ¬ n + m ≤ cap := by omega
  have h63 : ¬ ((n + m : Nat) : Int) > IntKind.i64.max := by
    have e : IntKind.i64.max = 9223372036854775807 := rfl
    rw [e]; omega
  have hti : ∀ u, (typeInfo E).run P u = .ok inf u := fun u => by simp [typeInfo, z1]
  have hzr : ∀ u, (zeroValue E).run P u = .ok z u := fun u => by simp [zeroValue, typeInfo, z1, z4]
  have hlen' : (Builtin.lenOf x).run P s.w = .ok m s.w := by rw [hlen]; rfl
  have hlenE : (Builtin.lenOf x).events P s.w #[] = #[] := by rw [hlen]; rfl
  replace hf : (Builtin.firstCells ie.size m x).run P s.w.drew = .ok news.toArray s.w.drew := hf
  replace hfo : (Builtin.firstCells ie.size n (.slice a n cap)).run P s.w.drew = .ok olds.toArray s.w.drew := hfo
  intro e he
  unfold Builtin.append_ at he
  simp only [List.getElem?_toArray, List.getElem?_cons_zero, List.getElem?_cons_succ, Sem.events_bind, Sem.run_bind, hu, hu2, Result.andThen_ok, Result.evThen_ok, hE.run_sizeOf, Sem.run_pure, Bool.false_eq_true, if_false, hlen', hlenE, hnle,
    h63, false_and, hti, hnx', run_choose, Question.forced, run_askRoom, Sem.run_ite, Sem.events_ite, World.drew_eq, hfo, hf, Bool.not_false, if_true, hzr, events_underlying, events_sizeOf, events_typeInfo, events_choose, events_zeroValue, Sem.events_pure] at he
  have hnr : ∀ (x : Nat) (w : World) (e : Event), e ∈ (askRoom x).events P w #[] → e = ⟨.mark .noRoom, false, true⟩ := by
    intro x w e h
    unfold askRoom at h
    split at h
    · simpa using h
    · simp at h
  rw [Still.newRow (P := P)] at he
  generalize (Go.newRow E _).run P s.w.drew = r at he
  have h3 : e ∈ (Builtin.firstCells ie.size m x).events P s.w.drew ((Builtin.firstCells ie.size n (.slice a n cap)).events P s.w.drew ((askRoom ((Question.appendCap (n + m) cap E).cut (s.w.tape s.w.drawn (Question.appendCap (n + m) cap E)) * inf.bytes)).events P s.w.drew #[])) := by
    cases r with
    | ok v w' => simpa using he
    | halt v w' => simpa using he
  rcases mem_ev h3 with h3 | h3
  · rcases mem_ev h3 with h3 | h3
    · rw [hnr _ _ _ h3]; exact .inl rfl
    · exact rdM_ok (hevo e h3)
  · exact rdM_ok (hev e h3)

theorem ev_append_room (hi : TGood P t i) (hd : i.desc = .slice E) (hi2 : TGood P t2 i2) (hd2 : i2.desc = .slice E) (hE : TGood P E ie) (hh : HeapOK σ s)
    {b n cap m : Nat} {E' : TypeId} {cur : List Value} (hw : s.w.heap[b]? = some (.cells cur.toArray E' (0, 0))) (hcur : cur.length = cap * ie.size) {tx : Bool} {es' : Nat → List C} {x : Value} (hx : Rd s.M x (.sl tx ie.size m es')) (hg : n + m ≤ cap)
    {L : Loc} (hL : L ∈ s.β) (hbL : b ∈ L.bs) (hfree : ∀ o, n * ie.size ≤ o → s.M b o = none) :
    EvOK s ((Builtin.append_ #[t, t2] ty #[.slice (some ⟨b, 0, none⟩) n cap, x]).events P s.w #[]) := by
  obtain ⟨news, hF, hf, hlen⟩ := run_firstCells (P := P) hh hx
  have hev := ev_firstCells (P := P) hh hx (w := s.w) rfl
  have hu := hi.run_underlying (w := s.w)
  have hu2 := hi2.run_underlying (w := s.w)
  rw [hd] at hu
  rw [hd2] at hu2
  have hfit : n * ie.size + news.length ≤ cur.length := by
    rw [hF.len, hcur, ← Nat.add_mul]; exact Nat.mul_le_mul_right _ hg
  have hst := run_storeCells_at P b (n * ie.size) E' news 0 cur.toArray s.w hw (by simpa using hfit) hF.cell
  simp only [Nat.add_zero] at hst
  have hlen' : (Builtin.lenOf x).run P s.w = .ok m s.w := by rw [hlen]; rfl
  have hlenE : (Builtin.lenOf x).events P s.w #[] = #[] := by rw [hlen]; rfl
  intro e he
  unfold Builtin.append_ at he
  simp only [List.getElem?_toArray, List.getElem?_cons_zero, List.getElem?_cons_succ, Sem.events_bind, Sem.run_bind, hu, hu2, Result.evThen_ok, hE.run_sizeOf, Sem.run_pure, Bool.false_eq_true, if_false, hlen', hlenE, hg, if_true, Bool.not_false, hf, add_addr, Nat.zero_add, hst,
    Sem.run_ite, Sem.events_ite, events_underlying, events_sizeOf, Sem.events_pure] at he
  rcases ev_storeCells news 0 cur.toArray s.w _ hw (by simpa using hfit) hF.cell e he with h | ⟨j, h1, h2, rfl⟩
  · exact rdM_ok (hev e h)
  · exact evOK_wr hL hbL (hfree _ (by omega))

end

/-- What makes an append: the types, and what must hold. -/
structure AppOK (P : Program) (o : Oper) (x y : Operand) (E : TypeId) (ie : TI) : Prop where
  op : ∃ t t2 i i2, o.op = .call { callee := .builtin .append, args := #[x, y], argTypes := #[t, t2] } ∧ TGood P t i ∧ i.desc = .slice E ∧ TGood P t2 i2 ∧ i2.desc = .slice E
  elem : TGood P E ie
  bytes : ie.bytes ≠ 0
  size : ie.size ≠ 0

/-- The state behind an append that made a new row. -/
def St.grown (s : St) (E : TypeId) (vs zs : List Value) (β : List Loc) : St :=
  { β := β, M := fun b o => if b = s.w.heap.size then vs[o]? else s.M b o, w := s.w.drew.alloc (.cells (vs ++ zs).toArray E), own := s.own }

theorem grown_mem {σ : List Box} {s : St} (h : HeapOK σ s) (E : TypeId) (vs zs : List Value) : ∀ b o v, (if b = s.w.heap.size then vs[o]? else s.M b o) = some v → (s.w.drew.alloc (.cells (vs ++ zs).toArray E)).cell? ⟨b, o, none⟩ = some v := by
  intro b o v hm
  by_cases e : b = s.w.heap.size
  · subst e
    simp only [if_true] at hm
    unfold World.cell?
    have : (s.w.drew.alloc (.cells (vs ++ zs).toArray E)).heap[s.w.heap.size]? = some (.cells (vs ++ zs).toArray E) := heap_alloc_at s.w.drew _
    simp only [this]
    have hlt : o < vs.length := (List.getElem?_eq_some_iff.1 hm).1
    simpa [List.getElem?_append_left hlt] using hm
  · simp only [e, if_false] at hm
    have hb := h.block hm
    rw [← h.mem b o v hm]
    unfold World.cell?
    have : (s.w.drew.alloc (.cells (vs ++ zs).toArray E)).heap[b]? = s.w.heap[b]? := heap_alloc_lt s.w.drew _ hb
    simp only [this]

theorem grown_old {σ : List Box} {s : St} (h : HeapOK σ s) (vs : List Value) : ∀ b o v, s.M b o = some v → (if b = s.w.heap.size then vs[o]? else s.M b o) = some v := by
  intro b o v hm
  have := h.block hm
  rw [if_neg (by omega)]
  exact hm

theorem ev_pureV {P : Program} {s : St} {m : Sem Value} (h : EvOK s (m.events P s.w #[])) : EvOK s ((do pure (.value (← m)) : Sem Next).events P s.w #[]) := by
  intro e he
  rw [Sem.events_bind] at he
  refine h e ?_
  generalize m.run P s.w = r at he
  cases r with
  | ok v w' => simpa using he
  | halt v w' => simpa using he

theorem execOp_append {o : Oper} {x y : Operand} {t t2 : TypeId} (h : o.op = .call { callee := .builtin .append, args := #[x, y], argTypes := #[t, t2] }) (ρ : Operand → Value) :
    execOp ρ o = (do pure (.value (← Builtin.append_ #[t, t2] o.type #[ρ x, ρ y]))) := by
  simp [execOp, h, resolve, invoke, builtin]

theorem Rd.loose {M : Mem} {v : Value} {t : Bool} {k n : Nat} {es : Nat → List C} (h : Rd M v (.sl t k n es)) : Rd M v (.sl false k n es) := by
  cases h with
  | sl b off f hcap hb ht hk ha hm hr => exact .sl b off f hcap hb (by simp) hk ha hm hr

/-- The same elements, told otherwise. -/
theorem Rd.reF {M : Mem} {v : Value} {t : Bool} {k n : Nat} {es es' : Nat → List C} (he : ∀ i, i < n → es i = es' i) (h : Rd M v (.sl t k n es)) : Rd M v (.sl t k n es') := by
  cases h with
  | sl b off f hcap hb ht hk ha hm hr => exact .sl b off f hcap hb ht (fun i hi => by rw [← he i hi]; exact hk i hi) ha (fun i hi j c hj => hm i hi j c (by rw [he i hi]; exact hj)) (fun i hi j c hj => hr i hi j c (by rw [he i hi]; exact hj))

theorem Rd.tightTo {M : Mem} {v : Value} {k k' n : Nat} {es : Nat → List C} (hk : k = k' ∨ n = 0) (h : Rd M v (.sl true k n es)) : Rd M v (.sl true k' n es) := by
  rcases hk with rfl | rfl
  · exact h
  · obtain ⟨a, cap, vs, hv, hc, hcb, ht, _⟩ := h.flat
    rw [hv]
    have := ht rfl
    subst this
    exact Rd.nilSlice

/-- A vec's atom out of its box. -/
theorem rdA_vec {σ : List Box} {s : St} {l : Nat} {E : TypeId} {k n : Nat} {es : Nat → List C} {L : Loc} (hB : σ[l]? = some (.vec E k n es)) (hL : s.β[l]? = some L) (h : BoxOK σ s (.vec E k n es) L) : RdA σ s L.v (.vec l k n es) := by
  refine ⟨h.1, (List.getElem?_eq_some_iff.1 hB).1, fun E' k' n' es' he => ?_⟩
  rw [hB] at he
  cases he
  exact ⟨Nat.le_refl _, fun _ => ⟨L, hL, rfl⟩⟩

/-- append to a slice without spare cells: a slice of the call's own comes out. -/
theorem OpJ.appendTight {P : Program} {o : Oper} {η : Operand → D} {σ : List Box} {x y : Operand} {E : TypeId} {ie : TI} (h : AppOK P o x y E ie) {n m k : Nat} {tx : Bool} {es es' : Nat → List C}
    (hx : η x = .e (.one (.c (.sl true k n es)))) (hk : k = ie.size ∨ n = 0) (hy : ∀ s v, RdD σ s v (η y) → Rd s.M v (.sl tx ie.size m es')) (hb : (n + m) * ie.bytes ≤ 140737488355328) (hz : n = 0 ∨ 0 < m) :
    OpJ P o η σ (.e (.one (.vec σ.length ie.size (n + m) (appF n es es')))) (σ ++ [.vec E ie.size (n + m) (appF n es es')]) := by
  intro s ρ hh hr
  obtain ⟨t, t2, i, i2, ho, hi, hd, hi2, hd2⟩ := h.op
  have h1 := hr x
  rw [hx] at h1
  have h1' := Rd.tightTo hk (rdC h1)
  have h2 := hy s _ (hr y)
  obtain ⟨a, cap, vs, hv, hcap, hcb, ht, hF, hm⟩ := h1'.flat
  have hcn : cap = n := ht rfl
  subst hcn
  rw [execOp_append ho]
  rw [hv] at h1' ⊢
  by_cases h0 : m = 0
  · subst h0
    have hrun := run_append_zero (P := P) (ty := o.type) hi hd hi2 hd2 h.elem hh (a := a) hcap h2
    simp only [Nat.add_zero]
    have h1' := Rd.reF (es' := appF cap es es') (fun i hi => by simp [appF, hi]) h1'
    have hB : BoxOK (σ ++ [.vec E ie.size cap (appF cap es es')]) { s with β := s.β ++ [⟨.slice a cap cap, []⟩] } (.vec E ie.size cap (appF cap es es')) ⟨.slice a cap cap, []⟩ := ⟨h1'.loose, .inl ⟨⟨rfl, by omega⟩, h1'⟩⟩
    obtain ⟨g1, g2⟩ := hh.addBox (.refl _ _) rfl hh hB (by simp)
    refine ⟨.value (.slice a cap cap), _, ?_, ?_, g1, g2, ev_pureV (ev_append_zero hi hd hi2 hd2 h.elem hh hcap h2)⟩
    · simp [hrun]
    · exact rdA_vec (by simp) (by simp [← hh.len]) hB
  · have hg : cap < cap + m := by omega
    obtain ⟨vs', zs, ncap, hF', hn1, hn2, hlen, hrun⟩ := run_append_new (P := P) (ty := o.type) hi hd hi2 hd2 h.elem hh h1' h2 hg hb h.bytes
    have hg1 : HeapOK σ (s.grown E vs' zs s.β) ∧ Step σ s σ (s.grown E vs' zs s.β) :=
      hh.grow (by simp) (fun b hb => heap_alloc_lt s.w.drew _ hb) (fun b hb o => by simp [show b ≠ s.w.heap.size by omega])
        (fun b hb o v hm => grown_mem hh E vs' zs b o v hm) rfl rfl rfl
    have hrd : Rd (s.grown E vs' zs s.β).M (.slice (some ⟨s.w.heap.size, 0, none⟩) (cap + m) ncap) (.sl false ie.size (cap + m) (appF cap es es')) :=
      Rd.ofFlat (hF'.mono hg1.2.mem) (b := s.w.heap.size) (off := 0) (fun _ => rfl) hn1 hn2 (by simp) (fun p u hp => by simpa [St.grown] using hp)
    have hB : BoxOK (σ ++ [.vec E ie.size (cap + m) (appF cap es es')]) { (s.grown E vs' zs s.β) with β := (s.grown E vs' zs s.β).β ++ [⟨.slice (some ⟨s.w.heap.size, 0, none⟩) (cap + m) ncap, [s.w.heap.size]⟩] } (.vec E ie.size (cap + m) (appF cap es es')) ⟨.slice (some ⟨s.w.heap.size, 0, none⟩) (cap + m) ncap, [s.w.heap.size]⟩ := by
      refine ⟨hrd, .inr ⟨s.w.heap.size, ncap, vs' ++ zs, rfl, heap_alloc_at s.w.drew _, hlen, fun o ho => ?_⟩⟩
      have hl : vs'.length ≤ o := by rw [hF'.len]; exact ho
      simp [St.grown, List.getElem?_eq_none hl]
    obtain ⟨g1, g2⟩ := hg1.1.addBox hg1.2 rfl hh hB (fun b hb => by
      simp at hb
      subst hb
      refine ⟨Nat.le_refl _, ?_⟩
      simp [St.grown])
    refine ⟨.value (.slice (some ⟨s.w.heap.size, 0, none⟩) (cap + m) ncap), _, ?_, ?_, g1, g2, ev_pureV (ev_append_new hi hd hi2 hd2 h.elem hh h1' h2 hg hb h.bytes)⟩
    · simp [hrun]; rfl
    · exact rdA_vec (by simp) (by simp [St.grown, ← hh.len]) hB

/-- append to a slice of the call's own. -/
theorem OpJ.appendVec {P : Program} {o : Oper} {η : Operand → D} {σ : List Box} {x y : Operand} {E : TypeId} {ie : TI} (h : AppOK P o x y E ie) {l n m : Nat} {tx : Bool} {es es' : Nat → List C}
    (hx : η x = .e (.one (.vec l ie.size n es))) (hl : σ[l]? = some (.vec E ie.size n es)) (hy : ∀ s v, RdD σ s v (η y) → Rd s.M v (.sl tx ie.size m es')) (hb : (n + m) * ie.bytes ≤ 140737488355328) :
    OpJ P o η σ (.e (.one (.vec l ie.size (n + m) (appF n es es')))) (σ.set l (.vec E ie.size (n + m) (appF n es es'))) := by
  intro s ρ hh hr
  obtain ⟨t, t2, i, i2, ho, hi, hd, hi2, hd2⟩ := h.op
  have hlσ : l < σ.length := (List.getElem?_eq_some_iff.1 hl).1
  have h1 := hr x
  rw [hx] at h1
  obtain ⟨h1', _, h1v⟩ := h1
  obtain ⟨L, hL, hv⟩ := (h1v _ _ _ _ hl).2 rfl
  have h2 := hy s _ (hr y)
  have hlβ : l < s.β.length := (List.getElem?_eq_some_iff.1 hL).1
  have hbox := hh.box l _ L hl hL
  obtain ⟨a, cap, vs, hv0, hcap, hcb, ht, hF, hm⟩ := h1'.flat
  rw [execOp_append ho, hv0]
  rw [hv0] at h1'
  have hLv : L.v = .slice a n cap := by rw [← hv, hv0]
  by_cases h0 : m = 0
  · subst h0
    have hrun := run_append_zero (P := P) (ty := o.type) hi hd hi2 hd2 h.elem hh (a := a) hcap h2
    simp only [Nat.add_zero]
    have ha : ∀ i, i < n → es i = appF n es es' i := fun i hi => by simp [appF, hi]
    have hLB : BoxOK (σ.set l (.vec E ie.size n (appF n es es'))) ⟨s.β.set l L, s.M, s.w, s.own⟩ (.vec E ie.size n (appF n es es')) L := by
      refine ⟨hbox.1.reF ha, ?_⟩
      rcases hbox.2 with ⟨h3, h4⟩ | h3
      · exact .inl ⟨h3, h4.reF ha⟩
      · exact .inr h3
    have hst := hh.setBox (M' := s.M) (w' := s.w) (B' := .vec E ie.size n (appF n es es')) (L' := L) hl hL ⟨fun _ => rfl, Nat.le_refl _⟩ (Nat.le_refl _) (fun _ _ _ => rfl) (fun _ _ _ _ => rfl) (fun _ _ _ h => h) hh.mem
      (fun b hb => ⟨.inl hb, hh.lt L (List.mem_of_getElem? hL) b hb⟩) rfl rfl rfl hLB
    refine ⟨.value (.slice a n cap), _, ?_, ?_, hst.1, hst.2, ev_pureV (ev_append_zero hi hd hi2 hd2 h.elem hh hcap h2)⟩
    · simp [hrun]
    · rw [← hLv]
      exact rdA_vec (E := E) (by rw [List.getElem?_set_self hlσ]) (by simp only; rw [List.getElem?_set_self hlβ]) hLB
  · have hlen' : ¬ (n + m = n) := by omega
    by_cases hroom : n + m ≤ cap
    · rcases hbox.2 with ⟨hbs, htight⟩ | ⟨b, cap', cur, rfl, hw, hcur, hfree⟩
      · rw [hLv] at htight
        obtain ⟨_, _, _, e, _, _, ht2, _⟩ := htight.flat
        cases e
        have := ht2 rfl
        omega
      · simp only at hLv
        cases hLv
        obtain ⟨news, hFn, hrun⟩ := run_append_room2 (P := P) (ty := o.type) hi hd hi2 hd2 h.elem hh hw hcur h2 hroom
        have hnl : news.length = m * ie.size := hFn.len
        have hbs' : b < s.w.heap.size := (Array.getElem?_eq_some_iff.1 hw).1
        -- what is committed now
        let M' : Mem := fun b' o => if b' = b ∧ n * ie.size ≤ o ∧ o < (n + m) * ie.size then news[o - n * ie.size]? else s.M b' o
        have hcl : cur.length = cap * ie.size := hcur
        have hnm : (n + m) * ie.size = n * ie.size + m * ie.size := Nat.add_mul _ _ _
        have hnc : (n + m) * ie.size ≤ cap * ie.size := Nat.mul_le_mul_right _ hroom
        have hmm : ∀ b' o v, s.M b' o = some v → M' b' o = some v := by
          intro b' o v hmv
          simp only [M']
          rw [if_neg ?_]
          · exact hmv
          · rintro ⟨rfl, h1, _⟩
            rw [hfree o h1] at hmv
            cases hmv
        have hrow : ∀ p u, news[p]? = some u → M' b (n * ie.size + p) = some u := by
          intro p u hp
          have hlt : p < news.length := (List.getElem?_eq_some_iff.1 hp).1
          simp only [M']
          rw [if_pos ⟨by first | rfl | trivial, by omega, by omega⟩, Nat.add_sub_cancel_left]
          exact hp
        have hrd : Rd M' (.slice (some ⟨b, 0, none⟩) (n + m) cap) (.sl false ie.size (n + m) (appF n es es')) := by
          refine Rd.ofFlat (vs := vs ++ news) ((hF.append hFn).mono hmm) (b := b) (off := 0) (fun _ => rfl) hroom hcb (by simp) (fun p u hp => ?_)
          have hvl : vs.length = n * ie.size := hF.len
          rcases Nat.lt_or_ge p vs.length with hlt | hge
          · rw [List.getElem?_append_left hlt] at hp
            obtain ⟨b1, off1, e, hm1⟩ := hm p u hp
            cases e
            exact hmm _ _ _ hm1
          · rw [List.getElem?_append_right hge] at hp
            have := hrow _ u hp
            rw [show n * ie.size + (p - vs.length) = 0 + p by omega] at this
            exact this
        have hst := hh.setBox (M' := M') (w' := s.w.setRow b (cur.take (n * ie.size) ++ news ++ cur.drop (n * ie.size + news.length)).toArray) (B' := .vec E ie.size (n + m) (appF n es es')) (L' := ⟨.slice (some ⟨b, 0, none⟩) (n + m) cap, [b]⟩) hl hL
          ⟨fun e => absurd e hlen', by omega⟩ (by simp) (fun b' _ hb' => setRow_other _ _ _ _ (by simpa using hb')) (fun b' _ hb' o => by
            simp only [M']
            rw [if_neg (by simp at hb'; rintro ⟨e, _⟩; exact hb' e)]) hmm ?_ (fun b' hb' => by
            simp at hb'
            subst hb'
            exact ⟨.inl (by simp), by simpa using hbs'⟩) rfl rfl rfl ?_
        · refine ⟨.value (.slice (some ⟨b, 0, none⟩) (n + m) cap), _, ?_, ?_, hst.1, hst.2, ev_pureV (ev_append_room hi hd hi2 hd2 h.elem hh hw hcur h2 hroom (List.mem_of_getElem? hL) (by simp) hfree)⟩
          · simp [hrun]
          · exact rdA_vec (L := ⟨.slice (some ⟨b, 0, none⟩) (n + m) cap, [b]⟩) (E := E) (by rw [List.getElem?_set_self hlσ]) (by simp only; rw [List.getElem?_set_self hlβ]) (hst.1.box l _ _ (by rw [List.getElem?_set_self hlσ]) (by simp only; rw [List.getElem?_set_self hlβ]))
        · intro b' o v hmv
          by_cases hb' : b' = b
          · subst hb'
            have hcell : ∀ j, (s.w.setRow b' (cur.take (n * ie.size) ++ news ++ cur.drop (n * ie.size + news.length)).toArray).cell? ⟨b', j, none⟩ = (cur.take (n * ie.size) ++ news ++ cur.drop (n * ie.size + news.length))[j]? := by
              intro j
              rw [cell_setRow_same _ _ _ _ _ _ _ hw]
              simp
            rw [hcell]
            simp only [M'] at hmv
            have hkl : (cur.take (n * ie.size)).length = n * ie.size := by rw [List.length_take]; omega
            split at hmv
            · rename_i hc
              rw [List.append_assoc, List.getElem?_append_right (by omega), hkl, List.getElem?_append_left (by omega)]
              exact hmv
            · rename_i hc
              have h3 := hh.mem b' o v hmv
              have ho : o < n * ie.size := by
                rcases Nat.lt_or_ge o (n * ie.size) with h | h
                · exact h
                · rw [hfree o h] at hmv; cases hmv
              rw [List.append_assoc, List.getElem?_append_left (by omega), List.getElem?_take, if_pos ho]
              simp only [World.cell?, hw] at h3
              simpa using h3
          · simp only [M'] at hmv
            rw [if_neg (by rintro ⟨e, _⟩; exact hb' e)] at hmv
            rw [← hh.mem b' o v hmv]
            simp only [World.cell?]
            rw [setRow_other _ _ _ _ hb']
        · refine ⟨hrd, .inr ⟨b, cap, _, rfl, setRow_heap _ _ _ _ _ _ hw, ?_, fun o ho => ?_⟩⟩
          · simp only [List.length_append, List.length_take, List.length_drop]
            omega
          · simp only [M']
            rw [if_neg (by rintro ⟨_, _, h⟩; omega)]
            exact hfree o (by omega)
    · have hg : cap < n + m := by omega
      obtain ⟨vs', zs, ncap, hF', hn1, hn2, hlen, hrun⟩ := run_append_new (P := P) (ty := o.type) hi hd hi2 hd2 h.elem hh h1' h2 hg hb h.bytes
      have hbl : ∀ b ∈ L.bs, b < s.w.heap.size := hh.lt L (List.mem_of_getElem? hL)
      have hrd : Rd (fun b o => if b = s.w.heap.size then vs'[o]? else s.M b o) (.slice (some ⟨s.w.heap.size, 0, none⟩) (n + m) ncap) (.sl false ie.size (n + m) (appF n es es')) :=
        Rd.ofFlat (hF'.mono (grown_old hh vs')) (b := s.w.heap.size) (off := 0) (fun _ => rfl) hn1 hn2 (by simp) (fun p u hp => by simpa using hp)
      have hst := hh.setBox (M' := fun b o => if b = s.w.heap.size then vs'[o]? else s.M b o) (w' := s.w.drew.alloc (.cells (vs' ++ zs).toArray E)) (B' := .vec E ie.size (n + m) (appF n es es')) (L' := ⟨.slice (some ⟨s.w.heap.size, 0, none⟩) (n + m) ncap, [s.w.heap.size]⟩) hl hL
        ⟨fun e => absurd e hlen', by omega⟩ (by simp) (fun b hb _ => heap_alloc_lt s.w.drew _ hb) (fun b hb _ o => by simp [show b ≠ s.w.heap.size by omega]) (grown_old hh vs') (grown_mem hh E vs' zs) (fun b hb => by
          simp at hb
          subst hb
          exact ⟨.inr (Nat.le_refl _), by simp⟩) rfl rfl rfl ⟨hrd, .inr ⟨s.w.heap.size, ncap, vs' ++ zs, rfl, heap_alloc_at s.w.drew _, hlen, fun o ho => by
            have hl : vs'.length ≤ o := by rw [hF'.len]; exact ho
            simp [List.getElem?_eq_none hl]⟩⟩
      refine ⟨.value (.slice (some ⟨s.w.heap.size, 0, none⟩) (n + m) ncap), _, ?_, ?_, hst.1, hst.2, ev_pureV (ev_append_new hi hd hi2 hd2 h.elem hh h1' h2 hg hb h.bytes)⟩
      · simp [hrun]
      · exact rdA_vec (L := ⟨.slice (some ⟨s.w.heap.size, 0, none⟩) (n + m) ncap, [s.w.heap.size]⟩) (E := E) (by rw [List.getElem?_set_self hlσ]) (by simp only; rw [List.getElem?_set_self hlβ]) (hst.1.box l _ _ (by rw [List.getElem?_set_self hlσ]) (by simp only; rw [List.getElem?_set_self hlβ]))

end Go.AM

/- Calls: what a function is good for (Ev); a call of it; its body. -/
namespace Go.AM
open Go.Conc (G)

/-- The boxes (places) that a list of numbers names. -/
def sel {α : Type} : List Nat → List α → Option (List α)
  | [], _ => some []
  | k :: ks, l => match getX k l with
    | some x => match sel ks l with
      | some r => some (x :: r)
      | none => none
    | none => none

theorem getX_get {α : Type} : ∀ (n : Nat) (l : List α), getX n l = l[n]?
  | _, [] => by simp [getX]
  | 0, x :: _ => by simp [getX]
  | n + 1, _ :: xs => by simpa [getX] using getX_get n xs

theorem sel_get {α : Type} : ∀ {ks : List Nat} {l r : List α}, sel ks l = some r → r.length = ks.length ∧ ∀ (j k : Nat), ks[j]? = some k → ∃ x, r[j]? = some x ∧ l[k]? = some x
  | [], l, r, h => by cases h; simp
  | k :: ks, l, r, h => by
    simp only [sel] at h
    cases hx : getX k l with
    | none => simp [hx] at h
    | some x =>
      cases hr : sel ks l with
      | none => simp [hx, hr] at h
      | some q =>
        simp [hx, hr] at h
        subst h
        obtain ⟨h1, h2⟩ := sel_get hr
        refine ⟨by simp [h1], fun j k' hj => ?_⟩
        cases j with
        | zero => simp at hj; subst hj; exact ⟨x, rfl, getX_eq hx⟩
        | succ j => simp at hj; obtain ⟨y, y1, y2⟩ := h2 j k' hj; exact ⟨y, by simpa using y1, y2⟩

theorem sel_of {α β : Type} : ∀ {ks : List Nat} {l r : List α} {l' : List β}, sel ks l = some r → l'.length = l.length → ∃ r', sel ks l' = some r'
  | [], l, r, l', _, _ => ⟨[], rfl⟩
  | k :: ks, l, r, l', h, hl => by
    simp only [sel] at h
    cases hx : getX k l with
    | none => simp [hx] at h
    | some x =>
      cases hr : sel ks l with
      | none => simp [hx, hr] at h
      | some q =>
        obtain ⟨r', hr'⟩ := sel_of (l' := l') hr hl
        have hk : k < l'.length := by rw [hl]; exact (List.getElem?_eq_some_iff.1 (getX_eq hx)).1
        exact ⟨l'[k] :: r', by simp [sel, getX_get, hk, hr']⟩

def renA (ks : List Nat) : A → A
  | .ptr l o => match getX l ks with | some k => .ptr k o | none => .any
  | .vec l k n es => match getX l ks with | some m => .vec m k n es | none => .c (.sl false k n es)
  | .ref l => match getX l ks with | some k => .ref k | none => .any
  | .c x => .c x
  | .any => .any

def renL (ks : List Nat) : List A → List A
  | [] => []
  | a :: r => renA ks a :: renL ks r

def renE (ks : List Nat) : E1 → E1
  | .one a => .one (renA ks a)
  | .agg cs => .agg (renL ks cs)

def renEs (ks : List Nat) : List E1 → List E1
  | [] => []
  | a :: r => renE ks a :: renEs ks r

def renD (ks : List Nat) : D → D
  | .e x => .e (renE ks x)
  | .tup xs => .tup (renEs ks xs)
  | .any => .any

def renDs (ks : List Nat) : List D → List D
  | [] => []
  | a :: r => renD ks a :: renDs ks r

/-- Boxes that name no box. -/
def plainA : A → Bool
  | .c _ | .any => true
  | _ => false

def plainL : List A → Bool
  | [] => true
  | a :: r => match plainA a with | true => plainL r | false => false

def plainB : Box → Bool
  | .cells _ cs => plainL cs
  | .loop .. => false
  | _ => true

def plainBs : List Box → Bool
  | [] => true
  | a :: r => match plainB a with | true => plainBs r | false => false

theorem plainBs_mem : ∀ {l : List Box}, plainBs l = true → ∀ B ∈ l, plainB B = true
  | [], _, B, hB => by simp at hB
  | b :: r, h, B, hB => by
    simp only [plainBs] at h
    cases hb : plainB b with
    | false => simp [hb] at h
    | true =>
      simp only [hb] at h
      rcases List.mem_cons.1 hB with rfl | hB
      · exact hb
      · exact plainBs_mem h B hB

theorem RdL.plain {σ σ' : List Box} {s s' : St} (hM : s'.M = s.M) : ∀ {vs : List Value} {cs : List A}, plainL cs = true → RdL σ s vs cs → RdL σ' s' vs cs
  | [], [], _, _ => trivial
  | [], _ :: _, _, h => h.elim
  | _ :: _, [], _, h => h.elim
  | v :: vs, a :: al, hp, h => by
    simp only [plainL] at hp
    cases ha : plainA a with
    | false => simp [ha] at hp
    | true =>
      simp only [ha] at hp
      refine ⟨?_, RdL.plain hM hp h.2⟩
      cases a with
      | c x => have := h.1; simp only [RdA] at this ⊢; rw [hM]; exact this
      | any => exact h.1
      | _ => simp [plainA] at ha

theorem BoxOK.plain {σ σ' : List Box} {s s' : St} (hM : s'.M = s.M) (hw : s'.w = s.w) {B : Box} {L : Loc} (hp : plainB B = true) (h : BoxOK σ s B L) : BoxOK σ' s' B L := by
  cases B with
  | cells E cs =>
    obtain ⟨b, vs, h1, h2, h3, h4⟩ := h
    exact ⟨b, vs, h1, by rw [hw]; exact h2, h3.plain hM hp, fun o => by rw [hM]; exact h4 o⟩
  | vec E k n es => simp only [BoxOK, hM, hw] at h ⊢; exact h
  | opq H => simp only [BoxOK, hM, hw] at h ⊢; exact h
  | dead => trivial
  | loop N φ r => simp [plainB] at hp
  | dfr => simp only [BoxOK, hM, hw] at h ⊢; exact h

/-- No number twice. -/
def memX : Nat → List Nat → Bool
  | _, [] => false
  | k, x :: r => match Nat.beq k x with | true => true | false => memX k r

def nodupX : List Nat → Bool
  | [] => true
  | k :: r => match memX k r with | true => false | false => nodupX r

theorem memX_of : ∀ {k : Nat} {l : List Nat}, k ∈ l → memX k l = true
  | k, [], h => by simp at h
  | k, x :: r, h => by
    simp only [memX]
    cases hb : Nat.beq k x with
    | true => rfl
    | false =>
      rcases List.mem_cons.1 h with rfl | h
      · rw [Nat.beq_refl] at hb; cases hb
      · exact memX_of h

theorem nodupX_inj : ∀ {l : List Nat}, nodupX l = true → ∀ (i j k : Nat), l[i]? = some k → l[j]? = some k → i = j
  | [], _, i, j, k, hi, _ => by simp at hi
  | x :: r, h, i, j, k, hi, hj => by
    simp only [nodupX] at h
    cases hc : memX x r with
    | true => simp [hc] at h
    | false =>
      simp only [hc] at h
      have no : ∀ q, r[q]? = some x → False := fun q hq => by
        have := memX_of (List.mem_of_getElem? hq)
        rw [hc] at this
        cases this
      cases i with
      | zero =>
        cases j with
        | zero => rfl
        | succ j =>
          simp at hi hj
          subst hi
          exact (no _ hj).elim
      | succ i =>
        cases j with
        | zero =>
          simp at hi hj
          subst hj
          exact (no _ hi).elim
        | succ j =>
          simp at hi hj
          rw [nodupX_inj h i j k hi hj]

/-- Which boxes does it name? Those below n. -/
def inA (n : Nat) : A → Bool
  | .ptr l _ | .vec l _ _ _ | .ref l => Nat.ble (l + 1) n
  | _ => true

def inL (n : Nat) : List A → Bool
  | [] => true
  | a :: r => match inA n a with | true => inL n r | false => false

def inE (n : Nat) : E1 → Bool
  | .one a => inA n a
  | .agg cs => inL n cs

def inEs (n : Nat) : List E1 → Bool
  | [] => true
  | a :: r => match inE n a with | true => inEs n r | false => false

def inD (n : Nat) : D → Bool
  | .e x => inE n x
  | .tup xs => inEs n xs
  | .any => true

def inDs (n : Nat) : List D → Bool
  | [] => true
  | a :: r => match inD n a with | true => inDs n r | false => false

section sub
variable {ks : List Nat} {σ σ' : List Box} {s : St} {β' : List Loc}

theorem RdA.sub (hσ : sel ks σ = some σ') (hβ : sel ks s.β = some β') {v : Value} {a : A} (hr : RdA σ s v (renA ks a)) (hlt : inA ks.length a = true) : RdA σ' { s with β := β' } v a := by
  obtain ⟨l1, g1⟩ := sel_get hσ
  obtain ⟨l2, g2⟩ := sel_get hβ
  cases a with
  | c x => exact hr
  | any => exact hr
  | ptr l o =>
    have hl : l < ks.length := Nat.le_of_ble_eq_true hlt
    simp only [renA, getX_get, List.getElem?_eq_getElem hl] at hr
    obtain ⟨h1, L, b, h2, h3, h4⟩ := hr
    obtain ⟨x, x1, x2⟩ := g1 l _ (List.getElem?_eq_getElem hl)
    obtain ⟨y, y1, y2⟩ := g2 l _ (List.getElem?_eq_getElem hl)
    rw [y2] at h2
    cases h2
    exact ⟨fun E k n es he => h1 E k n es (by rw [x2, ← x1, he]), L, b, y1, h3, h4⟩
  | vec l k n es =>
    have hl : l < ks.length := Nat.le_of_ble_eq_true hlt
    simp only [renA, getX_get, List.getElem?_eq_getElem hl] at hr
    obtain ⟨h1, h2, h3⟩ := hr
    obtain ⟨x, x1, x2⟩ := g1 l _ (List.getElem?_eq_getElem hl)
    obtain ⟨y, y1, y2⟩ := g2 l _ (List.getElem?_eq_getElem hl)
    refine ⟨h1, by rw [l1]; exact hl, fun E k' n' es' he => ?_⟩
    obtain ⟨p1, p2⟩ := h3 E k' n' es' (by rw [x2, ← x1, he])
    refine ⟨p1, fun e => ?_⟩
    obtain ⟨L, hL, hv⟩ := p2 e
    rw [y2] at hL
    cases hL
    exact ⟨_, y1, hv⟩
  | ref l =>
    have hl : l < ks.length := Nat.le_of_ble_eq_true hlt
    simp only [renA, getX_get, List.getElem?_eq_getElem hl] at hr
    obtain ⟨h1, L, h2, h3, h4⟩ := hr
    obtain ⟨x, x1, x2⟩ := g1 l _ (List.getElem?_eq_getElem hl)
    obtain ⟨y, y1, y2⟩ := g2 l _ (List.getElem?_eq_getElem hl)
    rw [y2] at h2
    cases h2
    exact ⟨fun E k n es he => h1 E k n es (by rw [x2, ← x1, he]), L, y1, h3, h4⟩

/-- .. and back. -/
theorem RdA.unsub {σ2 : List Box} {s2 : St} (hM : s2.M = s.M) (hσ : ∀ (j : Nat) (B : Box), σ[j]? = some B → ∃ k, ks[j]? = some k ∧ σ2[k]? = some B) (hβ : ∀ (j : Nat) (L : Loc), s.β[j]? = some L → ∃ k, ks[j]? = some k ∧ s2.β[k]? = some L) (hlen : s.β.length = σ.length)
    {v : Value} {a : A} (hr : RdA σ s v a) : RdA σ2 s2 v (renA ks a) := by
  cases a with
  | c x => simp only [renA, RdA, hM]; exact hr
  | any => exact hr
  | ptr l o =>
    obtain ⟨h1, L, b, h2, h3, h4⟩ := hr
    obtain ⟨k, k1, k2⟩ := hβ l L h2
    have hl : l < σ.length := by rw [← hlen]; exact (List.getElem?_eq_some_iff.1 h2).1
    obtain ⟨k', k1', k2'⟩ := hσ l _ (List.getElem?_eq_getElem hl)
    rw [k1] at k1'
    cases k1'
    simp only [renA, getX_get, k1]
    refine ⟨fun E k3 n es he => ?_, L, b, k2, h3, h4⟩
    rw [k2'] at he
    exact h1 E k3 n es (by rw [List.getElem?_eq_getElem hl]; exact he)
  | vec l k n es =>
    obtain ⟨h1, h2, h3⟩ := hr
    obtain ⟨k1, p1, p2⟩ := hσ l _ (List.getElem?_eq_getElem h2)
    simp only [renA, getX_get, p1]
    refine ⟨by rw [hM]; exact h1, (List.getElem?_eq_some_iff.1 p2).1, fun E k' n' es' he => ?_⟩
    rw [p2] at he
    obtain ⟨q1, q2⟩ := h3 E k' n' es' (by rw [List.getElem?_eq_getElem h2]; exact he)
    refine ⟨q1, fun e => ?_⟩
    obtain ⟨L, hL, hv⟩ := q2 e
    obtain ⟨k2, r1, r2⟩ := hβ l L hL
    rw [p1] at r1
    cases r1
    exact ⟨L, r2, hv⟩
  | ref l =>
    obtain ⟨h1, L, h2, h3, h4⟩ := hr
    obtain ⟨k, k1, k2⟩ := hβ l L h2
    have hl : l < σ.length := by rw [← hlen]; exact (List.getElem?_eq_some_iff.1 h2).1
    obtain ⟨k', k1', k2'⟩ := hσ l _ (List.getElem?_eq_getElem hl)
    rw [k1] at k1'
    cases k1'
    simp only [renA, getX_get, k1]
    refine ⟨fun E k3 n es he => ?_, L, k2, h3, h4⟩
    rw [k2'] at he
    exact h1 E k3 n es (by rw [List.getElem?_eq_getElem hl]; exact he)

theorem RdL.sub (hσ : sel ks σ = some σ') (hβ : sel ks s.β = some β') : ∀ {vs : List Value} {cs : List A}, RdL σ s vs (renL ks cs) → inL ks.length cs = true → RdL σ' { s with β := β' } vs cs
  | [], [], _, _ => trivial
  | [], _ :: _, h, _ => h.elim
  | _ :: _, [], h, _ => h.elim
  | v :: vs, a :: al, h, hp => by
    simp only [inL] at hp
    cases ha : inA ks.length a with
    | false => simp [ha] at hp
    | true => simp only [ha] at hp; exact ⟨h.1.sub hσ hβ ha, RdL.sub hσ hβ h.2 hp⟩

theorem RdE.sub (hσ : sel ks σ = some σ') (hβ : sel ks s.β = some β') {v : Value} {x : E1} (h : RdE σ s v (renE ks x)) (hp : inE ks.length x = true) : RdE σ' { s with β := β' } v x := by
  cases x with
  | one a => exact RdA.sub hσ hβ h hp
  | agg cs => obtain ⟨vs, h1, h2⟩ := h; exact ⟨vs, h1, h2.sub hσ hβ hp⟩

theorem RdEs.sub (hσ : sel ks σ = some σ') (hβ : sel ks s.β = some β') : ∀ {vs : List Value} {xs : List E1}, RdEs σ s vs (renEs ks xs) → inEs ks.length xs = true → RdEs σ' { s with β := β' } vs xs
  | [], [], _, _ => trivial
  | [], _ :: _, h, _ => h.elim
  | _ :: _, [], h, _ => h.elim
  | v :: vs, a :: al, h, hp => by
    simp only [inEs] at hp
    cases ha : inE ks.length a with
    | false => simp [ha] at hp
    | true => simp only [ha] at hp; exact ⟨h.1.sub hσ hβ ha, RdEs.sub hσ hβ h.2 hp⟩

theorem RdD.sub (hσ : sel ks σ = some σ') (hβ : sel ks s.β = some β') {v : Value} {d : D} (h : RdD σ s v (renD ks d)) (hp : inD ks.length d = true) : RdD σ' { s with β := β' } v d := by
  cases d with
  | e x => exact RdE.sub hσ hβ h hp
  | tup xs => obtain ⟨vs, h1, h2⟩ := h; exact ⟨vs, h1, h2.sub hσ hβ hp⟩
  | any => trivial

theorem RdDs.sub (hσ : sel ks σ = some σ') (hβ : sel ks s.β = some β') : ∀ {vs : List Value} {ds : List D}, RdDs σ s vs (renDs ks ds) → inDs ks.length ds = true → RdDs σ' { s with β := β' } vs ds
  | [], [], _, _ => trivial
  | [], _ :: _, h, _ => h.elim
  | _ :: _, [], h, _ => h.elim
  | v :: vs, a :: al, h, hp => by
    simp only [inDs] at hp
    cases ha : inD ks.length a with
    | false => simp [ha] at hp
    | true => simp only [ha] at hp; exact ⟨h.1.sub hσ hβ ha, RdDs.sub hσ hβ h.2 hp⟩

variable {σ2 : List Box} {s2 : St}

theorem RdL.unsub (hM : s2.M = s.M) (hσ : ∀ (j : Nat) (B : Box), σ[j]? = some B → ∃ k, ks[j]? = some k ∧ σ2[k]? = some B) (hβ : ∀ (j : Nat) (L : Loc), s.β[j]? = some L → ∃ k, ks[j]? = some k ∧ s2.β[k]? = some L) (hlen : s.β.length = σ.length) :
    ∀ {vs : List Value} {cs : List A}, RdL σ s vs cs → RdL σ2 s2 vs (renL ks cs)
  | [], [], _ => trivial
  | [], _ :: _, h => h.elim
  | _ :: _, [], h => h.elim
  | _ :: _, _ :: _, h => ⟨h.1.unsub hM hσ hβ hlen, RdL.unsub hM hσ hβ hlen h.2⟩

theorem RdE.unsub (hM : s2.M = s.M) (hσ : ∀ (j : Nat) (B : Box), σ[j]? = some B → ∃ k, ks[j]? = some k ∧ σ2[k]? = some B) (hβ : ∀ (j : Nat) (L : Loc), s.β[j]? = some L → ∃ k, ks[j]? = some k ∧ s2.β[k]? = some L) (hlen : s.β.length = σ.length)
    {v : Value} {x : E1} (h : RdE σ s v x) : RdE σ2 s2 v (renE ks x) := by
  cases x with
  | one a => exact RdA.unsub hM hσ hβ hlen h
  | agg cs => obtain ⟨vs, h1, h2⟩ := h; exact ⟨vs, h1, h2.unsub hM hσ hβ hlen⟩

theorem RdEs.unsub (hM : s2.M = s.M) (hσ : ∀ (j : Nat) (B : Box), σ[j]? = some B → ∃ k, ks[j]? = some k ∧ σ2[k]? = some B) (hβ : ∀ (j : Nat) (L : Loc), s.β[j]? = some L → ∃ k, ks[j]? = some k ∧ s2.β[k]? = some L) (hlen : s.β.length = σ.length) :
    ∀ {vs : List Value} {xs : List E1}, RdEs σ s vs xs → RdEs σ2 s2 vs (renEs ks xs)
  | [], [], _ => trivial
  | [], _ :: _, h => h.elim
  | _ :: _, [], h => h.elim
  | _ :: _, _ :: _, h => ⟨h.1.unsub hM hσ hβ hlen, RdEs.unsub hM hσ hβ hlen h.2⟩

theorem RdD.unsub (hM : s2.M = s.M) (hσ : ∀ (j : Nat) (B : Box), σ[j]? = some B → ∃ k, ks[j]? = some k ∧ σ2[k]? = some B) (hβ : ∀ (j : Nat) (L : Loc), s.β[j]? = some L → ∃ k, ks[j]? = some k ∧ s2.β[k]? = some L) (hlen : s.β.length = σ.length)
    {v : Value} {d : D} (h : RdD σ s v d) : RdD σ2 s2 v (renD ks d) := by
  cases d with
  | e x => exact RdE.unsub hM hσ hβ hlen h
  | tup xs => obtain ⟨vs, h1, h2⟩ := h; exact ⟨vs, h1, h2.unsub hM hσ hβ hlen⟩
  | any => trivial
end sub

/-! ### Boxes handed over and taken back -/

/-- as List.set -/
def putB.setX {α : Type} : Nat → α → List α → List α
  | _, _, [] => []
  | 0, x, _ :: r => x :: r
  | k + 1, x, y :: r => y :: putB.setX k x r
def putB {α : Type} : List Nat → List α → List α → List α
  | [], new, old => old ++ new
  | k :: ks, x :: new, old => putB ks new (putB.setX k x old)
  | _ :: _, [], old => old

theorem setX_eq {α : Type} : ∀ (k : Nat) (x : α) (l : List α), putB.setX k x l = l.set k x
  | _, _, [] => by simp [putB.setX]
  | 0, x, _ :: r => by simp [putB.setX]
  | k + 1, x, y :: r => by simp [putB.setX, setX_eq k x r]

theorem putB_get {α : Type} : ∀ {ks : List Nat} {new old : List α}, nodupX ks = true → (∀ k ∈ ks, k < old.length) → ks.length ≤ new.length →
    (putB ks new old).length = old.length + (new.length - ks.length) ∧ (∀ (j k : Nat), ks[j]? = some k → (putB ks new old)[k]? = new[j]?) ∧
    (∀ j, (putB ks new old)[old.length + j]? = new[ks.length + j]?) ∧ (∀ l, l < old.length → l ∉ ks → (putB ks new old)[l]? = old[l]?)
  | [], new, old, _, _, _ => by
    refine ⟨by simp [putB], by simp, fun j => ?_, fun l hl _ => ?_⟩
    · simp only [putB, List.length_nil, Nat.zero_add]
      rw [List.getElem?_append_right (by omega), Nat.add_sub_cancel_left]
    · simp [putB, List.getElem?_append_left hl]
  | k :: ks, [], old, _, _, h => by simp at h
  | k :: ks, x :: new, old, hn, hlt, hle => by
    have hn' := hn
    simp only [nodupX] at hn
    cases hc : memX k ks with
    | true => simp [hc] at hn
    | false =>
      simp only [hc] at hn
      have hk : k < old.length := hlt k (by simp)
      have hnk : k ∉ ks := fun h => by rw [memX_of h] at hc; cases hc
      obtain ⟨h1, h2, h3, h4⟩ := putB_get (ks := ks) (new := new) (old := old.set k x) hn (fun k' hk' => by simpa using hlt k' (by simp [hk'])) (by simpa using hle)
      simp only [putB, setX_eq]
      refine ⟨by simp [h1], fun j k' hj => ?_, fun j => ?_, fun l hl hl' => ?_⟩
      · cases j with
        | zero =>
          simp at hj
          subst hj
          rw [h4 k (by simpa using hk) hnk, List.getElem?_set_self hk]
          rfl
        | succ j =>
          simp at hj
          rw [h2 j k' hj]
          simp
      · have := h3 j
        simp only [List.length_set] at this
        rw [this]
        simp [Nat.add_right_comm]
      · simp only [List.mem_cons, not_or] at hl'
        rw [h4 l (by simpa using hl) hl'.2, List.getElem?_set_ne (fun e => hl'.1 e.symm)]

/-! ### What a function is good for -/

/-- Called with these, over these boxes, it comes back with this, over those. -/
def Ev {P : Program} (X : Cx P) (f : FuncId) (args : List D) (σ : List Box) (res : D) (σ' : List Box) : Prop :=
  (∃ fn, P.funcs[f]? = some fn ∧ (fn.name == "runtime.NumGoroutine") = false ∧ fn.body.isNone = false) ∧
  ∀ s (vs : List Value), RdDs σ s vs args → HeapOK σ s → ∀ (S : Goroutine → St → Prop) (cs : List Frame),
    (∀ fr v s', Leav P f fr v s' → RdD σ' s' v res → HeapOK σ' s' → StepW σ s σ' s' → Arr X S (G fr cs) s') → Arr X S (G (Frame.enter P f vs.toArray .normal) cs) s

/-- .. with one of these, it is not told ahead with which. -/
def EvI {P : Program} {ι : Type} (X : Cx P) (f : FuncId) (args : List D) (σ : List Box) (res : ι → D) (σ' : ι → List Box) : Prop :=
  (∃ fn, P.funcs[f]? = some fn ∧ (fn.name == "runtime.NumGoroutine") = false ∧ fn.body.isNone = false) ∧
  ∀ s (vs : List Value), RdDs σ s vs args → HeapOK σ s → ∀ (S : Goroutine → St → Prop) (cs : List Frame),
    (∀ i fr v s', Leav P f fr v s' → RdD (σ' i) s' v (res i) → HeapOK (σ' i) s' → StepW σ s (σ' i) s' → Arr X S (G fr cs) s') → Arr X S (G (Frame.enter P f vs.toArray .normal) cs) s

theorem Ev.toI {P : Program} {X : Cx P} {f : FuncId} {args : List D} {σ : List Box} {res : D} {σ' : List Box} (h : Ev X f args σ res σ') : EvI (ι := Unit) X f args σ (fun _ => res) (fun _ => σ') :=
  ⟨h.1, fun s vs hr hh S cs hS => h.2 s vs hr hh S cs (hS ())⟩

theorem EvI.toEv {P : Program} {X : Cx P} {f : FuncId} {args : List D} {σ : List Box} {res : D} {σ' : List Box} (h : EvI (ι := Unit) X f args σ (fun _ => res) (fun _ => σ')) : Ev X f args σ res σ' :=
  ⟨h.1, fun s vs hr hh S cs hS => h.2 s vs hr hh S cs (fun _ => hS)⟩

/-- What the caller keeps while the callee is at work. -/
def ownS (s : St) (βs : List Loc) : Nat → Prop := fun b => s.own b ∨ ((∃ L ∈ s.β, b ∈ L.bs) ∧ ∀ L ∈ βs, b ∉ L.bs)

/-- The caller's places of the callee's boxes. -/
def upTo (n : Nat) : Nat → List Nat
  | 0 => []
  | m + 1 => n :: upTo (n + 1) m

theorem upTo_get : ∀ (m n j : Nat), (upTo n m)[j]? = if j < m then some (n + j) else none
  | 0, n, j => by simp [upTo]
  | m + 1, n, 0 => by simp [upTo]
  | m + 1, n, j + 1 => by
    simp only [upTo, List.getElem?_cons_succ, upTo_get m (n + 1) j, Nat.add_lt_add_iff_right]
    split
    · congr 1; omega
    · rfl

/-- The frame rule: a function's work on some of the boxes. -/
theorem frame {ks : List Nat} {σ σs σ1 : List Box} {s s1 : St} {βs : List Loc} (hh : HeapOK σ s) (hσ : sel ks σ = some σs) (hβ : sel ks s.β = some βs) (hn : nodupX ks = true)
    (hp : plainBs σ1 = true) (h1 : HeapOK σ1 s1) (st : StepW σs { s with β := βs, own := ownS s βs } σ1 s1) (hl1 : ks.length ≤ σ1.length) {v : Value} {res : D} (hr : RdD σ1 s1 v res) :
    ∃ s2 : St, s2.w = s1.w ∧ RdD (putB ks σ1 σ) s2 v (renD (ks ++ upTo σ.length (σ1.length - ks.length)) res) ∧ HeapOK (putB ks σ1 σ) s2 ∧ StepW σ s (putB ks σ1 σ) s2 ∧ s2.M = s1.M ∧ s2.own = s.own ∧ ∀ L ∈ s2.β, L ∈ s1.β ∨ (L ∈ s.β ∧ ∀ b ∈ L.bs, ∀ L' ∈ βs, b ∉ L'.bs) := by
  have hklt : ∀ k ∈ ks, k < σ.length := by
    intro k hk
    obtain ⟨j, hj, rfl⟩ := List.getElem_of_mem hk
    obtain ⟨x, _, h2⟩ := (sel_get hσ).2 j _ (List.getElem?_eq_getElem hj)
    exact (List.getElem?_eq_some_iff.1 h2).1
  have hkltβ : ∀ k ∈ ks, k < s.β.length := by rw [hh.len]; exact hklt
  have hl1β : ks.length ≤ s1.β.length := by rw [h1.len]; exact hl1
  obtain ⟨a1, a2, a3, a4⟩ := putB_get (new := σ1) (old := σ) hn hklt hl1
  obtain ⟨b1, b2, b3, b4⟩ := putB_get (new := s1.β) (old := s.β) hn hkltβ hl1β
  obtain ⟨c1, c2⟩ := sel_get hσ
  obtain ⟨d1, d2⟩ := sel_get hβ
  let ks2 := ks ++ upTo σ.length (σ1.length - ks.length)
  have kget : ∀ j, j < σ1.length → ∃ k, ks2[j]? = some k ∧ (putB ks σ1 σ)[k]? = σ1[j]? ∧ (putB ks s1.β s.β)[k]? = s1.β[j]? := by
    intro j hj
    rcases Nat.lt_or_ge j ks.length with hlt | hge
    · refine ⟨ks[j], ?_, a2 j _ (List.getElem?_eq_getElem hlt), b2 j _ (List.getElem?_eq_getElem hlt)⟩
      simp only [ks2]
      rw [List.getElem?_append_left hlt, List.getElem?_eq_getElem hlt]
    · refine ⟨σ.length + (j - ks.length), ?_, ?_, ?_⟩
      · simp only [ks2]
        rw [List.getElem?_append_right hge, upTo_get, if_pos (by omega)]
      · rw [a3]; congr 1; omega
      · rw [← hh.len, b3]; congr 1; omega
  -- which box is it?
  have kinv : ∀ l L, (putB ks s1.β s.β)[l]? = some L → (∃ j, j < σ1.length ∧ s1.β[j]? = some L ∧ (∀ B, (putB ks σ1 σ)[l]? = some B → σ1[j]? = some B) ∧ (∀ k, ks[j]? = some k → k = l) ∧ (j ≥ ks.length → l = σ.length + (j - ks.length))) ∨
      (l < σ.length ∧ l ∉ ks ∧ s.β[l]? = some L ∧ (putB ks σ1 σ)[l]? = σ[l]?) := by
    intro l L hL
    have hll : l < (putB ks s1.β s.β).length := (List.getElem?_eq_some_iff.1 hL).1
    rcases Nat.lt_or_ge l σ.length with hlt | hge
    · by_cases hm : l ∈ ks
      · obtain ⟨j, hj, rfl⟩ := List.getElem_of_mem hm
        have hk := List.getElem?_eq_getElem hj
        refine .inl ⟨j, by omega, by rw [← b2 j _ hk]; exact hL, fun B hB => by rw [← a2 j _ hk]; exact hB, fun k hk' => by rw [hk] at hk'; cases hk'; rfl, fun h => by omega⟩
      · exact .inr ⟨hlt, hm, by rw [← b4 l (by rw [hh.len]; exact hlt) hm]; exact hL, a4 l hlt hm⟩
    · rw [b1, h1.len, hh.len] at hll
      refine .inl ⟨ks.length + (l - σ.length), by omega, ?_, fun B hB => ?_, fun k hk => ?_, fun _ => by omega⟩
      · rw [← b3, hh.len, Nat.add_sub_cancel' hge]; exact hL
      · rw [← a3, Nat.add_sub_cancel' hge]; exact hB
      · have := (List.getElem?_eq_some_iff.1 hk).1; omega
  -- blocks of the boxes handed over
  have sub_in : ∀ L ∈ βs, L ∈ s.β := by
    intro L hL
    obtain ⟨j, hj, rfl⟩ := List.getElem_of_mem hL
    have hj' : j < ks.length := by rw [← d1]; exact hj
    obtain ⟨x, x1, x2⟩ := d2 j _ (List.getElem?_eq_getElem hj')
    rw [List.getElem?_eq_getElem hj] at x1
    cases x1
    exact List.mem_of_getElem? x2
  have other : ∀ l L, l ∉ ks → s.β[l]? = some L → ∀ b ∈ L.bs, b < s.w.heap.size ∧ ∀ L' ∈ βs, b ∉ L'.bs := by
    intro l L hl hL b hb
    refine ⟨hh.lt L (List.mem_of_getElem? hL) b hb, fun L' hL' hb' => ?_⟩
    obtain ⟨j, hj, rfl⟩ := List.getElem_of_mem hL'
    have hj' : j < ks.length := by rw [← d1]; exact hj
    obtain ⟨x, x1, x2⟩ := d2 j _ (List.getElem?_eq_getElem hj')
    rw [List.getElem?_eq_getElem hj] at x1
    cases x1
    have := hh.disj l ks[j] L _ hL x2 b hb hb'
    exact hl (this ▸ List.getElem_mem hj')
  have out : ∀ b, b < s.w.heap.size → (∀ L ∈ s.β, b ∉ L.bs) → ∀ L ∈ βs, b ∉ L.bs := fun b _ h L hL => h L (sub_in L hL)
  have ex : Ext σ s (putB ks σ1 σ) ⟨putB ks s1.β s.β, s1.M, s1.w, s.own⟩ := by
    refine ⟨st.mem, fun l B L hB hL => ?_⟩
    have hlt : l < σ.length := (List.getElem?_eq_some_iff.1 hB).1
    by_cases hm : l ∈ ks
    · obtain ⟨j, hj, rfl⟩ := List.getElem_of_mem hm
      have hk := List.getElem?_eq_getElem hj
      obtain ⟨x, x1, x2⟩ := c2 j _ hk
      obtain ⟨y, y1, y2⟩ := d2 j _ hk
      rw [hB] at x2; cases x2
      rw [hL] at y2; cases y2
      obtain ⟨B', L', p1, p2, p3⟩ := st.box j B L x1 y1
      exact ⟨B', L', by rw [a2 j _ hk, p1], by simp only; rw [b2 j _ hk, p2], p3⟩
    · exact ⟨B, L, by rw [a4 l hlt hm, hB], by simp only; rw [b4 l (by rw [hh.len]; exact hlt) hm, hL], .refl _ _⟩
  refine ⟨⟨putB ks s1.β s.β, s1.M, s1.w, s.own⟩, rfl, ?_, ⟨h1.mem, ?_, ?_, ?_, ?_, ?_⟩, ⟨st.size, ?_, st.mem, ?_, ?_, ex.box, st.os, st.tape, st.output, rfl⟩, rfl, rfl, ?_⟩
  · refine RdD.unsub (s := s1) (s2 := ⟨putB ks s1.β s.β, s1.M, s1.w, s.own⟩) (σ2 := putB ks σ1 σ) (ks := ks2) rfl (fun j B hB => ?_) (fun j L hL => ?_) h1.len hr
    · obtain ⟨k, k1, k2, _⟩ := kget j (List.getElem?_eq_some_iff.1 hB).1
      exact ⟨k, k1, by rw [k2, hB]⟩
    · obtain ⟨k, k1, _, k3⟩ := kget j (by rw [← h1.len]; exact (List.getElem?_eq_some_iff.1 hL).1)
      exact ⟨k, k1, by simp only; rw [k3, hL]⟩
  · simp only; rw [a1, b1, h1.len, hh.len]
  · intro l B L hB hL
    rcases kinv l L hL with ⟨j, hj, hjL, hjB, _⟩ | ⟨hl, hm, hL', hB'⟩
    · exact BoxOK.plain (σ := σ1) (s := s1) (s' := ⟨putB ks s1.β s.β, s1.M, s1.w, s.own⟩) rfl rfl (plainBs_mem hp B (List.mem_of_getElem? (hjB B hB))) (h1.box j B L (hjB B hB) hjL)
    · rw [hB'] at hB
      refine (hh.box l B L hB hL').carry ex hh.len fun b hb => ?_
      obtain ⟨o1, o2⟩ := other l L hm hL' b hb
      exact ⟨st.keep b (.inr ⟨⟨L, List.mem_of_getElem? hL', hb⟩, o2⟩), st.memk b o1 o2⟩
  · intro l l' L L' hL hL' b hb hb'
    rcases kinv l L hL with ⟨j, hj, hjL, _, hjk, hjn⟩ | ⟨hl, hm, hLo, _⟩ <;> rcases kinv l' L' hL' with ⟨j', hj', hjL', _, hjk', hjn'⟩ | ⟨hl', hm', hLo', _⟩
    · have e := h1.disj j j' L L' hjL hjL' b hb hb'
      subst e
      rcases Nat.lt_or_ge j ks.length with hlt | hge
      · rw [← hjk _ (List.getElem?_eq_getElem hlt), ← hjk' _ (List.getElem?_eq_getElem hlt)]
      · rw [hjn hge, hjn' hge]
    · obtain ⟨o1, o2⟩ := other l' L' hm' hLo' b hb'
      rcases st.bls L (List.mem_of_getElem? hjL) b hb with h | ⟨L0, h0, h0'⟩
      · simp only at h; omega
      · exact absurd h0' (o2 L0 h0)
    · obtain ⟨o1, o2⟩ := other l L hm hLo b hb
      rcases st.bls L' (List.mem_of_getElem? hjL') b hb' with h | ⟨L0, h0, h0'⟩
      · simp only at h; omega
      · exact absurd h0' (o2 L0 h0)
    · exact hh.disj l l' L L' hLo hLo' b hb hb'
  · intro L hL b hb
    obtain ⟨l, hl, rfl⟩ := List.getElem_of_mem hL
    rcases kinv l _ (List.getElem?_eq_getElem hl) with ⟨j, hj, hjL, _⟩ | ⟨_, _, hLo, _⟩
    · exact h1.lt _ (List.mem_of_getElem? hjL) b hb
    · have := hh.lt _ (List.mem_of_getElem? hLo) b hb
      have := st.size
      simp only at this ⊢
      omega
  · intro b hb
    refine ⟨?_, fun L hL hbL => ?_⟩
    · have := (hh.own b hb).1
      have := st.size
      simp only at this ⊢
      omega
    · obtain ⟨l, hl, rfl⟩ := List.getElem_of_mem hL
      rcases kinv l _ (List.getElem?_eq_getElem hl) with ⟨j, hj, hjL, _⟩ | ⟨_, _, hLo, _⟩
      · have ho : s1.own b := by rw [st.own]; exact .inl hb
        exact (h1.own b ho).2 _ (List.mem_of_getElem? hjL) hbL
      · exact (hh.own b hb).2 _ (List.mem_of_getElem? hLo) hbL
  · intro b hb
    exact st.keep b (.inl hb)
  · intro b hb hn' o
    exact st.memk b hb (out b hb hn') o
  · intro L hL b hb
    obtain ⟨l, hl, rfl⟩ := List.getElem_of_mem hL
    rcases kinv l _ (List.getElem?_eq_getElem hl) with ⟨j, hj, hjL, _⟩ | ⟨_, _, hLo, _⟩
    · rcases st.bls _ (List.mem_of_getElem? hjL) b hb with h | ⟨L0, h0, h0'⟩
      · exact .inl h
      · exact .inr ⟨L0, sub_in L0 h0, h0'⟩
    · exact .inr ⟨_, List.mem_of_getElem? hLo, hb⟩
  · intro L hL
    obtain ⟨l, hl, rfl⟩ := List.getElem_of_mem hL
    rcases kinv l _ (List.getElem?_eq_getElem hl) with ⟨j, hj, hjL, _⟩ | ⟨_, hm, hLo, _⟩
    · exact .inl (List.mem_of_getElem? hjL)
    · exact .inr ⟨List.mem_of_getElem? hLo, fun b hb => (other l _ hm hLo b hb).2⟩

end Go.AM

/- A call of a function that is known; a function's body; regions. -/
namespace Go.AM
open Go.Conc (G)

/-- Which function a callee is, and what it brings along. -/
def calleeE : D → Option (FuncId × List C)
  | .e (.one (.c (.fn (.func f) [] cap))) => some (f, cap)
  | _ => none

theorem RdDs_of {σ : List Box} {s : St} {ρ : Operand → Value} {η : Operand → D} (hr : ∀ y, RdD σ s (ρ y) (η y)) : ∀ l : List Operand, RdDs σ s (l.map ρ) (l.map η)
  | [] => trivial
  | x :: r => ⟨hr x, RdDs_of hr r⟩

theorem RdDs.append {σ : List Box} {s : St} : ∀ {vs vs' : List Value} {ds ds' : List D}, RdDs σ s vs ds → RdDs σ s vs' ds' → RdDs σ s (vs ++ vs') (ds ++ ds')
  | [], _, [], _, _, h => h
  | [], _, _ :: _, _, h, _ => h.elim
  | _ :: _, _, [], _, h, _ => h.elim
  | _ :: _, _, _ :: _, _, h, h' => ⟨h.1, RdDs.append h.2 h'⟩

/-- What a slot's value is as an argument: tokens are dropped, spare cells are forgotten. -/
def canA : A → A
  | .vec _ k n es => .c (.sl false k n es)
  | .c (.sl _ k n es) => .c (.sl false k n es)
  | a => a

theorem canA_ok {σ : List Box} {s : St} {v : Value} {a : A} (h : RdA σ s v a) : RdA σ s v (canA a) := by
  cases a with
  | vec l k n es => exact h.1
  | c x => cases x <;> first | exact h | exact Rd.loose h
  | _ => exact h

def canL : List A → List A
  | [] => []
  | a :: r => canA a :: canL r

theorem canL_ok {σ : List Box} {s : St} : ∀ {vs : List Value} {cs : List A}, RdL σ s vs cs → RdL σ s vs (canL cs)
  | [], [], _ => trivial
  | [], _ :: _, h => h.elim
  | _ :: _, [], h => h.elim
  | _ :: _, _ :: _, h => ⟨canA_ok h.1, canL_ok h.2⟩

def canD : D → D
  | .e (.one a) => .e (.one (canA a))
  | .e (.agg cs) => .e (.agg (canL cs))
  | d => d

theorem canD_ok {σ : List Box} {s : St} {v : Value} {d : D} (h : RdD σ s v d) : RdD σ s v (canD d) := by
  cases d with
  | e x => cases x with
    | one a => exact canA_ok h
    | agg cs => obtain ⟨vs, h1, h2⟩ := h; exact ⟨vs, h1, canL_ok h2⟩
  | tup xs => exact h
  | any => trivial

def canDs : List D → List D
  | [] => []
  | a :: r => canD a :: canDs r

theorem canDs_ok {σ : List Box} {s : St} : ∀ {vs : List Value} {ds : List D}, RdDs σ s vs ds → RdDs σ s vs (canDs ds)
  | [], [], _ => trivial
  | [], _ :: _, h => h.elim
  | _ :: _, [], h => h.elim
  | _ :: _, _ :: _, h => ⟨canD_ok h.1, canDs_ok h.2⟩

def capsD : List C → List D
  | [] => []
  | c :: r => .e (.one (.c c)) :: capsD r

theorem capsD_ok {σ : List Box} {s : St} : ∀ {vs : List Value} {cs : List C}, (∀ (j : Nat) (c : C), cs[j]? = some c → ∃ v, vs[j]? = some v ∧ Rd s.M v c) → vs.length = cs.length → RdDs σ s vs (capsD cs)
  | [], [], _, _ => trivial
  | [], _ :: _, _, h => by simp at h
  | _ :: _, [], _, h => by simp at h
  | v :: vs, c :: cs, h, hl => by
    obtain ⟨u, h1, h2⟩ := h 0 c rfl
    simp at h1
    subst h1
    exact ⟨h2, capsD_ok (fun j c hj => by simpa using h (j + 1) c (by simpa using hj)) (by simpa using hl)⟩

theorem sel_mem {α : Type} {ks : List Nat} {l r : List α} (h : sel ks l = some r) : ∀ x ∈ r, x ∈ l := by
  intro x hx
  obtain ⟨h1, h2⟩ := sel_get h
  obtain ⟨j, hj, rfl⟩ := List.getElem_of_mem hx
  obtain ⟨y, y1, y2⟩ := h2 j _ (List.getElem?_eq_getElem (by omega))
  rw [List.getElem?_eq_getElem hj] at y1
  cases y1
  exact List.mem_of_getElem? y2

/-- Some of the boxes, handed over. -/
theorem HeapOK.sub {ks : List Nat} {σ σs : List Box} {s : St} {βs : List Loc} (hh : HeapOK σ s) (hσ : sel ks σ = some σs) (hβ : sel ks s.β = some βs) (hp : plainBs σs = true) (hn : nodupX ks = true) :
    HeapOK σs { s with β := βs, own := ownS s βs } ∧ Ghost s { s with β := βs, own := ownS s βs } := by
  obtain ⟨c1, c2⟩ := sel_get hσ
  obtain ⟨d1, d2⟩ := sel_get hβ
  have hin : ∀ L ∈ βs, L ∈ s.β := sel_mem hβ
  refine ⟨⟨hh.mem, by simp [c1, d1], ?_, ?_, ?_, ?_⟩, ⟨rfl, fun _ _ _ h => h, fun _ _ _ => rfl, hh.mem, ?_⟩⟩
  · intro j B L hB hL
    have hj : j < ks.length := by rw [← c1]; exact (List.getElem?_eq_some_iff.1 hB).1
    obtain ⟨x, x1, x2⟩ := c2 j _ (List.getElem?_eq_getElem hj)
    obtain ⟨y, y1, y2⟩ := d2 j _ (List.getElem?_eq_getElem hj)
    rw [hB] at x1
    cases x1
    simp only at hL
    rw [hL] at y1
    cases y1
    exact BoxOK.plain (σ := σ) (s := s) (s' := { s with β := βs, own := ownS s βs }) rfl rfl (plainBs_mem hp B (List.mem_of_getElem? hB)) (hh.box _ B L x2 y2)
  · intro j j' L L' hL hL' b hb hb'
    simp only at hL hL'
    have hj : j < ks.length := by rw [← d1]; exact (List.getElem?_eq_some_iff.1 hL).1
    have hj' : j' < ks.length := by rw [← d1]; exact (List.getElem?_eq_some_iff.1 hL').1
    obtain ⟨y, y1, y2⟩ := d2 j _ (List.getElem?_eq_getElem hj)
    obtain ⟨y', y1', y2'⟩ := d2 j' _ (List.getElem?_eq_getElem hj')
    rw [hL] at y1; cases y1
    rw [hL'] at y1'; cases y1'
    have := hh.disj _ _ L L' y2 y2' b hb hb'
    exact nodupX_inj hn j j' ks[j] (List.getElem?_eq_getElem hj) (by rw [List.getElem?_eq_getElem hj', this])
  · intro L hL b hb
    exact hh.lt _ (hin L hL) b hb
  · rintro b (hb | ⟨⟨L, hL, hb⟩, hn'⟩)
    · exact ⟨(hh.own b hb).1, fun L hL => (hh.own b hb).2 L (hin L hL)⟩
    · exact ⟨hh.lt L hL b hb, hn'⟩
  · rintro b ((hb | ⟨⟨L, hL, hb⟩, _⟩) | ⟨L, hL, hb⟩)
    · exact .inl hb
    · exact .inr ⟨L, hL, hb⟩
    · exact .inr ⟨L, hin L hL, hb⟩

/-- Taken back. -/
theorem Ghost.back {σ σs σ1 : List Box} {s s1 s2 : St} {βs : List Loc} (hh : HeapOK σ s) (h1 : HeapOK σ1 s1) (st : StepW σs { s with β := βs, own := ownS s βs } σ1 s1) (hw : s2.w = s1.w) (hM : s2.M = s1.M) (ho : s2.own = s.own)
    (hβ : ∀ L ∈ s2.β, L ∈ s1.β ∨ (L ∈ s.β ∧ ∀ b ∈ L.bs, ∀ L' ∈ βs, b ∉ L'.bs)) : Ghost s1 s2 := by
  refine ⟨hw, fun b o v h => by rw [hM]; exact h, fun b _ o => by rw [hM], fun b o v h => by rw [hM] at h; exact h1.mem b o v h, ?_⟩
  rintro b (hb | ⟨L, hL, hb⟩)
  · left; rw [st.own]; exact .inl (by rw [← ho]; exact hb)
  · rcases hβ L hL with h | ⟨h, h3⟩
    · exact .inr ⟨L, h, hb⟩
    · left; rw [st.own]; exact .inr ⟨⟨L, h, hb⟩, h3 b hb⟩

/-- A call at which the callee is known: the machine's part. -/
theorem arr_callI {P : Program} {ι : Type} {X : Cx P} {S : Goroutine → St → Prop} {b : Frame} {k : List Item} {cs : List Frame} {a : Act} {s : St} {ops : Array Oper} {i : Nat} {rest : List Nat} {o : Oper} {ks : List Nat} {σ σs : List Box} {σ1 : ι → List Box} {f : FuncId} {cargs : List D} {res : ι → D} {vs : List Value}
    (hb : b.kind ≠ .early) (ho : ops[i]? = some o) (hw : Region.wanted o (yielded ops a.tmps) = true) (hh : HeapOK σ s) (hrun : ∀ w, (execOp a.eval o).run P w = .ok (.enter f vs.toArray) w) (hev0 : ∀ w, (execOp a.eval o).events P w #[] = #[])
    (hev : EvI X f cargs σs res σ1) (hargs : RdDs σ s vs (renDs ks cargs)) (hin : inDs ks.length cargs = true) (hσ : sel ks σ = some σs) (hp : plainBs σs = true) (hp1 : ∀ j, plainBs (σ1 j) = true) (hn : nodupX ks = true) (hl1 : ∀ j, ks.length ≤ (σ1 j).length)
    (h : ∀ j v s', RdD (putB ks (σ1 j) σ) s' v (renD (ks ++ upTo σ.length ((σ1 j).length - ks.length)) (res j)) → HeapOK (putB ks (σ1 j) σ) s' → StepW σ s (putB ks (σ1 j) σ) s' → Arr X S (G (b.aT (a.put o.dst v) (.inRegion ops rest :: k)) cs) s') :
    Arr X S (G (b.aT a (.inRegion ops (i :: rest) :: k)) cs) s := by
  obtain ⟨_, hcall⟩ := hev
  refine .next rfl fun s1 hr1 => ?_
  have hr := X.relyC hr1
  have hh1 := hh.rely hr
  obtain ⟨βs, hβ⟩ := sel_of (l' := s1.β) hσ hh1.len
  obtain ⟨hhs, hgs⟩ := hh1.sub hσ hβ hp hn
  have hargs1 : RdDs σ s1 vs (renDs ks cargs) := hargs.mono hr.stepW.ext hh.len
  have hsub : RdDs σs { s1 with β := βs, own := ownS s1 βs } vs cargs := (hargs1.sub (s := s1) hσ hβ hin).mono (σ := σs) (s := { s1 with β := βs }) (σ' := σs) (s' := { s1 with β := βs, own := ownS s1 βs }) ⟨fun _ _ _ h => h, fun l B L hB hL => ⟨B, L, hB, hL, .refl _ _⟩⟩ hhs.len
  refine ⟨_, s1, _, sg_enter ho hw hb (hrun s1.w), ?_, .ghost hgs (hcall _ vs hsub hhs S _ fun j fr v s2 hl hres hh2 st2 => ?_)⟩
  · refine ⟨⟨σ, σ, hh1, hh1, .refl _ _⟩, EvOK.seen ?_⟩
    rw [hev0]; exact .nil
  refine arr_leave (cs := cs) (c := b.aT a (.inRegion ops (i :: rest) :: k)) hh2 hl fun s3 hr3 => ?_
  have hh3 := hh2.rely hr3
  have st3 := st2.trans hr3.stepW
  obtain ⟨s4, hw4, hr4, hh4, st4, hM4, ho4, hβ4⟩ := frame hh1 hσ hβ hn (hp1 j) hh3 st3 (hl1 j) (hres.mono hr3.stepW.ext hh2.len)
  refine .ghost (Ghost.back hh1 hh3 st3 hw4 hM4 ho4 hβ4) ?_
  have hf := finish_aT (b := b) (a := a) (k := k) ops i rest v
  rw [ho] at hf
  simp only [Option.bind_some] at hf
  rw [hf]
  exact h j v s4 hr4 hh4 (hr.stepW.trans st4)

theorem arr_call {P : Program} {X : Cx P} {S : Goroutine → St → Prop} {b : Frame} {k : List Item} {cs : List Frame} {a : Act} {s : St} {ops : Array Oper} {i : Nat} {rest : List Nat} {o : Oper} {ks : List Nat} {σ σs : List Box} {σ1 : List Box} {f : FuncId} {cargs : List D} {res : D} {vs : List Value}
    (hb : b.kind ≠ .early) (ho : ops[i]? = some o) (hw : Region.wanted o (yielded ops a.tmps) = true) (hh : HeapOK σ s) (hrun : ∀ w, (execOp a.eval o).run P w = .ok (.enter f vs.toArray) w) (hev0 : ∀ w, (execOp a.eval o).events P w #[] = #[])
    (hev : Ev X f cargs σs res σ1) (hargs : RdDs σ s vs (renDs ks cargs)) (hin : inDs ks.length cargs = true) (hσ : sel ks σ = some σs) (hp : plainBs σs = true) (hp1 : plainBs σ1 = true) (hn : nodupX ks = true) (hl1 : ks.length ≤ σ1.length)
    (h : ∀ v s', RdD (putB ks σ1 σ) s' v (renD (ks ++ upTo σ.length (σ1.length - ks.length)) res) → HeapOK (putB ks σ1 σ) s' → StepW σ s (putB ks σ1 σ) s' → Arr X S (G (b.aT (a.put o.dst v) (.inRegion ops rest :: k)) cs) s') :
    Arr X S (G (b.aT a (.inRegion ops (i :: rest) :: k)) cs) s :=
  arr_callI hb ho hw hh hrun hev0 hev.toI hargs hin hσ hp (fun _ => hp1) hn (fun _ => hl1) (fun _ => h)

/-- THE CALL. The callee's contract is over the boxes ks of the caller's. -/
theorem run_callV {P : Program} {o : Oper} {fo : Operand} {xs : Array Operand} {ats : Array TypeId} (ho : o.op = .call { callee := .value fo, args := xs, argTypes := ats }) {f : FuncId} {fn : Func} (hfn : P.funcs[f]? = some fn) (hnum : (fn.name == "runtime.NumGoroutine") = false) (hbody : fn.body.isNone = false)
    {a : Act} {cs : List Value} (hv : a.eval fo = .func (.func f) #[] cs.toArray) (w : World) :
    (execOp a.eval o).run P w = .ok (.enter f (xs.toList.map a.eval ++ cs).toArray) w ∧ (execOp a.eval o).events P w #[] = #[] := by
  have hx' : (xs.map a.eval ++ cs.toArray) = (xs.toList.map a.eval ++ cs).toArray := by apply Array.ext'; simp
  have hnum' : fn.name ≠ "runtime.NumGoroutine" := by simpa using hnum
  have hbody' : fn.body ≠ none := by intro e; rw [e] at hbody; cases hbody
  constructor
  · simp [execOp, ho, resolve, hv, Deferred.ofValue, invoke, callFunc, hfn, hnum', hbody', hx']
  · simp [execOp, ho, resolve, hv, Deferred.ofValue, invoke, callFunc, hfn, hnum', hbody']

theorem AOps.callR {P : Program} {ι : Type} {X : Cx P} {N : Nat} {all rest : List Oper} {Q : Fr → List Box → Prop} {φ : Fr} {σ : List Box} {o : Oper} {fo : Operand} {xs : Array Operand} {ats : Array TypeId}
    (hg : ∀ σ s a, FrOK N σ s φ a → Region.wanted o (yielded all.toArray a.tmps) = true) (ho : o.op = .call { callee := .value fo, args := xs, argTypes := ats })
    {f : FuncId} {cap : List C} (hf : calleeE (absO φ fo) = some (f, cap)) (ks : List Nat) {cargs : List D} {σs : List Box} {σ1 : ι → List Box} {res : ι → D} (hev : EvI X f cargs σs res σ1)
    (hargs : ∀ s vs, RdDs σ s vs (xs.toList.map (absO φ) ++ capsD cap) → RdDs σ s vs (renDs ks cargs)) (hin : inDs ks.length cargs = true) (hσ : sel ks σ = some σs) (hp : plainBs σs = true) (hp1 : ∀ j, plainBs (σ1 j) = true) (hn : nodupX ks = true) (hl1 : ∀ j, ks.length ≤ (σ1 j).length)
    (d : Option Nat) (hd : o.dst = d) (hN : ∀ t, d = some t → t < N)
    (k : ∀ j, AOps X N all rest Q (putD d (renD (ks ++ upTo σ.length ((σ1 j).length - ks.length)) (res j)) φ) (putB ks (σ1 j) σ)) : AOps X N all (o :: rest) Q φ σ := by
  subst hd
  intro s a hfr hh b kk cs S idx hb hidx hQ
  cases idx with
  | nil => exact hidx.elim
  | cons i idx =>
  obtain ⟨hi, hidx⟩ := hidx
  have hfo := absO_ok hfr fo
  unfold calleeE at hf
  split at hf
  case h_2 => cases hf
  case h_1 f' cap' he =>
    cases hf
    rw [he] at hfo
    have hfo' := rdC hfo
    generalize hv : a.eval fo = fv at hfo'
    cases hfo' with
    | fn fs cs' hl hl' f1 f2 h1 h2 r1 r2 =>
      have hfs : fs = [] := List.eq_nil_of_length_eq_zero hl
      subst hfs
      have hcaps : RdDs σ s cs' (capsD cap) := capsD_ok (fun j c hj => ⟨f2 j, h2 j (by rw [hl']; exact (List.getElem?_eq_some_iff.1 hj).1), r2 j c hj⟩) hl'
      have hall : RdDs σ s (xs.toList.map a.eval ++ cs') (renDs ks cargs) := by
        exact hargs _ _ ((RdDs_of (absO_ok hfr) xs.toList).append hcaps)
      obtain ⟨fn, hfn, hnum, hbody⟩ := hev.1
      refine arr_callI hb hi (hg _ _ _ hfr) hh (fun w => (run_callV ho hfn hnum hbody hv w).1) (fun w => (run_callV ho hfn hnum hbody hv w).2) hev hall hin hσ hp hp1 hn hl1 fun j v s' hr hh' st => ?_
      refine k j s' _ ?_ hh' b kk cs S idx hb hidx fun φ3 σ3 s3 a3 q f3 h3 st3 => hQ φ3 σ3 s3 a3 q f3 h3 (st.trans st3)
      cases hdd : o.dst with
      | none => exact hfr.mono st hh.len
      | some t => exact (hfr.mono st hh.len).put (hN t hdd) hr

theorem AOps.callI {P : Program} {ι : Type} {X : Cx P} {N : Nat} {all rest : List Oper} {Q : Fr → List Box → Prop} {φ : Fr} {σ : List Box} {o : Oper} {fo : Operand} {xs : Array Operand} {ats : Array TypeId}
    (hg : ∀ σ s a, FrOK N σ s φ a → Region.wanted o (yielded all.toArray a.tmps) = true) (ho : o.op = .call { callee := .value fo, args := xs, argTypes := ats })
    {f : FuncId} {cap : List C} (hf : calleeE (absO φ fo) = some (f, cap)) (ks : List Nat) {cargs : List D} {σs : List Box} {σ1 : ι → List Box} {res : ι → D} (hev : EvI X f cargs σs res σ1)
    (hargs : canDs (xs.toList.map (absO φ) ++ capsD cap) = renDs ks cargs) (hin : inDs ks.length cargs = true) (hσ : sel ks σ = some σs) (hp : plainBs σs = true) (hp1 : ∀ j, plainBs (σ1 j) = true) (hn : nodupX ks = true) (hl1 : ∀ j, ks.length ≤ (σ1 j).length)
    (d : Option Nat) (hd : o.dst = d) (hN : ∀ t, d = some t → t < N)
    (k : ∀ j, AOps X N all rest Q (putD d (renD (ks ++ upTo σ.length ((σ1 j).length - ks.length)) (res j)) φ) (putB ks (σ1 j) σ)) : AOps X N all (o :: rest) Q φ σ :=
  AOps.callR hg ho hf ks hev (fun s vs h => by rw [← hargs]; exact canDs_ok h) hin hσ hp hp1 hn hl1 d hd hN k

theorem AOps.call {P : Program} {X : Cx P} {N : Nat} {all rest : List Oper} {Q : Fr → List Box → Prop} {φ : Fr} {σ : List Box} {o : Oper} {fo : Operand} {xs : Array Operand} {ats : Array TypeId}
    (hg : ∀ σ s a, FrOK N σ s φ a → Region.wanted o (yielded all.toArray a.tmps) = true) (ho : o.op = .call { callee := .value fo, args := xs, argTypes := ats })
    {f : FuncId} {cap : List C} (hf : calleeE (absO φ fo) = some (f, cap)) (ks : List Nat) {cargs : List D} {σs σ1 : List Box} {res : D} (hev : Ev X f cargs σs res σ1)
    (hargs : canDs (xs.toList.map (absO φ) ++ capsD cap) = renDs ks cargs) (hin : inDs ks.length cargs = true) (hσ : sel ks σ = some σs) (hp : plainBs σs = true) (hp1 : plainBs σ1 = true) (hn : nodupX ks = true) (hl1 : ks.length ≤ σ1.length)
    (d : Option Nat) (hd : o.dst = d) (hN : ∀ t, d = some t → t < N)
    (k : AOps X N all rest Q (putD d (renD (ks ++ upTo σ.length (σ1.length - ks.length)) res) φ) (putB ks σ1 σ)) : AOps X N all (o :: rest) Q φ σ :=
  AOps.callI hg ho hf ks hev.toI hargs hin hσ hp (fun _ => hp1) hn (fun _ => hl1) d hd hN (fun _ => k)

/-! ### Regions -/

theorem Names.range (all : List Oper) : Names all (List.range all.toArray.size) all := by
  have key : ∀ (l : List Oper) (n : Nat), (∀ j o, l[j]? = some o → all[n + j]? = some o) → Names all (List.range' n l.length) l := by
    intro l
    induction l with
    | nil => intro n _; trivial
    | cons o r ih =>
      intro n h
      rw [List.length_cons, List.range'_succ]
      refine ⟨by simpa using h 0 o rfl, ih (n + 1) fun j o' hj => ?_⟩
      have := h (j + 1) o' (by simpa using hj)
      rwa [show n + (j + 1) = n + 1 + j by omega] at this
  have := key all 0 (fun j o h => by simpa using h)
  rw [List.range_eq_range']
  simpa using this

theorem AW.region {P : Program} {X : Cx P} {N : Nat} {Q : Post} {φ : Fr} {σ : List Box} {id : Nat} {ops : Array Oper} (h : AOps X N ops.toList ops.toList (fun φ σ => Q .normal φ σ) φ σ) : AW X N (.region id ops false) Q φ σ := by
  intro s a f hh b k cs S hb hQ
  refine .ctl hh rfl (fun _ => sg_region) fun s1 h1 => ?_
  have := h s1 a (f.rely h1 hh) (hh.rely h1) b k cs S (List.range ops.size) hb (by simpa using Names.range ops.toList) fun φ' σ' s' a' q f' h' st => hQ .normal φ' σ' s' a' q f' h' (h1.stepW.trans st)
  simpa using this

theorem AOps.nil {P : Program} {X : Cx P} {N : Nat} {all : List Oper} {Q : Fr → List Box → Prop} {φ : Fr} {σ : List Box} (h : Q φ σ) : AOps X N all [] Q φ σ := by
  intro s a f hh b k cs S idx _ hidx hQ
  cases idx with
  | cons i idx => exact hidx.elim
  | nil => exact .ctl hh rfl (fun _ => sg_region_end) fun s1 h1 => hQ φ σ s1 a h (f.rely h1 hh) (hh.rely h1) h1.stepW

theorem AOps.mono {P : Program} {X : Cx P} {N : Nat} {all rest : List Oper} {Q Q' : Fr → List Box → Prop} {φ : Fr} {σ : List Box} (h : AOps X N all rest Q φ σ) (hq : ∀ φ σ, Q φ σ → Q' φ σ) : AOps X N all rest Q' φ σ :=
  fun s a f hh b k cs S idx hb hi hQ => h s a f hh b k cs S idx hb hi fun φ' σ' s' a' q f' h' st => hQ φ' σ' s' a' (hq _ _ q) f' h' st

theorem AOps.le {P : Program} {X : Cx P} {N : Nat} {all rest : List Oper} {Q : Fr → List Box → Prop} {φ φ' : Fr} {σ : List Box} (h : AOps X N all rest Q φ' σ) (hl : FrLe φ φ') : AOps X N all rest Q φ σ :=
  fun s a f hh b k cs S idx hb hi hQ => h s a (f.le hl) hh b k cs S idx hb hi hQ

/-! ### A function's body -/

def argFr : Nat → List D → Fr
  | _, [] => []
  | i, d :: r => (i, d) :: argFr (i + 1) r

theorem look_argFr : ∀ (ds : List D) (i t : Nat), look (argFr i ds) t = if i ≤ t then (ds[t - i]?).getD .any else .any
  | [], i, t => by simp [argFr, look]
  | d :: r, i, t => by
    simp only [argFr, look]
    by_cases e : i = t
    · subst e
      rw [show Nat.beq i i = true from Nat.beq_refl i]
      simp
    · have : Nat.beq i t = false := by
        cases h : Nat.beq i t
        · rfl
        · exact absurd (Nat.eq_of_beq_eq_true h) e
      rw [this]
      simp only [cond, look_argFr r (i + 1) t]
      by_cases hle : i ≤ t
      · rw [if_pos (by omega), if_pos hle, show t - i = (t - (i + 1)) + 1 by omega]
        simp
      · rw [if_neg (by omega), if_neg hle]

theorem RdDs.get {σ : List Box} {s : St} : ∀ {vs : List Value} {ds : List D}, RdDs σ s vs ds → vs.length = ds.length ∧ ∀ (j : Nat), RdD σ s ((vs[j]?).getD undef) ((ds[j]?).getD .any)
  | [], [], _ => ⟨rfl, fun j => by simp [RdD]⟩
  | [], _ :: _, h => h.elim
  | _ :: _, [], h => h.elim
  | v :: vs, d :: ds, h => by
    obtain ⟨h1, h2⟩ := RdDs.get h.2
    refine ⟨by simp [h1], fun j => ?_⟩
    cases j with
    | zero => simpa using h.1
    | succ j => simpa using h2 j

/-- How a function's results are read off the slots. -/
def resD (φ : Fr) : List ResultVar → Option (List D)
  | [] => some []
  | .tmp t :: r => match resD φ r with
    | some q => some (look φ t :: q)
    | none => none
  | .cell _ _ :: _ => none

def toE1s : List D → Option (List E1)
  | [] => some []
  | .e x :: r => match toE1s r with
    | some q => some (x :: q)
    | none => none
  | _ :: _ => none

/-- One result by itself, several as a tuple. -/
def joinD : List D → Option D
  | [d] => some d
  | ds => match toE1s ds with
    | some es => some (.tup es)
    | none => none

def resSem (a : Act) : ResultVar → Sem Value
  | ResultVar.tmp t => pure (a.tmps.getD t undef)
  | ResultVar.cell ad t => do loadVar t (← asAddr (a.tmps.getD ad undef))

theorem resD_ok (P : Program) {N : Nat} {σ : List Box} {s : St} {φ : Fr} {a : Act} (f : FrOK N σ s φ a) : ∀ {rs : List ResultVar} {ds : List D}, resD φ rs = some ds →
    ∃ vs, (∀ w, (rs.mapM (resSem a)).run P w = Result.ok vs w) ∧ RdDs σ s vs ds ∧ Still P (rs.mapM (resSem a))
  | [], ds, h => by cases h; exact ⟨[], by simp, trivial, by rw [List.mapM_nil]; exact .pure⟩
  | .tmp t :: r, ds, h => by
    simp only [resD] at h
    cases hq : resD φ r with
    | none => simp [hq] at h
    | some q =>
      simp [hq] at h
      subst h
      obtain ⟨vs, h1, h2, h3⟩ := resD_ok P f hq
      refine ⟨a.tmps.getD t undef :: vs, ?_, ⟨f.slot t, h2⟩, ?_⟩
      · intro w; simp only [List.mapM_cons, Sem.run_bind, resSem, Sem.run_pure, Result.andThen_ok, h1]
      · rw [List.mapM_cons]; exact .bind .pure fun _ => .bind h3 fun _ => .pure
  | .cell ad t :: r, ds, h => by simp [resD] at h

theorem toE1s_ok {σ : List Box} {s : St} : ∀ {vs : List Value} {ds : List D} {es : List E1}, toE1s ds = some es → RdDs σ s vs ds → RdEs σ s vs es
  | [], [], es, h, _ => by cases h; trivial
  | [], _ :: _, _, _, h => h.elim
  | _ :: _, [], _, _, h => h.elim
  | v :: vs, .e x :: r, es, h, hr => by
    simp only [toE1s] at h
    cases hq : toE1s r with
    | none => simp [hq] at h
    | some q => simp [hq] at h; subst h; exact ⟨hr.1, toE1s_ok hq hr.2⟩
  | _ :: _, .tup _ :: _, es, h, _ => by simp [toE1s] at h
  | _ :: _, .any :: _, es, h, _ => by simp [toE1s] at h

theorem joinD_ok {σ : List Box} {s : St} {vs : List Value} {ds : List D} {d : D} (h : joinD ds = some d) (hr : RdDs σ s vs ds) : RdD σ s (if h : vs.length = 1 then vs[0] else .tuple vs.toArray) d := by
  unfold joinD at h
  split at h
  · rename_i d'
    cases h
    match vs, hr with
    | [v], hr => simpa using hr.1
  · rename_i hne
    cases hq : toE1s ds with
    | none => simp [hq] at h
    | some es =>
      simp [hq] at h
      subst h
      have hl : vs.length ≠ 1 := by
        intro e
        rw [(RdDs.get hr).1] at e
        match ds, e with
        | [x], _ => exact hne x rfl
      rw [dif_neg hl]
      exact ⟨vs, rfl, toE1s_ok hq hr⟩

/-- What a function hands back, whatever cells it reads for it. -/
def ResJ (P : Program) (fn : Func) (φ : Fr) (d : D) : Prop := ∀ {N : Nat} {σ : List Box} {s : St} {a : Act}, FrOK N σ s φ a → ∃ v, RdD σ s v d ∧ ∀ w, (∀ b o u, s.M b o = some u → w.cell? ⟨b, o, none⟩ = some u) → (results fn a.tmps).run P w = .ok v w ∧ ∀ e ∈ (results fn a.tmps).events P w #[], ∃ b o u, e = ⟨.cell ⟨b, o, none⟩, false, false⟩ ∧ s.M b o = some u

theorem run_results {P : Program} {N : Nat} {σ : List Box} {s : St} {φ : Fr} {a : Act} (f : FrOK N σ s φ a) {fn : Func} {ds : List D} {d : D} (h : resD φ fn.results.toList = some ds) (hj : joinD ds = some d) :
    ∃ v, (∀ w, (results fn a.tmps).run P w = .ok v w) ∧ RdD σ s v d ∧ Still P (results fn a.tmps) := by
  obtain ⟨vs, h1, h2, h3⟩ := resD_ok P f h
  refine ⟨_, fun w => ?_, joinD_ok hj h2, ?_⟩
  · have e : (fn.results.mapM (resSem a)).run P w = Result.ok vs.toArray w := by
      rw [Array.mapM_eq_mapM_toList]
      simp only [Sem.run_map, h1, Result.andThen_ok]
    unfold results
    rw [Sem.run_bind]
    refine (congrArg (fun r => Result.andThen r _) (Eq.trans ?_ e)).trans ?_
    · congr 2
    · simp
  · unfold results
    have e : Still P (fn.results.mapM (resSem a)) := by
      rw [Array.mapM_eq_mapM_toList]; exact .map h3
    exact .bind e fun _ => .pure


theorem ResJ.of {P : Program} {fn : Func} {φ : Fr} {ds : List D} {d : D} (h : resD φ fn.results.toList = some ds) (hj : joinD ds = some d) : ResJ P fn φ d := by
  intro N σ s a f
  obtain ⟨v, h1, h2, h3⟩ := run_results (P := P) f h hj
  exact ⟨v, h2, fun w _ => ⟨h1 w, fun e he => by rw [h3 w #[]] at he; simp at he⟩⟩

end Go.AM

/- What a function has put off is done at its end: the blocks of its loops over functions. -/
namespace Go.AM
open Go.Conc (G)

theorem HeapOK.allDead {σ : List Box} {s : St} (h : HeapOK σ s) : HeapOK (σ.map fun _ => .dead) s := by
  refine ⟨h.mem, by simp [h.len], fun l B L hB hL => ?_, h.disj, h.lt, h.own⟩
  simp only [List.getElem?_map] at hB
  cases hx : σ[l]? with
  | none => rw [hx] at hB; cases hB
  | some x => rw [hx] at hB; cases hB; trivial

/-- As it was, but for some of the boxes. -/
structure UnR (ls : List Nat) (s s' : St) : Prop where
  β : s'.β = s.β
  M : s'.M = s.M
  own : s'.own = s.own
  size : s.w.heap.size ≤ s'.w.heap.size
  keep : ∀ b, (s.own b ∨ ∃ (l : Nat) (L : Loc), s.β[l]? = some L ∧ l ∉ ls ∧ b ∈ L.bs) → s'.w.heap[b]? = s.w.heap[b]?
  mem : ∀ b o v, s.M b o = some v → s'.w.cell? ⟨b, o, none⟩ = some v
  os : s'.w.os = s.w.os
  tape : s'.w.tape = s.w.tape
  output : s'.w.output = s.w.output

theorem RelyC.unR {s s' : St} (h : RelyC s s') (ls : List Nat) : UnR ls s s' :=
  ⟨h.β, h.M, h.own, h.size, fun b hb => h.keep b (hb.imp id fun ⟨l, L, h1, _, h3⟩ => ⟨L, List.mem_of_getElem? h1, h3⟩), h.mem, h.os, h.tape, h.output⟩

theorem UnR.cat {l : Nat} {ls : List Nat} {s s1 s2 : St} (h : UnR [l] s s1) (k : UnR ls s1 s2) : UnR (l :: ls) s s2 := by
  refine ⟨k.β.trans h.β, k.M.trans h.M, k.own.trans h.own, Nat.le_trans h.size k.size, fun b hb => ?_, fun b o v hv => k.mem b o v (by rw [h.M]; exact hv), k.os.trans h.os, k.tape.trans h.tape, k.output.trans h.output⟩
  rw [k.keep b, h.keep b (hb.imp id fun ⟨l', L, h1, h2, h3⟩ => ⟨l', L, h1, fun hc => h2 (by simp at hc; simp [hc]), h3⟩)]
  rw [h.own, h.β]
  exact hb.imp id fun ⟨l', L, h1, h2, h3⟩ => ⟨l', L, h1, fun hc => h2 (List.mem_cons_of_mem _ hc), h3⟩

theorem run_take {P : Program} {w : World} {r : Nat} (hr : w.heap[r]? = some (.deferred (some []))) :
    (Instr.takeDeferred r).run P w = .ok [] { w with heap := w.heap.setIfInBounds r (.deferred none) } ∧ (Instr.takeDeferred r).events P w #[] = #[⟨.obj r, false, false⟩, ⟨.obj r, true, false⟩] := by
  have h1 : (getObj r).run P w = .ok (.deferred (some [])) w := by simp only [getObj, Sem.run, hr]
  have h2 : (setObj r (.deferred none)).run P w = .ok () { w with heap := w.heap.setIfInBounds r (.deferred none) } := by simp only [setObj, Sem.run, hr]
  have h3 : ∀ es, (getObj r).events P w es = es.push ⟨.obj r, false, false⟩ := fun es => by simp only [getObj, Sem.events, Sem.runT, hr]; rfl
  have h4 : ∀ es, (setObj r (.deferred none)).events P w es = es.push ⟨.obj r, true, false⟩ := fun es => by simp only [setObj, Sem.events, Sem.runT, hr]; rfl
  constructor
  · simp [Instr.takeDeferred, h1, h2]
  · simp [Instr.takeDeferred, h1, h3, h4]

variable {P : Program} {X : Cx P} {S : Goroutine → St → Prop} {cs : List Frame} {main : Bool}

theorem sg_take {fr : Frame} {r : Nat} {ds : List Deferred} {w : World} (hm : fr.mode = .returning) (hd : fr.defers = { target := .collected r, args := #[] } :: ds) (hr : w.heap[r]? = some (.deferred (some []))) :
    stepG P main (G fr cs) w = .go (G { fr with defers := ds } cs) { w with heap := w.heap.setIfInBounds r (.deferred none) } (seen P fr.fn #[⟨.obj r, false, false⟩, ⟨.obj r, true, false⟩]) := by
  obtain ⟨h1, h2⟩ := run_take (P := P) hr
  simp [G, stepG, unwind, hm, hd, h1, h2, GStep.after]

/-- Which boxes are to be taken: none is yet. -/
def Taken (s : St) : List Deferred → List Nat → Prop
  | [], [] => True
  | d :: ds, l :: ls => (∃ r : Nat, s.β[l]? = some ⟨.int .i64 r, [r]⟩ ∧ s.w.heap[r]? = some (.deferred (some [])) ∧ (∀ o, s.M r o = none) ∧ d = { target := .collected r, args := #[] }) ∧ l ∉ ls ∧ Taken s ds ls
  | _, _ => False

theorem DefL.taken {σ : List Box} {s : St} (hh : HeapOK σ s) : ∀ {ds : List Deferred} {ls : List Nat}, DefL σ s ds ls → Taken s ds ls
  | [], [], _ => trivial
  | [], _ :: _, r => r.elim
  | _ :: _, [], r => r.elim
  | d :: ds, l :: ls, ⟨⟨h1, L, r, h2, h3, h4⟩, h5, h6⟩ => by
    obtain ⟨r', k1, k2, k3⟩ := hh.box l _ L h1 h2
    subst k1
    simp at h3
    have e : r' = r := by omega
    subst e
    exact ⟨⟨r', h2, k2, k3, h4⟩, h5, DefL.taken hh h6⟩

theorem Taken.mono {s s' : St} {l0 : Nat} (h : UnR [l0] s s') : ∀ {ds : List Deferred} {ls : List Nat}, l0 ∉ ls → Taken s ds ls → Taken s' ds ls
  | [], [], _, _ => trivial
  | [], _ :: _, _, r => r.elim
  | _ :: _, [], _, r => r.elim
  | d :: ds, l :: ls, hl0, ⟨⟨r, h1, h2, h3, h4⟩, h5, h6⟩ => by
    simp only [List.mem_cons, not_or] at hl0
    refine ⟨⟨r, by rw [h.β]; exact h1, by rw [h.keep r (.inr ⟨l, _, h1, by simp; exact fun e => hl0.1 e.symm, by simp⟩)]; exact h2, fun o => by rw [h.M]; exact h3 o, h4⟩, h5, Taken.mono h hl0.2 h6⟩

theorem arr_unwind : ∀ (ls : List Nat) (fr : Frame) (s : St) (σ : List Box), HeapOK σ s → (∀ B ∈ σ, B = .dead) → fr.mode = .returning → Taken s fr.defers ls →
    (∀ s', UnR ls s s' → Arr X S (G { fr with defers := [] } cs) s') → Arr X S (G fr cs) s
  | [], fr, s, σ, hh, hσ, hm, ht, k => by
    have hd : fr.defers = [] := by
      cases hd : fr.defers with
      | nil => rfl
      | cons d ds => rw [hd] at ht; exact ht.elim
    have := k s ((RelyC.refl hh).unR _)
    have e : { fr with defers := [] } = fr := by cases fr; simp_all
    rwa [e] at this
  | l :: ls, fr, s, σ, hh, hσ, hm, ht, k => by
    cases hd : fr.defers with
    | nil => rw [hd] at ht; exact ht.elim
    | cons d ds =>
      rw [hd] at ht
      obtain ⟨⟨r, h1, h2, h3, h4⟩, h5, h6⟩ := ht
      subst h4
      refine .next rfl fun s1 hr1 => ?_
      have hr := X.relyC hr1
      have hh1 := hh.rely hr
      have h1' : s1.β[l]? = some ⟨.int .i64 r, [r]⟩ := by rw [hr.β]; exact h1
      have h2' : s1.w.heap[r]? = some (.deferred (some [])) := by rw [hr.keep r (.inr ⟨_, List.mem_of_getElem? h1, by simp⟩)]; exact h2
      have h3' : ∀ o, s1.M r o = none := fun o => by rw [hr.M]; exact h3 o
      let s2 : St := { s1 with w := { s1.w with heap := s1.w.heap.setIfInBounds r (.deferred none) } }
      have hk : ∀ b, b ≠ r → s2.w.heap[b]? = s1.w.heap[b]? := fun b hb => by
        show (s1.w.heap.setIfInBounds r _)[b]? = _
        rw [Array.getElem?_setIfInBounds_ne (fun e => hb e.symm)]
      have hmem : ∀ b o v, s1.M b o = some v → s2.w.cell? ⟨b, o, none⟩ = some v := by
        intro b o v hv
        have hne : b ≠ r := by rintro rfl; rw [h3'] at hv; cases hv
        rw [← hh1.mem b o v hv]
        simp only [World.cell?]
        rw [hk b hne]
      have hh2 : HeapOK σ s2 := by
        refine ⟨hmem, hh1.len, fun l' B L hB hL => ?_, hh1.disj, fun L hL b hb => ?_, fun b hb => ⟨?_, (hh1.own b hb).2⟩⟩
        · rw [hσ B (List.mem_of_getElem? hB)]; trivial
        · have := hh1.lt L hL b hb; simpa [s2] using this
        · have := (hh1.own b hb).1; simpa [s2] using this
      have hrb : ∃ L ∈ s1.β, r ∈ L.bs := ⟨_, List.mem_of_getElem? h1', by simp⟩
      have st : Step σ s1 σ s2 := by
        refine ⟨by simp [s2], fun b _ hb => hk b ?_, fun _ _ _ h => h, fun _ _ _ _ => rfl, fun L hL b hb => .inr ⟨L, hL, hb⟩, fun _ B L h h' => ⟨B, L, h, h', .refl _ _⟩, rfl, rfl, rfl, rfl⟩
        rintro rfl
        obtain ⟨L, hL, hb'⟩ := hrb
        exact hb L hL hb'
      have un : UnR [l] s s2 := by
        refine ⟨hr.β, hr.M, hr.own, Nat.le_trans hr.size (by simp [s2]), fun b hb => ?_, fun b o v hv => hmem b o v (by rw [hr.M]; exact hv), hr.os, hr.tape, hr.output⟩
        have hne : b ≠ r := by
          rintro rfl
          rcases hb with hb | ⟨l', L', p1, p2, p3⟩
          · exact (hh.own b hb).2 _ (List.mem_of_getElem? h1) (by simp)
          · exact p2 (by simp; exact hh.disj l' l L' _ p1 h1 b p3 (by simp))
        rw [hk b hne]
        exact hr.keep b (hb.imp id fun ⟨l', L', p1, _, p3⟩ => ⟨L', List.mem_of_getElem? p1, p3⟩)
      refine ⟨_, s2, _, sg_take hm hd h2', ⟨⟨σ, σ, hh1, hh2, st⟩, EvOK.seen (.two ?_ ?_)⟩, ?_⟩
      · exact ⟨rfl, .inr hrb⟩
      · exact ⟨rfl, .inr hrb⟩
      refine arr_unwind ls { fr with defers := ds } s2 σ hh2 hσ hm (h6.mono un h5) fun s' hu => ?_
      exact k s' (un.cat hu)

end Go.AM

/- Less is known; a function's body is entered and left. -/
namespace Go.AM
open Go.Conc (G)

/-- The same elements, up to n. -/
def EqF (n : Nat) (f g : Nat → List C) : Prop := ∀ i, i < n → f i = g i

/-- Is y known where x is? If these equations hold. -/
def leC : C → C → Option (List Prop)
  | .int k n, .int k' n' => match ikEq k k' with | true => some [n = n'] | false => none
  | .bool b, .bool b' => some [b = b']
  | .str s, .str s' => some [s = s']
  | .sl t k n es, .sl t' k' n' es' => match Nat.beq k k' with
    | true => match t, t' with
      | false, true => none
      | _, _ => some [n = n', EqF n es es']
    | false => match t, t' with
      | true, _ => some [n = 0, n' = 0]
      | _, _ => none
  | .val x, .val y => some [x = y]
  | x, y => some [x = y]

theorem leC_ok {M : Mem} {v : Value} {x y : C} {ps : List Prop} (h : leC x y = some ps) (hp : AllP ps) (r : Rd M v x) : Rd M v y := by
  unfold leC at h
  split at h
  · rename_i k n k' n'
    cases hk : ikEq k k' <;> simp [hk] at h
    subst h
    cases ikEq_eq hk
    cases (show n = n' from hp)
    exact r
  · cases h; rename_i b b'; cases (show b = b' from hp); exact r
  · cases h; rename_i b b'; cases (show b = b' from hp); exact r
  · rename_i t k n es t' k' n' es'
    cases hk : Nat.beq k k' with
    | true =>
      simp only [hk] at h
      have e := Nat.eq_of_beq_eq_true hk
      subst e
      cases t <;> cases t' <;> simp at h
      all_goals (subst h; obtain ⟨rfl, he⟩ := (show n = n' ∧ EqF n es es' from hp); first | exact r.reF he | exact r.loose.reF he)
    | false =>
      simp only [hk] at h
      cases t <;> simp at h
      subst h
      obtain ⟨rfl, rfl⟩ := (show n = 0 ∧ n' = 0 from hp)
      obtain ⟨a, cap, vs, rfl, _, _, ht, _⟩ := r.flat
      have := ht rfl
      subst this
      exact Rd.nilSlice
  · cases h; rename_i x y; cases (show x = y from hp); exact r
  · cases h; cases hp; exact r

def leA : A → A → Option (List Prop)
  | .c x, .c y => leC x y
  | .vec _ k n es, .c (.sl false k' n' es') => match Nat.beq k k' with | true => some [n = n', EqF n es es'] | false => none
  | .vec l k n es, .vec l' k' n' es' => match Nat.beq l l' with
    | true => match Nat.beq k k' with | true => some [n = n', EqF n es es'] | false => none
    | false => none
  | .ptr l o, .ptr l' o' => match Nat.beq l l' with | true => (match Nat.beq o o' with | true => some [] | false => none) | false => none
  | .ref l, .ref l' => match Nat.beq l l' with | true => some [] | false => none
  | _, .any => some []
  | _, _ => none

theorem leA_ok {σ : List Box} {s : St} {v : Value} {x y : A} {ps : List Prop} (h : leA x y = some ps) (hp : AllP ps) (r : RdA σ s v x) : RdA σ s v y := by
  unfold leA at h
  split at h
  · exact leC_ok h hp r
  · rename_i k n es k' n' es'
    cases hk : Nat.beq k k' <;> simp [hk] at h
    subst h
    have e := Nat.eq_of_beq_eq_true hk
    subst e
    obtain ⟨rfl, he⟩ := (show n = n' ∧ EqF n es es' from hp)
    exact r.1.reF he
  · rename_i l k n es l' k' n' es'
    cases hl : Nat.beq l l' <;> simp [hl] at h
    cases hk : Nat.beq k k' <;> simp [hk] at h
    subst h
    have e := Nat.eq_of_beq_eq_true hk
    have e' := Nat.eq_of_beq_eq_true hl
    subst e e'
    obtain ⟨rfl, he⟩ := (show n = n' ∧ EqF n es es' from hp)
    exact ⟨r.1.reF he, r.2.1, r.2.2⟩
  · rename_i l o l' o'
    cases hl : Nat.beq l l' <;> simp [hl] at h
    cases hk : Nat.beq o o' <;> simp [hk] at h
    have e := Nat.eq_of_beq_eq_true hk
    have e' := Nat.eq_of_beq_eq_true hl
    subst e e'
    exact r
  · rename_i l l'
    cases hl : Nat.beq l l' <;> simp [hl] at h
    have e' := Nat.eq_of_beq_eq_true hl
    subst e'
    exact r
  · exact RdA.cell r
  · cases h

/-- One behind the other, written out. -/
def catP : List Prop → List Prop → List Prop
  | [], q => q
  | p :: r, q => p :: catP r q

theorem AllP.cat {p q : List Prop} : AllP (catP p q) ↔ AllP p ∧ AllP q := by
  induction p with
  | nil => simp [catP, AllP]
  | cons x r ih => simp only [catP, AllP.cons, ih, and_assoc]

def leL : List A → List A → Option (List Prop)
  | [], [] => some []
  | a :: al, b :: bs => match leA a b with
    | some p => match leL al bs with
      | some q => some (catP p q)
      | none => none
    | none => none
  | _, _ => none

theorem leL_ok {σ : List Box} {s : St} : ∀ {vs : List Value} {xs ys : List A} {ps : List Prop}, leL xs ys = some ps → AllP ps → RdL σ s vs xs → RdL σ s vs ys
  | [], [], [], _, _, _, _ => trivial
  | _ :: _, [], _, _, _, _, h => h.elim
  | [], _ :: _, _, _, _, _, h => h.elim
  | [], [], _ :: _, _, h, _, _ => by simp [leL] at h
  | _ :: _, _ :: _, [], _, h, _, _ => by simp [leL] at h
  | v :: vs, a :: al, b :: bs, ps, h, hp, hr => by
    simp only [leL] at h
    cases h1 : leA a b with
    | none => simp [h1] at h
    | some p =>
      cases h2 : leL al bs with
      | none => simp [h1, h2] at h
      | some q =>
        simp [h1, h2] at h
        subst h
        rw [AllP.cat] at hp
        exact ⟨leA_ok h1 hp.1 hr.1, leL_ok h2 hp.2 hr.2⟩

def leE : E1 → E1 → Option (List Prop)
  | .one a, .one b => leA a b
  | .agg al, .agg bs => leL al bs
  | _, _ => none

theorem leE_ok {σ : List Box} {s : St} {v : Value} {x y : E1} {ps : List Prop} (h : leE x y = some ps) (hp : AllP ps) (r : RdE σ s v x) : RdE σ s v y := by
  cases x <;> cases y <;> simp only [leE, reduceCtorEq] at h
  · exact leA_ok h hp r
  · obtain ⟨vs, h1, h2⟩ := r; exact ⟨vs, h1, leL_ok h hp h2⟩

def leEs : List E1 → List E1 → Option (List Prop)
  | [], [] => some []
  | a :: al, b :: bs => match leE a b with
    | some p => match leEs al bs with
      | some q => some (catP p q)
      | none => none
    | none => none
  | _, _ => none

theorem leEs_ok {σ : List Box} {s : St} : ∀ {vs : List Value} {xs ys : List E1} {ps : List Prop}, leEs xs ys = some ps → AllP ps → RdEs σ s vs xs → RdEs σ s vs ys
  | [], [], [], _, _, _, _ => trivial
  | _ :: _, [], _, _, _, _, h => h.elim
  | [], _ :: _, _, _, _, _, h => h.elim
  | [], [], _ :: _, _, h, _, _ => by simp [leEs] at h
  | _ :: _, _ :: _, [], _, h, _, _ => by simp [leEs] at h
  | v :: vs, a :: al, b :: bs, ps, h, hp, hr => by
    simp only [leEs] at h
    cases h1 : leE a b with
    | none => simp [h1] at h
    | some p =>
      cases h2 : leEs al bs with
      | none => simp [h1, h2] at h
      | some q =>
        simp [h1, h2] at h
        subst h
        rw [AllP.cat] at hp
        exact ⟨leE_ok h1 hp.1 hr.1, leEs_ok h2 hp.2 hr.2⟩

def leD : D → D → Option (List Prop)
  | .e x, .e y => leE x y
  | .tup xs, .tup ys => leEs xs ys
  | _, .any => some []
  | _, _ => none

theorem leD_ok {σ : List Box} {s : St} {v : Value} {x y : D} {ps : List Prop} (h : leD x y = some ps) (hp : AllP ps) (r : RdD σ s v x) : RdD σ s v y := by
  cases x <;> cases y <;> simp only [leD, reduceCtorEq] at h
  · exact leE_ok h hp r
  · trivial
  · obtain ⟨vs, h1, h2⟩ := r; exact ⟨vs, h1, leEs_ok h hp h2⟩
  · trivial
  · trivial

/-- Of a frame: the slots that the second one names. -/
def leFr (φ : Fr) : Fr → Option (List Prop)
  | [] => some []
  | (i, d) :: r => match leD (look φ i) d with
    | some p => match leFr φ r with
      | some q => some (catP p q)
      | none => none
    | none => none

theorem leFr_ok {φ : Fr} : ∀ {φ' : Fr} {ps : List Prop}, leFr φ φ' = some ps → AllP ps → FrLe φ φ'
  | [], _, _, _ => fun _ _ _ _ _ => trivial
  | (i, d) :: r, ps, h, hp => by
    simp only [leFr] at h
    cases h1 : leD (look φ i) d with
    | none => simp [h1] at h
    | some p =>
      cases h2 : leFr φ r with
      | none => simp [h1, h2] at h
      | some q =>
        simp [h1, h2] at h
        subst h
        rw [AllP.cat] at hp
        intro σ s v t hr
        simp only [look]
        cases hb : Nat.beq i t with
        | true =>
          have e := Nat.eq_of_beq_eq_true hb
          subst e
          exact leD_ok h1 hp.1 hr
        | false => exact leFr_ok h2 hp.2 σ s v t hr

/-! ### A function's body -/

/-- What may be handed back. -/
def plainR (σ : List Box) : Bool := match plainBs σ with | true => noDfr σ | false => false

theorem plainR_ok {σ : List Box} (h : plainR σ = true) : plainBs σ = true ∧ noDfr σ = true := by
  unfold plainR at h
  split at h
  · rename_i h1; exact ⟨h1, h⟩
  · cases h

theorem DefL.isDfr {σ : List Box} {s : St} : ∀ {ds : List Deferred} {ls : List Nat}, DefL σ s ds ls → ∀ l ∈ ls, σ[l]? = some .dfr
  | [], [], _, l, hl => by simp at hl
  | [], _ :: _, r, _, _ => r.elim
  | _ :: _, [], r, _, _ => r.elim
  | d :: ds, l0 :: ls, ⟨⟨h1, _⟩, _, h6⟩, l, hl => by
    rcases List.mem_cons.1 hl with rfl | hl
    · exact h1
    · exact DefL.isDfr h6 l hl

/-- What is asked at a function's end. -/
def RetQ (fn : Func) (n0 : Nat) (res : D) (σ' : List Box) : Post := fun e φ σ1 =>
  (e = .ret ∨ e = .normal) ∧ ∃ ks ds d ps, resD φ fn.results.toList = some ds ∧ joinD ds = some d ∧ leD d (renD ks res) = some ps ∧ AllP ps ∧ inD ks.length res = true ∧
    sel ks σ1 = some σ' ∧ plainR σ' = true ∧ nodupX ks = true ∧ (∀ j, j < n0 → ks[j]? = some j)

/-- What is asked at a function's end, however its results are found. -/
def RetJ (P : Program) (fn : Func) (n0 : Nat) (res : D) (σ' : List Box) : Post := fun e φ σ1 =>
  (e = .ret ∨ e = .normal) ∧ ∃ ks d ps, ResJ P fn φ d ∧ leD d (renD ks res) = some ps ∧ AllP ps ∧ inD ks.length res = true ∧
    sel ks σ1 = some σ' ∧ plainR σ' = true ∧ nodupX ks = true ∧ (∀ j, j < n0 → ks[j]? = some j)

theorem RetQ.toJ {P : Program} {fn : Func} {n0 : Nat} {res : D} {σ' : List Box} {e : Exit} {φ : Fr} {σ1 : List Box} (h : RetQ fn n0 res σ' e φ σ1) : RetJ P fn n0 res σ' e φ σ1 := by
  obtain ⟨he, ks, ds, d, ps, h1, h2, h3⟩ := h
  exact ⟨he, ks, d, ps, ResJ.of h1 h2, h3⟩

theorem EvI.ofTopJ {P : Program} {ι : Type} {X : Cx P} {f : FuncId} {fn : Func} {c : Code} {args : List D} {σ : List Box} {σ' : ι → List Box} {res : ι → D} (hf : P.funcs[f]? = some fn) (hnum : (fn.name == "runtime.NumGoroutine") = false) (hb : fn.body = some c) (hlen : args.length ≤ fn.ntmps)
    (h : ∀ s a, FrOK fn.ntmps σ s (argFr 0 args) a → HeapOK σ s → ∀ (b : Frame) (k : List Item) (cs : List Frame) (S : Goroutine → St → Prop), b.kind ≠ .early → b.roundOf = none →
    (∀ e φ' σ1 s' a', (∃ j, RetJ P fn σ.length (res j) (σ' j) e φ' σ1) → FrOK fn.ntmps σ1 s' φ' a' → HeapOK σ1 s' → StepW σ s σ1 s' → ends X S b k cs e a' s') → Arr X S (G (b.aT a (.code c :: k)) cs) s) : EvI X f args σ res σ' := by
  refine ⟨⟨fn, hf, hnum, by rw [hb]; rfl⟩, fun s vs hr hh S cs hS => ?_⟩
  obtain ⟨hl, hg⟩ := RdDs.get hr
  let b : Frame := { fn := f, tmps := #[], todo := [], defers := [], mode := .run, kind := .normal, roundOf := none }
  have henter : Frame.enter P f vs.toArray .normal = b.aT { tmps := vs.toArray ++ Array.replicate (fn.ntmps - vs.toArray.size) undef, defers := [] } [.code c] := by
    simp [Frame.enter, Frame.aT, hf, hb, b]
  rw [henter]
  refine h s { tmps := vs.toArray ++ Array.replicate (fn.ntmps - vs.toArray.size) undef, defers := [] } ⟨by simp; omega, ⟨[], trivial⟩, fun t => ?_⟩ hh b [] cs S (by simp [b]) rfl ?_
  · rw [look_argFr]
    simp only [Nat.zero_le, if_true, Nat.sub_zero]
    have := hg t
    rcases Nat.lt_or_ge t vs.length with hlt | hge
    · have e : (vs.toArray ++ Array.replicate (fn.ntmps - vs.toArray.size) undef).getD t undef = (vs[t]?).getD undef := by
        simp only [Array.getD_eq_getD_getElem?]
        rw [Array.getElem?_append_left (by simpa using hlt)]
        simp
      rw [e]
      exact this
    · rw [List.getElem?_eq_none (by omega)]
      trivial
  · rintro e φ' σ1 s1 a1 ⟨jj, he, ks, d, ps, h1, h3, h4, h5, h6, h7', h8, h9⟩ f' h' st
    obtain ⟨h7, h7n⟩ := plainR_ok h7'
    -- at the end, whatever others have done
    have fin : ∀ (fr : Frame) s2, RelyC s1 s2 → fr.fn = f → fr.tmps = a1.tmps → fr.defers = a1.defers → fr.mode = .returning → fr.kind = .normal → Arr X S (G fr cs) s2 := by
      intro fr s2 hr2 e1 e2 e3 e4 e5
      have f2 := f'.rely hr2 h'
      have hh2 := h'.rely hr2
      have st2 := st.trans hr2.stepW
      obtain ⟨v, r2, r1⟩ := h1 f2
      obtain ⟨βs, hβ⟩ := sel_of (l' := s2.β) h6 hh2.len
      have r4 := (leD_ok h3 h4 r2).sub h6 hβ h5
      obtain ⟨c1, c2⟩ := sel_get h6
      obtain ⟨d1, d2⟩ := sel_get hβ
      have hin : ∀ L ∈ βs, L ∈ s2.β := sel_mem hβ
      have hh3 : HeapOK (σ' jj) { s2 with β := βs } := by
        obtain ⟨g1, _⟩ := hh2.sub h6 hβ h7 h8
        refine ⟨g1.mem, g1.len, fun j B L hB hL => ?_, g1.disj, g1.lt, fun b hb => ⟨(hh2.own b hb).1, fun L hL => (hh2.own b hb).2 L (hin L hL)⟩⟩
        exact BoxOK.plain (σ := σ' jj) (s := { s2 with β := βs, own := ownS s2 βs }) (s' := { s2 with β := βs }) rfl rfl (plainBs_mem h7 B (List.mem_of_getElem? hB)) (g1.box j B L hB hL)
      have st3 : StepW σ s (σ' jj) { s2 with β := βs } := by
        refine ⟨st2.size, st2.keep, st2.mem, st2.memk, fun L hL b hb => st2.bls _ (hin L hL) b hb, fun l B L hB hL => ?_, st2.os, st2.tape, st2.output, st2.own⟩
        have hl : l < σ.length := (List.getElem?_eq_some_iff.1 hB).1
        obtain ⟨B', L', p1, p2, p3⟩ := st2.box l B L hB hL
        obtain ⟨x, x1, x2⟩ := c2 l l (h9 l hl)
        obtain ⟨y, y1, y2⟩ := d2 l l (h9 l hl)
        rw [p1] at x2; cases x2
        rw [p2] at y2; cases y2
        exact ⟨B', L', x1, y1, p3⟩
      obtain ⟨ls, hls⟩ := f2.defers
      refine arr_unwind ls fr s2 _ hh2.allDead (by simp) e4 (by rw [e3]; exact hls.taken hh2) fun s3 hu => ?_
      have hrel : RelyC { s2 with β := βs } { s3 with β := βs } := by
        refine ⟨rfl, hu.M, hu.own, hu.size, fun b hb => hu.keep b (hb.imp id ?_), hu.mem, hu.os, hu.tape, hu.output⟩
        rintro ⟨L, hL, hb⟩
        obtain ⟨j, hj, rfl⟩ := List.getElem_of_mem hL
        have hj' : j < ks.length := by rw [← d1]; exact hj
        obtain ⟨y, y1, y2⟩ := d2 j _ (List.getElem?_eq_getElem hj')
        obtain ⟨x, x1, x2⟩ := c2 j _ (List.getElem?_eq_getElem hj')
        rw [List.getElem?_eq_getElem hj] at y1
        cases y1
        refine ⟨_, _, y2, fun hc => ?_, hb⟩
        rw [hls.isDfr _ hc] at x2
        cases x2
        exact noDfr_mem h7n _ (List.mem_of_getElem? x1) rfl
      have hG : Ghost s3 { s3 with β := βs } := ⟨rfl, fun _ _ _ h => h, fun _ _ _ => rfl, fun b o v hv => hu.mem b o v (by rw [← hu.M]; exact hv), fun b hb => hb.imp id fun ⟨L, hL, hb⟩ => ⟨L, by rw [hu.β]; exact hin L hL, hb⟩⟩
      refine .ghost hG (hS jj _ v _ ⟨e1, e4, rfl, e5, fn, by show P.funcs[fr.fn]? = _; rw [e1]; exact hf, fun w hw => ?_⟩ (r4.mono hrel.stepW.ext hh3.len) (hh3.rely hrel) (st3.trans hrel.stepW))
      show (results fn fr.tmps).run P w = _ ∧ ∀ e ∈ (results fn fr.tmps).events P w #[], _
      rw [e2]
      have hw' : ∀ b o u, s2.M b o = some u → w.cell? ⟨b, o, none⟩ = some u := fun b o u h => hw b o u (by show s3.M b o = some u; rw [hu.M]; exact h)
      refine ⟨(r1 w hw').1, fun e he => ?_⟩
      obtain ⟨b, o, u, q1, q2⟩ := (r1 w hw').2 e he
      exact ⟨b, o, u, q1, by show s3.M b o = some u; rw [hu.M]; exact q2⟩
    rcases he with rfl | rfl
    · intro pre
      exact .ctl h' rfl (fun _ => sg_ret rfl) fun s2 hr2 => fin _ s2 hr2 rfl rfl rfl rfl rfl
    · exact .ctl h' rfl (fun _ => sg_end rfl) fun s2 hr2 => fin _ s2 hr2 rfl rfl rfl rfl rfl

theorem EvI.ofTop {P : Program} {ι : Type} {X : Cx P} {f : FuncId} {fn : Func} {c : Code} {args : List D} {σ : List Box} {σ' : ι → List Box} {res : ι → D} (hf : P.funcs[f]? = some fn) (hnum : (fn.name == "runtime.NumGoroutine") = false) (hb : fn.body = some c) (hlen : args.length ≤ fn.ntmps)
    (h : ∀ s a, FrOK fn.ntmps σ s (argFr 0 args) a → HeapOK σ s → ∀ (b : Frame) (k : List Item) (cs : List Frame) (S : Goroutine → St → Prop), b.kind ≠ .early → b.roundOf = none →
    (∀ e φ' σ1 s' a', (∃ j, RetQ fn σ.length (res j) (σ' j) e φ' σ1) → FrOK fn.ntmps σ1 s' φ' a' → HeapOK σ1 s' → StepW σ s σ1 s' → ends X S b k cs e a' s') → Arr X S (G (b.aT a (.code c :: k)) cs) s) : EvI X f args σ res σ' :=
  EvI.ofTopJ hf hnum hb hlen fun s a f hh b k cs S h1 h2 hQ => h s a f hh b k cs S h1 h2 fun e φ' σ1 s' a' ⟨j, q⟩ => hQ e φ' σ1 s' a' ⟨j, q.toJ⟩

theorem EvI.introJ {P : Program} {ι : Type} {X : Cx P} {f : FuncId} {fn : Func} {c : Code} {args : List D} {σ : List Box} {σ' : ι → List Box} {res : ι → D} (hf : P.funcs[f]? = some fn) (hnum : (fn.name == "runtime.NumGoroutine") = false) (hb : fn.body = some c) (hlen : args.length ≤ fn.ntmps)
    (h : AW X fn.ntmps c (fun e φ σ1 => ∃ j, RetJ P fn σ.length (res j) (σ' j) e φ σ1) (argFr 0 args) σ) : EvI X f args σ res σ' :=
  EvI.ofTopJ hf hnum hb hlen fun s a f hh b k cs S hk _ hQ => h s a f hh b k cs S hk hQ

theorem EvI.intro {P : Program} {ι : Type} {X : Cx P} {f : FuncId} {fn : Func} {c : Code} {args : List D} {σ : List Box} {σ' : ι → List Box} {res : ι → D} (hf : P.funcs[f]? = some fn) (hnum : (fn.name == "runtime.NumGoroutine") = false) (hb : fn.body = some c) (hlen : args.length ≤ fn.ntmps)
    (h : AW X fn.ntmps c (fun e φ σ1 => ∃ j, RetQ fn σ.length (res j) (σ' j) e φ σ1) (argFr 0 args) σ) : EvI X f args σ res σ' :=
  EvI.ofTop hf hnum hb hlen fun s a f hh b k cs S hk _ hQ => h s a f hh b k cs S hk hQ

theorem Ev.intro {P : Program} {X : Cx P} {f : FuncId} {fn : Func} {c : Code} {args : List D} {σ σ' : List Box} {res : D} (hf : P.funcs[f]? = some fn) (hnum : (fn.name == "runtime.NumGoroutine") = false) (hb : fn.body = some c) (hlen : args.length ≤ fn.ntmps)
    (h : AW X fn.ntmps c (RetQ fn σ.length res σ') (argFr 0 args) σ) : Ev X f args σ res σ' :=
  (EvI.intro hf hnum hb hlen (AW.mono h fun _ _ _ q => ⟨(), q⟩)).toEv

end Go.AM
