/-
  Part 2 of a machine of values without memory, proved sound over the model, and of contracts of the functions that the laws reach. Nothing is taken for granted: no condition.
-/
import Derived.Test.YtjoipjpjlihnnaaA1
import Derived.Lib.Strings
import Derived.Laws.Slices
import Derived.Orders
import Derived.Laws.StructEq
import Derived.Test.YtjoipjpjlihnnaaProg
set_option linter.unusedVariables false
/- The evaluator: straight code is run by reckoning alone. -/
namespace Go.AM

inductive It where
  | code (c : Code)
  | blk (id : Nat)
  | ops (all rest : List Oper)

/-- What is asked of what is left to do. -/
def AK {P : Program} (X : Cx P) (N : Nat) (Qf : Post) : List It → Post
  | [], e, φ, σ => Qf e φ σ
  | .code c :: K, .normal, φ, σ => AW X N c (AK X N Qf K) φ σ
  | .code _ :: K, e, φ, σ => AK X N Qf K e φ σ
  | .blk id :: K, .exit id', φ, σ => if id' = id then AK X N Qf K .normal φ σ else AK X N Qf K (.exit id') φ σ
  | .blk _ :: K, e, φ, σ => AK X N Qf K e φ σ
  | .ops all rest :: K, .normal, φ, σ => AOps X N all rest (AK X N Qf K .normal) φ σ
  | .ops _ _ :: K, e, φ, σ => AK X N Qf K e φ σ

section
variable {P : Program} {X : Cx P} {N : Nat} {Qf : Post} {K : List It} {φ : Fr} {σ : List Box}

theorem AK.of_code {c : Code} (h : AK X N Qf [.code c] .normal φ σ) : AW X N c Qf φ σ := h

theorem AK.skip (h : AK X N Qf K .normal φ σ) : AK X N Qf (.code .skip :: K) .normal φ σ := AW.skip h

theorem AK.seq {x y : Code} (h : AK X N Qf (.code x :: .code y :: K) .normal φ σ) : AK X N Qf (.code (.seq x y) :: K) .normal φ σ := by
  refine AW.seq (AW.mono h ?_)
  intro e φ' σ' q
  cases e <;> exact q

theorem AK.block {id : Nat} {c : Code} (h : AK X N Qf (.code c :: .blk id :: K) .normal φ σ) : AK X N Qf (.code (.block id c) :: K) .normal φ σ := by
  refine AW.block (AW.mono h ?_)
  intro e φ' σ' q
  cases e <;> exact q

theorem AK.blkEnd {id : Nat} (h : AK X N Qf K .normal φ σ) : AK X N Qf (.blk id :: K) .normal φ σ := h

theorem AK.region {id : Nat} {ops : Array Oper} (h : AK X N Qf (.ops ops.toList ops.toList :: K) .normal φ σ) : AK X N Qf (.code (.region id ops false) :: K) .normal φ σ := AW.region h

theorem AK.opsEnd {all : List Oper} (h : AK X N Qf K .normal φ σ) : AK X N Qf (.ops all [] :: K) .normal φ σ := AOps.nil h

theorem AK.toRet : ∀ {K : List It}, Qf .ret φ σ → AK X N Qf K .ret φ σ
  | [], h => h
  | .code _ :: K, h => AK.toRet (K := K) h
  | .blk _ :: K, h => AK.toRet (K := K) h
  | .ops _ _ :: K, h => AK.toRet (K := K) h

theorem AK.ret (h : Qf .ret φ σ) : AK X N Qf (.code .ret :: K) .normal φ σ := AW.ret (AK.toRet h)

def exitK (id : Nat) : List It → Option (List It)
  | [] => none
  | .blk i :: K => match Nat.beq id i with | true => some K | false => exitK id K
  | _ :: K => exitK id K

theorem AK.toExit {id : Nat} : ∀ {K K' : List It}, exitK id K = some K' → AK X N Qf K' .normal φ σ → AK X N Qf K (.exit id) φ σ
  | [], _, h, _ => by cases h
  | .blk i :: K, K', h, q => by
    simp only [exitK] at h
    cases hb : Nat.beq id i with
    | true =>
      simp [hb] at h
      subst h
      have e := Nat.eq_of_beq_eq_true hb
      simp only [AK, e, if_true]
      exact q
    | false =>
      simp [hb] at h
      have hne : id ≠ i := fun e => by rw [e, Nat.beq_refl] at hb; cases hb
      simp only [AK, hne, if_false]
      exact AK.toExit h q
  | .code _ :: K, K', h, q => AK.toExit (K := K) h q
  | .ops _ _ :: K, K', h, q => AK.toExit (K := K) h q

theorem AK.exit {id : Nat} {K' : List It} (hk : exitK id K = some K') (h : AK X N Qf K' .normal φ σ) : AK X N Qf (.code (.exit id) :: K) .normal φ σ := AW.exit (AK.toExit hk h)

/-- A test. -/
theorem AK.cond {c : Operand} {x y : Code} {b : Bool} {t : Nat} (hc : c = .tmp t) (hl : look φ t = .e (.one (.c (.bool b))))
    (ht : b = true → AK X N Qf (.code x :: K) .normal φ σ) (hf : b = false → AK X N Qf (.code y :: K) .normal φ σ) : AK X N Qf (.code (.cond c x y) :: K) .normal φ σ := AW.cond hc hl ht hf

/-- A loop. -/
theorem AK.loop {S : Type} {c : Code} (I : S → Prop) (fr : S → Fr) (st : S → List Box) (μ : S → Nat) (x : S) (h0 : I x) (hle : FrLe φ (fr x)) (hst : st x = σ)
    (round : ∀ x, I x → AK X N (fun e φ' σ' => match e with
      | .normal => ∃ y, I y ∧ μ y < μ x ∧ FrLe φ' (fr y) ∧ σ' = st y
      | e => AK X N Qf K e φ' σ') [.code c] .normal (fr x) (st x)) : AK X N Qf (.code (.loop c) :: K) .normal φ σ := by
  refine AW.loop I fr st μ x h0 hle hst fun y hy => AW.mono (round y hy) ?_
  intro e φ' σ' q
  cases e <;> exact q

end

/-! ### One step -/

def forceL {α β : Type} : List α → (List α → Option β) → Option β
  | [], k => k []
  | x :: r, k => forceL r fun q => k (x :: q)

theorem forceL_eq {α β : Type} (l : List α) (k : List α → Option β) : forceL l k = k l := by
  induction l generalizing k with
  | nil => rfl
  | cons x r ih => simp [forceL, ih]

def guardE (φ : Fr) (all : List Oper) (j : Nat) : Option (Option Bool) :=
  match getX j all with
  | some oj => match oj.dst with
    | some d => match look φ d with
      | .e (.one (.c (.bool true))) => some (some true)
      | .e (.one (.c (.bool false))) => some (some false)
      | .tup [] => some none
      | _ => none
    | none => none
  | none => none

theorem guardE_ok {N : Nat} {φ : Fr} {all : List Oper} {j : Nat} {r : Option Bool} (h : guardE φ all j = some r) {σ : List Box} {s : St} {a : Act} (f : FrOK N σ s φ a) : yielded all.toArray a.tmps j = r := by
  unfold guardE at h
  rw [getX_get] at h
  unfold yielded
  cases ho : all[j]? with
  | none => simp [ho] at h
  | some oj =>
    simp only [ho] at h
    simp only [List.getElem?_toArray, ho, Option.bind_some]
    cases hd : oj.dst with
    | none => simp [hd] at h
    | some d =>
      simp only [hd] at h
      simp only [Option.bind_some]
      have hs := f.slot d
      have key : ∀ v, a.tmps.getD d undef = v → v ≠ undef → a.tmps[d]? = some v := by
        intro v hv hne
        simp only [Array.getD_eq_getD_getElem?] at hv
        cases hq : a.tmps[d]? with
        | none => rw [hq] at hv; exact absurd hv.symm hne
        | some u => rw [hq] at hv; simp at hv; rw [hv]
      split at h
      · rename_i hl
        cases h
        rw [hl] at hs
        have hs' := rdC hs
        generalize hv : a.tmps.getD d undef = v at hs'
        cases hs'
        rw [key _ hv (by simp [undef])]
      · rename_i hl
        cases h
        rw [hl] at hs
        have hs' := rdC hs
        generalize hv : a.tmps.getD d undef = v at hs'
        cases hs'
        rw [key _ hv (by simp [undef])]
      · rename_i hl
        cases h
        rw [hl] at hs
        obtain ⟨vs, h1, h2⟩ := hs
        have hvs : vs = [] := by cases vs with
          | nil => rfl
          | cons _ _ => exact h2.elim
        subst hvs
        simp only [Array.getD_eq_getD_getElem?] at h1
        cases hq : a.tmps[d]? with
        | none => rfl
        | some u =>
          rw [hq] at h1
          simp at h1
          subst h1
          rfl
      · cases h

/-- What an operation comes to; none: the evaluator does not know it, or does not know enough. -/
def opE (T : List (Nat × TI)) (φ : Fr) (σ : List Box) (o : Oper) : Option (D × List Box × List Prop) :=
  match o.op with
  | .move x | .assign x => some (absO φ x, σ, [])
  | .pick c a b => match absO φ c with
    | .e (.one (.c (.bool true))) => some (absO φ a, σ, [])
    | .e (.one (.c (.bool false))) => some (absO φ b, σ, [])
    | _ => none
  | .binOp op _ x y _ => match absO φ x, absO φ y with
    | .e (.one (.c a)), .e (.one (.c b)) => match binE op a b with
      | some (c, obs) => some (.e (.one (.c c)), σ, obs)
      | none => none
    | _, _ => none
  | .unOp op _ x => match absO φ x with
    | .e (.one (.c a)) => match unE op a with
      | some c => some (.e (.one (.c c)), σ, [])
      | none => none
    | _ => none
  | .extract x j => match absO φ x with
    | .tup xs => match getX j xs with
      | some e => some (.e e, σ, [])
      | none => none
    | _ => none
  | .alloc E => match lookT T E with
    | some i => forceL (σ ++ [.cells E (i.zero.map A.c)]) fun σ' => some (.e (.one (.ptr σ.length 0)), σ', [])
    | none => none
  | .box E x => match cellsD (absO φ x) with
    | some cs => forceL (σ ++ [.cells E cs]) fun σ' => some (.e (.one (.ptr σ.length 0)), σ', [])
    | none => none
  | .load t x => match lookT T t with
    | some i => match absO φ x with
      | .e (.one (.ptr l off)) => match getX l σ with
        | some (.cells _ cs) => match valE i (dropX off cs) with
          | some e => some (.e e, σ, [])
          | none => none
        | _ => none
      | .e (.one (.c (.rp cs))) => match valE i (cs.map A.c) with
        | some e => some (.e e, σ, [])
        | none => none
      | _ => none
    | none => none
  | .store t x y => match lookT T t with
    | some i => match absO φ x with
      | .e (.one (.ptr l off)) => match getX l σ with
        | some (.cells E cs) => match cellsD (absO φ y) with
          | some new => match Nat.beq new.length i.size with
            | true => match splice off new cs with
              | some cs' => forceL (putB.setX l (.cells E cs') σ) fun σ' => some (.any, σ', [])
              | none => none
            | false => none
          | none => none
        | _ => none
      | _ => none
    | none => none
  | .fieldAddr t x f => match fieldE T t f with
    | some (k, _) => match absO φ x with
      | .e (.one (.ptr l off)) => some (.e (.one (.ptr l (off + k))), σ, [])
      | .e (.one (.c (.rp cs))) => some (.e (.one (.c (.rp (dropX k cs)))), σ, [])
      | _ => none
    | none => none
  | .field t x f => match fieldE T t f with
    | some (k, j) => match absO φ x with
      | .e (.agg cs) => match valE j (dropX k cs) with
        | some e => some (.e e, σ, [])
        | none => none
      | _ => none
    | none => none
  | .nilCheck x => match absO φ x with
    | .e (.one (.ptr l off)) => some (.e (.one (.ptr l off)), σ, [])
    | .e (.one (.c (.rp cs))) => some (.e (.one (.c (.rp cs))), σ, [])
    | _ => none
  | .build t parts => match buildE T (absO φ) t parts.toList with
    | some cs => some (.e (.agg cs), σ, [])
    | none => none
  | .buildSlice t n parts => match litE T (absO φ) t n parts.toList with
    | some (k, es) => some (.e (.one (.c (.sl true k n fun i => es.getD i []))), σ, [])
    | none => none
  | _ => none

theorem opE_ok {P : Program} {T : List (Nat × TI)} (hT : TOK P T) {φ : Fr} {σ σ' : List Box} {o : Oper} {x : D} {obs : List Prop} (h : opE T φ σ o = some (x, σ', obs)) (ho : AllP obs) : OpJ P o (absO φ) σ x σ' := by
  unfold opE at h
  split at h
  · rename_i y he
    cases h; exact OpJ.move he
  · rename_i y he
    cases h; exact OpJ.assign he
  · rename_i c a b he
    split at h
    · rename_i hc; cases h; exact OpJ.pick he hc
    · rename_i hc; cases h; exact OpJ.pick he hc
    · cases h
  · rename_i op t y z ty he
    split at h
    · rename_i a b ha hb
      split at h
      · rename_i c obs' hc; cases h; exact OpJ.binOp he ha hb hc ho
      · cases h
    · cases h
  · rename_i op t y he
    split at h
    · rename_i a ha
      split at h
      · rename_i c hc; cases h; exact OpJ.unOp he ha hc
      · cases h
    · cases h
  · rename_i y j he
    split at h
    · rename_i xs hx
      split at h
      · rename_i e hj; cases h; exact OpJ.extract he hx (getX_eq hj)
      · cases h
    · cases h
  · rename_i E he
    split at h
    · rename_i i hi; rw [forceL_eq] at h; cases h; exact OpJ.alloc hT he hi
    · cases h
  · rename_i E y he
    split at h
    · rename_i cs hc; rw [forceL_eq] at h; cases h; exact OpJ.box he hc
    · cases h
  · rename_i t y he
    split at h
    · rename_i i hi
      split at h
      · rename_i l off hx
        split at h
        · rename_i E cs hB
          split at h
          · rename_i e hv; cases h; exact OpJ.loadBox hT he hx (getX_eq hB) hi hv
          · cases h
        · cases h
      · rename_i cs hx
        split at h
        · rename_i e hv; cases h; exact OpJ.loadRp hT he hx hi hv
        · cases h
      · cases h
    · cases h
  · rename_i t y z he
    split at h
    · rename_i i hi
      split at h
      · rename_i l off hx
        split at h
        · rename_i E cs hB
          split at h
          · rename_i new hn
            split at h
            · rename_i hb
              split at h
              · rename_i cs' hs
                rw [forceL_eq, setX_eq] at h
                cases h
                exact OpJ.store hT he hx (getX_eq hB) hi hn (Nat.eq_of_beq_eq_true hb) hs
              · cases h
            · cases h
          · cases h
        · cases h
      · cases h
    · cases h
  · rename_i t y f he
    split at h
    · rename_i k j hf
      split at h
      · rename_i l off hx; cases h; exact OpJ.fieldAddrBox hT he hx hf
      · rename_i cs hx; cases h; exact OpJ.fieldAddrRp hT he hx hf
      · cases h
    · cases h
  · rename_i t y f he
    split at h
    · rename_i k j hf
      split at h
      · rename_i cs hx
        split at h
        · rename_i e hv; cases h; exact OpJ.field hT he hx hf hv
        · cases h
      · cases h
    · cases h
  · rename_i y he
    split at h
    · rename_i l off hx; cases h; exact OpJ.nilCheckBox he hx
    · rename_i cs hx; cases h; exact OpJ.nilCheckRp he hx
    · cases h
  · rename_i t parts he
    split at h
    · rename_i cs hc; cases h; exact OpJ.build hT he hc
    · cases h
  · rename_i t n parts he
    split at h
    · rename_i k es hc; cases h; exact OpJ.buildSlice hT he hc
    · cases h
  · cases h

def dstOk (N : Nat) : Option Nat → Bool
  | some d => Nat.ble (d + 1) N
  | none => true

/-- One step of what is left to do. -/
def step1 (T : List (Nat × TI)) (N : Nat) (K : List It) (φ : Fr) (σ : List Box) : Option (List It × Fr × List Box × List Prop) :=
  match K with
  | [] => none
  | .blk _ :: K => some (K, φ, σ, [])
  | .ops _ [] :: K => some (K, φ, σ, [])
  | .ops all (o :: rest) :: K => match dstOk N o.dst with
    | true => match o.guard with
      | none => match opE T φ σ o with
        | some (x, σ', obs) => some (.ops all rest :: K, putD o.dst x φ, σ', obs)
        | none => none
      | some (j, b) => match guardE φ all j with
        | some (some b') => match b, b' with
          | true, true | false, false => match opE T φ σ o with
            | some (x, σ', obs) => some (.ops all rest :: K, putD o.dst x φ, σ', obs)
            | none => none
          | _, _ => some (.ops all rest :: K, putD o.dst (.tup []) φ, σ, [])
        | some none => some (.ops all rest :: K, putD o.dst (.tup []) φ, σ, [])
        | none => none
    | false => none
  | .code c :: K => match c with
    | .skip => some (K, φ, σ, [])
    | .seq x y => some (.code x :: .code y :: K, φ, σ, [])
    | .block id c => some (.code c :: .blk id :: K, φ, σ, [])
    | .region _ ops false => some (.ops ops.toList ops.toList :: K, φ, σ, [])
    | .exit id => match exitK id K with
      | some K' => some (K', φ, σ, [])
      | none => none
    | .cond (.tmp t) x y => match look φ t with
      | .e (.one (.c (.bool true))) => some (.code x :: K, φ, σ, [])
      | .e (.one (.c (.bool false))) => some (.code y :: K, φ, σ, [])
      | _ => none
    | _ => none

theorem dstOk_lt {N : Nat} {d : Option Nat} (h : dstOk N d = true) : ∀ t, d = some t → t < N := by
  intro t ht
  subst ht
  exact Nat.le_of_ble_eq_true h

theorem wanted_none {all : List Oper} {o : Oper} (h : o.guard = none) {a : Act} : Region.wanted o (yielded all.toArray a.tmps) = true := by simp [Region.wanted, h]

theorem AOps.passT {P : Program} {X : Cx P} {N : Nat} {all rest : List Oper} {Q : Fr → List Box → Prop} {φ : Fr} {σ : List Box} {o : Oper}
    (hg : ∀ σ s a, FrOK N σ s φ a → Region.wanted o (yielded all.toArray a.tmps) = false) (hN : ∀ t, o.dst = some t → t < N)
    (k : AOps X N all rest Q (putD o.dst (.tup []) φ) σ) : AOps X N all (o :: rest) Q φ σ := AOps.passD (x := .tup []) (fun _ _ => ⟨[], rfl, trivial⟩) hg _ rfl hN k

theorem step1_ok {P : Program} {X : Cx P} {T : List (Nat × TI)} (hT : TOK P T) {N : Nat} {Qf : Post} {K K' : List It} {φ φ' : Fr} {σ σ' : List Box} {obs : List Prop} (h : step1 T N K φ σ = some (K', φ', σ', obs)) (ho : AllP obs)
    (k : AK X N Qf K' .normal φ' σ') : AK X N Qf K .normal φ σ := by
  unfold step1 at h
  split at h
  · cases h
  · cases h; exact AK.blkEnd k
  · cases h; exact AK.opsEnd k
  · rename_i all o rest K0
    cases hd : dstOk N o.dst with
    | false => simp [hd] at h
    | true =>
      simp only [hd] at h
      have hN := dstOk_lt hd
      split at h
      · rename_i hg
        split at h
        · rename_i x σ1 obs1 he
          cases h
          exact AOps.op (fun _ _ _ _ => wanted_none hg) (opE_ok hT he ho) _ rfl hN k
        · cases h
      · rename_i j b hg
        split at h
        · rename_i b' hgu
          have hw : ∀ σ s a, FrOK N σ s φ a → Region.wanted o (yielded all.toArray a.tmps) = (some b' == some b) := fun σ s a f => by simp only [Region.wanted, hg, guardE_ok hgu f]
          split at h
          · split at h
            · rename_i x σ1 obs1 he
              cases h
              exact AOps.op (fun σ s a f => (hw σ s a f).trans rfl) (opE_ok hT he ho) _ rfl hN k
            · cases h
          · split at h
            · rename_i x σ1 obs1 he
              cases h
              exact AOps.op (fun σ s a f => (hw σ s a f).trans rfl) (opE_ok hT he ho) _ rfl hN k
            · cases h
          · rename_i hne1 hne2
            cases h
            refine AOps.passT (fun σ s a f => (hw σ s a f).trans ?_) hN k
            cases b <;> cases b' <;> simp_all
        · rename_i hgu
          cases h
          exact AOps.passT (fun σ s a f => by simp only [Region.wanted, hg, guardE_ok hgu f]; rfl) hN k
        · cases h
  · rename_i c K0
    split at h
    · cases h; exact AK.skip k
    · cases h; exact AK.seq k
    · cases h; exact AK.block k
    · cases h; exact AK.region k
    · split at h
      · rename_i K1 hk; cases h; exact AK.exit hk k
      · cases h
    · rename_i t x y
      split at h
      · rename_i hl; cases h; exact AK.cond rfl hl (fun _ => k) (fun e => by cases e)
      · rename_i hl; cases h; exact AK.cond rfl hl (fun e => by cases e) (fun _ => k)
      · cases h
    · cases h

/-- The evaluator. -/
def run (T : List (Nat × TI)) (N : Nat) : Nat → List It → Fr → List Box → List Prop → Option (List It × Fr × List Box × List Prop)
  | 0, K, φ, σ, obs => forceL obs fun obs => some (K, φ, σ, obs)
  | n + 1, K, φ, σ, obs => match step1 T N K φ σ with
    | some (K', φ', σ', o) => run T N n K' φ' σ' (catP o obs)
    | none => forceL obs fun obs => some (K, φ, σ, obs)

theorem run_ok {P : Program} {X : Cx P} {T : List (Nat × TI)} (hT : TOK P T) {N : Nat} {Qf : Post} : ∀ {n : Nat} {K K' : List It} {φ φ' : Fr} {σ σ' : List Box} {obs obs' : List Prop}, run T N n K φ σ obs = some (K', φ', σ', obs') → AllP obs' → AK X N Qf K' .normal φ' σ' → AK X N Qf K .normal φ σ ∧ AllP obs
  | 0, K, K', φ, φ', σ, σ', obs, obs', h, ho, k => by
    simp only [run, forceL_eq] at h
    cases h
    exact ⟨k, ho⟩
  | n + 1, K, K', φ, φ', σ, σ', obs, obs', h, ho, k => by
    simp only [run] at h
    cases hs : step1 T N K φ σ with
    | none =>
      simp only [hs, forceL_eq] at h
      cases h
      exact ⟨k, ho⟩
    | some r =>
      obtain ⟨K1, φ1, σ1, o1⟩ := r
      simp only [hs] at h
      obtain ⟨h1, h2⟩ := run_ok hT h ho k
      rw [AllP.cat] at h2
      exact ⟨step1_ok hT hs h2.1 h1, h2.2⟩

/-- Run as far as reckoning goes. -/
theorem AK.run {P : Program} {X : Cx P} {T : List (Nat × TI)} (hT : TOK P T) {N : Nat} {Qf : Post} (n : Nat) {K K' : List It} {φ φ' : Fr} {σ σ' : List Box} {obs' : List Prop} (h : AM.run T N n K φ σ [] = some (K', φ', σ', obs')) (ho : AllP obs')
    (k : AK X N Qf K' .normal φ' σ') : AK X N Qf K .normal φ σ := (run_ok hT h ho k).1

end Go.AM

/- Cutting, converting, least and greatest; interface values; functions. -/
namespace Go.AM

section
variable {P : Program} {T : List (Nat × TI)} {o : Oper} {η : Operand → D} {σ : List Box}

/-- A bound of a cut: a number, or none. -/
def bndE (η : Operand → D) : Option Operand → Option (Option Int)
  | none => some none
  | some x => match η x with
    | .e (.one (.c (.int _ j))) => some (some j)
    | _ => none

theorem bndE_ok {s : St} {ρ : Operand → Value} (hr : ∀ y, RdD σ s (ρ y) (η y)) {x : Option Operand} {b : Option Int} (h : bndE η x = some b) : (x.map ρ = none ∧ b = none) ∨ ∃ k j, x.map ρ = some (.int k j) ∧ b = some j := by
  cases x with
  | none => cases h; exact .inl ⟨rfl, rfl⟩
  | some y =>
    right
    simp only [bndE] at h
    split at h
    · rename_i k j hj
      cases h
      have := hr y
      rw [hj] at this
      have := rdC this
      generalize hv : ρ y = v at this
      cases this
      exact ⟨k, j, by simp [hv], rfl⟩
    · cases h

def bndN (d : Nat) : Option Int → Nat
  | none => d
  | some j => j.toNat

/-- What must hold of the bounds of a cut: 0 ≤ l ≤ h ≤ n. -/
def bndObs (n : Nat) : Option Int → Option Int → List Prop
  | none, none => []
  | some l, none => [0 ≤ l, l ≤ n]
  | none, some h => [0 ≤ h, h ≤ n]
  | some l, some h => [0 ≤ l, l ≤ h, h ≤ n]

theorem run_bounds {isS : Bool} {n cap : Nat} (hn : n ≤ cap) {lo hi : Option Value} {l h : Option Int} (hl : (lo = none ∧ l = none) ∨ ∃ k j, lo = some (.int k j) ∧ l = some j) (hh : (hi = none ∧ h = none) ∨ ∃ k j, hi = some (.int k j) ∧ h = some j)
    (ho : AllP (bndObs n l h)) (w : World) : (Instr.sliceBounds isS n cap lo hi none).run P w = .ok (bndN 0 l, bndN n h, cap) w ∧ bndN 0 l ≤ bndN n h ∧ bndN n h ≤ n := by
  rcases hl with ⟨rfl, rfl⟩ | ⟨kl, l, rfl, rfl⟩ <;> rcases hh with ⟨rfl, rfl⟩ | ⟨kh, h, rfl, rfl⟩
  · exact ⟨by simp [Instr.sliceBounds, bndN], by simp [bndN], by simp [bndN]⟩
  · obtain ⟨h1, h2⟩ : 0 ≤ h ∧ h ≤ (n : Int) := ho
    refine ⟨?_, by simp [bndN], by simp only [bndN]; omega⟩
    simp [Instr.sliceBounds, bndN, run_sliceBound (P := P) w kh h cap _ h1 (by omega)]
  · obtain ⟨h1, h2⟩ : 0 ≤ l ∧ l ≤ (n : Int) := ho
    refine ⟨?_, by simp only [bndN]; omega, by simp [bndN]⟩
    simp [Instr.sliceBounds, bndN, run_sliceBound (P := P) w kl l n _ h1 h2]
  · obtain ⟨h1, h2, h3⟩ : 0 ≤ l ∧ l ≤ h ∧ h ≤ (n : Int) := ho
    have e : ((h.toNat : Nat) : Int) = h := Int.toNat_of_nonneg (by omega)
    refine ⟨?_, by simp only [bndN]; omega, by simp only [bndN]; omega⟩
    simp [Instr.sliceBounds, bndN, run_sliceBound (P := P) w kh h cap _ (by omega) (by omega), run_sliceBound (P := P) w kl l h.toNat _ h1 (by omega)]

theorem ev_sliceBound (w : World) (k : IntKind) (i : Int) (y : Nat) (code : BoundsCode) (h1 : 0 ≤ i) (h2 : i ≤ (y : Int)) (es : Array Event) : (Instr.sliceBound (.int k i) y code).events P w es = es := by
  simp [Instr.sliceBound, asIntOf, h1, h2]

theorem ev_bounds {isS : Bool} {n cap : Nat} {lo hi : Option Value} {l h : Option Int} (hn : n ≤ cap) (hl : (lo = none ∧ l = none) ∨ ∃ k j, lo = some (.int k j) ∧ l = some j) (hh : (hi = none ∧ h = none) ∨ ∃ k j, hi = some (.int k j) ∧ h = some j)
    (ho : AllP (bndObs n l h)) (w : World) (es : Array Event) : (Instr.sliceBounds isS n cap lo hi none).events P w es = es := by
  have ev : ∀ (isS : Bool) (v : Option Value) (d : Nat) (w : World) (es : Array Event), v = none → (Instr.sliceBounds isS n cap none none none).events P w es = es := fun isS v d w es _ => by simp [Instr.sliceBounds]
  rcases hl with ⟨rfl, rfl⟩ | ⟨kl, l, rfl, rfl⟩ <;> rcases hh with ⟨rfl, rfl⟩ | ⟨kh, h, rfl, rfl⟩
  · simp [Instr.sliceBounds]
  · obtain ⟨h1, h2⟩ : 0 ≤ h ∧ h ≤ (n : Int) := ho
    simp [Instr.sliceBounds, ev_sliceBound (P := P) w kh h cap _ h1 (by omega)]
  · obtain ⟨h1, h2⟩ : 0 ≤ l ∧ l ≤ (n : Int) := ho
    simp [Instr.sliceBounds, ev_sliceBound (P := P) w kl l n _ h1 h2]
  · obtain ⟨h1, h2, h3⟩ : 0 ≤ l ∧ l ≤ h ∧ h ≤ (n : Int) := ho
    have e : ((h.toNat : Nat) : Int) = h := Int.toNat_of_nonneg (by omega)
    simp [Instr.sliceBounds, run_sliceBound (P := P) w kh h cap _ (by omega) (by omega), ev_sliceBound (P := P) w kh h cap _ (by omega) (by omega), ev_sliceBound (P := P) w kl l h.toNat _ h1 (by omega)]

def cutS (s : List UInt8) : Option Int → Option Int → List UInt8
  | none, none => s
  | some l, none => s.drop l.toNat
  | none, some h => s.take h.toNat
  | some l, some h => (s.take h.toNat).drop l.toNat

theorem OpJ.sliceStr (hT : TOK P T) {t : TypeId} {x : Operand} {lo hi : Option Operand} (h : o.op = .slice t x lo hi none) {i : TI} (hi' : lookT T t = some i) (hd : i.desc = .string) {s : List UInt8} {l u : Option Int}
    (hx : η x = .e (.one (.c (.str s)))) (hl : bndE η lo = some l) (hu : bndE η hi = some u) (ho : AllP (bndObs s.length l u)) : OpJ P o η σ (.e (.one (.c (.str (cutS s l u))))) σ := by
  refine .quiet fun st ρ hh hr => ?_
  have h1 := hr x
  rw [hx] at h1
  replace h1 := rdC h1
  generalize hvx : ρ x = vx at h1
  cases h1 with
  | @str sb _ he hlen =>
  have hsz : sb.size = s.length := by rw [← he]; exact Array.length_toList.symm
  obtain ⟨hb, hb1, hb2⟩ := run_bounds (P := P) (isS := false) (n := sb.size) (cap := sb.size) (Nat.le_refl _) (bndE_ok hr hl) (bndE_ok hr hu) (by rw [hsz]; exact ho) st.w
  have hund := (hT t i hi').run_underlying (w := st.w)
  rw [hd] at hund
  have hbe := ev_bounds (P := P) (isS := false) (n := sb.size) (cap := sb.size) (Nat.le_refl _) (bndE_ok hr hl) (bndE_ok hr hu) (by rw [hsz]; exact ho) st.w
  refine ⟨.string (sb.extract (bndN 0 l) (bndN sb.size u)), ?_, Rd.str ?_ ?_, by simp [execOp, h, hvx, Instr.sliceAt, hund, Instr.slice, hbe]⟩
  · simp [execOp, h, hvx, Instr.sliceAt, hund, Instr.slice, hb]
  · rw [Lib.extract_data, he, hsz]
    rw [hsz] at hb1 hb2
    cases l <;> cases u <;> simp only [cutS, bndN] at hb1 hb2 ⊢
    · simp
    · simp
    · rw [List.take_of_length_le (by simp)]
    · rw [List.drop_take]
  · cases l <;> cases u <;> simp only [cutS, List.length_drop, List.length_take] <;> omega

/-- The elements from l on. -/
def offF (l : Nat) (f : Nat → List C) : Nat → List C := fun i => f (l + i)

def cutT (tt : Bool) : Option Int → Bool
  | none => tt
  | some _ => false

theorem OpJ.sliceSl (hT : TOK P T) {t : TypeId} {x : Operand} {lo hi : Option Operand} (h : o.op = .slice t x lo hi none) {i ie : TI} {E : TypeId} (hi' : lookT T t = some i) (hd : i.desc = .slice E) (hE : lookT T E = some ie) {tt : Bool} {n : Nat} {es : Nat → List C} {l u : Option Int}
    (hx : ∀ s v, RdD σ s v (η x) → Rd s.M v (.sl tt ie.size n es)) (hl : bndE η lo = some l) (hu : bndE η hi = some u) (ho : AllP (bndObs n l u)) :
    OpJ P o η σ (.e (.one (.c (.sl (cutT tt u) ie.size (bndN n u - bndN 0 l) (offF (bndN 0 l) es))))) σ := by
  refine .quiet fun st ρ hh hr => ?_
  have h1 := hx st _ (hr x)
  obtain ⟨a, cap, vs, hv, hcap, hcb, ht, hF, hm⟩ := h1.flat
  rw [hv] at h1
  obtain ⟨hb, hb1, hb2⟩ := run_bounds (P := P) (isS := true) hcap (bndE_ok hr hl) (bndE_ok hr hu) ho st.w
  have hund := (hT t i hi').run_underlying (w := st.w)
  rw [hd] at hund
  refine ⟨.slice (if cap = bndN 0 l then a else a.map (·.add (bndN 0 l * ie.size))) (bndN n u - bndN 0 l) (cap - bndN 0 l), ?_, ?_, by simp [execOp, h, hv, Instr.sliceAt, hund, Instr.slice, hb, ev_bounds (P := P) (isS := true) hcap (bndE_ok hr hl) (bndE_ok hr hu) ho st.w]⟩
  · simp [execOp, h, hv, Instr.sliceAt, hund, Instr.slice, hb, (hT E ie hE).run_sizeOf]
  · cases h1 with
    | sl b off f _ _ _ hk ha hm' hr' =>
      refine Rd.sl b (off + bndN 0 l * ie.size) (fun i j => f (bndN 0 l + i) j) (by omega) (by omega) ?_ (fun i hi => hk _ (by omega)) (fun hpos => ?_) (fun i hi j c hj => ?_) (fun i hi j c hj => hr' _ (by omega) j c hj)
      · intro hct
        cases u with
        | none => simp only [cutT] at hct; have := ht hct; simp only [bndN]; omega
        | some u => cases hct
      · rw [if_neg (by omega), ha (by omega)]
        simp [add_addr]
      · have := hm' (bndN 0 l + i) (by omega) j c hj
        rw [show off + bndN 0 l * ie.size + i * ie.size + j = off + (bndN 0 l + i) * ie.size + j by rw [Nat.add_mul]; omega]
        exact this

/-! ### Conversions -/

theorem OpJ.convInt (hT : TOK P T) {src dst : TypeId} {x : Operand} (h : o.op = .convert src dst x) {i i2 : TI} {k k' : IntKind} {j : Int} (hi : lookT T src = some i) (hi2 : lookT T dst = some i2) (hd : i2.desc = .int k') (hx : η x = .e (.one (.c (.int k j)))) (ho : inR k' j) :
    OpJ P o η σ (.e (.one (.c (.int k' j)))) σ := by
  refine .quiet fun st ρ hh hr => ?_
  have h1 := hr x
  rw [hx] at h1
  replace h1 := rdC h1
  generalize hvx : ρ x = vx at h1
  cases h1
  have hu1 := (hT src i hi).run_underlying (w := st.w)
  have hu2 := (hT dst i2 hi2).run_underlying (w := st.w)
  rw [hd] at hu2
  exact ⟨.int k' j, by simp [execOp, h, hvx, convert, hu1, hu2, Conv.intToInt, wrap_in ho], Rd.int ho, by simp [execOp, h, hvx, convert, hu1, hu2, Conv.intToInt]⟩

theorem OpJ.convStr (hT : TOK P T) {src dst : TypeId} {x : Operand} (h : o.op = .convert src dst x) {i i2 : TI} {s : List UInt8} (hi : lookT T src = some i) (hi2 : lookT T dst = some i2) (hd : i2.desc = .string) (hx : η x = .e (.one (.c (.str s)))) :
    OpJ P o η σ (.e (.one (.c (.str s)))) σ := by
  refine .quiet fun st ρ hh hr => ?_
  have h1 := hr x
  rw [hx] at h1
  have h1' := rdC h1
  generalize hvx : ρ x = vx at h1'
  cases h1'
  have hu1 := (hT src i hi).run_underlying (w := st.w)
  have hu2 := (hT dst i2 hi2).run_underlying (w := st.w)
  rw [hd] at hu2
  exact ⟨_, by simp [execOp, h, hvx, convert, hu1, hu2]; rfl, by rw [← hvx]; exact h1, by simp [execOp, h, hvx, convert, hu1, hu2]⟩

/-- The bytes that a short slice holds. -/
def bytesE (f : Nat → List C) : Nat → Nat → Option (List UInt8)
  | _, 0 => some []
  | i, n + 1 => match f i with
    | [.int .u8 v] => match bytesE f (i + 1) n with
      | some r => some (UInt8.ofNat v.toNat :: r)
      | none => none
    | _ => none

theorem bytesE_ok {M : Mem} {f : Nat → List C} : ∀ {n i : Nat} {r : List UInt8} {vs : List Value}, bytesE f i n = some r → vs.length = n → (∀ j, j < n → ∀ c, (f (i + j))[0]? = some c → ∃ v, vs[j]? = some v ∧ Rd M v c) →
    ∃ xs : List Int, vs = xs.map (Value.int .u8) ∧ r = xs.map (fun x => UInt8.ofNat x.toNat)
  | 0, i, r, vs, h, hl, _ => by cases h; exact ⟨[], by simpa using hl, rfl⟩
  | n + 1, i, r, [], h, hl, _ => by simp at hl
  | n + 1, i, r, v :: vs, h, hl, hr => by
    simp only [bytesE] at h
    split at h
    · rename_i x hx
      split at h
      · rename_i q hq
        cases h
        obtain ⟨u, h1, h2⟩ := hr 0 (by omega) (.int .u8 x) (by simp [hx])
        simp at h1
        subst h1
        cases h2
        obtain ⟨xs, h3, h4⟩ := bytesE_ok (vs := vs) hq (by simpa using hl) (fun j hj c hc => by
          have := hr (j + 1) (by omega) c (by rw [show i + (j + 1) = i + 1 + j by omega]; exact hc)
          simpa using this)
        exact ⟨x :: xs, by simp [h3], by simp [h4]⟩
      · cases h
    · cases h

theorem run_forIn_bytes {P : Program} (w : World) {F : Value → ByteArray → Sem (ForInStep ByteArray)} (hF : ∀ x s, F (.int .u8 x) s = pure (.yield (s.push (UInt8.ofNat x.toNat)))) : ∀ (xs : List Int) (s : ByteArray),
    (forIn (m := Sem) (xs.map (Value.int .u8)) s F).run P w = .ok ⟨s.data ++ (xs.map fun x => UInt8.ofNat x.toNat).toArray⟩ w
  | [], s => by simp
  | x :: xs, s => by
    simp only [List.map_cons, List.forIn_cons, hF, Sem.run_bind, Sem.run_pure, Result.andThen_ok]
    rw [run_forIn_bytes w hF xs]
    congr 2
    apply Array.ext'
    simp [ByteArray.push]

end
end Go.AM

/- One operation, be it a call; regions that draw their order. -/
namespace Go.AM
open Go.Conc (G)

/-- One operation as it stands in a region. -/
def OA {P : Program} (X : Cx P) (N : Nat) (all : List Oper) (o : Oper) (φ : Fr) (σ : List Box) (x : D) (σ' : List Box) : Prop :=
  ∀ s a, FrOK N σ s φ a → HeapOK σ s → ∀ (b : Frame) (k : List Item) (cs : List Frame) (S : Goroutine → St → Prop) (i : Nat) (rest : List Nat), b.kind ≠ .early → all.toArray[i]? = some o →
    (∀ v s', RdD σ' s' v x → HeapOK σ' s' → StepW σ s σ' s' → Arr X S (G (b.aT (a.put o.dst v) (.inRegion all.toArray rest :: k)) cs) s') → Arr X S (G (b.aT a (.inRegion all.toArray (i :: rest) :: k)) cs) s

section
variable {P : Program} {X : Cx P} {N : Nat} {all rest : List Oper} {φ φ' : Fr} {σ σ' : List Box} {o : Oper} {x : D}

theorem OA.le (h : OA X N all o φ' σ x σ') (hl : FrLe φ φ') : OA X N all o φ σ x σ' := fun s a f hh => h s a (f.le hl) hh

theorem OA.ofJ (hg : ∀ σ s a, FrOK N σ s φ a → Region.wanted o (yielded all.toArray a.tmps) = true) (h : OpJ P o (absO φ) σ x σ') : OA X N all o φ σ x σ' := by
  intro s a f hh b k cs S i rest hb hi hK
  refine arr_op hb hi (hg _ _ _ f) fun s1 hr1 => ?_
  have hh1 := hh.rely hr1
  obtain ⟨nx, s', h1, h2, h3, h4, h5⟩ := h s1 a.eval hh1 (absO_ok (f.rely hr1 hh))
  have hW := hr1.stepW.trans (h4.toW hh1)
  have hG : Guar s1 s' ((execOp a.eval o).events P s1.w #[]) := ⟨⟨σ, σ', hh1, h3, h4⟩, h5⟩
  cases nx with
  | value v => exact ⟨_, s', v, h1, .inl rfl, hG, hK v s' h2 h3 hW⟩
  | skip => simp only [NxOK] at h2; subst h2; exact ⟨_, s', undef, h1, .inr ⟨rfl, rfl⟩, hG, hK undef s' trivial h3 hW⟩
  | _ => exact h2.elim

theorem OA.pass (hg : ∀ σ s a, FrOK N σ s φ a → Region.wanted o (yielded all.toArray a.tmps) = false) : OA X N all o φ σ (.tup []) σ := by
  intro s a f hh b k cs S i rest hb hi hK
  exact .ctl hh rfl (fun _ => sg_pass hi (hg _ _ _ f)) fun s1 hr1 => hK undef s1 ⟨[], rfl, trivial⟩ (hh.rely hr1) hr1.stepW

theorem AOps.ofOA {Q : Fr → List Box → Prop} (h : OA X N all o φ σ x σ') (hN : ∀ t, o.dst = some t → t < N) (k : AOps X N all rest Q (putD o.dst x φ) σ') : AOps X N all (o :: rest) Q φ σ := by
  intro s a f hh b kk cs S idx hb hidx hQ
  cases idx with
  | nil => exact hidx.elim
  | cons i idx =>
  refine h s a f hh b kk cs S i idx hb hidx.1 fun v s' hv hh' st => k s' _ ?_ hh' b kk cs S idx hb hidx.2 fun φ2 σ2 s2 a2 q f2 h2 st2 => hQ φ2 σ2 s2 a2 q f2 h2 (st.trans st2)
  cases hd : o.dst with
  | none => exact f.mono st hh.len
  | some t => exact (f.mono st hh.len).put (hN t hd) hv

end

/-! ### Contracts in a table -/

abbrev CtF := List D → List Box → Option (D × List Box × List Prop)

def lookC : List (Nat × CtF) → Nat → Option CtF
  | [], _ => none
  | (i, g) :: r, f => cond (Nat.beq i f) (some g) (lookC r f)

def EvT {P : Program} (X : Cx P) (f : FuncId) (g : CtF) : Prop := ∀ args σ res σ' obs, g args σ = some (res, σ', obs) → AllP obs → Ev X f args σ res σ'

def COK {P : Program} (X : Cx P) (CT : List (Nat × CtF)) : Prop := ∀ f g, lookC CT f = some g → EvT X f g

theorem COK.nil {P : Program} {X : Cx P} : COK X [] := fun _ _ h => by cases h
theorem COK.cons {P : Program} {X : Cx P} {f : FuncId} {g : CtF} {CT : List (Nat × CtF)} (h : EvT X f g) (r : COK X CT) : COK X ((f, g) :: CT) := by
  intro f2 g2 h2
  simp only [lookC] at h2
  cases hb : Nat.beq f f2 with
  | true => rw [hb] at h2; cases h2; rw [← Nat.eq_of_beq_eq_true hb]; exact h
  | false => rw [hb] at h2; exact r f2 g2 h2

/-! The boxes that arguments name, and the callee's names for them. -/

def bxA : A → List Nat → List Nat
  | .ptr l _, ks => cond (memX l ks) ks (ks ++ [l])
  | .vec l _ _ _, ks => cond (memX l ks) ks (ks ++ [l])
  | .ref l, ks => cond (memX l ks) ks (ks ++ [l])
  | _, ks => ks

def bxL : List A → List Nat → List Nat
  | [], ks => ks
  | a :: r, ks => bxL r (bxA a ks)

def bxD : D → List Nat → List Nat
  | .e (.one a), ks => bxA a ks
  | .e (.agg cs), ks => bxL cs ks
  | _, ks => ks

def bxDs : List D → List Nat → List Nat
  | [], ks => ks
  | a :: r, ks => bxDs r (bxD a ks)

def idxX (l : Nat) : List Nat → Nat → Option Nat
  | [], _ => none
  | k :: r, i => match Nat.beq k l with | true => some i | false => idxX l r (i + 1)

theorem idxX_get {l : Nat} : ∀ {ks : List Nat} {i j : Nat}, idxX l ks i = some j → i ≤ j ∧ ks[j - i]? = some l
  | [], _, _, h => by cases h
  | k :: r, i, j, h => by
    simp only [idxX] at h
    cases hb : Nat.beq k l with
    | true => rw [hb] at h; cases h; exact ⟨Nat.le_refl _, by simp [Nat.eq_of_beq_eq_true hb]⟩
    | false =>
      rw [hb] at h
      obtain ⟨h1, h2⟩ := idxX_get h
      refine ⟨by omega, ?_⟩
      rw [show j - i = (j - (i + 1)) + 1 by omega]
      simpa using h2

def unA (ks : List Nat) : A → Option A
  | .ptr l o => match idxX l ks 0 with | some i => some (.ptr i o) | none => none
  | .ref l => match idxX l ks 0 with | some i => some (.ref i) | none => none
  | .vec _ _ _ _ => none
  | .c x => some (.c x)
  | .any => some .any

def unL (ks : List Nat) : List A → Option (List A)
  | [] => some []
  | a :: r => match unA ks a with
    | some b => match unL ks r with
      | some q => some (b :: q)
      | none => none
    | none => none

def unD (ks : List Nat) : D → Option D
  | .e (.one a) => match unA ks a with | some b => some (.e (.one b)) | none => none
  | .e (.agg cs) => match unL ks cs with | some b => some (.e (.agg b)) | none => none
  | .tup _ => none
  | .any => some .any

def unDs (ks : List Nat) : List D → Option (List D)
  | [] => some []
  | a :: r => match unD ks a with
    | some b => match unDs ks r with
      | some q => some (b :: q)
      | none => none
    | none => none

theorem unA_ok {ks : List Nat} {a b : A} (h : unA ks a = some b) : renA ks b = a ∧ inA ks.length b = true := by
  cases a with
  | ptr l o =>
    simp only [unA] at h
    split at h
    · rename_i i hi
      cases h
      obtain ⟨_, h2⟩ := idxX_get hi
      simp only [Nat.sub_zero] at h2
      have hl : i < ks.length := (List.getElem?_eq_some_iff.1 h2).1
      exact ⟨by simp [renA, getX_get, h2], Nat.ble_eq_true_of_le hl⟩
    · cases h
  | ref l =>
    simp only [unA] at h
    split at h
    · rename_i i hi
      cases h
      obtain ⟨_, h2⟩ := idxX_get hi
      simp only [Nat.sub_zero] at h2
      have hl : i < ks.length := (List.getElem?_eq_some_iff.1 h2).1
      exact ⟨by simp [renA, getX_get, h2], Nat.ble_eq_true_of_le hl⟩
    · cases h
  | vec l k n es => cases h
  | c x => cases h; exact ⟨rfl, rfl⟩
  | any => cases h; exact ⟨rfl, rfl⟩

theorem unL_ok {ks : List Nat} : ∀ {a b : List A}, unL ks a = some b → renL ks b = a ∧ inL ks.length b = true
  | [], b, h => by cases h; exact ⟨rfl, rfl⟩
  | a :: r, b, h => by
    simp only [unL] at h
    split at h
    · rename_i x hx
      split at h
      · rename_i q hq
        cases h
        obtain ⟨h1, h2⟩ := unA_ok hx
        obtain ⟨h3, h4⟩ := unL_ok hq
        exact ⟨by simp [renL, h1, h3], by simp [inL, h2, h4]⟩
      · cases h
    · cases h

theorem unD_ok {ks : List Nat} {a b : D} (h : unD ks a = some b) : renD ks b = a ∧ inD ks.length b = true := by
  unfold unD at h
  split at h
  · rename_i a
    split at h
    · rename_i x hx; cases h; obtain ⟨h1, h2⟩ := unA_ok hx; exact ⟨by simp [renD, renE, h1], by simp [inD, inE, h2]⟩
    · cases h
  · rename_i cs
    split at h
    · rename_i x hx; cases h; obtain ⟨h1, h2⟩ := unL_ok hx; exact ⟨by simp [renD, renE, h1], by simp [inD, inE, h2]⟩
    · cases h
  · cases h
  · cases h; exact ⟨rfl, rfl⟩

theorem unDs_ok {ks : List Nat} : ∀ {a b : List D}, unDs ks a = some b → renDs ks b = a ∧ inDs ks.length b = true
  | [], b, h => by cases h; exact ⟨rfl, rfl⟩
  | a :: r, b, h => by
    simp only [unDs] at h
    split at h
    · rename_i x hx
      split at h
      · rename_i q hq
        cases h
        obtain ⟨h1, h2⟩ := unD_ok hx
        obtain ⟨h3, h4⟩ := unDs_ok hq
        exact ⟨by simp [renDs, h1, h3], by simp [inDs, h2, h4]⟩
      · cases h
    · cases h

/-- What a call comes to. -/
def callE (CT : List (Nat × CtF)) (φ : Fr) (σ : List Box) (fo : Operand) (xs : List Operand) : Option (D × List Box × List Prop) :=
  match calleeE (absO φ fo) with
  | none => none
  | some (f, cap) => match lookC CT f with
    | none => none
    | some g =>
      let args := canDs (xs.map (absO φ) ++ capsD cap)
      let ks := bxDs args []
      match unDs ks args with
      | none => none
      | some cargs => match sel ks σ with
        | none => none
        | some σs => match g cargs σs with
          | none => none
          | some (res, σ1, obs) => match plainBs σs, plainBs σ1, nodupX ks, Nat.ble ks.length σ1.length with
            | true, true, true, true => some (renD (ks ++ upTo σ.length (σ1.length - ks.length)) res, putB ks σ1 σ, obs)
            | _, _, _, _ => none

theorem OA.callK {P : Program} {X : Cx P} {N : Nat} {all : List Oper} {φ : Fr} {σ : List Box} {o : Oper} {CT : List (Nat × CtF)} (hC : COK X CT) {fo : Operand} {xs : Array Operand} {ats : Array TypeId}
    (hg : ∀ σ s a, FrOK N σ s φ a → Region.wanted o (yielded all.toArray a.tmps) = true) (ho : o.op = .call { callee := .value fo, args := xs, argTypes := ats }) {f : FuncId} {cap : List C} (hf : calleeE (absO φ fo) = some (f, cap)) {g : CtF} (hgt : lookC CT f = some g)
    {ks : List Nat} {cargs : List D} {σs σ1 : List Box} {res : D} {obs : List Prop} (hun : unDs ks (canDs (xs.toList.map (absO φ) ++ capsD cap)) = some cargs) (hσ : sel ks σ = some σs) (hev1 : g cargs σs = some (res, σ1, obs))
    (hp : plainBs σs = true) (hp1 : plainBs σ1 = true) (hn : nodupX ks = true) (hl1 : ks.length ≤ σ1.length) (hobs : AllP obs) : OA X N all o φ σ (renD (ks ++ upTo σ.length (σ1.length - ks.length)) res) (putB ks σ1 σ) := by
  obtain ⟨hargs, hin⟩ := unDs_ok hun
  intro s a hfr hh b kk cs S i rest hb hi hK
  have hev := hC f g hgt _ _ _ _ _ hev1 hobs
  have hfo := absO_ok hfr fo
  unfold calleeE at hf
  split at hf
  case h_2 => cases hf
  case h_1 f' cap' he =>
    cases hf
    rw [he] at hfo
    have hfo' := rdC hfo
    generalize hv : a.eval fo = fv at hfo'
    cases hfo' with
    | fn fs cs' hl hl' f1 f2 h1 h2 r1 r2 =>
      have hfs : fs = [] := List.eq_nil_of_length_eq_zero hl
      subst hfs
      have hcaps : RdDs σ s cs' (capsD cap) := capsD_ok (fun j c hj => ⟨f2 j, h2 j (by rw [hl']; exact (List.getElem?_eq_some_iff.1 hj).1), r2 j c hj⟩) hl'
      have hall : RdDs σ s (xs.toList.map a.eval ++ cs') (renDs ks cargs) := by
        rw [hargs]
        exact canDs_ok ((RdDs_of (absO_ok hfr) xs.toList).append hcaps)
      obtain ⟨fn, hfn, hnum, hbody⟩ := hev.1
      exact arr_call hb hi (hg _ _ _ hfr) hh (fun w => (run_callV ho hfn hnum hbody hv w).1) (fun w => (run_callV ho hfn hnum hbody hv w).2) hev hall hin hσ hp hp1 hn hl1 hK

theorem OA.call {P : Program} {X : Cx P} {N : Nat} {all : List Oper} {φ : Fr} {σ σ' : List Box} {o : Oper} {CT : List (Nat × CtF)} (hC : COK X CT) {fo : Operand} {xs : Array Operand} {ats : Array TypeId} {x : D} {obs : List Prop}
    (hg : ∀ σ s a, FrOK N σ s φ a → Region.wanted o (yielded all.toArray a.tmps) = true) (ho : o.op = .call { callee := .value fo, args := xs, argTypes := ats })
    (he : callE CT φ σ fo xs.toList = some (x, σ', obs)) (hobs : AllP obs) : OA X N all o φ σ x σ' := by
  unfold callE at he
  split at he
  · cases he
  rename_i f cap hf
  split at he
  · cases he
  rename_i g hgt
  simp only at he
  split at he
  · cases he
  rename_i cargs hun
  split at he
  · cases he
  rename_i σs hσ
  split at he
  · cases he
  rename_i res σ1 obs1 hev1
  split at he
  case h_2 => cases he
  rename_i hp hp1 hn hl1
  cases he
  exact OA.callK hC hg ho hf hgt hun hσ hev1 hp hp1 hn (Nat.le_of_ble_eq_true hl1) hobs

theorem renD_nil {d : D} (h : inD 0 d = true) : renD [] d = d := by
  have hA : ∀ {a : A}, inA 0 a = true → renA [] a = a := by
    intro a ha
    cases a <;> simp only [inA] at ha <;> first | rfl | (simp at ha)
  have hL : ∀ {l : List A}, inL 0 l = true → renL [] l = l := by
    intro l
    induction l with
    | nil => intro _; rfl
    | cons a r ih =>
      intro h
      simp only [inL] at h
      cases ha : inA 0 a with
      | false => simp [ha] at h
      | true => simp only [ha] at h; simp [renL, hA ha, ih h]
  have hE : ∀ {a : E1}, inE 0 a = true → renE [] a = a := by
    intro a ha
    cases a with
    | one a => simp [renE, hA ha]
    | agg cs => simp [renE, hL ha]
  have hEs : ∀ {l : List E1}, inEs 0 l = true → renEs [] l = l := by
    intro l
    induction l with
    | nil => intro _; rfl
    | cons a r ih =>
      intro h
      simp only [inEs] at h
      cases ha : inE 0 a with
      | false => simp [ha] at h
      | true => simp only [ha] at h; simp [renEs, hE ha, ih h]
  cases d with
  | e x => simp [renD, hE h]
  | tup xs => simp [renD, hEs h]
  | any => rfl

/-- A call that turns no box. -/
def callQ (CT : List (Nat × CtF)) (φ : Fr) (fo : Operand) (xs : List Operand) : Option (D × List Prop) :=
  match calleeE (absO φ fo) with
  | none => none
  | some (f, cap) => match lookC CT f with
    | none => none
    | some g => match unDs [] (canDs (xs.map (absO φ) ++ capsD cap)) with
      | none => none
      | some cargs => match g cargs [] with
        | some (res, [], obs) => match inD 0 res with
          | true => some (res, obs)
          | false => none
        | _ => none

theorem OA.callQ {P : Program} {X : Cx P} {N : Nat} {all : List Oper} {φ : Fr} {σ : List Box} {o : Oper} {CT : List (Nat × CtF)} (hC : COK X CT) {fo : Operand} {xs : Array Operand} {ats : Array TypeId} {x : D} {obs : List Prop}
    (hg : ∀ σ s a, FrOK N σ s φ a → Region.wanted o (yielded all.toArray a.tmps) = true) (ho : o.op = .call { callee := .value fo, args := xs, argTypes := ats })
    (he : AM.callQ CT φ fo xs.toList = some (x, obs)) (hobs : AllP obs) : OA X N all o φ σ x σ := by
  unfold AM.callQ at he
  split at he
  · cases he
  rename_i f cap hf
  split at he
  · cases he
  rename_i g hgt
  split at he
  · cases he
  rename_i cargs hun
  split at he
  case h_2 => cases he
  rename_i res obs1 hev1
  split at he
  case h_2 => cases he
  rename_i hin
  cases he
  have := OA.callK (σ := σ) hC hg ho hf hgt hun rfl hev1 rfl rfl rfl (Nat.le_refl _) hobs
  simpa [upTo, renD_nil hin, putB] using this

end Go.AM

/- Regions that draw their order. -/
namespace Go.AM
open Go.Conc (G)

/-- The slots, by a function. -/
structure FrV (N : Nat) (σ : List Box) (s : St) (V : Nat → D) (a : Act) : Prop where
  size : a.tmps.size = N
  defers : ∃ ls, DefL σ s a.defers ls
  slot : ∀ t, RdD σ s (a.tmps.getD t undef) (V t)

theorem FrOK.view {N : Nat} {σ : List Box} {s : St} {φ : Fr} {a : Act} (f : FrOK N σ s φ a) : FrV N σ s (look φ) a := ⟨f.size, f.defers, f.slot⟩

theorem FrV.toOK {N : Nat} {σ : List Box} {s : St} {V : Nat → D} {φ : Fr} {a : Act} (f : FrV N σ s V a) (h : ∀ t σ s v, RdD σ s v (V t) → RdD σ s v (look φ t)) : FrOK N σ s φ a :=
  ⟨f.size, f.defers, fun t => h t _ _ _ (f.slot t)⟩

def bindsX (e : Edge) : Bool := Region.binds .any e

/-- What holds of a region for each order that it may draw. n operations; before the i-th in the text's order the boxes are S i; it comes to x i. -/
structure Drawn {P : Program} (X : Cx P) (N : Nat) (ops : Array Oper) (φ : Fr) (S : Nat → List Box) (x : Nat → D) (fr : Nat → Fr) (free eff : Nat → Bool) (Cl : Nat → Nat → Prop) (idx : Nat → Option Nat) (φ' : Fr) : Prop where
  foll : P.follows Departure.mixedOrders = true
  back : ∀ i o, ops[i]? = some o → ∀ e ∈ o.after, bindsX e = true → e.on < i
  idx1 : ∀ i o d, ops[i]? = some o → o.dst = some d → idx d = some i ∧ d < N
  idx2 : ∀ d i, idx d = some i → ∃ o, ops[i]? = some o ∧ o.dst = some d
  quiet : ∀ i, eff i = false → S (i + 1) = S i
  one : ∀ i o, ops[i]? = some o → free i = false → OA X N ops.toList o (fr i) (S i) (x i) (S (i + 1))
  all : ∀ i o, ops[i]? = some o → free i = true → eff i = false ∧ ∀ k, OA X N ops.toList o (fr i) (S k) (x i) (S k)
  cl : ∀ L : Nat → Prop, (∀ i o, ops[i]? = some o → L i → ∀ e ∈ o.after, bindsX e = true → L e.on) → ∀ i j, Cl i j → (L i → L j) ∧ ∃ o, ops[i]? = some o ∧ ((∀ e ∈ o.after, bindsX e = true → L e.on) → L j)
  comp : ∀ i f, i < ops.size → f < ops.size → eff f = true → i ≠ f → free i = false → (f < i ∧ Cl i f) ∨ (i < f ∧ Cl f i)
  frl : ∀ i o, ops[i]? = some o → ∀ t σ s v, RdD σ s v (match idx t with | some j => (if ∃ e ∈ o.after, bindsX e = true ∧ e.on = j then x j else if ∃ oj, ops[j]? = some oj ∧ ∃ e ∈ oj.after, bindsX e = true ∧ e.on = i then look φ t else .any) | none => look φ t) → RdD σ s v (look (fr i) t)
  fin : ∀ t σ s v, RdD σ s v (match idx t with | some j => x j | none => look φ t) → RdD σ s v (look φ' t)

open Classical in
noncomputable def viewL (φ : Fr) (x : Nat → D) (idx : Nat → Option Nat) (L : Array Bool) (t : Nat) : D :=
  match idx t with
  | some j => if L.getD j false = true then x j else look φ t
  | none => look φ t

theorem mem_ready {ops : Array Oper} {L : Array Bool} {i : Nat} : i ∈ Region.ready .any ops L ↔ ∃ o, ops[i]? = some o ∧ L.getD i true = false ∧ ∀ e ∈ o.after, bindsX e = true → L.getD e.on false = true := by
  unfold Region.ready
  simp only [List.mem_filter, List.mem_range, Bool.and_eq_true, Bool.not_eq_true']
  constructor
  · rintro ⟨h1, h2, h3⟩
    rw [Array.getElem?_eq_getElem h1] at h3
    simp only [Option.map_some, Option.getD_some, Array.all_eq_true', Bool.or_eq_true, Bool.not_eq_true'] at h3
    refine ⟨ops[i], Array.getElem?_eq_getElem h1, h2, fun e he hb => ?_⟩
    rcases h3 e he with h | h
    · unfold bindsX at hb; rw [hb] at h; cases h
    · exact h
  · rintro ⟨o, h1, h2, h3⟩
    have hlt : i < ops.size := (Array.getElem?_eq_some_iff.1 h1).1
    refine ⟨hlt, h2, ?_⟩
    rw [h1]
    simp only [Option.map_some, Option.getD_some, Array.all_eq_true', Bool.or_eq_true, Bool.not_eq_true']
    intro e he
    cases hb : Region.binds .any e with
    | false => exact .inl rfl
    | true => exact .inr (h3 e he hb)

section
variable {P : Program} {X : Cx P} {N : Nat} {ops : Array Oper} {φ φ' : Fr} {S : Nat → List Box} {x : Nat → D} {fr : Nat → Fr} {free eff : Nat → Bool} {Cl : Nat → Nat → Prop} {idx : Nat → Option Nat}

theorem Drawn.chain (h : Drawn X N ops φ S x fr free eff Cl idx φ') {i : Nat} : ∀ {k : Nat}, i ≤ k → (∀ g, i ≤ g → g < k → eff g = false) → S k = S i
  | 0, hk, _ => by rw [show i = 0 by omega]
  | k + 1, hk, hg => by
    rcases Nat.lt_or_ge k i with hl | hl
    · rw [show i = k + 1 by omega]
    · rw [h.quiet k (hg k hl (by omega)), h.chain (k := k) hl (fun g h1 h2 => hg g h1 (by omega))]

theorem Drawn.last (h : Drawn X N ops φ S x fr free eff Cl idx φ') {L : Array Bool} (hall : ∀ i, i < ops.size → L.getD i false = true) {k : Nat} {s0 s : St} {a : Act} (hk : k ≤ ops.size)
    (hkk : ∀ f, f < ops.size → eff f = true → (L.getD f false = true ↔ f < k)) (hfr : FrV N (S k) s (viewL φ x idx L) a) (hh : HeapOK (S k) s) (st : StepW (S 0) s0 (S k) s) :
    FrOK N (S ops.size) s φ' a ∧ HeapOK (S ops.size) s ∧ StepW (S 0) s0 (S ops.size) s := by
  have hSk : S ops.size = S k := h.chain hk (fun g h1 h2 => by
    cases he : eff g with
    | false => rfl
    | true => have := (hkk g h2 he).1 (hall g h2); omega)
  rw [← hSk] at hfr hh st
  refine ⟨hfr.toOK fun t σ s v hv => h.fin t σ s v ?_, hh, st⟩
  unfold viewL at hv
  cases hi : idx t with
  | none => simpa [hi] using hv
  | some j =>
    simp only [hi] at hv ⊢
    obtain ⟨o, ho, _⟩ := h.idx2 _ _ hi
    rw [if_pos (hall j (Array.getElem?_eq_some_iff.1 ho).1)] at hv
    exact hv

theorem getD_set {L : Array Bool} {i j : Nat} (hi : i < L.size) : (L.setIfInBounds i true).getD j false = true ↔ j = i ∨ L.getD j false = true := by
  simp only [Array.getD_eq_getD_getElem?]
  by_cases e : i = j
  · subst e
    rw [Array.getElem?_setIfInBounds_self_of_lt hi]
    simp
  · rw [Array.getElem?_setIfInBounds_ne e]
    constructor
    · exact .inr
    · rintro (rfl | h)
      · exact absurd rfl e
      · exact h

theorem count_set : ∀ {l : List Bool} {i : Nat}, l[i]? = some false → ((l.set i true).filter (fun b => !b)).length + 1 = (l.filter (fun b => !b)).length
  | [], _, h => by simp at h
  | b :: r, 0, h => by simp at h; subst h; simp
  | b :: r, i + 1, h => by
    simp at h
    have := count_set (l := r) h
    cases b <;> simp [List.set_cons_succ] <;> omega

theorem lin_zero (t : Nat) (L : Array Bool) : Region.linearise.go .any ops 0 t L [] = [] := by simp [Region.linearise.go]

theorem lin_succ (n t : Nat) (L : Array Bool) : Region.linearise.go .any ops (n + 1) t L [] = match (Region.ready .any ops L)[t % (Region.ready .any ops L).length]? with
    | some i => i :: Region.linearise.go .any ops n (t / (Region.ready .any ops L).length) (L.setIfInBounds i true) []
    | none => [] := by
  simp only [Region.linearise.go]
  change (match (Region.ready .any ops L)[t % (Region.ready .any ops L).length]? with
      | some i => Region.linearise.go .any ops n (t / (Region.ready .any ops L).length) (L.setIfInBounds i true) [i]
      | none => [].reverse) = _
  cases (Region.ready .any ops L)[t % (Region.ready .any ops L).length]? with
  | none => rfl
  | some i => simp only []; rw [linearise_go_acc, List.reverse_singleton, List.singleton_append]

theorem Drawn.arr (h : Drawn X N ops φ S x fr free eff Cl idx φ') {SS : Goroutine → St → Prop} {b : Frame} {kk : List Item} {cs : List Frame} (hb : b.kind ≠ .early) {s0 : St}
    (hQ : ∀ s a, FrOK N (S ops.size) s φ' a → HeapOK (S ops.size) s → StepW (S 0) s0 (S ops.size) s → Arr X SS (G (b.aT a kk) cs) s) :
    ∀ (fuel : Nat) (L : Array Bool), L.size = ops.size → (L.toList.filter (fun b => !b)).length ≤ fuel →
      (∀ i o, ops[i]? = some o → L.getD i false = true → ∀ e ∈ o.after, bindsX e = true → L.getD e.on false = true) →
      ∀ (k : Nat) (s : St) (a : Act), k ≤ ops.size → (∀ f, f < ops.size → eff f = true → (L.getD f false = true ↔ f < k)) → FrV N (S k) s (viewL φ x idx L) a → HeapOK (S k) s → StepW (S 0) s0 (S k) s →
      ∀ t, Arr X SS (G (b.aT a (.inRegion ops (Region.linearise.go .any ops fuel t L []) :: kk)) cs) s := by
  have fin : ∀ (s : St) (a : Act), FrOK N (S ops.size) s φ' a → HeapOK (S ops.size) s → StepW (S 0) s0 (S ops.size) s → Arr X SS (G (b.aT a (.inRegion ops [] :: kk)) cs) s :=
    fun s a a1 a2 a3 => .ctl a2 rfl (fun _ => sg_region_end) fun s1 hr1 => hQ s1 a (a1.rely hr1 a2) (a2.rely hr1) (a3.trans hr1.stepW)
  intro fuel
  induction fuel with
  | zero =>
    intro L hs hf hcl k s a hk hkk hfr hh st
    have hall : ∀ i, i < ops.size → L.getD i false = true := by
      intro i hi
      have hm : L[i]'(by omega) ∈ L.toList := by simp
      cases hb : L[i]'(by omega) with
      | true => simp [Array.getD_eq_getD_getElem?, Array.getElem?_eq_getElem (by omega : i < L.size), hb]
      | false =>
        have : L[i]'(by omega) ∈ L.toList.filter (fun b => !b) := List.mem_filter.2 ⟨hm, by simp [hb]⟩
        have := List.length_pos_of_mem this
        omega
    intro t
    rw [lin_zero]
    obtain ⟨a1, a2, a3⟩ := h.last hall hk hkk hfr hh st
    exact fin s a a1 a2 a3
  | succ fuel ih =>
    intro L hs hf hcl k s a hk hkk hfr hh st
    intro t
    rw [lin_succ]
    cases hsel : (Region.ready .any ops L)[t % (Region.ready .any ops L).length]? with
    | none =>
      have hr : Region.ready .any ops L = [] := by
        cases hr : Region.ready .any ops L with
        | nil => rfl
        | cons y ys =>
          rw [hr] at hsel
          have hlt : t % (y :: ys).length < (y :: ys).length := Nat.mod_lt _ (by simp)
          simp at hsel
          simp at hlt
          omega
      have hall : ∀ i, i < ops.size → L.getD i false = true := by
        intro i
        induction i using Nat.strongRecOn with
        | _ i ihi =>
          intro hi
          cases hb : L.getD i false with
          | true => rfl
          | false =>
            have hm : i ∈ Region.ready .any ops L := mem_ready.2 ⟨ops[i], Array.getElem?_eq_getElem hi, by
              simpa [Array.getD_eq_getD_getElem?, Array.getElem?_eq_getElem (by omega : i < L.size)] using hb, fun e he hbe => by
              have := h.back i _ (Array.getElem?_eq_getElem hi) e he hbe
              exact ihi _ this (by omega)⟩
            rw [hr] at hm; simp at hm
      obtain ⟨a1, a2, a3⟩ := h.last hall hk hkk hfr hh st
      exact fin s a a1 a2 a3
    | some i =>
      have hi := List.mem_of_getElem? hsel
      obtain ⟨o, ho, hli, hpre⟩ := mem_ready.1 hi
      have hlt : i < ops.size := (Array.getElem?_eq_some_iff.1 ho).1
      have hliF : ¬ L.getD i false = true := by
        simp only [Array.getD_eq_getD_getElem?, Array.getElem?_eq_getElem (by omega : i < L.size), Option.getD_some] at hli ⊢
        simp [hli]
      -- what is listed is closed
      have hclo := h.cl (fun j => L.getD j false = true) hcl
      have hdown : ∀ g, Cl g i → ¬ L.getD g false = true := fun g hg hL => hliF ((hclo g i hg).1 hL)
      have hup : ∀ g, Cl i g → L.getD g false = true := fun g hg => by
        obtain ⟨_, o', ho', hq⟩ := hclo i g hg
        rw [ho] at ho'; cases ho'
        exact hq hpre
      have hsize' : (L.setIfInBounds i true).size = ops.size := by simp [hs]
      have hcount : ((L.setIfInBounds i true).toList.filter (fun b => !b)).length ≤ fuel := by
        have h1 : L.toList[i]? = some false := by
          rw [Array.getElem?_toList, Array.getElem?_eq_getElem (by omega : i < L.size)]
          simpa [Array.getD_eq_getD_getElem?, Array.getElem?_eq_getElem (by omega : i < L.size)] using hliF
        have := count_set h1
        rw [Array.toList_setIfInBounds]; omega
      have hcl' : ∀ j o', ops[j]? = some o' → (L.setIfInBounds i true).getD j false = true → ∀ e ∈ o'.after, bindsX e = true → (L.setIfInBounds i true).getD e.on false = true := by
        intro j o' ho' hj e he hb
        rw [getD_set (by omega)] at hj ⊢
        rcases hj with rfl | hj
        · rw [ho] at ho'; cases ho'
          exact .inr (hpre e he hb)
        · exact .inr (hcl j o' ho' hj e he hb)
      -- the frame of this operation
      have hfi : FrOK N (S k) s (fr i) a := hfr.toOK fun t σ s v hv => h.frl i o ho t σ s v (by
        unfold viewL at hv
        cases hix : idx t with
        | none => simpa [hix] using hv
        | some j =>
          simp only [hix] at hv ⊢
          split
          · rename_i hex
            obtain ⟨e, he, hb, rfl⟩ := hex
            rw [if_pos (hpre e he hb)] at hv
            exact hv
          · split
            · rename_i hex
              obtain ⟨oj, hoj, e, he, hb, heq⟩ := hex
              have hjn : ¬ L.getD j false = true := fun hL => hliF (by have := hcl j oj hoj hL e he hb; rwa [heq] at this)
              rw [if_neg hjn] at hv
              exact hv
            · trivial)
      -- the slots behind it
      have hnext : ∀ (σ' : List Box) (s' : St) (v : Value), StepW (S k) s σ' s' → RdD σ' s' v (x i) → FrV N σ' s' (viewL φ x idx (L.setIfInBounds i true)) (a.put o.dst v) := by
        intro σ' s' v st' hv
        cases hd : o.dst with
        | none =>
          refine ⟨hfr.size, hfr.defers.imp fun _ h1 => h1.mono st'.ext, fun t => ?_⟩
          have hs1 := (hfr.slot t).mono st'.ext hh.len
          simp only [Act.put]
          unfold viewL at hs1 ⊢
          cases hix : idx t with
          | none => simpa [hix] using hs1
          | some j =>
            simp only [hix] at hs1 ⊢
            obtain ⟨oj, hoj, hdj⟩ := h.idx2 _ _ hix
            have hne : j ≠ i := by rintro rfl; rw [ho] at hoj; cases hoj; rw [hd] at hdj; cases hdj
            have : ((L.setIfInBounds i true).getD j false = true) ↔ L.getD j false = true := by rw [getD_set (by omega)]; simp [hne]
            simp only [this]; exact hs1
        | some d =>
          obtain ⟨hid, hdN⟩ := h.idx1 i o d ho hd
          refine ⟨by simp [Act.put, hfr.size], hfr.defers.imp fun _ h1 => h1.mono st'.ext, fun t => ?_⟩
          simp only [Act.put]
          by_cases e : d = t
          · subst e
            have hs2 : d < a.tmps.size := by rw [hfr.size]; exact hdN
            simp only [Array.getD_eq_getD_getElem?, Array.getElem?_setIfInBounds_self_of_lt hs2, Option.getD_some]
            unfold viewL
            simp only [hid]
            rw [if_pos ((getD_set (by omega)).2 (.inl rfl))]
            exact hv
          · have hs1 := (hfr.slot t).mono st'.ext hh.len
            simp only [Array.getD_eq_getD_getElem?] at hs1 ⊢
            rw [Array.getElem?_setIfInBounds_ne e]
            unfold viewL at hs1 ⊢
            cases hix : idx t with
            | none => simpa [hix] using hs1
            | some j =>
              simp only [hix] at hs1 ⊢
              obtain ⟨oj, hoj, hdj⟩ := h.idx2 _ _ hix
              have hne : j ≠ i := by rintro rfl; rw [ho] at hoj; cases hoj; rw [hd] at hdj; cases hdj; exact e rfl
              have : ((L.setIfInBounds i true).getD j false = true) ↔ L.getD j false = true := by rw [getD_set (by omega)]; simp [hne]
              simp only [this]; exact hs1
      -- the operation over the boxes as they are now
      have run1 : ∀ (k' : Nat), k' ≤ ops.size → OA X N ops.toList o (fr i) (S k) (x i) (S k') → (∀ f, f < ops.size → eff f = true → ((L.setIfInBounds i true).getD f false = true ↔ f < k')) →
          Arr X SS (G (b.aT a (.inRegion ops (i :: Region.linearise.go .any ops fuel (t / (Region.ready .any ops L).length) (L.setIfInBounds i true) []) :: kk)) cs) s := by
        intro k' hk' hoa hkk'
        have := hoa s a hfi hh b kk cs SS i (Region.linearise.go .any ops fuel (t / (Region.ready .any ops L).length) (L.setIfInBounds i true) []) hb (by simpa using ho)
        simp only [Array.toArray_toList] at this
        exact this fun v s' hv hh' st' => ih _ hsize' hcount hcl' k' s' _ hk' hkk' (hnext _ _ _ st' hv) hh' (st.trans st') _
      have same : eff i = false → ∀ f, f < ops.size → eff f = true → ((L.setIfInBounds i true).getD f false = true ↔ f < k) := by
        intro hq f hf1 hf2
        rw [getD_set (by omega), ← hkk f hf1 hf2]
        constructor
        · rintro (rfl | h1)
          · rw [hq] at hf2; cases hf2
          · exact h1
        · exact .inr
      cases hfree : free i with
      | true =>
        obtain ⟨hq, hany⟩ := h.all i o ho hfree
        exact run1 k hk (hany k) (same hq)
      | false =>
        have hone := h.one i o ho hfree
        -- the boxes are as in the text's order
        have hSik : S i = S k := by
          rcases Nat.le_total k i with hle | hle
          · refine h.chain hle fun g h1 h2 => ?_
            cases he : eff g with
            | false => rfl
            | true =>
              exfalso
              rcases h.comp i g hlt (by omega) he (by omega) hfree with ⟨_, hc⟩ | ⟨hc, _⟩
              · have := (hkk g (by omega) he).1 (hup g hc); omega
              · omega
          · refine (h.chain hle fun g h1 h2 => ?_).symm
            cases he : eff g with
            | false => rfl
            | true =>
              exfalso
              have hLg := (hkk g (by omega) he).2 h2
              by_cases hgi : g = i
              · subst hgi; exact hliF hLg
              · rcases h.comp i g hlt (by omega) he (fun e => hgi e.symm) hfree with ⟨hc, _⟩ | ⟨_, hc⟩
                · omega
                · exact hdown g hc hLg
        rw [hSik] at hone
        cases heff : eff i with
        | false =>
          rw [h.quiet i heff, hSik] at hone
          exact run1 k hk hone (same heff)
        | true =>
          refine run1 (i + 1) (by omega) hone fun f hf1 hf2 => ?_
          rw [getD_set (by omega)]
          by_cases hfi' : f = i
          · subst hfi'; simp
          · simp only [hfi', false_or]
            rcases h.comp i f hlt hf1 hf2 (fun e => hfi' e.symm) hfree with ⟨h1, hc⟩ | ⟨h1, hc⟩
            · exact ⟨fun _ => by omega, fun _ => hup f hc⟩
            · exact ⟨fun hL => absurd hL (hdown f hc), fun h2 => by omega⟩

end
end Go.AM

/- More operations: equality of structs and of truth values; bits; bytes to a string. -/
namespace Go.AM

/-- Fields that are one cell each, in order. -/
def FlatF (P : Program) : List TypeDesc → List Field → Nat → Prop
  | [], [], _ => True
  | d :: ds, f :: fs, i => f.name ≠ "_" ∧ f.offset = i ∧ P.underlying f.type = some d ∧ (match d with | .int _ | .string | .bool => True | _ => False) ∧ FlatF P ds fs (i + 1)
  | _, _, _ => False

def eqF (d : Nat) (xs ys : Array Value) (f : Field) (_ : Option Bool × Unit) : Sem (ForInStep (Option Bool × Unit)) :=
  if f.name = "_" then pure (ForInStep.yield (none, ()))
  else do
    let a ← part f.type xs f.offset
    let b ← part f.type ys f.offset
    let r ← Op.equalIn d f.type a b
    if r = false then pure (ForInStep.done (some false, ())) else pure (ForInStep.yield (none, ()))

theorem run_eqFields {P : Program} (w : World) (d : Nat) (xs ys : Array Value) : ∀ {ds : List TypeDesc} {fs : List Field} {i : Nat} {vs ws : List Value} {b : Bool}, FlatF P ds fs i → eqCells ds vs ws = some b → (∀ j v, vs[j]? = some v → xs[i + j]? = some v) → (∀ j v, ws[j]? = some v → ys[i + j]? = some v) →
    (Op.eqFields (d + 1) xs ys fs).run P w = .ok b w ∧ ∀ es, (forIn fs (none, ()) (eqF (d + 1) xs ys)).events P w es = es
  | [], [], i, [], [], b, _, h, _, _ => by cases h; simp [Op.eqFields]
  | [], [], i, _ :: _, _, b, _, h, _, _ => by cases h
  | [], [], i, [], _ :: _, b, _, h, _, _ => by cases h
  | [], _ :: _, i, _, _, b, hf, _, _, _ => hf.elim
  | _ :: _, [], i, _, _, b, hf, _, _, _ => hf.elim
  | t :: ds, f :: fs, i, [], _, b, _, h, _, _ => by cases h
  | t :: ds, f :: fs, i, _ :: _, [], b, _, h, _, _ => by cases h
  | t :: ds, f :: fs, i, v :: vs, u :: us, b, ⟨h1, h2, h3, h4, h5⟩, h, hx, hy => by
    simp only [eqCells] at h
    cases ha : eqCell t v u with
    | none => simp [ha] at h
    | some a =>
      cases hb : eqCells ds vs us with
      | none => simp [ha, hb] at h
      | some b' =>
        simp [ha, hb] at h
        subst h
        obtain ⟨ih, ihe⟩ := run_eqFields w d xs ys h5 hb (fun j v hj => by have := hx (j + 1) v (by simpa using hj); rwa [show i + 1 + j = i + (j + 1) by omega]) (fun j v hj => by have := hy (j + 1) v (by simpa using hj); rwa [show i + 1 + j = i + (j + 1) by omega])
        have hxi : xs[i]? = some v := by simpa using hx 0 v rfl
        have hyi : ys[i]? = some u := by simpa using hy 0 u rfl
        have hag : (isAgg f.type).run P w = .ok false w := by
          unfold isAgg underlying
          cases t <;> simp at h4 <;> simp [h3]
        have hp : ∀ (zs : Array Value) (z : Value), zs[i]? = some z → (part f.type zs f.offset).run P w = .ok z w := by
          intro zs z hz
          unfold part
          simp [hag, h2, hz]
        have hpe : ∀ (zs : Array Value) (z : Value), zs[i]? = some z → ∀ es, (part f.type zs f.offset).events P w es = es := by
          intro zs z hz es
          unfold part
          simp [hag, h2, hz]
        have hee : ∀ es, (Op.equalIn (d + 1) f.type v u).events P w es = es := by
          intro es
          unfold eqCell at ha
          split at ha <;> first
            | (cases ha; done)
            | (unfold Op.equalIn; simp [underlying, h3]; done)
            | (unfold Op.equalIn; simp [underlying, h3]; split <;> rfl)
        have he : (Op.equalIn (d + 1) f.type v u).run P w = .ok a w := by
          unfold eqCell at ha
          split at ha
          · rename_i k k1 x k2 y
            split at ha
            · rename_i hk; subst hk; cases ha; exact run_equalIn_int w d f.type k1 k x y h3
            · cases ha
          · cases ha; exact run_equalIn_string w d f.type _ _ h3
          · cases ha; exact run_equalIn_bool w d f.type _ _ h3
          · cases ha
        refine ⟨?_, fun es => ?_⟩
        · rw [Op.eqFields.eq_2, if_pos h1]
          simp only [Sem.run_bind, hp xs v hxi, hp ys u hyi, he, Result.andThen_ok]
          cases a
          · simp
          · simp [ih]
        · rw [List.forIn_cons]
          simp only [eqF, h1, if_false, Sem.events_bind, Sem.run_bind, hp xs v hxi, hp ys u hyi, he, Result.andThen_ok, Result.evThen_ok, hpe xs v hxi, hpe ys u hyi, hee]
          cases a
          · simp
          · simpa using ihe es

theorem flat_eqs {P : Program} {t : TypeId} {fs : List Field} {ds : List TypeDesc} (hu : P.underlying t = some (.struct fs.toArray)) (hst : P.stoodInHeld t = false) (hg : P.eqGuardType P.depth t = false) (hf : FlatF P ds fs 0) :
    P.eqGuardType P.depth t = false ∧ ∀ (w : World) (vs ws : List Value) (b : Bool), eqCells ds vs ws = some b → (Op.equal t (.agg vs.toArray) (.agg ws.toArray)).run P w = .ok b w ∧ ∀ es, (Op.equal t (.agg vs.toArray) (.agg ws.toArray)).events P w es = es := by
  refine ⟨hg, fun w vs ws b h => ?_⟩
  have hfo : P.fieldsOf t = fs.toArray := by unfold Program.fieldsOf; rw [hu]
  have key := run_eqFields w 9998 vs.toArray ws.toArray hf h (fun j v hj => by simpa using hj) (fun j v hj => by simpa using hj)
  refine ⟨?_, fun es => ?_⟩
  rotate_left
  · show (Op.equalIn (9999 + 1) t _ _).events P w es = es
    have h2 := key.2 es
    unfold Op.equalIn
    simp [underlying, hu, hst]
    show Result.evThen ((forIn fs (none, ()) (eqF 9999 vs.toArray ws.toArray)).run P w) ((forIn fs (none, ()) (eqF (9998 + 1) vs.toArray ws.toArray)).events P w es) _ = es
    rw [h2]
    cases (forIn fs (none, ()) (eqF 9999 vs.toArray ws.toArray)).run P w with
    | ok a w' => obtain ⟨o, _⟩ := a; cases o <;> rfl
    | halt x w' => rfl
  show (Op.equalIn (9999 + 1) t _ _).run P w = _
  rw [run_equalIn_agg w 9999 t _ _ (by rw [hfo]; exact hu) hst, hfo]
  exact key.1
  all_goals exact run_eqFields w 9998 _ _ hf h (fun j v hj => by simpa using hj) (fun j v hj => by simpa using hj)

def eqE : List TypeDesc → List A → List A → Option Bool
  | [], [], [] => some true
  | .int _ :: ds, .c (.int k a) :: cs, .c (.int k' b) :: es => match ikEq k k' with
    | true => match eqE ds cs es with
      | some r => some ((a == b) && r)
      | none => none
    | false => none
  | .string :: ds, .c (.str a) :: cs, .c (.str b) :: es => match eqE ds cs es with
    | some r => some ((a == b) && r)
    | none => none
  | .bool :: ds, .c (.bool a) :: cs, .c (.bool b) :: es => match eqE ds cs es with
    | some r => some ((a == b) && r)
    | none => none
  | _, _, _ => none

theorem eqE_ok {σ : List Box} {s : St} : ∀ {ds : List TypeDesc} {cs es : List A} {b : Bool} {vs ws : List Value}, eqE ds cs es = some b → RdL σ s vs cs → RdL σ s ws es → eqCells ds vs ws = some b := by
  intro ds
  induction ds with
  | nil =>
    intro cs es b vs ws h hv hw
    cases cs <;> cases es <;> simp only [eqE, reduceCtorEq] at h
    cases vs <;> cases ws <;> first | exact hv.elim | exact hw.elim | (simpa [eqCells] using h)
  | cons d ds ih =>
    intro cs es b vs ws h hv hw
    unfold eqE at h
    split at h
    · exact absurd (by assumption : d :: ds = []) (by simp)
    · rename_i ik ds' k a cs' k' b' es' heq
      cases heq
      split at h
      · rename_i hk
        cases ikEq_eq hk
        split at h
        · rename_i r hr
          cases h
          cases vs with
          | nil => exact hv.elim
          | cons v vs => cases ws with
            | nil => exact hw.elim
            | cons w ws =>
              obtain ⟨v1, v2⟩ := hv
              obtain ⟨w1, w2⟩ := hw
              cases (show Rd s.M v (.int k a) from v1)
              cases (show Rd s.M w (.int k b') from w1)
              simp [eqCells, eqCell, ih hr v2 w2]
        · cases h
      · cases h
    · rename_i ds' a cs' b' es' heq
      cases heq
      split at h
      · rename_i r hr
        cases h
        cases vs with
        | nil => exact hv.elim
        | cons v vs => cases ws with
          | nil => exact hw.elim
          | cons w ws =>
            obtain ⟨v1, v2⟩ := hv
            obtain ⟨w1, w2⟩ := hw
            cases (show Rd s.M v (.str a) from v1) with
            | str hx _ =>
            cases (show Rd s.M w (.str b') from w1) with
            | str hy _ =>
            simp only [eqCells, eqCell, ih hr v2 w2]
            subst hx hy
            simp [ByteArray.toList_eq]
      · cases h
    · rename_i ds' a cs' b' es' heq
      cases heq
      split at h
      · rename_i r hr
        cases h
        cases vs with
        | nil => exact hv.elim
        | cons v vs => cases ws with
          | nil => exact hw.elim
          | cons w ws =>
            obtain ⟨v1, v2⟩ := hv
            obtain ⟨w1, w2⟩ := hw
            cases (show Rd s.M v (.bool a) from v1)
            cases (show Rd s.M w (.bool b') from w1)
            simp [eqCells, eqCell, ih hr v2 w2]
      · cases h
    · cases h

section
variable {P : Program} {T : List (Nat × TI)} {o : Oper} {η : Operand → D} {σ : List Box}

def negIf : BinOp → Bool → Option Bool
  | .eql, b => some b
  | .neq, b => some (!b)
  | _, _ => none

theorem binOp_equal {op : BinOp} {t : TypeId} {x y : Value} {w : World} {b c : Bool} (hx : match x, y with | .agg _, .agg _ => True | .bool _, .bool _ => True | _, _ => False) (he : (Op.equal t x y).run P w = .ok b w) (h : negIf op b = some c) :
    (binOp op t x y).run P w = .ok (.bool c) w := by
  cases op <;> simp only [negIf, reduceCtorEq, Option.some.injEq] at h
  · subst h
    cases x <;> cases y <;> simp only at hx <;> simp [binOp, he]
  · subst h
    cases x <;> cases y <;> simp only at hx <;> simp [binOp, he]

theorem ev_binOp_equal {op : BinOp} {t : TypeId} {x y : Value} {w : World} {b c : Bool} (hx : match x, y with | .agg _, .agg _ => True | .bool _, .bool _ => True | _, _ => False) (he : (Op.equal t x y).run P w = .ok b w) (hee : ∀ es, (Op.equal t x y).events P w es = es) (h : negIf op b = some c) (es : Array Event) :
    (binOp op t x y).events P w es = es := by
  cases op <;> simp only [negIf, reduceCtorEq, Option.some.injEq] at h <;> (cases x <;> cases y <;> simp only at hx <;> simp [binOp, hee])

theorem ev_eqGuard_agg (op : BinOp) (t : TypeId) (x y : Operand) (xs ys : Array Value) (w : World) (hm : P.eqGuardType P.depth t = false) (es : Array Event) : (eqGuard op t x y (.agg xs) (.agg ys)).events P w es = es := by
  cases op <;> simp [eqGuard, hm]

theorem ev_eqGuard_bool (op : BinOp) (t : TypeId) (x y : Operand) (a b : Bool) (w : World) (es : Array Event) : (eqGuard op t x y (.bool a) (.bool b)).events P w es = es := by
  cases op <;> rfl

theorem OpJ.structEq (hT : TOK P T) {op : BinOp} {t ty : TypeId} {x y : Operand} (h : o.op = .binOp op t x y ty) {i : TI} (hi : lookT T t = some i) (hne : i.eq ≠ []) {cs es : List A} {b c : Bool} (hx : η x = .e (.agg cs)) (hy : η y = .e (.agg es))
    (he : eqE i.eq cs es = some b) (hc : negIf op b = some c) : OpJ P o η σ (.e (.one (.c (.bool c)))) σ := by
  refine .quiet fun s ρ hh hr => ?_
  have h1 := hr x
  have h2 := hr y
  rw [hx] at h1
  rw [hy] at h2
  obtain ⟨vs, hv, hvl⟩ := h1
  obtain ⟨ws, hw, hwl⟩ := h2
  obtain ⟨hg, heq⟩ := (hT t i hi).eqs hne
  have hrun := binOp_equal (x := .agg vs.toArray) (y := .agg ws.toArray) trivial (heq s.w vs ws b (eqE_ok he hvl hwl)).1 hc
  have hrunE := ev_binOp_equal (x := .agg vs.toArray) (y := .agg ws.toArray) trivial (heq s.w vs ws b (eqE_ok he hvl hwl)).1 (heq s.w vs ws b (eqE_ok he hvl hwl)).2 hc
  refine ⟨.bool c, ?_, Rd.bool, by simp only [execOp, h, hv, hw, Sem.events_bind, run_eqGuard_agg s.w op t x y _ _ hg, ev_eqGuard_agg op t x y _ _ s.w hg, Result.evThen_ok, Sem.run_bind, Result.andThen_ok, hrun, hrunE, Sem.events_pure]⟩
  simp only [execOp, h, hv, hw, Sem.run_bind, run_eqGuard_agg s.w op t x y _ _ hg, Result.andThen_ok, hrun, Sem.run_pure]

theorem OpJ.boolEq (hT : TOK P T) {op : BinOp} {t ty : TypeId} {x y : Operand} (h : o.op = .binOp op t x y ty) {i : TI} (hi : lookT T t = some i) (hd : i.desc = .bool) {a b c : Bool} (hx : η x = .e (.one (.c (.bool a)))) (hy : η y = .e (.one (.c (.bool b))))
    (hc : negIf op (a == b) = some c) : OpJ P o η σ (.e (.one (.c (.bool c)))) σ := by
  refine .quiet fun s ρ hh hr => ?_
  have h1 := hr x
  have h2 := hr y
  rw [hx] at h1
  rw [hy] at h2
  replace h1 := rdC h1
  replace h2 := rdC h2
  generalize hvx : ρ x = vx at h1
  generalize hvy : ρ y = vy at h2
  cases h1
  cases h2
  have hu : P.underlying t = some .bool := by rw [(hT t i hi).und, hd]
  have hrun := binOp_equal (P := P) (w := s.w) (x := .bool a) (y := .bool b) trivial (run_equal_bool s.w t a b hu) hc
  have hee : ∀ es, (Op.equal t (.bool a) (.bool b)).events P s.w es = es := fun es => by
    show (Op.equalIn (9999 + 1) t _ _).events P s.w es = es
    unfold Op.equalIn; simp [underlying, hu]
  have hrunE := ev_binOp_equal (P := P) (w := s.w) (x := .bool a) (y := .bool b) trivial (run_equal_bool s.w t a b hu) hee hc
  refine ⟨.bool c, ?_, Rd.bool, by simp only [execOp, h, hvx, hvy, Sem.events_bind, eqGuard_at_bool, Sem.events_pure, Sem.run_pure, Result.evThen_ok, Sem.run_bind, Result.andThen_ok, hrun, hrunE]⟩
  simp only [execOp, h, hvx, hvy, Sem.run_bind, eqGuard_at_bool, Sem.run_pure, Result.andThen_ok, hrun]

theorem OpJ.xor64 {t ty : TypeId} {x y : Operand} (h : o.op = .binOp .xor t x y ty) {a b : Int} (hx : η x = .e (.one (.c (.int .i64 a)))) (hy : η y = .e (.one (.c (.int .i64 b)))) (h0 : 0 ≤ a) (h1 : 0 ≤ b) :
    OpJ P o η σ (.e (.one (.c (.int .i64 ((a.toNat ^^^ b.toNat : Nat) : Int))))) σ := by
  refine .quiet fun s ρ hh hr => ?_
  have e1 := hr x
  have e2 := hr y
  rw [hx] at e1
  rw [hy] at e2
  replace e1 := rdC e1
  replace e2 := rdC e2
  generalize hvx : ρ x = vx at e1
  generalize hvy : ρ y = vy at e2
  cases e1 with | int ha =>
  cases e2 with | int hb =>
  have hlt : a.toNat ^^^ b.toNat < 2 ^ 63 := by
    apply Nat.xor_lt_two_pow <;> simp only [inR] at ha hb <;> omega
  have hin : inR .i64 ((a.toNat ^^^ b.toNat : Nat) : Int) := by simp only [inR]; omega
  refine ⟨.int .i64 ((a.toNat ^^^ b.toNat : Nat) : Int), ?_, .int hin, ?_⟩
  rotate_left
  · simp only [execOp, h, hvx, hvy, Sem.events_bind, eqGuard_int, ev_eqGuard_int, Result.evThen_ok, Go.binOp, ne_eq, not_true_eq_false, if_false, Op.intBits, Sem.run_bind, Result.andThen_ok, Sem.run_pure, Sem.events_pure]
  have hbits : ((BitVec.ofInt 64 a) ^^^ (BitVec.ofInt 64 b)).toNat = a.toNat ^^^ b.toNat := by
    rw [BitVec.toNat_xor, BitVec.toNat_ofInt, BitVec.toNat_ofInt]
    simp only [inR] at ha hb
    congr 1 <;> omega
  have hbits2 : (BitVec.ofInt IntKind.i64.bits a ^^^ BitVec.ofInt IntKind.i64.bits b).toNat = a.toNat ^^^ b.toNat := hbits
  have hb2 : (Go.binOp .xor t (.int .i64 a) (.int .i64 b)).run P s.w = .ok (.int .i64 ((a.toNat ^^^ b.toNat : Nat) : Int)) s.w := by
    simp only [Go.binOp, ne_eq, not_true_eq_false, if_false, Op.intBits, Sem.run_pure]
    rw [hbits2, wrap_in hin]
  simp only [execOp, h, hvx, hvy, Sem.run_bind, eqGuard_int, Result.andThen_ok, hb2, Sem.run_pure]

/-- Bytes to a string. -/
theorem OpJ.convBytes (hT : TOK P T) {src dst : TypeId} {x : Operand} (h : o.op = .convert src dst x) {i i2 ie : TI} {E : TypeId} (hi : lookT T src = some i) (hi2 : lookT T dst = some i2) (hd : i.desc = .slice E) (hd2 : i2.desc = .string) (hE : lookT T E = some ie) (hde : ie.desc = .int .u8)
    {tt : Bool} {n : Nat} {es : Nat → List C} {r : List UInt8} (hx : ∀ s v, RdD σ s v (η x) → Rd s.M v (.sl tt 1 n es)) (hb : bytesE es 0 n = some r) : OpJ P o η σ (.e (.one (.c (.str r)))) σ := by
  refine .quietE fun s ρ hh hr => ?_
  have h1 := hx s _ (hr x)
  obtain ⟨vs, hF, hrun⟩ := run_firstCells (P := P) hh h1
  obtain ⟨a, cap, vs', hv, hcap, hcb, _⟩ := h1.flat
  have hlen : n ≤ 9223372036854775807 := by omega
  have hvl : vs.length = n := by rw [hF.len]; omega
  obtain ⟨xs, e1, e2⟩ := bytesE_ok (M := s.M) (vs := vs) hb hvl (fun j hj c hc => by
    obtain ⟨v, p1, p2⟩ := hF.rd j hj 0 c (by simpa using hc)
    exact ⟨v, by simpa using p1, p2⟩)
  have hu := (hT src i hi).run_underlying (w := s.w)
  have hu2 := (hT dst i2 hi2).run_underlying (w := s.w)
  have hue := (hT E ie hE).run_underlying (w := s.w)
  rw [hd] at hu
  rw [hd2] at hu2
  rw [hde] at hue
  have hsz : r.length ≤ 9223372036854775807 := by
    rw [e2, List.length_map]
    have : xs.length = n := by rw [← hvl, e1, List.length_map]
    omega
  have hconv : ∃ sb : ByteArray, (Conv.bytesToString (.slice a n cap)).run P s.w = .ok (.string sb) s.w ∧ sb.data.toList = r := by
    cases a with
    | none =>
      have hnil : r = [] := by
        have : vs = [] := by
          rw [hv] at hrun
          have h2 := hrun.1
          simp [Builtin.firstCells] at h2
          simpa using h2
        rw [this] at e1
        have : xs = [] := by simpa using e1.symm
        rw [e2, this]; rfl
      exact ⟨ByteArray.empty, by simp [Conv.bytesToString], by rw [hnil]; rfl⟩
    | some ad =>
      rw [hv] at hrun
      have h2 := hrun.1
      simp only [Builtin.firstCells, Nat.mul_one] at h2
      refine ⟨⟨#[] ++ (xs.map fun x => UInt8.ofNat x.toNat).toArray⟩, ?_, by rw [e2]; simp⟩
      simp only [Conv.bytesToString, Sem.run_bind, h2, Result.andThen_ok, e1]
      rw [List.forIn_toArray, run_forIn_bytes (P := P) s.w (fun _ _ => rfl) xs ByteArray.empty]
      rfl
  obtain ⟨sb, hc1, hc2⟩ := hconv
  refine ⟨.string sb, ?_, Rd.str hc2 hsz, ?_⟩
  rotate_left
  · intro e hee
    simp only [execOp, h, hv, Sem.events_bind, convert, hu, hu2, Result.evThen_ok, Result.andThen_ok, hue, hc1, Sem.run_bind, events_underlying, Sem.events_pure] at hee
    cases a with
    | none => simp [Conv.bytesToString] at hee
    | some ad =>
      have hfe := ev_firstCells (P := P) hh (h1.reF (fun _ _ => rfl)) (w := s.w) rfl
      rw [hv] at hrun hfe
      have h2 := hrun.1
      simp only [Builtin.firstCells, Nat.mul_one] at h2 hfe
      unfold Conv.bytesToString at hee
      simp only at hee
      rw [Sem.events_bind, h2, Result.evThen_ok, Still.bind (P := P) ?_ fun _ => .pure] at hee
      · exact rdM_ok (hfe e hee)
      · rw [List.forIn_toArray]
        refine Still.forInL (fun x s => ?_) _ _
        split
        · exact .pure
        · exact .bind .stuck fun _ => .pure
  simp only [execOp, h, hv, Sem.run_bind, convert, hu, hu2, Result.andThen_ok, hue, hc1, Sem.run_pure]

end
end Go.AM

/- Function values, interface values. -/
namespace Go.AM

/-- Closed operands. -/
def closO (η : Operand → D) : List Operand → Option (List C)
  | [] => some []
  | x :: r => match η x with
    | .e (.one (.c c)) => match closO η r with
      | some q => some (c :: q)
      | none => none
    | _ => none

theorem closO_ok {σ : List Box} {s : St} {ρ : Operand → Value} {η : Operand → D} (hr : ∀ y, RdD σ s (ρ y) (η y)) : ∀ {xs : List Operand} {cs : List C}, closO η xs = some cs → xs.length = cs.length ∧ ∀ (j : Nat) (c : C), cs[j]? = some c → ∃ v, (xs.map ρ)[j]? = some v ∧ Rd s.M v c
  | [], cs, h => by cases h; exact ⟨rfl, by simp⟩
  | x :: r, cs, h => by
    simp only [closO] at h
    split at h
    · rename_i c hx
      split at h
      · rename_i q hq
        cases h
        obtain ⟨h1, h2⟩ := closO_ok hr hq
        refine ⟨by simp [h1], fun j c' hj => ?_⟩
        cases j with
        | zero =>
          simp at hj; subst hj
          have := hr x
          rw [hx] at this
          exact ⟨ρ x, by simp, rdC this⟩
        | succ j => exact (by simpa using h2 j c' (by simpa using hj))
      · cases h
    · cases h

section
variable {P : Program} {T : List (Nat × TI)} {o : Oper} {η : Operand → D} {σ : List Box}

theorem OpJ.makeFunc {fn : Fn} {a b : Array Operand} (h : o.op = .makeFunc fn a b) {ca cb : List C} (ha : closO η a.toList = some ca) (hb : closO η b.toList = some cb) : OpJ P o η σ (.e (.one (.c (.fn fn ca cb)))) σ := by
  refine .quiet fun s ρ hh hr => ?_
  obtain ⟨a1, a2⟩ := closO_ok hr ha
  obtain ⟨b1, b2⟩ := closO_ok hr hb
  have ea : a.map ρ = (a.toList.map ρ).toArray := by apply Array.ext'; simp
  have eb : b.map ρ = (b.toList.map ρ).toArray := by apply Array.ext'; simp
  refine ⟨.func fn (a.toList.map ρ).toArray (b.toList.map ρ).toArray, ?_, ?_, by simp only [execOp, h, Instr.makeFunc]; rfl⟩
  · simp only [execOp, h, Instr.makeFunc, ea, eb]; rfl
  · refine Rd.fn _ _ (by simpa using a1) (by simpa using b1) (fun j => ((a.toList.map ρ)[j]?).getD undef) (fun j => ((b.toList.map ρ)[j]?).getD undef) ?_ ?_ ?_ ?_
    · intro j hj; rw [List.getElem?_eq_getElem hj]; rfl
    · intro j hj; rw [List.getElem?_eq_getElem hj]; rfl
    · intro j c hj; obtain ⟨v, h1, h2⟩ := a2 j c hj; rw [h1]; exact h2
    · intro j c hj; obtain ⟨v, h1, h2⟩ := b2 j c hj; rw [h1]; exact h2

def isIfaceD : TypeDesc → Bool
  | .interface _ => true
  | _ => false

def mkIface (t : TypeId) : D → Option C
  | .e (.one (.c c)) => some (.ifs t c)
  | .e (.agg cs) => match closeX cs with
    | some q => some (.ifa t q)
    | none => none
  | _ => none

theorem mkIface_ok {s : St} {v : Value} {t : TypeId} {d : D} {c : C} (h : mkIface t d = some c) (r : RdD σ s v d) : Rd s.M (.iface t v) c := by
  unfold mkIface at h
  split at h
  · cases h; exact Rd.ifs (rdC r) (rdC r).cell
  · split at h
    · rename_i q hq
      cases h
      obtain ⟨vs, rfl, hl⟩ := r
      have hl2 := closeX_ok hq hl
      refine Rd.ifa (by have := hl2.length; simpa using this) (fun j => (vs[j]?).getD undef) (fun j hj => by rw [List.getElem?_eq_getElem hj]; rfl) fun j c hj => ?_
      obtain ⟨v, h1, h2⟩ := hl2.get (j := j) (a := .c c) (by simp [hj])
      rw [h1]; exact h2
    · cases h
  · cases h

theorem OpJ.makeInterface (hT : TOK P T) {t : TypeId} {x : Operand} (h : o.op = .makeInterface t x) {i : TI} (hi : lookT T t = some i) (hd : isIfaceD i.desc = false) {c : C} (hc : mkIface t (η x) = some c) : OpJ P o η σ (.e (.one (.c c))) σ := by
  refine .quiet fun s ρ hh hr => ?_
  have hu := (hT t i hi).run_underlying (w := s.w)
  refine ⟨.iface t (ρ x), ?_, mkIface_ok hc (hr x), ?_⟩
  rotate_left
  · simp only [execOp, h, Instr.makeInterface, Sem.events_bind, Sem.run_bind, hu, Result.evThen_ok, Result.andThen_ok, events_underlying]
    cases hdd : i.desc <;> rw [hdd] at hd <;> first | (cases hd; done) | simp
  simp only [execOp, h, Instr.makeInterface, Sem.run_bind, hu, Result.andThen_ok]
  cases hdd : i.desc <;> rw [hdd] at hd <;> first | (cases hd; done) | simp

/-- The zero value of a struct's type. -/
def zeroE (i : TI) : Option E1 := match i.agg with
  | true => some (.agg (i.zero.map A.c))
  | false => none

theorem zeroE_ok {i : TI} {t : TypeId} (hg : TGood P t i) {s : St} {e : E1} (he : zeroE i = some e) : ∃ z, (zeroValue t).run P s.w = .ok z s.w ∧ RdE σ s z e := by
  obtain ⟨z, hz, hrl⟩ := hg.run_zero σ s
  refine ⟨z, hz, ?_⟩
  obtain ⟨inf, z', h1, h2, h3, h4, h5, ⟨cs, h6⟩, h7⟩ := hg.info
  have hzz : z' = z := by
    have : (zeroValue t).run P s.w = .ok z' s.w := by simp [zeroValue, typeInfo, h1, h4]
    rw [this] at hz; cases hz; rfl
  subst hzz
  unfold zeroE at he
  cases ha : i.agg with
  | true =>
    rw [ha] at he h6
    simp only [if_true] at h6
    cases he
    rw [h6] at hrl ⊢
    exact ⟨cs.toList, by simp, by simpa [Value.cells] using hrl⟩
  | false => rw [ha] at he; cases he

/-- What a type assertion finds. -/
def assertE (t : TypeId) (i : TI) : C → Option (E1 × Bool)
  | .ifs t' c => match Nat.beq t' t with
    | true => some (.one (.c c), true)
    | false => match zeroE i with
      | some e => some (e, false)
      | none => none
  | .ifa t' cs => match Nat.beq t' t with
    | true => some (.agg (cs.map A.c), true)
    | false => match zeroE i with
      | some e => some (e, false)
      | none => none
  | .nili => match zeroE i with
    | some e => some (e, false)
    | none => none
  | _ => none

theorem OpJ.typeAssert (hT : TOK P T) {x : Operand} {xt t : TypeId} (h : o.op = .typeAssert x xt t true) {i : TI} (hi : lookT T t = some i) (hd : isIfaceD i.desc = false) {c : C} (hx : η x = .e (.one (.c c))) {e : E1} {b : Bool} (he : assertE t i c = some (e, b)) :
    OpJ P o η σ (.tup [e, .one (.c (.bool b))]) σ := by
  refine .quiet fun s ρ hh hr => ?_
  have h1 := hr x
  rw [hx] at h1
  replace h1 := rdC h1
  generalize hvx : ρ x = vx at h1
  have hu := (hT t i hi).run_underlying (w := s.w)
  have key : ∀ (v : Value) (b : Bool), (Instr.typeAssert vx xt t true).run P s.w = .ok (.tuple #[v, .bool b]) s.w → RdE σ s v e → (Instr.typeAssert vx xt t true).events P s.w #[] = #[] → ∃ v, (execOp ρ o).run P s.w = .ok (.value v) s.w ∧ RdD σ s v (.tup [e, .one (.c (.bool b))]) ∧ (execOp ρ o).events P s.w #[] = #[] := by
    intro v b h1 h2 h3
    refine ⟨.tuple #[v, .bool b], ?_, ⟨[v, .bool b], rfl, h2, Rd.bool, trivial⟩, by simp only [execOp, h, hvx, Sem.events_bind, h1, h3, Result.evThen_ok, Sem.events_pure]⟩
    simp only [execOp, h, hvx, Sem.run_bind, h1, Result.andThen_ok, Sem.run_pure]
  have fail : ∀ e', zeroE i = some e' → (∀ z, (zeroValue t).run P s.w = .ok z s.w → (Instr.typeAssert vx xt t true).run P s.w = .ok (.tuple #[z, .bool false]) s.w ∧ (Instr.typeAssert vx xt t true).events P s.w #[] = #[]) → e = e' → b = false → ∃ v, (execOp ρ o).run P s.w = .ok (.value v) s.w ∧ RdD σ s v (.tup [e, .one (.c (.bool b))]) ∧ (execOp ρ o).events P s.w #[] = #[] := by
    intro e' hz hrun he' hb
    subst he' hb
    obtain ⟨z, h3, h4⟩ := zeroE_ok (σ := σ) (hT t i hi) (s := s) hz
    exact key z false (hrun z h3).1 h4 (hrun z h3).2
  have notI : ∀ m, i.desc ≠ .interface m := by intro m e; rw [e] at hd; cases hd
  cases h1 with
  | @ifs t' v c h2 hc =>
    simp only [assertE] at he
    cases hb : Nat.beq t' t with
    | true =>
      rw [hb] at he
      cases he
      have et := Nat.eq_of_beq_eq_true hb
      subst et
      refine key v true ?_ h2 ?_ <;>
      · unfold Instr.typeAssert
        simp only [Sem.run_bind, hu, Result.andThen_ok, Sem.events_bind, Result.evThen_ok, events_underlying]
        cases hdd : i.desc <;> first | (exact absurd hdd (notI _)) | simp
    | false =>
      rw [hb] at he
      have hne : t' ≠ t := fun e => by subst e; rw [Nat.beq_refl] at hb; cases hb
      simp only at he
      split at he
      · rename_i e' hz
        cases he
        refine fail _ hz (fun z h3 => ⟨?_, ?_⟩) rfl rfl <;>
        · unfold Instr.typeAssert
          simp only [Sem.run_bind, hu, Result.andThen_ok, Sem.events_bind, Result.evThen_ok, events_underlying]
          cases hdd : i.desc <;> first | (exact absurd hdd (notI _)) | simp [hne, h3]
      · cases he
  | @ifa t' vs cs hl f hf hr2 =>
    simp only [assertE] at he
    cases hb : Nat.beq t' t with
    | true =>
      rw [hb] at he
      cases he
      have et := Nat.eq_of_beq_eq_true hb
      subst et
      refine key (.agg vs.toArray) true ?_ ⟨vs, rfl, ?_⟩ ?_
      rotate_left 2
      · unfold Instr.typeAssert
        simp only [hu, Sem.events_bind, Result.evThen_ok, events_underlying]
        cases hdd : i.desc <;> first | (exact absurd hdd (notI _)) | simp
      · unfold Instr.typeAssert
        simp only [Sem.run_bind, hu, Result.andThen_ok]
        cases hdd : i.desc <;> first | (exact absurd hdd (notI _)) | simp
      · have go : ∀ (vs : List Value) (cs : List C), vs.length = cs.length → (∀ (j : Nat) (c : C), cs[j]? = some c → ∃ v, vs[j]? = some v ∧ Rd s.M v c) → RdL σ s vs (cs.map A.c) := by
          intro vs
          induction vs with
          | nil => intro cs hl _; cases cs with | nil => trivial | cons _ _ => simp at hl
          | cons v vs ih =>
            intro cs hl hg
            cases cs with
            | nil => simp at hl
            | cons c cs =>
              obtain ⟨u, p1, p2⟩ := hg 0 c rfl
              simp at p1; subst p1
              exact ⟨p2, ih cs (by simpa using hl) (fun j c hj => by simpa using hg (j + 1) c (by simpa using hj))⟩
        refine go vs cs hl fun j c hj => ⟨f j, hf j ?_, hr2 j c hj⟩
        rw [hl]; exact (List.getElem?_eq_some_iff.1 hj).1
    | false =>
      rw [hb] at he
      have hne : t' ≠ t := fun e => by subst e; rw [Nat.beq_refl] at hb; cases hb
      simp only at he
      split at he
      · rename_i e' hz
        cases he
        refine fail _ hz (fun z h3 => ⟨?_, ?_⟩) rfl rfl <;>
        · unfold Instr.typeAssert
          simp only [Sem.run_bind, hu, Result.andThen_ok, Sem.events_bind, Result.evThen_ok, events_underlying]
          cases hdd : i.desc <;> first | (exact absurd hdd (notI _)) | simp [hne, h3]
      · cases he
  | nili =>
    simp only [assertE] at he
    split at he
    · rename_i e' hz
      cases he
      refine fail _ hz (fun z h3 => ⟨?_, ?_⟩) rfl rfl <;>
      · unfold Instr.typeAssert
        simp only [Sem.run_bind, hu, Result.andThen_ok, Sem.events_bind, Result.evThen_ok, events_underlying]
        cases hdd : i.desc <;> first | (exact absurd hdd (notI _)) | simp [h3]
    · cases he
  | _ => simp [assertE] at he

end
end Go.AM

/- The evaluator of one operation, in full. -/
namespace Go.AM

/-! ### To have a value reckoned out -/

section force
variable {β : Type}

def forceC : C → (C → Option β) → Option β
  | .int k n, q => q (.int k n)
  | .bool b, q => q (.bool b)
  | .str s, q => q (.str s)
  | .sl true k n es, q => q (.sl true k n es)
  | .sl false k n es, q => q (.sl false k n es)
  | .rp cs, q => forceL cs fun cs => q (.rp cs)
  | .ifa t cs, q => forceL cs fun cs => q (.ifa t cs)
  | .fn f a b, q => forceL a fun a => forceL b fun b => q (.fn f a b)
  | c, q => q c

theorem forceC_eq (c : C) (q : C → Option β) : forceC c q = q c := by
  cases c with
  | sl t => cases t <;> rfl
  | rp cs => simp [forceC, forceL_eq]
  | ifa t cs => simp [forceC, forceL_eq]
  | fn f a b => simp [forceC, forceL_eq]
  | _ => rfl

def forceA : A → (A → Option β) → Option β
  | .c x, q => forceC x fun x => q (.c x)
  | .ptr l o, q => q (.ptr l o)
  | .vec l k n es, q => q (.vec l k n es)
  | .ref l, q => q (.ref l)
  | .any, q => q .any

theorem forceA_eq (a : A) (q : A → Option β) : forceA a q = q a := by cases a <;> simp [forceA, forceC_eq]

def forceAs : List A → (List A → Option β) → Option β
  | [], q => q []
  | a :: r, q => forceA a fun a => forceAs r fun r => q (a :: r)

theorem forceAs_eq (l : List A) (q : List A → Option β) : forceAs l q = q l := by
  induction l generalizing q with
  | nil => rfl
  | cons a r ih => simp [forceAs, forceA_eq, ih]

def forceE : E1 → (E1 → Option β) → Option β
  | .one a, q => forceA a fun a => q (.one a)
  | .agg cs, q => forceAs cs fun cs => q (.agg cs)

theorem forceE_eq (a : E1) (q : E1 → Option β) : forceE a q = q a := by cases a <;> simp [forceE, forceA_eq, forceAs_eq]

def forceEs : List E1 → (List E1 → Option β) → Option β
  | [], q => q []
  | a :: r, q => forceE a fun a => forceEs r fun r => q (a :: r)

theorem forceEs_eq (l : List E1) (q : List E1 → Option β) : forceEs l q = q l := by
  induction l generalizing q with
  | nil => rfl
  | cons a r ih => simp [forceEs, forceE_eq, ih]

def forceD : D → (D → Option β) → Option β
  | .e x, q => forceE x fun x => q (.e x)
  | .tup xs, q => forceEs xs fun xs => q (.tup xs)
  | .any, q => q .any

theorem forceD_eq (a : D) (q : D → Option β) : forceD a q = q a := by cases a <;> simp [forceD, forceE_eq, forceEs_eq]

end force

/-- A slice, however it is held. -/
def slOf : D → Option (Bool × Nat × Nat × (Nat → List C))
  | .e (.one (.c (.sl t k n es))) => some (t, k, n, es)
  | .e (.one (.vec _ k n es)) => some (false, k, n, es)
  | _ => none

theorem slOf_ok {d : D} {t : Bool} {k n : Nat} {es : Nat → List C} (h : slOf d = some (t, k, n, es)) (σ : List Box) (s : St) (v : Value) (r : RdD σ s v d) : Rd s.M v (.sl t k n es) := by
  unfold slOf at h
  split at h
  · cases h; exact r
  · cases h; exact r.1
  · cases h

/-- The byte at a place. -/
def byteAt (l : List UInt8) (j : Int) : UInt8 := l.getD j.toNat 0

def lenE (T : List (Nat × TI)) (t : TypeId) (d : D) : Option D :=
  match lookT T t with
  | none => none
  | some i => match i.desc with
    | .slice _ => match slOf d with
      | some (_, _, n, _) => some (.e (.one (.c (.int .i64 n))))
      | none => none
    | .string => match d with
      | .e (.one (.c (.str s))) => some (.e (.one (.c (.int .i64 s.length))))
      | _ => none
    | _ => none

def convE (T : List (Nat × TI)) (src dst : TypeId) (d : D) : Option (D × List Prop) :=
  match lookT T src with
  | none => none
  | some i1 => match lookT T dst with
    | none => none
    | some i2 => match i2.desc with
      | .int k' => match d with
        | .e (.one (.c (.int _ j))) => some (.e (.one (.c (.int k' j))), [inR k' j])
        | _ => none
      | .string => match d with
        | .e (.one (.c (.str s))) => some (.e (.one (.c (.str s))), [])
        | d => match i1.desc with
          | .slice E => match lookT T E with
            | some ie => match ie.desc with
              | .int .u8 => match slOf d with
                | some (_, k, n, es) => match Nat.beq k 1 with
                  | true => match bytesE es 0 n with
                    | some r => some (.e (.one (.c (.str r))), [])
                    | none => none
                  | false => none
                | none => none
              | _ => none
            | none => none
          | _ => none
      | _ => none

def sliceE (T : List (Nat × TI)) (η : Operand → D) (t : TypeId) (x : Operand) (lo hi : Option Operand) : Option (D × List Prop) :=
  match lookT T t with
  | none => none
  | some i => match bndE η lo with
    | none => none
    | some l => match bndE η hi with
      | none => none
      | some u => match i.desc with
        | .string => match η x with
          | .e (.one (.c (.str s))) => some (.e (.one (.c (.str (cutS s l u)))), bndObs s.length l u)
          | _ => none
        | .slice E => match lookT T E with
          | none => none
          | some ie => match slOf (η x) with
            | some (tt, k, n, es) => match Nat.beq k ie.size with
              | true => some (.e (.one (.c (.sl (cutT tt u) ie.size (bndN n u - bndN 0 l) (offF (bndN 0 l) es)))), bndObs n l u)
              | false => none
            | none => none
        | _ => none

def minE (isMin : Bool) (η : Operand → D) (x y : Operand) : Option (D × List Prop) :=
  match η x, η y with
  | .e (.one (.c (.int .i64 a))), .e (.one (.c (.int .i64 b))) => some (.e (.one (.c (.int .i64 (cond isMin (min a b) (max a b))))), [])
  | _, _ => none

def bin2E (T : List (Nat × TI)) (op : BinOp) (t : TypeId) (x y : D) : Option (D × List Prop) :=
  match x, y with
  | .e (.one (.c (.bool a))), .e (.one (.c (.bool b))) => match lookT T t with
    | some i => match i.desc with
      | .bool => match negIf op (a == b) with
        | some c => some (.e (.one (.c (.bool c))), [])
        | none => none
      | _ => none
    | none => none
  | .e (.one (.c a)), .e (.one (.c b)) => match op with
    | .xor => match a, b with
      | .int .i64 a, .int .i64 b => some (.e (.one (.c (.int .i64 ((a.toNat ^^^ b.toNat : Nat) : Int)))), [0 ≤ a, 0 ≤ b])
      | _, _ => none
    | _ => match binE op a b with
      | some (c, obs) => some (.e (.one (.c c)), obs)
      | none => none
  | .e (.agg cs), .e (.agg es) => match lookT T t with
    | some i => match i.eq with
      | [] => none
      | d :: ds => match eqE (d :: ds) cs es with
        | some b => match negIf op b with
          | some c => some (.e (.one (.c (.bool c))), [])
          | none => none
        | none => none
    | none => none
  | _, _ => none

/-- Those that turn no box, and ask for none. -/
def opN (T : List (Nat × TI)) (CT : List (Nat × CtF)) (φ : Fr) (o : Oper) : Option (D × List Prop) :=
  match o.op with
  | .move x | .assign x => some (absO φ x, [])
  | .index t x y => match lookT T t with
    | some i => match i.desc with
      | .string => match absO φ x, absO φ y with
        | .e (.one (.c (.str l))), .e (.one (.c (.int _ j))) => some (.e (.one (.c (.int .u8 (byteAt l j).toNat))), [0 ≤ j, j < l.length])
        | _, _ => none
      | _ => none
    | none => none
  | .indexAddr t x y => match lookT T t with
    | some i => match i.desc with
      | .slice E => match lookT T E with
        | some ie => match slOf (absO φ x), absO φ y with
          | some (_, k, n, es), .e (.one (.c (.int _ j))) => match Nat.beq k ie.size with
            | true => some (.e (.one (.c (.rp (es j.toNat)))), [0 ≤ j, j < n])
            | false => none
          | _, _ => none
        | none => none
      | _ => none
    | none => none
  | .slice t x lo hi none => sliceE T (absO φ) t x lo hi
  | .convert src dst x => convE T src dst (absO φ x)
  | .call c => match c.callee with
    | .builtin .len => match c.args.toList, c.argTypes[0]? with
      | [x], some t => match lenE T t (absO φ x) with
        | some d => some (d, [])
        | none => none
      | _, _ => none
    | .value fo => callQ CT φ fo c.args.toList
    | _ => none
  | .pick c a b => match absO φ c with
    | .e (.one (.c (.bool true))) => some (absO φ a, [])
    | .e (.one (.c (.bool false))) => some (absO φ b, [])
    | _ => none
  | .binOp op t x y _ => bin2E T op t (absO φ x) (absO φ y)
  | .unOp op _ x => match absO φ x with
    | .e (.one (.c a)) => match unE op a with
      | some c => some (.e (.one (.c c)), [])
      | none => none
    | _ => none
  | .extract x j => match absO φ x with
    | .tup xs => match getX j xs with
      | some e => some (.e e, [])
      | none => none
    | _ => none
  | .fieldAddr t x f => match fieldE T t f with
    | some (k, _) => match absO φ x with
      | .e (.one (.ptr l off)) => some (.e (.one (.ptr l (off + k))), [])
      | .e (.one (.c (.rp cs))) => some (.e (.one (.c (.rp (dropX k cs)))), [])
      | _ => none
    | none => none
  | .field t x f => match fieldE T t f with
    | some (k, j) => match absO φ x with
      | .e (.agg cs) => match valE j (dropX k cs) with
        | some e => some (.e e, [])
        | none => none
      | _ => none
    | none => none
  | .nilCheck x => match absO φ x with
    | .e (.one (.ptr l off)) => some (.e (.one (.ptr l off)), [])
    | .e (.one (.c (.rp cs))) => some (.e (.one (.c (.rp cs))), [])
    | _ => none
  | .build t parts => match buildE T (absO φ) t parts.toList with
    | some cs => some (.e (.agg cs), [])
    | none => none
  | .buildSlice t n parts => match litE T (absO φ) t n parts.toList with
    | some (k, es) => some (.e (.one (.c (.sl true k n fun i => es.getD i []))), [])
    | none => none
  | .makeFunc fn a b => match closO (absO φ) a.toList with
    | some ca => match closO (absO φ) b.toList with
      | some cb => some (.e (.one (.c (.fn fn ca cb))), [])
      | none => none
    | none => none
  | .makeInterface t x => match lookT T t with
    | some i => match isIfaceD i.desc with
      | false => match mkIface t (absO φ x) with
        | some c => some (.e (.one (.c c)), [])
        | none => none
      | true => none
    | none => none
  | .typeAssert x _ t true => match lookT T t with
    | some i => match isIfaceD i.desc with
      | false => match absO φ x with
        | .e (.one (.c c)) => match assertE t i c with
          | some (e, b) => some (.tup [e, .one (.c (.bool b))], [])
          | none => none
        | _ => none
      | true => none
    | none => none
  | _ => none

def loadE (T : List (Nat × TI)) (φ : Fr) (σ : List Box) (t : TypeId) (x : Operand) : Option D :=
  match lookT T t with
  | some i => match absO φ x with
    | .e (.one (.ptr l off)) => match getX l σ with
      | some (.cells _ cs) => match valE i (dropX off cs) with
        | some e => some (.e e)
        | none => none
      | _ => none
    | .e (.one (.c (.rp cs))) => match valE i (cs.map A.c) with
      | some e => some (.e e)
      | none => none
    | _ => none
  | none => none

/-- Those that turn no box. -/
def opQ (T : List (Nat × TI)) (CT : List (Nat × CtF)) (φ : Fr) (σ : List Box) (o : Oper) : Option (D × List Prop) :=
  match o.op with
  | .load t x => match loadE T φ σ t x with
    | some d => some (d, [])
    | none => none
  | _ => opN T CT φ o

def appE (T : List (Nat × TI)) (η : Operand → D) (σ : List Box) (x y : Operand) (t t2 : TypeId) : Option (D × List Box × List Prop) :=
  match lookT T t with
  | none => none
  | some i => match lookT T t2 with
    | none => none
    | some i2 => match i.desc with
      | .slice E => match i2.desc with
        | .slice E2 => match Nat.beq E2 E with
          | false => none
          | true => match lookT T E with
            | none => none
            | some ie => match Nat.ble 1 ie.bytes, Nat.ble 1 ie.size with
              | true, true => match slOf (η y) with
                | none => none
                | some (_, k', m, es') => match Nat.beq k' ie.size with
                  | false => none
                  | true => match η x with
                    | .e (.one (.c (.sl true k n es))) => match Nat.beq k ie.size with
                      | true => forceL (σ ++ [.vec E ie.size (n + m) (appF n es es')]) fun σ' => some (.e (.one (.vec σ.length ie.size (n + m) (appF n es es'))), σ', [(n + m) * ie.bytes ≤ 140737488355328, n = 0 ∨ 0 < m])
                      | false => match Nat.beq n 0 with
                        | true => forceL (σ ++ [.vec E ie.size (n + m) (appF n es es')]) fun σ' => some (.e (.one (.vec σ.length ie.size (n + m) (appF n es es'))), σ', [(n + m) * ie.bytes ≤ 140737488355328, n = 0 ∨ 0 < m])
                        | false => none
                    | .e (.one (.vec l k n es)) => match getX l σ with
                      | some (.vec E' k2 n2 es2) => match Nat.beq E' E, Nat.beq k ie.size, Nat.beq k2 ie.size with
                        | true, true, true => forceL (putB.setX l (.vec E ie.size (n + m) (appF n es es')) σ) fun σ' => some (.e (.one (.vec l ie.size (n + m) (appF n es es'))), σ', [n2 = n, es2 = es, (n + m) * ie.bytes ≤ 140737488355328])
                        | _, _, _ => none
                      | _ => none
                    | _ => none
              | _, _ => none
        | _ => none
      | _ => none

/-- Those that turn boxes. -/
def opF (T : List (Nat × TI)) (CT : List (Nat × CtF)) (φ : Fr) (σ : List Box) (o : Oper) : Option (D × List Box × List Prop) :=
  match o.op with
  | .alloc _ | .box _ _ | .store _ _ _ => opE T φ σ o
  | .call c => match c.callee with
    | .builtin .append => match c.args.toList, c.argTypes.toList with
      | [x, y], [t, t2] => appE T (absO φ) σ x y t t2
      | _, _ => none
    | .value fo => callE CT φ σ fo c.args.toList
    | _ => none
  | _ => none

def lookB : List (Nat × Bool) → Nat → Option Bool
  | [], _ => none
  | (i, b) :: r, t => match Nat.beq i t with | true => some b | false => lookB r t

/-- A truth value that is known ahead. -/
def deci (ds : List (Nat × Bool)) (d : Option Nat) (x : D) (obs : List Prop) : Option (D × List Prop) :=
  match d with
  | none => some (x, obs)
  | some t => match lookB ds t with
    | none => some (x, obs)
    | some b => match x with
      | .e (.one (.c (.bool e))) => some (.e (.one (.c (.bool b))), catP obs [e = b])
      | _ => none

theorem deci_ok {ds : List (Nat × Bool)} {d : Option Nat} {x y : D} {obs obs' : List Prop} (h : deci ds d x obs = some (y, obs')) (ho : AllP obs') : y = x ∧ AllP obs := by
  unfold deci at h
  split at h
  · cases h; exact ⟨rfl, ho⟩
  · split at h
    · cases h; exact ⟨rfl, ho⟩
    · split at h
      · cases h
        rw [AllP.cat] at ho
        have : _ = _ := ho.2
        subst this
        exact ⟨rfl, ho.1⟩
      · cases h

/-- One operation, its guard with it. -/
def opS (T : List (Nat × TI)) (CT : List (Nat × CtF)) (ds : List (Nat × Bool)) (all : List Oper) (φ : Fr) (σ : List Box) (o : Oper) : Option (D × Option (List Box) × List Prop) :=
  let go : Option (D × Option (List Box) × List Prop) := match opQ T CT φ σ o with
    | some (x, obs) => match deci ds o.dst x obs with
      | some (y, obs') => forceD y fun y => some (y, none, obs')
      | none => none
    | none => match opF T CT φ σ o with
      | some (x, σ', obs) => forceD x fun x => some (x, some σ', obs)
      | none => none
  match o.guard with
  | none => go
  | some (j, b) => match guardE φ all j with
    | some (some b') => match b, b' with
      | true, true => go
      | false, false => go
      | _, _ => some (.tup [], none, [])
    | some none => some (.tup [], none, [])
    | none => none

section
variable {P : Program} {X : Cx P} {T : List (Nat × TI)} {CT : List (Nat × CtF)} {N : Nat} {all : List Oper} {φ : Fr} {σ : List Box} {o : Oper}

theorem appE_ok (hT : TOK P T) {η : Operand → D} {x y : Operand} {t t2 : TypeId} {d : D} {σ' : List Box} {obs : List Prop} (ho : o.op = .call { callee := .builtin .append, args := #[x, y], argTypes := #[t, t2] })
    (h : appE T η σ x y t t2 = some (d, σ', obs)) (hobs : AllP obs) : OpJ P o η σ d σ' := by
  unfold appE at h
  split at h
  · cases h
  rename_i i hi
  split at h
  · cases h
  rename_i i2 hi2
  split at h
  case h_2 => cases h
  rename_i E hE
  split at h
  case h_2 => cases h
  rename_i E2 hE2
  split at h
  · cases h
  rename_i hEE
  have eE := Nat.eq_of_beq_eq_true hEE
  subst eE
  split at h
  · cases h
  rename_i ie hie
  split at h
  case h_2 => cases h
  rename_i hb1 hb2
  have happ : AppOK P o x y E2 ie := ⟨⟨t, t2, i, i2, ho, hT t i hi, hE, hT t2 i2 hi2, hE2⟩, hT _ _ hie, by have := Nat.le_of_ble_eq_true hb1; omega, by have := Nat.le_of_ble_eq_true hb2; omega⟩
  split at h
  · cases h
  rename_i tx k' m es' hy
  split at h
  · cases h
  rename_i hk'
  have ek := Nat.eq_of_beq_eq_true hk'
  subst ek
  have hy' := fun s v => slOf_ok hy σ s v
  split at h
  · rename_i k n es hx
    split at h
    · rename_i hk
      rw [forceL_eq] at h
      cases h
      exact OpJ.appendTight happ hx (.inl (Nat.eq_of_beq_eq_true hk)) hy' hobs.1 hobs.2
    · split at h
      · rename_i hn
        rw [forceL_eq] at h
        cases h
        exact OpJ.appendTight happ hx (.inr (Nat.eq_of_beq_eq_true hn)) hy' hobs.1 hobs.2
      · cases h
  · rename_i l k n es hx
    split at h
    · rename_i E' k2 n2 es2 hl
      split at h
      · rename_i h1 h2 h3
        rw [forceL_eq, setX_eq] at h
        cases h
        obtain ⟨e1, e2, h4⟩ : n2 = n ∧ es2 = es ∧ _ := hobs
        subst e1
        subst e2
        have e3 := Nat.eq_of_beq_eq_true h1
        subst e3
        have e4 := Nat.eq_of_beq_eq_true h2
        have e5 := Nat.eq_of_beq_eq_true h3
        subst e5
        subst e4
        exact OpJ.appendVec happ hx (getX_eq hl) hy' h4
      · cases h
    · cases h
  · cases h

theorem lenE_ok (hT : TOK P T) {η : Operand → D} {x : Operand} {ats : Array TypeId} {t : TypeId} {d : D} (ho : o.op = .call { callee := .builtin .len, args := #[x], argTypes := ats }) (ht : ats[0]? = some t) (h : lenE T t (η x) = some d) : OpJ P o η σ d σ := by
  unfold lenE at h
  split at h
  · cases h
  rename_i i hi
  split at h
  · rename_i E hd
    split at h
    · rename_i tt k n es hs
      cases h
      exact OpJ.lenSl hT ho ht hi hd (fun s v => slOf_ok hs σ s v)
    · cases h
  · rename_i hd
    split at h
    · rename_i s hs
      cases h
      exact OpJ.lenStr hT ho ht hi hd hs
    · cases h
  · cases h

theorem convE_ok (hT : TOK P T) {η : Operand → D} {src dst : TypeId} {x : Operand} {d : D} {obs : List Prop} (ho : o.op = .convert src dst x) (h : convE T src dst (η x) = some (d, obs)) (hobs : AllP obs) : OpJ P o η σ d σ := by
  unfold convE at h
  split at h
  · cases h
  rename_i i hi
  split at h
  · cases h
  rename_i i2 hi2
  split at h
  · rename_i k' hd
    split at h
    · rename_i k j hx
      cases h
      exact OpJ.convInt hT ho hi hi2 hd hx hobs
    · cases h
  · rename_i hd
    split at h
    · rename_i s hx
      cases h
      exact OpJ.convStr hT ho hi hi2 hd hx
    · split at h
      · rename_i E hdE
        split at h
        · rename_i ie hE
          split at h
          · rename_i hde
            split at h
            · rename_i tt k n es hs
              split at h
              · rename_i hk
                have e := Nat.eq_of_beq_eq_true hk
                subst e
                split at h
                · rename_i r hb
                  cases h
                  exact OpJ.convBytes hT ho hi hi2 hdE hd hE hde (fun s v => slOf_ok hs σ s v) hb
                · cases h
              · cases h
            · cases h
          · cases h
        · cases h
      · cases h
  · cases h

theorem sliceE_ok (hT : TOK P T) {η : Operand → D} {t : TypeId} {x : Operand} {lo hi : Option Operand} {d : D} {obs : List Prop} (ho : o.op = .slice t x lo hi none) (h : sliceE T η t x lo hi = some (d, obs)) (hobs : AllP obs) : OpJ P o η σ d σ := by
  unfold sliceE at h
  split at h
  · cases h
  rename_i i hi'
  split at h
  · cases h
  rename_i l hl
  split at h
  · cases h
  rename_i u hu
  split at h
  · rename_i hd
    split at h
    · rename_i s hx
      cases h
      exact OpJ.sliceStr hT ho hi' hd hx hl hu hobs
    · cases h
  · rename_i E hd
    split at h
    · cases h
    rename_i ie hE
    split at h
    · rename_i tt k n es hs
      split at h
      · rename_i hk
        cases h
        have e := Nat.eq_of_beq_eq_true hk
        subst e
        exact OpJ.sliceSl hT ho hi' hd hE (fun s v => slOf_ok hs σ s v) hl hu hobs
      · cases h
    · cases h
  · cases h

theorem args_one {α : Type} {xs : Array α} {x : α} (h : xs.toList = [x]) : xs = #[x] := Array.ext' h
theorem args_two {α : Type} {xs : Array α} {x y : α} (h : xs.toList = [x, y]) : xs = #[x, y] := Array.ext' h

theorem opN_ok (hT : TOK P T) (hC : COK X CT) {d : D} {obs : List Prop} (h : opN T CT φ o = some (d, obs)) (hobs : AllP obs) (hg : ∀ σ s a, FrOK N σ s φ a → Region.wanted o (yielded all.toArray a.tmps) = true) : OA X N all o φ σ d σ := by
  unfold opN at h
  split at h
  · rename_i x ho; cases h; exact OA.ofJ hg (OpJ.move ho)
  · rename_i x ho; cases h; exact OA.ofJ hg (OpJ.assign ho)
  · rename_i t x y ho
    split at h
    · rename_i i hi
      split at h
      · rename_i hd
        split at h
        · rename_i l k j hx hy
          cases h
          obtain ⟨h1, h2⟩ : 0 ≤ j ∧ j < (l.length : Int) := hobs
          have := OpJ.indexStr (σ := σ) (m := j.toNat) hT ho hi hd hx hy (by omega) (by omega)
          have e : byteAt l j = l[j.toNat]'(by omega) := by simp [byteAt, List.getD_eq_getElem?_getD, List.getElem?_eq_getElem (by omega : j.toNat < l.length)]
          rw [e]
          exact OA.ofJ hg this
        · cases h
      · cases h
    · cases h
  · rename_i t x y ho
    split at h
    · rename_i i hi
      split at h
      · rename_i E hd
        split at h
        · rename_i ie hE
          split at h
          · rename_i tt k n es k2 j hx hy
            split at h
            · rename_i hk
              cases h
              obtain ⟨h1, h2⟩ : 0 ≤ j ∧ j < (n : Int) := hobs
              have e := Nat.eq_of_beq_eq_true hk
              subst e
              exact OA.ofJ hg (OpJ.indexAddr (m := j.toNat) hT ho hi hd hE (fun s v => slOf_ok hx σ s v) hy (by omega) (by omega))
            · cases h
          · cases h
        · cases h
      · cases h
    · cases h
  · rename_i t x lo hi ho
    exact OA.ofJ hg (sliceE_ok hT ho h hobs)
  · rename_i src dst x ho
    exact OA.ofJ hg (convE_ok hT ho h hobs)
  · rename_i c ho
    obtain ⟨cal, args, ats⟩ := c
    simp only at h
    split at h
    · split at h
      · rename_i x t hx ht
        split at h
        · rename_i d' hl
          cases h
          have := args_one hx
          subst this
          exact OA.ofJ hg (lenE_ok hT ho ht hl)
        · cases h
      · cases h
    · exact OA.callQ hC hg ho h hobs
    · cases h
  · rename_i c a b he
    split at h
    · rename_i hc; cases h; exact OA.ofJ hg (OpJ.pick he hc)
    · rename_i hc; cases h; exact OA.ofJ hg (OpJ.pick he hc)
    · cases h
  · rename_i op t y z ty he
    unfold bin2E at h
    split at h
    · rename_i a b ha hb
      split at h
      · rename_i i hi
        split at h
        · rename_i hd
          split at h
          · rename_i c hc; cases h; exact OA.ofJ hg (OpJ.boolEq hT he hi hd ha hb hc)
          · cases h
        · cases h
      · cases h
    · rename_i a b _ ha hb
      split at h
      · split at h
        · rename_i _ _ a' b' _ _
          cases h
          exact OA.ofJ hg (OpJ.xor64 he ha hb hobs.1 hobs.2)
        · cases h
      · split at h
        · rename_i c obs' hc; cases h; exact OA.ofJ hg (OpJ.binOp he ha hb hc hobs)
        · cases h
    · rename_i cs es ha hb
      split at h
      · rename_i i hi
        split at h
        · cases h
        · rename_i d ds hie
          split at h
          · rename_i b he2
            split at h
            · rename_i c hc; cases h; exact OA.ofJ hg (OpJ.structEq hT he hi (by rw [hie]; simp) ha hb (by rw [hie]; exact he2) hc)
            · cases h
          · cases h
      · cases h
    · cases h
  · rename_i op t y he
    split at h
    · rename_i a ha
      split at h
      · rename_i c hc; cases h; exact OA.ofJ hg (OpJ.unOp he ha hc)
      · cases h
    · cases h
  · rename_i y j he
    split at h
    · rename_i xs hx
      split at h
      · rename_i e hj; cases h; exact OA.ofJ hg (OpJ.extract he hx (getX_eq hj))
      · cases h
    · cases h
  · rename_i t y f he
    split at h
    · rename_i k j hf
      split at h
      · rename_i l off hx; cases h; exact OA.ofJ hg (OpJ.fieldAddrBox hT he hx hf)
      · rename_i cs hx; cases h; exact OA.ofJ hg (OpJ.fieldAddrRp hT he hx hf)
      · cases h
    · cases h
  · rename_i t y f he
    split at h
    · rename_i k j hf
      split at h
      · rename_i cs hx
        split at h
        · rename_i e hv; cases h; exact OA.ofJ hg (OpJ.field hT he hx hf hv)
        · cases h
      · cases h
    · cases h
  · rename_i y he
    split at h
    · rename_i l off hx; cases h; exact OA.ofJ hg (OpJ.nilCheckBox he hx)
    · rename_i cs hx; cases h; exact OA.ofJ hg (OpJ.nilCheckRp he hx)
    · cases h
  · rename_i t parts he
    split at h
    · rename_i cs hc; cases h; exact OA.ofJ hg (OpJ.build hT he hc)
    · cases h
  · rename_i t n parts he
    split at h
    · rename_i k es hc; cases h; exact OA.ofJ hg (OpJ.buildSlice hT he hc)
    · cases h
  · rename_i fn a b he
    split at h
    · rename_i ca ha
      split at h
      · rename_i cb hb; cases h; exact OA.ofJ hg (OpJ.makeFunc he ha hb)
      · cases h
    · cases h
  · rename_i t x he
    split at h
    · rename_i i hi
      split at h
      · rename_i hd
        split at h
        · rename_i c hc; cases h; exact OA.ofJ hg (OpJ.makeInterface hT he hi hd hc)
        · cases h
      · cases h
    · cases h
  · rename_i x xt t he
    split at h
    · rename_i i hi
      split at h
      · rename_i hd
        split at h
        · rename_i c hx
          split at h
          · rename_i e b ha; cases h; exact OA.ofJ hg (OpJ.typeAssert hT he hi hd hx ha)
          · cases h
        · cases h
      · cases h
    · cases h
  · cases h

theorem opQ_ok (hT : TOK P T) (hC : COK X CT) {d : D} {obs : List Prop} (h : opQ T CT φ σ o = some (d, obs)) (hobs : AllP obs) (hg : ∀ σ s a, FrOK N σ s φ a → Region.wanted o (yielded all.toArray a.tmps) = true) : OA X N all o φ σ d σ := by
  unfold opQ at h
  split at h
  · rename_i t y he
    split at h
    · rename_i d' hl
      cases h
      unfold loadE at hl
      split at hl
      · rename_i i hi
        split at hl
        · rename_i l off hx
          split at hl
          · rename_i E cs hB
            split at hl
            · rename_i e hv; cases hl; exact OA.ofJ hg (OpJ.loadBox hT he hx (getX_eq hB) hi hv)
            · cases hl
          · cases hl
        · rename_i cs hx
          split at hl
          · rename_i e hv; cases hl; exact OA.ofJ hg (OpJ.loadRp hT he hx hi hv)
          · cases hl
        · cases hl
      · cases hl
    · cases h
  · exact opN_ok hT hC h hobs hg

theorem opF_ok (hT : TOK P T) (hC : COK X CT) {d : D} {σ' : List Box} {obs : List Prop} (h : opF T CT φ σ o = some (d, σ', obs)) (hobs : AllP obs) (hg : ∀ σ s a, FrOK N σ s φ a → Region.wanted o (yielded all.toArray a.tmps) = true) : OA X N all o φ σ d σ' := by
  unfold opF at h
  split at h
  · exact OA.ofJ hg (opE_ok hT h hobs)
  · exact OA.ofJ hg (opE_ok hT h hobs)
  · exact OA.ofJ hg (opE_ok hT h hobs)
  · rename_i c ho
    obtain ⟨cal, args, ats⟩ := c
    simp only at h
    split at h
    · split at h
      · rename_i x y t t2 hx ht
        have := args_two hx
        subst this
        have := args_two ht
        subst this
        exact OA.ofJ hg (appE_ok hT ho h hobs)
      · cases h
    · exact OA.call hC hg ho h hobs
    · cases h
  · cases h

theorem opS_ok (hT : TOK P T) (hC : COK X CT) {ds : List (Nat × Bool)} {d : D} {σ' : Option (List Box)} {obs : List Prop} (h : opS T CT ds all φ σ o = some (d, σ', obs)) (hobs : AllP obs) : OA X N all o φ σ d (σ'.getD σ) := by
  have go : (∀ σ s a, FrOK N σ s φ a → Region.wanted o (yielded all.toArray a.tmps) = true) → (match opQ T CT φ σ o with
    | some (x, obs) => match deci ds o.dst x obs with
      | some (y, obs') => forceD y fun y => some (y, none, obs')
      | none => none
    | none => match opF T CT φ σ o with
      | some (x, σ', obs) => forceD x fun x => some (x, some σ', obs)
      | none => none) = some (d, σ', obs) → OA X N all o φ σ d (σ'.getD σ) := by
    intro hg h
    split at h
    · rename_i x obs1 hq
      split at h
      · rename_i y obs2 hd
        rw [forceD_eq] at h
        cases h
        obtain ⟨rfl, h2⟩ := deci_ok hd hobs
        exact opQ_ok hT hC hq h2 hg
      · cases h
    · split at h
      · rename_i x σ1 obs1 hf
        rw [forceD_eq] at h
        cases h
        exact opF_ok hT hC hf hobs hg
      · cases h
  unfold opS at h
  simp only at h
  split at h
  · rename_i hgd
    exact go (fun _ _ _ _ => wanted_none hgd) h
  · rename_i j b hgd
    split at h
    · rename_i b' hgu
      have hw : ∀ σ s a, FrOK N σ s φ a → Region.wanted o (yielded all.toArray a.tmps) = (some b' == some b) := fun σ s a f => by simp only [Region.wanted, hgd, guardE_ok hgu f]
      split at h
      · exact go (fun σ s a f => (hw σ s a f).trans rfl) h
      · exact go (fun σ s a f => (hw σ s a f).trans rfl) h
      · cases h
        refine OA.pass (fun σ s a f => (hw σ s a f).trans ?_)
        cases b <;> cases b' <;> simp_all
    · rename_i hgu
      cases h
      exact OA.pass (fun σ s a f => by simp only [Region.wanted, hgd, guardE_ok hgu f]; rfl)
    · cases h

end
end Go.AM

/- The evaluator of regions that draw their order. -/
namespace Go.AM

def isLoad (o : Oper) : Bool := match o.op with | .load _ _ => true | _ => false

theorem opQ_free {T : List (Nat × TI)} {CT : List (Nat × CtF)} {φ : Fr} {σ σ2 : List Box} {o : Oper} (h : isLoad o = false) : opQ T CT φ σ o = opQ T CT φ σ2 o := by
  unfold opQ
  split
  · rename_i ho; simp [isLoad, ho] at h
  · rfl

theorem opS_free {T : List (Nat × TI)} {CT : List (Nat × CtF)} {ds : List (Nat × Bool)} {all : List Oper} {φ : Fr} {σ : List Box} {o : Oper} {d : D} {obs : List Prop} (h : isLoad o = false) (hs : opS T CT ds all φ σ o = some (d, none, obs)) (σ2 : List Box) :
    opS T CT ds all φ σ2 o = some (d, none, obs) := by
  unfold opS at hs ⊢
  simp only at hs ⊢
  rw [opQ_free (σ2 := σ) h]
  cases hq : opQ T CT φ σ o with
  | some r => simp only [hq] at hs ⊢; exact hs
  | none =>
    simp only [hq] at hs ⊢
    have key : ∀ {y : Option (D × Option (List Box) × List Prop)}, (match opF T CT φ σ o with | some (x, σ', obs) => forceD x fun x => some (x, some σ', obs) | none => none) = y → y ≠ some (d, none, obs) := by
      intro y hy e
      subst e
      split at hy
      · rw [forceD_eq] at hy; cases hy
      · cases hy
    split at hs
    · exact absurd rfl (key hs)
    · split at hs
      · split at hs
        · exact absurd rfl (key hs)
        · exact absurd rfl (key hs)
        · exact hs
      · exact hs
      · cases hs

/-! ### The frames -/

def hasD (t : Nat) : List Oper → Bool
  | [] => false
  | o :: r => match o.dst with
    | some d => match Nat.beq d t with | true => true | false => hasD t r
    | none => hasD t r

theorem hasD_of {t : Nat} : ∀ {l : List Oper} {i : Nat} {o : Oper}, l[i]? = some o → o.dst = some t → hasD t l = true
  | [], _, _, h, _ => by simp at h
  | p :: r, 0, o, h, hd => by
    simp at h; subst h
    simp [hasD, hd, Nat.beq_refl]
  | p :: r, i + 1, o, h, hd => by
    have := hasD_of (l := r) (by simpa using h) hd
    simp only [hasD]
    split
    · split <;> simp [this]
    · exact this

theorem hasD_some {t : Nat} : ∀ {l : List Oper}, hasD t l = true → ∃ (i : Nat) (o : Oper), l[i]? = some o ∧ o.dst = some t
  | [], h => by cases h
  | p :: r, h => by
    simp only [hasD] at h
    split at h
    · rename_i d hd
      split at h
      · rename_i hb
        exact ⟨0, p, rfl, by rw [hd, Nat.eq_of_beq_eq_true hb]⟩
      · obtain ⟨i, o, h1, h2⟩ := hasD_some h; exact ⟨i + 1, o, by simpa using h1, h2⟩
    · obtain ⟨i, o, h1, h2⟩ := hasD_some h; exact ⟨i + 1, o, by simpa using h1, h2⟩

def onceD : List Oper → Bool
  | [] => true
  | o :: r => match o.dst with
    | some d => match hasD d r with | true => false | false => onceD r
    | none => onceD r

theorem onceD_inj {t : Nat} : ∀ {l : List Oper} {i j : Nat} {o p : Oper}, onceD l = true → l[i]? = some o → l[j]? = some p → o.dst = some t → p.dst = some t → i = j
  | [], _, _, _, _, _, h, _, _, _ => by simp at h
  | q :: r, 0, 0, _, _, _, _, _, _, _ => rfl
  | q :: r, 0, j + 1, o, p, ho, h1, h2, d1, d2 => by
    simp at h1; subst h1
    simp only [onceD, d1] at ho
    rw [hasD_of (l := r) (by simpa using h2) d2] at ho
    cases ho
  | q :: r, i + 1, 0, o, p, ho, h1, h2, d1, d2 => by
    simp at h2; subst h2
    simp only [onceD, d2] at ho
    rw [hasD_of (l := r) (by simpa using h1) d1] at ho
    cases ho
  | q :: r, i + 1, j + 1, o, p, ho, h1, h2, d1, d2 => by
    have : onceD r = true := by
      simp only [onceD] at ho
      split at ho
      · split at ho
        · cases ho
        · exact ho
      · exact ho
    have h1' : r[i]? = some o := by simpa using h1
    have h2' : r[j]? = some p := by simpa using h2
    have e := onceD_inj this h1' h2' d1 d2
    omega

def remO (all : List Oper) : Fr → Fr
  | [] => []
  | (t, d) :: r => match hasD t all with | true => remO all r | false => (t, d) :: remO all r

theorem look_remO {all : List Oper} {t : Nat} : ∀ {φ : Fr}, look (remO all φ) t = if hasD t all = true then .any else look φ t
  | [] => by simp [remO, look]
  | (u, d) :: r => by
    simp only [remO]
    by_cases hb : Nat.beq u t = true
    · have e := Nat.eq_of_beq_eq_true hb
      subst e
      cases hh : hasD u all with
      | true => simp only; rw [look_remO]; simp [hh]
      | false => simp [look]
    · have hb' : Nat.beq u t = false := by cases h : Nat.beq u t with | true => exact absurd h hb | false => rfl
      cases hh : hasD u all with
      | true => simp only; rw [look_remO]; simp [look, hb']
      | false => simp only [look, hb', cond]; rw [look_remO]

def edgesX : List Edge → List Nat
  | [] => []
  | e :: r => match e.ground with
    | .textOnly _ => edgesX r
    | .gcOnly _ => edgesX r
    | _ => e.on :: edgesX r

theorem mem_edgesX {j : Nat} : ∀ {l : List Edge}, j ∈ edgesX l ↔ ∃ e ∈ l, bindsX e = true ∧ e.on = j
  | [] => by simp [edgesX]
  | e :: r => by
    have ih := mem_edgesX (j := j) (l := r)
    have yes : edgesX (e :: r) = e.on :: edgesX r → bindsX e = true → (j ∈ edgesX (e :: r) ↔ ∃ e' ∈ e :: r, bindsX e' = true ∧ e'.on = j) := by
      intro h1 h2
      rw [h1, List.mem_cons, ih]
      constructor
      · rintro (h | ⟨e', a, b, c⟩)
        · exact ⟨e, List.mem_cons_self, h2, h.symm⟩
        · exact ⟨e', List.mem_cons_of_mem _ a, b, c⟩
      · rintro ⟨e', a, b, c⟩
        rcases List.mem_cons.1 a with rfl | a
        · exact .inl c.symm
        · exact .inr ⟨e', a, b, c⟩
    have no : edgesX (e :: r) = edgesX r → bindsX e = false → (j ∈ edgesX (e :: r) ↔ ∃ e' ∈ e :: r, bindsX e' = true ∧ e'.on = j) := by
      intro h1 h2
      rw [h1, ih]
      constructor
      · rintro ⟨e', a, b, c⟩; exact ⟨e', List.mem_cons_of_mem _ a, b, c⟩
      · rintro ⟨e', a, b, c⟩
        rcases List.mem_cons.1 a with rfl | a
        · rw [h2] at b; cases b
        · exact ⟨e', a, b, c⟩
    cases hg : e.ground with
    | textOnly w => exact no (by simp only [edgesX, hg]) (by unfold bindsX Region.binds; rw [hg]; rfl)
    | gcOnly w => exact no (by simp only [edgesX, hg]) (by unfold bindsX Region.binds; rw [hg]; rfl)
    | _ => exact yes (by simp only [edgesX, hg]) (by unfold bindsX Region.binds; rw [hg])

/-- Is a slot written by one that does not wait for the i-th? -/
def hasN (i t : Nat) : List Oper → Bool
  | [] => false
  | o :: r => match o.dst with
    | some d => match Nat.beq d t with
      | true => match memX i (edgesX o.after.toList) with
        | true => hasN i t r
        | false => true
      | false => hasN i t r
    | none => hasN i t r

theorem hasN_false {i t : Nat} : ∀ {l : List Oper}, hasN i t l = false → ∀ (j : Nat) (o : Oper), l[j]? = some o → o.dst = some t → memX i (edgesX o.after.toList) = true
  | [], _, j, o, h, _ => by simp at h
  | p :: r, h, 0, o, hj, hd => by
    simp at hj; subst hj
    simp only [hasN, hd, Nat.beq_refl] at h
    cases hm : memX i (edgesX p.after.toList) with
    | true => rfl
    | false => simp [hm] at h
  | p :: r, h, j + 1, o, hj, hd => by
    have : hasN i t r = false := by
      simp only [hasN] at h
      split at h
      · split at h
        · split at h
          · exact h
          · cases h
        · exact h
      · exact h
    exact hasN_false this j o (by simpa using hj) hd

/-- What was known before, with a mark on what the region writes. -/
def markO (all : List Oper) : Fr → List (Nat × D × Bool)
  | [] => []
  | (t, d) :: r => match hasD t all with
    | true => (t, d, true) :: markO all r
    | false => (t, d, false) :: markO all r

/-- What the i-th may still take for known. -/
def selB (i : Nat) (all : List Oper) : List (Nat × D × Bool) → Fr
  | [] => []
  | (t, d, b) :: r => match b with
    | false => (t, d) :: selB i all r
    | true => match hasN i t all with
      | true => selB i all r
      | false => (t, d) :: selB i all r

theorem look_selB {i : Nat} {all : List Oper} {t : Nat} : ∀ {φ : Fr}, look (selB i all (markO all φ)) t = if hasD t all = true ∧ hasN i t all = true then .any else look φ t
  | [] => by simp [markO, selB, look]
  | (u, d) :: r => by
    have ih := look_selB (i := i) (all := all) (t := t) (φ := r)
    have keep : look ((u, d) :: selB i all (markO all r)) t = if Nat.beq u t = true then d else look (selB i all (markO all r)) t := by
      simp only [look]; cases Nat.beq u t <;> rfl
    have look0 : look ((u, d) :: r) t = if Nat.beq u t = true then d else look r t := by simp only [look]; cases Nat.beq u t <;> rfl
    cases hh : hasD u all with
    | false =>
      simp only [markO, hh, selB]
      rw [keep, look0, ih]
      by_cases hb : Nat.beq u t = true
      · have e := Nat.eq_of_beq_eq_true hb
        subst e
        simp [hh]
      · simp [hb]
    | true =>
      cases hn : hasN i u all with
      | true =>
        simp only [markO, hh, selB, hn]
        rw [look0, ih]
        by_cases hb : Nat.beq u t = true
        · have e := Nat.eq_of_beq_eq_true hb
          subst e
          simp [hh, hn]
        · simp [hb]
      | false =>
        simp only [markO, hh, selB, hn]
        rw [keep, look0, ih]
        by_cases hb : Nat.beq u t = true
        · have e := Nat.eq_of_beq_eq_true hb
          subst e
          simp [hn]
        · simp [hb]

/-- The slots of those that m marks. -/
def selF (m : Nat → Bool) : Nat → List (Option Nat × D) → Fr → Fr
  | _, [], φ => φ
  | i, (d, x) :: r, φ => match m i with
    | true => match d with
      | some t => (t, x) :: selF m (i + 1) r φ
      | none => selF m (i + 1) r φ
    | false => selF m (i + 1) r φ

theorem look_selF {m : Nat → Bool} {φ : Fr} {t : Nat} : ∀ {l : List (Option Nat × D)} {i : Nat}, (∃ j x, l[j]? = some (some t, x) ∧ m (i + j) = true ∧ look (selF m i l φ) t = x) ∨ look (selF m i l φ) t = look φ t
  | [], i => .inr rfl
  | (d, x) :: r, i => by
    have ih := look_selF (m := m) (φ := φ) (t := t) (l := r) (i := i + 1)
    have step : look (selF m i ((d, x) :: r) φ) t = look (selF m (i + 1) r φ) t → ((∃ j x', ((d, x) :: r)[j]? = some (some t, x') ∧ m (i + j) = true ∧ look (selF m i ((d, x) :: r) φ) t = x') ∨ look (selF m i ((d, x) :: r) φ) t = look φ t) := by
      intro e
      rw [e]
      rcases ih with ⟨j, x', h1, h2, h3⟩ | h
      · exact .inl ⟨j + 1, x', by simpa using h1, by rw [show i + (j + 1) = i + 1 + j by omega]; exact h2, h3⟩
      · exact .inr h
    cases hm : m i with
    | false => exact step (by simp [selF, hm])
    | true =>
      cases d with
      | none => exact step (by simp [selF, hm])
      | some u =>
        by_cases hb : Nat.beq u t = true
        · have e := Nat.eq_of_beq_eq_true hb
          subst e
          exact .inl ⟨0, x, rfl, by simpa using hm, by simp [selF, hm, look]⟩
        · have hb' : Nat.beq u t = false := by cases h : Nat.beq u t with | true => exact absurd h hb | false => rfl
          exact step (by simp [selF, hm, look, hb'])

/-! ### The run over the text's order -/

/-- Where a run stands: how many; what they came to; the boxes; of each what comes before it; those that turn boxes, those that see boxes; what must hold. -/
structure DSt where
  i : Nat
  pre : List (Option Nat × D)
  σ : List Box
  cls : List (List Bool)
  effM : List Bool
  nfM : List Bool
  obs : List Prop

def ltX (i : Nat) : List Nat → Bool
  | [] => true
  | k :: r => match Nat.blt k i with | true => ltX i r | false => false

theorem ltX_ok {i : Nat} : ∀ {l : List Nat}, ltX i l = true → ∀ k ∈ l, k < i
  | [], _, k, h => by simp at h
  | x :: r, h, k, hk => by
    simp only [ltX] at h
    cases hb : Nat.blt x i with
    | false => simp [hb] at h
    | true =>
      simp only [hb] at h
      rcases List.mem_cons.1 hk with rfl | hk
      · exact Nat.le_of_ble_eq_true hb
      · exact ltX_ok h k hk

def bit : List Bool → Nat → Bool
  | [], _ => false
  | b :: _, 0 => b
  | _ :: r, n + 1 => bit r n

def orL : List Bool → List Bool → List Bool
  | [], b => b
  | true :: a, [] => true :: a
  | false :: a, [] => false :: a
  | true :: a, _ :: b => true :: orL a b
  | false :: a, true :: b => true :: orL a b
  | false :: a, false :: b => false :: orL a b

theorem bit_orL : ∀ {a b : List Bool} {j : Nat}, bit (orL a b) j = (bit a j || bit b j)
  | [], b, j => by simp [orL, bit]
  | true :: a, [], j => by simp [orL, bit]
  | false :: a, [], j => by simp [orL, bit]
  | true :: a, c :: b, 0 => by simp [orL, bit]
  | true :: a, c :: b, j + 1 => by simp only [orL, bit]; exact bit_orL
  | false :: a, true :: b, 0 => by simp [orL, bit]
  | false :: a, true :: b, j + 1 => by simp only [orL, bit]; exact bit_orL
  | false :: a, false :: b, 0 => by simp [orL, bit]
  | false :: a, false :: b, j + 1 => by simp only [orL, bit]; exact bit_orL

def oneL : Nat → List Bool
  | 0 => [true]
  | n + 1 => false :: oneL n

theorem bit_oneL : ∀ {n j : Nat}, bit (oneL n) j = decide (n = j)
  | 0, 0 => rfl
  | 0, j + 1 => by simp [oneL, bit]
  | n + 1, 0 => by simp [oneL, bit]
  | n + 1, j + 1 => by simp only [oneL, bit, bit_oneL]; simp

/-- All that comes before, by these edges. -/
def clX (cls : List (List Bool)) : List Nat → List Bool
  | [] => []
  | e :: r => match getX e cls with
    | some c => orL (orL c (oneL e)) (clX cls r)
    | none => orL (oneL e) (clX cls r)

theorem clX_bit {cls : List (List Bool)} {j : Nat} : ∀ {l : List Nat}, bit (clX cls l) j = true → ∃ e ∈ l, e = j ∨ ∃ c, cls[e]? = some c ∧ bit c j = true
  | [], h => by simp [clX, bit] at h
  | e :: r, h => by
    simp only [clX, getX_get] at h
    have two : ∀ {a : Nat}, bit (oneL e) a = true → e = a := by
      intro a h
      rw [bit_oneL] at h
      simpa using h
    have rest : bit (clX cls r) j = true → ∃ e' ∈ e :: r, e' = j ∨ ∃ c, cls[e']? = some c ∧ bit c j = true := by
      intro h
      obtain ⟨e', h1, h2⟩ := clX_bit h
      exact ⟨e', List.mem_cons_of_mem _ h1, h2⟩
    split at h
    · rename_i c hc
      rw [bit_orL, bit_orL, Bool.or_eq_true, Bool.or_eq_true] at h
      rcases h with (h | h) | h
      · exact ⟨e, by simp, .inr ⟨c, hc, h⟩⟩
      · exact ⟨e, by simp, .inl (two h)⟩
      · exact rest h
    · rw [bit_orL, Bool.or_eq_true] at h
      rcases h with h | h
      · exact ⟨e, by simp, .inl (two h)⟩
      · exact rest h

def subM : List Bool → List Bool → Bool
  | [], _ => true
  | true :: a, true :: b => subM a b
  | true :: _, _ => false
  | false :: a, _ :: b => subM a b
  | false :: a, [] => subM a []

theorem subM_ok : ∀ {a b : List Bool} {j : Nat}, subM a b = true → bit a j = true → bit b j = true
  | [], b, j, _, hj => by simp [bit] at hj
  | true :: a, true :: b, 0, _, _ => rfl
  | true :: a, true :: b, j + 1, h, hj => by simp only [bit] at hj ⊢; exact subM_ok (by simpa [subM] using h) hj
  | true :: a, false :: b, j, h, _ => by simp [subM] at h
  | true :: a, [], j, h, _ => by simp [subM] at h
  | false :: a, c :: b, 0, _, hj => by simp [bit] at hj
  | false :: a, c :: b, j + 1, h, hj => by simp only [bit] at hj ⊢; exact subM_ok (by simpa [subM] using h) hj
  | false :: a, [], 0, _, hj => by simp [bit] at hj
  | false :: a, [], j + 1, h, hj => by
    simp only [bit] at hj
    have := subM_ok (j := j) (by simpa [subM] using h) hj
    simp [bit] at this

/-- One more. -/
def stepD (T : List (Nat × TI)) (CT : List (Nat × CtF)) (N : Nat) (ds : List (Nat × Bool)) (all : List Oper) (φm : List (Nat × D × Bool)) (st : DSt) (o : Oper) : Option DSt :=
  match dstOk N o.dst with
  | false => none
  | true =>
    let es := edgesX o.after.toList
    match ltX st.i es with
    | false => none
    | true => match opS T CT ds all (selF (fun j => memX j es) 0 st.pre (selB st.i all φm)) st.σ o with
      | none => none
      | some (x, σ', obs) =>
        let cl := clX st.cls es
        match σ', isLoad o with
        | none, false => forceL (st.pre ++ [(o.dst, x)]) fun pre => forceL (st.cls ++ [cl]) fun cls => forceL (catP obs st.obs) fun obs => some ⟨st.i + 1, pre, st.σ, cls, st.effM, st.nfM, obs⟩
        | none, true => match subM st.effM cl with
          | true => forceL (st.pre ++ [(o.dst, x)]) fun pre => forceL (st.cls ++ [cl]) fun cls => forceL (catP obs st.obs) fun obs => forceL (orL st.nfM (oneL st.i)) fun nf => some ⟨st.i + 1, pre, st.σ, cls, st.effM, nf, obs⟩
          | false => none
        | some σ', _ => match subM st.nfM cl with
          | true => forceL (st.pre ++ [(o.dst, x)]) fun pre => forceL (st.cls ++ [cl]) fun cls => forceL (catP obs st.obs) fun obs => forceL (orL st.nfM (oneL st.i)) fun nf => forceL (orL st.effM (oneL st.i)) fun ef => some ⟨st.i + 1, pre, σ', cls, ef, nf, obs⟩
          | false => none

def runD (T : List (Nat × TI)) (CT : List (Nat × CtF)) (N : Nat) (ds : List (Nat × Bool)) (all : List Oper) (φm : List (Nat × D × Bool)) : List Oper → DSt → Option DSt
  | [], st => some st
  | o :: r, st => match stepD T CT N ds all φm st o with
    | some st' => runD T CT N ds all φm r st'
    | none => none

/-- A region that draws. -/
def drawE (T : List (Nat × TI)) (CT : List (Nat × CtF)) (N : Nat) (ds : List (Nat × Bool)) (all : List Oper) (φ : Fr) (σ : List Box) : Option (Fr × List Box × List Prop) :=
  match onceD all with
  | false => none
  | true => forceL (markO all φ) fun φm => match runD T CT N ds all φm all ⟨0, [], σ, [], [], [], []⟩ with
    | some st => forceL (selF (fun _ => true) 0 st.pre (remO all φ)) fun φ' => some (φ', st.σ, st.obs)
    | none => none

end Go.AM

/- The evaluator of regions that draw is right. -/
namespace Go.AM
open Go.Conc (G)

def noOp : Oper := ⟨none, .move (.tmp 0), 0, "", #[], none⟩

section
variable (T : List (Nat × TI)) (CT : List (Nat × CtF)) (N : Nat) (ds : List (Nat × Bool)) (all : List Oper) (φm : List (Nat × D × Bool))

/-- The state before the i-th. -/
def atD (st : DSt) : Nat → DSt
  | 0 => st
  | i + 1 => (stepD T CT N ds all φm (atD st i) (all.getD i noOp)).getD (atD st i)

def frD (st : DSt) (i : Nat) : Fr := selF (fun j => memX j (edgesX (all.getD i noOp).after.toList)) 0 (atD T CT N ds all φm st i).pre (selB (atD T CT N ds all φm st i).i all φm)

def resAt (st : DSt) (i : Nat) : Option (D × Option (List Box) × List Prop) := opS T CT ds all (frD T CT N ds all φm st i) (atD T CT N ds all φm st i).σ (all.getD i noOp)

def xD (st : DSt) (i : Nat) : D := match resAt T CT N ds all φm st i with | some (x, _, _) => x | none => .any
def effD (st : DSt) (i : Nat) : Bool := match resAt T CT N ds all φm st i with | some (_, some _, _) => true | _ => false
def freeD (st : DSt) (i : Nat) : Bool := !isLoad (all.getD i noOp) && !effD T CT N ds all φm st i
def clD (st : DSt) (i : Nat) : List Bool := clX (atD T CT N ds all φm st i).cls (edgesX (all.getD i noOp).after.toList)

end

section
variable {T : List (Nat × TI)} {CT : List (Nat × CtF)} {N : Nat} {ds : List (Nat × Bool)} {all : List Oper} {φm : List (Nat × D × Bool)}

structure StepOK (T : List (Nat × TI)) (CT : List (Nat × CtF)) (N : Nat) (ds : List (Nat × Bool)) (all : List Oper) (φm : List (Nat × D × Bool)) (st st' : DSt) (o : Oper) (x : D) (σ' : Option (List Box)) (obs : List Prop) : Prop where
  dst : dstOk N o.dst = true
  lt : ltX st.i (edgesX o.after.toList) = true
  op : opS T CT ds all (selF (fun j => memX j (edgesX o.after.toList)) 0 st.pre (selB st.i all φm)) st.σ o = some (x, σ', obs)
  i : st'.i = st.i + 1
  pre : st'.pre = st.pre ++ [(o.dst, x)]
  cls : st'.cls = st.cls ++ [clX st.cls (edgesX o.after.toList)]
  σ : st'.σ = σ'.getD st.σ
  obs : st'.obs = catP obs st.obs
  eff : st'.effM = if σ'.isSome = true then orL st.effM (oneL st.i) else st.effM
  nf : st'.nfM = if (isLoad o || σ'.isSome) = true then orL st.nfM (oneL st.i) else st.nfM
  load : isLoad o = true → σ'.isSome = false → subM st.effM (clX st.cls (edgesX o.after.toList)) = true
  turn : σ'.isSome = true → subM st.nfM (clX st.cls (edgesX o.after.toList)) = true

theorem stepD_ok {st st' : DSt} {o : Oper} (h : stepD T CT N ds all φm st o = some st') : ∃ x σ' obs, StepOK T CT N ds all φm st st' o x σ' obs := by
  unfold stepD at h
  split at h
  · cases h
  rename_i hd
  simp only at h
  split at h
  · cases h
  rename_i hlt
  split at h
  · cases h
  rename_i x σ' obs hop
  refine ⟨x, σ', obs, ?_⟩
  cases σ' with
  | none =>
    cases hl : isLoad o with
    | false =>
      simp only [hl, forceL_eq] at h
      cases h
      exact ⟨hd, hlt, hop, rfl, rfl, rfl, rfl, rfl, by simp, by simp [hl], by simp [hl], by simp⟩
    | true =>
      simp only [hl, forceL_eq] at h
      split at h
      · rename_i hs
        cases h
        exact ⟨hd, hlt, hop, rfl, rfl, rfl, rfl, rfl, by simp, by simp [hl], fun _ _ => hs, by simp⟩
      · cases h
  | some σ' =>
    simp only [forceL_eq] at h
    split at h
    · rename_i hs
      cases h
      exact ⟨hd, hlt, hop, rfl, rfl, rfl, rfl, rfl, by simp, by simp, by simp, fun _ => hs⟩
    · cases h

theorem runD_at {st sf : DSt} : ∀ {rest : List Oper} {k : Nat}, (∀ i, rest[i]? = all[k + i]?) → runD T CT N ds all φm rest (atD T CT N ds all φm st k) = some sf →
    (∀ i o, rest[i]? = some o → stepD T CT N ds all φm (atD T CT N ds all φm st (k + i)) o = some (atD T CT N ds all φm st (k + i + 1))) ∧ atD T CT N ds all φm st (k + rest.length) = sf
  | [], k, _, h => by
    cases h
    exact ⟨by simp, rfl⟩
  | p :: r, k, hr, h => by
    simp only [runD] at h
    have h0 : all[k]? = some p := by have := hr 0; simpa using this.symm
    split at h
    · rename_i st' hst
      have e : atD T CT N ds all φm st (k + 1) = st' := by
        simp only [atD, List.getD_eq_getElem?_getD, h0, Option.getD_some, hst]
      rw [← e] at h
      obtain ⟨h1, h2⟩ := runD_at (rest := r) (k := k + 1) (fun i => by have := hr (i + 1); simpa [Nat.add_assoc, Nat.add_comm 1] using this) h
      refine ⟨fun i o hi => ?_, by rw [← h2]; congr 1; simp; omega⟩
      cases i with
      | zero => simp at hi; subst hi; simpa [e] using hst
      | succ i =>
        have := h1 i o (by simpa using hi)
        rw [show k + (i + 1) = k + 1 + i by omega]
        exact this
    · cases h


theorem memI {j : Nat} : ∀ {l : List Nat}, memX j l = true → j ∈ l := by
  intro l
  induction l with
  | nil => intro h; cases h
  | cons a r ih =>
    intro h
    simp only [memX] at h
    cases hb : Nat.beq j a with
    | true => rw [Nat.eq_of_beq_eq_true hb]; exact List.mem_cons_self
    | false => simp [hb] at h; exact List.mem_cons_of_mem _ (ih h)

theorem drawE_ok {P : Program} {X : Cx P} (hf : P.follows Departure.mixedOrders = true) (hT : TOK P T) (hC : COK X CT) {ops : Array Oper} {φ φ' : Fr} {σ σ' : List Box} {obs : List Prop} (h : drawE T CT N ds ops.toList φ σ = some (φ', σ', obs)) (hobs : AllP obs) {Q : Post} (hQ : Q .normal φ' σ') (id : Nat) :
    AW X N (.region id ops true) Q φ σ := by
  unfold drawE at h
  split at h
  · cases h
  rename_i honce
  rw [forceL_eq] at h
  split at h
  case h_2 => cases h
  rename_i sf hrun
  rw [forceL_eq] at h
  cases h
  generalize hall : ops.toList = all at *
  generalize hφm : markO all φ = φm at *
  have hops : ∀ i : Nat, ops[i]? = all[i]? := fun i => by rw [← hall, Array.getElem?_toList]
  have hsz : ops.size = all.length := by rw [← hall]; simp
  let st0 : DSt := ⟨0, [], σ, [], [], [], []⟩
  obtain ⟨hstep, hlast⟩ := runD_at (T := T) (CT := CT) (N := N) (ds := ds) (φm := φm) (st := st0) (rest := all) (k := 0) (fun i => by simp) hrun
  simp only [Nat.zero_add] at hstep hlast
  let F := atD T CT N ds all φm st0
  have getO : ∀ i o, all[i]? = some o → all.getD i noOp = o := fun i o h => by simp [List.getD_eq_getElem?_getD, h]
  have facts : ∀ i o, all[i]? = some o → ∃ obs1, StepOK T CT N ds all φm (F i) (F (i + 1)) o (xD T CT N ds all φm st0 i) (if effD T CT N ds all φm st0 i = true then some (F (i + 1)).σ else none) obs1 := by
    intro i o ho
    obtain ⟨x, σ1, obs1, hs⟩ := stepD_ok (hstep i o ho)
    have hop := hs.op
    have hR : resAt T CT N ds all φm st0 i = some (x, σ1, obs1) := by
      unfold resAt frD; rw [getO i o ho]; exact hop
    have hx : xD T CT N ds all φm st0 i = x := by unfold xD; rw [hR]
    cases σ1 with
    | none =>
      have he : effD T CT N ds all φm st0 i = false := by unfold effD; rw [hR]
      exact ⟨obs1, by rw [hx, he]; exact hs⟩
    | some σ2 =>
      have he : effD T CT N ds all φm st0 i = true := by unfold effD; rw [hR]
      have hσ2 : (F (i + 1)).σ = σ2 := hs.σ
      exact ⟨obs1, by rw [hx, he, if_pos rfl, hσ2]; exact hs⟩
  have lenI : ∀ i, i ≤ all.length → (F i).i = i := by
    intro i
    induction i with
    | zero => intro _; rfl
    | succ i ih =>
      intro hi
      obtain ⟨_, hs⟩ := facts i _ (List.getElem?_eq_getElem (by omega))
      rw [hs.i, ih (by omega)]
  have preI : ∀ i, i ≤ all.length → ∀ j, (F i).pre[j]? = if j < i then (all[j]?).map (fun o => (o.dst, xD T CT N ds all φm st0 j)) else none := by
    intro i
    induction i with
    | zero => intro _ j; simp [F, atD, st0]
    | succ i ih =>
      intro hi j
      obtain ⟨_, hs⟩ := facts i _ (List.getElem?_eq_getElem (by omega))
      have hlen : (F i).pre.length = i := by
        apply Nat.le_antisymm
        · apply Nat.le_of_not_lt
          intro hlt
          have := ih (by omega) i
          rw [if_neg (by omega), List.getElem?_eq_none_iff] at this
          omega
        · cases i with
          | zero => omega
          | succ k =>
            have := ih (by omega) k
            rw [if_pos (by omega), List.getElem?_eq_getElem (by omega : k < all.length)] at this
            exact (List.getElem?_eq_some_iff.1 this).1
      rw [hs.pre]
      by_cases hji : j < i
      · rw [List.getElem?_append_left (by omega), ih (by omega) j, if_pos hji, if_pos (by omega)]
      · rw [List.getElem?_append_right (by omega)]
        by_cases e : j = i
        · subst e
          simp [hlen, List.getElem?_eq_getElem (by omega : j < all.length)]
        · rw [if_neg (by omega), List.getElem?_eq_none (by simp; omega)]
  have clsI : ∀ i, i ≤ all.length → ∀ j, (F i).cls[j]? = if j < i then some (clD T CT N ds all φm st0 j) else none := by
    intro i
    induction i with
    | zero => intro _ j; simp [F, atD, st0]
    | succ i ih =>
      intro hi j
      obtain ⟨_, hs⟩ := facts i _ (List.getElem?_eq_getElem (by omega))
      have hlen : (F i).cls.length = i := by
        apply Nat.le_antisymm
        · apply Nat.le_of_not_lt
          intro hlt
          have := ih (by omega) i
          rw [if_neg (by omega), List.getElem?_eq_none_iff] at this
          omega
        · cases i with
          | zero => omega
          | succ k =>
            have := ih (by omega) k
            rw [if_pos (by omega)] at this
            exact (List.getElem?_eq_some_iff.1 this).1
      rw [hs.cls]
      by_cases hji : j < i
      · rw [List.getElem?_append_left (by omega), ih (by omega) j, if_pos hji, if_pos (by omega)]
      · rw [List.getElem?_append_right (by omega)]
        by_cases e : j = i
        · subst e
          rw [if_pos (by omega), hlen, Nat.sub_self]
          simp only [List.getElem?_cons_zero, clD, getO j _ (List.getElem?_eq_getElem (by omega : j < all.length))]
          rfl
        · rw [if_neg (by omega), List.getElem?_eq_none (by simp; omega)]
  have effI : ∀ i, i ≤ all.length → ∀ j, bit (F i).effM j = (decide (j < i) && effD T CT N ds all φm st0 j) := by
    intro i
    induction i with
    | zero => intro _ j; simp [F, atD, st0, bit]
    | succ i ih =>
      intro hi j
      obtain ⟨_, hs⟩ := facts i _ (List.getElem?_eq_getElem (by omega))
      rw [hs.eff]
      cases he : effD T CT N ds all φm st0 i with
      | false =>
        simp only [Bool.false_eq_true, if_false, Option.isSome_none]
        rw [ih (by omega) j]
        by_cases e : j = i
        · subst e; simp [he]
        · have : (j < i + 1) ↔ j < i := by omega
          simp [this]
      | true =>
        simp only [if_true, Option.isSome_some]
        rw [bit_orL, ih (by omega) j, bit_oneL, lenI i (by omega)]
        by_cases e : j = i
        · subst e; simp [he]
        · have : (j < i + 1) ↔ j < i := by omega
          have h2 : ¬ i = j := fun h => e h.symm
          simp [this, h2]
  have nfI : ∀ i, i ≤ all.length → ∀ j, bit (F i).nfM j = (decide (j < i) && !freeD T CT N ds all φm st0 j) := by
    intro i
    induction i with
    | zero => intro _ j; simp [F, atD, st0, bit]
    | succ i ih =>
      intro hi j
      obtain ⟨_, hs⟩ := facts i _ (List.getElem?_eq_getElem (by omega))
      have hsome : (if effD T CT N ds all φm st0 i = true then some (F (i + 1)).σ else none).isSome = effD T CT N ds all φm st0 i := by cases effD T CT N ds all φm st0 i <;> rfl
      have hfr : freeD T CT N ds all φm st0 i = !(isLoad (all[i]'(by omega)) || effD T CT N ds all φm st0 i) := by
        unfold freeD
        rw [getO i _ (List.getElem?_eq_getElem (by omega))]
        simp
      rw [hs.nf, hsome]
      cases he : (isLoad (all[i]'(by omega)) || effD T CT N ds all φm st0 i) with
      | false =>
        simp only [Bool.false_eq_true, if_false]
        rw [ih (by omega) j]
        by_cases e : j = i
        · subst e; simp [hfr, he]
        · have : (j < i + 1) ↔ j < i := by omega
          simp [this]
      | true =>
        simp only [if_true]
        rw [bit_orL, ih (by omega) j, bit_oneL, lenI i (by omega)]
        by_cases e : j = i
        · subst e; simp [hfr, he]
        · have : (j < i + 1) ↔ j < i := by omega
          have h2 : ¬ i = j := fun h => e h.symm
          simp [this, h2]
  have obsI : ∀ i, i ≤ all.length → AllP (F i).obs := by
    have back : ∀ k i, i + k = all.length → AllP (F i).obs := by
      intro k
      induction k with
      | zero => intro i hi; have : F i = sf := by rw [← hlast]; simp [F, ← hi]
                rw [this]; exact hobs
      | succ k ih =>
        intro i hi
        obtain ⟨_, hs⟩ := facts i _ (List.getElem?_eq_getElem (by omega))
        have := ih (i + 1) (by omega)
        rw [hs.obs, AllP.cat] at this
        exact this.2
    intro i hi
    exact back (all.length - i) i (by omega)
  have oaI : ∀ i o, all[i]? = some o → OA X N all o (frD T CT N ds all φm st0 i) (F i).σ (xD T CT N ds all φm st0 i) (F (i + 1)).σ := by
    intro i o ho
    have hi : i < all.length := (List.getElem?_eq_some_iff.1 ho).1
    obtain ⟨_, hs⟩ := facts i o ho
    have hob := obsI (i + 1) (by omega)
    rw [hs.obs, AllP.cat] at hob
    have := opS_ok (P := P) (N := N) hT hC hs.op hob.1
    rw [hs.σ]
    unfold frD
    rw [getO i o ho]
    exact this
  let idx : Nat → Option Nat := fun t => (List.range all.length).find? (fun i => decide ((all.getD i noOp).dst = some t))
  have idxSpec : ∀ t j, idx t = some j → ∃ o, all[j]? = some o ∧ o.dst = some t := by
    intro t j hj
    have h1 := List.find?_some hj
    have h2 : j < all.length := by simpa using List.mem_of_find?_eq_some hj
    refine ⟨all[j], List.getElem?_eq_getElem h2, ?_⟩
    simpa [List.getElem?_eq_getElem h2] using h1
  have idxOf : ∀ i o d, all[i]? = some o → o.dst = some d → idx d = some i := by
    intro i o d ho hd
    have hi : i < all.length := (List.getElem?_eq_some_iff.1 ho).1
    cases hx : idx d with
    | none =>
      have := List.find?_eq_none.1 hx i (by simpa using hi)
      simp [ho, hd] at this
    | some j =>
      obtain ⟨p, hp1, hp2⟩ := idxSpec d j hx
      rw [onceD_inj honce hp1 ho hp2 hd]
  have hasIdx : ∀ t, hasD t all = true ↔ ∃ j, idx t = some j := by
    intro t
    constructor
    · intro h
      obtain ⟨i, o, h1, h2⟩ := hasD_some h
      exact ⟨i, idxOf i o t h1 h2⟩
    · rintro ⟨j, hj⟩
      obtain ⟨o, h1, h2⟩ := idxSpec t j hj
      exact hasD_of h1 h2
  have backE2 : ∀ i o, all[i]? = some o → ∀ e ∈ o.after, bindsX e = true → e.on < i := by
    intro i o ho e he hb
    have hi : i < all.length := (List.getElem?_eq_some_iff.1 ho).1
    obtain ⟨_, hs⟩ := facts i o ho
    have := ltX_ok hs.lt e.on (mem_edgesX.2 ⟨e, by simpa using he, hb, rfl⟩)
    rw [lenI i (by omega)] at this
    exact this
  have backE := backE2
  have hd : Drawn X N ops φ (fun i => (F i).σ) (xD T CT N ds all φm st0) (frD T CT N ds all φm st0) (freeD T CT N ds all φm st0) (fun i => decide (i < all.length) && effD T CT N ds all φm st0 i) (fun i j => i < all.length ∧ bit (clD T CT N ds all φm st0 i) j = true) idx (selF (fun _ => true) 0 sf.pre (remO all φ)) := by
    refine ⟨hf, ?_, ?_, ?_, ?_, ?_, ?_, ?_, ?_, ?_, ?_⟩
    · intro i o ho; rw [hops] at ho; exact backE i o ho
    · intro i o d ho hd
      rw [hops] at ho
      obtain ⟨_, hs⟩ := facts i o ho
      exact ⟨idxOf i o d ho hd, dstOk_lt hs.dst d hd⟩
    · intro d i h
      obtain ⟨o, h1, h2⟩ := idxSpec d i h
      exact ⟨o, by rw [hops]; exact h1, h2⟩
    · intro i he
      rcases Nat.lt_or_ge i all.length with hi | hi
      · obtain ⟨_, hs⟩ := facts i _ (List.getElem?_eq_getElem hi)
        have : effD T CT N ds all φm st0 i = false := by simpa [hi] using he
        have hσ := hs.σ
        rw [this] at hσ
        simpa using hσ
      · have h0 : all.getD i noOp = noOp := by simp [List.getD_eq_getElem?_getD, List.getElem?_eq_none hi]
        show (F (i + 1)).σ = (F i).σ
        have : stepD T CT N ds all φm (F i) noOp = none ∨ ∃ s', stepD T CT N ds all φm (F i) noOp = some s' := by
          cases stepD T CT N ds all φm (F i) noOp with
          | none => exact .inl rfl
          | some s' => exact .inr ⟨s', rfl⟩
        show ((stepD T CT N ds all φm (F i) (all.getD i noOp)).getD (F i)).σ = (F i).σ
        rw [h0]
        rcases this with h | ⟨s', h⟩
        · rw [h]; rfl
        · rw [h]
          obtain ⟨x, σ1, ob, hs⟩ := stepD_ok h
          have hop := hs.op
          have : σ1 = none := by
            unfold opS at hop
            simp only [noOp, opQ, opN, deci, forceD_eq] at hop
            cases hop
            rfl
          rw [Option.getD_some, hs.σ, this]; rfl
    · intro i o ho _
      rw [hops] at ho
      have := oaI i o ho
      rw [← hall] at this ⊢
      exact this
    · intro i o ho hfree
      rw [hops] at ho
      have hi : i < all.length := (List.getElem?_eq_some_iff.1 ho).1
      have hfr2 : isLoad o = false ∧ effD T CT N ds all φm st0 i = false := by
        unfold freeD at hfree
        rw [getO i o ho] at hfree
        simpa using hfree
      refine ⟨by simp [hfr2.2], fun k => ?_⟩
      obtain ⟨ob, hs⟩ := facts i o ho
      have hop := hs.op
      rw [hfr2.2] at hop
      have hop2 := opS_free hfr2.1 (by simpa using hop) (F k).σ
      have hob := obsI (i + 1) (by omega)
      rw [hs.obs, AllP.cat] at hob
      have := opS_ok (P := P) (N := N) hT hC hop2 hob.1
      rw [hall]
      unfold frD
      rw [getO i o ho]
      exact this
    · intro L hL i j ⟨hi, hb⟩
      have hL' : ∀ i, i < all.length → L i → ∀ e, e ∈ edgesX (all.getD i noOp).after.toList → L e := by
        intro i hi hLi e he
        rw [getO i _ (List.getElem?_eq_getElem hi)] at he
        obtain ⟨e', h1, h2, rfl⟩ := mem_edgesX.1 he
        exact hL i all[i] (by rw [hops]; exact List.getElem?_eq_getElem hi) hLi e' (by simpa using h1) h2
      have key : ∀ i, i < all.length → ∀ j, bit (clD T CT N ds all φm st0 i) j = true → (∀ e ∈ edgesX (all.getD i noOp).after.toList, L e) → L j := by
        intro i
        induction i using Nat.strongRecOn with
        | _ i ih =>
          intro hi j hb hLe
          obtain ⟨e, he, h⟩ := clX_bit hb
          have hlt : e < i := by
            have he' := he
            rw [getO i _ (List.getElem?_eq_getElem hi)] at he'
            obtain ⟨e', h1, h2, rfl⟩ := mem_edgesX.1 he'
            exact backE i _ (List.getElem?_eq_getElem hi) e' (by simpa using h1) h2
          rcases h with rfl | ⟨c, hc, hcb⟩
          · exact hLe _ he
          · have := clsI i (by omega) e
            rw [if_pos hlt] at this
            have hc' : (F i).cls[e]? = some c := hc
            rw [hc'] at this
            cases this
            exact ih e hlt (by omega) j hcb (hL' e (by omega) (hLe e he))
      refine ⟨fun hLi => key i hi j hb (hL' i hi hLi), all[i], by rw [hops]; exact List.getElem?_eq_getElem hi, fun hpre => key i hi j hb ?_⟩
      intro e he
      rw [getO i _ (List.getElem?_eq_getElem hi)] at he
      obtain ⟨e', h1, h2, rfl⟩ := mem_edgesX.1 he
      exact hpre e' (by simpa using h1) h2
    · intro i f hi hf1 he hne hnf
      rw [hsz] at hi hf1
      have he' : effD T CT N ds all φm st0 f = true := by simpa [hf1] using he
      rcases Nat.lt_or_ge f i with hlt | hge
      · refine .inl ⟨hlt, hi, ?_⟩
        obtain ⟨_, hs⟩ := facts i _ (List.getElem?_eq_getElem hi)
        have hcl : clD T CT N ds all φm st0 i = clX (F i).cls (edgesX (all[i]).after.toList) := by unfold clD; rw [getO i _ (List.getElem?_eq_getElem hi)]
        rw [hcl]
        cases hei : effD T CT N ds all φm st0 i with
        | true =>
          have h1 := hs.turn (by rw [hei]; rfl)
          refine subM_ok h1 ?_
          rw [nfI i (by omega) f]
          have : freeD T CT N ds all φm st0 f = false := by unfold freeD; simp [he']
          simp [hlt, this]
        | false =>
          have hld : isLoad all[i] = true := by
            unfold freeD at hnf
            rw [getO i _ (List.getElem?_eq_getElem hi), hei] at hnf
            simpa using hnf
          have h1 := hs.load hld (by rw [hei]; rfl)
          refine subM_ok h1 ?_
          rw [effI i (by omega) f]
          simp [hlt, he']
      · have hlt : i < f := by omega
        refine .inr ⟨hlt, hf1, ?_⟩
        obtain ⟨_, hs⟩ := facts f _ (List.getElem?_eq_getElem hf1)
        have hcl : clD T CT N ds all φm st0 f = clX (F f).cls (edgesX (all[f]).after.toList) := by unfold clD; rw [getO f _ (List.getElem?_eq_getElem hf1)]
        rw [hcl]
        have h1 := hs.turn (by rw [he']; rfl)
        refine subM_ok h1 ?_
        rw [nfI f (by omega) i]
        simp [hlt, hnf]
    · intro i o ho t σ s v hv
      rw [hops] at ho
      have hi : i < all.length := (List.getElem?_eq_some_iff.1 ho).1
      unfold frD
      rw [getO i o ho]
      rcases look_selF (m := fun j => memX j (edgesX o.after.toList)) (φ := selB (F i).i all φm) (t := t) (l := (F i).pre) (i := 0) with ⟨j, x, h1, h2, h3⟩ | h3
      · have h3' : look (selF (fun j => memX j (edgesX o.after.toList)) 0 (atD T CT N ds all φm st0 i).pre (selB (atD T CT N ds all φm st0 i).i all φm)) t = x := h3
        rw [h3']
        have hp := preI i (by omega) j
        rw [h1] at hp
        have hji : j < i := by
          apply Nat.lt_of_not_le; intro hle; rw [if_neg (by omega)] at hp; cases hp
        rw [if_pos hji, List.getElem?_eq_getElem (by omega : j < all.length)] at hp
        simp only [Option.map_some, Option.some.injEq, Prod.mk.injEq] at hp
        obtain ⟨hp1, hp2⟩ := hp
        have hix := idxOf j _ t (List.getElem?_eq_getElem (by omega : j < all.length)) hp1.symm
        rw [hix] at hv
        simp only at hv
        rw [if_pos] at hv
        · rw [hp2]; exact hv
        · have hmem : j ∈ edgesX o.after.toList := by
            simp only [Nat.zero_add] at h2
            exact memI h2
          obtain ⟨e, a, b, c⟩ := mem_edgesX.1 hmem
          exact ⟨e, by simpa using a, b, c⟩
      · have h3' : look (selF (fun j => memX j (edgesX o.after.toList)) 0 (atD T CT N ds all φm st0 i).pre (selB (atD T CT N ds all φm st0 i).i all φm)) t = look (selB (F i).i all φm) t := h3
        rw [h3', lenI i (by omega), ← hφm, look_selB]
        split
        · trivial
        · rename_i hno
          cases hix : idx t with
          | some j =>
            have hD := (hasIdx t).2 ⟨j, hix⟩
            have hN : hasN i t all = false := by
              cases hn : hasN i t all with
              | false => rfl
              | true => exact absurd ⟨hD, hn⟩ hno
            obtain ⟨oj, hoj, hdj⟩ := idxSpec t j hix
            have hm := memI (hasN_false hN j oj hoj hdj)
            obtain ⟨e, he, hb, heq⟩ := mem_edgesX.1 hm
            rw [hix] at hv
            simp only at hv
            split at hv
            · -- both before and behind: it is not so
              rename_i hex
              obtain ⟨e2, he2, hb2, heq2⟩ := hex
              have b1 := backE2 i o ho e2 he2 hb2
              have b2 := backE2 j oj hoj e (by simpa using he) hb
              omega
            · rw [if_pos ⟨oj, by rw [hops]; exact hoj, e, by simpa using he, hb, heq⟩] at hv
              exact hv
          | none => simpa [hix] using hv
    · intro t σ s v hv
      have hF : F all.length = sf := hlast
      rcases look_selF (m := fun _ => true) (φ := remO all φ) (t := t) (l := sf.pre) (i := 0) with ⟨j, x, h1, _, h3⟩ | h3
      · rw [h3]
        have hp := preI all.length (Nat.le_refl _) j
        rw [hF, h1] at hp
        have hji : j < all.length := by
          apply Nat.lt_of_not_le; intro hle; rw [if_neg (by omega)] at hp; cases hp
        rw [if_pos hji, List.getElem?_eq_getElem hji] at hp
        simp only [Option.map_some, Option.some.injEq, Prod.mk.injEq] at hp
        obtain ⟨hp1, hp2⟩ := hp
        rw [idxOf j _ t (List.getElem?_eq_getElem hji) hp1.symm] at hv
        rw [hp2]; exact hv
      · rw [h3, look_remO]
        split
        · trivial
        · rename_i hno
          cases hix : idx t with
          | some j => exact absurd ((hasIdx t).2 ⟨j, hix⟩) hno
          | none => simpa [hix] using hv
  intro s a hfr hh b kk cs SS hb hQQ
  have hFn : F ops.size = sf := by rw [hsz]; exact hlast
  refine .next rfl fun s1 hr1 => ?_
  have hr1 := X.relyC hr1
  have hh1 := hh.rely hr1
  have hfr1 := hfr.rely hr1 hh
  have st1 : Step σ s1 σ { s1 with w := { s1.w with drawn := s1.w.drawn + 1 } } := Step.same rfl rfl rfl rfl
  have hh2 : HeapOK σ { s1 with w := { s1.w with drawn := s1.w.drawn + 1 } } := hh1.same rfl
  have stW := hr1.stepW.trans (st1.toW hh1)
  refine ⟨_, { s1 with w := { s1.w with drawn := s1.w.drawn + 1 } }, #[], sg_region_draw, ⟨⟨σ, σ, hh1, hh2, st1⟩, .nil⟩, ?_⟩
  simp only [Region.schedule, hf, Bool.true_or, if_true]
  refine hd.arr hb (s0 := { s1 with w := { s1.w with drawn := s1.w.drawn + 1 } }) (fun s2 a2 f2 h2 st2 => ?_) ops.size _ (by simp) ?_ ?_ 0 _ a (by omega) ?_ ?_ hh2 (.refl _ _) _
  · simp only [hFn] at f2 h2 st2
    exact hQQ .normal _ _ s2 a2 hQ f2 h2 (stW.trans st2)
  · simp
  · intro i o ho hi
    simp [Array.getD_eq_getD_getElem?, Array.getElem?_replicate] at hi
    split at hi <;> simp at hi
  · intro f hf1 hf2
    simp [Array.getD_eq_getD_getElem?, Array.getElem?_replicate]
    split <;> simp
  · have hfr2 := hfr1.mono (st1.toW hh1) hh1.len
    refine ⟨hfr2.size, hfr2.defers, fun t => ?_⟩
    unfold viewL
    cases hix : idx t with
    | none => exact hfr2.slot t
    | some j =>
      simp only
      rw [if_neg]
      · exact hfr2.slot t
      · simp [Array.getD_eq_getD_getElem?, Array.getElem?_replicate]
        split <;> simp

end
end Go.AM

/- The evaluator of code, in full. -/
namespace Go.AM

section
variable {P : Program} {X : Cx P} {N : Nat} {Qf : Post} {K : List It} {φ : Fr} {σ : List Box}

theorem AK.draw {T : List (Nat × TI)} {CT : List (Nat × CtF)} (hf : P.follows Departure.mixedOrders = true) (hT : TOK P T) (hC : COK X CT) {ds : List (Nat × Bool)} {ops : Array Oper} {φ' : Fr} {σ' : List Box} {obs : List Prop} {id : Nat}
    (h : drawE T CT N ds ops.toList φ σ = some (φ', σ', obs)) (hobs : AllP obs) (k : AK X N Qf K .normal φ' σ') : AK X N Qf (.code (.region id ops true) :: K) .normal φ σ :=
  drawE_ok hf hT hC h hobs k id

end

/-- One step of what is left to do. -/
def step2 (T : List (Nat × TI)) (CT : List (Nat × CtF)) (ds : List (Nat × Bool)) (N : Nat) (K : List It) (φ : Fr) (σ : List Box) : Option (List It × Fr × List Box × List Prop) :=
  match K with
  | [] => none
  | .blk _ :: K => some (K, φ, σ, [])
  | .ops _ [] :: K => some (K, φ, σ, [])
  | .ops all (o :: rest) :: K => match dstOk N o.dst with
    | true => match opS T CT ds all φ σ o with
      | some (x, none, obs) => forceL (putD o.dst x φ) fun φ => some (.ops all rest :: K, φ, σ, obs)
      | some (x, some σ', obs) => forceL (putD o.dst x φ) fun φ => some (.ops all rest :: K, φ, σ', obs)
      | none => none
    | false => none
  | .code c :: K => match c with
    | .skip => some (K, φ, σ, [])
    | .seq x y => some (.code x :: .code y :: K, φ, σ, [])
    | .block id c => some (.code c :: .blk id :: K, φ, σ, [])
    | .region id ops d => match lookB ds (id + 1000000) with
      | some _ => none
      | none => match d with
        | false => some (.ops ops.toList ops.toList :: K, φ, σ, [])
        | true => match drawE T CT N ds ops.toList φ σ with
          | some (φ', σ', obs) => some (K, φ', σ', obs)
          | none => none
    | .exit id => match exitK id K with
      | some K' => some (K', φ, σ, [])
      | none => none
    | .cond (.tmp t) x y => match look φ t with
      | .e (.one (.c (.bool true))) => some (.code x :: K, φ, σ, [])
      | .e (.one (.c (.bool false))) => some (.code y :: K, φ, σ, [])
      | _ => none
    | _ => none

theorem step2_ok {P : Program} {X : Cx P} (hf : P.follows Departure.mixedOrders = true) {T : List (Nat × TI)} (hT : TOK P T) {CT : List (Nat × CtF)} (hC : COK X CT) {ds : List (Nat × Bool)} {N : Nat} {Qf : Post} {K K' : List It} {φ φ' : Fr} {σ σ' : List Box} {obs : List Prop}
    (h : step2 T CT ds N K φ σ = some (K', φ', σ', obs)) (ho : AllP obs) (k : AK X N Qf K' .normal φ' σ') : AK X N Qf K .normal φ σ := by
  unfold step2 at h
  split at h
  · cases h
  · cases h; exact AK.blkEnd k
  · cases h; exact AK.opsEnd k
  · rename_i all o rest K0
    cases hd : dstOk N o.dst with
    | false => simp [hd] at h
    | true =>
      simp only [hd] at h
      have hN := dstOk_lt hd
      split at h
      · rename_i x obs1 he
        rw [forceL_eq] at h
        cases h
        exact AOps.ofOA (opS_ok hT hC he ho) hN k
      · rename_i x σ1 obs1 he
        rw [forceL_eq] at h
        cases h
        exact AOps.ofOA (opS_ok hT hC he ho) hN k
      · cases h
  · rename_i c K0
    split at h
    · cases h; exact AK.skip k
    · cases h; exact AK.seq k
    · cases h; exact AK.block k
    · split at h
      · cases h
      · split at h
        · cases h; exact AK.region k
        · split at h
          · rename_i φ1 σ1 obs1 hd
            cases h
            exact AK.draw hf hT hC hd ho k
          · cases h
    · split at h
      · rename_i K1 hk; cases h; exact AK.exit hk k
      · cases h
    · rename_i t x y
      split at h
      · rename_i hl; cases h; exact AK.cond rfl hl (fun _ => k) (fun e => by cases e)
      · rename_i hl; cases h; exact AK.cond rfl hl (fun e => by cases e) (fun _ => k)
      · cases h
    · cases h

/-- The evaluator. -/
def run2 (T : List (Nat × TI)) (CT : List (Nat × CtF)) (ds : List (Nat × Bool)) (N : Nat) : Nat → List It → Fr → List Box → List Prop → Option (List It × Fr × List Box × List Prop)
  | 0, K, φ, σ, obs => forceL obs fun obs => some (K, φ, σ, obs)
  | n + 1, K, φ, σ, obs => match step2 T CT ds N K φ σ with
    | some (K', φ', σ', o) => run2 T CT ds N n K' φ' σ' (catP o obs)
    | none => forceL obs fun obs => some (K, φ, σ, obs)

theorem run2_ok {P : Program} {X : Cx P} (hf : P.follows Departure.mixedOrders = true) {T : List (Nat × TI)} (hT : TOK P T) {CT : List (Nat × CtF)} (hC : COK X CT) {ds : List (Nat × Bool)} {N : Nat} {Qf : Post} : ∀ {n : Nat} {K K' : List It} {φ φ' : Fr} {σ σ' : List Box} {obs obs' : List Prop},
    run2 T CT ds N n K φ σ obs = some (K', φ', σ', obs') → AllP obs' → AK X N Qf K' .normal φ' σ' → AK X N Qf K .normal φ σ ∧ AllP obs
  | 0, K, K', φ, φ', σ, σ', obs, obs', h, ho, k => by
    simp only [run2, forceL_eq] at h
    cases h
    exact ⟨k, ho⟩
  | n + 1, K, K', φ, φ', σ, σ', obs, obs', h, ho, k => by
    simp only [run2] at h
    cases hs : step2 T CT ds N K φ σ with
    | none =>
      simp only [hs, forceL_eq] at h
      cases h
      exact ⟨k, ho⟩
    | some r =>
      obtain ⟨K1, φ1, σ1, o1⟩ := r
      simp only [hs] at h
      obtain ⟨h1, h2⟩ := run2_ok hf hT hC h ho k
      rw [AllP.cat] at h2
      exact ⟨step2_ok hf hT hC hs h2.1 h1, h2.2⟩

/-- Run as far as reckoning goes. -/
theorem AK.run2 {P : Program} {X : Cx P} (hf : P.follows Departure.mixedOrders = true) {T : List (Nat × TI)} (hT : TOK P T) {CT : List (Nat × CtF)} (hC : COK X CT) (ds : List (Nat × Bool)) {N : Nat} {Qf : Post} (n : Nat) {K K' : List It} {φ φ' : Fr} {σ σ' : List Box} {obs' : List Prop}
    (h : AM.run2 T CT ds N n K φ σ [] = some (K', φ', σ', obs')) (ho : AllP obs') (k : AK X N Qf K' .normal φ' σ') : AK X N Qf K .normal φ σ := (run2_ok hf hT hC h ho k).1

end Go.AM

/- Rules for use. -/
namespace Go.AM

section
variable {P : Program} {X : Cx P} {N : Nat} {Qf : Post} {K : List It} {φ : Fr} {σ : List Box}

def retE (rs : List ResultVar) (ks : List Nat) (φ : Fr) (res : D) : Option (List Prop) :=
  match resD φ rs with
  | some ds => match joinD ds with
    | some d => match inD ks.length res with
      | true => leD d (renD ks res)
      | false => none
    | none => none
  | none => none

theorem AK.retB {fn : Func} {n0 : Nat} {res : D} {σ' : List Box} (ks : List Nat) {ps : List Prop} (h : retE fn.results.toList ks φ res = some ps) (hp : AllP ps) (hs : sel ks σ = some σ') (hpl : plainR σ' = true) (hn : nodupX ks = true) (hk : ∀ j, j < n0 → ks[j]? = some j) :
    AK X N (RetQ fn n0 res σ') (.code .ret :: K) .normal φ σ := by
  refine AK.ret ⟨.inl rfl, ks, ?_⟩
  unfold retE at h
  split at h
  · rename_i ds hds
    split at h
    · rename_i d hd
      split at h
      · rename_i hin
        exact ⟨ds, d, ps, hds, hd, h, hp, hin, hs, hpl, hn, hk⟩
      · cases h
    · cases h
  · cases h

/-- The end of a function that was handed no box and hands none back. -/
theorem AK.ret0 {fn : Func} {res : D} {ps : List Prop} (h : retE fn.results.toList [] φ res = some ps) (hp : AllP ps) : AK X N (RetQ fn 0 res []) (.code .ret :: K) .normal φ σ :=
  AK.retB [] h hp rfl rfl rfl (fun j h => by omega)

theorem RetQ.zero {fn : Func} {res : D} {ps : List Prop} (h : retE fn.results.toList [] φ res = some ps) (hp : AllP ps) : RetQ fn 0 res [] .ret φ σ := by
  refine ⟨.inl rfl, [], ?_⟩
  unfold retE at h
  split at h
  · rename_i ds hds
    split at h
    · rename_i d hd
      split at h
      · rename_i hin
        exact ⟨ds, d, ps, hds, hd, h, hp, hin, rfl, rfl, rfl, fun j h => by omega⟩
      · cases h
    · cases h
  · cases h

/-- A round is left. -/
theorem AK.leave {id : Nat} {φ : Fr} {σ : List Box} {A : Fr → List Box → Prop} {Qr : Post} {K K1 K2 : List It} (h1 : exitK id K = none) (h2 : exitK id K1 = some K2) (k : AK X N Qr K2 .normal φ σ) :
    AK X N (fun e φ' σ' => match e with
      | .normal => A φ' σ'
      | e => AK X N Qr K1 e φ' σ') (.code (.exit id) :: K) .normal φ σ := by
  have key : ∀ {K : List It}, exitK id K = none → ∀ {Q : Post}, Q (.exit id) φ σ → AK X N Q K (.exit id) φ σ := by
    intro K
    induction K with
    | nil => intro _ Q h; exact h
    | cons i r ih =>
      intro hk Q h
      cases i with
      | code c => exact ih (by simpa [exitK] using hk) h
      | ops a b => exact ih (by simpa [exitK] using hk) h
      | blk j =>
        simp only [exitK] at hk
        cases hb : Nat.beq id j with
        | true => simp [hb] at hk
        | false =>
          simp [hb] at hk
          have hne : id ≠ j := fun e => by rw [e, Nat.beq_refl] at hb; cases hb
          simp only [AK, hne, if_false]
          exact ih hk h
  exact AW.exit (key h1 (AK.toExit h2 k))

/-- The function is left in a round. -/
theorem AK.retIn {φ : Fr} {σ : List Box} {A : Fr → List Box → Prop} {Qr : Post} {K K1 : List It} (k : Qr .ret φ σ) :
    AK X N (fun e φ' σ' => match e with
      | .normal => A φ' σ'
      | e => AK X N Qr K1 e φ' σ') (.code .ret :: K) .normal φ σ := AK.ret (AK.toRet (Qf := Qr) k)

/-- The end of a round. -/
theorem AK.again {S : Type} {I : S → Prop} {fr : S → Fr} {st : S → List Box} {μ : S → Nat} {x : S} {Qr : Post} (y : S) {ps : List Prop} (hle : leFr φ (fr y) = some ps) (hp : AllP ps) (hI : I y) (hμ : μ y < μ x) (hst : σ = st y) :
    AK X N (fun e φ' σ' => match e with
      | .normal => ∃ y, I y ∧ μ y < μ x ∧ FrLe φ' (fr y) ∧ σ' = st y
      | e => Qr e φ' σ') [] .normal φ σ := ⟨y, hI, hμ, leFr_ok hle hp, hst⟩

/-- A loop whose boxes stay. -/
theorem AK.loopE {S : Type} {c : Code} (I : S → Prop) (fr : S → Fr) (st : S → List Box) (μ : S → Nat) (x : S) {ps : List Prop} (hle : leFr φ (fr x) = some ps) (hp : AllP ps) (h0 : I x) (hst : st x = σ)
    (round : ∀ x, I x → AK X N (fun e φ' σ' => match e with
      | .normal => ∃ y, I y ∧ μ y < μ x ∧ FrLe φ' (fr y) ∧ σ' = st y
      | e => AK X N Qf K e φ' σ') [.code c] .normal (fr x) (st x)) : AK X N Qf (.code (.loop c) :: K) .normal φ σ :=
  AK.loop I fr st μ x h0 (leFr_ok hle hp) hst round

/-- There are values like these. -/
def Fits (args : List D) (σ : List Box) : Prop := ∃ s vs, RdDs σ s vs args ∧ HeapOK σ s

theorem Fits.at {args : List D} {σ : List Box} (h : Fits args σ) {j : Nat} {d : D} (hj : args[j]? = some d) : ∃ s v, RdD σ s v d := by
  obtain ⟨s, vs, hr, _⟩ := h
  obtain ⟨_, hg⟩ := RdDs.get hr
  have := hg j
  rw [hj] at this
  exact ⟨s, _, this⟩

theorem Fits.str {args : List D} {σ : List Box} (h : Fits args σ) (j : Nat) {l : List UInt8} (hj : args[j]? = some (.e (.one (.c (.str l))))) : l.length ≤ 9223372036854775807 := by
  obtain ⟨s, v, hr⟩ := h.at hj
  cases rdC hr with
  | str h hl => exact hl

theorem Fits.int {args : List D} {σ : List Box} (h : Fits args σ) (j : Nat) {k : IntKind} {n : Int} (hj : args[j]? = some (.e (.one (.c (.int k n))))) : inR k n := by
  obtain ⟨s, v, hr⟩ := h.at hj
  cases rdC hr with
  | int h => exact h

theorem Fits.sl {args : List D} {σ : List Box} (h : Fits args σ) (j : Nat) {t : Bool} {k n : Nat} {es : Nat → List C} (hj : args[j]? = some (.e (.one (.c (.sl t k n es))))) : n ≤ 9223372036854775807 := by
  obtain ⟨s, v, hr⟩ := h.at hj
  cases rdC hr with
  | sl b off f hcap hb => omega

/-- A function by its body. -/
theorem Ev.body {f : FuncId} {fn : Func} {c : Code} {args : List D} {σ σ' : List Box} {res : D} (hf : P.funcs[f]? = some fn) (hnum : (fn.name == "runtime.NumGoroutine") = false) (hb : fn.body = some c) (hlen : Nat.ble args.length fn.ntmps = true)
    (h : Fits args σ → AK X fn.ntmps (RetQ fn σ.length res σ') [.code c] .normal (argFr 0 args) σ) : Ev X f args σ res σ' := by
  refine ⟨⟨fn, hf, hnum, by rw [hb]; rfl⟩, fun s vs hr hh => ?_⟩
  exact (Ev.intro hf hnum hb (Nat.le_of_ble_eq_true hlen) (AK.of_code (h ⟨s, vs, hr, hh⟩))).2 s vs hr hh

/-- Ways that meet again. -/
theorem AK.join {c : Code} {K' : List It} (φ' : Fr) (σ' : List Box) (h : (∀ (φ'' : Fr) (ps : List Prop), leFr φ'' φ' = some ps → AllP ps → AK X N Qf (.code c :: K') .normal φ'' σ') → AK X N Qf K .normal φ σ)
    (k : AK X N Qf (.code c :: K') .normal φ' σ') : AK X N Qf K .normal φ σ :=
  h fun _ _ h1 h2 => AW.le k (leFr_ok h1 h2)

end
end Go.AM

namespace Go.AM
open Go.Proofs
variable {X : Cx Try.prog}
theorem info_of {P : Program} {t : TypeId} {i : TypeInfo} (h : P.types[t]? = some i) : P.info? t = some i := by
  unfold Tables.info?
  rw [if_pos (Array.getElem?_eq_some_iff.1 h).1]; exact h
theorem TOK.nil {P : Program} : TOK P [] := fun _ _ h => by cases h
theorem TOK.cons {P : Program} {t : TypeId} {i : TI} {T : List (Nat × TI)} (h : TGood P t i) (r : TOK P T) : TOK P ((t, i) :: T) := by
  intro t2 i2 h2
  simp only [lookT] at h2
  cases hb : Nat.beq t t2 with
  | true => rw [hb] at h2; cases h2; rw [← Nat.eq_of_beq_eq_true hb]; exact h
  | false => rw [hb] at h2; exact r t2 i2 h2
namespace R1
def i1 : TI := ⟨1, 8, false, TypeDesc.func #[] #[] false, [.nilf], []⟩
theorem g1 : TGood Try.prog 1 i1 := ⟨Try.underlying1, rfl, ⟨Try.t1, _, info_of Try.type1, rfl, rfl, rfl, rfl, ⟨#[], rfl⟩, rfl⟩, fun h => absurd rfl h⟩
def i2 : TI := ⟨1, 8, false, TypeDesc.int IntKind.i64, [.int .i64 0], []⟩
theorem g2 : TGood Try.prog 2 i2 := ⟨Try.underlying2, rfl, ⟨Try.t2, _, info_of Try.type2, rfl, rfl, rfl, rfl, ⟨#[], rfl⟩, rfl⟩, fun h => absurd rfl h⟩
def i3 : TI := ⟨1, 8, false, TypeDesc.int IntKind.i64, [.int .i64 0], []⟩
theorem g3 : TGood Try.prog 3 i3 := ⟨Try.underlying3, rfl, ⟨Try.t3, _, info_of Try.type3, rfl, rfl, rfl, rfl, ⟨#[], rfl⟩, rfl⟩, fun h => absurd rfl h⟩
def i4 : TI := ⟨1, 1, false, TypeDesc.bool, [.bool false], []⟩
theorem g4 : TGood Try.prog 4 i4 := ⟨Try.underlying4, rfl, ⟨Try.t4, _, info_of Try.type4, rfl, rfl, rfl, rfl, ⟨#[], rfl⟩, rfl⟩, fun h => absurd rfl h⟩
def i5 : TI := ⟨1, 1, false, TypeDesc.int IntKind.u8, [.int .u8 0], []⟩
theorem g5 : TGood Try.prog 5 i5 := ⟨Try.underlying5, rfl, ⟨Try.t5, _, info_of Try.type5, rfl, rfl, rfl, rfl, ⟨#[], rfl⟩, rfl⟩, fun h => absurd rfl h⟩
def i6 : TI := ⟨1, 1, false, TypeDesc.int IntKind.u8, [.int .u8 0], []⟩
theorem g6 : TGood Try.prog 6 i6 := ⟨Try.underlying6, rfl, ⟨Try.t6, _, info_of Try.type6, rfl, rfl, rfl, rfl, ⟨#[], rfl⟩, rfl⟩, fun h => absurd rfl h⟩
def i7 : TI := ⟨4, 24, true, TypeDesc.struct #[{ name := "x", type := 2, offset := 0, embedded := false, tag := "", pkgPath := "runtime", byteOffset := 0 }, { name := "y", type := 3, offset := 1, embedded := false, tag := "", pkgPath := "runtime", byteOffset := 8 }, { name := "signed", type := 4, offset := 2, embedded := false, tag := "", pkgPath := "runtime", byteOffset := 16 }, { name := "code", type := 6, offset := 3, embedded := false, tag := "", pkgPath := "runtime", byteOffset := 17 }], [.int .i64 0, .int .i64 0, .bool false, .int .u8 0], []⟩
theorem g7 : TGood Try.prog 7 i7 := ⟨Try.underlying7, rfl, ⟨Try.t7, _, info_of Try.type7, rfl, rfl, rfl, rfl, ⟨_, rfl⟩, rfl⟩, fun h => absurd rfl h⟩
def i8 : TI := ⟨4, 24, true, TypeDesc.struct #[{ name := "x", type := 2, offset := 0, embedded := false, tag := "", pkgPath := "runtime", byteOffset := 0 }, { name := "y", type := 3, offset := 1, embedded := false, tag := "", pkgPath := "runtime", byteOffset := 8 }, { name := "signed", type := 4, offset := 2, embedded := false, tag := "", pkgPath := "runtime", byteOffset := 16 }, { name := "code", type := 6, offset := 3, embedded := false, tag := "", pkgPath := "runtime", byteOffset := 17 }], [.int .i64 0, .int .i64 0, .bool false, .int .u8 0], []⟩
theorem g8 : TGood Try.prog 8 i8 := ⟨Try.underlying8, rfl, ⟨Try.t8, _, info_of Try.type8, rfl, rfl, rfl, rfl, ⟨_, rfl⟩, rfl⟩, fun h => absurd rfl h⟩
def i9 : TI := ⟨1, 16, false, TypeDesc.string, [.str []], []⟩
theorem g9 : TGood Try.prog 9 i9 := ⟨Try.underlying9, rfl, ⟨Try.t9, _, info_of Try.type9, rfl, rfl, rfl, rfl, ⟨#[], rfl⟩, rfl⟩, fun h => absurd rfl h⟩
def i10 : TI := ⟨1, 16, false, TypeDesc.string, [.str []], []⟩
theorem g10 : TGood Try.prog 10 i10 := ⟨Try.underlying10, rfl, ⟨Try.t10, _, info_of Try.type10, rfl, rfl, rfl, rfl, ⟨#[], rfl⟩, rfl⟩, fun h => absurd rfl h⟩
def i11 : TI := ⟨1, 16, false, TypeDesc.string, [.str []], []⟩
theorem g11 : TGood Try.prog 11 i11 := ⟨Try.underlying11, rfl, ⟨Try.t11, _, info_of Try.type11, rfl, rfl, rfl, rfl, ⟨#[], rfl⟩, rfl⟩, fun h => absurd rfl h⟩
def i12 : TI := ⟨1, 8, false, TypeDesc.int IntKind.u64, [.int .u64 0], []⟩
theorem g12 : TGood Try.prog 12 i12 := ⟨Try.underlying12, rfl, ⟨Try.t12, _, info_of Try.type12, rfl, rfl, rfl, rfl, ⟨#[], rfl⟩, rfl⟩, fun h => absurd rfl h⟩
def i13 : TI := ⟨2, 24, true, TypeDesc.struct #[{ name := "msg", type := 9, offset := 0, embedded := false, tag := "", pkgPath := "runtime", byteOffset := 0 }, { name := "addr", type := 12, offset := 1, embedded := false, tag := "", pkgPath := "runtime", byteOffset := 16 }], [.str [], .int .u64 0], []⟩
theorem g13 : TGood Try.prog 13 i13 := ⟨Try.underlying13, rfl, ⟨Try.t13, _, info_of Try.type13, rfl, rfl, rfl, rfl, ⟨_, rfl⟩, rfl⟩, fun h => absurd rfl h⟩
def i14 : TI := ⟨2, 24, true, TypeDesc.struct #[{ name := "msg", type := 9, offset := 0, embedded := false, tag := "", pkgPath := "runtime", byteOffset := 0 }, { name := "addr", type := 12, offset := 1, embedded := false, tag := "", pkgPath := "runtime", byteOffset := 16 }], [.str [], .int .u64 0], []⟩
theorem g14 : TGood Try.prog 14 i14 := ⟨Try.underlying14, rfl, ⟨Try.t14, _, info_of Try.type14, rfl, rfl, rfl, rfl, ⟨_, rfl⟩, rfl⟩, fun h => absurd rfl h⟩
def i15 : TI := ⟨1, 8, false, TypeDesc.pointer 142, [.nilp], []⟩
theorem g15 : TGood Try.prog 15 i15 := ⟨Try.underlying15, rfl, ⟨Try.t15, _, info_of Try.type15, rfl, rfl, rfl, rfl, ⟨#[], rfl⟩, rfl⟩, fun h => absurd rfl h⟩
def i16 : TI := ⟨1, 8, false, TypeDesc.pointer 145, [.nilp], []⟩
theorem g16 : TGood Try.prog 16 i16 := ⟨Try.underlying16, rfl, ⟨Try.t16, _, info_of Try.type16, rfl, rfl, rfl, rfl, ⟨#[], rfl⟩, rfl⟩, fun h => absurd rfl h⟩
def i17 : TI := ⟨1, 8, false, TypeDesc.pointer 154, [.nilp], []⟩
theorem g17 : TGood Try.prog 17 i17 := ⟨Try.underlying17, rfl, ⟨Try.t17, _, info_of Try.type17, rfl, rfl, rfl, rfl, ⟨#[], rfl⟩, rfl⟩, fun h => absurd rfl h⟩
def i18 : TI := ⟨1, 8, true, TypeDesc.struct #[{ name := "typ", type := 17, offset := 0, embedded := false, tag := "", pkgPath := "internal/runtime/maps", byteOffset := 0 }], [.nilp], []⟩
theorem g18 : TGood Try.prog 18 i18 := ⟨Try.underlying18, rfl, ⟨Try.t18, _, info_of Try.type18, rfl, rfl, rfl, rfl, ⟨_, rfl⟩, rfl⟩, fun h => absurd rfl h⟩
def i19 : TI := ⟨1, 8, true, TypeDesc.struct #[{ name := "typ", type := 17, offset := 0, embedded := false, tag := "", pkgPath := "internal/runtime/maps", byteOffset := 0 }], [.nilp], []⟩
theorem g19 : TGood Try.prog 19 i19 := ⟨Try.underlying19, rfl, ⟨Try.t19, _, info_of Try.type19, rfl, rfl, rfl, rfl, ⟨_, rfl⟩, rfl⟩, fun h => absurd rfl h⟩
def i20 : TI := ⟨1, 16, false, TypeDesc.interface #[], [.nili], []⟩
theorem g20 : TGood Try.prog 20 i20 := ⟨Try.underlying20, rfl, ⟨Try.t20, _, info_of Try.type20, rfl, rfl, rfl, rfl, ⟨#[], rfl⟩, rfl⟩, fun h => absurd rfl h⟩
def i21 : TI := ⟨1, 4, false, TypeDesc.int IntKind.i32, [.int .i32 0], []⟩
theorem g21 : TGood Try.prog 21 i21 := ⟨Try.underlying21, rfl, ⟨Try.t21, _, info_of Try.type21, rfl, rfl, rfl, rfl, ⟨#[], rfl⟩, rfl⟩, fun h => absurd rfl h⟩
def i22 : TI := ⟨1, 24, false, TypeDesc.slice 5, [.sl true 0 0 (fun _ => [])], []⟩
theorem g22 : TGood Try.prog 22 i22 := ⟨Try.underlying22, rfl, ⟨Try.t22, _, info_of Try.type22, rfl, rfl, rfl, rfl, ⟨#[], rfl⟩, rfl⟩, fun h => absurd rfl h⟩
def i23 : TI := ⟨1, 24, false, TypeDesc.slice 59, [.sl true 0 0 (fun _ => [])], []⟩
theorem g23 : TGood Try.prog 23 i23 := ⟨Try.underlying23, rfl, ⟨Try.t23, _, info_of Try.type23, rfl, rfl, rfl, rfl, ⟨#[], rfl⟩, rfl⟩, fun h => absurd rfl h⟩
def i25 : TI := ⟨1, 8, false, TypeDesc.func #[22] #[23, 9] false, [.nilf], []⟩
theorem g25 : TGood Try.prog 25 i25 := ⟨Try.underlying25, rfl, ⟨Try.t25, _, info_of Try.type25, rfl, rfl, rfl, rfl, ⟨#[], rfl⟩, rfl⟩, fun h => absurd rfl h⟩
def i27 : TI := ⟨1, 8, false, TypeDesc.func #[23, 9] #[9, 4] false, [.nilf], []⟩
theorem g27 : TGood Try.prog 27 i27 := ⟨Try.underlying27, rfl, ⟨Try.t27, _, info_of Try.type27, rfl, rfl, rfl, rfl, ⟨#[], rfl⟩, rfl⟩, fun h => absurd rfl h⟩
def i28 : TI := ⟨1, 8, false, TypeDesc.func #[23] #[4] false, [.nilf], []⟩
theorem g28 : TGood Try.prog 28 i28 := ⟨Try.underlying28, rfl, ⟨Try.t28, _, info_of Try.type28, rfl, rfl, rfl, rfl, ⟨#[], rfl⟩, rfl⟩, fun h => absurd rfl h⟩
def i29 : TI := ⟨1, 8, false, TypeDesc.func #[9] #[4] false, [.nilf], []⟩
theorem g29 : TGood Try.prog 29 i29 := ⟨Try.underlying29, rfl, ⟨Try.t29, _, info_of Try.type29, rfl, rfl, rfl, rfl, ⟨#[], rfl⟩, rfl⟩, fun h => absurd rfl h⟩
def i31 : TI := ⟨1, 8, false, TypeDesc.func #[23, 34] #[23, 4] false, [.nilf], []⟩
theorem g31 : TGood Try.prog 31 i31 := ⟨Try.underlying31, rfl, ⟨Try.t31, _, info_of Try.type31, rfl, rfl, rfl, rfl, ⟨#[], rfl⟩, rfl⟩, fun h => absurd rfl h⟩
def i32 : TI := ⟨3, 40, true, TypeDesc.struct #[{ name := "Path", type := 9, offset := 0, embedded := false, tag := "", pkgPath := "", byteOffset := 0 }, { name := "Kind", type := 3, offset := 1, embedded := false, tag := "", pkgPath := "", byteOffset := 16 }, { name := "Text", type := 9, offset := 2, embedded := false, tag := "", pkgPath := "", byteOffset := 24 }], [.str [], .int .i64 0, .str []], [TypeDesc.string, TypeDesc.int IntKind.i64, TypeDesc.string]⟩
theorem g32 : TGood Try.prog 32 i32 := ⟨Try.underlying32, rfl, ⟨Try.t32, _, info_of Try.type32, rfl, rfl, rfl, rfl, ⟨_, rfl⟩, rfl⟩, fun _ => flat_eqs (fs := [{ name := "Path", type := 9, offset := 0, embedded := false, tag := "", pkgPath := "", byteOffset := 0 }, { name := "Kind", type := 3, offset := 1, embedded := false, tag := "", pkgPath := "", byteOffset := 16 }, { name := "Text", type := 9, offset := 2, embedded := false, tag := "", pkgPath := "", byteOffset := 24 }]) Try.underlying32 (by decide +kernel) Try.eqGuardType32 ⟨by decide, rfl, Try.underlying9, trivial, by decide, rfl, Try.underlying3, trivial, by decide, rfl, Try.underlying9, trivial, trivial⟩⟩
def i33 : TI := ⟨3, 40, true, TypeDesc.struct #[{ name := "Path", type := 9, offset := 0, embedded := false, tag := "", pkgPath := "", byteOffset := 0 }, { name := "Kind", type := 3, offset := 1, embedded := false, tag := "", pkgPath := "", byteOffset := 16 }, { name := "Text", type := 9, offset := 2, embedded := false, tag := "", pkgPath := "", byteOffset := 24 }], [.str [], .int .i64 0, .str []], [TypeDesc.string, TypeDesc.int IntKind.i64, TypeDesc.string]⟩
theorem g33 : TGood Try.prog 33 i33 := ⟨Try.underlying33, rfl, ⟨Try.t33, _, info_of Try.type33, rfl, rfl, rfl, rfl, ⟨_, rfl⟩, rfl⟩, fun _ => flat_eqs (fs := [{ name := "Path", type := 9, offset := 0, embedded := false, tag := "", pkgPath := "", byteOffset := 0 }, { name := "Kind", type := 3, offset := 1, embedded := false, tag := "", pkgPath := "", byteOffset := 16 }, { name := "Text", type := 9, offset := 2, embedded := false, tag := "", pkgPath := "", byteOffset := 24 }]) Try.underlying33 (by decide +kernel) Try.eqGuardType33 ⟨by decide, rfl, Try.underlying9, trivial, by decide, rfl, Try.underlying3, trivial, by decide, rfl, Try.underlying9, trivial, trivial⟩⟩
def i34 : TI := ⟨1, 24, false, TypeDesc.slice 33, [.sl true 0 0 (fun _ => [])], []⟩
theorem g34 : TGood Try.prog 34 i34 := ⟨Try.underlying34, rfl, ⟨Try.t34, _, info_of Try.type34, rfl, rfl, rfl, rfl, ⟨#[], rfl⟩, rfl⟩, fun h => absurd rfl h⟩
def i35 : TI := ⟨1, 8, false, TypeDesc.func #[22] #[4] false, [.nilf], []⟩
theorem g35 : TGood Try.prog 35 i35 := ⟨Try.underlying35, rfl, ⟨Try.t35, _, info_of Try.type35, rfl, rfl, rfl, rfl, ⟨#[], rfl⟩, rfl⟩, fun h => absurd rfl h⟩
def i37 : TI := ⟨1, 8, false, TypeDesc.func #[22] #[23, 23] false, [.nilf], []⟩
theorem g37 : TGood Try.prog 37 i37 := ⟨Try.underlying37, rfl, ⟨Try.t37, _, info_of Try.type37, rfl, rfl, rfl, rfl, ⟨#[], rfl⟩, rfl⟩, fun h => absurd rfl h⟩
def i38 : TI := ⟨1, 8, false, TypeDesc.func #[23, 23] #[34] false, [.nilf], []⟩
theorem g38 : TGood Try.prog 38 i38 := ⟨Try.underlying38, rfl, ⟨Try.t38, _, info_of Try.type38, rfl, rfl, rfl, rfl, ⟨#[], rfl⟩, rfl⟩, fun h => absurd rfl h⟩
def i39 : TI := ⟨1, 8, false, TypeDesc.func #[34, 34] #[4] false, [.nilf], []⟩
theorem g39 : TGood Try.prog 39 i39 := ⟨Try.underlying39, rfl, ⟨Try.t39, _, info_of Try.type39, rfl, rfl, rfl, rfl, ⟨#[], rfl⟩, rfl⟩, fun h => absurd rfl h⟩
def i40 : TI := ⟨1, 8, false, TypeDesc.func #[23, 23] #[4] false, [.nilf], []⟩
theorem g40 : TGood Try.prog 40 i40 := ⟨Try.underlying40, rfl, ⟨Try.t40, _, info_of Try.type40, rfl, rfl, rfl, rfl, ⟨#[], rfl⟩, rfl⟩, fun h => absurd rfl h⟩
def i42 : TI := ⟨1, 8, false, TypeDesc.func #[22] #[23, 34] false, [.nilf], []⟩
theorem g42 : TGood Try.prog 42 i42 := ⟨Try.underlying42, rfl, ⟨Try.t42, _, info_of Try.type42, rfl, rfl, rfl, rfl, ⟨#[], rfl⟩, rfl⟩, fun h => absurd rfl h⟩
def i43 : TI := ⟨1, 8, false, TypeDesc.func #[22, 22] #[4] false, [.nilf], []⟩
theorem g43 : TGood Try.prog 43 i43 := ⟨Try.underlying43, rfl, ⟨Try.t43, _, info_of Try.type43, rfl, rfl, rfl, rfl, ⟨#[], rfl⟩, rfl⟩, fun h => absurd rfl h⟩
def i44 : TI := ⟨1, 8, false, TypeDesc.func #[22] #[23] false, [.nilf], []⟩
theorem g44 : TGood Try.prog 44 i44 := ⟨Try.underlying44, rfl, ⟨Try.t44, _, info_of Try.type44, rfl, rfl, rfl, rfl, ⟨#[], rfl⟩, rfl⟩, fun h => absurd rfl h⟩
def i45 : TI := ⟨1, 24, false, TypeDesc.slice 82, [.sl true 0 0 (fun _ => [])], []⟩
theorem g45 : TGood Try.prog 45 i45 := ⟨Try.underlying45, rfl, ⟨Try.t45, _, info_of Try.type45, rfl, rfl, rfl, rfl, ⟨#[], rfl⟩, rfl⟩, fun h => absurd rfl h⟩
def i46 : TI := ⟨1, 24, false, TypeDesc.slice 84, [.sl true 0 0 (fun _ => [])], []⟩
theorem g46 : TGood Try.prog 46 i46 := ⟨Try.underlying46, rfl, ⟨Try.t46, _, info_of Try.type46, rfl, rfl, rfl, rfl, ⟨#[], rfl⟩, rfl⟩, fun h => absurd rfl h⟩
def i47 : TI := ⟨1, 8, false, TypeDesc.func #[45, 3] #[3] false, [.nilf], []⟩
theorem g47 : TGood Try.prog 47 i47 := ⟨Try.underlying47, rfl, ⟨Try.t47, _, info_of Try.type47, rfl, rfl, rfl, rfl, ⟨#[], rfl⟩, rfl⟩, fun h => absurd rfl h⟩
def i48 : TI := ⟨1, 8, false, TypeDesc.func #[46, 3] #[3] false, [.nilf], []⟩
theorem g48 : TGood Try.prog 48 i48 := ⟨Try.underlying48, rfl, ⟨Try.t48, _, info_of Try.type48, rfl, rfl, rfl, rfl, ⟨#[], rfl⟩, rfl⟩, fun h => absurd rfl h⟩
def i49 : TI := ⟨1, 8, false, TypeDesc.func #[45] #[23] false, [.nilf], []⟩
theorem g49 : TGood Try.prog 49 i49 := ⟨Try.underlying49, rfl, ⟨Try.t49, _, info_of Try.type49, rfl, rfl, rfl, rfl, ⟨#[], rfl⟩, rfl⟩, fun h => absurd rfl h⟩
def i50 : TI := ⟨1, 8, false, TypeDesc.func #[46] #[34] false, [.nilf], []⟩
theorem g50 : TGood Try.prog 50 i50 := ⟨Try.underlying50, rfl, ⟨Try.t50, _, info_of Try.type50, rfl, rfl, rfl, rfl, ⟨#[], rfl⟩, rfl⟩, fun h => absurd rfl h⟩
def i51 : TI := ⟨1, 8, false, TypeDesc.func #[23, 3] #[3] false, [.nilf], []⟩
theorem g51 : TGood Try.prog 51 i51 := ⟨Try.underlying51, rfl, ⟨Try.t51, _, info_of Try.type51, rfl, rfl, rfl, rfl, ⟨#[], rfl⟩, rfl⟩, fun h => absurd rfl h⟩
def i52 : TI := ⟨1, 8, false, TypeDesc.func #[34, 3] #[3] false, [.nilf], []⟩
theorem g52 : TGood Try.prog 52 i52 := ⟨Try.underlying52, rfl, ⟨Try.t52, _, info_of Try.type52, rfl, rfl, rfl, rfl, ⟨#[], rfl⟩, rfl⟩, fun h => absurd rfl h⟩
def i53 : TI := ⟨1, 8, false, TypeDesc.func #[45, 46] #[4] false, [.nilf], []⟩
theorem g53 : TGood Try.prog 53 i53 := ⟨Try.underlying53, rfl, ⟨Try.t53, _, info_of Try.type53, rfl, rfl, rfl, rfl, ⟨#[], rfl⟩, rfl⟩, fun h => absurd rfl h⟩
def i56 : TI := ⟨1, 8, false, TypeDesc.func #[23] #[55] false, [.nilf], []⟩
theorem g56 : TGood Try.prog 56 i56 := ⟨Try.underlying56, rfl, ⟨Try.t56, _, info_of Try.type56, rfl, rfl, rfl, rfl, ⟨#[], rfl⟩, rfl⟩, fun h => absurd rfl h⟩
def i57 : TI := ⟨1, 8, false, TypeDesc.func #[9] #[9, 4] false, [.nilf], []⟩
theorem g57 : TGood Try.prog 57 i57 := ⟨Try.underlying57, rfl, ⟨Try.t57, _, info_of Try.type57, rfl, rfl, rfl, rfl, ⟨#[], rfl⟩, rfl⟩, fun h => absurd rfl h⟩
def i58 : TI := ⟨2, 32, true, TypeDesc.struct #[{ name := "Path", type := 9, offset := 0, embedded := false, tag := "", pkgPath := "", byteOffset := 0 }, { name := "Text", type := 9, offset := 1, embedded := false, tag := "", pkgPath := "", byteOffset := 16 }], [.str [], .str []], [TypeDesc.string, TypeDesc.string]⟩
theorem g58 : TGood Try.prog 58 i58 := ⟨Try.underlying58, rfl, ⟨Try.t58, _, info_of Try.type58, rfl, rfl, rfl, rfl, ⟨_, rfl⟩, rfl⟩, fun _ => flat_eqs (fs := [{ name := "Path", type := 9, offset := 0, embedded := false, tag := "", pkgPath := "", byteOffset := 0 }, { name := "Text", type := 9, offset := 1, embedded := false, tag := "", pkgPath := "", byteOffset := 16 }]) Try.underlying58 (by decide +kernel) Try.eqGuardType58 ⟨by decide, rfl, Try.underlying9, trivial, by decide, rfl, Try.underlying9, trivial, trivial⟩⟩
def i59 : TI := ⟨2, 32, true, TypeDesc.struct #[{ name := "Path", type := 9, offset := 0, embedded := false, tag := "", pkgPath := "", byteOffset := 0 }, { name := "Text", type := 9, offset := 1, embedded := false, tag := "", pkgPath := "", byteOffset := 16 }], [.str [], .str []], [TypeDesc.string, TypeDesc.string]⟩
theorem g59 : TGood Try.prog 59 i59 := ⟨Try.underlying59, rfl, ⟨Try.t59, _, info_of Try.type59, rfl, rfl, rfl, rfl, ⟨_, rfl⟩, rfl⟩, fun _ => flat_eqs (fs := [{ name := "Path", type := 9, offset := 0, embedded := false, tag := "", pkgPath := "", byteOffset := 0 }, { name := "Text", type := 9, offset := 1, embedded := false, tag := "", pkgPath := "", byteOffset := 16 }]) Try.underlying59 (by decide +kernel) Try.eqGuardType59 ⟨by decide, rfl, Try.underlying9, trivial, by decide, rfl, Try.underlying9, trivial, trivial⟩⟩
def i60 : TI := ⟨1, 8, false, TypeDesc.func #[9, 9] #[4] false, [.nilf], []⟩
theorem g60 : TGood Try.prog 60 i60 := ⟨Try.underlying60, rfl, ⟨Try.t60, _, info_of Try.type60, rfl, rfl, rfl, rfl, ⟨#[], rfl⟩, rfl⟩, fun h => absurd rfl h⟩
def i61 : TI := ⟨1, 8, false, TypeDesc.func #[5] #[4] false, [.nilf], []⟩
theorem g61 : TGood Try.prog 61 i61 := ⟨Try.underlying61, rfl, ⟨Try.t61, _, info_of Try.type61, rfl, rfl, rfl, rfl, ⟨#[], rfl⟩, rfl⟩, fun h => absurd rfl h⟩
def i62 : TI := ⟨1, 16, false, TypeDesc.interface #[("loop.example/depositary/impl.path", 98)], [.nili], []⟩
theorem g62 : TGood Try.prog 62 i62 := ⟨Try.underlying62, rfl, ⟨Try.t62, _, info_of Try.type62, rfl, rfl, rfl, rfl, ⟨#[], rfl⟩, rfl⟩, fun h => absurd rfl h⟩
def i63 : TI := ⟨1, 16, false, TypeDesc.interface #[("loop.example/depositary/impl.path", 98)], [.nili], []⟩
theorem g63 : TGood Try.prog 63 i63 := ⟨Try.underlying63, rfl, ⟨Try.t63, _, info_of Try.type63, rfl, rfl, rfl, rfl, ⟨#[], rfl⟩, rfl⟩, fun h => absurd rfl h⟩
def i65 : TI := ⟨1, 8, false, TypeDesc.func #[33] #[63, 4] false, [.nilf], []⟩
theorem g65 : TGood Try.prog 65 i65 := ⟨Try.underlying65, rfl, ⟨Try.t65, _, info_of Try.type65, rfl, rfl, rfl, rfl, ⟨#[], rfl⟩, rfl⟩, fun h => absurd rfl h⟩
def i66 : TI := ⟨1, 8, false, TypeDesc.func #[63] #[4] false, [.nilf], []⟩
theorem g66 : TGood Try.prog 66 i66 := ⟨Try.underlying66, rfl, ⟨Try.t66, _, info_of Try.type66, rfl, rfl, rfl, rfl, ⟨#[], rfl⟩, rfl⟩, fun h => absurd rfl h⟩
def i67 : TI := ⟨1, 8, false, TypeDesc.func #[] #[23] false, [.nilf], []⟩
theorem g67 : TGood Try.prog 67 i67 := ⟨Try.underlying67, rfl, ⟨Try.t67, _, info_of Try.type67, rfl, rfl, rfl, rfl, ⟨#[], rfl⟩, rfl⟩, fun h => absurd rfl h⟩
def i68 : TI := ⟨1, 8, false, TypeDesc.func #[69] #[23, 23] false, [.nilf], []⟩
theorem g68 : TGood Try.prog 68 i68 := ⟨Try.underlying68, rfl, ⟨Try.t68, _, info_of Try.type68, rfl, rfl, rfl, rfl, ⟨#[], rfl⟩, rfl⟩, fun h => absurd rfl h⟩
def i69 : TI := ⟨1, 8, false, TypeDesc.pointer 107, [.nilp], []⟩
theorem g69 : TGood Try.prog 69 i69 := ⟨Try.underlying69, rfl, ⟨Try.t69, _, info_of Try.type69, rfl, rfl, rfl, rfl, ⟨#[], rfl⟩, rfl⟩, fun h => absurd rfl h⟩
def i70 : TI := ⟨1, 8, false, TypeDesc.func #[22] #[69] false, [.nilf], []⟩
theorem g70 : TGood Try.prog 70 i70 := ⟨Try.underlying70, rfl, ⟨Try.t70, _, info_of Try.type70, rfl, rfl, rfl, rfl, ⟨#[], rfl⟩, rfl⟩, fun h => absurd rfl h⟩
def i71 : TI := ⟨1, 8, false, TypeDesc.func #[3] #[3] false, [.nilf], []⟩
theorem g71 : TGood Try.prog 71 i71 := ⟨Try.underlying71, rfl, ⟨Try.t71, _, info_of Try.type71, rfl, rfl, rfl, rfl, ⟨#[], rfl⟩, rfl⟩, fun h => absurd rfl h⟩
def i72 : TI := ⟨1, 8, false, TypeDesc.func #[69] #[9] false, [.nilf], []⟩
theorem g72 : TGood Try.prog 72 i72 := ⟨Try.underlying72, rfl, ⟨Try.t72, _, info_of Try.type72, rfl, rfl, rfl, rfl, ⟨#[], rfl⟩, rfl⟩, fun h => absurd rfl h⟩
def i73 : TI := ⟨1, 8, false, TypeDesc.func #[74] #[9] false, [.nilf], []⟩
theorem g73 : TGood Try.prog 73 i73 := ⟨Try.underlying73, rfl, ⟨Try.t73, _, info_of Try.type73, rfl, rfl, rfl, rfl, ⟨#[], rfl⟩, rfl⟩, fun h => absurd rfl h⟩
def i74 : TI := ⟨1, 24, false, TypeDesc.slice 9, [.sl true 0 0 (fun _ => [])], []⟩
theorem g74 : TGood Try.prog 74 i74 := ⟨Try.underlying74, rfl, ⟨Try.t74, _, info_of Try.type74, rfl, rfl, rfl, rfl, ⟨#[], rfl⟩, rfl⟩, fun h => absurd rfl h⟩
def i75 : TI := ⟨1, 8, false, TypeDesc.func #[23, 33] #[4] false, [.nilf], []⟩
theorem g75 : TGood Try.prog 75 i75 := ⟨Try.underlying75, rfl, ⟨Try.t75, _, info_of Try.type75, rfl, rfl, rfl, rfl, ⟨#[], rfl⟩, rfl⟩, fun h => absurd rfl h⟩
def i76 : TI := ⟨1, 8, false, TypeDesc.func #[23, 9] #[23] false, [.nilf], []⟩
theorem g76 : TGood Try.prog 76 i76 := ⟨Try.underlying76, rfl, ⟨Try.t76, _, info_of Try.type76, rfl, rfl, rfl, rfl, ⟨#[], rfl⟩, rfl⟩, fun h => absurd rfl h⟩
def i77 : TI := ⟨1, 8, false, TypeDesc.func #[23, 9, 9] #[23, 4] false, [.nilf], []⟩
theorem g77 : TGood Try.prog 77 i77 := ⟨Try.underlying77, rfl, ⟨Try.t77, _, info_of Try.type77, rfl, rfl, rfl, rfl, ⟨#[], rfl⟩, rfl⟩, fun h => absurd rfl h⟩
def i78 : TI := ⟨1, 8, false, TypeDesc.func #[23, 79] #[4] false, [.nilf], []⟩
theorem g78 : TGood Try.prog 78 i78 := ⟨Try.underlying78, rfl, ⟨Try.t78, _, info_of Try.type78, rfl, rfl, rfl, rfl, ⟨#[], rfl⟩, rfl⟩, fun h => absurd rfl h⟩
def i79 : TI := ⟨1, 8, false, TypeDesc.func #[59] #[4] false, [.nilf], []⟩
theorem g79 : TGood Try.prog 79 i79 := ⟨Try.underlying79, rfl, ⟨Try.t79, _, info_of Try.type79, rfl, rfl, rfl, rfl, ⟨#[], rfl⟩, rfl⟩, fun h => absurd rfl h⟩
def i80 : TI := ⟨1, 8, false, TypeDesc.func #[69] #[23] false, [.nilf], []⟩
theorem g80 : TGood Try.prog 80 i80 := ⟨Try.underlying80, rfl, ⟨Try.t80, _, info_of Try.type80, rfl, rfl, rfl, rfl, ⟨#[], rfl⟩, rfl⟩, fun h => absurd rfl h⟩
def i81 : TI := ⟨1, 8, false, TypeDesc.func #[82, 3] #[3] false, [.nilf], []⟩
theorem g81 : TGood Try.prog 81 i81 := ⟨Try.underlying81, rfl, ⟨Try.t81, _, info_of Try.type81, rfl, rfl, rfl, rfl, ⟨#[], rfl⟩, rfl⟩, fun h => absurd rfl h⟩
def i82 : TI := ⟨2, 32, true, TypeDesc.struct #[{ name := "Path", type := 9, offset := 0, embedded := false, tag := "", pkgPath := "", byteOffset := 0 }, { name := "Text", type := 9, offset := 1, embedded := false, tag := "", pkgPath := "", byteOffset := 16 }], [.str [], .str []], [TypeDesc.string, TypeDesc.string]⟩
theorem g82 : TGood Try.prog 82 i82 := ⟨Try.underlying82, rfl, ⟨Try.t82, _, info_of Try.type82, rfl, rfl, rfl, rfl, ⟨_, rfl⟩, rfl⟩, fun _ => flat_eqs (fs := [{ name := "Path", type := 9, offset := 0, embedded := false, tag := "", pkgPath := "", byteOffset := 0 }, { name := "Text", type := 9, offset := 1, embedded := false, tag := "", pkgPath := "", byteOffset := 16 }]) Try.underlying82 (by decide +kernel) Try.eqGuardType82 ⟨by decide, rfl, Try.underlying9, trivial, by decide, rfl, Try.underlying9, trivial, trivial⟩⟩
def i83 : TI := ⟨1, 8, false, TypeDesc.func #[84, 3] #[3] false, [.nilf], []⟩
theorem g83 : TGood Try.prog 83 i83 := ⟨Try.underlying83, rfl, ⟨Try.t83, _, info_of Try.type83, rfl, rfl, rfl, rfl, ⟨#[], rfl⟩, rfl⟩, fun h => absurd rfl h⟩
def i84 : TI := ⟨3, 40, true, TypeDesc.struct #[{ name := "Path", type := 9, offset := 0, embedded := false, tag := "", pkgPath := "", byteOffset := 0 }, { name := "Kind", type := 3, offset := 1, embedded := false, tag := "", pkgPath := "", byteOffset := 16 }, { name := "Text", type := 9, offset := 2, embedded := false, tag := "", pkgPath := "", byteOffset := 24 }], [.str [], .int .i64 0, .str []], [TypeDesc.string, TypeDesc.int IntKind.i64, TypeDesc.string]⟩
theorem g84 : TGood Try.prog 84 i84 := ⟨Try.underlying84, rfl, ⟨Try.t84, _, info_of Try.type84, rfl, rfl, rfl, rfl, ⟨_, rfl⟩, rfl⟩, fun _ => flat_eqs (fs := [{ name := "Path", type := 9, offset := 0, embedded := false, tag := "", pkgPath := "", byteOffset := 0 }, { name := "Kind", type := 3, offset := 1, embedded := false, tag := "", pkgPath := "", byteOffset := 16 }, { name := "Text", type := 9, offset := 2, embedded := false, tag := "", pkgPath := "", byteOffset := 24 }]) Try.underlying84 (by decide +kernel) Try.eqGuardType84 ⟨by decide, rfl, Try.underlying9, trivial, by decide, rfl, Try.underlying3, trivial, by decide, rfl, Try.underlying9, trivial, trivial⟩⟩
def i85 : TI := ⟨1, 8, false, TypeDesc.func #[82] #[59] false, [.nilf], []⟩
theorem g85 : TGood Try.prog 85 i85 := ⟨Try.underlying85, rfl, ⟨Try.t85, _, info_of Try.type85, rfl, rfl, rfl, rfl, ⟨#[], rfl⟩, rfl⟩, fun h => absurd rfl h⟩
def i86 : TI := ⟨1, 8, false, TypeDesc.func #[84] #[33] false, [.nilf], []⟩
theorem g86 : TGood Try.prog 86 i86 := ⟨Try.underlying86, rfl, ⟨Try.t86, _, info_of Try.type86, rfl, rfl, rfl, rfl, ⟨#[], rfl⟩, rfl⟩, fun h => absurd rfl h⟩
def i87 : TI := ⟨1, 8, false, TypeDesc.func #[59, 59] #[4] false, [.nilf], []⟩
theorem g87 : TGood Try.prog 87 i87 := ⟨Try.underlying87, rfl, ⟨Try.t87, _, info_of Try.type87, rfl, rfl, rfl, rfl, ⟨#[], rfl⟩, rfl⟩, fun h => absurd rfl h⟩
def i88 : TI := ⟨1, 8, false, TypeDesc.func #[33, 33] #[4] false, [.nilf], []⟩
theorem g88 : TGood Try.prog 88 i88 := ⟨Try.underlying88, rfl, ⟨Try.t88, _, info_of Try.type88, rfl, rfl, rfl, rfl, ⟨#[], rfl⟩, rfl⟩, fun h => absurd rfl h⟩
def i89 : TI := ⟨1, 8, false, TypeDesc.func #[3] #[9] false, [.nilf], []⟩
theorem g89 : TGood Try.prog 89 i89 := ⟨Try.underlying89, rfl, ⟨Try.t89, _, info_of Try.type89, rfl, rfl, rfl, rfl, ⟨#[], rfl⟩, rfl⟩, fun h => absurd rfl h⟩
def i90 : TI := ⟨1, 8, false, TypeDesc.func #[9, 9] #[] false, [.nilf], []⟩
theorem g90 : TGood Try.prog 90 i90 := ⟨Try.underlying90, rfl, ⟨Try.t90, _, info_of Try.type90, rfl, rfl, rfl, rfl, ⟨#[], rfl⟩, rfl⟩, fun h => absurd rfl h⟩
def i92 : TI := ⟨1, 8, false, TypeDesc.func #[9] #[9] false, [.nilf], []⟩
theorem g92 : TGood Try.prog 92 i92 := ⟨Try.underlying92, rfl, ⟨Try.t92, _, info_of Try.type92, rfl, rfl, rfl, rfl, ⟨#[], rfl⟩, rfl⟩, fun h => absurd rfl h⟩
def i93 : TI := ⟨2, 32, true, TypeDesc.struct #[{ name := "file", type := 59, offset := 0, embedded := false, tag := "", pkgPath := "loop.example/depositary/impl", byteOffset := 0 }], [.str [], .str []], []⟩
theorem g93 : TGood Try.prog 93 i93 := ⟨Try.underlying93, rfl, ⟨Try.t93, _, info_of Try.type93, rfl, rfl, rfl, rfl, ⟨_, rfl⟩, rfl⟩, fun h => absurd rfl h⟩
def i94 : TI := ⟨2, 32, true, TypeDesc.struct #[{ name := "file", type := 59, offset := 0, embedded := false, tag := "", pkgPath := "loop.example/depositary/impl", byteOffset := 0 }], [.str [], .str []], []⟩
theorem g94 : TGood Try.prog 94 i94 := ⟨Try.underlying94, rfl, ⟨Try.t94, _, info_of Try.type94, rfl, rfl, rfl, rfl, ⟨_, rfl⟩, rfl⟩, fun h => absurd rfl h⟩
def i95 : TI := ⟨2, 32, true, TypeDesc.struct #[{ name := "file", type := 59, offset := 0, embedded := false, tag := "", pkgPath := "loop.example/depositary/impl", byteOffset := 0 }], [.str [], .str []], []⟩
theorem g95 : TGood Try.prog 95 i95 := ⟨Try.underlying95, rfl, ⟨Try.t95, _, info_of Try.type95, rfl, rfl, rfl, rfl, ⟨_, rfl⟩, rfl⟩, fun h => absurd rfl h⟩
def i96 : TI := ⟨1, 16, true, TypeDesc.struct #[{ name := "gone", type := 9, offset := 0, embedded := false, tag := "", pkgPath := "loop.example/depositary/impl", byteOffset := 0 }], [.str []], [TypeDesc.string]⟩
theorem g96 : TGood Try.prog 96 i96 := ⟨Try.underlying96, rfl, ⟨Try.t96, _, info_of Try.type96, rfl, rfl, rfl, rfl, ⟨_, rfl⟩, rfl⟩, fun _ => flat_eqs (fs := [{ name := "gone", type := 9, offset := 0, embedded := false, tag := "", pkgPath := "loop.example/depositary/impl", byteOffset := 0 }]) Try.underlying96 (by decide +kernel) Try.eqGuardType96 ⟨by decide, rfl, Try.underlying9, trivial, trivial⟩⟩
def i97 : TI := ⟨1, 16, true, TypeDesc.struct #[{ name := "gone", type := 9, offset := 0, embedded := false, tag := "", pkgPath := "loop.example/depositary/impl", byteOffset := 0 }], [.str []], [TypeDesc.string]⟩
theorem g97 : TGood Try.prog 97 i97 := ⟨Try.underlying97, rfl, ⟨Try.t97, _, info_of Try.type97, rfl, rfl, rfl, rfl, ⟨_, rfl⟩, rfl⟩, fun _ => flat_eqs (fs := [{ name := "gone", type := 9, offset := 0, embedded := false, tag := "", pkgPath := "loop.example/depositary/impl", byteOffset := 0 }]) Try.underlying97 (by decide +kernel) Try.eqGuardType97 ⟨by decide, rfl, Try.underlying9, trivial, trivial⟩⟩
def i98 : TI := ⟨1, 8, false, TypeDesc.func #[] #[9] false, [.nilf], []⟩
theorem g98 : TGood Try.prog 98 i98 := ⟨Try.underlying98, rfl, ⟨Try.t98, _, info_of Try.type98, rfl, rfl, rfl, rfl, ⟨#[], rfl⟩, rfl⟩, fun h => absurd rfl h⟩
def i99 : TI := ⟨1, 8, false, TypeDesc.func #[9] #[] false, [.nilf], []⟩
theorem g99 : TGood Try.prog 99 i99 := ⟨Try.underlying99, rfl, ⟨Try.t99, _, info_of Try.type99, rfl, rfl, rfl, rfl, ⟨#[], rfl⟩, rfl⟩, fun h => absurd rfl h⟩
def i100 : TI := ⟨1, 8, false, TypeDesc.func #[74, 102] #[74] false, [.nilf], []⟩
theorem g100 : TGood Try.prog 100 i100 := ⟨Try.underlying100, rfl, ⟨Try.t100, _, info_of Try.type100, rfl, rfl, rfl, rfl, ⟨#[], rfl⟩, rfl⟩, fun h => absurd rfl h⟩
def i101 : TI := ⟨1, 8, false, TypeDesc.func #[29] #[] false, [.nilf], []⟩
theorem g101 : TGood Try.prog 101 i101 := ⟨Try.underlying101, rfl, ⟨Try.t101, _, info_of Try.type101, rfl, rfl, rfl, rfl, ⟨#[], rfl⟩, rfl⟩, fun h => absurd rfl h⟩
def i102 : TI := ⟨1, 8, false, TypeDesc.func #[29] #[] false, [.nilf], []⟩
theorem g102 : TGood Try.prog 102 i102 := ⟨Try.underlying102, rfl, ⟨Try.t102, _, info_of Try.type102, rfl, rfl, rfl, rfl, ⟨#[], rfl⟩, rfl⟩, fun h => absurd rfl h⟩
def i103 : TI := ⟨1, 8, false, TypeDesc.func #[91] #[102] false, [.nilf], []⟩
theorem g103 : TGood Try.prog 103 i103 := ⟨Try.underlying103, rfl, ⟨Try.t103, _, info_of Try.type103, rfl, rfl, rfl, rfl, ⟨#[], rfl⟩, rfl⟩, fun h => absurd rfl h⟩
def i104 : TI := ⟨1, 8, false, TypeDesc.func #[74] #[] false, [.nilf], []⟩
theorem g104 : TGood Try.prog 104 i104 := ⟨Try.underlying104, rfl, ⟨Try.t104, _, info_of Try.type104, rfl, rfl, rfl, rfl, ⟨#[], rfl⟩, rfl⟩, fun h => absurd rfl h⟩
def i105 : TI := ⟨1, 8, false, TypeDesc.func #[23, 9] #[23, 4] false, [.nilf], []⟩
theorem g105 : TGood Try.prog 105 i105 := ⟨Try.underlying105, rfl, ⟨Try.t105, _, info_of Try.type105, rfl, rfl, rfl, rfl, ⟨#[], rfl⟩, rfl⟩, fun h => absurd rfl h⟩
def i106 : TI := ⟨2, 32, true, TypeDesc.struct #[{ name := "b", type := 22, offset := 0, embedded := false, tag := "", pkgPath := "loop.example/depositary/spec", byteOffset := 0 }, { name := "p", type := 3, offset := 1, embedded := false, tag := "", pkgPath := "loop.example/depositary/spec", byteOffset := 24 }], [.sl true 0 0 (fun _ => []), .int .i64 0], []⟩
theorem g106 : TGood Try.prog 106 i106 := ⟨Try.underlying106, rfl, ⟨Try.t106, _, info_of Try.type106, rfl, rfl, rfl, rfl, ⟨_, rfl⟩, rfl⟩, fun h => absurd rfl h⟩
def i107 : TI := ⟨2, 32, true, TypeDesc.struct #[{ name := "b", type := 22, offset := 0, embedded := false, tag := "", pkgPath := "loop.example/depositary/spec", byteOffset := 0 }, { name := "p", type := 3, offset := 1, embedded := false, tag := "", pkgPath := "loop.example/depositary/spec", byteOffset := 24 }], [.sl true 0 0 (fun _ => []), .int .i64 0], []⟩
theorem g107 : TGood Try.prog 107 i107 := ⟨Try.underlying107, rfl, ⟨Try.t107, _, info_of Try.type107, rfl, rfl, rfl, rfl, ⟨_, rfl⟩, rfl⟩, fun h => absurd rfl h⟩
def i108 : TI := ⟨1, 8, false, TypeDesc.func #[23, 59] #[23] false, [.nilf], []⟩
theorem g108 : TGood Try.prog 108 i108 := ⟨Try.underlying108, rfl, ⟨Try.t108, _, info_of Try.type108, rfl, rfl, rfl, rfl, ⟨#[], rfl⟩, rfl⟩, fun h => absurd rfl h⟩
def i110 : TI := ⟨1, 8, false, TypeDesc.func #[9, 9] #[9, 9, 4] false, [.nilf], []⟩
theorem g110 : TGood Try.prog 110 i110 := ⟨Try.underlying110, rfl, ⟨Try.t110, _, info_of Try.type110, rfl, rfl, rfl, rfl, ⟨#[], rfl⟩, rfl⟩, fun h => absurd rfl h⟩
def i111 : TI := ⟨1, 8, false, TypeDesc.func #[23, 79] #[3] false, [.nilf], []⟩
theorem g111 : TGood Try.prog 111 i111 := ⟨Try.underlying111, rfl, ⟨Try.t111, _, info_of Try.type111, rfl, rfl, rfl, rfl, ⟨#[], rfl⟩, rfl⟩, fun h => absurd rfl h⟩
def i112 : TI := ⟨1, 8, false, TypeDesc.func #[74, 3, 3, 3] #[] false, [.nilf], []⟩
theorem g112 : TGood Try.prog 112 i112 := ⟨Try.underlying112, rfl, ⟨Try.t112, _, info_of Try.type112, rfl, rfl, rfl, rfl, ⟨#[], rfl⟩, rfl⟩, fun h => absurd rfl h⟩
def i113 : TI := ⟨1, 8, false, TypeDesc.func #[114] #[3] false, [.nilf], []⟩
theorem g113 : TGood Try.prog 113 i113 := ⟨Try.underlying113, rfl, ⟨Try.t113, _, info_of Try.type113, rfl, rfl, rfl, rfl, ⟨#[], rfl⟩, rfl⟩, fun h => absurd rfl h⟩
def i114 : TI := ⟨1, 8, false, TypeDesc.int IntKind.u64, [.int .u64 0], []⟩
theorem g114 : TGood Try.prog 114 i114 := ⟨Try.underlying114, rfl, ⟨Try.t114, _, info_of Try.type114, rfl, rfl, rfl, rfl, ⟨#[], rfl⟩, rfl⟩, fun h => absurd rfl h⟩
def i115 : TI := ⟨1, 8, false, TypeDesc.func #[9, 3] #[9] false, [.nilf], []⟩
theorem g115 : TGood Try.prog 115 i115 := ⟨Try.underlying115, rfl, ⟨Try.t115, _, info_of Try.type115, rfl, rfl, rfl, rfl, ⟨#[], rfl⟩, rfl⟩, fun h => absurd rfl h⟩
def i116 : TI := ⟨1, 8, false, TypeDesc.func #[74, 3, 3] #[] false, [.nilf], []⟩
theorem g116 : TGood Try.prog 116 i116 := ⟨Try.underlying116, rfl, ⟨Try.t116, _, info_of Try.type116, rfl, rfl, rfl, rfl, ⟨#[], rfl⟩, rfl⟩, fun h => absurd rfl h⟩
def i117 : TI := ⟨1, 8, false, TypeDesc.int IntKind.i64, [.int .i64 0], []⟩
theorem g117 : TGood Try.prog 117 i117 := ⟨Try.underlying117, rfl, ⟨Try.t117, _, info_of Try.type117, rfl, rfl, rfl, rfl, ⟨#[], rfl⟩, rfl⟩, fun h => absurd rfl h⟩
def i119 : TI := ⟨1, 8, false, TypeDesc.func #[74, 3, 3] #[3, 117] false, [.nilf], []⟩
theorem g119 : TGood Try.prog 119 i119 := ⟨Try.underlying119, rfl, ⟨Try.t119, _, info_of Try.type119, rfl, rfl, rfl, rfl, ⟨#[], rfl⟩, rfl⟩, fun h => absurd rfl h⟩
def i120 : TI := ⟨1, 8, false, TypeDesc.func #[74, 3, 3] #[4] false, [.nilf], []⟩
theorem g120 : TGood Try.prog 120 i120 := ⟨Try.underlying120, rfl, ⟨Try.t120, _, info_of Try.type120, rfl, rfl, rfl, rfl, ⟨#[], rfl⟩, rfl⟩, fun h => absurd rfl h⟩
def i121 : TI := ⟨1, 8, false, TypeDesc.func #[74, 3, 3, 3] #[3] false, [.nilf], []⟩
theorem g121 : TGood Try.prog 121 i121 := ⟨Try.underlying121, rfl, ⟨Try.t121, _, info_of Try.type121, rfl, rfl, rfl, rfl, ⟨#[], rfl⟩, rfl⟩, fun h => absurd rfl h⟩
def i123 : TI := ⟨1, 8, false, TypeDesc.func #[74, 3, 3, 3] #[3, 4] false, [.nilf], []⟩
theorem g123 : TGood Try.prog 123 i123 := ⟨Try.underlying123, rfl, ⟨Try.t123, _, info_of Try.type123, rfl, rfl, rfl, rfl, ⟨#[], rfl⟩, rfl⟩, fun h => absurd rfl h⟩
def i124 : TI := ⟨1, 8, false, TypeDesc.func #[125] #[3] false, [.nilf], []⟩
theorem g124 : TGood Try.prog 124 i124 := ⟨Try.underlying124, rfl, ⟨Try.t124, _, info_of Try.type124, rfl, rfl, rfl, rfl, ⟨#[], rfl⟩, rfl⟩, fun h => absurd rfl h⟩
def i125 : TI := ⟨1, 4, false, TypeDesc.int IntKind.u32, [.int .u32 0], []⟩
theorem g125 : TGood Try.prog 125 i125 := ⟨Try.underlying125, rfl, ⟨Try.t125, _, info_of Try.type125, rfl, rfl, rfl, rfl, ⟨#[], rfl⟩, rfl⟩, fun h => absurd rfl h⟩
def i126 : TI := ⟨1, 8, false, TypeDesc.func #[127] #[3] false, [.nilf], []⟩
theorem g126 : TGood Try.prog 126 i126 := ⟨Try.underlying126, rfl, ⟨Try.t126, _, info_of Try.type126, rfl, rfl, rfl, rfl, ⟨#[], rfl⟩, rfl⟩, fun h => absurd rfl h⟩
def i127 : TI := ⟨1, 8, false, TypeDesc.int IntKind.u64, [.int .u64 0], []⟩
theorem g127 : TGood Try.prog 127 i127 := ⟨Try.underlying127, rfl, ⟨Try.t127, _, info_of Try.type127, rfl, rfl, rfl, rfl, ⟨#[], rfl⟩, rfl⟩, fun h => absurd rfl h⟩
def i128 : TI := ⟨1, 8, false, TypeDesc.func #[9, 9] #[3] false, [.nilf], []⟩
theorem g128 : TGood Try.prog 128 i128 := ⟨Try.underlying128, rfl, ⟨Try.t128, _, info_of Try.type128, rfl, rfl, rfl, rfl, ⟨#[], rfl⟩, rfl⟩, fun h => absurd rfl h⟩
def i129 : TI := ⟨1, 8, false, TypeDesc.int IntKind.u64, [.int .u64 0], []⟩
theorem g129 : TGood Try.prog 129 i129 := ⟨Try.underlying129, rfl, ⟨Try.t129, _, info_of Try.type129, rfl, rfl, rfl, rfl, ⟨#[], rfl⟩, rfl⟩, fun h => absurd rfl h⟩
def i130 : TI := ⟨1, 8, false, TypeDesc.func #[3] #[114] false, [.nilf], []⟩
theorem g130 : TGood Try.prog 130 i130 := ⟨Try.underlying130, rfl, ⟨Try.t130, _, info_of Try.type130, rfl, rfl, rfl, rfl, ⟨#[], rfl⟩, rfl⟩, fun h => absurd rfl h⟩
def i131 : TI := ⟨1, 8, false, TypeDesc.func #[] #[127] false, [.nilf], []⟩
theorem g131 : TGood Try.prog 131 i131 := ⟨Try.underlying131, rfl, ⟨Try.t131, _, info_of Try.type131, rfl, rfl, rfl, rfl, ⟨#[], rfl⟩, rfl⟩, fun h => absurd rfl h⟩
def i132 : TI := ⟨1, 8, false, TypeDesc.func #[74, 3, 133] #[3] false, [.nilf], []⟩
theorem g132 : TGood Try.prog 132 i132 := ⟨Try.underlying132, rfl, ⟨Try.t132, _, info_of Try.type132, rfl, rfl, rfl, rfl, ⟨#[], rfl⟩, rfl⟩, fun h => absurd rfl h⟩
def i133 : TI := ⟨1, 8, false, TypeDesc.pointer 3, [.nilp], []⟩
theorem g133 : TGood Try.prog 133 i133 := ⟨Try.underlying133, rfl, ⟨Try.t133, _, info_of Try.type133, rfl, rfl, rfl, rfl, ⟨#[], rfl⟩, rfl⟩, fun h => absurd rfl h⟩
def i134 : TI := ⟨1, 8, false, TypeDesc.func #[74, 3, 3, 3, 133] #[3] false, [.nilf], []⟩
theorem g134 : TGood Try.prog 134 i134 := ⟨Try.underlying134, rfl, ⟨Try.t134, _, info_of Try.type134, rfl, rfl, rfl, rfl, ⟨#[], rfl⟩, rfl⟩, fun h => absurd rfl h⟩
def i135 : TI := ⟨1, 8, false, TypeDesc.func #[9, 5] #[3] false, [.nilf], []⟩
theorem g135 : TGood Try.prog 135 i135 := ⟨Try.underlying135, rfl, ⟨Try.t135, _, info_of Try.type135, rfl, rfl, rfl, rfl, ⟨#[], rfl⟩, rfl⟩, fun h => absurd rfl h⟩
def i136 : TI := ⟨1, 8, false, TypeDesc.pointer 129, [.nilp], []⟩
theorem g136 : TGood Try.prog 136 i136 := ⟨Try.underlying136, rfl, ⟨Try.t136, _, info_of Try.type136, rfl, rfl, rfl, rfl, ⟨#[], rfl⟩, rfl⟩, fun h => absurd rfl h⟩
def i138 : TI := ⟨1, 8, false, TypeDesc.func #[74, 3, 3, 133] #[3, 3] false, [.nilf], []⟩
theorem g138 : TGood Try.prog 138 i138 := ⟨Try.underlying138, rfl, ⟨Try.t138, _, info_of Try.type138, rfl, rfl, rfl, rfl, ⟨#[], rfl⟩, rfl⟩, fun h => absurd rfl h⟩
def i140 : TI := ⟨1, 8, false, TypeDesc.func #[9] #[125, 125] false, [.nilf], []⟩
theorem g140 : TGood Try.prog 140 i140 := ⟨Try.underlying140, rfl, ⟨Try.t140, _, info_of Try.type140, rfl, rfl, rfl, rfl, ⟨#[], rfl⟩, rfl⟩, fun h => absurd rfl h⟩
def i141 : TI := ⟨4, 40, true, TypeDesc.struct #[{ name := "_interface", type := 17, offset := 0, embedded := false, tag := "", pkgPath := "runtime", byteOffset := 0 }, { name := "concrete", type := 17, offset := 1, embedded := false, tag := "", pkgPath := "runtime", byteOffset := 8 }, { name := "asserted", type := 17, offset := 2, embedded := false, tag := "", pkgPath := "runtime", byteOffset := 16 }, { name := "missingMethod", type := 9, offset := 3, embedded := false, tag := "", pkgPath := "runtime", byteOffset := 24 }], [.nilp, .nilp, .nilp, .str []], []⟩
theorem g141 : TGood Try.prog 141 i141 := ⟨Try.underlying141, rfl, ⟨Try.t141, _, info_of Try.type141, rfl, rfl, rfl, rfl, ⟨_, rfl⟩, rfl⟩, fun h => absurd rfl h⟩
def i142 : TI := ⟨4, 40, true, TypeDesc.struct #[{ name := "_interface", type := 17, offset := 0, embedded := false, tag := "", pkgPath := "runtime", byteOffset := 0 }, { name := "concrete", type := 17, offset := 1, embedded := false, tag := "", pkgPath := "runtime", byteOffset := 8 }, { name := "asserted", type := 17, offset := 2, embedded := false, tag := "", pkgPath := "runtime", byteOffset := 16 }, { name := "missingMethod", type := 9, offset := 3, embedded := false, tag := "", pkgPath := "runtime", byteOffset := 24 }], [.nilp, .nilp, .nilp, .str []], []⟩
theorem g142 : TGood Try.prog 142 i142 := ⟨Try.underlying142, rfl, ⟨Try.t142, _, info_of Try.type142, rfl, rfl, rfl, rfl, ⟨_, rfl⟩, rfl⟩, fun h => absurd rfl h⟩
def i143 : TI := ⟨0, 0, true, TypeDesc.array 0 16, [], []⟩
theorem g143 : TGood Try.prog 143 i143 := ⟨Try.underlying143, rfl, ⟨Try.t143, _, info_of Try.type143, rfl, rfl, rfl, rfl, ⟨_, rfl⟩, rfl⟩, fun h => absurd rfl h⟩
def i144 : TI := ⟨0, 0, true, TypeDesc.struct #[{ name := "_", type := 143, offset := 0, embedded := false, tag := "", pkgPath := "runtime", byteOffset := 0 }], [], []⟩
theorem g144 : TGood Try.prog 144 i144 := ⟨Try.underlying144, rfl, ⟨Try.t144, _, info_of Try.type144, rfl, rfl, rfl, rfl, ⟨_, rfl⟩, rfl⟩, fun h => absurd rfl h⟩
def i145 : TI := ⟨0, 0, true, TypeDesc.struct #[{ name := "_", type := 143, offset := 0, embedded := false, tag := "", pkgPath := "runtime", byteOffset := 0 }], [], []⟩
theorem g145 : TGood Try.prog 145 i145 := ⟨Try.underlying145, rfl, ⟨Try.t145, _, info_of Try.type145, rfl, rfl, rfl, rfl, ⟨_, rfl⟩, rfl⟩, fun h => absurd rfl h⟩
def i146 : TI := ⟨1, 8, false, TypeDesc.func #[] #[3] false, [.nilf], []⟩
theorem g146 : TGood Try.prog 146 i146 := ⟨Try.underlying146, rfl, ⟨Try.t146, _, info_of Try.type146, rfl, rfl, rfl, rfl, ⟨#[], rfl⟩, rfl⟩, fun h => absurd rfl h⟩
def i147 : TI := ⟨1, 1, false, TypeDesc.int IntKind.u8, [.int .u8 0], []⟩
theorem g147 : TGood Try.prog 147 i147 := ⟨Try.underlying147, rfl, ⟨Try.t147, _, info_of Try.type147, rfl, rfl, rfl, rfl, ⟨#[], rfl⟩, rfl⟩, fun h => absurd rfl h⟩
def i148 : TI := ⟨1, 1, false, TypeDesc.int IntKind.u8, [.int .u8 0], []⟩
theorem g148 : TGood Try.prog 148 i148 := ⟨Try.underlying148, rfl, ⟨Try.t148, _, info_of Try.type148, rfl, rfl, rfl, rfl, ⟨#[], rfl⟩, rfl⟩, fun h => absurd rfl h⟩
def i149 : TI := ⟨1, 8, false, TypeDesc.func #[155, 155] #[4] false, [.nilf], []⟩
theorem g149 : TGood Try.prog 149 i149 := ⟨Try.underlying149, rfl, ⟨Try.t149, _, info_of Try.type149, rfl, rfl, rfl, rfl, ⟨#[], rfl⟩, rfl⟩, fun h => absurd rfl h⟩
def i150 : TI := ⟨1, 8, false, TypeDesc.pointer 5, [.nilp], []⟩
theorem g150 : TGood Try.prog 150 i150 := ⟨Try.underlying150, rfl, ⟨Try.t150, _, info_of Try.type150, rfl, rfl, rfl, rfl, ⟨#[], rfl⟩, rfl⟩, fun h => absurd rfl h⟩
def i151 : TI := ⟨1, 4, false, TypeDesc.int IntKind.i32, [.int .i32 0], []⟩
theorem g151 : TGood Try.prog 151 i151 := ⟨Try.underlying151, rfl, ⟨Try.t151, _, info_of Try.type151, rfl, rfl, rfl, rfl, ⟨#[], rfl⟩, rfl⟩, fun h => absurd rfl h⟩
def i152 : TI := ⟨1, 4, false, TypeDesc.int IntKind.i32, [.int .i32 0], []⟩
theorem g152 : TGood Try.prog 152 i152 := ⟨Try.underlying152, rfl, ⟨Try.t152, _, info_of Try.type152, rfl, rfl, rfl, rfl, ⟨#[], rfl⟩, rfl⟩, fun h => absurd rfl h⟩
def i153 : TI := ⟨11, 48, true, TypeDesc.struct #[{ name := "Size_", type := 12, offset := 0, embedded := false, tag := "", pkgPath := "", byteOffset := 0 }, { name := "PtrBytes", type := 12, offset := 1, embedded := false, tag := "", pkgPath := "", byteOffset := 8 }, { name := "Hash", type := 125, offset := 2, embedded := false, tag := "", pkgPath := "", byteOffset := 16 }, { name := "TFlag", type := 147, offset := 3, embedded := false, tag := "", pkgPath := "", byteOffset := 20 }, { name := "Align_", type := 5, offset := 4, embedded := false, tag := "", pkgPath := "", byteOffset := 21 }, { name := "FieldAlign_", type := 5, offset := 5, embedded := false, tag := "", pkgPath := "", byteOffset := 22 }, { name := "Kind_", type := 148, offset := 6, embedded := false, tag := "", pkgPath := "", byteOffset := 23 }, { name := "Equal", type := 149, offset := 7, embedded := false, tag := "", pkgPath := "", byteOffset := 24 }, { name := "GCData", type := 150, offset := 8, embedded := false, tag := "", pkgPath := "", byteOffset := 32 }, { name := "Str", type := 151, offset := 9, embedded := false, tag := "", pkgPath := "", byteOffset := 40 }, { name := "PtrToThis", type := 152, offset := 10, embedded := false, tag := "", pkgPath := "", byteOffset := 44 }], [.int .u64 0, .int .u64 0, .int .u32 0, .int .u8 0, .int .u8 0, .int .u8 0, .int .u8 0, .nilf, .nilp, .int .i32 0, .int .i32 0], []⟩
theorem g153 : TGood Try.prog 153 i153 := ⟨Try.underlying153, rfl, ⟨Try.t153, _, info_of Try.type153, rfl, rfl, rfl, rfl, ⟨_, rfl⟩, rfl⟩, fun h => absurd rfl h⟩
def i154 : TI := ⟨11, 48, true, TypeDesc.struct #[{ name := "Size_", type := 12, offset := 0, embedded := false, tag := "", pkgPath := "", byteOffset := 0 }, { name := "PtrBytes", type := 12, offset := 1, embedded := false, tag := "", pkgPath := "", byteOffset := 8 }, { name := "Hash", type := 125, offset := 2, embedded := false, tag := "", pkgPath := "", byteOffset := 16 }, { name := "TFlag", type := 147, offset := 3, embedded := false, tag := "", pkgPath := "", byteOffset := 20 }, { name := "Align_", type := 5, offset := 4, embedded := false, tag := "", pkgPath := "", byteOffset := 21 }, { name := "FieldAlign_", type := 5, offset := 5, embedded := false, tag := "", pkgPath := "", byteOffset := 22 }, { name := "Kind_", type := 148, offset := 6, embedded := false, tag := "", pkgPath := "", byteOffset := 23 }, { name := "Equal", type := 149, offset := 7, embedded := false, tag := "", pkgPath := "", byteOffset := 24 }, { name := "GCData", type := 150, offset := 8, embedded := false, tag := "", pkgPath := "", byteOffset := 32 }, { name := "Str", type := 151, offset := 9, embedded := false, tag := "", pkgPath := "", byteOffset := 40 }, { name := "PtrToThis", type := 152, offset := 10, embedded := false, tag := "", pkgPath := "", byteOffset := 44 }], [.int .u64 0, .int .u64 0, .int .u32 0, .int .u8 0, .int .u8 0, .int .u8 0, .int .u8 0, .nilf, .nilp, .int .i32 0, .int .i32 0], []⟩
theorem g154 : TGood Try.prog 154 i154 := ⟨Try.underlying154, rfl, ⟨Try.t154, _, info_of Try.type154, rfl, rfl, rfl, rfl, ⟨_, rfl⟩, rfl⟩, fun h => absurd rfl h⟩
def i155 : TI := ⟨1, 8, false, TypeDesc.unsafePointer, [.nilp], []⟩
theorem g155 : TGood Try.prog 155 i155 := ⟨Try.underlying155, rfl, ⟨Try.t155, _, info_of Try.type155, rfl, rfl, rfl, rfl, ⟨#[], rfl⟩, rfl⟩, fun h => absurd rfl h⟩
def tt : List (Nat × TI) := [(1, i1), (2, i2), (3, i3), (4, i4), (5, i5), (6, i6), (7, i7), (8, i8), (9, i9), (10, i10), (11, i11), (12, i12), (13, i13), (14, i14), (15, i15), (16, i16), (17, i17), (18, i18), (19, i19), (20, i20), (21, i21), (22, i22), (23, i23), (25, i25), (27, i27), (28, i28), (29, i29), (31, i31), (32, i32), (33, i33), (34, i34), (35, i35), (37, i37), (38, i38), (39, i39), (40, i40), (42, i42), (43, i43), (44, i44), (45, i45), (46, i46), (47, i47), (48, i48), (49, i49), (50, i50), (51, i51), (52, i52), (53, i53), (56, i56), (57, i57), (58, i58), (59, i59), (60, i60), (61, i61), (62, i62), (63, i63), (65, i65), (66, i66), (67, i67), (68, i68), (69, i69), (70, i70), (71, i71), (72, i72), (73, i73), (74, i74), (75, i75), (76, i76), (77, i77), (78, i78), (79, i79), (80, i80), (81, i81), (82, i82), (83, i83), (84, i84), (85, i85), (86, i86), (87, i87), (88, i88), (89, i89), (90, i90), (92, i92), (93, i93), (94, i94), (95, i95), (96, i96), (97, i97), (98, i98), (99, i99), (100, i100), (101, i101), (102, i102), (103, i103), (104, i104), (105, i105), (106, i106), (107, i107), (108, i108), (110, i110), (111, i111), (112, i112), (113, i113), (114, i114), (115, i115), (116, i116), (117, i117), (119, i119), (120, i120), (121, i121), (123, i123), (124, i124), (125, i125), (126, i126), (127, i127), (128, i128), (129, i129), (130, i130), (131, i131), (132, i132), (133, i133), (134, i134), (135, i135), (136, i136), (138, i138), (140, i140), (141, i141), (142, i142), (143, i143), (144, i144), (145, i145), (146, i146), (147, i147), (148, i148), (149, i149), (150, i150), (151, i151), (152, i152), (153, i153), (154, i154), (155, i155)]
theorem tok : TOK Try.prog tt := (TOK.cons g1 (TOK.cons g2 (TOK.cons g3 (TOK.cons g4 (TOK.cons g5 (TOK.cons g6 (TOK.cons g7 (TOK.cons g8 (TOK.cons g9 (TOK.cons g10 (TOK.cons g11 (TOK.cons g12 (TOK.cons g13 (TOK.cons g14 (TOK.cons g15 (TOK.cons g16 (TOK.cons g17 (TOK.cons g18 (TOK.cons g19 (TOK.cons g20 (TOK.cons g21 (TOK.cons g22 (TOK.cons g23 (TOK.cons g25 (TOK.cons g27 (TOK.cons g28 (TOK.cons g29 (TOK.cons g31 (TOK.cons g32 (TOK.cons g33 (TOK.cons g34 (TOK.cons g35 (TOK.cons g37 (TOK.cons g38 (TOK.cons g39 (TOK.cons g40 (TOK.cons g42 (TOK.cons g43 (TOK.cons g44 (TOK.cons g45 (TOK.cons g46 (TOK.cons g47 (TOK.cons g48 (TOK.cons g49 (TOK.cons g50 (TOK.cons g51 (TOK.cons g52 (TOK.cons g53 (TOK.cons g56 (TOK.cons g57 (TOK.cons g58 (TOK.cons g59 (TOK.cons g60 (TOK.cons g61 (TOK.cons g62 (TOK.cons g63 (TOK.cons g65 (TOK.cons g66 (TOK.cons g67 (TOK.cons g68 (TOK.cons g69 (TOK.cons g70 (TOK.cons g71 (TOK.cons g72 (TOK.cons g73 (TOK.cons g74 (TOK.cons g75 (TOK.cons g76 (TOK.cons g77 (TOK.cons g78 (TOK.cons g79 (TOK.cons g80 (TOK.cons g81 (TOK.cons g82 (TOK.cons g83 (TOK.cons g84 (TOK.cons g85 (TOK.cons g86 (TOK.cons g87 (TOK.cons g88 (TOK.cons g89 (TOK.cons g90 (TOK.cons g92 (TOK.cons g93 (TOK.cons g94 (TOK.cons g95 (TOK.cons g96 (TOK.cons g97 (TOK.cons g98 (TOK.cons g99 (TOK.cons g100 (TOK.cons g101 (TOK.cons g102 (TOK.cons g103 (TOK.cons g104 (TOK.cons g105 (TOK.cons g106 (TOK.cons g107 (TOK.cons g108 (TOK.cons g110 (TOK.cons g111 (TOK.cons g112 (TOK.cons g113 (TOK.cons g114 (TOK.cons g115 (TOK.cons g116 (TOK.cons g117 (TOK.cons g119 (TOK.cons g120 (TOK.cons g121 (TOK.cons g123 (TOK.cons g124 (TOK.cons g125 (TOK.cons g126 (TOK.cons g127 (TOK.cons g128 (TOK.cons g129 (TOK.cons g130 (TOK.cons g131 (TOK.cons g132 (TOK.cons g133 (TOK.cons g134 (TOK.cons g135 (TOK.cons g136 (TOK.cons g138 (TOK.cons g140 (TOK.cons g141 (TOK.cons g142 (TOK.cons g143 (TOK.cons g144 (TOK.cons g145 (TOK.cons g146 (TOK.cons g147 (TOK.cons g148 (TOK.cons g149 (TOK.cons g150 (TOK.cons g151 (TOK.cons g152 (TOK.cons g153 (TOK.cons g154 (TOK.cons g155 TOK.nil)))))))))))))))))))))))))))))))))))))))))))))))))))))))))))))))))))))))))))))))))))))))))))))))))))))))))))))))))))))))))))))))))))))))))))))
def i91 : TI := ⟨1, 8, false, TypeDesc.map 9 9, [.val (.map none)], []⟩
theorem g91 : TGood Try.prog 91 i91 := ⟨Try.underlying91, rfl, ⟨Try.t91, _, info_of Try.type91, rfl, rfl, rfl, rfl, ⟨#[], rfl⟩, rfl⟩, fun h => absurd rfl h⟩
def i55 : TI := ⟨1, 8, false, TypeDesc.map 9 91, [.val (.map none)], []⟩
theorem g55 : TGood Try.prog 55 i55 := ⟨Try.underlying55, rfl, ⟨Try.t55, _, info_of Try.type55, rfl, rfl, rfl, rfl, ⟨#[], rfl⟩, rfl⟩, fun h => absurd rfl h⟩
/-- The maps' types too. -/
theorem tokM : TOK Try.prog ((91, i91) :: (55, i55) :: tt) := TOK.cons g91 (TOK.cons g55 tok)
end R1
end Go.AM

namespace Go.AM

abbrev Bs := List UInt8
abbrev dS (s : Bs) : D := .e (.one (.c (.str s)))
abbrev dI (n : Int) : D := .e (.one (.c (.int .i64 n)))
abbrev dU (n : Int) : D := .e (.one (.c (.int .u8 n)))
abbrev dB (b : Bool) : D := .e (.one (.c (.bool b)))

theorem AllP_nil : AllP [] = True := rfl
theorem AllP_cons {p : Prop} {l : List Prop} : AllP (p :: l) ↔ p ∧ AllP l := by
  cases l with
  | nil => simp [AllP]
  | cons q r => rfl

theorem byteAt_nat {s : Bs} {i : Nat} : byteAt s i = s.getD i 0 := rfl
theorem byteAt_lit {s : Bs} {i : Nat} : byteAt s (OfNat.ofNat i) = s.getD i 0 := rfl

namespace R1
open Go.Proofs
variable {X : Cx Try.prog}
theorem foll : Try.prog.follows Departure.mixedOrders = true := rfl

def nameB (b : Int) : Bool := decide (97 ≤ b) && decide (b ≤ 101)

theorem ev_name (b : Int) : Ev X 39 [dU b] [] (dB (nameB b)) [] := by
  refine Ev.body Try.func39 rfl rfl rfl fun _ => ?_
  by_cases h : 97 ≤ b
  · refine AK.run2 foll tok COK.nil [(4, true)] 100 rfl ?_ (AK.ret0 rfl ?_) <;> simp [AllP, h, nameB]
  · refine AK.run2 foll tok COK.nil [(4, false)] 100 rfl ?_ (AK.ret0 rfl ?_) <;> simp [AllP, h, nameB]

def letterB (b : UInt8) : Bool := decide (97 ≤ b.toNat) && decide (b.toNat ≤ 122)
def letters (s : Bs) : Bool := s.all letterB

theorem letters_true {s : Bs} (h : ∀ j, j < s.length → letterB (s.getD j 0) = true) : letters s = true := by
  simp only [letters, List.all_eq_true]
  intro b hb
  obtain ⟨i, hi, rfl⟩ := List.getElem_of_mem hb
  have := h i hi
  simpa [List.getD_eq_getElem?_getD, List.getElem?_eq_getElem hi] using this

theorem letters_false {s : Bs} {j : Nat} (h : j < s.length) (hb : letterB (s.getD j 0) = false) : letters s = false := by
  cases hl : letters s with
  | false => rfl
  | true =>
    simp only [letters, List.all_eq_true] at hl
    have := hl _ (List.getElem_mem h)
    simp [List.getD_eq_getElem?_getD, List.getElem?_eq_getElem h] at hb
    rw [hb] at this; cases this

theorem ev_letters (s : Bs) : Ev X 66 [dS s] [] (dB (letters s)) [] := by
  refine Ev.body Try.func66 rfl rfl rfl fun hf => ?_
  have hs := hf.str 0 rfl
  refine AK.run2 foll tok COK.nil [] 100 rfl trivial ?_
  refine AK.loopE (fun i => i ≤ s.length ∧ ∀ j, j < i → letterB (s.getD j 0) = true) (fun i : Nat => [(0, dS s), (3, dI i)]) (fun _ => []) (fun i => s.length - i) 0 rfl (by simp [AllP.cat, AllP]) ⟨by omega, by omega⟩ rfl ?_
  rintro i ⟨hi, hall⟩
  by_cases h : i < s.length
  · generalize hb : s.getD i 0 = b
    by_cases h1 : b.toNat < 97
    · refine AK.run2 foll tok COK.nil [(7, true), (13, true)] 100 rfl ?_ (AK.retIn (RetQ.zero rfl ?_))
      · simp only [AllP, byteAt_nat, decide_eq_true_eq, hb]; omega
      · rw [AllP, letters_false h (by rw [hb]; simp only [letterB, Bool.and_eq_false_iff, decide_eq_false_iff_not]; omega)]
    · by_cases h2 : b.toNat > 122
      · refine AK.run2 foll tok COK.nil [(7, true), (13, false), (18, true)] 100 rfl ?_ (AK.retIn (RetQ.zero rfl ?_))
        · simp only [AllP, byteAt_nat, decide_eq_true_eq, decide_eq_false_iff_not, hb]; omega
        · rw [AllP, letters_false h (by rw [hb]; simp only [letterB, Bool.and_eq_false_iff, decide_eq_false_iff_not]; omega)]
      · refine AK.run2 foll tok COK.nil [(7, true), (13, false), (18, false)] 100 rfl ?_ (AK.again (i + 1) rfl ?_ ?_ ?_ rfl)
        · simp only [AllP, byteAt_nat, decide_eq_true_eq, decide_eq_false_iff_not, hb, inR]; omega
        · simp [AllP.cat, AllP]
        · refine ⟨by omega, fun j hj => ?_⟩
          rcases Nat.lt_succ_iff_lt_or_eq.1 hj with hj | rfl
          · exact hall j hj
          · rw [hb]; simp only [letterB, Bool.and_eq_true, decide_eq_true_eq]; omega
        · omega
  · refine AK.run2 foll tok COK.nil [(7, false)] 100 rfl (by simp [AllP]; omega) (AK.leave rfl rfl ?_)
    refine AK.run2 foll tok COK.nil [] 100 rfl trivial (AK.ret0 rfl ?_)
    rw [AllP, letters_true (fun j hj => hall j (by omega))]
end R1
end Go.AM

namespace Go.AM

theorem Ev.args {P : Program} {X : Cx P} {f : FuncId} {args args' : List D} {σ σ' : List Box} {res : D} (h : Ev X f args' σ res σ') (hl : ∀ s vs, RdDs σ s vs args → RdDs σ s vs args') : Ev X f args σ res σ' :=
  ⟨h.1, fun s vs hr hh => h.2 s vs (hl s vs hr) hh⟩

/-- A slice as an argument: elements of k cells. -/
def slArg (k0 : Nat) : D → Option (Nat × (Nat → List C))
  | .e (.one (.c (.sl _ k n es))) => match Nat.beq k k0 with
    | true => some (n, es)
    | false => match Nat.beq n 0 with
      | true => some (0, fun _ => [])
      | false => none
  | _ => none

theorem slArg_ok {k0 : Nat} {d : D} {n : Nat} {es : Nat → List C} (h : slArg k0 d = some (n, es)) {σ : List Box} {s : St} {v : Value} (r : RdD σ s v d) : Rd s.M v (.sl false k0 n es) := by
  unfold slArg at h
  split at h
  · rename_i t k n' es'
    split at h
    · rename_i hk
      have e := Nat.eq_of_beq_eq_true hk
      subst e
      cases h
      exact (rdC r).loose
    · split at h
      · rename_i hn
        have e := Nat.eq_of_beq_eq_true hn
        subst e
        cases h
        have r' := rdC r
        cases r' with
        | sl b off f hcap hb ht hk ha hm hr => exact Rd.sl b off f hcap hb (by simp) (by omega) (by omega) (by omega) (by omega)
      · cases h
  · cases h

def slF {α : Type} (enc : α → List C) (dflt : α) (l : List α) : Nat → List C := fun i => enc (l.getD i dflt)

/-- A list of a program's things: how they lie in cells. -/
structure Cod (α : Type) where
  k : Nat
  enc : α → List C
  dec : List C → α
  dflt : α
  inv : ∀ a, dec (enc a) = a
  len : ∀ a, (enc a).length = k

namespace Cod
variable {α : Type} (c : Cod α)

def list (n : Nat) (es : Nat → List C) : List α := (List.range n).map fun i => c.dec (es i)
def fn (l : List α) : Nat → List C := slF c.enc c.dflt l
def fits (n : Nat) (es : Nat → List C) : Prop := ∀ i, i < n → es i = c.enc (c.dec (es i))
/-- The list as a slice. -/
def sl (l : List α) : D := .e (.one (.c (.sl false c.k l.length (c.fn l))))

theorem list_length {n : Nat} {es : Nat → List C} : (c.list n es).length = n := by simp [list]

theorem list_fn (l : List α) : c.list l.length (c.fn l) = l := by
  apply List.ext_getElem
  · simp [list]
  · intro i h1 h2
    simp [list, fn, slF, List.getD_eq_getElem?_getD, List.getElem?_eq_getElem h2, c.inv]

theorem fits_fn (l : List α) {n : Nat} : c.fits n (c.fn l) := fun i _ => by simp [fn, slF, c.inv]

theorem fits_eq {n : Nat} {es : Nat → List C} (h : c.fits n es) : EqF n es (c.fn (c.list n es)) := by
  intro i hi
  rw [h i hi]
  simp [fn, slF, list, List.getD_eq_getElem?_getD, hi]

theorem arg_ok {d : D} {n : Nat} {es : Nat → List C} (h : slArg c.k d = some (n, es)) (hf : c.fits n es) {σ : List Box} {s : St} {v : Value} (r : RdD σ s v d) : RdD σ s v (c.sl (c.list n es)) := by
  have h1 := slArg_ok h r
  have h2 := h1.reF (c.fits_eq hf)
  show Rd s.M v (.sl false c.k (c.list n es).length _)
  rw [c.list_length]
  exact h2

end Cod

def byteI (s : Bs) (i : Nat) : Int := (s.getD i 0).toNat
theorem byteAt_eq (s : Bs) (j : Int) : ((byteAt s j).toNat : Int) = byteI s j.toNat := rfl

abbrev FileT := Bs × Bs
def strAt (cs : List C) (j : Nat) : Bs := match getX j cs with | some (.str s) => s | _ => []
def intAt (cs : List C) (j : Nat) : Int := match getX j cs with | some (.int _ s) => s | _ => 0
def cF : Cod FileT := { k := 2, enc := fun f => [.str f.1, .str f.2], dec := fun cs => (strAt cs 0, strAt cs 1), dflt := ([], []), inv := fun _ => rfl, len := fun _ => rfl }

namespace R1
open Go.Proofs
variable {X : Cx Try.prog}

def c39 : CtF := fun args σ => match args, σ with
  | [.e (.one (.c (.int .u8 b)))], [] => some (dB (nameB b), [], [])
  | _, _ => none
theorem t39 : EvT X 39 c39 := by
  intro args σ res σ' obs h _
  unfold c39 at h
  split at h
  · cases h; exact ev_name _
  · cases h
def c66 : CtF := fun args σ => match args, σ with
  | [.e (.one (.c (.str b)))], [] => some (dB (letters b), [], [])
  | _, _ => none
theorem t66 : EvT X 66 c66 := by
  intro args σ res σ' obs h _
  unfold c66 at h
  split at h
  · cases h; exact ev_letters _
  · cases h
def ct1 : List (Nat × CtF) := [(39, c39), (66, c66)]
theorem cok1 : COK X ct1 := COK.cons t39 (COK.cons t66 COK.nil)

def pathOk (s : Bs) : Bool := if s.length = 1 then nameB (byteI s 0) else if s.length = 3 then nameB (byteI s 0) && (byteI s 1 == 47) && nameB (byteI s 2) else false

theorem ev_pathOk (s : Bs) : Ev X 13 [dS s] [] (dB (pathOk s)) [] := by
  refine Ev.body Try.func13 rfl rfl rfl fun hf => ?_
  by_cases h1 : s.length = 1
  · refine AK.run2 foll tok cok1 [(6, true)] 100 rfl ?_ (AK.ret0 rfl ?_)
    · simp [AllP, h1]
    · simp [AllP, pathOk, h1, byteAt_eq]
  · by_cases h3 : s.length = 3
    · by_cases h4 : nameB (byteI s 0) = true
      · by_cases h5 : byteI s 1 = 47
        · refine AK.run2 foll tok cok1 [(6, false), (11, true), (14, true), (18, true)] 100 rfl ?_ (AK.ret0 rfl ?_)
          · simp [AllP, h3, byteAt_eq, h4, h5]
          · simp [AllP, pathOk, h3, h4, h5, byteAt_eq]
        · refine AK.run2 foll tok cok1 [(6, false), (11, true), (14, true), (18, false)] 100 rfl ?_ (AK.ret0 rfl ?_)
          · simp [AllP, h3, byteAt_eq, h4, h5]
          · simp [AllP, pathOk, h3, h4, h5]
      · refine AK.run2 foll tok cok1 [(6, false), (11, true), (14, false)] 100 rfl ?_ (AK.ret0 rfl ?_)
        · simp [AllP, h3, byteAt_eq, h4]
        · simp [AllP, pathOk, h3, h4]
    · refine AK.run2 foll tok cok1 [(6, false), (11, false)] 100 rfl ?_ (AK.ret0 rfl ?_)
      · simp [AllP]; omega
      · simp [AllP, pathOk, h1, h3]

def textOk (s : Bs) : Bool := decide (s.length ≤ 40) && letters s

theorem ev_textOk (s : Bs) : Ev X 37 [dS s] [] (dB (textOk s)) [] := by
  refine Ev.body Try.func37 rfl rfl rfl fun hf => ?_
  by_cases h1 : s.length ≤ 40
  · refine AK.run2 foll tok cok1 [(5, true)] 100 rfl ?_ (AK.ret0 rfl ?_)
    · simp [AllP]; omega
    · simp [AllP, textOk, h1]
  · refine AK.run2 foll tok cok1 [(5, false)] 100 rfl ?_ (AK.ret0 rfl ?_)
    · simp [AllP]; omega
    · simp [AllP, textOk, h1]

def clash (a b : Bs) : Bool := (a.length != b.length) && (byteI a 0 == byteI b 0)

theorem ev_clash (a b : Bs) (ha : a ≠ []) (hb : b ≠ []) : Ev X 38 [dS a, dS b] [] (dB (clash a b)) [] := by
  have ha' := List.length_pos_iff.2 ha
  have hb' := List.length_pos_iff.2 hb
  refine Ev.body Try.func38 rfl rfl rfl fun hf => ?_
  by_cases h1 : a.length = b.length
  · refine AK.run2 foll tok COK.nil [(9, false)] 100 rfl ?_ (AK.ret0 rfl ?_)
    · simp [AllP, h1]
    · simp [AllP, clash, h1]
  · refine AK.run2 foll tok COK.nil [(9, true)] 100 rfl ?_ (AK.ret0 rfl ?_)
    · simp [AllP, ha', hb']; omega
    · simp [AllP, clash, h1, byteAt_eq]
end R1
end Go.AM

namespace Go.AM.R1
open Go.Proofs
variable {X : Cx Try.prog}

def c13 : CtF := fun args σ => match args, σ with
  | [.e (.one (.c (.str b)))], [] => some (dB (pathOk b), [], [])
  | _, _ => none
theorem t13 : EvT X 13 c13 := by
  intro args σ res σ' obs h _
  unfold c13 at h
  split at h
  · cases h; exact ev_pathOk _
  · cases h
def c37 : CtF := fun args σ => match args, σ with
  | [.e (.one (.c (.str b)))], [] => some (dB (textOk b), [], [])
  | _, _ => none
theorem t37 : EvT X 37 c37 := by
  intro args σ res σ' obs h _
  unfold c37 at h
  split at h
  · cases h; exact ev_textOk _
  · cases h
def c38 : CtF := fun args σ => match args, σ with
  | [.e (.one (.c (.str a))), .e (.one (.c (.str b)))], [] => some (dB (clash a b), [], [a ≠ [], b ≠ []])
  | _, _ => none
theorem t38 : EvT X 38 c38 := by
  intro args σ res σ' obs h ho
  unfold c38 at h
  split at h
  · cases h; exact ev_clash _ _ ho.1 ho.2
  · cases h
def ct2 : List (Nat × CtF) := (13, c13) :: (37, c37) :: (38, c38) :: ct1
theorem cok2 : COK X ct2 := COK.cons t13 (COK.cons t37 (COK.cons t38 cok1))

def pth (t : List FileT) (i : Nat) : Bs := (t.getD i ([], [])).1
def txt (t : List FileT) (i : Nat) : Bs := (t.getD i ([], [])).2
theorem pth_eq (t : List FileT) (i : Nat) : (t.getD i cF.dflt).1 = pth t i := rfl
theorem txt_eq (t : List FileT) (i : Nat) : (t.getD i cF.dflt).2 = txt t i := rfl

def stepOk (t : List FileT) (i : Nat) : Bool := pathOk (pth t i) && textOk (txt t i) && (i == 0 || Op.bytesLess (pth t (i - 1)) (pth t i)) && (List.range i).all fun j => !clash (pth t j) (pth t i)
def treeOk (t : List FileT) : Bool := (List.range t.length).all (stepOk t) && decide (t.length ≤ 6)

theorem all_range {n : Nat} {p : Nat → Bool} : (List.range n).all p = true ↔ ∀ i, i < n → p i = true := by simp [List.all_eq_true]

theorem pathOk_ne {s : Bs} (h : pathOk s = true) : s ≠ [] := by rintro rfl; simp [pathOk] at h

theorem treeOk_false {t : List FileT} {i : Nat} (hi : i < t.length) (h : stepOk t i = false) : treeOk t = false := by
  cases hb : treeOk t with
  | false => rfl
  | true =>
    simp only [treeOk, Bool.and_eq_true] at hb
    rw [all_range.1 hb.1 i hi] at h; cases h

theorem ev_treeOk (t : List FileT) : Ev X 12 [cF.sl t] [] (dB (treeOk t)) [] := by
  refine Ev.body Try.func12 rfl rfl rfl fun hf => ?_
  have hlen := hf.sl 0 rfl
  refine AK.run2 foll tok cok2 [] 100 rfl trivial ?_
  refine AK.loopE (fun i => i ≤ t.length ∧ ∀ j, j < i → stepOk t j = true) (fun i : Nat => [(0, cF.sl t), (3, dI i)]) (fun _ => []) (fun i => t.length - i) 0 rfl (by simp [AllP.cat, AllP, EqF]) ⟨by omega, by omega⟩ rfl ?_
  rintro i ⟨hi, hall⟩
  by_cases h : i < t.length
  · by_cases h1 : pathOk (pth t i) = true
    · by_cases h2 : textOk (txt t i) = true
      · by_cases h0 : i = 0 ∨ Op.bytesLess (pth t (i - 1)) (pth t i) = true
        · apply AK.join [(0, cF.sl t), (3, dI i), (4, dI 0)] []
          · intro hk
            by_cases h00 : i = 0
            · refine AK.run2 foll tok cok2 [(8, true), (16, true), (24, true), (29, false)] 100 rfl ?_ (hk _ _ rfl ?_)
              · simp [-List.getD_eq_getElem?_getD, AllP, h, pth_eq, txt_eq, h1, h2]; omega
              · simp [AllP.cat, AllP, EqF]
            · have h3 := h0.resolve_left h00
              have hin : inR .i64 ((i : Int) - 1) := by simp only [inR]; omega
              have e1 : ((i : Int) - 1).toNat = i - 1 := by omega
              refine AK.run2 foll tok cok2 [(8, true), (16, true), (24, true), (29, true), (42, false)] 100 rfl ?_ (hk _ _ rfl ?_)
              · simp [-List.getD_eq_getElem?_getD, AllP, h, pth_eq, txt_eq, h1, h2, h3, hin, e1]; omega
              · simp [AllP.cat, AllP, EqF]
          · -- the inner loop
            have hpre : stepOk t i = (List.range i).all (fun j => !clash (pth t j) (pth t i)) := by
              rcases h0 with rfl | h3
              · simp [stepOk, h1, h2]
              · simp [stepOk, h1, h2, h3]
            refine AK.loopE (fun j => j ≤ i ∧ ∀ j', j' < j → clash (pth t j') (pth t i) = false) (fun j : Nat => [(0, cF.sl t), (3, dI i), (4, dI j)]) (fun _ => []) (fun j => i - j) 0 rfl (by simp [AllP.cat, AllP, EqF]) ⟨by omega, by omega⟩ rfl ?_
            rintro j ⟨hj, hno⟩
            by_cases hji : j < i
            · have hpj : pathOk (pth t j) = true := by
                have := hall j hji
                simp only [stepOk, Bool.and_eq_true] at this
                exact this.1.1.1
              cases hc : clash (pth t j) (pth t i) with
              | true =>
                refine AK.run2 foll tok cok2 [(47, true), (60, true)] 100 rfl ?_ (AK.retIn (AK.toRet (RetQ.zero rfl ?_)))
                · simp [-List.getD_eq_getElem?_getD, AllP, h, hji, pth_eq, hc, pathOk_ne h1, pathOk_ne hpj]; omega
                · have : stepOk t i = false := by
                    rw [hpre]
                    cases hb : (List.range i).all (fun j => !clash (pth t j) (pth t i)) with
                    | false => rfl
                    | true => have := all_range.1 hb j hji; simp [hc] at this
                  simp [AllP, treeOk_false h this]
              | false =>
                refine AK.run2 foll tok cok2 [(47, true), (60, false)] 100 rfl ?_ (AK.again (j + 1) rfl ?_ ?_ ?_ rfl)
                · simp [-List.getD_eq_getElem?_getD, AllP, h, hji, pth_eq, hc, pathOk_ne h1, pathOk_ne hpj, inR]; omega
                · simp [AllP.cat, AllP, EqF]
                · refine ⟨by omega, fun j' hj' => ?_⟩
                  rcases Nat.lt_succ_iff_lt_or_eq.1 hj' with hj' | rfl
                  · exact hno j' hj'
                  · exact hc
                · omega
            · have hji : j = i := by omega
              subst hji
              refine AK.run2 foll tok cok2 [(47, false)] 100 rfl (by simp [AllP]) (AK.leave rfl rfl ?_)
              refine AK.run2 foll tok cok2 [] 100 rfl ?_ (AK.again (j + 1) rfl ?_ ?_ ?_ rfl)
              · simp [AllP, inR]; omega
              · simp [AllP.cat, AllP, EqF]
              · refine ⟨by omega, fun j' hj' => ?_⟩
                rcases Nat.lt_succ_iff_lt_or_eq.1 hj' with hj' | rfl
                · exact hall j' hj'
                · rw [hpre, all_range]
                  intro k hk
                  simp [hno k hk]
              · omega
        · have h00 : i ≠ 0 := fun e => h0 (.inl e)
          have h3 : Op.bytesLess (pth t (i - 1)) (pth t i) = false := by simpa using fun e => h0 (.inr e)
          have hin : inR .i64 ((i : Int) - 1) := by simp only [inR]; omega
          have e1 : ((i : Int) - 1).toNat = i - 1 := by omega
          refine AK.run2 foll tok cok2 [(8, true), (16, true), (24, true), (29, true), (42, true)] 100 rfl ?_ (AK.retIn (RetQ.zero rfl ?_))
          · simp [-List.getD_eq_getElem?_getD, AllP, h, pth_eq, txt_eq, h1, h2, h3, hin, e1]; omega
          · simp [AllP, treeOk_false h (by simp [stepOk, h00, h3])]
      · refine AK.run2 foll tok cok2 [(8, true), (16, true), (24, false)] 100 rfl ?_ (AK.retIn (RetQ.zero rfl ?_))
        · simp [-List.getD_eq_getElem?_getD, AllP, h, pth_eq, txt_eq, h1, h2]
        · simp [AllP, treeOk_false h (by simp [stepOk, h2])]
    · refine AK.run2 foll tok cok2 [(8, true), (16, false)] 100 rfl ?_ (AK.retIn (RetQ.zero rfl ?_))
      · simp [-List.getD_eq_getElem?_getD, AllP, h, pth_eq, h1]
      · simp [AllP, treeOk_false h (by simp [stepOk, h1])]
  · refine AK.run2 foll tok cok2 [(8, false)] 100 rfl (by simp [AllP]; omega) (AK.leave rfl rfl ?_)
    refine AK.run2 foll tok cok2 [] 100 rfl trivial (AK.ret0 rfl ?_)
    simp only [AllP, treeOk]
    rw [all_range.2 (fun j hj => hall j (by omega))]
    simp; omega
end Go.AM.R1

/- Rules for use: boxes laid otherwise, slices taken over, boxes given up. -/
namespace Go.AM
open Go.Conc (G)

/-- What holds over the boxes σ holds over σ'. -/
def BsLe (σ σ' : List Box) : Prop := ∀ (s : St), HeapOK σ s → HeapOK σ' s ∧ Step σ s σ' s ∧ ∀ (v : Value) (d : D), RdD σ s v d → RdD σ' s v d

theorem BsLe.refl (σ : List Box) : BsLe σ σ := fun _ h => ⟨h, .refl _ _, fun _ _ r => r⟩

def leB : Box → Box → Option (List Prop)
  | .vec E k n es, .vec E' k' n' es' => match Nat.beq E E', Nat.beq k k' with
    | true, true => some [n = n', EqF n es es']
    | _, _ => none
  | .cells E cs, .cells E' cs' => match Nat.beq E E' with
    | true => leL cs cs'
    | false => none
  | .dead, .dead => some []
  | .opq H, .opq H' => some [H = H']
  | .loop N φ r, .loop N' φ' r' => some [Box.loop N φ r = Box.loop N' φ' r']
  | .dfr, .dfr => some []
  | _, _ => none

def leBs : List Box → List Box → Option (List Prop)
  | [], [] => some []
  | a :: r, b :: q => match leB a b with
    | some p => match leBs r q with
      | some ps => some (catP p ps)
      | none => none
    | none => none
  | _, _ => none

/-- Box by box. -/
def BxLe (B B' : Box) : Prop :=
  (∀ E k n es, B = .vec E k n es → ∃ es', B' = .vec E k n es' ∧ EqF n es es') ∧ ((∀ E k n es, B ≠ .vec E k n es) → (∀ E k n es, B' ≠ .vec E k n es) ∧ (B = B' ∨ ∃ E cs cs', B = .cells E cs ∧ B' = .cells E cs' ∧ ∀ σ s vs, RdL σ s vs cs → RdL σ s vs cs'))

theorem leB_ok {B B' : Box} {ps : List Prop} (h : leB B B' = some ps) (hp : AllP ps) : BxLe B B' := by
  unfold leB at h
  split at h
  · rename_i E k n es E' k' n' es'
    split at h
    · rename_i h1 h2
      cases h
      have e1 := Nat.eq_of_beq_eq_true h1
      have e2 := Nat.eq_of_beq_eq_true h2
      obtain ⟨e3, e4⟩ : n = n' ∧ EqF n es es' := hp
      subst e1 e2 e3
      refine ⟨fun E0 k0 n0 es0 he => ?_, fun hn => absurd rfl (hn _ _ _ _)⟩
      cases he
      exact ⟨es', rfl, e4⟩
    · cases h
  · rename_i E cs E' cs'
    split at h
    · rename_i h1
      have e1 := Nat.eq_of_beq_eq_true h1
      subst e1
      exact ⟨fun _ _ _ _ he => (by cases he), fun _ => ⟨fun _ _ _ _ he => (by cases he), .inr ⟨E, cs, cs', rfl, rfl, fun σ s vs r => leL_ok h hp r⟩⟩⟩
    · cases h
  · exact ⟨fun _ _ _ _ he => (by cases he), fun _ => ⟨fun _ _ _ _ he => (by cases he), .inl rfl⟩⟩
  · cases h
    rename_i H H'
    have e : H = H' := hp
    subst e
    exact ⟨fun _ _ _ _ he => (by cases he), fun _ => ⟨fun _ _ _ _ he => (by cases he), .inl rfl⟩⟩
  · cases h
    rename_i N φ r N' φ' r'
    have e : Box.loop N φ r = Box.loop N' φ' r' := hp
    exact ⟨fun _ _ _ _ he => (by cases he), fun _ => ⟨fun _ _ _ _ he => (by cases he), .inl e⟩⟩
  · exact ⟨fun _ _ _ _ he => (by cases he), fun _ => ⟨fun _ _ _ _ he => (by cases he), .inl rfl⟩⟩
  · cases h

theorem leBs_get : ∀ {σ σ' : List Box} {ps : List Prop}, leBs σ σ' = some ps → AllP ps → σ'.length = σ.length ∧ ∀ (l : Nat) (B B' : Box), σ[l]? = some B → σ'[l]? = some B' → BxLe B B'
  | [], [], _, _, _ => ⟨rfl, fun l B B' h => by simp at h⟩
  | [], _ :: _, _, h, _ => by cases h
  | _ :: _, [], _, h, _ => by cases h
  | a :: r, b :: q, ps, h, hp => by
    simp only [leBs] at h
    split at h
    · rename_i p h1
      split at h
      · rename_i p2 h2
        cases h
        rw [AllP.cat] at hp
        obtain ⟨e1, e2⟩ := leBs_get h2 hp.2
        refine ⟨by simp [e1], fun l B B' hB hB' => ?_⟩
        cases l with
        | zero => simp at hB hB'; subst hB hB'; exact leB_ok h1 hp.1
        | succ l => exact e2 l B B' (by simpa using hB) (by simpa using hB')
      · cases h
    · cases h

theorem leBs_ok {σ σ' : List Box} {ps : List Prop} (h : leBs σ σ' = some ps) (hp : AllP ps) : BsLe σ σ' := by
  obtain ⟨hl, hg⟩ := leBs_get h hp
  intro s hh
  have get' : ∀ (l : Nat) (B : Box), σ[l]? = some B → ∃ B', σ'[l]? = some B' ∧ BxLe B B' := by
    intro l B hB
    have hlt : l < σ'.length := by rw [hl]; exact (List.getElem?_eq_some_iff.1 hB).1
    exact ⟨σ'[l], List.getElem?_eq_getElem hlt, hg l B _ hB (List.getElem?_eq_getElem hlt)⟩
  have get : ∀ (l : Nat) (B' : Box), σ'[l]? = some B' → ∃ B, σ[l]? = some B ∧ BxLe B B' := by
    intro l B' hB
    have hlt : l < σ.length := by rw [← hl]; exact (List.getElem?_eq_some_iff.1 hB).1
    exact ⟨σ[l], List.getElem?_eq_getElem hlt, hg l _ B' (List.getElem?_eq_getElem hlt) hB⟩
  have notvec : ∀ (l : Nat), (∀ E k n es, σ[l]? ≠ some (Box.vec E k n es)) → ∀ E k n es, σ'[l]? ≠ some (Box.vec E k n es) := by
    intro l hn E k n es he
    obtain ⟨B, hB, hx⟩ := get l _ he
    exact (hx.2 (fun E k n es e => hn E k n es (by rw [hB, e]))).1 E k n es rfl
  have isvec : ∀ (l : Nat) E k n es, σ'[l]? = some (Box.vec E k n es) → ∃ es', σ[l]? = some (Box.vec E k n es') := by
    intro l E k n es he
    obtain ⟨B, hB, hx⟩ := get l _ he
    by_cases hv : ∃ E k n es, B = Box.vec E k n es
    · obtain ⟨E1, k1, n1, es1, rfl⟩ := hv
      obtain ⟨es', h1, _⟩ := hx.1 _ _ _ _ rfl
      cases h1
      exact ⟨es1, hB⟩
    · exact absurd rfl ((hx.2 (fun E k n es e => hv ⟨E, k, n, es, e⟩)).1 E k n es)
  have rdA : ∀ (v : Value) (a : A), RdA σ s v a → RdA σ' s v a := by
    intro v a r
    cases a with
    | c x => exact r
    | ptr l o => exact ⟨notvec l r.1, r.2⟩
    | vec l k n es =>
      refine ⟨r.1, by rw [hl]; exact r.2.1, fun E k' n' es' he => ?_⟩
      obtain ⟨es2, h2⟩ := isvec l E k' n' es' he
      exact r.2.2 E k' n' es2 h2
    | ref l => exact ⟨notvec l r.1, r.2⟩
    | any => exact r
  have rdL : ∀ (vs : List Value) (cs : List A), RdL σ s vs cs → RdL σ' s vs cs := by
    intro vs
    induction vs with
    | nil => intro cs r; cases cs with | nil => trivial | cons _ _ => exact r.elim
    | cons v vs ih => intro cs r; cases cs with | nil => exact r.elim | cons c cs => exact ⟨rdA _ _ r.1, ih _ r.2⟩
  have rdE : ∀ (v : Value) (e : E1), RdE σ s v e → RdE σ' s v e := by
    intro v e r
    cases e with
    | one a => exact rdA _ _ r
    | agg cs => obtain ⟨vs, h1, h2⟩ := r; exact ⟨vs, h1, rdL _ _ h2⟩
  have rdEs : ∀ (vs : List Value) (cs : List E1), RdEs σ s vs cs → RdEs σ' s vs cs := by
    intro vs
    induction vs with
    | nil => intro cs r; cases cs with | nil => trivial | cons _ _ => exact r.elim
    | cons v vs ih => intro cs r; cases cs with | nil => exact r.elim | cons c cs => exact ⟨rdE _ _ r.1, ih _ r.2⟩
  have rdD : ∀ (v : Value) (d : D), RdD σ s v d → RdD σ' s v d := by
    intro v d r
    cases d with
    | e x => exact rdE _ _ r
    | tup xs => obtain ⟨vs, h1, h2⟩ := r; exact ⟨vs, h1, rdEs _ _ h2⟩
    | any => trivial
  refine ⟨⟨hh.mem, by rw [hh.len, hl], ?_, hh.disj, hh.lt, hh.own⟩, ⟨Nat.le_refl _, fun _ _ _ => rfl, fun _ _ _ h => h, fun _ _ _ _ => rfl, fun L h b hb => .inr ⟨L, h, hb⟩, ?_, rfl, rfl, rfl, rfl⟩, rdD⟩
  · intro l B' L hB' hL
    obtain ⟨B, hB, hx⟩ := get l B' hB'
    have hb := hh.box l B L hB hL
    by_cases hv : ∃ E k n es, B = Box.vec E k n es
    · obtain ⟨E, k, n, es, rfl⟩ := hv
      obtain ⟨es', rfl, he⟩ := hx.1 _ _ _ _ rfl
      refine ⟨hb.1.reF he, ?_⟩
      rcases hb.2 with ⟨h1, h2⟩ | h1
      · exact .inl ⟨h1, h2.reF he⟩
      · exact .inr h1
    · rcases (hx.2 (fun E k n es e => hv ⟨E, k, n, es, e⟩)).2 with rfl | ⟨E, cs, cs', rfl, rfl, hc⟩
      · cases B with
        | cells E cs => obtain ⟨b, vs, h1, h2, h3, h4⟩ := hb; exact ⟨b, vs, h1, h2, rdL _ _ h3, h4⟩
        | vec E k n es => exact absurd ⟨E, k, n, es, rfl⟩ hv
        | opq H => exact hb
        | dead => trivial
        | loop N φ r => obtain ⟨l, tmps, fn, df, h1, h2, h3, h4, h5⟩ := hb; exact ⟨l, tmps, fn, df, h1, h2, h3, fun t => rdD _ _ (h4 t), h5⟩
        | dfr => exact hb
      · obtain ⟨b, vs, h1, h2, h3, h4⟩ := hb
        exact ⟨b, vs, h1, h2, rdL _ _ (hc _ _ _ h3), h4⟩
  · intro l B L hB hL
    obtain ⟨B', hB', hx⟩ := get' l B hB
    refine ⟨B', L, hB', hL, ?_⟩
    by_cases hv : ∃ E k n es, B = Box.vec E k n es
    · obtain ⟨E, k, n, es, rfl⟩ := hv
      obtain ⟨es', rfl, he⟩ := hx.1 _ _ _ _ rfl
      exact ⟨fun _ => rfl, Nat.le_refl _⟩
    · rcases (hx.2 (fun E k n es e => hv ⟨E, k, n, es, e⟩)).2 with rfl | ⟨E, cs, cs', rfl, rfl, hc⟩
      · exact BoxLe.refl _ _
      · exact rfl

section
variable {P : Program} {X : Cx P} {N : Nat} {Qf : Post} {K : List It} {φ : Fr} {σ : List Box} {c : Code}

/-- What the program does not do: the same world, said otherwise. -/
theorem AW.ghost {Q : Post} {φ' : Fr} {σ' : List Box} (h : ∀ s a, FrOK N σ s φ a → HeapOK σ s → ∃ s' : St, s'.w = s.w ∧ FrOK N σ' s' φ' a ∧ HeapOK σ' s' ∧ Step σ s σ' s') (k : AW X N c Q φ' σ') : AW X N c Q φ σ := by
  intro s a hf hh b kk cs S hb hQ
  obtain ⟨s', hw, hf', hh', st⟩ := h s a hf hh
  have stW := st.toW hh
  refine .ghost (.of hh hh' hw stW) ?_
  exact k s' a hf' hh' b kk cs S hb fun e φ2 σ2 s2 a2 q f2 h2 st2 => hQ e φ2 σ2 s2 a2 q f2 h2 (stW.trans st2)

theorem AK.ghost {φ' : Fr} {σ' : List Box} (h : ∀ s a, FrOK N σ s φ a → HeapOK σ s → ∃ s' : St, s'.w = s.w ∧ FrOK N σ' s' φ' a ∧ HeapOK σ' s' ∧ Step σ s σ' s') (k : AK X N Qf (.code c :: K) .normal φ' σ') : AK X N Qf (.code c :: K) .normal φ σ :=
  AW.ghost h k

theorem FrOK.bs {σ' : List Box} {s : St} {a : Act} (hb : BsLe σ σ') (f : FrOK N σ s φ a) (hh : HeapOK σ s) : FrOK N σ' s φ a := ⟨f.size, f.defers.imp fun _ h1 => h1.mono (hb s hh).2.1.ext, fun t => (hb s hh).2.2 _ _ (f.slot t)⟩

theorem AK.norm (σ' : List Box) {ps : List Prop} (h : leBs σ σ' = some ps) (hp : AllP ps) (k : AK X N Qf (.code c :: K) .normal φ σ') : AK X N Qf (.code c :: K) .normal φ σ :=
  AK.ghost (fun s a hf hh => ⟨s, rfl, hf.bs (leBs_ok h hp) hh, (leBs_ok h hp s hh).1, (leBs_ok h hp s hh).2.1⟩) k

/-- An empty slice, or one without spare cells, is taken for the function's own. -/
theorem AK.adopt (t : Nat) (E : TypeId) (k : Nat) {k' n : Nat} {es : Nat → List C} (ht : look φ t = .e (.one (.c (.sl true k' n es)))) (hn : n = 0)
    (kk : AK X N Qf (.code c :: K) .normal ((t, .e (.one (.vec σ.length k n es))) :: φ) (σ ++ [.vec E k n es])) : AK X N Qf (.code c :: K) .normal φ σ := by
  refine AK.ghost (fun s a hf hh => ?_) kk
  have hs := hf.slot t
  rw [ht] at hs
  have h1 := Rd.tightTo (k := k') (k' := k) (.inr hn) (rdC hs)
  have hB : BoxOK (σ ++ [.vec E k n es]) { s with β := s.β ++ [⟨a.tmps.getD t undef, []⟩] } (.vec E k n es) ⟨a.tmps.getD t undef, []⟩ := ⟨h1.loose, .inl ⟨⟨rfl, hn⟩, h1⟩⟩
  obtain ⟨g1, g2⟩ := hh.addBox (.refl _ _) rfl hh hB (by simp)
  refine ⟨{ s with β := s.β ++ [⟨a.tmps.getD t undef, []⟩] }, rfl, ⟨hf.size, hf.defers.imp fun _ h1 => h1.mono g2.ext, fun u => ?_⟩, g1, g2⟩
  simp only [look]
  cases hb : Nat.beq t u with
  | false => exact (hf.slot u).mono g2.ext hh.len
  | true =>
    have e := Nat.eq_of_beq_eq_true hb
    subst e
    exact rdA_vec (L := ⟨a.tmps.getD t undef, []⟩) (by simp) (by simp [← hh.len]) hB

/-- A loop. -/
theorem AK.loopB {S : Type} (I : S → Prop) (fr : S → Fr) (st : S → List Box) (μ : S → Nat) (x : S) {ps qs : List Prop} (hle : leFr φ (fr x) = some ps) (hp : AllP ps) (hbs : leBs σ (st x) = some qs) (hq : AllP qs) (h0 : I x)
    (round : ∀ x, I x → AK X N (fun e φ' σ' => match e with
      | .normal => ∃ y, I y ∧ μ y < μ x ∧ FrLe φ' (fr y) ∧ BsLe σ' (st y)
      | e => AK X N Qf K e φ' σ') [.code c] .normal (fr x) (st x)) : AK X N Qf (.code (.loop c) :: K) .normal φ σ := by
  intro s a hf hh b kk cs SS hb hQ
  have hb0 := leBs_ok hbs hq
  obtain ⟨hh0, st0, _⟩ := hb0 s hh
  refine arr_loop (fun n a' s' => ∃ y, I y ∧ FrOK N (st y) s' (fr y) a' ∧ HeapOK (st y) s' ∧ StepW σ s (st y) s' ∧ μ y = n) ?_ ?_ ⟨x, h0, (hf.le (leFr_ok hle hp)).bs hb0 hh, hh0, st0.toW hh, rfl⟩
  · rintro n a' s' ⟨y, hI, f', h', stp, e⟩
    exact ⟨st y, h', fun s1 h1 => ⟨y, hI, f'.rely h1 h', h'.rely h1, stp.trans h1.stepW, e⟩⟩
  rintro n a' s' ⟨y, hI, f', h', stp, rfl⟩ ih
  refine round y hI s' a' f' h' b (.inLoop c :: kk) cs SS hb ?_
  intro e φ2 σ2 s2 a2 q f2 h2 st2
  cases e with
  | normal =>
    obtain ⟨z, hz, hlt, hle2, hbz⟩ := q
    obtain ⟨hh3, st3, _⟩ := hbz s2 h2
    exact ih a2 s2 (μ z) hlt ⟨z, hz, (f2.le hle2).bs hbz h2, hh3, stp.trans (st2.trans (st3.toW h2)), rfl⟩
  | _ => exact ends.cons (fun _ _ => rfl) (by simp) (hQ _ _ _ _ _ q f2 h2 (stp.trans st2))

/-- The end of a round. -/
theorem AK.againB {S : Type} {I : S → Prop} {fr : S → Fr} {st : S → List Box} {μ : S → Nat} {x : S} {Qr : Post} (y : S) {ps qs : List Prop} (hle : leFr φ (fr y) = some ps) (hp : AllP ps) (hbs : leBs σ (st y) = some qs) (hq : AllP qs) (hI : I y) (hμ : μ y < μ x) :
    AK X N (fun e φ' σ' => match e with
      | .normal => ∃ y, I y ∧ μ y < μ x ∧ FrLe φ' (fr y) ∧ BsLe σ' (st y)
      | e => Qr e φ' σ') [] .normal φ σ := ⟨y, hI, hμ, leFr_ok hle hp, leBs_ok hbs hq⟩

end

/-- What comes back is no longer the callee's own. -/
theorem Ev.forget {P : Program} {X : Cx P} {f : FuncId} {args : List D} {res res' : D} {σ' : List Box} (h : Ev X f args [] res σ') {ps : List Prop} (hle : leD res res' = some ps) (hp : AllP ps) (hin : inD 0 res' = true) : Ev X f args [] res' [] := by
  refine ⟨h.1, fun s vs hr hh S cs hS => h.2 s vs hr hh S cs fun fr v s1 hl hv h1 st => ?_⟩
  have hs : s.β = [] := List.eq_nil_of_length_eq_zero hh.len
  have hG : Ghost s1 { s1 with β := [] } := ⟨rfl, fun _ _ _ h => h, fun _ _ _ => rfl, h1.mem, fun b hb => .inl (by
    rcases hb with hb | ⟨L, hL, _⟩
    · exact hb
    · simp at hL)⟩
  refine .ghost hG (hS fr v { s1 with β := [] } (hl.mono fun _ _ _ h => h) ?_ ⟨h1.mem, rfl, by simp, by simp, by simp, fun b hb => ⟨(h1.own b hb).1, by simp⟩⟩ ⟨st.size, st.keep, st.mem, st.memk, by simp, fun l B L hB => by simp at hB, st.os, st.tape, st.output, st.own⟩)
  · have h2 := leD_ok hle hp hv
    have := RdD.sub (ks := []) (σ := σ') (σ' := []) (s := s1) (β' := []) (d := res') rfl rfl (by rw [renD_nil hin]; exact h2) hin
    exact this

end Go.AM
